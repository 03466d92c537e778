/- Part of the proof of the last text; no conditions -/
import Derived.Test.YtmipngjbcdamjaaGreatDoorYk
set_option maxHeartbeats 8000000
set_option linter.all false
namespace Go.Proofs.YtmipngjbcdamjaaGreatDoor
open Go.Q Go.a6
noncomputable section
def sv(s:aT):q.same 30 (.str s) (.str s)=true:=by simp[q.same,qe]
section
variable{X:bQ}{S B cE ay aM:F ac}{nx nx' aG aL bw:Nat}{bm d0 P:Nat->Prop}{bk:bg->q->Prop}
def ga.snoc{dc:List dL}{rows:List (List q)}(e:ga X S P bk dc rows){J:dL}{row:List q}(d:jK X S P bk J row):ga X S P bk (dc++[J]) (rows++[row]):=by
 refine⟨by simp[e.len],λi p r a K=> ?_⟩
 by_cases ai:i<dc.length
 ·rw[ZA ai]at a
  rw[ZA (by rw[e.len];exact ai)]at K
  exact e.all i p r a K
 ·have c:=(Zf.1 a).1
  simp at c
  have b:i=dc.length:=Zo
  subst b
  rw[Zy (Zp _),YV]at a
  rw[Zy (by rw[e.len];exact Zp _),e.len,YV]at K
  simp at a K
  subst a K
  exact d
def f6.snoc{dc:List Go.a6.Node}{rows:List (List q)}(e:f6 X S P bk dc rows){J:Go.a6.Node}{row:List q}(d:fR X S P bk J row):f6 X S P bk (dc++[J]) (rows++[row]):=by
 refine⟨by simp[e.len],λi p r a K=> ?_⟩
 by_cases ai:i<dc.length
 ·rw[ZA ai]at a
  rw[ZA (by rw[e.len];exact ai)]at K
  exact e.all i p r a K
 ·have c:=(Zf.1 a).1
  simp at c
  have b:i=dc.length:=Zo
  subst b
  rw[Zy (Zp _),YV]at a
  rw[Zy (by rw[e.len];exact Zp _),e.len,YV]at K
  simp at a K
  subst a K
  exact d
def vn.to{bi:Nat->Prop}(k:∀a,P a->H X B a=H X S a)(ap:∀a,P a->bi a){dc:List dL}{rows:List (List q)}(e:ga X S P (bR X S P) dc rows):ga X B bi (bR X B bi) dc rows:=
 ga.to k ap (λJ _ v e=>bR.to k ap _ _ e) e
def vq.to{bi:Nat->Prop}(k:∀a,P a->H X B a=H X S a)(ap:∀a,P a->bi a){T:List Go.a6.Node}{rows:List (List q)}(e:f6 X S P (bR X S P) T rows):f6 X B bi (bR X B bi) T rows:=
 f6.to k ap (λg _ J _ v e=>bR.to k ap _ _ e) e
set_option maxRecDepth 100000 in
def Bt(UG:dV X){T:List Go.a6.Node}{v:q}(VQ:(o X).aN<=nx)(W7:fT X S P T v)(t:∀a,P a->a<nx)(Wr:T.length<=1000)(WT:∀g∈T,g.cj.length<=1000/\g.out.length<=1000/\g.loc.length<=1000/\g.eqs.length<=1000):
 aJ X 6 [v] S nx (λL B nx'=>fT X B (λa=>P a\/(nx<=a/\a<nx')) T L/\aX X S nx B nx') zG:=by
 refine zB UG (Da X) ?_
 rw[Db]
 unfold wu
 obtain⟨b,au,bL,rows,rfl,Y,a0,V4,V3⟩:=W7
 have W8:=t b Y
 have V1:=V4.len
 rw[V3.len]at V1
 refine bB @xF ⟨?_⟩
 generalize Us:aP X S nx _=ay
 have VK:H X ay nx=zy [.aw] 1:=by rw[<-Us,a7 VQ];rfl
 have bc:∀a,a<nx->H X ay a=H X S a:=λa f=>by rw[<-Us,aV VQ Zo]
 clear Us
 refine cM (λm y B ah=>∃(i:Nat) (UO:q) (UB:List (List q)) (aH:List Nat) (U7:F q),y.g 0=some (.ptr b 0)/\y.g 3=some (.ptr nx 0)/\y.g 4=some (.Z (i:Int))/\i+m=T.length/\nx<ah/\H X B nx=some (.cells U7 1 .own)/\U7.get 0=some UO
  /\cT X B UO 6 UB.flatten aH/\(∀a∈aH,nx<a/\a<ah)/\(∀r∈UB,r.length=6)/\f6 X B (λa=>P a\/((nx<a/\a<ah)/\a∉aH)) (bR X B (λa=>P a\/((nx<a/\a<ah)/\a∉aH))) (T.take i) UB/\∀a,a<nx->H X B a=H X S a)
  T.length ⟨0, .aw,[],[],_,aI,aI,cx,Zo,Zo,VK,rfl, .inl (.inl ⟨rfl,rfl,rfl⟩),Zs,Zs,⟨rfl,λi g row e=>by simp at e⟩,bc⟩ ?_
 clear VK bc
 rintro m y aM aL ⟨i,UO,UB,aH,U7,t0,t3,t4,ai,Va,VO,VU,Vm,T7,V5,UI,Ub⟩
 have VJ:W X aM (.ptr b 0)=some au:=zF (Ub b W8) a0
 cases m with
 |zero=>
  have d:=zv i T.length
  rw[Zt Zo]at UI
  refine dp @t4 @t0 @VJ @V1 @d @t3 ⟨?_⟩
  obtain⟨bb,WK⟩:=Vm.gM (P:=λa=>P a\/(nx<=a/\a<aL)) Zd V5 (by rw[UI.len];omega) (λa f=>by have:=T7 a f;exact .inr ⟨Zo,Zo⟩)
  exact⟨⟨nx,UO,bb,UB,rfl, .inr ⟨Zp _,Va⟩,by rw[aZ VO];exact VU,WK,vq.to (λ_ _=>rfl) (λa f=>by rcases f with f|f;exact .inl f;exact .inr ⟨Zo,f.1.2⟩) UI⟩,Zo,Ub⟩
 |succ m=>
  have d:=zw i T.length
  have Vz:=zz i
  obtain⟨g,Uz⟩:=zx T i
  obtain⟨Wm,Wn,z3,z4⟩:=WT g (Zg Uz)
  obtain⟨row,WN,Vd⟩:=V3.get i g Uz
  have WC:=V4.cP i (by rw[V3.len];omega)
  have VY:∀a,P a->H X aM a=H X S a:=λa f=>Ub a (t a f)
  have WP:=(V4.R VY).row Zd WN
  have e2:=Vd.cN
  obtain⟨bx,bz,VF,Uh,b0,bb,b4,c1,X2,rfl,VV,VW,VX,Ua,Uy⟩:=Vd
  refine bo @t4 @t0 @VJ @V1 @d @WC @WP ⟨?_⟩
  refine cz (e8 (k:=6) (b:=aL) (A:=0) (n:=6) (c:=F.ofList [.str [], .Z 0, .aw, .aw, .aw, .aw] 0 .nil) (a7 Zo) Zo rfl Zd Zd e2) ?_
  generalize Ut:aP X _ aL _=UP
  have Uo:H X UP aL=zy [.str g.name, .Z g.at_,bx,bz,VF,Uh] 6:=by rw[<-Ut,a7 Zo];rfl
  have Vp:∀a,a<aL->H X UP a=H X aM a:=λa f=>by rw[<-Ut];exact zA
  clear Ut
  refine bB (aZ Uo) ⟨?_⟩
  generalize Uu:aP X UP (aL+1+14) _=T9
  have VL:H X T9 (aL+1+14)=zy [.str [], .Z 0, .aw, .aw, .aw, .aw] 6:=by rw[<-Uu,a7 Zo];rfl
  have V7:∀a,a<aL+1->H X T9 a=H X UP a:=λa f=>by rw[<-Uu,aV Zo Zo]
  clear Uu
  have UT:∀B,(∀a,a<aL+1->H X B a=H X T9 a)->Go.Q.H X B aL=zy [.str g.name, .Z g.at_,bx,bz,VF,Uh] 6:=λB e=>by rw[e aL Zo,V7 aL Zo];exact Uo
  have Uc:∀B,(∀a,a<aL+1->H X B a=H X T9 a)->∀a,P a->H X B a=H X S a:=λB e a f=>by have:=t a f;rw[e a Zo,V7 a Zo,Vp a Zo,VY a f]
  refine(uB UG (nx:=aL+1+16) (S:=T9) Zo (VV.R (Uc T9 λ_ _=>rfl)) (λa f=>zu (t a f)) Wm).Zm ?_
  rintro O Ui WZ ⟨Wo,Vi,VR,UX⟩
  have Wt:=UX.le
  have UD:=UT Ui λa f=>UX.R a Zo
  have Wz:=fg VV.len
  have Wb:=fg VW.len
  have Vu:=fg VX.len
  have X0:=fg Ua.len
  refine bB (aZ UD) ⟨?_⟩
  refine eV (sv _) ?_
  refine bB (aZ UD) ⟨?_⟩
  refine eV (o1 _ _) ?_
  refine bB (aZ UD) ⟨?_⟩
  refine eV Wb.2.2 ?_
  refine bB (aZ UD) ⟨?_⟩
  refine eV Vu.2.2 ?_
  refine(uB UG (nx:=WZ) (S:=Ui) Zo (VW.R (Uc Ui λa f=>UX.R a Zo)) (λa f=>zu (t a f)) Wn).Zm ?_
  rintro Z UQ Wa ⟨Wp,Vj,VS,Ur⟩
  have Wu:=Ur.le
  have V8:∀a,a<aL+1+16->H X UQ a=H X T9 a:=λa f=>by rw[Ur.R a Zo,UX.R a Zo]
  have UU:=UT UQ λa f=>V8 a Zo
  refine bB (aZ UU) ⟨?_⟩
  refine eV (sv _) ?_
  refine bB (aZ UU) ⟨?_⟩
  refine eV (o1 _ _) ?_
  refine bB (aZ UU) ⟨?_⟩
  refine eV Vu.2.2 ?_
  refine(uB UG (nx:=Wa) (S:=UQ) Zo (VX.R (Uc UQ λa f=>V8 a Zo)) (λa f=>zu (t a f)) z3).Zm ?_
  rintro T0 TZ x ⟨Wq,Vk,VT,UY⟩
  have Wv:=UY.le
  have Ue:∀a,a<aL+1+16->H X TZ a=H X T9 a:=λa f=>by rw[UY.R a Zo,V8 a f]
  have UV:=UT TZ λa f=>Ue a Zo
  have Uk:=cT.same Vi
  have Ul:=cT.same Vj
  have Um:=cT.same Vk
  have W9:cq [.str [], .Z 0, .aw, .aw, .aw, .aw] [(0,1, .str g.name),(1,1, .Z g.at_),(2,1,O),(3,1,Z),(4,1,T0)]=some (.agg [.str g.name, .Z g.at_,O,Z,T0, .aw]):=by
   have cs:(q.str g.name).cells=[.str g.name]:=rfl
   have Un:(q.Z g.at_).cells=[.Z g.at_]:=rfl
   simp[cq,gE,gF,Uk.1,Ul.1,Um.1,cs,Un,e5]
  refine cz W9 ?_
  refine bB (aZ UV) ⟨?_⟩
  refine eV (sv _) ?_
  refine bB (aZ UV) ⟨?_⟩
  refine eV (o1 _ _) ?_
  have VM:H X TZ (aL+1+14)=zy [.str [], .Z 0, .aw, .aw, .aw, .aw] 6:=by rw[Ue _ Zo];exact VL
  refine cz (e8 (k:=6) (b:=aL+1+14) (A:=0) (n:=6) VM Zo rfl Zd Zd (by simp[q.cells,cN,Uk.2.1,Ul.2.1,Um.2.1,show d5 (.str g.name)=true from rfl,show d5 (.Z g.at_)=true from rfl,show d5 .aw=true from rfl])) ?_
  generalize Uv:aP X TZ (aL+1+14) _=U0
  have VN:H X U0 (aL+1+14)=zy [.str g.name, .Z g.at_,O,Z,T0, .aw] 6:=by rw[<-Uv,a7 Zo];rfl
  have Uf:∀a,a≠aL+1+14->H X U0 a=H X TZ a:=λa f=>by rw[<-Uv,aV Zo f]
  clear Uv
  have W1:H X U0 aL=zy [.str g.name, .Z g.at_,bx,bz,VF,Uh] 6:=by rw[Uf _ Zo];exact UV
  have WV:∀a,P a->H X U0 a=H X S a:=λa f=>by rw[Uf a (zu (t a f))];exact Uc TZ (λa f=>Ue a Zo) a f
  have VA:∀a,a<aL->H X U0 a=H X aM a:=λa f=>by rw[Uf a Zo,Ue a Zo,V7 a Zo,Vp a f]
  have V2:=Ua.len
  rw[Uy.len]at V2
  clear Uo VL UD UU UV VM UT
  refine cQ (λUS B ah=>∃(s:q) (T4:List (List q)) (w:List Nat) (T6:F q),US.g 0=some (.ptr b 0)/\US.g 3=some (.ptr nx 0)/\US.g 4=some (.Z (i:Int))/\US.g 6=some (.ptr (aL+1+14) 0)/\x<=ah/\H X B (aL+1+14)=some (.cells T6 6 .own)/\dF T6 [.str g.name, .Z g.at_,O,Z,T0,s]
   /\cT X B s 4 T4.flatten w/\(∀a∈w,x<=a/\a<ah)/\(∀r∈T4,r.length=4)/\ga X B (λa=>P a\/((x<=a/\a<ah)/\a∉w)) (bR X B (λa=>P a\/((x<=a/\a<ah)/\a∉w))) g.eqs T4/\∀a,a<x->a≠aL+1+14->H X B a=H X U0 a) (λWy WE=> ?_) ?_
  ·refine cM (λUN y B ah=>∃(k:Nat) (s:q) (T4:List (List q)) (w:List Nat) (T6:F q),y.g 0=some (.ptr b 0)/\y.g 3=some (.ptr nx 0)/\y.g 4=some (.Z (i:Int))/\y.g 5=some (.ptr aL 0)/\y.g 6=some (.ptr (aL+1+14) 0)/\y.g 7=some (.Z (k:Int))/\k+UN=g.eqs.length/\x<=ah/\H X B (aL+1+14)=some (.cells T6 6 .own)/\dF T6 [.str g.name, .Z g.at_,O,Z,T0,s]
    /\cT X B s 4 T4.flatten w/\(∀a∈w,x<=a/\a<ah)/\(∀r∈T4,r.length=4)/\ga X B (λa=>P a\/((x<=a/\a<ah)/\a∉w)) (bR X B (λa=>P a\/((x<=a/\a<ah)/\a∉w))) (g.eqs.take k) T4/\∀a,a<x->a≠aL+1+14->H X B a=H X U0 a)
    g.eqs.length ⟨0, .aw,[],[],_,al t0,al t3,al t4,aI,aI,cx,Zo,Zp _,VN,dj _, .inl (.inl ⟨rfl,rfl,rfl⟩),Zs,Zs,⟨rfl,λi g row e=>by simp at e⟩,λ_ _ _=>rfl⟩ ?_
   clear t0 t3 t4 VN
   rintro UN y T5 p ⟨k,s,T4,w,T6,t0,t3,t4,t5,UC,VG,Ws,Vb,UE,UH,U9,G,UJ,U4,T8⟩
   have Vr:W X T5 (.ptr aL 5)=some Uh:=by rw[bX,T8 aL Zo Zo,W1];rfl
   cases UN with
   |zero=>
    have d:=zv k g.eqs.length
    rw[Zt Zo]at U4
    refine db @VG @t5 @Vr @V2 @d ⟨?_⟩
    exact WE _ _ _ ⟨s,T4,w,T6,al t0,al t3,al t4,al UC,Vb,UE,UH,U9,G,UJ,U4,T8⟩
   |succ UN=>
    have d:=zw k g.eqs.length
    have W0:=zz k
    obtain⟨J,Vf⟩:=zx g.eqs k
    obtain⟨X1,WO,WJ⟩:=Uy.get k J Vf
    have Ud:∀a,P a->H X T5 a=H X S a:=λa f=>by have:=t a f;rw[T8 a Zo Zo,WV a f]
    have WD:=Ua.cP k (by rw[Uy.len];omega)
    have WQ:=(Ua.R Ud).row Zd WO
    obtain⟨T3,T2,Vw,Vx,dy,rfl,Vg,Vh,WH,WI⟩:=WJ
    have VH:=fg Vg.len
    have VI:=fg Vh.1.len
    refine bo @VG @t5 @Vr @V2 @d @WD @WQ ⟨?_⟩
    refine cz (e8 (k:=4) (b:=p) (A:=0) (n:=4) (c:=F.ofList [.aw, .aw, .Z 0, .bt] 0 .nil) (a7 Zo) Zo rfl Zd Zd WI) ?_
    generalize U1:aP X _ p _=fw
    have UW:H X fw p=zy [T3,T2, .Z J.at_,dy] 4:=by rw[<-U1,a7 Zo];rfl
    have U5:∀a,a<p->H X fw a=H X T5 a:=λa f=>by rw[<-U1];exact zA
    clear U1
    have W4:H X fw (aL+1+14)=some (.cells T6 6 .own):=by rw[U5 _ Zo];exact UE
    have Vs:W X fw (.ptr (aL+1+14) 5)=some s:=by rw[aZ W4,UH 5];rfl
    refine cw @UC @Vs (aZ UW) ⟨?_⟩
    refine(IG UG _ J.right (Yo _) fw (p+1+16) P dy Zo (bR.to (λa f=>by rw[U5 a (zu (t a f)),Ud a f]) (λ_ e=>e) _ _ WH) (λa f=>zu (t a f))).Zm ?_
    rintro L TY Vt ⟨Vo,UZ⟩
    have Ww:=UZ.le
    obtain⟨Wc,Wd,Wx⟩:=bR.val Vo
    have WA:cq [.aw, .aw, .Z 0, .bt] [(0,1,T3),(1,1,T2),(2,1, .Z J.at_),(3,1,L)]=some (.agg [T3,T2, .Z J.at_,L]):=by
     have Un:(q.Z J.at_).cells=[.Z J.at_]:=rfl
     simp[cq,gE,gF,VH.1,VI.1,Wc,Un,e5]
    refine cz WA ?_
    have WR:dz 1 [.aw, .aw, .Z 0, .bt] [(0,4, .agg [T3,T2, .Z J.at_,L])] (p+1+12)=some (.slice (p+1+12) 0 1 1, .cells (F.ofList [T3,T2, .Z J.at_,L] 0 .nil) 4 .own):=by
     simp[dz,gE,gF,e5,q.cells]
    refine cz WR ?_
    have WY:W X TY (.ptr (aL+1+14) 5)=some s:=by rw[UZ.cW _ _ Zo];exact Vs
    have Up:H X TY p=zy [T3,T2, .Z J.at_,dy] 4:=by rw[UZ.R _ Zo];exact UW
    refine bB @WY ⟨?_⟩
    refine eV (cT.same U9).2.2 ?_
    refine bB (aZ Up) ⟨?_⟩
    refine eV VH.2.2 ?_
    refine bB (aZ Up) ⟨?_⟩
    refine eV VI.2.2 ?_
    refine bB (aZ Up) ⟨?_⟩
    refine eV (o1 _ _) ?_
    generalize Uw:aP X TY (p+1+12) _=UR
    have W2:H X UR (p+1+12)=zy [T3,T2, .Z J.at_,L] 4:=by rw[<-Uw,a7 Zo]
    have Vq:∀a,a≠p+1+12->H X UR a=H X TY a:=λa f=>by rw[<-Uw,aV Zo f]
    clear Uw
    have VB:∀a,a<p->H X UR a=H X T5 a:=λa f=>by rw[Vq a Zo,UZ.R a Zo,U5 a f]
    have WB:=ix UJ
    have WM:=U4.len
    have Ve:Go.Q.cN [T3,T2, .Z J.at_,L]=true:=by simp[Go.Q.cN,VH.2.1,VI.2.1,Wd,show d5 (.Z J.at_)=true from rfl]
    obtain⟨VE,Uj,U6,Ux,Vl,U3,V0⟩:=(U9.R (B:=UR) (λa f=>VB a (G a f).2)).append (nx:=Vt) (k:=1) Zd (hu W2 (dj _) rfl 1) rfl Zd Ve (by rw[WB,WM,Yq];simp;omega) Zo (λa f=>zu (G a f))
    refine eU Ux ?_
    obtain⟨VC,VD,_⟩:=Go.Q.c9.one Vl
    have W5:H X Uj (aL+1+14)=some (.cells T6 6 .own):=by rw[V0 _ Zo (λe=>zu (G _ e)),VB _ Zo];exact UE
    refine bB @UC ⟨?_⟩
    refine cz (kr W5 Zo Zo VC VD) ?_
    generalize U2:aP X Uj (aL+1+14) _=C
    have Uq:H X C (aL+1+14)=some (.cells (T6.set 5 (some VE)) 6 .own):=by rw[<-U2,a7 Zo]
    have UA:∀a,a≠aL+1+14->H X C a=H X Uj a:=λa f=>by rw[<-U2,aV Zo f]
    clear U2
    have cf:∀a,a∉w->a≠Vt->a∉U6:=λa T1 z UF=>by
     rcases U3 a UF with e|e
     ·exact z e
     ·exact T1 e
    have UK:∀a,a<p->a≠aL+1+14->a∉w->H X C a=H X T5 a:=λa f T1 z=>by rw[UA a T1,V0 a Zo z,VB a f]
    have U8:∀a,P a->a∉w:=λa f e=>by have:=G a e;have:=t a f;omega
    refine ci @VG @W0 ⟨?_⟩
    refine⟨UN,Zo,k+1,VE,T4++[[T3,T2, .Z J.at_,L]],U6,_,al t0,al t3,al t4,al t5,al UC,aI,Zo,Zo,Uq,dF.set UH Zs VE, ?_,λa f=> ?_,λr K=> ?_, ?_,λa f Vc=> ?_⟩
    ·rw[YG]
     have:([[T3,T2, .Z J.at_,L]]:List (List q)).flatten=[T3,T2, .Z J.at_,L]:=by simp
     rw[this]
     exact .inl (Vl.R λa f=>UA a (λj=>by
      rcases U3 a f with e|e
      ·omega
      ·have:=G a e;omega))
    ·rcases U3 a f with rfl|e
     ·omega
     ·have:=G a e;omega
    ·rcases Zr.1 K with K|K
     ·exact UJ r K
     ·simp at K;subst K;rfl
    ·rw[ZG,Vf,zk]
     refine ga.snoc (vn.to (λa f=> ?_) (λa f=> ?_) U4) ⟨T3,T2,Vw,Vx,L,rfl,(Vg.R λa f=> ?_).lift λa f=> .inl f,⟨(Vh.1.R λa f=> ?_).lift λa f=> .inl f,trivial⟩,bR.to (λa f=> ?_) (λa f=> ?_) _ _ Vo,Ve⟩
     ·rcases f with f|f
      ·have:=t a f;exact UK a Zo Zo (U8 a f)
      ·exact UK a Zo Zo f.2
     ·rcases f with f|f
      ·exact .inl f
      ·exact .inr ⟨Zo,cf a f.2 Zo⟩
     ·have:=t a f;rw[UK a Zo Zo (U8 a f),Ud a f]
     ·have:=t a f;rw[UK a Zo Zo (U8 a f),Ud a f]
     ·have:=f.1
      have:=f.2
      rw[UA a Zo,V0 a Zo (λe=>zu (G a e)),Vq a Zo]
     ·have:=f.1
      have:=f.2
      exact .inr ⟨Zo,cf a (λe=>zu (G a e)) Zo⟩
    ·rw[UK a Zo Vc (λe=>zu (G a e)),T8 a f Vc]
  ·clear t0 t3 t4
   rintro y T5 p ⟨s,T4,w,T6,t0,t3,t4,UC,Vb,UE,UH,U9,G,UJ,U4,T8⟩
   have VP:H X T5 nx=some (.cells U7 1 .own):=by rw[T8 nx Zo Zo,VA nx Va];exact VO
   have WX:W X T5 (.ptr nx 0)=some UO:=by rw[aZ VP];exact VU
   have WF:=rR UE UH rfl
   have Vy:=cT.same U9
   refine cw @t3 @WX @UC ⟨?_⟩
   refine cz WF ?_
   have WS:dz 1 [.str [], .Z 0, .aw, .aw, .aw, .aw] [(0,6, .agg [.str g.name, .Z g.at_,O,Z,T0,s])] (p+6)=some (.slice (p+6) 0 1 1, .cells (F.ofList [.str g.name, .Z g.at_,O,Z,T0,s] 0 .nil) 6 .own):=by
    simp[dz,gE,gF,e5,q.cells]
   refine cz WS ?_
   refine bh ⟨?_⟩
   generalize U1:aP X T5 (p+6) _=fw
   have UW:H X fw (p+6)=zy [.str g.name, .Z g.at_,O,Z,T0,s] 6:=by rw[<-U1,a7 Zo]
   have U5:∀a,a≠p+6->H X fw a=H X T5 a:=λa f=>by rw[<-U1,aV Zo f]
   clear U1
   have WU:=ix V5
   have WL:=UI.len
   have WW:∀a,a<aL->H X fw a=H X aM a:=λa f=>by rw[U5 a Zo,T8 a Zo Zo,VA a f]
   have WG:Go.Q.cN [.str g.name, .Z g.at_,O,Z,T0,s]=true:=by simp[Go.Q.cN,Uk.2.1,Ul.2.1,Um.2.1,Vy.2.1,show d5 (.Z g.at_)=true from rfl,show d5 (.str g.name)=true from rfl]
   obtain⟨Vv,TY,U6,Ux,Vn,U3,VZ⟩:=(Vm.R (B:=fw) (λa f=>WW a (T7 a f).2)).append (nx:=p+11) (k:=1) Zd (hu UW (dj _) rfl 1) rfl Zd WG (by rw[WU,WL,Yq];simp;omega) Zo (λa f=>zu (T7 a f))
   refine eU Ux ?_
   obtain⟨VC,VD,_⟩:=Go.Q.c9.one Vn
   have W3:H X TY nx=some (.cells U7 1 .own):=by rw[VZ _ Zo (λe=>zu (T7 _ e)),U5 _ Zo];exact VP
   refine bh ⟨?_⟩
   refine cz (kr W3 Zo Zo VC VD) ?_
   generalize U2:aP X TY nx _=C
   have Uq:H X C nx=some (.cells (U7.set 0 (some Vv)) 1 .own):=by rw[<-U2,a7 Zo]
   have UA:∀a,a≠nx->H X C a=H X TY a:=λa f=>by rw[<-U2,aV Zo f]
   clear U2
   have UL:∀a,a≠nx->a≠p+6->a≠p+11->a∉aH->H X C a=H X T5 a:=λa T1 z UF W6=>by rw[UA a T1,VZ a UF W6,U5 a z]
   have V6:∀a,a<aL->a≠nx->a∉aH->H X C a=H X aM a:=λa f T1 z=>by rw[UL a T1 Zo Zo z,T8 a Zo Zo,VA a f]
   have U8:∀a,P a->a∉aH:=λa f e=>by have:=T7 a e;have:=t a f;omega
   have cf:∀a,a∉aH->a≠p+11->a∉U6:=λa T1 z UF=>by
    rcases U3 a UF with e|e
    ·exact z e
    ·exact T1 e
   have Ug:∀a,aL<=a->a∉aH:=λa T1 z=>zu (T7 a z)
   have V9:∀a,aL+1+16<=a->a<x->H X C a=H X TZ a:=λa T1 z=>by rw[UL a Zo Zo Zo (Ug a Zo),T8 a z Zo,Uf a Zo]
   obtain⟨We,Wi⟩:=(Vi.R (B:=C) λa f=>by have:=VR a f;rw[V9 a Zo Zo,UY.R a Zo,Ur.R a Zo]).gM (P:=λa=>aL+1+16<=a/\a<x) Zd (by intro r K;obtain⟨d,_,rfl⟩:=ZB.1 K;rfl) (by rw[Zn];omega) (λa f=>zu (VR a f))
   obtain⟨Wf,Wj⟩:=(Vj.R (B:=C) λa f=>by have:=VS a f;rw[V9 a Zo Zo,UY.R a Zo]).gM (P:=λa=>aL+1+16<=a/\a<x) Zd (by intro r K;obtain⟨d,_,rfl⟩:=ZB.1 K;rfl) (by rw[Zn];omega) (λa f=>zu (VS a f))
   obtain⟨Wg,Wk⟩:=(Vk.R (B:=C) λa f=>by have:=VT a f;rw[V9 a Zo Zo]).gM (P:=λa=>aL+1+16<=a/\a<x) Zd (by intro r K;obtain⟨d,_,rfl⟩:=ZB.1 K;rfl) (by rw[Zn];omega) (λa f=>zu (VT a f))
   obtain⟨Wh,Wl⟩:=(U9.R (B:=C) λa f=>by have:=G a f;exact UL a Zo Zo Zo (Ug a Zo)).gM (P:=λa=>x<=a/\a<p) Zd UJ (by rw[U4.len];omega) (λa f=>zu (G a f))
   have UM:∀a,aL+1+16<=a->a<p->P a\/((nx<a/\a<p+11+1)/\a∉U6):=λa T1 z=> .inr ⟨Zo,cf a (Ug a Zo) Zo⟩
   refine ci @t4 @Vz ⟨?_⟩
   refine⟨m,Zo,i+1,Vv,UB++[[.str g.name, .Z g.at_,O,Z,T0,s]],U6,_,al t0,al t3,aI,Zo,Zo,Uq,by rw[F.gj,Zv rfl], ?_,λa f=> ?_,λr K=> ?_, ?_,λa f=> ?_⟩
   ·rw[YG]
    have:([[.str g.name, .Z g.at_,O,Z,T0,s]]:List (List q)).flatten=[.str g.name, .Z g.at_,O,Z,T0,s]:=by simp
    rw[this]
    exact .inl (Vn.R λa f=>UA a (λj=>by
     rcases U3 a f with e|e
     ·omega
     ·have:=T7 a e;omega))
   ·rcases U3 a f with rfl|e
    ·omega
    ·have:=T7 a e;omega
   ·rcases Zr.1 K with K|K
    ·exact V5 r K
    ·simp at K;subst K;rfl
   ·rw[ZG,Uz,zk]
    refine f6.snoc (vq.to (λa f=> ?_) (λa f=> ?_) UI) ⟨O,Z,T0,s,We,Wf,Wg,Wh,T4,rfl,Wi.lift λa f=>UM a f.1 Zo,Wj.lift λa f=>UM a f.1 Zo,Wk.lift λa f=>UM a f.1 Zo,Wl.lift λa f=>UM a Zo f.2,vn.to (λa f=> ?_) (λa f=> ?_) U4⟩
    ·rcases f with f|f
     ·have:=t a f;exact V6 a Zo Zo (U8 a f)
     ·exact V6 a Zo Zo f.2
    ·rcases f with f|f
     ·exact .inl f
     ·exact .inr ⟨Zo,cf a f.2 Zo⟩
    ·rcases f with f|f
     ·have:=t a f;exact UL a Zo Zo Zo (U8 a f)
     ·exact UL a Zo Zo Zo (Ug a Zo)
    ·rcases f with f|f
     ·exact .inl f
     ·exact UM a Zo Zo
   ·rw[V6 a Zo Zo (λe=>zu (T7 a e)),Ub a f]
end
section
variable{X:bQ}{S B cE ay aM:F ac}{nx nx' aG aL:Nat}{s:aT}
def vl:List q:=[.str [], .Z 0, .zF, .zF, .Z 0, .str [], .Z 0, .zF]
def Gz(n:Nat):oG X S nx .append [47,3] [.aw, .Z (n:Int)]=aQ (Nat.ble n 1048576) (aQ (Nat.beq n 0) (some (.val .aw)) (j8 X S nx n 8 (ew n vl))) none:=Zk
def nT(n:Nat)(h:List q):(ew n h).length=n*h.length:=by
 induction n with
 |zero=>simp[ew]
 |succ n U=>simp[ew,U,Z7];omega
def EH:jX X S .cap [47] [.aw]=some (.Z 0):=Zk
def Ko:ii X S 8 .aw none (some (.Z 0)) none=some .aw:=by rfl
def Kp{cf n m:Nat}{c:F q}(e:H X S cf=some (.cells c m (.grow []))):ii X S 8 (.cH cf 0 n 8) none (some (.Z 0)) none=some (.cH cf 0 0 8):=by
 have d:hn (some (.Z 0)) (m/8) n=some 0:=by simp[hn,Iv]
 have f:∀a b:Nat,hn none a b=some b:=λa b=>rfl
 have g:jH X S cf=some m:=by simp[jH,e]
 have i:Nat.blt 0 8=true:=rfl
 simp only[ii,g,gT,YI,f,d]
 simp[i]
def Jy{C:ax}{P:Nat->Prop}{b an:Nat}{au:q}{rows:List (List q)}(e:cg C S P b au an rows)(T5:0<an):gu C S an au=some (rows.length,rows.flatten):=by
 have z:=ix e.wide
 have key:∀a A n:Nat,n=rows.length->(∀i,i<rows.length->some (q.ptr a (A+i*an))=some (.ptr b (i*an)))->fW C S a A (n*an)=some rows.flatten:=by
  intro a A n d ai
  subst d
  by_cases T0:rows.length=0
  ·have:rows=[]:=Yc T0
   subst this
   simp only[fW]
   cases f:cellsOf C S a with
   |none=>simp
   |some c=>simp[Gs]
  ·have x:=ai 0 Zo
   simp at x
   obtain⟨rfl,rfl⟩:=x
   obtain⟨r,K⟩:=zx rows 0
   have T7:=e.wide r (Zg K)
   obtain⟨v,T4⟩:=zx r 0
   have g:=e.cell 0 r 0 v K T4
   simp only[Y4,ZH]at g
   have T2:∃c,cellsOf C S a=some c:=by
    simp only[W]at g
    cases f:cellsOf C S a with
    |none=>rw[f]at g;cases g
    |some c=>exact⟨c,rfl⟩
   obtain⟨c,f⟩:=T2
   simp only[fW,f]
   rw[<-z]
   refine x3 _ _ λE v G=> ?_
   have O:=(Zf.1 G).1
   rw[z]at O
   have T3:E/an<rows.length:=Nat.div_lt_of_lt_mul (by rw[Nat.mul_comm];exact O)
   obtain⟨m,w⟩:∃r,rows[E/an]? =some r:=⟨_,Ze T3⟩
   have T8:=e.wide m (Zg w)
   have T6:E%an<an:=zt _ T5
   obtain⟨Z,X⟩:∃v,m[E%an]? =some v:=⟨_,Ze Zo⟩
   have p:=e.cell (E/an) m (E%an) Z w X
   have s:=tO rows e.wide (E/an) m (E%an) Z w X
   have T1:E/an*an+E%an=E:=by rw[Nat.mul_comm];exact Nat.div_add_mod E an
   rw[T1]at p s
   rw[G]at s
   cases s
   simp only[W,f]at p
   rw[ZE]
   exact p
 have ap:=e.len
 cases au with
 |slice a A n cap=>
  have d:n=rows.length:=by rw[hK]at ap;simp at ap;omega
  have ai:∀i,i<rows.length->some (q.ptr a (A+i*an))=some (.ptr b (i*an)):=λi ai=>by
   have:=e.cP i ai
   rw[<-this]
   have j:Nat.blt i n=true:=by simp[Nat.blt];omega
   simp only[bH,mz,mP,j,cO]
  have t:=key a A n d ai
  subst d
  simp only[gu,t]
 |cH a A n T9=>
  have d:n=rows.length:=by rw[h8]at ap;simp at ap;omega
  have ai:∀i,i<rows.length->some (q.ptr a (A+i*an))=some (.ptr b (i*an)):=λi ai=>by
   have:=e.cP i ai
   rw[<-this]
   have j:Nat.blt i n=true:=by simp[Nat.blt];omega
   simp only[bH,mz,mP,j,cO]
  have t:=key a A n d ai
  subst d
  simp only[gu,t]
 |aw=>
  have d:(0:Int)=rows.length:=by rw[kh]at ap;simpa using ap
  have:rows=[]:=Yc Zo
  subst this
  rfl
 |_=>simp[bK]at ap
def JV{cf n r m:Nat}{c:F q}{x:q}{h:List q}{M:be}(Y:H X S cf=some (.cells c (m*8) (.grow [])))(b:(o X).aN<=cf)(g:gu X S 8 x=some (r,h))(ap:h.length=r*8)(K:n+r<=m)(C:Go.Q.cN h=true)
 (k:∀B d,H X B cf=some (.cells d (m*8) (.grow []))->(∀i,d.get i=if n*8<=i/\i<n*8+h.length then h[i-n*8]? else c.get i)->(∀a,a≠cf->H X B a=H X S a)->M (.cH cf 0 (n+r) 8) B nx):
 dx (d1 X S nx 8 (.cH cf 0 n 8) x) S nx M:=by
 by_cases f:r=0
 ·subst f
  have:h=[]:=Yc Zo
  subst this
  have p:d1 X S nx 8 (.cH cf 0 n 8) x=some (.val (.cH cf 0 n 8)):=by
   simp only[d1,g]
   simp[oh,jH,Y]
   omega
  refine JG p ?_
  exact k S c Y (λi=>by rw[Zj Zs]) (λ_ _=>rfl)
 ·have s:Nat.ble ((n+r)*8) (m*8)=true:=gg Zo
  have t:Nat.ble (n*8+h.length) (m*8)=true:=gg Zo
  have z:Nat.beq 8 8=true:=rfl
  have v:eS X cf=true:=gg b
  have w:d1 X S nx 8 (.cH cf 0 n 8) x=some (.cu (.cH cf 0 (n+r) 8) (Go.Q.aP X S cf (some (.cells (cL c (n*8) h) (m*8) (.grow [])))) nx):=by
   simp only[d1,g]
   rw[d2,Zj f]
   simp only[kG,pj,Y,v,z,cO,s,gU,t,C,Yi,dB,fL,ZE]
  refine eU w ?_
  refine k _ _ (a7 b) (λi=> ?_) (λa G=>aV b G)
  rw[iH]
def Kl(s:dV X){n:Nat}(v:0<n)(w:n<=300000)(t:(o X).aN<=nx):
 aJ X 73 [.aw, .Z (n:Int)] S nx (λL B nx'=>L= .cH nx 0 0 8/\(∃c,H X B nx=some (.cells c (n*8) (.grow [])))/\aX X S nx B nx'/\nx<nx') zG:=by
 refine zB s (Dc X) ?_
 rw[Dd]
 unfold wx
 have d:decide ((n:Int)<0)=false:=zJ
 have f:decide ((0:Int)<(n:Int))=true:=zK
 have g:ag .sub (.Z 0) (.Z 0)=some (.Z 0):=g0 Zo Zo
 have i:ag .sub (.Z (n:Int)) (.Z 0)=some (.Z (n:Int)):=by rw[g0 Zo Zo];simp
 have m:oG X S nx .append [47,3] [.aw, .Z (n:Int)]=some (.cu (.cH nx 0 n 8) (aP X S nx (some (.cells (F.ofList (ew n vl) 0 .nil) (n*8) (.grow [])))) (nx+1)):=by
  rw[Gz,gg Zo,cO,d2,Zj Zo]
  simp only[j8,gg (show n<=1048576 by omega),cO,gp,fX,dB,nT]
  rfl
 refine dp @d @EH @g @i @f @Ko ⟨?_⟩
 refine eU m ?_
 generalize a:aP X S nx _=ay
 have b:H X ay nx=some (.cells (F.ofList (ew n vl) 0 .nil) (n*8) (.grow [])):=by rw[<-a,a7 t]
 have r:aX X S nx ay (nx+1):=by rw[<-a];exact dJ
 clear a
 have p:=Kp (n:=n) b
 refine bB @p ⟨?_⟩
 exact⟨rfl,⟨_,b⟩,r,Zo⟩
def ma(h:List (List bv)):Nat:=(h.map List.length).sum
def ES(U8:dV X){P:Nat->Prop}{cJ b0 bb b4:Nat}{bx bz au:q}{f az D:List bv}(Ub:(o X).aN<=nx)(UV:cJ<nx)(U9:H X S cJ=zy [bx,bz,au] 3)
 (T0:cg X S P b0 bx 8 (f.map bO))(U6:cg X S P bb bz 8 (az.map bO))(UQ:cg X S P b4 au 8 (D.map bO))(UT:∀t,P t->t<nx)(UP:0<f.length+az.length+D.length)(Ua:f.length+az.length+D.length<=300000):
 aJ X 43 [.slice cJ 0 3 3] S nx (λL B nx'=>∃b,cg X B (dk nx nx') b L 8 ((f++(az++D)).map bO)/\aX X S nx B nx') zG:=by
 refine zB U8 (CG X) ?_
 rw[CH]
 unfold wc
 have UF:∀E,E<3->∃s b a,[bx,bz,au][E]? =some s/\cg X S P b s 8 (a.map bO)/\([f,az,D]:List (List bv))[E]? =some a/\a.length<=300000:=by
  intro E T5
  match E,T5 with
  |0,_=>exact⟨bx,b0,f,rfl,T0,rfl,Zo⟩
  |1,_=>exact⟨bz,bb,az,rfl,U6,rfl,Zo⟩
  |2,_=>exact⟨au,b4,D,rfl,UQ,rfl,Zo⟩
 have UA:∀B E s,H X B cJ=zy [bx,bz,au] 3->[bx,bz,au][E]? =some s->W X B (.ptr cJ E)=some s:=λB E s e z=>by rw[aZ e,fD];exact z
 obtain⟨g,G⟩:∃g:Nat->Nat,∀E,g E=ma (([f,az,D]:List (List bv)).take E):=⟨_,λ_=>rfl⟩
 obtain⟨p,x⟩:∃p:Nat->List bv,∀E,p E=(([f,az,D]:List (List bv)).take E).flatten:=⟨_,λ_=>rfl⟩
 have UB:∀E a,([f,az,D]:List (List bv))[E]? =some a->p (E+1)=p E++a:=by
  intro E a e
  rw[x,x,ZG,e];simp
 have T3:∀E,g E=(p E).length:=λE=>by rw[G,x];unfold ma;rw[List.length_flatten]
 have UG:∀E a,([f,az,D]:List (List bv))[E]? =some a->g (E+1)=g E+a.length:=by
  intro E a e
  rw[T3,T3,UB E a e,ZT]
 have UD:∀E,g E<=f.length+az.length+D.length:=by
  intro E
  rw[G]
  match E with
  |0=>simp[ma]
  |1=>simp[ma];omega
  |2=>simp[ma]
  |n+3=>simp[ma];omega
 have U7:g 3=f.length+az.length+D.length:=by rw[G];simp[ma];omega
 have U5:g 0=0:=by rw[G];simp[ma]
 have UM:p 0=[]:=by rw[x];rfl
 refine bh ⟨?_⟩
 refine cM (λm y B ah=>∃(E:Nat),y.g 0=some (.slice cJ 0 3 3)/\y.g 9=some (.slice cJ 0 3 3)/\y.g 10=some (.Z 3)/\y.g 11=some (.Z (E:Int))/\y.g 3=some (.Z (g E:Nat))/\E+m=3/\B=S/\ah=nx)
  3 ⟨0,aI,aI,cx,cx,by refine oD ⟨?_⟩;rw[U5];rfl,Zo,rfl,rfl⟩ ?_
 rintro m y ay aG ⟨E,t0,t9,O,TZ,t3,T5,rfl,rfl⟩
 cases m with
 |succ m=>
  have d:decide ((E:Int)<3)=true:=zK
  have Z:=zz E
  obtain⟨s,b,a,z,T8,C,US⟩:=UF E Zo
  have Uj:=UD E
  have T4:bH 1 (.slice cJ 0 3 3) (.Z (E:Int))=some (.ptr cJ E):=by rw[mq _ Zo];simp
  have T1:=UA _ E s U9 z
  have UE:=T8.len
  rw[Zn]at UE
  have UL:ag .add (.Z ((g E:Nat):Int)) (.Z (a.length:Int))=some (.Z ((g (E+1):Nat):Int)):=by
   rw[UG E a C,ct Zo Zo];simp
  have UK:decide (((g (E+1):Nat):Int)<0)=false:=zJ
  refine bo @TZ @O @t9 @t3 @d @T4 (Za @T1 (Za @UE (Za @UL (Za @UK @Z)))) ⟨?_⟩
  exact⟨m,Zo,E+1,al t0,al t9,al O,aI,aI,Zo,rfl,rfl⟩
 |zero=>
  have d:decide ((E:Int)<3)=false:=zJ
  have T6:E=3:=Zo
  subst T6
  rw[U7]at t3
  refine cV @TZ @O @t3 @d ⟨?_⟩
  refine(Kl U8 UP Ua Ub).Zm ?_
  rintro L aM aL ⟨rfl,⟨UI,UN⟩,UR,Uc⟩
  generalize Ui:f.length+az.length+D.length=bI at*
  refine bB @t0 ⟨?_⟩
  refine cM (λm y B ah=>∃(E:Nat) (c:F q),y.g 25=some (.slice cJ 0 3 3)/\y.g 26=some (.Z 3)/\y.g 27=some (.Z (E:Int))/\y.g 6=some (.cH aG 0 (g E) 8)/\E+m=3/\aG<ah/\aX X ay aG B ah
   /\H X B aG=some (.cells c (bI*8) (.grow []))/\∀(i:Nat) v,((p E).map bO).flatten[i]? =some v->c.get i=some v)
   3 ⟨0,UI,aI,cx,cx,by refine oD ⟨?_⟩;rw[U5],Zo,Uc,UR,UN,λi v e=>by rw[UM]at e;simp at e⟩ ?_
  clear t0 t9 O TZ t3
  rintro m y U3 Ul ⟨E,Uh,UH,U0,U1,U2,T5,Ud,w,U4,T2⟩
  have UC:∀a:List bv,((a.map bO).flatten).length=a.length*8:=λa=>by
   have:=ix (rows:=a.map bO) (an:=8) (by intro r K;obtain⟨d,_,rfl⟩:=ZB.1 K;rfl)
   rw[this,Zn]
  cases m with
  |zero=>
   have d:decide ((E:Int)<3)=false:=zJ
   have T6:E=3:=Zo
   subst T6
   rw[U7]at U2
   refine cV @U1 @U0 @U2 @d ⟨?_⟩
   have UW:p 3=f++(az++D):=by rw[x];simp
   rw[UW]at T2
   have T7:(f++(az++D)).length=bI:=by simp;omega
   refine⟨aG,⟨λ_=>⟨Zo,Zo⟩,by rw[Zn,T7];omega,by intro r K;obtain⟨d,_,rfl⟩:=ZB.1 K;rfl,by rw[h8,Zn,T7],λi ai=>by rw[oJ _ (by rw[Zn,T7]at ai;omega),ZE],λi r Uf v ai UY=> ?_⟩,w⟩
   rw[aZ U4]
   exact T2 _ _ (tO _ (by intro r K;obtain⟨d,_,rfl⟩:=ZB.1 K;rfl) i r Uf v ai UY)
  |succ m=>
   have d:decide ((E:Int)<3)=true:=zK
   have Z:=zz E
   obtain⟨s,b,a,z,T8,C,US⟩:=UF E Zo
   have T4:bH 1 (.slice cJ 0 3 3) (.Z (E:Int))=some (.ptr cJ E):=by rw[mq _ Zo];simp
   have UU:H X U3 cJ=zy [bx,bz,au] 3:=by rw[w.R _ UV];exact U9
   have T1:=UA _ E s UU z
   have T9:=Jy (T8.R (B:=U3) (λt TY=>w.R t (UT t TY))) Zd
   rw[Zn]at T9
   have T0:=UG E a C
   have U6:=UD (E+1)
   refine bo @U1 @U0 @UH @U2 @d @T4 @T1 ⟨?_⟩
   refine JV U4 Zo T9 (UC a) Zo ?_ ?_
   ·clear T9
    have:∀bI:List bv,Go.Q.cN (bI.map bO).flatten=true:=by
     intro bI
     induction bI with
     |nil=>rfl
     |cons d bI U=>simpa[bO,Go.Q.cN,d5]using U
    exact this a
   ·intro Ug UJ UO UX UZ
    refine ci @U1 @Z ⟨?_⟩
    refine⟨m,Zo,E+1,UJ,al UH,al U0,aI,by refine oD ⟨?_⟩;rw[T0],Zo,Ud,⟨w.le,λt TY=>by rw[UZ t Zo];exact w.R t TY⟩,UO,λi v ai=> ?_⟩
    rw[UB E a C]at ai
    simp only[YG,YF]at ai
    have Ue:(((p E).map bO).flatten).length=g E*8:=by
     rw[UC,T3]
    rw[UX]
    by_cases Uk:i<g E*8
    ·rw[Zj Zo]
     rw[ZA Zo]at ai
     exact T2 i v ai
    ·rw[Zy Zo,Ue]at ai
     have:=(Zf.1 ai).1
     rw[Zv ⟨Zo,Zo⟩]
     exact ai
end
structure dR(X:bQ):Prop extends dV X where
 may:∀s∈ek,X.O 41 [.str s]=some (.bool (c4 s))
 JQ:∀s∈ek,X.O 85 [.str s]=some (.bool (c4 s))
section
variable{X:bQ}{S B cE ay aM:F ac}{nx nx' aG aL bw:Nat}{bm d0 P:Nat->Prop}
def p7{s:aT}{M ad:be}(a:dR X)(b:s∈ek)(e:M (.bool (c4 s)) S nx):aJ X 41 [.str s] S nx M ad:=q2 (a.may s b) e
def mI{s:aT}{M ad:be}(a:dR X)(b:s∈ek)(e:M (.bool (c4 s)) S nx):aJ X 85 [.str s] S nx M ad:=q2 (a.JQ s b) e
def J7(t:d7):decide (nV t=[])= !eu t:=by
 unfold nV
 cases a:eu t with
 |false=>rfl
 |true=>rw[Zv rfl];split<;>rfl
def Ln(i:dV X)(t:d7)(G:(o X).aN<=nx):aJ X 65 [.agg (eP t)] S nx (λL B nx'=>L= .str (nV t)/\aX X S nx B nx') zG:=by
 refine zB i (C8 X) ?_
 rw[C9]
 unfold wv
 have O:eP t=[.bool t.b, .bool t.s, .Z t.w]:=rfl
 rw[O]
 refine bh ⟨?_⟩
 refine l7 (λay=>H X ay nx=zy [.bool t.b, .bool t.s, .Z t.w] 3/\aX X S nx ay (nx+1)) ⟨a7 G,dJ⟩ ?_
 rintro ay ⟨z,C⟩
 refine(r1 i t Zo).Zm ?_
 rintro L aM aL ⟨rfl,r⟩
 have Z:=r.le
 have g:=C.trans r
 have p:H X aM nx=zy [.bool t.b, .bool t.s, .Z t.w] 3:=by rw[r.R _ Zo];exact z
 have b:W X aM (.ptr nx 0)=some (.bool t.b):=by rw[aZ p];rfl
 have f:W X aM (.ptr nx 1)=some (.bool t.s):=by rw[aZ p];rfl
 have n:W X aM (.ptr nx 2)=some (.Z t.w):=by rw[aZ p];rfl
 cases d:eu t with
 |false=>
  refine bh ⟨?_⟩
  exact⟨by simp[nV,d],g⟩
 |true=>
  cases a:t.b with
  |true=>
   rw[a]at b
   refine bB @b ⟨?_⟩
   exact⟨by simp[nV,d,a],g⟩
  |false=>
   rw[a]at b
   have T1:1<=t.w/\t.w<=64:=by simpa[eu,a]using d
   obtain⟨w,v⟩:=Int.eq_ofNat_of_zero_le (by omega:0<=t.w)
   rw[v]at n
   have ai:iz t.w.toNat=iz w:=by rw[v];rfl
   have T0:(iz w).length<=2:=by unfold iz;split<;>simp
   have s:∀S c,bZ X S .add 9 true (.str [c]) (.str (iz w))=some (.str (c::iz w)):=λS c=>by
    have:Nat.ble ([c].length+(iz w).length) 1000000000=true:=gg Zx
    simp only[bZ,m4,this,cO];rfl
   cases m:t.s with
   |true=>
    rw[m]at f
    refine cw @b @f @n ⟨?_⟩
    refine(yh i Zo).Zm ?_
    rintro L x P ⟨rfl,rfl,rfl⟩
    refine bB @s ⟨?_⟩
    exact⟨by simp[nV,d,a,m,ai],g⟩
   |false=>
    rw[m]at f
    refine cw @b @f @n ⟨?_⟩
    refine(yh i Zo).Zm ?_
    rintro L x P ⟨rfl,rfl,rfl⟩
    refine bB @s ⟨?_⟩
    exact⟨by simp[nV,d,a,m,ai],g⟩
def hT{α:Type}{h:List α}{p:α->Prop}{E:Nat}{d:α}(b:h[E]? =some d)(e:∀x∈h.take E,p x)(c:p d):∀x∈h.take (E+1),p x:=by
 intro x a
 rw[ZG,b]at a
 rcases Zr.1 a with a|a
 ·exact e x a
 ·simp at a;subst a;exact c
def EY(C:dR X){b:Nat}{au:q}{ds:List bv}(UH:(o X).aN<=nx)(T0:cg X S P b au 8 (ds.map bO))(U7:∀c,P c->c<nx)(UA:∀d∈ds,iq d):
 aJ X 42 [au] S nx (λL B nx'=>(∃g:Bool,L= .bool g/\(g=true↔∀d∈ds,ja d))/\aX X S nx B nx') zG:=by
 refine zB C.todV (CE X) ?_
 rw[CF]
 unfold wb
 have U2:=T0.len
 have UC:=T0.many
 rw[Zn]at U2 UC
 refine bB @U2 ⟨?_⟩
 refine cM (λm y B ah=>∃(E:Nat),y.g 5=some au/\y.g 6=some (.Z (ds.length:Int))/\y.g 7=some (.Z (E:Int))/\E+m=ds.length/\aX X S nx B ah/\∀x∈ds.take E,ja x)
  ds.length ⟨0,aI,aI,cx,Zo,aX.refl _ _,Zs⟩ ?_
 rintro m y ay aG ⟨E,t5,T3,T4,UE,z,G⟩
 have UF:=z.le
 cases m with
 |zero=>
  have d:=zv E ds.length
  rw[Zt Zo]at G
  refine cw @T4 @T3 @d ⟨?_⟩
  exact⟨⟨true,rfl,λ_=>G,λ_=>rfl⟩,z⟩
 |succ m=>
  have U5:=zw E ds.length
  have T9:=zz E
  obtain⟨d,O⟩:=zx ds E
  have U0:=Zg O
  have U1:=UA d U0
  have U9:=T0.cP E (by rw[Zn];omega)
  have U4:=(T0.R (λc T8=>z.R c (U7 c T8))).row (i:=E) (r:=bO d) Zd (by rw[Zw,O];rfl)
  have U8:bO d=[.str d.name, .Z d.at_, .bool d.ty.b, .bool d.ty.s, .Z d.ty.w, .str d.on, .Z d.dg, .bool d.no]:=rfl
  rw[U8]at U4
  refine dp @T4 @T3 @t5 @U5 @U9 @U4 ⟨?_⟩
  generalize T6:aP X _ aG _=aM
  have n:H X aM aG=zy [.str d.name, .Z d.at_, .bool d.ty.b, .bool d.ty.s, .Z d.ty.w, .str d.on, .Z d.dg, .bool d.no] 8:=by rw[<-T6,a7 Zo];rfl
  have TZ:aX X S nx aM (aG+1):=⟨Zo,λc T8=>by rw[<-T6];simp(disch:=omega) only[aV];exact z.R c T8⟩
  clear T6
  have bad:∀B ah,¬ja d->aX X S nx B ah->(∃g:Bool,q.bool false= .bool g/\(g=true↔∀d∈ds,ja d))/\aX X S nx B ah:=λB ah Y U6=>⟨⟨false,rfl,(λe=>by cases e),λe=>absurd (e d U0) Y⟩,U6⟩
  refine bB (aZ n) ⟨?_⟩
  refine p7 C U1.nm ?_
  cases T7:c4 d.name with
  |false=>
   refine bh ⟨?_⟩
   exact bad _ _ (λe=>by have:=e.nm;rw[T7]at this;cases this) (TZ.more Zo)
  |true=>
   have UI:eP d.ty=[.bool d.ty.b, .bool d.ty.s, .Z d.ty.w]:=rfl
   have UB:br X aM 3 (.ptr aG 2)=some (.agg (eP d.ty)):=by rw[hm,aZ n,aZ n,aZ n];rfl
   refine bB @UB ⟨?_⟩
   refine(Ln (nx:=aG+1) (S:=aM) C.todV d.ty Zo).Zm ?_
   rintro L t UD ⟨rfl,T5⟩
   have UG:=T5.le
   have TY:H X t aG=zy [.str d.name, .Z d.at_, .bool d.ty.b, .bool d.ty.s, .Z d.ty.w, .str d.on, .Z d.dg, .bool d.no] 8:=by rw[T5.R _ Zo];exact n
   have p:aX X S nx t UD:=TZ.trans T5
   have f:=J7 d.ty
   have T2:W X t (.ptr aG 5)=some (.str d.on):=by rw[aZ TY];rfl
   have T1:W X t (.ptr aG 7)=some (.bool d.no):=by rw[aZ TY];rfl
   cases s:eu d.ty with
   |false=>
    rw[s]at f
    refine bB @f ⟨?_⟩
    exact bad _ _ (λe=>by have:=e.ty;rw[s]at this;cases this) p
   |true=>
    rw[s]at f
    by_cases a:d.on=[]
    ·have v:decide (d.on≠[])=false:=by simp[a]
     have w:decide (d.on=[])=true:=by simp[a]
     cases Z:d.no with
     |true=>
      rw[Z]at T1
      refine db @f @T2 @v @w @T1 ⟨?_⟩
      exact bad _ _ (λe=>by have:=e.no a;rw[Z]at this;cases this) p
     |false=>
      rw[Z]at T1
      refine bo @f @T2 @v @w @T1 @T4 @T9 ⟨?_⟩
      exact⟨m,Zo,E+1,al t5,al T3,aI,Zo,p,hT O G ⟨T7,s,λe=>absurd a e,λ_=>Z⟩⟩
    ·have v:decide (d.on≠[])=true:=by simp[a]
     have w:decide (d.on=[])=false:=by simp[a]
     refine cw @f @T2 @v ⟨?_⟩
     refine p7 C U1.on ?_
     cases U3:c4 d.on with
     |false=>
      refine bh ⟨?_⟩
      exact bad _ _ (λe=>by have:=e.on a;rw[U3]at this;cases this) p
     |true=>
      refine cV @T2 @w @T4 @T9 ⟨?_⟩
      exact⟨m,Zo,E+1,al t5,al T3,aI,Zo,p,hT O G ⟨T7,s,λ_=>U3,λe=>absurd e a⟩⟩
def Je(b:Nat):bZ X S .eql 59 false .bt (.ptr b 0)=some .zF:=Zk
def Jf:bZ X S .eql 59 false .bt .bt=some .zT:=Zk
def Ej(G:dR X){b:Nat}{au:q}{ak:List bg}{aB:List q}(K:cg X S P b au 1 (aB.map λv=>[v]))(O:dt X S P ak aB):
 aJ X 100 [au, .bt] S nx (λL B nx'=>(∃g:Bool,L= .bool g/\(g=false↔∀a∈ak,a.kind≠ -1))/\B=S/\nx<=nx') zG:=by
 refine zB G.todV (Bu X) ?_
 rw[Bv]
 unfold vs
 have T8:=O.len
 refine aJ.mono (M:=λL B nx'=>(∃z:Int,L= .Z z/\(z<0↔∀a∈ak,a.kind≠ -1))/\B=S/\nx<=nx') (ad:=λ_ _ _=>False) ?_ ?_ (λ_ _ _ e=>e.elim)
 ·refine zB G.todV (BU X) ?_
  rw[BV]
  unfold vH
  have T0:=K.len
  have T4:=K.many
  rw[Zn]at T0 T4
  refine bB @T0 ⟨?_⟩
  refine cM (λm y B ah=>∃(E:Nat),y.g 0=some au/\y.g 1=some .bt/\y.g 7=some (.Z (aB.length:Int))/\y.g 8=some (.Z (E:Int))/\E+m=aB.length/\B=S/\nx<=ah/\∀x∈ak.take E,x.kind≠ -1)
   aB.length ⟨0,aI,aI,aI,cx,Zo,rfl,Zo,Zs⟩ ?_
  rintro m y aM aL ⟨E,t0,r,f,s,T9,rfl,p,i⟩
  cases m with
  |zero=>
   have d:=zv E aB.length
   rw[Zt Zo]at i
   refine cw @s @f @d ⟨?_⟩
   exact⟨⟨-1,rfl,λ_=>i,λ_=>Zd⟩,rfl,p⟩
  |succ m=>
   have d:=zw E aB.length
   have T2:=zz E
   obtain⟨j,n⟩:=zx ak E
   obtain⟨v,T5,Z⟩:=O.get E j n
   obtain⟨t,w,T7⟩:=K.one T5
   by_cases c:j.kind= -1
   ·have T6:=Z.nil c
    subst T6
    refine bo @s @f @r @t0 @d @t (Za @w @Jf) ⟨?_⟩
    exact⟨⟨(E:Int),rfl,λe=>Zo,λe=>absurd c (e j (Zg n))⟩,rfl,p⟩
   ·obtain⟨g,_,_,_,rfl,_⟩:=Z.root c
    refine bo @s @f @r @t0 @d @t (Za @w (Za @Je @T2)) ⟨?_⟩
    exact⟨m,Zo,E+1,al t0,al r,al f,aI,Zo,rfl,p,hT n i c⟩
 ·rintro L ay aG ⟨⟨z,rfl,T1⟩,rfl,C⟩
  by_cases e:0<=z
  ·have d:decide ((0:Int)<=z)=true:=by simp only[Zc];exact e
   refine bB @d ⟨?_⟩
   exact⟨⟨true,rfl,(λe=>by cases e),λT3=>zu (T1.2 T3)⟩,rfl,C⟩
  ·have d:decide ((0:Int)<=z)=false:=by simp only[Zb];exact e
   refine bB @d ⟨?_⟩
   exact⟨⟨false,rfl,λ_=>T1.1 Zo,λ_=>rfl⟩,rfl,C⟩
def AM{n b:Int}(f:0<=n)(Y:0<=b)(g:b<=64):ag .shr (.int .u64 n) (.Z b)=some (.int .u64 (n/2^b.toNat)):=by
 have a:kf b 0=false:=by rw[jr];simp;omega
 have c:min b.toNat IntKind.u64.bits=b.toNat:=by
  have:IntKind.u64.bits=64:=rfl
  rw[this];omega
 have d:n.fdiv (2^b.toNat)=n/2^b.toNat:=Int.fdiv_eq_ediv_of_nonneg _ (by exact Int.le_of_lt (Int.pow_pos Zd))
 simp only[ag,fK,cO,pg,a,fz,c,d,gH,ry]
def xp{n:Int}(a:0<=n)(k:Nat):n/2^k=0↔n<2^k:=by
 have b:(0:Int)<2^k:=Int.pow_pos Zd
 constructor
 ·intro e
  have:=Int.lt_mul_ediv_self_add (x:=n) b
  rw[e]at this;simpa using this
 ·exact λe=>Int.ediv_eq_zero_of_lt a e
def yN{t:d7}(e:eu t=true):1<=t.w/\t.w<=64:=by
 obtain⟨b,s,w⟩:=t
 cases b<;>cases s<;>simp[eu]at e<;>(simp;omega)
def HO(n:dR X){j:bg}{v:q}(C:(o X).aN<=nx)(T1:bR X S P j v)(T0:∀G,P G->G<nx)(x:j.kind=1)(r:eu j.ty=true)(f:mU j):
 aJ X 101 [v] S nx (λL B nx'=>L= .bool (decide (j.n<2^(fI j.ty).toNat))/\aX X S nx B nx') zG:=by
 refine zB n.todV (Bw X) ?_
 rw[Bx]
 unfold vt
 obtain⟨b,au,bL,aB,rfl,Y,a0,aE,aW,a3,a4,a5,dS,dW,dA,T3,has⟩:=T1.root (by rw[x];decide)
 have w:=T0 b Y
 have T5:=yN r
 have t:decide (j.kind=1)=true:=by simp[x]
 have T4:eP j.ty=[.bool j.ty.b, .bool j.ty.s, .Z j.ty.w]:=rfl
 have z:br X S 3 (.ptr b 4)=some (.agg (eP j.ty)):=by rw[hm,a4,a5,dS];rfl
 have O:=xp f.aG (fI j.ty).toNat
 have d:decide (j.n/2^(fI j.ty).toNat=0)=decide (j.n<2^(fI j.ty).toNat):=by rw[decide_eq_decide];exact O
 cases g:j.ty.s with
 |true=>
  have p:fI j.ty=j.ty.w-1:=by unfold fI;rw[g];rfl
  rw[p]at d ⊢
  rw[g]at a5
  have Z:ag .sub (.Z j.ty.w) (.Z 1)=some (.Z (j.ty.w-1)):=g0 Zo Zo
  have c:decide (j.ty.w-1=64)=false:=zJ
  have s:=AM (b:=j.ty.w-1) f.aG Zo Zo
  refine dp @a5 @dS @Z @a0 @t @z ⟨?_⟩
  refine(r1 (nx:=nx) (S:=S) n.todV j.ty C).Zm ?_
  rintro L ay aG ⟨rfl,a⟩
  have i:W X ay (.ptr b 7)=some (.int .u64 j.n):=by rw[a.cW _ _ w];exact dW
  rw[r]
  refine cw @c @i @s ⟨?_⟩
  exact⟨by rw[d],a⟩
 |false=>
  have p:fI j.ty=j.ty.w:=by unfold fI;rw[g];rfl
  rw[p]at d ⊢
  rw[g]at a5
  refine db @a5 @dS @a0 @t @z ⟨?_⟩
  refine(r1 (nx:=nx) (S:=S) n.todV j.ty C).Zm ?_
  rintro L ay aG ⟨rfl,a⟩
  have i:W X ay (.ptr b 7)=some (.int .u64 j.n):=by rw[a.cW _ _ w];exact dW
  rw[r]
  by_cases m:j.ty.w=64
  ·have c:decide (j.ty.w=64)=true:=by simp[m]
   have T2:decide (j.n<2^j.ty.w.toNat)=true:=by rw[m];simp only[Zc];exact f.aL
   refine bB @c ⟨?_⟩
   exact⟨by rw[T2],a⟩
  ·have c:decide (j.ty.w=64)=false:=by simp[m]
   have s:=AM (b:=j.ty.w) f.aG Zo Zo
   refine cw @c @i @s ⟨?_⟩
   exact⟨by rw[d],a⟩
end
def jG(k:Int):Option (Int×Bool×Bool×Bool):=
 if k=1 then some (0,false,true,true)else if k=2 then some (0,true,false,false)else if k=3\/k=4\/k=5 then some (1,false,false,false)else if k=6 then some (1,true,false,false)
 else if k=19\/k=20 then some (1,false,false,true)else if k=23 then some (3,false,false,false)else if k=24 then some (2,true,false,false)else if k=25 then some (-1,true,false,false)
 else if k=26 then some (1,false,true,false)else none
def hS(s:Int×Bool×Bool×Bool):List q:=[.Z s.1, .bool s.2.1, .bool s.2.2.1, .bool s.2.2.2]
structure jN(X:bQ):Prop where
 at_:∀S,∃v,W X S (.ptr 1 0)=some v/\∀k:Int,gn X S 3 (.agg [.Z 0, .zF, .zF, .zF]) v (.Z k) true=some (.tuple [.agg (hS ((jG k).getD (0,false,false,false))), .bool (jG k).isSome])
def Kn{k:Int}(a:1<=k)(b:k<=26):∃s:Int×Bool×Bool×Bool,(jG k).getD (2,false,false,false)=s/\(s.1=match l2 k with|none=> -1|some m=>(m:Int))/\(s.2.1=true↔eG k)/\(s.2.2.1=true↔fC k)/\(s.2.2.2=true↔(k=1\/k=19\/k=20)):=by
 refine⟨_,rfl, ?_⟩
 unfold eG fC
 rcases(show k=1\/k=2\/k=3\/k=4\/k=5\/k=6\/k=7\/k=8\/k=9\/k=10\/k=11\/k=12\/k=13\/k=14\/k=15\/k=16\/k=17\/k=18\/k=19\/k=20\/k=21\/k=22\/k=23\/k=24\/k=25\/k=26 by omega)with rfl|rfl|rfl|rfl|rfl|rfl|rfl|rfl|rfl|rfl|rfl|rfl|rfl|rfl|rfl|rfl|rfl|rfl|rfl|rfl|rfl|rfl|rfl|rfl|rfl|rfl<;>exact⟨Zd,Zd,Zd,Zd⟩
section
variable{X:bQ}{S B cE ay aM:F ac}{nx nx' aG aL bw:Nat}{bm d0 P:Nat->Prop}
def Lh:bZ X S .neq 50 false (.agg [.zF, .zF, .Z 0]) (.agg [.zF, .zF, .Z 0])=some .zF:=Zk
def Lm(n:Nat):bZ X S .neq 50 false (.agg [.zF, .zF, .Z (.ofNat (n+1))]) (.agg [.zF, .zF, .Z 0])=some .zT:=Zk
def Ll(n:Nat):bZ X S .neq 50 false (.agg [.zF, .zF, .Z (.negSucc n)]) (.agg [.zF, .zF, .Z 0])=some .zT:=Zk
def Li(w:Int):bZ X S .neq 50 false (.agg [.zT, .zF, .Z w]) (.agg [.zF, .zF, .Z 0])=some .zT:=Zk
def Lj(w:Int):bZ X S .neq 50 false (.agg [.zF, .zT, .Z w]) (.agg [.zF, .zF, .Z 0])=some .zT:=Zk
def Lk(w:Int):bZ X S .neq 50 false (.agg [.zT, .zT, .Z w]) (.agg [.zF, .zF, .Z 0])=some .zT:=Zk
def o8(t:d7):bZ X S .neq 50 false (.agg [.bool t.b, .bool t.s, .Z t.w]) (.agg [.zF, .zF, .Z 0])=some (.bool (decide (t≠ck))):=by
 obtain⟨b,s,w⟩:=t
 cases b<;>cases s
 ·match w with
  | .ofNat 0=>exact Lh
  | .ofNat (n+1)=>rw[show decide ((⟨false,false, .ofNat (n+1)⟩:d7)≠ck)=true from by simp[ck];omega];exact Lm n
  | .negSucc n=>rw[show decide ((⟨false,false, .negSucc n⟩:d7)≠ck)=true from by simp[ck]];exact Ll n
 ·rw[show decide ((⟨false,true,w⟩:d7)≠ck)=true from by simp[ck]];exact Lj w
 ·rw[show decide ((⟨true,false,w⟩:d7)≠ck)=true from by simp[ck]];exact Li w
 ·rw[show decide ((⟨true,true,w⟩:d7)≠ck)=true from by simp[ck]];exact Lk w
def Ex:bZ X S .neq 4 false .zF .zF=some .zF:=Zk
def Ey:bZ X S .neq 4 false .zF .zT=some .zT:=Zk
def Ez:bZ X S .neq 4 false .zT .zF=some .zT:=Zk
def EA:bZ X S .neq 4 false .zT .zT=some .zF:=Zk
def ol(a b:Bool):bZ X S .neq 4 false (.bool a) (.bool b)=some (.bool (a != b)):=by
 cases a<;>cases b
 ·exact Ex
 ·exact Ey
 ·exact Ez
 ·exact EA
def Aj(b:Nat):bZ X S .neq 59 true (.ptr b 0) .bt=some .zT:=Zk
def Jd:bZ X S .neq 59 true .bt .bt=some .zF:=Zk
def IM{s:aT}(e:c4 s=true):s≠[]:=by intro j;subst j;exact absurd e Zd
set_option maxRecDepth 100000 in
def HZ(UZ:dR X)(VQ:jN X){j:bg}{v:q}(Vx:(o X).aN<=nx)(VB:bR X S P j v)(Ul:∀d,P d->d<nx)(VT:j.kind≠ -1)(VC:mU j)(Vs:∀a∈j.args,mU a):
 aJ X 75 [v] S nx (λL B nx'=>(∃T4:Bool,L= .bool T4/\(T4=true↔gQ j))/\aX X S nx B nx') zG:=by
 refine zB UZ.todV (Dg X) ?_
 rw[Dh]
 unfold wz
 obtain⟨b,au,bL,aB,rfl,Y,a0,aE,aW,a3,a4,a5,dS,dW,dA,V3,has⟩:=VB.root VT
 have w:=Ul b Y
 obtain⟨dC,VS,gk⟩:=VQ.at_ S
 have VE:=gk j.kind
 have bad:∀B ah,¬gQ j->aX X S nx B ah->(∃T4:Bool,q.bool false= .bool T4/\(T4=true↔gQ j))/\aX X S nx B ah:=λB ah Y VO=>⟨⟨false,rfl,(λe=>by cases e),λe=>absurd e Y⟩,VO⟩
 obtain⟨s,UD⟩:∃s,(jG j.kind).getD (2,false,false,false)=s:=⟨_,rfl⟩
 have Va:∀J:Int×Bool×Bool×Bool,hS J=[.Z J.1, .bool J.2.1, .bool J.2.2.1, .bool J.2.2.2]:=λ_=>rfl
 rw[Va]at VE
 refine c3 @VS @a0 @VE ⟨?_⟩
 refine cQ (λc B ah=>c.g 0=some (.ptr b 0)/\c.g 3=some (.ptr (nx+9) 0)/\aX X S nx B ah/\nx+9<ah/\H X B (nx+9)=zy (hS s) 4) (λE f=> ?_) ?_
 ·cases C:jG j.kind with
  |some J=>
   rw[C]at UD
   simp only[Y0]at UD
   subst UD
   simp only[Y0,Ya]
   refine bh ⟨?_⟩
   exact f _ _ _ ⟨aI,aI,dJ,Zo,by rw[a7 Zo];rfl⟩
  |none=>
   rw[C]at UD
   simp only[Option.getD_none]at UD
   subst UD
   simp only[Option.getD_none,Z4]
   refine bh ⟨?_⟩
   exact f _ _ _ ⟨aI,aI,dJ,Zo,by rw[a7 Zo];rfl⟩
 rintro y ay aG ⟨t0,t3,T5,Vy,Uw⟩
 have rd:∀B,Go.Q.H X B (nx+9)=zy (hS s) 4->W X B (.ptr (nx+9) 0)=some (.Z s.1)/\W X B (.ptr (nx+9) 1)=some (.bool s.2.1)/\W X B (.ptr (nx+9) 2)=some (.bool s.2.2.1)/\W X B (.ptr (nx+9) 3)=some (.bool s.2.2.2):=λB e=>
  ⟨by rw[aZ e];rfl,by rw[aZ e];rfl,by rw[aZ e];rfl,by rw[aZ e];rfl⟩
 obtain⟨T6,z,G,Uf⟩:=rd ay Uw
 have UF:W X ay (.ptr b 0)=some (.Z j.kind):=by rw[T5.cW _ _ w];exact a0
 have Ui:W X ay (.ptr b 8)=some au:=by rw[T5.cW _ _ w];exact dA
 have V1:=V3.len
 have VR:=has.len
 rw[Zn,VR]at V1
 have V4:∀d,P d->H X ay d=H X S d:=λd Ud=>T5.R d (Ul d Ud)
 have VV:=T5.le
 by_cases bc:j.kind<1
 ·have UI:decide (j.kind<1)=true:=by simp only[Zc];exact bc
  refine cw @t0 @UF @UI ⟨?_⟩
  exact bad _ _ (λe=>zu e.bc) (T5.more Zo)
 have UI:decide (j.kind<1)=false:=by simp only[Zb];exact bc
 by_cases bl:26<j.kind
 ·have US:decide ((26:Int)<j.kind)=true:=by simp only[Zc];exact bl
  refine cV @t0 @UF @UI @US ⟨?_⟩
  exact bad _ _ (λe=>zu e.bl) (T5.more Zo)
 have US:decide ((26:Int)<j.kind)=false:=by simp only[Zb];exact bl
 obtain⟨W8,VF,UN,VK,VL,Uu⟩:=Kn (k:=j.kind) Zo Zo
 rw[UD]at VF
 subst VF
 by_cases Um:0<=s.1/\(j.args.length:Int)≠s.1
 ·have UT:decide ((0:Int)<=s.1)=true:=by simp only[Zc];exact Um.1
  have Uv:decide ((j.args.length:Int)≠s.1)=true:=by simp only[Zc];exact Um.2
  refine bo @t0 @t3 @UF @UI @US @T6 (Za @UT (Za @Ui (Za @V1 (Za @T6 @Uv)))) ⟨?_⟩
  refine bad _ _ (λe=> ?_) (T5.more Zo)
  cases T9:l2 j.kind with
  |none=>rw[T9]at UN;simp only at UN;omega
  |some m=>rw[T9]at UN;simp only at UN;have:=e.w3 m T9;omega
 have V9:∀m,l2 j.kind=some m->j.args.length=m:=λm T9=>by
  rw[T9]at UN
  simp only at UN
  by_cases e:(j.args.length:Int)=s.1
  ·omega
  ·exact absurd ⟨Zo,e⟩ Um
 apply kN
 ·intro Ve
  by_cases Uy:0<=s.1
  all_goals
   first
   |(
     have UT:decide ((0:Int)<=s.1)=true:=by simp only[Zc];exact Uy
     have Uv:decide ((j.args.length:Int)≠s.1)=false:=by simp only[Zb];exact λe=>Um ⟨Uy,e⟩
     refine c3 @t0 @t3 (Za @UF (Za @UI (Za @US (Za @T6 (Za @UT (Za @Ui (Za @V1 (Za @T6 @Uv)))))))) ⟨?_⟩)
   |(
     have UT:decide ((0:Int)<=s.1)=false:=by simp only[Zb];exact Uy
     refine c3 @t0 @t3 (Za @UF (Za @UI (Za @US (Za @T6 (Za @UT @Ui))))) ⟨?_⟩)
   refine(Ej (nx:=aG+34) (S:=ay) UZ (V3.R V4) (dt.to V4 (λ_ e=>e) _ _ has)).Zm ?_
   rintro L aM aL ⟨⟨T4,rfl,VA⟩,rfl,Vu⟩
   cases T4 with
   |true=>
    refine bh ⟨?_⟩
    exact bad _ _ (λe=>by have:=VA.2 e.gr;cases this) (T5.more Zo)
   |false=>
    have Uo:=VA.1 rfl
    refine hl ⟨?_⟩
    refine cQ (λc B ah=>(∀a∈j.args,a.kind≠ -1)/\c.g 0=some (.ptr b 0)/\c.g 3=some (.ptr (nx+9) 0)/\aX X S nx B ah/\nx+9<ah/\H X B (nx+9)=zy (hS s) 4) (λE f=> ?_) ?_
    ·refine bh ⟨?_⟩
     exact f _ _ _ ⟨Uo,al t0,al t3,T5.more Zo,Zo,Uw⟩
    exact Ve.out
 clear t0 t3 T5 Uw T6 z G Uf UF Ui V4 VV
 rintro y Ug W3 ⟨Uo,t0,t3,p,Vz,UK⟩
 obtain⟨T6,z,G,Uf⟩:=rd Ug UK
 have VW:=p.le
 have U6:W X Ug (.ptr b 2)=some (.str j.name):=by rw[p.cW _ _ w];exact aW
 have t:W X Ug (.ptr b 3)=some (.bool j.no):=by rw[p.cW _ _ w];exact a3
 have UQ:W X Ug (.ptr b 0)=some (.Z j.kind):=by rw[p.cW _ _ w];exact a0
 apply kN
 ·intro Us
  cases TZ:s.2.1 with
  |true=>
   have U5:=VK.1 TZ
   rw[TZ]at z
   by_cases TY:j.name=[]
   ·have g:decide (j.name≠[])=false:=by simp[TY]
    have T7:((true:Bool) != false)=true:=rfl
    refine bo @t0 @t3 @z @U6 @g @ol @T7 ⟨?_⟩
    exact bad _ _ (λe=>IM (e.nm U5) TY) (p.more Zo)
   ·have g:decide (j.name≠[])=true:=by simp[TY]
    have T7:((true:Bool) != true)=false:=rfl
    refine c3 @t0 @t3 (Za @z (Za @U6 (Za @g (Za @ol @T7)))) ⟨?_⟩
    refine p7 UZ VC.nm ?_
    cases V2:c4 j.name with
    |false=>
     refine bh ⟨?_⟩
     exact bad _ _ (λe=>by have:=e.nm U5;rw[V2]at this;cases this) (p.more Zo)
    |true=>
     by_cases T1:j.no=true/\j.kind≠6
     ·have U7:decide (j.kind≠6)=true:=by simp only[Zc];exact T1.2
      rw[T1.1]at t
      refine db @t0 @t3 @t @UQ @U7 ⟨?_⟩
      exact bad _ _ (λe=>T1.2 (e.no T1.1)) (p.more Zo)
     ·have UB:j.no=true->j.kind=6:=λe=>Decidable.byContradiction λi=>T1 ⟨e,i⟩
      cases C:j.no with
      |true=>
       have U7:decide (j.kind≠6)=false:=by simp[UB C]
       rw[C]at t
       refine c3 @t0 @t3 (Za @t (Za @UQ @U7)) ⟨?_⟩
       refine cQ (λc B ah=>((eG j.kind->c4 j.name=true)/\(¬eG j.kind->j.name=[])/\(j.no=true->j.kind=6))/\c.g 0=some (.ptr b 0)/\c.g 3=some (.ptr (nx+9) 0)/\aX X S nx B ah/\nx+9<ah/\H X B (nx+9)=zy (hS s) 4) (λE f=> ?_) ?_
       ·refine bh ⟨?_⟩
        exact f _ _ _ ⟨⟨λ_=>V2,λe=>absurd U5 e,UB⟩,al t0,al t3,p.more Zo,Zo,UK⟩
       exact Us.out
      |false=>
       rw[C]at t
       refine c3 @t0 @t3 @t ⟨?_⟩
       refine cQ (λc B ah=>((eG j.kind->c4 j.name=true)/\(¬eG j.kind->j.name=[])/\(j.no=true->j.kind=6))/\c.g 0=some (.ptr b 0)/\c.g 3=some (.ptr (nx+9) 0)/\aX X S nx B ah/\nx+9<ah/\H X B (nx+9)=zy (hS s) 4) (λE f=> ?_) ?_
       ·refine bh ⟨?_⟩
        exact f _ _ _ ⟨⟨λ_=>V2,λe=>absurd U5 e,UB⟩,al t0,al t3,p.more Zo,Zo,UK⟩
       exact Us.out
  |false=>
   have U5:¬eG j.kind:=λe=>by have:=VK.2 e;rw[TZ]at this;cases this
   rw[TZ]at z
   by_cases TY:j.name=[]
   ·have g:decide (j.name≠[])=false:=by simp[TY]
    have T7:((false:Bool) != false)=false:=rfl
    by_cases T1:j.no=true/\j.kind≠6
    ·have U7:decide (j.kind≠6)=true:=by simp only[Zc];exact T1.2
     rw[T1.1]at t
     refine bo @t0 @t3 @z @U6 @g @ol (Za @T7 (Za @t (Za @UQ @U7))) ⟨?_⟩
     exact bad _ _ (λe=>T1.2 (e.no T1.1)) (p.more Zo)
    ·have UB:j.no=true->j.kind=6:=λe=>Decidable.byContradiction λi=>T1 ⟨e,i⟩
     cases C:j.no with
     |true=>
      have U7:decide (j.kind≠6)=false:=by simp[UB C]
      rw[C]at t
      refine c3 @t0 @t3 (Za @z (Za @U6 (Za @g (Za @ol (Za @T7 (Za @t (Za @UQ @U7))))))) ⟨?_⟩
      refine cQ (λc B ah=>((eG j.kind->c4 j.name=true)/\(¬eG j.kind->j.name=[])/\(j.no=true->j.kind=6))/\c.g 0=some (.ptr b 0)/\c.g 3=some (.ptr (nx+9) 0)/\aX X S nx B ah/\nx+9<ah/\H X B (nx+9)=zy (hS s) 4) (λE f=> ?_) ?_
      ·refine bh ⟨?_⟩
       exact f _ _ _ ⟨⟨λe=>absurd e U5,λ_=>TY,UB⟩,al t0,al t3,p.more Zo,Zo,UK⟩
      exact Us.out
     |false=>
      rw[C]at t
      refine c3 @t0 @t3 (Za @z (Za @U6 (Za @g (Za @ol (Za @T7 @t))))) ⟨?_⟩
      refine cQ (λc B ah=>((eG j.kind->c4 j.name=true)/\(¬eG j.kind->j.name=[])/\(j.no=true->j.kind=6))/\c.g 0=some (.ptr b 0)/\c.g 3=some (.ptr (nx+9) 0)/\aX X S nx B ah/\nx+9<ah/\H X B (nx+9)=zy (hS s) 4) (λE f=> ?_) ?_
      ·refine bh ⟨?_⟩
       exact f _ _ _ ⟨⟨λe=>absurd e U5,λ_=>TY,UB⟩,al t0,al t3,p.more Zo,Zo,UK⟩
      exact Us.out
   ·have g:decide (j.name≠[])=true:=by simp[TY]
    have T7:((false:Bool) != true)=true:=rfl
    refine bo @t0 @t3 @z @U6 @g @ol @T7 ⟨?_⟩
    exact bad _ _ (λe=>TY (e.yT U5)) (p.more Zo)
 clear t0 t3 p UK T6 z G Uf U6 t UQ VW
 rintro y UO Vm ⟨⟨Vi,Vj,Vk⟩,t0,t3,T0,W0,Uk⟩
 obtain⟨T6,z,G,Uf⟩:=rd UO Uk
 have VX:=T0.le
 have Vb:eP j.ty=[.bool j.ty.b, .bool j.ty.s, .Z j.ty.w]:=rfl
 have UA:br X UO 3 (.ptr b 4)=some (.agg (eP j.ty)):=by rw[hm,T0.cW _ _ w,T0.cW _ _ w,T0.cW _ _ w,a4,a5,dS];rfl
 apply kN
 ·intro Ut
  cases TZ:s.2.2.1 with
  |true=>
   have UE:=VL.1 TZ
   rw[TZ]at G
   refine c3 @t0 @t3 (Za @G @UA) ⟨?_⟩
   refine(r1 (nx:=Vm) (S:=UO) UZ.todV j.ty Zo).Zm ?_
   rintro L Uh Vn ⟨rfl,Uz⟩
   have Vv:=Uz.le
   have UY:aX X S nx Uh Vn:=T0.trans (Uz.jz Zo)
   cases T9:eu j.ty with
   |false=>
    refine bh ⟨?_⟩
    exact bad _ _ (λe=>by have:=e.ty UE;rw[T9]at this;cases this) (UY.more Zo)
   |true=>
    have Ux:H X Uh (nx+9)=zy (hS s) 4:=by rw[Uz.R _ Zo];exact Uk
    have UR:W X Uh (.ptr b 7)=some (.int .u64 j.n):=by rw[UY.cW _ _ w];exact dW
    obtain⟨_,_,_,T2⟩:=rd Uh Ux
    cases U0:s.2.2.2 with
    |true=>
     have UC:=Uu.1 U0
     rw[U0]at T2
     refine c3 @t0 @t3 @T2 ⟨?_⟩
     refine cQ (λc B ah=>((fC j.kind->eu j.ty=true)/\(¬fC j.kind->j.ty=ck)/\(¬(j.kind=1\/j.kind=19\/j.kind=20)->j.n=0))/\c.g 0=some (.ptr b 0)/\aX X S nx B ah) (λE f=> ?_) ?_
     ·refine bh ⟨?_⟩
      exact f _ _ _ ⟨⟨λ_=>T9,λe=>absurd UE e,λe=>absurd UC e⟩,al t0,UY.more Zo⟩
     exact Ut.out
    |false=>
     have UC:¬(j.kind=1\/j.kind=19\/j.kind=20):=λe=>by have:=Uu.2 e;rw[U0]at this;cases this
     rw[U0]at T2
     by_cases U1:j.n=0
     ·have g:decide (j.n≠0)=false:=by simp[U1]
      refine c3 @t0 @t3 (Za @T2 (Za @UR @g)) ⟨?_⟩
      refine cQ (λc B ah=>((fC j.kind->eu j.ty=true)/\(¬fC j.kind->j.ty=ck)/\(¬(j.kind=1\/j.kind=19\/j.kind=20)->j.n=0))/\c.g 0=some (.ptr b 0)/\aX X S nx B ah) (λE f=> ?_) ?_
      ·refine bh ⟨?_⟩
       exact f _ _ _ ⟨⟨λ_=>T9,λe=>absurd UE e,λ_=>U1⟩,al t0,UY.more Zo⟩
      exact Ut.out
     ·have g:decide (j.n≠0)=true:=by simp[U1]
      refine db @t0 @t3 @T2 @UR @g ⟨?_⟩
      exact bad _ _ (λe=>U1 (e.aN UC)) (UY.more Zo)
  |false=>
   have UE:¬fC j.kind:=λe=>by have:=VL.2 e;rw[TZ]at this;cases this
   rw[TZ]at G
   rw[Vb]at UA
   have Ux:=Uk
   by_cases Uc:j.ty=ck
   ·have UU:decide (j.ty≠ck)=false:=by simp[Uc]
    have UR:W X UO (.ptr b 7)=some (.int .u64 j.n):=by rw[T0.cW _ _ w];exact dW
    obtain⟨_,_,_,T2⟩:=rd UO Ux
    cases U0:s.2.2.2 with
    |true=>
     have UC:=Uu.1 U0
     rw[U0]at T2
     refine c3 @G @UA (Za @o8 (Za @UU (Za @t0 (Za @t3 @T2)))) ⟨?_⟩
     refine cQ (λc B ah=>((fC j.kind->eu j.ty=true)/\(¬fC j.kind->j.ty=ck)/\(¬(j.kind=1\/j.kind=19\/j.kind=20)->j.n=0))/\c.g 0=some (.ptr b 0)/\aX X S nx B ah) (λE f=> ?_) ?_
     ·refine bh ⟨?_⟩
      exact f _ _ _ ⟨⟨λe=>absurd e UE,λ_=>Uc,λe=>absurd UC e⟩,al t0,T0.more Zo⟩
     exact Ut.out
    |false=>
     have UC:¬(j.kind=1\/j.kind=19\/j.kind=20):=λe=>by have:=Uu.2 e;rw[U0]at this;cases this
     rw[U0]at T2
     by_cases U1:j.n=0
     ·have g:decide (j.n≠0)=false:=by simp[U1]
      refine c3 @G @UA (Za @o8 (Za @UU (Za @t0 (Za @t3 (Za @T2 (Za @UR @g)))))) ⟨?_⟩
      refine cQ (λc B ah=>((fC j.kind->eu j.ty=true)/\(¬fC j.kind->j.ty=ck)/\(¬(j.kind=1\/j.kind=19\/j.kind=20)->j.n=0))/\c.g 0=some (.ptr b 0)/\aX X S nx B ah) (λE f=> ?_) ?_
      ·refine bh ⟨?_⟩
       exact f _ _ _ ⟨⟨λe=>absurd e UE,λ_=>Uc,λ_=>U1⟩,al t0,T0.more Zo⟩
      exact Ut.out
     ·have g:decide (j.n≠0)=true:=by simp[U1]
      refine bo @G @UA @o8 @UU @t0 @t3 (Za @T2 (Za @UR @g)) ⟨?_⟩
      exact bad _ _ (λe=>U1 (e.aN UC)) (T0.more Zo)
   ·have UU:decide (j.ty≠ck)=true:=by simp[Uc]
    refine dp @t0 @t3 @G @UA @o8 @UU ⟨?_⟩
    exact bad _ _ (λe=>Uc (e.ck UE)) (T0.more Zo)
 clear t0 t3 T0 Uk T6 z G Uf VX UA
 rintro y UP Vo ⟨⟨VJ,Vl,Vh⟩,t0,n⟩
 have Vw:=n.le
 have T3:W X UP (.ptr b 0)=some (.Z j.kind):=by rw[n.cW _ _ w];exact a0
 have V8:W X UP (.ptr b 7)=some (.int .u64 j.n):=by rw[n.cW _ _ w];exact dW
 have UG:W X UP (.ptr b 8)=some au:=by rw[n.cW _ _ w];exact dA
 have V5:∀d,P d->H X UP d=H X S d:=λd Ud=>n.R d (Ul d Ud)
 have mk:(j.kind=19\/j.kind=20->j.n<=63)->(j.kind=1->j.n<2^(fI j.ty).toNat)->(j.kind=21->kX j.args)->gQ j:=λU3 i U4=>⟨Zo,Zo,V9,Uo,Vi,Vj,Vk,VJ,Vl,Vh,U3,i,U4⟩
 show N _ _
 by_cases U3:j.kind=1
 ·have O:decide (j.kind=1)=true:=by simp[U3]
  refine cw @t0 @T3 @O ⟨?_⟩
  refine(HO (nx:=Vo) (S:=UP) UZ Zo (bR.to V5 (λ_ e=>e) _ _ VB) (λd Ud=>zu (Ul d Ud)) U3 (VJ (.inl U3)) VC).Zm ?_
  rintro L Vr W4 ⟨rfl,VP⟩
  exact⟨⟨_,rfl,by rw[Zc];exact⟨λe=>mk (λe=>Zo) (λ_=>e) (λe=>Zo),λe=>e.yS U3⟩⟩,n.trans (VP.jz Zo)⟩
 have O:decide (j.kind=1)=false:=by simp[U3]
 by_cases UW:j.kind=19\/j.kind=20
 ·rcases UW with UW|rJ
  ·have Z:decide (j.kind=19)=true:=by simp[UW]
   refine db @t0 @T3 @O @Z @V8 ⟨?_⟩
   exact⟨⟨_,rfl,by rw[Zc];exact⟨λe=>mk (λ_=>e) (λe=>Zo) (λe=>Zo),λe=>e.c6 (.inl UW)⟩⟩,n.more Zo⟩
  ·have Z:decide (j.kind=19)=false:=by simp[rJ]
   have T8:decide (j.kind=20)=true:=by simp[rJ]
   refine dp @t0 @T3 @O @Z @T8 @V8 ⟨?_⟩
   exact⟨⟨_,rfl,by rw[Zc];exact⟨λe=>mk (λ_=>e) (λe=>Zo) (λe=>Zo),λe=>e.c6 (.inr rJ)⟩⟩,n.more Zo⟩
 have Z:decide (j.kind=19)=false:=zJ
 have T8:decide (j.kind=20)=false:=zJ
 by_cases UX:j.kind=21
 ·have U2:decide (j.kind=21)=true:=by simp[UX]
  have VD:=V9 2 (by rw[UX];decide)
  obtain⟨h,r,Ua⟩:∃h r,j.args=h::r:=by
   cases C:j.args with
   |nil=>rw[C]at VD;simp at VD
   |cons h r=>exact⟨h,r,rfl⟩
  have VY:h∈j.args:=by rw[Ua];exact Zl ..
  obtain⟨aa,VZ,VU⟩:=has.get 0 h (by rw[Ua];rfl)
  obtain⟨Vq,UM,W6⟩:=(V3.R V5).one VZ
  obtain⟨b7,Vg,Vf,W2,rfl,Vt,UH,_,_,_,_,_,_,_,Uj,VI,VH⟩:=(bR.to V5 (λ_ e=>e) _ _ VU).root (Uo h VY)
  have UL:bH 1 au (.Z 0)=some (.ptr bL 0):=Vq
  have VN:∀(Ub:kX j.args),(∃T4:Bool,q.bool true= .bool T4/\(T4=true↔gQ j)):=λUb=>⟨true,rfl,λ_=>mk (λe=>Zo) (λe=>Zo) λ_=>Ub,λ_=>rfl⟩
  have no:∀(Ub:¬kX j.args),¬gQ j:=λUb e=>Ub (e.jm UX)
  have inv:kX j.args->h.kind=1\/h.kind=4/\∃d,h.args=[d]/\d.kind=1:=λ⟨x,W7,i,U4⟩=>by
   rw[Ua]at i
   cases i
   exact U4
  by_cases U9:h.kind=1
  ·have U8:decide (h.kind=1)=true:=by simp[U9]
   refine bo @t0 @T3 @O @Z @T8 @U2 (Za @UG (Za @UL (Za @UM (Za @UH @U8)))) ⟨?_⟩
   exact⟨VN ⟨h,r,Ua, .inl U9⟩,n.more Zo⟩
  have U8:decide (h.kind=1)=false:=by simp[U9]
  by_cases Un:h.kind=4
  ·have UJ:decide (h.kind=4)=true:=by simp[Un]
   have Ue:=VI.len
   rw[Zn,VH.len]at Ue
   by_cases V0:h.args.length=1
   ·have UV:decide ((h.args.length:Int)=1)=true:=zK
    obtain⟨x,Up⟩:=List.length_eq_one_iff.1 V0
    obtain⟨WA,Vd,VG⟩:=VH.get 0 x (by rw[Up];rfl)
    obtain⟨Vp,V7,W5⟩:=VI.one Vd
    have V6:bH 1 Vg (.Z 0)=some (.ptr Vf 0):=Vp
    by_cases Ur:x.kind= -1
    ·have Vc:=VG.nil Ur
     subst Vc
     refine bo @t0 @T3 @O @Z @T8 @U2 (Za @UG (Za @UL (Za @UM (Za @UH (Za @U8 (Za @UJ (Za @Uj (Za @Ue (Za @UV (Za @V6 (Za @V7 @Jd))))))))))) ⟨?_⟩
     refine bad _ _ (no λe=> ?_) (n.more Zo)
     rcases inv e with e|⟨_,d,i,U4⟩
     ·exact U9 e
     ·rw[Up]at i;cases i;rw[U4]at Ur;cases Ur
    ·obtain⟨W9,_,_,_,rfl,W1,VM,_⟩:=VG.root Ur
     by_cases Uq:x.kind=1
     ·have ex:decide (x.kind=1)=true:=by simp[Uq]
      refine bo @t0 @T3 @O @Z @T8 @U2 (Za @UG (Za @UL (Za @UM (Za @UH (Za @U8 (Za @UJ (Za @Uj (Za @Ue (Za @UV (Za @V6 (Za @V7 (Za @Aj (Za @VM @ex))))))))))))) ⟨?_⟩
      exact⟨VN ⟨h,r,Ua, .inr ⟨Un,x,Up,Uq⟩⟩,n.more Zo⟩
     ·have ex:decide (x.kind=1)=false:=by simp[Uq]
      refine bo @t0 @T3 @O @Z @T8 @U2 (Za @UG (Za @UL (Za @UM (Za @UH (Za @U8 (Za @UJ (Za @Uj (Za @Ue (Za @UV (Za @V6 (Za @V7 (Za @Aj (Za @VM @ex))))))))))))) ⟨?_⟩
      refine bad _ _ (no λe=> ?_) (n.more Zo)
      rcases inv e with e|⟨_,d,i,U4⟩
      ·exact U9 e
      ·rw[Up]at i;cases i;exact Uq U4
   ·have UV:decide ((h.args.length:Int)=1)=false:=zJ
    refine bo @t0 @T3 @O @Z @T8 @U2 (Za @UG (Za @UL (Za @UM (Za @UH (Za @U8 (Za @UJ (Za @Uj (Za @Ue @UV)))))))) ⟨?_⟩
    refine bad _ _ (no λe=> ?_) (n.more Zo)
    rcases inv e with e|⟨_,d,i,U4⟩
    ·exact U9 e
    ·rw[i]at V0;exact V0 rfl
  ·have UJ:decide (h.kind=4)=false:=by simp[Un]
   refine bo @t0 @T3 @O @Z @T8 @U2 (Za @UG (Za @UL (Za @UM (Za @UH (Za @U8 @UJ))))) ⟨?_⟩
   refine bad _ _ (no λe=> ?_) (n.more Zo)
   rcases inv e with e|⟨e,_⟩
   ·exact U9 e
   ·exact Un e
 have U2:decide (j.kind=21)=false:=by simp[UX]
 refine dp @t0 @T3 @O @Z @T8 @U2 ⟨?_⟩
 exact⟨⟨true,rfl,λ_=>mk (λe=>absurd e UW) (λe=>absurd e U3) (λe=>absurd e UX),λ_=>rfl⟩,n.more Zo⟩
end
def hB(w:Int):Prop:=w=0\/w=1\/w=22
section
variable{X:bQ}{S B cE ay aM:F ac}{nx nx' aG aL bw:Nat}{bm d0 P:Nat->Prop}
def I8(b:Nat):bZ X S .eql 59 true (.ptr b 0) .bt=some .zF:=Zk
structure hb(X:bQ)(bp bF b7:Nat)(d w:Int)(S:F ac):Prop where
 pt:∃c,H X S bp=some (.cells c 1 .own)/\c.get 0=some (.Z d)
 wr:∃c,H X S bF=some (.cells c 1 .own)/\c.get 0=some (.Z w)
 look:W X S (.ptr b7 0)=some (.func (.func 74) [] [.ptr bp 0, .ptr bF 0, .ptr b7 0])
def hb.R{bp bF b7:Nat}{d w:Int}(e:hb X bp bF b7 d w ay)(k:∀a,a=bp\/a=bF\/a=b7->H X aM a=H X ay a):hb X bp bF b7 d w aM:=by
 exact⟨by rw[k bp (.inl rfl)];exact e.pt,by rw[k bF (.inr (.inl rfl))];exact e.wr,zF (k b7 (.inr (.inr rfl))) e.look⟩
def hb.xq{bp bF b7:Nat}{d b w:Int}(e:hb X bp bF b7 d w ay)(a:(o X).aN<=bp)(g:bF≠bp)(ap:b7≠bp){c:F q}(f:c.get 0=some (.Z b)):hb X bp bF b7 b w (aP X ay bp (some (.cells c 1 .own))):=
 ⟨⟨c,a7 a,f⟩,by rw[aV a g];exact e.wr,zF (aV a ap) e.look⟩
def hb.Be{bp bF b7:Nat}{d w aK:Int}(e:hb X bp bF b7 d w ay)(a:(o X).aN<=bF)(f:bF≠bp)(ap:b7≠bF){c:F q}(b:c.get 0=some (.Z aK)):hb X bp bF b7 d aK (aP X ay bF (some (.cells c 1 .own))):=
 ⟨by rw[aV a (λj=>f j.symm)];exact e.pt,⟨c,a7 a,b⟩,zF (aV a ap) e.look⟩
set_option maxRecDepth 100000 in
def HU(UJ:dR X)(Ud:jN X){bp bF b7 gK:Nat}(T3:(o X).aN<=bp)(T8:(o X).aN<=bF)(VA:(o X).aN<=gK)(V5:bp<gK)(VC:bF<gK)(V8:b7<gK)(T4:bF≠bp)(UL:b7≠bp)(UO:b7≠bF)(z:∀f,P f->f<gK/\f≠bp/\f≠bF):
 ∀(k:Nat),k<=200->∀(j:bg) (v:q) (S:F ac) (nx:Nat) (w:Int),gK<=nx->bR X S P j v->hy j->hB w->hb X bp bF b7 ((200-k:Nat):Int) w S->
  aJ X 74 [v, .ptr bp 0, .ptr bF 0, .ptr b7 0] S nx (λL B nx'=>L= .tuple []/\(∃aK,hB aK/\hb X bp bF b7 ((200-k:Nat):Int) aK B/\(aK=0↔w=0/\gb k j))/\nx<=nx'/\∀f,f<nx->f≠bp->f≠bF->H X B f=H X S f) zG:=by
 intro k
 induction k using Nat.strongRecOn with
 |_ k U=>
 intro V7 j v S nx w VB U6 U7 UN UH
 refine zB UJ.todV (De X) ?_
 rw[Df]
 unfold wy
 obtain⟨c,UZ,Ub⟩:=UH.pt
 have UW:ag .add (.Z ((200-k:Nat):Int)) (.Z 1)=some (.Z ((201-k:Nat):Int)):=by rw[ct Zo Zo,show((200-k:Nat):Int)+1=((201-k:Nat):Int) by omega]
 have UX:ag .sub (.Z ((201-k:Nat):Int)) (.Z 1)=some (.Z ((200-k:Nat):Int)):=by rw[g0 Zo Zo,show((201-k:Nat):Int) -1=((200-k:Nat):Int) by omega]
 refine c3 (aZ UZ) @Ub @UW ⟨?_⟩
 generalize U5:aP X S bp _=ay
 have U4:hb X bp bF b7 ((201-k:Nat):Int) w ay:=by rw[<-U5];exact UH.xq T3 T4 UL (hx c 0 _)
 have bc:∀f,f≠bp->H X ay f=H X S f:=λf p=>by rw[<-U5,aV T3 p]
 clear U5
 have Uw:∀f,P f->H X ay f=H X S f:=λf p=>bc f (z f p).2.1
 refine cQ (λUS B ah=>US.g 1=some (.ptr bp 0)/\(∃aK,hB aK/\hb X bp bF b7 ((201-k:Nat):Int) aK B/\(aK=0↔w=0/\gb k j))/\nx<=ah/\∀f,f<nx->f≠bp->f≠bF->H X B f=H X S f) (λE T5=> ?_) ?_
 ·have one:∀B ah (y:b8),¬gb k j->y.g 1=some (.ptr bp 0)->hb X bp bF b7 ((201-k:Nat):Int) w B->nx<=ah->(∀f,f<nx->f≠bp->H X B f=H X S f)->∀U0:F q,U0.get 0=some (.Z 1)->E y (aP X B bF (some (.cells U0 1 .own))) ah:=λB ah y Y Ur ap Um Uk U0 e1=>
   T5 _ _ _ ⟨Ur,⟨1, .inr (.inl rfl),ap.Be T8 T4 UO e1,(λe=>by cases e),λe=>absurd e.2 Y⟩,Um,λf i g r=>by rw[aV T8 r];exact Uk f i g⟩
  by_cases U8:j.kind= -1
  ·have Us:=U6.nil U8
   subst Us
   have Y:¬gb k j:=λe=>by
    cases k with
    |zero=>exact e
    |succ k=>have:=e.1.bc;omega
   obtain⟨UF,T0,T1⟩:=U4.wr
   refine bB @Ae ⟨?_⟩
   exact one _ _ _ Y (aI) U4 (Zp _) (λf _ g=>bc f g) _ (hx ..)
  ·obtain⟨b,au,bL,aB,rfl,Y,_,_,_,_,_,_,_,_,dA,UA,has⟩:=U6.root U8
   have Uh:=z b Y
   refine bB @I8 ⟨?_⟩
   refine(HZ (nx:=nx) (S:=ay) UJ Ud Zo (bR.to Uw (λ_ e=>e) _ _ U6) (λf p=>zu (z f p).1) U8 U7.root (λa C=>(U7.arg C).root)).Zm ?_
   rintro L aM aL ⟨⟨UU,rfl,UK⟩,T2⟩
   have T6:=T2.le
   have s:hb X bp bF b7 ((201-k:Nat):Int) w aM:=U4.R (λf p=>T2.R f (by rcases p with rfl|rfl|rfl<;>omega))
   have bl:∀f,f<nx->f≠bp->H X aM f=H X S f:=λf i g=>by rw[T2.R f i,bc f g]
   cases UU with
   |false=>
    have Ug:¬gb k j:=λe=>by
     cases k with
     |zero=>exact e
     |succ k=>have:=UK.2 e.1;cases this
    obtain⟨UF,T0,T1⟩:=s.wr
    refine bh ⟨?_⟩
    exact one _ _ _ Ug (aI) s T6 bl _ (hx ..)
   |true=>
    have Uo:=UK.1 rfl
    obtain⟨V4,U2,U3⟩:=s.pt
    cases k with
    |zero=>
     have Z:decide ((200:Int)<((201-0:Nat):Int))=true:=rfl
     obtain⟨UF,T0,T1⟩:=s.wr
     by_cases UB:w=0
     ·have U1:decide (w=0)=true:=by simp[UB]
      refine dp (aZ U2) @U3 @Z (aZ T0) @T1 @U1 ⟨?_⟩
      exact T5 _ _ _ ⟨aI,⟨22, .inr (.inr rfl),s.Be T8 T4 UO (hx ..),(λe=>by cases e),λe=>e.2.elim⟩,T6,λf i g r=>by rw[aV T8 r];exact bl f i g⟩
     ·have U1:decide (w=0)=false:=by simp[UB]
      refine dp (aZ U2) @U3 @Z (aZ T0) @T1 @U1 ⟨?_⟩
      exact T5 _ _ _ ⟨aI,⟨w,UN,s,λe=>absurd e UB,λe=>e.2.elim⟩,T6,λf i g _=>bl f i g⟩
    |succ k=>
     have Z:decide ((200:Int)<((201-(k+1):Nat):Int))=false:=zJ
     have UT:W X aM (.ptr b 8)=some au:=by rw[T2.cW _ _ Zo,bX,bc _ Uh.2.1, <-bX];exact dA
     have UM:=UA.len
     have Ui:=has.len
     have Uq:=UA.many
     rw[Zn,Ui]at UM Uq
     refine db (aZ U2) @U3 @Z @UT @UM ⟨?_⟩
     refine cM (λm y B ah=>∃(n:Nat) (aK:Int),y.g 1=some (.ptr bp 0)/\y.g 2=some (.ptr bF 0)/\y.g 3=some (.ptr b7 0)/\y.g 12=some au/\y.g 13=some (.Z (j.args.length:Int))/\y.g 14=some (.Z (n:Int))/\n+m=j.args.length
      /\hB aK/\hb X bp bF b7 ((201-(k+1):Nat):Int) aK B/\(aK=0↔w=0/\∀a∈j.args.take n,gb k a)/\nx<=ah/\∀f,f<nx->f≠bp->f≠bF->H X B f=H X S f)
      j.args.length ⟨0,w,aI,aI,aI,aI,aI,cx,Zo,UN,s,Zs,T6,λf i g _=>bl f i g⟩ ?_
     rintro m y TZ UQ ⟨n,aK,T9,Uz,t3,UR,UC,UD,V6,T7,t,G,U9,O⟩
     cases m with
     |zero=>
      have d:=zv n j.args.length
      rw[Zt Zo]at G
      refine cw @UD @UC @d ⟨?_⟩
      exact T5 _ _ _ ⟨al T9,⟨aK,T7,t,by rw[G];exact⟨λe=>⟨e.1,Uo,e.2⟩,λe=>⟨e.1,e.2.2⟩⟩⟩,U9,O⟩
     |succ m=>
      have d:=zw n j.args.length
      have UY:=zz n
      obtain⟨a,C⟩:=zx j.args n
      obtain⟨V1,Ut,Uf⟩:=has.get n a C
      have UP:∀f,P f->H X TZ f=H X S f:=λf p=>O f (zu (z f p).1) (z f p).2.1 (z f p).2.2
      obtain⟨Ux,Uy,VE⟩:=(UA.R UP).one Ut
      have Ue:=Zg C
      have Un:=t.look
      have UG:201-(k+1)=200-k:=Zo
      refine bo @UD @UC @UR @t3 @d @Ux (Za @Uy @Un) ⟨?_⟩
      rw[UG]at t
      refine(U k Zo Zo a V1 TZ UQ aK Zo (bR.to UP (λ_ e=>e) _ _ Uf) (U7.arg Ue) T7 t).Zm ?_
      rintro L V3 VD ⟨rfl,⟨V0,Uu,UI,Uj⟩,V9,Ul⟩
      rw[<-UG]at UI
      refine ci @UD @UY ⟨?_⟩
      refine⟨m,Zo,n+1,V0,al T9,al Uz,al t3,al UR,al UC,aI,Zo,Uu,UI, ?_,Zo,λf i g r=>by rw[Ul f Zo g r,O f i g r]⟩
      rw[Uj,G]
      constructor
      ·rintro⟨⟨UE,TY⟩,V2⟩
       exact⟨UE,hT C TY V2⟩
      ·rintro⟨UE,TY⟩
       have Up:a∈j.args.take (n+1):=by rw[ZG,C];exact ZQ _ Zs
       exact⟨⟨UE,λx Uv=>TY x (by rw[ZG];exact Z2 _ Uv)⟩,TY a Up⟩
 ·rintro y TZ UQ ⟨T9,⟨aK,T7,t,G⟩,U9,O⟩
  obtain⟨UV,Ua,Uc⟩:=t.pt
  refine cV @T9 (aZ Ua) @Uc @UX ⟨?_⟩
  exact⟨rfl,⟨aK,T7,t.xq T3 T4 UL (hx UV 0 _),G⟩,U9,λf i g r=>by rw[aV T3 g];exact O f i g r⟩
set_option maxRecDepth 100000 in
def Gi(g:dR X)(t:jN X){j:bg}{v:q}(T1:(o X).aN<=nx)(x:bR X S P j v)(i:∀a,P a->a<nx)(G:hy j):
 aJ X 45 [v] S nx (λL B nx'=>(∃w:Int,L= .Z w/\hB w/\(w=0↔gb 200 j))/\aX X S nx B nx') zG:=by
 refine zB g.todV (CK X) ?_
 rw[CL]
 unfold wg
 refine bh ⟨?_⟩
 generalize b:aP X _ (nx+1+1) _=ay
 have m:H X ay nx=zy [.Z 0] 1:=by rw[<-b];simp(disch:=omega) only[aV,a7];rfl
 have n:H X ay (nx+1)=zy [.Z 0] 1:=by rw[<-b];simp(disch:=omega) only[aV,a7];rfl
 have d:W X ay (.ptr (nx+1+1) 0)=some (.func (.func 74) [] [.ptr (nx+1) 0, .ptr nx 0, .ptr (nx+1+1) 0]):=by rw[<-b,jt Zo];rfl
 have f:aX X S nx ay (nx+1+1+1):=by rw[<-b];exact dJ
 clear b
 refine bB @d ⟨?_⟩
 refine(HU (P:=P) (gK:=nx+1+1+1) g t (bp:=nx+1) (bF:=nx) (b7:=nx+1+1) Zo Zo Zo Zo Zo Zo Zo Zo Zo (λa c=>by have:=i a c;exact⟨Zo,Zo,Zo⟩) 200 Zo j v ay (nx+1+1+1) 0 Zo (bR.to (λa c=>f.R a (i a c)) (λ_ e=>e) _ _ x) G (.inl rfl) ⟨⟨_,n,rfl⟩,⟨_,m,rfl⟩,d⟩).Zm ?_
 rintro L aM aL ⟨rfl,⟨aK,O,s,z⟩,T0,C⟩
 obtain⟨Z,p,r⟩:=s.wr
 refine ci (aZ p) @r ⟨?_⟩
 exact⟨⟨aK,rfl,O,by rw[z];exact⟨λe=>e.2,λe=>⟨rfl,e⟩⟩⟩,Zo,λa c=>by rw[C a Zo Zo Zo];exact f.R a c⟩
def HD(c:dR X){b:Nat}{au:q}{a:List aT}(K:cg X S P b au 1 (dr a))(T2:∀w∈a,w∈ek):
 aJ X 46 [au, .func (.func 44) [] []] S nx (λL B nx'=>(∃p:Bool,L= .bool p/\(p=false↔∀w∈a,c4 w=true))/\B=S/\nx'=nx) zG:=by
 refine zB c.todV (CM X) ?_
 rw[CN]
 unfold wh
 refine aJ.mono (M:=λL B nx'=>(∃z:Int,L= .Z z/\(z<0↔∀w∈a,c4 w=true))/\B=S/\nx'=nx) (ad:=λ_ _ _=>False) ?_ ?_ (λ_ _ _ e=>e.elim)
 ·refine zB c.todV (Di X) ?_
  rw[Dj]
  unfold wA
  have t:=K.len
  have T1:=K.many
  rw[show(dr a).length=a.length from by simp[dr]]at t T1
  refine bB @t ⟨?_⟩
  refine cM (λm y B ah=>∃(E:Nat),y.g 0=some au/\y.g 1=some (.func (.func 44) [] [])/\y.g 7=some (.Z (a.length:Int))/\y.g 8=some (.Z (E:Int))/\E+m=a.length/\B=S/\ah=nx/\∀x∈a.take E,c4 x=true)
   a.length ⟨0,aI,aI,aI,cx,Zo,rfl,rfl,Zs⟩ ?_
  rintro m y aM aL ⟨E,t0,O,i,n,T3,rfl,rfl,f⟩
  cases m with
  |zero=>
   have d:=zv E a.length
   rw[Zt Zo]at f
   refine cw @n @i @d ⟨?_⟩
   exact⟨⟨-1,rfl,λ_=>f,λ_=>Zd⟩,rfl,rfl⟩
  |succ m=>
   have d:=zw E a.length
   have Z:=zz E
   obtain⟨w,g⟩:=zx a E
   have C:=Zg g
   have s:=K.cP E (by simp[dr];omega)
   have r:=K.cell E [.str w] 0 (.str w) (by unfold dr;rw[Zw,g];rfl) rfl
   rw[ZV]at s
   rw[ZV,ZH]at r
   refine bo @n @i @O @t0 @d @s @r ⟨?_⟩
   change aJ X 44 [.str w] _ _ _ _
   refine zB c.todV (CI X) ?_
   rw[CJ]
   unfold we
   refine p7 c (T2 w C) ?_
   cases v:c4 w with
   |true=>
    refine ci @n @Z ⟨?_⟩
    exact⟨m,Zo,E+1,al t0,al O,al i,aI,Zo,rfl,rfl,hT g f v⟩
   |false=>
    refine bh ⟨?_⟩
    exact⟨⟨(E:Int),rfl,λe=>Zo,λe=>by have:=e w C;rw[v]at this;cases this⟩,rfl,rfl⟩
 ·rintro L ay aG ⟨⟨z,rfl,G⟩,rfl,rfl⟩
  by_cases e:0<=z
  ·have d:decide ((0:Int)<=z)=true:=by simp only[Zc];exact e
   refine bB @d ⟨?_⟩
   exact⟨⟨true,rfl,(λe=>by cases e),λT0=>zu (G.2 T0)⟩,rfl,rfl⟩
  ·have d:decide ((0:Int)<=z)=false:=by simp only[Zb];exact e
   refine bB @d ⟨?_⟩
   exact⟨⟨false,rfl,λ_=>G.1 Zo,λ_=>rfl⟩,rfl,rfl⟩
end
section
variable{X:bQ}{S B cE ay aM:F ac}{nx nx' aG aL bw:Nat}{bm d0 P:Nat->Prop}
def uK(b:Nat):bZ X S .eql 23 true (.ptr b 0) .bt=some .zF:=Zk
def A8{w:Int}(e:hB w)(a:w≠0)(b:w≠1):w=22:=by rcases e with e|e|e<;>omega
set_option maxRecDepth 100000 in
def Ia(t:dR X)(Ut:jN X){g:Go.a6.Node}{row:List q}(Uy:(o X).aN<=nx)(Uv:fR X S P (bR X S P) g row)(v:∀a,P a->a<nx)(T7:vo g)(V8:g.cj.length<=1000/\g.out.length<=1000/\g.loc.length<=1000/\g.eqs.length<=1000):
 aJ X 23 [.agg row] S nx (λL B nx'=>(∃w:Int,L= .Z w/\hB w/\(w=0↔hA g))/\aX X S nx B nx') zG:=by
 refine zB t.todV (Cm X) ?_
 rw[Cn]
 unfold vX
 obtain⟨bx,bz,au,UL,b0,bb,b4,c1,rows,rfl,U7,U8,U9,T6,Ub⟩:=Uv
 have UH:=U7.len
 have G:=U8.len
 have UI:=U9.len
 have Uh:=Ub.wide
 have UJ:=T6.len
 have Ux:=T6.many
 rw[Zn]at UH G UI
 rw[Uh.1]at UJ Ux
 obtain⟨VO,VP,VQ,VR⟩:=V8
 have T1:ag .add (.Z (g.cj.length:Int)) (.Z (g.out.length:Int))=some (.Z ((g.cj.length+g.out.length:Nat):Int)):=by rw[ct Zo Zo];simp
 have Up:ag .add (.Z ((g.cj.length+g.out.length:Nat):Int)) (.Z (g.loc.length:Int))=some (.Z ((g.cj.length+g.out.length+g.loc.length:Nat):Int)):=by rw[ct Zo Zo];simp
 have bad:∀B ah,¬hA g->aX X S nx B ah->(∃w:Int,q.Z 1= .Z w/\hB w/\(w=0↔hA g))/\aX X S nx B ah:=λB ah Y Us=>⟨⟨1,rfl, .inr (.inl rfl),(λe=>by cases e),λe=>absurd e Y⟩,Us⟩
 refine l6 ?_
 generalize U5:aP X S nx _=ay
 have z:H X ay nx=zy [.str g.name, .Z g.at_,bx,bz,au,UL] 6:=by rw[<-U5,a7 Uy];rfl
 have T3:aX X S nx ay (nx+1):=by rw[<-U5];exact dJ
 clear U5
 refine c3 (aZ z) @UH (Za @G (Za @UI (Za @T1 @Up))) ⟨?_⟩
 refine p7 t T7.nm ?_
 cases Uc:c4 g.name with
 |false=>
  refine bh ⟨?_⟩
  exact bad _ _ (λe=>by have:=e.nm;rw[Uc]at this;cases this) T3
 |true=>
  by_cases T9:g.out=[]
  ·have T0:decide ((g.out.length:Int)=0)=true:=by simp[T9]
   refine cw (aZ z) @G @T0 ⟨?_⟩
   exact bad _ _ (λe=>e.out T9) T3
  have VM:0<g.out.length:=Z6.2 T9
  have T0:decide ((g.out.length:Int)=0)=false:=zJ
  by_cases Ue:g.cj.length+g.out.length+g.loc.length<=256
  case neg=>
   have U2:decide ((256:Int)<((g.cj.length+g.out.length+g.loc.length:Nat):Int))=true:=zK
   refine cV (aZ z) @G @T0 @U2 ⟨?_⟩
   exact bad _ _ (λe=>Ue e.vars) T3
  have U2:decide ((256:Int)<((g.cj.length+g.out.length+g.loc.length:Nat):Int))=false:=zJ
  have Uo:decide ((4096:Int)<(g.eqs.length:Int))=false:=zJ
  have V6:dz 3 [.aw, .aw, .aw] [(0,1,bx),(1,1,bz),(2,1,au)] (nx+1)=some (.slice (nx+1) 0 3 3, .cells (F.ofList [bx,bz,au] 0 .nil) 3 .own):=by
   have UQ:=(fg U7.len).1
   have UR:=(fg U8.len).1
   have Un:=(fg U9.len).1
   simp[dz,gE,gF,e5,UQ,UR,Un]
  refine c3 (aZ z) @UH (Za @G (Za @UI (Za @UJ (Za @T0 (Za @U2 @Uo))))) ⟨?_⟩
  refine cz V6 ?_
  refine hl ⟨?_⟩
  generalize T5:aP X ay (nx+1) _=r
  have Uq:H X r (nx+1)=zy [bx,bz,au] 3:=by rw[<-T5,a7 Zo]
  have UT:aX X S nx r (nx+1+1):=⟨Zo,λa f=>by rw[<-T5];simp(disch:=omega) only[aV];exact T3.R a f⟩
  have US:H X r nx=zy [.str g.name, .Z g.at_,bx,bz,au,UL] 6:=by rw[<-T5];simp(disch:=omega) only[aV];exact z
  clear T5
  have UG:∀a,P a->H X r a=H X S a:=λa f=>UT.R a (v a f)
  refine(ES (nx:=nx+1+1) (S:=r) t.todV Zo Zo Uq (U7.R UG) (U8.R UG) (U9.R UG) (λa f=>zu (v a f)) Zo Zo).Zm ?_
  rintro L Ul VC ⟨UP,V3,UV⟩
  have VH:=UV.le
  refine hl ⟨?_⟩
  refine(EY (nx:=VC) (S:=Ul) t Zo V3 (λa f=>f.2) T7.decl).Zm ?_
  rintro L UO Ui ⟨⟨UP,rfl,UZ⟩,UW⟩
  have VI:=UW.le
  have UU:aX X r (nx+1+1) UO Ui:=UV.trans UW
  have UY:aX X S nx UO Ui:=UT.trans UU
  rw[<-UU.R _ Zo]at US
  cases UP with
  |false=>
   refine bh ⟨?_⟩
   exact bad _ _ (λe=>by have:=UZ.2 e.decl;cases this) UY
  |true=>
   have Uu:=UZ.1 rfl
   refine ci (aZ US) @UJ ⟨?_⟩
   refine cM (λm y B ah=>∃(E:Nat) (w:Int),y.g 4=some (.Z w)/\y.g 53=some UL/\y.g 54=some (.Z (g.eqs.length:Int))/\y.g 55=some (.Z (E:Int))/\E+m=g.eqs.length/\hB w/\(w=0↔∀J∈g.eqs.take E,jJ J)/\aX X S nx B ah)
    g.eqs.length ⟨0,0,aI,aI,aI,cx,Zo, .inl rfl,Zs,UY⟩ ?_
   rintro m y Um O ⟨E,w,t4,UM,TY,TZ,VG,Ug,UA,T4⟩
   have VJ:=T4.le
   cases m with
   |zero=>
    have d:=zv E g.eqs.length
    rw[Zt Zo]at UA
    refine cV @TZ @TY @t4 @d ⟨?_⟩
    exact⟨⟨w,rfl,Ug,by rw[UA];exact⟨λe=>⟨Uc,T9,Ue,Zo,Uu,e⟩,λe=>e.eqs⟩⟩,T4⟩
   |succ m=>
    have d:=zw E g.eqs.length
    have T1:=zz E
    obtain⟨J,UC⟩:=zx g.eqs E
    have UF:=Zg UC
    obtain⟨row,V4,V2⟩:=Ub.get E J UC
    have V9:∀a,P a->H X Um a=H X S a:=λa f=>T4.R a (v a f)
    have Uw:=T6.cP E (by rw[Uh.1];omega)
    have V5:=(T6.R V9).row Zd V4
    obtain⟨VE,VD,UQ,UR,dy,rfl,Ud,VN,V0,V1⟩:=V2
    have UE:=Ud.len
    rw[show(dr J.left).length=J.left.length from by simp[dr]]at UE
    refine dp @TZ @TY @UM @d @Uw @V5 ⟨?_⟩
    refine cz (e8 (k:=4) (b:=O) (A:=0) (n:=4) (c:=F.ofList [.aw, .aw, .Z 0, .bt] 0 .nil) (a7 Zo) Zo rfl Zd Zd V1) ?_
    generalize U6:aP X _ O _=Z
    have T2:H X Z O=zy [VE,VD, .Z J.at_,dy] 4:=by rw[<-U6,a7 Zo];rfl
    have UX:aX X S nx Z (O+1):=⟨Zo,λa f=>by rw[<-U6];simp(disch:=omega) only[aV];exact T4.R a f⟩
    clear U6
    have VA:∀a,P a->H X Z a=H X S a:=λa f=>UX.R a (v a f)
    refine bB (aZ T2) ⟨?_⟩
    refine(Gi (P:=P) (nx:=O+1) (S:=Z) t Ut Zo (bR.to VA (λ_ e=>e) _ _ V0) (λa f=>zu (v a f)) (T7.ex J UF)).Zm ?_
    rintro L U1 Uj ⟨⟨p,rfl,V7,UB⟩,U4⟩
    have VK:=U4.le
    rw[<-U4.R _ Zo]at T2
    have s:aX X S nx U1 Uj:=UX.trans U4
    have VB:∀a,P a->H X U1 a=H X S a:=λa f=>s.R a (v a f)
    have UK:¬jJ J->¬hA g:=λe Ur=>e (Ur.eqs J UF)
    by_cases T8:J.left=[]
    ·have U3:decide ((J.left.length:Int)=0)=true:=by simp[T8]
     refine cw (aZ T2) @UE @U3 ⟨?_⟩
     exact bad _ _ (UK λe=>e.ne T8) s
    have VL:0<J.left.length:=Z6.2 T8
    have U3:decide ((J.left.length:Int)=0)=false:=zJ
    refine cw (aZ T2) @UE @U3 ⟨?_⟩
    refine(HD (nx:=Uj) (S:=U1) t (Ud.R VB) (T7.left J UF)).Zm ?_
    rintro L VF VS ⟨⟨aH,rfl,Ua⟩,rfl,rfl⟩
    cases aH with
    |true=>
     refine bh ⟨?_⟩
     exact bad _ _ (UK λe=>by have:=Ua.2 e.nm;cases this) s
    |false=>
     have Uz:=Ua.1 rfl
     by_cases Uf:p=1
     ·have U0:decide (p=1)=true:=by simp[Uf]
      refine bB @U0 ⟨?_⟩
      exact bad _ _ (UK λe=>zu (UB.2 e.ex)) s
     have U0:decide (p=1)=false:=by simp[Uf]
     have Uk:g.eqs.take (E+1)=g.eqs.take E++[J]:=by rw[ZG,UC];rfl
     by_cases C:p=0
     ·have UN:decide (p≠0)=false:=by simp[C]
      have UD:jJ J:=⟨T8,Uz,UB.1 C⟩
      refine cV @U0 @UN @TZ @T1 ⟨?_⟩
      refine⟨m,Zo,E+1,w,al t4,al UM,al TY,aI,Zo,Ug, ?_,s⟩
      rw[UA,Uk]
      exact⟨λe x i=>by
       rcases Zr.1 i with i|i
       ·exact e x i
       ·rw[ZF.1 i];exact UD,λe x i=>e x (Z2 _ i)⟩
     ·have UN:decide (p≠0)=true:=by simp[C]
      have UD:¬jJ J:=λe=>C (UB.2 e.ex)
      refine cV @U0 @UN @TZ @T1 ⟨?_⟩
      refine⟨m,Zo,E+1,p,aI,al UM,al TY,aI,Zo,V7, ?_,s⟩
      rw[Uk]
      exact⟨λe=>absurd e C,λe=>absurd (e J (ZQ _ (ZF.2 rfl))) UD⟩
set_option maxRecDepth 100000 in
def x0(U5:dR X)(UH:jN X){T:List Go.a6.Node}{v:q}(UV:(o X).aN<=nx)(UI:fT X S P T v)(C:∀a,P a->a<nx)(U6:∀g∈T,h0 g)(UU:T.length<=1000):
 aJ X 7 [v] S nx (λL B nx'=>(∃w:Int,L= .Z w/\hB w/\(w=0↔ha T))/\aX X S nx B nx') zG:=by
 refine zB U5.todV (Dq X) ?_
 rw[Dr]
 unfold ww
 obtain⟨b,au,bL,rows,rfl,Y,a0,TZ,U7⟩:=id UI
 have UA:=U7.wide
 have G:=TZ.len
 rw[UA.1]at G
 have UR:=C b Y
 have bad:∀B ah,¬ha T->aX X S nx B ah->(∃w:Int,q.Z 1= .Z w/\hB w/\(w=0↔ha T))/\aX X S nx B ah:=λB ah Y UF=>⟨⟨1,rfl, .inr (.inl rfl),(λe=>by cases e),λe=>absurd e Y⟩,UF⟩
 by_cases t:T=[]
 ·have s:decide ((T.length:Int)=0)=true:=by simp[t]
  refine cV @uK @a0 @G @s ⟨?_⟩
  exact bad _ _ (λe=>e.ne t) (aX.refl _ _)
 have UW:0<T.length:=Z6.2 t
 have s:decide ((T.length:Int)=0)=false:=zJ
 by_cases U3:T.length<=64
 case neg=>
  have T2:decide ((64:Int)<(T.length:Int))=true:=zK
  refine db @uK @a0 @G @s @T2 ⟨?_⟩
  exact bad _ _ (λe=>U3 e.many) (aX.refl _ _)
 have T2:decide ((64:Int)<(T.length:Int))=false:=zJ
 refine db @uK @a0 @G @s @T2 ⟨?_⟩
 refine cM (λm y B ah=>∃(E:Nat) (w:Int),y.g 3=some (.Z w)/\y.g 28=some au/\y.g 29=some (.Z (T.length:Int))/\y.g 30=some (.Z (E:Int))/\E+m=T.length/\hB w/\(w=0↔∀g∈T.take E,hA g)/\aX X S nx B ah)
  T.length ⟨0,0,aI,aI,aI,cx,Zo, .inl rfl,Zs,aX.refl _ _⟩ ?_
 rintro m y ay aG ⟨E,w,t3,U0,Z,T0,US,U8,T7,z⟩
 have UT:=z.le
 cases m with
 |zero=>
  have d:=zv E T.length
  rw[Zt Zo]at T7
  refine cV @T0 @Z @t3 @d ⟨?_⟩
  exact⟨⟨w,rfl,U8,by rw[T7];exact⟨λe=>⟨t,U3,e⟩,λe=>e.node⟩⟩,z⟩
 |succ m=>
  have d:=zw E T.length
  have U2:=zz E
  obtain⟨g,T5⟩:=zx T E
  have T6:=Zg T5
  obtain⟨row,UL,T9⟩:=U7.get E g T5
  have UN:∀a,P a->H X ay a=H X S a:=λa i=>z.R a (C a i)
  have UJ:=TZ.cP E (by rw[UA.1];omega)
  have UM:=(TZ.R UN).row Zd UL
  have e2:=T9.cN
  have UK:=T9
  obtain⟨bx,bz,UP,UO,b0,bb,b4,c1,UY,rfl,_⟩:=T9
  refine dp @T0 @Z @U0 @d @UJ @UM ⟨?_⟩
  refine cz (e8 (k:=6) (b:=aG) (A:=0) (n:=6) (c:=F.ofList [.str [], .Z 0, .aw, .aw, .aw, .aw] 0 .nil) (a7 Zo) Zo rfl Zd Zd e2) ?_
  generalize T4:aP X _ aG _=aM
  have UD:H X aM aG=zy [.str g.name, .Z g.at_,bx,bz,UP,UO] 6:=by rw[<-T4,a7 Zo];rfl
  have U4:aX X S nx aM (aG+1):=⟨Zo,λa i=>by rw[<-T4];simp(disch:=omega) only[aV];exact z.R a i⟩
  clear T4
  have UB:∀a,P a->H X aM a=H X S a:=λa i=>U4.R a (C a i)
  refine bB (aZ UD) ⟨?_⟩
  refine(Ia (P:=P) (nx:=aG+1) (S:=aM) U5 UH Zo (UK.to UB (λ_ e=>e) (λJ _ v e=>bR.to UB (λ_ e=>e) _ _ e)) (λa i=>zu (C a i)) (U6 g T6).g1 (U6 g T6).an).Zm ?_
  rintro L UQ UX ⟨⟨p,rfl,U9,T8⟩,UG⟩
  have T3:=U4.trans UG
  by_cases O:p=1
  ·have T1:decide (p=1)=true:=by simp[O]
   refine bB @T1 ⟨?_⟩
   subst O
   exact bad _ _ (λe=>by have:=T8.2 (e.node g T6);cases this) T3
  have T1:decide (p=1)=false:=by simp[O]
  have UC:T.take (E+1)=T.take E++[g]:=by rw[ZG,T5];rfl
  by_cases r:p=0
  ·have U1:decide (p=22)=false:=by simp[r]
   have TY:hA g:=T8.1 r
   refine cV @T1 @U1 @T0 @U2 ⟨?_⟩
   refine⟨m,Zo,E+1,w,al t3,al U0,al Z,aI,Zo,U8, ?_,T3⟩
   rw[T7,UC]
   exact⟨λe x f=>by
    rcases Zr.1 f with f|f
    ·exact e x f
    ·rw[ZF.1 f];exact TY,λe x f=>e x (Z2 _ f)⟩
  ·have UE:=A8 U9 r O
   have U1:decide (p=22)=true:=by simp[UE]
   have TY:¬hA g:=λe=>r (T8.2 e)
   refine cV @T1 @U1 @T0 @U2 ⟨?_⟩
   refine⟨m,Zo,E+1,p,aI,al U0,al Z,aI,Zo,U9, ?_,T3⟩
   rw[UC]
   exact⟨λe=>absurd e r,λe=>absurd (e g (ZQ _ (ZF.2 rfl))) TY⟩
end
end
end Go.Proofs.YtmipngjbcdamjaaGreatDoor

