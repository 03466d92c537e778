/- Part of the proof of the last text; no conditions -/
import Derived.Test.YtmipngjbcdamjaaGreatDoorYm
set_option maxHeartbeats 8000000
set_option linter.all false
namespace Go.Proofs.YtmipngjbcdamjaaGreatDoor
open Go.Q Go.a6
noncomputable section
section
variable{X:bQ}{S B cE ay aM:F ac}{nx nx' aG aL:Nat}
structure kA(X:bQ)(d:F ac)(c b bp:Nat)(p:q)(k:Int)(bn:q)(f:Int×Int)(D:aT->Option Int)(S:F ac)(n:Nat):Prop where
 le:c<=n
 eE:cS X S b p k bn (.map bp) f
 ou:gR X S bp (gA D)
 low:∀a,a<c->a≠b->a≠bp->H X S a=H X d a
def kA.R{g:F ac}{b c bp:Nat}{p bn:q}{k:Int}{f:Int×Int}{D:aT->Option Int}(e:kA X g b c bp p k bn f D ay aG)(r:c<b)(t:bp<b)(v:aG<=aL)(d:∀a,a<aG->H X aM a=H X ay a):kA X g b c bp p k bn f D aM aL:=by
 have s:=e.le
 refine⟨Zo, ?_,e.ou.R (d _ Zo),λa i m n=>by rw[d a Zo];exact e.low a i m n⟩
 have:=e.eE
 unfold cS at*
 rw[d _ Zo];exact this
def m7(J:dL)(i:Nat):Int:=(J.bu[i]?).getD 0
def yr{J:dL}{i:Nat}{w:aT}(e:J.left[i]? =some w):(eL J)[i]? =some (w,m7 J i):=by
 unfold eL
 rw[Zw,vm e];rfl
def ys(J:dL):(eL J).length=J.left.length:=by simp[eL]
def EN(U2:dV X){P:Nat->Prop}{s bp:Nat}{p bn:q}{k:Nat}{T:List Go.a6.Node}{g:Go.a6.Node}(WG:(o X).aN<=nx)(UP:(o X).aN<=s)(W6:(o X).aN<=bp)(VN:s<nx)(W8:bp<nx)(UY:s≠bp)
 (z:∀f,P f->f<nx/\f≠s/\f≠bp)(V2:kC X S P T p)(Uc:T[k]? =some g)(VA:kD X S P bn (cR g))(UO:cS X S s p k bn (.map bp) (0,0))(Vv:gR X S bp (gA λ_=>none)):
 aJ X 48 [.ptr s 0] S nx (λL B nx'=>L= .tuple []/\cS X B s p k bn (.map bp) (hM T k g)/\nx<=nx'/\∀f,f<nx->f≠s->f≠bp->H X B f=H X S f) zG:=by
 refine q1 (CQ X) (U2.none _ _ rfl) ?_
 rw[CR]
 unfold wj
 obtain⟨bU,Ws,Wq,Wr,rfl,Vz,Vk,VZ,VY⟩:=id V2
 have WJ:=VY.wide
 have We:=(Zf.1 Uc).1
 obtain⟨row,WQ,V6⟩:=VY.get k g Uc
 have WH:=V6
 have e2:=V6.cN
 obtain⟨bx,bz,au,UB,b0,bb,b4,c1,rows,rfl,W9,WA,WB,Ua,VO⟩:=V6
 have WI:=z bU Vz
 have UD:W X S (.ptr s 0)=some (.ptr bU 0):=by unfold cS at UO;rw[aZ UO];rfl
 have UK:W X S (.ptr s 1)=some (.Z (k:Int)):=by unfold cS at UO;rw[aZ UO];rfl
 have V3:=VZ.cP k (by rw[WJ.1];omega)
 refine hl ⟨?_⟩
 generalize Uv:aP X S nx _=ay
 have U0:H X ay nx=zy [.ptr s 0] 1:=by rw[<-Uv,a7 WG];rfl
 have UV:aX X S nx ay (nx+1):=by rw[<-Uv];exact dJ
 clear Uv
 have WT:∀f,P f->H X ay f=H X S f:=λf r=>UV.R f (z f r).1
 rw[<-UV.cW _ _ VN]at UD UK
 rw[<-UV.cW _ _ WI.1]at Vk
 have V7:=(VZ.R WT).row Zd WQ
 refine c3 (aZ U0) @UD (Za @UK (Za @Vk (Za @V3 @V7))) ⟨?_⟩
 refine cz (e8 (k:=6) (b:=nx+1+13) (A:=0) (n:=6) (c:=F.ofList [.str [], .Z 0, .aw, .aw, .aw, .aw] 0 .nil) (a7 Zo) Zo rfl Zd Zd e2) ?_
 generalize Uw:aP X _ (nx+1+13) _=aM
 have UE:H X aM (nx+1+13)=zy [.str g.name, .Z g.at_,bx,bz,au,UB] 6:=by rw[<-Uw,a7 Zo];rfl
 have Ut:aX X ay (nx+1) aM (nx+1+14):=by rw[<-Uw];exact dJ
 clear Uw
 rw[<-Ut.R _ Zo]at U0
 have VI:aX X S nx aM (nx+1+14):=⟨Zo,λf r=>by rw[Ut.R f Zo,UV.R f r]⟩
 have WU:∀f,P f->H X aM f=H X S f:=λf r=>VI.R f (z f r).1
 rw[<-Ut.cW _ _ Zo]at UD UK
 refine c3 (aZ U0) @UD (aZ UE) ⟨?_⟩
 refine(xR (nx:=nx+1+15+12) (S:=aM) U2 Zo (V2.R (bi:=P) WU (λ_ e=>e)) (λf r=>zu (z f r).1) g.name).Zm ?_
 rintro L T6 U6 ⟨rfl,UX⟩
 have Wg:=UX.le
 rw[<-UX.R _ Zo]at U0 UE
 rw[<-UX.cW _ _ Zo]at UD UK
 have UW:aX X S nx T6 U6:=⟨Zo,λf r=>by rw[UX.R f Zo,VI.R f r]⟩
 have VC:∀f,P f->H X T6 f=H X S f:=λf r=>UW.R f (z f r).1
 have Uu:kA X T6 U6 s bp (.ptr bU 0) k bn (0,0) (λ_=>none) T6 U6:=⟨Zp _,by unfold cS at*;rw[UW.R _ VN];exact UO,Vv.R (UW.R _ W8),λ_ _ _ _=>rfl⟩
 generalize WR:(eh T g.name).getD 0=to
 have Uf:jB T k g=if to<k then fe (0,0) 24 g.at_ else(0,0):=by unfold jB;rw[WR]
 refine c3 (aZ U0) @UD @UK ⟨?_⟩
 refine cQ (λUU B ah=>UU.g 1=some (.ptr nx 0)/\UU.g 2=some (.ptr (nx+1+13) 0)/\UU.av=[]/\kA X T6 U6 s bp (.ptr bU 0) k bn (jB T k g) (λ_=>none) B ah) (λE V4=> ?_) ?_
 ·by_cases VX:to<k
  ·have am:=zw to k
   rw[Zv VX]at Uf
   refine cw @am (aZ U0) (aZ UE) ⟨?_⟩
   refine(jY (S:=T6) U2 UP Uu.eE 24 g.at_).Zm ?_
   rintro L UJ Vi ⟨rfl,W2,WD,VS⟩
   refine bh ⟨?_⟩
   exact V4 _ _ _ ⟨aI,aI,rfl,Zo,by rw[Uf];exact W2,Uu.ou.R (VS _ (λj=>UY j.symm)),λf O t T0=>VS f t⟩
  ·have am:=zv to k
   rw[Zj VX]at Uf
   refine bB @am ⟨?_⟩
   exact V4 _ _ _ ⟨aI,aI,rfl,by rw[Uf];exact Uu⟩
 rintro y UJ Vi ⟨C,Z,T1,UA⟩
 have WD:=UA.le
 have Vp:H X UJ nx=zy [.ptr s 0] 1:=by rw[UA.low _ Zo Zo Zo];exact U0
 have Vr:H X UJ (nx+1+13)=zy [.str g.name, .Z g.at_,bx,bz,au,UB] 6:=by rw[UA.low _ Zo Zo Zo];exact UE
 have Vf:∀f,P f->H X UJ f=H X S f:=λf r=>by have:=z f r;rw[UA.low f Zo this.2.1 this.2.2,VC f r]
 show N _ _
 refine c3 @C @Z (Za (aZ Vp) (aZ Vr)) ⟨?_⟩
 refine(E2 (nx:=Vi) (S:=UJ) U2 Zo UP Zo (λf r=>⟨zu (z f r).1,(z f r).2.1⟩) (VA.R (bi:=P) Vf (λ_ e=>e)) UA.eE (WH.R (bi:=P) Vf (λ_ e=>e)) trivial).Zm ?_
 rintro L Ul Vj ⟨rfl,W3,Wh,VT⟩
 have VJ:kA X T6 U6 s bp (.ptr bU 0) k bn (j0 (cR g) g (jB T k g)) (λ_=>none) Ul Vj:=⟨Zo,W3,UA.ou.R (VT _ Zo (λj=>UY j.symm)),λf O t T0=>by rw[VT f Zo t];exact UA.low f O t T0⟩
 have Vs:H X Ul (nx+1+13)=zy [.str g.name, .Z g.at_,bx,bz,au,UB] 6:=by rw[VJ.low _ Zo Zo Zo];exact UE
 have Ve:=VO.wide
 have VW:=Ua.len
 have WF:=Ua.many
 rw[Ve.1]at VW WF
 have V5:hM T k g=(bf g).foldl (f5 (g.eqs.foldl (e4 (cR g) T k) (λ_=>none,j0 (cR g) g (jB T k g))).1) (g.eqs.foldl (e4 (cR g) T k) (λ_=>none,j0 (cR g) g (jB T k g))).2:=rfl
 generalize Vc:((λ_=>none,j0 (cR g) g (jB T k g)):(aT->Option Int)×(Int×Int))=T3 at V5
 have Vx:kA X T6 U6 s bp (.ptr bU 0) k bn T3.2 T3.1 Ul Vj:=by rw[<-Vc];exact VJ
 have W0:∀w,0<=(T3.1 w).getD 0/\(T3.1 w).getD 0<=((0:Nat):Int)*1048576:=by intro w;rw[<-Vc];simp
 refine c3 @Z (aZ Vs) @VW ⟨?_⟩
 refine gm ?_
 refine cM (λm y B ah=>∃(E:Nat),y.g 1=some (.ptr nx 0)/\y.g 2=some (.ptr (nx+1+13) 0)/\y.av=[]/\y.g 49=some UB/\y.g 50=some (.Z (g.eqs.length:Int))/\y.g 51=some (.Z (E:Int))/\E+m=g.eqs.length
  /\kA X T6 U6 s bp (.ptr bU 0) k bn ((g.eqs.take E).foldl (e4 (cR g) T k) T3).2 ((g.eqs.take E).foldl (e4 (cR g) T k) T3).1 B ah/\(∀w,0<=(((g.eqs.take E).foldl (e4 (cR g) T k) T3).1 w).getD 0/\(((g.eqs.take E).foldl (e4 (cR g) T k) T3).1 w).getD 0<=(E:Int)*1048576))
  g.eqs.length ⟨0,al C,al Z,T1,aI,aI,cx,Zo,Vx,W0⟩ ?_
 clear C Z T1
 rintro m y UT T8 ⟨E,C,Z,T1,T9,T4,T5,V4,T2,VL⟩
 have Wi:=T2.le
 have Vq:H X UT nx=zy [.ptr s 0] 1:=by rw[T2.low _ Zo Zo Zo];exact U0
 have Vt:H X UT (nx+1+13)=zy [.str g.name, .Z g.at_,bx,bz,au,UB] 6:=by rw[T2.low _ Zo Zo Zo];exact UE
 have Vg:∀f,P f->H X UT f=H X S f:=λf r=>by have:=z f r;rw[T2.low f Zo this.2.1 this.2.2,VC f r]
 cases m with
 |zero=>
  have am:=zv E g.eqs.length
  rw[Zt Zo]at T2
  generalize g.eqs.foldl (e4 (cR g) T k) T3=G at T2 V5
  refine db @T5 @T4 @Z @am (aZ Vt) ⟨?_⟩
  refine(ri U2 Zo).Zm ?_
  rintro L T7 Wo ⟨rfl,rfl,UM,WW,WX,WY⟩
  generalize Wl:T8+1=cf at*
  have VD:∀f,P f->H X T7 f=H X S f:=λf r=>by rw[UM.R f (zu (z f r).1),Vg f r]
  have W4:cS X T7 s (.ptr bU 0) k bn (.map bp) G.2:=by have:=T2.eE;unfold cS at*;rw[UM.R s Zo];exact this
  have Vm:H X T7 nx=zy [.ptr s 0] 1:=by rw[UM.R _ Zo];exact Vq
  refine gm ?_
  refine rj (P:=P) (g:=g) (b0:=b0) (bb:=bb) (b4:=b4) (bx:=bx) (bz:=bz) (au:=au) U2 (λi B ah=>il X T7 cf s bp (.ptr bU 0) k bn (.map bp) (((bf g).take i).foldl (f5 G.1) G.2) G.1 B ah) Zo Zo Zo Zo
   (W9.R VD) (WA.R VD) (WB.R VD) WW WX WY (λi B ah e=>⟨e.le,λf r=>e.low f (zu (z f r).1) (z f r).2.1 (z f r).2.2⟩)
   (λi ay aG aM aL e WC Uc=>e.R Zo Zo WC Uc) (λB Us=>⟨Zp _,by unfold cS at*;rw[Us.R _ Zo];exact W4,(T2.ou.R (UM.R _ Zo)).R (Us.R _ Zo),λf r _ _=>Us.R f r⟩) ?_ ?_
  ·intro mk i U5 d U9 U7 ai v Uq Vu
   rw[mg (f5 G.1) _ ai]
   generalize ((bf g).take i).foldl (f5 G.1) G.2=ar at v ⊢
   have VU:=v.le
   have W7:bO d=[.str d.name, .Z d.at_, .bool d.ty.b, .bool d.ty.s, .Z d.ty.w, .str d.on, .Z d.dg, .bool d.no]:=rfl
   rw[W7]
   unfold iF
   refine bh ⟨?_⟩
   generalize Uy:aP X _ U7 _=UC
   have Uo:H X UC U7=zy [.str d.name, .Z d.at_, .bool d.ty.b, .bool d.ty.s, .Z d.ty.w, .str d.on, .Z d.dg, .bool d.no] 8:=by rw[<-Uy,a7 Zo];rfl
   have VB:∀f,f<U7->H X UC f=H X U9 f:=λf r=>by rw[<-Uy];exact zA
   clear Uy
   refine⟨by rw[VB _ Zo];exact Vu, ?_⟩
   generalize Uz:aP X UC (cf+1) _=TZ
   have Up:H X TZ (cf+1)=some (mk .busy none):=by rw[<-Uz,a7 Zo]
   have VE:∀f,f≠cf+1->H X TZ f=H X UC f:=λf r=>by rw[<-Uz,aV Zo r]
   clear Uz
   have U1:=v.R (aM:=TZ) (aL:=U7+1) Zo Zo Zo (λf O t=>by rw[VE f t,VB f O])
   rw[<-VE _ Zo]at Uo
   have Ur:H X TZ cf=some (.deferred (some [])):=by rw[VE _ Zo,VB _ Zo];exact Uq
   have VF:W X TZ (.ptr nx 0)=some (.ptr s 0):=by rw[aZ (show H X TZ nx=_ by rw[U1.low _ Zo Zo Zo];exact Vm)];rfl
   have Vh:W X TZ (.ptr s 3)=some (.map bp):=by have:=U1.eE;unfold cS at this;rw[aZ this];rfl
   have VV:gn X TZ 9 (.Z 0) (.map bp) (.str d.name) false=some (.Z ((G.1 d.name).getD 0)):=by
    rw[nw U1.seen];unfold gA;cases G.1 d.name<;>rfl
   have UG:∀B ah,il X T7 cf s bp (.ptr bU 0) k bn (.map bp) (f5 G.1 ar (U5,d)) G.1 B ah->H X B cf=some (.deferred (some []))->(q.bool true=q.bool true/\il X T7 cf s bp (.ptr bU 0) k bn (.map bp) (f5 G.1 ar (U5,d)) G.1 (aP X B (cf+1) (some (mk .ready none))) ah/\H X (aP X B (cf+1) (some (mk .ready none))) cf=some (.deferred (some []))/\H X (aP X B (cf+1) (some (mk .ready none))) (cf+1)=some (mk .ready none)):=λB ah e t=>
    ⟨rfl,e.R Zo Zo (Zp _) (λf O t=>aV Zo t),by rw[aV Zo Zo];exact t,a7 Zo⟩
   refine hl ⟨?_⟩
   refine gm ?_
   by_cases Ud:U5=1
   ·have am:decide (U5≠1)=false:=by simp[Ud]
    have UQ:f5 G.1 ar (U5,d)=ar:=by unfold f5;rw[Zj (by simp[Ud])]
    refine bB @am ⟨?_⟩
    rw[UQ]at UG ⊢
    exact⟨⟨.busy,none,Up⟩,UG _ _ (U1.R Zo Zo Zo (λ_ _ _=>rfl)) Ur⟩
   ·have am:decide (U5≠1)=true:=by simp[Ud]
    by_cases Uj:(G.1 d.name).getD 0=0
    ·have Un:decide ((G.1 d.name).getD 0=0)=true:=by simp[Uj]
     have UQ:f5 G.1 ar (U5,d)=fe ar 37 d.at_:=by unfold f5;rw[Zv ⟨Ud,Uj⟩]
     refine bo @am @C @VF @Vh (aZ Uo) @VV @Un ⟨?_⟩
     refine(jY (S:=TZ) U2 UP U1.eE 37 d.at_).Zm ?_
     rintro L fw Wp ⟨rfl,W5,Wj,Ue⟩
     refine bh ⟨?_⟩
     rw[UQ]at UG ⊢
     have Wf:=U1.le
     exact⟨⟨.busy,none,by rw[Ue _ Zo];exact Up⟩,UG _ _ ⟨Zo,W5,U1.seen.R (Ue _ Zo),λf O t T0=>by rw[Ue f t];exact U1.low f O t T0⟩ (by rw[Ue _ Zo];exact Ur)⟩
    ·have Un:decide ((G.1 d.name).getD 0=0)=false:=by simp[Uj]
     have UQ:f5 G.1 ar (U5,d)=ar:=by unfold f5;rw[Zj (λe=>Uj e.2)]
     refine bo @am @C @VF @Vh (aZ Uo) @VV @Un ⟨?_⟩
     rw[UQ]at UG ⊢
     exact⟨⟨.busy,none,Up⟩,UG _ _ (U1.R Zo Zo Zo (λ_ _ _=>rfl)) Ur⟩
  ·intro U9 U7 v Uq
   rw[zi]at v
   have VU:=v.le
   rw[<-V5]at v
   show hR X [] _ _ _ _ _
   simp only[jx,i6,T1]
   refine⟨by show(o X).aN<=cf;omega,Uq, ?_⟩
   show i2 _ _ _ _ _
   refine⟨rfl, ?_,Zo,λf O t T0=> ?_⟩
   ·have:=v.eE
    unfold cS at*
    rw[aV Zo Zo];exact this
   ·rw[aV Zo Zo,v.low f Zo t T0,UM.R f Zo,T2.low f Zo t T0,UW.R f O]
 |succ m=>
  have am:=zw E g.eqs.length
  have Vn:=zz E
  obtain⟨J,Va⟩:=zx g.eqs E
  obtain⟨Wt,WP,WO⟩:=VO.get E J Va
  have V3:=Ua.cP E (by rw[Ve.1];omega)
  have V7:=(Ua.R Vg).row Zd WP
  obtain⟨Uk,Vl,Wa,Wb,dy,rfl,Ug,Uh,WK,WL⟩:=WO
  have Vb:=Ug.len
  have WN:=Ug.many
  have Ui:=Uh.1.len
  have WM:=Uh.1.many
  rw[show(dr J.left).length=J.left.length from by simp[dr]]at Vb WN
  rw[Zn]at Ui WM
  have V8:=mg (e4 (cR g) T k) T3 Va
  generalize Wd:(g.eqs.take E).foldl (e4 (cR g) T k) T3=UI at T2 V8 VL
  refine dp @T5 @T4 @T9 @am @V3 @V7 ⟨?_⟩
  refine cz (e8 (k:=4) (b:=T8) (A:=0) (n:=4) (c:=F.ofList [.aw, .aw, .Z 0, .bt] 0 .nil) (a7 Zo) Zo rfl Zd Zd WL) ?_
  generalize Ux:aP X _ T8 _=T7
  have VH:H X T7 T8=zy [Uk,Vl, .Z J.at_,dy] 4:=by rw[<-Ux,a7 Zo];rfl
  have WS:∀f,f<T8->H X T7 f=H X UT f:=λf r=>by rw[<-Ux];exact zA
  clear Ux
  have Vy:=T2.R (aM:=T7) (aL:=T8+1) Zo Zo Zo (λf O=>WS f O)
  refine tT (aZ VH) @Vb ⟨?_⟩
  refine gm ?_
  refine cM (λUS y B ah=>∃(i:Nat),y.g 1=some (.ptr nx 0)/\y.g 2=some (.ptr (nx+1+13) 0)/\y.av=[]/\y.g 49=some UB/\y.g 50=some (.Z (g.eqs.length:Int))/\y.g 51=some (.Z (E:Int))/\y.g 6=some (.ptr T8 0)/\y.g 56=some Uk/\y.g 57=some (.Z (J.left.length:Int))/\y.g 58=some (.Z (i:Int))/\i+US=J.left.length
   /\kA X T6 U6 s bp (.ptr bU 0) k bn (((eL J).take i).foldl (g2 (cR g)) UI).2 (((eL J).take i).foldl (g2 (cR g)) UI).1 B ah/\(∀w,0<=((((eL J).take i).foldl (g2 (cR g)) UI).1 w).getD 0/\((((eL J).take i).foldl (g2 (cR g)) UI).1 w).getD 0<=(E:Int)*1048576+i)
   /\T8+1<=ah/\H X B T8=zy [Uk,Vl, .Z J.at_,dy] 4)
   J.left.length ⟨0,al C,al Z,T1,al T9,al T4,al T5,aI,aI,aI,cx,Zo,Vy,λw=>by simpa using VL w,Zo,VH⟩ ?_
  clear C Z T1 T9 T4 T5
  rintro US UU U9 U7 ⟨i,C,Z,T1,T9,T4,T5,TY,U8,U3,U4,ai,v,UN,Wk,UF⟩
  have VU:=v.le
  have VG:H X U9 nx=zy [.ptr s 0] 1:=by rw[v.low _ Zo Zo Zo];exact U0
  have UH:∀f,P f->H X U9 f=H X S f:=λf r=>by have:=z f r;rw[v.low f Zo this.2.1 this.2.2,VC f r]
  cases US with
  |zero=>
   have UL:=zv i J.left.length
   rw[Zt (by rw[ys];omega)]at v UN
   refine bo @U4 @U3 @C @TY @UL (aZ VG) (aZ UF) ⟨?_⟩
   refine(JP (nx:=U7) (S:=U9) U2 Zo UP Zo (λf r=>⟨zu (z f r).1,(z f r).2.1⟩) (VA.R (bi:=P) UH (λ_ e=>e)) (V2.R (bi:=P) UH (λ_ e=>e)) v.eE (c7.R UH _ _ WK)).Zm ?_
   rintro L UC WV ⟨rfl,V1,WE,UR⟩
   refine ci @T5 @Vn ⟨?_⟩
   refine⟨m,Zo,E+1,al C,al Z,T1,al T9,al T4,aI,Zo, ?_, ?_⟩
   ·rw[V8]
    exact⟨Zo,V1,v.ou.R (UR _ Zo (λj=>UY j.symm)),λf O t T0=>by rw[UR f Zo t];exact v.low f O t T0⟩
   ·rw[V8]
    intro w
    have:=UN w
    simp only[e4]
    constructor
    ·exact this.1
    ·have t:=this.2
     have T0:i<=1048576:=Zo
     push_cast
     omega
  |succ US=>
   have UL:=zw i J.left.length
   have Vo:=zz i
   obtain⟨w,Vd⟩:=zx J.left i
   have Ub:=Ug.cP i (by simp[dr];omega)
   have UZ:=(Ug.R UH).cell i [.str w] 0 (.str w) (by unfold dr;rw[Zw,Vd];rfl) rfl
   rw[ZV]at Ub
   rw[ZV,ZH]at UZ
   have V9:=mg (g2 (cR g)) UI (yr Vd)
   generalize Wc:((eL J).take i).foldl (g2 (cR g)) UI=Wu at v V9 UN
   have W1:=UN w
   refine c3 @U4 @U3 (Za @U8 (Za @TY (Za @UL (Za @Ub (Za @UZ (Za (aZ UF) @Ui)))))) ⟨?_⟩
   refine gm ?_
   refine c3 @U4 @U3 (Za @U8 (Za @TY (Za @UL (Za @Ub (Za @UZ (Za (aZ UF) @Ui)))))) ⟨?_⟩
   refine gm ?_
   refine c3 @U4 @U3 (Za @U8 (Za @TY (Za @UL (Za @Ub (Za @UZ (Za (aZ UF) @Ui)))))) ⟨?_⟩
   refine cQ (λfF B ah=>fF.g 1=some (.ptr nx 0)/\fF.g 2=some (.ptr (nx+1+13) 0)/\fF.av=[]/\fF.g 49=some UB/\fF.g 50=some (.Z (g.eqs.length:Int))/\fF.g 51=some (.Z (E:Int))/\fF.g 6=some (.ptr T8 0)/\fF.g 56=some Uk/\fF.g 57=some (.Z (J.left.length:Int))/\fF.g 58=some (.Z (i:Int))/\fF.g 8=some (.str w)/\fF.g 9=some (.Z (m7 J i))/\B=U9/\ah=U7) (λWn VR=> ?_) ?_
   ·by_cases VP:i<J.bu.length
    ·have Um:=zw i J.bu.length
     obtain⟨a,VK⟩:∃a,J.bu[i]? =some a:=⟨_,Ze VP⟩
     have VQ:=Uh.1.cP i (by rw[Zn];exact VP)
     have VM:=(Uh.1.R UH).cell i [pR a] 0 (pR a) (by rw[Zw,VK];rfl) rfl
     rw[ZV]at VQ
     rw[ZV,ZH]at VM
     have V0:m7 J i=a:=by unfold m7;rw[VK];rfl
     refine db @Um @TY (aZ UF) @VQ @VM ⟨?_⟩
     exact VR _ _ _ ⟨al C,al Z,T1,al T9,al T4,al T5,al TY,al U8,al U3,al U4,aI,by refine oD ⟨?_⟩;rw[V0];rfl,rfl,rfl⟩
    ·have Um:=zv i J.bu.length
     have V0:m7 J i=0:=by unfold m7;rw[Z3 Zo];rfl
     refine bB @Um ⟨?_⟩
     exact VR _ _ _ ⟨al C,al Z,T1,al T9,al T4,al T5,al TY,al U8,al U3,al U4,aI,by refine oD ⟨?_⟩;rw[V0],rfl,rfl⟩
   ·clear C Z T1 T9 T4 T5 TY U8 U3 U4
    rintro fF B ah ⟨C,Z,T1,T9,T4,T5,TY,U8,U3,U4,WZ,t9,rfl,rfl⟩
    show N _ _
    refine cV @C @WZ @t9 (aZ VG) ⟨?_⟩
    refine(HC U2 Zo UP W6 Zo Zo UY v.eE (VA.R (bi:=P) UH (λ_ e=>e)) (λf r=>⟨zu (z f r).1,(z f r).2.1,(z f r).2.2⟩) v.ou w (m7 J i) ⟨W1.1,Zo⟩).Zm ?_
    rintro L UC WV ⟨rfl,V1,Vw,WE,UR⟩
    refine ci @U4 @Vo ⟨?_⟩
    refine⟨US,Zo,i+1,al C,al Z,T1,al T9,al T4,al T5,al TY,al U8,al U3,aI,Zo, ?_, ?_,Zo,by rw[UR _ Zo Zo Zo];exact UF⟩
    ·rw[V9]
     exact⟨Zo,V1,Vw,λf O t T0=>by rw[UR f Zo t T0];exact v.low f O t T0⟩
    ·rw[V9]
     intro x
     have Wm:=UN x
     simp only[g2]
     split
     ·simp only[Y0];push_cast;omega
     ·push_cast;omega
end
def g6(T:List Go.a6.Node):Int×Int:=by
 classical exact if ha T then l9 T else(1,0)
def u2{T:List Go.a6.Node}(e:ha T):g6 T=l9 T:=by unfold g6;rw[Zv e]
def u1{T:List Go.a6.Node}(e:¬ha T):g6 T=(1,0):=by unfold g6;rw[Zj e]
def ha.qi{T:List Go.a6.Node}(e:ha T):∀g∈T,∀J∈g.eqs,hz J.right:=λg a J b=>gb.qi J.right 200 ((e.node g a).eqs J b).ex
def u0{T:List Go.a6.Node}(e:∀g∈T,h0 g):(g6 T).1≠0:=by
 by_cases a:ha T
 ·rw[u2 a];exact EL a.ne λg b=>(e g b).bad (a.node g b)
 ·rw[u1 a];decide
section
variable{X:bQ}{S B cE ay aM:F ac}{nx nx' aG aL:Nat}{s:aT}
def eX(c:F q)(a b:q):(cL c 0 [a,b]).get 0=some a:=by rw[iH];simp
def eY(c:F q)(a b:q):(cL c 0 [a,b]).get 1=some b:=by rw[iH];simp
set_option maxRecDepth 100000 in
def Ka(T3:dR X)(UW:jN X){P:Nat->Prop}{T:List Go.a6.Node}{v:q}(Ue:(o X).aN<=nx)(O:fT X S P T v)(p:∀a,P a->a<nx)(Ub:∀g∈T,h0 g)(Ud:T.length<=1000):
 aJ X 24 [v] S nx (λL B nx'=>L= .agg [.Z (g6 T).1, .Z (g6 T).2]/\aX X S nx B nx') zG:=by
 refine zB T3.todV (Co X) ?_
 rw[Cp]
 unfold vY
 refine it ?_
 generalize U2:aP X S nx _=ay
 have t:∃c,H X ay nx=some (.cells c 2 .own):=⟨_,by rw[<-U2,a7 Ue];rfl⟩
 have UA:aX X S nx ay (nx+1):=by rw[<-U2];exact dJ
 clear U2
 have Uk:∀a,P a->H X ay a=H X S a:=λa f=>UA.R a (p a f)
 refine(x0 (P:=P) (nx:=nx+1) (S:=ay) T3 UW Zo (O.R (bi:=P) Uk (λ_ e=>e)) (λa f=>zu (p a f)) Ub Ud).Zm ?_
 rintro L aM aL ⟨⟨w,rfl,Ux,UJ⟩,U0⟩
 have Us:=U0.le
 obtain⟨UN,t⟩:=t
 rw[<-U0.R _ Zo]at t
 have TZ:=UA.trans U0
 by_cases x:ha T
 case neg=>
  have z:decide (w≠0)=true:=by simp only[Zc];exact λe=>x (UJ.1 e)
  rw[u1 x]
  refine cw @z @eX @eY ⟨?_⟩
  exact⟨rfl,Zo,λa f=>by rw[aV Zo Zo];exact TZ.R a f⟩
 have Ui:=UJ.2 x
 subst Ui
 rw[u2 x]
 replace O:kC X S P T v:=O.prog x.qi
 replace t:∃c,H X aM nx=some (.cells c 2 .own):=⟨UN,t⟩
 obtain⟨b,au,bL,rows,rfl,Y,a0,U5,UH⟩:=id O
 have UK:=UH.wide
 have UF:=U5.len
 rw[UK.1]at UF
 have UX:=p b Y
 have z:decide ((0:Int)≠0)=false:=rfl
 rw[<-TZ.cW _ _ UX]at a0
 refine cw @z @a0 @UF ⟨?_⟩
 refine cM (λm y B ah=>∃(E:Nat),y.g 0=some (.ptr b 0)/\y.g 2=some (.ptr nx 0)/\y.g 13=some au/\y.g 14=some (.Z (T.length:Int))/\y.g 15=some (.Z (E:Int))/\E+m=T.length/\aX X S nx B ah/\nx<ah/\(∃c,H X B nx=some (.cells c 2 .own))/\l9 T=na T E (T.drop E))
  T.length ⟨0,aI,aI,aI,aI,cx,Zo,TZ,Zo,t,rfl⟩ ?_
 rintro m y U8 r ⟨E,t0,U7,UM,U6,T8,Ur,T1,Uw,⟨UO,G⟩,s⟩
 have Ut:=T1.le
 cases m with
 |zero=>
  have d:=zv E T.length
  rw[YK Zo]at s
  refine dp @T8 @U6 @U7 @d @eX @eY ⟨?_⟩
  refine⟨by rw[s];rfl, ?_⟩
  exact⟨Zo,λa f=>by rw[aV Zo Zo];exact T1.R a f⟩
 |succ m=>
  have d:=zw E T.length
  have UP:=zz E
  obtain⟨g,T6⟩:=zx T E
  have UZ:=Zg T6
  have UY:T.drop E=g::T.drop (E+1):=by
   obtain⟨Uj,f⟩:=Zf.1 T6
   rw[ZY Uj,f]
  rw[UY,na]at s
  obtain⟨row,Ug,U4⟩:=UH.get E g T6
  have Ul:∀a,P a->H X U8 a=H X S a:=λa f=>T1.R a (p a f)
  have Ua:=U5.cP E (by rw[UK.1];omega)
  have Uh:=(U5.R Ul).row Zd Ug
  have e2:=U4.cN
  have Uf:=U4
  obtain⟨bx,bz,Uq,Up,b0,bb,b4,c1,V0,rfl,_⟩:=U4
  refine dp @T8 @U6 @UM @d @Ua @Uh ⟨?_⟩
  refine cz (e8 (k:=6) (b:=r) (A:=0) (n:=6) (c:=F.ofList [.str [], .Z 0, .aw, .aw, .aw, .aw] 0 .nil) (a7 Zo) Zo rfl Zd Zd e2) ?_
  generalize U3:aP X _ r _=Z
  have UR:H X Z r=zy [.str g.name, .Z g.at_,bx,bz,Uq,Up] 6:=by rw[<-U3,a7 Zo];rfl
  have UL:∀a,a<r->H X Z a=H X U8 a:=λa f=>by rw[<-U3];exact zA
  clear U3
  have UB:aX X S nx Z (r+1):=⟨Zo,λa f=>by rw[UL a Zo];exact T1.R a f⟩
  rw[<-UL _ Zo]at G
  refine ci @t0 (aZ UR) ⟨?_⟩
  refine(IH (nx:=r+1) (S:=Z) T3.todV Zo (λa f=>zu (p a f)) (Uf.R (bi:=P) (λa f=>UB.R a (p a f)) (λ_ e=>e)) (by rw[tz];have:=(x.node g UZ).vars;simp only[iB];omega)).Zm ?_
  rintro L U9 i ⟨bn,bw,V1,cf,rfl,UI,UG,Un,Uo,Uy,Uz,U1⟩
  have Uu:=U1.le
  have UU:aX X S nx U9 i:=UB.trans (U1.jz Zo)
  rw[<-U1.R _ Zo]at G
  refine ci @t0 @T8 ⟨?_⟩
  generalize T4:aP X _ (i+1) _=C
  have US:H X C (i+1)=zy [.ptr b 0, .Z (E:Int), .ptr bn 0, .map i, .Z 0, .Z 0] 6:=by rw[<-T4,a7 Zo];rfl
  have UT:H X C i=some (.map [] 0):=by rw[<-T4];simp(disch:=omega) only[aV,a7]
  have T2:aX X U9 i C (i+1+1):=by rw[<-T4];exact dJ
  clear T4
  have UC:aX X S nx C (i+1+1):=UU.trans (T2.jz Zo)
  rw[<-T2.R _ Zo]at G
  have UV:∀a,(P a\/dk (r+1) i a)->a<i+1+1/\a≠i+1/\a≠i:=by
   rintro a (f|f)
   ·have:=p a f;omega
   ·have:=f.2;omega
  refine(EN (nx:=i+1+1) (S:=C) (P:=λa=>P a\/dk (r+1) i a) (k:=E) (T:=T) (g:=g) (bn:= .ptr bn 0) T3.todV Zo Zo Zo Zo Zo Zo UV
   (O.R (λa f=>UC.R a (p a f)) (λ_ e=> .inl e)) T6 ⟨bn,bw,rfl, .inr UI, .inr UG,by rw[T2.cW _ _ (zu UI.2)];exact Un,Uo.R (T2.R _ UG.2)⟩ US ⟨[],0,UT,λ_=>rfl⟩).Zm ?_
  rintro L T0 Um ⟨rfl,T5,Uv,UE⟩
  have UD:aX X S nx T0 Um:=⟨Zo,λa f=>by rw[UE a Zo Zo Zo];exact UC.R a f⟩
  rw[<-UE _ Zo Zo Zo]at G
  have TY:W X T0 (.ptr (i+1) 4)=some (.Z (hM T E g).1):=by unfold cS at T5;rw[aZ T5];rfl
  have UQ:W X T0 (.ptr (i+1) 5)=some (.Z (hM T E g).2):=by unfold cS at T5;rw[aZ T5];rfl
  by_cases T7:(hM T E g).1=0
  ·have T9:decide ((hM T E g).1≠0)=false:=by simp[T7]
   rw[Zj (by simp[T7])]at s
   refine cV @TY @T9 @T8 @UP ⟨?_⟩
   exact⟨m,Zo,E+1,al t0,al U7,al UM,al U6,aI,Zo,UD,Zo,⟨UO,G⟩,s⟩
  ·have T9:decide ((hM T E g).1≠0)=true:=by simp[T7]
   rw[Zv T7]at s
   have Uc:br X T0 2 (.ptr (i+1) 4)=some (.agg [.Z (hM T E g).1, .Z (hM T E g).2]):=by rw[h7,TY,UQ];rfl
   refine dp @TY @T9 @Uc @U7 @eX @eY ⟨?_⟩
   refine⟨by rw[s], ?_⟩
   exact⟨Zo,λa f=>by rw[aV Zo Zo];exact UD.R a f⟩
end
end
open Go.Q
set_option maxRecDepth 100000
set_option maxHeartbeats 4000000
noncomputable section
variable (X : bQ) (S : F ac) (nx : Nat) (M ad : be) (a0 aE aW a3 a4 a5 dS dW dA : q)
def vZ:Za1:=λa b c d e f=>l (cv [.Z 0,.Z 0] d) λg=>cb a c d g.1 g.2 λc d g=>aJ a 53 [b] d g (λd g h=>l (ag .neq d (.Z 0)) λd=>aq (λb c d=>aq (λb c d=>l (cq [.Z 0,.Z 0] []) λf=>N (b 2) λg=>l (bj a c 2 g f) λc=>N (b 2) λb=>l (br a c 2 b) λa=>e a c d) λg=>cC (λb c d h=>N (c 3) λi=>N (c 0) λj=>l (aY j) λj=>l (ao 0 j) λj=>l (W a d j) λj=>l (bK j) λj=>l (ag .lss i j) λi=>aq (λc d g=>aq (λa c d=>N (a 3) λe=>l (ag .add e (.Z 1)) λe=>b (I a 3 e) c d) λb=>N (c 0) λh=>l (aY h) λh=>l (ao 0 h) λh=>l (W a d h) λh=>N (c 3) λi=>l (bH 6 h i) λh=>l (br a d 6 h) λh=>l (cv [.str [],.Z 0, .aw, .aw, .aw, .aw] g) λi=>cb a d g i.1 i.2 λd g i=>l (bj a g 6 d h) λg=>N (c 0) λh=>l (ao 0 d) λj=>l (W a g j) λj=>aJ a 55 [h,j] g i (λg h i=>l (dE 0 g) λj=>l (dE 1 g) λ_=>N (c 3) λg=>l (ag .lss j g) λg=>aq (λc d g=>N (c 4) λh=>l (br a d 6 h) λh=>aJ a 31 [h] d g (λd g h=>aq (λc d g=>aq (λc d g=>N (c 0) λh=>N (c 3) λi=>N (c 7) λj=>aJ a 59 [h,i,j] d g (λd f g=>l (cv [.Z 0,.Z 0] g) λh=>cb a f g h.1 h.2 λf g h=>l (bj a g 2 f d) λd=>l (ao 0 f) λg=>l (W a d g) λg=>l (ag .neq g (.Z 0)) λg=>aq b λb=>aA g (l (br a d 2 f) λb=>N (c 2) λf=>l (bj a d 2 f b) λb=>N (c 2) λc=>l (br a b 2 c) λa=>e a b h) (b (zC c 12 f 113 g) d h)) f) λb=>cC (λc d g h=>N (d 9) λi=>N (d 7) λj=>l (bK j) λj=>l (ag .lss i j) λi=>aq (λb d g=>aq (λa b d=>N (a 9) λe=>l (ag .add e (.Z 1)) λe=>c (I a 9 e) b d) λc=>N (b 7) λh=>N (b 7) λi=>N (b 9) λj=>l (bH 11 i j) λi=>l (ao 1 i) λi=>l (ao 5 i) λi=>l (W a d i) λi=>aJ a 58 [h,i] d g (λd g h=>l (dE 0 d) λi=>l (dE 1 d) λd=>l (cv [.Z 0,.str [],.Z 0,.zF,.zF,.Z 0,.str [],.Z 0,.zF,.Z 0,.Z 0] h) λj=>cb a g h j.1 j.2 λg h j=>l (bj a h 11 g i) λg=>N (b 7) λh=>N (b 9) λi=>l (bH 11 h i) λh=>l (ao 1 h) λh=>l (ao 5 h) λh=>l (W a g h) λh=>l (bZ a g .neq 9 true h (.str [])) λh=>aj (λg i j=>aj (λg i j=>bM (λg=>aq c λc=>aA g (N (b 7) λc=>N (b 9) λd=>l (bH 11 c d) λc=>l (ao 1 c) λc=>l (ao 6 c) λc=>l (W a i c) λc=>aJ a 54 [.Z 23,c] i j (λc d f=>N (b 2) λg=>l (bj a d 2 g c) λc=>N (b 2) λb=>l (br a c 2 b) λa=>e a c f) f) (c (zC b 11 d 99 g) i j)) λa=>aA h (a g) (a .zF)) λa=>ae true h (l (cY .not g) λb=>a b i j) (a Q.undef i j)) λa=>ae true h (a d g j) (a Q.undef g j)) f) λa=>aA i (a (I d 75 i) g h) (b (I d 75 i) g h)) (I c 9 (.Z 0)) d g) λb=>cC (λc d g h=>N (d 8) λi=>N (d 7) λj=>l (bK j) λj=>l (ag .lss i j) λi=>aq (λb d g=>aq (λa b d=>N (a 8) λe=>l (ag .add e (.Z 1)) λe=>c (I a 8 e) b d) λc=>df (g+11) λg=>N (b 7) λh=>N (b 8) λi=>l (ii a d 11 h none (some i) none) λh=>N (b 7) λi=>N (b 8) λj=>l (bH 11 i j) λi=>l (ao 1 i) λi=>l (ao 0 i) λi=>l (W a d i) λj=>aJ a 57 [h] d g (λd g h=>l (W a g i) λi=>ez i (some j) (aJ a 56 [d,j] g h (λd g h=>aq c λc=>aA d (N (b 7) λc=>N (b 8) λd=>l (bH 11 c d) λc=>l (ao 1 c) λc=>l (ao 1 c) λc=>l (W a g c) λc=>aJ a 54 [.Z 24,c] g h (λc d f=>N (b 2) λg=>l (bj a d 2 g c) λc=>N (b 2) λb=>l (br a c 2 b) λa=>e a c f) f) (c (I b 64 d) g h)) f)) f) λa=>aA i (a (I d 51 i) g h) (b (I d 51 i) g h)) (zC c 7 d 8 (.Z 0)) g h) f) λb=>aA g (l (ao 1 d) λb=>l (W a h b) λb=>aJ a 54 [.Z 24,b] h i (λb d f=>N (c 2) λg=>l (bj a d 2 g b) λb=>N (c 2) λc=>l (br a b 2 c) λa=>e a b f) f) (b (zD c 4 d 5 j 42 g) h i)) f) λa=>aA i (a (I c 23 i) d h) (g (I c 23 i) d h)) (I b 3 (.Z 0)) c d) λi=>aA d (aJ a 54 [.Z 1,.Z 0] g h (λb d f=>l (bj a d 2 c b) λb=>l (br a b 2 c) λa=>e a b f) f) (i (zC (bN [b]) 2 c 15 d) g h)) f
def Cr:cl X 27 [a0]=vZ X a0:=Zk
def Cq:b9 X 27 1=true:=Zk
def v6:Za1:=λa b c d e _=>eR a c d b λc d f=>aq (λb c d=>aq (λb c d=>aq (λb c d=>aq (λa b c=>N (a 3) λa=>e a b c) λe=>cC (λb c d f=>N (c 7) λg=>N (c 3) λh=>l (bK h) λh=>l (ag .lss g h) λg=>aq (λc d e=>aq (λa c d=>N (a 7) λe=>l (ag .add e (.Z 1)) λe=>b (I a 7 e) c d) λb=>N (c 1) λf=>l (ao 5 f) λf=>l (W a d f) λf=>l (bK f) λf=>l (ag .sub f (.Z 1)) λf=>aq b λb=>cC (λc d e f=>N (d 8) λg=>l (ag .geq g (.Z 0)) λg=>aq (λb d e=>aq (λa b d=>N (a 8) λe=>l (ag .sub e (.Z 1)) λe=>c (I a 8 e) b d) λc=>N (b 1) λf=>l (ao 5 f) λf=>l (W a d f) λf=>N (b 8) λg=>l (bH 4 f g) λf=>l (ao 0 f) λf=>l (W a d f) λf=>l (bK f) λf=>l (ag .sub f (.Z 1)) λf=>aq c λc=>cC (λb d e f=>N (d 9) λg=>l (ag .geq g (.Z 0)) λg=>aq (λc d e=>aq (λa c d=>N (a 9) λe=>l (ag .sub e (.Z 1)) λe=>b (I a 9 e) c d) λb=>df (e+16) λe=>N (c 1) λf=>l (ao 5 f) λf=>l (W a d f) λf=>N (c 8) λg=>l (bH 4 f g) λf=>l (ao 0 f) λf=>l (W a d f) λf=>N (c 9) λg=>l (bH 1 f g) λf=>l (W a d f) λf=>N (c 3) λg=>N (c 7) λh=>l (bH 11 g h) λg=>l (ao 1 g) λg=>l (ao 0 g) λg=>l (W a d g) λg=>l (bZ a d .eql 9 false f g) λf=>aq b λb=>aA f (N (c 3) λg=>N (c 7) λh=>N (c 8) λi=>l (bH 11 g h) λg=>l (ao 9 g) λg=>l (bj a d 1 g i) λd=>N (c 3) λg=>N (c 7) λh=>N (c 9) λi=>l (bH 11 g h) λg=>l (ao 10 g) λg=>l (bj a d 1 g i) λa=>b (I c 99 f) a e) (b (I c 99 f) d e)) λa=>aA g (a (I d 81 g) e f) (c (I d 81 g) e f)) (I b 9 f) d e) λa=>aA g (a (I d 69 g) e f) (b (I d 69 g) e f)) (I c 8 f) d e) λa=>aA g (a (I c 61 g) d f) (e (I c 61 g) d f)) (I b 7 (.Z 0)) c d) λe=>cC (λb c d f=>N (c 6) λg=>N (c 1) λh=>l (ao 4 h) λh=>l (W a d h) λh=>l (bK h) λh=>l (ag .lss g h) λg=>aq (λc d e=>aq (λa c d=>N (a 6) λe=>l (ag .add e (.Z 1)) λe=>b (I a 6 e) c d) λb=>N (c 3) λf=>N (c 1) λg=>l (ao 4 g) λg=>l (W a d g) λg=>N (c 6) λh=>l (bH 8 g h) λg=>l (br a d 8 g) λg=>l (cq [.Z 0,.str [],.Z 0,.zF,.zF,.Z 0,.str [],.Z 0,.zF,.Z 0,.Z 0] [(0,1,(.Z 3)),(1,8,g),(9,1,(.Z (-1))),(10,1,(.Z (-1)))]) λg=>l (dz 1 [.Z 0,.str [],.Z 0,.zF,.zF,.Z 0,.str [],.Z 0,.zF,.Z 0,.Z 0] [(0,11,g)] e) λg=>cb a d e g.1 g.2 λd e g=>dx (d1 a e g 11 f d) e g λa d e=>b (I c 3 a) d e) λa=>aA g (a (I c 46 g) d f) (e (I c 46 g) d f)) (I b 6 (.Z 0)) c d) λe=>cC (λb c d f=>N (c 5) λg=>N (c 1) λh=>l (ao 3 h) λh=>l (W a d h) λh=>l (bK h) λh=>l (ag .lss g h) λg=>aq (λc d e=>aq (λa c d=>N (a 5) λe=>l (ag .add e (.Z 1)) λe=>b (I a 5 e) c d) λb=>N (c 3) λf=>N (c 1) λg=>l (ao 3 g) λg=>l (W a d g) λg=>N (c 5) λh=>l (bH 8 g h) λg=>l (br a d 8 g) λg=>l (cq [.Z 0,.str [],.Z 0,.zF,.zF,.Z 0,.str [],.Z 0,.zF,.Z 0,.Z 0] [(0,1,(.Z 2)),(1,8,g),(9,1,(.Z (-1))),(10,1,(.Z (-1)))]) λg=>l (dz 1 [.Z 0,.str [],.Z 0,.zF,.zF,.Z 0,.str [],.Z 0,.zF,.Z 0,.Z 0] [(0,11,g)] e) λg=>cb a d e g.1 g.2 λd e g=>dx (d1 a e g 11 f d) e g λa d e=>b (I c 3 a) d e) λa=>aA g (a (I c 30 g) d f) (e (I c 30 g) d f)) (I b 5 (.Z 0)) c d) λe=>cC (λb c d f=>N (c 4) λg=>N (c 1) λh=>l (ao 2 h) λh=>l (W a d h) λh=>l (bK h) λh=>l (ag .lss g h) λg=>aq (λc d e=>aq (λa c d=>N (a 4) λe=>l (ag .add e (.Z 1)) λe=>b (I a 4 e) c d) λb=>N (c 3) λf=>N (c 1) λg=>l (ao 2 g) λg=>l (W a d g) λg=>N (c 4) λh=>l (bH 8 g h) λg=>l (br a d 8 g) λg=>l (cq [.Z 0,.str [],.Z 0,.zF,.zF,.Z 0,.str [],.Z 0,.zF,.Z 0,.Z 0] [(0,1,(.Z 1)),(1,8,g),(9,1,(.Z (-1))),(10,1,(.Z (-1)))]) λg=>l (dz 1 [.Z 0,.str [],.Z 0,.zF,.zF,.Z 0,.str [],.Z 0,.zF,.Z 0,.Z 0] [(0,11,g)] e) λg=>cb a d e g.1 g.2 λd e g=>dx (d1 a e g 11 f d) e g λa d e=>b (I c 3 a) d e) λa=>aA g (a (I c 14 g) d f) (e (I c 14 g) d f)) (zE (bN [b]) 1 c 2 .aw 3 .aw 4 (.Z 0)) d f
def Cv:cl X 31 [a0]=v6 X a0:=Zk
def Cu:b9 X 31 1=true:=Zk
def wm:Za0:=λa b c d e f _=>l (cv [.Z 0,.Z 0] e) λg=>cb a d e g.1 g.2 λd e g=>l (cq [.Z 0,.Z 0] [(0,1,b),(1,1,c)]) λb=>l (bj a e 2 d b) λb=>l (br a b 2 d) λa=>f a b g
def CV:cl X 54 [a0,aE]=wm X a0 aE:=Zk
def CU:b9 X 54 2=true:=Zk
def wn:Za0:=λa b c d e f _=>aq (λ_ a b=>f (.tuple [.Z 0,.zF]) a b) λg=>cC (λb c d e=>N (c 0) λh=>l (bZ a d .neq 25 true h .bt) λh=>aj (λd e i=>aj (λe i j=>aj (λe i j=>aj (λe i j=>aj (λe i j=>aj (λe i j=>aj (λd e i=>bM (λd=>aq (λc d e=>aq (λa c d=>N (a 6) λe=>l (ag .add e (.Z 1)) λe=>b (I a 6 e) c d) λb=>N (c 0) λg=>l (aY g) λg=>l (ao 0 g) λg=>l (W a d g) λg=>N (c 6) λh=>l (bH 6 g h) λg=>l (ao 0 g) λg=>l (W a d g) λg=>N (c 1) λh=>l (bZ a d .eql 9 false g h) λa=>aq b λb=>aA a (N (c 6) λa=>f (.tuple [a,.zT]) d e) (b (I c 29 a) d e)) λa=>aA d (a (I c 17 d) e i) (g (I c 17 d) e i)) λa=>aA h (a d) (a .zF)) λa=>ae true h (l (ag .lss d e) λb=>a b i j) (a Q.undef i j)) λa=>ae true h (l (bK e) λb=>a b i j) (a Q.undef i j)) λb=>ae true h (l (W a i e) λa=>b a i j) (b Q.undef i j)) λa=>ae true h (l (ao 0 e) λb=>a b i j) (a Q.undef i j)) λa=>ae true h (l (aY e) λb=>a b i j) (a Q.undef i j)) λa=>ae true h (N (c 0) λb=>a b e i) (a Q.undef e i)) λa=>ae true h (N (c 6) λb=>a b d e) (a Q.undef d e)) (zD (bN [b,c]) 4 (.Z 0) 5 .zF 6 (.Z 0)) d e
def CX:cl X 55 [a0,aE]=wn X a0 aE:=Zk
def CW:b9 X 55 2=true:=Zk
def wo:Za0:=λa b c d e f _=>aq (λ_ a b=>f .zF a b) λg=>cC (λb c d e=>N (c 5) λh=>N (c 0) λi=>l (bK i) λi=>l (ag .lss h i) λh=>aq (λc d e=>aq (λa c d=>N (a 5) λe=>l (ag .add e (.Z 1)) λe=>b (I a 5 e) c d) λb=>N (c 0) λg=>N (c 5) λh=>l (bH 1 g h) λg=>l (W a d g) λg=>N (c 1) λh=>l (bZ a d .eql 9 false g h) λa=>aq b λb=>aA a (f .zT d e) (b (I c 17 a) d e)) λa=>aA h (a (I c 9 h) d e) (g (I c 9 h) d e)) (zC (bN [b,c]) 4 .zF 5 (.Z 0)) d e
def CZ:cl X 56 [a0,aE]=wo X a0 aE:=Zk
def CY:b9 X 56 2=true:=Zk
def wp:Za1:=λa b c d e f=>aq (λa b c=>N (a 3) λa=>e a b c) λe=>cC (λb c d g=>N (c 4) λh=>N (c 0) λi=>l (bK i) λi=>l (ag .lss h i) λh=>aq (λc d e=>aq (λa c d=>N (a 4) λe=>l (ag .add e (.Z 1)) λe=>b (I a 4 e) c d) λb=>N (c 3) λg=>N (c 0) λh=>N (c 4) λi=>l (bH 11 h i) λh=>l (ao 1 h) λh=>l (ao 0 h) λh=>l (W a d h) λh=>aJ a 56 [g,h] d e (λd e f=>l (cY .not d) λd=>aq b λb=>aA d (N (c 3) λg=>N (c 0) λh=>N (c 4) λi=>l (bH 11 h i) λh=>l (ao 1 h) λh=>l (ao 0 h) λh=>l (W a e h) λh=>l (dz 1 [.str []] [(0,1,h)] f) λh=>cb a e f h.1 h.2 λe f h=>dx (d1 a f h 1 g e) f h λa e f=>b (zC c 19 d 3 a) e f) (b (I c 19 d) e f)) f) λa=>aA h (a (I c 8 h) d g) (e (I c 8 h) d g)) (zD (bN [b]) 2 .aw 3 .aw 4 (.Z 0)) c d
def C1:cl X 57 [a0]=wp X a0:=Zk
def C0:b9 X 57 1=true:=Zk
def wq:Za0:=λa b c d e f _=>l (cv [.Z 0,.str [],.Z 0,.zF,.zF,.Z 0,.str [],.Z 0,.zF,.Z 0,.Z 0] e) λg=>cb a d e g.1 g.2 λd e g=>aq (λb c d=>l (cq [.Z 0,.str [],.Z 0,.zF,.zF,.Z 0,.str [],.Z 0,.zF,.Z 0,.Z 0] []) λe=>N (b 4) λg=>l (bj a c 11 g e) λc=>N (b 4) λb=>l (br a c 11 b) λa=>f (.tuple [a,.zF]) c d) λh=>cC (λb c d e=>N (c 6) λg=>N (c 0) λi=>l (bK i) λi=>l (ag .lss g i) λg=>aq (λc d e=>aq (λa c d=>N (a 6) λe=>l (ag .add e (.Z 1)) λe=>b (I a 6 e) c d) λb=>N (c 0) λg=>N (c 6) λh=>l (bH 11 g h) λg=>l (ao 1 g) λg=>l (ao 0 g) λg=>l (W a d g) λg=>N (c 1) λh=>l (bZ a d .eql 9 false g h) λg=>aq b λb=>aA g (N (c 0) λb=>N (c 6) λg=>l (bH 11 b g) λb=>l (br a d 11 b) λb=>N (c 4) λg=>l (bj a d 11 g b) λb=>N (c 4) λc=>l (br a b 11 c) λa=>f (.tuple [a,.zT]) b e) (b (I c 20 g) d e)) λa=>aA g (a (I c 10 g) d e) (h (I c 10 g) d e)) (zD (bN [b,c]) 4 d 5 .zF 6 (.Z 0)) e g
def C3:cl X 58 [a0,aE]=wq X a0 aE:=Zk
def C2:b9 X 58 2=true:=Zk
def ws:Za2:=λa b c d e f g h=>l (cv [.Z 0,.Z 0] f) λi=>cb a e f i.1 i.2 λe f i=>l (aY b) λj=>l (ao 0 j) λj=>l (W a f j) λj=>l (bH 6 j c) λj=>l (br a f 6 j) λj=>l (cv [.str [],.Z 0, .aw, .aw, .aw, .aw] i) λk=>cb a f i k.1 k.2 λf i k=>l (bj a i 6 f j) λi=>aq (λb c d=>aq (λb c d=>l (cq [.Z 0,.Z 0] []) λe=>N (b 6) λf=>l (bj a c 2 f e) λc=>N (b 6) λb=>l (br a c 2 b) λa=>g a c d) λe=>cC (λb c d f=>N (c 16) λi=>N (c 2) λj=>l (bK j) λj=>l (ag .lss i j) λi=>aq (λc d e=>aq (λa c d=>N (a 16) λe=>l (ag .add e (.Z 1)) λe=>b (I a 16 e) c d) λb=>N (c 2) λf=>N (c 16) λi=>l (bH 11 f i) λf=>l (ao 0 f) λf=>l (W a d f) λf=>l (ag .neq f (.Z 1)) λf=>aj (λd e i=>aj (λe i j=>aj (λi j k=>aj (λe i j=>aj (λe i j=>aj (λe i j=>aj (λe i j=>aj (λd e i=>aj (λd e i=>bM (λd=>aq b λb=>aA d (N (c 2) λb=>N (c 16) λd=>l (bH 11 b d) λb=>l (ao 1 b) λb=>l (ao 1 b) λb=>l (W a e b) λb=>aJ a 54 [.Z 37,b] e i (λb d e=>N (c 6) λf=>l (bj a d 2 f b) λb=>N (c 6) λc=>l (br a b 2 c) λa=>g a b e) h) (b (I c 121 d) e i)) λa=>aA f (a d) (a .zF)) λa=>ae true f (l (cY .not d) λb=>a b e i) (a Q.undef e i)) λb=>ae true f (aJ a 56 [d,e] i j (λa c d=>b a c d) h) (b Q.undef i j)) λb=>ae true f (l (W a i e) λa=>b a i j) (b Q.undef i j)) λa=>ae true f (l (ao 0 e) λb=>a b i j) (a Q.undef i j)) λa=>ae true f (l (ao 1 e) λb=>a b i j) (a Q.undef i j)) λa=>ae true f (l (bH 11 e i) λb=>a b j k) (a Q.undef j k)) λa=>ae true f (N (c 16) λb=>a b i j) (a Q.undef i j)) λa=>ae true f (N (c 2) λb=>a b e i) (a Q.undef e i)) λa=>ae true f (N (c 7) λb=>a b d e) (a Q.undef d e)) λa=>aA i (a (I c 102 i) d f) (e (I c 102 i) d f)) (I b 16 (.Z 0)) c d) λj=>cC (λb c d e=>N (c 9) λf=>N (c 8) λi=>l (ao 5 i) λi=>l (W a d i) λi=>l (bK i) λi=>l (ag .lss f i) λf=>aq (λc d e=>aq (λa c d=>N (a 9) λe=>l (ag .add e (.Z 1)) λe=>b (I a 9 e) c d) λb=>N (c 8) λf=>l (ao 5 f) λf=>l (W a d f) λf=>N (c 9) λi=>l (bH 4 f i) λf=>l (br a d 4 f) λf=>l (cv [.aw, .aw,.Z 0, .bt] e) λi=>cb a d e i.1 i.2 λd e i=>l (bj a e 4 d f) λe=>aq (λc d e=>N (c 0) λf=>N (c 1) λi=>N (c 2) λj=>N (c 10) λk=>l (ao 3 k) λk=>l (W a d k) λk=>aJ a 88 [f,i,j,k] d e (λd e f=>l (cv [.Z 0,.Z 0] f) λh=>cb a e f h.1 h.2 λe f h=>l (bj a f 2 e d) λd=>l (ao 0 e) λf=>l (W a d f) λf=>l (ag .neq f (.Z 0)) λf=>aq b λb=>aA f (l (br a d 2 e) λb=>N (c 6) λe=>l (bj a d 2 e b) λb=>N (c 6) λc=>l (br a b 2 c) λa=>g a b h) (b (zC c 15 e 97 f) d h)) h) λb=>cC (λc d e f=>N (d 11) λi=>N (d 10) λj=>l (ao 0 j) λj=>l (W a e j) λj=>l (bK j) λj=>l (ag .lss i j) λi=>aq (λb d e=>aq (λa b d=>N (a 11) λe=>l (ag .add e (.Z 1)) λe=>c (I a 11 e) b d) λc=>N (b 11) λf=>N (b 10) λi=>l (ao 1 i) λi=>l (W a d i) λi=>l (bK i) λi=>l (ag .lss f i) λf=>aq (λb d e=>N (b 2) λf=>N (b 10) λi=>l (ao 0 i) λi=>l (W a d i) λi=>N (b 11) λj=>l (bH 1 i j) λi=>l (W a d i) λi=>aJ a 58 [f,i] d e (λd e f=>l (dE 0 d) λi=>l (dE 1 d) λd=>l (cv [.Z 0,.str [],.Z 0,.zF,.zF,.Z 0,.str [],.Z 0,.zF,.Z 0,.Z 0] f) λj=>cb a e f j.1 j.2 λe f j=>l (bj a f 11 e i) λf=>l (cY .not d) λi=>aq (λb d e=>N (b 13) λf=>l (ao 0 f) λf=>l (W a d f) λf=>l (ag .eql f (.Z 1)) λf=>aj (λd e i=>aj (λe i j=>aj (λe i j=>aj (λi j k=>aj (λe i j=>aj (λe i j=>aj (λd e i=>bM (λd=>aq (λb d e=>N (b 7) λf=>N (b 10) λg=>l (ao 0 g) λg=>l (W a d g) λg=>N (b 11) λh=>l (bH 1 g h) λg=>l (W a d g) λg=>l (dz 1 [.str []] [(0,1,g)] e) λg=>cb a d e g.1 g.2 λd e g=>dx (d1 a e g 1 f d) e g λa d e=>c (I b 7 a) d e) λc=>aA d (N (b 12) λc=>aJ a 54 [.Z 24,c] e i (λc d e=>N (b 6) λf=>l (bj a d 2 f c) λc=>N (b 6) λb=>l (br a c 2 b) λa=>g a c e) h) (c (I b 78 d) e i)) λa=>aA f (a .zT) (a d)) λb=>ae false f (aJ a 56 [d,e] i j (λa c d=>b a c d) h) (b Q.undef i j)) λb=>ae false f (l (W a i e) λa=>b a i j) (b Q.undef i j)) λa=>ae false f (l (bH 1 e i) λb=>a b j k) (a Q.undef j k)) λa=>ae false f (N (b 11) λb=>a b i j) (a Q.undef i j)) λb=>ae false f (l (W a i e) λa=>b a i j) (b Q.undef i j)) λa=>ae false f (N (b 10) λb=>l (ao 0 b) λb=>a b e i) (a Q.undef e i)) λa=>ae false f (N (b 7) λb=>a b d e) (a Q.undef d e)) λc=>aA i (N (b 12) λc=>aJ a 54 [.Z 23,c] f j (λc d e=>N (b 6) λf=>l (bj a d 2 f c) λc=>N (b 6) λb=>l (br a c 2 b) λa=>g a c e) h) (c (zD b 13 e 14 d 64 i) f j)) h) λc=>aA f (N (b 10) λg=>l (ao 1 g) λg=>l (W a d g) λg=>N (b 11) λh=>l (bH 1 g h) λg=>l (W a d g) λa=>c (zD b 12 (.Z 0) 47 f 12 a) d e) (c (zC b 12 (.Z 0) 47 f) d e)) λa=>aA i (a (I d 40 i) e f) (b (I d 40 i) e f)) (zC c 10 d 11 (.Z 0)) e i) λa=>aA f (a (I c 28 f) d e) (j (I c 28 f) d e)) (zE (bN [b,c,d]) 6 e 7 .aw 8 f 9 (.Z 0)) i k
def C5:cl X 59 [a0,aE,aW]=ws X a0 aE aW:=Zk
def C4:b9 X 59 3=true:=Zk
def wL:Za3:=λa b c d e f g h i=>l (cv [.Z 0,.Z 0] g) λj=>cb a f g j.1 j.2 λf g j=>aJ a 116 [e] g j (λg j k=>aq (λb c d=>l (cq [.Z 0,.Z 0] []) λe=>N (b 8) λf=>l (bj a c 2 f e) λc=>N (b 8) λb=>l (br a c 2 b) λa=>h a c d) λm=>cC (λb c d e=>N (c 10) λf=>N (c 9) λg=>l (bK g) λg=>l (ag .lss f g) λf=>aq (λc d e=>aq (λa c d=>N (a 10) λe=>l (ag .add e (.Z 1)) λe=>b (I a 10 e) c d) λb=>N (c 9) λf=>N (c 10) λg=>l (bH 1 f g) λf=>l (W a d f) λf=>l (aY f) λg=>l (ao 0 g) λg=>l (W a d g) λg=>l (ag .eql g (.Z 2)) λg=>aj (λd e j=>aj (λd e j=>aj (λd e j=>aj (λd e j=>aj (λd e j=>bM (λd=>aj (λe g j=>aj (λe g j=>aj (λe g j=>aj (λe g j=>aj (λe g j=>bM (λd=>aq (λc d e=>N (c 11) λf=>l (aY f) λf=>l (ao 0 f) λf=>l (W a d f) λf=>l (ag .eql f (.Z 25)) λf=>aq b λb=>aA f (N (c 0) λg=>N (c 11) λj=>l (aY j) λj=>l (ao 2 j) λj=>l (W a d j) λj=>aJ a 55 [g,j] d e (λd e g=>l (dE 0 d) λj=>l (dE 1 d) λd=>l (cY .not d) λk=>aq (λc d e=>N (c 14) λf=>N (c 1) λg=>l (ag .geq f g) λf=>aq b λb=>aA f (N (c 11) λb=>l (aY b) λb=>l (ao 1 b) λb=>l (W a d b) λb=>aJ a 54 [.Z 25,b] d e (λb d e=>N (c 8) λf=>l (bj a d 2 f b) λb=>N (c 8) λc=>l (br a b 2 c) λa=>h a b e) i) (b (I c 86 f) d e)) λb=>aA k (N (c 11) λb=>l (aY b) λb=>l (ao 1 b) λb=>l (W a e b) λb=>aJ a 54 [.Z 23,b] e g (λb d e=>N (c 8) λf=>l (bj a d 2 f b) λb=>N (c 8) λc=>l (br a b 2 c) λa=>h a b e) i) (b (zE c 67 f 14 j 15 d 78 k) e g)) i) (b (I c 67 f) d e)) λb=>aA d (N (c 2) λe=>l (aY f) λk=>l (ao 2 k) λk=>l (W a g k) λk=>aJ a 58 [e,k] g j (λe g j=>l (dE 0 e) λk=>l (dE 1 e) λe=>l (cv [.Z 0,.str [],.Z 0,.zF,.zF,.Z 0,.str [],.Z 0,.zF,.Z 0,.Z 0] j) λm=>cb a g j m.1 m.2 λg j m=>l (bj a j 11 g k) λg=>l (cY .not e) λj=>aq b λb=>aA j (l (aY f) λb=>l (ao 1 b) λb=>l (W a g b) λb=>aJ a 54 [.Z 23,b] g m (λb d e=>N (c 8) λf=>l (bj a d 2 f b) λb=>N (c 8) λc=>l (br a b 2 c) λa=>h a b e) i) (b (zE c 11 f 46 d 13 e 57 j) g m)) i) (b (zC c 11 f 46 d) g j)) λa=>aA d (a .zT) (a e)) λa=>ae false d (l (ag .eql e (.Z 24)) λb=>a b g j) (a Q.undef g j)) λb=>ae false d (l (W a g e) λa=>b a g j) (b Q.undef g j)) λa=>ae false d (l (ao 0 e) λb=>a b g j) (a Q.undef g j)) λa=>ae false d (l (aY e) λb=>a b g j) (a Q.undef g j)) λa=>ae false d (a f e j) (a Q.undef e j)) λa=>aA g (a .zT) (a d)) λa=>ae false g (l (ag .eql d (.Z 6)) λb=>a b e j) (a Q.undef e j)) λb=>ae false g (l (W a e d) λa=>b a e j) (b Q.undef e j)) λa=>ae false g (l (ao 0 d) λb=>a b e j) (a Q.undef e j)) λa=>ae false g (l (aY d) λb=>a b e j) (a Q.undef e j)) λa=>ae false g (a f d e) (a Q.undef d e)) λa=>aA f (a (I c 21 f) d e) (m (I c 21 f) d e)) (zD (bN [b,c,d,e]) 8 f 9 g 10 (.Z 0)) j k) i
def DF:cl X 88 [a0,aE,aW,a3]=wL X a0 aE aW a3:=Zk
def DE:b9 X 88 4=true:=Zk
def vF:Za1:=λa b c d e f=>l (bZ a c .eql 73 true b .bt) λg=>aq (λb c d=>N (b 3) λg=>N (b 0) λh=>l (dz 1 [.bt] [(0,1,h)] d) λh=>cb a c d h.1 h.2 λc d h=>dx (d1 a d h 1 g c) d h λc d g=>aq (λa b c=>N (a 3) λa=>e a b c) λe=>cC (λb c d g=>N (c 4) λh=>N (c 0) λi=>l (aY i) λi=>l (ao 8 i) λi=>l (W a d i) λi=>l (bK i) λi=>l (ag .lss h i) λh=>aq (λc d e=>aq (λa c d=>N (a 4) λe=>l (ag .add e (.Z 1)) λe=>b (I a 4 e) c d) λb=>N (c 3) λg=>N (c 0) λh=>l (aY h) λh=>l (ao 8 h) λh=>l (W a d h) λh=>N (c 4) λi=>l (bH 1 h i) λh=>l (W a d h) λh=>aJ a 116 [h] d e (λd e f=>dx (d1 a e f 1 g d) e f λa d e=>b (I c 3 a) d e) f) λa=>aA h (a (I c 18 h) d g) (e (I c 18 h) d g)) (zC b 3 c 4 (.Z 0)) d g) λa=>aA g (e .aw c d) (a (zD (bN [b]) 2 .aw 3 .aw 6 g) c d)
def BP:cl X 116 [a0]=vF X a0:=Zk
def BO:b9 X 116 1=true:=Zk
end
end Go.Proofs.YtmipngjbcdamjaaGreatDoor

namespace Go.Proofs.YtmipngjbcdamjaaGreatDoor
open Go.Q Go.a6
noncomputable section
def eW(x:Int×bv)(p J:Int):List q:=[.Z x.1, .str x.2.name, .Z x.2.at_, .bool x.2.ty.b, .bool x.2.ty.s, .Z x.2.ty.w, .str x.2.on, .Z x.2.dg, .bool x.2.no, .Z p, .Z J]
def xT{h:List (Int×bv)}{w:aT}(e:∀x∈h,x.2.name≠w):ei h w=none:=by
 unfold ei
 rw[Option.map_eq_none_iff,zl]
 intro x a
 simp[e x a]
def F3{h:List (Int×bv)}{w:aT}{E:Nat}{x:Int×bv}(g:h[E]? =some x)(e:∀a∈h.take E,a.2.name≠w)(f:x.2.name=w):ei h w=some x.1:=by
 have b:h=h.take E++x::h.drop (E+1):=by
  obtain⟨ai,d⟩:=Zf.1 g
  rw[<-d, <-ZY ai,List.take_append_drop]
 unfold ei
 rw[b,List.find?_append]
 have c:(h.take E).find? (λx=>decide (x.2.name=w))=none:=by
  rw[zl]
  intro a i
  simp[e a i]
 rw[c,List.find?_cons]
 simp[f]
section
variable{X:bQ}{S B cE ay aM:F ac}{nx nx' aG aL bw:Nat}{bm d0 P:Nat->Prop}
def uM(b:Nat):bZ X S .neq 25 true (.ptr b 0) .bt=some .zT:=Zk
set_option maxRecDepth 100000 in
def jl(b:dR X)(c a:Int)(d:(o X).aN<=nx):aJ X 54 [.Z c, .Z a] S nx (λL B nx'=>L= .agg [.Z c, .Z a]/\aX X S nx B nx') zG:=by
 refine zB b.todV (CU X) ?_
 rw[CV]
 unfold wm
 refine ci @eX @eY ⟨?_⟩
 exact⟨rfl,dJ⟩
set_option maxRecDepth 100000 in
def xO(O:dR X){T:List Go.a6.Node}{v:q}{w:aT}(T0:fT X S P T v):
 aJ X 55 [v, .str w] S nx (λL B nx'=>L= .tuple [.Z (((eh T w).getD 0:Nat):Int), .bool (eh T w).isSome]/\B=S/\nx'=nx) zG:=by
 refine zB O.todV (CW X) ?_
 rw[CX]
 unfold wn
 obtain⟨b,au,bL,rows,rfl,Y,a0,f,z⟩:=id T0
 have C:=z.wide
 have c:=f.len
 have T1:=f.many
 rw[C.1]at c T1
 refine bh ⟨?_⟩
 refine cM (λm y B ah=>∃(E:Nat),y.g 0=some (.ptr b 0)/\y.g 1=some (.str w)/\y.g 6=some (.Z (E:Int))/\E+m=T.length/\B=S/\ah=nx/\eh T w=oC w E (T.drop E))
  T.length ⟨0,aI,aI,cx,Zo,rfl,rfl,rfl⟩ ?_
 rintro m y ay aG ⟨E,t0,r,s,T7,rfl,rfl,a⟩
 cases m with
 |zero=>
  have d:=zv E T.length
  rw[YK Zo]at a
  refine dp @s @t0 @a0 @c @d @uM ⟨?_⟩
  rw[a]
  exact⟨rfl,rfl,rfl⟩
 |succ m=>
  have d:=zw E T.length
  have G:=zz E
  obtain⟨g,t⟩:=zx T E
  have Z:T.drop E=g::T.drop (E+1):=by
   obtain⟨T4,T5⟩:=Zf.1 t
   rw[ZY T4,T5]
  rw[Z,oC]at a
  obtain⟨row,T3,T2⟩:=z.get E g t
  have x:=f.cP E (by rw[C.1];omega)
  obtain⟨bx,bz,T8,T9,b0,bb,b4,c1,T6,rfl,_⟩:=T2
  have p:=f.cell E _ 0 (.str g.name) T3 rfl
  rw[ZH]at p
  by_cases i:g.name=w
  ·have n:decide (g.name=w)=true:=by simp[i]
   rw[Zv i]at a
   refine bo @s @t0 @r @a0 @c @d (Za @uM (Za @x (Za @p @n))) ⟨?_⟩
   rw[a]
   exact⟨rfl,rfl,rfl⟩
  ·have n:decide (g.name=w)=false:=by simp[i]
   rw[Zj i]at a
   refine bo @s @t0 @r @a0 @c @d (Za @uM (Za @x (Za @p (Za @n @G)))) ⟨?_⟩
   exact⟨m,Zo,E+1,al t0,al r,aI,Zo,rfl,rfl,a⟩
set_option maxRecDepth 100000 in
def rK(z:dR X){b:Nat}{au:q}{a:List aT}{w:aT}(K:cg X S P b au 1 (dr a)):
 aJ X 56 [au, .str w] S nx (λL B nx'=>L= .bool (decide (w∈a))/\B=S/\nx'=nx) zG:=by
 refine zB z.todV (CY X) ?_
 rw[CZ]
 unfold wo
 have c:=K.len
 have C:=K.many
 rw[show(dr a).length=a.length from by simp[dr]]at c C
 refine bh ⟨?_⟩
 refine cM (λm y B ah=>∃(E:Nat),y.g 0=some au/\y.g 1=some (.str w)/\y.g 5=some (.Z (E:Int))/\E+m=a.length/\B=S/\ah=nx/\∀x∈a.take E,x≠w)
  a.length ⟨0,aI,aI,cx,Zo,rfl,rfl,Zs⟩ ?_
 rintro m y aM aL ⟨E,t0,t,t5,G,rfl,rfl,n⟩
 cases m with
 |zero=>
  have d:=zv E a.length
  rw[Zt Zo]at n
  have g:decide (w∈a)=false:=by simp only[Zb];exact λe=>n w e rfl
  refine cV @t5 @t0 @c @d ⟨?_⟩
  exact⟨by rw[g],rfl,rfl⟩
 |succ m=>
  have d:=zw E a.length
  have v:=zz E
  obtain⟨x,s⟩:=zx a E
  have r:=K.cP E (by simp[dr];omega)
  have p:=K.cell E [.str x] 0 (.str x) (by unfold dr;rw[Zw,s];rfl) rfl
  rw[ZV]at r
  rw[ZV,ZH]at p
  by_cases f:x=w
  ·have i:decide (x=w)=true:=by simp[f]
   have g:decide (w∈a)=true:=by simp only[Zc];rw[<-f];exact Zg s
   refine bo @t5 @t0 @t @c @d @r (Za @p @i) ⟨?_⟩
   exact⟨by rw[g],rfl,rfl⟩
  ·have i:decide (x=w)=false:=by simp[f]
   refine bo @t5 @t0 @t @c @d @r (Za @p (Za @i @v)) ⟨?_⟩
   exact⟨m,Zo,E+1,al t0,al t,aI,Zo,rfl,rfl,hT s n f⟩
end
section
variable{X:bQ}{S B cE ay aM:F ac}{nx nx' aG aL bw:Nat}{bm d0 P:Nat->Prop}
structure hg(rows:List (List q))(h:List (Int×bv)):Prop where
 len:rows.length=h.length
 at_:∀(i:Nat) x,h[i]? =some x->∃p J:Int,rows[i]? =some (eW x p J)
def hg.wide{rows:List (List q)}{h:List (Int×bv)}(e:hg rows h):∀r∈rows,r.length=11:=by
 intro r K
 obtain⟨i,ai,rfl⟩:=ze.1 K
 have b:=e.len
 obtain⟨p,J,a⟩:=e.at_ i (h[i]'Zo) (Ze _)
 rw[Ze ai]at a
 rw[Yd a];rfl
def hg.push{rows:List (List q)}{h:List (Int×bv)}(e:hg rows h)(x:Int×bv)(p J:Int):hg (rows++[eW x p J]) (h++[x]):=by
 have b:=e.len
 refine⟨by simp[b],λi d a=> ?_⟩
 by_cases ai:i<h.length
 ·rw[ZA ai]at a
  rw[ZA Zo]
  exact e.at_ i d a
 ·rw[Zy Zo]at a
  rw[Zy Zo,b]
  cases c:i-h.length with
  |zero=>
   rw[c]at a
   simp at a
   subst a
   exact⟨p,J,rfl⟩
  |succ E=>rw[c]at a;simp at a
def eZ(X:bQ)(S:F ac)(s:q)(aH:List Nat)(h:List (Int×bv)):Prop:=∃rows,c9 X S s 11 rows.flatten aH/\hg rows h
def eZ.R{s:q}{aH:List Nat}{h:List (Int×bv)}(e:eZ X S s aH h)(k:∀a∈aH,H X B a=H X S a):eZ X B s aH h:=by
 obtain⟨rows,b,c⟩:=e
 exact⟨rows,b.R k,c⟩
def eZ.push{s:q}{aH:List Nat}{h:List (Int×bv)}{x:Int×bv}{p J:Int}{f:Nat}(e:eZ X S s aH h)(t:H X S f=zy (eW x p J) 11)(r:cN (eW x p J)=true)(O:h.length<=5000)(z:(o X).aN<=nx)(w:∀a∈aH,a<nx):
 ∃c B b,d1 X S nx 11 s (.slice f 0 1 1)=some (.cu c B (nx+1))/\eZ X B c b (h++[x])/\(∀a∈b,a=nx\/a∈aH)/\∀a,a≠nx->a∉aH->H X B a=H X S a:=by
 obtain⟨rows,G,d⟩:=e
 have v:=ix d.wide
 have C:=d.len
 obtain⟨c,B,b,g,i,m,n⟩:=(show cT X S s 11 rows.flatten aH from .inl G).append (nx:=nx) (k:=1) Zd (hu t (dj _) rfl 1) rfl Zd r (by rw[v,C];simp[eW];omega) z w
 exact⟨c,B,b,g,⟨rows++[eW x p J],by rw[YG];simpa using i,d.push x p J⟩,m,n⟩
def Ki{α:Type}{h:List α}{i:Nat}{a:α}(e:h[i]? =some a):h.set i a=h:=by
 obtain⟨c,b⟩:=Zf.1 e
 rw[<-b,List.set_getElem_self]
def xU{an:Nat}{v:q}{A:Nat}(m:A<an):∀(rows:List (List q)) (i:Nat) (r:List q),(∀r∈rows,r.length=an)->rows[i]? =some r->i1 rows.flatten (i*an+A) [v]=(rows.set i (r.set A v)).flatten:=by
 intro rows
 induction rows with
 |nil=>intro i r _ e;simp at e
 |cons a h U=>
  intro i r K e
  have g:=K a (Zl ..)
  cases i with
  |zero=>
   simp at e
   subst e
   simp only[i1,Z9,Y4,ZE,Yg,List.length_singleton]
   rw[List.take_append_of_le_length Zo,List.drop_append_of_le_length Zo,List.set_eq_take_append_cons_drop,Zv Zo]
   simp
  |succ i=>
   have f:h[i]? =some r:=by simpa using e
   have b:=U i r (λr e=>K r (Zi _ e)) f
   have c:(i+1)*an+A=a.length+(i*an+A):=by rw[g,zr];omega
   have d:a.length+(i*an+A)+[v].length=a.length+(i*an+A+[v].length):=Zo
   unfold i1 at b ⊢
   rw[c,d,Z9,List.take_length_add_append,List.drop_length_add_append,Yh,Z9, <-b,List.append_assoc]
def hg.put{rows:List (List q)}{h:List (Int×bv)}(e:hg rows h){i:Nat}{x:Int×bv}{p J:Int}(d:h[i]? =some x)(b dw:Int):hg (rows.set i (eW x b dw)) h:=by
 have c:=e.len
 refine⟨by simpa using c,λE f a=> ?_⟩
 have g:=(Zf.1 a).1
 rw[Yr]
 by_cases j:i=E
 ·subst j
  rw[Zv rfl,Zv Zo]
  rw[d]at a
  cases a
  exact⟨b,dw,rfl⟩
 ·rw[Zj j]
  exact e.at_ E f a
def eZ.len{s:q}{aH:List Nat}{h:List (Int×bv)}(e:eZ X S s aH h)(d:h.length<=5000):bK s=some (.Z (h.length:Int)):=by
 obtain⟨rows,c,a⟩:=e
 obtain⟨b,K⟩:=c.gM Zd a.wide (zu a.len) (P:=λ_=>True) (λ_ _=>trivial)
 rw[K.len,a.len]
def eZ.at_{s:q}{aH:List Nat}{h:List (Int×bv)}{i:Nat}{x:Int×bv}(e:eZ X S s aH h)(f:h[i]? =some x):∃b,aH.head?=some b/\bH 11 s (.Z (i:Int))=some (.ptr b (i*11))/\W X S (.ptr b (i*11+1))=some (.str x.2.name)/\
 (∀z:Int,∃ay,bj X S 1 (.ptr b (i*11+9)) (.Z z)=some ay/\eZ X ay s [b] h/\∀a,a∉aH->H X ay a=H X S a)/\
 ∀z:Int,∃ay,bj X S 1 (.ptr b (i*11+10)) (.Z z)=some ay/\eZ X ay s [b] h/\∀a,a∉aH->H X ay a=H X S a:=by
 obtain⟨rows,w,c⟩:=e
 have m:=ix c.wide
 have n:=c.len
 have T2:=(Zf.1 f).1
 obtain⟨p,J,K⟩:=c.at_ i x f
 have T0:=λA (d:A<11) (v:q)=>xU (v:=v) d rows i _ c.wide K
 obtain⟨b,Y,Z,O⟩:=w.at (i:=i) (by rw[m,n];omega) Zd .i64
 have put:∀(A:Nat) (d:A<11) (z:Int) (g:List q),(eW x p J).set A (.Z z)=g->hg (rows.set i g) h->∃ay,bj X S 1 (.ptr b (i*11+A)) (.Z z)=some ay/\eZ X ay s [b] h/\∀a,a∉aH->H X ay a=H X S a:=by
  intro A d z g P T1
  obtain⟨ay,C,r,G⟩:=w.put (v:= .Z z) (aB:=[.Z z]) (A:=i*11+A) Y rfl (Nat.succ_pos _) (by rfl) (by rw[m,n];simp;omega)
  exact⟨ay,C,⟨rows.set i g,by rw[T0 A d,P]at r;exact r,T1⟩,G⟩
 refine⟨b,Y,Z, ?_,λz=>put 9 Zd z (eW x z J) rfl (c.put (p:=p) (J:=J) f z J),λz=>put 10 Zd z (eW x p z) rfl (c.put (p:=p) (J:=J) f p z)⟩
 rw[O 1]
 have j:=xU (v:= .str x.2.name) (show 1<11 by decide) rows i _ c.wide K
 have t:(i1 rows.flatten (i*11+1) [.str x.2.name])[i*11+1]? =some (.str x.2.name):=by
  rw[An (by rw[m,n];simp;omega)];simp
 rw[j,show(eW x p J).set 1 (.str x.2.name)=eW x p J from rfl,Ki K]at t
 exact t
set_option maxRecDepth 100000 in
def Lu(Uo:dR X){g:Go.a6.Node}{row:List q}(Us:(o X).aN<=nx)(Up:fR X S P (bR X S P) g row)(U3:∀b,P b->b<nx)(V4:g.cj.length<=1000/\g.out.length<=1000/\g.loc.length<=1000/\g.eqs.length<=1000):
 aJ X 31 [.agg row] S nx (λL B nx'=>(∃aH,eZ X B L aH (bf g)/\∀b∈aH,nx<=b/\b<nx')/\aX X S nx B nx') zG:=by
 refine zB Uo.todV (Cu X) ?_
 rw[Cv]
 unfold v6
 obtain⟨bx,bz,au,U0,b0,bb,b4,c1,VE,rfl,T9,TY,TZ,UB,UZ⟩:=Up
 obtain⟨VM,VN,VO,VP⟩:=V4
 refine l6 ?_
 generalize UN:aP X S nx _=ay
 have U2:H X ay nx=zy [.str g.name, .Z g.at_,bx,bz,au,U0] 6:=by rw[<-UN,a7 Us];rfl
 have UW:aX X S nx ay (nx+1):=by rw[<-UN];exact dJ
 clear UN
 have UI:∀b,P b->H X ay b=H X S b:=λb c=>UW.R b (U3 b c)
 replace T9:=T9.R UI
 replace TY:=TY.R UI
 replace TZ:=TZ.R UI
 replace UB:=UB.R UI
 have V7:=aX.refl (C:=o X) ay (nx+1)
 refine cQ (λy B ah=>∃s aH,y.g 1=some (.ptr nx 0)/\y.g 3=some s/\eZ X B s aH (([]:List (Int×bv))++g.cj.map λd=>((1:Int),d))/\(∀b∈aH,nx+1<=b/\b<ah)/\aX X ay (nx+1) B ah) (λE UD=> ?_) ?_
 ·have v:=T9.len
  have UE:=T9.many
  rw[Zn]at v UE
  refine cM (λm y B ah=>∃(i:Nat) (s:q) (aH:List Nat),y.g 1=some (.ptr nx 0)/\y.g 3=some s/\y.g 4=some (.Z (i:Int))/\i+m=g.cj.length/\eZ X B s aH (([]:List (Int×bv))++(g.cj.take i).map λd=>((1:Int),d))/\(∀b∈aH,nx+1<=b/\b<ah)/\aX X ay (nx+1) B ah)
   g.cj.length ⟨0, .aw,[],aI,aI,cx,Zo,⟨[], .inl ⟨rfl,rfl,rfl⟩,⟨rfl,λi x e=>by simp at e⟩⟩,Zs,V7⟩ ?_
  rintro m y Z z ⟨i,s,aH,p,t3,T5,ai,t,n,f⟩
  have T0:=f.le
  have T2:H X Z nx=zy [.str g.name, .Z g.at_,bx,bz,au,U0] 6:=by rw[f.R _ Zo];exact U2
  cases m with
  |zero=>
   have d:=zv i g.cj.length
   rw[Zt Zo]at t
   refine db @T5 @p (aZ T2) @v @d ⟨?_⟩
   exact UD _ _ _ ⟨s,aH,al p,al t3,t,n,f⟩
  |succ m=>
   have U5:=zw i g.cj.length
   have U6:=zz i
   obtain⟨d,T6⟩:=zx g.cj i
   have UC:=T9.cP i (by rw[Zn];omega)
   have T7:=(T9.R λb c=>f.R b (zu (U3 b c))).row (i:=i) (r:=bO d) Zd (by rw[Zw,T6];rfl)
   have UA:bO d=[.str d.name, .Z d.at_, .bool d.ty.b, .bool d.ty.s, .Z d.ty.w, .str d.on, .Z d.dg, .bool d.no]:=rfl
   rw[UA]at T7
   have UF:cN (eW (1,d) (-1) (-1))=true:=by simp[eW,Go.Q.cN,d5]
   refine bo @T5 @p @t3 (aZ T2) @v @U5 (Za @UC @T7) ⟨?_⟩
   generalize T3:aP X Z z _=O
   have U7:H X O z=zy (eW (1,d) (-1) (-1)) 11:=by rw[<-T3,a7 Zo];rfl
   have T8:∀b,b≠z->H X O b=H X Z b:=λb c=>by rw[<-T3,aV Zo c]
   clear T3
   obtain⟨UJ,U1,U4,U8,UG,U9,UH⟩:=(t.R (B:=O) λb c=>T8 b (zu (n b c))).push (nx:=z+1) U7 UF Zx Zo (λb c=>zu (n b c))
   refine eU U8 ?_
   refine ci @T5 @U6 ⟨?_⟩
   refine⟨m,Zo,i+1,UJ,U4,al p,aI,aI,Zo, ?_,λb c=> ?_,Zo,λb c=> ?_⟩
   ·rw[ZG,T6]
    simpa using UG
   ·rcases U9 b c with e|e
    ·omega
    ·have:=n b e;omega
   ·rw[UH b Zo (λe=>zu (n b e)),T8 b Zo]
    exact f.R b c
 rintro y aM aL ⟨s,aH,p,t3,t,n,f⟩
 have T0:=f.le
 refine cQ (λy B ah=>∃s aH,y.g 1=some (.ptr nx 0)/\y.g 3=some s/\eZ X B s aH ((([]:List (Int×bv))++g.cj.map λd=>((1:Int),d))++g.out.map λd=>((2:Int),d))/\(∀b∈aH,nx+1<=b/\b<ah)/\aX X ay (nx+1) B ah) (λE UD=> ?_) ?_
 ·have v:=TY.len
  have UE:=TY.many
  rw[Zn]at v UE
  refine cM (λm y B ah=>∃(i:Nat) (s:q) (aH:List Nat),y.g 1=some (.ptr nx 0)/\y.g 3=some s/\y.g 5=some (.Z (i:Int))/\i+m=g.out.length/\eZ X B s aH ((([]:List (Int×bv))++g.cj.map λd=>((1:Int),d))++(g.out.take i).map λd=>((2:Int),d))/\(∀b∈aH,nx+1<=b/\b<ah)/\aX X ay (nx+1) B ah)
   g.out.length ⟨0,s,aH,al p,al t3,cx,Zo,by simpa using t,n,f⟩ ?_
  rintro m y Z z ⟨i,s,aH,p,t3,T5,ai,t,n,f⟩
  have T0:=f.le
  have T2:H X Z nx=zy [.str g.name, .Z g.at_,bx,bz,au,U0] 6:=by rw[f.R _ Zo];exact U2
  cases m with
  |zero=>
   have d:=zv i g.out.length
   rw[Zt Zo]at t
   refine db @T5 @p (aZ T2) @v @d ⟨?_⟩
   exact UD _ _ _ ⟨s,aH,al p,al t3,t,n,f⟩
  |succ m=>
   have U5:=zw i g.out.length
   have U6:=zz i
   obtain⟨d,T6⟩:=zx g.out i
   have UC:=TY.cP i (by rw[Zn];omega)
   have T7:=(TY.R λb c=>f.R b (zu (U3 b c))).row (i:=i) (r:=bO d) Zd (by rw[Zw,T6];rfl)
   have UA:bO d=[.str d.name, .Z d.at_, .bool d.ty.b, .bool d.ty.s, .Z d.ty.w, .str d.on, .Z d.dg, .bool d.no]:=rfl
   rw[UA]at T7
   have UF:cN (eW (2,d) (-1) (-1))=true:=by simp[eW,Go.Q.cN,d5]
   refine bo @T5 @p @t3 (aZ T2) @v @U5 (Za @UC @T7) ⟨?_⟩
   generalize T3:aP X Z z _=O
   have U7:H X O z=zy (eW (2,d) (-1) (-1)) 11:=by rw[<-T3,a7 Zo];rfl
   have T8:∀b,b≠z->H X O b=H X Z b:=λb c=>by rw[<-T3,aV Zo c]
   clear T3
   obtain⟨UJ,U1,U4,U8,UG,U9,UH⟩:=(t.R (B:=O) λb c=>T8 b (zu (n b c))).push (nx:=z+1) U7 UF Zx Zo (λb c=>zu (n b c))
   refine eU U8 ?_
   refine ci @T5 @U6 ⟨?_⟩
   refine⟨m,Zo,i+1,UJ,U4,al p,aI,aI,Zo, ?_,λb c=> ?_,Zo,λb c=> ?_⟩
   ·rw[ZG,T6]
    simpa using UG
   ·rcases U9 b c with e|e
    ·omega
    ·have:=n b e;omega
   ·rw[UH b Zo (λe=>zu (n b e)),T8 b Zo]
    exact f.R b c
 clear p t3 t n f T0
 rintro y aM aL ⟨s,aH,p,t3,t,n,f⟩
 have T0:=f.le
 refine cQ (λy B ah=>∃s aH,y.g 1=some (.ptr nx 0)/\y.g 3=some s/\eZ X B s aH (((([]:List (Int×bv))++g.cj.map λd=>((1:Int),d))++g.out.map λd=>((2:Int),d))++g.loc.map λd=>((3:Int),d))/\(∀b∈aH,nx+1<=b/\b<ah)/\aX X ay (nx+1) B ah) (λE UD=> ?_) ?_
 ·have v:=TZ.len
  have UE:=TZ.many
  rw[Zn]at v UE
  refine cM (λm y B ah=>∃(i:Nat) (s:q) (aH:List Nat),y.g 1=some (.ptr nx 0)/\y.g 3=some s/\y.g 6=some (.Z (i:Int))/\i+m=g.loc.length/\eZ X B s aH (((([]:List (Int×bv))++g.cj.map λd=>((1:Int),d))++g.out.map λd=>((2:Int),d))++(g.loc.take i).map λd=>((3:Int),d))/\(∀b∈aH,nx+1<=b/\b<ah)/\aX X ay (nx+1) B ah)
   g.loc.length ⟨0,s,aH,al p,al t3,cx,Zo,by simpa using t,n,f⟩ ?_
  rintro m y Z z ⟨i,s,aH,p,t3,T5,ai,t,n,f⟩
  have T0:=f.le
  have T2:H X Z nx=zy [.str g.name, .Z g.at_,bx,bz,au,U0] 6:=by rw[f.R _ Zo];exact U2
  cases m with
  |zero=>
   have d:=zv i g.loc.length
   rw[Zt Zo]at t
   refine db @T5 @p (aZ T2) @v @d ⟨?_⟩
   exact UD _ _ _ ⟨s,aH,al p,al t3,t,n,f⟩
  |succ m=>
   have U5:=zw i g.loc.length
   have U6:=zz i
   obtain⟨d,T6⟩:=zx g.loc i
   have UC:=TZ.cP i (by rw[Zn];omega)
   have T7:=(TZ.R λb c=>f.R b (zu (U3 b c))).row (i:=i) (r:=bO d) Zd (by rw[Zw,T6];rfl)
   have UA:bO d=[.str d.name, .Z d.at_, .bool d.ty.b, .bool d.ty.s, .Z d.ty.w, .str d.on, .Z d.dg, .bool d.no]:=rfl
   rw[UA]at T7
   have UF:cN (eW (3,d) (-1) (-1))=true:=by simp[eW,Go.Q.cN,d5]
   refine bo @T5 @p @t3 (aZ T2) @v @U5 (Za @UC @T7) ⟨?_⟩
   generalize T3:aP X Z z _=O
   have U7:H X O z=zy (eW (3,d) (-1) (-1)) 11:=by rw[<-T3,a7 Zo];rfl
   have T8:∀b,b≠z->H X O b=H X Z b:=λb c=>by rw[<-T3,aV Zo c]
   clear T3
   obtain⟨UJ,U1,U4,U8,UG,U9,UH⟩:=(t.R (B:=O) λb c=>T8 b (zu (n b c))).push (nx:=z+1) U7 UF Zx Zo (λb c=>zu (n b c))
   refine eU U8 ?_
   refine ci @T5 @U6 ⟨?_⟩
   refine⟨m,Zo,i+1,UJ,U4,al p,aI,aI,Zo, ?_,λb c=> ?_,Zo,λb c=> ?_⟩
   ·rw[ZG,T6]
    simpa using UG
   ·rcases U9 b c with e|e
    ·omega
    ·have:=n b e;omega
   ·rw[UH b Zo (λe=>zu (n b e)),T8 b Zo]
    exact f.R b c
 clear p t3 t n f T0
 rintro y aM aL ⟨s,aH,p,t3,t,n,f⟩
 have T0:=f.le
 replace t:eZ X aM s aH (bf g):=by unfold bf;simpa using t
 have VF:(bf g).length=g.cj.length+g.out.length+g.loc.length:=by simp[bf];omega
 have Ud:=UZ.wide
 have Uh:=UB.len
 rw[Ud.1]at Uh
 clear T9 TY TZ
 refine bh ⟨?_⟩
 refine cM (λm y B ah=>∃(i:Nat) (s:q) (aH:List Nat),y.g 1=some (.ptr nx 0)/\y.g 3=some s/\y.g 7=some (.Z (i:Int))/\i+m=(bf g).length/\eZ X B s aH (bf g)/\(∀b∈aH,nx+1<=b/\b<ah)/\aX X ay (nx+1) B ah)
  (bf g).length ⟨0,s,aH,al p,al t3,cx,Zo,t,n,f⟩ ?_
 clear p t3 t n f T0
 rintro m y Z z ⟨i,s,aH,p,t3,G,ai,t,n,f⟩
 have T0:=f.le
 have T2:H X Z nx=zy [.str g.name, .Z g.at_,bx,bz,au,U0] 6:=by rw[f.R _ Zo];exact U2
 have v:=t.len Zo
 cases m with
 |zero=>
  have d:=zv i (bf g).length
  refine cV @G @t3 @v @d ⟨?_⟩
  exact⟨⟨aH,t,λb c=>zu (n b c)⟩,Zo,λb c=>by rw[f.R b Zo];exact UW.R b c⟩
 |succ m=>
 have d:=zw i (bf g).length
 have Uk:=zz i
 have ak:ag .sub (.Z (g.eqs.length:Int)) (.Z 1)=some (.Z ((g.eqs.length:Int) -1)):=g0 Zo Zo
 obtain⟨x,Uf⟩:=zx (bf g) i
 refine bo @G @t3 @p @v @d (aZ T2) (Za @Uh @ak) ⟨?_⟩
 refine cM (λmk y B ah=>∃(s:q) (aH:List Nat),y.g 1=some (.ptr nx 0)/\y.g 3=some s/\y.g 7=some (.Z (i:Int))/\y.g 8=some (.Z ((mk:Int) -1))/\mk<=g.eqs.length/\eZ X B s aH (bf g)/\(∀b∈aH,nx+1<=b/\b<ah)/\aX X ay (nx+1) B ah)
  g.eqs.length ⟨s,aH,al p,al t3,al G,aI,Zo,t,n,f⟩ ?_
 clear p t3 G t n f T0 T2 v
 rintro mk y O VQ ⟨s,aH,p,t3,G,T1,VH,t,n,f⟩
 have T0:=f.le
 have UU:H X O nx=zy [.str g.name, .Z g.at_,bx,bz,au,U0] 6:=by rw[f.R _ Zo];exact U2
 cases mk with
 |zero=>
  rw[show((0:Nat):Int) -1= -1 from rfl]at T1
  have d:decide ((0:Int)<= -1)=false:=rfl
  refine cV @T1 @G @d @Uk ⟨?_⟩
  exact⟨m,Zo,i+1,s,aH,al p,al t3,aI,Zo,t,n,f⟩
 |succ k=>
 rw[show((k+1:Nat):Int) -1=(k:Int) by omega]at T1
 have d:decide ((0:Int)<=(k:Int))=true:=zK
 have Ul:ag .sub (.Z (k:Int)) (.Z 1)=some (.Z ((k:Int) -1)):=g0 Zo Zo
 obtain⟨J,Uv⟩:=zx g.eqs k
 obtain⟨VT,Uy,Ux⟩:=UZ.get k J Uv
 obtain⟨Ui,VS,VC,VD,dy,rfl,UK,VI,VJ,VK⟩:=Ux
 have Uc:=UK.len
 have Uw:=UK.many
 rw[show(dr J.left).length=J.left.length from by simp[dr]]at Uc Uw
 have UP:=UB.cP k (by rw[Ud.1];omega)
 have Ug:∀B,aX X ay (nx+1) B (nx+1)\/True->(∀b,b<nx+1->H X B b=H X ay b)->W X B (.ptr c1 (k*4))=some Ui:=λB _ Ur=>by
  have:=(UB.R (B:=B) λb c=>Ur b (zu (U3 b c))).cell k _ 0 Ui Uy rfl
  rwa[ZH]at this
 have UX:=Ug O (.inr trivial) f.R
 have Um:ag .sub (.Z (J.left.length:Int)) (.Z 1)=some (.Z ((J.left.length:Int) -1)):=g0 Zo Zo
 refine bo @T1 @p (aZ UU) @d @UP @UX (Za @Uc @Um) ⟨?_⟩
 refine cM (λUL y B ah=>∃(s:q) (aH:List Nat),y.g 1=some (.ptr nx 0)/\y.g 3=some s/\y.g 7=some (.Z (i:Int))/\y.g 8=some (.Z (k:Int))/\y.g 9=some (.Z ((UL:Int) -1))/\UL<=J.left.length/\eZ X B s aH (bf g)/\(∀b∈aH,nx+1<=b/\b<ah)/\aX X ay (nx+1) B ah)
  J.left.length ⟨s,aH,al p,al t3,al G,al T1,aI,Zo,t,n,f⟩ ?_
 clear p t3 G T1 t n f T0 UU UX
 rintro UL y U1 VR ⟨s,aH,p,t3,G,T1,t9,VG,t,n,f⟩
 have T0:=f.le
 have UV:H X U1 nx=zy [.str g.name, .Z g.at_,bx,bz,au,U0] 6:=by rw[f.R _ Zo];exact U2
 cases UL with
 |zero=>
  rw[show((0:Nat):Int) -1= -1 from rfl]at t9
  have d:decide ((0:Int)<= -1)=false:=rfl
  refine cV @t9 @T1 @d @Ul ⟨?_⟩
  exact⟨k,Zo,s,aH,al p,al t3,al G,aI,Zo,t,n,f⟩
 |succ T4=>
 rw[show((T4+1:Nat):Int) -1=(T4:Int) by omega]at t9
 have d:decide ((0:Int)<=(T4:Int))=true:=zK
 have UT:ag .sub (.Z (T4:Int)) (.Z 1)=some (.Z ((T4:Int) -1)):=g0 Zo Zo
 obtain⟨w,V3⟩:=zx J.left T4
 have UQ:=UK.cP T4 (by simp[dr];omega)
 have UO:=(UK.R (B:=U1) λb c=>by rw[f.R b (zu (U3 b c))];exact UI b c).cell T4 [.str w] 0 (.str w) (by unfold dr;rw[Zw,V3];rfl) rfl
 rw[ZV]at UQ
 rw[ZV,ZH]at UO
 have UY:=Ug U1 (.inr trivial) f.R
 obtain⟨US,UR,Ua,Ub,Uu,_⟩:=t.at_ Uf
 have V2:US∈aH:=by cases aH with
  |nil=>simp at UR
  |cons a h=>simp at UR;subst UR;exact Zl ..
 have VL:=n US V2
 by_cases Ue:w=x.2.name
 ·have UM:decide (w=x.2.name)=true:=by simp[Ue]
  obtain⟨VA,V8,Uz,V5⟩:=Uu (k:Int)
  obtain⟨Uj,V1,Uq,_,_,Ut⟩:=Uz.at_ Uf
  have Un:Uj=US:=by simpa using V1.symm
  subst Un
  obtain⟨VB,V9,V0,V6⟩:=Ut (T4:Int)
  refine bo @t9 @T1 @G @t3 @p (aZ UV) (Za @d (Za @UP (Za @UY (Za @UQ (Za @UO (Za @Ua (Za @Ub @UM))))))) ⟨?_⟩
  refine cz V8 ?_
  refine dp @t9 @T1 @G @t3 @p @Uq ⟨?_⟩
  refine cz V9 ?_
  refine ci @t9 @UT ⟨?_⟩
  refine⟨T4,Zo,s,[Uj],al p,al t3,al G,al T1,aI,Zo,V0,λb c=>by rw[ZF.1 c];omega,Zo,λb c=> ?_⟩
  rw[V6 b (λe=>by rw[ZF.1 e]at c;omega),V5 b (λe=>zu (n b e))]
  exact f.R b c
 ·have UM:decide (w=x.2.name)=false:=by simp[Ue]
  refine bo @t9 @T1 @G @t3 @p (aZ UV) (Za @d (Za @UP (Za @UY (Za @UQ (Za @UO (Za @Ua (Za @Ub (Za @UM @UT)))))))) ⟨?_⟩
  exact⟨T4,Zo,s,aH,al p,al t3,al G,al T1,aI,Zo,t,λb c=>zu (n b c),f.more Zo⟩
end
def fN(h:List (Int×bv)):List aT:=h.foldl (λa x=>if x.2.name∈a then a else a++[x.2.name]) []
def yQ(h:List (Int×bv))(x:Int×bv):fN (h++[x])=if x.2.name∈fN h then fN h else fN h++[x.2.name]:=by
 unfold fN;rw[YX];rfl
def Is:∀(h:List (Int×bv)) (b:List aT),(h.foldl (λb x=>if x.2.name∈b then b else b++[x.2.name]) b).length<=b.length+h.length:=by
 intro h
 induction h with
 |nil=>intro b;simp
 |cons a h U=>
  intro b
  rw[ZU]
  refine ZD (U _) ?_
  split
  ·simp only[ZC];omega
  ·simp only[ZC,ZT,Z0];omega
def It{w:aT}:∀(h:List (Int×bv)) (d:List aT),w∈h.foldl (λd x=>if x.2.name∈d then d else d++[x.2.name]) d↔w∈d\/∃x∈h,x.2.name=w:=by
 intro h
 induction h with
 |nil=>intro d;simp
 |cons a h U=>
  intro d
  rw[ZU,U]
  by_cases e:a.2.name∈d
  ·rw[Zv e]
   constructor
   ·rintro(b|⟨x,b,c⟩)
    ·exact .inl b
    ·exact .inr ⟨x,Zi _ b,c⟩
   ·rintro(b|⟨x,b,c⟩)
    ·exact .inl b
    ·rcases Zz.1 b with rfl|b
     ·exact .inl (c▸e)
     ·exact .inr ⟨x,b,c⟩
  ·rw[Zj e,Zr,ZF]
   constructor
   ·rintro((b|b)|⟨x,b,c⟩)
    ·exact .inl b
    ·exact .inr ⟨a,Zl ..,b.symm⟩
    ·exact .inr ⟨x,Zi _ b,c⟩
   ·rintro(b|⟨x,b,c⟩)
    ·exact .inl (.inl b)
    ·rcases Zz.1 b with rfl|b
     ·exact .inl (.inr c.symm)
     ·exact .inr ⟨x,b,c⟩
section
variable{X:bQ}{S B cE ay aM:F ac}{nx nx' aG aL bw:Nat}{bm d0 P:Nat->Prop}
def Lv(x:Int×bv)(p J:Int):Go.Q.cN (eW x p J)=true:=by simp[eW,Go.Q.cN,d5]
set_option maxRecDepth 100000 in
def tU(U1:dR X){b:Nat}{au:q}{rows:List (List q)}{h:List (Int×bv)}{w:aT}(t:(o X).aN<=nx)(K:cg X S P b au 11 rows)(T4:hg rows h)(U2:∀f,P f->f<nx):
 aJ X 58 [au, .str w] S nx (λL B nx'=>(∃(row:List q) (k:Int),L= .tuple [.agg row, .bool (ei h w).isSome]/\(∃rest,row= .Z k::rest/\rest.length=10)/\Go.Q.cN row=true/\((ei h w).isSome=true->ei h w=some k))/\aX X S nx B nx') zG:=by
 refine zB U1.todV (C2 X) ?_
 rw[C3]
 unfold wq
 have G:=K.len
 have U3:=K.many
 rw[T4.len]at G U3
 refine it ?_
 generalize T3:aP X S nx _=ay
 have T8:∃c,H X ay nx=some (.cells c 11 .own):=⟨_,by rw[<-T3,a7 t];rfl⟩
 have T1:aX X S nx ay (nx+1):=by rw[<-T3];exact dJ
 clear T3
 obtain⟨cc,T8⟩:=T8
 replace K:=K.R (λf z=>T1.R f (U2 f z))
 refine bh ⟨?_⟩
 refine cM (λm y B ah=>∃(E:Nat),y.g 0=some au/\y.g 1=some (.str w)/\y.g 4=some (.ptr nx 0)/\y.g 6=some (.Z (E:Int))/\E+m=h.length/\B=ay/\ah=nx+1/\∀x∈h.take E,x.2.name≠w)
  h.length ⟨0,aI,aI,aI,cx,Zo,rfl,rfl,Zs⟩ ?_
 rintro m y aM aL ⟨E,t0,T6,t4,T7,U5,rfl,rfl,C⟩
 cases m with
 |zero=>
  have d:=zv E h.length
  rw[Zt Zo]at C
  have s:=xT C
  refine db @T7 @t0 @G @d @t4 ⟨?_⟩
  generalize n:aP X aM nx _=g
  have T0:H X g nx=some (.cells (cL cc 0 [.Z 0, .str [], .Z 0, .zF, .zF, .Z 0, .str [], .Z 0, .zF, .Z 0, .Z 0]) 11 .own):=by rw[<-n,a7 t];rfl
  have T2:aX X S nx g (nx+1):=⟨Zo,λf z=>by rw[<-n,aV t Zo];exact T1.R f z⟩
  clear n
  have a:∀A v,[(q.Z 0), .str [], .Z 0, .zF, .zF, .Z 0, .str [], .Z 0, .zF, .Z 0, .Z 0][A]? =some v->W X g (.ptr nx A)=some v:=λA v e=>by
   rw[aZ T0,iH]
   have:=(Zf.1 e).1
   simp only[ZC,Z0]at this
   rw[Zv Zx]
   simpa using e
  repeat(with_reducible first|refine gm ?_ |refine iY ?_ |refine iX ?_ |refine it ?_ |refine pi ?_ |refine l6 ?_ |refine qc ?_ |refine qb ?_ |refine pT ?_ |refine pV ?_ |refine pS ?_ |refine pU ?_ |refine p4 ?_ |refine pp ?_ |refine p9 ?_ |refine p8 ?_ |refine kc ?_ |refine kb ?_ |refine ka ?_ |refine j9 ?_ |refine pF ?_ |refine jV ?_ |refine jU ?_ |refine pQ ?_ |refine qr ?_ |refine qs ?_ |(refine cz (e8 (by(first|assumption|(simp(disch:=omega) only[a7,aV,t4,a 0 _ rfl,a 1 _ rfl,a 2 _ rfl,a 3 _ rfl,a 4 _ rfl,a 5 _ rfl,a 6 _ rfl,a 7 _ rfl,a 8 _ rfl,a 9 _ rfl,a 10 _ rfl]<;>rfl)|(simp(disch:=omega) only[a7,aV,t4,a 0 _ rfl,a 1 _ rfl,a 2 _ rfl,a 3 _ rfl,a 4 _ rfl,a 5 _ rfl,a 6 _ rfl,a 7 _ rfl,a 8 _ rfl,a 9 _ rfl,a 10 _ rfl]))) Zo rfl Zd Zd rfl) ?_)|((conv=>whnf;arg 1;simp(disch:=omega) only[lA,i6,lB,kH,jT,kI,lu,ls,lj,jx,kT,jt,la,h7,hm,lc,ld,lf,lg,lh,lb,lF,lH,lI,lJ,lK,lL,lM,lN,lG,hx,kx,fD,q.cells,lQ,lP,lO,lo,k7,k5,k6,k4,k3,k8,lC,lD,k0,kZ,kK,kO,kP,hK,h8,kh,li,cq,gF,gE,e5,zo,zp,zq,Yg,Yh,YW,ZW,ZN,ZC,Z0,Yj,Yf,ZO,Yt,ZL,ZE,ZH,ZP,ZM,reduceIte,Nat.reduceEqDiff,Nat.reduceAdd,Nat.reduceMul,Nat.reduceLT,Nat.reduceBEq,Y1,YJ,Yn,Yl,cO,fz,YL,Yi,Ym,Nat.reduceLeDiff,Nat.reduceSub,dz,t4,a 0 _ rfl,a 1 _ rfl,a 2 _ rfl,a 3 _ rfl,a 4 _ rfl,a 5 _ rfl,a 6 _ rfl,a 7 _ rfl,a 8 _ rfl,a 9 _ rfl,a 10 _ rfl]);(first|refine iY ?_ |refine iX ?_ |refine jV ?_ |refine jU ?_ |refine kc ?_ |refine kb ?_ |refine ka ?_ |refine j9 ?_))|dsimp only)
  exact⟨⟨_,0,by rw[s];rfl,⟨_,rfl,rfl⟩,by rfl,λe=>by rw[s]at e;cases e⟩,T2⟩
 |succ m=>
  have d:=zw E h.length
  have U0:=zz E
  obtain⟨x,T5⟩:=zx h E
  obtain⟨p,J,TZ⟩:=T4.at_ E x T5
  have T9:=K.cP E (by rw[T4.len];omega)
  have TY:=K.cell E _ 1 (.str x.2.name) TZ rfl
  by_cases O:x.2.name=w
  ·have Z:decide (x.2.name=w)=true:=by simp[O]
   have s:=F3 T5 C O
   have U4:=K.row (i:=E) (r:=eW x p J) Zd TZ
   refine bo @T7 @t0 @T6 @G @d @T9 (Za @TY (Za @Z (Za @U4 @t4))) ⟨?_⟩
   generalize n:aP X aM nx _=g
   have T0:H X g nx=some (.cells (cL cc 0 (eW x p J)) 11 .own):=by rw[<-n,a7 t];rfl
   have T2:aX X S nx g (nx+1):=⟨Zo,λf z=>by rw[<-n,aV t Zo];exact T1.R f z⟩
   clear n
   have a:∀A v,(eW x p J)[A]? =some v->W X g (.ptr nx A)=some v:=λA v e=>by
    rw[aZ T0,iH]
    have:=(Zf.1 e).1
    rw[Zv Zo]
    simpa using e
   repeat(with_reducible first|refine gm ?_ |refine iY ?_ |refine iX ?_ |refine it ?_ |refine pi ?_ |refine l6 ?_ |refine qc ?_ |refine qb ?_ |refine pT ?_ |refine pV ?_ |refine pS ?_ |refine pU ?_ |refine p4 ?_ |refine pp ?_ |refine p9 ?_ |refine p8 ?_ |refine kc ?_ |refine kb ?_ |refine ka ?_ |refine j9 ?_ |refine pF ?_ |refine jV ?_ |refine jU ?_ |refine pQ ?_ |refine qr ?_ |refine qs ?_ |(refine cz (e8 (by(first|assumption|(simp(disch:=omega) only[a7,aV,t4,a 0 _ rfl,a 1 _ rfl,a 2 _ rfl,a 3 _ rfl,a 4 _ rfl,a 5 _ rfl,a 6 _ rfl,a 7 _ rfl,a 8 _ rfl,a 9 _ rfl,a 10 _ rfl]<;>rfl)|(simp(disch:=omega) only[a7,aV,t4,a 0 _ rfl,a 1 _ rfl,a 2 _ rfl,a 3 _ rfl,a 4 _ rfl,a 5 _ rfl,a 6 _ rfl,a 7 _ rfl,a 8 _ rfl,a 9 _ rfl,a 10 _ rfl]))) Zo rfl Zd Zd rfl) ?_)|((conv=>whnf;arg 1;simp(disch:=omega) only[lA,i6,lB,kH,jT,kI,lu,ls,lj,jx,kT,jt,la,h7,hm,lc,ld,lf,lg,lh,lb,lF,lH,lI,lJ,lK,lL,lM,lN,lG,hx,kx,fD,q.cells,lQ,lP,lO,lo,k7,k5,k6,k4,k3,k8,lC,lD,k0,kZ,kK,kO,kP,hK,h8,kh,li,cq,gF,gE,e5,zo,zp,zq,Yg,Yh,YW,ZW,ZN,ZC,Z0,Yj,Yf,ZO,Yt,ZL,ZE,ZH,ZP,ZM,reduceIte,Nat.reduceEqDiff,Nat.reduceAdd,Nat.reduceMul,Nat.reduceLT,Nat.reduceBEq,Y1,YJ,Yn,Yl,cO,fz,YL,Yi,Ym,Nat.reduceLeDiff,Nat.reduceSub,dz,t4,a 0 _ rfl,a 1 _ rfl,a 2 _ rfl,a 3 _ rfl,a 4 _ rfl,a 5 _ rfl,a 6 _ rfl,a 7 _ rfl,a 8 _ rfl,a 9 _ rfl,a 10 _ rfl]);(first|refine iY ?_ |refine iX ?_ |refine jV ?_ |refine jU ?_ |refine kc ?_ |refine kb ?_ |refine ka ?_ |refine j9 ?_))|dsimp only)
   exact⟨⟨eW x p J,x.1,by rw[s];rfl,⟨_,rfl,rfl⟩,Lv x p J,λ_=>s⟩,T2⟩
  ·have Z:decide (x.2.name=w)=false:=by simp[O]
   refine bo @T7 @t0 @T6 @G @d @T9 (Za @TY (Za @Z @U0)) ⟨?_⟩
   exact⟨m,Zo,E+1,al t0,al T6,al t4,aI,Zo,rfl,rfl,hT T5 C O⟩
end
def Ky(b:List aT):(dr b).flatten=b.map q.str:=by
 induction b with
 |nil=>rfl
 |cons a h U=>simp only[dr,ZS,Z9]at U ⊢;rw[U];rfl
section
variable{X:bQ}{S B cE ay aM:F ac}{nx nx' aG aL bw:Nat}{bm d0 P:Nat->Prop}
def kq{s:q}{a:List aT}{aH:List Nat}(e:c9 X S s 1 (a.map q.str) aH)(d:a.length<=5000)(ap:∀c∈aH,bm c):∃b,cg X S bm b s 1 (dr a):=
 c9.gM (by rw[Ky];exact e) Zd (λr K=>by obtain⟨w,_,rfl⟩:=ZB.1 K;rfl) (by simp[dr];omega) ap
set_option maxRecDepth 100000 in
def Ir(O:dR X){b:Nat}{au:q}{rows:List (List q)}{h:List (Int×bv)}(U5:(o X).aN<=nx)(K:cg X S P b au 11 rows)(C:hg rows h)(U4:h.length<=3000)(T6:∀a,P a->a<nx):
 aJ X 57 [au] S nx (λL B nx'=>(∃b,cg X B (dk nx nx') b L 1 (dr (fN h)))/\aX X S nx B nx') zG:=by
 refine zB O.todV (C0 X) ?_
 rw[C1]
 unfold wp
 have n:=K.len
 rw[C.len]at n
 refine bh ⟨?_⟩
 refine cM (λm y B ah=>∃(E:Nat) (s:q) (aH:List Nat),y.g 0=some au/\y.g 3=some s/\y.g 4=some (.Z (E:Int))/\E+m=h.length/\c9 X B s 1 ((fN (h.take E)).map q.str) aH/\(∀a∈aH,nx<=a/\a<ah)/\aX X S nx B ah)
  h.length ⟨0, .aw,[],aI,aI,cx,Zo, .inl ⟨rfl,rfl,rfl⟩,Zs,aX.refl _ _⟩ ?_
 rintro m y ay aG ⟨E,s,aH,t0,t3,t4,U2,z,f,g⟩
 have U3:=g.le
 have U6:(fN (h.take E)).length<=3000:=by have:=Is (h.take E) [];simp only[Yq,Z0]at this;unfold fN;omega
 obtain⟨bb,w⟩:=kq z Zo (bm:=dk nx aG) f
 cases m with
 |zero=>
  have d:=zv E h.length
  rw[Zt Zo]at w
  refine db @t4 @t0 @n @t3 @d ⟨?_⟩
  exact⟨⟨bb,w⟩,g⟩
 |succ m=>
  have d:=zw E h.length
  have G:=zz E
  obtain⟨x,T1⟩:=zx h E
  obtain⟨p,J,T9⟩:=C.at_ E x T1
  have Z:=K.cP E (by rw[C.len];omega)
  have T0:=(K.R λa c=>g.R a (T6 a c)).cell E _ 1 (.str x.2.name) T9 rfl
  have T3:h.take (E+1)=h.take E++[x]:=by rw[ZG,T1];rfl
  refine bo @t4 @t0 @t3 @n @d @Z @T0 ⟨?_⟩
  refine(rK (nx:=aG) (S:=ay) O w).Zm ?_
  rintro L aM aL ⟨rfl,rfl,rfl⟩
  by_cases i:x.2.name∈fN (h.take E)
  ·have t:decide (x.2.name∈fN (h.take E))=true:=by simp[i]
   rw[t]
   refine ci @t4 @G ⟨?_⟩
   refine⟨m,Zo,E+1,s,aH,al t0,al t3,aI,Zo, ?_,f,g⟩
   rw[T3,yQ,Zv i];exact z
  ·have t:decide (x.2.name∈fN (h.take E))=false:=by simp[i]
   rw[t]
   refine dp @t4 @t0 @t3 @n @Z @T0 ⟨?_⟩
   generalize v:aP X aM aL _=r
   have T5:H X r aL=zy [.str x.2.name] 1:=by rw[<-v,a7 Zo]
   have T2:∀a,a≠aL->H X r a=H X aM a:=λa c=>by rw[<-v,aV Zo c]
   clear v
   obtain⟨U0,U1,T4,T7,TY,T8,TZ⟩:=(show cT X r s 1 ((fN (h.take E)).map q.str) aH from .inl (z.R λa c=>T2 a (zu (f a c)))).append (nx:=aL+1) (k:=1) Zd (hu T5 (dj _) rfl 1) rfl Zd (by rfl) Zx Zo (λa c=>zu (f a c))
   refine eU T7 ?_
   refine ci @t4 @G ⟨?_⟩
   refine⟨m,Zo,E+1,U0,T4,al t0,aI,aI,Zo, ?_,λa c=> ?_,Zo,λa c=> ?_⟩
   ·rw[T3,yQ,Zj i,YF];exact TY
   ·rcases T8 a c with e|e
    ·omega
    ·have:=f a e;omega
   ·rw[TZ a Zo (λe=>zu (f a e)),T2 a Zo]
    exact g.R a c
def eZ.front{s:q}{aH:List Nat}{h:List (Int×bv)}{i:Nat}(e:eZ X S s aH h)(ai:i<=h.length)(U0:h.length<=3000)(ap:∀T8∈aH,bm T8):∃P b,ii X S 11 s none (some (.Z (i:Int))) none=some P/\∃rows,cg X S bm b P 11 rows/\hg rows (h.take i):=by
 obtain⟨rows,G,g⟩:=e
 have w:=ix g.wide
 have C:=g.len
 obtain⟨b,f⟩:=c9.gM G Zd g.wide Zo ap
 have O:hg (rows.take i) (h.take i):=⟨by simp[C],λE x m=>by
  rw[List.getElem?_take]at m ⊢
  split at m
  ·rename_i e
   rw[Zv e];exact g.at_ E x m
  ·cases m⟩
 rcases G with ⟨rfl,t,rfl⟩|⟨p,ch,n,c,rfl,t,rfl,T9,TY,T4,TZ⟩
 ·rw[t]at w
  have T3:rows=[]:=Yc (by simp at w;omega)
  subst T3
  have T5:i=0:=by simp at C;omega
  subst T5
  exact⟨.aw,b,rfl,[],f,by simpa using O⟩
 ·rw[w]at t
  have T7:n=h.length:=Zo
  subst T7
  have Z:hn (some (.Z (i:Int))) (h.length*11/11) h.length=some i:=by
   rw[Nat.mul_div_cancel _ Zd]
   simp[hn,mz,cK,ai]
  have T0:∀a b:Nat,hn none a b=some b:=λa b=>rfl
  have T1:jH X S p=some (h.length*11):=by simp[jH,T4]
  have T2:Nat.blt 0 11=true:=rfl
  have ak:ii X S 11 (.cH p 0 h.length 11) none (some (.Z (i:Int))) none=some (.cH p 0 i 11):=by
   simp only[ii,T1,gT,YI,T0,Z]
   simp[T2]
  refine⟨_,b,ak,rows.take i,⟨λe=>f.Y λj=>e (by rw[j];simp),by have:=f.many;rw[Yq];omega,λr K=>f.wide r (YS K), ?_,λE d=> ?_,λE r k v d T6=> ?_⟩,O⟩
  ·rw[Yq,Nat.min_eq_left Zo];exact h8 ..
  ·rw[Yq]at d
   have z:=f.cP E Zo
   rw[oJ .i64 Zo]at z
   rw[oJ .i64 Zo]
   exact z
  ·rw[List.getElem?_take]at d
   split at d
   ·exact f.cell E r k v d T6
   ·cases d
end
def Al(h:List bg)(a:bg):ev (h++[a])=ev h++dH a:=by
 induction h with
 |nil=>simp[ev]
 |cons b h U=>rw[YZ,ev,ev,U,List.append_assoc]
def Jk(h:List bg)(i:Nat):(ev (h.take i)).length<=(ev h).length:=by
 induction h generalizing i with
 |nil=>simp[ev]
 |cons b h U=>
  cases i with
  |zero=>simp[ev]
  |succ i=>rw[ZO,ev,ev,ZT,ZT];have:=U i;omega
def Ji{h:List bg}{a:bg}(e:a∈h):(dH a).length<=(ev h).length:=by
 induction h with
 |nil=>cases e
 |cons b h U=>
  rw[ev,ZT]
  rcases Zz.1 e with rfl|e
  ·omega
  ·have:=U e;omega
def Ak(j:bg):0<(dH j).length:=by rw[mH];simp
section
variable{X:bQ}{S B cE ay aM:F ac}{nx nx' aG aL bw:Nat}{bm d0 P:Nat->Prop}
structure jf(X:bQ)(S:F ac)(P:Nat->Prop)(ak:List bg)(aB:List q):Prop where
 len:aB.length=ak.length
 at_:∀(i:Nat) x,ak[i]? =some x->∃w,aB[i]? =some w/\c7 X S P x w
def jf.app{ak er:List bg}{aB c:List q}(e:jf X S P ak aB)(b:jf X S P er c):jf X S P (ak++er) (aB++c):=by
 have d:=e.len
 refine⟨by simp[e.len,b.len],λi x a=> ?_⟩
 by_cases ai:i<ak.length
 ·rw[ZA ai]at a
  rw[ZA Zo]
  exact e.at_ i x a
 ·rw[Zy Zo]at a
  rw[Zy Zo,d]
  exact b.at_ _ x a
def jf.one{j:bg}{v:q}(e:c7 X S P j v):jf X S P [j] [v]:=⟨rfl,λi x a=>by
 cases i with
 |zero=>simp at a;subst a;exact⟨v,rfl,e⟩
 |succ i=>simp at a⟩
def jf.cN{ak:List bg}{aB:List q}(e:jf X S P ak aB):Go.Q.cN aB=true:=by
 have f:∀v∈aB,d5 v=true:=λv c=>by
  obtain⟨i,ai,rfl⟩:=ze.1 c
  have p:=e.len
  obtain⟨w,g,n⟩:=e.at_ i (ak[i]'Zo) (Ze _)
  rw[Ze ai]at g
  rw[Yd g]
  obtain⟨b,_,_,_,rfl,_⟩:=n.open
  rfl
 clear e
 induction aB with
 |nil=>rfl
 |cons a h U=>
  have m:=f a (Zl ..)
  have d:=U λv c=>f v (Zi _ c)
  simp[Go.Q.cN,m,d]at d ⊢
set_option maxRecDepth 100000 in
def Er(U5:dR X){fw:F ac}:∀(bT:Nat) (j:bg) (v:q) (S:F ac) (nx:Nat),(dH j).length<=bT->bT<=500000->(o X).aN<=nx->c7 X fw P j v->(∀c,P c->c<nx)->(∀c,P c->H X S c=H X fw c)->
 aJ X 116 [v] S nx (λL B nx'=>(∃aB aH,c9 X B L 1 aB aH/\jf X fw P (dH j) aB/\∀c∈aH,nx<=c/\c<nx')/\aX X S nx B nx') zG:=by
 intro bT
 induction bT with
 |zero=>intro j v S nx e;have:=Ak j;omega
 |succ bT U=>
 intro j v S nx U4 Ua Ug T6 x O
 refine zB U5.todV (BO X) ?_
 rw[BP]
 unfold vF
 have G:=c7.R O j v T6
 obtain⟨b,au,bL,Uk,rfl,Y,a0,aE,aW,a3,a4,a5,dS,dW,dA,T0,has⟩:=G.1.root (by have:=G.2;rw[hz.eq]at this;exact this.1)
 have UE:=x b Y
 have Z:=T0.len
 have UH:=T0.many
 have UF:=has.len
 rw[Zn,UF]at Z UH
 rw[mH,ZC]at U4
 refine bB @nN ⟨?_⟩
 generalize z:aP X S nx _=r
 have U2:H X r nx=zy [.ptr b 0] 1:=by rw[<-z,a7 Zo]
 have UO:∀c,c≠nx->H X r c=H X S c:=λc f=>by rw[<-z,aV Zo f]
 clear z
 obtain⟨UV,TY,T4,U8,UJ,UB,UP⟩:=(show cT X r .aw 1 [] [] from .inl (.inl ⟨rfl,rfl,rfl⟩)).append (nx:=nx+1) (k:=1) Zd (hu U2 (dj _) rfl 1) rfl Zd (by rfl) Zs Zo (λc f=>by cases f)
 refine eU U8 ?_
 have U3:aX X S nx TY (nx+1+1):=⟨Zo,λc f=>by rw[UP c Zo Zs,UO c Zo]⟩
 have UC:∀c∈T4,nx<=c/\c<nx+1+1:=λc f=>by
  rcases UB c f with e|e
  ·omega
  ·cases e
 refine bh ⟨?_⟩
 refine cM (λm y B ah=>∃(i:Nat) (s:q) (aB:List q) (aH:List Nat),y.g 0=some (.ptr b 0)/\y.g 3=some s/\y.g 4=some (.Z (i:Int))/\i+m=j.args.length/\c9 X B s 1 aB aH/\jf X fw P (j::ev (j.args.take i)) aB/\(∀c∈aH,nx<=c/\c<ah)/\aX X S nx B ah)
  j.args.length ⟨0,UV,[.ptr b 0],T4,aI,aI,cx,Zo,by simpa using UJ,by simpa[ev]using jf.one T6,UC,U3⟩ ?_
 rintro m y t UR ⟨i,s,aB,aH,t0,t3,t4,ai,T7,p,n,g⟩
 have Ue:=g.le
 have T2:W X t (.ptr b 8)=some au:=by rw[g.cW _ _ UE];exact dA
 cases m with
 |zero=>
  have d:=zv i j.args.length
  rw[Zt Zo, <-mH]at p
  refine dp @t4 @t0 @T2 @Z @t3 @d ⟨?_⟩
  exact⟨⟨aB,aH,T7,p,n⟩,g⟩
 |succ m=>
  have d:=zw i j.args.length
  have U1:=zz i
  obtain⟨a,C⟩:=zx j.args i
  have T5:=Zg C
  have Ub:=Ji T5
  obtain⟨T3,UA,U6⟩:=has.get i a C
  have T9:∀c,P c->H X t c=H X S c:=λc f=>g.R c (x c f)
  obtain⟨UT,UU,Uj⟩:=(T0.R T9).one UA
  have UI:hz a:=by have:=G.2;rw[hz.eq]at this;exact this.2.get a T5
  have U7:c7 X fw P a T3:=⟨bR.to (λc f=>(O c f).symm) (λ_ e=>e) _ _ U6,UI⟩
  have T8:j.args.take (i+1)=j.args.take i++[a]:=by rw[ZG,C];rfl
  have UN:=Jk j.args (i+1)
  rw[T8,Al,ZT]at UN
  refine bo @t4 @t0 @t3 @T2 @Z @d (Za @UT @UU) ⟨?_⟩
  refine(U a T3 t UR Zo Zo Zo U7 (λc f=>zu (x c f)) (λc f=>by rw[T9 c f,O c f])).Zm ?_
  rintro L TZ US ⟨⟨UX,UZ,UK,T1,Uc⟩,w⟩
  have Uf:=w.le
  obtain⟨gr,Uh,UM⟩:=UK.src
  have Ud:=T1.len
  have UG:=p.len
  have Ui:=Ak a
  rw[ZC]at UG
  obtain⟨UW,UY,U0,U9,UL,UD,UQ⟩:=(show cT X TZ s 1 aB aH from .inl (T7.R λc f=>w.R c (zu (n c f)))).append (nx:=US) (k:=gr) Zd UM Zo Zo T1.cN Zo Zo (λc f=>zu (n c f))
  refine eU U9 ?_
  refine ci @t4 @U1 ⟨?_⟩
  refine⟨m,Zo,i+1,UW,aB++UX,U0,al t0,aI,aI,Zo,UL, ?_,λc f=> ?_,Zo,λc f=> ?_⟩
  ·rw[T8,Al, <-YZ];exact p.app T1
  ·rcases UD c f with e|e
   ·omega
   ·have:=n c e;omega
  ·rw[UQ c Zo (λe=>zu (n c e)),w.R c Zo]
   exact g.R c f
end
def es{α:Type}(f:α->Int×Int):List α->Int×Int
 |[]=>(0,0)
 |x::h=>if (f x).1≠0 then f x else es f h
def tK{α:Type}{f:α->Int×Int}{h:List α}(e:∀x∈h,(f x).1=0):es f h=(0,0):=by
 induction h with
 |nil=>rfl
 |cons a h U=>
  unfold es
  rw[Zj (zu (e a (Zl ..))),U λx b=>e x (Zi _ b)]
def tJ{α:Type}{f:α->Int×Int}{h:List α}{E:Nat}{x:α}(b:h[E]? =some x)(e:∀c∈h.take E,(f c).1=0)(d:(f x).1≠0):es f h=f x:=by
 induction h generalizing E with
 |nil=>simp at b
 |cons a h U=>
  unfold es
  cases E with
  |zero=>
   simp at b
   subst b
   rw[Zv d]
  |succ E=>
   rw[Zj (zu (e a Zs))]
   exact U (by simpa using b) λc g=>e c (by rw[ZO];exact Zi _ g)
def tN(aB:List q):(aB.map λv=>[v]).flatten=aB:=by
 induction aB with
 |nil=>rfl
 |cons a h U=>rw[ZS,Z9,U];rfl
def eb(h:List (Int×bv))(T:List Go.a6.Node)(k:Nat)(x:bg):Int×Int:=
 if x.kind=2\/x.kind=6\/x.kind=24 then(if (ei h x.name).isSome then(0,0)else(23,x.at_))
 else if x.kind=25 then(if (eh T x.name).isSome then(if (k:Int)<=(((eh T x.name).getD 0:Nat):Int)then(25,x.at_)else(0,0))else(23,x.at_))
 else(0,0)
section
variable{X:bQ}{S B cE ay aM:F ac}{nx nx' aG aL bw:Nat}{bm d0 P bi:Nat->Prop}
set_option maxRecDepth 100000 in
def JM(T2:dR X){T:List Go.a6.Node}{h:List (Int×bv)}{rows:List (List q)}{p v au:q}{Uz k:Nat}{j:bg}(Um:(o X).aN<=nx)(Ul:fT X S P T p)(U8:∀a,P a->a<nx)
 (K:cg X S bi Uz au 11 rows)(Us:hg rows h)(UU:∀a,bi a->a<nx)(Uk:c7 X S P j v)(Ux:(dH j).length<=300000):
 aJ X 88 [p, .Z (k:Int),au,v] S nx (λL B nx'=>L= .agg [.Z (es (eb h T k) (dH j)).1, .Z (es (eb h T k) (dH j)).2]/\aX X S nx B nx') zG:=by
 refine zB T2.todV (DE X) ?_
 rw[DF]
 unfold wL
 refine it ?_
 generalize UL:aP X S nx _=ay
 have UH:∃c,H X ay nx=some (.cells c 2 .own):=⟨_,by rw[<-UL,a7 Um];rfl⟩
 have UT:aX X S nx ay (nx+1):=by rw[<-UL];exact dJ
 clear UL
 obtain⟨C,UH⟩:=UH
 refine(Er (P:=P) T2 (fw:=S) 300000 j v ay (nx+1) Ux Zo Zo Uk (λa f=>zu (U8 a f)) (λa f=>UT.R a (U8 a f))).Zm ?_
 rintro L aM aL ⟨⟨aB,aH,Ur,UZ,Uj⟩,UK⟩
 have V6:=UK.le
 have Ut:=UZ.len
 obtain⟨b7,UY⟩:=c9.gM (rows:=aB.map λv=>[v]) (P:=dk (nx+1) aL) (by rw[tN];exact Ur) Zd (λr K=>by obtain⟨w,_,rfl⟩:=ZB.1 K;rfl) (by rw[Zn];omega) Uj
 have U1:=UY.len
 rw[Zn,Ut]at U1
 have Ud:H X aM nx=some (.cells C 2 .own):=by rw[UK.R _ Zo];exact UH
 have Ug:aX X S nx aM aL:=UT.trans UK
 refine bh ⟨?_⟩
 refine cM (λm y B ah=>∃(i:Nat),y.g 0=some p/\y.g 1=some (.Z (k:Int))/\y.g 2=some au/\y.g 8=some (.ptr nx 0)/\y.g 9=some L/\y.g 10=some (.Z (i:Int))/\i+m=(dH j).length/\aX X aM aL B ah/\∀x∈(dH j).take i,(eb h T k x).1=0)
  (dH j).length ⟨0,aI,aI,aI,aI,aI,cx,Zo,aX.refl _ _,Zs⟩ ?_
 rintro m y T5 U4 ⟨i,t0,U5,T9,T4,t9,T8,ai,T1,U9⟩
 have V7:=T1.le
 have UI:H X T5 nx=some (.cells C 2 .own):=by rw[T1.R _ Zo];exact Ud
 have T0:=Ug.trans (T1.jz Zo)
 have ret:∀(B:F ac) (ah:Nat) (x:bg),(dH j)[i]? =some x->(eb h T k x).1≠0->aX X S nx B ah->q.agg [.Z (eb h T k x).1, .Z (eb h T k x).2]= .agg [.Z (es (eb h T k) (dH j)).1, .Z (es (eb h T k) (dH j)).2]/\aX X S nx B ah:=λB ah x T3 Y UJ=>⟨by rw[tJ T3 U9 Y],UJ⟩
 cases m with
 |zero=>
  have d:=zv i (dH j).length
  rw[Zt Zo]at U9
  refine bo @T8 @t9 @U1 @d @T4 @eX @eY ⟨?_⟩
  exact⟨by rw[tK U9],Zo,λa f=>by rw[aV Zo Zo];exact T0.R a f⟩
 |succ m=>
  have d:=zw i (dH j).length
  have UG:=zz i
  obtain⟨x,T3⟩:=zx (dH j) i
  obtain⟨V4,Uw,Uv⟩:=UZ.at_ i x T3
  obtain⟨UO,UP,VB⟩:=(UY.R λa f=>T1.R a f.2).one Uw
  have Ua:∀B ah,aX X S nx B ah->∀a,P a->H X B a=H X S a:=λB ah UJ a f=>UJ.R a (U8 a f)
  obtain⟨U6,_,_,_,rfl,Uu,UB,UQ,UR,_⟩:=(c7.R (Ua T5 U4 T0) x V4 Uv).open
  have V9:=U8 U6 Uu
  have next:(eb h T k x).1=0->∀a∈(dH j).take (i+1),(eb h T k a).1=0:=λe=>hT T3 U9 e
  by_cases UM:x.kind=2\/x.kind=6\/x.kind=24
  ·have TZ:decide (x.kind=25)=false:=zJ
   have step:∀(UC UE UD:Bool),decide (x.kind=2)=UC->decide (x.kind=6)=UE->decide (x.kind=24)=UD->(UC||UE||UD)=true:=λUC UE UD G Z O=>by rw[<-G, <-Z, <-O];simp only[Yx,Zc];omega
   have go:aJ X 58 [au, .str x.name] T5 U4 (λL B nx'=>(∃(row:List q) (k:Int),L= .tuple [.agg row, .bool (ei h x.name).isSome]/\(∃rest,row= .Z k::rest/\rest.length=10)/\Go.Q.cN row=true/\((ei h x.name).isSome=true->ei h x.name=some k))/\aX X T5 U4 B nx') zG:=
    tU T2 Zo (K.R λa f=>T0.R a (UU a f)) Us (λa f=>zu (UU a f))
   have s:eb h T k x=if (ei h x.name).isSome then(0,0)else(23,x.at_):=by unfold eb;rw[Zv UM]
   cases G:decide (x.kind=2)<;>cases Z:decide (x.kind=6)<;>cases O:decide (x.kind=24)
   case false.false.false=>have:=step _ _ _ G Z O;cases this
   all_goals
    refine bo @T8 @t9 @T9 @U1 @d @UO (Za @UP (Za @UB (Za @UR (Za @G (Za @Z @O))))) ⟨?_⟩
    refine go.Zm ?_
    rintro Uy z t ⟨⟨row,VA,rfl,⟨rest,Uq,Up⟩,Un,V5⟩,T7⟩
    have V8:=T7.le
    have Uh:=T0.trans (T7.jz Zo)
    have Ue:H X z nx=some (.cells C 2 .own):=by rw[T7.R _ Zo];exact UI
    have V0:W X z (.ptr U6 0)=some (.Z x.kind):=by rw[T7.cW _ _ Zo];exact UB
    have V2:W X z (.ptr U6 1)=some (.Z x.at_):=by rw[T7.cW _ _ Zo];exact UQ
    have Uo:(q.agg row).cells.length=11:=by rw[Uq];simp[q.cells,Up]
    refine bh ⟨?_⟩
    refine cz (e8 (k:=11) (b:=t) (A:=0) (n:=11) (v:= .agg row) (a7 Zo) Zo Uo Zd Zd Un) ?_
    generalize UV:aP X _ t _=T6
    have U3:∀a,a<t->H X T6 a=H X z a:=λa f=>by rw[<-UV];exact zA
    clear UV
    have Ui:aX X S nx T6 (t+1):=⟨Zo,λa f=>by rw[U3 a Zo];exact Uh.R a f⟩
    have Uf:H X T6 nx=some (.cells C 2 .own):=by rw[U3 _ Zo];exact Ue
    have V1:W X T6 (.ptr U6 0)=some (.Z x.kind):=zF (U3 _ Zo) V0
    have V3:W X T6 (.ptr U6 1)=some (.Z x.at_):=zF (U3 _ Zo) V2
    cases U0:(ei h x.name).isSome with
    |true=>
     rw[U0]at s
     refine cV @V1 @TZ @T8 @UG ⟨?_⟩
     exact⟨m,Zo,i+1,al t0,al U5,al T9,al T4,al t9,aI,Zo,⟨Zo,λa f=>by rw[U3 a Zo,T7.R a Zo];exact T1.R a f⟩,next (by rw[s];rfl)⟩
    |false=>
     rw[U0]at s
     have U2:eb h T k x=(23,x.at_):=s
     refine bB @V3 ⟨?_⟩
     refine(jl (nx:=t+1) (S:=T6) T2 23 x.at_ Zo).Zm ?_
     rintro Uc TY Ub ⟨rfl,g⟩
     have UW:=g.le
     have US:H X TY nx=some (.cells C 2 .own):=by rw[g.R _ Zo];exact Uf
     refine cw @T4 @eX @eY ⟨?_⟩
     have:=ret _ _ x T3 (by rw[U2];show(23:Int)≠0;decide) (aX.refl S nx)
     rw[U2]at this
     exact⟨this.1,Zo,λa f=>by rw[aV Zo Zo,g.R a Zo];exact Ui.R a f⟩
  ·have G:decide (x.kind=2)=false:=zJ
   have Z:decide (x.kind=6)=false:=zJ
   have O:decide (x.kind=24)=false:=zJ
   by_cases U7:x.kind=25
   ·have TZ:decide (x.kind=25)=true:=by simp[U7]
    have s:eb h T k x=if (eh T x.name).isSome then(if (k:Int)<=(((eh T x.name).getD 0:Nat):Int)then(25,x.at_)else(0,0))else(23,x.at_):=by unfold eb;rw[Zj UM,Zv U7]
    refine bo @T8 @t9 @T9 @U1 @d @UO (Za @UP (Za @UB (Za @UR (Za @G (Za @Z (Za @O (Za @TZ @t0))))))) ⟨?_⟩
    refine(xO (nx:=U4) (S:=T5) T2 (Ul.R (Ua T5 U4 T0) λ_ e=>e)).Zm ?_
    rintro Uy z t ⟨rfl,rfl,rfl⟩
    cases U0:(eh T x.name).isSome with
    |false=>
     rw[U0]at s
     have U2:eb h T k x=(23,x.at_):=s
     refine bB @UQ ⟨?_⟩
     refine(jl (nx:=t) (S:=z) T2 23 x.at_ Zo).Zm ?_
     rintro Uc TY Ub ⟨rfl,g⟩
     have UW:=g.le
     have US:H X TY nx=some (.cells C 2 .own):=by rw[g.R _ Zo];exact UI
     refine cw @T4 @eX @eY ⟨?_⟩
     have:=ret _ _ x T3 (by rw[U2];show(23:Int)≠0;decide) (aX.refl S nx)
     rw[U2]at this
     exact⟨this.1,Zo,λa f=>by rw[aV Zo Zo,g.R a Zo];exact T0.R a f⟩
    |true=>
     rw[U0]at s
     by_cases UA:(k:Int)<=(((eh T x.name).getD 0:Nat):Int)
     ·have UF:decide ((k:Int)<=(((eh T x.name).getD 0:Nat):Int))=true:=by simp only[Zc];exact UA
      have UX:eb h T k x=(25,x.at_):=by rw[s];simp only[ZP];rw[Zv UA]
      refine cw @U5 @UF @UQ ⟨?_⟩
      refine(jl (nx:=t) (S:=z) T2 25 x.at_ Zo).Zm ?_
      rintro Uc TY Ub ⟨rfl,g⟩
      have UW:=g.le
      have US:H X TY nx=some (.cells C 2 .own):=by rw[g.R _ Zo];exact UI
      refine cw @T4 @eX @eY ⟨?_⟩
      have:=ret _ _ x T3 (by rw[UX];show(25:Int)≠0;decide) (aX.refl S nx)
      rw[UX]at this
      exact⟨this.1,Zo,λa f=>by rw[aV Zo Zo,g.R a Zo];exact T0.R a f⟩
     ·have UF:decide ((k:Int)<=(((eh T x.name).getD 0:Nat):Int))=false:=by simp only[Zb];exact UA
      have UN:eb h T k x=(0,0):=by rw[s];simp only[ZP];rw[Zj UA]
      refine cV @U5 @UF @T8 @UG ⟨?_⟩
      exact⟨m,Zo,i+1,al t0,al U5,al T9,al T4,al t9,aI,Zo,T1,next (by rw[UN])⟩
   ·have TZ:decide (x.kind=25)=false:=by simp[U7]
    have UN:eb h T k x=(0,0):=by unfold eb;rw[Zj UM,Zj U7]
    refine bo @T8 @t9 @T9 @U1 @d @UO (Za @UP (Za @UB (Za @UR (Za @G (Za @Z (Za @O (Za @TZ @UG))))))) ⟨?_⟩
    exact⟨m,Zo,i+1,al t0,al U5,al T9,al T4,al t9,aI,Zo,T1,next (by rw[UN])⟩
end
def tQ{α:Type}{st:Int×Int->α->Int×Int}{ar:α->Int×Int}(c:∀f x,f.1≠0->st f x=f)(b:∀x,st (0,0) x=ar x)(d:∀x,(ar x).1=0->ar x=(0,0)):∀(h:List α),h.foldl st (0,0)=es ar h:=by
 intro h
 induction h with
 |nil=>rfl
 |cons a h U=>
  rw[ZU,b,es]
  by_cases e:(ar a).1=0
  ·rw[d a e,Zj Zs,U]
  ·rw[Zv e]
   exact nn c h (ar a) e
def tL{α:Type}{ar:α->Int×Int}(b:∀x,(ar x).1=0->ar x=(0,0)):∀(h:List α),(es ar h).1=0->es ar h=(0,0):=by
 intro h
 induction h with
 |nil=>intro _;rfl
 |cons a h U=>
  unfold es
  split
  ·intro e;exact b a e
  ·exact U
def uO{h:List (Int×bv)}{T:List Go.a6.Node}{k:Nat}(x:bg):(eb h T k x).1=0->eb h T k x=(0,0):=by
 unfold eb
 split
 ·split
  ·intro _;rfl
  ·intro e;exact absurd e (by show(23:Int)≠0;decide)
 ·split
  ·split
   ·split
    ·intro e;exact absurd e (by show(25:Int)≠0;decide)
    ·intro _;rfl
   ·intro e;exact absurd e (by show(23:Int)≠0;decide)
  ·intro _;rfl
def K3(g:Go.a6.Node)(w:aT):(cR g w).isSome=(ei (bf g) w).isSome:=by
 rw[<-vd];cases cR g w<;>rfl
def J2(g:Go.a6.Node)(T:List Go.a6.Node)(k:Nat)(x:bg):(g4 (cR g) T k (0,0) x).1=eb (bf g) T k x:=by
 have f:∀c a:Int,fe (0,0) c a=(c,a):=λc a=>oB rfl c a
 unfold g4 jE mJ eb
 by_cases m:x.kind=2\/x.kind=6\/x.kind=24
 ·have b:¬x.kind=25:=Zo
  have d:kj x=true:=by unfold kj;simp only[Yx,Zc];omega
  simp only[Zv m,Zj b,K3,f,Zv d]
 ·have d:¬kj x=true:=by unfold kj;simp only[Yx,Zc];omega
  simp only[Zj m,f,Zj d]
  by_cases b:x.kind=25
  ·simp only[Zv b]
   cases eh T x.name with
   |none=>simp
   |some E=>
    by_cases i:k<=E
    ·simp[i]
    ·have:¬(k:Int)<=(E:Int):=Zo
     simp[i]
  ·simp only[Zj b]
def JO(g:Go.a6.Node)(T:List Go.a6.Node)(k:Nat)(j:bg):oZ (cR g) T k (0,0) j=es (eb (bf g) T k) (dH j):=by
 rw[Ay]
 exact tQ (λf x e=>AC _ _ _ _ _ e) (λx=>J2 g T k x) uO _
end
end Go.Proofs.YtmipngjbcdamjaaGreatDoor

