/- Part of the proof of the last text; no conditions -/
import Derived.Test.YtmipngjbcdamjaaGreatDoorYr
set_option maxHeartbeats 8000000
set_option linter.all false
namespace Go.Proofs.YtmipngjbcdamjaaGreatDoor
open Go.S Go.a8
noncomputable section
section
variable{X:bU}{h E cH ay aO:I ae}{j ar aL aR:Nat}
structure kC(X:bU)(d:I ae)(c b bt:Nat)(p:y)(o:Int)(bq:y)(f:Int×Int)(F:aW->Option Int)(h:I ae)(n:Nat):Prop where
 le:c<=n
 eG:cW X h b p o bq (.map bt) f
 ow:gU X h bt (gD F)
 low:∀a,a<c->a≠b->a≠bt->J X h a=J X d a
def kC.T{g:I ae}{b c bt:Nat}{p bq:y}{o:Int}{f:Int×Int}{F:aW->Option Int}(e:kC X g b c bt p o bq f F ay aL)(r:c<b)(t:bt<b)(v:aL<=aR)(d:∀a,a<aL->J X aO a=J X ay a):kC X g b c bt p o bq f F aO aR:=by
 have s:=e.le
 refine⟨Zo, ?_,e.ow.T (d _ Zo),λa i m n=>by rw[d a Zo];exact e.low a i m n⟩
 have:=e.eG
 unfold cW at*
 rw[d _ Zo];exact this
def nb(L:dO)(i:Nat):Int:=(L.bw[i]?).getD 0
def yq{L:dO}{i:Nat}{w:aW}(e:L.left[i]? =some w):(eN L)[i]? =some (w,nb L i):=by
 unfold eN
 rw[Zw,vn e];rfl
def yr(L:dO):(eN L).length=L.left.length:=by simp[eN]
def EJ(U1:dX X){P:Nat->Prop}{s bt:Nat}{p bq:y}{o:Nat}{U:List Go.a8.Node}{g:Go.a8.Node}(WF:(u X).aP<=j)(UO:(u X).aP<=s)(W5:(u X).aP<=bt)(VM:s<j)(W7:bt<j)(UX:s≠bt)
 (z:∀f,P f->f<j/\f≠s/\f≠bt)(V1:kE X h P U p)(Ub:U[o]? =some g)(V9:kF X h P bq (cV g))(UN:cW X h s p o bq (.map bt) (0,0))(Vu:gU X h bt (gD λ_=>none)):
 aN X 48 [.ptr s 0] h j (λN E ar=>N= .tuple []/\cW X E s p o bq (.map bt) (hR U o g)/\j<=ar/\∀f,f<j->f≠s->f≠bt->J X E f=J X h f) zG:=by
 refine q3 (CK X) (U1.none _ _ rfl) ?_
 rw[CL]
 unfold wk
 obtain⟨bX,Wr,Wp,Wq,rfl,Vy,Vj,VY,VX⟩:=id V1
 have WI:=VX.wide
 have Wd:=(Zf.1 Ub).1
 obtain⟨row,WP,V5⟩:=VX.get o g Ub
 have WG:=V5
 have e2:=V5.cR
 obtain⟨bA,bB,ax,UA,b2,be,b6,c4,rows,rfl,W8,W9,WA,UZ,VN⟩:=V5
 have WH:=z bX Vy
 have UC:W X h (.ptr s 0)=some (.ptr bX 0):=by unfold cW at UN;rw[ba UN];rfl
 have UJ:W X h (.ptr s 1)=some (.Z (o:Int)):=by unfold cW at UN;rw[ba UN];rfl
 have V2:=VY.cT o (by rw[WI.1];omega)
 refine ho ⟨?_⟩
 generalize Uu:aS X h j _=ay
 have TZ:J X ay j=zy [.ptr s 0] 1:=by rw[<-Uu,bb WF];rfl
 have UU:a1 X h j ay (j+1):=by rw[<-Uu];exact dG
 clear Uu
 have WS:∀f,P f->J X ay f=J X h f:=λf r=>UU.T f (z f r).1
 rw[<-UU.cZ _ _ VM]at UC UJ
 rw[<-UU.cZ _ _ WH.1]at Vj
 have V6:=(VY.T WS).row Zd WP
 refine c6 (ba TZ) @UC (Za @UJ (Za @Vj (Za @V2 @V6))) ⟨?_⟩
 refine cD (e8 (o:=6) (b:=j+1+13) (D:=0) (n:=6) (c:=I.ofList [.str [], .Z 0, .az, .az, .az, .az] 0 .nil) (bb Zo) Zo rfl Zd Zd e2) ?_
 generalize Uv:aS X _ (j+1+13) _=aO
 have UD:J X aO (j+1+13)=zy [.str g.name, .Z g.at_,bA,bB,ax,UA] 6:=by rw[<-Uv,bb Zo];rfl
 have Us:a1 X ay (j+1) aO (j+1+14):=by rw[<-Uv];exact dG
 clear Uv
 rw[<-Us.T _ Zo]at TZ
 have VH:a1 X h j aO (j+1+14):=⟨Zo,λf r=>by rw[Us.T f Zo,UU.T f r]⟩
 have WT:∀f,P f->J X aO f=J X h f:=λf r=>VH.T f (z f r).1
 rw[<-Us.cZ _ _ Zo]at UC UJ
 refine c6 (ba TZ) @UC (ba UD) ⟨?_⟩
 refine(xR (j:=j+1+15+12) (h:=aO) U1 Zo (V1.T (bn:=P) WT (λ_ e=>e)) (λf r=>zu (z f r).1) g.name).Zm ?_
 rintro N T5 U5 ⟨rfl,UW⟩
 have Wf:=UW.le
 rw[<-UW.T _ Zo]at TZ UD
 rw[<-UW.cZ _ _ Zo]at UC UJ
 have UV:a1 X h j T5 U5:=⟨Zo,λf r=>by rw[UW.T f Zo,VH.T f r]⟩
 have VB:∀f,P f->J X T5 f=J X h f:=λf r=>UV.T f (z f r).1
 have Ut:kC X T5 U5 s bt (.ptr bX 0) o bq (0,0) (λ_=>none) T5 U5:=⟨Zp _,by unfold cW at*;rw[UV.T _ VM];exact UN,Vu.T (UV.T _ W7),λ_ _ _ _=>rfl⟩
 generalize WQ:(el U g.name).getD 0=to
 have Ue:jE U o g=if to<o then fe (0,0) 24 g.at_ else(0,0):=by unfold jE;rw[WQ]
 refine c6 (ba TZ) @UC @UJ ⟨?_⟩
 refine cU (λUT E aj=>UT.g 1=some (.ptr j 0)/\UT.g 2=some (.ptr (j+1+13) 0)/\UT.aA=[]/\kC X T5 U5 s bt (.ptr bX 0) o bq (jE U o g) (λ_=>none) E aj) (λH V3=> ?_) ?_
 ·by_cases VW:to<o
  ·have ao:=zw to o
   rw[Zv VW]at Ue
   refine cz @ao (ba TZ) (ba UD) ⟨?_⟩
   refine(j1 (h:=T5) U1 UO Ut.eG 24 g.at_).Zm ?_
   rintro N UI Vh ⟨rfl,W1,WC,VR⟩
   refine bl ⟨?_⟩
   exact V3 _ _ _ ⟨aK,aK,rfl,Zo,by rw[Ue];exact W1,Ut.ow.T (VR _ (λl=>UX l.symm)),λf O t Z=>VR f t⟩
  ·have ao:=zv to o
   rw[Zj VW]at Ue
   refine bG @ao ⟨?_⟩
   exact V3 _ _ _ ⟨aK,aK,rfl,by rw[Ue];exact Ut⟩
 rintro B UI Vh ⟨C,Y,T0,U9⟩
 have WC:=U9.le
 have Vo:J X UI j=zy [.ptr s 0] 1:=by rw[U9.low _ Zo Zo Zo];exact TZ
 have Vq:J X UI (j+1+13)=zy [.str g.name, .Z g.at_,bA,bB,ax,UA] 6:=by rw[U9.low _ Zo Zo Zo];exact UD
 have Ve:∀f,P f->J X UI f=J X h f:=λf r=>by have:=z f r;rw[U9.low f Zo this.2.1 this.2.2,VB f r]
 show Q _ _
 refine c6 @C @Y (Za (ba Vo) (ba Vq)) ⟨?_⟩
 refine(EY (j:=Vh) (h:=UI) U1 Zo UO Zo (λf r=>⟨zu (z f r).1,(z f r).2.1⟩) (V9.T (bn:=P) Ve (λ_ e=>e)) U9.eG (WG.T (bn:=P) Ve (λ_ e=>e)) trivial).Zm ?_
 rintro N Uk Vi ⟨rfl,W2,Wg,VS⟩
 have VI:kC X T5 U5 s bt (.ptr bX 0) o bq (j3 (cV g) g (jE U o g)) (λ_=>none) Uk Vi:=⟨Zo,W2,U9.ow.T (VS _ Zo (λl=>UX l.symm)),λf O t Z=>by rw[VS f Zo t];exact U9.low f O t Z⟩
 have Vr:J X Uk (j+1+13)=zy [.str g.name, .Z g.at_,bA,bB,ax,UA] 6:=by rw[VI.low _ Zo Zo Zo];exact UD
 have Vd:=VN.wide
 have VV:=UZ.len
 have WE:=UZ.many
 rw[Vd.1]at VV WE
 have V4:hR U o g=(bi g).foldl (f8 (g.eqs.foldl (e4 (cV g) U o) (λ_=>none,j3 (cV g) g (jE U o g))).1) (g.eqs.foldl (e4 (cV g) U o) (λ_=>none,j3 (cV g) g (jE U o g))).2:=rfl
 generalize Vb:((λ_=>none,j3 (cV g) g (jE U o g)):(aW->Option Int)×(Int×Int))=T2 at V4
 have Vw:kC X T5 U5 s bt (.ptr bX 0) o bq T2.2 T2.1 Uk Vi:=by rw[<-Vb];exact VI
 have Vz:∀w,0<=(T2.1 w).getD 0/\(T2.1 w).getD 0<=((0:Nat):Int)*1048576:=by intro w;rw[<-Vb];simp
 refine c6 @Y (ba Vr) @VV ⟨?_⟩
 refine gr ?_
 refine cQ (λm B E aj=>∃(H:Nat),B.g 1=some (.ptr j 0)/\B.g 2=some (.ptr (j+1+13) 0)/\B.aA=[]/\B.g 49=some UA/\B.g 50=some (.Z (g.eqs.length:Int))/\B.g 51=some (.Z (H:Int))/\H+m=g.eqs.length
  /\kC X T5 U5 s bt (.ptr bX 0) o bq ((g.eqs.take H).foldl (e4 (cV g) U o) T2).2 ((g.eqs.take H).foldl (e4 (cV g) U o) T2).1 E aj/\(∀w,0<=(((g.eqs.take H).foldl (e4 (cV g) U o) T2).1 w).getD 0/\(((g.eqs.take H).foldl (e4 (cV g) U o) T2).1 w).getD 0<=(H:Int)*1048576))
  g.eqs.length ⟨0,an C,an Y,T0,aK,aK,cA,Zo,Vw,Vz⟩ ?_
 clear C Y T0
 rintro m B US T7 ⟨H,C,Y,T0,T8,T3,T4,V3,T1,VK⟩
 have Wh:=T1.le
 have Vp:J X US j=zy [.ptr s 0] 1:=by rw[T1.low _ Zo Zo Zo];exact TZ
 have Vs:J X US (j+1+13)=zy [.str g.name, .Z g.at_,bA,bB,ax,UA] 6:=by rw[T1.low _ Zo Zo Zo];exact UD
 have Vf:∀f,P f->J X US f=J X h f:=λf r=>by have:=z f r;rw[T1.low f Zo this.2.1 this.2.2,VB f r]
 cases m with
 |zero=>
  have ao:=zv H g.eqs.length
  rw[Zt Zo]at T1
  generalize g.eqs.foldl (e4 (cV g) U o) T2=G at T1 V4
  refine de @T4 @T3 @Y @ao (ba Vs) ⟨?_⟩
  refine(rj U1 Zo).Zm ?_
  rintro N T6 Wn ⟨rfl,rfl,UL,WV,WW,WX⟩
  generalize Wk:T7+1=ch at*
  have VC:∀f,P f->J X T6 f=J X h f:=λf r=>by rw[UL.T f (zu (z f r).1),Vf f r]
  have W3:cW X T6 s (.ptr bX 0) o bq (.map bt) G.2:=by have:=T1.eG;unfold cW at*;rw[UL.T s Zo];exact this
  have Vl:J X T6 j=zy [.ptr s 0] 1:=by rw[UL.T _ Zo];exact Vp
  refine gr ?_
  refine rk (P:=P) (g:=g) (b2:=b2) (be:=be) (b6:=b6) (bA:=bA) (bB:=bB) (ax:=ax) U1 (λi E aj=>ip X T6 ch s bt (.ptr bX 0) o bq (.map bt) (((bi g).take i).foldl (f8 G.1) G.2) G.1 E aj) Zo Zo Zo Zo
   (W8.T VC) (W9.T VC) (WA.T VC) WV WW WX (λi E aj e=>⟨e.le,λf r=>e.low f (zu (z f r).1) (z f r).2.1 (z f r).2.2⟩)
   (λi ay aL aO aR e WB Ub=>e.T Zo Zo WB Ub) (λE Ur=>⟨Zp _,by unfold cW at*;rw[Ur.T _ Zo];exact W3,(T1.ow.T (UL.T _ Zo)).T (Ur.T _ Zo),λf r _ _=>Ur.T f r⟩) ?_ ?_
  ·intro mk i U4 d U8 U6 ak v Up Vt
   rw[mi (f8 G.1) _ ak]
   generalize ((bi g).take i).foldl (f8 G.1) G.2=aw at v ⊢
   have VT:=v.le
   have W6:bP d=[.str d.name, .Z d.at_, .bool d.ty.b, .bool d.ty.s, .Z d.ty.w, .str d.on, .Z d.di, .bool d.no]:=rfl
   rw[W6]
   unfold iH
   refine bl ⟨?_⟩
   generalize Ux:aS X _ U6 _=UB
   have Un:J X UB U6=zy [.str d.name, .Z d.at_, .bool d.ty.b, .bool d.ty.s, .Z d.ty.w, .str d.on, .Z d.di, .bool d.no] 8:=by rw[<-Ux,bb Zo];rfl
   have VA:∀f,f<U6->J X UB f=J X U8 f:=λf r=>by rw[<-Ux];exact zA
   clear Ux
   refine⟨by rw[VA _ Zo];exact Vt, ?_⟩
   generalize Uy:aS X UB (ch+1) _=TY
   have Uo:J X TY (ch+1)=some (mk .busy none):=by rw[<-Uy,bb Zo]
   have VD:∀f,f≠ch+1->J X TY f=J X UB f:=λf r=>by rw[<-Uy,aY Zo r]
   clear Uy
   have U0:=v.T (aO:=TY) (aR:=U6+1) Zo Zo Zo (λf O t=>by rw[VD f t,VA f O])
   rw[<-VD _ Zo]at Un
   have Uq:J X TY ch=some (.deferred (some [])):=by rw[VD _ Zo,VA _ Zo];exact Up
   have VE:W X TY (.ptr j 0)=some (.ptr s 0):=by rw[ba (show J X TY j=_ by rw[U0.low _ Zo Zo Zo];exact Vl)];rfl
   have Vg:W X TY (.ptr s 3)=some (.map bt):=by have:=U0.eG;unfold cW at this;rw[ba this];rfl
   have VU:gs X TY 9 (.Z 0) (.map bt) (.str d.name) false=some (.Z ((G.1 d.name).getD 0)):=by
    rw[nA U0.seen];unfold gD;cases G.1 d.name<;>rfl
   have UF:∀E aj,ip X T6 ch s bt (.ptr bX 0) o bq (.map bt) (f8 G.1 aw (U4,d)) G.1 E aj->J X E ch=some (.deferred (some []))->(y.bool true=y.bool true/\ip X T6 ch s bt (.ptr bX 0) o bq (.map bt) (f8 G.1 aw (U4,d)) G.1 (aS X E (ch+1) (some (mk .ready none))) aj/\J X (aS X E (ch+1) (some (mk .ready none))) ch=some (.deferred (some []))/\J X (aS X E (ch+1) (some (mk .ready none))) (ch+1)=some (mk .ready none)):=λE aj e t=>
    ⟨rfl,e.T Zo Zo (Zp _) (λf O t=>aY Zo t),by rw[aY Zo Zo];exact t,bb Zo⟩
   refine ho ⟨?_⟩
   refine gr ?_
   by_cases Uc:U4=1
   ·have ao:decide (U4≠1)=false:=by simp[Uc]
    have UP:f8 G.1 aw (U4,d)=aw:=by unfold f8;rw[Zj (by simp[Uc])]
    refine bG @ao ⟨?_⟩
    rw[UP]at UF ⊢
    exact⟨⟨.busy,none,Uo⟩,UF _ _ (U0.T Zo Zo Zo (λ_ _ _=>rfl)) Uq⟩
   ·have ao:decide (U4≠1)=true:=by simp[Uc]
    by_cases Ui:(G.1 d.name).getD 0=0
    ·have Um:decide ((G.1 d.name).getD 0=0)=true:=by simp[Ui]
     have UP:f8 G.1 aw (U4,d)=fe aw 37 d.at_:=by unfold f8;rw[Zv ⟨Uc,Ui⟩]
     refine bs @ao @C @VE @Vg (ba Un) @VU @Um ⟨?_⟩
     refine(j1 (h:=TY) U1 UO U0.eG 37 d.at_).Zm ?_
     rintro N fy Wo ⟨rfl,W4,Wi,Ud⟩
     refine bl ⟨?_⟩
     rw[UP]at UF ⊢
     have We:=U0.le
     exact⟨⟨.busy,none,by rw[Ud _ Zo];exact Uo⟩,UF _ _ ⟨Zo,W4,U0.seen.T (Ud _ Zo),λf O t Z=>by rw[Ud f t];exact U0.low f O t Z⟩ (by rw[Ud _ Zo];exact Uq)⟩
    ·have Um:decide ((G.1 d.name).getD 0=0)=false:=by simp[Ui]
     have UP:f8 G.1 aw (U4,d)=aw:=by unfold f8;rw[Zj (λe=>Ui e.2)]
     refine bs @ao @C @VE @Vg (ba Un) @VU @Um ⟨?_⟩
     rw[UP]at UF ⊢
     exact⟨⟨.busy,none,Uo⟩,UF _ _ (U0.T Zo Zo Zo (λ_ _ _=>rfl)) Uq⟩
  ·intro U8 U6 v Up
   rw[zi]at v
   have VT:=v.le
   rw[<-V4]at v
   show hW X [] _ _ _ _ _
   simp only[jA,ja,T0]
   refine⟨by show(u X).aP<=ch;omega,Up, ?_⟩
   show i7 _ _ _ _ _
   refine⟨rfl, ?_,Zo,λf O t Z=> ?_⟩
   ·have:=v.eG
    unfold cW at*
    rw[aY Zo Zo];exact this
   ·rw[aY Zo Zo,v.low f Zo t Z,UL.T f Zo,T1.low f Zo t Z,UV.T f O]
 |succ m=>
  have ao:=zw H g.eqs.length
  have Vm:=zz H
  obtain⟨L,VZ⟩:=zx g.eqs H
  obtain⟨Ws,WO,WN⟩:=VN.get H L VZ
  have V2:=UZ.cT H (by rw[Vd.1];omega)
  have V6:=(UZ.T Vf).row Zd WO
  obtain⟨Uj,Vk,WZ,Wa,dB,rfl,Uf,Ug,WJ,WK⟩:=WN
  have Va:=Uf.len
  have WM:=Uf.many
  have Uh:=Ug.1.len
  have WL:=Ug.1.many
  rw[show(dt L.left).length=L.left.length from by simp[dt]]at Va WM
  rw[Zn]at Uh WL
  have V7:=mi (e4 (cV g) U o) T2 VZ
  generalize Wc:(g.eqs.take H).foldl (e4 (cV g) U o) T2=UH at T1 V7 VK
  refine dw @T4 @T3 @T8 @ao @V2 @V6 ⟨?_⟩
  refine cD (e8 (o:=4) (b:=T7) (D:=0) (n:=4) (c:=I.ofList [.az, .az, .Z 0, .bC] 0 .nil) (bb Zo) Zo rfl Zd Zd WK) ?_
  generalize Uw:aS X _ T7 _=T6
  have VG:J X T6 T7=zy [Uj,Vk, .Z L.at_,dB] 4:=by rw[<-Uw,bb Zo];rfl
  have WR:∀f,f<T7->J X T6 f=J X US f:=λf r=>by rw[<-Uw];exact zA
  clear Uw
  have Vx:=T1.T (aO:=T6) (aR:=T7+1) Zo Zo Zo (λf O=>WR f O)
  refine tU (ba VG) @Va ⟨?_⟩
  refine gr ?_
  refine cQ (λUR B E aj=>∃(i:Nat),B.g 1=some (.ptr j 0)/\B.g 2=some (.ptr (j+1+13) 0)/\B.aA=[]/\B.g 49=some UA/\B.g 50=some (.Z (g.eqs.length:Int))/\B.g 51=some (.Z (H:Int))/\B.g 6=some (.ptr T7 0)/\B.g 56=some Uj/\B.g 57=some (.Z (L.left.length:Int))/\B.g 58=some (.Z (i:Int))/\i+UR=L.left.length
   /\kC X T5 U5 s bt (.ptr bX 0) o bq (((eN L).take i).foldl (g7 (cV g)) UH).2 (((eN L).take i).foldl (g7 (cV g)) UH).1 E aj/\(∀w,0<=((((eN L).take i).foldl (g7 (cV g)) UH).1 w).getD 0/\((((eN L).take i).foldl (g7 (cV g)) UH).1 w).getD 0<=(H:Int)*1048576+i)
   /\T7+1<=aj/\J X E T7=zy [Uj,Vk, .Z L.at_,dB] 4)
   L.left.length ⟨0,an C,an Y,T0,an T8,an T3,an T4,aK,aK,aK,cA,Zo,Vx,λw=>by simpa using VK w,Zo,VG⟩ ?_
  clear C Y T0 T8 T3 T4
  rintro UR UT U8 U6 ⟨i,C,Y,T0,T8,T3,T4,T9,U7,U2,U3,ak,v,UM,Wj,UE⟩
  have VT:=v.le
  have VF:J X U8 j=zy [.ptr s 0] 1:=by rw[v.low _ Zo Zo Zo];exact TZ
  have UG:∀f,P f->J X U8 f=J X h f:=λf r=>by have:=z f r;rw[v.low f Zo this.2.1 this.2.2,VB f r]
  cases UR with
  |zero=>
   have UK:=zv i L.left.length
   rw[Zt (by rw[yr];omega)]at v UM
   refine bs @U3 @U2 @C @T9 @UK (ba VF) (ba UE) ⟨?_⟩
   refine(JM (j:=U6) (h:=U8) U1 Zo UO Zo (λf r=>⟨zu (z f r).1,(z f r).2.1⟩) (V9.T (bn:=P) UG (λ_ e=>e)) (V1.T (bn:=P) UG (λ_ e=>e)) v.eG (da.T UG _ _ WJ)).Zm ?_
   rintro N UB WU ⟨rfl,V0,WD,UQ⟩
   refine cn @T4 @Vm ⟨?_⟩
   refine⟨m,Zo,H+1,an C,an Y,T0,an T8,an T3,aK,Zo, ?_, ?_⟩
   ·rw[V7]
    exact⟨Zo,V0,v.ow.T (UQ _ Zo (λl=>UX l.symm)),λf O t Z=>by rw[UQ f Zo t];exact v.low f O t Z⟩
   ·rw[V7]
    intro w
    have:=UM w
    simp only[e4]
    constructor
    ·exact this.1
    ·have t:=this.2
     have Z:i<=1048576:=Zo
     push_cast
     omega
  |succ UR=>
   have UK:=zw i L.left.length
   have Vn:=zz i
   obtain⟨w,Vc⟩:=zx L.left i
   have Ua:=Uf.cT i (by simp[dt];omega)
   have UY:=(Uf.T UG).cell i [.str w] 0 (.str w) (by unfold dt;rw[Zw,Vc];rfl) rfl
   rw[ZV]at Ua
   rw[ZV,ZH]at UY
   have V8:=mi (g7 (cV g)) UH (yq Vc)
   generalize Wb:((eN L).take i).foldl (g7 (cV g)) UH=Wt at v V8 UM
   have W0:=UM w
   refine c6 @U3 @U2 (Za @U7 (Za @T9 (Za @UK (Za @Ua (Za @UY (Za (ba UE) @Uh)))))) ⟨?_⟩
   refine gr ?_
   refine c6 @U3 @U2 (Za @U7 (Za @T9 (Za @UK (Za @Ua (Za @UY (Za (ba UE) @Uh)))))) ⟨?_⟩
   refine gr ?_
   refine c6 @U3 @U2 (Za @U7 (Za @T9 (Za @UK (Za @Ua (Za @UY (Za (ba UE) @Uh)))))) ⟨?_⟩
   refine cU (λfI E aj=>fI.g 1=some (.ptr j 0)/\fI.g 2=some (.ptr (j+1+13) 0)/\fI.aA=[]/\fI.g 49=some UA/\fI.g 50=some (.Z (g.eqs.length:Int))/\fI.g 51=some (.Z (H:Int))/\fI.g 6=some (.ptr T7 0)/\fI.g 56=some Uj/\fI.g 57=some (.Z (L.left.length:Int))/\fI.g 58=some (.Z (i:Int))/\fI.g 8=some (.str w)/\fI.g 9=some (.Z (nb L i))/\E=U8/\aj=U6) (λWm VQ=> ?_) ?_
   ·by_cases VO:i<L.bw.length
    ·have Ul:=zw i L.bw.length
     obtain⟨a,VJ⟩:∃a,L.bw[i]? =some a:=⟨_,Ze VO⟩
     have VP:=Ug.1.cT i (by rw[Zn];exact VO)
     have VL:=(Ug.1.T UG).cell i [pT a] 0 (pT a) (by rw[Zw,VJ];rfl) rfl
     rw[ZV]at VP
     rw[ZV,ZH]at VL
     have Uz:nb L i=a:=by unfold nb;rw[VJ];rfl
     refine de @Ul @T9 (ba UE) @VP @VL ⟨?_⟩
     exact VQ _ _ _ ⟨an C,an Y,T0,an T8,an T3,an T4,an T9,an U7,an U2,an U3,aK,by refine oF ⟨?_⟩;rw[Uz];rfl,rfl,rfl⟩
    ·have Ul:=zv i L.bw.length
     have Uz:nb L i=0:=by unfold nb;rw[Z3 Zo];rfl
     refine bG @Ul ⟨?_⟩
     exact VQ _ _ _ ⟨an C,an Y,T0,an T8,an T3,an T4,an T9,an U7,an U2,an U3,aK,by refine oF ⟨?_⟩;rw[Uz],rfl,rfl⟩
   ·clear C Y T0 T8 T3 T4 T9 U7 U2 U3
    rintro fI E aj ⟨C,Y,T0,T8,T3,T4,T9,U7,U2,U3,WY,t9,rfl,rfl⟩
    show Q _ _
    refine cP @C @WY @t9 (ba VF) ⟨?_⟩
    refine(HB U1 Zo UO W5 Zo Zo UX v.eG (V9.T (bn:=P) UG (λ_ e=>e)) (λf r=>⟨zu (z f r).1,(z f r).2.1,(z f r).2.2⟩) v.ow w (nb L i) ⟨W0.1,Zo⟩).Zm ?_
    rintro N UB WU ⟨rfl,V0,Vv,WD,UQ⟩
    refine cn @U3 @Vn ⟨?_⟩
    refine⟨UR,Zo,i+1,an C,an Y,T0,an T8,an T3,an T4,an T9,an U7,an U2,aK,Zo, ?_, ?_,Zo,by rw[UQ _ Zo Zo Zo];exact UE⟩
    ·rw[V8]
     exact⟨Zo,V0,Vv,λf O t Z=>by rw[UQ f Zo t Z];exact v.low f O t Z⟩
    ·rw[V8]
     intro x
     have Wl:=UM x
     simp only[g7]
     split
     ·simp only[Y0];push_cast;omega
     ·push_cast;omega
end
def f6(U:List Go.a8.Node):Int×Int:=by
 classical exact if hd U then mb U else(1,0)
def u3{U:List Go.a8.Node}(e:hd U):f6 U=mb U:=by unfold f6;rw[Zv e]
def u2{U:List Go.a8.Node}(e:¬hd U):f6 U=(1,0):=by unfold f6;rw[Zj e]
def hd.qk{U:List Go.a8.Node}(e:hd U):∀g∈U,∀L∈g.eqs,hD L.right:=λg a L b=>ge.qk L.right 200 ((e.node g a).eqs L b).ex
def sw{U:List Go.a8.Node}(e:∀g∈U,hB g):(f6 U).1≠0:=by
 by_cases a:hd U
 ·rw[u3 a];exact EI a.ne λg b=>(e g b).bad (a.node g b)
 ·rw[u2 a];decide
section
variable{X:bU}{h E cH ay aO:I ae}{j ar aL aR:Nat}{s:aW}
def fl(c:I y)(a b:y):(cO c 0 [a,b]).get 0=some a:=by rw[iJ];simp
def fm(c:I y)(a b:y):(cO c 0 [a,b]).get 1=some b:=by rw[iJ];simp
set_option maxRecDepth 100000 in
def J9(T2:dU X)(UU:jQ X){P:Nat->Prop}{U:List Go.a8.Node}{v:y}(Uc:(u X).aP<=j)(O:gf X h P U v)(p:∀a,P a->a<j)(UZ:∀g∈U,hB g)(Ub:U.length<=1000):
 aN X 24 [v] h j (λN E ar=>N= .agg [.Z (f6 U).1, .Z (f6 U).2]/\a1 X h j E ar) zG:=by
 refine zB T2.todX (Cm X) ?_
 rw[Cn]
 unfold v1
 refine hI ?_
 generalize U0:aS X h j _=ay
 have t:∃c,J X ay j=some (.cells c 2 .own):=⟨_,by rw[<-U0,bb Uc];rfl⟩
 have U8:a1 X h j ay (j+1):=by rw[<-U0];exact dG
 clear U0
 have Ui:∀a,P a->J X ay a=J X h a:=λa f=>U8.T a (p a f)
 refine(Ge (P:=P) (j:=j+1) (h:=ay) T2 UU Zo (O.T (bn:=P) Ui (λ_ e=>e)) (λa f=>zu (p a f)) UZ Ub).Zm ?_
 rintro N aO aR ⟨⟨w,rfl,Uv,UH⟩,TY⟩
 have Uq:=TY.le
 obtain⟨UL,t⟩:=t
 rw[<-TY.T _ Zo]at t
 have T9:=U8.trans TY
 by_cases x:hd U
 case neg=>
  have z:decide (w≠0)=true:=by simp only[Zc];exact λe=>x (UH.1 e)
  rw[u2 x]
  refine cz @z @fl @fm ⟨?_⟩
  exact⟨rfl,Zo,λa f=>by rw[aY Zo Zo];exact T9.T a f⟩
 have Ug:=UH.2 x
 subst Ug
 rw[u3 x]
 replace O:kE X h P U v:=O.prog x.qk
 replace t:∃c,J X aO j=some (.cells c 2 .own):=⟨UL,t⟩
 obtain⟨b,ax,bO,rows,rfl,ab,a0,U3,UF⟩:=id O
 have UI:=UF.wide
 have UD:=U3.len
 rw[UI.1]at UD
 have UV:=p b ab
 have z:decide ((0:Int)≠0)=false:=rfl
 rw[<-T9.cZ _ _ UV]at a0
 refine cz @z @a0 @UD ⟨?_⟩
 refine cQ (λm B E aj=>∃(H:Nat),B.g 0=some (.ptr b 0)/\B.g 2=some (.ptr j 0)/\B.g 13=some ax/\B.g 14=some (.Z (U.length:Int))/\B.g 15=some (.Z (H:Int))/\H+m=U.length/\a1 X h j E aj/\j<aj/\(∃c,J X E j=some (.cells c 2 .own))/\mb U=ng U H (U.drop H))
  U.length ⟨0,aK,aK,aK,aK,cA,Zo,T9,Zo,t,rfl⟩ ?_
 rintro m B U6 r ⟨H,t0,U5,UK,U4,T7,Up,T0,Uu,⟨UM,G⟩,s⟩
 have Ur:=T0.le
 cases m with
 |zero=>
  have d:=zv H U.length
  rw[YK Zo]at s
  refine dw @T7 @U4 @U5 @d @fl @fm ⟨?_⟩
  refine⟨by rw[s];rfl, ?_⟩
  exact⟨Zo,λa f=>by rw[aY Zo Zo];exact T0.T a f⟩
 |succ m=>
  have d:=zw H U.length
  have UN:=zz H
  obtain⟨g,T5⟩:=zx U H
  have UX:=Zg T5
  have UW:U.drop H=g::U.drop (H+1):=by
   obtain⟨Uh,f⟩:=Zf.1 T5
   rw[ZY Uh,f]
  rw[UW,ng]at s
  obtain⟨row,Ue,U2⟩:=UF.get H g T5
  have Uj:∀a,P a->J X U6 a=J X h a:=λa f=>T0.T a (p a f)
  have UY:=U3.cT H (by rw[UI.1];omega)
  have Uf:=(U3.T Uj).row Zd Ue
  have e2:=U2.cR
  have Ud:=U2
  obtain⟨bA,bB,Uo,Un,b2,be,b6,c4,Uy,rfl,_⟩:=U2
  refine dw @T7 @U4 @UK @d @UY @Uf ⟨?_⟩
  refine cD (e8 (o:=6) (b:=r) (D:=0) (n:=6) (c:=I.ofList [.str [], .Z 0, .az, .az, .az, .az] 0 .nil) (bb Zo) Zo rfl Zd Zd e2) ?_
  generalize U1:aS X _ r _=Y
  have UP:J X Y r=zy [.str g.name, .Z g.at_,bA,bB,Uo,Un] 6:=by rw[<-U1,bb Zo];rfl
  have UJ:∀a,a<r->J X Y a=J X U6 a:=λa f=>by rw[<-U1];exact zA
  clear U1
  have U9:a1 X h j Y (r+1):=⟨Zo,λa f=>by rw[UJ a Zo];exact T0.T a f⟩
  rw[<-UJ _ Zo]at G
  refine cn @t0 (ba UP) ⟨?_⟩
  refine(IC (j:=r+1) (h:=Y) T2.todX Zo (λa f=>zu (p a f)) (Ud.T (bn:=P) (λa f=>U9.T a (p a f)) (λ_ e=>e)) (by rw[tA];have:=(x.node g UX).vars;simp only[iD];omega)).Zm ?_
  rintro N U7 i ⟨bq,bz,Uz,ch,rfl,UG,UE,Ul,Um,Uw,Ux,TZ⟩
  have Us:=TZ.le
  have US:a1 X h j U7 i:=U9.trans (TZ.jC Zo)
  rw[<-TZ.T _ Zo]at G
  refine cn @t0 @T7 ⟨?_⟩
  generalize T3:aS X _ (i+1) _=C
  have UQ:J X C (i+1)=zy [.ptr b 0, .Z (H:Int), .ptr bq 0, .map i, .Z 0, .Z 0] 6:=by rw[<-T3,bb Zo];rfl
  have UR:J X C i=some (.map [] 0):=by rw[<-T3];simp(disch:=omega) only[aY,bb]
  have T1:a1 X U7 i C (i+1+1):=by rw[<-T3];exact dG
  clear T3
  have UA:a1 X h j C (i+1+1):=US.trans (T1.jC Zo)
  rw[<-T1.T _ Zo]at G
  have UT:∀a,(P a\/dm (r+1) i a)->a<i+1+1/\a≠i+1/\a≠i:=by
   rintro a (f|f)
   ·have:=p a f;omega
   ·have:=f.2;omega
  refine(EJ (j:=i+1+1) (h:=C) (P:=λa=>P a\/dm (r+1) i a) (o:=H) (U:=U) (g:=g) (bq:= .ptr bq 0) T2.todX Zo Zo Zo Zo Zo Zo UT
   (O.T (λa f=>UA.T a (p a f)) (λ_ e=> .inl e)) T5 ⟨bq,bz,rfl, .inr UG, .inr UE,by rw[T1.cZ _ _ (zu UG.2)];exact Ul,Um.T (T1.T _ UE.2)⟩ UQ ⟨[],0,UR,λ_=>rfl⟩).Zm ?_
  rintro N Z Uk ⟨rfl,T4,Ut,UC⟩
  have UB:a1 X h j Z Uk:=⟨Zo,λa f=>by rw[UC a Zo Zo Zo];exact UA.T a f⟩
  rw[<-UC _ Zo Zo Zo]at G
  have f4:W X Z (.ptr (i+1) 4)=some (.Z (hR U H g).1):=by unfold cW at T4;rw[ba T4];rfl
  have UO:W X Z (.ptr (i+1) 5)=some (.Z (hR U H g).2):=by unfold cW at T4;rw[ba T4];rfl
  by_cases T6:(hR U H g).1=0
  ·have T8:decide ((hR U H g).1≠0)=false:=by simp[T6]
   rw[Zj (by simp[T6])]at s
   refine cP @f4 @T8 @T7 @UN ⟨?_⟩
   exact⟨m,Zo,H+1,an t0,an U5,an UK,an U4,aK,Zo,UB,Zo,⟨UM,G⟩,s⟩
  ·have T8:decide ((hR U H g).1≠0)=true:=by simp[T6]
   rw[Zv T6]at s
   have Ua:br X Z 2 (.ptr (i+1) 4)=some (.agg [.Z (hR U H g).1, .Z (hR U H g).2]):=by rw[jw,f4,UO];rfl
   refine dw @f4 @T8 @Ua @U5 @fl @fm ⟨?_⟩
   refine⟨by rw[s], ?_⟩
   exact⟨Zo,λa f=>by rw[aY Zo Zo];exact UB.T a f⟩
end
end
open Go.S
set_option maxRecDepth 100000
set_option maxHeartbeats 4000000
noncomputable section
variable (X : bU) (h : I ae) (j : Nat) (R af : bh) (a0 aH aZ a3 a4 a5 dY d3 dE : y)
def v2:Za1:=λa b c d e f=>q (cu [.Z 0,.Z 0] d) λg=>b4 a c d g.1 g.2 λc d g=>aN a 53 [b] d g (λd g h=>q (ah .neq d (.Z 0)) λd=>av (λb c d=>av (λb c d=>q (cr [.Z 0,.Z 0] []) λf=>Q (b 2) λg=>q (bj a c 2 g f) λc=>Q (b 2) λb=>q (br a c 2 b) λa=>e a c d) λg=>cC (λb c d h=>Q (c 3) λi=>Q (c 0) λj=>q (a2 j) λj=>q (aq 0 j) λj=>q (W a d j) λj=>q (bL j) λj=>q (ah .lss i j) λi=>av (λc d g=>av (λa c d=>Q (a 3) λe=>q (ah .add e (.Z 1)) λe=>b (K a 3 e) c d) λb=>Q (c 0) λh=>q (a2 h) λh=>q (aq 0 h) λh=>q (W a d h) λh=>Q (c 3) λi=>q (bK 6 h i) λh=>q (br a d 6 h) λh=>q (cu [.str [],.Z 0, .az, .az, .az, .az] g) λi=>b4 a d g i.1 i.2 λd g i=>q (bj a g 6 d h) λg=>Q (c 0) λh=>q (aq 0 d) λj=>q (W a g j) λj=>aN a 55 [h,j] g i (λg h i=>q (dD 0 g) λj=>q (dD 1 g) λ_=>Q (c 3) λg=>q (ah .lss j g) λg=>av (λc d g=>Q (c 4) λh=>q (br a d 6 h) λh=>aN a 31 [h] d g (λd g h=>av (λc d g=>av (λc d g=>Q (c 0) λh=>Q (c 3) λi=>Q (c 7) λj=>aN a 59 [h,i,j] d g (λd f g=>q (cu [.Z 0,.Z 0] g) λh=>b4 a f g h.1 h.2 λf g h=>q (bj a g 2 f d) λd=>q (aq 0 f) λg=>q (W a d g) λg=>q (ah .neq g (.Z 0)) λg=>av b λb=>aD g (q (br a d 2 f) λb=>Q (c 2) λf=>q (bj a d 2 f b) λb=>Q (c 2) λc=>q (br a b 2 c) λa=>e a b h) (b (zC c 12 f 113 g) d h)) f) λb=>cC (λc d g h=>Q (d 9) λi=>Q (d 7) λj=>q (bL j) λj=>q (ah .lss i j) λi=>av (λb d g=>av (λa b d=>Q (a 9) λe=>q (ah .add e (.Z 1)) λe=>c (K a 9 e) b d) λc=>Q (b 7) λh=>Q (b 7) λi=>Q (b 9) λj=>q (bK 11 i j) λi=>q (aq 1 i) λi=>q (aq 5 i) λi=>q (W a d i) λi=>aN a 58 [h,i] d g (λd g h=>q (dD 0 d) λi=>q (dD 1 d) λd=>q (cu [.Z 0,.str [],.Z 0,.zF,.zF,.Z 0,.str [],.Z 0,.zF,.Z 0,.Z 0] h) λj=>b4 a g h j.1 j.2 λg h j=>q (bj a h 11 g i) λg=>Q (b 7) λh=>Q (b 9) λi=>q (bK 11 h i) λh=>q (aq 1 h) λh=>q (aq 5 h) λh=>q (W a g h) λh=>q (ce a g .neq 9 true h (.str [])) λh=>al (λg i j=>al (λg i j=>bS (λg=>av c λc=>aD g (Q (b 7) λc=>Q (b 9) λd=>q (bK 11 c d) λc=>q (aq 1 c) λc=>q (aq 6 c) λc=>q (W a i c) λc=>aN a 54 [.Z 23,c] i j (λc d f=>Q (b 2) λg=>q (bj a d 2 g c) λc=>Q (b 2) λb=>q (br a c 2 b) λa=>e a c f) f) (c (zC b 11 d 99 g) i j)) λa=>aD h (a g) (a .zF)) λa=>ag true h (q (c0 .not g) λb=>a b i j) (a S.undef i j)) λa=>ag true h (a d g j) (a S.undef g j)) f) λa=>aD i (a (K d 75 i) g h) (b (K d 75 i) g h)) (K c 9 (.Z 0)) d g) λb=>cC (λc d g h=>Q (d 8) λi=>Q (d 7) λj=>q (bL j) λj=>q (ah .lss i j) λi=>av (λb d g=>av (λa b d=>Q (a 8) λe=>q (ah .add e (.Z 1)) λe=>c (K a 8 e) b d) λc=>dx (g+11) λg=>Q (b 7) λh=>Q (b 8) λi=>q (il a d 11 h none (some i) none) λh=>Q (b 7) λi=>Q (b 8) λj=>q (bK 11 i j) λi=>q (aq 1 i) λi=>q (aq 0 i) λi=>q (W a d i) λj=>aN a 57 [h] d g (λd g h=>q (W a g i) λi=>eR i (some j) (aN a 56 [d,j] g h (λd g h=>av c λc=>aD d (Q (b 7) λc=>Q (b 8) λd=>q (bK 11 c d) λc=>q (aq 1 c) λc=>q (aq 1 c) λc=>q (W a g c) λc=>aN a 54 [.Z 24,c] g h (λc d f=>Q (b 2) λg=>q (bj a d 2 g c) λc=>Q (b 2) λb=>q (br a c 2 b) λa=>e a c f) f) (c (K b 64 d) g h)) f)) f) λa=>aD i (a (K d 51 i) g h) (b (K d 51 i) g h)) (zC c 7 d 8 (.Z 0)) g h) f) λb=>aD g (q (aq 1 d) λb=>q (W a h b) λb=>aN a 54 [.Z 24,b] h i (λb d f=>Q (c 2) λg=>q (bj a d 2 g b) λb=>Q (c 2) λc=>q (br a b 2 c) λa=>e a b f) f) (b (zD c 4 d 5 j 42 g) h i)) f) λa=>aD i (a (K c 23 i) d h) (g (K c 23 i) d h)) (K b 3 (.Z 0)) c d) λi=>aD d (aN a 54 [.Z 1,.Z 0] g h (λb d f=>q (bj a d 2 c b) λb=>q (br a b 2 c) λa=>e a b f) f) (i (zC (bR [b]) 2 c 15 d) g h)) f
def Cp:co X 27 [a0]=v2 X a0:=Zk
def Co:cb X 27 1=true:=Zk
def v6:Za1:=λa b c d e _=>eU a c d b λc d f=>av (λb c d=>av (λb c d=>av (λb c d=>av (λa b c=>Q (a 3) λa=>e a b c) λe=>cC (λb c d f=>Q (c 7) λg=>Q (c 3) λh=>q (bL h) λh=>q (ah .lss g h) λg=>av (λc d e=>av (λa c d=>Q (a 7) λe=>q (ah .add e (.Z 1)) λe=>b (K a 7 e) c d) λb=>Q (c 1) λf=>q (aq 5 f) λf=>q (W a d f) λf=>q (bL f) λf=>q (ah .sub f (.Z 1)) λf=>av b λb=>cC (λc d e f=>Q (d 8) λg=>q (ah .geq g (.Z 0)) λg=>av (λb d e=>av (λa b d=>Q (a 8) λe=>q (ah .sub e (.Z 1)) λe=>c (K a 8 e) b d) λc=>Q (b 1) λf=>q (aq 5 f) λf=>q (W a d f) λf=>Q (b 8) λg=>q (bK 4 f g) λf=>q (aq 0 f) λf=>q (W a d f) λf=>q (bL f) λf=>q (ah .sub f (.Z 1)) λf=>av c λc=>cC (λb d e f=>Q (d 9) λg=>q (ah .geq g (.Z 0)) λg=>av (λc d e=>av (λa c d=>Q (a 9) λe=>q (ah .sub e (.Z 1)) λe=>b (K a 9 e) c d) λb=>dx (e+16) λe=>Q (c 1) λf=>q (aq 5 f) λf=>q (W a d f) λf=>Q (c 8) λg=>q (bK 4 f g) λf=>q (aq 0 f) λf=>q (W a d f) λf=>Q (c 9) λg=>q (bK 1 f g) λf=>q (W a d f) λf=>Q (c 3) λg=>Q (c 7) λh=>q (bK 11 g h) λg=>q (aq 1 g) λg=>q (aq 0 g) λg=>q (W a d g) λg=>q (ce a d .eql 9 false f g) λf=>av b λb=>aD f (Q (c 3) λg=>Q (c 7) λh=>Q (c 8) λi=>q (bK 11 g h) λg=>q (aq 9 g) λg=>q (bj a d 1 g i) λd=>Q (c 3) λg=>Q (c 7) λh=>Q (c 9) λi=>q (bK 11 g h) λg=>q (aq 10 g) λg=>q (bj a d 1 g i) λa=>b (K c 99 f) a e) (b (K c 99 f) d e)) λa=>aD g (a (K d 81 g) e f) (c (K d 81 g) e f)) (K b 9 f) d e) λa=>aD g (a (K d 69 g) e f) (b (K d 69 g) e f)) (K c 8 f) d e) λa=>aD g (a (K c 61 g) d f) (e (K c 61 g) d f)) (K b 7 (.Z 0)) c d) λe=>cC (λb c d f=>Q (c 6) λg=>Q (c 1) λh=>q (aq 4 h) λh=>q (W a d h) λh=>q (bL h) λh=>q (ah .lss g h) λg=>av (λc d e=>av (λa c d=>Q (a 6) λe=>q (ah .add e (.Z 1)) λe=>b (K a 6 e) c d) λb=>Q (c 3) λf=>Q (c 1) λg=>q (aq 4 g) λg=>q (W a d g) λg=>Q (c 6) λh=>q (bK 8 g h) λg=>q (br a d 8 g) λg=>q (cr [.Z 0,.str [],.Z 0,.zF,.zF,.Z 0,.str [],.Z 0,.zF,.Z 0,.Z 0] [(0,1,(.Z 3)),(1,8,g),(9,1,(.Z (-1))),(10,1,(.Z (-1)))]) λg=>q (dC 1 [.Z 0,.str [],.Z 0,.zF,.zF,.Z 0,.str [],.Z 0,.zF,.Z 0,.Z 0] [(0,11,g)] e) λg=>b4 a d e g.1 g.2 λd e g=>dA (d4 a e g 11 f d) e g λa d e=>b (K c 3 a) d e) λa=>aD g (a (K c 46 g) d f) (e (K c 46 g) d f)) (K b 6 (.Z 0)) c d) λe=>cC (λb c d f=>Q (c 5) λg=>Q (c 1) λh=>q (aq 3 h) λh=>q (W a d h) λh=>q (bL h) λh=>q (ah .lss g h) λg=>av (λc d e=>av (λa c d=>Q (a 5) λe=>q (ah .add e (.Z 1)) λe=>b (K a 5 e) c d) λb=>Q (c 3) λf=>Q (c 1) λg=>q (aq 3 g) λg=>q (W a d g) λg=>Q (c 5) λh=>q (bK 8 g h) λg=>q (br a d 8 g) λg=>q (cr [.Z 0,.str [],.Z 0,.zF,.zF,.Z 0,.str [],.Z 0,.zF,.Z 0,.Z 0] [(0,1,(.Z 2)),(1,8,g),(9,1,(.Z (-1))),(10,1,(.Z (-1)))]) λg=>q (dC 1 [.Z 0,.str [],.Z 0,.zF,.zF,.Z 0,.str [],.Z 0,.zF,.Z 0,.Z 0] [(0,11,g)] e) λg=>b4 a d e g.1 g.2 λd e g=>dA (d4 a e g 11 f d) e g λa d e=>b (K c 3 a) d e) λa=>aD g (a (K c 30 g) d f) (e (K c 30 g) d f)) (K b 5 (.Z 0)) c d) λe=>cC (λb c d f=>Q (c 4) λg=>Q (c 1) λh=>q (aq 2 h) λh=>q (W a d h) λh=>q (bL h) λh=>q (ah .lss g h) λg=>av (λc d e=>av (λa c d=>Q (a 4) λe=>q (ah .add e (.Z 1)) λe=>b (K a 4 e) c d) λb=>Q (c 3) λf=>Q (c 1) λg=>q (aq 2 g) λg=>q (W a d g) λg=>Q (c 4) λh=>q (bK 8 g h) λg=>q (br a d 8 g) λg=>q (cr [.Z 0,.str [],.Z 0,.zF,.zF,.Z 0,.str [],.Z 0,.zF,.Z 0,.Z 0] [(0,1,(.Z 1)),(1,8,g),(9,1,(.Z (-1))),(10,1,(.Z (-1)))]) λg=>q (dC 1 [.Z 0,.str [],.Z 0,.zF,.zF,.Z 0,.str [],.Z 0,.zF,.Z 0,.Z 0] [(0,11,g)] e) λg=>b4 a d e g.1 g.2 λd e g=>dA (d4 a e g 11 f d) e g λa d e=>b (K c 3 a) d e) λa=>aD g (a (K c 14 g) d f) (e (K c 14 g) d f)) (zE (bR [b]) 1 c 2 .az 3 .az 4 (.Z 0)) d f
def Cr:co X 31 [a0]=v6 X a0:=Zk
def Cq:cb X 31 1=true:=Zk
def wn:Za0:=λa b c d e f _=>q (cu [.Z 0,.Z 0] e) λg=>b4 a d e g.1 g.2 λd e g=>q (cr [.Z 0,.Z 0] [(0,1,b),(1,1,c)]) λb=>q (bj a e 2 d b) λb=>q (br a b 2 d) λa=>f a b g
def CR:co X 54 [a0,aH]=wn X a0 aH:=Zk
def CQ:cb X 54 2=true:=Zk
def wo:Za0:=λa b c d e f _=>av (λ_ a b=>f (.tuple [.Z 0,.zF]) a b) λg=>cC (λb c d e=>Q (c 0) λh=>q (ce a d .neq 25 true h .bC) λh=>al (λd e i=>al (λe i j=>al (λe i j=>al (λe i j=>al (λe i j=>al (λe i j=>al (λd e i=>bS (λd=>av (λc d e=>av (λa c d=>Q (a 6) λe=>q (ah .add e (.Z 1)) λe=>b (K a 6 e) c d) λb=>Q (c 0) λg=>q (a2 g) λg=>q (aq 0 g) λg=>q (W a d g) λg=>Q (c 6) λh=>q (bK 6 g h) λg=>q (aq 0 g) λg=>q (W a d g) λg=>Q (c 1) λh=>q (ce a d .eql 9 false g h) λa=>av b λb=>aD a (Q (c 6) λa=>f (.tuple [a,.zT]) d e) (b (K c 29 a) d e)) λa=>aD d (a (K c 17 d) e i) (g (K c 17 d) e i)) λa=>aD h (a d) (a .zF)) λa=>ag true h (q (ah .lss d e) λb=>a b i j) (a S.undef i j)) λa=>ag true h (q (bL e) λb=>a b i j) (a S.undef i j)) λb=>ag true h (q (W a i e) λa=>b a i j) (b S.undef i j)) λa=>ag true h (q (aq 0 e) λb=>a b i j) (a S.undef i j)) λa=>ag true h (q (a2 e) λb=>a b i j) (a S.undef i j)) λa=>ag true h (Q (c 0) λb=>a b e i) (a S.undef e i)) λa=>ag true h (Q (c 6) λb=>a b d e) (a S.undef d e)) (zD (bR [b,c]) 4 (.Z 0) 5 .zF 6 (.Z 0)) d e
def CT:co X 55 [a0,aH]=wo X a0 aH:=Zk
def CS:cb X 55 2=true:=Zk
def wp:Za0:=λa b c d e f _=>av (λ_ a b=>f .zF a b) λg=>cC (λb c d e=>Q (c 5) λh=>Q (c 0) λi=>q (bL i) λi=>q (ah .lss h i) λh=>av (λc d e=>av (λa c d=>Q (a 5) λe=>q (ah .add e (.Z 1)) λe=>b (K a 5 e) c d) λb=>Q (c 0) λg=>Q (c 5) λh=>q (bK 1 g h) λg=>q (W a d g) λg=>Q (c 1) λh=>q (ce a d .eql 9 false g h) λa=>av b λb=>aD a (f .zT d e) (b (K c 17 a) d e)) λa=>aD h (a (K c 9 h) d e) (g (K c 9 h) d e)) (zC (bR [b,c]) 4 .zF 5 (.Z 0)) d e
def CV:co X 56 [a0,aH]=wp X a0 aH:=Zk
def CU:cb X 56 2=true:=Zk
def wq:Za1:=λa b c d e f=>av (λa b c=>Q (a 3) λa=>e a b c) λe=>cC (λb c d g=>Q (c 4) λh=>Q (c 0) λi=>q (bL i) λi=>q (ah .lss h i) λh=>av (λc d e=>av (λa c d=>Q (a 4) λe=>q (ah .add e (.Z 1)) λe=>b (K a 4 e) c d) λb=>Q (c 3) λg=>Q (c 0) λh=>Q (c 4) λi=>q (bK 11 h i) λh=>q (aq 1 h) λh=>q (aq 0 h) λh=>q (W a d h) λh=>aN a 56 [g,h] d e (λd e f=>q (c0 .not d) λd=>av b λb=>aD d (Q (c 3) λg=>Q (c 0) λh=>Q (c 4) λi=>q (bK 11 h i) λh=>q (aq 1 h) λh=>q (aq 0 h) λh=>q (W a e h) λh=>q (dC 1 [.str []] [(0,1,h)] f) λh=>b4 a e f h.1 h.2 λe f h=>dA (d4 a f h 1 g e) f h λa e f=>b (zC c 19 d 3 a) e f) (b (K c 19 d) e f)) f) λa=>aD h (a (K c 8 h) d g) (e (K c 8 h) d g)) (zD (bR [b]) 2 .az 3 .az 4 (.Z 0)) c d
def CX:co X 57 [a0]=wq X a0:=Zk
def CW:cb X 57 1=true:=Zk
def ws:Za0:=λa b c d e f _=>q (cu [.Z 0,.str [],.Z 0,.zF,.zF,.Z 0,.str [],.Z 0,.zF,.Z 0,.Z 0] e) λg=>b4 a d e g.1 g.2 λd e g=>av (λb c d=>q (cr [.Z 0,.str [],.Z 0,.zF,.zF,.Z 0,.str [],.Z 0,.zF,.Z 0,.Z 0] []) λe=>Q (b 4) λg=>q (bj a c 11 g e) λc=>Q (b 4) λb=>q (br a c 11 b) λa=>f (.tuple [a,.zF]) c d) λh=>cC (λb c d e=>Q (c 6) λg=>Q (c 0) λi=>q (bL i) λi=>q (ah .lss g i) λg=>av (λc d e=>av (λa c d=>Q (a 6) λe=>q (ah .add e (.Z 1)) λe=>b (K a 6 e) c d) λb=>Q (c 0) λg=>Q (c 6) λh=>q (bK 11 g h) λg=>q (aq 1 g) λg=>q (aq 0 g) λg=>q (W a d g) λg=>Q (c 1) λh=>q (ce a d .eql 9 false g h) λg=>av b λb=>aD g (Q (c 0) λb=>Q (c 6) λg=>q (bK 11 b g) λb=>q (br a d 11 b) λb=>Q (c 4) λg=>q (bj a d 11 g b) λb=>Q (c 4) λc=>q (br a b 11 c) λa=>f (.tuple [a,.zT]) b e) (b (K c 20 g) d e)) λa=>aD g (a (K c 10 g) d e) (h (K c 10 g) d e)) (zD (bR [b,c]) 4 d 5 .zF 6 (.Z 0)) e g
def CZ:co X 58 [a0,aH]=ws X a0 aH:=Zk
def CY:cb X 58 2=true:=Zk
def wu:Za2:=λa b c d e f g h=>q (cu [.Z 0,.Z 0] f) λi=>b4 a e f i.1 i.2 λe f i=>q (a2 b) λj=>q (aq 0 j) λj=>q (W a f j) λj=>q (bK 6 j c) λj=>q (br a f 6 j) λj=>q (cu [.str [],.Z 0, .az, .az, .az, .az] i) λk=>b4 a f i k.1 k.2 λf i k=>q (bj a i 6 f j) λi=>av (λb c d=>av (λb c d=>q (cr [.Z 0,.Z 0] []) λe=>Q (b 6) λf=>q (bj a c 2 f e) λc=>Q (b 6) λb=>q (br a c 2 b) λa=>g a c d) λe=>cC (λb c d f=>Q (c 16) λi=>Q (c 2) λj=>q (bL j) λj=>q (ah .lss i j) λi=>av (λc d e=>av (λa c d=>Q (a 16) λe=>q (ah .add e (.Z 1)) λe=>b (K a 16 e) c d) λb=>Q (c 2) λf=>Q (c 16) λi=>q (bK 11 f i) λf=>q (aq 0 f) λf=>q (W a d f) λf=>q (ah .neq f (.Z 1)) λf=>al (λd e i=>al (λe i j=>al (λi j k=>al (λe i j=>al (λe i j=>al (λe i j=>al (λe i j=>al (λd e i=>al (λd e i=>bS (λd=>av b λb=>aD d (Q (c 2) λb=>Q (c 16) λd=>q (bK 11 b d) λb=>q (aq 1 b) λb=>q (aq 1 b) λb=>q (W a e b) λb=>aN a 54 [.Z 37,b] e i (λb d e=>Q (c 6) λf=>q (bj a d 2 f b) λb=>Q (c 6) λc=>q (br a b 2 c) λa=>g a b e) h) (b (K c 121 d) e i)) λa=>aD f (a d) (a .zF)) λa=>ag true f (q (c0 .not d) λb=>a b e i) (a S.undef e i)) λb=>ag true f (aN a 56 [d,e] i j (λa c d=>b a c d) h) (b S.undef i j)) λb=>ag true f (q (W a i e) λa=>b a i j) (b S.undef i j)) λa=>ag true f (q (aq 0 e) λb=>a b i j) (a S.undef i j)) λa=>ag true f (q (aq 1 e) λb=>a b i j) (a S.undef i j)) λa=>ag true f (q (bK 11 e i) λb=>a b j k) (a S.undef j k)) λa=>ag true f (Q (c 16) λb=>a b i j) (a S.undef i j)) λa=>ag true f (Q (c 2) λb=>a b e i) (a S.undef e i)) λa=>ag true f (Q (c 7) λb=>a b d e) (a S.undef d e)) λa=>aD i (a (K c 102 i) d f) (e (K c 102 i) d f)) (K b 16 (.Z 0)) c d) λj=>cC (λb c d e=>Q (c 9) λf=>Q (c 8) λi=>q (aq 5 i) λi=>q (W a d i) λi=>q (bL i) λi=>q (ah .lss f i) λf=>av (λc d e=>av (λa c d=>Q (a 9) λe=>q (ah .add e (.Z 1)) λe=>b (K a 9 e) c d) λb=>Q (c 8) λf=>q (aq 5 f) λf=>q (W a d f) λf=>Q (c 9) λi=>q (bK 4 f i) λf=>q (br a d 4 f) λf=>q (cu [.az, .az,.Z 0, .bC] e) λi=>b4 a d e i.1 i.2 λd e i=>q (bj a e 4 d f) λe=>av (λc d e=>Q (c 0) λf=>Q (c 1) λi=>Q (c 2) λj=>Q (c 10) λk=>q (aq 3 k) λk=>q (W a d k) λk=>aN a 88 [f,i,j,k] d e (λd e f=>q (cu [.Z 0,.Z 0] f) λh=>b4 a e f h.1 h.2 λe f h=>q (bj a f 2 e d) λd=>q (aq 0 e) λf=>q (W a d f) λf=>q (ah .neq f (.Z 0)) λf=>av b λb=>aD f (q (br a d 2 e) λb=>Q (c 6) λe=>q (bj a d 2 e b) λb=>Q (c 6) λc=>q (br a b 2 c) λa=>g a b h) (b (zC c 15 e 97 f) d h)) h) λb=>cC (λc d e f=>Q (d 11) λi=>Q (d 10) λj=>q (aq 0 j) λj=>q (W a e j) λj=>q (bL j) λj=>q (ah .lss i j) λi=>av (λb d e=>av (λa b d=>Q (a 11) λe=>q (ah .add e (.Z 1)) λe=>c (K a 11 e) b d) λc=>Q (b 11) λf=>Q (b 10) λi=>q (aq 1 i) λi=>q (W a d i) λi=>q (bL i) λi=>q (ah .lss f i) λf=>av (λb d e=>Q (b 2) λf=>Q (b 10) λi=>q (aq 0 i) λi=>q (W a d i) λi=>Q (b 11) λj=>q (bK 1 i j) λi=>q (W a d i) λi=>aN a 58 [f,i] d e (λd e f=>q (dD 0 d) λi=>q (dD 1 d) λd=>q (cu [.Z 0,.str [],.Z 0,.zF,.zF,.Z 0,.str [],.Z 0,.zF,.Z 0,.Z 0] f) λj=>b4 a e f j.1 j.2 λe f j=>q (bj a f 11 e i) λf=>q (c0 .not d) λi=>av (λb d e=>Q (b 13) λf=>q (aq 0 f) λf=>q (W a d f) λf=>q (ah .eql f (.Z 1)) λf=>al (λd e i=>al (λe i j=>al (λe i j=>al (λi j k=>al (λe i j=>al (λe i j=>al (λd e i=>bS (λd=>av (λb d e=>Q (b 7) λf=>Q (b 10) λg=>q (aq 0 g) λg=>q (W a d g) λg=>Q (b 11) λh=>q (bK 1 g h) λg=>q (W a d g) λg=>q (dC 1 [.str []] [(0,1,g)] e) λg=>b4 a d e g.1 g.2 λd e g=>dA (d4 a e g 1 f d) e g λa d e=>c (K b 7 a) d e) λc=>aD d (Q (b 12) λc=>aN a 54 [.Z 24,c] e i (λc d e=>Q (b 6) λf=>q (bj a d 2 f c) λc=>Q (b 6) λb=>q (br a c 2 b) λa=>g a c e) h) (c (K b 78 d) e i)) λa=>aD f (a .zT) (a d)) λb=>ag false f (aN a 56 [d,e] i j (λa c d=>b a c d) h) (b S.undef i j)) λb=>ag false f (q (W a i e) λa=>b a i j) (b S.undef i j)) λa=>ag false f (q (bK 1 e i) λb=>a b j k) (a S.undef j k)) λa=>ag false f (Q (b 11) λb=>a b i j) (a S.undef i j)) λb=>ag false f (q (W a i e) λa=>b a i j) (b S.undef i j)) λa=>ag false f (Q (b 10) λb=>q (aq 0 b) λb=>a b e i) (a S.undef e i)) λa=>ag false f (Q (b 7) λb=>a b d e) (a S.undef d e)) λc=>aD i (Q (b 12) λc=>aN a 54 [.Z 23,c] f j (λc d e=>Q (b 6) λf=>q (bj a d 2 f c) λc=>Q (b 6) λb=>q (br a c 2 b) λa=>g a c e) h) (c (zD b 13 e 14 d 64 i) f j)) h) λc=>aD f (Q (b 10) λg=>q (aq 1 g) λg=>q (W a d g) λg=>Q (b 11) λh=>q (bK 1 g h) λg=>q (W a d g) λa=>c (zD b 12 (.Z 0) 47 f 12 a) d e) (c (zC b 12 (.Z 0) 47 f) d e)) λa=>aD i (a (K d 40 i) e f) (b (K d 40 i) e f)) (zC c 10 d 11 (.Z 0)) e i) λa=>aD f (a (K c 28 f) d e) (j (K c 28 f) d e)) (zE (bR [b,c,d]) 6 e 7 .az 8 f 9 (.Z 0)) i k
def C1:co X 59 [a0,aH,aZ]=wu X a0 aH aZ:=Zk
def C0:cb X 59 3=true:=Zk
def wM:Za3:=λa b c d e f g h i=>q (cu [.Z 0,.Z 0] g) λj=>b4 a f g j.1 j.2 λf g j=>aN a 116 [e] g j (λg j k=>av (λb c d=>q (cr [.Z 0,.Z 0] []) λe=>Q (b 8) λf=>q (bj a c 2 f e) λc=>Q (b 8) λb=>q (br a c 2 b) λa=>h a c d) λl=>cC (λb c d e=>Q (c 10) λf=>Q (c 9) λg=>q (bL g) λg=>q (ah .lss f g) λf=>av (λc d e=>av (λa c d=>Q (a 10) λe=>q (ah .add e (.Z 1)) λe=>b (K a 10 e) c d) λb=>Q (c 9) λf=>Q (c 10) λg=>q (bK 1 f g) λf=>q (W a d f) λf=>q (a2 f) λg=>q (aq 0 g) λg=>q (W a d g) λg=>q (ah .eql g (.Z 2)) λg=>al (λd e j=>al (λd e j=>al (λd e j=>al (λd e j=>al (λd e j=>bS (λd=>al (λe g j=>al (λe g j=>al (λe g j=>al (λe g j=>al (λe g j=>bS (λd=>av (λc d e=>Q (c 11) λf=>q (a2 f) λf=>q (aq 0 f) λf=>q (W a d f) λf=>q (ah .eql f (.Z 25)) λf=>av b λb=>aD f (Q (c 0) λg=>Q (c 11) λj=>q (a2 j) λj=>q (aq 2 j) λj=>q (W a d j) λj=>aN a 55 [g,j] d e (λd e g=>q (dD 0 d) λj=>q (dD 1 d) λd=>q (c0 .not d) λk=>av (λc d e=>Q (c 14) λf=>Q (c 1) λg=>q (ah .geq f g) λf=>av b λb=>aD f (Q (c 11) λb=>q (a2 b) λb=>q (aq 1 b) λb=>q (W a d b) λb=>aN a 54 [.Z 25,b] d e (λb d e=>Q (c 8) λf=>q (bj a d 2 f b) λb=>Q (c 8) λc=>q (br a b 2 c) λa=>h a b e) i) (b (K c 86 f) d e)) λb=>aD k (Q (c 11) λb=>q (a2 b) λb=>q (aq 1 b) λb=>q (W a e b) λb=>aN a 54 [.Z 23,b] e g (λb d e=>Q (c 8) λf=>q (bj a d 2 f b) λb=>Q (c 8) λc=>q (br a b 2 c) λa=>h a b e) i) (b (zE c 67 f 14 j 15 d 78 k) e g)) i) (b (K c 67 f) d e)) λb=>aD d (Q (c 2) λe=>q (a2 f) λk=>q (aq 2 k) λk=>q (W a g k) λk=>aN a 58 [e,k] g j (λe g j=>q (dD 0 e) λk=>q (dD 1 e) λe=>q (cu [.Z 0,.str [],.Z 0,.zF,.zF,.Z 0,.str [],.Z 0,.zF,.Z 0,.Z 0] j) λl=>b4 a g j l.1 l.2 λg j l=>q (bj a j 11 g k) λg=>q (c0 .not e) λj=>av b λb=>aD j (q (a2 f) λb=>q (aq 1 b) λb=>q (W a g b) λb=>aN a 54 [.Z 23,b] g l (λb d e=>Q (c 8) λf=>q (bj a d 2 f b) λb=>Q (c 8) λc=>q (br a b 2 c) λa=>h a b e) i) (b (zE c 11 f 46 d 13 e 57 j) g l)) i) (b (zC c 11 f 46 d) g j)) λa=>aD d (a .zT) (a e)) λa=>ag false d (q (ah .eql e (.Z 24)) λb=>a b g j) (a S.undef g j)) λb=>ag false d (q (W a g e) λa=>b a g j) (b S.undef g j)) λa=>ag false d (q (aq 0 e) λb=>a b g j) (a S.undef g j)) λa=>ag false d (q (a2 e) λb=>a b g j) (a S.undef g j)) λa=>ag false d (a f e j) (a S.undef e j)) λa=>aD g (a .zT) (a d)) λa=>ag false g (q (ah .eql d (.Z 6)) λb=>a b e j) (a S.undef e j)) λb=>ag false g (q (W a e d) λa=>b a e j) (b S.undef e j)) λa=>ag false g (q (aq 0 d) λb=>a b e j) (a S.undef e j)) λa=>ag false g (q (a2 d) λb=>a b e j) (a S.undef e j)) λa=>ag false g (a f d e) (a S.undef d e)) λa=>aD f (a (K c 21 f) d e) (l (K c 21 f) d e)) (zD (bR [b,c,d,e]) 8 f 9 g 10 (.Z 0)) j k) i
def DB:co X 88 [a0,aH,aZ,a3]=wM X a0 aH aZ a3:=Zk
def DA:cb X 88 4=true:=Zk
def vF:Za1:=λa b c d e f=>q (ce a c .eql 73 true b .bC) λg=>av (λb c d=>Q (b 3) λg=>Q (b 0) λh=>q (dC 1 [.bC] [(0,1,h)] d) λh=>b4 a c d h.1 h.2 λc d h=>dA (d4 a d h 1 g c) d h λc d g=>av (λa b c=>Q (a 3) λa=>e a b c) λe=>cC (λb c d g=>Q (c 4) λh=>Q (c 0) λi=>q (a2 i) λi=>q (aq 8 i) λi=>q (W a d i) λi=>q (bL i) λi=>q (ah .lss h i) λh=>av (λc d e=>av (λa c d=>Q (a 4) λe=>q (ah .add e (.Z 1)) λe=>b (K a 4 e) c d) λb=>Q (c 3) λg=>Q (c 0) λh=>q (a2 h) λh=>q (aq 8 h) λh=>q (W a d h) λh=>Q (c 4) λi=>q (bK 1 h i) λh=>q (W a d h) λh=>aN a 116 [h] d e (λd e f=>dA (d4 a e f 1 g d) e f λa d e=>b (K c 3 a) d e) f) λa=>aD h (a (K c 18 h) d g) (e (K c 18 h) d g)) (zC b 3 c 4 (.Z 0)) d g) λa=>aD g (e .az c d) (a (zD (bR [b]) 2 .az 3 .az 6 g) c d)
def BL:co X 116 [a0]=vF X a0:=Zk
def BK:cb X 116 1=true:=Zk
end
end Go.Proofs.YtmipngjbcdamjaaGreatDoor

namespace Go.Proofs.YtmipngjbcdamjaaGreatDoor
open Go.S Go.a8
noncomputable section
def eY(x:Int×bx)(p L:Int):List y:=[.Z x.1, .str x.2.name, .Z x.2.at_, .bool x.2.ty.b, .bool x.2.ty.s, .Z x.2.ty.w, .str x.2.on, .Z x.2.di, .bool x.2.no, .Z p, .Z L]
def xT{k:List (Int×bx)}{w:aW}(e:∀x∈k,x.2.name≠w):en k w=none:=by
 unfold en
 rw[Option.map_eq_none_iff,zl]
 intro x a
 simp[e x a]
def F0{k:List (Int×bx)}{w:aW}{H:Nat}{x:Int×bx}(g:k[H]? =some x)(e:∀a∈k.take H,a.2.name≠w)(f:x.2.name=w):en k w=some x.1:=by
 have b:k=k.take H++x::k.drop (H+1):=by
  obtain⟨ak,d⟩:=Zf.1 g
  rw[<-d, <-ZY ak,List.take_append_drop]
 unfold en
 rw[b,List.find?_append]
 have c:(k.take H).find? (λx=>decide (x.2.name=w))=none:=by
  rw[zl]
  intro a i
  simp[e a i]
 rw[c,List.find?_cons]
 simp[f]
section
variable{X:bU}{h E cH ay aO:I ae}{j ar aL aR bz:Nat}{bp d2 P:Nat->Prop}
def uO(b:Nat):ce X h .neq 25 true (.ptr b 0) .bC=some .zT:=Zk
set_option maxRecDepth 100000 in
def jn(b:dU X)(c a:Int)(d:(u X).aP<=j):aN X 54 [.Z c, .Z a] h j (λN E ar=>N= .agg [.Z c, .Z a]/\a1 X h j E ar) zG:=by
 refine zB b.todX (CQ X) ?_
 rw[CR]
 unfold wn
 refine cn @fl @fm ⟨?_⟩
 exact⟨rfl,dG⟩
set_option maxRecDepth 100000 in
def xO(O:dU X){U:List Go.a8.Node}{v:y}{w:aW}(Z:gf X h P U v):
 aN X 55 [v, .str w] h j (λN E ar=>N= .tuple [.Z (((el U w).getD 0:Nat):Int), .bool (el U w).isSome]/\E=h/\ar=j) zG:=by
 refine zB O.todX (CS X) ?_
 rw[CT]
 unfold wo
 obtain⟨b,ax,bO,rows,rfl,ab,a0,f,z⟩:=id Z
 have C:=z.wide
 have c:=f.len
 have T0:=f.many
 rw[C.1]at c T0
 refine bl ⟨?_⟩
 refine cQ (λm B E aj=>∃(H:Nat),B.g 0=some (.ptr b 0)/\B.g 1=some (.str w)/\B.g 6=some (.Z (H:Int))/\H+m=U.length/\E=h/\aj=j/\el U w=oE w H (U.drop H))
  U.length ⟨0,aK,aK,cA,Zo,rfl,rfl,rfl⟩ ?_
 rintro m B ay aL ⟨H,t0,r,s,T6,rfl,rfl,a⟩
 cases m with
 |zero=>
  have d:=zv H U.length
  rw[YK Zo]at a
  refine dw @s @t0 @a0 @c @d @uO ⟨?_⟩
  rw[a]
  exact⟨rfl,rfl,rfl⟩
 |succ m=>
  have d:=zw H U.length
  have G:=zz H
  obtain⟨g,t⟩:=zx U H
  have Y:U.drop H=g::U.drop (H+1):=by
   obtain⟨T3,T4⟩:=Zf.1 t
   rw[ZY T3,T4]
  rw[Y,oE]at a
  obtain⟨row,T2,T1⟩:=z.get H g t
  have x:=f.cT H (by rw[C.1];omega)
  obtain⟨bA,bB,T7,T8,b2,be,b6,c4,T5,rfl,_⟩:=T1
  have p:=f.cell H _ 0 (.str g.name) T2 rfl
  rw[ZH]at p
  by_cases i:g.name=w
  ·have n:decide (g.name=w)=true:=by simp[i]
   rw[Zv i]at a
   refine bs @s @t0 @r @a0 @c @d (Za @uO (Za @x (Za @p @n))) ⟨?_⟩
   rw[a]
   exact⟨rfl,rfl,rfl⟩
  ·have n:decide (g.name=w)=false:=by simp[i]
   rw[Zj i]at a
   refine bs @s @t0 @r @a0 @c @d (Za @uO (Za @x (Za @p (Za @n @G)))) ⟨?_⟩
   exact⟨m,Zo,H+1,an t0,an r,aK,Zo,rfl,rfl,a⟩
set_option maxRecDepth 100000 in
def rK(z:dU X){b:Nat}{ax:y}{a:List aW}{w:aW}(M:ci X h P b ax 1 (dt a)):
 aN X 56 [ax, .str w] h j (λN E ar=>N= .bool (decide (w∈a))/\E=h/\ar=j) zG:=by
 refine zB z.todX (CU X) ?_
 rw[CV]
 unfold wp
 have c:=M.len
 have C:=M.many
 rw[show(dt a).length=a.length from by simp[dt]]at c C
 refine bl ⟨?_⟩
 refine cQ (λm B E aj=>∃(H:Nat),B.g 0=some ax/\B.g 1=some (.str w)/\B.g 5=some (.Z (H:Int))/\H+m=a.length/\E=h/\aj=j/\∀x∈a.take H,x≠w)
  a.length ⟨0,aK,aK,cA,Zo,rfl,rfl,Zs⟩ ?_
 rintro m B aO aR ⟨H,t0,t,t5,G,rfl,rfl,n⟩
 cases m with
 |zero=>
  have d:=zv H a.length
  rw[Zt Zo]at n
  have g:decide (w∈a)=false:=by simp only[Zb];exact λe=>n w e rfl
  refine cP @t5 @t0 @c @d ⟨?_⟩
  exact⟨by rw[g],rfl,rfl⟩
 |succ m=>
  have d:=zw H a.length
  have v:=zz H
  obtain⟨x,s⟩:=zx a H
  have r:=M.cT H (by simp[dt];omega)
  have p:=M.cell H [.str x] 0 (.str x) (by unfold dt;rw[Zw,s];rfl) rfl
  rw[ZV]at r
  rw[ZV,ZH]at p
  by_cases f:x=w
  ·have i:decide (x=w)=true:=by simp[f]
   have g:decide (w∈a)=true:=by simp only[Zc];rw[<-f];exact Zg s
   refine bs @t5 @t0 @t @c @d @r (Za @p @i) ⟨?_⟩
   exact⟨by rw[g],rfl,rfl⟩
  ·have i:decide (x=w)=false:=by simp[f]
   refine bs @t5 @t0 @t @c @d @r (Za @p (Za @i @v)) ⟨?_⟩
   exact⟨m,Zo,H+1,an t0,an t,aK,Zo,rfl,rfl,hY s n f⟩
end
section
variable{X:bU}{h E cH ay aO:I ae}{j ar aL aR bz:Nat}{bp d2 P:Nat->Prop}
structure hj(rows:List (List y))(k:List (Int×bx)):Prop where
 len:rows.length=k.length
 at_:∀(i:Nat) x,k[i]? =some x->∃p L:Int,rows[i]? =some (eY x p L)
def hj.wide{rows:List (List y)}{k:List (Int×bx)}(e:hj rows k):∀r∈rows,r.length=11:=by
 intro r M
 obtain⟨i,ak,rfl⟩:=ze.1 M
 have b:=e.len
 obtain⟨p,L,a⟩:=e.at_ i (k[i]'Zo) (Ze _)
 rw[Ze ak]at a
 rw[Yd a];rfl
def hj.push{rows:List (List y)}{k:List (Int×bx)}(e:hj rows k)(x:Int×bx)(p L:Int):hj (rows++[eY x p L]) (k++[x]):=by
 have b:=e.len
 refine⟨by simp[b],λi d a=> ?_⟩
 by_cases ak:i<k.length
 ·rw[ZA ak]at a
  rw[ZA Zo]
  exact e.at_ i d a
 ·rw[Zy Zo]at a
  rw[Zy Zo,b]
  cases c:i-k.length with
  |zero=>
   rw[c]at a
   simp at a
   subst a
   exact⟨p,L,rfl⟩
  |succ H=>rw[c]at a;simp at a
def eZ(X:bU)(h:I ae)(s:y)(aJ:List Nat)(k:List (Int×bx)):Prop:=∃rows,dc X h s 11 rows.flatten aJ/\hj rows k
def eZ.T{s:y}{aJ:List Nat}{k:List (Int×bx)}(e:eZ X h s aJ k)(o:∀a∈aJ,J X E a=J X h a):eZ X E s aJ k:=by
 obtain⟨rows,b,c⟩:=e
 exact⟨rows,b.T o,c⟩
def eZ.push{s:y}{aJ:List Nat}{k:List (Int×bx)}{x:Int×bx}{p L:Int}{f:Nat}(e:eZ X h s aJ k)(t:J X h f=zy (eY x p L) 11)(r:cR (eY x p L)=true)(O:k.length<=5000)(z:(u X).aP<=j)(w:∀a∈aJ,a<j):
 ∃c E b,d4 X h j 11 s (.slice f 0 1 1)=some (.cy c E (j+1))/\eZ X E c b (k++[x])/\(∀a∈b,a=j\/a∈aJ)/\∀a,a≠j->a∉aJ->J X E a=J X h a:=by
 obtain⟨rows,G,d⟩:=e
 have v:=iz d.wide
 have C:=d.len
 obtain⟨c,E,b,g,i,m,n⟩:=(show cX X h s 11 rows.flatten aJ from .inl G).append (j:=j) (o:=1) Zd (hx t (dl _) rfl 1) rfl Zd r (by rw[v,C];simp[eY];omega) z w
 exact⟨c,E,b,g,⟨rows++[eY x p L],by rw[YG];simpa using i,d.push x p L⟩,m,n⟩
def Kh{α:Type}{k:List α}{i:Nat}{a:α}(e:k[i]? =some a):k.set i a=k:=by
 obtain⟨c,b⟩:=Zf.1 e
 rw[<-b,List.set_getElem_self]
def xU{ap:Nat}{v:y}{D:Nat}(m:D<ap):∀(rows:List (List y)) (i:Nat) (r:List y),(∀r∈rows,r.length=ap)->rows[i]? =some r->i6 rows.flatten (i*ap+D) [v]=(rows.set i (r.set D v)).flatten:=by
 intro rows
 induction rows with
 |nil=>intro i r _ e;simp at e
 |cons a k V=>
  intro i r M e
  have g:=M a (Zl ..)
  cases i with
  |zero=>
   simp at e
   subst e
   simp only[i6,Z9,Y4,ZE,Yg,List.length_singleton]
   rw[List.take_append_of_le_length Zo,List.drop_append_of_le_length Zo,List.set_eq_take_append_cons_drop,Zv Zo]
   simp
  |succ i=>
   have f:k[i]? =some r:=by simpa using e
   have b:=V i r (λr e=>M r (Zi _ e)) f
   have c:(i+1)*ap+D=a.length+(i*ap+D):=by rw[g,zr];omega
   have d:a.length+(i*ap+D)+[v].length=a.length+(i*ap+D+[v].length):=Zo
   unfold i6 at b ⊢
   rw[c,d,Z9,List.take_length_add_append,List.drop_length_add_append,Yh,Z9, <-b,List.append_assoc]
def hj.put{rows:List (List y)}{k:List (Int×bx)}(e:hj rows k){i:Nat}{x:Int×bx}{p L:Int}(d:k[i]? =some x)(b dz:Int):hj (rows.set i (eY x b dz)) k:=by
 have c:=e.len
 refine⟨by simpa using c,λH f a=> ?_⟩
 have g:=(Zf.1 a).1
 rw[Yr]
 by_cases l:i=H
 ·subst l
  rw[Zv rfl,Zv Zo]
  rw[d]at a
  cases a
  exact⟨b,dz,rfl⟩
 ·rw[Zj l]
  exact e.at_ H f a
def eZ.len{s:y}{aJ:List Nat}{k:List (Int×bx)}(e:eZ X h s aJ k)(d:k.length<=5000):bL s=some (.Z (k.length:Int)):=by
 obtain⟨rows,c,a⟩:=e
 obtain⟨b,M⟩:=c.gO Zd a.wide (zu a.len) (P:=λ_=>True) (λ_ _=>trivial)
 rw[M.len,a.len]
def eZ.at_{s:y}{aJ:List Nat}{k:List (Int×bx)}{i:Nat}{x:Int×bx}(e:eZ X h s aJ k)(f:k[i]? =some x):∃b,aJ.head?=some b/\bK 11 s (.Z (i:Int))=some (.ptr b (i*11))/\W X h (.ptr b (i*11+1))=some (.str x.2.name)/\
 (∀z:Int,∃ay,bj X h 1 (.ptr b (i*11+9)) (.Z z)=some ay/\eZ X ay s [b] k/\∀a,a∉aJ->J X ay a=J X h a)/\
 ∀z:Int,∃ay,bj X h 1 (.ptr b (i*11+10)) (.Z z)=some ay/\eZ X ay s [b] k/\∀a,a∉aJ->J X ay a=J X h a:=by
 obtain⟨rows,w,c⟩:=e
 have m:=iz c.wide
 have n:=c.len
 have T1:=(Zf.1 f).1
 obtain⟨p,L,M⟩:=c.at_ i x f
 have Z:=λD (d:D<11) (v:y)=>xU (v:=v) d rows i _ c.wide M
 obtain⟨b,ab,Y,O⟩:=w.at (i:=i) (by rw[m,n];omega) Zd .i64
 have put:∀(D:Nat) (d:D<11) (z:Int) (g:List y),(eY x p L).set D (.Z z)=g->hj (rows.set i g) k->∃ay,bj X h 1 (.ptr b (i*11+D)) (.Z z)=some ay/\eZ X ay s [b] k/\∀a,a∉aJ->J X ay a=J X h a:=by
  intro D d z g P T0
  obtain⟨ay,C,r,G⟩:=w.put (v:= .Z z) (aE:=[.Z z]) (D:=i*11+D) ab rfl (Nat.succ_pos _) (by rfl) (by rw[m,n];simp;omega)
  exact⟨ay,C,⟨rows.set i g,by rw[Z D d,P]at r;exact r,T0⟩,G⟩
 refine⟨b,ab,Y, ?_,λz=>put 9 Zd z (eY x z L) rfl (c.put (p:=p) (L:=L) f z L),λz=>put 10 Zd z (eY x p z) rfl (c.put (p:=p) (L:=L) f p z)⟩
 rw[O 1]
 have l:=xU (v:= .str x.2.name) (show 1<11 by decide) rows i _ c.wide M
 have t:(i6 rows.flatten (i*11+1) [.str x.2.name])[i*11+1]? =some (.str x.2.name):=by
  rw[Am (by rw[m,n];simp;omega)];simp
 rw[l,show(eY x p L).set 1 (.str x.2.name)=eY x p L from rfl,Kh M]at t
 exact t
set_option maxRecDepth 100000 in
def Lv(Un:dU X){g:Go.a8.Node}{row:List y}(Ur:(u X).aP<=j)(Uo:fT X h P (bT X h P) g row)(U2:∀b,P b->b<j)(V3:g.cl.length<=1000/\g.out.length<=1000/\g.loc.length<=1000/\g.eqs.length<=1000):
 aN X 31 [.agg row] h j (λN E ar=>(∃aJ,eZ X E N aJ (bi g)/\∀b∈aJ,j<=b/\b<ar)/\a1 X h j E ar) zG:=by
 refine zB Un.todX (Cq X) ?_
 rw[Cr]
 unfold v6
 obtain⟨bA,bB,ax,TZ,b2,be,b6,c4,VD,rfl,T8,T9,TY,UA,UY⟩:=Uo
 obtain⟨VL,VM,VN,VO⟩:=V3
 refine l8 ?_
 generalize UM:aS X h j _=ay
 have U1:J X ay j=zy [.str g.name, .Z g.at_,bA,bB,ax,TZ] 6:=by rw[<-UM,bb Ur];rfl
 have UV:a1 X h j ay (j+1):=by rw[<-UM];exact dG
 clear UM
 have UH:∀b,P b->J X ay b=J X h b:=λb c=>UV.T b (U2 b c)
 replace T8:=T8.T UH
 replace T9:=T9.T UH
 replace TY:=TY.T UH
 replace UA:=UA.T UH
 have V6:=a1.refl (C:=u X) ay (j+1)
 refine cU (λB E aj=>∃s aJ,B.g 1=some (.ptr j 0)/\B.g 3=some s/\eZ X E s aJ (([]:List (Int×bx))++g.cl.map λd=>((1:Int),d))/\(∀b∈aJ,j+1<=b/\b<aj)/\a1 X ay (j+1) E aj) (λH UC=> ?_) ?_
 ·have v:=T8.len
  have UD:=T8.many
  rw[Zn]at v UD
  refine cQ (λm B E aj=>∃(i:Nat) (s:y) (aJ:List Nat),B.g 1=some (.ptr j 0)/\B.g 3=some s/\B.g 4=some (.Z (i:Int))/\i+m=g.cl.length/\eZ X E s aJ (([]:List (Int×bx))++(g.cl.take i).map λd=>((1:Int),d))/\(∀b∈aJ,j+1<=b/\b<aj)/\a1 X ay (j+1) E aj)
   g.cl.length ⟨0, .az,[],aK,aK,cA,Zo,⟨[], .inl ⟨rfl,rfl,rfl⟩,⟨rfl,λi x e=>by simp at e⟩⟩,Zs,V6⟩ ?_
  rintro m B Y z ⟨i,s,aJ,p,t3,T4,ak,t,n,f⟩
  have Z:=f.le
  have T1:J X Y j=zy [.str g.name, .Z g.at_,bA,bB,ax,TZ] 6:=by rw[f.T _ Zo];exact U1
  cases m with
  |zero=>
   have d:=zv i g.cl.length
   rw[Zt Zo]at t
   refine de @T4 @p (ba T1) @v @d ⟨?_⟩
   exact UC _ _ _ ⟨s,aJ,an p,an t3,t,n,f⟩
  |succ m=>
   have U4:=zw i g.cl.length
   have U5:=zz i
   obtain⟨d,T5⟩:=zx g.cl i
   have UB:=T8.cT i (by rw[Zn];omega)
   have T6:=(T8.T λb c=>f.T b (zu (U2 b c))).row (i:=i) (r:=bP d) Zd (by rw[Zw,T5];rfl)
   have U9:bP d=[.str d.name, .Z d.at_, .bool d.ty.b, .bool d.ty.s, .Z d.ty.w, .str d.on, .Z d.di, .bool d.no]:=rfl
   rw[U9]at T6
   have UE:cR (eY (1,d) (-1) (-1))=true:=by simp[eY,Go.S.cR,d9]
   refine bs @T4 @p @t3 (ba T1) @v @U4 (Za @UB @T6) ⟨?_⟩
   generalize T2:aS X Y z _=O
   have U6:J X O z=zy (eY (1,d) (-1) (-1)) 11:=by rw[<-T2,bb Zo];rfl
   have T7:∀b,b≠z->J X O b=J X Y b:=λb c=>by rw[<-T2,aY Zo c]
   clear T2
   obtain⟨UI,U0,U3,U7,UF,U8,UG⟩:=(t.T (E:=O) λb c=>T7 b (zu (n b c))).push (j:=z+1) U6 UE Zx Zo (λb c=>zu (n b c))
   refine eX U7 ?_
   refine cn @T4 @U5 ⟨?_⟩
   refine⟨m,Zo,i+1,UI,U3,an p,aK,aK,Zo, ?_,λb c=> ?_,Zo,λb c=> ?_⟩
   ·rw[ZG,T5]
    simpa using UF
   ·rcases U8 b c with e|e
    ·omega
    ·have:=n b e;omega
   ·rw[UG b Zo (λe=>zu (n b e)),T7 b Zo]
    exact f.T b c
 rintro B aO aR ⟨s,aJ,p,t3,t,n,f⟩
 have Z:=f.le
 refine cU (λB E aj=>∃s aJ,B.g 1=some (.ptr j 0)/\B.g 3=some s/\eZ X E s aJ ((([]:List (Int×bx))++g.cl.map λd=>((1:Int),d))++g.out.map λd=>((2:Int),d))/\(∀b∈aJ,j+1<=b/\b<aj)/\a1 X ay (j+1) E aj) (λH UC=> ?_) ?_
 ·have v:=T9.len
  have UD:=T9.many
  rw[Zn]at v UD
  refine cQ (λm B E aj=>∃(i:Nat) (s:y) (aJ:List Nat),B.g 1=some (.ptr j 0)/\B.g 3=some s/\B.g 5=some (.Z (i:Int))/\i+m=g.out.length/\eZ X E s aJ ((([]:List (Int×bx))++g.cl.map λd=>((1:Int),d))++(g.out.take i).map λd=>((2:Int),d))/\(∀b∈aJ,j+1<=b/\b<aj)/\a1 X ay (j+1) E aj)
   g.out.length ⟨0,s,aJ,an p,an t3,cA,Zo,by simpa using t,n,f⟩ ?_
  rintro m B Y z ⟨i,s,aJ,p,t3,T4,ak,t,n,f⟩
  have Z:=f.le
  have T1:J X Y j=zy [.str g.name, .Z g.at_,bA,bB,ax,TZ] 6:=by rw[f.T _ Zo];exact U1
  cases m with
  |zero=>
   have d:=zv i g.out.length
   rw[Zt Zo]at t
   refine de @T4 @p (ba T1) @v @d ⟨?_⟩
   exact UC _ _ _ ⟨s,aJ,an p,an t3,t,n,f⟩
  |succ m=>
   have U4:=zw i g.out.length
   have U5:=zz i
   obtain⟨d,T5⟩:=zx g.out i
   have UB:=T9.cT i (by rw[Zn];omega)
   have T6:=(T9.T λb c=>f.T b (zu (U2 b c))).row (i:=i) (r:=bP d) Zd (by rw[Zw,T5];rfl)
   have U9:bP d=[.str d.name, .Z d.at_, .bool d.ty.b, .bool d.ty.s, .Z d.ty.w, .str d.on, .Z d.di, .bool d.no]:=rfl
   rw[U9]at T6
   have UE:cR (eY (2,d) (-1) (-1))=true:=by simp[eY,Go.S.cR,d9]
   refine bs @T4 @p @t3 (ba T1) @v @U4 (Za @UB @T6) ⟨?_⟩
   generalize T2:aS X Y z _=O
   have U6:J X O z=zy (eY (2,d) (-1) (-1)) 11:=by rw[<-T2,bb Zo];rfl
   have T7:∀b,b≠z->J X O b=J X Y b:=λb c=>by rw[<-T2,aY Zo c]
   clear T2
   obtain⟨UI,U0,U3,U7,UF,U8,UG⟩:=(t.T (E:=O) λb c=>T7 b (zu (n b c))).push (j:=z+1) U6 UE Zx Zo (λb c=>zu (n b c))
   refine eX U7 ?_
   refine cn @T4 @U5 ⟨?_⟩
   refine⟨m,Zo,i+1,UI,U3,an p,aK,aK,Zo, ?_,λb c=> ?_,Zo,λb c=> ?_⟩
   ·rw[ZG,T5]
    simpa using UF
   ·rcases U8 b c with e|e
    ·omega
    ·have:=n b e;omega
   ·rw[UG b Zo (λe=>zu (n b e)),T7 b Zo]
    exact f.T b c
 clear p t3 t n f Z
 rintro B aO aR ⟨s,aJ,p,t3,t,n,f⟩
 have Z:=f.le
 refine cU (λB E aj=>∃s aJ,B.g 1=some (.ptr j 0)/\B.g 3=some s/\eZ X E s aJ (((([]:List (Int×bx))++g.cl.map λd=>((1:Int),d))++g.out.map λd=>((2:Int),d))++g.loc.map λd=>((3:Int),d))/\(∀b∈aJ,j+1<=b/\b<aj)/\a1 X ay (j+1) E aj) (λH UC=> ?_) ?_
 ·have v:=TY.len
  have UD:=TY.many
  rw[Zn]at v UD
  refine cQ (λm B E aj=>∃(i:Nat) (s:y) (aJ:List Nat),B.g 1=some (.ptr j 0)/\B.g 3=some s/\B.g 6=some (.Z (i:Int))/\i+m=g.loc.length/\eZ X E s aJ (((([]:List (Int×bx))++g.cl.map λd=>((1:Int),d))++g.out.map λd=>((2:Int),d))++(g.loc.take i).map λd=>((3:Int),d))/\(∀b∈aJ,j+1<=b/\b<aj)/\a1 X ay (j+1) E aj)
   g.loc.length ⟨0,s,aJ,an p,an t3,cA,Zo,by simpa using t,n,f⟩ ?_
  rintro m B Y z ⟨i,s,aJ,p,t3,T4,ak,t,n,f⟩
  have Z:=f.le
  have T1:J X Y j=zy [.str g.name, .Z g.at_,bA,bB,ax,TZ] 6:=by rw[f.T _ Zo];exact U1
  cases m with
  |zero=>
   have d:=zv i g.loc.length
   rw[Zt Zo]at t
   refine de @T4 @p (ba T1) @v @d ⟨?_⟩
   exact UC _ _ _ ⟨s,aJ,an p,an t3,t,n,f⟩
  |succ m=>
   have U4:=zw i g.loc.length
   have U5:=zz i
   obtain⟨d,T5⟩:=zx g.loc i
   have UB:=TY.cT i (by rw[Zn];omega)
   have T6:=(TY.T λb c=>f.T b (zu (U2 b c))).row (i:=i) (r:=bP d) Zd (by rw[Zw,T5];rfl)
   have U9:bP d=[.str d.name, .Z d.at_, .bool d.ty.b, .bool d.ty.s, .Z d.ty.w, .str d.on, .Z d.di, .bool d.no]:=rfl
   rw[U9]at T6
   have UE:cR (eY (3,d) (-1) (-1))=true:=by simp[eY,Go.S.cR,d9]
   refine bs @T4 @p @t3 (ba T1) @v @U4 (Za @UB @T6) ⟨?_⟩
   generalize T2:aS X Y z _=O
   have U6:J X O z=zy (eY (3,d) (-1) (-1)) 11:=by rw[<-T2,bb Zo];rfl
   have T7:∀b,b≠z->J X O b=J X Y b:=λb c=>by rw[<-T2,aY Zo c]
   clear T2
   obtain⟨UI,U0,U3,U7,UF,U8,UG⟩:=(t.T (E:=O) λb c=>T7 b (zu (n b c))).push (j:=z+1) U6 UE Zx Zo (λb c=>zu (n b c))
   refine eX U7 ?_
   refine cn @T4 @U5 ⟨?_⟩
   refine⟨m,Zo,i+1,UI,U3,an p,aK,aK,Zo, ?_,λb c=> ?_,Zo,λb c=> ?_⟩
   ·rw[ZG,T5]
    simpa using UF
   ·rcases U8 b c with e|e
    ·omega
    ·have:=n b e;omega
   ·rw[UG b Zo (λe=>zu (n b e)),T7 b Zo]
    exact f.T b c
 clear p t3 t n f Z
 rintro B aO aR ⟨s,aJ,p,t3,t,n,f⟩
 have Z:=f.le
 replace t:eZ X aO s aJ (bi g):=by unfold bi;simpa using t
 have VE:(bi g).length=g.cl.length+g.out.length+g.loc.length:=by simp[bi];omega
 have Uc:=UY.wide
 have Ug:=UA.len
 rw[Uc.1]at Ug
 clear T8 T9 TY
 refine bl ⟨?_⟩
 refine cQ (λm B E aj=>∃(i:Nat) (s:y) (aJ:List Nat),B.g 1=some (.ptr j 0)/\B.g 3=some s/\B.g 7=some (.Z (i:Int))/\i+m=(bi g).length/\eZ X E s aJ (bi g)/\(∀b∈aJ,j+1<=b/\b<aj)/\a1 X ay (j+1) E aj)
  (bi g).length ⟨0,s,aJ,an p,an t3,cA,Zo,t,n,f⟩ ?_
 clear p t3 t n f Z
 rintro m B Y z ⟨i,s,aJ,p,t3,G,ak,t,n,f⟩
 have Z:=f.le
 have T1:J X Y j=zy [.str g.name, .Z g.at_,bA,bB,ax,TZ] 6:=by rw[f.T _ Zo];exact U1
 have v:=t.len Zo
 cases m with
 |zero=>
  have d:=zv i (bi g).length
  refine cP @G @t3 @v @d ⟨?_⟩
  exact⟨⟨aJ,t,λb c=>zu (n b c)⟩,Zo,λb c=>by rw[f.T b Zo];exact UV.T b c⟩
 |succ m=>
 have d:=zw i (bi g).length
 have Uj:=zz i
 have am:ah .sub (.Z (g.eqs.length:Int)) (.Z 1)=some (.Z ((g.eqs.length:Int) -1)):=g4 Zo Zo
 obtain⟨x,Ue⟩:=zx (bi g) i
 refine bs @G @t3 @p @v @d (ba T1) (Za @Ug @am) ⟨?_⟩
 refine cQ (λmk B E aj=>∃(s:y) (aJ:List Nat),B.g 1=some (.ptr j 0)/\B.g 3=some s/\B.g 7=some (.Z (i:Int))/\B.g 8=some (.Z ((mk:Int) -1))/\mk<=g.eqs.length/\eZ X E s aJ (bi g)/\(∀b∈aJ,j+1<=b/\b<aj)/\a1 X ay (j+1) E aj)
  g.eqs.length ⟨s,aJ,an p,an t3,an G,aK,Zo,t,n,f⟩ ?_
 clear p t3 G t n f Z T1 v
 rintro mk B O VP ⟨s,aJ,p,t3,G,T0,VG,t,n,f⟩
 have Z:=f.le
 have UT:J X O j=zy [.str g.name, .Z g.at_,bA,bB,ax,TZ] 6:=by rw[f.T _ Zo];exact U1
 cases mk with
 |zero=>
  rw[show((0:Nat):Int) -1= -1 from rfl]at T0
  have d:decide ((0:Int)<= -1)=false:=rfl
  refine cP @T0 @G @d @Uj ⟨?_⟩
  exact⟨m,Zo,i+1,s,aJ,an p,an t3,aK,Zo,t,n,f⟩
 |succ o=>
 rw[show((o+1:Nat):Int) -1=(o:Int) by omega]at T0
 have d:decide ((0:Int)<=(o:Int))=true:=zK
 have Uk:ah .sub (.Z (o:Int)) (.Z 1)=some (.Z ((o:Int) -1)):=g4 Zo Zo
 obtain⟨L,Uu⟩:=zx g.eqs o
 obtain⟨VS,Ux,Uw⟩:=UY.get o L Uu
 obtain⟨Uh,VR,VB,VC,dB,rfl,UJ,VH,VI,VJ⟩:=Uw
 have Ub:=UJ.len
 have Uv:=UJ.many
 rw[show(dt L.left).length=L.left.length from by simp[dt]]at Ub Uv
 have UO:=UA.cT o (by rw[Uc.1];omega)
 have Uf:∀E,a1 X ay (j+1) E (j+1)\/True->(∀b,b<j+1->J X E b=J X ay b)->W X E (.ptr c4 (o*4))=some Uh:=λE _ Uq=>by
  have:=(UA.T (E:=E) λb c=>Uq b (zu (U2 b c))).cell o _ 0 Uh Ux rfl
  rwa[ZH]at this
 have UW:=Uf O (.inr trivial) f.T
 have Ul:ah .sub (.Z (L.left.length:Int)) (.Z 1)=some (.Z ((L.left.length:Int) -1)):=g4 Zo Zo
 refine bs @T0 @p (ba UT) @d @UO @UW (Za @Ub @Ul) ⟨?_⟩
 refine cQ (λUK B E aj=>∃(s:y) (aJ:List Nat),B.g 1=some (.ptr j 0)/\B.g 3=some s/\B.g 7=some (.Z (i:Int))/\B.g 8=some (.Z (o:Int))/\B.g 9=some (.Z ((UK:Int) -1))/\UK<=L.left.length/\eZ X E s aJ (bi g)/\(∀b∈aJ,j+1<=b/\b<aj)/\a1 X ay (j+1) E aj)
  L.left.length ⟨s,aJ,an p,an t3,an G,an T0,aK,Zo,t,n,f⟩ ?_
 clear p t3 G T0 t n f Z UT UW
 rintro UK B U0 VQ ⟨s,aJ,p,t3,G,T0,t9,VF,t,n,f⟩
 have Z:=f.le
 have UU:J X U0 j=zy [.str g.name, .Z g.at_,bA,bB,ax,TZ] 6:=by rw[f.T _ Zo];exact U1
 cases UK with
 |zero=>
  rw[show((0:Nat):Int) -1= -1 from rfl]at t9
  have d:decide ((0:Int)<= -1)=false:=rfl
  refine cP @t9 @T0 @d @Uk ⟨?_⟩
  exact⟨o,Zo,s,aJ,an p,an t3,an G,aK,Zo,t,n,f⟩
 |succ T3=>
 rw[show((T3+1:Nat):Int) -1=(T3:Int) by omega]at t9
 have d:decide ((0:Int)<=(T3:Int))=true:=zK
 have US:ah .sub (.Z (T3:Int)) (.Z 1)=some (.Z ((T3:Int) -1)):=g4 Zo Zo
 obtain⟨w,V2⟩:=zx L.left T3
 have UP:=UJ.cT T3 (by simp[dt];omega)
 have UN:=(UJ.T (E:=U0) λb c=>by rw[f.T b (zu (U2 b c))];exact UH b c).cell T3 [.str w] 0 (.str w) (by unfold dt;rw[Zw,V2];rfl) rfl
 rw[ZV]at UP
 rw[ZV,ZH]at UN
 have UX:=Uf U0 (.inr trivial) f.T
 obtain⟨UR,UQ,UZ,Ua,Ut,_⟩:=t.at_ Ue
 have V1:UR∈aJ:=by cases aJ with
  |nil=>simp at UQ
  |cons a k=>simp at UQ;subst UQ;exact Zl ..
 have VK:=n UR V1
 by_cases Ud:w=x.2.name
 ·have UL:decide (w=x.2.name)=true:=by simp[Ud]
  obtain⟨V9,V7,Uy,V4⟩:=Ut (o:Int)
  obtain⟨Ui,V0,Up,_,_,Us⟩:=Uy.at_ Ue
  have Um:Ui=UR:=by simpa using V0.symm
  subst Um
  obtain⟨VA,V8,Uz,V5⟩:=Us (T3:Int)
  refine bs @t9 @T0 @G @t3 @p (ba UU) (Za @d (Za @UO (Za @UX (Za @UP (Za @UN (Za @UZ (Za @Ua @UL))))))) ⟨?_⟩
  refine cD V7 ?_
  refine dw @t9 @T0 @G @t3 @p @Up ⟨?_⟩
  refine cD V8 ?_
  refine cn @t9 @US ⟨?_⟩
  refine⟨T3,Zo,s,[Ui],an p,an t3,an G,an T0,aK,Zo,Uz,λb c=>by rw[ZF.1 c];omega,Zo,λb c=> ?_⟩
  rw[V5 b (λe=>by rw[ZF.1 e]at c;omega),V4 b (λe=>zu (n b e))]
  exact f.T b c
 ·have UL:decide (w=x.2.name)=false:=by simp[Ud]
  refine bs @t9 @T0 @G @t3 @p (ba UU) (Za @d (Za @UO (Za @UX (Za @UP (Za @UN (Za @UZ (Za @Ua (Za @UL @US)))))))) ⟨?_⟩
  exact⟨T3,Zo,s,aJ,an p,an t3,an G,an T0,aK,Zo,t,λb c=>zu (n b c),f.more Zo⟩
end
def fP(k:List (Int×bx)):List aW:=k.foldl (λa x=>if x.2.name∈a then a else a++[x.2.name]) []
def yP(k:List (Int×bx))(x:Int×bx):fP (k++[x])=if x.2.name∈fP k then fP k else fP k++[x.2.name]:=by
 unfold fP;rw[YX];rfl
def Ip:∀(k:List (Int×bx)) (b:List aW),(k.foldl (λb x=>if x.2.name∈b then b else b++[x.2.name]) b).length<=b.length+k.length:=by
 intro k
 induction k with
 |nil=>intro b;simp
 |cons a k V=>
  intro b
  rw[ZU]
  refine ZD (V _) ?_
  split
  ·simp only[ZC];omega
  ·simp only[ZC,ZT,Z0];omega
def Iq{w:aW}:∀(k:List (Int×bx)) (d:List aW),w∈k.foldl (λd x=>if x.2.name∈d then d else d++[x.2.name]) d↔w∈d\/∃x∈k,x.2.name=w:=by
 intro k
 induction k with
 |nil=>intro d;simp
 |cons a k V=>
  intro d
  rw[ZU,V]
  by_cases e:a.2.name∈d
  ·rw[Zv e]
   constructor
   ·rintro(b|⟨x,b,c⟩)
    ·exact .inl b
    ·exact .inr ⟨x,Zi _ b,c⟩
   ·rintro(b|⟨x,b,c⟩)
    ·exact .inl b
    ·rcases Zz.1 b with rfl|b
     ·exact .inl (c▸e)
     ·exact .inr ⟨x,b,c⟩
  ·rw[Zj e,Zr,ZF]
   constructor
   ·rintro((b|b)|⟨x,b,c⟩)
    ·exact .inl b
    ·exact .inr ⟨a,Zl ..,b.symm⟩
    ·exact .inr ⟨x,Zi _ b,c⟩
   ·rintro(b|⟨x,b,c⟩)
    ·exact .inl (.inl b)
    ·rcases Zz.1 b with rfl|b
     ·exact .inl (.inr c.symm)
     ·exact .inr ⟨x,b,c⟩
section
variable{X:bU}{h E cH ay aO:I ae}{j ar aL aR bz:Nat}{bp d2 P:Nat->Prop}
def Lw(x:Int×bx)(p L:Int):Go.S.cR (eY x p L)=true:=by simp[eY,Go.S.cR,d9]
set_option maxRecDepth 100000 in
def tV(U0:dU X){b:Nat}{ax:y}{rows:List (List y)}{k:List (Int×bx)}{w:aW}(t:(u X).aP<=j)(M:ci X h P b ax 11 rows)(T3:hj rows k)(U1:∀f,P f->f<j):
 aN X 58 [ax, .str w] h j (λN E ar=>(∃(row:List y) (o:Int),N= .tuple [.agg row, .bool (en k w).isSome]/\(∃rest,row= .Z o::rest/\rest.length=10)/\Go.S.cR row=true/\((en k w).isSome=true->en k w=some o))/\a1 X h j E ar) zG:=by
 refine zB U0.todX (CY X) ?_
 rw[CZ]
 unfold ws
 have G:=M.len
 have U2:=M.many
 rw[T3.len]at G U2
 refine hI ?_
 generalize T2:aS X h j _=ay
 have T7:∃c,J X ay j=some (.cells c 11 .own):=⟨_,by rw[<-T2,bb t];rfl⟩
 have T0:a1 X h j ay (j+1):=by rw[<-T2];exact dG
 clear T2
 obtain⟨cc,T7⟩:=T7
 replace M:=M.T (λf z=>T0.T f (U1 f z))
 refine bl ⟨?_⟩
 refine cQ (λm B E aj=>∃(H:Nat),B.g 0=some ax/\B.g 1=some (.str w)/\B.g 4=some (.ptr j 0)/\B.g 6=some (.Z (H:Int))/\H+m=k.length/\E=ay/\aj=j+1/\∀x∈k.take H,x.2.name≠w)
  k.length ⟨0,aK,aK,aK,cA,Zo,rfl,rfl,Zs⟩ ?_
 rintro m B aO aR ⟨H,t0,T5,t4,T6,U4,rfl,rfl,C⟩
 cases m with
 |zero=>
  have d:=zv H k.length
  rw[Zt Zo]at C
  have s:=xT C
  refine de @T6 @t0 @G @d @t4 ⟨?_⟩
  generalize n:aS X aO j _=g
  have Z:J X g j=some (.cells (cO cc 0 [.Z 0, .str [], .Z 0, .zF, .zF, .Z 0, .str [], .Z 0, .zF, .Z 0, .Z 0]) 11 .own):=by rw[<-n,bb t];rfl
  have T1:a1 X h j g (j+1):=⟨Zo,λf z=>by rw[<-n,aY t Zo];exact T0.T f z⟩
  clear n
  have a:∀D v,[(y.Z 0), .str [], .Z 0, .zF, .zF, .Z 0, .str [], .Z 0, .zF, .Z 0, .Z 0][D]? =some v->W X g (.ptr j D)=some v:=λD v e=>by
   rw[ba Z,iJ]
   have:=(Zf.1 e).1
   simp only[ZC,Z0]at this
   rw[Zv Zx]
   simpa using e
  repeat(with_reducible first|refine gr ?_ |refine i1 ?_ |refine iZ ?_ |refine hI ?_ |refine pk ?_ |refine l8 ?_ |refine qe ?_ |refine qd ?_ |refine pV ?_ |refine pX ?_ |refine pU ?_ |refine pW ?_ |refine p6 ?_ |refine pr ?_ |refine qb ?_ |refine qa ?_ |refine kf ?_ |refine ke ?_ |refine kd ?_ |refine kc ?_ |refine pH ?_ |refine jY ?_ |refine jX ?_ |refine pS ?_ |refine qt ?_ |refine qu ?_ |(refine cD (e8 (by(first|assumption|(simp(disch:=omega) only[bb,aY,t4,a 0 _ rfl,a 1 _ rfl,a 2 _ rfl,a 3 _ rfl,a 4 _ rfl,a 5 _ rfl,a 6 _ rfl,a 7 _ rfl,a 8 _ rfl,a 9 _ rfl,a 10 _ rfl]<;>rfl)|(simp(disch:=omega) only[bb,aY,t4,a 0 _ rfl,a 1 _ rfl,a 2 _ rfl,a 3 _ rfl,a 4 _ rfl,a 5 _ rfl,a 6 _ rfl,a 7 _ rfl,a 8 _ rfl,a 9 _ rfl,a 10 _ rfl]))) Zo rfl Zd Zd rfl) ?_)|((conv=>whnf;arg 1;simp(disch:=omega) only[lC,ja,lD,kJ,jW,kK,lw,lv,ll,jA,kV,jv,lc,jw,hp,lf,lg,lh,li,lj,ld,lH,lJ,lK,lL,lM,lN,lO,lP,lI,hA,kz,fG,y.cells,lS,lR,lQ,lq,k9,k7,k8,k6,k5,la,lE,lF,k2,k1,kM,kQ,kR,hP,ib,kj,lk,cr,gI,gH,e5,zo,zp,zq,Yg,Yh,YW,ZW,ZN,ZC,Z0,Yj,Yf,ZO,Yt,ZL,ZE,ZH,ZP,ZM,reduceIte,Nat.reduceEqDiff,Nat.reduceAdd,Nat.reduceMul,Nat.reduceLT,Nat.reduceBEq,Y1,YJ,Yn,Yl,cS,fB,YL,Yi,Ym,Nat.reduceLeDiff,Nat.reduceSub,dC,t4,a 0 _ rfl,a 1 _ rfl,a 2 _ rfl,a 3 _ rfl,a 4 _ rfl,a 5 _ rfl,a 6 _ rfl,a 7 _ rfl,a 8 _ rfl,a 9 _ rfl,a 10 _ rfl]);(first|refine i1 ?_ |refine iZ ?_ |refine jY ?_ |refine jX ?_ |refine kf ?_ |refine ke ?_ |refine kd ?_ |refine kc ?_))|dsimp only)
  exact⟨⟨_,0,by rw[s];rfl,⟨_,rfl,rfl⟩,by rfl,λe=>by rw[s]at e;cases e⟩,T1⟩
 |succ m=>
  have d:=zw H k.length
  have TZ:=zz H
  obtain⟨x,T4⟩:=zx k H
  obtain⟨p,L,TY⟩:=T3.at_ H x T4
  have T8:=M.cT H (by rw[T3.len];omega)
  have T9:=M.cell H _ 1 (.str x.2.name) TY rfl
  by_cases O:x.2.name=w
  ·have Y:decide (x.2.name=w)=true:=by simp[O]
   have s:=F0 T4 C O
   have U3:=M.row (i:=H) (r:=eY x p L) Zd TY
   refine bs @T6 @t0 @T5 @G @d @T8 (Za @T9 (Za @Y (Za @U3 @t4))) ⟨?_⟩
   generalize n:aS X aO j _=g
   have Z:J X g j=some (.cells (cO cc 0 (eY x p L)) 11 .own):=by rw[<-n,bb t];rfl
   have T1:a1 X h j g (j+1):=⟨Zo,λf z=>by rw[<-n,aY t Zo];exact T0.T f z⟩
   clear n
   have a:∀D v,(eY x p L)[D]? =some v->W X g (.ptr j D)=some v:=λD v e=>by
    rw[ba Z,iJ]
    have:=(Zf.1 e).1
    rw[Zv Zo]
    simpa using e
   repeat(with_reducible first|refine gr ?_ |refine i1 ?_ |refine iZ ?_ |refine hI ?_ |refine pk ?_ |refine l8 ?_ |refine qe ?_ |refine qd ?_ |refine pV ?_ |refine pX ?_ |refine pU ?_ |refine pW ?_ |refine p6 ?_ |refine pr ?_ |refine qb ?_ |refine qa ?_ |refine kf ?_ |refine ke ?_ |refine kd ?_ |refine kc ?_ |refine pH ?_ |refine jY ?_ |refine jX ?_ |refine pS ?_ |refine qt ?_ |refine qu ?_ |(refine cD (e8 (by(first|assumption|(simp(disch:=omega) only[bb,aY,t4,a 0 _ rfl,a 1 _ rfl,a 2 _ rfl,a 3 _ rfl,a 4 _ rfl,a 5 _ rfl,a 6 _ rfl,a 7 _ rfl,a 8 _ rfl,a 9 _ rfl,a 10 _ rfl]<;>rfl)|(simp(disch:=omega) only[bb,aY,t4,a 0 _ rfl,a 1 _ rfl,a 2 _ rfl,a 3 _ rfl,a 4 _ rfl,a 5 _ rfl,a 6 _ rfl,a 7 _ rfl,a 8 _ rfl,a 9 _ rfl,a 10 _ rfl]))) Zo rfl Zd Zd rfl) ?_)|((conv=>whnf;arg 1;simp(disch:=omega) only[lC,ja,lD,kJ,jW,kK,lw,lv,ll,jA,kV,jv,lc,jw,hp,lf,lg,lh,li,lj,ld,lH,lJ,lK,lL,lM,lN,lO,lP,lI,hA,kz,fG,y.cells,lS,lR,lQ,lq,k9,k7,k8,k6,k5,la,lE,lF,k2,k1,kM,kQ,kR,hP,ib,kj,lk,cr,gI,gH,e5,zo,zp,zq,Yg,Yh,YW,ZW,ZN,ZC,Z0,Yj,Yf,ZO,Yt,ZL,ZE,ZH,ZP,ZM,reduceIte,Nat.reduceEqDiff,Nat.reduceAdd,Nat.reduceMul,Nat.reduceLT,Nat.reduceBEq,Y1,YJ,Yn,Yl,cS,fB,YL,Yi,Ym,Nat.reduceLeDiff,Nat.reduceSub,dC,t4,a 0 _ rfl,a 1 _ rfl,a 2 _ rfl,a 3 _ rfl,a 4 _ rfl,a 5 _ rfl,a 6 _ rfl,a 7 _ rfl,a 8 _ rfl,a 9 _ rfl,a 10 _ rfl]);(first|refine i1 ?_ |refine iZ ?_ |refine jY ?_ |refine jX ?_ |refine kf ?_ |refine ke ?_ |refine kd ?_ |refine kc ?_))|dsimp only)
   exact⟨⟨eY x p L,x.1,by rw[s];rfl,⟨_,rfl,rfl⟩,Lw x p L,λ_=>s⟩,T1⟩
  ·have Y:decide (x.2.name=w)=false:=by simp[O]
   refine bs @T6 @t0 @T5 @G @d @T8 (Za @T9 (Za @Y @TZ)) ⟨?_⟩
   exact⟨m,Zo,H+1,an t0,an T5,an t4,aK,Zo,rfl,rfl,hY T4 C O⟩
end
def Kx(b:List aW):(dt b).flatten=b.map y.str:=by
 induction b with
 |nil=>rfl
 |cons a k V=>simp only[dt,ZS,Z9]at V ⊢;rw[V];rfl
section
variable{X:bU}{h E cH ay aO:I ae}{j ar aL aR bz:Nat}{bp d2 P:Nat->Prop}
def ks{s:y}{a:List aW}{aJ:List Nat}(e:dc X h s 1 (a.map y.str) aJ)(d:a.length<=5000)(au:∀c∈aJ,bp c):∃b,ci X h bp b s 1 (dt a):=
 dc.gO (by rw[Kx];exact e) Zd (λr M=>by obtain⟨w,_,rfl⟩:=ZB.1 M;rfl) (by simp[dt];omega) au
set_option maxRecDepth 100000 in
def Io(O:dU X){b:Nat}{ax:y}{rows:List (List y)}{k:List (Int×bx)}(U4:(u X).aP<=j)(M:ci X h P b ax 11 rows)(C:hj rows k)(U3:k.length<=3000)(T5:∀a,P a->a<j):
 aN X 57 [ax] h j (λN E ar=>(∃b,ci X E (dm j ar) b N 1 (dt (fP k)))/\a1 X h j E ar) zG:=by
 refine zB O.todX (CW X) ?_
 rw[CX]
 unfold wq
 have n:=M.len
 rw[C.len]at n
 refine bl ⟨?_⟩
 refine cQ (λm B E aj=>∃(H:Nat) (s:y) (aJ:List Nat),B.g 0=some ax/\B.g 3=some s/\B.g 4=some (.Z (H:Int))/\H+m=k.length/\dc X E s 1 ((fP (k.take H)).map y.str) aJ/\(∀a∈aJ,j<=a/\a<aj)/\a1 X h j E aj)
  k.length ⟨0, .az,[],aK,aK,cA,Zo, .inl ⟨rfl,rfl,rfl⟩,Zs,a1.refl _ _⟩ ?_
 rintro m B ay aL ⟨H,s,aJ,t0,t3,t4,U1,z,f,g⟩
 have U2:=g.le
 have U5:(fP (k.take H)).length<=3000:=by have:=Ip (k.take H) [];simp only[Yq,Z0]at this;unfold fP;omega
 obtain⟨be,w⟩:=ks z Zo (bp:=dm j aL) f
 cases m with
 |zero=>
  have d:=zv H k.length
  rw[Zt Zo]at w
  refine de @t4 @t0 @n @t3 @d ⟨?_⟩
  exact⟨⟨be,w⟩,g⟩
 |succ m=>
  have d:=zw H k.length
  have G:=zz H
  obtain⟨x,T0⟩:=zx k H
  obtain⟨p,L,T8⟩:=C.at_ H x T0
  have Y:=M.cT H (by rw[C.len];omega)
  have Z:=(M.T λa c=>g.T a (T5 a c)).cell H _ 1 (.str x.2.name) T8 rfl
  have T2:k.take (H+1)=k.take H++[x]:=by rw[ZG,T0];rfl
  refine bs @t4 @t0 @t3 @n @d @Y @Z ⟨?_⟩
  refine(rK (j:=aL) (h:=ay) O w).Zm ?_
  rintro N aO aR ⟨rfl,rfl,rfl⟩
  by_cases i:x.2.name∈fP (k.take H)
  ·have t:decide (x.2.name∈fP (k.take H))=true:=by simp[i]
   rw[t]
   refine cn @t4 @G ⟨?_⟩
   refine⟨m,Zo,H+1,s,aJ,an t0,an t3,aK,Zo, ?_,f,g⟩
   rw[T2,yP,Zv i];exact z
  ·have t:decide (x.2.name∈fP (k.take H))=false:=by simp[i]
   rw[t]
   refine dw @t4 @t0 @t3 @n @Y @Z ⟨?_⟩
   generalize v:aS X aO aR _=r
   have T4:J X r aR=zy [.str x.2.name] 1:=by rw[<-v,bb Zo]
   have T1:∀a,a≠aR->J X r a=J X aO a:=λa c=>by rw[<-v,aY Zo c]
   clear v
   obtain⟨TZ,U0,T3,T6,T9,T7,TY⟩:=(show cX X r s 1 ((fP (k.take H)).map y.str) aJ from .inl (z.T λa c=>T1 a (zu (f a c)))).append (j:=aR+1) (o:=1) Zd (hx T4 (dl _) rfl 1) rfl Zd (by rfl) Zx Zo (λa c=>zu (f a c))
   refine eX T6 ?_
   refine cn @t4 @G ⟨?_⟩
   refine⟨m,Zo,H+1,TZ,T3,an t0,aK,aK,Zo, ?_,λa c=> ?_,Zo,λa c=> ?_⟩
   ·rw[T2,yP,Zj i,YF];exact T9
   ·rcases T7 a c with e|e
    ·omega
    ·have:=f a e;omega
   ·rw[TY a Zo (λe=>zu (f a e)),T1 a Zo]
    exact g.T a c
def eZ.front{s:y}{aJ:List Nat}{k:List (Int×bx)}{i:Nat}(e:eZ X h s aJ k)(ak:i<=k.length)(TZ:k.length<=3000)(au:∀T7∈aJ,bp T7):∃P b,il X h 11 s none (some (.Z (i:Int))) none=some P/\∃rows,ci X h bp b P 11 rows/\hj rows (k.take i):=by
 obtain⟨rows,G,g⟩:=e
 have w:=iz g.wide
 have C:=g.len
 obtain⟨b,f⟩:=dc.gO G Zd g.wide Zo au
 have O:hj (rows.take i) (k.take i):=⟨by simp[C],λH x m=>by
  rw[List.getElem?_take]at m ⊢
  split at m
  ·rename_i e
   rw[Zv e];exact g.at_ H x m
  ·cases m⟩
 rcases G with ⟨rfl,t,rfl⟩|⟨p,cj,n,c,rfl,t,rfl,T8,T9,T3,TY⟩
 ·rw[t]at w
  have T2:rows=[]:=Yc (by simp at w;omega)
  subst T2
  have T4:i=0:=by simp at C;omega
  subst T4
  exact⟨.az,b,rfl,[],f,by simpa using O⟩
 ·rw[w]at t
  have T6:n=k.length:=Zo
  subst T6
  have Y:hq (some (.Z (i:Int))) (k.length*11/11) k.length=some i:=by
   rw[Nat.mul_div_cancel _ Zd]
   simp[hq,mD,cN,ak]
  have Z:∀a b:Nat,hq none a b=some b:=λa b=>rfl
  have T0:jK X h p=some (k.length*11):=by simp[jK,T3]
  have T1:Nat.blt 0 11=true:=rfl
  have am:il X h 11 (.cK p 0 k.length 11) none (some (.Z (i:Int))) none=some (.cK p 0 i 11):=by
   simp only[il,T0,gW,YI,Z,Y]
   simp[T1]
  refine⟨_,b,am,rows.take i,⟨λe=>f.ab λl=>e (by rw[l];simp),by have:=f.many;rw[Yq];omega,λr M=>f.wide r (YS M), ?_,λH d=> ?_,λH r o v d T5=> ?_⟩,O⟩
  ·rw[Yq,Nat.min_eq_left Zo];exact ib ..
  ·rw[Yq]at d
   have z:=f.cT H Zo
   rw[oL .i64 Zo]at z
   rw[oL .i64 Zo]
   exact z
  ·rw[List.getElem?_take]at d
   split at d
   ·exact f.cell H r o v d T5
   ·cases d
end
def Ak(k:List bk)(a:bk):ez (k++[a])=ez k++dL a:=by
 induction k with
 |nil=>simp[ez]
 |cons b k V=>rw[YZ,ez,ez,V,List.append_assoc]
def Jf(k:List bk)(i:Nat):(ez (k.take i)).length<=(ez k).length:=by
 induction k generalizing i with
 |nil=>simp[ez]
 |cons b k V=>
  cases i with
  |zero=>simp[ez]
  |succ i=>rw[ZO,ez,ez,ZT,ZT];have:=V i;omega
def Jd{k:List bk}{a:bk}(e:a∈k):(dL a).length<=(ez k).length:=by
 induction k with
 |nil=>cases e
 |cons b k V=>
  rw[ez,ZT]
  rcases Zz.1 e with rfl|e
  ·omega
  ·have:=V e;omega
def Aj(l:bk):0<(dL l).length:=by rw[mL];simp
section
variable{X:bU}{h E cH ay aO:I ae}{j ar aL aR bz:Nat}{bp d2 P:Nat->Prop}
structure jh(X:bU)(h:I ae)(P:Nat->Prop)(am:List bk)(aE:List y):Prop where
 len:aE.length=am.length
 at_:∀(i:Nat) x,am[i]? =some x->∃w,aE[i]? =some w/\da X h P x w
def jh.app{am eu:List bk}{aE c:List y}(e:jh X h P am aE)(b:jh X h P eu c):jh X h P (am++eu) (aE++c):=by
 have d:=e.len
 refine⟨by simp[e.len,b.len],λi x a=> ?_⟩
 by_cases ak:i<am.length
 ·rw[ZA ak]at a
  rw[ZA Zo]
  exact e.at_ i x a
 ·rw[Zy Zo]at a
  rw[Zy Zo,d]
  exact b.at_ _ x a
def jh.one{l:bk}{v:y}(e:da X h P l v):jh X h P [l] [v]:=⟨rfl,λi x a=>by
 cases i with
 |zero=>simp at a;subst a;exact⟨v,rfl,e⟩
 |succ i=>simp at a⟩
def jh.cR{am:List bk}{aE:List y}(e:jh X h P am aE):Go.S.cR aE=true:=by
 have f:∀v∈aE,d9 v=true:=λv c=>by
  obtain⟨i,ak,rfl⟩:=ze.1 c
  have p:=e.len
  obtain⟨w,g,n⟩:=e.at_ i (am[i]'Zo) (Ze _)
  rw[Ze ak]at g
  rw[Yd g]
  obtain⟨b,_,_,_,rfl,_⟩:=n.open
  rfl
 clear e
 induction aE with
 |nil=>rfl
 |cons a k V=>
  have m:=f a (Zl ..)
  have d:=V λv c=>f v (Zi _ c)
  simp[Go.S.cR,m,d]at d ⊢
set_option maxRecDepth 100000 in
def En(U4:dU X){fy:I ae}:∀(bW:Nat) (l:bk) (v:y) (h:I ae) (j:Nat),(dL l).length<=bW->bW<=500000->(u X).aP<=j->da X fy P l v->(∀c,P c->c<j)->(∀c,P c->J X h c=J X fy c)->
 aN X 116 [v] h j (λN E ar=>(∃aE aJ,dc X E N 1 aE aJ/\jh X fy P (dL l) aE/\∀c∈aJ,j<=c/\c<ar)/\a1 X h j E ar) zG:=by
 intro bW
 induction bW with
 |zero=>intro l v h j e;have:=Aj l;omega
 |succ bW V=>
 intro l v h j U3 UZ Uf T5 x O
 refine zB U4.todX (BK X) ?_
 rw[BL]
 unfold vF
 have G:=da.T O l v T5
 obtain⟨b,ax,bO,Uj,rfl,ab,a0,aH,aZ,a3,a4,a5,dY,d3,dE,Z,has⟩:=G.1.root (by have:=G.2;rw[hD.eq]at this;exact this.1)
 have UD:=x b ab
 have Y:=Z.len
 have UG:=Z.many
 have UE:=has.len
 rw[Zn,UE]at Y UG
 rw[mL,ZC]at U3
 refine bG @nQ ⟨?_⟩
 generalize z:aS X h j _=r
 have U1:J X r j=zy [.ptr b 0] 1:=by rw[<-z,bb Zo]
 have UN:∀c,c≠j->J X r c=J X h c:=λc f=>by rw[<-z,aY Zo f]
 clear z
 obtain⟨UU,T9,T3,U7,UI,UA,UO⟩:=(show cX X r .az 1 [] [] from .inl (.inl ⟨rfl,rfl,rfl⟩)).append (j:=j+1) (o:=1) Zd (hx U1 (dl _) rfl 1) rfl Zd (by rfl) Zs Zo (λc f=>by cases f)
 refine eX U7 ?_
 have U2:a1 X h j T9 (j+1+1):=⟨Zo,λc f=>by rw[UO c Zo Zs,UN c Zo]⟩
 have UB:∀c∈T3,j<=c/\c<j+1+1:=λc f=>by
  rcases UA c f with e|e
  ·omega
  ·cases e
 refine bl ⟨?_⟩
 refine cQ (λm B E aj=>∃(i:Nat) (s:y) (aE:List y) (aJ:List Nat),B.g 0=some (.ptr b 0)/\B.g 3=some s/\B.g 4=some (.Z (i:Int))/\i+m=l.args.length/\dc X E s 1 aE aJ/\jh X fy P (l::ez (l.args.take i)) aE/\(∀c∈aJ,j<=c/\c<aj)/\a1 X h j E aj)
  l.args.length ⟨0,UU,[.ptr b 0],T3,aK,aK,cA,Zo,by simpa using UI,by simpa[ez]using jh.one T5,UB,U2⟩ ?_
 rintro m B t UQ ⟨i,s,aE,aJ,t0,t3,t4,ak,T6,p,n,g⟩
 have Ud:=g.le
 have T1:W X t (.ptr b 8)=some ax:=by rw[g.cZ _ _ UD];exact dE
 cases m with
 |zero=>
  have d:=zv i l.args.length
  rw[Zt Zo, <-mL]at p
  refine dw @t4 @t0 @T1 @Y @t3 @d ⟨?_⟩
  exact⟨⟨aE,aJ,T6,p,n⟩,g⟩
 |succ m=>
  have d:=zw i l.args.length
  have U0:=zz i
  obtain⟨a,C⟩:=zx l.args i
  have T4:=Zg C
  have Ua:=Jd T4
  obtain⟨T2,U9,U5⟩:=has.get i a C
  have T8:∀c,P c->J X t c=J X h c:=λc f=>g.T c (x c f)
  obtain⟨US,UT,Ui⟩:=(Z.T T8).one U9
  have UH:hD a:=by have:=G.2;rw[hD.eq]at this;exact this.2.get a T4
  have U6:da X fy P a T2:=⟨bT.to (λc f=>(O c f).symm) (λ_ e=>e) _ _ U5,UH⟩
  have T7:l.args.take (i+1)=l.args.take i++[a]:=by rw[ZG,C];rfl
  have UM:=Jf l.args (i+1)
  rw[T7,Ak,ZT]at UM
  refine bs @t4 @t0 @t3 @T1 @Y @d (Za @US @UT) ⟨?_⟩
  refine(V a T2 t UQ Zo Zo Zo U6 (λc f=>zu (x c f)) (λc f=>by rw[T8 c f,O c f])).Zm ?_
  rintro N TY UR ⟨⟨UW,UY,UJ,T0,Ub⟩,w⟩
  have Ue:=w.le
  obtain⟨gv,Ug,UL⟩:=UJ.src
  have Uc:=T0.len
  have UF:=p.len
  have Uh:=Aj a
  rw[ZC]at UF
  obtain⟨UV,UX,TZ,U8,UK,UC,UP⟩:=(show cX X TY s 1 aE aJ from .inl (T6.T λc f=>w.T c (zu (n c f)))).append (j:=UR) (o:=gv) Zd UL Zo Zo T0.cR Zo Zo (λc f=>zu (n c f))
  refine eX U8 ?_
  refine cn @t4 @U0 ⟨?_⟩
  refine⟨m,Zo,i+1,UV,aE++UW,TZ,an t0,aK,aK,Zo,UK, ?_,λc f=> ?_,Zo,λc f=> ?_⟩
  ·rw[T7,Ak, <-YZ];exact p.app T0
  ·rcases UC c f with e|e
   ·omega
   ·have:=n c e;omega
  ·rw[UP c Zo (λe=>zu (n c e)),w.T c Zo]
   exact g.T c f
end
def ev{α:Type}(f:α->Int×Int):List α->Int×Int
 |[]=>(0,0)
 |x::k=>if (f x).1≠0 then f x else ev f k
def tL{α:Type}{f:α->Int×Int}{k:List α}(e:∀x∈k,(f x).1=0):ev f k=(0,0):=by
 induction k with
 |nil=>rfl
 |cons a k V=>
  unfold ev
  rw[Zj (zu (e a (Zl ..))),V λx b=>e x (Zi _ b)]
def tK{α:Type}{f:α->Int×Int}{k:List α}{H:Nat}{x:α}(b:k[H]? =some x)(e:∀c∈k.take H,(f c).1=0)(d:(f x).1≠0):ev f k=f x:=by
 induction k generalizing H with
 |nil=>simp at b
 |cons a k V=>
  unfold ev
  cases H with
  |zero=>
   simp at b
   subst b
   rw[Zv d]
  |succ H=>
   rw[Zj (zu (e a Zs))]
   exact V (by simpa using b) λc g=>e c (by rw[ZO];exact Zi _ g)
def tO(aE:List y):(aE.map λv=>[v]).flatten=aE:=by
 induction aE with
 |nil=>rfl
 |cons a k V=>rw[ZS,Z9,V];rfl
def ef(k:List (Int×bx))(U:List Go.a8.Node)(o:Nat)(x:bk):Int×Int:=
 if x.kind=2\/x.kind=6\/x.kind=24 then(if (en k x.name).isSome then(0,0)else(23,x.at_))
 else if x.kind=25 then(if (el U x.name).isSome then(if (o:Int)<=(((el U x.name).getD 0:Nat):Int)then(25,x.at_)else(0,0))else(23,x.at_))
 else(0,0)
section
variable{X:bU}{h E cH ay aO:I ae}{j ar aL aR bz:Nat}{bp d2 P bn:Nat->Prop}
set_option maxRecDepth 100000 in
def JJ(T1:dU X){U:List Go.a8.Node}{k:List (Int×bx)}{rows:List (List y)}{p v ax:y}{Uy o:Nat}{l:bk}(Ul:(u X).aP<=j)(Uk:gf X h P U p)(U7:∀a,P a->a<j)
 (M:ci X h bn Uy ax 11 rows)(Ur:hj rows k)(UT:∀a,bn a->a<j)(Uj:da X h P l v)(Uw:(dL l).length<=300000):
 aN X 88 [p, .Z (o:Int),ax,v] h j (λN E ar=>N= .agg [.Z (ev (ef k U o) (dL l)).1, .Z (ev (ef k U o) (dL l)).2]/\a1 X h j E ar) zG:=by
 refine zB T1.todX (DA X) ?_
 rw[DB]
 unfold wM
 refine hI ?_
 generalize UK:aS X h j _=ay
 have UG:∃c,J X ay j=some (.cells c 2 .own):=⟨_,by rw[<-UK,bb Ul];rfl⟩
 have US:a1 X h j ay (j+1):=by rw[<-UK];exact dG
 clear UK
 obtain⟨C,UG⟩:=UG
 refine(En (P:=P) T1 (fy:=h) 300000 l v ay (j+1) Uw Zo Zo Uj (λa f=>zu (U7 a f)) (λa f=>US.T a (U7 a f))).Zm ?_
 rintro N aO aR ⟨⟨aE,aJ,Uq,UY,Ui⟩,UJ⟩
 have V5:=UJ.le
 have Us:=UY.len
 obtain⟨b9,UX⟩:=dc.gO (rows:=aE.map λv=>[v]) (P:=dm (j+1) aR) (by rw[tO];exact Uq) Zd (λr M=>by obtain⟨w,_,rfl⟩:=ZB.1 M;rfl) (by rw[Zn];omega) Ui
 have U0:=UX.len
 rw[Zn,Us]at U0
 have Uc:J X aO j=some (.cells C 2 .own):=by rw[UJ.T _ Zo];exact UG
 have Uf:a1 X h j aO aR:=US.trans UJ
 refine bl ⟨?_⟩
 refine cQ (λm B E aj=>∃(i:Nat),B.g 0=some p/\B.g 1=some (.Z (o:Int))/\B.g 2=some ax/\B.g 8=some (.ptr j 0)/\B.g 9=some N/\B.g 10=some (.Z (i:Int))/\i+m=(dL l).length/\a1 X aO aR E aj/\∀x∈(dL l).take i,(ef k U o x).1=0)
  (dL l).length ⟨0,aK,aK,aK,aK,aK,cA,Zo,a1.refl _ _,Zs⟩ ?_
 rintro m B T4 U3 ⟨i,t0,U4,T8,T3,t9,T7,ak,T0,U8⟩
 have V6:=T0.le
 have UH:J X T4 j=some (.cells C 2 .own):=by rw[T0.T _ Zo];exact Uc
 have Z:=Uf.trans (T0.jC Zo)
 have ret:∀(E:I ae) (aj:Nat) (x:bk),(dL l)[i]? =some x->(ef k U o x).1≠0->a1 X h j E aj->y.agg [.Z (ef k U o x).1, .Z (ef k U o x).2]= .agg [.Z (ev (ef k U o) (dL l)).1, .Z (ev (ef k U o) (dL l)).2]/\a1 X h j E aj:=λE aj x T2 ab UI=>⟨by rw[tK T2 U8 ab],UI⟩
 cases m with
 |zero=>
  have d:=zv i (dL l).length
  rw[Zt Zo]at U8
  refine bs @T7 @t9 @U0 @d @T3 @fl @fm ⟨?_⟩
  exact⟨by rw[tL U8],Zo,λa f=>by rw[aY Zo Zo];exact Z.T a f⟩
 |succ m=>
  have d:=zw i (dL l).length
  have UF:=zz i
  obtain⟨x,T2⟩:=zx (dL l) i
  obtain⟨V3,Uv,Uu⟩:=UY.at_ i x T2
  obtain⟨UN,UO,VA⟩:=(UX.T λa f=>T0.T a f.2).one Uv
  have UZ:∀E aj,a1 X h j E aj->∀a,P a->J X E a=J X h a:=λE aj UI a f=>UI.T a (U7 a f)
  obtain⟨U5,_,_,_,rfl,Ut,UA,UP,UQ,_⟩:=(da.T (UZ T4 U3 Z) x V3 Uu).open
  have V8:=U7 U5 Ut
  have next:(ef k U o x).1=0->∀a∈(dL l).take (i+1),(ef k U o a).1=0:=λe=>hY T2 U8 e
  by_cases UL:x.kind=2\/x.kind=6\/x.kind=24
  ·have TY:decide (x.kind=25)=false:=zJ
   have step:∀(UB UD UC:Bool),decide (x.kind=2)=UB->decide (x.kind=6)=UD->decide (x.kind=24)=UC->(UB||UD||UC)=true:=λUB UD UC G Y O=>by rw[<-G, <-Y, <-O];simp only[Yx,Zc];omega
   have go:aN X 58 [ax, .str x.name] T4 U3 (λN E ar=>(∃(row:List y) (o:Int),N= .tuple [.agg row, .bool (en k x.name).isSome]/\(∃rest,row= .Z o::rest/\rest.length=10)/\Go.S.cR row=true/\((en k x.name).isSome=true->en k x.name=some o))/\a1 X T4 U3 E ar) zG:=
    tV T1 Zo (M.T λa f=>Z.T a (UT a f)) Ur (λa f=>zu (UT a f))
   have s:ef k U o x=if (en k x.name).isSome then(0,0)else(23,x.at_):=by unfold ef;rw[Zv UL]
   cases G:decide (x.kind=2)<;>cases Y:decide (x.kind=6)<;>cases O:decide (x.kind=24)
   case false.false.false=>have:=step _ _ _ G Y O;cases this
   all_goals
    refine bs @T7 @t9 @T8 @U0 @d @UN (Za @UO (Za @UA (Za @UQ (Za @G (Za @Y @O))))) ⟨?_⟩
    refine go.Zm ?_
    rintro Ux z t ⟨⟨row,V9,rfl,⟨rest,Up,Uo⟩,Um,V4⟩,T6⟩
    have V7:=T6.le
    have Ug:=Z.trans (T6.jC Zo)
    have Ud:J X z j=some (.cells C 2 .own):=by rw[T6.T _ Zo];exact UH
    have Uz:W X z (.ptr U5 0)=some (.Z x.kind):=by rw[T6.cZ _ _ Zo];exact UA
    have V1:W X z (.ptr U5 1)=some (.Z x.at_):=by rw[T6.cZ _ _ Zo];exact UP
    have Un:(y.agg row).cells.length=11:=by rw[Up];simp[y.cells,Uo]
    refine bl ⟨?_⟩
    refine cD (e8 (o:=11) (b:=t) (D:=0) (n:=11) (v:= .agg row) (bb Zo) Zo Un Zd Zd Um) ?_
    generalize UU:aS X _ t _=T5
    have U2:∀a,a<t->J X T5 a=J X z a:=λa f=>by rw[<-UU];exact zA
    clear UU
    have Uh:a1 X h j T5 (t+1):=⟨Zo,λa f=>by rw[U2 a Zo];exact Ug.T a f⟩
    have Ue:J X T5 j=some (.cells C 2 .own):=by rw[U2 _ Zo];exact Ud
    have V0:W X T5 (.ptr U5 0)=some (.Z x.kind):=zF (U2 _ Zo) Uz
    have V2:W X T5 (.ptr U5 1)=some (.Z x.at_):=zF (U2 _ Zo) V1
    cases TZ:(en k x.name).isSome with
    |true=>
     rw[TZ]at s
     refine cP @V0 @TY @T7 @UF ⟨?_⟩
     exact⟨m,Zo,i+1,an t0,an U4,an T8,an T3,an t9,aK,Zo,⟨Zo,λa f=>by rw[U2 a Zo,T6.T a Zo];exact T0.T a f⟩,next (by rw[s];rfl)⟩
    |false=>
     rw[TZ]at s
     have U1:ef k U o x=(23,x.at_):=s
     refine bG @V2 ⟨?_⟩
     refine(jn (j:=t+1) (h:=T5) T1 23 x.at_ Zo).Zm ?_
     rintro Ub T9 Ua ⟨rfl,g⟩
     have UV:=g.le
     have UR:J X T9 j=some (.cells C 2 .own):=by rw[g.T _ Zo];exact Ue
     refine cz @T3 @fl @fm ⟨?_⟩
     have:=ret _ _ x T2 (by rw[U1];show(23:Int)≠0;decide) (a1.refl h j)
     rw[U1]at this
     exact⟨this.1,Zo,λa f=>by rw[aY Zo Zo,g.T a Zo];exact Uh.T a f⟩
  ·have G:decide (x.kind=2)=false:=zJ
   have Y:decide (x.kind=6)=false:=zJ
   have O:decide (x.kind=24)=false:=zJ
   by_cases U6:x.kind=25
   ·have TY:decide (x.kind=25)=true:=by simp[U6]
    have s:ef k U o x=if (el U x.name).isSome then(if (o:Int)<=(((el U x.name).getD 0:Nat):Int)then(25,x.at_)else(0,0))else(23,x.at_):=by unfold ef;rw[Zj UL,Zv U6]
    refine bs @T7 @t9 @T8 @U0 @d @UN (Za @UO (Za @UA (Za @UQ (Za @G (Za @Y (Za @O (Za @TY @t0))))))) ⟨?_⟩
    refine(xO (j:=U3) (h:=T4) T1 (Uk.T (UZ T4 U3 Z) λ_ e=>e)).Zm ?_
    rintro Ux z t ⟨rfl,rfl,rfl⟩
    cases TZ:(el U x.name).isSome with
    |false=>
     rw[TZ]at s
     have U1:ef k U o x=(23,x.at_):=s
     refine bG @UP ⟨?_⟩
     refine(jn (j:=t) (h:=z) T1 23 x.at_ Zo).Zm ?_
     rintro Ub T9 Ua ⟨rfl,g⟩
     have UV:=g.le
     have UR:J X T9 j=some (.cells C 2 .own):=by rw[g.T _ Zo];exact UH
     refine cz @T3 @fl @fm ⟨?_⟩
     have:=ret _ _ x T2 (by rw[U1];show(23:Int)≠0;decide) (a1.refl h j)
     rw[U1]at this
     exact⟨this.1,Zo,λa f=>by rw[aY Zo Zo,g.T a Zo];exact Z.T a f⟩
    |true=>
     rw[TZ]at s
     by_cases U9:(o:Int)<=(((el U x.name).getD 0:Nat):Int)
     ·have UE:decide ((o:Int)<=(((el U x.name).getD 0:Nat):Int))=true:=by simp only[Zc];exact U9
      have UW:ef k U o x=(25,x.at_):=by rw[s];simp only[ZP];rw[Zv U9]
      refine cz @U4 @UE @UP ⟨?_⟩
      refine(jn (j:=t) (h:=z) T1 25 x.at_ Zo).Zm ?_
      rintro Ub T9 Ua ⟨rfl,g⟩
      have UV:=g.le
      have UR:J X T9 j=some (.cells C 2 .own):=by rw[g.T _ Zo];exact UH
      refine cz @T3 @fl @fm ⟨?_⟩
      have:=ret _ _ x T2 (by rw[UW];show(25:Int)≠0;decide) (a1.refl h j)
      rw[UW]at this
      exact⟨this.1,Zo,λa f=>by rw[aY Zo Zo,g.T a Zo];exact Z.T a f⟩
     ·have UE:decide ((o:Int)<=(((el U x.name).getD 0:Nat):Int))=false:=by simp only[Zb];exact U9
      have UM:ef k U o x=(0,0):=by rw[s];simp only[ZP];rw[Zj U9]
      refine cP @U4 @UE @T7 @UF ⟨?_⟩
      exact⟨m,Zo,i+1,an t0,an U4,an T8,an T3,an t9,aK,Zo,T0,next (by rw[UM])⟩
   ·have TY:decide (x.kind=25)=false:=by simp[U6]
    have UM:ef k U o x=(0,0):=by unfold ef;rw[Zj UL,Zj U6]
    refine bs @T7 @t9 @T8 @U0 @d @UN (Za @UO (Za @UA (Za @UQ (Za @G (Za @Y (Za @O (Za @TY @UF))))))) ⟨?_⟩
    exact⟨m,Zo,i+1,an t0,an U4,an T8,an T3,an t9,aK,Zo,T0,next (by rw[UM])⟩
end
def tR{α:Type}{st:Int×Int->α->Int×Int}{aw:α->Int×Int}(c:∀f x,f.1≠0->st f x=f)(b:∀x,st (0,0) x=aw x)(d:∀x,(aw x).1=0->aw x=(0,0)):∀(k:List α),k.foldl st (0,0)=ev aw k:=by
 intro k
 induction k with
 |nil=>rfl
 |cons a k V=>
  rw[ZU,b,ev]
  by_cases e:(aw a).1=0
  ·rw[d a e,Zj Zs,V]
  ·rw[Zv e]
   exact nt c k (aw a) e
def tM{α:Type}{aw:α->Int×Int}(b:∀x,(aw x).1=0->aw x=(0,0)):∀(k:List α),(ev aw k).1=0->ev aw k=(0,0):=by
 intro k
 induction k with
 |nil=>intro _;rfl
 |cons a k V=>
  unfold ev
  split
  ·intro e;exact b a e
  ·exact V
def uQ{k:List (Int×bx)}{U:List Go.a8.Node}{o:Nat}(x:bk):(ef k U o x).1=0->ef k U o x=(0,0):=by
 unfold ef
 split
 ·split
  ·intro _;rfl
  ·intro e;exact absurd e (by show(23:Int)≠0;decide)
 ·split
  ·split
   ·split
    ·intro e;exact absurd e (by show(25:Int)≠0;decide)
    ·intro _;rfl
   ·intro e;exact absurd e (by show(23:Int)≠0;decide)
  ·intro _;rfl
def K2(g:Go.a8.Node)(w:aW):(cV g w).isSome=(en (bi g) w).isSome:=by
 rw[<-ve];cases cV g w<;>rfl
def J1(g:Go.a8.Node)(U:List Go.a8.Node)(o:Nat)(x:bk):(g9 (cV g) U o (0,0) x).1=ef (bi g) U o x:=by
 have f:∀c a:Int,fe (0,0) c a=(c,a):=λc a=>oD rfl c a
 unfold g9 jH mN ef
 by_cases m:x.kind=2\/x.kind=6\/x.kind=24
 ·have b:¬x.kind=25:=Zo
  have d:kl x=true:=by unfold kl;simp only[Yx,Zc];omega
  simp only[Zv m,Zj b,K2,f,Zv d]
 ·have d:¬kl x=true:=by unfold kl;simp only[Yx,Zc];omega
  simp only[Zj m,f,Zj d]
  by_cases b:x.kind=25
  ·simp only[Zv b]
   cases el U x.name with
   |none=>simp
   |some H=>
    by_cases i:o<=H
    ·simp[i]
    ·have:¬(o:Int)<=(H:Int):=Zo
     simp[i]
  ·simp only[Zj b]
def JL(g:Go.a8.Node)(U:List Go.a8.Node)(o:Nat)(l:bk):o1 (cV g) U o (0,0) l=ev (ef (bi g) U o) (dL l):=by
 rw[Aw]
 exact tR (λf x e=>Az _ _ _ _ _ e) (λx=>J1 g U o x) uQ _
end
end Go.Proofs.YtmipngjbcdamjaaGreatDoor

