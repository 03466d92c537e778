/- Part of the proof of the last text; no conditions -/
import Derived.Test.YtehmapikajmjaaaGreatDoorYg
import Derived.Test.YtehmapikajmjaaaGreatDoorProg
set_option maxHeartbeats 8000000
set_option linter.all false
namespace Go.Proofs.YtehmapikajmjaaaGreatDoor
open Go.aF
noncomputable section
structure bi where
 G:E S
 aB:Nat
 O:Nat->List z->Option z
noncomputable def y(a:bi):al:=⟨Tryz.prog,a.G,a.aB,a.O,Tryz.prog.globals.size⟩
instance:Coe bi al:=⟨y⟩
section
variable (X : bi) (a : E S) (b : Nat) (T ab : aY) (a0 aL bt a3 a4 a5 fq fV f9 : z)
abbrev fL(v a:z)(b:E S)(n:Nat)(k:aY):Prop:=iY k λc=>e8 true v (c a b n) (c aF.undef b n)
abbrev d7(v a:z)(b:E S)(n:Nat)(k:aY):Prop:=iY k λc=>e8 false v (c a b n) (c aF.undef b n)
abbrev cR(v:z)(I:Option z)(a:E S)(n:Nat)(k:aY):Prop:=iY k λb=>e8 true v (aa I λc=>b c a n) (b aF.undef a n)
abbrev dc(v:z)(I:Option z)(a:E S)(n:Nat)(k:aY):Prop:=iY k λb=>e8 false v (aa I λc=>b c a n) (b aF.undef a n)
abbrev hE(v:z)(I:Option z)(a:E S)(n:Nat)(k:aY):Prop:=iY k λb=>e8 true v (bu I λc=>b c a n) (b aF.undef a n)
abbrev lb(v:z)(I:Option z)(a:E S)(n:Nat)(k:aY):Prop:=iY k λb=>e8 false v (bu I λc=>b c a n) (b aF.undef a n)
abbrev wQ(v:z)(I:Option z)(V:z->Option z)(a:E S)(n:Nat)(k:aY):Prop:=iY k λb=>e8 true v (bu I λc=>aa (V c) λd=>b d a n) (b aF.undef a n)
abbrev Gs(v:z)(I:Option z)(V:z->Option z)(a:E S)(n:Nat)(k:aY):Prop:=iY k λb=>e8 false v (bu I λc=>aa (V c) λd=>b d a n) (b aF.undef a n)
abbrev gM(v:z)(g:aY->Prop)(a:E S)(n:Nat)(k:aY):Prop:=iY k λb=>e8 true v (g b) (b aF.undef a n)
abbrev hD(v:z)(g:aY->Prop)(a:E S)(n:Nat)(k:aY):Prop:=iY k λb=>e8 false v (g b) (b aF.undef a n)
abbrev wO(v a:z)(b:E S)(k:z->E S->Prop):Prop:=mi k λc=>e8 false v (c a b) (c aF.undef b)
abbrev gc(v:z)(I:Option z)(a:E S)(k:z->E S->Prop):Prop:=mi k λb=>e8 true v (aa I λc=>b c a) (b aF.undef a)
abbrev m5(v:z)(I:Option z)(a:E S)(k:z->E S->Prop):Prop:=mi k λb=>e8 false v (aa I λc=>b c a) (b aF.undef a)
abbrev sR(v:z)(I:Option z)(a:E S)(k:z->E S->Prop):Prop:=mi k λb=>e8 true v (bu I λc=>b c a) (b aF.undef a)
abbrev AB(v:z)(I:Option z)(a:E S)(k:z->E S->Prop):Prop:=mi k λb=>e8 false v (bu I λc=>b c a) (b aF.undef a)
abbrev wP(v:z)(I:Option z)(V:z->Option z)(a:E S)(k:z->E S->Prop):Prop:=mi k λb=>e8 true v (bu I λc=>aa (V c) λd=>b d a) (b aF.undef a)
abbrev Gr(v:z)(I:Option z)(V:z->Option z)(a:E S)(k:z->E S->Prop):Prop:=mi k λb=>e8 false v (bu I λc=>aa (V c) λd=>b d a) (b aF.undef a)
abbrev wN(v:z)(g:(z->E S->Prop)->Prop)(a:E S)(k:z->E S->Prop):Prop:=mi k λb=>e8 false v (g b) (b aF.undef a)
abbrev cS(h0)(h1:z)(h2:al)(h3:(E S))(k:z->z->Prop):=aa (es h0 h1) λa=>aa (ay h2 h3 a) λb=>k a b
abbrev c1(h0:bS)(h1)(h3)(k:z->z->Prop):=bu (h0 h1) λa=>bu (h0 h3) λb=>k a b
abbrev nr(h4:Nat)(h5:al)(h6:(E S))(k:z->(E S)->Nat->Prop):=aa (fX [.Z 0,.str [],.Z 0,.int .u64 0,.zT,.zT,.Z 0] h4) λa=>dQ h5 h6 h4 a.1 a.2 k
abbrev c9(h0:bS)(h1)(k:z->Prop):=bu (h0 h1) λa=>aa (aK .add a (.Z 1)) k
abbrev dC(h0:z)(h1)(h2:al)(h3:(E S))(k:z->z->Prop):=aa (ht h0) λa=>cS h1 a h2 h3 k
abbrev eG(h1:z)(k:z->z->Prop):=aa (hZ 0 h1) λa=>aa (hZ 1 h1) λb=>k a b
abbrev dD(h0:bS)(h1)(h2)(k:z->Prop):=c1 h0 h1 h2 λa b=>aa (aK .lss a b) k
abbrev fS(h1:z)(h2:z)(h3:al)(h4:(E S))(k:z->Prop):=aa (c8 1 h1 h2) λa=>aa (ay h3 h4 a) k
abbrev jL(h0:bS)(h1)(h2:al)(h3:(E S))(h4)(h5:z)(k:(E S)->z->Prop):=bu (h0 h1) λa=>aa (cW h2 h3 h4 a h5) λb=>bu (h0 h1) λc=>aa (ca h2 b h4 c) λd=>k b d
abbrev og(h1:z)(h2:z)(h3:al)(h4:(E S))(h7:Nat)(k:z->Nat->(E S)->Prop):=aa (c8 6 h1 h2) λa=>aa (ca h3 h4 6 a) λb=>aa (fX [.str [],.Z 0,.ax,.ax,.ax,.ax] h7) λc=>dQ h3 h4 h7 c.1 c.2 λd e f=>aa (cW h3 e 6 d b) λg=>k d f g
abbrev tt(h0:z)(h7:Nat)(h8:al)(h9:(E S))(k:z->z->Nat->(E S)->Prop):=eG h0 λa b=>aa (fX [.Z 0,.str [],.Z 0,.zT,.zT,.Z 0,.str [],.Z 0,.zT,.Z 0,.Z 0] h7) λc=>dQ h8 h9 h7 c.1 c.2 λd e f=>aa (cW h8 e 11 d a) λg=>k b d f g
abbrev gB(h0:z)(h1)(k:z->Prop):=aa (ht h0) λa=>aa (es h1 a) k
abbrev kL(h0:z)(h1)(h2:z)(h3:(E S))(h4:Nat)(h6:al)(k:z->(E S)->Nat->Prop):=dc h0 (es h1 h2) h3 h4 λa b c=>dc h0 (ay h6 b a) b c k
abbrev kM(h3)(h4:Nat)(h5:al)(h6:(E S))(h10:z)(h11:aY)(k:z->(E S)->Nat->Prop):=aa (ea 1 [.str []] [(0,1,.str [h3])] h4) λa=>dQ h5 h6 h4 a.1 a.2 λb c d=>aD h5 66 [h10,b] c d k h11
abbrev jf(h0:bS)(h1)(h2)(k:z->Prop):=bu (h0 h1) λa=>aa (aK .eql a (.Z h2)) k
abbrev rU(h3:Nat)(h4:al)(h5:(E S))(k:z->(E S)->Nat->Prop):=aa (fX [.str [],.Z 0,.zT,.zT,.Z 0,.str [],.Z 0,.zT] h3) λa=>dQ h4 h5 h3 a.1 a.2 k
abbrev gg(h0:bS)(h1)(h2:al)(h3:(E S))(k:z->Prop):=bu (h0 h1) λa=>aa (ay h2 h3 a) k
abbrev kN(h0:z)(h1)(h2:z)(h3:(E S))(h4:Nat)(h6:al)(k:z->(E S)->Nat->Prop):=cR h0 (es h1 h2) h3 h4 λa b c=>cR h0 (ay h6 b a) b c k
abbrev cN(h0:bS)(k:z->Prop):=bu (h0 0) k
abbrev oh(h2:Nat)(h3:al)(h4:(E S))(k:z->(E S)->Nat->Prop):=aa (fX [.Z 0,.Z 0] h2) λa=>dQ h3 h4 h2 a.1 a.2 k
abbrev ec(h0:z)(h1)(k:z->ds->Prop):=aa (c0 h0) λa=>aJ h1 λb=>k a b
abbrev mz(h0:Nat)(h1:al)(h2:(E S))(h5:z)(k:z->Nat->(E S)->Prop):=nr h0 h1 h2 λa b c=>aa (cW h1 b 7 a h5) λd=>k a c d
abbrev rV(h1:z)(h2:z)(h3:al)(h4:(E S))(h7:Nat)(k:z->Nat->(E S)->Prop):=aa (c8 4 h1 h2) λa=>aa (ca h3 h4 4 a) λb=>aa (fX [.ax,.ax,.Z 0,.bH] h7) λc=>dQ h3 h4 h7 c.1 c.2 λd e f=>aa (cW h3 e 4 d b) λg=>k d f g
abbrev fd(h0:bS)(h1)(h2)(h3:al)(h4:(E S))(k:z->z->Prop):=bu (h0 h1) λa=>cS h2 a h3 h4 k
abbrev iK(h1)(k:z->Prop):=aa (some (z.iface 205 (.Z h1))) k
abbrev rW(h0:z)(h1:z)(h2:(E S))(h3:Nat)(h6:al)(h8)(k:z->(E S)->Nat->Prop):=dc h0 (ht h1) h2 h3 λa b c=>kL h0 0 a b c h6 λd e f=>dc h0 (aK .eql d (.Z h8)) e f k
abbrev jg(h0:z)(h1)(h2:ds)(k:z->ds->Prop):=aa (aK .eql h0 (.Z h1)) λa=>aJ h2 λb=>k a b
abbrev gl(h0:al)(h1:(E S))(h3:z)(h4:z)(k:(E S)->Prop):=aa (cW h0 h1 1 h3 h4) k
abbrev h0(h0)(h1:bS)(h2)(h3)(h4:al)(h5:(E S))(k:ds->z->Prop):=aJ h0 λa=>c1 h1 h2 h3 λb c=>fS b c h4 h5 λd=>k a d
abbrev pM(h0:z)(h1:bS)(h2)(h3:(E S))(h6)(h8:al)(k:z->(E S)->Prop):=sR h0 (h1 h2) h3 λa b=>gc h0 (ht a) b λc d=>gc h0 (es h6 c) d λe f=>gc h0 (ay h8 f e) f k
abbrev kO(h0:z)(k:z->Prop):=aa (aK .sub h0 (.Z 1)) k
abbrev h1(h0:bS)(h1)(h2:al)(h3:(E S))(k:z->z->z->Prop):=cN h0 λa=>dC a h1 h2 h3 λb c=>k a b c
abbrev jK(h0:al)(h1:(E S))(h2)(h3:z)(h5)(h7:Nat)(h8:aY)(k:z->(E S)->Nat->Prop):=aa (ca h0 h1 h2 h3) λa=>aD h0 h5 [a] h1 h7 k h8
abbrev vp(h6:Nat)(h7)(h8:al)(h9:(E S))(k:z->(E S)->Prop):=aa (fX [.Z 0,.str [],.Z 0,.zT,.zT,.Z 0,.str [],.Z 0,.zT,.Z 0,.Z 0] (h6+h7)) λa=>hb h8 h9 (h6+h7) a.1 a.2 k
abbrev oi(h0:al)(h1:(E S))(h2:Nat)(h3)(h4)(h6)(h7:z)(k:z->(E S)->Nat->Prop):=dQ h0 h1 h2 h3 h4 λa b c=>ek (eV h0 b c h6 h7 a) b c k
abbrev vq(h4)(h7:z)(k:z->Prop):=aa (dl [.Z 0,.Z 0] [(0,1,.Z h4),(1,1,h7)]) k
abbrev vr(h0:Nat)(h1:al)(h2:(E S))(h5:z)(h8)(k:z->Nat->(E S)->z->Prop):=oh h0 h1 h2 λa b c=>aa (cW h1 b 2 a h5) λd=>cS 0 a h1 d λe f=>aa (aK .neq f (.Z h8)) λg=>k a c d g
abbrev oj(h0:bS)(h1)(h2)(h4)(h5:al)(h6:(E S))(k:z->z->z->Prop):=c1 h0 h1 h2 λa b=>aa (c8 3 b (.Z h4)) λc=>aa (ca h5 h6 3 c) λd=>k a c d
abbrev tu(h0:bS)(h1)(h2)(h4:al)(h5:(E S))(h7:Nat)(k:z->Nat->(E S)->Prop):=c1 h0 h1 h2 λa b=>aa (c8 8 a b) λc=>aa (ca h4 h5 8 c) λd=>rU h7 h4 h5 λe f g=>aa (cW h4 f 8 e d) λh=>k e g h
abbrev ol(h0:bS)(h1)(k:z->Prop):=cN h0 λa=>aa (hJ a (some (.Z h1)) none) k
abbrev ns(h0:z)(k:z->Prop):=aa (aK .add h0 (.Z 1)) k
abbrev eX(h0:bS)(k:z->Prop):=bu (h0 4) k
abbrev x4(h0:al)(h1:(E S))(h9:z)(h10:z)(k:z->Prop):=aa (fb h0 h1 9 (.agg [.Z 0,.str [],.Z 0,.zT,.zT,.Z 0,.str [],.Z 0,.zT,.Z 0,.Z 0]) h9 h10 true) k
abbrev mA(h0:z)(k:z->Prop):=aa (aK .geq h0 (.Z 0)) k
abbrev f6(h0:al)(h1:(E S))(h3:z)(k:z->Prop):=aa (ca h0 h1 3 h3) k
abbrev kP(h0:al)(h1:(E S))(h3:z)(h4)(k:(E S)->Prop):=aa (cW h0 h1 1 h3 (.Z h4)) k
abbrev x5(h0:Nat)(h2:z)(h4:al)(h5:(E S))(h8:z)(h10:aY)(k:z->Nat->z->(E S)->z->Prop):=cU (h0+12) λa=>dC h2 8 h4 h5 λb c=>aD h4 105 [h8] h5 a (λd e f=>aa (ea 1 [.bH] [(0,1,d)] (h0+7)) λg=>hb h4 e (h0+7) g.1 g.2 λh i=>aa (ay h4 i b) λj=>k c f h i j) h10
abbrev tv(h1:Nat)(h2:al)(h3:(E S))(k:z->(E S)->Nat->Prop):=aa (fX [.zT,.zT,.Z 0] h1) λa=>dQ h2 h3 h1 a.1 a.2 k
abbrev fe(h0)(h1:bS)(h2)(h3)(k:ds->z->z->Prop):=aJ h0 λa=>c1 h1 h2 h3 λb c=>k a b c
abbrev x6(h1:z)(h2:al)(h3:(E S))(k:z->Prop):=cS 2 h1 h2 h3 λa b=>cS 3 h1 h2 h3 λc d=>cS 4 h1 h2 h3 λe f=>aa (dl [.ax,.ax,.ax] [(0,1,b),(1,1,d),(2,1,f)]) k
abbrev x7(h0:bS)(h4:(E S))(h5:Nat)(k:z->z->(E S)->Nat->Prop):=cN h0 λa=>aa (hG a) λb=>aa (aK .geq b (.Z 3)) λc=>hE c (h0 0) h4 h5 λd e f=>cR c (ia d (.Z 1)) e f λg h i=>k c g h i
abbrev kQ(h0)(h1:z)(h2:al)(h3:(E S))(h4:z)(k:(E S)->Prop):=aa (es h0 h1) λa=>gl h2 h3 a h4 k
abbrev x8(h6)(h7)(h9:z)(k:z->Prop):=aa (dl [.Z 0,.str [],.Z 0,.int .u64 0,.zT,.zT,.Z 0] [(0,1,.Z h6),(h7,1,h9)]) k
abbrev gC(h0:bS)(k:z->Prop):=bu (h0 3) k
abbrev x9(h7:z)(h8:Nat)(h9:al)(h10:(E S))(h13:z)(k:z->(E S)->Nat->Prop):=aa (ea 1 [.Z 0,.str [],.Z 0,.int .u64 0,.zT,.zT,.Z 0] [(0,7,h7)] h8) λa=>oi h9 h10 h8 a.1 a.2 7 h13 k
abbrev kh(h0:z)(h1)(h2:al)(h3:(E S))(h4:z)(k:(E S)->Prop):=gB h0 h1 λa=>gl h2 h3 a h4 k
abbrev ya(k:z->Prop):=aa (dl [.Z 0,.str [],.Z 0,.int .u64 0,.zT,.zT,.Z 0] []) k
abbrev rX(h1:z)(h2:al)(h3:(E S))(h4)(k:z->Prop):=cS 0 h1 h2 h3 λa b=>aa (aK .eql b (.Z h4)) k
abbrev rY(h0:bS)(h1)(h2)(k:z->Prop):=bu (h0 h1) λa=>aa (aK .lss a (.Z h2)) k
abbrev gD(h0:bS)(k:z->Prop):=bu (h0 2) k
abbrev om(h0:z)(h1:z)(h2:(E S))(h3:Nat)(h5)(h6:al)(k:z->(E S)->Nat->Prop):=cR h0 (ht h1) h2 h3 λa b c=>kN h0 h5 a b c h6 k
abbrev yb(h0:z)(h1:bS)(h3:(E S))(h4:Nat)(h9:al)(k:z->(E S)->Nat->Prop):=hE h0 (h1 0) h3 h4 λa b c=>cR h0 (ht a) b c λd e f=>cR h0 (es 4 d) e f λg h i=>cR h0 (ca h9 h 3 g) h i k
abbrev vs(h0:z)(h2)(k:z->Prop):=aa (ia h0 (.Z 0)) λa=>aa (aK .eql a (.int .u8 h2)) k
abbrev rZ(h0:z)(k:z->Prop):=aa (aK .gtr h0 (.Z 0)) k
abbrev lw(h0:z)(h1:Nat)(h2:al)(h3:(E S))(k:z->z->Nat->(E S)->Prop):=eG h0 λa b=>mz h1 h2 h3 a λc d e=>k b c d e
abbrev Cc(h0:z)(h1:al)(h2:(E S))(h5)(k:z->Prop):=aa (c0 h0) λa=>aa (jn h1 h2 .min [3,3] [a,.Z h5]) λb=>aa (fw h1 h2 1 h0 none (some b) none) k
abbrev hL(h0:bS)(k:z->Prop):=bu (h0 1) k
abbrev tw(k:z->Prop):=aa (dl [.Z 0,.Z 0] []) k
abbrev oo(h0)(h1:z)(h2:al)(h3:(E S))(h5)(h7:Nat)(h8:aY)(k:z->(E S)->Nat->Prop):=cS h0 h1 h2 h3 λa b=>aD h2 h5 [b] h3 h7 k h8
abbrev vt(h0:bS)(h2:al)(h3:(E S))(h4)(k:z->Prop):=h1 h0 0 h2 h3 λa b c=>aa (aK .eql c (.Z h4)) k
abbrev oq(h0:z)(h1:ds)(k:z->ds->Prop):=aa (dX .not h0) λa=>aJ h1 λb=>k a b
abbrev lX(h0:al)(h1:(E S))(h2:Nat)(h4:z)(h5:z)(k:z->(E S)->Nat->Prop):=ek (eV h0 h1 h2 1 h4 h5) h1 h2 k
abbrev vu(h4:z)(h5:Nat)(k:(z×S)->Prop):=aa (ea 1 [.zT,.zT,.Z 0] [(0,3,h4)] h5) k
abbrev pN(h0:al)(h1:(E S))(h2:Nat)(k:z->(E S)->Nat->Prop):=dQ h0 h1 h2 (.map h2) (.map [] 0) k
abbrev pO(h0:al)(h1:(E S))(h2)(h3:z)(h4:z)(k:(E S)->z->Prop):=aa (cW h0 h1 h2 h3 h4) λa=>aa (ca h0 a h2 h3) λb=>k a b
abbrev r0(h0:z)(k:z->Prop):=aa (aK .lss h0 (.Z 0)) k
abbrev yc(h0:z)(h1:bS)(h3:(E S))(h6)(h8:al)(k:z->(E S)->Prop):=AB h0 (h1 0) h3 λa b=>m5 h0 (ht a) b λc d=>m5 h0 (es h6 c) d λe f=>m5 h0 (ay h8 f e) f k
abbrev nt(h0)(h1:z)(h2:al)(h3:(E S))(k:z->z->Prop):=cS h0 h1 h2 h3 λa b=>aa (c0 b) λc=>k b c
abbrev tx(h0)(h1:z)(k:z->Prop):=vq h0 h1 λa=>aa (some (z.iface 26 a)) k
abbrev r1(h0)(h1:z)(k:z->Prop):=aa (c8 h0 h1 (.Z 0)) k
abbrev r2(h0:z)(h1)(h2:(E S))(h3:Nat)(k:z->(E S)->Nat->Prop):=hD h0 h1 h2 h3 λa b c=>dc h0 (dX .not a) b c k
abbrev hu(h0:bS)(k:z->Prop):=bu (h0 5) k
abbrev vv(h4:z)(h5:Nat)(h6:al)(h7:(E S))(h10:z)(k:z->(E S)->Nat->Prop):=aa (ea 1 [.Z 0] [(0,1,h4)] h5) λa=>oi h6 h7 h5 a.1 a.2 1 h10 k
abbrev vw(h0:bS)(h2:al)(h3:(E S))(k:(E S)->Prop):=h1 h0 1 h2 h3 λa b c=>ns c λd=>kh a 1 h2 h3 d k
abbrev vx(h0:z)(k:z->Prop):=aa (aK .neq h0 (.Z 0)) k
abbrev yd(h0:z)(k:z->Prop):=aa (aK .neq h0 (.Z 1)) k
abbrev ye(h0:z)(h2:z)(h3:(E S))(h5:al)(k:z->(E S)->Prop):=gc h0 (es 0 h2) h3 λa b=>gc h0 (ay h5 b a) b λc d=>gc h0 (dX .not c) d k
abbrev ot(h0:bS)(h1)(h2:al)(h3:(E S))(h4)(k:z->Prop):=gg h0 h1 h2 h3 λa=>dC a h4 h2 h3 λ_ b=>k b
abbrev pP(h0:al)(h1:(E S))(h2)(h3:z)(h4:bS)(h5)(k:(E S)->z->Prop):=aa (ca h0 h1 h2 h3) λa=>jL h4 h5 h0 h1 h2 a k
abbrev ou(h0:al)(h1)(h2:z)(h3:(E S))(h4:Nat)(h5:aY)(k:(E S)->Nat->z->z->Prop):=aD h0 h1 [h2] h3 h4 (λa b c=>eG a λd e=>k b c d e) h5
abbrev jM(h0:bS)(h2:al)(h3:(E S))(k:z->Prop):=h1 h0 0 h2 h3 λ_ _ a=>k a
abbrev tz(h0:al)(h2:z)(h3)(h4:(E S))(h5:Nat)(h6:aY)(k:z->Nat->(E S)->Prop):=aD h0 68 [h2,.str [h3]] h4 h5 (λa b c=>lw a c h0 b λd _ e f=>k d e f) h6
abbrev I7(h0:bS)(k:z->Prop):=gD h0 λa=>aa (hA .u64 a) k
abbrev lY(h0:bS)(h2)(h3:ds)(k:z->ds->Prop):=jf h0 12 h2 λa=>aJ h3 λb=>k a b
abbrev r3(h0:z)(h1:z)(h2:(E S))(h3:Nat)(h5)(h6:al)(k:z->(E S)->Nat->Prop):=dc h0 (ht h1) h2 h3 λa b c=>kL h0 h5 a b c h6 k
def tk(a:al)(b:aY):ds:=λc d e=>ig a [.cell 2 23,.cell 3 26] b c c.aP d e
def u1(a:al)(b c:aY):kY:=λd e f g=>nb a [.cell 2 23,.cell 3 26] b c d e d.aP f g
def DP:Za0:=λa b c d e f=>aa (fX [.bH] d) λg=>dQ a c d g.1 g.2 λc d g=>oh g a d λd g h=>aD a 18 [b] g h (λg h i=>eG g λg j=>aa (cW a h 2 d j) λh=>cS 0 d a h λ_ j=>vx j λj=>aJ (λb c d=>c1 b 2 3 λg h=>t7 (.func (.func 19) [] [g,h]) [] b λb=>eX b λg=>aa (dl [.ax,.Z 0] [(0,1,g)]) λg=>eW a c d g λc d g=>aD a 20 [c] d g (λc d g=>gD b λh=>gl a d h c λc=>gg b 2 a c λd=>aD a 21 [d] c g (λ_ c d=>gg b 2 a c λf=>tw λg=>gD b λh=>gl a c h f λc=>gC b λf=>aa (cW a c 2 f g) λc=>tk a e b c d) (u1 a e f (eI [19,20] b))) (u1 a e f (eI [15,16,17,18] b))) λf=>av j (cU (i+3) λf=>aa (ca a h 2 d) λi=>aa (cW a h 1 c .bH) λh=>aa (ca a h 2 d) λk=>d3 k (some i) (aa (cW a h 2 d i) λh=>tk a e (zV (bN [b]) 2 c 3 d 4 g 12 j) h f)) (f (zV (bN [b]) 2 c 3 d 4 g 12 j) h i)) (u1 a e f (eI [6,7,5,8,9,4] (zT (bN [b]) 2 c 3 d)))
def Mv:o2 X 5 [a0] a b T ab=DP X a0 a b T ab:=Zk
def Mu:bJ X 5 1=true:=Zk
def ys(a:al)(b c:z)(d:Option z)(e:E S)(f:Nat)(g:Bool->E S->Nat->Prop):Prop:=
 u6 (some d) (bN [b,c]) λb c=>aJ (λa b c=>g a.rc b c) λd=>aa (b7 a e .eql 20 true b .nilIface) λg=>aJ d λd=>av g (d (zT c 5 b 7 g) e f) (aa (lC 26 (.agg [.Z 0,.Z 0]) true b) λh=>aa (hZ 1 h) λi=>aa (hZ 0 h) λh=>aJ d λd=>av i (oh f a e λe f j=>aa (cW a f 2 e h) λf=>cU (j+3) λj=>aa (ca a f 2 e) λk=>cN c λl=>aa (cW a f 1 l .bH) λf=>aa (ca a f 2 e) λl=>d3 l (some k) (hL c λl=>aa (cW a f 2 l k) λa=>d (J (zV c 5 b 7 g 9 i 10 h) 3 e) a j)) (ms zX b e f))
def Dn(X:bi)(a0 aL:z)(f4:Option z)(a:E S)(b:Nat)(T:Bool->E S->Nat->Prop):nT X 19 [a0,aL] f4 a b T=ys X a0 aL f4 a b T:=Zk
def yt:bJ X 19 2=true:=Zk
def Do:Za0:=λa b c d e f=>aa (dl [.ax] []) λg=>eW a c d g λc d g=>aJ (λa b c=>gC a λa=>e a b c) λe=>cF (λb c d g=>eX c λh=>aJ (λc d e=>aJ (λc d e=>cN c λg=>aD a 40 [g] d e (λa d e=>aa (kv false 0 1 a) λa=>aa (aK .neq a (.Z 7)) λa=>b (J c 4 a) d e) f) λb=>cU (e+12) λg=>c1 c 3 3 λh i=>dC i 0 a d λi j=>cN c λk=>aD a 41 [k] d g (λd f g=>aa (ea 1 [.str [],.Z 0,.ax,.ax,.ax,.ax] [(0,6,d)] (e+7)) λd=>hb a f (e+7) d.1 d.2 λd e=>aa (ay a e i) λf=>d3 f (some j) (ek (eV a e g 6 j d) e g λd e f=>kh h 0 a e d λa=>b c a f)) f) λa=>av h (a (J c 7 h) d g) (e (J c 7 h) d g)) (zU (bN [b]) 2 .bH 3 c 4 .zV) d g
theorem Ll:dV X 20 [a0] (Do X a0):=⟨Zk,Zk⟩
def Dp:Za0:=λa b c d e f=>dC b 0 a c λ_ g=>aa (c0 g) λg=>aa (aK .gtr g (.Z 64)) λg=>aJ (λb c d=>jM b a c λg=>ec g (λ_ a b=>e (.tuple []) a b) λe h=>cF (λb c d e=>dD c 26 25 λg=>aJ (λc d e=>fe (λa c d=>c9 a 26 λe=>b (J a 26 e) c d) c 24 26 λb g h=>og g h a d e λd e g=>nt 2 d a g λ_ h=>nt 3 d a g λ_ i=>aa (aK .add h i) λh=>nt 4 d a g λ_ i=>aa (aK .add h i) λh=>aa (aK .gtr h (.Z 256)) λh=>kL h 5 d g e a λe g i=>dc h (c0 e) g i λe g i=>dc h (aK .gtr e (.Z 4096)) g i λe g i=>bT (λe=>aJ (λc d e=>fd c 3 5 a d λ_ g=>aa (c0 g) λh=>aJ b λb=>cF (λc d e g=>dD d 55 54 λh=>aJ (λb d e=>fe (λa b d=>c9 a 55 λe=>c (J a 55 e) b d) b 53 55 λc g h=>rV g h a d e λd e g=>oo 3 d a g 42 e f λe g h=>aa (aK .gtr e (.Z 200)) λe=>aJ c λc=>av e (cS 2 d a g λ_ a=>tx 22 a λa=>ms f a g h) (c (zT b 5 d 62 e) g h)) λa=>av h (a (J d 56 h) e g) (b (J d 56 h) e g)) (zU c 53 g 54 h 55 (.Z 0)) d e) λb=>av e (cS 1 d a g λ_ a=>tx 30 a λa=>ms f a g i) (b (zT c 3 d 47 e) g i)) λa=>av h (a .zV) (a e)) λa=>av g (a (J c 27 g) d e) (h (J c 27 g) d e)) (zU b 24 g 25 e 26 (.Z 0)) c d) λe=>av g (dC b 0 a c λ_ b=>aa (c8 6 b (.Z 64)) λb=>cS 1 b a c λ_ a=>tx 30 a λa=>ms f a c d) (e (J (bN [b]) 11 g) c d)
theorem Ln:dV X 21 [a0] (Dp X a0):=⟨Zk,Zk⟩
def DG:Za0:=λa b c d e _=>nr d a c λc d f=>cU (f+11) λf=>dC b 0 a d λ_ g=>dC b 1 a d λ_ b=>aa (c8 7 g b) λb=>aa (ca a d 7 b) λb=>pO a d 7 c b λa b=>e b a f
theorem LV:dV X 40 [a0] (DG X a0):=⟨Zk,Zk⟩
def DH:Za0:=λa b c d e f=>aa (fX [.str [],.Z 0,.ax,.ax,.ax,.ax] d) λg=>dQ a c d g.1 g.2 λc d g=>aa (ea 1 [.str []] [(0,1,.str [110,111,100,101])] g) λh=>dQ a d g h.1 h.2 λd g h=>aD a 66 [b,d] g h (λ_ d g=>aD a 67 [b,.Z 1] d g (λd g h=>mz h a g d λd g h=>cS 1 d a h λ_ i=>cS 2 d a h λ_ j=>aa (dl [.str [],.Z 0,.ax,.ax,.ax,.ax] [(0,1,i),(1,1,j)]) λi=>aa (fX [.str [],.Z 0,.ax,.ax,.ax,.ax] g) λj=>dQ a h g j.1 j.2 λg h j=>aa (cW a h 6 g i) λh=>kM 40 j a h b f λ_ h i=>tz a b 41 h i f λh i j=>aa (dX .not h) λk=>aJ (λb c d=>cN b λg=>aa (ea 2 [.str [],.str []] [(0,1,.str [114,101,116,117,114,110,115]),(1,1,.str [40])] d) λh=>dQ a c d h.1 h.2 λc d h=>aD a 66 [g,c] d h (λ_ c d=>cN b λg=>aD a 69 [g,.zT] c d (λc d g=>eX b λh=>kQ 3 h a d c λc=>cN b λd=>kM 41 g a c d f λ_ c d=>cN b λg=>aD a 68 [g,.str [118,97,114]] c d (λc d g=>lw c g a d λc _ d g=>aJ (λb c d=>cN b λg=>aa (ea 1 [.str []] [(0,1,.str [108,101,116])] d) λh=>dQ a c d h.1 h.2 λc d h=>aD a 66 [g,c] d h (λ_ c d=>aJ (λb c d=>gD b λb=>aa (ca a c 6 b) λa=>e a c d) λ_=>cF (λb c d g=>aJ b λb=>cN c λh=>aD a 68 [h,.str [116,101,108]] d g (λd g h=>lw d h a g λd _ g h=>aJ (λc d e=>cU (e+8) λg=>fd c 4 5 a d λh i=>cN c λj=>aD a 70 [j] d g (λd f g=>aa (ea 1 [.ax,.ax,.Z 0,.bH] [(0,4,d)] (e+4)) λd=>hb a f (e+4) d.1 d.2 λd e=>aa (ay a e h) λf=>d3 f (some i) (ek (eV a e g 4 i d) e g λd e f=>eX c λg=>kQ 5 g a e d λa=>b c a f)) f) λb=>av d (eX c λb=>pP a h 6 b c 2 λa b=>e b a g) (b (zT c 10 d 66 d) h g)) f) b c d) f) λe=>av c (cN b λh=>aD a 69 [h,.zV] g d (λd g h=>eX b λi=>kQ 4 i a g d λd=>cN b λg=>kM 59 h a d g f λ_ a d=>e (zT b 8 c 51 c) a d) f) (e (zT b 8 c 51 c) g d)) f) f) f) λe=>av k (aD a 69 [b,.zT] j i (λi j l=>kQ 2 g a j i λi=>kM 41 l a i b f λ_ a f=>e (J (zV (bN [b]) 2 c 3 d 4 g 6 h) 30 k) a f) f) (e (J (zV (bN [b]) 2 c 3 d 4 g 6 h) 30 k) j i)) f) f
theorem LX:dV X 41 [a0] (DH X a0):=⟨Zk,Zk⟩
def D5:Za1:=λa b c d e f g=>nr e a d λd e h=>nr h a e λe h i=>ec c (λb c d=>hu b λe=>pP a c 7 e b 4 λa b=>f b a d) λf j=>cF (λb c d e=>dD c 11 10 λf=>aJ (λc d e=>h0 (λa c d=>c9 a 11 λe=>b (J a 11 e) c d) c 9 11 a d λb f=>cN c λh=>aD a 68 [h,f] d e (λd e h=>eG d λd i=>hu c λj=>aa (cW a e 7 j d) λd=>oq i b λb e=>av b (cN c λj=>aD a 40 [j] d h (λd h j=>aD a 103 [d] h j (λ_ a d=>e (zV c 7 f 8 .zT 8 i 22 b) a d) g) g) (e (zV c 7 f 8 .zT 8 i 22 b) d h)) g) λa=>av f (a (J c 12 f) d e) (j (J c 12 f) d e)) (J (zV (bN [b,c]) 4 d 5 e 9 c 10 f) 11 (.Z 0)) h i
theorem MJ:dV X 66 [a0,aL] (D5 X a0 aL):=⟨Zk,Zk⟩
def D6:Za1:=λa b c d e f g=>nr e a d λd e h=>aD a 40 [b] e h (λe h i=>mz i a h e λe h i=>cS 0 e a i λ_ j=>aa (aK .neq j c) λj=>aJ (λb c d=>vw b a c λc=>hu b λe=>pP a c 7 e b 4 λa b=>f b a d) λf=>av j (jK a i 7 e 103 h g λ_ a g=>f (zU (bN [b,c]) 4 d 5 e 11 j) a g) (f (zU (bN [b,c]) 4 d 5 e 11 j) i h)) g
theorem ML:dV X 67 [a0,aL] (D6 X a0 aL):=⟨Zk,Zk⟩
def yw:Za1:=λa b c d e f g=>nr e a d λd e h=>aD a 40 [b] e h (λe g h=>mz h a g e λe g h=>cS 0 e a h λ_ i=>aa (aK .neq i (.Z 2)) λi=>kN i 0 e h g a λg h j=>cR i (aK .neq g (.Z 6)) h j λg h j=>bT (λg=>kL g 1 e h j a λh i j=>d7 g c i j λi j k=>dc g (b7 a j .neq 9 false h i) j k λh i j=>bT (λg=>aJ (λb c d=>vw b a c λc=>bu (b 6) λe=>pP a c 7 e b 4 λa b=>f (.tuple [b,.zV]) a d) λh=>av g (ya λb=>pO a i 7 d b λa b=>f (.tuple [b,.zT]) a j) (h (zV (bN [b,c]) 4 d 5 .zT 6 e 22 g) i j)) λa=>av g (a .zV) (a h)) λa=>av i (a g) (a .zT)) g
theorem D8:dV X 68 [a0,aL] (yw X a0 aL):=⟨Zk,Zk⟩
def D9:Za1:=λa b c d e f g=>aJ (λa b c=>eX a λa=>f a b c) λ_=>cF (λb c d e=>aJ b λb=>aJ (λc d e=>cN c λh=>kM 58 e a d h g λ_ d e=>cN c λh=>aD a 67 [h,.Z 3] d e (λd e h=>aa (kv true 4 3 d) λd=>aa (dl [.str [],.Z 0,.zT,.zT,.Z 0,.str [],.Z 0,.zT] [(2,3,d)]) λd=>rU h a e λe h i=>aa (cW a h 8 e d) λd=>cN c λh=>aD a 68 [h,.str [119,104,101,110]] d i (λd h i=>lw d i a h λd _ h i=>aJ (λc d e=>bu (c 6) λh=>ec h (λc d e=>cU (e+22) λe=>cN c λh=>aD a 40 [h] d e (λd e g=>aa (kv false 1 1 d) λd=>aa (b7 a e .neq 9 true d (.str [59])) λd=>AB d (c 1) e λe h=>wO d e h λe h=>pM e c 0 h 0 a λh i=>pM e c 0 i 1 a λi j=>gc e (aK .add i (.Z 1)) j λi j=>gc e (c8 7 h i) j λh i=>gc e (es 1 h) i λh i=>gc e (ay a i h) i λh i=>gc e (b7 a i .eql 9 true h (.str [108,101,116])) i λh i=>wN d (λa=>bT (λb=>a b i) λa=>av e (a h) (a .zT)) i λe h=>bT (λd=>aJ (λc d e=>vw c a d λa=>b c a e) λa=>av d (hu c λa=>f a h g) (a (J c 90 d) h g)) λa=>av d (a .zV) (a e)) g) λb f=>cF (λb c d e=>dD c 54 53 λg=>aJ (λc d e=>fe (λa c d=>c9 a 54 λe=>b (J a 54 e) c d) c 52 54 λb f g=>aa (c8 7 f g) λf=>aa (ca a d 7 f) λf=>mz e a d f λd e f=>cU (e+8) λe=>cS 1 d a f λ_ g=>cS 2 d a f λh i=>bu (c 8) λj=>kQ 0 j a f g λf=>bu (c 8) λg=>aa (es 1 g) λg=>aa (ay a f h) λh=>d3 h (some i) (gl a f g i λf=>c1 c 5 8 λg h=>aa (ca a f 8 h) λh=>aa (ea 1 [.str [],.Z 0,.zT,.zT,.Z 0,.str [],.Z 0,.zT] [(0,8,h)] e) λh=>oi a f e h.1 h.2 8 g λa e f=>b (zT c 13 d 5 a) e f)) λa=>av g (a (J c 55 g) d e) (f (J c 55 g) d e)) (zU c 52 h 53 b 54 (.Z 0)) d e) λb=>av d (cN c λf=>aD a 68 [f,.str [110,111,116]] i h (λf h i=>eG f λ_ f=>kQ 7 e a h f λf=>cN c λh=>aD a 67 [h,.Z 1] f i (λf g h=>mz h a g f λf g h=>cU (g+8) λg=>cS 1 f a h λ_ i=>cS 2 f a h λj k=>kQ 5 e a h i λh=>aa (es 6 e) λi=>aa (ay a h j) λj=>d3 j (some k) (gl a h i k λa=>b (zV c 8 e 10 d 37 d 11 f) a g)) g) g) (b (zU c 8 e 10 d 37 d) i h)) g) g) λb=>cF (λc d e f=>bu (d 7) λh=>aJ (λb d e=>fe (λb d e=>cN b λf=>aD a 68 [f,.str [44]] d e (λa d e=>eG a λ_ a=>c (J b 7 a) d e) g) b 6 0 λc f h=>aD a 67 [h,.Z 1] d e (λd e g=>x9 d g a e f λa d e=>c (J b 6 a) d e) g) λa=>av h (a (J d 14 h) e f) (b (J d 14 h) e f)) (zT c 6 .ax 7 .zV) d e) (zT (bN [b,c]) 4 .ax 5 .ax) d e
theorem MN:dV X 69 [a0,aL] (D9 X a0 aL):=⟨Zk,Zk⟩
def Eb:Za0:=λa b c d e f=>eW a c d b λc d g=>aa (fX [.ax,.ax,.Z 0,.bH] g) λh=>dQ a d g h.1 h.2 λd g h=>aa (fX [.ax,.ax,.Z 0,.bH] h) λi=>dQ a g h i.1 i.2 λg h i=>aa (ay a h c) λj=>tz a j 40 h i f λh i j=>aJ (λb c d=>gg b 1 a c λg=>kM 61 d a c g f λc d g=>aa (kv false 2 1 c) λc=>gC b λh=>kQ 2 h a d c λc=>gg b 1 a c λd=>aD a 105 [d] c g (λc d g=>gC b λh=>kQ 3 h a d c λc=>gg b 1 a c λd=>kM 59 g a c d f λ_ c d=>gC b λf=>pP a c 4 f b 2 λa b=>e b a d) f) λe=>av h (e9 a (.func (.func 104) [] [c,g]) [] j i (λ_ i j=>aa (ay a i c) λk=>kM 44 j a i k f λ_ i j=>aJ (λb c d=>gg b 1 a c λg=>kM 41 d a c g f λ_ a c=>e b a c) λe=>cF (λb c d g=>bu (c 7) λh=>aJ (λc d e=>aJ (λc d e=>gg c 1 a d λg=>aD a 68 [g,.str [44]] d e (λa d e=>eG a λ_ a=>b (J c 7 a) d e) f) λb=>eX c λg=>e9 a g [] d e (λ_ a d=>b c a d) f) λa=>av h (a (J c 20 h) d g) (e (J c 20 h) d g)) (zU (zV (bN [b]) 1 c 2 d 3 g 4 (.func (.func 104) [] [c,g])) 6 h 14 h 7 .zV) i j) f) (e9 a (.func (.func 104) [] [c,g]) [] j i (λ_ a f=>e (zT (zV (bN [b]) 1 c 2 d 3 g 4 (.func (.func 104) [] [c,g])) 6 h 14 h) a f) f)
theorem MP:dV X 70 [a0] (Eb X a0):=⟨Zk,Zk⟩
def Cp:Za0:=λa b c d _ e=>eW a c d b λb c d=>cS 2 b a c λ_ a=>tx 21 a λa=>ms e a c d
theorem Jr:dV X 103 [a0] (Cp X a0):=⟨Zk,Zk⟩
def Cq:Za1:=λa b c d e f g=>aa (ay a d b) λb=>aD a 67 [b,.Z 1] d e (λb d e=>mz e a d b λb d e=>cU (d+16) λg=>cS 0 c a e λ_ h=>cS 1 b a e λ_ i=>aa (ea 1 [.str []] [(0,1,i)] (d+4)) λi=>hb a e (d+4) i.1 i.2 λe i=>cS 1 c a i λj k=>cS 2 b a i λb l=>aa (ea 1 [.Z 0] [(0,1,l)] (d+10)) λm=>hb a i (d+10) m.1 m.2 λd i=>lX a i g h e λe g h=>aa (es 0 c) λi=>aa (ay a g j) λj=>d3 j (some k) (aa (ay a g b) λb=>d3 b (some l) (lX a g h k d λb d g=>gl a d i e λd=>kQ 1 c a d b λa=>f (.tuple []) a g))) g
theorem Jt:dV X 104 [a0,aL] (Cq X a0 aL):=⟨Zk,Zk⟩
def Cr:Za0:=λa b c d e f=>aD a 138 [b] c d (λc d g=>aD a 68 [b,.str [45,62]] d g (λd g h=>lw d h a g λd g h i=>aa (dX .not d) λj=>aJ (λb c d=>cU (d+9) λg=>fd b 4 2 a c λh i=>c1 b 3 0 λb j=>aD a 105 [j] c g (λc f g=>aa (ea 2 [.bH,.bH] [(0,1,b),(1,1,c)] (d+5)) λb=>hb a f (d+5) b.1 b.2 λb c=>aa (dl [.Z 0,.Z 0,.str [],.zT,.zT,.zT,.Z 0,.int .u64 0,.ax] [(0,1,.Z 22),(1,1,i),(8,1,b)]) λb=>nF a c (d+7) b λb c=>aa (ay a c h) λa=>d3 a (some i) (e b c g)) f) λa=>av j (e c i h) (a (J (zV (bN [b]) 2 .bH 3 c 4 g 5 d) 14 j) i h)) f) f
theorem Jv:dV X 105 [a0] (Cr X a0):=⟨Zk,Zk⟩
def CS:Za0:=λa b c d e f=>aD a 154 [b,.Z 0] c d (λc d g=>aD a 68 [b,.str [102,98,121]] d g (λd g h=>lw d h a g λd g h i=>aa (dX .not d) λj=>aJ (λb c d=>gC b λg=>dC g 0 a c λ_ g=>yd g λg=>hE g (b 3) c d λc d h=>om g c d h 0 a λc d h=>cR g (aK .neq c (.Z 4)) d h λc d h=>fL g c d h λc d h=>lb c (b 3) d h λd h i=>r3 c d h i 8 a λd h i=>dc c (c8 1 d (.Z 0)) h i λd h i=>dc c (ay a h d) h i λd h i=>r3 c d h i 0 a λd h i=>dc c (aK .neq d (.Z 1)) h i λd h i=>gM g (λa=>bT (λb=>a b h i) λa=>av c (a .zV) (a d)) h i λc d h=>bT (λc=>aJ (λb c d=>cU (d+9) λg=>fd b 4 2 a c λh i=>c1 b 3 0 λb j=>aD a 138 [j] c g (λc f g=>aa (ea 2 [.bH,.bH] [(0,1,b),(1,1,c)] (d+5)) λb=>hb a f (d+5) b.1 b.2 λb c=>aa (dl [.Z 0,.Z 0,.str [],.zT,.zT,.zT,.Z 0,.int .u64 0,.ax] [(0,1,.Z 21),(1,1,i),(8,1,b)]) λb=>nF a c (d+7) b λb c=>aa (ay a c h) λa=>d3 a (some i) (e b c g)) f) λe=>av c (eX b λg=>jK a d 7 g 103 h f λ_ a d=>e (J b 39 c) a d) (e (J b 39 c) d h)) λa=>av g (a c) (a .zT)) λa=>av j (e c i h) (a (J (zV (bN [b]) 2 .bH 3 c 4 g 5 d) 14 j) i h)) f) f
theorem Kj:dV X 138 [a0] (CS X a0):=⟨Zk,Zk⟩
def C6:Za1:=λa b c d e f g=>aa (aK .eql c (.Z 5)) λh=>aJ (λb c d=>c1 b 0 1 λe h=>ns h λh=>aD a 154 [e,h] c d (λc d e=>aJ (λa b c=>eX a λa=>f a b c) λ_=>cF (λb c d e=>aJ b λb=>c1 c 0 1 λh i=>aD a 161 [h,i] d e (λd e h=>eG d λd i=>aa (dX .not i) λj=>aJ (λc d e=>c1 c 6 5 λh i=>c1 c 0 1 λj k=>ns k λk=>aD a 154 [j,k] d e (λd e g=>aa (ea 2 [.bH,.bH] [(0,1,i),(1,1,d)] g) λd=>dQ a e g d.1 d.2 λd e g=>kh h 8 a e d λa=>c1 c 6 1 λd e=>jg e 2 b λb e=>av b (f d a g) (e (zT c 5 d 36 b) a g)) g) λa=>av j (hu c λa=>f a e h) (a (zU c 6 d 7 i 23 j) e h)) g) (J b 5 c) d e) g) λi=>av h (aD a 160 [b] d e f g) (i (zT (bN [b,c]) 4 .bH 9 h) d e)
theorem KL:dV X 154 [a0,aL] (C6 X a0 aL):=⟨Zk,Zk⟩
def Dc:Za0:=λa b c d e f=>aD a 167 [b] c d (λc d g=>aJ (λa b c=>gD a λa=>e a b c) λ_=>cF (λb c d g=>aJ b λb=>cN c λh=>aD a 68 [h,.str [60,60]] d g (λd g h=>lw d h a g λd g h i=>aa (dX .not d) λj=>aJ (λc d g=>bu (c 6) λh=>aa (dX .not h) λh=>aJ (λc d e=>cN c λg=>aD a 67 [g,.Z 4] d e (λd e g=>mz g a e d λd e g=>cS 3 d a g λ_ h=>aa (aK .gtr h (.int .u64 63)) λh=>aJ (λc d e=>c1 c 4 5 λf g=>cS 2 g a d λ_ g=>fd c 7 3 a d λ_ h=>gC c λi=>aa (ea 1 [.bH] [(0,1,i)] e) λi=>dQ a d e i.1 i.2 λd e i=>aa (dl [.Z 0,.Z 0,.str [],.zT,.zT,.zT,.Z 0,.int .u64 0,.ax] [(0,1,f),(1,1,g),(7,1,h),(8,1,d)]) λd=>eW a e i d λa d e=>b (J c 3 a) d e) λb=>av h (jK a g 7 d 103 e f λ_ a e=>b (zT c 7 d 29 h) a e) (b (zT c 7 d 29 h) g e)) f) λa=>av h (gC c λa=>e a d g) (a (J c 23 h) d g)) λb=>av j (cN c λe=>aD a 68 [e,.str [62,62]] i h (λe f h=>eG e λe i=>aa (cW a f 7 g e) λa=>b (zT (zV c 4 (.Z 19) 5 g 6 d 16 j) 4 (.Z 20) 6 i) a h) f) (b (zV c 4 (.Z 19) 5 g 6 d 16 j) i h)) f) (zT (bN [b]) 2 .bH 3 c) d g) f
theorem KZ:dV X 160 [a0] (Dc X a0):=⟨Zk,Zk⟩
def Dd:Za1:=λa b c d e f g=>aa (sQ 5 1 (.ptr 8 0) c) λh=>aa (ay a d h) λh=>ec h (λ_ a b=>f (.tuple [.bH,.zT]) a b) λi j=>cF (λb c d e=>dD c 14 13 λh=>aJ (λc d e=>fe (λa c d=>c9 a 14 λe=>b (J a 14 e) c d) c 12 14 λb h i=>aa (c8 2 h i) λh=>aa (ca a d 2 h) λh=>aa (fX [.str [],.Z 0] e) λi=>dQ a d e i.1 i.2 λd e i=>aa (cW a e 2 d h) λe=>cN c λh=>cS 0 d a e λ_ j=>aD a 68 [h,j] e i (λe g h=>lw e h a g λe g h i=>aJ b λb=>av e (cS 1 d a i λ_ b=>cS 2 g a i λ_ c=>aa (dl [.Z 0,.Z 0,.str [],.zT,.zT,.zT,.Z 0,.int .u64 0,.ax] [(0,1,b),(1,1,c)]) λb=>eW a i h b λa b c=>f (.tuple [a,.zV]) b c) (b (zV c 7 d 8 g 9 e 25 e) i h)) g) λa=>av h (a (J c 15 h) d e) (j (J c 15 h) d e)) (J (zV (bN [b,c]) 4 .bH 5 .zT 12 h 13 i) 14 (.Z 0)) d e
theorem K1:dV X 161 [a0,aL] (Dd X a0 aL):=⟨Zk,Zk⟩
def Dg:Za0:=λa b c d e f=>aa (dl [.str [],.Z 0] [(0,1,.str [110,111,116]),(1,1,.Z 3)]) λg=>aa (dl [.str [],.Z 0] [(0,1,.str [45]),(1,1,.Z 4)]) λh=>aa (dl [.str [],.Z 0] [(0,1,.str [112,114,101]),(1,1,.Z 5)]) λi=>aa (dl [.str [],.Z 0,.str [],.Z 0,.str [],.Z 0] [(0,2,g),(2,2,h),(4,2,i)]) λg=>aJ (λb c d=>cN b λg=>aD a 172 [g] c d (λc d g=>aJ (λa b c=>gD a λa=>e a b c) λ_=>cF (λb c d g=>aJ b λb=>cN c λh=>aD a 68 [h,.str [119,104,101,110]] d g (λd g h=>lw d h a g λd g h i=>aa (dX .not d) λj=>aJ (λc d e=>cN c λg=>aD a 68 [g,.str [110,111,116]] d e (λd e g=>lw d g a e λd _ e g=>cU (e+11) λh=>fd c 8 2 a g λi j=>c1 c 0 7 λk l=>aa (ea 1 [.bH] [(0,1,l)] (e+7)) λl=>hb a g (e+7) l.1 l.2 λg l=>aD a 67 [k,.Z 1] l h (λf h k=>aa (kv false 1 1 f) λf=>aa (dl [.Z 0,.Z 0,.str [],.zT,.zT,.zT,.Z 0,.int .u64 0,.ax] [(0,1,.Z 6),(1,1,j),(2,1,f),(3,1,d),(8,1,g)]) λf=>nF a h (e+9) f λe f=>aa (ay a f i) λa=>d3 a (some j) (b (zT c 11 d 7 e) f k)) f) f) λa=>av j (bu (c 7) λa=>e a i h) (a (zU c 8 g 9 d 45 j) i h)) f) (J b 7 c) d g) f) λh=>cF (λb c d g=>rY c 16 3 λi=>aJ (λc d g=>fe (λa c d=>c9 a 16 λe=>b (J a 16 e) c d) c 15 16 λb h i=>aa (ky true 3 2 h i) λh=>aa (fX [.str [],.Z 0] g) λi=>dQ a d g i.1 i.2 λd g i=>aa (cW a g 2 d h) λg=>cN c λh=>cS 0 d a g λ_ j=>aD a 68 [h,j] g i (λg h i=>lw g i a h λg h i j=>aJ b λb=>av g (cU (i+10) λb=>cS 1 d a j λd g=>cS 2 h a j λh k=>cN c λc=>aD a 167 [c] j b (λb c f=>aa (ea 1 [.bH] [(0,1,b)] (i+6)) λb=>hb a c (i+6) b.1 b.2 λb c=>aa (dl [.Z 0,.Z 0,.str [],.zT,.zT,.zT,.Z 0,.int .u64 0,.ax] [(0,1,g),(1,1,k),(8,1,b)]) λb=>nF a c (i+8) b λb c=>aa (ay a c d) λd=>d3 d (some g) (aa (ay a c h) λa=>d3 a (some k) (e b c f))) f) (b (zV c 4 d 5 h 6 g 26 g) j i)) f) λa=>av i (a (J c 17 i) d g) (h (J c 17 i) d g)) (zU (bN [b]) 2 .bH 15 g 16 (.Z 0)) c d
theorem K7:dV X 167 [a0] (Dg X a0):=⟨Zk,Zk⟩
def ny:Za0:=λa b c d e f=>aD a 40 [b] c d (λc d g=>mz g a d c λc d g=>cS 2 c a g λ_ h=>aa (dl [.Z 0,.Z 0,.str [],.zT,.zT,.zT,.Z 0,.int .u64 0,.ax] [(1,1,h)]) λh=>eW a g d h λd g h=>dC b 1 a g λ_ i=>ns i λi=>kh b 1 a g i λg=>aJ (λa b c=>eX a λa=>e a b c) λe=>cS 0 c a g λ_ i=>jg i 5 e λe i=>av e (cU (h+16) λf=>aa (es 4 c) λh=>f6 a g h λj=>cS 3 c a g λk l=>gB d 0 λm=>kP a g m 1 λg=>gB d 4 λm=>f6 a g h λh=>d3 h (some j) (aa (ay a g k) λh=>d3 h (some l) (aa (cW a g 3 m j) λg=>gB d 7 λh=>aa (ay a g k) λj=>d3 j (some l) (gl a g h l λa=>i (zV (bN [b]) 2 .bH 3 c 4 d 29 e) a f)))) (rX c a g 2 λj=>kN j 1 c g h a λg h k=>cR j (b7 a h .eql 9 true g (.str [116,114,117,101])) h k λg h k=>fL j g h k λg h k=>kL g 1 c h k a λh k l=>dc g (b7 a k .eql 9 true h (.str [102,97,108,115,101])) k l λh k l=>gM j (λa=>bT (λb=>a b k l) λa=>av g (a .zV) (a h)) k l λg h k=>bT (λg=>aJ i λi=>av g (aa (dl [.zT,.zT,.Z 0] [(0,1,.zV),(2,1,.Z 1)]) λf=>gB d 0 λj=>kP a h j 1 λh=>gB d 4 λj=>aa (cW a h 3 j f) λf=>cS 1 c a f λ_ h=>aa (b7 a f .eql 9 true h (.str [116,114,117,101])) λh=>aJ i λi=>av h (gB d 7 λj=>aa (cW a f 1 j (.int .u64 1)) λa=>i (zT (zV (bN [b]) 2 .bH 3 c 4 d 29 e) 46 g 69 h) a k) (i (zT (zV (bN [b]) 2 .bH 3 c 4 d 29 e) 46 g 69 h) f k)) (cS 0 c a h λ_ j=>jg j 1 i λi j=>av i (cU (k+10) λk=>cS 1 c a h λl m=>gB d 0 λn=>kP a h n 2 λh=>gB d 2 λn=>aa (ay a h l) λl=>d3 l (some m) (gl a h n m λh=>tz a b 40 h k f λh k l=>aJ j λj=>av h (aD a 175 [b] l k (λf k l=>gB d 0 λm=>kP a k m 25 λk=>kh d 8 a k f λa=>j (zV (zV (bN [b]) 2 .bH 3 c 4 d 29 e) 46 g 73 i 6 h 90 h) a l) f) (j (zV (zV (bN [b]) 2 .bH 3 c 4 d 29 e) 46 g 73 i 6 h 90 h) l k))) (cS 0 c a h λ_ l=>jg l 3 j λj l=>av j (cU (k+10) λk=>aa (es 4 c) λm=>f6 a h m λn=>gB d 0 λo=>kP a h o 26 λh=>gB d 4 λo=>f6 a h m λm=>d3 m (some n) (aa (cW a h 3 o n) λh=>kM 40 k a h b f λ_ h k=>aD a 105 [b] h k (λh k m=>aa (ea 1 [.bH] [(0,1,h)] m) λh=>dQ a k m h.1 h.2 λh k m=>kh d 8 a k h λh=>kM 41 m a h b f λ_ a f=>l (zU (zV (bN [b]) 2 .bH 3 c 4 d 29 e) 46 g 73 i 99 j) a f) f)) (rX c a h 6 λm=>kN m 1 c h k a λh k n=>cR m (b7 a k .eql 9 true h (.str [40])) k n λh k n=>bT (λh=>aJ l λl=>av h (aD a 105 [b] k n (λk m n=>kM 41 n a m b f λ_ a f=>l (J (zV (zV (bN [b]) 2 .bH 3 c 4 d 29 e) 46 g 73 i 99 j 123 h) 4 k) a f) f) (rX c a k 2 λm=>kN m 1 c k n a λk n o=>cR m (b7 a n .eql 9 true k (.str [105,102])) n o λk n o=>bT (λk=>aJ l λl=>av k (gB d 0 λm=>kP a n m 23 λm=>x5 o d a m b f λm n o p q=>d3 q (some m) (lX a p n m o λm n o=>kh d 8 a n m λm=>aa (ea 1 [.str []] [(0,1,.str [116,104,101,110])] o) λn=>dQ a m o n.1 n.2 λm n o=>aD a 66 [b,m] n o (λ_ m n=>x5 n d a m b f λm n o p q=>d3 q (some m) (lX a p n m o λm n o=>kh d 8 a n m λm=>aa (ea 1 [.str []] [(0,1,.str [101,108,115,101])] o) λn=>dQ a m o n.1 n.2 λm n o=>aD a 66 [b,m] n o (λ_ m n=>x5 n d a m b f λf m n o p=>d3 p (some f) (lX a o m f n λf m n=>kh d 8 a m f λa=>l (J (zV (zV (bN [b]) 2 .bH 3 c 4 d 29 e) 46 g 73 i 99 j 123 h) 137 k) a n)) f)) f)) (rX c a n 2 λm=>kN m 1 c n o a λn o p=>cR m (b7 a o .eql 9 true n (.str [109,101,114,103,101])) o p λn o p=>bT (λm=>aJ l λl=>av m (aD a 67 [b,.Z 1] o p (λn o p=>aa (kv false 1 1 n) λn=>gB d 0 λq=>kP a o q 24 λo=>kh d 2 a o n λn=>aD a 172 [b] n p (λn o p=>aD a 172 [b] o p (λf o p=>aa (ea 2 [.bH,.bH] [(0,1,n),(1,1,f)] p) λf=>dQ a o p f.1 f.2 λf n o=>kh d 8 a n f λa=>l (zT (zV (zV (bN [b]) 2 .bH 3 c 4 d 29 e) 46 g 73 i 99 j 123 h) 137 k 188 m) a o) f) f) f) (dC b 1 a o λ_ n=>kO n λn=>kh b 1 a o n λn=>jK a n 7 c 103 p f λ_ a f=>l (zT (zV (zV (bN [b]) 2 .bH 3 c 4 d 29 e) 46 g 73 i 99 j 123 h) 137 k 188 m) a f)) λa=>av m (a n) (a .zT))) λa=>av m (a k) (a .zT))) λa=>av m (a h) (a .zT))))) λa=>av j (a g) (a .zT))) f
theorem oH:dV X 172 [a0] (ny X a0):=⟨Zk,Zk⟩
def Dh:Za0:=λa b c d e f=>tz a b 41 c d f λc d g=>aJ (λb c d=>cN b λg=>aD a 105 [g] c d (λc d g=>aa (ea 1 [.bH] [(0,1,c)] g) λc=>dQ a d g c.1 c.2 λc d g=>aJ (λa b c=>gD a λa=>e a b c) λ_=>cF (λb c d g=>aJ b λb=>cN c λh=>tz a h 44 d g f λd g h=>aa (dX .not d) λi=>aJ (λc d e=>c1 c 5 0 λg h=>aD a 105 [h] d e (λd e f=>aa (ea 1 [.bH] [(0,1,d)] f) λd=>oi a e f d.1 d.2 1 g λa d e=>b (J c 5 a) d e) f) λb=>av i (cN c λb=>kM 41 g a h b f λ_ a b=>hu c λc=>e c a b) (b (zT c 7 d 23 i) h g)) (J b 5 c) d g) f) λa=>av c (e .ax g d) (a (zU (bN [b]) 2 .ax 4 c 13 c) g d)
theorem K9:dV X 175 [a0] (Dh X a0):=⟨Zk,Zk⟩
end
open Go.aF Go.ak
def bq(t:Tok):List z:=[.Z t.kind,.str t.text,.Z t.at_,.int .u64 t.n,.bool t.ty.b,.bool t.ty.s,.Z t.ty.w]
def i2:Nat:=3
def R0(f:Nat):Bool:=gN f [6,150,128]
structure bZ(X:bi):Prop where
 none:∀f l,R0 f=false->X.O f l=none
set_option maxRecDepth 100000 in
def zS{z7:bi}(O:bZ z7){f:Nat}{a:List z}{z9:E S}{n:Nat}{u v:aY}(c:bJ z7 f a.length=true)(h:bP z7 f a z9 n u v)(b:R0 f=false:=by rfl):aD z7 f a z9 n u v:=bL c (O.none _ _ b) h
theorem Fd{z7:bi}(O:bZ z7){f:Nat}{a:List z}{GE:E S->Nat->aY->aY->Prop}{z9:E S}{n:Nat}{u v:aY}(c:dV z7 f a GE)(h:GE z9 n u v)(b:R0 f=false:=by rfl):aD z7 f a z9 n u v:=zS O c.1 (by rw[c.2];exact h) b
structure ak(X:bi)(q:E S)(an bd:Nat)(az:List Tok)(i:Nat):Prop where
 at_:∃c ac,H X q an=some (.cells c 2 .own)/\c.get 0=some ac/\c.get 1=some (.Z i)/\cl X q (λo=>o=bd) bd ac 7 (az.map bq)
 ne:an≠bd
def ak.M{X:bi}{q D:E S}{an bd:Nat}{az:List Tok}{i:Nat}(h:ak X q an bd az i)(a7:H X D an=H X q an)(bl:H X D bd=H X q bd):ak X D an bd az i:=by obtain⟨c,ac,a,b,d,e⟩:=h.at_;exact⟨⟨c,ac,by rw[a7];exact a,b,d,e.M λo f=>by subst f;exact bl⟩,h.ne⟩
def f1{C:al}{q:E S}{b n I:Nat}{c:E z}{st:iu}{v:z}(h:H C q b=some (.cells c n st))(a:c.get I=some v):ay C q (.ptr b I)=some v:=by rw[bB,h];exact a
section
variable{X:bi}{q D:E S}{u Z an bd:Nat}{az:List Tok}{i:Nat}
def kE(g:bZ X)(j:(y X).aB<=u)(k:ak X q an bd az i)(p:an<u)(s:bd<u){t:Tok}(d:az[i]? =some t):
 aD X 40 [.ptr an 0] q u (λR D Z=>R=.agg (bq t)/\aU X q u D Z) zX:=by
 refine Fd g (LV ..) ?_;unfold DG;obtain⟨c,ac,a,e,f,b⟩:=k.at_;have n:=f1 a e;have a7:=f1 a f;have ag:i<(az.map bq).length:=by rw[Zj];exact(Ze.1 d).1
 have h:=b.c4 i ag;have l:ca X (aH X q u (zP [.Z 0,.str [],.Z 0,.int .u64 0,.zT,.zT,.Z 0] 7)) 7 (.ptr bd (i*7))=some (.agg (bq t)):=by have:=(b.M (D:=aH X q u (zP [.Z 0,.str [],.Z 0,.int .u64 0,.zT,.zT,.Z 0] 7)) (λo m=>by subst m;exact ah j Zo)).row Zd (i:=i) (r:=bq t) (by rw[Zt,d];rfl);exact this
 refine dA @n @a7 @h @l bq.eq_1 ⟨?_⟩;exact⟨rfl,cf⟩
def ls:List z:=[.Z 0,.str [],.Z 0,.int .u64 0,.zT,.zT,.Z 0]
def ak.on(a:ak X q an bd az i){j:Nat}{c:E z}(d:H X D an=some (.cells c 2 .own))(b:∀b8 st,H X q an=some (.cells b8 2 st)->c=b8.set 1 (some (.Z j)))(bl:H X D bd=H X q bd):ak X D an bd az j:=by
 obtain⟨b8,ac,aL,bt,a3,a4⟩:=a.at_;have:=b b8 _ aL;subst this;refine⟨⟨_,ac,d, ?_, ?_,a4.M λo e=>by subst e;exact bl⟩,a.ne⟩
 ·rw[E.e0,Zi Zd];exact bt
 ·rw[E.e0,Zv rfl]
def uf(a:bZ X)(b:(y X).aB<=u)(t:Tok)(ab:aY)(h:∀D Z,aU X q u D Z->ab (.iface 26 (.agg [.Z 21,.Z t.at_])) D Z):
 aD X 103 [.agg (bq t)] q u zX ab:=by
 refine Fd a (Jr ..) ?_;unfold Cp bq;refine bx ⟨?_⟩;exact⟨h _ _ cf⟩
def Iq(n:bZ X)(j:(y X).aB<=u)(r:ak X q an bd az i)(T0:(y X).aB<=an)(O:an<u)(P:bd<u)(T3:az.length<=300000){t:Tok}(A:az[i]? =some t){s:aA}(x:d4 t s=true):
 aD X 68 [.ptr an 0,.str s] q u (λR D Z=>R=.tuple [.agg (bq t),.zV]/\ak X D an bd az (i+1)/\br X [an] q u D Z) zX:=by
 refine Fd n (D8 ..) ?_;unfold yw;refine k0 ?_;have T1:=(Ze.1 A).1;have m:aU X q u (aH X q u (zP ls 7)) (u+1):=aU.fresh j _;have v:ak X (aH X q u (zP ls 7)) an bd az i:=r.M (m.M _ O) (m.M _ P);refine(kE n Zo v Zo Zo A).mono ?_ (λ_ _ _ h=>h);rintro R am aw ⟨rfl,e⟩;have T2:=e.le;have d:H X am u=zP ls 7:=by rw[e.M _ Zo];exact aM j
 have N:br X [an] q u am aw:=br.of ((aU.fresh j _).trans e);have w:ak X am an bd az i:=v.M (e.M _ Zo) (e.M _ Zo);obtain⟨c,ac,aL,bt,a3,a4⟩:=w.at_;have p:=N.M;simp only[d4,Zu,Y5,Zf]at x;obtain⟨iW,rfl⟩:=x;have a7:=f1 aL a3;have k:=zQ i;have l:decide (t.text≠t.text)=false:=by simp
 unfold ls at d;have fin:∀(a:E S) (Z:Nat),H X a an=some (.cells (cj c 1 [.Z ((i+1:Nat):Int)]) 2 .own)->br X [an] q u a Z->H X a bd=H X am bd->ak X a an bd az (i+1)/\br X [an] q u a Z:=λa Z G d L=>
  ⟨w.on G (λb8 st h=>by rw[aL]at h;cases h;exact je ..) L,d⟩
 have T4:=r.ne;rcases iW with dB|dB
 ·have g:decide (t.kind≠2)=false:=by simp[dB]
  refine cu bq.eq_1 @g @l @a7 @k @aL @d ⟨?_⟩;refine⟨rfl,fin _ _ ?_ ?_ ?_⟩
  ·simp(disch:=omega) only[ah,aM];rfl
  ·exact⟨Zo,λb W f=>by have:=p b W f;simp only[Zq,ZR,YT,Yy,ZO,Ym]at f;simp(disch:=omega) only[ah];exact this⟩
  ·simp(disch:=omega) only[ah]
 ·have g:decide (t.kind≠2)=true:=by simp[dB]
  have C:decide (t.kind≠6)=false:=by simp[dB]
  refine cu bq.eq_1 @g @C @l @a7 @k (Za @aL @d) ⟨?_⟩;refine⟨rfl,fin _ _ ?_ ?_ ?_⟩
  ·simp(disch:=omega) only[ah,aM];rfl
  ·exact⟨Zo,λb W f=>by have:=p b W f;simp only[Zq,ZR,YT,Yy,ZO,Ym]at f;simp(disch:=omega) only[ah];exact this⟩
  ·simp(disch:=omega) only[ah]
def Ip(r:bZ X)(n:(y X).aB<=u)(L:ak X q an bd az i)(P:(y X).aB<=an)(C:an<u)(G:bd<u){t:Tok}(O:az[i]? =some t){s:aA}(c:d4 t s=false):
 aD X 68 [.ptr an 0,.str s] q u (λR D Z=>R=.tuple [.agg ls,.zT]/\ak X D an bd az i/\br X [an] q u D Z) zX:=by
 refine Fd r (D8 ..) ?_;unfold yw;refine k0 ?_;have p:aU X q u (aH X q u (zP ls 7)) (u+1):=aU.fresh n _;have v:ak X (aH X q u (zP ls 7)) an bd az i:=L.M (p.M _ C) (p.M _ G);refine(kE r Zo v Zo Zo O).mono ?_ (λ_ _ _ h=>h);rintro R am aw ⟨rfl,f⟩;have T0:=f.le;have e:H X am u=zP ls 7:=by rw[f.M _ Zo];exact aM n
 have A:br X [an] q u am aw:=br.of ((aU.fresh n _).trans f);have N:ak X am an bd az i:=v.M (f.M _ Zo) (f.M _ Zo);have l:=A.M;unfold ls at e;have fin:∀(d:E S) (Z:Nat),H X d an=H X am an->br X [an] q u d Z->H X d bd=H X am bd->ak X d an bd az i/\br X [an] q u d Z:=λd Z w e x=>
  ⟨N.M w x,e⟩
 simp only[d4,Bool.and_eq_false_iff,Bool.or_eq_false_iff,Zc]at c;by_cases dB:t.kind=2
 ·have c:t.text≠s:=by rcases c with h|h;exact absurd dB h.1;exact h
  have g:decide (t.kind≠2)=false:=by simp[dB]
  have k:decide (t.text≠s)=true:=by simpa using c
  refine df bq.eq_1 @g @k @e ⟨?_⟩;refine⟨rfl,fin _ _ ?_ ?_ ?_⟩
  ·simp(disch:=omega) only[ah]
  ·exact⟨Zo,λb W a=>by have:=l b W a;simp only[Zq,ZR,YT,Yy,ZO,Ym]at a;simp(disch:=omega) only[ah];exact this⟩
  ·simp(disch:=omega) only[ah]
 ·have g:decide (t.kind≠2)=true:=by simp[dB]
  by_cases m:t.kind=6
  ·have c:t.text≠s:=(by rcases c with h|h;exact absurd m h.2;exact h);have j:decide (t.kind≠6)=false:=(by simp[m]);have k:decide (t.text≠s)=true:=(by simpa using c);refine dA bq.eq_1 @g @j @k @e ⟨?_⟩;refine⟨rfl,fin _ _ ?_ ?_ ?_⟩
   ·simp(disch:=omega) only[ah]
   ·exact⟨Zo,λb W a=>by have:=l b W a;simp only[Zq,ZR,YT,Yy,ZO,Ym]at a;simp(disch:=omega) only[ah];exact this⟩
   ·simp(disch:=omega) only[ah]
  ·have j:decide (t.kind≠6)=true:=(by simp[m]);refine df bq.eq_1 @g @j @e ⟨?_⟩;refine⟨rfl,fin _ _ ?_ ?_ ?_⟩
   ·simp(disch:=omega) only[ah]
   ·exact⟨Zo,λb W a=>by have:=l b W a;simp only[Zq,ZR,YT,Yy,ZO,Ym]at a;simp(disch:=omega) only[ah];exact this⟩
   ·simp(disch:=omega) only[ah]
def pv(j:bZ X)(l:(y X).aB<=u)(r:ak X q an bd az i)(L:(y X).aB<=an)(C:an<u)(G:bd<u)(T0:az.length<=300000){t:Tok}(w:az[i]? =some t)(k:Int):
 aD X 67 [.ptr an 0,.Z k] q u (λR D Z=>t.kind=k/\R=.agg (bq t)/\ak X D an bd az (i+1)/\br X [an] q u D Z)
  (λR D Z=>t.kind≠k/\R=.iface 26 (.agg [.Z 21,.Z t.at_])/\br X [an] q u D Z):=by
 refine Fd j (ML ..) ?_;unfold D6;refine k0 ?_;have N:=(Ze.1 w).1;have n:aU X q u (aH X q u (zP ls 7)) (u+1):=aU.fresh l _;have s:ak X (aH X q u (zP ls 7)) an bd az i:=r.M (n.M _ C) (n.M _ G);refine(kE j Zo s Zo Zo w).Zm ?_;rintro R am aw ⟨rfl,a⟩;have O:=a.le;have g:H X am u=zP ls 7:=by rw[a.M _ Zo];exact aM l
 have A:br X [an] q u am aw:=br.of ((aU.fresh l _).trans a);have v:ak X am an bd az i:=s.M (a.M _ Zo) (a.M _ Zo);obtain⟨c,ac,aL,bt,a3,a4⟩:=v.at_;have p:=A.M;have a7:=f1 aL a3;have x:=zQ i;unfold ls at g;have T1:=r.ne;by_cases e:t.kind=k
 ·have f:decide (t.kind≠k)=false:=by simp[e]
  refine eg bq.eq_1 @f @a7 @x @aL @g ⟨?_⟩;refine⟨e,rfl,v.on (c:=cj c 1 [.Z ((i+1:Nat):Int)]) ?_ (λb8 st h=>by rw[aL]at h;cases h;exact je ..) ?_, ?_⟩
  ·simp(disch:=omega) only[ah,aM];rfl
  ·simp(disch:=omega) only[ah]
  ·exact⟨Zo,λb W d=>by have:=p b W d;simp only[Zq,ZR,YT,Yy,ZO,Ym]at d;simp(disch:=omega) only[ah];exact this⟩
 ·have f:decide (t.kind≠k)=true:=by simp[e]
  refine cg bq.eq_1 @f @g ⟨?_⟩;refine(uf j Zo t _ ?_).mono (λ_ _ _ h=>h.elim) (λ_ _ _ h=>h);intro D Z m;have P:=m.le;refine⟨e,rfl,Zo,λb W d=> ?_⟩;have:=p b W d;simp only[Zq,ZR,YT,Yy,ZO,Ym]at d;rw[m.M b Zo];simp(disch:=omega) only[ah];exact this
def en:Tok:=⟨0,[],0,0,cd⟩
def kI:List aA->Tok->List Tok->di Tok
 |[],x,l=>ok x l|s::a,_,l=>andThen (ce s l) λo l=>kI a o l
def dt{az:List Tok}{i:Nat}{x:Tok}{l:List Tok}(h:az.drop i=x::l):az[i]? =some x/\az.drop (i+1)=l:=by
 constructor
 ·have:=congrArg (λl=>l[0]?) h;simpa using this
 ·rw[<-zE,h];rfl
def dh(a:List aA):List (List z):=a.map λs=>[.str s]
def IL(v:bZ X)(UN:(y X).aB<=u)(T8:ak X q an bd az i)(T6:(y X).aB<=an)(U1:an<u)(U3:bd<u)(UB:az.length<=300000){aE:z}{bC:Nat}{c:List aA}(U2:bC<u)(UD:bC≠an)(N:cl X q (λo=>o=bC) bC aE 1 (dh c))
 {r:Except Int (Tok×List Tok)}(K:kI c en (az.drop i)=some r):
 aD X 66 [.ptr an 0,aE] q u (λR D Z=>∃x e,r=.ok (x,az.drop e)/\R=.agg (bq x)/\ak X D an bd az e/\br X [an] q u D Z)
  (λR D Z=>∃a,r=.error a/\R=.iface 26 (.agg [.Z 21,.Z a])/\br X [an] q u D Z):=by
 refine Fd v (MJ ..) ?_;unfold D5;have UA:=N.len;have UO:=T8.ne;have UC:=N.many;simp only[dh,Zj]at UC;refine k0 ?_;refine k0 ?_;have T0:aU X q u (aH X (aH X q u (zP (bq en) 7)) (u+1) (zP (bq en) 7)) (u+1+1):=cf;have UG:H X (aH X (aH X q u (zP (bq en) 7)) (u+1) (zP (bq en) 7)) u=zP (bq en) 7:=by simp(disch:=omega) only[ah,aM]
 have UH:H X (aH X (aH X q u (zP (bq en) 7)) (u+1) (zP (bq en) 7)) (u+1)=zP (bq en) 7:=aM Zo;refine js @UA ⟨?_⟩;refine eO (λB D n=>∃x e,r=.ok (x,az.drop e)/\B.g 5=some (.ptr (u+1) 0)/\B.g 4=some (.ptr u 0)/\u+1<n/\H X D (u+1)=zP (bq x) 7/\H X D u=zP (bq en) 7/\ak X D an bd az e/\br X [an] q u D n) (λj U6=> ?_) ?_
 ·refine cM (λm B D n=>∃k e x,m=c.length-k/\k<=c.length/\B.g 0=some (.ptr an 0)/\B.g 9=some aE/\B.g 10=some (.Z c.length)/\B.g 11=some (.Z k)/\B.g 5=some (.ptr (u+1) 0)/\B.g 4=some (.ptr u 0)/\u+1<n
   /\H X D (u+1)=zP (bq x) 7/\H X D u=zP (bq en) 7/\ak X D an bd az e/\br X [an] q u D n/\kI (c.drop k) x (az.drop e)=some r)
   c.length ⟨0,i,en,Zo,Zo, ?_, ?_, ?_, ?_, ?_, ?_,Zo,UH,UG,T8.M (T0.M _ U1) (T0.M _ U3),br.of T0,K⟩ ?_
  ·exact aC
  ·exact aC
  ·refine o6 ⟨?_⟩;simp[dh]
  ·refine o6 ⟨?_⟩;rfl
  ·exact aC
  ·exact aC
  rintro m B am n ⟨k,e,x,rfl,UK,t0,t9,TY,T3,t5,t4,T7,p,t,A,f,d⟩;refine bE @TY @T3 ⟨?_⟩;refine sp (λL=> ?_) (λL=> ?_)
  ·have L:k<c.length:=Zo;have U4:c.drop k=c[k]::c.drop (k+1):=Zz L;rw[U4]at d;have U5:=N.c4 k (by simp[dh];exact L);have T9:ay X am (.ptr bC (k*1))=some (.str c[k]):=(by have:=(N.M (D:=am) λo C=>by subst C;exact f.M _ U2 (by simp;exact UD)).cell k [.str c[k]] 0 (.str c[k]) (by simp[dh]) rfl;rwa[ZN]at this);refine dA @t9 @T3 @U5 @T9 @t0 ⟨?_⟩;generalize c[k]=s at d T9;cases ai:az.drop e with
   |nil=>rw[ai]at d;simp[kI,ce,andThen]at d|cons o l=>
    obtain⟨C,U8⟩:=dt ai;rw[ai]at d;simp only[kI,ce]at d;cases O:d4 o s with
    |true=>
     rw[O]at d;simp only[ZL,andThen,ok]at d;refine(Iq v (zL f.le) A T6 Zo Zo UB C O).Zm ?_;rintro R G UF ⟨rfl,T2,g⟩;have U9:=g.le;have P:H X G (u+1)=zP (bq x) 7:=(by rw[g.M _ Zo Zx];exact p);have U0:H X G u=zP (bq en) 7:=(by rw[g.M _ Zo Zx];exact t);refine cg @t5 @P @T3 ⟨?_⟩;have TZ:=zQ k;refine bo @TZ ⟨?_⟩;refine⟨_, ?_,k+1,e+1,o,rfl,Zo,af t0,af t9,af TY,aC,af t5,af t4,Zo,aM Zo,by simp(disch:=omega) only[ah];exact U0,T2.M (zR) (zR), ?_, ?_⟩
     ·omega
     ·have T1:=(f.trans g).M;exact⟨zL f.le,λb W w=>by rw[<-T1 b W w];exact zR⟩
     ·rw[U8];exact d
    |false=>rw[O]at d;simp only[ZA,ZJ,andThen,bad,Zh]at d;subst d;refine(Ip v (zL f.le) A T6 Zo Zo C O).Zm ?_;rintro R G UF ⟨rfl,T2,g⟩;have U9:=g.le;have P:H X G (u+1)=zP (bq x) 7:=(by rw[g.M _ Zo Zx];exact p);refine cg @t5 @P @t0 ⟨?_⟩;refine(kE v (zL f.le) (T2.M (zR) (zR)) Zo Zo C).Zm ?_;rintro R UI UP ⟨rfl,T4⟩;have UL:=T4.le;refine(uf v (zL f.le) o _ ?_).mono (λ_ _ _ h=>h.elim) (λ_ _ _ h=>h);intro UJ UQ T5;have UM:=T5.le;have T1:=(f.trans g).M;refine⟨_,rfl,rfl,zL f.le,λb W w=> ?_⟩;rw[T5.M b Zo,T4.M b Zo, <-T1 b W w];simp(disch:=omega) only[ah]
  ·have U7:k=c.length:=Zo;subst U7;rw[List.drop_length]at d;simp only[kI,ok,Zh]at d;subst d;refine bx ⟨?_⟩;exact U6 _ _ _ ⟨x,e,rfl,af t5,af t4,T7,p,t,A,f⟩
 ·rintro B am n ⟨x,e,UE,t5,t4,T7,p,t,A,f⟩;unfold bq at p;unfold bq en cd at t;refine dA @t5 @t4 @p @t (a8 p) ⟨?_⟩;refine⟨x,e,UE,rfl,A.M (zR) (zR), ?_⟩;exact⟨zL f.le,λb W w=>by rw[<-f.M b W w];exact zR⟩
structure e6(X:bi)(q:E S)(u an bd:Nat)(az:List Tok)(i:Nat):Prop where
 aB:(y X).aB<=u
 bn:(y X).aB<=an
 ev:an<u
 ej:bd<u
 many:az.length<=300000
 par:ak X q an bd az i
def e6.go{X:bi}{q D:E S}{u Z an bd i b:Nat}{az:List Tok}(h:e6 X q u an bd az i)(c:ak X D an bd az b)(a:u<=Z):e6 X D Z an bd az b:=
 ⟨ZE h.aB a,h.bn,ZV h.ev a,ZV h.ej a,h.many,c⟩
def b2(a b:Nat):Nat->Prop:=λo=>a<=o/\o<b
def iU(k a:Int):z:=.iface 26 (.agg [.Z k,.Z a])
def fU(X:bi)(an bd:Nat)(az:List Tok)(q:E S)(u:Nat)(r:Except Int (aX×List Tok)):aY:=λR D Z=>
 ∃e a,r=.ok (e,az.drop a)/\bF X D (b2 u Z) e R/\ak X D an bd az a/\br X [an] q u D Z
def fg{α:Type}(X:bi)(an:Nat)(q:E S)(u:Nat)(r:Except Int α):aY:=λR D Z=>
 ∃a,r=.error a/\R=iU 21 a/\br X [an] q u D Z
def mD(X:bi):Prop:=8<X.aB/\∀q k,k<5->∃b aE,ay X q (.ptr 8 k)=some aE/\cl X q (λo=>o<X.aB) b aE 2 ((ae k).map λI=>[.str I.1,.Z I.2])
variable{au am:E S}{ap aw:Nat}
def fg.of{α cr:Type}{dT:E S}{b:Nat}{r:Except Int α}{c:Except Int cr}{R:z}(h:fg X an au ap r R D Z)(g:br X [an] dT b au ap)(K:∀a,r=.error a->c=.error a):fg X an dT b c R D Z:=by obtain⟨a,d,e,f⟩:=h;exact⟨a,K a d,e,g.trans f⟩
def bF.fr{a b:Nat}{e:aX}{v:z}(h:bF X q (b2 a b) e v)(j:br X [an] q ap D Z)(W:b<=ap)(k:an<a){d f:Nat}(g:d<=a)(i:b<=f):bF X D (b2 d f) e v:=
 bF.lift (λo c=>⟨ZE g c.1,ZV c.2 i⟩) _ _ (bF.M (λo c=>j.M o (zL c.2) (by simp;have:=c.1;omega)) _ _ h)
def bF.ex{a b:Nat}{e:aX}{v:z}(h:bF X q (b2 a b) e v)(k:∀o,a<=o->o<b->H X D o=H X q o){d f:Nat}(g:d<=a)(i:b<=f):bF X D (b2 d f) e v:=
 bF.lift (λo c=>⟨ZE g c.1,ZV c.2 i⟩) _ _ (bF.M (λo c=>k o c.1 c.2) _ _ h)
def kd{cr:Type}{s:aA}{l:List Tok}{f:Option Tok->List Tok->di cr}{r:Except Int (cr×List Tok)}(h:el s l f=some r):∃x a,l=x::a/\((d4 x s=true/\f (some x) a=some r)\/(d4 x s=false/\f none l=some r)):=by unfold el f5 at h;cases l with|nil=>cases h|cons x a=>refine⟨x,a,rfl, ?_⟩;simp only[]at h;cases b:d4 x s with|true=>rw[b]at h;exact .inl ⟨rfl,h⟩|false=>rw[b]at h;exact .inr ⟨rfl,h⟩
def dO{α cr:Type}{x:di α}{f:α->List Tok->di cr}{r:Except Int (cr×List Tok)}(h:andThen x f=some r):(∃a,x=some (.error a)/\r=.error a)\/∃a l,x=some (.ok (a,l))/\f a l=some r:=by
 unfold andThen at h;split at h
 ·cases h
 ·injection h with h;exact .inl ⟨_,rfl,h.symm⟩
 ·exact .inr ⟨_,_,rfl,h⟩
def ij(c:bZ X)(a:e6 X q u an bd az i){x:Tok}{l:List Tok}(ai:az.drop i=x::l)(s:aA):
 aD X 68 [.ptr an 0,.str s] q u (λR D Z=>R=.tuple [.agg (bq (if d4 x s then x else en)),.bool (d4 x s)]/\ak X D an bd az (if d4 x s then i+1 else i)/\br X [an] q u D Z) zX:=by
 obtain⟨b,e⟩:=dt ai;cases d:d4 x s with|true=>simp only[ZL];exact Iq c a.aB a.par a.bn a.ev a.ej a.many b d|false=>simp only[ZA,ZJ];exact Ip c a.aB a.par a.bn a.ev a.ej b d
structure ki(X:bi)(an bd:Nat)(az:List Tok)(n:Nat):Prop where
 level:∀q u i (k:Nat) r,k<=5->e6 X q u an bd az i->Go.ak.level n k (az.drop i)=some r->aD X 154 [.ptr an 0,.Z (k:Int)] q u (fU X an bd az q u r) (fg X an q u r)
 shift:∀q u i r,e6 X q u an bd az i->Go.ak.shift n (az.drop i)=some r->aD X 160 [.ptr an 0] q u (fU X an bd az q u r) (fg X an q u r)
 lS:∀q u i r,e6 X q u an bd az i->Go.ak.jC n (az.drop i)=some r->aD X 167 [.ptr an 0] q u (fU X an bd az q u r) (fg X an q u r)
 part:∀q u i r,e6 X q u an bd az i->Go.ak.part n (az.drop i)=some r->aD X 172 [.ptr an 0] q u (fU X an bd az q u r) (fg X an q u r)
 fZ:∀q u i r,e6 X q u an bd az i->Go.ak.fZ n (az.drop i)=some r->aD X 138 [.ptr an 0] q u (fU X an bd az q u r) (fg X an q u r)
 arrow:∀q u i r,e6 X q u an bd az i->Go.ak.arrow n (az.drop i)=some r->aD X 105 [.ptr an 0] q u (fU X an bd az q u r) (fg X an q u r)
 list:∀q u i r,e6 X q u an bd az i->Go.ak.list n (az.drop i)=some r->aD X 175 [.ptr an 0] q u (λR D Z=>∃a b aG bC,r=.ok (a,az.drop b)/\cl X D (b2 u Z) bC R 1 (aG.map λv=>[v])/\b5 X D (λo=>b2 u Z o/\o≠bC) a aG/\ak X D an bd az b/\br X [an] q u D Z) (fg X an q u r)
def c7{C:al}{f:Nat}{b:List z}{T ab:aY}{q:E S}{u:Nat}(P:E S->Prop)(aV:P q)(h:∀a,P a->aD C f b a u T ab):aD C f b q u T ab:=h q aV
def i7(k:IntKind)(x:Int):z.same 30 (.int k x) (.int k x)=true:=by simp only[z.same,uz];cases k<;>simp[iZ]
def ak.ex(h:ak X q an bd az i)(k:aU X q u D Z)(a:an<u)(b:bd<u):ak X D an bd az i:=h.M (k.M _ a) (k.M _ b)
def Ob(L:bZ X){n:Nat}(U:∀m,m<n->ki X an bd az m):∀q u i r,e6 X q u an bd az i->Go.ak.arrow n (az.drop i)=some r->aD X 105 [.ptr an 0] q u (fU X an bd az q u r) (fg X an q u r):=by
 intro q u i r l K;cases n with|zero=>simp[Go.ak.arrow]at K|succ n=>
 refine Fd L (Jv ..) ?_;unfold Cr;have U4:=l.aB;have U1:=l.ev;have U0:=l.bn;unfold Go.ak.arrow at K;rcases dO K with ⟨a,g,rfl⟩|⟨left,bw,g,K⟩
 ·exact((U n Zo).fZ q u i _ l g).mono zZ (λR D Z h=>h)
 refine((U n Zo).fZ q u i _ l g).mono ?_ zY;rintro U9 au ap ⟨e,T8,T1,w,T4,t⟩;cases T1;have T3:=t.le;have f:=l.go T4 T3;obtain⟨x,U6,ai,T6⟩:=kd K;refine(ij L f ai _).Zm ?_;rintro UA am aw ⟨rfl,d,k⟩;have U2:=k.le;rcases T6 with ⟨C,K⟩|⟨C,K⟩
 ·rw[C]at d ⊢;simp only[ZL]at d ⊢;rw[<-(dt ai).2]at K;refine bo bq.eq_1 ⟨?_⟩;refine c7 (λp=>aU X am aw p (aw+1+9)/\H X p aw=zP (bq x) 7) ⟨cf,aM Zo⟩ ?_;rintro p ⟨s,P⟩;rcases dO K with ⟨a,j,rfl⟩|⟨right,U7,j,K⟩
  ·refine((U n Zo).arrow p _ _ _ (f.go (d.ex s Zo (zL f.ej)) Zo) j).mono zZ (λR D Z h=>h.of (t.trans (k.trans (br.of s))) (λ_ h=>h))
  refine((U n Zo).arrow p _ _ _ (f.go (d.ex s Zo (zL f.ej)) Zo) j).mono ?_ zY;rintro v4 O U8 ⟨TZ,i4,T2,G,T5,v⟩;cases T2;have U3:=v.le;simp only[ok,Zh]at K;subst K;have T0:H X O aw=zP (bq x) 7:=by rw[v.M _ Zo Zx];exact P
  obtain⟨T9,rfl,N,_⟩:=w.ptr;obtain⟨TY,rfl,U5,_⟩:=G.ptr;have N:=N.1;refine bE (a8 T0) bq.eq_1 ⟨?_⟩;refine d9 (i7 _ _) ?_;refine⟨_,i4,rfl,bF.lit (fF:=.own) (bC:=aw+1+5) (aG:=[.ptr T9 0,.ptr TY 0]) (aM Zo) ⟨Zo,Zo⟩ ?_ ⟨Zo,Zo⟩ rfl Zo Zo (b5.two (bF.M (λo c=> ?_) _ _ w) (bF.M (λo c=> ?_) _ _ G) (λo c=> ?_) (λo c=> ?_)), ?_, ?_⟩
  ·exact z6
  ·have g:=c.1;have j:=c.2;simp(disch:=omega) only[ah];rw[v.M o Zo Zx,s.M o Zo,k.M o Zo Zx]
  ·have g:=c.1;have j:=c.2;simp(disch:=omega) only[ah]
  ·simp only[b2]at c ⊢;omega
  ·simp only[b2]at c ⊢;omega
  ·exact T5.M (zR) (by have:=f.ej;exact zR)
  ·exact⟨Zo,λb W A=>by
    rw[<-((t.trans (k.trans (br.of s))).trans v).M b W A];simp(disch:=omega) only[ah]⟩
 ·rw[C]at d ⊢;simp only[ZA,ZJ]at d ⊢;simp only[ok,Zh]at K;subst K;refine bE bq.eq_1 en.eq_1 ⟨?_⟩;refine⟨left,T8,rfl,bF.ex w (λo g j=> ?_) (Zg _) Zo,d.M (zR) (by have:=f.ej;exact zR), ?_⟩
  ·simp(disch:=omega) only[ah];exact k.M o Zo Zx
  ·exact⟨Zo,λb W A=>by rw[<-(t.trans k).M b W A];exact zR⟩
def P6(T6:bZ X){n:Nat}(U:∀m,m<n->ki X an bd az m):∀q u i r,e6 X q u an bd az i->Go.ak.fZ n (az.drop i)=some r->aD X 138 [.ptr an 0] q u (fU X an bd az q u r) (fg X an q u r):=by
 intro q u i r A K;cases n with|zero=>simp[Go.ak.fZ]at K|succ n=>
 refine Fd T6 (Kj ..) ?_;unfold CS;have Um:=A.aB;have Uh:=A.ev;have Ug:=A.bn;unfold Go.ak.fZ at K;rcases dO K with ⟨a,s,rfl⟩|⟨left,bw,s,K⟩
 ·exact((U n Zo).level q u i 0 _ Zo A s).mono zZ (λR D Z h=>h)
 refine((U n Zo).level q u i 0 _ Zo A s).mono ?_ zY;rintro V2 au ap ⟨e,UO,UD,T5,UG,G⟩;cases UD;have UF:=G.le;have T3:=A.go UG UF;obtain⟨x,Ux,ai,UM⟩:=kd K;refine(ij T6 T3 ai _).Zm ?_;rintro V3 am aw ⟨rfl,p,f⟩;have Uj:=f.le;have Ui:=T3.ej;rcases UM with ⟨TY,K⟩|⟨TY,K⟩
 ·rw[TY]at p ⊢;simp only[ZL]at p ⊢;rw[<-(dt ai).2]at K;simp only[]at K;obtain⟨T4,aE,bC,aG,rfl,T9,UP,a7,bl,Us,Ut,Uu,Uv,Uw,UQ,UJ,UL⟩:=T5.open;have T9:=T9;obtain⟨Un,Uo⟩:=T9;have b8:ay X am (.ptr T4 0)=some (.Z left.kind):=by rw[f.dn _ _ Zo Zx];exact UP
  have L:ay X am (.ptr T4 8)=some aE:=by rw[f.dn _ _ Zo Zx];exact UQ
  have bs:kD left=some true->∀(B:bS) (d:E S) (c:Nat),B.g 4=some (.ptr aw 0)->B.g 3=some (.ptr T4 0)->B.g 0=some (.ptr an 0)->aU X am aw d c->aw<c->H X d aw=zP (bq x) 7->
   cU (c+9) λUS=>bu (B.g 4) λUW=>aa (es 2 UW) λU5=>aa (ay X d U5) λU6=>bu (B.g 3) λUX=>bu (B.g 0) λUY=>aD X 138 [UY] d US (λUZ U8 UT=>aa (ea 2 [.bH,.bH] [(0,1,UX),(1,1,UZ)] (c+5)) λU4=>hb X U8 (c+5) U4.1 U4.2 λUa U9=>aa (dl [.Z 0,.Z 0,.str [],.zT,.zT,.zT,.Z 0,.int .u64 0,.ax] [(0,1,(.Z 21)),(1,1,U6),(8,1,Ua)]) λUb=>nF X U9 (c+7) Ub λUc TZ=>aa (ay X TZ U5) λUd=>d3 Ud (some U6) (fU X an bd az q u r Uc TZ UT)) (fg X an q u r):=by
   intro T8 B d c t4 t3 t0 k Ul U1;rw[T8]at K;simp only[]at K;refine dA @t4 @t3 @t0 (a8 U1) bq.eq_1 ⟨?_⟩;rcases dO K with ⟨a,t,rfl⟩|⟨right,Uy,t,K⟩
   ·refine((U n Zo).fZ d _ _ _ (T3.go (p.ex k Zo Zo) Zo) t).mono zZ (λR D Z h=>h.of (G.trans (f.trans (br.of (k.more Zo)))) (λ_ h=>h))
   refine((U n Zo).fZ d _ _ _ (T3.go (p.ex k Zo Zo) Zo) t).mono ?_ zY;rintro v4 U7 Uz ⟨Uf,i4,UE,U2,UH,P⟩;cases UE;have Uk:=P.le;simp only[ok,Zh]at K;subst K;have UA:H X U7 aw=zP (bq x) 7:=(by rw[P.M _ Zo Zx];exact U1);obtain⟨UV,rfl,Up,_⟩:=U2.ptr;refine bE (a8 UA) bq.eq_1 ⟨?_⟩;refine d9 (i7 _ _) ?_;refine⟨_,i4,rfl,bF.lit (fF:=.own) (bC:=c+5) (aG:=[.ptr T4 0,.ptr UV 0]) (aM Zo) ⟨Zo,Zo⟩ ?_ ⟨Zo,Zo⟩ rfl Zo Zo (b5.two (bF.M (λo j=> ?_) _ _ T5) (bF.M (λo j=> ?_) _ _ U2) (λo j=> ?_) (λo j=> ?_)), ?_, ?_⟩
   ·exact z6
   ·have s:=j.1;have t:=j.2;simp(disch:=omega) only[ah];rw[P.M o Zo Zx,k.M o Zo,f.M o Zo Zx]
   ·have s:=j.1;have t:=j.2;simp(disch:=omega) only[ah]
   ·simp only[b2]at j ⊢;omega
   ·simp only[b2]at j ⊢;omega
   ·exact UH.M (zR) (zR)
   ·exact⟨Zo,λb W T7=>by
     rw[<-((G.trans (f.trans (br.of (k.more (by omega:c<=c+9))))).trans P).M b W T7];simp(disch:=omega) only[ah]⟩
  have U0:kD left=some false->∀(d:E S) (c:Nat) (T:aY),aU X am aw d c->aD X 103 [.agg (bq x)] d c T (fg X an q u r):=by intro T8 d c T k;rw[T8]at K;simp only[bad,Zh]at K;subst K;refine(uf T6 (zL k.le) x _ ?_).mono (λ_ _ _ h=>h.elim) (λ_ _ _ h=>h);intro D Z UB;exact⟨_,rfl,rfl,G.trans (f.trans (br.of (k.trans UB)))⟩
  by_cases T2:left.kind=1
  ·have g:decide (left.kind≠1)=false:=(by simp[T2]);refine dF bq.eq_1 @b8 @g ⟨?_⟩;refine dN ?_;refine dF bq.eq_1 @b8 @g ⟨?_⟩;refine dN ?_;refine mO ?_;exact bs (by simp[kD,T2]) _ _ _ (aC) (aC) (aC) cf Zo (aM Zo)
  ·have g:decide (left.kind≠1)=true:=(by simp[T2]);by_cases w:left.kind=4
   ·have l:decide (left.kind≠4)=false:=(by simp[w]);cases T1:left.args with
    |nil=>simp[kD,w,T1]at K|cons a Ue=>
     obtain⟨v,UK,UC⟩:=UL.get 0 a (by rw[T1];rfl);obtain⟨dH,gd,UU⟩:=UJ.one UK;have dH:c8 1 aE (.Z 0)=some (.ptr bC 0):=dH;obtain⟨U3,rfl,UI,UR⟩:=UC.ptr;obtain⟨Uq,Ur⟩:=UI;obtain⟨V0,V1⟩:=UU;have N:ay X am (.ptr bC 0)=some (.ptr U3 0):=(by rw[f.dn _ _ Zo Zx];exact gd);have O:ay X am (.ptr U3 0)=some (.Z a.kind):=(by rw[f.dn _ _ Zo Zx];exact UR);by_cases T0:a.kind=1
     ·have C:decide (a.kind≠1)=false:=(by simp[T0]);refine dF bq.eq_1 @b8 (Za @g (Za @l (Za @L (Za @dH (Za @N (Za @O @C)))))) ⟨?_⟩;refine dN ?_;refine dF bq.eq_1 @b8 (Za @g (Za @l (Za @L (Za @dH (Za @N (Za @O @C)))))) ⟨?_⟩;refine dN ?_;refine mO ?_;exact bs (by simp[kD,w,T1,T0]) _ _ _ (aC) (aC) (aC) cf Zo (aM Zo)
     ·have C:decide (a.kind≠1)=true:=(by simp[T0]);refine dF bq.eq_1 @b8 (Za @g (Za @l (Za @L (Za @dH (Za @N (Za @O @C)))))) ⟨?_⟩;refine dN ?_;refine dF bq.eq_1 @b8 (Za @g (Za @l (Za @L (Za @dH (Za @N (Za @O @C)))))) ⟨?_⟩;refine dN ?_;refine mP ?_;refine bo bq.eq_1 ⟨?_⟩;exact U0 (by simp[kD,w,T1,T0]) _ _ _ cf
   ·have l:decide (left.kind≠4)=true:=(by simp[w]);refine dF bq.eq_1 @b8 (Za @g @l) ⟨?_⟩;refine dN ?_;refine dF bq.eq_1 @b8 (Za @g @l) ⟨?_⟩;refine dN ?_;refine mP ?_;refine bo bq.eq_1 ⟨?_⟩;exact U0 (by simp[kD,T2,w]) _ _ _ cf
 ·rw[TY]at p ⊢;simp only[ZA,ZJ]at p ⊢;simp only[ok,Zh]at K;subst K;refine bE bq.eq_1 en.eq_1 ⟨?_⟩;refine⟨left,UO,rfl,bF.ex T5 (λo s t=> ?_) (Zg _) Zo,p.M (zR) (zR), ?_⟩
  ·simp(disch:=omega) only[ah];exact f.M o Zo Zx
  ·exact⟨Zo,λb W T7=>by rw[<-(G.trans f).M b W T7];exact zR⟩
def Jd(X:bi)(an bd:Nat)(az:List Tok)(q:E S)(u:Nat)(r:Option aX×List Tok):aY:=λR D Z=>∃c,r.2=az.drop c/\ak X D an bd az c/\br X [an] q u D Z/\
 match r.1 with
 |none=>R=.tuple [.bH,.zT]|some e=>∃b k a,e=.mk k a [] false cd 0 []/\R=.tuple [.ptr b 0,.zV]/\u<=b/\b<Z/\H X D b=zP (er k a [] false cd 0 .ax) 9
def Oi(T1:bZ X)(g:mD X){k:Nat}(t:k<5)(d:e6 X q u an bd az i){r:Option aX×List Tok}(K:gV (ae k) (az.drop i)=some r):
 aD X 161 [.ptr an 0,.Z (k:Int)] q u (Jd X an bd az q u r) zX:=by
 refine Fd T1 (K1 ..) ?_;unfold Dd;have UG:=d.aB;have UD:=d.ev;have UC:=d.bn;have UE:=d.ej;obtain⟨U3,g⟩:=g;obtain⟨b,aE,T7,L⟩:=g q k t;have U5:sQ 5 1 (.ptr 8 0) (.Z k)=some (.ptr 8 k):=by simp[sQ,hV,vo,cY,t]
 have T5:=L.len;rw[Zj]at T5;have U7:=L.many;rw[Zj]at U7;refine dF @U5 @T7 @T5 ⟨?_⟩;refine dN ?_;refine cM (λm B D n=>∃j,m=(ae k).length-j/\j<=(ae k).length/\B.g 0=some (.ptr an 0)/\B.g 12=some aE/\B.g 13=some (.Z ((ae k).length:Int))/\B.g 14=some (.Z j)/\ak X D an bd az i/\br X [an] q u D n/\gV ((ae k).drop j) (az.drop i)=some r)
  (ae k).length ⟨0,Zo,Zo,aC,aC,aC,cT,d.par,br.refl _ _ _,K⟩ ?_
 rintro m B am n ⟨j,rfl,T4,t0,T9,TY,O,G,w,W⟩;have U6:=w.le;have UA:=d.go G U6;refine m0 @TY @O ⟨?_⟩;refine dN ?_;refine sp (λc=> ?_) (λc=> ?_)
 ·have c:j<(ae k).length:=Zo;have T2:(ae k).drop j=(ae k)[j]::(ae k).drop (j+1):=Zz c;rw[T2]at W;have T3:=L.c4 j (by simpa using c);have p:=((g am k t).choose_spec);obtain⟨bp,UB,T8,T6⟩:=g am k t;have U8:UB=aE:=by
   have e:ay X am (.ptr 8 k)=ay X q (.ptr 8 k):=by
    rw[bB,bB]
    have:∀q:E S,H X q 8=X.G.get 8:=λq=>by have U4:Nat.blt 8 (y X).aB=true:=(by simp[Nat.blt];exact U3);simp only[H,U4,cI];rfl
    rw[this,this]
   rw[e,T7]at T8;exact(Y6 T8).symm
  subst U8;have T3:=T6.c4 j (by simpa using c);have p:=λa (h:∀o,o<X.aB->H X a o=H X am o)=>(T6.M (D:=a) h).row Zd (i:=j) (r:=[.str (ae k)[j].1,.Z (ae k)[j].2]) (by rw[Zt,Zb c];rfl);have p:=p am (λ_ _=>rfl);generalize (ae k)[j]=I at W p T2;obtain⟨s,N⟩:=I;simp only[gV]at W;refine dA @T9 @O @T3 @p @t0 ⟨?_⟩;refine c7 (λa=>aU X am n a (n+1)/\H X a n=zP [.str s,.Z N] 2) ⟨cf,aM Zo⟩ ?_;rintro a ⟨P,U1⟩;cases ai:az.drop i with
  |nil=>rw[ai]at W;simp[f5]at W|cons x l=>
   rw[ai]at W;refine(ij T1 (UA.go (G.ex P Zo Zo) Zo) ai s).Zm ?_;rintro R TZ U9 ⟨rfl,f,A⟩;have UF:=A.le;have U2:H X TZ n=zP [.str s,.Z N] 2:=(by rw[A.M _ Zo Zx];exact U1);have T0:=w.trans ((br.of P).trans A);cases v:d4 x s with
   |true=>
    rw[v]at f;simp only[f5,v,ZL]at W f ⊢;simp only[Zh]at W;subst W;refine bE bq.eq_1 (a8 U2) ⟨?_⟩;refine⟨i+1,(dt ai).2.symm,f.M (zR) (zR), ?_,U9+1,N,x.at_,rfl,rfl,Zo,Zo, ?_⟩
    ·exact⟨Zo,λb W C=>by rw[<-T0.M b W C];exact zR⟩
    ·exact z6
   |false=>
    rw[v]at f;simp only[f5,v,ZA,ZJ]at W f ⊢;have U0:=zQ j;refine df bq.eq_1 en.eq_1 @O @U0 ⟨?_⟩;refine⟨_, ?_,j+1,rfl,Zo,af t0,af T9,af TY,aC,f.M (zR) (zR), ?_,W⟩
    ·omega
    ·exact⟨Zo,λb W C=>by rw[<-T0.M b W C];exact zR⟩
 ·have T4:j=(ae k).length:=Zo;subst T4;rw[List.drop_length]at W;simp only[gV,Zh]at W;subst W;refine bx ⟨?_⟩;exact⟨i,rfl,G,w,rfl⟩
def Ss(T8:bZ X)(U5:mD X){n:Nat}(U:∀m,m<n->ki X an bd az m):∀q u i (k:Nat) r,k<=5->e6 X q u an bd az i->Go.ak.level n k (az.drop i)=some r->aD X 154 [.ptr an 0,.Z (k:Int)] q u (fU X an bd az q u r) (fg X an q u r):=by
 intro q u i k r UN d K;cases n with|zero=>simp[Go.ak.level]at K|succ n=>
 refine Fd T8 (KL ..) ?_;unfold C6;have UR:=d.aB;have UL:=d.ev;have UI:=d.bn;have UM:=d.ej;unfold Go.ak.level at K;by_cases TY:k=5
 ·subst TY;rw[Zv rfl]at K;have A:decide (((5:Nat):Int)=5)=true:=rfl;refine bo @A ⟨?_⟩;exact(U n Zo).shift q u i r d K
 ·rw[Zi TY]at K;have A:decide ((k:Int)=5)=false:=by simp;omega
  have T3:=zQ k;refine bE @A @T3 ⟨?_⟩;rcases dO K with ⟨a,g,rfl⟩|⟨left,bw,g,K⟩
  ·exact((U n Zo).level q u i (k+1) _ Zo d g).mono zZ (λR D Z h=>h)
  refine((U n Zo).level q u i (k+1) _ Zo d g).mono ?_ zY;rintro UF au ap ⟨e,UC,U7,T6,U0,N⟩;cases U7;have UO:=N.le;refine dN ?_;refine cM (λm B D U1=>∃left v t,m<=n/\B.g 0=some (.ptr an 0)/\B.g 1=some (.Z k)/\B.g 5=some v/\bF X D (b2 u U1) left v/\ak X D an bd az t/\br X [an] q u D U1/\g9 m k left (az.drop t)=some r)
   n ⟨left,UF,UC,Zg _,aC,aC,aC,T6,U0,N,K⟩ ?_
  clear T6 U0 N g K;rintro m B am aw ⟨left,v,UD,UQ,t0,t1,t5,L,UA,l,K⟩;cases m with|zero=>simp[g9]at K|succ m=>
  unfold g9 at K;have U9:=l.le;have P:=d.go UA U9;refine dN ?_;refine bE @t0 @t1 ⟨?_⟩;cases W:gV (ae k) (az.drop UD)with
  |none=>rw[W]at K;cases K|some UE=>
  rw[W]at K;refine(Oi T8 U5 Zo P W).Zm ?_;rintro UW T2 U2 ⟨i3,T9,O,j,s⟩;have TZ:=j.le;obtain⟨ro,UV⟩:=UE;simp only[]at T9;subst T9;cases ro with
  |none=>simp only[]at s K;subst s;simp only[ok,Zh]at K;subst K;refine bo @t5 ⟨?_⟩;exact⟨left,i3,rfl,bF.fr L j Zo Zo (Zg _) Zo,O,l.trans j⟩|some e=>
   simp only[]at s K;obtain⟨b,w,a,rfl,rfl,UJ,UK,U3⟩:=s;refine df @t0 @t1 @t5 @T3 ⟨?_⟩;rcases dO K with ⟨UG,G,rfl⟩|⟨right,UU,G,K⟩
   ·refine((U m Zo).level T2 U2 i3 (k+1) _ Zo (P.go O TZ) G).mono zZ (λR D Z h=>h.of (l.trans j) (λ_ h=>h))
   refine((U m Zo).level T2 U2 i3 (k+1) _ Zo (P.go O TZ) G).mono ?_ zY;rintro v4 x f ⟨UH,i4,U8,T7,UB,p⟩;cases U8;have UP:=p.le;have U4:H X x b=zP (er w a [] false cd 0 .ax) 9:=(by rw[p.M _ Zo Zx];exact U3);obtain⟨T0,rfl,US,_⟩:=L.ptr;obtain⟨T1,rfl,UT,_⟩:=T7.ptr;refine cg @t5 @U4 @t1 ⟨?_⟩;have fin:∀dW,dW=aH X (aH X x f (zP [.ptr T0 0,.ptr T1 0] 2)) b (zP (er w a [] false cd 0 (.slice f 0 2 2)) 9)->bF X dW (b2 u (f+1)) (two (.mk w a [] false cd 0 []) left right) (.ptr b 0)/\ak X dW an bd az i4/\br X [an] q u dW (f+1):=by
    rintro dW rfl;refine⟨bF.lit (fF:=.own) (bC:=f) (aG:=[.ptr T0 0,.ptr T1 0]) (aM Zo) ⟨Zo,Zo⟩ ?_ ⟨Zo,Zo⟩ rfl Zo Zo (b5.two (bF.M (λo c=> ?_) _ _ L) (bF.M (λo c=> ?_) _ _ T7) (λo c=> ?_) (λo c=> ?_)), ?_, ?_⟩
    ·simp(disch:=omega) only[ah,aM]
    ·have g:=c.1;have C:=c.2;simp(disch:=omega) only[ah];rw[p.M o Zo Zx,j.M o Zo Zx]
    ·have g:=c.1;have C:=c.2;simp(disch:=omega) only[ah]
    ·simp only[b2]at c ⊢;omega
    ·simp only[b2]at c ⊢;omega
    ·exact UB.M (zR) (zR)
    ·exact⟨Zo,λo c U6=>by
      rw[<-((l.trans j).trans p).M o c U6];simp(disch:=omega) only[ah]⟩
   obtain⟨T4,T5,f3⟩:=fin (aH X (aH X x f (zP [.ptr T0 0,.ptr T1 0] 2)) b (some (.cells (cj (E.ofList (er w a [] false cd 0 .ax) 0 .nil) 8 (z.slice f 0 2 2).cells) 9 .own))) rfl;refine sp (λC=> ?_) (λC=> ?_)
   ·have dB:k=2:=Zo;rw[Zv dB]at K;simp only[ok,Zh]at K;subst K;exact⟨_,i4,rfl,T4,T5,f3⟩
   ·rw[Zi Zo]at K;exact⟨m,Zo,_,.ptr b 0,i4,Zo,af t0,af t1,aC,T4,T5,f3,K⟩
def abH(T1:bZ X){n:Nat}(U:∀m,m<n->ki X an bd az m):∀q u i r,e6 X q u an bd az i->Go.ak.shift n (az.drop i)=some r->aD X 160 [.ptr an 0] q u (fU X an bd az q u r) (fg X an q u r):=by
 intro q u i r p K;cases n with|zero=>simp[Go.ak.shift]at K|succ n=>
 refine Fd T1 (KZ ..) ?_;unfold Dc;have Un:=p.aB;have Uh:=p.ev;have Ug:=p.bn;have Ui:=p.ej;unfold Go.ak.shift at K;rcases dO K with ⟨a,f,rfl⟩|⟨left,bw,f,K⟩
 ·exact((U n Zo).lS q u i _ p f).mono zZ (λR D Z h=>h)
 refine((U n Zo).lS q u i _ p f).mono ?_ zY;rintro Ub au ap ⟨e,UY,US,UA,UF,TY⟩;cases US;have UT:=TY.le;refine dN ?_;refine cM (λm B D N=>∃left v w,B.g 0=some (.ptr an 0)/\B.g 3=some v/\bF X D (b2 u N) left v/\ak X D an bd az w/\br X [an] q u D N/\hr m left (az.drop w)=some r)
  n ⟨left,Ub,UY,aC,aC,UA,UF,TY,K⟩ ?_
 clear UA UF TY f K UT;rintro m B am aw ⟨left,v,U5,t0,t3,T0,UG,TZ,K⟩;cases m with|zero=>simp[hr]at K|succ m=>
 unfold hr at K;have UU:=TZ.le;have U7:=p.go UG UU;refine dN ?_;obtain⟨U8,rfl,UI,_⟩:=T0.ptr;have UI:=UI.2;refine bo @t0 ⟨?_⟩;obtain⟨x,Uq,ai,UJ⟩:=kd K;refine(ij T1 U7 ai _).Zm ?_;rintro Ut UM d ⟨rfl,t,A⟩;have Uj:=A.le;have UD:=ai;refine js bq.eq_1 ⟨?_⟩;refine eO (λP D N=>∃T2 T5 x w bv,P.g 0=some (.ptr an 0)/\P.g 3=some (.ptr U8 0)/\P.g 4=some (.Z T5)/\P.g 5=some (.ptr bv 0)/\P.g 6=some (.bool T2)/\H X D bv=zP (bq x) 7/\aw<=bv/\bv<N/\bF X D (b2 u aw) left (.ptr U8 0)/\ak X D an bd az w/\br X [an] q u D N/\aw<=N/\
  (T2=true->hs m T5 x left (az.drop w)=some r)/\(T2=false->r=.ok (left,az.drop w))) (λj U1=> ?_) ?_
 ·have Uf:∀q,H X (aH X (aH X q d (zP (bq en) 7)) d (some (.cells (cj (E.ofList (bq en) 0 .nil) 0 (bq x)) 7 .own))) d=zP (bq x) 7:=λq=>aM Zo;rcases UJ with ⟨U3,K⟩|⟨U3,K⟩
  ·rw[U3]at t ⊢;simp only[ZL]at t ⊢;refine bx ⟨?_⟩;refine U1 _ _ _ ⟨true,19,x,U5+1,d,af t0,af t3,aC,aC,aC,aM Zo,Zo,Zo, ?_,t.M (zR) (zR), ?_,Zo,λ_=>by rw[(dt UD).2];exact K,λh=>by cases h⟩
   ·refine bF.ex T0 (λo f g=> ?_) (Zg _) (Zg _);simp(disch:=omega) only[ah];exact A.M o Zo Zx
   ·exact⟨Zo,λo c s=>by rw[<-(TZ.trans A).M o c s];exact zR⟩
  ·rw[U3]at t ⊢;simp only[ZA,ZJ]at t ⊢;simp only[]at K;refine bo @t0 ⟨?_⟩;refine c7 (λT6=>aU X UM d T6 (d+1)/\H X T6 d=zP (bq en) 7) ⟨cf,aM Zo⟩ ?_;rintro T6 ⟨T9,UN⟩;have Ua:=U7.go (t.ex T9 Zo Zo) (by omega:aw<=d+1);obtain⟨o,Ur,UE,UX⟩:=kd K;refine(ij T1 Ua UE _).Zm ?_;rintro Uu U9 Us ⟨rfl,L,T4⟩;have Uk:=T4.le;have T8:H X U9 d=zP (bq en) 7:=(by rw[T4.M _ Zo Zx];exact UN);have UK:∀o,o<aw->o≠an->H X U9 o=H X am o:=λo f g=>(by rw[T4.M o Zo (by simpa using g),T9.M o Zo,A.M o Zo (by simpa using g)]);have C:=((TZ.trans A).trans (br.of T9)).trans T4;unfold bq en cd at T8;rcases UX with ⟨U4,K⟩|⟨U4,K⟩
   ·rw[U4]at L ⊢;simp only[ZL]at L ⊢;refine bE bq.eq_1 @T8 ⟨?_⟩;refine U1 _ _ _ ⟨true,20,o,U5+1,d,af t0,af t3,aC,aC,aC,aM Zo,Zo,Zo, ?_,L.M (zR) (zR), ?_,Zo,λ_=>by rw[(dt UE).2];exact K,λh=>by cases h⟩
    ·refine bF.ex T0 (λo f g=> ?_) (Zg _) (Zg _);simp(disch:=omega) only[ah];exact UK o g Zo
    ·exact⟨Zo,λo c s=>by rw[<-C.M o c s];exact zR⟩
   ·rw[U4]at L ⊢;simp only[ZA,ZJ]at L ⊢;simp only[ok,Zh]at K;refine df bq.eq_1 en.eq_1 cd.eq_1 @T8 ⟨?_⟩;refine U1 _ _ _ ⟨false,20,en,U5,d,af t0,af t3,aC,aC,aC,aM Zo,Zo,Zo, ?_,L.M (zR) (zR), ?_,Zo,λh=>(by cases h),λ_=>K.symm⟩
    ·refine bF.ex T0 (λo f g=> ?_) (Zg _) (Zg _);simp(disch:=omega) only[ah];exact UK o g Zo
    ·exact⟨Zo,λo c s=>by rw[<-C.M o c s];exact zR⟩
 ·clear T0 t A UJ K ai UD UG U7;rintro Ue Ud UZ ⟨T2,T5,x,U6,bv,t0,t3,t4,t5,UL,UO,Uo,Up,UB,UH,C,Ul,c,UV⟩;cases T2 with
  |false=>have K:=UV rfl;subst K;refine bE @UL @t3 ⟨?_⟩;exact⟨left,U6,rfl,bF.lift (λo c=>⟨c.1,zL c.2⟩) _ _ UB,UH,C⟩|true=>
   have K:=c rfl;cases m with|zero=>simp[hs]at K|succ m=>
   unfold hs at K;have O:=p.go UH (by omega:u<=UZ);refine bE @UL @t0 ⟨?_⟩;cases ai:az.drop U6 with|nil=>rw[ai]at K;simp[ew,andThen]at K|cons o l=>
   rw[ai]at K;simp only[ew]at K;refine(pv T1 O.aB O.par O.bn O.ev O.ej O.many (dt ai).1 4).mono ?_ ?_
   ·rintro Uc T7 T3 ⟨U2,rfl,UW,G⟩;have Um:=G.le;rw[Zv U2]at K;simp only[andThen,ok]at K;have UP:H X T7 bv=zP (bq x) 7:=(by rw[G.M _ Zo Zx];exact UO);have UR:=bF.ex (D:=T7) UB (λo f g=>G.M o Zo Zx) (Zg _) (Zg _);have UC:=C.trans G;refine js bq.eq_1 ⟨?_⟩;refine dN ?_;refine sp (λU0=> ?_) (λU0=> ?_)
    ·rw[Zv U0]at K;simp only[bad,Zh]at K;subst K;refine bo bq.eq_1 ⟨?_⟩;refine(uf T1 Zo o _ ?_).mono (λ_ _ _ h=>h.elim) (λ_ _ _ h=>h);intro D Z UQ;exact⟨_,rfl,rfl,UC.trans (br.of (aU.trans cf UQ))⟩
    ·rw[Zi U0]at K;refine dA bq.eq_1 @t4 @t5 @t3 (a8 UP) ⟨?_⟩;refine⟨m,Zo,_,.ptr (T3+1+1) 0,U6+1,af t0,aC,bF.lit (k:=1) (cap:=1) (n:=o.n) (kind:=T5) (at_:=x.at_) (name:=[]) (no:=false) (ty:=cd) (b:=T3+1+1) (fF:=.own) (bC:=T3+1) (aG:=[.ptr U8 0]) (aM (b:=T3+1+1) Zo) ⟨Zo,Zo⟩ ?_ ⟨Zo,Zo⟩ rfl Zo Zo (b5.one (bF.M (λo c=> ?_) _ _ UR) (λo c=> ?_)), ?_, ?_,by rw[(dt ai).2];exact K⟩
     ·exact z6
     ·have f:=c.1;have g:=c.2;simp(disch:=omega) only[ah]
     ·simp only[b2]at c ⊢;omega
     ·exact UW.M (zR) (zR)
     ·exact⟨Zo,λo c s=>by
       rw[<-UC.M o c s];simp(disch:=omega) only[ah]⟩
   ·rintro Uc T7 T3 ⟨U2,rfl,G⟩;rw[Zi U2]at K;simp only[andThen,bad,Zh]at K;subst K;exact⟨_,rfl,rfl,C.trans G⟩
def RI{n aN j:Nat}{cs:List z}(k:IntKind)(h:j<n):ky true n aN (.agg cs) (.int k (j:Int))=some (.agg ((cs.drop (j*aN)).take aN)):=by simp[ky,hV,cY,h]
def Bx:List z:=[.str [110,111,116],.Z 3,.str [45],.Z 4,.str [112,114,101],.Z 5]
def aar{j:Nat}(h:j<3):∃s k,n5.drop j=(s,k)::n5.drop (j+1)/\(Bx.drop (j*2)).take 2=[.str s,.Z k]:=by
 match j,h with
 |0,_=>exact⟨_,_,rfl,rfl⟩|1,_=>exact⟨_,_,rfl,rfl⟩|2,_=>exact⟨_,_,rfl,rfl⟩
def aau(TZ:bZ X){n:Nat}(U:∀m,m<n->ki X an bd az m):∀q u i r,e6 X q u an bd az i->Go.ak.jC n (az.drop i)=some r->aD X 167 [.ptr an 0] q u (fU X an bd az q u r) (fg X an q u r):=by
 intro q u i r A K;cases n with|zero=>simp[Go.ak.jC]at K|succ n=>
 refine Fd TZ (K7 ..) ?_;unfold Dg;have VB:=A.aB;have V5:=A.ev;have V4:=A.bn;have V6:=A.ej;unfold Go.ak.jC at K;cases W:gV n5 (az.drop i)with
 |none=>rw[W]at K;cases K|some Ug=>
 rw[W]at K;refine h8 ⟨?_⟩;refine eO (λB D T4=>B.g 0=some (.ptr an 0)/\ak X D an bd az i/\br X [an] q u D T4/\Ug=(none,az.drop i)) (λj UJ=> ?_) ?_
 ·refine cM (λm B D T4=>∃j,m=3-j/\j<=3/\B.g 0=some (.ptr an 0)/\B.g 15=some (.agg Bx)/\B.g 16=some (.Z j)/\ak X D an bd az i/\br X [an] q u D T4/\gV (n5.drop j) (az.drop i)=some Ug)
   3 ⟨0,rfl,Zo,aC,cT,cT,A.par,br.refl _ _ _,W⟩ ?_
  rintro m B am aw ⟨j,rfl,V7,t0,Uh,UP,U0,T1,W⟩;have UL:=T1.le;have T6:=A.go U0 UL;refine js @UP ⟨?_⟩;refine dN ?_;refine sp (λU6=> ?_) (λU6=> ?_)
  ·have U6:j<3:=Zo;obtain⟨s,UA,Uo,Uu⟩:=aar U6;rw[Uo]at W;simp only[gV]at W;have Ua:=RI (n:=3) (aN:=2) (cs:=Bx) .i64 U6;rw[Uu]at Ua;refine df @Uh @UP @Ua @t0 ⟨?_⟩;refine c7 (λP=>aU X am aw P (aw+1)/\H X P aw=zP [.str s,.Z UA] 2) ⟨cf,aM Zo⟩ ?_;rintro P ⟨T9,Uk⟩;cases ai:az.drop i with|nil=>rw[ai]at W;simp[f5]at W|cons x l=>
   rw[ai]at W;refine(ij TZ (T6.go (U0.ex T9 Zo Zo) Zo) ai s).Zm ?_;rintro R UQ G ⟨rfl,T3,UI⟩;have V9:=UI.le;have UR:H X UQ aw=zP [.str s,.Z UA] 2:=(by rw[UI.M _ Zo Zx];exact Uk);have UX:=T1.trans ((br.of T9).trans UI);cases C:d4 x s with
   |true=>
    rw[C]at T3;simp only[f5,C,ZL]at W T3 ⊢;simp only[Zh]at W;subst W;simp only[]at K;refine cg bq.eq_1 (a8 UR) @t0 ⟨?_⟩;refine c7 (λp=>aU X UQ G p (G+1+10)/\H X p G=zP (bq x) 7) ⟨cf,aM Zo⟩ ?_;rintro p ⟨L,UE⟩;have UB:=T6.go (T3.ex L Zo Zo) (by omega:aw<=G+1+10);have UV:=UX.trans (br.of L);rw[<-(dt ai).2]at K;rcases dO K with ⟨a,UF,rfl⟩|⟨V2,Ux,UF,K⟩
    ·exact((U n Zo).lS p _ _ _ UB UF).mono zZ (λR D Z h=>h.of UV (λ_ h=>h))
    refine((U n Zo).lS p _ _ _ UB UF).mono ?_ zY;rintro VH T0 g ⟨V3,U9,Uq,U3,U7,w⟩;cases Uq;have Us:=w.le;simp only[ok,Zh]at K;subst K;obtain⟨Uz,rfl,VC,_⟩:=U3.ptr;have T8:H X T0 G=zP (bq x) 7:=(by rw[w.M _ Zo Zx];exact UE);have US:H X T0 aw=zP [.str s,.Z UA] 2:=(by rw[w.M _ Zo Zx,L.M _ Zo];exact UR);refine cg (a8 T8) (a8 US) bq.eq_1 ⟨?_⟩;refine d9 (i7 _ _) ?_;refine cg (a8 T8) (a8 US) bq.eq_1 ⟨?_⟩;refine d9 (i7 _ _) ?_;refine⟨_,U9,rfl,bF.lit (k:=1) (cap:=1) (n:=0) (kind:=UA) (at_:=x.at_) (name:=[]) (no:=false) (ty:=cd) (b:=G+1+8) (fF:=.own) (bC:=G+1+6) (aG:=[.ptr Uz 0]) (aM (b:=G+1+8) Zo) ⟨Zo,Zo⟩ ?_ ⟨Zo,Zo⟩ rfl Zo Zo (b5.one (bF.M (λo f=> ?_) _ _ U3) (λo f=> ?_)), ?_, ?_⟩
    ·exact z6
    ·have t:=f.1;have U2:=f.2;simp(disch:=omega) only[ah]
    ·simp only[b2]at f ⊢;omega
    ·exact U7.M (zR) (zR)
    ·exact⟨Zo,λo f O=>by
      rw[<-(UV.trans w).M o f O];simp(disch:=omega) only[ah]⟩
   |false=>
    rw[C]at T3;simp only[f5,C,ZA,ZJ]at W T3 ⊢;have Uj:=zQ j;refine df bq.eq_1 en.eq_1 @UP @Uj ⟨?_⟩;refine⟨_, ?_,j+1,rfl,Zo,af t0,af Uh,aC,T3.M (zR) (zR), ?_,W⟩
    ·omega
    ·exact⟨Zo,λb W O=>by rw[<-UX.M b W O];exact zR⟩
  ·have UJ:j=3:=Zo;subst UJ;simp only[n5,Yz,Yk,gV,Zh]at W;refine bx ⟨?_⟩;exact UJ _ _ _ ⟨af t0,U0,T1,W.symm⟩
 ·clear W;rintro V1 dT aB ⟨t0,Uc,U4,rfl⟩;simp only[]at K;have Ub:=U4.le;have UN:=A.go Uc Ub;refine bo @t0 ⟨?_⟩;rcases dO K with ⟨a,t,rfl⟩|⟨left,bw,t,K⟩
  ·exact((U n Zo).part dT aB i _ UN t).mono zZ (λR D Z h=>h.of U4 (λ_ h=>h))
  refine((U n Zo).part dT aB i _ UN t).mono ?_ zY;rintro V0 au ap ⟨e,Uw,Up,UT,Ud,UG⟩;cases Up;have Ur:=UG.le;refine dN ?_;refine cM (λm B D T4=>∃left v U8,B.g 0=some (.ptr an 0)/\B.g 7=some v/\bF X D (b2 u T4) left v/\ak X D an bd az U8/\br X [an] q u D T4/\gU m left (az.drop U8)=some r)
   n ⟨left,V0,Uw,af t0,aC,bF.lift (λo f=>⟨zL f.1,f.2⟩) _ _ UT,Ud,U4.trans UG,K⟩ ?_
  clear UT Ud UG t K Ur t0 Uc U4 Ub UN;rintro m B am aw ⟨left,v,U1,t0,Ui,UU,U0,T1,K⟩;cases m with|zero=>simp[gU]at K|succ m=>
  unfold gU at K;have UL:=T1.le;have T6:=A.go U0 UL;refine dN ?_;obtain⟨UO,rfl,Ue,_⟩:=UU.ptr;have Ue:=Ue.2;refine bo @t0 ⟨?_⟩;obtain⟨x,VD,ai,Uv⟩:=kd K;refine(ij TZ T6 ai _).Zm ?_;rintro VF P T5 ⟨rfl,T2,UH⟩;have V8:=UH.le;have UY:=T1.trans UH;have T9:=bF.ex (D:=P) UU (λo t U2=>UH.M o Zo Zx) (Zg _) (Zg _);rcases Uv with ⟨C,K⟩|⟨C,K⟩
  ·rw[C]at T2 ⊢;simp only[ZL]at T2 ⊢;rw[<-(dt ai).2]at K;simp only[]at K;refine bE bq.eq_1 @t0 ⟨?_⟩;refine c7 (λp=>aU X P T5 p (T5+1)/\H X p T5=zP (bq x) 7) ⟨cf,aM Zo⟩ ?_;rintro p ⟨L,UE⟩;have UB:=T6.go (T2.ex L Zo Zo) (by omega:aw<=T5+1);obtain⟨o,Ux,UZ,Uf⟩:=kd K;refine(ij TZ UB UZ _).Zm ?_;rintro VG T0 g ⟨rfl,U7,w⟩;have Us:=w.le;have T8:H X T0 T5=zP (bq x) 7:=(by rw[w.M _ Zo Zx];exact UE);have UW:=(UY.trans (br.of L)).trans w;have U3:=bF.ex (D:=T0) T9 (λo t U2=>by rw[w.M o Zo Zx,L.M o Zo]) (Zg _) (Zg _);have d:andThen (ew 1 (az.drop (if d4 o [110,111,116]then U1+1+1 else U1+1))) (λc l=>gU m (.mk 6 x.at_ c.text (d4 o [110,111,116]) cd 0 [left]) l)=some r:=by
    rcases Uf with ⟨UM,d⟩|⟨UM,d⟩
    ·simp only[UM,ZL];rw[(dt UZ).2];exact d
    ·simp only[UM,ZA,ZJ];exact d
   clear K Uf;generalize (if d4 o [110,111,116]then U1+1+1 else U1+1)=U9 at d U7;generalize (if d4 o [110,111,116]then o else en)=VI;generalize d4 o [110,111,116]=no at d;refine df bq.eq_1 (a8 T8) @t0 @Ui ⟨?_⟩;refine c7 (λUC=>aU X T0 g UC (g+1+11)/\H X UC (g+1+7)=zP [.ptr UO 0] 1) ⟨cf,aM Zo⟩ ?_;rintro UC ⟨TY,Ul⟩;have T7:=T6.go (U7.ex TY Zo Zo) (by omega:aw<=g+1+11);cases U5:az.drop U9 with|nil=>rw[U5]at d;simp[ew,andThen]at d|cons c VE=>
   rw[U5]at d;simp only[ew]at d;refine(pv TZ T7.aB T7.par T7.bn T7.ev T7.ej T7.many (dt U5).1 1).mono ?_ ?_
   ·rintro u8 UD Uy ⟨UK,rfl,Ut,N⟩;have VA:=N.le;rw[Zv UK]at d;simp only[andThen,ok]at d;have Um:H X UD T5=zP (bq x) 7:=(by rw[N.M _ Zo Zx,TY.M _ Zo];exact T8);have Un:H X UD (g+1+7)=zP [.ptr UO 0] 1:=(by rw[N.M _ Zo Zx];exact Ul);refine bE bq.eq_1 (a8 Um) ⟨?_⟩;refine d9 (i7 _ _) ?_;refine⟨m,Zo,_,.ptr (g+1+9) 0,U9+1,af t0,aC,bF.lit (k:=1) (cap:=1) (n:=0) (kind:=6) (at_:=x.at_) (name:=c.text) (no:=no) (ty:=cd) (b:=g+1+9) (fF:=.own) (bC:=g+1+7) (aG:=[.ptr UO 0]) (aM (b:=g+1+9) Zo) ⟨Zo,Zo⟩ ?_ ⟨Zo,Zo⟩ rfl Zo Zo (b5.one (bF.M (λo f=> ?_) _ _ U3) (λo f=> ?_)), ?_, ?_,by rw[(dt U5).2];exact d⟩
    ·simp(disch:=omega) only[ah];exact Un
    ·have t:=f.1;have U2:=f.2;simp(disch:=omega) only[ah];rw[N.M o Zo Zx,TY.M o Zo]
    ·simp only[b2]at f ⊢;omega
    ·exact Ut.M (zR) (zR)
    ·exact⟨Zo,λo f O=>by
      rw[<-((UW.trans (br.of TY)).trans N).M o f O];simp(disch:=omega) only[ah]⟩
   ·rintro u8 UD Uy ⟨UK,rfl,N⟩;rw[Zi UK]at d;simp only[andThen,bad,Zh]at d;subst d;exact⟨_,rfl,rfl,(UW.trans (br.of TY)).trans N⟩
  ·rw[C]at T2 ⊢;simp only[ZA,ZJ]at T2 ⊢;simp only[ok,Zh]at K;subst K;refine cg bq.eq_1 en.eq_1 @Ui ⟨?_⟩;refine⟨left,U1,rfl,bF.ex T9 (λo t U2=> ?_) (Zg _) Zo,T2.M (zR) (zR), ?_⟩
   ·simp(disch:=omega) only[ah]
   ·exact⟨Zo,λb W O=>by rw[<-UY.M b W O];exact zR⟩
def mv(a b:Nat)(aW:List Nat):Nat->Prop:=λo=>a<=o/\o<b/\o∉aW
def b5.off{C:al}{aI:Nat->Prop}{a b bC:Nat}{aW:List Nat}{aE:z}{c:List aX}{aG:List z}(h:b5 C q (mv a b aW) c aG)(K:cl C q (λo=>aI o/\o∈aW) bC aE 1 (aG.map λv=>[v])):b5 C q (λo=>b2 a b o/\o≠bC) c aG:=by
 cases aG with
 |nil=>
  have:=h.len;cases c with
  |nil=>exact .nil|cons=>simp at this
 |cons v aG=>have W:=(K.W Zs).2;exact b5.lift (λo d=>⟨⟨d.1,d.2.1⟩,λe=>d.2.2 (e▸W)⟩) _ _ h
def fH(d:bZ X)(a:e6 X q u an bd az i){bC:Nat}{s:aA}(f:bC<u)(j:bC≠an)(h:H X q bC=zP [.str s] 1){r:Except Int (Tok×List Tok)}(K:ce s (az.drop i)=some r):
 aD X 66 [.ptr an 0,.slice bC 0 1 1] q u (λR D Z=>∃x b,r=.ok (x,az.drop b)/\R=.agg (bq x)/\ak X D an bd az b/\br X [an] q u D Z) (fg X an q u r):=by
 have c:cl X q (λo=>o=bC) bC (.slice bC 0 1 1) 1 (dh [s]):=u4 (aR:=[[.str s]]) (st:=.own) h rfl Zs Zs rfl;refine(IL d a.aB a.par a.bn a.ev a.ej a.many f j c (r:=r) ?_);simp only[kI];rw[K];obtain⟨e|⟨x,l⟩,_⟩:∃V,V=r:=⟨r,rfl⟩;all_goals(rename_i g;subst g;rfl)
def SB(T3:bZ X){n:Nat}(Ut:n<=300000)(U:∀m,m<n->ki X an bd az m):∀q u i r,e6 X q u an bd az i->Go.ak.list n (az.drop i)=some r->aD X 175 [.ptr an 0] q u (λR D Z=>∃j p aG bC,r=.ok (j,az.drop p)/\cl X D (b2 u Z) bC R 1 (aG.map λv=>[v])/\b5 X D (λo=>b2 u Z o/\o≠bC) j aG/\ak X D an bd az p/\br X [an] q u D Z) (fg X an q u r):=by
 intro q u i r L K;cases n with|zero=>simp[Go.ak.list]at K|succ n=>
 refine Fd T3 (K9 ..) ?_;unfold Dh;have Us:=L.aB;have Um:=L.ev;have Ul:=L.bn;have Un:=L.ej;unfold Go.ak.list at K;obtain⟨x,Uf,ai,U6⟩:=kd K;refine(ij T3 L ai _).Zm ?_;rintro Uv au ap ⟨rfl,O,TZ⟩;have Uo:=TZ.le;rcases U6 with ⟨N,K⟩|⟨N,K⟩
 ·rw[N]at O ⊢;simp only[ZL]at O ⊢;simp only[ok,Zh]at K;subst K;refine bo bq.eq_1 ⟨?_⟩;refine⟨[],i+1,[],0,by rw[(dt ai).2],cl.nil _ _,.nil,O.M (zR) (zR), ?_⟩;exact⟨Zo,λb W T4=>by rw[<-TZ.M b W T4];exact zR⟩
 ·rw[N]at O ⊢;simp only[ZA,ZJ]at O ⊢;simp only[]at K;refine bE bq.eq_1 en.eq_1 ⟨?_⟩;refine c7 (λw=>aU X au ap w (ap+1)) cf ?_;intro am UE;have UO:=L.go (O.ex UE Zo Zo) (by omega:u<=ap+1);have UG:=TZ.trans (br.of UE);rcases dO K with ⟨a,f,rfl⟩|⟨e,Uu,f,K⟩
  ·exact((U n Zo).arrow am _ _ _ UO f).mono zZ (λR D Z h=>h.of UG (λ_ h=>by cases h;rfl))
  refine((U n Zo).arrow am _ _ _ UO f).mono ?_ zY;rintro v3 w U9 ⟨Uk,i3,UU,TY,UI,U0⟩;cases UU;have Up:=U0.le;obtain⟨Uh,rfl,U5,_⟩:=TY.ptr;have U5:=U5.2;refine bx ⟨?_⟩;refine cM (λm B D U8=>∃j aG s aW p,aG.length+m<=n+1/\B.g 0=some (.ptr an 0)/\B.g 5=some s/\da X D s 1 aG aW/\(∀o∈aW,u<=o/\o<U8)/\b5 X D (mv u U8 aW) j aG/\ak X D an bd az p/\br X [an] q u D U8/\ha m j (az.drop p)=some r)
   n ⟨[e],[.ptr Uh 0],.slice U9 0 1 1,[U9],i3,Zx,aC,aC,.inr ⟨U9,1,_,_,rfl,rfl,rfl,aM Zo,gv _,rfl,Zo⟩, ?_, ?_,UI.M (zR) (zR), ?_,K⟩ ?_
  ·intro o c;simp at c;omega
  ·refine b5.one (bF.M (λo c=> ?_) _ _ TY) (λo c=>⟨zL c.1,zL c.2,by have:=c.2;simp;omega⟩);have:=c.2;simp(disch:=omega) only[ah]
  ·exact⟨Zo,λb W T4=>by rw[<-(UG.trans U0).M b W T4];exact zR⟩
  clear TY UI U0 f K U5;rintro m B UP UA ⟨j,aG,s,aW,i4,Ur,t0,t5,Ua,d,UV,UZ,U1,K⟩;cases m with|zero=>simp[ha]at K|succ m=>
  unfold ha at K;have UX:=U1.le;have UB:=L.go UZ UX;refine dN ?_;refine bo @t0 ⟨?_⟩;obtain⟨o,Uf,ai,U6⟩:=kd K;refine(ij T3 UB ai _).Zm ?_;rintro Uw A g ⟨rfl,T0,T8⟩;have Uq:=T8.le;have UN:∀o,u<=o->o<UA->H X A o=H X UP o:=λo T1 f=>T8.M o Zo Zx;have UL:=Ua.M (D:=A) (λo c=>UN o (d o c).1 (d o c).2);have UH:=b5.M (D:=A) (λo c=>UN o c.1 c.2.1) _ _ UV;rcases U6 with ⟨N,K⟩|⟨N,K⟩
  ·rw[N]at T0 ⊢;simp only[ZL]at T0 ⊢;rw[<-(dt ai).2]at K;simp only[]at K;refine cg bq.eq_1 @t0 @t5 ⟨?_⟩;refine c7 (λw=>aU X A g w (g+1)) cf ?_;intro T9 k;have T2:=(U1.trans T8).trans (br.of k);have T6:=UB.go (T0.ex k Zo Zo) (by omega:UA<=g+1);rcases dO K with ⟨a,G,rfl⟩|⟨UC,Ug,G,K⟩
   ·exact((U m Zo).arrow T9 _ _ _ T6 G).mono zZ (λR D Z h=>h.of T2 (λ_ h=>by cases h;rfl))
   refine((U m Zo).arrow T9 _ _ _ T6 G).mono ?_ zY;rintro Uj C t ⟨US,U7,U3,UF,U4,l⟩;cases U3;have UY:=l.le;obtain⟨T7,rfl,UJ,_⟩:=UF.ptr;have UJ:=UJ.2;refine bx ⟨?_⟩;have Ue:∀dW,dW=aH X C t (zP [.ptr T7 0] 1)->∀o,u<=o->o<g->H X dW o=H X A o:=(by rintro dW rfl o T1 f;rw[ah Zo Zo,l.M o Zo Zx,k.M o Zo]);have Uc:fQ X (aH X C t (zP [.ptr T7 0] 1)) 1 (.slice t 0 1 1)=some (1,[.ptr T7 0]):=hY (aM Zo) (gv _) rfl _;obtain⟨Ui,UQ,UR,UT,Ub,U2,UW⟩:=(UL.M (D:=aH X C t (zP [.ptr T7 0] 1)) (λo c=>Ue _ rfl o (d o c).1 (zL (d o c).2))).append (u:=t+1) Zd Uc rfl Zd rfl Zx Zo (λo c=>zL (d o c).2);refine d8 UT ?_;have T5:∀o,o<t->o∉aW->H X UQ o=H X C o:=λo T1 f=>(by rw[UW o Zo f,ah Zo Zo]);refine⟨m,Zo,j++[UC],aG++[.ptr T7 0],Ui,UR,U7,Zx,af t0,aC,.inl Ub, ?_, ?_, ?_, ?_,K⟩
   ·intro o c;rcases U2 o c with rfl|c
    ·omega
    ·have:=d o c;omega
   ·refine b5.snoc (bF.M (λo c=> ?_) _ _ UF) (b5.M (λo c=> ?_) _ _ UH) (λo c=>⟨c.1,zL c.2.1,λc5=> ?_⟩) (λo c=>⟨⟨zL c.1,zL c.2,λc5=> ?_⟩,λUd=>by have:=c.1;have:=Ud.2.1;omega⟩)
    ·have T1:=c.1;exact T5 o c.2 (λc5=>zL (d o c5))
    ·have f:=c.2.1;rw[T5 o Zo c.2.2,l.M o Zo (by have:=c.1;simp;omega),k.M o Zo]
    ·have f:=c.2.1;rcases U2 o c5 with rfl|c5
     ·omega
     ·exact c.2.2 c5
    ·have T1:=c.1;have f:=c.2;rcases U2 o c5 with rfl|c5
     ·omega
     ·have:=d o c5;omega
   ·exact U4.M (T5 _ Zo (λe=>zL (d _ e))) (T5 _ Zo (λe=>zL (d _ e)))
   ·exact⟨Zo,λb W T4=>by rw[T5 b Zo (λe=>zL (d _ e))];exact(T2.trans l).M b W T4⟩
  ·rw[N]at T0 ⊢;simp only[ZA,ZJ]at T0 ⊢;simp only[]at K;refine df bq.eq_1 en.eq_1 @t0 @t5 ⟨?_⟩;refine c7 (λw=>aU X A g w (g+1+1)/\H X w (g+1)=zP [.str [41]] 1) ⟨cf,aM Zo⟩ ?_;rintro T9 ⟨k,UD⟩;have T2:=(U1.trans T8).trans (br.of k);have T6:=UB.go (T0.ex k Zo Zo) (by omega:UA<=g+1+1);rcases dO K with ⟨a,G,rfl⟩|⟨UC,Ug,G,K⟩
   ·exact(fH T3 T6 Zo Zo UD G).mono zZ (λR D Z h=>h.of T2 (λ_ h=>by cases h;rfl))
   refine(fH T3 T6 Zo Zo UD G).mono ?_ zY;rintro Uj C t ⟨US,U7,U3,_,U4,l⟩;cases U3;have UY:=l.le;simp only[ok,Zh]at K;subst K;refine bo @t5 ⟨?_⟩;have UM:∀o,u<=o->o<g->H X C o=H X A o:=λo T1 f=>(by rw[l.M o Zo Zx,k.M o Zo]);obtain⟨bC,UK⟩:=(UL.M (D:=C) (λo c=>UM o (d o c).1 (zL (d o c).2))).pC (P:=λo=>b2 u t o/\o∈aW) Zo (λo c=>⟨⟨(d o c).1,zL (d o c).2⟩,c⟩);refine⟨j,U7,aG,bC,rfl,UK.lift (λo c=>c.1), ?_,U4,T2.trans l⟩;exact b5.lift (λo c=>⟨⟨c.1.1,zL c.1.2⟩,c.2⟩) _ _ (b5.off (b5.M (λo c=>UM o c.1 (zL c.2.1)) _ _ UH) UK)
end
end
end Go.Proofs.YtehmapikajmjaaaGreatDoor
