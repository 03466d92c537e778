/- Part of the last text; no conditions -/
import Derived.Test.YtehmapikajmjaaaGreatDoorYg
import Derived.Test.YtehmapikajmjaaaGreatDoorProg
set_option maxHeartbeats 8000000
set_option linter.all false
namespace Go.Proofs.YtehmapikajmjaaaGreatDoor
open Go.aC
noncomputable section
structure bf where
 G:B R
 aD:Nat
 O:Nat->List y->Option y
noncomputable def o(a:bf):ai:=⟨Tryz.prog,a.G,a.aD,a.O,Tryz.prog.globals.size⟩
instance:Coe bf ai:=⟨o⟩
section
variable (X : bf) (a : B R) (b : Nat) (S ab : aY) (a0 aL bs a3 a4 a5 fj fO ft : y)
abbrev fm(v a:y)(b:B R)(n:Nat)(q:aY):Prop:=iZ q λc=>e4 true v (c a b n) (c aC.undef b n)
abbrev dO(v a:y)(b:B R)(n:Nat)(q:aY):Prop:=iZ q λc=>e4 false v (c a b n) (c aC.undef b n)
abbrev cF(v:y)(J:Option y)(a:B R)(n:Nat)(q:aY):Prop:=iZ q λb=>e4 true v (Z J λc=>b c a n) (b aC.undef a n)
abbrev c1(v:y)(J:Option y)(a:B R)(n:Nat)(q:aY):Prop:=iZ q λb=>e4 false v (Z J λc=>b c a n) (b aC.undef a n)
abbrev gG(v:y)(J:Option y)(a:B R)(n:Nat)(q:aY):Prop:=iZ q λb=>e4 true v (bt J λc=>b c a n) (b aC.undef a n)
abbrev jv(v:y)(J:Option y)(a:B R)(n:Nat)(q:aY):Prop:=iZ q λb=>e4 false v (bt J λc=>b c a n) (b aC.undef a n)
abbrev Am(v:y)(J:Option y)(V:y->Option y)(a:B R)(n:Nat)(q:aY):Prop:=iZ q λb=>e4 true v (bt J λc=>Z (V c) λd=>b d a n) (b aC.undef a n)
abbrev Al(v:y)(J:Option y)(V:y->Option y)(a:B R)(n:Nat)(q:aY):Prop:=iZ q λb=>e4 false v (bt J λc=>Z (V c) λd=>b d a n) (b aC.undef a n)
abbrev f6(v:y)(g:aY->Prop)(a:B R)(n:Nat)(q:aY):Prop:=iZ q λb=>e4 true v (g b) (b aC.undef a n)
abbrev g2(v:y)(g:aY->Prop)(a:B R)(n:Nat)(q:aY):Prop:=iZ q λb=>e4 false v (g b) (b aC.undef a n)
abbrev wD(v a:y)(b:B R)(q:y->B R->Prop):Prop:=mi q λc=>e4 false v (c a b) (c aC.undef b)
abbrev f5(v:y)(J:Option y)(a:B R)(q:y->B R->Prop):Prop:=mi q λb=>e4 true v (Z J λc=>b c a) (b aC.undef a)
abbrev m6(v:y)(J:Option y)(a:B R)(q:y->B R->Prop):Prop:=mi q λb=>e4 false v (Z J λc=>b c a) (b aC.undef a)
abbrev sM(v:y)(J:Option y)(a:B R)(q:y->B R->Prop):Prop:=mi q λb=>e4 true v (bt J λc=>b c a) (b aC.undef a)
abbrev Ak(v:y)(J:Option y)(a:B R)(q:y->B R->Prop):Prop:=mi q λb=>e4 false v (bt J λc=>b c a) (b aC.undef a)
abbrev wE(v:y)(J:Option y)(V:y->Option y)(a:B R)(q:y->B R->Prop):Prop:=mi q λb=>e4 true v (bt J λc=>Z (V c) λd=>b d a) (b aC.undef a)
abbrev Gi(v:y)(J:Option y)(V:y->Option y)(a:B R)(q:y->B R->Prop):Prop:=mi q λb=>e4 false v (bt J λc=>Z (V c) λd=>b d a) (b aC.undef a)
abbrev wC(v:y)(g:(y->B R->Prop)->Prop)(a:B R)(q:y->B R->Prop):Prop:=mi q λb=>e4 false v (g b) (b aC.undef a)
abbrev cK(h0)(h1:y)(h2:ai)(h3:(B R))(q:y->y->Prop):=Z (d2 h0 h1) λa=>Z (ay h2 h3 a) λb=>q a b
abbrev cZ(h0:bO)(h1)(h3)(q:y->y->Prop):=bt (h0 h1) λa=>bt (h0 h3) λb=>q a b
abbrev nv(h4:Nat)(h5:ai)(h6:(B R))(q:y->(B R)->Nat->Prop):=Z (fG [.Z 0,.str [],.Z 0,.int .u64 0,.zT,.zT,.Z 0] h4) λa=>dG h5 h6 h4 a.1 a.2 q
abbrev db(h0:bO)(h1)(q:y->Prop):=bt (h0 h1) λa=>Z (aH .add a (.Z 1)) q
abbrev dB(h0:y)(h1)(h2:ai)(h3:(B R))(q:y->y->Prop):=Z (hm h0) λa=>cK h1 a h2 h3 q
abbrev et(h1:y)(q:y->y->Prop):=Z (hH 0 h1) λa=>Z (hH 1 h1) λb=>q a b
abbrev dy(h0:bO)(h1)(h2)(q:y->Prop):=cZ h0 h1 h2 λa b=>Z (aH .lss a b) q
abbrev fL(h1:y)(h2:y)(h3:ai)(h4:(B R))(q:y->Prop):=Z (da 1 h1 h2) λa=>Z (ay h3 h4 a) q
abbrev jJ(h0:bO)(h1)(h2:ai)(h3:(B R))(h4)(h5:y)(q:(B R)->y->Prop):=bt (h0 h1) λa=>Z (cN h2 h3 h4 a h5) λb=>bt (h0 h1) λc=>Z (b4 h2 b h4 c) λd=>q b d
abbrev pN(h1:y)(h2:y)(h3:ai)(h4:(B R))(h7:Nat)(q:y->Nat->(B R)->Prop):=Z (da 6 h1 h2) λa=>Z (b4 h3 h4 6 a) λb=>Z (fG [.str [],.Z 0,.au,.au,.au,.au] h7) λc=>dG h3 h4 h7 c.1 c.2 λd f g=>Z (cN h3 f 6 d b) λi=>q d g i
abbrev pO(h0:y)(h7:Nat)(h8:ai)(h9:(B R))(q:y->y->Nat->(B R)->Prop):=et h0 λa b=>Z (fG [.Z 0,.str [],.Z 0,.zT,.zT,.Z 0,.str [],.Z 0,.zT,.Z 0,.Z 0] h7) λc=>dG h8 h9 h7 c.1 c.2 λd f g=>Z (cN h8 f 11 d a) λi=>q b d g i
abbrev gx(h0:y)(h1)(q:y->Prop):=Z (hm h0) λa=>Z (d2 h1 a) q
abbrev kg(h0:y)(h1)(h2:y)(h3:(B R))(h4:Nat)(h6:ai)(q:y->(B R)->Nat->Prop):=c1 h0 (d2 h1 h2) h3 h4 λa b c=>c1 h0 (ay h6 b a) b c q
abbrev kM(h3)(h4:Nat)(h5:ai)(h6:(B R))(h10:y)(h11:aY)(q:y->(B R)->Nat->Prop):=Z (dX 1 [.str []] [(0,1,.str [h3])] h4) λa=>dG h5 h6 h4 a.1 a.2 λb c d=>az h5 66 [h10,b] c d q h11
abbrev jf(h0:bO)(h1)(h2)(q:y->Prop):=bt (h0 h1) λa=>Z (aH .eql a (.Z h2)) q
abbrev rX(h3:Nat)(h4:ai)(h5:(B R))(q:y->(B R)->Nat->Prop):=Z (fG [.str [],.Z 0,.zT,.zT,.Z 0,.str [],.Z 0,.zT] h3) λa=>dG h4 h5 h3 a.1 a.2 q
abbrev ff(h0:bO)(h1)(h2:ai)(h3:(B R))(q:y->Prop):=bt (h0 h1) λa=>Z (ay h2 h3 a) q
abbrev kN(h0:y)(h1)(h2:y)(h3:(B R))(h4:Nat)(h6:ai)(q:y->(B R)->Nat->Prop):=cF h0 (d2 h1 h2) h3 h4 λa b c=>cF h0 (ay h6 b a) b c q
abbrev cC(h0:bO)(q:y->Prop):=bt (h0 0) q
abbrev nu(h2:Nat)(h3:ai)(h4:(B R))(q:y->(B R)->Nat->Prop):=Z (fG [.Z 0,.Z 0] h2) λa=>dG h3 h4 h2 a.1 a.2 q
abbrev d9(h0:y)(h1)(q:y->dm->Prop):=Z (c2 h0) λa=>aG h1 λb=>q a b
abbrev mz(h0:Nat)(h1:ai)(h2:(B R))(h5:y)(q:y->Nat->(B R)->Prop):=nv h0 h1 h2 λa b c=>Z (cN h1 b 7 a h5) λd=>q a c d
abbrev tq(h1:y)(h2:y)(h3:ai)(h4:(B R))(h7:Nat)(q:y->Nat->(B R)->Prop):=Z (da 4 h1 h2) λa=>Z (b4 h3 h4 4 a) λb=>Z (fG [.au,.au,.Z 0,.bE] h7) λc=>dG h3 h4 h7 c.1 c.2 λd f g=>Z (cN h3 f 4 d b) λi=>q d g i
abbrev eK(h0:bO)(h1)(h2)(h3:ai)(h4:(B R))(q:y->y->Prop):=bt (h0 h1) λa=>cK h2 a h3 h4 q
abbrev iL(h1)(q:y->Prop):=Z (some (y.iface 205 (.Z h1))) q
abbrev ou(h0:y)(h1:y)(h2:(B R))(h3:Nat)(h6:ai)(h8)(q:y->(B R)->Nat->Prop):=c1 h0 (hm h1) h2 h3 λa b c=>kg h0 0 a b c h6 λd f g=>c1 h0 (aH .eql d (.Z h8)) f g q
abbrev jg(h0:y)(h1)(h2:dm)(q:y->dm->Prop):=Z (aH .eql h0 (.Z h1)) λa=>aG h2 λb=>q a b
abbrev ga(h0:ai)(h1:(B R))(h3:y)(h4:y)(q:(B R)->Prop):=Z (cN h0 h1 1 h3 h4) q
abbrev g7(h0)(h1:bO)(h2)(h3)(h4:ai)(h5:(B R))(q:dm->y->Prop):=aG h0 λa=>cZ h1 h2 h3 λb c=>fL b c h4 h5 λd=>q a d
abbrev pP(h0:y)(h1:bO)(h2)(h3:(B R))(h6)(h8:ai)(q:y->(B R)->Prop):=sM h0 (h1 h2) h3 λa b=>f5 h0 (hm a) b λc d=>f5 h0 (d2 h6 c) d λf g=>f5 h0 (ay h8 g f) g q
abbrev kO(h0:y)(q:y->Prop):=Z (aH .sub h0 (.Z 1)) q
abbrev hn(h0:bO)(h1)(h2:ai)(h3:(B R))(q:y->y->y->Prop):=cC h0 λa=>dB a h1 h2 h3 λb c=>q a b c
abbrev iM(h0:ai)(h1:(B R))(h2)(h3:y)(h5)(h7:Nat)(h8:aY)(q:y->(B R)->Nat->Prop):=Z (b4 h0 h1 h2 h3) λa=>az h0 h5 [a] h1 h7 q h8
abbrev vi(h6:Nat)(h7)(h8:ai)(h9:(B R))(q:y->(B R)->Prop):=Z (fG [.Z 0,.str [],.Z 0,.zT,.zT,.Z 0,.str [],.Z 0,.zT,.Z 0,.Z 0] (h6+h7)) λa=>g3 h8 h9 (h6+h7) a.1 a.2 q
abbrev nw(h0:ai)(h1:(B R))(h2:Nat)(h3)(h4)(h6)(h7:y)(q:y->(B R)->Nat->Prop):=dG h0 h1 h2 h3 h4 λa b c=>d6 (fP h0 b c h6 h7 a) b c q
abbrev vj(h4)(h7:y)(q:y->Prop):=Z (dp [.Z 0,.Z 0] [(0,1,.Z h4),(1,1,h7)]) q
abbrev vk(h0:Nat)(h1:ai)(h2:(B R))(h5:y)(h8)(q:y->Nat->(B R)->y->Prop):=nu h0 h1 h2 λa b c=>Z (cN h1 b 2 a h5) λd=>cK 0 a h1 d λf g=>Z (aH .neq g (.Z h8)) λi=>q a c d i
abbrev ov(h0:bO)(h1)(h2)(h4)(h5:ai)(h6:(B R))(q:y->y->y->Prop):=cZ h0 h1 h2 λa b=>Z (da 3 b (.Z h4)) λc=>Z (b4 h5 h6 3 c) λd=>q a c d
abbrev vl(h0:bO)(h1)(h2)(h4:ai)(h5:(B R))(h7:Nat)(q:y->Nat->(B R)->Prop):=cZ h0 h1 h2 λa b=>Z (da 8 a b) λc=>Z (b4 h4 h5 8 c) λd=>rX h7 h4 h5 λf g i=>Z (cN h4 g 8 f d) λl=>q f i l
abbrev ow(h0:bO)(h1)(q:y->Prop):=cC h0 λa=>Z (hE a (some (.Z h1)) none) q
abbrev nx(h0:y)(q:y->Prop):=Z (aH .add h0 (.Z 1)) q
abbrev eL(h0:bO)(q:y->Prop):=bt (h0 4) q
abbrev xR(h0:ai)(h1:(B R))(h9:y)(h10:y)(q:y->Prop):=Z (fb h0 h1 9 (.agg [.Z 0,.str [],.Z 0,.zT,.zT,.Z 0,.str [],.Z 0,.zT,.Z 0,.Z 0]) h9 h10 true) q
abbrev mA(h0:y)(q:y->Prop):=Z (aH .geq h0 (.Z 0)) q
abbrev fZ(h0:ai)(h1:(B R))(h3:y)(q:y->Prop):=Z (b4 h0 h1 3 h3) q
abbrev kP(h0:ai)(h1:(B R))(h3:y)(h4)(q:(B R)->Prop):=Z (cN h0 h1 1 h3 (.Z h4)) q
abbrev xS(h0:Nat)(h2:y)(h4:ai)(h5:(B R))(h8:y)(h10:aY)(q:y->Nat->y->(B R)->y->Prop):=cO (h0+12) λa=>dB h2 8 h4 h5 λb c=>az h4 105 [h8] h5 a (λd f g=>Z (dX 1 [.bE] [(0,1,d)] (h0+7)) λi=>g3 h4 f (h0+7) i.1 i.2 λl m=>Z (ay h4 m b) λn=>q c g l m n) h10
abbrev tr(h1:Nat)(h2:ai)(h3:(B R))(q:y->(B R)->Nat->Prop):=Z (fG [.zT,.zT,.Z 0] h1) λa=>dG h2 h3 h1 a.1 a.2 q
abbrev fp(h0)(h1:bO)(h2)(h3)(q:dm->y->y->Prop):=aG h0 λa=>cZ h1 h2 h3 λb c=>q a b c
abbrev BU(h1:y)(h2:ai)(h3:(B R))(q:y->Prop):=cK 2 h1 h2 h3 λa b=>cK 3 h1 h2 h3 λc d=>cK 4 h1 h2 h3 λf g=>Z (dp [.au,.au,.au] [(0,1,b),(1,1,d),(2,1,g)]) q
abbrev xT(h0:bO)(h4:(B R))(h5:Nat)(q:y->y->(B R)->Nat->Prop):=cC h0 λa=>Z (hB a) λb=>Z (aH .geq b (.Z 3)) λc=>gG c (h0 0) h4 h5 λd f g=>cF c (h7 d (.Z 1)) f g λi l m=>q c i l m
abbrev kQ(h0)(h1:y)(h2:ai)(h3:(B R))(h4:y)(q:(B R)->Prop):=Z (d2 h0 h1) λa=>ga h2 h3 a h4 q
abbrev xU(h6)(h7)(h9:y)(q:y->Prop):=Z (dp [.Z 0,.str [],.Z 0,.int .u64 0,.zT,.zT,.Z 0] [(0,1,.Z h6),(h7,1,h9)]) q
abbrev gb(h0:bO)(q:y->Prop):=bt (h0 3) q
abbrev xV(h7:y)(h8:Nat)(h9:ai)(h10:(B R))(h13:y)(q:y->(B R)->Nat->Prop):=Z (dX 1 [.Z 0,.str [],.Z 0,.int .u64 0,.zT,.zT,.Z 0] [(0,7,h7)] h8) λa=>nw h9 h10 h8 a.1 a.2 7 h13 q
abbrev kh(h0:y)(h1)(h2:ai)(h3:(B R))(h4:y)(q:(B R)->Prop):=gx h0 h1 λa=>ga h2 h3 a h4 q
abbrev xW(q:y->Prop):=Z (dp [.Z 0,.str [],.Z 0,.int .u64 0,.zT,.zT,.Z 0] []) q
abbrev rY(h1:y)(h2:ai)(h3:(B R))(h4)(q:y->Prop):=cK 0 h1 h2 h3 λa b=>Z (aH .eql b (.Z h4)) q
abbrev ts(h0:bO)(h1)(h2)(q:y->Prop):=bt (h0 h1) λa=>Z (aH .lss a (.Z h2)) q
abbrev gy(h0:bO)(q:y->Prop):=bt (h0 2) q
abbrev ox(h0:y)(h1:y)(h2:(B R))(h3:Nat)(h5)(h6:ai)(q:y->(B R)->Nat->Prop):=cF h0 (hm h1) h2 h3 λa b c=>kN h0 h5 a b c h6 q
abbrev xX(h0:y)(h1:bO)(h3:(B R))(h4:Nat)(h9:ai)(q:y->(B R)->Nat->Prop):=gG h0 (h1 0) h3 h4 λa b c=>cF h0 (hm a) b c λd f g=>cF h0 (d2 4 d) f g λi l m=>cF h0 (b4 h9 l 3 i) l m q
abbrev vm(h0:y)(h2)(q:y->Prop):=Z (h7 h0 (.Z 0)) λa=>Z (aH .eql a (.int .u8 h2)) q
abbrev vn(h0:y)(q:y->Prop):=Z (aH .gtr h0 (.Z 0)) q
abbrev lq(h0:y)(h1:Nat)(h2:ai)(h3:(B R))(q:y->y->Nat->(B R)->Prop):=et h0 λa b=>mz h1 h2 h3 a λc d f=>q b c d f
abbrev BV(h0:y)(h1:ai)(h2:(B R))(h5)(q:y->Prop):=Z (c2 h0) λa=>Z (jo h1 h2 .min [3,3] [a,.Z h5]) λb=>Z (fY h1 h2 1 h0 none (some b) none) q
abbrev ho(h0:bO)(q:y->Prop):=bt (h0 1) q
abbrev tt(q:y->Prop):=Z (dp [.Z 0,.Z 0] []) q
abbrev mB(h0)(h1:y)(h2:ai)(h3:(B R))(h5)(h7:Nat)(h8:aY)(q:y->(B R)->Nat->Prop):=cK h0 h1 h2 h3 λa b=>az h2 h5 [b] h3 h7 q h8
abbrev tu(h0:bO)(h2:ai)(h3:(B R))(h4)(q:y->Prop):=hn h0 0 h2 h3 λa b c=>Z (aH .eql c (.Z h4)) q
abbrev ny(h0:y)(h1:dm)(q:y->dm->Prop):=Z (dP .not h0) λa=>aG h1 λb=>q a b
abbrev lr(h0:ai)(h1:(B R))(h2:Nat)(h4:y)(h5:y)(q:y->(B R)->Nat->Prop):=d6 (fP h0 h1 h2 1 h4 h5) h1 h2 q
abbrev vo(h4:y)(h5:Nat)(q:(y×R)->Prop):=Z (dX 1 [.zT,.zT,.Z 0] [(0,3,h4)] h5) q
abbrev oy(h0:ai)(h1:(B R))(h2:Nat)(q:y->(B R)->Nat->Prop):=dG h0 h1 h2 (.map h2) (.map [] 0) q
abbrev pQ(h0:ai)(h1:(B R))(h2)(h3:y)(h4:y)(q:(B R)->y->Prop):=Z (cN h0 h1 h2 h3 h4) λa=>Z (b4 h0 a h2 h3) λb=>q a b
abbrev rZ(h0:y)(q:y->Prop):=Z (aH .lss h0 (.Z 0)) q
abbrev xY(h0:y)(h1:bO)(h3:(B R))(h6)(h8:ai)(q:y->(B R)->Prop):=Ak h0 (h1 0) h3 λa b=>m6 h0 (hm a) b λc d=>m6 h0 (d2 h6 c) d λf g=>m6 h0 (ay h8 g f) g q
abbrev oz(h0)(h1:y)(h2:ai)(h3:(B R))(q:y->y->Prop):=cK h0 h1 h2 h3 λa b=>Z (c2 b) λc=>q b c
abbrev tv(h0)(h1:y)(q:y->Prop):=vj h0 h1 λa=>Z (some (y.iface 26 a)) q
abbrev tw(h0)(h1:y)(q:y->Prop):=Z (da h0 h1 (.Z 0)) q
abbrev r0(h0:y)(h1)(h2:(B R))(h3:Nat)(q:y->(B R)->Nat->Prop):=g2 h0 h1 h2 h3 λa b c=>c1 h0 (dP .not a) b c q
abbrev hp(h0:bO)(q:y->Prop):=bt (h0 5) q
abbrev vp(h4:y)(h5:Nat)(h6:ai)(h7:(B R))(h10:y)(q:y->(B R)->Nat->Prop):=Z (dX 1 [.Z 0] [(0,1,h4)] h5) λa=>nw h6 h7 h5 a.1 a.2 1 h10 q
abbrev vq(h0:bO)(h2:ai)(h3:(B R))(q:(B R)->Prop):=hn h0 1 h2 h3 λa b c=>nx c λd=>kh a 1 h2 h3 d q
abbrev tx(h0:y)(q:y->Prop):=Z (aH .neq h0 (.Z 0)) q
abbrev tz(h0:y)(q:y->Prop):=Z (aH .neq h0 (.Z 1)) q
abbrev xZ(h0:y)(h2:y)(h3:(B R))(h5:ai)(q:y->(B R)->Prop):=f5 h0 (d2 0 h2) h3 λa b=>f5 h0 (ay h5 b a) b λc d=>f5 h0 (dP .not c) d q
abbrev oA(h0:bO)(h1)(h2:ai)(h3:(B R))(h4)(q:y->Prop):=ff h0 h1 h2 h3 λa=>dB a h4 h2 h3 λ_ b=>q b
abbrev pR(h0:ai)(h1:(B R))(h2)(h3:y)(h4:bO)(h5)(q:(B R)->y->Prop):=Z (b4 h0 h1 h2 h3) λa=>jJ h4 h5 h0 h1 h2 a q
abbrev mC(h0:ai)(h1)(h2:y)(h3:(B R))(h4:Nat)(h5:aY)(q:(B R)->Nat->y->y->Prop):=az h0 h1 [h2] h3 h4 (λa b c=>et a λd f=>q b c d f) h5
abbrev jh(h0:bO)(h2:ai)(h3:(B R))(q:y->Prop):=hn h0 0 h2 h3 λ_ _ a=>q a
abbrev tA(h0:ai)(h2:y)(h3)(h4:(B R))(h5:Nat)(h6:aY)(q:y->Nat->(B R)->Prop):=az h0 68 [h2,.str [h3]] h4 h5 (λa b c=>lq a c h0 b λd _ f g=>q d f g) h6
abbrev I3(h0:bO)(q:y->Prop):=gy h0 λa=>Z (hv .u64 a) q
abbrev lS(h0:bO)(h2)(h3:dm)(q:y->dm->Prop):=jf h0 12 h2 λa=>aG h3 λb=>q a b
abbrev r1(h0:y)(h1:y)(h2:(B R))(h3:Nat)(h5)(h6:ai)(q:y->(B R)->Nat->Prop):=c1 h0 (hm h1) h2 h3 λa b c=>kg h0 h5 a b c h6 q
def tg(a:ai)(b:aY):dm:=λc d e=>ic a [.cell 2 23,.cell 3 26] b c c.aP d e
def uZ(a:ai)(b c:aY):kY:=λd e f g=>nc a [.cell 2 23,.cell 3 26] b c d e d.aP f g
def DD:Za0:=λa b c d e f=>Z (fG [.bE] d) λg=>dG a c d g.1 g.2 λc d g=>nu g a d λd g h=>az a 18 [b] g h (λg h i=>et g λg j=>Z (cN a h 2 d j) λh=>cK 0 d a h λ_ j=>tx j λj=>aG (λb c d=>cZ b 2 3 λg h=>t6 (.func (.func 19) [] [g,h]) [] b λb=>eL b λg=>Z (dp [.au,.Z 0] [(0,1,g)]) λg=>eM a c d g λc d g=>az a 20 [c] d g (λc d g=>gy b λh=>ga a d h c λc=>ff b 2 a c λd=>az a 21 [d] c g (λ_ c d=>ff b 2 a c λf=>tt λg=>gy b λh=>ga a c h f λc=>gb b λf=>Z (cN a c 2 f g) λc=>tg a e b c d) (uZ a e f (eH [19,20] b))) (uZ a e f (eH [15,16,17,18] b))) λf=>ao j (cO (i+3) λf=>Z (b4 a h 2 d) λi=>Z (cN a h 1 c .bE) λh=>Z (b4 a h 2 d) λk=>d8 k (some i) (Z (cN a h 2 d i) λh=>tg a e (zU (bI [b]) 2 c 3 d 4 g 12 j) h f)) (f (zU (bI [b]) 2 c 3 d 4 g 12 j) h i)) (uZ a e f (eH [6,7,5,8,9,4] (zS (bI [b]) 2 c 3 d)))
def My:o5 X 5 [a0] a b S ab=DD X a0 a b S ab:=Zk
def Mx:bD X 5 1=true:=Zk
def yc(a:ai)(b c:y)(d:Option y)(e:B R)(f:Nat)(g:Bool->B R->Nat->Prop):Prop:=
 u4 (some d) (bI [b,c]) λb c=>aG (λa b c=>g a.rc b c) λd=>Z (b0 a e .eql 20 true b .nilIface) λg=>aG d λd=>ao g (d (zS c 5 b 7 g) e f) (Z (ly 26 (.agg [.Z 0,.Z 0]) true b) λh=>Z (hH 1 h) λi=>Z (hH 0 h) λh=>aG d λd=>ao i (nu f a e λe f j=>Z (cN a f 2 e h) λf=>cO (j+3) λj=>Z (b4 a f 2 e) λk=>cC c λl=>Z (cN a f 1 l .bE) λf=>Z (b4 a f 2 e) λl=>d8 l (some k) (ho c λl=>Z (cN a f 2 l k) λa=>d (H (zU c 5 b 7 g 9 i 10 h) 3 e) a j)) (ms zW b e f))
def C9(X:bf)(a0 aL:y)(fX:Option y)(a:B R)(b:Nat)(S:Bool->B R->Nat->Prop):nZ X 19 [a0,aL] fX a b S=yc X a0 aL fX a b S:=Zk
def yd:bD X 19 2=true:=Zk
def Da:Za0:=λa b c d e f=>Z (dp [.au] []) λg=>eM a c d g λc d g=>aG (λa b c=>gb a λa=>e a b c) λe=>cx (λb c d g=>eL c λh=>aG (λc d e=>aG (λc d e=>cC c λg=>az a 40 [g] d e (λa d e=>Z (ku false 0 1 a) λa=>Z (aH .neq a (.Z 7)) λa=>b (H c 4 a) d e) f) λb=>cO (e+12) λg=>cZ c 3 3 λh i=>dB i 0 a d λi j=>cC c λk=>az a 41 [k] d g (λd f g=>Z (dX 1 [.str [],.Z 0,.au,.au,.au,.au] [(0,6,d)] (e+7)) λd=>g3 a f (e+7) d.1 d.2 λd e=>Z (ay a e i) λf=>d8 f (some j) (d6 (fP a e g 6 j d) e g λd e f=>kh h 0 a e d λa=>b c a f)) f) λa=>ao h (a (H c 7 h) d g) (e (H c 7 h) d g)) (zT (bI [b]) 2 .bE 3 c 4 .zV) d g
theorem Lo:dM X 20 [a0] (Da X a0):=⟨Zk,Zk⟩
def Db:Za0:=λa b c d e f=>dB b 0 a c λ_ g=>Z (c2 g) λg=>Z (aH .gtr g (.Z 64)) λg=>aG (λb c d=>jh b a c λg=>d9 g (λ_ a b=>e (.tuple []) a b) λe h=>cx (λb c d e=>dy c 26 25 λg=>aG (λc d e=>fp (λa c d=>db a 26 λe=>b (H a 26 e) c d) c 24 26 λb g h=>pN g h a d e λd e g=>oz 2 d a g λ_ h=>oz 3 d a g λ_ i=>Z (aH .add h i) λh=>oz 4 d a g λ_ i=>Z (aH .add h i) λh=>Z (aH .gtr h (.Z 256)) λh=>kg h 5 d g e a λe g i=>c1 h (c2 e) g i λe g i=>c1 h (aH .gtr e (.Z 4096)) g i λe g i=>bJ (λe=>aG (λc d e=>eK c 3 5 a d λ_ g=>Z (c2 g) λh=>aG b λb=>cx (λc d e g=>dy d 55 54 λh=>aG (λb d e=>fp (λa b d=>db a 55 λe=>c (H a 55 e) b d) b 53 55 λc g h=>tq g h a d e λd e g=>mB 3 d a g 42 e f λe g h=>Z (aH .gtr e (.Z 200)) λe=>aG c λc=>ao e (cK 2 d a g λ_ a=>tv 22 a λa=>ms f a g h) (c (zS b 5 d 62 e) g h)) λa=>ao h (a (H d 56 h) e g) (b (H d 56 h) e g)) (zT c 53 g 54 h 55 (.Z 0)) d e) λb=>ao e (cK 1 d a g λ_ a=>tv 30 a λa=>ms f a g i) (b (zS c 3 d 47 e) g i)) λa=>ao h (a .zV) (a e)) λa=>ao g (a (H c 27 g) d e) (h (H c 27 g) d e)) (zT b 24 g 25 e 26 (.Z 0)) c d) λe=>ao g (dB b 0 a c λ_ b=>Z (da 6 b (.Z 64)) λb=>cK 1 b a c λ_ a=>tv 30 a λa=>ms f a c d) (e (H (bI [b]) 11 g) c d)
theorem Lq:dM X 21 [a0] (Db X a0):=⟨Zk,Zk⟩
def Du:Za0:=λa b c d e _=>nv d a c λc d f=>cO (f+11) λf=>dB b 0 a d λ_ g=>dB b 1 a d λ_ b=>Z (da 7 g b) λb=>Z (b4 a d 7 b) λb=>pQ a d 7 c b λa b=>e b a f
theorem LW:dM X 40 [a0] (Du X a0):=⟨Zk,Zk⟩
def Dv:Za0:=λa b c d e f=>Z (fG [.str [],.Z 0,.au,.au,.au,.au] d) λg=>dG a c d g.1 g.2 λc d g=>Z (dX 1 [.str []] [(0,1,.str [110,111,100,101])] g) λh=>dG a d g h.1 h.2 λd g h=>az a 66 [b,d] g h (λ_ d g=>az a 67 [b,.Z 1] d g (λd g h=>mz h a g d λd g h=>cK 1 d a h λ_ i=>cK 2 d a h λ_ j=>Z (dp [.str [],.Z 0,.au,.au,.au,.au] [(0,1,i),(1,1,j)]) λi=>Z (fG [.str [],.Z 0,.au,.au,.au,.au] g) λj=>dG a h g j.1 j.2 λg h j=>Z (cN a h 6 g i) λh=>kM 40 j a h b f λ_ h i=>tA a b 41 h i f λh i j=>Z (dP .not h) λk=>aG (λb c d=>cC b λg=>Z (dX 2 [.str [],.str []] [(0,1,.str [114,101,116,117,114,110,115]),(1,1,.str [40])] d) λh=>dG a c d h.1 h.2 λc d h=>az a 66 [g,c] d h (λ_ c d=>cC b λg=>az a 69 [g,.zT] c d (λc d g=>eL b λh=>kQ 3 h a d c λc=>cC b λd=>kM 41 g a c d f λ_ c d=>cC b λg=>az a 68 [g,.str [118,97,114]] c d (λc d g=>lq c g a d λc _ d g=>aG (λb c d=>cC b λg=>Z (dX 1 [.str []] [(0,1,.str [108,101,116])] d) λh=>dG a c d h.1 h.2 λc d h=>az a 66 [g,c] d h (λ_ c d=>aG (λb c d=>gy b λb=>Z (b4 a c 6 b) λa=>e a c d) λ_=>cx (λb c d g=>aG b λb=>cC c λh=>az a 68 [h,.str [116,101,108]] d g (λd g h=>lq d h a g λd _ g h=>aG (λc d e=>cO (e+8) λg=>eK c 4 5 a d λh i=>cC c λj=>az a 70 [j] d g (λd f g=>Z (dX 1 [.au,.au,.Z 0,.bE] [(0,4,d)] (e+4)) λd=>g3 a f (e+4) d.1 d.2 λd e=>Z (ay a e h) λf=>d8 f (some i) (d6 (fP a e g 4 i d) e g λd e f=>eL c λg=>kQ 5 g a e d λa=>b c a f)) f) λb=>ao d (eL c λb=>pR a h 6 b c 2 λa b=>e b a g) (b (zS c 10 d 66 d) h g)) f) b c d) f) λe=>ao c (cC b λh=>az a 69 [h,.zV] g d (λd g h=>eL b λi=>kQ 4 i a g d λd=>cC b λg=>kM 59 h a d g f λ_ a d=>e (zS b 8 c 51 c) a d) f) (e (zS b 8 c 51 c) g d)) f) f) f) λe=>ao k (az a 69 [b,.zT] j i (λi j l=>kQ 2 g a j i λi=>kM 41 l a i b f λ_ a f=>e (H (zU (bI [b]) 2 c 3 d 4 g 6 h) 30 k) a f) f) (e (H (zU (bI [b]) 2 c 3 d 4 g 6 h) 30 k) j i)) f) f
theorem LY:dM X 41 [a0] (Dv X a0):=⟨Zk,Zk⟩
def DT:Za1:=λa b c d e f g=>nv e a d λd e h=>nv h a e λe h i=>d9 c (λb c d=>hp b λe=>pR a c 7 e b 4 λa b=>f b a d) λf j=>cx (λb c d e=>dy c 11 10 λf=>aG (λc d e=>g7 (λa c d=>db a 11 λe=>b (H a 11 e) c d) c 9 11 a d λb f=>cC c λh=>az a 68 [h,f] d e (λd e h=>et d λd i=>hp c λj=>Z (cN a e 7 j d) λd=>ny i b λb e=>ao b (cC c λj=>az a 40 [j] d h (λd h j=>az a 103 [d] h j (λ_ a d=>e (zU c 7 f 8 .zT 8 i 22 b) a d) g) g) (e (zU c 7 f 8 .zT 8 i 22 b) d h)) g) λa=>ao f (a (H c 12 f) d e) (j (H c 12 f) d e)) (H (zU (bI [b,c]) 4 d 5 e 9 c 10 f) 11 (.Z 0)) h i
theorem MM:dM X 66 [a0,aL] (DT X a0 aL):=⟨Zk,Zk⟩
def DU:Za1:=λa b c d e f g=>nv e a d λd e h=>az a 40 [b] e h (λe h i=>mz i a h e λe h i=>cK 0 e a i λ_ j=>Z (aH .neq j c) λj=>aG (λb c d=>vq b a c λc=>hp b λe=>pR a c 7 e b 4 λa b=>f b a d) λf=>ao j (iM a i 7 e 103 h g λ_ a g=>f (zT (bI [b,c]) 4 d 5 e 11 j) a g) (f (zT (bI [b,c]) 4 d 5 e 11 j) i h)) g
theorem MO:dM X 67 [a0,aL] (DU X a0 aL):=⟨Zk,Zk⟩
def yh:Za1:=λa b c d e f g=>nv e a d λd e h=>az a 40 [b] e h (λe g h=>mz h a g e λe g h=>cK 0 e a h λ_ i=>Z (aH .neq i (.Z 2)) λi=>kN i 0 e h g a λg h j=>cF i (aH .neq g (.Z 6)) h j λg h j=>bJ (λg=>kg g 1 e h j a λh i j=>dO g c i j λi j k=>c1 g (b0 a j .neq 9 false h i) j k λh i j=>bJ (λg=>aG (λb c d=>vq b a c λc=>bt (b 6) λe=>pR a c 7 e b 4 λa b=>f (.tuple [b,.zV]) a d) λh=>ao g (xW λb=>pQ a i 7 d b λa b=>f (.tuple [b,.zT]) a j) (h (zU (bI [b,c]) 4 d 5 .zT 6 e 22 g) i j)) λa=>ao g (a .zV) (a h)) λa=>ao i (a g) (a .zT)) g
theorem DW:dM X 68 [a0,aL] (yh X a0 aL):=⟨Zk,Zk⟩
def DX:Za1:=λa b c d e f g=>aG (λa b c=>eL a λa=>f a b c) λ_=>cx (λb c d e=>aG b λb=>aG (λc d e=>cC c λh=>kM 58 e a d h g λ_ d e=>cC c λh=>az a 67 [h,.Z 3] d e (λd e h=>Z (ku true 4 3 d) λd=>Z (dp [.str [],.Z 0,.zT,.zT,.Z 0,.str [],.Z 0,.zT] [(2,3,d)]) λd=>rX h a e λe h i=>Z (cN a h 8 e d) λd=>cC c λh=>az a 68 [h,.str [119,104,101,110]] d i (λd h i=>lq d i a h λd _ h i=>aG (λc d e=>bt (c 6) λh=>d9 h (λc d e=>cO (e+22) λe=>cC c λh=>az a 40 [h] d e (λd e g=>Z (ku false 1 1 d) λd=>Z (b0 a e .neq 9 true d (.str [59])) λd=>Ak d (c 1) e λe h=>wD d e h λe h=>pP e c 0 h 0 a λh i=>pP e c 0 i 1 a λi j=>f5 e (aH .add i (.Z 1)) j λi j=>f5 e (da 7 h i) j λh i=>f5 e (d2 1 h) i λh i=>f5 e (ay a i h) i λh i=>f5 e (b0 a i .eql 9 true h (.str [108,101,116])) i λh i=>wC d (λa=>bJ (λb=>a b i) λa=>ao e (a h) (a .zT)) i λe h=>bJ (λd=>aG (λc d e=>vq c a d λa=>b c a e) λa=>ao d (hp c λa=>f a h g) (a (H c 90 d) h g)) λa=>ao d (a .zV) (a e)) g) λb f=>cx (λb c d e=>dy c 54 53 λg=>aG (λc d e=>fp (λa c d=>db a 54 λe=>b (H a 54 e) c d) c 52 54 λb f g=>Z (da 7 f g) λf=>Z (b4 a d 7 f) λf=>mz e a d f λd e f=>cO (e+8) λe=>cK 1 d a f λ_ g=>cK 2 d a f λh i=>bt (c 8) λj=>kQ 0 j a f g λf=>bt (c 8) λg=>Z (d2 1 g) λg=>Z (ay a f h) λh=>d8 h (some i) (ga a f g i λf=>cZ c 5 8 λg h=>Z (b4 a f 8 h) λh=>Z (dX 1 [.str [],.Z 0,.zT,.zT,.Z 0,.str [],.Z 0,.zT] [(0,8,h)] e) λh=>nw a f e h.1 h.2 8 g λa e f=>b (zS c 13 d 5 a) e f)) λa=>ao g (a (H c 55 g) d e) (f (H c 55 g) d e)) (zT c 52 h 53 b 54 (.Z 0)) d e) λb=>ao d (cC c λf=>az a 68 [f,.str [110,111,116]] i h (λf h i=>et f λ_ f=>kQ 7 e a h f λf=>cC c λh=>az a 67 [h,.Z 1] f i (λf g h=>mz h a g f λf g h=>cO (g+8) λg=>cK 1 f a h λ_ i=>cK 2 f a h λj k=>kQ 5 e a h i λh=>Z (d2 6 e) λi=>Z (ay a h j) λj=>d8 j (some k) (ga a h i k λa=>b (zU c 8 e 10 d 37 d 11 f) a g)) g) g) (b (zT c 8 e 10 d 37 d) i h)) g) g) λb=>cx (λc d e f=>bt (d 7) λh=>aG (λb d e=>fp (λb d e=>cC b λf=>az a 68 [f,.str [44]] d e (λa d e=>et a λ_ a=>c (H b 7 a) d e) g) b 6 0 λc f h=>az a 67 [h,.Z 1] d e (λd e g=>xV d g a e f λa d e=>c (H b 6 a) d e) g) λa=>ao h (a (H d 14 h) e f) (b (H d 14 h) e f)) (zS c 6 .au 7 .zV) d e) (zS (bI [b,c]) 4 .au 5 .au) d e
theorem MQ:dM X 69 [a0,aL] (DX X a0 aL):=⟨Zk,Zk⟩
def DZ:Za0:=λa b c d e f=>eM a c d b λc d g=>Z (fG [.au,.au,.Z 0,.bE] g) λh=>dG a d g h.1 h.2 λd g h=>Z (fG [.au,.au,.Z 0,.bE] h) λi=>dG a g h i.1 i.2 λg h i=>Z (ay a h c) λj=>tA a j 40 h i f λh i j=>aG (λb c d=>ff b 1 a c λg=>kM 61 d a c g f λc d g=>Z (ku false 2 1 c) λc=>gb b λh=>kQ 2 h a d c λc=>ff b 1 a c λd=>az a 105 [d] c g (λc d g=>gb b λh=>kQ 3 h a d c λc=>ff b 1 a c λd=>kM 59 g a c d f λ_ c d=>gb b λf=>pR a c 4 f b 2 λa b=>e b a d) f) λe=>ao h (e5 a (.func (.func 104) [] [c,g]) [] j i (λ_ i j=>Z (ay a i c) λk=>kM 44 j a i k f λ_ i j=>aG (λb c d=>ff b 1 a c λg=>kM 41 d a c g f λ_ a c=>e b a c) λe=>cx (λb c d g=>bt (c 7) λh=>aG (λc d e=>aG (λc d e=>ff c 1 a d λg=>az a 68 [g,.str [44]] d e (λa d e=>et a λ_ a=>b (H c 7 a) d e) f) λb=>eL c λg=>e5 a g [] d e (λ_ a d=>b c a d) f) λa=>ao h (a (H c 20 h) d g) (e (H c 20 h) d g)) (zT (zU (bI [b]) 1 c 2 d 3 g 4 (.func (.func 104) [] [c,g])) 6 h 14 h 7 .zV) i j) f) (e5 a (.func (.func 104) [] [c,g]) [] j i (λ_ a f=>e (zS (zU (bI [b]) 1 c 2 d 3 g 4 (.func (.func 104) [] [c,g])) 6 h 14 h) a f) f)
theorem MS:dM X 70 [a0] (DZ X a0):=⟨Zk,Zk⟩
def B8:Za0:=λa b c d _ e=>eM a c d b λb c d=>cK 2 b a c λ_ a=>tv 21 a λa=>ms e a c d
theorem Jo:dM X 103 [a0] (B8 X a0):=⟨Zk,Zk⟩
def B9:Za1:=λa b c d e f g=>Z (ay a d b) λb=>az a 67 [b,.Z 1] d e (λb d e=>mz e a d b λb d e=>cO (d+16) λg=>cK 0 c a e λ_ h=>cK 1 b a e λ_ i=>Z (dX 1 [.str []] [(0,1,i)] (d+4)) λi=>g3 a e (d+4) i.1 i.2 λe i=>cK 1 c a i λj k=>cK 2 b a i λb l=>Z (dX 1 [.Z 0] [(0,1,l)] (d+10)) λm=>g3 a i (d+10) m.1 m.2 λd i=>lr a i g h e λe g h=>Z (d2 0 c) λi=>Z (ay a g j) λj=>d8 j (some k) (Z (ay a g b) λb=>d8 b (some l) (lr a g h k d λb d g=>ga a d i e λd=>kQ 1 c a d b λa=>f (.tuple []) a g))) g
theorem Jq:dM X 104 [a0,aL] (B9 X a0 aL):=⟨Zk,Zk⟩
def Ca:Za0:=λa b c d e f=>az a 138 [b] c d (λc d g=>az a 68 [b,.str [45,62]] d g (λd g h=>lq d h a g λd g h i=>Z (dP .not d) λj=>aG (λb c d=>cO (d+9) λg=>eK b 4 2 a c λh i=>cZ b 3 0 λb j=>az a 105 [j] c g (λc f g=>Z (dX 2 [.bE,.bE] [(0,1,b),(1,1,c)] (d+5)) λb=>g3 a f (d+5) b.1 b.2 λb c=>Z (dp [.Z 0,.Z 0,.str [],.zT,.zT,.zT,.Z 0,.int .u64 0,.au] [(0,1,.Z 22),(1,1,i),(8,1,b)]) λb=>nM a c (d+7) b λb c=>Z (ay a c h) λa=>d8 a (some i) (e b c g)) f) λa=>ao j (e c i h) (a (H (zU (bI [b]) 2 .bE 3 c 4 g 5 d) 14 j) i h)) f) f
theorem Js:dM X 105 [a0] (Ca X a0):=⟨Zk,Zk⟩
def CA:Za0:=λa b c d e f=>az a 154 [b,.Z 0] c d (λc d g=>az a 68 [b,.str [102,98,121]] d g (λd g h=>lq d h a g λd g h i=>Z (dP .not d) λj=>aG (λb c d=>gb b λg=>dB g 0 a c λ_ g=>tz g λg=>gG g (b 3) c d λc d h=>ox g c d h 0 a λc d h=>cF g (aH .neq c (.Z 4)) d h λc d h=>fm g c d h λc d h=>jv c (b 3) d h λd h i=>r1 c d h i 8 a λd h i=>c1 c (da 1 d (.Z 0)) h i λd h i=>c1 c (ay a h d) h i λd h i=>r1 c d h i 0 a λd h i=>c1 c (aH .neq d (.Z 1)) h i λd h i=>f6 g (λa=>bJ (λb=>a b h i) λa=>ao c (a .zV) (a d)) h i λc d h=>bJ (λc=>aG (λb c d=>cO (d+9) λg=>eK b 4 2 a c λh i=>cZ b 3 0 λb j=>az a 138 [j] c g (λc f g=>Z (dX 2 [.bE,.bE] [(0,1,b),(1,1,c)] (d+5)) λb=>g3 a f (d+5) b.1 b.2 λb c=>Z (dp [.Z 0,.Z 0,.str [],.zT,.zT,.zT,.Z 0,.int .u64 0,.au] [(0,1,.Z 21),(1,1,i),(8,1,b)]) λb=>nM a c (d+7) b λb c=>Z (ay a c h) λa=>d8 a (some i) (e b c g)) f) λe=>ao c (eL b λg=>iM a d 7 g 103 h f λ_ a d=>e (H b 39 c) a d) (e (H b 39 c) d h)) λa=>ao g (a c) (a .zT)) λa=>ao j (e c i h) (a (H (zU (bI [b]) 2 .bE 3 c 4 g 5 d) 14 j) i h)) f) f
theorem Ki:dM X 138 [a0] (CA X a0):=⟨Zk,Zk⟩
def CO:Za1:=λa b c d e f g=>Z (aH .eql c (.Z 5)) λh=>aG (λb c d=>cZ b 0 1 λe h=>nx h λh=>az a 154 [e,h] c d (λc d e=>aG (λa b c=>eL a λa=>f a b c) λ_=>cx (λb c d e=>aG b λb=>cZ c 0 1 λh i=>az a 161 [h,i] d e (λd e h=>et d λd i=>Z (dP .not i) λj=>aG (λc d e=>cZ c 6 5 λh i=>cZ c 0 1 λj k=>nx k λk=>az a 154 [j,k] d e (λd e g=>Z (dX 2 [.bE,.bE] [(0,1,i),(1,1,d)] g) λd=>dG a e g d.1 d.2 λd e g=>kh h 8 a e d λa=>cZ c 6 1 λd e=>jg e 2 b λb e=>ao b (f d a g) (e (zS c 5 d 36 b) a g)) g) λa=>ao j (hp c λa=>f a e h) (a (zT c 6 d 7 i 23 j) e h)) g) (H b 5 c) d e) g) λi=>ao h (az a 160 [b] d e f g) (i (zS (bI [b,c]) 4 .bE 9 h) d e)
theorem KM:dM X 154 [a0,aL] (CO X a0 aL):=⟨Zk,Zk⟩
def CX:Za0:=λa b c d e f=>az a 167 [b] c d (λc d g=>aG (λa b c=>gy a λa=>e a b c) λ_=>cx (λb c d g=>aG b λb=>cC c λh=>az a 68 [h,.str [60,60]] d g (λd g h=>lq d h a g λd g h i=>Z (dP .not d) λj=>aG (λc d g=>bt (c 6) λh=>Z (dP .not h) λh=>aG (λc d e=>cC c λg=>az a 67 [g,.Z 4] d e (λd e g=>mz g a e d λd e g=>cK 3 d a g λ_ h=>Z (aH .gtr h (.int .u64 63)) λh=>aG (λc d e=>cZ c 4 5 λf g=>cK 2 g a d λ_ g=>eK c 7 3 a d λ_ h=>gb c λi=>Z (dX 1 [.bE] [(0,1,i)] e) λi=>dG a d e i.1 i.2 λd e i=>Z (dp [.Z 0,.Z 0,.str [],.zT,.zT,.zT,.Z 0,.int .u64 0,.au] [(0,1,f),(1,1,g),(7,1,h),(8,1,d)]) λd=>eM a e i d λa d e=>b (H c 3 a) d e) λb=>ao h (iM a g 7 d 103 e f λ_ a e=>b (zS c 7 d 29 h) a e) (b (zS c 7 d 29 h) g e)) f) λa=>ao h (gb c λa=>e a d g) (a (H c 23 h) d g)) λb=>ao j (cC c λe=>az a 68 [e,.str [62,62]] i h (λe f h=>et e λe i=>Z (cN a f 7 g e) λa=>b (zS (zU c 4 (.Z 19) 5 g 6 d 16 j) 4 (.Z 20) 6 i) a h) f) (b (zU c 4 (.Z 19) 5 g 6 d 16 j) i h)) f) (zS (bI [b]) 2 .bE 3 c) d g) f
theorem KY:dM X 160 [a0] (CX X a0):=⟨Zk,Zk⟩
def CY:Za1:=λa b c d e f g=>Z (sL 5 1 (.ptr 8 0) c) λh=>Z (ay a d h) λh=>d9 h (λ_ a b=>f (.tuple [.bE,.zT]) a b) λi j=>cx (λb c d e=>dy c 14 13 λh=>aG (λc d e=>fp (λa c d=>db a 14 λe=>b (H a 14 e) c d) c 12 14 λb h i=>Z (da 2 h i) λh=>Z (b4 a d 2 h) λh=>Z (fG [.str [],.Z 0] e) λi=>dG a d e i.1 i.2 λd e i=>Z (cN a e 2 d h) λe=>cC c λh=>cK 0 d a e λ_ j=>az a 68 [h,j] e i (λe g h=>lq e h a g λe g h i=>aG b λb=>ao e (cK 1 d a i λ_ b=>cK 2 g a i λ_ c=>Z (dp [.Z 0,.Z 0,.str [],.zT,.zT,.zT,.Z 0,.int .u64 0,.au] [(0,1,b),(1,1,c)]) λb=>eM a i h b λa b c=>f (.tuple [a,.zV]) b c) (b (zU c 7 d 8 g 9 e 25 e) i h)) g) λa=>ao h (a (H c 15 h) d e) (j (H c 15 h) d e)) (H (zU (bI [b,c]) 4 .bE 5 .zT 12 h 13 i) 14 (.Z 0)) d e
theorem K0:dM X 161 [a0,aL] (CY X a0 aL):=⟨Zk,Zk⟩
def C1:Za0:=λa b c d e f=>Z (dp [.str [],.Z 0] [(0,1,.str [110,111,116]),(1,1,.Z 3)]) λg=>Z (dp [.str [],.Z 0] [(0,1,.str [45]),(1,1,.Z 4)]) λh=>Z (dp [.str [],.Z 0] [(0,1,.str [112,114,101]),(1,1,.Z 5)]) λi=>Z (dp [.str [],.Z 0,.str [],.Z 0,.str [],.Z 0] [(0,2,g),(2,2,h),(4,2,i)]) λg=>aG (λb c d=>cC b λg=>az a 172 [g] c d (λc d g=>aG (λa b c=>gy a λa=>e a b c) λ_=>cx (λb c d g=>aG b λb=>cC c λh=>az a 68 [h,.str [119,104,101,110]] d g (λd g h=>lq d h a g λd g h i=>Z (dP .not d) λj=>aG (λc d e=>cC c λg=>az a 68 [g,.str [110,111,116]] d e (λd e g=>lq d g a e λd _ e g=>cO (e+11) λh=>eK c 8 2 a g λi j=>cZ c 0 7 λk l=>Z (dX 1 [.bE] [(0,1,l)] (e+7)) λl=>g3 a g (e+7) l.1 l.2 λg l=>az a 67 [k,.Z 1] l h (λf h k=>Z (ku false 1 1 f) λf=>Z (dp [.Z 0,.Z 0,.str [],.zT,.zT,.zT,.Z 0,.int .u64 0,.au] [(0,1,.Z 6),(1,1,j),(2,1,f),(3,1,d),(8,1,g)]) λf=>nM a h (e+9) f λe f=>Z (ay a f i) λa=>d8 a (some j) (b (zS c 11 d 7 e) f k)) f) f) λa=>ao j (bt (c 7) λa=>e a i h) (a (zT c 8 g 9 d 45 j) i h)) f) (H b 7 c) d g) f) λh=>cx (λb c d g=>ts c 16 3 λi=>aG (λc d g=>fp (λa c d=>db a 16 λe=>b (H a 16 e) c d) c 15 16 λb h i=>Z (lH true 3 2 h i) λh=>Z (fG [.str [],.Z 0] g) λi=>dG a d g i.1 i.2 λd g i=>Z (cN a g 2 d h) λg=>cC c λh=>cK 0 d a g λ_ j=>az a 68 [h,j] g i (λg h i=>lq g i a h λg h i j=>aG b λb=>ao g (cO (i+10) λb=>cK 1 d a j λd g=>cK 2 h a j λh k=>cC c λc=>az a 167 [c] j b (λb c f=>Z (dX 1 [.bE] [(0,1,b)] (i+6)) λb=>g3 a c (i+6) b.1 b.2 λb c=>Z (dp [.Z 0,.Z 0,.str [],.zT,.zT,.zT,.Z 0,.int .u64 0,.au] [(0,1,g),(1,1,k),(8,1,b)]) λb=>nM a c (i+8) b λb c=>Z (ay a c d) λd=>d8 d (some g) (Z (ay a c h) λa=>d8 a (some k) (e b c f))) f) (b (zU c 4 d 5 h 6 g 26 g) j i)) f) λa=>ao i (a (H c 17 i) d g) (h (H c 17 i) d g)) (zT (bI [b]) 2 .bE 15 g 16 (.Z 0)) c d
theorem K6:dM X 167 [a0] (C1 X a0):=⟨Zk,Zk⟩
def nE:Za0:=λa b c d e f=>az a 40 [b] c d (λc d g=>mz g a d c λc d g=>cK 2 c a g λ_ h=>Z (dp [.Z 0,.Z 0,.str [],.zT,.zT,.zT,.Z 0,.int .u64 0,.au] [(1,1,h)]) λh=>eM a g d h λd g h=>dB b 1 a g λ_ i=>nx i λi=>kh b 1 a g i λg=>aG (λa b c=>eL a λa=>e a b c) λe=>cK 0 c a g λ_ i=>jg i 5 e λe i=>ao e (cO (h+16) λf=>Z (d2 4 c) λh=>fZ a g h λj=>cK 3 c a g λk l=>gx d 0 λm=>kP a g m 1 λg=>gx d 4 λm=>fZ a g h λh=>d8 h (some j) (Z (ay a g k) λh=>d8 h (some l) (Z (cN a g 3 m j) λg=>gx d 7 λh=>Z (ay a g k) λj=>d8 j (some l) (ga a g h l λa=>i (zU (bI [b]) 2 .bE 3 c 4 d 29 e) a f)))) (rY c a g 2 λj=>kN j 1 c g h a λg h k=>cF j (b0 a h .eql 9 true g (.str [116,114,117,101])) h k λg h k=>fm j g h k λg h k=>kg g 1 c h k a λh k l=>c1 g (b0 a k .eql 9 true h (.str [102,97,108,115,101])) k l λh k l=>f6 j (λa=>bJ (λb=>a b k l) λa=>ao g (a .zV) (a h)) k l λg h k=>bJ (λg=>aG i λi=>ao g (Z (dp [.zT,.zT,.Z 0] [(0,1,.zV),(2,1,.Z 1)]) λf=>gx d 0 λj=>kP a h j 1 λh=>gx d 4 λj=>Z (cN a h 3 j f) λf=>cK 1 c a f λ_ h=>Z (b0 a f .eql 9 true h (.str [116,114,117,101])) λh=>aG i λi=>ao h (gx d 7 λj=>Z (cN a f 1 j (.int .u64 1)) λa=>i (zS (zU (bI [b]) 2 .bE 3 c 4 d 29 e) 46 g 69 h) a k) (i (zS (zU (bI [b]) 2 .bE 3 c 4 d 29 e) 46 g 69 h) f k)) (cK 0 c a h λ_ j=>jg j 1 i λi j=>ao i (cO (k+10) λk=>cK 1 c a h λl m=>gx d 0 λn=>kP a h n 2 λh=>gx d 2 λn=>Z (ay a h l) λl=>d8 l (some m) (ga a h n m λh=>tA a b 40 h k f λh k l=>aG j λj=>ao h (az a 175 [b] l k (λf k l=>gx d 0 λm=>kP a k m 25 λk=>kh d 8 a k f λa=>j (zU (zU (bI [b]) 2 .bE 3 c 4 d 29 e) 46 g 73 i 6 h 90 h) a l) f) (j (zU (zU (bI [b]) 2 .bE 3 c 4 d 29 e) 46 g 73 i 6 h 90 h) l k))) (cK 0 c a h λ_ l=>jg l 3 j λj l=>ao j (cO (k+10) λk=>Z (d2 4 c) λm=>fZ a h m λn=>gx d 0 λo=>kP a h o 26 λh=>gx d 4 λo=>fZ a h m λm=>d8 m (some n) (Z (cN a h 3 o n) λh=>kM 40 k a h b f λ_ h k=>az a 105 [b] h k (λh k m=>Z (dX 1 [.bE] [(0,1,h)] m) λh=>dG a k m h.1 h.2 λh k m=>kh d 8 a k h λh=>kM 41 m a h b f λ_ a f=>l (zT (zU (bI [b]) 2 .bE 3 c 4 d 29 e) 46 g 73 i 99 j) a f) f)) (rY c a h 6 λm=>kN m 1 c h k a λh k n=>cF m (b0 a k .eql 9 true h (.str [40])) k n λh k n=>bJ (λh=>aG l λl=>ao h (az a 105 [b] k n (λk m n=>kM 41 n a m b f λ_ a f=>l (H (zU (zU (bI [b]) 2 .bE 3 c 4 d 29 e) 46 g 73 i 99 j 123 h) 4 k) a f) f) (rY c a k 2 λm=>kN m 1 c k n a λk n o=>cF m (b0 a n .eql 9 true k (.str [105,102])) n o λk n o=>bJ (λk=>aG l λl=>ao k (gx d 0 λm=>kP a n m 23 λm=>xS o d a m b f λm n o p q=>d8 q (some m) (lr a p n m o λm n o=>kh d 8 a n m λm=>Z (dX 1 [.str []] [(0,1,.str [116,104,101,110])] o) λn=>dG a m o n.1 n.2 λm n o=>az a 66 [b,m] n o (λ_ m n=>xS n d a m b f λm n o p q=>d8 q (some m) (lr a p n m o λm n o=>kh d 8 a n m λm=>Z (dX 1 [.str []] [(0,1,.str [101,108,115,101])] o) λn=>dG a m o n.1 n.2 λm n o=>az a 66 [b,m] n o (λ_ m n=>xS n d a m b f λf m n o p=>d8 p (some f) (lr a o m f n λf m n=>kh d 8 a m f λa=>l (H (zU (zU (bI [b]) 2 .bE 3 c 4 d 29 e) 46 g 73 i 99 j 123 h) 137 k) a n)) f)) f)) (rY c a n 2 λm=>kN m 1 c n o a λn o p=>cF m (b0 a o .eql 9 true n (.str [109,101,114,103,101])) o p λn o p=>bJ (λm=>aG l λl=>ao m (az a 67 [b,.Z 1] o p (λn o p=>Z (ku false 1 1 n) λn=>gx d 0 λq=>kP a o q 24 λo=>kh d 2 a o n λn=>az a 172 [b] n p (λn o p=>az a 172 [b] o p (λf o p=>Z (dX 2 [.bE,.bE] [(0,1,n),(1,1,f)] p) λf=>dG a o p f.1 f.2 λf n o=>kh d 8 a n f λa=>l (zS (zU (zU (bI [b]) 2 .bE 3 c 4 d 29 e) 46 g 73 i 99 j 123 h) 137 k 188 m) a o) f) f) f) (dB b 1 a o λ_ n=>kO n λn=>kh b 1 a o n λn=>iM a n 7 c 103 p f λ_ a f=>l (zS (zU (zU (bI [b]) 2 .bE 3 c 4 d 29 e) 46 g 73 i 99 j 123 h) 137 k 188 m) a f)) λa=>ao m (a n) (a .zT))) λa=>ao m (a k) (a .zT))) λa=>ao m (a h) (a .zT))))) λa=>ao j (a g) (a .zT))) f
theorem oM:dM X 172 [a0] (nE X a0):=⟨Zk,Zk⟩
def C3:Za0:=λa b c d e f=>tA a b 41 c d f λc d g=>aG (λb c d=>cC b λg=>az a 105 [g] c d (λc d g=>Z (dX 1 [.bE] [(0,1,c)] g) λc=>dG a d g c.1 c.2 λc d g=>aG (λa b c=>gy a λa=>e a b c) λ_=>cx (λb c d g=>aG b λb=>cC c λh=>tA a h 44 d g f λd g h=>Z (dP .not d) λi=>aG (λc d e=>cZ c 5 0 λg h=>az a 105 [h] d e (λd e f=>Z (dX 1 [.bE] [(0,1,d)] f) λd=>nw a e f d.1 d.2 1 g λa d e=>b (H c 5 a) d e) f) λb=>ao i (cC c λb=>kM 41 g a h b f λ_ a b=>hp c λc=>e c a b) (b (zS c 7 d 23 i) h g)) (H b 5 c) d g) f) λa=>ao c (e .au g d) (a (zT (bI [b]) 2 .au 4 c 13 c) g d)
theorem La:dM X 175 [a0] (C3 X a0):=⟨Zk,Zk⟩
end
open Go.aC Go.aj
def bm(t:Tok):List y:=[.Z t.kind,.str t.text,.Z t.at_,.int .u64 t.n,.bool t.ty.b,.bool t.ty.s,.Z t.ty.w]
def i6:Nat:=3
def RY(f:Nat):Bool:=gH f [6,150,128]
structure bW(X:bf):Prop where
 none:∀f l,RY f=false->X.O f l=none
set_option maxRecDepth 100000 in
def zR{z7:bf}(O:bW z7){f:Nat}{a:List y}{z9:B R}{n:Nat}{u v:aY}(c:bD z7 f a.length=true)(h:bL z7 f a z9 n u v)(b:RY f=false:=by rfl):az z7 f a z9 n u v:=bF c (O.none _ _ b) h
theorem z6{z7:bf}(O:bW z7){f:Nat}{a:List y}{Fd:B R->Nat->aY->aY->Prop}{z9:B R}{n:Nat}{u v:aY}(c:dM z7 f a Fd)(h:Fd z9 n u v)(b:RY f=false:=by rfl):az z7 f a z9 n u v:=zR O c.1 (by rw[c.2];exact h) b
structure aj(X:bf)(j:B R)(an ba:Nat)(aA:List Tok)(i:Nat):Prop where
 at_:∃c ac,F X j an=some (.cells c 2 .own)/\c.get 0=some ac/\c.get 1=some (.Z i)/\ca X j (λh=>h=ba) ba ac 7 (aA.map bm)
 ne:an≠ba
def aj.K{X:bf}{j S':B R}{an ba:Nat}{aA:List Tok}{i:Nat}(e:aj X j an ba aA i)(a7:F X S' an=F X j an)(bl:F X S' ba=F X j ba):aj X S' an ba aA i:=by obtain⟨c,ac,a,b,d,f⟩:=e.at_;exact⟨⟨c,ac,by rw[a7];exact a,b,d,f.K λh g=>by subst g;exact bl⟩,e.ne⟩
def fT{C:ai}{j:B R}{b n J:Nat}{c:B y}{st:it}{v:y}(e:F C j b=some (.cells c n st))(a:c.get J=some v):ay C j (.ptr b J)=some v:=by rw[bv,e];exact a
section
variable{X:bf}{j S':B R}{k W an ba:Nat}{aA:List Tok}{i:Nat}
def kC(l:bW X)(n:(o X).aD<=k)(p:aj X j an ba aA i)(x:an<k)(A:ba<k){t:Tok}(d:aA[i]? =some t):
 az X 40 [.ptr an 0] j k (λM S' W=>M=.agg (bm t)/\aT X j k S' W) zW:=by
 refine z6 l (LW ..) ?_;unfold Du;obtain⟨c,ac,a,f,g,b⟩:=p.at_;have w:=fT a f;have a7:=fT a g;have af:i<(aA.map bm).length:=by rw[Zj];exact(Ze.1 d).1
 have m:=b.c0 i af;have s:b4 X (aI X j k (zO [.Z 0,.str [],.Z 0,.int .u64 0,.zT,.zT,.Z 0] 7)) 7 (.ptr ba (i*7))=some (.agg (bm t)):=by have:=(b.K (S':=aI X j k (zO [.Z 0,.str [],.Z 0,.int .u64 0,.zT,.zT,.Z 0] 7)) (λh v=>by subst v;exact ag n Zo)).row Zd (i:=i) (r:=bm t) (by rw[Zn,d];rfl);exact this
 refine dE @w @a7 @m @s bm.eq_1 ⟨?_⟩;exact⟨rfl,b8⟩
def lo:List y:=[.Z 0,.str [],.Z 0,.int .u64 0,.zT,.zT,.Z 0]
def aj.on(a:aj X j an ba aA i){E:Nat}{c:B y}(d:F X S' an=some (.cells c 2 .own))(b:∀b1 st,F X j an=some (.cells b1 2 st)->c=b1.set 1 (some (.Z E)))(bl:F X S' ba=F X j ba):aj X S' an ba aA E:=by
 obtain⟨b1,ac,aL,bs,a3,a4⟩:=a.at_;have:=b b1 _ aL;subst this;refine⟨⟨_,ac,d, ?_, ?_,a4.K λh f=>by subst f;exact bl⟩,a.ne⟩
 ·rw[B.eX,Zi Zd];exact bs
 ·rw[B.eX,Zu rfl]
def ue(a:bW X)(b:(o X).aD<=k)(t:Tok)(ab:aY)(e:∀S' W,aT X j k S' W->ab (.iface 26 (.agg [.Z 21,.Z t.at_])) S' W):
 az X 103 [.agg (bm t)] j k zW ab:=by
 refine z6 a (Jo ..) ?_;unfold B8 bm;refine br ⟨?_⟩;exact⟨e _ _ b8⟩
def In(v:bW X)(m:(o X).aD<=k)(x:aj X j an ba aA i)(T3:(o X).aD<=an)(T1:an<k)(T2:ba<k)(T6:aA.length<=300000){t:Tok}(L:aA[i]? =some t){s:ax}(G:ek t s=true):
 az X 68 [.ptr an 0,.str s] j k (λM S' W=>M=.tuple [.agg (bm t),.zV]/\aj X S' an ba aA (i+1)/\bo X [an] j k S' W) zW:=by
 refine z6 v (DW ..) ?_;unfold yh;refine jO ?_;have T4:=(Ze.1 L).1;have r:aT X j k (aI X j k (zO lo 7)) (k+1):=aT.fresh m _;have A:aj X (aI X j k (zO lo 7)) an ba aA i:=x.K (r.K _ T1) (r.K _ T2);refine(kC v Zo A Zo Zo L).mono ?_ (λ_ _ _ e=>e);rintro M ah ar ⟨rfl,f⟩;have T5:=f.le;have d:F X ah k=zO lo 7:=by rw[f.K _ Zo];exact aJ m
 have T0:bo X [an] j k ah ar:=bo.of ((aT.fresh m _).trans f);have C:aj X ah an ba aA i:=A.K (f.K _ Zo) (f.K _ Zo);obtain⟨c,ac,aL,bs,a3,a4⟩:=C.at_;have w:=T0.K;simp only[ek,Zt,Y4,Zf]at G;obtain⟨iX,rfl⟩:=G;have a7:=fT aL a3;have n:=zP i;have p:decide (t.text≠t.text)=false:=by simp
 unfold lo at d;have fin:∀(a:B R) (W:Nat),F X a an=some (.cells (ch c 1 [.Z ((i+1:Nat):Int)]) 2 .own)->bo X [an] j k a W->F X a ba=F X ah ba->aj X a an ba aA (i+1)/\bo X [an] j k a W:=λa W O d P=>
  ⟨C.on O (λb1 st e=>by rw[aL]at e;cases e;exact je ..) P,d⟩
 have T7:=x.ne;rcases iX with dx|dx
 ·have l:decide (t.kind≠2)=false:=by simp[dx]
  refine cd bm.eq_1 @l @p @a7 @n @aL @d ⟨?_⟩;refine⟨rfl,fin _ _ ?_ ?_ ?_⟩
  ·simp(disch:=omega) only[ag,aJ];rfl
  ·exact⟨Zo,λb T g=>by have:=w b T g;simp only[Zq,ZS,YU,YB,ZN,Yp]at g;simp(disch:=omega) only[ag];exact this⟩
  ·simp(disch:=omega) only[ag]
 ·have l:decide (t.kind≠2)=true:=by simp[dx]
  have N:decide (t.kind≠6)=false:=by simp[dx]
  refine cd bm.eq_1 @l @N @p @a7 @n (Za @aL @d) ⟨?_⟩;refine⟨rfl,fin _ _ ?_ ?_ ?_⟩
  ·simp(disch:=omega) only[ag,aJ];rfl
  ·exact⟨Zo,λb T g=>by have:=w b T g;simp only[Zq,ZS,YU,YB,ZN,Yp]at g;simp(disch:=omega) only[ag];exact this⟩
  ·simp(disch:=omega) only[ag]
def Im(x:bW X)(v:(o X).aD<=k)(P:aj X j an ba aA i)(T2:(o X).aD<=an)(N:an<k)(O:ba<k){t:Tok}(T1:aA[i]? =some t){s:ax}(c:ek t s=false):
 az X 68 [.ptr an 0,.str s] j k (λM S' W=>M=.tuple [.agg lo,.zT]/\aj X S' an ba aA i/\bo X [an] j k S' W) zW:=by
 refine z6 x (DW ..) ?_;unfold yh;refine jO ?_;have w:aT X j k (aI X j k (zO lo 7)) (k+1):=aT.fresh v _;have A:aj X (aI X j k (zO lo 7)) an ba aA i:=P.K (w.K _ N) (w.K _ O);refine(kC x Zo A Zo Zo T1).mono ?_ (λ_ _ _ e=>e);rintro M ah ar ⟨rfl,g⟩;have T3:=g.le;have f:F X ah k=zO lo 7:=by rw[g.K _ Zo];exact aJ v
 have L:bo X [an] j k ah ar:=bo.of ((aT.fresh v _).trans g);have T0:aj X ah an ba aA i:=A.K (g.K _ Zo) (g.K _ Zo);have p:=L.K;unfold lo at f;have fin:∀(d:B R) (W:Nat),F X d an=F X ah an->bo X [an] j k d W->F X d ba=F X ah ba->aj X d an ba aA i/\bo X [an] j k d W:=λd W C f G=>
  ⟨T0.K C G,f⟩
 simp only[ek,Bool.and_eq_false_iff,Bool.or_eq_false_iff,Zc]at c;by_cases dx:t.kind=2
 ·have c:t.text≠s:=by rcases c with e|e;exact absurd dx e.1;exact e
  have l:decide (t.kind≠2)=false:=by simp[dx]
  have n:decide (t.text≠s)=true:=by simpa using c
  refine c9 bm.eq_1 @l @n @f ⟨?_⟩;refine⟨rfl,fin _ _ ?_ ?_ ?_⟩
  ·simp(disch:=omega) only[ag]
  ·exact⟨Zo,λb T a=>by have:=p b T a;simp only[Zq,ZS,YU,YB,ZN,Yp]at a;simp(disch:=omega) only[ag];exact this⟩
  ·simp(disch:=omega) only[ag]
 ·have l:decide (t.kind≠2)=true:=by simp[dx]
  by_cases r:t.kind=6
  ·have c:t.text≠s:=(by rcases c with e|e;exact absurd r e.2;exact e);have m:decide (t.kind≠6)=false:=(by simp[r]);have n:decide (t.text≠s)=true:=(by simpa using c);refine dE bm.eq_1 @l @m @n @f ⟨?_⟩;refine⟨rfl,fin _ _ ?_ ?_ ?_⟩
   ·simp(disch:=omega) only[ag]
   ·exact⟨Zo,λb T a=>by have:=p b T a;simp only[Zq,ZS,YU,YB,ZN,Yp]at a;simp(disch:=omega) only[ag];exact this⟩
   ·simp(disch:=omega) only[ag]
  ·have m:decide (t.kind≠6)=true:=(by simp[r]);refine c9 bm.eq_1 @l @m @f ⟨?_⟩;refine⟨rfl,fin _ _ ?_ ?_ ?_⟩
   ·simp(disch:=omega) only[ag]
   ·exact⟨Zo,λb T a=>by have:=p b T a;simp only[Zq,ZS,YU,YB,ZN,Yp]at a;simp(disch:=omega) only[ag];exact this⟩
   ·simp(disch:=omega) only[ag]
def py(m:bW X)(n:(o X).aD<=k)(v:aj X j an ba aA i)(O:(o X).aD<=an)(L:an<k)(N:ba<k)(T2:aA.length<=300000){t:Tok}(A:aA[i]? =some t)(q:Int):
 az X 67 [.ptr an 0,.Z q] j k (λM S' W=>t.kind=q/\M=.agg (bm t)/\aj X S' an ba aA (i+1)/\bo X [an] j k S' W)
  (λM S' W=>t.kind≠q/\M=.iface 26 (.agg [.Z 21,.Z t.at_])/\bo X [an] j k S' W):=by
 refine z6 m (MO ..) ?_;unfold DU;refine jO ?_;have P:=(Ze.1 A).1;have r:aT X j k (aI X j k (zO lo 7)) (k+1):=aT.fresh n _;have w:aj X (aI X j k (zO lo 7)) an ba aA i:=v.K (r.K _ L) (r.K _ N);refine(kC m Zo w Zo Zo A).Zm ?_;rintro M ah ar ⟨rfl,a⟩;have T0:=a.le;have l:F X ah k=zO lo 7:=by rw[a.K _ Zo];exact aJ n
 have G:bo X [an] j k ah ar:=bo.of ((aT.fresh n _).trans a);have x:aj X ah an ba aA i:=w.K (a.K _ Zo) (a.K _ Zo);obtain⟨c,ac,aL,bs,a3,a4⟩:=x.at_;have s:=G.K;have a7:=fT aL a3;have C:=zP i;unfold lo at l;have T3:=v.ne;by_cases f:t.kind=q
 ·have g:decide (t.kind≠q)=false:=by simp[f]
  refine eC bm.eq_1 @g @a7 @C @aL @l ⟨?_⟩;refine⟨f,rfl,x.on (c:=ch c 1 [.Z ((i+1:Nat):Int)]) ?_ (λb1 st e=>by rw[aL]at e;cases e;exact je ..) ?_, ?_⟩
  ·simp(disch:=omega) only[ag,aJ];rfl
  ·simp(disch:=omega) only[ag]
  ·exact⟨Zo,λb T d=>by have:=s b T d;simp only[Zq,ZS,YU,YB,ZN,Yp]at d;simp(disch:=omega) only[ag];exact this⟩
 ·have g:decide (t.kind≠q)=true:=by simp[f]
  refine cb bm.eq_1 @g @l ⟨?_⟩;refine(ue m Zo t _ ?_).mono (λ_ _ _ e=>e.elim) (λ_ _ _ e=>e);intro S' W p;have T1:=p.le;refine⟨f,rfl,Zo,λb T d=> ?_⟩;have:=s b T d;simp only[Zq,ZS,YU,YB,ZN,Yp]at d;rw[p.K b Zo];simp(disch:=omega) only[ag];exact this
def el:Tok:=⟨0,[],0,0,cg⟩
def kJ:List ax->Tok->List Tok->dn Tok
 |[],x,l=>ok x l|s::a,_,l=>andThen (cq s l) λh l=>kJ a h l
def dq{aA:List Tok}{i:Nat}{x:Tok}{l:List Tok}(e:aA.drop i=x::l):aA[i]? =some x/\aA.drop (i+1)=l:=by
 constructor
 ·have:=congrArg (λl=>l[0]?) e;simpa using this
 ·rw[<-zC,e];rfl
def cQ(a:List ax):List (List y):=a.map λs=>[.str s]
def IH(w:bW X)(UO:(o X).aD<=k)(T9:aj X j an ba aA i)(T7:(o X).aD<=an)(U2:an<k)(U4:ba<k)(UC:aA.length<=300000){aB:y}{bz:Nat}{c:List ax}(U3:bz<k)(UE:bz≠an)(O:ca X j (λh=>h=bz) bz aB 1 (cQ c))
 {r:Except Int (Tok×List Tok)}(I:kJ c el (aA.drop i)=some r):
 az X 66 [.ptr an 0,aB] j k (λM S' W=>∃x f,r=.ok (x,aA.drop f)/\M=.agg (bm x)/\aj X S' an ba aA f/\bo X [an] j k S' W)
  (λM S' W=>∃a,r=.error a/\M=.iface 26 (.agg [.Z 21,.Z a])/\bo X [an] j k S' W):=by
 refine z6 w (MM ..) ?_;unfold DT;have UB:=O.len;have UP:=T9.ne;have UD:=O.many;simp only[cQ,Zj]at UD;refine jO ?_;refine jO ?_;have T1:aT X j k (aI X (aI X j k (zO (bm el) 7)) (k+1) (zO (bm el) 7)) (k+1+1):=b8;have UH:F X (aI X (aI X j k (zO (bm el) 7)) (k+1) (zO (bm el) 7)) k=zO (bm el) 7:=by simp(disch:=omega) only[ag,aJ]
 have UI:F X (aI X (aI X j k (zO (bm el) 7)) (k+1) (zO (bm el) 7)) (k+1)=zO (bm el) 7:=aJ Zo;refine jt @UB ⟨?_⟩;refine dW (λz S' n=>∃x f,r=.ok (x,aA.drop f)/\z.g 5=some (.ptr (k+1) 0)/\z.g 4=some (.ptr k 0)/\k+1<n/\F X S' (k+1)=zO (bm x) 7/\F X S' k=zO (bm el) 7/\aj X S' an ba aA f/\bo X [an] j k S' n) (λE U7=> ?_) ?_
 ·refine cG (λm z S' n=>∃q f x,m=c.length-q/\q<=c.length/\z.g 0=some (.ptr an 0)/\z.g 9=some aB/\z.g 10=some (.Z c.length)/\z.g 11=some (.Z q)/\z.g 5=some (.ptr (k+1) 0)/\z.g 4=some (.ptr k 0)/\k+1<n
   /\F X S' (k+1)=zO (bm x) 7/\F X S' k=zO (bm el) 7/\aj X S' an ba aA f/\bo X [an] j k S' n/\kJ (c.drop q) x (aA.drop f)=some r)
   c.length ⟨0,i,el,Zo,Zo, ?_, ?_, ?_, ?_, ?_, ?_,Zo,UI,UH,T9.K (T1.K _ U2) (T1.K _ U4),bo.of T1,I⟩ ?_
  ·exact av
  ·exact av
  ·refine o8 ⟨?_⟩;simp[cQ]
  ·refine o8 ⟨?_⟩;rfl
  ·exact av
  ·exact av
  rintro m z ah n ⟨q,f,x,rfl,UL,t0,t9,TZ,T4,t5,t4,T8,t,v,C,g,d⟩;refine bA @TZ @T4 ⟨?_⟩;refine sn (λN=> ?_) (λN=> ?_)
  ·have N:q<c.length:=Zo;have U5:c.drop q=c[q]::c.drop (q+1):=Zz N;rw[U5]at d;have U6:=O.c0 q (by simp[cQ];exact N);have TY:ay X ah (.ptr bz (q*1))=some (.str c[q]):=(by have:=(O.K (S':=ah) λh G=>by subst G;exact g.K _ U3 (by simp;exact UE)).cell q [.str c[q]] 0 (.str c[q]) (by simp[cQ]) rfl;rwa[ZL]at this);refine dE @t9 @T4 @U6 @TY @t0 ⟨?_⟩;generalize c[q]=s at d TY;cases al:aA.drop f with
   |nil=>rw[al]at d;simp[kJ,cq,andThen]at d|cons h l=>
    obtain⟨G,U9⟩:=dq al;rw[al]at d;simp only[kJ,cq]at d;cases P:ek h s with
    |true=>
     rw[P]at d;simp only[ZK,andThen,ok]at d;refine(In w (zK g.le) C T7 Zo Zo UC G P).Zm ?_;rintro M L UG ⟨rfl,T3,p⟩;have UA:=p.le;have T0:F X L (k+1)=zO (bm x) 7:=(by rw[p.K _ Zo Zx];exact t);have U1:F X L k=zO (bm el) 7:=(by rw[p.K _ Zo Zx];exact v);refine cb @t5 @T0 @T4 ⟨?_⟩;have U0:=zP q;refine bh @U0 ⟨?_⟩;refine⟨_, ?_,q+1,f+1,h,rfl,Zo,Y t0,Y t9,Y TZ,av,Y t5,Y t4,Zo,aJ Zo,by simp(disch:=omega) only[ag];exact U1,T3.K (zQ) (zQ), ?_, ?_⟩
     ·omega
     ·have T2:=(g.trans p).K;exact⟨zK g.le,λb T A=>by rw[<-T2 b T A];exact zQ⟩
     ·rw[U9];exact d
    |false=>rw[P]at d;simp only[ZA,ZJ,andThen,bad,Zh]at d;subst d;refine(Im w (zK g.le) C T7 Zo Zo G P).Zm ?_;rintro M L UG ⟨rfl,T3,p⟩;have UA:=p.le;have T0:F X L (k+1)=zO (bm x) 7:=(by rw[p.K _ Zo Zx];exact t);refine cb @t5 @T0 @t0 ⟨?_⟩;refine(kC w (zK g.le) (T3.K (zQ) (zQ)) Zo Zo G).Zm ?_;rintro M UJ UQ ⟨rfl,T5⟩;have UM:=T5.le;refine(ue w (zK g.le) h _ ?_).mono (λ_ _ _ e=>e.elim) (λ_ _ _ e=>e);intro UK UR T6;have UN:=T6.le;have T2:=(g.trans p).K;refine⟨_,rfl,rfl,zK g.le,λb T A=> ?_⟩;rw[T6.K b Zo,T5.K b Zo, <-T2 b T A];simp(disch:=omega) only[ag]
  ·have U8:q=c.length:=Zo;subst U8;rw[List.drop_length]at d;simp only[kJ,ok,Zh]at d;subst d;refine br ⟨?_⟩;exact U7 _ _ _ ⟨x,f,rfl,Y t5,Y t4,T8,t,v,C,g⟩
 ·rintro z ah n ⟨x,f,UF,t5,t4,T8,t,v,C,g⟩;unfold bm at t;unfold bm el cg at v;refine dE @t5 @t4 @t @v (aZ t) ⟨?_⟩;refine⟨x,f,UF,rfl,C.K (zQ) (zQ), ?_⟩;exact⟨zK g.le,λb T A=>by rw[<-g.K b T A];exact zQ⟩
structure e3(X:bf)(j:B R)(k an ba:Nat)(aA:List Tok)(i:Nat):Prop where
 aD:(o X).aD<=k
 bk:(o X).aD<=an
 eu:an<k
 eh:ba<k
 many:aA.length<=300000
 par:aj X j an ba aA i
def e3.go{X:bf}{j S':B R}{k W an ba i b:Nat}{aA:List Tok}(e:e3 X j k an ba aA i)(c:aj X S' an ba aA b)(a:k<=W):e3 X S' W an ba aA b:=
 ⟨ZD e.aD a,e.bk,ZX e.eu a,ZX e.eh a,e.many,c⟩
def bR(a b:Nat):Nat->Prop:=λh=>a<=h/\h<b
def iU(q a:Int):y:=.iface 26 (.agg [.Z q,.Z a])
def fN(X:bf)(an ba:Nat)(aA:List Tok)(j:B R)(k:Nat)(r:Except Int (aX×List Tok)):aY:=λM S' W=>
 ∃u a,r=.ok (u,aA.drop a)/\bB X S' (bR k W) u M/\aj X S' an ba aA a/\bo X [an] j k S' W
def e9{α:Type}(X:bf)(an:Nat)(j:B R)(k:Nat)(r:Except Int α):aY:=λM S' W=>
 ∃a,r=.error a/\M=iU 21 a/\bo X [an] j k S' W
def mF(X:bf):Prop:=8<X.aD/\∀j q,q<5->∃b aB,ay X j (.ptr 8 q)=some aB/\ca X j (λh=>h<X.aD) b aB 2 ((ae q).map λJ=>[.str J.1,.Z J.2])
variable{am ah:B R}{ak ar:Nat}
def e9.of{α cz:Type}{dU:B R}{b:Nat}{r:Except Int α}{c:Except Int cz}{M:y}(e:e9 X an am ak r M S' W)(i:bo X [an] dU b am ak)(I:∀a,r=.error a->c=.error a):e9 X an dU b c M S' W:=by obtain⟨a,d,f,g⟩:=e;exact⟨a,I a d,f,i.trans g⟩
def bB.fr{a b:Nat}{u:aX}{v:y}(e:bB X j (bR a b) u v)(l:bo X [an] j ak S' W)(T:b<=ak)(m:an<a){d f:Nat}(g:d<=a)(i:b<=f):bB X S' (bR d f) u v:=
 bB.lift (λh c=>⟨ZD g c.1,ZX c.2 i⟩) _ _ (bB.K (λh c=>l.K h (zK c.2) (by simp;have:=c.1;omega)) _ _ e)
def bB.ex{a b:Nat}{u:aX}{v:y}(e:bB X j (bR a b) u v)(q:∀h,a<=h->h<b->F X S' h=F X j h){d f:Nat}(g:d<=a)(i:b<=f):bB X S' (bR d f) u v:=
 bB.lift (λh c=>⟨ZD g c.1,ZX c.2 i⟩) _ _ (bB.K (λh c=>q h c.1 c.2) _ _ e)
def ka{cz:Type}{s:ax}{l:List Tok}{f:Option Tok->List Tok->dn cz}{r:Except Int (cz×List Tok)}(e:eE s l f=some r):∃x a,l=x::a/\((ek x s=true/\f (some x) a=some r)\/(ek x s=false/\f none l=some r)):=by unfold eE gv at e;cases l with|nil=>cases e|cons x a=>refine⟨x,a,rfl, ?_⟩;simp only[]at e;cases b:ek x s with|true=>rw[b]at e;exact .inl ⟨rfl,e⟩|false=>rw[b]at e;exact .inr ⟨rfl,e⟩
def dQ{α cz:Type}{x:dn α}{f:α->List Tok->dn cz}{r:Except Int (cz×List Tok)}(e:andThen x f=some r):(∃a,x=some (.error a)/\r=.error a)\/∃a l,x=some (.ok (a,l))/\f a l=some r:=by
 unfold andThen at e;split at e
 ·cases e
 ·injection e with e;exact .inl ⟨_,rfl,e.symm⟩
 ·exact .inr ⟨_,_,rfl,e⟩
def ih(c:bW X)(a:e3 X j k an ba aA i){x:Tok}{l:List Tok}(al:aA.drop i=x::l)(s:ax):
 az X 68 [.ptr an 0,.str s] j k (λM S' W=>M=.tuple [.agg (bm (if ek x s then x else el)),.bool (ek x s)]/\aj X S' an ba aA (if ek x s then i+1 else i)/\bo X [an] j k S' W) zW:=by
 obtain⟨b,f⟩:=dq al;cases d:ek x s with|true=>simp only[ZK];exact In c a.aD a.par a.bk a.eu a.eh a.many b d|false=>simp only[ZA,ZJ];exact Im c a.aD a.par a.bk a.eu a.eh b d
structure ki(X:bf)(an ba:Nat)(aA:List Tok)(n:Nat):Prop where
 level:∀j k i (q:Nat) r,q<=5->e3 X j k an ba aA i->Go.aj.level n q (aA.drop i)=some r->az X 154 [.ptr an 0,.Z (q:Int)] j k (fN X an ba aA j k r) (e9 X an j k r)
 shift:∀j k i r,e3 X j k an ba aA i->Go.aj.shift n (aA.drop i)=some r->az X 160 [.ptr an 0] j k (fN X an ba aA j k r) (e9 X an j k r)
 lO:∀j k i r,e3 X j k an ba aA i->Go.aj.li n (aA.drop i)=some r->az X 167 [.ptr an 0] j k (fN X an ba aA j k r) (e9 X an j k r)
 part:∀j k i r,e3 X j k an ba aA i->Go.aj.part n (aA.drop i)=some r->az X 172 [.ptr an 0] j k (fN X an ba aA j k r) (e9 X an j k r)
 gk:∀j k i r,e3 X j k an ba aA i->Go.aj.gk n (aA.drop i)=some r->az X 138 [.ptr an 0] j k (fN X an ba aA j k r) (e9 X an j k r)
 arrow:∀j k i r,e3 X j k an ba aA i->Go.aj.arrow n (aA.drop i)=some r->az X 105 [.ptr an 0] j k (fN X an ba aA j k r) (e9 X an j k r)
 list:∀j k i r,e3 X j k an ba aA i->Go.aj.list n (aA.drop i)=some r->az X 175 [.ptr an 0] j k (λM S' W=>∃a b aF bz,r=.ok (a,aA.drop b)/\ca X S' (bR k W) bz M 1 (aF.map λv=>[v])/\b3 X S' (λh=>bR k W h/\h≠bz) a aF/\aj X S' an ba aA b/\bo X [an] j k S' W) (e9 X an j k r)
def c6{C:ai}{f:Nat}{b:List y}{S ab:aY}{j:B R}{k:Nat}(P:B R->Prop)(aU:P j)(e:∀a,P a->az C f b a k S ab):az C f b j k S ab:=e j aU
def jb(q:IntKind)(x:Int):y.same 30 (.int q x) (.int q x)=true:=by simp only[y.same,qM];cases q<;>simp[i1]
def aj.ex(e:aj X j an ba aA i)(q:aT X j k S' W)(a:an<k)(b:ba<k):aj X S' an ba aA i:=e.K (q.K _ a) (q.K _ b)
def Oc(O:bW X){n:Nat}(U:∀m,m<n->ki X an ba aA m):∀j k i r,e3 X j k an ba aA i->Go.aj.arrow n (aA.drop i)=some r->az X 105 [.ptr an 0] j k (fN X an ba aA j k r) (e9 X an j k r):=by
 intro j k i r s I;cases n with|zero=>simp[Go.aj.arrow]at I|succ n=>
 refine z6 O (Js ..) ?_;unfold Ca;have U6:=s.aD;have U3:=s.eu;have U2:=s.bk;unfold Go.aj.arrow at I;rcases dQ I with ⟨a,g,rfl⟩|⟨left,bG,g,I⟩
 ·exact((U n Zo).gk j k i _ s g).mono (λM S' W e=>by obtain⟨u,T9,e,_⟩:=e;cases e) (λM S' W e=>e)
 refine((U n Zo).gk j k i _ s g).mono ?_ (λM S' W e=>by obtain⟨a,e,_⟩:=e;cases e);rintro UB am ak ⟨u,TY,T3,C,T6,w⟩;cases T3;have T5:=w.le;have f:=s.go T6 T5;obtain⟨x,U8,al,T8⟩:=ka I;refine(ih O f al _).Zm ?_;rintro UC ah ar ⟨rfl,d,p⟩;have U4:=p.le;rcases T8 with ⟨L,I⟩|⟨L,I⟩
 ·rw[L]at d ⊢;simp only[ZK]at d ⊢;rw[<-(dq al).2]at I;refine bh bm.eq_1 ⟨?_⟩;refine c6 (λt=>aT X ah ar t (ar+1+9)/\F X t ar=zO (bm x) 7) ⟨b8,aJ Zo⟩ ?_;rintro t ⟨v,T1⟩;rcases dQ I with ⟨a,l,rfl⟩|⟨right,U9,l,I⟩
  ·refine((U n Zo).arrow t _ _ _ (f.go (d.ex v Zo (zK f.eh)) Zo) l).mono (λM S' W e=>by obtain⟨u,T9,e,_⟩:=e;cases e) (λM S' W e=>e.of (w.trans (p.trans (bo.of v))) (λ_ e=>e))
  refine((U n Zo).arrow t _ _ _ (f.go (d.ex v Zo (zK f.eh)) Zo) l).mono ?_ (λM S' W e=>by obtain⟨a,e,_⟩:=e;cases e);rintro v4 T0 UA ⟨U1,i4,T4,N,T7,A⟩;cases T4;have U5:=A.le;simp only[ok,Zh]at I;subst I;have T2:F X T0 ar=zO (bm x) 7:=by rw[A.K _ Zo Zx];exact T1
  obtain⟨TZ,rfl,P,_⟩:=C.ptr;obtain⟨U0,rfl,U7,_⟩:=N.ptr;have P:=P.1;refine bA (aZ T2) bm.eq_1 ⟨?_⟩;refine ed (jb _ _) ?_;refine⟨_,i4,rfl,bB.lit (fC:=.own) (bz:=ar+1+5) (aF:=[.ptr TZ 0,.ptr U0 0]) (aJ Zo) ⟨Zo,Zo⟩ ?_ ⟨Zo,Zo⟩ rfl Zo Zo (b3.two (bB.K (λh c=> ?_) _ _ C) (bB.K (λh c=> ?_) _ _ N) (λh c=> ?_) (λh c=> ?_)), ?_, ?_⟩
  ·exact z2
  ·have g:=c.1;have l:=c.2;simp(disch:=omega) only[ag];rw[A.K h Zo Zx,v.K h Zo,p.K h Zo Zx]
  ·have g:=c.1;have l:=c.2;simp(disch:=omega) only[ag]
  ·simp only[bR]at c ⊢;omega
  ·simp only[bR]at c ⊢;omega
  ·exact T7.K (zQ) (by have:=f.eh;exact zQ)
  ·exact⟨Zo,λb T G=>by
    rw[<-((w.trans (p.trans (bo.of v))).trans A).K b T G];simp(disch:=omega) only[ag]⟩
 ·rw[L]at d ⊢;simp only[ZA,ZJ]at d ⊢;simp only[ok,Zh]at I;subst I;refine bA bm.eq_1 el.eq_1 ⟨?_⟩;refine⟨left,TY,rfl,bB.ex C (λh g l=> ?_) (Zg _) Zo,d.K (zQ) (by have:=f.eh;exact zQ), ?_⟩
  ·simp(disch:=omega) only[ag];exact p.K h Zo Zx
  ·exact⟨Zo,λb T G=>by rw[<-(w.trans p).K b T G];exact zQ⟩
def P4(T8:bW X){n:Nat}(U:∀m,m<n->ki X an ba aA m):∀j k i r,e3 X j k an ba aA i->Go.aj.gk n (aA.drop i)=some r->az X 138 [.ptr an 0] j k (fN X an ba aA j k r) (e9 X an j k r):=by
 intro j k i r G I;cases n with|zero=>simp[Go.aj.gk]at I|succ n=>
 refine z6 T8 (Ki ..) ?_;unfold CA;have Uo:=G.aD;have Uj:=G.eu;have Ui:=G.bk;unfold Go.aj.gk at I;rcases dQ I with ⟨a,w,rfl⟩|⟨left,bG,w,I⟩
 ·exact((U n Zo).level j k i 0 _ Zo G w).mono (λM S' W e=>by obtain⟨u,UP,e,_⟩:=e;cases e) (λM S' W e=>e)
 refine((U n Zo).level j k i 0 _ Zo G w).mono ?_ (λM S' W e=>by obtain⟨a,e,_⟩:=e;cases e);rintro V4 am ak ⟨u,UQ,UF,T7,UI,N⟩;cases UF;have UH:=N.le;have T5:=G.go UI UH;obtain⟨x,Uz,al,UO⟩:=ka I;refine(ih T8 T5 al _).Zm ?_;rintro V5 ah ar ⟨rfl,t,f⟩;have Ul:=f.le;have Uk:=T5.eh;rcases UO with ⟨U0,I⟩|⟨U0,I⟩
 ·rw[U0]at t ⊢;simp only[ZK]at t ⊢;rw[<-(dq al).2]at I;simp only[]at I;obtain⟨T6,aB,bz,aF,rfl,TZ,UR,a7,bl,Uu,Uv,Uw,Ux,Uy,US,UL,UN⟩:=T7.open;have TZ:=TZ;obtain⟨Up,Uq⟩:=TZ;have b1:ay X ah (.ptr T6 0)=some (.Z left.kind):=by rw[f.df _ _ Zo Zx];exact UR
  have O:ay X ah (.ptr T6 8)=some aB:=by rw[f.df _ _ Zo Zx];exact US
  have bp:k9 left=some true->∀(z:bO) (d:B R) (c:Nat),z.g 4=some (.ptr ar 0)->z.g 3=some (.ptr T6 0)->z.g 0=some (.ptr an 0)->aT X ah ar d c->ar<c->F X d ar=zO (bm x) 7->
   cO (c+9) λUU=>bt (z.g 4) λUY=>Z (d2 2 UY) λU7=>Z (ay X d U7) λU8=>bt (z.g 3) λUZ=>bt (z.g 0) λUa=>az X 138 [Ua] d UU (λUb UA UV=>Z (dX 2 [.bE,.bE] [(0,1,UZ),(1,1,Ub)] (c+5)) λU6=>g3 X UA (c+5) U6.1 U6.2 λUc UB=>Z (dp [.Z 0,.Z 0,.str [],.zT,.zT,.zT,.Z 0,.int .u64 0,.au] [(0,1,(.Z 21)),(1,1,U8),(8,1,Uc)]) λUd=>nM X UB (c+7) Ud λUe U1=>Z (ay X U1 U7) λUf=>d8 Uf (some U8) (fN X an ba aA j k r Ue U1 UV)) (e9 X an j k r):=by
   intro TY z d c t4 t3 t0 p Un U3;rw[TY]at I;simp only[]at I;refine dE @t4 @t3 @t0 (aZ U3) bm.eq_1 ⟨?_⟩;rcases dQ I with ⟨a,A,rfl⟩|⟨right,V0,A,I⟩
   ·refine((U n Zo).gk d _ _ _ (T5.go (t.ex p Zo Zo) Zo) A).mono (λM S' W e=>by obtain⟨u,UP,e,_⟩:=e;cases e) (λM S' W e=>e.of (N.trans (f.trans (bo.of (p.more Zo)))) (λ_ e=>e))
   refine((U n Zo).gk d _ _ _ (T5.go (t.ex p Zo Zo) Zo) A).mono ?_ (λM S' W e=>by obtain⟨a,e,_⟩:=e;cases e);rintro v4 U9 V1 ⟨Uh,i4,UG,U4,UJ,T1⟩;cases UG;have Um:=T1.le;simp only[ok,Zh]at I;subst I;have UC:F X U9 ar=zO (bm x) 7:=(by rw[T1.K _ Zo Zx];exact U3);obtain⟨UX,rfl,Ur,_⟩:=U4.ptr;refine bA (aZ UC) bm.eq_1 ⟨?_⟩;refine ed (jb _ _) ?_;refine⟨_,i4,rfl,bB.lit (fC:=.own) (bz:=c+5) (aF:=[.ptr T6 0,.ptr UX 0]) (aJ Zo) ⟨Zo,Zo⟩ ?_ ⟨Zo,Zo⟩ rfl Zo Zo (b3.two (bB.K (λh l=> ?_) _ _ T7) (bB.K (λh l=> ?_) _ _ U4) (λh l=> ?_) (λh l=> ?_)), ?_, ?_⟩
   ·exact z2
   ·have w:=l.1;have A:=l.2;simp(disch:=omega) only[ag];rw[T1.K h Zo Zx,p.K h Zo,f.K h Zo Zx]
   ·have w:=l.1;have A:=l.2;simp(disch:=omega) only[ag]
   ·simp only[bR]at l ⊢;omega
   ·simp only[bR]at l ⊢;omega
   ·exact UJ.K (zQ) (zQ)
   ·exact⟨Zo,λb T T9=>by
     rw[<-((N.trans (f.trans (bo.of (p.more (by omega:c<=c+9))))).trans T1).K b T T9];simp(disch:=omega) only[ag]⟩
  have U2:k9 left=some false->∀(d:B R) (c:Nat) (S:aY),aT X ah ar d c->az X 103 [.agg (bm x)] d c S (e9 X an j k r):=by intro TY d c S p;rw[TY]at I;simp only[bad,Zh]at I;subst I;refine(ue T8 (zK p.le) x _ ?_).mono (λ_ _ _ e=>e.elim) (λ_ _ _ e=>e);intro S' W UD;exact⟨_,rfl,rfl,N.trans (f.trans (bo.of (p.trans UD)))⟩
  by_cases T4:left.kind=1
  ·have g:decide (left.kind≠1)=false:=(by simp[T4]);refine c8 bm.eq_1 @b1 @g ⟨?_⟩;refine dV ?_;refine c8 bm.eq_1 @b1 @g ⟨?_⟩;refine dV ?_;refine mQ ?_;exact bp (by simp[k9,T4]) _ _ _ (av) (av) (av) b8 Zo (aJ Zo)
  ·have g:decide (left.kind≠1)=true:=(by simp[T4]);by_cases C:left.kind=4
   ·have s:decide (left.kind≠4)=false:=(by simp[C]);cases T3:left.args with
    |nil=>simp[k9,C,T3]at I|cons a Ug=>
     obtain⟨v,UM,UE⟩:=UN.get 0 a (by rw[T3];rfl);obtain⟨dI,f7,UW⟩:=UL.one UM;have dI:da 1 aB (.Z 0)=some (.ptr bz 0):=dI;obtain⟨U5,rfl,UK,UT⟩:=UE.ptr;obtain⟨Us,Ut⟩:=UK;obtain⟨V2,V3⟩:=UW;have P:ay X ah (.ptr bz 0)=some (.ptr U5 0):=(by rw[f.df _ _ Zo Zx];exact f7);have T0:ay X ah (.ptr U5 0)=some (.Z a.kind):=(by rw[f.df _ _ Zo Zx];exact UT);by_cases T2:a.kind=1
     ·have L:decide (a.kind≠1)=false:=(by simp[T2]);refine c8 bm.eq_1 @b1 (Za @g (Za @s (Za @O (Za @dI (Za @P (Za @T0 @L)))))) ⟨?_⟩;refine dV ?_;refine c8 bm.eq_1 @b1 (Za @g (Za @s (Za @O (Za @dI (Za @P (Za @T0 @L)))))) ⟨?_⟩;refine dV ?_;refine mQ ?_;exact bp (by simp[k9,C,T3,T2]) _ _ _ (av) (av) (av) b8 Zo (aJ Zo)
     ·have L:decide (a.kind≠1)=true:=(by simp[T2]);refine c8 bm.eq_1 @b1 (Za @g (Za @s (Za @O (Za @dI (Za @P (Za @T0 @L)))))) ⟨?_⟩;refine dV ?_;refine c8 bm.eq_1 @b1 (Za @g (Za @s (Za @O (Za @dI (Za @P (Za @T0 @L)))))) ⟨?_⟩;refine dV ?_;refine mR ?_;refine bh bm.eq_1 ⟨?_⟩;exact U2 (by simp[k9,C,T3,T2]) _ _ _ b8
   ·have s:decide (left.kind≠4)=true:=(by simp[C]);refine c8 bm.eq_1 @b1 (Za @g @s) ⟨?_⟩;refine dV ?_;refine c8 bm.eq_1 @b1 (Za @g @s) ⟨?_⟩;refine dV ?_;refine mR ?_;refine bh bm.eq_1 ⟨?_⟩;exact U2 (by simp[k9,T4,C]) _ _ _ b8
 ·rw[U0]at t ⊢;simp only[ZA,ZJ]at t ⊢;simp only[ok,Zh]at I;subst I;refine bA bm.eq_1 el.eq_1 ⟨?_⟩;refine⟨left,UQ,rfl,bB.ex T7 (λh w A=> ?_) (Zg _) Zo,t.K (zQ) (zQ), ?_⟩
  ·simp(disch:=omega) only[ag];exact f.K h Zo Zx
  ·exact⟨Zo,λb T T9=>by rw[<-(N.trans f).K b T T9];exact zQ⟩
def I9(X:bf)(an ba:Nat)(aA:List Tok)(j:B R)(k:Nat)(r:Option aX×List Tok):aY:=λM S' W=>∃c,r.2=aA.drop c/\aj X S' an ba aA c/\bo X [an] j k S' W/\
 match r.1 with
 |none=>M=.tuple [.bE,.zT]|some u=>∃b q a,u=.mk q a [] false cg 0 []/\M=.tuple [.ptr b 0,.zV]/\k<=b/\b<W/\F X S' b=zO (ep q a [] false cg 0 .au) 9
def Oj(T1:bW X)(g:mF X){q:Nat}(t:q<5)(d:e3 X j k an ba aA i){r:Option aX×List Tok}(I:hM (ae q) (aA.drop i)=some r):
 az X 161 [.ptr an 0,.Z (q:Int)] j k (I9 X an ba aA j k r) zW:=by
 refine z6 T1 (K0 ..) ?_;unfold CY;have UG:=d.aD;have UD:=d.eu;have UC:=d.bk;have UE:=d.eh;obtain⟨U3,g⟩:=g;obtain⟨b,aB,T7,L⟩:=g j q t;have U5:sL 5 1 (.ptr 8 0) (.Z q)=some (.ptr 8 q):=by simp[sL,hU,vh,c3,t]
 have T5:=L.len;rw[Zj]at T5;have U7:=L.many;rw[Zj]at U7;refine c8 @U5 @T7 @T5 ⟨?_⟩;refine dV ?_;refine cG (λm z S' n=>∃E,m=(ae q).length-E/\E<=(ae q).length/\z.g 0=some (.ptr an 0)/\z.g 12=some aB/\z.g 13=some (.Z ((ae q).length:Int))/\z.g 14=some (.Z E)/\aj X S' an ba aA i/\bo X [an] j k S' n/\hM ((ae q).drop E) (aA.drop i)=some r)
  (ae q).length ⟨0,Zo,Zo,av,av,av,cW,d.par,bo.refl _ _ _,I⟩ ?_
 rintro m z ah n ⟨E,rfl,T4,t0,T9,TY,O,G,w,T⟩;have U6:=w.le;have UA:=d.go G U6;refine mc @TY @O ⟨?_⟩;refine dV ?_;refine sn (λc=> ?_) (λc=> ?_)
 ·have c:E<(ae q).length:=Zo;have T2:(ae q).drop E=(ae q)[E]::(ae q).drop (E+1):=Zz c;rw[T2]at T;have T3:=L.c0 E (by simpa using c);have p:=((g ah q t).choose_spec);obtain⟨bn,UB,T8,T6⟩:=g ah q t;have U8:UB=aB:=by have u:ay X ah (.ptr 8 q)=ay X j (.ptr 8 q):=(by rw[bv,bv];have:∀j:B R,F X j 8=X.G.get 8:=λj=>(by have U4:Nat.blt 8 (o X).aD=true:=(by simp[Nat.blt];exact U3);simp only[F,U4,cE];rfl);rw[this,this]);rw[u,T7]at T8;exact(YF T8).symm
  subst U8;have T3:=T6.c0 E (by simpa using c);have p:=λa (e:∀h,h<X.aD->F X a h=F X ah h)=>(T6.K (S':=a) e).row Zd (i:=E) (r:=[.str (ae q)[E].1,.Z (ae q)[E].2]) (by rw[Zn,Zb c];rfl);have p:=p ah (λ_ _=>rfl);generalize (ae q)[E]=J at T p T2;obtain⟨s,N⟩:=J;simp only[hM]at T;refine dE @T9 @O @T3 @p @t0 ⟨?_⟩;refine c6 (λa=>aT X ah n a (n+1)/\F X a n=zO [.str s,.Z N] 2) ⟨b8,aJ Zo⟩ ?_;rintro a ⟨P,U1⟩;cases al:aA.drop i with
  |nil=>rw[al]at T;simp[gv]at T|cons x l=>
   rw[al]at T;refine(ih T1 (UA.go (G.ex P Zo Zo) Zo) al s).Zm ?_;rintro M TZ U9 ⟨rfl,f,A⟩;have UF:=A.le;have U2:F X TZ n=zO [.str s,.Z N] 2:=(by rw[A.K _ Zo Zx];exact U1);have T0:=w.trans ((bo.of P).trans A);cases v:ek x s with
   |true=>
    rw[v]at f;simp only[gv,v,ZK]at T f ⊢;simp only[Zh]at T;subst T;refine bA bm.eq_1 (aZ U2) ⟨?_⟩;refine⟨i+1,(dq al).2.symm,f.K (zQ) (zQ), ?_,U9+1,N,x.at_,rfl,rfl,Zo,Zo, ?_⟩
    ·exact⟨Zo,λb T C=>by rw[<-T0.K b T C];exact zQ⟩
    ·exact z2
   |false=>
    rw[v]at f;simp only[gv,v,ZA,ZJ]at T f ⊢;have U0:=zP E;refine c9 bm.eq_1 el.eq_1 @O @U0 ⟨?_⟩;refine⟨_, ?_,E+1,rfl,Zo,Y t0,Y T9,Y TY,av,f.K (zQ) (zQ), ?_,T⟩
    ·omega
    ·exact⟨Zo,λb T C=>by rw[<-T0.K b T C];exact zQ⟩
 ·have T4:E=(ae q).length:=Zo;subst T4;rw[List.drop_length]at T;simp only[hM,Zh]at T;subst T;refine br ⟨?_⟩;exact⟨i,rfl,G,w,rfl⟩
def Sr(TY:bW X)(U7:mF X){n:Nat}(U:∀m,m<n->ki X an ba aA m):∀j k i (q:Nat) r,q<=5->e3 X j k an ba aA i->Go.aj.level n q (aA.drop i)=some r->az X 154 [.ptr an 0,.Z (q:Int)] j k (fN X an ba aA j k r) (e9 X an j k r):=by
 intro j k i q r UP d I;cases n with|zero=>simp[Go.aj.level]at I|succ n=>
 refine z6 TY (KM ..) ?_;unfold CO;have UT:=d.aD;have UN:=d.eu;have UK:=d.bk;have UO:=d.eh;unfold Go.aj.level at I;by_cases U0:q=5
 ·subst U0;rw[Zu rfl]at I;have C:decide (((5:Nat):Int)=5)=true:=rfl;refine bh @C ⟨?_⟩;exact(U n Zo).shift j k i r d I
 ·rw[Zi U0]at I;have C:decide ((q:Int)=5)=false:=by simp;omega
  have T4:=zP q;refine bA @C @T4 ⟨?_⟩;rcases dQ I with ⟨a,g,rfl⟩|⟨left,bG,g,I⟩
  ·exact((U n Zo).level j k i (q+1) _ Zo d g).mono (λM S' W e=>by obtain⟨u,w,e,_⟩:=e;cases e) (λM S' W e=>e)
  refine((U n Zo).level j k i (q+1) _ Zo d g).mono ?_ (λM S' W e=>by obtain⟨a,e,_⟩:=e;cases e);rintro UH am ak ⟨u,UE,U9,T8,U2,O⟩;cases U9;have UQ:=O.le;refine dV ?_;refine cG (λm z S' U3=>∃left v w,m<=n/\z.g 0=some (.ptr an 0)/\z.g 1=some (.Z q)/\z.g 5=some v/\bB X S' (bR k U3) left v/\aj X S' an ba aA w/\bo X [an] j k S' U3/\hR m q left (aA.drop w)=some r)
   n ⟨left,UH,UE,Zg _,av,av,av,T8,U2,O,I⟩ ?_
  clear T8 U2 O g I;rintro m z ah ar ⟨left,v,UF,US,t0,t1,t5,N,UC,p,I⟩;cases m with|zero=>simp[hR]at I|succ m=>
  unfold hR at I;have UB:=p.le;have T0:=d.go UC UB;refine dV ?_;refine bA @t0 @t1 ⟨?_⟩;cases T:hM (ae q) (aA.drop UF)with
  |none=>rw[T]at I;cases I|some UG=>
  rw[T]at I;refine(Oj TY U7 Zo T0 T).Zm ?_;rintro UY T3 U4 ⟨i3,TZ,P,l,t⟩;have U1:=l.le;obtain⟨ro,UX⟩:=UG;simp only[]at TZ;subst TZ;cases ro with
  |none=>simp only[]at t I;subst t;simp only[ok,Zh]at I;subst I;refine bh @t5 ⟨?_⟩;exact⟨left,i3,rfl,bB.fr N l Zo Zo (Zg _) Zo,P,p.trans l⟩|some u=>
   simp only[]at t I;obtain⟨b,x,a,rfl,rfl,UL,UM,U5⟩:=t;refine c9 @t0 @t1 @t5 @T4 ⟨?_⟩;rcases dQ I with ⟨UI,L,rfl⟩|⟨right,UW,L,I⟩
   ·refine((U m Zo).level T3 U4 i3 (q+1) _ Zo (T0.go P U1) L).mono (λM S' W e=>by obtain⟨u,w,e,_⟩:=e;cases e) (λM S' W e=>e.of (p.trans l) (λ_ e=>e))
   refine((U m Zo).level T3 U4 i3 (q+1) _ Zo (T0.go P U1) L).mono ?_ (λM S' W e=>by obtain⟨a,e,_⟩:=e;cases e);rintro v4 A f ⟨UJ,i4,UA,T9,UD,s⟩;cases UA;have UR:=s.le;have U6:F X A b=zO (ep x a [] false cg 0 .au) 9:=(by rw[s.K _ Zo Zx];exact U5);obtain⟨T1,rfl,UU,_⟩:=N.ptr;obtain⟨T2,rfl,UV,_⟩:=T9.ptr;refine cb @t5 @U6 @t1 ⟨?_⟩;have fin:∀dY,dY=aI X (aI X A f (zO [.ptr T1 0,.ptr T2 0] 2)) b (zO (ep x a [] false cg 0 (.slice f 0 2 2)) 9)->bB X dY (bR k (f+1)) (two (.mk x a [] false cg 0 []) left right) (.ptr b 0)/\aj X dY an ba aA i4/\bo X [an] j k dY (f+1):=by
    rintro dY rfl;refine⟨bB.lit (fC:=.own) (bz:=f) (aF:=[.ptr T1 0,.ptr T2 0]) (aJ Zo) ⟨Zo,Zo⟩ ?_ ⟨Zo,Zo⟩ rfl Zo Zo (b3.two (bB.K (λh c=> ?_) _ _ N) (bB.K (λh c=> ?_) _ _ T9) (λh c=> ?_) (λh c=> ?_)), ?_, ?_⟩
    ·simp(disch:=omega) only[ag,aJ]
    ·have g:=c.1;have G:=c.2;simp(disch:=omega) only[ag];rw[s.K h Zo Zx,l.K h Zo Zx]
    ·have g:=c.1;have G:=c.2;simp(disch:=omega) only[ag]
    ·simp only[bR]at c ⊢;omega
    ·simp only[bR]at c ⊢;omega
    ·exact UD.K (zQ) (zQ)
    ·exact⟨Zo,λh c U8=>by
      rw[<-((p.trans l).trans s).K h c U8];simp(disch:=omega) only[ag]⟩
   obtain⟨T5,T6,T7⟩:=fin (aI X (aI X A f (zO [.ptr T1 0,.ptr T2 0] 2)) b (some (.cells (ch (B.ofList (ep x a [] false cg 0 .au) 0 .nil) 8 (y.slice f 0 2 2).cells) 9 .own))) rfl;refine sn (λG=> ?_) (λG=> ?_)
   ·have dx:q=2:=Zo;rw[Zu dx]at I;simp only[ok,Zh]at I;subst I;exact⟨_,i4,rfl,T5,T6,T7⟩
   ·rw[Zi Zo]at I;exact⟨m,Zo,_,.ptr b 0,i4,Zo,Y t0,Y t1,av,T5,T6,T7,I⟩
def aby(T1:bW X){n:Nat}(U:∀m,m<n->ki X an ba aA m):∀j k i r,e3 X j k an ba aA i->Go.aj.shift n (aA.drop i)=some r->az X 160 [.ptr an 0] j k (fN X an ba aA j k r) (e9 X an j k r):=by
 intro j k i r p I;cases n with|zero=>simp[Go.aj.shift]at I|succ n=>
 refine z6 T1 (KY ..) ?_;unfold CX;have Un:=p.aD;have Uh:=p.eu;have Ug:=p.bk;have Ui:=p.eh;unfold Go.aj.shift at I;rcases dQ I with ⟨a,f,rfl⟩|⟨left,bG,f,I⟩
 ·exact((U n Zo).lO j k i _ p f).mono (λM S' W e=>by obtain⟨u,w,e,_⟩:=e;cases e) (λM S' W e=>e)
 refine((U n Zo).lO j k i _ p f).mono ?_ (λM S' W e=>by obtain⟨a,e,_⟩:=e;cases e);rintro Ub am ak ⟨u,UY,US,UA,UF,TY⟩;cases US;have UT:=TY.le;refine dV ?_;refine cG (λm z S' N=>∃left v w,z.g 0=some (.ptr an 0)/\z.g 3=some v/\bB X S' (bR k N) left v/\aj X S' an ba aA w/\bo X [an] j k S' N/\ie m left (aA.drop w)=some r)
  n ⟨left,Ub,UY,av,av,UA,UF,TY,I⟩ ?_
 clear UA UF TY f I UT;rintro m z ah ar ⟨left,v,U5,t0,t3,T0,UG,TZ,I⟩;cases m with|zero=>simp[ie]at I|succ m=>
 unfold ie at I;have UU:=TZ.le;have U7:=p.go UG UU;refine dV ?_;obtain⟨U8,rfl,UI,_⟩:=T0.ptr;have UI:=UI.2;refine bh @t0 ⟨?_⟩;obtain⟨x,Uq,al,UJ⟩:=ka I;refine(ih T1 U7 al _).Zm ?_;rintro Ut UM d ⟨rfl,t,A⟩;have Uj:=A.le;have UD:=al;refine jt bm.eq_1 ⟨?_⟩;refine dW (λP S' N=>∃T2 T5 x w bu,P.g 0=some (.ptr an 0)/\P.g 3=some (.ptr U8 0)/\P.g 4=some (.Z T5)/\P.g 5=some (.ptr bu 0)/\P.g 6=some (.bool T2)/\F X S' bu=zO (bm x) 7/\ar<=bu/\bu<N/\bB X S' (bR k ar) left (.ptr U8 0)/\aj X S' an ba aA w/\bo X [an] j k S' N/\ar<=N/\
  (T2=true->ig m T5 x left (aA.drop w)=some r)/\(T2=false->r=.ok (left,aA.drop w))) (λE U1=> ?_) ?_
 ·have Uf:∀j,F X (aI X (aI X j d (zO (bm el) 7)) d (some (.cells (ch (B.ofList (bm el) 0 .nil) 0 (bm x)) 7 .own))) d=zO (bm x) 7:=λj=>aJ Zo;rcases UJ with ⟨U3,I⟩|⟨U3,I⟩
  ·rw[U3]at t ⊢;simp only[ZK]at t ⊢;refine br ⟨?_⟩;refine U1 _ _ _ ⟨true,19,x,U5+1,d,Y t0,Y t3,av,av,av,aJ Zo,Zo,Zo, ?_,t.K (zQ) (zQ), ?_,Zo,λ_=>by rw[(dq UD).2];exact I,λe=>by cases e⟩
   ·refine bB.ex T0 (λh f g=> ?_) (Zg _) (Zg _);simp(disch:=omega) only[ag];exact A.K h Zo Zx
   ·exact⟨Zo,λh c s=>by rw[<-(TZ.trans A).K h c s];exact zQ⟩
  ·rw[U3]at t ⊢;simp only[ZA,ZJ]at t ⊢;simp only[]at I;refine bh @t0 ⟨?_⟩;refine c6 (λT6=>aT X UM d T6 (d+1)/\F X T6 d=zO (bm el) 7) ⟨b8,aJ Zo⟩ ?_;rintro T6 ⟨T9,UN⟩;have Ua:=U7.go (t.ex T9 Zo Zo) (by omega:ar<=d+1);obtain⟨h,Ur,UE,UX⟩:=ka I;refine(ih T1 Ua UE _).Zm ?_;rintro Uu U9 Us ⟨rfl,L,T4⟩;have Uk:=T4.le;have T8:F X U9 d=zO (bm el) 7:=(by rw[T4.K _ Zo Zx];exact UN);have UK:∀h,h<ar->h≠an->F X U9 h=F X ah h:=λh f g=>(by rw[T4.K h Zo (by simpa using g),T9.K h Zo,A.K h Zo (by simpa using g)]);have C:=((TZ.trans A).trans (bo.of T9)).trans T4;unfold bm el cg at T8;rcases UX with ⟨U4,I⟩|⟨U4,I⟩
   ·rw[U4]at L ⊢;simp only[ZK]at L ⊢;refine bA bm.eq_1 @T8 ⟨?_⟩;refine U1 _ _ _ ⟨true,20,h,U5+1,d,Y t0,Y t3,av,av,av,aJ Zo,Zo,Zo, ?_,L.K (zQ) (zQ), ?_,Zo,λ_=>by rw[(dq UE).2];exact I,λe=>by cases e⟩
    ·refine bB.ex T0 (λh f g=> ?_) (Zg _) (Zg _);simp(disch:=omega) only[ag];exact UK h g Zo
    ·exact⟨Zo,λh c s=>by rw[<-C.K h c s];exact zQ⟩
   ·rw[U4]at L ⊢;simp only[ZA,ZJ]at L ⊢;simp only[ok,Zh]at I;refine c9 bm.eq_1 el.eq_1 cg.eq_1 @T8 ⟨?_⟩;refine U1 _ _ _ ⟨false,20,el,U5,d,Y t0,Y t3,av,av,av,aJ Zo,Zo,Zo, ?_,L.K (zQ) (zQ), ?_,Zo,λe=>(by cases e),λ_=>I.symm⟩
    ·refine bB.ex T0 (λh f g=> ?_) (Zg _) (Zg _);simp(disch:=omega) only[ag];exact UK h g Zo
    ·exact⟨Zo,λh c s=>by rw[<-C.K h c s];exact zQ⟩
 ·clear T0 t A UJ I al UD UG U7;rintro Ue Ud UZ ⟨T2,T5,x,U6,bu,t0,t3,t4,t5,UL,UO,Uo,Up,UB,UH,C,Ul,c,UV⟩;cases T2 with
  |false=>have I:=UV rfl;subst I;refine bA @UL @t3 ⟨?_⟩;exact⟨left,U6,rfl,bB.lift (λh c=>⟨c.1,zK c.2⟩) _ _ UB,UH,C⟩|true=>
   have I:=c rfl;cases m with|zero=>simp[ig]at I|succ m=>
   unfold ig at I;have O:=p.go UH (by omega:k<=UZ);refine bA @UL @t0 ⟨?_⟩;cases al:aA.drop U6 with|nil=>rw[al]at I;simp[eT,andThen]at I|cons h l=>
   rw[al]at I;simp only[eT]at I;refine(py T1 O.aD O.par O.bk O.eu O.eh O.many (dq al).1 4).mono ?_ ?_
   ·rintro Uc T7 T3 ⟨U2,rfl,UW,G⟩;have Um:=G.le;rw[Zu U2]at I;simp only[andThen,ok]at I;have UP:F X T7 bu=zO (bm x) 7:=(by rw[G.K _ Zo Zx];exact UO);have UR:=bB.ex (S':=T7) UB (λh f g=>G.K h Zo Zx) (Zg _) (Zg _);have UC:=C.trans G;refine jt bm.eq_1 ⟨?_⟩;refine dV ?_;refine sn (λU0=> ?_) (λU0=> ?_)
    ·rw[Zu U0]at I;simp only[bad,Zh]at I;subst I;refine bh bm.eq_1 ⟨?_⟩;refine(ue T1 Zo h _ ?_).mono (λ_ _ _ e=>e.elim) (λ_ _ _ e=>e);intro S' W UQ;exact⟨_,rfl,rfl,UC.trans (bo.of (aT.trans b8 UQ))⟩
    ·rw[Zi U0]at I;refine dE bm.eq_1 @t4 @t5 @t3 (aZ UP) ⟨?_⟩;refine⟨m,Zo,_,.ptr (T3+1+1) 0,U6+1,Y t0,av,bB.lit (q:=1) (cap:=1) (n:=h.n) (kind:=T5) (at_:=x.at_) (name:=[]) (no:=false) (ty:=cg) (b:=T3+1+1) (fC:=.own) (bz:=T3+1) (aF:=[.ptr U8 0]) (aJ (b:=T3+1+1) Zo) ⟨Zo,Zo⟩ ?_ ⟨Zo,Zo⟩ rfl Zo Zo (b3.one (bB.K (λh c=> ?_) _ _ UR) (λh c=> ?_)), ?_, ?_,by rw[(dq al).2];exact I⟩
     ·exact z2
     ·have f:=c.1;have g:=c.2;simp(disch:=omega) only[ag]
     ·simp only[bR]at c ⊢;omega
     ·exact UW.K (zQ) (zQ)
     ·exact⟨Zo,λh c s=>by
       rw[<-UC.K h c s];simp(disch:=omega) only[ag]⟩
   ·rintro Uc T7 T3 ⟨U2,rfl,G⟩;rw[Zi U2]at I;simp only[andThen,bad,Zh]at I;subst I;exact⟨_,rfl,rfl,C.trans G⟩
def RH{n aO E:Nat}{cs:List y}(q:IntKind)(e:E<n):lH true n aO (.agg cs) (.int q (E:Int))=some (.agg ((cs.drop (E*aO)).take aO)):=by simp[lH,hU,c3,e]
def Bg:List y:=[.str [110,111,116],.Z 3,.str [45],.Z 4,.str [112,114,101],.Z 5]
def aan{E:Nat}(e:E<3):∃s q,oe.drop E=(s,q)::oe.drop (E+1)/\(Bg.drop (E*2)).take 2=[.str s,.Z q]:=by
 match E,e with
 |0,_=>exact⟨_,_,rfl,rfl⟩|1,_=>exact⟨_,_,rfl,rfl⟩|2,_=>exact⟨_,_,rfl,rfl⟩
def aaq(TZ:bW X){n:Nat}(U:∀m,m<n->ki X an ba aA m):∀j k i r,e3 X j k an ba aA i->Go.aj.li n (aA.drop i)=some r->az X 167 [.ptr an 0] j k (fN X an ba aA j k r) (e9 X an j k r):=by
 intro j k i r A I;cases n with|zero=>simp[Go.aj.li]at I|succ n=>
 refine z6 TZ (K6 ..) ?_;unfold C1;have VB:=A.aD;have V5:=A.eu;have V4:=A.bk;have V6:=A.eh;unfold Go.aj.li at I;cases T:hM oe (aA.drop i)with
 |none=>rw[T]at I;cases I|some Ug=>
 rw[T]at I;refine h5 ⟨?_⟩;refine dW (λz S' T4=>z.g 0=some (.ptr an 0)/\aj X S' an ba aA i/\bo X [an] j k S' T4/\Ug=(none,aA.drop i)) (λE UJ=> ?_) ?_
 ·refine cG (λm z S' T4=>∃E,m=3-E/\E<=3/\z.g 0=some (.ptr an 0)/\z.g 15=some (.agg Bg)/\z.g 16=some (.Z E)/\aj X S' an ba aA i/\bo X [an] j k S' T4/\hM (oe.drop E) (aA.drop i)=some Ug)
   3 ⟨0,rfl,Zo,av,cW,cW,A.par,bo.refl _ _ _,T⟩ ?_
  rintro m z ah ar ⟨E,rfl,V7,t0,Uh,UP,U0,T1,T⟩;have UL:=T1.le;have T6:=A.go U0 UL;refine jt @UP ⟨?_⟩;refine dV ?_;refine sn (λU6=> ?_) (λU6=> ?_)
  ·have U6:E<3:=Zo;obtain⟨s,UA,Uo,Uu⟩:=aan U6;rw[Uo]at T;simp only[hM]at T;have Ua:=RH (n:=3) (aO:=2) (cs:=Bg) .i64 U6;rw[Uu]at Ua;refine c9 @Uh @UP @Ua @t0 ⟨?_⟩;refine c6 (λP=>aT X ah ar P (ar+1)/\F X P ar=zO [.str s,.Z UA] 2) ⟨b8,aJ Zo⟩ ?_;rintro P ⟨T9,Uk⟩;cases al:aA.drop i with|nil=>rw[al]at T;simp[gv]at T|cons x l=>
   rw[al]at T;refine(ih TZ (T6.go (U0.ex T9 Zo Zo) Zo) al s).Zm ?_;rintro M UQ G ⟨rfl,T3,UI⟩;have V9:=UI.le;have UR:F X UQ ar=zO [.str s,.Z UA] 2:=(by rw[UI.K _ Zo Zx];exact Uk);have UX:=T1.trans ((bo.of T9).trans UI);cases C:ek x s with
   |true=>
    rw[C]at T3;simp only[gv,C,ZK]at T T3 ⊢;simp only[Zh]at T;subst T;simp only[]at I;refine cb bm.eq_1 (aZ UR) @t0 ⟨?_⟩;refine c6 (λp=>aT X UQ G p (G+1+10)/\F X p G=zO (bm x) 7) ⟨b8,aJ Zo⟩ ?_;rintro p ⟨L,UE⟩;have UB:=T6.go (T3.ex L Zo Zo) (by omega:ar<=G+1+10);have UV:=UX.trans (bo.of L);rw[<-(dq al).2]at I;rcases dQ I with ⟨a,UF,rfl⟩|⟨V2,Ux,UF,I⟩
    ·exact((U n Zo).lO p _ _ _ UB UF).mono (λM S' W e=>by obtain⟨u,U8,e,_⟩:=e;cases e) (λM S' W e=>e.of UV (λ_ e=>e))
    refine((U n Zo).lO p _ _ _ UB UF).mono ?_ (λM S' W e=>by obtain⟨a,e,_⟩:=e;cases e);rintro VH T0 g ⟨V3,U9,Uq,U3,U7,w⟩;cases Uq;have Us:=w.le;simp only[ok,Zh]at I;subst I;obtain⟨Uz,rfl,VC,_⟩:=U3.ptr;have T8:F X T0 G=zO (bm x) 7:=(by rw[w.K _ Zo Zx];exact UE);have US:F X T0 ar=zO [.str s,.Z UA] 2:=(by rw[w.K _ Zo Zx,L.K _ Zo];exact UR);refine cb (aZ T8) (aZ US) bm.eq_1 ⟨?_⟩;refine ed (jb _ _) ?_;refine cb (aZ T8) (aZ US) bm.eq_1 ⟨?_⟩;refine ed (jb _ _) ?_;refine⟨_,U9,rfl,bB.lit (q:=1) (cap:=1) (n:=0) (kind:=UA) (at_:=x.at_) (name:=[]) (no:=false) (ty:=cg) (b:=G+1+8) (fC:=.own) (bz:=G+1+6) (aF:=[.ptr Uz 0]) (aJ (b:=G+1+8) Zo) ⟨Zo,Zo⟩ ?_ ⟨Zo,Zo⟩ rfl Zo Zo (b3.one (bB.K (λh f=> ?_) _ _ U3) (λh f=> ?_)), ?_, ?_⟩
    ·exact z2
    ·have t:=f.1;have U2:=f.2;simp(disch:=omega) only[ag]
    ·simp only[bR]at f ⊢;omega
    ·exact U7.K (zQ) (zQ)
    ·exact⟨Zo,λh f O=>by
      rw[<-(UV.trans w).K h f O];simp(disch:=omega) only[ag]⟩
   |false=>
    rw[C]at T3;simp only[gv,C,ZA,ZJ]at T T3 ⊢;have Uj:=zP E;refine c9 bm.eq_1 el.eq_1 @UP @Uj ⟨?_⟩;refine⟨_, ?_,E+1,rfl,Zo,Y t0,Y Uh,av,T3.K (zQ) (zQ), ?_,T⟩
    ·omega
    ·exact⟨Zo,λb T O=>by rw[<-UX.K b T O];exact zQ⟩
  ·have UJ:E=3:=Zo;subst UJ;simp only[oe,YC,Ym,hM,Zh]at T;refine br ⟨?_⟩;exact UJ _ _ _ ⟨Y t0,U0,T1,T.symm⟩
 ·clear T;rintro V1 dU aD ⟨t0,Uc,U4,rfl⟩;simp only[]at I;have Ub:=U4.le;have UN:=A.go Uc Ub;refine bh @t0 ⟨?_⟩;rcases dQ I with ⟨a,t,rfl⟩|⟨left,bG,t,I⟩
  ·exact((U n Zo).part dU aD i _ UN t).mono (λM S' W e=>by obtain⟨u,U8,e,_⟩:=e;cases e) (λM S' W e=>e.of U4 (λ_ e=>e))
  refine((U n Zo).part dU aD i _ UN t).mono ?_ (λM S' W e=>by obtain⟨a,e,_⟩:=e;cases e);rintro V0 am ak ⟨u,Uw,Up,UT,Ud,UG⟩;cases Up;have Ur:=UG.le;refine dV ?_;refine cG (λm z S' T4=>∃left v U8,z.g 0=some (.ptr an 0)/\z.g 7=some v/\bB X S' (bR k T4) left v/\aj X S' an ba aA U8/\bo X [an] j k S' T4/\hl m left (aA.drop U8)=some r)
   n ⟨left,V0,Uw,Y t0,av,bB.lift (λh f=>⟨zK f.1,f.2⟩) _ _ UT,Ud,U4.trans UG,I⟩ ?_
  clear UT Ud UG t I Ur t0 Uc U4 Ub UN;rintro m z ah ar ⟨left,v,U1,t0,Ui,UU,U0,T1,I⟩;cases m with|zero=>simp[hl]at I|succ m=>
  unfold hl at I;have UL:=T1.le;have T6:=A.go U0 UL;refine dV ?_;obtain⟨UO,rfl,Ue,_⟩:=UU.ptr;have Ue:=Ue.2;refine bh @t0 ⟨?_⟩;obtain⟨x,VD,al,Uv⟩:=ka I;refine(ih TZ T6 al _).Zm ?_;rintro VF P T5 ⟨rfl,T2,UH⟩;have V8:=UH.le;have UY:=T1.trans UH;have T9:=bB.ex (S':=P) UU (λh t U2=>UH.K h Zo Zx) (Zg _) (Zg _);rcases Uv with ⟨C,I⟩|⟨C,I⟩
  ·rw[C]at T2 ⊢;simp only[ZK]at T2 ⊢;rw[<-(dq al).2]at I;simp only[]at I;refine bA bm.eq_1 @t0 ⟨?_⟩;refine c6 (λp=>aT X P T5 p (T5+1)/\F X p T5=zO (bm x) 7) ⟨b8,aJ Zo⟩ ?_;rintro p ⟨L,UE⟩;have UB:=T6.go (T2.ex L Zo Zo) (by omega:ar<=T5+1);obtain⟨h,Ux,UZ,Uf⟩:=ka I;refine(ih TZ UB UZ _).Zm ?_;rintro VG T0 g ⟨rfl,U7,w⟩;have Us:=w.le;have T8:F X T0 T5=zO (bm x) 7:=(by rw[w.K _ Zo Zx];exact UE);have UW:=(UY.trans (bo.of L)).trans w;have U3:=bB.ex (S':=T0) T9 (λh t U2=>by rw[w.K h Zo Zx,L.K h Zo]) (Zg _) (Zg _);have d:andThen (eT 1 (aA.drop (if ek h [110,111,116]then U1+1+1 else U1+1))) (λc l=>hl m (.mk 6 x.at_ c.text (ek h [110,111,116]) cg 0 [left]) l)=some r:=by
    rcases Uf with ⟨UM,d⟩|⟨UM,d⟩
    ·simp only[UM,ZK];rw[(dq UZ).2];exact d
    ·simp only[UM,ZA,ZJ];exact d
   clear I Uf;generalize (if ek h [110,111,116]then U1+1+1 else U1+1)=U9 at d U7;generalize (if ek h [110,111,116]then h else el)=VI;generalize ek h [110,111,116]=no at d;refine c9 bm.eq_1 (aZ T8) @t0 @Ui ⟨?_⟩;refine c6 (λUC=>aT X T0 g UC (g+1+11)/\F X UC (g+1+7)=zO [.ptr UO 0] 1) ⟨b8,aJ Zo⟩ ?_;rintro UC ⟨TY,Ul⟩;have T7:=T6.go (U7.ex TY Zo Zo) (by omega:ar<=g+1+11);cases U5:aA.drop U9 with|nil=>rw[U5]at d;simp[eT,andThen]at d|cons c VE=>
   rw[U5]at d;simp only[eT]at d;refine(py TZ T7.aD T7.par T7.bk T7.eu T7.eh T7.many (dq U5).1 1).mono ?_ ?_
   ·rintro u8 UD Uy ⟨UK,rfl,Ut,N⟩;have VA:=N.le;rw[Zu UK]at d;simp only[andThen,ok]at d;have Um:F X UD T5=zO (bm x) 7:=(by rw[N.K _ Zo Zx,TY.K _ Zo];exact T8);have Un:F X UD (g+1+7)=zO [.ptr UO 0] 1:=(by rw[N.K _ Zo Zx];exact Ul);refine bA bm.eq_1 (aZ Um) ⟨?_⟩;refine ed (jb _ _) ?_;refine⟨m,Zo,_,.ptr (g+1+9) 0,U9+1,Y t0,av,bB.lit (q:=1) (cap:=1) (n:=0) (kind:=6) (at_:=x.at_) (name:=c.text) (no:=no) (ty:=cg) (b:=g+1+9) (fC:=.own) (bz:=g+1+7) (aF:=[.ptr UO 0]) (aJ (b:=g+1+9) Zo) ⟨Zo,Zo⟩ ?_ ⟨Zo,Zo⟩ rfl Zo Zo (b3.one (bB.K (λh f=> ?_) _ _ U3) (λh f=> ?_)), ?_, ?_,by rw[(dq U5).2];exact d⟩
    ·simp(disch:=omega) only[ag];exact Un
    ·have t:=f.1;have U2:=f.2;simp(disch:=omega) only[ag];rw[N.K h Zo Zx,TY.K h Zo]
    ·simp only[bR]at f ⊢;omega
    ·exact Ut.K (zQ) (zQ)
    ·exact⟨Zo,λh f O=>by
      rw[<-((UW.trans (bo.of TY)).trans N).K h f O];simp(disch:=omega) only[ag]⟩
   ·rintro u8 UD Uy ⟨UK,rfl,N⟩;rw[Zi UK]at d;simp only[andThen,bad,Zh]at d;subst d;exact⟨_,rfl,rfl,(UW.trans (bo.of TY)).trans N⟩
  ·rw[C]at T2 ⊢;simp only[ZA,ZJ]at T2 ⊢;simp only[ok,Zh]at I;subst I;refine cb bm.eq_1 el.eq_1 @Ui ⟨?_⟩;refine⟨left,U1,rfl,bB.ex T9 (λh t U2=> ?_) (Zg _) Zo,T2.K (zQ) (zQ), ?_⟩
   ·simp(disch:=omega) only[ag]
   ·exact⟨Zo,λb T O=>by rw[<-UY.K b T O];exact zQ⟩
end
end
end Go.Proofs.YtehmapikajmjaaaGreatDoor
