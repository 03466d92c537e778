/- Part of the proof of the last text; no conditions -/
import Derived.Test.YtmipngjbcdamjaaGreatDoorYq
set_option maxHeartbeats 8000000
set_option linter.all false
namespace Go.Proofs.YtmipngjbcdamjaaGreatDoor
open Go.S
set_option maxRecDepth 100000
set_option maxHeartbeats 4000000
noncomputable section
variable (X : bU) (h : I ae) (j : Nat) (R af : bh) (a0 aH aZ a3 a4 a5 dY d3 dE : y)
def wm:Za1:=λa b c d e f=>q (ce a c .eql 25 true b .bC) λg=>al (λc d h=>al (λc d h=>al (λc d h=>al (λc d h=>al (λc d h=>al (λc d h=>bS (λc=>al (λd g h=>al (λd g h=>al (λd g h=>al (λd g h=>al (λd g h=>al (λd g h=>bS (λc=>av (λb c d=>av (λa b c=>Q (a 3) λd=>av (λ_ a b=>e (.Z 0) a b) λf=>aD d (e (.Z 22) b c) (f (K a 129 d) b c)) λg=>cC (λb c d h=>Q (c 4) λi=>Q (c 0) λj=>q (a2 j) λj=>q (aq 0 j) λj=>q (W a d j) λj=>q (bL j) λj=>q (ah .lss i j) λi=>av (λc d g=>av (λa c d=>Q (a 4) λe=>q (ah .add e (.Z 1)) λe=>b (K a 4 e) c d) λb=>Q (c 0) λh=>q (a2 h) λh=>q (aq 0 h) λh=>q (W a d h) λh=>Q (c 4) λi=>q (bK 6 h i) λh=>q (br a d 6 h) λh=>q (cu [.str [],.Z 0, .az, .az, .az, .az] g) λi=>b4 a d g i.1 i.2 λd g i=>q (bj a g 6 d h) λg=>q (aq 0 d) λh=>q (W a g h) λh=>aN a 85 [h] g i (λg h i=>q (c0 .not g) λg=>al (λh i j=>al (λh i j=>al (λh i j=>al (λh i j=>bS (λg=>al (λh i j=>al (λh i j=>al (λh i j=>al (λi j k=>al (λi j k=>al (λi j k=>al (λh i j=>al (λi j k=>al (λi j k=>al (λi j k=>al (λh i j=>al (λh i j=>bS (λg=>al (λh i j=>al (λh i j=>al (λh i j=>al (λh i j=>bS (λg=>av (λc d g=>Q (c 5) λh=>q (aq 2 h) λh=>q (W a d h) λh=>aN a 86 [h] d g (λd g h=>q (c0 .not d) λd=>al (λg h i=>al (λg h i=>al (λg h i=>al (λg h i=>bS (λd=>al (λg h i=>al (λg h i=>al (λg h i=>al (λg h i=>bS (λd=>av (λc d g=>av b λb=>cC (λc d g h=>Q (d 6) λi=>Q (d 5) λj=>q (aq 5 j) λj=>q (W a g j) λj=>q (bL j) λj=>q (ah .lss i j) λi=>av (λb d g=>av (λa b d=>Q (a 6) λe=>q (ah .add e (.Z 1)) λe=>c (K a 6 e) b d) λc=>Q (b 5) λh=>q (aq 5 h) λh=>q (W a d h) λh=>Q (b 6) λi=>q (bK 4 h i) λh=>q (br a d 4 h) λh=>q (cu [.az, .az,.Z 0, .bC] g) λi=>b4 a d g i.1 i.2 λd g i=>q (bj a g 4 d h) λg=>av (λb d g=>Q (b 7) λh=>q (aq 3 h) λh=>q (W a d h) λh=>aN a 87 [h] d g (λd f g=>Q (b 7) λh=>q (aq 0 h) λh=>q (W a f h) λa=>q (bL a) λa=>q (ah .eql a (.Z 0)) λa=>al (λf g h=>al (λf g h=>bS (λa=>av (λa b d=>Q (a 9) λe=>q (ah .eql e (.Z 22)) λe=>av c λc=>aD e (c (zC a 128 e 3 .zT) b d) (c (K a 128 e) b d)) λc=>aD a (e (.Z 1) g h) (c (zC b 9 d 126 a) g h)) λb=>aD a (b .zT) (b f)) λb=>ag false a (q (ah .eql f (.Z 1)) λa=>b a g h) (b S.undef g h)) λb=>ag false a (b d f g) (b S.undef f g)) f) λc=>cC (λb d g h=>Q (d 8) λi=>Q (d 7) λj=>q (aq 0 j) λj=>q (W a g j) λj=>q (bL j) λj=>q (ah .lss i j) λi=>av (λc d g=>av (λa c d=>Q (a 8) λe=>q (ah .add e (.Z 1)) λe=>b (K a 8 e) c d) λb=>Q (c 7) λh=>q (aq 0 h) λh=>q (W a d h) λh=>Q (c 8) λi=>q (bK 1 h i) λh=>q (W a d h) λh=>aN a 85 [h] d g (λa d f=>q (c0 .not a) λa=>av b λb=>aD a (e (.Z 1) d f) (b (K c 115 a) d f)) f) λa=>aD i (a (K d 106 i) g h) (c (K d 106 i) g h)) (zC b 7 d 8 (.Z 0)) g i) λa=>aD i (a (K d 94 i) g h) (b (K d 94 i) g h)) (K c 6 (.Z 0)) d g) λa=>aD d (e (.Z 1) h i) (a (K c 89 d) h i)) λa=>aD d (a .zT) (a g)) λa=>ag false d (q (c0 .not g) λb=>a b h i) (a S.undef h i)) λb=>ag false d (aN a 86 [g] h i (λa c d=>b a c d) f) (b S.undef h i)) λb=>ag false d (q (W a h g) λa=>b a h i) (b S.undef h i)) λa=>ag false d (Q (c 5) λb=>q (aq 4 b) λb=>a b h i) (a S.undef h i)) λa=>aD d (a .zT) (a g)) λa=>ag false d (q (c0 .not g) λb=>a b h i) (a S.undef h i)) λb=>ag false d (aN a 86 [g] h i (λa c d=>b a c d) f) (b S.undef h i)) λb=>ag false d (q (W a h g) λa=>b a h i) (b S.undef h i)) λa=>ag false d (Q (c 5) λb=>q (aq 3 b) λb=>a b g h) (a S.undef g h)) f) λa=>aD g (e (.Z 1) i j) (a (zC c 5 d 73 g) i j)) λa=>aD g (a .zT) (a h)) λa=>ag false g (q (ah .gtr h (.Z 4096)) λb=>a b i j) (a S.undef i j)) λa=>ag false g (q (bL h) λb=>a b i j) (a S.undef i j)) λb=>ag false g (q (W a i h) λa=>b a i j) (b S.undef i j)) λa=>ag false g (q (aq 5 d) λb=>a b i j) (a S.undef i j)) λa=>aD g (a .zT) (a h)) λa=>ag false g (q (ah .gtr h (.Z 256)) λb=>a b i j) (a S.undef i j)) λa=>ag false g (q (ah .add h i) λb=>a b j k) (a S.undef j k)) λa=>ag false g (q (bL i) λb=>a b j k) (a S.undef j k)) λb=>ag false g (q (W a j i) λa=>b a j k) (b S.undef j k)) λa=>ag false g (q (aq 4 d) λb=>a b i j) (a S.undef i j)) λa=>ag false g (q (ah .add h i) λb=>a b j k) (a S.undef j k)) λa=>ag false g (q (bL i) λb=>a b j k) (a S.undef j k)) λb=>ag false g (q (W a j i) λa=>b a j k) (b S.undef j k)) λa=>ag false g (q (aq 3 d) λb=>a b i j) (a S.undef i j)) λa=>ag false g (q (bL h) λb=>a b i j) (a S.undef i j)) λb=>ag false g (q (W a i h) λa=>b a i j) (b S.undef i j)) λa=>ag false g (q (aq 2 d) λb=>a b i j) (a S.undef i j)) λa=>aD g (a .zT) (a h)) λa=>ag false g (q (ah .eql h (.Z 0)) λb=>a b i j) (a S.undef i j)) λa=>ag false g (q (bL h) λb=>a b i j) (a S.undef i j)) λb=>ag false g (q (W a i h) λa=>b a i j) (b S.undef i j)) λa=>ag false g (q (aq 3 d) λb=>a b h i) (a S.undef h i)) f) λa=>aD i (a (K c 34 i) d h) (g (K c 34 i) d h)) (zC b 3 .zF 4 (.Z 0)) c d) λa=>aD c (e (.Z 1) g h) (a (zC (bR [b]) 2 (.Z 0) 27 c) g h)) λa=>aD c (a .zT) (a d)) λa=>ag false c (q (ah .gtr d (.Z 64)) λb=>a b g h) (a S.undef g h)) λa=>ag false c (q (bL d) λb=>a b g h) (a S.undef g h)) λb=>ag false c (q (W a g d) λa=>b a g h) (b S.undef g h)) λa=>ag false c (q (aq 0 d) λb=>a b g h) (a S.undef g h)) λa=>ag false c (q (a2 d) λb=>a b g h) (a S.undef g h)) λa=>ag false c (a b d h) (a S.undef d h)) λa=>aD g (a .zT) (a c)) λa=>ag false g (q (ah .lss c (.Z 1)) λb=>a b d h) (a S.undef d h)) λa=>ag false g (q (bL c) λb=>a b d h) (a S.undef d h)) λb=>ag false g (q (W a d c) λa=>b a d h) (b S.undef d h)) λa=>ag false g (q (aq 0 c) λb=>a b d h) (a S.undef d h)) λa=>ag false g (q (a2 c) λb=>a b d h) (a S.undef d h)) λa=>ag false g (a b c d) (a S.undef c d)
def CP:co X 53 [a0]=wm X a0:=Zk
def CO:cb X 53 1=true:=Zk
def wK:Za1:=λa b c d e f=>av (λ_ a b=>e .zT a b) λg=>cC (λb c d h=>Q (c 3) λi=>Q (c 0) λj=>q (bL j) λj=>q (ah .lss i j) λi=>av (λc d g=>av (λa c d=>Q (a 3) λe=>q (ah .add e (.Z 1)) λe=>b (K a 3 e) c d) λb=>Q (c 0) λh=>Q (c 3) λi=>q (bK 8 h i) λh=>q (br a d 8 h) λh=>q (cu [.str [],.Z 0,.zF,.zF,.Z 0,.str [],.Z 0,.zF] g) λi=>b4 a d g i.1 i.2 λd g i=>q (bj a g 8 d h) λg=>q (aq 0 d) λh=>q (W a g h) λh=>aN a 85 [h] g i (λg h i=>q (c0 .not g) λg=>al (λh i j=>al (λh i j=>al (λh i j=>al (λh i j=>bS (λg=>al (λh i j=>al (λh i j=>al (λh i j=>al (λh i j=>al (λi j k=>al (λi j k=>al (λf i j=>al (λf i j=>al (λf h i=>bS (λf=>al (λg h i=>al (λg h i=>al (λg h i=>al (λg h i=>al (λh i j=>al (λa h i=>al (λa g h=>bS (λa=>av b λb=>aD a (e .zF g h) (b (zC c 4 d 44 a) g h)) λb=>aD f (b .zT) (b a)) λb=>ag false f (bS (λa=>b a h i) λb=>aD g (b a) (b .zF)) (b S.undef h i)) λb=>ag true g (q (W a i h) λa=>b a i j) (b S.undef i j)) λa=>ag true g (q (aq 7 d) λb=>a b h i) (a S.undef h i)) λa=>ag false f (a g h i) (a S.undef h i)) λb=>ag false f (q (ce a h .eql 9 true g (.str [])) λa=>b a h i) (b S.undef h i)) λb=>ag false f (q (W a h g) λa=>b a h i) (b S.undef h i)) λa=>ag false f (q (aq 5 d) λb=>a b h i) (a S.undef h i)) λa=>aD g (a .zT) (a f)) λa=>ag false g (bS (λb=>a b i j) λa=>aD h (a f) (a .zF)) (a S.undef i j)) λa=>ag true h (q (c0 .not f) λb=>a b i j) (a S.undef i j)) λb=>ag true h (aN a 85 [i] j k (λa c d=>b a c d) f) (b S.undef j k)) λb=>ag true h (q (W a j i) λa=>b a j k) (b S.undef j k)) λa=>ag true h (q (aq 5 d) λb=>a b i j) (a S.undef i j)) λa=>ag false g (a h i j) (a S.undef i j)) λb=>ag false g (q (ce a i .neq 9 true h (.str [])) λa=>b a i j) (b S.undef i j)) λb=>ag false g (q (W a i h) λa=>b a i j) (b S.undef i j)) λa=>ag false g (q (aq 5 d) λb=>a b i j) (a S.undef i j)) λa=>aD g (a .zT) (a h)) λa=>ag false g (q (c0 .not h) λb=>a b i j) (a S.undef i j)) λb=>ag false g (aN a 113 [h] i j (λa c d=>b a c d) f) (b S.undef i j)) λb=>ag false g (q (br a i 3 h) λa=>b a i j) (b S.undef i j)) λa=>ag false g (q (aq 2 d) λb=>a b h i) (a S.undef h i)) f) λa=>aD i (a (K c 8 i) d h) (g (K c 8 i) d h)) (zC (bR [b]) 2 .zF 3 (.Z 0)) c d
def Dx:co X 86 [a0]=wK X a0:=Zk
def Dw:cb X 86 1=true:=Zk
def wL:Za1:=λa b c d e f=>aN a 114 [b,.Z 200] c d (λc d g=>av (λb c d=>Q (b 0) λg=>aN a 115 [g] c d (λa c d=>q (ah .gtr a (.Z 200)) λa=>av (λ_ a b=>e (.Z 0) a b) λf=>aD a (e (.Z 22) c d) (f (K b 7 a) c d)) f) λa=>aD c (e (.Z 1) d g) (a (zC (bR [b]) 2 (.Z 0) 4 c) d g)) f
def Dz:co X 87 [a0]=wL X a0:=Zk
def Dy:cb X 87 1=true:=Zk
def vB:Za1:=λa b c d e _=>eU a c d b λc d f=>q (aq 0 c) λg=>q (W a d g) λg=>av (λb c d=>Q (b 1) λf=>q (aq 2 f) λf=>q (W a c f) λf=>q (ah .geq f (.Z 1)) λf=>al (λb c d=>al (λa b c=>al (λa b c=>bS (λa=>e a b c) λb=>aD f (b a) (b .zF)) λd=>ag true f (q (ah .leq a (.Z 64)) λa=>d a b c) (d S.undef b c)) λe=>ag true f (q (W a c b) λa=>e a c d) (e S.undef c d)) λa=>ag true f (Q (b 1) λb=>q (aq 2 b) λb=>a b c d) (a S.undef c d)) λh=>aD g (q (aq 1 c) λb=>q (W a d b) λb=>q (c0 .not b) λb=>al (λc d f=>al (λa c d=>al (λa c d=>bS (λa=>e a c d) λc=>aD b (c a) (c .zF)) λe=>ag true b (q (ah .eql a (.Z 1)) λa=>e a c d) (e S.undef c d)) λe=>ag true b (q (W a d c) λa=>e a d f) (e S.undef d f)) λa=>ag true b (q (aq 2 c) λb=>a b d f) (a S.undef d f)) (h (zD (bR [b]) 1 c 2 .zF 4 g) d f)
def BH:co X 113 [a0]=vB X a0:=Zk
def BG:cb X 113 1=true:=Zk
def sX:Za0:=λa b c d e f g=>aN a 134 [b] d e (λd e h=>q (c0 .not d) λd=>av (λb c d=>av (λ_ a b=>f .zF a b) λe=>cC (λb c d h=>Q (c 5) λi=>Q (c 0) λj=>q (a2 j) λj=>q (aq 8 j) λj=>q (W a d j) λj=>q (bL j) λj=>q (ah .lss i j) λi=>al (λd h j=>al (λd h j=>bS (λd=>av (λc d e=>av (λa c d=>Q (a 5) λe=>q (ah .add e (.Z 1)) λe=>b (K a 5 e) c d) λb=>Q (c 0) λh=>q (a2 h) λh=>q (aq 8 h) λh=>q (W a d h) λh=>Q (c 5) λi=>q (bK 1 h i) λh=>q (W a d h) λh=>Q (c 1) λi=>q (ah .sub i (.Z 1)) λi=>aN a 114 [h,i] d e (λa d e=>av b λb=>aD a (f .zT d e) (b (K c 31 a) d e)) g) λa=>aD d (a (K c 19 d) h j) (e (K c 19 d) h j)) λa=>aD i (a d) (a .zF)) λa=>ag true i (q (ah .gtr d (.Z 0)) λb=>a b h j) (a S.undef h j)) λa=>ag true i (Q (c 1) λb=>a b d h) (a S.undef d h)) (K b 5 (.Z 0)) c d) λa=>aD d (f .zT e h) (a (zC (bR [b,c]) 4 .zF 8 d) e h)) g
def vD:co X 114 [a0,aH]=sX X a0 aH:=Zk
def vC:cb X 114 2=true:=Zk
def vE:Za1:=λa b c d e f=>aN a 135 [b,.Z 201] c d (λa b c=>e a b c) f
def BJ:co X 115 [a0]=vE X a0:=Zk
def BI:cb X 115 1=true:=Zk
def vK:Za1:=λa b c d e f=>q (ce a c .eql 73 true b .bC) λg=>al (λc d h=>al (λc d h=>al (λc d h=>al (λc d h=>al (λc d h=>bS (λc=>al (λd g h=>al (λd g h=>al (λd g h=>al (λd g h=>al (λd g h=>bS (λc=>av (λb c d=>Q (b 0) λg=>q (a2 g) λg=>q (aq 0 g) λg=>q (W a c g) λg=>aN a 159 [g] c d (λc d g=>q (ah .geq c (.Z 0)) λh=>al (λd g i=>al (λd g i=>al (λd g i=>al (λd g i=>al (λd g i=>al (λg i j=>al (λd g i=>bS (λd=>av (λb c d=>av (λb c d=>Q (b 0) λg=>q (a2 g) λg=>q (aq 0 g) λg=>q (W a c g) λg=>q (ah .eql g (.Z 2)) λg=>al (λc d h=>al (λc d h=>al (λc d h=>al (λc d h=>al (λc d h=>bS (λc=>al (λd g h=>al (λd g h=>al (λd g h=>al (λd g h=>al (λd g h=>bS (λc=>al (λd g h=>al (λd g h=>al (λd g h=>al (λd g h=>al (λd g h=>bS (λc=>al (λd g h=>al (λd g h=>al (λd g h=>al (λd g h=>al (λd g h=>al (λd g h=>bS (λd=>al (λg h i=>al (λg h i=>al (λg h i=>al (λh i j=>al (λh i j=>al (λh i j=>al (λh i j=>al (λh i j=>al (λg h i=>bS (λd=>av (λb c d=>Q (b 0) λg=>q (a2 g) λg=>q (aq 3 g) λg=>q (W a c g) λg=>al (λc d h=>al (λc d h=>al (λc d h=>al (λc d h=>al (λc d h=>bS (λc=>av (λb c d=>q (cr [.zF,.zF,.Z 0] []) λg=>q (cu [.zF,.zF,.Z 0] d) λh=>b4 a c d h.1 h.2 λc d h=>q (bj a d 3 c g) λd=>Q (b 0) λg=>q (a2 g) λg=>q (aq 0 g) λg=>q (W a d g) λg=>q (ah .eql g (.Z 1)) λg=>al (λd h i=>al (λd h i=>al (λd h i=>al (λd h i=>al (λd h i=>bS (λd=>dx (i+21) λg=>ck (λh i=>ck (λh i=>ck (λh i=>ck (λh i=>al (λg h i=>ck (λg h=>bS (λg=>ck (λh j=>ck (λh j=>ck (λh j=>ck (λj k=>ck (λj k=>ck (λj k=>ck (λj k=>ck (λk l=>ck (λj k=>ck (λh j=>bS (λg=>av (λb c d=>Q (b 0) λg=>q (a2 g) λg=>q (aq 0 g) λg=>q (W a c g) λg=>q (ah .eql g (.Z 1)) λg=>al (λc d h=>al (λc d h=>al (λc d h=>al (λc d h=>al (λc d h=>bS (λc=>al (λd g h=>al (λd g h=>al (λd g h=>al (λd g h=>al (λd g h=>bS (λc=>q (c0 .not c) λd=>al (λg h i=>al (λg h i=>al (λg h i=>al (λg h i=>al (λg h i=>bS (λd=>al (λg h i=>al (λg h i=>al (λg h i=>al (λg h i=>al (λg h i=>al (λg h i=>al (λh i j=>al (λh i j=>al (λh i j=>al (λh i j=>al (λh i j=>al (λg h i=>al (λg h i=>al (λh i j=>al (λh i j=>al (λh i j=>al (λh i j=>al (λh i j=>al (λg h i=>bS (λd=>av (λb c d=>Q (b 0) λg=>q (a2 g) λg=>q (aq 0 g) λg=>q (W a c g) λg=>q (ah .eql g (.Z 1)) λg=>av (λb c d=>Q (b 0) λf=>q (a2 f) λf=>q (aq 0 f) λf=>q (W a c f) λf=>q (ah .eql f (.Z 21)) λf=>av (λ_ a b=>e .zT a b) λg=>aD f (Q (b 0) λb=>q (a2 b) λb=>q (aq 8 b) λb=>q (W a c b) λb=>q (bK 1 b (.Z 0)) λb=>q (W a c b) λb=>q (a2 b) λf=>q (aq 0 f) λf=>q (W a c f) λf=>q (ah .eql f (.Z 1)) λf=>al (λc d g=>al (λc d g=>al (λc d g=>al (λc d g=>al (λc d g=>al (λc d g=>al (λd g h=>al (λd g h=>al (λd g h=>al (λd g h=>al (λd g h=>al (λd g h=>al (λc d g=>al (λc d g=>al (λd g h=>al (λd g h=>al (λd g h=>al (λd g h=>al (λd g h=>al (λd g h=>al (λd g h=>al (λc d g=>al (λc d g=>al (λb d g=>al (λb d g=>al (λb d g=>al (λb d g=>al (λb d g=>al (λb d g=>al (λb d g=>al (λb d g=>al (λa b d=>al (λa b d=>al (λa b c=>bS (λa=>e a b c) λb=>aD f (b .zT) (b a)) λe=>ag false f (bS (λa=>e a b d) λb=>aD c (b a) (b .zF)) (e S.undef b d)) λe=>ag true c (q (ah .eql a (.Z 1)) λa=>e a b d) (e S.undef b d)) λe=>ag true c (q (W a d b) λa=>e a d g) (e S.undef d g)) λa=>ag true c (q (aq 0 b) λb=>a b d g) (a S.undef d g)) λa=>ag true c (q (a2 b) λb=>a b d g) (a S.undef d g)) λe=>ag true c (q (W a d b) λa=>e a d g) (e S.undef d g)) λa=>ag true c (q (bK 1 b (.Z 0)) λb=>a b d g) (a S.undef d g)) λe=>ag true c (q (W a d b) λa=>e a d g) (e S.undef d g)) λa=>ag true c (q (aq 8 b) λb=>a b d g) (a S.undef d g)) λa=>ag true c (q (a2 b) λb=>a b d g) (a S.undef d g)) λa=>ag true c (a b d g) (a S.undef d g)) λa=>ag false f (a c d g) (a S.undef d g)) λa=>ag false f (bS (λb=>a b g h) λa=>aD c (a d) (a .zF)) (a S.undef g h)) λb=>ag true c (q (ce a g .neq 73 true d .bC) λa=>b a g h) (b S.undef g h)) λb=>ag true c (q (W a g d) λa=>b a g h) (b S.undef g h)) λa=>ag true c (q (bK 1 d (.Z 0)) λb=>a b g h) (a S.undef g h)) λb=>ag true c (q (W a g d) λa=>b a g h) (b S.undef g h)) λa=>ag true c (q (aq 8 d) λb=>a b g h) (a S.undef g h)) λa=>ag true c (q (a2 d) λb=>a b g h) (a S.undef g h)) λa=>ag true c (a b d g) (a S.undef d g)) λa=>ag false f (a c d g) (a S.undef d g)) λa=>ag false f (bS (λb=>a b g h) λa=>aD c (a d) (a .zF)) (a S.undef g h)) λa=>ag true c (q (ah .eql d (.Z 1)) λb=>a b g h) (a S.undef g h)) λa=>ag true c (q (bL d) λb=>a b g h) (a S.undef g h)) λb=>ag true c (q (W a g d) λa=>b a g h) (b S.undef g h)) λa=>ag true c (q (aq 8 d) λb=>a b g h) (a S.undef g h)) λa=>ag true c (q (a2 d) λb=>a b g h) (a S.undef g h)) λa=>ag true c (a b d g) (a S.undef d g)) λa=>ag false f (a c d g) (a S.undef d g)) λa=>ag false f (q (ah .eql c (.Z 4)) λb=>a b d g) (a S.undef d g)) λb=>ag false f (q (W a d c) λa=>b a d g) (b S.undef d g)) λa=>ag false f (q (aq 0 c) λb=>a b d g) (a S.undef d g)) λa=>ag false f (q (a2 c) λb=>a b d g) (a S.undef d g)) λa=>ag false f (a b c d) (a S.undef c d)) (g (K b 217 f) c d)) λh=>aD g (dx (d+10) λd=>Q (b 0) λg=>q (a2 g) λg=>q (aq 4 g) λg=>q (br a c 3 g) λg=>Q (b 0) λb=>q (a2 b) λb=>q (aq 7 b) λb=>q (W a c b) λb=>aN a 160 [g,b] c d (λa b c=>e a b c) f) (h (K b 203 g) c d)) λa=>aD d (e .zF h i) (a (zC b 8 c 198 d) h i)) λa=>aD d (a .zT) (a g)) λa=>ag false d (bS (λb=>a b i j) λa=>aD g (a h) (a .zF)) (a S.undef i j)) λa=>ag true g (q (ah .gtr h (.int .u64 63)) λb=>a b i j) (a S.undef i j)) λb=>ag true g (q (W a i h) λa=>b a i j) (b S.undef i j)) λa=>ag true g (q (aq 7 h) λb=>a b i j) (a S.undef i j)) λa=>ag true g (q (a2 h) λb=>a b i j) (a S.undef i j)) λa=>ag true g (Q (b 0) λb=>a b h i) (a S.undef h i)) λa=>ag false d (a g h i) (a S.undef h i)) λa=>ag false d (bS (λb=>a b i j) λa=>aD g (a .zT) (a h)) (a S.undef i j)) λa=>ag false g (q (ah .eql h (.Z 20)) λb=>a b i j) (a S.undef i j)) λb=>ag false g (q (W a i h) λa=>b a i j) (b S.undef i j)) λa=>ag false g (q (aq 0 h) λb=>a b i j) (a S.undef i j)) λa=>ag false g (q (a2 h) λb=>a b i j) (a S.undef i j)) λa=>ag false g (Q (b 0) λb=>a b h i) (a S.undef h i)) λa=>ag false d (a g h i) (a S.undef h i)) λa=>ag false d (q (ah .eql g (.Z 19)) λb=>a b h i) (a S.undef h i)) λb=>ag false d (q (W a h g) λa=>b a h i) (b S.undef h i)) λa=>ag false d (q (aq 0 g) λb=>a b h i) (a S.undef h i)) λa=>ag false d (q (a2 g) λb=>a b h i) (a S.undef h i)) λa=>ag false d (Q (b 0) λb=>a b h i) (a S.undef h i)) λa=>aD d (a g) (a .zF)) λa=>ag true d (q (ah .neq g (.int .u64 0)) λb=>a b h i) (a S.undef h i)) λb=>ag true d (q (W a h g) λa=>b a h i) (b S.undef h i)) λa=>ag true d (q (aq 7 g) λb=>a b h i) (a S.undef h i)) λa=>ag true d (q (a2 g) λb=>a b h i) (a S.undef h i)) λa=>ag true d (Q (b 0) λb=>a b g h) (a S.undef g h)) λa=>aD c (a .zT) (a d)) λa=>ag false c (q (ah .eql d (.Z 20)) λb=>a b g h) (a S.undef g h)) λb=>ag false c (q (W a g d) λa=>b a g h) (b S.undef g h)) λa=>ag false c (q (aq 0 d) λb=>a b g h) (a S.undef g h)) λa=>ag false c (q (a2 d) λb=>a b g h) (a S.undef g h)) λa=>ag false c (Q (b 0) λb=>a b d h) (a S.undef d h)) λa=>aD g (a .zT) (a c)) λa=>ag false g (q (ah .eql c (.Z 19)) λb=>a b d h) (a S.undef d h)) λb=>ag false g (q (W a d c) λa=>b a d h) (b S.undef d h)) λa=>ag false g (q (aq 0 c) λb=>a b d h) (a S.undef d h)) λa=>ag false g (q (a2 c) λb=>a b d h) (a S.undef d h)) λa=>ag false g (Q (b 0) λb=>a b c d) (a S.undef c d)) λa=>aD g (e .zF j i) (a (zD b 6 c 7 d 149 g) j i)) λa=>aD g (a .zT) (a h)) λa=>ag false g (bS (λb=>a b k) λa=>aD h (a j) (a .zF)) (a S.undef k)) λb=>ag true h (q (ce a l .neq 50 false j k) λa=>b a l) (b S.undef l)) λb=>ag true h (q (br a k 3 c) λa=>b a k) (b S.undef k)) λb=>ag true h (q (br a k 3 j) λa=>b a k) (b S.undef k)) λa=>ag true h (q (aq 4 j) λb=>a b k) (a S.undef k)) λa=>ag true h (q (a2 j) λb=>a b k) (a S.undef k)) λa=>ag true h (Q (b 0) λb=>a b j) (a S.undef j)) λa=>ag false g (a h j) (a S.undef j)) λa=>ag false g (q (c0 .not h) λb=>a b j) (a S.undef j)) λa=>ag false g (a d h) (a S.undef h)) λa=>aD d (a g) (a .zF)) λa=>ag true d (q (c0 .not g) λb=>a b h) (a S.undef h)) λb=>ag true d (aN a 113 [h] i g (λa c d=>b a c d) f) (b S.undef i g)) λb=>ag true d (q (br a i 3 h) λa=>b a i) (b S.undef i)) λa=>ag true d (q (aq 4 h) λb=>a b i) (a S.undef i)) λa=>ag true d (q (a2 h) λb=>a b i) (a S.undef i)) λa=>ag true d (Q (b 0) λb=>a b h) (a S.undef h)) λa=>aD g (a .zT) (a d)) λa=>ag false g (q (ah .eql d (.Z 26)) λb=>a b h i) (a S.undef h i)) λb=>ag false g (q (W a h d) λa=>b a h i) (b S.undef h i)) λa=>ag false g (q (aq 0 d) λb=>a b h i) (a S.undef h i)) λa=>ag false g (q (a2 d) λb=>a b h i) (a S.undef h i)) λa=>ag false g (Q (b 0) λb=>a b d h) (a S.undef d h)) λa=>aD c (e .zF d h) (a (K b 115 c) d h)) λa=>aD g (a c) (a .zF)) λa=>ag true g (q (ah .neq c (.Z 6)) λb=>a b d h) (a S.undef d h)) λb=>ag true g (q (W a d c) λa=>b a d h) (b S.undef d h)) λa=>ag true g (q (aq 0 c) λb=>a b d h) (a S.undef d h)) λa=>ag true g (q (a2 c) λb=>a b d h) (a S.undef d h)) λa=>ag true g (Q (b 0) λb=>a b c d) (a S.undef c d)) λa=>aD d (e .zF h i) (a (zC b 5 c 104 d) h i)) λa=>aD d (a .zT) (a g)) λa=>ag false d (bS (λb=>a b i j) λa=>aD g (a h) (a .zF)) (a S.undef i j)) λb=>ag true g (q (ce a i .neq 9 true h (.str [])) λa=>b a i j) (b S.undef i j)) λb=>ag true g (q (W a i h) λa=>b a i j) (b S.undef i j)) λa=>ag true g (q (aq 2 h) λb=>a b i j) (a S.undef i j)) λa=>ag true g (q (a2 h) λb=>a b i j) (a S.undef i j)) λa=>ag true g (Q (b 0) λb=>a b h i) (a S.undef h i)) λa=>ag false d (a g h i) (a S.undef h i)) λa=>ag false d (q (c0 .not g) λb=>a b h i) (a S.undef h i)) λa=>ag false d (a c g h) (a S.undef g h)) λa=>aD c (a d) (a .zF)) λa=>ag true c (q (c0 .not d) λb=>a b g h) (a S.undef g h)) λb=>ag true c (aN a 85 [d] g h (λa c d=>b a c d) f) (b S.undef g h)) λb=>ag true c (q (W a g d) λa=>b a g h) (b S.undef g h)) λa=>ag true c (q (aq 2 d) λb=>a b g h) (a S.undef g h)) λa=>ag true c (q (a2 d) λb=>a b g h) (a S.undef g h)) λa=>ag true c (Q (b 0) λb=>a b g h) (a S.undef g h)) λa=>aD c (a .zT) (a d)) λa=>ag false c (q (ah .eql d (.Z 25)) λb=>a b g h) (a S.undef g h)) λb=>ag false c (q (W a g d) λa=>b a g h) (b S.undef g h)) λa=>ag false c (q (aq 0 d) λb=>a b g h) (a S.undef g h)) λa=>ag false c (q (a2 d) λb=>a b g h) (a S.undef g h)) λa=>ag false c (Q (b 0) λb=>a b g h) (a S.undef g h)) λa=>aD c (a .zT) (a d)) λa=>ag false c (q (ah .eql d (.Z 24)) λb=>a b g h) (a S.undef g h)) λb=>ag false c (q (W a g d) λa=>b a g h) (b S.undef g h)) λa=>ag false c (q (aq 0 d) λb=>a b g h) (a S.undef g h)) λa=>ag false c (q (a2 d) λb=>a b g h) (a S.undef g h)) λa=>ag false c (Q (b 0) λb=>a b d h) (a S.undef d h)) λa=>aD g (a .zT) (a c)) λa=>ag false g (q (ah .eql c (.Z 6)) λb=>a b d h) (a S.undef d h)) λb=>ag false g (q (W a d c) λa=>b a d h) (b S.undef d h)) λa=>ag false g (q (aq 0 c) λb=>a b d h) (a S.undef d h)) λa=>ag false g (q (a2 c) λb=>a b d h) (a S.undef d h)) λa=>ag false g (Q (b 0) λb=>a b c d) (a S.undef c d)) λf=>cC (λb c d g=>Q (c 4) λh=>Q (c 0) λi=>q (a2 i) λi=>q (aq 8 i) λi=>q (W a d i) λi=>q (bL i) λi=>q (ah .lss h i) λh=>av (λc d f=>av (λa c d=>Q (a 4) λe=>q (ah .add e (.Z 1)) λe=>b (K a 4 e) c d) λb=>Q (c 0) λg=>q (a2 g) λg=>q (aq 8 g) λg=>q (W a d g) λg=>Q (c 4) λh=>q (bK 1 g h) λg=>q (W a d g) λg=>q (ce a d .eql 73 true g .bC) λa=>av b λb=>aD a (e .zF d f) (b (K c 58 a) d f)) λa=>aD h (a (K c 48 h) d g) (f (K c 48 h) d g)) (K b 4 (.Z 0)) c d) λa=>aD d (e .zF g i) (a (zC b 3 c 41 d) g i)) λa=>aD h (a d) (a .zF)) λa=>ag true h (q (ah .neq d g) λb=>a b i j) (a S.undef i j)) λa=>ag true h (a c g i) (a S.undef g i)) λa=>ag true h (q (bL d) λb=>a b g i) (a S.undef g i)) λb=>ag true h (q (W a g d) λa=>b a g i) (b S.undef g i)) λa=>ag true h (q (aq 8 d) λb=>a b g i) (a S.undef g i)) λa=>ag true h (q (a2 d) λb=>a b g i) (a S.undef g i)) λa=>ag true h (Q (b 0) λb=>a b d g) (a S.undef d g)) f) λa=>aD c (e .zF g h) (a (zC (bR [b]) 2 .zF 25 c) g h)) λa=>aD c (a .zT) (a d)) λa=>ag false c (q (ah .gtr d (.Z 26)) λb=>a b g h) (a S.undef g h)) λb=>ag false c (q (W a g d) λa=>b a g h) (b S.undef g h)) λa=>ag false c (q (aq 0 d) λb=>a b g h) (a S.undef g h)) λa=>ag false c (q (a2 d) λb=>a b g h) (a S.undef g h)) λa=>ag false c (a b d h) (a S.undef d h)) λa=>aD g (a .zT) (a c)) λa=>ag false g (q (ah .lss c (.Z 1)) λb=>a b d h) (a S.undef d h)) λb=>ag false g (q (W a d c) λa=>b a d h) (b S.undef d h)) λa=>ag false g (q (aq 0 c) λb=>a b d h) (a S.undef d h)) λa=>ag false g (q (a2 c) λb=>a b d h) (a S.undef d h)) λa=>ag false g (a b c d) (a S.undef c d)
def BT:co X 134 [a0]=vK X a0:=Zk
def BS:cb X 134 1=true:=Zk
def sY:Za0:=λa b c d e f g=>q (ce a d .eql 73 true b .bC) λh=>al (λd e i=>al (λd e i=>bS (λd=>av (λb c d=>av (λa b c=>Q (a 5) λa=>q (ah .add a (.Z 1)) λa=>f a b c) λe=>cC (λb c d f=>Q (c 6) λh=>Q (c 0) λi=>q (a2 i) λi=>q (aq 8 i) λi=>q (W a d i) λi=>q (bL i) λi=>q (ah .lss h i) λh=>av (λc d e=>av (λa c d=>Q (a 6) λe=>q (ah .add e (.Z 1)) λe=>b (K a 6 e) c d) λb=>Q (c 0) λf=>q (a2 f) λf=>q (aq 8 f) λf=>q (W a d f) λf=>Q (c 6) λh=>q (bK 1 f h) λf=>q (W a d f) λf=>Q (c 1) λh=>q (ah .sub h (.Z 1)) λh=>aN a 135 [f,h] d e (λa d e=>Q (c 5) λf=>q (ah .gtr a f) λf=>av b λb=>aD f (b (zD c 7 a 35 f 5 a) d e) (b (zC c 7 a 35 f) d e)) g) λa=>aD h (a (K c 20 h) d f) (e (K c 20 h) d f)) (zC b 5 (.Z 0) 6 (.Z 0)) c d) λa=>aD d (f (.Z 0) e i) (a (zC (bR [b,c]) 4 (.Z 0) 13 d) e i)) λa=>aD h (a .zT) (a d)) λa=>ag false h (q (ah .eql d (.Z 0)) λb=>a b e i) (a S.undef e i)) λa=>ag false h (a c d e) (a S.undef d e)
def vM:co X 135 [a0,aH]=sY X a0 aH:=Zk
def vL:cb X 135 2=true:=Zk
def vP:Za1:=λ_ a b c d _=>av (λ_ a b=>d (.Z 2) a b) λe=>q (ah .eql a (.Z 1)) λf=>av (λa b c=>Q (a 4) λf=>av e λe=>aD f (d (.Z 0) b c) (Q (a 3) λf=>q (ah .eql f (.Z 3)) λf=>av (λa b c=>Q (a 7) λf=>av e λe=>aD f (d (.Z 1) b c) (Q (a 3) λf=>q (ah .eql f (.Z 23)) λf=>av e λe=>aD f (d (.Z 3) b c) (Q (a 3) λg=>q (ah .eql g (.Z 25)) λg=>av e λe=>aD g (d (.Z (-1)) b c) (e (zC a 15 f 17 g) b c)))) λd=>aD f (d (K a 7 f) b c) (Q (a 3) λe=>q (ah .eql e (.Z 4)) λe=>av d λd=>aD e (d (zC a 7 f 7 e) b c) (Q (a 3) λg=>q (ah .eql g (.Z 5)) λg=>av d λd=>aD g (d (zD a 7 f 7 e 7 g) b c) (Q (a 3) λh=>q (ah .eql h (.Z 6)) λh=>av d λd=>aD h (d (zE a 7 f 7 e 7 g 7 h) b c) (Q (a 3) λi=>q (ah .eql i (.Z 19)) λi=>av d λd=>aD i (d (K (zE a 7 f 7 e 7 g 7 h) 7 i) b c) (Q (a 3) λj=>q (ah .eql j (.Z 20)) λj=>av d λd=>aD j (d (zC (zE a 7 f 7 e 7 g 7 h) 7 i 7 j) b c) (Q (a 3) λk=>q (ah .eql k (.Z 26)) λk=>d (zD (zE a 7 f 7 e 7 g 7 h) 7 i 7 j 7 k) b c)))))))) λd=>aD f (d (zD (bR [a]) 2 (.Z 0) 3 a 4 f) b c) (q (ah .eql a (.Z 2)) λe=>d (zE (bR [a]) 2 (.Z 0) 3 a 4 f 4 e) b c)
def BZ:co X 159 [a0]=vP X a0:=Zk
def BY:cb X 159 1=true:=Zk
def vR:Za0:=λa b c d e f _=>eU a d e b λd e g=>q (aq 2 d) λh=>q (W a e h) λh=>q (aq 1 d) λi=>q (W a e i) λa=>av (λa b c=>av (λa b c=>Q (a 1) λa=>q (ah .eql a (.int .u64 0)) λa=>f a b c) λd=>cC (λa b c e=>Q (b 6) λf=>Q (b 5) λg=>q (ah .lss f g) λf=>av (λb c d=>av (λb c d=>Q (b 6) λe=>q (ah .add e (.Z 1)) λe=>a (K b 6 e) c d) λa=>Q (b 1) λe=>q (ah .quo e (.int .u64 2)) λe=>a (K b 1 e) c d) λa=>aD f (a (K b 15 f) c e) (d (K b 15 f) c e)) (K a 6 (.Z 0)) b c) λf=>aD a (q (ah .sub h (.Z 1)) λi=>f (K (zE (bR [b,c]) 2 d 4 .zF 5 h 10 a) 5 i) e g) (f (zE (bR [b,c]) 2 d 4 .zF 5 h 10 a) e g)
def B3:co X 160 [a0,aH]=vR X a0 aH:=Zk
def B2:cb X 160 2=true:=Zk
end
end Go.Proofs.YtmipngjbcdamjaaGreatDoor

namespace Go.Proofs.YtmipngjbcdamjaaGreatDoor
open Go.S Go.a8
noncomputable section
def om(o:Int):Int:=(l4 o).elim (-1) λm=>(m:Int)
section
variable{X:bU}{h E cH ay aO:I ae}{j ar aL aR bz:Nat}{bp d2 P:Nat->Prop}
def GN{x:Int}(d:0<=x)(f:x<18446744073709551616):ah .quo (.int .u64 x) (.int .u64 2)=some (.int .u64 (x/2)):=by
 have a:x.tdiv 2=x/2:=by rw[Int.tdiv_eq_ediv_of_nonneg d]
 have b:h0 .u64 (x/2)=x/2:=LD Zo Zo
 have c:ah .quo (.int .u64 x) (.int .u64 2)=some (.int .u64 (h0 .u64 (x.tdiv 2))):=by
  simp[ah,fM,f2,fJ,fq]
 rw[c,a,b]
set_option maxRecDepth 100000 in
def uv(d:dU X)(t:eb)(f:(u X).aP<=j):aN X 113 [.agg (eS t)] h j (λN E ar=>N= .bool (ey t)/\a1 X h j E ar) zG:=by
 refine zB d.todX (BG X) ?_
 rw[BH]
 unfold vB eS
 obtain⟨b,s,w⟩:=t
 cases b with
 |true=>
  cases s with
  |true=>
   refine bl ⟨?_⟩
   exact⟨by simp[ey],dG⟩
  |false=>
   refine bl ⟨?_⟩
   exact⟨by simp[ey],dG⟩
 |false=>
  cases s
  all_goals
   by_cases a:1<=w
   ·have c:decide ((1:Int)<=w)=true:=by simp[a]
    refine bG @c ⟨?_⟩
    exact⟨by simp[ey,a],dG⟩
   ·have c:decide ((1:Int)<=w)=false:=by simp[a]
    refine bG @c ⟨?_⟩
    exact⟨by simp[ey,a],dG⟩
def GD{n:Int}(H:Nat):n/2^H/2=n/2^(H+1):=by
 rw[Int.ediv_ediv_of_nonneg (by exact Int.le_of_lt (Int.pow_pos Zd)),Int.pow_succ]
def Jc{n:Int}(a:0<=n)(b:n<18446744073709551616)(H:Nat):0<=n/2^H/\n/2^H<18446744073709551616:=by
 have c:(0:Int)<2^H:=Int.pow_pos Zd
 exact⟨Int.ediv_nonneg a (Int.le_of_lt c),Int.lt_of_le_of_lt (Int.ediv_le_self _ a) b⟩
set_option maxRecDepth 100000 in
def F1(Y:dU X)(t:eb){n:Int}(v:0<=n)(G:n<18446744073709551616)(T0:ey t=true)(T1:(u X).aP<=j):aN X 160 [.agg (eS t), .int .u64 n] h j (λN E ar=>N= .bool (decide (n<2^(fK t).toNat))/\a1 X h j E ar) zG:=by
 refine zB Y.todX (B2 X) ?_
 rw[B3]
 unfold vR eS
 have T7:=yM T0
 have z:=xq v (fK t).toNat
 have s:decide (n/2^(fK t).toNat=0)=decide (n<2^(fK t).toNat):=by rw[decide_eq_decide];exact z
 obtain⟨bW,a,T6⟩:∃bW:Nat,fK t=(bW:Int)/\bW<=64:=⟨(fK t).toNat,by unfold fK;split<;>omega,by unfold fK;split<;>omega⟩
 have P:(fK t).toNat=bW:=Zo
 rw[P]at s ⊢
 refine l8 ?_
 generalize r:aS X h j _=ay
 have b:J X ay j=zy [.bool t.b, .bool t.s, .Z t.w] 3:=by rw[<-r,bb T1];rfl
 have O:a1 X h j ay (j+1):=by rw[<-r];exact dG
 clear r
 have U:W X ay (.ptr j 1)=some (.bool t.s):=by rw[ba b];rfl
 apply kP
 ·intro w
  cases i:t.s with
  |true=>
   rw[i]at U b
   have f:ah .sub (.Z t.w) (.Z 1)=some (.Z (bW:Int)):=by rw[g4 Zo Zo];unfold fK at a;rw[i]at a;simp only[ZP]at a;rw[a]
   refine c6 (ba b) @U @f ⟨?_⟩
   refine cU (λc E aj=>c.g 1=some (.int .u64 n)/\c.g 5=some (.Z (bW:Int))/\E=ay/\aj=j+1) (λH g=> ?_) ?_
   ·refine bG @f ⟨?_⟩
    exact g _ _ _ ⟨aK,aK,rfl,rfl⟩
   exact w.out
  |false=>
   rw[i]at U b
   have T2:t.w=(bW:Int):=by unfold fK at a;rw[i]at a;simpa using a
   rw[T2]at b
   refine tU (ba b) @U ⟨?_⟩
   refine cU (λc E aj=>c.g 1=some (.int .u64 n)/\c.g 5=some (.Z (bW:Int))/\E=ay/\aj=j+1) (λH g=> ?_) ?_
   ·refine bl ⟨?_⟩
    exact g _ _ _ ⟨aK,aK,rfl,rfl⟩
   exact w.out
 rintro B aO aR ⟨p,t5,rfl,rfl⟩
 refine bl ⟨?_⟩
 refine cQ (λm B E aj=>∃(H:Nat),B.g 1=some (.int .u64 (n/2^H))/\B.g 5=some (.Z (bW:Int))/\B.g 6=some (.Z (H:Int))/\H+m=bW/\E=aO/\aj=j+1)
  bW ⟨0,by refine oF ⟨?_⟩;rw[p];simp,an t5,cA,Zo,rfl,rfl⟩ ?_
 rintro m B T5 T8 ⟨H,p,t5,x,g,rfl,rfl⟩
 cases m with
 |zero=>
  have d:=zv H bW
  have Z:H=bW:=Zo
  subst Z
  refine cP @x @t5 @p @d ⟨?_⟩
  exact⟨by rw[s],O⟩
 |succ m=>
  have d:=zw H bW
  have f:=zz H
  obtain⟨T3,T4⟩:=Jc v G H
  have C:ah .quo (.int .u64 (n/2^H)) (.int .u64 2)=some (.int .u64 (n/2^(H+1))):=by rw[GN T3 T4,GD]
  refine dw @x @t5 @p @d @f @C ⟨?_⟩
  exact⟨m,Zo,H+1,aK,an t5,aK,Zo,rfl,rfl⟩
set_option maxRecDepth 100000 in
def Ef(O:dU X){o:Int}(P:1<=o)(Y:o<=26):aN X 159 [.Z o] h j (λN E ar=>N= .Z (om o)/\E=h/\ar=j) zG:=by
 refine zB O.todX (BY X) ?_
 rw[BZ]
 unfold vP
 by_cases bf:o=1
 ·have a:decide (o=1)=true:=by rw[bf];rfl
  have c:decide (o=2)=false:=by rw[bf];rfl
  have m:decide (o=3)=false:=by rw[bf];rfl
  have n:decide (o=4)=false:=by rw[bf];rfl
  have p:decide (o=5)=false:=by rw[bf];rfl
  have r:decide (o=6)=false:=by rw[bf];rfl
  have b:decide (o=19)=false:=by rw[bf];rfl
  have d:decide (o=20)=false:=by rw[bf];rfl
  have i:decide (o=26)=false:=by rw[bf];rfl
  have f:decide (o=23)=false:=by rw[bf];rfl
  have g:decide (o=25)=false:=by rw[bf];rfl
  refine bs @a @c @m @n @p @r (Za @b (Za @d (Za @i (Za @f @g)))) ⟨?_⟩
  exact⟨by rw[bf];rfl,rfl,rfl⟩
 by_cases bo:o=2
 ·have a:decide (o=1)=false:=by rw[bo];rfl
  have c:decide (o=2)=true:=by rw[bo];rfl
  have m:decide (o=3)=false:=by rw[bo];rfl
  have n:decide (o=4)=false:=by rw[bo];rfl
  have p:decide (o=5)=false:=by rw[bo];rfl
  have r:decide (o=6)=false:=by rw[bo];rfl
  have b:decide (o=19)=false:=by rw[bo];rfl
  have d:decide (o=20)=false:=by rw[bo];rfl
  have i:decide (o=26)=false:=by rw[bo];rfl
  have f:decide (o=23)=false:=by rw[bo];rfl
  have g:decide (o=25)=false:=by rw[bo];rfl
  refine bs @a @c @m @n @p @r (Za @b (Za @d (Za @i (Za @f @g)))) ⟨?_⟩
  exact⟨by rw[bo];rfl,rfl,rfl⟩
 by_cases x:o=3
 ·have a:decide (o=1)=false:=by rw[x];rfl
  have c:decide (o=2)=false:=by rw[x];rfl
  have m:decide (o=3)=true:=by rw[x];rfl
  have n:decide (o=4)=false:=by rw[x];rfl
  have p:decide (o=5)=false:=by rw[x];rfl
  have r:decide (o=6)=false:=by rw[x];rfl
  have b:decide (o=19)=false:=by rw[x];rfl
  have d:decide (o=20)=false:=by rw[x];rfl
  have i:decide (o=26)=false:=by rw[x];rfl
  have f:decide (o=23)=false:=by rw[x];rfl
  have g:decide (o=25)=false:=by rw[x];rfl
  refine bs @a @c @m @n @p @r (Za @b (Za @d (Za @i (Za @f @g)))) ⟨?_⟩
  exact⟨by rw[x];rfl,rfl,rfl⟩
 by_cases z:o=4
 ·have a:decide (o=1)=false:=by rw[z];rfl
  have c:decide (o=2)=false:=by rw[z];rfl
  have m:decide (o=3)=false:=by rw[z];rfl
  have n:decide (o=4)=true:=by rw[z];rfl
  have p:decide (o=5)=false:=by rw[z];rfl
  have r:decide (o=6)=false:=by rw[z];rfl
  have b:decide (o=19)=false:=by rw[z];rfl
  have d:decide (o=20)=false:=by rw[z];rfl
  have i:decide (o=26)=false:=by rw[z];rfl
  have f:decide (o=23)=false:=by rw[z];rfl
  have g:decide (o=25)=false:=by rw[z];rfl
  refine bs @a @c @m @n @p @r (Za @b (Za @d (Za @i (Za @f @g)))) ⟨?_⟩
  exact⟨by rw[z];rfl,rfl,rfl⟩
 by_cases C:o=5
 ·have a:decide (o=1)=false:=by rw[C];rfl
  have c:decide (o=2)=false:=by rw[C];rfl
  have m:decide (o=3)=false:=by rw[C];rfl
  have n:decide (o=4)=false:=by rw[C];rfl
  have p:decide (o=5)=true:=by rw[C];rfl
  have r:decide (o=6)=false:=by rw[C];rfl
  have b:decide (o=19)=false:=by rw[C];rfl
  have d:decide (o=20)=false:=by rw[C];rfl
  have i:decide (o=26)=false:=by rw[C];rfl
  have f:decide (o=23)=false:=by rw[C];rfl
  have g:decide (o=25)=false:=by rw[C];rfl
  refine bs @a @c @m @n @p @r (Za @b (Za @d (Za @i (Za @f @g)))) ⟨?_⟩
  exact⟨by rw[C];rfl,rfl,rfl⟩
 by_cases G:o=6
 ·have a:decide (o=1)=false:=by rw[G];rfl
  have c:decide (o=2)=false:=by rw[G];rfl
  have m:decide (o=3)=false:=by rw[G];rfl
  have n:decide (o=4)=false:=by rw[G];rfl
  have p:decide (o=5)=false:=by rw[G];rfl
  have r:decide (o=6)=true:=by rw[G];rfl
  have b:decide (o=19)=false:=by rw[G];rfl
  have d:decide (o=20)=false:=by rw[G];rfl
  have i:decide (o=26)=false:=by rw[G];rfl
  have f:decide (o=23)=false:=by rw[G];rfl
  have g:decide (o=25)=false:=by rw[G];rfl
  refine bs @a @c @m @n @p @r (Za @b (Za @d (Za @i (Za @f @g)))) ⟨?_⟩
  exact⟨by rw[G];rfl,rfl,rfl⟩
 by_cases gK:o=19
 ·have a:decide (o=1)=false:=by rw[gK];rfl
  have c:decide (o=2)=false:=by rw[gK];rfl
  have m:decide (o=3)=false:=by rw[gK];rfl
  have n:decide (o=4)=false:=by rw[gK];rfl
  have p:decide (o=5)=false:=by rw[gK];rfl
  have r:decide (o=6)=false:=by rw[gK];rfl
  have b:decide (o=19)=true:=by rw[gK];rfl
  have d:decide (o=20)=false:=by rw[gK];rfl
  have i:decide (o=26)=false:=by rw[gK];rfl
  have f:decide (o=23)=false:=by rw[gK];rfl
  have g:decide (o=25)=false:=by rw[gK];rfl
  refine bs @a @c @m @n @p @r (Za @b (Za @d (Za @i (Za @f @g)))) ⟨?_⟩
  exact⟨by rw[gK];rfl,rfl,rfl⟩
 by_cases s:o=20
 ·have a:decide (o=1)=false:=by rw[s];rfl
  have c:decide (o=2)=false:=by rw[s];rfl
  have m:decide (o=3)=false:=by rw[s];rfl
  have n:decide (o=4)=false:=by rw[s];rfl
  have p:decide (o=5)=false:=by rw[s];rfl
  have r:decide (o=6)=false:=by rw[s];rfl
  have b:decide (o=19)=false:=by rw[s];rfl
  have d:decide (o=20)=true:=by rw[s];rfl
  have i:decide (o=26)=false:=by rw[s];rfl
  have f:decide (o=23)=false:=by rw[s];rfl
  have g:decide (o=25)=false:=by rw[s];rfl
  refine bs @a @c @m @n @p @r (Za @b (Za @d (Za @i (Za @f @g)))) ⟨?_⟩
  exact⟨by rw[s];rfl,rfl,rfl⟩
 by_cases w:o=26
 ·have a:decide (o=1)=false:=by rw[w];rfl
  have c:decide (o=2)=false:=by rw[w];rfl
  have m:decide (o=3)=false:=by rw[w];rfl
  have n:decide (o=4)=false:=by rw[w];rfl
  have p:decide (o=5)=false:=by rw[w];rfl
  have r:decide (o=6)=false:=by rw[w];rfl
  have b:decide (o=19)=false:=by rw[w];rfl
  have d:decide (o=20)=false:=by rw[w];rfl
  have i:decide (o=26)=true:=by rw[w];rfl
  have f:decide (o=23)=false:=by rw[w];rfl
  have g:decide (o=25)=false:=by rw[w];rfl
  refine bs @a @c @m @n @p @r (Za @b (Za @d (Za @i (Za @f @g)))) ⟨?_⟩
  exact⟨by rw[w];rfl,rfl,rfl⟩
 by_cases t:o=23
 ·have a:decide (o=1)=false:=by rw[t];rfl
  have c:decide (o=2)=false:=by rw[t];rfl
  have m:decide (o=3)=false:=by rw[t];rfl
  have n:decide (o=4)=false:=by rw[t];rfl
  have p:decide (o=5)=false:=by rw[t];rfl
  have r:decide (o=6)=false:=by rw[t];rfl
  have b:decide (o=19)=false:=by rw[t];rfl
  have d:decide (o=20)=false:=by rw[t];rfl
  have i:decide (o=26)=false:=by rw[t];rfl
  have f:decide (o=23)=true:=by rw[t];rfl
  have g:decide (o=25)=false:=by rw[t];rfl
  refine bs @a @c @m @n @p @r (Za @b (Za @d (Za @i (Za @f @g)))) ⟨?_⟩
  exact⟨by rw[t];rfl,rfl,rfl⟩
 by_cases v:o=25
 ·have a:decide (o=1)=false:=by rw[v];rfl
  have c:decide (o=2)=false:=by rw[v];rfl
  have m:decide (o=3)=false:=by rw[v];rfl
  have n:decide (o=4)=false:=by rw[v];rfl
  have p:decide (o=5)=false:=by rw[v];rfl
  have r:decide (o=6)=false:=by rw[v];rfl
  have b:decide (o=19)=false:=by rw[v];rfl
  have d:decide (o=20)=false:=by rw[v];rfl
  have i:decide (o=26)=false:=by rw[v];rfl
  have f:decide (o=23)=false:=by rw[v];rfl
  have g:decide (o=25)=true:=by rw[v];rfl
  refine bs @a @c @m @n @p @r (Za @b (Za @d (Za @i (Za @f @g)))) ⟨?_⟩
  exact⟨by rw[v];rfl,rfl,rfl⟩
 have a:decide (o=1)=false:=by simp[bf]
 have c:decide (o=2)=false:=by simp[bo]
 have m:decide (o=3)=false:=by simp[x]
 have n:decide (o=4)=false:=by simp[z]
 have p:decide (o=5)=false:=by simp[C]
 have r:decide (o=6)=false:=by simp[G]
 have b:decide (o=19)=false:=by simp[gK]
 have d:decide (o=20)=false:=by simp[s]
 have i:decide (o=26)=false:=by simp[w]
 have f:decide (o=23)=false:=by simp[t]
 have g:decide (o=25)=false:=by simp[v]
 refine bs @a @c @m @n @p @r (Za @b (Za @d (Za @i (Za @f @g)))) ⟨?_⟩
 exact⟨by simp[om,l4, *],rfl,rfl⟩
set_option maxRecDepth 100000 in
def tn(w:dU X){b:Nat}{ax:y}{ds:List bx}(UD:(u X).aP<=j)(O:ci X h P b ax 8 (ds.map bP))(U3:∀c,P c->c<j)(U6:∀d∈ds,it d):
 aN X 86 [ax] h j (λN E ar=>(∃f:Bool,N= .bool f/\(f=true↔∀d∈ds,jc d))/\a1 X h j E ar) zG:=by
 refine zB w.todX (Dw X) ?_
 rw[Dx]
 unfold wK
 have T2:=O.len
 have U8:=O.many
 rw[Zn]at T2 U8
 refine bl ⟨?_⟩
 refine cQ (λm B E aj=>∃(H:Nat),B.g 0=some ax/\B.g 3=some (.Z (H:Int))/\H+m=ds.length/\a1 X h j E aj/\∀x∈ds.take H,jc x)
  ds.length ⟨0,aK,cA,Zo,a1.refl _ _,Zs⟩ ?_
 rintro m B ay aL ⟨H,t0,t3,UA,v,z⟩
 have UB:=v.le
 cases m with
 |zero=>
  have d:=zv H ds.length
  rw[Zt Zo]at z
  refine cP @t3 @t0 @T2 @d ⟨?_⟩
  exact⟨⟨true,rfl,λ_=>z,λ_=>rfl⟩,v⟩
 |succ m=>
  have U1:=zw H ds.length
  have T6:=zz H
  obtain⟨d,C⟩:=zx ds H
  have T9:=Zg C
  have TY:=U6 d T9
  have U5:=O.cT H (by rw[Zn];omega)
  have U0:=(O.T (λc T5=>v.T c (U3 c T5))).row (i:=H) (r:=bP d) Zd (by rw[Zw,C];rfl)
  have U4:bP d=[.str d.name, .Z d.at_, .bool d.ty.b, .bool d.ty.s, .Z d.ty.w, .str d.on, .Z d.di, .bool d.no]:=rfl
  rw[U4]at U0
  refine dw @t3 @t0 @T2 @U1 @U5 @U0 ⟨?_⟩
  generalize T1:aS X _ aL _=aO
  have g:J X aO aL=zy [.str d.name, .Z d.at_, .bool d.ty.b, .bool d.ty.s, .Z d.ty.w, .str d.on, .Z d.di, .bool d.no] 8:=by rw[<-T1,bb Zo];rfl
  have T8:a1 X h j aO (aL+1):=⟨Zo,λc T5=>by rw[<-T1];simp(disch:=omega) only[aY];exact v.T c T5⟩
  clear T1
  have bad:∀E aj,¬jc d->a1 X h j E aj->(∃f:Bool,y.bool false= .bool f/\(f=true↔∀d∈ds,jc d))/\a1 X h j E aj:=λE aj ab U2=>⟨⟨false,rfl,(λe=>by cases e),λe=>absurd (e d T9) ab⟩,U2⟩
  refine bG (ba g) ⟨?_⟩
  refine mM w TY.nm ?_
  cases T3:c7 d.name with
  |false=>
   refine bl ⟨?_⟩
   exact bad _ _ (λe=>by have:=e.nm;rw[T3]at this;cases this) T8
  |true=>
   have UE:eS d.ty=[.bool d.ty.b, .bool d.ty.s, .Z d.ty.w]:=rfl
   have U7:br X aO 3 (.ptr aL 2)=some (.agg (eS d.ty)):=by rw[hp,ba g,ba g,ba g];rfl
   refine bG @U7 ⟨?_⟩
   refine(uv (j:=aL+1) (h:=aO) w d.ty Zo).Zm ?_
   rintro N p U9 ⟨rfl,T0⟩
   have UC:=T0.le
   have T7:J X p aL=zy [.str d.name, .Z d.at_, .bool d.ty.b, .bool d.ty.s, .Z d.ty.w, .str d.on, .Z d.di, .bool d.no] 8:=by rw[T0.T _ Zo];exact g
   have n:a1 X h j p U9:=T8.trans T0
   have Z:W X p (.ptr aL 5)=some (.str d.on):=by rw[ba T7];rfl
   have Y:W X p (.ptr aL 7)=some (.bool d.no):=by rw[ba T7];rfl
   cases T4:ey d.ty with
   |false=>
    refine bl ⟨?_⟩
    exact bad _ _ (λe=>by have:=e.ty;rw[T4]at this;cases this) n
   |true=>
    by_cases a:d.on=[]
    ·have s:decide (d.on≠[])=false:=by simp[a]
     have t:decide (d.on=[])=true:=by simp[a]
     cases G:d.no with
     |true=>
      rw[G]at Y
      refine cP @Z @s @t @Y ⟨?_⟩
      exact bad _ _ (λe=>by have:=e.no a;rw[G]at this;cases this) n
     |false=>
      rw[G]at Y
      refine dw @Z @s @t @Y @t3 @T6 ⟨?_⟩
      exact⟨m,Zo,H+1,an t0,aK,Zo,n,hY C z ⟨T3,T4,λe=>absurd a e,λ_=>G⟩⟩
    ·have s:decide (d.on≠[])=true:=by simp[a]
     have t:decide (d.on=[])=false:=by simp[a]
     refine cn @Z @s ⟨?_⟩
     refine mM w TY.on ?_
     cases TZ:c7 d.on with
     |false=>
      refine bl ⟨?_⟩
      exact bad _ _ (λe=>by have:=e.on a;rw[TZ]at this;cases this) n
     |true=>
      refine cP @Z @t @t3 @T6 ⟨?_⟩
      exact⟨m,Zo,H+1,an t0,aK,Zo,n,hY C z ⟨T3,T4,λ_=>TZ,λe=>absurd e a⟩⟩
end
section
variable{X:bU}{h E cH ay aO:I ae}{j ar aL aR bz:Nat}{bp d2 P:Nat->Prop}
def nQ(b:Nat):ce X h .eql 73 true (.ptr b 0) .bC=some .zF:=Zk
def sg:ce X h .eql 73 true .bC .bC=some .zT:=Zk
def Ah(b:Nat):ce X h .neq 73 true (.ptr b 0) .bC=some .zT:=Zk
def I7:ce X h .neq 73 true .bC .bC=some .zF:=Zk
set_option maxRecDepth 100000 in
def yD(U2:dU X){l:bk}{v:y}(Vm:(u X).aP<=j)(V6:bT X h P l v)(V3:∀Z,P Z->Z<j)(UL:mY l):
 aN X 134 [v] h j (λN E ar=>(∃U4:Bool,N= .bool U4/\(U4=true↔gT l))/\a1 X h j E ar) zG:=by
 refine zB U2.todX (BS X) ?_
 rw[BT]
 unfold vK
 have bad:∀E aj,¬gT l->a1 X h j E aj->(∃U4:Bool,y.bool false= .bool U4/\(U4=true↔gT l))/\a1 X h j E aj:=λE aj ab VJ=>⟨⟨false,rfl,(λe=>by cases e),λe=>absurd e ab⟩,VJ⟩
 have TZ:=a1.refl (C:=u X) h j
 by_cases V7:l.kind= -1
 ·have VV:=V6.nil V7
  subst VV
  refine bG @sg ⟨?_⟩
  exact bad _ _ (λe=>zu e.bf) TZ
 obtain⟨b,ax,bO,aE,rfl,ab,a0,aH,aZ,a3,a4,a5,dY,d3,dE,Uj,has⟩:=V6.root V7
 have Ug:=V3 b ab
 by_cases bf:l.kind<1
 ·have p:decide (l.kind<1)=true:=by simp only[Zc];exact bf
  refine cz @nQ @a0 @p ⟨?_⟩
  exact bad _ _ (λe=>zu e.bf) TZ
 have p:decide (l.kind<1)=false:=by simp only[Zb];exact bf
 by_cases bo:26<l.kind
 ·have n:decide ((26:Int)<l.kind)=true:=by simp only[Zc];exact bo
  refine cP @nQ @a0 @p @n ⟨?_⟩
  exact bad _ _ (λe=>zu e.bo) TZ
 have n:decide ((26:Int)<l.kind)=false:=by simp only[Zb];exact bo
 have UC:=Uj.len
 have VT:=Uj.many
 have VN:=has.len
 rw[Zn,VN]at UC VT
 refine cP @nQ @a0 @p @n ⟨?_⟩
 refine(Ef U2 Zo Zo).Zm ?_
 rintro N ay aL ⟨rfl,rfl,rfl⟩
 obtain⟨TY,U0⟩:∃TY:Int,om l.kind=TY:=⟨_,rfl⟩
 rw[U0]
 by_cases Uf:0<=TY/\(l.args.length:Int)≠TY
 ·have UQ:decide ((0:Int)<=TY)=true:=by simp only[Zc];exact Uf.1
  have Ur:decide ((l.args.length:Int)≠TY)=true:=by simp only[Zc];exact Uf.2
  refine cP @UQ @dE @UC @Ur ⟨?_⟩
  refine bad _ _ (λe=> ?_) TZ
  cases T8:l4 l.kind with
  |none=>unfold om at U0;rw[T8]at U0;simp only[Option.elim]at U0;omega
  |some m=>unfold om at U0;rw[T8]at U0;simp only[Option.elim]at U0;have:=e.w4 m T8;omega
 have V5:∀m,l4 l.kind=some m->l.args.length=m:=λm T8=>by
  unfold om at U0
  rw[T8]at U0
  simp only[Option.elim]at U0
  by_cases e:(l.args.length:Int)=TY
  ·omega
  ·exact absurd ⟨Zo,e⟩ Uf
 apply kP
 ·intro G
  by_cases Ut:0<=TY
  ·have UQ:decide ((0:Int)<=TY)=true:=by simp only[Zc];exact Ut
   have Ur:decide ((l.args.length:Int)≠TY)=false:=by simp only[Zb];exact λe=>Uf ⟨Ut,e⟩
   refine c6 @UQ @dE (Za @UC @Ur) ⟨?_⟩
   refine cU (λf E aj=>f.g 0=some (.ptr b 0)/\E=ay/\aj=aL) (λH g=> ?_) ?_
   ·refine bl ⟨?_⟩
    exact g _ _ _ ⟨aK,rfl,rfl⟩
   exact G.out
  ·have UQ:decide ((0:Int)<=TY)=false:=by simp only[Zb];exact Ut
   refine c6 @UQ @dE @UC ⟨?_⟩
   refine cU (λf E aj=>f.g 0=some (.ptr b 0)/\E=ay/\aj=aL) (λH g=> ?_) ?_
   ·refine bl ⟨?_⟩
    exact g _ _ _ ⟨aK,rfl,rfl⟩
   exact G.out
 rintro B aO aR ⟨t0,rfl,rfl⟩
 refine cU (λf E aj=>(∀a∈l.args,a.kind≠ -1)/\f.g 0=some (.ptr b 0)/\E=aO/\aj=aR) (λH g=> ?_) ?_
 ·refine cQ (λm B E aj=>∃(i:Nat),B.g 0=some (.ptr b 0)/\B.g 4=some (.Z (i:Int))/\i+m=l.args.length/\E=aO/\aj=aR/\∀x∈l.args.take i,x.kind≠ -1)
   l.args.length ⟨0,an t0,cA,Zo,rfl,rfl,Zs⟩ ?_
  rintro m B UD UN ⟨i,t0,t4,ak,rfl,rfl,Uw⟩
  cases m with
  |zero=>
   have d:=zv i l.args.length
   rw[Zt Zo]at Uw
   refine de @t4 @t0 @dE @UC @d ⟨?_⟩
   exact g _ _ _ ⟨Uw,an t0,rfl,rfl⟩
  |succ m=>
   have d:=zw i l.args.length
   have T7:=zz i
   obtain⟨a,Uv⟩:=zx l.args i
   obtain⟨Vk,VM,V4⟩:=has.get i a Uv
   obtain⟨Uq,U3,Vi⟩:=Uj.one VM
   by_cases Ue:a.kind= -1
   ·have VL:=V4.nil Ue
    subst VL
    refine bs @t4 @t0 @dE @UC @d @Uq (Za @U3 @sg) ⟨?_⟩
    exact bad _ _ (λe=>e.gv a (Zg Uv) Ue) TZ
   ·obtain⟨cM,_,_,_,rfl,_⟩:=V4.root Ue
    refine bs @t4 @t0 @dE @UC @d @Uq (Za @U3 (Za @nQ @T7)) ⟨?_⟩
    exact⟨m,Zo,i+1,an t0,aK,Zo,rfl,rfl,hY Uv Uw Ue⟩
 clear t0
 rintro B UD UN ⟨VA,t0,rfl,rfl⟩
 apply kP
 ·intro G
  have U1:eI l.kind↔(l.kind=2\/l.kind=6\/l.kind=24\/l.kind=25):=Iff.rfl
  by_cases c:l.kind=2
  ·have n:decide (l.kind=2)=true:=by rw[c];rfl
   have w:decide (l.kind=6)=false:=by rw[c];rfl
   have s:decide (l.kind=24)=false:=by rw[c];rfl
   have t:decide (l.kind=25)=false:=by rw[c];rfl
   have T3:eI l.kind:=by rw[U1];omega
   refine c6 @t0 @a0 (Za @n (Za @w (Za @s (Za @t @aZ)))) ⟨?_⟩
   refine mM U2 UL.nm ?_
   cases T9:c7 l.name with
   |false=>
    refine bs @t0 @a0 @n @w @s @t @aZ ⟨?_⟩
    exact bad _ _ (λe=>by have:=e.nm T3;rw[T9]at this;cases this) TZ
   |true=>
    refine c6 @t0 @a0 (Za @n (Za @w (Za @s (Za @t @aZ)))) ⟨?_⟩
    refine cU (λf E aj=>((eI l.kind->c7 l.name=true)/\(¬eI l.kind->l.name=[]))/\f.g 0=some (.ptr b 0)/\E=UD/\aj=UN) (λH g=> ?_) ?_
    ·refine bs @t0 @a0 @n @w @s @t @aZ ⟨?_⟩
     exact g _ _ _ ⟨⟨λ_=>T9,λe=>absurd T3 e⟩,an t0,rfl,rfl⟩
    exact G.out
  by_cases c:l.kind=6
  ·have n:decide (l.kind=2)=false:=by rw[c];rfl
   have w:decide (l.kind=6)=true:=by rw[c];rfl
   have s:decide (l.kind=24)=false:=by rw[c];rfl
   have t:decide (l.kind=25)=false:=by rw[c];rfl
   have T3:eI l.kind:=by rw[U1];omega
   refine c6 @t0 @a0 (Za @n (Za @w (Za @s (Za @t @aZ)))) ⟨?_⟩
   refine mM U2 UL.nm ?_
   cases T9:c7 l.name with
   |false=>
    refine bs @t0 @a0 @n @w @s @t @aZ ⟨?_⟩
    exact bad _ _ (λe=>by have:=e.nm T3;rw[T9]at this;cases this) TZ
   |true=>
    refine c6 @t0 @a0 (Za @n (Za @w (Za @s (Za @t @aZ)))) ⟨?_⟩
    refine cU (λf E aj=>((eI l.kind->c7 l.name=true)/\(¬eI l.kind->l.name=[]))/\f.g 0=some (.ptr b 0)/\E=UD/\aj=UN) (λH g=> ?_) ?_
    ·refine bs @t0 @a0 @n @w @s @t @aZ ⟨?_⟩
     exact g _ _ _ ⟨⟨λ_=>T9,λe=>absurd T3 e⟩,an t0,rfl,rfl⟩
    exact G.out
  by_cases c:l.kind=24
  ·have n:decide (l.kind=2)=false:=by rw[c];rfl
   have w:decide (l.kind=6)=false:=by rw[c];rfl
   have s:decide (l.kind=24)=true:=by rw[c];rfl
   have t:decide (l.kind=25)=false:=by rw[c];rfl
   have T3:eI l.kind:=by rw[U1];omega
   refine c6 @t0 @a0 (Za @n (Za @w (Za @s (Za @t @aZ)))) ⟨?_⟩
   refine mM U2 UL.nm ?_
   cases T9:c7 l.name with
   |false=>
    refine bs @t0 @a0 @n @w @s @t @aZ ⟨?_⟩
    exact bad _ _ (λe=>by have:=e.nm T3;rw[T9]at this;cases this) TZ
   |true=>
    refine c6 @t0 @a0 (Za @n (Za @w (Za @s (Za @t @aZ)))) ⟨?_⟩
    refine cU (λf E aj=>((eI l.kind->c7 l.name=true)/\(¬eI l.kind->l.name=[]))/\f.g 0=some (.ptr b 0)/\E=UD/\aj=UN) (λH g=> ?_) ?_
    ·refine bs @t0 @a0 @n @w @s @t @aZ ⟨?_⟩
     exact g _ _ _ ⟨⟨λ_=>T9,λe=>absurd T3 e⟩,an t0,rfl,rfl⟩
    exact G.out
  by_cases c:l.kind=25
  ·have n:decide (l.kind=2)=false:=by rw[c];rfl
   have w:decide (l.kind=6)=false:=by rw[c];rfl
   have s:decide (l.kind=24)=false:=by rw[c];rfl
   have t:decide (l.kind=25)=true:=by rw[c];rfl
   have T3:eI l.kind:=by rw[U1];omega
   refine c6 @t0 @a0 (Za @n (Za @w (Za @s (Za @t @aZ)))) ⟨?_⟩
   refine mM U2 UL.nm ?_
   cases T9:c7 l.name with
   |false=>
    refine bs @t0 @a0 @n @w @s @t @aZ ⟨?_⟩
    exact bad _ _ (λe=>by have:=e.nm T3;rw[T9]at this;cases this) TZ
   |true=>
    refine c6 @t0 @a0 (Za @n (Za @w (Za @s (Za @t @aZ)))) ⟨?_⟩
    refine cU (λf E aj=>((eI l.kind->c7 l.name=true)/\(¬eI l.kind->l.name=[]))/\f.g 0=some (.ptr b 0)/\E=UD/\aj=UN) (λH g=> ?_) ?_
    ·refine bs @t0 @a0 @n @w @s @t @aZ ⟨?_⟩
     exact g _ _ _ ⟨⟨λ_=>T9,λe=>absurd T3 e⟩,an t0,rfl,rfl⟩
    exact G.out
  have T3:¬eI l.kind:=by rw[U1];omega
  have n:decide (l.kind=2)=false:=zJ
  have w:decide (l.kind=6)=false:=zJ
  have s:decide (l.kind=24)=false:=zJ
  have t:decide (l.kind=25)=false:=zJ
  by_cases Ui:l.name=[]
  ·have Y:decide (l.name≠[])=false:=by simp[Ui]
   refine c6 @t0 @a0 (Za @n (Za @w (Za @s (Za @t (Za @aZ @Y))))) ⟨?_⟩
   refine cU (λf E aj=>((eI l.kind->c7 l.name=true)/\(¬eI l.kind->l.name=[]))/\f.g 0=some (.ptr b 0)/\E=UD/\aj=UN) (λH g=> ?_) ?_
   ·refine bs @t0 @a0 @n @w @s @t (Za @aZ @Y) ⟨?_⟩
    exact g _ _ _ ⟨⟨λe=>absurd e T3,λ_=>Ui⟩,an t0,rfl,rfl⟩
   exact G.out
  ·have Y:decide (l.name≠[])=true:=by simp[Ui]
   refine bs @t0 @a0 @n @w @s @t (Za @aZ @Y) ⟨?_⟩
   exact bad _ _ (λe=>Ui (e.yS T3)) TZ
 clear t0
 rintro B UE Uz ⟨⟨Vc,Vd⟩,t0,rfl,rfl⟩
 have VU:eS l.ty=[.bool l.ty.b, .bool l.ty.s, .Z l.ty.w]:=rfl
 have V2:∀E,(∀Z,Z<Uz->J X E Z=J X UE Z)->br X E 3 (.ptr b 4)=some (.agg (eS l.ty))/\W X E (.ptr b 0)=some (.Z l.kind):=λE e=>by
  have Up:∀D,W X E (.ptr b D)=W X UE (.ptr b D):=λD=>by rw[b0,b0,e b Ug]
  exact⟨by rw[hp,Up,Up,Up,a4,a5,dY];rfl,by rw[Up,a0]⟩
 have Vt:J X UE b=J X UE b:=rfl
 apply kP
 ·intro G
  by_cases UY:l.no=true/\l.kind≠6
  ·have Uc:decide (l.kind≠6)=true:=by simp only[Zc];exact UY.2
   rw[UY.1]at a3
   refine cP @t0 @a3 @a0 @Uc ⟨?_⟩
   exact bad _ _ (λe=>UY.2 (e.no UY.1)) TZ
  have Uy:l.no=true->l.kind=6:=λe=>Decidable.byContradiction λT2=>UY ⟨e,T2⟩
  cases UZ:l.no with
  |true=>
   have Uc:decide (l.kind≠6)=false:=by simp[Uy UZ]
   rw[UZ]at a3
   refine c6 @t0 @a3 (Za @a0 @Uc) ⟨?_⟩
   refine cU (λf E aj=>(l.no=true->l.kind=6)/\f.g 0=some (.ptr b 0)/\E=UE/\aj=Uz) (λH g=> ?_) ?_
   ·refine cP @t0 @a3 @a0 @Uc ⟨?_⟩
    exact g _ _ _ ⟨Uy,an t0,rfl,rfl⟩
   exact G.out
  |false=>
   rw[UZ]at a3
   refine tU @t0 @a3 ⟨?_⟩
   refine cU (λf E aj=>(l.no=true->l.kind=6)/\f.g 0=some (.ptr b 0)/\E=UE/\aj=Uz) (λH g=> ?_) ?_
   ·refine cn @t0 @a3 ⟨?_⟩
    exact g _ _ _ ⟨Uy,an t0,rfl,rfl⟩
   exact G.out
 clear t0
 rintro B U9 T6 ⟨Ve,t0,rfl,rfl⟩
 refine k4 @t0 ⟨?_⟩
 generalize Uu:aS X _ T6 _=UF
 have UK:a1 X U9 T6 UF (T6+1):=by rw[<-Uu];exact dG
 have Ud:J X UF T6=zy [.zF, .zF, .Z 0] 3:=by rw[<-Uu,bb Zo];rfl
 clear Uu
 have z3:br X UF 3 (.ptr T6 0)=some (.agg [.zF, .zF, .Z 0]):=by rw[hp,ba Ud,ba Ud,ba Ud];rfl
 obtain⟨UM,UP⟩:=V2 UF UK.T
 apply kP
 ·intro G
  have U1:fE l.kind↔(l.kind=1\/l.kind=26):=Iff.rfl
  by_cases c:l.kind=1
  ·have p:decide (l.kind=1)=true:=by rw[c];rfl
   have UI:decide (l.kind=26)=false:=by rw[c];rfl
   have U7:fE l.kind:=by rw[U1];omega
   refine c6 @t0 @a0 (Za @UP (Za @UM (Za @p @UI))) ⟨?_⟩
   refine(uv (j:=T6+1+21) (h:=UF) U2 l.ty Zo).Zm ?_
   rintro N T4 U8 ⟨rfl,z⟩
   have V9:=z.le
   have UV:a1 X U9 T6 T4 U8:=UK.trans (z.jC Zo)
   cases T8:ey l.ty with
   |false=>
    refine bl ⟨?_⟩
    exact bad _ _ (λe=>by have:=e.ty U7;rw[T8]at this;cases this) (UV.more Zo)
   |true=>
    refine ho ⟨?_⟩
    refine cU (λf E aj=>((fE l.kind->ey l.ty=true)/\(¬fE l.kind->l.ty=cm))/\f.g 0=some (.ptr b 0)/\a1 X U9 T6 E aj) (λH g=> ?_) ?_
    ·refine bl ⟨?_⟩
     exact g _ _ _ ⟨⟨λ_=>T8,λe=>absurd U7 e⟩,an t0,UV.more Zo⟩
    exact G.out
  by_cases c:l.kind=26
  ·have p:decide (l.kind=1)=false:=by rw[c];rfl
   have UI:decide (l.kind=26)=true:=by rw[c];rfl
   have U7:fE l.kind:=by rw[U1];omega
   refine c6 @t0 @a0 (Za @UP (Za @UM (Za @p @UI))) ⟨?_⟩
   refine(uv (j:=T6+1+21) (h:=UF) U2 l.ty Zo).Zm ?_
   rintro N T4 U8 ⟨rfl,z⟩
   have V9:=z.le
   have UV:a1 X U9 T6 T4 U8:=UK.trans (z.jC Zo)
   cases T8:ey l.ty with
   |false=>
    refine bl ⟨?_⟩
    exact bad _ _ (λe=>by have:=e.ty U7;rw[T8]at this;cases this) (UV.more Zo)
   |true=>
    refine ho ⟨?_⟩
    refine cU (λf E aj=>((fE l.kind->ey l.ty=true)/\(¬fE l.kind->l.ty=cm))/\f.g 0=some (.ptr b 0)/\a1 X U9 T6 E aj) (λH g=> ?_) ?_
    ·refine bl ⟨?_⟩
     exact g _ _ _ ⟨⟨λ_=>T8,λe=>absurd U7 e⟩,an t0,UV.more Zo⟩
    exact G.out
  have U7:¬fE l.kind:=by rw[U1];omega
  have p:decide (l.kind=1)=false:=zJ
  have UI:decide (l.kind=26)=false:=zJ
  rw[VU]at UM
  by_cases Uk:l.ty=cm
  ·have Us:decide (l.ty≠cm)=false:=by simp[Uk]
   refine c6 @t0 @a0 (Za @UP (Za @UM (Za @z3 (Za @pa (Za @Us (Za @p @UI)))))) ⟨?_⟩
   refine cU (λf E aj=>((fE l.kind->ey l.ty=true)/\(¬fE l.kind->l.ty=cm))/\f.g 0=some (.ptr b 0)/\a1 X U9 T6 E aj) (λH g=> ?_) ?_
   ·refine bl ⟨?_⟩
    exact g _ _ _ ⟨⟨λe=>absurd e U7,λ_=>Uk⟩,an t0,UK.more Zo⟩
   exact G.out
  ·have Us:decide (l.ty≠cm)=true:=by simp[Uk]
   refine bs @t0 @a0 @UP @UM @z3 @pa (Za @Us (Za @p @UI)) ⟨?_⟩
   exact bad _ _ (λe=>Uk (e.cm U7)) (UK.more Zo)
 clear t0 UK Ud z3 UM UP
 rintro B T4 U8 ⟨⟨VF,Vg⟩,t0,z⟩
 have V9:=z.le
 have O:W X T4 (.ptr b 0)=some (.Z l.kind):=by rw[z.cZ _ _ Ug];exact a0
 have T5:W X T4 (.ptr b 7)=some (.int .u64 l.n):=by rw[z.cZ _ _ Ug];exact d3
 have UG:W X T4 (.ptr b 8)=some ax:=by rw[z.cZ _ _ Ug];exact dE
 have VC:∀Z,P Z->J X T4 Z=J X U9 Z:=λZ VY=>z.T Z (V3 Z VY)
 obtain⟨VO,_⟩:=V2 T4 z.T
 apply kP
 ·intro G
  by_cases c:l.kind=1
  ·have p:decide (l.kind=1)=true:=by rw[c];rfl
   have T0:decide (l.kind=19)=false:=by rw[c];rfl
   have T1:decide (l.kind=20)=false:=by rw[c];rfl
   refine c6 @t0 @O (Za @T5 (Za @p (Za @T0 @T1))) ⟨?_⟩
   refine cU (λf E aj=>((¬(l.kind=1\/l.kind=19\/l.kind=20)->l.n=0)/\(l.kind=19\/l.kind=20->l.n<=63))/\f.g 0=some (.ptr b 0)/\E=T4/\aj=U8) (λH g=> ?_) ?_
   ·refine dw @t0 @O @T5 @p @T0 @T1 ⟨?_⟩
    exact g _ _ _ ⟨⟨λe=>absurd (.inl c) e,λe=>Zo⟩,an t0,rfl,rfl⟩
   exact G.out
  by_cases c:l.kind=19
  ·have p:decide (l.kind=1)=false:=by rw[c];rfl
   have T0:decide (l.kind=19)=true:=by rw[c];rfl
   have T1:decide (l.kind=20)=false:=by rw[c];rfl
   by_cases UU:63<l.n
   ·have Y:decide ((63:Int)<l.n)=true:=by simp only[Zc];exact UU
    refine bs @t0 @O @T5 @p @T0 @T1 @Y ⟨?_⟩
    exact bad _ _ (λe=>zu (e.c9 Zo)) (z.more Zo)
   ·have Y:decide ((63:Int)<l.n)=false:=by simp only[Zb];exact UU
    refine c6 @t0 @O (Za @T5 (Za @p (Za @T0 (Za @T1 @Y)))) ⟨?_⟩
    refine cU (λf E aj=>((¬(l.kind=1\/l.kind=19\/l.kind=20)->l.n=0)/\(l.kind=19\/l.kind=20->l.n<=63))/\f.g 0=some (.ptr b 0)/\E=T4/\aj=U8) (λH g=> ?_) ?_
    ·refine bs @t0 @O @T5 @p @T0 @T1 @Y ⟨?_⟩
     exact g _ _ _ ⟨⟨λe=>Zo,λ_=>Zo⟩,an t0,rfl,rfl⟩
    exact G.out
  by_cases c:l.kind=20
  ·have p:decide (l.kind=1)=false:=by rw[c];rfl
   have T0:decide (l.kind=19)=false:=by rw[c];rfl
   have T1:decide (l.kind=20)=true:=by rw[c];rfl
   by_cases UU:63<l.n
   ·have Y:decide ((63:Int)<l.n)=true:=by simp only[Zc];exact UU
    refine bs @t0 @O @T5 @p @T0 @T1 @Y ⟨?_⟩
    exact bad _ _ (λe=>zu (e.c9 Zo)) (z.more Zo)
   ·have Y:decide ((63:Int)<l.n)=false:=by simp only[Zb];exact UU
    refine c6 @t0 @O (Za @T5 (Za @p (Za @T0 (Za @T1 @Y)))) ⟨?_⟩
    refine cU (λf E aj=>((¬(l.kind=1\/l.kind=19\/l.kind=20)->l.n=0)/\(l.kind=19\/l.kind=20->l.n<=63))/\f.g 0=some (.ptr b 0)/\E=T4/\aj=U8) (λH g=> ?_) ?_
    ·refine bs @t0 @O @T5 @p @T0 @T1 @Y ⟨?_⟩
     exact g _ _ _ ⟨⟨λe=>Zo,λ_=>Zo⟩,an t0,rfl,rfl⟩
    exact G.out
  have p:decide (l.kind=1)=false:=zJ
  have T0:decide (l.kind=19)=false:=zJ
  have T1:decide (l.kind=20)=false:=zJ
  by_cases Uo:l.n=0
  ·have Y:decide (l.n≠0)=false:=by simp[Uo]
   refine c6 @t0 @O (Za @T5 (Za @p (Za @T0 (Za @T1 @Y)))) ⟨?_⟩
   refine cU (λf E aj=>((¬(l.kind=1\/l.kind=19\/l.kind=20)->l.n=0)/\(l.kind=19\/l.kind=20->l.n<=63))/\f.g 0=some (.ptr b 0)/\E=T4/\aj=U8) (λH g=> ?_) ?_
   ·refine bs @t0 @O @T5 @p @T0 @T1 @Y ⟨?_⟩
    exact g _ _ _ ⟨⟨λ_=>Uo,λe=>Zo⟩,an t0,rfl,rfl⟩
   exact G.out
  ·have Y:decide (l.n≠0)=true:=by simp[Uo]
   refine bs @t0 @O @T5 @p @T0 @T1 @Y ⟨?_⟩
   exact bad _ _ (λe=>Uo (e.aP Zo)) (z.more Zo)
 clear t0
 rintro B VI Vp ⟨⟨Vb,Vf⟩,t0,rfl,rfl⟩
 have mk:(l.kind=1->l.n<2^(fK l.ty).toNat)->(l.kind=21->kZ l.args)->gT l:=λT2 U6=>⟨Zo,Zo,V5,VA,Vc,Vd,Ve,VF,Vg,Vb,Vf,T2,U6⟩
 by_cases US:l.kind=1
 ·have T7:decide (l.kind=1)=true:=by simp[US]
  refine de @t0 @O @T5 @VO @T7 ⟨?_⟩
  have VS:=VF (.inl US)
  refine(F1 (h:=VI) U2 l.ty UL.aL UL.aR VS Zo).Zm ?_
  rintro N Vj Vq ⟨rfl,VK⟩
  exact⟨⟨_,rfl,by rw[Zc];exact⟨λe=>mk (λ_=>e) (λe=>Zo),λe=>e.yR US⟩⟩,z.trans (VK.jC Zo)⟩
 have T7:decide (l.kind=1)=false:=by simp[US]
 by_cases UT:l.kind=21
 ·have U5:decide (l.kind=21)=true:=by simp[UT]
  have V8:=V5 2 (by rw[UT];decide)
  obtain⟨k,r,UW⟩:∃k r,l.args=k::r:=by
   cases UZ:l.args with
   |nil=>rw[UZ]at V8;simp at V8
   |cons k r=>exact⟨k,r,rfl⟩
  have VQ:k∈l.args:=by rw[UW];exact Zl ..
  obtain⟨ac,VR,VP⟩:=has.get 0 k (by rw[UW];rfl)
  obtain⟨Uq,U3,Vi⟩:=(Uj.T VC).one VR
  obtain⟨b9,Va,VZ,Vo,rfl,Vl,UH,_,_,_,_,_,_,_,Ub,VE,VD⟩:=(bT.to VC (λ_ e=>e) _ _ VP).root (VA k VQ)
  have UO:bK 1 ax (.Z 0)=some (.ptr bO 0):=Uq
  have VH:∀(UX:kZ l.args),(∃U4:Bool,y.bool true= .bool U4/\(U4=true↔gT l)):=λUX=>⟨true,rfl,λ_=>mk (λe=>Zo) λ_=>UX,λ_=>rfl⟩
  have no:∀(UX:¬kZ l.args),¬gT l:=λUX e=>UX (e.jo UT)
  have inv:kZ l.args->k.kind=1\/k.kind=4/\∃Z,k.args=[Z]/\Z.kind=1:=λ⟨x,Vs,T2,U6⟩=>by
   rw[UW]at T2
   cases T2
   exact U6
  by_cases UB:k.kind=1
  ·have UA:decide (k.kind=1)=true:=by simp[UB]
   refine bs @t0 @O @T7 @U5 @UG @UO (Za @U3 (Za @UH @UA)) ⟨?_⟩
   exact⟨VH ⟨k,r,UW, .inl UB⟩,z.more Zo⟩
  have UA:decide (k.kind=1)=false:=by simp[UB]
  by_cases Uh:k.kind=4
  ·have UJ:decide (k.kind=4)=true:=by simp[Uh]
   have Ua:=VE.len
   rw[Zn,VD.len]at Ua
   by_cases Ux:k.args.length=1
   ·have UR:decide ((k.args.length:Int)=1)=true:=zK
    obtain⟨x,Ul⟩:=List.length_eq_one_iff.1 Ux
    obtain⟨Vv,VX,VB⟩:=VD.get 0 x (by rw[Ul];rfl)
    obtain⟨Vh,V1,Vr⟩:=VE.one VX
    have V0:bK 1 Va (.Z 0)=some (.ptr VZ 0):=Vh
    by_cases Un:x.kind= -1
    ·have VW:=VB.nil Un
     subst VW
     refine bs @t0 @O @T7 @U5 @UG @UO (Za @U3 (Za @UH (Za @UA (Za @UJ (Za @Ub (Za @Ua (Za @UR (Za @V0 (Za @V1 @I7))))))))) ⟨?_⟩
     refine bad _ _ (no λe=> ?_) (z.more Zo)
     rcases inv e with e|⟨_,Z,T2,U6⟩
     ·exact UB e
     ·rw[Ul]at T2;cases T2;rw[U6]at Un;cases Un
    ·obtain⟨Vu,_,_,_,rfl,Vn,VG,_⟩:=VB.root Un
     by_cases Um:x.kind=1
     ·have ex:decide (x.kind=1)=true:=by simp[Um]
      refine bs @t0 @O @T7 @U5 @UG @UO (Za @U3 (Za @UH (Za @UA (Za @UJ (Za @Ub (Za @Ua (Za @UR (Za @V0 (Za @V1 (Za @Ah (Za @VG @ex))))))))))) ⟨?_⟩
      exact⟨VH ⟨k,r,UW, .inr ⟨Uh,x,Ul,Um⟩⟩,z.more Zo⟩
     ·have ex:decide (x.kind=1)=false:=by simp[Um]
      refine bs @t0 @O @T7 @U5 @UG @UO (Za @U3 (Za @UH (Za @UA (Za @UJ (Za @Ub (Za @Ua (Za @UR (Za @V0 (Za @V1 (Za @Ah (Za @VG @ex))))))))))) ⟨?_⟩
      refine bad _ _ (no λe=> ?_) (z.more Zo)
      rcases inv e with e|⟨_,Z,T2,U6⟩
      ·exact UB e
      ·rw[Ul]at T2;cases T2;exact Um U6
   ·have UR:decide ((k.args.length:Int)=1)=false:=zJ
    refine bs @t0 @O @T7 @U5 @UG @UO (Za @U3 (Za @UH (Za @UA (Za @UJ (Za @Ub (Za @Ua @UR)))))) ⟨?_⟩
    refine bad _ _ (no λe=> ?_) (z.more Zo)
    rcases inv e with e|⟨_,Z,T2,U6⟩
    ·exact UB e
    ·rw[T2]at Ux;exact Ux rfl
  ·have UJ:decide (k.kind=4)=false:=by simp[Uh]
   refine bs @t0 @O @T7 @U5 @UG @UO (Za @U3 (Za @UH (Za @UA @UJ))) ⟨?_⟩
   refine bad _ _ (no λe=> ?_) (z.more Zo)
   rcases inv e with e|⟨e,_⟩
   ·exact UB e
   ·exact Uh e
 have U5:decide (l.kind=21)=false:=by simp[UT]
 refine cP @t0 @O @T7 @U5 ⟨?_⟩
 exact⟨⟨true,rfl,λ_=>mk (λe=>absurd e US) (λe=>absurd e UT),λ_=>rfl⟩,z.more Zo⟩
end
def od:Nat->bk->Prop
 |0,l=>gT l
 |d+1,l=>gT l/\∀a∈l.args,od d a
def pd:Nat->bk->Prop
 |0,l=>l.kind= -1
 |d+1,l=>l.kind= -1\/∀a∈l.args,pd d a
def od.made{d:Nat}{l:bk}(e:od d l):gT l:=by
 cases d with
 |zero=>exact e
 |succ d=>exact e.1
def tG:∀(d:Nat) (l:bk),ge d l↔od d l/\pd d l:=by
 intro d
 induction d with
 |zero=>
  intro l
  refine⟨λe=>e.elim,λ⟨b,c⟩=> ?_⟩
  have:=gT.bf b
  have g:l.kind= -1:=c
  omega
 |succ d V=>
  intro l
  constructor
  ·rintro⟨b,c⟩
   exact⟨⟨b,λa f=>((V a).1 (c a f)).1⟩, .inr λa f=>((V a).1 (c a f)).2⟩
  ·rintro⟨⟨b,c⟩,g⟩
   refine⟨b,λa f=>(V a).2 ⟨c a f, ?_⟩⟩
   rcases g with g|g
   ·have:=b.bf;omega
   ·exact g a f
section
variable{X:bU}{h E cH ay aO:I ae}{j ar aL aR bz:Nat}{bp d2 P:Nat->Prop}
set_option maxRecDepth 100000 in
def LF(G:dU X):∀(c:Nat),c<=200->∀(l:bk) (v:y) (h:I ae) (j:Nat),(u X).aP<=j->bT X h P l v->(∀f,P f->f<j)->hC l->
 aN X 114 [v, .Z (c:Int)] h j (λN E ar=>(∃r:Bool,N= .bool r/\(r=false↔od c l))/\a1 X h j E ar) zG:=by
 intro c
 induction c with
 |zero=>
  intro _ l v h j T4 z n O
  refine zB G.todX (vC X) ?_
  rw[vD]
  unfold sX
  refine(yD (j:=j) (h:=h) G T4 z n O.root).Zm ?_
  rintro N ay aL ⟨⟨r,rfl,x⟩,g⟩
  have U5:=g.le
  cases r with
  |false=>
   refine bl ⟨?_⟩
   exact⟨⟨true,rfl,(λe=>by cases e),λe=>by have:=x.2 e;cases this⟩,g⟩
  |true=>
   have t:=x.1 rfl
   have T3:l.kind≠ -1:=zu t.bf
   obtain⟨b,ax,bO,aE,rfl,ab,_,_,_,_,_,_,_,_,dE,C,has⟩:=z.root T3
   have T1:=n b ab
   have p:=C.len
   have T2:=has.len
   rw[Zn,T2]at p
   have T6:W X ay (.ptr b 8)=some ax:=by rw[g.cZ _ _ T1];exact dE
   refine bl ⟨?_⟩
   refine cQ (λm B E aj=>B.g 0=some (.ptr b 0)/\B.g 1=some (.Z ((0:Nat):Int))/\B.g 5=some (.Z 0)/\E=ay/\aj=aL)
    0 ⟨aK,aK,aK,rfl,rfl⟩ ?_
   rintro m B aO aR ⟨t0,w,t5,rfl,rfl⟩
   have Y:decide ((0:Int)<((0:Nat):Int))=false:=rfl
   by_cases au:(0:Int)<(l.args.length:Int)
   ·have d:decide ((0:Int)<(l.args.length:Int))=true:=by simp only[Zc];exact au
    refine bs @t5 @t0 @w @T6 @p @d @Y ⟨?_⟩
    exact⟨⟨false,rfl,λ_=>t,λ_=>rfl⟩,g⟩
   ·have d:decide ((0:Int)<(l.args.length:Int))=false:=by simp only[Zb];exact au
    refine dw @t5 @t0 @w @T6 @p @d ⟨?_⟩
    exact⟨⟨false,rfl,λ_=>t,λ_=>rfl⟩,g⟩
 |succ c V=>
  intro UA l v h j T4 z n O
  refine zB G.todX (vC X) ?_
  rw[vD]
  unfold sX
  refine(yD (j:=j) (h:=h) G T4 z n O.root).Zm ?_
  rintro N ay aL ⟨⟨r,rfl,x⟩,g⟩
  have U5:=g.le
  cases r with
  |false=>
   refine bl ⟨?_⟩
   exact⟨⟨true,rfl,(λe=>by cases e),λe=>by have:=x.2 e.made;cases this⟩,g⟩
  |true=>
   have t:=x.1 rfl
   have T3:l.kind≠ -1:=zu t.bf
   obtain⟨b,ax,bO,aE,rfl,ab,_,_,_,_,_,_,_,_,dE,C,has⟩:=z.root T3
   have T1:=n b ab
   have p:=C.len
   have U6:=C.many
   have T2:=has.len
   rw[Zn,T2]at p U6
   refine bl ⟨?_⟩
   refine cQ (λm B E aj=>∃(i:Nat),B.g 0=some (.ptr b 0)/\B.g 1=some (.Z ((c+1:Nat):Int))/\B.g 5=some (.Z (i:Int))/\i+m=l.args.length/\a1 X h j E aj/\∀a∈l.args.take i,od c a)
    l.args.length ⟨0,aK,aK,cA,Zo,g,Zs⟩ ?_
   rintro m B aO aR ⟨i,t0,w,t5,ak,s,T0⟩
   have UB:=s.le
   have Y:decide ((0:Int)<((c+1:Nat):Int))=true:=zK
   have T7:W X aO (.ptr b 8)=some ax:=by rw[s.cZ _ _ T1];exact dE
   cases m with
   |zero=>
    have d:=zv i l.args.length
    rw[Zt Zo]at T0
    refine dw @t5 @t0 @w @T7 @p @d ⟨?_⟩
    exact⟨⟨false,rfl,λ_=>⟨t,T0⟩,λ_=>rfl⟩,s⟩
   |succ m=>
    have d:=zw i l.args.length
    have U1:=zz i
    have U2:ah .sub (.Z ((c+1:Nat):Int)) (.Z 1)=some (.Z (c:Int)):=by rw[g4 Zo Zo,show((c+1:Nat):Int) -1=(c:Int) by omega]
    obtain⟨a,Z⟩:=zx l.args i
    have T9:=Zg Z
    obtain⟨U0,U4,U3⟩:=has.get i a Z
    have TZ:∀f,P f->J X aO f=J X h f:=λf T5=>s.T f (n f T5)
    obtain⟨U7,U8,UD⟩:=(C.T TZ).one U4
    refine bs @t5 @t0 @w @T7 @p @d (Za @Y (Za @U7 (Za @U8 @U2))) ⟨?_⟩
    refine(V Zo a U0 aO aR Zo (bT.to TZ (λ_ e=>e) _ _ U3) (λf T5=>zu (n f T5)) (O.arg T9)).Zm ?_
    rintro N U9 UC ⟨⟨b6,rfl,TY⟩,T8⟩
    cases b6 with
    |true=>
     refine bl ⟨?_⟩
     exact⟨⟨true,rfl,(λe=>by cases e),λe=>by have:=TY.2 (e.2 a T9);cases this⟩,s.trans T8⟩
    |false=>
     refine cn @t5 @U1 ⟨?_⟩
     exact⟨m,Zo,i+1,an t0,an w,aK,Zo,s.trans T8,hY Z T0 (TY.1 rfl)⟩
set_option maxRecDepth 100000 in
def GI(T1:dU X):∀(bM:Nat),bM<=201->∀(l:bk) (v:y),bT X h P l v->
 aN X 135 [v, .Z (bM:Int)] h j (λN E ar=>(∃e:Int,N= .Z e/\0<=e/\e<=bM/\∀d:Nat,d<bM->(e<=d↔pd d l))/\E=h/\ar=j) zG:=by
 intro bM
 induction bM with
 |zero=>
  intro _ l v r
  refine zB T1.todX (vL X) ?_
  rw[vM]
  unfold sY
  have w:decide (((0:Nat):Int)=0)=true:=rfl
  by_cases f:l.kind= -1
  ·have O:=r.nil f
   subst O
   refine bG @sg ⟨?_⟩
   exact⟨⟨0,rfl,Zo,Zo,λd c=>Zo⟩,rfl,rfl⟩
  ·obtain⟨b,ax,bO,aE,rfl,_⟩:=r.root f
   refine cn @nQ @w ⟨?_⟩
   exact⟨⟨0,rfl,Zo,Zo,λd c=>Zo⟩,rfl,rfl⟩
 |succ bM V=>
  intro UC l v r
  refine zB T1.todX (vL X) ?_
  rw[vM]
  unfold sY
  have w:decide (((bM+1:Nat):Int)=0)=false:=zJ
  by_cases f:l.kind= -1
  ·have O:=r.nil f
   subst O
   refine bG @sg ⟨?_⟩
   refine⟨⟨0,rfl,Zo,Zo,λd c=>⟨λ_=> ?_,λ_=>Zo⟩⟩,rfl,rfl⟩
   cases d with
   |zero=>exact f
   |succ d=>exact .inl f
  ·obtain⟨b,ax,bO,aE,rfl,ab,_,_,_,_,_,_,_,_,dE,G,has⟩:=r.root f
   have C:=G.len
   have U5:=G.many
   have U4:=has.len
   rw[Zn,U4]at C U5
   refine cn @nQ @w ⟨?_⟩
   refine cQ (λm B E aj=>∃(i:Nat) (e:Int),B.g 0=some (.ptr b 0)/\B.g 1=some (.Z ((bM+1:Nat):Int))/\B.g 5=some (.Z e)/\B.g 6=some (.Z (i:Int))/\i+m=l.args.length/\0<=e/\e<=bM/\(∀d:Nat,d<bM->(e<=d↔∀a∈l.args.take i,pd d a))/\E=h/\aj=j)
    l.args.length ⟨0,0,aK,aK,aK,cA,Zo,Zo,Zo,λd c=>Zs,rfl,rfl⟩ ?_
   rintro m B aO aR ⟨i,e,t0,Y,t5,s,ak,U0,U1,z,rfl,rfl⟩
   cases m with
   |zero=>
    have d:=zv i l.args.length
    have T8:ah .add (.Z e) (.Z 1)=some (.Z (e+1)):=cx Zo Zo
    rw[Zt Zo]at z
    refine bs @s @t0 @t5 @dE @C @d @T8 ⟨?_⟩
    refine⟨⟨e+1,rfl,Zo,Zo,λd c=> ?_⟩,rfl,rfl⟩
    cases d with
    |zero=>exact⟨λg=>Zo,λg=>absurd g f⟩
    |succ d=>
     have T3:=z d Zo
     constructor
     ·intro g;exact .inr (T3.1 Zo)
     ·rintro(g|g)
      ·exact absurd g f
      ·have:=T3.2 g;omega
   |succ m=>
    have d:=zw i l.args.length
    have T0:=zz i
    have T7:ah .sub (.Z ((bM+1:Nat):Int)) (.Z 1)=some (.Z (bM:Int)):=by rw[g4 Zo Zo,show((bM+1:Nat):Int) -1=(bM:Int) by omega]
    obtain⟨a,T2⟩:=zx l.args i
    obtain⟨T6,U3,U2⟩:=has.get i a T2
    obtain⟨U6,U7,UE⟩:=G.one U3
    refine bs @s @t0 @Y @dE @C @d (Za @U6 (Za @U7 @T7)) ⟨?_⟩
    refine(V Zo a T6 U2).Zm ?_
    rintro N UB UD ⟨⟨p,rfl,T9,TY,TZ⟩,rfl,rfl⟩
    have U8:l.args.take (i+1)=l.args.take i++[a]:=by rw[ZG,T2];rfl
    have Z:∀d:Nat,d<bM->((∀x∈l.args.take (i+1),pd d x)↔e<=d/\p<=d):=λd c=>by
     rw[U8,z d c,TZ d c]
     exact⟨λT5=>⟨λx n=>T5 x (Z2 _ n),T5 a (ZQ _ (ZF.2 rfl))⟩,λ⟨U9,UA⟩ x n=>by
      rcases Zr.1 n with n|n
      ·exact U9 x n
      ·rw[ZF.1 n];exact UA⟩
    by_cases T4:e<p
    ·have t:decide (e<p)=true:=by simp only[Zc];exact T4
     refine cP @s @t5 @t @T0 ⟨?_⟩
     exact⟨m,Zo,i+1,p,an t0,an Y,aK,aK,Zo,T9,TY,λd c=>by rw[Z d c];omega,rfl,rfl⟩
    ·have t:decide (e<p)=false:=by simp only[Zb];exact T4
     refine cP @s @t5 @t @T0 ⟨?_⟩
     exact⟨m,Zo,i+1,e,an t0,an Y,an t5,aK,Zo,U0,U1,λd c=>by rw[Z d c];omega,rfl,rfl⟩
set_option maxRecDepth 100000 in
def Gf(c:dU X){l:bk}{v:y}(s:(u X).aP<=j)(m:bT X h P l v)(g:∀a,P a->a<j)(r:hC l):
 aN X 87 [v] h j (λN E ar=>(∃w:Int,N= .Z w/\hF w/\(w=0↔ge 200 l))/\a1 X h j E ar) zG:=by
 refine zB c.todX (Dy X) ?_
 rw[Dz]
 unfold wL
 refine(LF (P:=P) c 200 Zo l v h j s m g r).Zm ?_
 rintro N ay aL ⟨⟨n,rfl,i⟩,b⟩
 cases n with
 |true=>
  refine bl ⟨?_⟩
  exact⟨⟨1,rfl, .inr (.inl rfl),(λe=>by cases e),λe=>by have:=i.2 ((tG 200 l).1 e).1;cases this⟩,b⟩
 |false=>
  have t:=i.1 rfl
  refine bl ⟨?_⟩
  refine zB c.todX (BI X) ?_
  rw[BJ]
  unfold vE
  refine(GI (j:=aL) (h:=ay) c 201 Zo l v (bT.to (λa z=>b.T a (g a z)) (λ_ e=>e) _ _ m)).Zm ?_
  rintro N aO aR ⟨⟨e,rfl,C,G,p⟩,rfl,rfl⟩
  have f:=p 200 Zo
  by_cases au:e<=200
  ·have d:decide ((200:Int)<e)=false:=zJ
   refine bG @d ⟨?_⟩
   exact⟨⟨0,rfl, .inl rfl,λ_=>(tG 200 l).2 ⟨t,f.1 au⟩,λ_=>rfl⟩,b⟩
  ·have d:decide ((200:Int)<e)=true:=zK
   refine bG @d ⟨?_⟩
   exact⟨⟨22,rfl, .inr (.inr rfl),(λe=>by cases e),λx=>absurd (f.2 ((tG 200 l).1 x).2) au⟩,b⟩
end
section
variable{X:bU}{h E cH ay aO:I ae}{j ar aL aR bz:Nat}{bp d2 P:Nat->Prop}
def uL(b:Nat):ce X h .eql 25 true (.ptr b 0) .bC=some .zF:=Zk
set_option maxRecDepth 100000 in
def Gd(T0:dU X){U:List Go.a8.Node}{v:y}(W8:(u X).aP<=j)(VT:gf X h P U v)(s:∀a,P a->a<j)(V0:∀g∈U,hB g)(W7:U.length<=1000):
 aN X 53 [v] h j (λN E ar=>(∃w:Int,N= .Z w/\hF w/\(w=0↔hd U))/\a1 X h j E ar) zG:=by
 refine zB T0.todX (CO X) ?_
 rw[CP]
 unfold wm
 obtain⟨b,ax,bO,rows,rfl,ab,a0,UY,V3⟩:=id VT
 have V6:=V3.wide
 have T1:=UY.len
 rw[V6.1]at T1
 have VS:=s b ab
 have bad:∀E aj,¬hd U->a1 X h j E aj->(∃w:Int,y.Z 1= .Z w/\hF w/\(w=0↔hd U))/\a1 X h j E aj:=λE aj ab VQ=>⟨⟨1,rfl, .inr (.inl rfl),(λe=>by cases e),λe=>absurd e ab⟩,VQ⟩
 by_cases U3:U=[]
 ·have C:decide ((U.length:Int)<1)=true:=by simp[U3]
  refine cP @uL @a0 @T1 @C ⟨?_⟩
  exact bad _ _ (λe=>e.ne U3) (a1.refl _ _)
 have WC:0<U.length:=Z6.2 U3
 have C:decide ((U.length:Int)<1)=false:=zJ
 by_cases Up:U.length<=64
 case neg=>
  have Z:decide ((64:Int)<(U.length:Int))=true:=zK
  refine de @uL @a0 @T1 @C @Z ⟨?_⟩
  exact bad _ _ (λe=>Up e.many) (a1.refl _ _)
 have Z:decide ((64:Int)<(U.length:Int))=false:=zJ
 refine de @uL @a0 @T1 @C @Z ⟨?_⟩
 refine cQ (λm B E aj=>∃(H:Nat) (w:Bool),B.g 0=some (.ptr b 0)/\B.g 3=some (.bool w)/\B.g 4=some (.Z (H:Int))/\H+m=U.length/\(w=false↔∀g∈U.take H,hE g)/\a1 X h j E aj)
  U.length ⟨0,false,aK,aK,cA,Zo,Zs,a1.refl _ _⟩ ?_
 rintro m B ay aL ⟨H,w,t0,t3,t4,Vy,G,T6⟩
 have W0:=T6.le
 have UG:W X ay (.ptr b 0)=some ax:=by rw[T6.cZ _ _ VS];exact a0
 cases m with
 |zero=>
  have d:=zv H U.length
  rw[Zt Zo]at G
  cases w with
  |true=>
   refine dw @t4 @t0 @UG @T1 @t3 @d ⟨?_⟩
   exact⟨⟨22,rfl, .inr (.inr rfl),(λe=>by cases e),λe=>by have:=G.2 e.node;cases this⟩,T6⟩
  |false=>
   refine dw @t4 @t0 @UG @T1 @t3 @d ⟨?_⟩
   exact⟨⟨0,rfl, .inl rfl,λ_=>⟨U3,Up,G.1 rfl⟩,λ_=>rfl⟩,T6⟩
 |succ m=>
  have d:=zw H U.length
  have VN:=zz H
  obtain⟨g,US⟩:=zx U H
  have UT:=Zg US
  obtain⟨row,Ve,V2⟩:=V3.get H g US
  have T7:=(V0 g UT).g6
  obtain⟨WE,WF,WG,WH⟩:=(V0 g UT).ap
  have Vs:U.take (H+1)=U.take H++[g]:=by rw[ZG,US];rfl
  have Vi:∀a,P a->J X ay a=J X h a:=λa f=>T6.T a (s a f)
  have VU:=UY.cT H (by rw[V6.1];omega)
  have Vf:=(UY.T Vi).row Zd Ve
  have e2:=V2.cR
  obtain⟨bA,bB,T9,TY,b2,be,b6,c4,Vx,rfl,Uw,Ux,Uy,U8,Uv⟩:=V2
  have T3:¬hE g->¬hd U:=λe UJ=>e (UJ.node g UT)
  have Ua:=Uw.len
  have UD:=Ux.len
  have Ub:=Uy.len
  have V7:=Uv.wide
  have UE:=U8.len
  have VX:=U8.many
  rw[Zn]at Ua UD Ub
  rw[V7.1]at UE VX
  have Uk:ah .add (.Z (g.cl.length:Int)) (.Z (g.out.length:Int))=some (.Z ((g.cl.length+g.out.length:Nat):Int)):=by rw[cx Zo Zo];simp
  have Ul:ah .add (.Z ((g.cl.length+g.out.length:Nat):Int)) (.Z (g.loc.length:Int))=some (.Z ((g.cl.length+g.out.length+g.loc.length:Nat):Int)):=by rw[cx Zo Zo];simp
  refine bs @t4 @t0 @UG @T1 @d @VU @Vf ⟨?_⟩
  refine cD (e8 (o:=6) (b:=aL) (D:=0) (n:=6) (c:=I.ofList [.str [], .Z 0, .az, .az, .az, .az] 0 .nil) (bb Zo) Zo rfl Zd Zd e2) ?_
  generalize UQ:aS X _ aL _=aO
  have U1:J X aO aL=zy [.str g.name, .Z g.at_,bA,bB,T9,TY] 6:=by rw[<-UQ,bb Zo];rfl
  have U2:a1 X h j aO (aL+1):=⟨Zo,λa f=>by rw[<-UQ];simp(disch:=omega) only[aY];exact T6.T a f⟩
  clear UQ
  have Vj:∀a,P a->J X aO a=J X h a:=λa f=>U2.T a (s a f)
  refine bG (ba U1) ⟨?_⟩
  refine mM T0 T7.nm ?_
  cases V1:c7 g.name with
  |false=>
   refine bl ⟨?_⟩
   exact bad _ _ (T3 λe=>by have:=e.nm;rw[V1]at this;cases this) U2
  |true=>
   by_cases UA:g.out=[]
   ·have C:decide ((g.out.length:Int)=0)=true:=by simp[UA]
    refine cz (ba U1) @UD @C ⟨?_⟩
    exact bad _ _ (T3 λe=>e.out UA) U2
   have WB:0<g.out.length:=Z6.2 UA
   have C:decide ((g.out.length:Int)=0)=false:=zJ
   by_cases V5:g.cl.length+g.out.length+g.loc.length<=256
   case neg=>
    have Z:decide ((256:Int)<((g.cl.length+g.out.length+g.loc.length:Nat):Int))=true:=zK
    refine bs (ba U1) @Ua @UD @Ub @Uk @Ul (Za @C @Z) ⟨?_⟩
    exact bad _ _ (T3 λe=>V5 e.vars) U2
   have Z:decide ((256:Int)<((g.cl.length+g.out.length+g.loc.length:Nat):Int))=false:=zJ
   have VL:decide ((4096:Int)<(g.eqs.length:Int))=false:=zJ
   refine bs (ba U1) @Ua @UD @Ub @UE @Uk (Za @Ul (Za @C (Za @Z @VL))) ⟨?_⟩
   have VA:∀d∈g.cl,d∈g.cl++(g.out++g.loc):=λd e=>Z2 _ e
   have VB:∀d∈g.out,d∈g.cl++(g.out++g.loc):=λd e=>ZQ _ (Z2 _ e)
   have VC:∀d∈g.loc,d∈g.cl++(g.out++g.loc):=λd e=>ZQ _ (ZQ _ e)
   refine(tn (P:=P) (j:=aL+1) (h:=aO) T0 Zo (Uw.T Vj) (λa f=>zu (s a f)) (λd e=>T7.decl d (VA d e))).Zm ?_
   rintro N Uh Vl ⟨⟨VI,rfl,Ur⟩,UM⟩
   have W1:=UM.le
   have UK:=U2.trans UM
   have Un:J X Uh aL=zy [.str g.name, .Z g.at_,bA,bB,T9,TY] 6:=by rw[UM.T _ Zo];exact U1
   cases VI with
   |false=>
    refine bl ⟨?_⟩
    exact bad _ _ (T3 λe=>by have:=Ur.2 λd r=>e.decl d (VA d r);cases this) UK
   |true=>
   refine bG (ba Un) ⟨?_⟩
   refine(tn (P:=P) (j:=Vl) (h:=Uh) T0 Zo (Ux.T λa f=>UK.T a (s a f)) (λa f=>zu (s a f)) (λd e=>T7.decl d (VB d e))).Zm ?_
   rintro N Ui Vm ⟨⟨VJ,rfl,Us⟩,UN⟩
   have W2:=UN.le
   have UL:=UK.trans UN
   have Uo:J X Ui aL=zy [.str g.name, .Z g.at_,bA,bB,T9,TY] 6:=by rw[UN.T _ Zo];exact Un
   cases VJ with
   |false=>
    refine bl ⟨?_⟩
    exact bad _ _ (T3 λe=>by have:=Us.2 λd r=>e.decl d (VB d r);cases this) UL
   |true=>
   refine bG (ba Uo) ⟨?_⟩
   refine(tn (P:=P) (j:=Vm) (h:=Ui) T0 Zo (Uy.T λa f=>UL.T a (s a f)) (λa f=>zu (s a f)) (λd e=>T7.decl d (VC d e))).Zm ?_
   rintro N VF VD ⟨⟨VK,rfl,Ut⟩,UO⟩
   have W3:=UO.le
   have Uq:=UL.trans UO
   have VO:J X VF aL=zy [.str g.name, .Z g.at_,bA,bB,T9,TY] 6:=by rw[UO.T _ Zo];exact Uo
   cases VK with
   |false=>
    refine bl ⟨?_⟩
    exact bad _ _ (T3 λe=>by have:=Ut.2 λd r=>e.decl d (VC d r);cases this) Uq
   |true=>
   have VR:hE g↔∀L∈g.eqs,jM L:=⟨λe=>e.eqs,λe=>⟨V1,UA,V5,Zo,λd r=>by
    rcases Zr.1 r with r|r
    ·exact Ur.1 rfl d r
    ·rcases Zr.1 r with r|r
     ·exact Us.1 rfl d r
     ·exact Ut.1 rfl d r,e⟩⟩
   have WA:aL<VD:=Zo
   refine bl ⟨?_⟩
   refine cQ (λT8 B E aj=>∃(o:Nat) (w:Bool),B.g 0=some (.ptr b 0)/\B.g 3=some (.bool w)/\B.g 4=some (.Z (H:Int))/\B.g 5=some (.ptr aL 0)/\B.g 6=some (.Z (o:Int))/\o+T8=g.eqs.length/\(w=false↔(∀g∈U.take H,hE g)/\∀L∈g.eqs.take o,jM L)/\a1 X h j E aj/\VD<=aj/\J X E aL=zy [.str g.name, .Z g.at_,bA,bB,T9,TY] 6)
    g.eqs.length ⟨0,w,an t0,an t3,an t4,aK,cA,Zo,by rw[G];simp,Uq,Zo,VO⟩ ?_
   clear t0 t3 t4 G
   rintro T8 B VG O ⟨o,w,t0,t3,t4,t5,t,Vz,G,U4,W9,UH⟩
   have W4:=U4.le
   cases T8 with
   |zero=>
    have d:=zv o g.eqs.length
    have Vr:g.eqs.take o=g.eqs:=Zt Zo
    rw[Vr]at G
    refine bs @t @t5 @t4 (ba UH) @UE @d @VN ⟨?_⟩
    refine⟨m,Zo,H+1,w,an t0,an t3,aK,Zo, ?_,U4⟩
    rw[G,Vs, <-VR]
    exact⟨λ⟨Vt,Vu⟩ x p=>by
     rcases Zr.1 p with p|p
     ·exact Vt x p
     ·rw[ZF.1 p];exact Vu,λe=>⟨λx p=>e x (Z2 _ p),e g (ZQ _ (ZF.2 rfl))⟩⟩
   |succ T8=>
    have d:=zw o g.eqs.length
    have Um:=zz o
    obtain⟨L,UV⟩:=zx g.eqs o
    have UX:=Zg UV
    obtain⟨WJ,Vd,Vc⟩:=Uv.get o L UV
    have Vk:∀a,P a->J X VG a=J X h a:=λa f=>U4.T a (s a f)
    have VV:=U8.cT o (by rw[V7.1];omega)
    have Vg:=(U8.T Vk).row Zd Vd
    obtain⟨Vq,Vp,Vv,Vw,dB,rfl,UB,WD,VZ,Va⟩:=Vc
    have T2:=UB.len
    have Vb:=UB.many
    rw[show(dt L.left).length=L.left.length from by simp[dt]]at T2 Vb
    have Ud:¬jM L->¬hd U:=λe=>T3 λUJ=>e (UJ.eqs L UX)
    refine bs @t @t5 (ba UH) @UE @d @VV @Vg ⟨?_⟩
    refine cD (e8 (o:=4) (b:=O) (D:=0) (n:=4) (c:=I.ofList [.az, .az, .Z 0, .bC] 0 .nil) (bb Zo) Zo rfl Zd Zd Va) ?_
    generalize U7:aS X _ O _=T4
    have Y:J X T4 O=zy [Vq,Vp, .Z L.at_,dB] 4:=by rw[<-U7,bb Zo];rfl
    have UP:a1 X h j T4 (O+1):=⟨Zo,λa f=>by rw[<-U7];simp(disch:=omega) only[aY];exact U4.T a f⟩
    have UI:J X T4 aL=zy [.str g.name, .Z g.at_,bA,bB,T9,TY] 6:=by rw[<-U7];simp(disch:=omega) only[aY];exact UH
    clear U7
    have V9:∀a,P a->J X T4 a=J X h a:=λa f=>UP.T a (s a f)
    have VE:g.eqs.take (o+1)=g.eqs.take o++[L]:=by rw[ZG,UV];rfl
    refine cU (λT5 E aj=>(∀w∈L.left,c7 w=true)/\T5.g 0=some (.ptr b 0)/\T5.g 3=some (.bool w)/\T5.g 4=some (.Z (H:Int))/\T5.g 5=some (.ptr aL 0)/\T5.g 6=some (.Z (o:Int))/\T5.g 7=some (.ptr O 0)/\E=T4/\aj=O+1) (λWI VW=> ?_) ?_
    ·refine cQ (λm B E aj=>∃(i:Nat),B.g 0=some (.ptr b 0)/\B.g 3=some (.bool w)/\B.g 4=some (.Z (H:Int))/\B.g 5=some (.ptr aL 0)/\B.g 6=some (.Z (o:Int))/\B.g 7=some (.ptr O 0)/\B.g 8=some (.Z (i:Int))/\i+m=L.left.length/\E=T4/\aj=O+1/\∀x∈L.left.take i,c7 x=true)
      L.left.length ⟨0,an t0,an t3,an t4,an t5,an t,aK,cA,Zo,rfl,rfl,Zs⟩ ?_
     clear t0 t3 t4 t5 t
     rintro Uc B Uj Vn ⟨i,t0,t3,t4,t5,t,z,Ue,ak,rfl,rfl,UR⟩
     cases Uc with
     |zero=>
      have d:=zv i L.left.length
      rw[Zt Zo]at UR
      refine de @Ue @z (ba Y) @T2 @d ⟨?_⟩
      exact VW _ _ _ ⟨UR,an t0,an t3,an t4,an t5,an t,an z,rfl,rfl⟩
     |succ Uc=>
      have d:=zw i L.left.length
      have VM:=zz i
      obtain⟨x,p⟩:=zx L.left i
      have V8:=Zg p
      have Uz:=UB.cT i (by simp[dt];omega)
      have Uu:=(UB.T V9).cell i [.str x] 0 (.str x) (by unfold dt;rw[Zw,p];rfl) rfl
      rw[ZV]at Uz
      rw[ZV,ZH]at Uu
      refine bs @Ue @z (ba Y) @T2 @d @Uz @Uu ⟨?_⟩
      refine mM T0 (T7.left L UX x V8) ?_
      cases V4:c7 x with
      |false=>
       refine bl ⟨?_⟩
       exact bad _ _ (Ud λe=>by have:=e.nm x V8;rw[V4]at this;cases this) UP
      |true=>
       refine cn @Ue @VM ⟨?_⟩
       exact⟨Uc,Zo,i+1,an t0,an t3,an t4,an t5,an t,an z,aK,Zo,rfl,rfl,hY p UR V4⟩
    clear t0 t3 t4 t5 t
    rintro B Uj Vn ⟨VY,t0,t3,t4,t5,t,z,rfl,rfl⟩
    refine cn @z (ba Y) ⟨?_⟩
    refine(Gf (P:=P) (j:=O+1) (h:=Uj) T0 Zo (bT.to V9 (λ_ e=>e) _ _ VZ) (λa f=>zu (s a f)) (T7.ex L UX)).Zm ?_
    rintro N VH Vo ⟨⟨TZ,rfl,Vh,UU⟩,U6⟩
    have W5:=U6.le
    rw[<-U6.T _ Zo]at Y
    rw[<-U6.T _ Zo]at UI
    have U5:a1 X h j VH Vo:=UP.trans U6
    by_cases U9:L.left=[]
    ·have U0:decide ((L.left.length:Int)=0)=true:=by simp[U9]
     refine cP @z (ba Y) @T2 @U0 ⟨?_⟩
     exact bad _ _ (Ud λe=>e.ne U9) U5
    have W6:0<L.left.length:=Z6.2 U9
    have U0:decide ((L.left.length:Int)=0)=false:=zJ
    by_cases UZ:TZ=1
    ·have UF:decide (TZ=1)=true:=by simp[UZ]
     refine de @z (ba Y) @T2 @U0 @UF ⟨?_⟩
     exact bad _ _ (Ud λe=>zu (UU.2 e.ex)) U5
    have UF:decide (TZ=1)=false:=by simp[UZ]
    by_cases UC:TZ=0
    ·have Ug:decide (TZ=22)=false:=by simp[UC]
     have UW:jM L:=⟨U9,VY,UU.1 UC⟩
     refine bs @z (ba Y) @T2 @U0 @UF @Ug (Za @t @Um) ⟨?_⟩
     refine⟨T8,Zo,o+1,w,an t0,an t3,an t4,an t5,aK,Zo, ?_,U5,Zo,UI⟩
     rw[G,VE]
     exact⟨λ⟨Uf,e⟩=>⟨Uf,λx p=>by
      rcases Zr.1 p with p|p
      ·exact e x p
      ·rw[ZF.1 p];exact UW⟩,λ⟨Uf,e⟩=>⟨Uf,λx p=>e x (Z2 _ p)⟩⟩
    ·have VP:=A4 Vh UC UZ
     have Ug:decide (TZ=22)=true:=by simp[VP]
     have UW:¬jM L:=λe=>UC (UU.2 e.ex)
     refine bs @z (ba Y) @T2 @U0 @UF @Ug (Za @t @Um) ⟨?_⟩
     refine⟨T8,Zo,o+1,true,an t0,aK,an t4,an t5,aK,Zo, ?_,U5,Zo,UI⟩
     rw[VE]
     exact⟨λe=>(by cases e),λe=>absurd (e.2 L (ZQ _ (ZF.2 rfl))) UW⟩
end
end
end Go.Proofs.YtmipngjbcdamjaaGreatDoor

