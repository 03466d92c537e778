/- Part of the proof of the last text; no conditions -/
import Derived.Test.YtmipngjbcdamjaaGreatDoorYl
set_option maxHeartbeats 8000000
set_option linter.all false
namespace Go.Proofs.YtmipngjbcdamjaaGreatDoor
open Go.Q
set_option maxRecDepth 100000
set_option maxHeartbeats 4000000
noncomputable section
variable (X : bQ) (S : F ac) (nx : Nat) (M ad : be) (a0 aE aW a3 a4 a5 dS dW dA : q)
def wl:Za1:=λa b c d e f=>l (bZ a c .eql 25 true b .bt) λg=>aj (λc d h=>aj (λc d h=>aj (λc d h=>aj (λc d h=>aj (λc d h=>aj (λc d h=>bM (λc=>aj (λd g h=>aj (λd g h=>aj (λd g h=>aj (λd g h=>aj (λd g h=>aj (λd g h=>bM (λc=>aq (λb c d=>aq (λa b c=>N (a 3) λd=>aq (λ_ a b=>e (.Z 0) a b) λf=>aA d (e (.Z 22) b c) (f (I a 129 d) b c)) λg=>cC (λb c d h=>N (c 4) λi=>N (c 0) λj=>l (aY j) λj=>l (ao 0 j) λj=>l (W a d j) λj=>l (bK j) λj=>l (ag .lss i j) λi=>aq (λc d g=>aq (λa c d=>N (a 4) λe=>l (ag .add e (.Z 1)) λe=>b (I a 4 e) c d) λb=>N (c 0) λh=>l (aY h) λh=>l (ao 0 h) λh=>l (W a d h) λh=>N (c 4) λi=>l (bH 6 h i) λh=>l (br a d 6 h) λh=>l (cv [.str [],.Z 0, .aw, .aw, .aw, .aw] g) λi=>cb a d g i.1 i.2 λd g i=>l (bj a g 6 d h) λg=>l (ao 0 d) λh=>l (W a g h) λh=>aJ a 85 [h] g i (λg h i=>l (cY .not g) λg=>aj (λh i j=>aj (λh i j=>aj (λh i j=>aj (λh i j=>bM (λg=>aj (λh i j=>aj (λh i j=>aj (λh i j=>aj (λi j k=>aj (λi j k=>aj (λi j k=>aj (λh i j=>aj (λi j k=>aj (λi j k=>aj (λi j k=>aj (λh i j=>aj (λh i j=>bM (λg=>aj (λh i j=>aj (λh i j=>aj (λh i j=>aj (λh i j=>bM (λg=>aq (λc d g=>N (c 5) λh=>l (ao 2 h) λh=>l (W a d h) λh=>aJ a 86 [h] d g (λd g h=>l (cY .not d) λd=>aj (λg h i=>aj (λg h i=>aj (λg h i=>aj (λg h i=>bM (λd=>aj (λg h i=>aj (λg h i=>aj (λg h i=>aj (λg h i=>bM (λd=>aq (λc d g=>aq b λb=>cC (λc d g h=>N (d 6) λi=>N (d 5) λj=>l (ao 5 j) λj=>l (W a g j) λj=>l (bK j) λj=>l (ag .lss i j) λi=>aq (λb d g=>aq (λa b d=>N (a 6) λe=>l (ag .add e (.Z 1)) λe=>c (I a 6 e) b d) λc=>N (b 5) λh=>l (ao 5 h) λh=>l (W a d h) λh=>N (b 6) λi=>l (bH 4 h i) λh=>l (br a d 4 h) λh=>l (cv [.aw, .aw,.Z 0, .bt] g) λi=>cb a d g i.1 i.2 λd g i=>l (bj a g 4 d h) λg=>aq (λb d g=>N (b 7) λh=>l (ao 3 h) λh=>l (W a d h) λh=>aJ a 87 [h] d g (λd f g=>N (b 7) λh=>l (ao 0 h) λh=>l (W a f h) λa=>l (bK a) λa=>l (ag .eql a (.Z 0)) λa=>aj (λf g h=>aj (λf g h=>bM (λa=>aq (λa b d=>N (a 9) λe=>l (ag .eql e (.Z 22)) λe=>aq c λc=>aA e (c (zC a 128 e 3 .zT) b d) (c (I a 128 e) b d)) λc=>aA a (e (.Z 1) g h) (c (zC b 9 d 126 a) g h)) λb=>aA a (b .zT) (b f)) λb=>ae false a (l (ag .eql f (.Z 1)) λa=>b a g h) (b Q.undef g h)) λb=>ae false a (b d f g) (b Q.undef f g)) f) λc=>cC (λb d g h=>N (d 8) λi=>N (d 7) λj=>l (ao 0 j) λj=>l (W a g j) λj=>l (bK j) λj=>l (ag .lss i j) λi=>aq (λc d g=>aq (λa c d=>N (a 8) λe=>l (ag .add e (.Z 1)) λe=>b (I a 8 e) c d) λb=>N (c 7) λh=>l (ao 0 h) λh=>l (W a d h) λh=>N (c 8) λi=>l (bH 1 h i) λh=>l (W a d h) λh=>aJ a 85 [h] d g (λa d f=>l (cY .not a) λa=>aq b λb=>aA a (e (.Z 1) d f) (b (I c 115 a) d f)) f) λa=>aA i (a (I d 106 i) g h) (c (I d 106 i) g h)) (zC b 7 d 8 (.Z 0)) g i) λa=>aA i (a (I d 94 i) g h) (b (I d 94 i) g h)) (I c 6 (.Z 0)) d g) λa=>aA d (e (.Z 1) h i) (a (I c 89 d) h i)) λa=>aA d (a .zT) (a g)) λa=>ae false d (l (cY .not g) λb=>a b h i) (a Q.undef h i)) λb=>ae false d (aJ a 86 [g] h i (λa c d=>b a c d) f) (b Q.undef h i)) λb=>ae false d (l (W a h g) λa=>b a h i) (b Q.undef h i)) λa=>ae false d (N (c 5) λb=>l (ao 4 b) λb=>a b h i) (a Q.undef h i)) λa=>aA d (a .zT) (a g)) λa=>ae false d (l (cY .not g) λb=>a b h i) (a Q.undef h i)) λb=>ae false d (aJ a 86 [g] h i (λa c d=>b a c d) f) (b Q.undef h i)) λb=>ae false d (l (W a h g) λa=>b a h i) (b Q.undef h i)) λa=>ae false d (N (c 5) λb=>l (ao 3 b) λb=>a b g h) (a Q.undef g h)) f) λa=>aA g (e (.Z 1) i j) (a (zC c 5 d 73 g) i j)) λa=>aA g (a .zT) (a h)) λa=>ae false g (l (ag .gtr h (.Z 4096)) λb=>a b i j) (a Q.undef i j)) λa=>ae false g (l (bK h) λb=>a b i j) (a Q.undef i j)) λb=>ae false g (l (W a i h) λa=>b a i j) (b Q.undef i j)) λa=>ae false g (l (ao 5 d) λb=>a b i j) (a Q.undef i j)) λa=>aA g (a .zT) (a h)) λa=>ae false g (l (ag .gtr h (.Z 256)) λb=>a b i j) (a Q.undef i j)) λa=>ae false g (l (ag .add h i) λb=>a b j k) (a Q.undef j k)) λa=>ae false g (l (bK i) λb=>a b j k) (a Q.undef j k)) λb=>ae false g (l (W a j i) λa=>b a j k) (b Q.undef j k)) λa=>ae false g (l (ao 4 d) λb=>a b i j) (a Q.undef i j)) λa=>ae false g (l (ag .add h i) λb=>a b j k) (a Q.undef j k)) λa=>ae false g (l (bK i) λb=>a b j k) (a Q.undef j k)) λb=>ae false g (l (W a j i) λa=>b a j k) (b Q.undef j k)) λa=>ae false g (l (ao 3 d) λb=>a b i j) (a Q.undef i j)) λa=>ae false g (l (bK h) λb=>a b i j) (a Q.undef i j)) λb=>ae false g (l (W a i h) λa=>b a i j) (b Q.undef i j)) λa=>ae false g (l (ao 2 d) λb=>a b i j) (a Q.undef i j)) λa=>aA g (a .zT) (a h)) λa=>ae false g (l (ag .eql h (.Z 0)) λb=>a b i j) (a Q.undef i j)) λa=>ae false g (l (bK h) λb=>a b i j) (a Q.undef i j)) λb=>ae false g (l (W a i h) λa=>b a i j) (b Q.undef i j)) λa=>ae false g (l (ao 3 d) λb=>a b h i) (a Q.undef h i)) f) λa=>aA i (a (I c 34 i) d h) (g (I c 34 i) d h)) (zC b 3 .zF 4 (.Z 0)) c d) λa=>aA c (e (.Z 1) g h) (a (zC (bN [b]) 2 (.Z 0) 27 c) g h)) λa=>aA c (a .zT) (a d)) λa=>ae false c (l (ag .gtr d (.Z 64)) λb=>a b g h) (a Q.undef g h)) λa=>ae false c (l (bK d) λb=>a b g h) (a Q.undef g h)) λb=>ae false c (l (W a g d) λa=>b a g h) (b Q.undef g h)) λa=>ae false c (l (ao 0 d) λb=>a b g h) (a Q.undef g h)) λa=>ae false c (l (aY d) λb=>a b g h) (a Q.undef g h)) λa=>ae false c (a b d h) (a Q.undef d h)) λa=>aA g (a .zT) (a c)) λa=>ae false g (l (ag .lss c (.Z 1)) λb=>a b d h) (a Q.undef d h)) λa=>ae false g (l (bK c) λb=>a b d h) (a Q.undef d h)) λb=>ae false g (l (W a d c) λa=>b a d h) (b Q.undef d h)) λa=>ae false g (l (ao 0 c) λb=>a b d h) (a Q.undef d h)) λa=>ae false g (l (aY c) λb=>a b d h) (a Q.undef d h)) λa=>ae false g (a b c d) (a Q.undef c d)
def CT:cl X 53 [a0]=wl X a0:=Zk
def CS:b9 X 53 1=true:=Zk
def wJ:Za1:=λa b c d e f=>aq (λ_ a b=>e .zT a b) λg=>cC (λb c d h=>N (c 3) λi=>N (c 0) λj=>l (bK j) λj=>l (ag .lss i j) λi=>aq (λc d g=>aq (λa c d=>N (a 3) λe=>l (ag .add e (.Z 1)) λe=>b (I a 3 e) c d) λb=>N (c 0) λh=>N (c 3) λi=>l (bH 8 h i) λh=>l (br a d 8 h) λh=>l (cv [.str [],.Z 0,.zF,.zF,.Z 0,.str [],.Z 0,.zF] g) λi=>cb a d g i.1 i.2 λd g i=>l (bj a g 8 d h) λg=>l (ao 0 d) λh=>l (W a g h) λh=>aJ a 85 [h] g i (λg h i=>l (cY .not g) λg=>aj (λh i j=>aj (λh i j=>aj (λh i j=>aj (λh i j=>bM (λg=>aj (λh i j=>aj (λh i j=>aj (λh i j=>aj (λh i j=>aj (λi j k=>aj (λi j k=>aj (λf i j=>aj (λf i j=>aj (λf h i=>bM (λf=>aj (λg h i=>aj (λg h i=>aj (λg h i=>aj (λg h i=>aj (λh i j=>aj (λa h i=>aj (λa g h=>bM (λa=>aq b λb=>aA a (e .zF g h) (b (zC c 4 d 44 a) g h)) λb=>aA f (b .zT) (b a)) λb=>ae false f (bM (λa=>b a h i) λb=>aA g (b a) (b .zF)) (b Q.undef h i)) λb=>ae true g (l (W a i h) λa=>b a i j) (b Q.undef i j)) λa=>ae true g (l (ao 7 d) λb=>a b h i) (a Q.undef h i)) λa=>ae false f (a g h i) (a Q.undef h i)) λb=>ae false f (l (bZ a h .eql 9 true g (.str [])) λa=>b a h i) (b Q.undef h i)) λb=>ae false f (l (W a h g) λa=>b a h i) (b Q.undef h i)) λa=>ae false f (l (ao 5 d) λb=>a b h i) (a Q.undef h i)) λa=>aA g (a .zT) (a f)) λa=>ae false g (bM (λb=>a b i j) λa=>aA h (a f) (a .zF)) (a Q.undef i j)) λa=>ae true h (l (cY .not f) λb=>a b i j) (a Q.undef i j)) λb=>ae true h (aJ a 85 [i] j k (λa c d=>b a c d) f) (b Q.undef j k)) λb=>ae true h (l (W a j i) λa=>b a j k) (b Q.undef j k)) λa=>ae true h (l (ao 5 d) λb=>a b i j) (a Q.undef i j)) λa=>ae false g (a h i j) (a Q.undef i j)) λb=>ae false g (l (bZ a i .neq 9 true h (.str [])) λa=>b a i j) (b Q.undef i j)) λb=>ae false g (l (W a i h) λa=>b a i j) (b Q.undef i j)) λa=>ae false g (l (ao 5 d) λb=>a b i j) (a Q.undef i j)) λa=>aA g (a .zT) (a h)) λa=>ae false g (l (cY .not h) λb=>a b i j) (a Q.undef i j)) λb=>ae false g (aJ a 113 [h] i j (λa c d=>b a c d) f) (b Q.undef i j)) λb=>ae false g (l (br a i 3 h) λa=>b a i j) (b Q.undef i j)) λa=>ae false g (l (ao 2 d) λb=>a b h i) (a Q.undef h i)) f) λa=>aA i (a (I c 8 i) d h) (g (I c 8 i) d h)) (zC (bN [b]) 2 .zF 3 (.Z 0)) c d
def DB:cl X 86 [a0]=wJ X a0:=Zk
def DA:b9 X 86 1=true:=Zk
def wK:Za1:=λa b c d e f=>aJ a 114 [b,.Z 200] c d (λc d g=>aq (λb c d=>N (b 0) λg=>aJ a 115 [g] c d (λa c d=>l (ag .gtr a (.Z 200)) λa=>aq (λ_ a b=>e (.Z 0) a b) λf=>aA a (e (.Z 22) c d) (f (I b 7 a) c d)) f) λa=>aA c (e (.Z 1) d g) (a (zC (bN [b]) 2 (.Z 0) 4 c) d g)) f
def DD:cl X 87 [a0]=wK X a0:=Zk
def DC:b9 X 87 1=true:=Zk
def vB:Za1:=λa b c d e _=>eR a c d b λc d f=>l (ao 0 c) λg=>l (W a d g) λg=>aq (λb c d=>N (b 1) λf=>l (ao 2 f) λf=>l (W a c f) λf=>l (ag .geq f (.Z 1)) λf=>aj (λb c d=>aj (λa b c=>aj (λa b c=>bM (λa=>e a b c) λb=>aA f (b a) (b .zF)) λd=>ae true f (l (ag .leq a (.Z 64)) λa=>d a b c) (d Q.undef b c)) λe=>ae true f (l (W a c b) λa=>e a c d) (e Q.undef c d)) λa=>ae true f (N (b 1) λb=>l (ao 2 b) λb=>a b c d) (a Q.undef c d)) λh=>aA g (l (ao 1 c) λb=>l (W a d b) λb=>l (cY .not b) λb=>aj (λc d f=>aj (λa c d=>aj (λa c d=>bM (λa=>e a c d) λc=>aA b (c a) (c .zF)) λe=>ae true b (l (ag .eql a (.Z 1)) λa=>e a c d) (e Q.undef c d)) λe=>ae true b (l (W a d c) λa=>e a d f) (e Q.undef d f)) λa=>ae true b (l (ao 2 c) λb=>a b d f) (a Q.undef d f)) (h (zD (bN [b]) 1 c 2 .zF 4 g) d f)
def BL:cl X 113 [a0]=vB X a0:=Zk
def BK:b9 X 113 1=true:=Zk
def sW:Za0:=λa b c d e f g=>aJ a 134 [b] d e (λd e h=>l (cY .not d) λd=>aq (λb c d=>aq (λ_ a b=>f .zF a b) λe=>cC (λb c d h=>N (c 5) λi=>N (c 0) λj=>l (aY j) λj=>l (ao 8 j) λj=>l (W a d j) λj=>l (bK j) λj=>l (ag .lss i j) λi=>aj (λd h j=>aj (λd h j=>bM (λd=>aq (λc d e=>aq (λa c d=>N (a 5) λe=>l (ag .add e (.Z 1)) λe=>b (I a 5 e) c d) λb=>N (c 0) λh=>l (aY h) λh=>l (ao 8 h) λh=>l (W a d h) λh=>N (c 5) λi=>l (bH 1 h i) λh=>l (W a d h) λh=>N (c 1) λi=>l (ag .sub i (.Z 1)) λi=>aJ a 114 [h,i] d e (λa d e=>aq b λb=>aA a (f .zT d e) (b (I c 31 a) d e)) g) λa=>aA d (a (I c 19 d) h j) (e (I c 19 d) h j)) λa=>aA i (a d) (a .zF)) λa=>ae true i (l (ag .gtr d (.Z 0)) λb=>a b h j) (a Q.undef h j)) λa=>ae true i (N (c 1) λb=>a b d h) (a Q.undef d h)) (I b 5 (.Z 0)) c d) λa=>aA d (f .zT e h) (a (zC (bN [b,c]) 4 .zF 8 d) e h)) g
def vD:cl X 114 [a0,aE]=sW X a0 aE:=Zk
def vC:b9 X 114 2=true:=Zk
def vE:Za1:=λa b c d e f=>aJ a 135 [b,.Z 201] c d (λa b c=>e a b c) f
def BN:cl X 115 [a0]=vE X a0:=Zk
def BM:b9 X 115 1=true:=Zk
def vI:Za1:=λa b c d e f=>l (bZ a c .eql 73 true b .bt) λg=>aj (λc d h=>aj (λc d h=>aj (λc d h=>aj (λc d h=>aj (λc d h=>bM (λc=>aj (λd g h=>aj (λd g h=>aj (λd g h=>aj (λd g h=>aj (λd g h=>bM (λc=>aq (λb c d=>N (b 0) λg=>l (aY g) λg=>l (ao 0 g) λg=>l (W a c g) λg=>aJ a 159 [g] c d (λc d g=>l (ag .geq c (.Z 0)) λh=>aj (λd g i=>aj (λd g i=>aj (λd g i=>aj (λd g i=>aj (λd g i=>aj (λg i j=>aj (λd g i=>bM (λd=>aq (λb c d=>aq (λb c d=>N (b 0) λg=>l (aY g) λg=>l (ao 0 g) λg=>l (W a c g) λg=>l (ag .eql g (.Z 2)) λg=>aj (λc d h=>aj (λc d h=>aj (λc d h=>aj (λc d h=>aj (λc d h=>bM (λc=>aj (λd g h=>aj (λd g h=>aj (λd g h=>aj (λd g h=>aj (λd g h=>bM (λc=>aj (λd g h=>aj (λd g h=>aj (λd g h=>aj (λd g h=>aj (λd g h=>bM (λc=>aj (λd g h=>aj (λd g h=>aj (λd g h=>aj (λd g h=>aj (λd g h=>aj (λd g h=>bM (λd=>aj (λg h i=>aj (λg h i=>aj (λg h i=>aj (λh i j=>aj (λh i j=>aj (λh i j=>aj (λh i j=>aj (λh i j=>aj (λg h i=>bM (λd=>aq (λb c d=>N (b 0) λg=>l (aY g) λg=>l (ao 3 g) λg=>l (W a c g) λg=>aj (λc d h=>aj (λc d h=>aj (λc d h=>aj (λc d h=>aj (λc d h=>bM (λc=>aq (λb c d=>l (cq [.zF,.zF,.Z 0] []) λg=>l (cv [.zF,.zF,.Z 0] d) λh=>cb a c d h.1 h.2 λc d h=>l (bj a d 3 c g) λd=>N (b 0) λg=>l (aY g) λg=>l (ao 0 g) λg=>l (W a d g) λg=>l (ag .eql g (.Z 1)) λg=>aj (λd h i=>aj (λd h i=>aj (λd h i=>aj (λd h i=>aj (λd h i=>bM (λd=>df (i+21) λg=>b1 (λh i=>b1 (λh i=>b1 (λh i=>b1 (λh i=>aj (λg h i=>b1 (λg h=>bM (λg=>b1 (λh j=>b1 (λh j=>b1 (λh j=>b1 (λj k=>b1 (λj k=>b1 (λj k=>b1 (λj k=>b1 (λk m=>b1 (λj k=>b1 (λh j=>bM (λg=>aq (λb c d=>N (b 0) λg=>l (aY g) λg=>l (ao 0 g) λg=>l (W a c g) λg=>l (ag .eql g (.Z 1)) λg=>aj (λc d h=>aj (λc d h=>aj (λc d h=>aj (λc d h=>aj (λc d h=>bM (λc=>aj (λd g h=>aj (λd g h=>aj (λd g h=>aj (λd g h=>aj (λd g h=>bM (λc=>l (cY .not c) λd=>aj (λg h i=>aj (λg h i=>aj (λg h i=>aj (λg h i=>aj (λg h i=>bM (λd=>aj (λg h i=>aj (λg h i=>aj (λg h i=>aj (λg h i=>aj (λg h i=>aj (λg h i=>aj (λh i j=>aj (λh i j=>aj (λh i j=>aj (λh i j=>aj (λh i j=>aj (λg h i=>aj (λg h i=>aj (λh i j=>aj (λh i j=>aj (λh i j=>aj (λh i j=>aj (λh i j=>aj (λg h i=>bM (λd=>aq (λb c d=>N (b 0) λg=>l (aY g) λg=>l (ao 0 g) λg=>l (W a c g) λg=>l (ag .eql g (.Z 1)) λg=>aq (λb c d=>N (b 0) λf=>l (aY f) λf=>l (ao 0 f) λf=>l (W a c f) λf=>l (ag .eql f (.Z 21)) λf=>aq (λ_ a b=>e .zT a b) λg=>aA f (N (b 0) λb=>l (aY b) λb=>l (ao 8 b) λb=>l (W a c b) λb=>l (bH 1 b (.Z 0)) λb=>l (W a c b) λb=>l (aY b) λf=>l (ao 0 f) λf=>l (W a c f) λf=>l (ag .eql f (.Z 1)) λf=>aj (λc d g=>aj (λc d g=>aj (λc d g=>aj (λc d g=>aj (λc d g=>aj (λc d g=>aj (λd g h=>aj (λd g h=>aj (λd g h=>aj (λd g h=>aj (λd g h=>aj (λd g h=>aj (λc d g=>aj (λc d g=>aj (λd g h=>aj (λd g h=>aj (λd g h=>aj (λd g h=>aj (λd g h=>aj (λd g h=>aj (λd g h=>aj (λc d g=>aj (λc d g=>aj (λb d g=>aj (λb d g=>aj (λb d g=>aj (λb d g=>aj (λb d g=>aj (λb d g=>aj (λb d g=>aj (λb d g=>aj (λa b d=>aj (λa b d=>aj (λa b c=>bM (λa=>e a b c) λb=>aA f (b .zT) (b a)) λe=>ae false f (bM (λa=>e a b d) λb=>aA c (b a) (b .zF)) (e Q.undef b d)) λe=>ae true c (l (ag .eql a (.Z 1)) λa=>e a b d) (e Q.undef b d)) λe=>ae true c (l (W a d b) λa=>e a d g) (e Q.undef d g)) λa=>ae true c (l (ao 0 b) λb=>a b d g) (a Q.undef d g)) λa=>ae true c (l (aY b) λb=>a b d g) (a Q.undef d g)) λe=>ae true c (l (W a d b) λa=>e a d g) (e Q.undef d g)) λa=>ae true c (l (bH 1 b (.Z 0)) λb=>a b d g) (a Q.undef d g)) λe=>ae true c (l (W a d b) λa=>e a d g) (e Q.undef d g)) λa=>ae true c (l (ao 8 b) λb=>a b d g) (a Q.undef d g)) λa=>ae true c (l (aY b) λb=>a b d g) (a Q.undef d g)) λa=>ae true c (a b d g) (a Q.undef d g)) λa=>ae false f (a c d g) (a Q.undef d g)) λa=>ae false f (bM (λb=>a b g h) λa=>aA c (a d) (a .zF)) (a Q.undef g h)) λb=>ae true c (l (bZ a g .neq 73 true d .bt) λa=>b a g h) (b Q.undef g h)) λb=>ae true c (l (W a g d) λa=>b a g h) (b Q.undef g h)) λa=>ae true c (l (bH 1 d (.Z 0)) λb=>a b g h) (a Q.undef g h)) λb=>ae true c (l (W a g d) λa=>b a g h) (b Q.undef g h)) λa=>ae true c (l (ao 8 d) λb=>a b g h) (a Q.undef g h)) λa=>ae true c (l (aY d) λb=>a b g h) (a Q.undef g h)) λa=>ae true c (a b d g) (a Q.undef d g)) λa=>ae false f (a c d g) (a Q.undef d g)) λa=>ae false f (bM (λb=>a b g h) λa=>aA c (a d) (a .zF)) (a Q.undef g h)) λa=>ae true c (l (ag .eql d (.Z 1)) λb=>a b g h) (a Q.undef g h)) λa=>ae true c (l (bK d) λb=>a b g h) (a Q.undef g h)) λb=>ae true c (l (W a g d) λa=>b a g h) (b Q.undef g h)) λa=>ae true c (l (ao 8 d) λb=>a b g h) (a Q.undef g h)) λa=>ae true c (l (aY d) λb=>a b g h) (a Q.undef g h)) λa=>ae true c (a b d g) (a Q.undef d g)) λa=>ae false f (a c d g) (a Q.undef d g)) λa=>ae false f (l (ag .eql c (.Z 4)) λb=>a b d g) (a Q.undef d g)) λb=>ae false f (l (W a d c) λa=>b a d g) (b Q.undef d g)) λa=>ae false f (l (ao 0 c) λb=>a b d g) (a Q.undef d g)) λa=>ae false f (l (aY c) λb=>a b d g) (a Q.undef d g)) λa=>ae false f (a b c d) (a Q.undef c d)) (g (I b 217 f) c d)) λh=>aA g (df (d+10) λd=>N (b 0) λg=>l (aY g) λg=>l (ao 4 g) λg=>l (br a c 3 g) λg=>N (b 0) λb=>l (aY b) λb=>l (ao 7 b) λb=>l (W a c b) λb=>aJ a 160 [g,b] c d (λa b c=>e a b c) f) (h (I b 203 g) c d)) λa=>aA d (e .zF h i) (a (zC b 8 c 198 d) h i)) λa=>aA d (a .zT) (a g)) λa=>ae false d (bM (λb=>a b i j) λa=>aA g (a h) (a .zF)) (a Q.undef i j)) λa=>ae true g (l (ag .gtr h (.int .u64 63)) λb=>a b i j) (a Q.undef i j)) λb=>ae true g (l (W a i h) λa=>b a i j) (b Q.undef i j)) λa=>ae true g (l (ao 7 h) λb=>a b i j) (a Q.undef i j)) λa=>ae true g (l (aY h) λb=>a b i j) (a Q.undef i j)) λa=>ae true g (N (b 0) λb=>a b h i) (a Q.undef h i)) λa=>ae false d (a g h i) (a Q.undef h i)) λa=>ae false d (bM (λb=>a b i j) λa=>aA g (a .zT) (a h)) (a Q.undef i j)) λa=>ae false g (l (ag .eql h (.Z 20)) λb=>a b i j) (a Q.undef i j)) λb=>ae false g (l (W a i h) λa=>b a i j) (b Q.undef i j)) λa=>ae false g (l (ao 0 h) λb=>a b i j) (a Q.undef i j)) λa=>ae false g (l (aY h) λb=>a b i j) (a Q.undef i j)) λa=>ae false g (N (b 0) λb=>a b h i) (a Q.undef h i)) λa=>ae false d (a g h i) (a Q.undef h i)) λa=>ae false d (l (ag .eql g (.Z 19)) λb=>a b h i) (a Q.undef h i)) λb=>ae false d (l (W a h g) λa=>b a h i) (b Q.undef h i)) λa=>ae false d (l (ao 0 g) λb=>a b h i) (a Q.undef h i)) λa=>ae false d (l (aY g) λb=>a b h i) (a Q.undef h i)) λa=>ae false d (N (b 0) λb=>a b h i) (a Q.undef h i)) λa=>aA d (a g) (a .zF)) λa=>ae true d (l (ag .neq g (.int .u64 0)) λb=>a b h i) (a Q.undef h i)) λb=>ae true d (l (W a h g) λa=>b a h i) (b Q.undef h i)) λa=>ae true d (l (ao 7 g) λb=>a b h i) (a Q.undef h i)) λa=>ae true d (l (aY g) λb=>a b h i) (a Q.undef h i)) λa=>ae true d (N (b 0) λb=>a b g h) (a Q.undef g h)) λa=>aA c (a .zT) (a d)) λa=>ae false c (l (ag .eql d (.Z 20)) λb=>a b g h) (a Q.undef g h)) λb=>ae false c (l (W a g d) λa=>b a g h) (b Q.undef g h)) λa=>ae false c (l (ao 0 d) λb=>a b g h) (a Q.undef g h)) λa=>ae false c (l (aY d) λb=>a b g h) (a Q.undef g h)) λa=>ae false c (N (b 0) λb=>a b d h) (a Q.undef d h)) λa=>aA g (a .zT) (a c)) λa=>ae false g (l (ag .eql c (.Z 19)) λb=>a b d h) (a Q.undef d h)) λb=>ae false g (l (W a d c) λa=>b a d h) (b Q.undef d h)) λa=>ae false g (l (ao 0 c) λb=>a b d h) (a Q.undef d h)) λa=>ae false g (l (aY c) λb=>a b d h) (a Q.undef d h)) λa=>ae false g (N (b 0) λb=>a b c d) (a Q.undef c d)) λa=>aA g (e .zF j i) (a (zD b 6 c 7 d 149 g) j i)) λa=>aA g (a .zT) (a h)) λa=>ae false g (bM (λb=>a b k) λa=>aA h (a j) (a .zF)) (a Q.undef k)) λb=>ae true h (l (bZ a m .neq 50 false j k) λa=>b a m) (b Q.undef m)) λb=>ae true h (l (br a k 3 c) λa=>b a k) (b Q.undef k)) λb=>ae true h (l (br a k 3 j) λa=>b a k) (b Q.undef k)) λa=>ae true h (l (ao 4 j) λb=>a b k) (a Q.undef k)) λa=>ae true h (l (aY j) λb=>a b k) (a Q.undef k)) λa=>ae true h (N (b 0) λb=>a b j) (a Q.undef j)) λa=>ae false g (a h j) (a Q.undef j)) λa=>ae false g (l (cY .not h) λb=>a b j) (a Q.undef j)) λa=>ae false g (a d h) (a Q.undef h)) λa=>aA d (a g) (a .zF)) λa=>ae true d (l (cY .not g) λb=>a b h) (a Q.undef h)) λb=>ae true d (aJ a 113 [h] i g (λa c d=>b a c d) f) (b Q.undef i g)) λb=>ae true d (l (br a i 3 h) λa=>b a i) (b Q.undef i)) λa=>ae true d (l (ao 4 h) λb=>a b i) (a Q.undef i)) λa=>ae true d (l (aY h) λb=>a b i) (a Q.undef i)) λa=>ae true d (N (b 0) λb=>a b h) (a Q.undef h)) λa=>aA g (a .zT) (a d)) λa=>ae false g (l (ag .eql d (.Z 26)) λb=>a b h i) (a Q.undef h i)) λb=>ae false g (l (W a h d) λa=>b a h i) (b Q.undef h i)) λa=>ae false g (l (ao 0 d) λb=>a b h i) (a Q.undef h i)) λa=>ae false g (l (aY d) λb=>a b h i) (a Q.undef h i)) λa=>ae false g (N (b 0) λb=>a b d h) (a Q.undef d h)) λa=>aA c (e .zF d h) (a (I b 115 c) d h)) λa=>aA g (a c) (a .zF)) λa=>ae true g (l (ag .neq c (.Z 6)) λb=>a b d h) (a Q.undef d h)) λb=>ae true g (l (W a d c) λa=>b a d h) (b Q.undef d h)) λa=>ae true g (l (ao 0 c) λb=>a b d h) (a Q.undef d h)) λa=>ae true g (l (aY c) λb=>a b d h) (a Q.undef d h)) λa=>ae true g (N (b 0) λb=>a b c d) (a Q.undef c d)) λa=>aA d (e .zF h i) (a (zC b 5 c 104 d) h i)) λa=>aA d (a .zT) (a g)) λa=>ae false d (bM (λb=>a b i j) λa=>aA g (a h) (a .zF)) (a Q.undef i j)) λb=>ae true g (l (bZ a i .neq 9 true h (.str [])) λa=>b a i j) (b Q.undef i j)) λb=>ae true g (l (W a i h) λa=>b a i j) (b Q.undef i j)) λa=>ae true g (l (ao 2 h) λb=>a b i j) (a Q.undef i j)) λa=>ae true g (l (aY h) λb=>a b i j) (a Q.undef i j)) λa=>ae true g (N (b 0) λb=>a b h i) (a Q.undef h i)) λa=>ae false d (a g h i) (a Q.undef h i)) λa=>ae false d (l (cY .not g) λb=>a b h i) (a Q.undef h i)) λa=>ae false d (a c g h) (a Q.undef g h)) λa=>aA c (a d) (a .zF)) λa=>ae true c (l (cY .not d) λb=>a b g h) (a Q.undef g h)) λb=>ae true c (aJ a 85 [d] g h (λa c d=>b a c d) f) (b Q.undef g h)) λb=>ae true c (l (W a g d) λa=>b a g h) (b Q.undef g h)) λa=>ae true c (l (ao 2 d) λb=>a b g h) (a Q.undef g h)) λa=>ae true c (l (aY d) λb=>a b g h) (a Q.undef g h)) λa=>ae true c (N (b 0) λb=>a b g h) (a Q.undef g h)) λa=>aA c (a .zT) (a d)) λa=>ae false c (l (ag .eql d (.Z 25)) λb=>a b g h) (a Q.undef g h)) λb=>ae false c (l (W a g d) λa=>b a g h) (b Q.undef g h)) λa=>ae false c (l (ao 0 d) λb=>a b g h) (a Q.undef g h)) λa=>ae false c (l (aY d) λb=>a b g h) (a Q.undef g h)) λa=>ae false c (N (b 0) λb=>a b g h) (a Q.undef g h)) λa=>aA c (a .zT) (a d)) λa=>ae false c (l (ag .eql d (.Z 24)) λb=>a b g h) (a Q.undef g h)) λb=>ae false c (l (W a g d) λa=>b a g h) (b Q.undef g h)) λa=>ae false c (l (ao 0 d) λb=>a b g h) (a Q.undef g h)) λa=>ae false c (l (aY d) λb=>a b g h) (a Q.undef g h)) λa=>ae false c (N (b 0) λb=>a b d h) (a Q.undef d h)) λa=>aA g (a .zT) (a c)) λa=>ae false g (l (ag .eql c (.Z 6)) λb=>a b d h) (a Q.undef d h)) λb=>ae false g (l (W a d c) λa=>b a d h) (b Q.undef d h)) λa=>ae false g (l (ao 0 c) λb=>a b d h) (a Q.undef d h)) λa=>ae false g (l (aY c) λb=>a b d h) (a Q.undef d h)) λa=>ae false g (N (b 0) λb=>a b c d) (a Q.undef c d)) λf=>cC (λb c d g=>N (c 4) λh=>N (c 0) λi=>l (aY i) λi=>l (ao 8 i) λi=>l (W a d i) λi=>l (bK i) λi=>l (ag .lss h i) λh=>aq (λc d f=>aq (λa c d=>N (a 4) λe=>l (ag .add e (.Z 1)) λe=>b (I a 4 e) c d) λb=>N (c 0) λg=>l (aY g) λg=>l (ao 8 g) λg=>l (W a d g) λg=>N (c 4) λh=>l (bH 1 g h) λg=>l (W a d g) λg=>l (bZ a d .eql 73 true g .bt) λa=>aq b λb=>aA a (e .zF d f) (b (I c 58 a) d f)) λa=>aA h (a (I c 48 h) d g) (f (I c 48 h) d g)) (I b 4 (.Z 0)) c d) λa=>aA d (e .zF g i) (a (zC b 3 c 41 d) g i)) λa=>aA h (a d) (a .zF)) λa=>ae true h (l (ag .neq d g) λb=>a b i j) (a Q.undef i j)) λa=>ae true h (a c g i) (a Q.undef g i)) λa=>ae true h (l (bK d) λb=>a b g i) (a Q.undef g i)) λb=>ae true h (l (W a g d) λa=>b a g i) (b Q.undef g i)) λa=>ae true h (l (ao 8 d) λb=>a b g i) (a Q.undef g i)) λa=>ae true h (l (aY d) λb=>a b g i) (a Q.undef g i)) λa=>ae true h (N (b 0) λb=>a b d g) (a Q.undef d g)) f) λa=>aA c (e .zF g h) (a (zC (bN [b]) 2 .zF 25 c) g h)) λa=>aA c (a .zT) (a d)) λa=>ae false c (l (ag .gtr d (.Z 26)) λb=>a b g h) (a Q.undef g h)) λb=>ae false c (l (W a g d) λa=>b a g h) (b Q.undef g h)) λa=>ae false c (l (ao 0 d) λb=>a b g h) (a Q.undef g h)) λa=>ae false c (l (aY d) λb=>a b g h) (a Q.undef g h)) λa=>ae false c (a b d h) (a Q.undef d h)) λa=>aA g (a .zT) (a c)) λa=>ae false g (l (ag .lss c (.Z 1)) λb=>a b d h) (a Q.undef d h)) λb=>ae false g (l (W a d c) λa=>b a d h) (b Q.undef d h)) λa=>ae false g (l (ao 0 c) λb=>a b d h) (a Q.undef d h)) λa=>ae false g (l (aY c) λb=>a b d h) (a Q.undef d h)) λa=>ae false g (a b c d) (a Q.undef c d)
def BX:cl X 134 [a0]=vI X a0:=Zk
def BW:b9 X 134 1=true:=Zk
def sX:Za0:=λa b c d e f g=>l (bZ a d .eql 73 true b .bt) λh=>aj (λd e i=>aj (λd e i=>bM (λd=>aq (λb c d=>aq (λa b c=>N (a 5) λa=>l (ag .add a (.Z 1)) λa=>f a b c) λe=>cC (λb c d f=>N (c 6) λh=>N (c 0) λi=>l (aY i) λi=>l (ao 8 i) λi=>l (W a d i) λi=>l (bK i) λi=>l (ag .lss h i) λh=>aq (λc d e=>aq (λa c d=>N (a 6) λe=>l (ag .add e (.Z 1)) λe=>b (I a 6 e) c d) λb=>N (c 0) λf=>l (aY f) λf=>l (ao 8 f) λf=>l (W a d f) λf=>N (c 6) λh=>l (bH 1 f h) λf=>l (W a d f) λf=>N (c 1) λh=>l (ag .sub h (.Z 1)) λh=>aJ a 135 [f,h] d e (λa d e=>N (c 5) λf=>l (ag .gtr a f) λf=>aq b λb=>aA f (b (zD c 7 a 35 f 5 a) d e) (b (zC c 7 a 35 f) d e)) g) λa=>aA h (a (I c 20 h) d f) (e (I c 20 h) d f)) (zC b 5 (.Z 0) 6 (.Z 0)) c d) λa=>aA d (f (.Z 0) e i) (a (zC (bN [b,c]) 4 (.Z 0) 13 d) e i)) λa=>aA h (a .zT) (a d)) λa=>ae false h (l (ag .eql d (.Z 0)) λb=>a b e i) (a Q.undef e i)) λa=>ae false h (a c d e) (a Q.undef d e)
def vK:cl X 135 [a0,aE]=sX X a0 aE:=Zk
def vJ:b9 X 135 2=true:=Zk
def vN:Za1:=λ_ a b c d _=>aq (λ_ a b=>d (.Z 2) a b) λe=>l (ag .eql a (.Z 1)) λf=>aq (λa b c=>N (a 4) λf=>aq e λe=>aA f (d (.Z 0) b c) (N (a 3) λf=>l (ag .eql f (.Z 3)) λf=>aq (λa b c=>N (a 7) λf=>aq e λe=>aA f (d (.Z 1) b c) (N (a 3) λf=>l (ag .eql f (.Z 23)) λf=>aq e λe=>aA f (d (.Z 3) b c) (N (a 3) λg=>l (ag .eql g (.Z 25)) λg=>aq e λe=>aA g (d (.Z (-1)) b c) (e (zC a 15 f 17 g) b c)))) λd=>aA f (d (I a 7 f) b c) (N (a 3) λe=>l (ag .eql e (.Z 4)) λe=>aq d λd=>aA e (d (zC a 7 f 7 e) b c) (N (a 3) λg=>l (ag .eql g (.Z 5)) λg=>aq d λd=>aA g (d (zD a 7 f 7 e 7 g) b c) (N (a 3) λh=>l (ag .eql h (.Z 6)) λh=>aq d λd=>aA h (d (zE a 7 f 7 e 7 g 7 h) b c) (N (a 3) λi=>l (ag .eql i (.Z 19)) λi=>aq d λd=>aA i (d (I (zE a 7 f 7 e 7 g 7 h) 7 i) b c) (N (a 3) λj=>l (ag .eql j (.Z 20)) λj=>aq d λd=>aA j (d (zC (zE a 7 f 7 e 7 g 7 h) 7 i 7 j) b c) (N (a 3) λk=>l (ag .eql k (.Z 26)) λk=>d (zD (zE a 7 f 7 e 7 g 7 h) 7 i 7 j 7 k) b c)))))))) λd=>aA f (d (zD (bN [a]) 2 (.Z 0) 3 a 4 f) b c) (l (ag .eql a (.Z 2)) λe=>d (zE (bN [a]) 2 (.Z 0) 3 a 4 f 4 e) b c)
def B1:cl X 159 [a0]=vN X a0:=Zk
def B0:b9 X 159 1=true:=Zk
def vP:Za0:=λa b c d e f _=>eR a d e b λd e g=>l (ao 2 d) λh=>l (W a e h) λh=>l (ao 1 d) λi=>l (W a e i) λa=>aq (λa b c=>aq (λa b c=>N (a 1) λa=>l (ag .eql a (.int .u64 0)) λa=>f a b c) λd=>cC (λa b c e=>N (b 6) λf=>N (b 5) λg=>l (ag .lss f g) λf=>aq (λb c d=>aq (λb c d=>N (b 6) λe=>l (ag .add e (.Z 1)) λe=>a (I b 6 e) c d) λa=>N (b 1) λe=>l (ag .quo e (.int .u64 2)) λe=>a (I b 1 e) c d) λa=>aA f (a (I b 15 f) c e) (d (I b 15 f) c e)) (I a 6 (.Z 0)) b c) λf=>aA a (l (ag .sub h (.Z 1)) λi=>f (I (zE (bN [b,c]) 2 d 4 .zF 5 h 10 a) 5 i) e g) (f (zE (bN [b,c]) 2 d 4 .zF 5 h 10 a) e g)
def B5:cl X 160 [a0,aE]=vP X a0 aE:=Zk
def B4:b9 X 160 2=true:=Zk
end
end Go.Proofs.YtmipngjbcdamjaaGreatDoor

namespace Go.Proofs.YtmipngjbcdamjaaGreatDoor
open Go.Q Go.a6
noncomputable section
def oi(k:Int):Int:=(l2 k).elim (-1) λm=>(m:Int)
section
variable{X:bQ}{S B cE ay aM:F ac}{nx nx' aG aL bw:Nat}{bm d0 P:Nat->Prop}
def GP{x:Int}(d:0<=x)(f:x<18446744073709551616):ag .quo (.int .u64 x) (.int .u64 2)=some (.int .u64 (x/2)):=by
 have a:x.tdiv 2=x/2:=by rw[Int.tdiv_eq_ediv_of_nonneg d]
 have b:hV .u64 (x/2)=x/2:=LC Zo Zo
 have c:ag .quo (.int .u64 x) (.int .u64 2)=some (.int .u64 (hV .u64 (x.tdiv 2))):=by
  simp[ag,fK,f0,fH,fm]
 rw[c,a,b]
set_option maxRecDepth 100000 in
def ut(d:dR X)(t:d7)(f:(o X).aN<=nx):aJ X 113 [.agg (eP t)] S nx (λL B nx'=>L= .bool (eu t)/\aX X S nx B nx') zG:=by
 refine zB d.todV (BK X) ?_
 rw[BL]
 unfold vB eP
 obtain⟨b,s,w⟩:=t
 cases b with
 |true=>
  cases s with
  |true=>
   refine bh ⟨?_⟩
   exact⟨by simp[eu],dJ⟩
  |false=>
   refine bh ⟨?_⟩
   exact⟨by simp[eu],dJ⟩
 |false=>
  cases s
  all_goals
   by_cases a:1<=w
   ·have c:decide ((1:Int)<=w)=true:=by simp[a]
    refine bB @c ⟨?_⟩
    exact⟨by simp[eu,a],dJ⟩
   ·have c:decide ((1:Int)<=w)=false:=by simp[a]
    refine bB @c ⟨?_⟩
    exact⟨by simp[eu,a],dJ⟩
def GG{n:Int}(E:Nat):n/2^E/2=n/2^(E+1):=by
 rw[Int.ediv_ediv_of_nonneg (by exact Int.le_of_lt (Int.pow_pos Zd)),Int.pow_succ]
def Jh{n:Int}(a:0<=n)(b:n<18446744073709551616)(E:Nat):0<=n/2^E/\n/2^E<18446744073709551616:=by
 have c:(0:Int)<2^E:=Int.pow_pos Zd
 exact⟨Int.ediv_nonneg a (Int.le_of_lt c),Int.lt_of_le_of_lt (Int.ediv_le_self _ a) b⟩
set_option maxRecDepth 100000 in
def F4(Z:dR X)(t:d7){n:Int}(v:0<=n)(G:n<18446744073709551616)(T1:eu t=true)(T2:(o X).aN<=nx):aJ X 160 [.agg (eP t), .int .u64 n] S nx (λL B nx'=>L= .bool (decide (n<2^(fI t).toNat))/\aX X S nx B nx') zG:=by
 refine zB Z.todV (B4 X) ?_
 rw[B5]
 unfold vP eP
 have T8:=yN T1
 have z:=xp v (fI t).toNat
 have s:decide (n/2^(fI t).toNat=0)=decide (n<2^(fI t).toNat):=by rw[decide_eq_decide];exact z
 obtain⟨bT,a,T7⟩:∃bT:Nat,fI t=(bT:Int)/\bT<=64:=⟨(fI t).toNat,by unfold fI;split<;>omega,by unfold fI;split<;>omega⟩
 have P:(fI t).toNat=bT:=Zo
 rw[P]at s ⊢
 refine l6 ?_
 generalize r:aP X S nx _=ay
 have b:H X ay nx=zy [.bool t.b, .bool t.s, .Z t.w] 3:=by rw[<-r,a7 T2];rfl
 have O:aX X S nx ay (nx+1):=by rw[<-r];exact dJ
 clear r
 have T:W X ay (.ptr nx 1)=some (.bool t.s):=by rw[aZ b];rfl
 apply kN
 ·intro w
  cases i:t.s with
  |true=>
   rw[i]at T b
   have f:ag .sub (.Z t.w) (.Z 1)=some (.Z (bT:Int)):=by rw[g0 Zo Zo];unfold fI at a;rw[i]at a;simp only[ZP]at a;rw[a]
   refine c3 (aZ b) @T @f ⟨?_⟩
   refine cQ (λc B ah=>c.g 1=some (.int .u64 n)/\c.g 5=some (.Z (bT:Int))/\B=ay/\ah=nx+1) (λE g=> ?_) ?_
   ·refine bB @f ⟨?_⟩
    exact g _ _ _ ⟨aI,aI,rfl,rfl⟩
   exact w.out
  |false=>
   rw[i]at T b
   have T3:t.w=(bT:Int):=by unfold fI at a;rw[i]at a;simpa using a
   rw[T3]at b
   refine tT (aZ b) @T ⟨?_⟩
   refine cQ (λc B ah=>c.g 1=some (.int .u64 n)/\c.g 5=some (.Z (bT:Int))/\B=ay/\ah=nx+1) (λE g=> ?_) ?_
   ·refine bh ⟨?_⟩
    exact g _ _ _ ⟨aI,aI,rfl,rfl⟩
   exact w.out
 rintro y aM aL ⟨p,t5,rfl,rfl⟩
 refine bh ⟨?_⟩
 refine cM (λm y B ah=>∃(E:Nat),y.g 1=some (.int .u64 (n/2^E))/\y.g 5=some (.Z (bT:Int))/\y.g 6=some (.Z (E:Int))/\E+m=bT/\B=aM/\ah=nx+1)
  bT ⟨0,by refine oD ⟨?_⟩;rw[p];simp,al t5,cx,Zo,rfl,rfl⟩ ?_
 rintro m y T6 T9 ⟨E,p,t5,x,g,rfl,rfl⟩
 cases m with
 |zero=>
  have d:=zv E bT
  have T0:E=bT:=Zo
  subst T0
  refine cV @x @t5 @p @d ⟨?_⟩
  exact⟨by rw[s],O⟩
 |succ m=>
  have d:=zw E bT
  have f:=zz E
  obtain⟨T4,T5⟩:=Jh v G E
  have C:ag .quo (.int .u64 (n/2^E)) (.int .u64 2)=some (.int .u64 (n/2^(E+1))):=by rw[GP T4 T5,GG]
  refine dp @x @t5 @p @d @f @C ⟨?_⟩
  exact⟨m,Zo,E+1,aI,al t5,aI,Zo,rfl,rfl⟩
set_option maxRecDepth 100000 in
def Ei(O:dR X){k:Int}(P:1<=k)(Z:k<=26):aJ X 159 [.Z k] S nx (λL B nx'=>L= .Z (oi k)/\B=S/\nx'=nx) zG:=by
 refine zB O.todV (B0 X) ?_
 rw[B1]
 unfold vN
 by_cases bc:k=1
 ·have a:decide (k=1)=true:=by rw[bc];rfl
  have c:decide (k=2)=false:=by rw[bc];rfl
  have m:decide (k=3)=false:=by rw[bc];rfl
  have n:decide (k=4)=false:=by rw[bc];rfl
  have p:decide (k=5)=false:=by rw[bc];rfl
  have r:decide (k=6)=false:=by rw[bc];rfl
  have b:decide (k=19)=false:=by rw[bc];rfl
  have d:decide (k=20)=false:=by rw[bc];rfl
  have i:decide (k=26)=false:=by rw[bc];rfl
  have f:decide (k=23)=false:=by rw[bc];rfl
  have g:decide (k=25)=false:=by rw[bc];rfl
  refine bo @a @c @m @n @p @r (Za @b (Za @d (Za @i (Za @f @g)))) ⟨?_⟩
  exact⟨by rw[bc];rfl,rfl,rfl⟩
 by_cases bl:k=2
 ·have a:decide (k=1)=false:=by rw[bl];rfl
  have c:decide (k=2)=true:=by rw[bl];rfl
  have m:decide (k=3)=false:=by rw[bl];rfl
  have n:decide (k=4)=false:=by rw[bl];rfl
  have p:decide (k=5)=false:=by rw[bl];rfl
  have r:decide (k=6)=false:=by rw[bl];rfl
  have b:decide (k=19)=false:=by rw[bl];rfl
  have d:decide (k=20)=false:=by rw[bl];rfl
  have i:decide (k=26)=false:=by rw[bl];rfl
  have f:decide (k=23)=false:=by rw[bl];rfl
  have g:decide (k=25)=false:=by rw[bl];rfl
  refine bo @a @c @m @n @p @r (Za @b (Za @d (Za @i (Za @f @g)))) ⟨?_⟩
  exact⟨by rw[bl];rfl,rfl,rfl⟩
 by_cases x:k=3
 ·have a:decide (k=1)=false:=by rw[x];rfl
  have c:decide (k=2)=false:=by rw[x];rfl
  have m:decide (k=3)=true:=by rw[x];rfl
  have n:decide (k=4)=false:=by rw[x];rfl
  have p:decide (k=5)=false:=by rw[x];rfl
  have r:decide (k=6)=false:=by rw[x];rfl
  have b:decide (k=19)=false:=by rw[x];rfl
  have d:decide (k=20)=false:=by rw[x];rfl
  have i:decide (k=26)=false:=by rw[x];rfl
  have f:decide (k=23)=false:=by rw[x];rfl
  have g:decide (k=25)=false:=by rw[x];rfl
  refine bo @a @c @m @n @p @r (Za @b (Za @d (Za @i (Za @f @g)))) ⟨?_⟩
  exact⟨by rw[x];rfl,rfl,rfl⟩
 by_cases z:k=4
 ·have a:decide (k=1)=false:=by rw[z];rfl
  have c:decide (k=2)=false:=by rw[z];rfl
  have m:decide (k=3)=false:=by rw[z];rfl
  have n:decide (k=4)=true:=by rw[z];rfl
  have p:decide (k=5)=false:=by rw[z];rfl
  have r:decide (k=6)=false:=by rw[z];rfl
  have b:decide (k=19)=false:=by rw[z];rfl
  have d:decide (k=20)=false:=by rw[z];rfl
  have i:decide (k=26)=false:=by rw[z];rfl
  have f:decide (k=23)=false:=by rw[z];rfl
  have g:decide (k=25)=false:=by rw[z];rfl
  refine bo @a @c @m @n @p @r (Za @b (Za @d (Za @i (Za @f @g)))) ⟨?_⟩
  exact⟨by rw[z];rfl,rfl,rfl⟩
 by_cases C:k=5
 ·have a:decide (k=1)=false:=by rw[C];rfl
  have c:decide (k=2)=false:=by rw[C];rfl
  have m:decide (k=3)=false:=by rw[C];rfl
  have n:decide (k=4)=false:=by rw[C];rfl
  have p:decide (k=5)=true:=by rw[C];rfl
  have r:decide (k=6)=false:=by rw[C];rfl
  have b:decide (k=19)=false:=by rw[C];rfl
  have d:decide (k=20)=false:=by rw[C];rfl
  have i:decide (k=26)=false:=by rw[C];rfl
  have f:decide (k=23)=false:=by rw[C];rfl
  have g:decide (k=25)=false:=by rw[C];rfl
  refine bo @a @c @m @n @p @r (Za @b (Za @d (Za @i (Za @f @g)))) ⟨?_⟩
  exact⟨by rw[C];rfl,rfl,rfl⟩
 by_cases G:k=6
 ·have a:decide (k=1)=false:=by rw[G];rfl
  have c:decide (k=2)=false:=by rw[G];rfl
  have m:decide (k=3)=false:=by rw[G];rfl
  have n:decide (k=4)=false:=by rw[G];rfl
  have p:decide (k=5)=false:=by rw[G];rfl
  have r:decide (k=6)=true:=by rw[G];rfl
  have b:decide (k=19)=false:=by rw[G];rfl
  have d:decide (k=20)=false:=by rw[G];rfl
  have i:decide (k=26)=false:=by rw[G];rfl
  have f:decide (k=23)=false:=by rw[G];rfl
  have g:decide (k=25)=false:=by rw[G];rfl
  refine bo @a @c @m @n @p @r (Za @b (Za @d (Za @i (Za @f @g)))) ⟨?_⟩
  exact⟨by rw[G];rfl,rfl,rfl⟩
 by_cases gI:k=19
 ·have a:decide (k=1)=false:=by rw[gI];rfl
  have c:decide (k=2)=false:=by rw[gI];rfl
  have m:decide (k=3)=false:=by rw[gI];rfl
  have n:decide (k=4)=false:=by rw[gI];rfl
  have p:decide (k=5)=false:=by rw[gI];rfl
  have r:decide (k=6)=false:=by rw[gI];rfl
  have b:decide (k=19)=true:=by rw[gI];rfl
  have d:decide (k=20)=false:=by rw[gI];rfl
  have i:decide (k=26)=false:=by rw[gI];rfl
  have f:decide (k=23)=false:=by rw[gI];rfl
  have g:decide (k=25)=false:=by rw[gI];rfl
  refine bo @a @c @m @n @p @r (Za @b (Za @d (Za @i (Za @f @g)))) ⟨?_⟩
  exact⟨by rw[gI];rfl,rfl,rfl⟩
 by_cases s:k=20
 ·have a:decide (k=1)=false:=by rw[s];rfl
  have c:decide (k=2)=false:=by rw[s];rfl
  have m:decide (k=3)=false:=by rw[s];rfl
  have n:decide (k=4)=false:=by rw[s];rfl
  have p:decide (k=5)=false:=by rw[s];rfl
  have r:decide (k=6)=false:=by rw[s];rfl
  have b:decide (k=19)=false:=by rw[s];rfl
  have d:decide (k=20)=true:=by rw[s];rfl
  have i:decide (k=26)=false:=by rw[s];rfl
  have f:decide (k=23)=false:=by rw[s];rfl
  have g:decide (k=25)=false:=by rw[s];rfl
  refine bo @a @c @m @n @p @r (Za @b (Za @d (Za @i (Za @f @g)))) ⟨?_⟩
  exact⟨by rw[s];rfl,rfl,rfl⟩
 by_cases w:k=26
 ·have a:decide (k=1)=false:=by rw[w];rfl
  have c:decide (k=2)=false:=by rw[w];rfl
  have m:decide (k=3)=false:=by rw[w];rfl
  have n:decide (k=4)=false:=by rw[w];rfl
  have p:decide (k=5)=false:=by rw[w];rfl
  have r:decide (k=6)=false:=by rw[w];rfl
  have b:decide (k=19)=false:=by rw[w];rfl
  have d:decide (k=20)=false:=by rw[w];rfl
  have i:decide (k=26)=true:=by rw[w];rfl
  have f:decide (k=23)=false:=by rw[w];rfl
  have g:decide (k=25)=false:=by rw[w];rfl
  refine bo @a @c @m @n @p @r (Za @b (Za @d (Za @i (Za @f @g)))) ⟨?_⟩
  exact⟨by rw[w];rfl,rfl,rfl⟩
 by_cases t:k=23
 ·have a:decide (k=1)=false:=by rw[t];rfl
  have c:decide (k=2)=false:=by rw[t];rfl
  have m:decide (k=3)=false:=by rw[t];rfl
  have n:decide (k=4)=false:=by rw[t];rfl
  have p:decide (k=5)=false:=by rw[t];rfl
  have r:decide (k=6)=false:=by rw[t];rfl
  have b:decide (k=19)=false:=by rw[t];rfl
  have d:decide (k=20)=false:=by rw[t];rfl
  have i:decide (k=26)=false:=by rw[t];rfl
  have f:decide (k=23)=true:=by rw[t];rfl
  have g:decide (k=25)=false:=by rw[t];rfl
  refine bo @a @c @m @n @p @r (Za @b (Za @d (Za @i (Za @f @g)))) ⟨?_⟩
  exact⟨by rw[t];rfl,rfl,rfl⟩
 by_cases v:k=25
 ·have a:decide (k=1)=false:=by rw[v];rfl
  have c:decide (k=2)=false:=by rw[v];rfl
  have m:decide (k=3)=false:=by rw[v];rfl
  have n:decide (k=4)=false:=by rw[v];rfl
  have p:decide (k=5)=false:=by rw[v];rfl
  have r:decide (k=6)=false:=by rw[v];rfl
  have b:decide (k=19)=false:=by rw[v];rfl
  have d:decide (k=20)=false:=by rw[v];rfl
  have i:decide (k=26)=false:=by rw[v];rfl
  have f:decide (k=23)=false:=by rw[v];rfl
  have g:decide (k=25)=true:=by rw[v];rfl
  refine bo @a @c @m @n @p @r (Za @b (Za @d (Za @i (Za @f @g)))) ⟨?_⟩
  exact⟨by rw[v];rfl,rfl,rfl⟩
 have a:decide (k=1)=false:=by simp[bc]
 have c:decide (k=2)=false:=by simp[bl]
 have m:decide (k=3)=false:=by simp[x]
 have n:decide (k=4)=false:=by simp[z]
 have p:decide (k=5)=false:=by simp[C]
 have r:decide (k=6)=false:=by simp[G]
 have b:decide (k=19)=false:=by simp[gI]
 have d:decide (k=20)=false:=by simp[s]
 have i:decide (k=26)=false:=by simp[w]
 have f:decide (k=23)=false:=by simp[t]
 have g:decide (k=25)=false:=by simp[v]
 refine bo @a @c @m @n @p @r (Za @b (Za @d (Za @i (Za @f @g)))) ⟨?_⟩
 exact⟨by simp[oi,l2, *],rfl,rfl⟩
set_option maxRecDepth 100000 in
def tm(w:dR X){b:Nat}{au:q}{ds:List bv}(UE:(o X).aN<=nx)(O:cg X S P b au 8 (ds.map bO))(U4:∀c,P c->c<nx)(U7:∀d∈ds,iq d):
 aJ X 86 [au] S nx (λL B nx'=>(∃f:Bool,L= .bool f/\(f=true↔∀d∈ds,ja d))/\aX X S nx B nx') zG:=by
 refine zB w.todV (DA X) ?_
 rw[DB]
 unfold wJ
 have T3:=O.len
 have U9:=O.many
 rw[Zn]at T3 U9
 refine bh ⟨?_⟩
 refine cM (λm y B ah=>∃(E:Nat),y.g 0=some au/\y.g 3=some (.Z (E:Int))/\E+m=ds.length/\aX X S nx B ah/\∀x∈ds.take E,ja x)
  ds.length ⟨0,aI,cx,Zo,aX.refl _ _,Zs⟩ ?_
 rintro m y ay aG ⟨E,t0,t3,UB,v,z⟩
 have UC:=v.le
 cases m with
 |zero=>
  have d:=zv E ds.length
  rw[Zt Zo]at z
  refine cV @t3 @t0 @T3 @d ⟨?_⟩
  exact⟨⟨true,rfl,λ_=>z,λ_=>rfl⟩,v⟩
 |succ m=>
  have U2:=zw E ds.length
  have T7:=zz E
  obtain⟨d,C⟩:=zx ds E
  have TY:=Zg C
  have TZ:=U7 d TY
  have U6:=O.cP E (by rw[Zn];omega)
  have U1:=(O.R (λc T6=>v.R c (U4 c T6))).row (i:=E) (r:=bO d) Zd (by rw[Zw,C];rfl)
  have U5:bO d=[.str d.name, .Z d.at_, .bool d.ty.b, .bool d.ty.s, .Z d.ty.w, .str d.on, .Z d.dg, .bool d.no]:=rfl
  rw[U5]at U1
  refine dp @t3 @t0 @T3 @U2 @U6 @U1 ⟨?_⟩
  generalize T2:aP X _ aG _=aM
  have g:H X aM aG=zy [.str d.name, .Z d.at_, .bool d.ty.b, .bool d.ty.s, .Z d.ty.w, .str d.on, .Z d.dg, .bool d.no] 8:=by rw[<-T2,a7 Zo];rfl
  have T9:aX X S nx aM (aG+1):=⟨Zo,λc T6=>by rw[<-T2];simp(disch:=omega) only[aV];exact v.R c T6⟩
  clear T2
  have bad:∀B ah,¬ja d->aX X S nx B ah->(∃f:Bool,q.bool false= .bool f/\(f=true↔∀d∈ds,ja d))/\aX X S nx B ah:=λB ah Y U3=>⟨⟨false,rfl,(λe=>by cases e),λe=>absurd (e d TY) Y⟩,U3⟩
  refine bB (aZ g) ⟨?_⟩
  refine mI w TZ.nm ?_
  cases T4:c4 d.name with
  |false=>
   refine bh ⟨?_⟩
   exact bad _ _ (λe=>by have:=e.nm;rw[T4]at this;cases this) T9
  |true=>
   have UF:eP d.ty=[.bool d.ty.b, .bool d.ty.s, .Z d.ty.w]:=rfl
   have U8:br X aM 3 (.ptr aG 2)=some (.agg (eP d.ty)):=by rw[hm,aZ g,aZ g,aZ g];rfl
   refine bB @U8 ⟨?_⟩
   refine(ut (nx:=aG+1) (S:=aM) w d.ty Zo).Zm ?_
   rintro L p UA ⟨rfl,T1⟩
   have UD:=T1.le
   have T8:H X p aG=zy [.str d.name, .Z d.at_, .bool d.ty.b, .bool d.ty.s, .Z d.ty.w, .str d.on, .Z d.dg, .bool d.no] 8:=by rw[T1.R _ Zo];exact g
   have n:aX X S nx p UA:=T9.trans T1
   have T0:W X p (.ptr aG 5)=some (.str d.on):=by rw[aZ T8];rfl
   have Z:W X p (.ptr aG 7)=some (.bool d.no):=by rw[aZ T8];rfl
   cases T5:eu d.ty with
   |false=>
    refine bh ⟨?_⟩
    exact bad _ _ (λe=>by have:=e.ty;rw[T5]at this;cases this) n
   |true=>
    by_cases a:d.on=[]
    ·have s:decide (d.on≠[])=false:=by simp[a]
     have t:decide (d.on=[])=true:=by simp[a]
     cases G:d.no with
     |true=>
      rw[G]at Z
      refine cV @T0 @s @t @Z ⟨?_⟩
      exact bad _ _ (λe=>by have:=e.no a;rw[G]at this;cases this) n
     |false=>
      rw[G]at Z
      refine dp @T0 @s @t @Z @t3 @T7 ⟨?_⟩
      exact⟨m,Zo,E+1,al t0,aI,Zo,n,hT C z ⟨T4,T5,λe=>absurd a e,λ_=>G⟩⟩
    ·have s:decide (d.on≠[])=true:=by simp[a]
     have t:decide (d.on=[])=false:=by simp[a]
     refine ci @T0 @s ⟨?_⟩
     refine mI w TZ.on ?_
     cases U0:c4 d.on with
     |false=>
      refine bh ⟨?_⟩
      exact bad _ _ (λe=>by have:=e.on a;rw[U0]at this;cases this) n
     |true=>
      refine cV @T0 @t @t3 @T7 ⟨?_⟩
      exact⟨m,Zo,E+1,al t0,aI,Zo,n,hT C z ⟨T4,T5,λ_=>U0,λe=>absurd e a⟩⟩
end
section
variable{X:bQ}{S B cE ay aM:F ac}{nx nx' aG aL bw:Nat}{bm d0 P:Nat->Prop}
def nN(b:Nat):bZ X S .eql 73 true (.ptr b 0) .bt=some .zF:=Zk
def sh:bZ X S .eql 73 true .bt .bt=some .zT:=Zk
def Ai(b:Nat):bZ X S .neq 73 true (.ptr b 0) .bt=some .zT:=Zk
def Jc:bZ X S .neq 73 true .bt .bt=some .zF:=Zk
set_option maxRecDepth 100000 in
def yE(U3:dR X){j:bg}{v:q}(Vn:(o X).aN<=nx)(V7:bR X S P j v)(V4:∀T0,P T0->T0<nx)(UM:mU j):
 aJ X 134 [v] S nx (λL B nx'=>(∃U5:Bool,L= .bool U5/\(U5=true↔gQ j))/\aX X S nx B nx') zG:=by
 refine zB U3.todV (BW X) ?_
 rw[BX]
 unfold vI
 have bad:∀B ah,¬gQ j->aX X S nx B ah->(∃U5:Bool,q.bool false= .bool U5/\(U5=true↔gQ j))/\aX X S nx B ah:=λB ah Y VK=>⟨⟨false,rfl,(λe=>by cases e),λe=>absurd e Y⟩,VK⟩
 have U0:=aX.refl (C:=o X) S nx
 by_cases V8:j.kind= -1
 ·have VW:=V7.nil V8
  subst VW
  refine bB @sh ⟨?_⟩
  exact bad _ _ (λe=>zu e.bc) U0
 obtain⟨b,au,bL,aB,rfl,Y,a0,aE,aW,a3,a4,a5,dS,dW,dA,Uk,has⟩:=V7.root V8
 have Uh:=V4 b Y
 by_cases bc:j.kind<1
 ·have p:decide (j.kind<1)=true:=by simp only[Zc];exact bc
  refine cw @nN @a0 @p ⟨?_⟩
  exact bad _ _ (λe=>zu e.bc) U0
 have p:decide (j.kind<1)=false:=by simp only[Zb];exact bc
 by_cases bl:26<j.kind
 ·have n:decide ((26:Int)<j.kind)=true:=by simp only[Zc];exact bl
  refine cV @nN @a0 @p @n ⟨?_⟩
  exact bad _ _ (λe=>zu e.bl) U0
 have n:decide ((26:Int)<j.kind)=false:=by simp only[Zb];exact bl
 have UD:=Uk.len
 have VU:=Uk.many
 have VO:=has.len
 rw[Zn,VO]at UD VU
 refine cV @nN @a0 @p @n ⟨?_⟩
 refine(Ei U3 Zo Zo).Zm ?_
 rintro L ay aG ⟨rfl,rfl,rfl⟩
 obtain⟨TZ,U1⟩:∃TZ:Int,oi j.kind=TZ:=⟨_,rfl⟩
 rw[U1]
 by_cases Ug:0<=TZ/\(j.args.length:Int)≠TZ
 ·have UR:decide ((0:Int)<=TZ)=true:=by simp only[Zc];exact Ug.1
  have Us:decide ((j.args.length:Int)≠TZ)=true:=by simp only[Zc];exact Ug.2
  refine cV @UR @dA @UD @Us ⟨?_⟩
  refine bad _ _ (λe=> ?_) U0
  cases T9:l2 j.kind with
  |none=>unfold oi at U1;rw[T9]at U1;simp only[Option.elim]at U1;omega
  |some m=>unfold oi at U1;rw[T9]at U1;simp only[Option.elim]at U1;have:=e.w3 m T9;omega
 have V6:∀m,l2 j.kind=some m->j.args.length=m:=λm T9=>by
  unfold oi at U1
  rw[T9]at U1
  simp only[Option.elim]at U1
  by_cases e:(j.args.length:Int)=TZ
  ·omega
  ·exact absurd ⟨Zo,e⟩ Ug
 apply kN
 ·intro G
  by_cases Uu:0<=TZ
  ·have UR:decide ((0:Int)<=TZ)=true:=by simp only[Zc];exact Uu
   have Us:decide ((j.args.length:Int)≠TZ)=false:=by simp only[Zb];exact λe=>Ug ⟨Uu,e⟩
   refine c3 @UR @dA (Za @UD @Us) ⟨?_⟩
   refine cQ (λf B ah=>f.g 0=some (.ptr b 0)/\B=ay/\ah=aG) (λE g=> ?_) ?_
   ·refine bh ⟨?_⟩
    exact g _ _ _ ⟨aI,rfl,rfl⟩
   exact G.out
  ·have UR:decide ((0:Int)<=TZ)=false:=by simp only[Zb];exact Uu
   refine c3 @UR @dA @UD ⟨?_⟩
   refine cQ (λf B ah=>f.g 0=some (.ptr b 0)/\B=ay/\ah=aG) (λE g=> ?_) ?_
   ·refine bh ⟨?_⟩
    exact g _ _ _ ⟨aI,rfl,rfl⟩
   exact G.out
 rintro y aM aL ⟨t0,rfl,rfl⟩
 refine cQ (λf B ah=>(∀a∈j.args,a.kind≠ -1)/\f.g 0=some (.ptr b 0)/\B=aM/\ah=aL) (λE g=> ?_) ?_
 ·refine cM (λm y B ah=>∃(i:Nat),y.g 0=some (.ptr b 0)/\y.g 4=some (.Z (i:Int))/\i+m=j.args.length/\B=aM/\ah=aL/\∀x∈j.args.take i,x.kind≠ -1)
   j.args.length ⟨0,al t0,cx,Zo,rfl,rfl,Zs⟩ ?_
  rintro m y UE UO ⟨i,t0,t4,ai,rfl,rfl,Ux⟩
  cases m with
  |zero=>
   have d:=zv i j.args.length
   rw[Zt Zo]at Ux
   refine db @t4 @t0 @dA @UD @d ⟨?_⟩
   exact g _ _ _ ⟨Ux,al t0,rfl,rfl⟩
  |succ m=>
   have d:=zw i j.args.length
   have T8:=zz i
   obtain⟨a,Uw⟩:=zx j.args i
   obtain⟨Vl,VN,V5⟩:=has.get i a Uw
   obtain⟨Ur,U4,Vj⟩:=Uk.one VN
   by_cases Uf:a.kind= -1
   ·have VM:=V5.nil Uf
    subst VM
    refine bo @t4 @t0 @dA @UD @d @Ur (Za @U4 @sh) ⟨?_⟩
    exact bad _ _ (λe=>e.gr a (Zg Uw) Uf) U0
   ·obtain⟨cJ,_,_,_,rfl,_⟩:=V5.root Uf
    refine bo @t4 @t0 @dA @UD @d @Ur (Za @U4 (Za @nN @T8)) ⟨?_⟩
    exact⟨m,Zo,i+1,al t0,aI,Zo,rfl,rfl,hT Uw Ux Uf⟩
 clear t0
 rintro y UE UO ⟨VB,t0,rfl,rfl⟩
 apply kN
 ·intro G
  have U2:eG j.kind↔(j.kind=2\/j.kind=6\/j.kind=24\/j.kind=25):=Iff.rfl
  by_cases c:j.kind=2
  ·have n:decide (j.kind=2)=true:=by rw[c];rfl
   have w:decide (j.kind=6)=false:=by rw[c];rfl
   have s:decide (j.kind=24)=false:=by rw[c];rfl
   have t:decide (j.kind=25)=false:=by rw[c];rfl
   have T4:eG j.kind:=by rw[U2];omega
   refine c3 @t0 @a0 (Za @n (Za @w (Za @s (Za @t @aW)))) ⟨?_⟩
   refine mI U3 UM.nm ?_
   cases TY:c4 j.name with
   |false=>
    refine bo @t0 @a0 @n @w @s @t @aW ⟨?_⟩
    exact bad _ _ (λe=>by have:=e.nm T4;rw[TY]at this;cases this) U0
   |true=>
    refine c3 @t0 @a0 (Za @n (Za @w (Za @s (Za @t @aW)))) ⟨?_⟩
    refine cQ (λf B ah=>((eG j.kind->c4 j.name=true)/\(¬eG j.kind->j.name=[]))/\f.g 0=some (.ptr b 0)/\B=UE/\ah=UO) (λE g=> ?_) ?_
    ·refine bo @t0 @a0 @n @w @s @t @aW ⟨?_⟩
     exact g _ _ _ ⟨⟨λ_=>TY,λe=>absurd T4 e⟩,al t0,rfl,rfl⟩
    exact G.out
  by_cases c:j.kind=6
  ·have n:decide (j.kind=2)=false:=by rw[c];rfl
   have w:decide (j.kind=6)=true:=by rw[c];rfl
   have s:decide (j.kind=24)=false:=by rw[c];rfl
   have t:decide (j.kind=25)=false:=by rw[c];rfl
   have T4:eG j.kind:=by rw[U2];omega
   refine c3 @t0 @a0 (Za @n (Za @w (Za @s (Za @t @aW)))) ⟨?_⟩
   refine mI U3 UM.nm ?_
   cases TY:c4 j.name with
   |false=>
    refine bo @t0 @a0 @n @w @s @t @aW ⟨?_⟩
    exact bad _ _ (λe=>by have:=e.nm T4;rw[TY]at this;cases this) U0
   |true=>
    refine c3 @t0 @a0 (Za @n (Za @w (Za @s (Za @t @aW)))) ⟨?_⟩
    refine cQ (λf B ah=>((eG j.kind->c4 j.name=true)/\(¬eG j.kind->j.name=[]))/\f.g 0=some (.ptr b 0)/\B=UE/\ah=UO) (λE g=> ?_) ?_
    ·refine bo @t0 @a0 @n @w @s @t @aW ⟨?_⟩
     exact g _ _ _ ⟨⟨λ_=>TY,λe=>absurd T4 e⟩,al t0,rfl,rfl⟩
    exact G.out
  by_cases c:j.kind=24
  ·have n:decide (j.kind=2)=false:=by rw[c];rfl
   have w:decide (j.kind=6)=false:=by rw[c];rfl
   have s:decide (j.kind=24)=true:=by rw[c];rfl
   have t:decide (j.kind=25)=false:=by rw[c];rfl
   have T4:eG j.kind:=by rw[U2];omega
   refine c3 @t0 @a0 (Za @n (Za @w (Za @s (Za @t @aW)))) ⟨?_⟩
   refine mI U3 UM.nm ?_
   cases TY:c4 j.name with
   |false=>
    refine bo @t0 @a0 @n @w @s @t @aW ⟨?_⟩
    exact bad _ _ (λe=>by have:=e.nm T4;rw[TY]at this;cases this) U0
   |true=>
    refine c3 @t0 @a0 (Za @n (Za @w (Za @s (Za @t @aW)))) ⟨?_⟩
    refine cQ (λf B ah=>((eG j.kind->c4 j.name=true)/\(¬eG j.kind->j.name=[]))/\f.g 0=some (.ptr b 0)/\B=UE/\ah=UO) (λE g=> ?_) ?_
    ·refine bo @t0 @a0 @n @w @s @t @aW ⟨?_⟩
     exact g _ _ _ ⟨⟨λ_=>TY,λe=>absurd T4 e⟩,al t0,rfl,rfl⟩
    exact G.out
  by_cases c:j.kind=25
  ·have n:decide (j.kind=2)=false:=by rw[c];rfl
   have w:decide (j.kind=6)=false:=by rw[c];rfl
   have s:decide (j.kind=24)=false:=by rw[c];rfl
   have t:decide (j.kind=25)=true:=by rw[c];rfl
   have T4:eG j.kind:=by rw[U2];omega
   refine c3 @t0 @a0 (Za @n (Za @w (Za @s (Za @t @aW)))) ⟨?_⟩
   refine mI U3 UM.nm ?_
   cases TY:c4 j.name with
   |false=>
    refine bo @t0 @a0 @n @w @s @t @aW ⟨?_⟩
    exact bad _ _ (λe=>by have:=e.nm T4;rw[TY]at this;cases this) U0
   |true=>
    refine c3 @t0 @a0 (Za @n (Za @w (Za @s (Za @t @aW)))) ⟨?_⟩
    refine cQ (λf B ah=>((eG j.kind->c4 j.name=true)/\(¬eG j.kind->j.name=[]))/\f.g 0=some (.ptr b 0)/\B=UE/\ah=UO) (λE g=> ?_) ?_
    ·refine bo @t0 @a0 @n @w @s @t @aW ⟨?_⟩
     exact g _ _ _ ⟨⟨λ_=>TY,λe=>absurd T4 e⟩,al t0,rfl,rfl⟩
    exact G.out
  have T4:¬eG j.kind:=by rw[U2];omega
  have n:decide (j.kind=2)=false:=zJ
  have w:decide (j.kind=6)=false:=zJ
  have s:decide (j.kind=24)=false:=zJ
  have t:decide (j.kind=25)=false:=zJ
  by_cases Uj:j.name=[]
  ·have Z:decide (j.name≠[])=false:=by simp[Uj]
   refine c3 @t0 @a0 (Za @n (Za @w (Za @s (Za @t (Za @aW @Z))))) ⟨?_⟩
   refine cQ (λf B ah=>((eG j.kind->c4 j.name=true)/\(¬eG j.kind->j.name=[]))/\f.g 0=some (.ptr b 0)/\B=UE/\ah=UO) (λE g=> ?_) ?_
   ·refine bo @t0 @a0 @n @w @s @t (Za @aW @Z) ⟨?_⟩
    exact g _ _ _ ⟨⟨λe=>absurd e T4,λ_=>Uj⟩,al t0,rfl,rfl⟩
   exact G.out
  ·have Z:decide (j.name≠[])=true:=by simp[Uj]
   refine bo @t0 @a0 @n @w @s @t (Za @aW @Z) ⟨?_⟩
   exact bad _ _ (λe=>Uj (e.yT T4)) U0
 clear t0
 rintro y UF V0 ⟨⟨Vd,Ve⟩,t0,rfl,rfl⟩
 have VV:eP j.ty=[.bool j.ty.b, .bool j.ty.s, .Z j.ty.w]:=rfl
 have V3:∀B,(∀T0,T0<V0->H X B T0=H X UF T0)->br X B 3 (.ptr b 4)=some (.agg (eP j.ty))/\W X B (.ptr b 0)=some (.Z j.kind):=λB e=>by
  have Uq:∀A,W X B (.ptr b A)=W X UF (.ptr b A):=λA=>by rw[bX,bX,e b Uh]
  exact⟨by rw[hm,Uq,Uq,Uq,a4,a5,dS];rfl,by rw[Uq,a0]⟩
 have Vu:H X UF b=H X UF b:=rfl
 apply kN
 ·intro G
  by_cases UZ:j.no=true/\j.kind≠6
  ·have Ud:decide (j.kind≠6)=true:=by simp only[Zc];exact UZ.2
   rw[UZ.1]at a3
   refine cV @t0 @a3 @a0 @Ud ⟨?_⟩
   exact bad _ _ (λe=>UZ.2 (e.no UZ.1)) U0
  have Uz:j.no=true->j.kind=6:=λe=>Decidable.byContradiction λT3=>UZ ⟨e,T3⟩
  cases Ua:j.no with
  |true=>
   have Ud:decide (j.kind≠6)=false:=by simp[Uz Ua]
   rw[Ua]at a3
   refine c3 @t0 @a3 (Za @a0 @Ud) ⟨?_⟩
   refine cQ (λf B ah=>(j.no=true->j.kind=6)/\f.g 0=some (.ptr b 0)/\B=UF/\ah=V0) (λE g=> ?_) ?_
   ·refine cV @t0 @a3 @a0 @Ud ⟨?_⟩
    exact g _ _ _ ⟨Uz,al t0,rfl,rfl⟩
   exact G.out
  |false=>
   rw[Ua]at a3
   refine tT @t0 @a3 ⟨?_⟩
   refine cQ (λf B ah=>(j.no=true->j.kind=6)/\f.g 0=some (.ptr b 0)/\B=UF/\ah=V0) (λE g=> ?_) ?_
   ·refine ci @t0 @a3 ⟨?_⟩
    exact g _ _ _ ⟨Uz,al t0,rfl,rfl⟩
   exact G.out
 clear t0
 rintro y UA T7 ⟨Vf,t0,rfl,rfl⟩
 refine k2 @t0 ⟨?_⟩
 generalize Uv:aP X _ T7 _=UG
 have UL:aX X UA T7 UG (T7+1):=by rw[<-Uv];exact dJ
 have Ue:H X UG T7=zy [.zF, .zF, .Z 0] 3:=by rw[<-Uv,a7 Zo];rfl
 clear Uv
 have z3:br X UG 3 (.ptr T7 0)=some (.agg [.zF, .zF, .Z 0]):=by rw[hm,aZ Ue,aZ Ue,aZ Ue];rfl
 obtain⟨UN,UQ⟩:=V3 UG UL.R
 apply kN
 ·intro G
  have U2:fC j.kind↔(j.kind=1\/j.kind=26):=Iff.rfl
  by_cases c:j.kind=1
  ·have p:decide (j.kind=1)=true:=by rw[c];rfl
   have UJ:decide (j.kind=26)=false:=by rw[c];rfl
   have U8:fC j.kind:=by rw[U2];omega
   refine c3 @t0 @a0 (Za @UQ (Za @UN (Za @p @UJ))) ⟨?_⟩
   refine(ut (nx:=T7+1+21) (S:=UG) U3 j.ty Zo).Zm ?_
   rintro L T5 U9 ⟨rfl,z⟩
   have VA:=z.le
   have UW:aX X UA T7 T5 U9:=UL.trans (z.jz Zo)
   cases T9:eu j.ty with
   |false=>
    refine bh ⟨?_⟩
    exact bad _ _ (λe=>by have:=e.ty U8;rw[T9]at this;cases this) (UW.more Zo)
   |true=>
    refine hl ⟨?_⟩
    refine cQ (λf B ah=>((fC j.kind->eu j.ty=true)/\(¬fC j.kind->j.ty=ck))/\f.g 0=some (.ptr b 0)/\aX X UA T7 B ah) (λE g=> ?_) ?_
    ·refine bh ⟨?_⟩
     exact g _ _ _ ⟨⟨λ_=>T9,λe=>absurd U8 e⟩,al t0,UW.more Zo⟩
    exact G.out
  by_cases c:j.kind=26
  ·have p:decide (j.kind=1)=false:=by rw[c];rfl
   have UJ:decide (j.kind=26)=true:=by rw[c];rfl
   have U8:fC j.kind:=by rw[U2];omega
   refine c3 @t0 @a0 (Za @UQ (Za @UN (Za @p @UJ))) ⟨?_⟩
   refine(ut (nx:=T7+1+21) (S:=UG) U3 j.ty Zo).Zm ?_
   rintro L T5 U9 ⟨rfl,z⟩
   have VA:=z.le
   have UW:aX X UA T7 T5 U9:=UL.trans (z.jz Zo)
   cases T9:eu j.ty with
   |false=>
    refine bh ⟨?_⟩
    exact bad _ _ (λe=>by have:=e.ty U8;rw[T9]at this;cases this) (UW.more Zo)
   |true=>
    refine hl ⟨?_⟩
    refine cQ (λf B ah=>((fC j.kind->eu j.ty=true)/\(¬fC j.kind->j.ty=ck))/\f.g 0=some (.ptr b 0)/\aX X UA T7 B ah) (λE g=> ?_) ?_
    ·refine bh ⟨?_⟩
     exact g _ _ _ ⟨⟨λ_=>T9,λe=>absurd U8 e⟩,al t0,UW.more Zo⟩
    exact G.out
  have U8:¬fC j.kind:=by rw[U2];omega
  have p:decide (j.kind=1)=false:=zJ
  have UJ:decide (j.kind=26)=false:=zJ
  rw[VV]at UN
  by_cases Ul:j.ty=ck
  ·have Ut:decide (j.ty≠ck)=false:=by simp[Ul]
   refine c3 @t0 @a0 (Za @UQ (Za @UN (Za @z3 (Za @o8 (Za @Ut (Za @p @UJ)))))) ⟨?_⟩
   refine cQ (λf B ah=>((fC j.kind->eu j.ty=true)/\(¬fC j.kind->j.ty=ck))/\f.g 0=some (.ptr b 0)/\aX X UA T7 B ah) (λE g=> ?_) ?_
   ·refine bh ⟨?_⟩
    exact g _ _ _ ⟨⟨λe=>absurd e U8,λ_=>Ul⟩,al t0,UL.more Zo⟩
   exact G.out
  ·have Ut:decide (j.ty≠ck)=true:=by simp[Ul]
   refine bo @t0 @a0 @UQ @UN @z3 @o8 (Za @Ut (Za @p @UJ)) ⟨?_⟩
   exact bad _ _ (λe=>Ul (e.ck U8)) (UL.more Zo)
 clear t0 UL Ue z3 UN UQ
 rintro y T5 U9 ⟨⟨VG,Vh⟩,t0,z⟩
 have VA:=z.le
 have O:W X T5 (.ptr b 0)=some (.Z j.kind):=by rw[z.cW _ _ Uh];exact a0
 have T6:W X T5 (.ptr b 7)=some (.int .u64 j.n):=by rw[z.cW _ _ Uh];exact dW
 have UH:W X T5 (.ptr b 8)=some au:=by rw[z.cW _ _ Uh];exact dA
 have VD:∀T0,P T0->H X T5 T0=H X UA T0:=λT0 VZ=>z.R T0 (V4 T0 VZ)
 obtain⟨VP,_⟩:=V3 T5 z.R
 apply kN
 ·intro G
  by_cases c:j.kind=1
  ·have p:decide (j.kind=1)=true:=by rw[c];rfl
   have T1:decide (j.kind=19)=false:=by rw[c];rfl
   have T2:decide (j.kind=20)=false:=by rw[c];rfl
   refine c3 @t0 @O (Za @T6 (Za @p (Za @T1 @T2))) ⟨?_⟩
   refine cQ (λf B ah=>((¬(j.kind=1\/j.kind=19\/j.kind=20)->j.n=0)/\(j.kind=19\/j.kind=20->j.n<=63))/\f.g 0=some (.ptr b 0)/\B=T5/\ah=U9) (λE g=> ?_) ?_
   ·refine dp @t0 @O @T6 @p @T1 @T2 ⟨?_⟩
    exact g _ _ _ ⟨⟨λe=>absurd (.inl c) e,λe=>Zo⟩,al t0,rfl,rfl⟩
   exact G.out
  by_cases c:j.kind=19
  ·have p:decide (j.kind=1)=false:=by rw[c];rfl
   have T1:decide (j.kind=19)=true:=by rw[c];rfl
   have T2:decide (j.kind=20)=false:=by rw[c];rfl
   by_cases UV:63<j.n
   ·have Z:decide ((63:Int)<j.n)=true:=by simp only[Zc];exact UV
    refine bo @t0 @O @T6 @p @T1 @T2 @Z ⟨?_⟩
    exact bad _ _ (λe=>zu (e.c6 Zo)) (z.more Zo)
   ·have Z:decide ((63:Int)<j.n)=false:=by simp only[Zb];exact UV
    refine c3 @t0 @O (Za @T6 (Za @p (Za @T1 (Za @T2 @Z)))) ⟨?_⟩
    refine cQ (λf B ah=>((¬(j.kind=1\/j.kind=19\/j.kind=20)->j.n=0)/\(j.kind=19\/j.kind=20->j.n<=63))/\f.g 0=some (.ptr b 0)/\B=T5/\ah=U9) (λE g=> ?_) ?_
    ·refine bo @t0 @O @T6 @p @T1 @T2 @Z ⟨?_⟩
     exact g _ _ _ ⟨⟨λe=>Zo,λ_=>Zo⟩,al t0,rfl,rfl⟩
    exact G.out
  by_cases c:j.kind=20
  ·have p:decide (j.kind=1)=false:=by rw[c];rfl
   have T1:decide (j.kind=19)=false:=by rw[c];rfl
   have T2:decide (j.kind=20)=true:=by rw[c];rfl
   by_cases UV:63<j.n
   ·have Z:decide ((63:Int)<j.n)=true:=by simp only[Zc];exact UV
    refine bo @t0 @O @T6 @p @T1 @T2 @Z ⟨?_⟩
    exact bad _ _ (λe=>zu (e.c6 Zo)) (z.more Zo)
   ·have Z:decide ((63:Int)<j.n)=false:=by simp only[Zb];exact UV
    refine c3 @t0 @O (Za @T6 (Za @p (Za @T1 (Za @T2 @Z)))) ⟨?_⟩
    refine cQ (λf B ah=>((¬(j.kind=1\/j.kind=19\/j.kind=20)->j.n=0)/\(j.kind=19\/j.kind=20->j.n<=63))/\f.g 0=some (.ptr b 0)/\B=T5/\ah=U9) (λE g=> ?_) ?_
    ·refine bo @t0 @O @T6 @p @T1 @T2 @Z ⟨?_⟩
     exact g _ _ _ ⟨⟨λe=>Zo,λ_=>Zo⟩,al t0,rfl,rfl⟩
    exact G.out
  have p:decide (j.kind=1)=false:=zJ
  have T1:decide (j.kind=19)=false:=zJ
  have T2:decide (j.kind=20)=false:=zJ
  by_cases Up:j.n=0
  ·have Z:decide (j.n≠0)=false:=by simp[Up]
   refine c3 @t0 @O (Za @T6 (Za @p (Za @T1 (Za @T2 @Z)))) ⟨?_⟩
   refine cQ (λf B ah=>((¬(j.kind=1\/j.kind=19\/j.kind=20)->j.n=0)/\(j.kind=19\/j.kind=20->j.n<=63))/\f.g 0=some (.ptr b 0)/\B=T5/\ah=U9) (λE g=> ?_) ?_
   ·refine bo @t0 @O @T6 @p @T1 @T2 @Z ⟨?_⟩
    exact g _ _ _ ⟨⟨λ_=>Up,λe=>Zo⟩,al t0,rfl,rfl⟩
   exact G.out
  ·have Z:decide (j.n≠0)=true:=by simp[Up]
   refine bo @t0 @O @T6 @p @T1 @T2 @Z ⟨?_⟩
   exact bad _ _ (λe=>Up (e.aN Zo)) (z.more Zo)
 clear t0
 rintro y VJ Vq ⟨⟨Vc,Vg⟩,t0,rfl,rfl⟩
 have mk:(j.kind=1->j.n<2^(fI j.ty).toNat)->(j.kind=21->kX j.args)->gQ j:=λT3 U7=>⟨Zo,Zo,V6,VB,Vd,Ve,Vf,VG,Vh,Vc,Vg,T3,U7⟩
 by_cases UT:j.kind=1
 ·have T8:decide (j.kind=1)=true:=by simp[UT]
  refine db @t0 @O @T6 @VP @T8 ⟨?_⟩
  have VT:=VG (.inl UT)
  refine(F4 (S:=VJ) U3 j.ty UM.aG UM.aL VT Zo).Zm ?_
  rintro L Vk Vr ⟨rfl,VL⟩
  exact⟨⟨_,rfl,by rw[Zc];exact⟨λe=>mk (λ_=>e) (λe=>Zo),λe=>e.yS UT⟩⟩,z.trans (VL.jz Zo)⟩
 have T8:decide (j.kind=1)=false:=by simp[UT]
 by_cases UU:j.kind=21
 ·have U6:decide (j.kind=21)=true:=by simp[UU]
  have V9:=V6 2 (by rw[UU];decide)
  obtain⟨h,r,UX⟩:∃h r,j.args=h::r:=by
   cases Ua:j.args with
   |nil=>rw[Ua]at V9;simp at V9
   |cons h r=>exact⟨h,r,rfl⟩
  have VR:h∈j.args:=by rw[UX];exact Zl ..
  obtain⟨aa,VS,VQ⟩:=has.get 0 h (by rw[UX];rfl)
  obtain⟨Ur,U4,Vj⟩:=(Uk.R VD).one VS
  obtain⟨b7,Vb,Va,Vp,rfl,Vm,UI,_,_,_,_,_,_,_,Uc,VF,VE⟩:=(bR.to VD (λ_ e=>e) _ _ VQ).root (VB h VR)
  have UP:bH 1 au (.Z 0)=some (.ptr bL 0):=Ur
  have VI:∀(UY:kX j.args),(∃U5:Bool,q.bool true= .bool U5/\(U5=true↔gQ j)):=λUY=>⟨true,rfl,λ_=>mk (λe=>Zo) λ_=>UY,λ_=>rfl⟩
  have no:∀(UY:¬kX j.args),¬gQ j:=λUY e=>UY (e.jm UU)
  have inv:kX j.args->h.kind=1\/h.kind=4/\∃T0,h.args=[T0]/\T0.kind=1:=λ⟨x,Vt,T3,U7⟩=>by
   rw[UX]at T3
   cases T3
   exact U7
  by_cases UC:h.kind=1
  ·have UB:decide (h.kind=1)=true:=by simp[UC]
   refine bo @t0 @O @T8 @U6 @UH @UP (Za @U4 (Za @UI @UB)) ⟨?_⟩
   exact⟨VI ⟨h,r,UX, .inl UC⟩,z.more Zo⟩
  have UB:decide (h.kind=1)=false:=by simp[UC]
  by_cases Ui:h.kind=4
  ·have UK:decide (h.kind=4)=true:=by simp[Ui]
   have Ub:=VF.len
   rw[Zn,VE.len]at Ub
   by_cases Uy:h.args.length=1
   ·have US:decide ((h.args.length:Int)=1)=true:=zK
    obtain⟨x,Um⟩:=List.length_eq_one_iff.1 Uy
    obtain⟨Vw,VY,VC⟩:=VE.get 0 x (by rw[Um];rfl)
    obtain⟨Vi,V2,Vs⟩:=VF.one VY
    have V1:bH 1 Vb (.Z 0)=some (.ptr Va 0):=Vi
    by_cases Uo:x.kind= -1
    ·have VX:=VC.nil Uo
     subst VX
     refine bo @t0 @O @T8 @U6 @UH @UP (Za @U4 (Za @UI (Za @UB (Za @UK (Za @Uc (Za @Ub (Za @US (Za @V1 (Za @V2 @Jc))))))))) ⟨?_⟩
     refine bad _ _ (no λe=> ?_) (z.more Zo)
     rcases inv e with e|⟨_,T0,T3,U7⟩
     ·exact UC e
     ·rw[Um]at T3;cases T3;rw[U7]at Uo;cases Uo
    ·obtain⟨Vv,_,_,_,rfl,Vo,VH,_⟩:=VC.root Uo
     by_cases Un:x.kind=1
     ·have ex:decide (x.kind=1)=true:=by simp[Un]
      refine bo @t0 @O @T8 @U6 @UH @UP (Za @U4 (Za @UI (Za @UB (Za @UK (Za @Uc (Za @Ub (Za @US (Za @V1 (Za @V2 (Za @Ai (Za @VH @ex))))))))))) ⟨?_⟩
      exact⟨VI ⟨h,r,UX, .inr ⟨Ui,x,Um,Un⟩⟩,z.more Zo⟩
     ·have ex:decide (x.kind=1)=false:=by simp[Un]
      refine bo @t0 @O @T8 @U6 @UH @UP (Za @U4 (Za @UI (Za @UB (Za @UK (Za @Uc (Za @Ub (Za @US (Za @V1 (Za @V2 (Za @Ai (Za @VH @ex))))))))))) ⟨?_⟩
      refine bad _ _ (no λe=> ?_) (z.more Zo)
      rcases inv e with e|⟨_,T0,T3,U7⟩
      ·exact UC e
      ·rw[Um]at T3;cases T3;exact Un U7
   ·have US:decide ((h.args.length:Int)=1)=false:=zJ
    refine bo @t0 @O @T8 @U6 @UH @UP (Za @U4 (Za @UI (Za @UB (Za @UK (Za @Uc (Za @Ub @US)))))) ⟨?_⟩
    refine bad _ _ (no λe=> ?_) (z.more Zo)
    rcases inv e with e|⟨_,T0,T3,U7⟩
    ·exact UC e
    ·rw[T3]at Uy;exact Uy rfl
  ·have UK:decide (h.kind=4)=false:=by simp[Ui]
   refine bo @t0 @O @T8 @U6 @UH @UP (Za @U4 (Za @UI (Za @UB @UK))) ⟨?_⟩
   refine bad _ _ (no λe=> ?_) (z.more Zo)
   rcases inv e with e|⟨e,_⟩
   ·exact UC e
   ·exact Ui e
 have U6:decide (j.kind=21)=false:=by simp[UU]
 refine cV @t0 @O @T8 @U6 ⟨?_⟩
 exact⟨⟨true,rfl,λ_=>mk (λe=>absurd e UT) (λe=>absurd e UU),λ_=>rfl⟩,z.more Zo⟩
end
def oa:Nat->bg->Prop
 |0,j=>gQ j
 |d+1,j=>gQ j/\∀a∈j.args,oa d a
def pb:Nat->bg->Prop
 |0,j=>j.kind= -1
 |d+1,j=>j.kind= -1\/∀a∈j.args,pb d a
def oa.made{d:Nat}{j:bg}(e:oa d j):gQ j:=by
 cases d with
 |zero=>exact e
 |succ d=>exact e.1
def tF:∀(d:Nat) (j:bg),gb d j↔oa d j/\pb d j:=by
 intro d
 induction d with
 |zero=>
  intro j
  refine⟨λe=>e.elim,λ⟨b,c⟩=> ?_⟩
  have:=gQ.bc b
  have g:j.kind= -1:=c
  omega
 |succ d U=>
  intro j
  constructor
  ·rintro⟨b,c⟩
   exact⟨⟨b,λa f=>((U a).1 (c a f)).1⟩, .inr λa f=>((U a).1 (c a f)).2⟩
  ·rintro⟨⟨b,c⟩,g⟩
   refine⟨b,λa f=>(U a).2 ⟨c a f, ?_⟩⟩
   rcases g with g|g
   ·have:=b.bc;omega
   ·exact g a f
section
variable{X:bQ}{S B cE ay aM:F ac}{nx nx' aG aL bw:Nat}{bm d0 P:Nat->Prop}
set_option maxRecDepth 100000 in
def LD(G:dR X):∀(c:Nat),c<=200->∀(j:bg) (v:q) (S:F ac) (nx:Nat),(o X).aN<=nx->bR X S P j v->(∀f,P f->f<nx)->hy j->
 aJ X 114 [v, .Z (c:Int)] S nx (λL B nx'=>(∃r:Bool,L= .bool r/\(r=false↔oa c j))/\aX X S nx B nx') zG:=by
 intro c
 induction c with
 |zero=>
  intro _ j v S nx T5 z n O
  refine zB G.todV (vC X) ?_
  rw[vD]
  unfold sW
  refine(yE (nx:=nx) (S:=S) G T5 z n O.root).Zm ?_
  rintro L ay aG ⟨⟨r,rfl,x⟩,g⟩
  have U6:=g.le
  cases r with
  |false=>
   refine bh ⟨?_⟩
   exact⟨⟨true,rfl,(λe=>by cases e),λe=>by have:=x.2 e;cases this⟩,g⟩
  |true=>
   have t:=x.1 rfl
   have T4:j.kind≠ -1:=zu t.bc
   obtain⟨b,au,bL,aB,rfl,Y,_,_,_,_,_,_,_,_,dA,C,has⟩:=z.root T4
   have T2:=n b Y
   have p:=C.len
   have T3:=has.len
   rw[Zn,T3]at p
   have T7:W X ay (.ptr b 8)=some au:=by rw[g.cW _ _ T2];exact dA
   refine bh ⟨?_⟩
   refine cM (λm y B ah=>y.g 0=some (.ptr b 0)/\y.g 1=some (.Z ((0:Nat):Int))/\y.g 5=some (.Z 0)/\B=ay/\ah=aG)
    0 ⟨aI,aI,aI,rfl,rfl⟩ ?_
   rintro m y aM aL ⟨t0,w,t5,rfl,rfl⟩
   have Z:decide ((0:Int)<((0:Nat):Int))=false:=rfl
   by_cases ap:(0:Int)<(j.args.length:Int)
   ·have d:decide ((0:Int)<(j.args.length:Int))=true:=by simp only[Zc];exact ap
    refine bo @t5 @t0 @w @T7 @p @d @Z ⟨?_⟩
    exact⟨⟨false,rfl,λ_=>t,λ_=>rfl⟩,g⟩
   ·have d:decide ((0:Int)<(j.args.length:Int))=false:=by simp only[Zb];exact ap
    refine dp @t5 @t0 @w @T7 @p @d ⟨?_⟩
    exact⟨⟨false,rfl,λ_=>t,λ_=>rfl⟩,g⟩
 |succ c U=>
  intro UB j v S nx T5 z n O
  refine zB G.todV (vC X) ?_
  rw[vD]
  unfold sW
  refine(yE (nx:=nx) (S:=S) G T5 z n O.root).Zm ?_
  rintro L ay aG ⟨⟨r,rfl,x⟩,g⟩
  have U6:=g.le
  cases r with
  |false=>
   refine bh ⟨?_⟩
   exact⟨⟨true,rfl,(λe=>by cases e),λe=>by have:=x.2 e.made;cases this⟩,g⟩
  |true=>
   have t:=x.1 rfl
   have T4:j.kind≠ -1:=zu t.bc
   obtain⟨b,au,bL,aB,rfl,Y,_,_,_,_,_,_,_,_,dA,C,has⟩:=z.root T4
   have T2:=n b Y
   have p:=C.len
   have U7:=C.many
   have T3:=has.len
   rw[Zn,T3]at p U7
   refine bh ⟨?_⟩
   refine cM (λm y B ah=>∃(i:Nat),y.g 0=some (.ptr b 0)/\y.g 1=some (.Z ((c+1:Nat):Int))/\y.g 5=some (.Z (i:Int))/\i+m=j.args.length/\aX X S nx B ah/\∀a∈j.args.take i,oa c a)
    j.args.length ⟨0,aI,aI,cx,Zo,g,Zs⟩ ?_
   rintro m y aM aL ⟨i,t0,w,t5,ai,s,T1⟩
   have UC:=s.le
   have Z:decide ((0:Int)<((c+1:Nat):Int))=true:=zK
   have T8:W X aM (.ptr b 8)=some au:=by rw[s.cW _ _ T2];exact dA
   cases m with
   |zero=>
    have d:=zv i j.args.length
    rw[Zt Zo]at T1
    refine dp @t5 @t0 @w @T8 @p @d ⟨?_⟩
    exact⟨⟨false,rfl,λ_=>⟨t,T1⟩,λ_=>rfl⟩,s⟩
   |succ m=>
    have d:=zw i j.args.length
    have U2:=zz i
    have U3:ag .sub (.Z ((c+1:Nat):Int)) (.Z 1)=some (.Z (c:Int)):=by rw[g0 Zo Zo,show((c+1:Nat):Int) -1=(c:Int) by omega]
    obtain⟨a,T0⟩:=zx j.args i
    have TY:=Zg T0
    obtain⟨U1,U5,U4⟩:=has.get i a T0
    have U0:∀f,P f->H X aM f=H X S f:=λf T6=>s.R f (n f T6)
    obtain⟨U8,U9,UE⟩:=(C.R U0).one U5
    refine bo @t5 @t0 @w @T8 @p @d (Za @Z (Za @U8 (Za @U9 @U3))) ⟨?_⟩
    refine(U Zo a U1 aM aL Zo (bR.to U0 (λ_ e=>e) _ _ U4) (λf T6=>zu (n f T6)) (O.arg TY)).Zm ?_
    rintro L UA UD ⟨⟨b4,rfl,TZ⟩,T9⟩
    cases b4 with
    |true=>
     refine bh ⟨?_⟩
     exact⟨⟨true,rfl,(λe=>by cases e),λe=>by have:=TZ.2 (e.2 a TY);cases this⟩,s.trans T9⟩
    |false=>
     refine ci @t5 @U2 ⟨?_⟩
     exact⟨m,Zo,i+1,al t0,al w,aI,Zo,s.trans T9,hT T0 T1 (TZ.1 rfl)⟩
set_option maxRecDepth 100000 in
def GK(T2:dR X):∀(bI:Nat),bI<=201->∀(j:bg) (v:q),bR X S P j v->
 aJ X 135 [v, .Z (bI:Int)] S nx (λL B nx'=>(∃e:Int,L= .Z e/\0<=e/\e<=bI/\∀d:Nat,d<bI->(e<=d↔pb d j))/\B=S/\nx'=nx) zG:=by
 intro bI
 induction bI with
 |zero=>
  intro _ j v r
  refine zB T2.todV (vJ X) ?_
  rw[vK]
  unfold sX
  have w:decide (((0:Nat):Int)=0)=true:=rfl
  by_cases f:j.kind= -1
  ·have O:=r.nil f
   subst O
   refine bB @sh ⟨?_⟩
   exact⟨⟨0,rfl,Zo,Zo,λd c=>Zo⟩,rfl,rfl⟩
  ·obtain⟨b,au,bL,aB,rfl,_⟩:=r.root f
   refine ci @nN @w ⟨?_⟩
   exact⟨⟨0,rfl,Zo,Zo,λd c=>Zo⟩,rfl,rfl⟩
 |succ bI U=>
  intro UD j v r
  refine zB T2.todV (vJ X) ?_
  rw[vK]
  unfold sX
  have w:decide (((bI+1:Nat):Int)=0)=false:=zJ
  by_cases f:j.kind= -1
  ·have O:=r.nil f
   subst O
   refine bB @sh ⟨?_⟩
   refine⟨⟨0,rfl,Zo,Zo,λd c=>⟨λ_=> ?_,λ_=>Zo⟩⟩,rfl,rfl⟩
   cases d with
   |zero=>exact f
   |succ d=>exact .inl f
  ·obtain⟨b,au,bL,aB,rfl,Y,_,_,_,_,_,_,_,_,dA,G,has⟩:=r.root f
   have C:=G.len
   have U6:=G.many
   have U5:=has.len
   rw[Zn,U5]at C U6
   refine ci @nN @w ⟨?_⟩
   refine cM (λm y B ah=>∃(i:Nat) (e:Int),y.g 0=some (.ptr b 0)/\y.g 1=some (.Z ((bI+1:Nat):Int))/\y.g 5=some (.Z e)/\y.g 6=some (.Z (i:Int))/\i+m=j.args.length/\0<=e/\e<=bI/\(∀d:Nat,d<bI->(e<=d↔∀a∈j.args.take i,pb d a))/\B=S/\ah=nx)
    j.args.length ⟨0,0,aI,aI,aI,cx,Zo,Zo,Zo,λd c=>Zs,rfl,rfl⟩ ?_
   rintro m y aM aL ⟨i,e,t0,Z,t5,s,ai,U1,U2,z,rfl,rfl⟩
   cases m with
   |zero=>
    have d:=zv i j.args.length
    have T9:ag .add (.Z e) (.Z 1)=some (.Z (e+1)):=ct Zo Zo
    rw[Zt Zo]at z
    refine bo @s @t0 @t5 @dA @C @d @T9 ⟨?_⟩
    refine⟨⟨e+1,rfl,Zo,Zo,λd c=> ?_⟩,rfl,rfl⟩
    cases d with
    |zero=>exact⟨λg=>Zo,λg=>absurd g f⟩
    |succ d=>
     have T4:=z d Zo
     constructor
     ·intro g;exact .inr (T4.1 Zo)
     ·rintro(g|g)
      ·exact absurd g f
      ·have:=T4.2 g;omega
   |succ m=>
    have d:=zw i j.args.length
    have T1:=zz i
    have T8:ag .sub (.Z ((bI+1:Nat):Int)) (.Z 1)=some (.Z (bI:Int)):=by rw[g0 Zo Zo,show((bI+1:Nat):Int) -1=(bI:Int) by omega]
    obtain⟨a,T3⟩:=zx j.args i
    obtain⟨T7,U4,U3⟩:=has.get i a T3
    obtain⟨U7,U8,UF⟩:=G.one U4
    refine bo @s @t0 @Z @dA @C @d (Za @U7 (Za @U8 @T8)) ⟨?_⟩
    refine(U Zo a T7 U3).Zm ?_
    rintro L UC UE ⟨⟨p,rfl,TY,TZ,U0⟩,rfl,rfl⟩
    have U9:j.args.take (i+1)=j.args.take i++[a]:=by rw[ZG,T3];rfl
    have T0:∀d:Nat,d<bI->((∀x∈j.args.take (i+1),pb d x)↔e<=d/\p<=d):=λd c=>by
     rw[U9,z d c,U0 d c]
     exact⟨λT6=>⟨λx n=>T6 x (Z2 _ n),T6 a (ZQ _ (ZF.2 rfl))⟩,λ⟨UA,UB⟩ x n=>by
      rcases Zr.1 n with n|n
      ·exact UA x n
      ·rw[ZF.1 n];exact UB⟩
    by_cases T5:e<p
    ·have t:decide (e<p)=true:=by simp only[Zc];exact T5
     refine cV @s @t5 @t @T1 ⟨?_⟩
     exact⟨m,Zo,i+1,p,al t0,al Z,aI,aI,Zo,TY,TZ,λd c=>by rw[T0 d c];omega,rfl,rfl⟩
    ·have t:decide (e<p)=false:=by simp only[Zb];exact T5
     refine cV @s @t5 @t @T1 ⟨?_⟩
     exact⟨m,Zo,i+1,e,al t0,al Z,al t5,aI,Zo,U1,U2,λd c=>by rw[T0 d c];omega,rfl,rfl⟩
set_option maxRecDepth 100000 in
def Gh(c:dR X){j:bg}{v:q}(s:(o X).aN<=nx)(m:bR X S P j v)(g:∀a,P a->a<nx)(r:hy j):
 aJ X 87 [v] S nx (λL B nx'=>(∃w:Int,L= .Z w/\hB w/\(w=0↔gb 200 j))/\aX X S nx B nx') zG:=by
 refine zB c.todV (DC X) ?_
 rw[DD]
 unfold wK
 refine(LD (P:=P) c 200 Zo j v S nx s m g r).Zm ?_
 rintro L ay aG ⟨⟨n,rfl,i⟩,b⟩
 cases n with
 |true=>
  refine bh ⟨?_⟩
  exact⟨⟨1,rfl, .inr (.inl rfl),(λe=>by cases e),λe=>by have:=i.2 ((tF 200 j).1 e).1;cases this⟩,b⟩
 |false=>
  have t:=i.1 rfl
  refine bh ⟨?_⟩
  refine zB c.todV (BM X) ?_
  rw[BN]
  unfold vE
  refine(GK (nx:=aG) (S:=ay) c 201 Zo j v (bR.to (λa z=>b.R a (g a z)) (λ_ e=>e) _ _ m)).Zm ?_
  rintro L aM aL ⟨⟨e,rfl,C,G,p⟩,rfl,rfl⟩
  have f:=p 200 Zo
  by_cases ap:e<=200
  ·have d:decide ((200:Int)<e)=false:=zJ
   refine bB @d ⟨?_⟩
   exact⟨⟨0,rfl, .inl rfl,λ_=>(tF 200 j).2 ⟨t,f.1 ap⟩,λ_=>rfl⟩,b⟩
  ·have d:decide ((200:Int)<e)=true:=zK
   refine bB @d ⟨?_⟩
   exact⟨⟨22,rfl, .inr (.inr rfl),(λe=>by cases e),λx=>absurd (f.2 ((tF 200 j).1 x).2) ap⟩,b⟩
end
section
variable{X:bQ}{S B cE ay aM:F ac}{nx nx' aG aL bw:Nat}{bm d0 P:Nat->Prop}
def uJ(b:Nat):bZ X S .eql 25 true (.ptr b 0) .bt=some .zF:=Zk
set_option maxRecDepth 100000 in
def Gg(T1:dR X){T:List Go.a6.Node}{v:q}(W9:(o X).aN<=nx)(VU:fT X S P T v)(s:∀a,P a->a<nx)(V1:∀g∈T,h0 g)(W8:T.length<=1000):
 aJ X 53 [v] S nx (λL B nx'=>(∃w:Int,L= .Z w/\hB w/\(w=0↔ha T))/\aX X S nx B nx') zG:=by
 refine zB T1.todV (CS X) ?_
 rw[CT]
 unfold wl
 obtain⟨b,au,bL,rows,rfl,Y,a0,UZ,V4⟩:=id VU
 have V7:=V4.wide
 have T2:=UZ.len
 rw[V7.1]at T2
 have VT:=s b Y
 have bad:∀B ah,¬ha T->aX X S nx B ah->(∃w:Int,q.Z 1= .Z w/\hB w/\(w=0↔ha T))/\aX X S nx B ah:=λB ah Y VR=>⟨⟨1,rfl, .inr (.inl rfl),(λe=>by cases e),λe=>absurd e Y⟩,VR⟩
 by_cases U4:T=[]
 ·have C:decide ((T.length:Int)<1)=true:=by simp[U4]
  refine cV @uJ @a0 @T2 @C ⟨?_⟩
  exact bad _ _ (λe=>e.ne U4) (aX.refl _ _)
 have WD:0<T.length:=Z6.2 U4
 have C:decide ((T.length:Int)<1)=false:=zJ
 by_cases Uq:T.length<=64
 case neg=>
  have T0:decide ((64:Int)<(T.length:Int))=true:=zK
  refine db @uJ @a0 @T2 @C @T0 ⟨?_⟩
  exact bad _ _ (λe=>Uq e.many) (aX.refl _ _)
 have T0:decide ((64:Int)<(T.length:Int))=false:=zJ
 refine db @uJ @a0 @T2 @C @T0 ⟨?_⟩
 refine cM (λm y B ah=>∃(E:Nat) (w:Bool),y.g 0=some (.ptr b 0)/\y.g 3=some (.bool w)/\y.g 4=some (.Z (E:Int))/\E+m=T.length/\(w=false↔∀g∈T.take E,hA g)/\aX X S nx B ah)
  T.length ⟨0,false,aI,aI,cx,Zo,Zs,aX.refl _ _⟩ ?_
 rintro m y ay aG ⟨E,w,t0,t3,t4,Vz,G,T7⟩
 have W1:=T7.le
 have UH:W X ay (.ptr b 0)=some au:=by rw[T7.cW _ _ VT];exact a0
 cases m with
 |zero=>
  have d:=zv E T.length
  rw[Zt Zo]at G
  cases w with
  |true=>
   refine dp @t4 @t0 @UH @T2 @t3 @d ⟨?_⟩
   exact⟨⟨22,rfl, .inr (.inr rfl),(λe=>by cases e),λe=>by have:=G.2 e.node;cases this⟩,T7⟩
  |false=>
   refine dp @t4 @t0 @UH @T2 @t3 @d ⟨?_⟩
   exact⟨⟨0,rfl, .inl rfl,λ_=>⟨U4,Uq,G.1 rfl⟩,λ_=>rfl⟩,T7⟩
 |succ m=>
  have d:=zw E T.length
  have VO:=zz E
  obtain⟨g,UT⟩:=zx T E
  have UU:=Zg UT
  obtain⟨row,Vf,V3⟩:=V4.get E g UT
  have T8:=(V1 g UU).g1
  obtain⟨WF,WG,WH,WI⟩:=(V1 g UU).an
  have Vt:T.take (E+1)=T.take E++[g]:=by rw[ZG,UT];rfl
  have Vj:∀a,P a->H X ay a=H X S a:=λa f=>T7.R a (s a f)
  have VV:=UZ.cP E (by rw[V7.1];omega)
  have Vg:=(UZ.R Vj).row Zd Vf
  have e2:=V3.cN
  obtain⟨bx,bz,TY,TZ,b0,bb,b4,c1,Vy,rfl,Ux,Uy,Uz,U9,Uw⟩:=V3
  have T4:¬hA g->¬ha T:=λe UK=>e (UK.node g UU)
  have Ub:=Ux.len
  have UE:=Uy.len
  have Uc:=Uz.len
  have V8:=Uw.wide
  have UF:=U9.len
  have VY:=U9.many
  rw[Zn]at Ub UE Uc
  rw[V8.1]at UF VY
  have Ul:ag .add (.Z (g.cj.length:Int)) (.Z (g.out.length:Int))=some (.Z ((g.cj.length+g.out.length:Nat):Int)):=by rw[ct Zo Zo];simp
  have Um:ag .add (.Z ((g.cj.length+g.out.length:Nat):Int)) (.Z (g.loc.length:Int))=some (.Z ((g.cj.length+g.out.length+g.loc.length:Nat):Int)):=by rw[ct Zo Zo];simp
  refine bo @t4 @t0 @UH @T2 @d @VV @Vg ⟨?_⟩
  refine cz (e8 (k:=6) (b:=aG) (A:=0) (n:=6) (c:=F.ofList [.str [], .Z 0, .aw, .aw, .aw, .aw] 0 .nil) (a7 Zo) Zo rfl Zd Zd e2) ?_
  generalize UR:aP X _ aG _=aM
  have U2:H X aM aG=zy [.str g.name, .Z g.at_,bx,bz,TY,TZ] 6:=by rw[<-UR,a7 Zo];rfl
  have U3:aX X S nx aM (aG+1):=⟨Zo,λa f=>by rw[<-UR];simp(disch:=omega) only[aV];exact T7.R a f⟩
  clear UR
  have Vk:∀a,P a->H X aM a=H X S a:=λa f=>U3.R a (s a f)
  refine bB (aZ U2) ⟨?_⟩
  refine mI T1 T8.nm ?_
  cases V2:c4 g.name with
  |false=>
   refine bh ⟨?_⟩
   exact bad _ _ (T4 λe=>by have:=e.nm;rw[V2]at this;cases this) U3
  |true=>
   by_cases UB:g.out=[]
   ·have C:decide ((g.out.length:Int)=0)=true:=by simp[UB]
    refine cw (aZ U2) @UE @C ⟨?_⟩
    exact bad _ _ (T4 λe=>e.out UB) U3
   have WC:0<g.out.length:=Z6.2 UB
   have C:decide ((g.out.length:Int)=0)=false:=zJ
   by_cases V6:g.cj.length+g.out.length+g.loc.length<=256
   case neg=>
    have T0:decide ((256:Int)<((g.cj.length+g.out.length+g.loc.length:Nat):Int))=true:=zK
    refine bo (aZ U2) @Ub @UE @Uc @Ul @Um (Za @C @T0) ⟨?_⟩
    exact bad _ _ (T4 λe=>V6 e.vars) U3
   have T0:decide ((256:Int)<((g.cj.length+g.out.length+g.loc.length:Nat):Int))=false:=zJ
   have VM:decide ((4096:Int)<(g.eqs.length:Int))=false:=zJ
   refine bo (aZ U2) @Ub @UE @Uc @UF @Ul (Za @Um (Za @C (Za @T0 @VM))) ⟨?_⟩
   have VB:∀d∈g.cj,d∈g.cj++(g.out++g.loc):=λd e=>Z2 _ e
   have VC:∀d∈g.out,d∈g.cj++(g.out++g.loc):=λd e=>ZQ _ (Z2 _ e)
   have VD:∀d∈g.loc,d∈g.cj++(g.out++g.loc):=λd e=>ZQ _ (ZQ _ e)
   refine(tm (P:=P) (nx:=aG+1) (S:=aM) T1 Zo (Ux.R Vk) (λa f=>zu (s a f)) (λd e=>T8.decl d (VB d e))).Zm ?_
   rintro L Ui Vm ⟨⟨VJ,rfl,Us⟩,UN⟩
   have W2:=UN.le
   have UL:=U3.trans UN
   have Uo:H X Ui aG=zy [.str g.name, .Z g.at_,bx,bz,TY,TZ] 6:=by rw[UN.R _ Zo];exact U2
   cases VJ with
   |false=>
    refine bh ⟨?_⟩
    exact bad _ _ (T4 λe=>by have:=Us.2 λd r=>e.decl d (VB d r);cases this) UL
   |true=>
   refine bB (aZ Uo) ⟨?_⟩
   refine(tm (P:=P) (nx:=Vm) (S:=Ui) T1 Zo (Uy.R λa f=>UL.R a (s a f)) (λa f=>zu (s a f)) (λd e=>T8.decl d (VC d e))).Zm ?_
   rintro L Uj Vn ⟨⟨VK,rfl,Ut⟩,UO⟩
   have W3:=UO.le
   have UM:=UL.trans UO
   have Up:H X Uj aG=zy [.str g.name, .Z g.at_,bx,bz,TY,TZ] 6:=by rw[UO.R _ Zo];exact Uo
   cases VK with
   |false=>
    refine bh ⟨?_⟩
    exact bad _ _ (T4 λe=>by have:=Ut.2 λd r=>e.decl d (VC d r);cases this) UM
   |true=>
   refine bB (aZ Up) ⟨?_⟩
   refine(tm (P:=P) (nx:=Vn) (S:=Uj) T1 Zo (Uz.R λa f=>UM.R a (s a f)) (λa f=>zu (s a f)) (λd e=>T8.decl d (VD d e))).Zm ?_
   rintro L VG VE ⟨⟨VL,rfl,Uu⟩,UP⟩
   have W4:=UP.le
   have Ur:=UM.trans UP
   have VP:H X VG aG=zy [.str g.name, .Z g.at_,bx,bz,TY,TZ] 6:=by rw[UP.R _ Zo];exact Up
   cases VL with
   |false=>
    refine bh ⟨?_⟩
    exact bad _ _ (T4 λe=>by have:=Uu.2 λd r=>e.decl d (VD d r);cases this) Ur
   |true=>
   have VS:hA g↔∀J∈g.eqs,jJ J:=⟨λe=>e.eqs,λe=>⟨V2,UB,V6,Zo,λd r=>by
    rcases Zr.1 r with r|r
    ·exact Us.1 rfl d r
    ·rcases Zr.1 r with r|r
     ·exact Ut.1 rfl d r
     ·exact Uu.1 rfl d r,e⟩⟩
   have WB:aG<VE:=Zo
   refine bh ⟨?_⟩
   refine cM (λT9 y B ah=>∃(k:Nat) (w:Bool),y.g 0=some (.ptr b 0)/\y.g 3=some (.bool w)/\y.g 4=some (.Z (E:Int))/\y.g 5=some (.ptr aG 0)/\y.g 6=some (.Z (k:Int))/\k+T9=g.eqs.length/\(w=false↔(∀g∈T.take E,hA g)/\∀J∈g.eqs.take k,jJ J)/\aX X S nx B ah/\VE<=ah/\H X B aG=zy [.str g.name, .Z g.at_,bx,bz,TY,TZ] 6)
    g.eqs.length ⟨0,w,al t0,al t3,al t4,aI,cx,Zo,by rw[G];simp,Ur,Zo,VP⟩ ?_
   clear t0 t3 t4 G
   rintro T9 y VH O ⟨k,w,t0,t3,t4,t5,t,W0,G,U5,WA,UI⟩
   have W5:=U5.le
   cases T9 with
   |zero=>
    have d:=zv k g.eqs.length
    have Vs:g.eqs.take k=g.eqs:=Zt Zo
    rw[Vs]at G
    refine bo @t @t5 @t4 (aZ UI) @UF @d @VO ⟨?_⟩
    refine⟨m,Zo,E+1,w,al t0,al t3,aI,Zo, ?_,U5⟩
    rw[G,Vt, <-VS]
    exact⟨λ⟨Vu,Vv⟩ x p=>by
     rcases Zr.1 p with p|p
     ·exact Vu x p
     ·rw[ZF.1 p];exact Vv,λe=>⟨λx p=>e x (Z2 _ p),e g (ZQ _ (ZF.2 rfl))⟩⟩
   |succ T9=>
    have d:=zw k g.eqs.length
    have Un:=zz k
    obtain⟨J,UW⟩:=zx g.eqs k
    have UY:=Zg UW
    obtain⟨WK,Ve,Vd⟩:=Uw.get k J UW
    have Vl:∀a,P a->H X VH a=H X S a:=λa f=>U5.R a (s a f)
    have VW:=U9.cP k (by rw[V8.1];omega)
    have Vh:=(U9.R Vl).row Zd Ve
    obtain⟨Vr,Vq,Vw,Vx,dy,rfl,UC,WE,Va,Vb⟩:=Vd
    have T3:=UC.len
    have Vc:=UC.many
    rw[show(dr J.left).length=J.left.length from by simp[dr]]at T3 Vc
    have Ue:¬jJ J->¬ha T:=λe=>T4 λUK=>e (UK.eqs J UY)
    refine bo @t @t5 (aZ UI) @UF @d @VW @Vh ⟨?_⟩
    refine cz (e8 (k:=4) (b:=O) (A:=0) (n:=4) (c:=F.ofList [.aw, .aw, .Z 0, .bt] 0 .nil) (a7 Zo) Zo rfl Zd Zd Vb) ?_
    generalize U8:aP X _ O _=T5
    have Z:H X T5 O=zy [Vr,Vq, .Z J.at_,dy] 4:=by rw[<-U8,a7 Zo];rfl
    have UQ:aX X S nx T5 (O+1):=⟨Zo,λa f=>by rw[<-U8];simp(disch:=omega) only[aV];exact U5.R a f⟩
    have UJ:H X T5 aG=zy [.str g.name, .Z g.at_,bx,bz,TY,TZ] 6:=by rw[<-U8];simp(disch:=omega) only[aV];exact UI
    clear U8
    have VA:∀a,P a->H X T5 a=H X S a:=λa f=>UQ.R a (s a f)
    have VF:g.eqs.take (k+1)=g.eqs.take k++[J]:=by rw[ZG,UW];rfl
    refine cQ (λT6 B ah=>(∀w∈J.left,c4 w=true)/\T6.g 0=some (.ptr b 0)/\T6.g 3=some (.bool w)/\T6.g 4=some (.Z (E:Int))/\T6.g 5=some (.ptr aG 0)/\T6.g 6=some (.Z (k:Int))/\T6.g 7=some (.ptr O 0)/\B=T5/\ah=O+1) (λWJ VX=> ?_) ?_
    ·refine cM (λm y B ah=>∃(i:Nat),y.g 0=some (.ptr b 0)/\y.g 3=some (.bool w)/\y.g 4=some (.Z (E:Int))/\y.g 5=some (.ptr aG 0)/\y.g 6=some (.Z (k:Int))/\y.g 7=some (.ptr O 0)/\y.g 8=some (.Z (i:Int))/\i+m=J.left.length/\B=T5/\ah=O+1/\∀x∈J.left.take i,c4 x=true)
      J.left.length ⟨0,al t0,al t3,al t4,al t5,al t,aI,cx,Zo,rfl,rfl,Zs⟩ ?_
     clear t0 t3 t4 t5 t
     rintro Ud y Uk Vo ⟨i,t0,t3,t4,t5,t,z,Uf,ai,rfl,rfl,US⟩
     cases Ud with
     |zero=>
      have d:=zv i J.left.length
      rw[Zt Zo]at US
      refine db @Uf @z (aZ Z) @T3 @d ⟨?_⟩
      exact VX _ _ _ ⟨US,al t0,al t3,al t4,al t5,al t,al z,rfl,rfl⟩
     |succ Ud=>
      have d:=zw i J.left.length
      have VN:=zz i
      obtain⟨x,p⟩:=zx J.left i
      have V9:=Zg p
      have V0:=UC.cP i (by simp[dr];omega)
      have Uv:=(UC.R VA).cell i [.str x] 0 (.str x) (by unfold dr;rw[Zw,p];rfl) rfl
      rw[ZV]at V0
      rw[ZV,ZH]at Uv
      refine bo @Uf @z (aZ Z) @T3 @d @V0 @Uv ⟨?_⟩
      refine mI T1 (T8.left J UY x V9) ?_
      cases V5:c4 x with
      |false=>
       refine bh ⟨?_⟩
       exact bad _ _ (Ue λe=>by have:=e.nm x V9;rw[V5]at this;cases this) UQ
      |true=>
       refine ci @Uf @VN ⟨?_⟩
       exact⟨Ud,Zo,i+1,al t0,al t3,al t4,al t5,al t,al z,aI,Zo,rfl,rfl,hT p US V5⟩
    clear t0 t3 t4 t5 t
    rintro y Uk Vo ⟨VZ,t0,t3,t4,t5,t,z,rfl,rfl⟩
    refine ci @z (aZ Z) ⟨?_⟩
    refine(Gh (P:=P) (nx:=O+1) (S:=Uk) T1 Zo (bR.to VA (λ_ e=>e) _ _ Va) (λa f=>zu (s a f)) (T8.ex J UY)).Zm ?_
    rintro L VI Vp ⟨⟨U0,rfl,Vi,UV⟩,U7⟩
    have W6:=U7.le
    rw[<-U7.R _ Zo]at Z
    rw[<-U7.R _ Zo]at UJ
    have U6:aX X S nx VI Vp:=UQ.trans U7
    by_cases UA:J.left=[]
    ·have U1:decide ((J.left.length:Int)=0)=true:=by simp[UA]
     refine cV @z (aZ Z) @T3 @U1 ⟨?_⟩
     exact bad _ _ (Ue λe=>e.ne UA) U6
    have W7:0<J.left.length:=Z6.2 UA
    have U1:decide ((J.left.length:Int)=0)=false:=zJ
    by_cases Ua:U0=1
    ·have UG:decide (U0=1)=true:=by simp[Ua]
     refine db @z (aZ Z) @T3 @U1 @UG ⟨?_⟩
     exact bad _ _ (Ue λe=>zu (UV.2 e.ex)) U6
    have UG:decide (U0=1)=false:=by simp[Ua]
    by_cases UD:U0=0
    ·have Uh:decide (U0=22)=false:=by simp[UD]
     have UX:jJ J:=⟨UA,VZ,UV.1 UD⟩
     refine bo @z (aZ Z) @T3 @U1 @UG @Uh (Za @t @Un) ⟨?_⟩
     refine⟨T9,Zo,k+1,w,al t0,al t3,al t4,al t5,aI,Zo, ?_,U6,Zo,UJ⟩
     rw[G,VF]
     exact⟨λ⟨Ug,e⟩=>⟨Ug,λx p=>by
      rcases Zr.1 p with p|p
      ·exact e x p
      ·rw[ZF.1 p];exact UX⟩,λ⟨Ug,e⟩=>⟨Ug,λx p=>e x (Z2 _ p)⟩⟩
    ·have VQ:=A8 Vi UD Ua
     have Uh:decide (U0=22)=true:=by simp[VQ]
     have UX:¬jJ J:=λe=>UD (UV.2 e.ex)
     refine bo @z (aZ Z) @T3 @U1 @UG @Uh (Za @t @Un) ⟨?_⟩
     refine⟨T9,Zo,k+1,true,al t0,aI,al t4,al t5,aI,Zo, ?_,U6,Zo,UJ⟩
     rw[VF]
     exact⟨λe=>(by cases e),λe=>absurd (e.2 J (ZQ _ (ZF.2 rfl))) UX⟩
end
end
end Go.Proofs.YtmipngjbcdamjaaGreatDoor

