/- Part of the proof of the last text; no conditions -/
import Derived.Test.YtehmapikajmjaaaGreatDoorYj
set_option maxHeartbeats 8000000
set_option linter.all false
namespace Go.Proofs.YtehmapikajmjaaaGreatDoor
open Go.aF
noncomputable section
section
variable (X : bi) (q : E S) (u : Nat) (T ab : aY) (a0 aL bt a3 a4 a5 fq fV f9 : z)
def Di:Za0:=λa b c d e f=>oh d a c λc d g=>aa (c0 b) λh=>aa (aK .gtr h (.Z 65536)) λh=>aJ (λb c d=>cN b λg=>aa (oV a c g) λg=>aa (dl [.str [],.Z 0] [(0,1,g)]) λg=>eW a c d g λc d g=>aD a 34 [c] d g (λ_ d g=>aJ (λb c d=>c1 b 5 4 λf g=>dC g 1 a c λ_ g=>x8 7 2 g λg=>x9 g d a c f λc d f=>tw λg=>jL b 3 a d 2 g λa b=>e (.tuple [c,b]) a f) λh=>cF (λb c d g=>cU (g+10) λg=>eX c λi=>dC i 1 a d λ_ i=>eX c λj=>dC j 0 a d λ_ j=>aa (hG j) λj=>aa (aK .lss i j) λi=>aJ (λc d g=>aJ (λc d e=>eX c λg=>aD a 34 [g] d e (λ_ a d=>b c a d) f) λb=>eX c λh=>cU (g+10) λg=>eX c λi=>dC i 0 a d λ_ i=>eX c λj=>dC j 1 a d λ_ j=>aa (ia i j) λi=>aJ (λc d g=>bu (c 6) λh=>e9 a h [] d g (λd f g=>lw d g a f λd f g h=>aa (dX .not d) λi=>aJ (λc d e=>eX c λf=>dC f 1 a d λ_ f=>bu (c 8) λg=>kQ 2 g a d f λd=>cU (e+11) λe=>eX c λf=>dC f 1 a d λ_ g=>fd c 8 1 a d λ_ h=>aa (hG h) λh=>aa (aK .add g h) λg=>kh f 1 a d g λd=>c1 c 5 8 λf g=>aa (ca a d 7 g) λg=>x9 g e a d f λa d e=>b (J c 5 a) d e) λb=>av i (cU (g+7) λb=>eX c λd=>dC d 1 a h λ_ d=>vq 20 d λd=>jL c 3 a h 2 d λa c=>e (.tuple [.ax,c]) a b) (b (zU c 8 f 9 d 59 i) h g)) f) λb=>aD a 36 [i] d g (λd e g=>aJ b λb=>av d (eX c λa=>b (zV c 6 (.func (.func 35) [h] []) 7 i 43 d 6 (.func (.func 37) [a] [])) e g) (aD a 38 [i] e g (λa e f=>aJ b λb=>av a (eX c λg=>b (J (zV c 6 (.func (.func 35) [h] []) 7 i 43 d 48 a) 6 (.func (.func 39) [g] [])) e f) (b (zV c 6 (.func (.func 35) [h] []) 7 i 43 d 48 a) e f)) f)) f) λa=>av i (a (J c 29 i) d g) (h (J c 29 i) d g)) (zT b 4 c 5 .ax) d g) f) λf=>av h (aa (dl [.Z 0,.Z 0] [(0,1,.Z 3)]) λb=>pO a d 2 c b λa b=>e (.tuple [.ax,b]) a g) (f (zU (bN [b]) 2 .ax 3 c 12 h) d g)
theorem Lb:dV X 18 [a0] (Di X a0):=⟨Zk,Zk⟩
def DA:Za0:=λa b c d e f=>aJ (λ_ a b=>e (.tuple []) a b) λg=>cF (λb c d h=>cU (h+10) λh=>h1 c 1 a d λ_ _ i=>jM c a d λj=>aa (hG j) λj=>aa (aK .lss i j) λi=>aJ (λc d g=>aJ b λb=>aJ b λb=>cU (g+12) λg=>jM c a d λh=>h1 c 1 a d λ_ _ i=>aa (ia h i) λh=>aD a 57 [.str [32,9,10,13],h] d g (λd g h=>mA d λd=>aJ b λb=>av d (vw c a g λa=>b (J c 12 d) a h) (cU (h+11) λh=>jM c a g λi=>h1 c 1 a g λ_ _ j=>aa (hJ i (some j) none) λi=>aD a 58 [i,.str [45,45]] g h (λg h i=>aJ b λb=>av g (cU (i+15) λe=>h1 c 1 a h λi j k=>c1 c 0 0 λl m=>dC m 1 a h λ_ m=>aD a 59 [l,m,.func (.func 60) [] []] h e (λe f h=>aa (hG e) λe=>aa (aK .add k e) λe=>gB i 1 λi=>aa (ay a f j) λj=>d3 j (some k) (gl a f i e λa=>b (zT c 12 d 31 g) a h)) f) (e (.tuple []) h i)) f)) f) λa=>av i (a (J c 11 i) d h) (g (J c 11 i) d h)) (bN [b]) c d
theorem LG:dV X 34 [a0] (DA X a0):=⟨Zk,Zk⟩
def DB:Za0:=λa b c d e f=>nr d a c λc d g=>aa (ca a d 17 (.ptr 0 0)) λh=>aJ (λb c d=>ya λf=>jL b 2 a c 7 f λa b=>e (.tuple [b,.zT]) a d) λi=>cF (λb c d g=>rY c 7 17 λh=>aJ (λc d g=>fe (λa c d=>c9 a 7 λe=>b (J a 7 e) c d) c 6 7 λb h i=>aa (ky false 17 1 h i) λh=>cU (g+11) λg=>jM c a d λi=>h1 c 1 a d λ_ _ j=>aa (hJ i (some j) none) λi=>aD a 58 [i,h] d g (λd f g=>aJ b λb=>av d (x8 6 1 h λb=>jL c 2 a f 7 b λa b=>e (.tuple [b,.zV]) a g) (b (zT c 5 h 20 d) f g)) f) λa=>av h (a (J c 8 h) d g) (i (J c 8 h) d g)) (zV (bN [b]) 2 c 3 .zT 6 h 7 (.Z 0)) d g
theorem LI:dV X 35 [a0] (DB X a0):=⟨Zk,Zk⟩
def DC:Za0:=λ_ a b c d _=>aa (aK .geq a (.int .u8 48)) λe=>fL e a b c λa b c=>cR e (aK .leq a (.int .u8 57)) b c λa b c=>bT (λa=>d a b c) λb=>av e (b a) (b .zT)
theorem LK:dV X 36 [a0] (DC X a0):=⟨Zk,Zk⟩
def DD:Za0:=λa b c d e f=>nr d a c λc d g=>dC b 1 a d λ_ h=>aD a 59 [b,h,.func (.func 36) [] []] d g (λd g h=>aD a 61 [d,.Z 10,.Z 64] g h (λg h i=>eG g λg j=>aa (b7 a h .neq 138 true j .nilIface) λk=>d7 k d h i λh i l=>dc k (hG h) i l λh i l=>dc k (aK .gtr h (.Z 20)) i l λh i l=>bT (λh=>aJ (λb c d=>c1 b 0 0 λg h=>dC h 1 a c λ_ h=>eX b λi=>aa (hG i) λi=>aa (aK .add h i) λh=>aD a 59 [g,h,.func (.func 62) [] []] c d (λc d g=>aa (b7 a d .eql 9 true c (.str [])) λh=>aJ (λb c d=>bu (b 7) λg=>ou a 63 g c d f λc d g h=>tv d a c λc d i=>aa (cW a d 3 c g) λd=>cU (i+19) λg=>c1 b 4 7 λi j=>aa (b7 a d .add 9 false i j) λk=>hu b λl=>f6 a d c λm=>aa (dl [.Z 0,.str [],.Z 0,.int .u64 0,.zT,.zT,.Z 0] [(0,1,.Z 5),(1,1,k),(3,1,l),(4,3,m)]) λl=>ye h c d a λd n=>bT (λd=>gc d (ca a n 3 c) n λh n=>sR d (b 5) n λn o=>gM d (λb=>aD a 64 [h,n] o g b f) o g λf g h=>bT (λd=>aa (b7 a g .add 9 false i j) λf=>d3 f (some k) (f6 a g c λc=>d3 c (some m) (jL b 2 a g 7 l λa b=>e (.tuple [b,d]) a h))) λa=>av d (a f) (a .zT)) λa=>av h (a d) (a .zT)) λf=>av h (c1 b 4 5 λc f=>aa (dl [.Z 0,.str [],.Z 0,.int .u64 0,.zT,.zT,.Z 0] [(0,1,.Z 4),(1,1,c),(3,1,f)]) λc=>jL b 2 a d 7 c λa b=>e (.tuple [b,.zV]) a g) (f (zT b 7 c 39 h) d g)) f) λf=>av h (ya λb=>pO a i 7 c b λa b=>e (.tuple [b,.zT]) a l) (f (zT (zV (bN [b]) 2 c 3 .zT 4 d 5 g) 6 j 27 h) i l)) λa=>av k (a .zV) (a h)) f) f
theorem LM:dV X 37 [a0] (DD X a0):=⟨Zk,Zk⟩
def DE:Za0:=λ_ a b c d _=>aa (aK .geq a (.int .u8 97)) λe=>fL e a b c λb c f=>cR e (aK .leq b (.int .u8 122)) c f λb c f=>bT (λb=>d7 b a c f λc e f=>dc b (aK .geq c (.int .u8 65)) e f λc e f=>d7 b c e f λc e f=>fL c a e f λe f g=>cR c (aK .leq e (.int .u8 90)) f g λe f g=>hD b (λa=>bT (λb=>a b f g) λa=>av c (a e) (a .zT)) f g λc e f=>bT (λb=>d7 b a e f λa c e=>dc b (aK .eql a (.int .u8 95)) c e λa c e=>bT (λa=>d a c e) λc=>av b (c .zV) (c a)) λa=>av b (a .zV) (a c)) λa=>av e (a b) (a .zT)
theorem LO:dV X 38 [a0] (DE X a0):=⟨Zk,Zk⟩
def DF:Za0:=λa b c d e f=>nr d a c λc d g=>dC b 1 a d λ_ h=>aD a 59 [b,h,.func (.func 62) [] []] d g (λd g h=>x8 1 1 d λi=>mz h a g i λg h i=>ou a 63 d i h f λh i j k=>tv i a h λh i l=>aa (cW a i 3 h j) λi=>aJ (λb c d=>hu b λf=>aa (ca a c 7 f) λf=>eX b λg=>aa (hG g) λg=>aa (aK .leq g (.Z 32)) λg=>jL b 2 a c 7 f λa b=>e (.tuple [b,g]) a d) λe=>av k (cU (l+5) λf=>f6 a i h λj=>aa (es 0 g) λl=>kP a i l 3 λi=>aa (es 4 g) λl=>f6 a i h λm=>d3 m (some j) (aa (cW a i 3 l j) λa=>e (zU (zV (bN [b]) 2 c 3 .zT 4 d 5 g) 6 h 7 k 21 k) a f)) (aD a 65 [d] i l (λf i j=>aJ e λe=>av f (aa (es 0 g) λl=>kP a i l 2 λa=>e (zV (zV (bN [b]) 2 c 3 .zT 4 d 5 g) 6 h 7 k 21 k 26 f) a j) (e (zV (zV (bN [b]) 2 c 3 .zT 4 d 5 g) 6 h 7 k 21 k 26 f) i j)) f)) f
theorem LQ:dV X 39 [a0] (DF X a0):=⟨Zk,Zk⟩
def DW:Za1:=λa b c d e f g=>aD a 95 [b,c] d e f g
theorem Mp:dV X 57 [a0,aL] (DW X a0 aL):=⟨Zk,Zk⟩
def DX:Za1:=λa b c d e f g=>aD a 96 [b,c] d e f g
theorem Mr:dV X 58 [a0,aL] (DX X a0 aL):=⟨Zk,Zk⟩
def DY:Za2:=λa b c d e f g h=>aJ (λb c d=>jM b a c λa=>c1 b 1 7 λb e=>aa (hJ a (some b) (some e)) λa=>g a c d) λg=>cF (λb c d e=>c1 c 7 0 λf i=>dC i 0 a d λ_ i=>aa (hG i) λi=>aa (aK .lss f i) λf=>hE f (c 2) d e λd e i=>hE f (c 0) e i λe i j=>om f e i j 0 a λe i j=>hE f (c 7) i j λi j k=>cR f (ia e i) j k λe i j=>gM f (λb=>e9 a d [e] i j b h) i j λa d e=>bT (λa=>aJ (λa c d=>aJ b λb=>c9 a 7 λe=>b (J a 7 e) c d) λb=>av a (b (J c 25 a) d e) (g (J c 25 a) d e)) λb=>av f (b a) (b .zT)) (zT (bN [b,c,d]) 6 (.str []) 7 c) e f
theorem Mt:dV X 59 [a0,aL,bt] (DY X a0 aL bt):=⟨Zk,Zk⟩
def DZ:Za0:=λ_ a b c d _=>aa (aK .neq a (.int .u8 10)) λa=>d a b c
theorem Mx:dV X 60 [a0] (DZ X a0):=⟨Zk,Zk⟩
def D0:Za2:=λa b c d e f g h=>aD a 97 [b,c,d] e f (λe f i=>eG e λe j=>aa (b7 a f .neq 138 true j .nilIface) λk=>aJ (λa b c=>bu (a 8) λa=>g (.tuple [a,.nilIface]) b c) λl=>av k (aD a 98 [.str [80,97,114,115,101,85,105,110,116],b,c,d,j] f i (λa b c=>g (.tuple [e,a]) b c) h) (l (J (zV (bN [b,c,d]) 6 (.int .u64 0) 7 .nilIface 8 e 9 j) 18 k) f i)) h
theorem Mz:dV X 61 [a0,aL,bt] (D0 X a0 aL bt):=⟨Zk,Zk⟩
def D1:Za0:=λa b c d e f=>aD a 38 [b] c d (λc d g=>d7 c b d g λb d g=>hD c (λc=>aD a 36 [b] d g c f) d g λa b d=>bT (λa=>e a b d) λb=>av c (b .zV) (b a)) f
theorem MB:dV X 62 [a0] (D1 X a0):=⟨Zk,Zk⟩
def D2:Za0:=λa b c d e f=>tv d a c λc d g=>aa (b7 a d .eql 9 true b (.str [98,111,111,108])) λh=>aJ (λb c d=>cN b λg=>aa (b7 a c .eql 9 true g (.str [])) λg=>lb g (b 0) c d λc d h=>dc g (ia c (.Z 0)) d h λc d h=>dc g (aK .neq c (.int .u8 117)) d h λc d h=>d7 g c d h λc d h=>hE c (b 0) d h λd h i=>cR c (ia d (.Z 0)) h i λd h i=>cR c (aK .neq d (.int .u8 105)) h i λd h i=>hD g (λa=>bT (λb=>a b h i) λa=>av c (a d) (a .zT)) h i λc d h=>bT (λc=>aJ (λb c d=>ol b 1 λg=>ou a 99 g c d f λc d g h=>cN b λi=>vs i 105 λi=>aa (dl [.zT,.zT,.Z 0] [(1,1,i),(2,1,g)]) λi=>tv d a c λc d j=>aa (cW a d 3 c i) λd=>aa (b7 a d .neq 138 true h .nilIface) λi=>dc i (ca a d 3 c) d j λd j k=>r2 i (λb=>aD a 100 [d] j k b f) j k λd j k=>bT (λd=>dc d (ca a j 3 c) j k λi j k=>hD d (λb=>aD a 101 [i] j k b f) j k λf i j=>lb d (b 0) i j λi j k=>dc d (b7 a j .neq 9 false f i) j k λf i j=>bT (λd=>aJ (λb c d=>bu (b 6) λf=>f6 a c f λf=>jL b 2 a c 3 f λa b=>e (.tuple [b,.zV]) a d) λf=>av d (aa (dl [.zT,.zT,.Z 0] []) λc=>jL b 2 a i 3 c λa b=>e (.tuple [b,.zT]) a j) (f (zV b 4 g 5 h 6 c 46 d) i j)) λa=>av d (a .zV) (a f)) λa=>av i (a .zV) (a d)) λf=>av c (aa (dl [.zT,.zT,.Z 0] []) λc=>jL b 2 a d 3 c λa b=>e (.tuple [b,.zT]) a h) (f (J b 21 c) d h)) λa=>av g (a .zV) (a c)) λf=>av h (aa (dl [.zT,.zT,.Z 0] [(0,1,.zV),(2,1,.Z 1)]) λb=>aa (cW a d 3 c b) λb=>f6 a b c λa=>e (.tuple [a,.zV]) b g) (f (zU (bN [b]) 2 c 3 .zT 8 h) d g)
theorem MD:dV X 63 [a0] (D2 X a0):=⟨Zk,Zk⟩
def D3:Za1:=λa b c d e f g=>eW a d e b λd e h=>cS 1 d a e λ_ i=>aJ (λb c d=>gD b λe=>f6 a c e λe=>hL b λb=>aD a 102 [e,b] c d f g) λg=>av i (cS 2 d a e λ_ j=>kO j λj=>aa (dl [.zT,.zT,.Z 0] [(2,1,j)]) λj=>aa (cW a e 3 d j) λe=>cS 2 d a e λ_ a=>jg a 0 g λa g=>av a (aa (aK .eql c (.int .u64 0)) λa=>f a e h) (g (zV (bN [b,c]) 2 d 4 .zT 6 i 13 a) e h)) (g (zU (bN [b,c]) 2 d 4 .zT 6 i) e h)
theorem MF:dV X 64 [a0,aL] (D3 X a0 aL):=⟨Zk,Zk⟩
def D4:Za0:=λa b c d e _=>aa (ay a c (.ptr 1 0)) λf=>aa (fb a c 9 .zT f b false) λa=>e a c d
theorem MH:dV X 65 [a0] (D4 X a0):=⟨Zk,Zk⟩
def Eu:Za1:=λa b c d e f g=>aD a 128 [b,c] d e f g
theorem Ni:dV X 95 [a0,aL] (Eu X a0 aL):=⟨Zk,Zk⟩
def Ev:Za1:=λa b c d e f _=>aa (hG b) λg=>aa (hG c) λh=>aa (aK .geq g h) λg=>fL g b d e λb d e=>fL g c d e λd e h=>cR g (hG d) e h λd e h=>cR g (hJ b none (some d)) e h λb d e=>fL g c d e λc d e=>cR g (b7 a d .eql 9 false b c) d e λa b c=>bT (λa=>f a b c) λb=>av g (b a) (b .zT)
theorem Nk:dV X 96 [a0,aL] (Ev X a0 aL):=⟨Zk,Zk⟩
def Ew:Za2:=λa b c d e f g h=>aa (b7 a e .eql 9 true b (.str [])) λi=>aJ (λb c d=>jf b 1 0 λe=>cN b λf=>aJ (λb c d=>jf b 2 0 λe=>aJ (λb c d=>hL b λe=>aJ (λb c d=>I7 b λe=>aa (aK .shl (.int .u64 1) e) λe=>aa (aK .sub e (.int .u64 1)) λe=>cN b λf=>ek (xF a c d f) c d λc d f=>ec c (λb c d=>bu (b 12) λe=>hE e (b 9) c d λc d f=>gM e (λb=>aD a 130 [c] d f b h) d f λa c d=>cR e (dX .not a) c d λa c d=>bT (λa=>aJ (λa b c=>bu (a 13) λa=>g (.tuple [a,.nilIface]) b c) λe=>av a (iK 2 λa=>g (.tuple [.int .u64 0,a]) c d) (e (J b 169 a) c d)) λb=>av e (b a) (b .zT)) λi j=>cF (λb c d e=>dD c 101 100 λf=>aJ (λc d e=>h0 (λa c d=>c9 a 101 λe=>b (J a 101 e) c d) c 99 101 a d λb f=>aJ (λa c d=>c1 a 16 1 λe f=>aa (hA .u8 f) λf=>aa (aK .geq e f) λe=>aJ (λa c d=>c1 a 13 10 λe f=>aa (aK .geq e f) λe=>aJ (λa c d=>c1 a 13 1 λe f=>aa (hA .u64 f) λf=>aa (aK .mul e f) λe=>bu (a 16) λf=>aa (hA .u64 f) λf=>aa (aK .add e f) λf=>aa (aK .lss f e) λh=>d7 h f c d λc d i=>lb h (a 11) d i λd i j=>dc h (aK .gtr c d) i j λc d i=>bT (λc=>aJ (λa c d=>bu (a 17) λe=>b (J a 13 e) c d) λb=>av c (bu (a 11) λa=>iK 1 λb=>g (.tuple [a,b]) d i) (b (zU a 13 e 17 f 159 c) d i)) λa=>av h (a .zV) (a c)) λb=>av e (bu (a 11) λa=>iK 1 λb=>g (.tuple [a,b]) c d) (b (J a 141 e) c d)) λb=>av e (iK 2 λa=>g (.tuple [.int .u64 0,a]) c d) (b (J a 137 e) c d)) λi=>aa (aK .eql f (.int .u8 95)) λj=>hE j (c 8) d e λd e k=>bT (λd=>aJ i λi=>av d (b (zV c 15 f 16 (.int .u8 0) 106 d 12 .zV) e k) (aa (aK .leq (.int .u8 48) f) λb=>fL b f e k λe j k=>cR b (aK .leq e (.int .u8 57)) j k λe j k=>bT (λb=>aJ i λe=>av b (aa (aK .sub f (.int .u8 48)) λa=>e (J (zV c 15 f 16 (.int .u8 0) 106 d 112 b) 16 a) j k) (aD a 129 [f] j k (λi j k=>aa (aK .leq (.int .u8 97) i) λi=>fL i f j k λj k l=>gM i (λb=>aD a 129 [j] k l b h) k l λj k l=>cR i (aK .leq j (.int .u8 122)) k l λj k l=>bT (λi=>aJ e λe=>av i (aD a 129 [f] k l (λa g h=>aa (aK .sub a (.int .u8 97)) λa=>aa (aK .add a (.int .u8 10)) λa=>e (zT (zV c 15 f 16 (.int .u8 0) 106 d 112 b) 121 i 16 a) g h) h) (iK 2 λa=>g (.tuple [.int .u64 0,a]) k l)) λa=>av i (a j) (a .zT)) h)) λa=>av b (a e) (a .zT))) λa=>av j (a d) (a .zT)) λa=>av f (a (J c 102 f) d e) (j (J c 102 f) d e)) (zT (zV b 11 e 12 .zT 13 (.int .u64 0) 99 c) 100 i 101 (.Z 0)) d f) λa=>jg e 10 a λa f=>av a (f (zV b 10 (.int .u64 0) 85 e 90 a 10 (.int .u64 1844674407370955162)) c d) (jg e 16 f λf g=>av f (g (J (zV b 10 (.int .u64 0) 85 e 90 a 92 f) 10 (.int .u64 1152921504606846976)) c d) (hL b λh=>aa (hA .u64 h) λh=>aa (aK .quo (.int .u64 18446744073709551615) h) λh=>aa (aK .add h (.int .u64 1)) λh=>g (J (zV b 10 (.int .u64 0) 85 e 90 a 92 f) 10 h) c d))) λa=>av e (a (zT b 77 e 2 (.Z 64)) c d) (rY b 2 0 λf=>lb f (b 2) c d λc d h=>dc f (aK .gtr c (.Z 64)) d h λc d h=>bT (λc=>aJ a λa=>av c (iK 4 λa=>g (.tuple [.int .u64 0,a]) d h) (a (zT b 77 e 83 c) d h)) λa=>av f (a .zV) (a c))) λi=>hL b λj=>aa (aK .leq (.Z 2) j) λj=>hE j (b 1) c d λc d k=>cR j (aK .leq c (.Z 36)) d k λc d k=>bT (λc=>aJ i λi=>av c (i (zU b 8 e 9 f 25 c) d k) (jf b 1 0 λj=>aJ i λi=>av j (cN b λg=>vs g 48 λg=>aJ i λi=>av g (aJ i λi=>x7 b d k λd k l m=>gM d (λb=>aD a 129 [k] l m b h) l m λk l m=>cR d (aK .eql k (.int .u8 98)) l m λk l m=>bT (λd=>aJ i λi=>av d (ol b 2 λa=>i (J (zV (zV b 8 e 9 f 25 c 32 j) 1 (.Z 10) 37 g 40 d 1 (.Z 2)) 0 a) l m) (x7 b l m λk l m n=>gM k (λb=>aD a 129 [l] m n b h) m n λl m n=>cR k (aK .eql l (.int .u8 111)) m n λl m n=>bT (λk=>aJ i λi=>av k (ol b 2 λa=>i (zT (zV (zV b 8 e 9 f 25 c 32 j) 1 (.Z 10) 37 g 40 d 52 k) 1 (.Z 8) 0 a) m n) (x7 b m n λl m n o=>gM l (λb=>aD a 129 [m] n o b h) n o λa h m=>cR l (aK .eql a (.int .u8 120)) h m λa h m=>bT (λa=>aJ i λi=>av a (ol b 2 λl=>i (zU (zV (zV b 8 e 9 f 25 c 32 j) 1 (.Z 10) 37 g 40 d 52 k) 64 a 1 (.Z 16) 0 l) h m) (ol b 1 λl=>i (zU (zV (zV b 8 e 9 f 25 c 32 j) 1 (.Z 10) 37 g 40 d 52 k) 64 a 1 (.Z 8) 0 l) h m)) λb=>av l (b a) (b .zT))) λa=>av k (a l) (a .zT))) λa=>av d (a k) (a .zT)) (i (zT (zV b 8 e 9 f 25 c 32 j) 1 (.Z 10) 37 g) d k)) (iK 3 λa=>g (.tuple [.int .u64 0,a]) d k))) λa=>av j (a c) (a .zT)) λa=>av i (iK 2 λa=>g (.tuple [.int .u64 0,a]) e f) (a (zU (bN [b,c,d]) 6 (.int .u64 0) 7 .nilIface 19 i) e f)
theorem Nn:dV X 97 [a0,aL,bt] (Ew X a0 aL bt):=⟨Zk,Zk⟩
def Ex:Za4:=λa b c d e f g h i j=>aJ (λa b c=>eX a λa=>i a b c) λk=>iK 2 λl=>aa (b7 a g .eql 138 false f l) λl=>aJ k λk=>av l (aD a 131 [b,c] g h (λa b c=>aa (some (z.iface 207 a)) λa=>i a b c) j) (iK 1 λm=>aa (b7 a g .eql 138 false f m) λm=>aJ k λk=>av m (aD a 132 [b,c] g h (λa b c=>aa (some (z.iface 207 a)) λa=>i a b c) j) (iK 3 λn=>aa (b7 a g .eql 138 false f n) λn=>aJ k λk=>av n (aD a 133 [b,c,d] g h (λa b c=>aa (some (z.iface 207 a)) λa=>i a b c) j) (iK 4 λo=>aa (b7 a g .eql 138 false f o) λo=>aJ k λk=>av o (aD a 134 [b,c,e] g h (λa b c=>aa (some (z.iface 207 a)) λa=>i a b c) j) (k (zT (zV (bN [b,c,d,e,f]) 10 .nilIface 11 f 12 l 19 m) 26 n 34 o) g h))))
theorem Np:dV X 98 [a0,aL,bt,a3,a4] (Ex X a0 aL bt a3 a4):=⟨Zk,Zk⟩
def Ey:Za0:=λa b c d e f=>ou a 135 b c d f λc d g h=>aa (b7 a c .neq 138 true h .nilIface) λi=>aJ (λa b c=>eX a λa=>e (.tuple [a,.nilIface]) b c) λj=>av i (aD a 98 [.str [65,116,111,105],b,.Z 0,.Z 0,h] c d (λa b c=>e (.tuple [g,a]) b c) f) (j (J (zV (bN [b]) 2 (.Z 0) 3 .nilIface 4 g 5 h) 12 i) c d)
theorem Nr:dV X 99 [a0] (Ey X a0):=⟨Zk,Zk⟩
def Cn:Za0:=λa b c d e f=>eW a c d b λc d g=>aJ (λb c d=>fd b 1 2 a c λ_ b=>aD a 136 [b] c d (λb c d=>aa (b7 a c .add 9 true (.str [117]) b) λa=>e a c d) f) λh=>jK a d 3 c 100 g f λd g i=>oq d h λd h=>av d (e (.str []) g i) (cS 0 c a g λ_ j=>aJ h λh=>av j (e (.str [98,111,111,108]) g i) (cS 1 c a g λ_ k=>aJ h λh=>av k (oo 2 c a g 136 i f λb c d=>aa (b7 a c .add 9 true (.str [105]) b) λa=>e a c d) (h (J (zV (bN [b]) 1 c 2 (.str []) 3 d 7 j) 10 k) g i)))
theorem Jn:dV X 101 [a0] (Cn X a0):=⟨Zk,Zk⟩
def Co:Za1:=λa b c d e f g=>eW a d e b λb d e=>jK a d 3 b 100 e g λd e h=>fL d c e h λc e h=>cR d (ca a e 3 b) e h λb e h=>gM d (λc=>aD a 137 [b] e h c g) e h λa b e=>cR d (aK .andNot c a) b e λa b c=>cR d (aK .eql a (.int .u64 0)) b c λa b c=>bT (λa=>f a b c) λb=>av d (b a) (b .zT)
theorem Jp:dV X 102 [a0,aL] (Co X a0 aL):=⟨Zk,Zk⟩
def CN:Za1:=λa b c d e f g=>cU (e+7) λh=>aa (ay a d (.ptr 5 0)) λi=>aD a 150 [c] d h (λc d g=>aa (dl [.str [],.str [],.nilIface] [(0,1,b),(1,1,c),(2,1,i)]) λb=>nF a d (e+5) b λb c=>aa (ay a c (.ptr 5 0)) λa=>d3 a (some i) (f b c g)) g
theorem J9:dV X 131 [a0,aL] (CN X a0 aL):=⟨Zk,Zk⟩
def CO:Za1:=λa b c d e f g=>cU (e+7) λh=>aa (ay a d (.ptr 6 0)) λi=>aD a 150 [c] d h (λc d g=>aa (dl [.str [],.str [],.nilIface] [(0,1,b),(1,1,c),(2,1,i)]) λb=>nF a d (e+5) b λb c=>aa (ay a c (.ptr 6 0)) λa=>d3 a (some i) (f b c g)) g
theorem Kb:dV X 132 [a0,aL] (CO X a0 aL):=⟨Zk,Zk⟩
def CP:Za0:=λa b c d e f=>aa (hG b) λg=>iY (λc d h=>iY (λc d h=>iY (λc d h=>fL c g d h λd h i=>cR c (aK .lss d (.Z 10)) h i λd h i=>iY (λc d h=>bT (λc=>d7 c .zV d h λd h i=>fL d g h i λh i j=>cR d (aK .lss (.Z 0) h) i j λh i j=>fL d h i j λh i j=>fL h g i j λi j k=>cR h (aK .lss i (.Z 19)) j k λi j k=>gM d (λa=>bT (λb=>a b j k) λa=>av h (a i) (a .zT)) j k λh i j=>hD c (λa=>bT (λb=>a b i j) λa=>av d (a h) (a .zT)) i j λd h i=>bT (λc=>aJ (λb c d=>cN b λb=>aD a 152 [b,.Z 10,.Z 0] c d (λa b c=>eG a λa d=>e (.tuple [a,d]) b c) f) λd=>av c (vs b 45 λd=>d7 d b h i λf h i=>dc d (ia f (.Z 0)) h i λf h i=>dc d (aK .eql f (.int .u8 43)) h i λf h i=>bT (λd=>aJ (λb c d=>cN b λf=>ek (xF a c d f) c d λc d f=>ec c (λa b c=>hu a λd=>vs d 45 λd=>aJ (λa b c=>bu (a 6) λa=>e (.tuple [a,.nilIface]) b c) λe=>av d (bu (a 6) λf=>aa (dX .neg f) λf=>e (zT a 66 d 6 f) b c) (e (J a 66 d) b c)) λg h=>cF (λb c d f=>dD c 49 48 λg=>aJ (λc d f=>h0 (λa c d=>c9 a 49 λe=>b (J a 49 e) c d) c 47 49 a d λa b=>aa (aK .sub b (.int .u8 48)) λg=>aa (aK .gtr g (.int .u8 9)) λh=>aJ (λb c d=>bu (b 6) λe=>aa (aK .mul e (.Z 10)) λe=>bu (b 8) λf=>aa (hA .i64 f) λf=>aa (aK .add e f) λe=>a (J b 6 e) c d) λa=>av h (iK 2 λa=>e (.tuple [.Z 0,a]) d f) (a (zU c 8 b 8 g 56 h) d f)) λa=>av g (a (J c 50 g) d f) (h (J c 50 g) d f)) (zV b 6 (.Z 0) 47 c 48 g 49 (.Z 0)) d f) λa=>av d (aa (hJ b (some (.Z 1)) none) λf=>aa (hG f) λj=>aa (aK .lss j (.Z 1)) λj=>aJ a λa=>av j (iK 2 λa=>e (.tuple [.Z 0,a]) h i) (a (zV (zV (bN [b]) 2 (.Z 0) 3 .nilIface 4 g 30 c) 5 b 39 d 0 f 44 j) h i)) (a (zT (zV (bN [b]) 2 (.Z 0) 3 .nilIface 4 g 30 c) 5 b 39 d) h i)) λa=>av d (a .zV) (a f)) (d (zV (bN [b]) 2 (.Z 0) 3 .nilIface 4 g 30 c) h i)) λa=>av c (a .zV) (a d)) λa=>av .zT (a c) (a .zT)) λa=>e8 true .zT (bT (λb=>a b h i) λa=>av c (a d) (a .zT)) (a aF.undef h i)) λa=>e8 true .zT (a c d h) (a aF.undef d h)) λa=>e8 true .zT (aa (aK .lss (.Z 0) c) λb=>a b d h) (a aF.undef d h)) λa=>e8 true .zT (a g c d) (a aF.undef c d)
theorem Kd:dV X 135 [a0] (CP X a0):=⟨Zk,Zk⟩
def CR:Za0:=λa b c d e _=>eW a c d b λb c d=>cS 2 b a c λ_ a=>aa (aK .sub (.Z 64) a) λa=>aa (aK .shr (.int .u64 18446744073709551615) a) λa=>e a c d
theorem Kh:dV X 137 [a0] (CR X a0):=⟨Zk,Zk⟩
def C4:Za2:=λa b c d e f g h=>aa (b7 a e .eql 9 true b (.str [])) λi=>aJ (λb c d=>cN b λe=>aa (ia e (.Z 0)) λe=>aJ (λb c d=>c1 b 0 1 λe f=>gD b λi=>aD a 97 [e,f,i] c d (λc d e=>eG c λc f=>aa (b7 a d .neq 138 true f .nilIface) λh=>fL h f d e λd e i=>cR h (some (z.iface 205 (.Z 1))) e i λe i j=>cR h (b7 a i .neq 138 false d e) i j λa d e=>bT (λa=>aJ (λa b c=>jf a 2 0 λd=>aJ (λa b c=>gD a λd=>kO d λd=>aa (hA .u64 d) λd=>aa (aK .shl (.int .u64 1) d) λd=>bu (a 8) λe=>aa (dX .not e) λe=>hE e (a 9) b c λb c f=>fL e d c f λc f h=>cR e (aK .geq b c) f h λb c f=>bT (λb=>aJ (λa b c=>bu (a 8) λd=>hE d (a 9) b c λb c e=>hE d (a 10) c e λc e f=>cR d (aK .gtr b c) e f λb c e=>bT (λb=>aJ (λa b c=>bu (a 9) λd=>aa (hA .i64 d) λd=>bu (a 8) λe=>aJ (λa b c=>bu (a 11) λa=>g (.tuple [a,.nilIface]) b c) λf=>av e (aa (dX .neg d) λg=>f (zU a 11 d 69 e 11 g) b c) (f (zT a 11 d 69 e) b c)) λd=>av b (bu (a 10) λa=>aa (hA .i64 a) λa=>aa (dX .neg a) λa=>iK 1 λb=>g (.tuple [a,b]) c e) (d (J a 62 b) c e)) λa=>av d (a b) (a .zT)) λe=>av b (aa (aK .sub d (.int .u64 1)) λa=>aa (hA .i64 a) λa=>iK 1 λb=>g (.tuple [a,b]) c f) (e (zT a 10 d 52 b) c f)) λa=>av e (a b) (a .zT)) λe=>av d (e (zT a 41 d 2 (.Z 64)) b c) (e (J a 41 d) b c)) λh=>av a (g (.tuple [.Z 0,f]) d e) (h (zV b 9 (.int .u64 0) 9 c 7 f 38 a) d e)) λb=>av h (b a) (b .zT)) h) λa=>aa (aK .eql e (.int .u8 43)) λf=>aJ a λa=>av f (ol b 1 λg=>a (zV b 8 .zT 16 e 17 f 0 g) c d) (aa (aK .eql e (.int .u8 45)) λg=>aJ a λa=>av g (ol b 1 λh=>a (zT (zV b 8 .zT 16 e 17 f 21 g) 0 h 8 .zV) c d) (a (zV b 8 .zT 16 e 17 f 21 g) c d))) λa=>av i (iK 2 λa=>g (.tuple [.Z 0,a]) e f) (a (zU (bN [b,c,d]) 6 (.Z 0) 7 .nilIface 13 i) e f)
theorem KH:dV X 152 [a0,aL,bt] (C4 X a0 aL bt):=⟨Zk,Zk⟩
def CQ:Za0:=λa b c d e f=>aD a 153 [b] c d e f
theorem Kf:dV X 136 [a0] (CQ X a0):=⟨Zk,Zk⟩
def C5:Za0:=λa b c d e f=>aD a 159 [b,.Z 10] c d e f
theorem KJ:dV X 153 [a0] (C5 X a0):=⟨Zk,Zk⟩
def Db:Za1:=λa b c d e f g=>aa (aK .eql c (.Z 10)) λh=>aJ (λb c d=>cN b λe=>aa (hA .u64 e) λe=>c1 b 1 0 λb h=>r0 h λh=>aD a 166 [.ax,e,b,h,.zT] c d (λa b c=>eG a λ_ a=>f a b c) g) λi=>av h (aa (aK .leq (.Z 0) b) λi=>fL i b d e λd e j=>cR i (aK .lss d (.Z 100)) e j λd e j=>bT (λd=>aJ (λb c d=>aa (fX [.int .u8 0,.int .u8 0,.int .u8 0,.int .u8 0,.int .u8 0,.int .u8 0,.int .u8 0,.int .u8 0,.int .u8 0,.int .u8 0,.int .u8 0,.int .u8 0,.int .u8 0,.int .u8 0,.int .u8 0,.int .u8 0,.int .u8 0,.int .u8 0,.int .u8 0,.int .u8 0,.int .u8 0,.int .u8 0,.int .u8 0,.int .u8 0] d) λe=>dQ a c d e.1 e.2 λc d e=>cN b λh=>aa (hA .u64 h) λh=>cN b λi=>r0 i λi=>aJ (λb c d=>bu (b 6) λe=>aD a 164 [e] c d (λc d e=>aa (aK .add (.Z 1) c) λh=>hu b λi=>aa (BO 24 1 i (some (.Z 1)) (some h) none) λh=>bu (b 6) λi=>aD a 165 [h,i] d e (λ_ d e=>cN b λg=>r0 g λg=>aJ (λb c d=>bu (b 7) λe=>aa (aK .add (.Z 1) e) λe=>hu b λb=>aa (BO 24 1 b (some (.Z 1)) (some e) none) λb=>aa (oV a c b) λa=>f a c d) λh=>av g (hu b λg=>aa (sQ 24 1 g (.Z 0)) λg=>aa (cW a d 1 g (.int .u8 45)) λd=>aa (aK .add (.Z 1) c) λc=>hu b λb=>aa (BO 24 1 b none (some c) none) λb=>aa (oV a d b) λa=>f a d e) (h (zT b 7 c 34 g) d e)) g) g) λa=>av i (aa (dX .neg h) λf=>a (zV b 5 c 6 h 23 i 6 f) d e) (a (zU b 5 c 6 h 23 i) d e)) λi=>av d (aD a 163 [b] e j f g) (i (zU (bN [b,c]) 4 (.str []) 11 h 17 d) e j)) λa=>av i (a d) (a .zT)) (i (zT (bN [b,c]) 4 (.str []) 11 h) d e)
theorem KV:dV X 159 [a0,aL] (Db X a0 aL):=⟨Zk,Zk⟩
end
section
variable (X : bi) (q : E S) (u : Nat) (T ab : aY) (a0 aL bt a3 a4 a5 fq fV f9 : z)
def CL:Za0:=λ_ a b c d _=>aa (aK .or a (.int .u8 32)) λa=>d a b c
theorem J5:dV X 129 [a0] (CL X a0):=⟨Zk,Zk⟩
def Df:Za0:=λ_ a b c d _=>aa (aK .lss a (.Z 10)) λe=>aJ (λa b c=>cN a λe=>aa (aK .mul e (.Z 2)) λe=>cN a λa=>aa (aK .mul a (.Z 2)) λa=>aa (aK .add a (.Z 2)) λa=>aa (hJ (.str [48,48,48,49,48,50,48,51,48,52,48,53,48,54,48,55,48,56,48,57,49,48,49,49,49,50,49,51,49,52,49,53,49,54,49,55,49,56,49,57,50,48,50,49,50,50,50,51,50,52,50,53,50,54,50,55,50,56,50,57,51,48,51,49,51,50,51,51,51,52,51,53,51,54,51,55,51,56,51,57,52,48,52,49,52,50,52,51,52,52,52,53,52,54,52,55,52,56,52,57,53,48,53,49,53,50,53,51,53,52,53,53,53,54,53,55,53,56,53,57,54,48,54,49,54,50,54,51,54,52,54,53,54,54,54,55,54,56,54,57,55,48,55,49,55,50,55,51,55,52,55,53,55,54,55,55,55,56,55,57,56,48,56,49,56,50,56,51,56,52,56,53,56,54,56,55,56,56,56,57,57,48,57,49,57,50,57,51,57,52,57,53,57,54,57,55,57,56,57,57]) (some e) (some a)) λa=>d a b c) λf=>av e (ns a λe=>aa (hJ (.str [48,49,50,51,52,53,54,55,56,57,97,98,99,100,101,102,103,104,105,106,107,108,109,110,111,112,113,114,115,116,117,118,119,120,121,122]) (some a) (some e)) λa=>d a b c) (f (zT (bN [a]) 2 (.str []) 4 e) b c)
theorem K5:dV X 163 [a0] (Df X a0):=⟨Zk,Zk⟩
end
open Go.aF Go.ak
def fa(c:Nat):Bool:=decide (48<=c)&&decide (c<=57)
def j3(c:Nat):Bool:=decide (97<=c)&&decide (c<=122)||decide (65<=c)&&decide (c<=90)||decide (c=95)
def fh(c:Nat):Bool:=j3 c||fa c
def pe{s:aA}{i c:Nat}(k:IntKind)(h:s[i]? =some c):ia (.str s) (.int k (i:Int))=some (.int .u8 (c:Int)):=by simp[ia,hV,h]
def BP{s:aA}{l h:Nat}(k c:IntKind)(a:l<=h)(b:h<=s.length):hJ (.str s) (some (.int k (l:Int))) (some (.int c (h:Int)))=some (.str ((s.drop l).take (h-l))):=by simp[hJ,fW,ho,hV,cY,a,b]
def xJ{s:aA}{l:Nat}(k:IntKind)(a:l<=s.length):hJ (.str s) (some (.int k (l:Int))) none=some (.str (s.drop l)):=by simp[hJ,fW,ho,hV,cY,a,Zy]
def abM{s:aA}{h:Nat}(k:IntKind)(a:h<=s.length):hJ (.str s) none (some (.int k (h:Int)))=some (.str (s.take h)):=by simp[hJ,fW,ho,hV,cY,a]
section
variable{X:bi}{q D au am:E S}{u Z ap aw:Nat}
def y9(b:bZ X)(c:Nat):aD X 36 [.int .u8 (c:Int)] q u (λR D Z=>R=.bool (fa c)/\D=q/\Z=u) zX:=by
 refine Fd b (LK ..) ?_;unfold DC;by_cases h:48<=c
 ·have d:decide ((48:Int)<=(c:Int))=true:=by simp;omega
  have a:decide ((c:Int)<=57)=decide (c<=57):=by simp;omega
  refine bE @d @a ⟨?_⟩;exact⟨by simp[fa,h],rfl,rfl⟩
 ·have d:decide ((48:Int)<=(c:Int))=false:=by simp;omega
  refine bo @d ⟨?_⟩;exact⟨by simp[fa,h],rfl,rfl⟩
def EZ(k:bZ X)(c:Nat):aD X 38 [.int .u8 (c:Int)] q u (λR D Z=>R=.bool (j3 c)/\D=q/\Z=u) zX:=by
 refine Fd k (LO ..) ?_;unfold DE;have a:decide ((97:Int)<=(c:Int))=decide (97<=c):=by simp;omega
 have b:decide ((c:Int)<=122)=decide (c<=122):=by simp;omega
 have d:decide ((65:Int)<=(c:Int))=decide (65<=c):=by simp;omega
 have e:decide ((c:Int)<=90)=decide (c<=90):=by simp;omega
 have j:decide ((c:Int)=95)=decide (c=95):=by simp;omega
 by_cases f:97<=c<;>by_cases g:c<=122<;>by_cases h:65<=c<;>by_cases i:c<=90<;>try omega
 all_goals
  simp only[f,g,h,i,YG,Yo]at a b d e;refine dA @a @b @d @e @j ⟨?_⟩;exact⟨by simp[j3,f,g,h,i],rfl,rfl⟩
def Tb(a:bZ X)(c:Nat):aD X 62 [.int .u8 (c:Int)] q u (λR D Z=>R=.bool (fh c)/\D=q/\Z=u) zX:=by refine Fd a (MB ..) ?_;unfold D1;refine(EZ a c).Zm ?_;rintro R D Z ⟨rfl,rfl,rfl⟩;cases W:j3 c with|true=>refine bx ⟨?_⟩;exact⟨by simp[fh,W],rfl,rfl⟩|false=>refine bx ⟨?_⟩;refine(y9 a c).Zm ?_;rintro R D Z ⟨rfl,rfl,rfl⟩;refine bx ⟨?_⟩;exact⟨by simp[fh,W],rfl,rfl⟩
def To(a:bZ X)(c:Nat):aD X 60 [.int .u8 (c:Int)] q u (λR D Z=>R=.bool (decide (c≠10))/\D=q/\Z=u) zX:=by refine Fd a (Mx ..) ?_;unfold DZ;refine bx ⟨?_⟩;exact⟨by congr 1;simp;omega,rfl,rfl⟩
def j5(c:Nat):Nat:=(BitVec.ofInt 8 (c:Int)|||BitVec.ofInt 8 32).toNat%256
def A9(a:bZ X)(c:Nat):aD X 129 [.int .u8 (c:Int)] q u (λR D Z=>R=.int .u8 (j5 c:Int)/\D=q/\Z=u) zX:=by
 refine Fd a (J5 ..) ?_;unfold CL;have e:aK .or (.int .u8 (c:Int)) (.int .u8 32)=some (.int .u8 (iq .u8 ((BitVec.ofInt 8 (c:Int)|||BitVec.ofInt 8 32).toNat))):=by simp[aK,gL,iZ,gH,gj];rfl
 refine bo @e ⟨?_⟩;exact⟨rfl,rfl,rfl⟩
def HQ(a:bZ X)(s p:aA):aD X 58 [.str s,.str p] q u (λR D Z=>R=.bool (decide (p.length<=s.length/\s.take p.length=p))/\D=q/\Z=u) zX:=by
 refine Fd a (Mr ..) ?_;unfold DX;refine Fd a (Nk ..) ?_;unfold Ev;by_cases h:p.length<=s.length
 ·have d:decide ((p.length:Int)<=(s.length:Int))=true:=by simp;omega
  have e:=abM (s:=s) .i64 h;refine bE @d @e ⟨?_⟩;exact⟨by congr 1;simp[h],rfl,rfl⟩
 ·have d:decide ((p.length:Int)<=(s.length:Int))=false:=by simp;omega
  refine bo @d ⟨?_⟩;exact⟨by congr 1;simp;omega,rfl,rfl⟩
def vK(X:bi)(f:z)(p:Nat->Bool):Prop:=∃k,f=.func (.func k) [] []/\∀(q:E S) (u c:Nat),aD X k [.int .u8 (c:Int)] q u (λR D Z=>R=.bool (p c)/\D=q/\Z=u) zX
def aba{X:bi}(a:bZ X):vK X (.func (.func 36) [] []) fa:=⟨_,rfl,λq u c=>y9 a c⟩
def H2{X:bi}(a:bZ X):vK X (.func (.func 62) [] []) fh:=⟨_,rfl,λq u c=>Tb a c⟩
def abb{X:bi}(a:bZ X):vK X (.func (.func 60) [] []) (λc=>decide (c≠10)):=⟨_,rfl,λq u c=>To a c⟩
structure hO(X:bi)(q:E S)(dI:Nat)(s:aA)(i:Nat):Prop where
 g:H X q dI=zP [.str s,.Z (i:Int)] 2
 le:i<=s.length
 many:s.length<=65536
 bn:(y X).aB<=dI
def hO.b8{X:bi}{q:E S}{dI:Nat}{s:aA}{i:Nat}(h:hO X q dI s i):ay X q (.ptr dI 0)=some (.str s):=by rw[a8 h.g];rfl
def hO.bV{X:bi}{q:E S}{dI:Nat}{s:aA}{i:Nat}(h:hO X q dI s i):ay X q (.ptr dI 1)=some (.Z i):=by rw[a8 h.g];rfl
def hO.M{X:bi}{q D:E S}{dI:Nat}{s:aA}{i:Nat}(h:hO X q dI s i)(k:H X D dI=H X q dI):hO X D dI s i:=⟨by rw[k];exact h.g,h.le,h.many,h.bn⟩
variable{dI:Nat}{s:aA}{i:Nat}
def xB(v:bZ X){f:z}{p:Nat->Bool}(l:vK X f p)(K:hO X q dI s i){a:Nat}(N:a<=s.length):
 aD X 59 [.ptr dI 0,.Z (a:Int),f] q u (λR D Z=>R=.str ((s.drop a).takeWhile p)/\D=q/\Z=u) zX:=by
 refine Fd v (Mt ..) ?_;unfold DY;obtain⟨k,rfl,l⟩:=l;have P:=K.many;have b8:=K.b8;refine bx ⟨?_⟩;refine cM (λm B D G=>∃(e:Nat),B.g 0=some (.ptr dI 0)/\B.g 1=some (.Z a)/\B.g 2=some (.func (.func k) [] [])/\B.g 7=some (.Z e)/\a<=e/\e+m=s.length/\D=q/\G=u/\(s.drop a).takeWhile p=(s.drop a).take (e-a)++(s.drop e).takeWhile p)
  (s.length-a) ⟨a,aC,aC,aC,aC,Zg _,Zo,rfl,rfl,Zs⟩ ?_
 rintro m B am aw ⟨e,t0,t1,n,g,w,O,rfl,rfl,b⟩;have t:=zQ e;have aE:hJ (.str s) (some (.Z a)) (some (.Z e))=some (.str ((s.drop a).take (e-a))):=BP .i64 .i64 w Zo;cases m with
 |zero=>have d:=zM e s.length;rw[ZM (by omega:s.length<=e),List.takeWhile_nil,ZY]at b;refine cu @g @t0 @t1 @n @b8 @d @aE ⟨?_⟩;exact⟨by rw[b],rfl,rfl⟩|succ m=>
  have d:=zN e s.length;obtain⟨c,j⟩:=zO s e;have ai:s.drop e=c::s.drop (e+1):=by obtain⟨A,C⟩:=Ze.1 j;rw[Zz A,C]
  have x:=pe .i64 j;refine cu @g @t0 @t1 @n @b8 @d @x ⟨?_⟩;refine(l am aw c).Zm ?_;rintro R L T0 ⟨rfl,rfl,rfl⟩;rw[ai,YV]at b;cases r:p c with
  |false=>rw[r]at b;simp only[ZA,ZJ,ZY]at b;refine dA @g @t0 @t1 @b8 @aE ⟨?_⟩;exact⟨by rw[b],rfl,rfl⟩|true=>
   rw[r]at b;simp only[ZL]at b;refine bE @g @t ⟨?_⟩;refine⟨m,Zo,e+1,af t0,af t1,af n,aC,Zo,Zo,rfl,rfl, ?_⟩;rw[b,show e+1-a=(e-a)+1 by omega,ZD]
   have:(s.drop a)[e-a]? =some c:=by rw[zg,show a+(e-a)=e by omega];exact j
   rw[this];simp
def uB(c:Nat):Bool:=decide (c=32)||decide (c=9)||decide (c=10)||decide (c=13)
structure e5(X:bi):Prop extends bZ X where
 idx:∀c:Nat,c<256->∃aj:Int,X.O 128 [.str [32,9,10,13],.int .u8 (c:Int)]=some (.Z aj)/\(0<=aj↔uB c=true)
 clone:∀s:aA,(∀c∈s,c<256)->s.length<=65536->X.O 150 [.str s]=some (.str s)
def ix(s:aA):Nat->Nat->Nat
 |0,i=>i|n+1,i=>match s[i]? with
  |none=>i|some c=>if uB c then ix s n (i+1)
   else if 2<=(s.drop i).length/\(s.drop i).take 2=[45,45]then ix s n (i+((s.drop i).takeWhile λc=>decide (c≠10)).length)else i
def rG{α:Type}(p:α->Bool):∀l:List α,(l.takeWhile p).length<=l.length:=by intro l;induction l with|nil=>simp|cons a l U=>rw[YV];split<;>simp<;>omega
def Ru(a:e5 X){c:Nat}(e:c<256):aD X 57 [.str [32,9,10,13],.int .u8 (c:Int)] q u (λR D Z=>(∃aj:Int,R=.Z aj/\(0<=aj↔uB c=true))/\D=q/\Z=u) zX:=by refine Fd a.tobZ (Mp ..) ?_;unfold DW;refine Fd a.tobZ (Ni ..) ?_;unfold Eu;obtain⟨aj,b,d⟩:=a.idx c e;exact qe b ⟨⟨aj,rfl,d⟩,rfl,rfl⟩
def E1(g:e5 X)(K:hO X q dI s i)(W:∀c∈s,c<256)(U2:(y X).aB<=u)(U3:dI<u):
 aD X 34 [.ptr dI 0] q u (λR D Z=>hO X D dI s (ix s s.length i)/\br X [dI] q u D Z) zX:=by
 refine Fd g.tobZ (LG ..) ?_;unfold DA;have P:=K.many;have L:=K.bn;refine bx ⟨?_⟩;refine cM (λm B D T7=>∃(j:Nat),B.g 0=some (.ptr dI 0)/\hO X D dI s j/\s.length<=j+m/\ix s s.length i=ix s m j/\br X [dI] q u D T7)
  s.length ⟨i,aC,K,Zo,rfl,br.refl _ _ _⟩ ?_
 rintro m B am aw ⟨j,t0,e,U0,a,f⟩;have U1:=f.le;have b8:=e.b8;have bV:=e.bV;have N:=e.le;have TZ:=e.g;by_cases T4:j=s.length
 ·subst T4;have p:ix s m s.length=s.length:=by cases m<;>simp[ix]
  have d:decide ((s.length:Int)<(s.length:Int))=false:=by simp
  refine df @t0 @b8 @bV @d ⟨?_⟩;exact⟨by rw[a,p];exact e,f.trans ⟨Zo,λ_ _ _=>rfl⟩⟩
 have d:=zN j s.length;obtain⟨c,k⟩:=zO s j;obtain⟨m,rfl⟩:∃T6,m=T6+1:=⟨m-1,Zo⟩;rw[ix,k]at a;simp only[]at a;have T5:=pe .i64 k;have T3:=W c (Zl k);refine dA @t0 @b8 @bV @d @T5 ⟨?_⟩;refine(Ru g T3).Zm ?_;rintro R T8 U6 ⟨⟨aj,rfl,p⟩,rfl,rfl⟩;cases n:uB c with
 |true=>
  have U5:=p.2 n;have r:decide ((0:Int)<=aj)=true:=by simp;omega
  have v:=zQ j;rw[n]at a;simp only[ZL]at a;refine df @t0 @bV @r @v ⟨?_⟩;refine⟨m,Zo,j+1,af t0,⟨by rw[aM Zo];rfl,Zo,P,L⟩,Zo,a,f.trans ⟨Zo,λb W x=>by simp only[Zq,ZR,YT,Yy,ZO,Ym]at x;exact zR⟩⟩
 |false=>
  have r:decide ((0:Int)<=aj)=false:=by simp;have:=mt p.1 (by rw[n];decide);omega
  have v:hJ (.str s) (some (.Z j)) none=some (.str (s.drop j)):=xJ .i64 N;rw[n]at a;simp only[ZA,ZJ]at a;refine dA @t0 @b8 @bV @r @v ⟨?_⟩;refine(HQ g.tobZ (s.drop j) [45,45]).Zm ?_;rintro R T9 U7 ⟨rfl,rfl,rfl⟩;by_cases l:2<=(s.drop j).length/\(s.drop j).take 2=[45,45]
  ·rw[Zv l]at a;have t:decide ([45,45].length<=(s.drop j).length/\List.take [45,45].length (s.drop j)=[45,45])=true:=decide_eq_true l;have O:=rG (λc=>decide (c≠10)) (s.drop j);rw[YH]at O;generalize A:((s.drop j).takeWhile λc=>decide (c≠10)).length=w at a O;have U4:1<=w:=(by have T2:c=45:=(by have:=l.2;have ai:s.drop j=c::s.drop (j+1):=(by obtain⟨C,G⟩:=Ze.1 k;rw[Zz C,G]);rw[ai]at this;simp at this;exact this.1);have ai:s.drop j=c::s.drop (j+1):=(by obtain⟨C,G⟩:=Ze.1 k;rw[Zz C,G]);rw[ai,T2,YV]at A;simp at A;omega);have T0:aK .add (.Z j) (.Z w)=some (.Z (j+w:Nat)):=(by rw[cp Zo Zo];rfl);simp only[t];refine cg @t0 @b8 @bV ⟨?_⟩;refine(xB g.tobZ (abb g.tobZ) e N).Zm ?_;rintro R TY U8 ⟨rfl,rfl,rfl⟩;have T1:hG (.str ((s.drop j).takeWhile λc=>decide (c≠10)))=some (.Z w):=(by rw[nX,A]);refine cg @T1 @T0 @bV ⟨?_⟩;refine d9 (by simp[z.same]) ?_;refine bx ⟨?_⟩;refine⟨m,Zo,j+w,af t0,⟨by rw[aM Zo];rfl,Zo,P,L⟩,Zo,a,f.trans ⟨Zo,λb W x=>by simp only[Zq,ZR,YT,Yy,ZO,Ym]at x;exact zR⟩⟩
  ·rw[Zi l]at a;have t:decide ([45,45].length<=(s.drop j).length/\List.take [45,45].length (s.drop j)=[45,45])=false:=decide_eq_false l;simp only[t];refine bx ⟨?_⟩;exact⟨by rw[a];exact e,f.trans ⟨Zo,λ_ _ _=>rfl⟩⟩
def lm:aA->Nat->Nat×Nat
 |[],n=>(n,0)|c::l,n=>if fa c then(if 1844674407370955162<=n then(18446744073709551615,1)else if 18446744073709551616<=n*10+(c-48)then(18446744073709551615,1)else lm l (n*10+(c-48)))
  else(0,2)
def gk(s:aA):Nat×Nat:=if s=[]then(0,2)else lm s 0
def mZ:Nat->z
 |0=> .nilIface|n+1=> .iface 205 (.Z (n+1:Nat))
def E7{C:al}{q:E S}{u:Nat}{s:aA}{T:aY}(h:s.length<=1048576)(k:T (.cq u 0 s.length 1) (aH C q u (some (.cells (E.ofList (s.map λn:Nat=>z.int .u8 (n:Int)) 0 .nil) s.length (.grow [])))) (u+1)):ek (xF C q u (.str s)) q u T:=by refine d8 (v:=.cq u 0 s.length 1) (D:=aH C q u (some (.cells (E.ofList (s.map λn:Nat=>z.int .u8 (n:Int)) 0 .nil) s.length (.grow [])))) (Z:=u+1) ?_ k;simp[xF,k6,de h,fE]
def IX{x:Int}(a:0<=x)(b:x<18446744073709551616):iq .u64 x=x:=by simp only[iq];exact zm a b
def Rk{x o:Nat}(h:x+o<18446744073709551616):aK .add (.int .u64 (x:Int)) (.int .u64 (o:Int))=some (.int .u64 ((x+o:Nat):Int)):=by rw[Gf];congr 2;rw[zm Zo Zo];rfl
def Ro{x o:Nat}(h:x*o<18446744073709551616):aK .mul (.int .u64 (x:Int)) (.int .u64 (o:Int))=some (.int .u64 ((x*o:Nat):Int)):=by
 have:(x:Int)*(o:Int)=((x*o:Nat):Int):=by simp
 simp only[aK,gL,iZ,gH,ga,cI,gj,this];rw[IX Zo Zo,sE]
def Gh{x o:Nat}(h:o<=x)(a:x<256):aK .sub (.int .u8 (x:Int)) (.int .u8 (o:Int))=some (.int .u8 ((x-o:Nat):Int)):=by
 have:(x:Int) -(o:Int)=((x-o:Nat):Int):=Zo
 have w:iq .u8 ((x-o:Nat):Int)=((x-o:Nat):Int):=by simp only[iq];exact zm Zo Zo
 simp only[aK,gL,iZ,gH,ga,cI,gj,this,w,sE]
def Rj{x o:Nat}(a:x+o<256):aK .add (.int .u8 (x:Int)) (.int .u8 (o:Int))=some (.int .u8 ((x+o:Nat):Int)):=by
 have:(x:Int)+(o:Int)=((x+o:Nat):Int):=Zo
 have w:iq .u8 ((x+o:Nat):Int)=((x+o:Nat):Int):=by simp only[iq];exact zm Zo Zo
 simp only[aK,gL,iZ,gH,ga,cI,gj,this,w,sE]
def IA(r:e5 X)(Ue:s.length<=65536)(W:∀c∈s,c<256)(US:(y X).aB<=u){b:Int}(UO:b=0\/b=64):
 aD X 97 [.str s,.Z 10,.Z b] q u (λR D Z=>R=.tuple [.int .u64 ((gk s).1:Int),mZ (gk s).2]/\aU X q u D Z) zX:=by
 refine Fd r.tobZ (Nn ..) ?_;unfold Ew;by_cases O:s=[]
 ·subst O;have d:decide (([]:List Nat)=[])=true:=rfl;refine bo @d ⟨?_⟩;exact⟨rfl,cf⟩
 have d:decide (s=[])=false:=by simp[O]
 have ar:decide ((2:Int)<=10)=true:=rfl;have UE:decide ((10:Int)<=36)=true:=rfl;have UF:decide ((10:Int)=10)=true:=rfl;have cn:aK .shl (.int .u64 1) (.int .u64 64)=some (.int .u64 0):=by rfl
 have UY:aK .sub (.int .u64 0) (.int .u64 1)=some (.int .u64 18446744073709551615):=by rfl
 have U7:hA .u64 (.Z 64)=some (.int .u64 64):=by rfl
 have U8:(64:Int)%18446744073709551616=64:=rfl;have TZ:(10:Int)%18446744073709551616=10:=rfl;have U9:decide ((10:Int)=0)=false:=rfl;have UT:gk s=lm s 0:=by simp[gk,O]
 rw[UT];rcases UO with rfl|rfl;all_goals
  have UA:decide ((0:Int)=0)=true:=rfl;have UB:decide ((64:Int)=0)=false:=rfl;have UC:decide ((64:Int)<0)=false:=rfl;have UD:decide ((64:Int)<64)=false:=rfl;refine cu @d @ar @UE @UF @U9 @UA (Za @UB (Za @UC (Za @UD (Za @cn (Za @UY (Za @U7 @U8)))))) ⟨?_⟩;refine E7 Zo ?_;have UJ:H X (aH X q u (some (.cells (E.ofList (s.map λn:Nat=>z.int .u8 (n:Int)) 0 .nil) s.length (.grow [])))) u=some (.cells (E.ofList (s.map λn:Nat=>z.int .u8 (n:Int)) 0 .nil) s.length (.grow [])):=aM US;have UN:aU X q u (aH X q u (some (.cells (E.ofList (s.map λn:Nat=>z.int .u8 (n:Int)) 0 .nil) s.length (.grow [])))) (u+1):=cf;generalize aH X q u (some (.cells (E.ofList (s.map λn:Nat=>z.int .u8 (n:Int)) 0 .nil) s.length (.grow [])))=U6 at*;refine bx ⟨?_⟩;refine cM (λm B D UX=>∃(j n:Nat),B.g 99=some (.cq u 0 s.length 1)/\B.g 100=some (.Z s.length)/\B.g 101=some (.Z j)/\B.g 13=some (.int .u64 (n:Int))/\B.g 10=some (.int .u64 1844674407370955162)/\B.g 11=some (.int .u64 18446744073709551615)/\B.g 12=some .zT/\B.g 8=some .zT/\B.g 1=some (.Z 10)/\j+m=s.length/\n<18446744073709551616/\D=U6/\u+1<=UX/\lm s 0=lm (s.drop j) n)
   s.length ⟨0,0,aC,aC,cT,cT,aC,aC,aC,aC,aC,Zo,Zo,rfl,Zo,rfl⟩ ?_
  rintro m B am aw ⟨j,n,p,f,k,N,G,L,U4,l,t1,Ub,Ud,rfl,Uc,i⟩;have e:aU X q u am aw:=⟨Zo,UN.M⟩;cases m with
  |zero=>have a:=zM j s.length;rw[ZM (by omega:s.length<=j),lm]at i;rw[i];refine dA @k @f @U4 @N @a ⟨?_⟩;exact⟨rfl,e⟩|succ m=>
   have a:=zN j s.length;have UG:=zQ j;obtain⟨c,P⟩:=zO s j;have ai:s.drop j=c::s.drop (j+1):=by obtain⟨UU,UV⟩:=Ze.1 P;rw[Zz UU,UV]
   have UP:=W c (Zl P);have t:c8 1 (.cq u 0 s.length 1) (.Z j)=some (.ptr u j):=by rw[m4 _ Zo];simp
   have v:ay X am (.ptr u j)=some (.int .u8 (c:Int)):=by rw[a8 UJ,g0];simp[P]
   rw[ai,lm]at i;rw[i];have Uf:decide ((c:Int)=95)=decide (c=95):=by simp;omega
   have x:hA .u8 (.Z 10)=some (.int .u8 10):=rfl;by_cases g:fa c=true
   ·have UQ:48<=c/\c<=57:=by simpa[fa]using g
    rw[Zv g];have T5:decide ((c:Int)=95)=false:=by simp;omega
    have a7:decide ((48:Int)<=(c:Int))=true:=by simp;omega
    have bl:decide ((c:Int)<=57)=true:=by simp;omega
    have T6:aK .sub (.int .u8 (c:Int)) (.int .u8 48)=some (.int .u8 ((c-48:Nat):Int)):=Gh (o:=48) Zo UP;have T7:decide ((10:Int)<=((c-48:Nat):Int))=false:=by simp;omega
    by_cases T0:1844674407370955162<=n
    ·rw[Zv T0];have w:decide ((1844674407370955162:Int)<=(n:Int))=true:=by simp;omega
     refine cu @k @f @p @l @t1 @a (Za @t (Za @v (Za @T5 (Za @a7 (Za @bl (Za @T6 (Za @T7 (Za @x (Za @N (Za @G (Za @w @L))))))))))) ⟨?_⟩;exact⟨rfl,e⟩
    ·rw[Zi T0];have w:decide ((1844674407370955162:Int)<=(n:Int))=false:=by simp;omega
     have U0:aK .mul (.int .u64 (n:Int)) (.int .u64 10)=some (.int .u64 ((n*10:Nat):Int)):=Ro (o:=10) Zo;have U1:((c-48:Nat):Int)%18446744073709551616=((c-48:Nat):Int):=zm Zo Zo;by_cases T3:18446744073709551616<=n*10+(c-48)
     ·rw[Zv T3];have T8:aK .add (.int .u64 ((n*10:Nat):Int)) (.int .u64 ((c-48:Nat):Int))=some (.int .u64 ((n*10+(c-48) -18446744073709551616:Nat):Int)):=by have UR:(((n*10:Nat):Int)+((c-48:Nat):Int))%18446744073709551616=((n*10+(c-48) -18446744073709551616:Nat):Int):=Zo;rw[Gf,UR]
      have T9:decide (((n*10+(c-48) -18446744073709551616:Nat):Int)<((n*10:Nat):Int))=true:=z1;refine cu @k @f @p @l @t1 @a (Za @t (Za @v (Za @T5 (Za @a7 (Za @bl (Za @T6 (Za @T7 (Za @x (Za @N (Za @G (Za @w (Za @TZ (Za @U0 (Za @U1 (Za @T8 (Za @T9 @L)))))))))))))))) ⟨?_⟩;exact⟨rfl,e⟩
     ·have T4:=i;rw[Zv g,Zi T0,Zi T3]at T4;rw[Zi T3];have T8:aK .add (.int .u64 ((n*10:Nat):Int)) (.int .u64 ((c-48:Nat):Int))=some (.int .u64 ((n*10+(c-48):Nat):Int)):=Rk Zo;have T9:decide (((n*10+(c-48):Nat):Int)<((n*10:Nat):Int))=false:=z2;have UW:decide ((18446744073709551615:Int)<((n*10+(c-48):Nat):Int))=false:=z2;refine cu @k @f @p @l @t1 @a (Za @t (Za @v (Za @T5 (Za @a7 (Za @bl (Za @T6 (Za @T7 (Za @x (Za @N (Za @G (Za @w (Za @TZ (Za @U0 (Za @U1 (Za @T8 (Za @T9 (Za @UW (Za @L @UG)))))))))))))))))) ⟨?_⟩;exact⟨m,Zo,j+1,n*10+(c-48),af p,af f,aC,aC,af G,af L,af U4,af l,af t1,Zo,Zo,rfl,Zo,by first|exact T4|rw[T4]|rfl⟩
   ·have UQ:¬(48<=c/\c<=57):=by simpa[fa]using g
    rw[Zi g];have U5:j5 c<256:=Nat.mod_lt _ Zo;have A:decide ((97:Int)<=(j5 c:Int))=decide (97<=j5 c):=by simp;omega
    have C:decide ((j5 c:Int)<=122)=decide (j5 c<=122):=by simp;omega
    have a7:decide ((48:Int)<=(c:Int))=decide (48<=c):=by simp;omega
    have bl:decide ((c:Int)<=57)=decide (c<=57):=by simp;omega
    have fin:97<=j5 c->j5 c<=122->∃aj:Nat,aK .sub (.int .u8 (j5 c:Int)) (.int .u8 97)=some (.int .u8 ((j5 c-97:Nat):Int))/\aK .add (.int .u8 ((j5 c-97:Nat):Int)) (.int .u8 10)=some (.int .u8 ((j5 c-97+10:Nat):Int))/\decide ((10:Int)<=((j5 c-97+10:Nat):Int))=true:=λUK UZ=>
     ⟨0,Gh (o:=97) UK U5,Rj (o:=10) Zo,by simp only[Zf];omega⟩
    by_cases Ua:c=95<;>by_cases UL:48<=c<;>by_cases UM:c<=57<;>try omega
    all_goals
     simp only[UL,UM,YG,Yo]at a7 bl;first|have U2:decide ((c:Int)=95)=true:=by simp only[Zf];omega|have U2:decide ((c:Int)=95)=false:=z2
     refine cu @k @f @p @l @t1 @a (Za @t (Za @v (Za @U2 (Za @a7 @bl)))) ⟨?_⟩;refine(A9 r.tobZ c).Zm ?_;rintro R TY U3 ⟨rfl,rfl,rfl⟩;by_cases T1:97<=j5 c
     ·simp only[T1,YG]at A;refine bo @A ⟨?_⟩;refine(A9 r.tobZ c).Zm ?_;rintro R TY U3 ⟨rfl,rfl,rfl⟩;by_cases T2:j5 c<=122
      ·simp only[T2,YG]at C;refine bo @C ⟨?_⟩;refine(A9 r.tobZ c).Zm ?_;rintro R TY U3 ⟨rfl,rfl,rfl⟩;obtain⟨_,UH,UI,f3⟩:=fin T1 T2;refine dA @UH @UI @f3 @x @t1 ⟨?_⟩;exact⟨rfl,e⟩
      ·simp only[T2,Yo]at C;refine bo @C ⟨?_⟩;exact⟨rfl,e⟩
     ·simp only[T1,Yo]at A;refine bo @A ⟨?_⟩;exact⟨rfl,e⟩
structure g2(X:bi):Prop where
 abK:∃b,∀q,ay X q (.ptr 5 0)=some (.iface 236 (.ptr b 0))
 seven:∃b,∀q,ay X q (.ptr 6 0)=some (.iface 236 (.ptr b 0))
def Py:b7 X q .eql 138 false (.iface 205 (.Z 2)) (.iface 205 (.Z 2))=some .zV:=Zk
def Px:b7 X q .eql 138 false (.iface 205 (.Z 1)) (.iface 205 (.Z 2))=some .zT:=Zk
def Pw:b7 X q .eql 138 false (.iface 205 (.Z 1)) (.iface 205 (.Z 1))=some .zV:=Zk
def s6(k:Int):b7 X q .neq 138 true (.iface 205 (.Z k)) .nilIface=some .zV:=Zk
def q4:b7 X q .neq 138 true .nilIface .nilIface=some .zT:=Zk
def Ha(b:Nat):b7 X q .neq 138 true (.iface 207 (.ptr b 0)) .nilIface=some .zV:=Zk
def acx(a:e5 X)(d:g2 X)(f:aA)(g:s.length<=65536)(e:∀c∈s,c<256)(h:(y X).aB<=u):
 aD X 131 [.str f,.str s] q u (λR D Z=>(∃b,R=.ptr b 0)/\aU X q u D Z) zX:=by
 refine Fd a.tobZ (J9 ..) ?_;unfold CN;obtain⟨b,W⟩:=d.abK;refine bo @W ⟨?_⟩;refine qe (a.clone s e g) ?_;refine bo @W ⟨?_⟩;refine d9 (by simp[z.same]) ?_;exact⟨⟨_,rfl⟩,cf⟩
def aaH(a:e5 X)(d:g2 X)(f:aA)(g:s.length<=65536)(e:∀c∈s,c<256)(h:(y X).aB<=u):
 aD X 132 [.str f,.str s] q u (λR D Z=>(∃b,R=.ptr b 0)/\aU X q u D Z) zX:=by
 refine Fd a.tobZ (Kb ..) ?_;unfold CO;obtain⟨b,W⟩:=d.seven;refine bo @W ⟨?_⟩;refine qe (a.clone s e g) ?_;refine bo @W ⟨?_⟩;refine d9 (by simp[z.same]) ?_;exact⟨⟨_,rfl⟩,cf⟩
def wo(e:e5 X)(g:g2 X)(f:aA)(x o:z)(l:s.length<=65536)(i:∀c∈s,c<256)(j:(y X).aB<=u){k:Nat}(n:k=1\/k=2):
 aD X 98 [.str f,.str s,x,o,mZ k] q u (λR D Z=>(∃b,R=.iface 207 (.ptr b 0))/\aU X q u D Z) zX:=by
 refine Fd e.tobZ (Np ..) ?_;unfold Ex;rcases n with rfl|rfl
 ·have a:mZ 1=.iface 205 (.Z 1):=rfl;rw[a];refine bE @Px @Pw ⟨?_⟩;refine(aaH e g f l i j).Zm ?_;rintro R m p ⟨⟨b,rfl⟩,d⟩;refine bx ⟨?_⟩;exact⟨⟨_,rfl⟩,d⟩
 ·have a:mZ 2=.iface 205 (.Z 2):=rfl;rw[a];refine bo @Py ⟨?_⟩;refine(acx e g f l i j).Zm ?_;rintro R m p ⟨⟨b,rfl⟩,d⟩;refine bx ⟨?_⟩;exact⟨⟨_,rfl⟩,d⟩
def aay:∀(l:aA) (n:Nat),(lm l n).2=0\/(lm l n).2=1\/(lm l n).2=2:=by
 intro l;induction l with
 |nil=>intro n;exact .inl rfl|cons c l U=>
  intro n;rw[lm];split
  ·split
   ·exact .inr (.inl rfl)
   ·split
    ·exact .inr (.inl rfl)
    ·exact U _
  ·exact .inr (.inr rfl)
def HR(l:aA):(gk l).2=0\/(gk l).2=1\/(gk l).2=2:=by
 unfold gk;split
 ·exact .inr (.inr rfl)
 ·exact aay _ _
def aaa(f:e5 X)(m:g2 X)(j:s.length<=65536)(W:∀c∈s,c<256)(i:(y X).aB<=u):
 aD X 61 [.str s,.Z 10,.Z 64] q u (λR D Z=>(∃e,R=.tuple [.int .u64 ((gk s).1:Int),e]/\((gk s).2=0/\e=.nilIface\/(gk s).2≠0/\∃b,e=.iface 207 (.ptr b 0)))/\aU X q u D Z) zX:=by
 refine Fd f.tobZ (Mz ..) ?_;unfold D0;refine(IA f j W i (.inr rfl)).Zm ?_;rintro R l p ⟨rfl,d⟩;have n:=d.le;rcases HR s with h|h|h
 ·rw[h];have a:mZ 0=.nilIface:=rfl;rw[a];refine bo @q4 ⟨?_⟩;exact⟨⟨_,rfl,.inl ⟨rfl,rfl⟩⟩,d⟩
 ·rw[h];have a:mZ 1=.iface 205 (.Z 1):=rfl;rw[a];refine bo @s6 ⟨?_⟩;refine(wo (u:=p) (q:=l) f m [80,97,114,115,101,85,105,110,116] (.Z 10) (.Z 64) j W (ZE i n) (k:=1) Zd).Zm ?_;rintro R r t ⟨⟨b,rfl⟩,g⟩;refine bx ⟨?_⟩;exact⟨⟨_,rfl,.inr ⟨Zd,b,rfl⟩⟩,d.trans g⟩
 ·rw[h];have a:mZ 2=.iface 205 (.Z 2):=rfl;rw[a];refine bo @s6 ⟨?_⟩;refine(wo (u:=p) (q:=l) f m [80,97,114,115,101,85,105,110,116] (.Z 10) (.Z 64) j W (ZE i n) (k:=2) Zd).Zm ?_;rintro R r t ⟨⟨b,rfl⟩,g⟩;refine bx ⟨?_⟩;exact⟨⟨_,rfl,.inr ⟨Zd,b,rfl⟩⟩,d.trans g⟩
def Cf(e:z):Prop:=e=.nilIface\/e=.iface 205 (.Z 1)\/e=.iface 205 (.Z 2)
def pW(s:aA):Prop:=∀c∈s,c≠43/\c≠45
def nl(s:aA):Nat:=s.foldl (λn c=>n*10+(c-48)) 0
def aaz:∀(l:aA) (n:Nat),n<18446744073709551616->(lm l n).1<18446744073709551616:=by
 intro l;induction l with
 |nil=>intro n h;exact h|cons c l U=>
  intro n h;rw[lm];split
  ·split
   ·show 18446744073709551615<_;omega
   ·split
    ·show 18446744073709551615<_;omega
    ·exact U _ Zo
  ·show 0<_;omega
def HS(l:aA):(gk l).1<18446744073709551616:=by
 unfold gk;split
 ·show 0<_;omega
 ·exact aaz _ _ Zo
def Hh:b7 X q .neq 138 false (.iface 205 (.Z 1)) (.iface 205 (.Z 1))=some .zT:=Zk
def Hi:b7 X q .neq 138 false (.iface 205 (.Z 2)) (.iface 205 (.Z 1))=some .zV:=Zk
def Gm(m:e5 X)(C:s.length<=65536)(W:∀c∈s,c<256)(G:pW s)(x:(y X).aB<=u):
 aD X 152 [.str s,.Z 10,.Z 0] q u (λR D Z=>(∃aj e,R=.tuple [.Z aj,e]/\Cf e)/\aU X q u D Z) zX:=by
 refine Fd m.tobZ (KH ..) ?_;unfold C4;by_cases g:s=[]
 ·subst g;have d:decide (([]:List Nat)=[])=true:=rfl;refine bo @d ⟨?_⟩;exact⟨⟨_,_,rfl,.inr (.inr rfl)⟩,aU.refl _ _⟩
 have d:decide (s=[])=false:=by simp[g]
 obtain⟨c,a,rfl⟩:∃c a,s=c::a:=by cases s with|nil=>exact absurd rfl g|cons c a=>exact⟨c,a,rfl⟩
 have w:ia (.str (c::a)) (.Z 0)=some (.int .u8 (c:Int)):=pe (i:=0) .i64 rfl;have T1:=G c (Zr ..);have a7:decide ((c:Int)=43)=false:=z2;have bl:decide ((c:Int)=45)=false:=z2;refine df @d @w @a7 @bl ⟨?_⟩;refine(IA m C W x (.inl rfl)).Zm ?_;rintro R P T4 ⟨rfl,j⟩;have T3:=j.le;generalize A:gk (c::a)=p;have k:=HR (c::a);have n:=HS (c::a);rw[A]at k n;obtain⟨b,T0⟩:=p;simp only[]at k n ⊢;have l:decide ((0:Int)=0)=true:=rfl;have r:aK .sub (.Z 64) (.Z 1)=some (.Z 63):=rfl;have t:(63:Int)%18446744073709551616=63:=rfl;have v:aK .shl (.int .u64 1) (.int .u64 63)=some (.int .u64 9223372036854775808):=rfl;have L:aK .sub (.int .u64 9223372036854775808) (.int .u64 1)=some (.int .u64 9223372036854775807):=rfl;have N:hA .i64 (.int .u64 9223372036854775807)=some (.Z 9223372036854775807):=rfl;rcases k with rfl|rfl|rfl;all_goals
  simp only[show mZ 0=.nilIface from rfl,show mZ 1=.iface 205 (.Z 1) from rfl,show mZ 2=.iface 205 (.Z 2) from rfl];by_cases T2:9223372036854775808<=b
  ·have f:decide ((9223372036854775808:Int)<=(b:Int))=true:=z1;refine cu @q4 @s6 @Hh @Hi @l @r (Za @t (Za @v (Za @f (Za @L @N)))) ⟨?_⟩;exact⟨⟨_,_,rfl,by first|exact .inl rfl|exact .inr (.inl rfl)|exact .inr (.inr rfl)⟩,j⟩
  ·have f:decide ((9223372036854775808:Int)<=(b:Int))=false:=z2;have O:hA .i64 (.int .u64 (b:Int))=some (.Z b):=Fo Zo Zo;refine cu @q4 @s6 @Hh @Hi @l @r (Za @t (Za @v (Za @f @O))) ⟨?_⟩;exact⟨⟨_,_,rfl,by first|exact .inl rfl|exact .inr (.inl rfl)|exact .inr (.inr rfl)⟩,j⟩
def Gg{x o:Int}(a: -9223372036854775808<=x*o)(b:x*o<9223372036854775808):aK .mul (.Z x) (.Z o)=some (.Z (x*o)):=by simp[aK,gL,iZ,gH,gj,wrap64 a b]
def Rp{c:Nat}(h:c<256):aK .sub (.int .u8 (c:Int)) (.int .u8 48)=some (.int .u8 (((c+208)%256:Nat):Int)):=by
 have w:iq .u8 ((c:Int) -48)=(((c+208)%256:Nat):Int):=by show((c:Int) -48)%256=_;omega
 simp only[aK,gL,iZ,gH,ga,cI,gj,w,sE]
def ac3(l:aA)(c:Nat):nl (l++[c])=nl l*10+(c-48):=by simp[nl,Y8]
def Jb(s:aA)(R:z):Prop:=∃aj e,R=.tuple [.Z aj,e]/\Cf e/\(s≠[]->s.length<19->(∀c∈s,fa c=true)->e=.nilIface/\aj=(nl s:Int))
def Oe(x:e5 X)(T5:s.length<=65536)(W:∀c∈s,c<256)(G:pW s)(C:(y X).aB<=u):
 aD X 135 [.str s] q u (λR D Z=>Jb s R/\aU X q u D Z) zX:=by
 refine Fd x.tobZ (Kd ..) ?_;unfold CP;by_cases P:s=[]
 ·subst P;have b:decide ((0:Int)<((0:Nat):Int))=false:=rfl;refine bo @b ⟨?_⟩;refine(Gm x T5 W G C).Zm ?_;rintro R T7 UB ⟨⟨aj,e,rfl,A⟩,v⟩;refine bx ⟨?_⟩;exact⟨⟨aj,e,rfl,A,λh=>absurd rfl h⟩,v⟩
 have U7:0<s.length:=ZP.2 P;have b:decide ((0:Int)<(s.length:Int))=true:=z1;by_cases U2:s.length<19
 ·have l:decide ((s.length:Int)<19)=true:=z1;obtain⟨c,T1⟩:∃c,s[0]? =some c:=⟨_,Zb U7⟩;have T3:ia (.str s) (.Z 0)=some (.int .u8 (c:Int)):=pe (i:=0) .i64 T1;have UD:=G c (Zl T1);have a7:decide ((c:Int)=43)=false:=z2;have bl:decide ((c:Int)=45)=false:=z2;refine dA @b @l @T3 @a7 @bl ⟨?_⟩;refine E7 Zo ?_;have U1:H X (aH X q u (some (.cells (E.ofList (s.map λn:Nat=>z.int .u8 (n:Int)) 0 .nil) s.length (.grow [])))) u=some (.cells (E.ofList (s.map λn:Nat=>z.int .u8 (n:Int)) 0 .nil) s.length (.grow [])):=aM C;have U3:aU X q u (aH X q u (some (.cells (E.ofList (s.map λn:Nat=>z.int .u8 (n:Int)) 0 .nil) s.length (.grow [])))) (u+1):=cf;generalize aH X q u (some (.cells (E.ofList (s.map λn:Nat=>z.int .u8 (n:Int)) 0 .nil) s.length (.grow [])))=T8 at*;refine bx ⟨?_⟩;refine cM (λm B D UA=>∃(j n p:Nat),B.g 47=some (.cq u 0 s.length 1)/\B.g 48=some (.Z s.length)/\B.g 49=some (.Z j)/\B.g 6=some (.Z n)/\B.g 5=some (.str s)/\j+m=s.length/\p*10^m<=10^18/\n<p/\D=T8/\u+1<=UA/\n=nl (s.take j))
   s.length ⟨0,0,1,aC,aC,cT,cT,aC,Zo,by rw[Nat.one_mul];exact Nat.pow_le_pow_right Zo Zo,Zo,rfl,Zo,rfl⟩ ?_
  rintro m B am aw ⟨j,n,p,N,k,O,T6,t5,UE,g,UG,rfl,UF,L⟩;have T0:aU X q u am aw:=⟨Zo,U3.M⟩;cases m with
  |zero=>have d:=zM j s.length;refine cu @O @k @t5 @T6 @d @T3 @bl ⟨?_⟩;rw[Zy Zo]at L;exact⟨⟨_,_,rfl,.inl rfl,λ_ _ _=>⟨rfl,by rw[L]⟩⟩,T0⟩|succ m=>
   have d:=zN j s.length;have T9:=zQ j;obtain⟨a,f⟩:∃c,s[j]? =some c:=⟨_,Zb Zo⟩;have U4:=W a (Zl f);have T2:c8 1 (.cq u 0 s.length 1) (.Z j)=some (.ptr u j):=(by rw[m4 _ Zo];simp);have T4:ay X am (.ptr u j)=some (.int .u8 (a:Int)):=(by rw[a8 U1,g0];simp[f]);have t:=Rp U4;generalize UI:(a+208)%256=w at t;by_cases UC:9<w
   ·have r:decide ((9:Int)<(w:Int))=true:=z1;refine cu @O @k @N @d @T2 @T4 (Za @t @r) ⟨?_⟩;refine⟨⟨_,_,rfl,.inr (.inr rfl),λ_ _ U5=> ?_⟩,T0⟩;have:=U5 a (Zl f);simp[fa]at this;omega
   ·have r:decide ((9:Int)<(w:Int))=false:=z2;have U6:48<=a/\a<=57/\w=a-48:=Zo;have U8:p*10<=10^18:=by
     have:p*10^(m+1)=(p*10)*10^m:=by rw[Nat.pow_succ];rw[Nat.mul_assoc,zD (10^m) 10]
     rw[this]at g;exact ZE (ze _ (Nat.pos_of_ne_zero Zs)) g
    have U9:p*10*10^m<=10^18:=by
     have:p*10^(m+1)=(p*10)*10^m:=by rw[Nat.pow_succ];rw[Nat.mul_assoc,zD (10^m) 10]
     rw[this]at g;exact g
    have UH:p*10<=1000000000000000000:=U8;have TY:aK .mul (.Z n) (.Z 10)=some (.Z (n*10:Nat)):=(by rw[Gg Zo Zo];rfl);have TZ:hA .i64 (.int .u8 (w:Int))=some (.Z w):=Fo Zo Zo;have U0:aK .add (.Z (n*10:Nat)) (.Z w)=some (.Z (n*10+w:Nat)):=(by rw[cp Zo Zo];rfl);refine cu @O @k @N @d @T2 @T4 (Za @t (Za @r (Za @T6 (Za @TY (Za @TZ (Za @U0 @T9)))))) ⟨?_⟩;refine⟨m,Zo,j+1,n*10+w,p*10,af N,af k,aC,aC,af t5,Zo,U9,Zo,rfl,Zo, ?_⟩;rw[ZD,f];show _=nl (s.take j++[a]);rw[ac3, <-L,U6.2.2]
 ·have l:decide ((s.length:Int)<19)=false:=z2;refine bE @b @l ⟨?_⟩;refine(Gm x T5 W G C).Zm ?_;rintro R T7 UB ⟨⟨aj,e,rfl,A⟩,v⟩;refine bx ⟨?_⟩;exact⟨⟨aj,e,rfl,A,λ_ h=>absurd h U2⟩,v⟩
def Jc(s:aA)(R:z):Prop:=∃aj e,R=.tuple [.Z aj,e]/\(e=.nilIface\/∃b,e=.iface 207 (.ptr b 0))/\(s≠[]->s.length<19->(∀c∈s,fa c=true)->e=.nilIface/\aj=(nl s:Int))
def EX(d:e5 X)(r:g2 X)(m:s.length<=65536)(W:∀c∈s,c<256)(A:pW s)(l:(y X).aB<=u):
 aD X 99 [.str s] q u (λR D Z=>Jc s R/\aU X q u D Z) zX:=by
 refine Fd d.tobZ (Nr ..) ?_;unfold Ey;refine(Oe d m W A l).Zm ?_;rintro R p v ⟨⟨aj,e,rfl,x,n⟩,a⟩;have t:=a.le;rcases x with rfl|rfl|rfl
 ·refine bo @q4 ⟨?_⟩;exact⟨⟨_,_,rfl,.inl rfl,n⟩,a⟩
 ·refine bo @s6 ⟨?_⟩;refine(wo (u:=v) (q:=p) d r [65,116,111,105] (.Z 0) (.Z 0) m W (ZE l t) (k:=1) Zd).Zm ?_;rintro R w C ⟨⟨b,rfl⟩,j⟩;refine bx ⟨?_⟩;exact⟨⟨_,_,rfl,.inr ⟨b,rfl⟩,λf g i=>absurd (n f g i).1 Zs⟩,a.trans j⟩
 ·refine bo @s6 ⟨?_⟩;refine(wo (u:=v) (q:=p) d r [65,116,111,105] (.Z 0) (.Z 0) m W (ZE l t) (k:=2) Zd).Zm ?_;rintro R w C ⟨⟨b,rfl⟩,j⟩;refine bx ⟨?_⟩;exact⟨⟨_,_,rfl,.inr ⟨b,rfl⟩,λf g i=>absurd (n f g i).1 Zs⟩,a.trans j⟩
def gw(t:cH):Bool:=if t.b then !t.s&&decide (t.w=1)else decide (1<=t.w)&&decide (t.w<=64)
def fC(n:Nat):aA:=if n<10 then[48+n]else[48+n/10,48+n%10]
def hW(t:cH):aA:=if gw t then(if t.b then[98,111,111,108]else(if t.s then 105 else 117)::fC t.w.toNat)else[]
def gS:aA->Option cH
 |[]=>none|c::l=>if c::l=[98,111,111,108]then some ⟨true,false,1⟩
  else if c=105\/c=117 then((List.range 65).find? λn=>decide (1<=n)&&decide (fC n=l)).map λn:Nat=>⟨false,decide (c=105),(n:Int)⟩
  else none
def qY(d:bZ X)(t:cH)(e:(y X).aB<=u):aD X 100 [.agg (cP t)] q u (λR D Z=>R=.bool (gw t)/\aU X q u D Z) zX:=by
 refine Fd d (Jl ..) ?_;unfold Cm cP;obtain⟨b,s,w⟩:=t;cases b<;>cases s;all_goals
  by_cases a:1<=w
  ·have c:decide ((1:Int)<=w)=true:=by simp[a]
   refine bo @c ⟨?_⟩;exact⟨by simp[gw,a],cf⟩
  ·have c:decide ((1:Int)<=w)=false:=by simp[a]
   refine bo @c ⟨?_⟩;exact⟨by simp[gw,a],cf⟩
def abU:∀n<10,([48,49,50,51,52,53,54,55,56,57,97,98,99,100,101,102,103,104,105,106,107,108,109,110,111,112,113,114,115,116,117,118,119,120,121,122].drop n).take (n+1-n)=fC n:=by decide+kernel
def xL:aA:=[48,48,48,49,48,50,48,51,48,52,48,53,48,54,48,55,48,56,48,57,49,48,49,49,49,50,49,51,49,52,49,53,49,54,49,55,49,56,49,57,50,48,50,49,50,50,50,51,50,52,50,53,50,54,50,55,50,56,50,57,51,48,51,49,51,50,51,51,51,52,51,53,51,54,51,55,51,56,51,57,52,48,52,49,52,50,52,51,52,52,52,53,52,54,52,55,52,56,52,57,53,48,53,49,53,50,53,51,53,52,53,53,53,54,53,55,53,56,53,57,54,48,54,49,54,50,54,51,54,52,54,53,54,54,54,55,54,56,54,57,55,48,55,49,55,50,55,51,55,52,55,53,55,54,55,55,55,56,55,57,56,48,56,49,56,50,56,51,56,52,56,53,56,54,56,55,56,56,56,57,57,48,57,49,57,50,57,51,57,52,57,53,57,54,57,55,57,56,57,57]
def abW:xL.length=200:=by decide+kernel
def abV:∀n<100,10<=n->(xL.drop (n*2)).take (n*2+2-n*2)=fC n:=by decide+kernel
def wL(a:bZ X){n:Nat}(i:n<100):aD X 136 [.Z (n:Int)] q u (λR D Z=>R=.str (fC n)/\D=q/\Z=u) zX:=by
 refine Fd a (Kf ..) ?_;unfold CQ;refine Fd a (KJ ..) ?_;unfold C5;refine Fd a (KV ..) ?_;unfold Db;have f:decide ((0:Int)<=(n:Int))=true:=z1;have g:decide ((n:Int)<100)=true:=z1;refine bE @f @g ⟨?_⟩;refine Fd a (K5 ..) ?_;unfold Df;by_cases h:n<10
 ·have b:decide ((n:Int)<10)=true:=z1;have c:=zQ n;have d:hJ (.str [48,49,50,51,52,53,54,55,56,57,97,98,99,100,101,102,103,104,105,106,107,108,109,110,111,112,113,114,115,116,117,118,119,120,121,122]) (some (.Z n)) (some (.Z (n+1:Nat)))=some (.str (fC n)):=by rw[BP .i64 .i64 Zo Zx,abU n h]
  refine cg @b @c @d ⟨?_⟩;exact⟨rfl,rfl,rfl⟩
 ·have b:decide ((n:Int)<10)=false:=z2;have c:aK .mul (.Z n) (.Z 2)=some (.Z (n*2:Nat)):=by rw[Gg Zo Zo];rfl
  have d:aK .add (.Z (n*2:Nat)) (.Z 2)=some (.Z (n*2+2:Nat)):=by rw[cp Zo Zo];rfl
  have e:hJ (.str xL) (some (.Z (n*2:Nat))) (some (.Z (n*2+2:Nat)))=some (.str (fC n)):=by rw[BP .i64 .i64 Zo (zL abW),abV n i Zo]
  unfold xL at e;refine df @b @c @d @e ⟨?_⟩;exact⟨rfl,rfl,rfl⟩
def abr(e:bZ X)(t:cH)(p:(y X).aB<=u):aD X 101 [.agg (cP t)] q u (λR D Z=>R=.str (hW t)/\aU X q u D Z) zX:=by
 refine Fd e (Jn ..) ?_;unfold Cn;have r:cP t=[.bool t.b,.bool t.s,.Z t.w]:=rfl;rw[r];refine bx ⟨?_⟩;refine c7 (λau=>H X au u=zP [.bool t.b,.bool t.s,.Z t.w] 3/\aU X q u au (u+1)) ⟨aM p,cf⟩ ?_;rintro au ⟨m,n⟩;refine(qY e t Zo).Zm ?_;rintro R am aw ⟨rfl,i⟩;have v:=i.le;have d:=n.trans i;have g:H X am u=zP [.bool t.b,.bool t.s,.Z t.w] 3:=by rw[i.M _ Zo];exact m
 have b8:ay X am (.ptr u 0)=some (.bool t.b):=by rw[a8 g];rfl
 have bV:ay X am (.ptr u 1)=some (.bool t.s):=by rw[a8 g];rfl
 have b0:ay X am (.ptr u 2)=some (.Z t.w):=by rw[a8 g];rfl
 cases b:gw t with
 |false=>refine bx ⟨?_⟩;exact⟨by simp[hW,b],d⟩|true=>
  cases a:t.b with
  |true=>rw[a]at b8;refine bo @b8 ⟨?_⟩;exact⟨by simp[hW,b,a],d⟩|false=>
   rw[a]at b8;have A:1<=t.w/\t.w<=64:=(by simpa[gw,a]using b);obtain⟨w,k⟩:=Yl (by omega:0<=t.w);rw[k]at b0;have ag:fC t.w.toNat=fC w:=(by rw[k];rfl);have x:(fC w).length<=2:=(by unfold fC;split<;>simp);have j:∀q c,b7 X q .add 9 true (.str [c]) (.str (fC w))=some (.str (c::fC w)):=λq c=>by
    have:Nat.ble ([c].length+(fC w).length) 1000000000=true:=de Zx
    simp only[b7,oL,this,cI];rfl
   cases f:t.s with
   |true=>rw[f]at bV;refine cg @b8 @bV @b0 ⟨?_⟩;refine(wL e Zo).Zm ?_;rintro R l s ⟨rfl,rfl,rfl⟩;refine bo @j ⟨?_⟩;exact⟨by simp[hW,b,a,f,ag],d⟩
   |false=>rw[f]at bV;refine cg @b8 @bV @b0 ⟨?_⟩;refine(wL e Zo).Zm ?_;rintro R l s ⟨rfl,rfl,rfl⟩;refine bo @j ⟨?_⟩;exact⟨by simp[hW,b,a,f,ag],d⟩
def uC{n:Nat}(h:n<100):fC n≠[]/\(fC n).length<19/\(∀c∈fC n,fa c=true)/\nl (fC n)=n:=by
 unfold fC;split
 ·refine⟨Zs,Zs, ?_, ?_⟩
  ·intro c a;simp at a;subst a;simp[fa];omega
  ·simp[nl]
 ·refine⟨Zs,Zs, ?_, ?_⟩
  ·intro c a;simp at a;rcases a with rfl|rfl<;>simp[fa]<;>omega
  ·simp[nl];omega
def xS(c:Nat)(l:aA):gS (c::l)=if c::l=[98,111,111,108]then some ⟨true,false,1⟩
 else if c=105\/c=117 then((List.range 65).find? λn=>decide (1<=n)&&decide (fC n=l)).map λn:Nat=>⟨false,decide (c=105),(n:Int)⟩
 else none:=rfl
def ve{c:Nat}{l:aA}{t:cH}(h:gS (c::l)=some t)(W:c::l≠[98,111,111,108]):(c=105\/c=117)/\∃n:Nat,1<=n/\n<=64/\fC n=l/\t=⟨false,decide (c=105),(n:Int)⟩:=by
 rw[xS]at h;rw[Zi W]at h;split at h
 ·rename_i f;refine⟨f, ?_⟩;simp only[Yn]at h;obtain⟨n,b,d⟩:=h;have a:=List.find?_some b;have e:=List.mem_of_find?_eq_some b;simp at a e;exact⟨n,a.1,Zo,a.2,d.symm⟩
 ·cases h
def Iv{c:Nat}{l:aA}(h:gS (c::l)=none)(b:c=105\/c=117){n:Nat}(a:1<=n)(e:n<=64):fC n≠l:=by
 intro d;rw[xS]at h;split at h
 ·cases h
 ·first
  |rw[Zv b]at h|skip
  simp at h;exact h n Zo a d
def aU.set{C:al}{q au:E S}{u ap b a:Nat}{bU:Option S}(h:aU C q u au ap)(W:u<=b)(e:C.aB<=u)(c:ap<=a):aU C q u (aH C au b bU) a:=
 ⟨ZE h.le c,λo d=>by rw[ah Zo Zo];exact h.M o d⟩
def Iu(P:e5 X)(UB:g2 X)(UJ:s.length<=65536)(W:∀c∈s,c<256)(UK:pW s)(v:(y X).aB<=u):
 aD X 63 [.str s] q u (λR D Z=>R=.tuple [.agg (cP ((gS s).getD cd)),.bool (gS s).isSome]/\aU X q u D Z) zX:=by
 refine Fd P.tobZ (MD ..) ?_;unfold D2;by_cases p:s=[98,111,111,108]
 ·have d:decide (s=[98,111,111,108])=true:=by simp[p]
  refine bo @d ⟨?_⟩;exact⟨by subst p;rfl,cf⟩
 have d:decide (s=[98,111,111,108])=false:=by simp[p]
 cases s with
 |nil=>have L:decide (([]:List Nat)=[])=true:=rfl;refine bE @d @L ⟨?_⟩;exact⟨rfl,cf⟩|cons c l=>
  have L:decide (c::l=[])=false:=by simp
  have T9:ia (.str (c::l)) (.Z 0)=some (.int .u8 (c:Int)):=pe (i:=0) .i64 rfl;by_cases T1:c=105\/c=117
  ·have UL:hJ (.str (c::l)) (some (.Z 1)) none=some (.str l):=xJ (l:=1) .i64 Zs;have UH:l.length<=65536:=(by simp at UJ;omega);have UG:∀c∈l,c<256:=λx r=>W x (Zw _ r);have UI:pW l:=λx r=>UK x (Zw _ r);have w:∃bc bp,decide ((c:Int)≠117)=bc/\decide ((c:Int)≠105)=bp/\(bc=false\/bc=true/\bp=false):=by
    rcases T1 with rfl|rfl
    ·exact⟨true,false,rfl,rfl,.inr ⟨rfl,rfl⟩⟩
    ·exact⟨false,true,rfl,rfl,.inl rfl⟩
   obtain⟨bc,bp,w,T4,UE⟩:=w;have U6:decide ((c:Int)=105)=decide (c=105):=(by simp;omega);rcases UE with rfl|⟨rfl,rfl⟩;all_goals
    refine eg @d @L @T9 @w @T4 @UL ⟨?_⟩;refine c7 (λau=>H X au u=zP [.zT,.zT,.Z 0] 3/\aU X q u au (u+1)) ⟨aM v,cf⟩ ?_;rintro au ⟨U7,UC⟩;refine(EX P UB UH UG UI Zo).Zm ?_;rintro R am aw ⟨⟨aj,e,rfl,UF,r⟩,T8⟩;have UO:=T8.le;have U8:H X am u=zP [.zT,.zT,.Z 0] 3:=by rw[T8.M _ Zo];exact U7
    have UD:=UC.trans T8;refine bE @T9 @U6 ⟨?_⟩;generalize T0:aH X _ aw _=G;have U9:H X G u=zP [.zT,.zT,.Z 0] 3:=by rw[<-T0];simp(disch:=omega) only[ah];exact U8
    have U0:H X G aw=zP [.zT,.bool (decide (c=105)),.Z aj] 3:=by rw[<-T0];rw[aM Zo];rfl
    have N:aU X q u G (aw+1):=UD.trans (by rw[<-T0];exact cf);clear T0;rcases UF with rfl|⟨b,rfl⟩
    ·refine bE @q4 (a8 U0) ⟨?_⟩;refine(qY (u:=aw+1) (q:=G) P.tobZ ⟨false,decide (c=105),aj⟩ (ZE v N.le)).Zm ?_;rintro R T3 UM ⟨rfl,A⟩;have UP:=A.le;have U1:H X T3 u=zP [.zT,.zT,.Z 0] 3:=by rw[A.M _ Zo];exact U9
     have U2:H X T3 aw=zP [.zT,.bool (decide (c=105)),.Z aj] 3:=by rw[A.M _ Zo];exact U0
     cases TY:gw ⟨false,decide (c=105),aj⟩with
     |false=>
      have a:gS (c::l)=none:=by
       cases a:gS (c::l)with
       |none=>rfl|some t=>obtain⟨_,n,T6,T7,m,rfl⟩:=ve a p;obtain⟨f,g,j,k⟩:=uC (by omega:n<100);rw[m]at f g j k;have:=(r f g j).2;rw[k]at this;subst this;simp[gw]at TY;omega
      rw[a];refine bo (a8 U1) ⟨?_⟩;exact⟨rfl,aU.set (N.trans A) Zo v Zo⟩
     |true=>
      have UR:1<=aj/\aj<=64:=by simpa[gw]using TY
      obtain⟨n,rfl⟩:=Yl (by omega:0<=aj);refine bo (a8 U2) ⟨?_⟩;refine(abr (u:=UM) (q:=T3) P.tobZ ⟨false,decide (c=105),(n:Int)⟩ Zo).Zm ?_;rintro R TZ US ⟨rfl,O⟩;have UQ:=O.le;have UN:H X TZ u=zP [.zT,.zT,.Z 0] 3:=by rw[O.M _ Zo];exact U1
      have UA:H X TZ aw=zP [.zT,.bool (decide (c=105)),.Z (n:Int)] 3:=by rw[O.M _ Zo];exact U2
      have U4:hW ⟨false,decide (c=105),(n:Int)⟩=c::fC n:=by rcases T1 with rfl|rfl<;>simp[hW,TY]<;>simp_all
      have U3:=(N.trans A).trans O;by_cases C:fC n=l
      ·have a:gS (c::l)=some ⟨false,decide (c=105),(n:Int)⟩:=by
        cases a:gS (c::l)with
        |none=>exact absurd C (Iv a T1 Zo Zo)|some t=>obtain⟨_,T2,T6,T7,m,rfl⟩:=ve a p;obtain⟨f,g,j,k⟩:=uC (by omega:n<100);obtain⟨_,_,_,U5⟩:=uC (by omega:T2<100);rw[m, <-C,k]at U5;rw[U5]
       have T5:decide (hW ⟨false,decide (c=105),(n:Int)⟩≠c::l)=false:=by rw[U4,C];simp
       rw[a];refine bE @T5 (a8 UA) ⟨?_⟩;refine⟨rfl,aU.set U3 Zo v Zo⟩
      ·have a:gS (c::l)=none:=by
        cases a:gS (c::l)with
        |none=>rfl|some t=>
         obtain⟨_,T2,T6,T7,m,rfl⟩:=ve a p;obtain⟨f,g,j,k⟩:=uC (by omega:T2<100);rw[m]at f g j k;have:=(r f g j).2;rw[k]at this
         have:n=T2:=Zo
         subst this;exact absurd m C
       have T5:decide (hW ⟨false,decide (c=105),(n:Int)⟩≠c::l)=true:=by rw[U4];simp[C]
       rw[a];refine bo @T5 ⟨?_⟩;exact⟨rfl,aU.set U3 Zo v Zo⟩
    ·have a:gS (c::l)=none:=by
      cases a:gS (c::l)with
      |none=>rfl|some t=>obtain⟨_,n,T6,T7,m,rfl⟩:=ve a p;obtain⟨f,g,j,k⟩:=uC (by omega:n<100);rw[m]at f g j k;exact absurd (r f g j).1 Zs
     rw[a];refine bo @Ha ⟨?_⟩;exact⟨rfl,aU.set N Zo v Zo⟩
  ·have w:decide ((c:Int)≠117)=true:=z1;have T4:decide ((c:Int)≠105)=true:=z1;refine dA @d @L @T9 @w @T4 ⟨?_⟩;have a:gS (c::l)=none:=(by rw[xS];rw[Zi p,Zi T1]);rw[a];exact⟨rfl,cf⟩
def pw(w:Int):Int:=(18446744073709551615:Int).fdiv (2^(min (64-w).toNat 64))
def tQ(x o:Int):Int:=iq .u64 ((BitVec.ofInt 64 x&&& ~~~ BitVec.ofInt 64 o).toNat)
def qK(t:cH)(n:Int):Bool:=gw t&&decide (tQ n (pw t.w)=0)
def mh(t:cH)(n:Int):Bool:=if t.s then(if t.w-1=0 then decide (n=0)else qK ⟨false,false,t.w-1⟩ n)else qK t n
def mu:List aA:=[[110,111,100,101],[114,101,116,117,114,110,115],[118,97,114],[108,101,116],[116,101,108],[119,104,101,110],[110,111,116],[112,114,101],[102,98,121],[109,101,114,103,101],
 [105,102],[116,104,101,110],[101,108,115,101],[97,110,100],[111,114],[120,111,114],[116,114,117,101],[102,97,108,115,101]]
structure vG(X:bi):Prop where
 at_:∃v,∀q,ay X q (.ptr 1 0)=some v/\∀s:aA,fb X q 9 .zT v (.str s) false=some (.bool (decide (s∈mu)))
def aaX(e:bZ X)(d:vG X)(s:aA):aD X 65 [.str s] q u (λR D Z=>R=.bool (decide (s∈mu))/\D=q/\Z=u) zX:=by refine Fd e (MH ..) ?_;unfold D4;obtain⟨v,f⟩:=d.at_;obtain⟨a,b⟩:=f q;have c:=b s;refine bE @a @c ⟨?_⟩;exact⟨rfl,rfl,rfl⟩
def ε(c:bZ X)(t:cH)(e:1<=t.w/\t.w<=64)(d:(y X).aB<=u):aD X 137 [.agg (cP t)] q u (λR D Z=>R=.int .u64 (pw t.w)/\aU X q u D Z) zX:=by
 refine Fd c (Kh ..) ?_;unfold CR cP;have a:aK .sub (.Z 64) (.Z t.w)=some (.Z (64-t.w)):=ju Zo Zo;have b:aK .shr (.int .u64 18446744073709551615) (.Z (64-t.w))=some (.int .u64 (pw t.w)):=by
  have:decide ((64-t.w)<0)=false:=z2
  simp only[aK,gL,cI,tN,la,this,ga,hC,sE];rfl
 refine bE @a @b ⟨?_⟩;exact⟨rfl,cf⟩
def w2{t:cH}(h:gw t=true):1<=t.w/\t.w<=64:=by unfold gw at h;split at h<;>simp at h<;>omega
def Gq(b:bZ X)(t:cH)(n:Int)(k:(y X).aB<=u):aD X 102 [.agg (cP t),.int .u64 n] q u (λR D Z=>R=.bool (qK t n)/\aU X q u D Z) zX:=by
 refine Fd b (Jp ..) ?_;unfold Co;have l:cP t=[.bool t.b,.bool t.s,.Z t.w]:=rfl;rw[l];refine bx ⟨?_⟩;refine c7 (λau=>H X au u=zP [.bool t.b,.bool t.s,.Z t.w] 3/\aU X q u au (u+1)) ⟨aM k,cf⟩ ?_;rintro au ⟨f,i⟩;refine(qY b t Zo).Zm ?_;rintro R am aw ⟨rfl,a⟩;have p:=a.le;have d:=i.trans a;have g:H X am u=zP [.bool t.b,.bool t.s,.Z t.w] 3:=by rw[a.M _ Zo];exact f
 cases c:gw t with
 |false=>refine bx ⟨?_⟩;exact⟨by simp[qK,c],d⟩|true=>
  refine bo (a8 g) ⟨?_⟩;refine(ε (u:=aw) (q:=am) b t (w2 c) Zo).Zm ?_;rintro R m r ⟨rfl,j⟩;have e:aK .andNot (.int .u64 n) (.int .u64 (pw t.w))=some (.int .u64 (tQ n (pw t.w))):=by simp only[aK,gL,ga,iZ,cI,gH,gj,sE];rfl
  refine bo @e ⟨?_⟩;exact⟨by simp[qK,c],d.trans j⟩
def Rh(i:bZ X)(t:cH)(p:gw t=true)(n:Int)(m:(y X).aB<=u):aD X 64 [.agg (cP t),.int .u64 n] q u (λR D Z=>R=.bool (mh t n)/\aU X q u D Z) zX:=by
 refine Fd i (MF ..) ?_;unfold D3;have r:=w2 p;have l:cP t=[.bool t.b,.bool t.s,.Z t.w]:=rfl;rw[l];have j:aK .sub (.Z t.w) (.Z 1)=some (.Z (t.w-1)):=ju Zo Zo;cases e:t.s with
 |false=>refine bx ⟨?_⟩;refine c7 (λau=>aU X q u au (u+1)) cf ?_;intro au f;have:=Gq (u:=u+1) (q:=au) i t n Zo;rw[l,e]at this;refine this.Zm ?_;rintro R am aw ⟨rfl,g⟩;refine bx ⟨?_⟩;exact⟨by simp[mh,e],f.trans g⟩
 |true=>
  by_cases a:t.w-1=0
  ·have d:decide (t.w-1=0)=true:=(by simp[a]);refine bE @j @d ⟨?_⟩;refine dg (eS (k:=3) (b:=u) (I:=0) (n:=3) (c:=E.ofList [.bool t.b,.zV,.Z t.w] 0 .nil) (aM m) Zo rfl Zd Zd rfl) ?_;refine bo @d ⟨?_⟩;exact⟨by simp[mh,e,a],cf⟩
  ·have d:decide (t.w-1=0)=false:=(by simp[a]);refine bE @j @d ⟨?_⟩;refine dg (eS (k:=3) (b:=u) (I:=0) (n:=3) (c:=E.ofList [.bool t.b,.zV,.Z t.w] 0 .nil) (aM m) Zo rfl Zd Zd rfl) ?_;refine bo @d ⟨?_⟩;refine c7 (λau=>aU X q u au (u+1)) cf ?_;intro au f;refine(Gq (u:=u+1) (q:=au) i ⟨false,false,t.w-1⟩ n Zo).Zm ?_;rintro R am aw ⟨rfl,g⟩;refine bx ⟨?_⟩;exact⟨by simp[mh,e,a],f.trans g⟩
def lP(s:aA)(i:Nat):Tok×Bool:=
 let w:=(s.drop i).takeWhile fh
 (⟨if (gS w).isSome then 3 else if w∈mu then 2 else 1,w,0,0,(gS w).getD cd⟩,decide (w.length<=32))
def Hp{l:aA}(h:∀c∈l,fh c=true):pW l:=by intro c a;have:=h c a;simp[fh,j3,fa]at this;omega
def In{α:Type}(p:α->Bool):∀l:List α,∀c∈l.takeWhile p,p c=true:=by
 intro l;induction l with
 |nil=>simp|cons a l U=>
  intro c b;rw[YV]at b;split at b
  ·rcases Zq.1 b with rfl|b
   ·assumption
   ·exact U c b
  ·simp at b
def Bk(K:hO X q dI s i)(W:∀c∈s,c<256)(j:Nat)(p:Nat->Bool)(d:∀c,p c=true->fh c=true):((s.drop j).takeWhile p).length<=65536/\(∀c∈(s.drop j).takeWhile p,c<256)/\pW ((s.drop j).takeWhile p):=by have b:=rG p (s.drop j);rw[YH]at b;have:=K.many;refine⟨Zo,λc a=>W c (zn ((List.takeWhile_sublist p).subset a)),Hp λc a=>d c (In p _ c a)⟩
def adn(A:e5 X)(U3:g2 X)(U5:vG X)(K:hO X q dI s i)(W:∀c∈s,c<256)(TY:(y X).aB<=u)(UU:dI<u):
 aD X 39 [.ptr dI 0] q u (λR D Z=>R=.tuple [.agg (bq (lP s i).1),.bool (lP s i).2]/\aU X q u D Z) zX:=by
 refine Fd A.tobZ (LQ ..) ?_;unfold DF;have bV:=K.bV;have UR:=K.bn;obtain⟨UL,UM,UN⟩:=Bk K W i fh (λ_ h=>h);have U7:∀bU,hO X (aH X q u bU) dI s i:=λbU=>K.M (ah TY Zo);refine bo @bV ⟨?_⟩;refine(xB A.tobZ (H2 A.tobZ) (U7 _) K.le).Zm ?_;rintro R am aw ⟨rfl,rfl,rfl⟩;unfold lP;generalize (s.drop i).takeWhile fh=w at*;simp only[];refine bx ⟨?_⟩;refine c7 (λau=>H X au u=zP [.Z 0,.str [],.Z 0,.int .u64 0,.zT,.zT,.Z 0] 7/\H X au (u+1)=zP [.Z 1,.str w,.Z 0,.int .u64 0,.zT,.zT,.Z 0] 7/\aU X q u au (u+1+1)) ⟨by exact z6,by rw[aM Zo];rfl,cf⟩ ?_;rintro au ⟨U1,U2,U4⟩;refine(Iu A U3 UL UM UN Zo).Zm ?_;rintro R N e ⟨rfl,G⟩;have US:=G.le;have T7:=U4.trans G;have O:H X N u=zP [.Z 0,.str [],.Z 0,.int .u64 0,.zT,.zT,.Z 0] 7:=by rw[G.M _ Zo];exact U1
 have P:H X N (u+1)=zP [.Z 1,.str w,.Z 0,.int .u64 0,.zT,.zT,.Z 0] 7:=by rw[G.M _ Zo];exact U2
 generalize U8:(gS w).getD cd=t;have UA:cP t=[.bool t.b,.bool t.s,.Z t.w]:=rfl;rw[UA];have U0:decide ((w.length:Int)<=32)=decide (w.length<=32):=by simp;omega
 have fin:∀(a:E S) (L:Nat) (k:Int) (eu:cH) (j:E z),e<=L->aU X q u a L->H X a (u+1)=some (.cells j 7 .own)->H X a u=zP [.Z 0,.str [],.Z 0,.int .u64 0,.zT,.zT,.Z 0] 7->
  j.get 0=some (.Z k)->j.get 1=some (.str w)->j.get 2=some (.Z 0)->j.get 3=some (.int .u64 0)->j.get 4=some (.bool eu.b)->j.get 5=some (.bool eu.s)->j.get 6=some (.Z eu.w)->
  aa (ca X a 7 (.ptr (u+1) 0)) λUO=>aa (hG (.str w)) λUP=>aa (aK .leq UP (.Z 32)) λUQ=>aa (cW X a 7 (.ptr u 0) UO) λT4=>aa (ca X T4 7 (.ptr u 0)) λv37=>
   z.tuple [v37,UQ]=.tuple [.agg (bq ⟨k,w,0,0,eu⟩),.bool (decide (w.length<=32))]/\aU X q u T4 L:=by
  intro a L k eu j UT x d v UB a7 bl UC UD UE UF;have dk:=f1 d UB;have bw:=f1 d a7;have UG:=f1 d bl;have UH:=f1 d UC;have UI:=f1 d UD;have UJ:=f1 d UE;have UK:=f1 d UF;refine cu @dk @bw @UG @UH @UI @UJ (Za @UK @U0) ⟨?_⟩;exact⟨rfl,aU.set x (Zg _) TY (Zg _)⟩
 cases T9:(gS w).isSome with
 |true=>
  refine eN ⟨?_⟩;refine eN ⟨?_⟩;refine eN ⟨?_⟩;refine eN ⟨?_⟩;refine eN ⟨?_⟩;generalize C:aH X _ e _=f;have T5:H X f e=zP [.bool t.b,.bool t.s,.Z t.w] 3:=by rw[<-C,aM Zo];rfl
  have d:H X f u=zP [.Z 0,.str [],.Z 0,.int .u64 0,.zT,.zT,.Z 0] 7:=by rw[<-C];simp(disch:=omega) only[ah];exact O
  have v:H X f (u+1)=zP [.Z 1,.str w,.Z 0,.int .u64 0,.zT,.zT,.Z 0] 7:=by rw[<-C];simp(disch:=omega) only[ah];exact P
  have p:aU X q u f (e+1):=T7.trans (by rw[<-C];exact cf);clear C O P;refine bo (a8 T5) ⟨?_⟩;refine d9 (by simp[z.same,iE,i7]) ?_;generalize T3:aH X f (u+1) _=l;have T1:∀o,o≠u+1->H X l o=H X f o:=λo g=>by rw[<-T3,ah Zo g]
  have T6:H X l (u+1)=some (.cells (cj (E.ofList [.Z 1,.str w,.Z 0,.int .u64 0,.zT,.zT,.Z 0] 0 .nil) 0 [.Z 3]) 7 .own):=by rw[<-T3,aM Zo];rfl
  rw[<-T1 _ Zo]at T5 d;have T8:aU X q u l (e+1):=⟨p.le,λo g=>by rw[T1 o Zo];exact p.M o g⟩;clear T3 T1 v;refine dg (eS (k:=3) (b:=u+1) (I:=4) (n:=7) T6 Zo rfl Zd Zd rfl) ?_;generalize r:aH X l (u+1) _=a;have m:∀o,o≠u+1->H X a o=H X l o:=λo g=>by rw[<-r,ah Zo g]
  have T0:H X a (u+1)=some (.cells (cj (cj (E.ofList [.Z 1,.str w,.Z 0,.int .u64 0,.zT,.zT,.Z 0] 0 .nil) 0 [.Z 3]) 4 [.bool t.b,.bool t.s,.Z t.w]) 7 .own):=by rw[<-r,aM Zo];rfl
  rw[<-m _ Zo]at d;have x:aU X q u a (e+1+5):=⟨zL T8.le,λo g=>by rw[m o Zo];exact T8.M o g⟩;clear r m T6;have:=fin a (e+1+5) 3 t _ Zo x T0 d rfl rfl rfl rfl rfl rfl rfl;simp only[ZL];refine eN ⟨?_⟩;exact this
 |false=>
  have U9:t=cd:=by rw[<-U8];cases U6:gS w with|none=>rfl|some t=>rw[U6]at T9;cases T9
  refine bx ⟨?_⟩;refine c7 (λf=>aU X N e f (e+1)) cf ?_;intro f p;have T2:=T7.trans p;have d:H X f u=zP [.Z 0,.str [],.Z 0,.int .u64 0,.zT,.zT,.Z 0] 7:=by rw[p.M _ Zo];exact O
  have v:H X f (u+1)=zP [.Z 1,.str w,.Z 0,.int .u64 0,.zT,.zT,.Z 0] 7:=by rw[p.M _ Zo];exact P
  refine(aaX (u:=e+1) (q:=f) A.tobZ U5 w).Zm ?_;rintro R l UV ⟨rfl,rfl,rfl⟩;subst U9;simp only[ZA,ZJ];by_cases TZ:w∈mu
  ·simp only[TZ,YG,ZL];refine eN ⟨?_⟩;refine eN ⟨?_⟩;refine eN ⟨?_⟩;refine dg (eS (k:=1) (b:=u+1) (I:=0) (n:=7) v Zo rfl Zd Zd rfl) ?_;generalize r:aH X _ (u+1) _=a;have m:∀o,o≠u+1->H X a o=H X l o:=λo g=>(by rw[<-r,ah Zo g]);have T0:H X a (u+1)=some (.cells (cj (E.ofList [.Z 1,.str w,.Z 0,.int .u64 0,.zT,.zT,.Z 0] 0 .nil) 0 [.Z 2]) 7 .own):=(by rw[<-r,aM Zo];rfl);rw[<-m _ Zo]at d;have x:aU X q u a (e+1):=⟨T2.le,λo g=>by rw[m o Zo];exact T2.M o g⟩;have:=fin a (e+1) 2 cd _ Zo x T0 d rfl rfl rfl rfl rfl rfl rfl;refine eN ⟨?_⟩;exact this
  ·simp only[TZ,Yo,ZJ];have:=fin l (e+1) 1 cd _ Zo T2 v d rfl rfl rfl rfl rfl rfl rfl;refine eN ⟨?_⟩;refine eN ⟨?_⟩;refine eN ⟨?_⟩;exact this
def q9(s:aA)(i:Nat):Option Tok:=
 let d:=(s.drop i).takeWhile fa
 if (gk d).2≠0\/20<d.length then none
 else
  let a:=(s.drop (i+d.length)).takeWhile fh
  if a=[]then some ⟨4,d,0,(gk d).1,cd⟩
  else match gS a with
   |some t=>if !t.b&&mh t (gk d).1 then some ⟨5,d++a,0,(gk d).1,t⟩else none
   |none=>none
def B0:∀{w:aA}{t:cH},gS w=some t->gw t=true:=by
 intro w t h;cases w with
 |nil=>cases h|cons c l=>
  by_cases W:c::l=[98,111,111,108]
  ·rw[xS,Zv W]at h;cases h;rfl
  ·obtain⟨_,n,a,b,_,rfl⟩:=ve h W;simp[gw];omega
def TF(g:e5 X)(TZ:g2 X)(K:hO X q dI s i)(W:∀c∈s,c<256)(j:(y X).aB<=u)(UG:dI<u):
 aD X 37 [.ptr dI 0] q u (λR D Z=>(∃k,R=.tuple [.agg (bq k),.bool (q9 s i).isSome]/\∀x,q9 s i=some x->k=x)/\aU X q u D Z) zX:=by
 refine Fd g.tobZ (LM ..) ?_;unfold DD;have bV:=K.bV;have UU:=K.bn;have UV:=K.le;have UZ:=K.many;obtain⟨UQ,UR,Uc⟩:=Bk K W i fa (λc h=>by simp[fh,h]);have UP:=rG fa (s.drop i);rw[YH]at UP;have UF:∀bU,hO X (aH X q u bU) dI s i:=λbU=>K.M (ah j Zo);refine bo @bV ⟨?_⟩;refine(xB g.tobZ (aba g.tobZ) (UF _) K.le).Zm ?_;rintro R am aw ⟨rfl,rfl,rfl⟩;generalize a:q9 s i=N;unfold q9 at a;simp only[]at a;generalize (s.drop i).takeWhile fa=d at*;refine bx ⟨?_⟩;refine c7 (λau=>H X au u=zP [.Z 0,.str [],.Z 0,.int .u64 0,.zT,.zT,.Z 0] 7/\aU X q u au (u+1)) ⟨by exact z6,cf⟩ ?_;rintro au ⟨T8,U9⟩;refine(aaa g TZ UQ UR Zo).Zm ?_;rintro R U3 Ua ⟨⟨e,rfl,UD⟩,T3⟩;have UW:=T3.le;have m:=U9.trans T3;have T9:H X U3 u=zP [.Z 0,.str [],.Z 0,.int .u64 0,.zT,.zT,.Z 0] 7:=by rw[T3.M _ Zo];exact T8
 have T5:=K.M (m.M dI UG);have Ud:z.agg [.Z 0,.str [],.Z 0,.int .u64 0,.zT,.zT,.Z 0]=.agg (bq en):=rfl;rcases UD with ⟨T2,rfl⟩|⟨T2,b,rfl⟩
 ·by_cases U1:20<d.length
  ·rw[Zv (.inr U1)]at a;subst a;have T0:decide ((20:Int)<(d.length:Int))=true:=z1;refine bE @q4 @T0 ⟨?_⟩;exact⟨⟨en,rfl,λx h=>by cases h⟩,aU.set m Zo j Zo⟩
  have T0:decide ((20:Int)<(d.length:Int))=false:=z2;rw[Zi (by rintro(h|h);exact h T2;exact U1 h)]at a;have U5:=T5.bV;have U6:aK .add (.Z i) (.Z d.length)=some (.Z (i+d.length:Nat)):=by rw[cp Zo Zo];rfl
  refine df @q4 @T0 @U5 @U6 ⟨?_⟩;refine(xB g.tobZ (H2 g.tobZ) T5 Zo).Zm ?_;rintro R US Ub ⟨rfl,rfl,rfl⟩;obtain⟨UM,UN,UO⟩:=Bk T5 W (i+d.length) fh (λ_ h=>h);generalize (s.drop (i+d.length)).takeWhile fh=w at*;by_cases O:w=[]
  ·have T1:decide (w=[])=true:=(by simp[O]);rw[Zv O]at a;subst a;refine bo @T1 ⟨?_⟩;exact⟨⟨⟨4,d,0,(gk d).1,cd⟩,rfl,λx h=>by cases h;rfl⟩,aU.set m Zo j Zo⟩
  have T1:decide (w=[])=false:=by simp[O]
  rw[Zi O]at a;refine bo @T1 ⟨?_⟩;refine(Iu g TZ UM UN UO Zo).Zm ?_;rintro R U4 r ⟨rfl,T4⟩;have UX:=T4.le;have TY:H X U4 u=zP [.Z 0,.str [],.Z 0,.int .u64 0,.zT,.zT,.Z 0] 7:=by rw[T4.M _ Zo];exact T9
  have UA:=m.trans T4;generalize U2:(gS w).getD cd=t;have UH:cP t=[.bool t.b,.bool t.s,.Z t.w]:=rfl;rw[UH];refine eN ⟨?_⟩;refine eN ⟨?_⟩;refine eN ⟨?_⟩;refine eN ⟨?_⟩;refine eN ⟨?_⟩;generalize G:aH X _ r _=A;have f:H X A r=zP [.bool t.b,.bool t.s,.Z t.w] 3:=by rw[<-G,aM Zo];rfl
  have U7:H X A u=zP [.Z 0,.str [],.Z 0,.int .u64 0,.zT,.zT,.Z 0] 7:=by rw[<-G];simp(disch:=omega) only[ah];exact TY
  have n:aU X q u A (r+1):=UA.trans (by rw[<-G];exact cf);clear G TY T9 T8;have l:∀q,b7 X q .add 9 false (.str d) (.str w)=some (.str (d++w)):=λq=>by
   have:Nat.ble (d.length+w.length) 1000000000=true:=de Zo
   simp only[b7,oL,this,cI]
  have T7:∀T:Prop,T->d3 (.str (d++w)) (some (.str (d++w))) T:=λT h=>d9 (by simp[z.same,q2]) h;have v:∀T:Prop,T->d3 (.agg [.bool t.b,.bool t.s,.Z t.w]) (some (.agg [.bool t.b,.bool t.s,.Z t.w])) T:=λT h=>d9 (by simp[z.same,iE,i7]) h;have p:bq ⟨5,d++w,0,(gk d).1,t⟩=[.Z 5,.str (d++w),.Z 0,.int .u64 (gk d).1,.bool t.b,.bool t.s,.Z t.w]:=rfl;cases L:gS w with
  |none=>rw[L]at a;simp only[]at a;subst a;simp only[Z3];refine bE @l (a8 f) ⟨?_⟩;refine T7 _ ?_;refine bE @l (a8 f) ⟨?_⟩;refine v _ ?_;refine bx ⟨?_⟩;refine⟨⟨⟨5,d++w,0,(gk d).1,t⟩, ?_,λx h=>by cases h⟩,aU.set n Zo j Zo⟩;rw[p]|some eu=>
   have UJ:eu=t:=(by rw[L]at U2;exact U2);subst UJ;have UE:=B0 L;rw[L]at a;simp only[]at a;cases T6:eu.b with
   |true=>rw[T6]at a f p v;simp only[YN,Bool.false_and,ZA,ZJ]at a;subst a;simp only[Z3,Z4];refine bE @l (a8 f) ⟨?_⟩;refine T7 _ ?_;refine bE @l (a8 f) ⟨?_⟩;refine v _ ?_;refine bx ⟨?_⟩;refine⟨⟨⟨5,d++w,0,(gk d).1,eu⟩, ?_,λx h=>by cases h⟩,aU.set n Zo j Zo⟩;rw[p]|false=>
    rw[T6]at a f p v;simp only[YK,Bool.true_and]at a;simp only[Z4];refine bE @l (a8 f) ⟨?_⟩;have U0:=Rh (u:=r+1+19) (q:=A) g.tobZ eu UE ((gk d).1:Int) Zo;have UI:cP eu=[.zT,.bool eu.s,.Z eu.w]:=(by unfold cP;rw[T6]);rw[UI]at U0;refine U0.Zm ?_;rintro R P UL ⟨rfl,C⟩;have UY:=C.le;have U8:H X P r=zP [.zT,.bool eu.s,.Z eu.w] 3:=(by rw[C.M _ Zo];exact f);have UT:H X P u=zP [.Z 0,.str [],.Z 0,.int .u64 0,.zT,.zT,.Z 0] 7:=(by rw[C.M _ Zo];exact U7);have UB:aU X q u P UL:=⟨zL n.le,λo UK=>by rw[C.M o (zL n.le)];exact n.M o UK⟩;have UC:N.isSome=mh eu ((gk d).1:Int):=(by rw[<-a];cases mh eu ((gk d).1:Int)<;>rfl);rw[UC];refine bo @l ⟨?_⟩;refine T7 _ ?_;refine bo (a8 U8) ⟨?_⟩;refine v _ ?_;refine bx ⟨?_⟩;refine⟨⟨⟨5,d++w,0,(gk d).1,eu⟩, ?_,λx h=> ?_⟩,aU.set UB Zo j Zo⟩
    ·rw[p]
    ·rw[<-a]at h;split at h
     ·cases h;rfl
     ·cases h
 ·rw[Zv (.inl T2)]at a;subst a;refine bo @Ha ⟨?_⟩;exact⟨⟨en,rfl,λx h=>by cases h⟩,aU.set m Zo j Zo⟩
def ob:List aA:=[[45,62],[60,60],[62,62],[60,61],[62,61],[60,62],[40],[41],[44],[59],[58],[61],[60],[62],[43],[45],[42]]
structure yn(X:bi):Prop where
 at_:∀q,ca X q 17 (.ptr 0 0)=some (.agg (ob.map z.str))
def uw(s p:aA):Bool:=decide (p.length<=s.length/\s.take p.length=p)
def mw(s:aA)(i:Nat):Option aA:=ob.find? (uw (s.drop i))
def ry(p:aA):Tok:=⟨6,p,0,0,cd⟩
def FX{α:Type}(p:α->Bool):∀(l:List α) (j:Nat),(∀k<j,∀x,l[k]? =some x->p x=false)->l.find? p=(l.drop j).find? p:=by
 intro l j;induction j with
 |zero=>intro _;rfl|succ j U=>
  intro h;rw[U λk b=>h k Zo];by_cases a:j<l.length
  ·rw[Zz a,zi];have:=h j Zo l[j] (Zb a);rw[this]
  ·rw[ZM Zo,ZM Zo]
def abJ(v:e5 X)(O:yn X)(K:hO X q dI s i)(e:(y X).aB<=u)(T4:dI<u):
 aD X 35 [.ptr dI 0] q u (λR D Z=>R=.tuple [.agg (bq (match mw s i with|some p=>ry p|none=>en)),.bool (mw s i).isSome]/\aU X q u D Z) zX:=by
 refine Fd v.tobZ (LI ..) ?_;unfold DB;have T8:=K.bn;have T5:hJ (.str s) (some (.Z i)) none=some (.str (s.drop i)):=xJ .i64 K.le;have P:=O.at_;refine bo @P ⟨?_⟩;have r:H X (aH X q u (zP [.Z 0,.str [],.Z 0,.int .u64 0,.zT,.zT,.Z 0] 7)) u=zP [.Z 0,.str [],.Z 0,.int .u64 0,.zT,.zT,.Z 0] 7:=aM e;have t:aU X q u (aH X q u (zP [.Z 0,.str [],.Z 0,.int .u64 0,.zT,.zT,.Z 0] 7)) (u+1):=cf;refine cM (λm B D C=>∃(j:Nat),B.g 0=some (.ptr dI 0)/\B.g 2=some (.ptr u 0)/\B.g 6=some (.agg (ob.map z.str))/\B.g 7=some (.Z j)/\j+m=17/\H X D u=zP [.Z 0,.str [],.Z 0,.int .u64 0,.zT,.zT,.Z 0] 7/\aU X q u D C/\u+1<=C/\∀k<j,∀x,ob[k]? =some x->uw (s.drop i) x=false)
  17 ⟨0,aC,aC,aC,cT,Zo,r,t,Zg _,λk T1=>Zo⟩ ?_
 clear r t;rintro m B am aw ⟨j,t0,l,G,n,T9,N,b,TY,f⟩;have A:=K.M (b.M dI T4);have b8:=A.b8;have bV:=A.bV;cases m with
 |zero=>
  have d:decide ((j:Int)<17)=false:=z2;have c:mw s i=none:=by unfold mw;rw[FX _ _ j f,show ob.drop j=[] from ZM (by show 17<=j;omega)];rfl
  rw[c];refine cg @n @d @l ⟨?_⟩;exact⟨rfl,aU.set b Zo e Zo⟩
 |succ m=>
  have d:decide ((j:Int)<17)=true:=z1;have L:=zQ j;obtain⟨p,g⟩:∃p,ob[j]? =some p:=⟨_,Zb (by show j<17;omega)⟩;have T0:ky false 17 1 (.agg (ob.map z.str)) (.Z j)=some (.str p):=by
   have:Nat.blt j 17=true:=by simp[Nat.blt];omega
   simp only[ky,hV,this,cI,ga,jz,ZF,Zt,g];rfl
  refine cu @n @G @t0 @d @T0 @b8 (Za @bV @T5) ⟨?_⟩;refine(HQ v.tobZ (s.drop i) p).Zm ?_;rintro R T7 TZ ⟨rfl,rfl,rfl⟩;have T3:decide (p.length<=(s.drop i).length/\(s.drop i).take p.length=p)=uw (s.drop i) p:=rfl;rw[T3];cases w:uw (s.drop i) p with
  |true=>have c:mw s i=some p:=(by unfold mw;obtain⟨a,T6⟩:=Ze.1 g;have ai:ob.drop j=p::ob.drop (j+1):=(by rw[Zz a,T6]);rw[FX _ _ j f,ai,zi,w]);rw[c];refine bo @l ⟨?_⟩;exact⟨rfl,aU.set b Zo e Zo⟩|false=>
   refine bE @n @L ⟨?_⟩;refine⟨m,Zo,j+1,af t0,af l,af G,aC,Zo,N,⟨Zo,b.M⟩,Zo,λk T1 x a=> ?_⟩;by_cases T2:k=j
   ·subst T2;rw[g]at a;cases a;exact w
   ·exact f k Zo x a
end
end
end Go.Proofs.YtehmapikajmjaaaGreatDoor
