/- Part of the proof of the last text; no conditions -/
import Derived.Test.YtbbkkkpgjaopkaaGreatDoorYm
set_option maxHeartbeats 8000000
set_option linter.all false
namespace Go.Proofs.YtbbkkkpgjaopkaaGreatDoor
open Go.bp
noncomputable section
variable (X : cn) (h : R ag) (j : Nat) (ai aw : bN) (a0 bm ct a3 a4 a5 kd kz kA : z)
def TN:Za0:=λa b c d e f=>AQ d λg=>g1 a c d g.1 g.2 λc d g=>ar (gl b) λh=>ar (bg .gtr h (.Z 65536)) λh=>bw (λb c d=>eF b λg=>ar (ym a c g) λg=>ar (fd [.str [], .Z 0] [(0,1,g)]) λg=>jW a c d g λc d g=>a7 a 29 [c] d g (λ_ d g=>bw (λb c d=>fu b 5 4 λf g=>fZ g 1 a c λ_ g=>Ns 7 2 g λg=>Np g d a c f λc d f=>ar (fd [.Z 0, .Z 0] []) λg=>nr b 3 a d 2 g λa b=>e (.tuple [c,b]) a f) λh=>fQ (λb c d g=>ff (g+10) λg=>kb c λi=>fZ i 1 a d λ_ i=>kb c λj=>fZ j 0 a d λ_ j=>ar (lK j) λj=>ar (bg .lss i j) λi=>bw (λc d g=>bw (λc d e=>kb c λg=>a7 a 29 [g] d e (λ_ a d=>b c a d) f) λb=>kb c λh=>ff (g+10) λg=>kb c λi=>fZ i 0 a d λ_ i=>kb c λj=>fZ j 1 a d λ_ j=>ar (nc i j) λi=>bw (λc d g=>ca (c 6) λh=>mx a h [] d g (λd f g=>sf d g a f λd f g h=>ar (g7 .not d) λi=>bw (λc d e=>kb c λf=>fZ f 1 a d λ_ f=>ca (c 8) λg=>q8 2 g a d f λd=>ff (e+11) λe=>kb c λf=>fZ f 1 a d λ_ g=>jO c 8 1 a d λ_ h=>ar (lK h) λh=>ar (bg .add g h) λg=>hQ f 1 λf=>ka a d f g λd=>fu c 5 8 λf g=>ar (d0 a d 7 g) λg=>Np g e a d f λa d e=>b (ac c 5 a) d e) λb=>a8 i (ff (g+7) λb=>kb c λd=>fZ d 1 a h λ_ d=>ar (fd [.Z 0, .Z 0] [(0,1, .Z 20),(1,1,d)]) λd=>nr c 3 a h 2 d λa c=>e (.tuple [.aV,c]) a b) (b (zH c 8 f 9 d 59 i) h g)) f) λb=>a7 a 31 [i] d g (λd e g=>bw b λb=>a8 d (kb c λa=>b (zI c 6 (.func (.func 30) [h] []) 7 i 43 d 6 (.func (.func 32) [a] [])) e g) (a7 a 33 [i] e g (λa e f=>bw b λb=>a8 a (kb c λg=>b (ac (zI c 6 (.func (.func 30) [h] []) 7 i 43 d 48 a) 6 (.func (.func 34) [g] [])) e f) (b (zI c 6 (.func (.func 30) [h] []) 7 i 43 d 48 a) e f)) f)) f) λa=>a8 i (a (ac c 29 i) d g) (h (ac c 29 i) d g)) (zG b 4 c 5 .aV) d g) f) λf=>a8 h (ar (fd [.Z 0, .Z 0] [(0,1, .Z 3)]) λb=>AS a d 2 c b λa b=>e (.tuple [.aV,b]) a g) (f (zH (cY [b]) 2 .aV 3 c 12 h) d g)
def afe:dr X 17 [a0]=TN X a0:=Zk
def afd:dd X 17 1=true:=Zk
def TY:Za0:=λa b c d e f=>bw (λ_ a b=>e (.tuple []) a b) λg=>fQ (λb c d h=>ff (h+10) λh=>jP c 1 a d λ_ _ i=>jP c 0 a d λ_ _ j=>ar (lK j) λj=>ar (bg .lss i j) λi=>bw (λc d g=>bw b λb=>bw b λb=>ff (g+12) λg=>jP c 0 a d λ_ _ h=>jP c 1 a d λ_ _ i=>ar (nc h i) λh=>a7 a 50 [.str [32,9,10,13],h] d g (λd g h=>Gb d λd=>bw b λb=>a8 d (eF c λe=>F5 e a g λa=>b (ac c 12 d) a h) (ff (h+11) λh=>jP c 0 a g λ_ _ i=>jP c 1 a g λ_ _ j=>ar (md i (some j) none) λi=>a7 a 51 [i, .str [45,45]] g h (λg h i=>bw b λb=>a8 g (ff (i+15) λe=>jP c 1 a h λi j k=>fu c 0 0 λl m=>fZ m 1 a h λ_ m=>a7 a 52 [l,m, .func (.func 53) [] []] h e (λe f h=>ar (lK e) λe=>ar (bg .add k e) λe=>hQ i 1 λi=>ar (aR a f j) λj=>hG j (some k) (ka a f i e λa=>b (zG c 12 d 31 g) a h)) f) (e (.tuple []) h i)) f)) f) λa=>a8 i (a (ac c 11 i) d h) (g (ac c 11 i) d h)) (cY [b]) c d
def afu:dr X 29 [a0]=TY X a0:=Zk
def aft:dd X 29 1=true:=Zk
def T0:Za0:=λa b c d e f=>v8 d a c λc d g=>ar (d0 a d 17 (.ptr 1 0)) λh=>bw (λb c d=>Nt λf=>nr b 2 a c 7 f λa b=>e (.tuple [b, .zF]) a d) λi=>fQ (λb c d g=>F7 c 7 17 λh=>bw (λc d g=>bw (λa c d=>hu a 7 λe=>b (ac a 7 e) c d) λb=>fu c 6 7 λh i=>ar (sV false 17 1 h i) λh=>ff (g+11) λg=>jP c 0 a d λ_ _ i=>jP c 1 a d λ_ _ j=>ar (md i (some j) none) λi=>a7 a 51 [i,h] d g (λd f g=>bw b λb=>a8 d (Ns 6 1 h λb=>nr c 2 a f 7 b λa b=>e (.tuple [b, .zT]) a g) (b (zG c 5 h 20 d) f g)) f) λa=>a8 h (a (ac c 8 h) d g) (i (ac c 8 h) d g)) (zI (cY [b]) 2 c 3 .zF 6 h 7 (.Z 0)) d g
def afw:dr X 30 [a0]=T0 X a0:=Zk
def afv:dd X 30 1=true:=Zk
def T1:Za0:=λ_ a b c d _=>ar (bg .geq a (.int .u8 48)) λe=>jh e a b c λa b c=>ei e (bg .leq a (.int .u8 57)) b c λa b c=>c3 (λa=>d a b c) λb=>a8 e (b a) (b .zF)
def afy:dr X 31 [a0]=T1 X a0:=Zk
def afx:dd X 31 1=true:=Zk
def T2:Za0:=λa b c d e f=>v8 d a c λc d g=>fZ b 1 a d λ_ h=>a7 a 52 [b,h, .func (.func 31) [] []] d g (λd g h=>a7 a 54 [d, .Z 10, .Z 64] g h (λg h i=>jQ g λg j=>ar (dc a h .neq 115 true j .nilIface) λk=>hM k d h i λh i l=>eG k (lK h) i l λh i l=>eG k (bg .gtr h (.Z 20)) i l λh i l=>c3 (λh=>bw (λb c d=>fu b 0 0 λg h=>fZ h 1 a c λ_ h=>kb b λi=>ar (lK i) λi=>ar (bg .add h i) λh=>a7 a 52 [g,h, .func (.func 55) [] []] c d (λc d g=>ar (dc a d .eql 9 true c (.str [])) λh=>bw (λb c d=>ca (b 7) λg=>a7 a 56 [g] c d (λc d g=>jQ c λc h=>JH g λi=>mP a d g i.1 i.2 3 c λc d g=>ff (d+19) λd=>fu b 4 7 λi j=>ar (dc a g .add 9 false i j) λk=>ca (b 5) λl=>ar (d0 a g 3 c) λm=>ar (fd [.Z 0, .str [], .Z 0, .int .u64 0, .zF, .zF, .Z 0] [(0,1, .Z 5),(1,1,k),(3,1,l),(4,3,m)]) λl=>kO h (hI 0 c) g λg n=>kO h (aR a n g) n λg n=>kO h (g7 .not g) n λg n=>c3 (λg=>kO g (d0 a n 3 c) n λh n=>Rh g (b 5) n λn o=>lx g (λb=>a7 a 57 [h,n] o d b f) o d λd f h=>c3 (λd=>ar (dc a f .add 9 false i j) λg=>hG g (some k) (ar (d0 a f 3 c) λc=>hG c (some m) (nr b 2 a f 7 l λa b=>e (.tuple [b,d]) a h))) λa=>a8 g (a d) (a .zF)) λa=>a8 h (a g) (a .zF)) f) λf=>a8 h (fu b 4 5 λc f=>ar (fd [.Z 0, .str [], .Z 0, .int .u64 0, .zF, .zF, .Z 0] [(0,1, .Z 4),(1,1,c),(3,1,f)]) λc=>nr b 2 a d 7 c λa b=>e (.tuple [b, .zT]) a g) (f (zG b 7 c 39 h) d g)) f) λf=>a8 h (Nt λb=>AS a i 7 c b λa b=>e (.tuple [b, .zF]) a l) (f (zG (zI (cY [b]) 2 c 3 .zF 4 d 5 g) 6 j 27 h) i l)) λa=>a8 k (a .zT) (a h)) f) f
def afA:dr X 32 [a0]=T2 X a0:=Zk
def afz:dd X 32 1=true:=Zk
def T3:Za0:=λ_ a b c d _=>ar (bg .geq a (.int .u8 97)) λe=>jh e a b c λb c f=>ei e (bg .leq b (.int .u8 122)) c f λb c f=>c3 (λb=>hM b a c f λc e f=>eG b (bg .geq c (.int .u8 65)) e f λc e f=>hM b c e f λc e f=>jh c a e f λe f g=>ei c (bg .leq e (.int .u8 90)) f g λe f g=>k3 b (λa=>c3 (λb=>a b f g) λa=>a8 c (a e) (a .zF)) f g λc e f=>c3 (λb=>hM b a e f λa c e=>eG b (bg .eql a (.int .u8 95)) c e λa c e=>c3 (λa=>d a c e) λc=>a8 b (c .zT) (c a)) λa=>a8 b (a .zT) (a c)) λa=>a8 e (a b) (a .zF)
def afC:dr X 33 [a0]=T3 X a0:=Zk
def afB:dd X 33 1=true:=Zk
def T4:Za0:=λa b c d e f=>v8 d a c λc d g=>fZ b 1 a d λ_ h=>a7 a 52 [b,h, .func (.func 55) [] []] d g (λd g h=>Ns 1 1 d λi=>uF h a g i λg h i=>a7 a 56 [d] i h (λh i j=>jQ h λh k=>JH j λl=>mP a i j l.1 l.2 3 h λh i j=>bw (λb c d=>q7 b 5 a c 7 λf=>kb b λg=>ar (lK g) λg=>ar (bg .leq g (.Z 32)) λg=>nr b 2 a c 7 f λa b=>e (.tuple [b,g]) a d) λe=>a8 k (ff (i+5) λf=>ar (d0 a j 3 h) λi=>ar (hI 0 g) λl=>q6 a j l 3 λj=>ar (hI 4 g) λl=>ar (d0 a j 3 h) λm=>hG m (some i) (ar (fc a j 3 l i) λa=>e (zH (zI (cY [b]) 2 c 3 .zF 4 d 5 g) 6 h 7 k 21 k) a f)) (a7 a 58 [d] j i (λf i j=>bw e λe=>a8 f (ar (hI 0 g) λl=>q6 a i l 2 λa=>e (zI (zI (cY [b]) 2 c 3 .zF 4 d 5 g) 6 h 7 k 21 k 26 f) a j) (e (zI (zI (cY [b]) 2 c 3 .zF 4 d 5 g) 6 h 7 k 21 k 26 f) i j)) f)) f) f
def afE:dr X 34 [a0]=T4 X a0:=Zk
def afD:dd X 34 1=true:=Zk
def Ug:Za1:=λa b c d e f g=>a7 a 79 [b,c] d e f g
def af2:dr X 50 [a0,bm]=Ug X a0 bm:=Zk
def af1:dd X 50 2=true:=Zk
def Uh:Za1:=λa b c d e f g=>a7 a 80 [b,c] d e f g
def af4:dr X 51 [a0,bm]=Uh X a0 bm:=Zk
def af3:dd X 51 2=true:=Zk
def Ui:Za2:=λa b c d e f g h=>bw (λb c d=>jP b 0 a c λ_ _ a=>fu b 1 7 λb e=>ar (md a (some b) (some e)) λa=>g a c d) λg=>fQ (λb c d e=>fu c 7 0 λf i=>fZ i 0 a d λ_ i=>ar (lK i) λi=>ar (bg .lss f i) λf=>nQ f (c 2) d e λd e i=>nQ f (c 0) e i λe i j=>AT f e i j 0 a λe i j=>nQ f (c 7) i j λi j k=>ei f (nc e i) j k λe i j=>lx f (λb=>mx a d [e] i j b h) i j λa d e=>c3 (λa=>bw (λa c d=>bw b λb=>hu a 7 λe=>b (ac a 7 e) c d) λb=>a8 a (b (ac c 25 a) d e) (g (ac c 25 a) d e)) λb=>a8 f (b a) (b .zF)) (zG (cY [b,c,d]) 6 (.str []) 7 c) e f
def af6:dr X 52 [a0,bm,ct]=Ui X a0 bm ct:=Zk
def af5:dd X 52 3=true:=Zk
def Uj:Za0:=λ_ a b c d _=>ar (bg .neq a (.int .u8 10)) λa=>d a b c
def af8:dr X 53 [a0]=Uj X a0:=Zk
def af7:dd X 53 1=true:=Zk
def Uk:Za2:=λa b c d e f g h=>a7 a 81 [b,c,d] e f (λe f i=>jQ e λe j=>ar (dc a f .neq 115 true j .nilIface) λk=>bw (λa b c=>ca (a 8) λa=>g (.tuple [a, .nilIface]) b c) λl=>a8 k (a7 a 82 [.str [80,97,114,115,101,85,105,110,116],b,c,d,j] f i (λa b c=>g (.tuple [e,a]) b c) h) (l (ac (zI (cY [b,c,d]) 6 (.int .u64 0) 7 .nilIface 8 e 9 j) 18 k) f i)) h
def aga:dr X 54 [a0,bm,ct]=Uk X a0 bm ct:=Zk
def af9:dd X 54 3=true:=Zk
def Ul:Za0:=λa b c d e f=>a7 a 33 [b] c d (λc d g=>hM c b d g λb d g=>k3 c (λc=>a7 a 31 [b] d g c f) d g λa b d=>c3 (λa=>e a b d) λb=>a8 c (b .zT) (b a)) f
def agc:dr X 55 [a0]=Ul X a0:=Zk
def agb:dd X 55 1=true:=Zk
def Um:Za0:=λa b c d e f=>JH d λg=>g1 a c d g.1 g.2 λc d g=>ar (dc a d .eql 9 true b (.str [98,111,111,108])) λh=>bw (λb c d=>eF b λg=>ar (dc a c .eql 9 true g (.str [])) λg=>y9 g (b 0) c d λc d h=>eG g (nc c (.Z 0)) d h λc d h=>eG g (bg .neq c (.int .u8 117)) d h λc d h=>hM g c d h λc d h=>nQ c (b 0) d h λd h i=>ei c (nc d (.Z 0)) h i λd h i=>ei c (bg .neq d (.int .u8 105)) h i λd h i=>k3 g (λa=>c3 (λb=>a b h i) λa=>a8 c (a d) (a .zF)) h i λc d h=>c3 (λc=>bw (λb c d=>xR b 1 λg=>a7 a 83 [g] c d (λc d g=>jQ c λc h=>eF b λi=>JG i 105 λi=>ar (fd [.zF, .zF, .Z 0] [(1,1,i),(2,1,c)]) λi=>JH g λj=>mP a d g j.1 j.2 3 i λd g i=>ar (dc a i .neq 115 true h .nilIface) λj=>eG j (d0 a i 3 d) i g λg i k=>k3 j (λb=>a7 a 84 [g] i k b f) i k λg i k=>eG j (g7 .not g) i k λg i k=>c3 (λg=>eG g (d0 a i 3 d) i k λi j k=>k3 g (λb=>a7 a 85 [i] j k b f) j k λf i j=>y9 g (b 0) i j λi j k=>eG g (dc a j .neq 9 false f i) j k λf i j=>c3 (λf=>bw (λb c d=>q7 b 6 a c 3 λf=>nr b 2 a c 3 f λa b=>e (.tuple [b, .zT]) a d) λg=>a8 f (ar (fd [.zF, .zF, .Z 0] []) λc=>nr b 2 a i 3 c λa b=>e (.tuple [b, .zF]) a j) (g (zI b 4 c 5 h 6 d 46 f) i j)) λa=>a8 g (a .zT) (a f)) λa=>a8 j (a .zT) (a g)) f) λf=>a8 c (ar (fd [.zF, .zF, .Z 0] []) λc=>nr b 2 a d 3 c λa b=>e (.tuple [b, .zF]) a h) (f (ac b 21 c) d h)) λa=>a8 g (a .zT) (a c)) λf=>a8 h (ar (fd [.zF, .zF, .Z 0] [(0,1, .zT),(2,1, .Z 1)]) λb=>AS a d 3 c b λa b=>e (.tuple [b, .zT]) a g) (f (zH (cY [b]) 2 c 3 .zF 8 h) d g)
def age:dr X 56 [a0]=Um X a0:=Zk
def agd:dd X 56 1=true:=Zk
def Un:Za1:=λa b c d e f g=>jW a d e b λd e h=>ew 1 d a e λ_ i=>bw (λb c d=>q7 b 2 a c 3 λe=>ca (b 1) λb=>a7 a 86 [e,b] c d f g) λg=>a8 i (ew 2 d a e λ_ j=>Dx j λj=>ar (fd [.zF, .zF, .Z 0] [(2,1,j)]) λj=>ar (fc a e 3 d j) λe=>ew 2 d a e λ_ a=>q5 a 0 g λa g=>a8 a (ar (bg .eql c (.int .u64 0)) λa=>f a e h) (g (zI (cY [b,c]) 2 d 4 .zF 6 i 13 a) e h)) (g (zH (cY [b,c]) 2 d 4 .zF 6 i) e h)
def agh:dr X 57 [a0,bm]=Un X a0 bm:=Zk
def agf:dd X 57 2=true:=Zk
def Uo:Za0:=λa b c d e _=>ar (aR a c (.ptr 2 0)) λf=>ar (my a c 9 .zF f b false) λa=>e a c d
def agj:dr X 58 [a0]=Uo X a0:=Zk
def agi:dd X 58 1=true:=Zk
def UK:Za1:=λa b c d e f g=>a7 a 99 [b,c] d e f g
def agT:dr X 79 [a0,bm]=UK X a0 bm:=Zk
def agS:dd X 79 2=true:=Zk
def UM:Za1:=λa b c d e f _=>ar (lK b) λg=>ar (lK c) λh=>ar (bg .geq g h) λg=>jh g b d e λb d e=>jh g c d e λd e h=>ei g (lK d) e h λd e h=>ei g (md b none (some d)) e h λb d e=>jh g c d e λc d e=>ei g (dc a d .eql 9 false b c) d e λa b c=>c3 (λa=>f a b c) λb=>a8 g (b a) (b .zF)
def agX:dr X 80 [a0,bm]=UM X a0 bm:=Zk
def agW:dd X 80 2=true:=Zk
def UN:Za2:=λa b c d e f g h=>ar (dc a e .eql 9 true b (.str [])) λi=>bw (λb c d=>ca (b 1) λe=>Gd e λe=>eF b λf=>bw (λb c d=>ca (b 2) λe=>Gd e λe=>bw (λb c d=>ca (b 1) λe=>bw (λb c d=>Nv b 2 λe=>ar (bg .shl (.int .u64 1) e) λe=>ar (bg .sub e (.int .u64 1)) λe=>eF b λf=>ht (MZ a c d f) c d λc d f=>kV c (λb c d=>ca (b 12) λe=>nQ e (b 9) c d λc d f=>lx e (λb=>a7 a 101 [c] d f b h) d f λa c d=>ei e (g7 .not a) c d λa c d=>c3 (λa=>bw (λa b c=>ca (a 13) λa=>g (.tuple [a, .nilIface]) b c) λe=>a8 a (n5 2 λa=>g (.tuple [.int .u64 0,a]) c d) (e (ac b 169 a) c d)) λb=>a8 e (b a) (b .zF)) λi j=>fQ (λb c d e=>i1 c 101 100 λf=>bw (λc d e=>n6 (λa c d=>hu a 101 λe=>b (ac a 101 e) c d) c 99 101 1 λb f=>ar (aR a d f) λf=>bw (λa c d=>fu a 16 1 λe f=>ar (mU .u8 f) λf=>ar (bg .geq e f) λe=>bw (λa c d=>fu a 13 10 λe f=>ar (bg .geq e f) λe=>bw (λa c d=>fu a 13 1 λe f=>ar (mU .u64 f) λf=>ar (bg .mul e f) λe=>Nv a 16 λf=>ar (bg .add e f) λf=>ar (bg .lss f e) λh=>hM h f c d λc d i=>y9 h (a 11) d i λd i j=>eG h (bg .gtr c d) i j λc d i=>c3 (λc=>bw (λa c d=>ca (a 17) λe=>b (ac a 13 e) c d) λb=>a8 c (ca (a 11) λa=>n5 1 λb=>g (.tuple [a,b]) d i) (b (zH a 13 e 17 f 159 c) d i)) λa=>a8 h (a .zT) (a c)) λb=>a8 e (ca (a 11) λa=>n5 1 λb=>g (.tuple [a,b]) c d) (b (ac a 141 e) c d)) λb=>a8 e (n5 2 λa=>g (.tuple [.int .u64 0,a]) c d) (b (ac a 137 e) c d)) λi=>ar (bg .eql f (.int .u8 95)) λj=>nQ j (c 8) d e λd e k=>c3 (λd=>bw i λi=>a8 d (b (zI c 15 f 16 (.int .u8 0) 106 d 12 .zT) e k) (ar (bg .leq (.int .u8 48) f) λb=>jh b f e k λe j k=>ei b (bg .leq e (.int .u8 57)) j k λe j k=>c3 (λb=>bw i λe=>a8 b (ar (bg .sub f (.int .u8 48)) λa=>e (ac (zI c 15 f 16 (.int .u8 0) 106 d 112 b) 16 a) j k) (a7 a 100 [f] j k (λi j k=>ar (bg .leq (.int .u8 97) i) λi=>jh i f j k λj k l=>lx i (λb=>a7 a 100 [j] k l b h) k l λj k l=>ei i (bg .leq j (.int .u8 122)) k l λj k l=>c3 (λi=>bw e λe=>a8 i (a7 a 100 [f] k l (λa g h=>ar (bg .sub a (.int .u8 97)) λa=>ar (bg .add a (.int .u8 10)) λa=>e (zG (zI c 15 f 16 (.int .u8 0) 106 d 112 b) 121 i 16 a) g h) h) (n5 2 λa=>g (.tuple [.int .u64 0,a]) k l)) λa=>a8 i (a j) (a .zF)) h)) λa=>a8 b (a e) (a .zF))) λa=>a8 j (a d) (a .zF)) λa=>a8 f (a (ac c 102 f) d e) (j (ac c 102 f) d e)) (zG (zI b 11 e 12 .zF 13 (.int .u64 0) 99 c) 100 i 101 (.Z 0)) d f) λa=>q5 e 10 a λa f=>a8 a (f (zI b 10 (.int .u64 0) 85 e 90 a 10 (.int .u64 1844674407370955162)) c d) (q5 e 16 f λf g=>a8 f (g (ac (zI b 10 (.int .u64 0) 85 e 90 a 92 f) 10 (.int .u64 1152921504606846976)) c d) (Nv b 1 λh=>ar (bg .quo (.int .u64 18446744073709551615) h) λh=>ar (bg .add h (.int .u64 1)) λh=>g (ac (zI b 10 (.int .u64 0) 85 e 90 a 92 f) 10 h) c d))) λa=>a8 e (a (zG b 77 e 2 (.Z 64)) c d) (F7 b 2 0 λf=>y9 f (b 2) c d λc d h=>eG f (bg .gtr c (.Z 64)) d h λc d h=>c3 (λc=>bw a λa=>a8 c (n5 4 λa=>g (.tuple [.int .u64 0,a]) d h) (a (zG b 77 e 83 c) d h)) λa=>a8 f (a .zT) (a c))) λi=>ca (b 1) λj=>ar (bg .leq (.Z 2) j) λj=>nQ j (b 1) c d λc d k=>ei j (bg .leq c (.Z 36)) d k λc d k=>c3 (λc=>bw i λi=>a8 c (i (zH b 8 e 9 f 25 c) d k) (ca (b 1) λj=>q5 j 0 i λi j=>a8 i (eF b λg=>JG g 48 λg=>bw j λj=>a8 g (bw j λj=>Nr b d k λd k l m=>lx d (λb=>a7 a 100 [k] l m b h) l m λk l m=>ei d (bg .eql k (.int .u8 98)) l m λk l m=>c3 (λd=>bw j λj=>a8 d (xR b 2 λa=>j (ac (zI (zI b 8 e 9 f 25 c 32 i) 1 (.Z 10) 37 g 40 d 1 (.Z 2)) 0 a) l m) (Nr b l m λk l m n=>lx k (λb=>a7 a 100 [l] m n b h) m n λl m n=>ei k (bg .eql l (.int .u8 111)) m n λl m n=>c3 (λk=>bw j λj=>a8 k (xR b 2 λa=>j (zG (zI (zI b 8 e 9 f 25 c 32 i) 1 (.Z 10) 37 g 40 d 52 k) 1 (.Z 8) 0 a) m n) (Nr b m n λl m n o=>lx l (λb=>a7 a 100 [m] n o b h) n o λa h m=>ei l (bg .eql a (.int .u8 120)) h m λa h m=>c3 (λa=>bw j λj=>a8 a (xR b 2 λl=>j (zH (zI (zI b 8 e 9 f 25 c 32 i) 1 (.Z 10) 37 g 40 d 52 k) 64 a 1 (.Z 16) 0 l) h m) (xR b 1 λl=>j (zH (zI (zI b 8 e 9 f 25 c 32 i) 1 (.Z 10) 37 g 40 d 52 k) 64 a 1 (.Z 8) 0 l) h m)) λb=>a8 l (b a) (b .zF))) λa=>a8 k (a l) (a .zF))) λa=>a8 d (a k) (a .zF)) (j (zG (zI b 8 e 9 f 25 c 32 i) 1 (.Z 10) 37 g) d k)) (n5 3 λa=>g (.tuple [.int .u64 0,a]) d k))) λa=>a8 j (a c) (a .zF)) λa=>a8 i (n5 2 λa=>g (.tuple [.int .u64 0,a]) e f) (a (zH (cY [b,c,d]) 6 (.int .u64 0) 7 .nilIface 19 i) e f)
def agZ:dr X 81 [a0,bm,ct]=UN X a0 bm ct:=Zk
def agY:dd X 81 3=true:=Zk
def UO:Za4:=λa b c d e f g h i j=>bw (λa b c=>kb a λa=>i a b c) λk=>n5 2 λl=>ar (dc a g .eql 115 false f l) λl=>bw k λk=>a8 l (a7 a 102 [b,c] g h (λa b c=>ar (some (z.iface 155 a)) λa=>i a b c) j) (n5 1 λm=>ar (dc a g .eql 115 false f m) λm=>bw k λk=>a8 m (a7 a 103 [b,c] g h (λa b c=>ar (some (z.iface 155 a)) λa=>i a b c) j) (n5 3 λn=>ar (dc a g .eql 115 false f n) λn=>bw k λk=>a8 n (a7 a 104 [b,c,d] g h (λa b c=>ar (some (z.iface 155 a)) λa=>i a b c) j) (n5 4 λo=>ar (dc a g .eql 115 false f o) λo=>bw k λk=>a8 o (a7 a 105 [b,c,e] g h (λa b c=>ar (some (z.iface 155 a)) λa=>i a b c) j) (k (zG (zI (cY [b,c,d,e,f]) 10 .nilIface 11 f 12 l 19 m) 26 n 34 o) g h))))
def ag1:dr X 82 [a0,bm,ct,a3,a4]=UO X a0 bm ct a3 a4:=Zk
def ag0:dd X 82 5=true:=Zk
def UP:Za0:=λa b c d e f=>a7 a 106 [b] c d (λc d g=>jQ c λc h=>ar (dc a d .neq 115 true h .nilIface) λi=>bw (λa b c=>kb a λa=>e (.tuple [a, .nilIface]) b c) λj=>a8 i (a7 a 82 [.str [65,116,111,105],b, .Z 0, .Z 0,h] d g (λa b d=>e (.tuple [c,a]) b d) f) (j (ac (zI (cY [b]) 2 (.Z 0) 3 .nilIface 4 c 5 h) 12 i) d g)) f
def ag3:dr X 83 [a0]=UP X a0:=Zk
def ag2:dd X 83 1=true:=Zk
def UR:Za0:=λa b c d e f=>jW a c d b λc d g=>bw (λb c d=>jO b 1 2 a c λ_ b=>a7 a 107 [b] c d (λb c d=>ar (dc a c .add 9 true (.str [117]) b) λa=>e a c d) f) λh=>xT a d 3 c 84 g f λd g i=>xS d h λd h=>a8 d (e (.str []) g i) (ew 0 c a g λ_ j=>bw h λh=>a8 j (e (.str [98,111,111,108]) g i) (ew 1 c a g λ_ k=>bw h λh=>a8 k (ew 2 c a g λ_ b=>a7 a 107 [b] g i (λb c d=>ar (dc a c .add 9 true (.str [105]) b) λa=>e a c d) f) (h (ac (zI (cY [b]) 1 c 2 (.str []) 3 d 7 j) 10 k) g i)))
def ag7:dr X 85 [a0]=UR X a0:=Zk
def ag6:dd X 85 1=true:=Zk
def US:Za1:=λa b c d e f g=>jW a d e b λb d e=>xT a d 3 b 84 e g λd e h=>jh d c e h λc e h=>ei d (d0 a e 3 b) e h λb e h=>lx d (λc=>a7 a 108 [b] e h c g) e h λa b e=>ei d (bg .andNot c a) b e λa b c=>ei d (bg .eql a (.int .u64 0)) b c λa b c=>c3 (λa=>f a b c) λb=>a8 d (b a) (b .zF)
def ag9:dr X 86 [a0,bm]=US X a0 bm:=Zk
def ag8:dd X 86 2=true:=Zk
def Tt:Za1:=λa b c d e f g=>ff (e+7) λh=>ar (aR a d (.ptr 5 0)) λi=>a7 a 114 [c] d h (λc d g=>ar (fd [.str [], .str [], .nilIface] [(0,1,b),(1,1,c),(2,1,i)]) λb=>ws a d (e+5) b λb c=>ar (aR a c (.ptr 5 0)) λa=>hG a (some i) (f b c g)) g
def aeA:dr X 102 [a0,bm]=Tt X a0 bm:=Zk
def aez:dd X 102 2=true:=Zk
def Tu:Za1:=λa b c d e f g=>ff (e+7) λh=>ar (aR a d (.ptr 6 0)) λi=>a7 a 114 [c] d h (λc d g=>ar (fd [.str [], .str [], .nilIface] [(0,1,b),(1,1,c),(2,1,i)]) λb=>ws a d (e+5) b λb c=>ar (aR a c (.ptr 6 0)) λa=>hG a (some i) (f b c g)) g
def aeC:dr X 103 [a0,bm]=Tu X a0 bm:=Zk
def aeB:dd X 103 2=true:=Zk
def Tv:Za0:=λa b c d e f=>ar (lK b) λg=>oN (λc d h=>oN (λc d h=>oN (λc d h=>jh c g d h λd h i=>ei c (bg .lss d (.Z 10)) h i λd h i=>oN (λc d h=>c3 (λc=>hM c .zT d h λd h i=>jh d g h i λh i j=>ei d (bg .lss (.Z 0) h) i j λh i j=>jh d h i j λh i j=>jh h g i j λi j k=>ei h (bg .lss i (.Z 19)) j k λi j k=>lx d (λa=>c3 (λb=>a b j k) λa=>a8 h (a i) (a .zF)) j k λh i j=>k3 c (λa=>c3 (λb=>a b i j) λa=>a8 d (a h) (a .zF)) i j λd h i=>c3 (λc=>bw (λb c d=>eF b λb=>a7 a 116 [b, .Z 10, .Z 0] c d (λa b c=>jQ a λa d=>e (.tuple [a,d]) b c) f) λd=>a8 c (JG b 45 λd=>hM d b h i λf h i=>eG d (nc f (.Z 0)) h i λf h i=>eG d (bg .eql f (.int .u8 43)) h i λf h i=>c3 (λd=>bw (λb c d=>eF b λf=>ht (MZ a c d f) c d λc d f=>kV c (λa b c=>ca (a 5) λd=>JG d 45 λd=>bw (λa b c=>ca (a 6) λa=>e (.tuple [a, .nilIface]) b c) λe=>a8 d (ca (a 6) λf=>ar (g7 .neg f) λf=>e (zG a 66 d 6 f) b c) (e (ac a 66 d) b c)) λg h=>fQ (λb c d f=>i1 c 49 48 λg=>bw (λc d f=>n6 (λa c d=>hu a 49 λe=>b (ac a 49 e) c d) c 47 49 1 λb g=>ar (aR a d g) λa=>ar (bg .sub a (.int .u8 48)) λg=>ar (bg .gtr g (.int .u8 9)) λh=>bw (λa c d=>ca (a 6) λe=>ar (bg .mul e (.Z 10)) λe=>ca (a 8) λf=>ar (mU .i64 f) λf=>ar (bg .add e f) λe=>b (ac a 6 e) c d) λb=>a8 h (n5 2 λa=>e (.tuple [.Z 0,a]) d f) (b (zH c 8 a 8 g 56 h) d f)) λa=>a8 g (a (ac c 50 g) d f) (h (ac c 50 g) d f)) (zI b 6 (.Z 0) 47 c 48 g 49 (.Z 0)) d f) λa=>a8 d (ar (md b (some (.Z 1)) none) λf=>ar (lK f) λj=>ar (bg .lss j (.Z 1)) λj=>bw a λa=>a8 j (n5 2 λa=>e (.tuple [.Z 0,a]) h i) (a (zI (zI (cY [b]) 2 (.Z 0) 3 .nilIface 4 g 30 c) 5 b 39 d 0 f 44 j) h i)) (a (zG (zI (cY [b]) 2 (.Z 0) 3 .nilIface 4 g 30 c) 5 b 39 d) h i)) λa=>a8 d (a .zT) (a f)) (d (zI (cY [b]) 2 (.Z 0) 3 .nilIface 4 g 30 c) h i)) λa=>a8 c (a .zT) (a d)) λa=>a8 .zF (a c) (a .zF)) λa=>im true .zF (c3 (λb=>a b h i) λa=>a8 c (a d) (a .zF)) (a bp.undef h i)) λa=>im true .zF (a c d h) (a bp.undef d h)) λa=>im true .zF (ar (bg .lss (.Z 0) c) λb=>a b d h) (a bp.undef d h)) λa=>im true .zF (a g c d) (a bp.undef c d)
def aeE:dr X 106 [a0]=Tv X a0:=Zk
def aeD:dd X 106 1=true:=Zk
def Tx:Za0:=λa b c d e _=>jW a c d b λb c d=>ew 2 b a c λ_ a=>ar (bg .sub (.Z 64) a) λa=>ar (bg .shr (.int .u64 18446744073709551615) a) λa=>e a c d
def aeI:dr X 108 [a0]=Tx X a0:=Zk
def aeH:dd X 108 1=true:=Zk
def TD:Za2:=λa b c d e f g h=>ar (dc a e .eql 9 true b (.str [])) λi=>bw (λb c d=>eF b λe=>ar (nc e (.Z 0)) λe=>bw (λb c d=>fu b 0 1 λe f=>ca (b 2) λi=>a7 a 81 [e,f,i] c d (λc d e=>jQ c λc f=>ar (dc a d .neq 115 true f .nilIface) λh=>jh h f d e λd e i=>ei h (some (z.iface 153 (.Z 1))) e i λe i j=>ei h (dc a i .neq 115 false d e) i j λa d e=>c3 (λa=>bw (λa b c=>ca (a 2) λd=>Gd d λd=>bw (λa b c=>Tj a 2 1 λd=>ar (mU .u64 d) λd=>ar (bg .shl (.int .u64 1) d) λd=>ca (a 8) λe=>ar (g7 .not e) λe=>nQ e (a 9) b c λb c f=>jh e d c f λc f h=>ei e (bg .geq b c) f h λb c f=>c3 (λb=>bw (λa b c=>ca (a 8) λd=>nQ d (a 9) b c λb c e=>nQ d (a 10) c e λc e f=>ei d (bg .gtr b c) e f λb c e=>c3 (λb=>bw (λa b c=>ca (a 9) λd=>ar (mU .i64 d) λd=>ca (a 8) λe=>bw (λa b c=>ca (a 11) λa=>g (.tuple [a, .nilIface]) b c) λf=>a8 e (ar (g7 .neg d) λg=>f (zH a 11 d 69 e 11 g) b c) (f (zG a 11 d 69 e) b c)) λd=>a8 b (ca (a 10) λa=>ar (mU .i64 a) λa=>ar (g7 .neg a) λa=>n5 1 λb=>g (.tuple [a,b]) c e) (d (ac a 62 b) c e)) λa=>a8 d (a b) (a .zF)) λe=>a8 b (ar (bg .sub d (.int .u64 1)) λa=>ar (mU .i64 a) λa=>n5 1 λb=>g (.tuple [a,b]) c f) (e (zG a 10 d 52 b) c f)) λa=>a8 e (a b) (a .zF)) λe=>a8 d (e (zG a 41 d 2 (.Z 64)) b c) (e (ac a 41 d) b c)) λh=>a8 a (g (.tuple [.Z 0,f]) d e) (h (zI b 9 (.int .u64 0) 9 c 7 f 38 a) d e)) λb=>a8 h (b a) (b .zF)) h) λa=>ar (bg .eql e (.int .u8 43)) λf=>bw a λa=>a8 f (xR b 1 λg=>a (zI b 8 .zF 16 e 17 f 0 g) c d) (ar (bg .eql e (.int .u8 45)) λg=>bw a λa=>a8 g (xR b 1 λh=>a (zG (zI b 8 .zF 16 e 17 f 21 g) 0 h 8 .zT) c d) (a (zI b 8 .zF 16 e 17 f 21 g) c d))) λa=>a8 i (n5 2 λa=>g (.tuple [.Z 0,a]) e f) (a (zH (cY [b,c,d]) 6 (.Z 0) 7 .nilIface 13 i) e f)
def aeU:dr X 116 [a0,bm,ct]=TD X a0 bm ct:=Zk
def aeT:dd X 116 3=true:=Zk
def Tw:Za0:=λa b c d e f=>a7 a 117 [b] c d e f
def aeG:dr X 107 [a0]=Tw X a0:=Zk
def aeF:dd X 107 1=true:=Zk
def TE:Za0:=λa b c d e f=>a7 a 120 [b,.Z 10] c d e f
def aeW:dr X 117 [a0]=TE X a0:=Zk
def aeV:dd X 117 1=true:=Zk
def TH:Za1:=λa b c d e f g=>ar (bg .eql c (.Z 10)) λh=>bw (λb c d=>eF b λe=>ar (mU .u64 e) λe=>fu b 1 0 λb h=>Ga h λh=>a7 a 126 [.aV,e,b,h, .zF] c d (λa b c=>jQ a λ_ a=>f a b c) g) λi=>a8 h (ar (bg .leq (.Z 0) b) λi=>jh i b d e λd e j=>ei i (bg .lss d (.Z 100)) e j λd e j=>c3 (λd=>bw (λb c d=>ar (kB [.int .u8 0, .int .u8 0, .int .u8 0, .int .u8 0, .int .u8 0, .int .u8 0, .int .u8 0, .int .u8 0, .int .u8 0, .int .u8 0, .int .u8 0, .int .u8 0, .int .u8 0, .int .u8 0, .int .u8 0, .int .u8 0, .int .u8 0, .int .u8 0, .int .u8 0, .int .u8 0, .int .u8 0, .int .u8 0, .int .u8 0, .int .u8 0] d) λe=>g1 a c d e.1 e.2 λc d e=>eF b λh=>ar (mU .u64 h) λh=>eF b λi=>Ga i λi=>bw (λb c d=>ca (b 6) λe=>a7 a 124 [e] c d (λc d e=>ar (bg .add (.Z 1) c) λh=>ca (b 5) λi=>ar (SF 24 1 i (some (.Z 1)) (some h) none) λh=>ca (b 6) λi=>a7 a 125 [h,i] d e (λ_ d e=>eF b λg=>Ga g λg=>bw (λb c d=>ca (b 7) λe=>ar (bg .add (.Z 1) e) λe=>ca (b 5) λb=>ar (SF 24 1 b (some (.Z 1)) (some e) none) λb=>ar (ym a c b) λa=>f a c d) λh=>a8 g (ca (b 5) λg=>ar (E9 24 1 g (.Z 0)) λg=>ar (fc a d 1 g (.int .u8 45)) λd=>ar (bg .add (.Z 1) c) λc=>ca (b 5) λb=>ar (SF 24 1 b none (some c) none) λb=>ar (ym a d b) λa=>f a d e) (h (zG b 7 c 34 g) d e)) g) g) λa=>a8 i (ar (g7 .neg h) λf=>a (zI b 5 c 6 h 23 i 6 f) d e) (a (zH b 5 c 6 h 23 i) d e)) λi=>a8 d (a7 a 123 [b] e j f g) (i (zH (cY [b,c]) 4 (.str []) 11 h 17 d) e j)) λa=>a8 i (a d) (a .zF)) (i (zG (cY [b,c]) 4 (.str []) 11 h) d e)
def ae2:dr X 120 [a0,bm]=TH X a0 bm:=Zk
def ae1:dd X 120 2=true:=Zk
end
noncomputable section
variable (X : cn) (h : R ag) (j : Nat) (ai aw : bN) (a0 bm ct a3 a4 a5 kd kz kA : z)
def Ts:Za0:=λ_ a b c d _=>ar (bg .or a (.int .u8 32)) λa=>d a b c
def aey:dr X 100 [a0]=Ts X a0:=Zk
def aex:dd X 100 1=true:=Zk
def TK:Za0:=λ_ a b c d _=>ar (bg .lss a (.Z 10)) λe=>bw (λa b c=>eF a λe=>ar (bg .mul e (.Z 2)) λe=>eF a λa=>ar (bg .mul a (.Z 2)) λa=>ar (bg .add a (.Z 2)) λa=>ar (md (.str [48,48,48,49,48,50,48,51,48,52,48,53,48,54,48,55,48,56,48,57,49,48,49,49,49,50,49,51,49,52,49,53,49,54,49,55,49,56,49,57,50,48,50,49,50,50,50,51,50,52,50,53,50,54,50,55,50,56,50,57,51,48,51,49,51,50,51,51,51,52,51,53,51,54,51,55,51,56,51,57,52,48,52,49,52,50,52,51,52,52,52,53,52,54,52,55,52,56,52,57,53,48,53,49,53,50,53,51,53,52,53,53,53,54,53,55,53,56,53,57,54,48,54,49,54,50,54,51,54,52,54,53,54,54,54,55,54,56,54,57,55,48,55,49,55,50,55,51,55,52,55,53,55,54,55,55,55,56,55,57,56,48,56,49,56,50,56,51,56,52,56,53,56,54,56,55,56,56,56,57,57,48,57,49,57,50,57,51,57,52,57,53,57,54,57,55,57,56,57,57]) (some e) (some a)) λa=>d a b c) λf=>a8 e (F9 a λe=>ar (md (.str [48,49,50,51,52,53,54,55,56,57,97,98,99,100,101,102,103,104,105,106,107,108,109,110,111,112,113,114,115,116,117,118,119,120,121,122]) (some a) (some e)) λa=>d a b c) (f (zG (cY [a]) 2 (.str []) 4 e) b c)
def ae8:dr X 123 [a0]=TK X a0:=Zk
def ae7:dd X 123 1=true:=Zk
end
open Go.bp Go.aS
noncomputable section
def h8(c:Nat):Bool:=decide (48<=c)&&decide (c<=57)
def qf(c:Nat):Bool:=decide (97<=c)&&decide (c<=122)||decide (65<=c)&&decide (c<=90)||decide (c=95)
def ir(c:Nat):Bool:=qf c||h8 c
def y8{s:bc}{i c:Nat}(o:IntKind)(a:s[i]? =some c):nc (.str s) (.int o (i:Int))=some (.int .u8 (c:Int)):=by
 simp[nc,qT,a]
def SG{s:bc}{k a:Nat}(o eE:IntKind)(I:k<=a)(M:a<=s.length):md (.str s) (some (.int o (k:Int))) (some (.int eE (a:Int)))=some (.str ((s.drop k).take (a-k))):=by
 simp[md,nw,qh,qT,eU,I,M]
def M0{s:bc}{k:Nat}(o:IntKind)(I:k<=s.length):md (.str s) (some (.int o (k:Int))) none=some (.str (s.drop k)):=by
 simp[md,nw,qh,qT,eU,I,ZB]
def auj{s:bc}{a:Nat}(o:IntKind)(I:a<=s.length):md (.str s) none (some (.int o (a:Int)))=some (.str (s.take a)):=by
 simp[md,nw,qh,qT,eU,I]
section
variable{X:cn}{h S a1 aT:R ag}{j aq aP bk:Nat}
def OF(aB:dR X)(c:Nat):a7 X 31 [.int .u8 (c:Int)] h j (λaa S aq=>aa= .bool (h8 c)/\S=h/\aq=j) zK:=by
 refine zF aB (afx X) ?_
 rw[afy]
 unfold T1
 by_cases a:48<=c
 ·have d:decide ((48:Int)<=(c:Int))=true:=by simp;omega
  have cJ:decide ((c:Int)<=57)=decide (c<=57):=by simp;omega
  refine dk @d @cJ ⟨?_⟩
  exact⟨by simp[h8,a],rfl,rfl⟩
 ·have d:decide ((48:Int)<=(c:Int))=false:=by simp;omega
  refine cr @d ⟨?_⟩
  exact⟨by simp[h8,a],rfl,rfl⟩
def VE(aB:dR X)(c:Nat):a7 X 33 [.int .u8 (c:Int)] h j (λaa S aq=>aa= .bool (qf c)/\S=h/\aq=j) zK:=by
 refine zF aB (afB X) ?_
 rw[afC]
 unfold T3
 have cL:decide ((97:Int)<=(c:Int))=decide (97<=c):=by simp;omega
 have cJ:decide ((c:Int)<=122)=decide (c<=122):=by simp;omega
 have eI:decide ((65:Int)<=(c:Int))=decide (65<=c):=by simp;omega
 have h3:decide ((c:Int)<=90)=decide (c<=90):=by simp;omega
 have fM:decide ((c:Int)=95)=decide (c=95):=by simp;omega
 by_cases I:97<=c<;>by_cases M:c<=122<;>by_cases ak:65<=c<;>by_cases aA:c<=90<;>try omega
 all_goals
  simp only[I,M,ak,aA,YD,Yl]at cL cJ eI h3
  refine gV @cL @cJ @eI @h3 @fM ⟨?_⟩
  exact⟨by simp[qf,I,M,ak,aA],rfl,rfl⟩
def arr(aB:dR X)(c:Nat):a7 X 55 [.int .u8 (c:Int)] h j (λaa S aq=>aa= .bool (ir c)/\S=h/\aq=j) zK:=by
 refine zF aB (agb X) ?_
 rw[agc]
 unfold Ul
 refine(VE aB c).Zm ?_
 rintro aa S aq ⟨rfl,rfl,rfl⟩
 cases aj:qf c with
 |true=>
  refine cV ⟨?_⟩
  exact⟨by simp[ir,aj],rfl,rfl⟩
 |false=>
  refine cV ⟨?_⟩
  refine(OF aB c).Zm ?_
  rintro aa S aq ⟨rfl,rfl,rfl⟩
  refine cV ⟨?_⟩
  exact⟨by simp[ir,aj],rfl,rfl⟩
def arF(aB:dR X)(c:Nat):a7 X 53 [.int .u8 (c:Int)] h j (λaa S aq=>aa= .bool (decide (c≠10))/\S=h/\aq=j) zK:=by
 refine zF aB (af7 X) ?_
 rw[af8]
 unfold Uj
 refine cV ⟨?_⟩
 exact⟨by congr 1;simp;omega,rfl,rfl⟩
def qi(c:Nat):Nat:=(BitVec.ofInt 8 (c:Int)|||BitVec.ofInt 8 32).toNat%256
def RL(aB:dR X)(c:Nat):a7 X 100 [.int .u8 (c:Int)] h j (λaa S aq=>aa= .int .u8 (qi c:Int)/\S=h/\aq=j) zK:=by
 refine zF aB (aex X) ?_
 rw[aey]
 unfold Ts
 have B:bg .or (.int .u8 (c:Int)) (.int .u8 32)=some (.int .u8 (n4 .u8 ((BitVec.ofInt 8 (c:Int)|||BitVec.ofInt 8 32).toNat))):=by
  simp[bg,k2,ly,kW,ki];rfl
 refine cr @B ⟨?_⟩
 exact⟨rfl,rfl,rfl⟩
def acT(aB:dR X)(s p:bc):a7 X 51 [.str s, .str p] h j (λaa S aq=>aa= .bool (decide (p.length<=s.length/\s.take p.length=p))/\S=h/\aq=j) zK:=by
 refine zF aB (af3 X) ?_
 rw[af4]
 unfold Uh
 refine zF aB (agW X) ?_
 rw[agX]
 unfold UM
 by_cases a:p.length<=s.length
 ·have d:decide ((p.length:Int)<=(s.length:Int))=true:=by simp;omega
  have B:=auj (s:=s) .i64 a
  refine dk @d @B ⟨?_⟩
  exact⟨by congr 1;simp[a],rfl,rfl⟩
 ·have d:decide ((p.length:Int)<=(s.length:Int))=false:=by simp;omega
  refine cr @d ⟨?_⟩
  exact⟨by congr 1;simp;omega,rfl,rfl⟩
end
def JT(X:cn)(f:z)(p:Nat->Bool):Prop:=∃o,f= .func (.func o) [] []/\∀(h:R ag) (j c:Nat),a7 X o [.int .u8 (c:Int)] h j (λaa S aq=>aa= .bool (p c)/\S=h/\aq=j) zK
def atz{X:cn}(aB:dR X):JT X (.func (.func 31) [] []) h8:=⟨_,rfl,λh j c=>OF aB c⟩
def adf{X:cn}(aB:dR X):JT X (.func (.func 55) [] []) ir:=⟨_,rfl,λh j c=>arr aB c⟩
def atA{X:cn}(aB:dR X):JT X (.func (.func 53) [] []) (λc=>decide (c≠10)):=⟨_,rfl,λh j c=>arF aB c⟩
structure mm(X:cn)(h:R ag)(fO:Nat)(s:bc)(i:Nat):Prop where
 g:Z X h fO=zC [.str s, .Z (i:Int)] 2
 le:i<=s.length
 many:s.length<=65536
 ci:(q X).a6<=fO
def mm.dV{X:cn}{h:R ag}{fO:Nat}{s:bc}{i:Nat}(a:mm X h fO s i):aR X h (.ptr fO 0)=some (.str s):=by rw[bS a.g];rfl
def mm.dv{X:cn}{h:R ag}{fO:Nat}{s:bc}{i:Nat}(a:mm X h fO s i):aR X h (.ptr fO 1)=some (.Z (i:Int)):=by rw[bS a.g];rfl
def mm.ad{X:cn}{h S:R ag}{fO:Nat}{s:bc}{i:Nat}(a:mm X h fO s i)(o:Z X S fO=Z X h fO):mm X S fO s i:=⟨by rw[o];exact a.g,a.le,a.many,a.ci⟩
section
variable{X:cn}{h S a1 aT:R ag}{j aq aP bk fO:Nat}{s:bc}{i:Nat}
def MW(aB:dR X){f:z}{p:Nat->Bool}(ch:JT X f p)(U:mm X h fO s i){D:Nat}(aC:D<=s.length):
 a7 X 52 [.ptr fO 0, .Z (D:Int),f] h j (λaa S aq=>aa= .str ((s.drop D).takeWhile p)/\S=h/\aq=j) zK:=by
 refine zF aB (af5 X) ?_
 rw[af6]
 unfold Ui
 obtain⟨o,rfl,ch⟩:=ch
 have aX:=U.many
 have dV:=U.dV
 refine cV ⟨?_⟩
 refine f6 (λm H S aQ=>∃(B:Nat),H.g 0=some (.ptr fO 0)/\H.g 1=some (.Z (D:Int))/\H.g 2=some (.func (.func o) [] [])/\H.g 7=some (.Z (B:Int))/\D<=B/\B+m=s.length/\S=h/\aQ=j/\(s.drop D).takeWhile p=(s.drop D).take (B-D)++(s.drop B).takeWhile p)
  (s.length-D) ⟨D,bC,bC,bC,bC,Zi _,Zo,rfl,rfl,Zs⟩ ?_
 rintro m H aT bk ⟨B,t0,t1,eY,gT,amu,awu,rfl,rfl,bQ⟩
 have bA:=zD B
 have bf:md (.str s) (some (.Z (D:Int))) (some (.Z (B:Int)))=some (.str ((s.drop D).take (B-D))):=SG .i64 .i64 amu Zo
 cases m with
 |zero=>
  have d:=zz B s.length
  rw[ZH (by omega:s.length<=B),List.takeWhile_nil,Z4]at bQ
  refine eQ @gT @t0 @t1 @eY @dV @d @bf ⟨?_⟩
  exact⟨by rw[bQ],rfl,rfl⟩
 |succ m=>
  have d:=zA B s.length
  obtain⟨c,ay⟩:=zB s B
  have aI:s.drop B=c::s.drop (B+1):=by
   obtain⟨af,F⟩:=Zb.1 ay
   rw[Zz af,F]
  have d7:=y8 .i64 ay
  refine eQ @gT @t0 @t1 @eY @dV @d @d7 ⟨?_⟩
  refine(ch aT bk c).Zm ?_
  rintro aa be bF ⟨rfl,rfl,rfl⟩
  rw[aI,YC]at bQ
  cases av:p c with
  |false=>
   rw[av]at bQ
   simp only[Zu,ZD,Z4]at bQ
   refine gV @gT @t0 @t1 @dV @bf ⟨?_⟩
   exact⟨by rw[bQ],rfl,rfl⟩
  |true=>
   rw[av]at bQ
   simp only[ZE]at bQ
   refine dk @gT @bA ⟨?_⟩
   refine⟨m,Zo,B+1,aY t0,aY t1,aY eY,bC,Zo,Zo,rfl,rfl, ?_⟩
   rw[bQ,show B+1-D=(B-D)+1 by omega,YA]
   have:(s.drop D)[B-D]? =some c:=by rw[Z1,show D+(B-D)=B by omega];exact ay
   rw[this]
   simp
end
def It(c:Nat):Bool:=decide (c=32)||decide (c=9)||decide (c=10)||decide (c=13)
structure ix(X:cn):Prop extends dR X where
 idx:∀c:Nat,c<256->∃br:Int,X.O 99 [.str [32,9,10,13], .int .u8 (c:Int)]=some (.Z br)/\(0<=br↔It c=true)
 clone:∀s:bc,(∀c∈s,c<256)->s.length<=65536->X.O 114 [.str s]=some (.str s)
def nA(s:bc):Nat->Nat->Nat
 |0,i=>i
 |n+1,i=>match s[i]? with
  |none=>i
  |some c=>if It c then nA s n (i+1)
   else if 2<=(s.drop i).length/\(s.drop i).take 2=[45,45]then nA s n (i+((s.drop i).takeWhile λc=>decide (c≠10)).length)else i
def Dd{α:Type}(p:α->Bool):∀k:List α,(k.takeWhile p).length<=k.length:=by
 intro k
 induction k with
 |nil=>simp
 |cons D k ah=>rw[YC];split<;>simp<;>omega
section
variable{X:cn}{h S a1 aT:R ag}{j aq aP bk fO:Nat}{s:bc}{i:Nat}
def apG(aB:ix X){c:Nat}(ay:c<256):a7 X 50 [.str [32,9,10,13], .int .u8 (c:Int)] h j (λaa S aq=>(∃br:Int,aa= .Z br/\(0<=br↔It c=true))/\S=h/\aq=j) zK:=by
 refine zF aB.todR (af1 X) ?_
 rw[af2]
 unfold Ug
 refine zF aB.todR (agS X) ?_
 rw[agT]
 unfold UK
 obtain⟨br,I,M⟩:=aB.idx c ay
 exact GI I ⟨⟨br,rfl,M⟩,rfl,rfl⟩
def VH(aB:ix X)(U:mm X h fO s i)(aj:∀c∈s,c<256)(aL:(q X).a6<=j)(If:fO<j):
 a7 X 29 [.ptr fO 0] h j (λaa S aq=>mm X S fO s (nA s s.length i)/\co X [fO] h j S aq) zK:=by
 refine zF aB.todR (aft X) ?_
 rw[afu]
 unfold TY
 have aX:=U.many
 have hz:=U.ci
 refine cV ⟨?_⟩
 refine f6 (λm H S aQ=>∃(W:Nat),H.g 0=some (.ptr fO 0)/\mm X S fO s W/\s.length<=W+m/\nA s s.length i=nA s m W/\co X [fO] h j S aQ)
  s.length ⟨i,bC,U,Zo,rfl,co.refl _ _ _⟩ ?_
 rintro m H aT bk ⟨W,t0,g9,Qi,bB,dp⟩
 have gP:=dp.le
 have dV:=g9.dV
 have dv:=g9.dv
 have rI:=g9.le
 have b5:=g9.g
 by_cases BL:W=s.length
 ·subst BL
  have ce:nA s m s.length=s.length:=by cases m<;>simp[nA]
  have d:decide ((s.length:Int)<(s.length:Int))=false:=by simp
  refine hT @t0 @dV @dv @d ⟨?_⟩
  exact⟨by rw[bB,ce];exact g9,dp.trans ⟨Zo,λ_ _ _=>rfl⟩⟩
 have d:=zA W s.length
 obtain⟨c,ay⟩:=zB s W
 obtain⟨m,rfl⟩:∃eH,m=eH+1:=⟨m-1,Zo⟩
 rw[nA,ay]at bB
 simp only[]at bB
 have d7:=y8 .i64 ay
 have K7:=aj c (Zl ay)
 refine gV @t0 @dV @dv @d @d7 ⟨?_⟩
 refine(apG aB K7).Zm ?_
 rintro aa be bF ⟨⟨br,rfl,ce⟩,rfl,rfl⟩
 cases ip:It c with
 |true=>
  have k1:=ce.2 ip
  have cJ:decide ((0:Int)<=br)=true:=by simp;omega
  have bA:=zD W
  rw[ip]at bB
  simp only[ZE]at bB
  refine hT @t0 @dv @cJ @bA ⟨?_⟩
  refine⟨m,Zo,W+1,aY t0,⟨by rw[bv Zo];rfl,Zo,aX,hz⟩,Zo,bB,dp.trans ⟨Zo,λb aj bI=>by simp only[Zq,ZJ,YV,Yn,ZI,Ye]at bI;exact zE⟩⟩
 |false=>
  have cJ:decide ((0:Int)<=br)=false:=by simp;have:=mt ce.1 (by rw[ip];decide);omega
  have bA:md (.str s) (some (.Z (W:Int))) none=some (.str (s.drop W)):=M0 .i64 rI
  rw[ip]at bB
  simp only[Zu,ZD]at bB
  refine gV @t0 @dV @dv @cJ @bA ⟨?_⟩
  refine(acT aB.todR (s.drop W) [45,45]).Zm ?_
  rintro aa bU cP ⟨rfl,rfl,rfl⟩
  by_cases av:2<=(s.drop W).length/\(s.drop W).take 2=[45,45]
  ·rw[Zp av]at bB
   have eI:decide ([45,45].length<=(s.drop W).length/\List.take [45,45].length (s.drop W)=[45,45])=true:=decide_eq_true av
   have az:=Dd (λc=>decide (c≠10)) (s.drop W)
   rw[Yy]at az
   generalize bQ:((s.drop W).takeWhile λc=>decide (c≠10)).length=w at bB az
   have oI:1<=w:=by
    have alW:c=45:=by
     have:=av.2
     have aI:s.drop W=c::s.drop (W+1):=by
      obtain⟨af,F⟩:=Zb.1 ay
      rw[Zz af,F]
     rw[aI]at this
     simp at this
     exact this.1
    have aI:s.drop W=c::s.drop (W+1):=by
     obtain⟨af,F⟩:=Zb.1 ay
     rw[Zz af,F]
    rw[aI,alW,YC]at bQ
    simp at bQ
    omega
   have cg:bg .add (.Z (W:Int)) (.Z (w:Int))=some (.Z ((W+w:Nat):Int)):=by rw[eO Zo Zo];rfl
   simp only[eI]
   refine eW @t0 @dV @dv ⟨?_⟩
   refine(MW aB.todR (atA aB.todR) g9 rI).Zm ?_
   rintro aa bY cw ⟨rfl,rfl,rfl⟩
   have eN:lK (.str ((s.drop W).takeWhile λc=>decide (c≠10)))=some (.Z (w:Int)):=by rw[vD,bQ]
   refine eW @eN @cg @dv ⟨?_⟩
   refine iY (by simp[z.same]) ?_
   refine cV ⟨?_⟩
   refine⟨m,Zo,W+w,aY t0,⟨by rw[bv Zo];rfl,Zo,aX,hz⟩,Zo,bB,dp.trans ⟨Zo,λb aj bI=>by simp only[Zq,ZJ,YV,Yn,ZI,Ye]at bI;exact zE⟩⟩
  ·rw[Zg av]at bB
   have eI:decide ([45,45].length<=(s.drop W).length/\List.take [45,45].length (s.drop W)=[45,45])=false:=decide_eq_false av
   simp only[eI]
   refine cV ⟨?_⟩
   exact⟨by rw[bB];exact g9,dp.trans ⟨Zo,λ_ _ _=>rfl⟩⟩
end
def r7:bc->Nat->Nat×Nat
 |[],n=>(n,0)
 |c::k,n=>if h8 c then(if 1844674407370955162<=n then(18446744073709551615,1)else if 18446744073709551616<=n*10+(c-48)then(18446744073709551615,1)else r7 k (n*10+(c-48)))
  else(0,2)
def j6(s:bc):Nat×Nat:=if s=[]then(0,2)else r7 s 0
def uY:Nat->z
 |0=> .nilIface
 |n+1=> .iface 153 (.Z ((n+1:Nat):Int))
def VP{C:aM}{h:R ag}{j:Nat}{s:bc}{ai:bN}(a:s.length<=1048576)(o:ai (.fh j 0 s.length 1) (bn C h j (some (.cells (R.ofList (s.map λn:Nat=>z.int .u8 (n:Int)) 0 .nil) s.length (.grow [])))) (j+1)):ht (MZ C h j (.str s)) h j ai:=by
 refine mc (v:= .fh j 0 s.length 1) (S:=bn C h j (some (.cells (R.ofList (s.map λn:Nat=>z.int .u8 (n:Int)) 0 .nil) s.length (.grow [])))) (aq:=j+1) ?_ o
 simp[MZ,sD,jV a,mz]
def aec{x:Int}(I:0<=x)(M:x<18446744073709551616):n4 .u64 x=x:=by
 simp only[n4];exact YR I M
def apz{x e:Nat}(a:x+e<18446744073709551616):bg .add (.int .u64 (x:Int)) (.int .u64 (e:Int))=some (.int .u64 ((x+e:Nat):Int)):=by
 rw[abd];congr 2;rw[YR Zo Zo];rfl
def apB{x e:Nat}(a:x*e<18446744073709551616):bg .mul (.int .u64 (x:Int)) (.int .u64 (e:Int))=some (.int .u64 ((x*e:Nat):Int)):=by
 have:(x:Int)*(e:Int)=((x*e:Nat):Int):=by simp
 simp only[bg,k2,ly,kW,kE,fj,ki,this]
 rw[aec Zo Zo,Ea]
def abf{x e:Nat}(a:e<=x)(M:x<256):bg .sub (.int .u8 (x:Int)) (.int .u8 (e:Int))=some (.int .u8 ((x-e:Nat):Int)):=by
 have:(x:Int) -(e:Int)=((x-e:Nat):Int):=Zo
 have w:n4 .u8 ((x-e:Nat):Int)=((x-e:Nat):Int):=by simp only[n4];exact YR Zo Zo
 simp only[bg,k2,ly,kW,kE,fj,ki,this,w,Ea]
def apy{x e:Nat}(M:x+e<256):bg .add (.int .u8 (x:Int)) (.int .u8 (e:Int))=some (.int .u8 ((x+e:Nat):Int)):=by
 have:(x:Int)+(e:Int)=((x+e:Nat):Int):=Zo
 have w:n4 .u8 ((x+e:Nat):Int)=((x+e:Nat):Int):=by simp only[n4];exact YR Zo Zo
 simp only[bg,k2,ly,kW,kE,fj,ki,this,w,Ea]
section
variable{X:cn}{h S a1 aT:R ag}{j aq aP bk fO:Nat}{s:bc}{i:Nat}
def adQ(aB:ix X)(aD:s.length<=65536)(aj:∀c∈s,c<256)(aL:(q X).a6<=j){b:Int}(amy:b=0\/b=64):
 a7 X 81 [.str s, .Z 10, .Z b] h j (λaa S aq=>aa= .tuple [.int .u64 ((j6 s).1:Int),uY (j6 s).2]/\bD X h j S aq) zK:=by
 refine zF aB.todR (agY X) ?_
 rw[agZ]
 unfold UN
 by_cases a2:s=[]
 ·subst a2
  have d:decide (([]:List Nat)=[])=true:=rfl
  refine cr @d ⟨?_⟩
  exact⟨rfl,dL⟩
 have d:decide (s=[])=false:=by simp[a2]
 have aH:decide ((2:Int)<=10)=true:=rfl
 have GO:decide ((10:Int)<=36)=true:=rfl
 have ajk:decide ((10:Int)=10)=true:=rfl
 have dO:bg .shl (.int .u64 1) (.int .u64 64)=some (.int .u64 0):=by rfl
 have atX:bg .sub (.int .u64 0) (.int .u64 1)=some (.int .u64 18446744073709551615):=by rfl
 have V5:mU .u64 (.Z 64)=some (.int .u64 64):=by rfl
 have aji:(64:Int)%18446744073709551616=64:=rfl
 have V6:(10:Int)%18446744073709551616=10:=rfl
 have mV:decide ((10:Int)=0)=false:=rfl
 have aol:j6 s=r7 s 0:=by simp[j6,a2]
 rw[aol]
 rcases amy with rfl|rfl
 all_goals
  have cL:decide ((0:Int)=0)=true:=rfl
  have cJ:decide ((64:Int)=0)=false:=rfl
  have eI:decide ((64:Int)<0)=false:=rfl
  have h3:decide ((64:Int)<64)=false:=rfl
  refine eQ @d @aH @GO @ajk @mV @cL (Za @cJ (Za @eI (Za @h3 (Za @dO (Za @atX (Za @V5 @aji)))))) ⟨?_⟩
  refine VP Zo ?_
  have G8:Z X (bn X h j (some (.cells (R.ofList (s.map λn:Nat=>z.int .u8 (n:Int)) 0 .nil) s.length (.grow [])))) j=some (.cells (R.ofList (s.map λn:Nat=>z.int .u8 (n:Int)) 0 .nil) s.length (.grow [])):=bv aL
  have BA:bD X h j (bn X h j (some (.cells (R.ofList (s.map λn:Nat=>z.int .u8 (n:Int)) 0 .nil) s.length (.grow [])))) (j+1):=dL
  generalize bn X h j (some (.cells (R.ofList (s.map λn:Nat=>z.int .u8 (n:Int)) 0 .nil) s.length (.grow [])))=oc at*
  refine cV ⟨?_⟩
  refine f6 (λm H S aQ=>∃(W n:Nat),H.g 99=some (.fh j 0 s.length 1)/\H.g 100=some (.Z (s.length:Int))/\H.g 101=some (.Z (W:Int))/\H.g 13=some (.int .u64 (n:Int))/\H.g 10=some (.int .u64 1844674407370955162)/\H.g 11=some (.int .u64 18446744073709551615)/\H.g 12=some .zF/\H.g 8=some .zF/\H.g 1=some (.Z 10)/\W+m=s.length/\n<18446744073709551616/\S=oc/\j+1<=aQ/\r7 s 0=r7 (s.drop W) n)
   s.length ⟨0,0,bC,bC,gC,gC,bC,bC,bC,bC,bC,Zo,Zo,rfl,Zo,rfl⟩ ?_
  rintro m H aT bk ⟨W,n,Jp,FQ,Jn,mJ,k6,te,AJ,hH,t1,bB,aw2,rfl,nL,av⟩
  have cl:bD X h j aT bk:=⟨Zo,BA.ad⟩
  cases m with
  |zero=>
   have fM:=zz W s.length
   rw[ZH (by omega:s.length<=W),r7]at av
   rw[av]
   refine gV @Jn @FQ @AJ @mJ @fM ⟨?_⟩
   exact⟨rfl,cl⟩
  |succ m=>
   have fM:=zA W s.length
   have bA:=zD W
   obtain⟨c,ay⟩:=zB s W
   have aI:s.drop W=c::s.drop (W+1):=by
    obtain⟨af,F⟩:=Zb.1 ay
    rw[Zz af,F]
   have K7:=aj c (Zl ay)
   have d7:hr 1 (.fh j 0 s.length 1) (.Z (W:Int))=some (.ptr j W):=by rw[Iw _ Zo];simp
   have t8:aR X aT (.ptr j W)=some (.int .u8 (c:Int)):=by rw[bS G8,lO];simp[ay]
   rw[aI,r7]at av
   rw[av]
   have axG:decide ((c:Int)=95)=decide (c=95):=by simp;omega
   have L8:mU .u8 (.Z 10)=some (.int .u8 10):=rfl
   by_cases po:h8 c=true
   ·have P2:48<=c/\c<=57:=by simpa[h8]using po
    rw[Zp po]
    have rV:decide ((c:Int)=95)=false:=by simp;omega
    have bM:decide ((48:Int)<=(c:Int))=true:=by simp;omega
    have cq:decide ((c:Int)<=57)=true:=by simp;omega
    have df:bg .sub (.int .u8 (c:Int)) (.int .u8 48)=some (.int .u8 ((c-48:Nat):Int)):=abf (e:=48) Zo K7
    have fb:decide ((10:Int)<=((c-48:Nat):Int))=false:=by simp;omega
    by_cases K8:1844674407370955162<=n
    ·rw[Zp K8]
     have eJ:decide ((1844674407370955162:Int)<=(n:Int))=true:=by simp;omega
     refine eQ @Jn @FQ @Jp @hH @t1 @fM (Za @d7 (Za @t8 (Za @rV (Za @bM (Za @cq (Za @df (Za @fb (Za @L8 (Za @mJ (Za @k6 (Za @eJ @te))))))))))) ⟨?_⟩
     exact⟨rfl,cl⟩
    ·rw[Zg K8]
     have eJ:decide ((1844674407370955162:Int)<=(n:Int))=false:=by simp;omega
     have et:bg .mul (.int .u64 (n:Int)) (.int .u64 10)=some (.int .u64 ((n*10:Nat):Int)):=apB (e:=10) Zo
     have f5:((c-48:Nat):Int)%18446744073709551616=((c-48:Nat):Int):=YR Zo Zo
     by_cases QF:18446744073709551616<=n*10+(c-48)
     ·rw[Zp QF]
      have ia:bg .add (.int .u64 ((n*10:Nat):Int)) (.int .u64 ((c-48:Nat):Int))=some (.int .u64 ((n*10+(c-48) -18446744073709551616:Nat):Int)):=by
       have anW:(((n*10:Nat):Int)+((c-48:Nat):Int))%18446744073709551616=((n*10+(c-48) -18446744073709551616:Nat):Int):=Zo
       rw[abd,anW]
      have gf:decide (((n*10+(c-48) -18446744073709551616:Nat):Int)<((n*10:Nat):Int))=true:=zN
      refine eQ @Jn @FQ @Jp @hH @t1 @fM (Za @d7 (Za @t8 (Za @rV (Za @bM (Za @cq (Za @df (Za @fb (Za @L8 (Za @mJ (Za @k6 (Za @eJ (Za @V6 (Za @et (Za @f5 (Za @ia (Za @gf @te)))))))))))))))) ⟨?_⟩
      exact⟨rfl,cl⟩
     ·have EN:=av
      rw[Zp po,Zg K8,Zg QF]at EN
      rw[Zg QF]
      have ia:bg .add (.int .u64 ((n*10:Nat):Int)) (.int .u64 ((c-48:Nat):Int))=some (.int .u64 ((n*10+(c-48):Nat):Int)):=apz Zo
      have gf:decide (((n*10+(c-48):Nat):Int)<((n*10:Nat):Int))=false:=zO
      have uk:decide ((18446744073709551615:Int)<((n*10+(c-48):Nat):Int))=false:=zO
      refine eQ @Jn @FQ @Jp @hH @t1 @fM (Za @d7 (Za @t8 (Za @rV (Za @bM (Za @cq (Za @df (Za @fb (Za @L8 (Za @mJ (Za @k6 (Za @eJ (Za @V6 (Za @et (Za @f5 (Za @ia (Za @gf (Za @uk (Za @te @bA)))))))))))))))))) ⟨?_⟩
      exact⟨m,Zo,W+1,n*10+(c-48),aY Jp,aY FQ,bC,bC,aY k6,aY te,aY AJ,aY hH,aY t1,Zo,Zo,rfl,Zo,by first|exact EN|rw[EN]|rfl⟩
   ·have P2:¬(48<=c/\c<=57):=by simpa[h8]using po
    rw[Zg po]
    have aew:qi c<256:=Nat.mod_lt _ Zo
    have cH:decide ((97:Int)<=(qi c:Int))=decide (97<=qi c):=by simp;omega
    have cB:decide ((qi c:Int)<=122)=decide (qi c<=122):=by simp;omega
    have bM:decide ((48:Int)<=(c:Int))=decide (48<=c):=by simp;omega
    have cq:decide ((c:Int)<=57)=decide (c<=57):=by simp;omega
    have fin:97<=qi c->qi c<=122->∃br:Nat,bg .sub (.int .u8 (qi c:Int)) (.int .u8 97)=some (.int .u8 ((qi c-97:Nat):Int))/\bg .add (.int .u8 ((qi c-97:Nat):Int)) (.int .u8 10)=some (.int .u8 ((qi c-97+10:Nat):Int))/\decide ((10:Int)<=((qi c-97+10:Nat):Int))=true:=λI M=>
     ⟨0,abf (e:=97) I aew,apy (e:=10) Zo,by simp only[Zh];omega⟩
    by_cases awn:c=95<;>by_cases alX:48<=c<;>by_cases alY:c<=57<;>try omega
    all_goals
     simp only[alX,alY,YD,Yl]at bM cq
     first|have abs:decide ((c:Int)=95)=true:=by simp only[Zh];omega|have abs:decide ((c:Int)=95)=false:=zO
     refine eQ @Jn @FQ @Jp @hH @t1 @fM (Za @d7 (Za @t8 (Za @abs (Za @bM @cq)))) ⟨?_⟩
     refine(RL aB.todR c).Zm ?_
     rintro aa be bF ⟨rfl,rfl,rfl⟩
     by_cases p7:97<=qi c
     ·simp only[p7,YD]at cH
      refine cr @cH ⟨?_⟩
      refine(RL aB.todR c).Zm ?_
      rintro aa be bF ⟨rfl,rfl,rfl⟩
      by_cases lZ:qi c<=122
      ·simp only[lZ,YD]at cB
       refine cr @cB ⟨?_⟩
       refine(RL aB.todR c).Zm ?_
       rintro aa be bF ⟨rfl,rfl,rfl⟩
       obtain⟨_,ez,e5,f3⟩:=fin p7 lZ
       refine gV @ez @e5 @f3 @L8 @t1 ⟨?_⟩
       exact⟨rfl,cl⟩
      ·simp only[lZ,Yl]at cB
       refine cr @cB ⟨?_⟩
       exact⟨rfl,cl⟩
     ·simp only[p7,Yl]at cH
      refine cr @cH ⟨?_⟩
      exact⟨rfl,cl⟩
end
structure lT(X:cn):Prop where
 aug:∃b,∀h,aR X h (.ptr 5 0)=some (.iface 176 (.ptr b 0))
 seven:∃b,∀h,aR X h (.ptr 6 0)=some (.iface 176 (.ptr b 0))
section
variable{X:cn}{h S a1 aT:R ag}{j aq aP bk fO:Nat}{s:bc}{i:Nat}
def aj0:dc X h .eql 115 false (.iface 153 (.Z 2)) (.iface 153 (.Z 2))=some .zT:=Zk
def ajZ:dc X h .eql 115 false (.iface 153 (.Z 1)) (.iface 153 (.Z 2))=some .zF:=Zk
def ajY:dc X h .eql 115 false (.iface 153 (.Z 1)) (.iface 153 (.Z 1))=some .zT:=Zk
def Fs(o:Int):dc X h .neq 115 true (.iface 153 (.Z o)) .nilIface=some .zT:=Zk
def Cy:dc X h .neq 115 true .nilIface .nilIface=some .zF:=Zk
def aci(b:Nat):dc X h .neq 115 true (.iface 155 (.ptr b 0)) .nilIface=some .zT:=Zk
def auX(aB:ix X)(bZ:lT X)(f:bc)(aD:s.length<=65536)(pm:∀c∈s,c<256)(aL:(q X).a6<=j):
 a7 X 102 [.str f, .str s] h j (λaa S aq=>(∃b,aa= .ptr b 0)/\bD X h j S aq) zK:=by
 refine zF aB.todR (aez X) ?_
 rw[aeA]
 unfold Tt
 obtain⟨b,aj⟩:=bZ.aug
 refine cr @aj ⟨?_⟩
 refine GI (aB.clone s pm aD) ?_
 refine cr @aj ⟨?_⟩
 refine iY (by simp[z.same]) ?_
 exact⟨⟨_,rfl⟩,dL⟩
def as6(aB:ix X)(bZ:lT X)(f:bc)(aD:s.length<=65536)(pm:∀c∈s,c<256)(aL:(q X).a6<=j):
 a7 X 103 [.str f, .str s] h j (λaa S aq=>(∃b,aa= .ptr b 0)/\bD X h j S aq) zK:=by
 refine zF aB.todR (aeB X) ?_
 rw[aeC]
 unfold Tu
 obtain⟨b,aj⟩:=bZ.seven
 refine cr @aj ⟨?_⟩
 refine GI (aB.clone s pm aD) ?_
 refine cr @aj ⟨?_⟩
 refine iY (by simp[z.same]) ?_
 exact⟨⟨_,rfl⟩,dL⟩
def KD(aB:ix X)(bZ:lT X)(f:bc)(x e:z)(aD:s.length<=65536)(pm:∀c∈s,c<256)(aL:(q X).a6<=j){o:Nat}(aG:o=1\/o=2):
 a7 X 82 [.str f, .str s,x,e,uY o] h j (λaa S aq=>(∃b,aa= .iface 155 (.ptr b 0))/\bD X h j S aq) zK:=by
 refine zF aB.todR (ag0 X) ?_
 rw[ag1]
 unfold UO
 rcases aG with rfl|rfl
 ·have bA:uY 1= .iface 153 (.Z 1):=rfl
  rw[bA]
  refine dk @ajZ @ajY ⟨?_⟩
  refine(as6 aB bZ f aD pm aL).Zm ?_
  rintro aa be bF ⟨⟨b,rfl⟩,cx⟩
  refine cV ⟨?_⟩
  exact⟨⟨_,rfl⟩,cx⟩
 ·have bA:uY 2= .iface 153 (.Z 2):=rfl
  rw[bA]
  refine cr @aj0 ⟨?_⟩
  refine(auX aB bZ f aD pm aL).Zm ?_
  rintro aa be bF ⟨⟨b,rfl⟩,cx⟩
  refine cV ⟨?_⟩
  exact⟨⟨_,rfl⟩,cx⟩
def asR:∀(k:bc) (n:Nat),(r7 k n).2=0\/(r7 k n).2=1\/(r7 k n).2=2:=by
 intro k
 induction k with
 |nil=>intro n;exact .inl rfl
 |cons c k ah=>
  intro n
  rw[r7]
  split
  ·split
   ·exact .inr (.inl rfl)
   ·split
    ·exact .inr (.inl rfl)
    ·exact ah _
  ·exact .inr (.inr rfl)
def acU(k:bc):(j6 k).2=0\/(j6 k).2=1\/(j6 k).2=2:=by
 unfold j6;split
 ·exact .inr (.inr rfl)
 ·exact asR _ _
def ass(aB:ix X)(bZ:lT X)(aD:s.length<=65536)(aj:∀c∈s,c<256)(aL:(q X).a6<=j):
 a7 X 54 [.str s, .Z 10, .Z 64] h j (λaa S aq=>(∃B,aa= .tuple [.int .u64 ((j6 s).1:Int),B]/\((j6 s).2=0/\B= .nilIface\/(j6 s).2≠0/\∃b,B= .iface 155 (.ptr b 0)))/\bD X h j S aq) zK:=by
 refine zF aB.todR (af9 X) ?_
 rw[aga]
 unfold Uk
 refine(adQ aB aD aj aL (.inr rfl)).Zm ?_
 rintro aa be bF ⟨rfl,cx⟩
 have iT:=cx.le
 rcases acU s with a|a|a
 ·rw[a]
  have bA:uY 0= .nilIface:=rfl
  rw[bA]
  refine cr @Cy ⟨?_⟩
  exact⟨⟨_,rfl, .inl ⟨rfl,rfl⟩⟩,cx⟩
 ·rw[a]
  have bA:uY 1= .iface 153 (.Z 1):=rfl
  rw[bA]
  refine cr @Fs ⟨?_⟩
  refine(KD (j:=bF) (h:=be) aB bZ [80,97,114,115,101,85,105,110,116] (.Z 10) (.Z 64) aD aj (ZA aL iT) (o:=1) Zd).Zm ?_
  rintro aa bU cP ⟨⟨b,rfl⟩,dz⟩
  refine cV ⟨?_⟩
  exact⟨⟨_,rfl, .inr ⟨Zd,b,rfl⟩⟩,cx.trans dz⟩
 ·rw[a]
  have bA:uY 2= .iface 153 (.Z 2):=rfl
  rw[bA]
  refine cr @Fs ⟨?_⟩
  refine(KD (j:=bF) (h:=be) aB bZ [80,97,114,115,101,85,105,110,116] (.Z 10) (.Z 64) aD aj (ZA aL iT) (o:=2) Zd).Zm ?_
  rintro aa bU cP ⟨⟨b,rfl⟩,dz⟩
  refine cV ⟨?_⟩
  exact⟨⟨_,rfl, .inr ⟨Zd,b,rfl⟩⟩,cx.trans dz⟩
end
def Tn(B:z):Prop:=B= .nilIface\/B= .iface 153 (.Z 1)\/B= .iface 153 (.Z 2)
def AX(s:bc):Prop:=∀c∈s,c≠43/\c≠45
def v1(s:bc):Nat:=s.foldl (λn c=>n*10+(c-48)) 0
def asS:∀(k:bc) (n:Nat),n<18446744073709551616->(r7 k n).1<18446744073709551616:=by
 intro k
 induction k with
 |nil=>intro n a;exact a
 |cons c k ah=>
  intro n a
  rw[r7]
  split
  ·split
   ·show 18446744073709551615<_;omega
   ·split
    ·show 18446744073709551615<_;omega
    ·exact ah _ Zo
  ·show 0<_;omega
def acV(k:bc):(j6 k).1<18446744073709551616:=by
 unfold j6;split
 ·show 0<_;omega
 ·exact asS _ _ Zo
section
variable{X:cn}{h S a1 aT:R ag}{j aq aP bk fO:Nat}{s:bc}{i:Nat}
def acj:dc X h .neq 115 false (.iface 153 (.Z 1)) (.iface 153 (.Z 1))=some .zF:=Zk
def ack:dc X h .neq 115 false (.iface 153 (.Z 2)) (.iface 153 (.Z 1))=some .zT:=Zk
def abj(aB:ix X)(aD:s.length<=65536)(aj:∀c∈s,c<256)(xe:AX s)(aL:(q X).a6<=j):
 a7 X 116 [.str s, .Z 10, .Z 0] h j (λaa S aq=>(∃br B,aa= .tuple [.Z br,B]/\Tn B)/\bD X h j S aq) zK:=by
 refine zF aB.todR (aeT X) ?_
 rw[aeU]
 unfold TD
 by_cases a2:s=[]
 ·subst a2
  have d:decide (([]:List Nat)=[])=true:=rfl
  refine cr @d ⟨?_⟩
  exact⟨⟨_,_,rfl, .inr (.inr rfl)⟩,bD.refl _ _⟩
 have d:decide (s=[])=false:=by simp[a2]
 obtain⟨c,eP,rfl⟩:∃c eP,s=c::eP:=by cases s with
  |nil=>exact absurd rfl a2
  |cons c eP=>exact⟨c,eP,rfl⟩
 have d7:nc (.str (c::eP)) (.Z 0)=some (.int .u8 (c:Int)):=y8 (i:=0) .i64 rfl
 have ay:=xe c (Zv ..)
 have bM:decide ((c:Int)=43)=false:=zO
 have cq:decide ((c:Int)=45)=false:=zO
 refine hT @d @d7 @bM @cq ⟨?_⟩
 refine(adQ aB aD aj aL (.inl rfl)).Zm ?_
 rintro aa be bF ⟨rfl,cx⟩
 have iT:=cx.le
 generalize av:j6 (c::eP)=p
 have BV:=acU (c::eP)
 have rL:=acV (c::eP)
 rw[av]at BV rL
 obtain⟨Jt,awi⟩:=p
 simp only[]at BV rL ⊢
 have mV:decide ((0:Int)=0)=true:=rfl
 have iX:bg .sub (.Z 64) (.Z 1)=some (.Z 63):=rfl
 have k5:(63:Int)%18446744073709551616=63:=rfl
 have Sv:bg .shl (.int .u64 1) (.int .u64 63)=some (.int .u64 9223372036854775808):=rfl
 have atS:bg .sub (.int .u64 9223372036854775808) (.int .u64 1)=some (.int .u64 9223372036854775807):=rfl
 have atT:mU .i64 (.int .u64 9223372036854775807)=some (.Z 9223372036854775807):=rfl
 rcases BV with rfl|rfl|rfl
 all_goals
  simp only[show uY 0= .nilIface from rfl,show uY 1= .iface 153 (.Z 1) from rfl,show uY 2= .iface 153 (.Z 2) from rfl]
  by_cases K8:9223372036854775808<=Jt
  ·have cL:decide ((9223372036854775808:Int)<=(Jt:Int))=true:=zN
   refine eQ @Cy @Fs @acj @ack @mV @iX (Za @k5 (Za @Sv (Za @cL (Za @atS @atT)))) ⟨?_⟩
   exact⟨⟨_,_,rfl,by first|exact .inl rfl|exact .inr (.inl rfl)|exact .inr (.inr rfl)⟩,cx⟩
  ·have cL:decide ((9223372036854775808:Int)<=(Jt:Int))=false:=zO
   have atU:mU .i64 (.int .u64 (Jt:Int))=some (.Z (Jt:Int)):=V7 Zo Zo
   refine eQ @Cy @Fs @acj @ack @mV @iX (Za @k5 (Za @Sv (Za @cL @atU))) ⟨?_⟩
   exact⟨⟨_,_,rfl,by first|exact .inl rfl|exact .inr (.inl rfl)|exact .inr (.inr rfl)⟩,cx⟩
end
def abe{x e:Int}(I: -9223372036854775808<=x*e)(M:x*e<9223372036854775808):bg .mul (.Z x) (.Z e)=some (.Z (x*e)):=by
 simp[bg,k2,ly,kW,ki,wrap64 I M]
def apC{c:Nat}(a:c<256):bg .sub (.int .u8 (c:Int)) (.int .u8 48)=some (.int .u8 (((c+208)%256:Nat):Int)):=by
 have w:n4 .u8 ((c:Int) -48)=(((c+208)%256:Nat):Int):=by
  show((c:Int) -48)%256=_
  omega
 simp only[bg,k2,ly,kW,kE,fj,ki,w,Ea]
def avv(k:bc)(c:Nat):v1 (k++[c])=v1 k*10+(c-48):=by simp[v1,zs]
section
variable{X:cn}{h S a1 aT:R ag}{j aq aP bk fO:Nat}{s:bc}{i:Nat}
def aep(s:bc)(aa:z):Prop:=∃br B,aa= .tuple [.Z br,B]/\Tn B/\(s≠[]->s.length<19->(∀c∈s,h8 c=true)->B= .nilIface/\br=(v1 s:Int))
def air(aB:ix X)(aD:s.length<=65536)(aj:∀c∈s,c<256)(xe:AX s)(aL:(q X).a6<=j):
 a7 X 106 [.str s] h j (λaa S aq=>aep s aa/\bD X h j S aq) zK:=by
 refine zF aB.todR (aeD X) ?_
 rw[aeE]
 unfold Tv
 by_cases a2:s=[]
 ·subst a2
  have mV:decide ((0:Int)<((0:Nat):Int))=false:=rfl
  refine cr @mV ⟨?_⟩
  refine(abj aB aD aj xe aL).Zm ?_
  rintro aa be bF ⟨⟨br,B,rfl,bl⟩,cx⟩
  refine cV ⟨?_⟩
  exact⟨⟨br,B,rfl,bl,λa=>absurd rfl a⟩,cx⟩
 have oB:0<s.length:=Yo.2 a2
 have mV:decide ((0:Int)<(s.length:Int))=true:=zN
 by_cases Hg:s.length<19
 ·have cL:decide ((s.length:Int)<19)=true:=zN
  obtain⟨c,BF⟩:∃c,s[0]? =some c:=⟨_,Zf oB⟩
  have d7:nc (.str s) (.Z 0)=some (.int .u8 (c:Int)):=y8 (i:=0) .i64 BF
  have ay:=xe c (Zl BF)
  have bM:decide ((c:Int)=43)=false:=zO
  have cq:decide ((c:Int)=45)=false:=zO
  refine gV @mV @cL @d7 @bM @cq ⟨?_⟩
  refine VP Zo ?_
  have G8:Z X (bn X h j (some (.cells (R.ofList (s.map λn:Nat=>z.int .u8 (n:Int)) 0 .nil) s.length (.grow [])))) j=some (.cells (R.ofList (s.map λn:Nat=>z.int .u8 (n:Int)) 0 .nil) s.length (.grow [])):=bv aL
  have BA:bD X h j (bn X h j (some (.cells (R.ofList (s.map λn:Nat=>z.int .u8 (n:Int)) 0 .nil) s.length (.grow [])))) (j+1):=dL
  generalize bn X h j (some (.cells (R.ofList (s.map λn:Nat=>z.int .u8 (n:Int)) 0 .nil) s.length (.grow [])))=oc at*
  refine cV ⟨?_⟩
  refine f6 (λm H S aQ=>∃(W n p:Nat),H.g 47=some (.fh j 0 s.length 1)/\H.g 48=some (.Z (s.length:Int))/\H.g 49=some (.Z (W:Int))/\H.g 6=some (.Z (n:Int))/\H.g 5=some (.str s)/\W+m=s.length/\p*10^m<=10^18/\n<p/\S=oc/\j+1<=aQ/\n=v1 (s.take W))
   s.length ⟨0,0,1,bC,bC,gC,gC,bC,Zo,by rw[Nat.one_mul];exact Nat.pow_le_pow_right Zo Zo,Zo,rfl,Zo,rfl⟩ ?_
  rintro m H aT bk ⟨W,n,p,SY,M4,n1,eZ,t5,bB,ue,axa,rfl,nL,bt⟩
  have cl:bD X h j aT bk:=⟨Zo,BA.ad⟩
  cases m with
  |zero=>
   have fM:=zz W s.length
   refine eQ @n1 @M4 @t5 @eZ @fM @d7 @cq ⟨?_⟩
   rw[ZB Zo]at bt
   exact⟨⟨_,_,rfl, .inl rfl,λ_ _ _=>⟨rfl,by rw[bt]⟩⟩,cl⟩
  |succ m=>
   have fM:=zA W s.length
   have bA:=zD W
   obtain⟨D,aC⟩:∃c,s[W]? =some c:=⟨_,Zf Zo⟩
   have ams:=aj D (Zl aC)
   have HR:hr 1 (.fh j 0 s.length 1) (.Z (W:Int))=some (.ptr j W):=by rw[Iw _ Zo];simp
   have t8:aR X aT (.ptr j W)=some (.int .u8 (D:Int)):=by rw[bS G8,lO];simp[aC]
   have cg:=apC ams
   generalize bQ:(D+208)%256=w at cg
   by_cases hf:9<w
   ·have iz:decide ((9:Int)<(w:Int))=true:=zN
    refine eQ @n1 @M4 @SY @fM @HR @t8 (Za @cg @iz) ⟨?_⟩
    refine⟨⟨_,_,rfl, .inr (.inr rfl),λ_ _ kK=> ?_⟩,cl⟩
    have:=kK D (Zl aC)
    simp[h8]at this
    omega
   ·have iz:decide ((9:Int)<(w:Int))=false:=zO
    have P2:48<=D/\D<=57/\w=D-48:=Zo
    have dZ:p*10<=10^18:=by
     have:p*10^(m+1)=(p*10)*10^m:=by rw[Nat.pow_succ];rw[Nat.mul_assoc,zv (10^m) 10]
     rw[this]at ue
     exact ZA (YX _ (Nat.pos_of_ne_zero Zs)) ue
    have dm:p*10*10^m<=10^18:=by
     have:p*10^(m+1)=(p*10)*10^m:=by rw[Nat.pow_succ];rw[Nat.mul_assoc,zv (10^m) 10]
     rw[this]at ue;exact ue
    have ge:p*10<=1000000000000000000:=dZ
    have eN:bg .mul (.Z (n:Int)) (.Z 10)=some (.Z ((n*10:Nat):Int)):=by rw[abe Zo Zo];rfl
    have iP:mU .i64 (.int .u8 (w:Int))=some (.Z (w:Int)):=V7 Zo Zo
    have pg:bg .add (.Z ((n*10:Nat):Int)) (.Z (w:Int))=some (.Z ((n*10+w:Nat):Int)):=by rw[eO Zo Zo];rfl
    refine eQ @n1 @M4 @SY @fM @HR @t8 (Za @cg (Za @iz (Za @eZ (Za @eN (Za @iP (Za @pg @bA)))))) ⟨?_⟩
    refine⟨m,Zo,W+1,n*10+w,p*10,aY SY,aY M4,bC,bC,aY t5,Zo,dm,Zo,rfl,Zo, ?_⟩
    rw[YA,aC]
    show _=v1 (s.take W++[D])
    rw[avv, <-bt,P2.2.2]
 ·have cL:decide ((s.length:Int)<19)=false:=zO
  refine dk @mV @cL ⟨?_⟩
  refine(abj aB aD aj xe aL).Zm ?_
  rintro aa be bF ⟨⟨br,B,rfl,bl⟩,cx⟩
  refine cV ⟨?_⟩
  exact⟨⟨br,B,rfl,bl,λ_ a=>absurd a Hg⟩,cx⟩
def aeq(s:bc)(aa:z):Prop:=∃br B,aa= .tuple [.Z br,B]/\(B= .nilIface\/∃b,B= .iface 155 (.ptr b 0))/\(s≠[]->s.length<19->(∀c∈s,h8 c=true)->B= .nilIface/\br=(v1 s:Int))
def VA(aB:ix X)(bZ:lT X)(aD:s.length<=65536)(aj:∀c∈s,c<256)(xe:AX s)(aL:(q X).a6<=j):
 a7 X 83 [.str s] h j (λaa S aq=>aeq s aa/\bD X h j S aq) zK:=by
 refine zF aB.todR (ag2 X) ?_
 rw[ag3]
 unfold UP
 refine(air aB aD aj xe aL).Zm ?_
 rintro aa be bF ⟨⟨br,B,rfl,bl,af⟩,cx⟩
 have iT:=cx.le
 rcases bl with rfl|rfl|rfl
 ·refine cr @Cy ⟨?_⟩
  exact⟨⟨_,_,rfl, .inl rfl,af⟩,cx⟩
 ·refine cr @Fs ⟨?_⟩
  refine(KD (j:=bF) (h:=be) aB bZ [65,116,111,105] (.Z 0) (.Z 0) aD aj (ZA aL iT) (o:=1) Zd).Zm ?_
  rintro aa bU cP ⟨⟨b,rfl⟩,dz⟩
  refine cV ⟨?_⟩
  exact⟨⟨_,_,rfl, .inr ⟨b,rfl⟩,λI M ak=>absurd (af I M ak).1 Zs⟩,cx.trans dz⟩
 ·refine cr @Fs ⟨?_⟩
  refine(KD (j:=bF) (h:=be) aB bZ [65,116,111,105] (.Z 0) (.Z 0) aD aj (ZA aL iT) (o:=2) Zd).Zm ?_
  rintro aa bU cP ⟨⟨b,rfl⟩,dz⟩
  refine cV ⟨?_⟩
  exact⟨⟨_,_,rfl, .inr ⟨b,rfl⟩,λI M ak=>absurd (af I M ak).1 Zs⟩,cx.trans dz⟩
end
def km(t:hS):Bool:=if t.b then !t.s&&decide (t.w=1)else decide (1<=t.w)&&decide (t.w<=64)
def iV(n:Nat):bc:=if n<10 then[48+n]else[48+n/10,48+n%10]
def mF(t:hS):bc:=if km t then(if t.b then[98,111,111,108]else(if t.s then 105 else 117)::iV t.w.toNat)else[]
def kt:bc->Option hS
 |[]=>none
 |c::k=>if c::k=[98,111,111,108]then some ⟨true,false,1⟩
  else if c=105\/c=117 then((List.range 65).find? λn=>decide (1<=n)&&decide (iV n=k)).map λn:Nat=>⟨false,decide (c=105),(n:Int)⟩
  else none
section
variable{X:cn}{h S a1 aT:R ag}{j aq aP bk fO:Nat}{s:bc}{i:Nat}
def Ct(aB:dR X)(t:hS)(aL:(q X).a6<=j):a7 X 84 [.agg (k7 t)] h j (λaa S aq=>aa= .bool (km t)/\bD X h j S aq) zK:=by
 refine zF aB (ag4 X) ?_
 rw[ag5]
 unfold UQ k7
 obtain⟨b,s,w⟩:=t
 cases b<;>cases s
 all_goals
  by_cases I:1<=w
  ·have cL:decide ((1:Int)<=w)=true:=by simp[I]
   refine cr @cL ⟨?_⟩
   exact⟨by simp[km,I],dL⟩
  ·have cL:decide ((1:Int)<=w)=false:=by simp[I]
   refine cr @cL ⟨?_⟩
   exact⟨by simp[km,I],dL⟩
def aum:∀n<10,([48,49,50,51,52,53,54,55,56,57,97,98,99,100,101,102,103,104,105,106,107,108,109,110,111,112,113,114,115,116,117,118,119,120,121,122].drop n).take (n+1-n)=iV n:=by decide+kernel
def M2:bc:=[48,48,48,49,48,50,48,51,48,52,48,53,48,54,48,55,48,56,48,57,49,48,49,49,49,50,49,51,49,52,49,53,49,54,49,55,49,56,49,57,50,48,50,49,50,50,50,51,50,52,50,53,50,54,50,55,50,56,50,57,51,48,51,49,51,50,51,51,51,52,51,53,51,54,51,55,51,56,51,57,52,48,52,49,52,50,52,51,52,52,52,53,52,54,52,55,52,56,52,57,53,48,53,49,53,50,53,51,53,52,53,53,53,54,53,55,53,56,53,57,54,48,54,49,54,50,54,51,54,52,54,53,54,54,54,55,54,56,54,57,55,48,55,49,55,50,55,51,55,52,55,53,55,54,55,55,55,56,55,57,56,48,56,49,56,50,56,51,56,52,56,53,56,54,56,55,56,56,56,57,57,48,57,49,57,50,57,51,57,52,57,53,57,54,57,55,57,56,57,57]
def auo:M2.length=200:=by decide+kernel
def aun:∀n<100,10<=n->(M2.drop (n*2)).take (n*2+2-n*2)=iV n:=by decide+kernel
def L3(aB:dR X){n:Nat}(aL:n<100):a7 X 107 [.Z (n:Int)] h j (λaa S aq=>aa= .str (iV n)/\S=h/\aq=j) zK:=by
 refine zF aB (aeF X) ?_
 rw[aeG]
 unfold Tw
 refine zF aB (aeV X) ?_
 rw[aeW]
 unfold TE
 refine zF aB (ae1 X) ?_
 rw[ae2]
 unfold TH
 have mV:decide ((0:Int)<=(n:Int))=true:=zN
 have cL:decide ((n:Int)<100)=true:=zN
 refine dk @mV @cL ⟨?_⟩
 refine zF aB (ae7 X) ?_
 rw[ae8]
 unfold TK
 by_cases a:n<10
 ·have cJ:decide ((n:Int)<10)=true:=zN
  have bA:=zD n
  have cg:md (.str [48,49,50,51,52,53,54,55,56,57,97,98,99,100,101,102,103,104,105,106,107,108,109,110,111,112,113,114,115,116,117,118,119,120,121,122]) (some (.Z (n:Int))) (some (.Z ((n+1:Nat):Int)))=some (.str (iV n)):=by
   rw[SG .i64 .i64 Zo Zx,aum n a]
  refine eW @cJ @bA @cg ⟨?_⟩
  exact⟨rfl,rfl,rfl⟩
 ·have cJ:decide ((n:Int)<10)=false:=zO
  have bA:bg .mul (.Z (n:Int)) (.Z 2)=some (.Z ((n*2:Nat):Int)):=by rw[abe Zo Zo];rfl
  have cg:bg .add (.Z ((n*2:Nat):Int)) (.Z 2)=some (.Z ((n*2+2:Nat):Int)):=by rw[eO Zo Zo];rfl
  have eN:md (.str M2) (some (.Z ((n*2:Nat):Int))) (some (.Z ((n*2+2:Nat):Int)))=some (.str (iV n)):=by
   rw[SG .i64 .i64 Zo (zy auo),aun n aL Zo]
  unfold M2 at eN
  refine hT @cJ @bA @cg @eN ⟨?_⟩
  exact⟨rfl,rfl,rfl⟩
def atV(aB:dR X)(t:hS)(aL:(q X).a6<=j):a7 X 85 [.agg (k7 t)] h j (λaa S aq=>aa= .str (mF t)/\bD X h j S aq) zK:=by
 refine zF aB (ag6 X) ?_
 rw[ag7]
 unfold UR
 have aZ:k7 t=[.bool t.b, .bool t.s, .Z t.w]:=rfl
 rw[aZ]
 refine cV ⟨?_⟩
 refine e1 (λa1=>Z X a1 j=zC [.bool t.b, .bool t.s, .Z t.w] 3/\bD X h j a1 (j+1)) ⟨bv aL,dL⟩ ?_
 rintro a1 ⟨cb,b4⟩
 refine(Ct aB t Zo).Zm ?_
 rintro aa aT bk ⟨rfl,cl⟩
 have gP:=cl.le
 have bZ:=b4.trans cl
 have b5:Z X aT j=zC [.bool t.b, .bool t.s, .Z t.w] 3:=by rw[cl.ad _ Zo];exact cb
 have dV:aR X aT (.ptr j 0)=some (.bool t.b):=by rw[bS b5];rfl
 have dv:aR X aT (.ptr j 1)=some (.bool t.s):=by rw[bS b5];rfl
 have dK:aR X aT (.ptr j 2)=some (.Z t.w):=by rw[bS b5];rfl
 cases aX:km t with
 |false=>
  refine cV ⟨?_⟩
  exact⟨by simp[mF,aX],bZ⟩
 |true=>
  cases l1:t.b with
  |true=>
   rw[l1]at dV
   refine cr @dV ⟨?_⟩
   exact⟨by simp[mF,aX,l1],bZ⟩
  |false=>
   rw[l1]at dV
   have bQ:1<=t.w/\t.w<=64:=by simpa[km,l1]using aX
   obtain⟨w,xi⟩:=Yb (by omega:0<=t.w)
   rw[xi]at dK
   have aE:iV t.w.toNat=iV w:=by rw[xi];rfl
   have eD:(iV w).length<=2:=by unfold iV;split<;>simp
   have sr:∀h c,dc X h .add 9 true (.str [c]) (.str (iV w))=some (.str (c::iV w)):=λh c=>by
    have:Nat.ble ([c].length+(iV w).length) 1000000000=true:=jV Zx
    simp only[dc,wl,this,fj];rfl
   cases k0:t.s with
   |true=>
    rw[k0]at dv
    refine eW @dV @dv @dK ⟨?_⟩
    refine(L3 aB Zo).Zm ?_
    rintro aa be bF ⟨rfl,rfl,rfl⟩
    refine cr @sr ⟨?_⟩
    exact⟨by simp[mF,aX,l1,k0,aE],bZ⟩
   |false=>
    rw[k0]at dv
    refine eW @dV @dv @dK ⟨?_⟩
    refine(L3 aB Zo).Zm ?_
    rintro aa be bF ⟨rfl,rfl,rfl⟩
    refine cr @sr ⟨?_⟩
    exact⟨by simp[mF,aX,l1,k0,aE],bZ⟩
end
def Iu{n:Nat}(a:n<100):iV n≠[]/\(iV n).length<19/\(∀c∈iV n,h8 c=true)/\v1 (iV n)=n:=by
 unfold iV
 split
 ·refine⟨Zs,Zs, ?_, ?_⟩
  ·intro c ay;simp at ay;subst ay;simp[h8];omega
  ·simp[v1]
 ·refine⟨Zs,Zs, ?_, ?_⟩
  ·intro c ay;simp at ay;rcases ay with rfl|rfl<;>simp[h8]<;>omega
  ·simp[v1];omega
def M9(c:Nat)(k:bc):kt (c::k)=if c::k=[98,111,111,108]then some ⟨true,false,1⟩
 else if c=105\/c=117 then((List.range 65).find? λn=>decide (1<=n)&&decide (iV n=k)).map λn:Nat=>⟨false,decide (c=105),(n:Int)⟩
 else none:=rfl
def FV{c:Nat}{k:bc}{t:hS}(a:kt (c::k)=some t)(aj:c::k≠[98,111,111,108]):(c=105\/c=117)/\∃n:Nat,1<=n/\n<=64/\iV n=k/\t=⟨false,decide (c=105),(n:Int)⟩:=by
 rw[M9]at a
 rw[Zg aj]at a
 split at a
 ·rename_i ay
  refine⟨ay, ?_⟩
  simp only[Yf]at a
  obtain⟨n,I,M⟩:=a
  have ak:=List.find?_some I
  have aA:=List.mem_of_find?_eq_some I
  simp at ak aA
  exact⟨n,ak.1,Zo,ak.2,M.symm⟩
 ·cases a
def adM{c:Nat}{k:bc}(a:kt (c::k)=none)(ay:c=105\/c=117){n:Nat}(I:1<=n)(M:n<=64):iV n≠k:=by
 intro aL
 rw[M9]at a
 split at a
 ·cases a
 ·first
  |rw[Zp ay]at a
  |skip
  simp at a
  exact a n Zo I aL
def bD.set{C:aM}{h a1:R ag}{j aP b aQ:Nat}{cE:Option ag}(a:bD C h j a1 aP)(aj:j<=b)(a2:C.a6<=j)(aL:aP<=aQ):bD C h j (bn C a1 b cE) aQ:=
 ⟨ZA a.le aL,λe F=>by rw[aK Zo Zo];exact a.ad e F⟩
section
variable{X:cn}{h S a1 aT:R ag}{j aq aP bk fO:Nat}{s:bc}{i:Nat}
def adL(aB:ix X)(bZ:lT X)(aD:s.length<=65536)(aj:∀c∈s,c<256)(xe:AX s)(aL:(q X).a6<=j):
 a7 X 56 [.str s] h j (λaa S aq=>aa= .tuple [.agg (k7 ((kt s).getD dw)), .bool (kt s).isSome]/\bD X h j S aq) zK:=by
 refine zF aB.todR (agd X) ?_
 rw[age]
 unfold Um
 by_cases vf:s=[98,111,111,108]
 ·have d:decide (s=[98,111,111,108])=true:=by simp[vf]
  refine cr @d ⟨?_⟩
  exact⟨by subst vf;rfl,dL⟩
 have d:decide (s=[98,111,111,108])=false:=by simp[vf]
 cases s with
 |nil=>
  have cJ:decide (([]:List Nat)=[])=true:=rfl
  refine dk @d @cJ ⟨?_⟩
  exact⟨rfl,dL⟩
 |cons c k=>
  have cJ:decide (c::k=[])=false:=by simp
  have d7:nc (.str (c::k)) (.Z 0)=some (.int .u8 (c:Int)):=y8 (i:=0) .i64 rfl
  by_cases ay:c=105\/c=117
  ·have nP:md (.str (c::k)) (some (.Z 1)) none=some (.str k):=M0 (k:=1) .i64 Zs
   have eD:k.length<=65536:=by simp at aD;omega
   have BP:∀c∈k,c<256:=λx af=>aj x (Zt _ af)
   have anN:AX k:=λx af=>xe x (Zt _ af)
   have eI:∃b0 cy,decide ((c:Int)≠117)=b0/\decide ((c:Int)≠105)=cy/\(b0=false\/b0=true/\cy=false):=by
    rcases ay with rfl|rfl
    ·exact⟨true,false,rfl,rfl, .inr ⟨rfl,rfl⟩⟩
    ·exact⟨false,true,rfl,rfl, .inl rfl⟩
   obtain⟨b0,cy,eI,h3,m4⟩:=eI
   have fM:decide ((c:Int)=105)=decide (c=105):=by simp;omega
   rcases m4 with rfl|⟨rfl,rfl⟩
   all_goals
    refine ln @d @cJ @d7 @eI @h3 @nP ⟨?_⟩
    refine e1 (λa1=>Z X a1 j=zC [.zF, .zF, .Z 0] 3/\bD X h j a1 (j+1)) ⟨bv aL,dL⟩ ?_
    rintro a1 ⟨cb,b4⟩
    refine(VA aB bZ eD BP anN Zo).Zm ?_
    rintro aa aT bk ⟨⟨br,B,rfl,bl,af⟩,cl⟩
    have gP:=cl.le
    have b5:Z X aT j=zC [.zF, .zF, .Z 0] 3:=by rw[cl.ad _ Zo];exact cb
    have mY:=b4.trans cl
    refine dk @d7 @fM ⟨?_⟩
    generalize gt:bn X _ bk _=be
    have cG:Z X be j=zC [.zF, .zF, .Z 0] 3:=by rw[<-gt];simp(disch:=omega) only[aK];exact b5
    have er:Z X be bk=zC [.zF, .bool (decide (c=105)), .Z br] 3:=by rw[<-gt];rw[bv Zo];rfl
    have cx:bD X h j be (bk+1):=mY.trans (by rw[<-gt];exact dL)
    clear gt
    rcases bl with rfl|⟨b,rfl⟩
    ·refine dk @Cy (bS er) ⟨?_⟩
     refine(Ct (j:=bk+1) (h:=be) aB.todR ⟨false,decide (c=105),br⟩ (ZA aL cx.le)).Zm ?_
     rintro aa bU cP ⟨rfl,dz⟩
     have je:=dz.le
     have eV:Z X bU j=zC [.zF, .zF, .Z 0] 3:=by rw[dz.ad _ Zo];exact cG
     have d3:Z X bU bk=zC [.zF, .bool (decide (c=105)), .Z br] 3:=by rw[dz.ad _ Zo];exact er
     cases aX:km ⟨false,decide (c=105),br⟩with
     |false=>
      have aZ:kt (c::k)=none:=by
       cases aZ:kt (c::k)with
       |none=>rfl
       |some t=>
        obtain⟨_,n,I,M,ak,rfl⟩:=FV aZ vf
        obtain⟨cH,cB,dN,fx⟩:=Iu (by omega:n<100)
        rw[ak]at cH cB dN fx
        have:=(af cH cB dN).2
        rw[fx]at this
        subst this
        simp[km]at aX
        omega
      rw[aZ]
      refine cr (bS eV) ⟨?_⟩
      exact⟨rfl,bD.set (cx.trans dz) Zo aL Zo⟩
     |true=>
      have ce:1<=br/\br<=64:=by simpa[km]using aX
      obtain⟨n,rfl⟩:=Yb (by omega:0<=br)
      refine cr (bS d3) ⟨?_⟩
      refine(atV (j:=cP) (h:=bU) aB.todR ⟨false,decide (c=105),(n:Int)⟩ Zo).Zm ?_
      rintro aa bY cw ⟨rfl,dW⟩
      have iU:=dW.le
      have eA:Z X bY j=zC [.zF, .zF, .Z 0] 3:=by rw[dW.ad _ Zo];exact eV
      have h4:Z X bY bk=zC [.zF, .bool (decide (c=105)), .Z (n:Int)] 3:=by rw[dW.ad _ Zo];exact d3
      have B0:mF ⟨false,decide (c=105),(n:Int)⟩=c::iV n:=by
       rcases ay with rfl|rfl<;>simp[mF,aX]<;>simp_all
      have Hk:=(cx.trans dz).trans dW
      by_cases az:iV n=k
      ·have aZ:kt (c::k)=some ⟨false,decide (c=105),(n:Int)⟩:=by
        cases aZ:kt (c::k)with
        |none=>exact absurd az (adM aZ ay Zo Zo)
        |some t=>
         obtain⟨_,aQ,I,M,ak,rfl⟩:=FV aZ vf
         obtain⟨cH,cB,dN,fx⟩:=Iu (by omega:n<100)
         obtain⟨_,_,_,lQ⟩:=Iu (by omega:aQ<100)
         rw[ak, <-az,fx]at lQ
         rw[lQ]
       have iz:decide (mF ⟨false,decide (c=105),(n:Int)⟩≠c::k)=false:=by rw[B0,az];simp
       rw[aZ]
       refine dk @iz (bS h4) ⟨?_⟩
       refine⟨rfl,bD.set Hk Zo aL Zo⟩
      ·have aZ:kt (c::k)=none:=by
        cases aZ:kt (c::k)with
        |none=>rfl
        |some t=>
         obtain⟨_,aQ,I,M,ak,rfl⟩:=FV aZ vf
         obtain⟨cH,cB,dN,fx⟩:=Iu (by omega:aQ<100)
         rw[ak]at cH cB dN fx
         have:=(af cH cB dN).2
         rw[fx]at this
         have:n=aQ:=Zo
         subst this
         exact absurd ak az
       have iz:decide (mF ⟨false,decide (c=105),(n:Int)⟩≠c::k)=true:=by rw[B0];simp[az]
       rw[aZ]
       refine cr @iz ⟨?_⟩
       exact⟨rfl,bD.set Hk Zo aL Zo⟩
    ·have aZ:kt (c::k)=none:=by
      cases aZ:kt (c::k)with
      |none=>rfl
      |some t=>
       obtain⟨_,n,I,M,ak,rfl⟩:=FV aZ vf
       obtain⟨cH,cB,dN,fx⟩:=Iu (by omega:n<100)
       rw[ak]at cH cB dN fx
       exact absurd (af cH cB dN).1 Zs
     rw[aZ]
     refine cr @aci ⟨?_⟩
     exact⟨rfl,bD.set cx Zo aL Zo⟩
  ·have eI:decide ((c:Int)≠117)=true:=zN
   have h3:decide ((c:Int)≠105)=true:=zN
   refine gV @d @cJ @d7 @eI @h3 ⟨?_⟩
   have aZ:kt (c::k)=none:=by rw[M9];rw[Zg vf,Zg ay]
   rw[aZ]
   exact⟨rfl,dL⟩
end
end
end Go.Proofs.YtbbkkkpgjaopkaaGreatDoor

