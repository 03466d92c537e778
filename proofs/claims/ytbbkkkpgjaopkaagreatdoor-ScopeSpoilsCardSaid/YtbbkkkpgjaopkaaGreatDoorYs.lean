/- Part of the proof of the last text; no conditions -/
import Derived.Test.YtbbkkkpgjaopkaaGreatDoorYn
set_option maxHeartbeats 8000000
set_option linter.all false
namespace Go.Proofs.YtbbkkkpgjaopkaaGreatDoor
open Go.bs
noncomputable section
variable (X : cl) (h : M ak) (j : Nat) (ah ax : bQ) (a0 a7 b2 a3 a4 a5 ic iw ko : y)
def Ux(a:aT)(b:y)(c:M ak)(d:Nat)(e f:bQ):Prop:=
 GR d a c λc d g=>av (fM b) λh=>av (bg .gtr h (.Z 65536)) λh=>bC (λb c d=>e5 b λg=>av (s9 a c g) λg=>av (fe [.str [], .Z 0] [(0,1,g)]) λg=>jv a c d g λc d g=>a1 a 29 [c] d g (λ_ d g=>bC (λb c d=>f3 b 5 4 λf g=>fO g 1 a c λ_ g=>Og 7 2 g λg=>Od g d a c f λc d f=>av (fe [.Z 0, .Z 0] []) λg=>nU b 3 a d 2 g λa b=>e (.tuple [c,b]) a f) λh=>gA (λb c d g=>fo (g+10) λg=>k5 c λi=>fO i 1 a d λ_ i=>k5 c λj=>fO j 0 a d λ_ j=>av (mq j) λj=>av (bg .lss i j) λi=>bC (λc d g=>bC (λc d e=>k5 c λg=>a1 a 29 [g] d e (λ_ a d=>b c a d) f) λb=>k5 c λh=>fo (g+10) λg=>k5 c λi=>fO i 0 a d λ_ i=>k5 c λj=>fO j 1 a d λ_ j=>av (nI i j) λi=>bC (λc d g=>cg (c 6) λh=>mm a h [] d g (λd f g=>sV d g a f λd f g h=>av (he .not d) λi=>bC (λc d e=>k5 c λf=>fO f 1 a d λ_ f=>cg (c 8) λg=>pv 2 g a d f λd=>fo (e+11) λe=>k5 c λf=>fO f 1 a d λ_ g=>iY c 8 1 a d λ_ h=>av (mq h) λh=>av (bg .add g h) λg=>jj f 1 λf=>j2 a d f g λd=>f3 c 5 8 λf g=>av (dT a d 7 g) λg=>Od g e a d f λa d e=>b (ae c 5 a) d e) λb=>bh i (fo (g+7) λb=>k5 c λd=>fO d 1 a h λ_ d=>av (fe [.Z 0, .Z 0] [(0,1, .Z 20),(1,1,d)]) λd=>nU c 3 a h 2 d λa c=>e (.tuple [.aW,c]) a b) (b (zN c 8 f 9 d 59 i) h g)) f) λb=>a1 a 31 [i] d g (λd e g=>bC b λb=>bh d (k5 c λa=>b (zO c 6 (.func (.func 30) [h] []) 7 i 43 d 6 (.func (.func 32) [a] [])) e g) (a1 a 33 [i] e g (λa e f=>bC b λb=>bh a (k5 c λg=>b (ae (zO c 6 (.func (.func 30) [h] []) 7 i 43 d 48 a) 6 (.func (.func 34) [g] [])) e f) (b (zO c 6 (.func (.func 30) [h] []) 7 i 43 d 48 a) e f)) f)) f) λa=>bh i (a (ae c 29 i) d g) (h (ae c 29 i) d g)) (zM b 4 c 5 .aW) d g) f) λf=>bh h (av (fe [.Z 0, .Z 0] [(0,1, .Z 3)]) λb=>wQ a d 2 c b λa b=>e (.tuple [.aW,b]) a g) (f (zN (c6 [b]) 2 .aW 3 c 12 h) d g)
def af1:dp X 17 [a0] h j ah ax=Ux X a0 h j ah ax:=Zk
def af0:c8 X 17 1=true:=Zk
def UE(a:aT)(b:y)(c:M ak)(d:Nat)(e f:bQ):Prop:=
 bC (λ_ a b=>e (.tuple []) a b) λg=>gA (λb c d h=>fo (h+10) λh=>jL c 1 a d λ_ _ i=>jL c 0 a d λ_ _ j=>av (mq j) λj=>av (bg .lss i j) λi=>bC (λc d g=>bC b λb=>bC b λb=>fo (g+12) λg=>jL c 0 a d λ_ _ h=>jL c 1 a d λ_ _ i=>av (nI h i) λh=>a1 a 50 [.str [32,9,10,13],h] d g (λd g h=>GV d λd=>bC b λb=>bh d (Ki c a g λa=>b (ae c 12 d) a h) (fo (h+11) λh=>jL c 0 a g λ_ _ i=>jL c 1 a g λ_ _ j=>av (mT i (some j) none) λi=>a1 a 51 [i, .str [45,45]] g h (λg h i=>bC b λb=>bh g (fo (i+15) λe=>jL c 1 a h λi j k=>f3 c 0 0 λl m=>fO m 1 a h λ_ m=>a1 a 52 [l,m, .func (.func 53) [] []] h e (λe f h=>av (mq e) λe=>av (bg .add k e) λe=>jj i 1 λi=>av (aV a f j) λj=>io j (some k) (j2 a f i e λa=>b (zM c 12 d 31 g) a h)) f) (e (.tuple []) h i)) f)) f) λa=>bh i (a (ae c 11 i) d h) (g (ae c 11 i) d h)) (c6 [b]) c d
def agd:dp X 29 [a0] h j ah ax=UE X a0 h j ah ax:=Zk
def agc:c8 X 29 1=true:=Zk
def UF(a:aT)(b:y)(c:M ak)(d:Nat)(e f:bQ):Prop:=
 wN d a c λc d g=>av (dT a d 17 (.ptr 1 0)) λh=>bC (λb c d=>Oh λf=>nU b 2 a c 7 f λa b=>e (.tuple [b, .zF]) a d) λi=>gA (λb c d g=>cg (c 7) λh=>av (bg .lss h (.Z 17)) λh=>bC (λc d g=>bC (λa c d=>iZ a 7 λe=>b (ae a 7 e) c d) λb=>f3 c 6 7 λh i=>av (x1 false 17 1 h i) λh=>fo (g+11) λg=>jL c 0 a d λ_ _ i=>jL c 1 a d λ_ _ j=>av (mT i (some j) none) λi=>a1 a 51 [i,h] d g (λd f g=>bC b λb=>bh d (Og 6 1 h λb=>nU c 2 a f 7 b λa b=>e (.tuple [b, .zT]) a g) (b (zM c 5 h 20 d) f g)) f) λa=>bh h (a (ae c 8 h) d g) (i (ae c 8 h) d g)) (zO (c6 [b]) 2 c 3 .zF 6 h 7 (.Z 0)) d g
def agf:dp X 30 [a0] h j ah ax=UF X a0 h j ah ax:=Zk
def age:c8 X 30 1=true:=Zk
def UG(_:aT)(a:y)(b:M ak)(c:Nat)(d _:bQ):Prop:=
 av (bg .geq a (.int .u8 48)) λe=>iW e a b c λa b c=>el e (bg .leq a (.int .u8 57)) b c λa b c=>c4 (λa=>d a b c) λb=>bh e (b a) (b .zF)
def agi:dp X 31 [a0] h j ah ax=UG X a0 h j ah ax:=Zk
def agh:c8 X 31 1=true:=Zk
def UH(a:aT)(b:y)(c:M ak)(d:Nat)(e f:bQ):Prop:=
 wN d a c λc d g=>fO b 1 a d λ_ h=>a1 a 52 [b,h, .func (.func 31) [] []] d g (λd g h=>a1 a 54 [d, .Z 10, .Z 64] g h (λg h i=>kI g λg j=>av (dD a h .neq 115 true j .nilIface) λk=>gS k d h i λh i l=>eT k (mq h) i l λh i l=>eT k (bg .gtr h (.Z 20)) i l λh i l=>c4 (λh=>bC (λb c d=>f3 b 0 0 λg h=>fO h 1 a c λ_ h=>k5 b λi=>av (mq i) λi=>av (bg .add h i) λh=>a1 a 52 [g,h, .func (.func 55) [] []] c d (λc d g=>av (dD a d .eql 9 true c (.str [])) λh=>bC (λb c d=>cg (b 7) λg=>a1 a 56 [g] c d (λc d g=>kI c λc h=>Kh g a d λd g i=>av (es a g 3 d c) λc=>fo (i+19) λg=>f3 b 4 7 λi j=>av (dD a c .add 9 false i j) λk=>cg (b 5) λl=>av (dT a c 3 d) λm=>av (fe [.Z 0, .str [], .Z 0, .int .u64 0, .zF, .zF, .Z 0] [(0,1, .Z 5),(1,1,k),(3,1,l),(4,3,m)]) λl=>kR h (hJ 0 d) c λc n=>kR h (aV a n c) n λc n=>kR h (he .not c) n λc n=>c4 (λc=>kR c (dT a n 3 d) n λh n=>F1 c (b 5) n λn o=>mn c (λb=>a1 a 57 [h,n] o g b f) o g λf g h=>c4 (λc=>av (dD a g .add 9 false i j) λf=>io f (some k) (av (dT a g 3 d) λd=>io d (some m) (nU b 2 a g 7 l λa b=>e (.tuple [b,c]) a h))) λa=>bh c (a f) (a .zF)) λa=>bh h (a c) (a .zF)) f) λf=>bh h (f3 b 4 5 λc f=>av (fe [.Z 0, .str [], .Z 0, .int .u64 0, .zF, .zF, .Z 0] [(0,1, .Z 4),(1,1,c),(3,1,f)]) λc=>nU b 2 a d 7 c λa b=>e (.tuple [b, .zT]) a g) (f (zM b 7 c 39 h) d g)) f) λf=>bh h (Oh λb=>wQ a i 7 c b λa b=>e (.tuple [b, .zF]) a l) (f (zM (zO (c6 [b]) 2 c 3 .zF 4 d 5 g) 6 j 27 h) i l)) λa=>bh k (a .zT) (a h)) f) f
def agk:dp X 32 [a0] h j ah ax=UH X a0 h j ah ax:=Zk
def agj:c8 X 32 1=true:=Zk
def UI(_:aT)(a:y)(b:M ak)(c:Nat)(d _:bQ):Prop:=
 av (bg .geq a (.int .u8 97)) λe=>iW e a b c λb c f=>el e (bg .leq b (.int .u8 122)) c f λb c f=>c4 (λb=>gS b a c f λc e f=>eT b (bg .geq c (.int .u8 65)) e f λc e f=>gS b c e f λc e f=>iW c a e f λe f g=>el c (bg .leq e (.int .u8 90)) f g λe f g=>kS b (λa=>c4 (λb=>a b f g) λa=>bh c (a e) (a .zF)) f g λc e f=>c4 (λb=>gS b a e f λa c e=>eT b (bg .eql a (.int .u8 95)) c e λa c e=>c4 (λa=>d a c e) λc=>bh b (c .zT) (c a)) λa=>bh b (a .zT) (a c)) λa=>bh e (a b) (a .zF)
def agm:dp X 33 [a0] h j ah ax=UI X a0 h j ah ax:=Zk
def agl:c8 X 33 1=true:=Zk
def UJ(a:aT)(b:y)(c:M ak)(d:Nat)(e f:bQ):Prop:=
 wN d a c λc d g=>fO b 1 a d λ_ h=>a1 a 52 [b,h, .func (.func 55) [] []] d g (λd g h=>Og 1 1 d λi=>vi h a g i λg h i=>a1 a 56 [d] i h (λh i j=>kI h λh k=>Kh j a i λi j l=>av (es a j 3 i h) λh=>bC (λb c d=>rJ b 5 a c 7 λf=>k5 b λg=>av (mq g) λg=>av (bg .leq g (.Z 32)) λg=>nU b 2 a c 7 f λa b=>e (.tuple [b,g]) a d) λe=>bh k (fo (l+5) λf=>av (dT a h 3 i) λj=>av (hJ 0 g) λl=>rI a h l 3 λh=>av (hJ 4 g) λl=>av (dT a h 3 i) λm=>io m (some j) (av (es a h 3 l j) λa=>e (zN (zO (c6 [b]) 2 c 3 .zF 4 d 5 g) 6 i 7 k 21 k) a f)) (a1 a 58 [d] h l (λf h j=>bC e λe=>bh f (av (hJ 0 g) λl=>rI a h l 2 λa=>e (zO (zO (c6 [b]) 2 c 3 .zF 4 d 5 g) 6 i 7 k 21 k 26 f) a j) (e (zO (zO (c6 [b]) 2 c 3 .zF 4 d 5 g) 6 i 7 k 21 k 26 f) h j)) f)) f) f
def ago:dp X 34 [a0] h j ah ax=UJ X a0 h j ah ax:=Zk
def agn:c8 X 34 1=true:=Zk
def UV(a:aT)(b c:y)(d:M ak)(e:Nat)(f g:bQ):Prop:=
 a1 a 79 [b,c] d e f g
def agK:dp X 50 [a0,a7] h j ah ax=UV X a0 a7 h j ah ax:=Zk
def agJ:c8 X 50 2=true:=Zk
def UW(a:aT)(b c:y)(d:M ak)(e:Nat)(f g:bQ):Prop:=
 a1 a 80 [b,c] d e f g
def agM:dp X 51 [a0,a7] h j ah ax=UW X a0 a7 h j ah ax:=Zk
def agL:c8 X 51 2=true:=Zk
def UX(a:aT)(b c d:y)(e:M ak)(f:Nat)(g h:bQ):Prop:=
 bC (λb c d=>jL b 0 a c λ_ _ a=>f3 b 1 7 λb e=>av (mT a (some b) (some e)) λa=>g a c d) λg=>gA (λb c d e=>f3 c 7 0 λf i=>fO i 0 a d λ_ i=>av (mq i) λi=>av (bg .lss f i) λf=>od f (c 2) d e λd e i=>od f (c 0) e i λe i j=>Cg f e i j 0 a λe i j=>od f (c 7) i j λi j k=>el f (nI e i) j k λe i j=>mn f (λb=>mm a d [e] i j b h) i j λa d e=>c4 (λa=>bC (λa c d=>bC b λb=>iZ a 7 λe=>b (ae a 7 e) c d) λb=>bh a (b (ae c 25 a) d e) (g (ae c 25 a) d e)) λb=>bh f (b a) (b .zF)) (zM (c6 [b,c,d]) 6 (.str []) 7 c) e f
def agO:dp X 52 [a0,a7,b2] h j ah ax=UX X a0 a7 b2 h j ah ax:=Zk
def agN:c8 X 52 3=true:=Zk
def UY(_:aT)(a:y)(b:M ak)(c:Nat)(d _:bQ):Prop:=
 av (bg .neq a (.int .u8 10)) λa=>d a b c
def agQ:dp X 53 [a0] h j ah ax=UY X a0 h j ah ax:=Zk
def agP:c8 X 53 1=true:=Zk
def UZ(a:aT)(b c d:y)(e:M ak)(f:Nat)(g h:bQ):Prop:=
 a1 a 81 [b,c,d] e f (λe f i=>kI e λe j=>av (dD a f .neq 115 true j .nilIface) λk=>bC (λa b c=>cg (a 8) λa=>g (.tuple [a, .nilIface]) b c) λl=>bh k (a1 a 82 [.str [80,97,114,115,101,85,105,110,116],b,c,d,j] f i (λa b c=>g (.tuple [e,a]) b c) h) (l (ae (zO (c6 [b,c,d]) 6 (.int .u64 0) 7 .nilIface 8 e 9 j) 18 k) f i)) h
def agS:dp X 54 [a0,a7,b2] h j ah ax=UZ X a0 a7 b2 h j ah ax:=Zk
def agR:c8 X 54 3=true:=Zk
def U0(a:aT)(b:y)(c:M ak)(d:Nat)(e f:bQ):Prop:=
 a1 a 33 [b] c d (λc d g=>gS c b d g λb d g=>kS c (λc=>a1 a 31 [b] d g c f) d g λa b d=>c4 (λa=>e a b d) λb=>bh c (b .zT) (b a)) f
def agU:dp X 55 [a0] h j ah ax=U0 X a0 h j ah ax:=Zk
def agT:c8 X 55 1=true:=Zk
def U1(a:aT)(b:y)(c:M ak)(d:Nat)(e f:bQ):Prop:=
 Kh d a c λc d g=>av (dD a d .eql 9 true b (.str [98,111,111,108])) λh=>bC (λb c d=>e5 b λg=>av (dD a c .eql 9 true g (.str [])) λg=>A2 g (b 0) c d λc d h=>eT g (nI c (.Z 0)) d h λc d h=>eT g (bg .neq c (.int .u8 117)) d h λc d h=>gS g c d h λc d h=>od c (b 0) d h λd h i=>el c (nI d (.Z 0)) h i λd h i=>el c (bg .neq d (.int .u8 105)) h i λd h i=>kS g (λa=>c4 (λb=>a b h i) λa=>bh c (a d) (a .zF)) h i λc d h=>c4 (λc=>bC (λb c d=>yy b 1 λg=>a1 a 83 [g] c d (λc d g=>kI c λc h=>e5 b λi=>Kg i 105 λi=>av (fe [.zF, .zF, .Z 0] [(1,1,i),(2,1,c)]) λi=>Kh g a d λd g j=>av (es a g 3 d i) λg=>av (dD a g .neq 115 true h .nilIface) λi=>eT i (dT a g 3 d) g j λg j k=>kS i (λb=>a1 a 84 [g] j k b f) j k λg j k=>eT i (he .not g) j k λg j k=>c4 (λg=>eT g (dT a j 3 d) j k λi j k=>kS g (λb=>a1 a 85 [i] j k b f) j k λf i j=>A2 g (b 0) i j λi j k=>eT g (dD a j .neq 9 false f i) j k λf i j=>c4 (λf=>bC (λb c d=>rJ b 6 a c 3 λf=>nU b 2 a c 3 f λa b=>e (.tuple [b, .zT]) a d) λg=>bh f (av (fe [.zF, .zF, .Z 0] []) λc=>nU b 2 a i 3 c λa b=>e (.tuple [b, .zF]) a j) (g (zO b 4 c 5 h 6 d 46 f) i j)) λa=>bh g (a .zT) (a f)) λa=>bh i (a .zT) (a g)) f) λf=>bh c (av (fe [.zF, .zF, .Z 0] []) λc=>nU b 2 a d 3 c λa b=>e (.tuple [b, .zF]) a h) (f (ae b 21 c) d h)) λa=>bh g (a .zT) (a c)) λf=>bh h (av (fe [.zF, .zF, .Z 0] [(0,1, .zT),(2,1, .Z 1)]) λb=>wQ a d 3 c b λa b=>e (.tuple [b, .zT]) a g) (f (zN (c6 [b]) 2 c 3 .zF 8 h) d g)
def agW:dp X 56 [a0] h j ah ax=U1 X a0 h j ah ax:=Zk
def agV:c8 X 56 1=true:=Zk
def U2(a:aT)(b c:y)(d:M ak)(e:Nat)(f g:bQ):Prop:=
 jv a d e b λd e h=>gs 1 d a e λ_ i=>bC (λb c d=>rJ b 2 a c 3 λe=>cg (b 1) λb=>a1 a 86 [e,b] c d f g) λg=>bh i (gs 2 d a e λ_ j=>GU j λj=>av (fe [.zF, .zF, .Z 0] [(2,1,j)]) λj=>av (es a e 3 d j) λe=>gs 2 d a e λ_ a=>rH a 0 g λa g=>bh a (av (bg .eql c (.int .u64 0)) λa=>f a e h) (g (zO (c6 [b,c]) 2 d 4 .zF 6 i 13 a) e h)) (g (zN (c6 [b,c]) 2 d 4 .zF 6 i) e h)
def agY:dp X 57 [a0,a7] h j ah ax=U2 X a0 a7 h j ah ax:=Zk
def agX:c8 X 57 2=true:=Zk
def U3(a:aT)(b:y)(c:M ak)(d:Nat)(e _:bQ):Prop:=
 av (aV a c (.ptr 2 0)) λf=>av (nd a c 9 .zF f b false) λa=>e a c d
def ag0:dp X 58 [a0] h j ah ax=U3 X a0 h j ah ax:=Zk
def agZ:c8 X 58 1=true:=Zk
def Vq(a:aT)(b c:y)(d:M ak)(e:Nat)(f g:bQ):Prop:=
 a1 a 99 [b,c] d e f g
def ahw:dp X 79 [a0,a7] h j ah ax=Vq X a0 a7 h j ah ax:=Zk
def ahv:c8 X 79 2=true:=Zk
def Vt(a:aT)(b c:y)(d:M ak)(e:Nat)(f _:bQ):Prop:=
 av (mq b) λg=>av (mq c) λh=>av (bg .geq g h) λg=>iW g b d e λb d e=>iW g c d e λd e h=>el g (mq d) e h λd e h=>el g (mT b none (some d)) e h λb d e=>iW g c d e λc d e=>el g (dD a d .eql 9 false b c) d e λa b c=>c4 (λa=>f a b c) λb=>bh g (b a) (b .zF)
def ahy:dp X 80 [a0,a7] h j ah ax=Vt X a0 a7 h j ah ax:=Zk
def ahx:c8 X 80 2=true:=Zk
def Vu(a:aT)(b c d:y)(e:M ak)(f:Nat)(g h:bQ):Prop:=
 av (dD a e .eql 9 true b (.str [])) λi=>bC (λb c d=>cg (b 1) λe=>av (bg .eql e (.Z 0)) λe=>e5 b λf=>bC (λb c d=>cg (b 2) λe=>av (bg .eql e (.Z 0)) λe=>bC (λb c d=>cg (b 1) λe=>bC (λb c d=>Oj b 2 λe=>av (bg .shl (.int .u64 1) e) λe=>av (bg .sub e (.int .u64 1)) λe=>e5 b λf=>hu (JQ a c d f) c d λc d f=>lI c (λb c d=>cg (b 12) λe=>od e (b 9) c d λc d f=>mn e (λb=>a1 a 101 [c] d f b h) d f λa c d=>el e (he .not a) c d λa c d=>c4 (λa=>bC (λa b c=>cg (a 13) λa=>g (.tuple [a, .nilIface]) b c) λe=>bh a (oz 2 λa=>g (.tuple [.int .u64 0,a]) c d) (e (ae b 169 a) c d)) λb=>bh e (b a) (b .zF)) λi j=>gA (λb c d e=>ki c 101 100 λf=>bC (λc d e=>nT (λa c d=>iZ a 101 λe=>b (ae a 101 e) c d) c 99 101 1 λb f=>av (aV a d f) λf=>bC (λa c d=>f3 a 16 1 λe f=>av (k8 .u8 f) λf=>av (bg .geq e f) λe=>bC (λa c d=>f3 a 13 10 λe f=>av (bg .geq e f) λe=>bC (λa c d=>f3 a 13 1 λe f=>av (k8 .u64 f) λf=>av (bg .mul e f) λe=>Oj a 16 λf=>av (bg .add e f) λf=>av (bg .lss f e) λh=>gS h f c d λc d i=>A2 h (a 11) d i λd i j=>eT h (bg .gtr c d) i j λc d i=>c4 (λc=>bC (λa c d=>cg (a 17) λe=>b (ae a 13 e) c d) λb=>bh c (cg (a 11) λa=>oz 1 λb=>g (.tuple [a,b]) d i) (b (zN a 13 e 17 f 159 c) d i)) λa=>bh h (a .zT) (a c)) λb=>bh e (cg (a 11) λa=>oz 1 λb=>g (.tuple [a,b]) c d) (b (ae a 141 e) c d)) λb=>bh e (oz 2 λa=>g (.tuple [.int .u64 0,a]) c d) (b (ae a 137 e) c d)) λi=>av (bg .eql f (.int .u8 95)) λj=>od j (c 8) d e λd e k=>c4 (λd=>bC i λi=>bh d (b (zO c 15 f 16 (.int .u8 0) 106 d 12 .zT) e k) (av (bg .leq (.int .u8 48) f) λb=>iW b f e k λe j k=>el b (bg .leq e (.int .u8 57)) j k λe j k=>c4 (λb=>bC i λe=>bh b (av (bg .sub f (.int .u8 48)) λa=>e (ae (zO c 15 f 16 (.int .u8 0) 106 d 112 b) 16 a) j k) (a1 a 100 [f] j k (λi j k=>av (bg .leq (.int .u8 97) i) λi=>iW i f j k λj k l=>mn i (λb=>a1 a 100 [j] k l b h) k l λj k l=>el i (bg .leq j (.int .u8 122)) k l λj k l=>c4 (λi=>bC e λe=>bh i (a1 a 100 [f] k l (λa g h=>av (bg .sub a (.int .u8 97)) λa=>av (bg .add a (.int .u8 10)) λa=>e (zM (zO c 15 f 16 (.int .u8 0) 106 d 112 b) 121 i 16 a) g h) h) (oz 2 λa=>g (.tuple [.int .u64 0,a]) k l)) λa=>bh i (a j) (a .zF)) h)) λa=>bh b (a e) (a .zF))) λa=>bh j (a d) (a .zF)) λa=>bh f (a (ae c 102 f) d e) (j (ae c 102 f) d e)) (zM (zO b 11 e 12 .zF 13 (.int .u64 0) 99 c) 100 i 101 (.Z 0)) d f) λa=>rH e 10 a λa f=>bh a (f (zO b 10 (.int .u64 0) 85 e 90 a 10 (.int .u64 1844674407370955162)) c d) (rH e 16 f λf g=>bh f (g (ae (zO b 10 (.int .u64 0) 85 e 90 a 92 f) 10 (.int .u64 1152921504606846976)) c d) (Oj b 1 λh=>av (bg .quo (.int .u64 18446744073709551615) h) λh=>av (bg .add h (.int .u64 1)) λh=>g (ae (zO b 10 (.int .u64 0) 85 e 90 a 92 f) 10 h) c d))) λa=>bh e (a (zM b 77 e 2 (.Z 64)) c d) (cg (b 2) λf=>Er f λf=>A2 f (b 2) c d λc d h=>eT f (bg .gtr c (.Z 64)) d h λc d h=>c4 (λc=>bC a λa=>bh c (oz 4 λa=>g (.tuple [.int .u64 0,a]) d h) (a (zM b 77 e 83 c) d h)) λa=>bh f (a .zT) (a c))) λi=>cg (b 1) λj=>av (bg .leq (.Z 2) j) λj=>od j (b 1) c d λc d k=>el j (bg .leq c (.Z 36)) d k λc d k=>c4 (λc=>bC i λi=>bh c (i (zN b 8 e 9 f 25 c) d k) (cg (b 1) λj=>rH j 0 i λi j=>bh i (e5 b λg=>Kg g 48 λg=>bC j λj=>bh g (bC j λj=>Of b d k λd k l m=>mn d (λb=>a1 a 100 [k] l m b h) l m λk l m=>el d (bg .eql k (.int .u8 98)) l m λk l m=>c4 (λd=>bC j λj=>bh d (yy b 2 λa=>j (ae (zO (zO b 8 e 9 f 25 c 32 i) 1 (.Z 10) 37 g 40 d 1 (.Z 2)) 0 a) l m) (Of b l m λk l m n=>mn k (λb=>a1 a 100 [l] m n b h) m n λl m n=>el k (bg .eql l (.int .u8 111)) m n λl m n=>c4 (λk=>bC j λj=>bh k (yy b 2 λa=>j (zM (zO (zO b 8 e 9 f 25 c 32 i) 1 (.Z 10) 37 g 40 d 52 k) 1 (.Z 8) 0 a) m n) (Of b m n λl m n o=>mn l (λb=>a1 a 100 [m] n o b h) n o λa h m=>el l (bg .eql a (.int .u8 120)) h m λa h m=>c4 (λa=>bC j λj=>bh a (yy b 2 λl=>j (zN (zO (zO b 8 e 9 f 25 c 32 i) 1 (.Z 10) 37 g 40 d 52 k) 64 a 1 (.Z 16) 0 l) h m) (yy b 1 λl=>j (zN (zO (zO b 8 e 9 f 25 c 32 i) 1 (.Z 10) 37 g 40 d 52 k) 64 a 1 (.Z 8) 0 l) h m)) λb=>bh l (b a) (b .zF))) λa=>bh k (a l) (a .zF))) λa=>bh d (a k) (a .zF)) (j (zM (zO b 8 e 9 f 25 c 32 i) 1 (.Z 10) 37 g) d k)) (oz 3 λa=>g (.tuple [.int .u64 0,a]) d k))) λa=>bh j (a c) (a .zF)) λa=>bh i (oz 2 λa=>g (.tuple [.int .u64 0,a]) e f) (a (zN (c6 [b,c,d]) 6 (.int .u64 0) 7 .nilIface 19 i) e f)
def ahA:dp X 81 [a0,a7,b2] h j ah ax=Vu X a0 a7 b2 h j ah ax:=Zk
def ahz:c8 X 81 3=true:=Zk
def Vv(a:aT)(b c d e f:y)(g:M ak)(h:Nat)(i j:bQ):Prop:=
 bC (λa b c=>k5 a λa=>i a b c) λk=>oz 2 λl=>av (dD a g .eql 115 false f l) λl=>bC k λk=>bh l (a1 a 102 [b,c] g h (λa b c=>av (some (y.iface 155 a)) λa=>i a b c) j) (oz 1 λm=>av (dD a g .eql 115 false f m) λm=>bC k λk=>bh m (a1 a 103 [b,c] g h (λa b c=>av (some (y.iface 155 a)) λa=>i a b c) j) (oz 3 λn=>av (dD a g .eql 115 false f n) λn=>bC k λk=>bh n (a1 a 104 [b,c,d] g h (λa b c=>av (some (y.iface 155 a)) λa=>i a b c) j) (oz 4 λo=>av (dD a g .eql 115 false f o) λo=>bC k λk=>bh o (a1 a 105 [b,c,e] g h (λa b c=>av (some (y.iface 155 a)) λa=>i a b c) j) (k (zM (zO (c6 [b,c,d,e,f]) 10 .nilIface 11 f 12 l 19 m) 26 n 34 o) g h))))
def ahC:dp X 82 [a0,a7,b2,a3,a4] h j ah ax=Vv X a0 a7 b2 a3 a4 h j ah ax:=Zk
def ahB:c8 X 82 5=true:=Zk
def Vw(a:aT)(b:y)(c:M ak)(d:Nat)(e f:bQ):Prop:=
 a1 a 106 [b] c d (λc d g=>kI c λc h=>av (dD a d .neq 115 true h .nilIface) λi=>bC (λa b c=>k5 a λa=>e (.tuple [a, .nilIface]) b c) λj=>bh i (a1 a 82 [.str [65,116,111,105],b, .Z 0, .Z 0,h] d g (λa b d=>e (.tuple [c,a]) b d) f) (j (ae (zO (c6 [b]) 2 (.Z 0) 3 .nilIface 4 c 5 h) 12 i) d g)) f
def ahE:dp X 83 [a0] h j ah ax=Vw X a0 h j ah ax:=Zk
def ahD:c8 X 83 1=true:=Zk
def Vy(a:aT)(b:y)(c:M ak)(d:Nat)(e f:bQ):Prop:=
 jv a c d b λc d g=>bC (λb c d=>iY b 1 2 a c λ_ b=>a1 a 107 [b] c d (λb c d=>av (dD a c .add 9 true (.str [117]) b) λa=>e a c d) f) λh=>av (dT a d 3 c) λi=>a1 a 84 [i] d g (λd g i=>yA d h λd h=>bh d (e (.str []) g i) (l9 c a g λj=>bC h λh=>bh j (e (.str [98,111,111,108]) g i) (gs 1 c a g λ_ k=>bC h λh=>bh k (gs 2 c a g λ_ b=>a1 a 107 [b] g i (λb c d=>av (dD a c .add 9 true (.str [105]) b) λa=>e a c d) f) (h (ae (zO (c6 [b]) 1 c 2 (.str []) 3 d 7 j) 10 k) g i)))) f
def ahI:dp X 85 [a0] h j ah ax=Vy X a0 h j ah ax:=Zk
def ahH:c8 X 85 1=true:=Zk
def Vz(a:aT)(b c:y)(d:M ak)(e:Nat)(f g:bQ):Prop:=
 jv a d e b λb d e=>av (dT a d 3 b) λh=>a1 a 84 [h] d e (λd e h=>iW d c e h λc e h=>el d (dT a e 3 b) e h λb e h=>mn d (λc=>a1 a 108 [b] e h c g) e h λa b e=>el d (bg .andNot c a) b e λa b c=>el d (bg .eql a (.int .u64 0)) b c λa b c=>c4 (λa=>f a b c) λb=>bh d (b a) (b .zF)) g
def ahK:dp X 86 [a0,a7] h j ah ax=Vz X a0 a7 h j ah ax:=Zk
def ahJ:c8 X 86 2=true:=Zk
def T8(a:aT)(b c:y)(d:M ak)(e:Nat)(f g:bQ):Prop:=
 fo (e+7) λh=>av (aV a d (.ptr 5 0)) λi=>a1 a 114 [c] d h (λc d g=>av (fe [.str [], .str [], .nilIface] [(0,1,b),(1,1,c),(2,1,i)]) λb=>w7 a d (e+5) b λb c=>av (aV a c (.ptr 5 0)) λa=>io a (some i) (f b c g)) g
def afb:dp X 102 [a0,a7] h j ah ax=T8 X a0 a7 h j ah ax:=Zk
def afa:c8 X 102 2=true:=Zk
def T9(a:aT)(b c:y)(d:M ak)(e:Nat)(f g:bQ):Prop:=
 fo (e+7) λh=>av (aV a d (.ptr 6 0)) λi=>a1 a 114 [c] d h (λc d g=>av (fe [.str [], .str [], .nilIface] [(0,1,b),(1,1,c),(2,1,i)]) λb=>w7 a d (e+5) b λb c=>av (aV a c (.ptr 6 0)) λa=>io a (some i) (f b c g)) g
def afd:dp X 103 [a0,a7] h j ah ax=T9 X a0 a7 h j ah ax:=Zk
def afc:c8 X 103 2=true:=Zk
def Ua(a:aT)(b:y)(c:M ak)(d:Nat)(e f:bQ):Prop:=
 av (mq b) λg=>o8 (λc d h=>o8 (λc d h=>o8 (λc d h=>iW c g d h λd h i=>el c (bg .lss d (.Z 10)) h i λd h i=>o8 (λc d h=>c4 (λc=>gS c .zT d h λd h i=>iW d g h i λh i j=>el d (bg .lss (.Z 0) h) i j λh i j=>iW d h i j λh i j=>iW h g i j λi j k=>el h (bg .lss i (.Z 19)) j k λi j k=>mn d (λa=>c4 (λb=>a b j k) λa=>bh h (a i) (a .zF)) j k λh i j=>kS c (λa=>c4 (λb=>a b i j) λa=>bh d (a h) (a .zF)) i j λd h i=>c4 (λc=>bC (λb c d=>e5 b λb=>a1 a 116 [b, .Z 10, .Z 0] c d (λa b c=>kI a λa d=>e (.tuple [a,d]) b c) f) λd=>bh c (Kg b 45 λd=>gS d b h i λf h i=>eT d (nI f (.Z 0)) h i λf h i=>eT d (bg .eql f (.int .u8 43)) h i λf h i=>c4 (λd=>bC (λb c d=>e5 b λf=>hu (JQ a c d f) c d λc d f=>lI c (λa b c=>cg (a 5) λd=>Kg d 45 λd=>bC (λa b c=>cg (a 6) λa=>e (.tuple [a, .nilIface]) b c) λe=>bh d (cg (a 6) λf=>av (he .neg f) λf=>e (zM a 66 d 6 f) b c) (e (ae a 66 d) b c)) λg h=>gA (λb c d f=>ki c 49 48 λg=>bC (λc d f=>nT (λa c d=>iZ a 49 λe=>b (ae a 49 e) c d) c 47 49 1 λb g=>av (aV a d g) λa=>av (bg .sub a (.int .u8 48)) λg=>av (bg .gtr g (.int .u8 9)) λh=>bC (λa c d=>cg (a 6) λe=>av (bg .mul e (.Z 10)) λe=>cg (a 8) λf=>av (k8 .i64 f) λf=>av (bg .add e f) λe=>b (ae a 6 e) c d) λb=>bh h (oz 2 λa=>e (.tuple [.Z 0,a]) d f) (b (zN c 8 a 8 g 56 h) d f)) λa=>bh g (a (ae c 50 g) d f) (h (ae c 50 g) d f)) (zO b 6 (.Z 0) 47 c 48 g 49 (.Z 0)) d f) λa=>bh d (av (mT b (some (.Z 1)) none) λf=>av (mq f) λj=>av (bg .lss j (.Z 1)) λj=>bC a λa=>bh j (oz 2 λa=>e (.tuple [.Z 0,a]) h i) (a (zO (zO (c6 [b]) 2 (.Z 0) 3 .nilIface 4 g 30 c) 5 b 39 d 0 f 44 j) h i)) (a (zM (zO (c6 [b]) 2 (.Z 0) 3 .nilIface 4 g 30 c) 5 b 39 d) h i)) λa=>bh d (a .zT) (a f)) (d (zO (c6 [b]) 2 (.Z 0) 3 .nilIface 4 g 30 c) h i)) λa=>bh c (a .zT) (a d)) λa=>bh .zF (a c) (a .zF)) λa=>iR true .zF (c4 (λb=>a b h i) λa=>bh c (a d) (a .zF)) (a bs.undef h i)) λa=>iR true .zF (a c d h) (a bs.undef d h)) λa=>iR true .zF (av (bg .lss (.Z 0) c) λb=>a b d h) (a bs.undef d h)) λa=>iR true .zF (a g c d) (a bs.undef c d)
def aff:dp X 106 [a0] h j ah ax=Ua X a0 h j ah ax:=Zk
def afe:c8 X 106 1=true:=Zk
def Uc(a:aT)(b:y)(c:M ak)(d:Nat)(e _:bQ):Prop:=
 jv a c d b λb c d=>gs 2 b a c λ_ a=>av (bg .sub (.Z 64) a) λa=>av (bg .shr (.int .u64 18446744073709551615) a) λa=>e a c d
def afj:dp X 108 [a0] h j ah ax=Uc X a0 h j ah ax:=Zk
def afi:c8 X 108 1=true:=Zk
def Ui(a:aT)(b c d:y)(e:M ak)(f:Nat)(g h:bQ):Prop:=
 av (dD a e .eql 9 true b (.str [])) λi=>bC (λb c d=>e5 b λe=>av (nI e (.Z 0)) λe=>bC (λb c d=>f3 b 0 1 λe f=>cg (b 2) λi=>a1 a 81 [e,f,i] c d (λc d e=>kI c λc f=>av (dD a d .neq 115 true f .nilIface) λh=>iW h f d e λd e i=>el h (some (y.iface 153 (.Z 1))) e i λe i j=>el h (dD a i .neq 115 false d e) i j λa d e=>c4 (λa=>bC (λa b c=>cg (a 2) λd=>av (bg .eql d (.Z 0)) λd=>bC (λa b c=>TX a 2 1 λd=>av (k8 .u64 d) λd=>av (bg .shl (.int .u64 1) d) λd=>cg (a 8) λe=>av (he .not e) λe=>od e (a 9) b c λb c f=>iW e d c f λc f h=>el e (bg .geq b c) f h λb c f=>c4 (λb=>bC (λa b c=>cg (a 8) λd=>od d (a 9) b c λb c e=>od d (a 10) c e λc e f=>el d (bg .gtr b c) e f λb c e=>c4 (λb=>bC (λa b c=>cg (a 9) λd=>av (k8 .i64 d) λd=>cg (a 8) λe=>bC (λa b c=>cg (a 11) λa=>g (.tuple [a, .nilIface]) b c) λf=>bh e (av (he .neg d) λg=>f (zN a 11 d 69 e 11 g) b c) (f (zM a 11 d 69 e) b c)) λd=>bh b (cg (a 10) λa=>av (k8 .i64 a) λa=>av (he .neg a) λa=>oz 1 λb=>g (.tuple [a,b]) c e) (d (ae a 62 b) c e)) λa=>bh d (a b) (a .zF)) λe=>bh b (av (bg .sub d (.int .u64 1)) λa=>av (k8 .i64 a) λa=>oz 1 λb=>g (.tuple [a,b]) c f) (e (zM a 10 d 52 b) c f)) λa=>bh e (a b) (a .zF)) λe=>bh d (e (zM a 41 d 2 (.Z 64)) b c) (e (ae a 41 d) b c)) λh=>bh a (g (.tuple [.Z 0,f]) d e) (h (zO b 9 (.int .u64 0) 9 c 7 f 38 a) d e)) λb=>bh h (b a) (b .zF)) h) λa=>av (bg .eql e (.int .u8 43)) λf=>bC a λa=>bh f (yy b 1 λg=>a (zO b 8 .zF 16 e 17 f 0 g) c d) (av (bg .eql e (.int .u8 45)) λg=>bC a λa=>bh g (yy b 1 λh=>a (zM (zO b 8 .zF 16 e 17 f 21 g) 0 h 8 .zT) c d) (a (zO b 8 .zF 16 e 17 f 21 g) c d))) λa=>bh i (oz 2 λa=>g (.tuple [.Z 0,a]) e f) (a (zN (c6 [b,c,d]) 6 (.Z 0) 7 .nilIface 13 i) e f)
def afx:dp X 116 [a0,a7,b2] h j ah ax=Ui X a0 a7 b2 h j ah ax:=Zk
def afw:c8 X 116 3=true:=Zk
def Ub(a:aT)(b:y)(c:M ak)(d:Nat)(e f:bQ):Prop:=
 a1 a 117 [b] c d e f
def afh:dp X 107 [a0] h j ah ax=Ub X a0 h j ah ax:=Zk
def afg:c8 X 107 1=true:=Zk
def Uj(a:aT)(b:y)(c:M ak)(d:Nat)(e f:bQ):Prop:=
 a1 a 120 [b,.Z 10] c d e f
def afz:dp X 117 [a0] h j ah ax=Uj X a0 h j ah ax:=Zk
def afy:c8 X 117 1=true:=Zk
def Un(a:aT)(b c:y)(d:M ak)(e:Nat)(f g:bQ):Prop:=
 av (bg .eql c (.Z 10)) λh=>bC (λb c d=>e5 b λe=>av (k8 .u64 e) λe=>f3 b 1 0 λb h=>Er h λh=>a1 a 126 [.aW,e,b,h, .zF] c d (λa b c=>kI a λ_ a=>f a b c) g) λi=>bh h (av (bg .leq (.Z 0) b) λi=>iW i b d e λd e j=>el i (bg .lss d (.Z 100)) e j λd e j=>c4 (λd=>bC (λb c d=>av (kJ [.int .u8 0, .int .u8 0, .int .u8 0, .int .u8 0, .int .u8 0, .int .u8 0, .int .u8 0, .int .u8 0, .int .u8 0, .int .u8 0, .int .u8 0, .int .u8 0, .int .u8 0, .int .u8 0, .int .u8 0, .int .u8 0, .int .u8 0, .int .u8 0, .int .u8 0, .int .u8 0, .int .u8 0, .int .u8 0, .int .u8 0, .int .u8 0] d) λe=>gN a c d e.1 e.2 λc d e=>e5 b λh=>av (k8 .u64 h) λh=>e5 b λi=>Er i λi=>bC (λb c d=>cg (b 6) λe=>a1 a 124 [e] c d (λc d e=>av (bg .add (.Z 1) c) λh=>cg (b 5) λi=>av (To 24 1 i (some (.Z 1)) (some h) none) λh=>cg (b 6) λi=>a1 a 125 [h,i] d e (λ_ d e=>e5 b λg=>Er g λg=>bC (λb c d=>cg (b 7) λe=>av (bg .add (.Z 1) e) λe=>cg (b 5) λb=>av (To 24 1 b (some (.Z 1)) (some e) none) λb=>av (s9 a c b) λa=>f a c d) λh=>bh g (cg (b 5) λg=>av (tA 24 1 g (.Z 0)) λg=>av (es a d 1 g (.int .u8 45)) λd=>av (bg .add (.Z 1) c) λc=>cg (b 5) λb=>av (To 24 1 b none (some c) none) λb=>av (s9 a d b) λa=>f a d e) (h (zM b 7 c 34 g) d e)) g) g) λa=>bh i (av (he .neg h) λf=>a (zO b 5 c 6 h 23 i 6 f) d e) (a (zN b 5 c 6 h 23 i) d e)) λi=>bh d (a1 a 123 [b] e j f g) (i (zN (c6 [b,c]) 4 (.str []) 11 h 17 d) e j)) λa=>bh i (a d) (a .zF)) (i (zM (c6 [b,c]) 4 (.str []) 11 h) d e)
def afF:dp X 120 [a0,a7] h j ah ax=Un X a0 a7 h j ah ax:=Zk
def afE:c8 X 120 2=true:=Zk
end
noncomputable section
variable (X : cl) (h : M ak) (j : Nat) (ah ax : bQ) (a0 a7 b2 a3 a4 a5 ic iw ko : y)
def T7(_:aT)(a:y)(b:M ak)(c:Nat)(d _:bQ):Prop:=
 av (bg .or a (.int .u8 32)) λa=>d a b c
def ae9:dp X 100 [a0] h j ah ax=T7 X a0 h j ah ax:=Zk
def ae8:c8 X 100 1=true:=Zk
def Uq(_:aT)(a:y)(b:M ak)(c:Nat)(d _:bQ):Prop:=
 av (bg .lss a (.Z 10)) λe=>bC (λa b c=>e5 a λe=>av (bg .mul e (.Z 2)) λe=>e5 a λa=>av (bg .mul a (.Z 2)) λa=>av (bg .add a (.Z 2)) λa=>av (mT (.str [48,48,48,49,48,50,48,51,48,52,48,53,48,54,48,55,48,56,48,57,49,48,49,49,49,50,49,51,49,52,49,53,49,54,49,55,49,56,49,57,50,48,50,49,50,50,50,51,50,52,50,53,50,54,50,55,50,56,50,57,51,48,51,49,51,50,51,51,51,52,51,53,51,54,51,55,51,56,51,57,52,48,52,49,52,50,52,51,52,52,52,53,52,54,52,55,52,56,52,57,53,48,53,49,53,50,53,51,53,52,53,53,53,54,53,55,53,56,53,57,54,48,54,49,54,50,54,51,54,52,54,53,54,54,54,55,54,56,54,57,55,48,55,49,55,50,55,51,55,52,55,53,55,54,55,55,55,56,55,57,56,48,56,49,56,50,56,51,56,52,56,53,56,54,56,55,56,56,56,57,57,48,57,49,57,50,57,51,57,52,57,53,57,54,57,55,57,56,57,57]) (some e) (some a)) λa=>d a b c) λf=>bh e (yz a λe=>av (mT (.str [48,49,50,51,52,53,54,55,56,57,97,98,99,100,101,102,103,104,105,106,107,108,109,110,111,112,113,114,115,116,117,118,119,120,121,122]) (some a) (some e)) λa=>d a b c) (f (zM (c6 [a]) 2 (.str []) 4 e) b c)
def afL:dp X 123 [a0] h j ah ax=Uq X a0 h j ah ax:=Zk
def afK:c8 X 123 1=true:=Zk
end
open Go.bs Go.aQ
noncomputable section
def iE(c:Nat):Bool:=decide (48<=c)&&decide (c<=57)
def qC(c:Nat):Bool:=decide (97<=c)&&decide (c<=122)||decide (65<=c)&&decide (c<=90)||decide (c=95)
def iU(c:Nat):Bool:=qC c||iE c
def A1{s:ba}{i c:Nat}(q:IntKind)(a:s[i]? =some c):nI (.str s) (.int q (i:Int))=some (.int .u8 (c:Int)):=by
 simp[nI,sy,a]
def Tp{s:ba}{k a:Nat}(q ey:IntKind)(H:k<=a)(K:a<=s.length):mT (.str s) (some (.int q (k:Int))) (some (.int ey (a:Int)))=some (.str ((s.drop k).take (a-k))):=by
 simp[mT,md,nK,sy,eQ,H,K]
def NK{s:ba}{k:Nat}(q:IntKind)(H:k<=s.length):mT (.str s) (some (.int q (k:Int))) none=some (.str (s.drop k)):=by
 simp[mT,md,nK,sy,eQ,H,ZQ]
def auR{s:ba}{a:Nat}(q:IntKind)(H:a<=s.length):mT (.str s) none (some (.int q (a:Int)))=some (.str (s.take a)):=by
 simp[mT,md,nK,sy,eQ,H]
section
variable{X:cl}{h R aX aP:M ak}{j au aM be:Nat}
def PA(az:dW X)(c:Nat):a1 X 31 [.int .u8 (c:Int)] h j (λab R au=>ab= .bool (iE c)/\R=h/\au=j) (λ_ _ _=>False):=by
 refine zL az (agh X) ?_
 rw[agi]
 unfold UG
 by_cases a:48<=c
 ·have d:decide ((48:Int)<=(c:Int))=true:=by simp;omega
  have cC:decide ((c:Int)<=57)=decide (c<=57):=by simp;omega
  refine dq @d @cC ⟨?_⟩
  exact⟨by simp[iE,a],rfl,rfl⟩
 ·have d:decide ((48:Int)<=(c:Int))=false:=by simp;omega
  refine ce @d ⟨?_⟩
  exact⟨by simp[iE,a],rfl,rfl⟩
def Wo(az:dW X)(c:Nat):a1 X 33 [.int .u8 (c:Int)] h j (λab R au=>ab= .bool (qC c)/\R=h/\au=j) (λ_ _ _=>False):=by
 refine zL az (agl X) ?_
 rw[agm]
 unfold UI
 have cB:decide ((97:Int)<=(c:Int))=decide (97<=c):=by simp;omega
 have cC:decide ((c:Int)<=122)=decide (c<=122):=by simp;omega
 have dI:decide ((65:Int)<=(c:Int))=decide (65<=c):=by simp;omega
 have iy:decide ((c:Int)<=90)=decide (c<=90):=by simp;omega
 have fR:decide ((c:Int)=95)=decide (c=95):=by simp;omega
 by_cases H:97<=c<;>by_cases K:c<=122<;>by_cases am:65<=c<;>by_cases aC:c<=90<;>try omega
 all_goals
  simp only[H,K,am,aC,Yz,Yq]at cB cC dI iy
  refine g0 @cB @cC @dI @iy @fR ⟨?_⟩
  exact⟨by simp[qC,H,K,am,aC],rfl,rfl⟩
def asg(az:dW X)(c:Nat):a1 X 55 [.int .u8 (c:Int)] h j (λab R au=>ab= .bool (iU c)/\R=h/\au=j) (λ_ _ _=>False):=by
 refine zL az (agT X) ?_
 rw[agU]
 unfold U0
 refine(Wo az c).Zm ?_
 rintro ab R au ⟨rfl,rfl,rfl⟩
 cases al:qC c with
 |true=>
  refine c7 ⟨?_⟩
  exact⟨by simp[iU,al],rfl,rfl⟩
 |false=>
  refine c7 ⟨?_⟩
  refine(PA az c).Zm ?_
  rintro ab R au ⟨rfl,rfl,rfl⟩
  refine c7 ⟨?_⟩
  exact⟨by simp[iU,al],rfl,rfl⟩
def asw(az:dW X)(c:Nat):a1 X 53 [.int .u8 (c:Int)] h j (λab R au=>ab= .bool (decide (c≠10))/\R=h/\au=j) (λ_ _ _=>False):=by
 refine zL az (agP X) ?_
 rw[agQ]
 unfold UY
 refine c7 ⟨?_⟩
 exact⟨by congr 1;simp;omega,rfl,rfl⟩
def qF(c:Nat):Nat:=(BitVec.ofInt 8 (c:Int)|||BitVec.ofInt 8 32).toNat%256
def Sy(az:dW X)(c:Nat):a1 X 100 [.int .u8 (c:Int)] h j (λab R au=>ab= .int .u8 (qF c:Int)/\R=h/\au=j) (λ_ _ _=>False):=by
 refine zL az (ae8 X) ?_
 rw[ae9]
 unfold T7
 have D:bg .or (.int .u8 (c:Int)) (.int .u8 32)=some (.int .u8 (ps .u8 ((BitVec.ofInt 8 (c:Int)|||BitVec.ofInt 8 32).toNat))):=by
  simp[bg,lA,l1,lu,lj];rfl
 refine ce @D ⟨?_⟩
 exact⟨rfl,rfl,rfl⟩
def adx(az:dW X)(s p:ba):a1 X 51 [.str s, .str p] h j (λab R au=>ab= .bool (decide (p.length<=s.length/\s.take p.length=p))/\R=h/\au=j) (λ_ _ _=>False):=by
 refine zL az (agL X) ?_
 rw[agM]
 unfold UW
 refine zL az (ahx X) ?_
 rw[ahy]
 unfold Vt
 by_cases a:p.length<=s.length
 ·have d:decide ((p.length:Int)<=(s.length:Int))=true:=by simp;omega
  have D:=auR (s:=s) .i64 a
  refine dq @d @D ⟨?_⟩
  exact⟨by congr 1;simp[a],rfl,rfl⟩
 ·have d:decide ((p.length:Int)<=(s.length:Int))=false:=by simp;omega
  refine ce @d ⟨?_⟩
  exact⟨by congr 1;simp;omega,rfl,rfl⟩
end
def Ky(X:cl)(f:y)(p:Nat->Bool):Prop:=∃q,f= .func (.func q) [] []/\∀(h:M ak) (j c:Nat),a1 X q [.int .u8 (c:Int)] h j (λab R au=>ab= .bool (p c)/\R=h/\au=j) (λ_ _ _=>False)
def aud{X:cl}(az:dW X):Ky X (.func (.func 31) [] []) iE:=⟨_,rfl,λh j c=>PA az c⟩
def adW{X:cl}(az:dW X):Ky X (.func (.func 55) [] []) iU:=⟨_,rfl,λh j c=>asg az c⟩
def aue{X:cl}(az:dW X):Ky X (.func (.func 53) [] []) (λc=>decide (c≠10)):=⟨_,rfl,λh j c=>asw az c⟩
structure m2(X:cl)(h:M ak)(fW:Nat)(s:ba)(i:Nat):Prop where
 g:Z X h fW=zI [.str s, .Z (i:Int)] 2
 le:i<=s.length
 many:s.length<=65536
 ch:(o X).aY<=fW
def m2.d9{X:cl}{h:M ak}{fW:Nat}{s:ba}{i:Nat}(a:m2 X h fW s i):aV X h (.ptr fW 0)=some (.str s):=by rw[bU a.g];rfl
def m2.dl{X:cl}{h:M ak}{fW:Nat}{s:ba}{i:Nat}(a:m2 X h fW s i):aV X h (.ptr fW 1)=some (.Z (i:Int)):=by rw[bU a.g];rfl
def m2.ad{X:cl}{h R:M ak}{fW:Nat}{s:ba}{i:Nat}(a:m2 X h fW s i)(q:Z X R fW=Z X h fW):m2 X R fW s i:=⟨by rw[q];exact a.g,a.le,a.many,a.ch⟩
section
variable{X:cl}{h R aX aP:M ak}{j au aM be fW:Nat}{s:ba}{i:Nat}
def NH(az:dW X){f:y}{p:Nat->Bool}(bW:Ky X f p)(V:m2 X h fW s i){E:Nat}(aD:E<=s.length):
 a1 X 52 [.ptr fW 0, .Z (E:Int),f] h j (λab R au=>ab= .str ((s.drop E).takeWhile p)/\R=h/\au=j) (λ_ _ _=>False):=by
 refine zL az (agN X) ?_
 rw[agO]
 unfold UX
 obtain⟨q,rfl,bW⟩:=bW
 have bc:=V.many
 have d9:=V.d9
 refine c7 ⟨?_⟩
 refine gK (λm I R aS=>∃(D:Nat),I.g 0=some (.ptr fW 0)/\I.g 1=some (.Z (E:Int))/\I.g 2=some (.func (.func q) [] [])/\I.g 7=some (.Z (D:Int))/\E<=D/\D+m=s.length/\R=h/\aS=j/\(s.drop E).takeWhile p=(s.drop E).take (D-E)++(s.drop D).takeWhile p)
  (s.length-E) ⟨E,bF,bF,bF,bF,Zj _,Zo,rfl,rfl,Zs⟩ ?_
 rintro m I aP be ⟨D,t0,t1,eR,fx,anf,aw8,rfl,rfl,br⟩
 have bB:=zJ D
 have a2:mT (.str s) (some (.Z (E:Int))) (some (.Z (D:Int)))=some (.str ((s.drop E).take (D-E))):=Tp .i64 .i64 anf Zo
 cases m with
 |zero=>
  have d:=zF D s.length
  rw[ZR (by omega:s.length<=D),List.takeWhile_nil,Yn]at br
  refine fA @fx @t0 @t1 @eR @d9 @d @a2 ⟨?_⟩
  exact⟨by rw[br],rfl,rfl⟩
 |succ m=>
  have d:=zG D s.length
  obtain⟨c,aA⟩:=zH s D
  have aH:s.drop D=c::s.drop (D+1):=by
   obtain⟨af,B⟩:=Zb.1 aA
   rw[ZA af,B]
  have di:=A1 .i64 aA
  refine fA @fx @t0 @t1 @eR @d9 @d @di ⟨?_⟩
  refine(bW aP be c).Zm ?_
  rintro ab bf bE ⟨rfl,rfl,rfl⟩
  rw[aH,YJ]at br
  cases ay:p c with
  |false=>
   rw[ay]at br
   simp only[Zv,ZD,Yn]at br
   refine g0 @fx @t0 @t1 @d9 @a2 ⟨?_⟩
   exact⟨by rw[br],rfl,rfl⟩
  |true=>
   rw[ay]at br
   simp only[ZE]at br
   refine dq @fx @bB ⟨?_⟩
   refine⟨m,Zo,D+1,bz t0,bz t1,bz eR,bF,Zo,Zo,rfl,rfl, ?_⟩
   rw[br,show D+1-E=(D-E)+1 by omega,YQ]
   have:(s.drop E)[D-E]? =some c:=by rw[YC,show E+(D-E)=D by omega];exact aA
   rw[this]
   simp
end
def I8(c:Nat):Bool:=decide (c=32)||decide (c=9)||decide (c=10)||decide (c=13)
structure f5(X:cl):Prop extends dW X where
 idx:∀c:Nat,c<256->∃bo:Int,X.O 99 [.str [32,9,10,13], .int .u8 (c:Int)]=some (.Z bo)/\(0<=bo↔I8 c=true)
 clone:∀s:ba,(∀c∈s,c<256)->s.length<=65536->X.O 114 [.str s]=some (.str s)
def n2(s:ba):Nat->Nat->Nat
 |0,i=>i
 |n+1,i=>match s[i]? with
  |none=>i
  |some c=>if I8 c then n2 s n (i+1)
   else if 2<=(s.drop i).length/\(s.drop i).take 2=[45,45]then n2 s n (i+((s.drop i).takeWhile λc=>decide (c≠10)).length)else i
def El{α:Type}(p:α->Bool):∀k:List α,(k.takeWhile p).length<=k.length:=by
 intro k
 induction k with
 |nil=>simp
 |cons E k aj=>rw[YJ];split<;>simp<;>omega
section
variable{X:cl}{h R aX aP:M ak}{j au aM be fW:Nat}{s:ba}{i:Nat}
def aqn(az:f5 X){c:Nat}(aA:c<256):a1 X 50 [.str [32,9,10,13], .int .u8 (c:Int)] h j (λab R au=>(∃bo:Int,ab= .Z bo/\(0<=bo↔I8 c=true))/\R=h/\au=j) (λ_ _ _=>False):=by
 refine zL az.todW (agJ X) ?_
 rw[agK]
 unfold UV
 refine zL az.todW (ahv X) ?_
 rw[ahw]
 unfold Vq
 obtain⟨bo,H,K⟩:=az.idx c aA
 exact Cx H ⟨⟨bo,rfl,K⟩,rfl,rfl⟩
def Wr(az:f5 X)(V:m2 X h fW s i)(al:∀c∈s,c<256)(aI:(o X).aY<=j)(IN:fW<j):
 a1 X 29 [.ptr fW 0] h j (λab R au=>m2 X R fW s (n2 s s.length i)/\cu X [fW] h j R au) (λ_ _ _=>False):=by
 refine zL az.todW (agc X) ?_
 rw[agd]
 unfold UE
 have bc:=V.many
 have hB:=V.ch
 refine c7 ⟨?_⟩
 refine gK (λm I R aS=>∃(Y:Nat),I.g 0=some (.ptr fW 0)/\m2 X R fW s Y/\s.length<=Y+m/\n2 s s.length i=n2 s m Y/\cu X [fW] h j R aS)
  s.length ⟨i,bF,V,Zo,rfl,cu.refl _ _ _⟩ ?_
 rintro m I aP be ⟨Y,t0,gn,Rg,bD,dt⟩
 have f1:=dt.le
 have d9:=gn.d9
 have dl:=gn.dl
 have m8:=gn.le
 have b5:=gn.g
 by_cases C6:Y=s.length
 ·subst C6
  have cf:n2 s m s.length=s.length:=by cases m<;>simp[n2]
  have d:decide ((s.length:Int)<(s.length:Int))=false:=by simp
  refine g6 @t0 @d9 @dl @d ⟨?_⟩
  exact⟨by rw[bD,cf];exact gn,dt.trans ⟨Zo,λ_ _ _=>rfl⟩⟩
 have d:=zG Y s.length
 obtain⟨c,aA⟩:=zH s Y
 obtain⟨m,rfl⟩:∃fI,m=fI+1:=⟨m-1,Zo⟩
 rw[n2,aA]at bD
 simp only[]at bD
 have di:=A1 .i64 aA
 have LS:=al c (Zh aA)
 refine g0 @t0 @d9 @dl @d @di ⟨?_⟩
 refine(aqn az LS).Zm ?_
 rintro ab bf bE ⟨⟨bo,rfl,cf⟩,rfl,rfl⟩
 cases hY:I8 c with
 |true=>
  have lz:=cf.2 hY
  have cC:decide ((0:Int)<=bo)=true:=by simp;omega
  have bB:=zJ Y
  rw[hY]at bD
  simp only[ZE]at bD
  refine g6 @t0 @dl @cC @bB ⟨?_⟩
  refine⟨m,Zo,Y+1,bz t0,⟨by rw[bn Zo];rfl,Zo,bc,hB⟩,Zo,bD,dt.trans ⟨Zo,λb al bN=>by simp only[Zr,ZN,Y4,Yw,ZK,Yi]at bN;exact zK⟩⟩
 |false=>
  have cC:decide ((0:Int)<=bo)=false:=by simp;have:=mt cf.1 (by rw[hY];decide);omega
  have bB:mT (.str s) (some (.Z (Y:Int))) none=some (.str (s.drop Y)):=NK .i64 m8
  rw[hY]at bD
  simp only[Zv,ZD]at bD
  refine g0 @t0 @d9 @dl @cC @bB ⟨?_⟩
  refine(adx az.todW (s.drop Y) [45,45]).Zm ?_
  rintro ab bT b3 ⟨rfl,rfl,rfl⟩
  by_cases ay:2<=(s.drop Y).length/\(s.drop Y).take 2=[45,45]
  ·rw[Zu ay]at bD
   have dI:decide ([45,45].length<=(s.drop Y).length/\List.take [45,45].length (s.drop Y)=[45,45])=true:=decide_eq_true ay
   have aB:=El (λc=>decide (c≠10)) (s.drop Y)
   rw[Ye]at aB
   generalize br:((s.drop Y).takeWhile λc=>decide (c≠10)).length=w at bD aB
   have oc:1<=w:=by
    have amG:c=45:=by
     have:=ay.2
     have aH:s.drop Y=c::s.drop (Y+1):=by
      obtain⟨af,B⟩:=Zb.1 aA
      rw[ZA af,B]
     rw[aH]at this
     simp at this
     exact this.1
    have aH:s.drop Y=c::s.drop (Y+1):=by
     obtain⟨af,B⟩:=Zb.1 aA
     rw[ZA af,B]
    rw[aH,amG,YJ]at br
    simp at br
    omega
   have cp:bg .add (.Z (Y:Int)) (.Z (w:Int))=some (.Z ((Y+w:Nat):Int)):=by rw[eK Zo Zo];rfl
   simp only[dI]
   refine eP @t0 @d9 @dl ⟨?_⟩
   refine(NH az.todW (aue az.todW) gn m8).Zm ?_
   rintro ab bZ ct ⟨rfl,rfl,rfl⟩
   have fj:mq (.str ((s.drop Y).takeWhile λc=>decide (c≠10)))=some (.Z (w:Int)):=by rw[uY,br]
   refine eP @fj @cp @dl ⟨?_⟩
   refine j0 (by simp[y.same]) ?_
   refine c7 ⟨?_⟩
   refine⟨m,Zo,Y+w,bz t0,⟨by rw[bn Zo];rfl,Zo,bc,hB⟩,Zo,bD,dt.trans ⟨Zo,λb al bN=>by simp only[Zr,ZN,Y4,Yw,ZK,Yi]at bN;exact zK⟩⟩
  ·rw[Zg ay]at bD
   have dI:decide ([45,45].length<=(s.drop Y).length/\List.take [45,45].length (s.drop Y)=[45,45])=false:=decide_eq_false ay
   simp only[dI]
   refine c7 ⟨?_⟩
   exact⟨by rw[bD];exact gn,dt.trans ⟨Zo,λ_ _ _=>rfl⟩⟩
end
def sH:ba->Nat->Nat×Nat
 |[],n=>(n,0)
 |c::k,n=>if iE c then(if 1844674407370955162<=n then(18446744073709551615,1)else if 18446744073709551616<=n*10+(c-48)then(18446744073709551615,1)else sH k (n*10+(c-48)))
  else(0,2)
def kF(s:ba):Nat×Nat:=if s=[]then(0,2)else sH s 0
def vC:Nat->y
 |0=> .nilIface
 |n+1=> .iface 153 (.Z ((n+1:Nat):Int))
def Pd{C:aT}{h:M ak}{j:Nat}{s:ba}{ah:bQ}(a:s.length<=1048576)(q:ah (.ej j 0 s.length 1) (bl C h j (some (.cells (M.ofList (s.map λn:Nat=>y.int .u8 (n:Int)) 0 .nil) s.length (.grow [])))) (j+1)):hu (JQ C h j (.str s)) h j ah:=by
 refine kh (v:= .ej j 0 s.length 1) (R:=bl C h j (some (.cells (M.ofList (s.map λn:Nat=>y.int .u8 (n:Int)) 0 .nil) s.length (.grow [])))) (au:=j+1) ?_ q
 simp[JQ,sa,jP a,mQ]
def aeO{x:Int}(H:0<=x)(K:x<18446744073709551616):ps .u64 x=x:=by
 simp only[ps];exact YX H K
def aqh{x e:Nat}(a:x+e<18446744073709551616):bg .add (.int .u64 (x:Int)) (.int .u64 (e:Int))=some (.int .u64 ((x+e:Nat):Int)):=by
 rw[abC];congr 2;rw[YX Zo Zo];rfl
def aqi{x e:Nat}(a:x*e<18446744073709551616):bg .mul (.int .u64 (x:Int)) (.int .u64 (e:Int))=some (.int .u64 ((x*e:Nat):Int)):=by
 have:(x:Int)*(e:Int)=((x*e:Nat):Int):=by simp
 simp only[bg,lA,l1,lu,kp,eW,lj,this]
 rw[aeO Zo Zo,E5]
def abE{x e:Nat}(a:e<=x)(K:x<256):bg .sub (.int .u8 (x:Int)) (.int .u8 (e:Int))=some (.int .u8 ((x-e:Nat):Int)):=by
 have:(x:Int) -(e:Int)=((x-e:Nat):Int):=Zo
 have w:ps .u8 ((x-e:Nat):Int)=((x-e:Nat):Int):=by simp only[ps];exact YX Zo Zo
 simp only[bg,lA,l1,lu,kp,eW,lj,this,w,E5]
def aqg{x e:Nat}(K:x+e<256):bg .add (.int .u8 (x:Int)) (.int .u8 (e:Int))=some (.int .u8 ((x+e:Nat):Int)):=by
 have:(x:Int)+(e:Int)=((x+e:Nat):Int):=Zo
 have w:ps .u8 ((x+e:Nat):Int)=((x+e:Nat):Int):=by simp only[ps];exact YX Zo Zo
 simp only[bg,lA,l1,lu,kp,eW,lj,this,w,E5]
section
variable{X:cl}{h R aX aP:M ak}{j au aM be fW:Nat}{s:ba}{i:Nat}
def aey(az:f5 X)(aE:s.length<=65536)(al:∀c∈s,c<256)(aI:(o X).aY<=j){b:Int}(ann:b=0\/b=64):
 a1 X 81 [.str s, .Z 10, .Z b] h j (λab R au=>ab= .tuple [.int .u64 ((kF s).1:Int),vC (kF s).2]/\bp X h j R au) (λ_ _ _=>False):=by
 refine zL az.todW (ahz X) ?_
 rw[ahA]
 unfold Vu
 by_cases bi:s=[]
 ·subst bi
  have d:decide (([]:List Nat)=[])=true:=rfl
  refine ce @d ⟨?_⟩
  exact⟨rfl,dM⟩
 have d:decide (s=[])=false:=by simp[bi]
 have aR:decide ((2:Int)<=10)=true:=rfl
 have Hz:decide ((10:Int)<=36)=true:=rfl
 have ajX:decide ((10:Int)=10)=true:=rfl
 have dQ:bg .shl (.int .u64 1) (.int .u64 64)=some (.int .u64 0):=by rfl
 have jh:bg .sub (.int .u64 0) (.int .u64 1)=some (.int .u64 18446744073709551615):=by rfl
 have xe:k8 .u64 (.Z 64)=some (.int .u64 64):=by rfl
 have ajV:(64:Int)%18446744073709551616=64:=rfl
 have WL:(10:Int)%18446744073709551616=10:=rfl
 have kq:decide ((10:Int)=0)=false:=rfl
 have ao8:kF s=sH s 0:=by simp[kF,bi]
 rw[ao8]
 rcases ann with rfl|rfl
 all_goals
  have cB:decide ((0:Int)=0)=true:=rfl
  have cC:decide ((64:Int)=0)=false:=rfl
  have dI:decide ((64:Int)<0)=false:=rfl
  have iy:decide ((64:Int)<64)=false:=rfl
  refine fA @d @aR @Hz @ajX @kq @cB (Za @cC (Za @dI (Za @iy (Za @dQ (Za @jh (Za @xe @ajV)))))) ⟨?_⟩
  refine Pd Zo ?_
  have P8:Z X (bl X h j (some (.cells (M.ofList (s.map λn:Nat=>y.int .u8 (n:Int)) 0 .nil) s.length (.grow [])))) j=some (.cells (M.ofList (s.map λn:Nat=>y.int .u8 (n:Int)) 0 .nil) s.length (.grow [])):=bn aI
  have Fg:bp X h j (bl X h j (some (.cells (M.ofList (s.map λn:Nat=>y.int .u8 (n:Int)) 0 .nil) s.length (.grow [])))) (j+1):=dM
  generalize bl X h j (some (.cells (M.ofList (s.map λn:Nat=>y.int .u8 (n:Int)) 0 .nil) s.length (.grow [])))=sY at*
  refine c7 ⟨?_⟩
  refine gK (λm I R aS=>∃(Y n:Nat),I.g 99=some (.ej j 0 s.length 1)/\I.g 100=some (.Z (s.length:Int))/\I.g 101=some (.Z (Y:Int))/\I.g 13=some (.int .u64 (n:Int))/\I.g 10=some (.int .u64 1844674407370955162)/\I.g 11=some (.int .u64 18446744073709551615)/\I.g 12=some .zF/\I.g 8=some .zF/\I.g 1=some (.Z 10)/\Y+m=s.length/\n<18446744073709551616/\R=sY/\j+1<=aS/\sH s 0=sH (s.drop Y) n)
   s.length ⟨0,0,bF,bF,ho,ho,bF,bF,bF,bF,bF,Zo,Zo,rfl,Zo,rfl⟩ ?_
  rintro m I aP be ⟨Y,n,JZ,GC,JW,nn,p5,tY,BU,iX,t1,bD,axN,rfl,lh,ay⟩
  have b6:bp X h j aP be:=⟨Zo,Fg.ad⟩
  cases m with
  |zero=>
   have fR:=zF Y s.length
   rw[ZR (by omega:s.length<=Y),sH]at ay
   rw[ay]
   refine g0 @JW @GC @BU @nn @fR ⟨?_⟩
   exact⟨rfl,b6⟩
  |succ m=>
   have fR:=zG Y s.length
   have bB:=zJ Y
   obtain⟨c,aA⟩:=zH s Y
   have aH:s.drop Y=c::s.drop (Y+1):=by
    obtain⟨af,B⟩:=Zb.1 aA
    rw[ZA af,B]
   have LS:=al c (Zh aA)
   have di:iV 1 (.ej j 0 s.length 1) (.Z (Y:Int))=some (.ptr j Y):=by rw[DD _ Zo];simp
   have mF:aV X aP (.ptr j Y)=some (.int .u8 (c:Int)):=by rw[bU P8,lE];simp[aA]
   rw[aH,sH]at ay
   rw[ay]
   have ayn:decide ((c:Int)=95)=decide (c=95):=by simp;omega
   have ML:k8 .u8 (.Z 10)=some (.int .u8 10):=rfl
   by_cases pN:iE c=true
   ·have QW:48<=c/\c<=57:=by simpa[iE]using pN
    rw[Zu pN]
    have ky:decide ((c:Int)=95)=false:=by simp;omega
    have bS:decide ((48:Int)<=(c:Int))=true:=by simp;omega
    have ck:decide ((c:Int)<=57)=true:=by simp;omega
    have cM:bg .sub (.int .u8 (c:Int)) (.int .u8 48)=some (.int .u8 ((c-48:Nat):Int)):=abE (e:=48) Zo LS
    have eL:decide ((10:Int)<=((c-48:Nat):Int))=false:=by simp;omega
    by_cases LV:1844674407370955162<=n
    ·rw[Zu LV]
     have eM:decide ((1844674407370955162:Int)<=(n:Int))=true:=by simp;omega
     refine fA @JW @GC @JZ @iX @t1 @fR (Za @di (Za @mF (Za @ky (Za @bS (Za @ck (Za @cM (Za @eL (Za @ML (Za @nn (Za @p5 (Za @eM @tY))))))))))) ⟨?_⟩
     exact⟨rfl,b6⟩
    ·rw[Zg LV]
     have eM:decide ((1844674407370955162:Int)<=(n:Int))=false:=by simp;omega
     have dS:bg .mul (.int .u64 (n:Int)) (.int .u64 10)=some (.int .u64 ((n*10:Nat):Int)):=aqi (e:=10) Zo
     have e1:((c-48:Nat):Int)%18446744073709551616=((c-48:Nat):Int):=YX Zo Zo
     by_cases RA:18446744073709551616<=n*10+(c-48)
     ·rw[Zu RA]
      have fS:bg .add (.int .u64 ((n*10:Nat):Int)) (.int .u64 ((c-48:Nat):Int))=some (.int .u64 ((n*10+(c-48) -18446744073709551616:Nat):Int)):=by
       have aoG:(((n*10:Nat):Int)+((c-48:Nat):Int))%18446744073709551616=((n*10+(c-48) -18446744073709551616:Nat):Int):=Zo
       rw[abC,aoG]
      have gJ:decide (((n*10+(c-48) -18446744073709551616:Nat):Int)<((n*10:Nat):Int))=true:=by simp only[Zi];omega
      refine fA @JW @GC @JZ @iX @t1 @fR (Za @di (Za @mF (Za @ky (Za @bS (Za @ck (Za @cM (Za @eL (Za @ML (Za @nn (Za @p5 (Za @eM (Za @WL (Za @dS (Za @e1 (Za @fS (Za @gJ @tY)))))))))))))))) ⟨?_⟩
      exact⟨rfl,b6⟩
     ·have FF:=ay
      rw[Zu pN,Zg LV,Zg RA]at FF
      rw[Zg RA]
      have fS:bg .add (.int .u64 ((n*10:Nat):Int)) (.int .u64 ((c-48:Nat):Int))=some (.int .u64 ((n*10+(c-48):Nat):Int)):=aqh Zo
      have gJ:decide (((n*10+(c-48):Nat):Int)<((n*10:Nat):Int))=false:=by simp only[Ze];omega
      have uU:decide ((18446744073709551615:Int)<((n*10+(c-48):Nat):Int))=false:=by simp only[Ze];omega
      refine fA @JW @GC @JZ @iX @t1 @fR (Za @di (Za @mF (Za @ky (Za @bS (Za @ck (Za @cM (Za @eL (Za @ML (Za @nn (Za @p5 (Za @eM (Za @WL (Za @dS (Za @e1 (Za @fS (Za @gJ (Za @uU (Za @tY @bB)))))))))))))))))) ⟨?_⟩
      exact⟨m,Zo,Y+1,n*10+(c-48),bz JZ,bz GC,bF,bF,bz p5,bz tY,bz BU,bz iX,bz t1,Zo,Zo,rfl,Zo,by first|exact FF|rw[FF]|rfl⟩
   ·have QW:¬(48<=c/\c<=57):=by simpa[iE]using pN
    rw[Zg pN]
    have ae7:qF c<256:=zs _ Zo
    have cF:decide ((97:Int)<=(qF c:Int))=decide (97<=qF c):=by simp;omega
    have cH:decide ((qF c:Int)<=122)=decide (qF c<=122):=by simp;omega
    have bS:decide ((48:Int)<=(c:Int))=decide (48<=c):=by simp;omega
    have ck:decide ((c:Int)<=57)=decide (c<=57):=by simp;omega
    have fin:97<=qF c->qF c<=122->∃bo:Nat,bg .sub (.int .u8 (qF c:Int)) (.int .u8 97)=some (.int .u8 ((qF c-97:Nat):Int))/\bg .add (.int .u8 ((qF c-97:Nat):Int)) (.int .u8 10)=some (.int .u8 ((qF c-97+10:Nat):Int))/\decide ((10:Int)<=((qF c-97+10:Nat):Int))=true:=λH K=>
     ⟨0,abE (e:=97) H ae7,aqg (e:=10) Zo,by simp only[Zi];omega⟩
    by_cases awZ:c=95<;>by_cases amH:48<=c<;>by_cases amI:c<=57<;>try omega
    all_goals
     simp only[amH,amI,Yz,Yq]at bS ck
     first|have abS:decide ((c:Int)=95)=true:=by simp only[Zi];omega|have abS:decide ((c:Int)=95)=false:=by simp only[Ze];omega
     refine fA @JW @GC @JZ @iX @t1 @fR (Za @di (Za @mF (Za @abS (Za @bS @ck)))) ⟨?_⟩
     refine(Sy az.todW c).Zm ?_
     rintro ab bf bE ⟨rfl,rfl,rfl⟩
     by_cases h0:97<=qF c
     ·simp only[h0,Yz]at cF
      refine ce @cF ⟨?_⟩
      refine(Sy az.todW c).Zm ?_
      rintro ab bf bE ⟨rfl,rfl,rfl⟩
      by_cases gI:qF c<=122
      ·simp only[gI,Yz]at cH
       refine ce @cH ⟨?_⟩
       refine(Sy az.todW c).Zm ?_
       rintro ab bf bE ⟨rfl,rfl,rfl⟩
       obtain⟨_,ef,eX,jS⟩:=fin h0 gI
       refine g0 @ef @eX @jS @ML @t1 ⟨?_⟩
       exact⟨rfl,b6⟩
      ·simp only[gI,Yq]at cH
       refine ce @cH ⟨?_⟩
       exact⟨rfl,b6⟩
     ·simp only[h0,Yq]at cF
      refine ce @cF ⟨?_⟩
      exact⟨rfl,b6⟩
end
structure kl(X:cl):Prop where
 auN:∃b,∀h,aV X h (.ptr 5 0)=some (.iface 176 (.ptr b 0))
 seven:∃b,∀h,aV X h (.ptr 6 0)=some (.iface 176 (.ptr b 0))
section
variable{X:cl}{h R aX aP:M ak}{j au aM be fW:Nat}{s:ba}{i:Nat}
def akD:dD X h .eql 115 false (.iface 153 (.Z 2)) (.iface 153 (.Z 2))=some .zT:=Zk
def akC:dD X h .eql 115 false (.iface 153 (.Z 1)) (.iface 153 (.Z 2))=some .zF:=Zk
def akB:dD X h .eql 115 false (.iface 153 (.Z 1)) (.iface 153 (.Z 1))=some .zT:=Zk
def Gg(q:Int):dD X h .neq 115 true (.iface 153 (.Z q)) .nilIface=some .zT:=Zk
def DU:dD X h .neq 115 true .nilIface .nilIface=some .zF:=Zk
def acO(b:Nat):dD X h .neq 115 true (.iface 155 (.ptr b 0)) .nilIface=some .zT:=Zk
def avv(az:f5 X)(bP:kl X)(f:ba)(aE:s.length<=65536)(pI:∀c∈s,c<256)(aI:(o X).aY<=j):
 a1 X 102 [.str f, .str s] h j (λab R au=>(∃b,ab= .ptr b 0)/\bp X h j R au) (λ_ _ _=>False):=by
 refine zL az.todW (afa X) ?_
 rw[afb]
 unfold T8
 obtain⟨b,al⟩:=bP.auN
 refine ce @al ⟨?_⟩
 refine Cx (az.clone s pI aE) ?_
 refine ce @al ⟨?_⟩
 refine j0 (by simp[y.same]) ?_
 exact⟨⟨_,rfl⟩,dM⟩
def atN(az:f5 X)(bP:kl X)(f:ba)(aE:s.length<=65536)(pI:∀c∈s,c<256)(aI:(o X).aY<=j):
 a1 X 103 [.str f, .str s] h j (λab R au=>(∃b,ab= .ptr b 0)/\bp X h j R au) (λ_ _ _=>False):=by
 refine zL az.todW (afc X) ?_
 rw[afd]
 unfold T9
 obtain⟨b,al⟩:=bP.seven
 refine ce @al ⟨?_⟩
 refine Cx (az.clone s pI aE) ?_
 refine ce @al ⟨?_⟩
 refine j0 (by simp[y.same]) ?_
 exact⟨⟨_,rfl⟩,dM⟩
def Lk(az:f5 X)(bP:kl X)(f:ba)(x e:y)(aE:s.length<=65536)(pI:∀c∈s,c<256)(aI:(o X).aY<=j){q:Nat}(aG:q=1\/q=2):
 a1 X 82 [.str f, .str s,x,e,vC q] h j (λab R au=>(∃b,ab= .iface 155 (.ptr b 0))/\bp X h j R au) (λ_ _ _=>False):=by
 refine zL az.todW (ahB X) ?_
 rw[ahC]
 unfold Vv
 rcases aG with rfl|rfl
 ·have bB:vC 1= .iface 153 (.Z 1):=rfl
  rw[bB]
  refine dq @akC @akB ⟨?_⟩
  refine(atN az bP f aE pI aI).Zm ?_
  rintro ab bf bE ⟨⟨b,rfl⟩,cq⟩
  refine c7 ⟨?_⟩
  exact⟨⟨_,rfl⟩,cq⟩
 ·have bB:vC 2= .iface 153 (.Z 2):=rfl
  rw[bB]
  refine ce @akD ⟨?_⟩
  refine(avv az bP f aE pI aI).Zm ?_
  rintro ab bf bE ⟨⟨b,rfl⟩,cq⟩
  refine c7 ⟨?_⟩
  exact⟨⟨_,rfl⟩,cq⟩
def atC:∀(k:ba) (n:Nat),(sH k n).2=0\/(sH k n).2=1\/(sH k n).2=2:=by
 intro k
 induction k with
 |nil=>intro n;exact .inl rfl
 |cons c k aj=>
  intro n
  rw[sH]
  split
  ·split
   ·exact .inr (.inl rfl)
   ·split
    ·exact .inr (.inl rfl)
    ·exact aj _
  ·exact .inr (.inr rfl)
def ady(k:ba):(kF k).2=0\/(kF k).2=1\/(kF k).2=2:=by
 unfold kF;split
 ·exact .inr (.inr rfl)
 ·exact atC _ _
def atf(az:f5 X)(bP:kl X)(aE:s.length<=65536)(al:∀c∈s,c<256)(aI:(o X).aY<=j):
 a1 X 54 [.str s, .Z 10, .Z 64] h j (λab R au=>(∃D,ab= .tuple [.int .u64 ((kF s).1:Int),D]/\((kF s).2=0/\D= .nilIface\/(kF s).2≠0/\∃b,D= .iface 155 (.ptr b 0)))/\bp X h j R au) (λ_ _ _=>False):=by
 refine zL az.todW (agR X) ?_
 rw[agS]
 unfold UZ
 refine(aey az aE al aI (.inr rfl)).Zm ?_
 rintro ab bf bE ⟨rfl,cq⟩
 have jE:=cq.le
 rcases ady s with a|a|a
 ·rw[a]
  have bB:vC 0= .nilIface:=rfl
  rw[bB]
  refine ce @DU ⟨?_⟩
  exact⟨⟨_,rfl, .inl ⟨rfl,rfl⟩⟩,cq⟩
 ·rw[a]
  have bB:vC 1= .iface 153 (.Z 1):=rfl
  rw[bB]
  refine ce @Gg ⟨?_⟩
  refine(Lk (j:=bE) (h:=bf) az bP [80,97,114,115,101,85,105,110,116] (.Z 10) (.Z 64) aE al (ZB aI jE) (q:=1) Zd).Zm ?_
  rintro ab bT b3 ⟨⟨b,rfl⟩,dA⟩
  refine c7 ⟨?_⟩
  exact⟨⟨_,rfl, .inr ⟨Zd,b,rfl⟩⟩,cq.trans dA⟩
 ·rw[a]
  have bB:vC 2= .iface 153 (.Z 2):=rfl
  rw[bB]
  refine ce @Gg ⟨?_⟩
  refine(Lk (j:=bE) (h:=bf) az bP [80,97,114,115,101,85,105,110,116] (.Z 10) (.Z 64) aE al (ZB aI jE) (q:=2) Zd).Zm ?_
  rintro ab bT b3 ⟨⟨b,rfl⟩,dA⟩
  refine c7 ⟨?_⟩
  exact⟨⟨_,rfl, .inr ⟨Zd,b,rfl⟩⟩,cq.trans dA⟩
end
def T1(D:y):Prop:=D= .nilIface\/D= .iface 153 (.Z 1)\/D= .iface 153 (.Z 2)
def Ck(s:ba):Prop:=∀c∈s,c≠43/\c≠45
def wH(s:ba):Nat:=s.foldl (λn c=>n*10+(c-48)) 0
def atD:∀(k:ba) (n:Nat),n<18446744073709551616->(sH k n).1<18446744073709551616:=by
 intro k
 induction k with
 |nil=>intro n a;exact a
 |cons c k aj=>
  intro n a
  rw[sH]
  split
  ·split
   ·show 18446744073709551615<_;omega
   ·split
    ·show 18446744073709551615<_;omega
    ·exact aj _ Zo
  ·show 0<_;omega
def adz(k:ba):(kF k).1<18446744073709551616:=by
 unfold kF;split
 ·show 0<_;omega
 ·exact atD _ _ Zo
section
variable{X:cl}{h R aX aP:M ak}{j au aM be fW:Nat}{s:ba}{i:Nat}
def acP:dD X h .neq 115 false (.iface 153 (.Z 1)) (.iface 153 (.Z 1))=some .zF:=Zk
def acQ:dD X h .neq 115 false (.iface 153 (.Z 2)) (.iface 153 (.Z 1))=some .zT:=Zk
def abI(az:f5 X)(aE:s.length<=65536)(al:∀c∈s,c<256)(xR:Ck s)(aI:(o X).aY<=j):
 a1 X 116 [.str s, .Z 10, .Z 0] h j (λab R au=>(∃bo D,ab= .tuple [.Z bo,D]/\T1 D)/\bp X h j R au) (λ_ _ _=>False):=by
 refine zL az.todW (afw X) ?_
 rw[afx]
 unfold Ui
 by_cases bi:s=[]
 ·subst bi
  have d:decide (([]:List Nat)=[])=true:=rfl
  refine ce @d ⟨?_⟩
  exact⟨⟨_,_,rfl, .inr (.inr rfl)⟩,bp.refl _ _⟩
 have d:decide (s=[])=false:=by simp[bi]
 obtain⟨c,fc,rfl⟩:∃c fc,s=c::fc:=by cases s with
  |nil=>exact absurd rfl bi
  |cons c fc=>exact⟨c,fc,rfl⟩
 have di:nI (.str (c::fc)) (.Z 0)=some (.int .u8 (c:Int)):=A1 (i:=0) .i64 rfl
 have aA:=xR c (Zt ..)
 have bS:decide ((c:Int)=43)=false:=by simp only[Ze];omega
 have ck:decide ((c:Int)=45)=false:=by simp only[Ze];omega
 refine g6 @d @di @bS @ck ⟨?_⟩
 refine(aey az aE al aI (.inl rfl)).Zm ?_
 rintro ab bf bE ⟨rfl,cq⟩
 have jE:=cq.le
 generalize ay:kF (c::fc)=p
 have Dm:=ady (c::fc)
 have so:=adz (c::fc)
 rw[ay]at Dm so
 obtain⟨J3,Lh⟩:=p
 simp only[]at Dm so ⊢
 have kq:decide ((0:Int)=0)=true:=rfl
 have kH:bg .sub (.Z 64) (.Z 1)=some (.Z 63):=rfl
 have lF:(63:Int)%18446744073709551616=63:=rfl
 have Gw:bg .shl (.int .u64 1) (.int .u64 63)=some (.int .u64 9223372036854775808):=rfl
 have aur:bg .sub (.int .u64 9223372036854775808) (.int .u64 1)=some (.int .u64 9223372036854775807):=rfl
 have aus:k8 .i64 (.int .u64 9223372036854775807)=some (.Z 9223372036854775807):=rfl
 rcases Dm with rfl|rfl|rfl
 all_goals
  simp only[show vC 0= .nilIface from rfl,show vC 1= .iface 153 (.Z 1) from rfl,show vC 2= .iface 153 (.Z 2) from rfl]
  by_cases LV:9223372036854775808<=J3
  ·have cB:decide ((9223372036854775808:Int)<=(J3:Int))=true:=by simp only[Zi];omega
   refine fA @DU @Gg @acP @acQ @kq @kH (Za @lF (Za @Gw (Za @cB (Za @aur @aus)))) ⟨?_⟩
   exact⟨⟨_,_,rfl,by first|exact .inl rfl|exact .inr (.inl rfl)|exact .inr (.inr rfl)⟩,cq⟩
  ·have cB:decide ((9223372036854775808:Int)<=(J3:Int))=false:=by simp only[Ze];omega
   have aut:k8 .i64 (.int .u64 (J3:Int))=some (.Z (J3:Int)):=EU Zo Zo
   refine fA @DU @Gg @acP @acQ @kq @kH (Za @lF (Za @Gw (Za @cB @aut))) ⟨?_⟩
   exact⟨⟨_,_,rfl,by first|exact .inl rfl|exact .inr (.inl rfl)|exact .inr (.inr rfl)⟩,cq⟩
end
end
end Go.Proofs.YtbbkkkpgjaopkaaGreatDoor

