/- Part of the proof of the last text; no conditions -/
import Derived.Test.YtendhgofocgngaaGreatDoorYm
set_option maxHeartbeats 8000000
set_option linter.all false
namespace Go.Proofs.YtendhgofocgngaaGreatDoor
open Go.bn
noncomputable section
variable (X : co) (h : S ai) (j : Nat) (aj au : bR) (a0 bd ca a3 a4 a5 h2 ih hk : z)
def Wo(a:aK)(b:z)(c:S ai)(d:Nat)(e f:bR):Prop:=
 Fa d a c λc d g=>ar (eT b) λh=>ar (bm .gtr h (.Z 65536)) λh=>bA (λb c d=>eO b λg=>ar (AM a c g) λg=>ar (fv [.str [], .Z 0] [(0,1,g)]) λg=>kd a c d g λc d g=>ba a 29 [c] d g (λ_ d g=>bA (λb c d=>fR b 5 4 λf g=>gs g 1 a c λ_ g=>PI 7 2 g λg=>PF g d a c f λc d f=>ar (fv [.Z 0, .Z 0] []) λg=>n0 b 3 a d 2 g λa b=>e (.tuple [c,b]) a f) λh=>fJ (λb c d g=>fs (g+10) λg=>kp c λi=>gs i 1 a d λ_ i=>kp c λj=>gs j 0 a d λ_ j=>ar (mI j) λj=>ar (bm .lss i j) λi=>bA (λc d g=>bA (λc d e=>kp c λg=>ba a 29 [g] d e (λ_ a d=>b c a d) f) λb=>kp c λh=>fs (g+10) λg=>kp c λi=>gs i 0 a d λ_ i=>kp c λj=>gs j 1 a d λ_ j=>ar (nQ i j) λi=>bA (λc d g=>cl (c 6) λh=>ot a h [] d g (λd f g=>s2 d g a f λd f g h=>ar (hb .not d) λi=>bA (λc d e=>kp c λf=>gs f 1 a d λ_ f=>cl (c 8) λg=>rQ 2 g a d f λd=>fs (e+11) λe=>kp c λf=>gs f 1 a d λ_ g=>kc c 8 1 a d λ_ h=>ar (mI h) λh=>ar (bm .add g h) λg=>rR f 1 a d g λd=>fR c 5 8 λf g=>ar (ep a d 7 g) λg=>PF g e a d f λa d e=>b (ab c 5 a) d e) λb=>bb i (fs (g+7) λb=>kp c λd=>gs d 1 a h λ_ d=>ar (fv [.Z 0, .Z 0] [(0,1, .Z 20),(1,1,d)]) λd=>n0 c 3 a h 2 d λa c=>e (.tuple [.a2,c]) a b) (b (zL c 8 f 9 d 59 i) h g)) f) λb=>ba a 31 [i] d g (λd e g=>bA b λb=>bb d (kp c λa=>b (zM c 6 (.func (.func 30) [h] []) 7 i 43 d 6 (.func (.func 32) [a] [])) e g) (ba a 33 [i] e g (λa e f=>bA b λb=>bb a (kp c λg=>b (ab (zM c 6 (.func (.func 30) [h] []) 7 i 43 d 48 a) 6 (.func (.func 34) [g] [])) e f) (b (zM c 6 (.func (.func 30) [h] []) 7 i 43 d 48 a) e f)) f)) f) λa=>bb i (a (ab c 29 i) d g) (h (ab c 29 i) d g)) (zK b 4 c 5 .a2) d g) f) λf=>bb h (ar (fv [.Z 0, .Z 0] [(0,1, .Z 3)]) λb=>xl a d 2 c b λa b=>e (.tuple [.a2,b]) a g) (f (zL (c0 [b]) 2 .a2 3 c 12 h) d g)
def aiB:dm X 16 [a0] h j aj au=Wo X a0 h j aj au:=Zk
def aiA:c4 X 16 1=true:=Zk
def WB(a:aK)(b:z)(c:S ai)(d:Nat)(e f:bR):Prop:=
 bA (λ_ a b=>e (.tuple []) a b) λg=>fJ (λb c d h=>fs (h+10) λh=>jq c 1 a d λ_ _ i=>jq c 0 a d λ_ _ j=>ar (mI j) λj=>ar (bm .lss i j) λi=>bA (λc d g=>bA b λb=>bA b λb=>fs (g+12) λg=>jq c 0 a d λ_ _ h=>jq c 1 a d λ_ _ i=>ar (nQ h i) λh=>ba a 50 [.str [32,9,10,13],h] d g (λd g h=>Fe d λd=>bA b λb=>bb d (Lo c a g λa=>b (ab c 12 d) a h) (fs (h+11) λh=>jq c 0 a g λ_ _ i=>jq c 1 a g λ_ _ j=>ar (mQ i (some j) none) λi=>ba a 51 [i, .str [45,45]] g h (λg h i=>bA b λb=>bb g (fs (i+15) λe=>jq c 1 a h λi j k=>fR c 0 0 λl m=>gs m 1 a h λ_ m=>ba a 52 [l,m, .func (.func 53) [] []] h e (λe f h=>ar (mI e) λe=>ar (bm .add k e) λe=>l5 i 1 λi=>ar (aV a f j) λj=>iB j (some k) (nt a f i e λa=>b (zK c 12 d 31 g) a h)) f) (e (.tuple []) h i)) f)) f) λa=>bb i (a (ab c 11 i) d h) (g (ab c 11 i) d h)) (c0 [b]) c d
def aiX:dm X 29 [a0] h j aj au=WB X a0 h j aj au:=Zk
def aiW:c4 X 29 1=true:=Zk
def WD(a:aK)(b:z)(c:S ai)(d:Nat)(e f:bR):Prop:=
 xk d a c λc d g=>ar (ep a d 17 (.ptr 0 0)) λh=>bA (λb c d=>PJ λf=>n0 b 2 a c 7 f λa b=>e (.tuple [b, .zF]) a d) λi=>fJ (λb c d g=>cl (c 7) λh=>ar (bm .lss h (.Z 17)) λh=>bA (λc d g=>ie (λa c d=>g2 a 7 λe=>b (ab a 7 e) c d) c 6 7 λb h i=>ar (yD false 17 1 h i) λh=>fs (g+11) λg=>jq c 0 a d λ_ _ i=>jq c 1 a d λ_ _ j=>ar (mQ i (some j) none) λi=>ba a 51 [i,h] d g (λd f g=>bA b λb=>bb d (PI 6 1 h λb=>n0 c 2 a f 7 b λa b=>e (.tuple [b, .zT]) a g) (b (zK c 5 h 20 d) f g)) f) λa=>bb h (a (ab c 8 h) d g) (i (ab c 8 h) d g)) (zM (c0 [b]) 2 c 3 .zF 6 h 7 (.Z 0)) d g
def aiZ:dm X 30 [a0] h j aj au=WD X a0 h j aj au:=Zk
def aiY:c4 X 30 1=true:=Zk
def WE(_:aK)(a:z)(b:S ai)(c:Nat)(d _:bR):Prop:=
 ar (bm .geq a (.int .u8 48)) λe=>j6 e a b c λa b c=>eH e (bm .leq a (.int .u8 57)) b c λa b c=>c5 (λa=>d a b c) λb=>bb e (b a) (b .zF)
def ai1:dm X 31 [a0] h j aj au=WE X a0 h j aj au:=Zk
def ai0:c4 X 31 1=true:=Zk
def WF(a:aK)(b:z)(c:S ai)(d:Nat)(e f:bR):Prop:=
 xk d a c λc d g=>gs b 1 a d λ_ h=>ba a 52 [b,h, .func (.func 31) [] []] d g (λd g h=>ba a 54 [d, .Z 10, .Z 64] g h (λg h i=>jR g λg j=>ar (dv a h .neq 119 true j .nilIface) λk=>gW k d h i λh i l=>fa k (mI h) i l λh i l=>fa k (bm .gtr h (.Z 20)) i l λh i l=>c5 (λh=>bA (λb c d=>fR b 0 0 λg h=>gs h 1 a c λ_ h=>kp b λi=>ar (mI i) λi=>ar (bm .add h i) λh=>ba a 52 [g,h, .func (.func 55) [] []] c d (λc d g=>ar (dv a d .eql 9 true c (.str [])) λh=>bA (λb c d=>cl (b 7) λg=>ba a 56 [g] c d (λc d g=>jR c λc h=>Ln g a d λd g i=>ar (eI a g 3 d c) λc=>fs (i+19) λg=>fR b 4 7 λi j=>ar (dv a c .add 9 false i j) λk=>cl (b 5) λl=>ar (ep a c 3 d) λm=>ar (fv [.Z 0, .str [], .Z 0, .int .u64 0, .zF, .zF, .Z 0] [(0,1, .Z 5),(1,1,k),(3,1,l),(4,3,m)]) λl=>lw h (iq 0 d) c λc n=>lw h (aV a n c) n λc n=>lw h (hb .not c) n λc n=>c5 (λc=>lw c (ep a n 3 d) n λh n=>aeg c (b 5) n λn o=>md c (λb=>ba a 57 [h,n] o g b f) o g λf g h=>c5 (λc=>ar (dv a g .add 9 false i j) λf=>iB f (some k) (ar (ep a g 3 d) λd=>iB d (some m) (n0 b 2 a g 7 l λa b=>e (.tuple [b,c]) a h))) λa=>bb c (a f) (a .zF)) λa=>bb h (a c) (a .zF)) f) λf=>bb h (fR b 4 5 λc f=>ar (fv [.Z 0, .str [], .Z 0, .int .u64 0, .zF, .zF, .Z 0] [(0,1, .Z 4),(1,1,c),(3,1,f)]) λc=>n0 b 2 a d 7 c λa b=>e (.tuple [b, .zT]) a g) (f (zK b 7 c 39 h) d g)) f) λf=>bb h (PJ λb=>xl a i 7 c b λa b=>e (.tuple [b, .zF]) a l) (f (zK (zM (c0 [b]) 2 c 3 .zF 4 d 5 g) 6 j 27 h) i l)) λa=>bb k (a .zT) (a h)) f) f
def ai3:dm X 32 [a0] h j aj au=WF X a0 h j aj au:=Zk
def ai2:c4 X 32 1=true:=Zk
def WG(_:aK)(a:z)(b:S ai)(c:Nat)(d _:bR):Prop:=
 ar (bm .geq a (.int .u8 97)) λe=>j6 e a b c λb c f=>eH e (bm .leq b (.int .u8 122)) c f λb c f=>c5 (λb=>gW b a c f λc e f=>fa b (bm .geq c (.int .u8 65)) e f λc e f=>gW b c e f λc e f=>j6 c a e f λe f g=>eH c (bm .leq e (.int .u8 90)) f g λe f g=>lc b (λa=>c5 (λb=>a b f g) λa=>bb c (a e) (a .zF)) f g λc e f=>c5 (λb=>gW b a e f λa c e=>fa b (bm .eql a (.int .u8 95)) c e λa c e=>c5 (λa=>d a c e) λc=>bb b (c .zT) (c a)) λa=>bb b (a .zT) (a c)) λa=>bb e (a b) (a .zF)
def ai5:dm X 33 [a0] h j aj au=WG X a0 h j aj au:=Zk
def ai4:c4 X 33 1=true:=Zk
def WH(a:aK)(b:z)(c:S ai)(d:Nat)(e f:bR):Prop:=
 xk d a c λc d g=>gs b 1 a d λ_ h=>ba a 52 [b,h, .func (.func 55) [] []] d g (λd g h=>PI 1 1 d λi=>vD h a g i λg h i=>ba a 56 [d] i h (λh i j=>jR h λh k=>Ln j a i λi j l=>ar (eI a j 3 i h) λh=>bA (λb c d=>rP b 5 a c 7 λf=>kp b λg=>ar (mI g) λg=>ar (bm .leq g (.Z 32)) λg=>n0 b 2 a c 7 f λa b=>e (.tuple [b,g]) a d) λe=>bb k (fs (l+5) λf=>ar (ep a h 3 i) λj=>ar (iq 0 g) λl=>rO a h l 3 λh=>ar (iq 4 g) λl=>ar (ep a h 3 i) λm=>iB m (some j) (ar (eI a h 3 l j) λa=>e (zL (zM (c0 [b]) 2 c 3 .zF 4 d 5 g) 6 i 7 k 21 k) a f)) (ba a 58 [d] h l (λf h j=>bA e λe=>bb f (ar (iq 0 g) λl=>rO a h l 2 λa=>e (zM (zM (c0 [b]) 2 c 3 .zF 4 d 5 g) 6 i 7 k 21 k 26 f) a j) (e (zM (zM (c0 [b]) 2 c 3 .zF 4 d 5 g) 6 i 7 k 21 k 26 f) h j)) f)) f) f
def ai7:dm X 34 [a0] h j aj au=WH X a0 h j aj au:=Zk
def ai6:c4 X 34 1=true:=Zk
def WV(a:aK)(b c:z)(d:S ai)(e:Nat)(f g:bR):Prop:=
 ba a 89 [b,c] d e f g
def ajB:dm X 50 [a0,bd] h j aj au=WV X a0 bd h j aj au:=Zk
def ajA:c4 X 50 2=true:=Zk
def WW(a:aK)(b c:z)(d:S ai)(e:Nat)(f g:bR):Prop:=
 ba a 90 [b,c] d e f g
def ajD:dm X 51 [a0,bd] h j aj au=WW X a0 bd h j aj au:=Zk
def ajC:c4 X 51 2=true:=Zk
def WX(a:aK)(b c d:z)(e:S ai)(f:Nat)(g h:bR):Prop:=
 bA (λb c d=>jq b 0 a c λ_ _ a=>fR b 1 7 λb e=>ar (mQ a (some b) (some e)) λa=>g a c d) λg=>fJ (λb c d e=>fR c 7 0 λf i=>gs i 0 a d λ_ i=>ar (mI i) λi=>ar (bm .lss f i) λf=>ou f (c 2) d e λd e i=>ou f (c 0) e i λe i j=>Cg f e i j 0 a λe i j=>ou f (c 7) i j λi j k=>eH f (nQ e i) j k λe i j=>md f (λb=>ot a d [e] i j b h) i j λa d e=>c5 (λa=>bA (λa c d=>bA b λb=>g2 a 7 λe=>b (ab a 7 e) c d) λb=>bb a (b (ab c 25 a) d e) (g (ab c 25 a) d e)) λb=>bb f (b a) (b .zF)) (zK (c0 [b,c,d]) 6 (.str []) 7 c) e f
def ajF:dm X 52 [a0,bd,ca] h j aj au=WX X a0 bd ca h j aj au:=Zk
def ajE:c4 X 52 3=true:=Zk
def WY(_:aK)(a:z)(b:S ai)(c:Nat)(d _:bR):Prop:=
 ar (bm .neq a (.int .u8 10)) λa=>d a b c
def ajH:dm X 53 [a0] h j aj au=WY X a0 h j aj au:=Zk
def ajG:c4 X 53 1=true:=Zk
def WZ(a:aK)(b c d:z)(e:S ai)(f:Nat)(g h:bR):Prop:=
 ba a 91 [b,c,d] e f (λe f i=>jR e λe j=>ar (dv a f .neq 119 true j .nilIface) λk=>bA (λa b c=>cl (a 8) λa=>g (.tuple [a, .nilIface]) b c) λl=>bb k (ba a 92 [.str [80,97,114,115,101,85,105,110,116],b,c,d,j] f i (λa b c=>g (.tuple [e,a]) b c) h) (l (ab (zM (c0 [b,c,d]) 6 (.int .u64 0) 7 .nilIface 8 e 9 j) 18 k) f i)) h
def ajJ:dm X 54 [a0,bd,ca] h j aj au=WZ X a0 bd ca h j aj au:=Zk
def ajI:c4 X 54 3=true:=Zk
def W0(a:aK)(b:z)(c:S ai)(d:Nat)(e f:bR):Prop:=
 ba a 33 [b] c d (λc d g=>gW c b d g λb d g=>lc c (λc=>ba a 31 [b] d g c f) d g λa b d=>c5 (λa=>e a b d) λb=>bb c (b .zT) (b a)) f
def ajL:dm X 55 [a0] h j aj au=W0 X a0 h j aj au:=Zk
def ajK:c4 X 55 1=true:=Zk
def W1(a:aK)(b:z)(c:S ai)(d:Nat)(e f:bR):Prop:=
 Ln d a c λc d g=>ar (dv a d .eql 9 true b (.str [98,111,111,108])) λh=>bA (λb c d=>eO b λg=>ar (dv a c .eql 9 true g (.str [])) λg=>yF g (b 0) c d λc d h=>fa g (nQ c (.Z 0)) d h λc d h=>fa g (bm .neq c (.int .u8 117)) d h λc d h=>gW g c d h λc d h=>ou c (b 0) d h λd h i=>eH c (nQ d (.Z 0)) h i λd h i=>eH c (bm .neq d (.int .u8 105)) h i λd h i=>lc g (λa=>c5 (λb=>a b h i) λa=>bb c (a d) (a .zF)) h i λc d h=>c5 (λc=>bA (λb c d=>Ad b 1 λg=>ba a 93 [g] c d (λc d g=>jR c λc h=>eO b λi=>Lm i 105 λi=>ar (fv [.zF, .zF, .Z 0] [(1,1,i),(2,1,c)]) λi=>Ln g a d λd g j=>ar (eI a g 3 d i) λg=>ar (dv a g .neq 119 true h .nilIface) λi=>fa i (ep a g 3 d) g j λg j k=>lc i (λb=>ba a 94 [g] j k b f) j k λg j k=>fa i (hb .not g) j k λg j k=>c5 (λg=>fa g (ep a j 3 d) j k λi j k=>lc g (λb=>ba a 95 [i] j k b f) j k λf i j=>yF g (b 0) i j λi j k=>fa g (dv a j .neq 9 false f i) j k λf i j=>c5 (λf=>bA (λb c d=>rP b 6 a c 3 λf=>n0 b 2 a c 3 f λa b=>e (.tuple [b, .zT]) a d) λg=>bb f (ar (fv [.zF, .zF, .Z 0] []) λc=>n0 b 2 a i 3 c λa b=>e (.tuple [b, .zF]) a j) (g (zM b 4 c 5 h 6 d 46 f) i j)) λa=>bb g (a .zT) (a f)) λa=>bb i (a .zT) (a g)) f) λf=>bb c (ar (fv [.zF, .zF, .Z 0] []) λc=>n0 b 2 a d 3 c λa b=>e (.tuple [b, .zF]) a h) (f (ab b 21 c) d h)) λa=>bb g (a .zT) (a c)) λf=>bb h (ar (fv [.zF, .zF, .Z 0] [(0,1, .zT),(2,1, .Z 1)]) λb=>xl a d 3 c b λa b=>e (.tuple [b, .zT]) a g) (f (zL (c0 [b]) 2 c 3 .zF 8 h) d g)
def ajN:dm X 56 [a0] h j aj au=W1 X a0 h j aj au:=Zk
def ajM:c4 X 56 1=true:=Zk
def W2(a:aK)(b c:z)(d:S ai)(e:Nat)(f g:bR):Prop:=
 kd a d e b λd e h=>eM 1 d a e λ_ i=>bA (λb c d=>rP b 2 a c 3 λe=>rS b λb=>ba a 96 [e,b] c d f g) λg=>bb i (eM 2 d a e λ_ j=>Cf j λj=>ar (fv [.zF, .zF, .Z 0] [(2,1,j)]) λj=>ar (eI a e 3 d j) λe=>eM 2 d a e λ_ a=>rN a 0 g λa g=>bb a (ar (bm .eql c (.int .u64 0)) λa=>f a e h) (g (zM (c0 [b,c]) 2 d 4 .zF 6 i 13 a) e h)) (g (zL (c0 [b,c]) 2 d 4 .zF 6 i) e h)
def ajP:dm X 57 [a0,bd] h j aj au=W2 X a0 bd h j aj au:=Zk
def ajO:c4 X 57 2=true:=Zk
def W3(a:aK)(b:z)(c:S ai)(d:Nat)(e _:bR):Prop:=
 ar (aV a c (.ptr 1 0)) λf=>ar (l2 a c 9 .zF f b false) λa=>e a c d
def ajR:dm X 58 [a0] h j aj au=W3 X a0 h j aj au:=Zk
def ajQ:c4 X 58 1=true:=Zk
def Xq(a:aK)(b c:z)(d:S ai)(e:Nat)(f g:bR):Prop:=
 ba a 119 [b,c] d e f g
def akr:dm X 89 [a0,bd] h j aj au=Xq X a0 bd h j aj au:=Zk
def akq:c4 X 89 2=true:=Zk
def Xr(a:aK)(b c:z)(d:S ai)(e:Nat)(f _:bR):Prop:=
 ar (mI b) λg=>ar (mI c) λh=>ar (bm .geq g h) λg=>j6 g b d e λb d e=>j6 g c d e λd e h=>eH g (mI d) e h λd e h=>eH g (mQ b none (some d)) e h λb d e=>j6 g c d e λc d e=>eH g (dv a d .eql 9 false b c) d e λa b c=>c5 (λa=>f a b c) λb=>bb g (b a) (b .zF)
def akv:dm X 90 [a0,bd] h j aj au=Xr X a0 bd h j aj au:=Zk
def aku:c4 X 90 2=true:=Zk
def Xs(a:aK)(b c d:z)(e:S ai)(f:Nat)(g h:bR):Prop:=
 ar (dv a e .eql 9 true b (.str [])) λi=>bA (λb c d=>rS b λe=>HM e λe=>eO b λf=>bA (λb c d=>cl (b 2) λe=>HM e λe=>bA (λb c d=>rS b λe=>bA (λb c d=>PL b 2 λe=>ar (bm .shl (.int .u64 1) e) λe=>ar (bm .sub e (.int .u64 1)) λe=>eO b λf=>iA (O8 a c d f) c d λc d f=>jQ c (λb c d=>cl (b 12) λe=>ou e (b 9) c d λc d f=>md e (λb=>ba a 121 [c] d f b h) d f λa c d=>eH e (hb .not a) c d λa c d=>c5 (λa=>bA (λa b c=>cl (a 13) λa=>g (.tuple [a, .nilIface]) b c) λe=>bb a (oL 2 λa=>g (.tuple [.int .u64 0,a]) c d) (e (ab b 169 a) c d)) λb=>bb e (b a) (b .zF)) λi j=>fJ (λb c d e=>iF c 101 100 λf=>bA (λc d e=>ie (λa c d=>g2 a 101 λe=>b (ab a 101 e) c d) c 99 101 λb f i=>kb f i a d λf=>bA (λa c d=>fR a 16 1 λe f=>ar (mw .u8 f) λf=>ar (bm .geq e f) λe=>bA (λa c d=>fR a 13 10 λe f=>ar (bm .geq e f) λe=>bA (λa c d=>fR a 13 1 λe f=>ar (mw .u64 f) λf=>ar (bm .mul e f) λe=>PL a 16 λf=>ar (bm .add e f) λf=>ar (bm .lss f e) λh=>gW h f c d λc d i=>yF h (a 11) d i λd i j=>fa h (bm .gtr c d) i j λc d i=>c5 (λc=>bA (λa c d=>cl (a 17) λe=>b (ab a 13 e) c d) λb=>bb c (cl (a 11) λa=>oL 1 λb=>g (.tuple [a,b]) d i) (b (zL a 13 e 17 f 159 c) d i)) λa=>bb h (a .zT) (a c)) λb=>bb e (cl (a 11) λa=>oL 1 λb=>g (.tuple [a,b]) c d) (b (ab a 141 e) c d)) λb=>bb e (oL 2 λa=>g (.tuple [.int .u64 0,a]) c d) (b (ab a 137 e) c d)) λi=>ar (bm .eql f (.int .u8 95)) λj=>ou j (c 8) d e λd e k=>c5 (λd=>bA i λi=>bb d (b (zM c 15 f 16 (.int .u8 0) 106 d 12 .zT) e k) (ar (bm .leq (.int .u8 48) f) λb=>j6 b f e k λe j k=>eH b (bm .leq e (.int .u8 57)) j k λe j k=>c5 (λb=>bA i λe=>bb b (ar (bm .sub f (.int .u8 48)) λa=>e (ab (zM c 15 f 16 (.int .u8 0) 106 d 112 b) 16 a) j k) (ba a 120 [f] j k (λi j k=>ar (bm .leq (.int .u8 97) i) λi=>j6 i f j k λj k l=>md i (λb=>ba a 120 [j] k l b h) k l λj k l=>eH i (bm .leq j (.int .u8 122)) k l λj k l=>c5 (λi=>bA e λe=>bb i (ba a 120 [f] k l (λa g h=>ar (bm .sub a (.int .u8 97)) λa=>ar (bm .add a (.int .u8 10)) λa=>e (zK (zM c 15 f 16 (.int .u8 0) 106 d 112 b) 121 i 16 a) g h) h) (oL 2 λa=>g (.tuple [.int .u64 0,a]) k l)) λa=>bb i (a j) (a .zF)) h)) λa=>bb b (a e) (a .zF))) λa=>bb j (a d) (a .zF)) λa=>bb f (a (ab c 102 f) d e) (j (ab c 102 f) d e)) (zK (zM b 11 e 12 .zF 13 (.int .u64 0) 99 c) 100 i 101 (.Z 0)) d f) λa=>rN e 10 a λa f=>bb a (f (zM b 10 (.int .u64 0) 85 e 90 a 10 (.int .u64 1844674407370955162)) c d) (rN e 16 f λf g=>bb f (g (ab (zM b 10 (.int .u64 0) 85 e 90 a 92 f) 10 (.int .u64 1152921504606846976)) c d) (PL b 1 λh=>ar (bm .quo (.int .u64 18446744073709551615) h) λh=>ar (bm .add h (.int .u64 1)) λh=>g (ab (zM b 10 (.int .u64 0) 85 e 90 a 92 f) 10 h) c d))) λa=>bb e (a (zK b 77 e 2 (.Z 64)) c d) (cl (b 2) λf=>Fc f λf=>yF f (b 2) c d λc d h=>fa f (bm .gtr c (.Z 64)) d h λc d h=>c5 (λc=>bA a λa=>bb c (oL 4 λa=>g (.tuple [.int .u64 0,a]) d h) (a (zK b 77 e 83 c) d h)) λa=>bb f (a .zT) (a c))) λi=>rS b λj=>ar (bm .leq (.Z 2) j) λj=>ou j (b 1) c d λc d k=>eH j (bm .leq c (.Z 36)) d k λc d k=>c5 (λc=>bA i λi=>bb c (i (zL b 8 e 9 f 25 c) d k) (rS b λj=>rN j 0 i λi j=>bb i (eO b λg=>Lm g 48 λg=>bA j λj=>bb g (bA j λj=>PH b d k λd k l m=>md d (λb=>ba a 120 [k] l m b h) l m λk l m=>eH d (bm .eql k (.int .u8 98)) l m λk l m=>c5 (λd=>bA j λj=>bb d (Ad b 2 λa=>j (ab (zM (zM b 8 e 9 f 25 c 32 i) 1 (.Z 10) 37 g 40 d 1 (.Z 2)) 0 a) l m) (PH b l m λk l m n=>md k (λb=>ba a 120 [l] m n b h) m n λl m n=>eH k (bm .eql l (.int .u8 111)) m n λl m n=>c5 (λk=>bA j λj=>bb k (Ad b 2 λa=>j (zK (zM (zM b 8 e 9 f 25 c 32 i) 1 (.Z 10) 37 g 40 d 52 k) 1 (.Z 8) 0 a) m n) (PH b m n λl m n o=>md l (λb=>ba a 120 [m] n o b h) n o λa h m=>eH l (bm .eql a (.int .u8 120)) h m λa h m=>c5 (λa=>bA j λj=>bb a (Ad b 2 λl=>j (zL (zM (zM b 8 e 9 f 25 c 32 i) 1 (.Z 10) 37 g 40 d 52 k) 64 a 1 (.Z 16) 0 l) h m) (Ad b 1 λl=>j (zL (zM (zM b 8 e 9 f 25 c 32 i) 1 (.Z 10) 37 g 40 d 52 k) 64 a 1 (.Z 8) 0 l) h m)) λb=>bb l (b a) (b .zF))) λa=>bb k (a l) (a .zF))) λa=>bb d (a k) (a .zF)) (j (zK (zM b 8 e 9 f 25 c 32 i) 1 (.Z 10) 37 g) d k)) (oL 3 λa=>g (.tuple [.int .u64 0,a]) d k))) λa=>bb j (a c) (a .zF)) λa=>bb i (oL 2 λa=>g (.tuple [.int .u64 0,a]) e f) (a (zL (c0 [b,c,d]) 6 (.int .u64 0) 7 .nilIface 19 i) e f)
def akx:dm X 91 [a0,bd,ca] h j aj au=Xs X a0 bd ca h j aj au:=Zk
def akw:c4 X 91 3=true:=Zk
def Xt(a:aK)(b c d e f:z)(g:S ai)(h:Nat)(i j:bR):Prop:=
 bA (λa b c=>kp a λa=>i a b c) λk=>oL 2 λl=>ar (dv a g .eql 119 false f l) λl=>bA k λk=>bb l (ba a 122 [b,c] g h (λa b c=>ar (some (z.iface 187 a)) λa=>i a b c) j) (oL 1 λm=>ar (dv a g .eql 119 false f m) λm=>bA k λk=>bb m (ba a 123 [b,c] g h (λa b c=>ar (some (z.iface 187 a)) λa=>i a b c) j) (oL 3 λn=>ar (dv a g .eql 119 false f n) λn=>bA k λk=>bb n (ba a 124 [b,c,d] g h (λa b c=>ar (some (z.iface 187 a)) λa=>i a b c) j) (oL 4 λo=>ar (dv a g .eql 119 false f o) λo=>bA k λk=>bb o (ba a 125 [b,c,e] g h (λa b c=>ar (some (z.iface 187 a)) λa=>i a b c) j) (k (zK (zM (c0 [b,c,d,e,f]) 10 .nilIface 11 f 12 l 19 m) 26 n 34 o) g h))))
def akz:dm X 92 [a0,bd,ca,a3,a4] h j aj au=Xt X a0 bd ca a3 a4 h j aj au:=Zk
def aky:c4 X 92 5=true:=Zk
def Xu(a:aK)(b:z)(c:S ai)(d:Nat)(e f:bR):Prop:=
 ba a 126 [b] c d (λc d g=>jR c λc h=>ar (dv a d .neq 119 true h .nilIface) λi=>bA (λa b c=>kp a λa=>e (.tuple [a, .nilIface]) b c) λj=>bb i (ba a 92 [.str [65,116,111,105],b, .Z 0, .Z 0,h] d g (λa b d=>e (.tuple [c,a]) b d) f) (j (ab (zM (c0 [b]) 2 (.Z 0) 3 .nilIface 4 c 5 h) 12 i) d g)) f
def akB:dm X 93 [a0] h j aj au=Xu X a0 h j aj au:=Zk
def akA:c4 X 93 1=true:=Zk
def Xw(a:aK)(b:z)(c:S ai)(d:Nat)(e f:bR):Prop:=
 kd a c d b λc d g=>bA (λb c d=>kc b 1 2 a c λ_ b=>ba a 127 [b] c d (λb c d=>ar (dv a c .add 9 true (.str [117]) b) λa=>e a c d) f) λh=>xm a d 3 c 94 g f λd g i=>xn d h λd h=>bb d (e (.str []) g i) (eM 0 c a g λ_ j=>bA h λh=>bb j (e (.str [98,111,111,108]) g i) (eM 1 c a g λ_ k=>bA h λh=>bb k (eM 2 c a g λ_ b=>ba a 127 [b] g i (λb c d=>ar (dv a c .add 9 true (.str [105]) b) λa=>e a c d) f) (h (ab (zM (c0 [b]) 1 c 2 (.str []) 3 d 7 j) 10 k) g i)))
def akF:dm X 95 [a0] h j aj au=Xw X a0 h j aj au:=Zk
def akE:c4 X 95 1=true:=Zk
def Xx(a:aK)(b c:z)(d:S ai)(e:Nat)(f g:bR):Prop:=
 kd a d e b λb d e=>xm a d 3 b 94 e g λd e h=>j6 d c e h λc e h=>eH d (ep a e 3 b) e h λb e h=>md d (λc=>ba a 128 [b] e h c g) e h λa b e=>eH d (bm .andNot c a) b e λa b c=>eH d (bm .eql a (.int .u64 0)) b c λa b c=>c5 (λa=>f a b c) λb=>bb d (b a) (b .zF)
def akH:dm X 96 [a0,bd] h j aj au=Xx X a0 bd h j aj au:=Zk
def akG:c4 X 96 2=true:=Zk
def V4(a:aK)(b c:z)(d:S ai)(e:Nat)(f g:bR):Prop:=
 fs (e+7) λh=>ar (aV a d (.ptr 5 0)) λi=>ba a 143 [c] d h (λc d g=>ar (fv [.str [], .str [], .nilIface] [(0,1,b),(1,1,c),(2,1,i)]) λb=>vR a d (e+5) b λb c=>ar (aV a c (.ptr 5 0)) λa=>iB a (some i) (f b c g)) g
def ahT:dm X 122 [a0,bd] h j aj au=V4 X a0 bd h j aj au:=Zk
def ahS:c4 X 122 2=true:=Zk
def V5(a:aK)(b c:z)(d:S ai)(e:Nat)(f g:bR):Prop:=
 fs (e+7) λh=>ar (aV a d (.ptr 6 0)) λi=>ba a 143 [c] d h (λc d g=>ar (fv [.str [], .str [], .nilIface] [(0,1,b),(1,1,c),(2,1,i)]) λb=>vR a d (e+5) b λb c=>ar (aV a c (.ptr 6 0)) λa=>iB a (some i) (f b c g)) g
def ahV:dm X 123 [a0,bd] h j aj au=V5 X a0 bd h j aj au:=Zk
def ahU:c4 X 123 2=true:=Zk
def V6(a:aK)(b:z)(c:S ai)(d:Nat)(e f:bR):Prop:=
 ar (mI b) λg=>pb (λc d h=>pb (λc d h=>pb (λc d h=>j6 c g d h λd h i=>eH c (bm .lss d (.Z 10)) h i λd h i=>pb (λc d h=>c5 (λc=>gW c .zT d h λd h i=>j6 d g h i λh i j=>eH d (bm .lss (.Z 0) h) i j λh i j=>j6 d h i j λh i j=>j6 h g i j λi j k=>eH h (bm .lss i (.Z 19)) j k λi j k=>md d (λa=>c5 (λb=>a b j k) λa=>bb h (a i) (a .zF)) j k λh i j=>lc c (λa=>c5 (λb=>a b i j) λa=>bb d (a h) (a .zF)) i j λd h i=>c5 (λc=>bA (λb c d=>eO b λb=>ba a 145 [b, .Z 10, .Z 0] c d (λa b c=>jR a λa d=>e (.tuple [a,d]) b c) f) λd=>bb c (Lm b 45 λd=>gW d b h i λf h i=>fa d (nQ f (.Z 0)) h i λf h i=>fa d (bm .eql f (.int .u8 43)) h i λf h i=>c5 (λd=>bA (λb c d=>eO b λf=>iA (O8 a c d f) c d λc d f=>jQ c (λa b c=>cl (a 5) λd=>Lm d 45 λd=>bA (λa b c=>cl (a 6) λa=>e (.tuple [a, .nilIface]) b c) λe=>bb d (cl (a 6) λf=>ar (hb .neg f) λf=>e (zK a 66 d 6 f) b c) (e (ab a 66 d) b c)) λg h=>fJ (λb c d f=>iF c 49 48 λg=>bA (λc d f=>ie (λa c d=>g2 a 49 λe=>b (ab a 49 e) c d) c 47 49 λb g h=>kb g h a d λa=>ar (bm .sub a (.int .u8 48)) λg=>ar (bm .gtr g (.int .u8 9)) λh=>bA (λa c d=>cl (a 6) λe=>ar (bm .mul e (.Z 10)) λe=>cl (a 8) λf=>ar (mw .i64 f) λf=>ar (bm .add e f) λe=>b (ab a 6 e) c d) λb=>bb h (oL 2 λa=>e (.tuple [.Z 0,a]) d f) (b (zL c 8 a 8 g 56 h) d f)) λa=>bb g (a (ab c 50 g) d f) (h (ab c 50 g) d f)) (zM b 6 (.Z 0) 47 c 48 g 49 (.Z 0)) d f) λa=>bb d (ar (mQ b (some (.Z 1)) none) λf=>ar (mI f) λj=>ar (bm .lss j (.Z 1)) λj=>bA a λa=>bb j (oL 2 λa=>e (.tuple [.Z 0,a]) h i) (a (zM (zM (c0 [b]) 2 (.Z 0) 3 .nilIface 4 g 30 c) 5 b 39 d 0 f 44 j) h i)) (a (zK (zM (c0 [b]) 2 (.Z 0) 3 .nilIface 4 g 30 c) 5 b 39 d) h i)) λa=>bb d (a .zT) (a f)) (d (zM (c0 [b]) 2 (.Z 0) 3 .nilIface 4 g 30 c) h i)) λa=>bb c (a .zT) (a d)) λa=>bb .zF (a c) (a .zF)) λa=>jk true .zF (c5 (λb=>a b h i) λa=>bb c (a d) (a .zF)) (a bn.undef h i)) λa=>jk true .zF (a c d h) (a bn.undef d h)) λa=>jk true .zF (ar (bm .lss (.Z 0) c) λb=>a b d h) (a bn.undef d h)) λa=>jk true .zF (a g c d) (a bn.undef c d)
def ahX:dm X 126 [a0] h j aj au=V6 X a0 h j aj au:=Zk
def ahW:c4 X 126 1=true:=Zk
def V8(a:aK)(b:z)(c:S ai)(d:Nat)(e _:bR):Prop:=
 kd a c d b λb c d=>eM 2 b a c λ_ a=>ar (bm .sub (.Z 64) a) λa=>ar (bm .shr (.int .u64 18446744073709551615) a) λa=>e a c d
def ah1:dm X 128 [a0] h j aj au=V8 X a0 h j aj au:=Zk
def ah0:c4 X 128 1=true:=Zk
def Wf(a:aK)(b c d:z)(e:S ai)(f:Nat)(g h:bR):Prop:=
 ar (dv a e .eql 9 true b (.str [])) λi=>bA (λb c d=>eO b λe=>ar (nQ e (.Z 0)) λe=>bA (λb c d=>fR b 0 1 λe f=>cl (b 2) λi=>ba a 91 [e,f,i] c d (λc d e=>jR c λc f=>ar (dv a d .neq 119 true f .nilIface) λh=>j6 h f d e λd e i=>eH h (some (z.iface 185 (.Z 1))) e i λe i j=>eH h (dv a i .neq 119 false d e) i j λa d e=>c5 (λa=>bA (λa b c=>cl (a 2) λd=>HM d λd=>bA (λa b c=>PC a 2 1 λd=>ar (mw .u64 d) λd=>ar (bm .shl (.int .u64 1) d) λd=>cl (a 8) λe=>ar (hb .not e) λe=>ou e (a 9) b c λb c f=>j6 e d c f λc f h=>eH e (bm .geq b c) f h λb c f=>c5 (λb=>bA (λa b c=>cl (a 8) λd=>ou d (a 9) b c λb c e=>ou d (a 10) c e λc e f=>eH d (bm .gtr b c) e f λb c e=>c5 (λb=>bA (λa b c=>cl (a 9) λd=>ar (mw .i64 d) λd=>cl (a 8) λe=>bA (λa b c=>cl (a 11) λa=>g (.tuple [a, .nilIface]) b c) λf=>bb e (ar (hb .neg d) λg=>f (zL a 11 d 69 e 11 g) b c) (f (zK a 11 d 69 e) b c)) λd=>bb b (cl (a 10) λa=>ar (mw .i64 a) λa=>ar (hb .neg a) λa=>oL 1 λb=>g (.tuple [a,b]) c e) (d (ab a 62 b) c e)) λa=>bb d (a b) (a .zF)) λe=>bb b (ar (bm .sub d (.int .u64 1)) λa=>ar (mw .i64 a) λa=>oL 1 λb=>g (.tuple [a,b]) c f) (e (zK a 10 d 52 b) c f)) λa=>bb e (a b) (a .zF)) λe=>bb d (e (zK a 41 d 2 (.Z 64)) b c) (e (ab a 41 d) b c)) λh=>bb a (g (.tuple [.Z 0,f]) d e) (h (zM b 9 (.int .u64 0) 9 c 7 f 38 a) d e)) λb=>bb h (b a) (b .zF)) h) λa=>ar (bm .eql e (.int .u8 43)) λf=>bA a λa=>bb f (Ad b 1 λg=>a (zM b 8 .zF 16 e 17 f 0 g) c d) (ar (bm .eql e (.int .u8 45)) λg=>bA a λa=>bb g (Ad b 1 λh=>a (zK (zM b 8 .zF 16 e 17 f 21 g) 0 h 8 .zT) c d) (a (zM b 8 .zF 16 e 17 f 21 g) c d))) λa=>bb i (oL 2 λa=>g (.tuple [.Z 0,a]) e f) (a (zL (c0 [b,c,d]) 6 (.Z 0) 7 .nilIface 13 i) e f)
def aif:dm X 145 [a0,bd,ca] h j aj au=Wf X a0 bd ca h j aj au:=Zk
def aie:c4 X 145 3=true:=Zk
def V7(a:aK)(b:z)(c:S ai)(d:Nat)(e f:bR):Prop:=
 ba a 146 [b] c d e f
def ahZ:dm X 127 [a0] h j aj au=V7 X a0 h j aj au:=Zk
def ahY:c4 X 127 1=true:=Zk
def Wg(a:aK)(b:z)(c:S ai)(d:Nat)(e f:bR):Prop:=
 ba a 153 [b,.Z 10] c d e f
def aih:dm X 146 [a0] h j aj au=Wg X a0 h j aj au:=Zk
def aig:c4 X 146 1=true:=Zk
def Wk(a:aK)(b c:z)(d:S ai)(e:Nat)(f g:bR):Prop:=
 ar (bm .eql c (.Z 10)) λh=>bA (λb c d=>eO b λe=>ar (mw .u64 e) λe=>fR b 1 0 λb h=>Fc h λh=>ba a 162 [.a2,e,b,h, .zF] c d (λa b c=>jR a λ_ a=>f a b c) g) λi=>bb h (ar (bm .leq (.Z 0) b) λi=>j6 i b d e λd e j=>eH i (bm .lss d (.Z 100)) e j λd e j=>c5 (λd=>bA (λb c d=>ar (kK [.int .u8 0, .int .u8 0, .int .u8 0, .int .u8 0, .int .u8 0, .int .u8 0, .int .u8 0, .int .u8 0, .int .u8 0, .int .u8 0, .int .u8 0, .int .u8 0, .int .u8 0, .int .u8 0, .int .u8 0, .int .u8 0, .int .u8 0, .int .u8 0, .int .u8 0, .int .u8 0, .int .u8 0, .int .u8 0, .int .u8 0, .int .u8 0] d) λe=>gm a c d e.1 e.2 λc d e=>eO b λh=>ar (mw .u64 h) λh=>eO b λi=>Fc i λi=>bA (λb c d=>cl (b 6) λe=>ba a 160 [e] c d (λc d e=>ar (bm .add (.Z 1) c) λh=>cl (b 5) λi=>ar (U6 24 1 i (some (.Z 1)) (some h) none) λh=>cl (b 6) λi=>ba a 161 [h,i] d e (λ_ d e=>eO b λg=>Fc g λg=>bA (λb c d=>cl (b 7) λe=>ar (bm .add (.Z 1) e) λe=>cl (b 5) λb=>ar (U6 24 1 b (some (.Z 1)) (some e) none) λb=>ar (AM a c b) λa=>f a c d) λh=>bb g (cl (b 5) λg=>ar (GS 24 1 g (.Z 0)) λg=>ar (eI a d 1 g (.int .u8 45)) λd=>ar (bm .add (.Z 1) c) λc=>cl (b 5) λb=>ar (U6 24 1 b none (some c) none) λb=>ar (AM a d b) λa=>f a d e) (h (zK b 7 c 34 g) d e)) g) g) λa=>bb i (ar (hb .neg h) λf=>a (zM b 5 c 6 h 23 i 6 f) d e) (a (zL b 5 c 6 h 23 i) d e)) λi=>bb d (ba a 159 [b] e j f g) (i (zL (c0 [b,c]) 4 (.str []) 11 h 17 d) e j)) λa=>bb i (a d) (a .zF)) (i (zK (c0 [b,c]) 4 (.str []) 11 h) d e)
def aip:dm X 153 [a0,bd] h j aj au=Wk X a0 bd h j aj au:=Zk
def aio:c4 X 153 2=true:=Zk
end
end Go.Proofs.YtendhgofocgngaaGreatDoor

namespace Go.Proofs.YtendhgofocgngaaGreatDoor
open Go.bn
noncomputable section
variable (X : co) (h : S ai) (j : Nat) (aj au : bR) (a0 bd ca a3 a4 a5 h2 ih hk : z)
def V3(_:aK)(a:z)(b:S ai)(c:Nat)(d _:bR):Prop:=
 ar (bm .or a (.int .u8 32)) λa=>d a b c
def ahR:dm X 120 [a0] h j aj au=V3 X a0 h j aj au:=Zk
def ahQ:c4 X 120 1=true:=Zk
def Wn(_:aK)(a:z)(b:S ai)(c:Nat)(d _:bR):Prop:=
 ar (bm .lss a (.Z 10)) λe=>bA (λa b c=>eO a λe=>ar (bm .mul e (.Z 2)) λe=>eO a λa=>ar (bm .mul a (.Z 2)) λa=>ar (bm .add a (.Z 2)) λa=>ar (mQ (.str [48,48,48,49,48,50,48,51,48,52,48,53,48,54,48,55,48,56,48,57,49,48,49,49,49,50,49,51,49,52,49,53,49,54,49,55,49,56,49,57,50,48,50,49,50,50,50,51,50,52,50,53,50,54,50,55,50,56,50,57,51,48,51,49,51,50,51,51,51,52,51,53,51,54,51,55,51,56,51,57,52,48,52,49,52,50,52,51,52,52,52,53,52,54,52,55,52,56,52,57,53,48,53,49,53,50,53,51,53,52,53,53,53,54,53,55,53,56,53,57,54,48,54,49,54,50,54,51,54,52,54,53,54,54,54,55,54,56,54,57,55,48,55,49,55,50,55,51,55,52,55,53,55,54,55,55,55,56,55,57,56,48,56,49,56,50,56,51,56,52,56,53,56,54,56,55,56,56,56,57,57,48,57,49,57,50,57,51,57,52,57,53,57,54,57,55,57,56,57,57]) (some e) (some a)) λa=>d a b c) λf=>bb e (Ce a λe=>ar (mQ (.str [48,49,50,51,52,53,54,55,56,57,97,98,99,100,101,102,103,104,105,106,107,108,109,110,111,112,113,114,115,116,117,118,119,120,121,122]) (some a) (some e)) λa=>d a b c) (f (zK (c0 [a]) 2 (.str []) 4 e) b c)
def aiv:dm X 159 [a0] h j aj au=Wn X a0 h j aj au:=Zk
def aiu:c4 X 159 1=true:=Zk
end
end Go.Proofs.YtendhgofocgngaaGreatDoor

namespace Go.Proofs.YtendhgofocgngaaGreatDoor
open Go.bn Go.aT
noncomputable section
def iM(c:Nat):Bool:=decide (48<=c)&&decide (c<=57)
def qt(c:Nat):Bool:=decide (97<=c)&&decide (c<=122)||decide (65<=c)&&decide (c<=90)||decide (c=95)
def i7(c:Nat):Bool:=qt c||iM c
def Bs{s:aW}{i c:Nat}(o:IntKind)(a:s[i]? =some c):nQ (.str s) (.int o (i:Int))=some (.int .u8 (c:Int)):=by
 simp[nQ,pL,a]
def U7{s:aW}{k a:Nat}(o eA:IntKind)(H:k<=a)(K:a<=s.length):mQ (.str s) (some (.int o (k:Int))) (some (.int eA (a:Int)))=some (.str ((s.drop k).take (a-k))):=by
 simp[mQ,ms,ow,pL,eR,H,K]
def Pb{s:aW}{k:Nat}(o:IntKind)(H:k<=s.length):mQ (.str s) (some (.int o (k:Int))) none=some (.str (s.drop k)):=by
 simp[mQ,ms,ow,pL,eR,H,ZH]
def ayz{s:aW}{a:Nat}(o:IntKind)(H:a<=s.length):mQ (.str s) none (some (.int o (a:Int)))=some (.str (s.take a)):=by
 simp[mQ,ms,ow,pL,eR,H]
section
variable{X:co}{h R aU aQ:S ai}{j ap aL bc:Nat}
def QU(az:dN X)(c:Nat):ba X 31 [.int .u8 (c:Int)] h j (λac R ap=>ac= .bool (iM c)/\R=h/\ap=j) (λ_ _ _=>False):=by
 refine zJ az (ai0 X) ?_
 rw[ai1]
 unfold WE
 by_cases a:48<=c
 ·have d:decide ((48:Int)<=(c:Int))=true:=by simp;omega
  have cE:decide ((c:Int)<=57)=decide (c<=57):=by simp;omega
  refine dd @d @cE ⟨?_⟩
  exact⟨by simp[iM,a],rfl,rfl⟩
 ·have d:decide ((48:Int)<=(c:Int))=false:=by simp;omega
  refine cq @d ⟨?_⟩
  exact⟨by simp[iM,a],rfl,rfl⟩
def δ(az:dN X)(c:Nat):ba X 33 [.int .u8 (c:Int)] h j (λac R ap=>ac= .bool (qt c)/\R=h/\ap=j) (λ_ _ _=>False):=by
 refine zJ az (ai4 X) ?_
 rw[ai5]
 unfold WG
 have cI:decide ((97:Int)<=(c:Int))=decide (97<=c):=by simp;omega
 have cE:decide ((c:Int)<=122)=decide (c<=122):=by simp;omega
 have eV:decide ((65:Int)<=(c:Int))=decide (65<=c):=by simp;omega
 have iI:decide ((c:Int)<=90)=decide (c<=90):=by simp;omega
 have fG:decide ((c:Int)=95)=decide (c=95):=by simp;omega
 by_cases H:97<=c<;>by_cases K:c<=122<;>by_cases ak:65<=c<;>by_cases ay:c<=90<;>try omega
 all_goals
  simp only[H,K,ak,ay,YH,Yw]at cI cE eV iI
  refine ht @cI @cE @eV @iI @fG ⟨?_⟩
  exact⟨by simp[qt,H,K,ak,ay],rfl,rfl⟩
def avG(az:dN X)(c:Nat):ba X 55 [.int .u8 (c:Int)] h j (λac R ap=>ac= .bool (i7 c)/\R=h/\ap=j) (λ_ _ _=>False):=by
 refine zJ az (ajK X) ?_
 rw[ajL]
 unfold W0
 refine(δ az c).Zm ?_
 rintro ac R ap ⟨rfl,rfl,rfl⟩
 cases ah:qt c with
 |true=>
  refine cY ⟨?_⟩
  exact⟨by simp[i7,ah],rfl,rfl⟩
 |false=>
  refine cY ⟨?_⟩
  refine(QU az c).Zm ?_
  rintro ac R ap ⟨rfl,rfl,rfl⟩
  refine cY ⟨?_⟩
  exact⟨by simp[i7,ah],rfl,rfl⟩
def av0(az:dN X)(c:Nat):ba X 53 [.int .u8 (c:Int)] h j (λac R ap=>ac= .bool (decide (c≠10))/\R=h/\ap=j) (λ_ _ _=>False):=by
 refine zJ az (ajG X) ?_
 rw[ajH]
 unfold WY
 refine cY ⟨?_⟩
 exact⟨by congr 1;simp;omega,rfl,rfl⟩
def qw(c:Nat):Nat:=(BitVec.ofInt 8 (c:Int)|||BitVec.ofInt 8 32).toNat%256
def Ud(az:dN X)(c:Nat):ba X 120 [.int .u8 (c:Int)] h j (λac R ap=>ac= .int .u8 (qw c:Int)/\R=h/\ap=j) (λ_ _ _=>False):=by
 refine zJ az (ahQ X) ?_
 rw[ahR]
 unfold V3
 have B:bm .or (.int .u8 (c:Int)) (.int .u8 32)=some (.int .u8 (oK .u8 ((BitVec.ofInt 8 (c:Int)|||BitVec.ofInt 8 32).toNat))):=by
  simp[bm,lv,lx,lo,kT];rfl
 refine cq @B ⟨?_⟩
 exact⟨rfl,rfl,rfl⟩
def afS(az:dN X)(s p:aW):ba X 51 [.str s, .str p] h j (λac R ap=>ac= .bool (decide (p.length<=s.length/\s.take p.length=p))/\R=h/\ap=j) (λ_ _ _=>False):=by
 refine zJ az (ajC X) ?_
 rw[ajD]
 unfold WW
 refine zJ az (aku X) ?_
 rw[akv]
 unfold Xr
 by_cases a:p.length<=s.length
 ·have d:decide ((p.length:Int)<=(s.length:Int))=true:=by simp;omega
  have B:=ayz (s:=s) .i64 a
  refine dd @d @B ⟨?_⟩
  exact⟨by congr 1;simp[a],rfl,rfl⟩
 ·have d:decide ((p.length:Int)<=(s.length:Int))=false:=by simp;omega
  refine cq @d ⟨?_⟩
  exact⟨by congr 1;simp;omega,rfl,rfl⟩
end
def Ly(X:co)(f:z)(p:Nat->Bool):Prop:=∃o,f= .func (.func o) [] []/\∀(h:S ai) (j c:Nat),ba X o [.int .u8 (c:Int)] h j (λac R ap=>ac= .bool (p c)/\R=h/\ap=j) (λ_ _ _=>False)
def axT{X:co}(az:dN X):Ly X (.func (.func 31) [] []) iM:=⟨_,rfl,λh j c=>QU az c⟩
def agd{X:co}(az:dN X):Ly X (.func (.func 55) [] []) i7:=⟨_,rfl,λh j c=>avG az c⟩
def axU{X:co}(az:dN X):Ly X (.func (.func 53) [] []) (λc=>decide (c≠10)):=⟨_,rfl,λh j c=>av0 az c⟩
structure mW(X:co)(h:S ai)(fZ:Nat)(s:aW)(i:Nat):Prop where
 g:Z X h fZ=zG [.str s, .Z (i:Int)] 2
 le:i<=s.length
 many:s.length<=65536
 ck:(q X).bf<=fZ
def mW.dE{X:co}{h:S ai}{fZ:Nat}{s:aW}{i:Nat}(a:mW X h fZ s i):aV X h (.ptr fZ 0)=some (.str s):=by rw[bX a.g];rfl
def mW.dF{X:co}{h:S ai}{fZ:Nat}{s:aW}{i:Nat}(a:mW X h fZ s i):aV X h (.ptr fZ 1)=some (.Z (i:Int)):=by rw[bX a.g];rfl
def mW.ad{X:co}{h R:S ai}{fZ:Nat}{s:aW}{i:Nat}(a:mW X h fZ s i)(o:Z X R fZ=Z X h fZ):mW X R fZ s i:=⟨by rw[o];exact a.g,a.le,a.many,a.ck⟩
section
variable{X:co}{h R aU aQ:S ai}{j ap aL bc fZ:Nat}{s:aW}{i:Nat}
def O4(az:dN X){f:z}{p:Nat->Bool}(b8:Ly X f p)(V:mW X h fZ s i){E:Nat}(aB:E<=s.length):
 ba X 52 [.ptr fZ 0, .Z (E:Int),f] h j (λac R ap=>ac= .str ((s.drop E).takeWhile p)/\R=h/\ap=j) (λ_ _ _=>False):=by
 refine zJ az (ajE X) ?_
 rw[ajF]
 unfold WX
 obtain⟨o,rfl,b8⟩:=b8
 have aZ:=V.many
 have dE:=V.dE
 refine cY ⟨?_⟩
 refine fP (λm I R aP=>∃(B:Nat),I.g 0=some (.ptr fZ 0)/\I.g 1=some (.Z (E:Int))/\I.g 2=some (.func (.func o) [] [])/\I.g 7=some (.Z (B:Int))/\E<=B/\B+m=s.length/\R=h/\aP=j/\(s.drop E).takeWhile p=(s.drop E).take (B-E)++(s.drop B).takeWhile p)
  (s.length-E) ⟨E,bt,bt,bt,bt,Zh _,Zo,rfl,rfl,Zs⟩ ?_
 rintro m I aQ bc ⟨B,t0,t1,ei,fC,aqo,aBe,rfl,rfl,bF⟩
 have bw:=zH B
 have bi:mQ (.str s) (some (.Z (E:Int))) (some (.Z (B:Int)))=some (.str ((s.drop E).take (B-E))):=U7 .i64 .i64 aqo Zo
 cases m with
 |zero=>
  have d:=zD B s.length
  rw[ZJ (by omega:s.length<=B),List.takeWhile_nil,Z0]at bF
  refine eD @fC @t0 @t1 @ei @dE @d @bi ⟨?_⟩
  exact⟨by rw[bF],rfl,rfl⟩
 |succ m=>
  have d:=zE B s.length
  obtain⟨c,ax⟩:=zF s B
  have aI:s.drop B=c::s.drop (B+1):=by
   obtain⟨af,D⟩:=Zb.1 ax
   rw[Zz af,D]
  have dV:=Bs .i64 ax
  refine eD @fC @t0 @t1 @ei @dE @d @dV ⟨?_⟩
  refine(b8 aQ bc c).Zm ?_
  rintro ac br bL ⟨rfl,rfl,rfl⟩
  rw[aI,YF]at bF
  cases av:p c with
  |false=>
   rw[av]at bF
   simp only[Zw,ZA,Z0]at bF
   refine ht @fC @t0 @t1 @dE @bi ⟨?_⟩
   exact⟨by rw[bF],rfl,rfl⟩
  |true=>
   rw[av]at bF
   simp only[ZC]at bF
   refine dd @fC @bw ⟨?_⟩
   refine⟨m,Zo,B+1,a6 t0,a6 t1,a6 ei,bt,Zo,Zo,rfl,rfl, ?_⟩
   rw[bF,show B+1-E=(B-E)+1 by omega,Z3]
   have:(s.drop E)[B-E]? =some c:=by rw[Yk,show E+(B-E)=B by omega];exact ax
   rw[this]
   simp
end
def Kb(c:Nat):Bool:=decide (c=32)||decide (c=9)||decide (c=10)||decide (c=13)
structure jd(X:co):Prop extends dN X where
 idx:∀c:Nat,c<256->∃aG:Int,X.O 119 [.str [32,9,10,13], .int .u8 (c:Int)]=some (.Z aG)/\(0<=aG↔Kb c=true)
 clone:∀s:aW,(∀c∈s,c<256)->s.length<=65536->X.O 143 [.str s]=some (.str s)
def n6(s:aW):Nat->Nat->Nat
 |0,i=>i
 |n+1,i=>match s[i]? with
  |none=>i
  |some c=>if Kb c then n6 s n (i+1)
   else if 2<=(s.drop i).length/\(s.drop i).take 2=[45,45]then n6 s n (i+((s.drop i).takeWhile λc=>decide (c≠10)).length)else i
def EO{α:Type}(p:α->Bool):∀k:List α,(k.takeWhile p).length<=k.length:=by
 intro k
 induction k with
 |nil=>simp
 |cons E k ag=>rw[YF];split<;>simp<;>omega
section
variable{X:co}{h R aU aQ:S ai}{j ap aL bc fZ:Nat}{s:aW}{i:Nat}
def atU(az:jd X){c:Nat}(ax:c<256):ba X 50 [.str [32,9,10,13], .int .u8 (c:Int)] h j (λac R ap=>(∃aG:Int,ac= .Z aG/\(0<=aG↔Kb c=true))/\R=h/\ap=j) (λ_ _ _=>False):=by
 refine zJ az.todN (ajA X) ?_
 rw[ajB]
 unfold WV
 refine zJ az.todN (akq X) ?_
 rw[akr]
 unfold Xq
 obtain⟨aG,H,K⟩:=az.idx c ax
 exact FH H ⟨⟨aG,rfl,K⟩,rfl,rfl⟩
def η(az:jd X)(V:mW X h fZ s i)(ah:∀c∈s,c<256)(aM:(q X).bf<=j)(JU:fZ<j):
 ba X 29 [.ptr fZ 0] h j (λac R ap=>mW X R fZ s (n6 s s.length i)/\cx X [fZ] h j R ap) (λ_ _ _=>False):=by
 refine zJ az.todN (aiW X) ?_
 rw[aiX]
 unfold WB
 have aZ:=V.many
 have hc:=V.ck
 refine cY ⟨?_⟩
 refine fP (λm I R aP=>∃(W:Nat),I.g 0=some (.ptr fZ 0)/\mW X R fZ s W/\s.length<=W+m/\n6 s s.length i=n6 s m W/\cx X [fZ] h j R aP)
  s.length ⟨i,bt,V,Zo,rfl,cx.refl _ _ _⟩ ?_
 rintro m I aQ bc ⟨W,t0,hf,aBl,bx,dy⟩
 have gE:=dy.le
 have dE:=hf.dE
 have dF:=hf.dF
 have q9:=hf.le
 have b1:=hf.g
 by_cases Dg:W=s.length
 ·subst Dg
  have ce:n6 s m s.length=s.length:=by cases m<;>simp[n6]
  have d:decide ((s.length:Int)<(s.length:Int))=false:=by simp
  refine hm @t0 @dE @dF @d ⟨?_⟩
  exact⟨by rw[bx,ce];exact hf,dy.trans ⟨Zo,λ_ _ _=>rfl⟩⟩
 have d:=zE W s.length
 obtain⟨c,ax⟩:=zF s W
 obtain⟨m,rfl⟩:∃e6,m=e6+1:=⟨m-1,Zo⟩
 rw[n6,ax]at bx
 simp only[]at bx
 have dV:=Bs .i64 ax
 have Nb:=ah c (Zn ax)
 refine ht @t0 @dE @dF @d @dV ⟨?_⟩
 refine(atU az Nb).Zm ?_
 rintro ac br bL ⟨⟨aG,rfl,ce⟩,rfl,rfl⟩
 cases fM:Kb c with
 |true=>
  have kA:=ce.2 fM
  have cE:decide ((0:Int)<=aG)=true:=by simp;omega
  have bw:=zH W
  rw[fM]at bx
  simp only[ZC]at bx
  refine hm @t0 @dF @cE @bw ⟨?_⟩
  refine⟨m,Zo,W+1,a6 t0,⟨by rw[bz Zo];rfl,Zo,aZ,hc⟩,Zo,bx,dy.trans ⟨Zo,λb ah bT=>by simp only[Zr,ZL,Y0,Yx,ZI,Yj]at bT;exact zI⟩⟩
 |false=>
  have cE:decide ((0:Int)<=aG)=false:=by simp;have:=mt ce.1 (by rw[fM];decide);omega
  have bw:mQ (.str s) (some (.Z (W:Int))) none=some (.str (s.drop W)):=Pb .i64 q9
  rw[fM]at bx
  simp only[Zw,ZA]at bx
  refine ht @t0 @dE @dF @cE @bw ⟨?_⟩
  refine(afS az.todN (s.drop W) [45,45]).Zm ?_
  rintro ac b0 cU ⟨rfl,rfl,rfl⟩
  by_cases av:2<=(s.drop W).length/\(s.drop W).take 2=[45,45]
  ·rw[Zq av]at bx
   have eV:decide ([45,45].length<=(s.drop W).length/\List.take [45,45].length (s.drop W)=[45,45])=true:=decide_eq_true av
   have aw:=EO (λc=>decide (c≠10)) (s.drop W)
   rw[Yp]at aw
   generalize bF:((s.drop W).takeWhile λc=>decide (c≠10)).length=w at bx aw
   have tF:1<=w:=by
    have apO:c=45:=by
     have:=av.2
     have aI:s.drop W=c::s.drop (W+1):=by
      obtain⟨af,D⟩:=Zb.1 ax
      rw[Zz af,D]
     rw[aI]at this
     simp at this
     exact this.1
    have aI:s.drop W=c::s.drop (W+1):=by
     obtain⟨af,D⟩:=Zb.1 ax
     rw[Zz af,D]
    rw[aI,apO,YF]at bF
    simp at bF
    omega
   have b3:bm .add (.Z (W:Int)) (.Z (w:Int))=some (.Z ((W+w:Nat):Int)):=by rw[eG Zo Zo];rfl
   simp only[eV]
   refine ey @t0 @dE @dF ⟨?_⟩
   refine(O4 az.todN (axU az.todN) hf q9).Zm ?_
   rintro ac b5 cA ⟨rfl,rfl,rfl⟩
   have er:mI (.str ((s.drop W).takeWhile λc=>decide (c≠10)))=some (.Z (w:Int)):=by rw[yI,bF]
   refine ey @er @b3 @dF ⟨?_⟩
   refine ka (by simp[z.same]) ?_
   refine cY ⟨?_⟩
   refine⟨m,Zo,W+w,a6 t0,⟨by rw[bz Zo];rfl,Zo,aZ,hc⟩,Zo,bx,dy.trans ⟨Zo,λb ah bT=>by simp only[Zr,ZL,Y0,Yx,ZI,Yj]at bT;exact zI⟩⟩
  ·rw[Zg av]at bx
   have eV:decide ([45,45].length<=(s.drop W).length/\List.take [45,45].length (s.drop W)=[45,45])=false:=decide_eq_false av
   simp only[eV]
   refine cY ⟨?_⟩
   exact⟨by rw[bx];exact hf,dy.trans ⟨Zo,λ_ _ _=>rfl⟩⟩
end
def sS:aW->Nat->Nat×Nat
 |[],n=>(n,0)
 |c::k,n=>if iM c then(if 1844674407370955162<=n then(18446744073709551615,1)else if 18446744073709551616<=n*10+(c-48)then(18446744073709551615,1)else sS k (n*10+(c-48)))
  else(0,2)
def kH(s:aW):Nat×Nat:=if s=[]then(0,2)else sS s 0
def v7:Nat->z
 |0=> .nilIface
 |n+1=> .iface 185 (.Z ((n+1:Nat):Int))
def ο{C:aK}{h:S ai}{j:Nat}{s:aW}{aj:bR}(a:s.length<=1048576)(o:aj (.el j 0 s.length 1) (bp C h j (some (.cells (S.ofList (s.map λn:Nat=>z.int .u8 (n:Int)) 0 .nil) s.length (.grow [])))) (j+1)):iA (O8 C h j (.str s)) h j aj:=by
 refine kl (v:= .el j 0 s.length 1) (R:=bp C h j (some (.cells (S.ofList (s.map λn:Nat=>z.int .u8 (n:Int)) 0 .nil) s.length (.grow [])))) (ap:=j+1) ?_ o
 simp[O8,ts,jg a,na]
def ag9{x:Int}(H:0<=x)(K:x<18446744073709551616):oK .u64 x=x:=by
 simp only[oK];exact Y6 H K
def atO{x e:Nat}(a:x+e<18446744073709551616):bm .add (.int .u64 (x:Int)) (.int .u64 (e:Int))=some (.int .u64 ((x+e:Nat):Int)):=by
 rw[ad5];congr 2;rw[Y6 Zo Zo];rfl
def atP{x e:Nat}(a:x*e<18446744073709551616):bm .mul (.int .u64 (x:Int)) (.int .u64 (e:Int))=some (.int .u64 ((x*e:Nat):Int)):=by
 have:(x:Int)*(e:Int)=((x*e:Nat):Int):=by simp
 simp only[bm,lv,lx,lo,ku,eU,kT,this]
 rw[ag9 Zo Zo,FT]
def ad7{x e:Nat}(a:e<=x)(K:x<256):bm .sub (.int .u8 (x:Int)) (.int .u8 (e:Int))=some (.int .u8 ((x-e:Nat):Int)):=by
 have:(x:Int) -(e:Int)=((x-e:Nat):Int):=Zo
 have w:oK .u8 ((x-e:Nat):Int)=((x-e:Nat):Int):=by simp only[oK];exact Y6 Zo Zo
 simp only[bm,lv,lx,lo,ku,eU,kT,this,w,FT]
def atN{x e:Nat}(K:x+e<256):bm .add (.int .u8 (x:Int)) (.int .u8 (e:Int))=some (.int .u8 ((x+e:Nat):Int)):=by
 have:(x:Int)+(e:Int)=((x+e:Nat):Int):=Zo
 have w:oK .u8 ((x+e:Nat):Int)=((x+e:Nat):Int):=by simp only[oK];exact Y6 Zo Zo
 simp only[bm,lv,lx,lo,ku,eU,kT,this,w,FT]
section
variable{X:co}{h R aU aQ:S ai}{j ap aL bc fZ:Nat}{s:aW}{i:Nat}
def agO(az:jd X)(aD:s.length<=65536)(ah:∀c∈s,c<256)(aM:(q X).bf<=j){b:Int}(aqr:b=0\/b=64):
 ba X 91 [.str s, .Z 10, .Z b] h j (λac R ap=>ac= .tuple [.int .u64 ((kH s).1:Int),v7 (kH s).2]/\bG X h j R ap) (λ_ _ _=>False):=by
 refine zJ az.todN (akw X) ?_
 rw[akx]
 unfold Xs
 by_cases a8:s=[]
 ·subst a8
  have d:decide (([]:List Nat)=[])=true:=rfl
  refine cq @d ⟨?_⟩
  exact⟨rfl,dS⟩
 have d:decide (s=[])=false:=by simp[a8]
 have aN:decide ((2:Int)<=10)=true:=rfl
 have Iq:decide ((10:Int)<=36)=true:=rfl
 have amV:decide ((10:Int)=10)=true:=rfl
 have dH:bm .shl (.int .u64 1) (.int .u64 64)=some (.int .u64 0):=by rfl
 have aye:bm .sub (.int .u64 0) (.int .u64 1)=some (.int .u64 18446744073709551615):=by rfl
 have aam:mw .u64 (.Z 64)=some (.int .u64 64):=by rfl
 have amT:(64:Int)%18446744073709551616=64:=rfl
 have aan:(10:Int)%18446744073709551616=10:=rfl
 have mZ:decide ((10:Int)=0)=false:=rfl
 have asq:kH s=sS s 0:=by simp[kH,a8]
 rw[asq]
 rcases aqr with rfl|rfl
 all_goals
  have cI:decide ((0:Int)=0)=true:=rfl
  have cE:decide ((64:Int)=0)=false:=rfl
  have eV:decide ((64:Int)<0)=false:=rfl
  have iI:decide ((64:Int)<64)=false:=rfl
  refine eD @d @aN @Iq @amV @mZ @cI (Za @cE (Za @eV (Za @iI (Za @dH (Za @aye (Za @aam @amT)))))) ⟨?_⟩
  refine ο Zo ?_
  have Rq:Z X (bp X h j (some (.cells (S.ofList (s.map λn:Nat=>z.int .u8 (n:Int)) 0 .nil) s.length (.grow [])))) j=some (.cells (S.ofList (s.map λn:Nat=>z.int .u8 (n:Int)) 0 .nil) s.length (.grow [])):=bz aM
  have C3:bG X h j (bp X h j (some (.cells (S.ofList (s.map λn:Nat=>z.int .u8 (n:Int)) 0 .nil) s.length (.grow [])))) (j+1):=dS
  generalize bp X h j (some (.cells (S.ofList (s.map λn:Nat=>z.int .u8 (n:Int)) 0 .nil) s.length (.grow [])))=r4 at*
  refine cY ⟨?_⟩
  refine fP (λm I R aP=>∃(W n:Nat),I.g 99=some (.el j 0 s.length 1)/\I.g 100=some (.Z (s.length:Int))/\I.g 101=some (.Z (W:Int))/\I.g 13=some (.int .u64 (n:Int))/\I.g 10=some (.int .u64 1844674407370955162)/\I.g 11=some (.int .u64 18446744073709551615)/\I.g 12=some .zF/\I.g 8=some .zF/\I.g 1=some (.Z 10)/\W+m=s.length/\n<18446744073709551616/\R=r4/\j+1<=aP/\sS s 0=sS (s.drop W) n)
   s.length ⟨0,0,bt,bt,gc,gc,bt,bt,bt,bt,bt,Zo,Zo,rfl,Zo,rfl⟩ ?_
  rintro m I aQ bc ⟨W,n,K5,Hw,K3,kn,mR,qD,oG,iQ,t1,bx,aBP,rfl,lX,av⟩
  have cu:bG X h j aQ bc:=⟨Zo,C3.ad⟩
  cases m with
  |zero=>
   have fG:=zD W s.length
   rw[ZJ (by omega:s.length<=W),sS]at av
   rw[av]
   refine ht @K3 @Hw @oG @kn @fG ⟨?_⟩
   exact⟨rfl,cu⟩
  |succ m=>
   have fG:=zE W s.length
   have bw:=zH W
   obtain⟨c,ax⟩:=zF s W
   have aI:s.drop W=c::s.drop (W+1):=by
    obtain⟨af,D⟩:=Zb.1 ax
    rw[Zz af,D]
   have Nb:=ah c (Zn ax)
   have dV:iv 1 (.el j 0 s.length 1) (.Z (W:Int))=some (.ptr j W):=by rw[DK _ Zo];simp
   have yi:aV X aQ (.ptr j W)=some (.int .u8 (c:Int)):=by rw[bX Rq,mg];simp[ax]
   rw[aI,sS]at av
   rw[av]
   have aCz:decide ((c:Int)=95)=decide (c=95):=by simp;omega
   have Bw:mw .u8 (.Z 10)=some (.int .u8 10):=rfl
   by_cases pD:iM c=true
   ·have Sj:48<=c/\c<=57:=by simpa[iM]using pD
    rw[Zq pD]
    have wM:decide ((c:Int)=95)=false:=by simp;omega
    have bJ:decide ((48:Int)<=(c:Int))=true:=by simp;omega
    have b2:decide ((c:Int)<=57)=true:=by simp;omega
    have cF:bm .sub (.int .u8 (c:Int)) (.int .u8 48)=some (.int .u8 ((c-48:Nat):Int)):=ad7 (e:=48) Zo Nb
    have fb:decide ((10:Int)<=((c-48:Nat):Int))=false:=by simp;omega
    by_cases Nf:1844674407370955162<=n
    ·rw[Zq Nf]
     have eS:decide ((1844674407370955162:Int)<=(n:Int))=true:=by simp;omega
     refine eD @K3 @Hw @K5 @iQ @t1 @fG (Za @dV (Za @yi (Za @wM (Za @bJ (Za @b2 (Za @cF (Za @fb (Za @Bw (Za @kn (Za @mR (Za @eS @qD))))))))))) ⟨?_⟩
     exact⟨rfl,cu⟩
    ·rw[Zg Nf]
     have eS:decide ((1844674407370955162:Int)<=(n:Int))=false:=by simp;omega
     have eK:bm .mul (.int .u64 (n:Int)) (.int .u64 10)=some (.int .u64 ((n*10:Nat):Int)):=atP (e:=10) Zo
     have gG:((c-48:Nat):Int)%18446744073709551616=((c-48:Nat):Int):=Y6 Zo Zo
     by_cases JJ:18446744073709551616<=n*10+(c-48)
     ·rw[Zq JJ]
      have h8:bm .add (.int .u64 ((n*10:Nat):Int)) (.int .u64 ((c-48:Nat):Int))=some (.int .u64 ((n*10+(c-48) -18446744073709551616:Nat):Int)):=by
       have arT:(((n*10:Nat):Int)+((c-48:Nat):Int))%18446744073709551616=((n*10+(c-48) -18446744073709551616:Nat):Int):=Zo
       rw[ad5,arT]
      have hw:decide (((n*10+(c-48) -18446744073709551616:Nat):Int)<((n*10:Nat):Int))=true:=by simp only[Zi];omega
      refine eD @K3 @Hw @K5 @iQ @t1 @fG (Za @dV (Za @yi (Za @wM (Za @bJ (Za @b2 (Za @cF (Za @fb (Za @Bw (Za @kn (Za @mR (Za @eS (Za @aan (Za @eK (Za @gG (Za @h8 (Za @hw @qD)))))))))))))))) ⟨?_⟩
      exact⟨rfl,cu⟩
     ·have Gz:=av
      rw[Zq pD,Zg Nf,Zg JJ]at Gz
      rw[Zg JJ]
      have h8:bm .add (.int .u64 ((n*10:Nat):Int)) (.int .u64 ((c-48:Nat):Int))=some (.int .u64 ((n*10+(c-48):Nat):Int)):=atO Zo
      have hw:decide (((n*10+(c-48):Nat):Int)<((n*10:Nat):Int))=false:=by simp only[Zc];omega
      have qv:decide ((18446744073709551615:Int)<((n*10+(c-48):Nat):Int))=false:=by simp only[Zc];omega
      refine eD @K3 @Hw @K5 @iQ @t1 @fG (Za @dV (Za @yi (Za @wM (Za @bJ (Za @b2 (Za @cF (Za @fb (Za @Bw (Za @kn (Za @mR (Za @eS (Za @aan (Za @eK (Za @gG (Za @h8 (Za @hw (Za @qv (Za @qD @bw)))))))))))))))))) ⟨?_⟩
      exact⟨m,Zo,W+1,n*10+(c-48),a6 K5,a6 Hw,bt,bt,a6 mR,a6 qD,a6 oG,a6 iQ,a6 t1,Zo,Zo,rfl,Zo,by first|exact Gz|rw[Gz]|rfl⟩
   ·have Sj:¬(48<=c/\c<=57):=by simpa[iM]using pD
    rw[Zg pD]
    have ahv:qw c<256:=zq _ Zo
    have cP:decide ((97:Int)<=(qw c:Int))=decide (97<=qw c):=by simp;omega
    have cG:decide ((qw c:Int)<=122)=decide (qw c<=122):=by simp;omega
    have bJ:decide ((48:Int)<=(c:Int))=decide (48<=c):=by simp;omega
    have b2:decide ((c:Int)<=57)=decide (c<=57):=by simp;omega
    have fin:97<=qw c->qw c<=122->∃aG:Nat,bm .sub (.int .u8 (qw c:Int)) (.int .u8 97)=some (.int .u8 ((qw c-97:Nat):Int))/\bm .add (.int .u8 ((qw c-97:Nat):Int)) (.int .u8 10)=some (.int .u8 ((qw c-97+10:Nat):Int))/\decide ((10:Int)<=((qw c-97+10:Nat):Int))=true:=λH K=>
     ⟨0,ad7 (e:=97) H ahv,atN (e:=10) Zo,by simp only[Zi];omega⟩
    by_cases aA1:c=95<;>by_cases apP:48<=c<;>by_cases apQ:c<=57<;>try omega
    all_goals
     simp only[apP,apQ,YH,Yw]at bJ b2
     first|have aem:decide ((c:Int)=95)=true:=by simp only[Zi];omega|have aem:decide ((c:Int)=95)=false:=by simp only[Zc];omega
     refine eD @K3 @Hw @K5 @iQ @t1 @fG (Za @dV (Za @yi (Za @aem (Za @bJ @b2)))) ⟨?_⟩
     refine(Ud az.todN c).Zm ?_
     rintro ac br bL ⟨rfl,rfl,rfl⟩
     by_cases lu:97<=qw c
     ·simp only[lu,YH]at cP
      refine cq @cP ⟨?_⟩
      refine(Ud az.todN c).Zm ?_
      rintro ac br bL ⟨rfl,rfl,rfl⟩
      by_cases la:qw c<=122
      ·simp only[la,YH]at cG
       refine cq @cG ⟨?_⟩
       refine(Ud az.todN c).Zm ?_
       rintro ac br bL ⟨rfl,rfl,rfl⟩
       obtain⟨_,ef,ev,f3⟩:=fin lu la
       refine ht @ef @ev @f3 @Bw @t1 ⟨?_⟩
       exact⟨rfl,cu⟩
      ·simp only[la,Yw]at cG
       refine cq @cG ⟨?_⟩
       exact⟨rfl,cu⟩
     ·simp only[lu,Yw]at cP
      refine cq @cP ⟨?_⟩
      exact⟨rfl,cu⟩
end
structure mo(X:co):Prop where
 ayw:∃b,∀h,aV X h (.ptr 5 0)=some (.iface 231 (.ptr b 0))
 seven:∃b,∀h,aV X h (.ptr 6 0)=some (.iface 231 (.ptr b 0))
section
variable{X:co}{h R aU aQ:S ai}{j ap aL bc fZ:Nat}{s:aW}{i:Nat}
def anH:dv X h .eql 119 false (.iface 185 (.Z 2)) (.iface 185 (.Z 2))=some .zT:=Zk
def anG:dv X h .eql 119 false (.iface 185 (.Z 1)) (.iface 185 (.Z 2))=some .zF:=Zk
def anF:dv X h .eql 119 false (.iface 185 (.Z 1)) (.iface 185 (.Z 1))=some .zT:=Zk
def Hb(o:Int):dv X h .neq 119 true (.iface 185 (.Z o)) .nilIface=some .zT:=Zk
def D9:dv X h .neq 119 true .nilIface .nilIface=some .zF:=Zk
def aff(b:Nat):dv X h .neq 119 true (.iface 187 (.ptr b 0)) .nilIface=some .zT:=Zk
def azl(az:jd X)(cd:mo X)(f:aW)(aD:s.length<=65536)(pB:∀c∈s,c<256)(aM:(q X).bf<=j):
 ba X 122 [.str f, .str s] h j (λac R ap=>(∃b,ac= .ptr b 0)/\bG X h j R ap) (λ_ _ _=>False):=by
 refine zJ az.todN (ahS X) ?_
 rw[ahT]
 unfold V4
 obtain⟨b,ah⟩:=cd.ayw
 refine cq @ah ⟨?_⟩
 refine FH (az.clone s pB aD) ?_
 refine cq @ah ⟨?_⟩
 refine ka (by simp[z.same]) ?_
 exact⟨⟨_,rfl⟩,dS⟩
def axt(az:jd X)(cd:mo X)(f:aW)(aD:s.length<=65536)(pB:∀c∈s,c<256)(aM:(q X).bf<=j):
 ba X 123 [.str f, .str s] h j (λac R ap=>(∃b,ac= .ptr b 0)/\bG X h j R ap) (λ_ _ _=>False):=by
 refine zJ az.todN (ahU X) ?_
 rw[ahV]
 unfold V5
 obtain⟨b,ah⟩:=cd.seven
 refine cq @ah ⟨?_⟩
 refine FH (az.clone s pB aD) ?_
 refine cq @ah ⟨?_⟩
 refine ka (by simp[z.same]) ?_
 exact⟨⟨_,rfl⟩,dS⟩
def Mr(az:jd X)(cd:mo X)(f:aW)(x e:z)(aD:s.length<=65536)(pB:∀c∈s,c<256)(aM:(q X).bf<=j){o:Nat}(aC:o=1\/o=2):
 ba X 92 [.str f, .str s,x,e,v7 o] h j (λac R ap=>(∃b,ac= .iface 187 (.ptr b 0))/\bG X h j R ap) (λ_ _ _=>False):=by
 refine zJ az.todN (aky X) ?_
 rw[akz]
 unfold Xt
 rcases aC with rfl|rfl
 ·have bw:v7 1= .iface 185 (.Z 1):=rfl
  rw[bw]
  refine dd @anG @anF ⟨?_⟩
  refine(axt az cd f aD pB aM).Zm ?_
  rintro ac br bL ⟨⟨b,rfl⟩,cz⟩
  refine cY ⟨?_⟩
  exact⟨⟨_,rfl⟩,cz⟩
 ·have bw:v7 2= .iface 185 (.Z 2):=rfl
  rw[bw]
  refine cq @anH ⟨?_⟩
  refine(azl az cd f aD pB aM).Zm ?_
  rintro ac br bL ⟨⟨b,rfl⟩,cz⟩
  refine cY ⟨?_⟩
  exact⟨⟨_,rfl⟩,cz⟩
def axe:∀(k:aW) (n:Nat),(sS k n).2=0\/(sS k n).2=1\/(sS k n).2=2:=by
 intro k
 induction k with
 |nil=>intro n;exact .inl rfl
 |cons c k ag=>
  intro n
  rw[sS]
  split
  ·split
   ·exact .inr (.inl rfl)
   ·split
    ·exact .inr (.inl rfl)
    ·exact ag _
  ·exact .inr (.inr rfl)
def afT(k:aW):(kH k).2=0\/(kH k).2=1\/(kH k).2=2:=by
 unfold kH;split
 ·exact .inr (.inr rfl)
 ·exact axe _ _
def awN(az:jd X)(cd:mo X)(aD:s.length<=65536)(ah:∀c∈s,c<256)(aM:(q X).bf<=j):
 ba X 54 [.str s, .Z 10, .Z 64] h j (λac R ap=>(∃B,ac= .tuple [.int .u64 ((kH s).1:Int),B]/\((kH s).2=0/\B= .nilIface\/(kH s).2≠0/\∃b,B= .iface 187 (.ptr b 0)))/\bG X h j R ap) (λ_ _ _=>False):=by
 refine zJ az.todN (ajI X) ?_
 rw[ajJ]
 unfold WZ
 refine(agO az aD ah aM (.inr rfl)).Zm ?_
 rintro ac br bL ⟨rfl,cz⟩
 have jo:=cz.le
 rcases afT s with a|a|a
 ·rw[a]
  have bw:v7 0= .nilIface:=rfl
  rw[bw]
  refine cq @D9 ⟨?_⟩
  exact⟨⟨_,rfl, .inl ⟨rfl,rfl⟩⟩,cz⟩
 ·rw[a]
  have bw:v7 1= .iface 185 (.Z 1):=rfl
  rw[bw]
  refine cq @Hb ⟨?_⟩
  refine(Mr (j:=bL) (h:=br) az cd [80,97,114,115,101,85,105,110,116] (.Z 10) (.Z 64) aD ah (Zy aM jo) (o:=1) Zd).Zm ?_
  rintro ac b0 cU ⟨⟨b,rfl⟩,dz⟩
  refine cY ⟨?_⟩
  exact⟨⟨_,rfl, .inr ⟨Zd,b,rfl⟩⟩,cz.trans dz⟩
 ·rw[a]
  have bw:v7 2= .iface 185 (.Z 2):=rfl
  rw[bw]
  refine cq @Hb ⟨?_⟩
  refine(Mr (j:=bL) (h:=br) az cd [80,97,114,115,101,85,105,110,116] (.Z 10) (.Z 64) aD ah (Zy aM jo) (o:=2) Zd).Zm ?_
  rintro ac b0 cU ⟨⟨b,rfl⟩,dz⟩
  refine cY ⟨?_⟩
  exact⟨⟨_,rfl, .inr ⟨Zd,b,rfl⟩⟩,cz.trans dz⟩
end
def VM(B:z):Prop:=B= .nilIface\/B= .iface 185 (.Z 1)\/B= .iface 185 (.Z 2)
def Cm(s:aW):Prop:=∀c∈s,c≠43/\c≠45
def xf(s:aW):Nat:=s.foldl (λn c=>n*10+(c-48)) 0
def axf:∀(k:aW) (n:Nat),n<18446744073709551616->(sS k n).1<18446744073709551616:=by
 intro k
 induction k with
 |nil=>intro n a;exact a
 |cons c k ag=>
  intro n a
  rw[sS]
  split
  ·split
   ·show 18446744073709551615<_;omega
   ·split
    ·show 18446744073709551615<_;omega
    ·exact ag _ Zo
  ·show 0<_;omega
def afU(k:aW):(kH k).1<18446744073709551616:=by
 unfold kH;split
 ·show 0<_;omega
 ·exact axf _ _ Zo
section
variable{X:co}{h R aU aQ:S ai}{j ap aL bc fZ:Nat}{s:aW}{i:Nat}
def afh:dv X h .neq 119 false (.iface 185 (.Z 1)) (.iface 185 (.Z 1))=some .zF:=Zk
def afi:dv X h .neq 119 false (.iface 185 (.Z 2)) (.iface 185 (.Z 1))=some .zT:=Zk
def aeb(az:jd X)(aD:s.length<=65536)(ah:∀c∈s,c<256)(yv:Cm s)(aM:(q X).bf<=j):
 ba X 145 [.str s, .Z 10, .Z 0] h j (λac R ap=>(∃aG B,ac= .tuple [.Z aG,B]/\VM B)/\bG X h j R ap) (λ_ _ _=>False):=by
 refine zJ az.todN (aie X) ?_
 rw[aif]
 unfold Wf
 by_cases a8:s=[]
 ·subst a8
  have d:decide (([]:List Nat)=[])=true:=rfl
  refine cq @d ⟨?_⟩
  exact⟨⟨_,_,rfl, .inr (.inr rfl)⟩,bG.refl _ _⟩
 have d:decide (s=[])=false:=by simp[a8]
 obtain⟨c,e1,rfl⟩:∃c e1,s=c::e1:=by cases s with
  |nil=>exact absurd rfl a8
  |cons c e1=>exact⟨c,e1,rfl⟩
 have dV:nQ (.str (c::e1)) (.Z 0)=some (.int .u8 (c:Int)):=Bs (i:=0) .i64 rfl
 have ax:=yv c (Zu ..)
 have bJ:decide ((c:Int)=43)=false:=by simp only[Zc];omega
 have b2:decide ((c:Int)=45)=false:=by simp only[Zc];omega
 refine hm @d @dV @bJ @b2 ⟨?_⟩
 refine(agO az aD ah aM (.inl rfl)).Zm ?_
 rintro ac br bL ⟨rfl,cz⟩
 have jo:=cz.le
 generalize av:kH (c::e1)=p
 have Dm:=afT (c::e1)
 have sB:=afU (c::e1)
 rw[av]at Dm sB
 obtain⟨La,aAV⟩:=p
 simp only[]at Dm sB ⊢
 have mZ:decide ((0:Int)=0)=true:=rfl
 have kI:bm .sub (.Z 64) (.Z 1)=some (.Z 63):=rfl
 have lB:(63:Int)%18446744073709551616=63:=rfl
 have UZ:bm .shl (.int .u64 1) (.int .u64 63)=some (.int .u64 9223372036854775808):=rfl
 have ax8:bm .sub (.int .u64 9223372036854775808) (.int .u64 1)=some (.int .u64 9223372036854775807):=rfl
 have ax9:mw .i64 (.int .u64 9223372036854775807)=some (.Z 9223372036854775807):=rfl
 rcases Dm with rfl|rfl|rfl
 all_goals
  simp only[show v7 0= .nilIface from rfl,show v7 1= .iface 185 (.Z 1) from rfl,show v7 2= .iface 185 (.Z 2) from rfl]
  by_cases Nf:9223372036854775808<=La
  ·have cI:decide ((9223372036854775808:Int)<=(La:Int))=true:=by simp only[Zi];omega
   refine eD @D9 @Hb @afh @afi @mZ @kI (Za @lB (Za @UZ (Za @cI (Za @ax8 @ax9)))) ⟨?_⟩
   exact⟨⟨_,_,rfl,by first|exact .inl rfl|exact .inr (.inl rfl)|exact .inr (.inr rfl)⟩,cz⟩
  ·have cI:decide ((9223372036854775808:Int)<=(La:Int))=false:=by simp only[Zc];omega
   have aya:mw .i64 (.int .u64 (La:Int))=some (.Z (La:Int)):=QM Zo Zo
   refine eD @D9 @Hb @afh @afi @mZ @kI (Za @lB (Za @UZ (Za @cI @aya))) ⟨?_⟩
   exact⟨⟨_,_,rfl,by first|exact .inl rfl|exact .inr (.inl rfl)|exact .inr (.inr rfl)⟩,cz⟩
end
end
end Go.Proofs.YtendhgofocgngaaGreatDoor

