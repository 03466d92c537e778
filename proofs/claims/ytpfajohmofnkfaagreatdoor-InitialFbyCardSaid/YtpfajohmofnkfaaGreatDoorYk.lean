/- A part of the last text's proof; no condition of its own -/
import Derived.Test.YtpfajohmofnkfaaGreatDoorYj
set_option maxHeartbeats 8000000
set_option linter.all false
namespace Go.Proofs.YtpfajohmofnkfaaGreatDoor
open Go.bd
noncomputable section
variable (X : cb) (h : K ag) (j : Nat) (ak av : bI) (a0 ba cj a3 a4 a5 hy h3 h4 : D)
def MX(a:aL)(b c:D)(d:K ag)(e:Nat)(f g:bI):Prop:=
 ax (dw a d .eql 47 true b .cx) λh=>hr h c d e λd e i=>hr h b e i λe i j=>Jb h (λb=>iz a d [e] i j b g) i j λd e i=>dh (λd=>bB (λb c d=>kP b 0 8 a c λ_ _ e=>je e (λ_ a b=>f (.tuple []) a b) λf h=>fF (λb c d e=>hJ c 19 18 λf=>bB (λc d e=>uc (λa c d=>gU a 19 λe=>b (aa a 19 e) c d) c 17 19 a d λb f=>sL c λh=>aY a 18 [f,h] d e (λ_ a d=>b (aa c 5 f) a d) g) λa=>aZ f (a (aa c 20 f) d e) (h (aa c 20 f) d e)) (zz b 17 e 18 f 19 (.Z 0)) c d) λa=>aZ d (f (.tuple []) e i) (a (aa (cO [b,c]) 13 d) e i)) λa=>aZ h (a .zT) (a d)
def Rn:dg X 18 [a0,ba] h j ak av=MX X a0 ba h j ak av:=Zk
def Rm:cW X 18 2=true:=Zk
def X8(a:aL)(b:D)(c:K ag)(d:Nat)(e f:bI):Prop:=
 BL d a c λc d g=>aY a 40 [b] d g (λd g h=>F4 d λd=>bB (λb c d=>ot b a c λg=>je g (λb c d=>F5 λf=>mq b 2 a c 2 f λa b=>e b a d) λh i=>fF (λb c d g=>hJ c 15 14 λh=>bB (λc d g=>Jk (λa c d=>gU a 15 λe=>b (aa a 15 e) c d) c 15 13 λb h i j=>DB i j a d g λd g i=>eQ c λj=>F7 a i 6 d 32 g f λg i k=>gw a i k (.map k) (.map [] 0) λi k l=>ax (e8 [.cx, .Z 0, .cx, .mi, .Z 0, .Z 0] [(0,1,j),(1,1,h),(2,1,g),(3,1,i)]) λg=>iv a k l g λg i j=>aY a 71 [g] i j (λ_ f i=>kB g 4 λj=>kQ j a f λj=>F4 j λj=>bB b λb=>aZ j (kB g 4 λb=>xy a f b λb=>mq c 2 a f 2 b λa b=>e b a i) (b (zA c 4 d 3 h 5 g 34 j) f i)) f) λa=>aZ h (a (aa c 16 h) d g) (i (aa c 16 h) d g)) (zz b 13 g 14 h 15 (.Z 0)) c d) λf=>aZ d (ax (e8 [.Z 0, .Z 0] [(0,1, .Z 1)]) λb=>DD a g 2 c b λa b=>e b a h) (f (zy (cO [b]) 2 c 8 d) g h)) f
def alb:dg X 20 [a0] h j ak av=X8 X a0 h j ak av:=Zk
def ala:cW X 20 1=true:=Zk
def aap(a:aL)(b:D)(c:K ag)(d:Nat)(e f:bI):Prop:=
 Q3 a c b λg=>hr g b c d λc d h=>F9 g c d h 0 a λc d h=>fJ g (gy c) d h λc d h=>fJ g (bq .eql c (.Z 0)) d h λc d h=>dh (λc=>hr c b d h λd g h=>F9 c d g h 0 a λd g h=>fJ c (gy d) g h λd g h=>fJ c (bq .gtr d (.Z 64)) g h λd g h=>dh (λc=>bB (λb c d=>ot b a c λg=>je g (λa b c=>qb a λa=>e a b c) λh i=>fF (λb c d g=>hJ c 30 29 λh=>bB (λc d g=>mN (λa c d=>gU a 30 λe=>b (aa a 30 e) c d) c 28 30 λb h i=>DB h i a d g λd g h=>F7 a h 6 d 92 g f λa f g=>bB b λb=>oq a 1 b λb h=>aZ b (e a f g) (oq a 22 h λe h=>aZ e (h (zy (zA c 5 d 6 a 36 a 37 b) 40 e 3 a) f g) (h (aa (zA c 5 d 6 a 36 a 37 b) 40 e) f g))) λa=>aZ h (a (aa c 31 h) d g) (i (aa c 31 h) d g)) (zA b 3 (.Z 0) 28 g 29 h 30 (.Z 0)) c d) λa=>aZ c (e (.Z 1) g h) (a (zy (cO [b]) 2 (.Z 0) 24 c) g h)) λa=>aZ c (a .zT) (a d)) λa=>aZ g (a .zT) (a c)
def al8:dg X 40 [a0] h j ak av=aap X a0 h j ak av:=Zk
def al7:cW X 40 1=true:=Zk
def ahu(a:aL)(b:bI):fg:=λc d e=>nI a [] b c c.bc d e
def FB(a:aL)(b c:bI):sZ:=λd e f g=>wP a [] b c d e d.bc f g
def aaz(a:aL)(b:D)(c:K ag)(d:Nat)(e f:bI):Prop:=
 iv a c d b λc d g=>fb (g+15) λh=>BP a d c 0 λ_ i=>h1 i 0 a d λ_ i=>BP a d c 1 λ_ j=>F6 6 i j a d λi=>ax (km [.str [], .Z 0, .aV, .aV, .aV, .aV] (g+13)) λj=>mF a d (g+13) j.1 j.2 λd g=>ax (gj a g 6 d i) λg=>fb (h+12) λh=>BP a g c 0 λ_ i=>kQ d a g λj=>aY a 79 [i,j] g h (λg h i=>hn g λg _=>BP a h c 1 λ_ j=>ax (bq .lss g j) λj=>bB (λb c d=>lh b 1 a c λg=>sP b 2 a c 6 λh=>aY a 120 [g,h] c d (λ_ c d=>jL b 2 5 a c λ_ g=>je g (λb c d=>sP b 2 a c 6 λg=>aY a 78 [g] c d (λc d g=>bB (λb c d=>ahu a e b c d) λh=>FE a 103 c [85,86] (tV a (λ_ _ b _ _ c d e=>cL (c 85) λf=>Jh e a d λd e g=>cL (c 86) λh=>ax (gj a e 8 d h) λa=>b (zy c 10 f 11 d) a g) λ_ b c _ _ d e f=>bB c λc=>fb (f+12) λf=>cL (d 10) λg=>ax (bq .neq g (.Z 1)) λg=>US g (d 1) (λb=>aO a e b) e λe h=>kd g (rN e) h λe h=>kd g (hv 3 e) h λe h=>kd g (aO a h e) h λe h=>US g (d 11) (λa=>hv 0 a) h λh i=>kd g (aO a i h) i λh i=>kd g (lO a i 9 (.Z 0) e h false) i λe h=>kd g (bq .eql e (.Z 0)) h λe h=>dh (λe=>bB c λc=>aZ e (lh d 1 a h λg=>jL d 11 1 a h λ_ i=>aY a 119 [g, .Z 37,i] h f (λ_ a b=>c (aa d 98 e) a b) (b (hL [99,100,101,102] (aa d 98 e)))) (c (aa d 98 e) h f)) λa=>aZ g (a e) (a .zF)) h (Eg 4 h λ_ _ _ _=>False) (ahu a e) (FB a e f) (aa b 84 c) d g) (FB a e f (hL [83,84] b))) λh i=>fF (λb c d g=>hJ c 51 50 λh=>bB (λc d g=>F2 (λa c d=>gU a 51 λe=>b (aa a 51 e) c d) c 49 51 a d g λb d g h=>kQ d a h λi=>je i (λc d g=>lh c 1 a d λh=>jL c 6 3 a d λ_ i=>aY a 122 [h,i] d g (λ_ a d=>b c a d) (FB a e f (hL [78,79,80,81] c))) λb j=>fF (λb c d g=>hJ c 58 57 λh=>bB (λc d g=>Jk (λa c d=>gU a 58 λe=>b (aa a 58 e) c d) c 58 56 λb h i j=>F8 i j a d λi=>jL c 6 1 a d λ_ j=>ax (gy j) λj=>ax (bq .lss h j) λj=>bB (λc d g=>lh c 1 a d λh=>gt c 8 9 λi j=>aY a 121 [h,i,j] d g (λ_ a d=>b c a d) (FB a e f (hL [73,74,75,76] c))) λb=>aZ j (jL c 6 1 a d λ_ e=>F8 e h a d λa=>b (aa (zA c 7 h 8 i 9 (.Z 0) 67 j) 9 a) d g) (b (zA c 7 h 8 i 9 (.Z 0) 67 j) d g)) λa=>aZ h (a (aa c 59 h) d g) (j (aa c 59 h) d g)) (zA c 6 d 56 i 57 b 58 (.Z 0)) h g) λa=>aZ h (a (aa c 52 h) d g) (i (aa c 52 h) d g)) (zz b 49 g 50 h 51 (.Z 0)) c d) (FB a e f (hL [45,46,47] b))) λk=>aZ j (ax (aO a h c) λl=>fy 1 d a h λ_ m=>aY a 119 [l, .Z 24,m] h i (λ_ a e=>k (zA (cO [b]) 1 c 2 d 3 g 40 j) a e) (FB a e f (hL [41,42,43,44] (zA (cO [b]) 1 c 2 d 3 g 40 j)))) (k (zA (cO [b]) 1 c 2 d 3 g 40 j) h i)) (FB a e f (hL [26,27,28,29,30,31,32,25,33,34,3,4] (zy (cO [b]) 1 c 2 d)))
def amm:Cl X 71 [a0] h j ak av=aaz X a0 h j ak av:=Zk
def aml:cW X 71 1=true:=Zk
def aaC(a:aL)(b:D)(c:K ag)(d:Nat)(e _:bI):Prop:=
 iv a c d b λa b c=>e (.func (.func 132) [] [a]) b c
def amq:dg X 78 [a0] h j ak av=aaC X a0 h j ak av:=Zk
def amp:cW X 78 1=true:=Zk
def aaD(a:aL)(b c:D)(d:K ag)(e:Nat)(f g:bI):Prop:=
 iv a d e c λd e h=>Q3 a e b λi=>bB (λb c d=>ot b a c λe=>qb b λb=>aY a 133 [e, .func (.func 134) [] [b]] c d (λb c d=>ax (qY a c .max [3,3] [b, .Z 0]) λa=>Gb b λb=>f (.tuple [a,b]) c d) g) λa=>aZ i (f (.tuple [.Z 0, .zF]) e h) (a (zA (cO [b,c]) 3 d 4 (.Z 0) 5 .zF 8 i) e h)
def ams:dg X 79 [a0,ba] h j ak av=aaD X a0 ba h j ak av:=Zk
def amr:cW X 79 2=true:=Zk
def aaG(a:aL)(b:D)(c:K ag)(d:Nat)(e f:bI):Prop:=
 iv a c d b λc d g=>fy 2 c a d λ_ h=>ax (gy h) λh=>fy 3 c a d λ_ i=>Jd i h λh=>fy 4 c a d λ_ i=>Jd i h λh=>kQ c a d λi=>aY a 140 [i] d g (λd g i=>ax (hp .not d) λd=>sM d 3 c g i a λg i j=>fJ d (gy g) i j λg i j=>fJ d (bq .eql g (.Z 0)) i j λg i j=>dh (λd=>hr d h i j λg i j=>fJ d (bq .gtr g (.Z 256)) i j λg i j=>dh (λd=>sM d 5 c i j a λg i j=>fJ d (gy g) i j λg i j=>fJ d (bq .gtr g (.Z 4096)) i j λg i j=>dh (λd=>sM d 2 c i j a λg i j=>sM d 3 c i j a λi j k=>sM d 4 c j k a λj k l=>m3 d (λb=>ax (hi 3 [.aV, .aV, .aV] [(0,1,g),(1,1,i),(2,1,j)] l) λc=>gw a k l c.1 c.2 λa c d=>b a c d) k l λg i j=>m3 d (λb=>aY a 142 [g] i j b f) i j λg i j=>Jb d (λb=>aY a 141 [g] i j b f) i j λg i j=>dh (λd=>bB (λb c d=>jL b 1 5 a c λ_ g=>je g (λa b c=>ov a λa=>e a b c) λh i=>fF (λb c d g=>hJ c 55 54 λh=>bB (λc d g=>F2 (λa c d=>gU a 55 λe=>b (aa a 55 e) c d) c 53 55 a d g λb d g h=>fy 3 d a h λ_ i=>aY a 144 [i] h g (λg h i=>kQ d a h λj=>ax (gy j) λj=>ax (bq .eql j (.Z 0)) λj=>sM j 0 d h i a λh i k=>hr j (.func (.func 143) [] []) i k λi k l=>m3 j (λb=>aY a 145 [h,i] k l b f) k l λa f h=>dh (λa=>hr a g f h λf h i=>fJ a (bq .eql f (.Z 1)) h i λf h i=>dh (λa=>bB (λa c d=>cL (a 8) λe=>F4 e λe=>bB b λb=>aZ e (cL (a 8) λf=>b (zy a 77 e 4 f) c d) (b (aa a 77 e) c d)) λb=>aZ a (e (.Z 1) h i) (b (zA c 6 d 7 (.func (.func 143) [] []) 8 g 75 a) h i)) λb=>aZ a (b .zT) (b f)) λb=>aZ j (b .zT) (b a)) f) λa=>aZ h (a (aa c 56 h) d g) (i (aa c 56 h) d g)) (zA b 4 (.Z 0) 53 g 54 h 55 (.Z 0)) c d) λa=>aZ d (e (.Z 1) i j) (a (zA (cO [b]) 1 c 2 (.Z 0) 3 h 51 d) i j)) λa=>aZ d (a .zT) (a g)) λa=>aZ d (a .zT) (a g)) λa=>aZ d (a .zT) (a g)) λa=>aZ d (a .zT) (a g)) f
def amy:dg X 92 [a0] h j ak av=aaG X a0 h j ak av:=Zk
def amx:cW X 92 1=true:=Zk
def Xh(a:aL)(b:D)(c:K ag)(d:Nat)(e f:bI):Prop:=
 aY a 177 [b,.Z 201] c d e f
def ajf:dg X 118 [a0] h j ak av=Xh X a0 h j ak av:=Zk
def aje:cW X 118 1=true:=Zk
def Xi(a:aL)(b c d:D)(e:K ag)(f:Nat)(g _:bI):Prop:=
 kB b 4 λh=>Ga h a e 0 λh=>bB (λ_ a b=>g (.tuple []) a b) λg=>aZ h (ax (e8 [.Z 0, .Z 0] [(0,1,c),(1,1,d)]) λi=>kB b 4 λj=>rP a e j i λa=>g (aa (cO [b,c,d]) 11 h) a f) (g (aa (cO [b,c,d]) 11 h) e f)
def ajh:dg X 119 [a0,ba,cj] h j ak av=Xi X a0 ba cj h j ak av:=Zk
def ajg:cW X 119 3=true:=Zk
def V1(a:aL)(b:bI):fg:=λc d e=>nI a [] b c c.bc d e
def P7(a:aL)(b c:bI):sZ:=λd e f g=>wP a [] b c d e d.bc f g
def Xj(a:aL)(b c:D)(d:K ag)(e:Nat)(f g:bI):Prop:=
 iv a d e b λd e h=>iv a e h c λe h i=>aiF a h i λh i j=>ax (d8 a j 6 e) λk=>aY a 78 [k] j i (λi j k=>bB (λb c d=>sP b 3 a c 6 λe=>aY a 78 [e] c d (λc d e=>bB (λb c d=>V1 a f b c d) λh=>FE a 54 c [31,32] (tV a (λ_ _ b _ _ c d e=>Jh e a d λd e f=>cL (c 32) λg=>ax (gj a e 8 d g) λa=>b (aa c 8 d) a f) λ_ b c _ _ d e f=>bB c λc=>fb (f+13) λg=>y4 d 2 a e 2 λh=>jL d 8 5 a e λ_ i=>QW f 10 a e λe f=>aY a 34 [h,i] f g (λf g h=>hn f λf i=>ax (gj a g 11 e f) λe=>ax (hp .not i) λf=>Q6 f d 8 (λa=>hv 5 a) e h a λe g h=>eZ f (dw a g .neq 9 true e (.str [])) g h λe g h=>dh (λe=>bB c λc=>aZ e (lh d 2 a g λf=>jL d 8 6 a g λ_ j=>aY a 119 [f, .Z 23,j] g h (λ_ a b=>c (zy d 10 i 49 e) a b) (b (hL [50,51,52,53] (zy d 10 i 49 e)))) (c (zy d 10 i 49 e) g h)) λa=>aZ f (a e) (a .zF)) (b (hL [34,35,36,37,38,39,40,33,41,42,9,10] d))) h (Eg 2 h λ_ _ _ _=>False) (V1 a f) (P7 a f g) (aa b 30 c) d e) (P7 a f g (hL [29,30] b))) λl=>FE a 54 i [14,15] (tV a (λ_ _ b _ _ c d e=>cL (c 14) λf=>Jh e a d λd e g=>cL (c 15) λh=>ax (gj a e 8 d h) λa=>b (zy c 5 f 6 d) a g) λ_ b c _ _ d e f=>bB c λc=>lh d 4 a e λg=>jL d 6 0 a e λ_ h=>ax (lO a e 9 (.Z 0) g h false) λg=>MH g λg=>bB (λb d e=>lh b 4 a d λf=>jL b 6 0 a d λ_ g=>ou b λh=>hZ (tL a d e 9 f g h) d e λ_ a d=>c b a d) λc=>aZ g (lh d 2 a e λh=>jL d 6 1 a e λ_ i=>aY a 119 [h, .Z 24,i] e f (λ_ a b=>c (aa d 20 g) a b) (b (hL [21,22,23,24] (aa d 20 g)))) (c (aa d 20 g) e f)) l (Eg 0 l λ_ _ _ _=>False) (V1 a f) (P7 a f g) (zA (cO [b,c]) 2 d 3 e 4 h 13 i) j k) (P7 a f g (hL [12,13] (zz (cO [b,c]) 2 d 3 e 4 h)))
def ajl:Cl X 120 [a0,ba] h j ak av=Xj X a0 ba h j ak av:=Zk
def ajk:cW X 120 2=true:=Zk
def Xk(a:aL)(b c d:D)(e:K ag)(f:Nat)(g h:bI):Prop:=
 h1 b 2 a e λ_ i=>WV a i c e f h λe f i j=>h1 b 3 a j λ_ k=>ax (lO a j 9 (.Z 0) k c false) λl=>DE l λl=>hZ (tL a j i 9 k c l) j i λ_ i j=>bB (λ_ a b=>g (.tuple []) a b) λg=>BO e g λg k=>aZ g (aY a 119 [b, .Z 23,d] i j (λ_ a h=>k (zz (cO [b,c,d]) 6 f 7 e 24 g) a h) h) (Ga f a i 1 λl=>hr l b i j λi j m=>F9 l i j m 3 a λi j m=>hr l c j m λj m n=>fJ l (lO a m 9 (.Z 0) i j false) m n λi j m=>fJ l (bq .gtr i (.Z 1)) j m λi j m=>dh (λi=>bB k λk=>aZ i (aY a 119 [b, .Z 24,d] j m (λ_ a h=>k (zA (cO [b,c,d]) 6 f 7 e 24 g 30 i) a h) h) (k (zA (cO [b,c,d]) 6 f 7 e 24 g 30 i) j m)) λa=>aZ l (a .zT) (a i))
def ajn:dg X 121 [a0,ba,cj] h j ak av=Xk X a0 ba cj h j ak av:=Zk
def ajm:cW X 121 3=true:=Zk
def Xl(a:aL)(b c:D)(d:K ag)(e:Nat)(f g:bI):Prop:=
 iv a d e b λb d e=>aY a 18 [c, .func (.func 178) [] [b]] d e (λ_ a b=>f (.tuple []) a b) g
def ajp:dg X 122 [a0,ba] h j ak av=Xl X a0 ba h j ak av:=Zk
def ajo:cW X 122 2=true:=Zk
def Xq(a:aL)(b c:D)(d:K ag)(e:Nat)(f g:bI):Prop:=
 WU c a d λh=>bB (λ_ a b=>f (.tuple []) a b) λi=>fF (λb c d e=>Ji c 14 3 λh=>bB (λc d e=>Jk (λa c d=>gU a 14 λe=>b (aa a 14 e) c d) c 14 13 λb h i j=>ax (uZ false 3 1 i j) λi=>DF i b λb j=>fF (λb c d e=>hJ c 20 19 λh=>bB (λc d e=>mN (λa c d=>gU a 20 λe=>b (aa a 20 e) c d) c 18 20 λb h i=>ML h i a d e λd e h=>gt c 0 3 λi j=>ax (bq .add (.Z 1) j) λj=>ax (d8 a h 8 d) λk=>iz a i [j,k] h e (λa e g=>BO a b λa b=>aZ a (f (.tuple []) e g) (b (zy c 6 d 29 a) e g)) g) λa=>aZ h (a (aa c 21 h) d e) (j (aa c 21 h) d e)) (aa (zA c 3 h 4 i 18 i 19 b) 20 (.Z 0)) d e) λa=>aZ h (a (aa c 15 h) d e) (i (aa c 15 h) d e)) (zy (cO [b,c]) 13 h 14 (.Z 0)) d e
def ajz:dg X 132 [a0,ba] h j ak av=Xq X a0 ba h j ak av:=Zk
def ajy:cW X 132 2=true:=Zk
def Xr(a:aL)(b c:D)(d:K ag)(e:Nat)(f g:bI):Prop:=
 je b (λ_ a b=>f (.Z (-1)) a b) λh i=>fF (λb c d e=>hJ c 8 7 λh=>bB (λc d e=>mN (λa c d=>gU a 8 λe=>b (aa a 8 e) c d) c 8 1 λb h i=>eQ c λj=>F6 6 j h a d λj=>iz a i [j] d e (λa d e=>bB b λb=>aZ a (f h d e) (b (zy c 5 h 16 a) d e)) g) λa=>aZ h (a (aa c 9 h) d e) (i (aa c 9 h) d e)) (zz (cO [b,c]) 4 (.Z 0) 7 h 8 (.Z 0)) d e
def ajB:dg X 133 [a0,ba] h j ak av=Xr X a0 ba h j ak av:=Zk
def ajA:cW X 133 2=true:=Zk
def Xs(a:aL)(b c:D)(d:K ag)(e:Nat)(f _:bI):Prop:=
 iv a d e b λb d e=>kQ b a d λb=>ax (aO a d c) λc=>ax (dw a d .eql 9 false b c) λa=>f a d e
def ajD:dg X 134 [a0,ba] h j ak av=Xs X a0 ba h j ak av:=Zk
def ajC:cW X 134 2=true:=Zk
def Xu(a:aL)(b:D)(c:K ag)(d:Nat)(e f:bI):Prop:=
 Jc a c b λg=>hr g b c d λc d h=>fJ g (m8 c) d h λc d h=>fJ g (bq .gtr c (.Z 32)) d h λc d h=>dh (λc=>hr c b d h λd g h=>fJ c (n9 d (.Z 0)) g h λd g h=>fJ c (bq .geq d (.int .u8 48)) g h λd g h=>hr c d g h λd g h=>ke d b g h λg h i=>eZ d (n9 g (.Z 0)) h i λg h i=>eZ d (bq .leq g (.int .u8 57)) h i λg h i=>m3 c (λa=>dh (λb=>a b h i) λa=>aZ d (a g) (a .zF)) h i λd g h=>dh (λc=>hr c b g h λd g h=>hr c (.func (.func 185) [] []) g h λg h i=>m3 c (λb=>aY a 186 [d,g] h i b f) h i λd g h=>fJ c (bq .geq d (.Z 0)) g h λd g h=>dh (λc=>bB (λb c d=>ax (aO a c (.ptr 2 0)) λg=>eQ b λh=>aY a 187 [g,h] c d (λc d g=>ax (hp .not c) λc=>oa c (b 0) d g λb d g=>MG c (λc=>aY a 188 [b] d g c f) d g λa b d=>dh (λa=>e a b d) λb=>aZ c (b a) (b .zF)) f) λa=>aZ c (e .zF g h) (a (zz (cO [b]) 2 .zF 3 (.func (.func 185) [] []) 26 c) g h)) λa=>aZ c (a .zT) (a d)) λa=>aZ c (a .zT) (a d)) λa=>aZ g (a .zT) (a c)
def ajH:dg X 140 [a0] h j ak av=Xu X a0 h j ak av:=Zk
def ajG:cW X 140 1=true:=Zk
def Xv(a:aL)(b:D)(c:K ag)(d:Nat)(e f:bI):Prop:=
 je b (λ_ a b=>e .zT a b) λg h=>fF (λb c d g=>hJ c 7 6 λi=>bB (λc d g=>mN (λa c d=>gU a 7 λe=>b (aa a 7 e) c d) c 5 7 λb h i=>ML h i a d g λd g h=>kQ d a h λi=>aY a 140 [i] h g (λg h i=>ax (hp .not g) λg=>fJ g (hv 2 d) h i λh i j=>fJ g (d8 a i 3 h) i j λh i j=>m3 g (λb=>aY a 128 [h] i j b f) i j λh i j=>fJ g (dw a i .eql 9 true h (.str [])) i j λh i j=>dh (λg=>sM g 5 d i j a λh i j=>fJ g (dw a i .neq 9 true h (.str [])) i j λh i j=>hr g h i j λh i j=>vl h 5 d i j a λi j k=>MG h (λb=>aY a 140 [i] j k b f) j k λf i j=>m3 g (λa=>dh (λb=>a b i j) λa=>aZ h (a f) (a .zF)) i j λf h i=>dh (λf=>sM f 5 d h i a λg h i=>fJ f (dw a h .eql 9 true g (.str [])) h i λg h i=>hr f g h i λg h i=>vl g 7 d h i a λa h i=>m3 f (λb=>dh (λa=>b a h i) λb=>aZ g (b a) (b .zF)) h i λa g h=>dh (λa=>bB b λb=>aZ a (e .zF g h) (b (zy c 4 d 40 a) g h)) λb=>aZ f (b .zT) (b a)) λa=>aZ g (a .zT) (a f)) λa=>aZ g (a .zT) (a h)) f) λa=>aZ i (a (aa c 8 i) d g) (h (aa c 8 i) d g)) (zA (cO [b]) 2 .zF 5 b 6 g 7 (.Z 0)) c d
def ajJ:dg X 141 [a0] h j ak av=Xv X a0 h j ak av:=Zk
def ajI:cW X 141 1=true:=Zk
def Xw(a:aL)(b:D)(c:K ag)(d:Nat)(e f:bI):Prop:=
 je b (λb c d=>qb b λg=>aY a 189 [.aV,g] c d (λc d f=>eQ b λg=>je g (λa b c=>cL (a 6) λa=>e a b c) λe h=>fF (λb c d e=>hJ c 27 26 λf=>bB (λc d e=>uc (λa c d=>gU a 27 λe=>b (aa a 27 e) c d) c 25 27 a d λb f=>cL (c 6) λg=>hZ (kG a d e 8 g f) d e λa d e=>b (zy c 8 f 6 a) d e) λa=>aZ f (a (aa c 28 f) d e) (h (aa c 28 f) d e)) (zA b 6 c 25 g 26 e 27 (.Z 0)) d f) f) λe g=>fF (λb c d e=>hJ c 11 10 λh=>bB (λc d e=>uc (λa c d=>gU a 11 λe=>b (aa a 11 e) c d) c 9 11 a d λa b=>qb c λg=>Jd b g λg=>Je g λh=>bB a λa=>aZ h (ax (some (D.iface 9 (.str [108,101,110,32,111,117,116,32,111,102,32,114,97,110,103,101]))) λa=>wQ f a d e) (a (zz c 5 b 3 g 20 h) d e)) λa=>aZ h (a (aa c 12 h) d e) (g (aa c 12 h) d e)) (aa (zA (cO [b]) 2 .aV 3 (.Z 0) 9 b 10 e) 11 (.Z 0)) c d
def ajL:dg X 142 [a0] h j ak av=Xw X a0 h j ak av:=Zk
def ajK:cW X 142 1=true:=Zk
def Xx(a:aL)(b:D)(c:K ag)(d:Nat)(e f:bI):Prop:=
 aY a 140 [b] c d (λa b c=>ax (hp .not a) λa=>e a b c) f
def ajN:dg X 143 [a0] h j ak av=Xx X a0 h j ak av:=Zk
def ajM:cW X 143 1=true:=Zk
def Xy(a:aL)(b:D)(c:K ag)(d:Nat)(e f:bI):Prop:=
 ax (km [.Z 0] d) λg=>gw a c d g.1 g.2 λc d g=>rO a d c 0 λd=>ax (km [.Z 0] g) λh=>gw a d g h.1 h.2 λd g h=>rO a g d 0 λg=>ax (km [.nilFunc] h) λi=>gw a g h i.1 i.2 λg h i=>ax (gj a h 1 g (.func (.func 190) [] [d,c,g])) λd=>ax (aO a d g) λg=>iz a g [b] d i (λ_ b d=>ax (aO a b c) λa=>e a b d) f
def ajP:dg X 144 [a0] h j ak av=Xy X a0 h j ak av:=Zk
def ajO:cW X 144 1=true:=Zk
def Xz(a:aL)(b c:D)(d:K ag)(e:Nat)(f g:bI):Prop:=
 aY a 192 [b,c] d e (λa b c=>Gb a λa=>f a b c) g
def ajR:dg X 145 [a0,ba] h j ak av=Xz X a0 ba h j ak av:=Zk
def ajQ:cW X 145 2=true:=Zk
def Rl(a:aL)(b c:D)(d:K ag)(e:Nat)(f g:bI):Prop:=
 ax (dw a d .eql 47 true b .cx) λh=>hr h c d e λd e i=>fJ h (bq .eql d (.Z 0)) e i λd e i=>dh (λd=>bB (λb c d=>WT b 1 1 λe=>kP b 0 8 a c λ_ _ h=>je h (λa b c=>gU a 5 λa=>f a b c) λf i=>fF (λb c d e=>hJ c 21 20 λf=>bB (λc d e=>uc (λa c d=>gU a 21 λe=>b (aa a 21 e) c d) c 19 21 a d λb f=>gt c 5 1 λh i=>aY a 177 [f,i] d e (λd e g=>ax (qY a e .max [3,3] [h,d]) λa=>b (zy c 7 f 5 a) e g) g) λa=>aZ f (a (aa c 22 f) d e) (i (aa c 22 f) d e)) (aa (zA b 1 e 5 (.Z 0) 19 h 20 f) 21 (.Z 0)) c d) λa=>aZ d (f (.Z 0) e i) (a (zy (cO [b,c]) 4 (.Z 0) 13 d) e i)) λa=>aZ h (a .zT) (a d)
def XT:dg X 177 [a0,ba] h j ak av=Rl X a0 ba h j ak av:=Zk
def XS:cW X 177 2=true:=Zk
def XU(a:aL)(b c:D)(d:K ag)(e:Nat)(f g:bI):Prop:=
 aY a 179 [b] d e (λd e h=>bB (λb c d=>ot b a c λe=>ax (bq .eql e (.Z 25)) λe=>bB (λ_ a b=>f .zT a b) λf=>aZ e (fb (d+14) λd=>y4 b 1 a c 0 λh=>kP b 0 2 a c λ_ _ i=>aY a 79 [h,i] c d (λc d h=>hn c λc i=>bB f λf=>BO i f λf j=>aZ f (fb (h+6) λh=>lh b 1 a d λk=>kP b 0 1 a d λ_ _ l=>aY a 119 [k, .Z 23,l] d h (λ_ a d=>j (zA b 34 e 6 c 7 i 47 f) a d) g) (y4 b 1 a d 1 λk=>ax (bq .geq c k) λk=>bB j λj=>aZ k (fb (h+6) λh=>lh b 1 a d λl=>kP b 0 1 a d λ_ _ m=>aY a 119 [l, .Z 25,m] d h (λ_ a d=>j (aa (zA b 34 e 6 c 7 i 47 f) 56 k) a d) g) (j (aa (zA b 34 e 6 c 7 i 47 f) 56 k) d h))) g) (f (aa b 34 e) c d)) λf=>aZ d (fb (h+15) λi=>BP a e c 2 λ_ j=>h1 b 2 a e λ_ k=>QW h 12 a e λe h=>aY a 34 [j,k] h i (λh i j=>hn h λh k=>ax (gj a i 11 e h) λe=>BO k f λf h=>aZ f (fb (j+6) λi=>ax (aO a e c) λj=>h1 b 1 a e λ_ l=>aY a 119 [j, .Z 23,l] e i (λ_ a e=>h (zA (cO [b,c]) 3 .zF 9 d 5 k 23 f) a e) g) (h (zA (cO [b,c]) 3 .zF 9 d 5 k 23 f) e j)) g) (f (zy (cO [b,c]) 3 .zF 9 d) e h)) g
def akp:dg X 178 [a0,ba] h j ak av=XU X a0 ba h j ak av:=Zk
def ako:cW X 178 2=true:=Zk
def XV(a:aL)(b:D)(c:K ag)(d:Nat)(e _:bI):Prop:=
 h1 b 0 a c λ_ f=>ax (bq .eql f (.Z 2)) λf=>hr f b c d λc d g=>QU f c d g a 6 λc d g=>dh (λc=>hr c b d g λb d f=>QU c b d f a 24 λa b d=>dh (λa=>e a b d) λb=>aZ c (b .zT) (b a)) λa=>aZ f (a .zT) (a c)
def akr:dg X 179 [a0] h j ak av=XV X a0 h j ak av:=Zk
def akq:cW X 179 1=true:=Zk
def XW(a:aL)(b:D)(c:K ag)(d:Nat)(e _:bI):Prop:=
 iv a c d b λc d f=>kQ c a d λg=>bB (λb c d=>jL b 1 2 a c λ_ f=>ax (bq .geq f (.Z 1)) λf=>Q6 f b 1 (λa=>hv 2 a) c d a λa b c=>eZ f (bq .leq a (.Z 64)) b c λa b c=>dh (λa=>e a b c) λb=>aZ f (b a) (b .zF)) λh=>aZ g (fy 1 c a d λ_ b=>ax (hp .not b) λb=>vl b 2 c d f a λa c d=>eZ b (bq .eql a (.Z 1)) c d λa c d=>dh (λa=>e a c d) λc=>aZ b (c a) (c .zF)) (h (zz (cO [b]) 1 c 2 .zF 4 g) d f)
def akt:dg X 182 [a0] h j ak av=XW X a0 h j ak av:=Zk
def aks:cW X 182 1=true:=Zk
def XZ(_:aL)(a:D)(b:K ag)(c:Nat)(d _:bI):Prop:=
 ax (bq .lss a (.int .i32 97)) λe=>hr e a b c λb c f=>fJ e (bq .gtr b (.int .i32 122)) c f λb c f=>dh (λb=>ke b a c f λc e f=>eZ b (bq .lss c (.int .i32 65)) e f λc e f=>ke b c e f λc e f=>hr c a e f λe f g=>fJ c (bq .gtr e (.int .i32 90)) f g λe f g=>m4 b (λa=>dh (λb=>a b f g) λa=>aZ c (a .zT) (a e)) f g λc e f=>dh (λb=>ke b a e f λc e f=>eZ b (bq .lss c (.int .i32 48)) e f λc e f=>ke b c e f λc e f=>hr c a e f λe f g=>fJ c (bq .gtr e (.int .i32 57)) f g λe f g=>m4 b (λa=>dh (λb=>a b f g) λa=>aZ c (a .zT) (a e)) f g λc e f=>dh (λb=>ke b a e f λa c e=>eZ b (bq .neq a (.int .i32 95)) c e λa c e=>dh (λa=>d a c e) λc=>aZ b (c a) (c .zF)) λa=>aZ b (a c) (a .zF)) λa=>aZ b (a c) (a .zF)) λa=>aZ e (a .zT) (a b)
def akz:dg X 185 [a0] h j ak av=XZ X a0 h j ak av:=Zk
def aky:cW X 185 1=true:=Zk
def X0(a:aL)(b c:D)(d:K ag)(e:Nat)(f g:bI):Prop:=
 aY a 213 [b,c,.zT] d e f g
def akB:dg X 186 [a0,ba] h j ak av=X0 X a0 ba h j ak av:=Zk
def akA:cW X 186 2=true:=Zk
def X1(a:aL)(b c:D)(d:K ag)(e:Nat)(f g:bI):Prop:=
 aY a 214 [b,c] d e (λa b c=>Gb a λa=>f a b c) g
def akD:dg X 187 [a0,ba] h j ak av=X1 X a0 ba h j ak av:=Zk
def akC:cW X 187 2=true:=Zk
def X2(a:aL)(b:D)(c:K ag)(d:Nat)(e f:bI):Prop:=
 ax (m8 b) λg=>ax (bq .lss g (.Z 2)) λg=>bB (λb c d=>BM b 1 λg=>aY a 203 [g] c d (λc d g=>hn c λc h=>eQ b λi=>ax (dw a d .eql 9 true i (.str [98,111,111,108])) λi=>hr i h d g λd g h=>fJ i (dw a g .eql 238 true d .nilIface) g h λd g h=>hr i d g h λd g h=>oa d (b 0) g h λg h j=>oa d (b 0) h j λb h j=>eZ d (n9 b (.Z 0)) h j λb h j=>eZ d (bq .eql b (.int .u8 105)) h j λb h j=>ke d c h j λc h j=>eZ d (e8 [.zF, .zF, .Z 0] [(1,1,b),(2,1,c)]) h j λb c h=>m4 d (λd=>aY a 128 [b] c h d f) c h λb c f=>eZ d (dw a c .eql 9 false g b) c f λa b c=>m3 i (λe=>dh (λa=>e a b c) λb=>aZ d (b a) (b .zF)) b c λa b c=>dh (λa=>e a b c) λb=>aZ i (b .zT) (b a)) f) λa=>aZ g (e .zF c d) (a (zy (cO [b]) 2 .zF 7 g) c d)
def akF:dg X 188 [a0] h j ak av=X2 X a0 h j ak av:=Zk
def akE:cW X 188 1=true:=Zk
def X3(a:aL)(b c:D)(d:K ag)(e:Nat)(f g:bI):Prop:=
 Je c λh=>bB (λb c d=>gt b 1 0 λe g=>ax (qY a c .cap [34] [g]) λg=>eQ b λh=>ax (gy h) λh=>ax (bq .sub g h) λg=>ax (bq .sub e g) λe=>MH e λg=>bB (λa b c=>eQ a λa=>f a b c) λf=>aZ g (gt b 0 0 λh i=>ax (qY a c .cap [34] [i]) λi=>ax (tZ a c 8 h none (some i) none) λh=>hZ (Hk a c d .append [34,3] [h,e]) c d λc d h=>eQ b λi=>ax (gy i) λi=>ax (tZ a d 8 c none (some i) none) λa=>f (zz b 1 e 16 g 0 a) d h) (f (zy b 1 e 16 g) c d)) λa=>aZ h (ax (some (D.iface 9 (.str [99,97,110,110,111,116,32,98,101,32,110,101,103,97,116,105,118,101]))) λa=>wQ g a d e) (a (zy (cO [b,c]) 4 .aV 6 h) d e)
def akH:dg X 189 [a0,ba] h j ak av=X3 X a0 ba h j ak av:=Zk
def akG:cW X 189 2=true:=Zk
def X4(a:aL)(b c d e:D)(f:K ag)(g:Nat)(h i:bI):Prop:=
 ax (aO a f c) λj=>DE j λj=>nk a f c j λf=>bB (λb c d=>lh b 1 a c λe=>MM e λe=>sL b λb=>nk a c b e λa=>h (.tuple []) a d) λh=>ax (dw a f .eql 47 true b .cx) λj=>hr j b f g λf g k=>Jb j (λb=>aY a 191 [f] g k b i) g k λf g k=>dh (λf=>bB h λh=>aZ f (rO a g d 1 λa=>h (aa (cO [b,c,d,e]) 22 f) a k) (ax (aO a g c) λj=>ax (bq .gtr j (.Z 200)) λj=>bB h λh=>aZ j (ax (aO a g d) λi=>oq i 0 h λh i=>aZ h (rO a g d 22 λa=>i (zz (cO [b,c,d,e]) 22 f 30 j 34 h) a k) (i (zz (cO [b,c,d,e]) 22 f 30 j 34 h) g k)) (h1 b 8 a g λ_ l=>DF l h λh m=>fF (λb c d e=>hJ c 14 13 λf=>bB (λc d e=>uc (λa c d=>gU a 14 λe=>b (aa a 14 e) c d) c 12 14 a d λb f=>lh c 3 a d λg=>iz a g [f] d e (λ_ a d=>b (aa c 6 f) a d) i) λa=>aZ f (a (aa c 15 f) d e) (m (aa c 15 f) d e)) (aa (zA (cO [b,c,d,e]) 22 f 30 j 12 l 13 h) 14 (.Z 0)) g k))) λa=>aZ j (a .zT) (a f)
def akJ:dg X 190 [a0,ba,cj,a3] h j ak av=X4 X a0 ba cj a3 h j ak av:=Zk
def akI:cW X 190 4=true:=Zk
def X5(a:aL)(b:D)(c:K ag)(d:Nat)(e f:bI):Prop:=
 fb (d+12) λg=>ax (aO a c (.ptr 5 0)) λh=>h1 b 0 a c λ_ i=>ax (lO a c 3 (.agg [.Z 0, .zF, .zF, .zF]) h i true) λh=>hn h λh i=>ax (km [.Z 0, .zF, .zF, .zF] (d+9)) λj=>mF a c (d+9) j.1 j.2 λc d=>ax (gj a d 4 c h) λd=>ax (hp .not i) λh=>bB (λb c d=>fb (d+34) λd=>ot b a c λg=>ax (bq .lss g (.Z 1)) λg=>QV g b 0 c 0 a λ_ c h=>yB g (bq .gtr c (.Z 26)) h λc h=>dh (λc=>afw c (b 3) (λa=>hv 0 a) h λg h=>yB c (aO a h g) h λg h=>yB c (bq .geq g (.Z 0)) h λg h=>Pw c g h λg h=>F3 g b 0 h 8 a λh i=>kd g (gy h) i λh i=>US g (b 3) (λa=>hv 0 a) i λi j=>kd g (aO a j i) j λi j=>kd g (bq .neq h i) j λh i=>Pv c (λa=>dh (λb=>a b i) λa=>aZ g (a h) (a .zF)) i λg h=>dh (λc=>QV c b 0 h 8 a λ_ g h=>m3 c (λb=>aY a 215 [g, .cx] h d b f) h d λd g h=>dh (λc=>bB (λb c d=>fb (d+33) λd=>jL b 3 1 a c λ_ g=>kP b 0 2 a c λ_ _ h=>ax (dw a c .neq 9 true h (.str [])) λh=>ax (dw a c .neq 4 false g h) λg=>afw g (b 3) (λa=>hv 1 a) c λc h=>yB g (aO a h c) h λc h=>Pw g c h λc h=>F3 c b 0 h 2 a λh i=>m4 c (λb=>aY a 140 [h] i d b f) i d λd h i=>kd c (hp .not d) h λd h=>Pv g (λa=>dh (λb=>a b h) λa=>aZ c (a d) (a .zF)) h λc d=>dh (λc=>QV c b 0 d 3 a λ_ d g=>Pw c d g λd g=>F3 d b 0 g 0 a λg h=>kd d (bq .neq g (.Z 6)) h λg h=>Pv c (λa=>dh (λb=>a b h) λa=>aZ d (a g) (a .zF)) h λd g=>dh (λc=>bB (λb c d=>jL b 3 2 a c λ_ g=>ax (hp .not g) λg=>Q4 g b c d a λc d h=>eZ g (e8 [.zF, .zF, .Z 0] []) d h λd h i=>eZ g (dw a h .neq 41 false c d) h i λc d h=>dh (λc=>afx c (b 3) (λa=>hv 2 a) d h λd g h=>fJ c (aO a g d) g h λd g h=>hr c d g h λd g h=>Q4 d b g h a λg h i=>MG d (λb=>aY a 182 [g] h i b f) h i λg h i=>m3 c (λa=>dh (λb=>a b h i) λa=>aZ d (a g) (a .zF)) h i λd g h=>dh (λc=>afx c (b 3) (λa=>hv 3 a) g h λd g h=>fJ c (aO a g d) g h λd g h=>fJ c (hp .not d) g h λd g h=>hr c d g h λd g h=>oa d (b 0) g h λg h i=>BN d g h i 7 a λg h i=>eZ d (bq .neq g (.int .u64 0)) h i λg h i=>m3 c (λa=>dh (λb=>a b h i) λa=>aZ d (a g) (a .zF)) h i λd g h=>dh (λc=>bB (λb c d=>ot b a c λg=>bB (λ_ a b=>e .zT a b) λh=>oq g 1 h λh i=>aZ h (eQ b λb=>aY a 216 [b] c d e f) (ax (bq .eql g (.Z 19)) λf=>bB (λb c d=>BK b 128 i λf g=>aZ f (kP b 0 7 a c λ_ _ a=>ax (bq .leq a (.int .u64 63)) λa=>e a c d) (sQ b 123 21 g λf g=>aZ f (kP b 0 8 a c λ_ _ b=>xw 1 b λb=>BP a c b 0 λb f=>ax (bq .eql f (.Z 1)) λf=>hr f b c d λc d g=>QU f c d g a 4 λc d g=>hr f c d g λc d g=>ke c b d g λd g h=>BN c d g h 8 a λd g h=>eZ c (gy d) g h λd g h=>eZ c (bq .eql d (.Z 1)) g h λd g h=>m3 f (λa=>dh (λb=>a b g h) λa=>aZ c (a d) (a .zF)) g h λc d g=>hr f c d g λc d g=>ke c b d g λd g h=>BN c d g h 8 a λd g h=>eZ c (gv 1 d (.Z 0)) g h λd g h=>eZ c (aO a g d) g h λd g h=>eZ c (dw a g .neq 47 true d .cx) g h λd g h=>m3 f (λa=>dh (λb=>a b g h) λa=>aZ c (a d) (a .zF)) g h λc d g=>hr f c d g λc d g=>ke c b d g λb d g=>BN c b d g 8 a λb d g=>eZ c (gv 1 b (.Z 0)) d g λb d g=>eZ c (aO a d b) d g λb d g=>BN c b d g 0 a λa b d=>eZ c (bq .eql a (.Z 1)) b d λa b d=>m3 f (λe=>dh (λa=>e a b d) λb=>aZ c (b a) (b .zF)) b d λa b c=>dh (λa=>e a b c) λb=>aZ f (b .zT) (b a)) (g (aa b 136 f) c d))) λa=>aZ f (a (zz b 123 g 124 h 128 f) c d) (ax (bq .eql g (.Z 20)) λe=>a (zA b 123 g 124 h 128 f 128 e) c d))) λa=>aZ c (e .zF g h) (a (aa b 119 c) g h)) λa=>aZ c (a .zT) (a d)) λa=>aZ c (a .zT) (a d)) λa=>aZ g (a c) (a .zF)) λa=>aZ c (e .zF g i) (a (aa b 84 c) g i)) λa=>aZ c (a .zT) (a d)) λa=>aZ g (a .zT) (a c)) λa=>aZ c (e .zF g h) (a (aa b 51 c) g h)) λa=>aZ c (a .zT) (a d)) λa=>aZ c (a .zT) (a g)) λa=>aZ g (a .zT) (a c)) λe=>aZ h (ax (e8 [.Z 0, .zF, .zF, .zF] [(0,1, .Z 2)]) λf=>ax (gj a d 4 c f) λa=>e (zA (cO [b]) 2 .zF 3 c 4 i 16 h) a g) (e (zA (cO [b]) 2 .zF 3 c 4 i 16 h) d g)
def akL:dg X 191 [a0] h j ak av=X5 X a0 h j ak av:=Zk
def akK:cW X 191 1=true:=Zk
def X6(a:aL)(b c:D)(d:K ag)(e:Nat)(f g:bI):Prop:=
 je b (λ_ a b=>f (.Z (-1)) a b) λh i=>fF (λb c d e=>hJ c 8 7 λh=>bB (λc d e=>mN (λa c d=>gU a 8 λe=>b (aa a 8 e) c d) c 8 1 λb h i=>eQ c λj=>F8 j h a d λj=>iz a i [j] d e (λa d e=>bB b λb=>aZ a (f h d e) (b (zy c 5 h 16 a) d e)) g) λa=>aZ h (a (aa c 9 h) d e) (i (aa c 9 h) d e)) (zz (cO [b,c]) 4 (.Z 0) 7 h 8 (.Z 0)) d e
def akN:dg X 192 [a0,ba] h j ak av=X6 X a0 ba h j ak av:=Zk
def akM:cW X 192 2=true:=Zk
def ο(a:aL)(b c d:D)(e:K ag)(f:Nat)(g h:bI):Prop:=
 hZ (V2 a e f b) e f λe f i=>bB (λ_ a b=>g (.Z (-1)) a b) λj=>fF (λb c d e=>cL (c 10) λf=>GZ (yc a kw true d e (kL f)) d e λd e f=>ax (pg 0 d) λi=>bB (λc d e=>bB b λb=>cL (c 11) λf=>ax (pg 1 f) λf=>cL (c 11) λi=>ax (pg 2 i) λi=>sL c λj=>iz a j [i] d e (λd e h=>cL (c 2) λj=>ax (dw a e .eql 4 false d j) λa=>bB b λb=>aZ a (g f e h) (b (zz c 7 f 8 i 19 a) e h)) h) λa=>aZ i (a (zy c 11 d 12 i) e f) (j (zy c 11 d 12 i) e f)) (zy (cO [b,c,d]) 6 (.Z 0) 10 e) f i
def alj:dg X 213 [a0,ba,cj] h j ak av=ο X a0 ba cj h j ak av:=Zk
def ali:cW X 213 3=true:=Zk
def π(a:aL)(b c:D)(d:K ag)(e:Nat)(f _:bI):Prop:=
 je b (λ_ a b=>f (.Z (-1)) a b) λg h=>fF (λb c d e=>hJ c 8 7 λg=>bB (λc d e=>mN (λa c d=>gU a 8 λe=>b (aa a 8 e) c d) c 8 1 λb g h=>eQ c λi=>F8 i g a d λi=>ax (dw a d .eql 9 false h i) λa=>bB b λb=>aZ a (f g d e) (b (zy c 5 g 16 a) d e)) λa=>aZ g (a (aa c 9 g) d e) (h (aa c 9 g) d e)) (zz (cO [b,c]) 4 (.Z 0) 7 g 8 (.Z 0)) d e
def alm:dg X 214 [a0,ba] h j ak av=π X a0 ba h j ak av:=Zk
def alk:cW X 214 2=true:=Zk
def ρ(a:aL)(b c:D)(d:K ag)(e:Nat)(f g:bI):Prop:=
 aY a 236 [b,c] d e (λa b c=>Gb a λa=>f a b c) g
def alo:dg X 215 [a0,ba] h j ak av=ρ X a0 ba h j ak av:=Zk
def aln:cW X 215 2=true:=Zk
def σ(a:aL)(b:D)(c:K ag)(d:Nat)(e f:bI):Prop:=
 kB b 4 λg=>fy 2 g a c λ_ g=>kB b 4 λh=>fy 1 h a c λ_ h=>bB (λb c d=>ot b a c λg=>ax (bq .eql g (.Z 1)) λg=>Q4 g b c d a λc d h=>m4 g (λb=>aY a 182 [c] d h b f) d h λc d f=>dh (λc=>oa c (b 3) d f λd f g=>eZ c (bq .eql d (.Z 64)) f g λd f g=>ke c d f g λd f g=>Bg d (b 0) f g λf g h=>F9 d f g h 7 a λa f g=>Bg d (b 3) f g λb f g=>fJ d (bq .shr a b) f g λa b f=>fJ d (bq .eql a (.int .u64 0)) b f λa b f=>m4 c (λc=>dh (λa=>c a b f) λb=>aZ d (b .zT) (b a)) b f λa b d=>dh (λa=>e a b d) λb=>aZ c (b a) (b .zF)) λa=>aZ g (a c) (a .zF)) λa=>aZ h (MM g λe=>a (zA (cO [b]) 2 .zF 3 g 13 h 3 e) c d) (a (zz (cO [b]) 2 .zF 3 g 13 h) c d)
def alq:dg X 216 [a0] h j ak av=σ X a0 h j ak av:=Zk
def alp:cW X 216 1=true:=Zk
def aad(a:aL)(b c:D)(d:K ag)(e:Nat)(f _:bI):Prop:=
 je b (λ_ a b=>f (.Z (-1)) a b) λg h=>fF (λb c d e=>hJ c 8 7 λg=>bB (λc d e=>mN (λa c d=>gU a 8 λe=>b (aa a 8 e) c d) c 8 1 λb g h=>eQ c λi=>F8 i g a d λi=>ax (dw a d .eql 47 false h i) λa=>bB b λb=>aZ a (f g d e) (b (zy c 5 g 16 a) d e)) λa=>aZ g (a (aa c 9 g) d e) (h (aa c 9 g) d e)) (zz (cO [b,c]) 4 (.Z 0) 7 g 8 (.Z 0)) d e
def alK:dg X 236 [a0,ba] h j ak av=aad X a0 ba h j ak av:=Zk
def alJ:cW X 236 2=true:=Zk
def aht(a:aL)(b:bI):fg:=λc d e=>nI a [.tmp 2] b c c.bc d e
def agR(a:aL)(b c:bI):sZ:=λd e f g=>wP a [.tmp 2] b c d e d.bc f g
def aam(a:aL)(b:D)(c:K ag)(d:Nat)(e f:bI):Prop:=
 iv a c d b λc d g=>gw a d g (.map g) (.map [] 0) λd g h=>ax (e8 [.mi, .aV] [(0,1,d)]) λd=>iv a g h d λd g h=>Jj h a g λg h i=>nk a h g d λd=>ax (d8 a d 6 c) λh=>aY a 78 [h] d i (λd h i=>bB (λb c d=>jL b 1 5 a c λ_ f=>je f (λb c d=>lh b 3 a c λf=>aht a e (aa b 2 f) c d) λe g=>fF (λb c d e=>hJ c 56 55 λf=>bB (λc d e=>Jk (λa c d=>gU a 56 λe=>b (aa a 56 e) c d) c 56 54 λb f g h=>F6 4 g h a d λg=>ax (km [.aV, .aV, .Z 0, .cx] e) λh=>gw a d e h.1 h.2 λd e h=>ax (gj a e 4 d g) λe=>kQ d a e λg=>DF g b λb i=>fF (λb c d e=>hJ c 64 63 λf=>bB (λc d e=>Jk (λa c d=>gU a 64 λe=>b (aa a 64 e) c d) c 64 62 λb f g h=>F8 g h a d λg=>y4 c 3 a d 0 λh=>QX a d h g λh i=>QS e a d h λd e h=>vl i 9 d h e a λe h j=>eZ i (bq .lss e (.Z 0)) h j λe h j=>dh (λe=>bB b λb=>aZ e (cL (c 8) λk=>sR 9 d a h k λh=>sR 10 d a h f λh=>fb (j+7) λj=>y4 c 3 a h 0 λk=>ax (d8 a h 11 d) λl=>hZ (tL a h j 9 k g l) h j λ_ a h=>b (aa (zA c 10 f 11 g 12 d 13 i) 83 e) a h) (b (aa (zA c 10 f 11 g 12 d 13 i) 83 e) h j)) λa=>aZ i (a e) (a .zF)) λa=>aZ f (a (aa c 65 f) d e) (i (aa c 65 f) d e)) (aa (zA c 9 d 8 f 62 g 63 b) 64 (.Z 0)) e h) λa=>aZ f (a (aa c 57 f) d e) (g (aa c 57 f) d e)) (zz b 54 f 55 e 56 (.Z 0)) c d) λj=>FE a 97 d [19,20] (tV a (λ_ _ b _ _ c d e=>cL (c 19) λf=>Jh e a d λd e g=>cL (c 20) λh=>ax (gj a e 8 d h) λa=>b (zy c 4 f 5 d) a g) λ_ _ b _ _ c d e=>bB b λb=>fb (e+13) λf=>y4 c 3 a d 0 λg=>jL c 5 0 a d λ_ h=>QX a d g h λg h=>QW e 10 a d λd e=>ax (gj a e 11 d g) λd=>BO h b λb e=>aZ b (fb (f+10) λf=>y4 c 3 a d 0 λg=>jL c 5 0 a d λ_ i=>gt c 4 5 λj k=>ax (d8 a d 8 k) λk=>ax (e8 [.Z 0, .str [], .Z 0, .zF, .zF, .Z 0, .str [], .Z 0, .zF, .Z 0, .Z 0] [(0,1,j),(1,8,k),(9,1, .Z (-1)),(10,1, .Z (-1))]) λj=>hZ (tL a d f 9 g i j) d f λ_ d f=>fb (f+12) λg=>lh c 3 a d λi=>y4 c 3 a d 1 λj=>jL c 5 0 a d λ_ k=>ax (hi 1 [.str []] [(0,1,k)] (f+7)) λk=>mF a d (f+7) k.1 k.2 λd f=>hZ (kG a f g 1 j d) f g λd f g=>kB i 1 λj=>lh c 3 a f λk=>gT k (some i) (nk a f j d λa=>e (zy c 7 h 32 b) a g)) (e (zy c 7 h 32 b) d f)) j (Eg 0 j λ_ _ _ _=>False) (aht a e) (agR a e f) (zA (cO [b]) 1 c 2 .cx 3 g 18 d) h i) (agR a e f (hL [17,18] (zz (cO [b]) 1 c 2 .cx 3 g)))
def al2:Cl X 32 [a0] h j ak av=aam X a0 h j ak av:=Zk
def al1:cW X 32 1=true:=Zk
def aan(a:aL)(b c:D)(d:K ag)(e:Nat)(f _:bI):Prop:=
 ax (km [.Z 0, .str [], .Z 0, .zF, .zF, .Z 0, .str [], .Z 0, .zF, .Z 0, .Z 0] e) λg=>gw a d e g.1 g.2 λd e g=>ax (dw a e .eql 68 true b .cx) λh=>bB (λb c d=>ot b a c λe=>sL b λg=>QX a c e g λe g=>QS d a c e λc d e=>ax (d8 a e 11 c) λc=>mq b 4 a e 11 c λa b=>f (.tuple [b,g]) a d) λi=>aZ h (ax (e8 [.Z 0, .str [], .Z 0, .zF, .zF, .Z 0, .str [], .Z 0, .zF, .Z 0, .Z 0] []) λb=>DD a e 11 d b λa b=>f (.tuple [b, .zF]) a g) (i (zz (cO [b,c]) 4 d 5 .zF 9 h) e g)
def al4:dg X 34 [a0,ba] h j ak av=aan X a0 ba h j ak av:=Zk
def al3:cW X 34 2=true:=Zk
def Xm(a:aL)(b:D)(c:K ag)(d:Nat)(e f:bI):Prop:=
 iv a c d b λc d g=>bB (λb c d=>jL b 1 2 a c λ_ b=>aY a 183 [b] c d (λb c d=>ax (dw a c .add 9 true (.str [117]) b) λa=>e a c d) f) λh=>it a d c λi=>aY a 182 [i] d g (λd g i=>BO d h λd h=>aZ d (e (.str []) g i) (kQ c a g λj=>bB h λh=>aZ j (e (.str [98,111,111,108]) g i) (fy 1 c a g λ_ k=>bB h λh=>aZ k (fy 2 c a g λ_ b=>aY a 183 [b] g i (λb c d=>ax (dw a c .add 9 true (.str [105]) b) λa=>e a c d) f) (h (aa (zA (cO [b]) 1 c 2 (.str []) 3 d 7 j) 10 k) g i)))) f
def ajr:dg X 128 [a0] h j ak av=Xm X a0 h j ak av:=Zk
def ajq:cW X 128 1=true:=Zk
end
end Go.Proofs.YtpfajohmofnkfaaGreatDoor

namespace Go.Proofs.YtpfajohmofnkfaaGreatDoor
open Go.bd Go.aR
noncomputable section
def fO:Nat->be->Nat
 |0,_=>0
 |q+1,E=>E.args.foldl (λa F=>max a (fO q F)) 0+1
def ate:∀q E,fO q E<=q:=by
 intro q
 induction q with
 |zero=>intro E;simp[fO]
 |succ q al=>
  intro E
  have:∀(k:List be) a,a<=q->k.foldl (λa F=>max a (fO q F)) a<=q:=by
   intro k
   induction k with
   |nil=>intro a gH;exact gH
   |cons F k Lt=>intro a gH;exact Lt _ (Nat.max_le.2 ⟨gH,al F⟩)
  have:=this E.args 0 Zo
  show _+1<=q+1
  omega
def axh{C:aL}{h:K ag}(F b:Nat):qY C h .max [3,3] [.Z (F:Int), .Z (b:Int)]=some (.Z ((max F b:Nat):Int)):=by
 show nU true (.Z (F:Int)) [.Z (b:Int)]=_
 simp only[nU,fA,tF,ZC]
 congr 2
 split<;>simp_all<;>omega
def IG{X:cb}{h:K ag}(b:Nat):dw X h .eql 47 true (.ptr b 0) .cx=some .zF:=Zk
section
variable{X:cb}{h T aP aM:K ag}{j an aG a1 aK bP:Nat}{aT:List Tok}{i:Nat}
def asV(aw:du X):∀(q:Nat),q<=1000->∀h j P E v,(o X).a2<=j->cy X h P E v->(∀e,P e->e<j)->
 aY X 177 [v, .Z (q:Int)] h j (λac T an=>ac= .Z (fO q E:Nat)/\bo X h j T an) (λ_ _ _=>False):=by
 intro q
 induction q with
 |zero=>
  intro _ h j P E v aE bs bE
  refine zx aw (XS X) ?_
  rw[XT]
  unfold Rl
  obtain⟨b,rfl,aj,_⟩:=bs.ptr
  have gn:=bE b aj
  refine cT @IG @Int.natCast_zero ⟨?_⟩
  exact⟨rfl,dM⟩
 |succ q al=>
  intro aD h j P E v aE bs bE
  refine zx aw (XS X) ?_
  rw[XT]
  unfold Rl
  obtain⟨b,aW,cp,a8,rfl,aj,a0,ba,cj,a3,a4,a5,hy,h3,h4,cA,has⟩:=bs.open
  have gn:=bE b aj
  have d5:=cA.len
  have tC:=has.len
  have kq:((q+1:Nat):Int)=(q:Int)+1:=Zo
  have d:decide (((q+1:Nat):Int)=0)=false:=by simp;omega
  have bF:bq .sub (.Z ((q+1:Nat):Int)) (.Z 1)=some (.Z (q:Int)):=by rw[CS Zo Zo];congr 2;omega
  have bp:=cA.many
  rw[Zn,tC]at bp
  rw[Zn,tC]at d5
  refine gg @IG @d @bF @h4 @d5 ⟨?_⟩
  refine fK (λm H T aU=>∃(W:Nat) (a:Nat),H.g 1=some (.Z (q:Int))/\H.g 5=some (.Z (a:Int))/\H.g 19=some aW/\H.g 20=some (.Z (E.args.length:Int))/\H.g 21=some (.Z (W:Int))/\W+m=E.args.length/\a<=q/\bo X h j T aU/\fO (q+1) E=(E.args.drop W).foldl (λa F=>max a (fO q F)) a+1)
   E.args.length ⟨0,0,bw,fW,bw,bw,fW,Zo,Zo,bo.refl _ _,by simp[fO]⟩ ?_
  rintro m H aM a1 ⟨W,a,t1,t5,qO,FQ,Wq,bK,gH,bJ,bU⟩
  have f7:=bJ.le
  have cn:=zv W
  have eU:=zv a
  cases m with
  |zero=>
   have cF:=zr W E.args.length
   rw[ZH Zo]at bU
   simp only[List.foldl_nil]at bU
   refine gg @Wq @FQ @t5 @cF @eU ⟨?_⟩
   exact⟨by first|rw[bU]|(simp only[bU];rfl),bJ⟩
  |succ m=>
   have cF:=zs W E.args.length
   obtain⟨F,aC⟩:=zt E.args W
   obtain⟨v,bD,asn⟩:=has.get W F aC
   obtain⟨b3,b7,cS⟩:=(cA.ab λe z=>bJ.ab e (bE e z)).one bD
   refine eF @Wq @FQ @t5 @qO @t1 @cF (Za @b3 @b7) ⟨?_⟩
   refine(al Zo aM a1 P F v Zo (asn.ab λe z=>bJ.ab e (bE e z)) (λe z=>zq (bE e z))).Zm ?_
   rintro BE aX bf ⟨rfl,cg⟩
   have ip:=cg.le
   have iL:qY X aX .max [3,3] [.Z (a:Int), .Z ((fO q F:Nat):Int)]=some (.Z ((max a (fO q F):Nat):Int)):=axh _ _
   refine et @iL @Wq @cn ⟨?_⟩
   refine⟨m,Zo,W+1,max a (fO q F),a7 t1,bw,a7 qO,a7 FQ,bw,Zo,Nat.max_le.2 ⟨gH,ate q F⟩,bJ.trans cg, ?_⟩
   have aH:E.args.drop W=F::E.args.drop (W+1):=by
    obtain⟨af,z⟩:=Zc.1 aC
    rw[Zv af,z]
   rw[aH,Z7]at bU
   exact bU
end
def wI:List fc->Option Int
 |[]=>none
 |ah::k=>if 200<fO 201 ah.right then some ah.at_ else wI k
def pV:List Go.aR.Node->Option (Int×Int)
 |[]=>none
 |g::k=>if 256<g.ez.length+g.out.length+g.loc.length\/4096<g.eqs.length then some (30,g.at_)else match wI g.eqs with
  |some F=>some (22,F)
  |none=>pV k
def nC(ai:List Go.aR.Node):Option (Int×Int):=match ai[64]? with
 |some g=>some (30,g.at_)
 |none=>pV ai
section
variable{X:cb}{h T aP aM:K ag}{j an aG a1 aK bP:Nat}{aT:List Tok}{i:Nat}
def asU(aw:du X){P:Nat->Prop}{E:be}{v:D}(aE:(o X).a2<=j)(bs:cy X h P E v)(bE:∀e,P e->e<j):
 aY X 118 [v] h j (λac T an=>ac= .Z (fO 201 E:Nat)/\bo X h j T an) (λ_ _ _=>False):=by
 refine zx aw (aje X) ?_
 rw[ajf]
 unfold Xh
 exact(asV aw 201 Zo h j P E v aE bs bE)
def awU(aw:du X){P:Nat->Prop}{ai:List Go.aR.Node}{v:D}(aE:(o X).a2<=j)(bU:nQ X h P ai v)(bE:∀e,P e->e<j):
 aY X 69 [v] h j (λac T an=>nC ai=none/\ac= .tuple []/\bo X h j T an) (λac T an=>∃q F,nC ai=some (q,F)/\ac=pw q F/\bo X h j T an):=by
 refine zx aw (amj X) ?_
 rw[amk]
 unfold aay
 obtain⟨b,aW,cp,br,rfl,jA,a0,cA,v8⟩:=bU
 have yl:=v8.wide
 have d5:=cA.len
 have hO:=cA.many
 rw[yl.1]at d5 hO
 by_cases G6:64<ai.length
 ·obtain⟨g,aea⟩:∃g,ai[64]? =some g:=⟨_,Ze G6⟩
  obtain⟨row,e3,jD⟩:=v8.get 64 g aea
  have dS:=cA.f3 64 Zo
  obtain⟨dj,dG,Wi,eP,bQ,cf,cM,ew,V7,rfl,_⟩:=jD
  have aA:=cA.cell 64 _ 1 _ e3 rfl
  have d:decide ((64:Int)<(ai.length:Int))=true:=by simp;omega
  have atj:gv 6 aW (.Z 64)=some (.ptr cp (64*6)):=dS
  refine gg @a0 @d5 @d @atj @aA ⟨?_⟩
  refine⟨⟨30,g.at_,by simp[nC,aea],rfl,bo.refl _ _⟩⟩
 ·have az:nC ai=pV ai:=by simp[nC,ZQ (by omega:ai.length<=64)]
  have d:decide ((64:Int)<(ai.length:Int))=false:=by simp;omega
  rw[az]
  refine et @a0 @d5 @d ⟨?_⟩
  refine fK (λm H T aU=>∃(W:Nat),H.g 24=some aW/\H.g 25=some (.Z (ai.length:Int))/\H.g 26=some (.Z (W:Int))/\W+m=ai.length/\bo X h j T aU/\pV ai=pV (ai.drop W))
   ai.length ⟨0,bw,bw,fW,Zo,bo.refl _ _,rfl⟩ ?_
  rintro m H aM a1 ⟨W,rI,jY,lC,bK,bJ,EL⟩
  have f7:=bJ.le
  have cn:=zv W
  cases m with
  |zero=>
   have cF:=zr W ai.length
   rw[ZH Zo]at EL
   refine et @lC @jY @cF ⟨?_⟩
   exact⟨EL,rfl,bJ⟩
  |succ m=>
   have cF:=zs W ai.length
   obtain⟨g,kX⟩:=zt ai W
   have aH:ai.drop W=g::ai.drop (W+1):=by
    obtain⟨af,z⟩:=Zc.1 kX
    rw[Zv af,z]
   rw[aH]at EL
   obtain⟨row,e3,jD⟩:=v8.get W g kX
   have dS:=cA.f3 W Zo
   have ic:=(cA.ab λe z=>bJ.ab e (bE e z)).row Zd e3
   have atQ:=jD.ab (bm:=P) (λe z=>bJ.ab e (bE e z)) (λ_ a=>a)
   have ys:=jD.jH
   obtain⟨dj,dG,Wi,eP,bQ,cf,cM,ew,V7,rfl,cG,cw,d9,fQ,mH⟩:=atQ
   have ei:=cG.len;have c4:=cw.len;have fa:=d9.len;have g6:=fQ.len
   have e6:=cG.many;have fq:=cw.many;have k2:=d9.many;have Bi:=fQ.many
   have Mx:=mH.wide
   rw[Zn]at ei c4 fa e6 fq k2
   rw[Mx.1]at g6 Bi
   have eU:bq .add (.Z (g.ez.length:Int)) (.Z (g.out.length:Int))=some (.Z ((g.ez.length+g.out.length:Nat):Int)):=by rw[eJ Zo Zo];rfl
   have iL:bq .add (.Z ((g.ez.length+g.out.length:Nat):Int)) (.Z (g.loc.length:Int))=some (.Z ((g.ez.length+g.out.length+g.loc.length:Nat):Int)):=by rw[eJ Zo Zo];rfl
   refine iM @lC @jY @rI @cF @dS @ic ⟨?_⟩
   refine fw (hF (q:=6) (b:=a1) (U:=0) (n:=6) (c:=K.ofList [.str [], .Z 0, .aV, .aV, .aV, .aV] 0 .nil) (bg Zo) Zo rfl Zd Zd ys) ?_
   generalize e9:bn X _ a1 _=aX
   have x4:Y X aX a1=some (.cells (dN (K.ofList [.str [], .Z 0, .aV, .aV, .aV, .aV] 0 .nil) 0 [.str g.name, .Z g.at_,dj,dG,Wi,eP]) 6 .own):=by rw[<-e9];exact bg Zo
   have cg:bo X h j aX (a1+1):=bJ.trans (by rw[<-e9];exact dM)
   have cP:∀e,P e->Y X aX e=Y X h e:=λe z=>cg.ab e (bE e z)
   clear e9
   have db:aO X aX (.ptr a1 1)=some (.Z g.at_):=by rw[bO x4];rfl
   have dx:aO X aX (.ptr a1 2)=some dj:=by rw[bO x4];rfl
   have gf:aO X aX (.ptr a1 3)=some dG:=by rw[bO x4];rfl
   have ul:aO X aX (.ptr a1 4)=some Wi:=by rw[bO x4];rfl
   have jO:aO X aX (.ptr a1 5)=some eP:=by rw[bO x4];rfl
   by_cases arv:256<g.ez.length+g.out.length+g.loc.length
   ·have eS:decide ((256:Int)<((g.ez.length+g.out.length+g.loc.length:Nat):Int))=true:=by simp;omega
    refine eF @db @dx @gf @ul @jO @ei (Za @c4 (Za @fa (Za @g6 (Za @eU (Za @iL @eS))))) ⟨?_⟩
    exact⟨⟨30,g.at_,by rw[EL,pV,Zu (.inl arv)],rfl,cg⟩⟩
   have eS:decide ((256:Int)<((g.ez.length+g.out.length+g.loc.length:Nat):Int))=false:=by simp;omega
   by_cases arw:4096<g.eqs.length
   ·have iK:decide ((4096:Int)<(g.eqs.length:Int))=true:=by simp;omega
    refine eF @db @dx @gf @ul @jO @ei (Za @c4 (Za @fa (Za @g6 (Za @eU (Za @iL (Za @eS @iK)))))) ⟨?_⟩
    exact⟨⟨30,g.at_,by rw[EL,pV,Zu (.inr arw)],rfl,cg⟩⟩
   have iK:decide ((4096:Int)<(g.eqs.length:Int))=false:=by simp;omega
   refine eF @db @dx @gf @ul @jO @ei (Za @c4 (Za @fa (Za @g6 (Za @eU (Za @iL (Za @eS (Za @iK (Za @rI (Za @jY @lC))))))))) ⟨?_⟩
   have aj:pV ai=(match wI g.eqs with|some F=>some (22,F)|none=>pV (ai.drop (W+1))):=by rw[EL,pV,Zg Zo]
   have O9:=fQ.ab (T:=h) (λe z=>(bJ.ab e (bE e z)).symm)
   have ay2:=mH.ab (T:=h) (bm:=P) (λe z=>(bJ.ab e (bE e z)).symm) (λ_ a=>a)
   refine fK (λk2 H T aU=>∃(i:Nat),H.g 24=some aW/\H.g 25=some (.Z (ai.length:Int))/\H.g 26=some (.Z (W:Int))/\H.g 53=some eP/\H.g 54=some (.Z (g.eqs.length:Int))/\H.g 55=some (.Z (i:Int))/\i+k2=g.eqs.length/\bo X h j T aU/\wI g.eqs=wI (g.eqs.drop i))
    g.eqs.length ⟨0,a7 rI,a7 jY,a7 lC,bw,bw,fW,Zo,cg,rfl⟩ ?_
   clear rI jY lC db dx gf ul jO x4 cP cg
   rintro k2 H aX bf ⟨i,rI,jY,lC,qP,kz,qQ,aN,cg,EK⟩
   have ip:=cg.le
   cases k2 with
   |zero=>
    have ga:=zr i g.eqs.length
    rw[ZH Zo]at EK
    refine gg @qQ @kz @ga @lC @cn ⟨?_⟩
    refine⟨m,Zo,W+1,a7 rI,a7 jY,bw,Zo,cg, ?_⟩
    rw[aj,EK];rfl
   |succ k2=>
    have ga:=zs i g.eqs.length
    have oG:=zv i
    obtain⟨ah,yu⟩:=zt g.eqs i
    have asK:g.eqs.drop i=ah::g.eqs.drop (i+1):=by
     obtain⟨af,z⟩:=Zc.1 yu
     rw[Zv af,z]
    rw[asK,wI]at EK
    obtain⟨row,e3,tu⟩:=ay2.get i ah yu
    have atk:=fQ.f3 i (by rw[Mx.1];omega)
    have K9:=(O9.ab λe z=>cg.ab e (bE e z)).row Zd e3
    obtain⟨anc,ana,h5,kn,k8,rfl,_,_,Pd,oU⟩:=tu
    refine iM @qQ @kz @qP @ga @atk @K9 ⟨?_⟩
    refine fw (hF (q:=4) (b:=bf) (U:=0) (n:=4) (c:=K.ofList [.aV, .aV, .Z 0, .cx] 0 .nil) (bg Zo) Zo rfl Zd Zd oU) ?_
    generalize eH:bn X _ bf _=bC
    have Em:Y X bC bf=some (.cells (dN (K.ofList [.aV, .aV, .Z 0, .cx] 0 .nil) 0 [anc,ana, .Z ah.at_,k8]) 4 .own):=by rw[<-eH];exact bg Zo
    have dv:bo X aX bf bC (bf+1):=by rw[<-eH];exact dM
    have G8:=cg.trans dv
    clear eH
    have gf:aO X bC (.ptr bf 3)=some k8:=by rw[bO Em];rfl
    refine ci @gf ⟨?_⟩
    refine(asU aw Zo (Pd.ab λe z=>G8.ab e (bE e z)) (λe z=>zq (bE e z))).Zm ?_
    rintro FY bW b4 ⟨rfl,dJ⟩
    have ib:=dJ.le
    have dx:aO X bW (.ptr bf 2)=some (.Z ah.at_):=by rw[bO (by rw[dJ.ab _ Zo];exact Em)];rfl
    by_cases gH:200<fO 201 ah.right
    ·have jg:decide ((200:Int)<((fO 201 ah.right:Nat):Int))=true:=by simp;omega
     rw[Zu gH]at EK
     refine cT @jg @dx ⟨?_⟩
     exact⟨⟨22,ah.at_,by rw[aj,EK],rfl,G8.trans dJ⟩⟩
    ·have jg:decide ((200:Int)<((fO 201 ah.right:Nat):Int))=false:=by simp;omega
     rw[Zg gH]at EK
     refine et @jg @qQ @oG ⟨?_⟩
     exact⟨k2,Zo,i+1,a7 rI,a7 jY,a7 lC,a7 qP,a7 kz,bw,Zo,G8.trans dJ,EK⟩
end
end
end Go.Proofs.YtpfajohmofnkfaaGreatDoor

namespace Go.Proofs.YtpfajohmofnkfaaGreatDoor
open Go.bd
noncomputable section
variable (X : cb) (h : K ag) (j : Nat) (ak av : bI) (a0 ba cj a3 a4 a5 hy h3 h4 : D)
def aav(a:aL)(b:D)(c:K ag)(d:Nat)(e f:bI):Prop:=
 BL d a c λc d g=>ax (gy b) λh=>ax (bq .gtr h (.Z 65536)) λh=>bB (λb c d=>eQ b λg=>ax (Cc a c g) λg=>ax (e8 [.str [], .Z 0] [(0,1,g)]) λg=>iv a c d g λc d g=>aY a 110 [c] d g (λ_ d g=>bB (λb c d=>gt b 5 4 λf g=>h1 g 1 a c λ_ g=>Q0 7 2 g λg=>Q1 g d a c f λc d f=>F5 λg=>mq b 3 a d 2 g λa b=>e (.tuple [c,b]) a f) λh=>fF (λb c d g=>fb (g+10) λg=>kP c 4 1 a d λ_ _ i=>kP c 4 0 a d λ_ _ j=>ax (m8 j) λj=>ax (bq .lss i j) λi=>bB (λc d g=>bB (λc d e=>xx c 4 a 110 d e f λ_ a d=>b c a d) λb=>ov c λh=>fb (g+10) λg=>kP c 4 0 a d λ_ _ i=>kP c 4 1 a d λ_ _ j=>ax (n9 i j) λi=>bB (λc d g=>cL (c 6) λh=>iz a h [] d g (λd f g=>ud d g a f λd f g h=>ax (hp .not d) λi=>bB (λc d e=>kP c 4 1 a d λ_ _ f=>cL (c 8) λg=>sR 2 g a d f λd=>fb (e+11) λe=>kP c 4 1 a d λf _ g=>jL c 8 1 a d λ_ h=>ax (m8 h) λh=>ax (bq .add g h) λg=>rQ f 1 a d g λd=>gt c 5 8 λf g=>ax (d8 a d 7 g) λg=>Q1 g e a d f λa d e=>b (aa c 5 a) d e) λb=>aZ i (fb (g+7) λb=>kP c 4 1 a h λ_ _ d=>MI 20 d λd=>mq c 3 a h 2 d λa c=>e (.tuple [.aV,c]) a b) (b (zz c 8 f 9 d 59 i) h g)) f) λb=>aY a 112 [i] d g (λd e g=>bB b λb=>aZ d (ov c λa=>b (zA c 6 (.func (.func 111) [h] []) 7 i 43 d 6 (.func (.func 113) [a] [])) e g) (aY a 114 [i] e g (λa e f=>bB b λb=>aZ a (ov c λg=>b (aa (zA c 6 (.func (.func 111) [h] []) 7 i 43 d 48 a) 6 (.func (.func 115) [g] [])) e f) (b (zA c 6 (.func (.func 111) [h] []) 7 i 43 d 48 a) e f)) f)) f) λa=>aZ i (a (aa c 29 i) d g) (h (aa c 29 i) d g)) (zy b 4 c 5 .aV) d g) f) λf=>aZ h (ax (e8 [.Z 0, .Z 0] [(0,1, .Z 3)]) λb=>DD a d 2 c b λa b=>e (.tuple [.aV,b]) a g) (f (zz (cO [b]) 2 .aV 3 c 12 h) d g)
def amg:dg X 66 [a0] h j ak av=aav X a0 h j ak av:=Zk
def amf:cW X 66 1=true:=Zk
def W9(a:aL)(b:D)(c:K ag)(d:Nat)(e f:bI):Prop:=
 bB (λ_ a b=>e (.tuple []) a b) λg=>fF (λb c d h=>fb (h+10) λh=>kP c 0 1 a d λ_ _ i=>ot c a d λj=>ax (m8 j) λj=>ax (bq .lss i j) λi=>bB (λc d g=>bB b λb=>bB b λb=>fb (g+12) λg=>ot c a d λh=>kP c 0 1 a d λ_ _ i=>ax (n9 h i) λh=>aY a 163 [.str [32,9,10,13],h] d g (λd g h=>Gb d λd=>bB b λb=>aZ d (MF c a g λa=>b (aa c 12 d) a h) (fb (h+11) λh=>ot c a g λi=>kP c 0 1 a g λ_ _ j=>ax (nf i (some j) none) λi=>aY a 164 [i, .str [45,45]] g h (λg h i=>bB b λb=>aZ g (fb (i+15) λe=>kP c 0 1 a h λi j k=>gt c 0 0 λl m=>h1 m 1 a h λ_ m=>aY a 165 [l,m, .func (.func 166) [] []] h e (λe f h=>ax (m8 e) λe=>ax (bq .add k e) λe=>kB i 1 λi=>ax (aO a f j) λj=>gT j (some k) (nk a f i e λa=>b (zy c 12 d 31 g) a h)) f) (e (.tuple []) h i)) f)) f) λa=>aZ i (a (aa c 11 i) d h) (g (aa c 11 i) d h)) (cO [b]) c d
def aiZ:dg X 110 [a0] h j ak av=W9 X a0 h j ak av:=Zk
def aiY:cW X 110 1=true:=Zk
def Xa(a:aL)(b:D)(c:K ag)(d:Nat)(e f:bI):Prop:=
 y3 d a c λc d g=>ax (d8 a d 17 (.ptr 1 0)) λh=>bB (λb c d=>Q2 λf=>mq b 2 a c 7 f λa b=>e (.tuple [b, .zF]) a d) λi=>fF (λb c d g=>Ji c 7 17 λh=>bB (λc d g=>mN (λa c d=>gU a 7 λe=>b (aa a 7 e) c d) c 6 7 λb h i=>ax (uZ false 17 1 h i) λh=>fb (g+11) λg=>ot c a d λi=>kP c 0 1 a d λ_ _ j=>ax (nf i (some j) none) λi=>aY a 164 [i,h] d g (λd f g=>bB b λb=>aZ d (Q0 6 1 h λb=>mq c 2 a f 7 b λa b=>e (.tuple [b, .zT]) a g) (b (zy c 5 h 20 d) f g)) f) λa=>aZ h (a (aa c 8 h) d g) (i (aa c 8 h) d g)) (zA (cO [b]) 2 c 3 .zF 6 h 7 (.Z 0)) d g
def ai1:dg X 111 [a0] h j ak av=Xa X a0 h j ak av:=Zk
def ai0:cW X 111 1=true:=Zk
def Xb(_:aL)(a:D)(b:K ag)(c:Nat)(d _:bI):Prop:=
 ax (bq .geq a (.int .u8 48)) λe=>ke e a b c λa b c=>eZ e (bq .leq a (.int .u8 57)) b c λa b c=>dh (λa=>d a b c) λb=>aZ e (b a) (b .zF)
def ai3:dg X 112 [a0] h j ak av=Xb X a0 h j ak av:=Zk
def ai2:cW X 112 1=true:=Zk
def Xc(a:aL)(b:D)(c:K ag)(d:Nat)(e f:bI):Prop:=
 y3 d a c λc d g=>h1 b 1 a d λ_ h=>aY a 165 [b,h, .func (.func 112) [] []] d g (λd g h=>aY a 167 [d, .Z 10, .Z 64] g h (λg h i=>hn g λg j=>ax (dw a h .neq 238 true j .nilIface) λk=>hr k d h i λh i l=>fJ k (m8 h) i l λh i l=>fJ k (bq .gtr h (.Z 20)) i l λh i l=>dh (λh=>bB (λb c d=>gt b 0 0 λg h=>h1 h 1 a c λ_ h=>ov b λi=>ax (m8 i) λi=>ax (bq .add h i) λh=>aY a 165 [g,h, .func (.func 168) [] []] c d (λc d g=>Jc a d c λh=>bB (λb c d=>xx b 7 a 169 c d f λc d g=>QT c g a d λc d g h=>fb (g+19) λg=>gt b 4 7 λi j=>ax (dw a h .add 9 false i j) λk=>ou b λl=>it a h d λm=>ax (e8 [.Z 0, .str [], .Z 0, .int .u64 0, .zF, .zF, .Z 0] [(0,1, .Z 5),(1,1,k),(3,1,l),(4,3,m)]) λl=>kd c (hv 0 d) h λh n=>kd c (aO a n h) n λh n=>kd c (hp .not h) n λh n=>dh (λc=>kd c (d8 a n 3 d) n λh n=>Lz c (b 5) n λn o=>m4 c (λb=>aY a 170 [h,n] o g b f) o g λf g h=>dh (λc=>ax (dw a g .add 9 false i j) λf=>gT f (some k) (it a g d λd=>gT d (some m) (mq b 2 a g 7 l λa b=>e (.tuple [b,c]) a h))) λa=>aZ c (a f) (a .zF)) λa=>aZ c (a h) (a .zF)) λf=>aZ h (gt b 4 5 λc f=>ax (e8 [.Z 0, .str [], .Z 0, .int .u64 0, .zF, .zF, .Z 0] [(0,1, .Z 4),(1,1,c),(3,1,f)]) λc=>mq b 2 a d 7 c λa b=>e (.tuple [b, .zT]) a g) (f (zy b 7 c 39 h) d g)) f) λf=>aZ h (Q2 λb=>DD a i 7 c b λa b=>e (.tuple [b, .zF]) a l) (f (zy (zA (cO [b]) 2 c 3 .zF 4 d 5 g) 6 j 27 h) i l)) λa=>aZ k (a .zT) (a h)) f) f
def ai5:dg X 113 [a0] h j ak av=Xc X a0 h j ak av:=Zk
def ai4:cW X 113 1=true:=Zk
def Xd(_:aL)(a:D)(b:K ag)(c:Nat)(d _:bI):Prop:=
 ax (bq .geq a (.int .u8 97)) λe=>ke e a b c λb c f=>eZ e (bq .leq b (.int .u8 122)) c f λb c f=>dh (λb=>hr b a c f λc e f=>fJ b (bq .geq c (.int .u8 65)) e f λc e f=>hr b c e f λc e f=>ke c a e f λe f g=>eZ c (bq .leq e (.int .u8 90)) f g λe f g=>m3 b (λa=>dh (λb=>a b f g) λa=>aZ c (a e) (a .zF)) f g λc e f=>dh (λb=>hr b a e f λa c e=>fJ b (bq .eql a (.int .u8 95)) c e λa c e=>dh (λa=>d a c e) λc=>aZ b (c .zT) (c a)) λa=>aZ b (a .zT) (a c)) λa=>aZ e (a b) (a .zF)
def ai7:dg X 114 [a0] h j ak av=Xd X a0 h j ak av:=Zk
def ai6:cW X 114 1=true:=Zk
def Xe(a:aL)(b:D)(c:K ag)(d:Nat)(e f:bI):Prop:=
 y3 d a c λc d g=>h1 b 1 a d λ_ h=>aY a 165 [b,h, .func (.func 168) [] []] d g (λd g h=>Q0 1 1 d λi=>xv h a g i λg h i=>aY a 169 [d] i h (λh i j=>QT h j a i λh i j k=>bB (λb c d=>sP b 5 a c 7 λf=>ov b λg=>ax (m8 g) λg=>ax (bq .leq g (.Z 32)) λg=>mq b 2 a c 7 f λa b=>e (.tuple [b,g]) a d) λe=>aZ h (fb (j+5) λf=>it a k i λj=>ax (hv 0 g) λl=>rO a k l 3 λk=>ax (hv 4 g) λl=>it a k i λm=>gT m (some j) (ax (gj a k 3 l j) λa=>e (zz (zA (cO [b]) 2 c 3 .zF 4 d 5 g) 6 i 7 h 21 h) a f)) (aY a 171 [d] k j (λf j k=>bB e λe=>aZ f (ax (hv 0 g) λl=>rO a j l 2 λa=>e (zA (zA (cO [b]) 2 c 3 .zF 4 d 5 g) 6 i 7 h 21 h 26 f) a k) (e (zA (zA (cO [b]) 2 c 3 .zF 4 d 5 g) 6 i 7 h 21 h 26 f) j k)) f)) f) f
def ai9:dg X 115 [a0] h j ak av=Xe X a0 h j ak av:=Zk
def ai8:cW X 115 1=true:=Zk
def XD(a:aL)(b c:D)(d:K ag)(e:Nat)(f g:bI):Prop:=
 aY a 199 [b,c] d e f g
def ajZ:dg X 163 [a0,ba] h j ak av=XD X a0 ba h j ak av:=Zk
def ajY:cW X 163 2=true:=Zk
def XE(a:aL)(b c:D)(d:K ag)(e:Nat)(f g:bI):Prop:=
 aY a 200 [b,c] d e f g
def aj1:dg X 164 [a0,ba] h j ak av=XE X a0 ba h j ak av:=Zk
def aj0:cW X 164 2=true:=Zk
def XF(a:aL)(b c d:D)(e:K ag)(f:Nat)(g h:bI):Prop:=
 bB (λb c d=>ot b a c λa=>gt b 1 7 λb e=>ax (nf a (some b) (some e)) λa=>g a c d) λg=>fF (λb c d e=>gt c 7 0 λf i=>h1 i 0 a d λ_ i=>ax (m8 i) λi=>ax (bq .lss f i) λf=>oa f (c 2) d e λd e i=>oa f (c 0) e i λe i j=>BN f e i j 0 a λe i j=>oa f (c 7) i j λi j k=>eZ f (n9 e i) j k λe i j=>m4 f (λb=>iz a d [e] i j b h) i j λa d e=>dh (λa=>bB (λa c d=>bB b λb=>gU a 7 λe=>b (aa a 7 e) c d) λb=>aZ a (b (aa c 25 a) d e) (g (aa c 25 a) d e)) λb=>aZ f (b a) (b .zF)) (zy (cO [b,c,d]) 6 (.str []) 7 c) e f
def aj3:dg X 165 [a0,ba,cj] h j ak av=XF X a0 ba cj h j ak av:=Zk
def aj2:cW X 165 3=true:=Zk
def XG(_:aL)(a:D)(b:K ag)(c:Nat)(d _:bI):Prop:=
 ax (bq .neq a (.int .u8 10)) λa=>d a b c
def aj5:dg X 166 [a0] h j ak av=XG X a0 h j ak av:=Zk
def aj4:cW X 166 1=true:=Zk
def XH(a:aL)(b c d:D)(e:K ag)(f:Nat)(g h:bI):Prop:=
 aY a 201 [b,c,d] e f (λe f i=>hn e λe j=>ax (dw a f .neq 238 true j .nilIface) λk=>bB (λa b c=>cL (a 8) λa=>g (.tuple [a, .nilIface]) b c) λl=>aZ k (aY a 202 [.str [80,97,114,115,101,85,105,110,116],b,c,d,j] f i (λa b c=>g (.tuple [e,a]) b c) h) (l (aa (zA (cO [b,c,d]) 6 (.int .u64 0) 7 .nilIface 8 e 9 j) 18 k) f i)) h
def aj7:dg X 167 [a0,ba,cj] h j ak av=XH X a0 ba cj h j ak av:=Zk
def aj6:cW X 167 3=true:=Zk
def XI(a:aL)(b:D)(c:K ag)(d:Nat)(e f:bI):Prop:=
 aY a 114 [b] c d (λc d g=>hr c b d g λb d g=>m3 c (λc=>aY a 112 [b] d g c f) d g λa b d=>dh (λa=>e a b d) λb=>aZ c (b .zT) (b a)) f
def aj9:dg X 168 [a0] h j ak av=XI X a0 h j ak av:=Zk
def aj8:cW X 168 1=true:=Zk
def XJ(a:aL)(b:D)(c:K ag)(d:Nat)(e f:bI):Prop:=
 Jg d a c λc d g=>ax (dw a d .eql 9 true b (.str [98,111,111,108])) λh=>bB (λb c d=>eQ b λg=>Jc a c g λg=>Bg g (b 0) c d λc d h=>fJ g (n9 c (.Z 0)) d h λc d h=>fJ g (bq .neq c (.int .u8 117)) d h λc d h=>hr g c d h λc d h=>oa c (b 0) d h λd h i=>eZ c (n9 d (.Z 0)) h i λd h i=>eZ c (bq .neq d (.int .u8 105)) h i λd h i=>m3 g (λa=>dh (λb=>a b h i) λa=>aZ c (a d) (a .zF)) h i λc d h=>dh (λc=>bB (λb c d=>BM b 1 λg=>aY a 203 [g] c d (λc d g=>hn c λc h=>eQ b λi=>MK i 105 λi=>ax (e8 [.zF, .zF, .Z 0] [(1,1,i),(2,1,c)]) λi=>Jg g a d λd g j=>ax (gj a g 3 d i) λg=>ax (dw a g .neq 238 true h .nilIface) λi=>fJ i (d8 a g 3 d) g j λg j k=>Jb i (λb=>aY a 182 [g] j k b f) j k λg j k=>dh (λg=>fJ g (d8 a j 3 d) j k λi j k=>m3 g (λb=>aY a 204 [i] j k b f) j k λf i j=>Bg g (b 0) i j λi j k=>fJ g (dw a j .neq 9 false f i) j k λf i j=>dh (λf=>bB (λb c d=>sP b 6 a c 3 λf=>mq b 2 a c 3 f λa b=>e (.tuple [b, .zT]) a d) λg=>aZ f (ax (e8 [.zF, .zF, .Z 0] []) λc=>mq b 2 a i 3 c λa b=>e (.tuple [b, .zF]) a j) (g (zA b 4 c 5 h 6 d 46 f) i j)) λa=>aZ g (a .zT) (a f)) λa=>aZ i (a .zT) (a g)) f) λf=>aZ c (ax (e8 [.zF, .zF, .Z 0] []) λc=>mq b 2 a d 3 c λa b=>e (.tuple [b, .zF]) a h) (f (aa b 21 c) d h)) λa=>aZ g (a .zT) (a c)) λf=>aZ h (ax (e8 [.zF, .zF, .Z 0] [(0,1, .zT),(2,1, .Z 1)]) λb=>ax (gj a d 3 c b) λb=>it a b c λa=>e (.tuple [a, .zT]) b g) (f (zz (cO [b]) 2 c 3 .zF 8 h) d g)
def akb:dg X 169 [a0] h j ak av=XJ X a0 h j ak av:=Zk
def aka:cW X 169 1=true:=Zk
def XK(a:aL)(b c:D)(d:K ag)(e:Nat)(f g:bI):Prop:=
 iv a d e b λd e h=>fy 1 d a e λ_ i=>bB (λb c d=>sP b 2 a c 3 λe=>sL b λb=>aY a 205 [e,b] c d f g) λg=>aZ i (fy 2 d a e λ_ j=>MM j λj=>ax (e8 [.zF, .zF, .Z 0] [(2,1,j)]) λj=>ax (gj a e 3 d j) λe=>fy 2 d a e λ_ a=>oq a 0 g λa g=>aZ a (ax (bq .eql c (.int .u64 0)) λa=>f a e h) (g (zA (cO [b,c]) 2 d 4 .zF 6 i 13 a) e h)) (g (zz (cO [b,c]) 2 d 4 .zF 6 i) e h)
def akd:dg X 170 [a0,ba] h j ak av=XK X a0 ba h j ak av:=Zk
def akc:cW X 170 2=true:=Zk
def XL(a:aL)(b:D)(c:K ag)(d:Nat)(e _:bI):Prop:=
 ax (aO a c (.ptr 3 0)) λf=>ax (lO a c 9 .zF f b false) λa=>e a c d
def akf:dg X 171 [a0] h j ak av=XL X a0 h j ak av:=Zk
def ake:cW X 171 1=true:=Zk
def X7(a:aL)(b c:D)(d:K ag)(e:Nat)(f g:bI):Prop:=
 aY a 223 [b,c] d e f g
def akP:dg X 199 [a0,ba] h j ak av=X7 X a0 ba h j ak av:=Zk
def akO:cW X 199 2=true:=Zk
def X9(a:aL)(b c:D)(d:K ag)(e:Nat)(f _:bI):Prop:=
 ax (m8 b) λg=>ax (m8 c) λh=>ax (bq .geq g h) λg=>ke g b d e λb d e=>ke g c d e λd e h=>eZ g (m8 d) e h λd e h=>eZ g (nf b none (some d)) e h λb d e=>ke g c d e λc d e=>eZ g (dw a d .eql 9 false b c) d e λa b c=>dh (λa=>f a b c) λb=>aZ g (b a) (b .zF)
def akR:dg X 200 [a0,ba] h j ak av=X9 X a0 ba h j ak av:=Zk
def akQ:cW X 200 2=true:=Zk
def β(a:aL)(b c d:D)(e:K ag)(f:Nat)(g h:bI):Prop:=
 Jc a e b λi=>bB (λb c d=>sO b 1 0 λe=>eQ b λf=>bB (λb c d=>sO b 2 0 λe=>bB (λb c d=>sL b λe=>bB (λb c d=>Q5 b 2 λe=>ax (bq .shl (.int .u64 1) e) λe=>ax (bq .sub e (.int .u64 1)) λe=>eQ b λf=>hZ (Qo a c d f) c d λc d f=>je c (λb c d=>cL (b 12) λe=>oa e (b 9) c d λc d f=>MG e (λb=>aY a 225 [c] d f b h) d f λa c d=>dh (λa=>bB (λa b c=>cL (a 13) λa=>g (.tuple [a, .nilIface]) b c) λe=>aZ a (ph 2 λa=>g (.tuple [.int .u64 0,a]) c d) (e (aa b 169 a) c d)) λb=>aZ e (b a) (b .zF)) λi j=>fF (λb c d e=>hJ c 101 100 λf=>bB (λc d e=>uc (λa c d=>gU a 101 λe=>b (aa a 101 e) c d) c 99 101 a d λb f=>bB (λa c d=>gt a 16 1 λe f=>ax (nW .u8 f) λf=>ax (bq .geq e f) λe=>bB (λa c d=>gt a 13 10 λe f=>ax (bq .geq e f) λe=>bB (λa c d=>gt a 13 1 λe f=>ax (nW .u64 f) λf=>ax (bq .mul e f) λe=>Q5 a 16 λf=>ax (bq .add e f) λf=>ax (bq .lss f e) λh=>hr h f c d λc d i=>Bg h (a 11) d i λd i j=>fJ h (bq .gtr c d) i j λc d i=>dh (λc=>bB (λa c d=>cL (a 17) λe=>b (aa a 13 e) c d) λb=>aZ c (cL (a 11) λa=>ph 1 λb=>g (.tuple [a,b]) d i) (b (zz a 13 e 17 f 159 c) d i)) λa=>aZ h (a .zT) (a c)) λb=>aZ e (cL (a 11) λa=>ph 1 λb=>g (.tuple [a,b]) c d) (b (aa a 141 e) c d)) λb=>aZ e (ph 2 λa=>g (.tuple [.int .u64 0,a]) c d) (b (aa a 137 e) c d)) λi=>ax (bq .eql f (.int .u8 95)) λj=>oa j (c 8) d e λd e k=>dh (λd=>bB i λi=>aZ d (b (zA c 15 f 16 (.int .u8 0) 106 d 12 .zT) e k) (ax (bq .leq (.int .u8 48) f) λb=>ke b f e k λe j k=>eZ b (bq .leq e (.int .u8 57)) j k λe j k=>dh (λb=>bB i λe=>aZ b (ax (bq .sub f (.int .u8 48)) λa=>e (aa (zA c 15 f 16 (.int .u8 0) 106 d 112 b) 16 a) j k) (aY a 224 [f] j k (λi j k=>ax (bq .leq (.int .u8 97) i) λi=>ke i f j k λj k l=>m4 i (λb=>aY a 224 [j] k l b h) k l λj k l=>eZ i (bq .leq j (.int .u8 122)) k l λj k l=>dh (λi=>bB e λe=>aZ i (aY a 224 [f] k l (λa g h=>ax (bq .sub a (.int .u8 97)) λa=>ax (bq .add a (.int .u8 10)) λa=>e (zy (zA c 15 f 16 (.int .u8 0) 106 d 112 b) 121 i 16 a) g h) h) (ph 2 λa=>g (.tuple [.int .u64 0,a]) k l)) λa=>aZ i (a j) (a .zF)) h)) λa=>aZ b (a e) (a .zF))) λa=>aZ j (a d) (a .zF)) λa=>aZ f (a (aa c 102 f) d e) (j (aa c 102 f) d e)) (zy (zA b 11 e 12 .zF 13 (.int .u64 0) 99 c) 100 i 101 (.Z 0)) d f) λa=>oq e 10 a λa f=>aZ a (f (zA b 10 (.int .u64 0) 85 e 90 a 10 (.int .u64 1844674407370955162)) c d) (oq e 16 f λf g=>aZ f (g (aa (zA b 10 (.int .u64 0) 85 e 90 a 92 f) 10 (.int .u64 1152921504606846976)) c d) (Q5 b 1 λh=>ax (bq .quo (.int .u64 18446744073709551615) h) λh=>ax (bq .add h (.int .u64 1)) λh=>g (aa (zA b 10 (.int .u64 0) 85 e 90 a 92 f) 10 h) c d))) λa=>aZ e (a (zy b 77 e 2 (.Z 64)) c d) (Ji b 2 0 λf=>Bg f (b 2) c d λc d h=>fJ f (bq .gtr c (.Z 64)) d h λc d h=>dh (λc=>bB a λa=>aZ c (ph 4 λa=>g (.tuple [.int .u64 0,a]) d h) (a (zy b 77 e 83 c) d h)) λa=>aZ f (a .zT) (a c))) λi=>sL b λj=>ax (bq .leq (.Z 2) j) λj=>oa j (b 1) c d λc d k=>eZ j (bq .leq c (.Z 36)) d k λc d k=>dh (λc=>bB i λi=>aZ c (i (zz b 8 e 9 f 25 c) d k) (sQ b 1 0 i λi j=>aZ i (eQ b λg=>MK g 48 λg=>bB j λj=>aZ g (bB j λj=>QZ b d k λd k l m=>m4 d (λb=>aY a 224 [k] l m b h) l m λk l m=>eZ d (bq .eql k (.int .u8 98)) l m λk l m=>dh (λd=>bB j λj=>aZ d (BM b 2 λa=>j (aa (zA (zA b 8 e 9 f 25 c 32 i) 1 (.Z 10) 37 g 40 d 1 (.Z 2)) 0 a) l m) (QZ b l m λk l m n=>m4 k (λb=>aY a 224 [l] m n b h) m n λl m n=>eZ k (bq .eql l (.int .u8 111)) m n λl m n=>dh (λk=>bB j λj=>aZ k (BM b 2 λa=>j (zy (zA (zA b 8 e 9 f 25 c 32 i) 1 (.Z 10) 37 g 40 d 52 k) 1 (.Z 8) 0 a) m n) (QZ b m n λl m n o=>m4 l (λb=>aY a 224 [m] n o b h) n o λa h m=>eZ l (bq .eql a (.int .u8 120)) h m λa h m=>dh (λa=>bB j λj=>aZ a (BM b 2 λl=>j (zz (zA (zA b 8 e 9 f 25 c 32 i) 1 (.Z 10) 37 g 40 d 52 k) 64 a 1 (.Z 16) 0 l) h m) (BM b 1 λl=>j (zz (zA (zA b 8 e 9 f 25 c 32 i) 1 (.Z 10) 37 g 40 d 52 k) 64 a 1 (.Z 8) 0 l) h m)) λb=>aZ l (b a) (b .zF))) λa=>aZ k (a l) (a .zF))) λa=>aZ d (a k) (a .zF)) (j (zy (zA b 8 e 9 f 25 c 32 i) 1 (.Z 10) 37 g) d k)) (ph 3 λa=>g (.tuple [.int .u64 0,a]) d k))) λa=>aZ j (a c) (a .zF)) λa=>aZ i (ph 2 λa=>g (.tuple [.int .u64 0,a]) e f) (a (zz (cO [b,c,d]) 6 (.int .u64 0) 7 .nilIface 19 i) e f)
def akT:dg X 201 [a0,ba,cj] h j ak av=β X a0 ba cj h j ak av:=Zk
def akS:cW X 201 3=true:=Zk
def γ(a:aL)(b c d e f:D)(g:K ag)(h:Nat)(i j:bI):Prop:=
 bB (λa b c=>ov a λa=>i a b c) λk=>ph 2 λl=>ax (dw a g .eql 238 false f l) λl=>bB k λk=>aZ l (aY a 226 [b,c] g h (λa b c=>ax (some (D.iface 283 a)) λa=>i a b c) j) (ph 1 λm=>ax (dw a g .eql 238 false f m) λm=>bB k λk=>aZ m (aY a 227 [b,c] g h (λa b c=>ax (some (D.iface 283 a)) λa=>i a b c) j) (ph 3 λn=>ax (dw a g .eql 238 false f n) λn=>bB k λk=>aZ n (aY a 228 [b,c,d] g h (λa b c=>ax (some (D.iface 283 a)) λa=>i a b c) j) (ph 4 λo=>ax (dw a g .eql 238 false f o) λo=>bB k λk=>aZ o (aY a 229 [b,c,e] g h (λa b c=>ax (some (D.iface 283 a)) λa=>i a b c) j) (k (zy (zA (cO [b,c,d,e,f]) 10 .nilIface 11 f 12 l 19 m) 26 n 34 o) g h))))
def akV:dg X 202 [a0,ba,cj,a3,a4] h j ak av=γ X a0 ba cj a3 a4 h j ak av:=Zk
def akU:cW X 202 5=true:=Zk
def δ(a:aL)(b:D)(c:K ag)(d:Nat)(e f:bI):Prop:=
 aY a 230 [b] c d (λc d g=>hn c λc h=>ax (dw a d .neq 238 true h .nilIface) λi=>bB (λa b c=>ov a λa=>e (.tuple [a, .nilIface]) b c) λj=>aZ i (aY a 202 [.str [65,116,111,105],b, .Z 0, .Z 0,h] d g (λa b d=>e (.tuple [c,a]) b d) f) (j (aa (zA (cO [b]) 2 (.Z 0) 3 .nilIface 4 c 5 h) 12 i) d g)) f
def akX:dg X 203 [a0] h j ak av=δ X a0 h j ak av:=Zk
def akW:cW X 203 1=true:=Zk
def ε(a:aL)(b:D)(c:K ag)(d:Nat)(e f:bI):Prop:=
 iv a c d b λc d g=>bB (λb c d=>jL b 1 2 a c λ_ b=>aY a 183 [b] c d (λb c d=>ax (dw a c .add 9 true (.str [117]) b) λa=>e a c d) f) λh=>it a d c λi=>aY a 182 [i] d g (λd g i=>BO d h λd h=>aZ d (e (.str []) g i) (kQ c a g λj=>bB h λh=>aZ j (e (.str [98,111,111,108]) g i) (fy 1 c a g λ_ k=>bB h λh=>aZ k (fy 2 c a g λ_ b=>aY a 183 [b] g i (λb c d=>ax (dw a c .add 9 true (.str [105]) b) λa=>e a c d) f) (h (aa (zA (cO [b]) 1 c 2 (.str []) 3 d 7 j) 10 k) g i)))) f
def akZ:dg X 204 [a0] h j ak av=ε X a0 h j ak av:=Zk
def akY:cW X 204 1=true:=Zk
def ζ(a:aL)(b c:D)(d:K ag)(e:Nat)(f g:bI):Prop:=
 iv a d e b λb d e=>it a d b λh=>aY a 182 [h] d e (λd e h=>ke d c e h λc e h=>eZ d (d8 a e 3 b) e h λb e h=>m4 d (λc=>aY a 231 [b] e h c g) e h λa b e=>eZ d (bq .andNot c a) b e λa b c=>eZ d (bq .eql a (.int .u64 0)) b c λa b c=>dh (λa=>f a b c) λb=>aZ d (b a) (b .zF)) g
def ak1:dg X 205 [a0,ba] h j ak av=ζ X a0 ba h j ak av:=Zk
def ak0:cW X 205 2=true:=Zk
def υ(a:aL)(b c:D)(d:K ag)(e:Nat)(f g:bI):Prop:=
 fb (e+7) λh=>ax (aO a d (.ptr 6 0)) λi=>aY a 240 [c] d h (λc d g=>ax (e8 [.str [], .str [], .nilIface] [(0,1,b),(1,1,c),(2,1,i)]) λb=>xP a d (e+5) b λb c=>ax (aO a c (.ptr 6 0)) λa=>gT a (some i) (f b c g)) g
def alu:dg X 226 [a0,ba] h j ak av=υ X a0 ba h j ak av:=Zk
def alt:cW X 226 2=true:=Zk
def φ(a:aL)(b c:D)(d:K ag)(e:Nat)(f g:bI):Prop:=
 fb (e+7) λh=>ax (aO a d (.ptr 7 0)) λi=>aY a 240 [c] d h (λc d g=>ax (e8 [.str [], .str [], .nilIface] [(0,1,b),(1,1,c),(2,1,i)]) λb=>xP a d (e+5) b λb c=>ax (aO a c (.ptr 7 0)) λa=>gT a (some i) (f b c g)) g
def alw:dg X 227 [a0,ba] h j ak av=φ X a0 ba h j ak av:=Zk
def alv:cW X 227 2=true:=Zk
def χ(a:aL)(b:D)(c:K ag)(d:Nat)(e f:bI):Prop:=
 ax (m8 b) λg=>pP (λc d h=>pP (λc d h=>pP (λc d h=>ke c g d h λd h i=>eZ c (bq .lss d (.Z 10)) h i λd h i=>pP (λc d h=>dh (λc=>hr c .zT d h λd h i=>ke d g h i λh i j=>eZ d (bq .lss (.Z 0) h) i j λh i j=>ke d h i j λh i j=>ke h g i j λi j k=>eZ h (bq .lss i (.Z 19)) j k λi j k=>m4 d (λa=>dh (λb=>a b j k) λa=>aZ h (a i) (a .zF)) j k λh i j=>m3 c (λa=>dh (λb=>a b i j) λa=>aZ d (a h) (a .zF)) i j λd h i=>dh (λc=>bB (λb c d=>eQ b λb=>aY a 242 [b, .Z 10, .Z 0] c d (λa b c=>hn a λa d=>e (.tuple [a,d]) b c) f) λd=>aZ c (MK b 45 λd=>hr d b h i λf h i=>fJ d (n9 f (.Z 0)) h i λf h i=>fJ d (bq .eql f (.int .u8 43)) h i λf h i=>dh (λd=>bB (λb c d=>eQ b λf=>hZ (Qo a c d f) c d λc d f=>je c (λa b c=>ou a λd=>MK d 45 λd=>bB (λa b c=>cL (a 6) λa=>e (.tuple [a, .nilIface]) b c) λe=>aZ d (cL (a 6) λf=>ax (hp .neg f) λf=>e (zy a 66 d 6 f) b c) (e (aa a 66 d) b c)) λg h=>fF (λb c d f=>hJ c 49 48 λg=>bB (λc d f=>uc (λa c d=>gU a 49 λe=>b (aa a 49 e) c d) c 47 49 a d λa b=>ax (bq .sub b (.int .u8 48)) λg=>ax (bq .gtr g (.int .u8 9)) λh=>bB (λb c d=>cL (b 6) λe=>ax (bq .mul e (.Z 10)) λe=>cL (b 8) λf=>ax (nW .i64 f) λf=>ax (bq .add e f) λe=>a (aa b 6 e) c d) λa=>aZ h (ph 2 λa=>e (.tuple [.Z 0,a]) d f) (a (zz c 8 b 8 g 56 h) d f)) λa=>aZ g (a (aa c 50 g) d f) (h (aa c 50 g) d f)) (zA b 6 (.Z 0) 47 c 48 g 49 (.Z 0)) d f) λa=>aZ d (ax (nf b (some (.Z 1)) none) λf=>ax (m8 f) λj=>ax (bq .lss j (.Z 1)) λj=>bB a λa=>aZ j (ph 2 λa=>e (.tuple [.Z 0,a]) h i) (a (zA (zA (cO [b]) 2 (.Z 0) 3 .nilIface 4 g 30 c) 5 b 39 d 0 f 44 j) h i)) (a (zy (zA (cO [b]) 2 (.Z 0) 3 .nilIface 4 g 30 c) 5 b 39 d) h i)) λa=>aZ d (a .zT) (a f)) (d (zA (cO [b]) 2 (.Z 0) 3 .nilIface 4 g 30 c) h i)) λa=>aZ c (a .zT) (a d)) λa=>aZ .zF (a c) (a .zF)) λa=>iP true .zF (dh (λb=>a b h i) λa=>aZ c (a d) (a .zF)) (a bd.undef h i)) λa=>iP true .zF (a c d h) (a bd.undef d h)) λa=>iP true .zF (ax (bq .lss (.Z 0) c) λb=>a b d h) (a bd.undef d h)) λa=>iP true .zF (a g c d) (a bd.undef c d)
def aly:dg X 230 [a0] h j ak av=χ X a0 h j ak av:=Zk
def alx:cW X 230 1=true:=Zk
def ψ(a:aL)(b:D)(c:K ag)(d:Nat)(e _:bI):Prop:=
 iv a c d b λb c d=>fy 2 b a c λ_ a=>ax (bq .sub (.Z 64) a) λa=>ax (bq .shr (.int .u64 18446744073709551615) a) λa=>e a c d
def alA:dg X 231 [a0] h j ak av=ψ X a0 h j ak av:=Zk
def alz:cW X 231 1=true:=Zk
def aae(a:aL)(b c d:D)(e:K ag)(f:Nat)(g h:bI):Prop:=
 Jc a e b λi=>bB (λb c d=>eQ b λe=>ax (n9 e (.Z 0)) λe=>bB (λb c d=>gt b 0 1 λe f=>cL (b 2) λi=>aY a 201 [e,f,i] c d (λc d e=>hn c λc f=>ax (dw a d .neq 238 true f .nilIface) λh=>ke h f d e λd e i=>eZ h (some (D.iface 281 (.Z 1))) e i λe i j=>eZ h (dw a i .neq 238 false d e) i j λa d e=>dh (λa=>bB (λa b c=>sO a 2 0 λd=>bB (λa b c=>WT a 2 1 λd=>ax (nW .u64 d) λd=>ax (bq .shl (.int .u64 1) d) λd=>cL (a 8) λe=>ax (hp .not e) λe=>oa e (a 9) b c λb c f=>ke e d c f λc f h=>eZ e (bq .geq b c) f h λb c f=>dh (λb=>bB (λa b c=>cL (a 8) λd=>oa d (a 9) b c λb c e=>oa d (a 10) c e λc e f=>eZ d (bq .gtr b c) e f λb c e=>dh (λb=>bB (λa b c=>cL (a 9) λd=>ax (nW .i64 d) λd=>cL (a 8) λe=>bB (λa b c=>cL (a 11) λa=>g (.tuple [a, .nilIface]) b c) λf=>aZ e (ax (hp .neg d) λg=>f (zz a 11 d 69 e 11 g) b c) (f (zy a 11 d 69 e) b c)) λd=>aZ b (cL (a 10) λa=>ax (nW .i64 a) λa=>ax (hp .neg a) λa=>ph 1 λb=>g (.tuple [a,b]) c e) (d (aa a 62 b) c e)) λa=>aZ d (a b) (a .zF)) λe=>aZ b (ax (bq .sub d (.int .u64 1)) λa=>ax (nW .i64 a) λa=>ph 1 λb=>g (.tuple [a,b]) c f) (e (zy a 10 d 52 b) c f)) λa=>aZ e (a b) (a .zF)) λe=>aZ d (e (zy a 41 d 2 (.Z 64)) b c) (e (aa a 41 d) b c)) λh=>aZ a (g (.tuple [.Z 0,f]) d e) (h (zA b 9 (.int .u64 0) 9 c 7 f 38 a) d e)) λb=>aZ h (b a) (b .zF)) h) λa=>ax (bq .eql e (.int .u8 43)) λf=>bB a λa=>aZ f (BM b 1 λg=>a (zA b 8 .zF 16 e 17 f 0 g) c d) (ax (bq .eql e (.int .u8 45)) λg=>bB a λa=>aZ g (BM b 1 λh=>a (zy (zA b 8 .zF 16 e 17 f 21 g) 0 h 8 .zT) c d) (a (zA b 8 .zF 16 e 17 f 21 g) c d))) λa=>aZ i (ph 2 λa=>g (.tuple [.Z 0,a]) e f) (a (zz (cO [b,c,d]) 6 (.Z 0) 7 .nilIface 13 i) e f)
def alM:dg X 242 [a0,ba,cj] h j ak av=aae X a0 ba cj h j ak av:=Zk
def alL:cW X 242 3=true:=Zk
def XX(a:aL)(b:D)(c:K ag)(d:Nat)(e f:bI):Prop:=
 aY a 209 [b] c d e f
def akv:dg X 183 [a0] h j ak av=XX X a0 h j ak av:=Zk
def aku:cW X 183 1=true:=Zk
def κ(a:aL)(b:D)(c:K ag)(d:Nat)(e f:bI):Prop:=
 aY a 233 [b,.Z 10] c d e f
def ak9:dg X 209 [a0] h j ak av=κ X a0 h j ak av:=Zk
def ak8:cW X 209 1=true:=Zk
def aaa(a:aL)(b c:D)(d:K ag)(e:Nat)(f g:bI):Prop:=
 ax (bq .eql c (.Z 10)) λh=>bB (λb c d=>eQ b λe=>ax (nW .u64 e) λe=>gt b 1 0 λb h=>Je h λh=>aY a 247 [.aV,e,b,h, .zF] c d (λa b c=>hn a λ_ a=>f a b c) g) λi=>aZ h (ax (bq .leq (.Z 0) b) λi=>ke i b d e λd e j=>eZ i (bq .lss d (.Z 100)) e j λd e j=>dh (λd=>bB (λb c d=>ax (km [.int .u8 0, .int .u8 0, .int .u8 0, .int .u8 0, .int .u8 0, .int .u8 0, .int .u8 0, .int .u8 0, .int .u8 0, .int .u8 0, .int .u8 0, .int .u8 0, .int .u8 0, .int .u8 0, .int .u8 0, .int .u8 0, .int .u8 0, .int .u8 0, .int .u8 0, .int .u8 0, .int .u8 0, .int .u8 0, .int .u8 0, .int .u8 0] d) λe=>gw a c d e.1 e.2 λc d e=>eQ b λh=>ax (nW .u64 h) λh=>eQ b λi=>Je i λi=>bB (λb c d=>xx b 6 a 245 c d g λc d e=>ax (bq .add (.Z 1) c) λh=>ou b λi=>ax (Wf 24 1 i (some (.Z 1)) (some h) none) λh=>cL (b 6) λi=>aY a 246 [h,i] d e (λ_ d e=>eQ b λg=>Je g λg=>bB (λb c d=>cL (b 7) λe=>ax (bq .add (.Z 1) e) λe=>ou b λb=>ax (Wf 24 1 b (some (.Z 1)) (some e) none) λb=>ax (Cc a c b) λa=>f a c d) λh=>aZ g (ou b λg=>ax (HY 24 1 g (.Z 0)) λg=>ax (gj a d 1 g (.int .u8 45)) λd=>ax (bq .add (.Z 1) c) λc=>ou b λb=>ax (Wf 24 1 b none (some c) none) λb=>ax (Cc a d b) λa=>f a d e) (h (zy b 7 c 34 g) d e)) g) λa=>aZ i (ax (hp .neg h) λf=>a (zA b 5 c 6 h 23 i 6 f) d e) (a (zz b 5 c 6 h 23 i) d e)) λi=>aZ d (aY a 244 [b] e j f g) (i (zz (cO [b,c]) 4 (.str []) 11 h 17 d) e j)) λa=>aZ i (a d) (a .zF)) (i (zy (cO [b,c]) 4 (.str []) 11 h) d e)
def alE:dg X 233 [a0,ba] h j ak av=aaa X a0 ba h j ak av:=Zk
def alD:cW X 233 2=true:=Zk
end
end Go.Proofs.YtpfajohmofnkfaaGreatDoor

namespace Go.Proofs.YtpfajohmofnkfaaGreatDoor
open Go.bd
noncomputable section
variable (X : cb) (h : K ag) (j : Nat) (ak av : bI) (a0 ba cj a3 a4 a5 hy h3 h4 : D)
def τ(_:aL)(a:D)(b:K ag)(c:Nat)(d _:bI):Prop:=
 ax (bq .or a (.int .u8 32)) λa=>d a b c
def als:dg X 224 [a0] h j ak av=τ X a0 h j ak av:=Zk
def alr:cW X 224 1=true:=Zk
def aag(_:aL)(a:D)(b:K ag)(c:Nat)(d _:bI):Prop:=
 ax (bq .lss a (.Z 10)) λe=>bB (λa b c=>eQ a λe=>ax (bq .mul e (.Z 2)) λe=>eQ a λa=>ax (bq .mul a (.Z 2)) λa=>ax (bq .add a (.Z 2)) λa=>ax (nf (.str [48,48,48,49,48,50,48,51,48,52,48,53,48,54,48,55,48,56,48,57,49,48,49,49,49,50,49,51,49,52,49,53,49,54,49,55,49,56,49,57,50,48,50,49,50,50,50,51,50,52,50,53,50,54,50,55,50,56,50,57,51,48,51,49,51,50,51,51,51,52,51,53,51,54,51,55,51,56,51,57,52,48,52,49,52,50,52,51,52,52,52,53,52,54,52,55,52,56,52,57,53,48,53,49,53,50,53,51,53,52,53,53,53,54,53,55,53,56,53,57,54,48,54,49,54,50,54,51,54,52,54,53,54,54,54,55,54,56,54,57,55,48,55,49,55,50,55,51,55,52,55,53,55,54,55,55,55,56,55,57,56,48,56,49,56,50,56,51,56,52,56,53,56,54,56,55,56,56,56,57,57,48,57,49,57,50,57,51,57,52,57,53,57,54,57,55,57,56,57,57]) (some e) (some a)) λa=>d a b c) λf=>aZ e (DE a λe=>ax (nf (.str [48,49,50,51,52,53,54,55,56,57,97,98,99,100,101,102,103,104,105,106,107,108,109,110,111,112,113,114,115,116,117,118,119,120,121,122]) (some a) (some e)) λa=>d a b c) (f (zy (cO [a]) 2 (.str []) 4 e) b c)
def alQ:dg X 244 [a0] h j ak av=aag X a0 h j ak av:=Zk
def alP:cW X 244 1=true:=Zk
end
end Go.Proofs.YtpfajohmofnkfaaGreatDoor

namespace Go.Proofs.YtpfajohmofnkfaaGreatDoor
open Go.bd Go.aR
noncomputable section
def iS(c:Nat):Bool:=decide (48<=c)&&decide (c<=57)
def rs(c:Nat):Bool:=decide (97<=c)&&decide (c<=122)||decide (65<=c)&&decide (c<=90)||decide (c=95)
def ja(c:Nat):Bool:=rs c||iS c
def CX{s:bi}{i c:Nat}(q:IntKind)(a:s[i]? =some c):n9 (.str s) (.int q (i:Int))=some (.int .u8 (c:Int)):=by
 simp[n9,sv,a]
def Wg{s:bi}{k a:Nat}(q e5:IntKind)(I:k<=a)(J:a<=s.length):nf (.str s) (some (.int q (k:Int))) (some (.int e5 (a:Int)))=some (.str ((s.drop k).take (a-k))):=by
 simp[nf,mr,pS,sv,fA,I,J]
def Qs{s:bi}{k:Nat}(q:IntKind)(I:k<=s.length):nf (.str s) (some (.int q (k:Int))) none=some (.str (s.drop k)):=by
 simp[nf,mr,pS,sv,fA,I,Zx]
def aAl{s:bi}{a:Nat}(q:IntKind)(I:a<=s.length):nf (.str s) none (some (.int q (a:Int)))=some (.str (s.take a)):=by
 simp[nf,mr,pS,sv,fA,I]
section
variable{X:cb}{h T aP aM:K ag}{j an aG a1:Nat}
def Sa(aw:du X)(c:Nat):aY X 112 [.int .u8 (c:Int)] h j (λac T an=>ac= .bool (iS c)/\T=h/\an=j) (λ_ _ _=>False):=by
 refine zx aw (ai2 X) ?_
 rw[ai3]
 unfold Xb
 by_cases a:48<=c
 ·have d:decide ((48:Int)<=(c:Int))=true:=by simp;omega
  have cF:decide ((c:Int)<=57)=decide (c<=57):=by simp;omega
  refine cT @d @cF ⟨?_⟩
  exact⟨by simp[iS,a],rfl,rfl⟩
 ·have d:decide ((48:Int)<=(c:Int))=false:=by simp;omega
  refine ci @d ⟨?_⟩
  exact⟨by simp[iS,a],rfl,rfl⟩
def abn(aw:du X)(c:Nat):aY X 114 [.int .u8 (c:Int)] h j (λac T an=>ac= .bool (rs c)/\T=h/\an=j) (λ_ _ _=>False):=by
 refine zx aw (ai6 X) ?_
 rw[ai7]
 unfold Xd
 have cX:decide ((97:Int)<=(c:Int))=decide (97<=c):=by simp;omega
 have cF:decide ((c:Int)<=122)=decide (c<=122):=by simp;omega
 have eS:decide ((65:Int)<=(c:Int))=decide (65<=c):=by simp;omega
 have iK:decide ((c:Int)<=90)=decide (c<=90):=by simp;omega
 have ga:decide ((c:Int)=95)=decide (c=95):=by simp;omega
 by_cases I:97<=c<;>by_cases J:c<=122<;>by_cases am:65<=c<;>by_cases aB:c<=90<;>try omega
 all_goals
  simp only[I,J,am,aB,Ys,Yd]at cX cF eS iK
  refine gg @cX @cF @eS @iK @ga ⟨?_⟩
  exact⟨by simp[rs,I,J,am,aB],rfl,rfl⟩
def axp(aw:du X)(c:Nat):aY X 168 [.int .u8 (c:Int)] h j (λac T an=>ac= .bool (ja c)/\T=h/\an=j) (λ_ _ _=>False):=by
 refine zx aw (aj8 X) ?_
 rw[aj9]
 unfold XI
 refine(abn aw c).Zm ?_
 rintro ac T an ⟨rfl,rfl,rfl⟩
 cases aj:rs c with
 |true=>
  refine cK ⟨?_⟩
  exact⟨by simp[ja,aj],rfl,rfl⟩
 |false=>
  refine cK ⟨?_⟩
  refine(Sa aw c).Zm ?_
  rintro ac T an ⟨rfl,rfl,rfl⟩
  refine cK ⟨?_⟩
  exact⟨by simp[ja,aj],rfl,rfl⟩
def axJ(aw:du X)(c:Nat):aY X 166 [.int .u8 (c:Int)] h j (λac T an=>ac= .bool (decide (c≠10))/\T=h/\an=j) (λ_ _ _=>False):=by
 refine zx aw (aj4 X) ?_
 rw[aj5]
 unfold XG
 refine cK ⟨?_⟩
 exact⟨by congr 1;simp;omega,rfl,rfl⟩
def rz(c:Nat):Nat:=(BitVec.ofInt 8 (c:Int)|||BitVec.ofInt 8 32).toNat%256
def Vr(aw:du X)(c:Nat):aY X 224 [.int .u8 (c:Int)] h j (λac T an=>ac= .int .u8 (rz c:Int)/\T=h/\an=j) (λ_ _ _=>False):=by
 refine zx aw (alr X) ?_
 rw[als]
 unfold τ
 have E:bq .or (.int .u8 (c:Int)) (.int .u8 32)=some (.int .u8 (p9 .u8 ((BitVec.ofInt 8 (c:Int)|||BitVec.ofInt 8 32).toNat))):=by
  simp[bq,mg,mD,lZ,lw];rfl
 refine ci @E ⟨?_⟩
 exact⟨rfl,rfl,rfl⟩
def ag8(aw:du X)(s p:bi):aY X 164 [.str s, .str p] h j (λac T an=>ac= .bool (decide (p.length<=s.length/\s.take p.length=p))/\T=h/\an=j) (λ_ _ _=>False):=by
 refine zx aw (aj0 X) ?_
 rw[aj1]
 unfold XE
 refine zx aw (akQ X) ?_
 rw[akR]
 unfold X9
 by_cases a:p.length<=s.length
 ·have d:decide ((p.length:Int)<=(s.length:Int))=true:=by simp;omega
  have E:=aAl (s:=s) .i64 a
  refine cT @d @E ⟨?_⟩
  exact⟨by congr 1;simp[a],rfl,rfl⟩
 ·have d:decide ((p.length:Int)<=(s.length:Int))=false:=by simp;omega
  refine ci @d ⟨?_⟩
  exact⟨by congr 1;simp;omega,rfl,rfl⟩
end
def M0(X:cb)(f:D)(p:Nat->Bool):Prop:=∃q,f= .func (.func q) [] []/\∀(h:K ag) (j c:Nat),aY X q [.int .u8 (c:Int)] h j (λac T an=>ac= .bool (p c)/\T=h/\an=j) (λ_ _ _=>False)
def azC{X:cb}(aw:du X):M0 X (.func (.func 112) [] []) iS:=⟨_,rfl,λh j c=>Sa aw c⟩
def ahv{X:cb}(aw:du X):M0 X (.func (.func 168) [] []) ja:=⟨_,rfl,λh j c=>axp aw c⟩
def azD{X:cb}(aw:du X):M0 X (.func (.func 166) [] []) (λc=>decide (c≠10)):=⟨_,rfl,λh j c=>axJ aw c⟩
structure nn(X:cb)(h:K ag)(gc:Nat)(s:bi)(i:Nat):Prop where
 g:Y X h gc=zu [.str s, .Z (i:Int)] 2
 le:i<=s.length
 many:s.length<=65536
 bM:(o X).a2<=gc
def nn.d3{X:cb}{h:K ag}{gc:Nat}{s:bi}{i:Nat}(a:nn X h gc s i):aO X h (.ptr gc 0)=some (.str s):=by rw[bO a.g];rfl
def nn.db{X:cb}{h:K ag}{gc:Nat}{s:bi}{i:Nat}(a:nn X h gc s i):aO X h (.ptr gc 1)=some (.Z (i:Int)):=by rw[bO a.g];rfl
def nn.ab{X:cb}{h T:K ag}{gc:Nat}{s:bi}{i:Nat}(a:nn X h gc s i)(q:Y X T gc=Y X h gc):nn X T gc s i:=⟨by rw[q];exact a.g,a.le,a.many,a.bM⟩
section
variable{X:cb}{h T aP aM:K ag}{j an aG a1 gc:Nat}{s:bi}{i:Nat}
def Ql(aw:du X){f:D}{p:Nat->Bool}(ch:M0 X f p)(V:nn X h gc s i){F:Nat}(aC:F<=s.length):
 aY X 165 [.ptr gc 0, .Z (F:Int),f] h j (λac T an=>ac= .str ((s.drop F).takeWhile p)/\T=h/\an=j) (λ_ _ _=>False):=by
 refine zx aw (aj2 X) ?_
 rw[aj3]
 unfold XF
 obtain⟨q,rfl,ch⟩:=ch
 have bp:=V.many
 have d3:=V.d3
 refine cK ⟨?_⟩
 refine fK (λm H T aU=>∃(E:Nat),H.g 0=some (.ptr gc 0)/\H.g 1=some (.Z (F:Int))/\H.g 2=some (.func (.func q) [] [])/\H.g 7=some (.Z (E:Int))/\F<=E/\E+m=s.length/\T=h/\aU=j/\(s.drop F).takeWhile p=(s.drop F).take (E-F)++(s.drop E).takeWhile p)
  (s.length-F) ⟨F,bw,bw,bw,bw,Zi _,Zo,rfl,rfl,Zs⟩ ?_
 rintro m H aM a1 ⟨E,t0,t1,dQ,gd,asj,aCV,rfl,rfl,bt⟩
 have bF:=zv E
 have aW:nf (.str s) (some (.Z (F:Int))) (some (.Z (E:Int)))=some (.str ((s.drop F).take (E-F))):=Wg .i64 .i64 asj Zo
 cases m with
 |zero=>
  have d:=zr E s.length
  rw[ZH (by omega:s.length<=E),List.takeWhile_nil,Yx]at bt
  refine eF @gd @t0 @t1 @dQ @d3 @d @aW ⟨?_⟩
  exact⟨by rw[bt],rfl,rfl⟩
 |succ m=>
  have d:=zs E s.length
  obtain⟨c,aA⟩:=zt s E
  have aH:s.drop E=c::s.drop (E+1):=by
   obtain⟨af,z⟩:=Zc.1 aA
   rw[Zv af,z]
  have dS:=CX .i64 aA
  refine eF @gd @t0 @t1 @dQ @d3 @d @dS ⟨?_⟩
  refine(ch aM a1 c).Zm ?_
  rintro ac aX bf ⟨rfl,rfl,rfl⟩
  rw[aH,YG]at bt
  cases ay:p c with
  |false=>
   rw[ay]at bt
   simp only[Zw,ZA,Yx]at bt
   refine gg @gd @t0 @t1 @d3 @aW ⟨?_⟩
   exact⟨by rw[bt],rfl,rfl⟩
  |true=>
   rw[ay]at bt
   simp only[ZC]at bt
   refine cT @gd @bF ⟨?_⟩
   refine⟨m,Zo,E+1,a7 t0,a7 t1,a7 dQ,bw,Zo,Zo,rfl,rfl, ?_⟩
   rw[bt,show E+1-F=(E-F)+1 by omega,ZY]
   have:(s.drop F)[E-F]? =some c:=by rw[YJ,show F+(E-F)=E by omega];exact aA
   rw[this]
   simp
end
def Lx(c:Nat):Bool:=decide (c=32)||decide (c=9)||decide (c=10)||decide (c=13)
structure iI(X:cb):Prop extends du X where
 idx:∀c:Nat,c<256->∃bz:Int,X.O 223 [.str [32,9,10,13], .int .u8 (c:Int)]=some (.Z bz)/\(0<=bz↔Lx c=true)
 clone:∀s:bi,(∀c∈s,c<256)->s.length<=65536->X.O 240 [.str s]=some (.str s)
def oD(s:bi):Nat->Nat->Nat
 |0,i=>i
 |n+1,i=>match s[i]? with
  |none=>i
  |some c=>if Lx c then oD s n (i+1)
   else if 2<=(s.drop i).length/\(s.drop i).take 2=[45,45]then oD s n (i+((s.drop i).takeWhile λc=>decide (c≠10)).length)else i
def FV{α:Type}(p:α->Bool):∀k:List α,(k.takeWhile p).length<=k.length:=by
 intro k
 induction k with
 |nil=>simp
 |cons F k al=>rw[YG];split<;>simp<;>omega
section
variable{X:cb}{h T aP aM:K ag}{j an aG a1 gc:Nat}{s:bi}{i:Nat}
def avE(aw:iI X){c:Nat}(aA:c<256):aY X 163 [.str [32,9,10,13], .int .u8 (c:Int)] h j (λac T an=>(∃bz:Int,ac= .Z bz/\(0<=bz↔Lx c=true))/\T=h/\an=j) (λ_ _ _=>False):=by
 refine zx aw.todu (ajY X) ?_
 rw[ajZ]
 unfold XD
 refine zx aw.todu (akO X) ?_
 rw[akP]
 unfold X7
 obtain⟨bz,I,J⟩:=aw.idx c aA
 exact GH I ⟨⟨bz,rfl,J⟩,rfl,rfl⟩
def abq(aw:iI X)(V:nn X h gc s i)(aj:∀c∈s,c<256)(aE:(o X).a2<=j)(Le:gc<j):
 aY X 110 [.ptr gc 0] h j (λac T an=>nn X T gc s (oD s s.length i)/\ca X [gc] h j T an) (λ_ _ _=>False):=by
 refine zx aw.todu (aiY X) ?_
 rw[aiZ]
 unfold W9
 have bp:=V.many
 have h9:=V.bM
 refine cK ⟨?_⟩
 refine fK (λm H T aU=>∃(W:Nat),H.g 0=some (.ptr gc 0)/\nn X T gc s W/\s.length<=W+m/\oD s s.length i=oD s m W/\ca X [gc] h j T aU)
  s.length ⟨i,bw,V,Zo,rfl,ca.refl _ _ _⟩ ?_
 rintro m H aM a1 ⟨W,t0,hg,aC2,bK,dl⟩
 have f7:=dl.le
 have d3:=hg.d3
 have db:=hg.db
 have uO:=hg.le
 have b7:=hg.g
 by_cases EI:W=s.length
 ·subst EI
  have cr:oD s m s.length=s.length:=by cases m<;>simp[oD]
  have d:decide ((s.length:Int)<(s.length:Int))=false:=by simp
  refine gx @t0 @d3 @db @d ⟨?_⟩
  exact⟨by rw[bK,cr];exact hg,dl.trans ⟨Zo,λ_ _ _=>rfl⟩⟩
 have d:=zs W s.length
 obtain⟨c,aA⟩:=zt s W
 obtain⟨m,rfl⟩:∃gr,m=gr+1:=⟨m-1,Zo⟩
 rw[oD,aA]at bK
 simp only[]at bK
 have dS:=CX .i64 aA
 have OC:=aj c (Zj aA)
 refine gg @t0 @d3 @db @d @dS ⟨?_⟩
 refine(avE aw OC).Zm ?_
 rintro ac aX bf ⟨⟨bz,rfl,cr⟩,rfl,rfl⟩
 cases fd:Lx c with
 |true=>
  have lN:=cr.2 fd
  have cF:decide ((0:Int)<=bz)=true:=by simp;omega
  have bF:=zv W
  rw[fd]at bK
  simp only[ZC]at bK
  refine gx @t0 @db @cF @bF ⟨?_⟩
  refine⟨m,Zo,W+1,a7 t0,⟨by rw[bg Zo];rfl,Zo,bp,h9⟩,Zo,bK,dl.trans ⟨Zo,λb aj bZ=>by simp only[Zr,ZK,YS,Yz,ZG,Ya]at bZ;exact zw⟩⟩
 |false=>
  have cF:decide ((0:Int)<=bz)=false:=by simp;have:=mt cr.1 (by rw[fd];decide);omega
  have bF:nf (.str s) (some (.Z (W:Int))) none=some (.str (s.drop W)):=Qs .i64 uO
  rw[fd]at bK
  simp only[Zw,ZA]at bK
  refine gg @t0 @d3 @db @cF @bF ⟨?_⟩
  refine(ag8 aw.todu (s.drop W) [45,45]).Zm ?_
  rintro ac bC da ⟨rfl,rfl,rfl⟩
  by_cases ay:2<=(s.drop W).length/\(s.drop W).take 2=[45,45]
  ·rw[Zu ay]at bK
   have eS:decide ([45,45].length<=(s.drop W).length/\List.take [45,45].length (s.drop W)=[45,45])=true:=decide_eq_true ay
   have az:=FV (λc=>decide (c≠10)) (s.drop W)
   rw[YD]at az
   generalize bt:((s.drop W).takeWhile λc=>decide (c≠10)).length=w at bK az
   have mA:1<=w:=by
    have ary:c=45:=by
     have:=ay.2
     have aH:s.drop W=c::s.drop (W+1):=by
      obtain⟨af,z⟩:=Zc.1 aA
      rw[Zv af,z]
     rw[aH]at this
     simp at this
     exact this.1
    have aH:s.drop W=c::s.drop (W+1):=by
     obtain⟨af,z⟩:=Zc.1 aA
     rw[Zv af,z]
    rw[aH,ary,YG]at bt
    simp at bt
    omega
   have cn:bq .add (.Z (W:Int)) (.Z (w:Int))=some (.Z ((W+w:Nat):Int)):=by rw[eJ Zo Zo];rfl
   simp only[eS]
   refine et @t0 @d3 @db ⟨?_⟩
   refine(Ql aw.todu (azD aw.todu) hg uO).Zm ?_
   rintro ac bW b4 ⟨rfl,rfl,rfl⟩
   have eU:m8 (.str ((s.drop W).takeWhile λc=>decide (c≠10)))=some (.Z (w:Int)):=by rw[tJ,bt]
   refine et @eU @cn @db ⟨?_⟩
   refine g2 (by simp[D.same]) ?_
   refine cK ⟨?_⟩
   refine⟨m,Zo,W+w,a7 t0,⟨by rw[bg Zo];rfl,Zo,bp,h9⟩,Zo,bK,dl.trans ⟨Zo,λb aj bZ=>by simp only[Zr,ZK,YS,Yz,ZG,Ya]at bZ;exact zw⟩⟩
  ·rw[Zg ay]at bK
   have eS:decide ([45,45].length<=(s.drop W).length/\List.take [45,45].length (s.drop W)=[45,45])=false:=decide_eq_false ay
   simp only[eS]
   refine cK ⟨?_⟩
   exact⟨by rw[bK];exact hg,dl.trans ⟨Zo,λ_ _ _=>rfl⟩⟩
end
end
end Go.Proofs.YtpfajohmofnkfaaGreatDoor

