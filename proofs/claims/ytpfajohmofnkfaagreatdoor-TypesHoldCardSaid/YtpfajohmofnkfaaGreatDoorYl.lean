/- A part of the last text's proof; no condition of its own -/
import Derived.Test.YtpfajohmofnkfaaGreatDoorYk
set_option maxHeartbeats 8000000
set_option linter.all false
namespace Go.Proofs.YtpfajohmofnkfaaGreatDoor
open Go.bk
noncomputable section
variable (X : co) (h : V an) (j : Nat) (ak ay : bJ) (a0 bf ck a3 a4 a5 hv ic ir : J)
def V7(a:a2)(b:J)(c:V an)(d:Nat)(e f:bJ):Prop:=
 E (dA [(.Z 0),(.Z 0)] d) λg=>cH a c d g.1 g.2 λc d g=>E (dI b) λh=>E (aC .gtr h (.Z 65536)) λh=>aT (λb c d=>aj (b 0) λg=>E (AR a c g) λg=>E (eC [(.str []),(.Z 0)] [(0,1,g)]) λg=>iG a c d g λc d g=>aW a 110 [c] d g (λ_ d g=>aT (λb c d=>aj (b 5) λf=>aj (b 4) λg=>E (cl g) λg=>E (a1 1 g) λg=>E (al a c g) λg=>E (eC [(.Z 0),(.str []),(.Z 0),(.int .u64 0),(.bool false),(.bool false),(.Z 0)] [(0,1,(.Z 7)),(2,1,g)]) λg=>E (fw 1 [(.Z 0),(.str []),(.Z 0),(.int .u64 0),(.bool false),(.bool false),(.Z 0)] [(0,7,g)] d) λg=>cH a c d g.1 g.2 λc d g=>gR (is a d g 7 f c) d g λc d f=>E (eC [(.Z 0),(.Z 0)] []) λg=>aj (b 3) λh=>E (b8 a d 2 h g) λd=>aj (b 3) λb=>E (bM a d 2 b) λa=>e (.tuple [c,a]) d f) λh=>fu (λb c d g=>eM (g+10) λg=>aj (c 4) λi=>E (cl i) λi=>E (a1 1 i) λi=>E (al a d i) λi=>aj (c 4) λj=>E (cl j) λj=>E (a1 0 j) λj=>E (al a d j) λj=>E (l1 j) λj=>E (aC .lss i j) λi=>aT (λc d g=>aT (λc d e=>aj (c 4) λg=>aW a 110 [g] d e (λ_ a d=>b c a d) f) λb=>aj (c 4) λh=>eM (g+10) λg=>aj (c 4) λi=>E (cl i) λi=>E (a1 0 i) λi=>E (al a d i) λi=>aj (c 4) λj=>E (cl j) λj=>E (a1 1 j) λj=>E (al a d j) λj=>E (ly i j) λi=>aT (λc d g=>aj (c 6) λh=>iw a h [] d g (λd f g=>E (cK 0 d) λh=>E (cK 1 d) λd=>E (dA [(.Z 0),(.str []),(.Z 0),(.int .u64 0),(.bool false),(.bool false),(.Z 0)] g) λi=>cH a f g i.1 i.2 λf g i=>E (b8 a g 7 f h) λg=>E (fe .not d) λh=>aT (λc d e=>aj (c 4) λf=>E (cl f) λf=>E (a1 1 f) λf=>E (al a d f) λf=>aj (c 8) λg=>E (a1 2 g) λg=>E (b8 a d 1 g f) λd=>eM (e+11) λe=>aj (c 4) λf=>E (cl f) λg=>E (a1 1 g) λg=>E (al a d g) λg=>aj (c 8) λh=>E (a1 1 h) λh=>E (al a d h) λh=>E (l1 h) λh=>E (aC .add g h) λg=>E (cl f) λf=>E (a1 1 f) λf=>E (b8 a d 1 f g) λd=>aj (c 5) λf=>aj (c 8) λg=>E (bM a d 7 g) λg=>E (fw 1 [(.Z 0),(.str []),(.Z 0),(.int .u64 0),(.bool false),(.bool false),(.Z 0)] [(0,7,g)] e) λg=>cH a d e g.1 g.2 λd e g=>gR (is a e g 7 f d) e g λa d e=>b (ac c 5 a) d e) λb=>aX h (eM (i+7) λb=>aj (c 4) λd=>E (cl d) λd=>E (a1 1 d) λd=>E (al a g d) λd=>E (eC [(.Z 0),(.Z 0)] [(0,1,(.Z 20)),(1,1,d)]) λd=>aj (c 3) λf=>E (b8 a g 2 f d) λd=>aj (c 3) λc=>E (bM a d 2 c) λa=>e (.tuple [.aU,a]) d b) (b (zx c 8 f 9 d 59 h) g i)) f) λb=>aW a 112 [i] d g (λd e g=>aT b λb=>aX d (aj (c 4) λa=>b (zy c 6 (.func (.func 111) [h] []) 7 i 43 d 6 (.func (.func 113) [a] [])) e g) (aW a 114 [i] e g (λa e f=>aT b λb=>aX a (aj (c 4) λg=>b (ac (zy c 6 (.func (.func 111) [h] []) 7 i 43 d 48 a) 6 (.func (.func 115) [g] [])) e f) (b (zy c 6 (.func (.func 111) [h] []) 7 i 43 d 48 a) e f)) f)) f) λa=>aX i (a (ac c 29 i) d g) (h (ac c 29 i) d g)) (zw b 4 c 5 .aU) d g) f) λf=>aX h (E (eC [(.Z 0),(.Z 0)] [(0,1,(.Z 3))]) λb=>E (b8 a d 2 c b) λb=>E (bM a b 2 c) λa=>e (.tuple [.aU,a]) b g) (f (zx (cZ [b]) 2 .aU 3 c 12 h) d g)
def ajo:di X 66 [a0] h j ak ay=V7 X a0 h j ak ay:=Zk
def ajn:cX X 66 1=true:=Zk
def Un(a:a2)(b:J)(c:V an)(d:Nat)(e f:bJ):Prop:=
 aT (λ_ a b=>e (.tuple []) a b) λg=>fu (λb c d h=>eM (h+10) λh=>aj (c 0) λi=>E (cl i) λi=>E (a1 1 i) λi=>E (al a d i) λi=>aj (c 0) λj=>E (cl j) λj=>E (a1 0 j) λj=>E (al a d j) λj=>E (l1 j) λj=>E (aC .lss i j) λi=>aT (λc d g=>aT b λb=>aT b λb=>eM (g+12) λg=>aj (c 0) λh=>E (cl h) λh=>E (a1 0 h) λh=>E (al a d h) λh=>aj (c 0) λi=>E (cl i) λi=>E (a1 1 i) λi=>E (al a d i) λi=>E (ly h i) λh=>aW a 163 [(.str [32,9,10,13]),h] d g (λd g h=>E (aC .geq d (.Z 0)) λd=>aT b λb=>aX d (aj (c 0) λe=>E (cl e) λf=>E (a1 1 f) λf=>E (al a g f) λf=>E (aC .add f (.Z 1)) λf=>E (cl e) λe=>E (a1 1 e) λe=>E (b8 a g 1 e f) λa=>b (ac c 12 d) a h) (eM (h+11) λh=>aj (c 0) λi=>E (cl i) λi=>E (a1 0 i) λi=>E (al a g i) λi=>aj (c 0) λj=>E (cl j) λj=>E (a1 1 j) λj=>E (al a g j) λj=>E (kn i (some j) none) λi=>aW a 164 [i,(.str [45,45])] g h (λg h i=>aT b λb=>aX g (eM (i+15) λe=>aj (c 0) λi=>E (cl i) λj=>E (a1 1 j) λj=>E (al a h j) λk=>aj (c 0) λl=>aj (c 0) λm=>E (cl m) λm=>E (a1 1 m) λm=>E (al a h m) λm=>aW a 165 [l,m,(.func (.func 166) [] [])] h e (λe f h=>E (l1 e) λe=>E (aC .add k e) λe=>E (cl i) λi=>E (a1 1 i) λi=>E (al a f j) λj=>gi j (some k) (E (b8 a f 1 i e) λa=>b (zw c 12 d 31 g) a h)) f) (e (.tuple []) h i)) f)) f) λa=>aX i (a (ac c 11 i) d h) (g (ac c 11 i) d h)) (cZ [b]) c d
def af7:di X 110 [a0] h j ak ay=Un X a0 h j ak ay:=Zk
def af6:cX X 110 1=true:=Zk
def Uo(a:a2)(b:J)(c:V an)(d:Nat)(e f:bJ):Prop:=
 E (dA [(.Z 0),(.str []),(.Z 0),(.int .u64 0),(.bool false),(.bool false),(.Z 0)] d) λg=>cH a c d g.1 g.2 λc d g=>E (bM a d 17 (.ptr 1 0)) λh=>aT (λb c d=>E (eC [(.Z 0),(.str []),(.Z 0),(.int .u64 0),(.bool false),(.bool false),(.Z 0)] []) λf=>aj (b 2) λg=>E (b8 a c 7 g f) λc=>aj (b 2) λb=>E (bM a c 7 b) λa=>e (.tuple [a,(.bool false)]) c d) λi=>fu (λb c d g=>aj (c 7) λh=>E (aC .lss h (.Z 17)) λh=>aT (λc d g=>aT (λa c d=>aj (a 7) λe=>E (aC .add e (.Z 1)) λe=>b (ac a 7 e) c d) λb=>aj (c 6) λh=>aj (c 7) λi=>E (qI false 17 1 h i) λh=>eM (g+11) λg=>aj (c 0) λi=>E (cl i) λi=>E (a1 0 i) λi=>E (al a d i) λi=>aj (c 0) λj=>E (cl j) λj=>E (a1 1 j) λj=>E (al a d j) λj=>E (kn i (some j) none) λi=>aW a 164 [i,h] d g (λd f g=>aT b λb=>aX d (E (eC [(.Z 0),(.str []),(.Z 0),(.int .u64 0),(.bool false),(.bool false),(.Z 0)] [(0,1,(.Z 6)),(1,1,h)]) λb=>aj (c 2) λd=>E (b8 a f 7 d b) λb=>aj (c 2) λc=>E (bM a b 7 c) λa=>e (.tuple [a,(.bool true)]) b g) (b (zw c 5 h 20 d) f g)) f) λa=>aX h (a (ac c 8 h) d g) (i (ac c 8 h) d g)) (zy (cZ [b]) 2 c 3 (.bool false) 6 h 7 (.Z 0)) d g
def af9:di X 111 [a0] h j ak ay=Uo X a0 h j ak ay:=Zk
def af8:cX X 111 1=true:=Zk
def Up(_:a2)(a:J)(b:V an)(c:Nat)(d _:bJ):Prop:=
 E (aC .geq a (.int .u8 48)) λe=>js e a b c (λa b c=>cN e (aC .leq a (.int .u8 57)) b c (λa b c=>cU (λa=>d a b c) λb=>aX e (b a) (b (.bool false))))
def agb:di X 112 [a0] h j ak ay=Up X a0 h j ak ay:=Zk
def aga:cX X 112 1=true:=Zk
def Uq(a:a2)(b:J)(c:V an)(d:Nat)(e f:bJ):Prop:=
 E (dA [(.Z 0),(.str []),(.Z 0),(.int .u64 0),(.bool false),(.bool false),(.Z 0)] d) λg=>cH a c d g.1 g.2 λc d g=>E (cl b) λh=>E (a1 1 h) λh=>E (al a d h) λh=>aW a 165 [b,h,(.func (.func 112) [] [])] d g (λd g h=>aW a 167 [d,(.Z 10),(.Z 64)] g h (λg h i=>E (cK 0 g) λj=>E (cK 1 g) λg=>E (dc a h .neq 238 true g .nilIface) λk=>hd k d h i (λh i l=>c9 k (l1 h) i l (λh i l=>c9 k (aC .gtr h (.Z 20)) i l (λh i l=>cU (λh=>aT (λb c d=>aj (b 0) λg=>aj (b 0) λh=>E (cl h) λh=>E (a1 1 h) λh=>E (al a c h) λh=>aj (b 4) λi=>E (l1 i) λi=>E (aC .add h i) λh=>aW a 165 [g,h,(.func (.func 168) [] [])] c d (λc d g=>E (dc a d .eql 9 true c (.str [])) λh=>aT (λb c d=>aj (b 7) λg=>aW a 169 [g] c d (λc d g=>E (cK 0 c) λh=>E (cK 1 c) λc=>E (dA [(.bool false),(.bool false),(.Z 0)] g) λi=>cH a d g i.1 i.2 λd g i=>E (b8 a g 3 d h) λg=>eM (i+19) λh=>aj (b 4) λi=>aj (b 7) λj=>E (dc a g .add 9 false i j) λk=>aj (b 5) λl=>E (bM a g 3 d) λm=>E (eC [(.Z 0),(.str []),(.Z 0),(.int .u64 0),(.bool false),(.bool false),(.Z 0)] [(0,1,(.Z 5)),(1,1,k),(3,1,l),(4,3,m)]) λl=>e0 c (a1 0 d) g (λg n=>e0 c (al a n g) n (λg n=>e0 c (fe .not g) n (λg n=>cU (λc=>e0 c (bM a n 3 d) n (λg n=>nI c (b 5) n (λn o=>jZ c (λb=>aW a 170 [g,n] o h b f) o h (λf g h=>cU (λc=>E (dc a g .add 9 false i j) λf=>gi f (some k) (E (bM a g 3 d) λd=>gi d (some m) (aj (b 2) λd=>E (b8 a g 7 d l) λd=>aj (b 2) λb=>E (bM a d 7 b) λa=>e (.tuple [a,c]) d h))) λa=>aX c (a f) (a (.bool false)))))) λa=>aX c (a g) (a (.bool false)))))) f) λf=>aX h (aj (b 4) λc=>aj (b 5) λf=>E (eC [(.Z 0),(.str []),(.Z 0),(.int .u64 0),(.bool false),(.bool false),(.Z 0)] [(0,1,(.Z 4)),(1,1,c),(3,1,f)]) λc=>aj (b 2) λf=>E (b8 a d 7 f c) λc=>aj (b 2) λb=>E (bM a c 7 b) λa=>e (.tuple [a,(.bool true)]) c g) (f (zw b 7 c 39 h) d g)) f) λf=>aX h (E (eC [(.Z 0),(.str []),(.Z 0),(.int .u64 0),(.bool false),(.bool false),(.Z 0)] []) λb=>E (b8 a i 7 c b) λb=>E (bM a b 7 c) λa=>e (.tuple [a,(.bool false)]) b l) (f (zw (zy (cZ [b]) 2 c 3 (.bool false) 4 d 5 j) 6 g 27 h) i l)) λa=>aX k (a (.bool true)) (a h))))) f) f
def agd:di X 113 [a0] h j ak ay=Uq X a0 h j ak ay:=Zk
def agc:cX X 113 1=true:=Zk
def Ur(_:a2)(a:J)(b:V an)(c:Nat)(d _:bJ):Prop:=
 E (aC .geq a (.int .u8 97)) λe=>js e a b c (λb c f=>cN e (aC .leq b (.int .u8 122)) c f (λb c f=>cU (λb=>hd b a c f (λc e f=>c9 b (aC .geq c (.int .u8 65)) e f (λc e f=>hd b c e f (λc e f=>js c a e f (λe f g=>cN c (aC .leq e (.int .u8 90)) f g (λe f g=>kk b (λa=>cU (λb=>a b f g) λa=>aX c (a e) (a (.bool false))) f g (λc e f=>cU (λb=>hd b a e f (λa c e=>c9 b (aC .eql a (.int .u8 95)) c e (λa c e=>cU (λa=>d a c e) λc=>aX b (c (.bool true)) (c a)))) λa=>aX b (a (.bool true)) (a c)))))))) λa=>aX e (a b) (a (.bool false))))
def agf:di X 114 [a0] h j ak ay=Ur X a0 h j ak ay:=Zk
def age:cX X 114 1=true:=Zk
def Us(a:a2)(b:J)(c:V an)(d:Nat)(e f:bJ):Prop:=
 E (dA [(.Z 0),(.str []),(.Z 0),(.int .u64 0),(.bool false),(.bool false),(.Z 0)] d) λg=>cH a c d g.1 g.2 λc d g=>E (cl b) λh=>E (a1 1 h) λh=>E (al a d h) λh=>aW a 165 [b,h,(.func (.func 168) [] [])] d g (λd g h=>E (eC [(.Z 0),(.str []),(.Z 0),(.int .u64 0),(.bool false),(.bool false),(.Z 0)] [(0,1,(.Z 1)),(1,1,d)]) λi=>E (dA [(.Z 0),(.str []),(.Z 0),(.int .u64 0),(.bool false),(.bool false),(.Z 0)] h) λj=>cH a g h j.1 j.2 λg h j=>E (b8 a h 7 g i) λh=>aW a 169 [d] h j (λh i j=>E (cK 0 h) λk=>E (cK 1 h) λh=>E (dA [(.bool false),(.bool false),(.Z 0)] j) λl=>cH a i j l.1 l.2 λi j l=>E (b8 a j 3 i k) λj=>aT (λb c d=>aj (b 5) λf=>E (bM a c 7 f) λf=>aj (b 4) λg=>E (l1 g) λg=>E (aC .leq g (.Z 32)) λg=>aj (b 2) λh=>E (b8 a c 7 h f) λc=>aj (b 2) λb=>E (bM a c 7 b) λa=>e (.tuple [a,g]) c d) λe=>aX h (eM (l+5) λf=>E (bM a j 3 i) λk=>E (a1 0 g) λl=>E (b8 a j 1 l (.Z 3)) λj=>E (a1 4 g) λl=>E (bM a j 3 i) λm=>gi m (some k) (E (b8 a j 3 l k) λa=>e (zx (zy (cZ [b]) 2 c 3 (.bool false) 4 d 5 g) 6 i 7 h 21 h) a f)) (aW a 171 [d] j l (λf j k=>aT e λe=>aX f (E (a1 0 g) λl=>E (b8 a j 1 l (.Z 2)) λa=>e (zy (zy (cZ [b]) 2 c 3 (.bool false) 4 d 5 g) 6 i 7 h 21 h 26 f) a k) (e (zy (zy (cZ [b]) 2 c 3 (.bool false) 4 d 5 g) 6 i 7 h 21 h 26 f) j k)) f)) f) f
def agi:di X 115 [a0] h j ak ay=Us X a0 h j ak ay:=Zk
def agh:cX X 115 1=true:=Zk
def UR(a:a2)(b c:J)(d:V an)(e:Nat)(f g:bJ):Prop:=
 aW a 199 [b,c] d e f g
def ag2:di X 163 [a0,bf] h j ak ay=UR X a0 bf h j ak ay:=Zk
def ag1:cX X 163 2=true:=Zk
def US(a:a2)(b c:J)(d:V an)(e:Nat)(f g:bJ):Prop:=
 aW a 200 [b,c] d e f g
def ag4:di X 164 [a0,bf] h j ak ay=US X a0 bf h j ak ay:=Zk
def ag3:cX X 164 2=true:=Zk
def UT(a:a2)(b c d:J)(e:V an)(f:Nat)(g h:bJ):Prop:=
 aT (λb c d=>aj (b 0) λe=>E (cl e) λe=>E (a1 0 e) λe=>E (al a c e) λa=>aj (b 1) λe=>aj (b 7) λb=>E (kn a (some e) (some b)) λa=>g a c d) λg=>fu (λb c d e=>aj (c 7) λf=>aj (c 0) λi=>E (cl i) λi=>E (a1 0 i) λi=>E (al a d i) λi=>E (l1 i) λi=>E (aC .lss f i) λf=>kG f (c 2) d e (λd e i=>kG f (c 0) e i (λe i j=>cN f (cl e) i j (λe i j=>cN f (a1 0 e) i j (λe i j=>cN f (al a i e) i j (λe i j=>kG f (c 7) i j (λi j k=>cN f (ly e i) j k (λe i j=>jZ f (λb=>iw a d [e] i j b h) i j (λa d e=>cU (λa=>aT (λa c d=>aT b λb=>aj (a 7) λe=>E (aC .add e (.Z 1)) λe=>b (ac a 7 e) c d) λb=>aX a (b (ac c 25 a) d e) (g (ac c 25 a) d e)) λb=>aX f (b a) (b (.bool false))))))))))) (zw (cZ [b,c,d]) 6 (.str []) 7 c) e f
def ag6:di X 165 [a0,bf,ck] h j ak ay=UT X a0 bf ck h j ak ay:=Zk
def ag5:cX X 165 3=true:=Zk
def UU(_:a2)(a:J)(b:V an)(c:Nat)(d _:bJ):Prop:=
 E (aC .neq a (.int .u8 10)) λa=>d a b c
def ag8:di X 166 [a0] h j ak ay=UU X a0 h j ak ay:=Zk
def ag7:cX X 166 1=true:=Zk
def UV(a:a2)(b c d:J)(e:V an)(f:Nat)(g h:bJ):Prop:=
 aW a 201 [b,c,d] e f (λe f i=>E (cK 0 e) λj=>E (cK 1 e) λe=>E (dc a f .neq 238 true e .nilIface) λk=>aT (λa b c=>aj (a 8) λa=>g (.tuple [a, .nilIface]) b c) λl=>aX k (aW a 202 [(.str [80,97,114,115,101,85,105,110,116]),b,c,d,e] f i (λa b c=>g (.tuple [j,a]) b c) h) (l (ac (zy (cZ [b,c,d]) 6 (.int .u64 0) 7 .nilIface 8 j 9 e) 18 k) f i)) h
def aha:di X 167 [a0,bf,ck] h j ak ay=UV X a0 bf ck h j ak ay:=Zk
def ag9:cX X 167 3=true:=Zk
def UW(a:a2)(b:J)(c:V an)(d:Nat)(e f:bJ):Prop:=
 aW a 114 [b] c d (λc d g=>hd c b d g (λb d g=>kk c (λc=>aW a 112 [b] d g c f) d g (λa b d=>cU (λa=>e a b d) λb=>aX c (b (.bool true)) (b a)))) f
def ahc:di X 168 [a0] h j ak ay=UW X a0 h j ak ay:=Zk
def ahb:cX X 168 1=true:=Zk
def UX(a:a2)(b:J)(c:V an)(d:Nat)(e f:bJ):Prop:=
 E (dA [(.bool false),(.bool false),(.Z 0)] d) λg=>cH a c d g.1 g.2 λc d g=>E (dc a d .eql 9 true b (.str [98,111,111,108])) λh=>aT (λb c d=>aj (b 0) λg=>E (dc a c .eql 9 true g (.str [])) λg=>tX g (b 0) c d (λc d h=>c9 g (ly c (.Z 0)) d h (λc d h=>c9 g (aC .neq c (.int .u8 117)) d h (λc d h=>hd g c d h (λc d h=>kG c (b 0) d h (λd h i=>cN c (ly d (.Z 0)) h i (λd h i=>cN c (aC .neq d (.int .u8 105)) h i (λd h i=>kk g (λa=>cU (λb=>a b h i) λa=>aX c (a d) (a (.bool false))) h i (λc d h=>cU (λc=>aT (λb c d=>aj (b 0) λg=>E (kn g (some (.Z 1)) none) λg=>aW a 203 [g] c d (λc d g=>E (cK 0 c) λh=>E (cK 1 c) λc=>aj (b 0) λi=>E (ly i (.Z 0)) λi=>E (aC .eql i (.int .u8 105)) λi=>E (eC [(.bool false),(.bool false),(.Z 0)] [(1,1,i),(2,1,h)]) λi=>E (dA [(.bool false),(.bool false),(.Z 0)] g) λj=>cH a d g j.1 j.2 λd g j=>E (b8 a g 3 d i) λg=>E (dc a g .neq 238 true c .nilIface) λi=>c9 i (bM a g 3 d) g j (λg j k=>kk i (λb=>aW a 182 [g] j k b f) j k (λg j k=>c9 i (fe .not g) j k (λg j k=>cU (λg=>c9 g (bM a j 3 d) j k (λi j k=>kk g (λb=>aW a 204 [i] j k b f) j k (λf i j=>tX g (b 0) i j (λi j k=>c9 g (dc a j .neq 9 false f i) j k (λf i j=>cU (λf=>aT (λb c d=>aj (b 6) λf=>E (bM a c 3 f) λf=>aj (b 2) λg=>E (b8 a c 3 g f) λc=>aj (b 2) λb=>E (bM a c 3 b) λa=>e (.tuple [a,(.bool true)]) c d) λg=>aX f (E (eC [(.bool false),(.bool false),(.Z 0)] []) λc=>aj (b 2) λd=>E (b8 a i 3 d c) λc=>aj (b 2) λb=>E (bM a c 3 b) λa=>e (.tuple [a,(.bool false)]) c j) (g (zy b 4 h 5 c 6 d 46 f) i j)) λa=>aX g (a (.bool true)) (a f)))))) λa=>aX i (a (.bool true)) (a g))))) f) λf=>aX c (E (eC [(.bool false),(.bool false),(.Z 0)] []) λc=>aj (b 2) λf=>E (b8 a d 3 f c) λc=>aj (b 2) λb=>E (bM a c 3 b) λa=>e (.tuple [a,(.bool false)]) c h) (f (ac b 21 c) d h)) λa=>aX g (a (.bool true)) (a c)))))))))) λf=>aX h (E (eC [(.bool false),(.bool false),(.Z 0)] [(0,1,(.bool true)),(2,1,(.Z 1))]) λb=>E (b8 a d 3 c b) λb=>E (bM a b 3 c) λa=>e (.tuple [a,(.bool true)]) b g) (f (zx (cZ [b]) 2 c 3 (.bool false) 8 h) d g)
def ahe:di X 169 [a0] h j ak ay=UX X a0 h j ak ay:=Zk
def ahd:cX X 169 1=true:=Zk
def UY(a:a2)(b c:J)(d:V an)(e:Nat)(f g:bJ):Prop:=
 iG a d e b λd e h=>E (a1 1 d) λi=>E (al a e i) λi=>aT (λb c d=>aj (b 2) λe=>E (bM a c 3 e) λe=>aj (b 1) λb=>aW a 205 [e,b] c d f g) λg=>aX i (E (a1 2 d) λj=>E (al a e j) λj=>E (aC .sub j (.Z 1)) λj=>E (eC [(.bool false),(.bool false),(.Z 0)] [(2,1,j)]) λj=>E (b8 a e 3 d j) λe=>E (a1 2 d) λj=>E (al a e j) λa=>E (aC .eql a (.Z 0)) λa=>aT g λg=>aX a (E (aC .eql c (.int .u64 0)) λa=>f a e h) (g (zy (cZ [b,c]) 2 d 4 (.bool false) 6 i 13 a) e h)) (g (zx (cZ [b,c]) 2 d 4 (.bool false) 6 i) e h)
def ahg:di X 170 [a0,bf] h j ak ay=UY X a0 bf h j ak ay:=Zk
def ahf:cX X 170 2=true:=Zk
def UZ(a:a2)(b:J)(c:V an)(d:Nat)(e _:bJ):Prop:=
 E (al a c (.ptr 3 0)) λf=>E (kJ a c 9 (.bool false) f b false) λa=>e a c d
def ahi:di X 171 [a0] h j ak ay=UZ X a0 h j ak ay:=Zk
def ahh:cX X 171 1=true:=Zk
def Vm(a:a2)(b c:J)(d:V an)(e:Nat)(f g:bJ):Prop:=
 aW a 223 [b,c] d e f g
def ahU:di X 199 [a0,bf] h j ak ay=Vm X a0 bf h j ak ay:=Zk
def ahT:cX X 199 2=true:=Zk
def Vo(a:a2)(b c:J)(d:V an)(e:Nat)(f _:bJ):Prop:=
 E (l1 b) λg=>E (l1 c) λh=>E (aC .geq g h) λg=>js g b d e (λb d e=>js g c d e (λd e h=>cN g (l1 d) e h (λd e h=>cN g (kn b none (some d)) e h (λb d e=>js g c d e (λc d e=>cN g (dc a d .eql 9 false b c) d e (λa b c=>cU (λa=>f a b c) λb=>aX g (b a) (b (.bool false))))))))
def ahW:di X 200 [a0,bf] h j ak ay=Vo X a0 bf h j ak ay:=Zk
def ahV:cX X 200 2=true:=Zk
def Vp(a:a2)(b c d:J)(e:V an)(f:Nat)(g h:bJ):Prop:=
 E (dc a e .eql 9 true b (.str [])) λi=>aT (λb c d=>aj (b 1) λe=>E (aC .eql e (.Z 0)) λe=>aj (b 0) λf=>aT (λb c d=>aj (b 2) λe=>E (aC .eql e (.Z 0)) λe=>aT (λb c d=>aj (b 1) λe=>aT (λb c d=>aj (b 2) λe=>E (mD .u64 e) λe=>E (aC .shl (.int .u64 1) e) λe=>E (aC .sub e (.int .u64 1)) λe=>aj (b 0) λf=>gR (N7 a c d f) c d λc d f=>E (dI c) λi=>aT (λb c d=>aj (b 12) λe=>kG e (b 9) c d (λc d f=>jZ e (λb=>aW a 225 [c] d f b h) d f (λa c d=>cN e (fe .not a) c d (λa c d=>cU (λa=>aT (λa b c=>aj (a 13) λa=>g (.tuple [a, .nilIface]) b c) λe=>aX a (E (some (J.iface 281 (.Z 2))) λa=>g (.tuple [(.int .u64 0),a]) c d) (e (ac b 169 a) c d)) λb=>aX e (b a) (b (.bool false)))))) λj=>fu (λb c d e=>aj (c 101) λf=>aj (c 100) λi=>E (aC .lss f i) λf=>aT (λc d e=>aT (λa c d=>aj (a 101) λe=>E (aC .add e (.Z 1)) λe=>b (ac a 101 e) c d) λb=>aj (c 99) λf=>aj (c 101) λi=>E (dd 1 f i) λf=>E (al a d f) λf=>aT (λa c d=>aj (a 16) λe=>aj (a 1) λf=>E (mD .u8 f) λf=>E (aC .geq e f) λe=>aT (λa c d=>aj (a 13) λe=>aj (a 10) λf=>E (aC .geq e f) λe=>aT (λa c d=>aj (a 13) λe=>aj (a 1) λf=>E (mD .u64 f) λf=>E (aC .mul e f) λe=>aj (a 16) λf=>E (mD .u64 f) λf=>E (aC .add e f) λf=>E (aC .lss f e) λh=>hd h f c d (λc d i=>tX h (a 11) d i (λd i j=>c9 h (aC .gtr c d) i j (λc d i=>cU (λc=>aT (λa c d=>aj (a 17) λe=>b (ac a 13 e) c d) λb=>aX c (aj (a 11) λa=>E (some (J.iface 281 (.Z 1))) λb=>g (.tuple [a,b]) d i) (b (zx a 13 e 17 f 159 c) d i)) λa=>aX h (a (.bool true)) (a c))))) λb=>aX e (aj (a 11) λa=>E (some (J.iface 281 (.Z 1))) λb=>g (.tuple [a,b]) c d) (b (ac a 141 e) c d)) λb=>aX e (E (some (J.iface 281 (.Z 2))) λa=>g (.tuple [(.int .u64 0),a]) c d) (b (ac a 137 e) c d)) λi=>E (aC .eql f (.int .u8 95)) λj=>kG j (c 8) d e (λd e k=>cU (λd=>aT i λi=>aX d (b (zy c 15 f 16 (.int .u8 0) 106 d 12 (.bool true)) e k) (E (aC .leq (.int .u8 48) f) λb=>js b f e k (λe j k=>cN b (aC .leq e (.int .u8 57)) j k (λe j k=>cU (λb=>aT i λe=>aX b (E (aC .sub f (.int .u8 48)) λa=>e (ac (zy c 15 f 16 (.int .u8 0) 106 d 112 b) 16 a) j k) (aW a 224 [f] j k (λi j k=>E (aC .leq (.int .u8 97) i) λi=>js i f j k (λj k l=>jZ i (λb=>aW a 224 [j] k l b h) k l (λj k l=>cN i (aC .leq j (.int .u8 122)) k l (λj k l=>cU (λi=>aT e λe=>aX i (aW a 224 [f] k l (λa g h=>E (aC .sub a (.int .u8 97)) λa=>E (aC .add a (.int .u8 10)) λa=>e (zw (zy c 15 f 16 (.int .u8 0) 106 d 112 b) 121 i 16 a) g h) h) (E (some (J.iface 281 (.Z 2))) λa=>g (.tuple [(.int .u64 0),a]) k l)) λa=>aX i (a j) (a (.bool false)))))) h)) λa=>aX b (a e) (a (.bool false)))))) λa=>aX j (a d) (a (.bool false)))) λa=>aX f (a (ac c 102 f) d e) (j (ac c 102 f) d e)) (zw (zy b 11 e 12 (.bool false) 13 (.int .u64 0) 99 c) 100 i 101 (.Z 0)) d f) λa=>E (aC .eql e (.Z 10)) λf=>aT a λa=>aX f (a (zy b 10 (.int .u64 0) 85 e 90 f 10 (.int .u64 1844674407370955162)) c d) (E (aC .eql e (.Z 16)) λg=>aT a λa=>aX g (a (ac (zy b 10 (.int .u64 0) 85 e 90 f 92 g) 10 (.int .u64 1152921504606846976)) c d) (aj (b 1) λh=>E (mD .u64 h) λh=>E (aC .quo (.int .u64 18446744073709551615) h) λh=>E (aC .add h (.int .u64 1)) λh=>a (ac (zy b 10 (.int .u64 0) 85 e 90 f 92 g) 10 h) c d))) λa=>aX e (a (zw b 77 e 2 (.Z 64)) c d) (aj (b 2) λf=>E (aC .lss f (.Z 0)) λf=>tX f (b 2) c d (λc d h=>c9 f (aC .gtr c (.Z 64)) d h (λc d h=>cU (λc=>aT a λa=>aX c (E (some (J.iface 281 (.Z 4))) λa=>g (.tuple [(.int .u64 0),a]) d h) (a (zw b 77 e 83 c) d h)) λa=>aX f (a (.bool true)) (a c))))) λi=>aj (b 1) λj=>E (aC .leq (.Z 2) j) λj=>kG j (b 1) c d (λc d k=>cN j (aC .leq c (.Z 36)) d k (λc d k=>cU (λc=>aT i λi=>aX c (i (zx b 8 e 9 f 25 c) d k) (aj (b 1) λj=>E (aC .eql j (.Z 0)) λj=>aT i λi=>aX j (aj (b 0) λg=>E (ly g (.Z 0)) λg=>E (aC .eql g (.int .u8 48)) λg=>aT i λi=>aX g (aT i λi=>aj (b 0) λl=>E (l1 l) λl=>E (aC .geq l (.Z 3)) λl=>kG l (b 0) d k (λd k m=>cN l (ly d (.Z 1)) k m (λd k m=>jZ l (λb=>aW a 224 [d] k m b h) k m (λd k m=>cN l (aC .eql d (.int .u8 98)) k m (λd k m=>cU (λd=>aT i λi=>aX d (aj (b 0) λa=>E (kn a (some (.Z 2)) none) λa=>i (ac (zy (zy b 8 e 9 f 25 c 32 j) 1 (.Z 10) 37 g 40 d 1 (.Z 2)) 0 a) k m) (aj (b 0) λl=>E (l1 l) λl=>E (aC .geq l (.Z 3)) λl=>kG l (b 0) k m (λk m n=>cN l (ly k (.Z 1)) m n (λk m n=>jZ l (λb=>aW a 224 [k] m n b h) m n (λk m n=>cN l (aC .eql k (.int .u8 111)) m n (λk m n=>cU (λk=>aT i λi=>aX k (aj (b 0) λa=>E (kn a (some (.Z 2)) none) λa=>i (zw (zy (zy b 8 e 9 f 25 c 32 j) 1 (.Z 10) 37 g 40 d 52 k) 1 (.Z 8) 0 a) m n) (aj (b 0) λl=>E (l1 l) λl=>E (aC .geq l (.Z 3)) λl=>kG l (b 0) m n (λm n o=>cN l (ly m (.Z 1)) n o (λm n o=>jZ l (λb=>aW a 224 [m] n o b h) n o (λa h m=>cN l (aC .eql a (.int .u8 120)) h m (λa h m=>cU (λa=>aT i λi=>aX a (aj (b 0) λl=>E (kn l (some (.Z 2)) none) λl=>i (zx (zy (zy b 8 e 9 f 25 c 32 j) 1 (.Z 10) 37 g 40 d 52 k) 64 a 1 (.Z 16) 0 l) h m) (aj (b 0) λl=>E (kn l (some (.Z 1)) none) λl=>i (zx (zy (zy b 8 e 9 f 25 c 32 j) 1 (.Z 10) 37 g 40 d 52 k) 64 a 1 (.Z 8) 0 l) h m)) λb=>aX l (b a) (b (.bool false)))))))) λa=>aX l (a k) (a (.bool false)))))))) λa=>aX l (a d) (a (.bool false))))))) (i (zw (zy b 8 e 9 f 25 c 32 j) 1 (.Z 10) 37 g) d k)) (E (some (J.iface 281 (.Z 3))) λa=>g (.tuple [(.int .u64 0),a]) d k))) λa=>aX j (a c) (a (.bool false))))) λa=>aX i (E (some (J.iface 281 (.Z 2))) λa=>g (.tuple [(.int .u64 0),a]) e f) (a (zx (cZ [b,c,d]) 6 (.int .u64 0) 7 .nilIface 19 i) e f)
def ahY:di X 201 [a0,bf,ck] h j ak ay=Vp X a0 bf ck h j ak ay:=Zk
def ahX:cX X 201 3=true:=Zk
def Vq(a:a2)(b c d e f:J)(g:V an)(h:Nat)(i j:bJ):Prop:=
 aT (λa b c=>aj (a 4) λa=>i a b c) λk=>E (some (J.iface 281 (.Z 2))) λl=>E (dc a g .eql 238 false f l) λl=>aT k λk=>aX l (aW a 226 [b,c] g h (λa b c=>E (some (J.iface 283 a)) λa=>i a b c) j) (E (some (J.iface 281 (.Z 1))) λm=>E (dc a g .eql 238 false f m) λm=>aT k λk=>aX m (aW a 227 [b,c] g h (λa b c=>E (some (J.iface 283 a)) λa=>i a b c) j) (E (some (J.iface 281 (.Z 3))) λn=>E (dc a g .eql 238 false f n) λn=>aT k λk=>aX n (aW a 228 [b,c,d] g h (λa b c=>E (some (J.iface 283 a)) λa=>i a b c) j) (E (some (J.iface 281 (.Z 4))) λo=>E (dc a g .eql 238 false f o) λo=>aT k λk=>aX o (aW a 229 [b,c,e] g h (λa b c=>E (some (J.iface 283 a)) λa=>i a b c) j) (k (zw (zy (cZ [b,c,d,e,f]) 10 .nilIface 11 f 12 l 19 m) 26 n 34 o) g h))))
def ah0:di X 202 [a0,bf,ck,a3,a4] h j ak ay=Vq X a0 bf ck a3 a4 h j ak ay:=Zk
def ahZ:cX X 202 5=true:=Zk
def Vr(a:a2)(b:J)(c:V an)(d:Nat)(e f:bJ):Prop:=
 aW a 230 [b] c d (λc d g=>E (cK 0 c) λh=>E (cK 1 c) λc=>E (dc a d .neq 238 true c .nilIface) λi=>aT (λa b c=>aj (a 4) λa=>e (.tuple [a, .nilIface]) b c) λj=>aX i (aW a 202 [(.str [65,116,111,105]),b,(.Z 0),(.Z 0),c] d g (λa b c=>e (.tuple [h,a]) b c) f) (j (ac (zy (cZ [b]) 2 (.Z 0) 3 .nilIface 4 h 5 c) 12 i) d g)) f
def ah2:di X 203 [a0] h j ak ay=Vr X a0 h j ak ay:=Zk
def ah1:cX X 203 1=true:=Zk
def Vs(a:a2)(b:J)(c:V an)(d:Nat)(e f:bJ):Prop:=
 iG a c d b λc d g=>aT (λb c d=>aj (b 1) λb=>E (a1 2 b) λb=>E (al a c b) λb=>aW a 183 [b] c d (λb c d=>E (dc a c .add 9 true (.str [117]) b) λa=>e a c d) f) λh=>E (bM a d 3 c) λi=>aW a 182 [i] d g (λd g i=>E (fe .not d) λd=>aT h λh=>aX d (e (.str []) g i) (E (a1 0 c) λj=>E (al a g j) λj=>aT h λh=>aX j (e (.str [98,111,111,108]) g i) (E (a1 1 c) λk=>E (al a g k) λk=>aT h λh=>aX k (E (a1 2 c) λb=>E (al a g b) λb=>aW a 183 [b] g i (λb c d=>E (dc a c .add 9 true (.str [105]) b) λa=>e a c d) f) (h (ac (zy (cZ [b]) 1 c 2 (.str []) 3 d 7 j) 10 k) g i)))) f
def ah4:di X 204 [a0] h j ak ay=Vs X a0 h j ak ay:=Zk
def ah3:cX X 204 1=true:=Zk
def Vt(a:a2)(b c:J)(d:V an)(e:Nat)(f g:bJ):Prop:=
 iG a d e b λb d e=>E (bM a d 3 b) λh=>aW a 182 [h] d e (λd e h=>js d c e h (λc e h=>cN d (bM a e 3 b) e h (λb e h=>jZ d (λc=>aW a 231 [b] e h c g) e h (λa b e=>cN d (aC .andNot c a) b e (λa b c=>cN d (aC .eql a (.int .u64 0)) b c (λa b c=>cU (λa=>f a b c) λb=>aX d (b a) (b (.bool false)))))))) g
def ah6:di X 205 [a0,bf] h j ak ay=Vt X a0 bf h j ak ay:=Zk
def ah5:cX X 205 2=true:=Zk
def VG(a:a2)(b c:J)(d:V an)(e:Nat)(f g:bJ):Prop:=
 eM (e+7) λh=>E (al a d (.ptr 6 0)) λi=>aW a 240 [c] d h (λc d g=>E (eC [(.str []),(.str []), .nilIface] [(0,1,b),(1,1,c),(2,1,i)]) λb=>yg a d (e+5) b λb c=>E (al a c (.ptr 6 0)) λa=>gi a (some i) (f b c g)) g
def aiy:di X 226 [a0,bf] h j ak ay=VG X a0 bf h j ak ay:=Zk
def aix:cX X 226 2=true:=Zk
def VH(a:a2)(b c:J)(d:V an)(e:Nat)(f g:bJ):Prop:=
 eM (e+7) λh=>E (al a d (.ptr 7 0)) λi=>aW a 240 [c] d h (λc d g=>E (eC [(.str []),(.str []), .nilIface] [(0,1,b),(1,1,c),(2,1,i)]) λb=>yg a d (e+5) b λb c=>E (al a c (.ptr 7 0)) λa=>gi a (some i) (f b c g)) g
def aiA:di X 227 [a0,bf] h j ak ay=VH X a0 bf h j ak ay:=Zk
def aiz:cX X 227 2=true:=Zk
def VI(a:a2)(b:J)(c:V an)(d:Nat)(e f:bJ):Prop:=
 E (l1 b) λg=>pd (λc d h=>pd (λc d h=>pd (λc d h=>js c g d h (λd h i=>cN c (aC .lss d (.Z 10)) h i (λd h i=>pd (λc d h=>cU (λc=>hd c (.bool true) d h (λd h i=>js d g h i (λh i j=>cN d (aC .lss (.Z 0) h) i j (λh i j=>js d h i j (λh i j=>js h g i j (λi j k=>cN h (aC .lss i (.Z 19)) j k (λi j k=>jZ d (λa=>cU (λb=>a b j k) λa=>aX h (a i) (a (.bool false))) j k (λh i j=>kk c (λa=>cU (λb=>a b i j) λa=>aX d (a h) (a (.bool false))) i j (λd h i=>cU (λc=>aT (λb c d=>aj (b 0) λb=>aW a 242 [b,(.Z 10),(.Z 0)] c d (λa b c=>E (cK 0 a) λd=>E (cK 1 a) λa=>e (.tuple [d,a]) b c) f) λd=>aX c (E (ly b (.Z 0)) λd=>E (aC .eql d (.int .u8 45)) λd=>hd d b h i (λf h i=>c9 d (ly f (.Z 0)) h i (λf h i=>c9 d (aC .eql f (.int .u8 43)) h i (λf h i=>cU (λd=>aT (λb c d=>aj (b 0) λf=>gR (N7 a c d f) c d λc d f=>E (dI c) λg=>aT (λa b c=>aj (a 5) λd=>E (ly d (.Z 0)) λd=>E (aC .eql d (.int .u8 45)) λd=>aT (λa b c=>aj (a 6) λa=>e (.tuple [a, .nilIface]) b c) λe=>aX d (aj (a 6) λf=>E (fe .neg f) λf=>e (zw a 66 d 6 f) b c) (e (ac a 66 d) b c)) λh=>fu (λb c d f=>aj (c 49) λg=>aj (c 48) λi=>E (aC .lss g i) λg=>aT (λc d f=>aT (λa c d=>aj (a 49) λe=>E (aC .add e (.Z 1)) λe=>b (ac a 49 e) c d) λb=>aj (c 47) λg=>aj (c 49) λh=>E (dd 1 g h) λg=>E (al a d g) λa=>E (aC .sub a (.int .u8 48)) λg=>E (aC .gtr g (.int .u8 9)) λh=>aT (λa c d=>aj (a 6) λe=>E (aC .mul e (.Z 10)) λe=>aj (a 8) λf=>E (mD .i64 f) λf=>E (aC .add e f) λe=>b (ac a 6 e) c d) λb=>aX h (E (some (J.iface 281 (.Z 2))) λa=>e (.tuple [(.Z 0),a]) d f) (b (zx c 8 a 8 g 56 h) d f)) λa=>aX g (a (ac c 50 g) d f) (h (ac c 50 g) d f)) (zy b 6 (.Z 0) 47 c 48 g 49 (.Z 0)) d f) λa=>aX d (E (kn b (some (.Z 1)) none) λf=>E (l1 f) λj=>E (aC .lss j (.Z 1)) λj=>aT a λa=>aX j (E (some (J.iface 281 (.Z 2))) λa=>e (.tuple [(.Z 0),a]) h i) (a (zy (zy (cZ [b]) 2 (.Z 0) 3 .nilIface 4 g 30 c) 5 b 39 d 0 f 44 j) h i)) (a (zw (zy (cZ [b]) 2 (.Z 0) 3 .nilIface 4 g 30 c) 5 b 39 d) h i)) λa=>aX d (a (.bool true)) (a f))))) (d (zy (cZ [b]) 2 (.Z 0) 3 .nilIface 4 g 30 c) h i)) λa=>aX c (a (.bool true)) (a d)))))))))) λa=>aX (.bool false) (a c) (a (.bool false))) λa=>hQ true (.bool false) (cU (λb=>a b h i) λa=>aX c (a d) (a (.bool false))) (a bk.undef h i)))) λa=>hQ true (.bool false) (a c d h) (a bk.undef d h)) λa=>hQ true (.bool false) (E (aC .lss (.Z 0) c) λb=>a b d h) (a bk.undef d h)) λa=>hQ true (.bool false) (a g c d) (a bk.undef c d)
def aiC:di X 230 [a0] h j ak ay=VI X a0 h j ak ay:=Zk
def aiB:cX X 230 1=true:=Zk
def VJ(a:a2)(b:J)(c:V an)(d:Nat)(e _:bJ):Prop:=
 iG a c d b λb c d=>E (a1 2 b) λb=>E (al a c b) λa=>E (aC .sub (.Z 64) a) λa=>E (aC .shr (.int .u64 18446744073709551615) a) λa=>e a c d
def aiE:di X 231 [a0] h j ak ay=VJ X a0 h j ak ay:=Zk
def aiD:cX X 231 1=true:=Zk
def VP(a:a2)(b c d:J)(e:V an)(f:Nat)(g h:bJ):Prop:=
 E (dc a e .eql 9 true b (.str [])) λi=>aT (λb c d=>aj (b 0) λe=>E (ly e (.Z 0)) λe=>aT (λb c d=>aj (b 0) λe=>aj (b 1) λf=>aj (b 2) λi=>aW a 201 [e,f,i] c d (λc d e=>E (cK 0 c) λf=>E (cK 1 c) λc=>E (dc a d .neq 238 true c .nilIface) λh=>js h c d e (λd e i=>cN h (some (J.iface 281 (.Z 1))) e i (λe i j=>cN h (dc a i .neq 238 false d e) i j (λa d e=>cU (λa=>aT (λa b c=>aj (a 2) λd=>E (aC .eql d (.Z 0)) λd=>aT (λa b c=>aj (a 2) λd=>E (aC .sub d (.Z 1)) λd=>E (mD .u64 d) λd=>E (aC .shl (.int .u64 1) d) λd=>aj (a 8) λe=>E (fe .not e) λe=>kG e (a 9) b c (λb c f=>js e d c f (λc f h=>cN e (aC .geq b c) f h (λb c f=>cU (λb=>aT (λa b c=>aj (a 8) λd=>kG d (a 9) b c (λb c e=>kG d (a 10) c e (λc e f=>cN d (aC .gtr b c) e f (λb c e=>cU (λb=>aT (λa b c=>aj (a 9) λd=>E (mD .i64 d) λd=>aj (a 8) λe=>aT (λa b c=>aj (a 11) λa=>g (.tuple [a, .nilIface]) b c) λf=>aX e (E (fe .neg d) λg=>f (zx a 11 d 69 e 11 g) b c) (f (zw a 11 d 69 e) b c)) λd=>aX b (aj (a 10) λa=>E (mD .i64 a) λa=>E (fe .neg a) λa=>E (some (J.iface 281 (.Z 1))) λb=>g (.tuple [a,b]) c e) (d (ac a 62 b) c e)) λa=>aX d (a b) (a (.bool false)))))) λe=>aX b (E (aC .sub d (.int .u64 1)) λa=>E (mD .i64 a) λa=>E (some (J.iface 281 (.Z 1))) λb=>g (.tuple [a,b]) c f) (e (zw a 10 d 52 b) c f)) λa=>aX e (a b) (a (.bool false)))))) λe=>aX d (e (zw a 41 d 2 (.Z 64)) b c) (e (ac a 41 d) b c)) λh=>aX a (g (.tuple [(.Z 0),c]) d e) (h (zy b 9 (.int .u64 0) 9 f 7 c 38 a) d e)) λb=>aX h (b a) (b (.bool false)))))) h) λa=>E (aC .eql e (.int .u8 43)) λf=>aT a λa=>aX f (aj (b 0) λg=>E (kn g (some (.Z 1)) none) λg=>a (zy b 8 (.bool false) 16 e 17 f 0 g) c d) (E (aC .eql e (.int .u8 45)) λg=>aT a λa=>aX g (aj (b 0) λh=>E (kn h (some (.Z 1)) none) λh=>a (zw (zy b 8 (.bool false) 16 e 17 f 21 g) 0 h 8 (.bool true)) c d) (a (zy b 8 (.bool false) 16 e 17 f 21 g) c d))) λa=>aX i (E (some (J.iface 281 (.Z 2))) λa=>g (.tuple [(.Z 0),a]) e f) (a (zx (cZ [b,c,d]) 6 (.Z 0) 7 .nilIface 13 i) e f)
def aiQ:di X 242 [a0,bf,ck] h j ak ay=VP X a0 bf ck h j ak ay:=Zk
def aiP:cX X 242 3=true:=Zk
def Vc(a:a2)(b:J)(c:V an)(d:Nat)(e f:bJ):Prop:=
 aW a 209 [b] c d e f
def ahy:di X 183 [a0] h j ak ay=Vc X a0 h j ak ay:=Zk
def ahx:cX X 183 1=true:=Zk
def Vx(a:a2)(b:J)(c:V an)(d:Nat)(e f:bJ):Prop:=
 aW a 233 [b,(.Z 10)] c d e f
def aie:di X 209 [a0] h j ak ay=Vx X a0 h j ak ay:=Zk
def aid:cX X 209 1=true:=Zk
def VL(a:a2)(b c:J)(d:V an)(e:Nat)(f g:bJ):Prop:=
 E (aC .eql c (.Z 10)) λh=>aT (λb c d=>aj (b 0) λe=>E (mD .u64 e) λe=>aj (b 1) λh=>aj (b 0) λb=>E (aC .lss b (.Z 0)) λb=>aW a 247 [.aU,e,h,b,(.bool false)] c d (λa b c=>E (cK 0 a) λ_=>E (cK 1 a) λa=>f a b c) g) λi=>aX h (E (aC .leq (.Z 0) b) λi=>js i b d e (λd e j=>cN i (aC .lss d (.Z 100)) e j (λd e j=>cU (λd=>aT (λb c d=>E (dA [(.int .u8 0),(.int .u8 0),(.int .u8 0),(.int .u8 0),(.int .u8 0),(.int .u8 0),(.int .u8 0),(.int .u8 0),(.int .u8 0),(.int .u8 0),(.int .u8 0),(.int .u8 0),(.int .u8 0),(.int .u8 0),(.int .u8 0),(.int .u8 0),(.int .u8 0),(.int .u8 0),(.int .u8 0),(.int .u8 0),(.int .u8 0),(.int .u8 0),(.int .u8 0),(.int .u8 0)] d) λe=>cH a c d e.1 e.2 λc d e=>aj (b 0) λh=>E (mD .u64 h) λh=>aj (b 0) λi=>E (aC .lss i (.Z 0)) λi=>aT (λb c d=>aj (b 6) λe=>aW a 245 [e] c d (λc d e=>E (aC .add (.Z 1) c) λh=>aj (b 5) λi=>E (TC 24 1 i (some (.Z 1)) (some h) none) λh=>aj (b 6) λi=>aW a 246 [h,i] d e (λ_ d e=>aj (b 0) λg=>E (aC .lss g (.Z 0)) λg=>aT (λb c d=>aj (b 7) λe=>E (aC .add (.Z 1) e) λe=>aj (b 5) λb=>E (TC 24 1 b (some (.Z 1)) (some e) none) λb=>E (AR a c b) λa=>f a c d) λh=>aX g (aj (b 5) λg=>E (Gj 24 1 g (.Z 0)) λg=>E (b8 a d 1 g (.int .u8 45)) λd=>E (aC .add (.Z 1) c) λc=>aj (b 5) λb=>E (TC 24 1 b none (some c) none) λb=>E (AR a d b) λa=>f a d e) (h (zw b 7 c 34 g) d e)) g) g) λa=>aX i (E (fe .neg h) λf=>a (zy b 5 c 6 h 23 i 6 f) d e) (a (zx b 5 c 6 h 23 i) d e)) λi=>aX d (aW a 244 [b] e j f g) (i (zx (cZ [b,c]) 4 (.str []) 11 h 17 d) e j)) λa=>aX i (a d) (a (.bool false))))) (i (zw (cZ [b,c]) 4 (.str []) 11 h) d e)
def aiI:di X 233 [a0,bf] h j ak ay=VL X a0 bf h j ak ay:=Zk
def aiH:cX X 233 2=true:=Zk
end
end Go.Proofs.YtpfajohmofnkfaaGreatDoor

namespace Go.Proofs.YtpfajohmofnkfaaGreatDoor
open Go.bk
noncomputable section
variable (X : co) (h : V an) (j : Nat) (ak ay : bJ) (a0 bf ck a3 a4 a5 hv ic ir : J)
def VF(_:a2)(a:J)(b:V an)(c:Nat)(d _:bJ):Prop:=
 E (aC .or a (.int .u8 32)) λa=>d a b c
def aiw:di X 224 [a0] h j ak ay=VF X a0 h j ak ay:=Zk
def aiv:cX X 224 1=true:=Zk
def VR(_:a2)(a:J)(b:V an)(c:Nat)(d _:bJ):Prop:=
 E (aC .lss a (.Z 10)) λe=>aT (λa b c=>aj (a 0) λe=>E (aC .mul e (.Z 2)) λe=>aj (a 0) λa=>E (aC .mul a (.Z 2)) λa=>E (aC .add a (.Z 2)) λa=>E (kn (.str [48,48,48,49,48,50,48,51,48,52,48,53,48,54,48,55,48,56,48,57,49,48,49,49,49,50,49,51,49,52,49,53,49,54,49,55,49,56,49,57,50,48,50,49,50,50,50,51,50,52,50,53,50,54,50,55,50,56,50,57,51,48,51,49,51,50,51,51,51,52,51,53,51,54,51,55,51,56,51,57,52,48,52,49,52,50,52,51,52,52,52,53,52,54,52,55,52,56,52,57,53,48,53,49,53,50,53,51,53,52,53,53,53,54,53,55,53,56,53,57,54,48,54,49,54,50,54,51,54,52,54,53,54,54,54,55,54,56,54,57,55,48,55,49,55,50,55,51,55,52,55,53,55,54,55,55,55,56,55,57,56,48,56,49,56,50,56,51,56,52,56,53,56,54,56,55,56,56,56,57,57,48,57,49,57,50,57,51,57,52,57,53,57,54,57,55,57,56,57,57]) (some e) (some a)) λa=>d a b c) λf=>aX e (E (aC .add a (.Z 1)) λe=>E (kn (.str [48,49,50,51,52,53,54,55,56,57,97,98,99,100,101,102,103,104,105,106,107,108,109,110,111,112,113,114,115,116,117,118,119,120,121,122]) (some a) (some e)) λa=>d a b c) (f (zw (cZ [a]) 2 (.str []) 4 e) b c)
def aiU:di X 244 [a0] h j ak ay=VR X a0 h j ak ay:=Zk
def aiT:cX X 244 1=true:=Zk
end
end Go.Proofs.YtpfajohmofnkfaaGreatDoor

namespace Go.Proofs.YtpfajohmofnkfaaGreatDoor
open Go.bk Go.aZ
noncomputable section
def iK(c:Nat):Bool:=decide (48<=c)&&decide (c<=57)
def qG(c:Nat):Bool:=decide (97<=c)&&decide (c<=122)||decide (65<=c)&&decide (c<=90)||decide (c=95)
def iZ(c:Nat):Bool:=qG c||iK c
def BE{s:bq}{i c:Nat}(F:IntKind)(a:s[i]? =some c):ly (.str s) (.int F (i:Int))=some (.int .u8 (c:Int)):=by
 simp[ly,qO,a]
def TD{s:bq}{l a:Nat}(F fa:IntKind)(T:l<=a)(W:a<=s.length):kn (.str s) (some (.int F (l:Int))) (some (.int fa (a:Int)))=some (.str ((s.drop l).take (a-l))):=by
 simp[kn,mb,pg,qO,fG,T,W]
def N9{s:bq}{l:Nat}(F:IntKind)(T:l<=s.length):kn (.str s) (some (.int F (l:Int))) none=some (.str (s.drop l)):=by
 simp[kn,mb,pg,qO,fG,T,ZB]
def axj{s:bq}{a:Nat}(F:IntKind)(T:a<=s.length):kn (.str s) none (some (.int F (a:Int)))=some (.str (s.take a)):=by
 simp[kn,mb,pg,qO,fG,T]
section
variable{X:co}{h U a6 aR:V an}{j ar aJ bc:Nat}
def PJ(az:dx X)(c:Nat):aW X 112 [.int .u8 (c:Int)] h j (λae U ar=>ae= .bool (iK c)/\U=h/\ar=j) (λ_ _ _=>False):=by
 refine zv az (aga X) ?_
 rw[agb]
 unfold Up
 by_cases a:48<=c
 ·have d:decide ((48:Int)<=(c:Int))=true:=by simp;omega
  have cQ:decide ((c:Int)<=57)=decide (c<=57):=by simp;omega
  refine c1 @d @cQ ⟨?_⟩
  exact⟨by simp[iK,a],rfl,rfl⟩
 ·have d:decide ((48:Int)<=(c:Int))=false:=by simp;omega
  refine ce @d ⟨?_⟩
  exact⟨by simp[iK,a],rfl,rfl⟩
def WX(az:dx X)(c:Nat):aW X 114 [.int .u8 (c:Int)] h j (λae U ar=>ae= .bool (qG c)/\U=h/\ar=j) (λ_ _ _=>False):=by
 refine zv az (age X) ?_
 rw[agf]
 unfold Ur
 have c3:decide ((97:Int)<=(c:Int))=decide (97<=c):=by simp;omega
 have cQ:decide ((c:Int)<=122)=decide (c<=122):=by simp;omega
 have eZ:decide ((65:Int)<=(c:Int))=decide (65<=c):=by simp;omega
 have iH:decide ((c:Int)<=90)=decide (c<=90):=by simp;omega
 have gc:decide ((c:Int)=95)=decide (c=95):=by simp;omega
 by_cases T:97<=c<;>by_cases W:c<=122<;>by_cases au:65<=c<;>by_cases aP:c<=90<;>try omega
 all_goals
  simp only[T,W,au,aP,Yo,Z9]at c3 cQ eZ iH
  refine fW @c3 @cQ @eZ @iH @gc ⟨?_⟩
  exact⟨by simp[qG,T,W,au,aP],rfl,rfl⟩
def aul(az:dx X)(c:Nat):aW X 168 [.int .u8 (c:Int)] h j (λae U ar=>ae= .bool (iZ c)/\U=h/\ar=j) (λ_ _ _=>False):=by
 refine zv az (ahb X) ?_
 rw[ahc]
 unfold UW
 refine(WX az c).Zm ?_
 rintro ae U ar ⟨rfl,rfl,rfl⟩
 cases ai:qG c with
 |true=>
  refine cS ⟨?_⟩
  exact⟨by simp[iZ,ai],rfl,rfl⟩
 |false=>
  refine cS ⟨?_⟩
  refine(PJ az c).Zm ?_
  rintro ae U ar ⟨rfl,rfl,rfl⟩
  refine cS ⟨?_⟩
  exact⟨by simp[iZ,ai],rfl,rfl⟩
def auF(az:dx X)(c:Nat):aW X 166 [.int .u8 (c:Int)] h j (λae U ar=>ae= .bool (decide (c≠10))/\U=h/\ar=j) (λ_ _ _=>False):=by
 refine zv az (ag7 X) ?_
 rw[ag8]
 unfold UU
 refine cS ⟨?_⟩
 exact⟨by congr 1;simp;omega,rfl,rfl⟩
def qN(c:Nat):Nat:=(BitVec.ofInt 8 (c:Int)|||BitVec.ofInt 8 32).toNat%256
def SR(az:dx X)(c:Nat):aW X 224 [.int .u8 (c:Int)] h j (λae U ar=>ae= .int .u8 (qN c:Int)/\U=h/\ar=j) (λ_ _ _=>False):=by
 refine zv az (aiv X) ?_
 rw[aiw]
 unfold VF
 have I:aC .or (.int .u8 (c:Int)) (.int .u8 32)=some (.int .u8 (pA .u8 ((BitVec.ofInt 8 (c:Int)|||BitVec.ofInt 8 32).toNat))):=by
  simp[aC,l0,mq,lJ,k9];rfl
 refine ce @I ⟨?_⟩
 exact⟨rfl,rfl,rfl⟩
def aeh(az:dx X)(s p:bq):aW X 164 [.str s, .str p] h j (λae U ar=>ae= .bool (decide (p.length<=s.length/\s.take p.length=p))/\U=h/\ar=j) (λ_ _ _=>False):=by
 refine zv az (ag3 X) ?_
 rw[ag4]
 unfold US
 refine zv az (ahV X) ?_
 rw[ahW]
 unfold Vo
 by_cases a:p.length<=s.length
 ·have d:decide ((p.length:Int)<=(s.length:Int))=true:=by simp;omega
  have I:=axj (s:=s) .i64 a
  refine c1 @d @I ⟨?_⟩
  exact⟨by congr 1;simp[a],rfl,rfl⟩
 ·have d:decide ((p.length:Int)<=(s.length:Int))=false:=by simp;omega
  refine ce @d ⟨?_⟩
  exact⟨by congr 1;simp;omega,rfl,rfl⟩
end
def K2(X:co)(f:J)(p:Nat->Bool):Prop:=∃F,f= .func (.func F) [] []/\∀(h:V an) (j c:Nat),aW X F [.int .u8 (c:Int)] h j (λae U ar=>ae= .bool (p c)/\U=h/\ar=j) (λ_ _ _=>False)
def awB{X:co}(az:dx X):K2 X (.func (.func 112) [] []) iK:=⟨_,rfl,λh j c=>PJ az c⟩
def aeC{X:co}(az:dx X):K2 X (.func (.func 168) [] []) iZ:=⟨_,rfl,λh j c=>aul az c⟩
def awC{X:co}(az:dx X):K2 X (.func (.func 166) [] []) (λc=>decide (c≠10)):=⟨_,rfl,λh j c=>auF az c⟩
structure m0(X:co)(h:V an)(ge:Nat)(s:bq)(i:Nat):Prop where
 g:ab X h ge=zs [.str s, .Z (i:Int)] 2
 le:i<=s.length
 many:s.length<=65536
 ei:(q X).ba<=ge
def m0.ee{X:co}{h:V an}{ge:Nat}{s:bq}{i:Nat}(a:m0 X h ge s i):al X h (.ptr ge 0)=some (.str s):=by rw[bR a.g];rfl
def m0.dy{X:co}{h:V an}{ge:Nat}{s:bq}{i:Nat}(a:m0 X h ge s i):al X h (.ptr ge 1)=some (.Z (i:Int)):=by rw[bR a.g];rfl
def m0.ad{X:co}{h U:V an}{ge:Nat}{s:bq}{i:Nat}(a:m0 X h ge s i)(F:ab X U ge=ab X h ge):m0 X U ge s i:=⟨by rw[F];exact a.g,a.le,a.many,a.ei⟩
section
variable{X:co}{h U a6 aR:V an}{j ar aJ bc ge:Nat}{s:bq}{i:Nat}
def N4(az:dx X){f:J}{p:Nat->Bool}(b9:K2 X f p)(Z:m0 X h ge s i){K:Nat}(aE:K<=s.length):
 aW X 165 [.ptr ge 0, .Z (K:Int),f] h j (λae U ar=>ae= .str ((s.drop K).takeWhile p)/\U=h/\ar=j) (λ_ _ _=>False):=by
 refine zv az (ag5 X) ?_
 rw[ag6]
 unfold UT
 obtain⟨F,rfl,b9⟩:=b9
 have bs:=Z.many
 have ee:=Z.ee
 refine cS ⟨?_⟩
 refine fC (λm M U aV=>∃(I:Nat),M.g 0=some (.ptr ge 0)/\M.g 1=some (.Z (K:Int))/\M.g 2=some (.func (.func F) [] [])/\M.g 7=some (.Z (I:Int))/\K<=I/\I+m=s.length/\U=h/\aV=j/\(s.drop K).takeWhile p=(s.drop K).take (I-K)++(s.drop I).takeWhile p)
  (s.length-K) ⟨K,bp,bp,bp,bp,Zl _,Zo,rfl,rfl,Zs⟩ ?_
 rintro m M aR bc ⟨I,t0,t1,eF,fo,apg,azN,rfl,rfl,bI⟩
 have bH:=zt I
 have a8:kn (.str s) (some (.Z (K:Int))) (some (.Z (I:Int)))=some (.str ((s.drop K).take (I-K))):=TD .i64 .i64 apg Zo
 cases m with
 |zero=>
  have d:=zp I s.length
  rw[ZH (by omega:s.length<=I),List.takeWhile_nil,Yx]at bI
  refine eu @fo @t0 @t1 @eF @ee @d @a8 ⟨?_⟩
  exact⟨by rw[bI],rfl,rfl⟩
 |succ m=>
  have d:=zq I s.length
  obtain⟨c,aB⟩:=zr s I
  have aO:s.drop I=c::s.drop (I+1):=by
   obtain⟨ah,H⟩:=Zc.1 aB
   rw[Zw ah,H]
  have dQ:=BE .i64 aB
  refine eu @fo @t0 @t1 @eF @ee @d @dQ ⟨?_⟩
  refine(b9 aR bc c).Zm ?_
  rintro ae a7 bd ⟨rfl,rfl,rfl⟩
  rw[aO,YD]at bI
  cases aA:p c with
  |false=>
   rw[aA]at bI
   simp only[Zx,ZA,Yx]at bI
   refine fW @fo @t0 @t1 @ee @a8 ⟨?_⟩
   exact⟨by rw[bI],rfl,rfl⟩
  |true=>
   rw[aA]at bI
   simp only[ZD]at bI
   refine c1 @fo @bH ⟨?_⟩
   refine⟨m,Zo,I+1,aQ t0,aQ t1,aQ eF,bp,Zo,Zo,rfl,rfl, ?_⟩
   rw[bI,show I+1-K=(I-K)+1 by omega,Z0]
   have:(s.drop K)[I-K]? =some c:=by rw[YG,show K+(I-K)=I by omega];exact aB
   rw[this]
   simp
end
def JL(c:Nat):Bool:=decide (c=32)||decide (c=9)||decide (c=10)||decide (c=13)
structure iS(X:co):Prop extends dx X where
 idx:∀c:Nat,c<256->∃bu:Int,X.O 223 [.str [32,9,10,13], .int .u8 (c:Int)]=some (.Z bu)/\(0<=bu↔JL c=true)
 clone:∀s:bq,(∀c∈s,c<256)->s.length<=65536->X.O 240 [.str s]=some (.str s)
def n2(s:bq):Nat->Nat->Nat
 |0,i=>i
 |n+1,i=>match s[i]? with
  |none=>i
  |some c=>if JL c then n2 s n (i+1)
   else if 2<=(s.drop i).length/\(s.drop i).take 2=[45,45]then n2 s n (i+((s.drop i).takeWhile λc=>decide (c≠10)).length)else i
def Et{α:Type}(p:α->Bool):∀l:List α,(l.takeWhile p).length<=l.length:=by
 intro l
 induction l with
 |nil=>simp
 |cons K l am=>rw[YD];split<;>simp<;>omega
section
variable{X:co}{h U a6 aR:V an}{j ar aJ bc ge:Nat}{s:bq}{i:Nat}
def asx(az:iS X){c:Nat}(aB:c<256):aW X 163 [.str [32,9,10,13], .int .u8 (c:Int)] h j (λae U ar=>(∃bu:Int,ae= .Z bu/\(0<=bu↔JL c=true))/\U=h/\ar=j) (λ_ _ _=>False):=by
 refine zv az.todx (ag1 X) ?_
 rw[ag2]
 unfold UR
 refine zv az.todx (ahT X) ?_
 rw[ahU]
 unfold Vm
 obtain⟨bu,T,W⟩:=az.idx c aB
 exact E5 T ⟨⟨bu,rfl,W⟩,rfl,rfl⟩
def W0(az:iS X)(Z:m0 X h ge s i)(ai:∀c∈s,c<256)(aM:(q X).ba<=j)(Jt:ge<j):
 aW X 110 [.ptr ge 0] h j (λae U ar=>m0 X U ge s (n2 s s.length i)/\cf X [ge] h j U ar) (λ_ _ _=>False):=by
 refine zv az.todx (af6 X) ?_
 rw[af7]
 unfold Un
 have bs:=Z.many
 have hc:=Z.ei
 refine cS ⟨?_⟩
 refine fC (λm M U aV=>∃(aa:Nat),M.g 0=some (.ptr ge 0)/\m0 X U ge s aa/\s.length<=aa+m/\n2 s s.length i=n2 s m aa/\cf X [ge] h j U aV)
  s.length ⟨i,bp,Z,Zo,rfl,cf.refl _ _ _⟩ ?_
 rintro m M aR bc ⟨aa,t0,fN,azT,bL,dz⟩
 have f5:=dz.le
 have ee:=fN.ee
 have dy:=fN.dy
 have u7:=fN.le
 have cd:=fN.g
 by_cases Dc:aa=s.length
 ·subst Dc
  have cw:n2 s m s.length=s.length:=by cases m<;>simp[n2]
  have d:decide ((s.length:Int)<(s.length:Int))=false:=by simp
  refine gl @t0 @ee @dy @d ⟨?_⟩
  exact⟨by rw[bL,cw];exact fN,dz.trans ⟨Zo,λ_ _ _=>rfl⟩⟩
 have d:=zq aa s.length
 obtain⟨c,aB⟩:=zr s aa
 obtain⟨m,rfl⟩:∃gr,m=gr+1:=⟨m-1,Zo⟩
 rw[n2,aB]at bL
 simp only[]at bL
 have dQ:=BE .i64 aB
 have Mq:=ai c (Zn aB)
 refine fW @t0 @ee @dy @d @dQ ⟨?_⟩
 refine(asx az Mq).Zm ?_
 rintro ae a7 bd ⟨⟨bu,rfl,cw⟩,rfl,rfl⟩
 cases fj:JL c with
 |true=>
  have lx:=cw.2 fj
  have cQ:decide ((0:Int)<=bu)=true:=by simp;omega
  have bH:=zt aa
  rw[fj]at bL
  simp only[ZD]at bL
  refine gl @t0 @dy @cQ @bH ⟨?_⟩
  refine⟨m,Zo,aa+1,aQ t0,⟨by rw[bi Zo];rfl,Zo,bs,hc⟩,Zo,bL,dz.trans ⟨Zo,λb ai bW=>by simp only[Zq,ZG,YU,Yr,ZF,Ye]at bW;exact zu⟩⟩
 |false=>
  have cQ:decide ((0:Int)<=bu)=false:=by simp;have:=mt cw.1 (by rw[fj];decide);omega
  have bH:kn (.str s) (some (.Z (aa:Int))) none=some (.str (s.drop aa)):=N9 .i64 u7
  rw[fj]at bL
  simp only[Zx,ZA]at bL
  refine fW @t0 @ee @dy @cQ @bH ⟨?_⟩
  refine(aeh az.todx (s.drop aa) [45,45]).Zm ?_
  rintro ae bw db ⟨rfl,rfl,rfl⟩
  by_cases aA:2<=(s.drop aa).length/\(s.drop aa).take 2=[45,45]
  ·rw[Zr aA]at bL
   have eZ:decide ([45,45].length<=(s.drop aa).length/\List.take [45,45].length (s.drop aa)=[45,45])=true:=Yu aA
   have aD:=Et (λc=>decide (c≠10)) (s.drop aa)
   rw[Yz]at aD
   generalize bI:((s.drop aa).takeWhile λc=>decide (c≠10)).length=w at bL aD
   have sE:1<=w:=by
    have aor:c=45:=by
     have:=aA.2
     have aO:s.drop aa=c::s.drop (aa+1):=by
      obtain⟨ah,H⟩:=Zc.1 aB
      rw[Zw ah,H]
     rw[aO]at this
     simp at this
     exact this.1
    have aO:s.drop aa=c::s.drop (aa+1):=by
     obtain⟨ah,H⟩:=Zc.1 aB
     rw[Zw ah,H]
    rw[aO,aor,YD]at bI
    simp at bI
    omega
   have cP:aC .add (.Z (aa:Int)) (.Z (w:Int))=some (.Z ((aa+w:Nat):Int)):=by rw[eL Zo Zo];rfl
   simp only[eZ]
   refine d9 @t0 @ee @dy ⟨?_⟩
   refine(N4 az.todx (awC az.todx) fN u7).Zm ?_
   rintro ae bS cj ⟨rfl,rfl,rfl⟩
   have fH:l1 (.str ((s.drop aa).takeWhile λc=>decide (c≠10)))=some (.Z (w:Int)):=by rw[sL,bI]
   refine d9 @fH @cP @dy ⟨?_⟩
   refine gs (by simp[J.same]) ?_
   refine cS ⟨?_⟩
   refine⟨m,Zo,aa+w,aQ t0,⟨by rw[bi Zo];rfl,Zo,bs,hc⟩,Zo,bL,dz.trans ⟨Zo,λb ai bW=>by simp only[Zq,ZG,YU,Yr,ZF,Ye]at bW;exact zu⟩⟩
  ·rw[Zh aA]at bL
   have eZ:decide ([45,45].length<=(s.drop aa).length/\List.take [45,45].length (s.drop aa)=[45,45])=false:=Yj aA
   simp only[eZ]
   refine cS ⟨?_⟩
   exact⟨by rw[bL];exact fN,dz.trans ⟨Zo,λ_ _ _=>rfl⟩⟩
end
def sV:bq->Nat->Nat×Nat
 |[],n=>(n,0)
 |c::l,n=>if iK c then(if 1844674407370955162<=n then(18446744073709551615,1)else if 18446744073709551616<=n*10+(c-48)then(18446744073709551615,1)else sV l (n*10+(c-48)))
  else(0,2)
def kx(s:bq):Nat×Nat:=if s=[]then(0,2)else sV s 0
def wT:Nat->J
 |0=> .nilIface
 |n+1=> .iface 281 (.Z ((n+1:Nat):Int))
def W8{C:a2}{h:V an}{j:Nat}{s:bq}{ak:bJ}(a:s.length<=1048576)(F:ak (.fm j 0 s.length 1) (bo C h j (some (.cells (V.ofList (s.map λn:Nat=>J.int .u8 (n:Int)) 0 .nil) s.length (.grow [])))) (j+1)):gR (N7 C h j (.str s)) h j ak:=by
 refine ky (v:= .fm j 0 s.length 1) (U:=bo C h j (some (.cells (V.ofList (s.map λn:Nat=>J.int .u8 (n:Int)) 0 .nil) s.length (.grow [])))) (ar:=j+1) ?_ F
 simp[N7,tz,ln a,nd]
def afz{x:Int}(T:0<=x)(W:x<18446744073709551616):pA .u64 x=x:=by
 simp only[pA];exact YO T W
def aso{x e:Nat}(a:x+e<18446744073709551616):aC .add (.int .u64 (x:Int)) (.int .u64 (e:Int))=some (.int .u64 ((x+e:Nat):Int)):=by
 rw[acu];congr 2;rw[YO Zo Zo];rfl
def asp{x e:Nat}(a:x*e<18446744073709551616):aC .mul (.int .u64 (x:Int)) (.int .u64 (e:Int))=some (.int .u64 ((x*e:Nat):Int)):=by
 have:(x:Int)*(e:Int)=((x*e:Nat):Int):=by simp
 simp only[aC,l0,mq,lJ,jz,e6,k9,this]
 rw[afz Zo Zo,Fo]
def acw{x e:Nat}(a:e<=x)(W:x<256):aC .sub (.int .u8 (x:Int)) (.int .u8 (e:Int))=some (.int .u8 ((x-e:Nat):Int)):=by
 have:(x:Int) -(e:Int)=((x-e:Nat):Int):=Zo
 have w:pA .u8 ((x-e:Nat):Int)=((x-e:Nat):Int):=by simp only[pA];exact YO Zo Zo
 simp only[aC,l0,mq,lJ,jz,e6,k9,this,w,Fo]
def asn{x e:Nat}(W:x+e<256):aC .add (.int .u8 (x:Int)) (.int .u8 (e:Int))=some (.int .u8 ((x+e:Nat):Int)):=by
 have:(x:Int)+(e:Int)=((x+e:Nat):Int):=Zo
 have w:pA .u8 ((x+e:Nat):Int)=((x+e:Nat):Int):=by simp only[pA];exact YO Zo Zo
 simp only[aC,l0,mq,lJ,jz,e6,k9,this,w,Fo]
section
variable{X:co}{h U a6 aR:V an}{j ar aJ bc ge:Nat}{s:bq}{i:Nat}
def afh(az:iS X)(aI:s.length<=65536)(ai:∀c∈s,c<256)(aM:(q X).ba<=j){b:Int}(apm:b=0\/b=64):
 aW X 201 [.str s, .Z 10, .Z b] h j (λae U ar=>ae= .tuple [.int .u64 ((kx s).1:Int),wT (kx s).2]/\bh X h j U ar) (λ_ _ _=>False):=by
 refine zv az.todx (ahX X) ?_
 rw[ahY]
 unfold Vp
 by_cases ch:s=[]
 ·subst ch
  have d:decide (([]:List Nat)=[])=true:=rfl
  refine ce @d ⟨?_⟩
  exact⟨rfl,dR⟩
 have d:decide (s=[])=false:=by simp[ch]
 have aF:decide ((2:Int)<=10)=true:=rfl
 have H0:decide ((10:Int)<=36)=true:=rfl
 have alF:decide ((10:Int)=10)=true:=rfl
 have ek:aC .shl (.int .u64 1) (.int .u64 64)=some (.int .u64 0):=by rfl
 have Kx:aC .sub (.int .u64 0) (.int .u64 1)=some (.int .u64 18446744073709551615):=by rfl
 have Xk:mD .u64 (.Z 64)=some (.int .u64 64):=by rfl
 have alD:(64:Int)%18446744073709551616=64:=rfl
 have Xl:(10:Int)%18446744073709551616=10:=rfl
 have m4:decide ((10:Int)=0)=false:=rfl
 have aq4:kx s=sV s 0:=by simp[kx,ch]
 rw[aq4]
 rcases apm with rfl|rfl
 all_goals
  have c3:decide ((0:Int)=0)=true:=rfl
  have cQ:decide ((64:Int)=0)=false:=rfl
  have eZ:decide ((64:Int)<0)=false:=rfl
  have iH:decide ((64:Int)<64)=false:=rfl
  refine eu @d @aF @H0 @alF @m4 @c3 (Za @cQ (Za @eZ (Za @iH (Za @ek (Za @Kx (Za @Xk @alD)))))) ⟨?_⟩
  refine W8 Zo ?_
  have Qg:ab X (bo X h j (some (.cells (V.ofList (s.map λn:Nat=>J.int .u8 (n:Int)) 0 .nil) s.length (.grow [])))) j=some (.cells (V.ofList (s.map λn:Nat=>J.int .u8 (n:Int)) 0 .nil) s.length (.grow [])):=bi aM
  have QD:bh X h j (bo X h j (some (.cells (V.ofList (s.map λn:Nat=>J.int .u8 (n:Int)) 0 .nil) s.length (.grow [])))) (j+1):=dR
  generalize bo X h j (some (.cells (V.ofList (s.map λn:Nat=>J.int .u8 (n:Int)) 0 .nil) s.length (.grow [])))=us at*
  refine cS ⟨?_⟩
  refine fC (λm M U aV=>∃(aa n:Nat),M.g 99=some (.fm j 0 s.length 1)/\M.g 100=some (.Z (s.length:Int))/\M.g 101=some (.Z (aa:Int))/\M.g 13=some (.int .u64 (n:Int))/\M.g 10=some (.int .u64 1844674407370955162)/\M.g 11=some (.int .u64 18446744073709551615)/\M.g 12=some (.bool false)/\M.g 8=some (.bool false)/\M.g 1=some (.Z 10)/\aa+m=s.length/\n<18446744073709551616/\U=us/\j+1<=aV/\sV s 0=sV (s.drop aa) n)
   s.length ⟨0,0,bp,bp,fQ,fQ,bp,bp,bp,bp,bp,Zo,Zo,rfl,Zo,rfl⟩ ?_
  rintro m M aR bc ⟨aa,n,Ao,v7,xS,lE,nP,oy,uj,gA,t1,bL,aAp,rfl,k6,aA⟩
  have bC:bh X h j aR bc:=⟨Zo,QD.ad⟩
  cases m with
  |zero=>
   have gc:=zp aa s.length
   rw[ZH (by omega:s.length<=aa),sV]at aA
   rw[aA]
   refine fW @xS @v7 @uj @lE @gc ⟨?_⟩
   exact⟨rfl,bC⟩
  |succ m=>
   have gc:=zq aa s.length
   have bH:=zt aa
   obtain⟨c,aB⟩:=zr s aa
   have aO:s.drop aa=c::s.drop (aa+1):=by
    obtain⟨ah,H⟩:=Zc.1 aB
    rw[Zw ah,H]
   have Mq:=ai c (Zn aB)
   have dQ:dd 1 (.fm j 0 s.length 1) (.Z (aa:Int))=some (.ptr j aa):=by rw[Gl _ Zo];simp
   have sv:al X aR (.ptr j aa)=some (.int .u8 (c:Int)):=by rw[bR Qg,kM];simp[aB]
   rw[aO,sV]at aA
   rw[aA]
   have aA0:decide ((c:Int)=95)=decide (c=95):=by simp;omega
   have y6:mD .u8 (.Z 10)=some (.int .u8 10):=rfl
   by_cases pW:iK c=true
   ·have Ra:48<=c/\c<=57:=by simpa[iK]using pW
    rw[Zr pW]
    have vt:decide ((c:Int)=95)=false:=by simp;omega
    have bY:decide ((48:Int)<=(c:Int))=true:=by simp;omega
    have cx:decide ((c:Int)<=57)=true:=by simp;omega
    have c7:aC .sub (.int .u8 (c:Int)) (.int .u8 48)=some (.int .u8 ((c-48:Nat):Int)):=acw (e:=48) Zo Mq
    have d5:decide ((10:Int)<=((c-48:Nat):Int))=false:=by simp;omega
    by_cases Ms:1844674407370955162<=n
    ·rw[Zr Ms]
     have er:decide ((1844674407370955162:Int)<=(n:Int))=true:=by simp;omega
     refine eu @xS @v7 @Ao @gA @t1 @gc (Za @dQ (Za @sv (Za @vt (Za @bY (Za @cx (Za @c7 (Za @d5 (Za @y6 (Za @lE (Za @nP (Za @er @oy))))))))))) ⟨?_⟩
     exact⟨rfl,bC⟩
    ·rw[Zh Ms]
     have er:decide ((1844674407370955162:Int)<=(n:Int))=false:=by simp;omega
     have dK:aC .mul (.int .u64 (n:Int)) (.int .u64 10)=some (.int .u64 ((n*10:Nat):Int)):=asp (e:=10) Zo
     have fR:((c-48:Nat):Int)%18446744073709551616=((c-48:Nat):Int):=YO Zo Zo
     by_cases RN:18446744073709551616<=n*10+(c-48)
     ·rw[Zr RN]
      have iM:aC .add (.int .u64 ((n*10:Nat):Int)) (.int .u64 ((c-48:Nat):Int))=some (.int .u64 ((n*10+(c-48) -18446744073709551616:Nat):Int)):=by
       have aqB:(((n*10:Nat):Int)+((c-48:Nat):Int))%18446744073709551616=((n*10+(c-48) -18446744073709551616:Nat):Int):=Zo
       rw[acu,aqB]
      have hA:decide (((n*10+(c-48) -18446744073709551616:Nat):Int)<((n*10:Nat):Int))=true:=by simp only[Zg];omega
      refine eu @xS @v7 @Ao @gA @t1 @gc (Za @dQ (Za @sv (Za @vt (Za @bY (Za @cx (Za @c7 (Za @d5 (Za @y6 (Za @lE (Za @nP (Za @er (Za @Xl (Za @dK (Za @fR (Za @iM (Za @hA @oy)))))))))))))))) ⟨?_⟩
      exact⟨rfl,bC⟩
     ·have F0:=aA
      rw[Zr pW,Zh Ms,Zh RN]at F0
      rw[Zh RN]
      have iM:aC .add (.int .u64 ((n*10:Nat):Int)) (.int .u64 ((c-48:Nat):Int))=some (.int .u64 ((n*10+(c-48):Nat):Int)):=aso Zo
      have hA:decide (((n*10+(c-48):Nat):Int)<((n*10:Nat):Int))=false:=by simp only[Zb];omega
      have vu:decide ((18446744073709551615:Int)<((n*10+(c-48):Nat):Int))=false:=by simp only[Zb];omega
      refine eu @xS @v7 @Ao @gA @t1 @gc (Za @dQ (Za @sv (Za @vt (Za @bY (Za @cx (Za @c7 (Za @d5 (Za @y6 (Za @lE (Za @nP (Za @er (Za @Xl (Za @dK (Za @fR (Za @iM (Za @hA (Za @vu (Za @oy @bH)))))))))))))))))) ⟨?_⟩
      exact⟨m,Zo,aa+1,n*10+(c-48),aQ Ao,aQ v7,bp,bp,aQ nP,aQ oy,aQ uj,aQ gA,aQ t1,Zo,Zo,rfl,Zo,by first|exact F0|rw[F0]|rfl⟩
   ·have Ra:¬(48<=c/\c<=57):=by simpa[iK]using pW
    rw[Zh pW]
    have af4:qN c<256:=Nat.mod_lt _ Zo
    have cL:decide ((97:Int)<=(qN c:Int))=decide (97<=qN c):=by simp;omega
    have cC:decide ((qN c:Int)<=122)=decide (qN c<=122):=by simp;omega
    have bY:decide ((48:Int)<=(c:Int))=decide (48<=c):=by simp;omega
    have cx:decide ((c:Int)<=57)=decide (c<=57):=by simp;omega
    have fin:97<=qN c->qN c<=122->∃bu:Nat,aC .sub (.int .u8 (qN c:Int)) (.int .u8 97)=some (.int .u8 ((qN c-97:Nat):Int))/\aC .add (.int .u8 ((qN c-97:Nat):Int)) (.int .u8 10)=some (.int .u8 ((qN c-97+10:Nat):Int))/\decide ((10:Int)<=((qN c-97+10:Nat):Int))=true:=λT W=>
     ⟨0,acw (e:=97) T af4,asn (e:=10) Zo,by simp only[Zg];omega⟩
    by_cases azx:c=95<;>by_cases aos:48<=c<;>by_cases aot:c<=57<;>try omega
    all_goals
     simp only[aos,aot,Yo,Z9]at bY cx
     first|have acI:decide ((c:Int)=95)=true:=by simp only[Zg];omega|have acI:decide ((c:Int)=95)=false:=by simp only[Zb];omega
     refine eu @xS @v7 @Ao @gA @t1 @gc (Za @dQ (Za @sv (Za @acI (Za @bY @cx)))) ⟨?_⟩
     refine(SR az.todx c).Zm ?_
     rintro ae a7 bd ⟨rfl,rfl,rfl⟩
     by_cases pX:97<=qN c
     ·simp only[pX,Yo]at cL
      refine ce @cL ⟨?_⟩
      refine(SR az.todx c).Zm ?_
      rintro ae a7 bd ⟨rfl,rfl,rfl⟩
      by_cases mK:qN c<=122
      ·simp only[mK,Yo]at cC
       refine ce @cC ⟨?_⟩
       refine(SR az.todx c).Zm ?_
       rintro ae a7 bd ⟨rfl,rfl,rfl⟩
       obtain⟨_,eS,e2,iU⟩:=fin pX mK
       refine fW @eS @e2 @iU @y6 @t1 ⟨?_⟩
       exact⟨rfl,bC⟩
      ·simp only[mK,Z9]at cC
       refine ce @cC ⟨?_⟩
       exact⟨rfl,bC⟩
     ·simp only[pX,Z9]at cL
      refine ce @cL ⟨?_⟩
      exact⟨rfl,bC⟩
end
structure ma(X:co):Prop where
 axg:∃b,∀h,al X h (.ptr 6 0)=some (.iface 304 (.ptr b 0))
 seven:∃b,∀h,al X h (.ptr 7 0)=some (.iface 304 (.ptr b 0))
section
variable{X:co}{h U a6 aR:V an}{j ar aJ bc ge:Nat}{s:bq}{i:Nat}
def amj:dc X h .eql 238 false (.iface 281 (.Z 2)) (.iface 281 (.Z 2))=some (.bool true):=Zk
def ami:dc X h .eql 238 false (.iface 281 (.Z 1)) (.iface 281 (.Z 2))=some (.bool false):=Zk
def amh:dc X h .eql 238 false (.iface 281 (.Z 1)) (.iface 281 (.Z 1))=some (.bool true):=Zk
def GO(F:Int):dc X h .neq 238 true (.iface 281 (.Z F)) .nilIface=some (.bool true):=Zk
def DT:dc X h .neq 238 true .nilIface .nilIface=some (.bool false):=Zk
def adB(b:Nat):dc X h .neq 238 true (.iface 283 (.ptr b 0)) .nilIface=some (.bool true):=Zk
def axY(az:iS X)(bX:ma X)(f:bq)(aI:s.length<=65536)(pT:∀c∈s,c<256)(aM:(q X).ba<=j):
 aW X 226 [.str f, .str s] h j (λae U ar=>(∃b,ae= .ptr b 0)/\bh X h j U ar) (λ_ _ _=>False):=by
 refine zv az.todx (aix X) ?_
 rw[aiy]
 unfold VG
 obtain⟨b,ai⟩:=bX.axg
 refine ce @ai ⟨?_⟩
 refine E5 (az.clone s pT aI) ?_
 refine ce @ai ⟨?_⟩
 refine gs (by simp[J.same]) ?_
 exact⟨⟨_,rfl⟩,dR⟩
def av6(az:iS X)(bX:ma X)(f:bq)(aI:s.length<=65536)(pT:∀c∈s,c<256)(aM:(q X).ba<=j):
 aW X 227 [.str f, .str s] h j (λae U ar=>(∃b,ae= .ptr b 0)/\bh X h j U ar) (λ_ _ _=>False):=by
 refine zv az.todx (aiz X) ?_
 rw[aiA]
 unfold VH
 obtain⟨b,ai⟩:=bX.seven
 refine ce @ai ⟨?_⟩
 refine E5 (az.clone s pT aI) ?_
 refine ce @ai ⟨?_⟩
 refine gs (by simp[J.same]) ?_
 exact⟨⟨_,rfl⟩,dR⟩
def LG(az:iS X)(bX:ma X)(f:bq)(x e:J)(aI:s.length<=65536)(pT:∀c∈s,c<256)(aM:(q X).ba<=j){F:Nat}(aL:F=1\/F=2):
 aW X 202 [.str f, .str s,x,e,wT F] h j (λae U ar=>(∃b,ae= .iface 283 (.ptr b 0))/\bh X h j U ar) (λ_ _ _=>False):=by
 refine zv az.todx (ahZ X) ?_
 rw[ah0]
 unfold Vq
 rcases aL with rfl|rfl
 ·have bH:wT 1= .iface 281 (.Z 1):=rfl
  rw[bH]
  refine c1 @ami @amh ⟨?_⟩
  refine(av6 az bX f aI pT aM).Zm ?_
  rintro ae a7 bd ⟨⟨b,rfl⟩,cm⟩
  refine cS ⟨?_⟩
  exact⟨⟨_,rfl⟩,cm⟩
 ·have bH:wT 2= .iface 281 (.Z 2):=rfl
  rw[bH]
  refine ce @amj ⟨?_⟩
  refine(axY az bX f aI pT aM).Zm ?_
  rintro ae a7 bd ⟨⟨b,rfl⟩,cm⟩
  refine cS ⟨?_⟩
  exact⟨⟨_,rfl⟩,cm⟩
def avU:∀(l:bq) (n:Nat),(sV l n).2=0\/(sV l n).2=1\/(sV l n).2=2:=by
 intro l
 induction l with
 |nil=>intro n;exact .inl rfl
 |cons c l am=>
  intro n
  rw[sV]
  split
  ·split
   ·exact .inr (.inl rfl)
   ·split
    ·exact .inr (.inl rfl)
    ·exact am _
  ·exact .inr (.inr rfl)
def aei(l:bq):(kx l).2=0\/(kx l).2=1\/(kx l).2=2:=by
 unfold kx;split
 ·exact .inr (.inr rfl)
 ·exact avU _ _
def avt(az:iS X)(bX:ma X)(aI:s.length<=65536)(ai:∀c∈s,c<256)(aM:(q X).ba<=j):
 aW X 167 [.str s, .Z 10, .Z 64] h j (λae U ar=>(∃I,ae= .tuple [.int .u64 ((kx s).1:Int),I]/\((kx s).2=0/\I= .nilIface\/(kx s).2≠0/\∃b,I= .iface 283 (.ptr b 0)))/\bh X h j U ar) (λ_ _ _=>False):=by
 refine zv az.todx (ag9 X) ?_
 rw[aha]
 unfold UV
 refine(afh az aI ai aM (.inr rfl)).Zm ?_
 rintro ae a7 bd ⟨rfl,cm⟩
 have ik:=cm.le
 rcases aei s with a|a|a
 ·rw[a]
  have bH:wT 0= .nilIface:=rfl
  rw[bH]
  refine ce @DT ⟨?_⟩
  exact⟨⟨_,rfl, .inl ⟨rfl,rfl⟩⟩,cm⟩
 ·rw[a]
  have bH:wT 1= .iface 281 (.Z 1):=rfl
  rw[bH]
  refine ce @GO ⟨?_⟩
  refine(LG (j:=bd) (h:=a7) az bX [80,97,114,115,101,85,105,110,116] (.Z 10) (.Z 64) aI ai (Zz aM ik) (F:=1) Zd).Zm ?_
  rintro ae bw db ⟨⟨b,rfl⟩,dj⟩
  refine cS ⟨?_⟩
  exact⟨⟨_,rfl, .inr ⟨Zd,b,rfl⟩⟩,cm.trans dj⟩
 ·rw[a]
  have bH:wT 2= .iface 281 (.Z 2):=rfl
  rw[bH]
  refine ce @GO ⟨?_⟩
  refine(LG (j:=bd) (h:=a7) az bX [80,97,114,115,101,85,105,110,116] (.Z 10) (.Z 64) aI ai (Zz aM ik) (F:=2) Zd).Zm ?_
  rintro ae bw db ⟨⟨b,rfl⟩,dj⟩
  refine cS ⟨?_⟩
  exact⟨⟨_,rfl, .inr ⟨Zd,b,rfl⟩⟩,cm.trans dj⟩
end
def Ui(I:J):Prop:=I= .nilIface\/I= .iface 281 (.Z 1)\/I= .iface 281 (.Z 2)
def Co(s:bq):Prop:=∀c∈s,c≠43/\c≠45
def xX(s:bq):Nat:=s.foldl (λn c=>n*10+(c-48)) 0
def avV:∀(l:bq) (n:Nat),n<18446744073709551616->(sV l n).1<18446744073709551616:=by
 intro l
 induction l with
 |nil=>intro n a;exact a
 |cons c l am=>
  intro n a
  rw[sV]
  split
  ·split
   ·show 18446744073709551615<_;omega
   ·split
    ·show 18446744073709551615<_;omega
    ·exact am _ Zo
  ·show 0<_;omega
def aej(l:bq):(kx l).1<18446744073709551616:=by
 unfold kx;split
 ·show 0<_;omega
 ·exact avV _ _ Zo
section
variable{X:co}{h U a6 aR:V an}{j ar aJ bc ge:Nat}{s:bq}{i:Nat}
def adC:dc X h .neq 238 false (.iface 281 (.Z 1)) (.iface 281 (.Z 1))=some (.bool false):=Zk
def adD:dc X h .neq 238 false (.iface 281 (.Z 2)) (.iface 281 (.Z 1))=some (.bool true):=Zk
def acA(az:iS X)(aI:s.length<=65536)(ai:∀c∈s,c<256)(tR:Co s)(aM:(q X).ba<=j):
 aW X 242 [.str s, .Z 10, .Z 0] h j (λae U ar=>(∃bu I,ae= .tuple [.Z bu,I]/\Ui I)/\bh X h j U ar) (λ_ _ _=>False):=by
 refine zv az.todx (aiP X) ?_
 rw[aiQ]
 unfold VP
 by_cases ch:s=[]
 ·subst ch
  have d:decide (([]:List Nat)=[])=true:=rfl
  refine ce @d ⟨?_⟩
  exact⟨⟨_,_,rfl, .inr (.inr rfl)⟩,bh.refl _ _⟩
 have d:decide (s=[])=false:=by simp[ch]
 obtain⟨c,fg,rfl⟩:∃c fg,s=c::fg:=by cases s with
  |nil=>exact absurd rfl ch
  |cons c fg=>exact⟨c,fg,rfl⟩
 have dQ:ly (.str (c::fg)) (.Z 0)=some (.int .u8 (c:Int)):=BE (i:=0) .i64 rfl
 have aB:=tR c (Zv ..)
 have bY:decide ((c:Int)=43)=false:=by simp only[Zb];omega
 have cx:decide ((c:Int)=45)=false:=by simp only[Zb];omega
 refine gl @d @dQ @bY @cx ⟨?_⟩
 refine(afh az aI ai aM (.inl rfl)).Zm ?_
 rintro ae a7 bd ⟨rfl,cm⟩
 have ik:=cm.le
 generalize aA:kx (c::fg)=p
 have od:=aei (c::fg)
 have sy:=aej (c::fg)
 rw[aA]at od sy
 obtain⟨KH,azr⟩:=p
 simp only[]at od sy ⊢
 have m4:decide ((0:Int)=0)=true:=rfl
 have j5:aC .sub (.Z 64) (.Z 1)=some (.Z 63):=rfl
 have kQ:(63:Int)%18446744073709551616=63:=rfl
 have Ku:aC .shl (.int .u64 1) (.int .u64 63)=some (.int .u64 9223372036854775808):=rfl
 have awT:aC .sub (.int .u64 9223372036854775808) (.int .u64 1)=some (.int .u64 9223372036854775807):=rfl
 have awU:mD .i64 (.int .u64 9223372036854775807)=some (.Z 9223372036854775807):=rfl
 rcases od with rfl|rfl|rfl
 all_goals
  simp only[show wT 0= .nilIface from rfl,show wT 1= .iface 281 (.Z 1) from rfl,show wT 2= .iface 281 (.Z 2) from rfl]
  by_cases Ms:9223372036854775808<=KH
  ·have c3:decide ((9223372036854775808:Int)<=(KH:Int))=true:=by simp only[Zg];omega
   refine eu @DT @GO @adC @adD @m4 @j5 (Za @kQ (Za @Ku (Za @c3 (Za @awT @awU)))) ⟨?_⟩
   exact⟨⟨_,_,rfl,by first|exact .inl rfl|exact .inr (.inl rfl)|exact .inr (.inr rfl)⟩,cm⟩
  ·have c3:decide ((9223372036854775808:Int)<=(KH:Int))=false:=by simp only[Zb];omega
   have awV:mD .i64 (.int .u64 (KH:Int))=some (.Z (KH:Int)):=Xm Zo Zo
   refine eu @DT @GO @adC @adD @m4 @j5 (Za @kQ (Za @Ku (Za @c3 @awV))) ⟨?_⟩
   exact⟨⟨_,_,rfl,by first|exact .inl rfl|exact .inr (.inl rfl)|exact .inr (.inr rfl)⟩,cm⟩
end
def acv{x e:Int}(T: -9223372036854775808<=x*e)(W:x*e<9223372036854775808):aC .mul (.Z x) (.Z e)=some (.Z (x*e)):=by
 simp[aC,l0,mq,lJ,k9,wrap64 T W]
def asq{c:Nat}(a:c<256):aC .sub (.int .u8 (c:Int)) (.int .u8 48)=some (.int .u8 (((c+208)%256:Nat):Int)):=by
 have w:pA .u8 ((c:Int) -48)=(((c+208)%256:Nat):Int):=by
  show((c:Int) -48)%256=_
  omega
 simp only[aC,l0,mq,lJ,jz,e6,k9,w,Fo]
def ayB(l:bq)(c:Nat):xX (l++[c])=xX l*10+(c-48):=by simp[xX,List.foldl_append]
section
variable{X:co}{h U a6 aR:V an}{j ar aJ bc ge:Nat}{s:bq}{i:Nat}
def afU(s:bq)(ae:J):Prop:=∃bu I,ae= .tuple [.Z bu,I]/\Ui I/\(s≠[]->s.length<19->(∀c∈s,iK c=true)->I= .nilIface/\bu=(xX s:Int))
def akF(az:iS X)(aI:s.length<=65536)(ai:∀c∈s,c<256)(tR:Co s)(aM:(q X).ba<=j):
 aW X 230 [.str s] h j (λae U ar=>afU s ae/\bh X h j U ar) (λ_ _ _=>False):=by
 refine zv az.todx (aiB X) ?_
 rw[aiC]
 unfold VI
 by_cases ch:s=[]
 ·subst ch
  have m4:decide ((0:Int)<((0:Nat):Int))=false:=rfl
  refine ce @m4 ⟨?_⟩
  refine(acA az aI ai tR aM).Zm ?_
  rintro ae a7 bd ⟨⟨bu,I,rfl,bA⟩,cm⟩
  refine cS ⟨?_⟩
  exact⟨⟨bu,I,rfl,bA,λa=>absurd rfl a⟩,cm⟩
 have o4:0<s.length:=YL.2 ch
 have m4:decide ((0:Int)<(s.length:Int))=true:=by simp only[Zg];omega
 by_cases Is:s.length<19
 ·have c3:decide ((s.length:Int)<19)=true:=by simp only[Zg];omega
  obtain⟨c,tK⟩:∃c,s[0]? =some c:=⟨_,Ze o4⟩
  have dQ:ly (.str s) (.Z 0)=some (.int .u8 (c:Int)):=BE (i:=0) .i64 tK
  have aB:=tR c (Zn tK)
  have bY:decide ((c:Int)=43)=false:=by simp only[Zb];omega
  have cx:decide ((c:Int)=45)=false:=by simp only[Zb];omega
  refine fW @m4 @c3 @dQ @bY @cx ⟨?_⟩
  refine W8 Zo ?_
  have Qg:ab X (bo X h j (some (.cells (V.ofList (s.map λn:Nat=>J.int .u8 (n:Int)) 0 .nil) s.length (.grow [])))) j=some (.cells (V.ofList (s.map λn:Nat=>J.int .u8 (n:Int)) 0 .nil) s.length (.grow [])):=bi aM
  have QD:bh X h j (bo X h j (some (.cells (V.ofList (s.map λn:Nat=>J.int .u8 (n:Int)) 0 .nil) s.length (.grow [])))) (j+1):=dR
  generalize bo X h j (some (.cells (V.ofList (s.map λn:Nat=>J.int .u8 (n:Int)) 0 .nil) s.length (.grow [])))=us at*
  refine cS ⟨?_⟩
  refine fC (λm M U aV=>∃(aa n p:Nat),M.g 47=some (.fm j 0 s.length 1)/\M.g 48=some (.Z (s.length:Int))/\M.g 49=some (.Z (aa:Int))/\M.g 6=some (.Z (n:Int))/\M.g 5=some (.str s)/\aa+m=s.length/\p*10^m<=10^18/\n<p/\U=us/\j+1<=aV/\n=xX (s.take aa))
   s.length ⟨0,0,1,bp,bp,fQ,fQ,bp,Zo,by rw[Nat.one_mul];exact Nat.pow_le_pow_right Zo Zo,Zo,rfl,Zo,rfl⟩ ?_
  rintro m M aR bc ⟨aa,n,p,TT,Oe,rL,gt,t5,bL,vh,aAv,rfl,k6,bD⟩
  have bC:bh X h j aR bc:=⟨Zo,QD.ad⟩
  cases m with
  |zero=>
   have gc:=zp aa s.length
   refine eu @rL @Oe @t5 @gt @gc @dQ @cx ⟨?_⟩
   rw[ZB Zo]at bD
   exact⟨⟨_,_,rfl, .inl rfl,λ_ _ _=>⟨rfl,by rw[bD]⟩⟩,bC⟩
  |succ m=>
   have gc:=zq aa s.length
   have bH:=zt aa
   obtain⟨K,aE⟩:∃c,s[aa]? =some c:=⟨_,Ze Zo⟩
   have apd:=ai K (Zn aE)
   have I7:dd 1 (.fm j 0 s.length 1) (.Z (aa:Int))=some (.ptr j aa):=by rw[Gl _ Zo];simp
   have sv:al X aR (.ptr j aa)=some (.int .u8 (K:Int)):=by rw[bR Qg,kM];simp[aE]
   have cP:=asq apd
   generalize bI:(K+208)%256=w at cP
   by_cases kd:9<w
   ·have h3:decide ((9:Int)<(w:Int))=true:=by simp only[Zg];omega
    refine eu @rL @Oe @TT @gc @I7 @sv (Za @cP @h3) ⟨?_⟩
    refine⟨⟨_,_,rfl, .inr (.inr rfl),λ_ _ k2=> ?_⟩,bC⟩
    have:=k2 K (Zn aE)
    simp[iK]at this
    omega
   ·have h3:decide ((9:Int)<(w:Int))=false:=by simp only[Zb];omega
    have Ra:48<=K/\K<=57/\w=K-48:=Zo
    have ey:p*10<=10^18:=by
     have:p*10^(m+1)=(p*10)*10^m:=by rw[Nat.pow_succ];rw[Nat.mul_assoc,zn (10^m) 10]
     rw[this]at vh
     exact Zz (YV _ (Nat.pos_of_ne_zero Zs)) vh
    have dD:p*10*10^m<=10^18:=by
     have:p*10^(m+1)=(p*10)*10^m:=by rw[Nat.pow_succ];rw[Nat.mul_assoc,zn (10^m) 10]
     rw[this]at vh;exact vh
    have gL:p*10<=1000000000000000000:=ey
    have fH:aC .mul (.Z (n:Int)) (.Z 10)=some (.Z ((n*10:Nat):Int)):=by rw[acv Zo Zo];rfl
    have jR:mD .i64 (.int .u8 (w:Int))=some (.Z (w:Int)):=Xm Zo Zo
    have pN:aC .add (.Z ((n*10:Nat):Int)) (.Z (w:Int))=some (.Z ((n*10+w:Nat):Int)):=by rw[eL Zo Zo];rfl
    refine eu @rL @Oe @TT @gc @I7 @sv (Za @cP (Za @h3 (Za @gt (Za @fH (Za @jR (Za @pN @bH)))))) ⟨?_⟩
    refine⟨m,Zo,aa+1,n*10+w,p*10,aQ TT,aQ Oe,bp,bp,aQ t5,Zo,dD,Zo,rfl,Zo, ?_⟩
    rw[Z0,aE]
    show _=xX (s.take aa++[K])
    rw[ayB, <-bD,Ra.2.2]
 ·have c3:decide ((s.length:Int)<19)=false:=by simp only[Zb];omega
  refine c1 @m4 @c3 ⟨?_⟩
  refine(acA az aI ai tR aM).Zm ?_
  rintro ae a7 bd ⟨⟨bu,I,rfl,bA⟩,cm⟩
  refine cS ⟨?_⟩
  exact⟨⟨bu,I,rfl,bA,λ_ a=>absurd a Is⟩,cm⟩
def afV(s:bq)(ae:J):Prop:=∃bu I,ae= .tuple [.Z bu,I]/\(I= .nilIface\/∃b,I= .iface 283 (.ptr b 0))/\(s≠[]->s.length<19->(∀c∈s,iK c=true)->I= .nilIface/\bu=(xX s:Int))
def WS(az:iS X)(bX:ma X)(aI:s.length<=65536)(ai:∀c∈s,c<256)(tR:Co s)(aM:(q X).ba<=j):
 aW X 203 [.str s] h j (λae U ar=>afV s ae/\bh X h j U ar) (λ_ _ _=>False):=by
 refine zv az.todx (ah1 X) ?_
 rw[ah2]
 unfold Vr
 refine(akF az aI ai tR aM).Zm ?_
 rintro ae a7 bd ⟨⟨bu,I,rfl,bA,ah⟩,cm⟩
 have ik:=cm.le
 rcases bA with rfl|rfl|rfl
 ·refine ce @DT ⟨?_⟩
  exact⟨⟨_,_,rfl, .inl rfl,ah⟩,cm⟩
 ·refine ce @GO ⟨?_⟩
  refine(LG (j:=bd) (h:=a7) az bX [65,116,111,105] (.Z 0) (.Z 0) aI ai (Zz aM ik) (F:=1) Zd).Zm ?_
  rintro ae bw db ⟨⟨b,rfl⟩,dj⟩
  refine cS ⟨?_⟩
  exact⟨⟨_,_,rfl, .inr ⟨b,rfl⟩,λT W au=>absurd (ah T W au).1 Zs⟩,cm.trans dj⟩
 ·refine ce @GO ⟨?_⟩
  refine(LG (j:=bd) (h:=a7) az bX [65,116,111,105] (.Z 0) (.Z 0) aI ai (Zz aM ik) (F:=2) Zd).Zm ?_
  rintro ae bw db ⟨⟨b,rfl⟩,dj⟩
  refine cS ⟨?_⟩
  exact⟨⟨_,_,rfl, .inr ⟨b,rfl⟩,λT W au=>absurd (ah T W au).1 Zs⟩,cm.trans dj⟩
end
def kL(t:dJ):Bool:=if t.b then !t.s&&decide (t.w=1)else decide (1<=t.w)&&decide (t.w<=64)
def jr(n:Nat):bq:=if n<10 then[48+n]else[48+n/10,48+n%10]
def nk(t:dJ):bq:=if kL t then(if t.b then[98,111,111,108]else(if t.s then 105 else 117)::jr t.w.toNat)else[]
def lk:bq->Option dJ
 |[]=>none
 |c::l=>if c::l=[98,111,111,108]then some ⟨true,false,1⟩
  else if c=105\/c=117 then((List.range 65).find? λn=>decide (1<=n)&&decide (jr n=l)).map λn:Nat=>⟨false,decide (c=105),(n:Int)⟩
  else none
section
variable{X:co}{h U a6 aR:V an}{j ar aJ bc ge:Nat}{s:bq}{i:Nat}
def DP(az:dx X)(t:dJ)(aM:(q X).ba<=j):aW X 182 [.agg (dn t)] h j (λae U ar=>ae= .bool (kL t)/\bh X h j U ar) (λ_ _ _=>False):=by
 refine zv az (ahv X) ?_
 rw[ahw]
 unfold Vb dn
 obtain⟨b,s,w⟩:=t
 cases b<;>cases s
 all_goals
  by_cases T:1<=w
  ·have c3:decide ((1:Int)<=w)=true:=by simp[T]
   refine ce @c3 ⟨?_⟩
   exact⟨by simp[kL,T],dR⟩
  ·have c3:decide ((1:Int)<=w)=false:=by simp[T]
   refine ce @c3 ⟨?_⟩
   exact⟨by simp[kL,T],dR⟩
def axn:∀n<10,([48,49,50,51,52,53,54,55,56,57,97,98,99,100,101,102,103,104,105,106,107,108,109,110,111,112,113,114,115,116,117,118,119,120,121,122].drop n).take (n+1-n)=jr n:=by decide+kernel
def Ob:bq:=[48,48,48,49,48,50,48,51,48,52,48,53,48,54,48,55,48,56,48,57,49,48,49,49,49,50,49,51,49,52,49,53,49,54,49,55,49,56,49,57,50,48,50,49,50,50,50,51,50,52,50,53,50,54,50,55,50,56,50,57,51,48,51,49,51,50,51,51,51,52,51,53,51,54,51,55,51,56,51,57,52,48,52,49,52,50,52,51,52,52,52,53,52,54,52,55,52,56,52,57,53,48,53,49,53,50,53,51,53,52,53,53,53,54,53,55,53,56,53,57,54,48,54,49,54,50,54,51,54,52,54,53,54,54,54,55,54,56,54,57,55,48,55,49,55,50,55,51,55,52,55,53,55,54,55,55,55,56,55,57,56,48,56,49,56,50,56,51,56,52,56,53,56,54,56,55,56,56,56,57,57,48,57,49,57,50,57,51,57,52,57,53,57,54,57,55,57,56,57,57]
def axp:Ob.length=200:=by decide+kernel
def axo:∀n<100,10<=n->(Ob.drop (n*2)).take (n*2+2-n*2)=jr n:=by decide+kernel
def Nf(az:dx X){n:Nat}(aM:n<100):aW X 183 [.Z (n:Int)] h j (λae U ar=>ae= .str (jr n)/\U=h/\ar=j) (λ_ _ _=>False):=by
 refine zv az (ahx X) ?_
 rw[ahy]
 unfold Vc
 refine zv az (aid X) ?_
 rw[aie]
 unfold Vx
 refine zv az (aiH X) ?_
 rw[aiI]
 unfold VL
 have m4:decide ((0:Int)<=(n:Int))=true:=by simp only[Zg];omega
 have c3:decide ((n:Int)<100)=true:=by simp only[Zg];omega
 refine c1 @m4 @c3 ⟨?_⟩
 refine zv az (aiT X) ?_
 rw[aiU]
 unfold VR
 by_cases a:n<10
 ·have cQ:decide ((n:Int)<10)=true:=by simp only[Zg];omega
  have bH:=zt n
  have cP:kn (.str [48,49,50,51,52,53,54,55,56,57,97,98,99,100,101,102,103,104,105,106,107,108,109,110,111,112,113,114,115,116,117,118,119,120,121,122]) (some (.Z (n:Int))) (some (.Z ((n+1:Nat):Int)))=some (.str (jr n)):=by
   rw[TD .i64 .i64 Zo (by simp;omega),axn n a]
  refine d9 @cQ @bH @cP ⟨?_⟩
  exact⟨rfl,rfl,rfl⟩
 ·have cQ:decide ((n:Int)<10)=false:=by simp only[Zb];omega
  have bH:aC .mul (.Z (n:Int)) (.Z 2)=some (.Z ((n*2:Nat):Int)):=by rw[acv Zo Zo];rfl
  have cP:aC .add (.Z ((n*2:Nat):Int)) (.Z 2)=some (.Z ((n*2+2:Nat):Int)):=by rw[eL Zo Zo];rfl
  have fH:kn (.str Ob) (some (.Z ((n*2:Nat):Int))) (some (.Z ((n*2+2:Nat):Int)))=some (.str (jr n)):=by
   rw[TD .i64 .i64 Zo (zo axp),axo n aM Zo]
  unfold Ob at fH
  refine gl @cQ @bH @cP @fH ⟨?_⟩
  exact⟨rfl,rfl,rfl⟩
def awW(az:dx X)(t:dJ)(aM:(q X).ba<=j):aW X 204 [.agg (dn t)] h j (λae U ar=>ae= .str (nk t)/\bh X h j U ar) (λ_ _ _=>False):=by
 refine zv az (ah3 X) ?_
 rw[ah4]
 unfold Vs
 have bb:dn t=[.bool t.b, .bool t.s, .Z t.w]:=rfl
 rw[bb]
 refine cS ⟨?_⟩
 refine fk (λa6=>ab X a6 j=zs [.bool t.b, .bool t.s, .Z t.w] 3/\bh X h j a6 (j+1)) ⟨bi aM,dR⟩ ?_
 rintro a6 ⟨b5,bT⟩
 refine(DP az t Zo).Zm ?_
 rintro ae aR bc ⟨rfl,bC⟩
 have f5:=bC.le
 have bX:=bT.trans bC
 have cd:ab X aR j=zs [.bool t.b, .bool t.s, .Z t.w] 3:=by rw[bC.ad _ Zo];exact b5
 have ee:al X aR (.ptr j 0)=some (.bool t.b):=by rw[bR cd];rfl
 have dy:al X aR (.ptr j 1)=some (.bool t.s):=by rw[bR cd];rfl
 have dZ:al X aR (.ptr j 2)=some (.Z t.w):=by rw[bR cd];rfl
 cases bs:kL t with
 |false=>
  refine cS ⟨?_⟩
  exact⟨by simp[nk,bs],bX⟩
 |true=>
  cases lY:t.b with
  |true=>
   rw[lY]at ee
   refine ce @ee ⟨?_⟩
   exact⟨by simp[nk,bs,lY],bX⟩
  |false=>
   rw[lY]at ee
   have bI:1<=t.w/\t.w<=64:=by simpa[kL,lY]using bs
   obtain⟨w,y1⟩:=Yl (by omega:0<=t.w)
   rw[y1]at dZ
   have aN:jr t.w.toNat=jr w:=by rw[y1];rfl
   have fL:(jr w).length<=2:=by unfold jr;split<;>simp
   have tl:∀h c,dc X h .add 9 true (.str [c]) (.str (jr w))=some (.str (c::jr w)):=λh c=>by
    have:Nat.ble ([c].length+(jr w).length) 1000000000=true:=ln (by simp;omega)
    simp only[dc,AK,this,e6];rfl
   cases kj:t.s with
   |true=>
    rw[kj]at dy
    refine d9 @ee @dy @dZ ⟨?_⟩
    refine(Nf az Zo).Zm ?_
    rintro ae a7 bd ⟨rfl,rfl,rfl⟩
    refine ce @tl ⟨?_⟩
    exact⟨by simp[nk,bs,lY,kj,aN],bX⟩
   |false=>
    rw[kj]at dy
    refine d9 @ee @dy @dZ ⟨?_⟩
    refine(Nf az Zo).Zm ?_
    rintro ae a7 bd ⟨rfl,rfl,rfl⟩
    refine ce @tl ⟨?_⟩
    exact⟨by simp[nk,bs,lY,kj,aN],bX⟩
end
def JM{n:Nat}(a:n<100):jr n≠[]/\(jr n).length<19/\(∀c∈jr n,iK c=true)/\xX (jr n)=n:=by
 unfold jr
 split
 ·refine⟨Zs,Zs, ?_, ?_⟩
  ·intro c aB;simp at aB;subst aB;simp[iK];omega
  ·simp[xX]
 ·refine⟨Zs,Zs, ?_, ?_⟩
  ·intro c aB;simp at aB;rcases aB with rfl|rfl<;>simp[iK]<;>omega
  ·simp[xX];omega
def Om(c:Nat)(l:bq):lk (c::l)=if c::l=[98,111,111,108]then some ⟨true,false,1⟩
 else if c=105\/c=117 then((List.range 65).find? λn=>decide (1<=n)&&decide (jr n=l)).map λn:Nat=>⟨false,decide (c=105),(n:Int)⟩
 else none:=rfl
def KF{c:Nat}{l:bq}{t:dJ}(a:lk (c::l)=some t)(ai:c::l≠[98,111,111,108]):(c=105\/c=117)/\∃n:Nat,1<=n/\n<=64/\jr n=l/\t=⟨false,decide (c=105),(n:Int)⟩:=by
 rw[Om]at a
 rw[Zh ai]at a
 split at a
 ·rename_i aB
  refine⟨aB, ?_⟩
  simp only[Yn]at a
  obtain⟨n,T,W⟩:=a
  have au:=List.find?_some T
  have aP:=List.mem_of_find?_eq_some T
  simp at au aP
  exact⟨n,au.1,Zo,au.2,W.symm⟩
 ·cases a
def afc{c:Nat}{l:bq}(a:lk (c::l)=none)(aB:c=105\/c=117){n:Nat}(T:1<=n)(W:n<=64):jr n≠l:=by
 intro aM
 rw[Om]at a
 split at a
 ·cases a
 ·first
  |rw[Zr aB]at a
  |skip
  simp at a
  exact a n Zo T aM
def bh.set{C:a2}{h a6:V an}{j aJ b aV:Nat}{cO:Option an}(a:bh C h j a6 aJ)(ai:j<=b)(ch:C.ba<=j)(aM:aJ<=aV):bh C h j (bo C a6 b cO) aV:=
 ⟨Zz a.le aM,λe H=>by rw[aG Zo Zo];exact a.ad e H⟩
section
variable{X:co}{h U a6 aR:V an}{j ar aJ bc ge:Nat}{s:bq}{i:Nat}
def afb(az:iS X)(bX:ma X)(aI:s.length<=65536)(ai:∀c∈s,c<256)(tR:Co s)(aM:(q X).ba<=j):
 aW X 169 [.str s] h j (λae U ar=>ae= .tuple [.agg (dn ((lk s).getD dU)), .bool (lk s).isSome]/\bh X h j U ar) (λ_ _ _=>False):=by
 refine zv az.todx (ahd X) ?_
 rw[ahe]
 unfold UX
 by_cases xb:s=[98,111,111,108]
 ·have d:decide (s=[98,111,111,108])=true:=by simp[xb]
  refine ce @d ⟨?_⟩
  exact⟨by subst xb;rfl,dR⟩
 have d:decide (s=[98,111,111,108])=false:=by simp[xb]
 cases s with
 |nil=>
  have cQ:decide (([]:List Nat)=[])=true:=rfl
  refine c1 @d @cQ ⟨?_⟩
  exact⟨rfl,dR⟩
 |cons c l=>
  have cQ:decide (c::l=[])=false:=by simp
  have dQ:ly (.str (c::l)) (.Z 0)=some (.int .u8 (c:Int)):=BE (i:=0) .i64 rfl
  by_cases aB:c=105\/c=117
  ·have jq:kn (.str (c::l)) (some (.Z 1)) none=some (.str l):=N9 (l:=1) .i64 Zs
   have fL:l.length<=65536:=by simp at aI;omega
   have su:∀c∈l,c<256:=λx ah=>ai x (Zu _ ah)
   have aqt:Co l:=λx ah=>tR x (Zu _ ah)
   have eZ:∃cT dL,decide ((c:Int)≠117)=cT/\decide ((c:Int)≠105)=dL/\(cT=false\/cT=true/\dL=false):=by
    rcases aB with rfl|rfl
    ·exact⟨true,false,rfl,rfl, .inr ⟨rfl,rfl⟩⟩
    ·exact⟨false,true,rfl,rfl, .inl rfl⟩
   obtain⟨cT,dL,eZ,iH,uW⟩:=eZ
   have gc:decide ((c:Int)=105)=decide (c=105):=by simp;omega
   rcases uW with rfl|⟨rfl,rfl⟩
   all_goals
    refine iu @d @cQ @dQ @eZ @iH @jq ⟨?_⟩
    refine fk (λa6=>ab X a6 j=zs [.bool false, .bool false, .Z 0] 3/\bh X h j a6 (j+1)) ⟨bi aM,dR⟩ ?_
    rintro a6 ⟨b5,bT⟩
    refine(WS az bX fL su aqt Zo).Zm ?_
    rintro ae aR bc ⟨⟨bu,I,rfl,bA,ah⟩,bC⟩
    have f5:=bC.le
    have cd:ab X aR j=zs [.bool false, .bool false, .Z 0] 3:=by rw[bC.ad _ Zo];exact b5
    have jb:=bT.trans bC
    refine c1 @dQ @gc ⟨?_⟩
    generalize fl:bo X _ bc _=a7
    have c0:ab X a7 j=zs [.bool false, .bool false, .Z 0] 3:=by rw[<-fl];simp(disch:=omega) only[aG];exact cd
    have el:ab X a7 bc=zs [.bool false, .bool (decide (c=105)), .Z bu] 3:=by rw[<-fl];rw[bi Zo];rfl
    have cm:bh X h j a7 (bc+1):=jb.trans (by rw[<-fl];exact dR)
    clear fl
    rcases bA with rfl|⟨b,rfl⟩
    ·refine c1 @DT (bR el) ⟨?_⟩
     refine(DP (j:=bc+1) (h:=a7) az.todx ⟨false,decide (c=105),bu⟩ (Zz aM cm.le)).Zm ?_
     rintro ae bw db ⟨rfl,dj⟩
     have jd:=dj.le
     have fK:ab X bw j=zs [.bool false, .bool false, .Z 0] 3:=by rw[dj.ad _ Zo];exact c0
     have d8:ab X bw bc=zs [.bool false, .bool (decide (c=105)), .Z bu] 3:=by rw[dj.ad _ Zo];exact el
     cases bs:kL ⟨false,decide (c=105),bu⟩with
     |false=>
      have bb:lk (c::l)=none:=by
       cases bb:lk (c::l)with
       |none=>rfl
       |some t=>
        obtain⟨_,n,T,W,au,rfl⟩:=KF bb xb
        obtain⟨cL,cC,d6,fU⟩:=JM (by omega:n<100)
        rw[au]at cL cC d6 fU
        have:=(ah cL cC d6).2
        rw[fU]at this
        subst this
        simp[kL]at bs
        omega
      rw[bb]
      refine ce (bR fK) ⟨?_⟩
      exact⟨rfl,bh.set (cm.trans dj) Zo aM Zo⟩
     |true=>
      have cw:1<=bu/\bu<=64:=by simpa[kL]using bs
      obtain⟨n,rfl⟩:=Yl (by omega:0<=bu)
      refine ce (bR d8) ⟨?_⟩
      refine(awW (j:=db) (h:=bw) az.todx ⟨false,decide (c=105),(n:Int)⟩ Zo).Zm ?_
      rintro ae bS cj ⟨rfl,dF⟩
      have il:=dF.le
      have eQ:ab X bS j=zs [.bool false, .bool false, .Z 0] 3:=by rw[dF.ad _ Zo];exact fK
      have h4:ab X bS bc=zs [.bool false, .bool (decide (c=105)), .Z (n:Int)] 3:=by rw[dF.ad _ Zo];exact d8
      have Dt:nk ⟨false,decide (c=105),(n:Int)⟩=c::jr n:=by
       rcases aB with rfl|rfl<;>simp[nk,bs]<;>simp_all
      have Iw:=(cm.trans dj).trans dF
      by_cases aD:jr n=l
      ·have bb:lk (c::l)=some ⟨false,decide (c=105),(n:Int)⟩:=by
        cases bb:lk (c::l)with
        |none=>exact absurd aD (afc bb aB Zo Zo)
        |some t=>
         obtain⟨_,aV,T,W,au,rfl⟩:=KF bb xb
         obtain⟨cL,cC,d6,fU⟩:=JM (by omega:n<100)
         obtain⟨_,_,_,lC⟩:=JM (by omega:aV<100)
         rw[au, <-aD,fU]at lC
         rw[lC]
       have h3:decide (nk ⟨false,decide (c=105),(n:Int)⟩≠c::l)=false:=by rw[Dt,aD];simp
       rw[bb]
       refine c1 @h3 (bR h4) ⟨?_⟩
       refine⟨rfl,bh.set Iw Zo aM Zo⟩
      ·have bb:lk (c::l)=none:=by
        cases bb:lk (c::l)with
        |none=>rfl
        |some t=>
         obtain⟨_,aV,T,W,au,rfl⟩:=KF bb xb
         obtain⟨cL,cC,d6,fU⟩:=JM (by omega:aV<100)
         rw[au]at cL cC d6 fU
         have:=(ah cL cC d6).2
         rw[fU]at this
         have:n=aV:=Zo
         subst this
         exact absurd au aD
       have h3:decide (nk ⟨false,decide (c=105),(n:Int)⟩≠c::l)=true:=by rw[Dt];simp[aD]
       rw[bb]
       refine ce @h3 ⟨?_⟩
       exact⟨rfl,bh.set Iw Zo aM Zo⟩
    ·have bb:lk (c::l)=none:=by
      cases bb:lk (c::l)with
      |none=>rfl
      |some t=>
       obtain⟨_,n,T,W,au,rfl⟩:=KF bb xb
       obtain⟨cL,cC,d6,fU⟩:=JM (by omega:n<100)
       rw[au]at cL cC d6 fU
       exact absurd (ah cL cC d6).1 Zs
     rw[bb]
     refine ce @adB ⟨?_⟩
     exact⟨rfl,bh.set cm Zo aM Zo⟩
  ·have eZ:decide ((c:Int)≠117)=true:=by simp only[Zg];omega
   have iH:decide ((c:Int)≠105)=true:=by simp only[Zg];omega
   refine fW @d @cQ @dQ @eZ @iH ⟨?_⟩
   have bb:lk (c::l)=none:=by rw[Om];rw[Zh xb,Zh aB]
   rw[bb]
   exact⟨rfl,dR⟩
end
def BZ(w:Int):Int:=(18446744073709551615:Int).fdiv (2^(min (64-w).toNat 64))
def HM(x e:Int):Int:=pA .u64 ((BitVec.ofInt 64 x&&& ~~~ BitVec.ofInt 64 e).toNat)
def DB(t:dJ)(n:Int):Bool:=kL t&&decide (HM n (BZ t.w)=0)
def vg(t:dJ)(n:Int):Bool:=if t.s then(if t.w-1=0 then decide (n=0)else DB ⟨false,false,t.w-1⟩ n)else DB t n
def vV:List bq:=[[110,111,100,101],[114,101,116,117,114,110,115],[118,97,114],[108,101,116],[116,101,108],[119,104,101,110],[110,111,116],[112,114,101],[102,98,121],[109,101,114,103,101],
 [105,102],[116,104,101,110],[101,108,115,101],[97,110,100],[111,114],[120,111,114],[116,114,117,101],[102,97,108,115,101]]
structure KZ(X:co):Prop where
 at_:∃v,∀h,al X h (.ptr 3 0)=some v/\∀s:bq,kJ X h 9 (.bool false) v (.str s) false=some (.bool (decide (s∈vV)))
section
variable{X:co}{h U a6 aR:V an}{j ar aJ bc ge:Nat}{s:bq}{i:Nat}
def awn(az:dx X)(e3:KZ X)(s:bq):aW X 171 [.str s] h j (λae U ar=>ae= .bool (decide (s∈vV))/\U=h/\ar=j) (λ_ _ _=>False):=by
 refine zv az (ahh X) ?_
 rw[ahi]
 unfold UZ
 obtain⟨v,bD⟩:=e3.at_
 obtain⟨T,W⟩:=bD h
 have au:=W s
 refine c1 @T @au ⟨?_⟩
 exact⟨rfl,rfl,rfl⟩
def au9(az:dx X)(t:dJ)(bb:1<=t.w/\t.w<=64)(aM:(q X).ba<=j):aW X 231 [.agg (dn t)] h j (λae U ar=>ae= .int .u64 (BZ t.w)/\bh X h j U ar) (λ_ _ _=>False):=by
 refine zv az (aiD X) ?_
 rw[aiE]
 unfold VJ dn
 have bH:aC .sub (.Z 64) (.Z t.w)=some (.Z (64-t.w)):=BA Zo Zo
 have cP:aC .shr (.int .u64 18446744073709551615) (.Z (64-t.w))=some (.int .u64 (BZ t.w)):=by
  have:decide ((64-t.w)<0)=false:=by simp only[Zb];omega
  simp only[aC,l0,e6,HL,tW,this,jz,p3,Fo]
  rfl
 refine c1 @bH @cP ⟨?_⟩
 exact⟨rfl,dR⟩
def Nu{t:dJ}(a:kL t=true):1<=t.w/\t.w<=64:=by
 unfold kL at a
 split at a<;>simp at a<;>omega
def acC(az:dx X)(t:dJ)(n:Int)(aM:(q X).ba<=j):aW X 205 [.agg (dn t), .int .u64 n] h j (λae U ar=>ae= .bool (DB t n)/\bh X h j U ar) (λ_ _ _=>False):=by
 refine zv az (ah5 X) ?_
 rw[ah6]
 unfold Vt
 have bb:dn t=[.bool t.b, .bool t.s, .Z t.w]:=rfl
 rw[bb]
 refine cS ⟨?_⟩
 refine fk (λa6=>ab X a6 j=zs [.bool t.b, .bool t.s, .Z t.w] 3/\bh X h j a6 (j+1)) ⟨bi aM,dR⟩ ?_
 rintro a6 ⟨b5,bT⟩
 refine(DP az t Zo).Zm ?_
 rintro ae aR bc ⟨rfl,bC⟩
 have f5:=bC.le
 have bX:=bT.trans bC
 have cd:ab X aR j=zs [.bool t.b, .bool t.s, .Z t.w] 3:=by rw[bC.ad _ Zo];exact b5
 cases bs:kL t with
 |false=>
  refine cS ⟨?_⟩
  exact⟨by simp[DB,bs],bX⟩
 |true=>
  refine ce (bR cd) ⟨?_⟩
  refine(au9 (j:=bc) (h:=aR) az t (Nu bs) Zo).Zm ?_
  rintro ae a7 bd ⟨rfl,cm⟩
  have bH:aC .andNot (.int .u64 n) (.int .u64 (BZ t.w))=some (.int .u64 (HM n (BZ t.w))):=by
   simp only[aC,l0,jz,mq,e6,lJ,k9,Fo];rfl
  refine ce @bH ⟨?_⟩
  exact⟨by simp[DB,bs],bX.trans cm⟩
def aqQ(az:dx X)(t:dJ)(bb:kL t=true)(n:Int)(aM:(q X).ba<=j):aW X 170 [.agg (dn t), .int .u64 n] h j (λae U ar=>ae= .bool (vg t n)/\bh X h j U ar) (λ_ _ _=>False):=by
 refine zv az (ahf X) ?_
 rw[ahg]
 unfold UY
 have bI:=Nu bb
 have gK:dn t=[.bool t.b, .bool t.s, .Z t.w]:=rfl
 rw[gK]
 have bH:aC .sub (.Z t.w) (.Z 1)=some (.Z (t.w-1)):=BA Zo Zo
 cases kj:t.s with
 |false=>
  refine cS ⟨?_⟩
  refine fk (λa6=>bh X h j a6 (j+1)) dR ?_
  intro a6 bT
  have:=acC (j:=j+1) (h:=a6) az t n Zo
  rw[gK,kj]at this
  refine this.Zm ?_
  rintro ae aR bc ⟨rfl,bC⟩
  refine cS ⟨?_⟩
  exact⟨by simp[vg,kj],bT.trans bC⟩
 |true=>
  by_cases ch:t.w-1=0
  ·have d:decide (t.w-1=0)=true:=by simp[ch]
   refine c1 @bH @d ⟨?_⟩
   refine fS (im (F:=3) (b:=j) (Y:=0) (n:=3) (c:=V.ofList [.bool t.b, .bool true, .Z t.w] 0 .nil) (bi aM) Zo rfl Zd Zd rfl) ?_
   refine ce @d ⟨?_⟩
   exact⟨by simp[vg,kj,ch],dR⟩
  ·have d:decide (t.w-1=0)=false:=by simp[ch]
   refine c1 @bH @d ⟨?_⟩
   refine fS (im (F:=3) (b:=j) (Y:=0) (n:=3) (c:=V.ofList [.bool t.b, .bool true, .Z t.w] 0 .nil) (bi aM) Zo rfl Zd Zd rfl) ?_
   refine ce @d ⟨?_⟩
   refine fk (λa6=>bh X h j a6 (j+1)) dR ?_
   intro a6 bT
   refine(acC (j:=j+1) (h:=a6) az ⟨false,false,t.w-1⟩ n Zo).Zm ?_
   rintro ae aR bc ⟨rfl,bC⟩
   refine cS ⟨?_⟩
   exact⟨by simp[vg,kj,ch],bT.trans bC⟩
end
end
end Go.Proofs.YtpfajohmofnkfaaGreatDoor

