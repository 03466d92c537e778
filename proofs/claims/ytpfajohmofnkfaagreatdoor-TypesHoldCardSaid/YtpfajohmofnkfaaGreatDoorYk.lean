/- A part of the last text's proof; no condition of its own -/
import Derived.Test.YtpfajohmofnkfaaGreatDoorYj
set_option maxHeartbeats 8000000
set_option linter.all false
namespace Go.Proofs.YtpfajohmofnkfaaGreatDoor
open Go.bk
noncomputable section
variable (X : co) (h : V an) (j : Nat) (ak ay : bJ) (a0 bf ck a3 a4 a5 hv ic ir : J)
def Va(a:a2)(b c:J)(d:V an)(e:Nat)(f g:bJ):Prop:=
 E (dc a d .eql 47 true b .cy) λh=>hd h c d e (λd e i=>hd h b e i (λe i j=>kk h (λb=>iw a d [e] i j b g) i j (λd e i=>c9 h (fe .not d) e i (λd e i=>cU (λd=>aT (λb c d=>aj (b 0) λe=>E (cl e) λe=>E (a1 8 e) λe=>E (al a c e) λe=>E (dI e) λh=>aT (λ_ a b=>f (.tuple []) a b) λf=>fu (λb c d e=>aj (c 19) λh=>aj (c 18) λi=>E (aC .lss h i) λh=>aT (λc d e=>aT (λa c d=>aj (a 19) λe=>E (aC .add e (.Z 1)) λe=>b (ac a 19 e) c d) λb=>aj (c 17) λf=>aj (c 19) λh=>E (dd 1 f h) λf=>E (al a d f) λf=>aj (c 1) λh=>aW a 18 [f,h] d e (λ_ a d=>b (ac c 5 f) a d) g) λa=>aX h (a (ac c 20 h) d e) (f (ac c 20 h) d e)) (zx b 17 e 18 h 19 (.Z 0)) c d) λa=>aX d (f (.tuple []) e i) (a (ac (cZ [b,c]) 13 d) e i)) λa=>aX h (a (.bool true)) (a d)))))
def ahM:di X 18 [a0,bf] h j ak ay=Va X a0 bf h j ak ay:=Zk
def ahL:cX X 18 2=true:=Zk
def Vn(a:a2)(b:J)(c:V an)(d:Nat)(e f:bJ):Prop:=
 E (dA [(.Z 0),(.Z 0)] d) λg=>cH a c d g.1 g.2 λc d g=>aW a 40 [b] d g (λd g h=>E (aC .neq d (.Z 0)) λd=>aT (λb c d=>aj (b 0) λg=>E (cl g) λg=>E (a1 0 g) λg=>E (al a c g) λg=>E (dI g) λh=>aT (λb c d=>E (eC [(.Z 0),(.Z 0)] []) λf=>aj (b 2) λg=>E (b8 a c 2 g f) λc=>aj (b 2) λb=>E (bM a c 2 b) λa=>e a c d) λi=>fu (λb c d g=>aj (c 15) λh=>aj (c 14) λj=>E (aC .lss h j) λh=>aT (λc d g=>aT (λa c d=>aj (a 15) λe=>E (aC .add e (.Z 1)) λe=>b (ac a 15 e) c d) λb=>aj (c 15) λh=>aj (c 13) λi=>aj (c 15) λj=>E (dd 6 i j) λi=>E (bM a d 6 i) λi=>E (dA [(.str []),(.Z 0), .aU, .aU, .aU, .aU] g) λj=>cH a d g j.1 j.2 λd g j=>E (b8 a g 6 d i) λg=>aj (c 0) λi=>E (bM a g 6 d) λk=>aW a 32 [k] g j (λg j k=>cH a j k (.map k) (.map [] 0) λj k l=>E (eC [.cy,(.Z 0), .cy, .l2,(.Z 0),(.Z 0)] [(0,1,i),(1,1,h),(2,1,g),(3,1,j)]) λg=>iG a k l g λg i j=>aW a 71 [g] i j (λ_ f i=>E (cl g) λj=>E (a1 4 j) λj=>E (a1 0 j) λj=>E (al a f j) λj=>E (aC .neq j (.Z 0)) λj=>aT b λb=>aX j (E (cl g) λb=>E (a1 4 b) λb=>E (bM a f 2 b) λb=>aj (c 2) λd=>E (b8 a f 2 d b) λb=>aj (c 2) λc=>E (bM a b 2 c) λa=>e a b i) (b (zy c 4 d 3 h 5 g 34 j) f i)) f) f) λa=>aX h (a (ac c 16 h) d g) (i (ac c 16 h) d g)) (zx b 13 g 14 h 15 (.Z 0)) c d) λf=>aX d (E (eC [(.Z 0),(.Z 0)] [(0,1,(.Z 1))]) λb=>E (b8 a g 2 c b) λb=>E (bM a b 2 c) λa=>e a b h) (f (zw (cZ [b]) 2 c 8 d) g h)) f
def aig:di X 20 [a0] h j ak ay=Vn X a0 h j ak ay:=Zk
def aif:cX X 20 1=true:=Zk
def V3(a:a2)(b:J)(c:V an)(d:Nat)(e f:bJ):Prop:=
 E (dc a c .eql 23 true b .cy) λg=>hd g b c d (λc d h=>c9 g (cl c) d h (λc d h=>c9 g (a1 0 c) d h (λc d h=>c9 g (al a d c) d h (λc d h=>c9 g (dI c) d h (λc d h=>c9 g (aC .eql c (.Z 0)) d h (λc d h=>cU (λc=>hd c b d h (λd g h=>c9 c (cl d) g h (λd g h=>c9 c (a1 0 d) g h (λd g h=>c9 c (al a g d) g h (λd g h=>c9 c (dI d) g h (λd g h=>c9 c (aC .gtr d (.Z 64)) g h (λd g h=>cU (λc=>aT (λb c d=>aj (b 0) λg=>E (cl g) λg=>E (a1 0 g) λg=>E (al a c g) λg=>E (dI g) λh=>aT (λa b c=>aj (a 3) λa=>e a b c) λi=>fu (λb c d g=>aj (c 30) λh=>aj (c 29) λj=>E (aC .lss h j) λh=>aT (λc d g=>aT (λa c d=>aj (a 30) λe=>E (aC .add e (.Z 1)) λe=>b (ac a 30 e) c d) λb=>aj (c 28) λh=>aj (c 30) λi=>E (dd 6 h i) λh=>E (bM a d 6 h) λh=>E (dA [(.str []),(.Z 0), .aU, .aU, .aU, .aU] g) λi=>cH a d g i.1 i.2 λd g i=>E (b8 a g 6 d h) λg=>E (bM a g 6 d) λh=>aW a 92 [h] g i (λa f g=>aT b λb=>E (aC .eql a (.Z 1)) λh=>aT b λb=>aX h (e a f g) (E (aC .eql a (.Z 22)) λe=>aT b λb=>aX e (b (zw (zy c 5 d 6 a 36 a 37 h) 40 e 3 a) f g) (b (ac (zy c 5 d 6 a 36 a 37 h) 40 e) f g))) f) λa=>aX h (a (ac c 31 h) d g) (i (ac c 31 h) d g)) (zy b 3 (.Z 0) 28 g 29 h 30 (.Z 0)) c d) λa=>aX c (e (.Z 1) g h) (a (zw (cZ [b]) 2 (.Z 0) 24 c) g h)) λa=>aX c (a (.bool true)) (a d)))))))) λa=>aX g (a (.bool true)) (a c)))))))
def aji:di X 40 [a0] h j ak ay=V3 X a0 h j ak ay:=Zk
def ajh:cX X 40 1=true:=Zk
def aeB(a:a2)(b:bJ):gB:=λc d e=>nj a [] b c c.bg d e
def D6(a:a2)(b c:bJ):rZ:=λd e f g=>vP a [] b c d e d.bg f g
def Wb(a:a2)(b:J)(c:V an)(d:Nat)(e f:bJ):Prop:=
 iG a c d b λc d g=>eM (g+15) λh=>E (al a d c) λi=>E (cl i) λi=>E (a1 0 i) λi=>E (al a d i) λi=>E (cl i) λi=>E (a1 0 i) λi=>E (al a d i) λi=>E (al a d c) λj=>E (cl j) λj=>E (a1 1 j) λj=>E (al a d j) λj=>E (dd 6 i j) λi=>E (bM a d 6 i) λi=>E (dA [(.str []),(.Z 0), .aU, .aU, .aU, .aU] (g+13)) λj=>ld a d (g+13) j.1 j.2 λd g=>E (b8 a g 6 d i) λg=>eM (h+12) λh=>E (al a g c) λi=>E (cl i) λi=>E (a1 0 i) λi=>E (al a g i) λi=>E (a1 0 d) λj=>E (al a g j) λj=>aW a 79 [i,j] g h (λg h i=>E (cK 0 g) λj=>E (cK 1 g) λ_=>E (al a h c) λg=>E (cl g) λg=>E (a1 1 g) λg=>E (al a h g) λg=>E (aC .lss j g) λg=>aT (λb c d=>aj (b 1) λg=>E (al a c g) λg=>aj (b 2) λh=>E (bM a c 6 h) λh=>aW a 120 [g,h] c d (λ_ c d=>aj (b 2) λg=>E (a1 5 g) λg=>E (al a c g) λg=>E (dI g) λh=>aT (λb c d=>aj (b 2) λg=>E (bM a c 6 g) λg=>aW a 78 [g] c d (λc d g=>aT (λb c d=>aeB a e b c d) λh=>D9 a 103 c [85,86] (sY a (λ_ _ b _ _ c d e=>aj (c 85) λf=>E (dA [(.str []),(.Z 0),(.bool false),(.bool false),(.Z 0),(.str []),(.Z 0),(.bool false)] e) λg=>cH a d e g.1 g.2 λd e g=>aj (c 86) λh=>E (b8 a e 8 d h) λa=>b (zw c 10 f 11 d) a g) (λ_ b c _ _ d e f=>aT c λc=>eM (f+12) λf=>aj (d 10) λg=>E (aC .neq g (.Z 1)) λg=>JN g (d 1) (λb=>al a e b) e (λe h=>e0 g (cl e) h (λe h=>e0 g (a1 3 e) h (λe h=>e0 g (al a h e) h (λe h=>JN g (d 11) (λa=>a1 0 a) h (λh i=>e0 g (al a i h) i (λh i=>e0 g (kJ a i 9 (.Z 0) e h false) i (λe h=>e0 g (aC .eql e (.Z 0)) h (λe h=>cU (λe=>aT c λc=>aX e (aj (d 1) λg=>E (al a h g) λg=>aj (d 11) λi=>E (a1 1 i) λi=>E (al a h i) λi=>aW a 119 [g,(.Z 37),i] h f (λ_ a b=>c (ac d 98 e) a b) (b (hP [99,100,101,102] (ac d 98 e)))) (c (ac d 98 e) h f)) λa=>aX g (a e) (a (.bool false)))))))))))) h (CO 4 h (λ_ _ _ _=>False)) (aeB a e) (D6 a e f) (ac b 84 c) d g) (D6 a e f (hP [83,84] b))) λi=>fu (λb c d g=>aj (c 51) λh=>aj (c 50) λj=>E (aC .lss h j) λh=>aT (λc d g=>aT (λa c d=>aj (a 51) λe=>E (aC .add e (.Z 1)) λe=>b (ac a 51 e) c d) λb=>aj (c 49) λh=>aj (c 51) λi=>E (dd 4 h i) λh=>E (bM a d 4 h) λh=>E (dA [.aU, .aU,(.Z 0), .cy] g) λi=>cH a d g i.1 i.2 λd g i=>E (b8 a g 4 d h) λg=>E (a1 0 d) λh=>E (al a g h) λh=>E (dI h) λj=>aT (λc d g=>aj (c 1) λh=>E (al a d h) λh=>aj (c 6) λi=>E (a1 3 i) λi=>E (al a d i) λi=>aW a 122 [h,i] d g (λ_ a d=>b c a d) (D6 a e f (hP [78,79,80,81] c))) λb=>fu (λc d g h=>aj (d 58) λi=>aj (d 57) λj=>E (aC .lss i j) λi=>aT (λb d g=>aT (λa b d=>aj (a 58) λe=>E (aC .add e (.Z 1)) λe=>c (ac a 58 e) b d) λc=>aj (b 58) λh=>aj (b 56) λi=>aj (b 58) λj=>E (dd 1 i j) λi=>E (al a d i) λi=>aj (b 6) λj=>E (a1 1 j) λj=>E (al a d j) λj=>E (dI j) λj=>E (aC .lss h j) λj=>aT (λb d g=>aj (b 1) λh=>E (al a d h) λh=>aj (b 8) λi=>aj (b 9) λj=>aW a 121 [h,i,j] d g (λ_ a d=>c b a d) (D6 a e f (hP [73,74,75,76] b))) λc=>aX j (aj (b 6) λe=>E (a1 1 e) λe=>E (al a d e) λe=>E (dd 1 e h) λe=>E (al a d e) λa=>c (ac (zy b 7 h 8 i 9 (.Z 0) 67 j) 9 a) d g) (c (zy b 7 h 8 i 9 (.Z 0) 67 j) d g)) λa=>aX i (a (ac d 59 i) g h) (b (ac d 59 i) g h)) (zy c 6 d 56 h 57 j 58 (.Z 0)) g i) λa=>aX h (a (ac c 52 h) d g) (i (ac c 52 h) d g)) (zx b 49 g 50 h 51 (.Z 0)) c d) (D6 a e f (hP [45,46,47] b))) λk=>aX g (E (al a h c) λl=>E (a1 1 d) λm=>E (al a h m) λm=>aW a 119 [l,(.Z 24),m] h i (λ_ a e=>k (zy (cZ [b]) 1 c 2 d 3 j 40 g) a e) (D6 a e f (hP [41,42,43,44] (zy (cZ [b]) 1 c 2 d 3 j 40 g)))) (k (zy (cZ [b]) 1 c 2 d 3 j 40 g) h i)) (D6 a e f (hP [26,27,28,29,30,31,32,25,33,34,3,4] (zw (cZ [b]) 1 c 2 d)))
def ajw:AZ X 71 [a0] h j ak ay=Wb X a0 h j ak ay:=Zk
def ajv:cX X 71 1=true:=Zk
def We(a:a2)(b:J)(c:V an)(d:Nat)(e _:bJ):Prop:=
 iG a c d b λa b c=>e (.func (.func 132) [] [a]) b c
def ajA:di X 78 [a0] h j ak ay=We X a0 h j ak ay:=Zk
def ajz:cX X 78 1=true:=Zk
def Wf(a:a2)(b c:J)(d:V an)(e:Nat)(f g:bJ):Prop:=
 iG a d e c λd e h=>E (dc a e .eql 23 true b .cy) λi=>aT (λb c d=>aj (b 0) λe=>E (cl e) λe=>E (a1 0 e) λe=>E (al a c e) λe=>aj (b 3) λb=>aW a 133 [e,(.func (.func 134) [] [b])] c d (λb c d=>E (r7 a c .max [3,3] [b,(.Z 0)]) λa=>E (aC .geq b (.Z 0)) λb=>f (.tuple [a,b]) c d) g) λa=>aX i (f (.tuple [(.Z 0),(.bool false)]) e h) (a (zy (cZ [b,c]) 3 d 4 (.Z 0) 5 (.bool false) 8 i) e h)
def ajC:di X 79 [a0,bf] h j ak ay=Wf X a0 bf h j ak ay:=Zk
def ajB:cX X 79 2=true:=Zk
def Wl(a:a2)(b:J)(c:V an)(d:Nat)(e f:bJ):Prop:=
 iG a c d b λc d g=>E (a1 2 c) λh=>E (al a d h) λh=>E (dI h) λh=>E (a1 3 c) λi=>E (al a d i) λi=>E (dI i) λi=>E (aC .add h i) λh=>E (a1 4 c) λi=>E (al a d i) λi=>E (dI i) λi=>E (aC .add h i) λh=>E (a1 0 c) λi=>E (al a d i) λi=>aW a 140 [i] d g (λd g i=>E (fe .not d) λd=>c9 d (a1 3 c) g i (λg i j=>c9 d (al a i g) i j (λg i j=>c9 d (dI g) i j (λg i j=>c9 d (aC .eql g (.Z 0)) i j (λg i j=>cU (λd=>hd d h i j (λg i j=>c9 d (aC .gtr g (.Z 256)) i j (λg i j=>cU (λd=>c9 d (a1 5 c) i j (λg i j=>c9 d (al a i g) i j (λg i j=>c9 d (dI g) i j (λg i j=>c9 d (aC .gtr g (.Z 4096)) i j (λg i j=>cU (λd=>c9 d (a1 2 c) i j (λg i j=>c9 d (al a i g) i j (λg i j=>c9 d (a1 3 c) i j (λi j k=>c9 d (al a j i) j k (λi j k=>c9 d (a1 4 c) j k (λj k l=>c9 d (al a k j) k l (λj k l=>kk d (λb=>E (fw 3 [.aU, .aU, .aU] [(0,1,g),(1,1,i),(2,1,j)] l) λc=>cH a k l c.1 c.2 λa c d=>b a c d) k l (λg i j=>kk d (λb=>aW a 142 [g] i j b f) i j (λg i j=>kk d (λb=>aW a 141 [g] i j b f) i j (λg i j=>c9 d (fe .not g) i j (λg i j=>cU (λd=>aT (λb c d=>aj (b 1) λg=>E (a1 5 g) λg=>E (al a c g) λg=>E (dI g) λh=>aT (λa b c=>aj (a 4) λa=>e a b c) λi=>fu (λb c d g=>aj (c 55) λh=>aj (c 54) λj=>E (aC .lss h j) λh=>aT (λc d g=>aT (λa c d=>aj (a 55) λe=>E (aC .add e (.Z 1)) λe=>b (ac a 55 e) c d) λb=>aj (c 53) λh=>aj (c 55) λi=>E (dd 4 h i) λh=>E (bM a d 4 h) λh=>E (dA [.aU, .aU,(.Z 0), .cy] g) λi=>cH a d g i.1 i.2 λd g i=>E (b8 a g 4 d h) λg=>E (a1 3 d) λh=>E (al a g h) λh=>aW a 144 [h] g i (λg h i=>E (a1 0 d) λj=>E (al a h j) λj=>E (dI j) λj=>E (aC .eql j (.Z 0)) λj=>c9 j (a1 0 d) h i (λh i k=>c9 j (al a i h) i k (λh i k=>hd j (.func (.func 143) [] []) i k (λi k l=>kk j (λb=>aW a 145 [h,i] k l b f) k l (λa f h=>cU (λa=>hd a g f h (λf h i=>c9 a (aC .eql f (.Z 1)) h i (λf h i=>cU (λa=>aT (λa c d=>aj (a 8) λe=>E (aC .neq e (.Z 0)) λe=>aT b λb=>aX e (aj (a 8) λf=>b (zw a 77 e 4 f) c d) (b (ac a 77 e) c d)) λb=>aX a (e (.Z 1) h i) (b (zy c 6 d 7 (.func (.func 143) [] []) 8 g 75 a) h i)) λb=>aX a (b (.bool true)) (b f)))) λb=>aX j (b (.bool true)) (b a)))))) f) λa=>aX h (a (ac c 56 h) d g) (i (ac c 56 h) d g)) (zy b 4 (.Z 0) 53 g 54 h 55 (.Z 0)) c d) λa=>aX d (e (.Z 1) i j) (a (zy (cZ [b]) 1 c 2 (.Z 0) 3 h 51 d) i j)) λa=>aX d (a (.bool true)) (a g)))))))))))) λa=>aX d (a (.bool true)) (a g)))))) λa=>aX d (a (.bool true)) (a g)))) λa=>aX d (a (.bool true)) (a g)))))) f
def ajK:di X 92 [a0] h j ak ay=Wl X a0 h j ak ay:=Zk
def ajJ:cX X 92 1=true:=Zk
def Uv(a:a2)(b:J)(c:V an)(d:Nat)(e f:bJ):Prop:=
 aW a 177 [b,(.Z 201)] c d e f
def ago:di X 118 [a0] h j ak ay=Uv X a0 h j ak ay:=Zk
def agn:cX X 118 1=true:=Zk
def Uw(a:a2)(b c d:J)(e:V an)(f:Nat)(g _:bJ):Prop:=
 E (cl b) λh=>E (a1 4 h) λh=>E (a1 0 h) λh=>E (al a e h) λh=>E (aC .eql h (.Z 0)) λh=>aT (λ_ a b=>g (.tuple []) a b) λg=>aX h (E (eC [(.Z 0),(.Z 0)] [(0,1,c),(1,1,d)]) λi=>E (cl b) λj=>E (a1 4 j) λj=>E (b8 a e 2 j i) λa=>g (ac (cZ [b,c,d]) 11 h) a f) (g (ac (cZ [b,c,d]) 11 h) e f)
def agq:di X 119 [a0,bf,ck] h j ak ay=Uw X a0 bf ck h j ak ay:=Zk
def agp:cX X 119 3=true:=Zk
def To(a:a2)(b:bJ):gB:=λc d e=>nj a [] b c c.bg d e
def NP(a:a2)(b c:bJ):rZ:=λd e f g=>vP a [] b c d e d.bg f g
def Ux(a:a2)(b c:J)(d:V an)(e:Nat)(f g:bJ):Prop:=
 iG a d e b λd e h=>iG a e h c λe h i=>cH a h i (.map i) (.map [] 0) λh i j=>E (dA [.l2] j) λk=>cH a i j k.1 k.2 λi j k=>E (b8 a j 1 i h) λh=>E (bM a h 6 e) λj=>aW a 78 [j] h k (λh j k=>aT (λb c d=>aj (b 3) λe=>E (bM a c 6 e) λe=>aW a 78 [e] c d (λc d e=>aT (λb c d=>To a f b c d) λh=>D9 a 54 c [31,32] (sY a (λ_ _ b _ _ c d e=>E (dA [(.str []),(.Z 0),(.bool false),(.bool false),(.Z 0),(.str []),(.Z 0),(.bool false)] e) λf=>cH a d e f.1 f.2 λd e f=>aj (c 32) λg=>E (b8 a e 8 d g) λa=>b (ac c 8 d) a f) (λ_ b c _ _ d e f=>aT c λc=>eM (f+13) λg=>aj (d 2) λh=>E (al a e h) λh=>E (cl h) λh=>E (a1 2 h) λh=>E (al a e h) λh=>aj (d 8) λi=>E (a1 5 i) λi=>E (al a e i) λi=>E (dA [(.Z 0),(.str []),(.Z 0),(.bool false),(.bool false),(.Z 0),(.str []),(.Z 0),(.bool false),(.Z 0),(.Z 0)] (f+10)) λj=>ld a e (f+10) j.1 j.2 λe f=>aW a 34 [h,i] f g (λf g h=>E (cK 0 f) λi=>E (cK 1 f) λf=>E (b8 a g 11 e i) λe=>E (fe .not f) λg=>DC g (d 8) (λa=>a1 5 a) e h (λe h i=>cN g (al a h e) h i (λe h i=>cN g (dc a h .neq 9 true e (.str [])) h i (λe h i=>cU (λe=>aT c λc=>aX e (aj (d 2) λg=>E (al a h g) λg=>aj (d 8) λj=>E (a1 6 j) λj=>E (al a h j) λj=>aW a 119 [g,(.Z 23),j] h i (λ_ a b=>c (zw d 10 f 49 e) a b) (b (hP [50,51,52,53] (zw d 10 f 49 e)))) (c (zw d 10 f 49 e) h i)) λa=>aX g (a e) (a (.bool false)))))) (b (hP [34,35,36,37,38,39,40,33,41,42,9,10] d)))) h (CO 2 h (λ_ _ _ _=>False)) (To a f) (NP a f g) (ac b 30 c) d e) (NP a f g (hP [29,30] b))) λl=>D9 a 54 h [14,15] (sY a (λ_ _ b _ _ c d e=>aj (c 14) λf=>E (dA [(.str []),(.Z 0),(.bool false),(.bool false),(.Z 0),(.str []),(.Z 0),(.bool false)] e) λg=>cH a d e g.1 g.2 λd e g=>aj (c 15) λh=>E (b8 a e 8 d h) λa=>b (zw c 5 f 6 d) a g) (λ_ b c _ _ d e f=>aT c λc=>aj (d 4) λg=>E (al a e g) λg=>aj (d 6) λh=>E (a1 0 h) λh=>E (al a e h) λh=>E (kJ a e 9 (.Z 0) g h false) λg=>E (aC .gtr g (.Z 0)) λg=>aT (λb d e=>aj (b 4) λf=>E (al a d f) λf=>aj (b 6) λg=>E (a1 0 g) λg=>E (al a d g) λg=>aj (b 5) λh=>gR (vL a d e 9 f g h) d e λ_ a d=>c b a d) λc=>aX g (aj (d 2) λh=>E (al a e h) λh=>aj (d 6) λi=>E (a1 1 i) λi=>E (al a e i) λi=>aW a 119 [h,(.Z 24),i] e f (λ_ a b=>c (ac d 20 g) a b) (b (hP [21,22,23,24] (ac d 20 g)))) (c (ac d 20 g) e f))) l (CO 0 l (λ_ _ _ _=>False)) (To a f) (NP a f g) (zy (cZ [b,c]) 2 d 3 e 4 i 13 h) j k) (NP a f g (hP [12,13] (zx (cZ [b,c]) 2 d 3 e 4 i)))
def ags:AZ X 120 [a0,bf] h j ak ay=Ux X a0 bf h j ak ay:=Zk
def agr:cX X 120 2=true:=Zk
def Uy(a:a2)(b c d:J)(e:V an)(f:Nat)(g h:bJ):Prop:=
 E (cl b) λi=>E (a1 2 i) λi=>E (al a e i) λi=>aW a 34 [i,c] e f (λe f i=>E (cK 0 e) λj=>E (cK 1 e) λe=>E (dA [(.Z 0),(.str []),(.Z 0),(.bool false),(.bool false),(.Z 0),(.str []),(.Z 0),(.bool false),(.Z 0),(.Z 0)] i) λk=>cH a f i k.1 k.2 λf i k=>E (b8 a i 11 f j) λi=>E (cl b) λj=>E (a1 3 j) λj=>E (al a i j) λj=>E (kJ a i 9 (.Z 0) j c false) λl=>E (aC .add l (.Z 1)) λl=>gR (vL a i k 9 j c l) i k λ_ i j=>aT (λ_ a b=>g (.tuple []) a b) λg=>E (fe .not e) λk=>aT g λg=>aX k (aW a 119 [b,(.Z 23),d] i j (λ_ a h=>g (zx (cZ [b,c,d]) 6 f 7 e 24 k) a h) h) (E (a1 0 f) λl=>E (al a i l) λl=>E (aC .eql l (.Z 1)) λl=>hd l b i j (λi j m=>c9 l (cl i) j m (λi j m=>c9 l (a1 3 i) j m (λi j m=>c9 l (al a j i) j m (λi j m=>hd l c j m (λj m n=>c9 l (kJ a m 9 (.Z 0) i j false) m n (λi j m=>c9 l (aC .gtr i (.Z 1)) j m (λi j m=>cU (λi=>aT g λg=>aX i (aW a 119 [b,(.Z 24),d] j m (λ_ a h=>g (zy (cZ [b,c,d]) 6 f 7 e 24 k 30 i) a h) h) (g (zy (cZ [b,c,d]) 6 f 7 e 24 k 30 i) j m)) λa=>aX l (a (.bool true)) (a i)))))))))) h
def agu:di X 121 [a0,bf,ck] h j ak ay=Uy X a0 bf ck h j ak ay:=Zk
def agt:cX X 121 3=true:=Zk
def Uz(a:a2)(b c:J)(d:V an)(e:Nat)(f g:bJ):Prop:=
 iG a d e b λb d e=>aW a 18 [c,(.func (.func 178) [] [b])] d e (λ_ a b=>f (.tuple []) a b) g
def agw:di X 122 [a0,bf] h j ak ay=Uz X a0 bf h j ak ay:=Zk
def agv:cX X 122 2=true:=Zk
def UE(a:a2)(b c:J)(d:V an)(e:Nat)(f g:bJ):Prop:=
 E (a1 2 c) λh=>E (al a d h) λh=>E (a1 3 c) λi=>E (al a d i) λi=>E (a1 4 c) λj=>E (al a d j) λj=>E (eC [.aU, .aU, .aU] [(0,1,h),(1,1,i),(2,1,j)]) λh=>aT (λ_ a b=>f (.tuple []) a b) λi=>fu (λb c d e=>aj (c 14) λh=>E (aC .lss h (.Z 3)) λh=>aT (λc d e=>aT (λa c d=>aj (a 14) λe=>E (aC .add e (.Z 1)) λe=>b (ac a 14 e) c d) λb=>aj (c 14) λh=>aj (c 13) λi=>aj (c 14) λj=>E (qI false 3 1 i j) λi=>E (dI i) λj=>aT b λb=>fu (λc d e h=>aj (d 20) λi=>aj (d 19) λj=>E (aC .lss i j) λi=>aT (λb d e=>aT (λa b d=>aj (a 20) λe=>E (aC .add e (.Z 1)) λe=>c (ac a 20 e) b d) λc=>aj (b 18) λh=>aj (b 20) λi=>E (dd 8 h i) λh=>E (bM a d 8 h) λh=>E (dA [(.str []),(.Z 0),(.bool false),(.bool false),(.Z 0),(.str []),(.Z 0),(.bool false)] e) λi=>cH a d e i.1 i.2 λd e i=>E (b8 a e 8 d h) λe=>aj (b 0) λh=>aj (b 3) λj=>E (aC .add (.Z 1) j) λj=>E (bM a e 8 d) λk=>iw a h [j,k] e i (λa e g=>E (fe .not a) λa=>aT c λc=>aX a (f (.tuple []) e g) (c (zw b 6 d 29 a) e g)) g) λa=>aX i (a (ac d 21 i) e h) (b (ac d 21 i) e h)) (ac (zy c 3 h 4 i 18 i 19 j) 20 (.Z 0)) d e) λa=>aX h (a (ac c 15 h) d e) (i (ac c 15 h) d e)) (zw (cZ [b,c]) 13 h 14 (.Z 0)) d e
def agG:di X 132 [a0,bf] h j ak ay=UE X a0 bf h j ak ay:=Zk
def agF:cX X 132 2=true:=Zk
def UF(a:a2)(b c:J)(d:V an)(e:Nat)(f g:bJ):Prop:=
 E (dI b) λh=>aT (λ_ a b=>f (.Z (-1)) a b) λi=>fu (λb c d e=>aj (c 8) λh=>aj (c 7) λj=>E (aC .lss h j) λh=>aT (λc d e=>aT (λa c d=>aj (a 8) λe=>E (aC .add e (.Z 1)) λe=>b (ac a 8 e) c d) λb=>aj (c 8) λh=>aj (c 1) λi=>aj (c 0) λj=>E (dd 6 j h) λj=>E (bM a d 6 j) λj=>iw a i [j] d e (λa d e=>aT b λb=>aX a (f h d e) (b (zw c 5 h 16 a) d e)) g) λa=>aX h (a (ac c 9 h) d e) (i (ac c 9 h) d e)) (zx (cZ [b,c]) 4 (.Z 0) 7 h 8 (.Z 0)) d e
def agI:di X 133 [a0,bf] h j ak ay=UF X a0 bf h j ak ay:=Zk
def agH:cX X 133 2=true:=Zk
def UG(a:a2)(b c:J)(d:V an)(e:Nat)(f _:bJ):Prop:=
 iG a d e b λb d e=>E (a1 0 b) λb=>E (al a d b) λb=>E (al a d c) λc=>E (dc a d .eql 9 false b c) λa=>f a d e
def agK:di X 134 [a0,bf] h j ak ay=UG X a0 bf h j ak ay:=Zk
def agJ:cX X 134 2=true:=Zk
def UK(a:a2)(b:J)(c:V an)(d:Nat)(e f:bJ):Prop:=
 E (dc a c .eql 9 true b (.str [])) λg=>hd g b c d (λc d h=>c9 g (l1 c) d h (λc d h=>c9 g (aC .gtr c (.Z 32)) d h (λc d h=>cU (λc=>hd c b d h (λd g h=>c9 c (ly d (.Z 0)) g h (λd g h=>c9 c (aC .geq d (.int .u8 48)) g h (λd g h=>hd c d g h (λd g h=>js d b g h (λg h i=>cN d (ly g (.Z 0)) h i (λg h i=>cN d (aC .leq g (.int .u8 57)) h i (λg h i=>kk c (λa=>cU (λb=>a b h i) λa=>aX d (a g) (a (.bool false))) h i (λd g h=>cU (λc=>hd c b g h (λd g h=>hd c (.func (.func 185) [] []) g h (λg h i=>kk c (λb=>aW a 186 [d,g] h i b f) h i (λd g h=>c9 c (aC .geq d (.Z 0)) g h (λd g h=>cU (λc=>aT (λb c d=>E (al a c (.ptr 2 0)) λg=>aj (b 0) λh=>aW a 187 [g,h] c d (λc d g=>E (fe .not c) λc=>kG c (b 0) d g (λb d g=>jZ c (λc=>aW a 188 [b] d g c f) d g (λa b d=>cN c (fe .not a) b d (λa b d=>cU (λa=>e a b d) λb=>aX c (b a) (b (.bool false)))))) f) λa=>aX c (e (.bool false) g h) (a (zx (cZ [b]) 2 (.bool false) 3 (.func (.func 185) [] []) 26 c) g h)) λa=>aX c (a (.bool true)) (a d)))))) λa=>aX c (a (.bool true)) (a d)))))))))) λa=>aX g (a (.bool true)) (a c))))
def agO:di X 140 [a0] h j ak ay=UK X a0 h j ak ay:=Zk
def agN:cX X 140 1=true:=Zk
def UL(a:a2)(b:J)(c:V an)(d:Nat)(e f:bJ):Prop:=
 E (dI b) λg=>aT (λ_ a b=>e (.bool true) a b) λh=>fu (λb c d g=>aj (c 7) λi=>aj (c 6) λj=>E (aC .lss i j) λi=>aT (λc d g=>aT (λa c d=>aj (a 7) λe=>E (aC .add e (.Z 1)) λe=>b (ac a 7 e) c d) λb=>aj (c 5) λh=>aj (c 7) λi=>E (dd 8 h i) λh=>E (bM a d 8 h) λh=>E (dA [(.str []),(.Z 0),(.bool false),(.bool false),(.Z 0),(.str []),(.Z 0),(.bool false)] g) λi=>cH a d g i.1 i.2 λd g i=>E (b8 a g 8 d h) λg=>E (a1 0 d) λh=>E (al a g h) λh=>aW a 140 [h] g i (λg h i=>E (fe .not g) λg=>c9 g (a1 2 d) h i (λh i j=>c9 g (bM a i 3 h) i j (λh i j=>kk g (λb=>aW a 128 [h] i j b f) i j (λh i j=>c9 g (dc a i .eql 9 true h (.str [])) i j (λh i j=>cU (λg=>c9 g (a1 5 d) i j (λh i j=>c9 g (al a i h) i j (λh i j=>c9 g (dc a i .neq 9 true h (.str [])) i j (λh i j=>hd g h i j (λh i j=>cN h (a1 5 d) i j (λi j k=>cN h (al a j i) j k (λi j k=>jZ h (λb=>aW a 140 [i] j k b f) j k (λf i j=>cN h (fe .not f) i j (λf i j=>kk g (λa=>cU (λb=>a b i j) λa=>aX h (a f) (a (.bool false))) i j (λf h i=>cU (λf=>c9 f (a1 5 d) h i (λg h i=>c9 f (al a h g) h i (λg h i=>c9 f (dc a h .eql 9 true g (.str [])) h i (λg h i=>hd f g h i (λg h i=>cN g (a1 7 d) h i (λh i j=>cN g (al a i h) i j (λa h i=>kk f (λb=>cU (λa=>b a h i) λb=>aX g (b a) (b (.bool false))) h i (λa g h=>cU (λa=>aT b λb=>aX a (e (.bool false) g h) (b (zw c 4 d 40 a) g h)) λb=>aX f (b (.bool true)) (b a))))))))) λa=>aX g (a (.bool true)) (a f))))))))))) λa=>aX g (a (.bool true)) (a h)))))) f) λa=>aX i (a (ac c 8 i) d g) (h (ac c 8 i) d g)) (zy (cZ [b]) 2 (.bool false) 5 b 6 g 7 (.Z 0)) c d
def agQ:di X 141 [a0] h j ak ay=UL X a0 h j ak ay:=Zk
def agP:cX X 141 1=true:=Zk
def UM(a:a2)(b:J)(c:V an)(d:Nat)(e f:bJ):Prop:=
 E (dI b) λg=>aT (λb c d=>aj (b 3) λg=>aW a 189 [.aU,g] c d (λc d f=>aj (b 0) λg=>E (dI g) λh=>aT (λa b c=>aj (a 6) λa=>e a b c) λe=>fu (λb c d f=>aj (c 27) λg=>aj (c 26) λh=>E (aC .lss g h) λg=>aT (λc d e=>aT (λa c d=>aj (a 27) λe=>E (aC .add e (.Z 1)) λe=>b (ac a 27 e) c d) λb=>aj (c 25) λf=>aj (c 27) λg=>E (dd 1 f g) λf=>E (al a d f) λf=>aj (c 6) λg=>gR (is a d e 8 g f) d e λa d e=>b (zw c 8 f 6 a) d e) λa=>aX g (a (ac c 28 g) d f) (e (ac c 28 g) d f)) (zy b 6 c 25 g 26 h 27 (.Z 0)) d f) f) λe=>fu (λb c d g=>aj (c 11) λh=>aj (c 10) λi=>E (aC .lss h i) λh=>aT (λc d e=>aT (λa c d=>aj (a 11) λe=>E (aC .add e (.Z 1)) λe=>b (ac a 11 e) c d) λb=>aj (c 9) λg=>aj (c 11) λh=>E (dd 1 g h) λg=>E (al a d g) λa=>aj (c 3) λg=>E (dI a) λh=>E (aC .add g h) λg=>E (aC .lss g (.Z 0)) λh=>aT b λb=>aX h (E (some (J.iface 9 (.str [108,101,110,32,111,117,116,32,111,102,32,114,97,110,103,101]))) λa=>vQ f a d e) (b (zx c 5 a 3 g 20 h) d e)) λa=>aX h (a (ac c 12 h) d g) (e (ac c 12 h) d g)) (ac (zy (cZ [b]) 2 .aU 3 (.Z 0) 9 b 10 g) 11 (.Z 0)) c d
def agS:di X 142 [a0] h j ak ay=UM X a0 h j ak ay:=Zk
def agR:cX X 142 1=true:=Zk
def UN(a:a2)(b:J)(c:V an)(d:Nat)(e f:bJ):Prop:=
 aW a 140 [b] c d (λa b c=>E (fe .not a) λa=>e a b c) f
def agU:di X 143 [a0] h j ak ay=UN X a0 h j ak ay:=Zk
def agT:cX X 143 1=true:=Zk
def UO(a:a2)(b:J)(c:V an)(d:Nat)(e f:bJ):Prop:=
 E (dA [(.Z 0)] d) λg=>cH a c d g.1 g.2 λc d g=>E (b8 a d 1 c (.Z 0)) λd=>E (dA [(.Z 0)] g) λh=>cH a d g h.1 h.2 λd g h=>E (b8 a g 1 d (.Z 0)) λg=>E (dA [.nilFunc] h) λi=>cH a g h i.1 i.2 λg h i=>E (b8 a h 1 g (.func (.func 190) [] [d,c,g])) λd=>E (al a d g) λg=>iw a g [b] d i (λ_ b d=>E (al a b c) λa=>e a b d) f
def agW:di X 144 [a0] h j ak ay=UO X a0 h j ak ay:=Zk
def agV:cX X 144 1=true:=Zk
def UP(a:a2)(b c:J)(d:V an)(e:Nat)(f g:bJ):Prop:=
 aW a 192 [b,c] d e (λa b c=>E (aC .geq a (.Z 0)) λa=>f a b c) g
def agY:di X 145 [a0,bf] h j ak ay=UP X a0 bf h j ak ay:=Zk
def agX:cX X 145 2=true:=Zk
def OT(a:a2)(b c:J)(d:V an)(e:Nat)(f g:bJ):Prop:=
 E (dc a d .eql 47 true b .cy) λh=>hd h c d e (λd e i=>c9 h (aC .eql d (.Z 0)) e i (λd e i=>cU (λd=>aT (λb c d=>aj (b 1) λe=>E (aC .sub e (.Z 1)) λe=>aj (b 0) λh=>E (cl h) λh=>E (a1 8 h) λh=>E (al a c h) λh=>E (dI h) λi=>aT (λa b c=>aj (a 5) λa=>E (aC .add a (.Z 1)) λa=>f a b c) λf=>fu (λb c d e=>aj (c 21) λh=>aj (c 20) λi=>E (aC .lss h i) λh=>aT (λc d e=>aT (λa c d=>aj (a 21) λe=>E (aC .add e (.Z 1)) λe=>b (ac a 21 e) c d) λb=>aj (c 19) λf=>aj (c 21) λh=>E (dd 1 f h) λf=>E (al a d f) λf=>aj (c 5) λh=>aj (c 1) λi=>aW a 177 [f,i] d e (λd e g=>E (r7 a e .max [3,3] [h,d]) λa=>b (zw c 7 f 5 a) e g) g) λa=>aX h (a (ac c 22 h) d e) (f (ac c 22 h) d e)) (ac (zy b 1 e 5 (.Z 0) 19 h 20 i) 21 (.Z 0)) c d) λa=>aX d (f (.Z 0) e i) (a (zw (cZ [b,c]) 4 (.Z 0) 13 d) e i)) λa=>aX h (a (.bool true)) (a d)))
def U7:di X 177 [a0,bf] h j ak ay=OT X a0 bf h j ak ay:=Zk
def U6:cX X 177 2=true:=Zk
def U8(a:a2)(b c:J)(d:V an)(e:Nat)(f g:bJ):Prop:=
 aW a 179 [b] d e (λd e h=>aT (λb c d=>aj (b 0) λe=>E (cl e) λe=>E (a1 0 e) λe=>E (al a c e) λe=>E (aC .eql e (.Z 25)) λe=>aT (λ_ a b=>f (.bool true) a b) λf=>aX e (eM (d+14) λd=>aj (b 1) λh=>E (al a c h) λh=>E (cl h) λh=>E (a1 0 h) λh=>E (al a c h) λh=>aj (b 0) λi=>E (cl i) λi=>E (a1 2 i) λi=>E (al a c i) λi=>aW a 79 [h,i] c d (λc d h=>E (cK 0 c) λi=>E (cK 1 c) λc=>aT f λf=>E (fe .not c) λj=>aT f λf=>aX j (eM (h+6) λh=>aj (b 1) λk=>E (al a d k) λk=>aj (b 0) λl=>E (cl l) λl=>E (a1 1 l) λl=>E (al a d l) λl=>aW a 119 [k,(.Z 23),l] d h (λ_ a d=>f (zy b 34 e 6 i 7 c 47 j) a d) g) (aj (b 1) λk=>E (al a d k) λk=>E (cl k) λk=>E (a1 1 k) λk=>E (al a d k) λk=>E (aC .geq i k) λk=>aT f λf=>aX k (eM (h+6) λh=>aj (b 1) λl=>E (al a d l) λl=>aj (b 0) λm=>E (cl m) λm=>E (a1 1 m) λm=>E (al a d m) λm=>aW a 119 [l,(.Z 25),m] d h (λ_ a d=>f (ac (zy b 34 e 6 i 7 c 47 j) 56 k) a d) g) (f (ac (zy b 34 e 6 i 7 c 47 j) 56 k) d h))) g) (f (ac b 34 e) c d)) λf=>aX d (eM (h+15) λi=>E (al a e c) λj=>E (cl j) λj=>E (a1 2 j) λj=>E (al a e j) λj=>E (cl b) λk=>E (a1 2 k) λk=>E (al a e k) λk=>E (dA [(.Z 0),(.str []),(.Z 0),(.bool false),(.bool false),(.Z 0),(.str []),(.Z 0),(.bool false),(.Z 0),(.Z 0)] (h+12)) λl=>ld a e (h+12) l.1 l.2 λe h=>aW a 34 [j,k] h i (λh i j=>E (cK 0 h) λk=>E (cK 1 h) λh=>E (b8 a i 11 e k) λe=>E (fe .not h) λi=>aT f λf=>aX i (eM (j+6) λj=>E (al a e c) λk=>E (cl b) λl=>E (a1 1 l) λl=>E (al a e l) λl=>aW a 119 [k,(.Z 23),l] e j (λ_ a e=>f (zy (cZ [b,c]) 3 (.bool false) 9 d 5 h 23 i) a e) g) (f (zy (cZ [b,c]) 3 (.bool false) 9 d 5 h 23 i) e j)) g) (f (zw (cZ [b,c]) 3 (.bool false) 9 d) e h)) g
def ahs:di X 178 [a0,bf] h j ak ay=U8 X a0 bf h j ak ay:=Zk
def ahr:cX X 178 2=true:=Zk
def U9(a:a2)(b:J)(c:V an)(d:Nat)(e _:bJ):Prop:=
 E (cl b) λf=>E (a1 0 f) λf=>E (al a c f) λf=>E (aC .eql f (.Z 2)) λf=>hd f b c d (λc d g=>c9 f (cl c) d g (λc d g=>c9 f (a1 0 c) d g (λc d g=>c9 f (al a d c) d g (λc d g=>c9 f (aC .eql c (.Z 6)) d g (λc d g=>cU (λc=>hd c b d g (λb d f=>c9 c (cl b) d f (λb d f=>c9 c (a1 0 b) d f (λb d f=>c9 c (al a d b) d f (λa b d=>c9 c (aC .eql a (.Z 24)) b d (λa b d=>cU (λa=>e a b d) λb=>aX c (b (.bool true)) (b a))))))) λa=>aX f (a (.bool true)) (a c))))))
def ahu:di X 179 [a0] h j ak ay=U9 X a0 h j ak ay:=Zk
def aht:cX X 179 1=true:=Zk
def Vb(a:a2)(b:J)(c:V an)(d:Nat)(e _:bJ):Prop:=
 iG a c d b λc d f=>E (a1 0 c) λg=>E (al a d g) λg=>aT (λb c d=>aj (b 1) λf=>E (a1 2 f) λf=>E (al a c f) λf=>E (aC .geq f (.Z 1)) λf=>DC f (b 1) (λa=>a1 2 a) c d (λb c d=>cN f (al a c b) c d (λa b c=>cN f (aC .leq a (.Z 64)) b c (λa b c=>cU (λa=>e a b c) λb=>aX f (b a) (b (.bool false)))))) λh=>aX g (E (a1 1 c) λb=>E (al a d b) λb=>E (fe .not b) λb=>cN b (a1 2 c) d f (λc d f=>cN b (al a d c) d f (λa c d=>cN b (aC .eql a (.Z 1)) c d (λa c d=>cU (λa=>e a c d) λc=>aX b (c a) (c (.bool false)))))) (h (zx (cZ [b]) 1 c 2 (.bool false) 4 g) d f)
def ahw:di X 182 [a0] h j ak ay=Vb X a0 h j ak ay:=Zk
def ahv:cX X 182 1=true:=Zk
def Ve(_:a2)(a:J)(b:V an)(c:Nat)(d _:bJ):Prop:=
 E (aC .lss a (.int .i32 97)) λe=>hd e a b c (λb c f=>c9 e (aC .gtr b (.int .i32 122)) c f (λb c f=>cU (λb=>js b a c f (λc e f=>cN b (aC .lss c (.int .i32 65)) e f (λc e f=>js b c e f (λc e f=>hd c a e f (λe f g=>c9 c (aC .gtr e (.int .i32 90)) f g (λe f g=>jZ b (λa=>cU (λb=>a b f g) λa=>aX c (a (.bool true)) (a e)) f g (λc e f=>cU (λb=>js b a e f (λc e f=>cN b (aC .lss c (.int .i32 48)) e f (λc e f=>js b c e f (λc e f=>hd c a e f (λe f g=>c9 c (aC .gtr e (.int .i32 57)) f g (λe f g=>jZ b (λa=>cU (λb=>a b f g) λa=>aX c (a (.bool true)) (a e)) f g (λc e f=>cU (λb=>js b a e f (λa c e=>cN b (aC .neq a (.int .i32 95)) c e (λa c e=>cU (λa=>d a c e) λc=>aX b (c a) (c (.bool false))))) λa=>aX b (a c) (a (.bool false))))))))) λa=>aX b (a c) (a (.bool false))))))))) λa=>aX e (a (.bool true)) (a b)))
def ahC:di X 185 [a0] h j ak ay=Ve X a0 h j ak ay:=Zk
def ahB:cX X 185 1=true:=Zk
def Vf(a:a2)(b c:J)(d:V an)(e:Nat)(f g:bJ):Prop:=
 aW a 213 [b,c,(.bool true)] d e f g
def ahE:di X 186 [a0,bf] h j ak ay=Vf X a0 bf h j ak ay:=Zk
def ahD:cX X 186 2=true:=Zk
def Vg(a:a2)(b c:J)(d:V an)(e:Nat)(f g:bJ):Prop:=
 aW a 214 [b,c] d e (λa b c=>E (aC .geq a (.Z 0)) λa=>f a b c) g
def ahG:di X 187 [a0,bf] h j ak ay=Vg X a0 bf h j ak ay:=Zk
def ahF:cX X 187 2=true:=Zk
def Vh(a:a2)(b:J)(c:V an)(d:Nat)(e f:bJ):Prop:=
 E (l1 b) λg=>E (aC .lss g (.Z 2)) λg=>aT (λb c d=>aj (b 0) λg=>E (kn g (some (.Z 1)) none) λg=>aW a 203 [g] c d (λc d g=>E (cK 0 c) λh=>E (cK 1 c) λc=>aj (b 0) λi=>E (dc a d .eql 9 true i (.str [98,111,111,108])) λi=>hd i c d g (λc d g=>c9 i (dc a d .eql 238 true c .nilIface) d g (λc d g=>hd i c d g (λc d g=>kG c (b 0) d g (λd g j=>kG c (b 0) g j (λb g j=>cN c (ly b (.Z 0)) g j (λb g j=>cN c (aC .eql b (.int .u8 105)) g j (λb g j=>js c h g j (λg h j=>cN c (eC [(.bool false),(.bool false),(.Z 0)] [(1,1,b),(2,1,g)]) h j (λb g h=>jZ c (λc=>aW a 128 [b] g h c f) g h (λb f g=>cN c (dc a f .eql 9 false d b) f g (λa b d=>kk i (λe=>cU (λa=>e a b d) λb=>aX c (b a) (b (.bool false))) b d (λa b c=>cU (λa=>e a b c) λb=>aX i (b (.bool true)) (b a)))))))))))))) f) λa=>aX g (e (.bool false) c d) (a (zw (cZ [b]) 2 (.bool false) 7 g) c d)
def ahI:di X 188 [a0] h j ak ay=Vh X a0 h j ak ay:=Zk
def ahH:cX X 188 1=true:=Zk
def Vi(a:a2)(b c:J)(d:V an)(e:Nat)(f g:bJ):Prop:=
 E (aC .lss c (.Z 0)) λh=>aT (λb c d=>aj (b 1) λe=>aj (b 0) λg=>E (r7 a c .cap [34] [g]) λg=>aj (b 0) λh=>E (dI h) λh=>E (aC .sub g h) λg=>E (aC .sub e g) λe=>E (aC .gtr e (.Z 0)) λg=>aT (λa b c=>aj (a 0) λa=>f a b c) λf=>aX g (aj (b 0) λh=>aj (b 0) λi=>E (r7 a c .cap [34] [i]) λi=>E (s1 a c 8 h none (some i) none) λh=>gR (FH a c d .append [34,3] [h,e]) c d λc d h=>aj (b 0) λi=>E (dI i) λi=>E (s1 a d 8 c none (some i) none) λa=>f (zx b 1 e 16 g 0 a) d h) (f (zw b 1 e 16 g) c d)) λa=>aX h (E (some (J.iface 9 (.str [99,97,110,110,111,116,32,98,101,32,110,101,103,97,116,105,118,101]))) λa=>vQ g a d e) (a (zw (cZ [b,c]) 4 .aU 6 h) d e)
def ahK:di X 189 [a0,bf] h j ak ay=Vi X a0 bf h j ak ay:=Zk
def ahJ:cX X 189 2=true:=Zk
def Vj(a:a2)(b c d e:J)(f:V an)(g:Nat)(h i:bJ):Prop:=
 E (al a f c) λj=>E (aC .add j (.Z 1)) λj=>E (b8 a f 1 c j) λf=>aT (λb c d=>aj (b 1) λe=>E (al a c e) λe=>E (aC .sub e (.Z 1)) λe=>aj (b 1) λb=>E (b8 a c 1 b e) λa=>h (.tuple []) a d) λh=>E (dc a f .eql 47 true b .cy) λj=>hd j b f g (λf g k=>kk j (λb=>aW a 191 [f] g k b i) g k (λf g k=>c9 j (fe .not f) g k (λf g k=>cU (λf=>aT h λh=>aX f (E (b8 a g 1 d (.Z 1)) λa=>h (ac (cZ [b,c,d,e]) 22 f) a k) (E (al a g c) λj=>E (aC .gtr j (.Z 200)) λj=>aT h λh=>aX j (E (al a g d) λi=>E (aC .eql i (.Z 0)) λi=>aT h λh=>aX i (E (b8 a g 1 d (.Z 22)) λa=>h (zx (cZ [b,c,d,e]) 22 f 30 j 34 i) a k) (h (zx (cZ [b,c,d,e]) 22 f 30 j 34 i) g k)) (E (cl b) λl=>E (a1 8 l) λl=>E (al a g l) λl=>E (dI l) λm=>aT h λh=>fu (λb c d e=>aj (c 14) λf=>aj (c 13) λg=>E (aC .lss f g) λf=>aT (λc d e=>aT (λa c d=>aj (a 14) λe=>E (aC .add e (.Z 1)) λe=>b (ac a 14 e) c d) λb=>aj (c 12) λf=>aj (c 14) λg=>E (dd 1 f g) λf=>E (al a d f) λf=>aj (c 3) λg=>E (al a d g) λg=>iw a g [f] d e (λ_ a d=>b (ac c 6 f) a d) i) λa=>aX f (a (ac c 15 f) d e) (h (ac c 15 f) d e)) (ac (zy (cZ [b,c,d,e]) 22 f 30 j 12 l 13 m) 14 (.Z 0)) g k))) λa=>aX j (a (.bool true)) (a f))))
def ahO:di X 190 [a0,bf,ck,a3] h j ak ay=Vj X a0 bf ck a3 h j ak ay:=Zk
def ahN:cX X 190 4=true:=Zk
def Vk(a:a2)(b:J)(c:V an)(d:Nat)(e f:bJ):Prop:=
 eM (d+12) λg=>E (al a c (.ptr 5 0)) λh=>E (cl b) λi=>E (a1 0 i) λi=>E (al a c i) λi=>E (kJ a c 3 (.agg [(.Z 0),(.bool false),(.bool false),(.bool false)]) h i true) λh=>E (cK 0 h) λi=>E (cK 1 h) λh=>E (dA [(.Z 0),(.bool false),(.bool false),(.bool false)] (d+9)) λj=>ld a c (d+9) j.1 j.2 λc d=>E (b8 a d 4 c i) λd=>E (fe .not h) λi=>aT (λb c d=>eM (d+34) λd=>aj (b 0) λg=>E (cl g) λg=>E (a1 0 g) λg=>E (al a c g) λg=>E (aC .lss g (.Z 1)) λg=>vs g (b 0) c (λc h=>hU g (cl c) h (λc h=>hU g (a1 0 c) h (λc h=>hU g (al a h c) h (λc h=>hU g (aC .gtr c (.Z 26)) h (λc h=>cU (λc=>Sk c (b 3) (λa=>a1 0 a) h (λg h=>hU c (al a h g) h (λg h=>hU c (aC .geq g (.Z 0)) h (λg h=>Gm c g h (λg h=>nI g (b 0) h (λh i=>e0 g (cl h) i (λh i=>e0 g (a1 8 h) i (λh i=>e0 g (al a i h) i (λh i=>e0 g (dI h) i (λh i=>JN g (b 3) (λa=>a1 0 a) i (λi j=>e0 g (al a j i) j (λi j=>e0 g (aC .neq h i) j (λh i=>Ng c (λa=>cU (λb=>a b i) λa=>aX g (a h) (a (.bool false))) i (λg h=>cU (λc=>vs c (b 0) h (λg h=>hU c (cl g) h (λg h=>hU c (a1 8 g) h (λg h=>hU c (al a h g) h (λg h=>kk c (λb=>aW a 215 [g, .cy] h d b f) h d (λd g h=>cU (λc=>aT (λb c d=>eM (d+33) λd=>aj (b 3) λg=>E (a1 1 g) λg=>E (al a c g) λg=>aj (b 0) λh=>E (cl h) λh=>E (a1 2 h) λh=>E (al a c h) λh=>E (dc a c .neq 9 true h (.str [])) λh=>E (dc a c .neq 4 false g h) λg=>Sk g (b 3) (λa=>a1 1 a) c (λc h=>hU g (al a h c) h (λc h=>Gm g c h (λc h=>nI c (b 0) h (λh i=>e0 c (cl h) i (λh i=>e0 c (a1 2 h) i (λh i=>e0 c (al a i h) i (λh i=>jZ c (λb=>aW a 140 [h] i d b f) i d (λd h i=>e0 c (fe .not d) h (λd h=>Ng g (λa=>cU (λb=>a b h) λa=>aX c (a d) (a (.bool false))) h (λc d=>cU (λc=>vs c (b 0) d (λd g=>hU c (cl d) g (λd g=>hU c (a1 3 d) g (λd g=>hU c (al a g d) g (λd g=>Gm c d g (λd g=>nI d (b 0) g (λg h=>e0 d (cl g) h (λg h=>e0 d (a1 0 g) h (λg h=>e0 d (al a h g) h (λg h=>e0 d (aC .neq g (.Z 6)) h (λg h=>Ng c (λa=>cU (λb=>a b h) λa=>aX d (a g) (a (.bool false))) h (λd g=>cU (λc=>aT (λb c d=>aj (b 3) λg=>E (a1 2 g) λg=>E (al a c g) λg=>E (fe .not g) λg=>kG g (b 0) c d (λc d h=>cN g (cl c) d h (λc d h=>cN g (a1 4 c) d h (λc d h=>cN g (bM a d 3 c) d h (λc d h=>cN g (eC [(.bool false),(.bool false),(.Z 0)] []) d h (λd h i=>cN g (dc a h .neq 41 false c d) h i (λc d h=>cU (λc=>acH c (b 3) (λa=>a1 2 a) d h (λd g h=>c9 c (al a g d) g h (λd g h=>hd c d g h (λd g h=>kG d (b 0) g h (λg h i=>cN d (cl g) h i (λg h i=>cN d (a1 4 g) h i (λg h i=>cN d (bM a h 3 g) h i (λg h i=>jZ d (λb=>aW a 182 [g] h i b f) h i (λg h i=>cN d (fe .not g) h i (λg h i=>kk c (λa=>cU (λb=>a b h i) λa=>aX d (a g) (a (.bool false))) h i (λd g h=>cU (λc=>acH c (b 3) (λa=>a1 3 a) g h (λd g h=>c9 c (al a g d) g h (λd g h=>c9 c (fe .not d) g h (λd g h=>hd c d g h (λd g h=>kG d (b 0) g h (λg h i=>cN d (cl g) h i (λg h i=>cN d (a1 7 g) h i (λg h i=>cN d (al a h g) h i (λg h i=>cN d (aC .neq g (.int .u64 0)) h i (λg h i=>kk c (λa=>cU (λb=>a b h i) λa=>aX d (a g) (a (.bool false))) h i (λd g h=>cU (λc=>aT (λb c d=>aj (b 0) λg=>E (cl g) λg=>E (a1 0 g) λg=>E (al a c g) λg=>aT (λ_ a b=>e (.bool true) a b) λh=>E (aC .eql g (.Z 1)) λi=>aT h λh=>aX i (aj (b 0) λb=>aW a 216 [b] c d e f) (E (aC .eql g (.Z 19)) λf=>aT (λb c d=>aj (b 128) λf=>aT h λg=>aX f (aj (b 0) λb=>E (cl b) λb=>E (a1 7 b) λb=>E (al a c b) λa=>E (aC .leq a (.int .u64 63)) λa=>e a c d) (aj (b 123) λf=>E (aC .eql f (.Z 21)) λf=>aT g λg=>aX f (aj (b 0) λb=>E (cl b) λb=>E (a1 8 b) λb=>E (al a c b) λb=>E (dd 1 b (.Z 0)) λb=>E (al a c b) λb=>E (cl b) λf=>E (a1 0 f) λf=>E (al a c f) λf=>E (aC .eql f (.Z 1)) λf=>hd f b c d (λc d g=>c9 f (cl c) d g (λc d g=>c9 f (a1 0 c) d g (λc d g=>c9 f (al a d c) d g (λc d g=>c9 f (aC .eql c (.Z 4)) d g (λc d g=>hd f c d g (λc d g=>js c b d g (λd g h=>cN c (cl d) g h (λd g h=>cN c (a1 8 d) g h (λd g h=>cN c (al a g d) g h (λd g h=>cN c (dI d) g h (λd g h=>cN c (aC .eql d (.Z 1)) g h (λd g h=>kk f (λa=>cU (λb=>a b g h) λa=>aX c (a d) (a (.bool false))) g h (λc d g=>hd f c d g (λc d g=>js c b d g (λd g h=>cN c (cl d) g h (λd g h=>cN c (a1 8 d) g h (λd g h=>cN c (al a g d) g h (λd g h=>cN c (dd 1 d (.Z 0)) g h (λd g h=>cN c (al a g d) g h (λd g h=>cN c (dc a g .neq 47 true d .cy) g h (λd g h=>kk f (λa=>cU (λb=>a b g h) λa=>aX c (a d) (a (.bool false))) g h (λc d g=>hd f c d g (λc d g=>js c b d g (λb d g=>cN c (cl b) d g (λb d g=>cN c (a1 8 b) d g (λb d g=>cN c (al a d b) d g (λb d g=>cN c (dd 1 b (.Z 0)) d g (λb d g=>cN c (al a d b) d g (λb d g=>cN c (cl b) d g (λb d g=>cN c (a1 0 b) d g (λb d g=>cN c (al a d b) d g (λa b d=>cN c (aC .eql a (.Z 1)) b d (λa b d=>kk f (λe=>cU (λa=>e a b d) λb=>aX c (b a) (b (.bool false))) b d (λa b c=>cU (λa=>e a b c) λb=>aX f (b (.bool true)) (b a)))))))))))))))))))))))))))))))))))) (g (ac b 136 f) c d))) λa=>aX f (a (zx b 123 g 124 i 128 f) c d) (E (aC .eql g (.Z 20)) λe=>a (zy b 123 g 124 i 128 f 128 e) c d))) λa=>aX c (e (.bool false) g h) (a (ac b 119 c) g h)) λa=>aX c (a (.bool true)) (a d)))))))))))) λa=>aX c (a (.bool true)) (a d)))))))))))) λa=>aX g (a c) (a (.bool false))))))))) λa=>aX c (e (.bool false) g i) (a (ac b 84 c) g i)) λa=>aX c (a (.bool true)) (a d))))))))))))) λa=>aX g (a (.bool true)) (a c)))))))))))) λa=>aX c (e (.bool false) g h) (a (ac b 51 c) g h)) λa=>aX c (a (.bool true)) (a d))))))) λa=>aX c (a (.bool true)) (a g))))))))))))))) λa=>aX g (a (.bool true)) (a c))))))) λe=>aX i (E (eC [(.Z 0),(.bool false),(.bool false),(.bool false)] [(0,1,(.Z 2))]) λf=>E (b8 a d 4 c f) λa=>e (zy (cZ [b]) 2 (.bool false) 3 c 4 h 16 i) a g) (e (zy (cZ [b]) 2 (.bool false) 3 c 4 h 16 i) d g)
def ahQ:di X 191 [a0] h j ak ay=Vk X a0 h j ak ay:=Zk
def ahP:cX X 191 1=true:=Zk
def Vl(a:a2)(b c:J)(d:V an)(e:Nat)(f g:bJ):Prop:=
 E (dI b) λh=>aT (λ_ a b=>f (.Z (-1)) a b) λi=>fu (λb c d e=>aj (c 8) λh=>aj (c 7) λj=>E (aC .lss h j) λh=>aT (λc d e=>aT (λa c d=>aj (a 8) λe=>E (aC .add e (.Z 1)) λe=>b (ac a 8 e) c d) λb=>aj (c 8) λh=>aj (c 1) λi=>aj (c 0) λj=>E (dd 1 j h) λj=>E (al a d j) λj=>iw a i [j] d e (λa d e=>aT b λb=>aX a (f h d e) (b (zw c 5 h 16 a) d e)) g) λa=>aX h (a (ac c 9 h) d e) (i (ac c 9 h) d e)) (zx (cZ [b,c]) 4 (.Z 0) 7 h 8 (.Z 0)) d e
def ahS:di X 192 [a0,bf] h j ak ay=Vl X a0 bf h j ak ay:=Zk
def ahR:cX X 192 2=true:=Zk
def VB(a:a2)(b c d:J)(e:V an)(f:Nat)(g h:bJ):Prop:=
 gR (Tp a e f b) e f λe f i=>aT (λ_ a b=>g (.Z (-1)) a b) λj=>fu (λb c d e=>aj (c 10) λf=>Fp (w7 a iN true d e (kw f)) d e λd e f=>E (cK 0 d) λi=>aT (λc d e=>aT b λb=>aj (c 11) λf=>E (cK 1 f) λf=>aj (c 11) λi=>E (cK 2 i) λi=>aj (c 1) λj=>iw a j [i] d e (λd e h=>aj (c 2) λj=>E (dc a e .eql 4 false d j) λa=>aT b λb=>aX a (g f e h) (b (zx c 7 f 8 i 19 a) e h)) h) λa=>aX i (a (zw c 11 d 12 i) e f) (j (zw c 11 d 12 i) e f)) (zw (cZ [b,c,d]) 6 (.Z 0) 10 e) f i
def aio:di X 213 [a0,bf,ck] h j ak ay=VB X a0 bf ck h j ak ay:=Zk
def ain:cX X 213 3=true:=Zk
def VC(a:a2)(b c:J)(d:V an)(e:Nat)(f _:bJ):Prop:=
 E (dI b) λg=>aT (λ_ a b=>f (.Z (-1)) a b) λh=>fu (λb c d e=>aj (c 8) λg=>aj (c 7) λi=>E (aC .lss g i) λg=>aT (λc d e=>aT (λa c d=>aj (a 8) λe=>E (aC .add e (.Z 1)) λe=>b (ac a 8 e) c d) λb=>aj (c 8) λg=>aj (c 1) λh=>aj (c 0) λi=>E (dd 1 i g) λi=>E (al a d i) λi=>E (dc a d .eql 9 false h i) λa=>aT b λb=>aX a (f g d e) (b (zw c 5 g 16 a) d e)) λa=>aX g (a (ac c 9 g) d e) (h (ac c 9 g) d e)) (zx (cZ [b,c]) 4 (.Z 0) 7 g 8 (.Z 0)) d e
def aiq:di X 214 [a0,bf] h j ak ay=VC X a0 bf h j ak ay:=Zk
def aip:cX X 214 2=true:=Zk
def VD(a:a2)(b c:J)(d:V an)(e:Nat)(f g:bJ):Prop:=
 aW a 236 [b,c] d e (λa b c=>E (aC .geq a (.Z 0)) λa=>f a b c) g
def ais:di X 215 [a0,bf] h j ak ay=VD X a0 bf h j ak ay:=Zk
def air:cX X 215 2=true:=Zk
def VE(a:a2)(b:J)(c:V an)(d:Nat)(e f:bJ):Prop:=
 E (cl b) λg=>E (a1 4 g) λg=>E (a1 2 g) λg=>E (al a c g) λg=>E (cl b) λh=>E (a1 4 h) λh=>E (a1 1 h) λh=>E (al a c h) λh=>aT (λb c d=>aj (b 0) λg=>E (cl g) λg=>E (a1 0 g) λg=>E (al a c g) λg=>E (aC .eql g (.Z 1)) λg=>kG g (b 0) c d (λc d h=>cN g (cl c) d h (λc d h=>cN g (a1 4 c) d h (λc d h=>cN g (bM a d 3 c) d h (λc d h=>jZ g (λb=>aW a 182 [c] d h b f) d h (λc d f=>cU (λc=>kG c (b 3) d f (λd f g=>cN c (aC .eql d (.Z 64)) f g (λd f g=>js c d f g (λd f g=>tX d (b 0) f g (λf g h=>c9 d (cl f) g h (λf g h=>c9 d (a1 7 f) g h (λf g h=>c9 d (al a g f) g h (λa f g=>tX d (b 3) f g (λb f g=>c9 d (aC .shr a b) f g (λa b f=>c9 d (aC .eql a (.int .u64 0)) b f (λa b f=>jZ c (λc=>cU (λa=>c a b f) λb=>aX d (b (.bool true)) (b a)) b f (λa b d=>cU (λa=>e a b d) λb=>aX c (b a) (b (.bool false)))))))))))))) λa=>aX g (a c) (a (.bool false)))))))) λa=>aX h (E (aC .sub g (.Z 1)) λe=>a (zy (cZ [b]) 2 (.bool false) 3 g 13 h 3 e) c d) (a (zx (cZ [b]) 2 (.bool false) 3 g 13 h) c d)
def aiu:di X 216 [a0] h j ak ay=VE X a0 h j ak ay:=Zk
def ait:cX X 216 1=true:=Zk
def VO(a:a2)(b c:J)(d:V an)(e:Nat)(f _:bJ):Prop:=
 E (dI b) λg=>aT (λ_ a b=>f (.Z (-1)) a b) λh=>fu (λb c d e=>aj (c 8) λg=>aj (c 7) λi=>E (aC .lss g i) λg=>aT (λc d e=>aT (λa c d=>aj (a 8) λe=>E (aC .add e (.Z 1)) λe=>b (ac a 8 e) c d) λb=>aj (c 8) λg=>aj (c 1) λh=>aj (c 0) λi=>E (dd 1 i g) λi=>E (al a d i) λi=>E (dc a d .eql 47 false h i) λa=>aT b λb=>aX a (f g d e) (b (zw c 5 g 16 a) d e)) λa=>aX g (a (ac c 9 g) d e) (h (ac c 9 g) d e)) (zx (cZ [b,c]) 4 (.Z 0) 7 g 8 (.Z 0)) d e
def aiO:di X 236 [a0,bf] h j ak ay=VO X a0 bf h j ak ay:=Zk
def aiN:cX X 236 2=true:=Zk
def aeA(a:a2)(b:bJ):gB:=λc d e=>nj a [.tmp 2] b c c.bg d e
def adZ(a:a2)(b c:bJ):rZ:=λd e f g=>vP a [.tmp 2] b c d e d.bg f g
def VX(a:a2)(b:J)(c:V an)(d:Nat)(e f:bJ):Prop:=
 iG a c d b λc d g=>cH a d g (.map g) (.map [] 0) λd g h=>E (eC [.l2, .aU] [(0,1,d)]) λd=>iG a g h d λd g h=>E (dA [.cy] h) λi=>cH a g h i.1 i.2 λg h i=>E (b8 a h 1 g d) λd=>E (bM a d 6 c) λh=>aW a 78 [h] d i (λd h i=>aT (λb c d=>aj (b 1) λf=>E (a1 5 f) λf=>E (al a c f) λf=>E (dI f) λg=>aT (λb c d=>aj (b 3) λf=>E (al a c f) λf=>aeA a e (ac b 2 f) c d) λe=>fu (λb c d f=>aj (c 56) λg=>aj (c 55) λh=>E (aC .lss g h) λg=>aT (λc d e=>aT (λa c d=>aj (a 56) λe=>E (aC .add e (.Z 1)) λe=>b (ac a 56 e) c d) λb=>aj (c 56) λf=>aj (c 54) λg=>aj (c 56) λh=>E (dd 4 g h) λg=>E (bM a d 4 g) λg=>E (dA [.aU, .aU,(.Z 0), .cy] e) λh=>cH a d e h.1 h.2 λd e h=>E (b8 a e 4 d g) λe=>E (a1 0 d) λg=>E (al a e g) λg=>E (dI g) λi=>aT b λb=>fu (λc d e f=>aj (d 64) λg=>aj (d 63) λh=>E (aC .lss g h) λg=>aT (λb d e=>aT (λa b d=>aj (a 64) λe=>E (aC .add e (.Z 1)) λe=>c (ac a 64 e) b d) λc=>aj (b 64) λf=>aj (b 62) λg=>aj (b 64) λh=>E (dd 1 g h) λg=>E (al a d g) λg=>aj (b 3) λh=>E (al a d h) λh=>E (cl h) λh=>E (a1 0 h) λh=>E (al a d h) λh=>E (kJ a d 9 (.agg [(.Z 0),(.str []),(.Z 0),(.bool false),(.bool false),(.Z 0),(.str []),(.Z 0),(.bool false),(.Z 0),(.Z 0)]) h g true) λh=>E (cK 0 h) λi=>E (cK 1 h) λh=>E (dA [(.Z 0),(.str []),(.Z 0),(.bool false),(.bool false),(.Z 0),(.str []),(.Z 0),(.bool false),(.Z 0),(.Z 0)] e) λj=>cH a d e j.1 j.2 λd e j=>E (b8 a e 11 d i) λe=>cN h (a1 9 d) e j (λe i j=>cN h (al a i e) i j (λe i j=>cN h (aC .lss e (.Z 0)) i j (λe i j=>cU (λe=>aT c λc=>aX e (aj (b 8) λk=>E (a1 9 d) λl=>E (b8 a i 1 l k) λi=>E (a1 10 d) λk=>E (b8 a i 1 k f) λi=>eM (j+7) λj=>aj (b 3) λk=>E (al a i k) λk=>E (cl k) λk=>E (a1 0 k) λk=>E (al a i k) λk=>E (bM a i 11 d) λl=>gR (vL a i j 9 k g l) i j λ_ a i=>c (ac (zy b 10 f 11 g 12 d 13 h) 83 e) a i) (c (ac (zy b 10 f 11 g 12 d 13 h) 83 e) i j)) λa=>aX h (a e) (a (.bool false)))))) λa=>aX g (a (ac d 65 g) e f) (b (ac d 65 g) e f)) (ac (zy c 9 d 8 f 62 g 63 i) 64 (.Z 0)) e h) λa=>aX g (a (ac c 57 g) d f) (e (ac c 57 g) d f)) (zx b 54 f 55 g 56 (.Z 0)) c d) λj=>D9 a 97 d [19,20] (sY a (λ_ _ b _ _ c d e=>aj (c 19) λf=>E (dA [(.str []),(.Z 0),(.bool false),(.bool false),(.Z 0),(.str []),(.Z 0),(.bool false)] e) λg=>cH a d e g.1 g.2 λd e g=>aj (c 20) λh=>E (b8 a e 8 d h) λa=>b (zw c 4 f 5 d) a g) (λ_ _ b _ _ c d e=>aT b λb=>eM (e+13) λf=>aj (c 3) λg=>E (al a d g) λg=>E (cl g) λg=>E (a1 0 g) λg=>E (al a d g) λg=>aj (c 5) λh=>E (a1 0 h) λh=>E (al a d h) λh=>E (kJ a d 9 (.agg [(.Z 0),(.str []),(.Z 0),(.bool false),(.bool false),(.Z 0),(.str []),(.Z 0),(.bool false),(.Z 0),(.Z 0)]) g h true) λg=>E (cK 0 g) λh=>E (cK 1 g) λg=>E (dA [(.Z 0),(.str []),(.Z 0),(.bool false),(.bool false),(.Z 0),(.str []),(.Z 0),(.bool false),(.Z 0),(.Z 0)] (e+10)) λi=>ld a d (e+10) i.1 i.2 λd e=>E (b8 a e 11 d h) λd=>E (fe .not g) λe=>aT b λb=>aX e (eM (f+10) λf=>aj (c 3) λh=>E (al a d h) λh=>E (cl h) λh=>E (a1 0 h) λh=>E (al a d h) λh=>aj (c 5) λi=>E (a1 0 i) λi=>E (al a d i) λi=>aj (c 4) λj=>aj (c 5) λk=>E (bM a d 8 k) λk=>E (eC [(.Z 0),(.str []),(.Z 0),(.bool false),(.bool false),(.Z 0),(.str []),(.Z 0),(.bool false),(.Z 0),(.Z 0)] [(0,1,j),(1,8,k),(9,1,(.Z (-1))),(10,1,(.Z (-1)))]) λj=>gR (vL a d f 9 h i j) d f λ_ d f=>eM (f+12) λh=>aj (c 3) λi=>E (al a d i) λi=>aj (c 3) λj=>E (al a d j) λj=>E (cl j) λj=>E (a1 1 j) λj=>E (al a d j) λj=>aj (c 5) λk=>E (a1 0 k) λk=>E (al a d k) λk=>E (fw 1 [(.str [])] [(0,1,k)] (f+7)) λk=>ld a d (f+7) k.1 k.2 λd f=>gR (is a f h 1 j d) f h λd f h=>E (cl i) λj=>E (a1 1 j) λj=>aj (c 3) λk=>E (al a f k) λk=>gi k (some i) (E (b8 a f 1 j d) λa=>b (zw c 7 g 32 e) a h)) (b (zw c 7 g 32 e) d f))) j (CO 0 j (λ_ _ _ _=>False)) (aeA a e) (adZ a e f) (zy (cZ [b]) 1 c 2 .cy 3 g 18 d) h i) (adZ a e f (hP [17,18] (zx (cZ [b]) 1 c 2 .cy 3 g)))
def ai6:AZ X 32 [a0] h j ak ay=VX X a0 h j ak ay:=Zk
def ai5:cX X 32 1=true:=Zk
def VZ(a:a2)(b c:J)(d:V an)(e:Nat)(f _:bJ):Prop:=
 E (dA [(.Z 0),(.str []),(.Z 0),(.bool false),(.bool false),(.Z 0),(.str []),(.Z 0),(.bool false),(.Z 0),(.Z 0)] e) λg=>cH a d e g.1 g.2 λd e g=>E (dc a e .eql 68 true b .cy) λh=>aT (λb c d=>aj (b 0) λe=>E (cl e) λe=>E (a1 0 e) λe=>E (al a c e) λe=>aj (b 1) λg=>E (kJ a c 9 (.agg [(.Z 0),(.str []),(.Z 0),(.bool false),(.bool false),(.Z 0),(.str []),(.Z 0),(.bool false),(.Z 0),(.Z 0)]) e g true) λe=>E (cK 0 e) λg=>E (cK 1 e) λe=>E (dA [(.Z 0),(.str []),(.Z 0),(.bool false),(.bool false),(.Z 0),(.str []),(.Z 0),(.bool false),(.Z 0),(.Z 0)] d) λh=>cH a c d h.1 h.2 λc d h=>E (b8 a d 11 c g) λd=>E (bM a d 11 c) λc=>aj (b 4) λg=>E (b8 a d 11 g c) λc=>aj (b 4) λb=>E (bM a c 11 b) λa=>f (.tuple [a,e]) c h) λi=>aX h (E (eC [(.Z 0),(.str []),(.Z 0),(.bool false),(.bool false),(.Z 0),(.str []),(.Z 0),(.bool false),(.Z 0),(.Z 0)] []) λb=>E (b8 a e 11 d b) λb=>E (bM a b 11 d) λa=>f (.tuple [a,(.bool false)]) b g) (i (zx (cZ [b,c]) 4 d 5 (.bool false) 9 h) e g)
def aja:di X 34 [a0,bf] h j ak ay=VZ X a0 bf h j ak ay:=Zk
def ai9:cX X 34 2=true:=Zk
def UA(a:a2)(b:J)(c:V an)(d:Nat)(e f:bJ):Prop:=
 iG a c d b λc d g=>aT (λb c d=>aj (b 1) λb=>E (a1 2 b) λb=>E (al a c b) λb=>aW a 183 [b] c d (λb c d=>E (dc a c .add 9 true (.str [117]) b) λa=>e a c d) f) λh=>E (bM a d 3 c) λi=>aW a 182 [i] d g (λd g i=>E (fe .not d) λd=>aT h λh=>aX d (e (.str []) g i) (E (a1 0 c) λj=>E (al a g j) λj=>aT h λh=>aX j (e (.str [98,111,111,108]) g i) (E (a1 1 c) λk=>E (al a g k) λk=>aT h λh=>aX k (E (a1 2 c) λb=>E (al a g b) λb=>aW a 183 [b] g i (λb c d=>E (dc a c .add 9 true (.str [105]) b) λa=>e a c d) f) (h (ac (zy (cZ [b]) 1 c 2 (.str []) 3 d 7 j) 10 k) g i)))) f
def agy:di X 128 [a0] h j ak ay=UA X a0 h j ak ay:=Zk
def agx:cX X 128 1=true:=Zk
end
end Go.Proofs.YtpfajohmofnkfaaGreatDoor

namespace Go.Proofs.YtpfajohmofnkfaaGreatDoor
open Go.bk Go.aZ
noncomputable section
def g1:Nat->bG->Nat
 |0,_=>0
 |F+1,I=>I.args.foldl (λa K=>max a (g1 F K)) 0+1
def aqc:∀F I,g1 F I<=F:=by
 intro F
 induction F with
 |zero=>intro I;simp[g1]
 |succ F am=>
  intro I
  have:∀(l:List bG) a,a<=F->l.foldl (λa K=>max a (g1 F K)) a<=F:=by
   intro l
   induction l with
   |nil=>intro a gK;exact gK
   |cons K l JH=>intro a gK;exact JH _ (Nat.max_le.2 ⟨gK,am K⟩)
  have:=this I.args 0 Zo
  show _+1<=F+1
  omega
def aud{C:a2}{h:V an}(K b:Nat):r7 C h .max [3,3] [.Z (K:Int), .Z (b:Int)]=some (.Z ((max K b:Nat):Int)):=by
 show oM true (.Z (K:Int)) [.Z (b:Int)]=_
 simp only[oM,fG,tW,ZD]
 congr 2
 split<;>simp_all<;>omega
def NR{X:co}{h:V an}(b:Nat):dc X h .eql 47 true (.ptr b 0) .cy=some (.bool false):=Zk
section
variable{X:co}{h U a6 aR:V an}{j ar aJ bc aK bN:Nat}{aY:List Tok}{i:Nat}
def apV(az:dx X):∀(F:Nat),F<=1000->∀h j P I v,(q X).ba<=j->cR X h P I v->(∀e,P e->e<j)->
 aW X 177 [v, .Z (F:Int)] h j (λae U ar=>ae= .Z (g1 F I:Nat)/\bh X h j U ar) (λ_ _ _=>False):=by
 intro F
 induction F with
 |zero=>
  intro _ h j P I v aM bA bB
  refine zv az (U6 X) ?_
  rw[U7]
  unfold OT
  obtain⟨b,rfl,ai,_⟩:=bA.ptr
  have gp:=bB b ai
  refine c1 @NR @Int.natCast_zero ⟨?_⟩
  exact⟨rfl,dR⟩
 |succ F am=>
  intro aL h j P I v aM bA bB
  refine zv az (U6 X) ?_
  rw[U7]
  unfold OT
  obtain⟨b,a8,cD,bj,rfl,ai,a0,bf,ck,a3,a4,a5,hv,ic,ir,cG,has⟩:=bA.open
  have gp:=bB b ai
  have ew:=cG.len
  have xt:=has.len
  have k5:((F+1:Nat):Int)=(F:Int)+1:=Zo
  have d:decide (((F+1:Nat):Int)=0)=false:=by simp;omega
  have bH:aC .sub (.Z ((F+1:Nat):Int)) (.Z 1)=some (.Z (F:Int)):=by rw[BA Zo Zo];congr 2;omega
  have bs:=cG.many
  rw[Zi,xt]at bs
  rw[Zi,xt]at ew
  refine fW @NR @d @bH @ir @ew ⟨?_⟩
  refine fC (λm M U aV=>∃(aa:Nat) (a:Nat),M.g 1=some (.Z (F:Int))/\M.g 5=some (.Z (a:Int))/\M.g 19=some a8/\M.g 20=some (.Z (I.args.length:Int))/\M.g 21=some (.Z (aa:Int))/\aa+m=I.args.length/\a<=F/\bh X h j U aV/\g1 (F+1) I=(I.args.drop aa).foldl (λa K=>max a (g1 F K)) a+1)
   I.args.length ⟨0,0,bp,fQ,bp,bp,fQ,Zo,Zo,bh.refl _ _,by simp[g1]⟩ ?_
  rintro m M aR bc ⟨aa,a,t1,t5,xT,Ep,TS,bL,gK,bC,b0⟩
  have f5:=bC.le
  have cP:=zt aa
  have fH:=zt a
  cases m with
  |zero=>
   have cQ:=zp aa I.args.length
   rw[ZH Zo]at b0
   simp only[List.foldl_nil]at b0
   refine fW @TS @Ep @t5 @cQ @fH ⟨?_⟩
   exact⟨by first|rw[b0]|(simp only[b0];rfl),bC⟩
  |succ m=>
   have cQ:=zq aa I.args.length
   obtain⟨K,aE⟩:=zr I.args aa
   obtain⟨v,bD,apl⟩:=has.get aa K aE
   obtain⟨b5,cd,c0⟩:=(cG.ad λe H=>bC.ad e (bB e H)).one bD
   refine eu @TS @Ep @t5 @xT @t1 @cQ (Za @b5 @cd) ⟨?_⟩
   refine(am Zo aR bc P K v Zo (apl.ad λe H=>bC.ad e (bB e H)) (λe H=>zo (bB e H))).Zm ?_
   rintro Aq a7 bd ⟨rfl,cm⟩
   have ik:=cm.le
   have jR:r7 X a7 .max [3,3] [.Z (a:Int), .Z ((g1 F K:Nat):Int)]=some (.Z ((max a (g1 F K):Nat):Int)):=aud _ _
   refine d9 @jR @TS @cP ⟨?_⟩
   refine⟨m,Zo,aa+1,max a (g1 F K),aQ t1,bp,aQ xT,aQ Ep,bp,Zo,Nat.max_le.2 ⟨gK,aqc F K⟩,bC.trans cm, ?_⟩
   have aO:I.args.drop aa=K::I.args.drop (aa+1):=by
    obtain⟨ah,H⟩:=Zc.1 aE
    rw[Zw ah,H]
   rw[aO,YE]at b0
   exact b0
end
def BM:List gv->Option Int
 |[]=>none
 |ao::l=>if 200<g1 201 ao.right then some ao.at_ else BM l
def rz:List Go.aZ.Node->Option (Int×Int)
 |[]=>none
 |g::l=>if 256<g.ef.length+g.out.length+g.loc.length\/4096<g.eqs.length then some (30,g.at_)else match BM g.eqs with
  |some K=>some (22,K)
  |none=>rz l
def qM(aq:List Go.aZ.Node):Option (Int×Int):=match aq[64]? with
 |some g=>some (30,g.at_)
 |none=>rz aq
section
variable{X:co}{h U a6 aR:V an}{j ar aJ bc aK bN:Nat}{aY:List Tok}{i:Nat}
def apU(az:dx X){P:Nat->Prop}{I:bG}{v:J}(aM:(q X).ba<=j)(bA:cR X h P I v)(bB:∀e,P e->e<j):
 aW X 118 [v] h j (λae U ar=>ae= .Z (g1 201 I:Nat)/\bh X h j U ar) (λ_ _ _=>False):=by
 refine zv az (agn X) ?_
 rw[ago]
 unfold Uv
 exact(apV az 201 Zo h j P I v aM bA bB)
def atS(az:dx X){P:Nat->Prop}{aq:List Go.aZ.Node}{v:J}(aM:(q X).ba<=j)(b0:ns X h P aq v)(bB:∀e,P e->e<j):
 aW X 69 [v] h j (λae U ar=>qM aq=none/\ae= .tuple []/\bh X h j U ar) (λae U ar=>∃F K,qM aq=some (F,K)/\ae=oS F K/\bh X h j U ar):=by
 refine zv az (ajr X) ?_
 rw[ajs]
 unfold Wa
 obtain⟨b,a8,cD,bF,rfl,k1,a0,cG,u5⟩:=b0
 have xh:=u5.wide
 have ew:=cG.len
 have h7:=cG.many
 rw[xh.1]at ew h7
 by_cases Fx:64<aq.length
 ·obtain⟨g,abg⟩:∃g,aq[64]? =some g:=⟨_,Ze Fx⟩
  obtain⟨row,ft,kh⟩:=u5.get 64 g abg
  have dQ:=cG.e9 64 Zo
  obtain⟨cY,df,TF,eR,cT,dL,et,ig,aeD,rfl,_⟩:=kh
  have aB:=cG.cell 64 _ 1 _ ft rfl
  have d:decide ((64:Int)<(aq.length:Int))=true:=by simp;omega
  have aqi:dd 6 a8 (.Z 64)=some (.ptr cD (64*6)):=dQ
  refine fW @a0 @ew @d @aqi @aB ⟨?_⟩
  refine⟨⟨30,g.at_,by simp[qM,abg],rfl,bh.refl _ _⟩⟩
 ·have aD:qM aq=rz aq:=by simp[qM,ZU (by omega:aq.length<=64)]
  have d:decide ((64:Int)<(aq.length:Int))=false:=by simp;omega
  rw[aD]
  refine d9 @a0 @ew @d ⟨?_⟩
  refine fC (λm M U aV=>∃(aa:Nat),M.g 24=some a8/\M.g 25=some (.Z (aq.length:Int))/\M.g 26=some (.Z (aa:Int))/\aa+m=aq.length/\bh X h j U aV/\rz aq=rz (aq.drop aa))
   aq.length ⟨0,bp,bp,fQ,Zo,bh.refl _ _,rfl⟩ ?_
  rintro m M aR bc ⟨aa,Er,mz,lj,bL,bC,De⟩
  have f5:=bC.le
  have cP:=zt aa
  cases m with
  |zero=>
   have cQ:=zp aa aq.length
   rw[ZH Zo]at De
   refine d9 @lj @mz @cQ ⟨?_⟩
   exact⟨De,rfl,bC⟩
  |succ m=>
   have cQ:=zq aa aq.length
   obtain⟨g,nC⟩:=zr aq aa
   have aO:aq.drop aa=g::aq.drop (aa+1):=by
    obtain⟨ah,H⟩:=Zc.1 nC
    rw[Zw ah,H]
   rw[aO]at De
   obtain⟨row,ft,kh⟩:=u5.get aa g nC
   have dQ:=cG.e9 aa Zo
   have hS:=(cG.ad λe H=>bC.ad e (bB e H)).row Zd ft
   have aqK:=kh.ad (bv:=P) (λe H=>bC.ad e (bB e H)) (λ_ a=>a)
   have xo:=kh.jI
   obtain⟨cY,df,TF,eR,cT,dL,et,ig,aeD,rfl,cL,cC,d6,fU,lC⟩:=aqK
   have en:=cL.len;have c5:=cC.len;have eV:=d6.len;have g2:=fU.len
   have fc:=cL.many;have f1:=cC.many;have je:=d6.many;have sN:=fU.many
   have afo:=lC.wide
   rw[Zi]at en c5 eV fc f1 je
   rw[afo.1]at g2 sN
   have fH:aC .add (.Z (g.ef.length:Int)) (.Z (g.out.length:Int))=some (.Z ((g.ef.length+g.out.length:Nat):Int)):=by rw[eL Zo Zo];rfl
   have jR:aC .add (.Z ((g.ef.length+g.out.length:Nat):Int)) (.Z (g.loc.length:Int))=some (.Z ((g.ef.length+g.out.length+g.loc.length:Nat):Int)):=by rw[eL Zo Zo];rfl
   refine iu @lj @mz @Er @cQ @dQ @hS ⟨?_⟩
   refine fS (im (F:=6) (b:=bc) (Y:=0) (n:=6) (c:=V.ofList [.str [], .Z 0, .aU, .aU, .aU, .aU] 0 .nil) (bi Zo) Zo rfl Zd Zd xo) ?_
   generalize fl:bo X _ bc _=a7
   have tv:ab X a7 bc=some (.cells (d3 (V.ofList [.str [], .Z 0, .aU, .aU, .aU, .aU] 0 .nil) 0 [.str g.name, .Z g.at_,cY,df,TF,eR]) 6 .own):=by rw[<-fl];exact bi Zo
   have cm:bh X h j a7 (bc+1):=bC.trans (by rw[<-fl];exact dR)
   have c7:∀e,P e->ab X a7 e=ab X h e:=λe H=>cm.ad e (bB e H)
   clear fl
   have dy:al X a7 (.ptr bc 1)=some (.Z g.at_):=by rw[bR tv];rfl
   have dZ:al X a7 (.ptr bc 2)=some cY:=by rw[bR tv];rfl
   have hk:al X a7 (.ptr bc 3)=some df:=by rw[bR tv];rfl
   have yj:al X a7 (.ptr bc 4)=some TF:=by rw[bR tv];rfl
   have ka:al X a7 (.ptr bc 5)=some eR:=by rw[bR tv];rfl
   by_cases aop:256<g.ef.length+g.out.length+g.loc.length
   ·have eZ:decide ((256:Int)<((g.ef.length+g.out.length+g.loc.length:Nat):Int))=true:=by simp;omega
    refine eu @dy @dZ @hk @yj @ka @en (Za @c5 (Za @eV (Za @g2 (Za @fH (Za @jR @eZ))))) ⟨?_⟩
    exact⟨⟨30,g.at_,by rw[De,rz,Zr (.inl aop)],rfl,cm⟩⟩
   have eZ:decide ((256:Int)<((g.ef.length+g.out.length+g.loc.length:Nat):Int))=false:=by simp;omega
   by_cases aoq:4096<g.eqs.length
   ·have iH:decide ((4096:Int)<(g.eqs.length:Int))=true:=by simp;omega
    refine eu @dy @dZ @hk @yj @ka @en (Za @c5 (Za @eV (Za @g2 (Za @fH (Za @jR (Za @eZ @iH)))))) ⟨?_⟩
    exact⟨⟨30,g.at_,by rw[De,rz,Zr (.inr aoq)],rfl,cm⟩⟩
   have iH:decide ((4096:Int)<(g.eqs.length:Int))=false:=by simp;omega
   refine eu @dy @dZ @hk @yj @ka @en (Za @c5 (Za @eV (Za @g2 (Za @fH (Za @jR (Za @eZ (Za @iH (Za @Er (Za @mz @lj))))))))) ⟨?_⟩
   have ai:rz aq=(match BM g.eqs with|some K=>some (22,K)|none=>rz (aq.drop (aa+1))):=by rw[De,rz,Zh Zo]
   have MX:=fU.ad (U:=h) (λe H=>(bC.ad e (bB e H)).symm)
   have av0:=lC.ad (U:=h) (bv:=P) (λe H=>(bC.ad e (bB e H)).symm) (λ_ a=>a)
   refine fC (λje M U aV=>∃(i:Nat),M.g 24=some a8/\M.g 25=some (.Z (aq.length:Int))/\M.g 26=some (.Z (aa:Int))/\M.g 53=some eR/\M.g 54=some (.Z (g.eqs.length:Int))/\M.g 55=some (.Z (i:Int))/\i+je=g.eqs.length/\bh X h j U aV/\BM g.eqs=BM (g.eqs.drop i))
    g.eqs.length ⟨0,aQ Er,aQ mz,aQ lj,bp,bp,fQ,Zo,cm,rfl⟩ ?_
   clear Er mz lj dy dZ hk yj ka tv c7 cm
   rintro je M a7 bd ⟨i,Er,mz,lj,qb,ko,qc,aN,cm,vd⟩
   have ik:=cm.le
   cases je with
   |zero=>
    have gc:=zp i g.eqs.length
    rw[ZH Zo]at vd
    refine fW @qc @ko @gc @lj @cP ⟨?_⟩
    refine⟨m,Zo,aa+1,aQ Er,aQ mz,bp,Zo,cm, ?_⟩
    rw[ai,vd];rfl
   |succ je=>
    have gc:=zq i g.eqs.length
    have pN:=zt i
    obtain⟨ao,xq⟩:=zr g.eqs i
    have apI:g.eqs.drop i=ao::g.eqs.drop (i+1):=by
     obtain⟨ah,H⟩:=Zc.1 xq
     rw[Zw ah,H]
    rw[apI,BM]at vd
    obtain⟨row,ft,vi⟩:=av0.get i ao xq
    have aqj:=fU.e9 i (by rw[afo.1];omega)
    have Jo:=(MX.ad λe H=>cm.ad e (bB e H)).row Zd ft
    obtain⟨akk,aki,aza,azb,l4,rfl,_,_,arz,lw⟩:=vi
    refine iu @qc @ko @qb @gc @aqj @Jo ⟨?_⟩
    refine fS (im (F:=4) (b:=bd) (Y:=0) (n:=4) (c:=V.ofList [.aU, .aU, .Z 0, .cy] 0 .nil) (bi Zo) Zo rfl Zd Zd lw) ?_
    generalize eB:bo X _ bd _=bw
    have Ip:ab X bw bd=some (.cells (d3 (V.ofList [.aU, .aU, .Z 0, .cy] 0 .nil) 0 [akk,aki, .Z ao.at_,l4]) 4 .own):=by rw[<-eB];exact bi Zo
    have dj:bh X a7 bd bw (bd+1):=by rw[<-eB];exact dR
    have Fz:=cm.trans dj
    clear eB
    have hk:al X bw (.ptr bd 3)=some l4:=by rw[bR Ip];rfl
    refine ce @hk ⟨?_⟩
    refine(apU az Zo (arz.ad λe H=>Fz.ad e (bB e H)) (λe H=>zo (bB e H))).Zm ?_
    rintro Ey bS cj ⟨rfl,dF⟩
    have il:=dF.le
    have dZ:al X bS (.ptr bd 2)=some (.Z ao.at_):=by rw[bR (by rw[dF.ad _ Zo];exact Ip)];rfl
    by_cases gK:200<g1 201 ao.right
    ·have h3:decide ((200:Int)<((g1 201 ao.right:Nat):Int))=true:=by simp;omega
     rw[Zr gK]at vd
     refine c1 @h3 @dZ ⟨?_⟩
     exact⟨⟨22,ao.at_,by rw[ai,vd],rfl,Fz.trans dF⟩⟩
    ·have h3:decide ((200:Int)<((g1 201 ao.right:Nat):Int))=false:=by simp;omega
     rw[Zh gK]at vd
     refine d9 @h3 @qc @pN ⟨?_⟩
     exact⟨je,Zo,i+1,aQ Er,aQ mz,aQ lj,aQ qb,aQ ko,bp,Zo,Fz.trans dF,vd⟩
end
end
end Go.Proofs.YtpfajohmofnkfaaGreatDoor

