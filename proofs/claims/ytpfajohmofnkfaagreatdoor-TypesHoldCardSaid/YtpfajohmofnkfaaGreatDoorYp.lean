/- A part of the last text's proof; no condition of its own -/
import Derived.Test.YtpfajohmofnkfaaGreatDoorYo
set_option maxHeartbeats 8000000
set_option linter.all false
namespace Go.Proofs.YtpfajohmofnkfaaGreatDoor
open Go.bk
noncomputable section
variable (X : co) (h : V an) (j : Nat) (ak ay : bJ) (a0 bf ck a3 a4 a5 hv ic ir : J)
def G8(a:a2)(b:bJ):gB:=λc d e=>nj a [.cell 2 65, .cell 3 26] b c c.bg d e
def NQ(a:a2)(b c:bJ):rZ:=λd e f g=>vP a [.cell 2 65, .cell 3 26] b c d e d.bg f g
def VW(a:a2)(b:J)(c:V an)(d:Nat)(e f:bJ):Prop:=
 E (dA [.cy] d) λg=>cH a c d g.1 g.2 λc d g=>E (dA [(.Z 0),(.Z 0)] g) λh=>cH a d g h.1 h.2 λd g h=>aW a 20 [b] g h (λg h i=>E (dA [(.Z 0),(.Z 0)] i) λj=>cH a h i j.1 j.2 λh i j=>E (b8 a i 2 h g) λg=>E (a1 0 h) λi=>E (al a g i) λi=>E (aC .neq i (.Z 0)) λi=>aT (λb c d=>aj (b 2) λg=>aj (b 3) λh=>H1 (.func (.func 76) [] [g,h]) [] b λb=>cH a c d (.map d) (.map [] 0) λc d g=>E (eC [.l2] [(0,1,c)]) λc=>iG a d g c λc d g=>aj (b 2) λh=>E (b8 a d 1 h c) λc=>aj (b 2) λd=>E (al a c d) λd=>aj (b 0) λh=>E (eC [.cy, .cy, .cy] [(0,1,d),(1,1,h)]) λd=>iG a c g d λc d g=>aj (b 0) λh=>E (cl h) λh=>E (a1 0 h) λh=>E (al a d h) λh=>E (dI h) λi=>aT (λb c d=>aj (b 2) λf=>E (al a c f) λf=>E (eC [(.Z 0),(.Z 0)] []) λg=>aj (b 2) λh=>E (b8 a c 1 h f) λc=>aj (b 3) λf=>E (b8 a c 2 f g) λc=>G8 a e b c d) λj=>fu (λb c d g=>aj (c 27) λh=>aj (c 26) λi=>E (aC .lss h i) λh=>aT (λc d g=>aT (λa c d=>aj (a 27) λe=>E (aC .add e (.Z 1)) λe=>b (ac a 27 e) c d) λb=>aj (c 25) λh=>aj (c 27) λi=>E (dd 6 h i) λh=>E (bM a d 6 h) λh=>E (dA [(.str []),(.Z 0), .aU, .aU, .aU, .aU] g) λi=>cH a d g i.1 i.2 λd g i=>E (b8 a g 6 d h) λg=>aj (c 5) λh=>E (bM a g 6 d) λj=>aW a 77 [h,j] g i (λ_ a e=>b (ac c 7 d) a e) (NQ a e f (hP [31,32,33] (ac c 7 d)))) λa=>aX h (a (ac c 28 h) d g) (j (ac c 28 h) d g)) (zy b 5 c 25 h 26 i 27 (.Z 0)) d g) λf=>aX i (eM (j+3) λf=>E (bM a g 2 h) λj=>E (b8 a g 1 c .cy) λg=>E (bM a g 2 h) λk=>gi k (some j) (E (b8 a g 2 d j) λg=>G8 a e (zy (cZ [b]) 2 c 3 d 4 h 12 i) g f)) (f (zy (cZ [b]) 2 c 3 d 4 h 12 i) g j)) (NQ a e f (hP [8,9,4] (zw (cZ [b]) 2 c 3 d)))
def ai4:AZ X 31 [a0] h j ak ay=VW X a0 h j ak ay:=Zk
def ai3:cX X 31 1=true:=Zk
def V2(a:a2)(b c:J)(d:V an)(e:Nat)(f g:bJ):Prop:=
 E (dc a d .eql 65 true b .cy) λh=>aT (λb c d=>aj (b 0) λe=>E (cl e) λe=>E (a1 0 e) λe=>E (al a c e) λe=>aj (b 1) λb=>E (kJ a c 47 .aU e b false) λb=>aW a 83 [b] c d f g) λa=>aX h (f .aU d e) (a (zw (cZ [b,c]) 4 .aU 6 h) d e)
def ajg:di X 37 [a0,bf] h j ak ay=V2 X a0 bf h j ak ay:=Zk
def ajf:cX X 37 2=true:=Zk
def V5(a:a2)(b c:J)(d:V an)(e:Nat)(f g:bJ):Prop:=
 E (dA [(.bool false),(.bool false),(.Z 0)] e) λh=>cH a d e h.1 h.2 λd e h=>aW a 37 [b,c] e h (λe g h=>E (dI e) λi=>E (aC .neq i (.Z 1)) λi=>aT (λb c d=>aj (b 6) λe=>E (dd 3 e (.Z 0)) λe=>E (bM a c 3 e) λe=>aj (b 4) λg=>E (b8 a c 3 g e) λc=>aj (b 4) λb=>E (bM a c 3 b) λa=>f (.tuple [a,(.bool true)]) c d) λj=>aX i (E (eC [(.bool false),(.bool false),(.Z 0)] []) λb=>E (b8 a g 3 d b) λb=>E (bM a b 3 d) λa=>f (.tuple [a,(.bool false)]) b h) (j (zy (cZ [b,c]) 4 d 5 (.bool false) 6 e 12 i) g h)) g
def ajm:di X 54 [a0,bf] h j ak ay=V5 X a0 bf h j ak ay:=Zk
def ajl:cX X 54 2=true:=Zk
def OW(a:a2)(b c:J)(d:Option J)(e:V an)(f:Nat)(g:Bool->V an->Nat->Prop):Prop:=
 G4 (some d) (cZ [b,c]) λb c=>aT (λa b c=>g a.rc b c) λd=>E (dc a e .eql 20 true b .nilIface) λg=>aT d λd=>aX g (d (zw c 5 b 7 g) e f) (E (ET 26 (.agg [(.Z 0),(.Z 0)]) true b) λh=>E (cK 1 h) λi=>E (cK 0 h) λh=>aT d λd=>aX i (E (dA [(.Z 0),(.Z 0)] f) λj=>cH a e f j.1 j.2 λe f j=>E (b8 a f 2 e h) λf=>eM (j+3) λj=>E (bM a f 2 e) λk=>aj (c 0) λl=>E (b8 a f 1 l .cy) λf=>E (bM a f 2 e) λl=>gi l (some k) (aj (c 1) λl=>E (b8 a f 2 l k) λa=>d (ac (zy c 5 b 7 g 9 i 10 h) 3 e) a j)) (vQ (λ_ _ _=>False) b e f))
def Wc(X:co)(a0 bf:J)(jJ:Option J)(h:V an)(j:Nat)(ak:Bool->V an->Nat->Prop):yt X 76 [a0,bf] jJ h j ak=OW X a0 bf jJ h j ak:=Zk
def OX:cX X 76 2=true:=Zk
def Wd(a:a2)(b c:J)(d:V an)(e:Nat)(f g:bJ):Prop:=
 iG a d e c λd e h=>E (bM a e 6 d) λi=>aW a 32 [i] e h (λe h i=>E (cl b) λj=>E (a1 2 j) λj=>E (b8 a h 1 j e) λe=>E (a1 2 d) λh=>E (al a e h) λh=>E (a1 3 d) λj=>E (al a e j) λj=>E (a1 4 d) λk=>E (al a e k) λk=>E (eC [.aU, .aU, .aU] [(0,1,h),(1,1,j),(2,1,k)]) λh=>aT (λb c d=>aj (b 3) λe=>E (a1 5 e) λe=>E (al a c e) λe=>E (dI e) λh=>aT (λ_ a b=>f (.tuple []) a b) λf=>fu (λb c d e=>aj (c 54) λh=>aj (c 53) λi=>E (aC .lss h i) λh=>aT (λc d e=>aT (λa c d=>aj (a 54) λe=>E (aC .add e (.Z 1)) λe=>b (ac a 54 e) c d) λb=>aj (c 52) λf=>aj (c 54) λh=>E (dd 4 f h) λf=>E (bM a d 4 f) λf=>E (dA [.aU, .aU,(.Z 0), .cy] e) λh=>cH a d e h.1 h.2 λd e h=>E (b8 a e 4 d f) λe=>aj (c 0) λf=>E (a1 3 d) λi=>E (al a e i) λi=>aW a 131 [f,i] e h (λe f h=>E (a1 0 d) λi=>E (al a f i) λi=>E (dI i) λj=>aT (λc d e=>aj (c 11) λf=>E (dI f) λf=>E (aC .gtr f (.Z 1)) λf=>DC f (c 9) (λa=>a1 3 a) d e (λd e h=>cN f (al a e d) e h (λd e h=>cN f (cl d) e h (λd e h=>cN f (a1 0 d) e h (λd e h=>cN f (al a e d) e h (λd e h=>cN f (aC .neq d (.Z 25)) e h (λd e h=>cU (λd=>tX d (c 10) e h (λe f h=>tX d (c 11) f h (λf h i=>kk d (λb=>aW a 47 [e,f] h i b g) h i (λe f h=>c9 d (fe .not e) f h (λe f h=>cU (λd=>aT b λb=>aX d (aj (c 9) λe=>E (a1 2 e) λe=>E (al a f e) λe=>aW a 130 [e] f h (λ_ a e=>b (ac c 92 d) a e) g) (b (ac c 92 d) f h)) λa=>aX d (a (.bool true)) (a e)))))) λa=>aX f (a d) (a (.bool false))))))))) λb=>fu (λc d e f=>aj (d 65) λh=>aj (d 64) λi=>E (aC .lss h i) λh=>aT (λb d e=>aT (λa b d=>aj (a 65) λe=>E (aC .add e (.Z 1)) λe=>c (ac a 65 e) b d) λc=>aj (b 63) λf=>aj (b 65) λh=>E (dd 1 f h) λf=>E (al a d f) λf=>aj (b 11) λh=>aj (b 0) λi=>aW a 129 [i,f] d e (λd e g=>E (fw 1 [(.bool false),(.bool false),(.Z 0)] [(0,3,d)] g) λd=>cH a e g d.1 d.2 λd e g=>gR (is a e g 3 h d) e g λa d e=>c (zw b 13 f 11 a) d e) g) λa=>aX h (a (ac d 66 h) e f) (b (ac d 66 h) e f)) (zw (zy c 9 d 10 e 11 .aU 63 i) 64 j 65 (.Z 0)) f h) g) λa=>aX h (a (ac c 55 h) d e) (f (ac c 55 h) d e)) (zx b 52 e 53 h 54 (.Z 0)) c d) λf=>fu (λb c d e=>aj (c 26) λh=>E (aC .lss h (.Z 3)) λh=>aT (λc d e=>aT (λa c d=>aj (a 26) λe=>E (aC .add e (.Z 1)) λe=>b (ac a 26 e) c d) λb=>aj (c 25) λf=>aj (c 26) λh=>E (qI false 3 1 f h) λf=>E (dI f) λh=>aT b λb=>fu (λc d e f=>aj (d 31) λh=>aj (d 30) λi=>E (aC .lss h i) λh=>aT (λb d e=>aT (λa b d=>aj (a 31) λe=>E (aC .add e (.Z 1)) λe=>c (ac a 31 e) b d) λc=>aj (b 29) λf=>aj (b 31) λh=>E (dd 8 f h) λf=>E (bM a d 8 f) λf=>E (dA [(.str []),(.Z 0),(.bool false),(.bool false),(.Z 0),(.str []),(.Z 0),(.bool false)] e) λh=>cH a d e h.1 h.2 λd e h=>E (b8 a e 8 d f) λe=>E (a1 5 d) λf=>E (al a e f) λf=>E (dc a e .neq 9 true f (.str [])) λf=>kG f (b 0) e h (λe h i=>cN f (a1 5 d) h i (λh i j=>cN f (al a i h) i j (λh i j=>jZ f (λb=>aW a 129 [e,h] i j b g) i j (λe h i=>cN f (ny false 0 1 e) h i (λe h i=>cN f (fe .not e) h i (λe h i=>cU (λe=>aT c λc=>aX e (E (a1 6 d) λf=>E (al a h f) λf=>aW a 130 [f] h i (λ_ a f=>c (zw b 7 d 45 e) a f) g) (c (zw b 7 d 45 e) h i)) λa=>aX f (a e) (a (.bool false))))))))) λa=>aX h (a (ac d 32 h) e f) (b (ac d 32 h) e f)) (zy c 5 f 29 f 30 h 31 (.Z 0)) d e) λa=>aX h (a (ac c 27 h) d e) (f (ac c 27 h) d e)) (zx (cZ [b,c]) 3 d 25 h 26 (.Z 0)) e i) g
def ajy:di X 77 [a0,bf] h j ak ay=Wd X a0 bf h j ak ay:=Zk
def ajx:cX X 77 2=true:=Zk
def OY(a:a2)(b c:J)(d:V an)(e:Nat)(f g:bJ):Prop:=
 aW a 135 [b,c] d e (λa b c=>E (aC .geq a (.Z 0)) λa=>f a b c) g
def Wh:di X 80 [a0,bf] h j ak ay=OY X a0 bf h j ak ay:=Zk
def Wg:cX X 80 2=true:=Zk
def Wj(a:a2)(b c:J)(d:V an)(e:Nat)(f g:bJ):Prop:=
 aW a 136 [b,c] d e (λa b c=>E (aC .geq a (.Z 0)) λa=>f a b c) g
def ajG:di X 82 [a0,bf] h j ak ay=Wj X a0 bf h j ak ay:=Zk
def ajF:cX X 82 2=true:=Zk
def Wk(a:a2)(b:J)(c:V an)(d:Nat)(e _:bJ):Prop:=
 E (dc a c .eql 76 true b .aU) λf=>aT (λb c d=>E (fw 0 [] [] d) λf=>cH a c d f.1 f.2 λc d f=>aj (b 0) λb=>gR (is a d f 3 c b) d f λa b c=>e a b c) λa=>aX f (e .aU c d) (a (zw (cZ [b]) 2 .aU 4 f) c d)
def ajI:di X 83 [a0] h j ak ay=Wk X a0 h j ak ay:=Zk
def ajH:cX X 83 1=true:=Zk
def UB(a:a2)(b c:J)(d:V an)(e:Nat)(f g:bJ):Prop:=
 E (dA [(.bool false),(.bool false),(.Z 0)] e) λh=>cH a d e h.1 h.2 λd e h=>E (cl b) λb=>E (a1 2 b) λb=>E (al a e b) λb=>aW a 34 [b,c] e h (λb c e=>E (cK 0 b) λg=>E (cK 1 b) λ_=>E (dA [(.Z 0),(.str []),(.Z 0),(.bool false),(.bool false),(.Z 0),(.str []),(.Z 0),(.bool false),(.Z 0),(.Z 0)] e) λb=>cH a c e b.1 b.2 λb c e=>E (b8 a c 11 b g) λc=>E (a1 1 b) λb=>E (a1 2 b) λb=>E (bM a c 3 b) λb=>E (b8 a c 3 d b) λb=>E (bM a b 3 d) λa=>f a b e) g
def agA:di X 129 [a0,bf] h j ak ay=UB X a0 bf h j ak ay:=Zk
def agz:cX X 129 2=true:=Zk
def UC(_:a2)(a:J)(b:V an)(c:Nat)(_ d:bJ):Prop:=
 E (eC [(.Z 0),(.Z 0)] [(0,1,(.Z 26)),(1,1,a)]) λa=>E (some (J.iface 26 a)) λa=>vQ d a b c
def agC:di X 130 [a0] h j ak ay=UC X a0 h j ak ay:=Zk
def agB:cX X 130 1=true:=Zk
def UD(a:a2)(b c:J)(d:V an)(e:Nat)(f g:bJ):Prop:=
 E (cl c) λh=>E (a1 8 h) λh=>E (al a d h) λh=>E (dI h) λi=>aT (λb c d=>aj (b 6) λe=>E (fe .not e) λe=>aT (λb c d=>aj (b 0) λe=>aj (b 1) λh=>aj (b 5) λi=>aW a 184 [e,h,i] c d (λc d e=>E (cK 0 c) λh=>E (cK 1 c) λc=>E (fe .not c) λi=>aT (λb c d=>aj (b 0) λe=>E (cl e) λe=>E (a1 0 e) λe=>E (al a c e) λe=>E (cl e) λe=>E (a1 0 e) λe=>E (al a c e) λe=>aj (b 1) λg=>aj (b 10) λh=>gR (vL a c d 47 e g h) c d λ_ a c=>aj (b 10) λb=>f b a c) λf=>aX i (aj (b 1) λj=>E (cl j) λj=>E (a1 1 j) λj=>E (al a d j) λj=>aW a 130 [j] d e (λ_ a d=>f (zx b 10 h 11 c 49 i) a d) g) (f (zx b 10 h 11 c 49 i) d e)) g) λf=>aX e (aj (b 1) λh=>E (cl h) λh=>E (a1 1 h) λh=>E (al a c h) λh=>aW a 130 [h] c d (λ_ a c=>f (ac b 35 e) a c) g) (f (ac b 35 e) c d)) λf=>fu (λb c d e=>aj (c 17) λh=>aj (c 16) λi=>E (aC .lss h i) λh=>aT (λc d e=>aT (λa c d=>aj (a 17) λe=>E (aC .add e (.Z 1)) λe=>b (ac a 17 e) c d) λb=>aj (c 15) λf=>aj (c 17) λh=>E (dd 1 f h) λf=>E (al a d f) λf=>aj (c 0) λh=>aW a 131 [h,f] d e (λd e g=>E (dI d) λh=>E (aC .neq h (.Z 1)) λh=>aT (λc d e=>aj (c 5) λf=>aj (c 9) λg=>E (dd 3 g (.Z 0)) λg=>E (bM a d 3 g) λg=>E (fw 1 [(.bool false),(.bool false),(.Z 0)] [(0,3,g)] e) λg=>cH a d e g.1 g.2 λd e g=>gR (is a e g 3 f d) e g λa d e=>b (ac c 5 a) d e) λa=>aX h (b (zy c 8 f 9 d 26 h 6 (.bool false)) e g) (a (zx c 8 f 9 d 26 h) e g)) g) λa=>aX h (a (ac c 18 h) d e) (f (ac c 18 h) d e)) (zw (zy (cZ [b,c]) 4 .aU 5 .aU 6 (.bool true) 15 h) 16 i 17 (.Z 0)) d e
def agE:di X 131 [a0,bf] h j ak ay=UD X a0 bf h j ak ay:=Zk
def agD:cX X 131 2=true:=Zk
def OR(a:a2)(b c:J)(d:V an)(e:Nat)(f g:bJ):Prop:=
 E (dI b) λh=>aT (λ_ a b=>f (.Z (-1)) a b) λi=>fu (λb c d e=>aj (c 8) λh=>aj (c 7) λj=>E (aC .lss h j) λh=>aT (λc d e=>aT (λa c d=>aj (a 8) λe=>E (aC .add e (.Z 1)) λe=>b (ac a 8 e) c d) λb=>aj (c 8) λh=>aj (c 1) λi=>aj (c 0) λj=>E (dd 3 j h) λj=>E (bM a d 3 j) λj=>iw a i [j] d e (λa d e=>aT b λb=>aX a (f h d e) (b (zw c 5 h 16 a) d e)) g) λa=>aX h (a (ac c 9 h) d e) (i (ac c 9 h) d e)) (zx (cZ [b,c]) 4 (.Z 0) 7 h 8 (.Z 0)) d e
def UI:di X 135 [a0,bf] h j ak ay=OR X a0 bf h j ak ay:=Zk
def UH:cX X 135 2=true:=Zk
def UJ(a:a2)(b c:J)(d:V an)(e:Nat)(f _:bJ):Prop:=
 E (dI b) λg=>aT (λ_ a b=>f (.Z (-1)) a b) λh=>fu (λb c d e=>aj (c 8) λg=>aj (c 7) λi=>E (aC .lss g i) λg=>aT (λc d e=>aT (λa c d=>aj (a 8) λe=>E (aC .add e (.Z 1)) λe=>b (ac a 8 e) c d) λb=>aj (c 8) λg=>aj (c 1) λh=>aj (c 0) λi=>E (dd 1 i g) λi=>E (al a d i) λa=>E (aC .eql h a) λa=>aT b λb=>aX a (f g d e) (b (zw c 5 g 16 a) d e)) λa=>aX g (a (ac c 9 g) d e) (h (ac c 9 g) d e)) (zx (cZ [b,c]) 4 (.Z 0) 7 g 8 (.Z 0)) d e
def agM:di X 136 [a0,bf] h j ak ay=UJ X a0 bf h j ak ay:=Zk
def agL:cX X 136 2=true:=Zk
def Vd(a:a2)(b c d:J)(e:V an)(f:Nat)(g h:bJ):Prop:=
 E (cl c) λi=>E (a1 0 i) λi=>E (al a e i) λi=>aT (λb c d=>aj (b 0) λe=>aj (b 1) λf=>aj (b 2) λb=>aW a 212 [e,f,b] c d (λa b c=>E (cK 0 a) λd=>E (cK 1 a) λa=>g (.tuple [d,a]) b c) h) λj=>E (aC .eql i (.Z 1)) λk=>aT j λj=>aX k (E (cl c) λb=>E (a1 4 b) λb=>E (bM a e 3 b) λb=>iw a (.func (.func 210) [] []) [b,(.bool true)] e f (λa b c=>E (cK 0 a) λd=>E (cK 1 a) λa=>g (.tuple [d,a]) b c) h) (E (aC .eql i (.Z 2)) λl=>aT j λj=>aX l (E (cl c) λc=>E (a1 2 c) λc=>E (al a e c) λc=>aW a 129 [b,c] e f (λb c d=>iw a (.func (.func 210) [] []) [b,(.bool true)] c d (λa b c=>E (cK 0 a) λd=>E (cK 1 a) λa=>g (.tuple [d,a]) b c) h) h) (E (aC .eql i (.Z 3)) λm=>aT (λb c d=>aj (b 35) λe=>aT j λf=>aX e (aj (b 8) λe=>aj (b 2) λb=>E (dd 3 b (.Z 0)) λb=>E (bM a c 3 b) λb=>iw a e [b,(.bool true)] c d (λa b c=>E (cK 0 a) λd=>E (cK 1 a) λa=>g (.tuple [d,a]) b c) h) (aj (b 12) λe=>E (aC .eql e (.Z 4)) λe=>aT (λb c d=>aj (b 45) λe=>aT f λf=>aX e (eM (d+14) λd=>aj (b 8) λe=>aj (b 2) λf=>E (dd 3 f (.Z 0)) λf=>E (bM a c 3 f) λf=>aj (b 2) λb=>E (dd 3 b (.Z 0)) λb=>E (a1 0 b) λb=>E (al a c b) λb=>E (fe .not b) λb=>iw a e [f,b] c d (λa b c=>E (cK 0 a) λd=>E (cK 1 a) λa=>g (.tuple [d,a]) b c) h) (aj (b 12) λe=>E (aC .eql e (.Z 6)) λe=>aT f λf=>aX e (eM (d+16) λd=>aj (b 8) λe=>aj (b 2) λf=>E (dd 3 f (.Z 0)) λf=>E (bM a c 3 f) λi=>aj (b 0) λj=>aj (b 1) λb=>E (cl b) λb=>E (a1 2 b) λb=>E (al a c b) λb=>aW a 129 [j,b] c d (λb c d=>E (ny false 0 1 b) λb=>E (bM a c 3 f) λf=>gi f (some i) (iw a e [i,b] c d (λa b c=>E (cK 0 a) λd=>E (cK 1 a) λa=>g (.tuple [d,a]) b c) h)) h) (aj (b 12) λi=>E (aC .eql i (.Z 7)) λi=>aT (λb c d=>aj (b 77) λe=>aT f λf=>aX e (eM (d+11) λd=>aj (b 8) λe=>aj (b 2) λf=>E (dd 3 f (.Z 0)) λf=>E (bM a c 3 f) λi=>aj (b 2) λb=>aW a 211 [b] c d (λb c d=>E (bM a c 3 f) λf=>gi f (some i) (iw a e [i,b] c d (λa b c=>E (cK 0 a) λd=>E (cK 1 a) λa=>g (.tuple [d,a]) b c) h)) h) (aj (b 12) λe=>E (aC .eql e (.Z 16)) λe=>aT (λb c d=>aj (b 92) λe=>aT f λf=>aX e (eM (d+18) λd=>aj (b 8) λe=>aj (b 2) λf=>E (dd 3 f (.Z 0)) λf=>E (bM a c 3 f) λi=>aj (b 2) λj=>aW a 211 [j] c d (λc d j=>nI c (b 2) d (λb d=>e0 c (dd 3 b (.Z 0)) d (λb d=>e0 c (a1 0 b) d (λb d=>e0 c (al a d b) d (λb d=>e0 c (fe .not b) d (λb d=>cU (λb=>E (bM a d 3 f) λc=>gi c (some i) (iw a e [i,b] d j (λa b c=>E (cK 0 a) λd=>E (cK 1 a) λa=>g (.tuple [d,a]) b c) h)) λa=>aX c (a b) (a (.bool false)))))))) h) (aj (b 12) λe=>E (aC .eql e (.Z 10)) λe=>aT (λb c d=>aj (b 112) λe=>aT f λf=>aX e (eM (d+9) λd=>aj (b 8) λe=>E (bM a c 3 (.ptr 4 0)) λf=>aj (b 2) λb=>aW a 211 [b] c d (λb c d=>E (bM a c 3 (.ptr 4 0)) λi=>gi i (some f) (iw a e [f,b] c d (λa b c=>E (cK 0 a) λd=>E (cK 1 a) λa=>g (.tuple [d,a]) b c) h)) h) (aj (b 12) λe=>E (aC .eql e (.Z 12)) λe=>aT (λb c d=>aj (b 122) λe=>aT f λf=>aX e (eM (d+16) λd=>aj (b 8) λe=>E (bM a c 3 (.ptr 4 0)) λf=>aj (b 2) λi=>aW a 211 [i] c d (λc d i=>nI c (b 2) d (λb d=>e0 c (dd 3 b (.Z 0)) d (λb d=>e0 c (a1 0 b) d (λb d=>e0 c (al a d b) d (λb d=>e0 c (fe .not b) d (λb d=>cU (λb=>E (bM a d 3 (.ptr 4 0)) λc=>gi c (some f) (iw a e [f,b] d i (λa b c=>E (cK 0 a) λd=>E (cK 1 a) λa=>g (.tuple [d,a]) b c) h)) λa=>aX c (a b) (a (.bool false)))))))) h) (aj (b 12) λe=>E (aC .eql e (.Z 23)) λe=>aT f λf=>aX e (eM (d+18) λd=>aj (b 8) λe=>aj (b 2) λf=>E (dd 3 f (.Z 1)) λf=>E (bM a c 3 f) λi=>aj (b 2) λj=>E (dd 3 j (.Z 0)) λj=>E (a1 0 j) λj=>E (al a c j) λj=>nI j (b 2) c (λb c=>e0 j (s1 a c 3 b (some (.Z 1)) none none) c (λb c=>jZ j (λe=>aW a 211 [b] c d e h) c d (λb c d=>cU (λb=>E (bM a c 3 f) λf=>gi f (some i) (iw a e [i,b] c d (λa b c=>E (cK 0 a) λd=>E (cK 1 a) λa=>g (.tuple [d,a]) b c) h)) λa=>aX j (a b) (a (.bool false)))))) (aj (b 12) λi=>E (aC .eql i (.Z 24)) λi=>aT f λf=>aX i (eM (d+20) λd=>aj (b 8) λe=>aj (b 2) λf=>E (dd 3 f (.Z 0)) λf=>E (bM a c 3 f) λi=>aj (b 2) λj=>aW a 211 [j] c d (λc d j=>nI c (b 0) d (λd k=>nI c (b 1) k (λb k=>e0 c (cl b) k (λb k=>e0 c (a1 2 b) k (λb k=>e0 c (al a k b) k (λb k=>E (bM a k 3 f) λl=>gi l (some i) (jZ c (λc=>aW a 129 [d,b] k j c h) k j (λb d j=>e0 c (ny false 0 1 b) d (λb d=>cU (λb=>E (bM a d 3 f) λc=>gi c (some i) (iw a e [i,b] d j (λa b c=>E (cK 0 a) λd=>E (cK 1 a) λa=>g (.tuple [d,a]) b c) h)) λa=>aX c (a b) (a (.bool false))))))))))) h) (aj (b 12) λj=>E (aC .eql j (.Z 26)) λj=>aT f λf=>aX j (eM (d+22) λd=>aj (b 8) λe=>aj (b 1) λf=>E (cl f) λf=>E (a1 4 f) λf=>E (bM a c 3 f) λf=>aj (b 1) λi=>E (cl i) λi=>E (a1 4 i) λi=>E (a1 0 i) λi=>E (al a c i) λi=>E (fe .not i) λi=>vs i (b 2) c (λb c=>hU i (dd 3 b (.Z 0)) c (λb c=>hU i (a1 0 b) c (λb c=>hU i (al a c b) c (λb c=>cU (λb=>iw a e [f,b] c d (λa b c=>E (cK 0 a) λd=>E (cK 1 a) λa=>g (.tuple [d,a]) b c) h) λa=>aX i (a (.bool true)) (a b)))))) (f (zx b 141 e 159 i 179 j) c d))))) λa=>aX e (a (ac b 122 e) c d) (aj (b 12) λf=>E (aC .eql f (.Z 13)) λf=>aT a λa=>aX f (a (zw b 122 e 122 f) c d) (aj (b 12) λg=>E (aC .eql g (.Z 14)) λg=>aT a λa=>aX g (a (zx b 122 e 122 f 122 g) c d) (aj (b 12) λh=>E (aC .eql h (.Z 15)) λh=>a (zy b 122 e 122 f 122 g 122 h) c d))))) λa=>aX e (a (ac b 112 e) c d) (aj (b 12) λf=>E (aC .eql f (.Z 11)) λf=>a (zw b 112 e 112 f) c d))) λa=>aX e (a (ac b 92 e) c d) (aj (b 12) λf=>E (aC .eql f (.Z 17)) λf=>aT a λa=>aX f (a (zw b 92 e 92 f) c d) (aj (b 12) λg=>E (aC .eql g (.Z 18)) λg=>a (zx b 92 e 92 f 92 g) c d)))) λa=>aX i (a (zw b 61 e 77 i) c d) (aj (b 12) λf=>E (aC .eql f (.Z 8)) λf=>aT a λa=>aX f (a (zx b 61 e 77 i 77 f) c d) (aj (b 12) λg=>E (aC .eql g (.Z 9)) λg=>aT a λa=>aX g (a (zy b 61 e 77 i 77 f 77 g) c d) (aj (b 12) λh=>E (aC .eql h (.Z 21)) λh=>aT a λa=>aX h (a (ac (zy b 61 e 77 i 77 f 77 g) 77 h) c d) (aj (b 12) λj=>E (aC .eql j (.Z 22)) λj=>a (zw (zy b 61 e 77 i 77 f 77 g) 77 h 77 j) c d))))))) λa=>aX e (a (ac b 45 e) c d) (aj (b 12) λf=>E (aC .eql f (.Z 19)) λf=>aT a λa=>aX f (a (zw b 45 e 45 f) c d) (aj (b 12) λg=>E (aC .eql g (.Z 20)) λg=>a (zx b 45 e 45 f 45 g) c d)))) λa=>aX m (a (zx (zy (cZ [b,c,d]) 6 .aU 7 (.bool false) 8 (.func (.func 210) [] []) 12 i) 13 k 23 l 35 m) e f) (E (aC .eql i (.Z 5)) λg=>a (zy (zy (cZ [b,c,d]) 6 .aU 7 (.bool false) 8 (.func (.func 210) [] []) 12 i) 13 k 23 l 35 m 35 g) e f)))
def ahA:di X 184 [a0,bf,ck] h j ak ay=Vd X a0 bf ck h j ak ay:=Zk
def ahz:cX X 184 3=true:=Zk
def Vy(a:a2)(b c:J)(d:V an)(e:Nat)(f _:bJ):Prop:=
 iG a d e b λb d e=>E (bM a d 3 b) λb=>E (fw 1 [(.bool false),(.bool false),(.Z 0)] [(0,3,b)] e) λb=>cH a d e b.1 b.2 λa b d=>f (.tuple [a,c]) b d
def aii:di X 210 [a0,bf] h j ak ay=Vy X a0 bf h j ak ay:=Zk
def aih:cX X 210 2=true:=Zk
def Vz(a:a2)(b:J)(c:V an)(d:Nat)(e f:bJ):Prop:=
 iG a c d b λb c d=>E (al a c b) λg=>aW a 80 [g,(.func (.func 234) [] [b])] c d (λa b c=>E (fe .not a) λa=>e a b c) f
def aik:di X 211 [a0] h j ak ay=Vz X a0 h j ak ay:=Zk
def aij:cX X 211 1=true:=Zk
def VA(a:a2)(b c d:J)(e:V an)(f:Nat)(g h:bJ):Prop:=
 eM (f+14) λf=>E (cl b) λi=>E (a1 1 i) λi=>E (al a e i) λi=>E (cl c) λc=>E (a1 2 c) λc=>E (al a e c) λc=>aW a 79 [i,c] e f (λc e f=>E (cK 0 c) λi=>E (cK 1 c) λ_=>E (cl b) λb=>E (a1 1 b) λb=>E (al a e b) λb=>E (cl b) λb=>E (a1 0 b) λb=>E (al a e b) λb=>E (dd 6 b i) λb=>E (bM a e 6 b) λb=>E (dA [(.str []),(.Z 0), .aU, .aU, .aU, .aU] f) λc=>cH a e f c.1 c.2 λc e f=>E (b8 a e 6 c b) λb=>eM (f+12) λe=>E (a1 3 c) λf=>E (al a b f) λf=>E (a1 2 c) λc=>E (al a b c) λi=>iw a (.func (.func 235) [] []) [f] b e (λb e f=>E (al a e c) λc=>gi c (some i) (iw a (.func (.func 235) [] []) [i] e f (λc e f=>aW a 47 [c,d] e f (λa c d=>g (.tuple [b,a]) c d) h) h)) h) h
def aim:di X 212 [a0,bf,ck] h j ak ay=VA X a0 bf ck h j ak ay:=Zk
def ail:cX X 212 3=true:=Zk
def VM(a:a2)(b c:J)(d:V an)(e:Nat)(f _:bJ):Prop:=
 iG a d e b λb d e=>eM (e+6) λe=>E (bM a d 3 b) λb=>E (al a d c) λc=>E (dd 3 c (.Z 0)) λc=>E (bM a d 3 c) λc=>E (dc a d .neq 41 false b c) λa=>f a d e
def aiK:di X 234 [a0,bf] h j ak ay=VM X a0 bf h j ak ay:=Zk
def aiJ:cX X 234 2=true:=Zk
def VN(a:a2)(b:J)(c:V an)(d:Nat)(e _:bJ):Prop:=
 E (dI b) λf=>aT (λa b c=>aj (a 3) λa=>e a b c) λe=>fu (λb c d f=>aj (c 8) λg=>aj (c 7) λh=>E (aC .lss g h) λg=>aT (λc d e=>aT (λa c d=>aj (a 8) λe=>E (aC .add e (.Z 1)) λe=>b (ac a 8 e) c d) λb=>aj (c 6) λf=>aj (c 8) λg=>E (dd 8 f g) λf=>E (bM a d 8 f) λf=>E (dA [(.str []),(.Z 0),(.bool false),(.bool false),(.Z 0),(.str []),(.Z 0),(.bool false)] e) λg=>cH a d e g.1 g.2 λd e g=>E (b8 a e 8 d f) λe=>aj (c 3) λf=>E (a1 2 d) λh=>E (bM a e 3 h) λh=>E (fw 1 [(.bool false),(.bool false),(.Z 0)] [(0,3,h)] g) λh=>cH a e g h.1 h.2 λe g h=>gR (is a g h 3 f e) g h λa e f=>b (zw c 5 d 3 a) e f) λa=>aX g (a (ac c 9 g) d f) (e (ac c 9 g) d f)) (ac (zy (cZ [b]) 2 .aU 3 .aU 6 b 7 f) 8 (.Z 0)) c d
def aiM:di X 235 [a0] h j ak ay=VN X a0 h j ak ay:=Zk
def aiL:cX X 235 1=true:=Zk
end
end Go.Proofs.YtpfajohmofnkfaaGreatDoor

namespace Go.Proofs.YtpfajohmofnkfaaGreatDoor
open Go.bk Go.aZ
noncomputable section
section
variable{X:co}{h U a6 aR:V an}{j ar aJ bc:Nat}{P:Nat->Prop}
def jO(X:co)(h:V an)(P:Nat->Prop)(a8:J)(l:List dJ):Prop:=∃b,d1 X h P b a8 3 (l.map dn)
def jO.ad{bv:Nat->Prop}{a8:J}{l:List dJ}(a:jO X h P a8 l)(F:∀e,P e->ab X U e=ab X h e)(aD:∀e,P e->bv e):jO X U bv a8 l:=by
 obtain⟨b,a⟩:=a
 exact⟨b,(a.ad F).lift aD⟩
def β(X:co):List Field:=match (q X).P.underlying 41 with|some (.struct jC)=>jC.toList|_=>[]
def amm(eq:Nat->J->J->Option Bool)(K b c f3 dN f9:J):Cw X eq (β X) [K,b,c] [f3,dN,f9]=(match eq 4 K f3 with|some true=>(match eq 4 b dN with|some true=>(match eq 3 c f9 with|some true=>some true|some false=>some false|none=>none)|some false=>some false|none=>none)|some false=>some false|none=>none):=Zk
def amk(cp nT:List J):ks X h 50 41 (.agg cp) (.agg nT)=Cw X (ks X h 49) (β X) cp nT:=Zk
def XN(K b:Bool):ks X h 49 4 (.bool K) (.bool b)=some (E0 K b):=Zk
def amy(K b:Int):ks X h 49 3 (.Z K) (.Z b)=some (xw K b):=Zk
def W4(K b:Bool):E0 K b=decide (K=b):=by cases K<;>cases b<;>rfl
def XM(K b:dJ):ks X h 50 41 (.agg (dn K)) (.agg (dn b))=some (decide (K=b)):=by
 obtain⟨bf,ck,a3⟩:=K
 obtain⟨cT,dL,et⟩:=b
 simp only[dn]
 rw[amk,amm,XN,XN,amy,W4,W4,Gh]
 by_cases T:bf=cT<;>by_cases W:ck=dL<;>by_cases au:a3=et<;>simp[T,W,au]
def GP(K b:dJ):dc X h .neq 41 false (.agg (dn K)) (.agg (dn b))=some (.bool (!decide (K=b))):=by
 have a:dc X h .neq 41 false (.agg (dn K)) (.agg (dn b))=(match ks X h 50 41 (.agg (dn K)) (.agg (dn b))with|some b=>n3 (!b)|none=>none):=Zk
 rw[a,XM]
 cases decide (K=b)<;>rfl
def CN(K b:dJ):dc X h .eql 41 false (.agg (dn K)) (.agg (dn b))=some (.bool (decide (K=b))):=by
 have a:dc X h .eql 41 false (.agg (dn K)) (.agg (dn b))=(match ks X h 50 41 (.agg (dn K)) (.agg (dn b))with|some b=>n3 b|none=>none):=Zk
 rw[a,XM]
 cases decide (K=b)<;>rfl
def sJ{b Y:Nat}{c:V J}{n:Nat}{st:nW}{t:dJ}(ai:ab X h b=some (.cells c n st))(a:c.kE Y 3=some (dn t)):bM X h 3 (.ptr b Y)=some (.agg (dn t)):=by
 rw[kI,ai];simp only[a,ZV]
structure r2(X:co)(h:V an)(P:Nat->Prop)(a8:J)(l:List dJ):Prop where
 len:dI a8=some (.Z (l.length:Int))
 many:l.length<=300000
 e9:∀(i:Nat) t,l[i]? =some t->∃b Y,dd 3 a8 (.Z (i:Int))=some (.ptr b Y)/\P b/\bM X h 3 (.ptr b Y)=some (.agg (dn t))/\al X h (.ptr b Y)=some (.bool t.b)
def r2.ad{bv:Nat->Prop}{a8:J}{l:List dJ}(a:r2 X h P a8 l)(F:∀e,P e->ab X U e=ab X h e)(aD:∀e,P e->bv e):r2 X U bv a8 l:=
 ⟨a.len,a.many,λi t aN=>by
  obtain⟨b,Y,T,W,au,aP⟩:=a.e9 i t aN
  exact⟨b,Y,T,aD b W,by rw[kI,F b W, <-kI];exact au,zz (F b W) aP⟩⟩
def jO.rd{a8:J}{l:List dJ}(a:jO X h P a8 l):r2 X h P a8 l:=by
 obtain⟨b,a⟩:=a
 have aD:=a.len
 have bs:=a.many
 rw[Zi]at aD bs
 refine⟨aD,bs,λi t aN=> ?_⟩
 have ls:=(Zc.1 aN).1
 have Z:(l.map dn)[i]? =some (dn t):=by rw[Zt,aN];rfl
 refine⟨b,i*3,a.e9 i (by rw[Zi];omega),a.ai (λI=>by rw[I]at Z;cases Z),a.row Zd Z, ?_⟩
 exact a.cell i (dn t) 0 _ Z rfl
def au3(az:dx X){K b:dJ}{l:List dJ}{a8:J}{c:Nat}(aM:(q X).ba<=j)(aB:c<j)(gW:al X h (.ptr c 0)=some a8)(bb:r2 X h P a8 (b::l))(bB:∀e,P e->e<j):
 aW X 234 [.agg (dn K), .ptr c 0] h j (λae U ar=>ae= .bool (!decide (K=b))/\bh X h j U ar) (λ_ _ _=>False):=by
 refine zv az (aiJ X) ?_
 rw[aiK]
 unfold VM
 obtain⟨cD,Y,dQ,k1,sv,_⟩:=bb.e9 0 b rfl
 have dQ:dd 3 a8 (.Z 0)=some (.ptr cD Y):=dQ
 refine ti ?_
 generalize ea:bo X h j _=a6
 have b5:bM X a6 3 (.ptr j 0)=some (.agg (dn K)):=by rw[<-ea];exact sJ (bi aM) (by cases K;rfl)
 have bT:bh X h j a6 (j+1):=by rw[<-ea];exact dR
 clear ea
 have aL:=λe (H:P e)=>bT.ad e (bB e H)
 have hS:bM X a6 3 (.ptr cD Y)=some (.agg (dn b)):=by rw[kI,aL cD k1, <-kI];exact sv
 have Q7:al X a6 (.ptr c 0)=some a8:=zz (bT.ad c aB) gW
 refine fW @b5 @Q7 @dQ @hS @GP ⟨?_⟩
 exact⟨rfl,bT.more Zo⟩
def au4(b:dJ)(l:List dJ):pp (b::l)=(b::l).all (λK=>decide (K=b)):=rfl
def asr(az:dx X){b:dJ}{l:List dJ}{a8:J}{c:Nat}(aM:(q X).ba<=j)(aB:c<j)(gW:al X h (.ptr c 0)=some a8)(bb:r2 X h P a8 (b::l))(bB:∀e,P e->e<j):
 aW X 135 [a8, .func (.func 234) [] [.ptr c 0]] h j (λae U ar=>(∃F:Int,ae= .Z F/\decide (0<=F)= !pp (b::l))/\bh X h j U ar) (λ_ _ _=>False):=by
 refine zv az (UH X) ?_
 rw[UI]
 unfold OR
 have ew:=bb.len
 have h7:=bb.many
 rw[au4]
 generalize gn:b::l=L at*
 refine ce @ew ⟨?_⟩
 refine fC (λm M U aV=>∃(aa:Nat),M.g 0=some a8/\M.g 1=some (.func (.func 234) [] [.ptr c 0])/\M.g 7=some (.Z (L.length:Int))/\M.g 8=some (.Z (aa:Int))/\aa+m=L.length/\bh X h j U aV/\L.all (λK=>decide (K=b))=(L.drop aa).all (λK=>decide (K=b)))
  L.length ⟨0,bp,bp,bp,fQ,Zo,bh.refl _ _,rfl⟩ ?_
 rintro m M aR bc ⟨aa,t0,t1,fo,gA,bL,bC,b9⟩
 have f5:=bC.le
 cases m with
 |zero=>
  have d:=zp aa L.length
  rw[ZH Zo]at b9
  refine d9 @gA @fo @d ⟨?_⟩
  exact⟨⟨-1,rfl,by rw[b9];rfl⟩,bC⟩
 |succ m=>
  have d:=zq aa L.length
  have bH:=zt aa
  obtain⟨g,b0⟩:=zr L aa
  have aO:L.drop aa=g::L.drop (aa+1):=by
   obtain⟨ah,H⟩:=Zc.1 b0
   rw[Zw ah,H]
  have aL:=λe (H:P e)=>bC.ad e (bB e H)
  obtain⟨cD,Y,dQ,k1,hS,_⟩:=(bb.ad (bv:=P) aL (λ_ a=>a)).e9 aa g b0
  have IV:al X aR (.ptr c 0)=some a8:=zz (bC.ad c aB) gW
  rw[aO,List.all_cons]at b9
  refine eu @gA @fo @t1 @t0 @d @dQ @hS ⟨?_⟩
  refine(au3 az (b:=b) (l:=l) (a8:=a8) Zo Zo IV (by rw[gn];exact bb.ad (bv:=P) aL (λ_ a=>a)) (λe H=>zo (bB e H))).Zm ?_
  rintro ae a7 bd ⟨rfl,cm⟩
  by_cases h8:g=b
  ·have cQ:(!decide (g=b))=false:=by simp[h8]
   have eZ:decide (g=b)=true:=by simp[h8]
   rw[eZ,Bool.true_and]at b9
   rw[cQ]
   refine c1 @gA @bH ⟨?_⟩
   exact⟨m,Zo,aa+1,aQ t0,aQ t1,aQ fo,bp,Zo,bC.trans cm,b9⟩
  ·have cQ:(!decide (g=b))=true:=by simp[h8]
   have eZ:decide (g=b)=false:=by simp[h8]
   rw[eZ,Bool.false_and]at b9
   rw[cQ]
   refine cS ⟨?_⟩
   exact⟨⟨aa,rfl,by rw[b9];simp⟩,bC.trans cm⟩
def alv(az:dx X){b:dJ}{l:List dJ}{a8:J}{c:Nat}(aM:(q X).ba<=j)(aB:c<j)(gW:al X h (.ptr c 0)=some a8)(bb:r2 X h P a8 (b::l))(bB:∀e,P e->e<j):
 aW X 80 [a8, .func (.func 234) [] [.ptr c 0]] h j (λae U ar=>ae= .bool (!pp (b::l))/\bh X h j U ar) (λ_ _ _=>False):=by
 refine zv az (Wg X) ?_
 rw[Wh]
 unfold OY
 refine(asr az aM aB gW bb bB).Zm ?_
 rintro ae U aV ⟨⟨F,rfl,aL⟩,bX⟩
 refine cS ⟨?_⟩
 exact⟨by rw[aL],bX⟩
def GW(az:dx X){b:dJ}{l:List dJ}{a8:J}(aM:(q X).ba<=j)(jq:a8.cells=[a8])(bb:r2 X h P a8 (b::l))(bB:∀e,P e->e<j):
 aW X 211 [a8] h j (λae U ar=>ae= .bool (pp (b::l))/\bh X h j U ar) (λ_ _ _=>False):=by
 refine zv az (aij X) ?_
 rw[aik]
 unfold Vz
 refine ti ?_
 rw[jq]
 generalize ea:bo X h j _=a6
 have b5:al X a6 (.ptr j 0)=some a8:=by rw[<-ea,bR (bi aM)];rfl
 have bT:bh X h j a6 (j+1):=by rw[<-ea];exact dR
 clear ea
 have aL:=λe (H:P e)=>bT.ad e (bB e H)
 refine ce @b5 ⟨?_⟩
 refine(alv az Zo Zo b5 (bb.ad (bv:=P) aL (λ_ a=>a)) (λe H=>zo (bB e H))).Zm ?_
 rintro ae aR bc ⟨rfl,bC⟩
 refine cS ⟨?_⟩
 exact⟨Zs,bT.trans bC⟩
def Kh(az:dx X){t:bq->Option eJ}{b1:Nat}{cF:J}(aM:(q X).ba<=j)(ij:b1<j)(aB:al X h (.ptr b1 2)=some cF)(bb:oK X h P cF t)(bB:∀e,P e->e<j)(w:bq):
 aW X 129 [.ptr b1 0, .str w] h j (λae U ar=>ae= .agg (dn (jg t w))/\bh X h j U ar) (λ_ _ _=>False):=by
 refine zv az (agz X) ?_
 rw[agA]
 unfold UB
 refine oO ?_
 generalize ea:bo X h j _=a6
 have b5:ab X a6 j=zs [.bool false, .bool false, .Z 0] 3:=by rw[<-ea,bi aM];rfl
 have bT:bh X h j a6 (j+1):=by rw[<-ea];exact dR
 clear ea
 have aL:=λe (H:P e)=>bT.ad e (bB e H)
 have sm:al X a6 (.ptr b1 2)=some cF:=zz (bT.ad b1 ij) aB
 refine ce @sm ⟨?_⟩
 refine(Io az Zo (bb.ad (bv:=P) aL (λ_ a=>a)) (λe H=>zo (bB e H)) w).Zm ?_
 rintro ae aR bc ⟨rfl,bC⟩
 have f5:=bC.le
 unfold jg
 generalize (t w).getD s5=v at*
 have qE:oB v=[.Z v.kind, .str v.d.name, .Z v.d.at_, .bool v.d.ty.b, .bool v.d.ty.s, .Z v.d.ty.w, .str v.d.on, .Z v.d.fD, .bool v.d.no, .Z v.eq, .Z v.left]:=rfl
 rw[qE]
 have cd:ab X aR j=zs [.bool false, .bool false, .Z 0] 3:=by rw[bC.ad _ Zo];exact b5
 have jb:=bT.trans bC
 refine cS ⟨?_⟩
 generalize fl:bo X _ bc _=a7
 have c0:ab X a7 bc=zs [.Z v.kind, .str v.d.name, .Z v.d.at_, .bool v.d.ty.b, .bool v.d.ty.s, .Z v.d.ty.w, .str v.d.on, .Z v.d.fD, .bool v.d.no, .Z v.eq, .Z v.left] 11:=by rw[<-fl,bi Zo];rfl
 have d6:ab X a7 j=zs [.bool false, .bool false, .Z 0] 3:=by rw[<-fl];simp(disch:=omega) only[aG];exact cd
 have cm:bh X h j a7 (bc+1):=⟨Zo,λe H=>by rw[<-fl];simp(disch:=omega) only[aG];exact jb.ad e H⟩
 clear fl
 have aD:bM X a7 3 (.ptr bc 3)=some (.agg (dn v.d.ty)):=sJ c0 rfl
 refine ce @aD ⟨?_⟩
 generalize eB:bo X _ j _=bw
 have FR:bM X bw 3 (.ptr j 0)=some (.agg (dn v.d.ty)):=by rw[<-eB];exact sJ (bi aM) rfl
 have dj:bh X h j bw (bc+1):=⟨Zo,λe H=>by rw[<-eB];simp(disch:=omega) only[aG];exact cm.ad e H⟩
 clear eB
 refine ce @FR ⟨?_⟩
 exact⟨rfl,dj⟩
def If(az:dx X)(aM:(q X).ba<=j)(K:Int){ak:bJ}:
 aW X 130 [.Z K] h j ak (λae U ar=>ae=oS 26 K/\bh X h j U ar):=by
 refine zv az (agB X) ?_
 rw[agC]
 unfold UC
 refine cS ⟨?_⟩
 exact⟨⟨rfl,dR⟩⟩
end
section
variable{X:co}{h U a6 aR:V an}{j ar aJ bc:Nat}{P:Nat->Prop}
def l7(l:List dJ):List (List J):=l.map dn
def Ew(l:List dJ):∀r∈l7 l,r.length=3:=by
 intro r Z
 obtain⟨t,_,rfl⟩:=ZJ.1 Z
 rfl
def TY(l:List dJ):(l7 l).flatten.length=l.length*3:=by
 rw[wW (Ew l)];simp[l7]
def au5(t:dJ):jI (dn t)=true:=rfl
def On{s:J}{l:List dJ}{cM:List Nat}{t:dJ}{cD:Nat}{st:nW}(a:gC X h s 3 (l7 l).flatten cM)(ai:ab X h cD=some (.cells (V.ofList (dn t) 0 .nil) 3 st))(bs:l.length<=300000)(aM:(q X).ba<=j)(c4:∀e∈cM,e<j)(cap:Nat):
 ∃fg U gG,is X h j 3 s (.slice cD 0 1 cap)=some (.fE fg U (j+1))/\gC X U fg 3 (l7 (l++[t])).flatten gG/\(∀e∈gG,e=j\/e∈cM)/\∀e,e≠j->e∉cM->ab X U e=ab X h e:=by
 have gn:=TY l
 obtain⟨fg,U,gG,T,W,au,aP⟩:=a.append (j:=j) Zd (s2 (F:=1) ai (og _) rfl cap) rfl Zd (au5 t) (by rw[gn];simp[dn];omega) aM c4
 refine⟨fg,U,gG,T, .inl ?_,au,aP⟩
 have:(l7 (l++[t])).flatten=(l7 l).flatten++dn t:=by simp[l7]
 rw[this];exact W
def afe(az:dx X){ds:List fq}{a8:J}{b:Nat}(aM:(q X).ba<=j)(cG:d1 X h P b a8 8 (ds.map eK))(bB:∀e,P e->e<j)(bs:ds.length<=100000):
 aW X 235 [a8] h j (λae U ar=>(ae.cells=[ae]/\jO X U (cW j ar) ae (ds.map (·.ty)))/\bh X h j U ar) (λ_ _ _=>False):=by
 refine zv az (aiL X) ?_
 rw[aiM]
 unfold VN
 have ew:=cG.len
 rw[Zi]at ew
 refine ce @ew ⟨?_⟩
 refine fC (λm M U aV=>∃(aa:Nat) (s:J) (cM:List Nat),M.g 3=some s/\M.g 6=some a8/\M.g 7=some (.Z (ds.length:Int))/\M.g 8=some (.Z (aa:Int))/\aa+m=ds.length/\bh X h j U aV/\gC X U s 3 (l7 ((ds.take aa).map (·.ty))).flatten cM/\∀e∈cM,j<=e/\e<aV)
  ds.length ⟨0, .aU,[],bp,bp,bp,fQ,Zo,bh.refl _ _, .inl (.inl ⟨rfl,rfl,rfl⟩),Zs⟩ ?_
 rintro m M aR bc ⟨aa,s,cM,t3,gt,fo,gA,bL,bC,aI,fj⟩
 have f5:=bC.le
 cases m with
 |zero=>
  have d:=zp aa ds.length
  rw[ZB Zo]at aI
  refine gl @gA @fo @d @t3 ⟨?_⟩
  obtain⟨bH,cP,fH⟩:=gC.one aI
  obtain⟨dN,cz⟩:=aI.rH (P:=cW j bc) Zd (Ew _) (by simp[l7];omega) fj
  exact⟨⟨bH,dN,cz⟩,bC⟩
 |succ m=>
  have d:=zq aa ds.length
  have bH:=zt aa
  obtain⟨g,b0⟩:=zr ds aa
  have aL:=λe (H:P e)=>bC.ad e (bB e H)
  have dQ:=cG.e9 aa (by rw[Zi];omega)
  have hS:=(cG.ad aL).row Zd (i:=aa) (r:=eK g) (by rw[Zt,b0];rfl)
  have nG:ds.take (aa+1)=ds.take aa++[g]:=by rw[Z0,b0];rfl
  refine iu @gA @fo @gt @d @dQ @hS ⟨?_⟩
  generalize fl:bo X _ bc _=a7
  have c0:ab X a7 bc=zs (eK g) 8:=by rw[<-fl,bi Zo];rfl
  have c7:∀e,e<bc->ab X a7 e=ab X aR e:=λe H=>by rw[<-fl];exact zu
  clear fl
  have aD:bM X a7 3 (.ptr bc 2)=some (.agg (dn g.ty)):=sJ c0 rfl
  refine d9 @t3 @aD dn.eq_1 ⟨?_⟩
  generalize eB:bo X a7 _ _=bw
  have el:ab X bw (bc+1)=zs (dn g.ty) 3:=by rw[<-eB,bi Zo];rfl
  have d5:∀e,e<bc->ab X bw e=ab X aR e:=λe H=>by rw[<-eB,aG Zo Zo];exact c7 e H
  clear eB
  obtain⟨fg,bS,gG,iv,Ds,yI,mJ⟩:=On (j:=bc+1+1) (aI.ad (U:=bw) (λe H=>d5 e (fj e H).2)) el (by rw[Zi,YW];omega) Zo (λe H=>zo (fj e H)) 1
  refine ky iv ?_
  refine c1 @gA @bH ⟨?_⟩
  refine⟨m,Zo,aa+1,fg,gG,bp,aQ gt,aQ fo,bp,Zo,⟨Zo,λe H=> ?_⟩, ?_,λe H=> ?_⟩
  ·rw[mJ e Zo (λa=>zo (fj e a)),d5 e Zo];exact bC.ad e H
  ·rw[nG,Yw];exact Ds
  ·rcases yI e H with rfl|a
   ·omega
   ·have:=fj e a;omega
end
end
end Go.Proofs.YtpfajohmofnkfaaGreatDoor

namespace Go.Proofs.YtpfajohmofnkfaaGreatDoor
open Go.bk
noncomputable section
variable (X : co) (h : V an) (j : Nat) (ak ay : bJ) (a0 bf ck a3 a4 a5 hv ic ir : J)
def V4(a:a2)(b c:J)(d:V an)(e:Nat)(f _:bJ):Prop:=
 E (dI b) λg=>E (dI c) λh=>E (aC .neq g h) λg=>aT (λb c d=>aj (b 0) λe=>E (dI e) λe=>aT (λ_ a b=>f (.bool true) a b) λg=>fu (λb c d e=>aj (c 13) λh=>aj (c 12) λi=>E (aC .lss h i) λh=>aT (λc d e=>aT (λa c d=>aj (a 13) λe=>E (aC .add e (.Z 1)) λe=>b (ac a 13 e) c d) λb=>aj (c 13) λg=>eM (e+9) λe=>aj (c 0) λh=>E (dd 3 h g) λh=>E (bM a d 3 h) λh=>aj (c 1) λi=>E (dd 3 i g) λi=>E (bM a d 3 i) λi=>E (dc a d .neq 41 false h i) λa=>aT b λb=>aX a (f (.bool false) d e) (b (zw c 5 g 24 a) d e)) λa=>aX h (a (ac c 14 h) d e) (g (ac c 14 h) d e)) (zw b 12 e 13 (.Z 0)) c d) λa=>aX g (f (.bool false) d e) (a (zw (cZ [b,c]) 4 (.bool false) 10 g) d e)
def ajk:di X 47 [a0,bf] h j ak ay=V4 X a0 bf h j ak ay:=Zk
def ajj:cX X 47 2=true:=Zk
end
end Go.Proofs.YtpfajohmofnkfaaGreatDoor

namespace Go.Proofs.YtpfajohmofnkfaaGreatDoor
open Go.bk Go.aZ
noncomputable section
section
variable{X:co}{h U a6 aR:V an}{j ar aJ bc:Nat}{P:Nat->Prop}
def XQ(az:dx X){A bm:List dJ}{mw Kx:J}(aM:(q X).ba<=j)(aE:jO X h P mw A)(ai:jO X h P Kx bm)(bB:∀e,P e->e<j):
 aW X 47 [mw,Kx] h j (λae U ar=>ae= .bool (decide (A=bm))/\bh X h j U ar) (λ_ _ _=>False):=by
 refine zv az (ajj X) ?_
 rw[ajk]
 unfold V4
 obtain⟨cT,MY⟩:=aE
 obtain⟨dL,Jp⟩:=ai
 have Ja:=MY.len
 have su:=Jp.len
 have aqw:=MY.many
 rw[Zi]at Ja su aqw
 by_cases aD:A.length=bm.length
 ·have d:decide ((A.length:Int)≠(bm.length:Int))=false:=by simp[aD]
  refine d9 @Ja @su @d ⟨?_⟩
  refine fC (λm M U aV=>∃(aa:Nat),M.g 0=some mw/\M.g 1=some Kx/\M.g 12=some (.Z (A.length:Int))/\M.g 13=some (.Z (aa:Int))/\aa+m=A.length/\bh X h j U aV/\decide (A=bm)=decide (A.drop aa=bm.drop aa))
   A.length ⟨0,bp,bp,bp,fQ,Zo,bh.refl _ _,rfl⟩ ?_
  rintro m M aR bc ⟨aa,t0,t1,uj,lE,bL,bC,b9⟩
  have f5:=bC.le
  cases m with
  |zero=>
   have d:=zp aa A.length
   rw[ZH Zo,ZH Zo]at b9
   refine d9 @uj @lE @d ⟨?_⟩
   exact⟨by rw[b9];rfl,bC⟩
  |succ m=>
   have d:=zq aa A.length
   have bH:=zt aa
   obtain⟨g,b0⟩:=zr A aa
   obtain⟨a,gK⟩:=zr bm aa
   have Mt:A.drop aa=g::A.drop (aa+1):=by
    obtain⟨ah,H⟩:=Zc.1 b0
    rw[Zw ah,H]
   have pV:bm.drop aa=a::bm.drop (aa+1):=by
    obtain⟨ah,H⟩:=Zc.1 gK
    rw[Zw ah,H]
   have aL:=λe (H:P e)=>bC.ad e (bB e H)
   have dQ:=MY.e9 aa (by rw[Zi];omega)
   have o2:=Jp.e9 aa (by rw[Zi];omega)
   have hS:=(MY.ad aL).row Zd (i:=aa) (r:=dn g) (by rw[Zt,b0];rfl)
   have Ju:=(Jp.ad aL).row Zd (i:=aa) (r:=dn a) (by rw[Zt,gK];rfl)
   rw[Mt,pV]at b9
   have GS:=GP (X:=X) (h:=aR) g a
   refine eu @t0 @t1 @uj @lE @d @dQ (Za @o2 (Za @hS (Za @Ju @GS))) ⟨?_⟩
   by_cases Rm:g=a
   ·subst Rm
    have cQ:(!decide (g=g))=false:=by simp
    rw[cQ]
    refine c1 @lE @bH ⟨?_⟩
    exact⟨m,Zo,aa+1,aQ t0,aQ t1,aQ uj,bp,Zo,bC.more Zo,by rw[b9];simp⟩
   ·have cQ:(!decide (g=a))=true:=by simp[Rm]
    rw[cQ]
    refine cS ⟨?_⟩
    exact⟨by rw[b9];simp[Rm],bC.more Zo⟩
 ·have d:decide ((A.length:Int)≠(bm.length:Int))=true:=by simp only[Zg];omega
  have dT:A≠bm:=λI=>aD (by rw[I])
  refine d9 @Ja @su @d ⟨?_⟩
  exact⟨by simp[dT],bh.refl _ _⟩
def awJ(az:dx X)(aM:(q X).ba<=j)(t:dJ)(b:Bool):
 iw X (.func (.func 210) [] []) [.agg (dn t), .bool b] h j (λae U ar=>∃w,ae= .tuple [w, .bool b]/\w.cells=[w]/\jO X U (cW j ar) w [t]/\bh X h j U ar) (λ_ _ _=>False):=by
 refine BB ?_
 show aW X 210 [.agg (dn t), .bool b] h j _ _
 refine zv az (aih X) ?_
 rw[aii]
 unfold Vy
 refine ti ?_
 generalize ea:bo X h j _=a6
 have b5:bM X a6 3 (.ptr j 0)=some (.agg (dn t)):=by rw[<-ea];exact sJ (bi aM) (by cases t;rfl)
 have bT:bh X h j a6 (j+1):=by rw[<-ea];exact dR
 clear ea
 refine c1 @b5 dn.eq_1 ⟨?_⟩
 generalize d2:bo X a6 _ _=aR
 have cd:ab X aR (j+1)=zs [dn t].flatten (1*3):=by rw[<-d2,bi Zo];rfl
 have bC:bh X h j aR (j+1+1):=⟨Zo,λe H=>by rw[<-d2,aG Zo Zo];exact bT.ad e H⟩
 exact⟨_,rfl,rfl,⟨j+1,Eb (bF:=[dn t]) cd rfl (by simp[dn]) Zo ⟨Zo,Zo⟩⟩,bC⟩
structure EB(X:co)(h:V an)(b1:Nat)(Cg p cF:J):Prop where
 ee:al X h (.ptr b1 0)=some Cg
 dy:al X h (.ptr b1 1)=some p
 dZ:al X h (.ptr b1 2)=some cF
def EB.ad{b1:Nat}{Cg p cF:J}(a:EB X h b1 Cg p cF)(F:ab X U b1=ab X h b1):EB X U b1 Cg p cF:=by
 have aD:∀Y,al X U (.ptr b1 Y)=al X h (.ptr b1 Y):=λY=>by rw[cg,cg,F]
 exact⟨by rw[aD];exact a.ee,by rw[aD];exact a.dy,by rw[aD];exact a.dZ⟩
def amX{nm:bq}:∀(aq:List Go.aZ.Node) (F aa:Nat),Fl nm F aq=some aa->aa<F+aq.length:=by
 intro aq
 induction aq with
 |nil=>intro F aa a;cases a
 |cons g aq am=>
  intro F aa a
  unfold Fl at a
  split at a
  ·cases a;simp
  ·have:=am _ _ a;simp;omega
def amZ{aq:List Go.aZ.Node}{nm:bq}(ch:aq≠[]):(m7 aq nm).getD 0<aq.length:=by
 have:0<aq.length:=YL.2 ch
 cases a:m7 aq nm with
 |none=>exact this
 |some aa=>have:=amX aq 0 aa a;simpa using this
def ala(az:dx X){aq:List Go.aZ.Node}{b1:Nat}{Cg p cF:J}(aM:(q X).ba<=j)(ij:b1<j)(aB:EB X h b1 Cg p cF)(b0:ns X h P aq p)(ch:aq≠[])(bB:∀e,P e->e<j)(bs:∀g∈aq,g.ef.length<=100000/\g.out.length<=100000)
 {I:bG}{v:J}(bA:cR X h P I v){K:List dJ}{a8:J}(aE:jO X h P a8 K):
 aW X 212 [.ptr b1 0,v,a8] h j (λae U ar=>∃w,ae= .tuple [w, .bool (yk aq I.name K).2]/\w.cells=[w]/\jO X U (cW j ar) w (yk aq I.name K).1/\bh X h j U ar) (λ_ _ _=>False):=by
 refine zv az (ail X) ?_
 rw[aim]
 unfold VA
 obtain⟨eo,_,_,_,rfl,aa2,_,_,amd,_⟩:=bA.open
 have dy:=aB.dy
 refine c1 @dy @amd ⟨?_⟩
 refine(LL (j:=j+14) az Zo b0 (λe H=>zo (bB e H)) I.name).Zm ?_
 rintro ae a6 aJ ⟨rfl,bT⟩
 have jF:=bT.le
 have k5:=λe (H:P e)=>bT.ad e (zo (bB e H))
 have xk:=amZ (nm:=I.name) ch
 unfold yk
 generalize xj:(m7 aq I.name).getD 0=F at*
 obtain⟨g,yN⟩:∃g,aq[F]? =some g:=⟨_,Ze xk⟩
 rw[yN]
 obtain⟨lr,kg⟩:=bs g (Zn yN)
 obtain⟨hq,vR,pq,bF,rfl,k1,a0,cG,k7⟩:=b0
 have FW:=k7.wide
 obtain⟨row,ft,kh⟩:=k7.get F g yN
 have abJ:=kh.ad (bv:=P) k5 (λ_ a=>a)
 have sm:=(aB.ad (bT.ad b1 Zo)).dy
 have HG:al X a6 (.ptr hq 0)=some vR:=zz (bT.ad hq (zo (bB hq k1))) a0
 have dQ:=cG.e9 F (by rw[FW.1];omega)
 have hS:=(cG.ad k5).row Zd ft
 have fL:=kh.len
 have xo:=abJ.jI
 obtain⟨cY,df,aeE,eR,cT,dL,et,ig,eqs,rfl,yV,jY,_⟩:=abJ
 refine gl @sm @HG @dQ @hS ⟨?_⟩
 refine fS (im (F:=6) (b:=aJ) (Y:=0) (n:=6) (bi Zo) Zo rfl Zd Zd xo) ?_
 refine cS ⟨?_⟩
 show aW X 235 [df] _ _ _ _
 generalize d2:bo X _ aJ _=aR
 have cd:ab X aR aJ=zs [.str g.name, .Z g.at_,cY,df,aeE,eR] 6:=by rw[<-d2,bi Zo];rfl
 have bC:bh X h j aR (aJ+1+12):=⟨Zo,λe H=>by rw[<-d2];simp(disch:=omega) only[aG];exact bT.ad e Zo⟩
 have iX:∀e,P e->ab X aR e=ab X a6 e:=λe H=>by rw[bC.ad e (bB e H),k5 e H]
 clear d2
 refine(afe az Zo (jY.ad iX) (λe H=>zo (bB e H)) kg).Zm ?_
 rintro Aq a7 bd ⟨⟨ar2,arR⟩,cm⟩
 have ik:=cm.le
 have c0:ab X a7 aJ=zs [.str g.name, .Z g.at_,cY,df,aeE,eR] 6:=by rw[cm.ad _ Zo];exact cd
 obtain⟨cL,cC,d6⟩:=jt yV.len
 refine ce (bR c0) ⟨?_⟩
 refine gs d6 ?_
 refine BB ?_
 show aW X 235 [cY] _ _ _ _
 have ob:∀e,P e->ab X a7 e=ab X a6 e:=λe H=>by rw[cm.ad e (zo (bB e H)),iX e H]
 refine(afe az Zo (yV.ad ob) (λe H=>zo (bB e H)) lr).Zm ?_
 rintro Ex bw db ⟨⟨aAN,arS⟩,dj⟩
 have jd:=dj.le
 have gg:∀e,P e->ab X bw e=ab X h e:=λe H=>by rw[dj.ad e (zo (bB e H)),ob e H,k5 e H]
 have Iy:=(bC.trans ((cm.j3 Zo).trans dj))
 refine(XQ (P:=λe=>e<db) az Zo (arS.ad (λ_ _=>rfl) (λe H=>H.2)) (aE.ad gg (λe H=>zo (bB e H))) (λe H=>H)).Zm ?_
 rintro Ey bS cj ⟨rfl,dF⟩
 have il:=dF.le
 refine cS ⟨?_⟩
 refine⟨Aq,rfl,ar2,arR.ad (λe H=> ?_) (λe H=>⟨zo H.1,zo H.2⟩),Iy.trans dF⟩
 have:=H.2
 rw[dF.ad e Zo,dj.ad e Zo]
end
def md{p:Prop}[Decidable p](a:p):decide p=true:=Yu a
def mc{p:Prop}[Decidable p](a:¬p):decide p=false:=Yj a
def LN(t:dJ):ny false 0 1 (.agg (dn t))=some (.bool t.b):=rfl
def p9(t:dJ):J.same 30 (.agg (dn t)) (.agg (dn t))=true:=by
 obtain⟨K,b,c⟩:=t
 have T:∀x:Bool,J.same 29 (.bool x) (.bool x)=true:=λx=>by cases x<;>rfl
 have W:J.same 29 (.Z c) (.Z c)=true:=by simp only[J.same];simp
 simp only[dn]
 rw[J.same]
 simp only[nK,T,W,Yd]
section
variable{X:co}{h U a6 aR:V an}{j ar aJ bc:Nat}{P:Nat->Prop}
def ED(X:co):Prop:=∀h,bM X h 3 (.ptr 4 0)=some (.agg (dn Ci))
def Wm(X:co)(h:V an)(j:Nat)(r:List dJ×Bool):bJ:=λae U ar=>∃w,ae= .tuple [w, .bool r.2]/\w.cells=[w]/\jO X U (cW j ar) w r.1/\bh X h j U ar
def pa(az:dx X)(aM:(q X).ba<=j)(bX:bh X h j a6 aJ){M:dJ}{bm:Bool}{r:List dJ×Bool}(Z:r=([M],bm)):
 aW X 210 [.agg (dn M), .bool bm] a6 aJ (λT2 EJ aup=>E (cK 0 T2) λayr=>E (cK 1 T2) λays=>Wm X h j r (.tuple [ayr,ays]) EJ aup) (λ_ _ _=>False):=by
 subst Z
 have gE:=bX.le
 have a:=(awJ (h:=a6) (j:=aJ) az Zo M bm).out
 refine a.Zm ?_
 rintro ae U aV ⟨w,rfl,bI,bb,bC⟩
 refine cS ⟨?_⟩
 exact⟨w,rfl,bI,bb.ad (λ_ _=>rfl) (λe H=>⟨zo H.1,H.2⟩),bX.trans bC⟩
def ye{I:bG}{K:List dJ}(bI:tb kr I)(jp:K.length=I.args.length){m:Nat}(a:r5 I.kind=some (m+1)):∃b l,K=b::l:=by
 have:=bI.re _ a
 cases K with
 |nil=>simp at jp;omega
 |cons b l=>exact⟨b,l,rfl⟩
def ax3{K:List dJ}{a8:J}{cM:List Nat}(a:gC X h a8 3 (l7 K).flatten cM)(W:2<=K.length)(bs:K.length<=1000)(aD:∀e∈cM,P e):
 ∃hL,s1 X h 3 a8 (some (.Z 1)) none none=some hL/\hL.cells=[hL]/\r2 X h P hL K.tail:=by
 have gn:=TY K
 obtain⟨CB,cG⟩:=a.rH (P:=P) Zd (Ew K) (by simp[l7];omega) aD
 have hG:=(show jO X h P a8 K from⟨CB,cG⟩).rd
 have dQ:∀i t,K.tail[i]? =some t->∃b Y,dd 3 a8 (.Z ((i+1:Nat):Int))=some (.ptr b Y)/\P b/\bM X h 3 (.ptr b Y)=some (.agg (dn t))/\al X h (.ptr b Y)=some (.bool t.b):=
  λi t aN=>hG.e9 (i+1) t (by rw[<-aN];cases K<;>simp)
 have c4:∀i t,K.tail[i]? =some t->i<K.length-1:=λi t aN=>by have:=(Zc.1 aN).1;simpa using this
 have bH:nc (.Z 1)=some 1:=rfl
 rcases a with (⟨_,a,_⟩|⟨b,fz,n,c,rfl,au,rfl,aP,bK,cr,dP⟩)|⟨b,n,c,st,rfl,au,rfl,aP,bK⟩
 ·rw[a]at gn;simp at gn;omega
 ·have aM:n=K.length:=Zo
  subst aM
  have ai:mb K.length ((K.length*3-0)/3) (some (.Z 1)) none none=some (1,K.length,K.length):=by
   have cL:(K.length*3-0)/3=K.length:=Zo
   rw[cL]
   have cC:Nat.ble 1 K.length=true:=ln Zo
   simp only[mb,pg,bH,cC,e6]
  refine⟨.fm b (0+1*3) (K.length-1) 3, ?_,rfl,⟨by rw[qL,List.length_tail],by simp;omega,λi t aN=> ?_⟩⟩
  ·simp only[s1,xP,cr,ai]
   have cL:(K.length*3-0)/3=K.length:=Zo
   rw[cL]
   have cC:Nat.blt 1 K.length=true:=by simp[Nat.blt];omega
   simp[cC,fG]
  ·obtain⟨cT,gz,cL,cC,d6,fU⟩:=dQ i t aN
   have kg:=c4 i t aN
   rw[Gl _ Zo]at cL
   cases cL
   refine⟨b,0+1*3+i*3,Gl _ kg,cC, ?_, ?_⟩
   ·rw[show 0+1*3+i*3=0+(i+1)*3 by omega];exact d6
   ·rw[show 0+1*3+i*3=0+(i+1)*3 by omega];exact fU
 ·have aM:n=K.length:=Zo
  subst aM
  have ai:mb K.length K.length (some (.Z 1)) none none=some (1,K.length,K.length):=by
   have cC:Nat.ble 1 K.length=true:=ln Zo
   simp only[mb,pg,bH,cC,e6]
  refine⟨.slice b (0+1*3) (K.length-1) (K.length-1), ?_,rfl,⟨by rw[ph,List.length_tail],by simp;omega,λi t aN=> ?_⟩⟩
  ·simp only[s1,ai]
   have cC:¬K.length=1:=Zo
   simp[cC,hO]
  ·obtain⟨cT,gz,cL,cC,d6,fU⟩:=dQ i t aN
   have kg:=c4 i t aN
   rw[Gk _ Zo]at cL
   cases cL
   refine⟨b,0+1*3+i*3,Gk _ kg,cC, ?_, ?_⟩
   ·rw[show 0+1*3+i*3=0+(i+1)*3 by omega];exact d6
   ·rw[show 0+1*3+i*3=0+(i+1)*3 by omega];exact fU
set_option maxRecDepth 100000 in
def awL(az:dx X)(eH:ED X){aq:List Go.aZ.Node}{t:bq->Option eJ}{b1:Nat}{Cg p cF:J}(aM:(q X).ba<=j)(ij:b1<j)(aB:EB X h b1 Cg p cF)(bb:oK X h P cF t)(b0:ns X h P aq p)(ch:aq≠[])(bB:∀e,P e->e<j)(bs:∀g∈aq,g.ef.length<=100000/\g.out.length<=100000)
 {I:bG}{v:J}(bA:cR X h P I v)(bI:tb kr I){K:List dJ}{a8:J}{cM:List Nat}(jp:K.length=I.args.length)(aE:gC X h a8 3 (l7 K).flatten cM)(Bi:K.length<=300000)(fj:∀e∈cM,P e):
 aW X 184 [.ptr b1 0,v,a8] h j (Wm X h j (hg aq t I K)) (λ_ _ _=>False):=by
 obtain⟨CB,cG⟩:=aE.rH (P:=P) Zd (Ew K) (by simp[l7];omega) fj
 have acf:jO X h P a8 K:=⟨CB,cG⟩
 have hG:=acf.rd
 obtain⟨jq,_,_⟩:=jt hG.len
 refine zv az (ahz X) ?_
 rw[ahA]
 unfold Vd
 obtain⟨eo,_,_,_,rfl,aa2,a0,_,ck,_,a4,a5,hv,_⟩:=id bA.open
 have rx:bM X h 3 (.ptr eo 4)=some (.agg (dn I.ty)):=by rw[p5,a4,a5,hv];rfl
 have bY:=bI.bY
 have cx:=bI.cx
 have aai:=eH h
 have ad:∀{U:V an}{n aV:Nat},bh X h n U aV->j<=n->∀e,P e->ab X U e=ab X h e:=λa aM e H=>a.ad e (zo (bB e H))
 have xx:∀b l,K=b::l->∃cD Y,dd 3 a8 (.Z 0)=some (.ptr cD Y)/\P cD/\bM X h 3 (.ptr cD Y)=some (.agg (dn b))/\al X h (.ptr cD Y)=some (.bool b.b):=λb l a=>hG.e9 0 b (by rw[a];rfl)
 have BL:∀{U:V an}{n aV cD Y:Nat}{b:dJ},bh X h n U aV->j<=n->P cD->bM X h 3 (.ptr cD Y)=some (.agg (dn b))->al X h (.ptr cD Y)=some (.bool b.b)->bM X U 3 (.ptr cD Y)=some (.agg (dn b))/\al X U (.ptr cD Y)=some (.bool b.b):=
  λa aM aA cL cC=>⟨by rw[kI,ad a aM _ aA, <-kI];exact cL,zz (ad a aM _ aA) cC⟩
 have Q4:I.kind=1\/I.kind=2\/(I.kind=3\/I.kind=5)\/(I.kind=4\/I.kind=19\/I.kind=20)\/I.kind=6\/(I.kind=7\/I.kind=8\/I.kind=9\/I.kind=21\/I.kind=22)\/(I.kind=16\/I.kind=17\/I.kind=18)\/(I.kind=10\/I.kind=11)\/(I.kind=12\/I.kind=13\/I.kind=14\/I.kind=15)\/I.kind=23\/I.kind=24\/I.kind=26\/I.kind=25:=Zo
 rcases Q4 with a|a|a|a|a|a|a|a|a|a|a|a|a
 ·refine gl @a0 @md @mc @rx ⟨?_⟩
  exact pa az aM (bh.refl _ _) (by unfold hg;rw[Zr a])
 ·refine gl @a0 @md @mc @ck ⟨?_⟩
  refine(Kh az aM ij aB.dZ bb bB I.name).Zm ?_
  rintro ae aR bc ⟨rfl,bC⟩
  refine cS ⟨?_⟩
  exact pa az aM bC (by unfold hg;rw[Zh Zo,Zr a])
 ·rcases a with a|a
  all_goals
   obtain⟨b,l,rfl⟩:=ye bI jp (by rw[a];rfl)
   obtain⟨cD,Y,fX,f7,i3,i4⟩:=xx b l rfl
   refine fW @a0 @md @mc @fX @i3 ⟨?_⟩
   exact pa az aM (bh.refl _ _) (by simp[hg,a])
 ·rcases a with a|a|a
  all_goals
   obtain⟨b,l,rfl⟩:=ye bI jp (by rw[a];rfl)
   obtain⟨cD,Y,fX,f7,i3,i4⟩:=xx b l rfl
   refine iu @a0 @md @mc @fX @i3 @i4 ⟨?_⟩
   exact pa az aM ((bh.refl _ _).more Zo) (by simp[hg,a])
 ·obtain⟨b,l,rfl⟩:=ye bI jp (by rw[a];rfl)
  obtain⟨cD,Y,fX,f7,i3,i4⟩:=xx b l rfl
  refine iu @a0 @md @mc @fX @i3 @ck ⟨?_⟩
  refine(Kh (j:=j+16) az Zo Zo aB.dZ bb (λe H=>zo (bB e H)) I.name).Zm ?_
  rintro ae aR bc ⟨rfl,bC⟩
  obtain⟨jG,pc⟩:=BL bC Zo f7 i3 i4
  refine c1 @LN @jG ⟨?_⟩
  refine gs (p9 b) ?_
  refine cS ⟨?_⟩
  exact pa az aM (bC.j3 Zo) (by simp[hg,a])
 ·rcases a with a|a|a|a|a
  all_goals
   obtain⟨b,l,rfl⟩:=ye bI jp (by rw[a];rfl)
   obtain⟨cD,Y,fX,f7,i3,i4⟩:=xx b l rfl
   refine fW @a0 @md @mc @fX @i3 ⟨?_⟩
   refine(GW (j:=j+11) az Zo jq hG (λe H=>zo (bB e H))).Zm ?_
   rintro ae aR bc ⟨rfl,bC⟩
   obtain⟨jG,pc⟩:=BL bC Zo f7 i3 i4
   refine ce @jG ⟨?_⟩
   refine gs (p9 b) ?_
   refine cS ⟨?_⟩
   exact pa az aM (bC.j3 Zo) (by simp[hg,a])
 ·rcases a with a|a|a
  all_goals
   obtain⟨b,l,rfl⟩:=ye bI jp (by rw[a];rfl)
   obtain⟨cD,Y,fX,f7,i3,i4⟩:=xx b l rfl
   refine fW @a0 @md @mc @fX @i3 ⟨?_⟩
   refine(GW (j:=j+18) az Zo jq hG (λe H=>zo (bB e H))).Zm ?_
   rintro ae aR bc ⟨rfl,bC⟩
   obtain⟨jG,pc⟩:=BL bC Zo f7 i3 i4
   cases ai:pp (b::l)
   ·refine ce @jG ⟨?_⟩
    refine gs (p9 b) ?_
    refine cS ⟨?_⟩
    exact pa az aM (bC.j3 Zo) (by simp[hg,a,ai])
   ·refine d9 @fX @jG @pc ⟨?_⟩
    refine gs (p9 b) ?_
    refine cS ⟨?_⟩
    exact pa az aM (bC.j3 Zo) (by simp[hg,a,ai])
 ·rcases a with a|a
  all_goals
   obtain⟨b,l,rfl⟩:=ye bI jp (by rw[a];rfl)
   obtain⟨cD,Y,fX,f7,i3,i4⟩:=xx b l rfl
   refine gl @a0 @md @mc @aai ⟨?_⟩
   refine(GW (j:=j+9) az Zo jq hG (λe H=>zo (bB e H))).Zm ?_
   rintro ae aR bc ⟨rfl,bC⟩
   obtain⟨jG,pc⟩:=BL bC Zo f7 i3 i4
   have L6:=eH aR
   refine ce @L6 ⟨?_⟩
   refine gs (p9 Ci) ?_
   refine cS ⟨?_⟩
   exact pa az aM (bC.j3 Zo) (by simp[hg,a])
 ·rcases a with a|a|a|a
  all_goals
   obtain⟨b,l,rfl⟩:=ye bI jp (by rw[a];rfl)
   obtain⟨cD,Y,fX,f7,i3,i4⟩:=xx b l rfl
   refine gl @a0 @md @mc @aai ⟨?_⟩
   refine(GW (j:=j+16) az Zo jq hG (λe H=>zo (bB e H))).Zm ?_
   rintro ae aR bc ⟨rfl,bC⟩
   obtain⟨jG,pc⟩:=BL bC Zo f7 i3 i4
   have L6:=eH aR
   cases ai:pp (b::l)
   ·refine ce @L6 ⟨?_⟩
    refine gs (p9 Ci) ?_
    refine cS ⟨?_⟩
    exact pa az aM (bC.j3 Zo) (by simp[hg,a,ai])
   ·refine d9 @fX @pc @L6 ⟨?_⟩
    refine gs (p9 Ci) ?_
    refine cS ⟨?_⟩
    exact pa az aM (bC.j3 Zo) (by simp[hg,a,ai])
 ·obtain⟨ei,cT,dL,rfl⟩:∃ei cT dL,K=[ei,cT,dL]:=by
   have au:K.length=3:=jp.trans (bI.re 3 (by rw[a];rfl))
   match K,au with
   |[x,e,bu],_=>exact⟨x,e,bu,rfl⟩
  obtain⟨cD,Y,fX,f7,i3,i4⟩:=xx ei [cT,dL] rfl
  obtain⟨Lh,avg,cL,cC,d6,fU⟩:=hG.e9 1 cT rfl
  have cL:dd 3 a8 (.Z 1)=some (.ptr Lh avg):=cL
  obtain⟨hL,j5,kQ,Ku⟩:=ax3 aE Zs Zs fj
  cases ai:ei.b
  ·rw[ai]at i4
   refine eu @a0 @md @mc @fX @cL @d6 @i4 ⟨?_⟩
   refine gs (p9 cT) ?_
   refine cS ⟨?_⟩
   exact pa az aM ((bh.refl _ _).more Zo) (by simp[hg,a,ai])
  ·rw[ai]at i4
   refine eu @a0 @md @mc @fX @cL @d6 (Za @i4 @j5) ⟨?_⟩
   refine(GW (j:=j+18) (b:=cT) (l:=[dL]) az Zo kQ Ku (λe H=>zo (bB e H))).Zm ?_
   rintro ae aR bc ⟨rfl,bC⟩
   obtain⟨jG,pc⟩:=BL bC Zo cC d6 fU
   refine ce @jG ⟨?_⟩
   refine gs (p9 cT) ?_
   refine cS ⟨?_⟩
   exact pa az aM (bC.j3 Zo) (by simp[hg,a,ai])
 ·obtain⟨b,l,rfl⟩:=ye bI jp (by rw[a];rfl)
  obtain⟨cD,Y,fX,f7,i3,i4⟩:=xx b l rfl
  refine fW @a0 @md @mc @fX @i3 ⟨?_⟩
  refine(GW (j:=j+20) az Zo jq hG (λe H=>zo (bB e H))).Zm ?_
  rintro ae aR bc ⟨rfl,bC⟩
  obtain⟨jG,pc⟩:=BL bC Zo f7 i3 i4
  cases ai:pp (b::l)
  ·refine ce @jG ⟨?_⟩
   refine gs (p9 b) ?_
   refine ce @jG ⟨?_⟩
   refine gs (p9 b) ?_
   refine cS ⟨?_⟩
   exact pa az aM (bC.j3 Zo) (by simp[hg,a,ai])
  ·have O4:al X aR (.ptr eo 2)=some (.str I.name):=zz (ad bC Zo eo aa2) ck
   have f5:=bC.le
   refine c1 @O4 @jG ⟨?_⟩
   refine gs (p9 b) ?_
   refine cS ⟨?_⟩
   refine(Kh (j:=bc) az Zo Zo (aB.ad (bC.ad b1 Zo)).dZ (bb.ad (bv:=P) (ad bC Zo) (λ_ a=>a)) (λe H=>zo (bB e H)) I.name).Zm ?_
   rintro ae a7 bd ⟨rfl,cm⟩
   have Fy:=bC.trans cm
   obtain⟨fc,f1⟩:=BL Fy Zo f7 i3 i4
   refine c1 @LN @fc ⟨?_⟩
   refine gs (p9 b) ?_
   refine cS ⟨?_⟩
   exact pa az aM (Fy.j3 Zo) (by simp[hg,a,ai])
 ·obtain⟨b,l,rfl⟩:=ye bI jp (by rw[a];rfl)
  obtain⟨cD,Y,fX,f7,i3,i4⟩:=xx b l rfl
  cases ai:I.ty.b
  ·rw[ai]at a4
   refine fW @a0 @md @mc @rx @a4 ⟨?_⟩
   exact pa az aM ((bh.refl _ _).more Zo) (by simp[hg,a,ai])
  ·rw[ai]at a4
   refine eu @a0 @md @mc @rx @a4 @fX @i4 ⟨?_⟩
   exact pa az aM ((bh.refl _ _).more Zo) (by simp[hg,a,ai])
 ·have Z:hg aq t I K=yk aq I.name K:=by simp[hg,a]
  rw[Z]
  refine d9 @a0 @md @mc ⟨?_⟩
  refine(ala az aM ij aB b0 ch bB bs bA acf).Zm ?_
  rintro ae aR bc ⟨w,rfl,T,W,au⟩
  refine cS ⟨?_⟩
  exact⟨w,rfl,T,W,au⟩
end
def CM(I:Nat×J×Nat):J×J×Nat:=(.ptr I.1 0,I.2.1,I.2.2)
section
variable{X:co}{h U a6 aR:V an}{j ar aJ bc:Nat}
def lm(X:co)(h:V an)(P:Nat->Prop)(r:Nat)(cV:Nat->Option J):Prop:=∃dw fh,ab X h r=some (.map (dw.map CM) fh)/\(∀w,rB dw w=cV w)/\∀x∈dw,P x.1/\nV X h x.1
variable{P:Nat->Prop}
def lm.ad{r:Nat}{cV:Nat->Option J}(a:lm X h P r cV)(ate:ab X U r=ab X h r)(F:∀e,P e->ab X U e=ab X h e):lm X U P r cV:=by
 obtain⟨dw,fh,T,W,au⟩:=a
 exact⟨dw,fh,by rw[ate];exact T,W,λx ah=>⟨(au x ah).1,(au x ah).2.ad (F _ (au x ah).1)⟩⟩
def S5(b:Nat):m1 X 20 47 (.ptr b 0)=true:=Zk
def amv(b dN:Nat):ks X h 20 47 (.ptr b 0) (.ptr dN 0)=bk.ptrEq X h b 0 dN 0:=Zk
def avS{b dN:Nat}(a:nV X h b)(cz:nV X h dN)(aM:(q X).ba<=b):bk.ptrEq X h b 0 dN 0=some (decide (b=dN)):=by
 obtain⟨c,n,T,W⟩:=a
 obtain⟨f9,aV,au,aP⟩:=cz
 unfold bk.ptrEq
 rw[hO]
 by_cases I:b=dN
 ·simp[I]
 ·have cT:Nat.blt 0 n=true:=ln W
  have dL:Nat.blt 0 aV=true:=ln aP
  have cL:GZ X h b 0=true:=by simp only[GZ,T,kD,ln aM,cT,Yd]
  have cC:BN X h dN 0=true:=by simp only[BN,au,dL]
  simp[I,cL,cC,fG]
def P1{b:Nat}(ai:nV X h b)(aM:(q X).ba<=b):∀(dw:List (Nat×J×Nat)) (i:Nat),(∀x∈dw,P x.1/\nV X h x.1)->findKey X h 47 (.ptr b 0) (dw.map CM) i=some (mE dw b i):=by
 intro dw
 induction dw with
 |nil=>intro i _;rfl
 |cons x dw am=>
  intro i n9
  simp only[ZR,CM,findKey,amv,avS ai (n9 x (Zv ..)).2 aM,mE]
  by_cases a:b=x.1
  ·have:x.1=b:=a.symm
   simp[this]
  ·have:¬x.1=b:=λI=>a I.symm
   simp only[a,this,Z9,ZA]
   exact am (i+1) (λx ah=>n9 x (Zu _ ah))
def as5(b:Nat):nJ 20 (.ptr b 0) (.ptr b 0)=true:=by
 simp[nJ]
def atZ{r:Nat}{cV:Nat->Option J}(a:lm X h P r cV){b:Nat}(ai:nV X h b)(aM:(q X).ba<=b)(bu:J)(ok:Bool):
 kJ X h 47 bu (.map r) (.ptr b 0) ok=some (match cV b with|some v=>bV ok (.tuple [v, .bool true]) v|none=>bV ok (.tuple [bu, .bool false]) bu):=by
 obtain⟨dw,fh,T,W,au⟩:=a
 have aP:=W b
 unfold rB at aP
 simp only[kJ,T,S5,e6,P1 ai aM _ _ au]
 cases b6:mE dw b 0 with
 |none=>rw[b6]at aP;rw[<-aP];rfl
 |some p=>rw[b6]at aP;rw[<-aP];rfl
def aum{r:Nat}{cV:Nat->Option J}(Z:(q X).ba<=r)(a:lm X h P r cV){b:Nat}(ai:nV X h b)(aA:P b)(aM:(q X).ba<=b)(v:J):
 ∃U,vL X h j 47 (.map r) (.ptr b 0) v=some (.fE bk.undef U j)/\lm X U P r (λx=>if x=b then some v else cV x)/\∀e,e≠r->ab X U e=ab X h e:=by
 obtain⟨dw,fh,T,W,au⟩:=a
 have aO:kD X r=true:=ln Z
 have dT:∀e,nV X h e->e≠r:=λe H I=>by obtain⟨c,n,ao,_⟩:=H;rw[I,T]at ao;cases ao
 have key:∀(N:List (Nat×J×Nat)) (tm:Nat),(∀x∈N,x.1=b\/∃e∈dw,e.1=x.1)->(∀x∈N,P x.1/\nV X (Go.bk.bo X h r (some (.map (N.map CM) tm))) x.1):=λN tm jT x ah=>by
  have ao:P x.1/\nV X h x.1:=by
   rcases jT x ah with I|⟨e,H,I⟩
   ·rw[I];exact⟨aA,ai⟩
   ·rw[<-I];exact au e H
  exact⟨ao.1,ao.2.ad (aG Z (dT _ ao.2))⟩
 cases b9:mE dw b 0 with
 |none=>
  refine⟨Go.bk.bo X h r (some (.map ((dw++[(b,v,fh)]).map CM) (fh+1))), ?_,⟨dw++[(b,v,fh)],fh+1,bi Z,λx=> ?_,key _ _ λx ah=> ?_⟩,λe H=>aG Z H⟩
  ·simp only[vL,T,S5,e6,P1 ai aM _ _ au,b9,bk.setObj,aO,e6,hw]
   rw[Yw]
   rfl
  ·rw[adh _ _ _ _ _ (by unfold rB;rw[b9];rfl),W]
  ·rcases Zy.1 ah with ah|ah
   ·exact .inr ⟨x,ah,rfl⟩
   ·rw[List.mem_singleton]at ah;exact .inl (by rw[ah])
 |some p=>
  obtain⟨aa,v0⟩:=p
  obtain⟨born,aps⟩:=X6 b dw aa v0 b9
  have aqI:(dw.map CM)[aa]? =some (.ptr b 0,v0,born):=by rw[Zt,aps];rfl
  refine⟨Go.bk.bo X h r (some (.map ((dw.set aa (b,v,born)).map CM) fh)), ?_,⟨dw.set aa (b,v,born),fh,bi Z,λx=> ?_,key _ _ λx ah=> ?_⟩,λe H=>aG Z H⟩
  ·simp only[vL,T,S5,e6,P1 ai aM _ _ au,b9,pn,aqI,as5,bk.setObj,aO,e6,hw]
   rw[List.map_set]
   rfl
  ·rw[adi _ _ _ _ _ _ _ b9,W]
  ·rcases List.mem_or_eq_of_mem_set ah with ah|ah
   ·exact .inr ⟨x,ah,rfl⟩
   ·exact .inl (by rw[ah])
mutual
def jy(X:co)(h:V an)(aq:List Go.aZ.Node)(t:bq->Option eJ)(cV:Nat->Option J)(P dq:Nat->Prop):bG->J->Prop
 | .mk F K nm no ty n args,v=>∃b a8 cD bj row w,v= .ptr b 0/\P b/\al X h (.ptr b 8)=some a8/\d1 X h P cD a8 1 (bj.map λv=>[v])/\sd aq t (.mk F K nm no ty n args)= .ok row/\cV b=some w/\w.cells=[w]/\jO X h dq w row/\jl X h aq t cV P dq args bj
def jl(X:co)(h:V an)(aq:List Go.aZ.Node)(t:bq->Option eJ)(cV:Nat->Option J)(P dq:Nat->Prop):List bG->List J->Prop
 |[],bj=>bj=[]
 |I::b7,bj=>∃v jL,bj=v::jL/\jy X h aq t cV P dq I v/\jl X h aq t cV P dq b7 jL
end
mutual
def jy.ad{aq:List Go.aZ.Node}{t:bq->Option eJ}{cV ju:Nat->Option J}{P dq q4 ra:Nat->Prop}(F:∀e,P e->ab X U e=ab X h e)(sH:∀e,dq e->ab X U e=ab X h e)(aD:∀e,P e->ju e=cV e)(aA:∀e,P e->q4 e)(H:∀e,dq e->ra e):∀(I:bG) (v:J),jy X h aq t cV P dq I v->jy X U aq t ju q4 ra I v
 | .mk vt K nm no ty n args,v,a=>by
   rw[jy]at a ⊢
   obtain⟨b,a8,cD,bj,row,w,T,W,au,aP,bK,cr,dP,fi,kd⟩:=a
   exact⟨b,a8,cD,bj,row,w,T,aA b W,zz (F b W) au,(aP.ad F).lift aA,bK,by rw[aD b W];exact cr,dP,fi.ad sH H,jl.ad F sH aD aA H args bj kd⟩
def jl.ad{aq:List Go.aZ.Node}{t:bq->Option eJ}{cV ju:Nat->Option J}{P dq q4 ra:Nat->Prop}(F:∀e,P e->ab X U e=ab X h e)(sH:∀e,dq e->ab X U e=ab X h e)(aD:∀e,P e->ju e=cV e)(aA:∀e,P e->q4 e)(H:∀e,dq e->ra e):∀(b7:List bG) (bj:List J),jl X h aq t cV P dq b7 bj->jl X U aq t ju q4 ra b7 bj
 |[],bj,a=>by rw[jl]at a ⊢;exact a
 |I::b7,bj,a=>by
  rw[jl]at a ⊢
  obtain⟨v,jL,T,W,au⟩:=a
  exact⟨v,jL,T,jy.ad F sH aD aA H I v W,jl.ad F sH aD aA H b7 jL au⟩
end
end
def PY(aq:List Go.aZ.Node)(t:bq->Option eJ)(I:bG):sd aq t I=(match n1 aq t I.args with
 | .error K=> .error K
 | .ok (ci,one)=>if one=false then .error I.at_ else if (hg aq t I ci).2=false then .error I.at_ else .ok (hg aq t I ci).1):=by
 cases I;rw[sd];rfl
section
variable{X:co}{h U a6 aR:V an}{j ar aJ bc:Nat}{P dq:Nat->Prop}
def jy.mk'{aq:List Go.aZ.Node}{t:bq->Option eJ}{cV:Nat->Option J}{I:bG}{b cD:Nat}{a8 w:J}{bj:List J}{row:List dJ}(W:P b)(au:al X h (.ptr b 8)=some a8)(aP:d1 X h P cD a8 1 (bj.map λv=>[v]))(bK:sd aq t I= .ok row)(cr:cV b=some w)(dP:w.cells=[w])(fi:jO X h dq w row)(kd:jl X h aq t cV P dq I.args bj):jy X h aq t cV P dq I (.ptr b 0):=by
 cases I
 rw[jy]
 exact⟨b,a8,cD,bj,row,w,rfl,W,au,aP,bK,cr,dP,fi,kd⟩
def jl.snoc{aq:List Go.aZ.Node}{t:bq->Option eJ}{cV:Nat->Option J}{I:bG}{v:J}(F:jy X h aq t cV P dq I v):∀{b7:List bG}{bj:List J},jl X h aq t cV P dq b7 bj->jl X h aq t cV P dq (b7++[I]) (bj++[v]):=by
 intro b7
 induction b7 with
 |nil=>intro bj a;rw[jl]at a;subst a;rw[YK,jl];exact⟨v,[],rfl,F,by rw[jl]⟩
 |cons K b7 am=>
  intro bj a
  rw[jl]at a
  obtain⟨KI,ayE,rfl,W,au⟩:=a
  rw[List.cons_append,jl]
  exact⟨KI,ayE++[v],rfl,W,am au⟩
def NN:∀{I:bG}{v:J},cR X h P I v->∃b a8 cD bj,v= .ptr b 0/\P b/\nV X h b/\al X h (.ptr b 1)=some (.Z I.at_)/\al X h (.ptr b 8)=some a8/\d1 X h P cD a8 1 (bj.map λv=>[v])/\dB X h (λe=>P e/\e≠b) I.args bj
 | .mk ..,_,a=>by
   unfold cR at a
   obtain⟨b,T,bB,bl,W,au,aP,bK,cr,dP,fi,kd,a8,cD,bj,sh,uR,uW,yA⟩:=a
   exact⟨b,a8,cD,bj,T,bB,bl,au,sh,uR,dB.lift (λe H=>⟨H.1,H.2.1⟩) _ _ yA⟩
structure wA(X:co)(h:V an)(eN:Nat)(P:Nat->Prop)(b1 ao r:Nat)(cF p:J)(aq:List Go.aZ.Node)(t:bq->Option eJ):Prop where
 ba:(q X).ba<=eN
 lc:b1<eN
 vK:ao<eN
 t8:r<eN
 Kf:(q X).ba<=r
 Fc:b1≠r
 qr:ao≠r
 bB:∀e,P e->(q X).ba<=e/\e<eN/\e≠r
 Ik:∃c,ab X h b1=some (.cells c 3 .own)/\c.get 0=some (.ptr ao 0)/\c.get 1=some p/\c.get 2=some cF
 Ev:al X h (.ptr ao 0)=some (.map r)
 oz:oK X h P cF t
 prog:ns X h P aq p
def wA.E8{eN b1 ao r:Nat}{cF p:J}{aq:List Go.aZ.Node}{t:bq->Option eJ}(a:wA X h eN P b1 ao r cF p aq t):EB X h b1 (.ptr ao 0) p cF:=by
 obtain⟨c,ch,T,W,au⟩:=a.Ik
 exact⟨by rw[bR ch];exact T,by rw[bR ch];exact W,by rw[bR ch];exact au⟩
def wA.ad{eN b1 ao r:Nat}{cF p:J}{aq:List Go.aZ.Node}{t:bq->Option eJ}(a:wA X h eN P b1 ao r cF p aq t)(F:∀e,e<eN->e≠r->ab X U e=ab X h e):wA X U eN P b1 ao r cF p aq t:=
 have acY:∀e,P e->ab X U e=ab X h e:=λe H=>F e (a.bB e H).2.1 (a.bB e H).2.2
 ⟨a.ba,a.lc,a.vK,a.t8,a.Kf,a.Fc,a.qr,a.bB,by rw[F b1 a.lc a.Fc];exact a.Ik,zz (F ao a.vK a.qr) a.Ev,a.oz.ad acY (λ_ a=>a),a.prog.ad acY (λ_ a=>a)⟩
def wA.fr{eN b1 ao r:Nat}{cF p:J}{aq:List Go.aZ.Node}{t:bq->Option eJ}(a:wA X h eN P b1 ao r cF p aq t)(gm:cf X [r] h j U ar)(aM:eN<=j):wA X U eN P b1 ao r cF p aq t:=
 a.ad λe T W=>gm.ad e Zo (by simp[W])
def af1(X:co)(h:V an)(j:Nat)(bx:Nat->Prop)(r:Nat)(aq:List Go.aZ.Node)(t:bq->Option eJ)(cV:Nat->Option J)(bv:Nat->Prop)(I:bG)(v:J):bJ:=λae U ar=>∃row ju,sd aq t I= .ok row/\ae.cells=[ae]/\jO X U (cW j ar) ae row/\lm X U bx r ju/\(∀e,¬bv e->ju e=cV e)/\jy X U aq t ju bv (cW j ar) I v/\cf X [r] h j U ar
def af0(X:co)(h:V an)(j r:Nat)(aq:List Go.aZ.Node)(t:bq->Option eJ)(I:bG):bJ:=λae U ar=>∃K,sd aq t I= .error K/\ae=oS 26 K/\cf X [r] h j U ar
set_option maxRecDepth 100000 in
def amL(az:dx X)(eH:ED X){aq:List Go.aZ.Node}{t:bq->Option eJ}{b1 ao r eN:Nat}{p cF:J}(ch:aq≠[])(bs:∀g∈aq,g.ef.length<=100000/\g.out.length<=100000){bx:Nat->Prop}(w6:∀e,bx e->P e):
 ∀(N:Nat) (I:bG),SizeOf.sizeOf I<N->e4 kr I->∀(bv:Nat->Prop) (v:J) (h:V an) (j:Nat) (cV:Nat->Option J),(∀e,bv e->bx e)->eN<=j->wA X h eN P b1 ao r cF p aq t->lm X h bx r cV->cR X h bv I v->
  aW X 131 [.ptr b1 0,v] h j (af1 X h j bx r aq t cV bv I v) (af0 X h j r aq t I):=by
 intro N
 induction N with
 |zero=>intro I a;omega
 |succ N am=>
  intro I jT M8 bv v h j cV FG aM bX n9 bA
  have gD:∀e,bv e->P e:=λe H=>w6 e (FG e H)
  have acl:=M8
  rw[e4.eq]at acl
  obtain⟨bI,y0⟩:=acl
  refine zv az (agD X) ?_
  rw[agE]
  unfold UD
  obtain⟨b,a8,cD,bj,rfl,ai,sx,bf,ir,cG,has⟩:=NN bA
  have gP:=bX.ba
  have bB:=bX.bB
  have k1:=bB b (gD b ai)
  have ew:=cG.len
  have xt:=has.len
  rw[Zi,xt]at ew
  have jp:I.args.length<=300000:=by have:=cG.many;rw[Zi,xt]at this;exact this
  refine c1 @ir @ew ⟨?_⟩
  refine fC (λm M U aV=>∃(aa:Nat) (s:J) (cM:List Nat) (ya:List dJ) (Hd:Bool) (ju:Nat->Option J) (q6:Nat->Prop),M.g 0=some (.ptr b1 0)/\M.g 1=some (.ptr b 0)/\M.g 5=some s/\M.g 6=some (.bool Hd)/\M.g 15=some a8/\M.g 16=some (.Z (I.args.length:Int))/\M.g 17=some (.Z (aa:Int))/\aa+m=I.args.length
   /\gC X U s 3 (l7 ya).flatten cM/\(∀e∈cM,j<=e/\e<aV)/\(Hd=true->ya.length=aa)/\ya.length<=aa
   /\n1 aq t I.args=(match n1 aq t (I.args.drop aa)with| .error K=> .error K| .ok (ci,one)=> .ok (ya++ci,Hd&&one))
   /\lm X U bx r ju/\(∀e,¬bv e->ju e=cV e)/\ju b=cV b/\cf X [r] h j U aV
   /\(∀e,q6 e->bv e/\e≠b)/\dB X U q6 (I.args.drop aa) (bj.drop aa)/\jl X U aq t ju (λe=>(bv e/\e≠b)/\¬q6 e) (λe=>cW j aV e/\e∉cM) (I.args.take aa) (bj.take aa))
   I.args.length ⟨0, .aU,[],[],true,cV,λe=>bv e/\e≠b,bp,bp,bp,bp,bp,bp,fQ,Zo, .inl (.inl ⟨rfl,rfl,rfl⟩),Zs,λ_=>rfl,Zl _,by
    rw[ZZ];cases n1 aq t I.args with
    |error K=>rfl
    |ok x=>obtain⟨ci,one⟩:=x;simp,n9,λ_ _=>rfl,rfl,cf.refl _ _ _,λ_ a=>a,by simpa using has,by rw[Z6,Z6,jl]⟩ ?_
  rintro m M aR bc ⟨aa,s,cM,ya,Hd,SI,q6,t0,t1,t5,gt,v8,Al,wa,bL,aI,fj,tR,azF,k3,aaF,FS,abC,dz,yE,o1,Bv⟩
  have f5:=dz.le
  have bC:=bX.fr dz aM
  have kH:∀e,P e->ab X aR e=ab X h e:=λe H=>by have:=bB e H;exact dz.ad e Zo (by simp[this.2.2])
  have aqT:=sx.ad (kH b (gD b ai))
  cases m with
  |zero=>
   have d:=zp aa I.args.length
   have aql:aa=I.args.length:=Zo
   rw[ZH Zo,n1]at k3
   simp only[Yx,Yt]at k3
   have od:=PY aq t I
   rw[k3]at od
   simp only[]at od
   have ajW:al X aR (.ptr b 1)=some (.Z I.at_):=zz (kH b (gD b ai)) bf
   cases Hd with
   |false=>
    rw[Zr rfl]at od
    refine iu @wa @Al @d @gt @t1 @ajW ⟨?_⟩
    refine(If az Zo I.at_).mono (λ_ _ _ a=>a) ?_
    rintro ae a7 bd ⟨rfl,cm⟩
    exact⟨_,od,rfl,dz.trans (cf.of cm)⟩
   |true=>
    rw[Zh Zd]at od
    have ao1:∀e,(P e\/(j<=e/\e<bc))->e<bc:=λe H=>by
     rcases H with a|a
     ·have:=bB e a;omega
     ·exact a.2
    refine eu @wa @Al @d @gt @t0 @t1 @t5 ⟨?_⟩
    refine(awL (P:=λe=>P e\/(j<=e/\e<bc)) az eH Zo (zo bX.lc) bC.E8 (bC.oz.ad (λ_ _=>rfl) (λe a=> .inl a)) (bC.prog.ad (λ_ _=>rfl) (λe a=> .inl a)) ch ao1 bs (cR.lift (λe H=> .inl (gD e H)) _ _ (cR.ad (λe H=>kH e (gD e H)) _ _ bA)) bI (tR rfl▸aql) aI Zo (λe H=> .inr (fj e H))).Zm ?_
    rintro ae a7 bd ⟨w,rfl,sE,vl,cm⟩
    have ik:=cm.le
    have ej:=dz.trans (cf.of (X:=[r]) cm)
    have aan:=bX.fr ej aM
    have lz:∀e,P e->ab X a7 e=ab X h e:=λe H=>by have:=bB e H;exact ej.ad e Zo (by simp[this.2.2])
    cases fN:(hg aq t I ya).2 with
    |false=>
     rw[Zr fN]at od
     have K5:al X a7 (.ptr b 1)=some (.Z I.at_):=zz (lz b (gD b ai)) bf
     refine c1 @t1 @K5 ⟨?_⟩
     refine(If az Zo I.at_).mono (λ_ _ _ a=>a) ?_
     rintro ae bw db ⟨rfl,dj⟩
     exact⟨_,od,rfl,ej.trans (cf.of dj)⟩
    |true=>
     rw[Zh (by rw[fN];decide)]at od
     have ee:=aan.E8.ee
     have Ev:=aan.Ev
     refine gl @t0 @t1 @ee @Ev ⟨?_⟩
     have C1:lm X a7 bx r SI:=aaF.ad (cm.ad r (zo bX.t8)) (λe H=>cm.ad e (zo (bB e (w6 e H))))
     obtain⟨bw,bo,QO,d5⟩:=aum (j:=bd) bX.Kf C1 (aqT.ad (cm.ad b Zo)) (FG b ai) k1.1 w
     refine ky bo ?_
     refine cS ⟨?_⟩
     have eI:cf X [r] h j bw bd:=⟨ej.le,λe T W=>by rw[d5 e (by simpa using W)];exact ej.ad e T W⟩
     have la:∀e,P e->ab X bw e=ab X h e:=λe H=>by have:=bB e H;exact eI.ad e Zo (by simp[this.2.2])
     have Gu:∀e,j<=e->e<bd->ab X bw e=ab X a7 e:=λe T W=>d5 e (zo bX.t8)
     rw[ZB Zo,ZB Zo]at Bv
     have aci:jO X bw (cW j bd) w (hg aq t I ya).1:=vl.ad (λe H=>Gu e (zo H.1) H.2) (λe H=>⟨zo H.1,H.2⟩)
     refine⟨_,_,od,sE,aci,QO,λe H=> ?_,jy.mk' ai (zz (la b (gD b ai)) ir) (cG.ad λe H=>la e (gD e H)) od Zs sE aci (jl.ad (λe H=> ?_) (λe H=> ?_) (λe H=> ?_) (λe H=>H.1.1) (λe H=>⟨H.1.1,zo H.1.2⟩) _ _ Bv),eI⟩
     ·have:e≠b:=λI=>H (I▸ai)
      simp only[this,ZA];exact FS e H
     ·rw[la e (gD e H.1.1),kH e (gD e H.1.1)]
     ·rw[Gu e H.1.1 (zo H.1.2),cm.ad e H.1.2]
     ·simp only[H.1.2,ZA]
  |succ m=>
   have d:=zq aa I.args.length
   have bH:=zt aa
   obtain⟨K,aE⟩:=zr I.args aa
   have aO:I.args.drop aa=K::I.args.drop (aa+1):=by
    obtain⟨ah,H⟩:=Zc.1 aE
    rw[Zw ah,H]
   rw[aO]at o1 k3
   unfold dB at o1
   obtain⟨w,jL,y,M6,FF,IZ,Rh⟩:=o1
   have Sb:bj[aa]? =some w:=by
    have:(bj.drop aa)[0]? =some w:=by rw[M6];rfl
    simpa using this
   have ar4:jL=bj.drop (aa+1):=by
    obtain⟨ah,H⟩:=Zc.1 Sb
    rw[Zw ah]at M6
    simp only[YI]at M6
    exact M6.2.symm
   subst ar4
   obtain⟨b5,cd,c0⟩:=(cG.ad λe H=>kH e (gD e H)).one Sb
   have nG:I.args.take (aa+1)=I.args.take aa++[K]:=by rw[Z0,aE];rfl
   have ach:bj.take (aa+1)=bj.take aa++[w]:=by rw[Z0,Sb];rfl
   have eX:=aeM (Zn aE)
   have qt:∀e,y e->bv e/\e≠b:=λe H=>yE e (FF e H)
   rw[n1]at k3
   refine eu @wa @Al @v8 @t0 @d @b5 @cd ⟨?_⟩
   refine(am K Zo (T8 y0 (Zn aE)) y w aR bc SI (λe H=>FG e (qt e H).1) Zo bC aaF IZ).mono ?_ (λae U aV a=>by
    obtain⟨f3,T,W,au⟩:=a
    rw[T]at k3
    simp only[]at k3
    exact⟨f3,by rw[PY,k3],W,dz.trans au⟩)
   rintro ae a7 bd ⟨row,SJ,ft,yZ,JB,C1,Jd,acg,ej⟩
   have ik:=ej.le
   have aaw:=dz.trans ej
   rw[ft]at k3
   simp only[]at k3
   have aqs:=bX.t8
   have Nj:∀e,j<=e->e<bc->ab X a7 e=ab X aR e:=λe T W=>ej.ad e W (by simp;omega)
   have lz:∀e,P e->ab X a7 e=ab X aR e:=λe H=>by have:=bB e H;exact ej.ad e Zo (by simp[this.2.2])
   have Ml:SJ b=SI b:=Jd b (λa=>(qt b a).2 rfl)
   have xr:dB X a7 (λe=>q6 e/\¬y e) (I.args.drop (aa+1)) (bj.drop (aa+1)):=dB.ad (λe H=>lz e (gD e (yE e H.1).1)) _ _ Rh
   by_cases fL:row.length=1
   ·obtain⟨x,rfl⟩:∃x,row=[x]:=by
     match row,fL with
     |[x],_=>exact⟨x,rfl⟩
    obtain⟨et,nf,fX,f7,i3,i4⟩:=JB.rd.e9 0 x rfl
    have fX:dd 3 ae (.Z 0)=some (.ptr et nf):=fX
    have RA:dI ae=some (.Z 1):=JB.rd.len
    have aF:decide ((1:Int)≠1)=false:=by decide
    simp only[]at k3
    refine iu @RA @aF @t5 @fX @i3 dn.eq_1 ⟨?_⟩
    generalize eB:Go.bk.bo X a7 bd _=bw
    have el:ab X bw bd=zs (dn x) 3:=by rw[<-eB,bi Zo];rfl
    have d5:∀e,e<bd->ab X bw e=ab X a7 e:=λe H=>by rw[<-eB,aG Zo Zo]
    clear eB
    obtain⟨fg,bS,gG,iv,Ds,yI,mJ⟩:=On (j:=bd+1) (aI.ad (U:=bw) (λe H=>by have:=fj e H;rw[d5 e Zo,Nj e this.1 this.2])) el Zo Zo (λe H=>zo (fj e H)) 1
    refine ky iv ?_
    refine c1 @wa @bH ⟨?_⟩
    have er:∀e,e<bd->e∉cM->ab X bS e=ab X a7 e:=λe T W=>by rw[mJ e Zo W,d5 e T]
    have Gv:∀e,e<j->e∉cM:=λe T W=>zo (fj e W)
    refine⟨m,Zo,aa+1,fg,gG,ya++[x],Hd,SJ,λe=>q6 e/\¬y e,aQ t0,aQ t1,bp,aQ gt,aQ v8,aQ Al,bp,Zo,Ds,λe H=> ?_,λa=>by have:=tR a;simp;omega,by simp;omega, ?_, ?_,λe H=> ?_,by rw[Ml];exact abC, ?_,λe H=>yE e H.1, ?_, ?_⟩
    ·rcases yI e H with rfl|a
     ·omega
     ·have:=fj e a;omega
    ·rw[k3]
     cases n1 aq t (I.args.drop (aa+1))with
     |error K=>rfl
     |ok p=>obtain⟨ci,one⟩:=p;simp
    ·exact C1.ad (er r Zo (Gv r Zo)) (λe H=>by have:=bB e (w6 e H);exact er e Zo (Gv e Zo))
    ·exact(Jd e (λa=>H (qt e a).1)).trans (FS e H)
    ·exact⟨Zo,λe T W=>by rw[er e Zo (Gv e T)];exact aaw.ad e T W⟩
    ·exact dB.ad (λe H=>by have:=bB e (gD e (yE e H.1).1);exact er e Zo (Gv e Zo)) _ _ xr
    ·have aoX:∀e,bc<=e->e<bd->e∉gG:=λe T W a=>by
      rcases yI e a with rfl|a
      ·omega
      ·have:=fj e a;omega
     have aoY:∀e,e<bc->e∉cM->e∉gG:=λe T W a=>by
      rcases yI e a with rfl|a
      ·omega
      ·exact W a
     have asT:∀e,(bv e/\e≠b)/\¬q6 e->ab X bS e=ab X aR e:=λe H=>by
      have:=bB e (gD e H.1.1)
      rw[er e Zo (Gv e Zo),lz e (gD e H.1.1)]
     have asU:∀e,cW j bc e/\e∉cM->ab X bS e=ab X aR e:=λe H=>by
      have T:=H.1.1;have W:=H.1.2
      rw[er e Zo H.2,Nj e T W]
     have asV:∀e,y e->ab X bS e=ab X a7 e:=λe H=>by
      have:=bB e (gD e (qt e H).1);exact er e Zo (Gv e Zo)
     have asW:∀e,cW bc bd e->ab X bS e=ab X a7 e:=λe H=>er e H.2 (λa=>by have:=fj e a;have:=H.1;omega)
     rw[nG,ach]
     exact jl.snoc (jy.ad asV asW (λ_ _=>rfl) (λe H=>⟨qt e H,λa=>a.2 H⟩) (λe H=>⟨⟨zo H.1,zo H.2⟩,aoX e H.1 H.2⟩) K w acg) (jl.ad asT asU (λe H=>Jd e (λa=>H.2 (FF e a))) (λe H=>⟨H.1,λa=>H.2 a.1⟩) (λe H=>⟨⟨H.1.1,zo H.1.2⟩,aoY e H.1.2 H.2⟩) _ _ Bv)
   ·have RA:=JB.rd.len
    have aF:decide ((row.length:Int)≠1)=true:=by simp only[Zg];omega
    refine gl @RA @aF @wa @bH ⟨?_⟩
    refine⟨m,Zo,aa+1,s,cM,ya,false,SJ,λe=>q6 e/\¬y e,aQ t0,aQ t1,aQ t5,bp,aQ v8,aQ Al,bp,Zo,aI.ad (λe H=>by have:=fj e H;exact Nj e this.1 this.2),λe H=>zo (fj e H),(λa=>by cases a),Zo, ?_,C1,λe H=>(Jd e (λa=>H (qt e a).1)).trans (FS e H),by rw[Ml];exact abC,aaw,λe H=>yE e H.1,xr, ?_⟩
    ·rw[k3]
     cases n1 aq t (I.args.drop (aa+1))with
     |error K=>rfl
     |ok p=>
      obtain⟨ci,one⟩:=p
      match row,fL with
      |[],_=>simp
      |[_],a=>exact absurd rfl a
      |_::_::_,_=>simp
    ·rw[nG,ach]
     exact jl.snoc (jy.ad (λ_ _=>rfl) (λ_ _=>rfl) (λ_ _=>rfl) (λe H=>⟨qt e H,λa=>a.2 H⟩) (λe H=>⟨⟨zo H.1,H.2⟩,λa=>by have:=fj e a;have:=H.1;omega⟩) K w acg) (jl.ad (λe H=>lz e (gD e H.1.1)) (λe H=>Nj e H.1.1 H.1.2) (λe H=>Jd e (λa=>H.2 (FF e a))) (λe H=>⟨H.1,λa=>H.2 a.1⟩) (λe H=>⟨⟨H.1.1,zo H.1.2⟩,H.2⟩) _ _ Bv)
end
end
end Go.Proofs.YtpfajohmofnkfaaGreatDoor

