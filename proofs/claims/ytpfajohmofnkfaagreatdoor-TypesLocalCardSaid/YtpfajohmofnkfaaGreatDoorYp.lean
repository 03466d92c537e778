/- A part of the last text's proof; no condition of its own -/
import Derived.Test.YtpfajohmofnkfaaGreatDoorYo
set_option maxHeartbeats 8000000
set_option linter.all false
namespace Go.Proofs.YtpfajohmofnkfaaGreatDoor
open Go.bi
noncomputable section
variable (X : ck) (h : V an) (j : Nat) (ai ay : bI) (a0 bh cl a3 a4 a5 hB hY iU : F)
def GC(a:aZ)(b:bI):gs:=λc d e=>mZ a [.cell 2 65, .cell 3 26] b c c.bd d e
def Nz(a:aZ)(b c:bI):rH:=λd e f g=>vm a [.cell 2 65, .cell 3 26] b c d e d.bd f g
def VD(a:aZ)(b:F)(c:V an)(d:Nat)(e f:bI):Prop:=
 E (dT [.cz] d) λg=>cQ a c d g.1 g.2 λc d g=>E (dT [(.Z 0),(.Z 0)] g) λh=>cQ a d g h.1 h.2 λd g h=>aW a 20 [b] g h (λg h i=>E (dT [(.Z 0),(.Z 0)] i) λj=>cQ a h i j.1 j.2 λh i j=>E (ce a i 2 h g) λg=>E (ba 0 h) λi=>E (ao a g i) λi=>E (aF .neq i (.Z 0)) λi=>aY (λb c d=>al (b 2) λg=>al (b 3) λh=>Hu (.func (.func 76) [] [g,h]) [] b λb=>cQ a c d (.map d) (.map [] 0) λc d g=>E (eB [.lf] [(0,1,c)]) λc=>ip a d g c λc d g=>al (b 2) λh=>E (ce a d 1 h c) λc=>al (b 2) λd=>E (ao a c d) λd=>al (b 0) λh=>E (eB [.cz, .cz, .cz] [(0,1,d),(1,1,h)]) λd=>ip a c g d λc d g=>al (b 0) λh=>E (cm h) λh=>E (ba 0 h) λh=>E (ao a d h) λh=>E (dX h) λi=>aY (λb c d=>al (b 2) λf=>E (ao a c f) λf=>E (eB [(.Z 0),(.Z 0)] []) λg=>al (b 2) λh=>E (ce a c 1 h f) λc=>al (b 3) λf=>E (ce a c 2 f g) λc=>GC a e b c d) λj=>fJ (λb c d g=>al (c 27) λh=>al (c 26) λi=>E (aF .lss h i) λh=>aY (λc d g=>aY (λa c d=>al (a 27) λe=>E (aF .add e (.Z 1)) λe=>b (ac a 27 e) c d) λb=>al (c 25) λh=>al (c 27) λi=>E (dW 6 h i) λh=>E (cg a d 6 h) λh=>E (dT [(.str []),(.Z 0), .aP, .aP, .aP, .aP] g) λi=>cQ a d g i.1 i.2 λd g i=>E (ce a g 6 d h) λg=>al (c 5) λh=>E (cg a g 6 d) λj=>aW a 77 [h,j] g i (λ_ a e=>b (ac c 7 d) a e) (Nz a e f (hE [31,32,33] (ac c 7 d)))) λa=>a7 h (a (ac c 28 h) d g) (j (ac c 28 h) d g)) (zD b 5 c 25 h 26 i 27 (.Z 0)) d g) λf=>a7 i (eV (j+3) λf=>E (cg a g 2 h) λj=>E (ce a g 1 c .cz) λg=>E (cg a g 2 h) λk=>gG k (some j) (E (ce a g 2 d j) λg=>GC a e (zD (cS [b]) 2 c 3 d 4 h 12 i) g f)) (f (zD (cS [b]) 2 c 3 d 4 h 12 i) g j)) (Nz a e f (hE [8,9,4] (zB (cS [b]) 2 c 3 d)))
def ai0:AB X 31 [a0] h j ai ay=VD X a0 h j ai ay:=Zk
def aiZ:cU X 31 1=true:=Zk
def VG(a:aZ)(b c:F)(d:V an)(e:Nat)(f g:bI):Prop:=
 E (dn a d .eql 65 true b .cz) λh=>aY (λb c d=>al (b 0) λe=>E (cm e) λe=>E (ba 0 e) λe=>E (ao a c e) λe=>al (b 1) λb=>E (kr a c 47 .aP e b false) λb=>aW a 83 [b] c d f g) λa=>a7 h (f .aP d e) (a (zB (cS [b,c]) 4 .aP 6 h) d e)
def ai6:dh X 37 [a0,bh] h j ai ay=VG X a0 bh h j ai ay:=Zk
def ai5:cU X 37 2=true:=Zk
def OG(a:aZ)(b c:F)(d:Option F)(e:V an)(f:Nat)(g:Bool->V an->Nat->Prop):Prop:=
 Gy (some d) (cS [b,c]) λb c=>aY (λa b c=>g a.rc b c) λd=>E (dn a e .eql 20 true b .nilIface) λg=>aY d λd=>a7 g (d (zB c 5 b 7 g) e f) (E (Eu 26 (.agg [(.Z 0),(.Z 0)]) true b) λh=>E (cM 1 h) λi=>E (cM 0 h) λh=>aY d λd=>a7 i (E (dT [(.Z 0),(.Z 0)] f) λj=>cQ a e f j.1 j.2 λe f j=>E (ce a f 2 e h) λf=>eV (j+3) λj=>E (cg a f 2 e) λk=>al (c 0) λl=>E (ce a f 1 l .cz) λf=>E (cg a f 2 e) λl=>gG l (some k) (al (c 1) λl=>E (ce a f 2 l k) λa=>d (ac (zD c 5 b 7 g 9 i 10 h) 3 e) a j)) (vn (λ_ _ _=>False) b e f))
def VT(X:ck)(a0 bh:F)(jB:Option F)(h:V an)(j:Nat)(ai:Bool->V an->Nat->Prop):x6 X 76 [a0,bh] jB h j ai=OG X a0 bh jB h j ai:=Zk
def OH:cU X 76 2=true:=Zk
def VU(a:aZ)(b c:F)(d:V an)(e:Nat)(f g:bI):Prop:=
 ip a d e c λd e h=>E (cg a e 6 d) λi=>aW a 32 [i] e h (λe h i=>E (cm b) λj=>E (ba 2 j) λj=>E (ce a h 1 j e) λe=>E (ba 2 d) λh=>E (ao a e h) λh=>E (ba 3 d) λj=>E (ao a e j) λj=>E (ba 4 d) λk=>E (ao a e k) λk=>E (eB [.aP, .aP, .aP] [(0,1,h),(1,1,j),(2,1,k)]) λh=>aY (λb c d=>al (b 3) λe=>E (ba 5 e) λe=>E (ao a c e) λe=>E (dX e) λh=>aY (λ_ a b=>f (.tuple []) a b) λf=>fJ (λb c d e=>al (c 54) λh=>al (c 53) λi=>E (aF .lss h i) λh=>aY (λc d e=>aY (λa c d=>al (a 54) λe=>E (aF .add e (.Z 1)) λe=>b (ac a 54 e) c d) λb=>al (c 52) λf=>al (c 54) λh=>E (dW 4 f h) λf=>E (cg a d 4 f) λf=>E (dT [.aP, .aP,(.Z 0), .cz] e) λh=>cQ a d e h.1 h.2 λd e h=>E (ce a e 4 d f) λe=>al (c 0) λf=>E (ba 3 d) λi=>E (ao a e i) λi=>aW a 131 [f,i] e h (λe f h=>E (ba 0 d) λi=>E (ao a f i) λi=>E (dX i) λj=>aY (λc d e=>al (c 11) λf=>E (dX f) λf=>E (aF .gtr f (.Z 1)) λf=>R4 f (c 9) (λa=>ba 3 a) d e (λd e h=>c2 f (ao a e d) e h (λd e h=>c2 f (cm d) e h (λd e h=>c2 f (ba 0 d) e h (λd e h=>c2 f (ao a e d) e h (λd e h=>c2 f (aF .neq d (.Z 25)) e h (λd e h=>dd (λd=>w7 d (c 10) e h (λe f h=>w7 d (c 11) f h (λf h i=>kd d (λb=>aW a 47 [e,f] h i b g) h i (λe f h=>dp d (fG .not e) f h (λe f h=>dd (λd=>aY b λb=>a7 d (al (c 9) λe=>E (ba 2 e) λe=>E (ao a f e) λe=>aW a 130 [e] f h (λ_ a e=>b (ac c 92 d) a e) g) (b (ac c 92 d) f h)) λa=>a7 d (a (.bool true)) (a e)))))) λa=>a7 f (a d) (a (.bool false))))))))) λb=>fJ (λc d e f=>al (d 65) λh=>al (d 64) λi=>E (aF .lss h i) λh=>aY (λb d e=>aY (λa b d=>al (a 65) λe=>E (aF .add e (.Z 1)) λe=>c (ac a 65 e) b d) λc=>al (b 63) λf=>al (b 65) λh=>E (dW 1 f h) λf=>E (ao a d f) λf=>al (b 11) λh=>al (b 0) λi=>aW a 129 [i,f] d e (λd e g=>E (fg 1 [(.bool false),(.bool false),(.Z 0)] [(0,3,d)] g) λd=>cQ a e g d.1 d.2 λd e g=>gw (hC a e g 3 h d) e g λa d e=>c (zB b 13 f 11 a) d e) g) λa=>a7 h (a (ac d 66 h) e f) (b (ac d 66 h) e f)) (zB (zD c 9 d 10 e 11 .aP 63 i) 64 j 65 (.Z 0)) f h) g) λa=>a7 h (a (ac c 55 h) d e) (f (ac c 55 h) d e)) (zC b 52 e 53 h 54 (.Z 0)) c d) λf=>fJ (λb c d e=>al (c 26) λh=>E (aF .lss h (.Z 3)) λh=>aY (λc d e=>aY (λa c d=>al (a 26) λe=>E (aF .add e (.Z 1)) λe=>b (ac a 26 e) c d) λb=>al (c 25) λf=>al (c 26) λh=>E (ts false 3 1 f h) λf=>E (dX f) λh=>aY b λb=>fJ (λc d e f=>al (d 31) λh=>al (d 30) λi=>E (aF .lss h i) λh=>aY (λb d e=>aY (λa b d=>al (a 31) λe=>E (aF .add e (.Z 1)) λe=>c (ac a 31 e) b d) λc=>al (b 29) λf=>al (b 31) λh=>E (dW 8 f h) λf=>E (cg a d 8 f) λf=>E (dT [(.str []),(.Z 0),(.bool false),(.bool false),(.Z 0),(.str []),(.Z 0),(.bool false)] e) λh=>cQ a d e h.1 h.2 λd e h=>E (ce a e 8 d f) λe=>E (ba 5 d) λf=>E (ao a e f) λf=>E (dn a e .neq 9 true f (.str [])) λf=>lI f (b 0) e h (λe h i=>c2 f (ba 5 d) h i (λh i j=>c2 f (ao a i h) i j (λh i j=>lH f (λb=>aW a 129 [e,h] i j b g) i j (λe h i=>c2 f (qX false 0 1 e) h i (λe h i=>c2 f (fG .not e) h i (λe h i=>dd (λe=>aY c λc=>a7 e (E (ba 6 d) λf=>E (ao a h f) λf=>aW a 130 [f] h i (λ_ a f=>c (zB b 7 d 45 e) a f) g) (c (zB b 7 d 45 e) h i)) λa=>a7 f (a e) (a (.bool false))))))))) λa=>a7 h (a (ac d 32 h) e f) (b (ac d 32 h) e f)) (zD c 5 f 29 f 30 h 31 (.Z 0)) d e) λa=>a7 h (a (ac c 27 h) d e) (f (ac c 27 h) d e)) (zC (cS [b,c]) 3 d 25 h 26 (.Z 0)) e i) g
def ajq:dh X 77 [a0,bh] h j ai ay=VU X a0 bh h j ai ay:=Zk
def ajp:cU X 77 2=true:=Zk
def VY(a:aZ)(b c:F)(d:V an)(e:Nat)(f g:bI):Prop:=
 aW a 135 [b,c] d e (λa b c=>E (aF .geq a (.Z 0)) λa=>f a b c) g
def ajw:dh X 80 [a0,bh] h j ai ay=VY X a0 bh h j ai ay:=Zk
def ajv:cU X 80 2=true:=Zk
def VZ(a:aZ)(b:F)(c:V an)(d:Nat)(e _:bI):Prop:=
 E (dn a c .eql 76 true b .aP) λf=>aY (λb c d=>E (fg 0 [] [] d) λf=>cQ a c d f.1 f.2 λc d f=>al (b 0) λb=>gw (hC a d f 3 c b) d f λa b c=>e a b c) λa=>a7 f (e .aP c d) (a (zB (cS [b]) 2 .aP 4 f) c d)
def ajy:dh X 83 [a0] h j ai ay=VZ X a0 h j ai ay:=Zk
def ajx:cU X 83 1=true:=Zk
def Uk(a:aZ)(b c:F)(d:V an)(e:Nat)(f g:bI):Prop:=
 E (dT [(.bool false),(.bool false),(.Z 0)] e) λh=>cQ a d e h.1 h.2 λd e h=>E (cm b) λb=>E (ba 2 b) λb=>E (ao a e b) λb=>aW a 34 [b,c] e h (λb c e=>E (cM 0 b) λg=>E (cM 1 b) λ_=>E (dT [(.Z 0),(.str []),(.Z 0),(.bool false),(.bool false),(.Z 0),(.str []),(.Z 0),(.bool false),(.Z 0),(.Z 0)] e) λb=>cQ a c e b.1 b.2 λb c e=>E (ce a c 11 b g) λc=>E (ba 1 b) λb=>E (ba 2 b) λb=>E (cg a c 3 b) λb=>E (ce a c 3 d b) λb=>E (cg a b 3 d) λa=>f a b e) g
def agw:dh X 129 [a0,bh] h j ai ay=Uk X a0 bh h j ai ay:=Zk
def agv:cU X 129 2=true:=Zk
def Ul(_:aZ)(a:F)(b:V an)(c:Nat)(_ d:bI):Prop:=
 E (eB [(.Z 0),(.Z 0)] [(0,1,(.Z 26)),(1,1,a)]) λa=>E (some (F.iface 26 a)) λa=>vn d a b c
def agy:dh X 130 [a0] h j ai ay=Ul X a0 h j ai ay:=Zk
def agx:cU X 130 1=true:=Zk
def Um(a:aZ)(b c:F)(d:V an)(e:Nat)(f g:bI):Prop:=
 E (cm c) λh=>E (ba 8 h) λh=>E (ao a d h) λh=>E (dX h) λi=>aY (λb c d=>al (b 6) λe=>E (fG .not e) λe=>aY (λb c d=>al (b 0) λe=>al (b 1) λh=>al (b 5) λi=>aW a 184 [e,h,i] c d (λc d e=>E (cM 0 c) λh=>E (cM 1 c) λc=>E (fG .not c) λi=>aY (λb c d=>al (b 0) λe=>E (cm e) λe=>E (ba 0 e) λe=>E (ao a c e) λe=>E (cm e) λe=>E (ba 0 e) λe=>E (ao a c e) λe=>al (b 1) λg=>al (b 10) λh=>gw (sp a c d 47 e g h) c d λ_ a c=>al (b 10) λb=>f b a c) λf=>a7 i (al (b 1) λj=>E (cm j) λj=>E (ba 1 j) λj=>E (ao a d j) λj=>aW a 130 [j] d e (λ_ a d=>f (zC b 10 h 11 c 49 i) a d) g) (f (zC b 10 h 11 c 49 i) d e)) g) λf=>a7 e (al (b 1) λh=>E (cm h) λh=>E (ba 1 h) λh=>E (ao a c h) λh=>aW a 130 [h] c d (λ_ a c=>f (ac b 35 e) a c) g) (f (ac b 35 e) c d)) λf=>fJ (λb c d e=>al (c 17) λh=>al (c 16) λi=>E (aF .lss h i) λh=>aY (λc d e=>aY (λa c d=>al (a 17) λe=>E (aF .add e (.Z 1)) λe=>b (ac a 17 e) c d) λb=>al (c 15) λf=>al (c 17) λh=>E (dW 1 f h) λf=>E (ao a d f) λf=>al (c 0) λh=>aW a 131 [h,f] d e (λd e g=>E (dX d) λh=>E (aF .neq h (.Z 1)) λh=>aY (λc d e=>al (c 5) λf=>al (c 9) λg=>E (dW 3 g (.Z 0)) λg=>E (cg a d 3 g) λg=>E (fg 1 [(.bool false),(.bool false),(.Z 0)] [(0,3,g)] e) λg=>cQ a d e g.1 g.2 λd e g=>gw (hC a e g 3 f d) e g λa d e=>b (ac c 5 a) d e) λa=>a7 h (b (zD c 8 f 9 d 26 h 6 (.bool false)) e g) (a (zC c 8 f 9 d 26 h) e g)) g) λa=>a7 h (a (ac c 18 h) d e) (f (ac c 18 h) d e)) (zB (zD (cS [b,c]) 4 .aP 5 .aP 6 (.bool true) 15 h) 16 i 17 (.Z 0)) d e
def agA:dh X 131 [a0,bh] h j ai ay=Um X a0 bh h j ai ay:=Zk
def agz:cU X 131 2=true:=Zk
def Uq(a:aZ)(b c:F)(d:V an)(e:Nat)(f g:bI):Prop:=
 E (dX b) λh=>aY (λ_ a b=>f (.Z (-1)) a b) λi=>fJ (λb c d e=>al (c 8) λh=>al (c 7) λj=>E (aF .lss h j) λh=>aY (λc d e=>aY (λa c d=>al (a 8) λe=>E (aF .add e (.Z 1)) λe=>b (ac a 8 e) c d) λb=>al (c 8) λh=>al (c 1) λi=>al (c 0) λj=>E (dW 3 j h) λj=>E (cg a d 3 j) λj=>jn a i [j] d e (λa d e=>aY b λb=>a7 a (f h d e) (b (zB c 5 h 16 a) d e)) g) λa=>a7 h (a (ac c 9 h) d e) (i (ac c 9 h) d e)) (zC (cS [b,c]) 4 (.Z 0) 7 h 8 (.Z 0)) d e
def agI:dh X 135 [a0,bh] h j ai ay=Uq X a0 bh h j ai ay:=Zk
def agH:cU X 135 2=true:=Zk
def UU(a:aZ)(b c d:F)(e:V an)(f:Nat)(g h:bI):Prop:=
 E (cm c) λi=>E (ba 0 i) λi=>E (ao a e i) λi=>aY (λb c d=>al (b 0) λe=>al (b 1) λf=>al (b 2) λb=>aW a 212 [e,f,b] c d (λa b c=>E (cM 0 a) λd=>E (cM 1 a) λa=>g (.tuple [d,a]) b c) h) λj=>E (aF .eql i (.Z 1)) λk=>aY j λj=>a7 k (E (cm c) λb=>E (ba 4 b) λb=>E (cg a e 3 b) λb=>jn a (.func (.func 210) [] []) [b,(.bool true)] e f (λa b c=>E (cM 0 a) λd=>E (cM 1 a) λa=>g (.tuple [d,a]) b c) h) (E (aF .eql i (.Z 2)) λl=>aY j λj=>a7 l (E (cm c) λc=>E (ba 2 c) λc=>E (ao a e c) λc=>aW a 129 [b,c] e f (λb c d=>jn a (.func (.func 210) [] []) [b,(.bool true)] c d (λa b c=>E (cM 0 a) λd=>E (cM 1 a) λa=>g (.tuple [d,a]) b c) h) h) (E (aF .eql i (.Z 3)) λm=>aY (λb c d=>al (b 35) λe=>aY j λf=>a7 e (al (b 8) λe=>al (b 2) λb=>E (dW 3 b (.Z 0)) λb=>E (cg a c 3 b) λb=>jn a e [b,(.bool true)] c d (λa b c=>E (cM 0 a) λd=>E (cM 1 a) λa=>g (.tuple [d,a]) b c) h) (al (b 12) λe=>E (aF .eql e (.Z 4)) λe=>aY (λb c d=>al (b 45) λe=>aY f λf=>a7 e (eV (d+14) λd=>al (b 8) λe=>al (b 2) λf=>E (dW 3 f (.Z 0)) λf=>E (cg a c 3 f) λf=>al (b 2) λb=>E (dW 3 b (.Z 0)) λb=>E (ba 0 b) λb=>E (ao a c b) λb=>E (fG .not b) λb=>jn a e [f,b] c d (λa b c=>E (cM 0 a) λd=>E (cM 1 a) λa=>g (.tuple [d,a]) b c) h) (al (b 12) λe=>E (aF .eql e (.Z 6)) λe=>aY f λf=>a7 e (eV (d+16) λd=>al (b 8) λe=>al (b 2) λf=>E (dW 3 f (.Z 0)) λf=>E (cg a c 3 f) λi=>al (b 0) λj=>al (b 1) λb=>E (cm b) λb=>E (ba 2 b) λb=>E (ao a c b) λb=>aW a 129 [j,b] c d (λb c d=>E (qX false 0 1 b) λb=>E (cg a c 3 f) λf=>gG f (some i) (jn a e [i,b] c d (λa b c=>E (cM 0 a) λd=>E (cM 1 a) λa=>g (.tuple [d,a]) b c) h)) h) (al (b 12) λi=>E (aF .eql i (.Z 7)) λi=>aY (λb c d=>al (b 77) λe=>aY f λf=>a7 e (eV (d+11) λd=>al (b 8) λe=>al (b 2) λf=>E (dW 3 f (.Z 0)) λf=>E (cg a c 3 f) λi=>al (b 2) λb=>aW a 211 [b] c d (λb c d=>E (cg a c 3 f) λf=>gG f (some i) (jn a e [i,b] c d (λa b c=>E (cM 0 a) λd=>E (cM 1 a) λa=>g (.tuple [d,a]) b c) h)) h) (al (b 12) λe=>E (aF .eql e (.Z 16)) λe=>aY (λb c d=>al (b 92) λe=>aY f λf=>a7 e (eV (d+18) λd=>al (b 8) λe=>al (b 2) λf=>E (dW 3 f (.Z 0)) λf=>E (cg a c 3 f) λi=>al (b 2) λj=>aW a 211 [j] c d (λc d j=>uW c (b 2) d (λb d=>gv c (dW 3 b (.Z 0)) d (λb d=>gv c (ba 0 b) d (λb d=>gv c (ao a d b) d (λb d=>gv c (fG .not b) d (λb d=>dd (λb=>E (cg a d 3 f) λc=>gG c (some i) (jn a e [i,b] d j (λa b c=>E (cM 0 a) λd=>E (cM 1 a) λa=>g (.tuple [d,a]) b c) h)) λa=>a7 c (a b) (a (.bool false)))))))) h) (al (b 12) λe=>E (aF .eql e (.Z 10)) λe=>aY (λb c d=>al (b 112) λe=>aY f λf=>a7 e (eV (d+9) λd=>al (b 8) λe=>E (cg a c 3 (.ptr 4 0)) λf=>al (b 2) λb=>aW a 211 [b] c d (λb c d=>E (cg a c 3 (.ptr 4 0)) λi=>gG i (some f) (jn a e [f,b] c d (λa b c=>E (cM 0 a) λd=>E (cM 1 a) λa=>g (.tuple [d,a]) b c) h)) h) (al (b 12) λe=>E (aF .eql e (.Z 12)) λe=>aY (λb c d=>al (b 122) λe=>aY f λf=>a7 e (eV (d+16) λd=>al (b 8) λe=>E (cg a c 3 (.ptr 4 0)) λf=>al (b 2) λi=>aW a 211 [i] c d (λc d i=>uW c (b 2) d (λb d=>gv c (dW 3 b (.Z 0)) d (λb d=>gv c (ba 0 b) d (λb d=>gv c (ao a d b) d (λb d=>gv c (fG .not b) d (λb d=>dd (λb=>E (cg a d 3 (.ptr 4 0)) λc=>gG c (some f) (jn a e [f,b] d i (λa b c=>E (cM 0 a) λd=>E (cM 1 a) λa=>g (.tuple [d,a]) b c) h)) λa=>a7 c (a b) (a (.bool false)))))))) h) (al (b 12) λe=>E (aF .eql e (.Z 23)) λe=>aY f λf=>a7 e (eV (d+18) λd=>al (b 8) λe=>al (b 2) λf=>E (dW 3 f (.Z 1)) λf=>E (cg a c 3 f) λi=>al (b 2) λj=>E (dW 3 j (.Z 0)) λj=>E (ba 0 j) λj=>E (ao a c j) λj=>uW j (b 2) c (λb c=>gv j (sD a c 3 b (some (.Z 1)) none none) c (λb c=>lH j (λe=>aW a 211 [b] c d e h) c d (λb c d=>dd (λb=>E (cg a c 3 f) λf=>gG f (some i) (jn a e [i,b] c d (λa b c=>E (cM 0 a) λd=>E (cM 1 a) λa=>g (.tuple [d,a]) b c) h)) λa=>a7 j (a b) (a (.bool false)))))) (al (b 12) λi=>E (aF .eql i (.Z 24)) λi=>aY f λf=>a7 i (eV (d+20) λd=>al (b 8) λe=>al (b 2) λf=>E (dW 3 f (.Z 0)) λf=>E (cg a c 3 f) λi=>al (b 2) λj=>aW a 211 [j] c d (λc d j=>uW c (b 0) d (λd k=>uW c (b 1) k (λb k=>gv c (cm b) k (λb k=>gv c (ba 2 b) k (λb k=>gv c (ao a k b) k (λb k=>E (cg a k 3 f) λl=>gG l (some i) (lH c (λc=>aW a 129 [d,b] k j c h) k j (λb d j=>gv c (qX false 0 1 b) d (λb d=>dd (λb=>E (cg a d 3 f) λc=>gG c (some i) (jn a e [i,b] d j (λa b c=>E (cM 0 a) λd=>E (cM 1 a) λa=>g (.tuple [d,a]) b c) h)) λa=>a7 c (a b) (a (.bool false))))))))))) h) (al (b 12) λj=>E (aF .eql j (.Z 26)) λj=>aY f λf=>a7 j (eV (d+22) λd=>al (b 8) λe=>al (b 1) λf=>E (cm f) λf=>E (ba 4 f) λf=>E (cg a c 3 f) λf=>al (b 1) λi=>E (cm i) λi=>E (ba 4 i) λi=>E (ba 0 i) λi=>E (ao a c i) λi=>E (fG .not i) λi=>Jb i (b 2) c (λb c=>pK i (dW 3 b (.Z 0)) c (λb c=>pK i (ba 0 b) c (λb c=>pK i (ao a c b) c (λb c=>dd (λb=>jn a e [f,b] c d (λa b c=>E (cM 0 a) λd=>E (cM 1 a) λa=>g (.tuple [d,a]) b c) h) λa=>a7 i (a (.bool true)) (a b)))))) (f (zC b 141 e 159 i 179 j) c d))))) λa=>a7 e (a (ac b 122 e) c d) (al (b 12) λf=>E (aF .eql f (.Z 13)) λf=>aY a λa=>a7 f (a (zB b 122 e 122 f) c d) (al (b 12) λg=>E (aF .eql g (.Z 14)) λg=>aY a λa=>a7 g (a (zC b 122 e 122 f 122 g) c d) (al (b 12) λh=>E (aF .eql h (.Z 15)) λh=>a (zD b 122 e 122 f 122 g 122 h) c d))))) λa=>a7 e (a (ac b 112 e) c d) (al (b 12) λf=>E (aF .eql f (.Z 11)) λf=>a (zB b 112 e 112 f) c d))) λa=>a7 e (a (ac b 92 e) c d) (al (b 12) λf=>E (aF .eql f (.Z 17)) λf=>aY a λa=>a7 f (a (zB b 92 e 92 f) c d) (al (b 12) λg=>E (aF .eql g (.Z 18)) λg=>a (zC b 92 e 92 f 92 g) c d)))) λa=>a7 i (a (zB b 61 e 77 i) c d) (al (b 12) λf=>E (aF .eql f (.Z 8)) λf=>aY a λa=>a7 f (a (zC b 61 e 77 i 77 f) c d) (al (b 12) λg=>E (aF .eql g (.Z 9)) λg=>aY a λa=>a7 g (a (zD b 61 e 77 i 77 f 77 g) c d) (al (b 12) λh=>E (aF .eql h (.Z 21)) λh=>aY a λa=>a7 h (a (ac (zD b 61 e 77 i 77 f 77 g) 77 h) c d) (al (b 12) λj=>E (aF .eql j (.Z 22)) λj=>a (zB (zD b 61 e 77 i 77 f 77 g) 77 h 77 j) c d))))))) λa=>a7 e (a (ac b 45 e) c d) (al (b 12) λf=>E (aF .eql f (.Z 19)) λf=>aY a λa=>a7 f (a (zB b 45 e 45 f) c d) (al (b 12) λg=>E (aF .eql g (.Z 20)) λg=>a (zC b 45 e 45 f 45 g) c d)))) λa=>a7 m (a (zC (zD (cS [b,c,d]) 6 .aP 7 (.bool false) 8 (.func (.func 210) [] []) 12 i) 13 k 23 l 35 m) e f) (E (aF .eql i (.Z 5)) λg=>a (zD (zD (cS [b,c,d]) 6 .aP 7 (.bool false) 8 (.func (.func 210) [] []) 12 i) 13 k 23 l 35 m 35 g) e f)))
def ahw:dh X 184 [a0,bh,cl] h j ai ay=UU X a0 bh cl h j ai ay:=Zk
def ahv:cU X 184 3=true:=Zk
def Vf(a:aZ)(b c:F)(d:V an)(e:Nat)(f _:bI):Prop:=
 ip a d e b λb d e=>E (cg a d 3 b) λb=>E (fg 1 [(.bool false),(.bool false),(.Z 0)] [(0,3,b)] e) λb=>cQ a d e b.1 b.2 λa b d=>f (.tuple [a,c]) b d
def aie:dh X 210 [a0,bh] h j ai ay=Vf X a0 bh h j ai ay:=Zk
def aid:cU X 210 2=true:=Zk
def Vg(a:aZ)(b:F)(c:V an)(d:Nat)(e f:bI):Prop:=
 ip a c d b λb c d=>E (ao a c b) λg=>aW a 80 [g,(.func (.func 234) [] [b])] c d (λa b c=>E (fG .not a) λa=>e a b c) f
def aig:dh X 211 [a0] h j ai ay=Vg X a0 h j ai ay:=Zk
def aif:cU X 211 1=true:=Zk
def Vh(a:aZ)(b c d:F)(e:V an)(f:Nat)(g h:bI):Prop:=
 eV (f+14) λf=>E (cm b) λi=>E (ba 1 i) λi=>E (ao a e i) λi=>E (cm c) λc=>E (ba 2 c) λc=>E (ao a e c) λc=>aW a 79 [i,c] e f (λc e f=>E (cM 0 c) λi=>E (cM 1 c) λ_=>E (cm b) λb=>E (ba 1 b) λb=>E (ao a e b) λb=>E (cm b) λb=>E (ba 0 b) λb=>E (ao a e b) λb=>E (dW 6 b i) λb=>E (cg a e 6 b) λb=>E (dT [(.str []),(.Z 0), .aP, .aP, .aP, .aP] f) λc=>cQ a e f c.1 c.2 λc e f=>E (ce a e 6 c b) λb=>eV (f+12) λe=>E (ba 3 c) λf=>E (ao a b f) λf=>E (ba 2 c) λc=>E (ao a b c) λi=>jn a (.func (.func 235) [] []) [f] b e (λb e f=>E (ao a e c) λc=>gG c (some i) (jn a (.func (.func 235) [] []) [i] e f (λc e f=>aW a 47 [c,d] e f (λa c d=>g (.tuple [b,a]) c d) h) h)) h) h
def aii:dh X 212 [a0,bh,cl] h j ai ay=Vh X a0 bh cl h j ai ay:=Zk
def aih:cU X 212 3=true:=Zk
def Vt(a:aZ)(b c:F)(d:V an)(e:Nat)(f _:bI):Prop:=
 ip a d e b λb d e=>eV (e+6) λe=>E (cg a d 3 b) λb=>E (ao a d c) λc=>E (dW 3 c (.Z 0)) λc=>E (cg a d 3 c) λc=>E (dn a d .neq 41 false b c) λa=>f a d e
def aiG:dh X 234 [a0,bh] h j ai ay=Vt X a0 bh h j ai ay:=Zk
def aiF:cU X 234 2=true:=Zk
def Vu(a:aZ)(b:F)(c:V an)(d:Nat)(e _:bI):Prop:=
 E (dX b) λf=>aY (λa b c=>al (a 3) λa=>e a b c) λe=>fJ (λb c d f=>al (c 8) λg=>al (c 7) λh=>E (aF .lss g h) λg=>aY (λc d e=>aY (λa c d=>al (a 8) λe=>E (aF .add e (.Z 1)) λe=>b (ac a 8 e) c d) λb=>al (c 6) λf=>al (c 8) λg=>E (dW 8 f g) λf=>E (cg a d 8 f) λf=>E (dT [(.str []),(.Z 0),(.bool false),(.bool false),(.Z 0),(.str []),(.Z 0),(.bool false)] e) λg=>cQ a d e g.1 g.2 λd e g=>E (ce a e 8 d f) λe=>al (c 3) λf=>E (ba 2 d) λh=>E (cg a e 3 h) λh=>E (fg 1 [(.bool false),(.bool false),(.Z 0)] [(0,3,h)] g) λh=>cQ a e g h.1 h.2 λe g h=>gw (hC a g h 3 f e) g h λa e f=>b (zB c 5 d 3 a) e f) λa=>a7 g (a (ac c 9 g) d f) (e (ac c 9 g) d f)) (ac (zD (cS [b]) 2 .aP 3 .aP 6 b 7 f) 8 (.Z 0)) c d
def aiI:dh X 235 [a0] h j ai ay=Vu X a0 h j ai ay:=Zk
def aiH:cU X 235 1=true:=Zk
end
end Go.Proofs.YtpfajohmofnkfaaGreatDoor

namespace Go.Proofs.YtpfajohmofnkfaaGreatDoor
open Go.bi Go.aU
noncomputable section
section
variable{X:ck}{h T a2 aS:V an}{j au aO bg:Nat}{P:Nat->Prop}
def kH(X:ck)(h:V an)(P:Nat->Prop)(a6:F)(l:List d9):Prop:=∃b,dO X h P b a6 3 (l.map eF)
def kH.ad{bu:Nat->Prop}{a6:F}{l:List d9}(a:kH X h P a6 l)(B:∀e,P e->ab X T e=ab X h e)(aC:∀e,P e->bu e):kH X T bu a6 l:=by
 obtain⟨b,a⟩:=a
 exact⟨b,(a.ad B).lift aC⟩
def XY(X:ck):List Field:=match (o X).P.underlying 41 with|some (.struct jv)=>jv.toList|_=>[]
def ama(eq:Nat->F->F->Option Bool)(K b c fN dP f0:F):B5 X eq (XY X) [K,b,c] [fN,dP,f0]=(match eq 4 K fN with|some true=>(match eq 4 b dP with|some true=>(match eq 3 c f0 with|some true=>some true|some false=>some false|none=>none)|some false=>some false|none=>none)|some false=>some false|none=>none):=Zk
def al9(cn nA:List F):kl X h 50 41 (.agg cn) (.agg nA)=B5 X (kl X h 49) (XY X) cn nA:=Zk
def XA(K b:Bool):kl X h 49 4 (.bool K) (.bool b)=some (EB K b):=Zk
def amn(K b:Int):kl X h 49 3 (.Z K) (.Z b)=some (w5 K b):=Zk
def WN(K b:Bool):EB K b=decide (K=b):=by cases K<;>cases b<;>rfl
def aml(K b:d9):kl X h 50 41 (.agg (eF K)) (.agg (eF b))=some (decide (K=b)):=by
 obtain⟨bh,cl,a3⟩:=K
 obtain⟨c0,dL,ef⟩:=b
 simp only[eF]
 rw[al9,ama,XA,XA,amn,WN,WN,FO]
 by_cases Q:bh=c0<;>by_cases U:cl=dL<;>by_cases ar:a3=ef<;>simp[Q,U,ar]
def ads(K b:d9):dn X h .neq 41 false (.agg (eF K)) (.agg (eF b))=some (.bool (!decide (K=b))):=by
 have a:dn X h .neq 41 false (.agg (eF K)) (.agg (eF b))=(match kl X h 50 41 (.agg (eF K)) (.agg (eF b))with|some b=>ox (!b)|none=>none):=Zk
 rw[a,aml]
 cases decide (K=b)<;>rfl
def Jm{b Y:Nat}{c:V F}{n:Nat}{st:nF}{t:d9}(aj:ab X h b=some (.cells c n st))(a:c.km Y 3=some (eF t)):cg X h 3 (.ptr b Y)=some (.agg (eF t)):=by
 rw[u4,aj];simp only[a,ZV]
structure xI(X:ck)(h:V an)(P:Nat->Prop)(a6:F)(l:List d9):Prop where
 len:dX a6=some (.Z (l.length:Int))
 many:l.length<=300000
 f2:∀(i:Nat) t,l[i]? =some t->∃b Y,dW 3 a6 (.Z (i:Int))=some (.ptr b Y)/\P b/\cg X h 3 (.ptr b Y)=some (.agg (eF t))/\ao X h (.ptr b Y)=some (.bool t.b)
def xI.ad{bu:Nat->Prop}{a6:F}{l:List d9}(a:xI X h P a6 l)(B:∀e,P e->ab X T e=ab X h e)(aC:∀e,P e->bu e):xI X T bu a6 l:=
 ⟨a.len,a.many,λi t aJ=>by
  obtain⟨b,Y,Q,U,ar,aK⟩:=a.f2 i t aJ
  exact⟨b,Y,Q,aC b U,by rw[u4,B b U, <-u4];exact ar,zE (B b U) aK⟩⟩
def kH.rd{a6:F}{l:List d9}(a:kH X h P a6 l):xI X h P a6 l:=by
 obtain⟨b,a⟩:=a
 have aC:=a.len
 have bp:=a.many
 rw[Zn]at aC bp
 refine⟨aC,bp,λi t aJ=> ?_⟩
 have jk:=(Zb.1 aJ).1
 have Z:(l.map eF)[i]? =some (eF t):=by rw[Zx,aJ];rfl
 refine⟨b,i*3,a.f2 i (by rw[Zn];omega),a.aj (λJ=>by rw[J]at Z;cases Z),a.row Zd Z, ?_⟩
 exact a.cell i (eF t) 0 _ Z rfl
def auP(aA:dz X){K b:d9}{l:List d9}{a6:F}{c:Nat}(aL:(o X).a8<=j)(aB:c<j)(ib:ao X h (.ptr c 0)=some a6)(bc:xI X h P a6 (b::l))(bC:∀e,P e->e<j):
 aW X 234 [.agg (eF K), .ptr c 0] h j (λae T au=>ae= .bool (!decide (K=b))/\bq X h j T au) (λ_ _ _=>False):=by
 refine zA aA (aiF X) ?_
 rw[aiG]
 unfold Vt
 obtain⟨cH,Y,dZ,nd,uF,_⟩:=bc.f2 0 b rfl
 have dZ:dW 3 a6 (.Z 0)=some (.ptr cH Y):=dZ
 refine sT ?_
 generalize et:bn X h j _=a2
 have b4:cg X a2 3 (.ptr j 0)=some (.agg (eF K)):=by rw[<-et];exact Jm (bm aL) (by cases K;rfl)
 have bU:bq X h j a2 (j+1):=by rw[<-et];exact dU
 clear et
 have aN:=λe (H:P e)=>bU.ad e (bC e H)
 have ic:cg X a2 3 (.ptr cH Y)=some (.agg (eF b)):=by rw[u4,aN cH nd, <-u4];exact uF
 have apo:ao X a2 (.ptr c 0)=some a6:=zE (bU.ad c aB) ib
 refine gA @b4 @apo @dZ @ic @ads ⟨?_⟩
 exact⟨rfl,bU.more Zo⟩
def auQ(b:d9)(l:List d9):sr (b::l)=(b::l).all (λK=>decide (K=b)):=rfl
def ase(aA:dz X){b:d9}{l:List d9}{a6:F}{c:Nat}(aL:(o X).a8<=j)(aB:c<j)(ib:ao X h (.ptr c 0)=some a6)(bc:xI X h P a6 (b::l))(bC:∀e,P e->e<j):
 aW X 135 [a6, .func (.func 234) [] [.ptr c 0]] h j (λae T au=>(∃B:Int,ae= .Z B/\decide (0<=B)= !sr (b::l))/\bq X h j T au) (λ_ _ _=>False):=by
 refine zA aA (agH X) ?_
 rw[agI]
 unfold Uq
 have eD:=bc.len
 have i6:=bc.many
 rw[auQ]
 generalize gr:b::l=L at*
 refine ci @eD ⟨?_⟩
 refine fU (λm M T aV=>∃(aa:Nat),M.g 0=some a6/\M.g 1=some (.func (.func 234) [] [.ptr c 0])/\M.g 7=some (.Z (L.length:Int))/\M.g 8=some (.Z (aa:Int))/\aa+m=L.length/\bq X h j T aV/\L.all (λK=>decide (K=b))=(L.drop aa).all (λK=>decide (K=b)))
  L.length ⟨0,bw,bw,bw,gc,Zo,bq.refl _ _,rfl⟩ ?_
 rintro m M aS bg ⟨aa,t0,t1,g4,gx,bG,bK,ch⟩
 have ge:=bK.le
 cases m with
 |zero=>
  have d:=zu aa L.length
  rw[ZN Zo]at ch
  refine er @gx @g4 @d ⟨?_⟩
  exact⟨⟨-1,rfl,by rw[ch];rfl⟩,bK⟩
 |succ m=>
  have d:=zv aa L.length
  have bD:=zy aa
  obtain⟨g,b5⟩:=zw L aa
  have aM:L.drop aa=g::L.drop (aa+1):=by
   obtain⟨ah,H⟩:=Zb.1 b5
   rw[Zv ah,H]
  have aN:=λe (H:P e)=>bK.ad e (bC e H)
  obtain⟨cH,Y,dZ,nd,ic,_⟩:=(bc.ad (bu:=P) aN (λ_ a=>a)).f2 aa g b5
  have QW:ao X aS (.ptr c 0)=some a6:=zE (bK.ad c aB) ib
  rw[aM,List.all_cons]at ch
  refine e7 @gx @g4 @t1 @t0 @d @dZ @ic ⟨?_⟩
  refine(auP aA (b:=b) (l:=l) (a6:=a6) Zo Zo QW (by rw[gr];exact bc.ad (bu:=P) aN (λ_ a=>a)) (λe H=>zt (bC e H))).Zm ?_
  rintro ae bb bs ⟨rfl,cq⟩
  by_cases iv:g=b
  ·have cP:(!decide (g=b))=false:=by simp[iv]
   have eQ:decide (g=b)=true:=by simp[iv]
   rw[eQ,Bool.true_and]at ch
   rw[cP]
   refine cV @gx @bD ⟨?_⟩
   exact⟨m,Zo,aa+1,bf t0,bf t1,bf g4,bw,Zo,bK.trans cq,ch⟩
  ·have cP:(!decide (g=b))=true:=by simp[iv]
   have eQ:decide (g=b)=false:=by simp[iv]
   rw[eQ,Bool.false_and]at ch
   rw[cP]
   refine cL ⟨?_⟩
   exact⟨⟨aa,rfl,by rw[ch];simp⟩,bK.trans cq⟩
def alp(aA:dz X){b:d9}{l:List d9}{a6:F}{c:Nat}(aL:(o X).a8<=j)(aB:c<j)(ib:ao X h (.ptr c 0)=some a6)(bc:xI X h P a6 (b::l))(bC:∀e,P e->e<j):
 aW X 80 [a6, .func (.func 234) [] [.ptr c 0]] h j (λae T au=>ae= .bool (!sr (b::l))/\bq X h j T au) (λ_ _ _=>False):=by
 refine zA aA (ajv X) ?_
 rw[ajw]
 unfold VY
 refine(ase aA aL aB ib bc bC).Zm ?_
 rintro ae T aV ⟨⟨B,rfl,aN⟩,bT⟩
 refine cL ⟨?_⟩
 exact⟨by rw[aN],bT⟩
def Gn(aA:dz X){b:d9}{l:List d9}{a6:F}(aL:(o X).a8<=j)(jm:a6.cells=[a6])(bc:xI X h P a6 (b::l))(bC:∀e,P e->e<j):
 aW X 211 [a6] h j (λae T au=>ae= .bool (sr (b::l))/\bq X h j T au) (λ_ _ _=>False):=by
 refine zA aA (aif X) ?_
 rw[aig]
 unfold Vg
 refine sT ?_
 rw[jm]
 generalize et:bn X h j _=a2
 have b4:ao X a2 (.ptr j 0)=some a6:=by rw[<-et,bR (bm aL)];rfl
 have bU:bq X h j a2 (j+1):=by rw[<-et];exact dU
 clear et
 have aN:=λe (H:P e)=>bU.ad e (bC e H)
 refine ci @b4 ⟨?_⟩
 refine(alp aA Zo Zo b4 (bc.ad (bu:=P) aN (λ_ a=>a)) (λe H=>zt (bC e H))).Zm ?_
 rintro ae aS bg ⟨rfl,bK⟩
 refine cL ⟨?_⟩
 exact⟨Zs,bU.trans bK⟩
def JD(aA:dz X){t:bk->Option eJ}{b0:Nat}{cW:F}(aL:(o X).a8<=j)(ko:b0<j)(aB:ao X h (.ptr b0 2)=some cW)(bc:rJ X h P cW t)(bC:∀e,P e->e<j)(w:bk):
 aW X 129 [.ptr b0 0, .str w] h j (λae T au=>ae= .agg (eF (l2 t w))/\bq X h j T au) (λ_ _ _=>False):=by
 refine zA aA (agv X) ?_
 rw[agw]
 unfold Uk
 refine p3 ?_
 generalize et:bn X h j _=a2
 have b4:ab X a2 j=zx [.bool false, .bool false, .Z 0] 3:=by rw[<-et,bm aL];rfl
 have bU:bq X h j a2 (j+1):=by rw[<-et];exact dU
 clear et
 have aN:=λe (H:P e)=>bU.ad e (bC e H)
 have uu:ao X a2 (.ptr b0 2)=some cW:=zE (bU.ad b0 ko) aB
 refine ci @uu ⟨?_⟩
 refine(Lo aA Zo (bc.ad (bu:=P) aN (λ_ a=>a)) (λe H=>zt (bC e H)) w).Zm ?_
 rintro ae aS bg ⟨rfl,bK⟩
 have ge:=bK.le
 unfold l2
 generalize (t w).getD tK=v at*
 have sg:pd v=[.Z v.kind, .str v.d.name, .Z v.d.at_, .bool v.d.ty.b, .bool v.d.ty.s, .Z v.d.ty.w, .str v.d.on, .Z v.d.fu, .bool v.d.no, .Z v.eq, .Z v.left]:=rfl
 rw[sg]
 have b7:ab X aS j=zx [.bool false, .bool false, .Z 0] 3:=by rw[bK.ad _ Zo];exact b4
 have jX:=bU.trans bK
 refine cL ⟨?_⟩
 generalize fC:bn X _ bg _=bb
 have cN:ab X bb bg=zx [.Z v.kind, .str v.d.name, .Z v.d.at_, .bool v.d.ty.b, .bool v.d.ty.s, .Z v.d.ty.w, .str v.d.on, .Z v.d.fu, .bool v.d.no, .Z v.eq, .Z v.left] 11:=by rw[<-fC,bm Zo];rfl
 have dF:ab X bb j=zx [.bool false, .bool false, .Z 0] 3:=by rw[<-fC];simp(disch:=omega) only[aI];exact b7
 have cq:bq X h j bb (bg+1):=⟨Zo,λe H=>by rw[<-fC];simp(disch:=omega) only[aI];exact jX.ad e H⟩
 clear fC
 have aC:cg X bb 3 (.ptr bg 3)=some (.agg (eF v.d.ty)):=Jm cN rfl
 refine ci @aC ⟨?_⟩
 generalize fl:bn X _ j _=bF
 have abn:cg X bF 3 (.ptr j 0)=some (.agg (eF v.d.ty)):=by rw[<-fl];exact Jm (bm aL) rfl
 have dv:bq X h j bF (bg+1):=⟨Zo,λe H=>by rw[<-fl];simp(disch:=omega) only[aI];exact cq.ad e H⟩
 clear fl
 refine ci @abn ⟨?_⟩
 exact⟨rfl,dv⟩
def HI(aA:dz X)(aL:(o X).a8<=j)(K:Int){ai:bI}:
 aW X 130 [.Z K] h j ai (λae T au=>ae=oB 26 K/\bq X h j T au):=by
 refine zA aA (agx X) ?_
 rw[agy]
 unfold Ul
 refine cL ⟨?_⟩
 exact⟨⟨rfl,dU⟩⟩
end
section
variable{X:ck}{h T a2 aS:V an}{j au aO bg:Nat}{P:Nat->Prop}
def mC(l:List d9):List (List F):=l.map eF
def GR(l:List d9):∀r∈mC l,r.length=3:=by
 intro r Z
 obtain⟨t,_,rfl⟩:=ZT.1 Z
 rfl
def TL(l:List d9):(mC l).flatten.length=l.length*3:=by
 rw[uf (GR l)];simp[mC]
def auR(t:d9):iz (eF t)=true:=rfl
def TM{s:F}{l:List d9}{cK:List Nat}{t:d9}{cH:Nat}{st:nF}(a:gI X h s 3 (mC l).flatten cK)(aj:ab X h cH=some (.cells (V.ofList (eF t) 0 .nil) 3 st))(bp:l.length<=300000)(aL:(o X).a8<=j)(c1:∀e∈cK,e<j)(cap:Nat):
 ∃fo T gR,hC X h j 3 s (.slice cH 0 1 cap)=some (.fh fo T (j+1))/\gI X T fo 3 (mC (l++[t])).flatten gR/\(∀e∈gR,e=j\/e∈cK)/\∀e,e≠j->e∉cK->ab X T e=ab X h e:=by
 have gr:=TL l
 obtain⟨fo,T,gR,Q,U,ar,aK⟩:=a.append (j:=j) Zd (sE (B:=1) aj (mT _) rfl cap) rfl Zd (auR t) (by rw[gr];simp[eF];omega) aL c1
 refine⟨fo,T,gR,Q, .inl ?_,ar,aK⟩
 have:(mC (l++[t])).flatten=(mC l).flatten++eF t:=by simp[mC]
 rw[this];exact U
def ae5(aA:dz X){ds:List fe}{a6:F}{b:Nat}(aL:(o X).a8<=j)(cC:dO X h P b a6 8 (ds.map eY))(bC:∀e,P e->e<j)(bp:ds.length<=100000):
 aW X 235 [a6] h j (λae T au=>(ae.cells=[ae]/\kH X T (da j au) ae (ds.map (·.ty)))/\bq X h j T au) (λ_ _ _=>False):=by
 refine zA aA (aiH X) ?_
 rw[aiI]
 unfold Vu
 have eD:=cC.len
 rw[Zn]at eD
 refine ci @eD ⟨?_⟩
 refine fU (λm M T aV=>∃(aa:Nat) (s:F) (cK:List Nat),M.g 3=some s/\M.g 6=some a6/\M.g 7=some (.Z (ds.length:Int))/\M.g 8=some (.Z (aa:Int))/\aa+m=ds.length/\bq X h j T aV/\gI X T s 3 (mC ((ds.take aa).map (·.ty))).flatten cK/\∀e∈cK,j<=e/\e<aV)
  ds.length ⟨0, .aP,[],bw,bw,bw,gc,Zo,bq.refl _ _, .inl (.inl ⟨rfl,rfl,rfl⟩),Zs⟩ ?_
 rintro m M aS bg ⟨aa,s,cK,t3,fM,g4,gx,bG,bK,aD,fz⟩
 have ge:=bK.le
 cases m with
 |zero=>
  have d:=zu aa ds.length
  rw[ZC Zo]at aD
  refine gt @gx @g4 @d @t3 ⟨?_⟩
  obtain⟨bD,cF,fx⟩:=gI.one aD
  obtain⟨dP,cy⟩:=aD.l5 (P:=da j bg) Zd (GR _) (by simp[mC];omega) fz
  exact⟨⟨bD,dP,cy⟩,bK⟩
 |succ m=>
  have d:=zv aa ds.length
  have bD:=zy aa
  obtain⟨g,b5⟩:=zw ds aa
  have aN:=λe (H:P e)=>bK.ad e (bC e H)
  have dZ:=cC.f2 aa (by rw[Zn];omega)
  have ic:=(cC.ad aN).row Zd (i:=aa) (r:=eY g) (by rw[Zx,b5];rfl)
  have mr:ds.take (aa+1)=ds.take aa++[g]:=by rw[Z5,b5];rfl
  refine iZ @gx @g4 @fM @d @dZ @ic ⟨?_⟩
  generalize fC:bn X _ bg _=bb
  have cN:ab X bb bg=zx (eY g) 8:=by rw[<-fC,bm Zo];rfl
  have c4:∀e,e<bg->ab X bb e=ab X aS e:=λe H=>by rw[<-fC];exact zz
  clear fC
  have aC:cg X bb 3 (.ptr bg 2)=some (.agg (eF g.ty)):=Jm cN rfl
  refine er @t3 @aC eF.eq_1 ⟨?_⟩
  generalize fl:bn X bb _ _=bF
  have ej:ab X bF (bg+1)=zx (eF g.ty) 3:=by rw[<-fl,bm Zo];rfl
  have ec:∀e,e<bg->ab X bF e=ab X aS e:=λe H=>by rw[<-fl,aI Zo Zo];exact c4 e H
  clear fl
  obtain⟨fo,bX,gR,iK,C6,yn,mm⟩:=TM (j:=bg+1+1) (aD.ad (T:=bF) (λe H=>ec e (fz e H).2)) ej (by rw[Zn,ze];omega) Zo (λe H=>zt (fz e H)) 1
  refine ki iK ?_
  refine cV @gx @bD ⟨?_⟩
  refine⟨m,Zo,aa+1,fo,gR,bw,bf fM,bf g4,bw,Zo,⟨Zo,λe H=> ?_⟩, ?_,λe H=> ?_⟩
  ·rw[mm e Zo (λa=>zt (fz e a)),ec e Zo];exact bK.ad e H
  ·rw[mr,Yy];exact C6
  ·rcases yn e H with rfl|a
   ·omega
   ·have:=fz e a;omega
end
end
end Go.Proofs.YtpfajohmofnkfaaGreatDoor

namespace Go.Proofs.YtpfajohmofnkfaaGreatDoor
open Go.bi
noncomputable section
variable (X : ck) (h : V an) (j : Nat) (ai ay : bI) (a0 bh cl a3 a4 a5 hB hY iU : F)
def VN(a:aZ)(b c:F)(d:V an)(e:Nat)(f _:bI):Prop:=
 E (dX b) λg=>E (dX c) λh=>E (aF .neq g h) λg=>aY (λb c d=>al (b 0) λe=>E (dX e) λe=>aY (λ_ a b=>f (.bool true) a b) λg=>fJ (λb c d e=>al (c 13) λh=>al (c 12) λi=>E (aF .lss h i) λh=>aY (λc d e=>aY (λa c d=>al (a 13) λe=>E (aF .add e (.Z 1)) λe=>b (ac a 13 e) c d) λb=>al (c 13) λg=>eV (e+9) λe=>al (c 0) λh=>E (dW 3 h g) λh=>E (cg a d 3 h) λh=>al (c 1) λi=>E (dW 3 i g) λi=>E (cg a d 3 i) λi=>E (dn a d .neq 41 false h i) λa=>aY b λb=>a7 a (f (.bool false) d e) (b (zB c 5 g 24 a) d e)) λa=>a7 h (a (ac c 14 h) d e) (g (ac c 14 h) d e)) (zB b 12 e 13 (.Z 0)) c d) λa=>a7 g (f (.bool false) d e) (a (zB (cS [b,c]) 4 (.bool false) 10 g) d e)
def ajg:dh X 47 [a0,bh] h j ai ay=VN X a0 bh h j ai ay:=Zk
def ajf:cU X 47 2=true:=Zk
end
end Go.Proofs.YtpfajohmofnkfaaGreatDoor

namespace Go.Proofs.YtpfajohmofnkfaaGreatDoor
open Go.bi Go.aU
noncomputable section
section
variable{X:ck}{h T a2 aS:V an}{j au aO bg:Nat}{P:Nat->Prop}
def PG(aA:dz X){A bj:List d9}{l6 JZ:F}(aL:(o X).a8<=j)(aE:kH X h P l6 A)(aj:kH X h P JZ bj)(bC:∀e,P e->e<j):
 aW X 47 [l6,JZ] h j (λae T au=>ae= .bool (decide (A=bj))/\bq X h j T au) (λ_ _ _=>False):=by
 refine zA aA (ajf X) ?_
 rw[ajg]
 unfold VN
 obtain⟨c0,MC⟩:=aE
 obtain⟨dL,IQ⟩:=aj
 have IC:=MC.len
 have uE:=IQ.len
 have aql:=MC.many
 rw[Zn]at IC uE aql
 by_cases aC:A.length=bj.length
 ·have d:decide ((A.length:Int)≠(bj.length:Int))=false:=by simp[aC]
  refine er @IC @uE @d ⟨?_⟩
  refine fU (λm M T aV=>∃(aa:Nat),M.g 0=some l6/\M.g 1=some JZ/\M.g 12=some (.Z (A.length:Int))/\M.g 13=some (.Z (aa:Int))/\aa+m=A.length/\bq X h j T aV/\decide (A=bj)=decide (A.drop aa=bj.drop aa))
   A.length ⟨0,bw,bw,bw,gc,Zo,bq.refl _ _,rfl⟩ ?_
  rintro m M aS bg ⟨aa,t0,t1,tG,lj,bG,bK,ch⟩
  have ge:=bK.le
  cases m with
  |zero=>
   have d:=zu aa A.length
   rw[ZN Zo,ZN Zo]at ch
   refine er @tG @lj @d ⟨?_⟩
   exact⟨by rw[ch];rfl,bK⟩
  |succ m=>
   have d:=zv aa A.length
   have bD:=zy aa
   obtain⟨g,b5⟩:=zw A aa
   obtain⟨a,gD⟩:=zw bj aa
   have L2:A.drop aa=g::A.drop (aa+1):=by
    obtain⟨ah,H⟩:=Zb.1 b5
    rw[Zv ah,H]
   have pE:bj.drop aa=a::bj.drop (aa+1):=by
    obtain⟨ah,H⟩:=Zb.1 gD
    rw[Zv ah,H]
   have aN:=λe (H:P e)=>bK.ad e (bC e H)
   have dZ:=MC.f2 aa (by rw[Zn];omega)
   have qk:=IQ.f2 aa (by rw[Zn];omega)
   have ic:=(MC.ad aN).row Zd (i:=aa) (r:=eF g) (by rw[Zx,b5];rfl)
   have RM:=(IQ.ad aN).row Zd (i:=aa) (r:=eF a) (by rw[Zx,gD];rfl)
   rw[L2,pE]at ch
   have Gj:=ads (X:=X) (h:=aS) g a
   refine e7 @t0 @t1 @tG @lj @d @dZ (Za @qk (Za @ic (Za @RM @Gj))) ⟨?_⟩
   by_cases Ra:g=a
   ·subst Ra
    have cP:(!decide (g=g))=false:=by simp
    rw[cP]
    refine cV @lj @bD ⟨?_⟩
    exact⟨m,Zo,aa+1,bf t0,bf t1,bf tG,bw,Zo,bK.more Zo,by rw[ch];simp⟩
   ·have cP:(!decide (g=a))=true:=by simp[Ra]
    rw[cP]
    refine cL ⟨?_⟩
    exact⟨by rw[ch];simp[Ra],bK.more Zo⟩
 ·have d:decide ((A.length:Int)≠(bj.length:Int))=true:=by simp only[Zh];omega
  have dD:A≠bj:=λJ=>aC (by rw[J])
  refine er @IC @uE @d ⟨?_⟩
  exact⟨by simp[dD],bq.refl _ _⟩
def aws(aA:dz X)(aL:(o X).a8<=j)(t:d9)(b:Bool):
 jn X (.func (.func 210) [] []) [.agg (eF t), .bool b] h j (λae T au=>∃w,ae= .tuple [w, .bool b]/\w.cells=[w]/\kH X T (da j au) w [t]/\bq X h j T au) (λ_ _ _=>False):=by
 refine Ba ?_
 show aW X 210 [.agg (eF t), .bool b] h j _ _
 refine zA aA (aid X) ?_
 rw[aie]
 unfold Vf
 refine sT ?_
 generalize et:bn X h j _=a2
 have b4:cg X a2 3 (.ptr j 0)=some (.agg (eF t)):=by rw[<-et];exact Jm (bm aL) (by cases t;rfl)
 have bU:bq X h j a2 (j+1):=by rw[<-et];exact dU
 clear et
 refine cV @b4 eF.eq_1 ⟨?_⟩
 generalize dI:bn X a2 _ _=aS
 have b7:ab X aS (j+1)=zx [eF t].flatten (1*3):=by rw[<-dI,bm Zo];rfl
 have bK:bq X h j aS (j+1+1):=⟨Zo,λe H=>by rw[<-dI,aI Zo Zo];exact bU.ad e H⟩
 exact⟨_,rfl,rfl,⟨j+1,Gw (aR:=[eF t]) b7 rfl (by simp[eF]) Zo ⟨Zo,Zo⟩⟩,bK⟩
structure Ea(X:ck)(h:V an)(b0:Nat)(BM p cW:F):Prop where
 d7:ao X h (.ptr b0 0)=some BM
 dt:ao X h (.ptr b0 1)=some p
 dG:ao X h (.ptr b0 2)=some cW
def Ea.ad{b0:Nat}{BM p cW:F}(a:Ea X h b0 BM p cW)(B:ab X T b0=ab X h b0):Ea X T b0 BM p cW:=by
 have aC:∀Y,ao X T (.ptr b0 Y)=ao X h (.ptr b0 Y):=λY=>by rw[cJ,cJ,B]
 exact⟨by rw[aC];exact a.d7,by rw[aC];exact a.dt,by rw[aC];exact a.dG⟩
def amI{nm:bk}:∀(aq:List Go.aU.Node) (B aa:Nat),wr nm B aq=some aa->aa<B+aq.length:=by
 intro aq
 induction aq with
 |nil=>intro B aa a;cases a
 |cons g aq ak=>
  intro B aa a
  unfold wr at a
  split at a
  ·cases a;simp
  ·have:=ak _ _ a;simp;omega
def amL{aq:List Go.aU.Node}{nm:bk}(b6:aq≠[]):(nb aq nm).getD 0<aq.length:=by
 have:0<aq.length:=YG.2 b6
 cases a:nb aq nm with
 |none=>exact this
 |some aa=>have:=amI aq 0 aa a;simpa using this
def akZ(aA:dz X){aq:List Go.aU.Node}{b0:Nat}{BM p cW:F}(aL:(o X).a8<=j)(ko:b0<j)(aB:Ea X h b0 BM p cW)(b5:nE X h P aq p)(b6:aq≠[])(bC:∀e,P e->e<j)(bp:∀g∈aq,g.eG.length<=100000/\g.out.length<=100000)
 {J:bE}{v:F}(bx:cO X h P J v){K:List d9}{a6:F}(aE:kH X h P a6 K):
 aW X 212 [.ptr b0 0,v,a6] h j (λae T au=>∃w,ae= .tuple [w, .bool (Aq aq J.name K).2]/\w.cells=[w]/\kH X T (da j au) w (Aq aq J.name K).1/\bq X h j T au) (λ_ _ _=>False):=by
 refine zA aA (aih X) ?_
 rw[aii]
 unfold Vh
 obtain⟨d1,_,_,_,rfl,aaS,_,_,al2,_⟩:=bx.open
 have dt:=aB.dt
 refine cV @dt @al2 ⟨?_⟩
 refine(PQ (j:=j+14) aA Zo b5 (λe H=>zt (bC e H)) J.name).Zm ?_
 rintro ae a2 aO ⟨rfl,bU⟩
 have jy:=bU.le
 have kQ:=λe (H:P e)=>bU.ad e (zt (bC e H))
 have r7:=amL (nm:=J.name) b6
 unfold Aq
 generalize wR:(nb aq J.name).getD 0=B at*
 obtain⟨g,Rb⟩:∃g,aq[B]? =some g:=⟨_,Ze r7⟩
 rw[Rb]
 obtain⟨nl,lC⟩:=bp g (Zl Rb)
 obtain⟨iP,Gv,NA,aR,rfl,nd,a0,cC,kS⟩:=b5
 have Mt:=kS.wide
 obtain⟨row,ft,jK⟩:=kS.get B g Rb
 have abC:=jK.ad (bu:=P) kQ (λ_ a=>a)
 have uu:=(aB.ad (bU.ad b0 Zo)).dt
 have G8:ao X a2 (.ptr iP 0)=some Gv:=zE (bU.ad iP (zt (bC iP nd))) a0
 have dZ:=cC.f2 B (by rw[Mt.1];omega)
 have ic:=(cC.ad kQ).row Zd ft
 have fD:=jK.len
 have wV:=abC.iz
 obtain⟨cY,dj,aew,ev,c0,dL,ef,hQ,eqs,rfl,sd,jL,_⟩:=abC
 refine gt @uu @G8 @dZ @ic ⟨?_⟩
 refine fF (h6 (B:=6) (b:=aO) (Y:=0) (n:=6) (bm Zo) Zo rfl Zd Zd wV) ?_
 refine cL ⟨?_⟩
 show aW X 235 [dj] _ _ _ _
 generalize dI:bn X _ aO _=aS
 have b7:ab X aS aO=zx [.str g.name, .Z g.at_,cY,dj,aew,ev] 6:=by rw[<-dI,bm Zo];rfl
 have bK:bq X h j aS (aO+1+12):=⟨Zo,λe H=>by rw[<-dI];simp(disch:=omega) only[aI];exact bU.ad e Zo⟩
 have h4:∀e,P e->ab X aS e=ab X a2 e:=λe H=>by rw[bK.ad e (bC e H),kQ e H]
 clear dI
 refine(ae5 aA Zo (jL.ad h4) (λe H=>zt (bC e H)) lC).Zm ?_
 rintro y2 bb bs ⟨⟨I0,arE⟩,cq⟩
 have iL:=cq.le
 have cN:ab X bb aO=zx [.str g.name, .Z g.at_,cY,dj,aew,ev] 6:=by rw[cq.ad _ Zo];exact b7
 obtain⟨cD,cp,dF⟩:=ke sd.len
 refine ci (bR cN) ⟨?_⟩
 refine gP dF ?_
 refine Ba ?_
 show aW X 235 [cY] _ _ _ _
 have nR:∀e,P e->ab X bb e=ab X a2 e:=λe H=>by rw[cq.ad e (zt (bC e H)),h4 e H]
 refine(ae5 aA Zo (sd.ad nR) (λe H=>zt (bC e H)) nl).Zm ?_
 rintro D5 bF c7 ⟨⟨aAP,arF⟩,dv⟩
 have jl:=dv.le
 have gd:∀e,P e->ab X bF e=ab X h e:=λe H=>by rw[dv.ad e (zt (bC e H)),nR e H,kQ e H]
 have H0:=(bK.trans ((cq.kv Zo).trans dv))
 refine(PG (P:=λe=>e<c7) aA Zo (arF.ad (λ_ _=>rfl) (λe H=>H.2)) (aE.ad gd (λe H=>zt (bC e H))) (λe H=>H)).Zm ?_
 rintro D6 bX b2 ⟨rfl,dH⟩
 have h5:=dH.le
 refine cL ⟨?_⟩
 refine⟨y2,rfl,I0,arE.ad (λe H=> ?_) (λe H=>⟨zt H.1,zt H.2⟩),H0.trans dH⟩
 have:=H.2
 rw[dH.ad e Zo,dv.ad e Zo]
end
def p6{p:Prop}[Decidable p](a:p):decide p=true:=decide_eq_true a
def p5{p:Prop}[Decidable p](a:¬p):decide p=false:=decide_eq_false a
def Lg(t:d9):qX false 0 1 (.agg (eF t))=some (.bool t.b):=rfl
def sB(t:d9):F.same 30 (.agg (eF t)) (.agg (eF t))=true:=by
 obtain⟨K,b,c⟩:=t
 have Q:∀x:Bool,F.same 29 (.bool x) (.bool x)=true:=λx=>by cases x<;>rfl
 have U:F.same 29 (.Z c) (.Z c)=true:=by simp only[F.same];simp
 simp only[eF]
 rw[F.same]
 simp only[n9,Q,U,Ya]
section
variable{X:ck}{h T a2 aS:V an}{j au aO bg:Nat}{P:Nat->Prop}
def Ec(X:ck):Prop:=∀h,cg X h 3 (.ptr 4 0)=some (.agg (eF GQ))
def V1(X:ck)(h:V an)(j:Nat)(r:List d9×Bool):bI:=λae T au=>∃w,ae= .tuple [w, .bool r.2]/\w.cells=[w]/\kH X T (da j au) w r.1/\bq X h j T au
def oQ(aA:dz X)(aL:(o X).a8<=j)(bT:bq X h j a2 aO){M:d9}{bj:Bool}{r:List d9×Bool}(Z:r=([M],bj)):
 aW X 210 [.agg (eF M), .bool bj] a2 aO (λTQ Ei at9=>E (cM 0 TQ) λayd=>E (cM 1 TQ) λaye=>V1 X h j r (.tuple [ayd,aye]) Ei at9) (λ_ _ _=>False):=by
 subst Z
 have gl:=bT.le
 have a:=(aws (h:=a2) (j:=aO) aA Zo M bj).out
 refine a.Zm ?_
 rintro ae T aV ⟨w,rfl,bJ,bc,bK⟩
 refine cL ⟨?_⟩
 exact⟨w,rfl,bJ,bc.ad (λ_ _=>rfl) (λe H=>⟨zt H.1,H.2⟩),bT.trans bK⟩
def xN{J:bE}{K:List d9}(bJ:BU ln J)(mj:K.length=J.args.length){m:Nat}(a:rL J.kind=some (m+1)):∃b l,K=b::l:=by
 have:=bJ.B7 _ a
 cases K with
 |nil=>simp at mj;omega
 |cons b l=>exact⟨b,l,rfl⟩
def axO{K:List d9}{a6:F}{cK:List Nat}(a:gI X h a6 3 (mC K).flatten cK)(U:2<=K.length)(bp:K.length<=1000)(aC:∀e∈cK,P e):
 ∃iQ,sD X h 3 a6 (some (.Z 1)) none none=some iQ/\iQ.cells=[iQ]/\xI X h P iQ K.tail:=by
 have gr:=TL K
 obtain⟨Ew,cC⟩:=a.l5 (P:=P) Zd (GR K) (by simp[mC];omega) aC
 have hL:=(show kH X h P a6 K from⟨Ew,cC⟩).rd
 have dZ:∀i t,K.tail[i]? =some t->∃b Y,dW 3 a6 (.Z ((i+1:Nat):Int))=some (.ptr b Y)/\P b/\cg X h 3 (.ptr b Y)=some (.agg (eF t))/\ao X h (.ptr b Y)=some (.bool t.b):=
  λi t aJ=>hL.f2 (i+1) t (by rw[<-aJ];cases K<;>simp)
 have c1:∀i t,K.tail[i]? =some t->i<K.length-1:=λi t aJ=>by have:=(Zb.1 aJ).1;simpa using this
 have bD:mU (.Z 1)=some 1:=rfl
 rcases a with (⟨_,a,_⟩|⟨b,fm,n,c,rfl,ar,rfl,aK,bH,cu,dM⟩)|⟨b,n,c,st,rfl,ar,rfl,aK,bH⟩
 ·rw[a]at gr;simp at gr;omega
 ·have aL:n=K.length:=Zo
  subst aL
  have aj:lQ K.length ((K.length*3-0)/3) (some (.Z 1)) none none=some (1,K.length,K.length):=by
   have cD:(K.length*3-0)/3=K.length:=Zo
   rw[cD]
   have cp:Nat.ble 1 K.length=true:=kJ Zo
   simp only[lQ,oW,bD,cp,eP]
  refine⟨.en b (0+1*3) (K.length-1) 3, ?_,rfl,⟨by rw[n7,List.length_tail],by simp;omega,λi t aJ=> ?_⟩⟩
  ·simp only[sD,xq,cu,aj]
   have cD:(K.length*3-0)/3=K.length:=Zo
   rw[cD]
   have cp:Nat.blt 1 K.length=true:=by simp[Nat.blt];omega
   simp[cp,fw]
  ·obtain⟨c0,gN,cD,cp,dF,fL⟩:=dZ i t aJ
   have lC:=c1 i t aJ
   rw[Dg _ Zo]at cD
   cases cD
   refine⟨b,0+1*3+i*3,Dg _ lC,cp, ?_, ?_⟩
   ·rw[show 0+1*3+i*3=0+(i+1)*3 by omega];exact dF
   ·rw[show 0+1*3+i*3=0+(i+1)*3 by omega];exact fL
 ·have aL:n=K.length:=Zo
  subst aL
  have aj:lQ K.length K.length (some (.Z 1)) none none=some (1,K.length,K.length):=by
   have cp:Nat.ble 1 K.length=true:=kJ Zo
   simp only[lQ,oW,bD,cp,eP]
  refine⟨.slice b (0+1*3) (K.length-1) (K.length-1), ?_,rfl,⟨by rw[oX,List.length_tail],by simp;omega,λi t aJ=> ?_⟩⟩
  ·simp only[sD,aj]
   have cp:¬K.length=1:=Zo
   simp[cp,hD]
  ·obtain⟨c0,gN,cD,cp,dF,fL⟩:=dZ i t aJ
   have lC:=c1 i t aJ
   rw[FR _ Zo]at cD
   cases cD
   refine⟨b,0+1*3+i*3,FR _ lC,cp, ?_, ?_⟩
   ·rw[show 0+1*3+i*3=0+(i+1)*3 by omega];exact dF
   ·rw[show 0+1*3+i*3=0+(i+1)*3 by omega];exact fL
set_option maxRecDepth 100000 in
def awu(aA:dz X)(ew:Ec X){aq:List Go.aU.Node}{t:bk->Option eJ}{b0:Nat}{BM p cW:F}(aL:(o X).a8<=j)(ko:b0<j)(aB:Ea X h b0 BM p cW)(bc:rJ X h P cW t)(b5:nE X h P aq p)(b6:aq≠[])(bC:∀e,P e->e<j)(bp:∀g∈aq,g.eG.length<=100000/\g.out.length<=100000)
 {J:bE}{v:F}(bx:cO X h P J v)(bJ:BU ln J){K:List d9}{a6:F}{cK:List Nat}(mj:K.length=J.args.length)(aE:gI X h a6 3 (mC K).flatten cK)(CR:K.length<=300000)(fz:∀e∈cK,P e):
 aW X 184 [.ptr b0 0,v,a6] h j (V1 X h j (j6 aq t J K)) (λ_ _ _=>False):=by
 obtain⟨Ew,cC⟩:=aE.l5 (P:=P) Zd (GR K) (by simp[mC];omega) fz
 have aca:kH X h P a6 K:=⟨Ew,cC⟩
 have hL:=aca.rd
 obtain⟨jm,_,_⟩:=ke hL.len
 refine zA aA (ahv X) ?_
 rw[ahw]
 unfold UU
 obtain⟨d1,_,_,_,rfl,aaS,a0,_,cl,_,a4,a5,hB,_⟩:=id bx.open
 have yC:cg X h 3 (.ptr d1 4)=some (.agg (eF J.ty)):=by rw[qv,a4,a5,hB];rfl
 have bV:=bJ.bV
 have cw:=bJ.cw
 have φ:=ew h
 have ad:∀{T:V an}{n aV:Nat},bq X h n T aV->j<=n->∀e,P e->ab X T e=ab X h e:=λa aL e H=>a.ad e (zt (bC e H))
 have w6:∀b l,K=b::l->∃cH Y,dW 3 a6 (.Z 0)=some (.ptr cH Y)/\P cH/\cg X h 3 (.ptr cH Y)=some (.agg (eF b))/\ao X h (.ptr cH Y)=some (.bool b.b):=λb l a=>hL.f2 0 b (by rw[a];rfl)
 have Bj:∀{T:V an}{n aV cH Y:Nat}{b:d9},bq X h n T aV->j<=n->P cH->cg X h 3 (.ptr cH Y)=some (.agg (eF b))->ao X h (.ptr cH Y)=some (.bool b.b)->cg X T 3 (.ptr cH Y)=some (.agg (eF b))/\ao X T (.ptr cH Y)=some (.bool b.b):=
  λa aL az cD cp=>⟨by rw[u4,ad a aL _ az, <-u4];exact cD,zE (ad a aL _ az) cp⟩
 have apj:J.kind=1\/J.kind=2\/(J.kind=3\/J.kind=5)\/(J.kind=4\/J.kind=19\/J.kind=20)\/J.kind=6\/(J.kind=7\/J.kind=8\/J.kind=9\/J.kind=21\/J.kind=22)\/(J.kind=16\/J.kind=17\/J.kind=18)\/(J.kind=10\/J.kind=11)\/(J.kind=12\/J.kind=13\/J.kind=14\/J.kind=15)\/J.kind=23\/J.kind=24\/J.kind=26\/J.kind=25:=Zo
 rcases apj with a|a|a|a|a|a|a|a|a|a|a|a|a
 ·refine gt @a0 @p6 @p5 @yC ⟨?_⟩
  exact oQ aA aL (bq.refl _ _) (by unfold j6;rw[Zq a])
 ·refine gt @a0 @p6 @p5 @cl ⟨?_⟩
  refine(JD aA aL ko aB.dG bc bC J.name).Zm ?_
  rintro ae aS bg ⟨rfl,bK⟩
  refine cL ⟨?_⟩
  exact oQ aA aL bK (by unfold j6;rw[Zg Zo,Zq a])
 ·rcases a with a|a
  all_goals
   obtain⟨b,l,rfl⟩:=xN bJ mj (by rw[a];rfl)
   obtain⟨cH,Y,ht,gg,i3,i4⟩:=w6 b l rfl
   refine gA @a0 @p6 @p5 @ht @i3 ⟨?_⟩
   exact oQ aA aL (bq.refl _ _) (by simp[j6,a])
 ·rcases a with a|a|a
  all_goals
   obtain⟨b,l,rfl⟩:=xN bJ mj (by rw[a];rfl)
   obtain⟨cH,Y,ht,gg,i3,i4⟩:=w6 b l rfl
   refine iZ @a0 @p6 @p5 @ht @i3 @i4 ⟨?_⟩
   exact oQ aA aL ((bq.refl _ _).more Zo) (by simp[j6,a])
 ·obtain⟨b,l,rfl⟩:=xN bJ mj (by rw[a];rfl)
  obtain⟨cH,Y,ht,gg,i3,i4⟩:=w6 b l rfl
  refine iZ @a0 @p6 @p5 @ht @i3 @cl ⟨?_⟩
  refine(JD (j:=j+16) aA Zo Zo aB.dG bc (λe H=>zt (bC e H)) J.name).Zm ?_
  rintro ae aS bg ⟨rfl,bK⟩
  obtain⟨ra,yK⟩:=Bj bK Zo gg i3 i4
  refine cV @Lg @ra ⟨?_⟩
  refine gP (sB b) ?_
  refine cL ⟨?_⟩
  exact oQ aA aL (bK.kv Zo) (by simp[j6,a])
 ·rcases a with a|a|a|a|a
  all_goals
   obtain⟨b,l,rfl⟩:=xN bJ mj (by rw[a];rfl)
   obtain⟨cH,Y,ht,gg,i3,i4⟩:=w6 b l rfl
   refine gA @a0 @p6 @p5 @ht @i3 ⟨?_⟩
   refine(Gn (j:=j+11) aA Zo jm hL (λe H=>zt (bC e H))).Zm ?_
   rintro ae aS bg ⟨rfl,bK⟩
   obtain⟨ra,yK⟩:=Bj bK Zo gg i3 i4
   refine ci @ra ⟨?_⟩
   refine gP (sB b) ?_
   refine cL ⟨?_⟩
   exact oQ aA aL (bK.kv Zo) (by simp[j6,a])
 ·rcases a with a|a|a
  all_goals
   obtain⟨b,l,rfl⟩:=xN bJ mj (by rw[a];rfl)
   obtain⟨cH,Y,ht,gg,i3,i4⟩:=w6 b l rfl
   refine gA @a0 @p6 @p5 @ht @i3 ⟨?_⟩
   refine(Gn (j:=j+18) aA Zo jm hL (λe H=>zt (bC e H))).Zm ?_
   rintro ae aS bg ⟨rfl,bK⟩
   obtain⟨ra,yK⟩:=Bj bK Zo gg i3 i4
   cases aj:sr (b::l)
   ·refine ci @ra ⟨?_⟩
    refine gP (sB b) ?_
    refine cL ⟨?_⟩
    exact oQ aA aL (bK.kv Zo) (by simp[j6,a,aj])
   ·refine er @ht @ra @yK ⟨?_⟩
    refine gP (sB b) ?_
    refine cL ⟨?_⟩
    exact oQ aA aL (bK.kv Zo) (by simp[j6,a,aj])
 ·rcases a with a|a
  all_goals
   obtain⟨b,l,rfl⟩:=xN bJ mj (by rw[a];rfl)
   obtain⟨cH,Y,ht,gg,i3,i4⟩:=w6 b l rfl
   refine gt @a0 @p6 @p5 @φ ⟨?_⟩
   refine(Gn (j:=j+9) aA Zo jm hL (λe H=>zt (bC e H))).Zm ?_
   rintro ae aS bg ⟨rfl,bK⟩
   obtain⟨ra,yK⟩:=Bj bK Zo gg i3 i4
   have LA:=ew aS
   refine ci @LA ⟨?_⟩
   refine gP (sB GQ) ?_
   refine cL ⟨?_⟩
   exact oQ aA aL (bK.kv Zo) (by simp[j6,a])
 ·rcases a with a|a|a|a
  all_goals
   obtain⟨b,l,rfl⟩:=xN bJ mj (by rw[a];rfl)
   obtain⟨cH,Y,ht,gg,i3,i4⟩:=w6 b l rfl
   refine gt @a0 @p6 @p5 @φ ⟨?_⟩
   refine(Gn (j:=j+16) aA Zo jm hL (λe H=>zt (bC e H))).Zm ?_
   rintro ae aS bg ⟨rfl,bK⟩
   obtain⟨ra,yK⟩:=Bj bK Zo gg i3 i4
   have LA:=ew aS
   cases aj:sr (b::l)
   ·refine ci @LA ⟨?_⟩
    refine gP (sB GQ) ?_
    refine cL ⟨?_⟩
    exact oQ aA aL (bK.kv Zo) (by simp[j6,a,aj])
   ·refine er @ht @yK @LA ⟨?_⟩
    refine gP (sB GQ) ?_
    refine cL ⟨?_⟩
    exact oQ aA aL (bK.kv Zo) (by simp[j6,a,aj])
 ·obtain⟨fB,c0,dL,rfl⟩:∃fB c0 dL,K=[fB,c0,dL]:=by
   have ar:K.length=3:=mj.trans (bJ.B7 3 (by rw[a];rfl))
   match K,ar with
   |[x,e,bt],_=>exact⟨x,e,bt,rfl⟩
  obtain⟨cH,Y,ht,gg,i3,i4⟩:=w6 fB [c0,dL] rfl
  obtain⟨we,au2,cD,cp,dF,fL⟩:=hL.f2 1 c0 rfl
  have cD:dW 3 a6 (.Z 1)=some (.ptr we au2):=cD
  obtain⟨iQ,jQ,kA,JW⟩:=axO aE Zs Zs fz
  cases aj:fB.b
  ·rw[aj]at i4
   refine e7 @a0 @p6 @p5 @ht @cD @dF @i4 ⟨?_⟩
   refine gP (sB c0) ?_
   refine cL ⟨?_⟩
   exact oQ aA aL ((bq.refl _ _).more Zo) (by simp[j6,a,aj])
  ·rw[aj]at i4
   refine e7 @a0 @p6 @p5 @ht @cD @dF (Za @i4 @jQ) ⟨?_⟩
   refine(Gn (j:=j+18) (b:=c0) (l:=[dL]) aA Zo kA JW (λe H=>zt (bC e H))).Zm ?_
   rintro ae aS bg ⟨rfl,bK⟩
   obtain⟨ra,yK⟩:=Bj bK Zo cp dF fL
   refine ci @ra ⟨?_⟩
   refine gP (sB c0) ?_
   refine cL ⟨?_⟩
   exact oQ aA aL (bK.kv Zo) (by simp[j6,a,aj])
 ·obtain⟨b,l,rfl⟩:=xN bJ mj (by rw[a];rfl)
  obtain⟨cH,Y,ht,gg,i3,i4⟩:=w6 b l rfl
  refine gA @a0 @p6 @p5 @ht @i3 ⟨?_⟩
  refine(Gn (j:=j+20) aA Zo jm hL (λe H=>zt (bC e H))).Zm ?_
  rintro ae aS bg ⟨rfl,bK⟩
  obtain⟨ra,yK⟩:=Bj bK Zo gg i3 i4
  cases aj:sr (b::l)
  ·refine ci @ra ⟨?_⟩
   refine gP (sB b) ?_
   refine ci @ra ⟨?_⟩
   refine gP (sB b) ?_
   refine cL ⟨?_⟩
   exact oQ aA aL (bK.kv Zo) (by simp[j6,a,aj])
  ·have ajP:ao X aS (.ptr d1 2)=some (.str J.name):=zE (ad bK Zo d1 aaS) cl
   have ge:=bK.le
   refine cV @ajP @ra ⟨?_⟩
   refine gP (sB b) ?_
   refine cL ⟨?_⟩
   refine(JD (j:=bg) aA Zo Zo (aB.ad (bK.ad b0 Zo)).dG (bc.ad (bu:=P) (ad bK Zo) (λ_ a=>a)) (λe H=>zt (bC e H)) J.name).Zm ?_
   rintro ae bb bs ⟨rfl,cq⟩
   have E2:=bK.trans cq
   obtain⟨e8,fQ⟩:=Bj E2 Zo gg i3 i4
   refine cV @Lg @e8 ⟨?_⟩
   refine gP (sB b) ?_
   refine cL ⟨?_⟩
   exact oQ aA aL (E2.kv Zo) (by simp[j6,a,aj])
 ·obtain⟨b,l,rfl⟩:=xN bJ mj (by rw[a];rfl)
  obtain⟨cH,Y,ht,gg,i3,i4⟩:=w6 b l rfl
  cases aj:J.ty.b
  ·rw[aj]at a4
   refine gA @a0 @p6 @p5 @yC @a4 ⟨?_⟩
   exact oQ aA aL ((bq.refl _ _).more Zo) (by simp[j6,a,aj])
  ·rw[aj]at a4
   refine e7 @a0 @p6 @p5 @yC @a4 @ht @i4 ⟨?_⟩
   exact oQ aA aL ((bq.refl _ _).more Zo) (by simp[j6,a,aj])
 ·have Z:j6 aq t J K=Aq aq J.name K:=by simp[j6,a]
  rw[Z]
  refine er @a0 @p6 @p5 ⟨?_⟩
  refine(akZ aA aL ko aB b5 b6 bC bp bx aca).Zm ?_
  rintro ae aS bg ⟨w,rfl,Q,U,ar⟩
  refine cL ⟨?_⟩
  exact⟨w,rfl,Q,U,ar⟩
end
def Cn(J:Nat×F×Nat):F×F×Nat:=(.ptr J.1 0,J.2.1,J.2.2)
mutual
def Cc:bE->Nat
 | .mk _ _ _ _ _ _ args=>sW args+1
def sW:List bE->Nat
 |[]=>0
 |J::l=>Cc J+sW l
end
def alf(J:bE):Cc J=sW J.args+1:=by cases J;rw[Cc];rfl
def alg:sW []=0:=by rw[sW]
def WW(J:bE):∀l:List bE,sW (l++[J])=sW l+Cc J:=by
 intro l
 induction l with
 |nil=>simp[sW]
 |cons K l ak=>rw[YO,sW,sW,ak];omega
section
variable{X:ck}{h T a2 aS:V an}{j au aO bg:Nat}
def k3(X:ck)(h:V an)(P:Nat->Prop)(r:Nat)(df:Nat->Option F):Prop:=∃dm eX,ab X h r=some (.map (dm.map Cn) eX)/\(∀w,qx dm w=df w)/\∀x∈dm,P x.1/\nD X h x.1
variable{P:Nat->Prop}
def k3.ad{r:Nat}{df:Nat->Option F}(a:k3 X h P r df)(as1:ab X T r=ab X h r)(B:∀e,P e->ab X T e=ab X h e):k3 X T P r df:=by
 obtain⟨dm,eX,Q,U,ar⟩:=a
 exact⟨dm,eX,by rw[as1];exact Q,U,λx ah=>⟨(ar x ah).1,(ar x ah).2.ad (B _ (ar x ah).1)⟩⟩
def Ns(b:Nat):mL X 20 47 (.ptr b 0)=true:=Zk
def amj(b dP:Nat):kl X h 20 47 (.ptr b 0) (.ptr dP 0)=bi.ptrEq X h b 0 dP 0:=Zk
def avD{b dP:Nat}(a:nD X h b)(cy:nD X h dP)(aL:(o X).a8<=b):bi.ptrEq X h b 0 dP 0=some (decide (b=dP)):=by
 obtain⟨c,n,Q,U⟩:=a
 obtain⟨f0,aV,ar,aK⟩:=cy
 unfold bi.ptrEq
 rw[hD]
 by_cases J:b=dP
 ·simp[J]
 ·have c0:Nat.blt 0 n=true:=kJ U
  have dL:Nat.blt 0 aV=true:=kJ aK
  have cD:Gr X h b 0=true:=by simp only[Gr,Q,jV,kJ aL,c0,Ya]
  have cp:Bk X h dP 0=true:=by simp only[Bk,ar,dL]
  simp[J,cD,cp,fw]
def Lc{b:Nat}(aj:nD X h b)(aL:(o X).a8<=b):∀(dm:List (Nat×F×Nat)) (i:Nat),(∀x∈dm,P x.1/\nD X h x.1)->findKey X h 47 (.ptr b 0) (dm.map Cn) i=some (lA dm b i):=by
 intro dm
 induction dm with
 |nil=>intro i _;rfl
 |cons x dm ak=>
  intro i pB
  simp only[ZK,Cn,findKey,amj,avD aj (pB x (Zu ..)).2 aL,lA]
  by_cases a:b=x.1
  ·have:x.1=b:=a.symm
   simp[this]
  ·have:¬x.1=b:=λJ=>a J.symm
   simp only[a,this,Yd,ZA]
   exact ak (i+1) (λx ah=>pB x (Zr _ ah))
def asR(b:Nat):ns 20 (.ptr b 0) (.ptr b 0)=true:=by
 simp[ns]
def atJ{r:Nat}{df:Nat->Option F}(a:k3 X h P r df){b:Nat}(aj:nD X h b)(aL:(o X).a8<=b)(bt:F)(ok:Bool):
 kr X h 47 bt (.map r) (.ptr b 0) ok=some (match df b with|some v=>bP ok (.tuple [v, .bool true]) v|none=>bP ok (.tuple [bt, .bool false]) bt):=by
 obtain⟨dm,eX,Q,U,ar⟩:=a
 have aK:=U b
 unfold qx at aK
 simp only[kr,Q,Ns,eP,Lc aj aL _ _ ar]
 cases b1:lA dm b 0 with
 |none=>rw[b1]at aK;rw[<-aK];rfl
 |some p=>rw[b1]at aK;rw[<-aK];rfl
def at5{r:Nat}{df:Nat->Option F}(Z:(o X).a8<=r)(a:k3 X h P r df){b:Nat}(aj:nD X h b)(az:P b)(aL:(o X).a8<=b)(v:F):
 ∃T,sp X h j 47 (.map r) (.ptr b 0) v=some (.fh bi.undef T j)/\k3 X T P r (λx=>if x=b then some v else df x)/\∀e,e≠r->ab X T e=ab X h e:=by
 obtain⟨dm,eX,Q,U,ar⟩:=a
 have aM:jV X r=true:=kJ Z
 have dD:∀e,nD X h e->e≠r:=λe H J=>by obtain⟨c,n,am,_⟩:=H;rw[J,Q]at am;cases am
 have key:∀(N:List (Nat×F×Nat)) (rP:Nat),(∀x∈N,x.1=b\/∃e∈dm,e.1=x.1)->(∀x∈N,P x.1/\nD X (Go.bi.bn X h r (some (.map (N.map Cn) rP))) x.1):=λN rP iH x ah=>by
  have am:P x.1/\nD X h x.1:=by
   rcases iH x ah with J|⟨e,H,J⟩
   ·rw[J];exact⟨az,aj⟩
   ·rw[<-J];exact ar e H
  exact⟨am.1,am.2.ad (aI Z (dD _ am.2))⟩
 cases ch:lA dm b 0 with
 |none=>
  refine⟨Go.bi.bn X h r (some (.map ((dm++[(b,v,eX)]).map Cn) (eX+1))), ?_,⟨dm++[(b,v,eX)],eX+1,bm Z,λx=> ?_,key _ _ λx ah=> ?_⟩,λe H=>aI Z H⟩
  ·simp only[sp,Q,Ns,eP,Lc aj aL _ _ ar,ch,bi.setObj,aM,eP,g8]
   rw[Yy]
   rfl
  ·rw[ac8 _ _ _ _ _ (by unfold qx;rw[ch];rfl),U]
  ·rcases Zy.1 ah with ah|ah
   ·exact .inr ⟨x,ah,rfl⟩
   ·rw[List.mem_singleton]at ah;exact .inl (by rw[ah])
 |some p=>
  obtain⟨aa,v0⟩:=p
  obtain⟨born,ao8⟩:=XS b dm aa v0 ch
  have aqy:(dm.map Cn)[aa]? =some (.ptr b 0,v0,born):=by rw[Zx,ao8];rfl
  refine⟨Go.bi.bn X h r (some (.map ((dm.set aa (b,v,born)).map Cn) eX)), ?_,⟨dm.set aa (b,v,born),eX,bm Z,λx=> ?_,key _ _ λx ah=> ?_⟩,λe H=>aI Z H⟩
  ·simp only[sp,Q,Ns,eP,Lc aj aL _ _ ar,ch,pL,aqy,asR,bi.setObj,aM,eP,g8]
   rw[List.map_set]
   rfl
  ·rw[ac9 _ _ _ _ _ _ _ ch,U]
  ·rcases YQ ah with ah|ah
   ·exact .inr ⟨x,ah,rfl⟩
   ·exact .inl (by rw[ah])
def mH(X:ck)(h:V an)(r n:Nat):Prop:=∃cb eX,ab X h r=some (.map cb eX)/\cb.length=n
def mH.ad{r n:Nat}(a:mH X h r n)(B:ab X T r=ab X h r):mH X T r n:=by unfold mH;rw[B];exact a
def at6{r n:Nat}{df:Nat->Option F}(Z:(o X).a8<=r)(a:k3 X h P r df)(iH:mH X h r n){b:Nat}(aj:nD X h b)(aL:(o X).a8<=b)(b6:df b=none){v:F}(aD:sp X h j 47 (.map r) (.ptr b 0) v=some (.fh bi.undef T j)):mH X T r (n+1):=by
 obtain⟨dm,eX,Q,U,ar⟩:=a
 obtain⟨cb,rP,b4,b7⟩:=iH
 rw[Q]at b4
 cases b4
 have aM:jV X r=true:=kJ Z
 have aK:=U b
 rw[b6]at aK
 unfold qx at aK
 have ch:lA dm b 0=none:=by
  cases b1:lA dm b 0 with
  |none=>rfl
  |some p=>rw[b1]at aK;cases aK
 simp only[sp,Q,Ns,eP,Lc aj aL _ _ ar,ch,bi.setObj,aM,eP,g8,Zf,d4.fh.injEq]at aD
 obtain⟨_,rfl,_⟩:=aD
 exact⟨_,_,bm Z,by rw[ZM,b7];rfl⟩
mutual
def me(X:ck)(h:V an)(aq:List Go.aU.Node)(t:bk->Option eJ)(df:Nat->Option F)(P d6:Nat->Prop):bE->F->Prop
 | .mk B K nm no ty n args,v=>∃b a6 cH bo row w,v= .ptr b 0/\P b/\ao X h (.ptr b 8)=some a6/\dO X h P cH a6 1 (bo.map λv=>[v])/\rR aq t (.mk B K nm no ty n args)= .ok row/\df b=some w/\w.cells=[w]/\kH X h d6 w row/\kG X h aq t df P d6 args bo
def kG(X:ck)(h:V an)(aq:List Go.aU.Node)(t:bk->Option eJ)(df:Nat->Option F)(P d6:Nat->Prop):List bE->List F->Prop
 |[],bo=>bo=[]
 |J::cb,bo=>∃v ma,bo=v::ma/\me X h aq t df P d6 J v/\kG X h aq t df P d6 cb ma
end
mutual
def me.ad{aq:List Go.aU.Node}{t:bk->Option eJ}{df iO:Nat->Option F}{P d6 qL qQ:Nat->Prop}(B:∀e,P e->ab X T e=ab X h e)(sl:∀e,d6 e->ab X T e=ab X h e)(aC:∀e,P e->iO e=df e)(az:∀e,P e->qL e)(H:∀e,d6 e->qQ e):∀(J:bE) (v:F),me X h aq t df P d6 J v->me X T aq t iO qL qQ J v
 | .mk uY K nm no ty n args,v,a=>by
   rw[me]at a ⊢
   obtain⟨b,a6,cH,bo,row,w,Q,U,ar,aK,bH,cu,dM,fs,jW⟩:=a
   exact⟨b,a6,cH,bo,row,w,Q,az b U,zE (B b U) ar,(aK.ad B).lift az,bH,by rw[aC b U];exact cu,dM,fs.ad sl H,kG.ad B sl aC az H args bo jW⟩
def kG.ad{aq:List Go.aU.Node}{t:bk->Option eJ}{df iO:Nat->Option F}{P d6 qL qQ:Nat->Prop}(B:∀e,P e->ab X T e=ab X h e)(sl:∀e,d6 e->ab X T e=ab X h e)(aC:∀e,P e->iO e=df e)(az:∀e,P e->qL e)(H:∀e,d6 e->qQ e):∀(cb:List bE) (bo:List F),kG X h aq t df P d6 cb bo->kG X T aq t iO qL qQ cb bo
 |[],bo,a=>by rw[kG]at a ⊢;exact a
 |J::cb,bo,a=>by
  rw[kG]at a ⊢
  obtain⟨v,ma,Q,U,ar⟩:=a
  exact⟨v,ma,Q,me.ad B sl aC az H J v U,kG.ad B sl aC az H cb ma ar⟩
end
end
def XH(aq:List Go.aU.Node)(t:bk->Option eJ)(J:bE):rR aq t J=(match po aq t J.args with
 | .error K=> .error K
 | .ok (b8,one)=>if one=false then .error J.at_ else if (j6 aq t J b8).2=false then .error J.at_ else .ok (j6 aq t J b8).1):=by
 cases J;rw[rR];rfl
section
variable{X:ck}{h T a2 aS:V an}{j au aO bg:Nat}{P d6:Nat->Prop}
def me.mk'{aq:List Go.aU.Node}{t:bk->Option eJ}{df:Nat->Option F}{J:bE}{b cH:Nat}{a6 w:F}{bo:List F}{row:List d9}(U:P b)(ar:ao X h (.ptr b 8)=some a6)(aK:dO X h P cH a6 1 (bo.map λv=>[v]))(bH:rR aq t J= .ok row)(cu:df b=some w)(dM:w.cells=[w])(fs:kH X h d6 w row)(jW:kG X h aq t df P d6 J.args bo):me X h aq t df P d6 J (.ptr b 0):=by
 cases J
 rw[me]
 exact⟨b,a6,cH,bo,row,w,rfl,U,ar,aK,bH,cu,dM,fs,jW⟩
def kG.snoc{aq:List Go.aU.Node}{t:bk->Option eJ}{df:Nat->Option F}{J:bE}{v:F}(B:me X h aq t df P d6 J v):∀{cb:List bE}{bo:List F},kG X h aq t df P d6 cb bo->kG X h aq t df P d6 (cb++[J]) (bo++[v]):=by
 intro cb
 induction cb with
 |nil=>intro bo a;rw[kG]at a;subst a;rw[YH,kG];exact⟨v,[],rfl,B,by rw[kG]⟩
 |cons K cb ak=>
  intro bo a
  rw[kG]at a
  obtain⟨Kb,ayq,rfl,U,ar⟩:=a
  rw[YO,kG]
  exact⟨Kb,ayq++[v],rfl,U,ak ar⟩
def adJ:∀{J:bE}{v:F},cO X h P J v->∃b a6 cH bo,v= .ptr b 0/\P b/\nD X h b/\ao X h (.ptr b 1)=some (.Z J.at_)/\ao X h (.ptr b 8)=some a6/\dO X h P cH a6 1 (bo.map λv=>[v])/\dw X h (λe=>P e/\e≠b) J.args bo
 | .mk ..,_,a=>by
   unfold cO at a
   obtain⟨b,Q,bC,bl,U,ar,aK,bH,cu,dM,fs,jW,a6,cH,bo,rW,uo,r0,ye⟩:=a
   exact⟨b,a6,cH,bo,Q,bC,bl,ar,rW,uo,dw.lift (λe H=>⟨H.1,H.2.1⟩) _ _ ye⟩
structure vX(X:ck)(h:V an)(fE:Nat)(P:Nat->Prop)(b0 am r:Nat)(cW p:F)(aq:List Go.aU.Node)(t:bk->Option eJ):Prop where
 a8:(o X).a8<=fE
 lc:b0<fE
 F7:am<fE
 Bm:r<fE
 Gk:(o X).a8<=r
 Ce:b0≠r
 qr:am≠r
 bC:∀e,P e->(o X).a8<=e/\e<fE/\e≠r
 HN:∃c,ab X h b0=some (.cells c 3 .own)/\c.get 0=some (.ptr am 0)/\c.get 1=some p/\c.get 2=some cW
 D3:ao X h (.ptr am 0)=some (.map r)
 vC:rJ X h P cW t
 prog:nE X h P aq p
def vX.EI{fE b0 am r:Nat}{cW p:F}{aq:List Go.aU.Node}{t:bk->Option eJ}(a:vX X h fE P b0 am r cW p aq t):Ea X h b0 (.ptr am 0) p cW:=by
 obtain⟨c,b6,Q,U,ar⟩:=a.HN
 exact⟨by rw[bR b6];exact Q,by rw[bR b6];exact U,by rw[bR b6];exact ar⟩
def vX.ad{fE b0 am r:Nat}{cW p:F}{aq:List Go.aU.Node}{t:bk->Option eJ}(a:vX X h fE P b0 am r cW p aq t)(B:∀e,e<fE->e≠r->ab X T e=ab X h e):vX X T fE P b0 am r cW p aq t:=
 have acQ:∀e,P e->ab X T e=ab X h e:=λe H=>B e (a.bC e H).2.1 (a.bC e H).2.2
 ⟨a.a8,a.lc,a.F7,a.Bm,a.Gk,a.Ce,a.qr,a.bC,by rw[B b0 a.lc a.Ce];exact a.HN,zE (B am a.F7 a.qr) a.D3,a.vC.ad acQ (λ_ a=>a),a.prog.ad acQ (λ_ a=>a)⟩
def vX.fr{fE b0 am r:Nat}{cW p:F}{aq:List Go.aU.Node}{t:bk->Option eJ}(a:vX X h fE P b0 am r cW p aq t)(gj:ca X [r] h j T au)(aL:fE<=j):vX X T fE P b0 am r cW p aq t:=
 a.ad λe Q U=>gj.ad e Zo (by simp[U])
def afX(n:Nat)(X:ck)(h:V an)(j:Nat)(bv:Nat->Prop)(r:Nat)(aq:List Go.aU.Node)(t:bk->Option eJ)(df:Nat->Option F)(bu:Nat->Prop)(J:bE)(v:F):bI:=λae T au=>∃row iO,rR aq t J= .ok row/\ae.cells=[ae]/\kH X T (da j au) ae row/\k3 X T bv r iO/\(∀e,¬bu e->iO e=df e)/\me X T aq t iO bu (da j au) J v/\ca X [r] h j T au/\mH X T r (n+Cc J)
def afW(X:ck)(h:V an)(j r:Nat)(aq:List Go.aU.Node)(t:bk->Option eJ)(J:bE):bI:=λae T au=>∃K,rR aq t J= .error K/\ae=oB 26 K/\ca X [r] h j T au
set_option maxRecDepth 100000 in
def amA(aA:dz X)(ew:Ec X){aq:List Go.aU.Node}{t:bk->Option eJ}{b0 am r fE:Nat}{p cW:F}(b6:aq≠[])(bp:∀g∈aq,g.eG.length<=100000/\g.out.length<=100000){bv:Nat->Prop}(wA:∀e,bv e->P e):
 ∀(N:Nat) (J:bE),SizeOf.sizeOf J<N->fj ln J->∀(bu:Nat->Prop) (v:F) (h:V an) (j:Nat) (df:Nat->Option F) (n:Nat),(∀e,bu e->bv e)->fE<=j->vX X h fE P b0 am r cW p aq t->k3 X h bv r df->cO X h bu J v->mH X h r n->(∀e,bu e->df e=none)->
  aW X 131 [.ptr b0 0,v] h j (afX n X h j bv r aq t df bu J v) (afW X h j r aq t J):=by
 intro N
 induction N with
 |zero=>intro J a;omega
 |succ N ak=>
  intro J iH MN bu v h j df n Fa aL bT pB bx QC pG
  have fZ:∀e,bu e->P e:=λe H=>wA e (Fa e H)
  have aci:=MN
  rw[fj.eq]at aci
  obtain⟨bJ,yF⟩:=aci
  refine zA aA (agz X) ?_
  rw[agA]
  unfold Um
  obtain⟨b,a6,cH,bo,rfl,aj,wW,bh,iU,cC,has⟩:=adJ bx
  have gU:=bT.a8
  have bC:=bT.bC
  have nd:=bC b (fZ b aj)
  have eD:=cC.len
  have A5:=has.len
  rw[Zn,A5]at eD
  have mj:J.args.length<=300000:=by have:=cC.many;rw[Zn,A5]at this;exact this
  refine cV @iU @eD ⟨?_⟩
  refine fU (λm M T aV=>∃(aa:Nat) (s:F) (cK:List Nat) (xJ:List d9) (GI:Bool) (iO:Nat->Option F) (pn:Nat->Prop),M.g 0=some (.ptr b0 0)/\M.g 1=some (.ptr b 0)/\M.g 5=some s/\M.g 6=some (.bool GI)/\M.g 15=some a6/\M.g 16=some (.Z (J.args.length:Int))/\M.g 17=some (.Z (aa:Int))/\aa+m=J.args.length
   /\gI X T s 3 (mC xJ).flatten cK/\(∀e∈cK,j<=e/\e<aV)/\(GI=true->xJ.length=aa)/\xJ.length<=aa
   /\po aq t J.args=(match po aq t (J.args.drop aa)with| .error K=> .error K| .ok (b8,one)=> .ok (xJ++b8,GI&&one))
   /\k3 X T bv r iO/\(∀e,¬bu e->iO e=df e)/\iO b=df b/\ca X [r] h j T aV
   /\(∀e,pn e->bu e/\e≠b)/\dw X T pn (J.args.drop aa) (bo.drop aa)/\kG X T aq t iO (λe=>(bu e/\e≠b)/\¬pn e) (λe=>da j aV e/\e∉cK) (J.args.take aa) (bo.take aa)/\mH X T r (n+sW (J.args.take aa))/\∀e,pn e->iO e=none)
   J.args.length ⟨0, .aP,[],[],true,df,λe=>bu e/\e≠b,bw,bw,bw,bw,bw,bw,gc,Zo, .inl (.inl ⟨rfl,rfl,rfl⟩),Zs,λ_=>rfl,Zi _,by
    rw[Z2];cases po aq t J.args with
    |error K=>rfl
    |ok x=>obtain⟨b8,one⟩:=x;simp,pB,λ_ _=>rfl,rfl,ca.refl _ _ _,λ_ a=>a,by simpa using has,by rw[ZZ,ZZ,kG],by rw[ZZ,alg];exact QC,λe H=>pG e H.1⟩ ?_
  rintro m M aS bg ⟨aa,s,cK,xJ,GI,Jp,pn,t0,t1,t5,fM,vA,yX,BJ,bG,aD,fz,tl,azB,mP,aas,Fo,Rk,du,yj,ti,A4,aau,Iv⟩
  have ge:=du.le
  have bK:=bT.fr du aL
  have n1:∀e,P e->ab X aS e=ab X h e:=λe H=>by have:=bC e H;exact du.ad e Zo (by simp[this.2.2])
  have abH:=wW.ad (n1 b (fZ b aj))
  cases m with
  |zero=>
   have d:=zu aa J.args.length
   have ap5:aa=J.args.length:=Zo
   rw[ZN Zo,po]at mP
   simp only[Yz,Yv]at mP
   have nY:=XH aq t J
   rw[mP]at nY
   simp only[]at nY
   have ajN:ao X aS (.ptr b 1)=some (.Z J.at_):=zE (n1 b (fZ b aj)) bh
   cases GI with
   |false=>
    rw[Zq rfl]at nY
    refine iZ @BJ @yX @d @fM @t1 @ajN ⟨?_⟩
    refine(HI aA Zo J.at_).mono (λ_ _ _ a=>a) ?_
    rintro ae bb bs ⟨rfl,cq⟩
    exact⟨_,nY,rfl,du.trans (ca.of cq)⟩
   |true=>
    rw[Zg Zd]at nY
    have aoK:∀e,(P e\/(j<=e/\e<bg))->e<bg:=λe H=>by
     rcases H with a|a
     ·have:=bC e a;omega
     ·exact a.2
    refine e7 @BJ @yX @d @fM @t0 @t1 @t5 ⟨?_⟩
    refine(awu (P:=λe=>P e\/(j<=e/\e<bg)) aA ew Zo (zt bT.lc) bK.EI (bK.vC.ad (λ_ _=>rfl) (λe a=> .inl a)) (bK.prog.ad (λ_ _=>rfl) (λe a=> .inl a)) b6 aoK bp (cO.lift (λe H=> .inl (fZ e H)) _ _ (cO.ad (λe H=>n1 e (fZ e H)) _ _ bx)) bJ (tl rfl▸ap5) aD Zo (λe H=> .inr (fz e H))).Zm ?_
    rintro ae bb bs ⟨w,rfl,si,Da,cq⟩
    have iL:=cq.le
    have ea:=du.trans (ca.of (X:=[r]) cq)
    have aab:=bT.fr ea aL
    have lb:∀e,P e->ab X bb e=ab X h e:=λe H=>by have:=bC e H;exact ea.ad e Zo (by simp[this.2.2])
    cases gL:(j6 aq t J xJ).2 with
    |false=>
     rw[Zq gL]at nY
     have Kx:ao X bb (.ptr b 1)=some (.Z J.at_):=zE (lb b (fZ b aj)) bh
     refine cV @t1 @Kx ⟨?_⟩
     refine(HI aA Zo J.at_).mono (λ_ _ _ a=>a) ?_
     rintro ae bF c7 ⟨rfl,dv⟩
     exact⟨_,nY,rfl,ea.trans (ca.of dv)⟩
    |true=>
     rw[Zg (by rw[gL];decide)]at nY
     have d7:=aab.EI.d7
     have D3:=aab.D3
     refine gt @t0 @t1 @d7 @D3 ⟨?_⟩
     have AM:k3 X bb bv r Jp:=aas.ad (cq.ad r (zt bT.Bm)) (λe H=>cq.ad e (zt (bC e (wA e H))))
     obtain⟨bF,bn,QA,ec⟩:=at5 (j:=bs) bT.Gk AM (abH.ad (cq.ad b Zo)) (Fa b aj) nd.1 w
     have LM:=at6 bT.Gk AM (aau.ad (cq.ad r (zt bT.Bm))) (abH.ad (cq.ad b Zo)) nd.1 (by rw[Rk];exact pG b aj) bn
     rw[ZC Zo]at LM
     refine ki bn ?_
     refine cL ⟨?_⟩
     have eC:ca X [r] h j bF bs:=⟨ea.le,λe Q U=>by rw[ec e (by simpa using U)];exact ea.ad e Q U⟩
     have ld:∀e,P e->ab X bF e=ab X h e:=λe H=>by have:=bC e H;exact eC.ad e Zo (by simp[this.2.2])
     have M0:∀e,j<=e->e<bs->ab X bF e=ab X bb e:=λe Q U=>ec e (zt bT.Bm)
     rw[ZC Zo,ZC Zo]at A4
     have ace:kH X bF (da j bs) w (j6 aq t J xJ).1:=Da.ad (λe H=>M0 e (zt H.1) H.2) (λe H=>⟨zt H.1,H.2⟩)
     refine⟨_,_,nY,si,ace,QA,λe H=> ?_,me.mk' aj (zE (ld b (fZ b aj)) iU) (cC.ad λe H=>ld e (fZ e H)) nY Zs si ace (kG.ad (λe H=> ?_) (λe H=> ?_) (λe H=> ?_) (λe H=>H.1.1) (λe H=>⟨H.1.1,zt H.1.2⟩) _ _ A4),eC,by rw[alf];exact LM⟩
     ·have:e≠b:=λJ=>H (J▸aj)
      simp only[this,ZA];exact Fo e H
     ·rw[ld e (fZ e H.1.1),n1 e (fZ e H.1.1)]
     ·rw[M0 e H.1.1 (zt H.1.2),cq.ad e H.1.2]
     ·simp only[H.1.2,ZA]
  |succ m=>
   have d:=zv aa J.args.length
   have bD:=zy aa
   obtain⟨K,aE⟩:=zw J.args aa
   have aM:J.args.drop aa=K::J.args.drop (aa+1):=by
    obtain⟨ah,H⟩:=Zb.1 aE
    rw[Zv ah,H]
   rw[aM]at ti mP
   unfold dw at ti
   obtain⟨w,ma,y,ML,AO,Is,Q4⟩:=ti
   have RV:bo[aa]? =some w:=by
    have:(bo.drop aa)[0]? =some w:=by rw[ML];rfl
    simpa using this
   have arU:ma=bo.drop (aa+1):=by
    obtain⟨ah,H⟩:=Zb.1 RV
    rw[Zv ah]at ML
    simp only[Yw]at ML
    exact ML.2.symm
   subst arU
   obtain⟨b4,b7,cN⟩:=(cC.ad λe H=>n1 e (fZ e H)).one RV
   have mr:J.args.take (aa+1)=J.args.take aa++[K]:=by rw[Z5,aE];rfl
   have acd:bo.take (aa+1)=bo.take aa++[w]:=by rw[Z5,RV];rfl
   have eN:=aeE (Zl aE)
   have qf:∀e,y e->bu e/\e≠b:=λe H=>yj e (AO e H)
   rw[po]at mP
   refine e7 @BJ @yX @vA @t0 @d @b4 @b7 ⟨?_⟩
   refine(ak K Zo (afq yF (Zl aE)) y w aS bg Jp (n+sW (J.args.take aa)) (λe H=>Fa e (qf e H).1) Zo bK aas Is aau (λe H=>Iv e (AO e H))).mono ?_ (λae T aV a=>by
    obtain⟨fN,Q,U,ar⟩:=a
    rw[Q]at mP
    simp only[]at mP
    exact⟨fN,by rw[XH,mP],U,du.trans ar⟩)
   rintro ae bb bs ⟨row,Su,ft,w2,IZ,AM,CQ,acc,ea,LL⟩
   have iL:=ea.le
   have aal:=du.trans ea
   rw[ft]at mP
   simp only[]at mP
   have aqh:=bT.Bm
   have MZ:∀e,j<=e->e<bg->ab X bb e=ab X aS e:=λe Q U=>ea.ad e U (by simp;omega)
   have lb:∀e,P e->ab X bb e=ab X aS e:=λe H=>by have:=bC e H;exact ea.ad e Zo (by simp[this.2.2])
   have LV:Su b=Jp b:=CQ b (λa=>(qf b a).2 rfl)
   have w0:dw X bb (λe=>pn e/\¬y e) (J.args.drop (aa+1)) (bo.drop (aa+1)):=dw.ad (λe H=>lb e (fZ e (yj e H.1).1)) _ _ Q4
   by_cases fD:row.length=1
   ·obtain⟨x,rfl⟩:∃x,row=[x]:=by
     match row,fD with
     |[x],_=>exact⟨x,rfl⟩
    obtain⟨ef,rn,ht,gg,i3,i4⟩:=IZ.rd.f2 0 x rfl
    have ht:dW 3 ae (.Z 0)=some (.ptr ef rn):=ht
    have Rn:dX ae=some (.Z 1):=IZ.rd.len
    have aG:decide ((1:Int)≠1)=false:=by decide
    simp only[]at mP
    refine iZ @Rn @aG @t5 @ht @i3 eF.eq_1 ⟨?_⟩
    generalize fl:Go.bi.bn X bb bs _=bF
    have ej:ab X bF bs=zx (eF x) 3:=by rw[<-fl,bm Zo];rfl
    have ec:∀e,e<bs->ab X bF e=ab X bb e:=λe H=>by rw[<-fl,aI Zo Zo]
    clear fl
    obtain⟨fo,bX,gR,iK,C6,yn,mm⟩:=TM (j:=bs+1) (aD.ad (T:=bF) (λe H=>by have:=fz e H;rw[ec e Zo,MZ e this.1 this.2])) ej Zo Zo (λe H=>zt (fz e H)) 1
    refine ki iK ?_
    refine cV @BJ @bD ⟨?_⟩
    have eU:∀e,e<bs->e∉cK->ab X bX e=ab X bb e:=λe Q U=>by rw[mm e Zo U,ec e Q]
    have Dj:∀e,e<j->e∉cK:=λe Q U=>zt (fz e U)
    refine⟨m,Zo,aa+1,fo,gR,xJ++[x],GI,Su,λe=>pn e/\¬y e,bf t0,bf t1,bw,bf fM,bf vA,bf yX,bw,Zo,C6,λe H=> ?_,λa=>by have:=tl a;simp;omega,by simp;omega, ?_, ?_,λe H=> ?_,by rw[LV];exact Rk, ?_,λe H=>yj e H.1, ?_, ?_,by rw[mr,WW, <-ZJ];exact LL.ad (eU r Zo (Dj r Zo)),λe H=>(CQ e H.2).trans (Iv e H.1)⟩
    ·rcases yn e H with rfl|a
     ·omega
     ·have:=fz e a;omega
    ·rw[mP]
     cases po aq t (J.args.drop (aa+1))with
     |error K=>rfl
     |ok p=>obtain⟨b8,one⟩:=p;simp
    ·exact AM.ad (eU r Zo (Dj r Zo)) (λe H=>by have:=bC e (wA e H);exact eU e Zo (Dj e Zo))
    ·exact(CQ e (λa=>H (qf e a).1)).trans (Fo e H)
    ·exact⟨Zo,λe Q U=>by rw[eU e Zo (Dj e Q)];exact aal.ad e Q U⟩
    ·exact dw.ad (λe H=>by have:=bC e (fZ e (yj e H.1).1);exact eU e Zo (Dj e Zo)) _ _ w0
    ·have aoD:∀e,bg<=e->e<bs->e∉gR:=λe Q U a=>by
      rcases yn e a with rfl|a
      ·omega
      ·have:=fz e a;omega
     have aoE:∀e,e<bg->e∉cK->e∉gR:=λe Q U a=>by
      rcases yn e a with rfl|a
      ·omega
      ·exact U a
     have asF:∀e,(bu e/\e≠b)/\¬pn e->ab X bX e=ab X aS e:=λe H=>by
      have:=bC e (fZ e H.1.1)
      rw[eU e Zo (Dj e Zo),lb e (fZ e H.1.1)]
     have asG:∀e,da j bg e/\e∉cK->ab X bX e=ab X aS e:=λe H=>by
      have Q:=H.1.1;have U:=H.1.2
      rw[eU e Zo H.2,MZ e Q U]
     have asH:∀e,y e->ab X bX e=ab X bb e:=λe H=>by
      have:=bC e (fZ e (qf e H).1);exact eU e Zo (Dj e Zo)
     have asI:∀e,da bg bs e->ab X bX e=ab X bb e:=λe H=>eU e H.2 (λa=>by have:=fz e a;have:=H.1;omega)
     rw[mr,acd]
     exact kG.snoc (me.ad asH asI (λ_ _=>rfl) (λe H=>⟨qf e H,λa=>a.2 H⟩) (λe H=>⟨⟨zt H.1,zt H.2⟩,aoD e H.1 H.2⟩) K w acc) (kG.ad asF asG (λe H=>CQ e (λa=>H.2 (AO e a))) (λe H=>⟨H.1,λa=>H.2 a.1⟩) (λe H=>⟨⟨H.1.1,zt H.1.2⟩,aoE e H.1.2 H.2⟩) _ _ A4)
   ·have Rn:=IZ.rd.len
    have aG:decide ((row.length:Int)≠1)=true:=by simp only[Zh];omega
    refine gt @Rn @aG @BJ @bD ⟨?_⟩
    refine⟨m,Zo,aa+1,s,cK,xJ,false,Su,λe=>pn e/\¬y e,bf t0,bf t1,bf t5,bw,bf vA,bf yX,bw,Zo,aD.ad (λe H=>by have:=fz e H;exact MZ e this.1 this.2),λe H=>zt (fz e H),(λa=>by cases a),Zo, ?_,AM,λe H=>(CQ e (λa=>H (qf e a).1)).trans (Fo e H),by rw[LV];exact Rk,aal,λe H=>yj e H.1,w0, ?_,by rw[mr,WW, <-ZJ];exact LL,λe H=>(CQ e H.2).trans (Iv e H.1)⟩
    ·rw[mP]
     cases po aq t (J.args.drop (aa+1))with
     |error K=>rfl
     |ok p=>
      obtain⟨b8,one⟩:=p
      match row,fD with
      |[],_=>simp
      |[_],a=>exact absurd rfl a
      |_::_::_,_=>simp
    ·rw[mr,acd]
     exact kG.snoc (me.ad (λ_ _=>rfl) (λ_ _=>rfl) (λ_ _=>rfl) (λe H=>⟨qf e H,λa=>a.2 H⟩) (λe H=>⟨⟨zt H.1,H.2⟩,λa=>by have:=fz e a;have:=H.1;omega⟩) K w acc) (kG.ad (λe H=>lb e (fZ e H.1.1)) (λe H=>MZ e H.1.1 H.1.2) (λe H=>CQ e (λa=>H.2 (AO e a))) (λe H=>⟨H.1,λa=>H.2 a.1⟩) (λe H=>⟨⟨H.1.1,zt H.1.2⟩,H.2⟩) _ _ A4)
end
end
end Go.Proofs.YtpfajohmofnkfaaGreatDoor

