/- A part of the last text's proof; no condition of its own -/
import Derived.Test.YtpfajohmofnkfaaGreatDoorYj
set_option maxHeartbeats 8000000
set_option linter.all false
namespace Go.Proofs.YtpfajohmofnkfaaGreatDoor
open Go.bi
noncomputable section
variable (X : ck) (h : V an) (j : Nat) (ai ay : bI) (a0 bh cl a3 a4 a5 hB hY iU : F)
def UR(a:aZ)(b c:F)(d:V an)(e:Nat)(f g:bI):Prop:=
 E (dn a d .eql 47 true b .cz) λh=>hh h c d e (λd e i=>hh h b e i (λe i j=>kd h (λb=>jn a d [e] i j b g) i j (λd e i=>dp h (fG .not d) e i (λd e i=>dd (λd=>aY (λb c d=>al (b 0) λe=>E (cm e) λe=>E (ba 8 e) λe=>E (ao a c e) λe=>E (dX e) λh=>aY (λ_ a b=>f (.tuple []) a b) λf=>fJ (λb c d e=>al (c 19) λh=>al (c 18) λi=>E (aF .lss h i) λh=>aY (λc d e=>aY (λa c d=>al (a 19) λe=>E (aF .add e (.Z 1)) λe=>b (ac a 19 e) c d) λb=>al (c 17) λf=>al (c 19) λh=>E (dW 1 f h) λf=>E (ao a d f) λf=>al (c 1) λh=>aW a 18 [f,h] d e (λ_ a d=>b (ac c 5 f) a d) g) λa=>a7 h (a (ac c 20 h) d e) (f (ac c 20 h) d e)) (zC b 17 e 18 h 19 (.Z 0)) c d) λa=>a7 d (f (.tuple []) e i) (a (ac (cS [b,c]) 13 d) e i)) λa=>a7 h (a (.bool true)) (a d)))))
def ahI:dh X 18 [a0,bh] h j ai ay=UR X a0 bh h j ai ay:=Zk
def ahH:cU X 18 2=true:=Zk
def U4(a:aZ)(b:F)(c:V an)(d:Nat)(e f:bI):Prop:=
 E (dT [(.Z 0),(.Z 0)] d) λg=>cQ a c d g.1 g.2 λc d g=>aW a 40 [b] d g (λd g h=>E (aF .neq d (.Z 0)) λd=>aY (λb c d=>al (b 0) λg=>E (cm g) λg=>E (ba 0 g) λg=>E (ao a c g) λg=>E (dX g) λh=>aY (λb c d=>E (eB [(.Z 0),(.Z 0)] []) λf=>al (b 2) λg=>E (ce a c 2 g f) λc=>al (b 2) λb=>E (cg a c 2 b) λa=>e a c d) λi=>fJ (λb c d g=>al (c 15) λh=>al (c 14) λj=>E (aF .lss h j) λh=>aY (λc d g=>aY (λa c d=>al (a 15) λe=>E (aF .add e (.Z 1)) λe=>b (ac a 15 e) c d) λb=>al (c 15) λh=>al (c 13) λi=>al (c 15) λj=>E (dW 6 i j) λi=>E (cg a d 6 i) λi=>E (dT [(.str []),(.Z 0), .aP, .aP, .aP, .aP] g) λj=>cQ a d g j.1 j.2 λd g j=>E (ce a g 6 d i) λg=>al (c 0) λi=>E (cg a g 6 d) λk=>aW a 32 [k] g j (λg j k=>cQ a j k (.map k) (.map [] 0) λj k l=>E (eB [.cz,(.Z 0), .cz, .lf,(.Z 0),(.Z 0)] [(0,1,i),(1,1,h),(2,1,g),(3,1,j)]) λg=>ip a k l g λg i j=>aW a 71 [g] i j (λ_ f i=>E (cm g) λj=>E (ba 4 j) λj=>E (ba 0 j) λj=>E (ao a f j) λj=>E (aF .neq j (.Z 0)) λj=>aY b λb=>a7 j (E (cm g) λb=>E (ba 4 b) λb=>E (cg a f 2 b) λb=>al (c 2) λd=>E (ce a f 2 d b) λb=>al (c 2) λc=>E (cg a b 2 c) λa=>e a b i) (b (zD c 4 d 3 h 5 g 34 j) f i)) f) f) λa=>a7 h (a (ac c 16 h) d g) (i (ac c 16 h) d g)) (zC b 13 g 14 h 15 (.Z 0)) c d) λf=>a7 d (E (eB [(.Z 0),(.Z 0)] [(0,1,(.Z 1))]) λb=>E (ce a g 2 c b) λb=>E (cg a b 2 c) λa=>e a b h) (f (zB (cS [b]) 2 c 8 d) g h)) f
def aic:dh X 20 [a0] h j ai ay=U4 X a0 h j ai ay:=Zk
def aib:cU X 20 1=true:=Zk
def VH(a:aZ)(b:F)(c:V an)(d:Nat)(e f:bI):Prop:=
 E (dn a c .eql 23 true b .cz) λg=>hh g b c d (λc d h=>dp g (cm c) d h (λc d h=>dp g (ba 0 c) d h (λc d h=>dp g (ao a d c) d h (λc d h=>dp g (dX c) d h (λc d h=>dp g (aF .eql c (.Z 0)) d h (λc d h=>dd (λc=>hh c b d h (λd g h=>dp c (cm d) g h (λd g h=>dp c (ba 0 d) g h (λd g h=>dp c (ao a g d) g h (λd g h=>dp c (dX d) g h (λd g h=>dp c (aF .gtr d (.Z 64)) g h (λd g h=>dd (λc=>aY (λb c d=>al (b 0) λg=>E (cm g) λg=>E (ba 0 g) λg=>E (ao a c g) λg=>E (dX g) λh=>aY (λa b c=>al (a 3) λa=>e a b c) λi=>fJ (λb c d g=>al (c 30) λh=>al (c 29) λj=>E (aF .lss h j) λh=>aY (λc d g=>aY (λa c d=>al (a 30) λe=>E (aF .add e (.Z 1)) λe=>b (ac a 30 e) c d) λb=>al (c 28) λh=>al (c 30) λi=>E (dW 6 h i) λh=>E (cg a d 6 h) λh=>E (dT [(.str []),(.Z 0), .aP, .aP, .aP, .aP] g) λi=>cQ a d g i.1 i.2 λd g i=>E (ce a g 6 d h) λg=>E (cg a g 6 d) λh=>aW a 92 [h] g i (λa f g=>aY b λb=>E (aF .eql a (.Z 1)) λh=>aY b λb=>a7 h (e a f g) (E (aF .eql a (.Z 22)) λe=>aY b λb=>a7 e (b (zB (zD c 5 d 6 a 36 a 37 h) 40 e 3 a) f g) (b (ac (zD c 5 d 6 a 36 a 37 h) 40 e) f g))) f) λa=>a7 h (a (ac c 31 h) d g) (i (ac c 31 h) d g)) (zD b 3 (.Z 0) 28 g 29 h 30 (.Z 0)) c d) λa=>a7 c (e (.Z 1) g h) (a (zB (cS [b]) 2 (.Z 0) 24 c) g h)) λa=>a7 c (a (.bool true)) (a d)))))))) λa=>a7 g (a (.bool true)) (a c)))))))
def ai8:dh X 40 [a0] h j ai ay=VH X a0 h j ai ay:=Zk
def ai7:cU X 40 1=true:=Zk
def aer(a:aZ)(b:bI):gs:=λc d e=>mZ a [] b c c.bd d e
def DI(a:aZ)(b c:bI):rH:=λd e f g=>vm a [] b c d e d.bd f g
def VS(a:aZ)(b:F)(c:V an)(d:Nat)(e f:bI):Prop:=
 ip a c d b λc d g=>eV (g+15) λh=>E (ao a d c) λi=>E (cm i) λi=>E (ba 0 i) λi=>E (ao a d i) λi=>E (cm i) λi=>E (ba 0 i) λi=>E (ao a d i) λi=>E (ao a d c) λj=>E (cm j) λj=>E (ba 1 j) λj=>E (ao a d j) λj=>E (dW 6 i j) λi=>E (cg a d 6 i) λi=>E (dT [(.str []),(.Z 0), .aP, .aP, .aP, .aP] (g+13)) λj=>kU a d (g+13) j.1 j.2 λd g=>E (ce a g 6 d i) λg=>eV (h+12) λh=>E (ao a g c) λi=>E (cm i) λi=>E (ba 0 i) λi=>E (ao a g i) λi=>E (ba 0 d) λj=>E (ao a g j) λj=>aW a 79 [i,j] g h (λg h i=>E (cM 0 g) λj=>E (cM 1 g) λ_=>E (ao a h c) λg=>E (cm g) λg=>E (ba 1 g) λg=>E (ao a h g) λg=>E (aF .lss j g) λg=>aY (λb c d=>al (b 1) λg=>E (ao a c g) λg=>al (b 2) λh=>E (cg a c 6 h) λh=>aW a 120 [g,h] c d (λ_ c d=>al (b 2) λg=>E (ba 5 g) λg=>E (ao a c g) λg=>E (dX g) λh=>aY (λb c d=>al (b 2) λg=>E (cg a c 6 g) λg=>aW a 78 [g] c d (λc d g=>aY (λb c d=>aer a e b c d) λh=>DL a 103 c [85,86] (sz a (λ_ _ b _ _ c d e=>al (c 85) λf=>E (dT [(.str []),(.Z 0),(.bool false),(.bool false),(.Z 0),(.str []),(.Z 0),(.bool false)] e) λg=>cQ a d e g.1 g.2 λd e g=>al (c 86) λh=>E (ce a e 8 d h) λa=>b (zB c 10 f 11 d) a g) (λ_ b c _ _ d e f=>aY c λc=>eV (f+12) λf=>al (d 10) λg=>E (aF .neq g (.Z 1)) λg=>R3 g (d 1) (λb=>ao a e b) e (λe h=>gv g (cm e) h (λe h=>gv g (ba 3 e) h (λe h=>gv g (ao a h e) h (λe h=>R3 g (d 11) (λa=>ba 0 a) h (λh i=>gv g (ao a i h) i (λh i=>gv g (kr a i 9 (.Z 0) e h false) i (λe h=>gv g (aF .eql e (.Z 0)) h (λe h=>dd (λe=>aY c λc=>a7 e (al (d 1) λg=>E (ao a h g) λg=>al (d 11) λi=>E (ba 1 i) λi=>E (ao a h i) λi=>aW a 119 [g,(.Z 37),i] h f (λ_ a b=>c (ac d 98 e) a b) (b (hE [99,100,101,102] (ac d 98 e)))) (c (ac d 98 e) h f)) λa=>a7 g (a e) (a (.bool false)))))))))))) h (Co 4 h (λ_ _ _ _=>False)) (aer a e) (DI a e f) (ac b 84 c) d g) (DI a e f (hE [83,84] b))) λi=>fJ (λb c d g=>al (c 51) λh=>al (c 50) λj=>E (aF .lss h j) λh=>aY (λc d g=>aY (λa c d=>al (a 51) λe=>E (aF .add e (.Z 1)) λe=>b (ac a 51 e) c d) λb=>al (c 49) λh=>al (c 51) λi=>E (dW 4 h i) λh=>E (cg a d 4 h) λh=>E (dT [.aP, .aP,(.Z 0), .cz] g) λi=>cQ a d g i.1 i.2 λd g i=>E (ce a g 4 d h) λg=>E (ba 0 d) λh=>E (ao a g h) λh=>E (dX h) λj=>aY (λc d g=>al (c 1) λh=>E (ao a d h) λh=>al (c 6) λi=>E (ba 3 i) λi=>E (ao a d i) λi=>aW a 122 [h,i] d g (λ_ a d=>b c a d) (DI a e f (hE [78,79,80,81] c))) λb=>fJ (λc d g h=>al (d 58) λi=>al (d 57) λj=>E (aF .lss i j) λi=>aY (λb d g=>aY (λa b d=>al (a 58) λe=>E (aF .add e (.Z 1)) λe=>c (ac a 58 e) b d) λc=>al (b 58) λh=>al (b 56) λi=>al (b 58) λj=>E (dW 1 i j) λi=>E (ao a d i) λi=>al (b 6) λj=>E (ba 1 j) λj=>E (ao a d j) λj=>E (dX j) λj=>E (aF .lss h j) λj=>aY (λb d g=>al (b 1) λh=>E (ao a d h) λh=>al (b 8) λi=>al (b 9) λj=>aW a 121 [h,i,j] d g (λ_ a d=>c b a d) (DI a e f (hE [73,74,75,76] b))) λc=>a7 j (al (b 6) λe=>E (ba 1 e) λe=>E (ao a d e) λe=>E (dW 1 e h) λe=>E (ao a d e) λa=>c (ac (zD b 7 h 8 i 9 (.Z 0) 67 j) 9 a) d g) (c (zD b 7 h 8 i 9 (.Z 0) 67 j) d g)) λa=>a7 i (a (ac d 59 i) g h) (b (ac d 59 i) g h)) (zD c 6 d 56 h 57 j 58 (.Z 0)) g i) λa=>a7 h (a (ac c 52 h) d g) (i (ac c 52 h) d g)) (zC b 49 g 50 h 51 (.Z 0)) c d) (DI a e f (hE [45,46,47] b))) λk=>a7 g (E (ao a h c) λl=>E (ba 1 d) λm=>E (ao a h m) λm=>aW a 119 [l,(.Z 24),m] h i (λ_ a e=>k (zD (cS [b]) 1 c 2 d 3 j 40 g) a e) (DI a e f (hE [41,42,43,44] (zD (cS [b]) 1 c 2 d 3 j 40 g)))) (k (zD (cS [b]) 1 c 2 d 3 j 40 g) h i)) (DI a e f (hE [26,27,28,29,30,31,32,25,33,34,3,4] (zB (cS [b]) 1 c 2 d)))
def ajo:AB X 71 [a0] h j ai ay=VS X a0 h j ai ay:=Zk
def ajn:cU X 71 1=true:=Zk
def VV(a:aZ)(b:F)(c:V an)(d:Nat)(e _:bI):Prop:=
 ip a c d b λa b c=>e (.func (.func 132) [] [a]) b c
def ajs:dh X 78 [a0] h j ai ay=VV X a0 h j ai ay:=Zk
def ajr:cU X 78 1=true:=Zk
def VW(a:aZ)(b c:F)(d:V an)(e:Nat)(f g:bI):Prop:=
 ip a d e c λd e h=>E (dn a e .eql 23 true b .cz) λi=>aY (λb c d=>al (b 0) λe=>E (cm e) λe=>E (ba 0 e) λe=>E (ao a c e) λe=>al (b 3) λb=>aW a 133 [e,(.func (.func 134) [] [b])] c d (λb c d=>E (rN a c .max [3,3] [b,(.Z 0)]) λa=>E (aF .geq b (.Z 0)) λb=>f (.tuple [a,b]) c d) g) λa=>a7 i (f (.tuple [(.Z 0),(.bool false)]) e h) (a (zD (cS [b,c]) 3 d 4 (.Z 0) 5 (.bool false) 8 i) e h)
def aju:dh X 79 [a0,bh] h j ai ay=VW X a0 bh h j ai ay:=Zk
def ajt:cU X 79 2=true:=Zk
def V0(a:aZ)(b:F)(c:V an)(d:Nat)(e f:bI):Prop:=
 ip a c d b λc d g=>E (ba 2 c) λh=>E (ao a d h) λh=>E (dX h) λh=>E (ba 3 c) λi=>E (ao a d i) λi=>E (dX i) λi=>E (aF .add h i) λh=>E (ba 4 c) λi=>E (ao a d i) λi=>E (dX i) λi=>E (aF .add h i) λh=>E (ba 0 c) λi=>E (ao a d i) λi=>aW a 140 [i] d g (λd g i=>E (fG .not d) λd=>dp d (ba 3 c) g i (λg i j=>dp d (ao a i g) i j (λg i j=>dp d (dX g) i j (λg i j=>dp d (aF .eql g (.Z 0)) i j (λg i j=>dd (λd=>hh d h i j (λg i j=>dp d (aF .gtr g (.Z 256)) i j (λg i j=>dd (λd=>dp d (ba 5 c) i j (λg i j=>dp d (ao a i g) i j (λg i j=>dp d (dX g) i j (λg i j=>dp d (aF .gtr g (.Z 4096)) i j (λg i j=>dd (λd=>dp d (ba 2 c) i j (λg i j=>dp d (ao a i g) i j (λg i j=>dp d (ba 3 c) i j (λi j k=>dp d (ao a j i) j k (λi j k=>dp d (ba 4 c) j k (λj k l=>dp d (ao a k j) k l (λj k l=>kd d (λb=>E (fg 3 [.aP, .aP, .aP] [(0,1,g),(1,1,i),(2,1,j)] l) λc=>cQ a k l c.1 c.2 λa c d=>b a c d) k l (λg i j=>kd d (λb=>aW a 142 [g] i j b f) i j (λg i j=>kd d (λb=>aW a 141 [g] i j b f) i j (λg i j=>dp d (fG .not g) i j (λg i j=>dd (λd=>aY (λb c d=>al (b 1) λg=>E (ba 5 g) λg=>E (ao a c g) λg=>E (dX g) λh=>aY (λa b c=>al (a 4) λa=>e a b c) λi=>fJ (λb c d g=>al (c 55) λh=>al (c 54) λj=>E (aF .lss h j) λh=>aY (λc d g=>aY (λa c d=>al (a 55) λe=>E (aF .add e (.Z 1)) λe=>b (ac a 55 e) c d) λb=>al (c 53) λh=>al (c 55) λi=>E (dW 4 h i) λh=>E (cg a d 4 h) λh=>E (dT [.aP, .aP,(.Z 0), .cz] g) λi=>cQ a d g i.1 i.2 λd g i=>E (ce a g 4 d h) λg=>E (ba 3 d) λh=>E (ao a g h) λh=>aW a 144 [h] g i (λg h i=>E (ba 0 d) λj=>E (ao a h j) λj=>E (dX j) λj=>E (aF .eql j (.Z 0)) λj=>dp j (ba 0 d) h i (λh i k=>dp j (ao a i h) i k (λh i k=>hh j (.func (.func 143) [] []) i k (λi k l=>kd j (λb=>aW a 145 [h,i] k l b f) k l (λa f h=>dd (λa=>hh a g f h (λf h i=>dp a (aF .eql f (.Z 1)) h i (λf h i=>dd (λa=>aY (λa c d=>al (a 8) λe=>E (aF .neq e (.Z 0)) λe=>aY b λb=>a7 e (al (a 8) λf=>b (zB a 77 e 4 f) c d) (b (ac a 77 e) c d)) λb=>a7 a (e (.Z 1) h i) (b (zD c 6 d 7 (.func (.func 143) [] []) 8 g 75 a) h i)) λb=>a7 a (b (.bool true)) (b f)))) λb=>a7 j (b (.bool true)) (b a)))))) f) λa=>a7 h (a (ac c 56 h) d g) (i (ac c 56 h) d g)) (zD b 4 (.Z 0) 53 g 54 h 55 (.Z 0)) c d) λa=>a7 d (e (.Z 1) i j) (a (zD (cS [b]) 1 c 2 (.Z 0) 3 h 51 d) i j)) λa=>a7 d (a (.bool true)) (a g)))))))))))) λa=>a7 d (a (.bool true)) (a g)))))) λa=>a7 d (a (.bool true)) (a g)))) λa=>a7 d (a (.bool true)) (a g)))))) f
def ajC:dh X 92 [a0] h j ai ay=V0 X a0 h j ai ay:=Zk
def ajB:cU X 92 1=true:=Zk
def Ue(a:aZ)(b:F)(c:V an)(d:Nat)(e f:bI):Prop:=
 aW a 177 [b,(.Z 201)] c d e f
def agk:dh X 118 [a0] h j ai ay=Ue X a0 h j ai ay:=Zk
def agj:cU X 118 1=true:=Zk
def Uf(a:aZ)(b c d:F)(e:V an)(f:Nat)(g _:bI):Prop:=
 E (cm b) λh=>E (ba 4 h) λh=>E (ba 0 h) λh=>E (ao a e h) λh=>E (aF .eql h (.Z 0)) λh=>aY (λ_ a b=>g (.tuple []) a b) λg=>a7 h (E (eB [(.Z 0),(.Z 0)] [(0,1,c),(1,1,d)]) λi=>E (cm b) λj=>E (ba 4 j) λj=>E (ce a e 2 j i) λa=>g (ac (cS [b,c,d]) 11 h) a f) (g (ac (cS [b,c,d]) 11 h) e f)
def agm:dh X 119 [a0,bh,cl] h j ai ay=Uf X a0 bh cl h j ai ay:=Zk
def agl:cU X 119 3=true:=Zk
def Tc(a:aZ)(b:bI):gs:=λc d e=>mZ a [] b c c.bd d e
def Ny(a:aZ)(b c:bI):rH:=λd e f g=>vm a [] b c d e d.bd f g
def Ug(a:aZ)(b c:F)(d:V an)(e:Nat)(f g:bI):Prop:=
 ip a d e b λd e h=>ip a e h c λe h i=>cQ a h i (.map i) (.map [] 0) λh i j=>E (dT [.lf] j) λk=>cQ a i j k.1 k.2 λi j k=>E (ce a j 1 i h) λh=>E (cg a h 6 e) λj=>aW a 78 [j] h k (λh j k=>aY (λb c d=>al (b 3) λe=>E (cg a c 6 e) λe=>aW a 78 [e] c d (λc d e=>aY (λb c d=>Tc a f b c d) λh=>DL a 54 c [31,32] (sz a (λ_ _ b _ _ c d e=>E (dT [(.str []),(.Z 0),(.bool false),(.bool false),(.Z 0),(.str []),(.Z 0),(.bool false)] e) λf=>cQ a d e f.1 f.2 λd e f=>al (c 32) λg=>E (ce a e 8 d g) λa=>b (ac c 8 d) a f) (λ_ b c _ _ d e f=>aY c λc=>eV (f+13) λg=>al (d 2) λh=>E (ao a e h) λh=>E (cm h) λh=>E (ba 2 h) λh=>E (ao a e h) λh=>al (d 8) λi=>E (ba 5 i) λi=>E (ao a e i) λi=>E (dT [(.Z 0),(.str []),(.Z 0),(.bool false),(.bool false),(.Z 0),(.str []),(.Z 0),(.bool false),(.Z 0),(.Z 0)] (f+10)) λj=>kU a e (f+10) j.1 j.2 λe f=>aW a 34 [h,i] f g (λf g h=>E (cM 0 f) λi=>E (cM 1 f) λf=>E (ce a g 11 e i) λe=>E (fG .not f) λg=>R4 g (d 8) (λa=>ba 5 a) e h (λe h i=>c2 g (ao a h e) h i (λe h i=>c2 g (dn a h .neq 9 true e (.str [])) h i (λe h i=>dd (λe=>aY c λc=>a7 e (al (d 2) λg=>E (ao a h g) λg=>al (d 8) λj=>E (ba 6 j) λj=>E (ao a h j) λj=>aW a 119 [g,(.Z 23),j] h i (λ_ a b=>c (zB d 10 f 49 e) a b) (b (hE [50,51,52,53] (zB d 10 f 49 e)))) (c (zB d 10 f 49 e) h i)) λa=>a7 g (a e) (a (.bool false)))))) (b (hE [34,35,36,37,38,39,40,33,41,42,9,10] d)))) h (Co 2 h (λ_ _ _ _=>False)) (Tc a f) (Ny a f g) (ac b 30 c) d e) (Ny a f g (hE [29,30] b))) λl=>DL a 54 h [14,15] (sz a (λ_ _ b _ _ c d e=>al (c 14) λf=>E (dT [(.str []),(.Z 0),(.bool false),(.bool false),(.Z 0),(.str []),(.Z 0),(.bool false)] e) λg=>cQ a d e g.1 g.2 λd e g=>al (c 15) λh=>E (ce a e 8 d h) λa=>b (zB c 5 f 6 d) a g) (λ_ b c _ _ d e f=>aY c λc=>al (d 4) λg=>E (ao a e g) λg=>al (d 6) λh=>E (ba 0 h) λh=>E (ao a e h) λh=>E (kr a e 9 (.Z 0) g h false) λg=>E (aF .gtr g (.Z 0)) λg=>aY (λb d e=>al (b 4) λf=>E (ao a d f) λf=>al (b 6) λg=>E (ba 0 g) λg=>E (ao a d g) λg=>al (b 5) λh=>gw (sp a d e 9 f g h) d e λ_ a d=>c b a d) λc=>a7 g (al (d 2) λh=>E (ao a e h) λh=>al (d 6) λi=>E (ba 1 i) λi=>E (ao a e i) λi=>aW a 119 [h,(.Z 24),i] e f (λ_ a b=>c (ac d 20 g) a b) (b (hE [21,22,23,24] (ac d 20 g)))) (c (ac d 20 g) e f))) l (Co 0 l (λ_ _ _ _=>False)) (Tc a f) (Ny a f g) (zD (cS [b,c]) 2 d 3 e 4 i 13 h) j k) (Ny a f g (hE [12,13] (zC (cS [b,c]) 2 d 3 e 4 i)))
def ago:AB X 120 [a0,bh] h j ai ay=Ug X a0 bh h j ai ay:=Zk
def agn:cU X 120 2=true:=Zk
def Uh(a:aZ)(b c d:F)(e:V an)(f:Nat)(g h:bI):Prop:=
 E (cm b) λi=>E (ba 2 i) λi=>E (ao a e i) λi=>aW a 34 [i,c] e f (λe f i=>E (cM 0 e) λj=>E (cM 1 e) λe=>E (dT [(.Z 0),(.str []),(.Z 0),(.bool false),(.bool false),(.Z 0),(.str []),(.Z 0),(.bool false),(.Z 0),(.Z 0)] i) λk=>cQ a f i k.1 k.2 λf i k=>E (ce a i 11 f j) λi=>E (cm b) λj=>E (ba 3 j) λj=>E (ao a i j) λj=>E (kr a i 9 (.Z 0) j c false) λl=>E (aF .add l (.Z 1)) λl=>gw (sp a i k 9 j c l) i k λ_ i j=>aY (λ_ a b=>g (.tuple []) a b) λg=>E (fG .not e) λk=>aY g λg=>a7 k (aW a 119 [b,(.Z 23),d] i j (λ_ a h=>g (zC (cS [b,c,d]) 6 f 7 e 24 k) a h) h) (E (ba 0 f) λl=>E (ao a i l) λl=>E (aF .eql l (.Z 1)) λl=>hh l b i j (λi j m=>dp l (cm i) j m (λi j m=>dp l (ba 3 i) j m (λi j m=>dp l (ao a j i) j m (λi j m=>hh l c j m (λj m n=>dp l (kr a m 9 (.Z 0) i j false) m n (λi j m=>dp l (aF .gtr i (.Z 1)) j m (λi j m=>dd (λi=>aY g λg=>a7 i (aW a 119 [b,(.Z 24),d] j m (λ_ a h=>g (zD (cS [b,c,d]) 6 f 7 e 24 k 30 i) a h) h) (g (zD (cS [b,c,d]) 6 f 7 e 24 k 30 i) j m)) λa=>a7 l (a (.bool true)) (a i)))))))))) h
def agq:dh X 121 [a0,bh,cl] h j ai ay=Uh X a0 bh cl h j ai ay:=Zk
def agp:cU X 121 3=true:=Zk
def Ui(a:aZ)(b c:F)(d:V an)(e:Nat)(f g:bI):Prop:=
 ip a d e b λb d e=>aW a 18 [c,(.func (.func 178) [] [b])] d e (λ_ a b=>f (.tuple []) a b) g
def ags:dh X 122 [a0,bh] h j ai ay=Ui X a0 bh h j ai ay:=Zk
def agr:cU X 122 2=true:=Zk
def Un(a:aZ)(b c:F)(d:V an)(e:Nat)(f g:bI):Prop:=
 E (ba 2 c) λh=>E (ao a d h) λh=>E (ba 3 c) λi=>E (ao a d i) λi=>E (ba 4 c) λj=>E (ao a d j) λj=>E (eB [.aP, .aP, .aP] [(0,1,h),(1,1,i),(2,1,j)]) λh=>aY (λ_ a b=>f (.tuple []) a b) λi=>fJ (λb c d e=>al (c 14) λh=>E (aF .lss h (.Z 3)) λh=>aY (λc d e=>aY (λa c d=>al (a 14) λe=>E (aF .add e (.Z 1)) λe=>b (ac a 14 e) c d) λb=>al (c 14) λh=>al (c 13) λi=>al (c 14) λj=>E (ts false 3 1 i j) λi=>E (dX i) λj=>aY b λb=>fJ (λc d e h=>al (d 20) λi=>al (d 19) λj=>E (aF .lss i j) λi=>aY (λb d e=>aY (λa b d=>al (a 20) λe=>E (aF .add e (.Z 1)) λe=>c (ac a 20 e) b d) λc=>al (b 18) λh=>al (b 20) λi=>E (dW 8 h i) λh=>E (cg a d 8 h) λh=>E (dT [(.str []),(.Z 0),(.bool false),(.bool false),(.Z 0),(.str []),(.Z 0),(.bool false)] e) λi=>cQ a d e i.1 i.2 λd e i=>E (ce a e 8 d h) λe=>al (b 0) λh=>al (b 3) λj=>E (aF .add (.Z 1) j) λj=>E (cg a e 8 d) λk=>jn a h [j,k] e i (λa e g=>E (fG .not a) λa=>aY c λc=>a7 a (f (.tuple []) e g) (c (zB b 6 d 29 a) e g)) g) λa=>a7 i (a (ac d 21 i) e h) (b (ac d 21 i) e h)) (ac (zD c 3 h 4 i 18 i 19 j) 20 (.Z 0)) d e) λa=>a7 h (a (ac c 15 h) d e) (i (ac c 15 h) d e)) (zB (cS [b,c]) 13 h 14 (.Z 0)) d e
def agC:dh X 132 [a0,bh] h j ai ay=Un X a0 bh h j ai ay:=Zk
def agB:cU X 132 2=true:=Zk
def Uo(a:aZ)(b c:F)(d:V an)(e:Nat)(f g:bI):Prop:=
 E (dX b) λh=>aY (λ_ a b=>f (.Z (-1)) a b) λi=>fJ (λb c d e=>al (c 8) λh=>al (c 7) λj=>E (aF .lss h j) λh=>aY (λc d e=>aY (λa c d=>al (a 8) λe=>E (aF .add e (.Z 1)) λe=>b (ac a 8 e) c d) λb=>al (c 8) λh=>al (c 1) λi=>al (c 0) λj=>E (dW 6 j h) λj=>E (cg a d 6 j) λj=>jn a i [j] d e (λa d e=>aY b λb=>a7 a (f h d e) (b (zB c 5 h 16 a) d e)) g) λa=>a7 h (a (ac c 9 h) d e) (i (ac c 9 h) d e)) (zC (cS [b,c]) 4 (.Z 0) 7 h 8 (.Z 0)) d e
def agE:dh X 133 [a0,bh] h j ai ay=Uo X a0 bh h j ai ay:=Zk
def agD:cU X 133 2=true:=Zk
def Up(a:aZ)(b c:F)(d:V an)(e:Nat)(f _:bI):Prop:=
 ip a d e b λb d e=>E (ba 0 b) λb=>E (ao a d b) λb=>E (ao a d c) λc=>E (dn a d .eql 9 false b c) λa=>f a d e
def agG:dh X 134 [a0,bh] h j ai ay=Up X a0 bh h j ai ay:=Zk
def agF:cU X 134 2=true:=Zk
def Ur(a:aZ)(b:F)(c:V an)(d:Nat)(e f:bI):Prop:=
 E (dn a c .eql 9 true b (.str [])) λg=>hh g b c d (λc d h=>dp g (lJ c) d h (λc d h=>dp g (aF .gtr c (.Z 32)) d h (λc d h=>dd (λc=>hh c b d h (λd g h=>dp c (la d (.Z 0)) g h (λd g h=>dp c (aF .geq d (.int .u8 48)) g h (λd g h=>hh c d g h (λd g h=>jM d b g h (λg h i=>c2 d (la g (.Z 0)) h i (λg h i=>c2 d (aF .leq g (.int .u8 57)) h i (λg h i=>kd c (λa=>dd (λb=>a b h i) λa=>a7 d (a g) (a (.bool false))) h i (λd g h=>dd (λc=>hh c b g h (λd g h=>hh c (.func (.func 185) [] []) g h (λg h i=>kd c (λb=>aW a 186 [d,g] h i b f) h i (λd g h=>dp c (aF .geq d (.Z 0)) g h (λd g h=>dd (λc=>aY (λb c d=>E (ao a c (.ptr 2 0)) λg=>al (b 0) λh=>aW a 187 [g,h] c d (λc d g=>E (fG .not c) λc=>lI c (b 0) d g (λb d g=>lH c (λc=>aW a 188 [b] d g c f) d g (λa b d=>c2 c (fG .not a) b d (λa b d=>dd (λa=>e a b d) λb=>a7 c (b a) (b (.bool false)))))) f) λa=>a7 c (e (.bool false) g h) (a (zC (cS [b]) 2 (.bool false) 3 (.func (.func 185) [] []) 26 c) g h)) λa=>a7 c (a (.bool true)) (a d)))))) λa=>a7 c (a (.bool true)) (a d)))))))))) λa=>a7 g (a (.bool true)) (a c))))
def agK:dh X 140 [a0] h j ai ay=Ur X a0 h j ai ay:=Zk
def agJ:cU X 140 1=true:=Zk
def Us(a:aZ)(b:F)(c:V an)(d:Nat)(e f:bI):Prop:=
 E (dX b) λg=>aY (λ_ a b=>e (.bool true) a b) λh=>fJ (λb c d g=>al (c 7) λi=>al (c 6) λj=>E (aF .lss i j) λi=>aY (λc d g=>aY (λa c d=>al (a 7) λe=>E (aF .add e (.Z 1)) λe=>b (ac a 7 e) c d) λb=>al (c 5) λh=>al (c 7) λi=>E (dW 8 h i) λh=>E (cg a d 8 h) λh=>E (dT [(.str []),(.Z 0),(.bool false),(.bool false),(.Z 0),(.str []),(.Z 0),(.bool false)] g) λi=>cQ a d g i.1 i.2 λd g i=>E (ce a g 8 d h) λg=>E (ba 0 d) λh=>E (ao a g h) λh=>aW a 140 [h] g i (λg h i=>E (fG .not g) λg=>dp g (ba 2 d) h i (λh i j=>dp g (cg a i 3 h) i j (λh i j=>kd g (λb=>aW a 128 [h] i j b f) i j (λh i j=>dp g (dn a i .eql 9 true h (.str [])) i j (λh i j=>dd (λg=>dp g (ba 5 d) i j (λh i j=>dp g (ao a i h) i j (λh i j=>dp g (dn a i .neq 9 true h (.str [])) i j (λh i j=>hh g h i j (λh i j=>c2 h (ba 5 d) i j (λi j k=>c2 h (ao a j i) j k (λi j k=>lH h (λb=>aW a 140 [i] j k b f) j k (λf i j=>c2 h (fG .not f) i j (λf i j=>kd g (λa=>dd (λb=>a b i j) λa=>a7 h (a f) (a (.bool false))) i j (λf h i=>dd (λf=>dp f (ba 5 d) h i (λg h i=>dp f (ao a h g) h i (λg h i=>dp f (dn a h .eql 9 true g (.str [])) h i (λg h i=>hh f g h i (λg h i=>c2 g (ba 7 d) h i (λh i j=>c2 g (ao a i h) i j (λa h i=>kd f (λb=>dd (λa=>b a h i) λb=>a7 g (b a) (b (.bool false))) h i (λa g h=>dd (λa=>aY b λb=>a7 a (e (.bool false) g h) (b (zB c 4 d 40 a) g h)) λb=>a7 f (b (.bool true)) (b a))))))))) λa=>a7 g (a (.bool true)) (a f))))))))))) λa=>a7 g (a (.bool true)) (a h)))))) f) λa=>a7 i (a (ac c 8 i) d g) (h (ac c 8 i) d g)) (zD (cS [b]) 2 (.bool false) 5 b 6 g 7 (.Z 0)) c d
def agM:dh X 141 [a0] h j ai ay=Us X a0 h j ai ay:=Zk
def agL:cU X 141 1=true:=Zk
def Ut(a:aZ)(b:F)(c:V an)(d:Nat)(e f:bI):Prop:=
 E (dX b) λg=>aY (λb c d=>al (b 3) λg=>aW a 189 [.aP,g] c d (λc d f=>al (b 0) λg=>E (dX g) λh=>aY (λa b c=>al (a 6) λa=>e a b c) λe=>fJ (λb c d f=>al (c 27) λg=>al (c 26) λh=>E (aF .lss g h) λg=>aY (λc d e=>aY (λa c d=>al (a 27) λe=>E (aF .add e (.Z 1)) λe=>b (ac a 27 e) c d) λb=>al (c 25) λf=>al (c 27) λg=>E (dW 1 f g) λf=>E (ao a d f) λf=>al (c 6) λg=>gw (hC a d e 8 g f) d e λa d e=>b (zB c 8 f 6 a) d e) λa=>a7 g (a (ac c 28 g) d f) (e (ac c 28 g) d f)) (zD b 6 c 25 g 26 h 27 (.Z 0)) d f) f) λe=>fJ (λb c d g=>al (c 11) λh=>al (c 10) λi=>E (aF .lss h i) λh=>aY (λc d e=>aY (λa c d=>al (a 11) λe=>E (aF .add e (.Z 1)) λe=>b (ac a 11 e) c d) λb=>al (c 9) λg=>al (c 11) λh=>E (dW 1 g h) λg=>E (ao a d g) λa=>al (c 3) λg=>E (dX a) λh=>E (aF .add g h) λg=>E (aF .lss g (.Z 0)) λh=>aY b λb=>a7 h (E (some (F.iface 9 (.str [108,101,110,32,111,117,116,32,111,102,32,114,97,110,103,101]))) λa=>vn f a d e) (b (zC c 5 a 3 g 20 h) d e)) λa=>a7 h (a (ac c 12 h) d g) (e (ac c 12 h) d g)) (ac (zD (cS [b]) 2 .aP 3 (.Z 0) 9 b 10 g) 11 (.Z 0)) c d
def agO:dh X 142 [a0] h j ai ay=Ut X a0 h j ai ay:=Zk
def agN:cU X 142 1=true:=Zk
def Uu(a:aZ)(b:F)(c:V an)(d:Nat)(e f:bI):Prop:=
 aW a 140 [b] c d (λa b c=>E (fG .not a) λa=>e a b c) f
def agQ:dh X 143 [a0] h j ai ay=Uu X a0 h j ai ay:=Zk
def agP:cU X 143 1=true:=Zk
def Uv(a:aZ)(b:F)(c:V an)(d:Nat)(e f:bI):Prop:=
 E (dT [(.Z 0)] d) λg=>cQ a c d g.1 g.2 λc d g=>E (ce a d 1 c (.Z 0)) λd=>E (dT [(.Z 0)] g) λh=>cQ a d g h.1 h.2 λd g h=>E (ce a g 1 d (.Z 0)) λg=>E (dT [.nilFunc] h) λi=>cQ a g h i.1 i.2 λg h i=>E (ce a h 1 g (.func (.func 190) [] [d,c,g])) λd=>E (ao a d g) λg=>jn a g [b] d i (λ_ b d=>E (ao a b c) λa=>e a b d) f
def agS:dh X 144 [a0] h j ai ay=Uv X a0 h j ai ay:=Zk
def agR:cU X 144 1=true:=Zk
def Uw(a:aZ)(b c:F)(d:V an)(e:Nat)(f g:bI):Prop:=
 aW a 192 [b,c] d e (λa b c=>E (aF .geq a (.Z 0)) λa=>f a b c) g
def agU:dh X 145 [a0,bh] h j ai ay=Uw X a0 bh h j ai ay:=Zk
def agT:cU X 145 2=true:=Zk
def OC(a:aZ)(b c:F)(d:V an)(e:Nat)(f g:bI):Prop:=
 E (dn a d .eql 47 true b .cz) λh=>hh h c d e (λd e i=>dp h (aF .eql d (.Z 0)) e i (λd e i=>dd (λd=>aY (λb c d=>al (b 1) λe=>E (aF .sub e (.Z 1)) λe=>al (b 0) λh=>E (cm h) λh=>E (ba 8 h) λh=>E (ao a c h) λh=>E (dX h) λi=>aY (λa b c=>al (a 5) λa=>E (aF .add a (.Z 1)) λa=>f a b c) λf=>fJ (λb c d e=>al (c 21) λh=>al (c 20) λi=>E (aF .lss h i) λh=>aY (λc d e=>aY (λa c d=>al (a 21) λe=>E (aF .add e (.Z 1)) λe=>b (ac a 21 e) c d) λb=>al (c 19) λf=>al (c 21) λh=>E (dW 1 f h) λf=>E (ao a d f) λf=>al (c 5) λh=>al (c 1) λi=>aW a 177 [f,i] d e (λd e g=>E (rN a e .max [3,3] [h,d]) λa=>b (zB c 7 f 5 a) e g) g) λa=>a7 h (a (ac c 22 h) d e) (f (ac c 22 h) d e)) (ac (zD b 1 e 5 (.Z 0) 19 h 20 i) 21 (.Z 0)) c d) λa=>a7 d (f (.Z 0) e i) (a (zB (cS [b,c]) 4 (.Z 0) 13 d) e i)) λa=>a7 h (a (.bool true)) (a d)))
def UO:dh X 177 [a0,bh] h j ai ay=OC X a0 bh h j ai ay:=Zk
def UN:cU X 177 2=true:=Zk
def UP(a:aZ)(b c:F)(d:V an)(e:Nat)(f g:bI):Prop:=
 aW a 179 [b] d e (λd e h=>aY (λb c d=>al (b 0) λe=>E (cm e) λe=>E (ba 0 e) λe=>E (ao a c e) λe=>E (aF .eql e (.Z 25)) λe=>aY (λ_ a b=>f (.bool true) a b) λf=>a7 e (eV (d+14) λd=>al (b 1) λh=>E (ao a c h) λh=>E (cm h) λh=>E (ba 0 h) λh=>E (ao a c h) λh=>al (b 0) λi=>E (cm i) λi=>E (ba 2 i) λi=>E (ao a c i) λi=>aW a 79 [h,i] c d (λc d h=>E (cM 0 c) λi=>E (cM 1 c) λc=>aY f λf=>E (fG .not c) λj=>aY f λf=>a7 j (eV (h+6) λh=>al (b 1) λk=>E (ao a d k) λk=>al (b 0) λl=>E (cm l) λl=>E (ba 1 l) λl=>E (ao a d l) λl=>aW a 119 [k,(.Z 23),l] d h (λ_ a d=>f (zD b 34 e 6 i 7 c 47 j) a d) g) (al (b 1) λk=>E (ao a d k) λk=>E (cm k) λk=>E (ba 1 k) λk=>E (ao a d k) λk=>E (aF .geq i k) λk=>aY f λf=>a7 k (eV (h+6) λh=>al (b 1) λl=>E (ao a d l) λl=>al (b 0) λm=>E (cm m) λm=>E (ba 1 m) λm=>E (ao a d m) λm=>aW a 119 [l,(.Z 25),m] d h (λ_ a d=>f (ac (zD b 34 e 6 i 7 c 47 j) 56 k) a d) g) (f (ac (zD b 34 e 6 i 7 c 47 j) 56 k) d h))) g) (f (ac b 34 e) c d)) λf=>a7 d (eV (h+15) λi=>E (ao a e c) λj=>E (cm j) λj=>E (ba 2 j) λj=>E (ao a e j) λj=>E (cm b) λk=>E (ba 2 k) λk=>E (ao a e k) λk=>E (dT [(.Z 0),(.str []),(.Z 0),(.bool false),(.bool false),(.Z 0),(.str []),(.Z 0),(.bool false),(.Z 0),(.Z 0)] (h+12)) λl=>kU a e (h+12) l.1 l.2 λe h=>aW a 34 [j,k] h i (λh i j=>E (cM 0 h) λk=>E (cM 1 h) λh=>E (ce a i 11 e k) λe=>E (fG .not h) λi=>aY f λf=>a7 i (eV (j+6) λj=>E (ao a e c) λk=>E (cm b) λl=>E (ba 1 l) λl=>E (ao a e l) λl=>aW a 119 [k,(.Z 23),l] e j (λ_ a e=>f (zD (cS [b,c]) 3 (.bool false) 9 d 5 h 23 i) a e) g) (f (zD (cS [b,c]) 3 (.bool false) 9 d 5 h 23 i) e j)) g) (f (zB (cS [b,c]) 3 (.bool false) 9 d) e h)) g
def aho:dh X 178 [a0,bh] h j ai ay=UP X a0 bh h j ai ay:=Zk
def ahn:cU X 178 2=true:=Zk
def UQ(a:aZ)(b:F)(c:V an)(d:Nat)(e _:bI):Prop:=
 E (cm b) λf=>E (ba 0 f) λf=>E (ao a c f) λf=>E (aF .eql f (.Z 2)) λf=>hh f b c d (λc d g=>dp f (cm c) d g (λc d g=>dp f (ba 0 c) d g (λc d g=>dp f (ao a d c) d g (λc d g=>dp f (aF .eql c (.Z 6)) d g (λc d g=>dd (λc=>hh c b d g (λb d f=>dp c (cm b) d f (λb d f=>dp c (ba 0 b) d f (λb d f=>dp c (ao a d b) d f (λa b d=>dp c (aF .eql a (.Z 24)) b d (λa b d=>dd (λa=>e a b d) λb=>a7 c (b (.bool true)) (b a))))))) λa=>a7 f (a (.bool true)) (a c))))))
def ahq:dh X 179 [a0] h j ai ay=UQ X a0 h j ai ay:=Zk
def ahp:cU X 179 1=true:=Zk
def US(a:aZ)(b:F)(c:V an)(d:Nat)(e _:bI):Prop:=
 ip a c d b λc d f=>E (ba 0 c) λg=>E (ao a d g) λg=>aY (λb c d=>al (b 1) λf=>E (ba 2 f) λf=>E (ao a c f) λf=>E (aF .geq f (.Z 1)) λf=>R4 f (b 1) (λa=>ba 2 a) c d (λb c d=>c2 f (ao a c b) c d (λa b c=>c2 f (aF .leq a (.Z 64)) b c (λa b c=>dd (λa=>e a b c) λb=>a7 f (b a) (b (.bool false)))))) λh=>a7 g (E (ba 1 c) λb=>E (ao a d b) λb=>E (fG .not b) λb=>c2 b (ba 2 c) d f (λc d f=>c2 b (ao a d c) d f (λa c d=>c2 b (aF .eql a (.Z 1)) c d (λa c d=>dd (λa=>e a c d) λc=>a7 b (c a) (c (.bool false)))))) (h (zC (cS [b]) 1 c 2 (.bool false) 4 g) d f)
def ahs:dh X 182 [a0] h j ai ay=US X a0 h j ai ay:=Zk
def ahr:cU X 182 1=true:=Zk
def UV(_:aZ)(a:F)(b:V an)(c:Nat)(d _:bI):Prop:=
 E (aF .lss a (.int .i32 97)) λe=>hh e a b c (λb c f=>dp e (aF .gtr b (.int .i32 122)) c f (λb c f=>dd (λb=>jM b a c f (λc e f=>c2 b (aF .lss c (.int .i32 65)) e f (λc e f=>jM b c e f (λc e f=>hh c a e f (λe f g=>dp c (aF .gtr e (.int .i32 90)) f g (λe f g=>lH b (λa=>dd (λb=>a b f g) λa=>a7 c (a (.bool true)) (a e)) f g (λc e f=>dd (λb=>jM b a e f (λc e f=>c2 b (aF .lss c (.int .i32 48)) e f (λc e f=>jM b c e f (λc e f=>hh c a e f (λe f g=>dp c (aF .gtr e (.int .i32 57)) f g (λe f g=>lH b (λa=>dd (λb=>a b f g) λa=>a7 c (a (.bool true)) (a e)) f g (λc e f=>dd (λb=>jM b a e f (λa c e=>c2 b (aF .neq a (.int .i32 95)) c e (λa c e=>dd (λa=>d a c e) λc=>a7 b (c a) (c (.bool false))))) λa=>a7 b (a c) (a (.bool false))))))))) λa=>a7 b (a c) (a (.bool false))))))))) λa=>a7 e (a (.bool true)) (a b)))
def ahy:dh X 185 [a0] h j ai ay=UV X a0 h j ai ay:=Zk
def ahx:cU X 185 1=true:=Zk
def UW(a:aZ)(b c:F)(d:V an)(e:Nat)(f g:bI):Prop:=
 aW a 213 [b,c,(.bool true)] d e f g
def ahA:dh X 186 [a0,bh] h j ai ay=UW X a0 bh h j ai ay:=Zk
def ahz:cU X 186 2=true:=Zk
def UX(a:aZ)(b c:F)(d:V an)(e:Nat)(f g:bI):Prop:=
 aW a 214 [b,c] d e (λa b c=>E (aF .geq a (.Z 0)) λa=>f a b c) g
def ahC:dh X 187 [a0,bh] h j ai ay=UX X a0 bh h j ai ay:=Zk
def ahB:cU X 187 2=true:=Zk
def UY(a:aZ)(b:F)(c:V an)(d:Nat)(e f:bI):Prop:=
 E (lJ b) λg=>E (aF .lss g (.Z 2)) λg=>aY (λb c d=>al (b 0) λg=>E (j7 g (some (.Z 1)) none) λg=>aW a 203 [g] c d (λc d g=>E (cM 0 c) λh=>E (cM 1 c) λc=>al (b 0) λi=>E (dn a d .eql 9 true i (.str [98,111,111,108])) λi=>hh i c d g (λc d g=>dp i (dn a d .eql 238 true c .nilIface) d g (λc d g=>hh i c d g (λc d g=>lI c (b 0) d g (λd g j=>lI c (b 0) g j (λb g j=>c2 c (la b (.Z 0)) g j (λb g j=>c2 c (aF .eql b (.int .u8 105)) g j (λb g j=>jM c h g j (λg h j=>c2 c (eB [(.bool false),(.bool false),(.Z 0)] [(1,1,b),(2,1,g)]) h j (λb g h=>lH c (λc=>aW a 128 [b] g h c f) g h (λb f g=>c2 c (dn a f .eql 9 false d b) f g (λa b d=>kd i (λe=>dd (λa=>e a b d) λb=>a7 c (b a) (b (.bool false))) b d (λa b c=>dd (λa=>e a b c) λb=>a7 i (b (.bool true)) (b a)))))))))))))) f) λa=>a7 g (e (.bool false) c d) (a (zB (cS [b]) 2 (.bool false) 7 g) c d)
def ahE:dh X 188 [a0] h j ai ay=UY X a0 h j ai ay:=Zk
def ahD:cU X 188 1=true:=Zk
def UZ(a:aZ)(b c:F)(d:V an)(e:Nat)(f g:bI):Prop:=
 E (aF .lss c (.Z 0)) λh=>aY (λb c d=>al (b 1) λe=>al (b 0) λg=>E (rN a c .cap [34] [g]) λg=>al (b 0) λh=>E (dX h) λh=>E (aF .sub g h) λg=>E (aF .sub e g) λe=>E (aF .gtr e (.Z 0)) λg=>aY (λa b c=>al (a 0) λa=>f a b c) λf=>a7 g (al (b 0) λh=>al (b 0) λi=>E (rN a c .cap [34] [i]) λi=>E (sD a c 8 h none (some i) none) λh=>gw (Fc a c d .append [34,3] [h,e]) c d λc d h=>al (b 0) λi=>E (dX i) λi=>E (sD a d 8 c none (some i) none) λa=>f (zC b 1 e 16 g 0 a) d h) (f (zB b 1 e 16 g) c d)) λa=>a7 h (E (some (F.iface 9 (.str [99,97,110,110,111,116,32,98,101,32,110,101,103,97,116,105,118,101]))) λa=>vn g a d e) (a (zB (cS [b,c]) 4 .aP 6 h) d e)
def ahG:dh X 189 [a0,bh] h j ai ay=UZ X a0 bh h j ai ay:=Zk
def ahF:cU X 189 2=true:=Zk
def U0(a:aZ)(b c d e:F)(f:V an)(g:Nat)(h i:bI):Prop:=
 E (ao a f c) λj=>E (aF .add j (.Z 1)) λj=>E (ce a f 1 c j) λf=>aY (λb c d=>al (b 1) λe=>E (ao a c e) λe=>E (aF .sub e (.Z 1)) λe=>al (b 1) λb=>E (ce a c 1 b e) λa=>h (.tuple []) a d) λh=>E (dn a f .eql 47 true b .cz) λj=>hh j b f g (λf g k=>kd j (λb=>aW a 191 [f] g k b i) g k (λf g k=>dp j (fG .not f) g k (λf g k=>dd (λf=>aY h λh=>a7 f (E (ce a g 1 d (.Z 1)) λa=>h (ac (cS [b,c,d,e]) 22 f) a k) (E (ao a g c) λj=>E (aF .gtr j (.Z 200)) λj=>aY h λh=>a7 j (E (ao a g d) λi=>E (aF .eql i (.Z 0)) λi=>aY h λh=>a7 i (E (ce a g 1 d (.Z 22)) λa=>h (zC (cS [b,c,d,e]) 22 f 30 j 34 i) a k) (h (zC (cS [b,c,d,e]) 22 f 30 j 34 i) g k)) (E (cm b) λl=>E (ba 8 l) λl=>E (ao a g l) λl=>E (dX l) λm=>aY h λh=>fJ (λb c d e=>al (c 14) λf=>al (c 13) λg=>E (aF .lss f g) λf=>aY (λc d e=>aY (λa c d=>al (a 14) λe=>E (aF .add e (.Z 1)) λe=>b (ac a 14 e) c d) λb=>al (c 12) λf=>al (c 14) λg=>E (dW 1 f g) λf=>E (ao a d f) λf=>al (c 3) λg=>E (ao a d g) λg=>jn a g [f] d e (λ_ a d=>b (ac c 6 f) a d) i) λa=>a7 f (a (ac c 15 f) d e) (h (ac c 15 f) d e)) (ac (zD (cS [b,c,d,e]) 22 f 30 j 12 l 13 m) 14 (.Z 0)) g k))) λa=>a7 j (a (.bool true)) (a f))))
def ahK:dh X 190 [a0,bh,cl,a3] h j ai ay=U0 X a0 bh cl a3 h j ai ay:=Zk
def ahJ:cU X 190 4=true:=Zk
def U1(a:aZ)(b:F)(c:V an)(d:Nat)(e f:bI):Prop:=
 eV (d+12) λg=>E (ao a c (.ptr 5 0)) λh=>E (cm b) λi=>E (ba 0 i) λi=>E (ao a c i) λi=>E (kr a c 3 (.agg [(.Z 0),(.bool false),(.bool false),(.bool false)]) h i true) λh=>E (cM 0 h) λi=>E (cM 1 h) λh=>E (dT [(.Z 0),(.bool false),(.bool false),(.bool false)] (d+9)) λj=>kU a c (d+9) j.1 j.2 λc d=>E (ce a d 4 c i) λd=>E (fG .not h) λi=>aY (λb c d=>eV (d+34) λd=>al (b 0) λg=>E (cm g) λg=>E (ba 0 g) λg=>E (ao a c g) λg=>E (aF .lss g (.Z 1)) λg=>Jb g (b 0) c (λc h=>pK g (cm c) h (λc h=>pK g (ba 0 c) h (λc h=>pK g (ao a h c) h (λc h=>pK g (aF .gtr c (.Z 26)) h (λc h=>dd (λc=>acA c (b 3) (λa=>ba 0 a) h (λg h=>pK c (ao a h g) h (λg h=>pK c (aF .geq g (.Z 0)) h (λg h=>MV c g h (λg h=>uW g (b 0) h (λh i=>gv g (cm h) i (λh i=>gv g (ba 8 h) i (λh i=>gv g (ao a i h) i (λh i=>gv g (dX h) i (λh i=>R3 g (b 3) (λa=>ba 0 a) i (λi j=>gv g (ao a j i) j (λi j=>gv g (aF .neq h i) j (λh i=>MU c (λa=>dd (λb=>a b i) λa=>a7 g (a h) (a (.bool false))) i (λg h=>dd (λc=>Jb c (b 0) h (λg h=>pK c (cm g) h (λg h=>pK c (ba 8 g) h (λg h=>pK c (ao a h g) h (λg h=>kd c (λb=>aW a 215 [g, .cz] h d b f) h d (λd g h=>dd (λc=>aY (λb c d=>eV (d+33) λd=>al (b 3) λg=>E (ba 1 g) λg=>E (ao a c g) λg=>al (b 0) λh=>E (cm h) λh=>E (ba 2 h) λh=>E (ao a c h) λh=>E (dn a c .neq 9 true h (.str [])) λh=>E (dn a c .neq 4 false g h) λg=>acA g (b 3) (λa=>ba 1 a) c (λc h=>pK g (ao a h c) h (λc h=>MV g c h (λc h=>uW c (b 0) h (λh i=>gv c (cm h) i (λh i=>gv c (ba 2 h) i (λh i=>gv c (ao a i h) i (λh i=>lH c (λb=>aW a 140 [h] i d b f) i d (λd h i=>gv c (fG .not d) h (λd h=>MU g (λa=>dd (λb=>a b h) λa=>a7 c (a d) (a (.bool false))) h (λc d=>dd (λc=>Jb c (b 0) d (λd g=>pK c (cm d) g (λd g=>pK c (ba 3 d) g (λd g=>pK c (ao a g d) g (λd g=>MV c d g (λd g=>uW d (b 0) g (λg h=>gv d (cm g) h (λg h=>gv d (ba 0 g) h (λg h=>gv d (ao a h g) h (λg h=>gv d (aF .neq g (.Z 6)) h (λg h=>MU c (λa=>dd (λb=>a b h) λa=>a7 d (a g) (a (.bool false))) h (λd g=>dd (λc=>aY (λb c d=>al (b 3) λg=>E (ba 2 g) λg=>E (ao a c g) λg=>E (fG .not g) λg=>lI g (b 0) c d (λc d h=>c2 g (cm c) d h (λc d h=>c2 g (ba 4 c) d h (λc d h=>c2 g (cg a d 3 c) d h (λc d h=>c2 g (eB [(.bool false),(.bool false),(.Z 0)] []) d h (λd h i=>c2 g (dn a h .neq 41 false c d) h i (λc d h=>dd (λc=>acB c (b 3) (λa=>ba 2 a) d h (λd g h=>dp c (ao a g d) g h (λd g h=>hh c d g h (λd g h=>lI d (b 0) g h (λg h i=>c2 d (cm g) h i (λg h i=>c2 d (ba 4 g) h i (λg h i=>c2 d (cg a h 3 g) h i (λg h i=>lH d (λb=>aW a 182 [g] h i b f) h i (λg h i=>c2 d (fG .not g) h i (λg h i=>kd c (λa=>dd (λb=>a b h i) λa=>a7 d (a g) (a (.bool false))) h i (λd g h=>dd (λc=>acB c (b 3) (λa=>ba 3 a) g h (λd g h=>dp c (ao a g d) g h (λd g h=>dp c (fG .not d) g h (λd g h=>hh c d g h (λd g h=>lI d (b 0) g h (λg h i=>c2 d (cm g) h i (λg h i=>c2 d (ba 7 g) h i (λg h i=>c2 d (ao a h g) h i (λg h i=>c2 d (aF .neq g (.int .u64 0)) h i (λg h i=>kd c (λa=>dd (λb=>a b h i) λa=>a7 d (a g) (a (.bool false))) h i (λd g h=>dd (λc=>aY (λb c d=>al (b 0) λg=>E (cm g) λg=>E (ba 0 g) λg=>E (ao a c g) λg=>aY (λ_ a b=>e (.bool true) a b) λh=>E (aF .eql g (.Z 1)) λi=>aY h λh=>a7 i (al (b 0) λb=>aW a 216 [b] c d e f) (E (aF .eql g (.Z 19)) λf=>aY (λb c d=>al (b 128) λf=>aY h λg=>a7 f (al (b 0) λb=>E (cm b) λb=>E (ba 7 b) λb=>E (ao a c b) λa=>E (aF .leq a (.int .u64 63)) λa=>e a c d) (al (b 123) λf=>E (aF .eql f (.Z 21)) λf=>aY g λg=>a7 f (al (b 0) λb=>E (cm b) λb=>E (ba 8 b) λb=>E (ao a c b) λb=>E (dW 1 b (.Z 0)) λb=>E (ao a c b) λb=>E (cm b) λf=>E (ba 0 f) λf=>E (ao a c f) λf=>E (aF .eql f (.Z 1)) λf=>hh f b c d (λc d g=>dp f (cm c) d g (λc d g=>dp f (ba 0 c) d g (λc d g=>dp f (ao a d c) d g (λc d g=>dp f (aF .eql c (.Z 4)) d g (λc d g=>hh f c d g (λc d g=>jM c b d g (λd g h=>c2 c (cm d) g h (λd g h=>c2 c (ba 8 d) g h (λd g h=>c2 c (ao a g d) g h (λd g h=>c2 c (dX d) g h (λd g h=>c2 c (aF .eql d (.Z 1)) g h (λd g h=>kd f (λa=>dd (λb=>a b g h) λa=>a7 c (a d) (a (.bool false))) g h (λc d g=>hh f c d g (λc d g=>jM c b d g (λd g h=>c2 c (cm d) g h (λd g h=>c2 c (ba 8 d) g h (λd g h=>c2 c (ao a g d) g h (λd g h=>c2 c (dW 1 d (.Z 0)) g h (λd g h=>c2 c (ao a g d) g h (λd g h=>c2 c (dn a g .neq 47 true d .cz) g h (λd g h=>kd f (λa=>dd (λb=>a b g h) λa=>a7 c (a d) (a (.bool false))) g h (λc d g=>hh f c d g (λc d g=>jM c b d g (λb d g=>c2 c (cm b) d g (λb d g=>c2 c (ba 8 b) d g (λb d g=>c2 c (ao a d b) d g (λb d g=>c2 c (dW 1 b (.Z 0)) d g (λb d g=>c2 c (ao a d b) d g (λb d g=>c2 c (cm b) d g (λb d g=>c2 c (ba 0 b) d g (λb d g=>c2 c (ao a d b) d g (λa b d=>c2 c (aF .eql a (.Z 1)) b d (λa b d=>kd f (λe=>dd (λa=>e a b d) λb=>a7 c (b a) (b (.bool false))) b d (λa b c=>dd (λa=>e a b c) λb=>a7 f (b (.bool true)) (b a)))))))))))))))))))))))))))))))))))) (g (ac b 136 f) c d))) λa=>a7 f (a (zC b 123 g 124 i 128 f) c d) (E (aF .eql g (.Z 20)) λe=>a (zD b 123 g 124 i 128 f 128 e) c d))) λa=>a7 c (e (.bool false) g h) (a (ac b 119 c) g h)) λa=>a7 c (a (.bool true)) (a d)))))))))))) λa=>a7 c (a (.bool true)) (a d)))))))))))) λa=>a7 g (a c) (a (.bool false))))))))) λa=>a7 c (e (.bool false) g i) (a (ac b 84 c) g i)) λa=>a7 c (a (.bool true)) (a d))))))))))))) λa=>a7 g (a (.bool true)) (a c)))))))))))) λa=>a7 c (e (.bool false) g h) (a (ac b 51 c) g h)) λa=>a7 c (a (.bool true)) (a d))))))) λa=>a7 c (a (.bool true)) (a g))))))))))))))) λa=>a7 g (a (.bool true)) (a c))))))) λe=>a7 i (E (eB [(.Z 0),(.bool false),(.bool false),(.bool false)] [(0,1,(.Z 2))]) λf=>E (ce a d 4 c f) λa=>e (zD (cS [b]) 2 (.bool false) 3 c 4 h 16 i) a g) (e (zD (cS [b]) 2 (.bool false) 3 c 4 h 16 i) d g)
def ahM:dh X 191 [a0] h j ai ay=U1 X a0 h j ai ay:=Zk
def ahL:cU X 191 1=true:=Zk
def U2(a:aZ)(b c:F)(d:V an)(e:Nat)(f g:bI):Prop:=
 E (dX b) λh=>aY (λ_ a b=>f (.Z (-1)) a b) λi=>fJ (λb c d e=>al (c 8) λh=>al (c 7) λj=>E (aF .lss h j) λh=>aY (λc d e=>aY (λa c d=>al (a 8) λe=>E (aF .add e (.Z 1)) λe=>b (ac a 8 e) c d) λb=>al (c 8) λh=>al (c 1) λi=>al (c 0) λj=>E (dW 1 j h) λj=>E (ao a d j) λj=>jn a i [j] d e (λa d e=>aY b λb=>a7 a (f h d e) (b (zB c 5 h 16 a) d e)) g) λa=>a7 h (a (ac c 9 h) d e) (i (ac c 9 h) d e)) (zC (cS [b,c]) 4 (.Z 0) 7 h 8 (.Z 0)) d e
def ahO:dh X 192 [a0,bh] h j ai ay=U2 X a0 bh h j ai ay:=Zk
def ahN:cU X 192 2=true:=Zk
def Vi(a:aZ)(b c d:F)(e:V an)(f:Nat)(g h:bI):Prop:=
 gw (Td a e f b) e f λe f i=>aY (λ_ a b=>g (.Z (-1)) a b) λj=>fJ (λb c d e=>al (c 10) λf=>ET (wB a kf true d e (kg f)) d e λd e f=>E (cM 0 d) λi=>aY (λc d e=>aY b λb=>al (c 11) λf=>E (cM 1 f) λf=>al (c 11) λi=>E (cM 2 i) λi=>al (c 1) λj=>jn a j [i] d e (λd e h=>al (c 2) λj=>E (dn a e .eql 4 false d j) λa=>aY b λb=>a7 a (g f e h) (b (zC c 7 f 8 i 19 a) e h)) h) λa=>a7 i (a (zB c 11 d 12 i) e f) (j (zB c 11 d 12 i) e f)) (zB (cS [b,c,d]) 6 (.Z 0) 10 e) f i
def aik:dh X 213 [a0,bh,cl] h j ai ay=Vi X a0 bh cl h j ai ay:=Zk
def aij:cU X 213 3=true:=Zk
def Vj(a:aZ)(b c:F)(d:V an)(e:Nat)(f _:bI):Prop:=
 E (dX b) λg=>aY (λ_ a b=>f (.Z (-1)) a b) λh=>fJ (λb c d e=>al (c 8) λg=>al (c 7) λi=>E (aF .lss g i) λg=>aY (λc d e=>aY (λa c d=>al (a 8) λe=>E (aF .add e (.Z 1)) λe=>b (ac a 8 e) c d) λb=>al (c 8) λg=>al (c 1) λh=>al (c 0) λi=>E (dW 1 i g) λi=>E (ao a d i) λi=>E (dn a d .eql 9 false h i) λa=>aY b λb=>a7 a (f g d e) (b (zB c 5 g 16 a) d e)) λa=>a7 g (a (ac c 9 g) d e) (h (ac c 9 g) d e)) (zC (cS [b,c]) 4 (.Z 0) 7 g 8 (.Z 0)) d e
def aim:dh X 214 [a0,bh] h j ai ay=Vj X a0 bh h j ai ay:=Zk
def ail:cU X 214 2=true:=Zk
def Vk(a:aZ)(b c:F)(d:V an)(e:Nat)(f g:bI):Prop:=
 aW a 236 [b,c] d e (λa b c=>E (aF .geq a (.Z 0)) λa=>f a b c) g
def aio:dh X 215 [a0,bh] h j ai ay=Vk X a0 bh h j ai ay:=Zk
def ain:cU X 215 2=true:=Zk
def Vl(a:aZ)(b:F)(c:V an)(d:Nat)(e f:bI):Prop:=
 E (cm b) λg=>E (ba 4 g) λg=>E (ba 2 g) λg=>E (ao a c g) λg=>E (cm b) λh=>E (ba 4 h) λh=>E (ba 1 h) λh=>E (ao a c h) λh=>aY (λb c d=>al (b 0) λg=>E (cm g) λg=>E (ba 0 g) λg=>E (ao a c g) λg=>E (aF .eql g (.Z 1)) λg=>lI g (b 0) c d (λc d h=>c2 g (cm c) d h (λc d h=>c2 g (ba 4 c) d h (λc d h=>c2 g (cg a d 3 c) d h (λc d h=>lH g (λb=>aW a 182 [c] d h b f) d h (λc d f=>dd (λc=>lI c (b 3) d f (λd f g=>c2 c (aF .eql d (.Z 64)) f g (λd f g=>jM c d f g (λd f g=>w7 d (b 0) f g (λf g h=>dp d (cm f) g h (λf g h=>dp d (ba 7 f) g h (λf g h=>dp d (ao a g f) g h (λa f g=>w7 d (b 3) f g (λb f g=>dp d (aF .shr a b) f g (λa b f=>dp d (aF .eql a (.int .u64 0)) b f (λa b f=>lH c (λc=>dd (λa=>c a b f) λb=>a7 d (b (.bool true)) (b a)) b f (λa b d=>dd (λa=>e a b d) λb=>a7 c (b a) (b (.bool false)))))))))))))) λa=>a7 g (a c) (a (.bool false)))))))) λa=>a7 h (E (aF .sub g (.Z 1)) λe=>a (zD (cS [b]) 2 (.bool false) 3 g 13 h 3 e) c d) (a (zC (cS [b]) 2 (.bool false) 3 g 13 h) c d)
def aiq:dh X 216 [a0] h j ai ay=Vl X a0 h j ai ay:=Zk
def aip:cU X 216 1=true:=Zk
def Vv(a:aZ)(b c:F)(d:V an)(e:Nat)(f _:bI):Prop:=
 E (dX b) λg=>aY (λ_ a b=>f (.Z (-1)) a b) λh=>fJ (λb c d e=>al (c 8) λg=>al (c 7) λi=>E (aF .lss g i) λg=>aY (λc d e=>aY (λa c d=>al (a 8) λe=>E (aF .add e (.Z 1)) λe=>b (ac a 8 e) c d) λb=>al (c 8) λg=>al (c 1) λh=>al (c 0) λi=>E (dW 1 i g) λi=>E (ao a d i) λi=>E (dn a d .eql 47 false h i) λa=>aY b λb=>a7 a (f g d e) (b (zB c 5 g 16 a) d e)) λa=>a7 g (a (ac c 9 g) d e) (h (ac c 9 g) d e)) (zC (cS [b,c]) 4 (.Z 0) 7 g 8 (.Z 0)) d e
def aiK:dh X 236 [a0,bh] h j ai ay=Vv X a0 bh h j ai ay:=Zk
def aiJ:cU X 236 2=true:=Zk
def aeq(a:aZ)(b:bI):gs:=λc d e=>mZ a [.tmp 2] b c c.bd d e
def adT(a:aZ)(b c:bI):rH:=λd e f g=>vm a [.tmp 2] b c d e d.bd f g
def VE(a:aZ)(b:F)(c:V an)(d:Nat)(e f:bI):Prop:=
 ip a c d b λc d g=>cQ a d g (.map g) (.map [] 0) λd g h=>E (eB [.lf, .aP] [(0,1,d)]) λd=>ip a g h d λd g h=>E (dT [.cz] h) λi=>cQ a g h i.1 i.2 λg h i=>E (ce a h 1 g d) λd=>E (cg a d 6 c) λh=>aW a 78 [h] d i (λd h i=>aY (λb c d=>al (b 1) λf=>E (ba 5 f) λf=>E (ao a c f) λf=>E (dX f) λg=>aY (λb c d=>al (b 3) λf=>E (ao a c f) λf=>aeq a e (ac b 2 f) c d) λe=>fJ (λb c d f=>al (c 56) λg=>al (c 55) λh=>E (aF .lss g h) λg=>aY (λc d e=>aY (λa c d=>al (a 56) λe=>E (aF .add e (.Z 1)) λe=>b (ac a 56 e) c d) λb=>al (c 56) λf=>al (c 54) λg=>al (c 56) λh=>E (dW 4 g h) λg=>E (cg a d 4 g) λg=>E (dT [.aP, .aP,(.Z 0), .cz] e) λh=>cQ a d e h.1 h.2 λd e h=>E (ce a e 4 d g) λe=>E (ba 0 d) λg=>E (ao a e g) λg=>E (dX g) λi=>aY b λb=>fJ (λc d e f=>al (d 64) λg=>al (d 63) λh=>E (aF .lss g h) λg=>aY (λb d e=>aY (λa b d=>al (a 64) λe=>E (aF .add e (.Z 1)) λe=>c (ac a 64 e) b d) λc=>al (b 64) λf=>al (b 62) λg=>al (b 64) λh=>E (dW 1 g h) λg=>E (ao a d g) λg=>al (b 3) λh=>E (ao a d h) λh=>E (cm h) λh=>E (ba 0 h) λh=>E (ao a d h) λh=>E (kr a d 9 (.agg [(.Z 0),(.str []),(.Z 0),(.bool false),(.bool false),(.Z 0),(.str []),(.Z 0),(.bool false),(.Z 0),(.Z 0)]) h g true) λh=>E (cM 0 h) λi=>E (cM 1 h) λh=>E (dT [(.Z 0),(.str []),(.Z 0),(.bool false),(.bool false),(.Z 0),(.str []),(.Z 0),(.bool false),(.Z 0),(.Z 0)] e) λj=>cQ a d e j.1 j.2 λd e j=>E (ce a e 11 d i) λe=>c2 h (ba 9 d) e j (λe i j=>c2 h (ao a i e) i j (λe i j=>c2 h (aF .lss e (.Z 0)) i j (λe i j=>dd (λe=>aY c λc=>a7 e (al (b 8) λk=>E (ba 9 d) λl=>E (ce a i 1 l k) λi=>E (ba 10 d) λk=>E (ce a i 1 k f) λi=>eV (j+7) λj=>al (b 3) λk=>E (ao a i k) λk=>E (cm k) λk=>E (ba 0 k) λk=>E (ao a i k) λk=>E (cg a i 11 d) λl=>gw (sp a i j 9 k g l) i j λ_ a i=>c (ac (zD b 10 f 11 g 12 d 13 h) 83 e) a i) (c (ac (zD b 10 f 11 g 12 d 13 h) 83 e) i j)) λa=>a7 h (a e) (a (.bool false)))))) λa=>a7 g (a (ac d 65 g) e f) (b (ac d 65 g) e f)) (ac (zD c 9 d 8 f 62 g 63 i) 64 (.Z 0)) e h) λa=>a7 g (a (ac c 57 g) d f) (e (ac c 57 g) d f)) (zC b 54 f 55 g 56 (.Z 0)) c d) λj=>DL a 97 d [19,20] (sz a (λ_ _ b _ _ c d e=>al (c 19) λf=>E (dT [(.str []),(.Z 0),(.bool false),(.bool false),(.Z 0),(.str []),(.Z 0),(.bool false)] e) λg=>cQ a d e g.1 g.2 λd e g=>al (c 20) λh=>E (ce a e 8 d h) λa=>b (zB c 4 f 5 d) a g) (λ_ _ b _ _ c d e=>aY b λb=>eV (e+13) λf=>al (c 3) λg=>E (ao a d g) λg=>E (cm g) λg=>E (ba 0 g) λg=>E (ao a d g) λg=>al (c 5) λh=>E (ba 0 h) λh=>E (ao a d h) λh=>E (kr a d 9 (.agg [(.Z 0),(.str []),(.Z 0),(.bool false),(.bool false),(.Z 0),(.str []),(.Z 0),(.bool false),(.Z 0),(.Z 0)]) g h true) λg=>E (cM 0 g) λh=>E (cM 1 g) λg=>E (dT [(.Z 0),(.str []),(.Z 0),(.bool false),(.bool false),(.Z 0),(.str []),(.Z 0),(.bool false),(.Z 0),(.Z 0)] (e+10)) λi=>kU a d (e+10) i.1 i.2 λd e=>E (ce a e 11 d h) λd=>E (fG .not g) λe=>aY b λb=>a7 e (eV (f+10) λf=>al (c 3) λh=>E (ao a d h) λh=>E (cm h) λh=>E (ba 0 h) λh=>E (ao a d h) λh=>al (c 5) λi=>E (ba 0 i) λi=>E (ao a d i) λi=>al (c 4) λj=>al (c 5) λk=>E (cg a d 8 k) λk=>E (eB [(.Z 0),(.str []),(.Z 0),(.bool false),(.bool false),(.Z 0),(.str []),(.Z 0),(.bool false),(.Z 0),(.Z 0)] [(0,1,j),(1,8,k),(9,1,(.Z (-1))),(10,1,(.Z (-1)))]) λj=>gw (sp a d f 9 h i j) d f λ_ d f=>eV (f+12) λh=>al (c 3) λi=>E (ao a d i) λi=>al (c 3) λj=>E (ao a d j) λj=>E (cm j) λj=>E (ba 1 j) λj=>E (ao a d j) λj=>al (c 5) λk=>E (ba 0 k) λk=>E (ao a d k) λk=>E (fg 1 [(.str [])] [(0,1,k)] (f+7)) λk=>kU a d (f+7) k.1 k.2 λd f=>gw (hC a f h 1 j d) f h λd f h=>E (cm i) λj=>E (ba 1 j) λj=>al (c 3) λk=>E (ao a f k) λk=>gG k (some i) (E (ce a f 1 j d) λa=>b (zB c 7 g 32 e) a h)) (b (zB c 7 g 32 e) d f))) j (Co 0 j (λ_ _ _ _=>False)) (aeq a e) (adT a e f) (zD (cS [b]) 1 c 2 .cz 3 g 18 d) h i) (adT a e f (hE [17,18] (zC (cS [b]) 1 c 2 .cz 3 g)))
def ai2:AB X 32 [a0] h j ai ay=VE X a0 h j ai ay:=Zk
def ai1:cU X 32 1=true:=Zk
def VF(a:aZ)(b c:F)(d:V an)(e:Nat)(f _:bI):Prop:=
 E (dT [(.Z 0),(.str []),(.Z 0),(.bool false),(.bool false),(.Z 0),(.str []),(.Z 0),(.bool false),(.Z 0),(.Z 0)] e) λg=>cQ a d e g.1 g.2 λd e g=>E (dn a e .eql 68 true b .cz) λh=>aY (λb c d=>al (b 0) λe=>E (cm e) λe=>E (ba 0 e) λe=>E (ao a c e) λe=>al (b 1) λg=>E (kr a c 9 (.agg [(.Z 0),(.str []),(.Z 0),(.bool false),(.bool false),(.Z 0),(.str []),(.Z 0),(.bool false),(.Z 0),(.Z 0)]) e g true) λe=>E (cM 0 e) λg=>E (cM 1 e) λe=>E (dT [(.Z 0),(.str []),(.Z 0),(.bool false),(.bool false),(.Z 0),(.str []),(.Z 0),(.bool false),(.Z 0),(.Z 0)] d) λh=>cQ a c d h.1 h.2 λc d h=>E (ce a d 11 c g) λd=>E (cg a d 11 c) λc=>al (b 4) λg=>E (ce a d 11 g c) λc=>al (b 4) λb=>E (cg a c 11 b) λa=>f (.tuple [a,e]) c h) λi=>a7 h (E (eB [(.Z 0),(.str []),(.Z 0),(.bool false),(.bool false),(.Z 0),(.str []),(.Z 0),(.bool false),(.Z 0),(.Z 0)] []) λb=>E (ce a e 11 d b) λb=>E (cg a b 11 d) λa=>f (.tuple [a,(.bool false)]) b g) (i (zC (cS [b,c]) 4 d 5 (.bool false) 9 h) e g)
def ai4:dh X 34 [a0,bh] h j ai ay=VF X a0 bh h j ai ay:=Zk
def ai3:cU X 34 2=true:=Zk
def Uj(a:aZ)(b:F)(c:V an)(d:Nat)(e f:bI):Prop:=
 ip a c d b λc d g=>aY (λb c d=>al (b 1) λb=>E (ba 2 b) λb=>E (ao a c b) λb=>aW a 183 [b] c d (λb c d=>E (dn a c .add 9 true (.str [117]) b) λa=>e a c d) f) λh=>E (cg a d 3 c) λi=>aW a 182 [i] d g (λd g i=>E (fG .not d) λd=>aY h λh=>a7 d (e (.str []) g i) (E (ba 0 c) λj=>E (ao a g j) λj=>aY h λh=>a7 j (e (.str [98,111,111,108]) g i) (E (ba 1 c) λk=>E (ao a g k) λk=>aY h λh=>a7 k (E (ba 2 c) λb=>E (ao a g b) λb=>aW a 183 [b] g i (λb c d=>E (dn a c .add 9 true (.str [105]) b) λa=>e a c d) f) (h (ac (zD (cS [b]) 1 c 2 (.str []) 3 d 7 j) 10 k) g i)))) f
def agu:dh X 128 [a0] h j ai ay=Uj X a0 h j ai ay:=Zk
def agt:cU X 128 1=true:=Zk
end
end Go.Proofs.YtpfajohmofnkfaaGreatDoor

namespace Go.Proofs.YtpfajohmofnkfaaGreatDoor
open Go.bi Go.aU
noncomputable section
def gK:Nat->bE->Nat
 |0,_=>0
 |B+1,J=>J.args.foldl (λa K=>max a (gK B K)) 0+1
def apW:∀B J,gK B J<=B:=by
 intro B
 induction B with
 |zero=>intro J;simp[gK]
 |succ B ak=>
  intro J
  have:∀(l:List bE) a,a<=B->l.foldl (λa K=>max a (gK B K)) a<=B:=by
   intro l
   induction l with
   |nil=>intro a gD;exact gD
   |cons K l I5=>intro a gD;exact I5 _ (Nat.max_le.2 ⟨gD,ak K⟩)
  have:=this J.args 0 Zo
  show _+1<=B+1
  omega
def atV{C:aZ}{h:V an}(K b:Nat):rN C h .max [3,3] [.Z (K:Int), .Z (b:Int)]=some (.Z ((max K b:Nat):Int)):=by
 show ov true (.Z (K:Int)) [.Z (b:Int)]=_
 simp only[ov,fw,tr,ZD]
 congr 2
 split<;>simp_all<;>omega
def NB{X:ck}{h:V an}(b:Nat):dn X h .eql 47 true (.ptr b 0) .cz=some (.bool false):=Zk
section
variable{X:ck}{h T a2 aS:V an}{j au aO bg aH bM:Nat}{aX:List Tok}{i:Nat}
def apH(aA:dz X):∀(B:Nat),B<=1000->∀h j P J v,(o X).a8<=j->cO X h P J v->(∀e,P e->e<j)->
 aW X 177 [v, .Z (B:Int)] h j (λae T au=>ae= .Z (gK B J:Nat)/\bq X h j T au) (λ_ _ _=>False):=by
 intro B
 induction B with
 |zero=>
  intro _ h j P J v aL bx bC
  refine zA aA (UN X) ?_
  rw[UO]
  unfold OC
  obtain⟨b,rfl,aj,_⟩:=bx.ptr
  have f1:=bC b aj
  refine cV @NB @Int.natCast_zero ⟨?_⟩
  exact⟨rfl,dU⟩
 |succ B ak=>
  intro aN h j P J v aL bx bC
  refine zA aA (UN X) ?_
  rw[UO]
  unfold OC
  obtain⟨b,a6,cH,bo,rfl,aj,a0,bh,cl,a3,a4,a5,hB,hY,iU,cC,has⟩:=bx.open
  have f1:=bC b aj
  have eD:=cC.len
  have A5:=has.len
  have kQ:((B+1:Nat):Int)=(B:Int)+1:=Zo
  have d:decide (((B+1:Nat):Int)=0)=false:=by simp;omega
  have bD:aF .sub (.Z ((B+1:Nat):Int)) (.Z 1)=some (.Z (B:Int)):=by rw[w3 Zo Zo];congr 2;omega
  have bp:=cC.many
  rw[Zn,A5]at bp
  rw[Zn,A5]at eD
  refine gA @NB @d @bD @iU @eD ⟨?_⟩
  refine fU (λm M T aV=>∃(aa:Nat) (a:Nat),M.g 1=some (.Z (B:Int))/\M.g 5=some (.Z (a:Int))/\M.g 19=some a6/\M.g 20=some (.Z (J.args.length:Int))/\M.g 21=some (.Z (aa:Int))/\aa+m=J.args.length/\a<=B/\bq X h j T aV/\gK (B+1) J=(J.args.drop aa).foldl (λa K=>max a (gK B K)) a+1)
   J.args.length ⟨0,0,bw,gc,bw,bw,gc,Zo,Zo,bq.refl _ _,by simp[gK]⟩ ?_
  rintro m M aS bg ⟨aa,a,t1,t5,xt,DX,TF,bG,gD,bK,b5⟩
  have ge:=bK.le
  have cF:=zy aa
  have fx:=zy a
  cases m with
  |zero=>
   have cP:=zu aa J.args.length
   rw[ZN Zo]at b5
   simp only[List.foldl_nil]at b5
   refine gA @TF @DX @t5 @cP @fx ⟨?_⟩
   exact⟨by first|rw[b5]|(simp only[b5];rfl),bK⟩
  |succ m=>
   have cP:=zv aa J.args.length
   obtain⟨K,aE⟩:=zw J.args aa
   obtain⟨v,bB,ao1⟩:=has.get aa K aE
   obtain⟨b4,b7,cN⟩:=(cC.ad λe H=>bK.ad e (bC e H)).one bB
   refine e7 @TF @DX @t5 @xt @t1 @cP (Za @b4 @b7) ⟨?_⟩
   refine(ak Zo aS bg P K v Zo (ao1.ad λe H=>bK.ad e (bC e H)) (λe H=>zt (bC e H))).Zm ?_
   rintro y2 bb bs ⟨rfl,cq⟩
   have iL:=cq.le
   have jh:rN X bb .max [3,3] [.Z (a:Int), .Z ((gK B K:Nat):Int)]=some (.Z ((max a (gK B K):Nat):Int)):=atV _ _
   refine er @jh @TF @cF ⟨?_⟩
   refine⟨m,Zo,aa+1,max a (gK B K),bf t1,bw,bf xt,bf DX,bw,Zo,Nat.max_le.2 ⟨gD,apW B K⟩,bK.trans cq, ?_⟩
   have aM:J.args.drop aa=K::J.args.drop (aa+1):=by
    obtain⟨ah,H⟩:=Zb.1 aE
    rw[Zv ah,H]
   rw[aM,Yo]at b5
   exact b5
end
def vf:List e9->Option Int
 |[]=>none
 |am::l=>if 200<gK 201 am.right then some am.at_ else vf l
def oZ:List Go.aU.Node->Option (Int×Int)
 |[]=>none
 |g::l=>if 256<g.eG.length+g.out.length+g.loc.length\/4096<g.eqs.length then some (30,g.at_)else match vf g.eqs with
  |some K=>some (22,K)
  |none=>oZ l
def n8(aq:List Go.aU.Node):Option (Int×Int):=match aq[64]? with
 |some g=>some (30,g.at_)
 |none=>oZ aq
section
variable{X:ck}{h T a2 aS:V an}{j au aO bg aH bM:Nat}{aX:List Tok}{i:Nat}
def apG(aA:dz X){P:Nat->Prop}{J:bE}{v:F}(aL:(o X).a8<=j)(bx:cO X h P J v)(bC:∀e,P e->e<j):
 aW X 118 [v] h j (λae T au=>ae= .Z (gK 201 J:Nat)/\bq X h j T au) (λ_ _ _=>False):=by
 refine zA aA (agj X) ?_
 rw[agk]
 unfold Ue
 exact(apH aA 201 Zo h j P J v aL bx bC)
def atB(aA:dz X){P:Nat->Prop}{aq:List Go.aU.Node}{v:F}(aL:(o X).a8<=j)(b5:nE X h P aq v)(bC:∀e,P e->e<j):
 aW X 69 [v] h j (λae T au=>n8 aq=none/\ae= .tuple []/\bq X h j T au) (λae T au=>∃B K,n8 aq=some (B,K)/\ae=oB B K/\bq X h j T au):=by
 refine zA aA (ajl X) ?_
 rw[ajm]
 unfold VR
 obtain⟨b,a6,cH,aR,rfl,nd,a0,cC,uz⟩:=b5
 have wP:=uz.wide
 have eD:=cC.len
 have i6:=cC.many
 rw[wP.1]at eD i6
 by_cases E1:64<aq.length
 ·obtain⟨g,aa8⟩:∃g,aq[64]? =some g:=⟨_,Ze E1⟩
  obtain⟨row,ft,jK⟩:=uz.get 64 g aa8
  have dZ:=cC.f2 64 Zo
  obtain⟨cY,dj,Tv,ev,c0,dL,ef,hQ,aev,rfl,_⟩:=jK
  have aB:=cC.cell 64 _ 1 _ ft rfl
  have d:decide ((64:Int)<(aq.length:Int))=true:=by simp;omega
  have ap2:dW 6 a6 (.Z 64)=some (.ptr cH (64*6)):=dZ
  refine gA @a0 @eD @d @ap2 @aB ⟨?_⟩
  refine⟨⟨30,g.at_,by simp[n8,aa8],rfl,bq.refl _ _⟩⟩
 ·have aC:n8 aq=oZ aq:=by simp[n8,ZG (by omega:aq.length<=64)]
  have d:decide ((64:Int)<(aq.length:Int))=false:=by simp;omega
  rw[aC]
  refine er @a0 @eD @d ⟨?_⟩
  refine fU (λm M T aV=>∃(aa:Nat),M.g 24=some a6/\M.g 25=some (.Z (aq.length:Int))/\M.g 26=some (.Z (aa:Int))/\aa+m=aq.length/\bq X h j T aV/\oZ aq=oZ (aq.drop aa))
   aq.length ⟨0,bw,bw,gc,Zo,bq.refl _ _,rfl⟩ ?_
  rintro m M aS bg ⟨aa,DY,l9,kZ,bG,bK,CP⟩
  have ge:=bK.le
  have cF:=zy aa
  cases m with
  |zero=>
   have cP:=zu aa aq.length
   rw[ZN Zo]at CP
   refine er @kZ @l9 @cP ⟨?_⟩
   exact⟨CP,rfl,bK⟩
  |succ m=>
   have cP:=zv aa aq.length
   obtain⟨g,nk⟩:=zw aq aa
   have aM:aq.drop aa=g::aq.drop (aa+1):=by
    obtain⟨ah,H⟩:=Zb.1 nk
    rw[Zv ah,H]
   rw[aM]at CP
   obtain⟨row,ft,jK⟩:=uz.get aa g nk
   have dZ:=cC.f2 aa Zo
   have ic:=(cC.ad λe H=>bK.ad e (bC e H)).row Zd ft
   have aqA:=jK.ad (bu:=P) (λe H=>bK.ad e (bC e H)) (λ_ a=>a)
   have wV:=jK.iz
   obtain⟨cY,dj,Tv,ev,c0,dL,ef,hQ,aev,rfl,cD,cp,dF,fL,l4⟩:=aqA
   have eg:=cD.len;have c5:=cp.len;have e6:=dF.len;have g0:=fL.len
   have e8:=cD.many;have fQ:=cp.many;have kt:=dF.many;have SE:=fL.many
   have afg:=l4.wide
   rw[Zn]at eg c5 e6 e8 fQ kt
   rw[afg.1]at g0 SE
   have fx:aF .add (.Z (g.eG.length:Int)) (.Z (g.out.length:Int))=some (.Z ((g.eG.length+g.out.length:Nat):Int)):=by rw[eT Zo Zo];rfl
   have jh:aF .add (.Z ((g.eG.length+g.out.length:Nat):Int)) (.Z (g.loc.length:Int))=some (.Z ((g.eG.length+g.out.length+g.loc.length:Nat):Int)):=by rw[eT Zo Zo];rfl
   refine iZ @kZ @l9 @DY @cP @dZ @ic ⟨?_⟩
   refine fF (h6 (B:=6) (b:=bg) (Y:=0) (n:=6) (c:=V.ofList [.str [], .Z 0, .aP, .aP, .aP, .aP] 0 .nil) (bm Zo) Zo rfl Zd Zd wV) ?_
   generalize fC:bn X _ bg _=bb
   have wt:ab X bb bg=some (.cells (dQ (V.ofList [.str [], .Z 0, .aP, .aP, .aP, .aP] 0 .nil) 0 [.str g.name, .Z g.at_,cY,dj,Tv,ev]) 6 .own):=by rw[<-fC];exact bm Zo
   have cq:bq X h j bb (bg+1):=bK.trans (by rw[<-fC];exact dU)
   have c4:∀e,P e->ab X bb e=ab X h e:=λe H=>cq.ad e (bC e H)
   clear fC
   have dt:ao X bb (.ptr bg 1)=some (.Z g.at_):=by rw[bR wt];rfl
   have dG:ao X bb (.ptr bg 2)=some cY:=by rw[bR wt];rfl
   have hd:ao X bb (.ptr bg 3)=some dj:=by rw[bR wt];rfl
   have wg:ao X bb (.ptr bg 4)=some Tv:=by rw[bR wt];rfl
   have jU:ao X bb (.ptr bg 5)=some ev:=by rw[bR wt];rfl
   by_cases an5:256<g.eG.length+g.out.length+g.loc.length
   ·have eQ:decide ((256:Int)<((g.eG.length+g.out.length+g.loc.length:Nat):Int))=true:=by simp;omega
    refine e7 @dt @dG @hd @wg @jU @eg (Za @c5 (Za @e6 (Za @g0 (Za @fx (Za @jh @eQ))))) ⟨?_⟩
    exact⟨⟨30,g.at_,by rw[CP,oZ,Zq (.inl an5)],rfl,cq⟩⟩
   have eQ:decide ((256:Int)<((g.eG.length+g.out.length+g.loc.length:Nat):Int))=false:=by simp;omega
   by_cases an6:4096<g.eqs.length
   ·have iq:decide ((4096:Int)<(g.eqs.length:Int))=true:=by simp;omega
    refine e7 @dt @dG @hd @wg @jU @eg (Za @c5 (Za @e6 (Za @g0 (Za @fx (Za @jh (Za @eQ @iq)))))) ⟨?_⟩
    exact⟨⟨30,g.at_,by rw[CP,oZ,Zq (.inr an6)],rfl,cq⟩⟩
   have iq:decide ((4096:Int)<(g.eqs.length:Int))=false:=by simp;omega
   refine e7 @dt @dG @hd @wg @jU @eg (Za @c5 (Za @e6 (Za @g0 (Za @fx (Za @jh (Za @eQ (Za @iq (Za @DY (Za @l9 @kZ))))))))) ⟨?_⟩
   have aj:oZ aq=(match vf g.eqs with|some K=>some (22,K)|none=>oZ (aq.drop (aa+1))):=by rw[CP,oZ,Zg Zo]
   have Fy:=fL.ad (T:=h) (λe H=>(bK.ad e (bC e H)).symm)
   have avK:=l4.ad (T:=h) (bu:=P) (λe H=>(bK.ad e (bC e H)).symm) (λ_ a=>a)
   refine fU (λkt M T aV=>∃(i:Nat),M.g 24=some a6/\M.g 25=some (.Z (aq.length:Int))/\M.g 26=some (.Z (aa:Int))/\M.g 53=some ev/\M.g 54=some (.Z (g.eqs.length:Int))/\M.g 55=some (.Z (i:Int))/\i+kt=g.eqs.length/\bq X h j T aV/\vf g.eqs=vf (g.eqs.drop i))
    g.eqs.length ⟨0,bf DY,bf l9,bf kZ,bw,bw,gc,Zo,cq,rfl⟩ ?_
   clear DY l9 kZ dt dG hd wg jU wt c4 cq
   rintro kt M bb bs ⟨i,DY,l9,kZ,pT,j8,pU,aJ,cq,CO⟩
   have iL:=cq.le
   cases kt with
   |zero=>
    have f5:=zu i g.eqs.length
    rw[ZN Zo]at CO
    refine gA @pU @j8 @f5 @kZ @cF ⟨?_⟩
    refine⟨m,Zo,aa+1,bf DY,bf l9,bw,Zo,cq, ?_⟩
    rw[aj,CO];rfl
   |succ kt=>
    have f5:=zv i g.eqs.length
    have pw:=zy i
    obtain⟨am,wY⟩:=zw g.eqs i
    have apt:g.eqs.drop i=am::g.eqs.drop (i+1):=by
     obtain⟨ah,H⟩:=Zb.1 wY
     rw[Zv ah,H]
    rw[apt,vf]at CO
    obtain⟨row,ft,sb⟩:=avK.get i am wY
    have ap3:=fL.f2 i (by rw[afg.1];omega)
    have IP:=(Fy.ad λe H=>cq.ad e (bC e H)).row Zd ft
    obtain⟨akc,aka,ay4,ay5,lL,rfl,_,_,FC,nW⟩:=sb
    refine iZ @pU @j8 @pT @f5 @ap3 @IP ⟨?_⟩
    refine fF (h6 (B:=4) (b:=bs) (Y:=0) (n:=4) (c:=V.ofList [.aP, .aP, .Z 0, .cz] 0 .nil) (bm Zo) Zo rfl Zd Zd nW) ?_
    generalize fl:bn X _ bs _=bF
    have HS:ab X bF bs=some (.cells (dQ (V.ofList [.aP, .aP, .Z 0, .cz] 0 .nil) 0 [akc,aka, .Z am.at_,lL]) 4 .own):=by rw[<-fl];exact bm Zo
    have dv:bq X bb bs bF (bs+1):=by rw[<-fl];exact dU
    have E3:=cq.trans dv
    clear fl
    have hd:ao X bF (.ptr bs 3)=some lL:=by rw[bR HS];rfl
    refine ci @hd ⟨?_⟩
    refine(apG aA Zo (FC.ad λe H=>E3.ad e (bC e H)) (λe H=>zt (bC e H))).Zm ?_
    rintro D6 bX b2 ⟨rfl,dH⟩
    have h5:=dH.le
    have dG:ao X bX (.ptr bs 2)=some (.Z am.at_):=by rw[bR (by rw[dH.ad _ Zo];exact HS)];rfl
    by_cases gD:200<gK 201 am.right
    ·have iV:decide ((200:Int)<((gK 201 am.right:Nat):Int))=true:=by simp;omega
     rw[Zq gD]at CO
     refine cV @iV @dG ⟨?_⟩
     exact⟨⟨22,am.at_,by rw[aj,CO],rfl,E3.trans dH⟩⟩
    ·have iV:decide ((200:Int)<((gK 201 am.right:Nat):Int))=false:=by simp;omega
     rw[Zg gD]at CO
     refine er @iV @pU @pw ⟨?_⟩
     exact⟨kt,Zo,i+1,bf DY,bf l9,bf kZ,bf pT,bf j8,bw,Zo,E3.trans dH,CO⟩
end
end
end Go.Proofs.YtpfajohmofnkfaaGreatDoor

