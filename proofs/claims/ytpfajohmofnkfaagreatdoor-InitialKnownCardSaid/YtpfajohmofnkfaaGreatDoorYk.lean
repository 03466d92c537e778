/- A part of the proof of the claim's last text: what it is used for is said there; no condition of its own. -/
import Derived.Test.YtpfajohmofnkfaaGreatDoorYj
set_option maxHeartbeats 8000000
set_option linter.all false
namespace Go.Proofs.YtpfajohmofnkfaaGreatDoor
open Go.bg
noncomputable section
variable (X : ck) (h : S ak) (j : Nat) (ah aw : bG) (a0 bd cg a3 a4 a5 hz h0 hA : H)
def Ul(a:aW)(b c:H)(d:S ak)(e:Nat)(f g:bG):Prop:=
 B (dj a d .eql 47 true b .cq) λh=>g5 h c d e (λd e i=>g5 h b e i (λe i j=>km h (λb=>ih a d [e] i j b g) i j (λd e i=>cU h (fz .not d) e i (λd e i=>cW (λd=>aQ (λb c d=>aj (b 0) λe=>B (cf e) λe=>B (aZ 8 e) λe=>B (am a c e) λe=>B (d8 e) λh=>aQ (λ_ a b=>f (.tuple []) a b) λf=>fj (λb c d e=>aj (c 19) λh=>aj (c 18) λi=>B (aA .lss h i) λh=>aQ (λc d e=>aQ (λa c d=>aj (a 19) λe=>B (aA .add e (.Z 1)) λe=>b (ab a 19 e) c d) λb=>aj (c 17) λf=>aj (c 19) λh=>B (dC 1 f h) λf=>B (am a d f) λf=>aj (c 1) λh=>aR a 18 [f,h] d e (λ_ a d=>b (ab c 5 f) a d) g) λa=>aV h (a (ab c 20 h) d e) (f (ab c 20 h) d e)) (ab (ab (ab b 17 e) 18 h) 19 (.Z 0)) c d) λa=>aV d (f (.tuple []) e i) (a (ab (cP [b,c]) 13 d) e i)) λa=>aV h (a (.bool true)) (a d)))))
def agD:db X 18 [a0,bd] h j ah aw=Ul X a0 bd h j ah aw:=Zk
def agC:cS X 18 2=true:=Zk
def Uy(a:aW)(b:H)(c:S ak)(d:Nat)(e f:bG):Prop:=
 B (dA [(.Z 0),(.Z 0)] d) λg=>cO a c d g.1 g.2 λc d g=>aR a 40 [b] d g (λd g h=>B (aA .neq d (.Z 0)) λd=>aQ (λb c d=>aj (b 0) λg=>B (cf g) λg=>B (aZ 0 g) λg=>B (am a c g) λg=>B (d8 g) λh=>aQ (λb c d=>B (eA [(.Z 0),(.Z 0)] []) λf=>aj (b 2) λg=>B (b7 a c 2 g f) λc=>aj (b 2) λb=>B (b6 a c 2 b) λa=>e a c d) λi=>fj (λb c d g=>aj (c 15) λh=>aj (c 14) λj=>B (aA .lss h j) λh=>aQ (λc d g=>aQ (λa c d=>aj (a 15) λe=>B (aA .add e (.Z 1)) λe=>b (ab a 15 e) c d) λb=>aj (c 15) λh=>aj (c 13) λi=>aj (c 15) λj=>B (dC 6 i j) λi=>B (b6 a d 6 i) λi=>B (dA [(.str []),(.Z 0), .aT, .aT, .aT, .aT] g) λj=>cO a d g j.1 j.2 λd g j=>B (b7 a g 6 d i) λg=>aj (c 0) λi=>B (b6 a g 6 d) λk=>aR a 32 [k] g j (λg j k=>cO a j k (.map k) (.map [] 0) λj k l=>B (eA [.cq,(.Z 0), .cq, .lT,(.Z 0),(.Z 0)] [(0,1,i),(1,1,h),(2,1,g),(3,1,j)]) λg=>ia a k l g λg i j=>aR a 71 [g] i j (λ_ f i=>B (cf g) λj=>B (aZ 4 j) λj=>B (aZ 0 j) λj=>B (am a f j) λj=>B (aA .neq j (.Z 0)) λj=>aQ b λb=>aV j (B (cf g) λb=>B (aZ 4 b) λb=>B (b6 a f 2 b) λb=>aj (c 2) λd=>B (b7 a f 2 d b) λb=>aj (c 2) λc=>B (b6 a b 2 c) λa=>e a b i) (b (ab (ab (ab (ab c 4 d) 3 h) 5 g) 34 j) f i)) f) f) λa=>aV h (a (ab c 16 h) d g) (i (ab c 16 h) d g)) (ab (ab (ab b 13 g) 14 h) 15 (.Z 0)) c d) λf=>aV d (B (eA [(.Z 0),(.Z 0)] [(0,1,(.Z 1))]) λb=>B (b7 a g 2 c b) λb=>B (b6 a b 2 c) λa=>e a b h) (f (ab (ab (cP [b]) 2 c) 8 d) g h)) f
def ag7:db X 20 [a0] h j ah aw=Uy X a0 h j ah aw:=Zk
def ag6:cS X 20 1=true:=Zk
def Va(a:aW)(b:H)(c:S ak)(d:Nat)(e f:bG):Prop:=
 B (dj a c .eql 23 true b .cq) λg=>g5 g b c d (λc d h=>cU g (cf c) d h (λc d h=>cU g (aZ 0 c) d h (λc d h=>cU g (am a d c) d h (λc d h=>cU g (d8 c) d h (λc d h=>cU g (aA .eql c (.Z 0)) d h (λc d h=>cW (λc=>g5 c b d h (λd g h=>cU c (cf d) g h (λd g h=>cU c (aZ 0 d) g h (λd g h=>cU c (am a g d) g h (λd g h=>cU c (d8 d) g h (λd g h=>cU c (aA .gtr d (.Z 64)) g h (λd g h=>cW (λc=>aQ (λb c d=>aj (b 0) λg=>B (cf g) λg=>B (aZ 0 g) λg=>B (am a c g) λg=>B (d8 g) λh=>aQ (λa b c=>aj (a 3) λa=>e a b c) λi=>fj (λb c d g=>aj (c 30) λh=>aj (c 29) λj=>B (aA .lss h j) λh=>aQ (λc d g=>aQ (λa c d=>aj (a 30) λe=>B (aA .add e (.Z 1)) λe=>b (ab a 30 e) c d) λb=>aj (c 28) λh=>aj (c 30) λi=>B (dC 6 h i) λh=>B (b6 a d 6 h) λh=>B (dA [(.str []),(.Z 0), .aT, .aT, .aT, .aT] g) λi=>cO a d g i.1 i.2 λd g i=>B (b7 a g 6 d h) λg=>B (b6 a g 6 d) λh=>aR a 92 [h] g i (λa f g=>aQ b λb=>B (aA .eql a (.Z 1)) λh=>aQ b λb=>aV h (e a f g) (B (aA .eql a (.Z 22)) λe=>aQ b λb=>aV e (b (ab (ab (ab (ab (ab (ab c 5 d) 6 a) 36 a) 37 h) 40 e) 3 a) f g) (b (ab (ab (ab (ab (ab c 5 d) 6 a) 36 a) 37 h) 40 e) f g))) f) λa=>aV h (a (ab c 31 h) d g) (i (ab c 31 h) d g)) (ab (ab (ab (ab b 3 (.Z 0)) 28 g) 29 h) 30 (.Z 0)) c d) λa=>aV c (e (.Z 1) g h) (a (ab (ab (cP [b]) 2 (.Z 0)) 24 c) g h)) λa=>aV c (a (.bool true)) (a d)))))))) λa=>aV g (a (.bool true)) (a c)))))))
def ah1:db X 40 [a0] h j ah aw=Va X a0 h j ah aw:=Zk
def ah0:cS X 40 1=true:=Zk
def adE(a:aW)(b:bG):gn:=λc d e=>m6 a [] b c c.bb d e
def DL(a:aW)(b c:bG):rJ:=λd e f g=>vo a [] b c d e d.bb f g
def Vj(a:aW)(b:H)(c:S ak)(d:Nat)(e f:bG):Prop:=
 ia a c d b λc d g=>eZ (g+15) λh=>B (am a d c) λi=>B (cf i) λi=>B (aZ 0 i) λi=>B (am a d i) λi=>B (cf i) λi=>B (aZ 0 i) λi=>B (am a d i) λi=>B (am a d c) λj=>B (cf j) λj=>B (aZ 1 j) λj=>B (am a d j) λj=>B (dC 6 i j) λi=>B (b6 a d 6 i) λi=>B (dA [(.str []),(.Z 0), .aT, .aT, .aT, .aT] (g+13)) λj=>k4 a d (g+13) j.1 j.2 λd g=>B (b7 a g 6 d i) λg=>eZ (h+12) λh=>B (am a g c) λi=>B (cf i) λi=>B (aZ 0 i) λi=>B (am a g i) λi=>B (aZ 0 d) λj=>B (am a g j) λj=>aR a 79 [i,j] g h (λg h i=>B (cN 0 g) λj=>B (cN 1 g) λ_=>B (am a h c) λg=>B (cf g) λg=>B (aZ 1 g) λg=>B (am a h g) λg=>B (aA .lss j g) λg=>aQ (λb c d=>aj (b 1) λg=>B (am a c g) λg=>aj (b 2) λh=>B (b6 a c 6 h) λh=>aR a 120 [g,h] c d (λ_ c d=>aj (b 2) λg=>B (aZ 5 g) λg=>B (am a c g) λg=>B (d8 g) λh=>aQ (λb c d=>aj (b 2) λg=>B (b6 a c 6 g) λg=>aR a 78 [g] c d (λc d g=>aQ (λb c d=>adE a e b c d) λh=>DO a 103 c [85,86] (sB a (λ_ _ b _ _ c d e=>aj (c 85) λf=>B (dA [(.str []),(.Z 0),(.bool false),(.bool false),(.Z 0),(.str []),(.Z 0),(.bool false)] e) λg=>cO a d e g.1 g.2 λd e g=>aj (c 86) λh=>B (b7 a e 8 d h) λa=>b (ab (ab c 10 f) 11 d) a g) (λ_ b c _ _ d e f=>aQ c λc=>eZ (f+12) λf=>aj (d 10) λg=>B (aA .neq g (.Z 1)) λg=>RB g (d 1) (λb=>am a e b) e (λe h=>gs g (cf e) h (λe h=>gs g (aZ 3 e) h (λe h=>gs g (am a h e) h (λe h=>RB g (d 11) (λa=>aZ 0 a) h (λh i=>gs g (am a i h) i (λh i=>gs g (ma a i 9 (.Z 0) e h false) i (λe h=>gs g (aA .eql e (.Z 0)) h (λe h=>cW (λe=>aQ c λc=>aV e (aj (d 1) λg=>B (am a h g) λg=>aj (d 11) λi=>B (aZ 1 i) λi=>B (am a h i) λi=>aR a 119 [g,(.Z 37),i] h f (λ_ a b=>c (ab d 98 e) a b) (b (hC [99,100,101,102] (ab d 98 e)))) (c (ab d 98 e) h f)) λa=>aV g (a e) (a (.bool false)))))))))))) h (Cp 4 h (λ_ _ _ _=>False)) (adE a e) (DL a e f) (ab b 84 c) d g) (DL a e f (hC [83,84] b))) λi=>fj (λb c d g=>aj (c 51) λh=>aj (c 50) λj=>B (aA .lss h j) λh=>aQ (λc d g=>aQ (λa c d=>aj (a 51) λe=>B (aA .add e (.Z 1)) λe=>b (ab a 51 e) c d) λb=>aj (c 49) λh=>aj (c 51) λi=>B (dC 4 h i) λh=>B (b6 a d 4 h) λh=>B (dA [.aT, .aT,(.Z 0), .cq] g) λi=>cO a d g i.1 i.2 λd g i=>B (b7 a g 4 d h) λg=>B (aZ 0 d) λh=>B (am a g h) λh=>B (d8 h) λj=>aQ (λc d g=>aj (c 1) λh=>B (am a d h) λh=>aj (c 6) λi=>B (aZ 3 i) λi=>B (am a d i) λi=>aR a 122 [h,i] d g (λ_ a d=>b c a d) (DL a e f (hC [78,79,80,81] c))) λb=>fj (λc d g h=>aj (d 58) λi=>aj (d 57) λj=>B (aA .lss i j) λi=>aQ (λb d g=>aQ (λa b d=>aj (a 58) λe=>B (aA .add e (.Z 1)) λe=>c (ab a 58 e) b d) λc=>aj (b 58) λh=>aj (b 56) λi=>aj (b 58) λj=>B (dC 1 i j) λi=>B (am a d i) λi=>aj (b 6) λj=>B (aZ 1 j) λj=>B (am a d j) λj=>B (d8 j) λj=>B (aA .lss h j) λj=>aQ (λb d g=>aj (b 1) λh=>B (am a d h) λh=>aj (b 8) λi=>aj (b 9) λj=>aR a 121 [h,i,j] d g (λ_ a d=>c b a d) (DL a e f (hC [73,74,75,76] b))) λc=>aV j (aj (b 6) λe=>B (aZ 1 e) λe=>B (am a d e) λe=>B (dC 1 e h) λe=>B (am a d e) λa=>c (ab (ab (ab (ab (ab b 7 h) 8 i) 9 (.Z 0)) 67 j) 9 a) d g) (c (ab (ab (ab (ab b 7 h) 8 i) 9 (.Z 0)) 67 j) d g)) λa=>aV i (a (ab d 59 i) g h) (b (ab d 59 i) g h)) (ab (ab (ab (ab c 6 d) 56 h) 57 j) 58 (.Z 0)) g i) λa=>aV h (a (ab c 52 h) d g) (i (ab c 52 h) d g)) (ab (ab (ab b 49 g) 50 h) 51 (.Z 0)) c d) (DL a e f (hC [45,46,47] b))) λk=>aV g (B (am a h c) λl=>B (aZ 1 d) λm=>B (am a h m) λm=>aR a 119 [l,(.Z 24),m] h i (λ_ a e=>k (ab (ab (ab (ab (cP [b]) 1 c) 2 d) 3 j) 40 g) a e) (DL a e f (hC [41,42,43,44] (ab (ab (ab (ab (cP [b]) 1 c) 2 d) 3 j) 40 g)))) (k (ab (ab (ab (ab (cP [b]) 1 c) 2 d) 3 j) 40 g) h i)) (DL a e f (hC [26,27,28,29,30,31,32,25,33,34,3,4] (ab (ab (cP [b]) 1 c) 2 d)))
def aih:AC X 71 [a0] h j ah aw=Vj X a0 h j ah aw:=Zk
def aig:cS X 71 1=true:=Zk
def Vm(a:aW)(b:H)(c:S ak)(d:Nat)(e _:bG):Prop:=
 ia a c d b λa b c=>e (.func (.func 132) [] [a]) b c
def ail:db X 78 [a0] h j ah aw=Vm X a0 h j ah aw:=Zk
def aik:cS X 78 1=true:=Zk
def Vn(a:aW)(b c:H)(d:S ak)(e:Nat)(f g:bG):Prop:=
 ia a d e c λd e h=>B (dj a e .eql 23 true b .cq) λi=>aQ (λb c d=>aj (b 0) λe=>B (cf e) λe=>B (aZ 0 e) λe=>B (am a c e) λe=>aj (b 3) λb=>aR a 133 [e,(.func (.func 134) [] [b])] c d (λb c d=>B (pV a c .max [3,3] [b,(.Z 0)]) λa=>B (aA .geq b (.Z 0)) λb=>f (.tuple [a,b]) c d) g) λa=>aV i (f (.tuple [(.Z 0),(.bool false)]) e h) (a (ab (ab (ab (ab (cP [b,c]) 3 d) 4 (.Z 0)) 5 (.bool false)) 8 i) e h)
def ain:db X 79 [a0,bd] h j ah aw=Vn X a0 bd h j ah aw:=Zk
def aim:cS X 79 2=true:=Zk
def Vp(a:aW)(b:H)(c:S ak)(d:Nat)(e f:bG):Prop:=
 ia a c d b λc d g=>B (aZ 2 c) λh=>B (am a d h) λh=>B (d8 h) λh=>B (aZ 3 c) λi=>B (am a d i) λi=>B (d8 i) λi=>B (aA .add h i) λh=>B (aZ 4 c) λi=>B (am a d i) λi=>B (d8 i) λi=>B (aA .add h i) λh=>B (aZ 0 c) λi=>B (am a d i) λi=>aR a 140 [i] d g (λd g i=>B (fz .not d) λd=>cU d (aZ 3 c) g i (λg i j=>cU d (am a i g) i j (λg i j=>cU d (d8 g) i j (λg i j=>cU d (aA .eql g (.Z 0)) i j (λg i j=>cW (λd=>g5 d h i j (λg i j=>cU d (aA .gtr g (.Z 256)) i j (λg i j=>cW (λd=>cU d (aZ 5 c) i j (λg i j=>cU d (am a i g) i j (λg i j=>cU d (d8 g) i j (λg i j=>cU d (aA .gtr g (.Z 4096)) i j (λg i j=>cW (λd=>cU d (aZ 2 c) i j (λg i j=>cU d (am a i g) i j (λg i j=>cU d (aZ 3 c) i j (λi j k=>cU d (am a j i) j k (λi j k=>cU d (aZ 4 c) j k (λj k l=>cU d (am a k j) k l (λj k l=>km d (λb=>B (ft 3 [.aT, .aT, .aT] [(0,1,g),(1,1,i),(2,1,j)] l) λc=>cO a k l c.1 c.2 λa c d=>b a c d) k l (λg i j=>km d (λb=>aR a 142 [g] i j b f) i j (λg i j=>km d (λb=>aR a 141 [g] i j b f) i j (λg i j=>cU d (fz .not g) i j (λg i j=>cW (λd=>aQ (λb c d=>aj (b 1) λg=>B (aZ 5 g) λg=>B (am a c g) λg=>B (d8 g) λh=>aQ (λa b c=>aj (a 4) λa=>e a b c) λi=>fj (λb c d g=>aj (c 55) λh=>aj (c 54) λj=>B (aA .lss h j) λh=>aQ (λc d g=>aQ (λa c d=>aj (a 55) λe=>B (aA .add e (.Z 1)) λe=>b (ab a 55 e) c d) λb=>aj (c 53) λh=>aj (c 55) λi=>B (dC 4 h i) λh=>B (b6 a d 4 h) λh=>B (dA [.aT, .aT,(.Z 0), .cq] g) λi=>cO a d g i.1 i.2 λd g i=>B (b7 a g 4 d h) λg=>B (aZ 3 d) λh=>B (am a g h) λh=>aR a 144 [h] g i (λg h i=>B (aZ 0 d) λj=>B (am a h j) λj=>B (d8 j) λj=>B (aA .eql j (.Z 0)) λj=>cU j (aZ 0 d) h i (λh i k=>cU j (am a i h) i k (λh i k=>g5 j (.func (.func 143) [] []) i k (λi k l=>km j (λb=>aR a 145 [h,i] k l b f) k l (λa f h=>cW (λa=>g5 a g f h (λf h i=>cU a (aA .eql f (.Z 1)) h i (λf h i=>cW (λa=>aQ (λa c d=>aj (a 8) λe=>B (aA .neq e (.Z 0)) λe=>aQ b λb=>aV e (aj (a 8) λf=>b (ab (ab a 77 e) 4 f) c d) (b (ab a 77 e) c d)) λb=>aV a (e (.Z 1) h i) (b (ab (ab (ab (ab c 6 d) 7 (.func (.func 143) [] [])) 8 g) 75 a) h i)) λb=>aV a (b (.bool true)) (b f)))) λb=>aV j (b (.bool true)) (b a)))))) f) λa=>aV h (a (ab c 56 h) d g) (i (ab c 56 h) d g)) (ab (ab (ab (ab b 4 (.Z 0)) 53 g) 54 h) 55 (.Z 0)) c d) λa=>aV d (e (.Z 1) i j) (a (ab (ab (ab (ab (cP [b]) 1 c) 2 (.Z 0)) 3 h) 51 d) i j)) λa=>aV d (a (.bool true)) (a g)))))))))))) λa=>aV d (a (.bool true)) (a g)))))) λa=>aV d (a (.bool true)) (a g)))) λa=>aV d (a (.bool true)) (a g)))))) f
def air:db X 92 [a0] h j ah aw=Vp X a0 h j ah aw:=Zk
def aiq:cS X 92 1=true:=Zk
def TG(a:aW)(b:H)(c:S ak)(d:Nat)(e f:bG):Prop:=
 aR a 177 [b,(.Z 201)] c d e f
def afa:db X 118 [a0] h j ah aw=TG X a0 h j ah aw:=Zk
def ae9:cS X 118 1=true:=Zk
def TH(a:aW)(b c d:H)(e:S ak)(f:Nat)(g _:bG):Prop:=
 B (cf b) λh=>B (aZ 4 h) λh=>B (aZ 0 h) λh=>B (am a e h) λh=>B (aA .eql h (.Z 0)) λh=>aQ (λ_ a b=>g (.tuple []) a b) λg=>aV h (B (eA [(.Z 0),(.Z 0)] [(0,1,c),(1,1,d)]) λi=>B (cf b) λj=>B (aZ 4 j) λj=>B (b7 a e 2 j i) λa=>g (ab (cP [b,c,d]) 11 h) a f) (g (ab (cP [b,c,d]) 11 h) e f)
def afc:db X 119 [a0,bd,cg] h j ah aw=TH X a0 bd cg h j ah aw:=Zk
def afb:cS X 119 3=true:=Zk
def SC(a:aW)(b:bG):gn:=λc d e=>m6 a [] b c c.bb d e
def Ns(a:aW)(b c:bG):rJ:=λd e f g=>vo a [] b c d e d.bb f g
def TI(a:aW)(b c:H)(d:S ak)(e:Nat)(f g:bG):Prop:=
 ia a d e b λd e h=>ia a e h c λe h i=>cO a h i (.map i) (.map [] 0) λh i j=>B (dA [.lT] j) λk=>cO a i j k.1 k.2 λi j k=>B (b7 a j 1 i h) λh=>B (b6 a h 6 e) λj=>aR a 78 [j] h k (λh j k=>aQ (λb c d=>aj (b 3) λe=>B (b6 a c 6 e) λe=>aR a 78 [e] c d (λc d e=>aQ (λb c d=>SC a f b c d) λh=>DO a 54 c [31,32] (sB a (λ_ _ b _ _ c d e=>B (dA [(.str []),(.Z 0),(.bool false),(.bool false),(.Z 0),(.str []),(.Z 0),(.bool false)] e) λf=>cO a d e f.1 f.2 λd e f=>aj (c 32) λg=>B (b7 a e 8 d g) λa=>b (ab c 8 d) a f) (λ_ b c _ _ d e f=>aQ c λc=>eZ (f+13) λg=>aj (d 2) λh=>B (am a e h) λh=>B (cf h) λh=>B (aZ 2 h) λh=>B (am a e h) λh=>aj (d 8) λi=>B (aZ 5 i) λi=>B (am a e i) λi=>B (dA [(.Z 0),(.str []),(.Z 0),(.bool false),(.bool false),(.Z 0),(.str []),(.Z 0),(.bool false),(.Z 0),(.Z 0)] (f+10)) λj=>k4 a e (f+10) j.1 j.2 λe f=>aR a 34 [h,i] f g (λf g h=>B (cN 0 f) λi=>B (cN 1 f) λf=>B (b7 a g 11 e i) λe=>B (fz .not f) λg=>MR g (d 8) (λa=>aZ 5 a) e h (λe h i=>cV g (am a h e) h i (λe h i=>cV g (dj a h .neq 9 true e (.str [])) h i (λe h i=>cW (λe=>aQ c λc=>aV e (aj (d 2) λg=>B (am a h g) λg=>aj (d 8) λj=>B (aZ 6 j) λj=>B (am a h j) λj=>aR a 119 [g,(.Z 23),j] h i (λ_ a b=>c (ab (ab d 10 f) 49 e) a b) (b (hC [50,51,52,53] (ab (ab d 10 f) 49 e)))) (c (ab (ab d 10 f) 49 e) h i)) λa=>aV g (a e) (a (.bool false)))))) (b (hC [34,35,36,37,38,39,40,33,41,42,9,10] d)))) h (Cp 2 h (λ_ _ _ _=>False)) (SC a f) (Ns a f g) (ab b 30 c) d e) (Ns a f g (hC [29,30] b))) λl=>DO a 54 h [14,15] (sB a (λ_ _ b _ _ c d e=>aj (c 14) λf=>B (dA [(.str []),(.Z 0),(.bool false),(.bool false),(.Z 0),(.str []),(.Z 0),(.bool false)] e) λg=>cO a d e g.1 g.2 λd e g=>aj (c 15) λh=>B (b7 a e 8 d h) λa=>b (ab (ab c 5 f) 6 d) a g) (λ_ b c _ _ d e f=>aQ c λc=>aj (d 4) λg=>B (am a e g) λg=>aj (d 6) λh=>B (aZ 0 h) λh=>B (am a e h) λh=>B (ma a e 9 (.Z 0) g h false) λg=>B (aA .gtr g (.Z 0)) λg=>aQ (λb d e=>aj (b 4) λf=>B (am a d f) λf=>aj (b 6) λg=>B (aZ 0 g) λg=>B (am a d g) λg=>aj (b 5) λh=>gO (vj a d e 9 f g h) d e λ_ a d=>c b a d) λc=>aV g (aj (d 2) λh=>B (am a e h) λh=>aj (d 6) λi=>B (aZ 1 i) λi=>B (am a e i) λi=>aR a 119 [h,(.Z 24),i] e f (λ_ a b=>c (ab d 20 g) a b) (b (hC [21,22,23,24] (ab d 20 g)))) (c (ab d 20 g) e f))) l (Cp 0 l (λ_ _ _ _=>False)) (SC a f) (Ns a f g) (ab (ab (ab (ab (cP [b,c]) 2 d) 3 e) 4 i) 13 h) j k) (Ns a f g (hC [12,13] (ab (ab (ab (cP [b,c]) 2 d) 3 e) 4 i)))
def afe:AC X 120 [a0,bd] h j ah aw=TI X a0 bd h j ah aw:=Zk
def afd:cS X 120 2=true:=Zk
def TJ(a:aW)(b c d:H)(e:S ak)(f:Nat)(g h:bG):Prop:=
 B (cf b) λi=>B (aZ 2 i) λi=>B (am a e i) λi=>aR a 34 [i,c] e f (λe f i=>B (cN 0 e) λj=>B (cN 1 e) λe=>B (dA [(.Z 0),(.str []),(.Z 0),(.bool false),(.bool false),(.Z 0),(.str []),(.Z 0),(.bool false),(.Z 0),(.Z 0)] i) λk=>cO a f i k.1 k.2 λf i k=>B (b7 a i 11 f j) λi=>B (cf b) λj=>B (aZ 3 j) λj=>B (am a i j) λj=>B (ma a i 9 (.Z 0) j c false) λl=>B (aA .add l (.Z 1)) λl=>gO (vj a i k 9 j c l) i k λ_ i j=>aQ (λ_ a b=>g (.tuple []) a b) λg=>B (fz .not e) λk=>aQ g λg=>aV k (aR a 119 [b,(.Z 23),d] i j (λ_ a h=>g (ab (ab (ab (cP [b,c,d]) 6 f) 7 e) 24 k) a h) h) (B (aZ 0 f) λl=>B (am a i l) λl=>B (aA .eql l (.Z 1)) λl=>g5 l b i j (λi j m=>cU l (cf i) j m (λi j m=>cU l (aZ 3 i) j m (λi j m=>cU l (am a j i) j m (λi j m=>g5 l c j m (λj m n=>cU l (ma a m 9 (.Z 0) i j false) m n (λi j m=>cU l (aA .gtr i (.Z 1)) j m (λi j m=>cW (λi=>aQ g λg=>aV i (aR a 119 [b,(.Z 24),d] j m (λ_ a h=>g (ab (ab (ab (ab (cP [b,c,d]) 6 f) 7 e) 24 k) 30 i) a h) h) (g (ab (ab (ab (ab (cP [b,c,d]) 6 f) 7 e) 24 k) 30 i) j m)) λa=>aV l (a (.bool true)) (a i)))))))))) h
def afg:db X 121 [a0,bd,cg] h j ah aw=TJ X a0 bd cg h j ah aw:=Zk
def aff:cS X 121 3=true:=Zk
def TK(a:aW)(b c:H)(d:S ak)(e:Nat)(f g:bG):Prop:=
 ia a d e b λb d e=>aR a 18 [c,(.func (.func 178) [] [b])] d e (λ_ a b=>f (.tuple []) a b) g
def afi:db X 122 [a0,bd] h j ah aw=TK X a0 bd h j ah aw:=Zk
def afh:cS X 122 2=true:=Zk
def TP(a:aW)(b c:H)(d:S ak)(e:Nat)(f g:bG):Prop:=
 B (aZ 2 c) λh=>B (am a d h) λh=>B (aZ 3 c) λi=>B (am a d i) λi=>B (aZ 4 c) λj=>B (am a d j) λj=>B (eA [.aT, .aT, .aT] [(0,1,h),(1,1,i),(2,1,j)]) λh=>aQ (λ_ a b=>f (.tuple []) a b) λi=>fj (λb c d e=>aj (c 14) λh=>B (aA .lss h (.Z 3)) λh=>aQ (λc d e=>aQ (λa c d=>aj (a 14) λe=>B (aA .add e (.Z 1)) λe=>b (ab a 14 e) c d) λb=>aj (c 14) λh=>aj (c 13) λi=>aj (c 14) λj=>B (tt false 3 1 i j) λi=>B (d8 i) λj=>aQ b λb=>fj (λc d e h=>aj (d 20) λi=>aj (d 19) λj=>B (aA .lss i j) λi=>aQ (λb d e=>aQ (λa b d=>aj (a 20) λe=>B (aA .add e (.Z 1)) λe=>c (ab a 20 e) b d) λc=>aj (b 18) λh=>aj (b 20) λi=>B (dC 8 h i) λh=>B (b6 a d 8 h) λh=>B (dA [(.str []),(.Z 0),(.bool false),(.bool false),(.Z 0),(.str []),(.Z 0),(.bool false)] e) λi=>cO a d e i.1 i.2 λd e i=>B (b7 a e 8 d h) λe=>aj (b 0) λh=>aj (b 3) λj=>B (aA .add (.Z 1) j) λj=>B (b6 a e 8 d) λk=>ih a h [j,k] e i (λa e g=>B (fz .not a) λa=>aQ c λc=>aV a (f (.tuple []) e g) (c (ab (ab b 6 d) 29 a) e g)) g) λa=>aV i (a (ab d 21 i) e h) (b (ab d 21 i) e h)) (ab (ab (ab (ab (ab c 3 h) 4 i) 18 i) 19 j) 20 (.Z 0)) d e) λa=>aV h (a (ab c 15 h) d e) (i (ab c 15 h) d e)) (ab (ab (cP [b,c]) 13 h) 14 (.Z 0)) d e
def afs:db X 132 [a0,bd] h j ah aw=TP X a0 bd h j ah aw:=Zk
def afr:cS X 132 2=true:=Zk
def TQ(a:aW)(b c:H)(d:S ak)(e:Nat)(f g:bG):Prop:=
 B (d8 b) λh=>aQ (λ_ a b=>f (.Z (-1)) a b) λi=>fj (λb c d e=>aj (c 8) λh=>aj (c 7) λj=>B (aA .lss h j) λh=>aQ (λc d e=>aQ (λa c d=>aj (a 8) λe=>B (aA .add e (.Z 1)) λe=>b (ab a 8 e) c d) λb=>aj (c 8) λh=>aj (c 1) λi=>aj (c 0) λj=>B (dC 6 j h) λj=>B (b6 a d 6 j) λj=>ih a i [j] d e (λa d e=>aQ b λb=>aV a (f h d e) (b (ab (ab c 5 h) 16 a) d e)) g) λa=>aV h (a (ab c 9 h) d e) (i (ab c 9 h) d e)) (ab (ab (ab (cP [b,c]) 4 (.Z 0)) 7 h) 8 (.Z 0)) d e
def afu:db X 133 [a0,bd] h j ah aw=TQ X a0 bd h j ah aw:=Zk
def aft:cS X 133 2=true:=Zk
def TR(a:aW)(b c:H)(d:S ak)(e:Nat)(f _:bG):Prop:=
 ia a d e b λb d e=>B (aZ 0 b) λb=>B (am a d b) λb=>B (am a d c) λc=>B (dj a d .eql 9 false b c) λa=>f a d e
def afw:db X 134 [a0,bd] h j ah aw=TR X a0 bd h j ah aw:=Zk
def afv:cS X 134 2=true:=Zk
def TT(a:aW)(b:H)(c:S ak)(d:Nat)(e f:bG):Prop:=
 B (dj a c .eql 9 true b (.str [])) λg=>g5 g b c d (λc d h=>cU g (lR c) d h (λc d h=>cU g (aA .gtr c (.Z 32)) d h (λc d h=>cW (λc=>g5 c b d h (λd g h=>cU c (lo d (.Z 0)) g h (λd g h=>cU c (aA .geq d (.int .u8 48)) g h (λd g h=>g5 c d g h (λd g h=>iM d b g h (λg h i=>cV d (lo g (.Z 0)) h i (λg h i=>cV d (aA .leq g (.int .u8 57)) h i (λg h i=>km c (λa=>cW (λb=>a b h i) λa=>aV d (a g) (a (.bool false))) h i (λd g h=>cW (λc=>g5 c b g h (λd g h=>g5 c (.func (.func 185) [] []) g h (λg h i=>km c (λb=>aR a 186 [d,g] h i b f) h i (λd g h=>cU c (aA .geq d (.Z 0)) g h (λd g h=>cW (λc=>aQ (λb c d=>B (am a c (.ptr 2 0)) λg=>aj (b 0) λh=>aR a 187 [g,h] c d (λc d g=>B (fz .not c) λc=>lQ c (b 0) d g (λb d g=>j9 c (λc=>aR a 188 [b] d g c f) d g (λa b d=>cV c (fz .not a) b d (λa b d=>cW (λa=>e a b d) λb=>aV c (b a) (b (.bool false)))))) f) λa=>aV c (e (.bool false) g h) (a (ab (ab (ab (cP [b]) 2 (.bool false)) 3 (.func (.func 185) [] [])) 26 c) g h)) λa=>aV c (a (.bool true)) (a d)))))) λa=>aV c (a (.bool true)) (a d)))))))))) λa=>aV g (a (.bool true)) (a c))))
def afA:db X 140 [a0] h j ah aw=TT X a0 h j ah aw:=Zk
def afz:cS X 140 1=true:=Zk
def TU(a:aW)(b:H)(c:S ak)(d:Nat)(e f:bG):Prop:=
 B (d8 b) λg=>aQ (λ_ a b=>e (.bool true) a b) λh=>fj (λb c d g=>aj (c 7) λi=>aj (c 6) λj=>B (aA .lss i j) λi=>aQ (λc d g=>aQ (λa c d=>aj (a 7) λe=>B (aA .add e (.Z 1)) λe=>b (ab a 7 e) c d) λb=>aj (c 5) λh=>aj (c 7) λi=>B (dC 8 h i) λh=>B (b6 a d 8 h) λh=>B (dA [(.str []),(.Z 0),(.bool false),(.bool false),(.Z 0),(.str []),(.Z 0),(.bool false)] g) λi=>cO a d g i.1 i.2 λd g i=>B (b7 a g 8 d h) λg=>B (aZ 0 d) λh=>B (am a g h) λh=>aR a 140 [h] g i (λg h i=>B (fz .not g) λg=>cU g (aZ 2 d) h i (λh i j=>cU g (b6 a i 3 h) i j (λh i j=>km g (λb=>aR a 128 [h] i j b f) i j (λh i j=>cU g (dj a i .eql 9 true h (.str [])) i j (λh i j=>cW (λg=>cU g (aZ 5 d) i j (λh i j=>cU g (am a i h) i j (λh i j=>cU g (dj a i .neq 9 true h (.str [])) i j (λh i j=>g5 g h i j (λh i j=>cV h (aZ 5 d) i j (λi j k=>cV h (am a j i) j k (λi j k=>j9 h (λb=>aR a 140 [i] j k b f) j k (λf i j=>cV h (fz .not f) i j (λf i j=>km g (λa=>cW (λb=>a b i j) λa=>aV h (a f) (a (.bool false))) i j (λf h i=>cW (λf=>cU f (aZ 5 d) h i (λg h i=>cU f (am a h g) h i (λg h i=>cU f (dj a h .eql 9 true g (.str [])) h i (λg h i=>g5 f g h i (λg h i=>cV g (aZ 7 d) h i (λh i j=>cV g (am a i h) i j (λa h i=>km f (λb=>cW (λa=>b a h i) λb=>aV g (b a) (b (.bool false))) h i (λa g h=>cW (λa=>aQ b λb=>aV a (e (.bool false) g h) (b (ab (ab c 4 d) 40 a) g h)) λb=>aV f (b (.bool true)) (b a))))))))) λa=>aV g (a (.bool true)) (a f))))))))))) λa=>aV g (a (.bool true)) (a h)))))) f) λa=>aV i (a (ab c 8 i) d g) (h (ab c 8 i) d g)) (ab (ab (ab (ab (cP [b]) 2 (.bool false)) 5 b) 6 g) 7 (.Z 0)) c d
def afC:db X 141 [a0] h j ah aw=TU X a0 h j ah aw:=Zk
def afB:cS X 141 1=true:=Zk
def TV(a:aW)(b:H)(c:S ak)(d:Nat)(e f:bG):Prop:=
 B (d8 b) λg=>aQ (λb c d=>aj (b 3) λg=>aR a 189 [.aT,g] c d (λc d f=>aj (b 0) λg=>B (d8 g) λh=>aQ (λa b c=>aj (a 6) λa=>e a b c) λe=>fj (λb c d f=>aj (c 27) λg=>aj (c 26) λh=>B (aA .lss g h) λg=>aQ (λc d e=>aQ (λa c d=>aj (a 27) λe=>B (aA .add e (.Z 1)) λe=>b (ab a 27 e) c d) λb=>aj (c 25) λf=>aj (c 27) λg=>B (dC 1 f g) λf=>B (am a d f) λf=>aj (c 6) λg=>gO (iQ a d e 8 g f) d e λa d e=>b (ab (ab c 8 f) 6 a) d e) λa=>aV g (a (ab c 28 g) d f) (e (ab c 28 g) d f)) (ab (ab (ab (ab b 6 c) 25 g) 26 h) 27 (.Z 0)) d f) f) λe=>fj (λb c d g=>aj (c 11) λh=>aj (c 10) λi=>B (aA .lss h i) λh=>aQ (λc d e=>aQ (λa c d=>aj (a 11) λe=>B (aA .add e (.Z 1)) λe=>b (ab a 11 e) c d) λb=>aj (c 9) λg=>aj (c 11) λh=>B (dC 1 g h) λg=>B (am a d g) λa=>aj (c 3) λg=>B (d8 a) λh=>B (aA .add g h) λg=>B (aA .lss g (.Z 0)) λh=>aQ b λb=>aV h (B (some (H.iface 9 (.str [108,101,110,32,111,117,116,32,111,102,32,114,97,110,103,101]))) λa=>vp f a d e) (b (ab (ab (ab c 5 a) 3 g) 20 h) d e)) λa=>aV h (a (ab c 12 h) d g) (e (ab c 12 h) d g)) (ab (ab (ab (ab (ab (cP [b]) 2 .aT) 3 (.Z 0)) 9 b) 10 g) 11 (.Z 0)) c d
def afE:db X 142 [a0] h j ah aw=TV X a0 h j ah aw:=Zk
def afD:cS X 142 1=true:=Zk
def TW(a:aW)(b:H)(c:S ak)(d:Nat)(e f:bG):Prop:=
 aR a 140 [b] c d (λa b c=>B (fz .not a) λa=>e a b c) f
def afG:db X 143 [a0] h j ah aw=TW X a0 h j ah aw:=Zk
def afF:cS X 143 1=true:=Zk
def TX(a:aW)(b:H)(c:S ak)(d:Nat)(e f:bG):Prop:=
 B (dA [(.Z 0)] d) λg=>cO a c d g.1 g.2 λc d g=>B (b7 a d 1 c (.Z 0)) λd=>B (dA [(.Z 0)] g) λh=>cO a d g h.1 h.2 λd g h=>B (b7 a g 1 d (.Z 0)) λg=>B (dA [.nilFunc] h) λi=>cO a g h i.1 i.2 λg h i=>B (b7 a h 1 g (.func (.func 190) [] [d,c,g])) λd=>B (am a d g) λg=>ih a g [b] d i (λ_ b d=>B (am a b c) λa=>e a b d) f
def afI:db X 144 [a0] h j ah aw=TX X a0 h j ah aw:=Zk
def afH:cS X 144 1=true:=Zk
def TY(a:aW)(b c:H)(d:S ak)(e:Nat)(f g:bG):Prop:=
 aR a 192 [b,c] d e (λa b c=>B (aA .geq a (.Z 0)) λa=>f a b c) g
def afK:db X 145 [a0,bd] h j ah aw=TY X a0 bd h j ah aw:=Zk
def afJ:cS X 145 2=true:=Zk
def On(a:aW)(b c:H)(d:S ak)(e:Nat)(f g:bG):Prop:=
 B (dj a d .eql 47 true b .cq) λh=>g5 h c d e (λd e i=>cU h (aA .eql d (.Z 0)) e i (λd e i=>cW (λd=>aQ (λb c d=>aj (b 1) λe=>B (aA .sub e (.Z 1)) λe=>aj (b 0) λh=>B (cf h) λh=>B (aZ 8 h) λh=>B (am a c h) λh=>B (d8 h) λi=>aQ (λa b c=>aj (a 5) λa=>B (aA .add a (.Z 1)) λa=>f a b c) λf=>fj (λb c d e=>aj (c 21) λh=>aj (c 20) λi=>B (aA .lss h i) λh=>aQ (λc d e=>aQ (λa c d=>aj (a 21) λe=>B (aA .add e (.Z 1)) λe=>b (ab a 21 e) c d) λb=>aj (c 19) λf=>aj (c 21) λh=>B (dC 1 f h) λf=>B (am a d f) λf=>aj (c 5) λh=>aj (c 1) λi=>aR a 177 [f,i] d e (λd e g=>B (pV a e .max [3,3] [h,d]) λa=>b (ab (ab c 7 f) 5 a) e g) g) λa=>aV h (a (ab c 22 h) d e) (f (ab c 22 h) d e)) (ab (ab (ab (ab (ab b 1 e) 5 (.Z 0)) 19 h) 20 i) 21 (.Z 0)) c d) λa=>aV d (f (.Z 0) e i) (a (ab (ab (cP [b,c]) 4 (.Z 0)) 13 d) e i)) λa=>aV h (a (.bool true)) (a d)))
def Ui:db X 177 [a0,bd] h j ah aw=On X a0 bd h j ah aw:=Zk
def Uh:cS X 177 2=true:=Zk
def Uj(a:aW)(b c:H)(d:S ak)(e:Nat)(f g:bG):Prop:=
 aR a 179 [b] d e (λd e h=>aQ (λb c d=>aj (b 0) λe=>B (cf e) λe=>B (aZ 0 e) λe=>B (am a c e) λe=>B (aA .eql e (.Z 25)) λe=>aQ (λ_ a b=>f (.bool true) a b) λf=>aV e (eZ (d+14) λd=>aj (b 1) λh=>B (am a c h) λh=>B (cf h) λh=>B (aZ 0 h) λh=>B (am a c h) λh=>aj (b 0) λi=>B (cf i) λi=>B (aZ 2 i) λi=>B (am a c i) λi=>aR a 79 [h,i] c d (λc d h=>B (cN 0 c) λi=>B (cN 1 c) λc=>aQ f λf=>B (fz .not c) λj=>aQ f λf=>aV j (eZ (h+6) λh=>aj (b 1) λk=>B (am a d k) λk=>aj (b 0) λl=>B (cf l) λl=>B (aZ 1 l) λl=>B (am a d l) λl=>aR a 119 [k,(.Z 23),l] d h (λ_ a d=>f (ab (ab (ab (ab b 34 e) 6 i) 7 c) 47 j) a d) g) (aj (b 1) λk=>B (am a d k) λk=>B (cf k) λk=>B (aZ 1 k) λk=>B (am a d k) λk=>B (aA .geq i k) λk=>aQ f λf=>aV k (eZ (h+6) λh=>aj (b 1) λl=>B (am a d l) λl=>aj (b 0) λm=>B (cf m) λm=>B (aZ 1 m) λm=>B (am a d m) λm=>aR a 119 [l,(.Z 25),m] d h (λ_ a d=>f (ab (ab (ab (ab (ab b 34 e) 6 i) 7 c) 47 j) 56 k) a d) g) (f (ab (ab (ab (ab (ab b 34 e) 6 i) 7 c) 47 j) 56 k) d h))) g) (f (ab b 34 e) c d)) λf=>aV d (eZ (h+15) λi=>B (am a e c) λj=>B (cf j) λj=>B (aZ 2 j) λj=>B (am a e j) λj=>B (cf b) λk=>B (aZ 2 k) λk=>B (am a e k) λk=>B (dA [(.Z 0),(.str []),(.Z 0),(.bool false),(.bool false),(.Z 0),(.str []),(.Z 0),(.bool false),(.Z 0),(.Z 0)] (h+12)) λl=>k4 a e (h+12) l.1 l.2 λe h=>aR a 34 [j,k] h i (λh i j=>B (cN 0 h) λk=>B (cN 1 h) λh=>B (b7 a i 11 e k) λe=>B (fz .not h) λi=>aQ f λf=>aV i (eZ (j+6) λj=>B (am a e c) λk=>B (cf b) λl=>B (aZ 1 l) λl=>B (am a e l) λl=>aR a 119 [k,(.Z 23),l] e j (λ_ a e=>f (ab (ab (ab (ab (cP [b,c]) 3 (.bool false)) 9 d) 5 h) 23 i) a e) g) (f (ab (ab (ab (ab (cP [b,c]) 3 (.bool false)) 9 d) 5 h) 23 i) e j)) g) (f (ab (ab (cP [b,c]) 3 (.bool false)) 9 d) e h)) g
def agj:db X 178 [a0,bd] h j ah aw=Uj X a0 bd h j ah aw:=Zk
def agi:cS X 178 2=true:=Zk
def Uk(a:aW)(b:H)(c:S ak)(d:Nat)(e _:bG):Prop:=
 B (cf b) λf=>B (aZ 0 f) λf=>B (am a c f) λf=>B (aA .eql f (.Z 2)) λf=>g5 f b c d (λc d g=>cU f (cf c) d g (λc d g=>cU f (aZ 0 c) d g (λc d g=>cU f (am a d c) d g (λc d g=>cU f (aA .eql c (.Z 6)) d g (λc d g=>cW (λc=>g5 c b d g (λb d f=>cU c (cf b) d f (λb d f=>cU c (aZ 0 b) d f (λb d f=>cU c (am a d b) d f (λa b d=>cU c (aA .eql a (.Z 24)) b d (λa b d=>cW (λa=>e a b d) λb=>aV c (b (.bool true)) (b a))))))) λa=>aV f (a (.bool true)) (a c))))))
def agl:db X 179 [a0] h j ah aw=Uk X a0 h j ah aw:=Zk
def agk:cS X 179 1=true:=Zk
def Um(a:aW)(b:H)(c:S ak)(d:Nat)(e _:bG):Prop:=
 ia a c d b λc d f=>B (aZ 0 c) λg=>B (am a d g) λg=>aQ (λb c d=>aj (b 1) λf=>B (aZ 2 f) λf=>B (am a c f) λf=>B (aA .geq f (.Z 1)) λf=>MR f (b 1) (λa=>aZ 2 a) c d (λb c d=>cV f (am a c b) c d (λa b c=>cV f (aA .leq a (.Z 64)) b c (λa b c=>cW (λa=>e a b c) λb=>aV f (b a) (b (.bool false)))))) λh=>aV g (B (aZ 1 c) λb=>B (am a d b) λb=>B (fz .not b) λb=>cV b (aZ 2 c) d f (λc d f=>cV b (am a d c) d f (λa c d=>cV b (aA .eql a (.Z 1)) c d (λa c d=>cW (λa=>e a c d) λc=>aV b (c a) (c (.bool false)))))) (h (ab (ab (ab (cP [b]) 1 c) 2 (.bool false)) 4 g) d f)
def agn:db X 182 [a0] h j ah aw=Um X a0 h j ah aw:=Zk
def agm:cS X 182 1=true:=Zk
def Up(_:aW)(a:H)(b:S ak)(c:Nat)(d _:bG):Prop:=
 B (aA .lss a (.int .i32 97)) λe=>g5 e a b c (λb c f=>cU e (aA .gtr b (.int .i32 122)) c f (λb c f=>cW (λb=>iM b a c f (λc e f=>cV b (aA .lss c (.int .i32 65)) e f (λc e f=>iM b c e f (λc e f=>g5 c a e f (λe f g=>cU c (aA .gtr e (.int .i32 90)) f g (λe f g=>j9 b (λa=>cW (λb=>a b f g) λa=>aV c (a (.bool true)) (a e)) f g (λc e f=>cW (λb=>iM b a e f (λc e f=>cV b (aA .lss c (.int .i32 48)) e f (λc e f=>iM b c e f (λc e f=>g5 c a e f (λe f g=>cU c (aA .gtr e (.int .i32 57)) f g (λe f g=>j9 b (λa=>cW (λb=>a b f g) λa=>aV c (a (.bool true)) (a e)) f g (λc e f=>cW (λb=>iM b a e f (λa c e=>cV b (aA .neq a (.int .i32 95)) c e (λa c e=>cW (λa=>d a c e) λc=>aV b (c a) (c (.bool false))))) λa=>aV b (a c) (a (.bool false))))))))) λa=>aV b (a c) (a (.bool false))))))))) λa=>aV e (a (.bool true)) (a b)))
def agt:db X 185 [a0] h j ah aw=Up X a0 h j ah aw:=Zk
def ags:cS X 185 1=true:=Zk
def Uq(a:aW)(b c:H)(d:S ak)(e:Nat)(f g:bG):Prop:=
 aR a 213 [b,c,(.bool true)] d e f g
def agv:db X 186 [a0,bd] h j ah aw=Uq X a0 bd h j ah aw:=Zk
def agu:cS X 186 2=true:=Zk
def Ur(a:aW)(b c:H)(d:S ak)(e:Nat)(f g:bG):Prop:=
 aR a 214 [b,c] d e (λa b c=>B (aA .geq a (.Z 0)) λa=>f a b c) g
def agx:db X 187 [a0,bd] h j ah aw=Ur X a0 bd h j ah aw:=Zk
def agw:cS X 187 2=true:=Zk
def Us(a:aW)(b:H)(c:S ak)(d:Nat)(e f:bG):Prop:=
 B (lR b) λg=>B (aA .lss g (.Z 2)) λg=>aQ (λb c d=>aj (b 0) λg=>B (kd g (some (.Z 1)) none) λg=>aR a 203 [g] c d (λc d g=>B (cN 0 c) λh=>B (cN 1 c) λc=>aj (b 0) λi=>B (dj a d .eql 9 true i (.str [98,111,111,108])) λi=>g5 i c d g (λc d g=>cU i (dj a d .eql 238 true c .nilIface) d g (λc d g=>g5 i c d g (λc d g=>lQ c (b 0) d g (λd g j=>lQ c (b 0) g j (λb g j=>cV c (lo b (.Z 0)) g j (λb g j=>cV c (aA .eql b (.int .u8 105)) g j (λb g j=>iM c h g j (λg h j=>cV c (eA [(.bool false),(.bool false),(.Z 0)] [(1,1,b),(2,1,g)]) h j (λb g h=>j9 c (λc=>aR a 128 [b] g h c f) g h (λb f g=>cV c (dj a f .eql 9 false d b) f g (λa b d=>km i (λe=>cW (λa=>e a b d) λb=>aV c (b a) (b (.bool false))) b d (λa b c=>cW (λa=>e a b c) λb=>aV i (b (.bool true)) (b a)))))))))))))) f) λa=>aV g (e (.bool false) c d) (a (ab (ab (cP [b]) 2 (.bool false)) 7 g) c d)
def agz:db X 188 [a0] h j ah aw=Us X a0 h j ah aw:=Zk
def agy:cS X 188 1=true:=Zk
def Ut(a:aW)(b c:H)(d:S ak)(e:Nat)(f g:bG):Prop:=
 B (aA .lss c (.Z 0)) λh=>aQ (λb c d=>aj (b 1) λe=>aj (b 0) λg=>B (pV a c .cap [34] [g]) λg=>aj (b 0) λh=>B (d8 h) λh=>B (aA .sub g h) λg=>B (aA .sub e g) λe=>B (aA .gtr e (.Z 0)) λg=>aQ (λa b c=>aj (a 0) λa=>f a b c) λf=>aV g (aj (b 0) λh=>aj (b 0) λi=>B (pV a c .cap [34] [i]) λi=>B (sG a c 8 h none (some i) none) λh=>gO (Fh a c d .append [34,3] [h,e]) c d λc d h=>aj (b 0) λi=>B (d8 i) λi=>B (sG a d 8 c none (some i) none) λa=>f (ab (ab (ab b 1 e) 16 g) 0 a) d h) (f (ab (ab b 1 e) 16 g) c d)) λa=>aV h (B (some (H.iface 9 (.str [99,97,110,110,111,116,32,98,101,32,110,101,103,97,116,105,118,101]))) λa=>vp g a d e) (a (ab (ab (cP [b,c]) 4 .aT) 6 h) d e)
def agB:db X 189 [a0,bd] h j ah aw=Ut X a0 bd h j ah aw:=Zk
def agA:cS X 189 2=true:=Zk
def Uu(a:aW)(b c d e:H)(f:S ak)(g:Nat)(h i:bG):Prop:=
 B (am a f c) λj=>B (aA .add j (.Z 1)) λj=>B (b7 a f 1 c j) λf=>aQ (λb c d=>aj (b 1) λe=>B (am a c e) λe=>B (aA .sub e (.Z 1)) λe=>aj (b 1) λb=>B (b7 a c 1 b e) λa=>h (.tuple []) a d) λh=>B (dj a f .eql 47 true b .cq) λj=>g5 j b f g (λf g k=>km j (λb=>aR a 191 [f] g k b i) g k (λf g k=>cU j (fz .not f) g k (λf g k=>cW (λf=>aQ h λh=>aV f (B (b7 a g 1 d (.Z 1)) λa=>h (ab (cP [b,c,d,e]) 22 f) a k) (B (am a g c) λj=>B (aA .gtr j (.Z 200)) λj=>aQ h λh=>aV j (B (am a g d) λi=>B (aA .eql i (.Z 0)) λi=>aQ h λh=>aV i (B (b7 a g 1 d (.Z 22)) λa=>h (ab (ab (ab (cP [b,c,d,e]) 22 f) 30 j) 34 i) a k) (h (ab (ab (ab (cP [b,c,d,e]) 22 f) 30 j) 34 i) g k)) (B (cf b) λl=>B (aZ 8 l) λl=>B (am a g l) λl=>B (d8 l) λm=>aQ h λh=>fj (λb c d e=>aj (c 14) λf=>aj (c 13) λg=>B (aA .lss f g) λf=>aQ (λc d e=>aQ (λa c d=>aj (a 14) λe=>B (aA .add e (.Z 1)) λe=>b (ab a 14 e) c d) λb=>aj (c 12) λf=>aj (c 14) λg=>B (dC 1 f g) λf=>B (am a d f) λf=>aj (c 3) λg=>B (am a d g) λg=>ih a g [f] d e (λ_ a d=>b (ab c 6 f) a d) i) λa=>aV f (a (ab c 15 f) d e) (h (ab c 15 f) d e)) (ab (ab (ab (ab (ab (cP [b,c,d,e]) 22 f) 30 j) 12 l) 13 m) 14 (.Z 0)) g k))) λa=>aV j (a (.bool true)) (a f))))
def agF:db X 190 [a0,bd,cg,a3] h j ah aw=Uu X a0 bd cg a3 h j ah aw:=Zk
def agE:cS X 190 4=true:=Zk
def Uv(a:aW)(b:H)(c:S ak)(d:Nat)(e f:bG):Prop:=
 eZ (d+12) λg=>B (am a c (.ptr 5 0)) λh=>B (cf b) λi=>B (aZ 0 i) λi=>B (am a c i) λi=>B (ma a c 3 (.agg [(.Z 0),(.bool false),(.bool false),(.bool false)]) h i true) λh=>B (cN 0 h) λi=>B (cN 1 h) λh=>B (dA [(.Z 0),(.bool false),(.bool false),(.bool false)] (d+9)) λj=>k4 a c (d+9) j.1 j.2 λc d=>B (b7 a d 4 c i) λd=>B (fz .not h) λi=>aQ (λb c d=>eZ (d+34) λd=>aj (b 0) λg=>B (cf g) λg=>B (aZ 0 g) λg=>B (am a c g) λg=>B (aA .lss g (.Z 1)) λg=>Jd g (b 0) c (λc h=>pC g (cf c) h (λc h=>pC g (aZ 0 c) h (λc h=>pC g (am a h c) h (λc h=>pC g (aA .gtr c (.Z 26)) h (λc h=>cW (λc=>abL c (b 3) (λa=>aZ 0 a) h (λg h=>pC c (am a h g) h (λg h=>pC c (aA .geq g (.Z 0)) h (λg h=>MQ c g h (λg h=>uX g (b 0) h (λh i=>gs g (cf h) i (λh i=>gs g (aZ 8 h) i (λh i=>gs g (am a i h) i (λh i=>gs g (d8 h) i (λh i=>RB g (b 3) (λa=>aZ 0 a) i (λi j=>gs g (am a j i) j (λi j=>gs g (aA .neq h i) j (λh i=>MP c (λa=>cW (λb=>a b i) λa=>aV g (a h) (a (.bool false))) i (λg h=>cW (λc=>Jd c (b 0) h (λg h=>pC c (cf g) h (λg h=>pC c (aZ 8 g) h (λg h=>pC c (am a h g) h (λg h=>km c (λb=>aR a 215 [g, .cq] h d b f) h d (λd g h=>cW (λc=>aQ (λb c d=>eZ (d+33) λd=>aj (b 3) λg=>B (aZ 1 g) λg=>B (am a c g) λg=>aj (b 0) λh=>B (cf h) λh=>B (aZ 2 h) λh=>B (am a c h) λh=>B (dj a c .neq 9 true h (.str [])) λh=>B (dj a c .neq 4 false g h) λg=>abL g (b 3) (λa=>aZ 1 a) c (λc h=>pC g (am a h c) h (λc h=>MQ g c h (λc h=>uX c (b 0) h (λh i=>gs c (cf h) i (λh i=>gs c (aZ 2 h) i (λh i=>gs c (am a i h) i (λh i=>j9 c (λb=>aR a 140 [h] i d b f) i d (λd h i=>gs c (fz .not d) h (λd h=>MP g (λa=>cW (λb=>a b h) λa=>aV c (a d) (a (.bool false))) h (λc d=>cW (λc=>Jd c (b 0) d (λd g=>pC c (cf d) g (λd g=>pC c (aZ 3 d) g (λd g=>pC c (am a g d) g (λd g=>MQ c d g (λd g=>uX d (b 0) g (λg h=>gs d (cf g) h (λg h=>gs d (aZ 0 g) h (λg h=>gs d (am a h g) h (λg h=>gs d (aA .neq g (.Z 6)) h (λg h=>MP c (λa=>cW (λb=>a b h) λa=>aV d (a g) (a (.bool false))) h (λd g=>cW (λc=>aQ (λb c d=>aj (b 3) λg=>B (aZ 2 g) λg=>B (am a c g) λg=>B (fz .not g) λg=>lQ g (b 0) c d (λc d h=>cV g (cf c) d h (λc d h=>cV g (aZ 4 c) d h (λc d h=>cV g (b6 a d 3 c) d h (λc d h=>cV g (eA [(.bool false),(.bool false),(.Z 0)] []) d h (λd h i=>cV g (dj a h .neq 41 false c d) h i (λc d h=>cW (λc=>RC c (b 3) (λa=>aZ 2 a) d h (λd g h=>cU c (am a g d) g h (λd g h=>g5 c d g h (λd g h=>lQ d (b 0) g h (λg h i=>cV d (cf g) h i (λg h i=>cV d (aZ 4 g) h i (λg h i=>cV d (b6 a h 3 g) h i (λg h i=>j9 d (λb=>aR a 182 [g] h i b f) h i (λg h i=>cV d (fz .not g) h i (λg h i=>km c (λa=>cW (λb=>a b h i) λa=>aV d (a g) (a (.bool false))) h i (λd g h=>cW (λc=>RC c (b 3) (λa=>aZ 3 a) g h (λd g h=>cU c (am a g d) g h (λd g h=>cU c (fz .not d) g h (λd g h=>g5 c d g h (λd g h=>lQ d (b 0) g h (λg h i=>cV d (cf g) h i (λg h i=>cV d (aZ 7 g) h i (λg h i=>cV d (am a h g) h i (λg h i=>cV d (aA .neq g (.int .u64 0)) h i (λg h i=>km c (λa=>cW (λb=>a b h i) λa=>aV d (a g) (a (.bool false))) h i (λd g h=>cW (λc=>aQ (λb c d=>aj (b 0) λg=>B (cf g) λg=>B (aZ 0 g) λg=>B (am a c g) λg=>aQ (λ_ a b=>e (.bool true) a b) λh=>B (aA .eql g (.Z 1)) λi=>aQ h λh=>aV i (aj (b 0) λb=>aR a 216 [b] c d e f) (B (aA .eql g (.Z 19)) λf=>aQ (λb c d=>aj (b 128) λf=>aQ h λg=>aV f (aj (b 0) λb=>B (cf b) λb=>B (aZ 7 b) λb=>B (am a c b) λa=>B (aA .leq a (.int .u64 63)) λa=>e a c d) (aj (b 123) λf=>B (aA .eql f (.Z 21)) λf=>aQ g λg=>aV f (aj (b 0) λb=>B (cf b) λb=>B (aZ 8 b) λb=>B (am a c b) λb=>B (dC 1 b (.Z 0)) λb=>B (am a c b) λb=>B (cf b) λf=>B (aZ 0 f) λf=>B (am a c f) λf=>B (aA .eql f (.Z 1)) λf=>g5 f b c d (λc d g=>cU f (cf c) d g (λc d g=>cU f (aZ 0 c) d g (λc d g=>cU f (am a d c) d g (λc d g=>cU f (aA .eql c (.Z 4)) d g (λc d g=>g5 f c d g (λc d g=>iM c b d g (λd g h=>cV c (cf d) g h (λd g h=>cV c (aZ 8 d) g h (λd g h=>cV c (am a g d) g h (λd g h=>cV c (d8 d) g h (λd g h=>cV c (aA .eql d (.Z 1)) g h (λd g h=>km f (λa=>cW (λb=>a b g h) λa=>aV c (a d) (a (.bool false))) g h (λc d g=>g5 f c d g (λc d g=>iM c b d g (λd g h=>cV c (cf d) g h (λd g h=>cV c (aZ 8 d) g h (λd g h=>cV c (am a g d) g h (λd g h=>cV c (dC 1 d (.Z 0)) g h (λd g h=>cV c (am a g d) g h (λd g h=>cV c (dj a g .neq 47 true d .cq) g h (λd g h=>km f (λa=>cW (λb=>a b g h) λa=>aV c (a d) (a (.bool false))) g h (λc d g=>g5 f c d g (λc d g=>iM c b d g (λb d g=>cV c (cf b) d g (λb d g=>cV c (aZ 8 b) d g (λb d g=>cV c (am a d b) d g (λb d g=>cV c (dC 1 b (.Z 0)) d g (λb d g=>cV c (am a d b) d g (λb d g=>cV c (cf b) d g (λb d g=>cV c (aZ 0 b) d g (λb d g=>cV c (am a d b) d g (λa b d=>cV c (aA .eql a (.Z 1)) b d (λa b d=>km f (λe=>cW (λa=>e a b d) λb=>aV c (b a) (b (.bool false))) b d (λa b c=>cW (λa=>e a b c) λb=>aV f (b (.bool true)) (b a)))))))))))))))))))))))))))))))))))) (g (ab b 136 f) c d))) λa=>aV f (a (ab (ab (ab b 123 g) 124 i) 128 f) c d) (B (aA .eql g (.Z 20)) λe=>a (ab (ab (ab (ab b 123 g) 124 i) 128 f) 128 e) c d))) λa=>aV c (e (.bool false) g h) (a (ab b 119 c) g h)) λa=>aV c (a (.bool true)) (a d)))))))))))) λa=>aV c (a (.bool true)) (a d)))))))))))) λa=>aV g (a c) (a (.bool false))))))))) λa=>aV c (e (.bool false) g i) (a (ab b 84 c) g i)) λa=>aV c (a (.bool true)) (a d))))))))))))) λa=>aV g (a (.bool true)) (a c)))))))))))) λa=>aV c (e (.bool false) g h) (a (ab b 51 c) g h)) λa=>aV c (a (.bool true)) (a d))))))) λa=>aV c (a (.bool true)) (a g))))))))))))))) λa=>aV g (a (.bool true)) (a c))))))) λe=>aV i (B (eA [(.Z 0),(.bool false),(.bool false),(.bool false)] [(0,1,(.Z 2))]) λf=>B (b7 a d 4 c f) λa=>e (ab (ab (ab (ab (cP [b]) 2 (.bool false)) 3 c) 4 h) 16 i) a g) (e (ab (ab (ab (ab (cP [b]) 2 (.bool false)) 3 c) 4 h) 16 i) d g)
def agH:db X 191 [a0] h j ah aw=Uv X a0 h j ah aw:=Zk
def agG:cS X 191 1=true:=Zk
def Uw(a:aW)(b c:H)(d:S ak)(e:Nat)(f g:bG):Prop:=
 B (d8 b) λh=>aQ (λ_ a b=>f (.Z (-1)) a b) λi=>fj (λb c d e=>aj (c 8) λh=>aj (c 7) λj=>B (aA .lss h j) λh=>aQ (λc d e=>aQ (λa c d=>aj (a 8) λe=>B (aA .add e (.Z 1)) λe=>b (ab a 8 e) c d) λb=>aj (c 8) λh=>aj (c 1) λi=>aj (c 0) λj=>B (dC 1 j h) λj=>B (am a d j) λj=>ih a i [j] d e (λa d e=>aQ b λb=>aV a (f h d e) (b (ab (ab c 5 h) 16 a) d e)) g) λa=>aV h (a (ab c 9 h) d e) (i (ab c 9 h) d e)) (ab (ab (ab (cP [b,c]) 4 (.Z 0)) 7 h) 8 (.Z 0)) d e
def agJ:db X 192 [a0,bd] h j ah aw=Uw X a0 bd h j ah aw:=Zk
def agI:cS X 192 2=true:=Zk
def UM(a:aW)(b c d:H)(e:S ak)(f:Nat)(g h:bG):Prop:=
 gO (SD a e f b) e f λe f i=>aQ (λ_ a b=>g (.Z (-1)) a b) λj=>fj (λb c d e=>aj (c 10) λf=>EX (wK a kn true d e (ko f)) d e λd e f=>B (cN 0 d) λi=>aQ (λc d e=>aQ b λb=>aj (c 11) λf=>B (cN 1 f) λf=>aj (c 11) λi=>B (cN 2 i) λi=>aj (c 1) λj=>ih a j [i] d e (λd e h=>aj (c 2) λj=>B (dj a e .eql 4 false d j) λa=>aQ b λb=>aV a (g f e h) (b (ab (ab (ab c 7 f) 8 i) 19 a) e h)) h) λa=>aV i (a (ab (ab c 11 d) 12 i) e f) (j (ab (ab c 11 d) 12 i) e f)) (ab (ab (cP [b,c,d]) 6 (.Z 0)) 10 e) f i
def ahf:db X 213 [a0,bd,cg] h j ah aw=UM X a0 bd cg h j ah aw:=Zk
def ahe:cS X 213 3=true:=Zk
def UN(a:aW)(b c:H)(d:S ak)(e:Nat)(f _:bG):Prop:=
 B (d8 b) λg=>aQ (λ_ a b=>f (.Z (-1)) a b) λh=>fj (λb c d e=>aj (c 8) λg=>aj (c 7) λi=>B (aA .lss g i) λg=>aQ (λc d e=>aQ (λa c d=>aj (a 8) λe=>B (aA .add e (.Z 1)) λe=>b (ab a 8 e) c d) λb=>aj (c 8) λg=>aj (c 1) λh=>aj (c 0) λi=>B (dC 1 i g) λi=>B (am a d i) λi=>B (dj a d .eql 9 false h i) λa=>aQ b λb=>aV a (f g d e) (b (ab (ab c 5 g) 16 a) d e)) λa=>aV g (a (ab c 9 g) d e) (h (ab c 9 g) d e)) (ab (ab (ab (cP [b,c]) 4 (.Z 0)) 7 g) 8 (.Z 0)) d e
def ahh:db X 214 [a0,bd] h j ah aw=UN X a0 bd h j ah aw:=Zk
def ahg:cS X 214 2=true:=Zk
def UO(a:aW)(b c:H)(d:S ak)(e:Nat)(f g:bG):Prop:=
 aR a 236 [b,c] d e (λa b c=>B (aA .geq a (.Z 0)) λa=>f a b c) g
def ahj:db X 215 [a0,bd] h j ah aw=UO X a0 bd h j ah aw:=Zk
def ahi:cS X 215 2=true:=Zk
def UP(a:aW)(b:H)(c:S ak)(d:Nat)(e f:bG):Prop:=
 B (cf b) λg=>B (aZ 4 g) λg=>B (aZ 2 g) λg=>B (am a c g) λg=>B (cf b) λh=>B (aZ 4 h) λh=>B (aZ 1 h) λh=>B (am a c h) λh=>aQ (λb c d=>aj (b 0) λg=>B (cf g) λg=>B (aZ 0 g) λg=>B (am a c g) λg=>B (aA .eql g (.Z 1)) λg=>lQ g (b 0) c d (λc d h=>cV g (cf c) d h (λc d h=>cV g (aZ 4 c) d h (λc d h=>cV g (b6 a d 3 c) d h (λc d h=>j9 g (λb=>aR a 182 [c] d h b f) d h (λc d f=>cW (λc=>lQ c (b 3) d f (λd f g=>cV c (aA .eql d (.Z 64)) f g (λd f g=>iM c d f g (λd f g=>sk d (b 0) f g (λf g h=>cU d (cf f) g h (λf g h=>cU d (aZ 7 f) g h (λf g h=>cU d (am a g f) g h (λa f g=>sk d (b 3) f g (λb f g=>cU d (aA .shr a b) f g (λa b f=>cU d (aA .eql a (.int .u64 0)) b f (λa b f=>j9 c (λc=>cW (λa=>c a b f) λb=>aV d (b (.bool true)) (b a)) b f (λa b d=>cW (λa=>e a b d) λb=>aV c (b a) (b (.bool false)))))))))))))) λa=>aV g (a c) (a (.bool false)))))))) λa=>aV h (B (aA .sub g (.Z 1)) λe=>a (ab (ab (ab (ab (cP [b]) 2 (.bool false)) 3 g) 13 h) 3 e) c d) (a (ab (ab (ab (cP [b]) 2 (.bool false)) 3 g) 13 h) c d)
def ahl:db X 216 [a0] h j ah aw=UP X a0 h j ah aw:=Zk
def ahk:cS X 216 1=true:=Zk
def UZ(a:aW)(b c:H)(d:S ak)(e:Nat)(f _:bG):Prop:=
 B (d8 b) λg=>aQ (λ_ a b=>f (.Z (-1)) a b) λh=>fj (λb c d e=>aj (c 8) λg=>aj (c 7) λi=>B (aA .lss g i) λg=>aQ (λc d e=>aQ (λa c d=>aj (a 8) λe=>B (aA .add e (.Z 1)) λe=>b (ab a 8 e) c d) λb=>aj (c 8) λg=>aj (c 1) λh=>aj (c 0) λi=>B (dC 1 i g) λi=>B (am a d i) λi=>B (dj a d .eql 47 false h i) λa=>aQ b λb=>aV a (f g d e) (b (ab (ab c 5 g) 16 a) d e)) λa=>aV g (a (ab c 9 g) d e) (h (ab c 9 g) d e)) (ab (ab (ab (cP [b,c]) 4 (.Z 0)) 7 g) 8 (.Z 0)) d e
def ahF:db X 236 [a0,bd] h j ah aw=UZ X a0 bd h j ah aw:=Zk
def ahE:cS X 236 2=true:=Zk
def adD(a:aW)(b:bG):gn:=λc d e=>m6 a [.tmp 2] b c c.bb d e
def ac5(a:aW)(b c:bG):rJ:=λd e f g=>vo a [.tmp 2] b c d e d.bb f g
def U8(a:aW)(b:H)(c:S ak)(d:Nat)(e f:bG):Prop:=
 ia a c d b λc d g=>cO a d g (.map g) (.map [] 0) λd g h=>B (eA [.lT, .aT] [(0,1,d)]) λd=>ia a g h d λd g h=>B (dA [.cq] h) λi=>cO a g h i.1 i.2 λg h i=>B (b7 a h 1 g d) λd=>B (b6 a d 6 c) λh=>aR a 78 [h] d i (λd h i=>aQ (λb c d=>aj (b 1) λf=>B (aZ 5 f) λf=>B (am a c f) λf=>B (d8 f) λg=>aQ (λb c d=>aj (b 3) λf=>B (am a c f) λf=>adD a e (ab b 2 f) c d) λe=>fj (λb c d f=>aj (c 56) λg=>aj (c 55) λh=>B (aA .lss g h) λg=>aQ (λc d e=>aQ (λa c d=>aj (a 56) λe=>B (aA .add e (.Z 1)) λe=>b (ab a 56 e) c d) λb=>aj (c 56) λf=>aj (c 54) λg=>aj (c 56) λh=>B (dC 4 g h) λg=>B (b6 a d 4 g) λg=>B (dA [.aT, .aT,(.Z 0), .cq] e) λh=>cO a d e h.1 h.2 λd e h=>B (b7 a e 4 d g) λe=>B (aZ 0 d) λg=>B (am a e g) λg=>B (d8 g) λi=>aQ b λb=>fj (λc d e f=>aj (d 64) λg=>aj (d 63) λh=>B (aA .lss g h) λg=>aQ (λb d e=>aQ (λa b d=>aj (a 64) λe=>B (aA .add e (.Z 1)) λe=>c (ab a 64 e) b d) λc=>aj (b 64) λf=>aj (b 62) λg=>aj (b 64) λh=>B (dC 1 g h) λg=>B (am a d g) λg=>aj (b 3) λh=>B (am a d h) λh=>B (cf h) λh=>B (aZ 0 h) λh=>B (am a d h) λh=>B (ma a d 9 (.agg [(.Z 0),(.str []),(.Z 0),(.bool false),(.bool false),(.Z 0),(.str []),(.Z 0),(.bool false),(.Z 0),(.Z 0)]) h g true) λh=>B (cN 0 h) λi=>B (cN 1 h) λh=>B (dA [(.Z 0),(.str []),(.Z 0),(.bool false),(.bool false),(.Z 0),(.str []),(.Z 0),(.bool false),(.Z 0),(.Z 0)] e) λj=>cO a d e j.1 j.2 λd e j=>B (b7 a e 11 d i) λe=>cV h (aZ 9 d) e j (λe i j=>cV h (am a i e) i j (λe i j=>cV h (aA .lss e (.Z 0)) i j (λe i j=>cW (λe=>aQ c λc=>aV e (aj (b 8) λk=>B (aZ 9 d) λl=>B (b7 a i 1 l k) λi=>B (aZ 10 d) λk=>B (b7 a i 1 k f) λi=>eZ (j+7) λj=>aj (b 3) λk=>B (am a i k) λk=>B (cf k) λk=>B (aZ 0 k) λk=>B (am a i k) λk=>B (b6 a i 11 d) λl=>gO (vj a i j 9 k g l) i j λ_ a i=>c (ab (ab (ab (ab (ab b 10 f) 11 g) 12 d) 13 h) 83 e) a i) (c (ab (ab (ab (ab (ab b 10 f) 11 g) 12 d) 13 h) 83 e) i j)) λa=>aV h (a e) (a (.bool false)))))) λa=>aV g (a (ab d 65 g) e f) (b (ab d 65 g) e f)) (ab (ab (ab (ab (ab c 9 d) 8 f) 62 g) 63 i) 64 (.Z 0)) e h) λa=>aV g (a (ab c 57 g) d f) (e (ab c 57 g) d f)) (ab (ab (ab b 54 f) 55 g) 56 (.Z 0)) c d) λj=>DO a 97 d [19,20] (sB a (λ_ _ b _ _ c d e=>aj (c 19) λf=>B (dA [(.str []),(.Z 0),(.bool false),(.bool false),(.Z 0),(.str []),(.Z 0),(.bool false)] e) λg=>cO a d e g.1 g.2 λd e g=>aj (c 20) λh=>B (b7 a e 8 d h) λa=>b (ab (ab c 4 f) 5 d) a g) (λ_ _ b _ _ c d e=>aQ b λb=>eZ (e+13) λf=>aj (c 3) λg=>B (am a d g) λg=>B (cf g) λg=>B (aZ 0 g) λg=>B (am a d g) λg=>aj (c 5) λh=>B (aZ 0 h) λh=>B (am a d h) λh=>B (ma a d 9 (.agg [(.Z 0),(.str []),(.Z 0),(.bool false),(.bool false),(.Z 0),(.str []),(.Z 0),(.bool false),(.Z 0),(.Z 0)]) g h true) λg=>B (cN 0 g) λh=>B (cN 1 g) λg=>B (dA [(.Z 0),(.str []),(.Z 0),(.bool false),(.bool false),(.Z 0),(.str []),(.Z 0),(.bool false),(.Z 0),(.Z 0)] (e+10)) λi=>k4 a d (e+10) i.1 i.2 λd e=>B (b7 a e 11 d h) λd=>B (fz .not g) λe=>aQ b λb=>aV e (eZ (f+10) λf=>aj (c 3) λh=>B (am a d h) λh=>B (cf h) λh=>B (aZ 0 h) λh=>B (am a d h) λh=>aj (c 5) λi=>B (aZ 0 i) λi=>B (am a d i) λi=>aj (c 4) λj=>aj (c 5) λk=>B (b6 a d 8 k) λk=>B (eA [(.Z 0),(.str []),(.Z 0),(.bool false),(.bool false),(.Z 0),(.str []),(.Z 0),(.bool false),(.Z 0),(.Z 0)] [(0,1,j),(1,8,k),(9,1,(.Z (-1))),(10,1,(.Z (-1)))]) λj=>gO (vj a d f 9 h i j) d f λ_ d f=>eZ (f+12) λh=>aj (c 3) λi=>B (am a d i) λi=>aj (c 3) λj=>B (am a d j) λj=>B (cf j) λj=>B (aZ 1 j) λj=>B (am a d j) λj=>aj (c 5) λk=>B (aZ 0 k) λk=>B (am a d k) λk=>B (ft 1 [(.str [])] [(0,1,k)] (f+7)) λk=>k4 a d (f+7) k.1 k.2 λd f=>gO (iQ a f h 1 j d) f h λd f h=>B (cf i) λj=>B (aZ 1 j) λj=>aj (c 3) λk=>B (am a f k) λk=>gI k (some i) (B (b7 a f 1 j d) λa=>b (ab (ab c 7 g) 32 e) a h)) (b (ab (ab c 7 g) 32 e) d f))) j (Cp 0 j (λ_ _ _ _=>False)) (adD a e) (ac5 a e f) (ab (ab (ab (ab (cP [b]) 1 c) 2 .cq) 3 g) 18 d) h i) (ac5 a e f (hC [17,18] (ab (ab (ab (cP [b]) 1 c) 2 .cq) 3 g)))
def ahX:AC X 32 [a0] h j ah aw=U8 X a0 h j ah aw:=Zk
def ahW:cS X 32 1=true:=Zk
def U9(a:aW)(b c:H)(d:S ak)(e:Nat)(f _:bG):Prop:=
 B (dA [(.Z 0),(.str []),(.Z 0),(.bool false),(.bool false),(.Z 0),(.str []),(.Z 0),(.bool false),(.Z 0),(.Z 0)] e) λg=>cO a d e g.1 g.2 λd e g=>B (dj a e .eql 68 true b .cq) λh=>aQ (λb c d=>aj (b 0) λe=>B (cf e) λe=>B (aZ 0 e) λe=>B (am a c e) λe=>aj (b 1) λg=>B (ma a c 9 (.agg [(.Z 0),(.str []),(.Z 0),(.bool false),(.bool false),(.Z 0),(.str []),(.Z 0),(.bool false),(.Z 0),(.Z 0)]) e g true) λe=>B (cN 0 e) λg=>B (cN 1 e) λe=>B (dA [(.Z 0),(.str []),(.Z 0),(.bool false),(.bool false),(.Z 0),(.str []),(.Z 0),(.bool false),(.Z 0),(.Z 0)] d) λh=>cO a c d h.1 h.2 λc d h=>B (b7 a d 11 c g) λd=>B (b6 a d 11 c) λc=>aj (b 4) λg=>B (b7 a d 11 g c) λc=>aj (b 4) λb=>B (b6 a c 11 b) λa=>f (.tuple [a,e]) c h) λi=>aV h (B (eA [(.Z 0),(.str []),(.Z 0),(.bool false),(.bool false),(.Z 0),(.str []),(.Z 0),(.bool false),(.Z 0),(.Z 0)] []) λb=>B (b7 a e 11 d b) λb=>B (b6 a b 11 d) λa=>f (.tuple [a,(.bool false)]) b g) (i (ab (ab (ab (cP [b,c]) 4 d) 5 (.bool false)) 9 h) e g)
def ahZ:db X 34 [a0,bd] h j ah aw=U9 X a0 bd h j ah aw:=Zk
def ahY:cS X 34 2=true:=Zk
def TL(a:aW)(b:H)(c:S ak)(d:Nat)(e f:bG):Prop:=
 ia a c d b λc d g=>aQ (λb c d=>aj (b 1) λb=>B (aZ 2 b) λb=>B (am a c b) λb=>aR a 183 [b] c d (λb c d=>B (dj a c .add 9 true (.str [117]) b) λa=>e a c d) f) λh=>B (b6 a d 3 c) λi=>aR a 182 [i] d g (λd g i=>B (fz .not d) λd=>aQ h λh=>aV d (e (.str []) g i) (B (aZ 0 c) λj=>B (am a g j) λj=>aQ h λh=>aV j (e (.str [98,111,111,108]) g i) (B (aZ 1 c) λk=>B (am a g k) λk=>aQ h λh=>aV k (B (aZ 2 c) λb=>B (am a g b) λb=>aR a 183 [b] g i (λb c d=>B (dj a c .add 9 true (.str [105]) b) λa=>e a c d) f) (h (ab (ab (ab (ab (ab (cP [b]) 1 c) 2 (.str [])) 3 d) 7 j) 10 k) g i)))) f
def afk:db X 128 [a0] h j ah aw=TL X a0 h j ah aw:=Zk
def afj:cS X 128 1=true:=Zk
end
end Go.Proofs.YtpfajohmofnkfaaGreatDoor

namespace Go.Proofs.YtpfajohmofnkfaaGreatDoor
open Go.bg Go.a2
noncomputable section
def gU:Nat->bz->Nat
 |0,_=>0
 |D+1,F=>F.args.foldl (λa J=>max a (gU D J)) 0+1
def aow:∀D F,gU D F<=D:=by
 intro D
 induction D with
 |zero=>intro F;simp[gU]
 |succ D al=>
  intro F
  have:∀(l:List bz) a,a<=D->l.foldl (λa J=>max a (gU D J)) a<=D:=by
   intro l
   induction l with
   |nil=>intro a gb;exact gb
   |cons J l I7=>intro a gb;exact I7 _ (Nat.max_le.2 ⟨gb,al J⟩)
  have:=this F.args 0 Zo
  show _+1<=D+1
  omega
def ar6{C:aW}{h:S ak}(J b:Nat):pV C h .max [3,3] [.Z (J:Int), .Z (b:Int)]=some (.Z ((max J b:Nat):Int)):=by
 show nf true (.Z (J:Int)) [.Z (b:Int)]=_
 simp only[nf,fo,sj,ZD]
 congr 2
 split<;>simp_all<;>omega
def Nu{X:ck}{h:S ak}(b:Nat):dj X h .eql 47 true (.ptr b 0) .cq=some (.bool false):=Zk
section
variable{X:ck}{h T aX aJ:S ak}{j ao aL a6 aG bK:Nat}{aU:List Tok}{i:Nat}
def aog(ax:dv X):∀(D:Nat),D<=1000->∀h j P F v,(q X).a7<=j->cI X h P F v->(∀e,P e->e<j)->
 aR X 177 [v, .Z (D:Int)] h j (λad T ao=>ad= .Z (gU D F:Nat)/\bj X h j T ao) (λ_ _ _=>False):=by
 intro D
 induction D with
 |zero=>
  intro _ h j P F v aK bt bu
  refine c4 (Uh X) (ax.none _ _ rfl) ?_
  rw[Ui]
  unfold On
  obtain⟨b,rfl,ai,_⟩:=bt.ptr
  have gg:=bu b ai
  refine cM @Nu @Int.natCast_zero ⟨?_⟩
  exact⟨rfl,dM⟩
 |succ D al=>
  intro aF h j P F v aK bt bu
  refine c4 (Uh X) (ax.none _ _ rfl) ?_
  rw[Ui]
  unfold On
  obtain⟨b,a8,cL,bk,rfl,ai,a0,bd,cg,a3,a4,a5,hz,h0,hA,cz,has⟩:=bt.open
  have gg:=bu b ai
  have ec:=cz.len
  have rb:=has.len
  have kY:((D+1:Nat):Int)=(D:Int)+1:=Zo
  have d:decide (((D+1:Nat):Int)=0)=false:=by simp;omega
  have bB:aA .sub (.Z ((D+1:Nat):Int)) (.Z 1)=some (.Z (D:Int)):=by rw[Bb Zo Zo];congr 2;omega
  have bp:=cz.many
  rw[Zp,rb]at bp
  rw[Zp,rb]at ec
  refine f7 @Nu @d @bB @hA @ec ⟨?_⟩
  refine fD (λm K T aS=>∃(Y:Nat) (a:Nat),K.g 1=some (.Z (D:Int))/\K.g 5=some (.Z (a:Int))/\K.g 19=some a8/\K.g 20=some (.Z (F.args.length:Int))/\K.g 21=some (.Z (Y:Int))/\Y+m=F.args.length/\a<=D/\bj X h j T aS/\gU (D+1) F=(F.args.drop Y).foldl (λa J=>max a (gU D J)) a+1)
   F.args.length ⟨0,0,bn,fN,bn,bn,fN,Zo,Zo,bj.refl _ _,by simp[gU]⟩ ?_
  rintro m K aJ a6 ⟨Y,a,t1,t5,xp,D0,S2,bH,gb,bE,b0⟩
  have f2:=bE.le
  have cF:aA .add (.Z (Y:Int)) (.Z 1)=some (.Z ((Y+1:Nat):Int)):=by rw[eI Zo Zo];rfl
  have fp:aA .add (.Z (a:Int)) (.Z 1)=some (.Z ((a+1:Nat):Int)):=by rw[eI Zo Zo];rfl
  cases m with
  |zero=>
   have cJ:decide ((Y:Int)<(F.args.length:Int))=false:=by simp;omega
   rw[ZE Zo]at b0
   simp only[List.foldl_nil]at b0
   refine f7 @S2 @D0 @t5 @cJ @fp ⟨?_⟩
   exact⟨by first|rw[b0]|(simp only[b0];rfl),bE⟩
  |succ m=>
   have cJ:decide ((Y:Int)<(F.args.length:Int))=true:=by simp;omega
   obtain⟨J,aC⟩:∃J,F.args[Y]? =some J:=⟨_,Ze Zo⟩
   obtain⟨v,bA,anI⟩:=has.get Y J aC
   obtain⟨b3,b2,cQ⟩:=(cz.ac λe I=>bE.ac e (bu e I)).one bA
   refine ev @S2 @D0 @t5 @xp @t1 @cJ (Za @b3 @b2) ⟨?_⟩
   refine(al Zo aJ a6 P J v Zo (anI.ac λe I=>bE.ac e (bu e I)) (λe I=>by have:=bu e I;omega)).Zm ?_
   rintro y4 aY ba ⟨rfl,ca⟩
   have ie:=ca.le
   have jM:pV X aY .max [3,3] [.Z (a:Int), .Z ((gU D J:Nat):Int)]=some (.Z ((max a (gU D J):Nat):Int)):=ar6 _ _
   refine eu @jM @S2 @cF ⟨?_⟩
   refine⟨m,Zo,Y+1,max a (gU D J),a1 t1,bn,a1 xp,a1 D0,bn,Zo,Nat.max_le.2 ⟨gb,aow D J⟩,bE.trans ca, ?_⟩
   have aH:F.args.drop Y=J::F.args.drop (Y+1):=by
    obtain⟨ag,I⟩:=Zc.1 aC
    rw[Zr ag,I]
   rw[aH,List.foldl_cons]at b0
   exact b0
end
def Bn:List hl->Option Int
 |[]=>none
 |an::l=>if 200<gU 201 an.right then some an.at_ else Bn l
def rh:List Go.a2.Node->Option (Int×Int)
 |[]=>none
 |g::l=>if 256<g.eQ.length+g.out.length+g.loc.length\/4096<g.eqs.length then some (30,g.at_)else match Bn g.eqs with
  |some J=>some (22,J)
  |none=>rh l
def qp(ap:List Go.a2.Node):Option (Int×Int):=match ap[64]? with
 |some g=>some (30,g.at_)
 |none=>rh ap
section
variable{X:ck}{h T aX aJ:S ak}{j ao aL a6 aG bK:Nat}{aU:List Tok}{i:Nat}
def aof(ax:dv X){P:Nat->Prop}{F:bz}{v:H}(aK:(q X).a7<=j)(bt:cI X h P F v)(bu:∀e,P e->e<j):
 aR X 118 [v] h j (λad T ao=>ad= .Z (gU 201 F:Nat)/\bj X h j T ao) (λ_ _ _=>False):=by
 refine c4 (ae9 X) (ax.none _ _ rfl) ?_
 rw[afa]
 unfold TG
 exact(aog ax 201 Zo h j P F v aK bt bu)
def arO(ax:dv X){P:Nat->Prop}{ap:List Go.a2.Node}{v:H}(aK:(q X).a7<=j)(b0:nD X h P ap v)(bu:∀e,P e->e<j):
 aR X 69 [v] h j (λad T ao=>qp ap=none/\ad= .tuple []/\bj X h j T ao) (λad T ao=>∃D J,qp ap=some (D,J)/\ad=oz D J/\bj X h j T ao):=by
 refine c4 (aie X) (ax.none _ _ rfl) ?_
 rw[aif]
 unfold Vi
 obtain⟨b,a8,cL,bC,rfl,nj,a0,cz,uD⟩:=b0
 have wT:=uD.wide
 have ec:=cz.len
 have hp:=cz.many
 rw[wT.1]at ec hp
 by_cases E6:64<ap.length
 ·obtain⟨g,aao⟩:∃g,ap[64]? =some g:=⟨_,Ze E6⟩
  obtain⟨row,fC,jj⟩:=uD.get 64 g aao
  have d2:=cz.gi 64 Zo
  obtain⟨dd,dz,SS,eV,cZ,dO,ei,h2,adH,rfl,_⟩:=jj
  have az:=cz.cell 64 _ 1 _ fC rfl
  have d:decide ((64:Int)<(ap.length:Int))=true:=by simp;omega
  have aoB:dC 6 a8 (.Z 64)=some (.ptr cL (64*6)):=d2
  refine f7 @a0 @ec @d @aoB @az ⟨?_⟩
  refine⟨⟨30,g.at_,by simp[qp,aao],rfl,bj.refl _ _⟩⟩
 ·have aB:qp ap=rh ap:=by simp[qp,Z2 (by omega:ap.length<=64)]
  have d:decide ((64:Int)<(ap.length:Int))=false:=by simp;omega
  rw[aB]
  refine eu @a0 @ec @d ⟨?_⟩
  refine fD (λm K T aS=>∃(Y:Nat),K.g 24=some a8/\K.g 25=some (.Z (ap.length:Int))/\K.g 26=some (.Z (Y:Int))/\Y+m=ap.length/\bj X h j T aS/\rh ap=rh (ap.drop Y))
   ap.length ⟨0,bn,bn,fN,Zo,bj.refl _ _,rfl⟩ ?_
  rintro m K aJ a6 ⟨Y,qy,iN,jW,bH,bE,CU⟩
  have f2:=bE.le
  have cF:aA .add (.Z (Y:Int)) (.Z 1)=some (.Z ((Y+1:Nat):Int)):=by rw[eI Zo Zo];rfl
  cases m with
  |zero=>
   have cJ:decide ((Y:Int)<(ap.length:Int))=false:=by simp;omega
   rw[ZE Zo]at CU
   refine eu @jW @iN @cJ ⟨?_⟩
   exact⟨CU,rfl,bE⟩
  |succ m=>
   have cJ:decide ((Y:Int)<(ap.length:Int))=true:=by simp;omega
   obtain⟨g,kW⟩:∃g,ap[Y]? =some g:=⟨_,Ze Zo⟩
   have aH:ap.drop Y=g::ap.drop (Y+1):=by
    obtain⟨ag,I⟩:=Zc.1 kW
    rw[Zr ag,I]
   rw[aH]at CU
   obtain⟨row,fC,jj⟩:=uD.get Y g kW
   have d2:=cz.gi Y Zo
   have ig:=(cz.ac λe I=>bE.ac e (bu e I)).row Zd fC
   have ao3:=jj.ac (bs:=P) (λe I=>bE.ac e (bu e I)) (λ_ a=>a)
   have wZ:=jj.jD
   obtain⟨dd,dz,SS,eV,cZ,dO,ei,h2,adH,rfl,cB,cu,ee,fV,me⟩:=ao3
   have eh:=cB.len;have c5:=cu.len;have e5:=ee.len;have gW:=fV.len
   have fb:=cB.many;have ff:=cu.many;have mb:=ee.many;have Sa:=fV.many
   have Kf:=me.wide
   rw[Zp]at eh c5 e5 fb ff mb
   rw[Kf.1]at gW Sa
   have fp:aA .add (.Z (g.eQ.length:Int)) (.Z (g.out.length:Int))=some (.Z ((g.eQ.length+g.out.length:Nat):Int)):=by rw[eI Zo Zo];rfl
   have jM:aA .add (.Z ((g.eQ.length+g.out.length:Nat):Int)) (.Z (g.loc.length:Int))=some (.Z ((g.eQ.length+g.out.length+g.loc.length:Nat):Int)):=by rw[eI Zo Zo];rfl
   refine hQ @jW @iN @qy @cJ @d2 @ig ⟨?_⟩
   refine fE (hO (D:=6) (b:=a6) (W:=0) (n:=6) (c:=S.ofList [.str [], .Z 0, .aT, .aT, .aT, .aT] 0 .nil) (bh Zo) Zo rfl Zd Zd wZ) ?_
   generalize fd:bm X _ a6 _=aY
   have wC:aa X aY a6=some (.cells (dT (S.ofList [.str [], .Z 0, .aT, .aT, .aT, .aT] 0 .nil) 0 [.str g.name, .Z g.at_,dd,dz,SS,eV]) 6 .own):=by rw[<-fd];exact bh Zo
   have ca:bj X h j aY (a6+1):=bE.trans (by rw[<-fd];exact dM)
   have c0:∀e,P e->aa X aY e=aa X h e:=λe I=>ca.ac e (bu e I)
   clear fd
   have dk:am X aY (.ptr a6 1)=some (.Z g.at_):=by rw[bJ wC];rfl
   have dB:am X aY (.ptr a6 2)=some dd:=by rw[bJ wC];rfl
   have gF:am X aY (.ptr a6 3)=some dz:=by rw[bJ wC];rfl
   have t6:am X aY (.ptr a6 4)=some SS:=by rw[bJ wC];rfl
   have jY:am X aY (.ptr a6 5)=some eV:=by rw[bJ wC];rfl
   by_cases amX:256<g.eQ.length+g.out.length+g.loc.length
   ·have eT:decide ((256:Int)<((g.eQ.length+g.out.length+g.loc.length:Nat):Int))=true:=by simp;omega
    refine ev @dk @dB @gF @t6 @jY @eh (Za @c5 (Za @e5 (Za @gW (Za @fp (Za @jM @eT))))) ⟨?_⟩
    exact⟨⟨30,g.at_,by rw[CU,rh,Zq (.inl amX)],rfl,ca⟩⟩
   have eT:decide ((256:Int)<((g.eQ.length+g.out.length+g.loc.length:Nat):Int))=false:=by simp;omega
   by_cases amY:4096<g.eqs.length
   ·have iu:decide ((4096:Int)<(g.eqs.length:Int))=true:=by simp;omega
    refine ev @dk @dB @gF @t6 @jY @eh (Za @c5 (Za @e5 (Za @gW (Za @fp (Za @jM (Za @eT @iu)))))) ⟨?_⟩
    exact⟨⟨30,g.at_,by rw[CU,rh,Zq (.inr amY)],rfl,ca⟩⟩
   have iu:decide ((4096:Int)<(g.eqs.length:Int))=false:=by simp;omega
   refine ev @dk @dB @gF @t6 @jY @eh (Za @c5 (Za @e5 (Za @gW (Za @fp (Za @jM (Za @eT (Za @iu (Za @qy (Za @iN @jW))))))))) ⟨?_⟩
   have ai:rh ap=(match Bn g.eqs with|some J=>some (22,J)|none=>rh (ap.drop (Y+1))):=by rw[CU,rh,Zh Zo]
   have Mt:=fV.ac (T:=h) (λe I=>(bE.ac e (bu e I)).symm)
   have atK:=me.ac (T:=h) (bs:=P) (λe I=>(bE.ac e (bu e I)).symm) (λ_ a=>a)
   refine fD (λmb K T aS=>∃(i:Nat),K.g 24=some a8/\K.g 25=some (.Z (ap.length:Int))/\K.g 26=some (.Z (Y:Int))/\K.g 53=some eV/\K.g 54=some (.Z (g.eqs.length:Int))/\K.g 55=some (.Z (i:Int))/\i+mb=g.eqs.length/\bj X h j T aS/\Bn g.eqs=Bn (g.eqs.drop i))
    g.eqs.length ⟨0,a1 qy,a1 iN,a1 jW,bn,bn,fN,Zo,ca,rfl⟩ ?_
   clear qy iN jW dk dB gF t6 jY wC c0 ca
   rintro mb K aY ba ⟨i,qy,iN,jW,pL,kf,pM,aM,ca,CT⟩
   have ie:=ca.le
   cases mb with
   |zero=>
    have f6:decide ((i:Int)<(g.eqs.length:Int))=false:=by simp;omega
    rw[ZE Zo]at CT
    refine f7 @pM @kf @f6 @jW @cF ⟨?_⟩
    refine⟨m,Zo,Y+1,a1 qy,a1 iN,bn,Zo,ca, ?_⟩
    rw[ai,CT];rfl
   |succ mb=>
    have f6:decide ((i:Int)<(g.eqs.length:Int))=true:=by simp;omega
    have ps:aA .add (.Z (i:Int)) (.Z 1)=some (.Z ((i+1:Nat):Int)):=by rw[eI Zo Zo];rfl
    obtain⟨an,w1⟩:∃an,g.eqs[i]? =some an:=⟨_,Ze Zo⟩
    have an6:g.eqs.drop i=an::g.eqs.drop (i+1):=by
     obtain⟨ag,I⟩:=Zc.1 w1
     rw[Zr ag,I]
    rw[an6,Bn]at CT
    obtain⟨row,fC,sb⟩:=atK.get i an w1
    have aoC:=fV.gi i (by rw[Kf.1];omega)
    have IQ:=(Mt.ac λe I=>ca.ac e (bu e I)).row Zd fC
    obtain⟨KG,ai2,awL,awM,ls,rfl,_,_,apI,n1⟩:=sb
    refine hQ @pM @kf @pL @f6 @aoC @IQ ⟨?_⟩
    refine fE (hO (D:=4) (b:=ba) (W:=0) (n:=4) (c:=S.ofList [.aT, .aT, .Z 0, .cq] 0 .nil) (bh Zo) Zo rfl Zd Zd n1) ?_
    generalize fi:bm X _ ba _=bw
    have Ct:aa X bw ba=some (.cells (dT (S.ofList [.aT, .aT, .Z 0, .cq] 0 .nil) 0 [KG,ai2, .Z an.at_,ls]) 4 .own):=by rw[<-fi];exact bh Zo
    have dm:bj X aY ba bw (ba+1):=by rw[<-fi];exact dM
    have E7:=ca.trans dm
    clear fi
    have gF:am X bw (.ptr ba 3)=some ls:=by rw[bJ Ct];rfl
    refine ci @gF ⟨?_⟩
    refine(aof ax Zo (apI.ac λe I=>E7.ac e (bu e I)) (λe I=>by have:=bu e I;omega)).Zm ?_
    rintro D7 bL cb ⟨rfl,dw⟩
    have hV:=dw.le
    have dB:am X bL (.ptr ba 2)=some (.Z an.at_):=by rw[bJ (by rw[dw.ac _ Zo];exact Ct)];rfl
    by_cases gb:200<gU 201 an.right
    ·have iR:decide ((200:Int)<((gU 201 an.right:Nat):Int))=true:=by simp;omega
     rw[Zq gb]at CT
     refine cM @iR @dB ⟨?_⟩
     exact⟨⟨22,an.at_,by rw[ai,CT],rfl,E7.trans dw⟩⟩
    ·have iR:decide ((200:Int)<((gU 201 an.right:Nat):Int))=false:=by simp;omega
     rw[Zh gb]at CT
     refine eu @iR @pM @ps ⟨?_⟩
     exact⟨mb,Zo,i+1,a1 qy,a1 iN,a1 jW,a1 pL,a1 kf,bn,Zo,E7.trans dw,CT⟩
end
end
end Go.Proofs.YtpfajohmofnkfaaGreatDoor

