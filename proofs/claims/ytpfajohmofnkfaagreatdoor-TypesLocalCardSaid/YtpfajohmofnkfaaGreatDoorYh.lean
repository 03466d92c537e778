/- A part of the last text's proof; no condition of its own -/
import Derived.Test.YtpfajohmofnkfaaGreatDoorYg
import Derived.KernelRfl
import Derived.Test.YtpfajohmofnkfaaGreatDoorProg
set_option maxHeartbeats 8000000
set_option linter.all false
namespace Go.Proofs.YtpfajohmofnkfaaGreatDoor
open Go.bi
noncomputable section
structure ck where
 G:V an
 a8:Nat
 O:Nat->List F->Option F
noncomputable def o(a:ck):aZ:=⟨Tryz.prog,a.G,a.a8,a.O,Tryz.prog.globals.size⟩
instance:Coe ck aZ:=⟨o⟩
variable (X : ck) (h : V an) (j : Nat) (ai ay : bI) (a0 bh cl a3 a4 a5 hB hY iU : F)
abbrev jM(v x:F)(h:V an)(n:Nat)(B:bI):Prop:=oS B λaa=>it true v (aa x h n) (aa bi.undef h n)
abbrev hh(v x:F)(h:V an)(n:Nat)(B:bI):Prop:=oS B λaa=>it false v (aa x h n) (aa bi.undef h n)
abbrev c2(v:F)(Y:Option F)(h:V an)(n:Nat)(B:bI):Prop:=oS B λaa=>it true v (E Y λx=>aa x h n) (aa bi.undef h n)
abbrev dp(v:F)(Y:Option F)(h:V an)(n:Nat)(B:bI):Prop:=oS B λaa=>it false v (E Y λx=>aa x h n) (aa bi.undef h n)
abbrev lI(v:F)(Y:Option F)(h:V an)(n:Nat)(B:bI):Prop:=oS B λaa=>it true v (al Y λx=>aa x h n) (aa bi.undef h n)
abbrev w7(v:F)(Y:Option F)(h:V an)(n:Nat)(B:bI):Prop:=oS B λaa=>it false v (al Y λx=>aa x h n) (aa bi.undef h n)
abbrev R4(v:F)(Y:Option F)(am:F->Option F)(h:V an)(n:Nat)(B:bI):Prop:=oS B λaa=>it true v (al Y λt=>E (am t) λx=>aa x h n) (aa bi.undef h n)
abbrev acB(v:F)(Y:Option F)(am:F->Option F)(h:V an)(n:Nat)(B:bI):Prop:=oS B λaa=>it false v (al Y λt=>E (am t) λx=>aa x h n) (aa bi.undef h n)
abbrev lH(v:F)(g:bI->Prop)(h:V an)(n:Nat)(B:bI):Prop:=oS B λaa=>it true v (g aa) (aa bi.undef h n)
abbrev kd(v:F)(g:bI->Prop)(h:V an)(n:Nat)(B:bI):Prop:=oS B λaa=>it false v (g aa) (aa bi.undef h n)
abbrev MV(v x:F)(h:V an)(B:F->V an->Prop):Prop:=uX B λaa=>it false v (aa x h) (aa bi.undef h)
abbrev gv(v:F)(Y:Option F)(h:V an)(B:F->V an->Prop):Prop:=uX B λaa=>it true v (E Y λx=>aa x h) (aa bi.undef h)
abbrev pK(v:F)(Y:Option F)(h:V an)(B:F->V an->Prop):Prop:=uX B λaa=>it false v (E Y λx=>aa x h) (aa bi.undef h)
abbrev uW(v:F)(Y:Option F)(h:V an)(B:F->V an->Prop):Prop:=uX B λaa=>it true v (al Y λx=>aa x h) (aa bi.undef h)
abbrev Jb(v:F)(Y:Option F)(h:V an)(B:F->V an->Prop):Prop:=uX B λaa=>it false v (al Y λx=>aa x h) (aa bi.undef h)
abbrev R3(v:F)(Y:Option F)(am:F->Option F)(h:V an)(B:F->V an->Prop):Prop:=uX B λaa=>it true v (al Y λt=>E (am t) λx=>aa x h) (aa bi.undef h)
abbrev acA(v:F)(Y:Option F)(am:F->Option F)(h:V an)(B:F->V an->Prop):Prop:=uX B λaa=>it false v (al Y λt=>E (am t) λx=>aa x h) (aa bi.undef h)
abbrev MU(v:F)(g:(F->V an->Prop)->Prop)(h:V an)(B:F->V an->Prop):Prop:=uX B λaa=>it false v (g aa) (aa bi.undef h)
def GB(a:aZ)(b:bI):gs:=λc d e=>mZ a [.cell 2 23, .cell 3 26] b c c.bd d e
def JH(a:aZ)(b c:bI):rH:=λd e f g=>vm a [.cell 2 23, .cell 3 26] b c d e d.bd f g
def Ux(a:aZ)(b:F)(c:V an)(d:Nat)(e f:bI):Prop:=
 E (dT [.cz] d) λg=>cQ a c d g.1 g.2 λc d g=>E (dT [(.Z 0),(.Z 0)] g) λh=>cQ a d g h.1 h.2 λd g h=>aW a 66 [b] g h (λg h i=>E (cM 0 g) λj=>E (cM 1 g) λg=>E (ce a h 2 d g) λg=>E (ba 0 d) λh=>E (ao a g h) λh=>E (aF .neq h (.Z 0)) λh=>aY (λb c d=>al (b 2) λg=>al (b 3) λh=>Hu (.func (.func 67) [] [g,h]) [] b λb=>al (b 4) λg=>E (eB [.aP,(.Z 0)] [(0,1,g)]) λg=>ip a c d g λc d g=>aW a 68 [c] d g (λc d g=>al (b 2) λh=>E (ce a d 1 h c) λc=>al (b 2) λd=>E (ao a c d) λd=>aW a 69 [d] c g (λ_ c d=>al (b 2) λf=>E (ao a c f) λf=>E (eB [(.Z 0),(.Z 0)] []) λg=>al (b 2) λh=>E (ce a c 1 h f) λc=>al (b 3) λf=>E (ce a c 2 f g) λc=>GB a e b c d) (JH a e f (hE [19,20] b))) (JH a e f (hE [15,16,17,18] b))) λf=>a7 h (eV (i+3) λf=>E (cg a g 2 d) λi=>E (ce a g 1 c .cz) λg=>E (cg a g 2 d) λk=>gG k (some i) (E (ce a g 2 d i) λg=>GB a e (zD (cS [b]) 2 c 3 d 4 j 12 h) g f)) (f (zD (cS [b]) 2 c 3 d 4 j 12 h) g i)) (JH a e f (hE [6,7,5,8,9,4] (zB (cS [b]) 2 c 3 d)))
def agW:AB X 15 [a0] h j ai ay=Ux X a0 h j ai ay:=Zk
def agV:cU X 15 1=true:=Zk
def OE(a:aZ)(b c:F)(d:Option F)(e:V an)(f:Nat)(g:Bool->V an->Nat->Prop):Prop:=
 Gy (some d) (cS [b,c]) λb c=>aY (λa b c=>g a.rc b c) λd=>E (dn a e .eql 20 true b .nilIface) λg=>aY d λd=>a7 g (d (zB c 5 b 7 g) e f) (E (Eu 26 (.agg [(.Z 0),(.Z 0)]) true b) λh=>E (cM 1 h) λi=>E (cM 0 h) λh=>aY d λd=>a7 i (E (dT [(.Z 0),(.Z 0)] f) λj=>cQ a e f j.1 j.2 λe f j=>E (ce a f 2 e h) λf=>eV (j+3) λj=>E (cg a f 2 e) λk=>al (c 0) λl=>E (ce a f 1 l .cz) λf=>E (cg a f 2 e) λl=>gG l (some k) (al (c 1) λl=>E (ce a f 2 l k) λa=>d (ac (zD c 5 b 7 g 9 i 10 h) 3 e) a j)) (vn (λ_ _ _=>False) b e f))
def VP(X:ck)(a0 bh:F)(jB:Option F)(h:V an)(j:Nat)(ai:Bool->V an->Nat->Prop):x6 X 67 [a0,bh] jB h j ai=OE X a0 bh jB h j ai:=Zk
def OF:cU X 67 2=true:=Zk
def VQ(a:aZ)(b:F)(c:V an)(d:Nat)(e f:bI):Prop:=
 E (eB [.aP] []) λg=>ip a c d g λc d g=>aY (λa b c=>al (a 3) λa=>e a b c) λe=>fJ (λb c d g=>al (c 4) λh=>aY (λc d e=>aY (λc d e=>al (c 0) λg=>aW a 116 [g] d e (λa d e=>E (qX false 0 1 a) λa=>E (aF .neq a (.Z 7)) λa=>b (ac c 4 a) d e) f) λb=>eV (e+12) λg=>al (c 3) λh=>al (c 3) λi=>E (cm i) λi=>E (ba 0 i) λi=>E (ao a d i) λj=>al (c 0) λk=>aW a 117 [k] d g (λd f g=>E (fg 1 [(.str []),(.Z 0), .aP, .aP, .aP, .aP] [(0,6,d)] (e+7)) λd=>kU a f (e+7) d.1 d.2 λd e=>E (ao a e i) λf=>gG f (some j) (gw (hC a e g 6 j d) e g λd e f=>E (cm h) λg=>E (ba 0 g) λg=>E (ce a e 1 g d) λa=>b c a f)) f) λa=>a7 h (a (ac c 7 h) d g) (e (ac c 7 h) d g)) (zC (cS [b]) 2 .cz 3 c 4 (.bool true)) d g
def ajk:dh X 68 [a0] h j ai ay=VQ X a0 h j ai ay:=Zk
def ajj:cU X 68 1=true:=Zk
def VR(a:aZ)(b:F)(c:V an)(d:Nat)(e f:bI):Prop:=
 E (cm b) λg=>E (ba 0 g) λg=>E (ao a c g) λg=>E (dX g) λg=>E (aF .gtr g (.Z 64)) λg=>aY (λb c d=>al (b 0) λg=>E (cm g) λg=>E (ba 0 g) λg=>E (ao a c g) λg=>E (dX g) λh=>aY (λ_ a b=>e (.tuple []) a b) λe=>fJ (λb c d g=>al (c 26) λh=>al (c 25) λi=>E (aF .lss h i) λh=>aY (λc d e=>aY (λa c d=>al (a 26) λe=>E (aF .add e (.Z 1)) λe=>b (ac a 26 e) c d) λb=>al (c 24) λg=>al (c 26) λh=>E (dW 6 g h) λg=>E (cg a d 6 g) λg=>E (dT [(.str []),(.Z 0), .aP, .aP, .aP, .aP] e) λh=>cQ a d e h.1 h.2 λd e h=>E (ce a e 6 d g) λe=>E (ba 2 d) λg=>E (ao a e g) λg=>E (dX g) λg=>E (ba 3 d) λi=>E (ao a e i) λi=>E (dX i) λi=>E (aF .add g i) λg=>E (ba 4 d) λi=>E (ao a e i) λi=>E (dX i) λi=>E (aF .add g i) λg=>E (aF .gtr g (.Z 256)) λg=>dp g (ba 5 d) e h (λe h i=>dp g (ao a h e) h i (λe h i=>dp g (dX e) h i (λe h i=>dp g (aF .gtr e (.Z 4096)) h i (λe h i=>dd (λe=>aY (λc d e=>al (c 3) λg=>E (ba 5 g) λg=>E (ao a d g) λg=>E (dX g) λh=>aY b λb=>fJ (λc d e g=>al (d 55) λh=>al (d 54) λi=>E (aF .lss h i) λh=>aY (λb d e=>aY (λa b d=>al (a 55) λe=>E (aF .add e (.Z 1)) λe=>c (ac a 55 e) b d) λc=>al (b 53) λg=>al (b 55) λh=>E (dW 4 g h) λg=>E (cg a d 4 g) λg=>E (dT [.aP, .aP,(.Z 0), .cz] e) λh=>cQ a d e h.1 h.2 λd e h=>E (ce a e 4 d g) λe=>E (ba 3 d) λg=>E (ao a e g) λg=>aW a 118 [g] e h (λe g h=>E (aF .gtr e (.Z 200)) λe=>aY c λc=>a7 e (E (ba 2 d) λb=>E (ao a g b) λa=>E (eB [(.Z 0),(.Z 0)] [(0,1,(.Z 22)),(1,1,a)]) λa=>E (some (F.iface 26 a)) λa=>vn f a g h) (c (zB b 5 d 62 e) g h)) f) λa=>a7 h (a (ac d 56 h) e g) (b (ac d 56 h) e g)) (zC c 53 g 54 h 55 (.Z 0)) d e) λb=>a7 e (E (ba 1 d) λb=>E (ao a h b) λa=>E (eB [(.Z 0),(.Z 0)] [(0,1,(.Z 30)),(1,1,a)]) λa=>E (some (F.iface 26 a)) λa=>vn f a h i) (b (zB c 3 d 47 e) h i)) λa=>a7 g (a (.bool true)) (a e)))))) λa=>a7 h (a (ac c 27 h) d g) (e (ac c 27 h) d g)) (zC b 24 g 25 h 26 (.Z 0)) c d) λe=>a7 g (E (cm b) λb=>E (ba 0 b) λb=>E (ao a c b) λb=>E (dW 6 b (.Z 64)) λb=>E (ba 1 b) λb=>E (ao a c b) λa=>E (eB [(.Z 0),(.Z 0)] [(0,1,(.Z 30)),(1,1,a)]) λa=>E (some (F.iface 26 a)) λa=>vn f a c d) (e (ac (cS [b]) 11 g) c d)
def ajm:dh X 69 [a0] h j ai ay=VR X a0 h j ai ay:=Zk
def ajl:cU X 69 1=true:=Zk
def Uc(a:aZ)(b:F)(c:V an)(d:Nat)(e _:bI):Prop:=
 E (dT [(.Z 0),(.str []),(.Z 0),(.int .u64 0),(.bool false),(.bool false),(.Z 0)] d) λf=>cQ a c d f.1 f.2 λc d f=>eV (f+11) λf=>E (cm b) λg=>E (ba 0 g) λg=>E (ao a d g) λg=>E (cm b) λb=>E (ba 1 b) λb=>E (ao a d b) λb=>E (dW 7 g b) λb=>E (cg a d 7 b) λb=>E (ce a d 7 c b) λb=>E (cg a b 7 c) λa=>e a b f
def agf:dh X 116 [a0] h j ai ay=Uc X a0 h j ai ay:=Zk
def age:cU X 116 1=true:=Zk
def Ud(a:aZ)(b:F)(c:V an)(d:Nat)(e f:bI):Prop:=
 E (dT [(.str []),(.Z 0), .aP, .aP, .aP, .aP] d) λg=>cQ a c d g.1 g.2 λc d g=>E (fg 1 [(.str [])] [(0,1,(.str [110,111,100,101]))] g) λh=>cQ a d g h.1 h.2 λd g h=>aW a 172 [b,d] g h (λ_ d g=>aW a 173 [b,(.Z 1)] d g (λd g h=>E (dT [(.Z 0),(.str []),(.Z 0),(.int .u64 0),(.bool false),(.bool false),(.Z 0)] h) λi=>cQ a g h i.1 i.2 λg h i=>E (ce a h 7 g d) λd=>E (ba 1 g) λh=>E (ao a d h) λh=>E (ba 2 g) λj=>E (ao a d j) λj=>E (eB [(.str []),(.Z 0), .aP, .aP, .aP, .aP] [(0,1,h),(1,1,j)]) λh=>E (dT [(.str []),(.Z 0), .aP, .aP, .aP, .aP] i) λj=>cQ a d i j.1 j.2 λd i j=>E (ce a i 6 d h) λh=>E (fg 1 [(.str [])] [(0,1,(.str [40]))] j) λi=>cQ a h j i.1 i.2 λh i j=>aW a 172 [b,h] i j (λ_ h i=>aW a 174 [b,(.str [41])] h i (λh i j=>E (cM 0 h) λk=>E (cM 1 h) λh=>E (dT [(.Z 0),(.str []),(.Z 0),(.int .u64 0),(.bool false),(.bool false),(.Z 0)] j) λl=>cQ a i j l.1 l.2 λi j l=>E (ce a j 7 i k) λi=>E (fG .not h) λj=>aY (λb c d=>al (b 0) λg=>E (fg 2 [(.str []),(.str [])] [(0,1,(.str [114,101,116,117,114,110,115])),(1,1,(.str [40]))] d) λh=>cQ a c d h.1 h.2 λc d h=>aW a 172 [g,c] d h (λ_ c d=>al (b 0) λg=>aW a 175 [g,(.bool false)] c d (λc d g=>al (b 4) λh=>E (ba 3 h) λh=>E (ce a d 1 h c) λc=>al (b 0) λd=>E (fg 1 [(.str [])] [(0,1,(.str [41]))] g) λh=>cQ a c g h.1 h.2 λc g h=>aW a 172 [d,c] g h (λ_ c d=>al (b 0) λg=>aW a 174 [g,(.str [118,97,114])] c d (λc d g=>E (cM 0 c) λh=>E (cM 1 c) λc=>E (dT [(.Z 0),(.str []),(.Z 0),(.int .u64 0),(.bool false),(.bool false),(.Z 0)] g) λi=>cQ a d g i.1 i.2 λd g i=>E (ce a g 7 d h) λd=>aY (λb c d=>al (b 0) λg=>E (fg 1 [(.str [])] [(0,1,(.str [108,101,116]))] d) λh=>cQ a c d h.1 h.2 λc d h=>aW a 172 [g,c] d h (λ_ c d=>aY (λb c d=>al (b 2) λb=>E (cg a c 6 b) λa=>e a c d) λ_=>fJ (λb c d g=>aY b λb=>al (c 0) λh=>aW a 174 [h,(.str [116,101,108])] d g (λd g h=>E (cM 0 d) λi=>E (cM 1 d) λd=>E (dT [(.Z 0),(.str []),(.Z 0),(.int .u64 0),(.bool false),(.bool false),(.Z 0)] h) λj=>cQ a g h j.1 j.2 λg h j=>E (ce a h 7 g i) λg=>aY (λc d e=>eV (e+8) λg=>al (c 4) λh=>E (ba 5 h) λh=>E (ao a d h) λi=>al (c 0) λj=>aW a 176 [j] d g (λd f g=>E (fg 1 [.aP, .aP,(.Z 0), .cz] [(0,4,d)] (e+4)) λd=>kU a f (e+4) d.1 d.2 λd e=>E (ao a e h) λf=>gG f (some i) (gw (hC a e g 4 i d) e g λd e f=>al (c 4) λg=>E (ba 5 g) λg=>E (ce a e 1 g d) λa=>b c a f)) f) λb=>a7 d (al (c 4) λb=>E (cg a g 6 b) λb=>al (c 2) λd=>E (ce a g 6 d b) λb=>al (c 2) λc=>E (cg a b 6 c) λa=>e a b j) (b (zB c 10 d 66 d) g j)) f) b c d) f) λe=>a7 c (al (b 0) λg=>aW a 175 [g,(.bool true)] d i (λd g h=>al (b 4) λi=>E (ba 4 i) λi=>E (ce a g 1 i d) λd=>al (b 0) λg=>E (fg 1 [(.str [])] [(0,1,(.str [59]))] h) λi=>cQ a d h i.1 i.2 λd h i=>aW a 172 [g,d] h i (λ_ a d=>e (zB b 8 c 51 c) a d) f) f) (e (zB b 8 c 51 c) d i)) f) f) f) f) λe=>a7 j (aW a 175 [b,(.bool false)] i l (λi k l=>E (ba 2 d) λm=>E (ce a k 1 m i) λi=>E (fg 1 [(.str [])] [(0,1,(.str [41]))] l) λk=>cQ a i l k.1 k.2 λi k l=>aW a 172 [b,i] k l (λ_ a f=>e (ac (zD (cS [b]) 2 c 3 g 4 d 6 h) 30 j) a f) f) f) (e (ac (zD (cS [b]) 2 c 3 g 4 d 6 h) 30 j) i l)) f) f) f) f
def agi:dh X 117 [a0] h j ai ay=Ud X a0 h j ai ay:=Zk
def agh:cU X 117 1=true:=Zk
def UH(a:aZ)(b c:F)(d:V an)(e:Nat)(f g:bI):Prop:=
 E (dT [(.Z 0),(.str []),(.Z 0),(.int .u64 0),(.bool false),(.bool false),(.Z 0)] e) λh=>cQ a d e h.1 h.2 λd e h=>E (dT [(.Z 0),(.str []),(.Z 0),(.int .u64 0),(.bool false),(.bool false),(.Z 0)] h) λi=>cQ a e h i.1 i.2 λe h i=>E (dX c) λj=>aY (λb c d=>al (b 5) λe=>E (cg a c 7 e) λe=>al (b 4) λg=>E (ce a c 7 g e) λc=>al (b 4) λb=>E (cg a c 7 b) λa=>f a c d) λf=>fJ (λb c d e=>al (c 11) λh=>al (c 10) λi=>E (aF .lss h i) λh=>aY (λc d e=>aY (λa c d=>al (a 11) λe=>E (aF .add e (.Z 1)) λe=>b (ac a 11 e) c d) λb=>al (c 9) λf=>al (c 11) λh=>E (dW 1 f h) λf=>E (ao a d f) λf=>al (c 0) λh=>aW a 174 [h,f] d e (λd e h=>E (cM 0 d) λi=>E (cM 1 d) λd=>al (c 5) λj=>E (ce a e 7 j i) λe=>E (fG .not d) λi=>aY b λb=>a7 i (al (c 0) λj=>aW a 116 [j] e h (λe h j=>aW a 206 [e] h j (λ_ a e=>b (zD c 7 f 8 (.bool false) 8 d 22 i) a e) g) g) (b (zD c 7 f 8 (.bool false) 8 d 22 i) e h)) g) λa=>a7 h (a (ac c 12 h) d e) (f (ac c 12 h) d e)) (ac (zD (cS [b,c]) 4 d 5 e 9 c 10 j) 11 (.Z 0)) h i
def ahg:dh X 172 [a0,bh] h j ai ay=UH X a0 bh h j ai ay:=Zk
def ahf:cU X 172 2=true:=Zk
def UI(a:aZ)(b c:F)(d:V an)(e:Nat)(f g:bI):Prop:=
 E (dT [(.Z 0),(.str []),(.Z 0),(.int .u64 0),(.bool false),(.bool false),(.Z 0)] e) λh=>cQ a d e h.1 h.2 λd e h=>aW a 116 [b] e h (λe h i=>E (dT [(.Z 0),(.str []),(.Z 0),(.int .u64 0),(.bool false),(.bool false),(.Z 0)] i) λj=>cQ a h i j.1 j.2 λh i j=>E (ce a i 7 h e) λe=>E (ba 0 h) λi=>E (ao a e i) λi=>E (aF .neq i c) λi=>aY (λb c d=>al (b 0) λe=>E (cm e) λg=>E (ba 1 g) λg=>E (ao a c g) λg=>E (aF .add g (.Z 1)) λg=>E (cm e) λe=>E (ba 1 e) λe=>E (ce a c 1 e g) λc=>al (b 5) λe=>E (cg a c 7 e) λe=>al (b 4) λg=>E (ce a c 7 g e) λc=>al (b 4) λb=>E (cg a c 7 b) λa=>f a c d) λf=>a7 i (E (cg a e 7 h) λk=>aW a 206 [k] e j (λ_ a e=>f (zC (cS [b,c]) 4 d 5 h 11 i) a e) g) (f (zC (cS [b,c]) 4 d 5 h 11 i) e j)) g
def ahi:dh X 173 [a0,bh] h j ai ay=UI X a0 bh h j ai ay:=Zk
def ahh:cU X 173 2=true:=Zk
def OB(a:aZ)(b c:F)(d:V an)(e:Nat)(f g:bI):Prop:=
 E (dT [(.Z 0),(.str []),(.Z 0),(.int .u64 0),(.bool false),(.bool false),(.Z 0)] e) λh=>cQ a d e h.1 h.2 λd e h=>aW a 116 [b] e h (λe g h=>E (dT [(.Z 0),(.str []),(.Z 0),(.int .u64 0),(.bool false),(.bool false),(.Z 0)] h) λi=>cQ a g h i.1 i.2 λg h i=>E (ce a h 7 g e) λe=>E (ba 0 g) λh=>E (ao a e h) λh=>E (aF .neq h (.Z 2)) λh=>c2 h (ba 0 g) e i (λe i j=>c2 h (ao a i e) i j (λe i j=>c2 h (aF .neq e (.Z 6)) i j (λe i j=>dd (λe=>dp e (ba 1 g) i j (λh i j=>dp e (ao a i h) i j (λh i j=>hh e c i j (λi j k=>dp e (dn a j .neq 9 false h i) j k (λh i j=>dd (λe=>aY (λb c d=>al (b 0) λe=>E (cm e) λg=>E (ba 1 g) λg=>E (ao a c g) λg=>E (aF .add g (.Z 1)) λg=>E (cm e) λe=>E (ba 1 e) λe=>E (ce a c 1 e g) λc=>al (b 6) λe=>E (cg a c 7 e) λe=>al (b 4) λg=>E (ce a c 7 g e) λc=>al (b 4) λb=>E (cg a c 7 b) λa=>f (.tuple [a,(.bool true)]) c d) λh=>a7 e (E (eB [(.Z 0),(.str []),(.Z 0),(.int .u64 0),(.bool false),(.bool false),(.Z 0)] []) λb=>E (ce a i 7 d b) λb=>E (cg a b 7 d) λa=>f (.tuple [a,(.bool false)]) b j) (h (zD (cS [b,c]) 4 d 5 (.bool false) 6 g 22 e) i j)) λa=>a7 e (a (.bool true)) (a h)))))) λa=>a7 h (a e) (a (.bool false)))))) g
def UK:dh X 174 [a0,bh] h j ai ay=OB X a0 bh h j ai ay:=Zk
def UJ:cU X 174 2=true:=Zk
def UL(a:aZ)(b c:F)(d:V an)(e:Nat)(f g:bI):Prop:=
 aY (λa b c=>al (a 4) λa=>f a b c) λ_=>fJ (λb c d e=>aY b λb=>aY (λc d e=>al (c 0) λh=>E (fg 1 [(.str [])] [(0,1,(.str [58]))] e) λi=>cQ a d e i.1 i.2 λd e i=>aW a 172 [h,d] e i (λ_ d e=>al (c 0) λh=>aW a 173 [h,(.Z 3)] d e (λd e h=>E (qX true 4 3 d) λd=>E (eB [(.str []),(.Z 0),(.bool false),(.bool false),(.Z 0),(.str []),(.Z 0),(.bool false)] [(2,3,d)]) λd=>E (dT [(.str []),(.Z 0),(.bool false),(.bool false),(.Z 0),(.str []),(.Z 0),(.bool false)] h) λi=>cQ a e h i.1 i.2 λe h i=>E (ce a h 8 e d) λd=>al (c 0) λh=>aW a 174 [h,(.str [119,104,101,110])] d i (λd h i=>E (cM 0 d) λj=>E (cM 1 d) λd=>E (dT [(.Z 0),(.str []),(.Z 0),(.int .u64 0),(.bool false),(.bool false),(.Z 0)] i) λk=>cQ a h i k.1 k.2 λh i k=>E (ce a i 7 h j) λh=>aY (λc d e=>al (c 6) λh=>E (dX h) λi=>aY (λc d e=>eV (e+22) λe=>al (c 0) λh=>aW a 116 [h] d e (λd e g=>E (qX false 1 1 d) λd=>E (dn a e .neq 9 true d (.str [59])) λd=>Jb d (c 1) e (λe h=>MV d e h (λe h=>uW e (c 0) h (λh i=>gv e (cm h) i (λh i=>gv e (ba 0 h) i (λh i=>gv e (ao a i h) i (λh i=>uW e (c 0) i (λi j=>gv e (cm i) j (λi j=>gv e (ba 1 i) j (λi j=>gv e (ao a j i) j (λi j=>gv e (aF .add i (.Z 1)) j (λi j=>gv e (dW 7 h i) j (λh i=>gv e (ba 1 h) i (λh i=>gv e (ao a i h) i (λh i=>gv e (dn a i .eql 9 true h (.str [108,101,116])) i (λh i=>MU d (λa=>dd (λb=>a b i) λa=>a7 e (a h) (a (.bool false))) i (λe h=>dd (λd=>aY (λc d e=>al (c 0) λf=>E (cm f) λg=>E (ba 1 g) λg=>E (ao a d g) λg=>E (aF .add g (.Z 1)) λg=>E (cm f) λf=>E (ba 1 f) λf=>E (ce a d 1 f g) λa=>b c a e) λa=>a7 d (al (c 5) λa=>f a h g) (a (ac c 90 d) h g)) λa=>a7 d (a (.bool true)) (a e)))))))))))))))))) g) λb=>fJ (λc d e f=>al (d 54) λg=>al (d 53) λh=>E (aF .lss g h) λg=>aY (λb d e=>aY (λa b d=>al (a 54) λe=>E (aF .add e (.Z 1)) λe=>c (ac a 54 e) b d) λc=>al (b 52) λf=>al (b 54) λg=>E (dW 7 f g) λf=>E (cg a d 7 f) λf=>E (dT [(.Z 0),(.str []),(.Z 0),(.int .u64 0),(.bool false),(.bool false),(.Z 0)] e) λg=>cQ a d e g.1 g.2 λd e g=>E (ce a e 7 d f) λe=>eV (g+8) λf=>E (ba 1 d) λg=>E (ao a e g) λg=>E (ba 2 d) λh=>E (ao a e h) λi=>al (b 8) λj=>E (ba 0 j) λj=>E (ce a e 1 j g) λe=>al (b 8) λg=>E (ba 1 g) λg=>E (ao a e h) λh=>gG h (some i) (E (ce a e 1 g i) λe=>al (b 5) λg=>al (b 8) λh=>E (cg a e 8 h) λh=>E (fg 1 [(.str []),(.Z 0),(.bool false),(.bool false),(.Z 0),(.str []),(.Z 0),(.bool false)] [(0,8,h)] f) λh=>cQ a e f h.1 h.2 λe f h=>gw (hC a f h 8 g e) f h λa e f=>c (zB b 13 d 5 a) e f)) λa=>a7 g (a (ac d 55 g) e f) (b (ac d 55 g) e f)) (zC c 52 h 53 i 54 (.Z 0)) d e) λb=>a7 d (al (c 0) λf=>aW a 174 [f,(.str [110,111,116])] h k (λf h i=>E (cM 0 f) λ_=>E (cM 1 f) λf=>E (ba 7 e) λj=>E (ce a h 1 j f) λf=>al (c 0) λh=>aW a 173 [h,(.Z 1)] f i (λf g h=>E (dT [(.Z 0),(.str []),(.Z 0),(.int .u64 0),(.bool false),(.bool false),(.Z 0)] h) λi=>cQ a g h i.1 i.2 λg h i=>E (ce a h 7 g f) λf=>eV (i+8) λh=>E (ba 1 g) λi=>E (ao a f i) λi=>E (ba 2 g) λj=>E (ao a f j) λk=>E (ba 5 e) λl=>E (ce a f 1 l i) λf=>E (ba 6 e) λi=>E (ao a f j) λj=>gG j (some k) (E (ce a f 1 i k) λa=>b (zD c 8 e 10 d 37 d 11 g) a h)) g) g) (b (zC c 8 e 10 d 37 d) h k)) g) g) g) λb=>fJ (λc d e f=>al (d 7) λh=>aY (λb d e=>aY (λb d e=>al (b 0) λf=>aW a 174 [f,(.str [44])] d e (λa d e=>E (cM 0 a) λ_=>E (cM 1 a) λa=>c (ac b 7 a) d e) g) λc=>al (b 6) λf=>al (b 0) λh=>aW a 173 [h,(.Z 1)] d e (λd e g=>E (fg 1 [(.Z 0),(.str []),(.Z 0),(.int .u64 0),(.bool false),(.bool false),(.Z 0)] [(0,7,d)] g) λd=>cQ a e g d.1 d.2 λd e g=>gw (hC a e g 7 f d) e g λa d e=>c (ac b 6 a) d e) g) λa=>a7 h (a (ac d 14 h) e f) (b (ac d 14 h) e f)) (zB c 6 .aP 7 (.bool true)) d e) (zB (cS [b,c]) 4 .aP 5 .aP) d e
def ahk:dh X 175 [a0,bh] h j ai ay=UL X a0 bh h j ai ay:=Zk
def ahj:cU X 175 2=true:=Zk
def UM(a:aZ)(b:F)(c:V an)(d:Nat)(e f:bI):Prop:=
 ip a c d b λc d g=>E (dT [.aP, .aP,(.Z 0), .cz] g) λh=>cQ a d g h.1 h.2 λd g h=>E (dT [.aP, .aP,(.Z 0), .cz] h) λi=>cQ a g h i.1 i.2 λg h i=>E (ao a h c) λj=>aW a 174 [j,(.str [40])] h i (λh i j=>E (cM 0 h) λk=>E (cM 1 h) λh=>E (dT [(.Z 0),(.str []),(.Z 0),(.int .u64 0),(.bool false),(.bool false),(.Z 0)] j) λl=>cQ a i j l.1 l.2 λi j l=>E (ce a j 7 i k) λi=>aY (λb c d=>al (b 1) λg=>E (ao a c g) λg=>E (fg 1 [(.str [])] [(0,1,(.str [61]))] d) λh=>cQ a c d h.1 h.2 λc d h=>aW a 172 [g,c] d h (λc d g=>E (qX false 2 1 c) λc=>al (b 3) λh=>E (ba 2 h) λh=>E (ce a d 1 h c) λc=>al (b 1) λd=>E (ao a c d) λd=>aW a 208 [d] c g (λc d g=>al (b 3) λh=>E (ba 3 h) λh=>E (ce a d 1 h c) λc=>al (b 1) λd=>E (ao a c d) λd=>E (fg 1 [(.str [])] [(0,1,(.str [59]))] g) λh=>cQ a c g h.1 h.2 λc g h=>aW a 172 [d,c] g h (λ_ c d=>al (b 3) λf=>E (cg a c 4 f) λf=>al (b 2) λg=>E (ce a c 4 g f) λc=>al (b 2) λb=>E (cg a c 4 b) λa=>e a c d) f) f) f) λe=>a7 h (jn a (.func (.func 207) [] [c,g]) [] i l (λ_ i j=>E (ao a i c) λk=>E (fg 1 [(.str [])] [(0,1,(.str [44]))] j) λl=>cQ a i j l.1 l.2 λi j l=>aW a 172 [k,i] j l (λ_ i j=>aY (λb c d=>al (b 1) λg=>E (ao a c g) λg=>E (fg 1 [(.str [])] [(0,1,(.str [41]))] d) λh=>cQ a c d h.1 h.2 λc d h=>aW a 172 [g,c] d h (λ_ a c=>e b a c) f) λe=>fJ (λb c d g=>al (c 7) λh=>aY (λc d e=>aY (λc d e=>al (c 1) λg=>E (ao a d g) λg=>aW a 174 [g,(.str [44])] d e (λa d e=>E (cM 0 a) λ_=>E (cM 1 a) λa=>b (ac c 7 a) d e) f) λb=>al (c 4) λg=>jn a g [] d e (λ_ a d=>b c a d) f) λa=>a7 h (a (ac c 20 h) d g) (e (ac c 20 h) d g)) (zC (zD (cS [b]) 1 c 2 d 3 g 4 (.func (.func 207) [] [c,g])) 6 h 14 h 7 (.bool true)) i j) f) f) (jn a (.func (.func 207) [] [c,g]) [] i l (λ_ a f=>e (zB (zD (cS [b]) 1 c 2 d 3 g 4 (.func (.func 207) [] [c,g])) 6 h 14 h) a f) f)) f
def ahm:dh X 176 [a0] h j ai ay=UM X a0 h j ai ay:=Zk
def ahl:cU X 176 1=true:=Zk
def Vb(a:aZ)(b:F)(c:V an)(d:Nat)(_ e:bI):Prop:=
 ip a c d b λb c d=>E (ba 2 b) λb=>E (ao a c b) λa=>E (eB [(.Z 0),(.Z 0)] [(0,1,(.Z 21)),(1,1,a)]) λa=>E (some (F.iface 26 a)) λa=>vn e a c d
def ah4:dh X 206 [a0] h j ai ay=Vb X a0 h j ai ay:=Zk
def ah3:cU X 206 1=true:=Zk
def Vc(a:aZ)(b c:F)(d:V an)(e:Nat)(f g:bI):Prop:=
 E (ao a d b) λb=>aW a 173 [b,(.Z 1)] d e (λb d e=>E (dT [(.Z 0),(.str []),(.Z 0),(.int .u64 0),(.bool false),(.bool false),(.Z 0)] e) λg=>cQ a d e g.1 g.2 λd e g=>E (ce a e 7 d b) λb=>eV (g+16) λe=>E (ba 0 c) λh=>E (ao a b h) λh=>E (ba 1 d) λi=>E (ao a b i) λi=>E (fg 1 [(.str [])] [(0,1,i)] (g+4)) λi=>kU a b (g+4) i.1 i.2 λb i=>E (ba 1 c) λj=>E (ao a i j) λk=>E (ba 2 d) λd=>E (ao a i d) λl=>E (fg 1 [(.Z 0)] [(0,1,l)] (g+10)) λm=>kU a i (g+10) m.1 m.2 λg i=>gw (hC a i e 1 h b) i e λb e h=>E (ba 0 c) λi=>E (ao a e j) λj=>gG j (some k) (E (ao a e d) λd=>gG d (some l) (gw (hC a e h 1 k g) e h λd e g=>E (ce a e 1 i b) λb=>E (ba 1 c) λc=>E (ce a b 1 c d) λa=>f (.tuple []) a g))) g
def ah6:dh X 207 [a0,bh] h j ai ay=Vc X a0 bh h j ai ay:=Zk
def ah5:cU X 207 2=true:=Zk
def Vd(a:aZ)(b:F)(c:V an)(d:Nat)(e f:bI):Prop:=
 aW a 232 [b] c d (λc d g=>aW a 174 [b,(.str [45,62])] d g (λd g h=>E (cM 0 d) λi=>E (cM 1 d) λd=>E (dT [(.Z 0),(.str []),(.Z 0),(.int .u64 0),(.bool false),(.bool false),(.Z 0)] h) λj=>cQ a g h j.1 j.2 λg h j=>E (ce a h 7 g i) λh=>E (fG .not d) λi=>aY (λb c d=>eV (d+9) λg=>al (b 4) λh=>E (ba 2 h) λh=>E (ao a c h) λi=>al (b 3) λj=>al (b 0) λb=>aW a 208 [b] c g (λb c f=>E (fg 2 [.cz, .cz] [(0,1,j),(1,1,b)] (d+5)) λb=>kU a c (d+5) b.1 b.2 λb c=>E (eB [(.Z 0),(.Z 0),(.str []),(.bool false),(.bool false),(.bool false),(.Z 0),(.int .u64 0), .aP] [(0,1,(.Z 22)),(1,1,i),(8,1,b)]) λb=>xP a c (d+7) b λb c=>E (ao a c h) λa=>gG a (some i) (e b c f)) f) λa=>a7 i (e c h j) (a (ac (zD (cS [b]) 2 .cz 3 c 4 g 5 d) 14 i) h j)) f) f
def ah8:dh X 208 [a0] h j ai ay=Vd X a0 h j ai ay:=Zk
def ah7:cU X 208 1=true:=Zk
def Vr(a:aZ)(b:F)(c:V an)(d:Nat)(e f:bI):Prop:=
 aW a 243 [b,(.Z 0)] c d (λc d g=>aW a 174 [b,(.str [102,98,121])] d g (λd g h=>E (cM 0 d) λi=>E (cM 1 d) λd=>E (dT [(.Z 0),(.str []),(.Z 0),(.int .u64 0),(.bool false),(.bool false),(.Z 0)] h) λj=>cQ a g h j.1 j.2 λg h j=>E (ce a h 7 g i) λh=>E (fG .not d) λi=>aY (λb c d=>al (b 3) λg=>E (cm g) λg=>E (ba 0 g) λg=>E (ao a c g) λg=>E (aF .neq g (.Z 1)) λg=>lI g (b 3) c d (λc d h=>c2 g (cm c) d h (λc d h=>c2 g (ba 0 c) d h (λc d h=>c2 g (ao a d c) d h (λc d h=>c2 g (aF .neq c (.Z 4)) d h (λc d h=>jM g c d h (λc d h=>w7 c (b 3) d h (λd h i=>dp c (cm d) h i (λd h i=>dp c (ba 8 d) h i (λd h i=>dp c (ao a h d) h i (λd h i=>dp c (dW 1 d (.Z 0)) h i (λd h i=>dp c (ao a h d) h i (λd h i=>dp c (cm d) h i (λd h i=>dp c (ba 0 d) h i (λd h i=>dp c (ao a h d) h i (λd h i=>dp c (aF .neq d (.Z 1)) h i (λd h i=>lH g (λa=>dd (λb=>a b h i) λa=>a7 c (a (.bool true)) (a d)) h i (λc d h=>dd (λc=>aY (λb c d=>eV (d+9) λg=>al (b 4) λh=>E (ba 2 h) λh=>E (ao a c h) λi=>al (b 3) λj=>al (b 0) λb=>aW a 232 [b] c g (λb c f=>E (fg 2 [.cz, .cz] [(0,1,j),(1,1,b)] (d+5)) λb=>kU a c (d+5) b.1 b.2 λb c=>E (eB [(.Z 0),(.Z 0),(.str []),(.bool false),(.bool false),(.bool false),(.Z 0),(.int .u64 0), .aP] [(0,1,(.Z 21)),(1,1,i),(8,1,b)]) λb=>xP a c (d+7) b λb c=>E (ao a c h) λa=>gG a (some i) (e b c f)) f) λe=>a7 c (al (b 4) λg=>E (cg a d 7 g) λg=>aW a 206 [g] d h (λ_ a d=>e (ac b 39 c) a d) f) (e (ac b 39 c) d h)) λa=>a7 g (a c) (a (.bool false)))))))))))))))))))) λa=>a7 i (e c h j) (a (ac (zD (cS [b]) 2 .cz 3 c 4 g 5 d) 14 i) h j)) f) f
def aiC:dh X 232 [a0] h j ai ay=Vr X a0 h j ai ay:=Zk
def aiB:cU X 232 1=true:=Zk
def Vx(a:aZ)(b c:F)(d:V an)(e:Nat)(f g:bI):Prop:=
 E (aF .eql c (.Z 5)) λh=>aY (λb c d=>al (b 0) λe=>al (b 1) λh=>E (aF .add h (.Z 1)) λh=>aW a 243 [e,h] c d (λc d e=>aY (λa b c=>al (a 4) λa=>f a b c) λ_=>fJ (λb c d e=>aY b λb=>al (c 0) λh=>al (c 1) λi=>aW a 252 [h,i] d e (λd e h=>E (cM 0 d) λi=>E (cM 1 d) λd=>E (fG .not d) λj=>aY (λc d e=>al (c 6) λh=>al (c 5) λi=>al (c 0) λj=>al (c 1) λk=>E (aF .add k (.Z 1)) λk=>aW a 243 [j,k] d e (λd e g=>E (fg 2 [.cz, .cz] [(0,1,i),(1,1,d)] g) λd=>cQ a e g d.1 d.2 λd e g=>E (cm h) λh=>E (ba 8 h) λh=>E (ce a e 1 h d) λa=>al (c 6) λd=>al (c 1) λe=>E (aF .eql e (.Z 2)) λe=>aY b λb=>a7 e (f d a g) (b (zB c 5 d 36 e) a g)) g) λa=>a7 j (al (c 5) λa=>f a e h) (a (zC c 6 i 7 d 23 j) e h)) g) (ac b 5 c) d e) g) λi=>a7 h (aW a 251 [b] d e f g) (i (zB (cS [b,c]) 4 .cz 9 h) d e)
def aiO:dh X 243 [a0,bh] h j ai ay=Vx X a0 bh h j ai ay:=Zk
def aiN:cU X 243 2=true:=Zk
def Vz(a:aZ)(b:F)(c:V an)(d:Nat)(e f:bI):Prop:=
 aW a 258 [b] c d (λc d g=>aY (λa b c=>al (a 2) λa=>e a b c) λ_=>fJ (λb c d g=>aY b λb=>al (c 0) λh=>aW a 174 [h,(.str [60,60])] d g (λd g h=>E (cM 0 d) λi=>E (cM 1 d) λd=>E (dT [(.Z 0),(.str []),(.Z 0),(.int .u64 0),(.bool false),(.bool false),(.Z 0)] h) λj=>cQ a g h j.1 j.2 λg h j=>E (ce a h 7 g i) λh=>E (fG .not d) λi=>aY (λc d g=>al (c 6) λh=>E (fG .not h) λh=>aY (λc d e=>al (c 0) λg=>aW a 173 [g,(.Z 4)] d e (λd e g=>E (dT [(.Z 0),(.str []),(.Z 0),(.int .u64 0),(.bool false),(.bool false),(.Z 0)] g) λh=>cQ a e g h.1 h.2 λe g h=>E (ce a g 7 e d) λd=>E (ba 3 e) λg=>E (ao a d g) λg=>E (aF .gtr g (.int .u64 63)) λg=>aY (λc d e=>al (c 4) λf=>al (c 5) λg=>E (ba 2 g) λg=>E (ao a d g) λg=>al (c 7) λh=>E (ba 3 h) λh=>E (ao a d h) λh=>al (c 3) λi=>E (fg 1 [.cz] [(0,1,i)] e) λi=>cQ a d e i.1 i.2 λd e i=>E (eB [(.Z 0),(.Z 0),(.str []),(.bool false),(.bool false),(.bool false),(.Z 0),(.int .u64 0), .aP] [(0,1,f),(1,1,g),(7,1,h),(8,1,d)]) λd=>ip a e i d λa d e=>b (ac c 3 a) d e) λb=>a7 g (E (cg a d 7 e) λi=>aW a 206 [i] d h (λ_ a d=>b (zB c 7 e 29 g) a d) f) (b (zB c 7 e 29 g) d h)) f) λa=>a7 h (al (c 3) λa=>e a d g) (a (ac c 23 h) d g)) λb=>a7 i (al (c 0) λe=>aW a 174 [e,(.str [62,62])] h j (λe f h=>E (cM 0 e) λj=>E (cM 1 e) λe=>E (ce a f 7 g j) λa=>b (zB (zD c 4 (.Z 19) 5 g 6 d 16 i) 4 (.Z 20) 6 e) a h) f) (b (zD c 4 (.Z 19) 5 g 6 d 16 i) h j)) f) (zB (cS [b]) 2 .cz 3 c) d g) f
def aiS:dh X 251 [a0] h j ai ay=Vz X a0 h j ai ay:=Zk
def aiR:cU X 251 1=true:=Zk
def VA(a:aZ)(b c:F)(d:V an)(e:Nat)(f g:bI):Prop:=
 E (FQ 5 1 (.ptr 9 0) c) λh=>E (ao a d h) λh=>E (dX h) λi=>aY (λ_ a b=>f (.tuple [.cz,(.bool false)]) a b) λj=>fJ (λb c d e=>al (c 14) λh=>al (c 13) λi=>E (aF .lss h i) λh=>aY (λc d e=>aY (λa c d=>al (a 14) λe=>E (aF .add e (.Z 1)) λe=>b (ac a 14 e) c d) λb=>al (c 12) λh=>al (c 14) λi=>E (dW 2 h i) λh=>E (cg a d 2 h) λh=>E (dT [(.str []),(.Z 0)] e) λi=>cQ a d e i.1 i.2 λd e i=>E (ce a e 2 d h) λe=>al (c 0) λh=>E (ba 0 d) λj=>E (ao a e j) λj=>aW a 174 [h,j] e i (λe g h=>E (cM 0 e) λi=>E (cM 1 e) λe=>E (dT [(.Z 0),(.str []),(.Z 0),(.int .u64 0),(.bool false),(.bool false),(.Z 0)] h) λj=>cQ a g h j.1 j.2 λg h j=>E (ce a h 7 g i) λh=>aY b λb=>a7 e (E (ba 1 d) λb=>E (ao a h b) λb=>E (ba 2 g) λc=>E (ao a h c) λc=>E (eB [(.Z 0),(.Z 0),(.str []),(.bool false),(.bool false),(.bool false),(.Z 0),(.int .u64 0), .aP] [(0,1,b),(1,1,c)]) λb=>ip a h j b λa b c=>f (.tuple [a,(.bool true)]) b c) (b (zD c 7 d 8 g 9 e 25 e) h j)) g) λa=>a7 h (a (ac c 15 h) d e) (j (ac c 15 h) d e)) (ac (zD (cS [b,c]) 4 .cz 5 (.bool false) 12 h 13 i) 14 (.Z 0)) d e
def aiU:dh X 252 [a0,bh] h j ai ay=VA X a0 bh h j ai ay:=Zk
def aiT:cU X 252 2=true:=Zk
def VB(a:aZ)(b:F)(c:V an)(d:Nat)(e f:bI):Prop:=
 E (eB [(.str []),(.Z 0)] [(0,1,(.str [110,111,116])),(1,1,(.Z 3))]) λg=>E (eB [(.str []),(.Z 0)] [(0,1,(.str [45])),(1,1,(.Z 4))]) λh=>E (eB [(.str []),(.Z 0)] [(0,1,(.str [112,114,101])),(1,1,(.Z 5))]) λi=>E (eB [(.str []),(.Z 0),(.str []),(.Z 0),(.str []),(.Z 0)] [(0,2,g),(2,2,h),(4,2,i)]) λg=>aY (λb c d=>al (b 0) λg=>aW a 261 [g] c d (λc d g=>aY (λa b c=>al (a 2) λa=>e a b c) λ_=>fJ (λb c d g=>aY b λb=>al (c 0) λh=>aW a 174 [h,(.str [119,104,101,110])] d g (λd g h=>E (cM 0 d) λi=>E (cM 1 d) λd=>E (dT [(.Z 0),(.str []),(.Z 0),(.int .u64 0),(.bool false),(.bool false),(.Z 0)] h) λj=>cQ a g h j.1 j.2 λg h j=>E (ce a h 7 g i) λh=>E (fG .not d) λi=>aY (λc d e=>al (c 0) λg=>aW a 174 [g,(.str [110,111,116])] d e (λd e g=>E (cM 0 d) λh=>E (cM 1 d) λd=>E (dT [(.Z 0),(.str []),(.Z 0),(.int .u64 0),(.bool false),(.bool false),(.Z 0)] g) λi=>cQ a e g i.1 i.2 λe g i=>E (ce a g 7 e h) λe=>eV (i+11) λg=>al (c 8) λh=>E (ba 2 h) λh=>E (ao a e h) λj=>al (c 0) λk=>al (c 7) λl=>E (fg 1 [.cz] [(0,1,l)] (i+7)) λl=>kU a e (i+7) l.1 l.2 λe l=>aW a 173 [k,(.Z 1)] l g (λf g k=>E (qX false 1 1 f) λf=>E (eB [(.Z 0),(.Z 0),(.str []),(.bool false),(.bool false),(.bool false),(.Z 0),(.int .u64 0), .aP] [(0,1,(.Z 6)),(1,1,j),(2,1,f),(3,1,d),(8,1,e)]) λe=>xP a g (i+9) e λe f=>E (ao a f h) λa=>gG a (some j) (b (zB c 11 d 7 e) f k)) f) f) λa=>a7 i (al (c 7) λa=>e a h j) (a (zC c 8 g 9 d 45 i) h j)) f) (ac b 7 c) d g) f) λh=>fJ (λb c d g=>al (c 16) λi=>E (aF .lss i (.Z 3)) λi=>aY (λc d g=>aY (λa c d=>al (a 16) λe=>E (aF .add e (.Z 1)) λe=>b (ac a 16 e) c d) λb=>al (c 15) λh=>al (c 16) λi=>E (ts true 3 2 h i) λh=>E (dT [(.str []),(.Z 0)] g) λi=>cQ a d g i.1 i.2 λd g i=>E (ce a g 2 d h) λg=>al (c 0) λh=>E (ba 0 d) λj=>E (ao a g j) λj=>aW a 174 [h,j] g i (λg h i=>E (cM 0 g) λj=>E (cM 1 g) λg=>E (dT [(.Z 0),(.str []),(.Z 0),(.int .u64 0),(.bool false),(.bool false),(.Z 0)] i) λk=>cQ a h i k.1 k.2 λh i k=>E (ce a i 7 h j) λi=>aY b λb=>a7 g (eV (k+10) λb=>E (ba 1 d) λd=>E (ao a i d) λg=>E (ba 2 h) λh=>E (ao a i h) λj=>al (c 0) λc=>aW a 258 [c] i b (λb c f=>E (fg 1 [.cz] [(0,1,b)] (k+6)) λb=>kU a c (k+6) b.1 b.2 λb c=>E (eB [(.Z 0),(.Z 0),(.str []),(.bool false),(.bool false),(.bool false),(.Z 0),(.int .u64 0), .aP] [(0,1,g),(1,1,j),(8,1,b)]) λb=>xP a c (k+8) b λb c=>E (ao a c d) λd=>gG d (some g) (E (ao a c h) λa=>gG a (some j) (e b c f))) f) (b (zD c 4 d 5 h 6 g 26 g) i k)) f) λa=>a7 i (a (ac c 17 i) d g) (h (ac c 17 i) d g)) (zC (cS [b]) 2 .cz 15 g 16 (.Z 0)) c d
def aiW:dh X 258 [a0] h j ai ay=VB X a0 h j ai ay:=Zk
def aiV:cU X 258 1=true:=Zk
def xH(a:aZ)(b:F)(c:V an)(d:Nat)(e f:bI):Prop:=
 aW a 116 [b] c d (λc d g=>E (dT [(.Z 0),(.str []),(.Z 0),(.int .u64 0),(.bool false),(.bool false),(.Z 0)] g) λh=>cQ a d g h.1 h.2 λd g h=>E (ce a g 7 d c) λc=>E (ba 2 d) λg=>E (ao a c g) λg=>E (eB [(.Z 0),(.Z 0),(.str []),(.bool false),(.bool false),(.bool false),(.Z 0),(.int .u64 0), .aP] [(1,1,g)]) λg=>ip a c h g λc g h=>E (cm b) λi=>E (ba 1 i) λi=>E (ao a g i) λi=>E (aF .add i (.Z 1)) λi=>E (cm b) λj=>E (ba 1 j) λj=>E (ce a g 1 j i) λg=>aY (λa b c=>al (a 4) λa=>e a b c) λe=>E (ba 0 d) λi=>E (ao a g i) λi=>E (aF .eql i (.Z 5)) λi=>aY e λe=>a7 i (eV (h+16) λf=>E (ba 4 d) λh=>E (cg a g 3 h) λj=>E (ba 3 d) λk=>E (ao a g k) λl=>E (cm c) λm=>E (ba 0 m) λm=>E (ce a g 1 m (.Z 1)) λg=>E (cm c) λm=>E (ba 4 m) λm=>E (cg a g 3 h) λh=>gG h (some j) (E (ao a g k) λh=>gG h (some l) (E (ce a g 3 m j) λg=>E (cm c) λh=>E (ba 7 h) λh=>E (ao a g k) λj=>gG j (some l) (E (ce a g 1 h l) λa=>e (zD (cS [b]) 2 .cz 3 d 4 c 29 i) a f)))) (E (ba 0 d) λj=>E (ao a g j) λj=>E (aF .eql j (.Z 2)) λj=>c2 j (ba 1 d) g h (λg h k=>c2 j (ao a h g) h k (λg h k=>c2 j (dn a h .eql 9 true g (.str [116,114,117,101])) h k (λg h k=>jM j g h k (λg h k=>dp g (ba 1 d) h k (λh k l=>dp g (ao a k h) k l (λh k l=>dp g (dn a k .eql 9 true h (.str [102,97,108,115,101])) k l (λh k l=>lH j (λa=>dd (λb=>a b k l) λa=>a7 g (a (.bool true)) (a h)) k l (λg h k=>dd (λg=>aY e λe=>a7 g (E (eB [(.bool false),(.bool false),(.Z 0)] [(0,1,(.bool true)),(2,1,(.Z 1))]) λf=>E (cm c) λj=>E (ba 0 j) λj=>E (ce a h 1 j (.Z 1)) λh=>E (cm c) λj=>E (ba 4 j) λj=>E (ce a h 3 j f) λf=>E (ba 1 d) λh=>E (ao a f h) λh=>E (dn a f .eql 9 true h (.str [116,114,117,101])) λh=>aY e λe=>a7 h (E (cm c) λj=>E (ba 7 j) λj=>E (ce a f 1 j (.int .u64 1)) λa=>e (zB (zD (cS [b]) 2 .cz 3 d 4 c 29 i) 46 g 69 h) a k) (e (zB (zD (cS [b]) 2 .cz 3 d 4 c 29 i) 46 g 69 h) f k)) (E (ba 0 d) λj=>E (ao a h j) λj=>E (aF .eql j (.Z 1)) λj=>aY e λe=>a7 j (eV (k+10) λk=>E (ba 1 d) λl=>E (ao a h l) λm=>E (cm c) λn=>E (ba 0 n) λn=>E (ce a h 1 n (.Z 2)) λh=>E (cm c) λn=>E (ba 2 n) λn=>E (ao a h l) λl=>gG l (some m) (E (ce a h 1 n m) λh=>aW a 174 [b,(.str [40])] h k (λh k l=>E (cM 0 h) λm=>E (cM 1 h) λh=>E (dT [(.Z 0),(.str []),(.Z 0),(.int .u64 0),(.bool false),(.bool false),(.Z 0)] l) λn=>cQ a k l n.1 n.2 λk l n=>E (ce a l 7 k m) λk=>aY e λe=>a7 h (aW a 262 [b] k n (λf k l=>E (cm c) λm=>E (ba 0 m) λm=>E (ce a k 1 m (.Z 25)) λk=>E (cm c) λm=>E (ba 8 m) λm=>E (ce a k 1 m f) λa=>e (zD (zD (cS [b]) 2 .cz 3 d 4 c 29 i) 46 g 73 j 6 h 90 h) a l) f) (e (zD (zD (cS [b]) 2 .cz 3 d 4 c 29 i) 46 g 73 j 6 h 90 h) k n)) f)) (E (ba 0 d) λl=>E (ao a h l) λl=>E (aF .eql l (.Z 3)) λl=>aY e λe=>a7 l (eV (k+10) λk=>E (ba 4 d) λm=>E (cg a h 3 m) λn=>E (cm c) λo=>E (ba 0 o) λo=>E (ce a h 1 o (.Z 26)) λh=>E (cm c) λo=>E (ba 4 o) λo=>E (cg a h 3 m) λm=>gG m (some n) (E (ce a h 3 o n) λh=>E (fg 1 [(.str [])] [(0,1,(.str [40]))] k) λm=>cQ a h k m.1 m.2 λh k m=>aW a 172 [b,h] k m (λ_ h k=>aW a 208 [b] h k (λh k m=>E (fg 1 [.cz] [(0,1,h)] m) λh=>cQ a k m h.1 h.2 λh k m=>E (cm c) λn=>E (ba 8 n) λn=>E (ce a k 1 n h) λh=>E (fg 1 [(.str [])] [(0,1,(.str [41]))] m) λk=>cQ a h m k.1 k.2 λh k m=>aW a 172 [b,h] k m (λ_ a f=>e (zC (zD (cS [b]) 2 .cz 3 d 4 c 29 i) 46 g 73 j 99 l) a f) f) f) f)) (E (ba 0 d) λm=>E (ao a h m) λm=>E (aF .eql m (.Z 6)) λm=>c2 m (ba 1 d) h k (λh k n=>c2 m (ao a k h) k n (λh k n=>c2 m (dn a k .eql 9 true h (.str [40])) k n (λh k n=>dd (λh=>aY e λe=>a7 h (aW a 208 [b] k n (λk m n=>E (fg 1 [(.str [])] [(0,1,(.str [41]))] n) λo=>cQ a m n o.1 o.2 λm n o=>aW a 172 [b,m] n o (λ_ a f=>e (ac (zD (zD (cS [b]) 2 .cz 3 d 4 c 29 i) 46 g 73 j 99 l 123 h) 4 k) a f) f) f) (E (ba 0 d) λm=>E (ao a k m) λm=>E (aF .eql m (.Z 2)) λm=>c2 m (ba 1 d) k n (λk n o=>c2 m (ao a n k) n o (λk n o=>c2 m (dn a n .eql 9 true k (.str [105,102])) n o (λk n o=>dd (λk=>aY e λe=>a7 k (E (cm c) λm=>E (ba 0 m) λm=>E (ce a n 1 m (.Z 23)) λm=>eV (o+12) λn=>E (cm c) λp=>E (ba 8 p) λp=>E (ao a m p) λq=>aW a 208 [b] m n (λm n r=>E (fg 1 [.cz] [(0,1,m)] (o+7)) λm=>kU a n (o+7) m.1 m.2 λm n=>E (ao a n p) λo=>gG o (some q) (gw (hC a n r 1 q m) n r λm n o=>E (cm c) λp=>E (ba 8 p) λp=>E (ce a n 1 p m) λm=>E (fg 1 [(.str [])] [(0,1,(.str [116,104,101,110]))] o) λn=>cQ a m o n.1 n.2 λm n o=>aW a 172 [b,m] n o (λ_ m n=>eV (n+12) λo=>E (cm c) λp=>E (ba 8 p) λp=>E (ao a m p) λq=>aW a 208 [b] m o (λm o r=>E (fg 1 [.cz] [(0,1,m)] (n+7)) λm=>kU a o (n+7) m.1 m.2 λm n=>E (ao a n p) λo=>gG o (some q) (gw (hC a n r 1 q m) n r λm n o=>E (cm c) λp=>E (ba 8 p) λp=>E (ce a n 1 p m) λm=>E (fg 1 [(.str [])] [(0,1,(.str [101,108,115,101]))] o) λn=>cQ a m o n.1 n.2 λm n o=>aW a 172 [b,m] n o (λ_ m n=>eV (n+12) λo=>E (cm c) λp=>E (ba 8 p) λp=>E (ao a m p) λq=>aW a 208 [b] m o (λf m o=>E (fg 1 [.cz] [(0,1,f)] (n+7)) λf=>kU a m (n+7) f.1 f.2 λf m=>E (ao a m p) λn=>gG n (some q) (gw (hC a m o 1 q f) m o λf m n=>E (cm c) λo=>E (ba 8 o) λo=>E (ce a m 1 o f) λa=>e (ac (zD (zD (cS [b]) 2 .cz 3 d 4 c 29 i) 46 g 73 j 99 l 123 h) 137 k) a n)) f) f)) f) f)) f) (E (ba 0 d) λm=>E (ao a n m) λm=>E (aF .eql m (.Z 2)) λm=>c2 m (ba 1 d) n o (λn o p=>c2 m (ao a o n) o p (λn o p=>c2 m (dn a o .eql 9 true n (.str [109,101,114,103,101])) o p (λn o p=>dd (λm=>aY e λe=>a7 m (aW a 173 [b,(.Z 1)] o p (λn o p=>E (qX false 1 1 n) λn=>E (cm c) λq=>E (ba 0 q) λq=>E (ce a o 1 q (.Z 24)) λo=>E (cm c) λq=>E (ba 2 q) λq=>E (ce a o 1 q n) λn=>aW a 261 [b] n p (λn o p=>aW a 261 [b] o p (λf o p=>E (fg 2 [.cz, .cz] [(0,1,n),(1,1,f)] p) λf=>cQ a o p f.1 f.2 λf n o=>E (cm c) λp=>E (ba 8 p) λp=>E (ce a n 1 p f) λa=>e (zB (zD (zD (cS [b]) 2 .cz 3 d 4 c 29 i) 46 g 73 j 99 l 123 h) 137 k 188 m) a o) f) f) f) (E (cm b) λn=>E (ba 1 n) λn=>E (ao a o n) λn=>E (aF .sub n (.Z 1)) λn=>E (cm b) λq=>E (ba 1 q) λq=>E (ce a o 1 q n) λn=>E (cg a n 7 d) λo=>aW a 206 [o] n p (λ_ a f=>e (zB (zD (zD (cS [b]) 2 .cz 3 d 4 c 29 i) 46 g 73 j 99 l 123 h) 137 k 188 m) a f) f)) λa=>a7 m (a n) (a (.bool false))))))) λa=>a7 m (a k) (a (.bool false))))))) λa=>a7 m (a h) (a (.bool false))))))))) λa=>a7 j (a g) (a (.bool false)))))))))))) f
def Ah:dh X 261 [a0] h j ai ay=xH X a0 h j ai ay:=Zk
def Ag:cU X 261 1=true:=Zk
def VC(a:aZ)(b:F)(c:V an)(d:Nat)(e f:bI):Prop:=
 aW a 174 [b,(.str [41])] c d (λc d g=>E (cM 0 c) λh=>E (cM 1 c) λc=>E (dT [(.Z 0),(.str []),(.Z 0),(.int .u64 0),(.bool false),(.bool false),(.Z 0)] g) λi=>cQ a d g i.1 i.2 λd g i=>E (ce a g 7 d h) λd=>aY (λb c d=>al (b 0) λg=>aW a 208 [g] c d (λc d g=>E (fg 1 [.cz] [(0,1,c)] g) λc=>cQ a d g c.1 c.2 λc d g=>aY (λa b c=>al (a 2) λa=>e a b c) λ_=>fJ (λb c d g=>aY b λb=>al (c 0) λh=>aW a 174 [h,(.str [44])] d g (λd g h=>E (cM 0 d) λi=>E (cM 1 d) λd=>E (dT [(.Z 0),(.str []),(.Z 0),(.int .u64 0),(.bool false),(.bool false),(.Z 0)] h) λj=>cQ a g h j.1 j.2 λg h j=>E (ce a h 7 g i) λg=>E (fG .not d) λh=>aY (λc d e=>al (c 5) λg=>al (c 0) λh=>aW a 208 [h] d e (λd e f=>E (fg 1 [.cz] [(0,1,d)] f) λd=>cQ a e f d.1 d.2 λd e f=>gw (hC a e f 1 g d) e f λa d e=>b (ac c 5 a) d e) f) λb=>a7 h (al (c 0) λb=>E (fg 1 [(.str [])] [(0,1,(.str [41]))] j) λd=>cQ a g j d.1 d.2 λd g h=>aW a 172 [b,d] g h (λ_ a b=>al (c 5) λc=>e c a b) f) (b (zB c 7 d 23 h) g j)) f) (ac b 5 c) d g) f) λa=>a7 c (e .aP d i) (a (zC (cS [b]) 2 .aP 4 c 13 c) d i)) f
def aiY:dh X 262 [a0] h j ai ay=VC X a0 h j ai ay:=Zk
def aiX:cU X 262 1=true:=Zk
end
end Go.Proofs.YtpfajohmofnkfaaGreatDoor

namespace Go.Proofs.YtpfajohmofnkfaaGreatDoor
open Go.bi Go.aU
noncomputable section
def b9(t:Tok):List F:=[.Z t.kind, .str t.text, .Z t.at_, .int .u64 t.n, .bool t.ty.b, .bool t.ty.s, .Z t.ty.w]
def o2:Nat:=3
def asZ(f:Nat):Bool:=oa f [16,30,50,55,240,125,180,223]
structure dz(X:ck):Prop where
 none:∀f l,asZ f=false->X.O f l=none
set_option maxRecDepth 100000 in
def zA{X:ck}(O:dz X){f:Nat}{a:List F}{S:V an}{n:Nat}{u v:bI}(c:cU X f a.length=true)(h:dh X f a S n u v)(b:asZ f=false:=by rfl):aW X f a S n u v:=c3 c (O.none _ _ b) h
structure aU(X:ck)(h:V an)(aH bM:Nat)(aX:List Tok)(i:Nat):Prop where
 at_:∃c av,ab X h aH=some (.cells c 2 .own)/\c.get 0=some av/\c.get 1=some (.Z (i:Int))/\dO X h (λe=>e=bM) bM av 7 (aX.map b9)
 ne:aH≠bM
def aU.ad{X:ck}{h T:V an}{aH bM:Nat}{aX:List Tok}{i:Nat}(a:aU X h aH bM aX i)(bV:ab X T aH=ab X h aH)(cw:ab X T bM=ab X h bM):aU X T aH bM aX i:=by
 obtain⟨c,av,Q,U,ar,aK⟩:=a.at_
 exact⟨⟨c,av,by rw[bV];exact Q,U,ar,aK.ad λe H=>by subst H;exact cw⟩,a.ne⟩
def jN{C:aZ}{h:V an}{b n Y:Nat}{c:V F}{st:nF}{v:F}(a:ab C h b=some (.cells c n st))(bB:c.get Y=some v):ao C h (.ptr b Y)=some v:=by rw[cJ,a];exact bB
section
variable{X:ck}{h T:V an}{j au aH bM:Nat}{aX:List Tok}{i:Nat}
def ri(aA:dz X)(aL:(o X).a8<=j)(az:aU X h aH bM aX i)(jY:aH<j)(jw:bM<j){t:Tok}(bc:aX[i]? =some t):
 aW X 116 [.ptr aH 0] h j (λae T au=>ae= .agg (b9 t)/\bq X h j T au) (λ_ _ _=>False):=by
 refine zA aA (age X) ?_
 rw[agf]
 unfold Uc
 obtain⟨c,av,Q,U,ar,aK⟩:=az.at_
 have uY:=jN Q U
 have bV:=jN Q ar
 have aJ:i<(aX.map b9).length:=by rw[Zn];exact(Zb.1 bc).1
 have dZ:=aK.f2 i aJ
 have ft:cg X (bn X h j (zx [.Z 0, .str [], .Z 0, .int .u64 0, .bool false, .bool false, .Z 0] 7)) 7 (.ptr bM (i*7))=some (.agg (b9 t)):=by
  have:=(aK.ad (T:=bn X h j (zx [.Z 0, .str [], .Z 0, .int .u64 0, .bool false, .bool false, .Z 0] 7)) (λe H=>by subst H;exact aI aL Zo)).row Zd (i:=i) (r:=b9 t) (by rw[Zx,bc];rfl)
  exact this
 refine gA @uY @bV @dZ @ft b9.eq_1 ⟨?_⟩
 exact⟨rfl,dU⟩
def sH:List F:=[.Z 0, .str [], .Z 0, .int .u64 0, .bool false, .bool false, .Z 0]
def aU.on(az:aU X h aH bM aX i){aa:Nat}{c:V F}(Q:ab X T aH=some (.cells c 2 .own))(b6:∀d7 st,ab X h aH=some (.cells d7 2 st)->c=d7.set 1 (some (.Z (aa:Int))))(cw:ab X T bM=ab X h bM):aU X T aH bM aX aa:=by
 obtain⟨d7,av,bh,cl,a3,a4⟩:=az.at_
 have:=b6 d7 _ bh
 subst this
 refine⟨⟨_,av,Q, ?_, ?_,a4.ad λe H=>by subst H;exact cw⟩,az.ne⟩
 ·rw[V.kc,Zg Zd];exact cl
 ·rw[V.kc,Zq rfl]
def HJ(aA:dz X)(aL:(o X).a8<=j)(t:Tok)(ay:bI)(a:∀T au,bq X h j T au->ay (.iface 26 (.agg [.Z 21, .Z t.at_])) T au):
 aW X 206 [.agg (b9 t)] h j (λ_ _ _=>False) ay:=by
 refine zA aA (ah3 X) ?_
 rw[ah4]
 unfold Vb b9
 refine cL ⟨?_⟩
 exact⟨a _ _ dU⟩
def aeW(aA:dz X)(aL:(o X).a8<=j)(az:aU X h aH bM aX i)(hS:(o X).a8<=aH)(jY:aH<j)(jw:bM<j)(bp:aX.length<=300000){t:Tok}(bc:aX[i]? =some t){s:bk}(aD:g3 t s=true):
 aW X 174 [.ptr aH 0, .str s] h j (λae T au=>ae= .tuple [.agg (b9 t), .bool true]/\aU X T aH bM aX (i+1)/\ca X [aH] h j T au) (λ_ _ _=>False):=by
 refine zA aA (UJ X) ?_
 rw[UK]
 unfold OB
 refine p3 ?_
 have jk:=(Zb.1 bc).1
 have bU:bq X h j (bn X h j (zx sH 7)) (j+1):=bq.fresh aL _
 have el:aU X (bn X h j (zx sH 7)) aH bM aX i:=az.ad (bU.ad _ jY) (bU.ad _ jw)
 refine(ri aA Zo el Zo Zo bc).mono ?_ (λ_ _ _ a=>a)
 rintro ae aS bg ⟨rfl,bK⟩
 have gl:=bK.le
 have U:ab X aS j=zx sH 7:=by rw[bK.ad _ Zo];exact bm aL
 have gj:ca X [aH] h j aS bg:=ca.of ((bq.fresh aL _).trans bK)
 have dA:aU X aS aH bM aX i:=el.ad (bK.ad _ Zo) (bK.ad _ Zo)
 obtain⟨c,av,bh,cl,a3,a4⟩:=dA.at_
 have aN:=gj.ad
 simp only[g3,Zp,zj,Zh]at aD
 obtain⟨oL,rfl⟩:=aD
 have bV:=jN bh a3
 have bD:=zy i
 have fx:decide (t.text≠t.text)=false:=by simp
 unfold sH at U
 have fin:∀(pZ:V an) (au:Nat),ab X pZ aH=some (.cells (dQ c 1 [.Z ((i+1:Nat):Int)]) 2 .own)->ca X [aH] h j pZ au->ab X pZ bM=ab X aS bM->aU X pZ aH bM aX (i+1)/\ca X [aH] h j pZ au:=λpZ au Q U ar=>
  ⟨dA.on Q (λd7 st a=>by rw[bh]at a;cases a;exact qI ..) ar,U⟩
 have dD:=az.ne
 rcases oL with h4|h4
 ·have cX:decide (t.kind≠2)=false:=by simp[h4]
  refine e7 b9.eq_1 @cX @fx @bV @bD @bh @U ⟨?_⟩
  refine⟨rfl,fin _ _ ?_ ?_ ?_⟩
  ·simp(disch:=omega) only[aI,bm];rfl
  ·exact⟨Zo,λb aj bQ=>by have:=aN b aj bQ;simp only[Zt,ZL,YX,Yr,ZH,Yb]at bQ;simp(disch:=omega) only[aI];exact this⟩
  ·simp(disch:=omega) only[aI]
 ·have cX:decide (t.kind≠2)=true:=by simp[h4]
  have cP:decide (t.kind≠6)=false:=by simp[h4]
  refine e7 b9.eq_1 @cX @cP @fx @bV @bD (Za @bh @U) ⟨?_⟩
  refine⟨rfl,fin _ _ ?_ ?_ ?_⟩
  ·simp(disch:=omega) only[aI,bm];rfl
  ·exact⟨Zo,λb aj bQ=>by have:=aN b aj bQ;simp only[Zt,ZL,YX,Yr,ZH,Yb]at bQ;simp(disch:=omega) only[aI];exact this⟩
  ·simp(disch:=omega) only[aI]
def aeV(aA:dz X)(aL:(o X).a8<=j)(az:aU X h aH bM aX i)(hS:(o X).a8<=aH)(jY:aH<j)(jw:bM<j){t:Tok}(bc:aX[i]? =some t){s:bk}(aD:g3 t s=false):
 aW X 174 [.ptr aH 0, .str s] h j (λae T au=>ae= .tuple [.agg sH, .bool false]/\aU X T aH bM aX i/\ca X [aH] h j T au) (λ_ _ _=>False):=by
 refine zA aA (UJ X) ?_
 rw[UK]
 unfold OB
 refine p3 ?_
 have bU:bq X h j (bn X h j (zx sH 7)) (j+1):=bq.fresh aL _
 have el:aU X (bn X h j (zx sH 7)) aH bM aX i:=az.ad (bU.ad _ jY) (bU.ad _ jw)
 refine(ri aA Zo el Zo Zo bc).mono ?_ (λ_ _ _ a=>a)
 rintro ae aS bg ⟨rfl,bK⟩
 have gl:=bK.le
 have U:ab X aS j=zx sH 7:=by rw[bK.ad _ Zo];exact bm aL
 have gj:ca X [aH] h j aS bg:=ca.of ((bq.fresh aL _).trans bK)
 have dA:aU X aS aH bM aX i:=el.ad (bK.ad _ Zo) (bK.ad _ Zo)
 have aN:=gj.ad
 unfold sH at U
 have fin:∀(pZ:V an) (au:Nat),ab X pZ aH=ab X aS aH->ca X [aH] h j pZ au->ab X pZ bM=ab X aS bM->aU X pZ aH bM aX i/\ca X [aH] h j pZ au:=λpZ au Q U ar=>
  ⟨dA.ad Q ar,U⟩
 simp only[g3,Bool.and_eq_false_iff,Bool.or_eq_false_iff,Zc]at aD
 by_cases h4:t.kind=2
 ·have aD:t.text≠s:=by rcases aD with a|a;exact absurd h4 a.1;exact a
  have cX:decide (t.kind≠2)=false:=by simp[h4]
  have fx:decide (t.text≠s)=true:=by simpa using aD
  refine gt b9.eq_1 @cX @fx @U ⟨?_⟩
  refine⟨rfl,fin _ _ ?_ ?_ ?_⟩
  ·simp(disch:=omega) only[aI]
  ·exact⟨Zo,λb aj bQ=>by have:=aN b aj bQ;simp only[Zt,ZL,YX,Yr,ZH,Yb]at bQ;simp(disch:=omega) only[aI];exact this⟩
  ·simp(disch:=omega) only[aI]
 ·have cX:decide (t.kind≠2)=true:=by simp[h4]
  by_cases nS:t.kind=6
  ·have aD:t.text≠s:=by rcases aD with a|a;exact absurd nS a.2;exact a
   have cP:decide (t.kind≠6)=false:=by simp[nS]
   have fx:decide (t.text≠s)=true:=by simpa using aD
   refine gA b9.eq_1 @cX @cP @fx @U ⟨?_⟩
   refine⟨rfl,fin _ _ ?_ ?_ ?_⟩
   ·simp(disch:=omega) only[aI]
   ·exact⟨Zo,λb aj bQ=>by have:=aN b aj bQ;simp only[Zt,ZL,YX,Yr,ZH,Yb]at bQ;simp(disch:=omega) only[aI];exact this⟩
   ·simp(disch:=omega) only[aI]
  ·have cP:decide (t.kind≠6)=true:=by simp[nS]
   refine gt b9.eq_1 @cX @cP @U ⟨?_⟩
   refine⟨rfl,fin _ _ ?_ ?_ ?_⟩
   ·simp(disch:=omega) only[aI]
   ·exact⟨Zo,λb aj bQ=>by have:=aN b aj bQ;simp only[Zt,ZL,YX,Yr,ZH,Yb]at bQ;simp(disch:=omega) only[aI];exact this⟩
   ·simp(disch:=omega) only[aI]
def Bv(aA:dz X)(aL:(o X).a8<=j)(az:aU X h aH bM aX i)(hS:(o X).a8<=aH)(jY:aH<j)(jw:bM<j)(bp:aX.length<=300000){t:Tok}(bc:aX[i]? =some t)(B:Int):
 aW X 173 [.ptr aH 0, .Z B] h j (λae T au=>t.kind=B/\ae= .agg (b9 t)/\aU X T aH bM aX (i+1)/\ca X [aH] h j T au)
  (λae T au=>t.kind≠B/\ae= .iface 26 (.agg [.Z 21, .Z t.at_])/\ca X [aH] h j T au):=by
 refine zA aA (ahh X) ?_
 rw[ahi]
 unfold UI
 refine p3 ?_
 have jk:=(Zb.1 bc).1
 have bU:bq X h j (bn X h j (zx sH 7)) (j+1):=bq.fresh aL _
 have el:aU X (bn X h j (zx sH 7)) aH bM aX i:=az.ad (bU.ad _ jY) (bU.ad _ jw)
 refine(ri aA Zo el Zo Zo bc).Zm ?_
 rintro ae aS bg ⟨rfl,bK⟩
 have gl:=bK.le
 have U:ab X aS j=zx sH 7:=by rw[bK.ad _ Zo];exact bm aL
 have gj:ca X [aH] h j aS bg:=ca.of ((bq.fresh aL _).trans bK)
 have dA:aU X aS aH bM aX i:=el.ad (bK.ad _ Zo) (bK.ad _ Zo)
 obtain⟨c,av,bh,cl,a3,a4⟩:=dA.at_
 have aN:=gj.ad
 have bV:=jN bh a3
 have bD:=zy i
 unfold sH at U
 have dD:=az.ne
 by_cases wR:t.kind=B
 ·have cX:decide (t.kind≠B)=false:=by simp[wR]
  refine iZ b9.eq_1 @cX @bV @bD @bh @U ⟨?_⟩
  refine⟨wR,rfl,dA.on (c:=dQ c 1 [.Z ((i+1:Nat):Int)]) ?_ (λd7 st a=>by rw[bh]at a;cases a;exact qI ..) ?_, ?_⟩
  ·simp(disch:=omega) only[aI,bm];rfl
  ·simp(disch:=omega) only[aI]
  ·exact⟨Zo,λb aj bQ=>by have:=aN b aj bQ;simp only[Zt,ZL,YX,Yr,ZH,Yb]at bQ;simp(disch:=omega) only[aI];exact this⟩
 ·have cX:decide (t.kind≠B)=true:=by simp[wR]
  refine er b9.eq_1 @cX @U ⟨?_⟩
  refine(HJ aA Zo t _ ?_).mono (λ_ _ _ a=>a.elim) (λ_ _ _ a=>a)
  intro T au bT
  have ID:=bT.le
  refine⟨wR,rfl,Zo,λb aj bQ=> ?_⟩
  have:=aN b aj bQ
  simp only[Zt,ZL,YX,Yr,ZH,Yb]at bQ
  rw[bT.ad b Zo]
  simp(disch:=omega) only[aI];exact this
end
section
variable{X:ck}{h T:V an}{j au aH bM:Nat}{aX:List Tok}{i:Nat}
def g5:Tok:=⟨0,[],0,0,dN⟩
def rt:List bk->Tok->List Tok->ga Tok
 |[],x,l=>ok x l
 |s::m2,_,l=>andThen (eH s l) λe l=>rt m2 e l
def fI{aX:List Tok}{i:Nat}{x:Tok}{l:List Tok}(a:aX.drop i=x::l):aX[i]? =some x/\aX.drop (i+1)=l:=by
 constructor
 ·have:=congrArg (λl=>l[0]?) a
  simpa using this
 ·rw[<-zn,a];rfl
def ii(m2:List bk):List (List F):=m2.map λs=>[.str s]
def afl(aA:dz X)(aL:(o X).a8<=j)(az:aU X h aH bM aX i)(hS:(o X).a8<=aH)(jY:aH<j)(jw:bM<j)(bp:aX.length<=300000){a6:F}{cH:Nat}{m2:List bk}(In:cH<j)(IU:cH≠aH)(aD:dO X h (λe=>e=cH) cH a6 1 (ii m2))
 {r:Except Int (Tok×List Tok)}(Z:rt m2 g5 (aX.drop i)=some r):
 aW X 172 [.ptr aH 0,a6] h j (λae T au=>∃x cB,r= .ok (x,aX.drop cB)/\ae= .agg (b9 x)/\aU X T aH bM aX cB/\ca X [aH] h j T au)
  (λae T au=>∃K,r= .error K/\ae= .iface 26 (.agg [.Z 21, .Z K])/\ca X [aH] h j T au):=by
 refine zA aA (ahf X) ?_
 rw[ahg]
 unfold UH
 have fD:=aD.len
 have dD:=az.ne
 have uI:=aD.many
 simp only[ii,Zn]at uI
 refine p3 ?_
 refine p3 ?_
 have H0:bq X h j (bn X (bn X h j (zx (b9 g5) 7)) (j+1) (zx (b9 g5) 7)) (j+1+1):=dU
 have JM:ab X (bn X (bn X h j (zx (b9 g5) 7)) (j+1) (zx (b9 g5) 7)) j=zx (b9 g5) 7:=by simp(disch:=omega) only[aI,bm]
 have cD:ab X (bn X (bn X h j (zx (b9 g5) 7)) (j+1) (zx (b9 g5) 7)) (j+1)=zx (b9 g5) 7:=bm Zo
 refine rT @fD ⟨?_⟩
 refine j3 (λM T n=>∃x cB,r= .ok (x,aX.drop cB)/\M.g 5=some (.ptr (j+1) 0)/\M.g 4=some (.ptr j 0)/\j+1<n/\ab X T (j+1)=zx (b9 x) 7/\ab X T j=zx (b9 g5) 7/\aU X T aH bM aX cB/\ca X [aH] h j T n) (λaa bG=> ?_) ?_
 ·refine fU (λm M T n=>∃B cB x,m=m2.length-B/\B<=m2.length/\M.g 0=some (.ptr aH 0)/\M.g 9=some a6/\M.g 10=some (.Z (m2.length:Int))/\M.g 11=some (.Z (B:Int))/\M.g 5=some (.ptr (j+1) 0)/\M.g 4=some (.ptr j 0)/\j+1<n
   /\ab X T (j+1)=zx (b9 x) 7/\ab X T j=zx (b9 g5) 7/\aU X T aH bM aX cB/\ca X [aH] h j T n/\rt (m2.drop B) x (aX.drop cB)=some r)
   m2.length ⟨0,i,g5,Zo,Zo, ?_, ?_, ?_, ?_, ?_, ?_,Zo,cD,JM,az.ad (H0.ad _ jY) (H0.ad _ jw),ca.of H0,Z⟩ ?_
  ·exact bw
  ·exact bw
  ·refine x8 ⟨?_⟩
   simp[ii]
  ·refine x8 ⟨?_⟩
   rfl
  ·exact bw
  ·exact bw
  rintro m M aS n ⟨B,cB,x,rfl,aN,t0,t9,nw,oi,t5,t4,c1,b4,iY,dA,gj,bJ⟩
  refine cV @nw @oi ⟨?_⟩
  refine EC (λr7=> ?_) (λr7=> ?_)
  ·have r7:B<m2.length:=Zo
   have jZ:m2.drop B=m2[B]::m2.drop (B+1):=Zv r7
   rw[jZ]at bJ
   have dZ:=aD.f2 B (by simp[ii];exact r7)
   have abZ:ao X aS (.ptr cH (B*1))=some (.str m2[B]):=by
    have:=(aD.ad (T:=aS) λe H=>by subst H;exact gj.ad _ In (by simp;exact IU)).cell B [.str m2[B]] 0 (.str m2[B]) (by simp[ii]) rfl
    rwa[ZY]at this
   refine gA @t9 @oi @dZ @abZ @t0 ⟨?_⟩
   generalize m2[B]=s at bJ abZ
   cases aM:aX.drop cB with
   |nil=>rw[aM]at bJ;simp[rt,eH,andThen]at bJ
   |cons e l=>
    obtain⟨H,aC⟩:=fI aM
    rw[aM]at bJ
    simp only[rt,eH]at bJ
    cases C7:g3 e s with
    |true=>
     rw[C7]at bJ
     simp only[ZD,andThen,ok]at bJ
     refine(aeW aA (zt gj.le) dA hS Zo Zo bp H C7).Zm ?_
     rintro ae bb bs ⟨rfl,gE,ea⟩
     have iL:=ea.le
     have PY:ab X bb (j+1)=zx (b9 x) 7:=by rw[ea.ad _ Zo (by simp;omega)];exact b4
     have am2:ab X bb j=zx (b9 g5) 7:=by rw[ea.ad _ Zo (by simp;omega)];exact iY
     refine er @t5 @PY @oi ⟨?_⟩
     have bD:=zy B
     refine ci @bD ⟨?_⟩
     refine⟨_, ?_,B+1,cB+1,e,rfl,Zo,bf t0,bf t9,bf nw,bw,bf t5,bf t4,Zo,bm Zo,by simp(disch:=omega) only[aI];exact am2,gE.ad (zz) (zz), ?_, ?_⟩
     ·omega
     ·have nR:=(gj.trans ea).ad
      exact⟨zt gj.le,λb aj bQ=>by rw[<-nR b aj bQ];exact zz⟩
     ·rw[aC];exact bJ
    |false=>
     rw[C7]at bJ
     simp only[Zw,ZA,andThen,bad,Zf]at bJ
     subst bJ
     refine(aeV aA (zt gj.le) dA hS Zo Zo H C7).Zm ?_
     rintro ae bb bs ⟨rfl,gE,ea⟩
     have iL:=ea.le
     have PY:ab X bb (j+1)=zx (b9 x) 7:=by rw[ea.ad _ Zo (by simp;omega)];exact b4
     refine er @t5 @PY @t0 ⟨?_⟩
     refine(ri aA (zt gj.le) (gE.ad (zz) (zz)) Zo Zo H).Zm ?_
     rintro ae bF c7 ⟨rfl,dv⟩
     have jl:=dv.le
     refine(HJ aA (zt gj.le) e _ ?_).mono (λ_ _ _ a=>a.elim) (λ_ _ _ a=>a)
     intro bX b2 dH
     have h5:=dH.le
     have nR:=(gj.trans ea).ad
     refine⟨_,rfl,rfl,zt gj.le,λb aj bQ=> ?_⟩
     rw[dH.ad b Zo,dv.ad b Zo, <-nR b aj bQ]
     simp(disch:=omega) only[aI]
  ·have wR:B=m2.length:=Zo
   subst wR
   rw[List.drop_length]at bJ
   simp only[rt,ok,Zf]at bJ
   subst bJ
   refine cL ⟨?_⟩
   exact bG _ _ _ ⟨x,cB,rfl,bf t5,bf t4,c1,b4,iY,dA,gj⟩
 ·rintro M aS n ⟨x,cB,ah,t5,t4,c1,b4,iY,dA,gj⟩
  unfold b9 at b4
  unfold b9 g5 dN at iY
  refine gA @t5 @t4 @b4 @iY (bR b4) ⟨?_⟩
  refine⟨x,cB,ah,rfl,dA.ad (zz) (zz), ?_⟩
  exact⟨zt gj.le,λb aj bQ=>by rw[<-gj.ad b aj bQ];exact zz⟩
end
structure io(X:ck)(h:V an)(j aH bM:Nat)(aX:List Tok)(i:Nat):Prop where
 a8:(o X).a8<=j
 fB:(o X).a8<=aH
 hm:aH<j
 g2:bM<j
 many:aX.length<=300000
 par:aU X h aH bM aX i
def io.go{X:ck}{h T:V an}{j au aH bM i cB:Nat}{aX:List Tok}(a:io X h j aH bM aX i)(az:aU X T aH bM aX cB)(aL:j<=au):io X T au aH bM aX cB:=
 ⟨Zz a.a8 aL,a.fB,ZR a.hm aL,ZR a.g2 aL,a.many,az⟩
def da(K b:Nat):Nat->Prop:=λe=>K<=e/\e<b
def oB(B K:Int):F:= .iface 26 (.agg [.Z B, .Z K])
def jD(X:ck)(aH bM:Nat)(aX:List Tok)(h:V an)(j:Nat)(r:Except Int (bE×List Tok)):bI:=λae T au=>
 ∃J cB,r= .ok (J,aX.drop cB)/\cO X T (da j au) J ae/\aU X T aH bM aX cB/\ca X [aH] h j T au
def iF{α:Type}(X:ck)(aH:Nat)(h:V an)(j:Nat)(r:Except Int α):bI:=λae T au=>
 ∃K,r= .error K/\ae=oB 21 K/\ca X [aH] h j T au
def vZ(X:ck):Prop:=9<X.a8/\∀h B,B<5->∃b a6,ao X h (.ptr 9 B)=some a6/\dO X h (λe=>e<X.a8) b a6 2 ((ax B).map λY=>[.str Y.1, .Z Y.2])
section
variable{X:ck}{h T a2 aS:V an}{j au aO bg aH bM:Nat}{aX:List Tok}{i:Nat}
def iF.of{α eO:Type}{gb:V an}{adE:Nat}{r:Except Int α}{gO:Except Int eO}{ae:F}(a:iF X aH a2 aO r ae T au)(gj:ca X [aH] gb adE a2 aO)(Z:∀K,r= .error K->gO= .error K):iF X aH gb adE gO ae T au:=by
 obtain⟨K,Q,U,ar⟩:=a
 exact⟨K,Z K Q,U,gj.trans ar⟩
def cO.fr{K b:Nat}{J:bE}{v:F}(a:cO X h (da K b) J v)(gj:ca X [aH] h aO T au)(aj:b<=aO)(az:aH<K){fN dP:Nat}(Q:fN<=K)(U:b<=dP):cO X T (da fN dP) J v:=
 cO.lift (λe H=>⟨Zz Q H.1,ZR H.2 U⟩) _ _ (cO.ad (λe H=>gj.ad e (zt H.2) (by simp;have:=H.1;omega)) _ _ a)
def cO.ex{K b:Nat}{J:bE}{v:F}(a:cO X h (da K b) J v)(B:∀e,K<=e->e<b->ab X T e=ab X h e){fN dP:Nat}(Q:fN<=K)(U:b<=dP):cO X T (da fN dP) J v:=
 cO.lift (λe H=>⟨Zz Q H.1,ZR H.2 U⟩) _ _ (cO.ad (λe H=>B e H.1 H.2) _ _ a)
def qD{eO:Type}{s:bk}{l:List Tok}{f:Option Tok->List Tok->ga eO}{r:Except Int (eO×List Tok)}(a:h7 s l f=some r):∃x b8,l=x::b8/\((g3 x s=true/\f (some x) b8=some r)\/(g3 x s=false/\f none l=some r)):=by
 unfold h7 lM at a
 cases l with
 |nil=>cases a
 |cons x b8=>
  refine⟨x,b8,rfl, ?_⟩
  simp only[]at a
  cases aD:g3 x s with
  |true=>rw[aD]at a;exact .inl ⟨rfl,a⟩
  |false=>rw[aD]at a;exact .inr ⟨rfl,a⟩
def gq{α eO:Type}{x:ga α}{f:α->List Tok->ga eO}{r:Except Int (eO×List Tok)}(a:andThen x f=some r):(∃K,x=some (.error K)/\r= .error K)\/∃K l,x=some (.ok (K,l))/\f K l=some r:=by
 unfold andThen at a
 split at a
 ·cases a
 ·injection a with a;exact .inl ⟨_,rfl,a.symm⟩
 ·exact .inr ⟨_,_,rfl,a⟩
def nx(aA:dz X)(az:io X h j aH bM aX i){x:Tok}{l:List Tok}(aM:aX.drop i=x::l)(s:bk):
 aW X 174 [.ptr aH 0, .str s] h j (λae T au=>ae= .tuple [.agg (b9 (if g3 x s then x else g5)), .bool (g3 x s)]/\aU X T aH bM aX (if g3 x s then i+1 else i)/\ca X [aH] h j T au) (λ_ _ _=>False):=by
 obtain⟨Q,U⟩:=fI aM
 cases aD:g3 x s with
 |true=>simp only[ZD];exact aeW aA az.a8 az.par az.fB az.hm az.g2 az.many Q aD
 |false=>simp only[Zw,ZA];exact aeV aA az.a8 az.par az.fB az.hm az.g2 Q aD
structure qJ(X:ck)(aH bM:Nat)(aX:List Tok)(n:Nat):Prop where
 level:∀h j i (B:Nat) r,B<=5->io X h j aH bM aX i->Go.aU.level n B (aX.drop i)=some r->aW X 243 [.ptr aH 0, .Z (B:Int)] h j (jD X aH bM aX h j r) (iF X aH h j r)
 shift:∀h j i r,io X h j aH bM aX i->Go.aU.shift n (aX.drop i)=some r->aW X 251 [.ptr aH 0] h j (jD X aH bM aX h j r) (iF X aH h j r)
 tC:∀h j i r,io X h j aH bM aX i->Go.aU.xk n (aX.drop i)=some r->aW X 258 [.ptr aH 0] h j (jD X aH bM aX h j r) (iF X aH h j r)
 part:∀h j i r,io X h j aH bM aX i->Go.aU.part n (aX.drop i)=some r->aW X 261 [.ptr aH 0] h j (jD X aH bM aX h j r) (iF X aH h j r)
 lz:∀h j i r,io X h j aH bM aX i->Go.aU.lz n (aX.drop i)=some r->aW X 232 [.ptr aH 0] h j (jD X aH bM aX h j r) (iF X aH h j r)
 arrow:∀h j i r,io X h j aH bM aX i->Go.aU.arrow n (aX.drop i)=some r->aW X 208 [.ptr aH 0] h j (jD X aH bM aX h j r) (iF X aH h j r)
 list:∀h j i r,io X h j aH bM aX i->Go.aU.list n (aX.drop i)=some r->aW X 262 [.ptr aH 0] h j (λae T au=>∃cb cB bo cH,r= .ok (cb,aX.drop cB)/\dO X T (da j au) cH ae 1 (bo.map λv=>[v])/\dw X T (λe=>da j au e/\e≠cH) cb bo/\aU X T aH bM aX cB/\ca X [aH] h j T au) (iF X aH h j r)
def fc{C:aZ}{f:Nat}{xO:List F}{ai ay:bI}{h:V an}{j:Nat}(P:V an->Prop)(bC:P h)(a:∀bb,P bb->aW C f xO bb j ai ay):aW C f xO h j ai ay:=a h bC
def pR(B:IntKind)(x:Int):F.same 30 (.int B x) (.int B x)=true:=by
 simp only[F.same,FO];cases B<;>simp[lY]
def aU.ex(a:aU X h aH bM aX i)(B:bq X h j T au)(Q:aH<j)(U:bM<j):aU X T aH bM aX i:=a.ad (B.ad _ Q) (B.ad _ U)
def akr(aA:dz X){n:Nat}(ak:∀m,m<n->qJ X aH bM aX m):∀h j i r,io X h j aH bM aX i->Go.aU.arrow n (aX.drop i)=some r->aW X 208 [.ptr aH 0] h j (jD X aH bM aX h j r) (iF X aH h j r):=by
 intro h j i r az Z
 cases n with
 |zero=>simp[Go.aU.arrow]at Z
 |succ n=>
 refine zA aA (ah7 X) ?_
 rw[ah8]
 unfold Vd
 have gU:=az.a8
 have jY:=az.hm
 have hS:=az.fB
 unfold Go.aU.arrow at Z
 rcases gq Z with ⟨K,Q,rfl⟩|⟨left,eg,Q,Z⟩
 ·exact((ak n Zo).lz h j i _ az Q).mono (λae T au a=>by obtain⟨J,cB,a,_⟩:=a;cases a) (λae T au a=>a)
 refine((ak n Zo).lz h j i _ az Q).mono ?_ (λae T au a=>by obtain⟨K,a,_⟩:=a;cases a)
 rintro tI a2 aO ⟨J,ht,bx,bU,el,h2⟩
 cases bx
 have jy:=h2.le
 have mz:=az.go el jy
 obtain⟨x,b8,aM,ah⟩:=qD Z
 refine(nx aA mz aM _).Zm ?_
 rintro D4 aS bg ⟨rfl,dA,du⟩
 have ge:=du.le
 rcases ah with ⟨aD,Z⟩|⟨aD,Z⟩
 ·rw[aD]at dA ⊢
  simp only[ZD]at dA ⊢
  rw[<-(fI aM).2]at Z
  refine ci b9.eq_1 ⟨?_⟩
  refine fc (λbb=>bq X aS bg bb (bg+1+9)/\ab X bb bg=zx (b9 x) 7) ⟨dU,bm Zo⟩ ?_
  rintro bb ⟨cq,cN⟩
  rcases gq Z with ⟨K,U,rfl⟩|⟨right,c5,U,Z⟩
  ·refine((ak n Zo).arrow bb _ _ _ (mz.go (dA.ex cq Zo (zt mz.g2)) Zo) U).mono (λae T au a=>by obtain⟨J,cB,a,_⟩:=a;cases a) (λae T au a=>a.of (h2.trans (du.trans (ca.of cq))) (λ_ a=>a))
  refine((ak n Zo).arrow bb _ _ _ (mz.go (dA.ex cq Zo (zt mz.g2)) Zo) U).mono ?_ (λae T au a=>by obtain⟨K,a,_⟩:=a;cases a)
  rintro v4 bF c7 ⟨jh,i4,th,dv,hf,eC⟩
  cases th
  have jl:=eC.le
  simp only[ok,Zf]at Z
  subst Z
  have ej:ab X bF bg=zx (b9 x) 7:=by rw[eC.ad _ Zo (by simp;omega)];exact cN
  obtain⟨cD,rfl,hM,_⟩:=bU.ptr
  obtain⟨fL,rfl,oM,_⟩:=dv.ptr
  have hM:=hM.1
  refine cV (bR ej) b9.eq_1 ⟨?_⟩
  refine gP (pR _ _) ?_
  refine⟨_,i4,rfl,cO.lit (iR:= .own) (cH:=bg+1+5) (bo:=[.ptr cD 0, .ptr fL 0]) (bm Zo) ⟨Zo,Zo⟩ ?_ ⟨Zo,Zo⟩ rfl Zo Zo (dw.two (cO.ad (λe H=> ?_) _ _ bU) (cO.ad (λe H=> ?_) _ _ dv) (λe H=> ?_) (λe H=> ?_)), ?_, ?_⟩
  ·simp(disch:=omega) only[aI,bm]<;>rfl
  ·have Q:=H.1;have U:=H.2
   simp(disch:=omega) only[aI]
   rw[eC.ad e Zo (by simp;omega),cq.ad e Zo,du.ad e Zo (by simp;omega)]
  ·have Q:=H.1;have U:=H.2
   simp(disch:=omega) only[aI]
  ·simp only[da]at H ⊢;omega
  ·simp only[da]at H ⊢;omega
  ·exact hf.ad (zz) (by have:=mz.g2;exact zz)
  ·exact⟨Zo,λb aj bQ=>by
    rw[<-((h2.trans (du.trans (ca.of cq))).trans eC).ad b aj bQ]
    simp(disch:=omega) only[aI]⟩
 ·rw[aD]at dA ⊢
  simp only[Zw,ZA]at dA ⊢
  simp only[ok,Zf]at Z
  subst Z
  refine cV b9.eq_1 g5.eq_1 ⟨?_⟩
  refine⟨left,ht,rfl,cO.ex bU (λe Q U=> ?_) (Zi _) Zo,dA.ad (zz) (by have:=mz.g2;exact zz), ?_⟩
  ·simp(disch:=omega) only[aI]
   exact du.ad e Zo (by simp;omega)
  ·exact⟨Zo,λb aj bQ=>by rw[<-(h2.trans du).ad b aj bQ];exact zz⟩
end
section
variable{X:ck}{h T a2 aS:V an}{j au aO bg aH bM:Nat}{aX:List Tok}{i:Nat}
def amC(aA:dz X){n:Nat}(ak:∀m,m<n->qJ X aH bM aX m):∀h j i r,io X h j aH bM aX i->Go.aU.lz n (aX.drop i)=some r->aW X 232 [.ptr aH 0] h j (jD X aH bM aX h j r) (iF X aH h j r):=by
 intro h j i r az Z
 cases n with
 |zero=>simp[Go.aU.lz]at Z
 |succ n=>
 refine zA aA (aiB X) ?_
 rw[aiC]
 unfold Vr
 have gU:=az.a8
 have jY:=az.hm
 have hS:=az.fB
 unfold Go.aU.lz at Z
 rcases gq Z with ⟨K,Q,rfl⟩|⟨left,eg,Q,Z⟩
 ·exact((ak n Zo).level h j i 0 _ Zo az Q).mono (λae T au a=>by obtain⟨J,cB,a,_⟩:=a;cases a) (λae T au a=>a)
 refine((ak n Zo).level h j i 0 _ Zo az Q).mono ?_ (λae T au a=>by obtain⟨K,a,_⟩:=a;cases a)
 rintro tI a2 aO ⟨J,ht,bx,bU,el,h2⟩
 cases bx
 have jy:=h2.le
 have mz:=az.go el jy
 obtain⟨x,b8,aM,ah⟩:=qD Z
 refine(nx aA mz aM _).Zm ?_
 rintro D4 aS bg ⟨rfl,dA,du⟩
 have ge:=du.le
 have jw:=mz.g2
 rcases ah with ⟨aD,Z⟩|⟨aD,Z⟩
 ·rw[aD]at dA ⊢
  simp only[ZD]at dA ⊢
  rw[<-(fI aM).2]at Z
  simp only[]at Z
  obtain⟨cD,a6,cH,bo,rfl,hM,uY,bV,cw,c4,ec,eU,dK,gM,hw,jm,I2⟩:=bU.open
  have hM:=hM
  obtain⟨aAA,aAB⟩:=hM
  have d7:ao X aS (.ptr cD 0)=some (.Z left.kind):=by rw[du.fT _ _ Zo (by simp;omega)];exact uY
  have EE:ao X aS (.ptr cD 8)=some a6:=by rw[du.fT _ _ Zo (by simp;omega)];exact hw
  have cj:tw left=some true->∀(M:dS) (bb:V an) (bs:Nat),M.g 4=some (.ptr bg 0)->M.g 3=some (.ptr cD 0)->M.g 0=some (.ptr aH 0)->bq X aS bg bb bs->bg<bs->ab X bb bg=zx (b9 x) 7->
   eV (bs+9) λauc=>al (M.g 4) λaxL=>E (ba 2 axL) λafa=>E (ao X bb afa) λafb=>al (M.g 3) λaxM=>al (M.g 0) λaxN=>aW X 232 [axN] bb auc (λayi ajE aud=>E (fg 2 [.cz, .cz] [(0,1,axM),(1,1,ayi)] (bs+5)) λaeh=>kU X ajE (bs+5) aeh.1 aeh.2 λayj ajF=>E (eB [(.Z 0),(.Z 0),(.str []),(.bool false),(.bool false),(.bool false),(.Z 0),(.int .u64 0), .aP] [(0,1,(.Z 21)),(1,1,afb),(8,1,ayj)]) λayk=>xP X ajF (bs+7) ayk λayl V5=>E (ao X V5 afa) λaym=>gG aym (some afb) (jD X aH bM aX h j r ayl V5 aud)) (iF X aH h j r):=by
   intro Rj M bb bs t4 t3 t0 cq c1 cN
   rw[Rj]at Z
   simp only[]at Z
   refine gA @t4 @t3 @t0 (bR cN) b9.eq_1 ⟨?_⟩
   rcases gq Z with ⟨K,U,rfl⟩|⟨right,c5,U,Z⟩
   ·refine((ak n Zo).lz bb _ _ _ (mz.go (dA.ex cq Zo Zo) Zo) U).mono (λae T au a=>by obtain⟨J,cB,a,_⟩:=a;cases a) (λae T au a=>a.of (h2.trans (du.trans (ca.of (cq.more Zo)))) (λ_ a=>a))
   refine((ak n Zo).lz bb _ _ _ (mz.go (dA.ex cq Zo Zo) Zo) U).mono ?_ (λae T au a=>by obtain⟨K,a,_⟩:=a;cases a)
   rintro v4 bF c7 ⟨jh,i4,th,dv,hf,eC⟩
   cases th
   have jl:=eC.le
   simp only[ok,Zf]at Z
   subst Z
   have ej:ab X bF bg=zx (b9 x) 7:=by rw[eC.ad _ Zo (by simp;omega)];exact cN
   obtain⟨fL,rfl,oM,_⟩:=dv.ptr
   refine cV (bR ej) b9.eq_1 ⟨?_⟩
   refine gP (pR _ _) ?_
   refine⟨_,i4,rfl,cO.lit (iR:= .own) (cH:=bs+5) (bo:=[.ptr cD 0, .ptr fL 0]) (bm Zo) ⟨Zo,Zo⟩ ?_ ⟨Zo,Zo⟩ rfl Zo Zo (dw.two (cO.ad (λe H=> ?_) _ _ bU) (cO.ad (λe H=> ?_) _ _ dv) (λe H=> ?_) (λe H=> ?_)), ?_, ?_⟩
   ·simp(disch:=omega) only[aI,bm]<;>rfl
   ·have Q:=H.1;have U:=H.2
    simp(disch:=omega) only[aI]
    rw[eC.ad e Zo (by simp;omega),cq.ad e Zo,du.ad e Zo (by simp;omega)]
   ·have Q:=H.1;have U:=H.2
    simp(disch:=omega) only[aI]
   ·simp only[da]at H ⊢;omega
   ·simp only[da]at H ⊢;omega
   ·exact hf.ad (zz) (zz)
   ·exact⟨Zo,λb aj bQ=>by
     rw[<-((h2.trans (du.trans (ca.of (cq.more (by omega:bs<=bs+9))))).trans eC).ad b aj bQ]
     simp(disch:=omega) only[aI]⟩
  have XJ:tw left=some false->∀(bb:V an) (bs:Nat) (ai:bI),bq X aS bg bb bs->aW X 206 [.agg (b9 x)] bb bs ai (iF X aH h j r):=by
   intro Rj bb bs ai cq
   rw[Rj]at Z
   simp only[bad,Zf]at Z
   subst Z
   refine(HJ aA (zt cq.le) x _ ?_).mono (λ_ _ _ a=>a.elim) (λ_ _ _ a=>a)
   intro T au bT
   exact⟨_,rfl,rfl,h2.trans (du.trans (ca.of (cq.trans bT)))⟩
  by_cases kQ:left.kind=1
  ·have cX:decide (left.kind≠1)=false:=by simp[kQ]
   refine he b9.eq_1 @d7 @cX ⟨?_⟩
   refine gV ?_
   refine he b9.eq_1 @d7 @cX ⟨?_⟩
   refine gV ?_
   refine pp ?_
   exact cj (by simp[tw,kQ]) _ _ _ (bw) (bw) (bw) dU Zo (bm Zo)
  ·have cX:decide (left.kind≠1)=true:=by simp[kQ]
   by_cases gd:left.kind=4
   ·have iq:decide (left.kind≠4)=false:=by simp[gd]
    cases wC:left.args with
    |nil=>
     simp[tw,gd,wC]at Z
    |cons K xO=>
     obtain⟨v,bB,Qp⟩:=I2.get 0 K (by rw[wC];rfl)
     obtain⟨gN,my,rn⟩:=jm.one bB
     have gN:dW 1 a6 (.Z 0)=some (.ptr cH 0):=gN
     obtain⟨o5,rfl,aqZ,lX⟩:=Qp.ptr
     obtain⟨aAC,aAD⟩:=aqZ
     obtain⟨aBg,aBh⟩:=rn
     have KK:ao X aS (.ptr cH 0)=some (.ptr o5 0):=by rw[du.fT _ _ Zo (by simp;omega)];exact my
     have xS:ao X aS (.ptr o5 0)=some (.Z K.kind):=by rw[du.fT _ _ Zo (by simp;omega)];exact lX
     by_cases aE:K.kind=1
     ·have f5:decide (K.kind≠1)=false:=by simp[aE]
      refine he b9.eq_1 @d7 (Za @cX (Za @iq (Za @EE (Za @gN (Za @KK (Za @xS @f5)))))) ⟨?_⟩
      refine gV ?_
      refine he b9.eq_1 @d7 (Za @cX (Za @iq (Za @EE (Za @gN (Za @KK (Za @xS @f5)))))) ⟨?_⟩
      refine gV ?_
      refine pp ?_
      exact cj (by simp[tw,gd,wC,aE]) _ _ _ (bw) (bw) (bw) dU Zo (bm Zo)
     ·have f5:decide (K.kind≠1)=true:=by simp[aE]
      refine he b9.eq_1 @d7 (Za @cX (Za @iq (Za @EE (Za @gN (Za @KK (Za @xS @f5)))))) ⟨?_⟩
      refine gV ?_
      refine he b9.eq_1 @d7 (Za @cX (Za @iq (Za @EE (Za @gN (Za @KK (Za @xS @f5)))))) ⟨?_⟩
      refine gV ?_
      refine pq ?_
      refine ci b9.eq_1 ⟨?_⟩
      exact XJ (by simp[tw,gd,wC,aE]) _ _ _ dU
   ·have iq:decide (left.kind≠4)=true:=by simp[gd]
    refine he b9.eq_1 @d7 (Za @cX @iq) ⟨?_⟩
    refine gV ?_
    refine he b9.eq_1 @d7 (Za @cX @iq) ⟨?_⟩
    refine gV ?_
    refine pq ?_
    refine ci b9.eq_1 ⟨?_⟩
    exact XJ (by simp[tw,kQ,gd]) _ _ _ dU
 ·rw[aD]at dA ⊢
  simp only[Zw,ZA]at dA ⊢
  simp only[ok,Zf]at Z
  subst Z
  refine cV b9.eq_1 g5.eq_1 ⟨?_⟩
  refine⟨left,ht,rfl,cO.ex bU (λe Q U=> ?_) (Zi _) Zo,dA.ad (zz) (zz), ?_⟩
  ·simp(disch:=omega) only[aI]
   exact du.ad e Zo (by simp;omega)
  ·exact⟨Zo,λb aj bQ=>by rw[<-(h2.trans du).ad b aj bQ];exact zz⟩
end
section
variable{X:ck}{h T a2 aS:V an}{j au aO bg aH bM:Nat}{aX:List Tok}{i:Nat}
def afR(X:ck)(aH bM:Nat)(aX:List Tok)(h:V an)(j:Nat)(r:Option bE×List Tok):bI:=λae T au=>∃cB,r.2=aX.drop cB/\aU X T aH bM aX cB/\ca X [aH] h j T au/\
 match r.1 with
 |none=>ae= .tuple [.cz, .bool false]
 |some J=>∃b B K,J= .mk B K [] false dN 0 []/\ae= .tuple [.ptr b 0, .bool true]/\j<=b/\b<au/\ab X T b=zx (g7 B K [] false dN 0 .aP) 9
def akJ(aA:dz X)(eS:vZ X){B:Nat}(aN:B<5)(az:io X h j aH bM aX i){r:Option bE×List Tok}(Z:ow (ax B) (aX.drop i)=some r):
 aW X 252 [.ptr aH 0, .Z (B:Int)] h j (afR X aH bM aX h j r) (λ_ _ _=>False):=by
 refine zA aA (aiT X) ?_
 rw[aiU]
 unfold VA
 have gU:=az.a8
 have jY:=az.hm
 have hS:=az.fB
 have jw:=az.g2
 obtain⟨aop,eS⟩:=eS
 obtain⟨b,a6,jm,cC⟩:=eS h B aN
 have dZ:FQ 5 1 (.ptr 9 0) (.Z (B:Int))=some (.ptr 9 B):=by
  simp[FQ,rg,Kj,fw,aN]
 have fD:=cC.len
 rw[Zn]at fD
 have uI:=cC.many
 rw[Zn]at uI
 refine he @dZ @jm @fD ⟨?_⟩
 refine gV ?_
 refine fU (λm M T n=>∃aa,m=(ax B).length-aa/\aa<=(ax B).length/\M.g 0=some (.ptr aH 0)/\M.g 12=some a6/\M.g 13=some (.Z ((ax B).length:Int))/\M.g 14=some (.Z (aa:Int))/\aU X T aH bM aX i/\ca X [aH] h j T n/\ow ((ax B).drop aa) (aX.drop i)=some r)
  (ax B).length ⟨0,Zo,Zo,bw,bw,bw,gc,az.par,ca.refl _ _ _,Z⟩ ?_
 rintro m M aS n ⟨aa,rfl,bG,t0,tG,lj,oj,dA,gj,aj⟩
 have gl:=gj.le
 have fK:=az.go dA gl
 refine Ll @lj @oj ⟨?_⟩
 refine gV ?_
 refine EC (λc1=> ?_) (λc1=> ?_)
 ·have c1:aa<(ax B).length:=Zo
  have jZ:(ax B).drop aa=(ax B)[aa]::(ax B).drop (aa+1):=Zv c1
  rw[jZ]at aj
  have abf:=cC.f2 aa (by simpa using c1)
  have ft:=((eS aS B aN).choose_spec)
  obtain⟨dL,NU,uP,C3⟩:=eS aS B aN
  have RO:NU=a6:=by
   have J:ao X aS (.ptr 9 B)=ao X h (.ptr 9 B):=by
    rw[cJ,cJ]
    have:∀h:V an,ab X h 9=X.G.get 9:=λh=>by
     have ao3:Nat.blt 9 (o X).a8=true:=by simp[Nat.blt];exact aop
     simp only[ab,ao3,eP];rfl
    rw[this,this]
   rw[J,jm]at uP
   exact(Yx uP).symm
  subst RO
  have abf:=C3.f2 aa (by simpa using c1)
  have ft:=λbb (a:∀e,e<X.a8->ab X bb e=ab X aS e)=>(C3.ad (T:=bb) a).row Zd (i:=aa) (r:=[.str (ax B)[aa].1, .Z (ax B)[aa].2]) (by rw[Zx,Ze c1];rfl)
  have ft:=ft aS (λ_ _=>rfl)
  generalize (ax B)[aa]=Y at aj ft jZ
  obtain⟨s,fb⟩:=Y
  simp only[ow]at aj
  refine gA @tG @oj @abf @ft @t0 ⟨?_⟩
  refine fc (λbb=>bq X aS n bb (n+1)/\ab X bb n=zx [.str s, .Z fb] 2) ⟨dU,bm Zo⟩ ?_
  rintro bb ⟨cq,cN⟩
  cases aM:aX.drop i with
  |nil=>rw[aM]at aj;simp[lM]at aj
  |cons x l=>
   rw[aM]at aj
   refine(nx aA (fK.go (dA.ex cq Zo Zo) Zo) aM s).Zm ?_
   rintro ae bF c7 ⟨rfl,hf,eC⟩
   have jl:=eC.le
   have ej:ab X bF n=zx [.str s, .Z fb] 2:=by rw[eC.ad _ Zo (by simp;omega)];exact cN
   have q0:=gj.trans ((ca.of cq).trans eC)
   cases aD:g3 x s with
   |true=>
    rw[aD]at hf
    simp only[lM,aD,ZD]at aj hf ⊢
    simp only[Zf]at aj
    subst aj
    refine cV b9.eq_1 (bR ej) ⟨?_⟩
    refine⟨i+1,(fI aM).2.symm,hf.ad (zz) (zz), ?_,c7+1,fb,x.at_,rfl,rfl,Zo,Zo, ?_⟩
    ·exact⟨Zo,λb aj bQ=>by rw[<-q0.ad b aj bQ];exact zz⟩
    ·simp(disch:=omega) only[aI,bm]<;>rfl
   |false=>
    rw[aD]at hf
    simp only[lM,aD,Zw,ZA]at aj hf ⊢
    have bD:=zy aa
    refine gt b9.eq_1 g5.eq_1 @oj @bD ⟨?_⟩
    refine⟨_, ?_,aa+1,rfl,Zo,bf t0,bf tG,bf lj,bw,hf.ad (zz) (zz), ?_,aj⟩
    ·omega
    ·exact⟨Zo,λb aj bQ=>by rw[<-q0.ad b aj bQ];exact zz⟩
 ·have bG:aa=(ax B).length:=Zo
  subst bG
  rw[List.drop_length]at aj
  simp only[ow,Zf]at aj
  subst aj
  refine cL ⟨?_⟩
  exact⟨i,rfl,dA,gj,rfl⟩
end
section
variable{X:ck}{h T a2 aS:V an}{j au aO bg aH bM:Nat}{aX:List Tok}{i:Nat}
def atr(aA:dz X)(eS:vZ X){n:Nat}(ak:∀m,m<n->qJ X aH bM aX m):∀h j i (B:Nat) r,B<=5->io X h j aH bM aX i->Go.aU.level n B (aX.drop i)=some r->aW X 243 [.ptr aH 0, .Z (B:Int)] h j (jD X aH bM aX h j r) (iF X aH h j r):=by
 intro h j i B r aN az Z
 cases n with
 |zero=>simp[Go.aU.level]at Z
 |succ n=>
 refine zA aA (aiN X) ?_
 rw[aiO]
 unfold Vx
 have gU:=az.a8
 have jY:=az.hm
 have hS:=az.fB
 have jw:=az.g2
 unfold Go.aU.level at Z
 by_cases mm:B=5
 ·subst mm
  rw[Zq rfl]at Z
  have cX:decide (((5:Nat):Int)=5)=true:=rfl
  refine ci @cX ⟨?_⟩
  exact(ak n Zo).shift h j i r az Z
 ·rw[Zg mm]at Z
  have cX:decide ((B:Int)=5)=false:=by simp;omega
  have bD:=zy B
  refine cV @cX @bD ⟨?_⟩
  rcases gq Z with ⟨K,Q,rfl⟩|⟨left,eg,Q,Z⟩
  ·exact((ak n Zo).level h j i (B+1) _ Zo az Q).mono (λae T au a=>by obtain⟨J,cB,a,_⟩:=a;cases a) (λae T au a=>a)
  refine((ak n Zo).level h j i (B+1) _ Zo az Q).mono ?_ (λae T au a=>by obtain⟨K,a,_⟩:=a;cases a)
  rintro tI a2 aO ⟨J,ht,bx,bU,el,h2⟩
  cases bx
  have jy:=h2.le
  refine gV ?_
  refine fU (λm M T aV=>∃left v cB,m<=n/\M.g 0=some (.ptr aH 0)/\M.g 1=some (.Z (B:Int))/\M.g 5=some v/\cO X T (da j aV) left v/\aU X T aH bM aX cB/\ca X [aH] h j T aV/\oY m B left (aX.drop cB)=some r)
   n ⟨left,tI,ht,Zi _,bw,bw,bw,bU,el,h2,Z⟩ ?_
  clear bU el h2 Q Z
  rintro m M aS bg ⟨left,v,gg,bp,t0,t1,t5,bK,dA,du,Z⟩
  cases m with
  |zero=>simp[oY]at Z
  |succ m=>
  unfold oY at Z
  have ge:=du.le
  have fK:=az.go dA ge
  refine gV ?_
  refine cV @t0 @t1 ⟨?_⟩
  cases aj:ow (ax B) (aX.drop gg)with
  |none=>rw[aj]at Z;cases Z
  |some JR=>
  rw[aj]at Z
  refine(akJ aA eS Zo fK aj).Zm ?_
  rintro y2 bb bs ⟨i3,tg,gE,ea,be⟩
  have iL:=ea.le
  obtain⟨ro,aBq⟩:=JR
  simp only[]at tg
  subst tg
  cases ro with
  |none=>
   simp only[]at be Z
   subst be
   simp only[ok,Zf]at Z
   subst Z
   refine ci @t5 ⟨?_⟩
   exact⟨left,i3,rfl,cO.fr bK ea Zo Zo (Zi _) Zo,gE,du.trans ea⟩
  |some J=>
   simp only[]at be Z
   obtain⟨b,fb,K,rfl,rfl,nQ,nh,cN⟩:=be
   refine gt @t0 @t1 @t5 @bD ⟨?_⟩
   rcases gq Z with ⟨fN,aK,rfl⟩|⟨right,g0,aK,Z⟩
   ·refine((ak m Zo).level bb bs i3 (B+1) _ Zo (fK.go gE iL) aK).mono (λae T au a=>by obtain⟨J,cB,a,_⟩:=a;cases a) (λae T au a=>a.of (du.trans ea) (λ_ a=>a))
   refine((ak m Zo).level bb bs i3 (B+1) _ Zo (fK.go gE iL) aK).mono ?_ (λae T au a=>by obtain⟨K,a,_⟩:=a;cases a)
   rintro v4 bF c7 ⟨jh,i4,th,dv,hf,eC⟩
   cases th
   have jl:=eC.le
   have ej:ab X bF b=zx (g7 fb K [] false dN 0 .aP) 9:=by rw[eC.ad _ Zo (by simp;omega)];exact cN
   obtain⟨cp,rfl,mo,_⟩:=bK.ptr
   obtain⟨fL,rfl,oM,_⟩:=dv.ptr
   refine er @t5 @ej @t1 ⟨?_⟩
   have fin:∀gy,gy=bn X (bn X bF c7 (zx [.ptr cp 0, .ptr fL 0] 2)) b (zx (g7 fb K [] false dN 0 (.slice c7 0 2 2)) 9)->cO X gy (da j (c7+1)) (two (.mk fb K [] false dN 0 []) left right) (.ptr b 0)/\aU X gy aH bM aX i4/\ca X [aH] h j gy (c7+1):=by
    rintro gy rfl
    refine⟨cO.lit (iR:= .own) (cH:=c7) (bo:=[.ptr cp 0, .ptr fL 0]) (bm Zo) ⟨Zo,Zo⟩ ?_ ⟨Zo,Zo⟩ rfl Zo Zo (dw.two (cO.ad (λe H=> ?_) _ _ bK) (cO.ad (λe H=> ?_) _ _ dv) (λe H=> ?_) (λe H=> ?_)), ?_, ?_⟩
    ·simp(disch:=omega) only[aI,bm]
    ·have Q:=H.1;have U:=H.2
     simp(disch:=omega) only[aI]
     rw[eC.ad e Zo (by simp;omega),ea.ad e Zo (by simp;omega)]
    ·have Q:=H.1;have U:=H.2
     simp(disch:=omega) only[aI]
    ·simp only[da]at H ⊢;omega
    ·simp only[da]at H ⊢;omega
    ·exact hf.ad (zz) (zz)
    ·exact⟨Zo,λe H bQ=>by
      rw[<-((du.trans ea).trans eC).ad e H bQ]
      simp(disch:=omega) only[aI]⟩
   obtain⟨eM,eZ,ji⟩:=fin (bn X (bn X bF c7 (zx [.ptr cp 0, .ptr fL 0] 2)) b (some (.cells (dQ (V.ofList (g7 fb K [] false dN 0 .aP) 0 .nil) 8 (F.slice c7 0 2 2).cells) 9 .own))) rfl
   refine EC (λU=> ?_) (λU=> ?_)
   ·have h4:B=2:=Zo
    rw[Zq h4]at Z
    simp only[ok,Zf]at Z
    subst Z
    exact⟨_,i4,rfl,eM,eZ,ji⟩
   ·rw[Zg Zo]at Z
    exact⟨m,Zo,_, .ptr b 0,i4,Zo,bf t0,bf t1,bw,eM,eZ,ji,Z⟩
end
section
variable{X:ck}{h T a2 aS:V an}{j au aO bg aH bM:Nat}{aX:List Tok}{i:Nat}
def awT(aA:dz X){n:Nat}(ak:∀m,m<n->qJ X aH bM aX m):∀h j i r,io X h j aH bM aX i->Go.aU.shift n (aX.drop i)=some r->aW X 251 [.ptr aH 0] h j (jD X aH bM aX h j r) (iF X aH h j r):=by
 intro h j i r az Z
 cases n with
 |zero=>simp[Go.aU.shift]at Z
 |succ n=>
 refine zA aA (aiR X) ?_
 rw[aiS]
 unfold Vz
 have gU:=az.a8
 have jY:=az.hm
 have hS:=az.fB
 have jw:=az.g2
 unfold Go.aU.shift at Z
 rcases gq Z with ⟨K,Q,rfl⟩|⟨left,eg,Q,Z⟩
 ·exact((ak n Zo).tC h j i _ az Q).mono (λae T au a=>by obtain⟨J,cB,a,_⟩:=a;cases a) (λae T au a=>a)
 refine((ak n Zo).tC h j i _ az Q).mono ?_ (λae T au a=>by obtain⟨K,a,_⟩:=a;cases a)
 rintro tI a2 aO ⟨J,ht,bx,bU,el,h2⟩
 cases bx
 have jy:=h2.le
 refine gV ?_
 refine fU (λm M T aV=>∃left v cB,M.g 0=some (.ptr aH 0)/\M.g 3=some v/\cO X T (da j aV) left v/\aU X T aH bM aX cB/\ca X [aH] h j T aV/\o8 m left (aX.drop cB)=some r)
  n ⟨left,tI,ht,bw,bw,bU,el,h2,Z⟩ ?_
 clear bU el h2 Q Z jy
 rintro m M aS bg ⟨left,v,gg,t0,t3,bK,dA,du,Z⟩
 cases m with
 |zero=>simp[o8]at Z
 |succ m=>
 unfold o8 at Z
 have ge:=du.le
 have fK:=az.go dA ge
 refine gV ?_
 obtain⟨cp,rfl,mo,_⟩:=bK.ptr
 have mo:=mo.2
 refine ci @t0 ⟨?_⟩
 obtain⟨x,b8,aM,ah⟩:=qD Z
 refine(nx aA fK aM _).Zm ?_
 rintro y2 bb bs ⟨rfl,gE,ea⟩
 have iL:=ea.le
 have pE:=aM
 refine rT b9.eq_1 ⟨?_⟩
 refine j3 (λcZ T aV=>∃I8 fb x cB c9,cZ.g 0=some (.ptr aH 0)/\cZ.g 3=some (.ptr cp 0)/\cZ.g 4=some (.Z fb)/\cZ.g 5=some (.ptr c9 0)/\cZ.g 6=some (.bool I8)/\ab X T c9=zx (b9 x) 7/\bg<=c9/\c9<aV/\cO X T (da j bg) left (.ptr cp 0)/\aU X T aH bM aX cB/\ca X [aH] h j T aV/\bg<=aV/\
  (I8=true->o9 m fb x left (aX.drop cB)=some r)/\(I8=false->r= .ok (left,aX.drop cB))) (λaa bG=> ?_) ?_
 ·have cN:∀h,ab X (bn X (bn X h bs (zx (b9 g5) 7)) bs (some (.cells (dQ (V.ofList (b9 g5) 0 .nil) 0 (b9 x)) 7 .own))) bs=zx (b9 x) 7:=λh=>bm Zo
  rcases ah with ⟨aD,Z⟩|⟨aD,Z⟩
  ·rw[aD]at gE ⊢
   simp only[ZD]at gE ⊢
   refine cL ⟨?_⟩
   refine bG _ _ _ ⟨true,19,x,gg+1,bs,bf t0,bf t3,bw,bw,bw,bm Zo,Zo,Zo, ?_,gE.ad (zz) (zz), ?_,Zo,λ_=>by rw[(fI pE).2];exact Z,λa=>by cases a⟩
   ·refine cO.ex bK (λe Q U=> ?_) (Zi _) (Zi _)
    simp(disch:=omega) only[aI]
    exact ea.ad e Zo (by simp;omega)
   ·exact⟨Zo,λe H bQ=>by rw[<-(du.trans ea).ad e H bQ];exact zz⟩
  ·rw[aD]at gE ⊢
   simp only[Zw,ZA]at gE ⊢
   simp only[]at Z
   refine ci @t0 ⟨?_⟩
   refine fc (λbF=>bq X bb bs bF (bs+1)/\ab X bF bs=zx (b9 g5) 7) ⟨dU,bm Zo⟩ ?_
   rintro bF ⟨dv,ej⟩
   have ky:=fK.go (gE.ex dv Zo Zo) (by omega:bg<=bs+1)
   obtain⟨e,gF,oH,ar1⟩:=qD Z
   refine(nx aA ky oH _).Zm ?_
   rintro D6 bX b2 ⟨rfl,hg,dC⟩
   have h5:=dC.le
   have fY:ab X bX bs=zx (b9 g5) 7:=by rw[dC.ad _ Zo (by simp;omega)];exact ej
   have eE:∀e,e<bg->e≠aH->ab X bX e=ab X aS e:=λe Q U=>by
    rw[dC.ad e Zo (by simpa using U),dv.ad e Zo,ea.ad e Zo (by simpa using U)]
   have ey:=((du.trans ea).trans (ca.of dv)).trans dC
   unfold b9 g5 dN at fY
   rcases ar1 with ⟨C6,Z⟩|⟨C6,Z⟩
   ·rw[C6]at hg ⊢
    simp only[ZD]at hg ⊢
    refine cV b9.eq_1 @fY ⟨?_⟩
    refine bG _ _ _ ⟨true,20,e,gg+1,bs,bf t0,bf t3,bw,bw,bw,bm Zo,Zo,Zo, ?_,hg.ad (zz) (zz), ?_,Zo,λ_=>by rw[(fI oH).2];exact Z,λa=>by cases a⟩
    ·refine cO.ex bK (λe Q U=> ?_) (Zi _) (Zi _)
     simp(disch:=omega) only[aI]
     exact eE e U Zo
    ·exact⟨Zo,λe H bQ=>by rw[<-ey.ad e H bQ];exact zz⟩
   ·rw[C6]at hg ⊢
    simp only[Zw,ZA]at hg ⊢
    simp only[ok,Zf]at Z
    refine gt b9.eq_1 g5.eq_1 dN.eq_1 @fY ⟨?_⟩
    refine bG _ _ _ ⟨false,20,g5,gg,bs,bf t0,bf t3,bw,bw,bw,bm Zo,Zo,Zo, ?_,hg.ad (zz) (zz), ?_,Zo,λa=>(by cases a),λ_=>Z.symm⟩
    ·refine cO.ex bK (λe Q U=> ?_) (Zi _) (Zi _)
     simp(disch:=omega) only[aI]
     exact eE e U Zo
    ·exact⟨Zo,λe H bQ=>by rw[<-ey.ad e H bQ];exact zz⟩
 ·clear bK gE ea ah Z aM pE dA fK
  rintro ayX cf eK ⟨I8,fb,x,hU,c9,t0,t3,t4,t5,fM,dY,aqv,abA,eR,hs,ey,r8,H,kp⟩
  cases I8 with
  |false=>
   have Z:=kp rfl
   subst Z
   refine cV @fM @t3 ⟨?_⟩
   exact⟨left,hU,rfl,cO.lift (λe H=>⟨H.1,zt H.2⟩) _ _ eR,hs,ey⟩
  |true=>
   have Z:=H rfl
   cases m with
   |zero=>simp[o9]at Z
   |succ m=>
   unfold o9 at Z
   have l3:=az.go hs (by omega:j<=eK)
   refine cV @fM @t0 ⟨?_⟩
   cases aM:aX.drop hU with
   |nil=>rw[aM]at Z;simp[iy,andThen]at Z
   |cons e l=>
   rw[aM]at Z
   simp only[iy]at Z
   refine(Bv aA l3.a8 l3.par l3.fB l3.hm l3.g2 l3.many (fI aM).1 4).mono ?_ ?_
   ·rintro ae7 cx eu ⟨aN,rfl,hG,ek⟩
    have nn:=ek.le
    rw[Zq aN]at Z
    simp only[andThen,ok]at Z
    have e1:ab X cx c9=zx (b9 x) 7:=by rw[ek.ad _ Zo (by simp;omega)];exact dY
    have fa:=cO.ex (T:=cx) eR (λe Q U=>ek.ad e Zo (by simp;omega)) (Zi _) (Zi _)
    have q0:=ey.trans ek
    refine rT b9.eq_1 ⟨?_⟩
    refine gV ?_
    refine EC (λQN=> ?_) (λQN=> ?_)
    ·rw[Zq QN]at Z
     simp only[bad,Zf]at Z
     subst Z
     refine ci b9.eq_1 ⟨?_⟩
     refine(HJ aA Zo e _ ?_).mono (λ_ _ _ a=>a.elim) (λ_ _ _ a=>a)
     intro T au bT
     exact⟨_,rfl,rfl,q0.trans (ca.of (bq.trans dU bT))⟩
    ·rw[Zg QN]at Z
     refine gA b9.eq_1 @t4 @t5 @t3 (bR e1) ⟨?_⟩
     refine⟨m,Zo,_, .ptr (eu+1+1) 0,hU+1,bf t0,bw,cO.lit (B:=1) (cap:=1) (n:=e.n) (kind:=fb) (at_:=x.at_) (name:=[]) (no:=false) (ty:=dN) (b:=eu+1+1) (iR:= .own) (cH:=eu+1) (bo:=[.ptr cp 0]) (bm (b:=eu+1+1) Zo) ⟨Zo,Zo⟩ ?_ ⟨Zo,Zo⟩ rfl Zo Zo (dw.one (cO.ad (λe H=> ?_) _ _ fa) (λe H=> ?_)), ?_, ?_,by rw[(fI aM).2];exact Z⟩
     ·simp(disch:=omega) only[aI,bm]<;>rfl
     ·have Q:=H.1;have U:=H.2
      simp(disch:=omega) only[aI]
     ·simp only[da]at H ⊢;omega
     ·exact hG.ad (zz) (zz)
     ·exact⟨Zo,λe H bQ=>by
       rw[<-q0.ad e H bQ]
       simp(disch:=omega) only[aI]⟩
   ·rintro ae7 cx eu ⟨aN,rfl,ek⟩
    rw[Zg aN]at Z
    simp only[andThen,bad,Zf]at Z
    subst Z
    exact⟨_,rfl,rfl,ey.trans ek⟩
end
section
variable{X:ck}{h T a2 aS:V an}{j au aO bg aH bM:Nat}{aX:List Tok}{i:Nat}
def asr{n a1 aa:Nat}{cs:List F}(B:IntKind)(a:aa<n):ts true n a1 (.agg cs) (.int B (aa:Int))=some (.agg ((cs.drop (aa*a1)).take a1)):=by
 simp[ts,rg,fw,a]
def SX:List F:=[.str [110,111,116], .Z 3, .str [45], .Z 4, .str [112,114,101], .Z 5]
def avu{aa:Nat}(a:aa<3):∃s B,yQ.drop aa=(s,B)::yQ.drop (aa+1)/\(SX.drop (aa*2)).take 2=[.str s, .Z B]:=by
 match aa,a with
 |0,_=>exact⟨_,_,rfl,rfl⟩
 |1,_=>exact⟨_,_,rfl,rfl⟩
 |2,_=>exact⟨_,_,rfl,rfl⟩
def avB(aA:dz X){n:Nat}(ak:∀m,m<n->qJ X aH bM aX m):∀h j i r,io X h j aH bM aX i->Go.aU.xk n (aX.drop i)=some r->aW X 258 [.ptr aH 0] h j (jD X aH bM aX h j r) (iF X aH h j r):=by
 intro h j i r az Z
 cases n with
 |zero=>simp[Go.aU.xk]at Z
 |succ n=>
 refine zA aA (aiV X) ?_
 rw[aiW]
 unfold VB
 have gU:=az.a8
 have jY:=az.hm
 have hS:=az.fB
 have jw:=az.g2
 unfold Go.aU.xk at Z
 cases aj:ow yQ (aX.drop i)with
 |none=>rw[aj]at Z;cases Z
 |some JR=>
 rw[aj]at Z
 refine x9 ⟨?_⟩
 refine j3 (λM T aV=>M.g 0=some (.ptr aH 0)/\aU X T aH bM aX i/\ca X [aH] h j T aV/\JR=(none,aX.drop i)) (λaa bG=> ?_) ?_
 ·refine fU (λm M T aV=>∃aa,m=3-aa/\aa<=3/\M.g 0=some (.ptr aH 0)/\M.g 15=some (.agg SX)/\M.g 16=some (.Z (aa:Int))/\aU X T aH bM aX i/\ca X [aH] h j T aV/\ow (yQ.drop aa) (aX.drop i)=some JR)
   3 ⟨0,rfl,Zo,bw,gc,gc,az.par,ca.refl _ _ _,aj⟩ ?_
  rintro m M aS bg ⟨aa,rfl,Mg,t0,vA,yX,dA,du,aj⟩
  have ge:=du.le
  have fK:=az.go dA ge
  refine rT @yX ⟨?_⟩
  refine gV ?_
  refine EC (λc1=> ?_) (λc1=> ?_)
  ·have c1:aa<3:=Zo
   obtain⟨s,fb,jZ,ft⟩:=avu c1
   rw[jZ]at aj
   simp only[ow]at aj
   have abe:=asr (n:=3) (a1:=2) (cs:=SX) .i64 c1
   rw[ft]at abe
   refine gt @vA @yX @abe @t0 ⟨?_⟩
   refine fc (λbb=>bq X aS bg bb (bg+1)/\ab X bb bg=zx [.str s, .Z fb] 2) ⟨dU,bm Zo⟩ ?_
   rintro bb ⟨cq,cN⟩
   cases aM:aX.drop i with
   |nil=>rw[aM]at aj;simp[lM]at aj
   |cons x l=>
   rw[aM]at aj
   refine(nx aA (fK.go (dA.ex cq Zo Zo) Zo) aM s).Zm ?_
   rintro ae bF c7 ⟨rfl,hf,eC⟩
   have jl:=eC.le
   have ej:ab X bF bg=zx [.str s, .Z fb] 2:=by rw[eC.ad _ Zo (by simp;omega)];exact cN
   have q0:=du.trans ((ca.of cq).trans eC)
   cases aD:g3 x s with
   |true=>
    rw[aD]at hf
    simp only[lM,aD,ZD]at aj hf ⊢
    simp only[Zf]at aj
    subst aj
    simp only[]at Z
    refine er b9.eq_1 (bR ej) @t0 ⟨?_⟩
    refine fc (λbX=>bq X bF c7 bX (c7+1+10)/\ab X bX c7=zx (b9 x) 7) ⟨dU,bm Zo⟩ ?_
    rintro bX ⟨dH,fY⟩
    have oe:=fK.go (hf.ex dH Zo Zo) (by omega:bg<=c7+1+10)
    have dC:=q0.trans (ca.of dH)
    rw[<-(fI aM).2]at Z
    rcases gq Z with ⟨K,cu,rfl⟩|⟨HC,mv,cu,Z⟩
    ·exact((ak n Zo).tC bX _ _ _ oe cu).mono (λae T au a=>by obtain⟨J,cB,a,_⟩:=a;cases a) (λae T au a=>a.of dC (λ_ a=>a))
    refine((ak n Zo).tC bX _ _ _ oe cu).mono ?_ (λae T au a=>by obtain⟨K,a,_⟩:=a;cases a)
    rintro y3 cf eK ⟨azi,hU,Q2,eR,hs,ey⟩
    cases Q2
    have r8:=ey.le
    simp only[ok,Zf]at Z
    subst Z
    obtain⟨BF,rfl,IN,_⟩:=eR.ptr
    have dY:ab X cf c7=zx (b9 x) 7:=by rw[ey.ad _ Zo (by simp;omega)];exact fY
    have X0:ab X cf bg=zx [.str s, .Z fb] 2:=by rw[ey.ad _ Zo (by simp;omega),dH.ad _ Zo];exact ej
    refine er (bR dY) (bR X0) b9.eq_1 ⟨?_⟩
    refine gP (pR _ _) ?_
    refine er (bR dY) (bR X0) b9.eq_1 ⟨?_⟩
    refine gP (pR _ _) ?_
    refine⟨_,hU,rfl,cO.lit (B:=1) (cap:=1) (n:=0) (kind:=fb) (at_:=x.at_) (name:=[]) (no:=false) (ty:=dN) (b:=c7+1+8) (iR:= .own) (cH:=c7+1+6) (bo:=[.ptr BF 0]) (bm (b:=c7+1+8) Zo) ⟨Zo,Zo⟩ ?_ ⟨Zo,Zo⟩ rfl Zo Zo (dw.one (cO.ad (λe H=> ?_) _ _ eR) (λe H=> ?_)), ?_, ?_⟩
    ·simp(disch:=omega) only[aI,bm]<;>rfl
    ·have Q:=H.1;have U:=H.2
     simp(disch:=omega) only[aI]
    ·simp only[da]at H ⊢;omega
    ·exact hs.ad (zz) (zz)
    ·exact⟨Zo,λe H bQ=>by
      rw[<-(dC.trans ey).ad e H bQ]
      simp(disch:=omega) only[aI]⟩
   |false=>
    rw[aD]at hf
    simp only[lM,aD,Zw,ZA]at aj hf ⊢
    have bD:=zy aa
    refine gt b9.eq_1 g5.eq_1 @yX @bD ⟨?_⟩
    refine⟨_, ?_,aa+1,rfl,Zo,bf t0,bf vA,bw,hf.ad (zz) (zz), ?_,aj⟩
    ·omega
    ·exact⟨Zo,λb aj bQ=>by rw[<-q0.ad b aj bQ];exact zz⟩
  ·have bG:aa=3:=Zo
   subst bG
   simp only[yQ,Z9,Z2,ow,Zf]at aj
   refine cL ⟨?_⟩
   exact bG _ _ _ ⟨bf t0,dA,du,aj.symm⟩
 ·clear aj
  rintro nG gb a8 ⟨t0,abI,LF,rfl⟩
  simp only[]at Z
  have IE:=LF.le
  have SZ:=az.go abI IE
  refine ci @t0 ⟨?_⟩
  rcases gq Z with ⟨K,Q,rfl⟩|⟨left,eg,Q,Z⟩
  ·exact((ak n Zo).part gb a8 i _ SZ Q).mono (λae T au a=>by obtain⟨J,cB,a,_⟩:=a;cases a) (λae T au a=>a.of LF (λ_ a=>a))
  refine((ak n Zo).part gb a8 i _ SZ Q).mono ?_ (λae T au a=>by obtain⟨K,a,_⟩:=a;cases a)
  rintro tI a2 aO ⟨J,ht,bx,bU,el,h2⟩
  cases bx
  have jy:=h2.le
  refine gV ?_
  refine fU (λm M T aV=>∃left v cB,M.g 0=some (.ptr aH 0)/\M.g 7=some v/\cO X T (da j aV) left v/\aU X T aH bM aX cB/\ca X [aH] h j T aV/\m4 m left (aX.drop cB)=some r)
   n ⟨left,tI,ht,bf t0,bw,cO.lift (λe H=>⟨zt H.1,H.2⟩) _ _ bU,el,LF.trans h2,Z⟩ ?_
  clear bU el h2 Q Z jy t0 abI LF IE SZ
  rintro m M aS bg ⟨left,v,gg,t0,g4,bK,dA,du,Z⟩
  cases m with
  |zero=>simp[m4]at Z
  |succ m=>
  unfold m4 at Z
  have ge:=du.le
  have fK:=az.go dA ge
  refine gV ?_
  obtain⟨cp,rfl,mo,_⟩:=bK.ptr
  have mo:=mo.2
  refine ci @t0 ⟨?_⟩
  obtain⟨x,b8,aM,ah⟩:=qD Z
  refine(nx aA fK aM _).Zm ?_
  rintro y2 bb bs ⟨rfl,gE,ea⟩
  have iL:=ea.le
  have aao:=du.trans ea
  have cq:=cO.ex (T:=bb) bK (λe Q U=>ea.ad e Zo (by simp;omega)) (Zi _) (Zi _)
  rcases ah with ⟨aD,Z⟩|⟨aD,Z⟩
  ·rw[aD]at gE ⊢
   simp only[ZD]at gE ⊢
   rw[<-(fI aM).2]at Z
   simp only[]at Z
   refine cV b9.eq_1 @t0 ⟨?_⟩
   refine fc (λbX=>bq X bb bs bX (bs+1)/\ab X bX bs=zx (b9 x) 7) ⟨dU,bm Zo⟩ ?_
   rintro bX ⟨dH,fY⟩
   have oe:=fK.go (gE.ex dH Zo Zo) (by omega:bg<=bs+1)
   obtain⟨e,mv,Iq,I3⟩:=qD Z
   refine(nx aA oe Iq _).Zm ?_
   rintro ae6 cf eK ⟨rfl,hs,ey⟩
   have r8:=ey.le
   have dY:ab X cf bs=zx (b9 x) 7:=by rw[ey.ad _ Zo (by simp;omega)];exact fY
   have up:=(aao.trans (ca.of dH)).trans ey
   have eR:=cO.ex (T:=cf) cq (λe Q U=>by rw[ey.ad e Zo (by simp;omega),dH.ad e Zo]) (Zi _) (Zi _)
   have np:andThen (iy 1 (aX.drop (if g3 e [110,111,116]then gg+1+1 else gg+1))) (λc l=>m4 m (.mk 6 x.at_ c.text (g3 e [110,111,116]) dN 0 [left]) l)=some r:=by
    rcases I3 with ⟨RN,np⟩|⟨RN,np⟩
    ·simp only[RN,ZD];rw[(fI Iq).2];exact np
    ·simp only[RN,Zw,ZA];exact np
   clear Z I3
   generalize (if g3 e [110,111,116]then gg+1+1 else gg+1)=hU at np hs
   generalize (if g3 e [110,111,116]then e else g5)=TV
   generalize g3 e [110,111,116]=no at np
   refine gt b9.eq_1 (bR dY) @t0 @g4 ⟨?_⟩
   refine fc (λcx=>bq X cf eK cx (eK+1+11)/\ab X cx (eK+1+7)=zx [.ptr cp 0] 1) ⟨dU,bm Zo⟩ ?_
   rintro cx ⟨fa,e1⟩
   have mX:=fK.go (hs.ex fa Zo Zo) (by omega:bg<=eK+1+11)
   cases r3:aX.drop hU with
   |nil=>rw[r3]at np;simp[iy,andThen]at np
   |cons c lZ=>
   rw[r3]at np
   simp only[iy]at np
   refine(Bv aA mX.a8 mX.par mX.fB mX.hm mX.g2 mX.many (fI r3).1 1).mono ?_ ?_
   ·rintro u8 dx hW ⟨aN,rfl,wX,gC⟩
    have yt:=gC.le
    rw[Zq aN]at np
    simp only[andThen,ok]at np
    have ir:ab X dx bs=zx (b9 x) 7:=by rw[gC.ad _ Zo (by simp;omega),fa.ad _ Zo];exact dY
    have anf:ab X dx (eK+1+7)=zx [.ptr cp 0] 1:=by rw[gC.ad _ Zo (by simp;omega)];exact e1
    refine cV b9.eq_1 (bR ir) ⟨?_⟩
    refine gP (pR _ _) ?_
    refine⟨m,Zo,_, .ptr (eK+1+9) 0,hU+1,bf t0,bw,cO.lit (B:=1) (cap:=1) (n:=0) (kind:=6) (at_:=x.at_) (name:=c.text) (no:=no) (ty:=dN) (b:=eK+1+9) (iR:= .own) (cH:=eK+1+7) (bo:=[.ptr cp 0]) (bm (b:=eK+1+9) Zo) ⟨Zo,Zo⟩ ?_ ⟨Zo,Zo⟩ rfl Zo Zo (dw.one (cO.ad (λe H=> ?_) _ _ eR) (λe H=> ?_)), ?_, ?_,by rw[(fI r3).2];exact np⟩
    ·simp(disch:=omega) only[aI];exact anf
    ·have Q:=H.1;have U:=H.2
     simp(disch:=omega) only[aI]
     rw[gC.ad e Zo (by simp;omega),fa.ad e Zo]
    ·simp only[da]at H ⊢;omega
    ·exact wX.ad (zz) (zz)
    ·exact⟨Zo,λe H bQ=>by
      rw[<-((up.trans (ca.of fa)).trans gC).ad e H bQ]
      simp(disch:=omega) only[aI]⟩
   ·rintro u8 dx hW ⟨aN,rfl,gC⟩
    rw[Zg aN]at np
    simp only[andThen,bad,Zf]at np
    subst np
    exact⟨_,rfl,rfl,(up.trans (ca.of fa)).trans gC⟩
  ·rw[aD]at gE ⊢
   simp only[Zw,ZA]at gE ⊢
   simp only[ok,Zf]at Z
   subst Z
   refine er b9.eq_1 g5.eq_1 @g4 ⟨?_⟩
   refine⟨left,gg,rfl,cO.ex cq (λe Q U=> ?_) (Zi _) Zo,gE.ad (zz) (zz), ?_⟩
   ·simp(disch:=omega) only[aI]
   ·exact⟨Zo,λb aj bQ=>by rw[<-aao.ad b aj bQ];exact zz⟩
end
end
end Go.Proofs.YtpfajohmofnkfaaGreatDoor

