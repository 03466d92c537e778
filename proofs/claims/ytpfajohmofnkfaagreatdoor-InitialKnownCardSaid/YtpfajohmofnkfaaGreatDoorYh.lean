/- A part of the proof of the claim's last text: what it is used for is said there; no condition of its own. -/
import Derived.Test.YtpfajohmofnkfaaGreatDoorYg
import Derived.KernelRfl
import Derived.Test.YtpfajohmofnkfaaGreatDoorProg
set_option maxHeartbeats 8000000
set_option linter.all false
namespace Go.Proofs.YtpfajohmofnkfaaGreatDoor
open Go.bg
noncomputable section
structure ck where
 G:S ak
 a7:Nat
 O:Nat->List H->Option H
noncomputable def q(a:ck):aW:=⟨Tryz.prog,a.G,a.a7,a.O,Tryz.prog.globals.size⟩
instance:Coe ck aW:=⟨q⟩
variable (X : ck) (h : S ak) (j : Nat) (ah aw : bG) (a0 bd cg a3 a4 a5 hz h0 hA : H)
abbrev iM(v x:H)(h:S ak)(n:Nat)(D:bG):Prop:=oS D λY=>ix true v (Y x h n) (Y bg.undef h n)
abbrev g5(v x:H)(h:S ak)(n:Nat)(D:bG):Prop:=oS D λY=>ix false v (Y x h n) (Y bg.undef h n)
abbrev cV(v:H)(W:Option H)(h:S ak)(n:Nat)(D:bG):Prop:=oS D λY=>ix true v (B W λx=>Y x h n) (Y bg.undef h n)
abbrev cU(v:H)(W:Option H)(h:S ak)(n:Nat)(D:bG):Prop:=oS D λY=>ix false v (B W λx=>Y x h n) (Y bg.undef h n)
abbrev lQ(v:H)(W:Option H)(h:S ak)(n:Nat)(D:bG):Prop:=oS D λY=>ix true v (aj W λx=>Y x h n) (Y bg.undef h n)
abbrev sk(v:H)(W:Option H)(h:S ak)(n:Nat)(D:bG):Prop:=oS D λY=>ix false v (aj W λx=>Y x h n) (Y bg.undef h n)
abbrev MR(v:H)(W:Option H)(an:H->Option H)(h:S ak)(n:Nat)(D:bG):Prop:=oS D λY=>ix true v (aj W λt=>B (an t) λx=>Y x h n) (Y bg.undef h n)
abbrev RC(v:H)(W:Option H)(an:H->Option H)(h:S ak)(n:Nat)(D:bG):Prop:=oS D λY=>ix false v (aj W λt=>B (an t) λx=>Y x h n) (Y bg.undef h n)
abbrev j9(v:H)(g:bG->Prop)(h:S ak)(n:Nat)(D:bG):Prop:=oS D λY=>ix true v (g Y) (Y bg.undef h n)
abbrev km(v:H)(g:bG->Prop)(h:S ak)(n:Nat)(D:bG):Prop:=oS D λY=>ix false v (g Y) (Y bg.undef h n)
abbrev MQ(v x:H)(h:S ak)(D:H->S ak->Prop):Prop:=uY D λY=>ix false v (Y x h) (Y bg.undef h)
abbrev gs(v:H)(W:Option H)(h:S ak)(D:H->S ak->Prop):Prop:=uY D λY=>ix true v (B W λx=>Y x h) (Y bg.undef h)
abbrev pC(v:H)(W:Option H)(h:S ak)(D:H->S ak->Prop):Prop:=uY D λY=>ix false v (B W λx=>Y x h) (Y bg.undef h)
abbrev uX(v:H)(W:Option H)(h:S ak)(D:H->S ak->Prop):Prop:=uY D λY=>ix true v (aj W λx=>Y x h) (Y bg.undef h)
abbrev Jd(v:H)(W:Option H)(h:S ak)(D:H->S ak->Prop):Prop:=uY D λY=>ix false v (aj W λx=>Y x h) (Y bg.undef h)
abbrev RB(v:H)(W:Option H)(an:H->Option H)(h:S ak)(D:H->S ak->Prop):Prop:=uY D λY=>ix true v (aj W λt=>B (an t) λx=>Y x h) (Y bg.undef h)
abbrev abL(v:H)(W:Option H)(an:H->Option H)(h:S ak)(D:H->S ak->Prop):Prop:=uY D λY=>ix false v (aj W λt=>B (an t) λx=>Y x h) (Y bg.undef h)
abbrev MP(v:H)(g:(H->S ak->Prop)->Prop)(h:S ak)(D:H->S ak->Prop):Prop:=uY D λY=>ix false v (g Y) (Y bg.undef h)
def GD(a:aW)(b:bG):gn:=λc d e=>m6 a [.cell 2 23, .cell 3 26] b c c.bb d e
def JI(a:aW)(b c:bG):rJ:=λd e f g=>vo a [.cell 2 23, .cell 3 26] b c d e d.bb f g
def TZ(a:aW)(b:H)(c:S ak)(d:Nat)(e f:bG):Prop:=
 B (dA [.cq] d) λg=>cO a c d g.1 g.2 λc d g=>B (dA [(.Z 0),(.Z 0)] g) λh=>cO a d g h.1 h.2 λd g h=>aR a 66 [b] g h (λg h i=>B (cN 0 g) λj=>B (cN 1 g) λg=>B (b7 a h 2 d g) λg=>B (aZ 0 d) λh=>B (am a g h) λh=>B (aA .neq h (.Z 0)) λh=>aQ (λb c d=>aj (b 2) λg=>aj (b 3) λh=>Hy (.func (.func 67) [] [g,h]) [] b λb=>aj (b 4) λg=>B (eA [.aT,(.Z 0)] [(0,1,g)]) λg=>ia a c d g λc d g=>aR a 68 [c] d g (λc d g=>aj (b 2) λh=>B (b7 a d 1 h c) λc=>aj (b 2) λd=>B (am a c d) λd=>aR a 69 [d] c g (λ_ c d=>aj (b 2) λf=>B (am a c f) λf=>B (eA [(.Z 0),(.Z 0)] []) λg=>aj (b 2) λh=>B (b7 a c 1 h f) λc=>aj (b 3) λf=>B (b7 a c 2 f g) λc=>GD a e b c d) (JI a e f (hC [19,20] b))) (JI a e f (hC [15,16,17,18] b))) λf=>aV h (eZ (i+3) λf=>B (b6 a g 2 d) λi=>B (b7 a g 1 c .cq) λg=>B (b6 a g 2 d) λk=>gI k (some i) (B (b7 a g 2 d i) λg=>GD a e (ab (ab (ab (ab (cP [b]) 2 c) 3 d) 4 j) 12 h) g f)) (f (ab (ab (ab (ab (cP [b]) 2 c) 3 d) 4 j) 12 h) g i)) (JI a e f (hC [6,7,5,8,9,4] (ab (ab (cP [b]) 2 c) 3 d)))
def afQ:AC X 15 [a0] h j ah aw=TZ X a0 h j ah aw:=Zk
def afP:cS X 15 1=true:=Zk
def Oo(a:aW)(b c:H)(d:Option H)(e:S ak)(f:Nat)(g:Bool->S ak->Nat->Prop):Prop:=
 GA (some d) (cP [b,c]) λb c=>aQ (λa b c=>g a.rc b c) λd=>B (dj a e .eql 20 true b .nilIface) λg=>aQ d λd=>aV g (d (ab (ab c 5 b) 7 g) e f) (B (Ex 26 (.agg [(.Z 0),(.Z 0)]) true b) λh=>B (cN 1 h) λi=>B (cN 0 h) λh=>aQ d λd=>aV i (B (dA [(.Z 0),(.Z 0)] f) λj=>cO a e f j.1 j.2 λe f j=>B (b7 a f 2 e h) λf=>eZ (j+3) λj=>B (b6 a f 2 e) λk=>aj (c 0) λl=>B (b7 a f 1 l .cq) λf=>B (b6 a f 2 e) λl=>gI l (some k) (aj (c 1) λl=>B (b7 a f 2 l k) λa=>d (ab (ab (ab (ab (ab c 5 b) 7 g) 9 i) 10 h) 3 e) a j)) (vp (λ_ _ _=>False) b e f))
def Vg(X:ck)(a0 bd:H)(jE:Option H)(h:S ak)(j:Nat)(ah:Bool->S ak->Nat->Prop):x2 X 67 [a0,bd] jE h j ah=Oo X a0 bd jE h j ah:=Zk
def Oq:cS X 67 2=true:=Zk
def Vh(a:aW)(b:H)(c:S ak)(d:Nat)(e f:bG):Prop:=
 B (eA [.aT] []) λg=>ia a c d g λc d g=>aQ (λa b c=>aj (a 3) λa=>e a b c) λe=>fj (λb c d g=>aj (c 4) λh=>aQ (λc d e=>aQ (λc d e=>aj (c 0) λg=>aR a 116 [g] d e (λa d e=>B (qV false 0 1 a) λa=>B (aA .neq a (.Z 7)) λa=>b (ab c 4 a) d e) f) λb=>eZ (e+12) λg=>aj (c 3) λh=>aj (c 3) λi=>B (cf i) λi=>B (aZ 0 i) λi=>B (am a d i) λj=>aj (c 0) λk=>aR a 117 [k] d g (λd f g=>B (ft 1 [(.str []),(.Z 0), .aT, .aT, .aT, .aT] [(0,6,d)] (e+7)) λd=>k4 a f (e+7) d.1 d.2 λd e=>B (am a e i) λf=>gI f (some j) (gO (iQ a e g 6 j d) e g λd e f=>B (cf h) λg=>B (aZ 0 g) λg=>B (b7 a e 1 g d) λa=>b c a f)) f) λa=>aV h (a (ab c 7 h) d g) (e (ab c 7 h) d g)) (ab (ab (ab (cP [b]) 2 .cq) 3 c) 4 (.bool true)) d g
def aid:db X 68 [a0] h j ah aw=Vh X a0 h j ah aw:=Zk
def aic:cS X 68 1=true:=Zk
def Vi(a:aW)(b:H)(c:S ak)(d:Nat)(e f:bG):Prop:=
 B (cf b) λg=>B (aZ 0 g) λg=>B (am a c g) λg=>B (d8 g) λg=>B (aA .gtr g (.Z 64)) λg=>aQ (λb c d=>aj (b 0) λg=>B (cf g) λg=>B (aZ 0 g) λg=>B (am a c g) λg=>B (d8 g) λh=>aQ (λ_ a b=>e (.tuple []) a b) λe=>fj (λb c d g=>aj (c 26) λh=>aj (c 25) λi=>B (aA .lss h i) λh=>aQ (λc d e=>aQ (λa c d=>aj (a 26) λe=>B (aA .add e (.Z 1)) λe=>b (ab a 26 e) c d) λb=>aj (c 24) λg=>aj (c 26) λh=>B (dC 6 g h) λg=>B (b6 a d 6 g) λg=>B (dA [(.str []),(.Z 0), .aT, .aT, .aT, .aT] e) λh=>cO a d e h.1 h.2 λd e h=>B (b7 a e 6 d g) λe=>B (aZ 2 d) λg=>B (am a e g) λg=>B (d8 g) λg=>B (aZ 3 d) λi=>B (am a e i) λi=>B (d8 i) λi=>B (aA .add g i) λg=>B (aZ 4 d) λi=>B (am a e i) λi=>B (d8 i) λi=>B (aA .add g i) λg=>B (aA .gtr g (.Z 256)) λg=>cU g (aZ 5 d) e h (λe h i=>cU g (am a h e) h i (λe h i=>cU g (d8 e) h i (λe h i=>cU g (aA .gtr e (.Z 4096)) h i (λe h i=>cW (λe=>aQ (λc d e=>aj (c 3) λg=>B (aZ 5 g) λg=>B (am a d g) λg=>B (d8 g) λh=>aQ b λb=>fj (λc d e g=>aj (d 55) λh=>aj (d 54) λi=>B (aA .lss h i) λh=>aQ (λb d e=>aQ (λa b d=>aj (a 55) λe=>B (aA .add e (.Z 1)) λe=>c (ab a 55 e) b d) λc=>aj (b 53) λg=>aj (b 55) λh=>B (dC 4 g h) λg=>B (b6 a d 4 g) λg=>B (dA [.aT, .aT,(.Z 0), .cq] e) λh=>cO a d e h.1 h.2 λd e h=>B (b7 a e 4 d g) λe=>B (aZ 3 d) λg=>B (am a e g) λg=>aR a 118 [g] e h (λe g h=>B (aA .gtr e (.Z 200)) λe=>aQ c λc=>aV e (B (aZ 2 d) λb=>B (am a g b) λa=>B (eA [(.Z 0),(.Z 0)] [(0,1,(.Z 22)),(1,1,a)]) λa=>B (some (H.iface 26 a)) λa=>vp f a g h) (c (ab (ab b 5 d) 62 e) g h)) f) λa=>aV h (a (ab d 56 h) e g) (b (ab d 56 h) e g)) (ab (ab (ab c 53 g) 54 h) 55 (.Z 0)) d e) λb=>aV e (B (aZ 1 d) λb=>B (am a h b) λa=>B (eA [(.Z 0),(.Z 0)] [(0,1,(.Z 30)),(1,1,a)]) λa=>B (some (H.iface 26 a)) λa=>vp f a h i) (b (ab (ab c 3 d) 47 e) h i)) λa=>aV g (a (.bool true)) (a e)))))) λa=>aV h (a (ab c 27 h) d g) (e (ab c 27 h) d g)) (ab (ab (ab b 24 g) 25 h) 26 (.Z 0)) c d) λe=>aV g (B (cf b) λb=>B (aZ 0 b) λb=>B (am a c b) λb=>B (dC 6 b (.Z 64)) λb=>B (aZ 1 b) λb=>B (am a c b) λa=>B (eA [(.Z 0),(.Z 0)] [(0,1,(.Z 30)),(1,1,a)]) λa=>B (some (H.iface 26 a)) λa=>vp f a c d) (e (ab (cP [b]) 11 g) c d)
def aif:db X 69 [a0] h j ah aw=Vi X a0 h j ah aw:=Zk
def aie:cS X 69 1=true:=Zk
def TE(a:aW)(b:H)(c:S ak)(d:Nat)(e _:bG):Prop:=
 B (dA [(.Z 0),(.str []),(.Z 0),(.int .u64 0),(.bool false),(.bool false),(.Z 0)] d) λf=>cO a c d f.1 f.2 λc d f=>eZ (f+11) λf=>B (cf b) λg=>B (aZ 0 g) λg=>B (am a d g) λg=>B (cf b) λb=>B (aZ 1 b) λb=>B (am a d b) λb=>B (dC 7 g b) λb=>B (b6 a d 7 b) λb=>B (b7 a d 7 c b) λb=>B (b6 a b 7 c) λa=>e a b f
def ae6:db X 116 [a0] h j ah aw=TE X a0 h j ah aw:=Zk
def ae5:cS X 116 1=true:=Zk
def TF(a:aW)(b:H)(c:S ak)(d:Nat)(e f:bG):Prop:=
 B (dA [(.str []),(.Z 0), .aT, .aT, .aT, .aT] d) λg=>cO a c d g.1 g.2 λc d g=>B (ft 1 [(.str [])] [(0,1,(.str [110,111,100,101]))] g) λh=>cO a d g h.1 h.2 λd g h=>aR a 172 [b,d] g h (λ_ d g=>aR a 173 [b,(.Z 1)] d g (λd g h=>B (dA [(.Z 0),(.str []),(.Z 0),(.int .u64 0),(.bool false),(.bool false),(.Z 0)] h) λi=>cO a g h i.1 i.2 λg h i=>B (b7 a h 7 g d) λd=>B (aZ 1 g) λh=>B (am a d h) λh=>B (aZ 2 g) λj=>B (am a d j) λj=>B (eA [(.str []),(.Z 0), .aT, .aT, .aT, .aT] [(0,1,h),(1,1,j)]) λh=>B (dA [(.str []),(.Z 0), .aT, .aT, .aT, .aT] i) λj=>cO a d i j.1 j.2 λd i j=>B (b7 a i 6 d h) λh=>B (ft 1 [(.str [])] [(0,1,(.str [40]))] j) λi=>cO a h j i.1 i.2 λh i j=>aR a 172 [b,h] i j (λ_ h i=>aR a 174 [b,(.str [41])] h i (λh i j=>B (cN 0 h) λk=>B (cN 1 h) λh=>B (dA [(.Z 0),(.str []),(.Z 0),(.int .u64 0),(.bool false),(.bool false),(.Z 0)] j) λl=>cO a i j l.1 l.2 λi j l=>B (b7 a j 7 i k) λi=>B (fz .not h) λj=>aQ (λb c d=>aj (b 0) λg=>B (ft 2 [(.str []),(.str [])] [(0,1,(.str [114,101,116,117,114,110,115])),(1,1,(.str [40]))] d) λh=>cO a c d h.1 h.2 λc d h=>aR a 172 [g,c] d h (λ_ c d=>aj (b 0) λg=>aR a 175 [g,(.bool false)] c d (λc d g=>aj (b 4) λh=>B (aZ 3 h) λh=>B (b7 a d 1 h c) λc=>aj (b 0) λd=>B (ft 1 [(.str [])] [(0,1,(.str [41]))] g) λh=>cO a c g h.1 h.2 λc g h=>aR a 172 [d,c] g h (λ_ c d=>aj (b 0) λg=>aR a 174 [g,(.str [118,97,114])] c d (λc d g=>B (cN 0 c) λh=>B (cN 1 c) λc=>B (dA [(.Z 0),(.str []),(.Z 0),(.int .u64 0),(.bool false),(.bool false),(.Z 0)] g) λi=>cO a d g i.1 i.2 λd g i=>B (b7 a g 7 d h) λd=>aQ (λb c d=>aj (b 0) λg=>B (ft 1 [(.str [])] [(0,1,(.str [108,101,116]))] d) λh=>cO a c d h.1 h.2 λc d h=>aR a 172 [g,c] d h (λ_ c d=>aQ (λb c d=>aj (b 2) λb=>B (b6 a c 6 b) λa=>e a c d) λ_=>fj (λb c d g=>aQ b λb=>aj (c 0) λh=>aR a 174 [h,(.str [116,101,108])] d g (λd g h=>B (cN 0 d) λi=>B (cN 1 d) λd=>B (dA [(.Z 0),(.str []),(.Z 0),(.int .u64 0),(.bool false),(.bool false),(.Z 0)] h) λj=>cO a g h j.1 j.2 λg h j=>B (b7 a h 7 g i) λg=>aQ (λc d e=>eZ (e+8) λg=>aj (c 4) λh=>B (aZ 5 h) λh=>B (am a d h) λi=>aj (c 0) λj=>aR a 176 [j] d g (λd f g=>B (ft 1 [.aT, .aT,(.Z 0), .cq] [(0,4,d)] (e+4)) λd=>k4 a f (e+4) d.1 d.2 λd e=>B (am a e h) λf=>gI f (some i) (gO (iQ a e g 4 i d) e g λd e f=>aj (c 4) λg=>B (aZ 5 g) λg=>B (b7 a e 1 g d) λa=>b c a f)) f) λb=>aV d (aj (c 4) λb=>B (b6 a g 6 b) λb=>aj (c 2) λd=>B (b7 a g 6 d b) λb=>aj (c 2) λc=>B (b6 a b 6 c) λa=>e a b j) (b (ab (ab c 10 d) 66 d) g j)) f) b c d) f) λe=>aV c (aj (b 0) λg=>aR a 175 [g,(.bool true)] d i (λd g h=>aj (b 4) λi=>B (aZ 4 i) λi=>B (b7 a g 1 i d) λd=>aj (b 0) λg=>B (ft 1 [(.str [])] [(0,1,(.str [59]))] h) λi=>cO a d h i.1 i.2 λd h i=>aR a 172 [g,d] h i (λ_ a d=>e (ab (ab b 8 c) 51 c) a d) f) f) (e (ab (ab b 8 c) 51 c) d i)) f) f) f) f) λe=>aV j (aR a 175 [b,(.bool false)] i l (λi k l=>B (aZ 2 d) λm=>B (b7 a k 1 m i) λi=>B (ft 1 [(.str [])] [(0,1,(.str [41]))] l) λk=>cO a i l k.1 k.2 λi k l=>aR a 172 [b,i] k l (λ_ a f=>e (ab (ab (ab (ab (ab (cP [b]) 2 c) 3 g) 4 d) 6 h) 30 j) a f) f) f) (e (ab (ab (ab (ab (ab (cP [b]) 2 c) 3 g) 4 d) 6 h) 30 j) i l)) f) f) f) f
def ae8:db X 117 [a0] h j ah aw=TF X a0 h j ah aw:=Zk
def ae7:cS X 117 1=true:=Zk
def Ub(a:aW)(b c:H)(d:S ak)(e:Nat)(f g:bG):Prop:=
 B (dA [(.Z 0),(.str []),(.Z 0),(.int .u64 0),(.bool false),(.bool false),(.Z 0)] e) λh=>cO a d e h.1 h.2 λd e h=>B (dA [(.Z 0),(.str []),(.Z 0),(.int .u64 0),(.bool false),(.bool false),(.Z 0)] h) λi=>cO a e h i.1 i.2 λe h i=>B (d8 c) λj=>aQ (λb c d=>aj (b 5) λe=>B (b6 a c 7 e) λe=>aj (b 4) λg=>B (b7 a c 7 g e) λc=>aj (b 4) λb=>B (b6 a c 7 b) λa=>f a c d) λf=>fj (λb c d e=>aj (c 11) λh=>aj (c 10) λi=>B (aA .lss h i) λh=>aQ (λc d e=>aQ (λa c d=>aj (a 11) λe=>B (aA .add e (.Z 1)) λe=>b (ab a 11 e) c d) λb=>aj (c 9) λf=>aj (c 11) λh=>B (dC 1 f h) λf=>B (am a d f) λf=>aj (c 0) λh=>aR a 174 [h,f] d e (λd e h=>B (cN 0 d) λi=>B (cN 1 d) λd=>aj (c 5) λj=>B (b7 a e 7 j i) λe=>B (fz .not d) λi=>aQ b λb=>aV i (aj (c 0) λj=>aR a 116 [j] e h (λe h j=>aR a 206 [e] h j (λ_ a e=>b (ab (ab (ab (ab c 7 f) 8 (.bool false)) 8 d) 22 i) a e) g) g) (b (ab (ab (ab (ab c 7 f) 8 (.bool false)) 8 d) 22 i) e h)) g) λa=>aV h (a (ab c 12 h) d e) (f (ab c 12 h) d e)) (ab (ab (ab (ab (ab (cP [b,c]) 4 d) 5 e) 9 c) 10 j) 11 (.Z 0)) h i
def aga:db X 172 [a0,bd] h j ah aw=Ub X a0 bd h j ah aw:=Zk
def af9:cS X 172 2=true:=Zk
def Uc(a:aW)(b c:H)(d:S ak)(e:Nat)(f g:bG):Prop:=
 B (dA [(.Z 0),(.str []),(.Z 0),(.int .u64 0),(.bool false),(.bool false),(.Z 0)] e) λh=>cO a d e h.1 h.2 λd e h=>aR a 116 [b] e h (λe h i=>B (dA [(.Z 0),(.str []),(.Z 0),(.int .u64 0),(.bool false),(.bool false),(.Z 0)] i) λj=>cO a h i j.1 j.2 λh i j=>B (b7 a i 7 h e) λe=>B (aZ 0 h) λi=>B (am a e i) λi=>B (aA .neq i c) λi=>aQ (λb c d=>aj (b 0) λe=>B (cf e) λg=>B (aZ 1 g) λg=>B (am a c g) λg=>B (aA .add g (.Z 1)) λg=>B (cf e) λe=>B (aZ 1 e) λe=>B (b7 a c 1 e g) λc=>aj (b 5) λe=>B (b6 a c 7 e) λe=>aj (b 4) λg=>B (b7 a c 7 g e) λc=>aj (b 4) λb=>B (b6 a c 7 b) λa=>f a c d) λf=>aV i (B (b6 a e 7 h) λk=>aR a 206 [k] e j (λ_ a e=>f (ab (ab (ab (cP [b,c]) 4 d) 5 h) 11 i) a e) g) (f (ab (ab (ab (cP [b,c]) 4 d) 5 h) 11 i) e j)) g
def agc:db X 173 [a0,bd] h j ah aw=Uc X a0 bd h j ah aw:=Zk
def agb:cS X 173 2=true:=Zk
def Om(a:aW)(b c:H)(d:S ak)(e:Nat)(f g:bG):Prop:=
 B (dA [(.Z 0),(.str []),(.Z 0),(.int .u64 0),(.bool false),(.bool false),(.Z 0)] e) λh=>cO a d e h.1 h.2 λd e h=>aR a 116 [b] e h (λe g h=>B (dA [(.Z 0),(.str []),(.Z 0),(.int .u64 0),(.bool false),(.bool false),(.Z 0)] h) λi=>cO a g h i.1 i.2 λg h i=>B (b7 a h 7 g e) λe=>B (aZ 0 g) λh=>B (am a e h) λh=>B (aA .neq h (.Z 2)) λh=>cV h (aZ 0 g) e i (λe i j=>cV h (am a i e) i j (λe i j=>cV h (aA .neq e (.Z 6)) i j (λe i j=>cW (λe=>cU e (aZ 1 g) i j (λh i j=>cU e (am a i h) i j (λh i j=>g5 e c i j (λi j k=>cU e (dj a j .neq 9 false h i) j k (λh i j=>cW (λe=>aQ (λb c d=>aj (b 0) λe=>B (cf e) λg=>B (aZ 1 g) λg=>B (am a c g) λg=>B (aA .add g (.Z 1)) λg=>B (cf e) λe=>B (aZ 1 e) λe=>B (b7 a c 1 e g) λc=>aj (b 6) λe=>B (b6 a c 7 e) λe=>aj (b 4) λg=>B (b7 a c 7 g e) λc=>aj (b 4) λb=>B (b6 a c 7 b) λa=>f (.tuple [a,(.bool true)]) c d) λh=>aV e (B (eA [(.Z 0),(.str []),(.Z 0),(.int .u64 0),(.bool false),(.bool false),(.Z 0)] []) λb=>B (b7 a i 7 d b) λb=>B (b6 a b 7 d) λa=>f (.tuple [a,(.bool false)]) b j) (h (ab (ab (ab (ab (cP [b,c]) 4 d) 5 (.bool false)) 6 g) 22 e) i j)) λa=>aV e (a (.bool true)) (a h)))))) λa=>aV h (a e) (a (.bool false)))))) g
def Ue:db X 174 [a0,bd] h j ah aw=Om X a0 bd h j ah aw:=Zk
def Ud:cS X 174 2=true:=Zk
def Uf(a:aW)(b c:H)(d:S ak)(e:Nat)(f g:bG):Prop:=
 aQ (λa b c=>aj (a 4) λa=>f a b c) λ_=>fj (λb c d e=>aQ b λb=>aQ (λc d e=>aj (c 0) λh=>B (ft 1 [(.str [])] [(0,1,(.str [58]))] e) λi=>cO a d e i.1 i.2 λd e i=>aR a 172 [h,d] e i (λ_ d e=>aj (c 0) λh=>aR a 173 [h,(.Z 3)] d e (λd e h=>B (qV true 4 3 d) λd=>B (eA [(.str []),(.Z 0),(.bool false),(.bool false),(.Z 0),(.str []),(.Z 0),(.bool false)] [(2,3,d)]) λd=>B (dA [(.str []),(.Z 0),(.bool false),(.bool false),(.Z 0),(.str []),(.Z 0),(.bool false)] h) λi=>cO a e h i.1 i.2 λe h i=>B (b7 a h 8 e d) λd=>aj (c 0) λh=>aR a 174 [h,(.str [119,104,101,110])] d i (λd h i=>B (cN 0 d) λj=>B (cN 1 d) λd=>B (dA [(.Z 0),(.str []),(.Z 0),(.int .u64 0),(.bool false),(.bool false),(.Z 0)] i) λk=>cO a h i k.1 k.2 λh i k=>B (b7 a i 7 h j) λh=>aQ (λc d e=>aj (c 6) λh=>B (d8 h) λi=>aQ (λc d e=>eZ (e+22) λe=>aj (c 0) λh=>aR a 116 [h] d e (λd e g=>B (qV false 1 1 d) λd=>B (dj a e .neq 9 true d (.str [59])) λd=>Jd d (c 1) e (λe h=>MQ d e h (λe h=>uX e (c 0) h (λh i=>gs e (cf h) i (λh i=>gs e (aZ 0 h) i (λh i=>gs e (am a i h) i (λh i=>uX e (c 0) i (λi j=>gs e (cf i) j (λi j=>gs e (aZ 1 i) j (λi j=>gs e (am a j i) j (λi j=>gs e (aA .add i (.Z 1)) j (λi j=>gs e (dC 7 h i) j (λh i=>gs e (aZ 1 h) i (λh i=>gs e (am a i h) i (λh i=>gs e (dj a i .eql 9 true h (.str [108,101,116])) i (λh i=>MP d (λa=>cW (λb=>a b i) λa=>aV e (a h) (a (.bool false))) i (λe h=>cW (λd=>aQ (λc d e=>aj (c 0) λf=>B (cf f) λg=>B (aZ 1 g) λg=>B (am a d g) λg=>B (aA .add g (.Z 1)) λg=>B (cf f) λf=>B (aZ 1 f) λf=>B (b7 a d 1 f g) λa=>b c a e) λa=>aV d (aj (c 5) λa=>f a h g) (a (ab c 90 d) h g)) λa=>aV d (a (.bool true)) (a e)))))))))))))))))) g) λb=>fj (λc d e f=>aj (d 54) λg=>aj (d 53) λh=>B (aA .lss g h) λg=>aQ (λb d e=>aQ (λa b d=>aj (a 54) λe=>B (aA .add e (.Z 1)) λe=>c (ab a 54 e) b d) λc=>aj (b 52) λf=>aj (b 54) λg=>B (dC 7 f g) λf=>B (b6 a d 7 f) λf=>B (dA [(.Z 0),(.str []),(.Z 0),(.int .u64 0),(.bool false),(.bool false),(.Z 0)] e) λg=>cO a d e g.1 g.2 λd e g=>B (b7 a e 7 d f) λe=>eZ (g+8) λf=>B (aZ 1 d) λg=>B (am a e g) λg=>B (aZ 2 d) λh=>B (am a e h) λi=>aj (b 8) λj=>B (aZ 0 j) λj=>B (b7 a e 1 j g) λe=>aj (b 8) λg=>B (aZ 1 g) λg=>B (am a e h) λh=>gI h (some i) (B (b7 a e 1 g i) λe=>aj (b 5) λg=>aj (b 8) λh=>B (b6 a e 8 h) λh=>B (ft 1 [(.str []),(.Z 0),(.bool false),(.bool false),(.Z 0),(.str []),(.Z 0),(.bool false)] [(0,8,h)] f) λh=>cO a e f h.1 h.2 λe f h=>gO (iQ a f h 8 g e) f h λa e f=>c (ab (ab b 13 d) 5 a) e f)) λa=>aV g (a (ab d 55 g) e f) (b (ab d 55 g) e f)) (ab (ab (ab c 52 h) 53 i) 54 (.Z 0)) d e) λb=>aV d (aj (c 0) λf=>aR a 174 [f,(.str [110,111,116])] h k (λf h i=>B (cN 0 f) λ_=>B (cN 1 f) λf=>B (aZ 7 e) λj=>B (b7 a h 1 j f) λf=>aj (c 0) λh=>aR a 173 [h,(.Z 1)] f i (λf g h=>B (dA [(.Z 0),(.str []),(.Z 0),(.int .u64 0),(.bool false),(.bool false),(.Z 0)] h) λi=>cO a g h i.1 i.2 λg h i=>B (b7 a h 7 g f) λf=>eZ (i+8) λh=>B (aZ 1 g) λi=>B (am a f i) λi=>B (aZ 2 g) λj=>B (am a f j) λk=>B (aZ 5 e) λl=>B (b7 a f 1 l i) λf=>B (aZ 6 e) λi=>B (am a f j) λj=>gI j (some k) (B (b7 a f 1 i k) λa=>b (ab (ab (ab (ab c 8 e) 10 d) 37 d) 11 g) a h)) g) g) (b (ab (ab (ab c 8 e) 10 d) 37 d) h k)) g) g) g) λb=>fj (λc d e f=>aj (d 7) λh=>aQ (λb d e=>aQ (λb d e=>aj (b 0) λf=>aR a 174 [f,(.str [44])] d e (λa d e=>B (cN 0 a) λ_=>B (cN 1 a) λa=>c (ab b 7 a) d e) g) λc=>aj (b 6) λf=>aj (b 0) λh=>aR a 173 [h,(.Z 1)] d e (λd e g=>B (ft 1 [(.Z 0),(.str []),(.Z 0),(.int .u64 0),(.bool false),(.bool false),(.Z 0)] [(0,7,d)] g) λd=>cO a e g d.1 d.2 λd e g=>gO (iQ a e g 7 f d) e g λa d e=>c (ab b 6 a) d e) g) λa=>aV h (a (ab d 14 h) e f) (b (ab d 14 h) e f)) (ab (ab c 6 .aT) 7 (.bool true)) d e) (ab (ab (cP [b,c]) 4 .aT) 5 .aT) d e
def age:db X 175 [a0,bd] h j ah aw=Uf X a0 bd h j ah aw:=Zk
def agd:cS X 175 2=true:=Zk
def Ug(a:aW)(b:H)(c:S ak)(d:Nat)(e f:bG):Prop:=
 ia a c d b λc d g=>B (dA [.aT, .aT,(.Z 0), .cq] g) λh=>cO a d g h.1 h.2 λd g h=>B (dA [.aT, .aT,(.Z 0), .cq] h) λi=>cO a g h i.1 i.2 λg h i=>B (am a h c) λj=>aR a 174 [j,(.str [40])] h i (λh i j=>B (cN 0 h) λk=>B (cN 1 h) λh=>B (dA [(.Z 0),(.str []),(.Z 0),(.int .u64 0),(.bool false),(.bool false),(.Z 0)] j) λl=>cO a i j l.1 l.2 λi j l=>B (b7 a j 7 i k) λi=>aQ (λb c d=>aj (b 1) λg=>B (am a c g) λg=>B (ft 1 [(.str [])] [(0,1,(.str [61]))] d) λh=>cO a c d h.1 h.2 λc d h=>aR a 172 [g,c] d h (λc d g=>B (qV false 2 1 c) λc=>aj (b 3) λh=>B (aZ 2 h) λh=>B (b7 a d 1 h c) λc=>aj (b 1) λd=>B (am a c d) λd=>aR a 208 [d] c g (λc d g=>aj (b 3) λh=>B (aZ 3 h) λh=>B (b7 a d 1 h c) λc=>aj (b 1) λd=>B (am a c d) λd=>B (ft 1 [(.str [])] [(0,1,(.str [59]))] g) λh=>cO a c g h.1 h.2 λc g h=>aR a 172 [d,c] g h (λ_ c d=>aj (b 3) λf=>B (b6 a c 4 f) λf=>aj (b 2) λg=>B (b7 a c 4 g f) λc=>aj (b 2) λb=>B (b6 a c 4 b) λa=>e a c d) f) f) f) λe=>aV h (ih a (.func (.func 207) [] [c,g]) [] i l (λ_ i j=>B (am a i c) λk=>B (ft 1 [(.str [])] [(0,1,(.str [44]))] j) λl=>cO a i j l.1 l.2 λi j l=>aR a 172 [k,i] j l (λ_ i j=>aQ (λb c d=>aj (b 1) λg=>B (am a c g) λg=>B (ft 1 [(.str [])] [(0,1,(.str [41]))] d) λh=>cO a c d h.1 h.2 λc d h=>aR a 172 [g,c] d h (λ_ a c=>e b a c) f) λe=>fj (λb c d g=>aj (c 7) λh=>aQ (λc d e=>aQ (λc d e=>aj (c 1) λg=>B (am a d g) λg=>aR a 174 [g,(.str [44])] d e (λa d e=>B (cN 0 a) λ_=>B (cN 1 a) λa=>b (ab c 7 a) d e) f) λb=>aj (c 4) λg=>ih a g [] d e (λ_ a d=>b c a d) f) λa=>aV h (a (ab c 20 h) d g) (e (ab c 20 h) d g)) (ab (ab (ab (ab (ab (ab (ab (cP [b]) 1 c) 2 d) 3 g) 4 (.func (.func 207) [] [c,g])) 6 h) 14 h) 7 (.bool true)) i j) f) f) (ih a (.func (.func 207) [] [c,g]) [] i l (λ_ a f=>e (ab (ab (ab (ab (ab (ab (cP [b]) 1 c) 2 d) 3 g) 4 (.func (.func 207) [] [c,g])) 6 h) 14 h) a f) f)) f
def agh:db X 176 [a0] h j ah aw=Ug X a0 h j ah aw:=Zk
def agf:cS X 176 1=true:=Zk
def UF(a:aW)(b:H)(c:S ak)(d:Nat)(_ e:bG):Prop:=
 ia a c d b λb c d=>B (aZ 2 b) λb=>B (am a c b) λa=>B (eA [(.Z 0),(.Z 0)] [(0,1,(.Z 21)),(1,1,a)]) λa=>B (some (H.iface 26 a)) λa=>vp e a c d
def agZ:db X 206 [a0] h j ah aw=UF X a0 h j ah aw:=Zk
def agY:cS X 206 1=true:=Zk
def UG(a:aW)(b c:H)(d:S ak)(e:Nat)(f g:bG):Prop:=
 B (am a d b) λb=>aR a 173 [b,(.Z 1)] d e (λb d e=>B (dA [(.Z 0),(.str []),(.Z 0),(.int .u64 0),(.bool false),(.bool false),(.Z 0)] e) λg=>cO a d e g.1 g.2 λd e g=>B (b7 a e 7 d b) λb=>eZ (g+16) λe=>B (aZ 0 c) λh=>B (am a b h) λh=>B (aZ 1 d) λi=>B (am a b i) λi=>B (ft 1 [(.str [])] [(0,1,i)] (g+4)) λi=>k4 a b (g+4) i.1 i.2 λb i=>B (aZ 1 c) λj=>B (am a i j) λk=>B (aZ 2 d) λd=>B (am a i d) λl=>B (ft 1 [(.Z 0)] [(0,1,l)] (g+10)) λm=>k4 a i (g+10) m.1 m.2 λg i=>gO (iQ a i e 1 h b) i e λb e h=>B (aZ 0 c) λi=>B (am a e j) λj=>gI j (some k) (B (am a e d) λd=>gI d (some l) (gO (iQ a e h 1 k g) e h λd e g=>B (b7 a e 1 i b) λb=>B (aZ 1 c) λc=>B (b7 a b 1 c d) λa=>f (.tuple []) a g))) g
def ag1:db X 207 [a0,bd] h j ah aw=UG X a0 bd h j ah aw:=Zk
def ag0:cS X 207 2=true:=Zk
def UH(a:aW)(b:H)(c:S ak)(d:Nat)(e f:bG):Prop:=
 aR a 232 [b] c d (λc d g=>aR a 174 [b,(.str [45,62])] d g (λd g h=>B (cN 0 d) λi=>B (cN 1 d) λd=>B (dA [(.Z 0),(.str []),(.Z 0),(.int .u64 0),(.bool false),(.bool false),(.Z 0)] h) λj=>cO a g h j.1 j.2 λg h j=>B (b7 a h 7 g i) λh=>B (fz .not d) λi=>aQ (λb c d=>eZ (d+9) λg=>aj (b 4) λh=>B (aZ 2 h) λh=>B (am a c h) λi=>aj (b 3) λj=>aj (b 0) λb=>aR a 208 [b] c g (λb c f=>B (ft 2 [.cq, .cq] [(0,1,j),(1,1,b)] (d+5)) λb=>k4 a c (d+5) b.1 b.2 λb c=>B (eA [(.Z 0),(.Z 0),(.str []),(.bool false),(.bool false),(.bool false),(.Z 0),(.int .u64 0), .aT] [(0,1,(.Z 22)),(1,1,i),(8,1,b)]) λb=>xL a c (d+7) b λb c=>B (am a c h) λa=>gI a (some i) (e b c f)) f) λa=>aV i (e c h j) (a (ab (ab (ab (ab (ab (cP [b]) 2 .cq) 3 c) 4 g) 5 d) 14 i) h j)) f) f
def ag3:db X 208 [a0] h j ah aw=UH X a0 h j ah aw:=Zk
def ag2:cS X 208 1=true:=Zk
def UV(a:aW)(b:H)(c:S ak)(d:Nat)(e f:bG):Prop:=
 aR a 243 [b,(.Z 0)] c d (λc d g=>aR a 174 [b,(.str [102,98,121])] d g (λd g h=>B (cN 0 d) λi=>B (cN 1 d) λd=>B (dA [(.Z 0),(.str []),(.Z 0),(.int .u64 0),(.bool false),(.bool false),(.Z 0)] h) λj=>cO a g h j.1 j.2 λg h j=>B (b7 a h 7 g i) λh=>B (fz .not d) λi=>aQ (λb c d=>aj (b 3) λg=>B (cf g) λg=>B (aZ 0 g) λg=>B (am a c g) λg=>B (aA .neq g (.Z 1)) λg=>lQ g (b 3) c d (λc d h=>cV g (cf c) d h (λc d h=>cV g (aZ 0 c) d h (λc d h=>cV g (am a d c) d h (λc d h=>cV g (aA .neq c (.Z 4)) d h (λc d h=>iM g c d h (λc d h=>sk c (b 3) d h (λd h i=>cU c (cf d) h i (λd h i=>cU c (aZ 8 d) h i (λd h i=>cU c (am a h d) h i (λd h i=>cU c (dC 1 d (.Z 0)) h i (λd h i=>cU c (am a h d) h i (λd h i=>cU c (cf d) h i (λd h i=>cU c (aZ 0 d) h i (λd h i=>cU c (am a h d) h i (λd h i=>cU c (aA .neq d (.Z 1)) h i (λd h i=>j9 g (λa=>cW (λb=>a b h i) λa=>aV c (a (.bool true)) (a d)) h i (λc d h=>cW (λc=>aQ (λb c d=>eZ (d+9) λg=>aj (b 4) λh=>B (aZ 2 h) λh=>B (am a c h) λi=>aj (b 3) λj=>aj (b 0) λb=>aR a 232 [b] c g (λb c f=>B (ft 2 [.cq, .cq] [(0,1,j),(1,1,b)] (d+5)) λb=>k4 a c (d+5) b.1 b.2 λb c=>B (eA [(.Z 0),(.Z 0),(.str []),(.bool false),(.bool false),(.bool false),(.Z 0),(.int .u64 0), .aT] [(0,1,(.Z 21)),(1,1,i),(8,1,b)]) λb=>xL a c (d+7) b λb c=>B (am a c h) λa=>gI a (some i) (e b c f)) f) λe=>aV c (aj (b 4) λg=>B (b6 a d 7 g) λg=>aR a 206 [g] d h (λ_ a d=>e (ab b 39 c) a d) f) (e (ab b 39 c) d h)) λa=>aV g (a c) (a (.bool false)))))))))))))))))))) λa=>aV i (e c h j) (a (ab (ab (ab (ab (ab (cP [b]) 2 .cq) 3 c) 4 g) 5 d) 14 i) h j)) f) f
def ahx:db X 232 [a0] h j ah aw=UV X a0 h j ah aw:=Zk
def ahw:cS X 232 1=true:=Zk
def U1(a:aW)(b c:H)(d:S ak)(e:Nat)(f g:bG):Prop:=
 B (aA .eql c (.Z 5)) λh=>aQ (λb c d=>aj (b 0) λe=>aj (b 1) λh=>B (aA .add h (.Z 1)) λh=>aR a 243 [e,h] c d (λc d e=>aQ (λa b c=>aj (a 4) λa=>f a b c) λ_=>fj (λb c d e=>aQ b λb=>aj (c 0) λh=>aj (c 1) λi=>aR a 252 [h,i] d e (λd e h=>B (cN 0 d) λi=>B (cN 1 d) λd=>B (fz .not d) λj=>aQ (λc d e=>aj (c 6) λh=>aj (c 5) λi=>aj (c 0) λj=>aj (c 1) λk=>B (aA .add k (.Z 1)) λk=>aR a 243 [j,k] d e (λd e g=>B (ft 2 [.cq, .cq] [(0,1,i),(1,1,d)] g) λd=>cO a e g d.1 d.2 λd e g=>B (cf h) λh=>B (aZ 8 h) λh=>B (b7 a e 1 h d) λa=>aj (c 6) λd=>aj (c 1) λe=>B (aA .eql e (.Z 2)) λe=>aQ b λb=>aV e (f d a g) (b (ab (ab c 5 d) 36 e) a g)) g) λa=>aV j (aj (c 5) λa=>f a e h) (a (ab (ab (ab c 6 i) 7 d) 23 j) e h)) g) (ab b 5 c) d e) g) λi=>aV h (aR a 251 [b] d e f g) (i (ab (ab (cP [b,c]) 4 .cq) 9 h) d e)
def ahJ:db X 243 [a0,bd] h j ah aw=U1 X a0 bd h j ah aw:=Zk
def ahI:cS X 243 2=true:=Zk
def U3(a:aW)(b:H)(c:S ak)(d:Nat)(e f:bG):Prop:=
 aR a 258 [b] c d (λc d g=>aQ (λa b c=>aj (a 2) λa=>e a b c) λ_=>fj (λb c d g=>aQ b λb=>aj (c 0) λh=>aR a 174 [h,(.str [60,60])] d g (λd g h=>B (cN 0 d) λi=>B (cN 1 d) λd=>B (dA [(.Z 0),(.str []),(.Z 0),(.int .u64 0),(.bool false),(.bool false),(.Z 0)] h) λj=>cO a g h j.1 j.2 λg h j=>B (b7 a h 7 g i) λh=>B (fz .not d) λi=>aQ (λc d g=>aj (c 6) λh=>B (fz .not h) λh=>aQ (λc d e=>aj (c 0) λg=>aR a 173 [g,(.Z 4)] d e (λd e g=>B (dA [(.Z 0),(.str []),(.Z 0),(.int .u64 0),(.bool false),(.bool false),(.Z 0)] g) λh=>cO a e g h.1 h.2 λe g h=>B (b7 a g 7 e d) λd=>B (aZ 3 e) λg=>B (am a d g) λg=>B (aA .gtr g (.int .u64 63)) λg=>aQ (λc d e=>aj (c 4) λf=>aj (c 5) λg=>B (aZ 2 g) λg=>B (am a d g) λg=>aj (c 7) λh=>B (aZ 3 h) λh=>B (am a d h) λh=>aj (c 3) λi=>B (ft 1 [.cq] [(0,1,i)] e) λi=>cO a d e i.1 i.2 λd e i=>B (eA [(.Z 0),(.Z 0),(.str []),(.bool false),(.bool false),(.bool false),(.Z 0),(.int .u64 0), .aT] [(0,1,f),(1,1,g),(7,1,h),(8,1,d)]) λd=>ia a e i d λa d e=>b (ab c 3 a) d e) λb=>aV g (B (b6 a d 7 e) λi=>aR a 206 [i] d h (λ_ a d=>b (ab (ab c 7 e) 29 g) a d) f) (b (ab (ab c 7 e) 29 g) d h)) f) λa=>aV h (aj (c 3) λa=>e a d g) (a (ab c 23 h) d g)) λb=>aV i (aj (c 0) λe=>aR a 174 [e,(.str [62,62])] h j (λe f h=>B (cN 0 e) λj=>B (cN 1 e) λe=>B (b7 a f 7 g j) λa=>b (ab (ab (ab (ab (ab (ab c 4 (.Z 19)) 5 g) 6 d) 16 i) 4 (.Z 20)) 6 e) a h) f) (b (ab (ab (ab (ab c 4 (.Z 19)) 5 g) 6 d) 16 i) h j)) f) (ab (ab (cP [b]) 2 .cq) 3 c) d g) f
def ahN:db X 251 [a0] h j ah aw=U3 X a0 h j ah aw:=Zk
def ahM:cS X 251 1=true:=Zk
def U4(a:aW)(b c:H)(d:S ak)(e:Nat)(f g:bG):Prop:=
 B (FT 5 1 (.ptr 9 0) c) λh=>B (am a d h) λh=>B (d8 h) λi=>aQ (λ_ a b=>f (.tuple [.cq,(.bool false)]) a b) λj=>fj (λb c d e=>aj (c 14) λh=>aj (c 13) λi=>B (aA .lss h i) λh=>aQ (λc d e=>aQ (λa c d=>aj (a 14) λe=>B (aA .add e (.Z 1)) λe=>b (ab a 14 e) c d) λb=>aj (c 12) λh=>aj (c 14) λi=>B (dC 2 h i) λh=>B (b6 a d 2 h) λh=>B (dA [(.str []),(.Z 0)] e) λi=>cO a d e i.1 i.2 λd e i=>B (b7 a e 2 d h) λe=>aj (c 0) λh=>B (aZ 0 d) λj=>B (am a e j) λj=>aR a 174 [h,j] e i (λe g h=>B (cN 0 e) λi=>B (cN 1 e) λe=>B (dA [(.Z 0),(.str []),(.Z 0),(.int .u64 0),(.bool false),(.bool false),(.Z 0)] h) λj=>cO a g h j.1 j.2 λg h j=>B (b7 a h 7 g i) λh=>aQ b λb=>aV e (B (aZ 1 d) λb=>B (am a h b) λb=>B (aZ 2 g) λc=>B (am a h c) λc=>B (eA [(.Z 0),(.Z 0),(.str []),(.bool false),(.bool false),(.bool false),(.Z 0),(.int .u64 0), .aT] [(0,1,b),(1,1,c)]) λb=>ia a h j b λa b c=>f (.tuple [a,(.bool true)]) b c) (b (ab (ab (ab (ab c 7 d) 8 g) 9 e) 25 e) h j)) g) λa=>aV h (a (ab c 15 h) d e) (j (ab c 15 h) d e)) (ab (ab (ab (ab (ab (cP [b,c]) 4 .cq) 5 (.bool false)) 12 h) 13 i) 14 (.Z 0)) d e
def ahP:db X 252 [a0,bd] h j ah aw=U4 X a0 bd h j ah aw:=Zk
def ahO:cS X 252 2=true:=Zk
def U5(a:aW)(b:H)(c:S ak)(d:Nat)(e f:bG):Prop:=
 B (eA [(.str []),(.Z 0)] [(0,1,(.str [110,111,116])),(1,1,(.Z 3))]) λg=>B (eA [(.str []),(.Z 0)] [(0,1,(.str [45])),(1,1,(.Z 4))]) λh=>B (eA [(.str []),(.Z 0)] [(0,1,(.str [112,114,101])),(1,1,(.Z 5))]) λi=>B (eA [(.str []),(.Z 0),(.str []),(.Z 0),(.str []),(.Z 0)] [(0,2,g),(2,2,h),(4,2,i)]) λg=>aQ (λb c d=>aj (b 0) λg=>aR a 261 [g] c d (λc d g=>aQ (λa b c=>aj (a 2) λa=>e a b c) λ_=>fj (λb c d g=>aQ b λb=>aj (c 0) λh=>aR a 174 [h,(.str [119,104,101,110])] d g (λd g h=>B (cN 0 d) λi=>B (cN 1 d) λd=>B (dA [(.Z 0),(.str []),(.Z 0),(.int .u64 0),(.bool false),(.bool false),(.Z 0)] h) λj=>cO a g h j.1 j.2 λg h j=>B (b7 a h 7 g i) λh=>B (fz .not d) λi=>aQ (λc d e=>aj (c 0) λg=>aR a 174 [g,(.str [110,111,116])] d e (λd e g=>B (cN 0 d) λh=>B (cN 1 d) λd=>B (dA [(.Z 0),(.str []),(.Z 0),(.int .u64 0),(.bool false),(.bool false),(.Z 0)] g) λi=>cO a e g i.1 i.2 λe g i=>B (b7 a g 7 e h) λe=>eZ (i+11) λg=>aj (c 8) λh=>B (aZ 2 h) λh=>B (am a e h) λj=>aj (c 0) λk=>aj (c 7) λl=>B (ft 1 [.cq] [(0,1,l)] (i+7)) λl=>k4 a e (i+7) l.1 l.2 λe l=>aR a 173 [k,(.Z 1)] l g (λf g k=>B (qV false 1 1 f) λf=>B (eA [(.Z 0),(.Z 0),(.str []),(.bool false),(.bool false),(.bool false),(.Z 0),(.int .u64 0), .aT] [(0,1,(.Z 6)),(1,1,j),(2,1,f),(3,1,d),(8,1,e)]) λe=>xL a g (i+9) e λe f=>B (am a f h) λa=>gI a (some j) (b (ab (ab c 11 d) 7 e) f k)) f) f) λa=>aV i (aj (c 7) λa=>e a h j) (a (ab (ab (ab c 8 g) 9 d) 45 i) h j)) f) (ab b 7 c) d g) f) λh=>fj (λb c d g=>aj (c 16) λi=>B (aA .lss i (.Z 3)) λi=>aQ (λc d g=>aQ (λa c d=>aj (a 16) λe=>B (aA .add e (.Z 1)) λe=>b (ab a 16 e) c d) λb=>aj (c 15) λh=>aj (c 16) λi=>B (tt true 3 2 h i) λh=>B (dA [(.str []),(.Z 0)] g) λi=>cO a d g i.1 i.2 λd g i=>B (b7 a g 2 d h) λg=>aj (c 0) λh=>B (aZ 0 d) λj=>B (am a g j) λj=>aR a 174 [h,j] g i (λg h i=>B (cN 0 g) λj=>B (cN 1 g) λg=>B (dA [(.Z 0),(.str []),(.Z 0),(.int .u64 0),(.bool false),(.bool false),(.Z 0)] i) λk=>cO a h i k.1 k.2 λh i k=>B (b7 a i 7 h j) λi=>aQ b λb=>aV g (eZ (k+10) λb=>B (aZ 1 d) λd=>B (am a i d) λg=>B (aZ 2 h) λh=>B (am a i h) λj=>aj (c 0) λc=>aR a 258 [c] i b (λb c f=>B (ft 1 [.cq] [(0,1,b)] (k+6)) λb=>k4 a c (k+6) b.1 b.2 λb c=>B (eA [(.Z 0),(.Z 0),(.str []),(.bool false),(.bool false),(.bool false),(.Z 0),(.int .u64 0), .aT] [(0,1,g),(1,1,j),(8,1,b)]) λb=>xL a c (k+8) b λb c=>B (am a c d) λd=>gI d (some g) (B (am a c h) λa=>gI a (some j) (e b c f))) f) (b (ab (ab (ab (ab c 4 d) 5 h) 6 g) 26 g) i k)) f) λa=>aV i (a (ab c 17 i) d g) (h (ab c 17 i) d g)) (ab (ab (ab (cP [b]) 2 .cq) 15 g) 16 (.Z 0)) c d
def ahR:db X 258 [a0] h j ah aw=U5 X a0 h j ah aw:=Zk
def ahQ:cS X 258 1=true:=Zk
def xE(a:aW)(b:H)(c:S ak)(d:Nat)(e f:bG):Prop:=
 aR a 116 [b] c d (λc d g=>B (dA [(.Z 0),(.str []),(.Z 0),(.int .u64 0),(.bool false),(.bool false),(.Z 0)] g) λh=>cO a d g h.1 h.2 λd g h=>B (b7 a g 7 d c) λc=>B (aZ 2 d) λg=>B (am a c g) λg=>B (eA [(.Z 0),(.Z 0),(.str []),(.bool false),(.bool false),(.bool false),(.Z 0),(.int .u64 0), .aT] [(1,1,g)]) λg=>ia a c h g λc g h=>B (cf b) λi=>B (aZ 1 i) λi=>B (am a g i) λi=>B (aA .add i (.Z 1)) λi=>B (cf b) λj=>B (aZ 1 j) λj=>B (b7 a g 1 j i) λg=>aQ (λa b c=>aj (a 4) λa=>e a b c) λe=>B (aZ 0 d) λi=>B (am a g i) λi=>B (aA .eql i (.Z 5)) λi=>aQ e λe=>aV i (eZ (h+16) λf=>B (aZ 4 d) λh=>B (b6 a g 3 h) λj=>B (aZ 3 d) λk=>B (am a g k) λl=>B (cf c) λm=>B (aZ 0 m) λm=>B (b7 a g 1 m (.Z 1)) λg=>B (cf c) λm=>B (aZ 4 m) λm=>B (b6 a g 3 h) λh=>gI h (some j) (B (am a g k) λh=>gI h (some l) (B (b7 a g 3 m j) λg=>B (cf c) λh=>B (aZ 7 h) λh=>B (am a g k) λj=>gI j (some l) (B (b7 a g 1 h l) λa=>e (ab (ab (ab (ab (cP [b]) 2 .cq) 3 d) 4 c) 29 i) a f)))) (B (aZ 0 d) λj=>B (am a g j) λj=>B (aA .eql j (.Z 2)) λj=>cV j (aZ 1 d) g h (λg h k=>cV j (am a h g) h k (λg h k=>cV j (dj a h .eql 9 true g (.str [116,114,117,101])) h k (λg h k=>iM j g h k (λg h k=>cU g (aZ 1 d) h k (λh k l=>cU g (am a k h) k l (λh k l=>cU g (dj a k .eql 9 true h (.str [102,97,108,115,101])) k l (λh k l=>j9 j (λa=>cW (λb=>a b k l) λa=>aV g (a (.bool true)) (a h)) k l (λg h k=>cW (λg=>aQ e λe=>aV g (B (eA [(.bool false),(.bool false),(.Z 0)] [(0,1,(.bool true)),(2,1,(.Z 1))]) λf=>B (cf c) λj=>B (aZ 0 j) λj=>B (b7 a h 1 j (.Z 1)) λh=>B (cf c) λj=>B (aZ 4 j) λj=>B (b7 a h 3 j f) λf=>B (aZ 1 d) λh=>B (am a f h) λh=>B (dj a f .eql 9 true h (.str [116,114,117,101])) λh=>aQ e λe=>aV h (B (cf c) λj=>B (aZ 7 j) λj=>B (b7 a f 1 j (.int .u64 1)) λa=>e (ab (ab (ab (ab (ab (ab (cP [b]) 2 .cq) 3 d) 4 c) 29 i) 46 g) 69 h) a k) (e (ab (ab (ab (ab (ab (ab (cP [b]) 2 .cq) 3 d) 4 c) 29 i) 46 g) 69 h) f k)) (B (aZ 0 d) λj=>B (am a h j) λj=>B (aA .eql j (.Z 1)) λj=>aQ e λe=>aV j (eZ (k+10) λk=>B (aZ 1 d) λl=>B (am a h l) λm=>B (cf c) λn=>B (aZ 0 n) λn=>B (b7 a h 1 n (.Z 2)) λh=>B (cf c) λn=>B (aZ 2 n) λn=>B (am a h l) λl=>gI l (some m) (B (b7 a h 1 n m) λh=>aR a 174 [b,(.str [40])] h k (λh k l=>B (cN 0 h) λm=>B (cN 1 h) λh=>B (dA [(.Z 0),(.str []),(.Z 0),(.int .u64 0),(.bool false),(.bool false),(.Z 0)] l) λn=>cO a k l n.1 n.2 λk l n=>B (b7 a l 7 k m) λk=>aQ e λe=>aV h (aR a 262 [b] k n (λf k l=>B (cf c) λm=>B (aZ 0 m) λm=>B (b7 a k 1 m (.Z 25)) λk=>B (cf c) λm=>B (aZ 8 m) λm=>B (b7 a k 1 m f) λa=>e (ab (ab (ab (ab (ab (ab (ab (ab (cP [b]) 2 .cq) 3 d) 4 c) 29 i) 46 g) 73 j) 6 h) 90 h) a l) f) (e (ab (ab (ab (ab (ab (ab (ab (ab (cP [b]) 2 .cq) 3 d) 4 c) 29 i) 46 g) 73 j) 6 h) 90 h) k n)) f)) (B (aZ 0 d) λl=>B (am a h l) λl=>B (aA .eql l (.Z 3)) λl=>aQ e λe=>aV l (eZ (k+10) λk=>B (aZ 4 d) λm=>B (b6 a h 3 m) λn=>B (cf c) λo=>B (aZ 0 o) λo=>B (b7 a h 1 o (.Z 26)) λh=>B (cf c) λo=>B (aZ 4 o) λo=>B (b6 a h 3 m) λm=>gI m (some n) (B (b7 a h 3 o n) λh=>B (ft 1 [(.str [])] [(0,1,(.str [40]))] k) λm=>cO a h k m.1 m.2 λh k m=>aR a 172 [b,h] k m (λ_ h k=>aR a 208 [b] h k (λh k m=>B (ft 1 [.cq] [(0,1,h)] m) λh=>cO a k m h.1 h.2 λh k m=>B (cf c) λn=>B (aZ 8 n) λn=>B (b7 a k 1 n h) λh=>B (ft 1 [(.str [])] [(0,1,(.str [41]))] m) λk=>cO a h m k.1 k.2 λh k m=>aR a 172 [b,h] k m (λ_ a f=>e (ab (ab (ab (ab (ab (ab (ab (cP [b]) 2 .cq) 3 d) 4 c) 29 i) 46 g) 73 j) 99 l) a f) f) f) f)) (B (aZ 0 d) λm=>B (am a h m) λm=>B (aA .eql m (.Z 6)) λm=>cV m (aZ 1 d) h k (λh k n=>cV m (am a k h) k n (λh k n=>cV m (dj a k .eql 9 true h (.str [40])) k n (λh k n=>cW (λh=>aQ e λe=>aV h (aR a 208 [b] k n (λk m n=>B (ft 1 [(.str [])] [(0,1,(.str [41]))] n) λo=>cO a m n o.1 o.2 λm n o=>aR a 172 [b,m] n o (λ_ a f=>e (ab (ab (ab (ab (ab (ab (ab (ab (ab (cP [b]) 2 .cq) 3 d) 4 c) 29 i) 46 g) 73 j) 99 l) 123 h) 4 k) a f) f) f) (B (aZ 0 d) λm=>B (am a k m) λm=>B (aA .eql m (.Z 2)) λm=>cV m (aZ 1 d) k n (λk n o=>cV m (am a n k) n o (λk n o=>cV m (dj a n .eql 9 true k (.str [105,102])) n o (λk n o=>cW (λk=>aQ e λe=>aV k (B (cf c) λm=>B (aZ 0 m) λm=>B (b7 a n 1 m (.Z 23)) λm=>eZ (o+12) λn=>B (cf c) λp=>B (aZ 8 p) λp=>B (am a m p) λq=>aR a 208 [b] m n (λm n r=>B (ft 1 [.cq] [(0,1,m)] (o+7)) λm=>k4 a n (o+7) m.1 m.2 λm n=>B (am a n p) λo=>gI o (some q) (gO (iQ a n r 1 q m) n r λm n o=>B (cf c) λp=>B (aZ 8 p) λp=>B (b7 a n 1 p m) λm=>B (ft 1 [(.str [])] [(0,1,(.str [116,104,101,110]))] o) λn=>cO a m o n.1 n.2 λm n o=>aR a 172 [b,m] n o (λ_ m n=>eZ (n+12) λo=>B (cf c) λp=>B (aZ 8 p) λp=>B (am a m p) λq=>aR a 208 [b] m o (λm o r=>B (ft 1 [.cq] [(0,1,m)] (n+7)) λm=>k4 a o (n+7) m.1 m.2 λm n=>B (am a n p) λo=>gI o (some q) (gO (iQ a n r 1 q m) n r λm n o=>B (cf c) λp=>B (aZ 8 p) λp=>B (b7 a n 1 p m) λm=>B (ft 1 [(.str [])] [(0,1,(.str [101,108,115,101]))] o) λn=>cO a m o n.1 n.2 λm n o=>aR a 172 [b,m] n o (λ_ m n=>eZ (n+12) λo=>B (cf c) λp=>B (aZ 8 p) λp=>B (am a m p) λq=>aR a 208 [b] m o (λf m o=>B (ft 1 [.cq] [(0,1,f)] (n+7)) λf=>k4 a m (n+7) f.1 f.2 λf m=>B (am a m p) λn=>gI n (some q) (gO (iQ a m o 1 q f) m o λf m n=>B (cf c) λo=>B (aZ 8 o) λo=>B (b7 a m 1 o f) λa=>e (ab (ab (ab (ab (ab (ab (ab (ab (ab (cP [b]) 2 .cq) 3 d) 4 c) 29 i) 46 g) 73 j) 99 l) 123 h) 137 k) a n)) f) f)) f) f)) f) (B (aZ 0 d) λm=>B (am a n m) λm=>B (aA .eql m (.Z 2)) λm=>cV m (aZ 1 d) n o (λn o p=>cV m (am a o n) o p (λn o p=>cV m (dj a o .eql 9 true n (.str [109,101,114,103,101])) o p (λn o p=>cW (λm=>aQ e λe=>aV m (aR a 173 [b,(.Z 1)] o p (λn o p=>B (qV false 1 1 n) λn=>B (cf c) λq=>B (aZ 0 q) λq=>B (b7 a o 1 q (.Z 24)) λo=>B (cf c) λq=>B (aZ 2 q) λq=>B (b7 a o 1 q n) λn=>aR a 261 [b] n p (λn o p=>aR a 261 [b] o p (λf o p=>B (ft 2 [.cq, .cq] [(0,1,n),(1,1,f)] p) λf=>cO a o p f.1 f.2 λf n o=>B (cf c) λp=>B (aZ 8 p) λp=>B (b7 a n 1 p f) λa=>e (ab (ab (ab (ab (ab (ab (ab (ab (ab (ab (cP [b]) 2 .cq) 3 d) 4 c) 29 i) 46 g) 73 j) 99 l) 123 h) 137 k) 188 m) a o) f) f) f) (B (cf b) λn=>B (aZ 1 n) λn=>B (am a o n) λn=>B (aA .sub n (.Z 1)) λn=>B (cf b) λq=>B (aZ 1 q) λq=>B (b7 a o 1 q n) λn=>B (b6 a n 7 d) λo=>aR a 206 [o] n p (λ_ a f=>e (ab (ab (ab (ab (ab (ab (ab (ab (ab (ab (cP [b]) 2 .cq) 3 d) 4 c) 29 i) 46 g) 73 j) 99 l) 123 h) 137 k) 188 m) a f) f)) λa=>aV m (a n) (a (.bool false))))))) λa=>aV m (a k) (a (.bool false))))))) λa=>aV m (a h) (a (.bool false))))))))) λa=>aV j (a g) (a (.bool false)))))))))))) f
def Ai:db X 261 [a0] h j ah aw=xE X a0 h j ah aw:=Zk
def Ah:cS X 261 1=true:=Zk
def U6(a:aW)(b:H)(c:S ak)(d:Nat)(e f:bG):Prop:=
 aR a 174 [b,(.str [41])] c d (λc d g=>B (cN 0 c) λh=>B (cN 1 c) λc=>B (dA [(.Z 0),(.str []),(.Z 0),(.int .u64 0),(.bool false),(.bool false),(.Z 0)] g) λi=>cO a d g i.1 i.2 λd g i=>B (b7 a g 7 d h) λd=>aQ (λb c d=>aj (b 0) λg=>aR a 208 [g] c d (λc d g=>B (ft 1 [.cq] [(0,1,c)] g) λc=>cO a d g c.1 c.2 λc d g=>aQ (λa b c=>aj (a 2) λa=>e a b c) λ_=>fj (λb c d g=>aQ b λb=>aj (c 0) λh=>aR a 174 [h,(.str [44])] d g (λd g h=>B (cN 0 d) λi=>B (cN 1 d) λd=>B (dA [(.Z 0),(.str []),(.Z 0),(.int .u64 0),(.bool false),(.bool false),(.Z 0)] h) λj=>cO a g h j.1 j.2 λg h j=>B (b7 a h 7 g i) λg=>B (fz .not d) λh=>aQ (λc d e=>aj (c 5) λg=>aj (c 0) λh=>aR a 208 [h] d e (λd e f=>B (ft 1 [.cq] [(0,1,d)] f) λd=>cO a e f d.1 d.2 λd e f=>gO (iQ a e f 1 g d) e f λa d e=>b (ab c 5 a) d e) f) λb=>aV h (aj (c 0) λb=>B (ft 1 [(.str [])] [(0,1,(.str [41]))] j) λd=>cO a g j d.1 d.2 λd g h=>aR a 172 [b,d] g h (λ_ a b=>aj (c 5) λc=>e c a b) f) (b (ab (ab c 7 d) 23 h) g j)) f) (ab b 5 c) d g) f) λa=>aV c (e .aT d i) (a (ab (ab (ab (cP [b]) 2 .aT) 4 c) 13 c) d i)) f
def ahT:db X 262 [a0] h j ah aw=U6 X a0 h j ah aw:=Zk
def ahS:cS X 262 1=true:=Zk
end
end Go.Proofs.YtpfajohmofnkfaaGreatDoor

namespace Go.Proofs.YtpfajohmofnkfaaGreatDoor
open Go.bg Go.a2
noncomputable section
def b9(t:Tok):List H:=[.Z t.kind, .str t.text, .Z t.at_, .int .u64 t.n, .bool t.ty.b, .bool t.ty.s, .Z t.ty.w]
def o1:Nat:=3
def arb(f:Nat):Bool:=n8 f [16,30,50,55,240,125,180,223]
structure dv(X:ck):Prop where
 none:∀f l,arb f=false->X.O f l=none
structure a2(X:ck)(h:S ak)(aG bK:Nat)(aU:List Tok)(i:Nat):Prop where
 at_:∃c aq,aa X h aG=some (.cells c 2 .own)/\c.get 0=some aq/\c.get 1=some (.Z (i:Int))/\d5 X h (λe=>e=bK) bK aq 7 (aU.map b9)
 ne:aG≠bK
def a2.ac{X:ck}{h T:S ak}{aG bK:Nat}{aU:List Tok}{i:Nat}(a:a2 X h aG bK aU i)(bZ:aa X T aG=aa X h aG)(cw:aa X T bK=aa X h bK):a2 X T aG bK aU i:=by
 obtain⟨c,aq,R,U,ar,aO⟩:=a.at_
 exact⟨⟨c,aq,by rw[bZ];exact R,U,ar,aO.ac λe I=>by subst I;exact cw⟩,a.ne⟩
def jS{C:aW}{h:S ak}{b n W:Nat}{c:S H}{st:nE}{v:H}(a:aa C h b=some (.cells c n st))(bA:c.get W=some v):am C h (.ptr b W)=some v:=by rw[cA,a];exact bA
section
variable{X:ck}{h T:S ak}{j ao aG bK:Nat}{aU:List Tok}{i:Nat}
def rm(ax:dv X)(aK:(q X).a7<=j)(ay:a2 X h aG bK aU i)(j3:aG<j)(jz:bK<j){t:Tok}(be:aU[i]? =some t):
 aR X 116 [.ptr aG 0] h j (λad T ao=>ad= .agg (b9 t)/\bj X h j T ao) (λ_ _ _=>False):=by
 refine c4 (ae5 X) (ax.none _ _ rfl) ?_
 rw[ae6]
 unfold TE
 obtain⟨c,aq,R,U,ar,aO⟩:=ay.at_
 have sl:=jS R U
 have bZ:=jS R ar
 have aM:i<(aU.map b9).length:=by rw[Zp];exact(Zc.1 be).1
 have d2:=aO.gi i aM
 have fC:b6 X (bm X h j (some (.cells (S.ofList [.Z 0, .str [], .Z 0, .int .u64 0, .bool false, .bool false, .Z 0] 0 .nil) 7 .own))) 7 (.ptr bK (i*7))=some (.agg (b9 t)):=by
  have:=(aO.ac (T:=bm X h j (some (.cells (S.ofList [.Z 0, .str [], .Z 0, .int .u64 0, .bool false, .bool false, .Z 0] 0 .nil) 7 .own))) (λe I=>by subst I;exact aE aK Zo)).row Zd (i:=i) (r:=b9 t) (by rw[Zx,be];rfl)
  exact this
 refine f7 @sl @bZ @d2 @fC b9.eq_1 ⟨?_⟩
 exact⟨rfl,dM⟩
def sI:List H:=[.Z 0, .str [], .Z 0, .int .u64 0, .bool false, .bool false, .Z 0]
def a2.on(ay:a2 X h aG bK aU i){Y:Nat}{c:S H}(R:aa X T aG=some (.cells c 2 .own))(cj:∀d7 st,aa X h aG=some (.cells d7 2 st)->c=d7.set 1 (some (.Z (Y:Int))))(cw:aa X T bK=aa X h bK):a2 X T aG bK aU Y:=by
 obtain⟨d7,aq,bd,cg,a3,a4⟩:=ay.at_
 have:=cj d7 _ bd
 subst this
 refine⟨⟨_,aq,R, ?_, ?_,a4.ac λe I=>by subst I;exact cw⟩,ay.ne⟩
 ·rw[S.j1,Zh Zd];exact cg
 ·rw[S.j1,Zq rfl]
def HN(ax:dv X)(aK:(q X).a7<=j)(t:Tok)(aw:bG)(a:∀T ao,bj X h j T ao->aw (.iface 26 (.agg [.Z 21, .Z t.at_])) T ao):
 aR X 206 [.agg (b9 t)] h j (λ_ _ _=>False) aw:=by
 refine c4 (agY X) (ax.none _ _ rfl) ?_
 rw[agZ]
 unfold UF b9
 refine cH ⟨?_⟩
 exact⟨a _ _ dM⟩
def ad5(ax:dv X)(aK:(q X).a7<=j)(ay:a2 X h aG bK aU i)(hT:(q X).a7<=aG)(j3:aG<j)(jz:bK<j)(bp:aU.length<=300000){t:Tok}(be:aU[i]? =some t){s:bx}(aI:hN t s=true):
 aR X 174 [.ptr aG 0, .str s] h j (λad T ao=>ad= .tuple [.agg (b9 t), .bool true]/\a2 X T aG bK aU (i+1)/\b4 X [aG] h j T ao) (λ_ _ _=>False):=by
 refine c4 (Ud X) (ax.none _ _ rfl) ?_
 rw[Ue]
 unfold Om
 refine pm ?_
 have lk:=(Zc.1 be).1
 have bU:bj X h j (bm X h j (some (.cells (S.ofList sI 0 .nil) 7 .own))) (j+1):=bj.fresh aK _
 have eo:a2 X (bm X h j (some (.cells (S.ofList sI 0 .nil) 7 .own))) aG bK aU i:=ay.ac (bU.ac _ j3) (bU.ac _ jz)
 refine(rm ax Zo eo Zo Zo be).mono ?_ (λ_ _ _ a=>a)
 rintro ad aJ a6 ⟨rfl,bE⟩
 have gr:=bE.le
 have U:aa X aJ j=some (.cells (S.ofList sI 0 .nil) 7 .own):=by rw[bE.ac _ Zo];exact bh aK
 have gf:b4 X [aG] h j aJ a6:=b4.of ((bj.fresh aK _).trans bE)
 have dt:a2 X aJ aG bK aU i:=eo.ac (bE.ac _ Zo) (bE.ac _ Zo)
 obtain⟨c,aq,bd,cg,a3,a4⟩:=dt.at_
 have aF:=gf.ac
 simp only[hN,Zn,YV,Zg]at aI
 obtain⟨oH,rfl⟩:=aI
 have bZ:=jS bd a3
 have bB:aA .add (.Z (i:Int)) (.Z 1)=some (.Z ((i+1:Nat):Int)):=by rw[eI Zo Zo];rfl
 have fp:decide (t.text≠t.text)=false:=by simp
 unfold sI at U
 have fin:∀(qM:S ak) (ao:Nat),aa X qM aG=some (.cells (dT c 1 [.Z ((i+1:Nat):Int)]) 2 .own)->b4 X [aG] h j qM ao->aa X qM bK=aa X aJ bK->a2 X qM aG bK aU (i+1)/\b4 X [aG] h j qM ao:=λqM ao R U ar=>
  ⟨dt.on R (λd7 st a=>by rw[bd]at a;cases a;exact qD ..) ar,U⟩
 have dI:=ay.ne
 rcases oH with jh|jh
 ·have cT:decide (t.kind≠2)=false:=by simp[jh]
  refine ev b9.eq_1 @cT @fp @bZ @bB @bd @U ⟨?_⟩
  refine⟨rfl,fin _ _ ?_ ?_ ?_⟩
  ·simp(disch:=omega) only[aE,bh];rfl
  ·exact⟨Zo,λb ai bQ=>by have:=aF b ai bQ;simp only[Zt,ZH,YI,Yr,ZG,Ye]at bQ;simp(disch:=omega) only[aE];exact this⟩
  ·simp(disch:=omega) only[aE]
 ·have cT:decide (t.kind≠2)=true:=by simp[jh]
  have cJ:decide (t.kind≠6)=false:=by simp[jh]
  refine ev b9.eq_1 @cT @cJ @fp @bZ @bB (Za @bd @U) ⟨?_⟩
  refine⟨rfl,fin _ _ ?_ ?_ ?_⟩
  ·simp(disch:=omega) only[aE,bh];rfl
  ·exact⟨Zo,λb ai bQ=>by have:=aF b ai bQ;simp only[Zt,ZH,YI,Yr,ZG,Ye]at bQ;simp(disch:=omega) only[aE];exact this⟩
  ·simp(disch:=omega) only[aE]
def ad4(ax:dv X)(aK:(q X).a7<=j)(ay:a2 X h aG bK aU i)(hT:(q X).a7<=aG)(j3:aG<j)(jz:bK<j){t:Tok}(be:aU[i]? =some t){s:bx}(aI:hN t s=false):
 aR X 174 [.ptr aG 0, .str s] h j (λad T ao=>ad= .tuple [.agg sI, .bool false]/\a2 X T aG bK aU i/\b4 X [aG] h j T ao) (λ_ _ _=>False):=by
 refine c4 (Ud X) (ax.none _ _ rfl) ?_
 rw[Ue]
 unfold Om
 refine pm ?_
 have bU:bj X h j (bm X h j (some (.cells (S.ofList sI 0 .nil) 7 .own))) (j+1):=bj.fresh aK _
 have eo:a2 X (bm X h j (some (.cells (S.ofList sI 0 .nil) 7 .own))) aG bK aU i:=ay.ac (bU.ac _ j3) (bU.ac _ jz)
 refine(rm ax Zo eo Zo Zo be).mono ?_ (λ_ _ _ a=>a)
 rintro ad aJ a6 ⟨rfl,bE⟩
 have gr:=bE.le
 have U:aa X aJ j=some (.cells (S.ofList sI 0 .nil) 7 .own):=by rw[bE.ac _ Zo];exact bh aK
 have gf:b4 X [aG] h j aJ a6:=b4.of ((bj.fresh aK _).trans bE)
 have dt:a2 X aJ aG bK aU i:=eo.ac (bE.ac _ Zo) (bE.ac _ Zo)
 have aF:=gf.ac
 unfold sI at U
 have fin:∀(qM:S ak) (ao:Nat),aa X qM aG=aa X aJ aG->b4 X [aG] h j qM ao->aa X qM bK=aa X aJ bK->a2 X qM aG bK aU i/\b4 X [aG] h j qM ao:=λqM ao R U ar=>
  ⟨dt.ac R ar,U⟩
 simp only[hN,YX,Bool.or_eq_false_iff,Zb]at aI
 by_cases jh:t.kind=2
 ·have aI:t.text≠s:=by rcases aI with a|a;exact absurd jh a.1;exact a
  have cT:decide (t.kind≠2)=false:=by simp[jh]
  have fp:decide (t.text≠s)=true:=by simpa using aI
  refine gp b9.eq_1 @cT @fp @U ⟨?_⟩
  refine⟨rfl,fin _ _ ?_ ?_ ?_⟩
  ·simp(disch:=omega) only[aE]
  ·exact⟨Zo,λb ai bQ=>by have:=aF b ai bQ;simp only[Zt,ZH,YI,Yr,ZG,Ye]at bQ;simp(disch:=omega) only[aE];exact this⟩
  ·simp(disch:=omega) only[aE]
 ·have cT:decide (t.kind≠2)=true:=by simp[jh]
  by_cases nY:t.kind=6
  ·have aI:t.text≠s:=by rcases aI with a|a;exact absurd nY a.2;exact a
   have cJ:decide (t.kind≠6)=false:=by simp[nY]
   have fp:decide (t.text≠s)=true:=by simpa using aI
   refine f7 b9.eq_1 @cT @cJ @fp @U ⟨?_⟩
   refine⟨rfl,fin _ _ ?_ ?_ ?_⟩
   ·simp(disch:=omega) only[aE]
   ·exact⟨Zo,λb ai bQ=>by have:=aF b ai bQ;simp only[Zt,ZH,YI,Yr,ZG,Ye]at bQ;simp(disch:=omega) only[aE];exact this⟩
   ·simp(disch:=omega) only[aE]
  ·have cJ:decide (t.kind≠6)=true:=by simp[nY]
   refine gp b9.eq_1 @cT @cJ @U ⟨?_⟩
   refine⟨rfl,fin _ _ ?_ ?_ ?_⟩
   ·simp(disch:=omega) only[aE]
   ·exact⟨Zo,λb ai bQ=>by have:=aF b ai bQ;simp only[Zt,ZH,YI,Yr,ZG,Ye]at bQ;simp(disch:=omega) only[aE];exact this⟩
   ·simp(disch:=omega) only[aE]
def By(ax:dv X)(aK:(q X).a7<=j)(ay:a2 X h aG bK aU i)(hT:(q X).a7<=aG)(j3:aG<j)(jz:bK<j)(bp:aU.length<=300000){t:Tok}(be:aU[i]? =some t)(D:Int):
 aR X 173 [.ptr aG 0, .Z D] h j (λad T ao=>t.kind=D/\ad= .agg (b9 t)/\a2 X T aG bK aU (i+1)/\b4 X [aG] h j T ao)
  (λad T ao=>t.kind≠D/\ad= .iface 26 (.agg [.Z 21, .Z t.at_])/\b4 X [aG] h j T ao):=by
 refine c4 (agb X) (ax.none _ _ rfl) ?_
 rw[agc]
 unfold Uc
 refine pm ?_
 have lk:=(Zc.1 be).1
 have bU:bj X h j (bm X h j (some (.cells (S.ofList sI 0 .nil) 7 .own))) (j+1):=bj.fresh aK _
 have eo:a2 X (bm X h j (some (.cells (S.ofList sI 0 .nil) 7 .own))) aG bK aU i:=ay.ac (bU.ac _ j3) (bU.ac _ jz)
 refine(rm ax Zo eo Zo Zo be).Zm ?_
 rintro ad aJ a6 ⟨rfl,bE⟩
 have gr:=bE.le
 have U:aa X aJ j=some (.cells (S.ofList sI 0 .nil) 7 .own):=by rw[bE.ac _ Zo];exact bh aK
 have gf:b4 X [aG] h j aJ a6:=b4.of ((bj.fresh aK _).trans bE)
 have dt:a2 X aJ aG bK aU i:=eo.ac (bE.ac _ Zo) (bE.ac _ Zo)
 obtain⟨c,aq,bd,cg,a3,a4⟩:=dt.at_
 have aF:=gf.ac
 have bZ:=jS bd a3
 have bB:aA .add (.Z (i:Int)) (.Z 1)=some (.Z ((i+1:Nat):Int)):=by rw[eI Zo Zo];rfl
 unfold sI at U
 have dI:=ay.ne
 by_cases wV:t.kind=D
 ·have cT:decide (t.kind≠D)=false:=by simp[wV]
  refine hQ b9.eq_1 @cT @bZ @bB @bd @U ⟨?_⟩
  refine⟨wV,rfl,dt.on (c:=dT c 1 [.Z ((i+1:Nat):Int)]) ?_ (λd7 st a=>by rw[bd]at a;cases a;exact qD ..) ?_, ?_⟩
  ·simp(disch:=omega) only[aE,bh];rfl
  ·simp(disch:=omega) only[aE]
  ·exact⟨Zo,λb ai bQ=>by have:=aF b ai bQ;simp only[Zt,ZH,YI,Yr,ZG,Ye]at bQ;simp(disch:=omega) only[aE];exact this⟩
 ·have cT:decide (t.kind≠D)=true:=by simp[wV]
  refine eu b9.eq_1 @cT @U ⟨?_⟩
  refine(HN ax Zo t _ ?_).mono (λ_ _ _ a=>a.elim) (λ_ _ _ a=>a)
  intro T ao bS
  have IA:=bS.le
  refine⟨wV,rfl,Zo,λb ai bQ=> ?_⟩
  have:=aF b ai bQ
  simp only[Zt,ZH,YI,Yr,ZG,Ye]at bQ
  rw[bS.ac b Zo]
  simp(disch:=omega) only[aE];exact this
end
section
variable{X:ck}{h T:S ak}{j ao aG bK:Nat}{aU:List Tok}{i:Nat}
def g0:Tok:=⟨0,[],0,0,dJ⟩
def ry:List bx->Tok->List Tok->ga Tok
 |[],x,l=>ok x l
 |s::m9,_,l=>andThen (eD s l) λe l=>ry m9 e l
def fI{aU:List Tok}{i:Nat}{x:Tok}{l:List Tok}(a:aU.drop i=x::l):aU[i]? =some x/\aU.drop (i+1)=l:=by
 constructor
 ·have:=congrArg (λl=>l[0]?) a
  simpa using this
 ·rw[<-zj,a];rfl
def il(m9:List bx):List (List H):=m9.map λs=>[.str s]
def aes(ax:dv X)(aK:(q X).a7<=j)(ay:a2 X h aG bK aU i)(hT:(q X).a7<=aG)(j3:aG<j)(jz:bK<j)(bp:aU.length<=300000){a8:H}{cL:Nat}{m9:List bx}(Im:cL<j)(IX:cL≠aG)(aI:d5 X h (λe=>e=cL) cL a8 1 (il m9))
 {r:Except Int (Tok×List Tok)}(Z:ry m9 g0 (aU.drop i)=some r):
 aR X 172 [.ptr aG 0,a8] h j (λad T ao=>∃x cy,r= .ok (x,aU.drop cy)/\ad= .agg (b9 x)/\a2 X T aG bK aU cy/\b4 X [aG] h j T ao)
  (λad T ao=>∃J,r= .error J/\ad= .iface 26 (.agg [.Z 21, .Z J])/\b4 X [aG] h j T ao):=by
 refine c4 (af9 X) (ax.none _ _ rfl) ?_
 rw[aga]
 unfold Ub
 have fB:=aI.len
 have dI:=ay.ne
 have uM:=aI.many
 simp only[il,Zp]at uM
 refine pm ?_
 refine pm ?_
 have H2:bj X h j (bm X (bm X h j (some (.cells (S.ofList (b9 g0) 0 .nil) 7 .own))) (j+1) (some (.cells (S.ofList (b9 g0) 0 .nil) 7 .own))) (j+1+1):=dM
 have JM:aa X (bm X (bm X h j (some (.cells (S.ofList (b9 g0) 0 .nil) 7 .own))) (j+1) (some (.cells (S.ofList (b9 g0) 0 .nil) 7 .own))) j=some (.cells (S.ofList (b9 g0) 0 .nil) 7 .own):=by simp(disch:=omega) only[aE,bh]
 have cB:aa X (bm X (bm X h j (some (.cells (S.ofList (b9 g0) 0 .nil) 7 .own))) (j+1) (some (.cells (S.ofList (b9 g0) 0 .nil) 7 .own))) (j+1)=some (.cells (S.ofList (b9 g0) 0 .nil) 7 .own):=bh Zo
 refine qW @fB ⟨?_⟩
 refine ka (λK T n=>∃x cy,r= .ok (x,aU.drop cy)/\K.g 5=some (.ptr (j+1) 0)/\K.g 4=some (.ptr j 0)/\j+1<n/\aa X T (j+1)=some (.cells (S.ofList (b9 x) 0 .nil) 7 .own)/\aa X T j=some (.cells (S.ofList (b9 g0) 0 .nil) 7 .own)/\a2 X T aG bK aU cy/\b4 X [aG] h j T n) (λY bH=> ?_) ?_
 ·refine fD (λm K T n=>∃D cy x,m=m9.length-D/\D<=m9.length/\K.g 0=some (.ptr aG 0)/\K.g 9=some a8/\K.g 10=some (.Z (m9.length:Int))/\K.g 11=some (.Z (D:Int))/\K.g 5=some (.ptr (j+1) 0)/\K.g 4=some (.ptr j 0)/\j+1<n
   /\aa X T (j+1)=some (.cells (S.ofList (b9 x) 0 .nil) 7 .own)/\aa X T j=some (.cells (S.ofList (b9 g0) 0 .nil) 7 .own)/\a2 X T aG bK aU cy/\b4 X [aG] h j T n/\ry (m9.drop D) x (aU.drop cy)=some r)
   m9.length ⟨0,i,g0,Zo,Zo, ?_, ?_, ?_, ?_, ?_, ?_,Zo,cB,JM,ay.ac (H2.ac _ j3) (H2.ac _ jz),b4.of H2,Z⟩ ?_
  ·exact bn
  ·exact bn
  ·refine x5 ⟨?_⟩
   simp[il]
  ·refine x5 ⟨?_⟩
   rfl
  ·exact bn
  ·exact bn
  rintro m K aJ n ⟨D,cy,x,rfl,aF,t0,t9,jo,jp,t5,t4,c2,b3,j0,dt,gf,bP⟩
  refine cM @jo @jp ⟨?_⟩
  refine EF (λAU=> ?_) (λAU=> ?_)
  ·have AU:D<m9.length:=Zo
   have j4:m9.drop D=m9[D]::m9.drop (D+1):=Zr AU
   rw[j4]at bP
   have d2:=aI.gi D (by simp[il];exact AU)
   have abb:am X aJ (.ptr cL (D*1))=some (.str m9[D]):=by
    have:=(aI.ac (T:=aJ) λe I=>by subst I;exact gf.ac _ Im (by simp;exact IX)).cell D [.str m9[D]] 0 (.str m9[D]) (by simp[il]) rfl
    rwa[ZR]at this
   refine f7 @t9 @jp @d2 @abb @t0 ⟨?_⟩
   generalize m9[D]=s at bP abb
   cases aH:aU.drop cy with
   |nil=>rw[aH]at bP;simp[ry,eD,andThen]at bP
   |cons e l=>
    obtain⟨I,aB⟩:=fI aH
    rw[aH]at bP
    simp only[ry,eD]at bP
    cases C8:hN e s with
    |true=>
     rw[C8]at bP
     simp only[ZD,andThen,ok]at bP
     refine(ad5 ax (by have:=gf.le;omega) dt hT Zo Zo bp I C8).Zm ?_
     rintro ad aY ba ⟨rfl,gA,dZ⟩
     have ie:=dZ.le
     have PF:aa X aY (j+1)=some (.cells (S.ofList (b9 x) 0 .nil) 7 .own):=by rw[dZ.ac _ Zo (by simp;omega)];exact b3
     have alU:aa X aY j=some (.cells (S.ofList (b9 g0) 0 .nil) 7 .own):=by rw[dZ.ac _ Zo (by simp;omega)];exact j0
     refine eu @t5 @PF @jp ⟨?_⟩
     have bB:aA .add (.Z (D:Int)) (.Z 1)=some (.Z ((D+1:Nat):Int)):=by rw[eI Zo Zo];rfl
     refine ci @bB ⟨?_⟩
     refine⟨_, ?_,D+1,cy+1,e,rfl,Zo,a1 t0,a1 t9,a1 jo,bn,a1 t5,a1 t4,Zo,bh Zo,by simp(disch:=omega) only[aE];exact alU,gA.ac (by simp(disch:=omega) only[aE]) (by simp(disch:=omega) only[aE]), ?_, ?_⟩
     ·omega
     ·have nX:=(gf.trans dZ).ac
      exact⟨by have:=gf.le;omega,λb ai bQ=>by rw[<-nX b ai bQ];simp(disch:=omega) only[aE]⟩
     ·rw[aB];exact bP
    |false=>
     rw[C8]at bP
     simp only[Zv,ZB,andThen,bad,Zf]at bP
     subst bP
     refine(ad4 ax (by have:=gf.le;omega) dt hT Zo Zo I C8).Zm ?_
     rintro ad aY ba ⟨rfl,gA,dZ⟩
     have ie:=dZ.le
     have PF:aa X aY (j+1)=some (.cells (S.ofList (b9 x) 0 .nil) 7 .own):=by rw[dZ.ac _ Zo (by simp;omega)];exact b3
     refine eu @t5 @PF @t0 ⟨?_⟩
     refine(rm ax (by have:=gf.le;omega) (gA.ac (by simp(disch:=omega) only[aE]) (by simp(disch:=omega) only[aE])) Zo Zo I).Zm ?_
     rintro ad bw c7 ⟨rfl,dm⟩
     have ji:=dm.le
     refine(HN ax (by have:=gf.le;omega) e _ ?_).mono (λ_ _ _ a=>a.elim) (λ_ _ _ a=>a)
     intro bL cb dw
     have hV:=dw.le
     have nX:=(gf.trans dZ).ac
     refine⟨_,rfl,rfl,by have:=gf.le;omega,λb ai bQ=> ?_⟩
     rw[dw.ac b Zo,dm.ac b Zo, <-nX b ai bQ]
     simp(disch:=omega) only[aE]
  ·have wV:D=m9.length:=Zo
   subst wV
   rw[List.drop_length]at bP
   simp only[ry,ok,Zf]at bP
   subst bP
   refine cH ⟨?_⟩
   exact bH _ _ _ ⟨x,cy,rfl,a1 t5,a1 t4,c2,b3,j0,dt,gf⟩
 ·rintro K aJ n ⟨x,cy,ag,t5,t4,c2,b3,j0,dt,gf⟩
  unfold b9 at b3
  unfold b9 g0 dJ at j0
  refine f7 @t5 @t4 @b3 @j0 (bJ b3) ⟨?_⟩
  refine⟨x,cy,ag,rfl,dt.ac (by simp(disch:=omega) only[aE]) (by simp(disch:=omega) only[aE]), ?_⟩
  exact⟨by have:=gf.le;omega,λb ai bQ=>by rw[<-gf.ac b ai bQ];simp(disch:=omega) only[aE]⟩
end
structure it(X:ck)(h:S ak)(j aG bK:Nat)(aU:List Tok)(i:Nat):Prop where
 a7:(q X).a7<=j
 fM:(q X).a7<=aG
 hi:aG<j
 gY:bK<j
 many:aU.length<=300000
 par:a2 X h aG bK aU i
def it.go{X:ck}{h T:S ak}{j ao aG bK i cy:Nat}{aU:List Tok}(a:it X h j aG bK aU i)(ay:a2 X T aG bK aU cy)(aK:j<=ao):it X T ao aG bK aU cy:=
 ⟨ZA a.a7 aK,a.fM,ZK a.hi aK,ZK a.gY aK,a.many,ay⟩
def dy(J b:Nat):Nat->Prop:=λe=>J<=e/\e<b
def oz(D J:Int):H:= .iface 26 (.agg [.Z D, .Z J])
def jH(X:ck)(aG bK:Nat)(aU:List Tok)(h:S ak)(j:Nat)(r:Except Int (bz×List Tok)):bG:=λad T ao=>
 ∃F cy,r= .ok (F,aU.drop cy)/\cI X T (dy j ao) F ad/\a2 X T aG bK aU cy/\b4 X [aG] h j T ao
def iF{α:Type}(X:ck)(aG:Nat)(h:S ak)(j:Nat)(r:Except Int α):bG:=λad T ao=>
 ∃J,r= .error J/\ad=oz 21 J/\b4 X [aG] h j T ao
def v8(X:ck):Prop:=9<X.a7/\∀h D,D<5->∃b a8,am X h (.ptr 9 D)=some a8/\d5 X h (λe=>e<X.a7) b a8 2 ((av D).map λW=>[.str W.1, .Z W.2])
section
variable{X:ck}{h T aX aJ:S ak}{j ao aL a6 aG bK:Nat}{aU:List Tok}{i:Nat}
def iF.of{α eR:Type}{fG:S ak}{acQ:Nat}{r:Except Int α}{hH:Except Int eR}{ad:H}(a:iF X aG aX aL r ad T ao)(gf:b4 X [aG] fG acQ aX aL)(Z:∀J,r= .error J->hH= .error J):iF X aG fG acQ hH ad T ao:=by
 obtain⟨J,R,U,ar⟩:=a
 exact⟨J,Z J R,U,gf.trans ar⟩
def cI.fr{J b:Nat}{F:bz}{v:H}(a:cI X h (dy J b) F v)(gf:b4 X [aG] h aL T ao)(ai:b<=aL)(ay:aG<J){fR dR:Nat}(R:fR<=J)(U:b<=dR):cI X T (dy fR dR) F v:=
 cI.lift (λe I=>⟨ZA R I.1,ZK I.2 U⟩) _ _ (cI.ac (λe I=>gf.ac e (by have:=I.2;omega) (by simp;have:=I.1;omega)) _ _ a)
def cI.ex{J b:Nat}{F:bz}{v:H}(a:cI X h (dy J b) F v)(D:∀e,J<=e->e<b->aa X T e=aa X h e){fR dR:Nat}(R:fR<=J)(U:b<=dR):cI X T (dy fR dR) F v:=
 cI.lift (λe I=>⟨ZA R I.1,ZK I.2 U⟩) _ _ (cI.ac (λe I=>D e I.1 I.2) _ _ a)
def qA{eR:Type}{s:bx}{l:List Tok}{f:Option Tok->List Tok->ga eR}{r:Except Int (eR×List Tok)}(a:h7 s l f=some r):∃x b5,l=x::b5/\((hN x s=true/\f (some x) b5=some r)\/(hN x s=false/\f none l=some r)):=by
 unfold h7 lX at a
 cases l with
 |nil=>cases a
 |cons x b5=>
  refine⟨x,b5,rfl, ?_⟩
  simp only[]at a
  cases aI:hN x s with
  |true=>rw[aI]at a;exact .inl ⟨rfl,a⟩
  |false=>rw[aI]at a;exact .inr ⟨rfl,a⟩
def gl{α eR:Type}{x:ga α}{f:α->List Tok->ga eR}{r:Except Int (eR×List Tok)}(a:andThen x f=some r):(∃J,x=some (.error J)/\r= .error J)\/∃J l,x=some (.ok (J,l))/\f J l=some r:=by
 unfold andThen at a
 split at a
 ·cases a
 ·injection a with a;exact .inl ⟨_,rfl,a.symm⟩
 ·exact .inr ⟨_,_,rfl,a⟩
def ny(ax:dv X)(ay:it X h j aG bK aU i){x:Tok}{l:List Tok}(aH:aU.drop i=x::l)(s:bx):
 aR X 174 [.ptr aG 0, .str s] h j (λad T ao=>ad= .tuple [.agg (b9 (if hN x s then x else g0)), .bool (hN x s)]/\a2 X T aG bK aU (if hN x s then i+1 else i)/\b4 X [aG] h j T ao) (λ_ _ _=>False):=by
 obtain⟨R,U⟩:=fI aH
 cases aI:hN x s with
 |true=>simp only[ZD];exact ad5 ax ay.a7 ay.par ay.fM ay.hi ay.gY ay.many R aI
 |false=>simp only[Zv,ZB];exact ad4 ax ay.a7 ay.par ay.fM ay.hi ay.gY R aI
structure qF(X:ck)(aG bK:Nat)(aU:List Tok)(n:Nat):Prop where
 level:∀h j i (D:Nat) r,D<=5->it X h j aG bK aU i->Go.a2.level n D (aU.drop i)=some r->aR X 243 [.ptr aG 0, .Z (D:Int)] h j (jH X aG bK aU h j r) (iF X aG h j r)
 shift:∀h j i r,it X h j aG bK aU i->Go.a2.shift n (aU.drop i)=some r->aR X 251 [.ptr aG 0] h j (jH X aG bK aU h j r) (iF X aG h j r)
 tE:∀h j i r,it X h j aG bK aU i->Go.a2.xi n (aU.drop i)=some r->aR X 258 [.ptr aG 0] h j (jH X aG bK aU h j r) (iF X aG h j r)
 part:∀h j i r,it X h j aG bK aU i->Go.a2.part n (aU.drop i)=some r->aR X 261 [.ptr aG 0] h j (jH X aG bK aU h j r) (iF X aG h j r)
 lH:∀h j i r,it X h j aG bK aU i->Go.a2.lH n (aU.drop i)=some r->aR X 232 [.ptr aG 0] h j (jH X aG bK aU h j r) (iF X aG h j r)
 arrow:∀h j i r,it X h j aG bK aU i->Go.a2.arrow n (aU.drop i)=some r->aR X 208 [.ptr aG 0] h j (jH X aG bK aU h j r) (iF X aG h j r)
 list:∀h j i r,it X h j aG bK aU i->Go.a2.list n (aU.drop i)=some r->aR X 262 [.ptr aG 0] h j (λad T ao=>∃bF cy bk cL,r= .ok (bF,aU.drop cy)/\d5 X T (dy j ao) cL ad 1 (bk.map λv=>[v])/\dp X T (λe=>dy j ao e/\e≠cL) bF bk/\a2 X T aG bK aU cy/\b4 X [aG] h j T ao) (iF X aG h j r)
def e8{C:aW}{f:Nat}{xK:List H}{ah aw:bG}{h:S ak}{j:Nat}(P:S ak->Prop)(bu:P h)(a:∀aY,P aY->aR C f xK aY j ah aw):aR C f xK h j ah aw:=a h bu
def o7(D:IntKind)(x:Int):H.same 30 (.int D x) (.int D x)=true:=by
 simp only[H.same,Bc];cases D<;>simp[l8]
def a2.ex(a:a2 X h aG bK aU i)(D:bj X h j T ao)(R:aG<j)(U:bK<j):a2 X T aG bK aU i:=a.ac (D.ac _ R) (D.ac _ U)
def ajj(ax:dv X){n:Nat}(al:∀m,m<n->qF X aG bK aU m):∀h j i r,it X h j aG bK aU i->Go.a2.arrow n (aU.drop i)=some r->aR X 208 [.ptr aG 0] h j (jH X aG bK aU h j r) (iF X aG h j r):=by
 intro h j i r ay Z
 cases n with
 |zero=>simp[Go.a2.arrow]at Z
 |succ n=>
 refine c4 (ag2 X) (ax.none _ _ rfl) ?_
 rw[ag3]
 unfold UH
 have gL:=ay.a7
 have j3:=ay.hi
 have hT:=ay.fM
 unfold Go.a2.arrow at Z
 rcases gl Z with ⟨J,R,rfl⟩|⟨left,eh,R,Z⟩
 ·exact((al n Zo).lH h j i _ ay R).mono (λad T ao a=>by obtain⟨F,cy,a,_⟩:=a;cases a) (λad T ao a=>a)
 refine((al n Zo).lH h j i _ ay R).mono ?_ (λad T ao a=>by obtain⟨J,a,_⟩:=a;cases a)
 rintro vJ aX aL ⟨F,eU,bt,bU,eo,h3⟩
 cases bt
 have jB:=h3.le
 have mH:=ay.go eo jB
 obtain⟨x,b5,aH,ag⟩:=qA Z
 refine(ny ax mH aH _).Zm ?_
 rintro GU aJ a6 ⟨rfl,dt,dc⟩
 have f2:=dc.le
 rcases ag with ⟨aI,Z⟩|⟨aI,Z⟩
 ·rw[aI]at dt ⊢
  simp only[ZD]at dt ⊢
  rw[<-(fI aH).2]at Z
  refine ci b9.eq_1 ⟨?_⟩
  refine e8 (λaY=>bj X aJ a6 aY (a6+1+9)/\aa X aY a6=some (.cells (S.ofList (b9 x) 0 .nil) 7 .own)) ⟨dM,bh Zo⟩ ?_
  rintro aY ⟨ca,cQ⟩
  rcases gl Z with ⟨J,U,rfl⟩|⟨right,c5,U,Z⟩
  ·refine((al n Zo).arrow aY _ _ _ (mH.go (dt.ex ca Zo (by have:=mH.gY;omega)) Zo) U).mono (λad T ao a=>by obtain⟨F,cy,a,_⟩:=a;cases a) (λad T ao a=>a.of (h3.trans (dc.trans (b4.of ca))) (λ_ a=>a))
  refine((al n Zo).arrow aY _ _ _ (mH.go (dt.ex ca Zo (by have:=mH.gY;omega)) Zo) U).mono ?_ (λad T ao a=>by obtain⟨J,a,_⟩:=a;cases a)
  rintro v4 bw c7 ⟨jM,i4,tj,dm,g9,eB⟩
  cases tj
  have ji:=eB.le
  simp only[ok,Zf]at Z
  subst Z
  have d1:aa X bw a6=some (.cells (S.ofList (b9 x) 0 .nil) 7 .own):=by rw[eB.ac _ Zo (by simp;omega)];exact cQ
  obtain⟨cB,rfl,hE,_⟩:=bU.ptr
  obtain⟨fV,rfl,nr,_⟩:=dm.ptr
  have hE:=hE.1
  refine cM (bJ d1) b9.eq_1 ⟨?_⟩
  refine gQ (o7 _ _) ?_
  refine⟨_,i4,rfl,cI.lit (hY:= .own) (cL:=a6+1+5) (bk:=[.ptr cB 0, .ptr fV 0]) (bh Zo) ⟨Zo,Zo⟩ ?_ ⟨Zo,Zo⟩ rfl Zo Zo (dp.two (cI.ac (λe I=> ?_) _ _ bU) (cI.ac (λe I=> ?_) _ _ dm) (λe I=> ?_) (λe I=> ?_)), ?_, ?_⟩
  ·simp(disch:=omega) only[aE,bh]<;>rfl
  ·have R:=I.1;have U:=I.2
   simp(disch:=omega) only[aE]
   rw[eB.ac e Zo (by simp;omega),ca.ac e Zo,dc.ac e Zo (by simp;omega)]
  ·have R:=I.1;have U:=I.2
   simp(disch:=omega) only[aE]
  ·simp only[dy]at I ⊢;omega
  ·simp only[dy]at I ⊢;omega
  ·exact g9.ac (by simp(disch:=omega) only[aE]) (by have:=mH.gY;simp(disch:=omega) only[aE])
  ·exact⟨Zo,λb ai bQ=>by
    rw[<-((h3.trans (dc.trans (b4.of ca))).trans eB).ac b ai bQ]
    simp(disch:=omega) only[aE]⟩
 ·rw[aI]at dt ⊢
  simp only[Zv,ZB]at dt ⊢
  simp only[ok,Zf]at Z
  subst Z
  refine cM b9.eq_1 g0.eq_1 ⟨?_⟩
  refine⟨left,eU,rfl,cI.ex bU (λe R U=> ?_) (Zi _) Zo,dt.ac (by simp(disch:=omega) only[aE]) (by have:=mH.gY;simp(disch:=omega) only[aE]), ?_⟩
  ·simp(disch:=omega) only[aE]
   exact dc.ac e Zo (by simp;omega)
  ·exact⟨Zo,λb ai bQ=>by rw[<-(h3.trans dc).ac b ai bQ];simp(disch:=omega) only[aE]⟩
end
section
variable{X:ck}{h T aX aJ:S ak}{j ao aL a6 aG bK:Nat}{aU:List Tok}{i:Nat}
def alv(ax:dv X){n:Nat}(al:∀m,m<n->qF X aG bK aU m):∀h j i r,it X h j aG bK aU i->Go.a2.lH n (aU.drop i)=some r->aR X 232 [.ptr aG 0] h j (jH X aG bK aU h j r) (iF X aG h j r):=by
 intro h j i r ay Z
 cases n with
 |zero=>simp[Go.a2.lH]at Z
 |succ n=>
 refine c4 (ahw X) (ax.none _ _ rfl) ?_
 rw[ahx]
 unfold UV
 have gL:=ay.a7
 have j3:=ay.hi
 have hT:=ay.fM
 unfold Go.a2.lH at Z
 rcases gl Z with ⟨J,R,rfl⟩|⟨left,eh,R,Z⟩
 ·exact((al n Zo).level h j i 0 _ Zo ay R).mono (λad T ao a=>by obtain⟨F,cy,a,_⟩:=a;cases a) (λad T ao a=>a)
 refine((al n Zo).level h j i 0 _ Zo ay R).mono ?_ (λad T ao a=>by obtain⟨J,a,_⟩:=a;cases a)
 rintro vJ aX aL ⟨F,eU,bt,bU,eo,h3⟩
 cases bt
 have jB:=h3.le
 have mH:=ay.go eo jB
 obtain⟨x,b5,aH,ag⟩:=qA Z
 refine(ny ax mH aH _).Zm ?_
 rintro GU aJ a6 ⟨rfl,dt,dc⟩
 have f2:=dc.le
 have jz:=mH.gY
 rcases ag with ⟨aI,Z⟩|⟨aI,Z⟩
 ·rw[aI]at dt ⊢
  simp only[ZD]at dt ⊢
  rw[<-(fI aH).2]at Z
  simp only[]at Z
  obtain⟨cB,a8,cL,bk,rfl,hE,sl,bZ,cw,c0,ep,dG,dQ,gm,ht,j7,I4⟩:=bU.open
  have hE:=hE
  obtain⟨ax0,ax1⟩:=hE
  have d7:am X aJ (.ptr cB 0)=some (.Z left.kind):=by rw[dc.fU _ _ Zo (by simp;omega)];exact sl
  have EH:am X aJ (.ptr cB 8)=some a8:=by rw[dc.fU _ _ Zo (by simp;omega)];exact ht
  have ch:tz left=some true->∀(K:dL) (aY:S ak) (ba:Nat),K.g 4=some (.ptr a6 0)->K.g 3=some (.ptr cB 0)->K.g 0=some (.ptr aG 0)->bj X aJ a6 aY ba->a6<ba->aa X aY a6=some (.cells (S.ofList (b9 x) 0 .nil) 7 .own)->
   eZ (ba+9) λasj=>aj (K.g 4) λavD=>B (aZ 2 avD) λaej=>B (am X aY aej) λaek=>aj (K.g 3) λavE=>aj (K.g 0) λavF=>aR X 232 [avF] aY asj (λav8 aix asl=>B (ft 2 [.cq, .cq] [(0,1,avE),(1,1,av8)] (ba+5)) λadv=>k4 X aix (ba+5) adv.1 adv.2 λav9 aiy=>B (eA [(.Z 0),(.Z 0),(.str []),(.bool false),(.bool false),(.bool false),(.Z 0),(.int .u64 0), .aT] [(0,1,(.Z 21)),(1,1,aek),(8,1,av9)]) λawa=>xL X aiy (ba+7) awa λawb Vw=>B (am X Vw aej) λawc=>gI awc (some aek) (jH X aG bK aU h j r awb Vw asl)) (iF X aG h j r):=by
   intro QO K aY ba t4 t3 t0 ca c2 cQ
   rw[QO]at Z
   simp only[]at Z
   refine f7 @t4 @t3 @t0 (bJ cQ) b9.eq_1 ⟨?_⟩
   rcases gl Z with ⟨J,U,rfl⟩|⟨right,c5,U,Z⟩
   ·refine((al n Zo).lH aY _ _ _ (mH.go (dt.ex ca Zo Zo) Zo) U).mono (λad T ao a=>by obtain⟨F,cy,a,_⟩:=a;cases a) (λad T ao a=>a.of (h3.trans (dc.trans (b4.of (ca.more Zo)))) (λ_ a=>a))
   refine((al n Zo).lH aY _ _ _ (mH.go (dt.ex ca Zo Zo) Zo) U).mono ?_ (λad T ao a=>by obtain⟨J,a,_⟩:=a;cases a)
   rintro v4 bw c7 ⟨jM,i4,tj,dm,g9,eB⟩
   cases tj
   have ji:=eB.le
   simp only[ok,Zf]at Z
   subst Z
   have d1:aa X bw a6=some (.cells (S.ofList (b9 x) 0 .nil) 7 .own):=by rw[eB.ac _ Zo (by simp;omega)];exact cQ
   obtain⟨fV,rfl,nr,_⟩:=dm.ptr
   refine cM (bJ d1) b9.eq_1 ⟨?_⟩
   refine gQ (o7 _ _) ?_
   refine⟨_,i4,rfl,cI.lit (hY:= .own) (cL:=ba+5) (bk:=[.ptr cB 0, .ptr fV 0]) (bh Zo) ⟨Zo,Zo⟩ ?_ ⟨Zo,Zo⟩ rfl Zo Zo (dp.two (cI.ac (λe I=> ?_) _ _ bU) (cI.ac (λe I=> ?_) _ _ dm) (λe I=> ?_) (λe I=> ?_)), ?_, ?_⟩
   ·simp(disch:=omega) only[aE,bh]<;>rfl
   ·have R:=I.1;have U:=I.2
    simp(disch:=omega) only[aE]
    rw[eB.ac e Zo (by simp;omega),ca.ac e Zo,dc.ac e Zo (by simp;omega)]
   ·have R:=I.1;have U:=I.2
    simp(disch:=omega) only[aE]
   ·simp only[dy]at I ⊢;omega
   ·simp only[dy]at I ⊢;omega
   ·exact g9.ac (by simp(disch:=omega) only[aE]) (by simp(disch:=omega) only[aE])
   ·exact⟨Zo,λb ai bQ=>by
     rw[<-((h3.trans (dc.trans (b4.of (ca.more (by omega:ba<=ba+9))))).trans eB).ac b ai bQ]
     simp(disch:=omega) only[aE]⟩
  have W4:tz left=some false->∀(aY:S ak) (ba:Nat) (ah:bG),bj X aJ a6 aY ba->aR X 206 [.agg (b9 x)] aY ba ah (iF X aG h j r):=by
   intro QO aY ba ah ca
   rw[QO]at Z
   simp only[bad,Zf]at Z
   subst Z
   refine(HN ax (by have:=ca.le;omega) x _ ?_).mono (λ_ _ _ a=>a.elim) (λ_ _ _ a=>a)
   intro T ao bS
   exact⟨_,rfl,rfl,h3.trans (dc.trans (b4.of (ca.trans bS)))⟩
  by_cases kY:left.kind=1
  ·have cT:decide (left.kind≠1)=false:=by simp[kY]
   refine g7 b9.eq_1 @d7 @cT ⟨?_⟩
   refine gM ?_
   refine g7 b9.eq_1 @d7 @cT ⟨?_⟩
   refine gM ?_
   refine pn ?_
   exact ch (by simp[tz,kY]) _ _ _ (bn) (bn) (bn) dM Zo (bh Zo)
  ·have cT:decide (left.kind≠1)=true:=by simp[kY]
   by_cases f1:left.kind=4
   ·have iu:decide (left.kind≠4)=false:=by simp[f1]
    cases wL:left.args with
    |nil=>
     simp[tz,f1,wL]at Z
    |cons J xK=>
     obtain⟨v,bA,CC⟩:=I4.get 0 J (by rw[wL];rfl)
     obtain⟨gH,mG,rp⟩:=j7.one bA
     have gH:dC 1 a8 (.Z 0)=some (.ptr cL 0):=gH
     obtain⟨mI,rfl,apr,l7⟩:=CC.ptr
     obtain⟨ax2,ax3⟩:=apr
     obtain⟨ayG,ayH⟩:=rp
     have KM:am X aJ (.ptr cL 0)=some (.ptr mI 0):=by rw[dc.fU _ _ Zo (by simp;omega)];exact mG
     have pW:am X aJ (.ptr mI 0)=some (.Z J.kind):=by rw[dc.fU _ _ Zo (by simp;omega)];exact l7
     by_cases aC:J.kind=1
     ·have f6:decide (J.kind≠1)=false:=by simp[aC]
      refine g7 b9.eq_1 @d7 (Za @cT (Za @iu (Za @EH (Za @gH (Za @KM (Za @pW @f6)))))) ⟨?_⟩
      refine gM ?_
      refine g7 b9.eq_1 @d7 (Za @cT (Za @iu (Za @EH (Za @gH (Za @KM (Za @pW @f6)))))) ⟨?_⟩
      refine gM ?_
      refine pn ?_
      exact ch (by simp[tz,f1,wL,aC]) _ _ _ (bn) (bn) (bn) dM Zo (bh Zo)
     ·have f6:decide (J.kind≠1)=true:=by simp[aC]
      refine g7 b9.eq_1 @d7 (Za @cT (Za @iu (Za @EH (Za @gH (Za @KM (Za @pW @f6)))))) ⟨?_⟩
      refine gM ?_
      refine g7 b9.eq_1 @d7 (Za @cT (Za @iu (Za @EH (Za @gH (Za @KM (Za @pW @f6)))))) ⟨?_⟩
      refine gM ?_
      refine po ?_
      refine ci b9.eq_1 ⟨?_⟩
      exact W4 (by simp[tz,f1,wL,aC]) _ _ _ dM
   ·have iu:decide (left.kind≠4)=true:=by simp[f1]
    refine g7 b9.eq_1 @d7 (Za @cT @iu) ⟨?_⟩
    refine gM ?_
    refine g7 b9.eq_1 @d7 (Za @cT @iu) ⟨?_⟩
    refine gM ?_
    refine po ?_
    refine ci b9.eq_1 ⟨?_⟩
    exact W4 (by simp[tz,kY,f1]) _ _ _ dM
 ·rw[aI]at dt ⊢
  simp only[Zv,ZB]at dt ⊢
  simp only[ok,Zf]at Z
  subst Z
  refine cM b9.eq_1 g0.eq_1 ⟨?_⟩
  refine⟨left,eU,rfl,cI.ex bU (λe R U=> ?_) (Zi _) Zo,dt.ac (by simp(disch:=omega) only[aE]) (by simp(disch:=omega) only[aE]), ?_⟩
  ·simp(disch:=omega) only[aE]
   exact dc.ac e Zo (by simp;omega)
  ·exact⟨Zo,λb ai bQ=>by rw[<-(h3.trans dc).ac b ai bQ];simp(disch:=omega) only[aE]⟩
end
section
variable{X:ck}{h T aX aJ:S ak}{j ao aL a6 aG bK:Nat}{aU:List Tok}{i:Nat}
def aeH(X:ck)(aG bK:Nat)(aU:List Tok)(h:S ak)(j:Nat)(r:Option bz×List Tok):bG:=λad T ao=>∃cy,r.2=aU.drop cy/\a2 X T aG bK aU cy/\b4 X [aG] h j T ao/\
 match r.1 with
 |none=>ad= .tuple [.cq, .bool false]
 |some F=>∃b D J,F= .mk D J [] false dJ 0 []/\ad= .tuple [.ptr b 0, .bool true]/\j<=b/\b<ao/\aa X T b=some (.cells (S.ofList (g2 D J [] false dJ 0 .aT) 0 .nil) 9 .own)
def ajD(ax:dv X)(eK:v8 X){D:Nat}(aF:D<5)(ay:it X h j aG bK aU i){r:Option bz×List Tok}(Z:ou (av D) (aU.drop i)=some r):
 aR X 252 [.ptr aG 0, .Z (D:Int)] h j (aeH X aG bK aU h j r) (λ_ _ _=>False):=by
 refine c4 (ahO X) (ax.none _ _ rfl) ?_
 rw[ahP]
 unfold U4
 have gL:=ay.a7
 have j3:=ay.hi
 have hT:=ay.fM
 have jz:=ay.gY
 obtain⟨ani,eK⟩:=eK
 obtain⟨b,a8,j7,cz⟩:=eK h D aF
 have d2:FT 5 1 (.ptr 9 0) (.Z (D:Int))=some (.ptr 9 D):=by
  simp[FT,rk,Kl,fo,aF]
 have fB:=cz.len
 rw[Zp]at fB
 have uM:=cz.many
 rw[Zp]at uM
 refine g7 @d2 @j7 @fB ⟨?_⟩
 refine gM ?_
 refine fD (λm K T n=>∃Y,m=(av D).length-Y/\Y<=(av D).length/\K.g 0=some (.ptr aG 0)/\K.g 12=some a8/\K.g 13=some (.Z ((av D).length:Int))/\K.g 14=some (.Z (Y:Int))/\a2 X T aG bK aU i/\b4 X [aG] h j T n/\ou ((av D).drop Y) (aU.drop i)=some r)
  (av D).length ⟨0,Zo,Zo,bn,bn,bn,fN,ay.par,b4.refl _ _ _,Z⟩ ?_
 rintro m K aJ n ⟨Y,rfl,bH,t0,ke,i2,kJ,dt,gf,ai⟩
 have gr:=gf.le
 have fK:=ay.go dt gr
 refine Ll @i2 @kJ ⟨?_⟩
 refine gM ?_
 refine EF (λc2=> ?_) (λc2=> ?_)
 ·have c2:Y<(av D).length:=Zo
  have j4:(av D).drop Y=(av D)[Y]::(av D).drop (Y+1):=Zr c2
  rw[j4]at ai
  have aaw:=cz.gi Y (by simpa using c2)
  have fC:=((eK aJ D aF).choose_spec)
  obtain⟨dO,adQ,uP,IT⟩:=eK aJ D aF
  have Rj:adQ=a8:=by
   have F:am X aJ (.ptr 9 D)=am X h (.ptr 9 D):=by
    rw[cA,cA]
    have:∀h:S ak,aa X h 9=X.G.get 9:=λh=>by
     have anL:Nat.blt 9 (q X).a7=true:=by simp[Nat.blt];exact ani
     simp only[aa,anL,e2];rfl
    rw[this,this]
   rw[F,j7]at uP
   exact(Yu uP).symm
  subst Rj
  have aaw:=IT.gi Y (by simpa using c2)
  have fC:=λaY (a:∀e,e<X.a7->aa X aY e=aa X aJ e)=>(IT.ac (T:=aY) a).row Zd (i:=Y) (r:=[.str (av D)[Y].1, .Z (av D)[Y].2]) (by rw[Zx,Ze c2];rfl)
  have fC:=fC aJ (λ_ _=>rfl)
  generalize (av D)[Y]=W at ai fC j4
  obtain⟨s,e7⟩:=W
  simp only[ou]at ai
  refine f7 @ke @kJ @aaw @fC @t0 ⟨?_⟩
  refine e8 (λaY=>bj X aJ n aY (n+1)/\aa X aY n=some (.cells (S.ofList [.str s, .Z e7] 0 .nil) 2 .own)) ⟨dM,bh Zo⟩ ?_
  rintro aY ⟨ca,cQ⟩
  cases aH:aU.drop i with
  |nil=>rw[aH]at ai;simp[lX]at ai
  |cons x l=>
   rw[aH]at ai
   refine(ny ax (fK.go (dt.ex ca Zo Zo) Zo) aH s).Zm ?_
   rintro ad bw c7 ⟨rfl,g9,eB⟩
   have ji:=eB.le
   have d1:aa X bw n=some (.cells (S.ofList [.str s, .Z e7] 0 .nil) 2 .own):=by rw[eB.ac _ Zo (by simp;omega)];exact cQ
   have nT:=gf.trans ((b4.of ca).trans eB)
   cases aI:hN x s with
   |true=>
    rw[aI]at g9
    simp only[lX,aI,ZD]at ai g9 ⊢
    simp only[Zf]at ai
    subst ai
    refine cM b9.eq_1 (bJ d1) ⟨?_⟩
    refine⟨i+1,(fI aH).2.symm,g9.ac (by simp(disch:=omega) only[aE]) (by simp(disch:=omega) only[aE]), ?_,c7+1,e7,x.at_,rfl,rfl,Zo,Zo, ?_⟩
    ·exact⟨Zo,λb ai bQ=>by rw[<-nT.ac b ai bQ];simp(disch:=omega) only[aE]⟩
    ·simp(disch:=omega) only[aE,bh]<;>rfl
   |false=>
    rw[aI]at g9
    simp only[lX,aI,Zv,ZB]at ai g9 ⊢
    have bB:aA .add (.Z (Y:Int)) (.Z 1)=some (.Z ((Y+1:Nat):Int)):=by rw[eI Zo Zo];rfl
    refine gp b9.eq_1 g0.eq_1 @kJ @bB ⟨?_⟩
    refine⟨_, ?_,Y+1,rfl,Zo,a1 t0,a1 ke,a1 i2,bn,g9.ac (by simp(disch:=omega) only[aE]) (by simp(disch:=omega) only[aE]), ?_,ai⟩
    ·omega
    ·exact⟨Zo,λb ai bQ=>by rw[<-nT.ac b ai bQ];simp(disch:=omega) only[aE]⟩
 ·have bH:Y=(av D).length:=Zo
  subst bH
  rw[List.drop_length]at ai
  simp only[ou,Zf]at ai
  subst ai
  refine cH ⟨?_⟩
  exact⟨i,rfl,dt,gf,rfl⟩
end
section
variable{X:ck}{h T aX aJ:S ak}{j ao aL a6 aG bK:Nat}{aU:List Tok}{i:Nat}
def arF(ax:dv X)(eK:v8 X){n:Nat}(al:∀m,m<n->qF X aG bK aU m):∀h j i (D:Nat) r,D<=5->it X h j aG bK aU i->Go.a2.level n D (aU.drop i)=some r->aR X 243 [.ptr aG 0, .Z (D:Int)] h j (jH X aG bK aU h j r) (iF X aG h j r):=by
 intro h j i D r aF ay Z
 cases n with
 |zero=>simp[Go.a2.level]at Z
 |succ n=>
 refine c4 (ahI X) (ax.none _ _ rfl) ?_
 rw[ahJ]
 unfold U1
 have gL:=ay.a7
 have j3:=ay.hi
 have hT:=ay.fM
 have jz:=ay.gY
 unfold Go.a2.level at Z
 by_cases lK:D=5
 ·subst lK
  rw[Zq rfl]at Z
  have cT:decide (((5:Nat):Int)=5)=true:=rfl
  refine ci @cT ⟨?_⟩
  exact(al n Zo).shift h j i r ay Z
 ·rw[Zh lK]at Z
  have cT:decide ((D:Int)=5)=false:=by simp;omega
  have bB:aA .add (.Z (D:Int)) (.Z 1)=some (.Z ((D+1:Nat):Int)):=by rw[eI Zo Zo];rfl
  refine cM @cT @bB ⟨?_⟩
  rcases gl Z with ⟨J,R,rfl⟩|⟨left,eh,R,Z⟩
  ·exact((al n Zo).level h j i (D+1) _ Zo ay R).mono (λad T ao a=>by obtain⟨F,cy,a,_⟩:=a;cases a) (λad T ao a=>a)
  refine((al n Zo).level h j i (D+1) _ Zo ay R).mono ?_ (λad T ao a=>by obtain⟨J,a,_⟩:=a;cases a)
  rintro vJ aX aL ⟨F,eU,bt,bU,eo,h3⟩
  cases bt
  have jB:=h3.le
  refine gM ?_
  refine fD (λm K T aS=>∃left v cy,m<=n/\K.g 0=some (.ptr aG 0)/\K.g 1=some (.Z (D:Int))/\K.g 5=some v/\cI X T (dy j aS) left v/\a2 X T aG bK aU cy/\b4 X [aG] h j T aS/\oX m D left (aU.drop cy)=some r)
   n ⟨left,vJ,eU,Zi _,bn,bn,bn,bU,eo,h3,Z⟩ ?_
  clear bU eo h3 R Z
  rintro m K aJ a6 ⟨left,v,eP,bp,t0,t1,t5,bE,dt,dc,Z⟩
  cases m with
  |zero=>simp[oX]at Z
  |succ m=>
  unfold oX at Z
  have f2:=dc.le
  have fK:=ay.go dt f2
  refine gM ?_
  refine cM @t0 @t1 ⟨?_⟩
  cases ai:ou (av D) (aU.drop eP)with
  |none=>rw[ai]at Z;cases Z
  |some JQ=>
  rw[ai]at Z
  refine(ajD ax eK Zo fK ai).Zm ?_
  rintro y4 aY ba ⟨i3,ti,gA,dZ,bc⟩
  have ie:=dZ.le
  obtain⟨ro,ayR⟩:=JQ
  simp only[]at ti
  subst ti
  cases ro with
  |none=>
   simp only[]at bc Z
   subst bc
   simp only[ok,Zf]at Z
   subst Z
   refine ci @t5 ⟨?_⟩
   exact⟨left,i3,rfl,cI.fr bE dZ Zo Zo (Zi _) Zo,gA,dc.trans dZ⟩
  |some F=>
   simp only[]at bc Z
   obtain⟨b,e7,J,rfl,rfl,nV,nn,cQ⟩:=bc
   refine gp @t0 @t1 @t5 @bB ⟨?_⟩
   rcases gl Z with ⟨fR,aO,rfl⟩|⟨right,gW,aO,Z⟩
   ·refine((al m Zo).level aY ba i3 (D+1) _ Zo (fK.go gA ie) aO).mono (λad T ao a=>by obtain⟨F,cy,a,_⟩:=a;cases a) (λad T ao a=>a.of (dc.trans dZ) (λ_ a=>a))
   refine((al m Zo).level aY ba i3 (D+1) _ Zo (fK.go gA ie) aO).mono ?_ (λad T ao a=>by obtain⟨J,a,_⟩:=a;cases a)
   rintro v4 bw c7 ⟨jM,i4,tj,dm,g9,eB⟩
   cases tj
   have ji:=eB.le
   have d1:aa X bw b=some (.cells (S.ofList (g2 e7 J [] false dJ 0 .aT) 0 .nil) 9 .own):=by rw[eB.ac _ Zo (by simp;omega)];exact cQ
   obtain⟨cu,rfl,l6,_⟩:=bE.ptr
   obtain⟨fV,rfl,nr,_⟩:=dm.ptr
   refine eu @t5 @d1 @t1 ⟨?_⟩
   have fin:∀gv,gv=bm X (bm X bw c7 (some (.cells (S.ofList [.ptr cu 0, .ptr fV 0] 0 .nil) 2 .own))) b (some (.cells (S.ofList (g2 e7 J [] false dJ 0 (.slice c7 0 2 2)) 0 .nil) 9 .own))->cI X gv (dy j (c7+1)) (two (.mk e7 J [] false dJ 0 []) left right) (.ptr b 0)/\a2 X gv aG bK aU i4/\b4 X [aG] h j gv (c7+1):=by
    rintro gv rfl
    refine⟨cI.lit (hY:= .own) (cL:=c7) (bk:=[.ptr cu 0, .ptr fV 0]) (bh Zo) ⟨Zo,Zo⟩ ?_ ⟨Zo,Zo⟩ rfl Zo Zo (dp.two (cI.ac (λe I=> ?_) _ _ bE) (cI.ac (λe I=> ?_) _ _ dm) (λe I=> ?_) (λe I=> ?_)), ?_, ?_⟩
    ·simp(disch:=omega) only[aE,bh]
    ·have R:=I.1;have U:=I.2
     simp(disch:=omega) only[aE]
     rw[eB.ac e Zo (by simp;omega),dZ.ac e Zo (by simp;omega)]
    ·have R:=I.1;have U:=I.2
     simp(disch:=omega) only[aE]
    ·simp only[dy]at I ⊢;omega
    ·simp only[dy]at I ⊢;omega
    ·exact g9.ac (by simp(disch:=omega) only[aE]) (by simp(disch:=omega) only[aE])
    ·exact⟨Zo,λe I bQ=>by
      rw[<-((dc.trans dZ).trans eB).ac e I bQ]
      simp(disch:=omega) only[aE]⟩
   obtain⟨eM,e3,jw⟩:=fin (bm X (bm X bw c7 (some (.cells (S.ofList [.ptr cu 0, .ptr fV 0] 0 .nil) 2 .own))) b (some (.cells (dT (S.ofList (g2 e7 J [] false dJ 0 .aT) 0 .nil) 8 (H.slice c7 0 2 2).cells) 9 .own))) rfl
   refine EF (λU=> ?_) (λU=> ?_)
   ·have jh:D=2:=Zo
    rw[Zq jh]at Z
    simp only[ok,Zf]at Z
    subst Z
    exact⟨_,i4,rfl,eM,e3,jw⟩
   ·rw[Zh Zo]at Z
    exact⟨m,Zo,_, .ptr b 0,i4,Zo,a1 t0,a1 t1,bn,eM,e3,jw,Z⟩
end
section
variable{X:ck}{h T aX aJ:S ak}{j ao aL a6 aG bK:Nat}{aU:List Tok}{i:Nat}
def auQ(ax:dv X){n:Nat}(al:∀m,m<n->qF X aG bK aU m):∀h j i r,it X h j aG bK aU i->Go.a2.shift n (aU.drop i)=some r->aR X 251 [.ptr aG 0] h j (jH X aG bK aU h j r) (iF X aG h j r):=by
 intro h j i r ay Z
 cases n with
 |zero=>simp[Go.a2.shift]at Z
 |succ n=>
 refine c4 (ahM X) (ax.none _ _ rfl) ?_
 rw[ahN]
 unfold U3
 have gL:=ay.a7
 have j3:=ay.hi
 have hT:=ay.fM
 have jz:=ay.gY
 unfold Go.a2.shift at Z
 rcases gl Z with ⟨J,R,rfl⟩|⟨left,eh,R,Z⟩
 ·exact((al n Zo).tE h j i _ ay R).mono (λad T ao a=>by obtain⟨F,cy,a,_⟩:=a;cases a) (λad T ao a=>a)
 refine((al n Zo).tE h j i _ ay R).mono ?_ (λad T ao a=>by obtain⟨J,a,_⟩:=a;cases a)
 rintro vJ aX aL ⟨F,eU,bt,bU,eo,h3⟩
 cases bt
 have jB:=h3.le
 refine gM ?_
 refine fD (λm K T aS=>∃left v cy,K.g 0=some (.ptr aG 0)/\K.g 3=some v/\cI X T (dy j aS) left v/\a2 X T aG bK aU cy/\b4 X [aG] h j T aS/\o8 m left (aU.drop cy)=some r)
  n ⟨left,vJ,eU,bn,bn,bU,eo,h3,Z⟩ ?_
 clear bU eo h3 R Z jB
 rintro m K aJ a6 ⟨left,v,eP,t0,t3,bE,dt,dc,Z⟩
 cases m with
 |zero=>simp[o8]at Z
 |succ m=>
 unfold o8 at Z
 have f2:=dc.le
 have fK:=ay.go dt f2
 refine gM ?_
 obtain⟨cu,rfl,l6,_⟩:=bE.ptr
 have l6:=l6.2
 refine ci @t0 ⟨?_⟩
 obtain⟨x,b5,aH,ag⟩:=qA Z
 refine(ny ax fK aH _).Zm ?_
 rintro y4 aY ba ⟨rfl,gA,dZ⟩
 have ie:=dZ.le
 have l3:=aH
 refine qW b9.eq_1 ⟨?_⟩
 refine ka (λc1 T aS=>∃Ja e7 x cy dW,c1.g 0=some (.ptr aG 0)/\c1.g 3=some (.ptr cu 0)/\c1.g 4=some (.Z e7)/\c1.g 5=some (.ptr dW 0)/\c1.g 6=some (.bool Ja)/\aa X T dW=some (.cells (S.ofList (b9 x) 0 .nil) 7 .own)/\a6<=dW/\dW<aS/\cI X T (dy j a6) left (.ptr cu 0)/\a2 X T aG bK aU cy/\b4 X [aG] h j T aS/\a6<=aS/\
  (Ja=true->o9 m e7 x left (aU.drop cy)=some r)/\(Ja=false->r= .ok (left,aU.drop cy))) (λY bH=> ?_) ?_
 ·have cQ:∀h,aa X (bm X (bm X h ba (some (.cells (S.ofList (b9 g0) 0 .nil) 7 .own))) ba (some (.cells (dT (S.ofList (b9 g0) 0 .nil) 0 (b9 x)) 7 .own))) ba=some (.cells (S.ofList (b9 x) 0 .nil) 7 .own):=λh=>bh Zo
  rcases ag with ⟨aI,Z⟩|⟨aI,Z⟩
  ·rw[aI]at gA ⊢
   simp only[ZD]at gA ⊢
   refine cH ⟨?_⟩
   refine bH _ _ _ ⟨true,19,x,eP+1,ba,a1 t0,a1 t3,bn,bn,bn,bh Zo,Zo,Zo, ?_,gA.ac (by simp(disch:=omega) only[aE]) (by simp(disch:=omega) only[aE]), ?_,Zo,λ_=>by rw[(fI l3).2];exact Z,λa=>by cases a⟩
   ·refine cI.ex bE (λe R U=> ?_) (Zi _) (Zi _)
    simp(disch:=omega) only[aE]
    exact dZ.ac e Zo (by simp;omega)
   ·exact⟨Zo,λe I bQ=>by rw[<-(dc.trans dZ).ac e I bQ];simp(disch:=omega) only[aE]⟩
  ·rw[aI]at gA ⊢
   simp only[Zv,ZB]at gA ⊢
   simp only[]at Z
   refine ci @t0 ⟨?_⟩
   refine e8 (λbw=>bj X aY ba bw (ba+1)/\aa X bw ba=some (.cells (S.ofList (b9 g0) 0 .nil) 7 .own)) ⟨dM,bh Zo⟩ ?_
   rintro bw ⟨dm,d1⟩
   have kE:=fK.go (gA.ex dm Zo Zo) (by omega:a6<=ba+1)
   obtain⟨e,gB,oE,aqe⟩:=qA Z
   refine(ny ax kE oE _).Zm ?_
   rintro D7 bL cb ⟨rfl,ha,dx⟩
   have hV:=dx.le
   have fA:aa X bL ba=some (.cells (S.ofList (b9 g0) 0 .nil) 7 .own):=by rw[dx.ac _ Zo (by simp;omega)];exact d1
   have d0:∀e,e<a6->e≠aG->aa X bL e=aa X aJ e:=λe R U=>by
    rw[dx.ac e Zo (by simpa using U),dm.ac e Zo,dZ.ac e Zo (by simpa using U)]
   have ey:=((dc.trans dZ).trans (b4.of dm)).trans dx
   unfold b9 g0 dJ at fA
   rcases aqe with ⟨yv,Z⟩|⟨yv,Z⟩
   ·rw[yv]at ha ⊢
    simp only[ZD]at ha ⊢
    refine cM b9.eq_1 @fA ⟨?_⟩
    refine bH _ _ _ ⟨true,20,e,eP+1,ba,a1 t0,a1 t3,bn,bn,bn,bh Zo,Zo,Zo, ?_,ha.ac (by simp(disch:=omega) only[aE]) (by simp(disch:=omega) only[aE]), ?_,Zo,λ_=>by rw[(fI oE).2];exact Z,λa=>by cases a⟩
    ·refine cI.ex bE (λe R U=> ?_) (Zi _) (Zi _)
     simp(disch:=omega) only[aE]
     exact d0 e U Zo
    ·exact⟨Zo,λe I bQ=>by rw[<-ey.ac e I bQ];simp(disch:=omega) only[aE]⟩
   ·rw[yv]at ha ⊢
    simp only[Zv,ZB]at ha ⊢
    simp only[ok,Zf]at Z
    refine gp b9.eq_1 g0.eq_1 dJ.eq_1 @fA ⟨?_⟩
    refine bH _ _ _ ⟨false,20,g0,eP,ba,a1 t0,a1 t3,bn,bn,bn,bh Zo,Zo,Zo, ?_,ha.ac (by simp(disch:=omega) only[aE]) (by simp(disch:=omega) only[aE]), ?_,Zo,λa=>(by cases a),λ_=>Z.symm⟩
    ·refine cI.ex bE (λe R U=> ?_) (Zi _) (Zi _)
     simp(disch:=omega) only[aE]
     exact d0 e U Zo
    ·exact⟨Zo,λe I bQ=>by rw[<-ey.ac e I bQ];simp(disch:=omega) only[aE]⟩
 ·clear bE gA dZ ag Z aH l3 dt fK
  rintro awI cd er ⟨Ja,e7,x,hW,dW,t0,t3,t4,t5,f3,dU,axT,axU,eO,hq,ey,q6,I,mY⟩
  cases Ja with
  |false=>
   have Z:=mY rfl
   subst Z
   refine cM @f3 @t3 ⟨?_⟩
   exact⟨left,hW,rfl,cI.lift (λe I=>⟨I.1,by have:=I.2;omega⟩) _ _ eO,hq,ey⟩
  |true=>
   have Z:=I rfl
   cases m with
   |zero=>simp[o9]at Z
   |succ m=>
   unfold o9 at Z
   have md:=ay.go hq (by omega:j<=er)
   refine cM @f3 @t0 ⟨?_⟩
   cases aH:aU.drop hW with
   |nil=>rw[aH]at Z;simp[iB,andThen]at Z
   |cons e l=>
   rw[aH]at Z
   simp only[iB]at Z
   refine(By ax md.a7 md.par md.fM md.hi md.gY md.many (fI aH).1 4).mono ?_ ?_
   ·rintro aeg cr d9 ⟨aF,rfl,hD,el⟩
    have mX:=el.le
    rw[Zq aF]at Z
    simp only[andThen,ok]at Z
    have eN:aa X cr dW=some (.cells (S.ofList (b9 x) 0 .nil) 7 .own):=by rw[el.ac _ Zo (by simp;omega)];exact dU
    have eF:=cI.ex (T:=cr) eO (λe R U=>el.ac e Zo (by simp;omega)) (Zi _) (Zi _)
    have nT:=ey.trans el
    refine qW b9.eq_1 ⟨?_⟩
    refine gM ?_
    refine EF (λQk=> ?_) (λQk=> ?_)
    ·rw[Zq Qk]at Z
     simp only[bad,Zf]at Z
     subst Z
     refine ci b9.eq_1 ⟨?_⟩
     refine(HN ax Zo e _ ?_).mono (λ_ _ _ a=>a.elim) (λ_ _ _ a=>a)
     intro T ao bS
     exact⟨_,rfl,rfl,nT.trans (b4.of (bj.trans dM bS))⟩
    ·rw[Zh Qk]at Z
     refine f7 b9.eq_1 @t4 @t5 @t3 (bJ eN) ⟨?_⟩
     refine⟨m,Zo,_, .ptr (d9+1+1) 0,hW+1,a1 t0,bn,cI.lit (D:=1) (cap:=1) (n:=e.n) (kind:=e7) (at_:=x.at_) (name:=[]) (no:=false) (ty:=dJ) (b:=d9+1+1) (hY:= .own) (cL:=d9+1) (bk:=[.ptr cu 0]) (bh (b:=d9+1+1) Zo) ⟨Zo,Zo⟩ ?_ ⟨Zo,Zo⟩ rfl Zo Zo (dp.one (cI.ac (λe I=> ?_) _ _ eF) (λe I=> ?_)), ?_, ?_,by rw[(fI aH).2];exact Z⟩
     ·simp(disch:=omega) only[aE,bh]<;>rfl
     ·have R:=I.1;have U:=I.2
      simp(disch:=omega) only[aE]
     ·simp only[dy]at I ⊢;omega
     ·exact hD.ac (by simp(disch:=omega) only[aE]) (by simp(disch:=omega) only[aE])
     ·exact⟨Zo,λe I bQ=>by
       rw[<-nT.ac e I bQ]
       simp(disch:=omega) only[aE]⟩
   ·rintro aeg cr d9 ⟨aF,rfl,el⟩
    rw[Zh aF]at Z
    simp only[andThen,bad,Zf]at Z
    subst Z
    exact⟨_,rfl,rfl,ey.trans el⟩
end
end
end Go.Proofs.YtpfajohmofnkfaaGreatDoor

