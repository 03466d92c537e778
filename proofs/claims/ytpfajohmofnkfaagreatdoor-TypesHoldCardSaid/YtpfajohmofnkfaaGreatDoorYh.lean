/- A part of the last text's proof; no condition of its own -/
import Derived.Test.YtpfajohmofnkfaaGreatDoorYg
import Derived.KernelRfl
import Derived.Test.YtpfajohmofnkfaaGreatDoorProg
set_option maxHeartbeats 8000000
set_option linter.all false
namespace Go.Proofs.YtpfajohmofnkfaaGreatDoor
open Go.bk
noncomputable section
structure co where
 G:V an
 ba:Nat
 O:Nat->List J->Option J
noncomputable def q(a:co):a2:=⟨Tryz.prog,a.G,a.ba,a.O,Tryz.prog.globals.size⟩
instance:Coe co a2:=⟨q⟩
variable (X : co) (h : V an) (j : Nat) (ak ay : bJ) (a0 bf ck a3 a4 a5 hv ic ir : J)
abbrev js(v x:J)(h:V an)(n:Nat)(F:bJ):Prop:=pd F λaa=>hQ true v (aa x h n) (aa bk.undef h n)
abbrev hd(v x:J)(h:V an)(n:Nat)(F:bJ):Prop:=pd F λaa=>hQ false v (aa x h n) (aa bk.undef h n)
abbrev cN(v:J)(Y:Option J)(h:V an)(n:Nat)(F:bJ):Prop:=pd F λaa=>hQ true v (E Y λx=>aa x h n) (aa bk.undef h n)
abbrev c9(v:J)(Y:Option J)(h:V an)(n:Nat)(F:bJ):Prop:=pd F λaa=>hQ false v (E Y λx=>aa x h n) (aa bk.undef h n)
abbrev kG(v:J)(Y:Option J)(h:V an)(n:Nat)(F:bJ):Prop:=pd F λaa=>hQ true v (aj Y λx=>aa x h n) (aa bk.undef h n)
abbrev tX(v:J)(Y:Option J)(h:V an)(n:Nat)(F:bJ):Prop:=pd F λaa=>hQ false v (aj Y λx=>aa x h n) (aa bk.undef h n)
abbrev DC(v:J)(Y:Option J)(ao:J->Option J)(h:V an)(n:Nat)(F:bJ):Prop:=pd F λaa=>hQ true v (aj Y λt=>E (ao t) λx=>aa x h n) (aa bk.undef h n)
abbrev acH(v:J)(Y:Option J)(ao:J->Option J)(h:V an)(n:Nat)(F:bJ):Prop:=pd F λaa=>hQ false v (aj Y λt=>E (ao t) λx=>aa x h n) (aa bk.undef h n)
abbrev jZ(v:J)(g:bJ->Prop)(h:V an)(n:Nat)(F:bJ):Prop:=pd F λaa=>hQ true v (g aa) (aa bk.undef h n)
abbrev kk(v:J)(g:bJ->Prop)(h:V an)(n:Nat)(F:bJ):Prop:=pd F λaa=>hQ false v (g aa) (aa bk.undef h n)
abbrev acG(v x:J)(h:V an)(F:J->V an->Prop):Prop:=sG F λaa=>hQ true v (aa x h) (aa bk.undef h)
abbrev Gm(v x:J)(h:V an)(F:J->V an->Prop):Prop:=sG F λaa=>hQ false v (aa x h) (aa bk.undef h)
abbrev e0(v:J)(Y:Option J)(h:V an)(F:J->V an->Prop):Prop:=sG F λaa=>hQ true v (E Y λx=>aa x h) (aa bk.undef h)
abbrev hU(v:J)(Y:Option J)(h:V an)(F:J->V an->Prop):Prop:=sG F λaa=>hQ false v (E Y λx=>aa x h) (aa bk.undef h)
abbrev nI(v:J)(Y:Option J)(h:V an)(F:J->V an->Prop):Prop:=sG F λaa=>hQ true v (aj Y λx=>aa x h) (aa bk.undef h)
abbrev vs(v:J)(Y:Option J)(h:V an)(F:J->V an->Prop):Prop:=sG F λaa=>hQ false v (aj Y λx=>aa x h) (aa bk.undef h)
abbrev JN(v:J)(Y:Option J)(ao:J->Option J)(h:V an)(F:J->V an->Prop):Prop:=sG F λaa=>hQ true v (aj Y λt=>E (ao t) λx=>aa x h) (aa bk.undef h)
abbrev Sk(v:J)(Y:Option J)(ao:J->Option J)(h:V an)(F:J->V an->Prop):Prop:=sG F λaa=>hQ false v (aj Y λt=>E (ao t) λx=>aa x h) (aa bk.undef h)
abbrev acF(v:J)(g:(J->V an->Prop)->Prop)(h:V an)(F:J->V an->Prop):Prop:=sG F λaa=>hQ true v (g aa) (aa bk.undef h)
abbrev Ng(v:J)(g:(J->V an->Prop)->Prop)(h:V an)(F:J->V an->Prop):Prop:=sG F λaa=>hQ false v (g aa) (aa bk.undef h)
def G7(a:a2)(b:bJ):gB:=λc d e=>nj a [.cell 2 23, .cell 3 26] b c c.bg d e
def Kk(a:a2)(b c:bJ):rZ:=λd e f g=>vP a [.cell 2 23, .cell 3 26] b c d e d.bg f g
def UQ(a:a2)(b:J)(c:V an)(d:Nat)(e f:bJ):Prop:=
 E (dA [.cy] d) λg=>cH a c d g.1 g.2 λc d g=>E (dA [(.Z 0),(.Z 0)] g) λh=>cH a d g h.1 h.2 λd g h=>aW a 66 [b] g h (λg h i=>E (cK 0 g) λj=>E (cK 1 g) λg=>E (b8 a h 2 d g) λg=>E (a1 0 d) λh=>E (al a g h) λh=>E (aC .neq h (.Z 0)) λh=>aT (λb c d=>aj (b 2) λg=>aj (b 3) λh=>H1 (.func (.func 67) [] [g,h]) [] b λb=>aj (b 4) λg=>E (eC [.aU,(.Z 0)] [(0,1,g)]) λg=>iG a c d g λc d g=>aW a 68 [c] d g (λc d g=>aj (b 2) λh=>E (b8 a d 1 h c) λc=>aj (b 2) λd=>E (al a c d) λd=>aW a 69 [d] c g (λ_ c d=>aj (b 2) λf=>E (al a c f) λf=>E (eC [(.Z 0),(.Z 0)] []) λg=>aj (b 2) λh=>E (b8 a c 1 h f) λc=>aj (b 3) λf=>E (b8 a c 2 f g) λc=>G7 a e b c d) (Kk a e f (hP [19,20] b))) (Kk a e f (hP [15,16,17,18] b))) λf=>aX h (eM (i+3) λf=>E (bM a g 2 d) λi=>E (b8 a g 1 c .cy) λg=>E (bM a g 2 d) λk=>gi k (some i) (E (b8 a g 2 d i) λg=>G7 a e (zy (cZ [b]) 2 c 3 d 4 j 12 h) g f)) (f (zy (cZ [b]) 2 c 3 d 4 j 12 h) g i)) (Kk a e f (hP [6,7,5,8,9,4] (zw (cZ [b]) 2 c 3 d)))
def ag0:AZ X 15 [a0] h j ak ay=UQ X a0 h j ak ay:=Zk
def agZ:cX X 15 1=true:=Zk
def OU(a:a2)(b c:J)(d:Option J)(e:V an)(f:Nat)(g:Bool->V an->Nat->Prop):Prop:=
 G4 (some d) (cZ [b,c]) λb c=>aT (λa b c=>g a.rc b c) λd=>E (dc a e .eql 20 true b .nilIface) λg=>aT d λd=>aX g (d (zw c 5 b 7 g) e f) (E (ET 26 (.agg [(.Z 0),(.Z 0)]) true b) λh=>E (cK 1 h) λi=>E (cK 0 h) λh=>aT d λd=>aX i (E (dA [(.Z 0),(.Z 0)] f) λj=>cH a e f j.1 j.2 λe f j=>E (b8 a f 2 e h) λf=>eM (j+3) λj=>E (bM a f 2 e) λk=>aj (c 0) λl=>E (b8 a f 1 l .cy) λf=>E (bM a f 2 e) λl=>gi l (some k) (aj (c 1) λl=>E (b8 a f 2 l k) λa=>d (ac (zy c 5 b 7 g 9 i 10 h) 3 e) a j)) (vQ (λ_ _ _=>False) b e f))
def V8(X:co)(a0 bf:J)(jJ:Option J)(h:V an)(j:Nat)(ak:Bool->V an->Nat->Prop):yt X 67 [a0,bf] jJ h j ak=OU X a0 bf jJ h j ak:=Zk
def OV:cX X 67 2=true:=Zk
def V9(a:a2)(b:J)(c:V an)(d:Nat)(e f:bJ):Prop:=
 E (eC [.aU] []) λg=>iG a c d g λc d g=>aT (λa b c=>aj (a 3) λa=>e a b c) λe=>fu (λb c d g=>aj (c 4) λh=>aT (λc d e=>aT (λc d e=>aj (c 0) λg=>aW a 116 [g] d e (λa d e=>E (ny false 0 1 a) λa=>E (aC .neq a (.Z 7)) λa=>b (ac c 4 a) d e) f) λb=>eM (e+12) λg=>aj (c 3) λh=>aj (c 3) λi=>E (cl i) λi=>E (a1 0 i) λi=>E (al a d i) λj=>aj (c 0) λk=>aW a 117 [k] d g (λd f g=>E (fw 1 [(.str []),(.Z 0), .aU, .aU, .aU, .aU] [(0,6,d)] (e+7)) λd=>ld a f (e+7) d.1 d.2 λd e=>E (al a e i) λf=>gi f (some j) (gR (is a e g 6 j d) e g λd e f=>E (cl h) λg=>E (a1 0 g) λg=>E (b8 a e 1 g d) λa=>b c a f)) f) λa=>aX h (a (ac c 7 h) d g) (e (ac c 7 h) d g)) (zx (cZ [b]) 2 .cy 3 c 4 (.bool true)) d g
def ajq:di X 68 [a0] h j ak ay=V9 X a0 h j ak ay:=Zk
def ajp:cX X 68 1=true:=Zk
def Wa(a:a2)(b:J)(c:V an)(d:Nat)(e f:bJ):Prop:=
 E (cl b) λg=>E (a1 0 g) λg=>E (al a c g) λg=>E (dI g) λg=>E (aC .gtr g (.Z 64)) λg=>aT (λb c d=>aj (b 0) λg=>E (cl g) λg=>E (a1 0 g) λg=>E (al a c g) λg=>E (dI g) λh=>aT (λ_ a b=>e (.tuple []) a b) λe=>fu (λb c d g=>aj (c 26) λh=>aj (c 25) λi=>E (aC .lss h i) λh=>aT (λc d e=>aT (λa c d=>aj (a 26) λe=>E (aC .add e (.Z 1)) λe=>b (ac a 26 e) c d) λb=>aj (c 24) λg=>aj (c 26) λh=>E (dd 6 g h) λg=>E (bM a d 6 g) λg=>E (dA [(.str []),(.Z 0), .aU, .aU, .aU, .aU] e) λh=>cH a d e h.1 h.2 λd e h=>E (b8 a e 6 d g) λe=>E (a1 2 d) λg=>E (al a e g) λg=>E (dI g) λg=>E (a1 3 d) λi=>E (al a e i) λi=>E (dI i) λi=>E (aC .add g i) λg=>E (a1 4 d) λi=>E (al a e i) λi=>E (dI i) λi=>E (aC .add g i) λg=>E (aC .gtr g (.Z 256)) λg=>c9 g (a1 5 d) e h (λe h i=>c9 g (al a h e) h i (λe h i=>c9 g (dI e) h i (λe h i=>c9 g (aC .gtr e (.Z 4096)) h i (λe h i=>cU (λe=>aT (λc d e=>aj (c 3) λg=>E (a1 5 g) λg=>E (al a d g) λg=>E (dI g) λh=>aT b λb=>fu (λc d e g=>aj (d 55) λh=>aj (d 54) λi=>E (aC .lss h i) λh=>aT (λb d e=>aT (λa b d=>aj (a 55) λe=>E (aC .add e (.Z 1)) λe=>c (ac a 55 e) b d) λc=>aj (b 53) λg=>aj (b 55) λh=>E (dd 4 g h) λg=>E (bM a d 4 g) λg=>E (dA [.aU, .aU,(.Z 0), .cy] e) λh=>cH a d e h.1 h.2 λd e h=>E (b8 a e 4 d g) λe=>E (a1 3 d) λg=>E (al a e g) λg=>aW a 118 [g] e h (λe g h=>E (aC .gtr e (.Z 200)) λe=>aT c λc=>aX e (E (a1 2 d) λb=>E (al a g b) λa=>E (eC [(.Z 0),(.Z 0)] [(0,1,(.Z 22)),(1,1,a)]) λa=>E (some (J.iface 26 a)) λa=>vQ f a g h) (c (zw b 5 d 62 e) g h)) f) λa=>aX h (a (ac d 56 h) e g) (b (ac d 56 h) e g)) (zx c 53 g 54 h 55 (.Z 0)) d e) λb=>aX e (E (a1 1 d) λb=>E (al a h b) λa=>E (eC [(.Z 0),(.Z 0)] [(0,1,(.Z 30)),(1,1,a)]) λa=>E (some (J.iface 26 a)) λa=>vQ f a h i) (b (zw c 3 d 47 e) h i)) λa=>aX g (a (.bool true)) (a e)))))) λa=>aX h (a (ac c 27 h) d g) (e (ac c 27 h) d g)) (zx b 24 g 25 h 26 (.Z 0)) c d) λe=>aX g (E (cl b) λb=>E (a1 0 b) λb=>E (al a c b) λb=>E (dd 6 b (.Z 64)) λb=>E (a1 1 b) λb=>E (al a c b) λa=>E (eC [(.Z 0),(.Z 0)] [(0,1,(.Z 30)),(1,1,a)]) λa=>E (some (J.iface 26 a)) λa=>vQ f a c d) (e (ac (cZ [b]) 11 g) c d)
def ajs:di X 69 [a0] h j ak ay=Wa X a0 h j ak ay:=Zk
def ajr:cX X 69 1=true:=Zk
def Ut(a:a2)(b:J)(c:V an)(d:Nat)(e _:bJ):Prop:=
 E (dA [(.Z 0),(.str []),(.Z 0),(.int .u64 0),(.bool false),(.bool false),(.Z 0)] d) λf=>cH a c d f.1 f.2 λc d f=>eM (f+11) λf=>E (cl b) λg=>E (a1 0 g) λg=>E (al a d g) λg=>E (cl b) λb=>E (a1 1 b) λb=>E (al a d b) λb=>E (dd 7 g b) λb=>E (bM a d 7 b) λb=>E (b8 a d 7 c b) λb=>E (bM a b 7 c) λa=>e a b f
def agk:di X 116 [a0] h j ak ay=Ut X a0 h j ak ay:=Zk
def agj:cX X 116 1=true:=Zk
def Uu(a:a2)(b:J)(c:V an)(d:Nat)(e f:bJ):Prop:=
 E (dA [(.str []),(.Z 0), .aU, .aU, .aU, .aU] d) λg=>cH a c d g.1 g.2 λc d g=>E (fw 1 [(.str [])] [(0,1,(.str [110,111,100,101]))] g) λh=>cH a d g h.1 h.2 λd g h=>aW a 172 [b,d] g h (λ_ d g=>aW a 173 [b,(.Z 1)] d g (λd g h=>E (dA [(.Z 0),(.str []),(.Z 0),(.int .u64 0),(.bool false),(.bool false),(.Z 0)] h) λi=>cH a g h i.1 i.2 λg h i=>E (b8 a h 7 g d) λd=>E (a1 1 g) λh=>E (al a d h) λh=>E (a1 2 g) λj=>E (al a d j) λj=>E (eC [(.str []),(.Z 0), .aU, .aU, .aU, .aU] [(0,1,h),(1,1,j)]) λh=>E (dA [(.str []),(.Z 0), .aU, .aU, .aU, .aU] i) λj=>cH a d i j.1 j.2 λd i j=>E (b8 a i 6 d h) λh=>E (fw 1 [(.str [])] [(0,1,(.str [40]))] j) λi=>cH a h j i.1 i.2 λh i j=>aW a 172 [b,h] i j (λ_ h i=>aW a 174 [b,(.str [41])] h i (λh i j=>E (cK 0 h) λk=>E (cK 1 h) λh=>E (dA [(.Z 0),(.str []),(.Z 0),(.int .u64 0),(.bool false),(.bool false),(.Z 0)] j) λl=>cH a i j l.1 l.2 λi j l=>E (b8 a j 7 i k) λi=>E (fe .not h) λj=>aT (λb c d=>aj (b 0) λg=>E (fw 2 [(.str []),(.str [])] [(0,1,(.str [114,101,116,117,114,110,115])),(1,1,(.str [40]))] d) λh=>cH a c d h.1 h.2 λc d h=>aW a 172 [g,c] d h (λ_ c d=>aj (b 0) λg=>aW a 175 [g,(.bool false)] c d (λc d g=>aj (b 4) λh=>E (a1 3 h) λh=>E (b8 a d 1 h c) λc=>aj (b 0) λd=>E (fw 1 [(.str [])] [(0,1,(.str [41]))] g) λh=>cH a c g h.1 h.2 λc g h=>aW a 172 [d,c] g h (λ_ c d=>aj (b 0) λg=>aW a 174 [g,(.str [118,97,114])] c d (λc d g=>E (cK 0 c) λh=>E (cK 1 c) λc=>E (dA [(.Z 0),(.str []),(.Z 0),(.int .u64 0),(.bool false),(.bool false),(.Z 0)] g) λi=>cH a d g i.1 i.2 λd g i=>E (b8 a g 7 d h) λd=>aT (λb c d=>aj (b 0) λg=>E (fw 1 [(.str [])] [(0,1,(.str [108,101,116]))] d) λh=>cH a c d h.1 h.2 λc d h=>aW a 172 [g,c] d h (λ_ c d=>aT (λb c d=>aj (b 2) λb=>E (bM a c 6 b) λa=>e a c d) λ_=>fu (λb c d g=>aT b λb=>aj (c 0) λh=>aW a 174 [h,(.str [116,101,108])] d g (λd g h=>E (cK 0 d) λi=>E (cK 1 d) λd=>E (dA [(.Z 0),(.str []),(.Z 0),(.int .u64 0),(.bool false),(.bool false),(.Z 0)] h) λj=>cH a g h j.1 j.2 λg h j=>E (b8 a h 7 g i) λg=>aT (λc d e=>eM (e+8) λg=>aj (c 4) λh=>E (a1 5 h) λh=>E (al a d h) λi=>aj (c 0) λj=>aW a 176 [j] d g (λd f g=>E (fw 1 [.aU, .aU,(.Z 0), .cy] [(0,4,d)] (e+4)) λd=>ld a f (e+4) d.1 d.2 λd e=>E (al a e h) λf=>gi f (some i) (gR (is a e g 4 i d) e g λd e f=>aj (c 4) λg=>E (a1 5 g) λg=>E (b8 a e 1 g d) λa=>b c a f)) f) λb=>aX d (aj (c 4) λb=>E (bM a g 6 b) λb=>aj (c 2) λd=>E (b8 a g 6 d b) λb=>aj (c 2) λc=>E (bM a b 6 c) λa=>e a b j) (b (zw c 10 d 66 d) g j)) f) b c d) f) λe=>aX c (aj (b 0) λg=>aW a 175 [g,(.bool true)] d i (λd g h=>aj (b 4) λi=>E (a1 4 i) λi=>E (b8 a g 1 i d) λd=>aj (b 0) λg=>E (fw 1 [(.str [])] [(0,1,(.str [59]))] h) λi=>cH a d h i.1 i.2 λd h i=>aW a 172 [g,d] h i (λ_ a d=>e (zw b 8 c 51 c) a d) f) f) (e (zw b 8 c 51 c) d i)) f) f) f) f) λe=>aX j (aW a 175 [b,(.bool false)] i l (λi k l=>E (a1 2 d) λm=>E (b8 a k 1 m i) λi=>E (fw 1 [(.str [])] [(0,1,(.str [41]))] l) λk=>cH a i l k.1 k.2 λi k l=>aW a 172 [b,i] k l (λ_ a f=>e (ac (zy (cZ [b]) 2 c 3 g 4 d 6 h) 30 j) a f) f) f) (e (ac (zy (cZ [b]) 2 c 3 g 4 d 6 h) 30 j) i l)) f) f) f) f
def agm:di X 117 [a0] h j ak ay=Uu X a0 h j ak ay:=Zk
def agl:cX X 117 1=true:=Zk
def U0(a:a2)(b c:J)(d:V an)(e:Nat)(f g:bJ):Prop:=
 E (dA [(.Z 0),(.str []),(.Z 0),(.int .u64 0),(.bool false),(.bool false),(.Z 0)] e) λh=>cH a d e h.1 h.2 λd e h=>E (dA [(.Z 0),(.str []),(.Z 0),(.int .u64 0),(.bool false),(.bool false),(.Z 0)] h) λi=>cH a e h i.1 i.2 λe h i=>E (dI c) λj=>aT (λb c d=>aj (b 5) λe=>E (bM a c 7 e) λe=>aj (b 4) λg=>E (b8 a c 7 g e) λc=>aj (b 4) λb=>E (bM a c 7 b) λa=>f a c d) λf=>fu (λb c d e=>aj (c 11) λh=>aj (c 10) λi=>E (aC .lss h i) λh=>aT (λc d e=>aT (λa c d=>aj (a 11) λe=>E (aC .add e (.Z 1)) λe=>b (ac a 11 e) c d) λb=>aj (c 9) λf=>aj (c 11) λh=>E (dd 1 f h) λf=>E (al a d f) λf=>aj (c 0) λh=>aW a 174 [h,f] d e (λd e h=>E (cK 0 d) λi=>E (cK 1 d) λd=>aj (c 5) λj=>E (b8 a e 7 j i) λe=>E (fe .not d) λi=>aT b λb=>aX i (aj (c 0) λj=>aW a 116 [j] e h (λe h j=>aW a 206 [e] h j (λ_ a e=>b (zy c 7 f 8 (.bool false) 8 d 22 i) a e) g) g) (b (zy c 7 f 8 (.bool false) 8 d 22 i) e h)) g) λa=>aX h (a (ac c 12 h) d e) (f (ac c 12 h) d e)) (ac (zy (cZ [b,c]) 4 d 5 e 9 c 10 j) 11 (.Z 0)) h i
def ahk:di X 172 [a0,bf] h j ak ay=U0 X a0 bf h j ak ay:=Zk
def ahj:cX X 172 2=true:=Zk
def U1(a:a2)(b c:J)(d:V an)(e:Nat)(f g:bJ):Prop:=
 E (dA [(.Z 0),(.str []),(.Z 0),(.int .u64 0),(.bool false),(.bool false),(.Z 0)] e) λh=>cH a d e h.1 h.2 λd e h=>aW a 116 [b] e h (λe h i=>E (dA [(.Z 0),(.str []),(.Z 0),(.int .u64 0),(.bool false),(.bool false),(.Z 0)] i) λj=>cH a h i j.1 j.2 λh i j=>E (b8 a i 7 h e) λe=>E (a1 0 h) λi=>E (al a e i) λi=>E (aC .neq i c) λi=>aT (λb c d=>aj (b 0) λe=>E (cl e) λg=>E (a1 1 g) λg=>E (al a c g) λg=>E (aC .add g (.Z 1)) λg=>E (cl e) λe=>E (a1 1 e) λe=>E (b8 a c 1 e g) λc=>aj (b 5) λe=>E (bM a c 7 e) λe=>aj (b 4) λg=>E (b8 a c 7 g e) λc=>aj (b 4) λb=>E (bM a c 7 b) λa=>f a c d) λf=>aX i (E (bM a e 7 h) λk=>aW a 206 [k] e j (λ_ a e=>f (zx (cZ [b,c]) 4 d 5 h 11 i) a e) g) (f (zx (cZ [b,c]) 4 d 5 h 11 i) e j)) g
def ahm:di X 173 [a0,bf] h j ak ay=U1 X a0 bf h j ak ay:=Zk
def ahl:cX X 173 2=true:=Zk
def OS(a:a2)(b c:J)(d:V an)(e:Nat)(f g:bJ):Prop:=
 E (dA [(.Z 0),(.str []),(.Z 0),(.int .u64 0),(.bool false),(.bool false),(.Z 0)] e) λh=>cH a d e h.1 h.2 λd e h=>aW a 116 [b] e h (λe g h=>E (dA [(.Z 0),(.str []),(.Z 0),(.int .u64 0),(.bool false),(.bool false),(.Z 0)] h) λi=>cH a g h i.1 i.2 λg h i=>E (b8 a h 7 g e) λe=>E (a1 0 g) λh=>E (al a e h) λh=>E (aC .neq h (.Z 2)) λh=>cN h (a1 0 g) e i (λe i j=>cN h (al a i e) i j (λe i j=>cN h (aC .neq e (.Z 6)) i j (λe i j=>cU (λe=>c9 e (a1 1 g) i j (λh i j=>c9 e (al a i h) i j (λh i j=>hd e c i j (λi j k=>c9 e (dc a j .neq 9 false h i) j k (λh i j=>cU (λe=>aT (λb c d=>aj (b 0) λe=>E (cl e) λg=>E (a1 1 g) λg=>E (al a c g) λg=>E (aC .add g (.Z 1)) λg=>E (cl e) λe=>E (a1 1 e) λe=>E (b8 a c 1 e g) λc=>aj (b 6) λe=>E (bM a c 7 e) λe=>aj (b 4) λg=>E (b8 a c 7 g e) λc=>aj (b 4) λb=>E (bM a c 7 b) λa=>f (.tuple [a,(.bool true)]) c d) λh=>aX e (E (eC [(.Z 0),(.str []),(.Z 0),(.int .u64 0),(.bool false),(.bool false),(.Z 0)] []) λb=>E (b8 a i 7 d b) λb=>E (bM a b 7 d) λa=>f (.tuple [a,(.bool false)]) b j) (h (zy (cZ [b,c]) 4 d 5 (.bool false) 6 g 22 e) i j)) λa=>aX e (a (.bool true)) (a h)))))) λa=>aX h (a e) (a (.bool false)))))) g
def U3:di X 174 [a0,bf] h j ak ay=OS X a0 bf h j ak ay:=Zk
def U2:cX X 174 2=true:=Zk
def U4(a:a2)(b c:J)(d:V an)(e:Nat)(f g:bJ):Prop:=
 aT (λa b c=>aj (a 4) λa=>f a b c) λ_=>fu (λb c d e=>aT b λb=>aT (λc d e=>aj (c 0) λh=>E (fw 1 [(.str [])] [(0,1,(.str [58]))] e) λi=>cH a d e i.1 i.2 λd e i=>aW a 172 [h,d] e i (λ_ d e=>aj (c 0) λh=>aW a 173 [h,(.Z 3)] d e (λd e h=>E (ny true 4 3 d) λd=>E (eC [(.str []),(.Z 0),(.bool false),(.bool false),(.Z 0),(.str []),(.Z 0),(.bool false)] [(2,3,d)]) λd=>E (dA [(.str []),(.Z 0),(.bool false),(.bool false),(.Z 0),(.str []),(.Z 0),(.bool false)] h) λi=>cH a e h i.1 i.2 λe h i=>E (b8 a h 8 e d) λd=>aj (c 0) λh=>aW a 174 [h,(.str [119,104,101,110])] d i (λd h i=>E (cK 0 d) λj=>E (cK 1 d) λd=>E (dA [(.Z 0),(.str []),(.Z 0),(.int .u64 0),(.bool false),(.bool false),(.Z 0)] i) λk=>cH a h i k.1 k.2 λh i k=>E (b8 a i 7 h j) λh=>aT (λc d e=>aj (c 6) λh=>E (dI h) λi=>aT (λc d e=>eM (e+22) λe=>aj (c 0) λh=>aW a 116 [h] d e (λd e g=>E (ny false 1 1 d) λd=>E (dc a e .neq 9 true d (.str [59])) λd=>vs d (c 1) e (λe h=>Gm d e h (λe h=>nI e (c 0) h (λh i=>e0 e (cl h) i (λh i=>e0 e (a1 0 h) i (λh i=>e0 e (al a i h) i (λh i=>nI e (c 0) i (λi j=>e0 e (cl i) j (λi j=>e0 e (a1 1 i) j (λi j=>e0 e (al a j i) j (λi j=>e0 e (aC .add i (.Z 1)) j (λi j=>e0 e (dd 7 h i) j (λh i=>e0 e (a1 1 h) i (λh i=>e0 e (al a i h) i (λh i=>e0 e (dc a i .eql 9 true h (.str [108,101,116])) i (λh i=>Ng d (λa=>cU (λb=>a b i) λa=>aX e (a h) (a (.bool false))) i (λe h=>cU (λd=>aT (λc d e=>aj (c 0) λf=>E (cl f) λg=>E (a1 1 g) λg=>E (al a d g) λg=>E (aC .add g (.Z 1)) λg=>E (cl f) λf=>E (a1 1 f) λf=>E (b8 a d 1 f g) λa=>b c a e) λa=>aX d (aj (c 5) λa=>f a h g) (a (ac c 90 d) h g)) λa=>aX d (a (.bool true)) (a e)))))))))))))))))) g) λb=>fu (λc d e f=>aj (d 54) λg=>aj (d 53) λh=>E (aC .lss g h) λg=>aT (λb d e=>aT (λa b d=>aj (a 54) λe=>E (aC .add e (.Z 1)) λe=>c (ac a 54 e) b d) λc=>aj (b 52) λf=>aj (b 54) λg=>E (dd 7 f g) λf=>E (bM a d 7 f) λf=>E (dA [(.Z 0),(.str []),(.Z 0),(.int .u64 0),(.bool false),(.bool false),(.Z 0)] e) λg=>cH a d e g.1 g.2 λd e g=>E (b8 a e 7 d f) λe=>eM (g+8) λf=>E (a1 1 d) λg=>E (al a e g) λg=>E (a1 2 d) λh=>E (al a e h) λi=>aj (b 8) λj=>E (a1 0 j) λj=>E (b8 a e 1 j g) λe=>aj (b 8) λg=>E (a1 1 g) λg=>E (al a e h) λh=>gi h (some i) (E (b8 a e 1 g i) λe=>aj (b 5) λg=>aj (b 8) λh=>E (bM a e 8 h) λh=>E (fw 1 [(.str []),(.Z 0),(.bool false),(.bool false),(.Z 0),(.str []),(.Z 0),(.bool false)] [(0,8,h)] f) λh=>cH a e f h.1 h.2 λe f h=>gR (is a f h 8 g e) f h λa e f=>c (zw b 13 d 5 a) e f)) λa=>aX g (a (ac d 55 g) e f) (b (ac d 55 g) e f)) (zx c 52 h 53 i 54 (.Z 0)) d e) λb=>aX d (aj (c 0) λf=>aW a 174 [f,(.str [110,111,116])] h k (λf h i=>E (cK 0 f) λ_=>E (cK 1 f) λf=>E (a1 7 e) λj=>E (b8 a h 1 j f) λf=>aj (c 0) λh=>aW a 173 [h,(.Z 1)] f i (λf g h=>E (dA [(.Z 0),(.str []),(.Z 0),(.int .u64 0),(.bool false),(.bool false),(.Z 0)] h) λi=>cH a g h i.1 i.2 λg h i=>E (b8 a h 7 g f) λf=>eM (i+8) λh=>E (a1 1 g) λi=>E (al a f i) λi=>E (a1 2 g) λj=>E (al a f j) λk=>E (a1 5 e) λl=>E (b8 a f 1 l i) λf=>E (a1 6 e) λi=>E (al a f j) λj=>gi j (some k) (E (b8 a f 1 i k) λa=>b (zy c 8 e 10 d 37 d 11 g) a h)) g) g) (b (zx c 8 e 10 d 37 d) h k)) g) g) g) λb=>fu (λc d e f=>aj (d 7) λh=>aT (λb d e=>aT (λb d e=>aj (b 0) λf=>aW a 174 [f,(.str [44])] d e (λa d e=>E (cK 0 a) λ_=>E (cK 1 a) λa=>c (ac b 7 a) d e) g) λc=>aj (b 6) λf=>aj (b 0) λh=>aW a 173 [h,(.Z 1)] d e (λd e g=>E (fw 1 [(.Z 0),(.str []),(.Z 0),(.int .u64 0),(.bool false),(.bool false),(.Z 0)] [(0,7,d)] g) λd=>cH a e g d.1 d.2 λd e g=>gR (is a e g 7 f d) e g λa d e=>c (ac b 6 a) d e) g) λa=>aX h (a (ac d 14 h) e f) (b (ac d 14 h) e f)) (zw c 6 .aU 7 (.bool true)) d e) (zw (cZ [b,c]) 4 .aU 5 .aU) d e
def aho:di X 175 [a0,bf] h j ak ay=U4 X a0 bf h j ak ay:=Zk
def ahn:cX X 175 2=true:=Zk
def U5(a:a2)(b:J)(c:V an)(d:Nat)(e f:bJ):Prop:=
 iG a c d b λc d g=>E (dA [.aU, .aU,(.Z 0), .cy] g) λh=>cH a d g h.1 h.2 λd g h=>E (dA [.aU, .aU,(.Z 0), .cy] h) λi=>cH a g h i.1 i.2 λg h i=>E (al a h c) λj=>aW a 174 [j,(.str [40])] h i (λh i j=>E (cK 0 h) λk=>E (cK 1 h) λh=>E (dA [(.Z 0),(.str []),(.Z 0),(.int .u64 0),(.bool false),(.bool false),(.Z 0)] j) λl=>cH a i j l.1 l.2 λi j l=>E (b8 a j 7 i k) λi=>aT (λb c d=>aj (b 1) λg=>E (al a c g) λg=>E (fw 1 [(.str [])] [(0,1,(.str [61]))] d) λh=>cH a c d h.1 h.2 λc d h=>aW a 172 [g,c] d h (λc d g=>E (ny false 2 1 c) λc=>aj (b 3) λh=>E (a1 2 h) λh=>E (b8 a d 1 h c) λc=>aj (b 1) λd=>E (al a c d) λd=>aW a 208 [d] c g (λc d g=>aj (b 3) λh=>E (a1 3 h) λh=>E (b8 a d 1 h c) λc=>aj (b 1) λd=>E (al a c d) λd=>E (fw 1 [(.str [])] [(0,1,(.str [59]))] g) λh=>cH a c g h.1 h.2 λc g h=>aW a 172 [d,c] g h (λ_ c d=>aj (b 3) λf=>E (bM a c 4 f) λf=>aj (b 2) λg=>E (b8 a c 4 g f) λc=>aj (b 2) λb=>E (bM a c 4 b) λa=>e a c d) f) f) f) λe=>aX h (iw a (.func (.func 207) [] [c,g]) [] i l (λ_ i j=>E (al a i c) λk=>E (fw 1 [(.str [])] [(0,1,(.str [44]))] j) λl=>cH a i j l.1 l.2 λi j l=>aW a 172 [k,i] j l (λ_ i j=>aT (λb c d=>aj (b 1) λg=>E (al a c g) λg=>E (fw 1 [(.str [])] [(0,1,(.str [41]))] d) λh=>cH a c d h.1 h.2 λc d h=>aW a 172 [g,c] d h (λ_ a c=>e b a c) f) λe=>fu (λb c d g=>aj (c 7) λh=>aT (λc d e=>aT (λc d e=>aj (c 1) λg=>E (al a d g) λg=>aW a 174 [g,(.str [44])] d e (λa d e=>E (cK 0 a) λ_=>E (cK 1 a) λa=>b (ac c 7 a) d e) f) λb=>aj (c 4) λg=>iw a g [] d e (λ_ a d=>b c a d) f) λa=>aX h (a (ac c 20 h) d g) (e (ac c 20 h) d g)) (zx (zy (cZ [b]) 1 c 2 d 3 g 4 (.func (.func 207) [] [c,g])) 6 h 14 h 7 (.bool true)) i j) f) f) (iw a (.func (.func 207) [] [c,g]) [] i l (λ_ a f=>e (zw (zy (cZ [b]) 1 c 2 d 3 g 4 (.func (.func 207) [] [c,g])) 6 h 14 h) a f) f)) f
def ahq:di X 176 [a0] h j ak ay=U5 X a0 h j ak ay:=Zk
def ahp:cX X 176 1=true:=Zk
def Vu(a:a2)(b:J)(c:V an)(d:Nat)(_ e:bJ):Prop:=
 iG a c d b λb c d=>E (a1 2 b) λb=>E (al a c b) λa=>E (eC [(.Z 0),(.Z 0)] [(0,1,(.Z 21)),(1,1,a)]) λa=>E (some (J.iface 26 a)) λa=>vQ e a c d
def ah8:di X 206 [a0] h j ak ay=Vu X a0 h j ak ay:=Zk
def ah7:cX X 206 1=true:=Zk
def Vv(a:a2)(b c:J)(d:V an)(e:Nat)(f g:bJ):Prop:=
 E (al a d b) λb=>aW a 173 [b,(.Z 1)] d e (λb d e=>E (dA [(.Z 0),(.str []),(.Z 0),(.int .u64 0),(.bool false),(.bool false),(.Z 0)] e) λg=>cH a d e g.1 g.2 λd e g=>E (b8 a e 7 d b) λb=>eM (g+16) λe=>E (a1 0 c) λh=>E (al a b h) λh=>E (a1 1 d) λi=>E (al a b i) λi=>E (fw 1 [(.str [])] [(0,1,i)] (g+4)) λi=>ld a b (g+4) i.1 i.2 λb i=>E (a1 1 c) λj=>E (al a i j) λk=>E (a1 2 d) λd=>E (al a i d) λl=>E (fw 1 [(.Z 0)] [(0,1,l)] (g+10)) λm=>ld a i (g+10) m.1 m.2 λg i=>gR (is a i e 1 h b) i e λb e h=>E (a1 0 c) λi=>E (al a e j) λj=>gi j (some k) (E (al a e d) λd=>gi d (some l) (gR (is a e h 1 k g) e h λd e g=>E (b8 a e 1 i b) λb=>E (a1 1 c) λc=>E (b8 a b 1 c d) λa=>f (.tuple []) a g))) g
def aia:di X 207 [a0,bf] h j ak ay=Vv X a0 bf h j ak ay:=Zk
def ah9:cX X 207 2=true:=Zk
def Vw(a:a2)(b:J)(c:V an)(d:Nat)(e f:bJ):Prop:=
 aW a 232 [b] c d (λc d g=>aW a 174 [b,(.str [45,62])] d g (λd g h=>E (cK 0 d) λi=>E (cK 1 d) λd=>E (dA [(.Z 0),(.str []),(.Z 0),(.int .u64 0),(.bool false),(.bool false),(.Z 0)] h) λj=>cH a g h j.1 j.2 λg h j=>E (b8 a h 7 g i) λh=>E (fe .not d) λi=>aT (λb c d=>eM (d+9) λg=>aj (b 4) λh=>E (a1 2 h) λh=>E (al a c h) λi=>aj (b 3) λj=>aj (b 0) λb=>aW a 208 [b] c g (λb c f=>E (fw 2 [.cy, .cy] [(0,1,j),(1,1,b)] (d+5)) λb=>ld a c (d+5) b.1 b.2 λb c=>E (eC [(.Z 0),(.Z 0),(.str []),(.bool false),(.bool false),(.bool false),(.Z 0),(.int .u64 0), .aU] [(0,1,(.Z 22)),(1,1,i),(8,1,b)]) λb=>yg a c (d+7) b λb c=>E (al a c h) λa=>gi a (some i) (e b c f)) f) λa=>aX i (e c h j) (a (ac (zy (cZ [b]) 2 .cy 3 c 4 g 5 d) 14 i) h j)) f) f
def aic:di X 208 [a0] h j ak ay=Vw X a0 h j ak ay:=Zk
def aib:cX X 208 1=true:=Zk
def VK(a:a2)(b:J)(c:V an)(d:Nat)(e f:bJ):Prop:=
 aW a 243 [b,(.Z 0)] c d (λc d g=>aW a 174 [b,(.str [102,98,121])] d g (λd g h=>E (cK 0 d) λi=>E (cK 1 d) λd=>E (dA [(.Z 0),(.str []),(.Z 0),(.int .u64 0),(.bool false),(.bool false),(.Z 0)] h) λj=>cH a g h j.1 j.2 λg h j=>E (b8 a h 7 g i) λh=>E (fe .not d) λi=>aT (λb c d=>aj (b 3) λg=>E (cl g) λg=>E (a1 0 g) λg=>E (al a c g) λg=>E (aC .neq g (.Z 1)) λg=>kG g (b 3) c d (λc d h=>cN g (cl c) d h (λc d h=>cN g (a1 0 c) d h (λc d h=>cN g (al a d c) d h (λc d h=>cN g (aC .neq c (.Z 4)) d h (λc d h=>js g c d h (λc d h=>tX c (b 3) d h (λd h i=>c9 c (cl d) h i (λd h i=>c9 c (a1 8 d) h i (λd h i=>c9 c (al a h d) h i (λd h i=>c9 c (dd 1 d (.Z 0)) h i (λd h i=>c9 c (al a h d) h i (λd h i=>c9 c (cl d) h i (λd h i=>c9 c (a1 0 d) h i (λd h i=>c9 c (al a h d) h i (λd h i=>c9 c (aC .neq d (.Z 1)) h i (λd h i=>jZ g (λa=>cU (λb=>a b h i) λa=>aX c (a (.bool true)) (a d)) h i (λc d h=>cU (λc=>aT (λb c d=>eM (d+9) λg=>aj (b 4) λh=>E (a1 2 h) λh=>E (al a c h) λi=>aj (b 3) λj=>aj (b 0) λb=>aW a 232 [b] c g (λb c f=>E (fw 2 [.cy, .cy] [(0,1,j),(1,1,b)] (d+5)) λb=>ld a c (d+5) b.1 b.2 λb c=>E (eC [(.Z 0),(.Z 0),(.str []),(.bool false),(.bool false),(.bool false),(.Z 0),(.int .u64 0), .aU] [(0,1,(.Z 21)),(1,1,i),(8,1,b)]) λb=>yg a c (d+7) b λb c=>E (al a c h) λa=>gi a (some i) (e b c f)) f) λe=>aX c (aj (b 4) λg=>E (bM a d 7 g) λg=>aW a 206 [g] d h (λ_ a d=>e (ac b 39 c) a d) f) (e (ac b 39 c) d h)) λa=>aX g (a c) (a (.bool false)))))))))))))))))))) λa=>aX i (e c h j) (a (ac (zy (cZ [b]) 2 .cy 3 c 4 g 5 d) 14 i) h j)) f) f
def aiG:di X 232 [a0] h j ak ay=VK X a0 h j ak ay:=Zk
def aiF:cX X 232 1=true:=Zk
def VQ(a:a2)(b c:J)(d:V an)(e:Nat)(f g:bJ):Prop:=
 E (aC .eql c (.Z 5)) λh=>aT (λb c d=>aj (b 0) λe=>aj (b 1) λh=>E (aC .add h (.Z 1)) λh=>aW a 243 [e,h] c d (λc d e=>aT (λa b c=>aj (a 4) λa=>f a b c) λ_=>fu (λb c d e=>aT b λb=>aj (c 0) λh=>aj (c 1) λi=>aW a 252 [h,i] d e (λd e h=>E (cK 0 d) λi=>E (cK 1 d) λd=>E (fe .not d) λj=>aT (λc d e=>aj (c 6) λh=>aj (c 5) λi=>aj (c 0) λj=>aj (c 1) λk=>E (aC .add k (.Z 1)) λk=>aW a 243 [j,k] d e (λd e g=>E (fw 2 [.cy, .cy] [(0,1,i),(1,1,d)] g) λd=>cH a e g d.1 d.2 λd e g=>E (cl h) λh=>E (a1 8 h) λh=>E (b8 a e 1 h d) λa=>aj (c 6) λd=>aj (c 1) λe=>E (aC .eql e (.Z 2)) λe=>aT b λb=>aX e (f d a g) (b (zw c 5 d 36 e) a g)) g) λa=>aX j (aj (c 5) λa=>f a e h) (a (zx c 6 i 7 d 23 j) e h)) g) (ac b 5 c) d e) g) λi=>aX h (aW a 251 [b] d e f g) (i (zw (cZ [b,c]) 4 .cy 9 h) d e)
def aiS:di X 243 [a0,bf] h j ak ay=VQ X a0 bf h j ak ay:=Zk
def aiR:cX X 243 2=true:=Zk
def VS(a:a2)(b:J)(c:V an)(d:Nat)(e f:bJ):Prop:=
 aW a 258 [b] c d (λc d g=>aT (λa b c=>aj (a 2) λa=>e a b c) λ_=>fu (λb c d g=>aT b λb=>aj (c 0) λh=>aW a 174 [h,(.str [60,60])] d g (λd g h=>E (cK 0 d) λi=>E (cK 1 d) λd=>E (dA [(.Z 0),(.str []),(.Z 0),(.int .u64 0),(.bool false),(.bool false),(.Z 0)] h) λj=>cH a g h j.1 j.2 λg h j=>E (b8 a h 7 g i) λh=>E (fe .not d) λi=>aT (λc d g=>aj (c 6) λh=>E (fe .not h) λh=>aT (λc d e=>aj (c 0) λg=>aW a 173 [g,(.Z 4)] d e (λd e g=>E (dA [(.Z 0),(.str []),(.Z 0),(.int .u64 0),(.bool false),(.bool false),(.Z 0)] g) λh=>cH a e g h.1 h.2 λe g h=>E (b8 a g 7 e d) λd=>E (a1 3 e) λg=>E (al a d g) λg=>E (aC .gtr g (.int .u64 63)) λg=>aT (λc d e=>aj (c 4) λf=>aj (c 5) λg=>E (a1 2 g) λg=>E (al a d g) λg=>aj (c 7) λh=>E (a1 3 h) λh=>E (al a d h) λh=>aj (c 3) λi=>E (fw 1 [.cy] [(0,1,i)] e) λi=>cH a d e i.1 i.2 λd e i=>E (eC [(.Z 0),(.Z 0),(.str []),(.bool false),(.bool false),(.bool false),(.Z 0),(.int .u64 0), .aU] [(0,1,f),(1,1,g),(7,1,h),(8,1,d)]) λd=>iG a e i d λa d e=>b (ac c 3 a) d e) λb=>aX g (E (bM a d 7 e) λi=>aW a 206 [i] d h (λ_ a d=>b (zw c 7 e 29 g) a d) f) (b (zw c 7 e 29 g) d h)) f) λa=>aX h (aj (c 3) λa=>e a d g) (a (ac c 23 h) d g)) λb=>aX i (aj (c 0) λe=>aW a 174 [e,(.str [62,62])] h j (λe f h=>E (cK 0 e) λj=>E (cK 1 e) λe=>E (b8 a f 7 g j) λa=>b (zw (zy c 4 (.Z 19) 5 g 6 d 16 i) 4 (.Z 20) 6 e) a h) f) (b (zy c 4 (.Z 19) 5 g 6 d 16 i) h j)) f) (zw (cZ [b]) 2 .cy 3 c) d g) f
def aiW:di X 251 [a0] h j ak ay=VS X a0 h j ak ay:=Zk
def aiV:cX X 251 1=true:=Zk
def VT(a:a2)(b c:J)(d:V an)(e:Nat)(f g:bJ):Prop:=
 E (Gj 5 1 (.ptr 9 0) c) λh=>E (al a d h) λh=>E (dI h) λi=>aT (λ_ a b=>f (.tuple [.cy,(.bool false)]) a b) λj=>fu (λb c d e=>aj (c 14) λh=>aj (c 13) λi=>E (aC .lss h i) λh=>aT (λc d e=>aT (λa c d=>aj (a 14) λe=>E (aC .add e (.Z 1)) λe=>b (ac a 14 e) c d) λb=>aj (c 12) λh=>aj (c 14) λi=>E (dd 2 h i) λh=>E (bM a d 2 h) λh=>E (dA [(.str []),(.Z 0)] e) λi=>cH a d e i.1 i.2 λd e i=>E (b8 a e 2 d h) λe=>aj (c 0) λh=>E (a1 0 d) λj=>E (al a e j) λj=>aW a 174 [h,j] e i (λe g h=>E (cK 0 e) λi=>E (cK 1 e) λe=>E (dA [(.Z 0),(.str []),(.Z 0),(.int .u64 0),(.bool false),(.bool false),(.Z 0)] h) λj=>cH a g h j.1 j.2 λg h j=>E (b8 a h 7 g i) λh=>aT b λb=>aX e (E (a1 1 d) λb=>E (al a h b) λb=>E (a1 2 g) λc=>E (al a h c) λc=>E (eC [(.Z 0),(.Z 0),(.str []),(.bool false),(.bool false),(.bool false),(.Z 0),(.int .u64 0), .aU] [(0,1,b),(1,1,c)]) λb=>iG a h j b λa b c=>f (.tuple [a,(.bool true)]) b c) (b (zy c 7 d 8 g 9 e 25 e) h j)) g) λa=>aX h (a (ac c 15 h) d e) (j (ac c 15 h) d e)) (ac (zy (cZ [b,c]) 4 .cy 5 (.bool false) 12 h 13 i) 14 (.Z 0)) d e
def aiY:di X 252 [a0,bf] h j ak ay=VT X a0 bf h j ak ay:=Zk
def aiX:cX X 252 2=true:=Zk
def VU(a:a2)(b:J)(c:V an)(d:Nat)(e f:bJ):Prop:=
 E (eC [(.str []),(.Z 0)] [(0,1,(.str [110,111,116])),(1,1,(.Z 3))]) λg=>E (eC [(.str []),(.Z 0)] [(0,1,(.str [45])),(1,1,(.Z 4))]) λh=>E (eC [(.str []),(.Z 0)] [(0,1,(.str [112,114,101])),(1,1,(.Z 5))]) λi=>E (eC [(.str []),(.Z 0),(.str []),(.Z 0),(.str []),(.Z 0)] [(0,2,g),(2,2,h),(4,2,i)]) λg=>aT (λb c d=>aj (b 0) λg=>aW a 261 [g] c d (λc d g=>aT (λa b c=>aj (a 2) λa=>e a b c) λ_=>fu (λb c d g=>aT b λb=>aj (c 0) λh=>aW a 174 [h,(.str [119,104,101,110])] d g (λd g h=>E (cK 0 d) λi=>E (cK 1 d) λd=>E (dA [(.Z 0),(.str []),(.Z 0),(.int .u64 0),(.bool false),(.bool false),(.Z 0)] h) λj=>cH a g h j.1 j.2 λg h j=>E (b8 a h 7 g i) λh=>E (fe .not d) λi=>aT (λc d e=>aj (c 0) λg=>aW a 174 [g,(.str [110,111,116])] d e (λd e g=>E (cK 0 d) λh=>E (cK 1 d) λd=>E (dA [(.Z 0),(.str []),(.Z 0),(.int .u64 0),(.bool false),(.bool false),(.Z 0)] g) λi=>cH a e g i.1 i.2 λe g i=>E (b8 a g 7 e h) λe=>eM (i+11) λg=>aj (c 8) λh=>E (a1 2 h) λh=>E (al a e h) λj=>aj (c 0) λk=>aj (c 7) λl=>E (fw 1 [.cy] [(0,1,l)] (i+7)) λl=>ld a e (i+7) l.1 l.2 λe l=>aW a 173 [k,(.Z 1)] l g (λf g k=>E (ny false 1 1 f) λf=>E (eC [(.Z 0),(.Z 0),(.str []),(.bool false),(.bool false),(.bool false),(.Z 0),(.int .u64 0), .aU] [(0,1,(.Z 6)),(1,1,j),(2,1,f),(3,1,d),(8,1,e)]) λe=>yg a g (i+9) e λe f=>E (al a f h) λa=>gi a (some j) (b (zw c 11 d 7 e) f k)) f) f) λa=>aX i (aj (c 7) λa=>e a h j) (a (zx c 8 g 9 d 45 i) h j)) f) (ac b 7 c) d g) f) λh=>fu (λb c d g=>aj (c 16) λi=>E (aC .lss i (.Z 3)) λi=>aT (λc d g=>aT (λa c d=>aj (a 16) λe=>E (aC .add e (.Z 1)) λe=>b (ac a 16 e) c d) λb=>aj (c 15) λh=>aj (c 16) λi=>E (qI true 3 2 h i) λh=>E (dA [(.str []),(.Z 0)] g) λi=>cH a d g i.1 i.2 λd g i=>E (b8 a g 2 d h) λg=>aj (c 0) λh=>E (a1 0 d) λj=>E (al a g j) λj=>aW a 174 [h,j] g i (λg h i=>E (cK 0 g) λj=>E (cK 1 g) λg=>E (dA [(.Z 0),(.str []),(.Z 0),(.int .u64 0),(.bool false),(.bool false),(.Z 0)] i) λk=>cH a h i k.1 k.2 λh i k=>E (b8 a i 7 h j) λi=>aT b λb=>aX g (eM (k+10) λb=>E (a1 1 d) λd=>E (al a i d) λg=>E (a1 2 h) λh=>E (al a i h) λj=>aj (c 0) λc=>aW a 258 [c] i b (λb c f=>E (fw 1 [.cy] [(0,1,b)] (k+6)) λb=>ld a c (k+6) b.1 b.2 λb c=>E (eC [(.Z 0),(.Z 0),(.str []),(.bool false),(.bool false),(.bool false),(.Z 0),(.int .u64 0), .aU] [(0,1,g),(1,1,j),(8,1,b)]) λb=>yg a c (k+8) b λb c=>E (al a c d) λd=>gi d (some g) (E (al a c h) λa=>gi a (some j) (e b c f))) f) (b (zy c 4 d 5 h 6 g 26 g) i k)) f) λa=>aX i (a (ac c 17 i) d g) (h (ac c 17 i) d g)) (zx (cZ [b]) 2 .cy 15 g 16 (.Z 0)) c d
def ai0:di X 258 [a0] h j ak ay=VU X a0 h j ak ay:=Zk
def aiZ:cX X 258 1=true:=Zk
def x8(a:a2)(b:J)(c:V an)(d:Nat)(e f:bJ):Prop:=
 aW a 116 [b] c d (λc d g=>E (dA [(.Z 0),(.str []),(.Z 0),(.int .u64 0),(.bool false),(.bool false),(.Z 0)] g) λh=>cH a d g h.1 h.2 λd g h=>E (b8 a g 7 d c) λc=>E (a1 2 d) λg=>E (al a c g) λg=>E (eC [(.Z 0),(.Z 0),(.str []),(.bool false),(.bool false),(.bool false),(.Z 0),(.int .u64 0), .aU] [(1,1,g)]) λg=>iG a c h g λc g h=>E (cl b) λi=>E (a1 1 i) λi=>E (al a g i) λi=>E (aC .add i (.Z 1)) λi=>E (cl b) λj=>E (a1 1 j) λj=>E (b8 a g 1 j i) λg=>aT (λa b c=>aj (a 4) λa=>e a b c) λe=>E (a1 0 d) λi=>E (al a g i) λi=>E (aC .eql i (.Z 5)) λi=>aT e λe=>aX i (eM (h+16) λf=>E (a1 4 d) λh=>E (bM a g 3 h) λj=>E (a1 3 d) λk=>E (al a g k) λl=>E (cl c) λm=>E (a1 0 m) λm=>E (b8 a g 1 m (.Z 1)) λg=>E (cl c) λm=>E (a1 4 m) λm=>E (bM a g 3 h) λh=>gi h (some j) (E (al a g k) λh=>gi h (some l) (E (b8 a g 3 m j) λg=>E (cl c) λh=>E (a1 7 h) λh=>E (al a g k) λj=>gi j (some l) (E (b8 a g 1 h l) λa=>e (zy (cZ [b]) 2 .cy 3 d 4 c 29 i) a f)))) (E (a1 0 d) λj=>E (al a g j) λj=>E (aC .eql j (.Z 2)) λj=>cN j (a1 1 d) g h (λg h k=>cN j (al a h g) h k (λg h k=>cN j (dc a h .eql 9 true g (.str [116,114,117,101])) h k (λg h k=>js j g h k (λg h k=>c9 g (a1 1 d) h k (λh k l=>c9 g (al a k h) k l (λh k l=>c9 g (dc a k .eql 9 true h (.str [102,97,108,115,101])) k l (λh k l=>jZ j (λa=>cU (λb=>a b k l) λa=>aX g (a (.bool true)) (a h)) k l (λg h k=>cU (λg=>aT e λe=>aX g (E (eC [(.bool false),(.bool false),(.Z 0)] [(0,1,(.bool true)),(2,1,(.Z 1))]) λf=>E (cl c) λj=>E (a1 0 j) λj=>E (b8 a h 1 j (.Z 1)) λh=>E (cl c) λj=>E (a1 4 j) λj=>E (b8 a h 3 j f) λf=>E (a1 1 d) λh=>E (al a f h) λh=>E (dc a f .eql 9 true h (.str [116,114,117,101])) λh=>aT e λe=>aX h (E (cl c) λj=>E (a1 7 j) λj=>E (b8 a f 1 j (.int .u64 1)) λa=>e (zw (zy (cZ [b]) 2 .cy 3 d 4 c 29 i) 46 g 69 h) a k) (e (zw (zy (cZ [b]) 2 .cy 3 d 4 c 29 i) 46 g 69 h) f k)) (E (a1 0 d) λj=>E (al a h j) λj=>E (aC .eql j (.Z 1)) λj=>aT e λe=>aX j (eM (k+10) λk=>E (a1 1 d) λl=>E (al a h l) λm=>E (cl c) λn=>E (a1 0 n) λn=>E (b8 a h 1 n (.Z 2)) λh=>E (cl c) λn=>E (a1 2 n) λn=>E (al a h l) λl=>gi l (some m) (E (b8 a h 1 n m) λh=>aW a 174 [b,(.str [40])] h k (λh k l=>E (cK 0 h) λm=>E (cK 1 h) λh=>E (dA [(.Z 0),(.str []),(.Z 0),(.int .u64 0),(.bool false),(.bool false),(.Z 0)] l) λn=>cH a k l n.1 n.2 λk l n=>E (b8 a l 7 k m) λk=>aT e λe=>aX h (aW a 262 [b] k n (λf k l=>E (cl c) λm=>E (a1 0 m) λm=>E (b8 a k 1 m (.Z 25)) λk=>E (cl c) λm=>E (a1 8 m) λm=>E (b8 a k 1 m f) λa=>e (zy (zy (cZ [b]) 2 .cy 3 d 4 c 29 i) 46 g 73 j 6 h 90 h) a l) f) (e (zy (zy (cZ [b]) 2 .cy 3 d 4 c 29 i) 46 g 73 j 6 h 90 h) k n)) f)) (E (a1 0 d) λl=>E (al a h l) λl=>E (aC .eql l (.Z 3)) λl=>aT e λe=>aX l (eM (k+10) λk=>E (a1 4 d) λm=>E (bM a h 3 m) λn=>E (cl c) λo=>E (a1 0 o) λo=>E (b8 a h 1 o (.Z 26)) λh=>E (cl c) λo=>E (a1 4 o) λo=>E (bM a h 3 m) λm=>gi m (some n) (E (b8 a h 3 o n) λh=>E (fw 1 [(.str [])] [(0,1,(.str [40]))] k) λm=>cH a h k m.1 m.2 λh k m=>aW a 172 [b,h] k m (λ_ h k=>aW a 208 [b] h k (λh k m=>E (fw 1 [.cy] [(0,1,h)] m) λh=>cH a k m h.1 h.2 λh k m=>E (cl c) λn=>E (a1 8 n) λn=>E (b8 a k 1 n h) λh=>E (fw 1 [(.str [])] [(0,1,(.str [41]))] m) λk=>cH a h m k.1 k.2 λh k m=>aW a 172 [b,h] k m (λ_ a f=>e (zx (zy (cZ [b]) 2 .cy 3 d 4 c 29 i) 46 g 73 j 99 l) a f) f) f) f)) (E (a1 0 d) λm=>E (al a h m) λm=>E (aC .eql m (.Z 6)) λm=>cN m (a1 1 d) h k (λh k n=>cN m (al a k h) k n (λh k n=>cN m (dc a k .eql 9 true h (.str [40])) k n (λh k n=>cU (λh=>aT e λe=>aX h (aW a 208 [b] k n (λk m n=>E (fw 1 [(.str [])] [(0,1,(.str [41]))] n) λo=>cH a m n o.1 o.2 λm n o=>aW a 172 [b,m] n o (λ_ a f=>e (ac (zy (zy (cZ [b]) 2 .cy 3 d 4 c 29 i) 46 g 73 j 99 l 123 h) 4 k) a f) f) f) (E (a1 0 d) λm=>E (al a k m) λm=>E (aC .eql m (.Z 2)) λm=>cN m (a1 1 d) k n (λk n o=>cN m (al a n k) n o (λk n o=>cN m (dc a n .eql 9 true k (.str [105,102])) n o (λk n o=>cU (λk=>aT e λe=>aX k (E (cl c) λm=>E (a1 0 m) λm=>E (b8 a n 1 m (.Z 23)) λm=>eM (o+12) λn=>E (cl c) λp=>E (a1 8 p) λp=>E (al a m p) λq=>aW a 208 [b] m n (λm n r=>E (fw 1 [.cy] [(0,1,m)] (o+7)) λm=>ld a n (o+7) m.1 m.2 λm n=>E (al a n p) λo=>gi o (some q) (gR (is a n r 1 q m) n r λm n o=>E (cl c) λp=>E (a1 8 p) λp=>E (b8 a n 1 p m) λm=>E (fw 1 [(.str [])] [(0,1,(.str [116,104,101,110]))] o) λn=>cH a m o n.1 n.2 λm n o=>aW a 172 [b,m] n o (λ_ m n=>eM (n+12) λo=>E (cl c) λp=>E (a1 8 p) λp=>E (al a m p) λq=>aW a 208 [b] m o (λm o r=>E (fw 1 [.cy] [(0,1,m)] (n+7)) λm=>ld a o (n+7) m.1 m.2 λm n=>E (al a n p) λo=>gi o (some q) (gR (is a n r 1 q m) n r λm n o=>E (cl c) λp=>E (a1 8 p) λp=>E (b8 a n 1 p m) λm=>E (fw 1 [(.str [])] [(0,1,(.str [101,108,115,101]))] o) λn=>cH a m o n.1 n.2 λm n o=>aW a 172 [b,m] n o (λ_ m n=>eM (n+12) λo=>E (cl c) λp=>E (a1 8 p) λp=>E (al a m p) λq=>aW a 208 [b] m o (λf m o=>E (fw 1 [.cy] [(0,1,f)] (n+7)) λf=>ld a m (n+7) f.1 f.2 λf m=>E (al a m p) λn=>gi n (some q) (gR (is a m o 1 q f) m o λf m n=>E (cl c) λo=>E (a1 8 o) λo=>E (b8 a m 1 o f) λa=>e (ac (zy (zy (cZ [b]) 2 .cy 3 d 4 c 29 i) 46 g 73 j 99 l 123 h) 137 k) a n)) f) f)) f) f)) f) (E (a1 0 d) λm=>E (al a n m) λm=>E (aC .eql m (.Z 2)) λm=>cN m (a1 1 d) n o (λn o p=>cN m (al a o n) o p (λn o p=>cN m (dc a o .eql 9 true n (.str [109,101,114,103,101])) o p (λn o p=>cU (λm=>aT e λe=>aX m (aW a 173 [b,(.Z 1)] o p (λn o p=>E (ny false 1 1 n) λn=>E (cl c) λq=>E (a1 0 q) λq=>E (b8 a o 1 q (.Z 24)) λo=>E (cl c) λq=>E (a1 2 q) λq=>E (b8 a o 1 q n) λn=>aW a 261 [b] n p (λn o p=>aW a 261 [b] o p (λf o p=>E (fw 2 [.cy, .cy] [(0,1,n),(1,1,f)] p) λf=>cH a o p f.1 f.2 λf n o=>E (cl c) λp=>E (a1 8 p) λp=>E (b8 a n 1 p f) λa=>e (zw (zy (zy (cZ [b]) 2 .cy 3 d 4 c 29 i) 46 g 73 j 99 l 123 h) 137 k 188 m) a o) f) f) f) (E (cl b) λn=>E (a1 1 n) λn=>E (al a o n) λn=>E (aC .sub n (.Z 1)) λn=>E (cl b) λq=>E (a1 1 q) λq=>E (b8 a o 1 q n) λn=>E (bM a n 7 d) λo=>aW a 206 [o] n p (λ_ a f=>e (zw (zy (zy (cZ [b]) 2 .cy 3 d 4 c 29 i) 46 g 73 j 99 l 123 h) 137 k 188 m) a f) f)) λa=>aX m (a n) (a (.bool false))))))) λa=>aX m (a k) (a (.bool false))))))) λa=>aX m (a h) (a (.bool false))))))))) λa=>aX j (a g) (a (.bool false)))))))))))) f
def AE:di X 261 [a0] h j ak ay=x8 X a0 h j ak ay:=Zk
def AD:cX X 261 1=true:=Zk
def VV(a:a2)(b:J)(c:V an)(d:Nat)(e f:bJ):Prop:=
 aW a 174 [b,(.str [41])] c d (λc d g=>E (cK 0 c) λh=>E (cK 1 c) λc=>E (dA [(.Z 0),(.str []),(.Z 0),(.int .u64 0),(.bool false),(.bool false),(.Z 0)] g) λi=>cH a d g i.1 i.2 λd g i=>E (b8 a g 7 d h) λd=>aT (λb c d=>aj (b 0) λg=>aW a 208 [g] c d (λc d g=>E (fw 1 [.cy] [(0,1,c)] g) λc=>cH a d g c.1 c.2 λc d g=>aT (λa b c=>aj (a 2) λa=>e a b c) λ_=>fu (λb c d g=>aT b λb=>aj (c 0) λh=>aW a 174 [h,(.str [44])] d g (λd g h=>E (cK 0 d) λi=>E (cK 1 d) λd=>E (dA [(.Z 0),(.str []),(.Z 0),(.int .u64 0),(.bool false),(.bool false),(.Z 0)] h) λj=>cH a g h j.1 j.2 λg h j=>E (b8 a h 7 g i) λg=>E (fe .not d) λh=>aT (λc d e=>aj (c 5) λg=>aj (c 0) λh=>aW a 208 [h] d e (λd e f=>E (fw 1 [.cy] [(0,1,d)] f) λd=>cH a e f d.1 d.2 λd e f=>gR (is a e f 1 g d) e f λa d e=>b (ac c 5 a) d e) f) λb=>aX h (aj (c 0) λb=>E (fw 1 [(.str [])] [(0,1,(.str [41]))] j) λd=>cH a g j d.1 d.2 λd g h=>aW a 172 [b,d] g h (λ_ a b=>aj (c 5) λc=>e c a b) f) (b (zw c 7 d 23 h) g j)) f) (ac b 5 c) d g) f) λa=>aX c (e .aU d i) (a (zx (cZ [b]) 2 .aU 4 c 13 c) d i)) f
def ai2:di X 262 [a0] h j ak ay=VV X a0 h j ak ay:=Zk
def ai1:cX X 262 1=true:=Zk
end
end Go.Proofs.YtpfajohmofnkfaaGreatDoor

namespace Go.Proofs.YtpfajohmofnkfaaGreatDoor
open Go.bk Go.aZ
noncomputable section
def cb(t:Tok):List J:=[.Z t.kind, .str t.text, .Z t.at_, .int .u64 t.n, .bool t.ty.b, .bool t.ty.s, .Z t.ty.w]
def nL:Nat:=3
def atc(f:Nat):Bool:=om f [16,30,50,55,240,125,180,223]
structure dx(X:co):Prop where
 none:∀f l,atc f=false->X.O f l=none
set_option maxRecDepth 100000 in
def zv{X:co}(O:dx X){f:Nat}{a:List J}{S:V an}{n:Nat}{u v:bJ}(c:cX X f a.length=true)(h:di X f a S n u v)(b:atc f=false:=by rfl):aW X f a S n u v:=c6 c (O.none _ _ b) h
structure aZ(X:co)(h:V an)(aK bN:Nat)(aY:List Tok)(i:Nat):Prop where
 at_:∃c av,ab X h aK=some (.cells c 2 .own)/\c.get 0=some av/\c.get 1=some (.Z (i:Int))/\d1 X h (λe=>e=bN) bN av 7 (aY.map cb)
 ne:aK≠bN
def aZ.ad{X:co}{h U:V an}{aK bN:Nat}{aY:List Tok}{i:Nat}(a:aZ X h aK bN aY i)(bY:ab X U aK=ab X h aK)(cx:ab X U bN=ab X h bN):aZ X U aK bN aY i:=by
 obtain⟨c,av,T,W,au,aP⟩:=a.at_
 exact⟨⟨c,av,by rw[bY];exact T,W,au,aP.ad λe H=>by subst H;exact cx⟩,a.ne⟩
def j1{C:a2}{h:V an}{b n Y:Nat}{c:V J}{st:nW}{v:J}(a:ab C h b=some (.cells c n st))(bD:c.get Y=some v):al C h (.ptr b Y)=some v:=by rw[cg,a];exact bD
section
variable{X:co}{h U:V an}{j ar aK bN:Nat}{aY:List Tok}{i:Nat}
def rE(az:dx X)(aM:(q X).ba<=j)(aA:aZ X h aK bN aY i)(ke:aK<j)(jD:bN<j){t:Tok}(bb:aY[i]? =some t):
 aW X 116 [.ptr aK 0] h j (λae U ar=>ae= .agg (cb t)/\bh X h j U ar) (λ_ _ _=>False):=by
 refine zv az (agj X) ?_
 rw[agk]
 unfold Ut
 obtain⟨c,av,T,W,au,aP⟩:=aA.at_
 have vt:=j1 T W
 have bY:=j1 T au
 have aN:i<(aY.map cb).length:=by rw[Zi];exact(Zc.1 bb).1
 have dQ:=aP.e9 i aN
 have ft:bM X (bo X h j (zs [.Z 0, .str [], .Z 0, .int .u64 0, .bool false, .bool false, .Z 0] 7)) 7 (.ptr bN (i*7))=some (.agg (cb t)):=by
  have:=(aP.ad (U:=bo X h j (zs [.Z 0, .str [], .Z 0, .int .u64 0, .bool false, .bool false, .Z 0] 7)) (λe H=>by subst H;exact aG aM Zo)).row Zd (i:=i) (r:=cb t) (by rw[Zt,bb];rfl)
  exact this
 refine fW @vt @bY @dQ @ft cb.eq_1 ⟨?_⟩
 exact⟨rfl,dR⟩
def s4:List J:=[.Z 0, .str [], .Z 0, .int .u64 0, .bool false, .bool false, .Z 0]
def aZ.on(aA:aZ X h aK bN aY i){aa:Nat}{c:V J}(T:ab X U aK=some (.cells c 2 .own))(ch:∀ee st,ab X h aK=some (.cells ee 2 st)->c=ee.set 1 (some (.Z (aa:Int))))(cx:ab X U bN=ab X h bN):aZ X U aK bN aY aa:=by
 obtain⟨ee,av,bf,ck,a3,a4⟩:=aA.at_
 have:=ch ee _ bf
 subst this
 refine⟨⟨_,av,T, ?_, ?_,a4.ad λe H=>by subst H;exact cx⟩,aA.ne⟩
 ·rw[V.kc,Zh Zd];exact ck
 ·rw[V.kc,Zr rfl]
def Ig(az:dx X)(aM:(q X).ba<=j)(t:Tok)(ay:bJ)(a:∀U ar,bh X h j U ar->ay (.iface 26 (.agg [.Z 21, .Z t.at_])) U ar):
 aW X 206 [.agg (cb t)] h j (λ_ _ _=>False) ay:=by
 refine zv az (ah7 X) ?_
 rw[ah8]
 unfold Vu cb
 refine cS ⟨?_⟩
 exact⟨a _ _ dR⟩
def ae2(az:dx X)(aM:(q X).ba<=j)(aA:aZ X h aK bN aY i)(hc:(q X).ba<=aK)(ke:aK<j)(jD:bN<j)(bs:aY.length<=300000){t:Tok}(bb:aY[i]? =some t){s:bq}(aI:g5 t s=true):
 aW X 174 [.ptr aK 0, .str s] h j (λae U ar=>ae= .tuple [.agg (cb t), .bool true]/\aZ X U aK bN aY (i+1)/\cf X [aK] h j U ar) (λ_ _ _=>False):=by
 refine zv az (U2 X) ?_
 rw[U3]
 unfold OS
 refine oO ?_
 have ls:=(Zc.1 bb).1
 have bT:bh X h j (bo X h j (zs s4 7)) (j+1):=bh.fresh aM _
 have ey:aZ X (bo X h j (zs s4 7)) aK bN aY i:=aA.ad (bT.ad _ ke) (bT.ad _ jD)
 refine(rE az Zo ey Zo Zo bb).mono ?_ (λ_ _ _ a=>a)
 rintro ae aR bc ⟨rfl,bC⟩
 have gE:=bC.le
 have W:ab X aR j=zs s4 7:=by rw[bC.ad _ Zo];exact bi aM
 have gm:cf X [aK] h j aR bc:=cf.of ((bh.fresh aM _).trans bC)
 have dD:aZ X aR aK bN aY i:=ey.ad (bC.ad _ Zo) (bC.ad _ Zo)
 obtain⟨c,av,bf,ck,a3,a4⟩:=dD.at_
 have aL:=gm.ad
 simp only[g5,Zp,zf,Zg]at aI
 obtain⟨o3,rfl⟩:=aI
 have bY:=j1 bf a3
 have bH:=zt i
 have fH:decide (t.text≠t.text)=false:=by simp
 unfold s4 at W
 have fin:∀(r0:V an) (ar:Nat),ab X r0 aK=some (.cells (d3 c 1 [.Z ((i+1:Nat):Int)]) 2 .own)->cf X [aK] h j r0 ar->ab X r0 bN=ab X aR bN->aZ X r0 aK bN aY (i+1)/\cf X [aK] h j r0 ar:=λr0 ar T W au=>
  ⟨dD.on T (λee st a=>by rw[bf]at a;cases a;exact q0 ..) au,W⟩
 have dT:=aA.ne
 rcases o3 with iX|iX
 ·have c3:decide (t.kind≠2)=false:=by simp[iX]
  refine eu cb.eq_1 @c3 @fH @bY @bH @bf @W ⟨?_⟩
  refine⟨rfl,fin _ _ ?_ ?_ ?_⟩
  ·simp(disch:=omega) only[aG,bi];rfl
  ·exact⟨Zo,λb ai bW=>by have:=aL b ai bW;simp only[Zq,ZG,YU,Yr,ZF,Ye]at bW;simp(disch:=omega) only[aG];exact this⟩
  ·simp(disch:=omega) only[aG]
 ·have c3:decide (t.kind≠2)=true:=by simp[iX]
  have cQ:decide (t.kind≠6)=false:=by simp[iX]
  refine eu cb.eq_1 @c3 @cQ @fH @bY @bH (Za @bf @W) ⟨?_⟩
  refine⟨rfl,fin _ _ ?_ ?_ ?_⟩
  ·simp(disch:=omega) only[aG,bi];rfl
  ·exact⟨Zo,λb ai bW=>by have:=aL b ai bW;simp only[Zq,ZG,YU,Yr,ZF,Ye]at bW;simp(disch:=omega) only[aG];exact this⟩
  ·simp(disch:=omega) only[aG]
def ae1(az:dx X)(aM:(q X).ba<=j)(aA:aZ X h aK bN aY i)(hc:(q X).ba<=aK)(ke:aK<j)(jD:bN<j){t:Tok}(bb:aY[i]? =some t){s:bq}(aI:g5 t s=false):
 aW X 174 [.ptr aK 0, .str s] h j (λae U ar=>ae= .tuple [.agg s4, .bool false]/\aZ X U aK bN aY i/\cf X [aK] h j U ar) (λ_ _ _=>False):=by
 refine zv az (U2 X) ?_
 rw[U3]
 unfold OS
 refine oO ?_
 have bT:bh X h j (bo X h j (zs s4 7)) (j+1):=bh.fresh aM _
 have ey:aZ X (bo X h j (zs s4 7)) aK bN aY i:=aA.ad (bT.ad _ ke) (bT.ad _ jD)
 refine(rE az Zo ey Zo Zo bb).mono ?_ (λ_ _ _ a=>a)
 rintro ae aR bc ⟨rfl,bC⟩
 have gE:=bC.le
 have W:ab X aR j=zs s4 7:=by rw[bC.ad _ Zo];exact bi aM
 have gm:cf X [aK] h j aR bc:=cf.of ((bh.fresh aM _).trans bC)
 have dD:aZ X aR aK bN aY i:=ey.ad (bC.ad _ Zo) (bC.ad _ Zo)
 have aL:=gm.ad
 unfold s4 at W
 have fin:∀(r0:V an) (ar:Nat),ab X r0 aK=ab X aR aK->cf X [aK] h j r0 ar->ab X r0 bN=ab X aR bN->aZ X r0 aK bN aY i/\cf X [aK] h j r0 ar:=λr0 ar T W au=>
  ⟨dD.ad T au,W⟩
 simp only[g5,Bool.and_eq_false_iff,Bool.or_eq_false_iff,Zb]at aI
 by_cases iX:t.kind=2
 ·have aI:t.text≠s:=by rcases aI with a|a;exact absurd iX a.1;exact a
  have c3:decide (t.kind≠2)=false:=by simp[iX]
  have fH:decide (t.text≠s)=true:=by simpa using aI
  refine gl cb.eq_1 @c3 @fH @W ⟨?_⟩
  refine⟨rfl,fin _ _ ?_ ?_ ?_⟩
  ·simp(disch:=omega) only[aG]
  ·exact⟨Zo,λb ai bW=>by have:=aL b ai bW;simp only[Zq,ZG,YU,Yr,ZF,Ye]at bW;simp(disch:=omega) only[aG];exact this⟩
  ·simp(disch:=omega) only[aG]
 ·have c3:decide (t.kind≠2)=true:=by simp[iX]
  by_cases m8:t.kind=6
  ·have aI:t.text≠s:=by rcases aI with a|a;exact absurd m8 a.2;exact a
   have cQ:decide (t.kind≠6)=false:=by simp[m8]
   have fH:decide (t.text≠s)=true:=by simpa using aI
   refine fW cb.eq_1 @c3 @cQ @fH @W ⟨?_⟩
   refine⟨rfl,fin _ _ ?_ ?_ ?_⟩
   ·simp(disch:=omega) only[aG]
   ·exact⟨Zo,λb ai bW=>by have:=aL b ai bW;simp only[Zq,ZG,YU,Yr,ZF,Ye]at bW;simp(disch:=omega) only[aG];exact this⟩
   ·simp(disch:=omega) only[aG]
  ·have cQ:decide (t.kind≠6)=true:=by simp[m8]
   refine gl cb.eq_1 @c3 @cQ @W ⟨?_⟩
   refine⟨rfl,fin _ _ ?_ ?_ ?_⟩
   ·simp(disch:=omega) only[aG]
   ·exact⟨Zo,λb ai bW=>by have:=aL b ai bW;simp only[Zq,ZG,YU,Yr,ZF,Ye]at bW;simp(disch:=omega) only[aG];exact this⟩
   ·simp(disch:=omega) only[aG]
def BW(az:dx X)(aM:(q X).ba<=j)(aA:aZ X h aK bN aY i)(hc:(q X).ba<=aK)(ke:aK<j)(jD:bN<j)(bs:aY.length<=300000){t:Tok}(bb:aY[i]? =some t)(F:Int):
 aW X 173 [.ptr aK 0, .Z F] h j (λae U ar=>t.kind=F/\ae= .agg (cb t)/\aZ X U aK bN aY (i+1)/\cf X [aK] h j U ar)
  (λae U ar=>t.kind≠F/\ae= .iface 26 (.agg [.Z 21, .Z t.at_])/\cf X [aK] h j U ar):=by
 refine zv az (ahl X) ?_
 rw[ahm]
 unfold U1
 refine oO ?_
 have ls:=(Zc.1 bb).1
 have bT:bh X h j (bo X h j (zs s4 7)) (j+1):=bh.fresh aM _
 have ey:aZ X (bo X h j (zs s4 7)) aK bN aY i:=aA.ad (bT.ad _ ke) (bT.ad _ jD)
 refine(rE az Zo ey Zo Zo bb).Zm ?_
 rintro ae aR bc ⟨rfl,bC⟩
 have gE:=bC.le
 have W:ab X aR j=zs s4 7:=by rw[bC.ad _ Zo];exact bi aM
 have gm:cf X [aK] h j aR bc:=cf.of ((bh.fresh aM _).trans bC)
 have dD:aZ X aR aK bN aY i:=ey.ad (bC.ad _ Zo) (bC.ad _ Zo)
 obtain⟨c,av,bf,ck,a3,a4⟩:=dD.at_
 have aL:=gm.ad
 have bY:=j1 bf a3
 have bH:=zt i
 unfold s4 at W
 have dT:=aA.ne
 by_cases xj:t.kind=F
 ·have c3:decide (t.kind≠F)=false:=by simp[xj]
  refine iu cb.eq_1 @c3 @bY @bH @bf @W ⟨?_⟩
  refine⟨xj,rfl,dD.on (c:=d3 c 1 [.Z ((i+1:Nat):Int)]) ?_ (λee st a=>by rw[bf]at a;cases a;exact q0 ..) ?_, ?_⟩
  ·simp(disch:=omega) only[aG,bi];rfl
  ·simp(disch:=omega) only[aG]
  ·exact⟨Zo,λb ai bW=>by have:=aL b ai bW;simp only[Zq,ZG,YU,Yr,ZF,Ye]at bW;simp(disch:=omega) only[aG];exact this⟩
 ·have c3:decide (t.kind≠F)=true:=by simp[xj]
  refine d9 cb.eq_1 @c3 @W ⟨?_⟩
  refine(Ig az Zo t _ ?_).mono (λ_ _ _ a=>a.elim) (λ_ _ _ a=>a)
  intro U ar bX
  have Jb:=bX.le
  refine⟨xj,rfl,Zo,λb ai bW=> ?_⟩
  have:=aL b ai bW
  simp only[Zq,ZG,YU,Yr,ZF,Ye]at bW
  rw[bX.ad b Zo]
  simp(disch:=omega) only[aG];exact this
end
section
variable{X:co}{h U:V an}{j ar aK bN:Nat}{aY:List Tok}{i:Nat}
def g6:Tok:=⟨0,[],0,0,dU⟩
def rO:List bq->Tok->List Tok->gf Tok
 |[],x,l=>ok x l
 |s::nn,_,l=>andThen (eO s l) λe l=>rO nn e l
def fP{aY:List Tok}{i:Nat}{x:Tok}{l:List Tok}(a:aY.drop i=x::l):aY[i]? =some x/\aY.drop (i+1)=l:=by
 constructor
 ·have:=congrArg (λl=>l[0]?) a
  simpa using this
 ·rw[<-zi,a];rfl
def ib(nn:List bq):List (List J):=nn.map λs=>[.str s]
def aft(az:dx X)(aM:(q X).ba<=j)(aA:aZ X h aK bN aY i)(hc:(q X).ba<=aK)(ke:aK<j)(jD:bN<j)(bs:aY.length<=300000){a8:J}{cD:Nat}{nn:List bq}(IS:cD<j)(Jw:cD≠aK)(aI:d1 X h (λe=>e=cD) cD a8 1 (ib nn))
 {r:Except Int (Tok×List Tok)}(Z:rO nn g6 (aY.drop i)=some r):
 aW X 172 [.ptr aK 0,a8] h j (λae U ar=>∃x cB,r= .ok (x,aY.drop cB)/\ae= .agg (cb x)/\aZ X U aK bN aY cB/\cf X [aK] h j U ar)
  (λae U ar=>∃K,r= .error K/\ae= .iface 26 (.agg [.Z 21, .Z K])/\cf X [aK] h j U ar):=by
 refine zv az (ahj X) ?_
 rw[ahk]
 unfold U0
 have fL:=aI.len
 have dT:=aA.ne
 have vf:=aI.many
 simp only[ib,Zi]at vf
 refine oO ?_
 refine oO ?_
 have Iy:bh X h j (bo X (bo X h j (zs (cb g6) 7)) (j+1) (zs (cb g6) 7)) (j+1+1):=dR
 have ue:ab X (bo X (bo X h j (zs (cb g6) 7)) (j+1) (zs (cb g6) 7)) j=zs (cb g6) 7:=by simp(disch:=omega) only[aG,bi]
 have cL:ab X (bo X (bo X h j (zs (cb g6) 7)) (j+1) (zs (cb g6) 7)) (j+1)=zs (cb g6) 7:=bi Zo
 refine rk @fL ⟨?_⟩
 refine j0 (λM U n=>∃x cB,r= .ok (x,aY.drop cB)/\M.g 5=some (.ptr (j+1) 0)/\M.g 4=some (.ptr j 0)/\j+1<n/\ab X U (j+1)=zs (cb x) 7/\ab X U j=zs (cb g6) 7/\aZ X U aK bN aY cB/\cf X [aK] h j U n) (λaa bL=> ?_) ?_
 ·refine fC (λm M U n=>∃F cB x,m=nn.length-F/\F<=nn.length/\M.g 0=some (.ptr aK 0)/\M.g 9=some a8/\M.g 10=some (.Z (nn.length:Int))/\M.g 11=some (.Z (F:Int))/\M.g 5=some (.ptr (j+1) 0)/\M.g 4=some (.ptr j 0)/\j+1<n
   /\ab X U (j+1)=zs (cb x) 7/\ab X U j=zs (cb g6) 7/\aZ X U aK bN aY cB/\cf X [aK] h j U n/\rO (nn.drop F) x (aY.drop cB)=some r)
   nn.length ⟨0,i,g6,Zo,Zo, ?_, ?_, ?_, ?_, ?_, ?_,Zo,cL,ue,aA.ad (Iy.ad _ ke) (Iy.ad _ jD),cf.of Iy,Z⟩ ?_
  ·exact bp
  ·exact bp
  ·refine A1 ⟨?_⟩
   simp[ib]
  ·refine A1 ⟨?_⟩
   rfl
  ·exact bp
  ·exact bp
  rintro m M aR n ⟨F,cB,x,rfl,aL,t0,t9,nP,oy,t5,t4,c4,b5,kb,dD,gm,bI⟩
  refine c1 @nP @oy ⟨?_⟩
  refine E1 (λxk=> ?_) (λxk=> ?_)
  ·have xk:F<nn.length:=Zo
   have kf:nn.drop F=nn[F]::nn.drop (F+1):=Zw xk
   rw[kf]at bI
   have dQ:=aI.e9 F (by simp[ib];exact xk)
   have ab3:al X aR (.ptr cD (F*1))=some (.str nn[F]):=by
    have:=(aI.ad (U:=aR) λe H=>by subst H;exact gm.ad _ IS (by simp;exact Jw)).cell F [.str nn[F]] 0 (.str nn[F]) (by simp[ib]) rfl
    rwa[ZT]at this
   refine fW @t9 @oy @dQ @ab3 @t0 ⟨?_⟩
   generalize nn[F]=s at bI ab3
   cases aO:aY.drop cB with
   |nil=>rw[aO]at bI;simp[rO,eO,andThen]at bI
   |cons e l=>
    obtain⟨H,aD⟩:=fP aO
    rw[aO]at bI
    simp only[rO,eO]at bI
    cases Dt:g5 e s with
    |true=>
     rw[Dt]at bI
     simp only[ZD,andThen,ok]at bI
     refine(ae2 az (zo gm.le) dD hc Zo Zo bs H Dt).Zm ?_
     rintro ae a7 bd ⟨rfl,gL,ej⟩
     have ik:=ej.le
     have Qd:ab X a7 (j+1)=zs (cb x) 7:=by rw[ej.ad _ Zo (by simp;omega)];exact b5
     have ani:ab X a7 j=zs (cb g6) 7:=by rw[ej.ad _ Zo (by simp;omega)];exact kb
     refine d9 @t5 @Qd @oy ⟨?_⟩
     have bH:=zt F
     refine ce @bH ⟨?_⟩
     refine⟨_, ?_,F+1,cB+1,e,rfl,Zo,aQ t0,aQ t9,aQ nP,bp,aQ t5,aQ t4,Zo,bi Zo,by simp(disch:=omega) only[aG];exact ani,gL.ad (zu) (zu), ?_, ?_⟩
     ·omega
     ·have ob:=(gm.trans ej).ad
      exact⟨zo gm.le,λb ai bW=>by rw[<-ob b ai bW];exact zu⟩
     ·rw[aD];exact bI
    |false=>
     rw[Dt]at bI
     simp only[Zx,ZA,andThen,bad,Zf]at bI
     subst bI
     refine(ae1 az (zo gm.le) dD hc Zo Zo H Dt).Zm ?_
     rintro ae a7 bd ⟨rfl,gL,ej⟩
     have ik:=ej.le
     have Qd:ab X a7 (j+1)=zs (cb x) 7:=by rw[ej.ad _ Zo (by simp;omega)];exact b5
     refine d9 @t5 @Qd @t0 ⟨?_⟩
     refine(rE az (zo gm.le) (gL.ad (zu) (zu)) Zo Zo H).Zm ?_
     rintro ae bw db ⟨rfl,dj⟩
     have jd:=dj.le
     refine(Ig az (zo gm.le) e _ ?_).mono (λ_ _ _ a=>a.elim) (λ_ _ _ a=>a)
     intro bS cj dF
     have il:=dF.le
     have ob:=(gm.trans ej).ad
     refine⟨_,rfl,rfl,zo gm.le,λb ai bW=> ?_⟩
     rw[dF.ad b Zo,dj.ad b Zo, <-ob b ai bW]
     simp(disch:=omega) only[aG]
  ·have xj:F=nn.length:=Zo
   subst xj
   rw[List.drop_length]at bI
   simp only[rO,ok,Zf]at bI
   subst bI
   refine cS ⟨?_⟩
   exact bL _ _ _ ⟨x,cB,rfl,aQ t5,aQ t4,c4,b5,kb,dD,gm⟩
 ·rintro M aR n ⟨x,cB,ah,t5,t4,c4,b5,kb,dD,gm⟩
  unfold cb at b5
  unfold cb g6 dU at kb
  refine fW @t5 @t4 @b5 @kb (bR b5) ⟨?_⟩
  refine⟨x,cB,ah,rfl,dD.ad (zu) (zu), ?_⟩
  exact⟨zo gm.le,λb ai bW=>by rw[<-gm.ad b ai bW];exact zu⟩
end
structure iF(X:co)(h:V an)(j aK bN:Nat)(aY:List Tok)(i:Nat):Prop where
 ba:(q X).ba<=j
 ei:(q X).ba<=aK
 hB:aK<j
 g4:bN<j
 many:aY.length<=300000
 par:aZ X h aK bN aY i
def iF.go{X:co}{h U:V an}{j ar aK bN i cB:Nat}{aY:List Tok}(a:iF X h j aK bN aY i)(aA:aZ X U aK bN aY cB)(aM:j<=ar):iF X U ar aK bN aY cB:=
 ⟨Zz a.ba aM,a.ei,ZL a.hB aM,ZL a.g4 aM,a.many,aA⟩
def cW(K b:Nat):Nat->Prop:=λe=>K<=e/\e<b
def oS(F K:Int):J:= .iface 26 (.agg [.Z F, .Z K])
def jN(X:co)(aK bN:Nat)(aY:List Tok)(h:V an)(j:Nat)(r:Except Int (bG×List Tok)):bJ:=λae U ar=>
 ∃I cB,r= .ok (I,aY.drop cB)/\cR X U (cW j ar) I ae/\aZ X U aK bN aY cB/\cf X [aK] h j U ar
def iT{α:Type}(X:co)(aK:Nat)(h:V an)(j:Nat)(r:Except Int α):bJ:=λae U ar=>
 ∃K,r= .error K/\ae=oS 21 K/\cf X [aK] h j U ar
def wC(X:co):Prop:=9<X.ba/\∀h F,F<5->∃b a8,al X h (.ptr 9 F)=some a8/\d1 X h (λe=>e<X.ba) b a8 2 ((ax F).map λY=>[.str Y.1, .Z Y.2])
section
variable{X:co}{h U a6 aR:V an}{j ar aJ bc aK bN:Nat}{aY:List Tok}{i:Nat}
def iT.of{α eP:Type}{gw:V an}{adM:Nat}{r:Except Int α}{hW:Except Int eP}{ae:J}(a:iT X aK a6 aJ r ae U ar)(gm:cf X [aK] gw adM a6 aJ)(Z:∀K,r= .error K->hW= .error K):iT X aK gw adM hW ae U ar:=by
 obtain⟨K,T,W,au⟩:=a
 exact⟨K,Z K T,W,gm.trans au⟩
def cR.fr{K b:Nat}{I:bG}{v:J}(a:cR X h (cW K b) I v)(gm:cf X [aK] h aJ U ar)(ai:b<=aJ)(aA:aK<K){f3 dN:Nat}(T:f3<=K)(W:b<=dN):cR X U (cW f3 dN) I v:=
 cR.lift (λe H=>⟨Zz T H.1,ZL H.2 W⟩) _ _ (cR.ad (λe H=>gm.ad e (zo H.2) (by simp;have:=H.1;omega)) _ _ a)
def cR.ex{K b:Nat}{I:bG}{v:J}(a:cR X h (cW K b) I v)(F:∀e,K<=e->e<b->ab X U e=ab X h e){f3 dN:Nat}(T:f3<=K)(W:b<=dN):cR X U (cW f3 dN) I v:=
 cR.lift (λe H=>⟨Zz T H.1,ZL H.2 W⟩) _ _ (cR.ad (λe H=>F e H.1 H.2) _ _ a)
def qW{eP:Type}{s:bq}{l:List Tok}{f:Option Tok->List Tok->gf eP}{r:Except Int (eP×List Tok)}(a:io s l f=some r):∃x ci,l=x::ci/\((g5 x s=true/\f (some x) ci=some r)\/(g5 x s=false/\f none l=some r)):=by
 unfold io l6 at a
 cases l with
 |nil=>cases a
 |cons x ci=>
  refine⟨x,ci,rfl, ?_⟩
  simp only[]at a
  cases aI:g5 x s with
  |true=>rw[aI]at a;exact .inl ⟨rfl,a⟩
  |false=>rw[aI]at a;exact .inr ⟨rfl,a⟩
def gx{α eP:Type}{x:gf α}{f:α->List Tok->gf eP}{r:Except Int (eP×List Tok)}(a:andThen x f=some r):(∃K,x=some (.error K)/\r= .error K)\/∃K l,x=some (.ok (K,l))/\f K l=some r:=by
 unfold andThen at a
 split at a
 ·cases a
 ·injection a with a;exact .inl ⟨_,rfl,a.symm⟩
 ·exact .inr ⟨_,_,rfl,a⟩
def nQ(az:dx X)(aA:iF X h j aK bN aY i){x:Tok}{l:List Tok}(aO:aY.drop i=x::l)(s:bq):
 aW X 174 [.ptr aK 0, .str s] h j (λae U ar=>ae= .tuple [.agg (cb (if g5 x s then x else g6)), .bool (g5 x s)]/\aZ X U aK bN aY (if g5 x s then i+1 else i)/\cf X [aK] h j U ar) (λ_ _ _=>False):=by
 obtain⟨T,W⟩:=fP aO
 cases aI:g5 x s with
 |true=>simp only[ZD];exact ae2 az aA.ba aA.par aA.ei aA.hB aA.g4 aA.many T aI
 |false=>simp only[Zx,ZA];exact ae1 az aA.ba aA.par aA.ei aA.hB aA.g4 T aI
structure q2(X:co)(aK bN:Nat)(aY:List Tok)(n:Nat):Prop where
 level:∀h j i (F:Nat) r,F<=5->iF X h j aK bN aY i->Go.aZ.level n F (aY.drop i)=some r->aW X 243 [.ptr aK 0, .Z (F:Int)] h j (jN X aK bN aY h j r) (iT X aK h j r)
 shift:∀h j i r,iF X h j aK bN aY i->Go.aZ.shift n (aY.drop i)=some r->aW X 251 [.ptr aK 0] h j (jN X aK bN aY h j r) (iT X aK h j r)
 ud:∀h j i r,iF X h j aK bN aY i->Go.aZ.xK n (aY.drop i)=some r->aW X 258 [.ptr aK 0] h j (jN X aK bN aY h j r) (iT X aK h j r)
 part:∀h j i r,iF X h j aK bN aY i->Go.aZ.part n (aY.drop i)=some r->aW X 261 [.ptr aK 0] h j (jN X aK bN aY h j r) (iT X aK h j r)
 lS:∀h j i r,iF X h j aK bN aY i->Go.aZ.lS n (aY.drop i)=some r->aW X 232 [.ptr aK 0] h j (jN X aK bN aY h j r) (iT X aK h j r)
 arrow:∀h j i r,iF X h j aK bN aY i->Go.aZ.arrow n (aY.drop i)=some r->aW X 208 [.ptr aK 0] h j (jN X aK bN aY h j r) (iT X aK h j r)
 list:∀h j i r,iF X h j aK bN aY i->Go.aZ.list n (aY.drop i)=some r->aW X 262 [.ptr aK 0] h j (λae U ar=>∃b7 cB bj cD,r= .ok (b7,aY.drop cB)/\d1 X U (cW j ar) cD ae 1 (bj.map λv=>[v])/\dB X U (λe=>cW j ar e/\e≠cD) b7 bj/\aZ X U aK bN aY cB/\cf X [aK] h j U ar) (iT X aK h j r)
def fk{C:a2}{f:Nat}{yf:List J}{ak ay:bJ}{h:V an}{j:Nat}(P:V an->Prop)(bB:P h)(a:∀a7,P a7->aW C f yf a7 j ak ay):aW C f yf h j ak ay:=a h bB
def pt(F:IntKind)(x:Int):J.same 30 (.int F x) (.int F x)=true:=by
 simp only[J.same,Gh];cases F<;>simp[mq]
def aZ.ex(a:aZ X h aK bN aY i)(F:bh X h j U ar)(T:aK<j)(W:bN<j):aZ X U aK bN aY i:=a.ad (F.ad _ T) (F.ad _ W)
def akB(az:dx X){n:Nat}(am:∀m,m<n->q2 X aK bN aY m):∀h j i r,iF X h j aK bN aY i->Go.aZ.arrow n (aY.drop i)=some r->aW X 208 [.ptr aK 0] h j (jN X aK bN aY h j r) (iT X aK h j r):=by
 intro h j i r aA Z
 cases n with
 |zero=>simp[Go.aZ.arrow]at Z
 |succ n=>
 refine zv az (aib X) ?_
 rw[aic]
 unfold Vw
 have gP:=aA.ba
 have ke:=aA.hB
 have hc:=aA.ei
 unfold Go.aZ.arrow at Z
 rcases gx Z with ⟨K,T,rfl⟩|⟨left,en,T,Z⟩
 ·exact((am n Zo).lS h j i _ aA T).mono (λae U ar a=>by obtain⟨I,cB,a,_⟩:=a;cases a) (λae U ar a=>a)
 refine((am n Zo).lS h j i _ aA T).mono ?_ (λae U ar a=>by obtain⟨K,a,_⟩:=a;cases a)
 rintro wh a6 aJ ⟨I,fX,bA,bT,ey,ii⟩
 cases bA
 have jF:=ii.le
 have mT:=aA.go ey jF
 obtain⟨x,ci,aO,ah⟩:=qW Z
 refine(nQ az mT aO _).Zm ?_
 rintro Hk aR bc ⟨rfl,dD,dz⟩
 have f5:=dz.le
 rcases ah with ⟨aI,Z⟩|⟨aI,Z⟩
 ·rw[aI]at dD ⊢
  simp only[ZD]at dD ⊢
  rw[<-(fP aO).2]at Z
  refine ce cb.eq_1 ⟨?_⟩
  refine fk (λa7=>bh X aR bc a7 (bc+1+9)/\ab X a7 bc=zs (cb x) 7) ⟨dR,bi Zo⟩ ?_
  rintro a7 ⟨cm,c0⟩
  rcases gx Z with ⟨K,W,rfl⟩|⟨right,c5,W,Z⟩
  ·refine((am n Zo).arrow a7 _ _ _ (mT.go (dD.ex cm Zo (zo mT.g4)) Zo) W).mono (λae U ar a=>by obtain⟨I,cB,a,_⟩:=a;cases a) (λae U ar a=>a.of (ii.trans (dz.trans (cf.of cm))) (λ_ a=>a))
  refine((am n Zo).arrow a7 _ _ _ (mT.go (dD.ex cm Zo (zo mT.g4)) Zo) W).mono ?_ (λae U ar a=>by obtain⟨K,a,_⟩:=a;cases a)
  rintro v4 bw db ⟨jR,i4,tM,dj,hn,eI⟩
  cases tM
  have jd:=eI.le
  simp only[ok,Zf]at Z
  subst Z
  have el:ab X bw bc=zs (cb x) 7:=by rw[eI.ad _ Zo (by simp;omega)];exact c0
  obtain⟨cL,rfl,hz,_⟩:=bT.ptr
  obtain⟨fU,rfl,o5,_⟩:=dj.ptr
  have hz:=hz.1
  refine c1 (bR el) cb.eq_1 ⟨?_⟩
  refine gs (pt _ _) ?_
  refine⟨_,i4,rfl,cR.lit (i1:= .own) (cD:=bc+1+5) (bj:=[.ptr cL 0, .ptr fU 0]) (bi Zo) ⟨Zo,Zo⟩ ?_ ⟨Zo,Zo⟩ rfl Zo Zo (dB.two (cR.ad (λe H=> ?_) _ _ bT) (cR.ad (λe H=> ?_) _ _ dj) (λe H=> ?_) (λe H=> ?_)), ?_, ?_⟩
  ·simp(disch:=omega) only[aG,bi]<;>rfl
  ·have T:=H.1;have W:=H.2
   simp(disch:=omega) only[aG]
   rw[eI.ad e Zo (by simp;omega),cm.ad e Zo,dz.ad e Zo (by simp;omega)]
  ·have T:=H.1;have W:=H.2
   simp(disch:=omega) only[aG]
  ·simp only[cW]at H ⊢;omega
  ·simp only[cW]at H ⊢;omega
  ·exact hn.ad (zu) (by have:=mT.g4;exact zu)
  ·exact⟨Zo,λb ai bW=>by
    rw[<-((ii.trans (dz.trans (cf.of cm))).trans eI).ad b ai bW]
    simp(disch:=omega) only[aG]⟩
 ·rw[aI]at dD ⊢
  simp only[Zx,ZA]at dD ⊢
  simp only[ok,Zf]at Z
  subst Z
  refine c1 cb.eq_1 g6.eq_1 ⟨?_⟩
  refine⟨left,fX,rfl,cR.ex bT (λe T W=> ?_) (Zl _) Zo,dD.ad (zu) (by have:=mT.g4;exact zu), ?_⟩
  ·simp(disch:=omega) only[aG]
   exact dz.ad e Zo (by simp;omega)
  ·exact⟨Zo,λb ai bW=>by rw[<-(ii.trans dz).ad b ai bW];exact zu⟩
end
section
variable{X:co}{h U a6 aR:V an}{j ar aJ bc aK bN:Nat}{aY:List Tok}{i:Nat}
def amR(az:dx X){n:Nat}(am:∀m,m<n->q2 X aK bN aY m):∀h j i r,iF X h j aK bN aY i->Go.aZ.lS n (aY.drop i)=some r->aW X 232 [.ptr aK 0] h j (jN X aK bN aY h j r) (iT X aK h j r):=by
 intro h j i r aA Z
 cases n with
 |zero=>simp[Go.aZ.lS]at Z
 |succ n=>
 refine zv az (aiF X) ?_
 rw[aiG]
 unfold VK
 have gP:=aA.ba
 have ke:=aA.hB
 have hc:=aA.ei
 unfold Go.aZ.lS at Z
 rcases gx Z with ⟨K,T,rfl⟩|⟨left,en,T,Z⟩
 ·exact((am n Zo).level h j i 0 _ Zo aA T).mono (λae U ar a=>by obtain⟨I,cB,a,_⟩:=a;cases a) (λae U ar a=>a)
 refine((am n Zo).level h j i 0 _ Zo aA T).mono ?_ (λae U ar a=>by obtain⟨K,a,_⟩:=a;cases a)
 rintro wh a6 aJ ⟨I,fX,bA,bT,ey,ii⟩
 cases bA
 have jF:=ii.le
 have mT:=aA.go ey jF
 obtain⟨x,ci,aO,ah⟩:=qW Z
 refine(nQ az mT aO _).Zm ?_
 rintro Hk aR bc ⟨rfl,dD,dz⟩
 have f5:=dz.le
 have jD:=mT.g4
 rcases ah with ⟨aI,Z⟩|⟨aI,Z⟩
 ·rw[aI]at dD ⊢
  simp only[ZD]at dD ⊢
  rw[<-(fP aO).2]at Z
  simp only[]at Z
  obtain⟨cL,a8,cD,bj,rfl,hz,vt,bY,cx,c7,d5,er,dK,fR,iM,jq,JE⟩:=bT.open
  have hz:=hz
  obtain⟨aAz,aAA⟩:=hz
  have ee:al X aR (.ptr cL 0)=some (.Z left.kind):=by rw[dz.f0 _ _ Zo (by simp;omega)];exact vt
  have E3:al X aR (.ptr cL 8)=some a8:=by rw[dz.f0 _ _ Zo (by simp;omega)];exact iM
  have cn:t7 left=some true->∀(M:dY) (a7:V an) (bd:Nat),M.g 4=some (.ptr bc 0)->M.g 3=some (.ptr cL 0)->M.g 0=some (.ptr aK 0)->bh X aR bc a7 bd->bc<bd->ab X a7 bc=zs (cb x) 7->
   eM (bd+9) λauq=>aj (M.g 4) λax0=>E (a1 2 ax0) λafj=>E (al X a7 afj) λafk=>aj (M.g 3) λax1=>aj (M.g 0) λax2=>aW X 232 [ax2] a7 auq (λayw ajM aur=>E (fw 2 [.cy, .cy] [(0,1,ax1),(1,1,ayw)] (bd+5)) λaeq=>ld X ajM (bd+5) aeq.1 aeq.2 λayx ajN=>E (eC [(.Z 0),(.Z 0),(.str []),(.bool false),(.bool false),(.bool false),(.Z 0),(.int .u64 0), .aU] [(0,1,(.Z 21)),(1,1,afk),(8,1,ayx)]) λayy=>yg X ajN (bd+7) ayy λayz Wq=>E (al X Wq afj) λayA=>gi ayA (some afk) (jN X aK bN aY h j r ayz Wq aur)) (iT X aK h j r):=by
   intro Rx M a7 bd t4 t3 t0 cm c4 c0
   rw[Rx]at Z
   simp only[]at Z
   refine fW @t4 @t3 @t0 (bR c0) cb.eq_1 ⟨?_⟩
   rcases gx Z with ⟨K,W,rfl⟩|⟨right,c5,W,Z⟩
   ·refine((am n Zo).lS a7 _ _ _ (mT.go (dD.ex cm Zo Zo) Zo) W).mono (λae U ar a=>by obtain⟨I,cB,a,_⟩:=a;cases a) (λae U ar a=>a.of (ii.trans (dz.trans (cf.of (cm.more Zo)))) (λ_ a=>a))
   refine((am n Zo).lS a7 _ _ _ (mT.go (dD.ex cm Zo Zo) Zo) W).mono ?_ (λae U ar a=>by obtain⟨K,a,_⟩:=a;cases a)
   rintro v4 bw db ⟨jR,i4,tM,dj,hn,eI⟩
   cases tM
   have jd:=eI.le
   simp only[ok,Zf]at Z
   subst Z
   have el:ab X bw bc=zs (cb x) 7:=by rw[eI.ad _ Zo (by simp;omega)];exact c0
   obtain⟨fU,rfl,o5,_⟩:=dj.ptr
   refine c1 (bR el) cb.eq_1 ⟨?_⟩
   refine gs (pt _ _) ?_
   refine⟨_,i4,rfl,cR.lit (i1:= .own) (cD:=bd+5) (bj:=[.ptr cL 0, .ptr fU 0]) (bi Zo) ⟨Zo,Zo⟩ ?_ ⟨Zo,Zo⟩ rfl Zo Zo (dB.two (cR.ad (λe H=> ?_) _ _ bT) (cR.ad (λe H=> ?_) _ _ dj) (λe H=> ?_) (λe H=> ?_)), ?_, ?_⟩
   ·simp(disch:=omega) only[aG,bi]<;>rfl
   ·have T:=H.1;have W:=H.2
    simp(disch:=omega) only[aG]
    rw[eI.ad e Zo (by simp;omega),cm.ad e Zo,dz.ad e Zo (by simp;omega)]
   ·have T:=H.1;have W:=H.2
    simp(disch:=omega) only[aG]
   ·simp only[cW]at H ⊢;omega
   ·simp only[cW]at H ⊢;omega
   ·exact hn.ad (zu) (zu)
   ·exact⟨Zo,λb ai bW=>by
     rw[<-((ii.trans (dz.trans (cf.of (cm.more (by omega:bd<=bd+9))))).trans eI).ad b ai bW]
     simp(disch:=omega) only[aG]⟩
  have XX:t7 left=some false->∀(a7:V an) (bd:Nat) (ak:bJ),bh X aR bc a7 bd->aW X 206 [.agg (cb x)] a7 bd ak (iT X aK h j r):=by
   intro Rx a7 bd ak cm
   rw[Rx]at Z
   simp only[bad,Zf]at Z
   subst Z
   refine(Ig az (zo cm.le) x _ ?_).mono (λ_ _ _ a=>a.elim) (λ_ _ _ a=>a)
   intro U ar bX
   exact⟨_,rfl,rfl,ii.trans (dz.trans (cf.of (cm.trans bX)))⟩
  by_cases k5:left.kind=1
  ·have c3:decide (left.kind≠1)=false:=by simp[k5]
   refine hm cb.eq_1 @ee @c3 ⟨?_⟩
   refine gX ?_
   refine hm cb.eq_1 @ee @c3 ⟨?_⟩
   refine gX ?_
   refine pI ?_
   exact cn (by simp[t7,k5]) _ _ _ (bp) (bp) (bp) dR Zo (bi Zo)
  ·have c3:decide (left.kind≠1)=true:=by simp[k5]
   by_cases gg:left.kind=4
   ·have iH:decide (left.kind≠4)=false:=by simp[gg]
    cases w8:left.args with
    |nil=>
     simp[t7,gg,w8]at Z
    |cons K yf=>
     obtain⟨v,bD,uS⟩:=JE.get 0 K (by rw[w8];rfl)
     obtain⟨gz,kv,nf⟩:=jq.one bD
     have gz:dd 1 a8 (.Z 0)=some (.ptr cD 0):=gz
     obtain⟨nM,rfl,ard,mo⟩:=uS.ptr
     obtain⟨aAB,aAC⟩:=ard
     obtain⟨aBg,aBh⟩:=nf
     have E4:al X aR (.ptr cD 0)=some (.ptr nM 0):=by rw[dz.f0 _ _ Zo (by simp;omega)];exact kv
     have tk:al X aR (.ptr nM 0)=some (.Z K.kind):=by rw[dz.f0 _ _ Zo (by simp;omega)];exact mo
     by_cases aE:K.kind=1
     ·have gc:decide (K.kind≠1)=false:=by simp[aE]
      refine hm cb.eq_1 @ee (Za @c3 (Za @iH (Za @E3 (Za @gz (Za @E4 (Za @tk @gc)))))) ⟨?_⟩
      refine gX ?_
      refine hm cb.eq_1 @ee (Za @c3 (Za @iH (Za @E3 (Za @gz (Za @E4 (Za @tk @gc)))))) ⟨?_⟩
      refine gX ?_
      refine pI ?_
      exact cn (by simp[t7,gg,w8,aE]) _ _ _ (bp) (bp) (bp) dR Zo (bi Zo)
     ·have gc:decide (K.kind≠1)=true:=by simp[aE]
      refine hm cb.eq_1 @ee (Za @c3 (Za @iH (Za @E3 (Za @gz (Za @E4 (Za @tk @gc)))))) ⟨?_⟩
      refine gX ?_
      refine hm cb.eq_1 @ee (Za @c3 (Za @iH (Za @E3 (Za @gz (Za @E4 (Za @tk @gc)))))) ⟨?_⟩
      refine gX ?_
      refine pJ ?_
      refine ce cb.eq_1 ⟨?_⟩
      exact XX (by simp[t7,gg,w8,aE]) _ _ _ dR
   ·have iH:decide (left.kind≠4)=true:=by simp[gg]
    refine hm cb.eq_1 @ee (Za @c3 @iH) ⟨?_⟩
    refine gX ?_
    refine hm cb.eq_1 @ee (Za @c3 @iH) ⟨?_⟩
    refine gX ?_
    refine pJ ?_
    refine ce cb.eq_1 ⟨?_⟩
    exact XX (by simp[t7,k5,gg]) _ _ _ dR
 ·rw[aI]at dD ⊢
  simp only[Zx,ZA]at dD ⊢
  simp only[ok,Zf]at Z
  subst Z
  refine c1 cb.eq_1 g6.eq_1 ⟨?_⟩
  refine⟨left,fX,rfl,cR.ex bT (λe T W=> ?_) (Zl _) Zo,dD.ad (zu) (zu), ?_⟩
  ·simp(disch:=omega) only[aG]
   exact dz.ad e Zo (by simp;omega)
  ·exact⟨Zo,λb ai bW=>by rw[<-(ii.trans dz).ad b ai bW];exact zu⟩
end
section
variable{X:co}{h U a6 aR:V an}{j ar aJ bc aK bN:Nat}{aY:List Tok}{i:Nat}
def afW(X:co)(aK bN:Nat)(aY:List Tok)(h:V an)(j:Nat)(r:Option bG×List Tok):bJ:=λae U ar=>∃cB,r.2=aY.drop cB/\aZ X U aK bN aY cB/\cf X [aK] h j U ar/\
 match r.1 with
 |none=>ae= .tuple [.cy, .bool false]
 |some I=>∃b F K,I= .mk F K [] false dU 0 []/\ae= .tuple [.ptr b 0, .bool true]/\j<=b/\b<ar/\ab X U b=zs (g9 F K [] false dU 0 .aU) 9
def akT(az:dx X)(e3:wC X){F:Nat}(aL:F<5)(aA:iF X h j aK bN aY i){r:Option bG×List Tok}(Z:oP (ax F) (aY.drop i)=some r):
 aW X 252 [.ptr aK 0, .Z (F:Int)] h j (afW X aK bN aY h j r) (λ_ _ _=>False):=by
 refine zv az (aiX X) ?_
 rw[aiY]
 unfold VT
 have gP:=aA.ba
 have ke:=aA.hB
 have hc:=aA.ei
 have jD:=aA.g4
 obtain⟨aoL,e3⟩:=e3
 obtain⟨b,a8,jq,cG⟩:=e3 h F aL
 have dQ:Gj 5 1 (.ptr 9 0) (.Z (F:Int))=some (.ptr 9 F):=by
  simp[Gj,qO,KQ,fG,aL]
 have fL:=cG.len
 rw[Zi]at fL
 have vf:=cG.many
 rw[Zi]at vf
 refine hm @dQ @jq @fL ⟨?_⟩
 refine gX ?_
 refine fC (λm M U n=>∃aa,m=(ax F).length-aa/\aa<=(ax F).length/\M.g 0=some (.ptr aK 0)/\M.g 12=some a8/\M.g 13=some (.Z ((ax F).length:Int))/\M.g 14=some (.Z (aa:Int))/\aZ X U aK bN aY i/\cf X [aK] h j U n/\oP ((ax F).drop aa) (aY.drop i)=some r)
  (ax F).length ⟨0,Zo,Zo,bp,bp,bp,fQ,aA.par,cf.refl _ _ _,Z⟩ ?_
 rintro m M aR n ⟨aa,rfl,bL,t0,uj,lE,my,dD,gm,ai⟩
 have gE:=gm.le
 have fT:=aA.go dD gE
 refine LS @lE @my ⟨?_⟩
 refine gX ?_
 refine E1 (λc4=> ?_) (λc4=> ?_)
 ·have c4:aa<(ax F).length:=Zo
  have kf:(ax F).drop aa=(ax F)[aa]::(ax F).drop (aa+1):=Zw c4
  rw[kf]at ai
  have abq:=cG.e9 aa (by simpa using c4)
  have ft:=((e3 aR F aL).choose_spec)
  obtain⟨dL,TB,vk,Jq⟩:=e3 aR F aL
  have R1:TB=a8:=by
   have I:al X aR (.ptr 9 F)=al X h (.ptr 9 F):=by
    rw[cg,cg]
    have:∀h:V an,ab X h 9=X.G.get 9:=λh=>by
     have apn:Nat.blt 9 (q X).ba=true:=by simp[Nat.blt];exact aoL
     simp only[ab,apn,e6];rfl
    rw[this,this]
   rw[I,jq]at vk
   exact(Yv vk).symm
  subst R1
  have abq:=Jq.e9 aa (by simpa using c4)
  have ft:=λa7 (a:∀e,e<X.ba->ab X a7 e=ab X aR e)=>(Jq.ad (U:=a7) a).row Zd (i:=aa) (r:=[.str (ax F)[aa].1, .Z (ax F)[aa].2]) (by rw[Zt,Ze c4];rfl)
  have ft:=ft aR (λ_ _=>rfl)
  generalize (ax F)[aa]=Y at ai ft kf
  obtain⟨s,fb⟩:=Y
  simp only[oP]at ai
  refine fW @uj @my @abq @ft @t0 ⟨?_⟩
  refine fk (λa7=>bh X aR n a7 (n+1)/\ab X a7 n=zs [.str s, .Z fb] 2) ⟨dR,bi Zo⟩ ?_
  rintro a7 ⟨cm,c0⟩
  cases aO:aY.drop i with
  |nil=>rw[aO]at ai;simp[l6]at ai
  |cons x l=>
   rw[aO]at ai
   refine(nQ az (fT.go (dD.ex cm Zo Zo) Zo) aO s).Zm ?_
   rintro ae bw db ⟨rfl,hn,eI⟩
   have jd:=eI.le
   have el:ab X bw n=zs [.str s, .Z fb] 2:=by rw[eI.ad _ Zo (by simp;omega)];exact c0
   have rn:=gm.trans ((cf.of cm).trans eI)
   cases aI:g5 x s with
   |true=>
    rw[aI]at hn
    simp only[l6,aI,ZD]at ai hn ⊢
    simp only[Zf]at ai
    subst ai
    refine c1 cb.eq_1 (bR el) ⟨?_⟩
    refine⟨i+1,(fP aO).2.symm,hn.ad (zu) (zu), ?_,db+1,fb,x.at_,rfl,rfl,Zo,Zo, ?_⟩
    ·exact⟨Zo,λb ai bW=>by rw[<-rn.ad b ai bW];exact zu⟩
    ·simp(disch:=omega) only[aG,bi]<;>rfl
   |false=>
    rw[aI]at hn
    simp only[l6,aI,Zx,ZA]at ai hn ⊢
    have bH:=zt aa
    refine gl cb.eq_1 g6.eq_1 @my @bH ⟨?_⟩
    refine⟨_, ?_,aa+1,rfl,Zo,aQ t0,aQ uj,aQ lE,bp,hn.ad (zu) (zu), ?_,ai⟩
    ·omega
    ·exact⟨Zo,λb ai bW=>by rw[<-rn.ad b ai bW];exact zu⟩
 ·have bL:aa=(ax F).length:=Zo
  subst bL
  rw[List.drop_length]at ai
  simp only[oP,Zf]at ai
  subst ai
  refine cS ⟨?_⟩
  exact⟨i,rfl,dD,gm,rfl⟩
end
section
variable{X:co}{h U a6 aR:V an}{j ar aJ bc aK bN:Nat}{aY:List Tok}{i:Nat}
def atJ(az:dx X)(e3:wC X){n:Nat}(am:∀m,m<n->q2 X aK bN aY m):∀h j i (F:Nat) r,F<=5->iF X h j aK bN aY i->Go.aZ.level n F (aY.drop i)=some r->aW X 243 [.ptr aK 0, .Z (F:Int)] h j (jN X aK bN aY h j r) (iT X aK h j r):=by
 intro h j i F r aL aA Z
 cases n with
 |zero=>simp[Go.aZ.level]at Z
 |succ n=>
 refine zv az (aiR X) ?_
 rw[aiS]
 unfold VQ
 have gP:=aA.ba
 have ke:=aA.hB
 have hc:=aA.ei
 have jD:=aA.g4
 unfold Go.aZ.level at Z
 by_cases mJ:F=5
 ·subst mJ
  rw[Zr rfl]at Z
  have c3:decide (((5:Nat):Int)=5)=true:=rfl
  refine ce @c3 ⟨?_⟩
  exact(am n Zo).shift h j i r aA Z
 ·rw[Zh mJ]at Z
  have c3:decide ((F:Int)=5)=false:=by simp;omega
  have bH:=zt F
  refine c1 @c3 @bH ⟨?_⟩
  rcases gx Z with ⟨K,T,rfl⟩|⟨left,en,T,Z⟩
  ·exact((am n Zo).level h j i (F+1) _ Zo aA T).mono (λae U ar a=>by obtain⟨I,cB,a,_⟩:=a;cases a) (λae U ar a=>a)
  refine((am n Zo).level h j i (F+1) _ Zo aA T).mono ?_ (λae U ar a=>by obtain⟨K,a,_⟩:=a;cases a)
  rintro wh a6 aJ ⟨I,fX,bA,bT,ey,ii⟩
  cases bA
  have jF:=ii.le
  refine gX ?_
  refine fC (λm M U aV=>∃left v cB,m<=n/\M.g 0=some (.ptr aK 0)/\M.g 1=some (.Z (F:Int))/\M.g 5=some v/\cR X U (cW j aV) left v/\aZ X U aK bN aY cB/\cf X [aK] h j U aV/\pi m F left (aY.drop cB)=some r)
   n ⟨left,wh,fX,Zl _,bp,bp,bp,bT,ey,ii,Z⟩ ?_
  clear bT ey ii T Z
  rintro m M aR bc ⟨left,v,f7,bs,t0,t1,t5,bC,dD,dz,Z⟩
  cases m with
  |zero=>simp[pi]at Z
  |succ m=>
  unfold pi at Z
  have f5:=dz.le
  have fT:=aA.go dD f5
  refine gX ?_
  refine c1 @t0 @t1 ⟨?_⟩
  cases ai:oP (ax F) (aY.drop f7)with
  |none=>rw[ai]at Z;cases Z
  |some Kq=>
  rw[ai]at Z
  refine(akT az e3 Zo fT ai).Zm ?_
  rintro Aq a7 bd ⟨i3,tL,gL,ej,be⟩
  have ik:=ej.le
  obtain⟨ro,aBq⟩:=Kq
  simp only[]at tL
  subst tL
  cases ro with
  |none=>
   simp only[]at be Z
   subst be
   simp only[ok,Zf]at Z
   subst Z
   refine ce @t5 ⟨?_⟩
   exact⟨left,i3,rfl,cR.fr bC ej Zo Zo (Zl _) Zo,gL,dz.trans ej⟩
  |some I=>
   simp only[]at be Z
   obtain⟨b,fb,K,rfl,rfl,oa,lT,c0⟩:=be
   refine gl @t0 @t1 @t5 @bH ⟨?_⟩
   rcases gx Z with ⟨f3,aP,rfl⟩|⟨right,g2,aP,Z⟩
   ·refine((am m Zo).level a7 bd i3 (F+1) _ Zo (fT.go gL ik) aP).mono (λae U ar a=>by obtain⟨I,cB,a,_⟩:=a;cases a) (λae U ar a=>a.of (dz.trans ej) (λ_ a=>a))
   refine((am m Zo).level a7 bd i3 (F+1) _ Zo (fT.go gL ik) aP).mono ?_ (λae U ar a=>by obtain⟨K,a,_⟩:=a;cases a)
   rintro v4 bw db ⟨jR,i4,tM,dj,hn,eI⟩
   cases tM
   have jd:=eI.le
   have el:ab X bw b=zs (g9 fb K [] false dU 0 .aU) 9:=by rw[eI.ad _ Zo (by simp;omega)];exact c0
   obtain⟨cC,rfl,lV,_⟩:=bC.ptr
   obtain⟨fU,rfl,o5,_⟩:=dj.ptr
   refine d9 @t5 @el @t1 ⟨?_⟩
   have fin:∀gF,gF=bo X (bo X bw db (zs [.ptr cC 0, .ptr fU 0] 2)) b (zs (g9 fb K [] false dU 0 (.slice db 0 2 2)) 9)->cR X gF (cW j (db+1)) (two (.mk fb K [] false dU 0 []) left right) (.ptr b 0)/\aZ X gF aK bN aY i4/\cf X [aK] h j gF (db+1):=by
    rintro gF rfl
    refine⟨cR.lit (i1:= .own) (cD:=db) (bj:=[.ptr cC 0, .ptr fU 0]) (bi Zo) ⟨Zo,Zo⟩ ?_ ⟨Zo,Zo⟩ rfl Zo Zo (dB.two (cR.ad (λe H=> ?_) _ _ bC) (cR.ad (λe H=> ?_) _ _ dj) (λe H=> ?_) (λe H=> ?_)), ?_, ?_⟩
    ·simp(disch:=omega) only[aG,bi]
    ·have T:=H.1;have W:=H.2
     simp(disch:=omega) only[aG]
     rw[eI.ad e Zo (by simp;omega),ej.ad e Zo (by simp;omega)]
    ·have T:=H.1;have W:=H.2
     simp(disch:=omega) only[aG]
    ·simp only[cW]at H ⊢;omega
    ·simp only[cW]at H ⊢;omega
    ·exact hn.ad (zu) (zu)
    ·exact⟨Zo,λe H bW=>by
      rw[<-((dz.trans ej).trans eI).ad e H bW]
      simp(disch:=omega) only[aG]⟩
   obtain⟨eS,e2,iU⟩:=fin (bo X (bo X bw db (zs [.ptr cC 0, .ptr fU 0] 2)) b (some (.cells (d3 (V.ofList (g9 fb K [] false dU 0 .aU) 0 .nil) 8 (J.slice db 0 2 2).cells) 9 .own))) rfl
   refine E1 (λW=> ?_) (λW=> ?_)
   ·have iX:F=2:=Zo
    rw[Zr iX]at Z
    simp only[ok,Zf]at Z
    subst Z
    exact⟨_,i4,rfl,eS,e2,iU⟩
   ·rw[Zh Zo]at Z
    exact⟨m,Zo,_, .ptr b 0,i4,Zo,aQ t0,aQ t1,bp,eS,e2,iU,Z⟩
end
section
variable{X:co}{h U a6 aR:V an}{j ar aJ bc aK bN:Nat}{aY:List Tok}{i:Nat}
def axc(az:dx X){n:Nat}(am:∀m,m<n->q2 X aK bN aY m):∀h j i r,iF X h j aK bN aY i->Go.aZ.shift n (aY.drop i)=some r->aW X 251 [.ptr aK 0] h j (jN X aK bN aY h j r) (iT X aK h j r):=by
 intro h j i r aA Z
 cases n with
 |zero=>simp[Go.aZ.shift]at Z
 |succ n=>
 refine zv az (aiV X) ?_
 rw[aiW]
 unfold VS
 have gP:=aA.ba
 have ke:=aA.hB
 have hc:=aA.ei
 have jD:=aA.g4
 unfold Go.aZ.shift at Z
 rcases gx Z with ⟨K,T,rfl⟩|⟨left,en,T,Z⟩
 ·exact((am n Zo).ud h j i _ aA T).mono (λae U ar a=>by obtain⟨I,cB,a,_⟩:=a;cases a) (λae U ar a=>a)
 refine((am n Zo).ud h j i _ aA T).mono ?_ (λae U ar a=>by obtain⟨K,a,_⟩:=a;cases a)
 rintro wh a6 aJ ⟨I,fX,bA,bT,ey,ii⟩
 cases bA
 have jF:=ii.le
 refine gX ?_
 refine fC (λm M U aV=>∃left v cB,M.g 0=some (.ptr aK 0)/\M.g 3=some v/\cR X U (cW j aV) left v/\aZ X U aK bN aY cB/\cf X [aK] h j U aV/\pu m left (aY.drop cB)=some r)
  n ⟨left,wh,fX,bp,bp,bT,ey,ii,Z⟩ ?_
 clear bT ey ii T Z jF
 rintro m M aR bc ⟨left,v,f7,t0,t3,bC,dD,dz,Z⟩
 cases m with
 |zero=>simp[pu]at Z
 |succ m=>
 unfold pu at Z
 have f5:=dz.le
 have fT:=aA.go dD f5
 refine gX ?_
 obtain⟨cC,rfl,lV,_⟩:=bC.ptr
 have lV:=lV.2
 refine ce @t0 ⟨?_⟩
 obtain⟨x,ci,aO,ah⟩:=qW Z
 refine(nQ az fT aO _).Zm ?_
 rintro Aq a7 bd ⟨rfl,gL,ej⟩
 have ik:=ej.le
 have pV:=aO
 refine rk cb.eq_1 ⟨?_⟩
 refine j0 (λc8 U aV=>∃JK fb x cB dl,c8.g 0=some (.ptr aK 0)/\c8.g 3=some (.ptr cC 0)/\c8.g 4=some (.Z fb)/\c8.g 5=some (.ptr dl 0)/\c8.g 6=some (.bool JK)/\ab X U dl=zs (cb x) 7/\bc<=dl/\dl<aV/\cR X U (cW j bc) left (.ptr cC 0)/\aZ X U aK bN aY cB/\cf X [aK] h j U aV/\bc<=aV/\
  (JK=true->pv m fb x left (aY.drop cB)=some r)/\(JK=false->r= .ok (left,aY.drop cB))) (λaa bL=> ?_) ?_
 ·have c0:∀h,ab X (bo X (bo X h bd (zs (cb g6) 7)) bd (some (.cells (d3 (V.ofList (cb g6) 0 .nil) 0 (cb x)) 7 .own))) bd=zs (cb x) 7:=λh=>bi Zo
  rcases ah with ⟨aI,Z⟩|⟨aI,Z⟩
  ·rw[aI]at gL ⊢
   simp only[ZD]at gL ⊢
   refine cS ⟨?_⟩
   refine bL _ _ _ ⟨true,19,x,f7+1,bd,aQ t0,aQ t3,bp,bp,bp,bi Zo,Zo,Zo, ?_,gL.ad (zu) (zu), ?_,Zo,λ_=>by rw[(fP pV).2];exact Z,λa=>by cases a⟩
   ·refine cR.ex bC (λe T W=> ?_) (Zl _) (Zl _)
    simp(disch:=omega) only[aG]
    exact ej.ad e Zo (by simp;omega)
   ·exact⟨Zo,λe H bW=>by rw[<-(dz.trans ej).ad e H bW];exact zu⟩
  ·rw[aI]at gL ⊢
   simp only[Zx,ZA]at gL ⊢
   simp only[]at Z
   refine ce @t0 ⟨?_⟩
   refine fk (λbw=>bh X a7 bd bw (bd+1)/\ab X bw bd=zs (cb g6) 7) ⟨dR,bi Zo⟩ ?_
   rintro bw ⟨dj,el⟩
   have kO:=fT.go (gL.ex dj Zo Zo) (by omega:bc<=bd+1)
   obtain⟨e,gM,oZ,ase⟩:=qW Z
   refine(nQ az kO oZ _).Zm ?_
   rintro Ey bS cj ⟨rfl,ho,dG⟩
   have il:=dG.le
   have fK:ab X bS bd=zs (cb g6) 7:=by rw[dG.ad _ Zo (by simp;omega)];exact el
   have eE:∀e,e<bc->e≠aK->ab X bS e=ab X aR e:=λe T W=>by
    rw[dG.ad e Zo (by simpa using W),dj.ad e Zo,ej.ad e Zo (by simpa using W)]
   have eD:=((dz.trans ej).trans (cf.of dj)).trans dG
   unfold cb g6 dU at fK
   rcases ase with ⟨Ds,Z⟩|⟨Ds,Z⟩
   ·rw[Ds]at ho ⊢
    simp only[ZD]at ho ⊢
    refine c1 cb.eq_1 @fK ⟨?_⟩
    refine bL _ _ _ ⟨true,20,e,f7+1,bd,aQ t0,aQ t3,bp,bp,bp,bi Zo,Zo,Zo, ?_,ho.ad (zu) (zu), ?_,Zo,λ_=>by rw[(fP oZ).2];exact Z,λa=>by cases a⟩
    ·refine cR.ex bC (λe T W=> ?_) (Zl _) (Zl _)
     simp(disch:=omega) only[aG]
     exact eE e W Zo
    ·exact⟨Zo,λe H bW=>by rw[<-eD.ad e H bW];exact zu⟩
   ·rw[Ds]at ho ⊢
    simp only[Zx,ZA]at ho ⊢
    simp only[ok,Zf]at Z
    refine gl cb.eq_1 g6.eq_1 dU.eq_1 @fK ⟨?_⟩
    refine bL _ _ _ ⟨false,20,g6,f7,bd,aQ t0,aQ t3,bp,bp,bp,bi Zo,Zo,Zo, ?_,ho.ad (zu) (zu), ?_,Zo,λa=>(by cases a),λ_=>Z.symm⟩
    ·refine cR.ex bC (λe T W=> ?_) (Zl _) (Zl _)
     simp(disch:=omega) only[aG]
     exact eE e W Zo
    ·exact⟨Zo,λe H bW=>by rw[<-eD.ad e H bW];exact zu⟩
 ·clear bC gL ej ah Z aO pV dD fT
  rintro ay7 b4 dH ⟨JK,fb,x,h9,dl,t0,t3,t4,t5,gt,d8,aAs,aAt,dV,hH,eD,pY,H,m9⟩
  cases JK with
  |false=>
   have Z:=m9 rfl
   subst Z
   refine c1 @gt @t3 ⟨?_⟩
   exact⟨left,h9,rfl,cR.lift (λe H=>⟨H.1,zo H.2⟩) _ _ dV,hH,eD⟩
  |true=>
   have Z:=H rfl
   cases m with
   |zero=>simp[pv]at Z
   |succ m=>
   unfold pv at Z
   have mv:=aA.go hH (by omega:j<=dH)
   refine c1 @gt @t0 ⟨?_⟩
   cases aO:aY.drop h9 with
   |nil=>rw[aO]at Z;simp[iO,andThen]at Z
   |cons e l=>
   rw[aO]at Z
   simp only[iO]at Z
   refine(BW az mv.ba mv.par mv.ei mv.hB mv.g4 mv.many (fP aO).1 4).mono ?_ ?_
   ·rintro afg cu e1 ⟨aL,rfl,hR,ev⟩
    have nE:=ev.le
    rw[Zr aL]at Z
    simp only[andThen,ok]at Z
    have eQ:ab X cu dl=zs (cb x) 7:=by rw[ev.ad _ Zo (by simp;omega)];exact d8
    have e7:=cR.ex (U:=cu) dV (λe T W=>ev.ad e Zo (by simp;omega)) (Zl _) (Zl _)
    have rn:=eD.trans ev
    refine rk cb.eq_1 ⟨?_⟩
    refine gX ?_
    refine E1 (λQY=> ?_) (λQY=> ?_)
    ·rw[Zr QY]at Z
     simp only[bad,Zf]at Z
     subst Z
     refine ce cb.eq_1 ⟨?_⟩
     refine(Ig az Zo e _ ?_).mono (λ_ _ _ a=>a.elim) (λ_ _ _ a=>a)
     intro U ar bX
     exact⟨_,rfl,rfl,rn.trans (cf.of (bh.trans dR bX))⟩
    ·rw[Zh QY]at Z
     refine fW cb.eq_1 @t4 @t5 @t3 (bR eQ) ⟨?_⟩
     refine⟨m,Zo,_, .ptr (e1+1+1) 0,h9+1,aQ t0,bp,cR.lit (F:=1) (cap:=1) (n:=e.n) (kind:=fb) (at_:=x.at_) (name:=[]) (no:=false) (ty:=dU) (b:=e1+1+1) (i1:= .own) (cD:=e1+1) (bj:=[.ptr cC 0]) (bi (b:=e1+1+1) Zo) ⟨Zo,Zo⟩ ?_ ⟨Zo,Zo⟩ rfl Zo Zo (dB.one (cR.ad (λe H=> ?_) _ _ e7) (λe H=> ?_)), ?_, ?_,by rw[(fP aO).2];exact Z⟩
     ·simp(disch:=omega) only[aG,bi]<;>rfl
     ·have T:=H.1;have W:=H.2
      simp(disch:=omega) only[aG]
     ·simp only[cW]at H ⊢;omega
     ·exact hR.ad (zu) (zu)
     ·exact⟨Zo,λe H bW=>by
       rw[<-rn.ad e H bW]
       simp(disch:=omega) only[aG]⟩
   ·rintro afg cu e1 ⟨aL,rfl,ev⟩
    rw[Zh aL]at Z
    simp only[andThen,bad,Zf]at Z
    subst Z
    exact⟨_,rfl,rfl,eD.trans ev⟩
end
section
variable{X:co}{h U a6 aR:V an}{j ar aJ bc aK bN:Nat}{aY:List Tok}{i:Nat}
def asF{n br aa:Nat}{cs:List J}(F:IntKind)(a:aa<n):qI true n br (.agg cs) (.int F (aa:Int))=some (.agg ((cs.drop (aa*br)).take br)):=by
 simp[qI,qO,fG,a]
def Tc:List J:=[.str [110,111,116], .Z 3, .str [45], .Z 4, .str [112,114,101], .Z 5]
def avH{aa:Nat}(a:aa<3):∃s F,Ae.drop aa=(s,F)::Ae.drop (aa+1)/\(Tc.drop (aa*2)).take 2=[.str s, .Z F]:=by
 match aa,a with
 |0,_=>exact⟨_,_,rfl,rfl⟩
 |1,_=>exact⟨_,_,rfl,rfl⟩
 |2,_=>exact⟨_,_,rfl,rfl⟩
def avQ(az:dx X){n:Nat}(am:∀m,m<n->q2 X aK bN aY m):∀h j i r,iF X h j aK bN aY i->Go.aZ.xK n (aY.drop i)=some r->aW X 258 [.ptr aK 0] h j (jN X aK bN aY h j r) (iT X aK h j r):=by
 intro h j i r aA Z
 cases n with
 |zero=>simp[Go.aZ.xK]at Z
 |succ n=>
 refine zv az (aiZ X) ?_
 rw[ai0]
 unfold VU
 have gP:=aA.ba
 have ke:=aA.hB
 have hc:=aA.ei
 have jD:=aA.g4
 unfold Go.aZ.xK at Z
 cases ai:oP Ae (aY.drop i)with
 |none=>rw[ai]at Z;cases Z
 |some Kq=>
 rw[ai]at Z
 refine yv ⟨?_⟩
 refine j0 (λM U aV=>M.g 0=some (.ptr aK 0)/\aZ X U aK bN aY i/\cf X [aK] h j U aV/\Kq=(none,aY.drop i)) (λaa bL=> ?_) ?_
 ·refine fC (λm M U aV=>∃aa,m=3-aa/\aa<=3/\M.g 0=some (.ptr aK 0)/\M.g 15=some (.agg Tc)/\M.g 16=some (.Z (aa:Int))/\aZ X U aK bN aY i/\cf X [aK] h j U aV/\oP (Ae.drop aa) (aY.drop i)=some Kq)
   3 ⟨0,rfl,Zo,bp,fQ,fQ,aA.par,cf.refl _ _ _,ai⟩ ?_
  rintro m M aR bc ⟨aa,rfl,MD,t0,v8,Al,dD,dz,ai⟩
  have f5:=dz.le
  have fT:=aA.go dD f5
  refine rk @Al ⟨?_⟩
  refine gX ?_
  refine E1 (λc4=> ?_) (λc4=> ?_)
  ·have c4:aa<3:=Zo
   obtain⟨s,fb,kf,ft⟩:=avH c4
   rw[kf]at ai
   simp only[oP]at ai
   have abp:=asF (n:=3) (br:=2) (cs:=Tc) .i64 c4
   rw[ft]at abp
   refine gl @v8 @Al @abp @t0 ⟨?_⟩
   refine fk (λa7=>bh X aR bc a7 (bc+1)/\ab X a7 bc=zs [.str s, .Z fb] 2) ⟨dR,bi Zo⟩ ?_
   rintro a7 ⟨cm,c0⟩
   cases aO:aY.drop i with
   |nil=>rw[aO]at ai;simp[l6]at ai
   |cons x l=>
   rw[aO]at ai
   refine(nQ az (fT.go (dD.ex cm Zo Zo) Zo) aO s).Zm ?_
   rintro ae bw db ⟨rfl,hn,eI⟩
   have jd:=eI.le
   have el:ab X bw bc=zs [.str s, .Z fb] 2:=by rw[eI.ad _ Zo (by simp;omega)];exact c0
   have rn:=dz.trans ((cf.of cm).trans eI)
   cases aI:g5 x s with
   |true=>
    rw[aI]at hn
    simp only[l6,aI,ZD]at ai hn ⊢
    simp only[Zf]at ai
    subst ai
    simp only[]at Z
    refine d9 cb.eq_1 (bR el) @t0 ⟨?_⟩
    refine fk (λbS=>bh X bw db bS (db+1+10)/\ab X bS db=zs (cb x) 7) ⟨dR,bi Zo⟩ ?_
    rintro bS ⟨dF,fK⟩
    have ov:=fT.go (hn.ex dF Zo Zo) (by omega:bc<=db+1+10)
    have dG:=rn.trans (cf.of dF)
    rw[<-(fP aO).2]at Z
    rcases gx Z with ⟨K,cr,rfl⟩|⟨H8,mQ,cr,Z⟩
    ·exact((am n Zo).ud bS _ _ _ ov cr).mono (λae U ar a=>by obtain⟨I,cB,a,_⟩:=a;cases a) (λae U ar a=>a.of dG (λ_ a=>a))
    refine((am n Zo).ud bS _ _ _ ov cr).mono ?_ (λae U ar a=>by obtain⟨K,a,_⟩:=a;cases a)
    rintro Ar b4 dH ⟨azn,h9,Re,dV,hH,eD⟩
    cases Re
    have pY:=eD.le
    simp only[ok,Zf]at Z
    subst Z
    obtain⟨xL,rfl,Jn,_⟩:=dV.ptr
    have d8:ab X b4 db=zs (cb x) 7:=by rw[eD.ad _ Zo (by simp;omega)];exact fK
    have δ:ab X b4 bc=zs [.str s, .Z fb] 2:=by rw[eD.ad _ Zo (by simp;omega),dF.ad _ Zo];exact el
    refine d9 (bR d8) (bR δ) cb.eq_1 ⟨?_⟩
    refine gs (pt _ _) ?_
    refine d9 (bR d8) (bR δ) cb.eq_1 ⟨?_⟩
    refine gs (pt _ _) ?_
    refine⟨_,h9,rfl,cR.lit (F:=1) (cap:=1) (n:=0) (kind:=fb) (at_:=x.at_) (name:=[]) (no:=false) (ty:=dU) (b:=db+1+8) (i1:= .own) (cD:=db+1+6) (bj:=[.ptr xL 0]) (bi (b:=db+1+8) Zo) ⟨Zo,Zo⟩ ?_ ⟨Zo,Zo⟩ rfl Zo Zo (dB.one (cR.ad (λe H=> ?_) _ _ dV) (λe H=> ?_)), ?_, ?_⟩
    ·simp(disch:=omega) only[aG,bi]<;>rfl
    ·have T:=H.1;have W:=H.2
     simp(disch:=omega) only[aG]
    ·simp only[cW]at H ⊢;omega
    ·exact hH.ad (zu) (zu)
    ·exact⟨Zo,λe H bW=>by
      rw[<-(dG.trans eD).ad e H bW]
      simp(disch:=omega) only[aG]⟩
   |false=>
    rw[aI]at hn
    simp only[l6,aI,Zx,ZA]at ai hn ⊢
    have bH:=zt aa
    refine gl cb.eq_1 g6.eq_1 @Al @bH ⟨?_⟩
    refine⟨_, ?_,aa+1,rfl,Zo,aQ t0,aQ v8,bp,hn.ad (zu) (zu), ?_,ai⟩
    ·omega
    ·exact⟨Zo,λb ai bW=>by rw[<-rn.ad b ai bW];exact zu⟩
  ·have bL:aa=3:=Zo
   subst bL
   simp only[Ae,Z5,ZZ,oP,Zf]at ai
   refine cS ⟨?_⟩
   exact bL _ _ _ ⟨aQ t0,dD,dz,ai.symm⟩
 ·clear ai
  rintro nX gw ba ⟨t0,abO,Mb,rfl⟩
  simp only[]at Z
  have Jc:=Mb.le
  have Te:=aA.go abO Jc
  refine ce @t0 ⟨?_⟩
  rcases gx Z with ⟨K,T,rfl⟩|⟨left,en,T,Z⟩
  ·exact((am n Zo).part gw ba i _ Te T).mono (λae U ar a=>by obtain⟨I,cB,a,_⟩:=a;cases a) (λae U ar a=>a.of Mb (λ_ a=>a))
  refine((am n Zo).part gw ba i _ Te T).mono ?_ (λae U ar a=>by obtain⟨K,a,_⟩:=a;cases a)
  rintro wh a6 aJ ⟨I,fX,bA,bT,ey,ii⟩
  cases bA
  have jF:=ii.le
  refine gX ?_
  refine fC (λm M U aV=>∃left v cB,M.g 0=some (.ptr aK 0)/\M.g 7=some v/\cR X U (cW j aV) left v/\aZ X U aK bN aY cB/\cf X [aK] h j U aV/\nq m left (aY.drop cB)=some r)
   n ⟨left,wh,fX,aQ t0,bp,cR.lift (λe H=>⟨zo H.1,H.2⟩) _ _ bT,ey,Mb.trans ii,Z⟩ ?_
  clear bT ey ii T Z jF t0 abO Mb Jc Te
  rintro m M aR bc ⟨left,v,f7,t0,fo,bC,dD,dz,Z⟩
  cases m with
  |zero=>simp[nq]at Z
  |succ m=>
  unfold nq at Z
  have f5:=dz.le
  have fT:=aA.go dD f5
  refine gX ?_
  obtain⟨cC,rfl,lV,_⟩:=bC.ptr
  have lV:=lV.2
  refine ce @t0 ⟨?_⟩
  obtain⟨x,ci,aO,ah⟩:=qW Z
  refine(nQ az fT aO _).Zm ?_
  rintro Aq a7 bd ⟨rfl,gL,ej⟩
  have ik:=ej.le
  have aaz:=dz.trans ej
  have cm:=cR.ex (U:=a7) bC (λe T W=>ej.ad e Zo (by simp;omega)) (Zl _) (Zl _)
  rcases ah with ⟨aI,Z⟩|⟨aI,Z⟩
  ·rw[aI]at gL ⊢
   simp only[ZD]at gL ⊢
   rw[<-(fP aO).2]at Z
   simp only[]at Z
   refine c1 cb.eq_1 @t0 ⟨?_⟩
   refine fk (λbS=>bh X a7 bd bS (bd+1)/\ab X bS bd=zs (cb x) 7) ⟨dR,bi Zo⟩ ?_
   rintro bS ⟨dF,fK⟩
   have ov:=fT.go (gL.ex dF Zo Zo) (by omega:bc<=bd+1)
   obtain⟨e,mQ,IW,JF⟩:=qW Z
   refine(nQ az ov IW _).Zm ?_
   rintro aff b4 dH ⟨rfl,hH,eD⟩
   have pY:=eD.le
   have d8:ab X b4 bd=zs (cb x) 7:=by rw[eD.ad _ Zo (by simp;omega)];exact fK
   have uT:=(aaz.trans (cf.of dF)).trans eD
   have dV:=cR.ex (U:=b4) cm (λe T W=>by rw[eD.ad e Zo (by simp;omega),dF.ad e Zo]) (Zl _) (Zl _)
   have nF:andThen (iO 1 (aY.drop (if g5 e [110,111,116]then f7+1+1 else f7+1))) (λc l=>nq m (.mk 6 x.at_ c.text (g5 e [110,111,116]) dU 0 [left]) l)=some r:=by
    rcases JF with ⟨Jv,nF⟩|⟨Jv,nF⟩
    ·simp only[Jv,ZD];rw[(fP IW).2];exact nF
    ·simp only[Jv,Zx,ZA];exact nF
   clear Z JF
   generalize (if g5 e [110,111,116]then f7+1+1 else f7+1)=h9 at nF hH
   generalize (if g5 e [110,111,116]then e else g6)=Ub
   generalize g5 e [110,111,116]=no at nF
   refine gl cb.eq_1 (bR d8) @t0 @fo ⟨?_⟩
   refine fk (λcu=>bh X b4 dH cu (dH+1+11)/\ab X cu (dH+1+7)=zs [.ptr cC 0] 1) ⟨dR,bi Zo⟩ ?_
   rintro cu ⟨e7,eQ⟩
   have nh:=fT.go (hH.ex e7 Zo Zo) (by omega:bc<=dH+1+11)
   cases sp:aY.drop h9 with
   |nil=>rw[sp]at nF;simp[iO,andThen]at nF
   |cons c mr=>
   rw[sp]at nF
   simp only[iO]at nF
   refine(BW az nh.ba nh.par nh.ei nh.hB nh.g4 nh.many (fP sp).1 1).mono ?_ ?_
   ·rintro u8 d4 fd ⟨aL,rfl,xp,gJ⟩
    have vb:=gJ.le
    rw[Zr aL]at nF
    simp only[andThen,ok]at nF
    have h4:ab X d4 bd=zs (cb x) 7:=by rw[gJ.ad _ Zo (by simp;omega),e7.ad _ Zo];exact d8
    have anu:ab X d4 (dH+1+7)=zs [.ptr cC 0] 1:=by rw[gJ.ad _ Zo (by simp;omega)];exact eQ
    refine c1 cb.eq_1 (bR h4) ⟨?_⟩
    refine gs (pt _ _) ?_
    refine⟨m,Zo,_, .ptr (dH+1+9) 0,h9+1,aQ t0,bp,cR.lit (F:=1) (cap:=1) (n:=0) (kind:=6) (at_:=x.at_) (name:=c.text) (no:=no) (ty:=dU) (b:=dH+1+9) (i1:= .own) (cD:=dH+1+7) (bj:=[.ptr cC 0]) (bi (b:=dH+1+9) Zo) ⟨Zo,Zo⟩ ?_ ⟨Zo,Zo⟩ rfl Zo Zo (dB.one (cR.ad (λe H=> ?_) _ _ dV) (λe H=> ?_)), ?_, ?_,by rw[(fP sp).2];exact nF⟩
    ·simp(disch:=omega) only[aG];exact anu
    ·have T:=H.1;have W:=H.2
     simp(disch:=omega) only[aG]
     rw[gJ.ad e Zo (by simp;omega),e7.ad e Zo]
    ·simp only[cW]at H ⊢;omega
    ·exact xp.ad (zu) (zu)
    ·exact⟨Zo,λe H bW=>by
      rw[<-((uT.trans (cf.of e7)).trans gJ).ad e H bW]
      simp(disch:=omega) only[aG]⟩
   ·rintro u8 d4 fd ⟨aL,rfl,gJ⟩
    rw[Zh aL]at nF
    simp only[andThen,bad,Zf]at nF
    subst nF
    exact⟨_,rfl,rfl,(uT.trans (cf.of e7)).trans gJ⟩
  ·rw[aI]at gL ⊢
   simp only[Zx,ZA]at gL ⊢
   simp only[ok,Zf]at Z
   subst Z
   refine d9 cb.eq_1 g6.eq_1 @fo ⟨?_⟩
   refine⟨left,f7,rfl,cR.ex cm (λe T W=> ?_) (Zl _) Zo,gL.ad (zu) (zu), ?_⟩
   ·simp(disch:=omega) only[aG]
   ·exact⟨Zo,λb ai bW=>by rw[<-aaz.ad b ai bW];exact zu⟩
end
end
end Go.Proofs.YtpfajohmofnkfaaGreatDoor

