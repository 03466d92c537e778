/- Part of the proof of the last text; no conditions -/
import Derived.Test.YtbbkkkpgjaopkaaGreatDoorYm
import Derived.Test.YtbbkkkpgjaopkaaGreatDoorProg
set_option maxHeartbeats 8000000
set_option linter.all false
namespace Go.Proofs.YtbbkkkpgjaopkaaGreatDoor
open Go.bs
noncomputable section
structure cl where
 G:M ak
 aY:Nat
 O:Nat->List y->Option y
noncomputable def o(a:cl):aT:=⟨Tryz.prog,a.G,a.aY,a.O,Tryz.prog.globals.size⟩
instance:Coe cl aT:=⟨o⟩
variable (X : cl) (h : M ak) (j : Nat) (ah ax : bQ) (a0 a7 b2 a3 a4 a5 ic iw ko : y)
abbrev iW(v x:y)(h:M ak)(n:Nat)(q:bQ):Prop:=o8 q λY=>iR true v (Y x h n) (Y bs.undef h n)
abbrev gS(v x:y)(h:M ak)(n:Nat)(q:bQ):Prop:=o8 q λY=>iR false v (Y x h n) (Y bs.undef h n)
abbrev el(v:y)(W:Option y)(h:M ak)(n:Nat)(q:bQ):Prop:=o8 q λY=>iR true v (av W λx=>Y x h n) (Y bs.undef h n)
abbrev eT(v:y)(W:Option y)(h:M ak)(n:Nat)(q:bQ):Prop:=o8 q λY=>iR false v (av W λx=>Y x h n) (Y bs.undef h n)
abbrev od(v:y)(W:Option y)(h:M ak)(n:Nat)(q:bQ):Prop:=o8 q λY=>iR true v (cg W λx=>Y x h n) (Y bs.undef h n)
abbrev A2(v:y)(W:Option y)(h:M ak)(n:Nat)(q:bQ):Prop:=o8 q λY=>iR false v (cg W λx=>Y x h n) (Y bs.undef h n)
abbrev MF(v:y)(W:Option y)(ai:y->Option y)(h:M ak)(n:Nat)(q:bQ):Prop:=o8 q λY=>iR true v (cg W λt=>av (ai t) λx=>Y x h n) (Y bs.undef h n)
abbrev abP(v:y)(W:Option y)(ai:y->Option y)(h:M ak)(n:Nat)(q:bQ):Prop:=o8 q λY=>iR false v (cg W λt=>av (ai t) λx=>Y x h n) (Y bs.undef h n)
abbrev mn(v:y)(g:bQ->Prop)(h:M ak)(n:Nat)(q:bQ):Prop:=o8 q λY=>iR true v (g Y) (Y bs.undef h n)
abbrev kS(v:y)(g:bQ->Prop)(h:M ak)(n:Nat)(q:bQ):Prop:=o8 q λY=>iR false v (g Y) (Y bs.undef h n)
abbrev R8(v x:y)(h:M ak)(q:y->M ak->Prop):Prop:=tB q λY=>iR true v (Y x h) (Y bs.undef h)
abbrev ME(v x:y)(h:M ak)(q:y->M ak->Prop):Prop:=tB q λY=>iR false v (Y x h) (Y bs.undef h)
abbrev kR(v:y)(W:Option y)(h:M ak)(q:y->M ak->Prop):Prop:=tB q λY=>iR true v (av W λx=>Y x h) (Y bs.undef h)
abbrev DE(v:y)(W:Option y)(h:M ak)(q:y->M ak->Prop):Prop:=tB q λY=>iR false v (av W λx=>Y x h) (Y bs.undef h)
abbrev F1(v:y)(W:Option y)(h:M ak)(q:y->M ak->Prop):Prop:=tB q λY=>iR true v (cg W λx=>Y x h) (Y bs.undef h)
abbrev abN(v:y)(W:Option y)(h:M ak)(q:y->M ak->Prop):Prop:=tB q λY=>iR false v (cg W λx=>Y x h) (Y bs.undef h)
abbrev R7(v:y)(W:Option y)(ai:y->Option y)(h:M ak)(q:y->M ak->Prop):Prop:=tB q λY=>iR true v (cg W λt=>av (ai t) λx=>Y x h) (Y bs.undef h)
abbrev abO(v:y)(W:Option y)(ai:y->Option y)(h:M ak)(q:y->M ak->Prop):Prop:=tB q λY=>iR false v (cg W λt=>av (ai t) λx=>Y x h) (Y bs.undef h)
abbrev MD(v:y)(g:(y->M ak->Prop)->Prop)(h:M ak)(q:y->M ak->Prop):Prop:=tB q λY=>iR false v (g Y) (Y bs.undef h)
abbrev gs(bi)(H:y)(K:aT)(am:(M ak))(q:y->y->Prop):=av (hJ bi H) λch=>av (aV K am ch) λb4=>q ch b4
abbrev wN(aC:Nat)(bm:aT)(b1:(M ak))(q:y->(M ak)->Nat->Prop):=av (kJ [.Z 0, .str [], .Z 0, .int .u64 0, .zF, .zF, .Z 0] aC) λch=>gN bm b1 aC ch.1 ch.2 q
abbrev fO(bi:y)(H)(K:aT)(am:(M ak))(q:y->y->Prop):=av (sS bi) λch=>gs H ch K am q
abbrev f3(bi:dc)(H)(am)(q:y->y->Prop):=cg (bi H) λch=>cg (bi am) λb4=>q ch b4
abbrev iZ(bi:dc)(H)(q:y->Prop):=cg (bi H) λch=>av (bg .add ch (.Z 1)) q
abbrev kI(H:y)(q:y->y->Prop):=av (rD 0 H) λch=>av (rD 1 H) λb4=>q ch b4
abbrev jj(bi:y)(H)(q:y->Prop):=av (sS bi) λch=>av (hJ H ch) q
abbrev nU(bi:dc)(H)(K:aT)(am:(M ak))(aC)(bm:y)(q:(M ak)->y->Prop):=cg (bi H) λch=>av (es K am aC ch bm) λb4=>cg (bi H) λcr=>av (dT K b4 aC cr) λcS=>q b4 cS
abbrev rK(am)(aC:Nat)(bm:aT)(b1:(M ak))(nA:y)(q6:bQ)(q:y->(M ak)->Nat->Prop):=av (hv 1 [.str []] [(0,1, .str [am])] aC) λch=>gN bm b1 aC ch.1 ch.2 λb4 cr cS=>a1 bm 59 [nA,b4] cr cS q q6
abbrev sU(bi:y)(H)(K:y)(am:(M ak))(aC:Nat)(b1:aT)(q:y->(M ak)->Nat->Prop):=eT bi (hJ H K) am aC λch b4 cr=>eT bi (aV b1 b4 ch) b4 cr q
abbrev ki(bi:dc)(H)(K)(q:y->Prop):=f3 bi H K λch b4=>av (bg .lss ch b4) q
abbrev yx(am:Nat)(aC:aT)(bm:(M ak))(q:y->(M ak)->Nat->Prop):=av (kJ [.str [], .Z 0, .zF, .zF, .Z 0, .str [], .Z 0, .zF] am) λch=>gN aC bm am ch.1 ch.2 q
abbrev kj(bi:dc)(H)(K:aT)(am:(M ak))(q:y->Prop):=cg (bi H) λch=>av (aV K am ch) q
abbrev vi(bi:Nat)(H:aT)(K:(M ak))(bm:y)(q:y->Nat->(M ak)->Prop):=wN bi H K λch b4 cr=>av (es H b4 7 ch bm) λcS=>q ch cr cS
abbrev e5(bi:dc)(q:y->Prop):=cg (bi 0) q
abbrev vj(bi:y)(H)(K:y)(am:(M ak))(aC:Nat)(b1:aT)(q:y->(M ak)->Nat->Prop):=el bi (hJ H K) am aC λch b4 cr=>el bi (aV b1 b4 ch) b4 cr q
abbrev oz(H)(q:y->Prop):=av (some (y.iface 153 (.Z H))) q
abbrev j2(bi:aT)(H:(M ak))(am:y)(aC:y)(q:(M ak)->Prop):=av (es bi H 1 am aC) q
abbrev wO(bi:y)(H:y)(K:(M ak))(aC)(b1:aT)(q:y->(M ak)->Prop):=kR bi (sS H) K λch b4=>kR bi (hJ aC ch) b4 λcr cS=>kR bi (aV b1 cS cr) cS q
abbrev nT(bi)(H:dc)(K)(am)(aC)(q:fK->y->Prop):=bC bi λch=>f3 H K am λb4 cr=>av (iV aC b4 cr) λcS=>q ch cS
abbrev iY(bi:dc)(H)(K)(am:aT)(aC:(M ak))(q:y->y->Prop):=cg (bi H) λch=>gs K ch am aC q
abbrev Kd(b1:Nat)(df:aT)(ev:(M ak))(q:y->(M ak)->Nat->Prop):=av (kJ [.Z 0, .str [], .Z 0, .zF, .zF, .Z 0, .str [], .Z 0, .zF, .Z 0, .Z 0] b1) λch=>gN df ev b1 ch.1 ch.2 q
abbrev rH(bi:y)(H)(K:fK)(q:y->fK->Prop):=av (bg .eql bi (.Z H)) λch=>bC K λb4=>q ch b4
abbrev TX(bi:dc)(H)(K)(q:y->Prop):=cg (bi H) λch=>av (bg .sub ch (.Z K)) q
abbrev Ke(bi:aT)(H:(M ak))(am:y)(bm:Nat)(q6)(q:y->Nat->(M ak)->y->Prop):=av (dT bi H 4 am) λch=>av (kJ [.aW, .aW, .Z 0, .cN] bm) λb4=>gN bi H bm b4.1 b4.2 λcr cS fh=>av (es bi cS 4 cr ch) λoI=>gs q6 cr bi oI λ_ yY=>q cr fh oI yY
abbrev jL(bi:dc)(H)(K:aT)(am:(M ak))(q:y->y->y->Prop):=e5 bi λch=>fO ch H K am λb4 cr=>q ch b4 cr
abbrev lI(bi:y)(H)(q:y->fK->Prop):=av (fM bi) λch=>bC H λb4=>q ch b4
abbrev yy(bi:dc)(H)(q:y->Prop):=e5 bi λch=>av (mT ch (some (.Z H)) none) q
abbrev wP(bi:aT)(H:(M ak))(K:Nat)(am)(aC:y)(bm:y)(ev:y)(hN)(q:Nat->(M ak)->Prop):=hu (ju bi H K am aC bm) H K λch b4 cr=>jj ev hN λcS=>j2 bi b4 cS ch λfh=>q cr fh
abbrev Kf(bi)(H:y)(K:aT)(am:(M ak))(ev)(q:y->Prop):=gs bi H K am λch b4=>av (fe [.Z 0, .Z 0] [(0,1, .Z ev),(1,1,b4)]) λcr=>av (some (y.iface 26 cr)) q
abbrev Ob(b1:Nat)(df)(ev:aT)(hN:(M ak))(q:y->(M ak)->Prop):=av (kJ [.Z 0, .str [], .Z 0, .zF, .zF, .Z 0, .str [], .Z 0, .zF, .Z 0, .Z 0] (b1+df)) λch=>lD ev hN (b1+df) ch.1 ch.2 q
abbrev yz(bi:y)(q:y->Prop):=av (bg .add bi (.Z 1)) q
abbrev Oc(bi:aT)(H:(M ak))(hN:y)(nA:y)(q:y->y->Prop):=av (nd bi H 9 (.agg [.Z 0, .str [], .Z 0, .zF, .zF, .Z 0, .str [], .Z 0, .zF, .Z 0, .Z 0]) hN nA true) λch=>kI ch q
abbrev pv(bi)(H:y)(K:aT)(am:(M ak))(aC:y)(q:(M ak)->Prop):=av (hJ bi H) λch=>j2 K am ch aC q
abbrev Od(df:y)(ev:Nat)(hN:aT)(nA:(M ak))(amC:y)(q:y->(M ak)->Nat->Prop):=av (hv 1 [.Z 0, .str [], .Z 0, .int .u64 0, .zF, .zF, .Z 0] [(0,7,df)] ev) λch=>gN hN nA ev ch.1 ch.2 λb4 cr cS=>hu (ju hN cr cS 7 amC b4) cr cS q
abbrev GQ(H:Nat)(K:aT)(am:(M ak))(q:y->(M ak)->Nat->Prop):=av (kJ [.str [], .Z 0, .aW, .aW, .aW, .aW] H) λch=>gN K am H ch.1 ch.2 q
abbrev vk(bi:y)(H:y)(K:(M ak))(am:Nat)(bm)(b1:aT)(q:y->(M ak)->Nat->Prop):=eT bi (sS H) K am λch b4 cr=>sU bi bm ch b4 cr b1 q
abbrev rI(bi:aT)(H:(M ak))(am:y)(aC)(q:(M ak)->Prop):=av (es bi H 1 am (.Z aC)) q
abbrev rJ(bi:dc)(H)(K:aT)(am:(M ak))(aC)(q:y->Prop):=cg (bi H) λch=>av (dT K am aC ch) q
abbrev Oe(bi:Nat)(K:y)(aC:aT)(bm:(M ak))(ev:y)(nA:bQ)(q:y->Nat->y->(M ak)->y->Prop):=fo (bi+12) λch=>fO K 8 aC bm λb4 cr=>a1 aC 89 [ev] bm ch (λcS fh oI=>av (hv 1 [.cN] [(0,1,cS)] (bi+7)) λw5=>lD aC fh (bi+7) w5.1 w5.2 λyY w6=>av (aV aC w6 b4) λWl=>q cr oI yY w6 Wl) nA
abbrev Of(bi:dc)(aC:(M ak))(bm:Nat)(q:y->y->(M ak)->Nat->Prop):=e5 bi λch=>av (mq ch) λb4=>av (bg .geq b4 (.Z 3)) λcr=>od cr (bi 0) aC bm λcS fh oI=>el cr (nI cS (.Z 1)) fh oI λw5 yY w6=>q cr w5 yY w6
abbrev wQ(bi:aT)(H:(M ak))(K)(am:y)(aC:y)(q:(M ak)->y->Prop):=av (es bi H K am aC) λch=>av (dT bi ch K am) λb4=>q ch b4
abbrev Og(b1)(df)(hN:y)(q:y->Prop):=av (fe [.Z 0, .str [], .Z 0, .int .u64 0, .zF, .zF, .Z 0] [(0,1, .Z b1),(df,1,hN)]) q
abbrev GR(K:Nat)(am:aT)(aC:(M ak))(q:y->(M ak)->Nat->Prop):=av (kJ [.Z 0, .Z 0] K) λch=>gN am aC K ch.1 ch.2 q
abbrev Oh(q:y->Prop):=av (fe [.Z 0, .str [], .Z 0, .int .u64 0, .zF, .zF, .Z 0] []) q
abbrev Eo(H:y)(K:aT)(am:(M ak))(aC)(q:y->Prop):=gs 0 H K am λch b4=>av (bg .eql b4 (.Z aC)) q
abbrev k5(bi:dc)(q:y->Prop):=cg (bi 4) q
abbrev Oi(bi:y)(H:dc)(am:(M ak))(aC:Nat)(hN:aT)(q:y->(M ak)->Nat->Prop):=od bi (H 0) am aC λch b4 cr=>el bi (sS ch) b4 cr λcS fh oI=>el bi (hJ 4 cS) fh oI λw5 yY w6=>el bi (dT hN yY 3 w5) yY w6 q
abbrev Kg(bi:y)(K)(q:y->Prop):=av (nI bi (.Z 0)) λch=>av (bg .eql ch (.int .u8 K)) q
abbrev sV(bi:y)(H:Nat)(K:aT)(am:(M ak))(q:y->y->Nat->(M ak)->Prop):=kI bi λch b4=>vi H K am ch λcr cS fh=>q b4 cr cS fh
abbrev Oj(bi:dc)(H)(q:y->Prop):=cg (bi H) λch=>av (k8 .u64 ch) q
abbrev Kh(H:Nat)(K:aT)(am:(M ak))(q:y->(M ak)->Nat->Prop):=av (kJ [.zF, .zF, .Z 0] H) λch=>gN K am H ch.1 ch.2 q
abbrev Ki(bi:dc)(K:aT)(am:(M ak))(q:(M ak)->Prop):=jL bi 1 K am λch b4 cr=>yz cr λcS=>jj ch 1 λfh=>j2 K am fh cS q
abbrev Ep(bi:y)(q:y->Prop):=av (bg .neq bi (.Z 0)) q
abbrev Er(bi:y)(q:y->Prop):=av (bg .lss bi (.Z 0)) q
abbrev Cg(bi:y)(H:y)(K:(M ak))(am:Nat)(bm)(b1:aT)(q:y->(M ak)->Nat->Prop):=el bi (sS H) K am λch b4 cr=>vj bi bm ch b4 cr b1 q
abbrev Ok(bi:y)(H:dc)(am:(M ak))(b1)(ev:aT)(q:y->(M ak)->Prop):=abN bi (H 0) am λch b4=>DE bi (sS ch) b4 λcr cS=>DE bi (hJ b1 cr) cS λfh oI=>DE bi (aV ev oI fh) oI q
abbrev Ol(aC:y)(bm:Nat)(b1)(df:aT)(ev:(M ak))(q:y->(M ak)->Prop):=av (hv 1 [.str [], .Z 0, .aW, .aW, .aW, .aW] [(0,6,aC)] (bm+b1)) λch=>lD df ev (bm+b1) ch.1 ch.2 q
abbrev yA(bi:y)(H:fK)(q:y->fK->Prop):=av (he .not bi) λch=>bC H λb4=>q ch b4
abbrev GS(bi:y)(H:y)(q:y->Prop):=av (fM bi) λch=>av (bg .add H ch) q
abbrev Es(H:y)(K:y)(am:aT)(aC:(M ak))(q:y->Prop):=av (iV 1 H K) λch=>av (aV am aC ch) q
abbrev GU(bi:y)(q:y->Prop):=av (bg .sub bi (.Z 1)) q
abbrev GV(bi:y)(q:y->Prop):=av (bg .geq bi (.Z 0)) q
abbrev yB(bi:dc)(H)(K:aT)(am:(M ak))(aC)(q:y->Prop):=kj bi H K am λch=>fO ch aC K am λ_ cr=>q cr
abbrev Om(bi:aT)(K:y)(am:(M ak))(aC:Nat)(bm:bQ)(q:y->(M ak)->Nat->Prop):=a1 bi 89 [K] am aC (λch b4 cr=>av (hv 1 [.cN] [(0,1,ch)] cr) λcS=>gN bi b4 cr cS.1 cS.2 q) bm
abbrev GW(bi:aT)(K:y)(am)(aC:(M ak))(bm:Nat)(b1:bQ)(q:y->Nat->(M ak)->Prop):=a1 bi 61 [K, .str [am]] aC bm (λch b4 cr=>sV ch cr bi b4 λcS _ oI w5=>q cS oI w5) b1
abbrev Et(bi)(H:y)(K:y)(am:aT)(aC:(M ak))(q:y->Prop):=av (iV bi H K) λch=>av (dT am aC bi ch) q
abbrev l9(H:y)(K:aT)(am:(M ak))(q:y->Prop):=gs 0 H K am λ_ b4=>q b4
def Gt(a:aT)(b:bQ):fK:=λc d e=>pj a [.cell 2 23, .cell 3 26] b c c.bb d e
def JD(a:aT)(b c:bQ):sX:=λd e f g=>wt a [.cell 2 23, .cell 3 26] b c d e d.bb f g
def UU(a:aT)(b:y)(c:M ak)(d:Nat)(e f:bQ):Prop:=
 av (kJ [.cN] d) λg=>gN a c d g.1 g.2 λc d g=>GR g a d λd g h=>a1 a 17 [b] g h (λg h i=>kI g λg j=>av (es a h 2 d j) λh=>l9 d a h λj=>Ep j λj=>bC (λb c d=>f3 b 2 3 λg h=>KX (.func (.func 18) [] [g,h]) [] b λb=>k5 b λg=>av (fe [.aW, .Z 0] [(0,1,g)]) λg=>jv a c d g λc d g=>a1 a 19 [c] d g (λc d g=>cg (b 2) λh=>j2 a d h c λc=>kj b 2 a c λd=>a1 a 20 [d] c g (λ_ c d=>kj b 2 a c λf=>av (fe [.Z 0, .Z 0] []) λg=>cg (b 2) λh=>j2 a c h f λc=>cg (b 3) λf=>av (es a c 2 f g) λc=>Gt a e b c d) (JD a e f (hT [19,20] b))) (JD a e f (hT [15,16,17,18] b))) λf=>bh j (fo (i+3) λf=>av (dT a h 2 d) λi=>av (es a h 1 c .cN) λh=>av (dT a h 2 d) λk=>io k (some i) (av (es a h 2 d i) λh=>Gt a e (zO (c6 [b]) 2 c 3 d 4 g 12 j) h f)) (f (zO (c6 [b]) 2 c 3 d 4 g 12 j) h i)) (JD a e f (hT [6,7,5,8,9,4] (zM (c6 [b]) 2 c 3 d)))
def ag4:CM X 5 [a0] h j ah ax=UU X a0 h j ah ax:=Zk
def ag3:c8 X 5 1=true:=Zk
def OC(a:aT)(b c:y)(d:Option y)(e:M ak)(f:Nat)(g:Bool->M ak->Nat->Prop):Prop:=
 JK (some d) (c6 [b,c]) λb c=>bC (λa b c=>g a.rc b c) λd=>av (dD a e .eql 20 true b .nilIface) λg=>bC d λd=>bh g (d (zM c 5 b 7 g) e f) (av (KK 26 (.agg [.Z 0, .Z 0]) true b) λh=>av (rD 1 h) λi=>av (rD 0 h) λh=>bC d λd=>bh i (GR f a e λe f j=>av (es a f 2 e h) λf=>fo (j+3) λj=>av (dT a f 2 e) λk=>e5 c λl=>av (es a f 1 l .cN) λf=>av (dT a f 2 e) λl=>io l (some k) (cg (c 1) λl=>av (es a f 2 l k) λa=>d (ae (zO c 5 b 7 g 9 i 10 h) 3 e) a j)) (yg (λ_ _ _=>False) b e f))
def Uy(X:cl)(a0 a7:y)(kE:Option y)(h:M ak)(j:Nat)(ah:Bool->M ak->Nat->Prop):E4 X 18 [a0,a7] kE h j ah=OC X a0 a7 kE h j ah:=Zk
def OD:c8 X 18 2=true:=Zk
def Uz(a:aT)(b:y)(c:M ak)(d:Nat)(e f:bQ):Prop:=
 av (fe [.aW] []) λg=>jv a c d g λc d g=>bC (λa b c=>cg (a 3) λa=>e a b c) λe=>gA (λb c d g=>k5 c λh=>bC (λc d e=>bC (λc d e=>e5 c λg=>a1 a 35 [g] d e (λa d e=>av (up false 0 1 a) λa=>av (bg .neq a (.Z 7)) λa=>b (ae c 4 a) d e) f) λb=>fo (e+12) λg=>f3 c 3 3 λh i=>fO i 0 a d λi j=>e5 c λk=>a1 a 36 [k] d g (λd f g=>Ol d e 7 a f λd e=>av (aV a e i) λf=>io f (some j) (wP a e g 6 j d h 0 λa d=>b c d a)) f) λa=>bh h (a (ae c 7 h) d g) (e (ae c 7 h) d g)) (zN (c6 [b]) 2 .cN 3 c 4 .zT) d g
def af3:dp X 19 [a0] h j ah ax=Uz X a0 h j ah ax:=Zk
def af2:c8 X 19 1=true:=Zk
def UA(a:aT)(b:y)(c:M ak)(d:Nat)(e f:bQ):Prop:=
 fO b 0 a c λ_ g=>av (fM g) λg=>av (bg .gtr g (.Z 64)) λg=>bC (λb c d=>jL b 0 a c λ_ _ g=>lI g (λ_ a b=>e (.tuple []) a b) λe h=>gA (λb c d e=>ki c 26 25 λg=>bC (λc d e=>nT (λa c d=>iZ a 26 λe=>b (ae a 26 e) c d) c 24 26 6 λb g=>av (dT a d 6 g) λg=>GQ e a d λd e h=>av (es a e 6 d g) λe=>gs 2 d a e λ_ g=>av (fM g) λg=>gs 3 d a e λ_ i=>GS i g λg=>gs 4 d a e λ_ i=>GS i g λg=>av (bg .gtr g (.Z 256)) λg=>sU g 5 d e h a λe h i=>eT g (fM e) h i λe h i=>eT g (bg .gtr e (.Z 4096)) h i λe h i=>c4 (λe=>bC (λc d e=>iY c 3 5 a d λ_ g=>av (fM g) λh=>bC b λb=>gA (λc d e g=>ki d 55 54 λh=>bC (λb d e=>nT (λa b d=>iZ a 55 λe=>c (ae a 55 e) b d) b 53 55 4 λc g=>Ke a d g e 3 λd e g h=>a1 a 37 [h] g e (λe g h=>av (bg .gtr e (.Z 200)) λe=>bC c λc=>bh e (Kf 2 d a g 22 λa=>yg f a g h) (c (zM b 5 d 62 e) g h)) f) λa=>bh h (a (ae d 56 h) e g) (b (ae d 56 h) e g)) (zN c 53 g 54 h 55 (.Z 0)) d e) λb=>bh e (Kf 1 d a h 30 λa=>yg f a h i) (b (zM c 3 d 47 e) h i)) λa=>bh g (a .zT) (a e)) λa=>bh g (a (ae c 27 g) d e) (h (ae c 27 g) d e)) (zN b 24 g 25 e 26 (.Z 0)) c d) λe=>bh g (fO b 0 a c λ_ b=>av (iV 6 b (.Z 64)) λb=>Kf 1 b a c 30 λa=>yg f a c d) (e (ae (c6 [b]) 11 g) c d)
def af5:dp X 20 [a0] h j ah ax=UA X a0 h j ah ax:=Zk
def af4:c8 X 20 1=true:=Zk
def UK(a:aT)(b:y)(c:M ak)(d:Nat)(e _:bQ):Prop:=
 wN d a c λc d f=>fo (f+11) λf=>fO b 0 a d λ_ g=>fO b 1 a d λ_ b=>Et 7 g b a d λb=>wQ a d 7 c b λa b=>e b a f
def agq:dp X 35 [a0] h j ah ax=UK X a0 h j ah ax:=Zk
def agp:c8 X 35 1=true:=Zk
def UL(a:aT)(b:y)(c:M ak)(d:Nat)(e f:bQ):Prop:=
 GQ d a c λc d g=>av (hv 1 [.str []] [(0,1, .str [110,111,100,101])] g) λh=>gN a d g h.1 h.2 λd g h=>a1 a 59 [b,d] g h (λ_ d g=>a1 a 60 [b, .Z 1] d g (λd g h=>vi h a g d λd g h=>gs 1 d a h λ_ i=>gs 2 d a h λ_ j=>av (fe [.str [], .Z 0, .aW, .aW, .aW, .aW] [(0,1,i),(1,1,j)]) λi=>GQ g a h λg h j=>av (es a h 6 g i) λh=>rK 40 j a h b f λ_ h i=>GW a b 41 h i f λh i j=>av (he .not h) λk=>bC (λb c d=>e5 b λg=>av (hv 2 [.str [], .str []] [(0,1, .str [114,101,116,117,114,110,115]),(1,1, .str [40])] d) λh=>gN a c d h.1 h.2 λc d h=>a1 a 59 [g,c] d h (λ_ c d=>e5 b λg=>a1 a 62 [g, .zF] c d (λc d g=>k5 b λh=>pv 3 h a d c λc=>e5 b λd=>rK 41 g a c d f λ_ c d=>e5 b λg=>a1 a 61 [g, .str [118,97,114]] c d (λc d g=>sV c g a d λc _ d g=>bC (λb c d=>e5 b λg=>av (hv 1 [.str []] [(0,1, .str [108,101,116])] d) λh=>gN a c d h.1 h.2 λc d h=>a1 a 59 [g,c] d h (λ_ c d=>bC (λb c d=>rJ b 2 a c 6 λa=>e a c d) λ_=>gA (λb c d g=>bC b λb=>e5 c λh=>a1 a 61 [h, .str [116,101,108]] d g (λd g h=>sV d h a g λd _ g h=>bC (λc d e=>fo (e+8) λg=>iY c 4 5 a d λh i=>e5 c λj=>a1 a 63 [j] d g (λd f g=>av (hv 1 [.aW, .aW, .Z 0, .cN] [(0,4,d)] (e+4)) λd=>lD a f (e+4) d.1 d.2 λd e=>av (aV a e h) λf=>io f (some i) (hu (ju a e g 4 i d) e g λd e f=>k5 c λg=>pv 5 g a e d λa=>b c a f)) f) λb=>bh d (rJ c 4 a h 6 λb=>nU c 2 a h 6 b λa b=>e b a g) (b (zM c 10 d 66 d) h g)) f) b c d) f) λe=>bh c (e5 b λh=>a1 a 62 [h, .zT] g d (λd g h=>k5 b λi=>pv 4 i a g d λd=>e5 b λg=>rK 59 h a d g f λ_ a d=>e (zM b 8 c 51 c) a d) f) (e (zM b 8 c 51 c) g d)) f) f) f) λe=>bh k (a1 a 62 [b, .zF] j i (λi j l=>pv 2 g a j i λi=>rK 41 l a i b f λ_ a f=>e (ae (zO (c6 [b]) 2 c 3 d 4 g 6 h) 30 k) a f) f) (e (ae (zO (c6 [b]) 2 c 3 d 4 g 6 h) 30 k) j i)) f) f
def ags:dp X 36 [a0] h j ah ax=UL X a0 h j ah ax:=Zk
def agr:c8 X 36 1=true:=Zk
def U4(a:aT)(b c:y)(d:M ak)(e:Nat)(f g:bQ):Prop:=
 wN e a d λd e h=>wN h a e λe h i=>lI c (λb c d=>rJ b 5 a c 7 λe=>nU b 4 a c 7 e λa b=>f b a d) λf j=>gA (λb c d e=>ki c 11 10 λf=>bC (λc d e=>nT (λa c d=>iZ a 11 λe=>b (ae a 11 e) c d) c 9 11 1 λb f=>av (aV a d f) λf=>e5 c λh=>a1 a 61 [h,f] d e (λd e h=>kI d λd i=>cg (c 5) λj=>av (es a e 7 j d) λd=>yA i b λb e=>bh b (e5 c λj=>a1 a 35 [j] d h (λd h j=>a1 a 87 [d] h j (λ_ a d=>e (zO c 7 f 8 .zF 8 i 22 b) a d) g) g) (e (zO c 7 f 8 .zF 8 i 22 b) d h)) g) λa=>bh f (a (ae c 12 f) d e) (j (ae c 12 f) d e)) (ae (zO (c6 [b,c]) 4 d 5 e 9 c 10 f) 11 (.Z 0)) h i
def ag2:dp X 59 [a0,a7] h j ah ax=U4 X a0 a7 h j ah ax:=Zk
def ag1:c8 X 59 2=true:=Zk
def U5(a:aT)(b c:y)(d:M ak)(e:Nat)(f g:bQ):Prop:=
 wN e a d λd e h=>a1 a 35 [b] e h (λe h i=>vi i a h e λe h i=>l9 e a i λj=>av (bg .neq j c) λj=>bC (λb c d=>Ki b a c λc=>rJ b 5 a c 7 λe=>nU b 4 a c 7 e λa b=>f b a d) λf=>bh j (av (dT a i 7 e) λk=>a1 a 87 [k] i h (λ_ a g=>f (zN (c6 [b,c]) 4 d 5 e 11 j) a g) g) (f (zN (c6 [b,c]) 4 d 5 e 11 j) i h)) g
def ag6:dp X 60 [a0,a7] h j ah ax=U5 X a0 a7 h j ah ax:=Zk
def ag5:c8 X 60 2=true:=Zk
def OG(a:aT)(b c:y)(d:M ak)(e:Nat)(f g:bQ):Prop:=
 wN e a d λd e h=>a1 a 35 [b] e h (λe g h=>vi h a g e λe g h=>l9 e a h λi=>av (bg .neq i (.Z 2)) λi=>vj i 0 e h g a λg h j=>el i (bg .neq g (.Z 6)) h j λg h j=>c4 (λg=>sU g 1 e h j a λh i j=>gS g c i j λi j k=>eT g (dD a j .neq 9 false h i) j k λh i j=>c4 (λg=>bC (λb c d=>Ki b a c λc=>rJ b 6 a c 7 λe=>nU b 4 a c 7 e λa b=>f (.tuple [b, .zT]) a d) λh=>bh g (Oh λb=>wQ a i 7 d b λa b=>f (.tuple [b, .zF]) a j) (h (zO (c6 [b,c]) 4 d 5 .zF 6 e 22 g) i j)) λa=>bh g (a .zT) (a h)) λa=>bh i (a g) (a .zF)) g
def U7:dp X 61 [a0,a7] h j ah ax=OG X a0 a7 h j ah ax:=Zk
def U6:c8 X 61 2=true:=Zk
def U8(a:aT)(b c:y)(d:M ak)(e:Nat)(f g:bQ):Prop:=
 bC (λa b c=>k5 a λa=>f a b c) λ_=>gA (λb c d e=>bC b λb=>bC (λc d e=>e5 c λh=>rK 58 e a d h g λ_ d e=>e5 c λh=>a1 a 60 [h, .Z 3] d e (λd e h=>av (up true 4 3 d) λd=>av (fe [.str [], .Z 0, .zF, .zF, .Z 0, .str [], .Z 0, .zF] [(2,3,d)]) λd=>yx h a e λe h i=>av (es a h 8 e d) λd=>e5 c λh=>a1 a 61 [h, .str [119,104,101,110]] d i (λd h i=>sV d i a h λd _ h i=>bC (λc d e=>cg (c 6) λh=>lI h (λc d e=>fo (e+22) λe=>e5 c λh=>a1 a 35 [h] d e (λd e g=>av (up false 1 1 d) λd=>av (dD a e .neq 9 true d (.str [59])) λd=>abN d (c 1) e λe h=>ME d e h λe h=>F1 e (c 0) h λh i=>wO e h i 0 a λh i=>F1 e (c 0) i λi j=>wO e i j 1 a λi j=>kR e (bg .add i (.Z 1)) j λi j=>kR e (iV 7 h i) j λh i=>kR e (hJ 1 h) i λh i=>kR e (aV a i h) i λh i=>kR e (dD a i .eql 9 true h (.str [108,101,116])) i λh i=>MD d (λa=>c4 (λb=>a b i) λa=>bh e (a h) (a .zF)) i λe h=>c4 (λd=>bC (λc d e=>Ki c a d λa=>b c a e) λa=>bh d (cg (c 5) λa=>f a h g) (a (ae c 90 d) h g)) λa=>bh d (a .zT) (a e)) g) λb f=>gA (λb c d e=>ki c 54 53 λg=>bC (λc d e=>nT (λa c d=>iZ a 54 λe=>b (ae a 54 e) c d) c 52 54 7 λb f=>av (dT a d 7 f) λf=>vi e a d f λd e f=>fo (e+8) λe=>gs 1 d a f λ_ g=>gs 2 d a f λh i=>cg (c 8) λj=>pv 0 j a f g λf=>cg (c 8) λg=>av (hJ 1 g) λg=>av (aV a f h) λh=>io h (some i) (j2 a f g i λf=>f3 c 5 8 λg h=>av (dT a f 8 h) λh=>av (hv 1 [.str [], .Z 0, .zF, .zF, .Z 0, .str [], .Z 0, .zF] [(0,8,h)] e) λh=>gN a f e h.1 h.2 λe f h=>hu (ju a f h 8 g e) f h λa e f=>b (zM c 13 d 5 a) e f)) λa=>bh g (a (ae c 55 g) d e) (f (ae c 55 g) d e)) (zN c 52 h 53 b 54 (.Z 0)) d e) λb=>bh d (e5 c λf=>a1 a 61 [f, .str [110,111,116]] i h (λf h i=>kI f λ_ f=>pv 7 e a h f λf=>e5 c λh=>a1 a 60 [h, .Z 1] f i (λf g h=>vi h a g f λf g h=>fo (g+8) λg=>gs 1 f a h λ_ i=>gs 2 f a h λj k=>pv 5 e a h i λh=>av (hJ 6 e) λi=>av (aV a h j) λj=>io j (some k) (j2 a h i k λa=>b (zO c 8 e 10 d 37 d 11 f) a g)) g) g) (b (zN c 8 e 10 d 37 d) i h)) g) g) λb=>gA (λc d e f=>cg (d 7) λh=>bC (λb d e=>bC (λb d e=>e5 b λf=>a1 a 61 [f, .str [44]] d e (λa d e=>kI a λ_ a=>c (ae b 7 a) d e) g) λc=>f3 b 6 0 λf h=>a1 a 60 [h, .Z 1] d e (λd e g=>Od d g a e f λa d e=>c (ae b 6 a) d e) g) λa=>bh h (a (ae d 14 h) e f) (b (ae d 14 h) e f)) (zM c 6 .aW 7 .zT) d e) (zM (c6 [b,c]) 4 .aW 5 .aW) d e
def ag8:dp X 62 [a0,a7] h j ah ax=U8 X a0 a7 h j ah ax:=Zk
def ag7:c8 X 62 2=true:=Zk
def U9(a:aT)(b:y)(c:M ak)(d:Nat)(e f:bQ):Prop:=
 jv a c d b λc d g=>av (kJ [.aW, .aW, .Z 0, .cN] g) λh=>gN a d g h.1 h.2 λd g h=>av (kJ [.aW, .aW, .Z 0, .cN] h) λi=>gN a g h i.1 i.2 λg h i=>av (aV a h c) λj=>GW a j 40 h i f λh i j=>bC (λb c d=>kj b 1 a c λg=>rK 61 d a c g f λc d g=>av (up false 2 1 c) λc=>cg (b 3) λh=>pv 2 h a d c λc=>kj b 1 a c λd=>a1 a 89 [d] c g (λc d g=>cg (b 3) λh=>pv 3 h a d c λc=>kj b 1 a c λd=>rK 59 g a c d f λ_ c d=>rJ b 3 a c 4 λf=>nU b 2 a c 4 f λa b=>e b a d) f) λe=>bh h (mm a (.func (.func 88) [] [c,g]) [] j i (λ_ i j=>av (aV a i c) λk=>rK 44 j a i k f λ_ i j=>bC (λb c d=>kj b 1 a c λg=>rK 41 d a c g f λ_ a c=>e b a c) λe=>gA (λb c d g=>cg (c 7) λh=>bC (λc d e=>bC (λc d e=>kj c 1 a d λg=>a1 a 61 [g, .str [44]] d e (λa d e=>kI a λ_ a=>b (ae c 7 a) d e) f) λb=>k5 c λg=>mm a g [] d e (λ_ a d=>b c a d) f) λa=>bh h (a (ae c 20 h) d g) (e (ae c 20 h) d g)) (zN (zO (c6 [b]) 1 c 2 d 3 g 4 (.func (.func 88) [] [c,g])) 6 h 14 h 7 .zT) i j) f) (mm a (.func (.func 88) [] [c,g]) [] j i (λ_ a f=>e (zM (zO (c6 [b]) 1 c 2 d 3 g 4 (.func (.func 88) [] [c,g])) 6 h 14 h) a f) f)
def aha:dp X 63 [a0] h j ah ax=U9 X a0 h j ah ax:=Zk
def ag9:c8 X 63 1=true:=Zk
def VA(a:aT)(b:y)(c:M ak)(d:Nat)(_ e:bQ):Prop:=
 jv a c d b λb c d=>Kf 2 b a c 21 λa=>yg e a c d
def ahM:dp X 87 [a0] h j ah ax=VA X a0 h j ah ax:=Zk
def ahL:c8 X 87 1=true:=Zk
def VB(a:aT)(b c:y)(d:M ak)(e:Nat)(f g:bQ):Prop:=
 av (aV a d b) λb=>a1 a 60 [b, .Z 1] d e (λb d e=>vi e a d b λb d e=>fo (d+16) λg=>l9 c a e λh=>gs 1 b a e λ_ i=>av (hv 1 [.str []] [(0,1,i)] (d+4)) λi=>lD a e (d+4) i.1 i.2 λe i=>gs 1 c a i λj k=>gs 2 b a i λb l=>av (hv 1 [.Z 0] [(0,1,l)] (d+10)) λm=>lD a i (d+10) m.1 m.2 λd i=>hu (ju a i g 1 h e) i g λe g h=>av (hJ 0 c) λi=>av (aV a g j) λj=>io j (some k) (av (aV a g b) λb=>io b (some l) (hu (ju a g h 1 k d) g h λb d g=>j2 a d i e λd=>pv 1 c a d b λa=>f (.tuple []) a g))) g
def ahO:dp X 88 [a0,a7] h j ah ax=VB X a0 a7 h j ah ax:=Zk
def ahN:c8 X 88 2=true:=Zk
def VC(a:aT)(b:y)(c:M ak)(d:Nat)(e f:bQ):Prop:=
 a1 a 109 [b] c d (λc d g=>a1 a 61 [b, .str [45,62]] d g (λd g h=>sV d h a g λd g h i=>av (he .not d) λj=>bC (λb c d=>fo (d+9) λg=>iY b 4 2 a c λh i=>f3 b 3 0 λb j=>a1 a 89 [j] c g (λc f g=>av (hv 2 [.cN, .cN] [(0,1,b),(1,1,c)] (d+5)) λb=>lD a f (d+5) b.1 b.2 λb c=>av (fe [.Z 0, .Z 0, .str [], .zF, .zF, .zF, .Z 0, .int .u64 0, .aW] [(0,1, .Z 22),(1,1,i),(8,1,b)]) λb=>w7 a c (d+7) b λb c=>av (aV a c h) λa=>io a (some i) (e b c g)) f) λa=>bh j (e c i h) (a (ae (zO (c6 [b]) 2 .cN 3 c 4 g 5 d) 14 j) i h)) f) f
def ahQ:dp X 89 [a0] h j ah ax=VC X a0 h j ah ax:=Zk
def ahP:c8 X 89 1=true:=Zk
def Ud(a:aT)(b:y)(c:M ak)(d:Nat)(e f:bQ):Prop:=
 a1 a 118 [b, .Z 0] c d (λc d g=>a1 a 61 [b, .str [102,98,121]] d g (λd g h=>sV d h a g λd g h i=>av (he .not d) λj=>bC (λb c d=>cg (b 3) λg=>fO g 0 a c λ_ g=>av (bg .neq g (.Z 1)) λg=>od g (b 3) c d λc d h=>Cg g c d h 0 a λc d h=>el g (bg .neq c (.Z 4)) d h λc d h=>iW g c d h λc d h=>A2 c (b 3) d h λd h i=>vk c d h i 8 a λd h i=>eT c (iV 1 d (.Z 0)) h i λd h i=>eT c (aV a h d) h i λd h i=>vk c d h i 0 a λd h i=>eT c (bg .neq d (.Z 1)) h i λd h i=>mn g (λa=>c4 (λb=>a b h i) λa=>bh c (a .zT) (a d)) h i λc d h=>c4 (λc=>bC (λb c d=>fo (d+9) λg=>iY b 4 2 a c λh i=>f3 b 3 0 λb j=>a1 a 109 [j] c g (λc f g=>av (hv 2 [.cN, .cN] [(0,1,b),(1,1,c)] (d+5)) λb=>lD a f (d+5) b.1 b.2 λb c=>av (fe [.Z 0, .Z 0, .str [], .zF, .zF, .zF, .Z 0, .int .u64 0, .aW] [(0,1, .Z 21),(1,1,i),(8,1,b)]) λb=>w7 a c (d+7) b λb c=>av (aV a c h) λa=>io a (some i) (e b c g)) f) λe=>bh c (rJ b 4 a d 7 λg=>a1 a 87 [g] d h (λ_ a d=>e (ae b 39 c) a d) f) (e (ae b 39 c) d h)) λa=>bh g (a c) (a .zF)) λa=>bh j (e c i h) (a (ae (zO (c6 [b]) 2 .cN 3 c 4 g 5 d) 14 j) i h)) f) f
def afl:dp X 109 [a0] h j ah ax=Ud X a0 h j ah ax:=Zk
def afk:c8 X 109 1=true:=Zk
def Uk(a:aT)(b c:y)(d:M ak)(e:Nat)(f g:bQ):Prop:=
 av (bg .eql c (.Z 5)) λh=>bC (λb c d=>f3 b 0 1 λe h=>yz h λh=>a1 a 118 [e,h] c d (λc d e=>bC (λa b c=>k5 a λa=>f a b c) λ_=>gA (λb c d e=>bC b λb=>f3 c 0 1 λh i=>a1 a 122 [h,i] d e (λd e h=>kI d λd i=>av (he .not i) λj=>bC (λc d e=>f3 c 6 5 λh i=>f3 c 0 1 λj k=>yz k λk=>a1 a 118 [j,k] d e (λd e g=>av (hv 2 [.cN, .cN] [(0,1,i),(1,1,d)] g) λd=>gN a e g d.1 d.2 λd e g=>jj h 8 λh=>j2 a e h d λa=>f3 c 6 1 λd e=>rH e 2 b λb e=>bh b (f d a g) (e (zM c 5 d 36 b) a g)) g) λa=>bh j (cg (c 5) λa=>f a e h) (a (zN c 6 d 7 i 23 j) e h)) g) (ae b 5 c) d e) g) λi=>bh h (a1 a 121 [b] d e f g) (i (zM (c6 [b,c]) 4 .cN 9 h) d e)
def afB:dp X 118 [a0,a7] h j ah ax=Uk X a0 a7 h j ah ax:=Zk
def afA:c8 X 118 2=true:=Zk
def Uo(a:aT)(b:y)(c:M ak)(d:Nat)(e f:bQ):Prop:=
 a1 a 127 [b] c d (λc d g=>bC (λa b c=>cg (a 2) λa=>e a b c) λ_=>gA (λb c d g=>bC b λb=>e5 c λh=>a1 a 61 [h, .str [60,60]] d g (λd g h=>sV d h a g λd g h i=>av (he .not d) λj=>bC (λc d g=>cg (c 6) λh=>av (he .not h) λh=>bC (λc d e=>e5 c λg=>a1 a 60 [g, .Z 4] d e (λd e g=>vi g a e d λd e g=>gs 3 d a g λ_ h=>av (bg .gtr h (.int .u64 63)) λh=>bC (λc d e=>f3 c 4 5 λf g=>gs 2 g a d λ_ g=>iY c 7 3 a d λ_ h=>cg (c 3) λi=>av (hv 1 [.cN] [(0,1,i)] e) λi=>gN a d e i.1 i.2 λd e i=>av (fe [.Z 0, .Z 0, .str [], .zF, .zF, .zF, .Z 0, .int .u64 0, .aW] [(0,1,f),(1,1,g),(7,1,h),(8,1,d)]) λd=>jv a e i d λa d e=>b (ae c 3 a) d e) λb=>bh h (av (dT a g 7 d) λi=>a1 a 87 [i] g e (λ_ a e=>b (zM c 7 d 29 h) a e) f) (b (zM c 7 d 29 h) g e)) f) λa=>bh h (cg (c 3) λa=>e a d g) (a (ae c 23 h) d g)) λb=>bh j (e5 c λe=>a1 a 61 [e, .str [62,62]] i h (λe f h=>kI e λe i=>av (es a f 7 g e) λa=>b (zM (zO c 4 (.Z 19) 5 g 6 d 16 j) 4 (.Z 20) 6 i) a h) f) (b (zO c 4 (.Z 19) 5 g 6 d 16 j) i h)) f) (zM (c6 [b]) 2 .cN 3 c) d g) f
def afH:dp X 121 [a0] h j ah ax=Uo X a0 h j ah ax:=Zk
def afG:c8 X 121 1=true:=Zk
def Up(a:aT)(b c:y)(d:M ak)(e:Nat)(f g:bQ):Prop:=
 av (tA 5 1 (.ptr 7 0) c) λh=>av (aV a d h) λh=>lI h (λ_ a b=>f (.tuple [.cN, .zF]) a b) λi j=>gA (λb c d e=>ki c 14 13 λh=>bC (λc d e=>nT (λa c d=>iZ a 14 λe=>b (ae a 14 e) c d) c 12 14 2 λb h=>av (dT a d 2 h) λh=>av (kJ [.str [], .Z 0] e) λi=>gN a d e i.1 i.2 λd e i=>av (es a e 2 d h) λe=>e5 c λh=>l9 d a e λj=>a1 a 61 [h,j] e i (λe g h=>sV e h a g λe g h i=>bC b λb=>bh e (gs 1 d a i λ_ b=>gs 2 g a i λ_ c=>av (fe [.Z 0, .Z 0, .str [], .zF, .zF, .zF, .Z 0, .int .u64 0, .aW] [(0,1,b),(1,1,c)]) λb=>jv a i h b λa b c=>f (.tuple [a, .zT]) b c) (b (zO c 7 d 8 g 9 e 25 e) i h)) g) λa=>bh h (a (ae c 15 h) d e) (j (ae c 15 h) d e)) (ae (zO (c6 [b,c]) 4 .cN 5 .zF 12 h 13 i) 14 (.Z 0)) d e
def afJ:dp X 122 [a0,a7] h j ah ax=Up X a0 a7 h j ah ax:=Zk
def afI:c8 X 122 2=true:=Zk
def Ur(a:aT)(b:y)(c:M ak)(d:Nat)(e f:bQ):Prop:=
 av (fe [.str [], .Z 0] [(0,1, .str [110,111,116]),(1,1, .Z 3)]) λg=>av (fe [.str [], .Z 0] [(0,1, .str [45]),(1,1, .Z 4)]) λh=>av (fe [.str [], .Z 0] [(0,1, .str [112,114,101]),(1,1, .Z 5)]) λi=>av (fe [.str [], .Z 0, .str [], .Z 0, .str [], .Z 0] [(0,2,g),(2,2,h),(4,2,i)]) λg=>bC (λb c d=>e5 b λg=>a1 a 133 [g] c d (λc d g=>bC (λa b c=>cg (a 2) λa=>e a b c) λ_=>gA (λb c d g=>bC b λb=>e5 c λh=>a1 a 61 [h, .str [119,104,101,110]] d g (λd g h=>sV d h a g λd g h i=>av (he .not d) λj=>bC (λc d e=>e5 c λg=>a1 a 61 [g, .str [110,111,116]] d e (λd e g=>sV d g a e λd _ e g=>fo (e+11) λh=>iY c 8 2 a g λi j=>f3 c 0 7 λk l=>av (hv 1 [.cN] [(0,1,l)] (e+7)) λl=>lD a g (e+7) l.1 l.2 λg l=>a1 a 60 [k, .Z 1] l h (λf h k=>av (up false 1 1 f) λf=>av (fe [.Z 0, .Z 0, .str [], .zF, .zF, .zF, .Z 0, .int .u64 0, .aW] [(0,1, .Z 6),(1,1,j),(2,1,f),(3,1,d),(8,1,g)]) λf=>w7 a h (e+9) f λe f=>av (aV a f i) λa=>io a (some j) (b (zM c 11 d 7 e) f k)) f) f) λa=>bh j (cg (c 7) λa=>e a i h) (a (zN c 8 g 9 d 45 j) i h)) f) (ae b 7 c) d g) f) λh=>gA (λb c d g=>cg (c 16) λi=>av (bg .lss i (.Z 3)) λi=>bC (λc d g=>bC (λa c d=>iZ a 16 λe=>b (ae a 16 e) c d) λb=>f3 c 15 16 λh i=>av (x1 true 3 2 h i) λh=>av (kJ [.str [], .Z 0] g) λi=>gN a d g i.1 i.2 λd g i=>av (es a g 2 d h) λg=>e5 c λh=>l9 d a g λj=>a1 a 61 [h,j] g i (λg h i=>sV g i a h λg h i j=>bC b λb=>bh g (fo (i+10) λb=>gs 1 d a j λd g=>gs 2 h a j λh k=>e5 c λc=>a1 a 127 [c] j b (λb c f=>av (hv 1 [.cN] [(0,1,b)] (i+6)) λb=>lD a c (i+6) b.1 b.2 λb c=>av (fe [.Z 0, .Z 0, .str [], .zF, .zF, .zF, .Z 0, .int .u64 0, .aW] [(0,1,g),(1,1,k),(8,1,b)]) λb=>w7 a c (i+8) b λb c=>av (aV a c d) λd=>io d (some g) (av (aV a c h) λa=>io a (some k) (e b c f))) f) (b (zO c 4 d 5 h 6 g 26 g) j i)) f) λa=>bh i (a (ae c 17 i) d g) (h (ae c 17 i) d g)) (zN (c6 [b]) 2 .cN 15 g 16 (.Z 0)) c d
def afN:dp X 127 [a0] h j ah ax=Ur X a0 h j ah ax:=Zk
def afM:c8 X 127 1=true:=Zk
def wX(a:aT)(b:y)(c:M ak)(d:Nat)(e f:bQ):Prop:=
 a1 a 35 [b] c d (λc d g=>vi g a d c λc d g=>gs 2 c a g λ_ h=>av (fe [.Z 0, .Z 0, .str [], .zF, .zF, .zF, .Z 0, .int .u64 0, .aW] [(1,1,h)]) λh=>jv a g d h λd g h=>fO b 1 a g λ_ i=>yz i λi=>jj b 1 λj=>j2 a g j i λg=>bC (λa b c=>k5 a λa=>e a b c) λe=>l9 c a g λi=>rH i 5 e λe i=>bh e (fo (h+16) λf=>av (hJ 4 c) λh=>av (dT a g 3 h) λj=>gs 3 c a g λk l=>jj d 0 λm=>rI a g m 1 λg=>jj d 4 λm=>av (dT a g 3 h) λh=>io h (some j) (av (aV a g k) λh=>io h (some l) (av (es a g 3 m j) λg=>jj d 7 λh=>av (aV a g k) λj=>io j (some l) (j2 a g h l λa=>i (zO (c6 [b]) 2 .cN 3 c 4 d 29 e) a f)))) (Eo c a g 2 λj=>vj j 1 c g h a λg h k=>el j (dD a h .eql 9 true g (.str [116,114,117,101])) h k λg h k=>iW j g h k λg h k=>sU g 1 c h k a λh k l=>eT g (dD a k .eql 9 true h (.str [102,97,108,115,101])) k l λh k l=>mn j (λa=>c4 (λb=>a b k l) λa=>bh g (a .zT) (a h)) k l λg h k=>c4 (λg=>bC i λi=>bh g (av (fe [.zF, .zF, .Z 0] [(0,1, .zT),(2,1, .Z 1)]) λf=>jj d 0 λj=>rI a h j 1 λh=>jj d 4 λj=>av (es a h 3 j f) λf=>gs 1 c a f λ_ h=>av (dD a f .eql 9 true h (.str [116,114,117,101])) λh=>bC i λi=>bh h (jj d 7 λj=>av (es a f 1 j (.int .u64 1)) λa=>i (zM (zO (c6 [b]) 2 .cN 3 c 4 d 29 e) 46 g 69 h) a k) (i (zM (zO (c6 [b]) 2 .cN 3 c 4 d 29 e) 46 g 69 h) f k)) (l9 c a h λj=>rH j 1 i λi j=>bh i (fo (k+10) λk=>gs 1 c a h λl m=>jj d 0 λn=>rI a h n 2 λh=>jj d 2 λn=>av (aV a h l) λl=>io l (some m) (j2 a h n m λh=>GW a b 40 h k f λh k l=>bC j λj=>bh h (a1 a 136 [b] l k (λf k l=>jj d 0 λm=>rI a k m 25 λk=>jj d 8 λm=>j2 a k m f λa=>j (zO (zO (c6 [b]) 2 .cN 3 c 4 d 29 e) 46 g 73 i 6 h 90 h) a l) f) (j (zO (zO (c6 [b]) 2 .cN 3 c 4 d 29 e) 46 g 73 i 6 h 90 h) l k))) (l9 c a h λl=>rH l 3 j λj l=>bh j (fo (k+10) λk=>av (hJ 4 c) λm=>av (dT a h 3 m) λn=>jj d 0 λo=>rI a h o 26 λh=>jj d 4 λo=>av (dT a h 3 m) λm=>io m (some n) (av (es a h 3 o n) λh=>rK 40 k a h b f λ_ h k=>Om a b h k f λh k m=>jj d 8 λn=>j2 a k n h λh=>rK 41 m a h b f λ_ a f=>l (zN (zO (c6 [b]) 2 .cN 3 c 4 d 29 e) 46 g 73 i 99 j) a f)) (Eo c a h 6 λm=>vj m 1 c h k a λh k n=>el m (dD a k .eql 9 true h (.str [40])) k n λh k n=>c4 (λh=>bC l λl=>bh h (a1 a 89 [b] k n (λk m n=>rK 41 n a m b f λ_ a f=>l (ae (zO (zO (c6 [b]) 2 .cN 3 c 4 d 29 e) 46 g 73 i 99 j 123 h) 4 k) a f) f) (Eo c a k 2 λm=>vj m 1 c k n a λk n o=>el m (dD a n .eql 9 true k (.str [105,102])) n o λk n o=>c4 (λk=>bC l λl=>bh k (jj d 0 λm=>rI a n m 23 λm=>Oe o d a m b f λm n o p q=>io q (some m) (wP a p n 1 m o d 8 λm n=>av (hv 1 [.str []] [(0,1, .str [116,104,101,110])] m) λo=>gN a n m o.1 o.2 λm n o=>a1 a 59 [b,m] n o (λ_ m n=>Oe n d a m b f λm n o p q=>io q (some m) (wP a p n 1 m o d 8 λm n=>av (hv 1 [.str []] [(0,1, .str [101,108,115,101])] m) λo=>gN a n m o.1 o.2 λm n o=>a1 a 59 [b,m] n o (λ_ m n=>Oe n d a m b f λf m n o p=>io p (some f) (wP a o m 1 f n d 8 λa f=>l (ae (zO (zO (c6 [b]) 2 .cN 3 c 4 d 29 e) 46 g 73 i 99 j 123 h) 137 k) f a)) f)) f)) (Eo c a n 2 λm=>vj m 1 c n o a λn o p=>el m (dD a o .eql 9 true n (.str [109,101,114,103,101])) o p λn o p=>c4 (λm=>bC l λl=>bh m (a1 a 60 [b, .Z 1] o p (λn o p=>av (up false 1 1 n) λn=>jj d 0 λq=>rI a o q 24 λo=>jj d 2 λq=>j2 a o q n λn=>a1 a 133 [b] n p (λn o p=>a1 a 133 [b] o p (λf o p=>av (hv 2 [.cN, .cN] [(0,1,n),(1,1,f)] p) λf=>gN a o p f.1 f.2 λf n o=>jj d 8 λp=>j2 a n p f λa=>l (zM (zO (zO (c6 [b]) 2 .cN 3 c 4 d 29 e) 46 g 73 i 99 j 123 h) 137 k 188 m) a o) f) f) f) (fO b 1 a o λ_ n=>GU n λn=>jj b 1 λq=>j2 a o q n λn=>av (dT a n 7 c) λo=>a1 a 87 [o] n p (λ_ a f=>l (zM (zO (zO (c6 [b]) 2 .cN 3 c 4 d 29 e) 46 g 73 i 99 j 123 h) 137 k 188 m) a f) f)) λa=>bh m (a n) (a .zF))) λa=>bh m (a k) (a .zF))) λa=>bh m (a h) (a .zF))))) λa=>bh j (a g) (a .zF))) f
def yM:dp X 133 [a0] h j ah ax=wX X a0 h j ah ax:=Zk
def yL:c8 X 133 1=true:=Zk
def Ut(a:aT)(b:y)(c:M ak)(d:Nat)(e f:bQ):Prop:=
 GW a b 41 c d f λc d g=>bC (λb c d=>e5 b λg=>Om a g c d f λc d g=>bC (λa b c=>cg (a 2) λa=>e a b c) λ_=>gA (λb c d g=>bC b λb=>e5 c λh=>GW a h 44 d g f λd g h=>av (he .not d) λi=>bC (λc d e=>f3 c 5 0 λg h=>Om a h d e f λd e f=>hu (ju a e f 1 g d) e f λa d e=>b (ae c 5 a) d e) λb=>bh i (e5 c λb=>rK 41 g a h b f λ_ a b=>cg (c 5) λc=>e c a b) (b (zM c 7 d 23 i) h g)) (ae b 5 c) d g) λa=>bh c (e .aW g d) (a (zN (c6 [b]) 2 .aW 4 c 13 c) g d)
def afR:dp X 136 [a0] h j ah ax=Ut X a0 h j ah ax:=Zk
def afQ:c8 X 136 1=true:=Zk
end
noncomputable section
variable (X : cl) (h : M ak) (j : Nat) (ah ax : bQ) (a0 a7 b2 a3 a4 a5 ic iw ko : y)
def UO(a:aT)(b c:y)(d:M ak)(e:Nat)(f g:bQ):Prop:=
 jv a d e b λd e h=>jv a e h c λe h i=>av (aV a h d) λj=>av (aV a h d) λk=>av (fM k) λk=>av (r1 a h .min [3,3] [k, .Z 5000]) λk=>av (nN a h 1 j none (some k) none) λj=>j2 a h d j λh=>av (kJ [.zF] i) λj=>gN a h i j.1 j.2 λh i j=>av (es a i 1 h .zT) λi=>mm a (.func (.func 9) [] [d,e]) [.func (.func 10) [] [h]] i j (λi j k=>Ep i λi=>bC (λb c d=>av (kJ [.str []] d) λe=>gN a c d e.1 e.2 λc d e=>av (es a d 1 c (.str [113])) λd=>bC (λb c d=>kj b 6 a c λe=>MF e (b 7) (λb=>aV a c b) c d λc d h=>el e (mq c) d h λc d h=>el e (bg .leq c (.Z 32)) d h λc d h=>c4 (λc=>cg (b 6) λe=>j2 a d e c λc=>cg (b 5) λd=>mm a d [.func (.func 12) [] []] c h (λc d e=>cg (b 5) λh=>mm a h [.func (.func 13) [] []] d e (λd e h=>f3 b 5 7 λi j=>mm a i [.func (.func 14) [] [j]] e h (λe h i=>cg (b 5) λj=>mm a j [.func (.func 15) [] []] h i (λh i j=>f3 b 5 7 λk l=>mm a k [.func (.func 16) [] [l]] i j (λi j k=>av (bg .eql c (.Z 37)) λc=>iW c d j k λd j k=>el c (bg .eql d (.Z 24)) j k λd j k=>c4 (λc=>MF c (b 6) (λb=>aV a j b) j k λb d j=>el c (he .not b) d j λb d j=>iW c b d j λb d j=>gS b e d j λd e j=>eT b (bg .eql d (.Z 37)) e j λd e j=>gS b d e j λd e j=>iW d h e j λe h j=>el d (bg .eql e (.Z 24)) h j λe h j=>kS b (λa=>c4 (λb=>a b h j) λa=>bh d (a e) (a .zF)) h j λd e h=>gS b d e h λd e h=>iW d i e h λe h i=>el d (bg .eql e (.Z 0)) h i λe h i=>kS b (λa=>c4 (λb=>a b h i) λa=>bh d (a e) (a .zF)) h i λd e h=>mn c (λa=>c4 (λb=>a b e h) λa=>bh b (a .zT) (a d)) e h λb d e=>c4 (λb=>mn b (λb=>a1 a 6 [] d e b g) d e λa c d=>c4 (λa=>f a c d) λc=>bh b (c a) (c .zF)) λa=>bh c (a b) (a .zF)) λa=>bh c (a d) (a .zF)) g) g) g) g) g) λa=>bh e (a c) (a .zF)) λf=>gA (λb c d e=>kj c 2 a d λg=>kj c 7 a d λh=>hu (JQ a d e h) d e λd e h=>SC a e [g,d] h λd e g=>bC (λc d e=>bC b λb=>kj c 7 a d λf=>av (dD a d .add 9 true f (.str [113])) λf=>cg (c 7) λg=>j2 a d g f λa=>b c a e) λa=>bh d (a (ae c 27 d) e g) (f (ae c 27 d) e g)) (ae b 7 c) d e) λl=>bh i (a1 a 6 [] j k f g) (l (zM (zO (c6 [b,c]) 2 d 3 e 4 .zF 5 (.func (.func 9) [] [d,e])) 6 h 22 i) j k)) g
def agI:dp X 4 [a0,a7] h j ah ax=UO X a0 a7 h j ah ax:=Zk
def agH:c8 X 4 2=true:=Zk
def Kv(a:aT)(b c d:y)(e:M ak)(f:Nat)(g h:bQ):Prop:=
 av (aV a e c) λi=>a1 a 5 [i] e f (λe f i=>kI e λe j=>GR i a f λf i k=>av (es a i 2 f j) λi=>l9 f a i λj=>Ep j λj=>bC (λb c d=>cg (b 5) λe=>av (dD a c .eql 23 true e .cN) λe=>A2 e (b 5) c d λc d f=>vk e c d f 0 a λc d f=>eT e (fM c) d f λc d f=>eT e (bg .eql c (.Z 0)) d f λc d f=>c4 (λc=>bC (λb c d=>fo (d+15) λd=>cg (b 5) λe=>fO e 0 a c λ_ e=>cg (b 2) λf=>av (tA 2 1 f (.Z 0)) λf=>av (aV a c f) λf=>av (k8 .i64 f) λf=>cg (b 5) λi=>fO i 0 a c λ_ i=>av (fM i) λi=>av (bg .rem f i) λf=>av (iV 6 e f) λe=>fO e 5 a c λ_ f=>av (fM f) λf=>av (bg .gtr f (.Z 0)) λf=>bC (λb c d=>cg (b 5) λb=>a1 a 7 [b] c d (λa b c=>av (up false 0 1 a) λa=>g a b c) h) λg=>bh f (fo (d+13) λd=>f3 b 0 5 λi j=>cg (b 2) λk=>av (tA 2 1 k (.Z 1)) λk=>av (aV a c k) λk=>av (k8 .i64 k) λk=>fO e 5 a c λ_ l=>av (fM l) λl=>av (bg .rem k l) λk=>mm a i [j,e,k] c d (λ_ a c=>g (zM b 7 e 47 f) a c) h) (g (zM b 7 e 47 f) c d)) λa=>bh c (g (.Z 2) d f) (a (ae b 27 c) d f)) λa=>bh e (a .zT) (a c)) λh=>bh j (l9 f a i λa=>g a i k) (h (zO (c6 [b,c,d]) 4 (.Z 0) 6 f 5 e 15 j) i k)) h
def OM:dp X 9 [a0,a7,b2] h j ah ax=Kv X a0 a7 b2 h j ah ax:=Zk
def OL:c8 X 9 3=true:=Zk
def T6(a:aT)(b c _ d:y)(e:M ak)(f:Nat)(g _:bQ):Prop:=
 fo (f+27) λf=>fO b 0 a e λ_ b=>av (fM b) λb=>av (bg .lss b (.Z 64)) λb=>R8 b c e λe h=>wO b e h 2 a λe h=>kR b (fM e) h λe h=>R8 b c h λh i=>wO b h i 3 a λh i=>kR b (fM h) i λh i=>kR b (bg .add e h) i λe h=>R8 b c h λc h=>wO b c h 4 a λc h=>kR b (fM c) h λc h=>kR b (bg .add e c) h λc e=>kR b (bg .lss c (.Z 256)) e λc e=>c4 (λb=>j2 a e d b λa=>g (.tuple []) a f) λa=>bh b (a c) (a .zF)
def afn:dp X 10 [a0,a7,b2,a3] h j ah ax=T6 X a0 a7 b2 a3 h j ah ax:=Zk
def afm:c8 X 10 4=true:=Zk
def Um(a:aT)(_ b c:y)(d:M ak)(e:Nat)(f _:bQ):Prop:=
 fo (e+19) λe=>fO b 5 a d λ_ g=>av (nN a d 4 g none (some c) (some c)) λg=>fO b 5 a d λ_ h=>yz c λc=>av (nN a d 4 h (some c) none none) λc=>wP a d e 4 g c b 5 λa b=>f (.tuple []) b a
def afP:dp X 12 [a0,a7,b2] h j ah ax=Um X a0 a7 b2 h j ah ax:=Zk
def afO:c8 X 12 3=true:=Zk
def Us(a:aT)(_ b c:y)(d:M ak)(e:Nat)(f _:bQ):Prop:=
 fo (e+17) λg=>fO b 5 a d λ_ h=>fO b 5 a d λ_ i=>Et 4 i c a d λc=>av (hv 1 [.aW, .aW, .Z 0, .cN] [(0,4,c)] (e+12)) λc=>lD a d (e+12) c.1 c.2 λc d=>wP a d g 4 h c b 5 λa b=>f (.tuple []) b a
def afT:dp X 13 [a0,a7,b2] h j ah ax=Us X a0 a7 b2 h j ah ax:=Zk
def afS:c8 X 13 3=true:=Zk
def Uu(a:aT)(_ b _ c:y)(d:M ak)(e:Nat)(f _:bQ):Prop:=
 fo (e+13) λg=>fO b 4 a d λ_ h=>av (aV a d c) λc=>av (fe [.zF, .zF, .Z 0] [(2,1, .Z 1)]) λi=>av (fe [.str [], .Z 0, .zF, .zF, .Z 0, .str [], .Z 0, .zF] [(0,1,c),(2,3,i)]) λc=>av (hv 1 [.str [], .Z 0, .zF, .zF, .Z 0, .str [], .Z 0, .zF] [(0,8,c)] (e+8)) λc=>lD a d (e+8) c.1 c.2 λc d=>wP a d g 8 h c b 4 λa b=>f (.tuple []) b a
def afV:dp X 14 [a0,a7,b2,a3] h j ah ax=Uu X a0 a7 b2 a3 h j ah ax:=Zk
def afU:c8 X 14 4=true:=Zk
def Uv(a:aT)(b _ _:y)(c:M ak)(d:Nat)(e _:bQ):Prop:=
 fo (d+16) λf=>fO b 0 a c λ_ g=>fO b 0 a c λ_ h=>av (iV 6 h (.Z 0)) λh=>av (dT a c 6 h) λh=>Ol h d 11 a c λc d=>wP a d f 6 g c b 0 λa b=>e (.tuple []) b a
def afX:dp X 15 [a0,a7,b2] h j ah ax=Uv X a0 a7 b2 h j ah ax:=Zk
def afW:c8 X 15 3=true:=Zk
def Uw(a:aT)(b c d e:y)(f:M ak)(g:Nat)(h _:bQ):Prop:=
 fo (g+14) λi=>fO b 0 a f λ_ j=>fO b 0 a f λ_ k=>av (fM k) λk=>GU k λk=>Et 6 j k a f λj=>av (kJ [.str [], .Z 0, .aW, .aW, .aW, .aW] (g+12)) λk=>lD a f (g+12) k.1 k.2 λf g=>av (es a g 6 f j) λg=>av (aV a g e) λj=>pv 0 f a g j λg=>av (hJ 5 f) λj=>av (es a g 1 j .aW) λg=>av (hJ 2 f) λj=>av (es a g 1 j .aW) λg=>av (hJ 4 f) λj=>av (es a g 1 j .aW) λg=>gs 3 f a g λ_ j=>lI j (λb c d=>iY b 7 3 a c λ_ e=>hu (ju a c d 8 .aW e) c d λc d e=>cg (b 7) λf=>pv 3 f a d c λc=>iY b 7 3 a c λ_ d=>lI d (λb c d=>fo (d+11) λe=>f3 b 0 7 λf g=>av (dT a c 6 g) λg=>Ol g d 2 a c λc d=>jL b 0 a d λ_ _ b=>wP a d e 6 c b f 0 λa b=>h (.tuple []) b a) λd f=>gA (λb c d e=>ki c 56 55 λg=>bC (λc d e=>bC (λa c d=>iZ a 56 λe=>b (ae a 56 e) c d) λb=>cg (c 56) λf=>fo (e+12) λe=>iY c 7 3 a d λ_ g=>iY c 7 3 a d λh i=>av (iV 8 g f) λg=>av (hJ 5 g) λg=>av (es a d 1 g (.str [])) λd=>av (iV 8 i f) λg=>av (hJ 7 g) λg=>av (aV a d h) λh=>io h (some i) (av (es a d 1 g .zF) λa=>b (ae c 10 f) a e)) λa=>bh g (a (ae c 57 g) d e) (f (ae c 57 g) d e)) (zM b 55 d 56 (.Z 0)) c e) λh k=>gA (λb c d e=>ki c 31 30 λf=>bC (λc d e=>nT (λa c d=>iZ a 31 λe=>b (ae a 31 e) c d) c 29 31 8 λb f=>av (dT a d 8 f) λf=>yx e a d λd e g=>av (es a e 8 d f) λe=>iY c 7 5 a e λ_ f=>l9 d a e λh=>av (hv 1 [.str []] [(0,1,h)] g) λh=>gN a e g h.1 h.2 λe g h=>l9 d a g λi=>av (fe [.Z 0, .Z 0, .str [], .zF, .zF, .zF, .Z 0, .int .u64 0, .aW] [(0,1, .Z 2),(2,1,i)]) λi=>jv a g h i λg h i=>av (fe [.aW, .aW, .Z 0, .cN] [(0,1,e),(3,1,g)]) λe=>av (hv 1 [.aW, .aW, .Z 0, .cN] [(0,4,e)] i) λe=>gN a h i e.1 e.2 λe g h=>hu (ju a g h 4 f e) g h λe f g=>cg (c 7) λh=>pv 5 h a f e λa=>b (ae c 9 d) a g) λa=>bh f (a (ae c 32 f) d e) (k (ae c 32 f) d e)) (zO (c6 [b,c,d,e]) 7 f 29 j 30 h 31 (.Z 0)) g i
def afZ:dp X 16 [a0,a7,b2,a3] h j ah ax=Uw X a0 a7 b2 a3 h j ah ax:=Zk
def afY:c8 X 16 4=true:=Zk
end
open Go.bs Go.aQ
noncomputable section
def b0(t:Tok):List y:=[.Z t.kind, .str t.text, .Z t.at_, .int .u64 t.n, .bool t.ty.b, .bool t.ty.s, .Z t.ty.w]
def pg:Nat:=3
def aqV(f:Nat):Bool:=sx f [6,114,99]
structure dW(X:cl):Prop where
 none:∀f k,aqV f=false->X.O f k=none
set_option maxRecDepth 100000 in
def zL{z7:cl}(O:dW z7){f:Nat}{a:List y}{z9:M ak}{n:Nat}{u v:bQ}(c:c8 z7 f a.length=true)(h:dp z7 f a z9 n u v)(b:aqV f=false:=by rfl):a1 z7 f a z9 n u v:=cY c (O.none _ _ b) h
structure aQ(X:cl)(h:M ak)(aJ bJ:Nat)(aU:List Tok)(i:Nat):Prop where
 at_:∃c ao,Z X h aJ=some (.cells c 2 .own)/\c.get 0=some ao/\c.get 1=some (.Z (i:Int))/\et X h (λe=>e=bJ) bJ ao 7 (aU.map b0)
 ne:aJ≠bJ
def aQ.ad{X:cl}{h R:M ak}{aJ bJ:Nat}{aU:List Tok}{i:Nat}(a:aQ X h aJ bJ aU i)(bS:Z X R aJ=Z X h aJ)(ck:Z X R bJ=Z X h bJ):aQ X R aJ bJ aU i:=by
 obtain⟨c,ao,H,K,am,aC⟩:=a.at_
 exact⟨⟨c,ao,by rw[bS];exact H,K,am,aC.ad λe B=>by subst B;exact ck⟩,a.ne⟩
def jW{C:aT}{h:M ak}{b n W:Nat}{c:M y}{st:oE}{v:y}(a:Z C h b=some (.cells c n st))(bu:c.get W=some v):aV C h (.ptr b W)=some v:=by rw[cT,a];exact bu
section
variable{X:cl}{h R:M ak}{j au aJ bJ:Nat}{aU:List Tok}{i:Nat}
def rp(az:dW X)(aI:(o X).aY<=j)(ay:aQ X h aJ bJ aU i)(j8:aJ<j)(jy:bJ<j){t:Tok}(a8:aU[i]? =some t):
 a1 X 35 [.ptr aJ 0] h j (λab R au=>ab= .agg (b0 t)/\bp X h j R au) (λ_ _ _=>False):=by
 refine zL az (agp X) ?_
 rw[agq]
 unfold UK
 obtain⟨c,ao,H,K,am,aC⟩:=ay.at_
 have ky:=jW H K
 have bS:=jW H am
 have aF:i<(aU.map b0).length:=by rw[Zp];exact(Zb.1 a8).1
 have di:=aC.g2 i aF
 have d2:dT X (bl X h j (zI [.Z 0, .str [], .Z 0, .int .u64 0, .zF, .zF, .Z 0] 7)) 7 (.ptr bJ (i*7))=some (.agg (b0 t)):=by
  have:=(aC.ad (R:=bl X h j (zI [.Z 0, .str [], .Z 0, .int .u64 0, .zF, .zF, .Z 0] 7)) (λe B=>by subst B;exact aL aI Zo)).row Zd (i:=i) (r:=b0 t) (by rw[Zy,a8];rfl)
  exact this
 refine g0 @ky @bS @di @d2 b0.eq_1 ⟨?_⟩
 exact⟨rfl,dM⟩
def sM:List y:=[.Z 0, .str [], .Z 0, .int .u64 0, .zF, .zF, .Z 0]
def aQ.on(ay:aQ X h aJ bJ aU i){Y:Nat}{c:M y}(H:Z X R aJ=some (.cells c 2 .own))(bi:∀d9 st,Z X h aJ=some (.cells d9 2 st)->c=d9.set 1 (some (.Z (Y:Int))))(ck:Z X R bJ=Z X h bJ):aQ X R aJ bJ aU Y:=by
 obtain⟨d9,ao,a7,b2,a3,a4⟩:=ay.at_
 have:=bi d9 _ a7
 subst this
 refine⟨⟨_,ao,H, ?_, ?_,a4.ad λe B=>by subst B;exact ck⟩,ay.ne⟩
 ·rw[M.j7,Zg Zd];exact b2
 ·rw[M.j7,Zu rfl]
def HM(az:dW X)(aI:(o X).aY<=j)(t:Tok)(ax:bQ)(a:∀R au,bp X h j R au->ax (.iface 26 (.agg [.Z 21, .Z t.at_])) R au):
 a1 X 87 [.agg (b0 t)] h j (λ_ _ _=>False) ax:=by
 refine zL az (ahL X) ?_
 rw[ahM]
 unfold VA b0
 refine c7 ⟨?_⟩
 exact⟨a _ _ dM⟩
def aeo(az:dW X)(aI:(o X).aY<=j)(ay:aQ X h aJ bJ aU i)(hB:(o X).aY<=aJ)(j8:aJ<j)(jy:bJ<j)(bc:aU.length<=300000){t:Tok}(a8:aU[i]? =some t){s:ba}(aE:gX t s=true):
 a1 X 61 [.ptr aJ 0, .str s] h j (λab R au=>ab= .tuple [.agg (b0 t), .zT]/\aQ X R aJ bJ aU (i+1)/\cu X [aJ] h j R au) (λ_ _ _=>False):=by
 refine zL az (U6 X) ?_
 rw[U7]
 unfold OG
 refine r0 ?_
 have jC:=(Zb.1 a8).1
 have bY:bp X h j (bl X h j (zI sM 7)) (j+1):=bp.fresh aI _
 have eb:aQ X (bl X h j (zI sM 7)) aJ bJ aU i:=ay.ad (bY.ad _ j8) (bY.ad _ jy)
 refine(rp az Zo eb Zo Zo a8).mono ?_ (λ_ _ _ a=>a)
 rintro ab aP be ⟨rfl,b6⟩
 have fa:=b6.le
 have K:Z X aP j=zI sM 7:=by rw[b6.ad _ Zo];exact bn aI
 have gl:cu X [aJ] h j aP be:=cu.of ((bp.fresh aI _).trans b6)
 have dm:aQ X aP aJ bJ aU i:=eb.ad (b6.ad _ Zo) (b6.ad _ Zo)
 obtain⟨c,ao,a7,b2,a3,a4⟩:=dm.at_
 have aG:=gl.ad
 simp only[gX,Zq,zb,Zi]at aE
 obtain⟨qw,rfl⟩:=aE
 have bS:=jW a7 a3
 have bB:=zJ i
 have fj:decide (t.text≠t.text)=false:=by simp
 unfold sM at K
 have fin:∀(rV:M ak) (au:Nat),Z X rV aJ=some (.cells (d3 c 1 [.Z ((i+1:Nat):Int)]) 2 .own)->cu X [aJ] h j rV au->Z X rV bJ=Z X aP bJ->aQ X rV aJ bJ aU (i+1)/\cu X [aJ] h j rV au:=λrV au H K am=>
  ⟨dm.on H (λd9 st a=>by rw[a7]at a;cases a;exact qL ..) am,K⟩
 have cE:=ay.ne
 rcases qw with gH|gH
 ·have cB:decide (t.kind≠2)=false:=by simp[gH]
  refine fA b0.eq_1 @cB @fj @bS @bB @a7 @K ⟨?_⟩
  refine⟨rfl,fin _ _ ?_ ?_ ?_⟩
  ·simp(disch:=omega) only[aL,bn];rfl
  ·exact⟨Zo,λb al bN=>by have:=aG b al bN;simp only[Zr,ZN,Y4,Yw,ZK,Yi]at bN;simp(disch:=omega) only[aL];exact this⟩
  ·simp(disch:=omega) only[aL]
 ·have cB:decide (t.kind≠2)=true:=by simp[gH]
  have cC:decide (t.kind≠6)=false:=by simp[gH]
  refine fA b0.eq_1 @cB @cC @fj @bS @bB (Za @a7 @K) ⟨?_⟩
  refine⟨rfl,fin _ _ ?_ ?_ ?_⟩
  ·simp(disch:=omega) only[aL,bn];rfl
  ·exact⟨Zo,λb al bN=>by have:=aG b al bN;simp only[Zr,ZN,Y4,Yw,ZK,Yi]at bN;simp(disch:=omega) only[aL];exact this⟩
  ·simp(disch:=omega) only[aL]
def aen(az:dW X)(aI:(o X).aY<=j)(ay:aQ X h aJ bJ aU i)(hB:(o X).aY<=aJ)(j8:aJ<j)(jy:bJ<j){t:Tok}(a8:aU[i]? =some t){s:ba}(aE:gX t s=false):
 a1 X 61 [.ptr aJ 0, .str s] h j (λab R au=>ab= .tuple [.agg sM, .zF]/\aQ X R aJ bJ aU i/\cu X [aJ] h j R au) (λ_ _ _=>False):=by
 refine zL az (U6 X) ?_
 rw[U7]
 unfold OG
 refine r0 ?_
 have bY:bp X h j (bl X h j (zI sM 7)) (j+1):=bp.fresh aI _
 have eb:aQ X (bl X h j (zI sM 7)) aJ bJ aU i:=ay.ad (bY.ad _ j8) (bY.ad _ jy)
 refine(rp az Zo eb Zo Zo a8).mono ?_ (λ_ _ _ a=>a)
 rintro ab aP be ⟨rfl,b6⟩
 have fa:=b6.le
 have K:Z X aP j=zI sM 7:=by rw[b6.ad _ Zo];exact bn aI
 have gl:cu X [aJ] h j aP be:=cu.of ((bp.fresh aI _).trans b6)
 have dm:aQ X aP aJ bJ aU i:=eb.ad (b6.ad _ Zo) (b6.ad _ Zo)
 have aG:=gl.ad
 unfold sM at K
 have fin:∀(rV:M ak) (au:Nat),Z X rV aJ=Z X aP aJ->cu X [aJ] h j rV au->Z X rV bJ=Z X aP bJ->aQ X rV aJ bJ aU i/\cu X [aJ] h j rV au:=λrV au H K am=>
  ⟨dm.ad H am,K⟩
 simp only[gX,Bool.and_eq_false_iff,Bool.or_eq_false_iff,Ze]at aE
 by_cases gH:t.kind=2
 ·have aE:t.text≠s:=by rcases aE with a|a;exact absurd gH a.1;exact a
  have cB:decide (t.kind≠2)=false:=by simp[gH]
  have fj:decide (t.text≠s)=true:=by simpa using aE
  refine g6 b0.eq_1 @cB @fj @K ⟨?_⟩
  refine⟨rfl,fin _ _ ?_ ?_ ?_⟩
  ·simp(disch:=omega) only[aL]
  ·exact⟨Zo,λb al bN=>by have:=aG b al bN;simp only[Zr,ZN,Y4,Yw,ZK,Yi]at bN;simp(disch:=omega) only[aL];exact this⟩
  ·simp(disch:=omega) only[aL]
 ·have cB:decide (t.kind≠2)=true:=by simp[gH]
  by_cases n9:t.kind=6
  ·have aE:t.text≠s:=by rcases aE with a|a;exact absurd n9 a.2;exact a
   have cC:decide (t.kind≠6)=false:=by simp[n9]
   have fj:decide (t.text≠s)=true:=by simpa using aE
   refine g0 b0.eq_1 @cB @cC @fj @K ⟨?_⟩
   refine⟨rfl,fin _ _ ?_ ?_ ?_⟩
   ·simp(disch:=omega) only[aL]
   ·exact⟨Zo,λb al bN=>by have:=aG b al bN;simp only[Zr,ZN,Y4,Yw,ZK,Yi]at bN;simp(disch:=omega) only[aL];exact this⟩
   ·simp(disch:=omega) only[aL]
  ·have cC:decide (t.kind≠6)=true:=by simp[n9]
   refine g6 b0.eq_1 @cB @cC @K ⟨?_⟩
   refine⟨rfl,fin _ _ ?_ ?_ ?_⟩
   ·simp(disch:=omega) only[aL]
   ·exact⟨Zo,λb al bN=>by have:=aG b al bN;simp only[Zr,ZN,Y4,Yw,ZK,Yi]at bN;simp(disch:=omega) only[aL];exact this⟩
   ·simp(disch:=omega) only[aL]
def Bv(az:dW X)(aI:(o X).aY<=j)(ay:aQ X h aJ bJ aU i)(hB:(o X).aY<=aJ)(j8:aJ<j)(jy:bJ<j)(bc:aU.length<=300000){t:Tok}(a8:aU[i]? =some t)(q:Int):
 a1 X 60 [.ptr aJ 0, .Z q] h j (λab R au=>t.kind=q/\ab= .agg (b0 t)/\aQ X R aJ bJ aU (i+1)/\cu X [aJ] h j R au)
  (λab R au=>t.kind≠q/\ab= .iface 26 (.agg [.Z 21, .Z t.at_])/\cu X [aJ] h j R au):=by
 refine zL az (ag5 X) ?_
 rw[ag6]
 unfold U5
 refine r0 ?_
 have jC:=(Zb.1 a8).1
 have bY:bp X h j (bl X h j (zI sM 7)) (j+1):=bp.fresh aI _
 have eb:aQ X (bl X h j (zI sM 7)) aJ bJ aU i:=ay.ad (bY.ad _ j8) (bY.ad _ jy)
 refine(rp az Zo eb Zo Zo a8).Zm ?_
 rintro ab aP be ⟨rfl,b6⟩
 have fa:=b6.le
 have K:Z X aP j=zI sM 7:=by rw[b6.ad _ Zo];exact bn aI
 have gl:cu X [aJ] h j aP be:=cu.of ((bp.fresh aI _).trans b6)
 have dm:aQ X aP aJ bJ aU i:=eb.ad (b6.ad _ Zo) (b6.ad _ Zo)
 obtain⟨c,ao,a7,b2,a3,a4⟩:=dm.at_
 have aG:=gl.ad
 have bS:=jW a7 a3
 have bB:=zJ i
 unfold sM at K
 have cE:=ay.ne
 by_cases xK:t.kind=q
 ·have cB:decide (t.kind≠q)=false:=by simp[xK]
  refine kr b0.eq_1 @cB @bS @bB @a7 @K ⟨?_⟩
  refine⟨xK,rfl,dm.on (c:=d3 c 1 [.Z ((i+1:Nat):Int)]) ?_ (λd9 st a=>by rw[a7]at a;cases a;exact qL ..) ?_, ?_⟩
  ·simp(disch:=omega) only[aL,bn];rfl
  ·simp(disch:=omega) only[aL]
  ·exact⟨Zo,λb al bN=>by have:=aG b al bN;simp only[Zr,ZN,Y4,Yw,ZK,Yi]at bN;simp(disch:=omega) only[aL];exact this⟩
 ·have cB:decide (t.kind≠q)=true:=by simp[xK]
  refine eP b0.eq_1 @cB @K ⟨?_⟩
  refine(HM az Zo t _ ?_).mono (λ_ _ _ a=>a.elim) (λ_ _ _ a=>a)
  intro R au bP
  have Iy:=bP.le
  refine⟨xK,rfl,Zo,λb al bN=> ?_⟩
  have:=aG b al bN
  simp only[Zr,ZN,Y4,Yw,ZK,Yi]at bN
  rw[bP.ad b Zo]
  simp(disch:=omega) only[aL];exact this
end
section
variable{X:cl}{h R:M ak}{j au aJ bJ:Nat}{aU:List Tok}{i:Nat}
def gZ:Tok:=⟨0,[],0,0,dr⟩
def rC:List ba->Tok->List Tok->fY Tok
 |[],x,k=>ok x k
 |s::nl,_,k=>andThen (eo s k) λe k=>rC nl e k
def fz{aU:List Tok}{i:Nat}{x:Tok}{k:List Tok}(a:aU.drop i=x::k):aU[i]? =some x/\aU.drop (i+1)=k:=by
 constructor
 ·have:=congrArg (λk=>k[0]?) a
  simpa using this
 ·rw[<-zw,a];rfl
def ip(nl:List ba):List (List y):=nl.map λs=>[.str s]
def aeH(az:dW X)(aI:(o X).aY<=j)(ay:aQ X h aJ bJ aU i)(hB:(o X).aY<=aJ)(j8:aJ<j)(jy:bJ<j)(bc:aU.length<=300000){a2:y}{cn:Nat}{nl:List ba}(Fp:cn<j)(xQ:cn≠aJ)(aE:et X h (λe=>e=cn) cn a2 1 (ip nl))
 {r:Except Int (Tok×List Tok)}(V:rC nl gZ (aU.drop i)=some r):
 a1 X 59 [.ptr aJ 0,a2] h j (λab R au=>∃x cx,r= .ok (x,aU.drop cx)/\ab= .agg (b0 x)/\aQ X R aJ bJ aU cx/\cu X [aJ] h j R au)
  (λab R au=>∃E,r= .error E/\ab= .iface 26 (.agg [.Z 21, .Z E])/\cu X [aJ] h j R au):=by
 refine zL az (ag1 X) ?_
 rw[ag2]
 unfold U4
 have eO:=aE.len
 have cE:=ay.ne
 have uJ:=aE.many
 simp only[ip,Zp]at uJ
 refine r0 ?_
 refine r0 ?_
 have Fh:bp X h j (bl X (bl X h j (zI (b0 gZ) 7)) (j+1) (zI (b0 gZ) 7)) (j+1+1):=dM
 have oq:Z X (bl X (bl X h j (zI (b0 gZ) 7)) (j+1) (zI (b0 gZ) 7)) j=zI (b0 gZ) 7:=by simp(disch:=omega) only[aL,bn]
 have cF:Z X (bl X (bl X h j (zI (b0 gZ) 7)) (j+1) (zI (b0 gZ) 7)) (j+1)=zI (b0 gZ) 7:=bn Zo
 refine r6 @eO ⟨?_⟩
 refine kx (λI R n=>∃x cx,r= .ok (x,aU.drop cx)/\I.g 5=some (.ptr (j+1) 0)/\I.g 4=some (.ptr j 0)/\j+1<n/\Z X R (j+1)=zI (b0 x) 7/\Z X R j=zI (b0 gZ) 7/\aQ X R aJ bJ aU cx/\cu X [aJ] h j R n) (λY bD=> ?_) ?_
 ·refine gK (λm I R n=>∃q cx x,m=nl.length-q/\q<=nl.length/\I.g 0=some (.ptr aJ 0)/\I.g 9=some a2/\I.g 10=some (.Z (nl.length:Int))/\I.g 11=some (.Z (q:Int))/\I.g 5=some (.ptr (j+1) 0)/\I.g 4=some (.ptr j 0)/\j+1<n
   /\Z X R (j+1)=zI (b0 x) 7/\Z X R j=zI (b0 gZ) 7/\aQ X R aJ bJ aU cx/\cu X [aJ] h j R n/\rC (nl.drop q) x (aU.drop cx)=some r)
   nl.length ⟨0,i,gZ,Zo,Zo, ?_, ?_, ?_, ?_, ?_, ?_,Zo,cF,oq,ay.ad (Fh.ad _ j8) (Fh.ad _ jy),cu.of Fh,V⟩ ?_
  ·exact bF
  ·exact bF
  ·refine Al ⟨?_⟩
   simp[ip]
  ·refine Al ⟨?_⟩
   rfl
  ·exact bF
  ·exact bF
  rintro m I aP n ⟨q,cx,x,rfl,aG,t0,t9,p5,tY,t5,t4,cJ,g1,eC,dm,gl,br⟩
  refine dq @p5 @tY ⟨?_⟩
  refine EO (λpP=> ?_) (λpP=> ?_)
  ·have pP:q<nl.length:=Zo
   have j9:nl.drop q=nl[q]::nl.drop (q+1):=ZA pP
   rw[j9]at br
   have di:=aE.g2 q (by simp[ip];exact pP)
   have abf:aV X aP (.ptr cn (q*1))=some (.str nl[q]):=by
    have:=(aE.ad (R:=aP) λe B=>by subst B;exact gl.ad _ Fp (by simp;exact xQ)).cell q [.str nl[q]] 0 (.str nl[q]) (by simp[ip]) rfl
    rwa[Z5]at this
   refine g0 @t9 @tY @di @abf @t0 ⟨?_⟩
   generalize nl[q]=s at br abf
   cases aH:aU.drop cx with
   |nil=>rw[aH]at br;simp[rC,eo,andThen]at br
   |cons e k=>
    obtain⟨B,aB⟩:=fz aH
    rw[aH]at br
    simp only[rC,eo]at br
    cases Dt:gX e s with
    |true=>
     rw[Dt]at br
     simp only[ZE,andThen,ok]at br
     refine(aeo az (zE gl.le) dm hB Zo Zo bc B Dt).Zm ?_
     rintro ab bf bE ⟨rfl,gz,eG⟩
     have jE:=eG.le
     have P5:Z X bf (j+1)=zI (b0 x) 7:=by rw[eG.ad _ Zo Zx];exact g1
     have alA:Z X bf j=zI (b0 gZ) 7:=by rw[eG.ad _ Zo Zx];exact eC
     refine eP @t5 @P5 @tY ⟨?_⟩
     have bB:=zJ q
     refine ce @bB ⟨?_⟩
     refine⟨_, ?_,q+1,cx+1,e,rfl,Zo,bz t0,bz t9,bz p5,bF,bz t5,bz t4,Zo,bn Zo,by simp(disch:=omega) only[aL];exact alA,gz.ad (zK) (zK), ?_, ?_⟩
     ·omega
     ·have sm:=(gl.trans eG).ad
      exact⟨zE gl.le,λb al bN=>by rw[<-sm b al bN];exact zK⟩
     ·rw[aB];exact br
    |false=>
     rw[Dt]at br
     simp only[Zv,ZD,andThen,bad,Zc]at br
     subst br
     refine(aen az (zE gl.le) dm hB Zo Zo B Dt).Zm ?_
     rintro ab bf bE ⟨rfl,gz,eG⟩
     have jE:=eG.le
     have P5:Z X bf (j+1)=zI (b0 x) 7:=by rw[eG.ad _ Zo Zx];exact g1
     refine eP @t5 @P5 @t0 ⟨?_⟩
     refine(rp az (zE gl.le) (gz.ad (zK) (zK)) Zo Zo B).Zm ?_
     rintro ab bT b3 ⟨rfl,dA⟩
     have je:=dA.le
     refine(HM az (zE gl.le) e _ ?_).mono (λ_ _ _ a=>a.elim) (λ_ _ _ a=>a)
     intro bZ ct dC
     have hQ:=dC.le
     have sm:=(gl.trans eG).ad
     refine⟨_,rfl,rfl,zE gl.le,λb al bN=> ?_⟩
     rw[dC.ad b Zo,dA.ad b Zo, <-sm b al bN]
     simp(disch:=omega) only[aL]
  ·have xK:q=nl.length:=Zo
   subst xK
   rw[List.drop_length]at br
   simp only[rC,ok,Zc]at br
   subst br
   refine c7 ⟨?_⟩
   exact bD _ _ _ ⟨x,cx,rfl,bz t5,bz t4,cJ,g1,eC,dm,gl⟩
 ·rintro I aP n ⟨x,cx,af,t5,t4,cJ,g1,eC,dm,gl⟩
  unfold b0 at g1
  unfold b0 gZ dr at eC
  refine g0 @t5 @t4 @g1 @eC (bU g1) ⟨?_⟩
  refine⟨x,cx,af,rfl,dm.ad (zK) (zK), ?_⟩
  exact⟨zE gl.le,λb al bN=>by rw[<-gl.ad b al bN];exact zK⟩
end
end
end Go.Proofs.YtbbkkkpgjaopkaaGreatDoor

