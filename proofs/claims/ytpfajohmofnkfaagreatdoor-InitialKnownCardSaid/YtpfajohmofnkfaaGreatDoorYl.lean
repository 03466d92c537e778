/- A part of the proof of the claim's last text: what it is used for is said there; no condition of its own. -/
import Derived.Test.YtpfajohmofnkfaaGreatDoorYk
set_option maxHeartbeats 8000000
set_option linter.all false
namespace Go.Proofs.YtpfajohmofnkfaaGreatDoor
open Go.bg
noncomputable section
variable (X : ck) (h : S ak) (j : Nat) (ah aw : bG) (a0 bd cg a3 a4 a5 hz h0 hA : H)
def Vf(a:aW)(b:H)(c:S ak)(d:Nat)(e f:bG):Prop:=
 B (dA [(.Z 0),(.Z 0)] d) λg=>cO a c d g.1 g.2 λc d g=>B (d8 b) λh=>B (aA .gtr h (.Z 65536)) λh=>aQ (λb c d=>aj (b 0) λg=>B (As a c g) λg=>B (eA [(.str []),(.Z 0)] [(0,1,g)]) λg=>ia a c d g λc d g=>aR a 110 [c] d g (λ_ d g=>aQ (λb c d=>aj (b 5) λf=>aj (b 4) λg=>B (cf g) λg=>B (aZ 1 g) λg=>B (am a c g) λg=>B (eA [(.Z 0),(.str []),(.Z 0),(.int .u64 0),(.bool false),(.bool false),(.Z 0)] [(0,1,(.Z 7)),(2,1,g)]) λg=>B (ft 1 [(.Z 0),(.str []),(.Z 0),(.int .u64 0),(.bool false),(.bool false),(.Z 0)] [(0,7,g)] d) λg=>cO a c d g.1 g.2 λc d g=>gO (iQ a d g 7 f c) d g λc d f=>B (eA [(.Z 0),(.Z 0)] []) λg=>aj (b 3) λh=>B (b7 a d 2 h g) λd=>aj (b 3) λb=>B (b6 a d 2 b) λa=>e (.tuple [c,a]) d f) λh=>fj (λb c d g=>eZ (g+10) λg=>aj (c 4) λi=>B (cf i) λi=>B (aZ 1 i) λi=>B (am a d i) λi=>aj (c 4) λj=>B (cf j) λj=>B (aZ 0 j) λj=>B (am a d j) λj=>B (lR j) λj=>B (aA .lss i j) λi=>aQ (λc d g=>aQ (λc d e=>aj (c 4) λg=>aR a 110 [g] d e (λ_ a d=>b c a d) f) λb=>aj (c 4) λh=>eZ (g+10) λg=>aj (c 4) λi=>B (cf i) λi=>B (aZ 0 i) λi=>B (am a d i) λi=>aj (c 4) λj=>B (cf j) λj=>B (aZ 1 j) λj=>B (am a d j) λj=>B (lo i j) λi=>aQ (λc d g=>aj (c 6) λh=>ih a h [] d g (λd f g=>B (cN 0 d) λh=>B (cN 1 d) λd=>B (dA [(.Z 0),(.str []),(.Z 0),(.int .u64 0),(.bool false),(.bool false),(.Z 0)] g) λi=>cO a f g i.1 i.2 λf g i=>B (b7 a g 7 f h) λg=>B (fz .not d) λh=>aQ (λc d e=>aj (c 4) λf=>B (cf f) λf=>B (aZ 1 f) λf=>B (am a d f) λf=>aj (c 8) λg=>B (aZ 2 g) λg=>B (b7 a d 1 g f) λd=>eZ (e+11) λe=>aj (c 4) λf=>B (cf f) λg=>B (aZ 1 g) λg=>B (am a d g) λg=>aj (c 8) λh=>B (aZ 1 h) λh=>B (am a d h) λh=>B (lR h) λh=>B (aA .add g h) λg=>B (cf f) λf=>B (aZ 1 f) λf=>B (b7 a d 1 f g) λd=>aj (c 5) λf=>aj (c 8) λg=>B (b6 a d 7 g) λg=>B (ft 1 [(.Z 0),(.str []),(.Z 0),(.int .u64 0),(.bool false),(.bool false),(.Z 0)] [(0,7,g)] e) λg=>cO a d e g.1 g.2 λd e g=>gO (iQ a e g 7 f d) e g λa d e=>b (ab c 5 a) d e) λb=>aV h (eZ (i+7) λb=>aj (c 4) λd=>B (cf d) λd=>B (aZ 1 d) λd=>B (am a g d) λd=>B (eA [(.Z 0),(.Z 0)] [(0,1,(.Z 20)),(1,1,d)]) λd=>aj (c 3) λf=>B (b7 a g 2 f d) λd=>aj (c 3) λc=>B (b6 a d 2 c) λa=>e (.tuple [.aT,a]) d b) (b (ab (ab (ab c 8 f) 9 d) 59 h) g i)) f) λb=>aR a 112 [i] d g (λd e g=>aQ b λb=>aV d (aj (c 4) λa=>b (ab (ab (ab (ab c 6 (.func (.func 111) [h] [])) 7 i) 43 d) 6 (.func (.func 113) [a] [])) e g) (aR a 114 [i] e g (λa e f=>aQ b λb=>aV a (aj (c 4) λg=>b (ab (ab (ab (ab (ab c 6 (.func (.func 111) [h] [])) 7 i) 43 d) 48 a) 6 (.func (.func 115) [g] [])) e f) (b (ab (ab (ab (ab c 6 (.func (.func 111) [h] [])) 7 i) 43 d) 48 a) e f)) f)) f) λa=>aV i (a (ab c 29 i) d g) (h (ab c 29 i) d g)) (ab (ab b 4 c) 5 .aT) d g) f) λf=>aV h (B (eA [(.Z 0),(.Z 0)] [(0,1,(.Z 3))]) λb=>B (b7 a d 2 c b) λb=>B (b6 a b 2 c) λa=>e (.tuple [.aT,a]) b g) (f (ab (ab (ab (cP [b]) 2 .aT) 3 c) 12 h) d g)
def aib:db X 66 [a0] h j ah aw=Vf X a0 h j ah aw:=Zk
def aia:cS X 66 1=true:=Zk
def Ty(a:aW)(b:H)(c:S ak)(d:Nat)(e f:bG):Prop:=
 aQ (λ_ a b=>e (.tuple []) a b) λg=>fj (λb c d h=>eZ (h+10) λh=>aj (c 0) λi=>B (cf i) λi=>B (aZ 1 i) λi=>B (am a d i) λi=>aj (c 0) λj=>B (cf j) λj=>B (aZ 0 j) λj=>B (am a d j) λj=>B (lR j) λj=>B (aA .lss i j) λi=>aQ (λc d g=>aQ b λb=>aQ b λb=>eZ (g+12) λg=>aj (c 0) λh=>B (cf h) λh=>B (aZ 0 h) λh=>B (am a d h) λh=>aj (c 0) λi=>B (cf i) λi=>B (aZ 1 i) λi=>B (am a d i) λi=>B (lo h i) λh=>aR a 163 [(.str [32,9,10,13]),h] d g (λd g h=>B (aA .geq d (.Z 0)) λd=>aQ b λb=>aV d (aj (c 0) λe=>B (cf e) λf=>B (aZ 1 f) λf=>B (am a g f) λf=>B (aA .add f (.Z 1)) λf=>B (cf e) λe=>B (aZ 1 e) λe=>B (b7 a g 1 e f) λa=>b (ab c 12 d) a h) (eZ (h+11) λh=>aj (c 0) λi=>B (cf i) λi=>B (aZ 0 i) λi=>B (am a g i) λi=>aj (c 0) λj=>B (cf j) λj=>B (aZ 1 j) λj=>B (am a g j) λj=>B (kd i (some j) none) λi=>aR a 164 [i,(.str [45,45])] g h (λg h i=>aQ b λb=>aV g (eZ (i+15) λe=>aj (c 0) λi=>B (cf i) λj=>B (aZ 1 j) λj=>B (am a h j) λk=>aj (c 0) λl=>aj (c 0) λm=>B (cf m) λm=>B (aZ 1 m) λm=>B (am a h m) λm=>aR a 165 [l,m,(.func (.func 166) [] [])] h e (λe f h=>B (lR e) λe=>B (aA .add k e) λe=>B (cf i) λi=>B (aZ 1 i) λi=>B (am a f j) λj=>gI j (some k) (B (b7 a f 1 i e) λa=>b (ab (ab c 12 d) 31 g) a h)) f) (e (.tuple []) h i)) f)) f) λa=>aV i (a (ab c 11 i) d h) (g (ab c 11 i) d h)) (cP [b]) c d
def aeU:db X 110 [a0] h j ah aw=Ty X a0 h j ah aw:=Zk
def aeT:cS X 110 1=true:=Zk
def Tz(a:aW)(b:H)(c:S ak)(d:Nat)(e f:bG):Prop:=
 B (dA [(.Z 0),(.str []),(.Z 0),(.int .u64 0),(.bool false),(.bool false),(.Z 0)] d) λg=>cO a c d g.1 g.2 λc d g=>B (b6 a d 17 (.ptr 1 0)) λh=>aQ (λb c d=>B (eA [(.Z 0),(.str []),(.Z 0),(.int .u64 0),(.bool false),(.bool false),(.Z 0)] []) λf=>aj (b 2) λg=>B (b7 a c 7 g f) λc=>aj (b 2) λb=>B (b6 a c 7 b) λa=>e (.tuple [a,(.bool false)]) c d) λi=>fj (λb c d g=>aj (c 7) λh=>B (aA .lss h (.Z 17)) λh=>aQ (λc d g=>aQ (λa c d=>aj (a 7) λe=>B (aA .add e (.Z 1)) λe=>b (ab a 7 e) c d) λb=>aj (c 6) λh=>aj (c 7) λi=>B (tt false 17 1 h i) λh=>eZ (g+11) λg=>aj (c 0) λi=>B (cf i) λi=>B (aZ 0 i) λi=>B (am a d i) λi=>aj (c 0) λj=>B (cf j) λj=>B (aZ 1 j) λj=>B (am a d j) λj=>B (kd i (some j) none) λi=>aR a 164 [i,h] d g (λd f g=>aQ b λb=>aV d (B (eA [(.Z 0),(.str []),(.Z 0),(.int .u64 0),(.bool false),(.bool false),(.Z 0)] [(0,1,(.Z 6)),(1,1,h)]) λb=>aj (c 2) λd=>B (b7 a f 7 d b) λb=>aj (c 2) λc=>B (b6 a b 7 c) λa=>e (.tuple [a,(.bool true)]) b g) (b (ab (ab c 5 h) 20 d) f g)) f) λa=>aV h (a (ab c 8 h) d g) (i (ab c 8 h) d g)) (ab (ab (ab (ab (cP [b]) 2 c) 3 (.bool false)) 6 h) 7 (.Z 0)) d g
def aeW:db X 111 [a0] h j ah aw=Tz X a0 h j ah aw:=Zk
def aeV:cS X 111 1=true:=Zk
def TA(_:aW)(a:H)(b:S ak)(c:Nat)(d _:bG):Prop:=
 B (aA .geq a (.int .u8 48)) λe=>iM e a b c (λa b c=>cV e (aA .leq a (.int .u8 57)) b c (λa b c=>cW (λa=>d a b c) λb=>aV e (b a) (b (.bool false))))
def aeY:db X 112 [a0] h j ah aw=TA X a0 h j ah aw:=Zk
def aeX:cS X 112 1=true:=Zk
def TB(a:aW)(b:H)(c:S ak)(d:Nat)(e f:bG):Prop:=
 B (dA [(.Z 0),(.str []),(.Z 0),(.int .u64 0),(.bool false),(.bool false),(.Z 0)] d) λg=>cO a c d g.1 g.2 λc d g=>B (cf b) λh=>B (aZ 1 h) λh=>B (am a d h) λh=>aR a 165 [b,h,(.func (.func 112) [] [])] d g (λd g h=>aR a 167 [d,(.Z 10),(.Z 64)] g h (λg h i=>B (cN 0 g) λj=>B (cN 1 g) λg=>B (dj a h .neq 238 true g .nilIface) λk=>g5 k d h i (λh i l=>cU k (lR h) i l (λh i l=>cU k (aA .gtr h (.Z 20)) i l (λh i l=>cW (λh=>aQ (λb c d=>aj (b 0) λg=>aj (b 0) λh=>B (cf h) λh=>B (aZ 1 h) λh=>B (am a c h) λh=>aj (b 4) λi=>B (lR i) λi=>B (aA .add h i) λh=>aR a 165 [g,h,(.func (.func 168) [] [])] c d (λc d g=>B (dj a d .eql 9 true c (.str [])) λh=>aQ (λb c d=>aj (b 7) λg=>aR a 169 [g] c d (λc d g=>B (cN 0 c) λh=>B (cN 1 c) λc=>B (dA [(.bool false),(.bool false),(.Z 0)] g) λi=>cO a d g i.1 i.2 λd g i=>B (b7 a g 3 d h) λg=>eZ (i+19) λh=>aj (b 4) λi=>aj (b 7) λj=>B (dj a g .add 9 false i j) λk=>aj (b 5) λl=>B (b6 a g 3 d) λm=>B (eA [(.Z 0),(.str []),(.Z 0),(.int .u64 0),(.bool false),(.bool false),(.Z 0)] [(0,1,(.Z 5)),(1,1,k),(3,1,l),(4,3,m)]) λl=>gs c (aZ 0 d) g (λg n=>gs c (am a n g) n (λg n=>gs c (fz .not g) n (λg n=>cW (λc=>gs c (b6 a n 3 d) n (λg n=>uX c (b 5) n (λn o=>j9 c (λb=>aR a 170 [g,n] o h b f) o h (λf g h=>cW (λc=>B (dj a g .add 9 false i j) λf=>gI f (some k) (B (b6 a g 3 d) λd=>gI d (some m) (aj (b 2) λd=>B (b7 a g 7 d l) λd=>aj (b 2) λb=>B (b6 a d 7 b) λa=>e (.tuple [a,c]) d h))) λa=>aV c (a f) (a (.bool false)))))) λa=>aV c (a g) (a (.bool false)))))) f) λf=>aV h (aj (b 4) λc=>aj (b 5) λf=>B (eA [(.Z 0),(.str []),(.Z 0),(.int .u64 0),(.bool false),(.bool false),(.Z 0)] [(0,1,(.Z 4)),(1,1,c),(3,1,f)]) λc=>aj (b 2) λf=>B (b7 a d 7 f c) λc=>aj (b 2) λb=>B (b6 a c 7 b) λa=>e (.tuple [a,(.bool true)]) c g) (f (ab (ab b 7 c) 39 h) d g)) f) λf=>aV h (B (eA [(.Z 0),(.str []),(.Z 0),(.int .u64 0),(.bool false),(.bool false),(.Z 0)] []) λb=>B (b7 a i 7 c b) λb=>B (b6 a b 7 c) λa=>e (.tuple [a,(.bool false)]) b l) (f (ab (ab (ab (ab (ab (ab (cP [b]) 2 c) 3 (.bool false)) 4 d) 5 j) 6 g) 27 h) i l)) λa=>aV k (a (.bool true)) (a h))))) f) f
def ae0:db X 113 [a0] h j ah aw=TB X a0 h j ah aw:=Zk
def aeZ:cS X 113 1=true:=Zk
def TC(_:aW)(a:H)(b:S ak)(c:Nat)(d _:bG):Prop:=
 B (aA .geq a (.int .u8 97)) λe=>iM e a b c (λb c f=>cV e (aA .leq b (.int .u8 122)) c f (λb c f=>cW (λb=>g5 b a c f (λc e f=>cU b (aA .geq c (.int .u8 65)) e f (λc e f=>g5 b c e f (λc e f=>iM c a e f (λe f g=>cV c (aA .leq e (.int .u8 90)) f g (λe f g=>km b (λa=>cW (λb=>a b f g) λa=>aV c (a e) (a (.bool false))) f g (λc e f=>cW (λb=>g5 b a e f (λa c e=>cU b (aA .eql a (.int .u8 95)) c e (λa c e=>cW (λa=>d a c e) λc=>aV b (c (.bool true)) (c a)))) λa=>aV b (a (.bool true)) (a c)))))))) λa=>aV e (a b) (a (.bool false))))
def ae2:db X 114 [a0] h j ah aw=TC X a0 h j ah aw:=Zk
def ae1:cS X 114 1=true:=Zk
def TD(a:aW)(b:H)(c:S ak)(d:Nat)(e f:bG):Prop:=
 B (dA [(.Z 0),(.str []),(.Z 0),(.int .u64 0),(.bool false),(.bool false),(.Z 0)] d) λg=>cO a c d g.1 g.2 λc d g=>B (cf b) λh=>B (aZ 1 h) λh=>B (am a d h) λh=>aR a 165 [b,h,(.func (.func 168) [] [])] d g (λd g h=>B (eA [(.Z 0),(.str []),(.Z 0),(.int .u64 0),(.bool false),(.bool false),(.Z 0)] [(0,1,(.Z 1)),(1,1,d)]) λi=>B (dA [(.Z 0),(.str []),(.Z 0),(.int .u64 0),(.bool false),(.bool false),(.Z 0)] h) λj=>cO a g h j.1 j.2 λg h j=>B (b7 a h 7 g i) λh=>aR a 169 [d] h j (λh i j=>B (cN 0 h) λk=>B (cN 1 h) λh=>B (dA [(.bool false),(.bool false),(.Z 0)] j) λl=>cO a i j l.1 l.2 λi j l=>B (b7 a j 3 i k) λj=>aQ (λb c d=>aj (b 5) λf=>B (b6 a c 7 f) λf=>aj (b 4) λg=>B (lR g) λg=>B (aA .leq g (.Z 32)) λg=>aj (b 2) λh=>B (b7 a c 7 h f) λc=>aj (b 2) λb=>B (b6 a c 7 b) λa=>e (.tuple [a,g]) c d) λe=>aV h (eZ (l+5) λf=>B (b6 a j 3 i) λk=>B (aZ 0 g) λl=>B (b7 a j 1 l (.Z 3)) λj=>B (aZ 4 g) λl=>B (b6 a j 3 i) λm=>gI m (some k) (B (b7 a j 3 l k) λa=>e (ab (ab (ab (ab (ab (ab (ab (cP [b]) 2 c) 3 (.bool false)) 4 d) 5 g) 6 i) 7 h) 21 h) a f)) (aR a 171 [d] j l (λf j k=>aQ e λe=>aV f (B (aZ 0 g) λl=>B (b7 a j 1 l (.Z 2)) λa=>e (ab (ab (ab (ab (ab (ab (ab (ab (cP [b]) 2 c) 3 (.bool false)) 4 d) 5 g) 6 i) 7 h) 21 h) 26 f) a k) (e (ab (ab (ab (ab (ab (ab (ab (ab (cP [b]) 2 c) 3 (.bool false)) 4 d) 5 g) 6 i) 7 h) 21 h) 26 f) j k)) f)) f) f
def ae4:db X 115 [a0] h j ah aw=TD X a0 h j ah aw:=Zk
def ae3:cS X 115 1=true:=Zk
def T2(a:aW)(b c:H)(d:S ak)(e:Nat)(f g:bG):Prop:=
 aR a 199 [b,c] d e f g
def afS:db X 163 [a0,bd] h j ah aw=T2 X a0 bd h j ah aw:=Zk
def afR:cS X 163 2=true:=Zk
def T3(a:aW)(b c:H)(d:S ak)(e:Nat)(f g:bG):Prop:=
 aR a 200 [b,c] d e f g
def afU:db X 164 [a0,bd] h j ah aw=T3 X a0 bd h j ah aw:=Zk
def afT:cS X 164 2=true:=Zk
def T4(a:aW)(b c d:H)(e:S ak)(f:Nat)(g h:bG):Prop:=
 aQ (λb c d=>aj (b 0) λe=>B (cf e) λe=>B (aZ 0 e) λe=>B (am a c e) λa=>aj (b 1) λe=>aj (b 7) λb=>B (kd a (some e) (some b)) λa=>g a c d) λg=>fj (λb c d e=>aj (c 7) λf=>aj (c 0) λi=>B (cf i) λi=>B (aZ 0 i) λi=>B (am a d i) λi=>B (lR i) λi=>B (aA .lss f i) λf=>lQ f (c 2) d e (λd e i=>lQ f (c 0) e i (λe i j=>cV f (cf e) i j (λe i j=>cV f (aZ 0 e) i j (λe i j=>cV f (am a i e) i j (λe i j=>lQ f (c 7) i j (λi j k=>cV f (lo e i) j k (λe i j=>j9 f (λb=>ih a d [e] i j b h) i j (λa d e=>cW (λa=>aQ (λa c d=>aQ b λb=>aj (a 7) λe=>B (aA .add e (.Z 1)) λe=>b (ab a 7 e) c d) λb=>aV a (b (ab c 25 a) d e) (g (ab c 25 a) d e)) λb=>aV f (b a) (b (.bool false))))))))))) (ab (ab (cP [b,c,d]) 6 (.str [])) 7 c) e f
def afW:db X 165 [a0,bd,cg] h j ah aw=T4 X a0 bd cg h j ah aw:=Zk
def afV:cS X 165 3=true:=Zk
def T5(_:aW)(a:H)(b:S ak)(c:Nat)(d _:bG):Prop:=
 B (aA .neq a (.int .u8 10)) λa=>d a b c
def afY:db X 166 [a0] h j ah aw=T5 X a0 h j ah aw:=Zk
def afX:cS X 166 1=true:=Zk
def T6(a:aW)(b c d:H)(e:S ak)(f:Nat)(g h:bG):Prop:=
 aR a 201 [b,c,d] e f (λe f i=>B (cN 0 e) λj=>B (cN 1 e) λe=>B (dj a f .neq 238 true e .nilIface) λk=>aQ (λa b c=>aj (a 8) λa=>g (.tuple [a, .nilIface]) b c) λl=>aV k (aR a 202 [(.str [80,97,114,115,101,85,105,110,116]),b,c,d,e] f i (λa b c=>g (.tuple [j,a]) b c) h) (l (ab (ab (ab (ab (ab (cP [b,c,d]) 6 (.int .u64 0)) 7 .nilIface) 8 j) 9 e) 18 k) f i)) h
def af0:db X 167 [a0,bd,cg] h j ah aw=T6 X a0 bd cg h j ah aw:=Zk
def afZ:cS X 167 3=true:=Zk
def T7(a:aW)(b:H)(c:S ak)(d:Nat)(e f:bG):Prop:=
 aR a 114 [b] c d (λc d g=>g5 c b d g (λb d g=>km c (λc=>aR a 112 [b] d g c f) d g (λa b d=>cW (λa=>e a b d) λb=>aV c (b (.bool true)) (b a)))) f
def af2:db X 168 [a0] h j ah aw=T7 X a0 h j ah aw:=Zk
def af1:cS X 168 1=true:=Zk
def T8(a:aW)(b:H)(c:S ak)(d:Nat)(e f:bG):Prop:=
 B (dA [(.bool false),(.bool false),(.Z 0)] d) λg=>cO a c d g.1 g.2 λc d g=>B (dj a d .eql 9 true b (.str [98,111,111,108])) λh=>aQ (λb c d=>aj (b 0) λg=>B (dj a c .eql 9 true g (.str [])) λg=>sk g (b 0) c d (λc d h=>cU g (lo c (.Z 0)) d h (λc d h=>cU g (aA .neq c (.int .u8 117)) d h (λc d h=>g5 g c d h (λc d h=>lQ c (b 0) d h (λd h i=>cV c (lo d (.Z 0)) h i (λd h i=>cV c (aA .neq d (.int .u8 105)) h i (λd h i=>km g (λa=>cW (λb=>a b h i) λa=>aV c (a d) (a (.bool false))) h i (λc d h=>cW (λc=>aQ (λb c d=>aj (b 0) λg=>B (kd g (some (.Z 1)) none) λg=>aR a 203 [g] c d (λc d g=>B (cN 0 c) λh=>B (cN 1 c) λc=>aj (b 0) λi=>B (lo i (.Z 0)) λi=>B (aA .eql i (.int .u8 105)) λi=>B (eA [(.bool false),(.bool false),(.Z 0)] [(1,1,i),(2,1,h)]) λi=>B (dA [(.bool false),(.bool false),(.Z 0)] g) λj=>cO a d g j.1 j.2 λd g j=>B (b7 a g 3 d i) λg=>B (dj a g .neq 238 true c .nilIface) λi=>cU i (b6 a g 3 d) g j (λg j k=>km i (λb=>aR a 182 [g] j k b f) j k (λg j k=>cU i (fz .not g) j k (λg j k=>cW (λg=>cU g (b6 a j 3 d) j k (λi j k=>km g (λb=>aR a 204 [i] j k b f) j k (λf i j=>sk g (b 0) i j (λi j k=>cU g (dj a j .neq 9 false f i) j k (λf i j=>cW (λf=>aQ (λb c d=>aj (b 6) λf=>B (b6 a c 3 f) λf=>aj (b 2) λg=>B (b7 a c 3 g f) λc=>aj (b 2) λb=>B (b6 a c 3 b) λa=>e (.tuple [a,(.bool true)]) c d) λg=>aV f (B (eA [(.bool false),(.bool false),(.Z 0)] []) λc=>aj (b 2) λd=>B (b7 a i 3 d c) λc=>aj (b 2) λb=>B (b6 a c 3 b) λa=>e (.tuple [a,(.bool false)]) c j) (g (ab (ab (ab (ab b 4 h) 5 c) 6 d) 46 f) i j)) λa=>aV g (a (.bool true)) (a f)))))) λa=>aV i (a (.bool true)) (a g))))) f) λf=>aV c (B (eA [(.bool false),(.bool false),(.Z 0)] []) λc=>aj (b 2) λf=>B (b7 a d 3 f c) λc=>aj (b 2) λb=>B (b6 a c 3 b) λa=>e (.tuple [a,(.bool false)]) c h) (f (ab b 21 c) d h)) λa=>aV g (a (.bool true)) (a c)))))))))) λf=>aV h (B (eA [(.bool false),(.bool false),(.Z 0)] [(0,1,(.bool true)),(2,1,(.Z 1))]) λb=>B (b7 a d 3 c b) λb=>B (b6 a b 3 c) λa=>e (.tuple [a,(.bool true)]) b g) (f (ab (ab (ab (cP [b]) 2 c) 3 (.bool false)) 8 h) d g)
def af4:db X 169 [a0] h j ah aw=T8 X a0 h j ah aw:=Zk
def af3:cS X 169 1=true:=Zk
def T9(a:aW)(b c:H)(d:S ak)(e:Nat)(f g:bG):Prop:=
 ia a d e b λd e h=>B (aZ 1 d) λi=>B (am a e i) λi=>aQ (λb c d=>aj (b 2) λe=>B (b6 a c 3 e) λe=>aj (b 1) λb=>aR a 205 [e,b] c d f g) λg=>aV i (B (aZ 2 d) λj=>B (am a e j) λj=>B (aA .sub j (.Z 1)) λj=>B (eA [(.bool false),(.bool false),(.Z 0)] [(2,1,j)]) λj=>B (b7 a e 3 d j) λe=>B (aZ 2 d) λj=>B (am a e j) λa=>B (aA .eql a (.Z 0)) λa=>aQ g λg=>aV a (B (aA .eql c (.int .u64 0)) λa=>f a e h) (g (ab (ab (ab (ab (cP [b,c]) 2 d) 4 (.bool false)) 6 i) 13 a) e h)) (g (ab (ab (ab (cP [b,c]) 2 d) 4 (.bool false)) 6 i) e h)
def af6:db X 170 [a0,bd] h j ah aw=T9 X a0 bd h j ah aw:=Zk
def af5:cS X 170 2=true:=Zk
def Ua(a:aW)(b:H)(c:S ak)(d:Nat)(e _:bG):Prop:=
 B (am a c (.ptr 3 0)) λf=>B (ma a c 9 (.bool false) f b false) λa=>e a c d
def af8:db X 171 [a0] h j ah aw=Ua X a0 h j ah aw:=Zk
def af7:cS X 171 1=true:=Zk
def Ux(a:aW)(b c:H)(d:S ak)(e:Nat)(f g:bG):Prop:=
 aR a 223 [b,c] d e f g
def agL:db X 199 [a0,bd] h j ah aw=Ux X a0 bd h j ah aw:=Zk
def agK:cS X 199 2=true:=Zk
def Uz(a:aW)(b c:H)(d:S ak)(e:Nat)(f _:bG):Prop:=
 B (lR b) λg=>B (lR c) λh=>B (aA .geq g h) λg=>iM g b d e (λb d e=>iM g c d e (λd e h=>cV g (lR d) e h (λd e h=>cV g (kd b none (some d)) e h (λb d e=>iM g c d e (λc d e=>cV g (dj a d .eql 9 false b c) d e (λa b c=>cW (λa=>f a b c) λb=>aV g (b a) (b (.bool false))))))))
def agN:db X 200 [a0,bd] h j ah aw=Uz X a0 bd h j ah aw:=Zk
def agM:cS X 200 2=true:=Zk
def UA(a:aW)(b c d:H)(e:S ak)(f:Nat)(g h:bG):Prop:=
 B (dj a e .eql 9 true b (.str [])) λi=>aQ (λb c d=>aj (b 1) λe=>B (aA .eql e (.Z 0)) λe=>aj (b 0) λf=>aQ (λb c d=>aj (b 2) λe=>B (aA .eql e (.Z 0)) λe=>aQ (λb c d=>aj (b 1) λe=>aQ (λb c d=>aj (b 2) λe=>B (mn .u64 e) λe=>B (aA .shl (.int .u64 1) e) λe=>B (aA .sub e (.int .u64 1)) λe=>aj (b 0) λf=>gO (NI a c d f) c d λc d f=>B (d8 c) λi=>aQ (λb c d=>aj (b 12) λe=>lQ e (b 9) c d (λc d f=>j9 e (λb=>aR a 225 [c] d f b h) d f (λa c d=>cV e (fz .not a) c d (λa c d=>cW (λa=>aQ (λa b c=>aj (a 13) λa=>g (.tuple [a, .nilIface]) b c) λe=>aV a (B (some (H.iface 281 (.Z 2))) λa=>g (.tuple [(.int .u64 0),a]) c d) (e (ab b 169 a) c d)) λb=>aV e (b a) (b (.bool false)))))) λj=>fj (λb c d e=>aj (c 101) λf=>aj (c 100) λi=>B (aA .lss f i) λf=>aQ (λc d e=>aQ (λa c d=>aj (a 101) λe=>B (aA .add e (.Z 1)) λe=>b (ab a 101 e) c d) λb=>aj (c 99) λf=>aj (c 101) λi=>B (dC 1 f i) λf=>B (am a d f) λf=>aQ (λa c d=>aj (a 16) λe=>aj (a 1) λf=>B (mn .u8 f) λf=>B (aA .geq e f) λe=>aQ (λa c d=>aj (a 13) λe=>aj (a 10) λf=>B (aA .geq e f) λe=>aQ (λa c d=>aj (a 13) λe=>aj (a 1) λf=>B (mn .u64 f) λf=>B (aA .mul e f) λe=>aj (a 16) λf=>B (mn .u64 f) λf=>B (aA .add e f) λf=>B (aA .lss f e) λh=>g5 h f c d (λc d i=>sk h (a 11) d i (λd i j=>cU h (aA .gtr c d) i j (λc d i=>cW (λc=>aQ (λa c d=>aj (a 17) λe=>b (ab a 13 e) c d) λb=>aV c (aj (a 11) λa=>B (some (H.iface 281 (.Z 1))) λb=>g (.tuple [a,b]) d i) (b (ab (ab (ab a 13 e) 17 f) 159 c) d i)) λa=>aV h (a (.bool true)) (a c))))) λb=>aV e (aj (a 11) λa=>B (some (H.iface 281 (.Z 1))) λb=>g (.tuple [a,b]) c d) (b (ab a 141 e) c d)) λb=>aV e (B (some (H.iface 281 (.Z 2))) λa=>g (.tuple [(.int .u64 0),a]) c d) (b (ab a 137 e) c d)) λi=>B (aA .eql f (.int .u8 95)) λj=>lQ j (c 8) d e (λd e k=>cW (λd=>aQ i λi=>aV d (b (ab (ab (ab (ab c 15 f) 16 (.int .u8 0)) 106 d) 12 (.bool true)) e k) (B (aA .leq (.int .u8 48) f) λb=>iM b f e k (λe j k=>cV b (aA .leq e (.int .u8 57)) j k (λe j k=>cW (λb=>aQ i λe=>aV b (B (aA .sub f (.int .u8 48)) λa=>e (ab (ab (ab (ab (ab c 15 f) 16 (.int .u8 0)) 106 d) 112 b) 16 a) j k) (aR a 224 [f] j k (λi j k=>B (aA .leq (.int .u8 97) i) λi=>iM i f j k (λj k l=>j9 i (λb=>aR a 224 [j] k l b h) k l (λj k l=>cV i (aA .leq j (.int .u8 122)) k l (λj k l=>cW (λi=>aQ e λe=>aV i (aR a 224 [f] k l (λa g h=>B (aA .sub a (.int .u8 97)) λa=>B (aA .add a (.int .u8 10)) λa=>e (ab (ab (ab (ab (ab (ab c 15 f) 16 (.int .u8 0)) 106 d) 112 b) 121 i) 16 a) g h) h) (B (some (H.iface 281 (.Z 2))) λa=>g (.tuple [(.int .u64 0),a]) k l)) λa=>aV i (a j) (a (.bool false)))))) h)) λa=>aV b (a e) (a (.bool false)))))) λa=>aV j (a d) (a (.bool false)))) λa=>aV f (a (ab c 102 f) d e) (j (ab c 102 f) d e)) (ab (ab (ab (ab (ab (ab b 11 e) 12 (.bool false)) 13 (.int .u64 0)) 99 c) 100 i) 101 (.Z 0)) d f) λa=>B (aA .eql e (.Z 10)) λf=>aQ a λa=>aV f (a (ab (ab (ab (ab b 10 (.int .u64 0)) 85 e) 90 f) 10 (.int .u64 1844674407370955162)) c d) (B (aA .eql e (.Z 16)) λg=>aQ a λa=>aV g (a (ab (ab (ab (ab (ab b 10 (.int .u64 0)) 85 e) 90 f) 92 g) 10 (.int .u64 1152921504606846976)) c d) (aj (b 1) λh=>B (mn .u64 h) λh=>B (aA .quo (.int .u64 18446744073709551615) h) λh=>B (aA .add h (.int .u64 1)) λh=>a (ab (ab (ab (ab (ab b 10 (.int .u64 0)) 85 e) 90 f) 92 g) 10 h) c d))) λa=>aV e (a (ab (ab b 77 e) 2 (.Z 64)) c d) (aj (b 2) λf=>B (aA .lss f (.Z 0)) λf=>sk f (b 2) c d (λc d h=>cU f (aA .gtr c (.Z 64)) d h (λc d h=>cW (λc=>aQ a λa=>aV c (B (some (H.iface 281 (.Z 4))) λa=>g (.tuple [(.int .u64 0),a]) d h) (a (ab (ab b 77 e) 83 c) d h)) λa=>aV f (a (.bool true)) (a c))))) λi=>aj (b 1) λj=>B (aA .leq (.Z 2) j) λj=>lQ j (b 1) c d (λc d k=>cV j (aA .leq c (.Z 36)) d k (λc d k=>cW (λc=>aQ i λi=>aV c (i (ab (ab (ab b 8 e) 9 f) 25 c) d k) (aj (b 1) λj=>B (aA .eql j (.Z 0)) λj=>aQ i λi=>aV j (aj (b 0) λg=>B (lo g (.Z 0)) λg=>B (aA .eql g (.int .u8 48)) λg=>aQ i λi=>aV g (aQ i λi=>aj (b 0) λl=>B (lR l) λl=>B (aA .geq l (.Z 3)) λl=>lQ l (b 0) d k (λd k m=>cV l (lo d (.Z 1)) k m (λd k m=>j9 l (λb=>aR a 224 [d] k m b h) k m (λd k m=>cV l (aA .eql d (.int .u8 98)) k m (λd k m=>cW (λd=>aQ i λi=>aV d (aj (b 0) λa=>B (kd a (some (.Z 2)) none) λa=>i (ab (ab (ab (ab (ab (ab (ab (ab (ab b 8 e) 9 f) 25 c) 32 j) 1 (.Z 10)) 37 g) 40 d) 1 (.Z 2)) 0 a) k m) (aj (b 0) λl=>B (lR l) λl=>B (aA .geq l (.Z 3)) λl=>lQ l (b 0) k m (λk m n=>cV l (lo k (.Z 1)) m n (λk m n=>j9 l (λb=>aR a 224 [k] m n b h) m n (λk m n=>cV l (aA .eql k (.int .u8 111)) m n (λk m n=>cW (λk=>aQ i λi=>aV k (aj (b 0) λa=>B (kd a (some (.Z 2)) none) λa=>i (ab (ab (ab (ab (ab (ab (ab (ab (ab (ab b 8 e) 9 f) 25 c) 32 j) 1 (.Z 10)) 37 g) 40 d) 52 k) 1 (.Z 8)) 0 a) m n) (aj (b 0) λl=>B (lR l) λl=>B (aA .geq l (.Z 3)) λl=>lQ l (b 0) m n (λm n o=>cV l (lo m (.Z 1)) n o (λm n o=>j9 l (λb=>aR a 224 [m] n o b h) n o (λa h m=>cV l (aA .eql a (.int .u8 120)) h m (λa h m=>cW (λa=>aQ i λi=>aV a (aj (b 0) λl=>B (kd l (some (.Z 2)) none) λl=>i (ab (ab (ab (ab (ab (ab (ab (ab (ab (ab (ab b 8 e) 9 f) 25 c) 32 j) 1 (.Z 10)) 37 g) 40 d) 52 k) 64 a) 1 (.Z 16)) 0 l) h m) (aj (b 0) λl=>B (kd l (some (.Z 1)) none) λl=>i (ab (ab (ab (ab (ab (ab (ab (ab (ab (ab (ab b 8 e) 9 f) 25 c) 32 j) 1 (.Z 10)) 37 g) 40 d) 52 k) 64 a) 1 (.Z 8)) 0 l) h m)) λb=>aV l (b a) (b (.bool false)))))))) λa=>aV l (a k) (a (.bool false)))))))) λa=>aV l (a d) (a (.bool false))))))) (i (ab (ab (ab (ab (ab (ab b 8 e) 9 f) 25 c) 32 j) 1 (.Z 10)) 37 g) d k)) (B (some (H.iface 281 (.Z 3))) λa=>g (.tuple [(.int .u64 0),a]) d k))) λa=>aV j (a c) (a (.bool false))))) λa=>aV i (B (some (H.iface 281 (.Z 2))) λa=>g (.tuple [(.int .u64 0),a]) e f) (a (ab (ab (ab (cP [b,c,d]) 6 (.int .u64 0)) 7 .nilIface) 19 i) e f)
def agP:db X 201 [a0,bd,cg] h j ah aw=UA X a0 bd cg h j ah aw:=Zk
def agO:cS X 201 3=true:=Zk
def UB(a:aW)(b c d e f:H)(g:S ak)(h:Nat)(i j:bG):Prop:=
 aQ (λa b c=>aj (a 4) λa=>i a b c) λk=>B (some (H.iface 281 (.Z 2))) λl=>B (dj a g .eql 238 false f l) λl=>aQ k λk=>aV l (aR a 226 [b,c] g h (λa b c=>B (some (H.iface 283 a)) λa=>i a b c) j) (B (some (H.iface 281 (.Z 1))) λm=>B (dj a g .eql 238 false f m) λm=>aQ k λk=>aV m (aR a 227 [b,c] g h (λa b c=>B (some (H.iface 283 a)) λa=>i a b c) j) (B (some (H.iface 281 (.Z 3))) λn=>B (dj a g .eql 238 false f n) λn=>aQ k λk=>aV n (aR a 228 [b,c,d] g h (λa b c=>B (some (H.iface 283 a)) λa=>i a b c) j) (B (some (H.iface 281 (.Z 4))) λo=>B (dj a g .eql 238 false f o) λo=>aQ k λk=>aV o (aR a 229 [b,c,e] g h (λa b c=>B (some (H.iface 283 a)) λa=>i a b c) j) (k (ab (ab (ab (ab (ab (ab (cP [b,c,d,e,f]) 10 .nilIface) 11 f) 12 l) 19 m) 26 n) 34 o) g h))))
def agR:db X 202 [a0,bd,cg,a3,a4] h j ah aw=UB X a0 bd cg a3 a4 h j ah aw:=Zk
def agQ:cS X 202 5=true:=Zk
def UC(a:aW)(b:H)(c:S ak)(d:Nat)(e f:bG):Prop:=
 aR a 230 [b] c d (λc d g=>B (cN 0 c) λh=>B (cN 1 c) λc=>B (dj a d .neq 238 true c .nilIface) λi=>aQ (λa b c=>aj (a 4) λa=>e (.tuple [a, .nilIface]) b c) λj=>aV i (aR a 202 [(.str [65,116,111,105]),b,(.Z 0),(.Z 0),c] d g (λa b c=>e (.tuple [h,a]) b c) f) (j (ab (ab (ab (ab (ab (cP [b]) 2 (.Z 0)) 3 .nilIface) 4 h) 5 c) 12 i) d g)) f
def agT:db X 203 [a0] h j ah aw=UC X a0 h j ah aw:=Zk
def agS:cS X 203 1=true:=Zk
def UD(a:aW)(b:H)(c:S ak)(d:Nat)(e f:bG):Prop:=
 ia a c d b λc d g=>aQ (λb c d=>aj (b 1) λb=>B (aZ 2 b) λb=>B (am a c b) λb=>aR a 183 [b] c d (λb c d=>B (dj a c .add 9 true (.str [117]) b) λa=>e a c d) f) λh=>B (b6 a d 3 c) λi=>aR a 182 [i] d g (λd g i=>B (fz .not d) λd=>aQ h λh=>aV d (e (.str []) g i) (B (aZ 0 c) λj=>B (am a g j) λj=>aQ h λh=>aV j (e (.str [98,111,111,108]) g i) (B (aZ 1 c) λk=>B (am a g k) λk=>aQ h λh=>aV k (B (aZ 2 c) λb=>B (am a g b) λb=>aR a 183 [b] g i (λb c d=>B (dj a c .add 9 true (.str [105]) b) λa=>e a c d) f) (h (ab (ab (ab (ab (ab (cP [b]) 1 c) 2 (.str [])) 3 d) 7 j) 10 k) g i)))) f
def agV:db X 204 [a0] h j ah aw=UD X a0 h j ah aw:=Zk
def agU:cS X 204 1=true:=Zk
def UE(a:aW)(b c:H)(d:S ak)(e:Nat)(f g:bG):Prop:=
 ia a d e b λb d e=>B (b6 a d 3 b) λh=>aR a 182 [h] d e (λd e h=>iM d c e h (λc e h=>cV d (b6 a e 3 b) e h (λb e h=>j9 d (λc=>aR a 231 [b] e h c g) e h (λa b e=>cV d (aA .andNot c a) b e (λa b c=>cV d (aA .eql a (.int .u64 0)) b c (λa b c=>cW (λa=>f a b c) λb=>aV d (b a) (b (.bool false)))))))) g
def agX:db X 205 [a0,bd] h j ah aw=UE X a0 bd h j ah aw:=Zk
def agW:cS X 205 2=true:=Zk
def UR(a:aW)(b c:H)(d:S ak)(e:Nat)(f g:bG):Prop:=
 eZ (e+7) λh=>B (am a d (.ptr 6 0)) λi=>aR a 240 [c] d h (λc d g=>B (eA [(.str []),(.str []), .nilIface] [(0,1,b),(1,1,c),(2,1,i)]) λb=>xL a d (e+5) b λb c=>B (am a c (.ptr 6 0)) λa=>gI a (some i) (f b c g)) g
def ahp:db X 226 [a0,bd] h j ah aw=UR X a0 bd h j ah aw:=Zk
def aho:cS X 226 2=true:=Zk
def US(a:aW)(b c:H)(d:S ak)(e:Nat)(f g:bG):Prop:=
 eZ (e+7) λh=>B (am a d (.ptr 7 0)) λi=>aR a 240 [c] d h (λc d g=>B (eA [(.str []),(.str []), .nilIface] [(0,1,b),(1,1,c),(2,1,i)]) λb=>xL a d (e+5) b λb c=>B (am a c (.ptr 7 0)) λa=>gI a (some i) (f b c g)) g
def ahr:db X 227 [a0,bd] h j ah aw=US X a0 bd h j ah aw:=Zk
def ahq:cS X 227 2=true:=Zk
def UT(a:aW)(b:H)(c:S ak)(d:Nat)(e f:bG):Prop:=
 B (lR b) λg=>oS (λc d h=>oS (λc d h=>oS (λc d h=>iM c g d h (λd h i=>cV c (aA .lss d (.Z 10)) h i (λd h i=>oS (λc d h=>cW (λc=>g5 c (.bool true) d h (λd h i=>iM d g h i (λh i j=>cV d (aA .lss (.Z 0) h) i j (λh i j=>iM d h i j (λh i j=>iM h g i j (λi j k=>cV h (aA .lss i (.Z 19)) j k (λi j k=>j9 d (λa=>cW (λb=>a b j k) λa=>aV h (a i) (a (.bool false))) j k (λh i j=>km c (λa=>cW (λb=>a b i j) λa=>aV d (a h) (a (.bool false))) i j (λd h i=>cW (λc=>aQ (λb c d=>aj (b 0) λb=>aR a 242 [b,(.Z 10),(.Z 0)] c d (λa b c=>B (cN 0 a) λd=>B (cN 1 a) λa=>e (.tuple [d,a]) b c) f) λd=>aV c (B (lo b (.Z 0)) λd=>B (aA .eql d (.int .u8 45)) λd=>g5 d b h i (λf h i=>cU d (lo f (.Z 0)) h i (λf h i=>cU d (aA .eql f (.int .u8 43)) h i (λf h i=>cW (λd=>aQ (λb c d=>aj (b 0) λf=>gO (NI a c d f) c d λc d f=>B (d8 c) λg=>aQ (λa b c=>aj (a 5) λd=>B (lo d (.Z 0)) λd=>B (aA .eql d (.int .u8 45)) λd=>aQ (λa b c=>aj (a 6) λa=>e (.tuple [a, .nilIface]) b c) λe=>aV d (aj (a 6) λf=>B (fz .neg f) λf=>e (ab (ab a 66 d) 6 f) b c) (e (ab a 66 d) b c)) λh=>fj (λb c d f=>aj (c 49) λg=>aj (c 48) λi=>B (aA .lss g i) λg=>aQ (λc d f=>aQ (λa c d=>aj (a 49) λe=>B (aA .add e (.Z 1)) λe=>b (ab a 49 e) c d) λb=>aj (c 47) λg=>aj (c 49) λh=>B (dC 1 g h) λg=>B (am a d g) λa=>B (aA .sub a (.int .u8 48)) λg=>B (aA .gtr g (.int .u8 9)) λh=>aQ (λa c d=>aj (a 6) λe=>B (aA .mul e (.Z 10)) λe=>aj (a 8) λf=>B (mn .i64 f) λf=>B (aA .add e f) λe=>b (ab a 6 e) c d) λb=>aV h (B (some (H.iface 281 (.Z 2))) λa=>e (.tuple [(.Z 0),a]) d f) (b (ab (ab (ab c 8 a) 8 g) 56 h) d f)) λa=>aV g (a (ab c 50 g) d f) (h (ab c 50 g) d f)) (ab (ab (ab (ab b 6 (.Z 0)) 47 c) 48 g) 49 (.Z 0)) d f) λa=>aV d (B (kd b (some (.Z 1)) none) λf=>B (lR f) λj=>B (aA .lss j (.Z 1)) λj=>aQ a λa=>aV j (B (some (H.iface 281 (.Z 2))) λa=>e (.tuple [(.Z 0),a]) h i) (a (ab (ab (ab (ab (ab (ab (ab (ab (cP [b]) 2 (.Z 0)) 3 .nilIface) 4 g) 30 c) 5 b) 39 d) 0 f) 44 j) h i)) (a (ab (ab (ab (ab (ab (ab (cP [b]) 2 (.Z 0)) 3 .nilIface) 4 g) 30 c) 5 b) 39 d) h i)) λa=>aV d (a (.bool true)) (a f))))) (d (ab (ab (ab (ab (cP [b]) 2 (.Z 0)) 3 .nilIface) 4 g) 30 c) h i)) λa=>aV c (a (.bool true)) (a d)))))))))) λa=>aV (.bool false) (a c) (a (.bool false))) λa=>ix true (.bool false) (cW (λb=>a b h i) λa=>aV c (a d) (a (.bool false))) (a bg.undef h i)))) λa=>ix true (.bool false) (a c d h) (a bg.undef d h)) λa=>ix true (.bool false) (B (aA .lss (.Z 0) c) λb=>a b d h) (a bg.undef d h)) λa=>ix true (.bool false) (a g c d) (a bg.undef c d)
def aht:db X 230 [a0] h j ah aw=UT X a0 h j ah aw:=Zk
def ahs:cS X 230 1=true:=Zk
def UU(a:aW)(b:H)(c:S ak)(d:Nat)(e _:bG):Prop:=
 ia a c d b λb c d=>B (aZ 2 b) λb=>B (am a c b) λa=>B (aA .sub (.Z 64) a) λa=>B (aA .shr (.int .u64 18446744073709551615) a) λa=>e a c d
def ahv:db X 231 [a0] h j ah aw=UU X a0 h j ah aw:=Zk
def ahu:cS X 231 1=true:=Zk
def U0(a:aW)(b c d:H)(e:S ak)(f:Nat)(g h:bG):Prop:=
 B (dj a e .eql 9 true b (.str [])) λi=>aQ (λb c d=>aj (b 0) λe=>B (lo e (.Z 0)) λe=>aQ (λb c d=>aj (b 0) λe=>aj (b 1) λf=>aj (b 2) λi=>aR a 201 [e,f,i] c d (λc d e=>B (cN 0 c) λf=>B (cN 1 c) λc=>B (dj a d .neq 238 true c .nilIface) λh=>iM h c d e (λd e i=>cV h (some (H.iface 281 (.Z 1))) e i (λe i j=>cV h (dj a i .neq 238 false d e) i j (λa d e=>cW (λa=>aQ (λa b c=>aj (a 2) λd=>B (aA .eql d (.Z 0)) λd=>aQ (λa b c=>aj (a 2) λd=>B (aA .sub d (.Z 1)) λd=>B (mn .u64 d) λd=>B (aA .shl (.int .u64 1) d) λd=>aj (a 8) λe=>B (fz .not e) λe=>lQ e (a 9) b c (λb c f=>iM e d c f (λc f h=>cV e (aA .geq b c) f h (λb c f=>cW (λb=>aQ (λa b c=>aj (a 8) λd=>lQ d (a 9) b c (λb c e=>lQ d (a 10) c e (λc e f=>cV d (aA .gtr b c) e f (λb c e=>cW (λb=>aQ (λa b c=>aj (a 9) λd=>B (mn .i64 d) λd=>aj (a 8) λe=>aQ (λa b c=>aj (a 11) λa=>g (.tuple [a, .nilIface]) b c) λf=>aV e (B (fz .neg d) λg=>f (ab (ab (ab a 11 d) 69 e) 11 g) b c) (f (ab (ab a 11 d) 69 e) b c)) λd=>aV b (aj (a 10) λa=>B (mn .i64 a) λa=>B (fz .neg a) λa=>B (some (H.iface 281 (.Z 1))) λb=>g (.tuple [a,b]) c e) (d (ab a 62 b) c e)) λa=>aV d (a b) (a (.bool false)))))) λe=>aV b (B (aA .sub d (.int .u64 1)) λa=>B (mn .i64 a) λa=>B (some (H.iface 281 (.Z 1))) λb=>g (.tuple [a,b]) c f) (e (ab (ab a 10 d) 52 b) c f)) λa=>aV e (a b) (a (.bool false)))))) λe=>aV d (e (ab (ab a 41 d) 2 (.Z 64)) b c) (e (ab a 41 d) b c)) λh=>aV a (g (.tuple [(.Z 0),c]) d e) (h (ab (ab (ab (ab b 9 (.int .u64 0)) 9 f) 7 c) 38 a) d e)) λb=>aV h (b a) (b (.bool false)))))) h) λa=>B (aA .eql e (.int .u8 43)) λf=>aQ a λa=>aV f (aj (b 0) λg=>B (kd g (some (.Z 1)) none) λg=>a (ab (ab (ab (ab b 8 (.bool false)) 16 e) 17 f) 0 g) c d) (B (aA .eql e (.int .u8 45)) λg=>aQ a λa=>aV g (aj (b 0) λh=>B (kd h (some (.Z 1)) none) λh=>a (ab (ab (ab (ab (ab (ab b 8 (.bool false)) 16 e) 17 f) 21 g) 0 h) 8 (.bool true)) c d) (a (ab (ab (ab (ab b 8 (.bool false)) 16 e) 17 f) 21 g) c d))) λa=>aV i (B (some (H.iface 281 (.Z 2))) λa=>g (.tuple [(.Z 0),a]) e f) (a (ab (ab (ab (cP [b,c,d]) 6 (.Z 0)) 7 .nilIface) 13 i) e f)
def ahH:db X 242 [a0,bd,cg] h j ah aw=U0 X a0 bd cg h j ah aw:=Zk
def ahG:cS X 242 3=true:=Zk
def Un(a:aW)(b:H)(c:S ak)(d:Nat)(e f:bG):Prop:=
 aR a 209 [b] c d e f
def agp:db X 183 [a0] h j ah aw=Un X a0 h j ah aw:=Zk
def ago:cS X 183 1=true:=Zk
def UI(a:aW)(b:H)(c:S ak)(d:Nat)(e f:bG):Prop:=
 aR a 233 [b,(.Z 10)] c d e f
def ag5:db X 209 [a0] h j ah aw=UI X a0 h j ah aw:=Zk
def ag4:cS X 209 1=true:=Zk
def UW(a:aW)(b c:H)(d:S ak)(e:Nat)(f g:bG):Prop:=
 B (aA .eql c (.Z 10)) λh=>aQ (λb c d=>aj (b 0) λe=>B (mn .u64 e) λe=>aj (b 1) λh=>aj (b 0) λb=>B (aA .lss b (.Z 0)) λb=>aR a 247 [.aT,e,h,b,(.bool false)] c d (λa b c=>B (cN 0 a) λ_=>B (cN 1 a) λa=>f a b c) g) λi=>aV h (B (aA .leq (.Z 0) b) λi=>iM i b d e (λd e j=>cV i (aA .lss d (.Z 100)) e j (λd e j=>cW (λd=>aQ (λb c d=>B (dA [(.int .u8 0),(.int .u8 0),(.int .u8 0),(.int .u8 0),(.int .u8 0),(.int .u8 0),(.int .u8 0),(.int .u8 0),(.int .u8 0),(.int .u8 0),(.int .u8 0),(.int .u8 0),(.int .u8 0),(.int .u8 0),(.int .u8 0),(.int .u8 0),(.int .u8 0),(.int .u8 0),(.int .u8 0),(.int .u8 0),(.int .u8 0),(.int .u8 0),(.int .u8 0),(.int .u8 0)] d) λe=>cO a c d e.1 e.2 λc d e=>aj (b 0) λh=>B (mn .u64 h) λh=>aj (b 0) λi=>B (aA .lss i (.Z 0)) λi=>aQ (λb c d=>aj (b 6) λe=>aR a 245 [e] c d (λc d e=>B (aA .add (.Z 1) c) λh=>aj (b 5) λi=>B (SP 24 1 i (some (.Z 1)) (some h) none) λh=>aj (b 6) λi=>aR a 246 [h,i] d e (λ_ d e=>aj (b 0) λg=>B (aA .lss g (.Z 0)) λg=>aQ (λb c d=>aj (b 7) λe=>B (aA .add (.Z 1) e) λe=>aj (b 5) λb=>B (SP 24 1 b (some (.Z 1)) (some e) none) λb=>B (As a c b) λa=>f a c d) λh=>aV g (aj (b 5) λg=>B (FT 24 1 g (.Z 0)) λg=>B (b7 a d 1 g (.int .u8 45)) λd=>B (aA .add (.Z 1) c) λc=>aj (b 5) λb=>B (SP 24 1 b none (some c) none) λb=>B (As a d b) λa=>f a d e) (h (ab (ab b 7 c) 34 g) d e)) g) g) λa=>aV i (B (fz .neg h) λf=>a (ab (ab (ab (ab b 5 c) 6 h) 23 i) 6 f) d e) (a (ab (ab (ab b 5 c) 6 h) 23 i) d e)) λi=>aV d (aR a 244 [b] e j f g) (i (ab (ab (ab (cP [b,c]) 4 (.str [])) 11 h) 17 d) e j)) λa=>aV i (a d) (a (.bool false))))) (i (ab (ab (cP [b,c]) 4 (.str [])) 11 h) d e)
def ahz:db X 233 [a0,bd] h j ah aw=UW X a0 bd h j ah aw:=Zk
def ahy:cS X 233 2=true:=Zk
end
end Go.Proofs.YtpfajohmofnkfaaGreatDoor

namespace Go.Proofs.YtpfajohmofnkfaaGreatDoor
open Go.bg
noncomputable section
variable (X : ck) (h : S ak) (j : Nat) (ah aw : bG) (a0 bd cg a3 a4 a5 hz h0 hA : H)
def UQ(_:aW)(a:H)(b:S ak)(c:Nat)(d _:bG):Prop:=
 B (aA .or a (.int .u8 32)) λa=>d a b c
def ahn:db X 224 [a0] h j ah aw=UQ X a0 h j ah aw:=Zk
def ahm:cS X 224 1=true:=Zk
def U2(_:aW)(a:H)(b:S ak)(c:Nat)(d _:bG):Prop:=
 B (aA .lss a (.Z 10)) λe=>aQ (λa b c=>aj (a 0) λe=>B (aA .mul e (.Z 2)) λe=>aj (a 0) λa=>B (aA .mul a (.Z 2)) λa=>B (aA .add a (.Z 2)) λa=>B (kd (.str [48,48,48,49,48,50,48,51,48,52,48,53,48,54,48,55,48,56,48,57,49,48,49,49,49,50,49,51,49,52,49,53,49,54,49,55,49,56,49,57,50,48,50,49,50,50,50,51,50,52,50,53,50,54,50,55,50,56,50,57,51,48,51,49,51,50,51,51,51,52,51,53,51,54,51,55,51,56,51,57,52,48,52,49,52,50,52,51,52,52,52,53,52,54,52,55,52,56,52,57,53,48,53,49,53,50,53,51,53,52,53,53,53,54,53,55,53,56,53,57,54,48,54,49,54,50,54,51,54,52,54,53,54,54,54,55,54,56,54,57,55,48,55,49,55,50,55,51,55,52,55,53,55,54,55,55,55,56,55,57,56,48,56,49,56,50,56,51,56,52,56,53,56,54,56,55,56,56,56,57,57,48,57,49,57,50,57,51,57,52,57,53,57,54,57,55,57,56,57,57]) (some e) (some a)) λa=>d a b c) λf=>aV e (B (aA .add a (.Z 1)) λe=>B (kd (.str [48,49,50,51,52,53,54,55,56,57,97,98,99,100,101,102,103,104,105,106,107,108,109,110,111,112,113,114,115,116,117,118,119,120,121,122]) (some a) (some e)) λa=>d a b c) (f (ab (ab (cP [a]) 2 (.str [])) 4 e) b c)
def ahL:db X 244 [a0] h j ah aw=U2 X a0 h j ah aw:=Zk
def ahK:cS X 244 1=true:=Zk
end
end Go.Proofs.YtpfajohmofnkfaaGreatDoor

namespace Go.Proofs.YtpfajohmofnkfaaGreatDoor
open Go.bg Go.a2
noncomputable section
def iz(c:Nat):Bool:=decide (48<=c)&&decide (c<=57)
def qk(c:Nat):Bool:=decide (97<=c)&&decide (c<=122)||decide (65<=c)&&decide (c<=90)||decide (c=95)
def iL(c:Nat):Bool:=qk c||iz c
def Bg{s:bx}{i c:Nat}(D:IntKind)(a:s[i]? =some c):lo (.str s) (.int D (i:Int))=some (.int .u8 (c:Int)):=by
 simp[lo,rk,a]
def SQ{s:bx}{l a:Nat}(D e1:IntKind)(R:l<=a)(U:a<=s.length):kd (.str s) (some (.int D (l:Int))) (some (.int e1 (a:Int)))=some (.str ((s.drop l).take (a-l))):=by
 simp[kd,lY,oV,rk,fo,R,U]
def NK{s:bx}{l:Nat}(D:IntKind)(R:l<=s.length):kd (.str s) (some (.int D (l:Int))) none=some (.str (s.drop l)):=by
 simp[kd,lY,oV,rk,fo,R,Zy]
def auW{s:bx}{a:Nat}(D:IntKind)(R:a<=s.length):kd (.str s) none (some (.int D (a:Int)))=some (.str (s.take a)):=by
 simp[kd,lY,oV,rk,fo,R]
section
variable{X:ck}{h T aX aJ:S ak}{j ao aL a6:Nat}
def Pb(ax:dv X)(c:Nat):aR X 112 [.int .u8 (c:Int)] h j (λad T ao=>ad= .bool (iz c)/\T=h/\ao=j) (λ_ _ _=>False):=by
 refine c4 (aeX X) (ax.none _ _ rfl) ?_
 rw[aeY]
 unfold TA
 by_cases a:48<=c
 ·have d:decide ((48:Int)<=(c:Int))=true:=by simp;omega
  have cJ:decide ((c:Int)<=57)=decide (c<=57):=by simp;omega
  refine cM @d @cJ ⟨?_⟩
  exact⟨by simp[iz,a],rfl,rfl⟩
 ·have d:decide ((48:Int)<=(c:Int))=false:=by simp;omega
  refine ci @d ⟨?_⟩
  exact⟨by simp[iz,a],rfl,rfl⟩
def V2(ax:dv X)(c:Nat):aR X 114 [.int .u8 (c:Int)] h j (λad T ao=>ad= .bool (qk c)/\T=h/\ao=j) (λ_ _ _=>False):=by
 refine c4 (ae1 X) (ax.none _ _ rfl) ?_
 rw[ae2]
 unfold TC
 have cT:decide ((97:Int)<=(c:Int))=decide (97<=c):=by simp;omega
 have cJ:decide ((c:Int)<=122)=decide (c<=122):=by simp;omega
 have eT:decide ((65:Int)<=(c:Int))=decide (65<=c):=by simp;omega
 have iu:decide ((c:Int)<=90)=decide (c<=90):=by simp;omega
 have f6:decide ((c:Int)=95)=decide (c=95):=by simp;omega
 by_cases R:97<=c<;>by_cases U:c<=122<;>by_cases ar:65<=c<;>by_cases aO:c<=90<;>try omega
 all_goals
  simp only[R,U,ar,aO,Yo,Z8]at cT cJ eT iu
  refine f7 @cT @cJ @eT @iu @f6 ⟨?_⟩
  exact⟨by simp[qk,R,U,ar,aO],rfl,rfl⟩
def ase(ax:dv X)(c:Nat):aR X 168 [.int .u8 (c:Int)] h j (λad T ao=>ad= .bool (iL c)/\T=h/\ao=j) (λ_ _ _=>False):=by
 refine c4 (af1 X) (ax.none _ _ rfl) ?_
 rw[af2]
 unfold T7
 refine(V2 ax c).Zm ?_
 rintro ad T ao ⟨rfl,rfl,rfl⟩
 cases ai:qk c with
 |true=>
  refine cH ⟨?_⟩
  exact⟨by simp[iL,ai],rfl,rfl⟩
 |false=>
  refine cH ⟨?_⟩
  refine(Pb ax c).Zm ?_
  rintro ad T ao ⟨rfl,rfl,rfl⟩
  refine cH ⟨?_⟩
  exact⟨by simp[iL,ai],rfl,rfl⟩
def asy(ax:dv X)(c:Nat):aR X 166 [.int .u8 (c:Int)] h j (λad T ao=>ad= .bool (decide (c≠10))/\T=h/\ao=j) (λ_ _ _=>False):=by
 refine c4 (afX X) (ax.none _ _ rfl) ?_
 rw[afY]
 unfold T5
 refine cH ⟨?_⟩
 exact⟨by congr 1;simp;omega,rfl,rfl⟩
def qq(c:Nat):Nat:=(BitVec.ofInt 8 (c:Int)|||BitVec.ofInt 8 32).toNat%256
def R8(ax:dv X)(c:Nat):aR X 224 [.int .u8 (c:Int)] h j (λad T ao=>ad= .int .u8 (qq c:Int)/\T=h/\ao=j) (λ_ _ _=>False):=by
 refine c4 (ahm X) (ax.none _ _ rfl) ?_
 rw[ahn]
 unfold UQ
 have F:aA .or (.int .u8 (c:Int)) (.int .u8 32)=some (.int .u8 (pe .u8 ((BitVec.ofInt 8 (c:Int)|||BitVec.ofInt 8 32).toNat))):=by
  simp[aA,lP,l8,ly,k1];rfl
 refine ci @F ⟨?_⟩
 exact⟨rfl,rfl,rfl⟩
def adl(ax:dv X)(s p:bx):aR X 164 [.str s, .str p] h j (λad T ao=>ad= .bool (decide (p.length<=s.length/\s.take p.length=p))/\T=h/\ao=j) (λ_ _ _=>False):=by
 refine c4 (afT X) (ax.none _ _ rfl) ?_
 rw[afU]
 unfold T3
 refine c4 (agM X) (ax.none _ _ rfl) ?_
 rw[agN]
 unfold Uz
 by_cases a:p.length<=s.length
 ·have d:decide ((p.length:Int)<=(s.length:Int))=true:=by simp;omega
  have F:=auW (s:=s) .i64 a
  refine cM @d @F ⟨?_⟩
  exact⟨by congr 1;simp[a],rfl,rfl⟩
 ·have d:decide ((p.length:Int)<=(s.length:Int))=false:=by simp;omega
  refine ci @d ⟨?_⟩
  exact⟨by congr 1;simp;omega,rfl,rfl⟩
end
def Kw(X:ck)(f:H)(p:Nat->Bool):Prop:=∃D,f= .func (.func D) [] []/\∀(h:S ak) (j c:Nat),aR X D [.int .u8 (c:Int)] h j (λad T ao=>ad= .bool (p c)/\T=h/\ao=j) (λ_ _ _=>False)
def aui{X:ck}(ax:dv X):Kw X (.func (.func 112) [] []) iz:=⟨_,rfl,λh j c=>Pb ax c⟩
def adG{X:ck}(ax:dv X):Kw X (.func (.func 168) [] []) iL:=⟨_,rfl,λh j c=>ase ax c⟩
def auj{X:ck}(ax:dv X):Kw X (.func (.func 166) [] []) (λc=>decide (c≠10)):=⟨_,rfl,λh j c=>asy ax c⟩
structure mP(X:ck)(h:S ak)(f9:Nat)(s:bx)(i:Nat):Prop where
 g:aa X h f9=some (.cells (S.ofList [.str s, .Z (i:Int)] 0 .nil) 2 .own)
 le:i<=s.length
 many:s.length<=65536
 fM:(q X).a7<=f9
def mP.d7{X:ck}{h:S ak}{f9:Nat}{s:bx}{i:Nat}(a:mP X h f9 s i):am X h (.ptr f9 0)=some (.str s):=by rw[bJ a.g];rfl
def mP.dk{X:ck}{h:S ak}{f9:Nat}{s:bx}{i:Nat}(a:mP X h f9 s i):am X h (.ptr f9 1)=some (.Z (i:Int)):=by rw[bJ a.g];rfl
def mP.ac{X:ck}{h T:S ak}{f9:Nat}{s:bx}{i:Nat}(a:mP X h f9 s i)(D:aa X T f9=aa X h f9):mP X T f9 s i:=⟨by rw[D];exact a.g,a.le,a.many,a.fM⟩
section
variable{X:ck}{h T aX aJ:S ak}{j ao aL a6 f9:Nat}{s:bx}{i:Nat}
def NF(ax:dv X){f:H}{p:Nat->Bool}(ce:Kw X f p)(Z:mP X h f9 s i){J:Nat}(aC:J<=s.length):
 aR X 165 [.ptr f9 0, .Z (J:Int),f] h j (λad T ao=>ad= .str ((s.drop J).takeWhile p)/\T=h/\ao=j) (λ_ _ _=>False):=by
 refine c4 (afV X) (ax.none _ _ rfl) ?_
 rw[afW]
 unfold T4
 obtain⟨D,rfl,ce⟩:=ce
 have bp:=Z.many
 have d7:=Z.d7
 refine cH ⟨?_⟩
 refine fD (λm K T aS=>∃(F:Nat),K.g 0=some (.ptr f9 0)/\K.g 1=some (.Z (J:Int))/\K.g 2=some (.func (.func D) [] [])/\K.g 7=some (.Z (F:Int))/\J<=F/\F+m=s.length/\T=h/\aS=j/\(s.drop J).takeWhile p=(s.drop J).take (F-J)++(s.drop F).takeWhile p)
  (s.length-J) ⟨J,bn,bn,bn,bn,Zi _,Zo,rfl,rfl,Zs⟩ ?_
 rintro m K aJ a6 ⟨F,t0,t1,d3,gu,anF,axf,rfl,rfl,bP⟩
 have bB:aA .add (.Z (F:Int)) (.Z 1)=some (.Z ((F+1:Nat):Int)):=by rw[eI Zo Zo];rfl
 have a8:kd (.str s) (some (.Z (J:Int))) (some (.Z (F:Int)))=some (.str ((s.drop J).take (F-J))):=SQ .i64 .i64 anF Zo
 cases m with
 |zero=>
  have d:decide ((F:Int)<(s.length:Int))=false:=by simp;omega
  rw[ZE (by omega:s.length<=F),List.takeWhile_nil,Yq]at bP
  refine ev @gu @t0 @t1 @d3 @d7 @d @a8 ⟨?_⟩
  exact⟨by rw[bP],rfl,rfl⟩
 |succ m=>
  have d:decide ((F:Int)<(s.length:Int))=true:=by simp;omega
  obtain⟨c,az⟩:∃c,s[F]? =some c:=⟨_,Ze Zo⟩
  have aH:s.drop F=c::s.drop (F+1):=by
   obtain⟨ag,I⟩:=Zc.1 az
   rw[Zr ag,I]
  have d2:=Bg .i64 az
  refine ev @gu @t0 @t1 @d3 @d7 @d @d2 ⟨?_⟩
  refine(ce aJ a6 c).Zm ?_
  rintro ad aY ba ⟨rfl,rfl,rfl⟩
  rw[aH,Yz]at bP
  cases ay:p c with
  |false=>
   rw[ay]at bP
   simp only[Zv,ZB,Yq]at bP
   refine f7 @gu @t0 @t1 @d7 @a8 ⟨?_⟩
   exact⟨by rw[bP],rfl,rfl⟩
  |true=>
   rw[ay]at bP
   simp only[ZD]at bP
   refine cM @gu @bB ⟨?_⟩
   refine⟨m,Zo,F+1,a1 t0,a1 t1,a1 d3,bn,Zo,Zo,rfl,rfl, ?_⟩
   rw[bP,show F+1-J=(F-J)+1 by omega,ZY]
   have:(s.drop J)[F-J]? =some c:=by rw[YB,show J+(F-J)=F by omega];exact az
   rw[this]
   simp
end
def Jb(c:Nat):Bool:=decide (c=32)||decide (c=9)||decide (c=10)||decide (c=13)
structure is(X:ck):Prop extends dv X where
 idx:∀c:Nat,c<256->∃br:Int,X.O 223 [.str [32,9,10,13], .int .u8 (c:Int)]=some (.Z br)/\(0<=br↔Jb c=true)
 clone:∀s:bx,(∀c∈s,c<256)->s.length<=65536->X.O 240 [.str s]=some (.str s)
def nK(s:bx):Nat->Nat->Nat
 |0,i=>i
 |n+1,i=>match s[i]? with
  |none=>i
  |some c=>if Jb c then nK s n (i+1)
   else if 2<=(s.drop i).length/\(s.drop i).take 2=[45,45]then nK s n (i+((s.drop i).takeWhile λc=>decide (c≠10)).length)else i
def D4{α:Type}(p:α->Bool):∀l:List α,(l.takeWhile p).length<=l.length:=by
 intro l
 induction l with
 |nil=>simp
 |cons J l al=>rw[Yz];split<;>simp<;>omega
section
variable{X:ck}{h T aX aJ:S ak}{j ao aL a6 f9:Nat}{s:bx}{i:Nat}
def aqv(ax:is X){c:Nat}(az:c<256):aR X 163 [.str [32,9,10,13], .int .u8 (c:Int)] h j (λad T ao=>(∃br:Int,ad= .Z br/\(0<=br↔Jb c=true))/\T=h/\ao=j) (λ_ _ _=>False):=by
 refine c4 (afR X) (ax.none _ _ rfl) ?_
 rw[afS]
 unfold T2
 refine c4 (agK X) (ax.none _ _ rfl) ?_
 rw[agL]
 unfold Ux
 obtain⟨br,R,U⟩:=ax.idx c az
 exact Cd R ⟨⟨br,rfl,U⟩,rfl,rfl⟩
def V5(ax:is X)(Z:mP X h f9 s i)(ai:∀c∈s,c<256)(aK:(q X).a7<=j)(IV:f9<j):
 aR X 110 [.ptr f9 0] h j (λad T ao=>mP X T f9 s (nK s s.length i)/\b4 X [f9] h j T ao) (λ_ _ _=>False):=by
 refine c4 (aeT X) (ax.none _ _ rfl) ?_
 rw[aeU]
 unfold Ty
 have bp:=Z.many
 have hT:=Z.fM
 refine cH ⟨?_⟩
 refine fD (λm K T aS=>∃(Y:Nat),K.g 0=some (.ptr f9 0)/\mP X T f9 s Y/\s.length<=Y+m/\nK s s.length i=nK s m Y/\b4 X [f9] h j T aS)
  s.length ⟨i,bn,Z,Zo,rfl,b4.refl _ _ _⟩ ?_
 rintro m K aJ a6 ⟨Y,t0,g4,axm,bH,dc⟩
 have f2:=dc.le
 have d7:=g4.d7
 have dk:=g4.dk
 have uF:=g4.le
 have b2:=g4.g
 by_cases CQ:Y=s.length
 ·subst CQ
  have ct:nK s m s.length=s.length:=by cases m<;>simp[nK]
  have d:decide ((s.length:Int)<(s.length:Int))=false:=by simp
  refine gp @t0 @d7 @dk @d ⟨?_⟩
  exact⟨by rw[bH,ct];exact g4,dc.trans ⟨Zo,λ_ _ _=>rfl⟩⟩
 have d:decide ((Y:Int)<(s.length:Int))=true:=by simp;omega
 obtain⟨c,az⟩:∃c,s[Y]? =some c:=⟨_,Ze Zo⟩
 obtain⟨m,rfl⟩:∃gj,m=gj+1:=⟨m-1,Zo⟩
 rw[nK,az]at bH
 simp only[]at bH
 have d2:=Bg .i64 az
 have LU:=ai c (Zj az)
 refine f7 @t0 @d7 @dk @d @d2 ⟨?_⟩
 refine(aqv ax LU).Zm ?_
 rintro ad aY ba ⟨⟨br,rfl,ct⟩,rfl,rfl⟩
 cases e9:Jb c with
 |true=>
  have ln:=ct.2 e9
  have cJ:decide ((0:Int)<=br)=true:=by simp;omega
  have bB:aA .add (.Z (Y:Int)) (.Z 1)=some (.Z ((Y+1:Nat):Int)):=by rw[eI Zo Zo];rfl
  rw[e9]at bH
  simp only[ZD]at bH
  refine gp @t0 @dk @cJ @bB ⟨?_⟩
  refine⟨m,Zo,Y+1,a1 t0,⟨by rw[bh Zo];rfl,Zo,bp,hT⟩,Zo,bH,dc.trans ⟨Zo,λb ai bQ=>by simp only[Zt,ZH,YI,Yr,ZG,Ye]at bQ;simp(disch:=omega) only[aE]⟩⟩
 |false=>
  have cJ:decide ((0:Int)<=br)=false:=by simp;have:=mt ct.1 (by rw[e9];decide);omega
  have bB:kd (.str s) (some (.Z (Y:Int))) none=some (.str (s.drop Y)):=NK .i64 uF
  rw[e9]at bH
  simp only[Zv,ZB]at bH
  refine f7 @t0 @d7 @dk @cJ @bB ⟨?_⟩
  refine(adl ax.todv (s.drop Y) [45,45]).Zm ?_
  rintro ad bw c7 ⟨rfl,rfl,rfl⟩
  by_cases ay:2<=(s.drop Y).length/\(s.drop Y).take 2=[45,45]
  ·rw[Zq ay]at bH
   have eT:decide ([45,45].length<=(s.drop Y).length/\List.take [45,45].length (s.drop Y)=[45,45])=true:=decide_eq_true ay
   have aB:=D4 (λc=>decide (c≠10)) (s.drop Y)
   rw[Yw]at aB
   generalize bP:((s.drop Y).takeWhile λc=>decide (c≠10)).length=w at bH aB
   have my:1<=w:=by
    have amZ:c=45:=by
     have:=ay.2
     have aH:s.drop Y=c::s.drop (Y+1):=by
      obtain⟨ag,I⟩:=Zc.1 az
      rw[Zr ag,I]
     rw[aH]at this
     simp at this
     exact this.1
    have aH:s.drop Y=c::s.drop (Y+1):=by
     obtain⟨ag,I⟩:=Zc.1 az
     rw[Zr ag,I]
    rw[aH,amZ,Yz]at bP
    simp at bP
    omega
   have cF:aA .add (.Z (Y:Int)) (.Z (w:Int))=some (.Z ((Y+w:Nat):Int)):=by rw[eI Zo Zo];rfl
   simp only[eT]
   refine eu @t0 @d7 @dk ⟨?_⟩
   refine(NF ax.todv (auj ax.todv) g4 uF).Zm ?_
   rintro ad bL cb ⟨rfl,rfl,rfl⟩
   have fp:lR (.str ((s.drop Y).takeWhile λc=>decide (c≠10)))=some (.Z (w:Int)):=by rw[sp,bP]
   refine eu @fp @cF @dk ⟨?_⟩
   refine gQ (by simp[H.same]) ?_
   refine cH ⟨?_⟩
   refine⟨m,Zo,Y+w,a1 t0,⟨by rw[bh Zo];rfl,Zo,bp,hT⟩,Zo,bH,dc.trans ⟨Zo,λb ai bQ=>by simp only[Zt,ZH,YI,Yr,ZG,Ye]at bQ;simp(disch:=omega) only[aE]⟩⟩
  ·rw[Zh ay]at bH
   have eT:decide ([45,45].length<=(s.drop Y).length/\List.take [45,45].length (s.drop Y)=[45,45])=false:=decide_eq_false ay
   simp only[eT]
   refine cH ⟨?_⟩
   exact⟨by rw[bH];exact g4,dc.trans ⟨Zo,λ_ _ _=>rfl⟩⟩
end
def sz:bx->Nat->Nat×Nat
 |[],n=>(n,0)
 |c::l,n=>if iz c then(if 1844674407370955162<=n then(18446744073709551615,1)else if 18446744073709551616<=n*10+(c-48)then(18446744073709551615,1)else sz l (n*10+(c-48)))
  else(0,2)
def kp(s:bx):Nat×Nat:=if s=[]then(0,2)else sz s 0
def ww:Nat->H
 |0=> .nilIface
 |n+1=> .iface 281 (.Z ((n+1:Nat):Int))
def We{C:aW}{h:S ak}{j:Nat}{s:bx}{ah:bG}(a:s.length<=1048576)(D:ah (.fu j 0 s.length 1) (bm C h j (some (.cells (S.ofList (s.map λn:Nat=>H.int .u8 (n:Int)) 0 .nil) s.length (.grow [])))) (j+1)):gO (NI C h j (.str s)) h j ah:=by
 refine kG (v:= .fu j 0 s.length 1) (T:=bm C h j (some (.cells (S.ofList (s.map λn:Nat=>H.int .u8 (n:Int)) 0 .nil) s.length (.grow [])))) (ao:=j+1) ?_ D
 simp[NI,s7,lg a,m2]
def aew{x:Int}(R:0<=x)(U:x<18446744073709551616):pe .u64 x=x:=by
 simp only[pe];exact YJ R U
def aqo{x e:Nat}(a:x+e<18446744073709551616):aA .add (.int .u64 (x:Int)) (.int .u64 (e:Int))=some (.int .u64 ((x+e:Nat):Int)):=by
 rw[abB];congr 2;rw[YJ Zo Zo];rfl
def aqp{x e:Nat}(a:x*e<18446744073709551616):aA .mul (.int .u64 (x:Int)) (.int .u64 (e:Int))=some (.int .u64 ((x*e:Nat):Int)):=by
 have:(x:Int)*(e:Int)=((x*e:Nat):Int):=by simp
 simp only[aA,lP,l8,ly,jK,e2,k1,this]
 rw[aew Zo Zo,EW]
def abD{x e:Nat}(a:e<=x)(U:x<256):aA .sub (.int .u8 (x:Int)) (.int .u8 (e:Int))=some (.int .u8 ((x-e:Nat):Int)):=by
 have:(x:Int) -(e:Int)=((x-e:Nat):Int):=Zo
 have w:pe .u8 ((x-e:Nat):Int)=((x-e:Nat):Int):=by simp only[pe];exact YJ Zo Zo
 simp only[aA,lP,l8,ly,jK,e2,k1,this,w,EW]
def aqn{x e:Nat}(U:x+e<256):aA .add (.int .u8 (x:Int)) (.int .u8 (e:Int))=some (.int .u8 ((x+e:Nat):Int)):=by
 have:(x:Int)+(e:Int)=((x+e:Nat):Int):=Zo
 have w:pe .u8 ((x+e:Nat):Int)=((x+e:Nat):Int):=by simp only[pe];exact YJ Zo Zo
 simp only[aA,lP,l8,ly,jK,e2,k1,this,w,EW]
section
variable{X:ck}{h T aX aJ:S ak}{j ao aL a6 f9:Nat}{s:bx}{i:Nat}
def aeh(ax:is X)(aI:s.length<=65536)(ai:∀c∈s,c<256)(aK:(q X).a7<=j){b:Int}(anJ:b=0\/b=64):
 aR X 201 [.str s, .Z 10, .Z b] h j (λad T ao=>ad= .tuple [.int .u64 ((kp s).1:Int),ww (kp s).2]/\bj X h j T ao) (λ_ _ _=>False):=by
 refine c4 (agO X) (ax.none _ _ rfl) ?_
 rw[agP]
 unfold UA
 by_cases cj:s=[]
 ·subst cj
  have d:decide (([]:List Nat)=[])=true:=rfl
  refine ci @d ⟨?_⟩
  exact⟨rfl,dM⟩
 have d:decide (s=[])=false:=by simp[cj]
 have aD:decide ((2:Int)<=10)=true:=rfl
 have Hx:decide ((10:Int)<=36)=true:=rfl
 have aki:decide ((10:Int)=10)=true:=rfl
 have ed:aA .shl (.int .u64 1) (.int .u64 64)=some (.int .u64 0):=by rfl
 have JY:aA .sub (.int .u64 0) (.int .u64 1)=some (.int .u64 18446744073709551615):=by rfl
 have Wr:mn .u64 (.Z 64)=some (.int .u64 64):=by rfl
 have akf:(64:Int)%18446744073709551616=64:=rfl
 have Ws:(10:Int)%18446744073709551616=10:=rfl
 have nN:decide ((10:Int)=0)=false:=rfl
 have apl:kp s=sz s 0:=by simp[kp,cj]
 rw[apl]
 rcases anJ with rfl|rfl
 all_goals
  have cT:decide ((0:Int)=0)=true:=rfl
  have cJ:decide ((64:Int)=0)=false:=rfl
  have eT:decide ((64:Int)<0)=false:=rfl
  have iu:decide ((64:Int)<64)=false:=rfl
  refine ev @d @aD @Hx @aki @nN @cT (Za @cJ (Za @eT (Za @iu (Za @ed (Za @JY (Za @Wr @akf)))))) ⟨?_⟩
  refine We Zo ?_
  have PH:aa X (bm X h j (some (.cells (S.ofList (s.map λn:Nat=>H.int .u8 (n:Int)) 0 .nil) s.length (.grow [])))) j=some (.cells (S.ofList (s.map λn:Nat=>H.int .u8 (n:Int)) 0 .nil) s.length (.grow [])):=bh aK
  have P2:bj X h j (bm X h j (some (.cells (S.ofList (s.map λn:Nat=>H.int .u8 (n:Int)) 0 .nil) s.length (.grow [])))) (j+1):=dM
  generalize bm X h j (some (.cells (S.ofList (s.map λn:Nat=>H.int .u8 (n:Int)) 0 .nil) s.length (.grow [])))=tU at*
  refine cH ⟨?_⟩
  refine fD (λm K T aS=>∃(Y n:Nat),K.g 99=some (.fu j 0 s.length 1)/\K.g 100=some (.Z (s.length:Int))/\K.g 101=some (.Z (Y:Int))/\K.g 13=some (.int .u64 (n:Int))/\K.g 10=some (.int .u64 1844674407370955162)/\K.g 11=some (.int .u64 18446744073709551615)/\K.g 12=some (.bool false)/\K.g 8=some (.bool false)/\K.g 1=some (.Z 10)/\Y+m=s.length/\n<18446744073709551616/\T=tU/\j+1<=aS/\sz s 0=sz (s.drop Y) n)
   s.length ⟨0,0,bn,bn,fN,fN,bn,bn,bn,bn,bn,Zo,Zo,rfl,Zo,rfl⟩ ?_
  rintro m K aJ a6 ⟨Y,n,J5,GN,J3,i2,jo,jp,ke,gZ,t1,bH,axQ,rfl,kZ,ay⟩
  have bE:bj X h j aJ a6:=⟨Zo,P2.ac⟩
  cases m with
  |zero=>
   have f6:decide ((Y:Int)<(s.length:Int))=false:=by simp;omega
   rw[ZE (by omega:s.length<=Y),sz]at ay
   rw[ay]
   refine f7 @J3 @GN @ke @i2 @f6 ⟨?_⟩
   exact⟨rfl,bE⟩
  |succ m=>
   have f6:decide ((Y:Int)<(s.length:Int))=true:=by simp;omega
   have bB:aA .add (.Z (Y:Int)) (.Z 1)=some (.Z ((Y+1:Nat):Int)):=by rw[eI Zo Zo];rfl
   obtain⟨c,az⟩:∃c,s[Y]? =some c:=⟨_,Ze Zo⟩
   have aH:s.drop Y=c::s.drop (Y+1):=by
    obtain⟨ag,I⟩:=Zc.1 az
    rw[Zr ag,I]
   have LU:=ai c (Zj az)
   have d2:dC 1 (.fu j 0 s.length 1) (.Z (Y:Int))=some (.ptr j Y):=by rw[FV _ Zo];simp
   have uJ:am X aJ (.ptr j Y)=some (.int .u8 (c:Int)):=by rw[bJ PH,kC];simp[az]
   rw[aH,sz]at ay
   rw[ay]
   have ayu:decide ((c:Int)=95)=decide (c=95):=by simp;omega
   have MV:mn .u8 (.Z 10)=some (.int .u8 10):=rfl
   by_cases px:iz c=true
   ·have Qs:48<=c/\c<=57:=by simpa[iz]using px
    rw[Zq px]
    have sl:decide ((c:Int)=95)=false:=by simp;omega
    have bZ:decide ((48:Int)<=(c:Int))=true:=by simp;omega
    have cw:decide ((c:Int)<=57)=true:=by simp;omega
    have c0:aA .sub (.int .u8 (c:Int)) (.int .u8 48)=some (.int .u8 ((c-48:Nat):Int)):=abD (e:=48) Zo LU
    have ep:decide ((10:Int)<=((c-48:Nat):Int))=false:=by simp;omega
    by_cases LW:1844674407370955162<=n
    ·rw[Zq LW]
     have dG:decide ((1844674407370955162:Int)<=(n:Int))=true:=by simp;omega
     refine ev @J3 @GN @J5 @gZ @t1 @f6 (Za @d2 (Za @uJ (Za @sl (Za @bZ (Za @cw (Za @c0 (Za @ep (Za @MV (Za @i2 (Za @jo (Za @dG @jp))))))))))) ⟨?_⟩
     exact⟨rfl,bE⟩
    ·rw[Zh LW]
     have dG:decide ((1844674407370955162:Int)<=(n:Int))=false:=by simp;omega
     have dQ:aA .mul (.int .u64 (n:Int)) (.int .u64 10)=some (.int .u64 ((n*10:Nat):Int)):=aqp (e:=10) Zo
     have gm:((c-48:Nat):Int)%18446744073709551616=((c-48:Nat):Int):=YJ Zo Zo
     by_cases Q5:18446744073709551616<=n*10+(c-48)
     ·rw[Zq Q5]
      have ht:aA .add (.int .u64 ((n*10:Nat):Int)) (.int .u64 ((c-48:Nat):Int))=some (.int .u64 ((n*10+(c-48) -18446744073709551616:Nat):Int)):=by
       have aoV:(((n*10:Nat):Int)+((c-48:Nat):Int))%18446744073709551616=((n*10+(c-48) -18446744073709551616:Nat):Int):=Zo
       rw[abB,aoV]
      have gV:decide (((n*10+(c-48) -18446744073709551616:Nat):Int)<((n*10:Nat):Int))=true:=by simp only[Zg];omega
      refine ev @J3 @GN @J5 @gZ @t1 @f6 (Za @d2 (Za @uJ (Za @sl (Za @bZ (Za @cw (Za @c0 (Za @ep (Za @MV (Za @i2 (Za @jo (Za @dG (Za @Ws (Za @dQ (Za @gm (Za @ht (Za @gV @jp)))))))))))))))) ⟨?_⟩
      exact⟨rfl,bE⟩
     ·have Fw:=ay
      rw[Zq px,Zh LW,Zh Q5]at Fw
      rw[Zh Q5]
      have ht:aA .add (.int .u64 ((n*10:Nat):Int)) (.int .u64 ((c-48:Nat):Int))=some (.int .u64 ((n*10+(c-48):Nat):Int)):=aqo Zo
      have gV:decide (((n*10+(c-48):Nat):Int)<((n*10:Nat):Int))=false:=by simp only[Zb];omega
      have uZ:decide ((18446744073709551615:Int)<((n*10+(c-48):Nat):Int))=false:=by simp only[Zb];omega
      refine ev @J3 @GN @J5 @gZ @t1 @f6 (Za @d2 (Za @uJ (Za @sl (Za @bZ (Za @cw (Za @c0 (Za @ep (Za @MV (Za @i2 (Za @jo (Za @dG (Za @Ws (Za @dQ (Za @gm (Za @ht (Za @gV (Za @uZ (Za @jp @bB)))))))))))))))))) ⟨?_⟩
      exact⟨m,Zo,Y+1,n*10+(c-48),a1 J5,a1 GN,bn,bn,a1 jo,a1 jp,a1 ke,a1 gZ,a1 t1,Zo,Zo,rfl,Zo,by first|exact Fw|rw[Fw]|rfl⟩
   ·have Qs:¬(48<=c/\c<=57):=by simpa[iz]using px
    rw[Zh px]
    have aeP:qq c<256:=Nat.mod_lt _ Zo
    have cB:decide ((97:Int)<=(qq c:Int))=decide (97<=qq c):=by simp;omega
    have cu:decide ((qq c:Int)<=122)=decide (qq c<=122):=by simp;omega
    have bZ:decide ((48:Int)<=(c:Int))=decide (48<=c):=by simp;omega
    have cw:decide ((c:Int)<=57)=decide (c<=57):=by simp;omega
    have fin:97<=qq c->qq c<=122->∃br:Nat,aA .sub (.int .u8 (qq c:Int)) (.int .u8 97)=some (.int .u8 ((qq c-97:Nat):Int))/\aA .add (.int .u8 ((qq c-97:Nat):Int)) (.int .u8 10)=some (.int .u8 ((qq c-97+10:Nat):Int))/\decide ((10:Int)<=((qq c-97+10:Nat):Int))=true:=λR U=>
     ⟨0,abD (e:=97) R aeP,aqn (e:=10) Zo,by simp only[Zg];omega⟩
    by_cases aw8:c=95<;>by_cases am0:48<=c<;>by_cases am1:c<=57<;>try omega
    all_goals
     simp only[am0,am1,Yo,Z8]at bZ cw
     first|have abN:decide ((c:Int)=95)=true:=by simp only[Zg];omega|have abN:decide ((c:Int)=95)=false:=by simp only[Zb];omega
     refine ev @J3 @GN @J5 @gZ @t1 @f6 (Za @d2 (Za @uJ (Za @abN (Za @bZ @cw)))) ⟨?_⟩
     refine(R8 ax.todv c).Zm ?_
     rintro ad aY ba ⟨rfl,rfl,rfl⟩
     by_cases qe:97<=qq c
     ·simp only[qe,Yo]at cB
      refine ci @cB ⟨?_⟩
      refine(R8 ax.todv c).Zm ?_
      rintro ad aY ba ⟨rfl,rfl,rfl⟩
      by_cases lL:qq c<=122
      ·simp only[lL,Yo]at cu
       refine ci @cu ⟨?_⟩
       refine(R8 ax.todv c).Zm ?_
       rintro ad aY ba ⟨rfl,rfl,rfl⟩
       obtain⟨_,eM,e3,jw⟩:=fin qe lL
       refine f7 @eM @e3 @jw @MV @t1 ⟨?_⟩
       exact⟨rfl,bE⟩
      ·simp only[lL,Z8]at cu
       refine ci @cu ⟨?_⟩
       exact⟨rfl,bE⟩
     ·simp only[qe,Z8]at cB
      refine ci @cB ⟨?_⟩
      exact⟨rfl,bE⟩
end
structure lw(X:ck):Prop where
 auU:∃b,∀h,am X h (.ptr 6 0)=some (.iface 304 (.ptr b 0))
 seven:∃b,∀h,am X h (.ptr 7 0)=some (.iface 304 (.ptr b 0))
section
variable{X:ck}{h T aX aJ:S ak}{j ao aL a6 f9:Nat}{s:bx}{i:Nat}
def akX:dj X h .eql 238 false (.iface 281 (.Z 2)) (.iface 281 (.Z 2))=some (.bool true):=Zk
def akW:dj X h .eql 238 false (.iface 281 (.Z 1)) (.iface 281 (.Z 2))=some (.bool false):=Zk
def akV:dj X h .eql 238 false (.iface 281 (.Z 1)) (.iface 281 (.Z 1))=some (.bool true):=Zk
def Gj(D:Int):dj X h .neq 238 true (.iface 281 (.Z D)) .nilIface=some (.bool true):=Zk
def Dy:dj X h .neq 238 true .nilIface .nilIface=some (.bool false):=Zk
def acF(b:Nat):dj X h .neq 238 true (.iface 283 (.ptr b 0)) .nilIface=some (.bool true):=Zk
def avB(ax:is X)(bS:lw X)(f:bx)(aI:s.length<=65536)(ms:∀c∈s,c<256)(aK:(q X).a7<=j):
 aR X 226 [.str f, .str s] h j (λad T ao=>(∃b,ad= .ptr b 0)/\bj X h j T ao) (λ_ _ _=>False):=by
 refine c4 (aho X) (ax.none _ _ rfl) ?_
 rw[ahp]
 unfold UR
 obtain⟨b,ai⟩:=bS.auU
 refine ci @ai ⟨?_⟩
 refine Cd (ax.clone s ms aI) ?_
 refine ci @ai ⟨?_⟩
 refine gQ (by simp[H.same]) ?_
 exact⟨⟨_,rfl⟩,dM⟩
def atP(ax:is X)(bS:lw X)(f:bx)(aI:s.length<=65536)(ms:∀c∈s,c<256)(aK:(q X).a7<=j):
 aR X 227 [.str f, .str s] h j (λad T ao=>(∃b,ad= .ptr b 0)/\bj X h j T ao) (λ_ _ _=>False):=by
 refine c4 (ahq X) (ax.none _ _ rfl) ?_
 rw[ahr]
 unfold US
 obtain⟨b,ai⟩:=bS.seven
 refine ci @ai ⟨?_⟩
 refine Cd (ax.clone s ms aI) ?_
 refine ci @ai ⟨?_⟩
 refine gQ (by simp[H.same]) ?_
 exact⟨⟨_,rfl⟩,dM⟩
def La(ax:is X)(bS:lw X)(f:bx)(x e:H)(aI:s.length<=65536)(ms:∀c∈s,c<256)(aK:(q X).a7<=j){D:Nat}(aF:D=1\/D=2):
 aR X 202 [.str f, .str s,x,e,ww D] h j (λad T ao=>(∃b,ad= .iface 283 (.ptr b 0))/\bj X h j T ao) (λ_ _ _=>False):=by
 refine c4 (agQ X) (ax.none _ _ rfl) ?_
 rw[agR]
 unfold UB
 rcases aF with rfl|rfl
 ·have bB:ww 1= .iface 281 (.Z 1):=rfl
  rw[bB]
  refine cM @akW @akV ⟨?_⟩
  refine(atP ax bS f aI ms aK).Zm ?_
  rintro ad aY ba ⟨⟨b,rfl⟩,ca⟩
  refine cH ⟨?_⟩
  exact⟨⟨_,rfl⟩,ca⟩
 ·have bB:ww 2= .iface 281 (.Z 2):=rfl
  rw[bB]
  refine ci @akX ⟨?_⟩
  refine(avB ax bS f aI ms aK).Zm ?_
  rintro ad aY ba ⟨⟨b,rfl⟩,ca⟩
  refine cH ⟨?_⟩
  exact⟨⟨_,rfl⟩,ca⟩
def atF:∀(l:bx) (n:Nat),(sz l n).2=0\/(sz l n).2=1\/(sz l n).2=2:=by
 intro l
 induction l with
 |nil=>intro n;exact .inl rfl
 |cons c l al=>
  intro n
  rw[sz]
  split
  ·split
   ·exact .inr (.inl rfl)
   ·split
    ·exact .inr (.inl rfl)
    ·exact al _
  ·exact .inr (.inr rfl)
def adm(l:bx):(kp l).2=0\/(kp l).2=1\/(kp l).2=2:=by
 unfold kp;split
 ·exact .inr (.inr rfl)
 ·exact atF _ _
def ath(ax:is X)(bS:lw X)(aI:s.length<=65536)(ai:∀c∈s,c<256)(aK:(q X).a7<=j):
 aR X 167 [.str s, .Z 10, .Z 64] h j (λad T ao=>(∃F,ad= .tuple [.int .u64 ((kp s).1:Int),F]/\((kp s).2=0/\F= .nilIface\/(kp s).2≠0/\∃b,F= .iface 283 (.ptr b 0)))/\bj X h j T ao) (λ_ _ _=>False):=by
 refine c4 (afZ X) (ax.none _ _ rfl) ?_
 rw[af0]
 unfold T6
 refine(aeh ax aI ai aK (.inr rfl)).Zm ?_
 rintro ad aY ba ⟨rfl,ca⟩
 have ie:=ca.le
 rcases adm s with a|a|a
 ·rw[a]
  have bB:ww 0= .nilIface:=rfl
  rw[bB]
  refine ci @Dy ⟨?_⟩
  exact⟨⟨_,rfl, .inl ⟨rfl,rfl⟩⟩,ca⟩
 ·rw[a]
  have bB:ww 1= .iface 281 (.Z 1):=rfl
  rw[bB]
  refine ci @Gj ⟨?_⟩
  refine(La (j:=ba) (h:=aY) ax bS [80,97,114,115,101,85,105,110,116] (.Z 10) (.Z 64) aI ai (ZA aK ie) (D:=1) Zd).Zm ?_
  rintro ad bw c7 ⟨⟨b,rfl⟩,dm⟩
  refine cH ⟨?_⟩
  exact⟨⟨_,rfl, .inr ⟨Zd,b,rfl⟩⟩,ca.trans dm⟩
 ·rw[a]
  have bB:ww 2= .iface 281 (.Z 2):=rfl
  rw[bB]
  refine ci @Gj ⟨?_⟩
  refine(La (j:=ba) (h:=aY) ax bS [80,97,114,115,101,85,105,110,116] (.Z 10) (.Z 64) aI ai (ZA aK ie) (D:=2) Zd).Zm ?_
  rintro ad bw c7 ⟨⟨b,rfl⟩,dm⟩
  refine cH ⟨?_⟩
  exact⟨⟨_,rfl, .inr ⟨Zd,b,rfl⟩⟩,ca.trans dm⟩
end
def Tr(F:H):Prop:=F= .nilIface\/F= .iface 281 (.Z 1)\/F= .iface 281 (.Z 2)
def BY(s:bx):Prop:=∀c∈s,c≠43/\c≠45
def xs(s:bx):Nat:=s.foldl (λn c=>n*10+(c-48)) 0
def atG:∀(l:bx) (n:Nat),n<18446744073709551616->(sz l n).1<18446744073709551616:=by
 intro l
 induction l with
 |nil=>intro n a;exact a
 |cons c l al=>
  intro n a
  rw[sz]
  split
  ·split
   ·show 18446744073709551615<_;omega
   ·split
    ·show 18446744073709551615<_;omega
    ·exact al _ Zo
  ·show 0<_;omega
def adn(l:bx):(kp l).1<18446744073709551616:=by
 unfold kp;split
 ·show 0<_;omega
 ·exact atG _ _ Zo
section
variable{X:ck}{h T aX aJ:S ak}{j ao aL a6 f9:Nat}{s:bx}{i:Nat}
def acH:dj X h .neq 238 false (.iface 281 (.Z 1)) (.iface 281 (.Z 1))=some (.bool false):=Zk
def acI:dj X h .neq 238 false (.iface 281 (.Z 2)) (.iface 281 (.Z 1))=some (.bool true):=Zk
def abH(ax:is X)(aI:s.length<=65536)(ai:∀c∈s,c<256)(tn:BY s)(aK:(q X).a7<=j):
 aR X 242 [.str s, .Z 10, .Z 0] h j (λad T ao=>(∃br F,ad= .tuple [.Z br,F]/\Tr F)/\bj X h j T ao) (λ_ _ _=>False):=by
 refine c4 (ahG X) (ax.none _ _ rfl) ?_
 rw[ahH]
 unfold U0
 by_cases cj:s=[]
 ·subst cj
  have d:decide (([]:List Nat)=[])=true:=rfl
  refine ci @d ⟨?_⟩
  exact⟨⟨_,_,rfl, .inr (.inr rfl)⟩,bj.refl _ _⟩
 have d:decide (s=[])=false:=by simp[cj]
 obtain⟨c,fs,rfl⟩:∃c fs,s=c::fs:=by cases s with
  |nil=>exact absurd rfl cj
  |cons c fs=>exact⟨c,fs,rfl⟩
 have d2:lo (.str (c::fs)) (.Z 0)=some (.int .u8 (c:Int)):=Bg (i:=0) .i64 rfl
 have az:=tn c (Zw ..)
 have bZ:decide ((c:Int)=43)=false:=by simp only[Zb];omega
 have cw:decide ((c:Int)=45)=false:=by simp only[Zb];omega
 refine gp @d @d2 @bZ @cw ⟨?_⟩
 refine(aeh ax aI ai aK (.inl rfl)).Zm ?_
 rintro ad aY ba ⟨rfl,ca⟩
 have ie:=ca.le
 generalize ay:kp (c::fs)=p
 have n2:=adm (c::fs)
 have sa:=adn (c::fs)
 rw[ay]at n2 sa
 obtain⟨Kc,aw2⟩:=p
 simp only[]at n2 sa ⊢
 have nN:decide ((0:Int)=0)=true:=rfl
 have iZ:aA .sub (.Z 64) (.Z 1)=some (.Z 63):=rfl
 have kH:(63:Int)%18446744073709551616=63:=rfl
 have JV:aA .shl (.int .u64 1) (.int .u64 63)=some (.int .u64 9223372036854775808):=rfl
 have aux:aA .sub (.int .u64 9223372036854775808) (.int .u64 1)=some (.int .u64 9223372036854775807):=rfl
 have auy:mn .i64 (.int .u64 9223372036854775807)=some (.Z 9223372036854775807):=rfl
 rcases n2 with rfl|rfl|rfl
 all_goals
  simp only[show ww 0= .nilIface from rfl,show ww 1= .iface 281 (.Z 1) from rfl,show ww 2= .iface 281 (.Z 2) from rfl]
  by_cases LW:9223372036854775808<=Kc
  ·have cT:decide ((9223372036854775808:Int)<=(Kc:Int))=true:=by simp only[Zg];omega
   refine ev @Dy @Gj @acH @acI @nN @iZ (Za @kH (Za @JV (Za @cT (Za @aux @auy)))) ⟨?_⟩
   exact⟨⟨_,_,rfl,by first|exact .inl rfl|exact .inr (.inl rfl)|exact .inr (.inr rfl)⟩,ca⟩
  ·have cT:decide ((9223372036854775808:Int)<=(Kc:Int))=false:=by simp only[Zb];omega
   have auz:mn .i64 (.int .u64 (Kc:Int))=some (.Z (Kc:Int)):=Wt Zo Zo
   refine ev @Dy @Gj @acH @acI @nN @iZ (Za @kH (Za @JV (Za @cT @auz))) ⟨?_⟩
   exact⟨⟨_,_,rfl,by first|exact .inl rfl|exact .inr (.inl rfl)|exact .inr (.inr rfl)⟩,ca⟩
end
def abC{x e:Int}(R: -9223372036854775808<=x*e)(U:x*e<9223372036854775808):aA .mul (.Z x) (.Z e)=some (.Z (x*e)):=by
 simp[aA,lP,l8,ly,k1,wrap64 R U]
def aqq{c:Nat}(a:c<256):aA .sub (.int .u8 (c:Int)) (.int .u8 48)=some (.int .u8 (((c+208)%256:Nat):Int)):=by
 have w:pe .u8 ((c:Int) -48)=(((c+208)%256:Nat):Int):=by
  show((c:Int) -48)%256=_
  omega
 simp only[aA,lP,l8,ly,jK,e2,k1,w,EW]
def awd(l:bx)(c:Nat):xs (l++[c])=xs l*10+(c-48):=by simp[xs,List.foldl_append]
section
variable{X:ck}{h T aX aJ:S ak}{j ao aL a6 f9:Nat}{s:bx}{i:Nat}
def aeF(s:bx)(ad:H):Prop:=∃br F,ad= .tuple [.Z br,F]/\Tr F/\(s≠[]->s.length<19->(∀c∈s,iz c=true)->F= .nilIface/\br=(xs s:Int))
def ajq(ax:is X)(aI:s.length<=65536)(ai:∀c∈s,c<256)(tn:BY s)(aK:(q X).a7<=j):
 aR X 230 [.str s] h j (λad T ao=>aeF s ad/\bj X h j T ao) (λ_ _ _=>False):=by
 refine c4 (ahs X) (ax.none _ _ rfl) ?_
 rw[aht]
 unfold UT
 by_cases cj:s=[]
 ·subst cj
  have nN:decide ((0:Int)<((0:Nat):Int))=false:=rfl
  refine ci @nN ⟨?_⟩
  refine(abH ax aI ai tn aK).Zm ?_
  rintro ad aY ba ⟨⟨br,F,rfl,bt⟩,ca⟩
  refine cH ⟨?_⟩
  exact⟨⟨br,F,rfl,bt,λa=>absurd rfl a⟩,ca⟩
 have oI:0<s.length:=YP.2 cj
 have nN:decide ((0:Int)<(s.length:Int))=true:=by simp only[Zg];omega
 by_cases HW:s.length<19
 ·have cT:decide ((s.length:Int)<19)=true:=by simp only[Zg];omega
  obtain⟨c,wP⟩:∃c,s[0]? =some c:=⟨_,Ze oI⟩
  have d2:lo (.str s) (.Z 0)=some (.int .u8 (c:Int)):=Bg (i:=0) .i64 wP
  have az:=tn c (Zj wP)
  have bZ:decide ((c:Int)=43)=false:=by simp only[Zb];omega
  have cw:decide ((c:Int)=45)=false:=by simp only[Zb];omega
  refine f7 @nN @cT @d2 @bZ @cw ⟨?_⟩
  refine We Zo ?_
  have PH:aa X (bm X h j (some (.cells (S.ofList (s.map λn:Nat=>H.int .u8 (n:Int)) 0 .nil) s.length (.grow [])))) j=some (.cells (S.ofList (s.map λn:Nat=>H.int .u8 (n:Int)) 0 .nil) s.length (.grow [])):=bh aK
  have P2:bj X h j (bm X h j (some (.cells (S.ofList (s.map λn:Nat=>H.int .u8 (n:Int)) 0 .nil) s.length (.grow [])))) (j+1):=dM
  generalize bm X h j (some (.cells (S.ofList (s.map λn:Nat=>H.int .u8 (n:Int)) 0 .nil) s.length (.grow [])))=tU at*
  refine cH ⟨?_⟩
  refine fD (λm K T aS=>∃(Y n p:Nat),K.g 47=some (.fu j 0 s.length 1)/\K.g 48=some (.Z (s.length:Int))/\K.g 49=some (.Z (Y:Int))/\K.g 6=some (.Z (n:Int))/\K.g 5=some (.str s)/\Y+m=s.length/\p*10^m<=10^18/\n<p/\T=tU/\j+1<=aS/\n=xs (s.take Y))
   s.length ⟨0,0,1,bn,bn,fN,fN,bn,Zo,by rw[Nat.one_mul];exact Nat.pow_le_pow_right Zo Zo,Zo,rfl,Zo,rfl⟩ ?_
  rintro m K aJ a6 ⟨Y,n,p,S4,NO,ru,f3,t5,bH,uO,axW,rfl,kZ,bA⟩
  have bE:bj X h j aJ a6:=⟨Zo,P2.ac⟩
  cases m with
  |zero=>
   have f6:decide ((Y:Int)<(s.length:Int))=false:=by simp only[Zb];omega
   refine ev @ru @NO @t5 @f3 @f6 @d2 @cw ⟨?_⟩
   rw[Zy Zo]at bA
   exact⟨⟨_,_,rfl, .inl rfl,λ_ _ _=>⟨rfl,by rw[bA]⟩⟩,bE⟩
  |succ m=>
   have f6:decide ((Y:Int)<(s.length:Int))=true:=by simp only[Zg];omega
   have bB:aA .add (.Z (Y:Int)) (.Z 1)=some (.Z ((Y+1:Nat):Int)):=by rw[eI Zo Zo];rfl
   obtain⟨J,aC⟩:∃c,s[Y]? =some c:=⟨_,Ze Zo⟩
   have anD:=ai J (Zj aC)
   have Iw:dC 1 (.fu j 0 s.length 1) (.Z (Y:Int))=some (.ptr j Y):=by rw[FV _ Zo];simp
   have uJ:am X aJ (.ptr j Y)=some (.int .u8 (J:Int)):=by rw[bJ PH,kC];simp[aC]
   have cF:=aqq anD
   generalize bP:(J+208)%256=w at cF
   by_cases j2:9<w
   ·have iR:decide ((9:Int)<(w:Int))=true:=by simp only[Zg];omega
    refine ev @ru @NO @S4 @f6 @Iw @uJ (Za @cF @iR) ⟨?_⟩
    refine⟨⟨_,_,rfl, .inr (.inr rfl),λ_ _ jP=> ?_⟩,bE⟩
    have:=jP J (Zj aC)
    simp[iz]at this
    omega
   ·have iR:decide ((9:Int)<(w:Int))=false:=by simp only[Zb];omega
    have Qs:48<=J/\J<=57/\w=J-48:=Zo
    have eo:p*10<=10^18:=by
     have:p*10^(m+1)=(p*10)*10^m:=by rw[Nat.pow_succ];rw[Nat.mul_assoc,zp (10^m) 10]
     rw[this]at uO
     exact ZA (YR _ (Nat.pos_of_ne_zero Zs)) uO
    have dt:p*10*10^m<=10^18:=by
     have:p*10^(m+1)=(p*10)*10^m:=by rw[Nat.pow_succ];rw[Nat.mul_assoc,zp (10^m) 10]
     rw[this]at uO;exact uO
    have gA:p*10<=1000000000000000000:=eo
    have fp:aA .mul (.Z (n:Int)) (.Z 10)=some (.Z ((n*10:Nat):Int)):=by rw[abC Zo Zo];rfl
    have jM:mn .i64 (.int .u8 (w:Int))=some (.Z (w:Int)):=Wt Zo Zo
    have ps:aA .add (.Z ((n*10:Nat):Int)) (.Z (w:Int))=some (.Z ((n*10+w:Nat):Int)):=by rw[eI Zo Zo];rfl
    refine ev @ru @NO @S4 @f6 @Iw @uJ (Za @cF (Za @iR (Za @f3 (Za @fp (Za @jM (Za @ps @bB)))))) ⟨?_⟩
    refine⟨m,Zo,Y+1,n*10+w,p*10,a1 S4,a1 NO,bn,bn,a1 t5,Zo,dt,Zo,rfl,Zo, ?_⟩
    rw[ZY,aC]
    show _=xs (s.take Y++[J])
    rw[awd, <-bA,Qs.2.2]
 ·have cT:decide ((s.length:Int)<19)=false:=by simp only[Zb];omega
  refine cM @nN @cT ⟨?_⟩
  refine(abH ax aI ai tn aK).Zm ?_
  rintro ad aY ba ⟨⟨br,F,rfl,bt⟩,ca⟩
  refine cH ⟨?_⟩
  exact⟨⟨br,F,rfl,bt,λ_ a=>absurd a HW⟩,ca⟩
def aeG(s:bx)(ad:H):Prop:=∃br F,ad= .tuple [.Z br,F]/\(F= .nilIface\/∃b,F= .iface 283 (.ptr b 0))/\(s≠[]->s.length<19->(∀c∈s,iz c=true)->F= .nilIface/\br=(xs s:Int))
def VX(ax:is X)(bS:lw X)(aI:s.length<=65536)(ai:∀c∈s,c<256)(tn:BY s)(aK:(q X).a7<=j):
 aR X 203 [.str s] h j (λad T ao=>aeG s ad/\bj X h j T ao) (λ_ _ _=>False):=by
 refine c4 (agS X) (ax.none _ _ rfl) ?_
 rw[agT]
 unfold UC
 refine(ajq ax aI ai tn aK).Zm ?_
 rintro ad aY ba ⟨⟨br,F,rfl,bt,ag⟩,ca⟩
 have ie:=ca.le
 rcases bt with rfl|rfl|rfl
 ·refine ci @Dy ⟨?_⟩
  exact⟨⟨_,_,rfl, .inl rfl,ag⟩,ca⟩
 ·refine ci @Gj ⟨?_⟩
  refine(La (j:=ba) (h:=aY) ax bS [65,116,111,105] (.Z 0) (.Z 0) aI ai (ZA aK ie) (D:=1) Zd).Zm ?_
  rintro ad bw c7 ⟨⟨b,rfl⟩,dm⟩
  refine cH ⟨?_⟩
  exact⟨⟨_,_,rfl, .inr ⟨b,rfl⟩,λR U ar=>absurd (ag R U ar).1 Zs⟩,ca.trans dm⟩
 ·refine ci @Gj ⟨?_⟩
  refine(La (j:=ba) (h:=aY) ax bS [65,116,111,105] (.Z 0) (.Z 0) aI ai (ZA aK ie) (D:=2) Zd).Zm ?_
  rintro ad bw c7 ⟨⟨b,rfl⟩,dm⟩
  refine cH ⟨?_⟩
  exact⟨⟨_,_,rfl, .inr ⟨b,rfl⟩,λR U ar=>absurd (ag R U ar).1 Zs⟩,ca.trans dm⟩
end
def kA(t:es):Bool:=if t.b then !t.s&&decide (t.w=1)else decide (1<=t.w)&&decide (t.w<=64)
def jl(n:Nat):bx:=if n<10 then[48+n]else[48+n/10,48+n%10]
def m7(t:es):bx:=if kA t then(if t.b then[98,111,111,108]else(if t.s then 105 else 117)::jl t.w.toNat)else[]
def la:bx->Option es
 |[]=>none
 |c::l=>if c::l=[98,111,111,108]then some ⟨true,false,1⟩
  else if c=105\/c=117 then((List.range 65).find? λn=>decide (1<=n)&&decide (jl n=l)).map λn:Nat=>⟨false,decide (c=105),(n:Int)⟩
  else none
section
variable{X:ck}{h T aX aJ:S ak}{j ao aL a6 f9:Nat}{s:bx}{i:Nat}
def Du(ax:dv X)(t:es)(aK:(q X).a7<=j):aR X 182 [.agg (eC t)] h j (λad T ao=>ad= .bool (kA t)/\bj X h j T ao) (λ_ _ _=>False):=by
 refine c4 (agm X) (ax.none _ _ rfl) ?_
 rw[agn]
 unfold Um eC
 obtain⟨b,s,w⟩:=t
 cases b<;>cases s
 all_goals
  by_cases R:1<=w
  ·have cT:decide ((1:Int)<=w)=true:=by simp[R]
   refine ci @cT ⟨?_⟩
   exact⟨by simp[kA,R],dM⟩
  ·have cT:decide ((1:Int)<=w)=false:=by simp[R]
   refine ci @cT ⟨?_⟩
   exact⟨by simp[kA,R],dM⟩
def auZ:∀n<10,([48,49,50,51,52,53,54,55,56,57,97,98,99,100,101,102,103,104,105,106,107,108,109,110,111,112,113,114,115,116,117,118,119,120,121,122].drop n).take (n+1-n)=jl n:=by decide+kernel
def NM:bx:=[48,48,48,49,48,50,48,51,48,52,48,53,48,54,48,55,48,56,48,57,49,48,49,49,49,50,49,51,49,52,49,53,49,54,49,55,49,56,49,57,50,48,50,49,50,50,50,51,50,52,50,53,50,54,50,55,50,56,50,57,51,48,51,49,51,50,51,51,51,52,51,53,51,54,51,55,51,56,51,57,52,48,52,49,52,50,52,51,52,52,52,53,52,54,52,55,52,56,52,57,53,48,53,49,53,50,53,51,53,52,53,53,53,54,53,55,53,56,53,57,54,48,54,49,54,50,54,51,54,52,54,53,54,54,54,55,54,56,54,57,55,48,55,49,55,50,55,51,55,52,55,53,55,54,55,55,55,56,55,57,56,48,56,49,56,50,56,51,56,52,56,53,56,54,56,55,56,56,56,57,57,48,57,49,57,50,57,51,57,52,57,53,57,54,57,55,57,56,57,57]
def au1:NM.length=200:=by decide+kernel
def au0:∀n<100,10<=n->(NM.drop (n*2)).take (n*2+2-n*2)=jl n:=by decide+kernel
def MO(ax:dv X){n:Nat}(aK:n<100):aR X 183 [.Z (n:Int)] h j (λad T ao=>ad= .str (jl n)/\T=h/\ao=j) (λ_ _ _=>False):=by
 refine c4 (ago X) (ax.none _ _ rfl) ?_
 rw[agp]
 unfold Un
 refine c4 (ag4 X) (ax.none _ _ rfl) ?_
 rw[ag5]
 unfold UI
 refine c4 (ahy X) (ax.none _ _ rfl) ?_
 rw[ahz]
 unfold UW
 have nN:decide ((0:Int)<=(n:Int))=true:=by simp only[Zg];omega
 have cT:decide ((n:Int)<100)=true:=by simp only[Zg];omega
 refine cM @nN @cT ⟨?_⟩
 refine c4 (ahK X) (ax.none _ _ rfl) ?_
 rw[ahL]
 unfold U2
 by_cases a:n<10
 ·have cJ:decide ((n:Int)<10)=true:=by simp only[Zg];omega
  have bB:aA .add (.Z (n:Int)) (.Z 1)=some (.Z ((n+1:Nat):Int)):=by rw[eI Zo Zo];rfl
  have cF:kd (.str [48,49,50,51,52,53,54,55,56,57,97,98,99,100,101,102,103,104,105,106,107,108,109,110,111,112,113,114,115,116,117,118,119,120,121,122]) (some (.Z (n:Int))) (some (.Z ((n+1:Nat):Int)))=some (.str (jl n)):=by
   rw[SQ .i64 .i64 Zo (by simp;omega),auZ n a]
  refine eu @cJ @bB @cF ⟨?_⟩
  exact⟨rfl,rfl,rfl⟩
 ·have cJ:decide ((n:Int)<10)=false:=by simp only[Zb];omega
  have bB:aA .mul (.Z (n:Int)) (.Z 2)=some (.Z ((n*2:Nat):Int)):=by rw[abC Zo Zo];rfl
  have cF:aA .add (.Z ((n*2:Nat):Int)) (.Z 2)=some (.Z ((n*2+2:Nat):Int)):=by rw[eI Zo Zo];rfl
  have fp:kd (.str NM) (some (.Z ((n*2:Nat):Int))) (some (.Z ((n*2+2:Nat):Int)))=some (.str (jl n)):=by
   rw[SQ .i64 .i64 Zo (by have:=au1;omega),au0 n aK Zo]
  unfold NM at fp
  refine gp @cJ @bB @cF @fp ⟨?_⟩
  exact⟨rfl,rfl,rfl⟩
def auA(ax:dv X)(t:es)(aK:(q X).a7<=j):aR X 204 [.agg (eC t)] h j (λad T ao=>ad= .str (m7 t)/\bj X h j T ao) (λ_ _ _=>False):=by
 refine c4 (agU X) (ax.none _ _ rfl) ?_
 rw[agV]
 unfold UD
 have be:eC t=[.bool t.b, .bool t.s, .Z t.w]:=rfl
 rw[be]
 refine cH ⟨?_⟩
 refine e8 (λaX=>aa X aX j=some (.cells (S.ofList [.bool t.b, .bool t.s, .Z t.w] 0 .nil) 3 .own)/\bj X h j aX (j+1)) ⟨bh aK,dM⟩ ?_
 rintro aX ⟨b3,bU⟩
 refine(Du ax t Zo).Zm ?_
 rintro ad aJ a6 ⟨rfl,bE⟩
 have f2:=bE.le
 have bS:=bU.trans bE
 have b2:aa X aJ j=some (.cells (S.ofList [.bool t.b, .bool t.s, .Z t.w] 0 .nil) 3 .own):=by rw[bE.ac _ Zo];exact b3
 have d7:am X aJ (.ptr j 0)=some (.bool t.b):=by rw[bJ b2];rfl
 have dk:am X aJ (.ptr j 1)=some (.bool t.s):=by rw[bJ b2];rfl
 have dB:am X aJ (.ptr j 2)=some (.Z t.w):=by rw[bJ b2];rfl
 cases bp:kA t with
 |false=>
  refine cH ⟨?_⟩
  exact⟨by simp[m7,bp],bS⟩
 |true=>
  cases mx:t.b with
  |true=>
   rw[mx]at d7
   refine ci @d7 ⟨?_⟩
   exact⟨by simp[m7,bp,mx],bS⟩
  |false=>
   rw[mx]at d7
   have bP:1<=t.w/\t.w<=64:=by simpa[kA,mx]using bp
   obtain⟨w,yB⟩:=Yl (by omega:0<=t.w)
   rw[yB]at dB
   have aM:jl t.w.toNat=jl w:=by rw[yB];rfl
   have fB:(jl w).length<=2:=by unfold jl;split<;>simp
   have sV:∀h c,dj X h .add 9 true (.str [c]) (.str (jl w))=some (.str (c::jl w)):=λh c=>by
    have:Nat.ble ([c].length+(jl w).length) 1000000000=true:=lg (by simp;omega)
    simp only[dj,Am,this,e2];rfl
   cases iW:t.s with
   |true=>
    rw[iW]at dk
    refine eu @d7 @dk @dB ⟨?_⟩
    refine(MO ax Zo).Zm ?_
    rintro ad aY ba ⟨rfl,rfl,rfl⟩
    refine ci @sV ⟨?_⟩
    exact⟨by simp[m7,bp,mx,iW,aM],bS⟩
   |false=>
    rw[iW]at dk
    refine eu @d7 @dk @dB ⟨?_⟩
    refine(MO ax Zo).Zm ?_
    rintro ad aY ba ⟨rfl,rfl,rfl⟩
    refine ci @sV ⟨?_⟩
    exact⟨by simp[m7,bp,mx,iW,aM],bS⟩
end
def Jc{n:Nat}(a:n<100):jl n≠[]/\(jl n).length<19/\(∀c∈jl n,iz c=true)/\xs (jl n)=n:=by
 unfold jl
 split
 ·refine⟨Zs,Zs, ?_, ?_⟩
  ·intro c az;simp at az;subst az;simp[iz];omega
  ·simp[xs]
 ·refine⟨Zs,Zs, ?_, ?_⟩
  ·intro c az;simp at az;rcases az with rfl|rfl<;>simp[iz]<;>omega
  ·simp[xs];omega
def NT(c:Nat)(l:bx):la (c::l)=if c::l=[98,111,111,108]then some ⟨true,false,1⟩
 else if c=105\/c=117 then((List.range 65).find? λn=>decide (1<=n)&&decide (jl n=l)).map λn:Nat=>⟨false,decide (c=105),(n:Int)⟩
 else none:=rfl
def Ka{c:Nat}{l:bx}{t:es}(a:la (c::l)=some t)(ai:c::l≠[98,111,111,108]):(c=105\/c=117)/\∃n:Nat,1<=n/\n<=64/\jl n=l/\t=⟨false,decide (c=105),(n:Int)⟩:=by
 rw[NT]at a
 rw[Zh ai]at a
 split at a
 ·rename_i az
  refine⟨az, ?_⟩
  simp only[Yn]at a
  obtain⟨n,R,U⟩:=a
  have ar:=List.find?_some R
  have aO:=List.mem_of_find?_eq_some R
  simp at ar aO
  exact⟨n,ar.1,Zo,ar.2,U.symm⟩
 ·cases a
def aeb{c:Nat}{l:bx}(a:la (c::l)=none)(az:c=105\/c=117){n:Nat}(R:1<=n)(U:n<=64):jl n≠l:=by
 intro aK
 rw[NT]at a
 split at a
 ·cases a
 ·first
  |rw[Zq az]at a
  |skip
  simp at a
  exact a n Zo R aK
def bj.set{C:aW}{h aX:S ak}{j aL b aS:Nat}{cR:Option ak}(a:bj C h j aX aL)(ai:j<=b)(cj:C.a7<=j)(aK:aL<=aS):bj C h j (bm C aX b cR) aS:=
 ⟨ZA a.le aK,λe I=>by rw[aE Zo Zo];exact a.ac e I⟩
section
variable{X:ck}{h T aX aJ:S ak}{j ao aL a6 f9:Nat}{s:bx}{i:Nat}
def aea(ax:is X)(bS:lw X)(aI:s.length<=65536)(ai:∀c∈s,c<256)(tn:BY s)(aK:(q X).a7<=j):
 aR X 169 [.str s] h j (λad T ao=>ad= .tuple [.agg (eC ((la s).getD dJ)), .bool (la s).isSome]/\bj X h j T ao) (λ_ _ _=>False):=by
 refine c4 (af3 X) (ax.none _ _ rfl) ?_
 rw[af4]
 unfold T8
 by_cases wO:s=[98,111,111,108]
 ·have d:decide (s=[98,111,111,108])=true:=by simp[wO]
  refine ci @d ⟨?_⟩
  exact⟨by subst wO;rfl,dM⟩
 have d:decide (s=[98,111,111,108])=false:=by simp[wO]
 cases s with
 |nil=>
  have cJ:decide (([]:List Nat)=[])=true:=rfl
  refine cM @d @cJ ⟨?_⟩
  exact⟨rfl,dM⟩
 |cons c l=>
  have cJ:decide (c::l=[])=false:=by simp
  have d2:lo (.str (c::l)) (.Z 0)=some (.int .u8 (c:Int)):=Bg (i:=0) .i64 rfl
  by_cases az:c=105\/c=117
  ·have j7:kd (.str (c::l)) (some (.Z 1)) none=some (.str l):=NK (l:=1) .i64 Zs
   have fB:l.length<=65536:=by simp at aI;omega
   have uI:∀c∈l,c<256:=λx ag=>ai x (Zu _ ag)
   have aoN:BY l:=λx ag=>tn x (Zu _ ag)
   have eT:∃cZ dO,decide ((c:Int)≠117)=cZ/\decide ((c:Int)≠105)=dO/\(cZ=false\/cZ=true/\dO=false):=by
    rcases az with rfl|rfl
    ·exact⟨true,false,rfl,rfl, .inr ⟨rfl,rfl⟩⟩
    ·exact⟨false,true,rfl,rfl, .inl rfl⟩
   obtain⟨cZ,dO,eT,iu,us⟩:=eT
   have f6:decide ((c:Int)=105)=decide (c=105):=by simp;omega
   rcases us with rfl|⟨rfl,rfl⟩
   all_goals
    refine hQ @d @cJ @d2 @eT @iu @j7 ⟨?_⟩
    refine e8 (λaX=>aa X aX j=some (.cells (S.ofList [.bool false, .bool false, .Z 0] 0 .nil) 3 .own)/\bj X h j aX (j+1)) ⟨bh aK,dM⟩ ?_
    rintro aX ⟨b3,bU⟩
    refine(VX ax bS fB uI aoN Zo).Zm ?_
    rintro ad aJ a6 ⟨⟨br,F,rfl,bt,ag⟩,bE⟩
    have f2:=bE.le
    have b2:aa X aJ j=some (.cells (S.ofList [.bool false, .bool false, .Z 0] 0 .nil) 3 .own):=by rw[bE.ac _ Zo];exact b3
    have jy:=bU.trans bE
    refine cM @d2 @f6 ⟨?_⟩
    generalize fd:bm X _ a6 _=aY
    have cQ:aa X aY j=some (.cells (S.ofList [.bool false, .bool false, .Z 0] 0 .nil) 3 .own):=by rw[<-fd];simp(disch:=omega) only[aE];exact b2
    have d1:aa X aY a6=some (.cells (S.ofList [.bool false, .bool (decide (c=105)), .Z br] 0 .nil) 3 .own):=by rw[<-fd];rw[bh Zo];rfl
    have ca:bj X h j aY (a6+1):=jy.trans (by rw[<-fd];exact dM)
    clear fd
    rcases bt with rfl|⟨b,rfl⟩
    ·refine cM @Dy (bJ d1) ⟨?_⟩
     refine(Du (j:=a6+1) (h:=aY) ax.todv ⟨false,decide (c=105),br⟩ (ZA aK ca.le)).Zm ?_
     rintro ad bw c7 ⟨rfl,dm⟩
     have ji:=dm.le
     have fA:aa X bw j=some (.cells (S.ofList [.bool false, .bool false, .Z 0] 0 .nil) 3 .own):=by rw[dm.ac _ Zo];exact cQ
     have dU:aa X bw a6=some (.cells (S.ofList [.bool false, .bool (decide (c=105)), .Z br] 0 .nil) 3 .own):=by rw[dm.ac _ Zo];exact d1
     cases bp:kA ⟨false,decide (c=105),br⟩with
     |false=>
      have be:la (c::l)=none:=by
       cases be:la (c::l)with
       |none=>rfl
       |some t=>
        obtain⟨_,n,R,U,ar,rfl⟩:=Ka be wO
        obtain⟨cB,cu,ee,fV⟩:=Jc (by omega:n<100)
        rw[ar]at cB cu ee fV
        have:=(ag cB cu ee).2
        rw[fV]at this
        subst this
        simp[kA]at bp
        omega
      rw[be]
      refine ci (bJ fA) ⟨?_⟩
      exact⟨rfl,bj.set (ca.trans dm) Zo aK Zo⟩
     |true=>
      have ct:1<=br/\br<=64:=by simpa[kA]using bp
      obtain⟨n,rfl⟩:=Yl (by omega:0<=br)
      refine ci (bJ dU) ⟨?_⟩
      refine(auA (j:=c7) (h:=bw) ax.todv ⟨false,decide (c=105),(n:Int)⟩ Zo).Zm ?_
      rintro ad bL cb ⟨rfl,dw⟩
      have hV:=dw.le
      have eN:aa X bL j=some (.cells (S.ofList [.bool false, .bool false, .Z 0] 0 .nil) 3 .own):=by rw[dw.ac _ Zo];exact fA
      have hf:aa X bL a6=some (.cells (S.ofList [.bool false, .bool (decide (c=105)), .Z (n:Int)] 0 .nil) 3 .own):=by rw[dw.ac _ Zo];exact dU
      have C8:m7 ⟨false,decide (c=105),(n:Int)⟩=c::jl n:=by
       rcases az with rfl|rfl<;>simp[m7,bp]<;>simp_all
      have H0:=(ca.trans dm).trans dw
      by_cases aB:jl n=l
      ·have be:la (c::l)=some ⟨false,decide (c=105),(n:Int)⟩:=by
        cases be:la (c::l)with
        |none=>exact absurd aB (aeb be az Zo Zo)
        |some t=>
         obtain⟨_,aS,R,U,ar,rfl⟩:=Ka be wO
         obtain⟨cB,cu,ee,fV⟩:=Jc (by omega:n<100)
         obtain⟨_,_,_,me⟩:=Jc (by omega:aS<100)
         rw[ar, <-aB,fV]at me
         rw[me]
       have iR:decide (m7 ⟨false,decide (c=105),(n:Int)⟩≠c::l)=false:=by rw[C8,aB];simp
       rw[be]
       refine cM @iR (bJ hf) ⟨?_⟩
       refine⟨rfl,bj.set H0 Zo aK Zo⟩
      ·have be:la (c::l)=none:=by
        cases be:la (c::l)with
        |none=>rfl
        |some t=>
         obtain⟨_,aS,R,U,ar,rfl⟩:=Ka be wO
         obtain⟨cB,cu,ee,fV⟩:=Jc (by omega:aS<100)
         rw[ar]at cB cu ee fV
         have:=(ag cB cu ee).2
         rw[fV]at this
         have:n=aS:=Zo
         subst this
         exact absurd ar aB
       have iR:decide (m7 ⟨false,decide (c=105),(n:Int)⟩≠c::l)=true:=by rw[C8];simp[aB]
       rw[be]
       refine ci @iR ⟨?_⟩
       exact⟨rfl,bj.set H0 Zo aK Zo⟩
    ·have be:la (c::l)=none:=by
      cases be:la (c::l)with
      |none=>rfl
      |some t=>
       obtain⟨_,n,R,U,ar,rfl⟩:=Ka be wO
       obtain⟨cB,cu,ee,fV⟩:=Jc (by omega:n<100)
       rw[ar]at cB cu ee fV
       exact absurd (ag cB cu ee).1 Zs
     rw[be]
     refine ci @acF ⟨?_⟩
     exact⟨rfl,bj.set ca Zo aK Zo⟩
  ·have eT:decide ((c:Int)≠117)=true:=by simp only[Zg];omega
   have iu:decide ((c:Int)≠105)=true:=by simp only[Zg];omega
   refine f7 @d @cJ @d2 @eT @iu ⟨?_⟩
   have be:la (c::l)=none:=by rw[NT];rw[Zh wO,Zh az]
   rw[be]
   exact⟨rfl,dM⟩
end
def BB(w:Int):Int:=(18446744073709551615:Int).fdiv (2^(min (64-w).toNat 64))
def Hj(x e:Int):Int:=pe .u64 ((BitVec.ofInt 64 x&&& ~~~ BitVec.ofInt 64 e).toNat)
def Di(t:es)(n:Int):Bool:=kA t&&decide (Hj n (BB t.w)=0)
def uN(t:es)(n:Int):Bool:=if t.s then(if t.w-1=0 then decide (n=0)else Di ⟨false,false,t.w-1⟩ n)else Di t n
def vt:List bx:=[[110,111,100,101],[114,101,116,117,114,110,115],[118,97,114],[108,101,116],[116,101,108],[119,104,101,110],[110,111,116],[112,114,101],[102,98,121],[109,101,114,103,101],
 [105,102],[116,104,101,110],[101,108,115,101],[97,110,100],[111,114],[120,111,114],[116,114,117,101],[102,97,108,115,101]]
structure Kt(X:ck):Prop where
 at_:∃v,∀h,am X h (.ptr 3 0)=some v/\∀s:bx,ma X h 9 (.bool false) v (.str s) false=some (.bool (decide (s∈vt)))
section
variable{X:ck}{h T aX aJ:S ak}{j ao aL a6 f9:Nat}{s:bx}{i:Nat}
def at5(ax:dv X)(eK:Kt X)(s:bx):aR X 171 [.str s] h j (λad T ao=>ad= .bool (decide (s∈vt))/\T=h/\ao=j) (λ_ _ _=>False):=by
 refine c4 (af7 X) (ax.none _ _ rfl) ?_
 rw[af8]
 unfold Ua
 obtain⟨v,bA⟩:=eK.at_
 obtain⟨R,U⟩:=bA h
 have ar:=U s
 refine cM @R @ar ⟨?_⟩
 exact⟨rfl,rfl,rfl⟩
def asY(ax:dv X)(t:es)(be:1<=t.w/\t.w<=64)(aK:(q X).a7<=j):aR X 231 [.agg (eC t)] h j (λad T ao=>ad= .int .u64 (BB t.w)/\bj X h j T ao) (λ_ _ _=>False):=by
 refine c4 (ahu X) (ax.none _ _ rfl) ?_
 rw[ahv]
 unfold UU eC
 have bB:aA .sub (.Z 64) (.Z t.w)=some (.Z (64-t.w)):=Bb Zo Zo
 have cF:aA .shr (.int .u64 18446744073709551615) (.Z (64-t.w))=some (.int .u64 (BB t.w)):=by
  have:decide ((64-t.w)<0)=false:=by simp only[Zb];omega
  simp only[aA,lP,e2,Hi,sj,this,jK,pB,EW]
  rfl
 refine cM @bB @cF ⟨?_⟩
 exact⟨rfl,dM⟩
def M7{t:es}(a:kA t=true):1<=t.w/\t.w<=64:=by
 unfold kA at a
 split at a<;>simp at a<;>omega
def abJ(ax:dv X)(t:es)(n:Int)(aK:(q X).a7<=j):aR X 205 [.agg (eC t), .int .u64 n] h j (λad T ao=>ad= .bool (Di t n)/\bj X h j T ao) (λ_ _ _=>False):=by
 refine c4 (agW X) (ax.none _ _ rfl) ?_
 rw[agX]
 unfold UE
 have be:eC t=[.bool t.b, .bool t.s, .Z t.w]:=rfl
 rw[be]
 refine cH ⟨?_⟩
 refine e8 (λaX=>aa X aX j=some (.cells (S.ofList [.bool t.b, .bool t.s, .Z t.w] 0 .nil) 3 .own)/\bj X h j aX (j+1)) ⟨bh aK,dM⟩ ?_
 rintro aX ⟨b3,bU⟩
 refine(Du ax t Zo).Zm ?_
 rintro ad aJ a6 ⟨rfl,bE⟩
 have f2:=bE.le
 have bS:=bU.trans bE
 have b2:aa X aJ j=some (.cells (S.ofList [.bool t.b, .bool t.s, .Z t.w] 0 .nil) 3 .own):=by rw[bE.ac _ Zo];exact b3
 cases bp:kA t with
 |false=>
  refine cH ⟨?_⟩
  exact⟨by simp[Di,bp],bS⟩
 |true=>
  refine ci (bJ b2) ⟨?_⟩
  refine(asY (j:=a6) (h:=aJ) ax t (M7 bp) Zo).Zm ?_
  rintro ad aY ba ⟨rfl,ca⟩
  have bB:aA .andNot (.int .u64 n) (.int .u64 (BB t.w))=some (.int .u64 (Hj n (BB t.w))):=by
   simp only[aA,lP,jK,l8,e2,ly,k1,EW];rfl
  refine ci @bB ⟨?_⟩
  exact⟨by simp[Di,bp],bS.trans ca⟩
def ao8(ax:dv X)(t:es)(be:kA t=true)(n:Int)(aK:(q X).a7<=j):aR X 170 [.agg (eC t), .int .u64 n] h j (λad T ao=>ad= .bool (uN t n)/\bj X h j T ao) (λ_ _ _=>False):=by
 refine c4 (af5 X) (ax.none _ _ rfl) ?_
 rw[af6]
 unfold T9
 have bP:=M7 be
 have gb:eC t=[.bool t.b, .bool t.s, .Z t.w]:=rfl
 rw[gb]
 have bB:aA .sub (.Z t.w) (.Z 1)=some (.Z (t.w-1)):=Bb Zo Zo
 cases iW:t.s with
 |false=>
  refine cH ⟨?_⟩
  refine e8 (λaX=>bj X h j aX (j+1)) dM ?_
  intro aX bU
  have:=abJ (j:=j+1) (h:=aX) ax t n Zo
  rw[gb,iW]at this
  refine this.Zm ?_
  rintro ad aJ a6 ⟨rfl,bE⟩
  refine cH ⟨?_⟩
  exact⟨by simp[uN,iW],bU.trans bE⟩
 |true=>
  by_cases cj:t.w-1=0
  ·have d:decide (t.w-1=0)=true:=by simp[cj]
   refine cM @bB @d ⟨?_⟩
   refine fE (hO (D:=3) (b:=j) (W:=0) (n:=3) (c:=S.ofList [.bool t.b, .bool true, .Z t.w] 0 .nil) (bh aK) Zo rfl Zd Zd rfl) ?_
   refine ci @d ⟨?_⟩
   exact⟨by simp[uN,iW,cj],dM⟩
  ·have d:decide (t.w-1=0)=false:=by simp[cj]
   refine cM @bB @d ⟨?_⟩
   refine fE (hO (D:=3) (b:=j) (W:=0) (n:=3) (c:=S.ofList [.bool t.b, .bool true, .Z t.w] 0 .nil) (bh aK) Zo rfl Zd Zd rfl) ?_
   refine ci @d ⟨?_⟩
   refine e8 (λaX=>bj X h j aX (j+1)) dM ?_
   intro aX bU
   refine(abJ (j:=j+1) (h:=aX) ax ⟨false,false,t.w-1⟩ n Zo).Zm ?_
   rintro ad aJ a6 ⟨rfl,bE⟩
   refine cH ⟨?_⟩
   exact⟨by simp[uN,iW,cj],bU.trans bE⟩
end
end
end Go.Proofs.YtpfajohmofnkfaaGreatDoor

