/- A part of the last text's proof; no condition of its own -/
import Derived.Test.YtpfajohmofnkfaaGreatDoorYk
set_option maxHeartbeats 8000000
set_option linter.all false
namespace Go.Proofs.YtpfajohmofnkfaaGreatDoor
open Go.bi
noncomputable section
variable (X : ck) (h : V an) (j : Nat) (ai ay : bI) (a0 bh cl a3 a4 a5 hB hY iU : F)
def VO(a:aZ)(b:F)(c:V an)(d:Nat)(e f:bI):Prop:=
 E (dT [(.Z 0),(.Z 0)] d) λg=>cQ a c d g.1 g.2 λc d g=>E (dX b) λh=>E (aF .gtr h (.Z 65536)) λh=>aY (λb c d=>al (b 0) λg=>E (Au a c g) λg=>E (eB [(.str []),(.Z 0)] [(0,1,g)]) λg=>ip a c d g λc d g=>aW a 110 [c] d g (λ_ d g=>aY (λb c d=>al (b 5) λf=>al (b 4) λg=>E (cm g) λg=>E (ba 1 g) λg=>E (ao a c g) λg=>E (eB [(.Z 0),(.str []),(.Z 0),(.int .u64 0),(.bool false),(.bool false),(.Z 0)] [(0,1,(.Z 7)),(2,1,g)]) λg=>E (fg 1 [(.Z 0),(.str []),(.Z 0),(.int .u64 0),(.bool false),(.bool false),(.Z 0)] [(0,7,g)] d) λg=>cQ a c d g.1 g.2 λc d g=>gw (hC a d g 7 f c) d g λc d f=>E (eB [(.Z 0),(.Z 0)] []) λg=>al (b 3) λh=>E (ce a d 2 h g) λd=>al (b 3) λb=>E (cg a d 2 b) λa=>e (.tuple [c,a]) d f) λh=>fJ (λb c d g=>eV (g+10) λg=>al (c 4) λi=>E (cm i) λi=>E (ba 1 i) λi=>E (ao a d i) λi=>al (c 4) λj=>E (cm j) λj=>E (ba 0 j) λj=>E (ao a d j) λj=>E (lJ j) λj=>E (aF .lss i j) λi=>aY (λc d g=>aY (λc d e=>al (c 4) λg=>aW a 110 [g] d e (λ_ a d=>b c a d) f) λb=>al (c 4) λh=>eV (g+10) λg=>al (c 4) λi=>E (cm i) λi=>E (ba 0 i) λi=>E (ao a d i) λi=>al (c 4) λj=>E (cm j) λj=>E (ba 1 j) λj=>E (ao a d j) λj=>E (la i j) λi=>aY (λc d g=>al (c 6) λh=>jn a h [] d g (λd f g=>E (cM 0 d) λh=>E (cM 1 d) λd=>E (dT [(.Z 0),(.str []),(.Z 0),(.int .u64 0),(.bool false),(.bool false),(.Z 0)] g) λi=>cQ a f g i.1 i.2 λf g i=>E (ce a g 7 f h) λg=>E (fG .not d) λh=>aY (λc d e=>al (c 4) λf=>E (cm f) λf=>E (ba 1 f) λf=>E (ao a d f) λf=>al (c 8) λg=>E (ba 2 g) λg=>E (ce a d 1 g f) λd=>eV (e+11) λe=>al (c 4) λf=>E (cm f) λg=>E (ba 1 g) λg=>E (ao a d g) λg=>al (c 8) λh=>E (ba 1 h) λh=>E (ao a d h) λh=>E (lJ h) λh=>E (aF .add g h) λg=>E (cm f) λf=>E (ba 1 f) λf=>E (ce a d 1 f g) λd=>al (c 5) λf=>al (c 8) λg=>E (cg a d 7 g) λg=>E (fg 1 [(.Z 0),(.str []),(.Z 0),(.int .u64 0),(.bool false),(.bool false),(.Z 0)] [(0,7,g)] e) λg=>cQ a d e g.1 g.2 λd e g=>gw (hC a e g 7 f d) e g λa d e=>b (ac c 5 a) d e) λb=>a7 h (eV (i+7) λb=>al (c 4) λd=>E (cm d) λd=>E (ba 1 d) λd=>E (ao a g d) λd=>E (eB [(.Z 0),(.Z 0)] [(0,1,(.Z 20)),(1,1,d)]) λd=>al (c 3) λf=>E (ce a g 2 f d) λd=>al (c 3) λc=>E (cg a d 2 c) λa=>e (.tuple [.aP,a]) d b) (b (zC c 8 f 9 d 59 h) g i)) f) λb=>aW a 112 [i] d g (λd e g=>aY b λb=>a7 d (al (c 4) λa=>b (zD c 6 (.func (.func 111) [h] []) 7 i 43 d 6 (.func (.func 113) [a] [])) e g) (aW a 114 [i] e g (λa e f=>aY b λb=>a7 a (al (c 4) λg=>b (ac (zD c 6 (.func (.func 111) [h] []) 7 i 43 d 48 a) 6 (.func (.func 115) [g] [])) e f) (b (zD c 6 (.func (.func 111) [h] []) 7 i 43 d 48 a) e f)) f)) f) λa=>a7 i (a (ac c 29 i) d g) (h (ac c 29 i) d g)) (zB b 4 c 5 .aP) d g) f) λf=>a7 h (E (eB [(.Z 0),(.Z 0)] [(0,1,(.Z 3))]) λb=>E (ce a d 2 c b) λb=>E (cg a b 2 c) λa=>e (.tuple [.aP,a]) b g) (f (zC (cS [b]) 2 .aP 3 c 12 h) d g)
def aji:dh X 66 [a0] h j ai ay=VO X a0 h j ai ay:=Zk
def ajh:cU X 66 1=true:=Zk
def T6(a:aZ)(b:F)(c:V an)(d:Nat)(e f:bI):Prop:=
 aY (λ_ a b=>e (.tuple []) a b) λg=>fJ (λb c d h=>eV (h+10) λh=>al (c 0) λi=>E (cm i) λi=>E (ba 1 i) λi=>E (ao a d i) λi=>al (c 0) λj=>E (cm j) λj=>E (ba 0 j) λj=>E (ao a d j) λj=>E (lJ j) λj=>E (aF .lss i j) λi=>aY (λc d g=>aY b λb=>aY b λb=>eV (g+12) λg=>al (c 0) λh=>E (cm h) λh=>E (ba 0 h) λh=>E (ao a d h) λh=>al (c 0) λi=>E (cm i) λi=>E (ba 1 i) λi=>E (ao a d i) λi=>E (la h i) λh=>aW a 163 [(.str [32,9,10,13]),h] d g (λd g h=>E (aF .geq d (.Z 0)) λd=>aY b λb=>a7 d (al (c 0) λe=>E (cm e) λf=>E (ba 1 f) λf=>E (ao a g f) λf=>E (aF .add f (.Z 1)) λf=>E (cm e) λe=>E (ba 1 e) λe=>E (ce a g 1 e f) λa=>b (ac c 12 d) a h) (eV (h+11) λh=>al (c 0) λi=>E (cm i) λi=>E (ba 0 i) λi=>E (ao a g i) λi=>al (c 0) λj=>E (cm j) λj=>E (ba 1 j) λj=>E (ao a g j) λj=>E (j7 i (some j) none) λi=>aW a 164 [i,(.str [45,45])] g h (λg h i=>aY b λb=>a7 g (eV (i+15) λe=>al (c 0) λi=>E (cm i) λj=>E (ba 1 j) λj=>E (ao a h j) λk=>al (c 0) λl=>al (c 0) λm=>E (cm m) λm=>E (ba 1 m) λm=>E (ao a h m) λm=>aW a 165 [l,m,(.func (.func 166) [] [])] h e (λe f h=>E (lJ e) λe=>E (aF .add k e) λe=>E (cm i) λi=>E (ba 1 i) λi=>E (ao a f j) λj=>gG j (some k) (E (ce a f 1 i e) λa=>b (zB c 12 d 31 g) a h)) f) (e (.tuple []) h i)) f)) f) λa=>a7 i (a (ac c 11 i) d h) (g (ac c 11 i) d h)) (cS [b]) c d
def af3:dh X 110 [a0] h j ai ay=T6 X a0 h j ai ay:=Zk
def af2:cU X 110 1=true:=Zk
def T7(a:aZ)(b:F)(c:V an)(d:Nat)(e f:bI):Prop:=
 E (dT [(.Z 0),(.str []),(.Z 0),(.int .u64 0),(.bool false),(.bool false),(.Z 0)] d) λg=>cQ a c d g.1 g.2 λc d g=>E (cg a d 17 (.ptr 1 0)) λh=>aY (λb c d=>E (eB [(.Z 0),(.str []),(.Z 0),(.int .u64 0),(.bool false),(.bool false),(.Z 0)] []) λf=>al (b 2) λg=>E (ce a c 7 g f) λc=>al (b 2) λb=>E (cg a c 7 b) λa=>e (.tuple [a,(.bool false)]) c d) λi=>fJ (λb c d g=>al (c 7) λh=>E (aF .lss h (.Z 17)) λh=>aY (λc d g=>aY (λa c d=>al (a 7) λe=>E (aF .add e (.Z 1)) λe=>b (ac a 7 e) c d) λb=>al (c 6) λh=>al (c 7) λi=>E (ts false 17 1 h i) λh=>eV (g+11) λg=>al (c 0) λi=>E (cm i) λi=>E (ba 0 i) λi=>E (ao a d i) λi=>al (c 0) λj=>E (cm j) λj=>E (ba 1 j) λj=>E (ao a d j) λj=>E (j7 i (some j) none) λi=>aW a 164 [i,h] d g (λd f g=>aY b λb=>a7 d (E (eB [(.Z 0),(.str []),(.Z 0),(.int .u64 0),(.bool false),(.bool false),(.Z 0)] [(0,1,(.Z 6)),(1,1,h)]) λb=>al (c 2) λd=>E (ce a f 7 d b) λb=>al (c 2) λc=>E (cg a b 7 c) λa=>e (.tuple [a,(.bool true)]) b g) (b (zB c 5 h 20 d) f g)) f) λa=>a7 h (a (ac c 8 h) d g) (i (ac c 8 h) d g)) (zD (cS [b]) 2 c 3 (.bool false) 6 h 7 (.Z 0)) d g
def af5:dh X 111 [a0] h j ai ay=T7 X a0 h j ai ay:=Zk
def af4:cU X 111 1=true:=Zk
def T8(_:aZ)(a:F)(b:V an)(c:Nat)(d _:bI):Prop:=
 E (aF .geq a (.int .u8 48)) λe=>jM e a b c (λa b c=>c2 e (aF .leq a (.int .u8 57)) b c (λa b c=>dd (λa=>d a b c) λb=>a7 e (b a) (b (.bool false))))
def af7:dh X 112 [a0] h j ai ay=T8 X a0 h j ai ay:=Zk
def af6:cU X 112 1=true:=Zk
def T9(a:aZ)(b:F)(c:V an)(d:Nat)(e f:bI):Prop:=
 E (dT [(.Z 0),(.str []),(.Z 0),(.int .u64 0),(.bool false),(.bool false),(.Z 0)] d) λg=>cQ a c d g.1 g.2 λc d g=>E (cm b) λh=>E (ba 1 h) λh=>E (ao a d h) λh=>aW a 165 [b,h,(.func (.func 112) [] [])] d g (λd g h=>aW a 167 [d,(.Z 10),(.Z 64)] g h (λg h i=>E (cM 0 g) λj=>E (cM 1 g) λg=>E (dn a h .neq 238 true g .nilIface) λk=>hh k d h i (λh i l=>dp k (lJ h) i l (λh i l=>dp k (aF .gtr h (.Z 20)) i l (λh i l=>dd (λh=>aY (λb c d=>al (b 0) λg=>al (b 0) λh=>E (cm h) λh=>E (ba 1 h) λh=>E (ao a c h) λh=>al (b 4) λi=>E (lJ i) λi=>E (aF .add h i) λh=>aW a 165 [g,h,(.func (.func 168) [] [])] c d (λc d g=>E (dn a d .eql 9 true c (.str [])) λh=>aY (λb c d=>al (b 7) λg=>aW a 169 [g] c d (λc d g=>E (cM 0 c) λh=>E (cM 1 c) λc=>E (dT [(.bool false),(.bool false),(.Z 0)] g) λi=>cQ a d g i.1 i.2 λd g i=>E (ce a g 3 d h) λg=>eV (i+19) λh=>al (b 4) λi=>al (b 7) λj=>E (dn a g .add 9 false i j) λk=>al (b 5) λl=>E (cg a g 3 d) λm=>E (eB [(.Z 0),(.str []),(.Z 0),(.int .u64 0),(.bool false),(.bool false),(.Z 0)] [(0,1,(.Z 5)),(1,1,k),(3,1,l),(4,3,m)]) λl=>gv c (ba 0 d) g (λg n=>gv c (ao a n g) n (λg n=>gv c (fG .not g) n (λg n=>dd (λc=>gv c (cg a n 3 d) n (λg n=>uW c (b 5) n (λn o=>lH c (λb=>aW a 170 [g,n] o h b f) o h (λf g h=>dd (λc=>E (dn a g .add 9 false i j) λf=>gG f (some k) (E (cg a g 3 d) λd=>gG d (some m) (al (b 2) λd=>E (ce a g 7 d l) λd=>al (b 2) λb=>E (cg a d 7 b) λa=>e (.tuple [a,c]) d h))) λa=>a7 c (a f) (a (.bool false)))))) λa=>a7 c (a g) (a (.bool false)))))) f) λf=>a7 h (al (b 4) λc=>al (b 5) λf=>E (eB [(.Z 0),(.str []),(.Z 0),(.int .u64 0),(.bool false),(.bool false),(.Z 0)] [(0,1,(.Z 4)),(1,1,c),(3,1,f)]) λc=>al (b 2) λf=>E (ce a d 7 f c) λc=>al (b 2) λb=>E (cg a c 7 b) λa=>e (.tuple [a,(.bool true)]) c g) (f (zB b 7 c 39 h) d g)) f) λf=>a7 h (E (eB [(.Z 0),(.str []),(.Z 0),(.int .u64 0),(.bool false),(.bool false),(.Z 0)] []) λb=>E (ce a i 7 c b) λb=>E (cg a b 7 c) λa=>e (.tuple [a,(.bool false)]) b l) (f (zB (zD (cS [b]) 2 c 3 (.bool false) 4 d 5 j) 6 g 27 h) i l)) λa=>a7 k (a (.bool true)) (a h))))) f) f
def af9:dh X 113 [a0] h j ai ay=T9 X a0 h j ai ay:=Zk
def af8:cU X 113 1=true:=Zk
def Ua(_:aZ)(a:F)(b:V an)(c:Nat)(d _:bI):Prop:=
 E (aF .geq a (.int .u8 97)) λe=>jM e a b c (λb c f=>c2 e (aF .leq b (.int .u8 122)) c f (λb c f=>dd (λb=>hh b a c f (λc e f=>dp b (aF .geq c (.int .u8 65)) e f (λc e f=>hh b c e f (λc e f=>jM c a e f (λe f g=>c2 c (aF .leq e (.int .u8 90)) f g (λe f g=>kd b (λa=>dd (λb=>a b f g) λa=>a7 c (a e) (a (.bool false))) f g (λc e f=>dd (λb=>hh b a e f (λa c e=>dp b (aF .eql a (.int .u8 95)) c e (λa c e=>dd (λa=>d a c e) λc=>a7 b (c (.bool true)) (c a)))) λa=>a7 b (a (.bool true)) (a c)))))))) λa=>a7 e (a b) (a (.bool false))))
def agb:dh X 114 [a0] h j ai ay=Ua X a0 h j ai ay:=Zk
def aga:cU X 114 1=true:=Zk
def Ub(a:aZ)(b:F)(c:V an)(d:Nat)(e f:bI):Prop:=
 E (dT [(.Z 0),(.str []),(.Z 0),(.int .u64 0),(.bool false),(.bool false),(.Z 0)] d) λg=>cQ a c d g.1 g.2 λc d g=>E (cm b) λh=>E (ba 1 h) λh=>E (ao a d h) λh=>aW a 165 [b,h,(.func (.func 168) [] [])] d g (λd g h=>E (eB [(.Z 0),(.str []),(.Z 0),(.int .u64 0),(.bool false),(.bool false),(.Z 0)] [(0,1,(.Z 1)),(1,1,d)]) λi=>E (dT [(.Z 0),(.str []),(.Z 0),(.int .u64 0),(.bool false),(.bool false),(.Z 0)] h) λj=>cQ a g h j.1 j.2 λg h j=>E (ce a h 7 g i) λh=>aW a 169 [d] h j (λh i j=>E (cM 0 h) λk=>E (cM 1 h) λh=>E (dT [(.bool false),(.bool false),(.Z 0)] j) λl=>cQ a i j l.1 l.2 λi j l=>E (ce a j 3 i k) λj=>aY (λb c d=>al (b 5) λf=>E (cg a c 7 f) λf=>al (b 4) λg=>E (lJ g) λg=>E (aF .leq g (.Z 32)) λg=>al (b 2) λh=>E (ce a c 7 h f) λc=>al (b 2) λb=>E (cg a c 7 b) λa=>e (.tuple [a,g]) c d) λe=>a7 h (eV (l+5) λf=>E (cg a j 3 i) λk=>E (ba 0 g) λl=>E (ce a j 1 l (.Z 3)) λj=>E (ba 4 g) λl=>E (cg a j 3 i) λm=>gG m (some k) (E (ce a j 3 l k) λa=>e (zC (zD (cS [b]) 2 c 3 (.bool false) 4 d 5 g) 6 i 7 h 21 h) a f)) (aW a 171 [d] j l (λf j k=>aY e λe=>a7 f (E (ba 0 g) λl=>E (ce a j 1 l (.Z 2)) λa=>e (zD (zD (cS [b]) 2 c 3 (.bool false) 4 d 5 g) 6 i 7 h 21 h 26 f) a k) (e (zD (zD (cS [b]) 2 c 3 (.bool false) 4 d 5 g) 6 i 7 h 21 h 26 f) j k)) f)) f) f
def agd:dh X 115 [a0] h j ai ay=Ub X a0 h j ai ay:=Zk
def agc:cU X 115 1=true:=Zk
def Uy(a:aZ)(b c:F)(d:V an)(e:Nat)(f g:bI):Prop:=
 aW a 199 [b,c] d e f g
def agY:dh X 163 [a0,bh] h j ai ay=Uy X a0 bh h j ai ay:=Zk
def agX:cU X 163 2=true:=Zk
def Uz(a:aZ)(b c:F)(d:V an)(e:Nat)(f g:bI):Prop:=
 aW a 200 [b,c] d e f g
def ag0:dh X 164 [a0,bh] h j ai ay=Uz X a0 bh h j ai ay:=Zk
def agZ:cU X 164 2=true:=Zk
def UA(a:aZ)(b c d:F)(e:V an)(f:Nat)(g h:bI):Prop:=
 aY (λb c d=>al (b 0) λe=>E (cm e) λe=>E (ba 0 e) λe=>E (ao a c e) λa=>al (b 1) λe=>al (b 7) λb=>E (j7 a (some e) (some b)) λa=>g a c d) λg=>fJ (λb c d e=>al (c 7) λf=>al (c 0) λi=>E (cm i) λi=>E (ba 0 i) λi=>E (ao a d i) λi=>E (lJ i) λi=>E (aF .lss f i) λf=>lI f (c 2) d e (λd e i=>lI f (c 0) e i (λe i j=>c2 f (cm e) i j (λe i j=>c2 f (ba 0 e) i j (λe i j=>c2 f (ao a i e) i j (λe i j=>lI f (c 7) i j (λi j k=>c2 f (la e i) j k (λe i j=>lH f (λb=>jn a d [e] i j b h) i j (λa d e=>dd (λa=>aY (λa c d=>aY b λb=>al (a 7) λe=>E (aF .add e (.Z 1)) λe=>b (ac a 7 e) c d) λb=>a7 a (b (ac c 25 a) d e) (g (ac c 25 a) d e)) λb=>a7 f (b a) (b (.bool false))))))))))) (zB (cS [b,c,d]) 6 (.str []) 7 c) e f
def ag2:dh X 165 [a0,bh,cl] h j ai ay=UA X a0 bh cl h j ai ay:=Zk
def ag1:cU X 165 3=true:=Zk
def UB(_:aZ)(a:F)(b:V an)(c:Nat)(d _:bI):Prop:=
 E (aF .neq a (.int .u8 10)) λa=>d a b c
def ag4:dh X 166 [a0] h j ai ay=UB X a0 h j ai ay:=Zk
def ag3:cU X 166 1=true:=Zk
def UC(a:aZ)(b c d:F)(e:V an)(f:Nat)(g h:bI):Prop:=
 aW a 201 [b,c,d] e f (λe f i=>E (cM 0 e) λj=>E (cM 1 e) λe=>E (dn a f .neq 238 true e .nilIface) λk=>aY (λa b c=>al (a 8) λa=>g (.tuple [a, .nilIface]) b c) λl=>a7 k (aW a 202 [(.str [80,97,114,115,101,85,105,110,116]),b,c,d,e] f i (λa b c=>g (.tuple [j,a]) b c) h) (l (ac (zD (cS [b,c,d]) 6 (.int .u64 0) 7 .nilIface 8 j 9 e) 18 k) f i)) h
def ag6:dh X 167 [a0,bh,cl] h j ai ay=UC X a0 bh cl h j ai ay:=Zk
def ag5:cU X 167 3=true:=Zk
def UD(a:aZ)(b:F)(c:V an)(d:Nat)(e f:bI):Prop:=
 aW a 114 [b] c d (λc d g=>hh c b d g (λb d g=>kd c (λc=>aW a 112 [b] d g c f) d g (λa b d=>dd (λa=>e a b d) λb=>a7 c (b (.bool true)) (b a)))) f
def ag8:dh X 168 [a0] h j ai ay=UD X a0 h j ai ay:=Zk
def ag7:cU X 168 1=true:=Zk
def UE(a:aZ)(b:F)(c:V an)(d:Nat)(e f:bI):Prop:=
 E (dT [(.bool false),(.bool false),(.Z 0)] d) λg=>cQ a c d g.1 g.2 λc d g=>E (dn a d .eql 9 true b (.str [98,111,111,108])) λh=>aY (λb c d=>al (b 0) λg=>E (dn a c .eql 9 true g (.str [])) λg=>w7 g (b 0) c d (λc d h=>dp g (la c (.Z 0)) d h (λc d h=>dp g (aF .neq c (.int .u8 117)) d h (λc d h=>hh g c d h (λc d h=>lI c (b 0) d h (λd h i=>c2 c (la d (.Z 0)) h i (λd h i=>c2 c (aF .neq d (.int .u8 105)) h i (λd h i=>kd g (λa=>dd (λb=>a b h i) λa=>a7 c (a d) (a (.bool false))) h i (λc d h=>dd (λc=>aY (λb c d=>al (b 0) λg=>E (j7 g (some (.Z 1)) none) λg=>aW a 203 [g] c d (λc d g=>E (cM 0 c) λh=>E (cM 1 c) λc=>al (b 0) λi=>E (la i (.Z 0)) λi=>E (aF .eql i (.int .u8 105)) λi=>E (eB [(.bool false),(.bool false),(.Z 0)] [(1,1,i),(2,1,h)]) λi=>E (dT [(.bool false),(.bool false),(.Z 0)] g) λj=>cQ a d g j.1 j.2 λd g j=>E (ce a g 3 d i) λg=>E (dn a g .neq 238 true c .nilIface) λi=>dp i (cg a g 3 d) g j (λg j k=>kd i (λb=>aW a 182 [g] j k b f) j k (λg j k=>dp i (fG .not g) j k (λg j k=>dd (λg=>dp g (cg a j 3 d) j k (λi j k=>kd g (λb=>aW a 204 [i] j k b f) j k (λf i j=>w7 g (b 0) i j (λi j k=>dp g (dn a j .neq 9 false f i) j k (λf i j=>dd (λf=>aY (λb c d=>al (b 6) λf=>E (cg a c 3 f) λf=>al (b 2) λg=>E (ce a c 3 g f) λc=>al (b 2) λb=>E (cg a c 3 b) λa=>e (.tuple [a,(.bool true)]) c d) λg=>a7 f (E (eB [(.bool false),(.bool false),(.Z 0)] []) λc=>al (b 2) λd=>E (ce a i 3 d c) λc=>al (b 2) λb=>E (cg a c 3 b) λa=>e (.tuple [a,(.bool false)]) c j) (g (zD b 4 h 5 c 6 d 46 f) i j)) λa=>a7 g (a (.bool true)) (a f)))))) λa=>a7 i (a (.bool true)) (a g))))) f) λf=>a7 c (E (eB [(.bool false),(.bool false),(.Z 0)] []) λc=>al (b 2) λf=>E (ce a d 3 f c) λc=>al (b 2) λb=>E (cg a c 3 b) λa=>e (.tuple [a,(.bool false)]) c h) (f (ac b 21 c) d h)) λa=>a7 g (a (.bool true)) (a c)))))))))) λf=>a7 h (E (eB [(.bool false),(.bool false),(.Z 0)] [(0,1,(.bool true)),(2,1,(.Z 1))]) λb=>E (ce a d 3 c b) λb=>E (cg a b 3 c) λa=>e (.tuple [a,(.bool true)]) b g) (f (zC (cS [b]) 2 c 3 (.bool false) 8 h) d g)
def aha:dh X 169 [a0] h j ai ay=UE X a0 h j ai ay:=Zk
def ag9:cU X 169 1=true:=Zk
def UF(a:aZ)(b c:F)(d:V an)(e:Nat)(f g:bI):Prop:=
 ip a d e b λd e h=>E (ba 1 d) λi=>E (ao a e i) λi=>aY (λb c d=>al (b 2) λe=>E (cg a c 3 e) λe=>al (b 1) λb=>aW a 205 [e,b] c d f g) λg=>a7 i (E (ba 2 d) λj=>E (ao a e j) λj=>E (aF .sub j (.Z 1)) λj=>E (eB [(.bool false),(.bool false),(.Z 0)] [(2,1,j)]) λj=>E (ce a e 3 d j) λe=>E (ba 2 d) λj=>E (ao a e j) λa=>E (aF .eql a (.Z 0)) λa=>aY g λg=>a7 a (E (aF .eql c (.int .u64 0)) λa=>f a e h) (g (zD (cS [b,c]) 2 d 4 (.bool false) 6 i 13 a) e h)) (g (zC (cS [b,c]) 2 d 4 (.bool false) 6 i) e h)
def ahc:dh X 170 [a0,bh] h j ai ay=UF X a0 bh h j ai ay:=Zk
def ahb:cU X 170 2=true:=Zk
def UG(a:aZ)(b:F)(c:V an)(d:Nat)(e _:bI):Prop:=
 E (ao a c (.ptr 3 0)) λf=>E (kr a c 9 (.bool false) f b false) λa=>e a c d
def ahe:dh X 171 [a0] h j ai ay=UG X a0 h j ai ay:=Zk
def ahd:cU X 171 1=true:=Zk
def U3(a:aZ)(b c:F)(d:V an)(e:Nat)(f g:bI):Prop:=
 aW a 223 [b,c] d e f g
def ahQ:dh X 199 [a0,bh] h j ai ay=U3 X a0 bh h j ai ay:=Zk
def ahP:cU X 199 2=true:=Zk
def U5(a:aZ)(b c:F)(d:V an)(e:Nat)(f _:bI):Prop:=
 E (lJ b) λg=>E (lJ c) λh=>E (aF .geq g h) λg=>jM g b d e (λb d e=>jM g c d e (λd e h=>c2 g (lJ d) e h (λd e h=>c2 g (j7 b none (some d)) e h (λb d e=>jM g c d e (λc d e=>c2 g (dn a d .eql 9 false b c) d e (λa b c=>dd (λa=>f a b c) λb=>a7 g (b a) (b (.bool false))))))))
def ahS:dh X 200 [a0,bh] h j ai ay=U5 X a0 bh h j ai ay:=Zk
def ahR:cU X 200 2=true:=Zk
def U6(a:aZ)(b c d:F)(e:V an)(f:Nat)(g h:bI):Prop:=
 E (dn a e .eql 9 true b (.str [])) λi=>aY (λb c d=>al (b 1) λe=>E (aF .eql e (.Z 0)) λe=>al (b 0) λf=>aY (λb c d=>al (b 2) λe=>E (aF .eql e (.Z 0)) λe=>aY (λb c d=>al (b 1) λe=>aY (λb c d=>al (b 2) λe=>E (mf .u64 e) λe=>E (aF .shl (.int .u64 1) e) λe=>E (aF .sub e (.int .u64 1)) λe=>al (b 0) λf=>gw (NS a c d f) c d λc d f=>E (dX c) λi=>aY (λb c d=>al (b 12) λe=>lI e (b 9) c d (λc d f=>lH e (λb=>aW a 225 [c] d f b h) d f (λa c d=>c2 e (fG .not a) c d (λa c d=>dd (λa=>aY (λa b c=>al (a 13) λa=>g (.tuple [a, .nilIface]) b c) λe=>a7 a (E (some (F.iface 281 (.Z 2))) λa=>g (.tuple [(.int .u64 0),a]) c d) (e (ac b 169 a) c d)) λb=>a7 e (b a) (b (.bool false)))))) λj=>fJ (λb c d e=>al (c 101) λf=>al (c 100) λi=>E (aF .lss f i) λf=>aY (λc d e=>aY (λa c d=>al (a 101) λe=>E (aF .add e (.Z 1)) λe=>b (ac a 101 e) c d) λb=>al (c 99) λf=>al (c 101) λi=>E (dW 1 f i) λf=>E (ao a d f) λf=>aY (λa c d=>al (a 16) λe=>al (a 1) λf=>E (mf .u8 f) λf=>E (aF .geq e f) λe=>aY (λa c d=>al (a 13) λe=>al (a 10) λf=>E (aF .geq e f) λe=>aY (λa c d=>al (a 13) λe=>al (a 1) λf=>E (mf .u64 f) λf=>E (aF .mul e f) λe=>al (a 16) λf=>E (mf .u64 f) λf=>E (aF .add e f) λf=>E (aF .lss f e) λh=>hh h f c d (λc d i=>w7 h (a 11) d i (λd i j=>dp h (aF .gtr c d) i j (λc d i=>dd (λc=>aY (λa c d=>al (a 17) λe=>b (ac a 13 e) c d) λb=>a7 c (al (a 11) λa=>E (some (F.iface 281 (.Z 1))) λb=>g (.tuple [a,b]) d i) (b (zC a 13 e 17 f 159 c) d i)) λa=>a7 h (a (.bool true)) (a c))))) λb=>a7 e (al (a 11) λa=>E (some (F.iface 281 (.Z 1))) λb=>g (.tuple [a,b]) c d) (b (ac a 141 e) c d)) λb=>a7 e (E (some (F.iface 281 (.Z 2))) λa=>g (.tuple [(.int .u64 0),a]) c d) (b (ac a 137 e) c d)) λi=>E (aF .eql f (.int .u8 95)) λj=>lI j (c 8) d e (λd e k=>dd (λd=>aY i λi=>a7 d (b (zD c 15 f 16 (.int .u8 0) 106 d 12 (.bool true)) e k) (E (aF .leq (.int .u8 48) f) λb=>jM b f e k (λe j k=>c2 b (aF .leq e (.int .u8 57)) j k (λe j k=>dd (λb=>aY i λe=>a7 b (E (aF .sub f (.int .u8 48)) λa=>e (ac (zD c 15 f 16 (.int .u8 0) 106 d 112 b) 16 a) j k) (aW a 224 [f] j k (λi j k=>E (aF .leq (.int .u8 97) i) λi=>jM i f j k (λj k l=>lH i (λb=>aW a 224 [j] k l b h) k l (λj k l=>c2 i (aF .leq j (.int .u8 122)) k l (λj k l=>dd (λi=>aY e λe=>a7 i (aW a 224 [f] k l (λa g h=>E (aF .sub a (.int .u8 97)) λa=>E (aF .add a (.int .u8 10)) λa=>e (zB (zD c 15 f 16 (.int .u8 0) 106 d 112 b) 121 i 16 a) g h) h) (E (some (F.iface 281 (.Z 2))) λa=>g (.tuple [(.int .u64 0),a]) k l)) λa=>a7 i (a j) (a (.bool false)))))) h)) λa=>a7 b (a e) (a (.bool false)))))) λa=>a7 j (a d) (a (.bool false)))) λa=>a7 f (a (ac c 102 f) d e) (j (ac c 102 f) d e)) (zB (zD b 11 e 12 (.bool false) 13 (.int .u64 0) 99 c) 100 i 101 (.Z 0)) d f) λa=>E (aF .eql e (.Z 10)) λf=>aY a λa=>a7 f (a (zD b 10 (.int .u64 0) 85 e 90 f 10 (.int .u64 1844674407370955162)) c d) (E (aF .eql e (.Z 16)) λg=>aY a λa=>a7 g (a (ac (zD b 10 (.int .u64 0) 85 e 90 f 92 g) 10 (.int .u64 1152921504606846976)) c d) (al (b 1) λh=>E (mf .u64 h) λh=>E (aF .quo (.int .u64 18446744073709551615) h) λh=>E (aF .add h (.int .u64 1)) λh=>a (ac (zD b 10 (.int .u64 0) 85 e 90 f 92 g) 10 h) c d))) λa=>a7 e (a (zB b 77 e 2 (.Z 64)) c d) (al (b 2) λf=>E (aF .lss f (.Z 0)) λf=>w7 f (b 2) c d (λc d h=>dp f (aF .gtr c (.Z 64)) d h (λc d h=>dd (λc=>aY a λa=>a7 c (E (some (F.iface 281 (.Z 4))) λa=>g (.tuple [(.int .u64 0),a]) d h) (a (zB b 77 e 83 c) d h)) λa=>a7 f (a (.bool true)) (a c))))) λi=>al (b 1) λj=>E (aF .leq (.Z 2) j) λj=>lI j (b 1) c d (λc d k=>c2 j (aF .leq c (.Z 36)) d k (λc d k=>dd (λc=>aY i λi=>a7 c (i (zC b 8 e 9 f 25 c) d k) (al (b 1) λj=>E (aF .eql j (.Z 0)) λj=>aY i λi=>a7 j (al (b 0) λg=>E (la g (.Z 0)) λg=>E (aF .eql g (.int .u8 48)) λg=>aY i λi=>a7 g (aY i λi=>al (b 0) λl=>E (lJ l) λl=>E (aF .geq l (.Z 3)) λl=>lI l (b 0) d k (λd k m=>c2 l (la d (.Z 1)) k m (λd k m=>lH l (λb=>aW a 224 [d] k m b h) k m (λd k m=>c2 l (aF .eql d (.int .u8 98)) k m (λd k m=>dd (λd=>aY i λi=>a7 d (al (b 0) λa=>E (j7 a (some (.Z 2)) none) λa=>i (ac (zD (zD b 8 e 9 f 25 c 32 j) 1 (.Z 10) 37 g 40 d 1 (.Z 2)) 0 a) k m) (al (b 0) λl=>E (lJ l) λl=>E (aF .geq l (.Z 3)) λl=>lI l (b 0) k m (λk m n=>c2 l (la k (.Z 1)) m n (λk m n=>lH l (λb=>aW a 224 [k] m n b h) m n (λk m n=>c2 l (aF .eql k (.int .u8 111)) m n (λk m n=>dd (λk=>aY i λi=>a7 k (al (b 0) λa=>E (j7 a (some (.Z 2)) none) λa=>i (zB (zD (zD b 8 e 9 f 25 c 32 j) 1 (.Z 10) 37 g 40 d 52 k) 1 (.Z 8) 0 a) m n) (al (b 0) λl=>E (lJ l) λl=>E (aF .geq l (.Z 3)) λl=>lI l (b 0) m n (λm n o=>c2 l (la m (.Z 1)) n o (λm n o=>lH l (λb=>aW a 224 [m] n o b h) n o (λa h m=>c2 l (aF .eql a (.int .u8 120)) h m (λa h m=>dd (λa=>aY i λi=>a7 a (al (b 0) λl=>E (j7 l (some (.Z 2)) none) λl=>i (zC (zD (zD b 8 e 9 f 25 c 32 j) 1 (.Z 10) 37 g 40 d 52 k) 64 a 1 (.Z 16) 0 l) h m) (al (b 0) λl=>E (j7 l (some (.Z 1)) none) λl=>i (zC (zD (zD b 8 e 9 f 25 c 32 j) 1 (.Z 10) 37 g 40 d 52 k) 64 a 1 (.Z 8) 0 l) h m)) λb=>a7 l (b a) (b (.bool false)))))))) λa=>a7 l (a k) (a (.bool false)))))))) λa=>a7 l (a d) (a (.bool false))))))) (i (zB (zD b 8 e 9 f 25 c 32 j) 1 (.Z 10) 37 g) d k)) (E (some (F.iface 281 (.Z 3))) λa=>g (.tuple [(.int .u64 0),a]) d k))) λa=>a7 j (a c) (a (.bool false))))) λa=>a7 i (E (some (F.iface 281 (.Z 2))) λa=>g (.tuple [(.int .u64 0),a]) e f) (a (zC (cS [b,c,d]) 6 (.int .u64 0) 7 .nilIface 19 i) e f)
def ahU:dh X 201 [a0,bh,cl] h j ai ay=U6 X a0 bh cl h j ai ay:=Zk
def ahT:cU X 201 3=true:=Zk
def U7(a:aZ)(b c d e f:F)(g:V an)(h:Nat)(i j:bI):Prop:=
 aY (λa b c=>al (a 4) λa=>i a b c) λk=>E (some (F.iface 281 (.Z 2))) λl=>E (dn a g .eql 238 false f l) λl=>aY k λk=>a7 l (aW a 226 [b,c] g h (λa b c=>E (some (F.iface 283 a)) λa=>i a b c) j) (E (some (F.iface 281 (.Z 1))) λm=>E (dn a g .eql 238 false f m) λm=>aY k λk=>a7 m (aW a 227 [b,c] g h (λa b c=>E (some (F.iface 283 a)) λa=>i a b c) j) (E (some (F.iface 281 (.Z 3))) λn=>E (dn a g .eql 238 false f n) λn=>aY k λk=>a7 n (aW a 228 [b,c,d] g h (λa b c=>E (some (F.iface 283 a)) λa=>i a b c) j) (E (some (F.iface 281 (.Z 4))) λo=>E (dn a g .eql 238 false f o) λo=>aY k λk=>a7 o (aW a 229 [b,c,e] g h (λa b c=>E (some (F.iface 283 a)) λa=>i a b c) j) (k (zB (zD (cS [b,c,d,e,f]) 10 .nilIface 11 f 12 l 19 m) 26 n 34 o) g h))))
def ahW:dh X 202 [a0,bh,cl,a3,a4] h j ai ay=U7 X a0 bh cl a3 a4 h j ai ay:=Zk
def ahV:cU X 202 5=true:=Zk
def U8(a:aZ)(b:F)(c:V an)(d:Nat)(e f:bI):Prop:=
 aW a 230 [b] c d (λc d g=>E (cM 0 c) λh=>E (cM 1 c) λc=>E (dn a d .neq 238 true c .nilIface) λi=>aY (λa b c=>al (a 4) λa=>e (.tuple [a, .nilIface]) b c) λj=>a7 i (aW a 202 [(.str [65,116,111,105]),b,(.Z 0),(.Z 0),c] d g (λa b c=>e (.tuple [h,a]) b c) f) (j (ac (zD (cS [b]) 2 (.Z 0) 3 .nilIface 4 h 5 c) 12 i) d g)) f
def ahY:dh X 203 [a0] h j ai ay=U8 X a0 h j ai ay:=Zk
def ahX:cU X 203 1=true:=Zk
def U9(a:aZ)(b:F)(c:V an)(d:Nat)(e f:bI):Prop:=
 ip a c d b λc d g=>aY (λb c d=>al (b 1) λb=>E (ba 2 b) λb=>E (ao a c b) λb=>aW a 183 [b] c d (λb c d=>E (dn a c .add 9 true (.str [117]) b) λa=>e a c d) f) λh=>E (cg a d 3 c) λi=>aW a 182 [i] d g (λd g i=>E (fG .not d) λd=>aY h λh=>a7 d (e (.str []) g i) (E (ba 0 c) λj=>E (ao a g j) λj=>aY h λh=>a7 j (e (.str [98,111,111,108]) g i) (E (ba 1 c) λk=>E (ao a g k) λk=>aY h λh=>a7 k (E (ba 2 c) λb=>E (ao a g b) λb=>aW a 183 [b] g i (λb c d=>E (dn a c .add 9 true (.str [105]) b) λa=>e a c d) f) (h (ac (zD (cS [b]) 1 c 2 (.str []) 3 d 7 j) 10 k) g i)))) f
def ah0:dh X 204 [a0] h j ai ay=U9 X a0 h j ai ay:=Zk
def ahZ:cU X 204 1=true:=Zk
def Va(a:aZ)(b c:F)(d:V an)(e:Nat)(f g:bI):Prop:=
 ip a d e b λb d e=>E (cg a d 3 b) λh=>aW a 182 [h] d e (λd e h=>jM d c e h (λc e h=>c2 d (cg a e 3 b) e h (λb e h=>lH d (λc=>aW a 231 [b] e h c g) e h (λa b e=>c2 d (aF .andNot c a) b e (λa b c=>c2 d (aF .eql a (.int .u64 0)) b c (λa b c=>dd (λa=>f a b c) λb=>a7 d (b a) (b (.bool false)))))))) g
def ah2:dh X 205 [a0,bh] h j ai ay=Va X a0 bh h j ai ay:=Zk
def ah1:cU X 205 2=true:=Zk
def Vn(a:aZ)(b c:F)(d:V an)(e:Nat)(f g:bI):Prop:=
 eV (e+7) λh=>E (ao a d (.ptr 6 0)) λi=>aW a 240 [c] d h (λc d g=>E (eB [(.str []),(.str []), .nilIface] [(0,1,b),(1,1,c),(2,1,i)]) λb=>xP a d (e+5) b λb c=>E (ao a c (.ptr 6 0)) λa=>gG a (some i) (f b c g)) g
def aiu:dh X 226 [a0,bh] h j ai ay=Vn X a0 bh h j ai ay:=Zk
def ait:cU X 226 2=true:=Zk
def Vo(a:aZ)(b c:F)(d:V an)(e:Nat)(f g:bI):Prop:=
 eV (e+7) λh=>E (ao a d (.ptr 7 0)) λi=>aW a 240 [c] d h (λc d g=>E (eB [(.str []),(.str []), .nilIface] [(0,1,b),(1,1,c),(2,1,i)]) λb=>xP a d (e+5) b λb c=>E (ao a c (.ptr 7 0)) λa=>gG a (some i) (f b c g)) g
def aiw:dh X 227 [a0,bh] h j ai ay=Vo X a0 bh h j ai ay:=Zk
def aiv:cU X 227 2=true:=Zk
def Vp(a:aZ)(b:F)(c:V an)(d:Nat)(e f:bI):Prop:=
 E (lJ b) λg=>oS (λc d h=>oS (λc d h=>oS (λc d h=>jM c g d h (λd h i=>c2 c (aF .lss d (.Z 10)) h i (λd h i=>oS (λc d h=>dd (λc=>hh c (.bool true) d h (λd h i=>jM d g h i (λh i j=>c2 d (aF .lss (.Z 0) h) i j (λh i j=>jM d h i j (λh i j=>jM h g i j (λi j k=>c2 h (aF .lss i (.Z 19)) j k (λi j k=>lH d (λa=>dd (λb=>a b j k) λa=>a7 h (a i) (a (.bool false))) j k (λh i j=>kd c (λa=>dd (λb=>a b i j) λa=>a7 d (a h) (a (.bool false))) i j (λd h i=>dd (λc=>aY (λb c d=>al (b 0) λb=>aW a 242 [b,(.Z 10),(.Z 0)] c d (λa b c=>E (cM 0 a) λd=>E (cM 1 a) λa=>e (.tuple [d,a]) b c) f) λd=>a7 c (E (la b (.Z 0)) λd=>E (aF .eql d (.int .u8 45)) λd=>hh d b h i (λf h i=>dp d (la f (.Z 0)) h i (λf h i=>dp d (aF .eql f (.int .u8 43)) h i (λf h i=>dd (λd=>aY (λb c d=>al (b 0) λf=>gw (NS a c d f) c d λc d f=>E (dX c) λg=>aY (λa b c=>al (a 5) λd=>E (la d (.Z 0)) λd=>E (aF .eql d (.int .u8 45)) λd=>aY (λa b c=>al (a 6) λa=>e (.tuple [a, .nilIface]) b c) λe=>a7 d (al (a 6) λf=>E (fG .neg f) λf=>e (zB a 66 d 6 f) b c) (e (ac a 66 d) b c)) λh=>fJ (λb c d f=>al (c 49) λg=>al (c 48) λi=>E (aF .lss g i) λg=>aY (λc d f=>aY (λa c d=>al (a 49) λe=>E (aF .add e (.Z 1)) λe=>b (ac a 49 e) c d) λb=>al (c 47) λg=>al (c 49) λh=>E (dW 1 g h) λg=>E (ao a d g) λa=>E (aF .sub a (.int .u8 48)) λg=>E (aF .gtr g (.int .u8 9)) λh=>aY (λa c d=>al (a 6) λe=>E (aF .mul e (.Z 10)) λe=>al (a 8) λf=>E (mf .i64 f) λf=>E (aF .add e f) λe=>b (ac a 6 e) c d) λb=>a7 h (E (some (F.iface 281 (.Z 2))) λa=>e (.tuple [(.Z 0),a]) d f) (b (zC c 8 a 8 g 56 h) d f)) λa=>a7 g (a (ac c 50 g) d f) (h (ac c 50 g) d f)) (zD b 6 (.Z 0) 47 c 48 g 49 (.Z 0)) d f) λa=>a7 d (E (j7 b (some (.Z 1)) none) λf=>E (lJ f) λj=>E (aF .lss j (.Z 1)) λj=>aY a λa=>a7 j (E (some (F.iface 281 (.Z 2))) λa=>e (.tuple [(.Z 0),a]) h i) (a (zD (zD (cS [b]) 2 (.Z 0) 3 .nilIface 4 g 30 c) 5 b 39 d 0 f 44 j) h i)) (a (zB (zD (cS [b]) 2 (.Z 0) 3 .nilIface 4 g 30 c) 5 b 39 d) h i)) λa=>a7 d (a (.bool true)) (a f))))) (d (zD (cS [b]) 2 (.Z 0) 3 .nilIface 4 g 30 c) h i)) λa=>a7 c (a (.bool true)) (a d)))))))))) λa=>a7 (.bool false) (a c) (a (.bool false))) λa=>it true (.bool false) (dd (λb=>a b h i) λa=>a7 c (a d) (a (.bool false))) (a bi.undef h i)))) λa=>it true (.bool false) (a c d h) (a bi.undef d h)) λa=>it true (.bool false) (E (aF .lss (.Z 0) c) λb=>a b d h) (a bi.undef d h)) λa=>it true (.bool false) (a g c d) (a bi.undef c d)
def aiy:dh X 230 [a0] h j ai ay=Vp X a0 h j ai ay:=Zk
def aix:cU X 230 1=true:=Zk
def Vq(a:aZ)(b:F)(c:V an)(d:Nat)(e _:bI):Prop:=
 ip a c d b λb c d=>E (ba 2 b) λb=>E (ao a c b) λa=>E (aF .sub (.Z 64) a) λa=>E (aF .shr (.int .u64 18446744073709551615) a) λa=>e a c d
def aiA:dh X 231 [a0] h j ai ay=Vq X a0 h j ai ay:=Zk
def aiz:cU X 231 1=true:=Zk
def Vw(a:aZ)(b c d:F)(e:V an)(f:Nat)(g h:bI):Prop:=
 E (dn a e .eql 9 true b (.str [])) λi=>aY (λb c d=>al (b 0) λe=>E (la e (.Z 0)) λe=>aY (λb c d=>al (b 0) λe=>al (b 1) λf=>al (b 2) λi=>aW a 201 [e,f,i] c d (λc d e=>E (cM 0 c) λf=>E (cM 1 c) λc=>E (dn a d .neq 238 true c .nilIface) λh=>jM h c d e (λd e i=>c2 h (some (F.iface 281 (.Z 1))) e i (λe i j=>c2 h (dn a i .neq 238 false d e) i j (λa d e=>dd (λa=>aY (λa b c=>al (a 2) λd=>E (aF .eql d (.Z 0)) λd=>aY (λa b c=>al (a 2) λd=>E (aF .sub d (.Z 1)) λd=>E (mf .u64 d) λd=>E (aF .shl (.int .u64 1) d) λd=>al (a 8) λe=>E (fG .not e) λe=>lI e (a 9) b c (λb c f=>jM e d c f (λc f h=>c2 e (aF .geq b c) f h (λb c f=>dd (λb=>aY (λa b c=>al (a 8) λd=>lI d (a 9) b c (λb c e=>lI d (a 10) c e (λc e f=>c2 d (aF .gtr b c) e f (λb c e=>dd (λb=>aY (λa b c=>al (a 9) λd=>E (mf .i64 d) λd=>al (a 8) λe=>aY (λa b c=>al (a 11) λa=>g (.tuple [a, .nilIface]) b c) λf=>a7 e (E (fG .neg d) λg=>f (zC a 11 d 69 e 11 g) b c) (f (zB a 11 d 69 e) b c)) λd=>a7 b (al (a 10) λa=>E (mf .i64 a) λa=>E (fG .neg a) λa=>E (some (F.iface 281 (.Z 1))) λb=>g (.tuple [a,b]) c e) (d (ac a 62 b) c e)) λa=>a7 d (a b) (a (.bool false)))))) λe=>a7 b (E (aF .sub d (.int .u64 1)) λa=>E (mf .i64 a) λa=>E (some (F.iface 281 (.Z 1))) λb=>g (.tuple [a,b]) c f) (e (zB a 10 d 52 b) c f)) λa=>a7 e (a b) (a (.bool false)))))) λe=>a7 d (e (zB a 41 d 2 (.Z 64)) b c) (e (ac a 41 d) b c)) λh=>a7 a (g (.tuple [(.Z 0),c]) d e) (h (zD b 9 (.int .u64 0) 9 f 7 c 38 a) d e)) λb=>a7 h (b a) (b (.bool false)))))) h) λa=>E (aF .eql e (.int .u8 43)) λf=>aY a λa=>a7 f (al (b 0) λg=>E (j7 g (some (.Z 1)) none) λg=>a (zD b 8 (.bool false) 16 e 17 f 0 g) c d) (E (aF .eql e (.int .u8 45)) λg=>aY a λa=>a7 g (al (b 0) λh=>E (j7 h (some (.Z 1)) none) λh=>a (zB (zD b 8 (.bool false) 16 e 17 f 21 g) 0 h 8 (.bool true)) c d) (a (zD b 8 (.bool false) 16 e 17 f 21 g) c d))) λa=>a7 i (E (some (F.iface 281 (.Z 2))) λa=>g (.tuple [(.Z 0),a]) e f) (a (zC (cS [b,c,d]) 6 (.Z 0) 7 .nilIface 13 i) e f)
def aiM:dh X 242 [a0,bh,cl] h j ai ay=Vw X a0 bh cl h j ai ay:=Zk
def aiL:cU X 242 3=true:=Zk
def UT(a:aZ)(b:F)(c:V an)(d:Nat)(e f:bI):Prop:=
 aW a 209 [b] c d e f
def ahu:dh X 183 [a0] h j ai ay=UT X a0 h j ai ay:=Zk
def aht:cU X 183 1=true:=Zk
def Ve(a:aZ)(b:F)(c:V an)(d:Nat)(e f:bI):Prop:=
 aW a 233 [b,(.Z 10)] c d e f
def aia:dh X 209 [a0] h j ai ay=Ve X a0 h j ai ay:=Zk
def ah9:cU X 209 1=true:=Zk
def Vs(a:aZ)(b c:F)(d:V an)(e:Nat)(f g:bI):Prop:=
 E (aF .eql c (.Z 10)) λh=>aY (λb c d=>al (b 0) λe=>E (mf .u64 e) λe=>al (b 1) λh=>al (b 0) λb=>E (aF .lss b (.Z 0)) λb=>aW a 247 [.aP,e,h,b,(.bool false)] c d (λa b c=>E (cM 0 a) λ_=>E (cM 1 a) λa=>f a b c) g) λi=>a7 h (E (aF .leq (.Z 0) b) λi=>jM i b d e (λd e j=>c2 i (aF .lss d (.Z 100)) e j (λd e j=>dd (λd=>aY (λb c d=>E (dT [(.int .u8 0),(.int .u8 0),(.int .u8 0),(.int .u8 0),(.int .u8 0),(.int .u8 0),(.int .u8 0),(.int .u8 0),(.int .u8 0),(.int .u8 0),(.int .u8 0),(.int .u8 0),(.int .u8 0),(.int .u8 0),(.int .u8 0),(.int .u8 0),(.int .u8 0),(.int .u8 0),(.int .u8 0),(.int .u8 0),(.int .u8 0),(.int .u8 0),(.int .u8 0),(.int .u8 0)] d) λe=>cQ a c d e.1 e.2 λc d e=>al (b 0) λh=>E (mf .u64 h) λh=>al (b 0) λi=>E (aF .lss i (.Z 0)) λi=>aY (λb c d=>al (b 6) λe=>aW a 245 [e] c d (λc d e=>E (aF .add (.Z 1) c) λh=>al (b 5) λi=>E (Ts 24 1 i (some (.Z 1)) (some h) none) λh=>al (b 6) λi=>aW a 246 [h,i] d e (λ_ d e=>al (b 0) λg=>E (aF .lss g (.Z 0)) λg=>aY (λb c d=>al (b 7) λe=>E (aF .add (.Z 1) e) λe=>al (b 5) λb=>E (Ts 24 1 b (some (.Z 1)) (some e) none) λb=>E (Au a c b) λa=>f a c d) λh=>a7 g (al (b 5) λg=>E (FQ 24 1 g (.Z 0)) λg=>E (ce a d 1 g (.int .u8 45)) λd=>E (aF .add (.Z 1) c) λc=>al (b 5) λb=>E (Ts 24 1 b none (some c) none) λb=>E (Au a d b) λa=>f a d e) (h (zB b 7 c 34 g) d e)) g) g) λa=>a7 i (E (fG .neg h) λf=>a (zD b 5 c 6 h 23 i 6 f) d e) (a (zC b 5 c 6 h 23 i) d e)) λi=>a7 d (aW a 244 [b] e j f g) (i (zC (cS [b,c]) 4 (.str []) 11 h 17 d) e j)) λa=>a7 i (a d) (a (.bool false))))) (i (zB (cS [b,c]) 4 (.str []) 11 h) d e)
def aiE:dh X 233 [a0,bh] h j ai ay=Vs X a0 bh h j ai ay:=Zk
def aiD:cU X 233 2=true:=Zk
end
end Go.Proofs.YtpfajohmofnkfaaGreatDoor

namespace Go.Proofs.YtpfajohmofnkfaaGreatDoor
open Go.bi
noncomputable section
variable (X : ck) (h : V an) (j : Nat) (ai ay : bI) (a0 bh cl a3 a4 a5 hB hY iU : F)
def Vm(_:aZ)(a:F)(b:V an)(c:Nat)(d _:bI):Prop:=
 E (aF .or a (.int .u8 32)) λa=>d a b c
def ais:dh X 224 [a0] h j ai ay=Vm X a0 h j ai ay:=Zk
def air:cU X 224 1=true:=Zk
def Vy(_:aZ)(a:F)(b:V an)(c:Nat)(d _:bI):Prop:=
 E (aF .lss a (.Z 10)) λe=>aY (λa b c=>al (a 0) λe=>E (aF .mul e (.Z 2)) λe=>al (a 0) λa=>E (aF .mul a (.Z 2)) λa=>E (aF .add a (.Z 2)) λa=>E (j7 (.str [48,48,48,49,48,50,48,51,48,52,48,53,48,54,48,55,48,56,48,57,49,48,49,49,49,50,49,51,49,52,49,53,49,54,49,55,49,56,49,57,50,48,50,49,50,50,50,51,50,52,50,53,50,54,50,55,50,56,50,57,51,48,51,49,51,50,51,51,51,52,51,53,51,54,51,55,51,56,51,57,52,48,52,49,52,50,52,51,52,52,52,53,52,54,52,55,52,56,52,57,53,48,53,49,53,50,53,51,53,52,53,53,53,54,53,55,53,56,53,57,54,48,54,49,54,50,54,51,54,52,54,53,54,54,54,55,54,56,54,57,55,48,55,49,55,50,55,51,55,52,55,53,55,54,55,55,55,56,55,57,56,48,56,49,56,50,56,51,56,52,56,53,56,54,56,55,56,56,56,57,57,48,57,49,57,50,57,51,57,52,57,53,57,54,57,55,57,56,57,57]) (some e) (some a)) λa=>d a b c) λf=>a7 e (E (aF .add a (.Z 1)) λe=>E (j7 (.str [48,49,50,51,52,53,54,55,56,57,97,98,99,100,101,102,103,104,105,106,107,108,109,110,111,112,113,114,115,116,117,118,119,120,121,122]) (some a) (some e)) λa=>d a b c) (f (zB (cS [a]) 2 (.str []) 4 e) b c)
def aiQ:dh X 244 [a0] h j ai ay=Vy X a0 h j ai ay:=Zk
def aiP:cU X 244 1=true:=Zk
end
end Go.Proofs.YtpfajohmofnkfaaGreatDoor

namespace Go.Proofs.YtpfajohmofnkfaaGreatDoor
open Go.bi Go.aU
noncomputable section
def iw(c:Nat):Bool:=decide (48<=c)&&decide (c<=57)
def qs(c:Nat):Bool:=decide (97<=c)&&decide (c<=122)||decide (65<=c)&&decide (c<=90)||decide (c=95)
def iN(c:Nat):Bool:=qs c||iw c
def Bd{s:bk}{i c:Nat}(B:IntKind)(a:s[i]? =some c):la (.str s) (.int B (i:Int))=some (.int .u8 (c:Int)):=by
 simp[la,rg,a]
def Tt{s:bk}{l a:Nat}(B e4:IntKind)(Q:l<=a)(U:a<=s.length):j7 (.str s) (some (.int B (l:Int))) (some (.int e4 (a:Int)))=some (.str ((s.drop l).take (a-l))):=by
 simp[j7,lQ,oW,rg,fw,Q,U]
def NV{s:bk}{l:Nat}(B:IntKind)(Q:l<=s.length):j7 (.str s) (some (.int B (l:Int))) none=some (.str (s.drop l)):=by
 simp[j7,lQ,oW,rg,fw,Q,ZC]
def aw2{s:bk}{a:Nat}(B:IntKind)(Q:a<=s.length):j7 (.str s) none (some (.int B (a:Int)))=some (.str (s.take a)):=by
 simp[j7,lQ,oW,rg,fw,Q]
section
variable{X:ck}{h T a2 aS:V an}{j au aO bg:Nat}
def Pt(aA:dz X)(c:Nat):aW X 112 [.int .u8 (c:Int)] h j (λae T au=>ae= .bool (iw c)/\T=h/\au=j) (λ_ _ _=>False):=by
 refine zA aA (af6 X) ?_
 rw[af7]
 unfold T8
 by_cases a:48<=c
 ·have d:decide ((48:Int)<=(c:Int))=true:=by simp;omega
  have cP:decide ((c:Int)<=57)=decide (c<=57):=by simp;omega
  refine cV @d @cP ⟨?_⟩
  exact⟨by simp[iw,a],rfl,rfl⟩
 ·have d:decide ((48:Int)<=(c:Int))=false:=by simp;omega
  refine ci @d ⟨?_⟩
  exact⟨by simp[iw,a],rfl,rfl⟩
def WG(aA:dz X)(c:Nat):aW X 114 [.int .u8 (c:Int)] h j (λae T au=>ae= .bool (qs c)/\T=h/\au=j) (λ_ _ _=>False):=by
 refine zA aA (aga X) ?_
 rw[agb]
 unfold Ua
 have cX:decide ((97:Int)<=(c:Int))=decide (97<=c):=by simp;omega
 have cP:decide ((c:Int)<=122)=decide (c<=122):=by simp;omega
 have eQ:decide ((65:Int)<=(c:Int))=decide (65<=c):=by simp;omega
 have iq:decide ((c:Int)<=90)=decide (c<=90):=by simp;omega
 have f5:decide ((c:Int)=95)=decide (c=95):=by simp;omega
 by_cases Q:97<=c<;>by_cases U:c<=122<;>by_cases ar:65<=c<;>by_cases aK:c<=90<;>try omega
 all_goals
  simp only[Q,U,ar,aK,Yp,Yd]at cX cP eQ iq
  refine gA @cX @cP @eQ @iq @f5 ⟨?_⟩
  exact⟨by simp[qs,Q,U,ar,aK],rfl,rfl⟩
def at4(aA:dz X)(c:Nat):aW X 168 [.int .u8 (c:Int)] h j (λae T au=>ae= .bool (iN c)/\T=h/\au=j) (λ_ _ _=>False):=by
 refine zA aA (ag7 X) ?_
 rw[ag8]
 unfold UD
 refine(WG aA c).Zm ?_
 rintro ae T au ⟨rfl,rfl,rfl⟩
 cases aj:qs c with
 |true=>
  refine cL ⟨?_⟩
  exact⟨by simp[iN,aj],rfl,rfl⟩
 |false=>
  refine cL ⟨?_⟩
  refine(Pt aA c).Zm ?_
  rintro ae T au ⟨rfl,rfl,rfl⟩
  refine cL ⟨?_⟩
  exact⟨by simp[iN,aj],rfl,rfl⟩
def aur(aA:dz X)(c:Nat):aW X 166 [.int .u8 (c:Int)] h j (λae T au=>ae= .bool (decide (c≠10))/\T=h/\au=j) (λ_ _ _=>False):=by
 refine zA aA (ag3 X) ?_
 rw[ag4]
 unfold UB
 refine cL ⟨?_⟩
 exact⟨by congr 1;simp;omega,rfl,rfl⟩
def qy(c:Nat):Nat:=(BitVec.ofInt 8 (c:Int)|||BitVec.ofInt 8 32).toNat%256
def SC(aA:dz X)(c:Nat):aW X 224 [.int .u8 (c:Int)] h j (λae T au=>ae= .int .u8 (qy c:Int)/\T=h/\au=j) (λ_ _ _=>False):=by
 refine zA aA (air X) ?_
 rw[ais]
 unfold Vm
 have J:aF .or (.int .u8 (c:Int)) (.int .u8 32)=some (.int .u8 (pg .u8 ((BitVec.ofInt 8 (c:Int)|||BitVec.ofInt 8 32).toNat))):=by
  simp[aF,lG,lY,lo,kT];rfl
 refine ci @J ⟨?_⟩
 exact⟨rfl,rfl,rfl⟩
def ad7(aA:dz X)(s p:bk):aW X 164 [.str s, .str p] h j (λae T au=>ae= .bool (decide (p.length<=s.length/\s.take p.length=p))/\T=h/\au=j) (λ_ _ _=>False):=by
 refine zA aA (agZ X) ?_
 rw[ag0]
 unfold Uz
 refine zA aA (ahR X) ?_
 rw[ahS]
 unfold U5
 by_cases a:p.length<=s.length
 ·have d:decide ((p.length:Int)<=(s.length:Int))=true:=by simp;omega
  have J:=aw2 (s:=s) .i64 a
  refine cV @d @J ⟨?_⟩
  exact⟨by congr 1;simp[a],rfl,rfl⟩
 ·have d:decide ((p.length:Int)<=(s.length:Int))=false:=by simp;omega
  refine ci @d ⟨?_⟩
  exact⟨by congr 1;simp;omega,rfl,rfl⟩
end
def Kv(X:ck)(f:F)(p:Nat->Bool):Prop:=∃B,f= .func (.func B) [] []/\∀(h:V an) (j c:Nat),aW X B [.int .u8 (c:Int)] h j (λae T au=>ae= .bool (p c)/\T=h/\au=j) (λ_ _ _=>False)
def awl{X:ck}(aA:dz X):Kv X (.func (.func 112) [] []) iw:=⟨_,rfl,λh j c=>Pt aA c⟩
def aet{X:ck}(aA:dz X):Kv X (.func (.func 168) [] []) iN:=⟨_,rfl,λh j c=>at4 aA c⟩
def awm{X:ck}(aA:dz X):Kv X (.func (.func 166) [] []) (λc=>decide (c≠10)):=⟨_,rfl,λh j c=>aur aA c⟩
structure mK(X:ck)(h:V an)(f7:Nat)(s:bk)(i:Nat):Prop where
 g:ab X h f7=zx [.str s, .Z (i:Int)] 2
 le:i<=s.length
 many:s.length<=65536
 fB:(o X).a8<=f7
def mK.d7{X:ck}{h:V an}{f7:Nat}{s:bk}{i:Nat}(a:mK X h f7 s i):ao X h (.ptr f7 0)=some (.str s):=by rw[bR a.g];rfl
def mK.dt{X:ck}{h:V an}{f7:Nat}{s:bk}{i:Nat}(a:mK X h f7 s i):ao X h (.ptr f7 1)=some (.Z (i:Int)):=by rw[bR a.g];rfl
def mK.ad{X:ck}{h T:V an}{f7:Nat}{s:bk}{i:Nat}(a:mK X h f7 s i)(B:ab X T f7=ab X h f7):mK X T f7 s i:=⟨by rw[B];exact a.g,a.le,a.many,a.fB⟩
section
variable{X:ck}{h T a2 aS:V an}{j au aO bg f7:Nat}{s:bk}{i:Nat}
def NO(aA:dz X){f:F}{p:Nat->Bool}(ch:Kv X f p)(Z:mK X h f7 s i){K:Nat}(aE:K<=s.length):
 aW X 165 [.ptr f7 0, .Z (K:Int),f] h j (λae T au=>ae= .str ((s.drop K).takeWhile p)/\T=h/\au=j) (λ_ _ _=>False):=by
 refine zA aA (ag1 X) ?_
 rw[ag2]
 unfold UA
 obtain⟨B,rfl,ch⟩:=ch
 have bp:=Z.many
 have d7:=Z.d7
 refine cL ⟨?_⟩
 refine fU (λm M T aV=>∃(J:Nat),M.g 0=some (.ptr f7 0)/\M.g 1=some (.Z (K:Int))/\M.g 2=some (.func (.func B) [] [])/\M.g 7=some (.Z (J:Int))/\K<=J/\J+m=s.length/\T=h/\aV=j/\(s.drop K).takeWhile p=(s.drop K).take (J-K)++(s.drop J).takeWhile p)
  (s.length-K) ⟨K,bw,bw,bw,bw,Zi _,Zo,rfl,rfl,Zs⟩ ?_
 rintro m M aS bg ⟨J,t0,t1,ez,g4,aoY,azH,rfl,rfl,bJ⟩
 have bD:=zy J
 have a6:j7 (.str s) (some (.Z (K:Int))) (some (.Z (J:Int)))=some (.str ((s.drop K).take (J-K))):=Tt .i64 .i64 aoY Zo
 cases m with
 |zero=>
  have d:=zu J s.length
  rw[ZN (by omega:s.length<=J),List.takeWhile_nil,Yz]at bJ
  refine e7 @g4 @t0 @t1 @ez @d7 @d @a6 ⟨?_⟩
  exact⟨by rw[bJ],rfl,rfl⟩
 |succ m=>
  have d:=zv J s.length
  obtain⟨c,aB⟩:=zw s J
  have aM:s.drop J=c::s.drop (J+1):=by
   obtain⟨ah,H⟩:=Zb.1 aB
   rw[Zv ah,H]
  have dZ:=Bd .i64 aB
  refine e7 @g4 @t0 @t1 @ez @d7 @d @dZ ⟨?_⟩
  refine(ch aS bg c).Zm ?_
  rintro ae bb bs ⟨rfl,rfl,rfl⟩
  rw[aM,YF]at bJ
  cases az:p c with
  |false=>
   rw[az]at bJ
   simp only[Zw,ZA,Yz]at bJ
   refine gA @g4 @t0 @t1 @d7 @a6 ⟨?_⟩
   exact⟨by rw[bJ],rfl,rfl⟩
  |true=>
   rw[az]at bJ
   simp only[ZD]at bJ
   refine cV @g4 @bD ⟨?_⟩
   refine⟨m,Zo,J+1,bf t0,bf t1,bf ez,bw,Zo,Zo,rfl,rfl, ?_⟩
   rw[bJ,show J+1-K=(J-K)+1 by omega,Z5]
   have:(s.drop K)[J-K]? =some c:=by rw[YJ,show K+(J-K)=J by omega];exact aB
   rw[this]
   simp
end
def I9(c:Nat):Bool:=decide (c=32)||decide (c=9)||decide (c=10)||decide (c=13)
structure iE(X:ck):Prop extends dz X where
 idx:∀c:Nat,c<256->∃bt:Int,X.O 223 [.str [32,9,10,13], .int .u8 (c:Int)]=some (.Z bt)/\(0<=bt↔I9 c=true)
 clone:∀s:bk,(∀c∈s,c<256)->s.length<=65536->X.O 240 [.str s]=some (.str s)
def nK(s:bk):Nat->Nat->Nat
 |0,i=>i
 |n+1,i=>match s[i]? with
  |none=>i
  |some c=>if I9 c then nK s n (i+1)
   else if 2<=(s.drop i).length/\(s.drop i).take 2=[45,45]then nK s n (i+((s.drop i).takeWhile λc=>decide (c≠10)).length)else i
def D2{α:Type}(p:α->Bool):∀l:List α,(l.takeWhile p).length<=l.length:=by
 intro l
 induction l with
 |nil=>simp
 |cons K l ak=>rw[YF];split<;>simp<;>omega
section
variable{X:ck}{h T a2 aS:V an}{j au aO bg f7:Nat}{s:bk}{i:Nat}
def asi(aA:iE X){c:Nat}(aB:c<256):aW X 163 [.str [32,9,10,13], .int .u8 (c:Int)] h j (λae T au=>(∃bt:Int,ae= .Z bt/\(0<=bt↔I9 c=true))/\T=h/\au=j) (λ_ _ _=>False):=by
 refine zA aA.todz (agX X) ?_
 rw[agY]
 unfold Uy
 refine zA aA.todz (ahP X) ?_
 rw[ahQ]
 unfold U3
 obtain⟨bt,Q,U⟩:=aA.idx c aB
 exact EF Q ⟨⟨bt,rfl,U⟩,rfl,rfl⟩
def WJ(aA:iE X)(Z:mK X h f7 s i)(aj:∀c∈s,c<256)(aL:(o X).a8<=j)(IS:f7<j):
 aW X 110 [.ptr f7 0] h j (λae T au=>mK X T f7 s (nK s s.length i)/\ca X [f7] h j T au) (λ_ _ _=>False):=by
 refine zA aA.todz (af2 X) ?_
 rw[af3]
 unfold T6
 have bp:=Z.many
 have hS:=Z.fB
 refine cL ⟨?_⟩
 refine fU (λm M T aV=>∃(aa:Nat),M.g 0=some (.ptr f7 0)/\mK X T f7 s aa/\s.length<=aa+m/\nK s s.length i=nK s m aa/\ca X [f7] h j T aV)
  s.length ⟨i,bw,Z,Zo,rfl,ca.refl _ _ _⟩ ?_
 rintro m M aS bg ⟨aa,t0,gL,azT,bG,du⟩
 have ge:=du.le
 have d7:=gL.d7
 have dt:=gL.dt
 have uB:=gL.le
 have b7:=gL.g
 by_cases wM:aa=s.length
 ·subst wM
  have cv:nK s m s.length=s.length:=by cases m<;>simp[nK]
  have d:decide ((s.length:Int)<(s.length:Int))=false:=by simp
  refine gt @t0 @d7 @dt @d ⟨?_⟩
  exact⟨by rw[bG,cv];exact gL,du.trans ⟨Zo,λ_ _ _=>rfl⟩⟩
 have d:=zv aa s.length
 obtain⟨c,aB⟩:=zw s aa
 obtain⟨m,rfl⟩:∃gm,m=gm+1:=⟨m-1,Zo⟩
 rw[nK,aB]at bG
 simp only[]at bG
 have dZ:=Bd .i64 aB
 have L0:=aj c (Zl aB)
 refine gA @t0 @d7 @dt @d @dZ ⟨?_⟩
 refine(asi aA L0).Zm ?_
 rintro ae bb bs ⟨⟨bt,rfl,cv⟩,rfl,rfl⟩
 cases fz:I9 c with
 |true=>
  have k9:=cv.2 fz
  have cP:decide ((0:Int)<=bt)=true:=by simp;omega
  have bD:=zy aa
  rw[fz]at bG
  simp only[ZD]at bG
  refine gt @t0 @dt @cP @bD ⟨?_⟩
  refine⟨m,Zo,aa+1,bf t0,⟨by rw[bm Zo];rfl,Zo,bp,hS⟩,Zo,bG,du.trans ⟨Zo,λb aj bQ=>by simp only[Zt,ZL,YX,Yr,ZH,Yb]at bQ;exact zz⟩⟩
 |false=>
  have cP:decide ((0:Int)<=bt)=false:=by simp;have:=mt cv.1 (by rw[fz];decide);omega
  have bD:j7 (.str s) (some (.Z (aa:Int))) none=some (.str (s.drop aa)):=NV .i64 uB
  rw[fz]at bG
  simp only[Zw,ZA]at bG
  refine gA @t0 @d7 @dt @cP @bD ⟨?_⟩
  refine(ad7 aA.todz (s.drop aa) [45,45]).Zm ?_
  rintro ae bF c7 ⟨rfl,rfl,rfl⟩
  by_cases az:2<=(s.drop aa).length/\(s.drop aa).take 2=[45,45]
  ·rw[Zq az]at bG
   have eQ:decide ([45,45].length<=(s.drop aa).length/\List.take [45,45].length (s.drop aa)=[45,45])=true:=decide_eq_true az
   have aC:=D2 (λc=>decide (c≠10)) (s.drop aa)
   rw[YB]at aC
   generalize bJ:((s.drop aa).takeWhile λc=>decide (c≠10)).length=w at bG aC
   have si:1<=w:=by
    have an7:c=45:=by
     have:=az.2
     have aM:s.drop aa=c::s.drop (aa+1):=by
      obtain⟨ah,H⟩:=Zb.1 aB
      rw[Zv ah,H]
     rw[aM]at this
     simp at this
     exact this.1
    have aM:s.drop aa=c::s.drop (aa+1):=by
     obtain⟨ah,H⟩:=Zb.1 aB
     rw[Zv ah,H]
    rw[aM,an7,YF]at bJ
    simp at bJ
    omega
   have cF:aF .add (.Z (aa:Int)) (.Z (w:Int))=some (.Z ((aa+w:Nat):Int)):=by rw[eT Zo Zo];rfl
   simp only[eQ]
   refine er @t0 @d7 @dt ⟨?_⟩
   refine(NO aA.todz (awm aA.todz) gL uB).Zm ?_
   rintro ae bX b2 ⟨rfl,rfl,rfl⟩
   have fx:lJ (.str ((s.drop aa).takeWhile λc=>decide (c≠10)))=some (.Z (w:Int)):=by rw[sn,bJ]
   refine er @fx @cF @dt ⟨?_⟩
   refine gP (by simp[F.same]) ?_
   refine cL ⟨?_⟩
   refine⟨m,Zo,aa+w,bf t0,⟨by rw[bm Zo];rfl,Zo,bp,hS⟩,Zo,bG,du.trans ⟨Zo,λb aj bQ=>by simp only[Zt,ZL,YX,Yr,ZH,Yb]at bQ;exact zz⟩⟩
  ·rw[Zg az]at bG
   have eQ:decide ([45,45].length<=(s.drop aa).length/\List.take [45,45].length (s.drop aa)=[45,45])=false:=decide_eq_false az
   simp only[eQ]
   refine cL ⟨?_⟩
   exact⟨by rw[bG];exact gL,du.trans ⟨Zo,λ_ _ _=>rfl⟩⟩
end
def sx:bk->Nat->Nat×Nat
 |[],n=>(n,0)
 |c::l,n=>if iw c then(if 1844674407370955162<=n then(18446744073709551615,1)else if 18446744073709551616<=n*10+(c-48)then(18446744073709551615,1)else sx l (n*10+(c-48)))
  else(0,2)
def kh(s:bk):Nat×Nat:=if s=[]then(0,2)else sx s 0
def wo:Nat->F
 |0=> .nilIface
 |n+1=> .iface 281 (.Z ((n+1:Nat):Int))
def WR{C:aZ}{h:V an}{j:Nat}{s:bk}{ai:bI}(a:s.length<=1048576)(B:ai (.en j 0 s.length 1) (bn C h j (some (.cells (V.ofList (s.map λn:Nat=>F.int .u8 (n:Int)) 0 .nil) s.length (.grow [])))) (j+1)):gw (NS C h j (.str s)) h j ai:=by
 refine ki (v:= .en j 0 s.length 1) (T:=bn C h j (some (.cells (V.ofList (s.map λn:Nat=>F.int .u8 (n:Int)) 0 .nil) s.length (.grow [])))) (au:=j+1) ?_ B
 simp[NS,s7,kJ a,mV]
def aft{x:Int}(Q:0<=x)(U:x<18446744073709551616):pg .u64 x=x:=by
 simp only[pg];exact YS Q U
def asb{x e:Nat}(a:x+e<18446744073709551616):aF .add (.int .u64 (x:Int)) (.int .u64 (e:Int))=some (.int .u64 ((x+e:Nat):Int)):=by
 rw[acq];congr 2;rw[YS Zo Zo];rfl
def asc{x e:Nat}(a:x*e<18446744073709551616):aF .mul (.int .u64 (x:Int)) (.int .u64 (e:Int))=some (.int .u64 ((x*e:Nat):Int)):=by
 have:(x:Int)*(e:Int)=((x*e:Nat):Int):=by simp
 simp only[aF,lG,lY,lo,jF,eP,kT,this]
 rw[aft Zo Zo,ES]
def acs{x e:Nat}(a:e<=x)(U:x<256):aF .sub (.int .u8 (x:Int)) (.int .u8 (e:Int))=some (.int .u8 ((x-e:Nat):Int)):=by
 have:(x:Int) -(e:Int)=((x-e:Nat):Int):=Zo
 have w:pg .u8 ((x-e:Nat):Int)=((x-e:Nat):Int):=by simp only[pg];exact YS Zo Zo
 simp only[aF,lG,lY,lo,jF,eP,kT,this,w,ES]
def asa{x e:Nat}(U:x+e<256):aF .add (.int .u8 (x:Int)) (.int .u8 (e:Int))=some (.int .u8 ((x+e:Nat):Int)):=by
 have:(x:Int)+(e:Int)=((x+e:Nat):Int):=Zo
 have w:pg .u8 ((x+e:Nat):Int)=((x+e:Nat):Int):=by simp only[pg];exact YS Zo Zo
 simp only[aF,lG,lY,lo,jF,eP,kT,this,w,ES]
section
variable{X:ck}{h T a2 aS:V an}{j au aO bg f7:Nat}{s:bk}{i:Nat}
def ae8(aA:iE X)(aD:s.length<=65536)(aj:∀c∈s,c<256)(aL:(o X).a8<=j){b:Int}(ao2:b=0\/b=64):
 aW X 201 [.str s, .Z 10, .Z b] h j (λae T au=>ae= .tuple [.int .u64 ((kh s).1:Int),wo (kh s).2]/\bq X h j T au) (λ_ _ _=>False):=by
 refine zA aA.todz (ahT X) ?_
 rw[ahU]
 unfold U6
 by_cases b6:s=[]
 ·subst b6
  have d:decide (([]:List Nat)=[])=true:=rfl
  refine ci @d ⟨?_⟩
  exact⟨rfl,dU⟩
 have d:decide (s=[])=false:=by simp[b6]
 have aG:decide ((2:Int)<=10)=true:=rfl
 have Ht:decide ((10:Int)<=36)=true:=rfl
 have alw:decide ((10:Int)=10)=true:=rfl
 have eb:aF .shl (.int .u64 1) (.int .u64 64)=some (.int .u64 0):=by rfl
 have JZ:aF .sub (.int .u64 0) (.int .u64 1)=some (.int .u64 18446744073709551615):=by rfl
 have W7:mf .u64 (.Z 64)=some (.int .u64 64):=by rfl
 have alu:(64:Int)%18446744073709551616=64:=rfl
 have W8:(10:Int)%18446744073709551616=10:=rfl
 have pu:decide ((10:Int)=0)=false:=rfl
 have aqT:kh s=sx s 0:=by simp[kh,b6]
 rw[aqT]
 rcases ao2 with rfl|rfl
 all_goals
  have cX:decide ((0:Int)=0)=true:=rfl
  have cP:decide ((64:Int)=0)=false:=rfl
  have eQ:decide ((64:Int)<0)=false:=rfl
  have iq:decide ((64:Int)<64)=false:=rfl
  refine e7 @d @aG @Ht @alw @pu @cX (Za @cP (Za @eQ (Za @iq (Za @eb (Za @JZ (Za @W7 @alu)))))) ⟨?_⟩
  refine WR Zo ?_
  have P2:ab X (bn X h j (some (.cells (V.ofList (s.map λn:Nat=>F.int .u8 (n:Int)) 0 .nil) s.length (.grow [])))) j=some (.cells (V.ofList (s.map λn:Nat=>F.int .u8 (n:Int)) 0 .nil) s.length (.grow [])):=bm aL
  have Qo:bq X h j (bn X h j (some (.cells (V.ofList (s.map λn:Nat=>F.int .u8 (n:Int)) 0 .nil) s.length (.grow [])))) (j+1):=dU
  generalize bn X h j (some (.cells (V.ofList (s.map λn:Nat=>F.int .u8 (n:Int)) 0 .nil) s.length (.grow [])))=tS at*
  refine cL ⟨?_⟩
  refine fU (λm M T aV=>∃(aa n:Nat),M.g 99=some (.en j 0 s.length 1)/\M.g 100=some (.Z (s.length:Int))/\M.g 101=some (.Z (aa:Int))/\M.g 13=some (.int .u64 (n:Int))/\M.g 10=some (.int .u64 1844674407370955162)/\M.g 11=some (.int .u64 18446744073709551615)/\M.g 12=some (.bool false)/\M.g 8=some (.bool false)/\M.g 1=some (.Z 10)/\aa+m=s.length/\n<18446744073709551616/\T=tS/\j+1<=aV/\sx s 0=sx (s.drop aa) n)
   s.length ⟨0,0,bw,bw,gc,gc,bw,bw,bw,bw,bw,Zo,Zo,rfl,Zo,rfl⟩ ?_
  rintro m M aS bg ⟨aa,n,sG,GM,J3,lj,nw,oi,tG,gx,t1,bG,aAs,rfl,kR,az⟩
  have bK:bq X h j aS bg:=⟨Zo,Qo.ad⟩
  cases m with
  |zero=>
   have f5:=zu aa s.length
   rw[ZN (by omega:s.length<=aa),sx]at az
   rw[az]
   refine gA @J3 @GM @tG @lj @f5 ⟨?_⟩
   exact⟨rfl,bK⟩
  |succ m=>
   have f5:=zv aa s.length
   have bD:=zy aa
   obtain⟨c,aB⟩:=zw s aa
   have aM:s.drop aa=c::s.drop (aa+1):=by
    obtain⟨ah,H⟩:=Zb.1 aB
    rw[Zv ah,H]
   have L0:=aj c (Zl aB)
   have dZ:dW 1 (.en j 0 s.length 1) (.Z (aa:Int))=some (.ptr j aa):=by rw[Dg _ Zo];simp
   have uF:ao X aS (.ptr j aa)=some (.int .u8 (c:Int)):=by rw[bR P2,kw];simp[aB]
   rw[aM,sx]at az
   rw[az]
   have aA2:decide ((c:Int)=95)=decide (c=95):=by simp;omega
   have M2:mf .u8 (.Z 10)=some (.int .u8 10):=rfl
   by_cases pF:iw c=true
   ·have QY:48<=c/\c<=57:=by simpa[iw]using pF
    rw[Zq pF]
    have uY:decide ((c:Int)=95)=false:=by simp;omega
    have bV:decide ((48:Int)<=(c:Int))=true:=by simp;omega
    have cw:decide ((c:Int)<=57)=true:=by simp;omega
    have c4:aF .sub (.int .u8 (c:Int)) (.int .u8 48)=some (.int .u8 ((c-48:Nat):Int)):=acs (e:=48) Zo L0
    have ec:decide ((10:Int)<=((c-48:Nat):Int))=false:=by simp;omega
    by_cases L1:1844674407370955162<=n
    ·rw[Zq L1]
     have eU:decide ((1844674407370955162:Int)<=(n:Int))=true:=by simp;omega
     refine e7 @J3 @GM @sG @gx @t1 @f5 (Za @dZ (Za @uF (Za @uY (Za @bV (Za @cw (Za @c4 (Za @ec (Za @M2 (Za @lj (Za @nw (Za @eU @oi))))))))))) ⟨?_⟩
     exact⟨rfl,bK⟩
    ·rw[Zg L1]
     have eU:decide ((1844674407370955162:Int)<=(n:Int))=false:=by simp;omega
     have dK:aF .mul (.int .u64 (n:Int)) (.int .u64 10)=some (.int .u64 ((n*10:Nat):Int)):=asc (e:=10) Zo
     have gM:((c-48:Nat):Int)%18446744073709551616=((c-48:Nat):Int):=YS Zo Zo
     by_cases Rz:18446744073709551616<=n*10+(c-48)
     ·rw[Zq Rz]
      have hw:aF .add (.int .u64 ((n*10:Nat):Int)) (.int .u64 ((c-48:Nat):Int))=some (.int .u64 ((n*10+(c-48) -18446744073709551616:Nat):Int)):=by
       have aqp:(((n*10:Nat):Int)+((c-48:Nat):Int))%18446744073709551616=((n*10+(c-48) -18446744073709551616:Nat):Int):=Zo
       rw[acq,aqp]
      have hl:decide (((n*10+(c-48) -18446744073709551616:Nat):Int)<((n*10:Nat):Int))=true:=by simp only[Zh];omega
      refine e7 @J3 @GM @sG @gx @t1 @f5 (Za @dZ (Za @uF (Za @uY (Za @bV (Za @cw (Za @c4 (Za @ec (Za @M2 (Za @lj (Za @nw (Za @eU (Za @W8 (Za @dK (Za @gM (Za @hw (Za @hl @oi)))))))))))))))) ⟨?_⟩
      exact⟨rfl,bK⟩
     ·have Fu:=az
      rw[Zq pF,Zg L1,Zg Rz]at Fu
      rw[Zg Rz]
      have hw:aF .add (.int .u64 ((n*10:Nat):Int)) (.int .u64 ((c-48:Nat):Int))=some (.int .u64 ((n*10+(c-48):Nat):Int)):=asb Zo
      have hl:decide (((n*10+(c-48):Nat):Int)<((n*10:Nat):Int))=false:=by simp only[Zc];omega
      have uZ:decide ((18446744073709551615:Int)<((n*10+(c-48):Nat):Int))=false:=by simp only[Zc];omega
      refine e7 @J3 @GM @sG @gx @t1 @f5 (Za @dZ (Za @uF (Za @uY (Za @bV (Za @cw (Za @c4 (Za @ec (Za @M2 (Za @lj (Za @nw (Za @eU (Za @W8 (Za @dK (Za @gM (Za @hw (Za @hl (Za @uZ (Za @oi @bD)))))))))))))))))) ⟨?_⟩
      exact⟨m,Zo,aa+1,n*10+(c-48),bf sG,bf GM,bw,bw,bf nw,bf oi,bf tG,bf gx,bf t1,Zo,Zo,rfl,Zo,by first|exact Fu|rw[Fu]|rfl⟩
   ·have QY:¬(48<=c/\c<=57):=by simpa[iw]using pF
    rw[Zg pF]
    have af0:qy c<256:=Nat.mod_lt _ Zo
    have cD:decide ((97:Int)<=(qy c:Int))=decide (97<=qy c):=by simp;omega
    have cp:decide ((qy c:Int)<=122)=decide (qy c<=122):=by simp;omega
    have bV:decide ((48:Int)<=(c:Int))=decide (48<=c):=by simp;omega
    have cw:decide ((c:Int)<=57)=decide (c<=57):=by simp;omega
    have fin:97<=qy c->qy c<=122->∃bt:Nat,aF .sub (.int .u8 (qy c:Int)) (.int .u8 97)=some (.int .u8 ((qy c-97:Nat):Int))/\aF .add (.int .u8 ((qy c-97:Nat):Int)) (.int .u8 10)=some (.int .u8 ((qy c-97+10:Nat):Int))/\decide ((10:Int)<=((qy c-97+10:Nat):Int))=true:=λQ U=>
     ⟨0,acs (e:=97) Q af0,asa (e:=10) Zo,by simp only[Zh];omega⟩
    by_cases azs:c=95<;>by_cases an8:48<=c<;>by_cases an9:c<=57<;>try omega
    all_goals
     simp only[an8,an9,Yp,Yd]at bV cw
     first|have acD:decide ((c:Int)=95)=true:=by simp only[Zh];omega|have acD:decide ((c:Int)=95)=false:=by simp only[Zc];omega
     refine e7 @J3 @GM @sG @gx @t1 @f5 (Za @dZ (Za @uF (Za @acD (Za @bV @cw)))) ⟨?_⟩
     refine(SC aA.todz c).Zm ?_
     rintro ae bb bs ⟨rfl,rfl,rfl⟩
     by_cases qm:97<=qy c
     ·simp only[qm,Yp]at cD
      refine ci @cD ⟨?_⟩
      refine(SC aA.todz c).Zm ?_
      rintro ae bb bs ⟨rfl,rfl,rfl⟩
      by_cases nT:qy c<=122
      ·simp only[nT,Yp]at cp
       refine ci @cp ⟨?_⟩
       refine(SC aA.todz c).Zm ?_
       rintro ae bb bs ⟨rfl,rfl,rfl⟩
       obtain⟨_,eM,eZ,ji⟩:=fin qm nT
       refine gA @eM @eZ @ji @M2 @t1 ⟨?_⟩
       exact⟨rfl,bK⟩
      ·simp only[nT,Yd]at cp
       refine ci @cp ⟨?_⟩
       exact⟨rfl,bK⟩
     ·simp only[qm,Yd]at cD
      refine ci @cD ⟨?_⟩
      exact⟨rfl,bK⟩
end
structure lP(X:ck):Prop where
 awY:∃b,∀h,ao X h (.ptr 6 0)=some (.iface 304 (.ptr b 0))
 seven:∃b,∀h,ao X h (.ptr 7 0)=some (.iface 304 (.ptr b 0))
section
variable{X:ck}{h T a2 aS:V an}{j au aO bg f7:Nat}{s:bk}{i:Nat}
def al8:dn X h .eql 238 false (.iface 281 (.Z 2)) (.iface 281 (.Z 2))=some (.bool true):=Zk
def al7:dn X h .eql 238 false (.iface 281 (.Z 1)) (.iface 281 (.Z 2))=some (.bool false):=Zk
def al6:dn X h .eql 238 false (.iface 281 (.Z 1)) (.iface 281 (.Z 1))=some (.bool true):=Zk
def Gg(B:Int):dn X h .neq 238 true (.iface 281 (.Z B)) .nilIface=some (.bool true):=Zk
def Dv:dn X h .neq 238 true .nilIface .nilIface=some (.bool false):=Zk
def adr(b:Nat):dn X h .neq 238 true (.iface 283 (.ptr b 0)) .nilIface=some (.bool true):=Zk
def axJ(aA:iE X)(bT:lP X)(f:bk)(aD:s.length<=65536)(pD:∀c∈s,c<256)(aL:(o X).a8<=j):
 aW X 226 [.str f, .str s] h j (λae T au=>(∃b,ae= .ptr b 0)/\bq X h j T au) (λ_ _ _=>False):=by
 refine zA aA.todz (ait X) ?_
 rw[aiu]
 unfold Vn
 obtain⟨b,aj⟩:=bT.awY
 refine ci @aj ⟨?_⟩
 refine EF (aA.clone s pD aD) ?_
 refine ci @aj ⟨?_⟩
 refine gP (by simp[F.same]) ?_
 exact⟨⟨_,rfl⟩,dU⟩
def avQ(aA:iE X)(bT:lP X)(f:bk)(aD:s.length<=65536)(pD:∀c∈s,c<256)(aL:(o X).a8<=j):
 aW X 227 [.str f, .str s] h j (λae T au=>(∃b,ae= .ptr b 0)/\bq X h j T au) (λ_ _ _=>False):=by
 refine zA aA.todz (aiv X) ?_
 rw[aiw]
 unfold Vo
 obtain⟨b,aj⟩:=bT.seven
 refine ci @aj ⟨?_⟩
 refine EF (aA.clone s pD aD) ?_
 refine ci @aj ⟨?_⟩
 refine gP (by simp[F.same]) ?_
 exact⟨⟨_,rfl⟩,dU⟩
def K8(aA:iE X)(bT:lP X)(f:bk)(x e:F)(aD:s.length<=65536)(pD:∀c∈s,c<256)(aL:(o X).a8<=j){B:Nat}(aN:B=1\/B=2):
 aW X 202 [.str f, .str s,x,e,wo B] h j (λae T au=>(∃b,ae= .iface 283 (.ptr b 0))/\bq X h j T au) (λ_ _ _=>False):=by
 refine zA aA.todz (ahV X) ?_
 rw[ahW]
 unfold U7
 rcases aN with rfl|rfl
 ·have bD:wo 1= .iface 281 (.Z 1):=rfl
  rw[bD]
  refine cV @al7 @al6 ⟨?_⟩
  refine(avQ aA bT f aD pD aL).Zm ?_
  rintro ae bb bs ⟨⟨b,rfl⟩,cq⟩
  refine cL ⟨?_⟩
  exact⟨⟨_,rfl⟩,cq⟩
 ·have bD:wo 2= .iface 281 (.Z 2):=rfl
  rw[bD]
  refine ci @al8 ⟨?_⟩
  refine(axJ aA bT f aD pD aL).Zm ?_
  rintro ae bb bs ⟨⟨b,rfl⟩,cq⟩
  refine cL ⟨?_⟩
  exact⟨⟨_,rfl⟩,cq⟩
def avF:∀(l:bk) (n:Nat),(sx l n).2=0\/(sx l n).2=1\/(sx l n).2=2:=by
 intro l
 induction l with
 |nil=>intro n;exact .inl rfl
 |cons c l ak=>
  intro n
  rw[sx]
  split
  ·split
   ·exact .inr (.inl rfl)
   ·split
    ·exact .inr (.inl rfl)
    ·exact ak _
  ·exact .inr (.inr rfl)
def ad8(l:bk):(kh l).2=0\/(kh l).2=1\/(kh l).2=2:=by
 unfold kh;split
 ·exact .inr (.inr rfl)
 ·exact avF _ _
def avf(aA:iE X)(bT:lP X)(aD:s.length<=65536)(aj:∀c∈s,c<256)(aL:(o X).a8<=j):
 aW X 167 [.str s, .Z 10, .Z 64] h j (λae T au=>(∃J,ae= .tuple [.int .u64 ((kh s).1:Int),J]/\((kh s).2=0/\J= .nilIface\/(kh s).2≠0/\∃b,J= .iface 283 (.ptr b 0)))/\bq X h j T au) (λ_ _ _=>False):=by
 refine zA aA.todz (ag5 X) ?_
 rw[ag6]
 unfold UC
 refine(ae8 aA aD aj aL (.inr rfl)).Zm ?_
 rintro ae bb bs ⟨rfl,cq⟩
 have iL:=cq.le
 rcases ad8 s with a|a|a
 ·rw[a]
  have bD:wo 0= .nilIface:=rfl
  rw[bD]
  refine ci @Dv ⟨?_⟩
  exact⟨⟨_,rfl, .inl ⟨rfl,rfl⟩⟩,cq⟩
 ·rw[a]
  have bD:wo 1= .iface 281 (.Z 1):=rfl
  rw[bD]
  refine ci @Gg ⟨?_⟩
  refine(K8 (j:=bs) (h:=bb) aA bT [80,97,114,115,101,85,105,110,116] (.Z 10) (.Z 64) aD aj (Zz aL iL) (B:=1) Zd).Zm ?_
  rintro ae bF c7 ⟨⟨b,rfl⟩,dv⟩
  refine cL ⟨?_⟩
  exact⟨⟨_,rfl, .inr ⟨Zd,b,rfl⟩⟩,cq.trans dv⟩
 ·rw[a]
  have bD:wo 2= .iface 281 (.Z 2):=rfl
  rw[bD]
  refine ci @Gg ⟨?_⟩
  refine(K8 (j:=bs) (h:=bb) aA bT [80,97,114,115,101,85,105,110,116] (.Z 10) (.Z 64) aD aj (Zz aL iL) (B:=2) Zd).Zm ?_
  rintro ae bF c7 ⟨⟨b,rfl⟩,dv⟩
  refine cL ⟨?_⟩
  exact⟨⟨_,rfl, .inr ⟨Zd,b,rfl⟩⟩,cq.trans dv⟩
end
def T1(J:F):Prop:=J= .nilIface\/J= .iface 281 (.Z 1)\/J= .iface 281 (.Z 2)
def BT(s:bk):Prop:=∀c∈s,c≠43/\c≠45
def xx(s:bk):Nat:=s.foldl (λn c=>n*10+(c-48)) 0
def avG:∀(l:bk) (n:Nat),n<18446744073709551616->(sx l n).1<18446744073709551616:=by
 intro l
 induction l with
 |nil=>intro n a;exact a
 |cons c l ak=>
  intro n a
  rw[sx]
  split
  ·split
   ·show 18446744073709551615<_;omega
   ·split
    ·show 18446744073709551615<_;omega
    ·exact ak _ Zo
  ·show 0<_;omega
def ad9(l:bk):(kh l).1<18446744073709551616:=by
 unfold kh;split
 ·show 0<_;omega
 ·exact avG _ _ Zo
section
variable{X:ck}{h T a2 aS:V an}{j au aO bg f7:Nat}{s:bk}{i:Nat}
def adt:dn X h .neq 238 false (.iface 281 (.Z 1)) (.iface 281 (.Z 1))=some (.bool false):=Zk
def adu:dn X h .neq 238 false (.iface 281 (.Z 2)) (.iface 281 (.Z 1))=some (.bool true):=Zk
def acw(aA:iE X)(aD:s.length<=65536)(aj:∀c∈s,c<256)(tl:BT s)(aL:(o X).a8<=j):
 aW X 242 [.str s, .Z 10, .Z 0] h j (λae T au=>(∃bt J,ae= .tuple [.Z bt,J]/\T1 J)/\bq X h j T au) (λ_ _ _=>False):=by
 refine zA aA.todz (aiL X) ?_
 rw[aiM]
 unfold Vw
 by_cases b6:s=[]
 ·subst b6
  have d:decide (([]:List Nat)=[])=true:=rfl
  refine ci @d ⟨?_⟩
  exact⟨⟨_,_,rfl, .inr (.inr rfl)⟩,bq.refl _ _⟩
 have d:decide (s=[])=false:=by simp[b6]
 obtain⟨c,fo,rfl⟩:∃c fo,s=c::fo:=by cases s with
  |nil=>exact absurd rfl b6
  |cons c fo=>exact⟨c,fo,rfl⟩
 have dZ:la (.str (c::fo)) (.Z 0)=some (.int .u8 (c:Int)):=Bd (i:=0) .i64 rfl
 have aB:=tl c (Zu ..)
 have bV:decide ((c:Int)=43)=false:=by simp only[Zc];omega
 have cw:decide ((c:Int)=45)=false:=by simp only[Zc];omega
 refine gt @d @dZ @bV @cw ⟨?_⟩
 refine(ae8 aA aD aj aL (.inl rfl)).Zm ?_
 rintro ae bb bs ⟨rfl,cq⟩
 have iL:=cq.le
 generalize az:kh (c::fo)=p
 have nY:=ad8 (c::fo)
 have sa:=ad9 (c::fo)
 rw[az]at nY sa
 obtain⟨Ka,azm⟩:=p
 simp only[]at nY sa ⊢
 have pu:decide ((0:Int)=0)=true:=rfl
 have jQ:aF .sub (.Z 64) (.Z 1)=some (.Z 63):=rfl
 have kA:(63:Int)%18446744073709551616=63:=rfl
 have JW:aF .shl (.int .u64 1) (.int .u64 63)=some (.int .u64 9223372036854775808):=rfl
 have awB:aF .sub (.int .u64 9223372036854775808) (.int .u64 1)=some (.int .u64 9223372036854775807):=rfl
 have awC:mf .i64 (.int .u64 9223372036854775807)=some (.Z 9223372036854775807):=rfl
 rcases nY with rfl|rfl|rfl
 all_goals
  simp only[show wo 0= .nilIface from rfl,show wo 1= .iface 281 (.Z 1) from rfl,show wo 2= .iface 281 (.Z 2) from rfl]
  by_cases L1:9223372036854775808<=Ka
  ·have cX:decide ((9223372036854775808:Int)<=(Ka:Int))=true:=by simp only[Zh];omega
   refine e7 @Dv @Gg @adt @adu @pu @jQ (Za @kA (Za @JW (Za @cX (Za @awB @awC)))) ⟨?_⟩
   exact⟨⟨_,_,rfl,by first|exact .inl rfl|exact .inr (.inl rfl)|exact .inr (.inr rfl)⟩,cq⟩
  ·have cX:decide ((9223372036854775808:Int)<=(Ka:Int))=false:=by simp only[Zc];omega
   have awD:mf .i64 (.int .u64 (Ka:Int))=some (.Z (Ka:Int)):=W9 Zo Zo
   refine e7 @Dv @Gg @adt @adu @pu @jQ (Za @kA (Za @JW (Za @cX @awD))) ⟨?_⟩
   exact⟨⟨_,_,rfl,by first|exact .inl rfl|exact .inr (.inl rfl)|exact .inr (.inr rfl)⟩,cq⟩
end
def acr{x e:Int}(Q: -9223372036854775808<=x*e)(U:x*e<9223372036854775808):aF .mul (.Z x) (.Z e)=some (.Z (x*e)):=by
 simp[aF,lG,lY,lo,kT,wrap64 Q U]
def asd{c:Nat}(a:c<256):aF .sub (.int .u8 (c:Int)) (.int .u8 48)=some (.int .u8 (((c+208)%256:Nat):Int)):=by
 have w:pg .u8 ((c:Int) -48)=(((c+208)%256:Nat):Int):=by
  show((c:Int) -48)%256=_
  omega
 simp only[aF,lG,lY,lo,jF,eP,kT,w,ES]
def ayn(l:bk)(c:Nat):xx (l++[c])=xx l*10+(c-48):=by simp[xx,List.foldl_append]
section
variable{X:ck}{h T a2 aS:V an}{j au aO bg f7:Nat}{s:bk}{i:Nat}
def afP(s:bk)(ae:F):Prop:=∃bt J,ae= .tuple [.Z bt,J]/\T1 J/\(s≠[]->s.length<19->(∀c∈s,iw c=true)->J= .nilIface/\bt=(xx s:Int))
def akv(aA:iE X)(aD:s.length<=65536)(aj:∀c∈s,c<256)(tl:BT s)(aL:(o X).a8<=j):
 aW X 230 [.str s] h j (λae T au=>afP s ae/\bq X h j T au) (λ_ _ _=>False):=by
 refine zA aA.todz (aix X) ?_
 rw[aiy]
 unfold Vp
 by_cases b6:s=[]
 ·subst b6
  have pu:decide ((0:Int)<((0:Nat):Int))=false:=rfl
  refine ci @pu ⟨?_⟩
  refine(acw aA aD aj tl aL).Zm ?_
  rintro ae bb bs ⟨⟨bt,J,rfl,bx⟩,cq⟩
  refine cL ⟨?_⟩
  exact⟨⟨bt,J,rfl,bx,λa=>absurd rfl a⟩,cq⟩
 have mQ:0<s.length:=YG.2 b6
 have pu:decide ((0:Int)<(s.length:Int))=true:=by simp only[Zh];omega
 by_cases HV:s.length<19
 ·have cX:decide ((s.length:Int)<19)=true:=by simp only[Zh];omega
  obtain⟨c,wG⟩:∃c,s[0]? =some c:=⟨_,Ze mQ⟩
  have dZ:la (.str s) (.Z 0)=some (.int .u8 (c:Int)):=Bd (i:=0) .i64 wG
  have aB:=tl c (Zl wG)
  have bV:decide ((c:Int)=43)=false:=by simp only[Zc];omega
  have cw:decide ((c:Int)=45)=false:=by simp only[Zc];omega
  refine gA @pu @cX @dZ @bV @cw ⟨?_⟩
  refine WR Zo ?_
  have P2:ab X (bn X h j (some (.cells (V.ofList (s.map λn:Nat=>F.int .u8 (n:Int)) 0 .nil) s.length (.grow [])))) j=some (.cells (V.ofList (s.map λn:Nat=>F.int .u8 (n:Int)) 0 .nil) s.length (.grow [])):=bm aL
  have Qo:bq X h j (bn X h j (some (.cells (V.ofList (s.map λn:Nat=>F.int .u8 (n:Int)) 0 .nil) s.length (.grow [])))) (j+1):=dU
  generalize bn X h j (some (.cells (V.ofList (s.map λn:Nat=>F.int .u8 (n:Int)) 0 .nil) s.length (.grow [])))=tS at*
  refine cL ⟨?_⟩
  refine fU (λm M T aV=>∃(aa n p:Nat),M.g 47=some (.en j 0 s.length 1)/\M.g 48=some (.Z (s.length:Int))/\M.g 49=some (.Z (aa:Int))/\M.g 6=some (.Z (n:Int))/\M.g 5=some (.str s)/\aa+m=s.length/\p*10^m<=10^18/\n<p/\T=tS/\j+1<=aV/\n=xx (s.take aa))
   s.length ⟨0,0,1,bw,bw,gc,gc,bw,Zo,by rw[Nat.one_mul];exact Nat.pow_le_pow_right Zo Zo,Zo,rfl,Zo,rfl⟩ ?_
  rintro m M aS bg ⟨aa,n,p,TG,N0,m3,fM,t5,bG,uK,aAx,rfl,kR,bB⟩
  have bK:bq X h j aS bg:=⟨Zo,Qo.ad⟩
  cases m with
  |zero=>
   have f5:=zu aa s.length
   refine e7 @m3 @N0 @t5 @fM @f5 @dZ @cw ⟨?_⟩
   rw[ZC Zo]at bB
   exact⟨⟨_,_,rfl, .inl rfl,λ_ _ _=>⟨rfl,by rw[bB]⟩⟩,bK⟩
  |succ m=>
   have f5:=zv aa s.length
   have bD:=zy aa
   obtain⟨K,aE⟩:∃c,s[aa]? =some c:=⟨_,Ze Zo⟩
   have aoW:=aj K (Zl aE)
   have Iy:dW 1 (.en j 0 s.length 1) (.Z (aa:Int))=some (.ptr j aa):=by rw[Dg _ Zo];simp
   have uF:ao X aS (.ptr j aa)=some (.int .u8 (K:Int)):=by rw[bR P2,kw];simp[aE]
   have cF:=asd aoW
   generalize bJ:(K+208)%256=w at cF
   by_cases jW:9<w
   ·have iV:decide ((9:Int)<(w:Int))=true:=by simp only[Zh];omega
    refine e7 @m3 @N0 @TG @f5 @Iy @uF (Za @cF @iV) ⟨?_⟩
    refine⟨⟨_,_,rfl, .inr (.inr rfl),λ_ _ kO=> ?_⟩,bK⟩
    have:=kO K (Zl aE)
    simp[iw]at this
    omega
   ·have iV:decide ((9:Int)<(w:Int))=false:=by simp only[Zc];omega
    have QY:48<=K/\K<=57/\w=K-48:=Zo
    have el:p*10<=10^18:=by
     have:p*10^(m+1)=(p*10)*10^m:=by rw[Nat.pow_succ];rw[Nat.mul_assoc,zs (10^m) 10]
     rw[this]at uK
     exact Zz (YW _ (Nat.pos_of_ne_zero Zs)) uK
    have dA:p*10*10^m<=10^18:=by
     have:p*10^(m+1)=(p*10)*10^m:=by rw[Nat.pow_succ];rw[Nat.mul_assoc,zs (10^m) 10]
     rw[this]at uK;exact uK
    have gE:p*10<=1000000000000000000:=el
    have fx:aF .mul (.Z (n:Int)) (.Z 10)=some (.Z ((n*10:Nat):Int)):=by rw[acr Zo Zo];rfl
    have jh:mf .i64 (.int .u8 (w:Int))=some (.Z (w:Int)):=W9 Zo Zo
    have pw:aF .add (.Z ((n*10:Nat):Int)) (.Z (w:Int))=some (.Z ((n*10+w:Nat):Int)):=by rw[eT Zo Zo];rfl
    refine e7 @m3 @N0 @TG @f5 @Iy @uF (Za @cF (Za @iV (Za @fM (Za @fx (Za @jh (Za @pw @bD)))))) ⟨?_⟩
    refine⟨m,Zo,aa+1,n*10+w,p*10,bf TG,bf N0,bw,bw,bf t5,Zo,dA,Zo,rfl,Zo, ?_⟩
    rw[Z5,aE]
    show _=xx (s.take aa++[K])
    rw[ayn, <-bB,QY.2.2]
 ·have cX:decide ((s.length:Int)<19)=false:=by simp only[Zc];omega
  refine cV @pu @cX ⟨?_⟩
  refine(acw aA aD aj tl aL).Zm ?_
  rintro ae bb bs ⟨⟨bt,J,rfl,bx⟩,cq⟩
  refine cL ⟨?_⟩
  exact⟨⟨bt,J,rfl,bx,λ_ a=>absurd a HV⟩,cq⟩
def afQ(s:bk)(ae:F):Prop:=∃bt J,ae= .tuple [.Z bt,J]/\(J= .nilIface\/∃b,J= .iface 283 (.ptr b 0))/\(s≠[]->s.length<19->(∀c∈s,iw c=true)->J= .nilIface/\bt=(xx s:Int))
def WB(aA:iE X)(bT:lP X)(aD:s.length<=65536)(aj:∀c∈s,c<256)(tl:BT s)(aL:(o X).a8<=j):
 aW X 203 [.str s] h j (λae T au=>afQ s ae/\bq X h j T au) (λ_ _ _=>False):=by
 refine zA aA.todz (ahX X) ?_
 rw[ahY]
 unfold U8
 refine(akv aA aD aj tl aL).Zm ?_
 rintro ae bb bs ⟨⟨bt,J,rfl,bx,ah⟩,cq⟩
 have iL:=cq.le
 rcases bx with rfl|rfl|rfl
 ·refine ci @Dv ⟨?_⟩
  exact⟨⟨_,_,rfl, .inl rfl,ah⟩,cq⟩
 ·refine ci @Gg ⟨?_⟩
  refine(K8 (j:=bs) (h:=bb) aA bT [65,116,111,105] (.Z 0) (.Z 0) aD aj (Zz aL iL) (B:=1) Zd).Zm ?_
  rintro ae bF c7 ⟨⟨b,rfl⟩,dv⟩
  refine cL ⟨?_⟩
  exact⟨⟨_,_,rfl, .inr ⟨b,rfl⟩,λQ U ar=>absurd (ah Q U ar).1 Zs⟩,cq.trans dv⟩
 ·refine ci @Gg ⟨?_⟩
  refine(K8 (j:=bs) (h:=bb) aA bT [65,116,111,105] (.Z 0) (.Z 0) aD aj (Zz aL iL) (B:=2) Zd).Zm ?_
  rintro ae bF c7 ⟨⟨b,rfl⟩,dv⟩
  refine cL ⟨?_⟩
  exact⟨⟨_,_,rfl, .inr ⟨b,rfl⟩,λQ U ar=>absurd (ah Q U ar).1 Zs⟩,cq.trans dv⟩
end
def ku(t:d9):Bool:=if t.b then !t.s&&decide (t.w=1)else decide (1<=t.w)&&decide (t.w<=64)
def jo(n:Nat):bk:=if n<10 then[48+n]else[48+n/10,48+n%10]
def m0(t:d9):bk:=if ku t then(if t.b then[98,111,111,108]else(if t.s then 105 else 117)::jo t.w.toNat)else[]
def k0:bk->Option d9
 |[]=>none
 |c::l=>if c::l=[98,111,111,108]then some ⟨true,false,1⟩
  else if c=105\/c=117 then((List.range 65).find? λn=>decide (1<=n)&&decide (jo n=l)).map λn:Nat=>⟨false,decide (c=105),(n:Int)⟩
  else none
section
variable{X:ck}{h T a2 aS:V an}{j au aO bg f7:Nat}{s:bk}{i:Nat}
def Dr(aA:dz X)(t:d9)(aL:(o X).a8<=j):aW X 182 [.agg (eF t)] h j (λae T au=>ae= .bool (ku t)/\bq X h j T au) (λ_ _ _=>False):=by
 refine zA aA (ahr X) ?_
 rw[ahs]
 unfold US eF
 obtain⟨b,s,w⟩:=t
 cases b<;>cases s
 all_goals
  by_cases Q:1<=w
  ·have cX:decide ((1:Int)<=w)=true:=by simp[Q]
   refine ci @cX ⟨?_⟩
   exact⟨by simp[ku,Q],dU⟩
  ·have cX:decide ((1:Int)<=w)=false:=by simp[Q]
   refine ci @cX ⟨?_⟩
   exact⟨by simp[ku,Q],dU⟩
def aw6:∀n<10,([48,49,50,51,52,53,54,55,56,57,97,98,99,100,101,102,103,104,105,106,107,108,109,110,111,112,113,114,115,116,117,118,119,120,121,122].drop n).take (n+1-n)=jo n:=by decide+kernel
def NX:bk:=[48,48,48,49,48,50,48,51,48,52,48,53,48,54,48,55,48,56,48,57,49,48,49,49,49,50,49,51,49,52,49,53,49,54,49,55,49,56,49,57,50,48,50,49,50,50,50,51,50,52,50,53,50,54,50,55,50,56,50,57,51,48,51,49,51,50,51,51,51,52,51,53,51,54,51,55,51,56,51,57,52,48,52,49,52,50,52,51,52,52,52,53,52,54,52,55,52,56,52,57,53,48,53,49,53,50,53,51,53,52,53,53,53,54,53,55,53,56,53,57,54,48,54,49,54,50,54,51,54,52,54,53,54,54,54,55,54,56,54,57,55,48,55,49,55,50,55,51,55,52,55,53,55,54,55,55,55,56,55,57,56,48,56,49,56,50,56,51,56,52,56,53,56,54,56,55,56,56,56,57,57,48,57,49,57,50,57,51,57,52,57,53,57,54,57,55,57,56,57,57]
def aw8:NX.length=200:=by decide+kernel
def aw7:∀n<100,10<=n->(NX.drop (n*2)).take (n*2+2-n*2)=jo n:=by decide+kernel
def MT(aA:dz X){n:Nat}(aL:n<100):aW X 183 [.Z (n:Int)] h j (λae T au=>ae= .str (jo n)/\T=h/\au=j) (λ_ _ _=>False):=by
 refine zA aA (aht X) ?_
 rw[ahu]
 unfold UT
 refine zA aA (ah9 X) ?_
 rw[aia]
 unfold Ve
 refine zA aA (aiD X) ?_
 rw[aiE]
 unfold Vs
 have pu:decide ((0:Int)<=(n:Int))=true:=by simp only[Zh];omega
 have cX:decide ((n:Int)<100)=true:=by simp only[Zh];omega
 refine cV @pu @cX ⟨?_⟩
 refine zA aA (aiP X) ?_
 rw[aiQ]
 unfold Vy
 by_cases a:n<10
 ·have cP:decide ((n:Int)<10)=true:=by simp only[Zh];omega
  have bD:=zy n
  have cF:j7 (.str [48,49,50,51,52,53,54,55,56,57,97,98,99,100,101,102,103,104,105,106,107,108,109,110,111,112,113,114,115,116,117,118,119,120,121,122]) (some (.Z (n:Int))) (some (.Z ((n+1:Nat):Int)))=some (.str (jo n)):=by
   rw[Tt .i64 .i64 Zo (by simp;omega),aw6 n a]
  refine er @cP @bD @cF ⟨?_⟩
  exact⟨rfl,rfl,rfl⟩
 ·have cP:decide ((n:Int)<10)=false:=by simp only[Zc];omega
  have bD:aF .mul (.Z (n:Int)) (.Z 2)=some (.Z ((n*2:Nat):Int)):=by rw[acr Zo Zo];rfl
  have cF:aF .add (.Z ((n*2:Nat):Int)) (.Z 2)=some (.Z ((n*2+2:Nat):Int)):=by rw[eT Zo Zo];rfl
  have fx:j7 (.str NX) (some (.Z ((n*2:Nat):Int))) (some (.Z ((n*2+2:Nat):Int)))=some (.str (jo n)):=by
   rw[Tt .i64 .i64 Zo (zt aw8),aw7 n aL Zo]
  unfold NX at fx
  refine gt @cP @bD @cF @fx ⟨?_⟩
  exact⟨rfl,rfl,rfl⟩
def awE(aA:dz X)(t:d9)(aL:(o X).a8<=j):aW X 204 [.agg (eF t)] h j (λae T au=>ae= .str (m0 t)/\bq X h j T au) (λ_ _ _=>False):=by
 refine zA aA (ahZ X) ?_
 rw[ah0]
 unfold U9
 have bc:eF t=[.bool t.b, .bool t.s, .Z t.w]:=rfl
 rw[bc]
 refine cL ⟨?_⟩
 refine fc (λa2=>ab X a2 j=zx [.bool t.b, .bool t.s, .Z t.w] 3/\bq X h j a2 (j+1)) ⟨bm aL,dU⟩ ?_
 rintro a2 ⟨b4,bU⟩
 refine(Dr aA t Zo).Zm ?_
 rintro ae aS bg ⟨rfl,bK⟩
 have ge:=bK.le
 have bT:=bU.trans bK
 have b7:ab X aS j=zx [.bool t.b, .bool t.s, .Z t.w] 3:=by rw[bK.ad _ Zo];exact b4
 have d7:ao X aS (.ptr j 0)=some (.bool t.b):=by rw[bR b7];rfl
 have dt:ao X aS (.ptr j 1)=some (.bool t.s):=by rw[bR b7];rfl
 have dG:ao X aS (.ptr j 2)=some (.Z t.w):=by rw[bR b7];rfl
 cases bp:ku t with
 |false=>
  refine cL ⟨?_⟩
  exact⟨by simp[m0,bp],bT⟩
 |true=>
  cases mq:t.b with
  |true=>
   rw[mq]at d7
   refine ci @d7 ⟨?_⟩
   exact⟨by simp[m0,bp,mq],bT⟩
  |false=>
   rw[mq]at d7
   have bJ:1<=t.w/\t.w<=64:=by simpa[ku,mq]using bp
   obtain⟨w,yG⟩:=Yl (by omega:0<=t.w)
   rw[yG]at dG
   have aJ:jo t.w.toNat=jo w:=by rw[yG];rfl
   have fD:(jo w).length<=2:=by unfold jo;split<;>simp
   have sV:∀h c,dn X h .add 9 true (.str [c]) (.str (jo w))=some (.str (c::jo w)):=λh c=>by
    have:Nat.ble ([c].length+(jo w).length) 1000000000=true:=kJ (by simp;omega)
    simp only[dn,Am,this,eP];rfl
   cases j2:t.s with
   |true=>
    rw[j2]at dt
    refine er @d7 @dt @dG ⟨?_⟩
    refine(MT aA Zo).Zm ?_
    rintro ae bb bs ⟨rfl,rfl,rfl⟩
    refine ci @sV ⟨?_⟩
    exact⟨by simp[m0,bp,mq,j2,aJ],bT⟩
   |false=>
    rw[j2]at dt
    refine er @d7 @dt @dG ⟨?_⟩
    refine(MT aA Zo).Zm ?_
    rintro ae bb bs ⟨rfl,rfl,rfl⟩
    refine ci @sV ⟨?_⟩
    exact⟨by simp[m0,bp,mq,j2,aJ],bT⟩
end
def Ja{n:Nat}(a:n<100):jo n≠[]/\(jo n).length<19/\(∀c∈jo n,iw c=true)/\xx (jo n)=n:=by
 unfold jo
 split
 ·refine⟨Zs,Zs, ?_, ?_⟩
  ·intro c aB;simp at aB;subst aB;simp[iw];omega
  ·simp[xx]
 ·refine⟨Zs,Zs, ?_, ?_⟩
  ·intro c aB;simp at aB;rcases aB with rfl|rfl<;>simp[iw]<;>omega
  ·simp[xx];omega
def N5(c:Nat)(l:bk):k0 (c::l)=if c::l=[98,111,111,108]then some ⟨true,false,1⟩
 else if c=105\/c=117 then((List.range 65).find? λn=>decide (1<=n)&&decide (jo n=l)).map λn:Nat=>⟨false,decide (c=105),(n:Int)⟩
 else none:=rfl
def J9{c:Nat}{l:bk}{t:d9}(a:k0 (c::l)=some t)(aj:c::l≠[98,111,111,108]):(c=105\/c=117)/\∃n:Nat,1<=n/\n<=64/\jo n=l/\t=⟨false,decide (c=105),(n:Int)⟩:=by
 rw[N5]at a
 rw[Zg aj]at a
 split at a
 ·rename_i aB
  refine⟨aB, ?_⟩
  simp only[Yn]at a
  obtain⟨n,Q,U⟩:=a
  have ar:=List.find?_some Q
  have aK:=List.mem_of_find?_eq_some Q
  simp at ar aK
  exact⟨n,ar.1,Zo,ar.2,U.symm⟩
 ·cases a
def ae3{c:Nat}{l:bk}(a:k0 (c::l)=none)(aB:c=105\/c=117){n:Nat}(Q:1<=n)(U:n<=64):jo n≠l:=by
 intro aL
 rw[N5]at a
 split at a
 ·cases a
 ·first
  |rw[Zq aB]at a
  |skip
  simp at a
  exact a n Zo Q aL
def bq.set{C:aZ}{h a2:V an}{j aO b aV:Nat}{cT:Option an}(a:bq C h j a2 aO)(aj:j<=b)(b6:C.a8<=j)(aL:aO<=aV):bq C h j (bn C a2 b cT) aV:=
 ⟨Zz a.le aL,λe H=>by rw[aI Zo Zo];exact a.ad e H⟩
section
variable{X:ck}{h T a2 aS:V an}{j au aO bg f7:Nat}{s:bk}{i:Nat}
def ae2(aA:iE X)(bT:lP X)(aD:s.length<=65536)(aj:∀c∈s,c<256)(tl:BT s)(aL:(o X).a8<=j):
 aW X 169 [.str s] h j (λae T au=>ae= .tuple [.agg (eF ((k0 s).getD dN)), .bool (k0 s).isSome]/\bq X h j T au) (λ_ _ _=>False):=by
 refine zA aA.todz (ag9 X) ?_
 rw[aha]
 unfold UE
 by_cases wF:s=[98,111,111,108]
 ·have d:decide (s=[98,111,111,108])=true:=by simp[wF]
  refine ci @d ⟨?_⟩
  exact⟨by subst wF;rfl,dU⟩
 have d:decide (s=[98,111,111,108])=false:=by simp[wF]
 cases s with
 |nil=>
  have cP:decide (([]:List Nat)=[])=true:=rfl
  refine cV @d @cP ⟨?_⟩
  exact⟨rfl,dU⟩
 |cons c l=>
  have cP:decide (c::l=[])=false:=by simp
  have dZ:la (.str (c::l)) (.Z 0)=some (.int .u8 (c:Int)):=Bd (i:=0) .i64 rfl
  by_cases aB:c=105\/c=117
  ·have jm:j7 (.str (c::l)) (some (.Z 1)) none=some (.str l):=NV (l:=1) .i64 Zs
   have fD:l.length<=65536:=by simp at aD;omega
   have uE:∀c∈l,c<256:=λx ah=>aj x (Zr _ ah)
   have aqi:BT l:=λx ah=>tl x (Zr _ ah)
   have eQ:∃c0 dL,decide ((c:Int)≠117)=c0/\decide ((c:Int)≠105)=dL/\(c0=false\/c0=true/\dL=false):=by
    rcases aB with rfl|rfl
    ·exact⟨true,false,rfl,rfl, .inr ⟨rfl,rfl⟩⟩
    ·exact⟨false,true,rfl,rfl, .inl rfl⟩
   obtain⟨c0,dL,eQ,iq,r0⟩:=eQ
   have f5:decide ((c:Int)=105)=decide (c=105):=by simp;omega
   rcases r0 with rfl|⟨rfl,rfl⟩
   all_goals
    refine iZ @d @cP @dZ @eQ @iq @jm ⟨?_⟩
    refine fc (λa2=>ab X a2 j=zx [.bool false, .bool false, .Z 0] 3/\bq X h j a2 (j+1)) ⟨bm aL,dU⟩ ?_
    rintro a2 ⟨b4,bU⟩
    refine(WB aA bT fD uE aqi Zo).Zm ?_
    rintro ae aS bg ⟨⟨bt,J,rfl,bx,ah⟩,bK⟩
    have ge:=bK.le
    have b7:ab X aS j=zx [.bool false, .bool false, .Z 0] 3:=by rw[bK.ad _ Zo];exact b4
    have jX:=bU.trans bK
    refine cV @dZ @f5 ⟨?_⟩
    generalize fC:bn X _ bg _=bb
    have cN:ab X bb j=zx [.bool false, .bool false, .Z 0] 3:=by rw[<-fC];simp(disch:=omega) only[aI];exact b7
    have ej:ab X bb bg=zx [.bool false, .bool (decide (c=105)), .Z bt] 3:=by rw[<-fC];rw[bm Zo];rfl
    have cq:bq X h j bb (bg+1):=jX.trans (by rw[<-fC];exact dU)
    clear fC
    rcases bx with rfl|⟨b,rfl⟩
    ·refine cV @Dv (bR ej) ⟨?_⟩
     refine(Dr (j:=bg+1) (h:=bb) aA.todz ⟨false,decide (c=105),bt⟩ (Zz aL cq.le)).Zm ?_
     rintro ae bF c7 ⟨rfl,dv⟩
     have jl:=dv.le
     have fY:ab X bF j=zx [.bool false, .bool false, .Z 0] 3:=by rw[dv.ad _ Zo];exact cN
     have dY:ab X bF bg=zx [.bool false, .bool (decide (c=105)), .Z bt] 3:=by rw[dv.ad _ Zo];exact ej
     cases bp:ku ⟨false,decide (c=105),bt⟩with
     |false=>
      have bc:k0 (c::l)=none:=by
       cases bc:k0 (c::l)with
       |none=>rfl
       |some t=>
        obtain⟨_,n,Q,U,ar,rfl⟩:=J9 bc wF
        obtain⟨cD,cp,dF,fL⟩:=Ja (by omega:n<100)
        rw[ar]at cD cp dF fL
        have:=(ah cD cp dF).2
        rw[fL]at this
        subst this
        simp[ku]at bp
        omega
      rw[bc]
      refine ci (bR fY) ⟨?_⟩
      exact⟨rfl,bq.set (cq.trans dv) Zo aL Zo⟩
     |true=>
      have cv:1<=bt/\bt<=64:=by simpa[ku]using bp
      obtain⟨n,rfl⟩:=Yl (by omega:0<=bt)
      refine ci (bR dY) ⟨?_⟩
      refine(awE (j:=c7) (h:=bF) aA.todz ⟨false,decide (c=105),(n:Int)⟩ Zo).Zm ?_
      rintro ae bX b2 ⟨rfl,dH⟩
      have h5:=dH.le
      have e1:ab X bX j=zx [.bool false, .bool false, .Z 0] 3:=by rw[dH.ad _ Zo];exact fY
      have ir:ab X bX bg=zx [.bool false, .bool (decide (c=105)), .Z (n:Int)] 3:=by rw[dH.ad _ Zo];exact dY
      have C7:m0 ⟨false,decide (c=105),(n:Int)⟩=c::jo n:=by
       rcases aB with rfl|rfl<;>simp[m0,bp]<;>simp_all
      have HZ:=(cq.trans dv).trans dH
      by_cases aC:jo n=l
      ·have bc:k0 (c::l)=some ⟨false,decide (c=105),(n:Int)⟩:=by
        cases bc:k0 (c::l)with
        |none=>exact absurd aC (ae3 bc aB Zo Zo)
        |some t=>
         obtain⟨_,aV,Q,U,ar,rfl⟩:=J9 bc wF
         obtain⟨cD,cp,dF,fL⟩:=Ja (by omega:n<100)
         obtain⟨_,_,_,l4⟩:=Ja (by omega:aV<100)
         rw[ar, <-aC,fL]at l4
         rw[l4]
       have iV:decide (m0 ⟨false,decide (c=105),(n:Int)⟩≠c::l)=false:=by rw[C7,aC];simp
       rw[bc]
       refine cV @iV (bR ir) ⟨?_⟩
       refine⟨rfl,bq.set HZ Zo aL Zo⟩
      ·have bc:k0 (c::l)=none:=by
        cases bc:k0 (c::l)with
        |none=>rfl
        |some t=>
         obtain⟨_,aV,Q,U,ar,rfl⟩:=J9 bc wF
         obtain⟨cD,cp,dF,fL⟩:=Ja (by omega:aV<100)
         rw[ar]at cD cp dF fL
         have:=(ah cD cp dF).2
         rw[fL]at this
         have:n=aV:=Zo
         subst this
         exact absurd ar aC
       have iV:decide (m0 ⟨false,decide (c=105),(n:Int)⟩≠c::l)=true:=by rw[C7];simp[aC]
       rw[bc]
       refine ci @iV ⟨?_⟩
       exact⟨rfl,bq.set HZ Zo aL Zo⟩
    ·have bc:k0 (c::l)=none:=by
      cases bc:k0 (c::l)with
      |none=>rfl
      |some t=>
       obtain⟨_,n,Q,U,ar,rfl⟩:=J9 bc wF
       obtain⟨cD,cp,dF,fL⟩:=Ja (by omega:n<100)
       rw[ar]at cD cp dF fL
       exact absurd (ah cD cp dF).1 Zs
     rw[bc]
     refine ci @adr ⟨?_⟩
     exact⟨rfl,bq.set cq Zo aL Zo⟩
  ·have eQ:decide ((c:Int)≠117)=true:=by simp only[Zh];omega
   have iq:decide ((c:Int)≠105)=true:=by simp only[Zh];omega
   refine gA @d @cP @dZ @eQ @iq ⟨?_⟩
   have bc:k0 (c::l)=none:=by rw[N5];rw[Zg wF,Zg aB]
   rw[bc]
   exact⟨rfl,dU⟩
end
def By(w:Int):Int:=(18446744073709551615:Int).fdiv (2^(min (64-w).toNat 64))
def He(x e:Int):Int:=pg .u64 ((BitVec.ofInt 64 x&&& ~~~ BitVec.ofInt 64 e).toNat)
def Df(t:d9)(n:Int):Bool:=ku t&&decide (He n (By t.w)=0)
def uJ(t:d9)(n:Int):Bool:=if t.s then(if t.w-1=0 then decide (n=0)else Df ⟨false,false,t.w-1⟩ n)else Df t n
def vs:List bk:=[[110,111,100,101],[114,101,116,117,114,110,115],[118,97,114],[108,101,116],[116,101,108],[119,104,101,110],[110,111,116],[112,114,101],[102,98,121],[109,101,114,103,101],
 [105,102],[116,104,101,110],[101,108,115,101],[97,110,100],[111,114],[120,111,114],[116,114,117,101],[102,97,108,115,101]]
structure Ks(X:ck):Prop where
 at_:∃v,∀h,ao X h (.ptr 3 0)=some v/\∀s:bk,kr X h 9 (.bool false) v (.str s) false=some (.bool (decide (s∈vs)))
section
variable{X:ck}{h T a2 aS:V an}{j au aO bg f7:Nat}{s:bk}{i:Nat}
def av6(aA:dz X)(eS:Ks X)(s:bk):aW X 171 [.str s] h j (λae T au=>ae= .bool (decide (s∈vs))/\T=h/\au=j) (λ_ _ _=>False):=by
 refine zA aA (ahd X) ?_
 rw[ahe]
 unfold UG
 obtain⟨v,bB⟩:=eS.at_
 obtain⟨Q,U⟩:=bB h
 have ar:=U s
 refine cV @Q @ar ⟨?_⟩
 exact⟨rfl,rfl,rfl⟩
def auV(aA:dz X)(t:d9)(bc:1<=t.w/\t.w<=64)(aL:(o X).a8<=j):aW X 231 [.agg (eF t)] h j (λae T au=>ae= .int .u64 (By t.w)/\bq X h j T au) (λ_ _ _=>False):=by
 refine zA aA (aiz X) ?_
 rw[aiA]
 unfold Vq eF
 have bD:aF .sub (.Z 64) (.Z t.w)=some (.Z (64-t.w)):=w3 Zo Zo
 have cF:aF .shr (.int .u64 18446744073709551615) (.Z (64-t.w))=some (.int .u64 (By t.w)):=by
  have:decide ((64-t.w)<0)=false:=by simp only[Zc];omega
  simp only[aF,lG,eP,Hd,tr,this,jF,n0,ES]
  rfl
 refine cV @bD @cF ⟨?_⟩
 exact⟨rfl,dU⟩
def Nb{t:d9}(a:ku t=true):1<=t.w/\t.w<=64:=by
 unfold ku at a
 split at a<;>simp at a<;>omega
def acy(aA:dz X)(t:d9)(n:Int)(aL:(o X).a8<=j):aW X 205 [.agg (eF t), .int .u64 n] h j (λae T au=>ae= .bool (Df t n)/\bq X h j T au) (λ_ _ _=>False):=by
 refine zA aA (ah1 X) ?_
 rw[ah2]
 unfold Va
 have bc:eF t=[.bool t.b, .bool t.s, .Z t.w]:=rfl
 rw[bc]
 refine cL ⟨?_⟩
 refine fc (λa2=>ab X a2 j=zx [.bool t.b, .bool t.s, .Z t.w] 3/\bq X h j a2 (j+1)) ⟨bm aL,dU⟩ ?_
 rintro a2 ⟨b4,bU⟩
 refine(Dr aA t Zo).Zm ?_
 rintro ae aS bg ⟨rfl,bK⟩
 have ge:=bK.le
 have bT:=bU.trans bK
 have b7:ab X aS j=zx [.bool t.b, .bool t.s, .Z t.w] 3:=by rw[bK.ad _ Zo];exact b4
 cases bp:ku t with
 |false=>
  refine cL ⟨?_⟩
  exact⟨by simp[Df,bp],bT⟩
 |true=>
  refine ci (bR b7) ⟨?_⟩
  refine(auV (j:=bg) (h:=aS) aA t (Nb bp) Zo).Zm ?_
  rintro ae bb bs ⟨rfl,cq⟩
  have bD:aF .andNot (.int .u64 n) (.int .u64 (By t.w))=some (.int .u64 (He n (By t.w))):=by
   simp only[aF,lG,jF,lY,eP,lo,kT,ES];rfl
  refine ci @bD ⟨?_⟩
  exact⟨by simp[Df,bp],bT.trans cq⟩
def aqG(aA:dz X)(t:d9)(bc:ku t=true)(n:Int)(aL:(o X).a8<=j):aW X 170 [.agg (eF t), .int .u64 n] h j (λae T au=>ae= .bool (uJ t n)/\bq X h j T au) (λ_ _ _=>False):=by
 refine zA aA (ahb X) ?_
 rw[ahc]
 unfold UF
 have bJ:=Nb bc
 have gD:eF t=[.bool t.b, .bool t.s, .Z t.w]:=rfl
 rw[gD]
 have bD:aF .sub (.Z t.w) (.Z 1)=some (.Z (t.w-1)):=w3 Zo Zo
 cases j2:t.s with
 |false=>
  refine cL ⟨?_⟩
  refine fc (λa2=>bq X h j a2 (j+1)) dU ?_
  intro a2 bU
  have:=acy (j:=j+1) (h:=a2) aA t n Zo
  rw[gD,j2]at this
  refine this.Zm ?_
  rintro ae aS bg ⟨rfl,bK⟩
  refine cL ⟨?_⟩
  exact⟨by simp[uJ,j2],bU.trans bK⟩
 |true=>
  by_cases b6:t.w-1=0
  ·have d:decide (t.w-1=0)=true:=by simp[b6]
   refine cV @bD @d ⟨?_⟩
   refine fF (h6 (B:=3) (b:=j) (Y:=0) (n:=3) (c:=V.ofList [.bool t.b, .bool true, .Z t.w] 0 .nil) (bm aL) Zo rfl Zd Zd rfl) ?_
   refine ci @d ⟨?_⟩
   exact⟨by simp[uJ,j2,b6],dU⟩
  ·have d:decide (t.w-1=0)=false:=by simp[b6]
   refine cV @bD @d ⟨?_⟩
   refine fF (h6 (B:=3) (b:=j) (Y:=0) (n:=3) (c:=V.ofList [.bool t.b, .bool true, .Z t.w] 0 .nil) (bm aL) Zo rfl Zd Zd rfl) ?_
   refine ci @d ⟨?_⟩
   refine fc (λa2=>bq X h j a2 (j+1)) dU ?_
   intro a2 bU
   refine(acy (j:=j+1) (h:=a2) aA ⟨false,false,t.w-1⟩ n Zo).Zm ?_
   rintro ae aS bg ⟨rfl,bK⟩
   refine cL ⟨?_⟩
   exact⟨by simp[uJ,j2,b6],bU.trans bK⟩
end
end
end Go.Proofs.YtpfajohmofnkfaaGreatDoor

