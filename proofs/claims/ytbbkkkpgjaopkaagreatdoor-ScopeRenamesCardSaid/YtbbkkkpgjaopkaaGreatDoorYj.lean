/- Part of the proof of the last text; no conditions -/
import Derived.Test.YtbbkkkpgjaopkaaGreatDoorYi
import Derived.Test.YtbbkkkpgjaopkaaGreatDoorProg
set_option maxHeartbeats 8000000
set_option linter.all false
namespace Go.Proofs.YtbbkkkpgjaopkaaGreatDoor
open Go.bp
noncomputable section
structure cn where
 G:R ag
 a6:Nat
 O:Nat->List z->Option z
noncomputable def q(a:cn):aM:=⟨Tryz.prog,a.G,a.a6,a.O,Tryz.prog.globals.size⟩
instance:Coe cn aM:=⟨q⟩
variable (X : cn) (h : R ag) (j : Nat) (ai aw : bN) (a0 bm ct a3 a4 a5 kd kz kA : z)
abbrev jh(v x:z)(h:R ag)(n:Nat)(o:bN):Prop:=oN o λW=>im true v (W x h n) (W bp.undef h n)
abbrev hM(v x:z)(h:R ag)(n:Nat)(o:bN):Prop:=oN o λW=>im false v (W x h n) (W bp.undef h n)
abbrev ei(v:z)(V:Option z)(h:R ag)(n:Nat)(o:bN):Prop:=oN o λW=>im true v (ar V λx=>W x h n) (W bp.undef h n)
abbrev eG(v:z)(V:Option z)(h:R ag)(n:Nat)(o:bN):Prop:=oN o λW=>im false v (ar V λx=>W x h n) (W bp.undef h n)
abbrev nQ(v:z)(V:Option z)(h:R ag)(n:Nat)(o:bN):Prop:=oN o λW=>im true v (ca V λx=>W x h n) (W bp.undef h n)
abbrev y9(v:z)(V:Option z)(h:R ag)(n:Nat)(o:bN):Prop:=oN o λW=>im false v (ca V λx=>W x h n) (W bp.undef h n)
abbrev abq(v:z)(V:Option z)(al:z->Option z)(h:R ag)(n:Nat)(o:bN):Prop:=oN o λW=>im true v (ca V λt=>ar (al t) λx=>W x h n) (W bp.undef h n)
abbrev abp(v:z)(V:Option z)(al:z->Option z)(h:R ag)(n:Nat)(o:bN):Prop:=oN o λW=>im false v (ca V λt=>ar (al t) λx=>W x h n) (W bp.undef h n)
abbrev lx(v:z)(g:bN->Prop)(h:R ag)(n:Nat)(o:bN):Prop:=oN o λW=>im true v (g W) (W bp.undef h n)
abbrev k3(v:z)(g:bN->Prop)(h:R ag)(n:Nat)(o:bN):Prop:=oN o λW=>im false v (g W) (W bp.undef h n)
abbrev L5(v x:z)(h:R ag)(o:z->R ag->Prop):Prop:=uj o λW=>im false v (W x h) (W bp.undef h)
abbrev kO(v:z)(V:Option z)(h:R ag)(o:z->R ag->Prop):Prop:=uj o λW=>im true v (ar V λx=>W x h) (W bp.undef h)
abbrev Cc(v:z)(V:Option z)(h:R ag)(o:z->R ag->Prop):Prop:=uj o λW=>im false v (ar V λx=>W x h) (W bp.undef h)
abbrev Rh(v:z)(V:Option z)(h:R ag)(o:z->R ag->Prop):Prop:=uj o λW=>im true v (ca V λx=>W x h) (W bp.undef h)
abbrev abn(v:z)(V:Option z)(h:R ag)(o:z->R ag->Prop):Prop:=uj o λW=>im false v (ca V λx=>W x h) (W bp.undef h)
abbrev Ri(v:z)(V:Option z)(al:z->Option z)(h:R ag)(o:z->R ag->Prop):Prop:=uj o λW=>im true v (ca V λt=>ar (al t) λx=>W x h) (W bp.undef h)
abbrev abo(v:z)(V:Option z)(al:z->Option z)(h:R ag)(o:z->R ag->Prop):Prop:=uj o λW=>im false v (ca V λt=>ar (al t) λx=>W x h) (W bp.undef h)
abbrev L4(v:z)(g:(z->R ag->Prop)->Prop)(h:R ag)(o:z->R ag->Prop):Prop:=uj o λW=>im false v (g W) (W bp.undef h)
abbrev ew(a2)(I:z)(M:aM)(ak:(R ag))(o:z->z->Prop):=ar (hI a2 I) λci=>ar (aR M ak ci) λb0=>o ci b0
abbrev v8(aA:Nat)(bq:aM)(bV:(R ag))(o:z->(R ag)->Nat->Prop):=ar (kB [.Z 0, .str [], .Z 0, .int .u64 0, .zF, .zF, .Z 0] aA) λci=>g1 bq bV aA ci.1 ci.2 o
abbrev fu(a2:da)(I)(ak)(o:z->z->Prop):=ca (a2 I) λci=>ca (a2 ak) λb0=>o ci b0
abbrev fZ(a2:z)(I)(M:aM)(ak:(R ag))(o:z->z->Prop):=ar (mh a2) λci=>ew I ci M ak o
abbrev hu(a2:da)(I)(o:z->Prop):=ca (a2 I) λci=>ar (bg .add ci (.Z 1)) o
abbrev jQ(I:z)(o:z->z->Prop):=ar (q2 0 I) λci=>ar (q2 1 I) λb0=>o ci b0
abbrev nr(a2:da)(I)(M:aM)(ak:(R ag))(aA)(bq:z)(o:(R ag)->z->Prop):=ca (a2 I) λci=>ar (fc M ak aA ci bq) λb0=>ca (a2 I) λcy=>ar (d0 M b0 aA cy) λcT=>o b0 cT
abbrev hQ(a2:z)(I)(o:z->Prop):=ar (mh a2) λci=>ar (hI I ci) o
abbrev q9(ak)(aA:Nat)(bq:aM)(bV:(R ag))(jX:z)(nH:bN)(o:z->(R ag)->Nat->Prop):=ar (it 1 [.str []] [(0,1, .str [ak])] aA) λci=>g1 bq bV aA ci.1 ci.2 λb0 cy cT=>a7 bq 59 [jX,b0] cy cT o nH
abbrev i1(a2:da)(I)(M)(o:z->Prop):=fu a2 I M λci b0=>ar (bg .lss ci b0) o
abbrev o6(a2:z)(I)(M:z)(ak:(R ag))(aA:Nat)(bV:aM)(o:z->(R ag)->Nat->Prop):=eG a2 (hI I M) ak aA λci b0 cy=>eG a2 (aR bV b0 ci) b0 cy o
abbrev jB(a2:da)(I)(M:aM)(ak:(R ag))(o:z->Prop):=ca (a2 I) λci=>ar (aR M ak ci) o
abbrev AP(ak:Nat)(aA:aM)(bq:(R ag))(o:z->(R ag)->Nat->Prop):=ar (kB [.str [], .Z 0, .zF, .zF, .Z 0, .str [], .Z 0, .zF] ak) λci=>g1 aA bq ak ci.1 ci.2 o
abbrev tj(a2:z)(I)(M:z)(ak:(R ag))(aA:Nat)(bV:aM)(o:z->(R ag)->Nat->Prop):=ei a2 (hI I M) ak aA λci b0 cy=>ei a2 (aR bV b0 ci) b0 cy o
abbrev uF(a2:Nat)(I:aM)(M:(R ag))(bq:z)(o:z->Nat->(R ag)->Prop):=v8 a2 I M λci b0 cy=>ar (fc I b0 7 ci bq) λcT=>o ci cy cT
abbrev eF(a2:da)(o:z->Prop):=ca (a2 0) o
abbrev n5(I)(o:z->Prop):=ar (some (z.iface 153 (.Z I))) o
abbrev mP(a2:aM)(I:(R ag))(M:Nat)(ak)(aA)(bV)(c2:z)(o:z->Nat->(R ag)->Prop):=g1 a2 I M ak aA λci b0 cy=>ar (fc a2 b0 bV ci c2) λcT=>o ci cy cT
abbrev n6(a2)(I:da)(M)(ak)(aA)(o:fE->z->Prop):=bw a2 λci=>fu I M ak λb0 cy=>ar (hr aA b0 cy) λcT=>o ci cT
abbrev jO(a2:da)(I)(M)(ak:aM)(aA:(R ag))(o:z->z->Prop):=ca (a2 I) λci=>ew M ci ak aA o
abbrev JD(bV:Nat)(o:(z×ag)->Prop):=ar (kB [.Z 0, .str [], .Z 0, .zF, .zF, .Z 0, .str [], .Z 0, .zF, .Z 0, .Z 0] bV) o
abbrev ka(a2:aM)(I:(R ag))(ak:z)(aA:z)(o:(R ag)->Prop):=ar (fc a2 I 1 ak aA) o
abbrev q5(a2:z)(I)(M:fE)(o:z->fE->Prop):=ar (bg .eql a2 (.Z I)) λci=>bw M λb0=>o ci b0
abbrev Tj(a2:da)(I)(M)(o:z->Prop):=ca (a2 I) λci=>ar (bg .sub ci (.Z M)) o
abbrev kV(a2:z)(I)(o:z->fE->Prop):=ar (gl a2) λci=>bw I λb0=>o ci b0
abbrev F4(a2:z)(I:da)(ak:(R ag))(bV)(eg:aM)(o:z->(R ag)->Prop):=Rh a2 (I 0) ak λci b0=>kO a2 (mh ci) b0 λcy cT=>kO a2 (hI bV cy) cT λfi pc=>kO a2 (aR eg pc fi) pc o
abbrev F5(a2:z)(M:aM)(ak:(R ag))(o:(R ag)->Prop):=fZ a2 1 M ak λci b0=>ar (bg .add b0 (.Z 1)) λcy=>hQ a2 1 λcT=>ka M ak cT cy o
abbrev xR(a2:da)(I)(o:z->Prop):=eF a2 λci=>ar (md ci (some (.Z I)) none) o
abbrev JE(a2)(I:z)(M:aM)(ak:(R ag))(eg)(o:z->Prop):=ew a2 I M ak λci b0=>ar (fd [.Z 0, .Z 0] [(0,1, .Z eg),(1,1,b0)]) λcy=>ar (some (z.iface 26 cy)) o
abbrev Nn(bV:Nat)(c2)(eg:aM)(hf:(R ag))(o:z->(R ag)->Prop):=ar (kB [.Z 0, .str [], .Z 0, .zF, .zF, .Z 0, .str [], .Z 0, .zF, .Z 0, .Z 0] (bV+c2)) λci=>l7 eg hf (bV+c2) ci.1 ci.2 o
abbrev No(a2:aM)(I:(R ag))(hf:z)(jX:z)(o:z->z->Prop):=ar (my a2 I 9 (.agg [.Z 0, .str [], .Z 0, .zF, .zF, .Z 0, .str [], .Z 0, .zF, .Z 0, .Z 0]) hf jX true) λci=>jQ ci o
abbrev Np(c2:z)(eg:Nat)(hf:aM)(jX:(R ag))(alS:z)(o:z->(R ag)->Nat->Prop):=ar (it 1 [.Z 0, .str [], .Z 0, .int .u64 0, .zF, .zF, .Z 0] [(0,7,c2)] eg) λci=>g1 hf jX eg ci.1 ci.2 λb0 cy cT=>ht (kC hf cy cT 7 alS b0) cy cT o
abbrev jP(a2:da)(I)(M:aM)(ak:(R ag))(o:z->z->z->Prop):=eF a2 λci=>fZ ci I M ak λb0 cy=>o ci b0 cy
abbrev JF(a2:aM)(I:(R ag))(ak:z)(bq:Nat)(jX)(o:z->Nat->(R ag)->z->Prop):=ar (d0 a2 I 4 ak) λci=>ar (kB [.aV, .aV, .Z 0, .cM] bq) λb0=>mP a2 I bq b0.1 b0.2 4 ci λcy cT fi=>ew jX cy a2 fi λ_ tt=>o cy cT fi tt
abbrev q6(a2:aM)(I:(R ag))(ak:z)(aA)(o:(R ag)->Prop):=ar (fc a2 I 1 ak (.Z aA)) o
abbrev q7(a2:da)(I)(M:aM)(ak:(R ag))(aA)(o:z->Prop):=ca (a2 I) λci=>ar (d0 M ak aA ci) o
abbrev Dw(a2:z)(I:z)(M:(R ag))(ak:Nat)(bV)(c2:aM)(o:z->(R ag)->Nat->Prop):=hM a2 I M ak λci b0 cy=>eG a2 (mh ci) b0 cy λcT fi pc=>o6 a2 bV cT fi pc c2 o
abbrev Nq(a2:Nat)(M:z)(aA:aM)(bq:(R ag))(eg:z)(jX:bN)(o:z->Nat->z->(R ag)->z->Prop):=ff (a2+12) λci=>fZ M 8 aA bq λb0 cy=>a7 aA 89 [eg] bq ci (λcT fi pc=>ar (it 1 [.cM] [(0,1,cT)] (a2+7)) λtt=>l7 aA fi (a2+7) tt.1 tt.2 λDS wq=>ar (aR aA wq b0) λaiA=>o cy pc DS wq aiA) jX
abbrev Nr(a2:da)(aA:(R ag))(bq:Nat)(o:z->z->(R ag)->Nat->Prop):=eF a2 λci=>ar (lK ci) λb0=>ar (bg .geq b0 (.Z 3)) λcy=>nQ cy (a2 0) aA bq λcT fi pc=>ei cy (nc cT (.Z 1)) fi pc λtt DS wq=>o cy tt DS wq
abbrev q8(a2)(I:z)(M:aM)(ak:(R ag))(aA:z)(o:(R ag)->Prop):=ar (hI a2 I) λci=>ka M ak ci aA o
abbrev AQ(M:Nat)(o:(z×ag)->Prop):=ar (kB [.Z 0, .Z 0] M) o
abbrev Ns(bV)(c2)(hf:z)(o:z->Prop):=ar (fd [.Z 0, .str [], .Z 0, .int .u64 0, .zF, .zF, .Z 0] [(0,1, .Z bV),(c2,1,hf)]) o
abbrev F6(I:Nat)(o:(z×ag)->Prop):=ar (kB [.str [], .Z 0, .aV, .aV, .aV, .aV] I) o
abbrev AR(I:z)(M:aM)(ak:(R ag))(aA)(o:z->z->z->Prop):=ew 0 I M ak λci b0=>ar (bg .eql b0 (.Z aA)) λcy=>o ci b0 cy
abbrev Nt(o:z->Prop):=ar (fd [.Z 0, .str [], .Z 0, .int .u64 0, .zF, .zF, .Z 0] []) o
abbrev kb(a2:da)(o:z->Prop):=ca (a2 4) o
abbrev Nu(a2:z)(I:da)(ak:(R ag))(aA:Nat)(hf:aM)(o:z->(R ag)->Nat->Prop):=nQ a2 (I 0) ak aA λci b0 cy=>ei a2 (mh ci) b0 cy λcT fi pc=>ei a2 (hI 4 cT) fi pc λtt DS wq=>ei a2 (d0 hf DS 3 tt) DS wq o
abbrev JG(a2:z)(M)(o:z->Prop):=ar (nc a2 (.Z 0)) λci=>ar (bg .eql ci (.int .u8 M)) o
abbrev sf(a2:z)(I:Nat)(M:aM)(ak:(R ag))(o:z->z->Nat->(R ag)->Prop):=jQ a2 λci b0=>uF I M ak ci λcy cT fi=>o b0 cy cT fi
abbrev Nv(a2:da)(I)(o:z->Prop):=ca (a2 I) λci=>ar (mU .u64 ci) o
abbrev AS(a2:aM)(I:(R ag))(M)(ak:z)(aA:z)(o:(R ag)->z->Prop):=ar (fc a2 I M ak aA) λci=>ar (d0 a2 ci M ak) λb0=>o ci b0
abbrev F7(a2:da)(I)(M)(o:z->Prop):=ca (a2 I) λci=>ar (bg .lss ci (.Z M)) o
abbrev Dx(a2:z)(o:z->Prop):=ar (bg .sub a2 (.Z 1)) o
abbrev AT(a2:z)(I:z)(M:(R ag))(ak:Nat)(bq)(bV:aM)(o:z->(R ag)->Nat->Prop):=ei a2 (mh I) M ak λci b0 cy=>tj a2 bq ci b0 cy bV o
abbrev Nw(a2:z)(I:da)(ak:(R ag))(bV)(eg:aM)(o:z->(R ag)->Prop):=abn a2 (I 0) ak λci b0=>Cc a2 (mh ci) b0 λcy cT=>Cc a2 (hI bV cy) cT λfi pc=>Cc a2 (aR eg pc fi) pc o
abbrev xS(a2:z)(I:fE)(o:z->fE->Prop):=ar (g7 .not a2) λci=>bw I λb0=>o ci b0
abbrev xT(a2:aM)(I:(R ag))(M)(ak:z)(bq)(c2:Nat)(eg:bN)(o:z->(R ag)->Nat->Prop):=ar (d0 a2 I M ak) λci=>a7 a2 bq [ci] I c2 o eg
abbrev JH(I:Nat)(o:(z×ag)->Prop):=ar (kB [.zF, .zF, .Z 0] I) o
abbrev F8(a2:z)(I:z)(o:z->Prop):=ar (gl a2) λci=>ar (bg .add I ci) o
abbrev Dy(I:z)(M:z)(ak:aM)(aA:(R ag))(o:z->Prop):=ar (hr 1 I M) λci=>ar (aR ak aA ci) o
abbrev F9(a2:z)(o:z->Prop):=ar (bg .add a2 (.Z 1)) o
abbrev Ga(a2:z)(o:z->Prop):=ar (bg .lss a2 (.Z 0)) o
abbrev Gb(a2:z)(o:z->Prop):=ar (bg .geq a2 (.Z 0)) o
abbrev Gc(a2:z)(o:z->Prop):=ar (bg .neq a2 (.Z 0)) o
abbrev Gd(a2:z)(o:z->Prop):=ar (bg .eql a2 (.Z 0)) o
abbrev xU(a2:da)(I)(M:aM)(ak:(R ag))(aA)(o:z->Prop):=jB a2 I M ak λci=>fZ ci aA M ak λ_ cy=>o cy
abbrev Nx(a2:aM)(M:z)(ak:(R ag))(aA:Nat)(bq:bN)(o:z->(R ag)->Nat->Prop):=a7 a2 89 [M] ak aA (λci b0 cy=>ar (it 1 [.cM] [(0,1,ci)] cy) λcT=>g1 a2 b0 cy cT.1 cT.2 o) bq
abbrev Ge(a2:aM)(M:z)(ak)(aA:(R ag))(bq:Nat)(bV:bN)(o:z->Nat->(R ag)->Prop):=a7 a2 61 [M, .str [ak]] aA bq (λci b0 cy=>sf ci cy a2 b0 λcT _ pc tt=>o cT pc tt) bV
abbrev Dz(a2)(I:z)(M:z)(ak:aM)(aA:(R ag))(o:z->Prop):=ar (hr a2 I M) λci=>ar (d0 ak aA a2 ci) o
def FH(a:aM)(b:bN):fE:=λc d e=>oW a [.cell 2 23, .cell 3 26] b c c.aW d e
def I3(a:aM)(b c:bN):si:=λd e f g=>vN a [.cell 2 23, .cell 3 26] b c d e d.aW f g
def Uf:Za0:=λa b c d e f=>ar (kB [.cM] d) λg=>g1 a c d g.1 g.2 λc d g=>AQ g λh=>g1 a d g h.1 h.2 λd g h=>a7 a 17 [b] g h (λg h i=>jQ g λg j=>ar (fc a h 2 d j) λh=>ew 0 d a h λ_ j=>Gc j λj=>bw (λb c d=>fu b 2 3 λg h=>Kl (.func (.func 18) [] [g,h]) [] b λb=>kb b λg=>ar (fd [.aV, .Z 0] [(0,1,g)]) λg=>jW a c d g λc d g=>a7 a 19 [c] d g (λc d g=>ca (b 2) λh=>ka a d h c λc=>jB b 2 a c λd=>a7 a 20 [d] c g (λ_ c d=>jB b 2 a c λf=>ar (fd [.Z 0, .Z 0] []) λg=>ca (b 2) λh=>ka a c h f λc=>ca (b 3) λf=>ar (fc a c 2 f g) λc=>FH a e b c d) (I3 a e f (hx [19,20] b))) (I3 a e f (hx [15,16,17,18] b))) λf=>a8 j (ff (i+3) λf=>ar (d0 a h 2 d) λi=>ar (fc a h 1 c .cM) λh=>ar (d0 a h 2 d) λk=>hG k (some i) (ar (fc a h 2 d i) λh=>FH a e (zI (cY [b]) 2 c 3 d 4 g 12 j) h f)) (f (zI (cY [b]) 2 c 3 d 4 g 12 j) h i)) (I3 a e f (hx [6,7,5,8,9,4] (zG (cY [b]) 2 c 3 d)))
def agn:Bs X 5 [a0] h j ai aw=Uf X a0 h j ai aw:=Zk
def agm:dd X 5 1=true:=Zk
def NM(a:aM)(b c:z)(d:Option z)(e:R ag)(f:Nat)(g:Bool->R ag->Nat->Prop):Prop:=
 Jb (some d) (cY [b,c]) λb c=>bw (λa b c=>g a.rc b c) λd=>ar (dc a e .eql 20 true b .nilIface) λg=>bw d λd=>a8 g (d (zG c 5 b 7 g) e f) (ar (J6 26 (.agg [.Z 0, .Z 0]) true b) λh=>ar (q2 1 h) λi=>ar (q2 0 h) λh=>bw d λd=>a8 i (AQ f λj=>mP a e f j.1 j.2 2 h λe f j=>ff (f+3) λf=>ar (d0 a j 2 e) λk=>eF c λl=>ar (fc a j 1 l .cM) λj=>ar (d0 a j 2 e) λl=>hG l (some k) (ca (c 1) λl=>ar (fc a j 2 l k) λa=>d (ac (zI c 5 b 7 g 9 i 10 h) 3 e) a f)) (xx zK b e f))
def TO(X:cn)(a0 bm:z)(j5:Option z)(h:R ag)(j:Nat)(ai:Bool->R ag->Nat->Prop):D9 X 18 [a0,bm] j5 h j ai=NM X a0 bm j5 h j ai:=Zk
def NN:dd X 18 2=true:=Zk
def TP:Za0:=λa b c d e f=>ar (fd [.aV] []) λg=>jW a c d g λc d g=>bw (λa b c=>ca (a 3) λa=>e a b c) λe=>fQ (λb c d g=>kb c λh=>bw (λc d e=>bw (λc d e=>eF c λg=>a7 a 35 [g] d e (λa d e=>ar (tF false 0 1 a) λa=>ar (bg .neq a (.Z 7)) λa=>b (ac c 4 a) d e) f) λb=>ff (e+12) λg=>fu c 3 3 λh i=>fZ i 0 a d λi j=>eF c λk=>a7 a 36 [k] d g (λd f g=>ar (it 1 [.str [], .Z 0, .aV, .aV, .aV, .aV] [(0,6,d)] (e+7)) λd=>l7 a f (e+7) d.1 d.2 λd e=>ar (aR a e i) λf=>hG f (some j) (ht (kC a e g 6 j d) e g λd e f=>hQ h 0 λg=>ka a e g d λa=>b c a f)) f) λa=>a8 h (a (ac c 7 h) d g) (e (ac c 7 h) d g)) (zH (cY [b]) 2 .cM 3 c 4 .zT) d g
def afg:dr X 19 [a0]=TP X a0:=Zk
def aff:dd X 19 1=true:=Zk
def TQ:Za0:=λa b c d e f=>fZ b 0 a c λ_ g=>ar (gl g) λg=>ar (bg .gtr g (.Z 64)) λg=>bw (λb c d=>jP b 0 a c λ_ _ g=>kV g (λ_ a b=>e (.tuple []) a b) λe h=>fQ (λb c d e=>i1 c 26 25 λg=>bw (λc d e=>n6 (λa c d=>hu a 26 λe=>b (ac a 26 e) c d) c 24 26 6 λb g=>ar (d0 a d 6 g) λg=>F6 e λh=>mP a d e h.1 h.2 6 g λd e g=>ew 2 d a g λ_ h=>ar (gl h) λh=>ew 3 d a g λ_ i=>F8 i h λh=>ew 4 d a g λ_ i=>F8 i h λh=>ar (bg .gtr h (.Z 256)) λh=>o6 h 5 d g e a λe g i=>eG h (gl e) g i λe g i=>eG h (bg .gtr e (.Z 4096)) g i λe g i=>c3 (λe=>bw (λc d e=>jO c 3 5 a d λ_ g=>ar (gl g) λh=>bw b λb=>fQ (λc d e g=>i1 d 55 54 λh=>bw (λb d e=>n6 (λa b d=>hu a 55 λe=>c (ac a 55 e) b d) b 53 55 4 λc g=>JF a d g e 3 λd e g h=>a7 a 37 [h] g e (λe g h=>ar (bg .gtr e (.Z 200)) λe=>bw c λc=>a8 e (JE 2 d a g 22 λa=>xx f a g h) (c (zG b 5 d 62 e) g h)) f) λa=>a8 h (a (ac d 56 h) e g) (b (ac d 56 h) e g)) (zH c 53 g 54 h 55 (.Z 0)) d e) λb=>a8 e (JE 1 d a g 30 λa=>xx f a g i) (b (zG c 3 d 47 e) g i)) λa=>a8 h (a .zT) (a e)) λa=>a8 g (a (ac c 27 g) d e) (h (ac c 27 g) d e)) (zH b 24 g 25 e 26 (.Z 0)) c d) λe=>a8 g (fZ b 0 a c λ_ b=>ar (hr 6 b (.Z 64)) λb=>JE 1 b a c 30 λa=>xx f a c d) (e (ac (cY [b]) 11 g) c d)
def afi:dr X 20 [a0]=TQ X a0:=Zk
def afh:dd X 20 1=true:=Zk
def T5:Za0:=λa b c d e _=>v8 d a c λc d f=>ff (f+11) λf=>fZ b 0 a d λ_ g=>fZ b 1 a d λ_ b=>Dz 7 g b a d λb=>AS a d 7 c b λa b=>e b a f
def afG:dr X 35 [a0]=T5 X a0:=Zk
def afF:dd X 35 1=true:=Zk
def T6:Za0:=λa b c d e f=>F6 d λg=>g1 a c d g.1 g.2 λc d g=>ar (it 1 [.str []] [(0,1, .str [110,111,100,101])] g) λh=>g1 a d g h.1 h.2 λd g h=>a7 a 59 [b,d] g h (λ_ d g=>a7 a 60 [b, .Z 1] d g (λd g h=>uF h a g d λd g h=>ew 1 d a h λ_ i=>ew 2 d a h λ_ j=>ar (fd [.str [], .Z 0, .aV, .aV, .aV, .aV] [(0,1,i),(1,1,j)]) λi=>F6 g λj=>mP a h g j.1 j.2 6 i λg h i=>q9 40 h a i b f λ_ h i=>Ge a b 41 h i f λh i j=>ar (g7 .not h) λk=>bw (λb c d=>eF b λg=>ar (it 2 [.str [], .str []] [(0,1, .str [114,101,116,117,114,110,115]),(1,1, .str [40])] d) λh=>g1 a c d h.1 h.2 λc d h=>a7 a 59 [g,c] d h (λ_ c d=>eF b λg=>a7 a 62 [g, .zF] c d (λc d g=>kb b λh=>q8 3 h a d c λc=>eF b λd=>q9 41 g a c d f λ_ c d=>eF b λg=>a7 a 61 [g, .str [118,97,114]] c d (λc d g=>sf c g a d λc _ d g=>bw (λb c d=>eF b λg=>ar (it 1 [.str []] [(0,1, .str [108,101,116])] d) λh=>g1 a c d h.1 h.2 λc d h=>a7 a 59 [g,c] d h (λ_ c d=>bw (λb c d=>q7 b 2 a c 6 λa=>e a c d) λ_=>fQ (λb c d g=>bw b λb=>eF c λh=>a7 a 61 [h, .str [116,101,108]] d g (λd g h=>sf d h a g λd _ g h=>bw (λc d e=>ff (e+8) λg=>jO c 4 5 a d λh i=>eF c λj=>a7 a 63 [j] d g (λd f g=>ar (it 1 [.aV, .aV, .Z 0, .cM] [(0,4,d)] (e+4)) λd=>l7 a f (e+4) d.1 d.2 λd e=>ar (aR a e h) λf=>hG f (some i) (ht (kC a e g 4 i d) e g λd e f=>kb c λg=>q8 5 g a e d λa=>b c a f)) f) λb=>a8 d (q7 c 4 a h 6 λb=>nr c 2 a h 6 b λa b=>e b a g) (b (zG c 10 d 66 d) h g)) f) b c d) f) λe=>a8 c (eF b λh=>a7 a 62 [h, .zT] g d (λd g h=>kb b λi=>q8 4 i a g d λd=>eF b λg=>q9 59 h a d g f λ_ a d=>e (zG b 8 c 51 c) a d) f) (e (zG b 8 c 51 c) g d)) f) f) f) λe=>a8 k (a7 a 62 [b, .zF] j i (λi j l=>q8 2 g a j i λi=>q9 41 l a i b f λ_ a f=>e (ac (zI (cY [b]) 2 c 3 d 4 g 6 h) 30 k) a f) f) (e (ac (zI (cY [b]) 2 c 3 d 4 g 6 h) 30 k) j i)) f) f
def afI:dr X 36 [a0]=T6 X a0:=Zk
def afH:dd X 36 1=true:=Zk
def Up:Za1:=λa b c d e f g=>v8 e a d λd e h=>v8 h a e λe h i=>kV c (λb c d=>q7 b 5 a c 7 λe=>nr b 4 a c 7 e λa b=>f b a d) λf j=>fQ (λb c d e=>i1 c 11 10 λf=>bw (λc d e=>n6 (λa c d=>hu a 11 λe=>b (ac a 11 e) c d) c 9 11 1 λb f=>ar (aR a d f) λf=>eF c λh=>a7 a 61 [h,f] d e (λd e h=>jQ d λd i=>ca (c 5) λj=>ar (fc a e 7 j d) λd=>xS i b λb e=>a8 b (eF c λj=>a7 a 35 [j] d h (λd h j=>a7 a 87 [d] h j (λ_ a d=>e (zI c 7 f 8 .zF 8 i 22 b) a d) g) g) (e (zI c 7 f 8 .zF 8 i 22 b) d h)) g) λa=>a8 f (a (ac c 12 f) d e) (j (ac c 12 f) d e)) (ac (zI (cY [b,c]) 4 d 5 e 9 c 10 f) 11 (.Z 0)) h i
def agl:dr X 59 [a0,bm]=Up X a0 bm:=Zk
def agk:dd X 59 2=true:=Zk
def Uq:Za1:=λa b c d e f g=>v8 e a d λd e h=>a7 a 35 [b] e h (λe h i=>uF i a h e λe h i=>ew 0 e a i λ_ j=>ar (bg .neq j c) λj=>bw (λb c d=>eF b λe=>F5 e a c λc=>q7 b 5 a c 7 λe=>nr b 4 a c 7 e λa b=>f b a d) λf=>a8 j (xT a i 7 e 87 h g λ_ a g=>f (zH (cY [b,c]) 4 d 5 e 11 j) a g) (f (zH (cY [b,c]) 4 d 5 e 11 j) i h)) g
def agp:dr X 60 [a0,bm]=Uq X a0 bm:=Zk
def ago:dd X 60 2=true:=Zk
def NP:Za1:=λa b c d e f g=>v8 e a d λd e h=>a7 a 35 [b] e h (λe g h=>uF h a g e λe g h=>ew 0 e a h λ_ i=>ar (bg .neq i (.Z 2)) λi=>tj i 0 e h g a λg h j=>ei i (bg .neq g (.Z 6)) h j λg h j=>c3 (λg=>o6 g 1 e h j a λh i j=>hM g c i j λi j k=>eG g (dc a j .neq 9 false h i) j k λh i j=>c3 (λg=>bw (λb c d=>eF b λe=>F5 e a c λc=>q7 b 6 a c 7 λe=>nr b 4 a c 7 e λa b=>f (.tuple [b, .zT]) a d) λh=>a8 g (Nt λb=>AS a i 7 d b λa b=>f (.tuple [b, .zF]) a j) (h (zI (cY [b,c]) 4 d 5 .zF 6 e 22 g) i j)) λa=>a8 g (a .zT) (a h)) λa=>a8 i (a g) (a .zF)) g
def Us:dr X 61 [a0,bm]=NP X a0 bm:=Zk
def Ur:dd X 61 2=true:=Zk
def Ut:Za1:=λa b c d e f g=>bw (λa b c=>kb a λa=>f a b c) λ_=>fQ (λb c d e=>bw b λb=>bw (λc d e=>eF c λh=>q9 58 e a d h g λ_ d e=>eF c λh=>a7 a 60 [h, .Z 3] d e (λd e h=>ar (tF true 4 3 d) λd=>ar (fd [.str [], .Z 0, .zF, .zF, .Z 0, .str [], .Z 0, .zF] [(2,3,d)]) λd=>AP h a e λe h i=>ar (fc a h 8 e d) λd=>eF c λh=>a7 a 61 [h, .str [119,104,101,110]] d i (λd h i=>sf d i a h λd _ h i=>bw (λc d e=>ca (c 6) λh=>kV h (λc d e=>ff (e+22) λe=>eF c λh=>a7 a 35 [h] d e (λd e g=>ar (tF false 1 1 d) λd=>ar (dc a e .neq 9 true d (.str [59])) λd=>abn d (c 1) e λe h=>L5 d e h λe h=>F4 e c h 0 a λh i=>F4 e c i 1 a λi j=>kO e (bg .add i (.Z 1)) j λi j=>kO e (hr 7 h i) j λh i=>kO e (hI 1 h) i λh i=>kO e (aR a i h) i λh i=>kO e (dc a i .eql 9 true h (.str [108,101,116])) i λh i=>L4 d (λa=>c3 (λb=>a b i) λa=>a8 e (a h) (a .zF)) i λe h=>c3 (λd=>bw (λc d e=>eF c λf=>F5 f a d λa=>b c a e) λa=>a8 d (ca (c 5) λa=>f a h g) (a (ac c 90 d) h g)) λa=>a8 d (a .zT) (a e)) g) λb f=>fQ (λb c d e=>i1 c 54 53 λg=>bw (λc d e=>n6 (λa c d=>hu a 54 λe=>b (ac a 54 e) c d) c 52 54 7 λb f=>ar (d0 a d 7 f) λf=>uF e a d f λd e f=>ff (e+8) λe=>ew 1 d a f λ_ g=>ew 2 d a f λh i=>ca (c 8) λj=>q8 0 j a f g λf=>ca (c 8) λg=>ar (hI 1 g) λg=>ar (aR a f h) λh=>hG h (some i) (ka a f g i λf=>fu c 5 8 λg h=>ar (d0 a f 8 h) λh=>ar (it 1 [.str [], .Z 0, .zF, .zF, .Z 0, .str [], .Z 0, .zF] [(0,8,h)] e) λh=>g1 a f e h.1 h.2 λe f h=>ht (kC a f h 8 g e) f h λa e f=>b (zG c 13 d 5 a) e f)) λa=>a8 g (a (ac c 55 g) d e) (f (ac c 55 g) d e)) (zH c 52 h 53 b 54 (.Z 0)) d e) λb=>a8 d (eF c λf=>a7 a 61 [f, .str [110,111,116]] i h (λf h i=>jQ f λ_ f=>q8 7 e a h f λf=>eF c λh=>a7 a 60 [h, .Z 1] f i (λf g h=>uF h a g f λf g h=>ff (g+8) λg=>ew 1 f a h λ_ i=>ew 2 f a h λj k=>q8 5 e a h i λh=>ar (hI 6 e) λi=>ar (aR a h j) λj=>hG j (some k) (ka a h i k λa=>b (zI c 8 e 10 d 37 d 11 f) a g)) g) g) (b (zH c 8 e 10 d 37 d) i h)) g) g) λb=>fQ (λc d e f=>ca (d 7) λh=>bw (λb d e=>bw (λb d e=>eF b λf=>a7 a 61 [f, .str [44]] d e (λa d e=>jQ a λ_ a=>c (ac b 7 a) d e) g) λc=>fu b 6 0 λf h=>a7 a 60 [h, .Z 1] d e (λd e g=>Np d g a e f λa d e=>c (ac b 6 a) d e) g) λa=>a8 h (a (ac d 14 h) e f) (b (ac d 14 h) e f)) (zG c 6 .aV 7 .zT) d e) (zG (cY [b,c]) 4 .aV 5 .aV) d e
def agr:dr X 62 [a0,bm]=Ut X a0 bm:=Zk
def agq:dd X 62 2=true:=Zk
def Uu:Za0:=λa b c d e f=>jW a c d b λc d g=>ar (kB [.aV, .aV, .Z 0, .cM] g) λh=>g1 a d g h.1 h.2 λd g h=>ar (kB [.aV, .aV, .Z 0, .cM] h) λi=>g1 a g h i.1 i.2 λg h i=>ar (aR a h c) λj=>Ge a j 40 h i f λh i j=>bw (λb c d=>jB b 1 a c λg=>q9 61 d a c g f λc d g=>ar (tF false 2 1 c) λc=>ca (b 3) λh=>q8 2 h a d c λc=>jB b 1 a c λd=>a7 a 89 [d] c g (λc d g=>ca (b 3) λh=>q8 3 h a d c λc=>jB b 1 a c λd=>q9 59 g a c d f λ_ c d=>q7 b 3 a c 4 λf=>nr b 2 a c 4 f λa b=>e b a d) f) λe=>a8 h (mx a (.func (.func 88) [] [c,g]) [] j i (λ_ i j=>ar (aR a i c) λk=>q9 44 j a i k f λ_ i j=>bw (λb c d=>jB b 1 a c λg=>q9 41 d a c g f λ_ a c=>e b a c) λe=>fQ (λb c d g=>ca (c 7) λh=>bw (λc d e=>bw (λc d e=>jB c 1 a d λg=>a7 a 61 [g, .str [44]] d e (λa d e=>jQ a λ_ a=>b (ac c 7 a) d e) f) λb=>kb c λg=>mx a g [] d e (λ_ a d=>b c a d) f) λa=>a8 h (a (ac c 20 h) d g) (e (ac c 20 h) d g)) (zH (zI (cY [b]) 1 c 2 d 3 g 4 (.func (.func 88) [] [c,g])) 6 h 14 h 7 .zT) i j) f) (mx a (.func (.func 88) [] [c,g]) [] j i (λ_ a f=>e (zG (zI (cY [b]) 1 c 2 d 3 g 4 (.func (.func 88) [] [c,g])) 6 h 14 h) a f) f)
def agt:dr X 63 [a0]=Uu X a0:=Zk
def ags:dd X 63 1=true:=Zk
def UT:Za0:=λa b c d _ e=>jW a c d b λb c d=>JE 2 b a c 21 λa=>xx e a c d
def ahb:dr X 87 [a0]=UT X a0:=Zk
def aha:dd X 87 1=true:=Zk
def UU:Za1:=λa b c d e f g=>ar (aR a d b) λb=>a7 a 60 [b, .Z 1] d e (λb d e=>uF e a d b λb d e=>ff (d+16) λg=>ew 0 c a e λ_ h=>ew 1 b a e λ_ i=>ar (it 1 [.str []] [(0,1,i)] (d+4)) λi=>l7 a e (d+4) i.1 i.2 λe i=>ew 1 c a i λj k=>ew 2 b a i λb l=>ar (it 1 [.Z 0] [(0,1,l)] (d+10)) λm=>l7 a i (d+10) m.1 m.2 λd i=>ht (kC a i g 1 h e) i g λe g h=>ar (hI 0 c) λi=>ar (aR a g j) λj=>hG j (some k) (ar (aR a g b) λb=>hG b (some l) (ht (kC a g h 1 k d) g h λb d g=>ka a d i e λd=>q8 1 c a d b λa=>f (.tuple []) a g))) g
def ahd:dr X 88 [a0,bm]=UU X a0 bm:=Zk
def ahc:dd X 88 2=true:=Zk
def UV:Za0:=λa b c d e f=>a7 a 109 [b] c d (λc d g=>a7 a 61 [b, .str [45,62]] d g (λd g h=>sf d h a g λd g h i=>ar (g7 .not d) λj=>bw (λb c d=>ff (d+9) λg=>jO b 4 2 a c λh i=>fu b 3 0 λb j=>a7 a 89 [j] c g (λc f g=>ar (it 2 [.cM, .cM] [(0,1,b),(1,1,c)] (d+5)) λb=>l7 a f (d+5) b.1 b.2 λb c=>ar (fd [.Z 0, .Z 0, .str [], .zF, .zF, .zF, .Z 0, .int .u64 0, .aV] [(0,1, .Z 22),(1,1,i),(8,1,b)]) λb=>ws a c (d+7) b λb c=>ar (aR a c h) λa=>hG a (some i) (e b c g)) f) λa=>a8 j (e c i h) (a (ac (zI (cY [b]) 2 .cM 3 c 4 g 5 d) 14 j) i h)) f) f
def ahf:dr X 89 [a0]=UV X a0:=Zk
def ahe:dd X 89 1=true:=Zk
def Ty:Za0:=λa b c d e f=>a7 a 118 [b, .Z 0] c d (λc d g=>a7 a 61 [b, .str [102,98,121]] d g (λd g h=>sf d h a g λd g h i=>ar (g7 .not d) λj=>bw (λb c d=>ca (b 3) λg=>fZ g 0 a c λ_ g=>ar (bg .neq g (.Z 1)) λg=>nQ g (b 3) c d λc d h=>AT g c d h 0 a λc d h=>ei g (bg .neq c (.Z 4)) d h λc d h=>jh g c d h λc d h=>y9 c (b 3) d h λd h i=>eG c (mh d) h i λd h i=>o6 c 8 d h i a λd h i=>eG c (hr 1 d (.Z 0)) h i λd h i=>eG c (aR a h d) h i λd h i=>eG c (mh d) h i λd h i=>o6 c 0 d h i a λd h i=>eG c (bg .neq d (.Z 1)) h i λd h i=>lx g (λa=>c3 (λb=>a b h i) λa=>a8 c (a .zT) (a d)) h i λc d h=>c3 (λc=>bw (λb c d=>ff (d+9) λg=>jO b 4 2 a c λh i=>fu b 3 0 λb j=>a7 a 109 [j] c g (λc f g=>ar (it 2 [.cM, .cM] [(0,1,b),(1,1,c)] (d+5)) λb=>l7 a f (d+5) b.1 b.2 λb c=>ar (fd [.Z 0, .Z 0, .str [], .zF, .zF, .zF, .Z 0, .int .u64 0, .aV] [(0,1, .Z 21),(1,1,i),(8,1,b)]) λb=>ws a c (d+7) b λb c=>ar (aR a c h) λa=>hG a (some i) (e b c g)) f) λe=>a8 c (q7 b 4 a d 7 λg=>a7 a 87 [g] d h (λ_ a d=>e (ac b 39 c) a d) f) (e (ac b 39 c) d h)) λa=>a8 g (a c) (a .zF)) λa=>a8 j (e c i h) (a (ac (zI (cY [b]) 2 .cM 3 c 4 g 5 d) 14 j) i h)) f) f
def aeK:dr X 109 [a0]=Ty X a0:=Zk
def aeJ:dd X 109 1=true:=Zk
def TF:Za1:=λa b c d e f g=>ar (bg .eql c (.Z 5)) λh=>bw (λb c d=>fu b 0 1 λe h=>F9 h λh=>a7 a 118 [e,h] c d (λc d e=>bw (λa b c=>kb a λa=>f a b c) λ_=>fQ (λb c d e=>bw b λb=>fu c 0 1 λh i=>a7 a 122 [h,i] d e (λd e h=>jQ d λd i=>ar (g7 .not i) λj=>bw (λc d e=>fu c 6 5 λh i=>fu c 0 1 λj k=>F9 k λk=>a7 a 118 [j,k] d e (λd e g=>ar (it 2 [.cM, .cM] [(0,1,i),(1,1,d)] g) λd=>g1 a e g d.1 d.2 λd e g=>hQ h 8 λh=>ka a e h d λa=>fu c 6 1 λd e=>q5 e 2 b λb e=>a8 b (f d a g) (e (zG c 5 d 36 b) a g)) g) λa=>a8 j (ca (c 5) λa=>f a e h) (a (zH c 6 d 7 i 23 j) e h)) g) (ac b 5 c) d e) g) λi=>a8 h (a7 a 121 [b] d e f g) (i (zG (cY [b,c]) 4 .cM 9 h) d e)
def aeY:dr X 118 [a0,bm]=TF X a0 bm:=Zk
def aeX:dd X 118 2=true:=Zk
def TI:Za0:=λa b c d e f=>a7 a 127 [b] c d (λc d g=>bw (λa b c=>ca (a 2) λa=>e a b c) λ_=>fQ (λb c d g=>bw b λb=>eF c λh=>a7 a 61 [h, .str [60,60]] d g (λd g h=>sf d h a g λd g h i=>ar (g7 .not d) λj=>bw (λc d g=>ca (c 6) λh=>ar (g7 .not h) λh=>bw (λc d e=>eF c λg=>a7 a 60 [g, .Z 4] d e (λd e g=>uF g a e d λd e g=>ew 3 d a g λ_ h=>ar (bg .gtr h (.int .u64 63)) λh=>bw (λc d e=>fu c 4 5 λf g=>ew 2 g a d λ_ g=>jO c 7 3 a d λ_ h=>ca (c 3) λi=>ar (it 1 [.cM] [(0,1,i)] e) λi=>g1 a d e i.1 i.2 λd e i=>ar (fd [.Z 0, .Z 0, .str [], .zF, .zF, .zF, .Z 0, .int .u64 0, .aV] [(0,1,f),(1,1,g),(7,1,h),(8,1,d)]) λd=>jW a e i d λa d e=>b (ac c 3 a) d e) λb=>a8 h (xT a g 7 d 87 e f λ_ a e=>b (zG c 7 d 29 h) a e) (b (zG c 7 d 29 h) g e)) f) λa=>a8 h (ca (c 3) λa=>e a d g) (a (ac c 23 h) d g)) λb=>a8 j (eF c λe=>a7 a 61 [e, .str [62,62]] i h (λe f h=>jQ e λe i=>ar (fc a f 7 g e) λa=>b (zG (zI c 4 (.Z 19) 5 g 6 d 16 j) 4 (.Z 20) 6 i) a h) f) (b (zI c 4 (.Z 19) 5 g 6 d 16 j) i h)) f) (zG (cY [b]) 2 .cM 3 c) d g) f
def ae4:dr X 121 [a0]=TI X a0:=Zk
def ae3:dd X 121 1=true:=Zk
def TJ:Za1:=λa b c d e f g=>ar (E9 5 1 (.ptr 7 0) c) λh=>ar (aR a d h) λh=>kV h (λ_ a b=>f (.tuple [.cM, .zF]) a b) λi j=>fQ (λb c d e=>i1 c 14 13 λh=>bw (λc d e=>n6 (λa c d=>hu a 14 λe=>b (ac a 14 e) c d) c 12 14 2 λb h=>ar (d0 a d 2 h) λh=>ar (kB [.str [], .Z 0] e) λi=>mP a d e i.1 i.2 2 h λd e h=>eF c λi=>ew 0 d a h λ_ j=>a7 a 61 [i,j] h e (λe g h=>sf e h a g λe g h i=>bw b λb=>a8 e (ew 1 d a i λ_ b=>ew 2 g a i λ_ c=>ar (fd [.Z 0, .Z 0, .str [], .zF, .zF, .zF, .Z 0, .int .u64 0, .aV] [(0,1,b),(1,1,c)]) λb=>jW a i h b λa b c=>f (.tuple [a, .zT]) b c) (b (zI c 7 d 8 g 9 e 25 e) i h)) g) λa=>a8 h (a (ac c 15 h) d e) (j (ac c 15 h) d e)) (ac (zI (cY [b,c]) 4 .cM 5 .zF 12 h 13 i) 14 (.Z 0)) d e
def ae6:dr X 122 [a0,bm]=TJ X a0 bm:=Zk
def ae5:dd X 122 2=true:=Zk
def TL:Za0:=λa b c d e f=>ar (fd [.str [], .Z 0] [(0,1, .str [110,111,116]),(1,1, .Z 3)]) λg=>ar (fd [.str [], .Z 0] [(0,1, .str [45]),(1,1, .Z 4)]) λh=>ar (fd [.str [], .Z 0] [(0,1, .str [112,114,101]),(1,1, .Z 5)]) λi=>ar (fd [.str [], .Z 0, .str [], .Z 0, .str [], .Z 0] [(0,2,g),(2,2,h),(4,2,i)]) λg=>bw (λb c d=>eF b λg=>a7 a 133 [g] c d (λc d g=>bw (λa b c=>ca (a 2) λa=>e a b c) λ_=>fQ (λb c d g=>bw b λb=>eF c λh=>a7 a 61 [h, .str [119,104,101,110]] d g (λd g h=>sf d h a g λd g h i=>ar (g7 .not d) λj=>bw (λc d e=>eF c λg=>a7 a 61 [g, .str [110,111,116]] d e (λd e g=>sf d g a e λd _ e g=>ff (e+11) λh=>jO c 8 2 a g λi j=>fu c 0 7 λk l=>ar (it 1 [.cM] [(0,1,l)] (e+7)) λl=>l7 a g (e+7) l.1 l.2 λg l=>a7 a 60 [k, .Z 1] l h (λf h k=>ar (tF false 1 1 f) λf=>ar (fd [.Z 0, .Z 0, .str [], .zF, .zF, .zF, .Z 0, .int .u64 0, .aV] [(0,1, .Z 6),(1,1,j),(2,1,f),(3,1,d),(8,1,g)]) λf=>ws a h (e+9) f λe f=>ar (aR a f i) λa=>hG a (some j) (b (zG c 11 d 7 e) f k)) f) f) λa=>a8 j (ca (c 7) λa=>e a i h) (a (zH c 8 g 9 d 45 j) i h)) f) (ac b 7 c) d g) f) λh=>fQ (λb c d g=>F7 c 16 3 λi=>bw (λc d g=>bw (λa c d=>hu a 16 λe=>b (ac a 16 e) c d) λb=>fu c 15 16 λh i=>ar (sV true 3 2 h i) λh=>ar (kB [.str [], .Z 0] g) λi=>mP a d g i.1 i.2 2 h λd g h=>eF c λi=>ew 0 d a h λ_ j=>a7 a 61 [i,j] h g (λg h i=>sf g i a h λg h i j=>bw b λb=>a8 g (ff (i+10) λb=>ew 1 d a j λd g=>ew 2 h a j λh k=>eF c λc=>a7 a 127 [c] j b (λb c f=>ar (it 1 [.cM] [(0,1,b)] (i+6)) λb=>l7 a c (i+6) b.1 b.2 λb c=>ar (fd [.Z 0, .Z 0, .str [], .zF, .zF, .zF, .Z 0, .int .u64 0, .aV] [(0,1,g),(1,1,k),(8,1,b)]) λb=>ws a c (i+8) b λb c=>ar (aR a c d) λd=>hG d (some g) (ar (aR a c h) λa=>hG a (some k) (e b c f))) f) (b (zI c 4 d 5 h 6 g 26 g) j i)) f) λa=>a8 i (a (ac c 17 i) d g) (h (ac c 17 i) d g)) (zH (cY [b]) 2 .cM 15 g 16 (.Z 0)) c d
def afa:dr X 127 [a0]=TL X a0:=Zk
def ae9:dd X 127 1=true:=Zk
def wi:Za0:=λa b c d e f=>a7 a 35 [b] c d (λc d g=>uF g a d c λc d g=>ew 2 c a g λ_ h=>ar (fd [.Z 0, .Z 0, .str [], .zF, .zF, .zF, .Z 0, .int .u64 0, .aV] [(1,1,h)]) λh=>jW a g d h λd g h=>F5 b a g λg=>bw (λa b c=>kb a λa=>e a b c) λe=>ew 0 c a g λ_ i=>q5 i 5 e λe i=>a8 e (ff (h+16) λf=>ar (hI 4 c) λh=>ar (d0 a g 3 h) λj=>ew 3 c a g λk l=>hQ d 0 λm=>q6 a g m 1 λg=>hQ d 4 λm=>ar (d0 a g 3 h) λh=>hG h (some j) (ar (aR a g k) λh=>hG h (some l) (ar (fc a g 3 m j) λg=>hQ d 7 λh=>ar (aR a g k) λj=>hG j (some l) (ka a g h l λa=>i (zI (cY [b]) 2 .cM 3 c 4 d 29 e) a f)))) (AR c a g 2 λ_ _ j=>tj j 1 c g h a λg h k=>ei j (dc a h .eql 9 true g (.str [116,114,117,101])) h k λg h k=>jh j g h k λg h k=>o6 g 1 c h k a λh k l=>eG g (dc a k .eql 9 true h (.str [102,97,108,115,101])) k l λh k l=>lx j (λa=>c3 (λb=>a b k l) λa=>a8 g (a .zT) (a h)) k l λg h k=>c3 (λg=>bw i λi=>a8 g (ar (fd [.zF, .zF, .Z 0] [(0,1, .zT),(2,1, .Z 1)]) λf=>hQ d 0 λj=>q6 a h j 1 λh=>hQ d 4 λj=>ar (fc a h 3 j f) λf=>ew 1 c a f λ_ h=>ar (dc a f .eql 9 true h (.str [116,114,117,101])) λh=>bw i λi=>a8 h (hQ d 7 λj=>ar (fc a f 1 j (.int .u64 1)) λa=>i (zG (zI (cY [b]) 2 .cM 3 c 4 d 29 e) 46 g 69 h) a k) (i (zG (zI (cY [b]) 2 .cM 3 c 4 d 29 e) 46 g 69 h) f k)) (ew 0 c a h λ_ j=>q5 j 1 i λi j=>a8 i (ff (k+10) λk=>ew 1 c a h λl m=>hQ d 0 λn=>q6 a h n 2 λh=>hQ d 2 λn=>ar (aR a h l) λl=>hG l (some m) (ka a h n m λh=>Ge a b 40 h k f λh k l=>bw j λj=>a8 h (a7 a 136 [b] l k (λf k l=>hQ d 0 λm=>q6 a k m 25 λk=>hQ d 8 λm=>ka a k m f λa=>j (zI (zI (cY [b]) 2 .cM 3 c 4 d 29 e) 46 g 73 i 6 h 90 h) a l) f) (j (zI (zI (cY [b]) 2 .cM 3 c 4 d 29 e) 46 g 73 i 6 h 90 h) l k))) (ew 0 c a h λ_ l=>q5 l 3 j λj l=>a8 j (ff (k+10) λk=>ar (hI 4 c) λm=>ar (d0 a h 3 m) λn=>hQ d 0 λo=>q6 a h o 26 λh=>hQ d 4 λo=>ar (d0 a h 3 m) λm=>hG m (some n) (ar (fc a h 3 o n) λh=>q9 40 k a h b f λ_ h k=>Nx a b h k f λh k m=>hQ d 8 λn=>ka a k n h λh=>q9 41 m a h b f λ_ a f=>l (zH (zI (cY [b]) 2 .cM 3 c 4 d 29 e) 46 g 73 i 99 j) a f)) (AR c a h 6 λ_ _ m=>tj m 1 c h k a λh k n=>ei m (dc a k .eql 9 true h (.str [40])) k n λh k n=>c3 (λh=>bw l λl=>a8 h (a7 a 89 [b] k n (λk m n=>q9 41 n a m b f λ_ a f=>l (ac (zI (zI (cY [b]) 2 .cM 3 c 4 d 29 e) 46 g 73 i 99 j 123 h) 4 k) a f) f) (AR c a k 2 λ_ _ m=>tj m 1 c k n a λk n o=>ei m (dc a n .eql 9 true k (.str [105,102])) n o λk n o=>c3 (λk=>bw l λl=>a8 k (hQ d 0 λm=>q6 a n m 23 λm=>Nq o d a m b f λm n o p q=>hG q (some m) (ht (kC a p n 1 m o) p n λm n o=>hQ d 8 λp=>ka a n p m λm=>ar (it 1 [.str []] [(0,1, .str [116,104,101,110])] o) λn=>g1 a m o n.1 n.2 λm n o=>a7 a 59 [b,m] n o (λ_ m n=>Nq n d a m b f λm n o p q=>hG q (some m) (ht (kC a p n 1 m o) p n λm n o=>hQ d 8 λp=>ka a n p m λm=>ar (it 1 [.str []] [(0,1, .str [101,108,115,101])] o) λn=>g1 a m o n.1 n.2 λm n o=>a7 a 59 [b,m] n o (λ_ m n=>Nq n d a m b f λf m n o p=>hG p (some f) (ht (kC a o m 1 f n) o m λf m n=>hQ d 8 λo=>ka a m o f λa=>l (ac (zI (zI (cY [b]) 2 .cM 3 c 4 d 29 e) 46 g 73 i 99 j 123 h) 137 k) a n)) f)) f)) (AR c a n 2 λ_ _ m=>tj m 1 c n o a λn o p=>ei m (dc a o .eql 9 true n (.str [109,101,114,103,101])) o p λn o p=>c3 (λm=>bw l λl=>a8 m (a7 a 60 [b, .Z 1] o p (λn o p=>ar (tF false 1 1 n) λn=>hQ d 0 λq=>q6 a o q 24 λo=>hQ d 2 λq=>ka a o q n λn=>a7 a 133 [b] n p (λn o p=>a7 a 133 [b] o p (λf o p=>ar (it 2 [.cM, .cM] [(0,1,n),(1,1,f)] p) λf=>g1 a o p f.1 f.2 λf n o=>hQ d 8 λp=>ka a n p f λa=>l (zG (zI (zI (cY [b]) 2 .cM 3 c 4 d 29 e) 46 g 73 i 99 j 123 h) 137 k 188 m) a o) f) f) f) (fZ b 1 a o λ_ n=>Dx n λn=>hQ b 1 λq=>ka a o q n λn=>xT a n 7 c 87 p f λ_ a f=>l (zG (zI (zI (cY [b]) 2 .cM 3 c 4 d 29 e) 46 g 73 i 99 j 123 h) 137 k 188 m) a f)) λa=>a8 m (a n) (a .zF))) λa=>a8 m (a k) (a .zF))) λa=>a8 m (a h) (a .zF))))) λa=>a8 j (a g) (a .zF))) f
def x5:dr X 133 [a0]=wi X a0:=Zk
def x4:dd X 133 1=true:=Zk
def TM:Za0:=λa b c d e f=>Ge a b 41 c d f λc d g=>bw (λb c d=>eF b λg=>Nx a g c d f λc d g=>bw (λa b c=>ca (a 2) λa=>e a b c) λ_=>fQ (λb c d g=>bw b λb=>eF c λh=>Ge a h 44 d g f λd g h=>ar (g7 .not d) λi=>bw (λc d e=>fu c 5 0 λg h=>Nx a h d e f λd e f=>ht (kC a e f 1 g d) e f λa d e=>b (ac c 5 a) d e) λb=>a8 i (eF c λb=>q9 41 g a h b f λ_ a b=>ca (c 5) λc=>e c a b) (b (zG c 7 d 23 i) h g)) (ac b 5 c) d g) λa=>a8 c (e .aV g d) (a (zH (cY [b]) 2 .aV 4 c 13 c) g d)
def afc:dr X 136 [a0]=TM X a0:=Zk
def afb:dd X 136 1=true:=Zk
end
open Go.bp Go.aS
noncomputable section
def bW(t:Tok):List z:=[.Z t.kind, .str t.text, .Z t.at_, .int .u64 t.n, .bool t.ty.b, .bool t.ty.s, .Z t.ty.w]
def oS:Nat:=3
def aqb(f:Nat):Bool:=r0 f [6,114,99]
structure dR(X:cn):Prop where
 none:∀f k,aqb f=false->X.O f k=none
set_option maxRecDepth 100000 in
def zF{z7:cn}(O:dR z7){f:Nat}{a:List z}{z9:R ag}{n:Nat}{u v:bN}(c:dd z7 f a.length=true)(h:dr z7 f a z9 n u v)(b:aqb f=false:=by rfl):a7 z7 f a z9 n u v:=dj c (O.none _ _ b) h
structure aS(X:cn)(h:R ag)(aF bE:Nat)(aN:List Tok)(i:Nat):Prop where
 at_:∃c am,Z X h aF=some (.cells c 2 .own)/\c.get 0=some am/\c.get 1=some (.Z (i:Int))/\ee X h (λe=>e=bE) bE am 7 (aN.map bW)
 ne:aF≠bE
def aS.ad{X:cn}{h S:R ag}{aF bE:Nat}{aN:List Tok}{i:Nat}(a:aS X h aF bE aN i)(bM:Z X S aF=Z X h aF)(cq:Z X S bE=Z X h bE):aS X S aF bE aN i:=by
 obtain⟨c,am,I,M,ak,aA⟩:=a.at_
 exact⟨⟨c,am,by rw[bM];exact I,M,ak,aA.ad λe F=>by subst F;exact cq⟩,a.ne⟩
def jw{C:aM}{h:R ag}{b n V:Nat}{c:R z}{st:nt}{v:z}(a:Z C h b=some (.cells c n st))(bt:c.get V=some v):aR C h (.ptr b V)=some v:=by rw[c6,a];exact bt
section
variable{X:cn}{h S:R ag}{j aq aF bE:Nat}{aN:List Tok}{i:Nat}
def qV(aB:dR X)(aL:(q X).a6<=j)(av:aS X h aF bE aN i)(jG:aF<j)(jc:bE<j){t:Tok}(aZ:aN[i]? =some t):
 a7 X 35 [.ptr aF 0] h j (λaa S aq=>aa= .agg (bW t)/\bD X h j S aq) zK:=by
 refine zF aB (afF X) ?_
 rw[afG]
 unfold T5
 obtain⟨c,am,I,M,ak,aA⟩:=av.at_
 have rV:=jw I M
 have bM:=jw I ak
 have aE:i<(aN.map bW).length:=by rw[Zr];exact(Zb.1 aZ).1
 have d7:=aA.gZ i aE
 have fN:d0 X (bn X h j (zC [.Z 0, .str [], .Z 0, .int .u64 0, .zF, .zF, .Z 0] 7)) 7 (.ptr bE (i*7))=some (.agg (bW t)):=by
  have:=(aA.ad (S:=bn X h j (zC [.Z 0, .str [], .Z 0, .int .u64 0, .zF, .zF, .Z 0] 7)) (λe F=>by subst F;exact aK aL Zo)).row Zd (i:=i) (r:=bW t) (by rw[Zw,aZ];rfl)
  exact this
 refine gV @rV @bM @d7 @fN bW.eq_1 ⟨?_⟩
 exact⟨rfl,dL⟩
def sb:List z:=[.Z 0, .str [], .Z 0, .int .u64 0, .zF, .zF, .Z 0]
def aS.on(av:aS X h aF bE aN i){W:Nat}{c:R z}(I:Z X S aF=some (.cells c 2 .own))(a2:∀dV st,Z X h aF=some (.cells dV 2 st)->c=dV.set 1 (some (.Z (W:Int))))(cq:Z X S bE=Z X h bE):aS X S aF bE aN W:=by
 obtain⟨dV,am,bm,ct,a3,a4⟩:=av.at_
 have:=a2 dV _ bm
 subst this
 refine⟨⟨_,am,I, ?_, ?_,a4.ad λe F=>by subst F;exact cq⟩,av.ne⟩
 ·rw[R.jF,Zg Zd];exact ct
 ·rw[R.jF,Zp rfl]
def G4(aB:dR X)(aL:(q X).a6<=j)(t:Tok)(aw:bN)(a:∀S aq,bD X h j S aq->aw (.iface 26 (.agg [.Z 21, .Z t.at_])) S aq):
 a7 X 87 [.agg (bW t)] h j zK aw:=by
 refine zF aB (aha X) ?_
 rw[ahb]
 unfold UT bW
 refine cV ⟨?_⟩
 exact⟨a _ _ dL⟩
def adF(aB:dR X)(aL:(q X).a6<=j)(av:aS X h aF bE aN i)(hz:(q X).a6<=aF)(jG:aF<j)(jc:bE<j)(aX:aN.length<=300000){t:Tok}(aZ:aN[i]? =some t){s:bc}(aD:gI t s=true):
 a7 X 61 [.ptr aF 0, .str s] h j (λaa S aq=>aa= .tuple [.agg (bW t), .zT]/\aS X S aF bE aN (i+1)/\co X [aF] h j S aq) zK:=by
 refine zF aB (Ur X) ?_
 rw[Us]
 unfold NP
 refine tr ?_
 have jt:=(Zb.1 aZ).1
 have b4:bD X h j (bn X h j (zC sb 7)) (j+1):=bD.fresh aL _
 have dZ:aS X (bn X h j (zC sb 7)) aF bE aN i:=av.ad (b4.ad _ jG) (b4.ad _ jc)
 refine(qV aB Zo dZ Zo Zo aZ).mono ?_ (λ_ _ _ a=>a)
 rintro aa aT bk ⟨rfl,cl⟩
 have f8:=cl.le
 have M:Z X aT j=zC sb 7:=by rw[cl.ad _ Zo];exact bv aL
 have fT:co X [aF] h j aT bk:=co.of ((bD.fresh aL _).trans cl)
 have dm:aS X aT aF bE aN i:=dZ.ad (cl.ad _ Zo) (cl.ad _ Zo)
 obtain⟨c,am,bm,ct,a3,a4⟩:=dm.at_
 have aG:=fT.ad
 simp only[gI,Zn,zl,Zh]at aD
 obtain⟨p6,rfl⟩:=aD
 have bM:=jw bm a3
 have bA:=zD i
 have eN:decide (t.text≠t.text)=false:=by simp
 unfold sb at M
 have fin:∀(ri:R ag) (aq:Nat),Z X ri aF=some (.cells (dP c 1 [.Z ((i+1:Nat):Int)]) 2 .own)->co X [aF] h j ri aq->Z X ri bE=Z X aT bE->aS X ri aF bE aN (i+1)/\co X [aF] h j ri aq:=λri aq I M ak=>
  ⟨dm.on I (λdV st a=>by rw[bm]at a;cases a;exact pM ..) ak,M⟩
 have c5:=av.ne
 rcases p6 with hh|hh
 ·have cL:decide (t.kind≠2)=false:=by simp[hh]
  refine eQ bW.eq_1 @cL @eN @bM @bA @bm @M ⟨?_⟩
  refine⟨rfl,fin _ _ ?_ ?_ ?_⟩
  ·simp(disch:=omega) only[aK,bv];rfl
  ·exact⟨Zo,λb aj bI=>by have:=aG b aj bI;simp only[Zq,ZJ,YV,Yn,ZI,Ye]at bI;simp(disch:=omega) only[aK];exact this⟩
  ·simp(disch:=omega) only[aK]
 ·have cL:decide (t.kind≠2)=true:=by simp[hh]
  have cJ:decide (t.kind≠6)=false:=by simp[hh]
  refine eQ bW.eq_1 @cL @cJ @eN @bM @bA (Za @bm @M) ⟨?_⟩
  refine⟨rfl,fin _ _ ?_ ?_ ?_⟩
  ·simp(disch:=omega) only[aK,bv];rfl
  ·exact⟨Zo,λb aj bI=>by have:=aG b aj bI;simp only[Zq,ZJ,YV,Yn,ZI,Ye]at bI;simp(disch:=omega) only[aK];exact this⟩
  ·simp(disch:=omega) only[aK]
def adE(aB:dR X)(aL:(q X).a6<=j)(av:aS X h aF bE aN i)(hz:(q X).a6<=aF)(jG:aF<j)(jc:bE<j){t:Tok}(aZ:aN[i]? =some t){s:bc}(aD:gI t s=false):
 a7 X 61 [.ptr aF 0, .str s] h j (λaa S aq=>aa= .tuple [.agg sb, .zF]/\aS X S aF bE aN i/\co X [aF] h j S aq) zK:=by
 refine zF aB (Ur X) ?_
 rw[Us]
 unfold NP
 refine tr ?_
 have b4:bD X h j (bn X h j (zC sb 7)) (j+1):=bD.fresh aL _
 have dZ:aS X (bn X h j (zC sb 7)) aF bE aN i:=av.ad (b4.ad _ jG) (b4.ad _ jc)
 refine(qV aB Zo dZ Zo Zo aZ).mono ?_ (λ_ _ _ a=>a)
 rintro aa aT bk ⟨rfl,cl⟩
 have f8:=cl.le
 have M:Z X aT j=zC sb 7:=by rw[cl.ad _ Zo];exact bv aL
 have fT:co X [aF] h j aT bk:=co.of ((bD.fresh aL _).trans cl)
 have dm:aS X aT aF bE aN i:=dZ.ad (cl.ad _ Zo) (cl.ad _ Zo)
 have aG:=fT.ad
 unfold sb at M
 have fin:∀(ri:R ag) (aq:Nat),Z X ri aF=Z X aT aF->co X [aF] h j ri aq->Z X ri bE=Z X aT bE->aS X ri aF bE aN i/\co X [aF] h j ri aq:=λri aq I M ak=>
  ⟨dm.ad I ak,M⟩
 simp only[gI,Bool.and_eq_false_iff,Bool.or_eq_false_iff,Zc]at aD
 by_cases hh:t.kind=2
 ·have aD:t.text≠s:=by rcases aD with a|a;exact absurd hh a.1;exact a
  have cL:decide (t.kind≠2)=false:=by simp[hh]
  have eN:decide (t.text≠s)=true:=by simpa using aD
  refine hT bW.eq_1 @cL @eN @M ⟨?_⟩
  refine⟨rfl,fin _ _ ?_ ?_ ?_⟩
  ·simp(disch:=omega) only[aK]
  ·exact⟨Zo,λb aj bI=>by have:=aG b aj bI;simp only[Zq,ZJ,YV,Yn,ZI,Ye]at bI;simp(disch:=omega) only[aK];exact this⟩
  ·simp(disch:=omega) only[aK]
 ·have cL:decide (t.kind≠2)=true:=by simp[hh]
  by_cases nJ:t.kind=6
  ·have aD:t.text≠s:=by rcases aD with a|a;exact absurd nJ a.2;exact a
   have cJ:decide (t.kind≠6)=false:=by simp[nJ]
   have eN:decide (t.text≠s)=true:=by simpa using aD
   refine gV bW.eq_1 @cL @cJ @eN @M ⟨?_⟩
   refine⟨rfl,fin _ _ ?_ ?_ ?_⟩
   ·simp(disch:=omega) only[aK]
   ·exact⟨Zo,λb aj bI=>by have:=aG b aj bI;simp only[Zq,ZJ,YV,Yn,ZI,Ye]at bI;simp(disch:=omega) only[aK];exact this⟩
   ·simp(disch:=omega) only[aK]
  ·have cJ:decide (t.kind≠6)=true:=by simp[nJ]
   refine hT bW.eq_1 @cL @cJ @M ⟨?_⟩
   refine⟨rfl,fin _ _ ?_ ?_ ?_⟩
   ·simp(disch:=omega) only[aK]
   ·exact⟨Zo,λb aj bI=>by have:=aG b aj bI;simp only[Zq,ZJ,YV,Yn,ZI,Ye]at bI;simp(disch:=omega) only[aK];exact this⟩
   ·simp(disch:=omega) only[aK]
def As(aB:dR X)(aL:(q X).a6<=j)(av:aS X h aF bE aN i)(hz:(q X).a6<=aF)(jG:aF<j)(jc:bE<j)(aX:aN.length<=300000){t:Tok}(aZ:aN[i]? =some t)(o:Int):
 a7 X 60 [.ptr aF 0, .Z o] h j (λaa S aq=>t.kind=o/\aa= .agg (bW t)/\aS X S aF bE aN (i+1)/\co X [aF] h j S aq)
  (λaa S aq=>t.kind≠o/\aa= .iface 26 (.agg [.Z 21, .Z t.at_])/\co X [aF] h j S aq):=by
 refine zF aB (ago X) ?_
 rw[agp]
 unfold Uq
 refine tr ?_
 have jt:=(Zb.1 aZ).1
 have b4:bD X h j (bn X h j (zC sb 7)) (j+1):=bD.fresh aL _
 have dZ:aS X (bn X h j (zC sb 7)) aF bE aN i:=av.ad (b4.ad _ jG) (b4.ad _ jc)
 refine(qV aB Zo dZ Zo Zo aZ).Zm ?_
 rintro aa aT bk ⟨rfl,cl⟩
 have f8:=cl.le
 have M:Z X aT j=zC sb 7:=by rw[cl.ad _ Zo];exact bv aL
 have fT:co X [aF] h j aT bk:=co.of ((bD.fresh aL _).trans cl)
 have dm:aS X aT aF bE aN i:=dZ.ad (cl.ad _ Zo) (cl.ad _ Zo)
 obtain⟨c,am,bm,ct,a3,a4⟩:=dm.at_
 have aG:=fT.ad
 have bM:=jw bm a3
 have bA:=zD i
 unfold sb at M
 have c5:=av.ne
 by_cases w4:t.kind=o
 ·have cL:decide (t.kind≠o)=false:=by simp[w4]
  refine ln bW.eq_1 @cL @bM @bA @bm @M ⟨?_⟩
  refine⟨w4,rfl,dm.on (c:=dP c 1 [.Z ((i+1:Nat):Int)]) ?_ (λdV st a=>by rw[bm]at a;cases a;exact pM ..) ?_, ?_⟩
  ·simp(disch:=omega) only[aK,bv];rfl
  ·simp(disch:=omega) only[aK]
  ·exact⟨Zo,λb aj bI=>by have:=aG b aj bI;simp only[Zq,ZJ,YV,Yn,ZI,Ye]at bI;simp(disch:=omega) only[aK];exact this⟩
 ·have cL:decide (t.kind≠o)=true:=by simp[w4]
  refine eW bW.eq_1 @cL @M ⟨?_⟩
  refine(G4 aB Zo t _ ?_).mono (λ_ _ _ a=>a.elim) (λ_ _ _ a=>a)
  intro S aq bZ
  have HW:=bZ.le
  refine⟨w4,rfl,Zo,λb aj bI=> ?_⟩
  have:=aG b aj bI
  simp only[Zq,ZJ,YV,Yn,ZI,Ye]at bI
  rw[bZ.ad b Zo]
  simp(disch:=omega) only[aK];exact this
end
section
variable{X:cn}{h S:R ag}{j aq aF bE:Nat}{aN:List Tok}{i:Nat}
def gJ:Tok:=⟨0,[],0,0,dw⟩
def q1:List bc->Tok->List Tok->fP Tok
 |[],x,k=>ok x k
 |s::mI,_,k=>andThen (ed s k) λe k=>q1 mI e k
def fo{aN:List Tok}{i:Nat}{x:Tok}{k:List Tok}(a:aN.drop i=x::k):aN[i]? =some x/\aN.drop (i+1)=k:=by
 constructor
 ·have:=congrArg (λk=>k[0]?) a
  simpa using this
 ·rw[<-zp,a];rfl
def g3(mI:List bc):List (List z):=mI.map λs=>[.str s]
def ad3(aB:dR X)(aL:(q X).a6<=j)(av:aS X h aF bE aN i)(hz:(q X).a6<=aF)(jG:aF<j)(jc:bE<j)(aX:aN.length<=300000){bf:z}{cD:Nat}{mI:List bc}(Ev:cD<j)(QW:cD≠aF)(aD:ee X h (λe=>e=cD) cD bf 1 (g3 mI))
 {r:Except Int (Tok×List Tok)}(U:q1 mI gJ (aN.drop i)=some r):
 a7 X 59 [.ptr aF 0,bf] h j (λaa S aq=>∃x cp,r= .ok (x,aN.drop cp)/\aa= .agg (bW x)/\aS X S aF bE aN cp/\co X [aF] h j S aq)
  (λaa S aq=>∃D,r= .error D/\aa= .iface 26 (.agg [.Z 21, .Z D])/\co X [aF] h j S aq):=by
 refine zF aB (agk X) ?_
 rw[agl]
 unfold Up
 have eD:=aD.len
 have c5:=av.ne
 have ub:=aD.many
 simp only[g3,Zr]at ub
 refine tr ?_
 refine tr ?_
 have PA:bD X h j (bn X (bn X h j (zC (bW gJ) 7)) (j+1) (zC (bW gJ) 7)) (j+1+1):=dL
 have vP:Z X (bn X (bn X h j (zC (bW gJ) 7)) (j+1) (zC (bW gJ) 7)) j=zC (bW gJ) 7:=by simp(disch:=omega) only[aK,bv]
 have cH:Z X (bn X (bn X h j (zC (bW gJ) 7)) (j+1) (zC (bW gJ) 7)) (j+1)=zC (bW gJ) 7:=bv Zo
 refine rs @eD ⟨?_⟩
 refine jK (λH S n=>∃x cp,r= .ok (x,aN.drop cp)/\H.g 5=some (.ptr (j+1) 0)/\H.g 4=some (.ptr j 0)/\j+1<n/\Z X S (j+1)=zC (bW x) 7/\Z X S j=zC (bW gJ) 7/\aS X S aF bE aN cp/\co X [aF] h j S n) (λW bB=> ?_) ?_
 ·refine f6 (λm H S n=>∃o cp x,m=mI.length-o/\o<=mI.length/\H.g 0=some (.ptr aF 0)/\H.g 9=some bf/\H.g 10=some (.Z (mI.length:Int))/\H.g 11=some (.Z (o:Int))/\H.g 5=some (.ptr (j+1) 0)/\H.g 4=some (.ptr j 0)/\j+1<n
   /\Z X S (j+1)=zC (bW x) 7/\Z X S j=zC (bW gJ) 7/\aS X S aF bE aN cp/\co X [aF] h j S n/\q1 (mI.drop o) x (aN.drop cp)=some r)
   mI.length ⟨0,i,gJ,Zo,Zo, ?_, ?_, ?_, ?_, ?_, ?_,Zo,cH,vP,av.ad (PA.ad _ jG) (PA.ad _ jc),co.of PA,U⟩ ?_
  ·exact bC
  ·exact bC
  ·refine yw ⟨?_⟩
   simp[g3]
  ·refine yw ⟨?_⟩
   rfl
  ·exact bC
  ·exact bC
  rintro m H aT n ⟨o,cp,x,rfl,aG,t0,t9,k6,te,t5,t4,cO,cb,il,dm,fT,bQ⟩
  refine dk @k6 @te ⟨?_⟩
  refine DW (λw5=> ?_) (λw5=> ?_)
  ·have w5:o<mI.length:=Zo
   have kg:mI.drop o=mI[o]::mI.drop (o+1):=Zz w5
   rw[kg]at bQ
   have d7:=aD.gZ o (by simp[g3];exact w5)
   have aaS:aR X aT (.ptr cD (o*1))=some (.str mI[o]):=by
    have:=(aD.ad (S:=aT) λe F=>by subst F;exact fT.ad _ Ev (by simp;exact QW)).cell o [.str mI[o]] 0 (.str mI[o]) (by simp[g3]) rfl
    rwa[ZS]at this
   refine gV @t9 @te @d7 @aaS @t0 ⟨?_⟩
   generalize mI[o]=s at bQ aaS
   cases aI:aN.drop cp with
   |nil=>rw[aI]at bQ;simp[q1,ed,andThen]at bQ
   |cons e k=>
    obtain⟨F,az⟩:=fo aI
    rw[aI]at bQ
    simp only[q1,ed]at bQ
    cases B0:gI e s with
    |true=>
     rw[B0]at bQ
     simp only[ZE,andThen,ok]at bQ
     refine(adF aB (zy fT.le) dm hz Zo Zo aX F B0).Zm ?_
     rintro aa be bF ⟨rfl,ge,en⟩
     have iT:=en.le
     have O9:Z X be (j+1)=zC (bW x) 7:=by rw[en.ad _ Zo Zx];exact cb
     have akU:Z X be j=zC (bW gJ) 7:=by rw[en.ad _ Zo Zx];exact il
     refine eW @t5 @O9 @te ⟨?_⟩
     have bA:=zD o
     refine cr @bA ⟨?_⟩
     refine⟨_, ?_,o+1,cp+1,e,rfl,Zo,aY t0,aY t9,aY k6,bC,aY t5,aY t4,Zo,bv Zo,by simp(disch:=omega) only[aK];exact akU,ge.ad (zE) (zE), ?_, ?_⟩
     ·omega
     ·have lq:=(fT.trans en).ad
      exact⟨zy fT.le,λb aj bI=>by rw[<-lq b aj bI];exact zE⟩
     ·rw[az];exact bQ
    |false=>
     rw[B0]at bQ
     simp only[Zu,ZD,andThen,bad,Ze]at bQ
     subst bQ
     refine(adE aB (zy fT.le) dm hz Zo Zo F B0).Zm ?_
     rintro aa be bF ⟨rfl,ge,en⟩
     have iT:=en.le
     have O9:Z X be (j+1)=zC (bW x) 7:=by rw[en.ad _ Zo Zx];exact cb
     refine eW @t5 @O9 @t0 ⟨?_⟩
     refine(qV aB (zy fT.le) (ge.ad (zE) (zE)) Zo Zo F).Zm ?_
     rintro aa bU cP ⟨rfl,dz⟩
     have je:=dz.le
     refine(G4 aB (zy fT.le) e _ ?_).mono (λ_ _ _ a=>a.elim) (λ_ _ _ a=>a)
     intro bY cw dW
     have iU:=dW.le
     have lq:=(fT.trans en).ad
     refine⟨_,rfl,rfl,zy fT.le,λb aj bI=> ?_⟩
     rw[dW.ad b Zo,dz.ad b Zo, <-lq b aj bI]
     simp(disch:=omega) only[aK]
  ·have w4:o=mI.length:=Zo
   subst w4
   rw[List.drop_length]at bQ
   simp only[q1,ok,Ze]at bQ
   subst bQ
   refine cV ⟨?_⟩
   exact bB _ _ _ ⟨x,cp,rfl,aY t5,aY t4,cO,cb,il,dm,fT⟩
 ·rintro H aT n ⟨x,cp,af,t5,t4,cO,cb,il,dm,fT⟩
  unfold bW at cb
  unfold bW gJ dw at il
  refine gV @t5 @t4 @cb @il (bS cb) ⟨?_⟩
  refine⟨x,cp,af,rfl,dm.ad (zE) (zE), ?_⟩
  exact⟨zy fT.le,λb aj bI=>by rw[<-fT.ad b aj bI];exact zE⟩
end
structure h1(X:cn)(h:R ag)(j aF bE:Nat)(aN:List Tok)(i:Nat):Prop where
 a6:(q X).a6<=j
 ci:(q X).a6<=aF
 g0:aF<j
 gG:bE<j
 many:aN.length<=300000
 par:aS X h aF bE aN i
def h1.go{X:cn}{h S:R ag}{j aq aF bE i cp:Nat}{aN:List Tok}(a:h1 X h j aF bE aN i)(av:aS X S aF bE aN cp)(aL:j<=aq):h1 X S aq aF bE aN cp:=
 ⟨ZA a.a6 aL,a.ci,ZN a.g0 aL,ZN a.gG aL,a.many,av⟩
def ec(D b:Nat):Nat->Prop:=λe=>D<=e/\e<b
def wG(o D:Int):z:= .iface 26 (.agg [.Z o, .Z D])
def jm(X:cn)(aF bE:Nat)(aN:List Tok)(h:R ag)(j:Nat)(r:Except Int (bx×List Tok)):bN:=λaa S aq=>
 ∃B cp,r= .ok (B,aN.drop cp)/\cm X S (ec j aq) B aa/\aS X S aF bE aN cp/\co X [aF] h j S aq
def ii{α:Type}(X:cn)(aF:Nat)(h:R ag)(j:Nat)(r:Except Int α):bN:=λaa S aq=>
 ∃D,r= .error D/\aa=wG 21 D/\co X [aF] h j S aq
def uI(X:cn):Prop:=7<X.a6/\∀h o,o<5->∃b bf,aR X h (.ptr 7 o)=some bf/\ee X h (λe=>e<X.a6) b bf 2 ((ao o).map λV=>[.str V.1, .Z V.2])
section
variable{X:cn}{h S a1 aT:R ag}{j aq aP bk aF bE:Nat}{aN:List Tok}{i:Nat}
def ii.of{α d8:Type}{gx:R ag}{acs:Nat}{r:Except Int α}{fy:Except Int d8}{aa:z}(a:ii X aF a1 aP r aa S aq)(fT:co X [aF] gx acs a1 aP)(U:∀D,r= .error D->fy= .error D):ii X aF gx acs fy aa S aq:=by
 obtain⟨D,I,M,ak⟩:=a
 exact⟨D,U D I,M,fT.trans ak⟩
def cm.fr{D b:Nat}{B:bx}{v:z}(a:cm X h (ec D b) B v)(fT:co X [aF] h aP S aq)(aj:b<=aP)(av:aF<D){fK dT:Nat}(I:fK<=D)(M:b<=dT):cm X S (ec fK dT) B v:=
 cm.lift (λe F=>⟨ZA I F.1,ZN F.2 M⟩) _ _ (cm.ad (λe F=>fT.ad e (zy F.2) (by simp;have:=F.1;omega)) _ _ a)
def cm.ex{D b:Nat}{B:bx}{v:z}(a:cm X h (ec D b) B v)(o:∀e,D<=e->e<b->Z X S e=Z X h e){fK dT:Nat}(I:fK<=D)(M:b<=dT):cm X S (ec fK dT) B v:=
 cm.lift (λe F=>⟨ZA I F.1,ZN F.2 M⟩) _ _ (cm.ad (λe F=>o e F.1 F.2) _ _ a)
def qq{d8:Type}{s:bc}{k:List Tok}{f:Option Tok->List Tok->fP d8}{r:Except Int (d8×List Tok)}(a:hO s k f=some r):∃x b6,k=x::b6/\((gI x s=true/\f (some x) b6=some r)\/(gI x s=false/\f none k=some r)):=by
 unfold hO lC at a
 cases k with
 |nil=>cases a
 |cons x b6=>
  refine⟨x,b6,rfl, ?_⟩
  simp only[]at a
  cases aD:gI x s with
  |true=>rw[aD]at a;exact .inl ⟨rfl,a⟩
  |false=>rw[aD]at a;exact .inr ⟨rfl,a⟩
def f0{α d8:Type}{x:fP α}{f:α->List Tok->fP d8}{r:Except Int (d8×List Tok)}(a:andThen x f=some r):(∃D,x=some (.error D)/\r= .error D)\/∃D k,x=some (.ok (D,k))/\f D k=some r:=by
 unfold andThen at a
 split at a
 ·cases a
 ·injection a with a;exact .inl ⟨_,rfl,a.symm⟩
 ·exact .inr ⟨_,_,rfl,a⟩
def nl(aB:dR X)(av:h1 X h j aF bE aN i){x:Tok}{k:List Tok}(aI:aN.drop i=x::k)(s:bc):
 a7 X 61 [.ptr aF 0, .str s] h j (λaa S aq=>aa= .tuple [.agg (bW (if gI x s then x else gJ)), .bool (gI x s)]/\aS X S aF bE aN (if gI x s then i+1 else i)/\co X [aF] h j S aq) zK:=by
 obtain⟨I,M⟩:=fo aI
 cases aD:gI x s with
 |true=>simp only[ZE];exact adF aB av.a6 av.par av.ci av.g0 av.gG av.many I aD
 |false=>simp only[Zu,ZD];exact adE aB av.a6 av.par av.ci av.g0 av.gG I aD
structure qu(X:cn)(aF bE:Nat)(aN:List Tok)(n:Nat):Prop where
 level:∀h j i (o:Nat) r,o<=5->h1 X h j aF bE aN i->Go.aS.level n o (aN.drop i)=some r->a7 X 118 [.ptr aF 0, .Z (o:Int)] h j (jm X aF bE aN h j r) (ii X aF h j r)
 shift:∀h j i r,h1 X h j aF bE aN i->Go.aS.shift n (aN.drop i)=some r->a7 X 121 [.ptr aF 0] h j (jm X aF bE aN h j r) (ii X aF h j r)
 s9:∀h j i r,h1 X h j aF bE aN i->Go.aS.vO n (aN.drop i)=some r->a7 X 127 [.ptr aF 0] h j (jm X aF bE aN h j r) (ii X aF h j r)
 part:∀h j i r,h1 X h j aF bE aN i->Go.aS.part n (aN.drop i)=some r->a7 X 133 [.ptr aF 0] h j (jm X aF bE aN h j r) (ii X aF h j r)
 lm:∀h j i r,h1 X h j aF bE aN i->Go.aS.lm n (aN.drop i)=some r->a7 X 109 [.ptr aF 0] h j (jm X aF bE aN h j r) (ii X aF h j r)
 arrow:∀h j i r,h1 X h j aF bE aN i->Go.aS.arrow n (aN.drop i)=some r->a7 X 89 [.ptr aF 0] h j (jm X aF bE aN h j r) (ii X aF h j r)
 list:∀h j i r,h1 X h j aF bE aN i->Go.aS.list n (aN.drop i)=some r->a7 X 136 [.ptr aF 0] h j (λaa S aq=>∃b3 cp bj cD,r= .ok (b3,aN.drop cp)/\ee X S (ec j aq) cD aa 1 (bj.map λv=>[v])/\dh X S (λe=>ec j aq e/\e≠cD) b3 bj/\aS X S aF bE aN cp/\co X [aF] h j S aq) (ii X aF h j r)
def e1{C:aM}{f:Nat}{wp:List z}{ai aw:bN}{h:R ag}{j:Nat}(P:R ag->Prop)(b1:P h)(a:∀be,P be->a7 C f wp be j ai aw):a7 C f wp h j ai aw:=a h b1
def oY(o:IntKind)(x:Int):z.same 30 (.int o x) (.int o x)=true:=by
 simp only[z.same,xj];cases o<;>simp[ly]
def aS.ex(a:aS X h aF bE aN i)(o:bD X h j S aq)(I:aF<j)(M:bE<j):aS X S aF bE aN i:=a.ad (o.ad _ I) (o.ad _ M)
def aim(aB:dR X){n:Nat}(ah:∀m,m<n->qu X aF bE aN m):∀h j i r,h1 X h j aF bE aN i->Go.aS.arrow n (aN.drop i)=some r->a7 X 89 [.ptr aF 0] h j (jm X aF bE aN h j r) (ii X aF h j r):=by
 intro h j i r av U
 cases n with
 |zero=>simp[Go.aS.arrow]at U
 |succ n=>
 refine zF aB (ahe X) ?_
 rw[ahf]
 unfold UV
 have gu:=av.a6
 have jG:=av.g0
 have hz:=av.ci
 unfold Go.aS.arrow at U
 rcases f0 U with ⟨D,I,rfl⟩|⟨left,ea,I,U⟩
 ·exact((ah n Zo).lm h j i _ av I).mono zM (λaa S aq a=>a)
 refine((ah n Zo).lm h j i _ av I).mono ?_ zL
 rintro uC a1 aP ⟨B,rU,bl,b4,dZ,hK⟩
 cases bl
 have ju:=hK.le
 have ma:=av.go dZ ju
 obtain⟨x,b6,aI,af⟩:=qq U
 refine(nl aB ma aI _).Zm ?_
 rintro FW aT bk ⟨rfl,dm,dp⟩
 have gP:=dp.le
 rcases af with ⟨aD,U⟩|⟨aD,U⟩
 ·rw[aD]at dm ⊢
  simp only[ZE]at dm ⊢
  rw[<-(fo aI).2]at U
  refine cr bW.eq_1 ⟨?_⟩
  refine e1 (λbe=>bD X aT bk be (bk+1+9)/\Z X be bk=zC (bW x) 7) ⟨dL,bv Zo⟩ ?_
  rintro be ⟨cx,cG⟩
  rcases f0 U with ⟨D,M,rfl⟩|⟨right,c4,M,U⟩
  ·refine((ah n Zo).arrow be _ _ _ (ma.go (dm.ex cx Zo (zy ma.gG)) Zo) M).mono zM (λaa S aq a=>a.of (hK.trans (dp.trans (co.of cx))) (λ_ a=>a))
  refine((ah n Zo).arrow be _ _ _ (ma.go (dm.ex cx Zo (zy ma.gG)) Zo) M).mono ?_ zL
  rintro v4 bU cP ⟨iP,i4,p2,dz,gW,es⟩
  cases p2
  have je:=es.le
  simp only[ok,Ze]at U
  subst U
  have er:Z X bU bk=zC (bW x) 7:=by rw[es.ad _ Zo Zx];exact cG
  obtain⟨cH,rfl,iG,_⟩:=b4.ptr
  obtain⟨fx,rfl,rN,_⟩:=dz.ptr
  have iG:=iG.1
  refine dk (bS er) bW.eq_1 ⟨?_⟩
  refine iY (oY _ _) ?_
  refine⟨_,i4,rfl,cm.lit (gn:= .own) (cD:=bk+1+5) (bj:=[.ptr cH 0, .ptr fx 0]) (bv Zo) ⟨Zo,Zo⟩ ?_ ⟨Zo,Zo⟩ rfl Zo Zo (dh.two (cm.ad (λe F=> ?_) _ _ b4) (cm.ad (λe F=> ?_) _ _ dz) (λe F=> ?_) (λe F=> ?_)), ?_, ?_⟩
  ·exact zP
  ·have I:=F.1;have M:=F.2
   simp(disch:=omega) only[aK]
   rw[es.ad e Zo Zx,cx.ad e Zo,dp.ad e Zo Zx]
  ·have I:=F.1;have M:=F.2
   simp(disch:=omega) only[aK]
  ·simp only[ec]at F ⊢;omega
  ·simp only[ec]at F ⊢;omega
  ·exact gW.ad (zE) (by have:=ma.gG;exact zE)
  ·exact⟨Zo,λb aj bI=>by
    rw[<-((hK.trans (dp.trans (co.of cx))).trans es).ad b aj bI]
    simp(disch:=omega) only[aK]⟩
 ·rw[aD]at dm ⊢
  simp only[Zu,ZD]at dm ⊢
  simp only[ok,Ze]at U
  subst U
  refine dk bW.eq_1 gJ.eq_1 ⟨?_⟩
  refine⟨left,rU,rfl,cm.ex b4 (λe I M=> ?_) (Zi _) Zo,dm.ad (zE) (by have:=ma.gG;exact zE), ?_⟩
  ·simp(disch:=omega) only[aK]
   exact dp.ad e Zo Zx
  ·exact⟨Zo,λb aj bI=>by rw[<-(hK.trans dp).ad b aj bI];exact zE⟩
end
section
variable{X:cn}{h S a1 aT:R ag}{j aq aP bk aF bE:Nat}{aN:List Tok}{i:Nat}
def aku(aB:dR X){n:Nat}(ah:∀m,m<n->qu X aF bE aN m):∀h j i r,h1 X h j aF bE aN i->Go.aS.lm n (aN.drop i)=some r->a7 X 109 [.ptr aF 0] h j (jm X aF bE aN h j r) (ii X aF h j r):=by
 intro h j i r av U
 cases n with
 |zero=>simp[Go.aS.lm]at U
 |succ n=>
 refine zF aB (aeJ X) ?_
 rw[aeK]
 unfold Ty
 have gu:=av.a6
 have jG:=av.g0
 have hz:=av.ci
 unfold Go.aS.lm at U
 rcases f0 U with ⟨D,I,rfl⟩|⟨left,ea,I,U⟩
 ·exact((ah n Zo).level h j i 0 _ Zo av I).mono zM (λaa S aq a=>a)
 refine((ah n Zo).level h j i 0 _ Zo av I).mono ?_ zL
 rintro uC a1 aP ⟨B,rU,bl,b4,dZ,hK⟩
 cases bl
 have ju:=hK.le
 have ma:=av.go dZ ju
 obtain⟨x,b6,aI,af⟩:=qq U
 refine(nl aB ma aI _).Zm ?_
 rintro FW aT bk ⟨rfl,dm,dp⟩
 have gP:=dp.le
 have jc:=ma.gG
 rcases af with ⟨aD,U⟩|⟨aD,U⟩
 ·rw[aD]at dm ⊢
  simp only[ZE]at dm ⊢
  rw[<-(fo aI).2]at U
  simp only[]at U
  obtain⟨cH,bf,cD,bj,rfl,iG,rV,bM,cq,df,fb,eJ,et,f5,ia,nP,B3⟩:=b4.open
  have iG:=iG
  obtain⟨axd,axe⟩:=iG
  have dV:aR X aT (.ptr cH 0)=some (.Z left.kind):=by rw[dp.fA _ _ Zo Zx];exact rV
  have DX:aR X aT (.ptr cH 8)=some bf:=by rw[dp.fA _ _ Zo Zx];exact ia
  have b2:s0 left=some true->∀(H:da) (be:R ag) (bF:Nat),H.g 4=some (.ptr bk 0)->H.g 3=some (.ptr cH 0)->H.g 0=some (.ptr aF 0)->bD X aT bk be bF->bk<bF->Z X be bk=zC (bW x) 7->
   ff (bF+9) λart=>ca (H.g 4) λauZ=>ar (hI 2 auZ) λadS=>ar (aR X be adS) λadT=>ca (H.g 3) λau0=>ca (H.g 0) λau1=>a7 X 109 [au1] be art (λavq ahA aru=>ar (it 2 [.cM, .cM] [(0,1,au0),(1,1,avq)] (bF+5)) λac4=>l7 X ahA (bF+5) ac4.1 ac4.2 λavr ahB=>ar (fd [.Z 0,.Z 0,.str [],.zF,.zF,.zF,.Z 0,.int .u64 0, .aV] [(0,1,(.Z 21)),(1,1,adT),(8,1,avr)]) λavs=>ws X ahB (bF+7) avs λavt U9=>ar (aR X U9 adS) λavu=>hG avu (some adT) (jm X aF bE aN h j r avt U9 aru)) (ii X aF h j r):=by
   intro Qo H be bF t4 t3 t0 cx cO cG
   rw[Qo]at U
   simp only[]at U
   refine gV @t4 @t3 @t0 (bS cG) bW.eq_1 ⟨?_⟩
   rcases f0 U with ⟨D,M,rfl⟩|⟨right,c4,M,U⟩
   ·refine((ah n Zo).lm be _ _ _ (ma.go (dm.ex cx Zo Zo) Zo) M).mono zM (λaa S aq a=>a.of (hK.trans (dp.trans (co.of (cx.more Zo)))) (λ_ a=>a))
   refine((ah n Zo).lm be _ _ _ (ma.go (dm.ex cx Zo Zo) Zo) M).mono ?_ zL
   rintro v4 bU cP ⟨iP,i4,p2,dz,gW,es⟩
   cases p2
   have je:=es.le
   simp only[ok,Ze]at U
   subst U
   have er:Z X bU bk=zC (bW x) 7:=by rw[es.ad _ Zo Zx];exact cG
   obtain⟨fx,rfl,rN,_⟩:=dz.ptr
   refine dk (bS er) bW.eq_1 ⟨?_⟩
   refine iY (oY _ _) ?_
   refine⟨_,i4,rfl,cm.lit (gn:= .own) (cD:=bF+5) (bj:=[.ptr cH 0, .ptr fx 0]) (bv Zo) ⟨Zo,Zo⟩ ?_ ⟨Zo,Zo⟩ rfl Zo Zo (dh.two (cm.ad (λe F=> ?_) _ _ b4) (cm.ad (λe F=> ?_) _ _ dz) (λe F=> ?_) (λe F=> ?_)), ?_, ?_⟩
   ·exact zP
   ·have I:=F.1;have M:=F.2
    simp(disch:=omega) only[aK]
    rw[es.ad e Zo Zx,cx.ad e Zo,dp.ad e Zo Zx]
   ·have I:=F.1;have M:=F.2
    simp(disch:=omega) only[aK]
   ·simp only[ec]at F ⊢;omega
   ·simp only[ec]at F ⊢;omega
   ·exact gW.ad (zE) (zE)
   ·exact⟨Zo,λb aj bI=>by
     rw[<-((hK.trans (dp.trans (co.of (cx.more (by omega:bF<=bF+9))))).trans es).ad b aj bI]
     simp(disch:=omega) only[aK]⟩
  have WD:s0 left=some false->∀(be:R ag) (bF:Nat) (ai:bN),bD X aT bk be bF->a7 X 87 [.agg (bW x)] be bF ai (ii X aF h j r):=by
   intro Qo be bF ai cx
   rw[Qo]at U
   simp only[bad,Ze]at U
   subst U
   refine(G4 aB (zy cx.le) x _ ?_).mono (λ_ _ _ a=>a.elim) (λ_ _ _ a=>a)
   intro S aq bZ
   exact⟨_,rfl,rfl,hK.trans (dp.trans (co.of (cx.trans bZ)))⟩
  by_cases jI:left.kind=1
  ·have cL:decide (left.kind≠1)=false:=by simp[jI]
   refine gO bW.eq_1 @dV @cL ⟨?_⟩
   refine gQ ?_
   refine gO bW.eq_1 @dV @cL ⟨?_⟩
   refine gQ ?_
   refine uP ?_
   exact b2 (by simp[s0,jI]) _ _ _ (bC) (bC) (bC) dL Zo (bv Zo)
  ·have cL:decide (left.kind≠1)=true:=by simp[jI]
   by_cases f2:left.kind=4
   ·have h3:decide (left.kind≠4)=false:=by simp[f2]
    cases vd:left.args with
    |nil=>
     simp[s0,f2,vd]at U
    |cons D wp=>
     obtain⟨v,bt,al7⟩:=B3.get 0 D (by rw[vd];rfl)
     obtain⟨gH,l9,s5⟩:=nP.one bt
     have gH:hr 1 bf (.Z 0)=some (.ptr cD 0):=gH
     obtain⟨AF,rfl,LH,nd⟩:=al7.ptr
     obtain⟨axf,axg⟩:=LH
     obtain⟨axR,axS⟩:=s5
     have Ke:aR X aT (.ptr cD 0)=some (.ptr AF 0):=by rw[dp.fA _ _ Zo Zx];exact l9
     have GH:aR X aT (.ptr AF 0)=some (.Z D.kind):=by rw[dp.fA _ _ Zo Zx];exact nd
     by_cases aC:D.kind=1
     ·have fM:decide (D.kind≠1)=false:=by simp[aC]
      refine gO bW.eq_1 @dV (Za @cL (Za @h3 (Za @DX (Za @gH (Za @Ke (Za @GH @fM)))))) ⟨?_⟩
      refine gQ ?_
      refine gO bW.eq_1 @dV (Za @cL (Za @h3 (Za @DX (Za @gH (Za @Ke (Za @GH @fM)))))) ⟨?_⟩
      refine gQ ?_
      refine uP ?_
      exact b2 (by simp[s0,f2,vd,aC]) _ _ _ (bC) (bC) (bC) dL Zo (bv Zo)
     ·have fM:decide (D.kind≠1)=true:=by simp[aC]
      refine gO bW.eq_1 @dV (Za @cL (Za @h3 (Za @DX (Za @gH (Za @Ke (Za @GH @fM)))))) ⟨?_⟩
      refine gQ ?_
      refine gO bW.eq_1 @dV (Za @cL (Za @h3 (Za @DX (Za @gH (Za @Ke (Za @GH @fM)))))) ⟨?_⟩
      refine gQ ?_
      refine uQ ?_
      refine cr bW.eq_1 ⟨?_⟩
      exact WD (by simp[s0,f2,vd,aC]) _ _ _ dL
   ·have h3:decide (left.kind≠4)=true:=by simp[f2]
    refine gO bW.eq_1 @dV (Za @cL @h3) ⟨?_⟩
    refine gQ ?_
    refine gO bW.eq_1 @dV (Za @cL @h3) ⟨?_⟩
    refine gQ ?_
    refine uQ ?_
    refine cr bW.eq_1 ⟨?_⟩
    exact WD (by simp[s0,jI,f2]) _ _ _ dL
 ·rw[aD]at dm ⊢
  simp only[Zu,ZD]at dm ⊢
  simp only[ok,Ze]at U
  subst U
  refine dk bW.eq_1 gJ.eq_1 ⟨?_⟩
  refine⟨left,rU,rfl,cm.ex b4 (λe I M=> ?_) (Zi _) Zo,dm.ad (zE) (zE), ?_⟩
  ·simp(disch:=omega) only[aK]
   exact dp.ad e Zo Zx
  ·exact⟨Zo,λb aj bI=>by rw[<-(hK.trans dp).ad b aj bI];exact zE⟩
end
section
variable{X:cn}{h S a1 aT:R ag}{j aq aP bk aF bE:Nat}{aN:List Tok}{i:Nat}
def aer(X:cn)(aF bE:Nat)(aN:List Tok)(h:R ag)(j:Nat)(r:Option bx×List Tok):bN:=λaa S aq=>∃cp,r.2=aN.drop cp/\aS X S aF bE aN cp/\co X [aF] h j S aq/\
 match r.1 with
 |none=>aa= .tuple [.cM, .zF]
 |some B=>∃b o D,B= .mk o D [] false dw 0 []/\aa= .tuple [.ptr b 0, .zT]/\j<=b/\b<aq/\Z X S b=zC (gN o D [] false dw 0 .aV) 9
def aiG(aB:dR X)(eo:uI X){o:Nat}(aG:o<5)(av:h1 X h j aF bE aN i){r:Option bx×List Tok}(U:oh (ao o) (aN.drop i)=some r):
 a7 X 122 [.ptr aF 0, .Z (o:Int)] h j (aer X aF bE aN h j r) zK:=by
 refine zF aB (ae5 X) ?_
 rw[ae6]
 unfold TJ
 have gu:=av.a6
 have jG:=av.g0
 have hz:=av.ci
 have jc:=av.gG
 obtain⟨amc,eo⟩:=eo
 obtain⟨b,bf,nP,cW⟩:=eo h o aG
 have d7:E9 5 1 (.ptr 7 0) (.Z (o:Int))=some (.ptr 7 o):=by
  simp[E9,qT,JB,eU,aG]
 have eD:=cW.len
 rw[Zr]at eD
 have ub:=cW.many
 rw[Zr]at ub
 refine gO @d7 @nP @eD ⟨?_⟩
 refine gQ ?_
 refine f6 (λm H S n=>∃W,m=(ao o).length-W/\W<=(ao o).length/\H.g 0=some (.ptr aF 0)/\H.g 12=some bf/\H.g 13=some (.Z ((ao o).length:Int))/\H.g 14=some (.Z (W:Int))/\aS X S aF bE aN i/\co X [aF] h j S n/\oh ((ao o).drop W) (aN.drop i)=some r)
  (ao o).length ⟨0,Zo,Zo,bC,bC,bC,gC,av.par,co.refl _ _ _,U⟩ ?_
 rintro m H aT n ⟨W,rfl,bB,t0,AJ,mJ,n0,dm,fT,aj⟩
 have f8:=fT.le
 have ft:=av.go dm f8
 refine G9 @mJ @n0 ⟨?_⟩
 refine gQ ?_
 refine DW (λcO=> ?_) (λcO=> ?_)
 ·have cO:W<(ao o).length:=Zo
  have kg:(ao o).drop W=(ao o)[W]::(ao o).drop (W+1):=Zz cO
  rw[kg]at aj
  have Lk:=cW.gZ W (by simpa using cO)
  have fN:=((eo aT o aG).choose_spec)
  obtain⟨cy,auh,ug,Ie⟩:=eo aT o aG
  have QV:auh=bf:=by
   have B:aR X aT (.ptr 7 o)=aR X h (.ptr 7 o):=by
    rw[c6,c6]
    have:∀h:R ag,Z X h 7=X.G.get 7:=λh=>by
     have amz:Nat.blt 7 (q X).a6=true:=by simp[Nat.blt];exact amc
     simp only[Z,amz,fj];rfl
    rw[this,this]
   rw[B,nP]at ug
   exact(Yv ug).symm
  subst QV
  have Lk:=Ie.gZ W (by simpa using cO)
  have fN:=λbe (a:∀e,e<X.a6->Z X be e=Z X aT e)=>(Ie.ad (S:=be) a).row Zd (i:=W) (r:=[.str (ao o)[W].1, .Z (ao o)[W].2]) (by rw[Zw,Zf cO];rfl)
  have fN:=fN aT (λ_ _=>rfl)
  generalize (ao o)[W]=V at aj fN kg
  obtain⟨s,eS⟩:=V
  simp only[oh]at aj
  refine gV @AJ @n0 @Lk @fN @t0 ⟨?_⟩
  refine e1 (λbe=>bD X aT n be (n+1)/\Z X be n=zC [.str s, .Z eS] 2) ⟨dL,bv Zo⟩ ?_
  rintro be ⟨cx,cG⟩
  cases aI:aN.drop i with
  |nil=>rw[aI]at aj;simp[lC]at aj
  |cons x k=>
   rw[aI]at aj
   refine(nl aB (ft.go (dm.ex cx Zo Zo) Zo) aI s).Zm ?_
   rintro aa bU cP ⟨rfl,gW,es⟩
   have je:=es.le
   have er:Z X bU n=zC [.str s, .Z eS] 2:=by rw[es.ad _ Zo Zx];exact cG
   have tN:=fT.trans ((co.of cx).trans es)
   cases aD:gI x s with
   |true=>
    rw[aD]at gW
    simp only[lC,aD,ZE]at aj gW ⊢
    simp only[Ze]at aj
    subst aj
    refine dk bW.eq_1 (bS er) ⟨?_⟩
    refine⟨i+1,(fo aI).2.symm,gW.ad (zE) (zE), ?_,cP+1,eS,x.at_,rfl,rfl,Zo,Zo, ?_⟩
    ·exact⟨Zo,λb aj bI=>by rw[<-tN.ad b aj bI];exact zE⟩
    ·exact zP
   |false=>
    rw[aD]at gW
    simp only[lC,aD,Zu,ZD]at aj gW ⊢
    have bA:=zD W
    refine hT bW.eq_1 gJ.eq_1 @n0 @bA ⟨?_⟩
    refine⟨_, ?_,W+1,rfl,Zo,aY t0,aY AJ,aY mJ,bC,gW.ad (zE) (zE), ?_,aj⟩
    ·omega
    ·exact⟨Zo,λb aj bI=>by rw[<-tN.ad b aj bI];exact zE⟩
 ·have bB:W=(ao o).length:=Zo
  subst bB
  rw[List.drop_length]at aj
  simp only[oh,Ze]at aj
  subst aj
  refine cV ⟨?_⟩
  exact⟨i,rfl,dm,fT,rfl⟩
end
section
variable{X:cn}{h S a1 aT:R ag}{j aq aP bk aF bE:Nat}{aN:List Tok}{i:Nat}
def aqF(aB:dR X)(eo:uI X){n:Nat}(ah:∀m,m<n->qu X aF bE aN m):∀h j i (o:Nat) r,o<=5->h1 X h j aF bE aN i->Go.aS.level n o (aN.drop i)=some r->a7 X 118 [.ptr aF 0, .Z (o:Int)] h j (jm X aF bE aN h j r) (ii X aF h j r):=by
 intro h j i o r aG av U
 cases n with
 |zero=>simp[Go.aS.level]at U
 |succ n=>
 refine zF aB (aeX X) ?_
 rw[aeY]
 unfold TF
 have gu:=av.a6
 have jG:=av.g0
 have hz:=av.ci
 have jc:=av.gG
 unfold Go.aS.level at U
 by_cases oz:o=5
 ·subst oz
  rw[Zp rfl]at U
  have cL:decide (((5:Nat):Int)=5)=true:=rfl
  refine cr @cL ⟨?_⟩
  exact(ah n Zo).shift h j i r av U
 ·rw[Zg oz]at U
  have cL:decide ((o:Int)=5)=false:=by simp;omega
  have bA:=zD o
  refine dk @cL @bA ⟨?_⟩
  rcases f0 U with ⟨D,I,rfl⟩|⟨left,ea,I,U⟩
  ·exact((ah n Zo).level h j i (o+1) _ Zo av I).mono zM (λaa S aq a=>a)
  refine((ah n Zo).level h j i (o+1) _ Zo av I).mono ?_ zL
  rintro uC a1 aP ⟨B,rU,bl,b4,dZ,hK⟩
  cases bl
  have ju:=hK.le
  refine gQ ?_
  refine f6 (λm H S aQ=>∃left v cp,m<=n/\H.g 0=some (.ptr aF 0)/\H.g 1=some (.Z (o:Int))/\H.g 5=some v/\cm X S (ec j aQ) left v/\aS X S aF bE aN cp/\co X [aF] h j S aQ/\oP m o left (aN.drop cp)=some r)
   n ⟨left,uC,rU,Zi _,bC,bC,bC,b4,dZ,hK,U⟩ ?_
  clear b4 dZ hK I U
  rintro m H aT bk ⟨left,v,jg,aX,t0,t1,t5,cl,dm,dp,U⟩
  cases m with
  |zero=>simp[oP]at U
  |succ m=>
  unfold oP at U
  have gP:=dp.le
  have ft:=av.go dm gP
  refine gQ ?_
  refine dk @t0 @t1 ⟨?_⟩
  cases aj:oh (ao o) (aN.drop jg)with
  |none=>rw[aj]at U;cases U
  |some xA=>
  rw[aj]at U
  refine(aiG aB eo Zo ft aj).Zm ?_
  rintro De be bF ⟨i3,sI,ge,en,aU⟩
  have iT:=en.le
  obtain⟨ro,ax2⟩:=xA
  simp only[]at sI
  subst sI
  cases ro with
  |none=>
   simp only[]at aU U
   subst aU
   simp only[ok,Ze]at U
   subst U
   refine cr @t5 ⟨?_⟩
   exact⟨left,i3,rfl,cm.fr cl en Zo Zo (Zi _) Zo,ge,dp.trans en⟩
  |some B=>
   simp only[]at aU U
   obtain⟨b,eS,D,rfl,rfl,nI,m3,cG⟩:=aU
   refine hT @t0 @t1 @t5 @bA ⟨?_⟩
   rcases f0 U with ⟨fK,aA,rfl⟩|⟨right,gE,aA,U⟩
   ·refine((ah m Zo).level be bF i3 (o+1) _ Zo (ft.go ge iT) aA).mono zM (λaa S aq a=>a.of (dp.trans en) (λ_ a=>a))
   refine((ah m Zo).level be bF i3 (o+1) _ Zo (ft.go ge iT) aA).mono ?_ zL
   rintro v4 bU cP ⟨iP,i4,p2,dz,gW,es⟩
   cases p2
   have je:=es.le
   have er:Z X bU b=zC (gN eS D [] false dw 0 .aV) 9:=by rw[es.ad _ Zo Zx];exact cG
   obtain⟨cB,rfl,m8,_⟩:=cl.ptr
   obtain⟨fx,rfl,rN,_⟩:=dz.ptr
   refine eW @t5 @er @t1 ⟨?_⟩
   have fin:∀gb,gb=bn X (bn X bU cP (zC [.ptr cB 0, .ptr fx 0] 2)) b (zC (gN eS D [] false dw 0 (.slice cP 0 2 2)) 9)->cm X gb (ec j (cP+1)) (two (.mk eS D [] false dw 0 []) left right) (.ptr b 0)/\aS X gb aF bE aN i4/\co X [aF] h j gb (cP+1):=by
    rintro gb rfl
    refine⟨cm.lit (gn:= .own) (cD:=cP) (bj:=[.ptr cB 0, .ptr fx 0]) (bv Zo) ⟨Zo,Zo⟩ ?_ ⟨Zo,Zo⟩ rfl Zo Zo (dh.two (cm.ad (λe F=> ?_) _ _ cl) (cm.ad (λe F=> ?_) _ _ dz) (λe F=> ?_) (λe F=> ?_)), ?_, ?_⟩
    ·simp(disch:=omega) only[aK,bv]
    ·have I:=F.1;have M:=F.2
     simp(disch:=omega) only[aK]
     rw[es.ad e Zo Zx,en.ad e Zo Zx]
    ·have I:=F.1;have M:=F.2
     simp(disch:=omega) only[aK]
    ·simp only[ec]at F ⊢;omega
    ·simp only[ec]at F ⊢;omega
    ·exact gW.ad (zE) (zE)
    ·exact⟨Zo,λe F bI=>by
      rw[<-((dp.trans en).trans es).ad e F bI]
      simp(disch:=omega) only[aK]⟩
   obtain⟨ez,e5,f3⟩:=fin (bn X (bn X bU cP (zC [.ptr cB 0, .ptr fx 0] 2)) b (some (.cells (dP (R.ofList (gN eS D [] false dw 0 .aV) 0 .nil) 8 (z.slice cP 0 2 2).cells) 9 .own))) rfl
   refine DW (λM=> ?_) (λM=> ?_)
   ·have hh:o=2:=Zo
    rw[Zp hh]at U
    simp only[ok,Ze]at U
    subst U
    exact⟨_,i4,rfl,ez,e5,f3⟩
   ·rw[Zg Zo]at U
    exact⟨m,Zo,_, .ptr b 0,i4,Zo,aY t0,aY t1,bC,ez,e5,f3,U⟩
end
end
end Go.Proofs.YtbbkkkpgjaopkaaGreatDoor

