/- A part of the proof of the claim's last text: what it is used for is said there; no condition of its own. -/
import Derived.Test.YtpfajohmofnkfaaGreatDoorYo
set_option maxHeartbeats 8000000
set_option linter.all false
namespace Go.Proofs.YtpfajohmofnkfaaGreatDoor
open Go.bg Go.a2
noncomputable section
def o4(t:bx->Option fQ)(w:bx):es:=((t w).getD tL).d.ty
def su:List es->Bool
 |[]=>true
 |J::l=>(J::l).all λb=>decide (b=J)
def GS:es:=⟨true,false,1⟩
def Ht(ap:List Go.a2.Node)(nm:bx)(J:List es):List es×Bool:=
 match ap[(rW ap nm).getD 0]? with
 |none=>([],false)
 |some g=>(g.out.map (·.ty),decide (g.eQ.map (·.ty)=J))
def k6(ap:List Go.a2.Node)(t:bx->Option fQ)(F:bz)(J:List es):List es×Bool:=
 let a0:=J.headD dJ
 if F.kind=1 then([F.ty],true)
 else if F.kind=2 then([o4 t F.name],true)
 else if F.kind=3\/F.kind=5 then([a0],true)
 else if F.kind=4\/F.kind=19\/F.kind=20 then([a0], !a0.b)
 else if F.kind=6 then([a0],(o4 t F.name).b)
 else if F.kind=7\/F.kind=8\/F.kind=9\/F.kind=21\/F.kind=22 then([a0],su J)
 else if F.kind=16\/F.kind=17\/F.kind=18 then([a0],su J&& !a0.b)
 else if F.kind=10\/F.kind=11 then([GS],su J)
 else if F.kind=12\/F.kind=13\/F.kind=14\/F.kind=15 then([GS],su J&& !a0.b)
 else if F.kind=23 then([(J[1]?).getD dJ],a0.b&&su J.tail)
 else if F.kind=24 then([a0],su J&&(o4 t F.name).b)
 else if F.kind=26 then([F.ty], !F.ty.b||a0.b)
 else Ht ap F.name J
mutual
def AA(ap:List Go.a2.Node)(t:bx->Option fQ):bz->Except Int (List es)
 | .mk D at_ nm no ty n args=>match wj ap t args with
   | .error J=> .error J
   | .ok (b5,one)=>if one=false then .error at_ else
     let r:=k6 ap t (.mk D at_ nm no ty n args) b5
     if r.2=false then .error at_ else .ok r.1
def wj(ap:List Go.a2.Node)(t:bx->Option fQ):List bz->Except Int (List es×Bool)
 |[]=> .ok ([],true)
 |F::l=>match AA ap t F with
  | .error J=> .error J
  | .ok r=>match wj ap t l with
    | .error J=> .error J
    | .ok (b5,one)=>match r with
      |[x]=> .ok (x::b5,one)
      |_=> .ok (b5,false)
end
def KR(t:bx->Option fQ)(g:Go.a2.Node):Option Int:=(iG g).findSome? λx=>if x.2.on≠[]/\(o4 t x.2.on).b=false then some x.2.fJ else none
def wv(ap:List Go.a2.Node)(t:bx->Option fQ)(an:hl):Option Int:=match AA ap t an.right with
 | .error J=>some J
 | .ok row=>if (1<an.left.length/\an.right.kind≠25)\/row≠an.left.map (o4 t)then some an.at_ else none
def DD(ap:List Go.a2.Node)(g:Go.a2.Node):Option Int:=match KR (i6 g) g with
 |some J=>some J
 |none=>g.eqs.findSome? (wv ap (i6 g))
def NU(ap:List Go.a2.Node):Option Int:=ap.findSome? (DD ap)
end
end Go.Proofs.YtpfajohmofnkfaaGreatDoor

namespace Go.Proofs.YtpfajohmofnkfaaGreatDoor
open Go.bg
noncomputable section
variable (X : ck) (h : S ak) (j : Nat) (ah aw : bG) (a0 bd cg a3 a4 a5 hz h0 hA : H)
def GF(a:aW)(b:bG):gn:=λc d e=>m6 a [.cell 2 65, .cell 3 26] b c c.bb d e
def Nt(a:aW)(b c:bG):rJ:=λd e f g=>vo a [.cell 2 65, .cell 3 26] b c d e d.bb f g
def U7(a:aW)(b:H)(c:S ak)(d:Nat)(e f:bG):Prop:=
 B (dA [.cq] d) λg=>cO a c d g.1 g.2 λc d g=>B (dA [(.Z 0),(.Z 0)] g) λh=>cO a d g h.1 h.2 λd g h=>aR a 20 [b] g h (λg h i=>B (dA [(.Z 0),(.Z 0)] i) λj=>cO a h i j.1 j.2 λh i j=>B (b7 a i 2 h g) λg=>B (aZ 0 h) λi=>B (am a g i) λi=>B (aA .neq i (.Z 0)) λi=>aQ (λb c d=>aj (b 2) λg=>aj (b 3) λh=>Hy (.func (.func 76) [] [g,h]) [] b λb=>cO a c d (.map d) (.map [] 0) λc d g=>B (eA [.lT] [(0,1,c)]) λc=>ia a d g c λc d g=>aj (b 2) λh=>B (b7 a d 1 h c) λc=>aj (b 2) λd=>B (am a c d) λd=>aj (b 0) λh=>B (eA [.cq, .cq, .cq] [(0,1,d),(1,1,h)]) λd=>ia a c g d λc d g=>aj (b 0) λh=>B (cf h) λh=>B (aZ 0 h) λh=>B (am a d h) λh=>B (d8 h) λi=>aQ (λb c d=>aj (b 2) λf=>B (am a c f) λf=>B (eA [(.Z 0),(.Z 0)] []) λg=>aj (b 2) λh=>B (b7 a c 1 h f) λc=>aj (b 3) λf=>B (b7 a c 2 f g) λc=>GF a e b c d) λj=>fj (λb c d g=>aj (c 27) λh=>aj (c 26) λi=>B (aA .lss h i) λh=>aQ (λc d g=>aQ (λa c d=>aj (a 27) λe=>B (aA .add e (.Z 1)) λe=>b (ab a 27 e) c d) λb=>aj (c 25) λh=>aj (c 27) λi=>B (dC 6 h i) λh=>B (b6 a d 6 h) λh=>B (dA [(.str []),(.Z 0), .aT, .aT, .aT, .aT] g) λi=>cO a d g i.1 i.2 λd g i=>B (b7 a g 6 d h) λg=>aj (c 5) λh=>B (b6 a g 6 d) λj=>aR a 77 [h,j] g i (λ_ a e=>b (ab c 7 d) a e) (Nt a e f (hC [31,32,33] (ab c 7 d)))) λa=>aV h (a (ab c 28 h) d g) (j (ab c 28 h) d g)) (ab (ab (ab (ab b 5 c) 25 h) 26 i) 27 (.Z 0)) d g) λf=>aV i (eZ (j+3) λf=>B (b6 a g 2 h) λj=>B (b7 a g 1 c .cq) λg=>B (b6 a g 2 h) λk=>gI k (some j) (B (b7 a g 2 d j) λg=>GF a e (ab (ab (ab (ab (cP [b]) 2 c) 3 d) 4 h) 12 i) g f)) (f (ab (ab (ab (ab (cP [b]) 2 c) 3 d) 4 h) 12 i) g j)) (Nt a e f (hC [8,9,4] (ab (ab (cP [b]) 2 c) 3 d)))
def ahV:AC X 31 [a0] h j ah aw=U7 X a0 h j ah aw:=Zk
def ahU:cS X 31 1=true:=Zk
def Ot(a:aW)(b c:H)(d:Option H)(e:S ak)(f:Nat)(g:Bool->S ak->Nat->Prop):Prop:=
 GA (some d) (cP [b,c]) λb c=>aQ (λa b c=>g a.rc b c) λd=>B (dj a e .eql 20 true b .nilIface) λg=>aQ d λd=>aV g (d (ab (ab c 5 b) 7 g) e f) (B (Ex 26 (.agg [(.Z 0),(.Z 0)]) true b) λh=>B (cN 1 h) λi=>B (cN 0 h) λh=>aQ d λd=>aV i (B (dA [(.Z 0),(.Z 0)] f) λj=>cO a e f j.1 j.2 λe f j=>B (b7 a f 2 e h) λf=>eZ (j+3) λj=>B (b6 a f 2 e) λk=>aj (c 0) λl=>B (b7 a f 1 l .cq) λf=>B (b6 a f 2 e) λl=>gI l (some k) (aj (c 1) λl=>B (b7 a f 2 l k) λa=>d (ab (ab (ab (ab (ab c 5 b) 7 g) 9 i) 10 h) 3 e) a j)) (vp (λ_ _ _=>False) b e f))
def Vk(X:ck)(a0 bd:H)(jE:Option H)(h:S ak)(j:Nat)(ah:Bool->S ak->Nat->Prop):x2 X 76 [a0,bd] jE h j ah=Ot X a0 bd jE h j ah:=Zk
def Ou:cS X 76 2=true:=Zk
def Vl(a:aW)(b c:H)(d:S ak)(e:Nat)(f g:bG):Prop:=
 ia a d e c λd e h=>B (b6 a e 6 d) λi=>aR a 32 [i] e h (λe h i=>B (cf b) λj=>B (aZ 2 j) λj=>B (b7 a h 1 j e) λe=>B (aZ 2 d) λh=>B (am a e h) λh=>B (aZ 3 d) λj=>B (am a e j) λj=>B (aZ 4 d) λk=>B (am a e k) λk=>B (eA [.aT, .aT, .aT] [(0,1,h),(1,1,j),(2,1,k)]) λh=>aQ (λb c d=>aj (b 3) λe=>B (aZ 5 e) λe=>B (am a c e) λe=>B (d8 e) λh=>aQ (λ_ a b=>f (.tuple []) a b) λf=>fj (λb c d e=>aj (c 54) λh=>aj (c 53) λi=>B (aA .lss h i) λh=>aQ (λc d e=>aQ (λa c d=>aj (a 54) λe=>B (aA .add e (.Z 1)) λe=>b (ab a 54 e) c d) λb=>aj (c 52) λf=>aj (c 54) λh=>B (dC 4 f h) λf=>B (b6 a d 4 f) λf=>B (dA [.aT, .aT,(.Z 0), .cq] e) λh=>cO a d e h.1 h.2 λd e h=>B (b7 a e 4 d f) λe=>aj (c 0) λf=>B (aZ 3 d) λi=>B (am a e i) λi=>aR a 131 [f,i] e h (λe f h=>B (aZ 0 d) λi=>B (am a f i) λi=>B (d8 i) λj=>aQ (λc d e=>aj (c 11) λf=>B (d8 f) λf=>B (aA .gtr f (.Z 1)) λf=>MR f (c 9) (λa=>aZ 3 a) d e (λd e h=>cV f (am a e d) e h (λd e h=>cV f (cf d) e h (λd e h=>cV f (aZ 0 d) e h (λd e h=>cV f (am a e d) e h (λd e h=>cV f (aA .neq d (.Z 25)) e h (λd e h=>cW (λd=>sk d (c 10) e h (λe f h=>sk d (c 11) f h (λf h i=>km d (λb=>aR a 47 [e,f] h i b g) h i (λe f h=>cU d (fz .not e) f h (λe f h=>cW (λd=>aQ b λb=>aV d (aj (c 9) λe=>B (aZ 2 e) λe=>B (am a f e) λe=>aR a 130 [e] f h (λ_ a e=>b (ab c 92 d) a e) g) (b (ab c 92 d) f h)) λa=>aV d (a (.bool true)) (a e)))))) λa=>aV f (a d) (a (.bool false))))))))) λb=>fj (λc d e f=>aj (d 65) λh=>aj (d 64) λi=>B (aA .lss h i) λh=>aQ (λb d e=>aQ (λa b d=>aj (a 65) λe=>B (aA .add e (.Z 1)) λe=>c (ab a 65 e) b d) λc=>aj (b 63) λf=>aj (b 65) λh=>B (dC 1 f h) λf=>B (am a d f) λf=>aj (b 11) λh=>aj (b 0) λi=>aR a 129 [i,f] d e (λd e g=>B (ft 1 [(.bool false),(.bool false),(.Z 0)] [(0,3,d)] g) λd=>cO a e g d.1 d.2 λd e g=>gO (iQ a e g 3 h d) e g λa d e=>c (ab (ab b 13 f) 11 a) d e) g) λa=>aV h (a (ab d 66 h) e f) (b (ab d 66 h) e f)) (ab (ab (ab (ab (ab (ab c 9 d) 10 e) 11 .aT) 63 i) 64 j) 65 (.Z 0)) f h) g) λa=>aV h (a (ab c 55 h) d e) (f (ab c 55 h) d e)) (ab (ab (ab b 52 e) 53 h) 54 (.Z 0)) c d) λf=>fj (λb c d e=>aj (c 26) λh=>B (aA .lss h (.Z 3)) λh=>aQ (λc d e=>aQ (λa c d=>aj (a 26) λe=>B (aA .add e (.Z 1)) λe=>b (ab a 26 e) c d) λb=>aj (c 25) λf=>aj (c 26) λh=>B (tt false 3 1 f h) λf=>B (d8 f) λh=>aQ b λb=>fj (λc d e f=>aj (d 31) λh=>aj (d 30) λi=>B (aA .lss h i) λh=>aQ (λb d e=>aQ (λa b d=>aj (a 31) λe=>B (aA .add e (.Z 1)) λe=>c (ab a 31 e) b d) λc=>aj (b 29) λf=>aj (b 31) λh=>B (dC 8 f h) λf=>B (b6 a d 8 f) λf=>B (dA [(.str []),(.Z 0),(.bool false),(.bool false),(.Z 0),(.str []),(.Z 0),(.bool false)] e) λh=>cO a d e h.1 h.2 λd e h=>B (b7 a e 8 d f) λe=>B (aZ 5 d) λf=>B (am a e f) λf=>B (dj a e .neq 9 true f (.str [])) λf=>lQ f (b 0) e h (λe h i=>cV f (aZ 5 d) h i (λh i j=>cV f (am a i h) i j (λh i j=>j9 f (λb=>aR a 129 [e,h] i j b g) i j (λe h i=>cV f (qV false 0 1 e) h i (λe h i=>cV f (fz .not e) h i (λe h i=>cW (λe=>aQ c λc=>aV e (B (aZ 6 d) λf=>B (am a h f) λf=>aR a 130 [f] h i (λ_ a f=>c (ab (ab b 7 d) 45 e) a f) g) (c (ab (ab b 7 d) 45 e) h i)) λa=>aV f (a e) (a (.bool false))))))))) λa=>aV h (a (ab d 32 h) e f) (b (ab d 32 h) e f)) (ab (ab (ab (ab c 5 f) 29 f) 30 h) 31 (.Z 0)) d e) λa=>aV h (a (ab c 27 h) d e) (f (ab c 27 h) d e)) (ab (ab (ab (cP [b,c]) 3 d) 25 h) 26 (.Z 0)) e i) g
def aij:db X 77 [a0,bd] h j ah aw=Vl X a0 bd h j ah aw:=Zk
def aii:cS X 77 2=true:=Zk
def Vo(a:aW)(b c:H)(d:S ak)(e:Nat)(f g:bG):Prop:=
 aR a 135 [b,c] d e (λa b c=>B (aA .geq a (.Z 0)) λa=>f a b c) g
def aip:db X 80 [a0,bd] h j ah aw=Vo X a0 bd h j ah aw:=Zk
def aio:cS X 80 2=true:=Zk
def TM(a:aW)(b c:H)(d:S ak)(e:Nat)(f g:bG):Prop:=
 B (dA [(.bool false),(.bool false),(.Z 0)] e) λh=>cO a d e h.1 h.2 λd e h=>B (cf b) λb=>B (aZ 2 b) λb=>B (am a e b) λb=>aR a 34 [b,c] e h (λb c e=>B (cN 0 b) λg=>B (cN 1 b) λ_=>B (dA [(.Z 0),(.str []),(.Z 0),(.bool false),(.bool false),(.Z 0),(.str []),(.Z 0),(.bool false),(.Z 0),(.Z 0)] e) λb=>cO a c e b.1 b.2 λb c e=>B (b7 a c 11 b g) λc=>B (aZ 1 b) λb=>B (aZ 2 b) λb=>B (b6 a c 3 b) λb=>B (b7 a c 3 d b) λb=>B (b6 a b 3 d) λa=>f a b e) g
def afm:db X 129 [a0,bd] h j ah aw=TM X a0 bd h j ah aw:=Zk
def afl:cS X 129 2=true:=Zk
def TN(_:aW)(a:H)(b:S ak)(c:Nat)(_ d:bG):Prop:=
 B (eA [(.Z 0),(.Z 0)] [(0,1,(.Z 26)),(1,1,a)]) λa=>B (some (H.iface 26 a)) λa=>vp d a b c
def afo:db X 130 [a0] h j ah aw=TN X a0 h j ah aw:=Zk
def afn:cS X 130 1=true:=Zk
def TO(a:aW)(b c:H)(d:S ak)(e:Nat)(f g:bG):Prop:=
 B (cf c) λh=>B (aZ 8 h) λh=>B (am a d h) λh=>B (d8 h) λi=>aQ (λb c d=>aj (b 6) λe=>B (fz .not e) λe=>aQ (λb c d=>aj (b 0) λe=>aj (b 1) λh=>aj (b 5) λi=>aR a 184 [e,h,i] c d (λc d e=>B (cN 0 c) λh=>B (cN 1 c) λc=>B (fz .not c) λi=>aQ (λb c d=>aj (b 0) λe=>B (cf e) λe=>B (aZ 0 e) λe=>B (am a c e) λe=>B (cf e) λe=>B (aZ 0 e) λe=>B (am a c e) λe=>aj (b 1) λg=>aj (b 10) λh=>gO (vj a c d 47 e g h) c d λ_ a c=>aj (b 10) λb=>f b a c) λf=>aV i (aj (b 1) λj=>B (cf j) λj=>B (aZ 1 j) λj=>B (am a d j) λj=>aR a 130 [j] d e (λ_ a d=>f (ab (ab (ab b 10 h) 11 c) 49 i) a d) g) (f (ab (ab (ab b 10 h) 11 c) 49 i) d e)) g) λf=>aV e (aj (b 1) λh=>B (cf h) λh=>B (aZ 1 h) λh=>B (am a c h) λh=>aR a 130 [h] c d (λ_ a c=>f (ab b 35 e) a c) g) (f (ab b 35 e) c d)) λf=>fj (λb c d e=>aj (c 17) λh=>aj (c 16) λi=>B (aA .lss h i) λh=>aQ (λc d e=>aQ (λa c d=>aj (a 17) λe=>B (aA .add e (.Z 1)) λe=>b (ab a 17 e) c d) λb=>aj (c 15) λf=>aj (c 17) λh=>B (dC 1 f h) λf=>B (am a d f) λf=>aj (c 0) λh=>aR a 131 [h,f] d e (λd e g=>B (d8 d) λh=>B (aA .neq h (.Z 1)) λh=>aQ (λc d e=>aj (c 5) λf=>aj (c 9) λg=>B (dC 3 g (.Z 0)) λg=>B (b6 a d 3 g) λg=>B (ft 1 [(.bool false),(.bool false),(.Z 0)] [(0,3,g)] e) λg=>cO a d e g.1 g.2 λd e g=>gO (iQ a e g 3 f d) e g λa d e=>b (ab c 5 a) d e) λa=>aV h (b (ab (ab (ab (ab c 8 f) 9 d) 26 h) 6 (.bool false)) e g) (a (ab (ab (ab c 8 f) 9 d) 26 h) e g)) g) λa=>aV h (a (ab c 18 h) d e) (f (ab c 18 h) d e)) (ab (ab (ab (ab (ab (ab (cP [b,c]) 4 .aT) 5 .aT) 6 (.bool true)) 15 h) 16 i) 17 (.Z 0)) d e
def afq:db X 131 [a0,bd] h j ah aw=TO X a0 bd h j ah aw:=Zk
def afp:cS X 131 2=true:=Zk
def TS(a:aW)(b c:H)(d:S ak)(e:Nat)(f g:bG):Prop:=
 B (d8 b) λh=>aQ (λ_ a b=>f (.Z (-1)) a b) λi=>fj (λb c d e=>aj (c 8) λh=>aj (c 7) λj=>B (aA .lss h j) λh=>aQ (λc d e=>aQ (λa c d=>aj (a 8) λe=>B (aA .add e (.Z 1)) λe=>b (ab a 8 e) c d) λb=>aj (c 8) λh=>aj (c 1) λi=>aj (c 0) λj=>B (dC 3 j h) λj=>B (b6 a d 3 j) λj=>ih a i [j] d e (λa d e=>aQ b λb=>aV a (f h d e) (b (ab (ab c 5 h) 16 a) d e)) g) λa=>aV h (a (ab c 9 h) d e) (i (ab c 9 h) d e)) (ab (ab (ab (cP [b,c]) 4 (.Z 0)) 7 h) 8 (.Z 0)) d e
def afy:db X 135 [a0,bd] h j ah aw=TS X a0 bd h j ah aw:=Zk
def afx:cS X 135 2=true:=Zk
def Uo(a:aW)(b c d:H)(e:S ak)(f:Nat)(g h:bG):Prop:=
 B (cf c) λi=>B (aZ 0 i) λi=>B (am a e i) λi=>aQ (λb c d=>aj (b 0) λe=>aj (b 1) λf=>aj (b 2) λb=>aR a 212 [e,f,b] c d (λa b c=>B (cN 0 a) λd=>B (cN 1 a) λa=>g (.tuple [d,a]) b c) h) λj=>B (aA .eql i (.Z 1)) λk=>aQ j λj=>aV k (B (cf c) λb=>B (aZ 4 b) λb=>B (b6 a e 3 b) λb=>ih a (.func (.func 210) [] []) [b,(.bool true)] e f (λa b c=>B (cN 0 a) λd=>B (cN 1 a) λa=>g (.tuple [d,a]) b c) h) (B (aA .eql i (.Z 2)) λl=>aQ j λj=>aV l (B (cf c) λc=>B (aZ 2 c) λc=>B (am a e c) λc=>aR a 129 [b,c] e f (λb c d=>ih a (.func (.func 210) [] []) [b,(.bool true)] c d (λa b c=>B (cN 0 a) λd=>B (cN 1 a) λa=>g (.tuple [d,a]) b c) h) h) (B (aA .eql i (.Z 3)) λm=>aQ (λb c d=>aj (b 35) λe=>aQ j λf=>aV e (aj (b 8) λe=>aj (b 2) λb=>B (dC 3 b (.Z 0)) λb=>B (b6 a c 3 b) λb=>ih a e [b,(.bool true)] c d (λa b c=>B (cN 0 a) λd=>B (cN 1 a) λa=>g (.tuple [d,a]) b c) h) (aj (b 12) λe=>B (aA .eql e (.Z 4)) λe=>aQ (λb c d=>aj (b 45) λe=>aQ f λf=>aV e (eZ (d+14) λd=>aj (b 8) λe=>aj (b 2) λf=>B (dC 3 f (.Z 0)) λf=>B (b6 a c 3 f) λf=>aj (b 2) λb=>B (dC 3 b (.Z 0)) λb=>B (aZ 0 b) λb=>B (am a c b) λb=>B (fz .not b) λb=>ih a e [f,b] c d (λa b c=>B (cN 0 a) λd=>B (cN 1 a) λa=>g (.tuple [d,a]) b c) h) (aj (b 12) λe=>B (aA .eql e (.Z 6)) λe=>aQ f λf=>aV e (eZ (d+16) λd=>aj (b 8) λe=>aj (b 2) λf=>B (dC 3 f (.Z 0)) λf=>B (b6 a c 3 f) λi=>aj (b 0) λj=>aj (b 1) λb=>B (cf b) λb=>B (aZ 2 b) λb=>B (am a c b) λb=>aR a 129 [j,b] c d (λb c d=>B (qV false 0 1 b) λb=>B (b6 a c 3 f) λf=>gI f (some i) (ih a e [i,b] c d (λa b c=>B (cN 0 a) λd=>B (cN 1 a) λa=>g (.tuple [d,a]) b c) h)) h) (aj (b 12) λi=>B (aA .eql i (.Z 7)) λi=>aQ (λb c d=>aj (b 77) λe=>aQ f λf=>aV e (eZ (d+11) λd=>aj (b 8) λe=>aj (b 2) λf=>B (dC 3 f (.Z 0)) λf=>B (b6 a c 3 f) λi=>aj (b 2) λb=>aR a 211 [b] c d (λb c d=>B (b6 a c 3 f) λf=>gI f (some i) (ih a e [i,b] c d (λa b c=>B (cN 0 a) λd=>B (cN 1 a) λa=>g (.tuple [d,a]) b c) h)) h) (aj (b 12) λe=>B (aA .eql e (.Z 16)) λe=>aQ (λb c d=>aj (b 92) λe=>aQ f λf=>aV e (eZ (d+18) λd=>aj (b 8) λe=>aj (b 2) λf=>B (dC 3 f (.Z 0)) λf=>B (b6 a c 3 f) λi=>aj (b 2) λj=>aR a 211 [j] c d (λc d j=>uX c (b 2) d (λb d=>gs c (dC 3 b (.Z 0)) d (λb d=>gs c (aZ 0 b) d (λb d=>gs c (am a d b) d (λb d=>gs c (fz .not b) d (λb d=>cW (λb=>B (b6 a d 3 f) λc=>gI c (some i) (ih a e [i,b] d j (λa b c=>B (cN 0 a) λd=>B (cN 1 a) λa=>g (.tuple [d,a]) b c) h)) λa=>aV c (a b) (a (.bool false)))))))) h) (aj (b 12) λe=>B (aA .eql e (.Z 10)) λe=>aQ (λb c d=>aj (b 112) λe=>aQ f λf=>aV e (eZ (d+9) λd=>aj (b 8) λe=>B (b6 a c 3 (.ptr 4 0)) λf=>aj (b 2) λb=>aR a 211 [b] c d (λb c d=>B (b6 a c 3 (.ptr 4 0)) λi=>gI i (some f) (ih a e [f,b] c d (λa b c=>B (cN 0 a) λd=>B (cN 1 a) λa=>g (.tuple [d,a]) b c) h)) h) (aj (b 12) λe=>B (aA .eql e (.Z 12)) λe=>aQ (λb c d=>aj (b 122) λe=>aQ f λf=>aV e (eZ (d+16) λd=>aj (b 8) λe=>B (b6 a c 3 (.ptr 4 0)) λf=>aj (b 2) λi=>aR a 211 [i] c d (λc d i=>uX c (b 2) d (λb d=>gs c (dC 3 b (.Z 0)) d (λb d=>gs c (aZ 0 b) d (λb d=>gs c (am a d b) d (λb d=>gs c (fz .not b) d (λb d=>cW (λb=>B (b6 a d 3 (.ptr 4 0)) λc=>gI c (some f) (ih a e [f,b] d i (λa b c=>B (cN 0 a) λd=>B (cN 1 a) λa=>g (.tuple [d,a]) b c) h)) λa=>aV c (a b) (a (.bool false)))))))) h) (aj (b 12) λe=>B (aA .eql e (.Z 23)) λe=>aQ f λf=>aV e (eZ (d+18) λd=>aj (b 8) λe=>aj (b 2) λf=>B (dC 3 f (.Z 1)) λf=>B (b6 a c 3 f) λi=>aj (b 2) λj=>B (dC 3 j (.Z 0)) λj=>B (aZ 0 j) λj=>B (am a c j) λj=>uX j (b 2) c (λb c=>gs j (sG a c 3 b (some (.Z 1)) none none) c (λb c=>j9 j (λe=>aR a 211 [b] c d e h) c d (λb c d=>cW (λb=>B (b6 a c 3 f) λf=>gI f (some i) (ih a e [i,b] c d (λa b c=>B (cN 0 a) λd=>B (cN 1 a) λa=>g (.tuple [d,a]) b c) h)) λa=>aV j (a b) (a (.bool false)))))) (aj (b 12) λi=>B (aA .eql i (.Z 24)) λi=>aQ f λf=>aV i (eZ (d+20) λd=>aj (b 8) λe=>aj (b 2) λf=>B (dC 3 f (.Z 0)) λf=>B (b6 a c 3 f) λi=>aj (b 2) λj=>aR a 211 [j] c d (λc d j=>uX c (b 0) d (λd k=>uX c (b 1) k (λb k=>gs c (cf b) k (λb k=>gs c (aZ 2 b) k (λb k=>gs c (am a k b) k (λb k=>B (b6 a k 3 f) λl=>gI l (some i) (j9 c (λc=>aR a 129 [d,b] k j c h) k j (λb d j=>gs c (qV false 0 1 b) d (λb d=>cW (λb=>B (b6 a d 3 f) λc=>gI c (some i) (ih a e [i,b] d j (λa b c=>B (cN 0 a) λd=>B (cN 1 a) λa=>g (.tuple [d,a]) b c) h)) λa=>aV c (a b) (a (.bool false))))))))))) h) (aj (b 12) λj=>B (aA .eql j (.Z 26)) λj=>aQ f λf=>aV j (eZ (d+22) λd=>aj (b 8) λe=>aj (b 1) λf=>B (cf f) λf=>B (aZ 4 f) λf=>B (b6 a c 3 f) λf=>aj (b 1) λi=>B (cf i) λi=>B (aZ 4 i) λi=>B (aZ 0 i) λi=>B (am a c i) λi=>B (fz .not i) λi=>Jd i (b 2) c (λb c=>pC i (dC 3 b (.Z 0)) c (λb c=>pC i (aZ 0 b) c (λb c=>pC i (am a c b) c (λb c=>cW (λb=>ih a e [f,b] c d (λa b c=>B (cN 0 a) λd=>B (cN 1 a) λa=>g (.tuple [d,a]) b c) h) λa=>aV i (a (.bool true)) (a b)))))) (f (ab (ab (ab b 141 e) 159 i) 179 j) c d))))) λa=>aV e (a (ab b 122 e) c d) (aj (b 12) λf=>B (aA .eql f (.Z 13)) λf=>aQ a λa=>aV f (a (ab (ab b 122 e) 122 f) c d) (aj (b 12) λg=>B (aA .eql g (.Z 14)) λg=>aQ a λa=>aV g (a (ab (ab (ab b 122 e) 122 f) 122 g) c d) (aj (b 12) λh=>B (aA .eql h (.Z 15)) λh=>a (ab (ab (ab (ab b 122 e) 122 f) 122 g) 122 h) c d))))) λa=>aV e (a (ab b 112 e) c d) (aj (b 12) λf=>B (aA .eql f (.Z 11)) λf=>a (ab (ab b 112 e) 112 f) c d))) λa=>aV e (a (ab b 92 e) c d) (aj (b 12) λf=>B (aA .eql f (.Z 17)) λf=>aQ a λa=>aV f (a (ab (ab b 92 e) 92 f) c d) (aj (b 12) λg=>B (aA .eql g (.Z 18)) λg=>a (ab (ab (ab b 92 e) 92 f) 92 g) c d)))) λa=>aV i (a (ab (ab b 61 e) 77 i) c d) (aj (b 12) λf=>B (aA .eql f (.Z 8)) λf=>aQ a λa=>aV f (a (ab (ab (ab b 61 e) 77 i) 77 f) c d) (aj (b 12) λg=>B (aA .eql g (.Z 9)) λg=>aQ a λa=>aV g (a (ab (ab (ab (ab b 61 e) 77 i) 77 f) 77 g) c d) (aj (b 12) λh=>B (aA .eql h (.Z 21)) λh=>aQ a λa=>aV h (a (ab (ab (ab (ab (ab b 61 e) 77 i) 77 f) 77 g) 77 h) c d) (aj (b 12) λj=>B (aA .eql j (.Z 22)) λj=>a (ab (ab (ab (ab (ab (ab b 61 e) 77 i) 77 f) 77 g) 77 h) 77 j) c d))))))) λa=>aV e (a (ab b 45 e) c d) (aj (b 12) λf=>B (aA .eql f (.Z 19)) λf=>aQ a λa=>aV f (a (ab (ab b 45 e) 45 f) c d) (aj (b 12) λg=>B (aA .eql g (.Z 20)) λg=>a (ab (ab (ab b 45 e) 45 f) 45 g) c d)))) λa=>aV m (a (ab (ab (ab (ab (ab (ab (ab (cP [b,c,d]) 6 .aT) 7 (.bool false)) 8 (.func (.func 210) [] [])) 12 i) 13 k) 23 l) 35 m) e f) (B (aA .eql i (.Z 5)) λg=>a (ab (ab (ab (ab (ab (ab (ab (ab (cP [b,c,d]) 6 .aT) 7 (.bool false)) 8 (.func (.func 210) [] [])) 12 i) 13 k) 23 l) 35 m) 35 g) e f)))
def agr:db X 184 [a0,bd,cg] h j ah aw=Uo X a0 bd cg h j ah aw:=Zk
def agq:cS X 184 3=true:=Zk
def UJ(a:aW)(b c:H)(d:S ak)(e:Nat)(f _:bG):Prop:=
 ia a d e b λb d e=>B (b6 a d 3 b) λb=>B (ft 1 [(.bool false),(.bool false),(.Z 0)] [(0,3,b)] e) λb=>cO a d e b.1 b.2 λa b d=>f (.tuple [a,c]) b d
def ag9:db X 210 [a0,bd] h j ah aw=UJ X a0 bd h j ah aw:=Zk
def ag8:cS X 210 2=true:=Zk
def UK(a:aW)(b:H)(c:S ak)(d:Nat)(e f:bG):Prop:=
 ia a c d b λb c d=>B (am a c b) λg=>aR a 80 [g,(.func (.func 234) [] [b])] c d (λa b c=>B (fz .not a) λa=>e a b c) f
def ahb:db X 211 [a0] h j ah aw=UK X a0 h j ah aw:=Zk
def aha:cS X 211 1=true:=Zk
def UL(a:aW)(b c d:H)(e:S ak)(f:Nat)(g h:bG):Prop:=
 eZ (f+14) λf=>B (cf b) λi=>B (aZ 1 i) λi=>B (am a e i) λi=>B (cf c) λc=>B (aZ 2 c) λc=>B (am a e c) λc=>aR a 79 [i,c] e f (λc e f=>B (cN 0 c) λi=>B (cN 1 c) λ_=>B (cf b) λb=>B (aZ 1 b) λb=>B (am a e b) λb=>B (cf b) λb=>B (aZ 0 b) λb=>B (am a e b) λb=>B (dC 6 b i) λb=>B (b6 a e 6 b) λb=>B (dA [(.str []),(.Z 0), .aT, .aT, .aT, .aT] f) λc=>cO a e f c.1 c.2 λc e f=>B (b7 a e 6 c b) λb=>eZ (f+12) λe=>B (aZ 3 c) λf=>B (am a b f) λf=>B (aZ 2 c) λc=>B (am a b c) λi=>ih a (.func (.func 235) [] []) [f] b e (λb e f=>B (am a e c) λc=>gI c (some i) (ih a (.func (.func 235) [] []) [i] e f (λc e f=>aR a 47 [c,d] e f (λa c d=>g (.tuple [b,a]) c d) h) h)) h) h
def ahd:db X 212 [a0,bd,cg] h j ah aw=UL X a0 bd cg h j ah aw:=Zk
def ahc:cS X 212 3=true:=Zk
def UX(a:aW)(b c:H)(d:S ak)(e:Nat)(f _:bG):Prop:=
 ia a d e b λb d e=>eZ (e+6) λe=>B (b6 a d 3 b) λb=>B (am a d c) λc=>B (dC 3 c (.Z 0)) λc=>B (b6 a d 3 c) λc=>B (dj a d .neq 41 false b c) λa=>f a d e
def ahB:db X 234 [a0,bd] h j ah aw=UX X a0 bd h j ah aw:=Zk
def ahA:cS X 234 2=true:=Zk
def UY(a:aW)(b:H)(c:S ak)(d:Nat)(e _:bG):Prop:=
 B (d8 b) λf=>aQ (λa b c=>aj (a 3) λa=>e a b c) λe=>fj (λb c d f=>aj (c 8) λg=>aj (c 7) λh=>B (aA .lss g h) λg=>aQ (λc d e=>aQ (λa c d=>aj (a 8) λe=>B (aA .add e (.Z 1)) λe=>b (ab a 8 e) c d) λb=>aj (c 6) λf=>aj (c 8) λg=>B (dC 8 f g) λf=>B (b6 a d 8 f) λf=>B (dA [(.str []),(.Z 0),(.bool false),(.bool false),(.Z 0),(.str []),(.Z 0),(.bool false)] e) λg=>cO a d e g.1 g.2 λd e g=>B (b7 a e 8 d f) λe=>aj (c 3) λf=>B (aZ 2 d) λh=>B (b6 a e 3 h) λh=>B (ft 1 [(.bool false),(.bool false),(.Z 0)] [(0,3,h)] g) λh=>cO a e g h.1 h.2 λe g h=>gO (iQ a g h 3 f e) g h λa e f=>b (ab (ab c 5 d) 3 a) e f) λa=>aV g (a (ab c 9 g) d f) (e (ab c 9 g) d f)) (ab (ab (ab (ab (ab (cP [b]) 2 .aT) 3 .aT) 6 b) 7 f) 8 (.Z 0)) c d
def ahD:db X 235 [a0] h j ah aw=UY X a0 h j ah aw:=Zk
def ahC:cS X 235 1=true:=Zk
end
end Go.Proofs.YtpfajohmofnkfaaGreatDoor

namespace Go.Proofs.YtpfajohmofnkfaaGreatDoor
open Go.bg Go.a2
noncomputable section
section
variable{X:ck}{h T aX aJ:S ak}{j ao aL a6:Nat}{P:Nat->Prop}
def mQ(X:ck)(h:S ak)(P:Nat->Prop)(a8:H)(l:List es):Prop:=∃b,d5 X h P b a8 3 (l.map eC)
def mQ.ac{bs:Nat->Prop}{a8:H}{l:List es}(a:mQ X h P a8 l)(D:∀e,P e->aa X T e=aa X h e)(aB:∀e,P e->bs e):mQ X T bs a8 l:=by
 obtain⟨b,a⟩:=a
 exact⟨b,(a.ac D).lift aB⟩
def Xi(X:ck):List Field:=match (q X).P.underlying 41 with|some (.struct jx)=>jx.toList|_=>[]
def ak2(eq:Nat->H->H->Option Bool)(J b c fR dR fZ:H):B6 X eq (Xi X) [J,b,c] [fR,dR,fZ]=(match eq 4 J fR with|some true=>(match eq 4 b dR with|some true=>(match eq 3 c fZ with|some true=>some true|some false=>some false|none=>none)|some false=>some false|none=>none)|some false=>some false|none=>none):=Zk
def akY(cm nB:List H):jX X h 50 41 (.agg cm) (.agg nB)=B6 X (jX X h 49) (Xi X) cm nB:=Zk
def WU(J b:Bool):jX X h 49 4 (.bool J) (.bool b)=some (EE J b):=Zk
def alf(J b:Int):jX X h 49 3 (.Z J) (.Z b)=some (ts J b):=Zk
def V9(J b:Bool):EE J b=decide (J=b):=by cases J<;>cases b<;>rfl
def ald(J b:es):jX X h 50 41 (.agg (eC J)) (.agg (eC b))=some (decide (J=b)):=by
 obtain⟨bd,cg,a3⟩:=J
 obtain⟨cZ,dO,ei⟩:=b
 simp only[eC]
 rw[akY,ak2,WU,WU,alf,V9,V9,Bc]
 by_cases R:bd=cZ<;>by_cases U:cg=dO<;>by_cases ar:a3=ei<;>simp[R,U,ar]
def acG(J b:es):dj X h .neq 41 false (.agg (eC J)) (.agg (eC b))=some (.bool (!decide (J=b))):=by
 have a:dj X h .neq 41 false (.agg (eC J)) (.agg (eC b))=(match jX X h 50 41 (.agg (eC J)) (.agg (eC b))with|some b=>nL (!b)|none=>none):=Zk
 rw[a,ald]
 cases decide (J=b)<;>rfl
def Jn{b W:Nat}{c:S H}{n:Nat}{st:nE}{t:es}(ai:aa X h b=some (.cells c n st))(a:c.ku W 3=some (eC t)):b6 X h 3 (.ptr b W)=some (.agg (eC t)):=by
 rw[so,ai];simp only[a,ZS]
structure xF(X:ck)(h:S ak)(P:Nat->Prop)(a8:H)(l:List es):Prop where
 len:d8 a8=some (.Z (l.length:Int))
 many:l.length<=300000
 gi:∀(i:Nat) t,l[i]? =some t->∃b W,dC 3 a8 (.Z (i:Int))=some (.ptr b W)/\P b/\b6 X h 3 (.ptr b W)=some (.agg (eC t))/\am X h (.ptr b W)=some (.bool t.b)
def xF.ac{bs:Nat->Prop}{a8:H}{l:List es}(a:xF X h P a8 l)(D:∀e,P e->aa X T e=aa X h e)(aB:∀e,P e->bs e):xF X T bs a8 l:=
 ⟨a.len,a.many,λi t aM=>by
  obtain⟨b,W,R,U,ar,aO⟩:=a.gi i t aM
  exact⟨b,W,R,aB b U,by rw[so,D b U, <-so];exact ar,by rw[cA,D b U, <-cA];exact aO⟩⟩
def mQ.rd{a8:H}{l:List es}(a:mQ X h P a8 l):xF X h P a8 l:=by
 obtain⟨b,a⟩:=a
 have aB:=a.len
 have bp:=a.many
 rw[Zp]at aB bp
 refine⟨aB,bp,λi t aM=> ?_⟩
 have lk:=(Zc.1 aM).1
 have Z:(l.map eC)[i]? =some (eC t):=by rw[Zx,aM];rfl
 refine⟨b,i*3,a.gi i (by rw[Zp];omega),a.ai (λF=>by rw[F]at Z;cases Z),a.row Zd Z, ?_⟩
 exact a.cell i (eC t) 0 _ Z rfl
def asS(ax:dv X){J b:es}{l:List es}{a8:H}{c:Nat}(aK:(q X).a7<=j)(az:c<j)(iJ:am X h (.ptr c 0)=some a8)(be:xF X h P a8 (b::l))(bu:∀e,P e->e<j):
 aR X 234 [.agg (eC J), .ptr c 0] h j (λad T ao=>ad= .bool (!decide (J=b))/\bj X h j T ao) (λ_ _ _=>False):=by
 refine c4 (ahA X) (ax.none _ _ rfl) ?_
 rw[ahB]
 unfold UX
 obtain⟨cL,W,d2,nj,uJ,_⟩:=be.gi 0 b rfl
 have d2:dC 3 a8 (.Z 0)=some (.ptr cL W):=d2
 refine rR ?_
 generalize en:bm X h j _=aX
 have b3:b6 X aX 3 (.ptr j 0)=some (.agg (eC J)):=by rw[<-en];exact Jn (bh aK) (by cases J;rfl)
 have bU:bj X h j aX (j+1):=by rw[<-en];exact dM
 clear en
 have aF:=λe (I:P e)=>bU.ac e (bu e I)
 have ig:b6 X aX 3 (.ptr cL W)=some (.agg (eC b)):=by rw[so,aF cL nj, <-so];exact uJ
 have an2:am X aX (.ptr c 0)=some a8:=by rw[cA,bU.ac c az, <-cA];exact iJ
 refine f7 @b3 @an2 @d2 @ig @acG ⟨?_⟩
 exact⟨rfl,bU.more Zo⟩
def asT(b:es)(l:List es):su (b::l)=(b::l).all (λJ=>decide (J=b)):=rfl
def aqr(ax:dv X){b:es}{l:List es}{a8:H}{c:Nat}(aK:(q X).a7<=j)(az:c<j)(iJ:am X h (.ptr c 0)=some a8)(be:xF X h P a8 (b::l))(bu:∀e,P e->e<j):
 aR X 135 [a8, .func (.func 234) [] [.ptr c 0]] h j (λad T ao=>(∃D:Int,ad= .Z D/\decide (0<=D)= !su (b::l))/\bj X h j T ao) (λ_ _ _=>False):=by
 refine c4 (afx X) (ax.none _ _ rfl) ?_
 rw[afy]
 unfold TS
 have ec:=be.len
 have hp:=be.many
 rw[asT]
 generalize f0:b::l=L at*
 refine ci @ec ⟨?_⟩
 refine fD (λm K T aS=>∃(Y:Nat),K.g 0=some a8/\K.g 1=some (.func (.func 234) [] [.ptr c 0])/\K.g 7=some (.Z (L.length:Int))/\K.g 8=some (.Z (Y:Int))/\Y+m=L.length/\bj X h j T aS/\L.all (λJ=>decide (J=b))=(L.drop Y).all (λJ=>decide (J=b)))
  L.length ⟨0,bn,bn,bn,fN,Zo,bj.refl _ _,rfl⟩ ?_
 rintro m K aJ a6 ⟨Y,t0,t1,gu,gZ,bH,bE,ce⟩
 have f2:=bE.le
 cases m with
 |zero=>
  have d:decide ((Y:Int)<(L.length:Int))=false:=by simp only[Zb];omega
  rw[ZE Zo]at ce
  refine eu @gZ @gu @d ⟨?_⟩
  exact⟨⟨-1,rfl,by rw[ce];rfl⟩,bE⟩
 |succ m=>
  have d:decide ((Y:Int)<(L.length:Int))=true:=by simp only[Zg];omega
  have bB:aA .add (.Z (Y:Int)) (.Z 1)=some (.Z ((Y+1:Nat):Int)):=by rw[eI Zo Zo];rfl
  obtain⟨g,b0⟩:∃g,L[Y]? =some g:=⟨_,Ze Zo⟩
  have aH:L.drop Y=g::L.drop (Y+1):=by
   obtain⟨ag,I⟩:=Zc.1 b0
   rw[Zr ag,I]
  have aF:=λe (I:P e)=>bE.ac e (bu e I)
  obtain⟨cL,W,d2,nj,ig,_⟩:=(be.ac (bs:=P) aF (λ_ a=>a)).gi Y g b0
  have Qq:am X aJ (.ptr c 0)=some a8:=by rw[cA,bE.ac c az, <-cA];exact iJ
  rw[aH,List.all_cons]at ce
  refine ev @gZ @gu @t1 @t0 @d @d2 @ig ⟨?_⟩
  refine(asS ax (b:=b) (l:=l) (a8:=a8) Zo Zo Qq (by rw[f0];exact be.ac (bs:=P) aF (λ_ a=>a)) (λe I=>by have:=bu e I;omega)).Zm ?_
  rintro ad aY ba ⟨rfl,ca⟩
  by_cases iy:g=b
  ·have cJ:(!decide (g=b))=false:=by simp[iy]
   have eT:decide (g=b)=true:=by simp[iy]
   rw[eT,ze]at ce
   rw[cJ]
   refine cM @gZ @bB ⟨?_⟩
   exact⟨m,Zo,Y+1,a1 t0,a1 t1,a1 gu,bn,Zo,bE.trans ca,ce⟩
  ·have cJ:(!decide (g=b))=true:=by simp[iy]
   have eT:decide (g=b)=false:=by simp[iy]
   rw[eT,Bool.false_and]at ce
   rw[cJ]
   refine cH ⟨?_⟩
   exact⟨⟨Y,rfl,by rw[ce];simp⟩,bE.trans ca⟩
def aj9(ax:dv X){b:es}{l:List es}{a8:H}{c:Nat}(aK:(q X).a7<=j)(az:c<j)(iJ:am X h (.ptr c 0)=some a8)(be:xF X h P a8 (b::l))(bu:∀e,P e->e<j):
 aR X 80 [a8, .func (.func 234) [] [.ptr c 0]] h j (λad T ao=>ad= .bool (!su (b::l))/\bj X h j T ao) (λ_ _ _=>False):=by
 refine c4 (aio X) (ax.none _ _ rfl) ?_
 rw[aip]
 unfold Vo
 refine(aqr ax aK az iJ be bu).Zm ?_
 rintro ad T aS ⟨⟨D,rfl,aF⟩,bS⟩
 refine cH ⟨?_⟩
 exact⟨by rw[aF],bS⟩
def Gq(ax:dv X){b:es}{l:List es}{a8:H}(aK:(q X).a7<=j)(j7:a8.cells=[a8])(be:xF X h P a8 (b::l))(bu:∀e,P e->e<j):
 aR X 211 [a8] h j (λad T ao=>ad= .bool (su (b::l))/\bj X h j T ao) (λ_ _ _=>False):=by
 refine c4 (aha X) (ax.none _ _ rfl) ?_
 rw[ahb]
 unfold UK
 refine rR ?_
 rw[j7]
 generalize en:bm X h j _=aX
 have b3:am X aX (.ptr j 0)=some a8:=by rw[<-en,bJ (bh aK)];rfl
 have bU:bj X h j aX (j+1):=by rw[<-en];exact dM
 clear en
 have aF:=λe (I:P e)=>bU.ac e (bu e I)
 refine ci @b3 ⟨?_⟩
 refine(aj9 ax Zo Zo b3 (be.ac (bs:=P) aF (λ_ a=>a)) (λe I=>by have:=bu e I;omega)).Zm ?_
 rintro ad aJ a6 ⟨rfl,bE⟩
 refine cH ⟨?_⟩
 exact⟨Zs,bU.trans bE⟩
def JE(ax:dv X){t:bx->Option fQ}{bY:Nat}{cY:H}(aK:(q X).a7<=j)(kw:bY<j)(az:am X h (.ptr bY 2)=some cY)(be:rL X h P cY t)(bu:∀e,P e->e<j)(w:bx):
 aR X 129 [.ptr bY 0, .str w] h j (λad T ao=>ad= .agg (eC (o4 t w))/\bj X h j T ao) (λ_ _ _=>False):=by
 refine c4 (afl X) (ax.none _ _ rfl) ?_
 rw[afm]
 unfold TM
 refine pm ?_
 generalize en:bm X h j _=aX
 have b3:aa X aX j=some (.cells (S.ofList [.bool false, .bool false, .Z 0] 0 .nil) 3 .own):=by rw[<-en,bh aK];rfl
 have bU:bj X h j aX (j+1):=by rw[<-en];exact dM
 clear en
 have aF:=λe (I:P e)=>bU.ac e (bu e I)
 have th:am X aX (.ptr bY 2)=some cY:=by rw[cA,bU.ac bY kw, <-cA];exact az
 refine ci @th ⟨?_⟩
 refine(Lo ax Zo (be.ac (bs:=P) aF (λ_ a=>a)) (λe I=>by have:=bu e I;omega) w).Zm ?_
 rintro ad aJ a6 ⟨rfl,bE⟩
 have f2:=bE.le
 unfold o4
 generalize (t w).getD tL=v at*
 have sg:pd v=[.Z v.kind, .str v.d.name, .Z v.d.at_, .bool v.d.ty.b, .bool v.d.ty.s, .Z v.d.ty.w, .str v.d.on, .Z v.d.fJ, .bool v.d.no, .Z v.eq, .Z v.left]:=rfl
 rw[sg]
 have b2:aa X aJ j=some (.cells (S.ofList [.bool false, .bool false, .Z 0] 0 .nil) 3 .own):=by rw[bE.ac _ Zo];exact b3
 have jy:=bU.trans bE
 refine cH ⟨?_⟩
 generalize fd:bm X _ a6 _=aY
 have cQ:aa X aY a6=some (.cells (S.ofList [.Z v.kind, .str v.d.name, .Z v.d.at_, .bool v.d.ty.b, .bool v.d.ty.s, .Z v.d.ty.w, .str v.d.on, .Z v.d.fJ, .bool v.d.no, .Z v.eq, .Z v.left] 0 .nil) 11 .own):=by rw[<-fd,bh Zo];rfl
 have ee:aa X aY j=some (.cells (S.ofList [.bool false, .bool false, .Z 0] 0 .nil) 3 .own):=by rw[<-fd];simp(disch:=omega) only[aE];exact b2
 have ca:bj X h j aY (a6+1):=⟨Zo,λe I=>by rw[<-fd];simp(disch:=omega) only[aE];exact jy.ac e I⟩
 clear fd
 have aB:b6 X aY 3 (.ptr a6 3)=some (.agg (eC v.d.ty)):=Jn cQ rfl
 refine ci @aB ⟨?_⟩
 generalize fi:bm X _ j _=bw
 have aaE:b6 X bw 3 (.ptr j 0)=some (.agg (eC v.d.ty)):=by rw[<-fi];exact Jn (bh aK) rfl
 have dm:bj X h j bw (a6+1):=⟨Zo,λe I=>by rw[<-fi];simp(disch:=omega) only[aE];exact ca.ac e I⟩
 clear fi
 refine ci @aaE ⟨?_⟩
 exact⟨rfl,dm⟩
def HM(ax:dv X)(aK:(q X).a7<=j)(J:Int){ah:bG}:
 aR X 130 [.Z J] h j ah (λad T ao=>ad=oz 26 J/\bj X h j T ao):=by
 refine c4 (afn X) (ax.none _ _ rfl) ?_
 rw[afo]
 unfold TN
 refine cH ⟨?_⟩
 exact⟨⟨rfl,dM⟩⟩
end
section
variable{X:ck}{h T aX aJ:S ak}{j ao aL a6:Nat}{P:Nat->Prop}
def pc(l:List es):List (List H):=l.map eC
def Kb(l:List es):∀r∈pc l,r.length=3:=by
 intro r Z
 obtain⟨t,_,rfl⟩:=ZW.1 Z
 rfl
def aee(l:List es):(pc l).flatten.length=l.length*3:=by
 rw[wy (Kb l)];simp[pc]
def asU(t:es):jD (eC t)=true:=rfl
def S8{s:H}{l:List es}{cK:List Nat}{t:es}{cL:Nat}{st:nE}(a:gD X h s 3 (pc l).flatten cK)(ai:aa X h cL=some (.cells (S.ofList (eC t) 0 .nil) 3 st))(bp:l.length<=300000)(aK:(q X).a7<=j)(c2:∀e∈cK,e<j)(cap:Nat):
 ∃fs T gw,iQ X h j 3 s (.slice cL 0 1 cap)=some (.fv fs T (j+1))/\gD X T fs 3 (pc (l++[t])).flatten gw/\(∀e∈gw,e=j\/e∈cK)/\∀e,e≠j->e∉cK->aa X T e=aa X h e:=by
 have f0:=aee l
 obtain⟨fs,T,gw,R,U,ar,aO⟩:=a.append (j:=j) Zd (rs (D:=1) ai (n4 _) rfl cap) rfl Zd (asU t) (by rw[f0];simp[eC];omega) aK c2
 refine⟨fs,T,gw,R, .inl ?_,ar,aO⟩
 have:(pc (l++[t])).flatten=(pc l).flatten++eC t:=by simp[pc]
 rw[this];exact U
def aed(ax:dv X){ds:List fP}{a8:H}{b:Nat}(aK:(q X).a7<=j)(cz:d5 X h P b a8 8 (ds.map eW))(bu:∀e,P e->e<j)(bp:ds.length<=100000):
 aR X 235 [a8] h j (λad T ao=>(ad.cells=[ad]/\mQ X T (dy j ao) ad (ds.map (·.ty)))/\bj X h j T ao) (λ_ _ _=>False):=by
 refine c4 (ahC X) (ax.none _ _ rfl) ?_
 rw[ahD]
 unfold UY
 have ec:=cz.len
 rw[Zp]at ec
 refine ci @ec ⟨?_⟩
 refine fD (λm K T aS=>∃(Y:Nat) (s:H) (cK:List Nat),K.g 3=some s/\K.g 6=some a8/\K.g 7=some (.Z (ds.length:Int))/\K.g 8=some (.Z (Y:Int))/\Y+m=ds.length/\bj X h j T aS/\gD X T s 3 (pc ((ds.take Y).map (·.ty))).flatten cK/\∀e∈cK,j<=e/\e<aS)
  ds.length ⟨0, .aT,[],bn,bn,bn,fN,Zo,bj.refl _ _, .inl (.inl ⟨rfl,rfl,rfl⟩),Zs⟩ ?_
 rintro m K aJ a6 ⟨Y,s,cK,t3,f3,gu,gZ,bH,bE,aI,e9⟩
 have f2:=bE.le
 cases m with
 |zero=>
  have d:decide ((Y:Int)<(ds.length:Int))=false:=by simp only[Zb];omega
  rw[Zy Zo]at aI
  refine gp @gZ @gu @d @t3 ⟨?_⟩
  obtain⟨bB,cF,fp⟩:=gD.one aI
  obtain⟨dR,cD⟩:=aI.tG (P:=dy j a6) Zd (Kb _) (by simp[pc];omega) e9
  exact⟨⟨bB,dR,cD⟩,bE⟩
 |succ m=>
  have d:decide ((Y:Int)<(ds.length:Int))=true:=by simp only[Zg];omega
  have bB:aA .add (.Z (Y:Int)) (.Z 1)=some (.Z ((Y+1:Nat):Int)):=by rw[eI Zo Zo];rfl
  obtain⟨g,b0⟩:∃g,ds[Y]? =some g:=⟨_,Ze Zo⟩
  have aF:=λe (I:P e)=>bE.ac e (bu e I)
  have d2:=cz.gi Y (by rw[Zp];omega)
  have ig:=(cz.ac aF).row Zd (i:=Y) (r:=eW g) (by rw[Zx,b0];rfl)
  have oN:ds.take (Y+1)=ds.take Y++[g]:=by rw[ZY,b0];rfl
  refine hQ @gZ @gu @f3 @d @d2 @ig ⟨?_⟩
  generalize fd:bm X _ a6 _=aY
  have cQ:aa X aY a6=some (.cells (S.ofList (eW g) 0 .nil) 8 .own):=by rw[<-fd,bh Zo];rfl
  have c0:∀e,e<a6->aa X aY e=aa X aJ e:=λe I=>by rw[<-fd];simp(disch:=omega) only[aE]
  clear fd
  have aB:b6 X aY 3 (.ptr a6 2)=some (.agg (eC g.ty)):=Jn cQ rfl
  refine eu @t3 @aB eC.eq_1 ⟨?_⟩
  generalize fi:bm X aY _ _=bw
  have d1:aa X bw (a6+1)=some (.cells (S.ofList (eC g.ty) 0 .nil) 3 .own):=by rw[<-fi,bh Zo];rfl
  have ep:∀e,e<a6->aa X bw e=aa X aJ e:=λe I=>by rw[<-fi,aE Zo Zo];exact c0 e I
  clear fi
  obtain⟨fs,bL,gw,ic,yv,uu,lK⟩:=S8 (j:=a6+1+1) (aI.ac (T:=bw) (λe I=>ep e (e9 e I).2)) d1 (by rw[Zp,zc];omega) Zo (λe I=>by have:=e9 e I;omega) 1
  refine kG ic ?_
  refine cM @gZ @bB ⟨?_⟩
  refine⟨m,Zo,Y+1,fs,gw,bn,a1 f3,a1 gu,bn,Zo,⟨Zo,λe I=> ?_⟩, ?_,λe I=> ?_⟩
  ·rw[lK e Zo (λa=>by have:=e9 e a;omega),ep e Zo];exact bE.ac e I
  ·rw[oN,Yv];exact yv
  ·rcases uu e I with rfl|a
   ·omega
   ·have:=e9 e a;omega
end
end
end Go.Proofs.YtpfajohmofnkfaaGreatDoor

namespace Go.Proofs.YtpfajohmofnkfaaGreatDoor
open Go.bg
noncomputable section
variable (X : ck) (h : S ak) (j : Nat) (ah aw : bG) (a0 bd cg a3 a4 a5 hz h0 hA : H)
def Vb(a:aW)(b c:H)(d:S ak)(e:Nat)(f _:bG):Prop:=
 B (d8 b) λg=>B (d8 c) λh=>B (aA .neq g h) λg=>aQ (λb c d=>aj (b 0) λe=>B (d8 e) λe=>aQ (λ_ a b=>f (.bool true) a b) λg=>fj (λb c d e=>aj (c 13) λh=>aj (c 12) λi=>B (aA .lss h i) λh=>aQ (λc d e=>aQ (λa c d=>aj (a 13) λe=>B (aA .add e (.Z 1)) λe=>b (ab a 13 e) c d) λb=>aj (c 13) λg=>eZ (e+9) λe=>aj (c 0) λh=>B (dC 3 h g) λh=>B (b6 a d 3 h) λh=>aj (c 1) λi=>B (dC 3 i g) λi=>B (b6 a d 3 i) λi=>B (dj a d .neq 41 false h i) λa=>aQ b λb=>aV a (f (.bool false) d e) (b (ab (ab c 5 g) 24 a) d e)) λa=>aV h (a (ab c 14 h) d e) (g (ab c 14 h) d e)) (ab (ab b 12 e) 13 (.Z 0)) c d) λa=>aV g (f (.bool false) d e) (a (ab (ab (cP [b,c]) 4 (.bool false)) 10 g) d e)
def ah3:db X 47 [a0,bd] h j ah aw=Vb X a0 bd h j ah aw:=Zk
def ah2:cS X 47 2=true:=Zk
end
end Go.Proofs.YtpfajohmofnkfaaGreatDoor

namespace Go.Proofs.YtpfajohmofnkfaaGreatDoor
open Go.bg Go.a2
noncomputable section
section
variable{X:ck}{h T aX aJ:S ak}{j ao aL a6:Nat}{P:Nat->Prop}
def WX(ax:dv X){dD bi:List es}{mf JY:H}(aK:(q X).a7<=j)(aC:mQ X h P mf dD)(ai:mQ X h P JY bi)(bu:∀e,P e->e<j):
 aR X 47 [mf,JY] h j (λad T ao=>ad= .bool (decide (dD=bi))/\bj X h j T ao) (λ_ _ _=>False):=by
 refine c4 (ah2 X) (ax.none _ _ rfl) ?_
 rw[ah3]
 unfold Vb
 obtain⟨cZ,Mu⟩:=aC
 obtain⟨dO,IS⟩:=ai
 have Iz:=Mu.len
 have uI:=IS.len
 have aoQ:=Mu.many
 rw[Zp]at Iz uI aoQ
 by_cases aB:dD.length=bi.length
 ·have d:decide ((dD.length:Int)≠(bi.length:Int))=false:=by simp[aB]
  refine eu @Iz @uI @d ⟨?_⟩
  refine fD (λm K T aS=>∃(Y:Nat),K.g 0=some mf/\K.g 1=some JY/\K.g 12=some (.Z (dD.length:Int))/\K.g 13=some (.Z (Y:Int))/\Y+m=dD.length/\bj X h j T aS/\decide (dD=bi)=decide (dD.drop Y=bi.drop Y))
   dD.length ⟨0,bn,bn,bn,fN,Zo,bj.refl _ _,rfl⟩ ?_
  rintro m K aJ a6 ⟨Y,t0,t1,ke,i2,bH,bE,ce⟩
  have f2:=bE.le
  cases m with
  |zero=>
   have d:decide ((Y:Int)<(dD.length:Int))=false:=by simp only[Zb];omega
   rw[ZE Zo,ZE Zo]at ce
   refine eu @ke @i2 @d ⟨?_⟩
   exact⟨by rw[ce];rfl,bE⟩
  |succ m=>
   have d:decide ((Y:Int)<(dD.length:Int))=true:=by simp only[Zg];omega
   have bB:aA .add (.Z (Y:Int)) (.Z 1)=some (.Z ((Y+1:Nat):Int)):=by rw[eI Zo Zo];rfl
   obtain⟨g,b0⟩:∃g,dD[Y]? =some g:=⟨_,Ze Zo⟩
   obtain⟨a,gb⟩:∃a,bi[Y]? =some a:=⟨_,Ze Zo⟩
   have AQ:dD.drop Y=g::dD.drop (Y+1):=by
    obtain⟨ag,I⟩:=Zc.1 b0
    rw[Zr ag,I]
   have l3:bi.drop Y=a::bi.drop (Y+1):=by
    obtain⟨ag,I⟩:=Zc.1 gb
    rw[Zr ag,I]
   have aF:=λe (I:P e)=>bE.ac e (bu e I)
   have d2:=Mu.gi Y (by rw[Zp];omega)
   have oG:=IS.gi Y (by rw[Zp];omega)
   have ig:=(Mu.ac aF).row Zd (i:=Y) (r:=eC g) (by rw[Zx,b0];rfl)
   have IW:=(IS.ac aF).row Zd (i:=Y) (r:=eC a) (by rw[Zx,gb];rfl)
   rw[AQ,l3]at ce
   have Gm:=acG (X:=X) (h:=aJ) g a
   refine ev @t0 @t1 @ke @i2 @d @d2 (Za @oG (Za @ig (Za @IW @Gm))) ⟨?_⟩
   by_cases QE:g=a
   ·subst QE
    have cJ:(!decide (g=g))=false:=by simp
    rw[cJ]
    refine cM @i2 @bB ⟨?_⟩
    exact⟨m,Zo,Y+1,a1 t0,a1 t1,a1 ke,bn,Zo,bE.more Zo,by rw[ce];simp⟩
   ·have cJ:(!decide (g=a))=true:=by simp[QE]
    rw[cJ]
    refine cH ⟨?_⟩
    exact⟨by rw[ce];simp[QE],bE.more Zo⟩
 ·have d:decide ((dD.length:Int)≠(bi.length:Int))=true:=by simp only[Zg];omega
  have dI:dD≠bi:=λF=>aB (by rw[F])
  refine eu @Iz @uI @d ⟨?_⟩
  exact⟨by simp[dI],bj.refl _ _⟩
def aup(ax:dv X)(aK:(q X).a7<=j)(t:es)(b:Bool):
 ih X (.func (.func 210) [] []) [.agg (eC t), .bool b] h j (λad T ao=>∃w,ad= .tuple [w, .bool b]/\w.cells=[w]/\mQ X T (dy j ao) w [t]/\bj X h j T ao) (λ_ _ _=>False):=by
 refine Bd ?_
 show aR X 210 [.agg (eC t), .bool b] h j _ _
 refine c4 (ag8 X) (ax.none _ _ rfl) ?_
 rw[ag9]
 unfold UJ
 refine rR ?_
 generalize en:bm X h j _=aX
 have b3:b6 X aX 3 (.ptr j 0)=some (.agg (eC t)):=by rw[<-en];exact Jn (bh aK) (by cases t;rfl)
 have bU:bj X h j aX (j+1):=by rw[<-en];exact dM
 clear en
 refine cM @b3 eC.eq_1 ⟨?_⟩
 generalize dE:bm X aX _ _=aJ
 have b2:aa X aJ (j+1)=some (.cells (S.ofList [eC t].flatten 0 .nil) (1*3) .own):=by rw[<-dE,bh Zo];rfl
 have bE:bj X h j aJ (j+1+1):=⟨Zo,λe I=>by rw[<-dE,aE Zo Zo];exact bU.ac e I⟩
 exact⟨_,rfl,rfl,⟨j+1,JR (bC:=[eC t]) b2 rfl (by simp[eC]) Zo ⟨Zo,Zo⟩⟩,bE⟩
structure Ed(X:ck)(h:S ak)(bY:Nat)(BP p cY:H):Prop where
 d7:am X h (.ptr bY 0)=some BP
 dk:am X h (.ptr bY 1)=some p
 dB:am X h (.ptr bY 2)=some cY
def Ed.ac{bY:Nat}{BP p cY:H}(a:Ed X h bY BP p cY)(D:aa X T bY=aa X h bY):Ed X T bY BP p cY:=by
 have aB:∀W,am X T (.ptr bY W)=am X h (.ptr bY W):=λW=>by rw[cA,cA,D]
 exact⟨by rw[aB];exact a.d7,by rw[aB];exact a.dk,by rw[aB];exact a.dB⟩
def alB{nm:bx}:∀(ap:List Go.a2.Node) (D Y:Nat),EU nm D ap=some Y->Y<D+ap.length:=by
 intro ap
 induction ap with
 |nil=>intro D Y a;cases a
 |cons g ap al=>
  intro D Y a
  unfold EU at a
  split at a
  ·cases a;simp
  ·have:=al _ _ a;simp;omega
def alD{ap:List Go.a2.Node}{nm:bx}(cj:ap≠[]):(rW ap nm).getD 0<ap.length:=by
 have:0<ap.length:=YP.2 cj
 cases a:rW ap nm with
 |none=>exact this
 |some Y=>have:=alB ap 0 Y a;simpa using this
def ajW(ax:dv X){ap:List Go.a2.Node}{bY:Nat}{BP p cY:H}(aK:(q X).a7<=j)(kw:bY<j)(az:Ed X h bY BP p cY)(b0:nD X h P ap p)(cj:ap≠[])(bu:∀e,P e->e<j)(bp:∀g∈ap,g.eQ.length<=100000/\g.out.length<=100000)
 {F:bz}{v:H}(bt:cI X h P F v){J:List es}{a8:H}(aC:mQ X h P a8 J):
 aR X 212 [.ptr bY 0,v,a8] h j (λad T ao=>∃w,ad= .tuple [w, .bool (Ht ap F.name J).2]/\w.cells=[w]/\mQ X T (dy j ao) w (Ht ap F.name J).1/\bj X h j T ao) (λ_ _ _=>False):=by
 refine c4 (ahc X) (ax.none _ _ rfl) ?_
 rw[ahd]
 unfold UL
 obtain⟨fS,_,_,_,rfl,aaa,_,_,akQ,_⟩:=bt.open
 have dk:=az.dk
 refine cM @dk @akQ ⟨?_⟩
 refine(Pw (j:=j+14) ax Zo b0 (λe I=>by have:=bu e I;omega) F.name).Zm ?_
 rintro ad aX aL ⟨rfl,bU⟩
 have jB:=bU.le
 have kY:=λe (I:P e)=>bU.ac e (by have:=bu e I;omega)
 have AU:=alD (nm:=F.name) cj
 unfold Ht
 generalize wV:(rW ap F.name).getD 0=D at*
 obtain⟨g,QF⟩:∃g,ap[D]? =some g:=⟨_,Ze AU⟩
 rw[QF]
 obtain⟨nW,l5⟩:=bp g (Zj QF)
 obtain⟨iC,yS,JJ,bC,rfl,nj,a0,cz,j6⟩:=b0
 have C0:=j6.wide
 obtain⟨row,fC,jj⟩:=j6.get D g QF
 have aaS:=jj.ac (bs:=P) kY (λ_ a=>a)
 have th:=(az.ac (bU.ac bY Zo)).dk
 have He:am X aX (.ptr iC 0)=some yS:=by rw[cA,bU.ac iC (by have:=bu iC nj;omega), <-cA];exact a0
 have d2:=cz.gi D (by rw[C0.1];omega)
 have ig:=(cz.ac kY).row Zd fC
 have fB:=jj.len
 have wZ:=aaS.jD
 obtain⟨dd,dz,adI,eV,cZ,dO,ei,h2,eqs,rfl,w3,jk,_⟩:=aaS
 refine gp @th @He @d2 @ig ⟨?_⟩
 refine fE (hO (D:=6) (b:=aL) (W:=0) (n:=6) (bh Zo) Zo rfl Zd Zd wZ) ?_
 refine cH ⟨?_⟩
 show aR X 235 [dz] _ _ _ _
 generalize dE:bm X _ aL _=aJ
 have b2:aa X aJ aL=some (.cells (S.ofList [.str g.name, .Z g.at_,dd,dz,adI,eV] 0 .nil) 6 .own):=by rw[<-dE,bh Zo];rfl
 have bE:bj X h j aJ (aL+1+12):=⟨Zo,λe I=>by rw[<-dE];simp(disch:=omega) only[aE];exact bU.ac e Zo⟩
 have jh:∀e,P e->aa X aJ e=aa X aX e:=λe I=>by rw[bE.ac e (bu e I),kY e I]
 clear dE
 refine(aed ax Zo (jk.ac jh) (λe I=>by have:=bu e I;omega) l5).Zm ?_
 rintro y4 aY ba ⟨⟨ap5,apY⟩,ca⟩
 have ie:=ca.le
 have cQ:aa X aY aL=some (.cells (S.ofList [.str g.name, .Z g.at_,dd,dz,adI,eV] 0 .nil) 6 .own):=by rw[ca.ac _ Zo];exact b2
 obtain⟨cB,cu,ee⟩:=ky w3.len
 refine ci (bJ cQ) ⟨?_⟩
 refine gQ ee ?_
 refine Bd ?_
 show aR X 235 [dd] _ _ _ _
 have nX:∀e,P e->aa X aY e=aa X aX e:=λe I=>by rw[ca.ac e (by have:=bu e I;omega),jh e I]
 refine(aed ax Zo (w3.ac nX) (λe I=>by have:=bu e I;omega) nW).Zm ?_
 rintro D6 bw c7 ⟨⟨ayd,apZ⟩,dm⟩
 have ji:=dm.le
 have f1:∀e,P e->aa X bw e=aa X h e:=λe I=>by rw[dm.ac e (by have:=bu e I;omega),nX e I,kY e I]
 have H2:=(bE.trans ((ca.kB Zo).trans dm))
 refine(WX (P:=λe=>e<c7) ax Zo (apZ.ac (λ_ _=>rfl) (λe I=>I.2)) (aC.ac f1 (λe I=>by have:=bu e I;omega)) (λe I=>I)).Zm ?_
 rintro D7 bL cb ⟨rfl,dw⟩
 have hV:=dw.le
 refine cH ⟨?_⟩
 refine⟨y4,rfl,ap5,apY.ac (λe I=> ?_) (λe I=>⟨by have:=I.1;omega,by have:=I.2;omega⟩),H2.trans dw⟩
 have:=I.2
 rw[dw.ac e Zo,dm.ac e Zo]
end
def jZ{p:Prop}[Decidable p](a:p):decide p=true:=decide_eq_true a
def jc{p:Prop}[Decidable p](a:¬p):decide p=false:=decide_eq_false a
def Lf(t:es):qV false 0 1 (.agg (eC t))=some (.bool t.b):=rfl
def sE(t:es):H.same 30 (.agg (eC t)) (.agg (eC t))=true:=by
 obtain⟨J,b,c⟩:=t
 have R:∀x:Bool,H.same 29 (.bool x) (.bool x)=true:=λx=>by cases x<;>rfl
 have U:H.same 29 (.Z c) (.Z c)=true:=by simp only[H.same];simp
 simp only[eC]
 rw[H.same]
 simp only[nw,R,U,Yc]
section
variable{X:ck}{h T aX aJ:S ak}{j ao aL a6:Nat}{P:Nat->Prop}
def BW(X:ck):Prop:=∀h,b6 X h 3 (.ptr 4 0)=some (.agg (eC GS))
def Vs(X:ck)(h:S ak)(j:Nat)(r:List es×Bool):bG:=λad T ao=>∃w,ad= .tuple [w, .bool r.2]/\w.cells=[w]/\mQ X T (dy j ao) w r.1/\bj X h j T ao
def oQ(ax:dv X)(aK:(q X).a7<=j)(bS:bj X h j aX aL){K:es}{bi:Bool}{r:List es×Bool}(Z:r=([K],bi)):
 aR X 210 [.agg (eC K), .bool bi] aX aL (λTc El asi=>B (cN 0 Tc) λav3=>B (cN 1 Tc) λav4=>Vs X h j r (.tuple [av3,av4]) El asi) (λ_ _ _=>False):=by
 subst Z
 have gr:=bS.le
 have a:=(aup (h:=aX) (j:=aL) ax Zo K bi).out
 refine a.Zm ?_
 rintro ad T aS ⟨w,rfl,bP,be,bE⟩
 refine cH ⟨?_⟩
 exact⟨w,rfl,bP,be.ac (λ_ _=>rfl) (λe I=>⟨by have:=I.1;omega,I.2⟩),bS.trans bE⟩
def xJ{F:bz}{J:List es}(bP:Eg lf F)(l2:J.length=F.args.length){m:Nat}(a:rO F.kind=some (m+1)):∃b l,J=b::l:=by
 have:=bP.tX _ a
 cases J with
 |nil=>simp at l2;omega
 |cons b l=>exact⟨b,l,rfl⟩
def avG{J:List es}{a8:H}{cK:List Nat}(a:gD X h a8 3 (pc J).flatten cK)(U:2<=J.length)(bp:J.length<=1000)(aB:∀e∈cK,P e):
 ∃kq,sG X h 3 a8 (some (.Z 1)) none none=some kq/\kq.cells=[kq]/\xF X h P kq J.tail:=by
 have f0:=aee J
 obtain⟨Ez,cz⟩:=a.tG (P:=P) Zd (Kb J) (by simp[pc];omega) aB
 have h5:=(show mQ X h P a8 J from⟨Ez,cz⟩).rd
 have d2:∀i t,J.tail[i]? =some t->∃b W,dC 3 a8 (.Z ((i+1:Nat):Int))=some (.ptr b W)/\P b/\b6 X h 3 (.ptr b W)=some (.agg (eC t))/\am X h (.ptr b W)=some (.bool t.b):=
  λi t aM=>h5.gi (i+1) t (by rw[<-aM];cases J<;>simp)
 have c2:∀i t,J.tail[i]? =some t->i<J.length-1:=λi t aM=>by have:=(Zc.1 aM).1;simpa using this
 have bB:m1 (.Z 1)=some 1:=rfl
 rcases a with (⟨_,a,_⟩|⟨b,fk,n,c,rfl,ar,rfl,aO,bN,cv,dP⟩)|⟨b,n,c,st,rfl,ar,rfl,aO,bN⟩
 ·rw[a]at f0;simp at f0;omega
 ·have aK:n=J.length:=Zo
  subst aK
  have ai:lY J.length ((J.length*3-0)/3) (some (.Z 1)) none none=some (1,J.length,J.length):=by
   have cB:(J.length*3-0)/3=J.length:=Zo
   rw[cB]
   have cu:Nat.ble 1 J.length=true:=lg Zo
   simp only[lY,oV,bB,cu,e2]
  refine⟨.fu b (0+1*3) (J.length-1) 3, ?_,rfl,⟨by rw[qo,List.length_tail],by simp;omega,λi t aM=> ?_⟩⟩
  ·simp only[sG,xm,cv,ai]
   have cB:(J.length*3-0)/3=J.length:=Zo
   rw[cB]
   have cu:Nat.blt 1 J.length=true:=by simp[Nat.blt];omega
   simp[cu,fo]
  ·obtain⟨cZ,gH,cB,cu,ee,fV⟩:=d2 i t aM
   have l5:=c2 i t aM
   rw[FV _ Zo]at cB
   cases cB
   refine⟨b,0+1*3+i*3,FV _ l5,cu, ?_, ?_⟩
   ·rw[show 0+1*3+i*3=0+(i+1)*3 by omega];exact ee
   ·rw[show 0+1*3+i*3=0+(i+1)*3 by omega];exact fV
 ·have aK:n=J.length:=Zo
  subst aK
  have ai:lY J.length J.length (some (.Z 1)) none none=some (1,J.length,J.length):=by
   have cu:Nat.ble 1 J.length=true:=lg Zo
   simp only[lY,oV,bB,cu,e2]
  refine⟨.slice b (0+1*3) (J.length-1) (J.length-1), ?_,rfl,⟨by rw[oW,List.length_tail],by simp;omega,λi t aM=> ?_⟩⟩
  ·simp only[sG,ai]
   have cu:¬J.length=1:=Zo
   simp[cu,hB]
  ·obtain⟨cZ,gH,cB,cu,ee,fV⟩:=d2 i t aM
   have l5:=c2 i t aM
   rw[FU _ Zo]at cB
   cases cB
   refine⟨b,0+1*3+i*3,FU _ l5,cu, ?_, ?_⟩
   ·rw[show 0+1*3+i*3=0+(i+1)*3 by omega];exact ee
   ·rw[show 0+1*3+i*3=0+(i+1)*3 by omega];exact fV
set_option maxRecDepth 100000 in
def aur(ax:dv X)(ek:BW X){ap:List Go.a2.Node}{t:bx->Option fQ}{bY:Nat}{BP p cY:H}(aK:(q X).a7<=j)(kw:bY<j)(az:Ed X h bY BP p cY)(be:rL X h P cY t)(b0:nD X h P ap p)(cj:ap≠[])(bu:∀e,P e->e<j)(bp:∀g∈ap,g.eQ.length<=100000/\g.out.length<=100000)
 {F:bz}{v:H}(bt:cI X h P F v)(bP:Eg lf F){J:List es}{a8:H}{cK:List Nat}(l2:J.length=F.args.length)(aC:gD X h a8 3 (pc J).flatten cK)(CV:J.length<=300000)(e9:∀e∈cK,P e):
 aR X 184 [.ptr bY 0,v,a8] h j (Vs X h j (k6 ap t F J)) (λ_ _ _=>False):=by
 obtain⟨Ez,cz⟩:=aC.tG (P:=P) Zd (Kb J) (by simp[pc];omega) e9
 have abm:mQ X h P a8 J:=⟨Ez,cz⟩
 have h5:=abm.rd
 obtain⟨j7,_,_⟩:=ky h5.len
 refine c4 (agq X) (ax.none _ _ rfl) ?_
 rw[agr]
 unfold Uo
 obtain⟨fS,_,_,_,rfl,aaa,a0,_,cg,_,a4,a5,hz,_⟩:=id bt.open
 have yx:b6 X h 3 (.ptr fS 4)=some (.agg (eC F.ty)):=by rw[qn,a4,a5,hz];rfl
 have bZ:=bP.bZ
 have cw:=bP.cw
 have XN:=ek h
 have ac:∀{T:S ak}{n aS:Nat},bj X h n T aS->j<=n->∀e,P e->aa X T e=aa X h e:=λa aK e I=>a.ac e (by have:=bu e I;omega)
 have w7:∀b l,J=b::l->∃cL W,dC 3 a8 (.Z 0)=some (.ptr cL W)/\P cL/\b6 X h 3 (.ptr cL W)=some (.agg (eC b))/\am X h (.ptr cL W)=some (.bool b.b):=λb l a=>h5.gi 0 b (by rw[a];rfl)
 have Bm:∀{T:S ak}{n aS cL W:Nat}{b:es},bj X h n T aS->j<=n->P cL->b6 X h 3 (.ptr cL W)=some (.agg (eC b))->am X h (.ptr cL W)=some (.bool b.b)->b6 X T 3 (.ptr cL W)=some (.agg (eC b))/\am X T (.ptr cL W)=some (.bool b.b):=
  λa aK ay cB cu=>⟨by rw[so,ac a aK _ ay, <-so];exact cB,by rw[cA,ac a aK _ ay, <-cA];exact cu⟩
 have an0:F.kind=1\/F.kind=2\/(F.kind=3\/F.kind=5)\/(F.kind=4\/F.kind=19\/F.kind=20)\/F.kind=6\/(F.kind=7\/F.kind=8\/F.kind=9\/F.kind=21\/F.kind=22)\/(F.kind=16\/F.kind=17\/F.kind=18)\/(F.kind=10\/F.kind=11)\/(F.kind=12\/F.kind=13\/F.kind=14\/F.kind=15)\/F.kind=23\/F.kind=24\/F.kind=26\/F.kind=25:=Zo
 rcases an0 with a|a|a|a|a|a|a|a|a|a|a|a|a
 ·refine gp @a0 @jZ @jc @yx ⟨?_⟩
  exact oQ ax aK (bj.refl _ _) (by unfold k6;rw[Zq a])
 ·refine gp @a0 @jZ @jc @cg ⟨?_⟩
  refine(JE ax aK kw az.dB be bu F.name).Zm ?_
  rintro ad aJ a6 ⟨rfl,bE⟩
  refine cH ⟨?_⟩
  exact oQ ax aK bE (by unfold k6;rw[Zh Zo,Zq a])
 ·rcases a with a|a
  all_goals
   obtain⟨b,l,rfl⟩:=xJ bP l2 (by rw[a];rfl)
   obtain⟨cL,W,eU,eP,i3,i4⟩:=w7 b l rfl
   refine f7 @a0 @jZ @jc @eU @i3 ⟨?_⟩
   exact oQ ax aK (bj.refl _ _) (by simp[k6,a])
 ·rcases a with a|a|a
  all_goals
   obtain⟨b,l,rfl⟩:=xJ bP l2 (by rw[a];rfl)
   obtain⟨cL,W,eU,eP,i3,i4⟩:=w7 b l rfl
   refine hQ @a0 @jZ @jc @eU @i3 @i4 ⟨?_⟩
   exact oQ ax aK ((bj.refl _ _).more Zo) (by simp[k6,a])
 ·obtain⟨b,l,rfl⟩:=xJ bP l2 (by rw[a];rfl)
  obtain⟨cL,W,eU,eP,i3,i4⟩:=w7 b l rfl
  refine hQ @a0 @jZ @jc @eU @i3 @cg ⟨?_⟩
  refine(JE (j:=j+16) ax Zo Zo az.dB be (λe I=>by have:=bu e I;omega) F.name).Zm ?_
  rintro ad aJ a6 ⟨rfl,bE⟩
  obtain⟨rf,yG⟩:=Bm bE Zo eP i3 i4
  refine cM @Lf @rf ⟨?_⟩
  refine gQ (sE b) ?_
  refine cH ⟨?_⟩
  exact oQ ax aK (bE.kB Zo) (by simp[k6,a])
 ·rcases a with a|a|a|a|a
  all_goals
   obtain⟨b,l,rfl⟩:=xJ bP l2 (by rw[a];rfl)
   obtain⟨cL,W,eU,eP,i3,i4⟩:=w7 b l rfl
   refine f7 @a0 @jZ @jc @eU @i3 ⟨?_⟩
   refine(Gq (j:=j+11) ax Zo j7 h5 (λe I=>by have:=bu e I;omega)).Zm ?_
   rintro ad aJ a6 ⟨rfl,bE⟩
   obtain⟨rf,yG⟩:=Bm bE Zo eP i3 i4
   refine ci @rf ⟨?_⟩
   refine gQ (sE b) ?_
   refine cH ⟨?_⟩
   exact oQ ax aK (bE.kB Zo) (by simp[k6,a])
 ·rcases a with a|a|a
  all_goals
   obtain⟨b,l,rfl⟩:=xJ bP l2 (by rw[a];rfl)
   obtain⟨cL,W,eU,eP,i3,i4⟩:=w7 b l rfl
   refine f7 @a0 @jZ @jc @eU @i3 ⟨?_⟩
   refine(Gq (j:=j+18) ax Zo j7 h5 (λe I=>by have:=bu e I;omega)).Zm ?_
   rintro ad aJ a6 ⟨rfl,bE⟩
   obtain⟨rf,yG⟩:=Bm bE Zo eP i3 i4
   cases ai:su (b::l)
   ·refine ci @rf ⟨?_⟩
    refine gQ (sE b) ?_
    refine cH ⟨?_⟩
    exact oQ ax aK (bE.kB Zo) (by simp[k6,a,ai])
   ·refine eu @eU @rf @yG ⟨?_⟩
    refine gQ (sE b) ?_
    refine cH ⟨?_⟩
    exact oQ ax aK (bE.kB Zo) (by simp[k6,a,ai])
 ·rcases a with a|a
  all_goals
   obtain⟨b,l,rfl⟩:=xJ bP l2 (by rw[a];rfl)
   obtain⟨cL,W,eU,eP,i3,i4⟩:=w7 b l rfl
   refine gp @a0 @jZ @jc @XN ⟨?_⟩
   refine(Gq (j:=j+9) ax Zo j7 h5 (λe I=>by have:=bu e I;omega)).Zm ?_
   rintro ad aJ a6 ⟨rfl,bE⟩
   obtain⟨rf,yG⟩:=Bm bE Zo eP i3 i4
   have LB:=ek aJ
   refine ci @LB ⟨?_⟩
   refine gQ (sE GS) ?_
   refine cH ⟨?_⟩
   exact oQ ax aK (bE.kB Zo) (by simp[k6,a])
 ·rcases a with a|a|a|a
  all_goals
   obtain⟨b,l,rfl⟩:=xJ bP l2 (by rw[a];rfl)
   obtain⟨cL,W,eU,eP,i3,i4⟩:=w7 b l rfl
   refine gp @a0 @jZ @jc @XN ⟨?_⟩
   refine(Gq (j:=j+16) ax Zo j7 h5 (λe I=>by have:=bu e I;omega)).Zm ?_
   rintro ad aJ a6 ⟨rfl,bE⟩
   obtain⟨rf,yG⟩:=Bm bE Zo eP i3 i4
   have LB:=ek aJ
   cases ai:su (b::l)
   ·refine ci @LB ⟨?_⟩
    refine gQ (sE GS) ?_
    refine cH ⟨?_⟩
    exact oQ ax aK (bE.kB Zo) (by simp[k6,a,ai])
   ·refine eu @eU @yG @LB ⟨?_⟩
    refine gQ (sE GS) ?_
    refine cH ⟨?_⟩
    exact oQ ax aK (bE.kB Zo) (by simp[k6,a,ai])
 ·obtain⟨fM,cZ,dO,rfl⟩:∃fM cZ dO,J=[fM,cZ,dO]:=by
   have ar:J.length=3:=l2.trans (bP.tX 3 (by rw[a];rfl))
   match J,ar with
   |[x,e,br],_=>exact⟨x,e,br,rfl⟩
  obtain⟨cL,W,eU,eP,i3,i4⟩:=w7 fM [cZ,dO] rfl
  obtain⟨wo,as5,cB,cu,ee,fV⟩:=h5.gi 1 cZ rfl
  have cB:dC 3 a8 (.Z 1)=some (.ptr wo as5):=cB
  obtain⟨kq,iZ,kH,JV⟩:=avG aC Zs Zs e9
  cases ai:fM.b
  ·rw[ai]at i4
   refine ev @a0 @jZ @jc @eU @cB @ee @i4 ⟨?_⟩
   refine gQ (sE cZ) ?_
   refine cH ⟨?_⟩
   exact oQ ax aK ((bj.refl _ _).more Zo) (by simp[k6,a,ai])
  ·rw[ai]at i4
   refine ev @a0 @jZ @jc @eU @cB @ee (Za @i4 @iZ) ⟨?_⟩
   refine(Gq (j:=j+18) (b:=cZ) (l:=[dO]) ax Zo kH JV (λe I=>by have:=bu e I;omega)).Zm ?_
   rintro ad aJ a6 ⟨rfl,bE⟩
   obtain⟨rf,yG⟩:=Bm bE Zo cu ee fV
   refine ci @rf ⟨?_⟩
   refine gQ (sE cZ) ?_
   refine cH ⟨?_⟩
   exact oQ ax aK (bE.kB Zo) (by simp[k6,a,ai])
 ·obtain⟨b,l,rfl⟩:=xJ bP l2 (by rw[a];rfl)
  obtain⟨cL,W,eU,eP,i3,i4⟩:=w7 b l rfl
  refine f7 @a0 @jZ @jc @eU @i3 ⟨?_⟩
  refine(Gq (j:=j+20) ax Zo j7 h5 (λe I=>by have:=bu e I;omega)).Zm ?_
  rintro ad aJ a6 ⟨rfl,bE⟩
  obtain⟨rf,yG⟩:=Bm bE Zo eP i3 i4
  cases ai:su (b::l)
  ·refine ci @rf ⟨?_⟩
   refine gQ (sE b) ?_
   refine ci @rf ⟨?_⟩
   refine gQ (sE b) ?_
   refine cH ⟨?_⟩
   exact oQ ax aK (bE.kB Zo) (by simp[k6,a,ai])
  ·have aiH:am X aJ (.ptr fS 2)=some (.str F.name):=by rw[cA,ac bE Zo fS aaa, <-cA];exact cg
   have f2:=bE.le
   refine cM @aiH @rf ⟨?_⟩
   refine gQ (sE b) ?_
   refine cH ⟨?_⟩
   refine(JE (j:=a6) ax Zo Zo (az.ac (bE.ac bY Zo)).dB (be.ac (bs:=P) (ac bE Zo) (λ_ a=>a)) (λe I=>by have:=bu e I;omega) F.name).Zm ?_
   rintro ad aY ba ⟨rfl,ca⟩
   have AI:=bE.trans ca
   obtain⟨fb,ff⟩:=Bm AI Zo eP i3 i4
   refine cM @Lf @fb ⟨?_⟩
   refine gQ (sE b) ?_
   refine cH ⟨?_⟩
   exact oQ ax aK (AI.kB Zo) (by simp[k6,a,ai])
 ·obtain⟨b,l,rfl⟩:=xJ bP l2 (by rw[a];rfl)
  obtain⟨cL,W,eU,eP,i3,i4⟩:=w7 b l rfl
  cases ai:F.ty.b
  ·rw[ai]at a4
   refine f7 @a0 @jZ @jc @yx @a4 ⟨?_⟩
   exact oQ ax aK ((bj.refl _ _).more Zo) (by simp[k6,a,ai])
  ·rw[ai]at a4
   refine ev @a0 @jZ @jc @yx @a4 @eU @i4 ⟨?_⟩
   exact oQ ax aK ((bj.refl _ _).more Zo) (by simp[k6,a,ai])
 ·have Z:k6 ap t F J=Ht ap F.name J:=by simp[k6,a]
  rw[Z]
  refine eu @a0 @jZ @jc ⟨?_⟩
  refine(ajW ax aK kw az b0 cj bu bp bt abm).Zm ?_
  rintro ad aJ a6 ⟨w,rfl,R,U,ar⟩
  refine cH ⟨?_⟩
  exact⟨w,rfl,R,U,ar⟩
end
def Co(F:Nat×H×Nat):H×H×Nat:=(.ptr F.1 0,F.2.1,F.2.2)
section
variable{X:ck}{h T aX aJ:S ak}{j ao aL a6:Nat}
def nb(X:ck)(h:S ak)(P:Nat->Prop)(r:Nat)(dS:Nat->Option H):Prop:=∃dn e6,aa X h r=some (.map (dn.map Co) e6)/\(∀w,sq dn w=dS w)/\∀x∈dn,P x.1/\pS X h x.1
variable{P:Nat->Prop}
def nb.ac{r:Nat}{dS:Nat->Option H}(a:nb X h P r dS)(ard:aa X T r=aa X h r)(D:∀e,P e->aa X T e=aa X h e):nb X T P r dS:=by
 obtain⟨dn,e6,R,U,ar⟩:=a
 exact⟨dn,e6,by rw[ard];exact R,U,λx ag=>⟨(ar x ag).1,(ar x ag).2.ac (D _ (ar x ag).1)⟩⟩
def acU(b:Nat):mR X 20 47 (.ptr b 0)=true:=Zk
def alc(b dR:Nat):jX X h 20 47 (.ptr b 0) (.ptr dR 0)=bg.ptrEq X h b 0 dR 0:=Zk
def atD{b dR:Nat}(a:pS X h b)(cD:pS X h dR)(aK:(q X).a7<=b):bg.ptrEq X h b 0 dR 0=some (decide (b=dR)):=by
 obtain⟨c,n,R,U⟩:=a
 obtain⟨fZ,aS,ar,aO⟩:=cD
 unfold bg.ptrEq
 rw[hB]
 by_cases F:b=dR
 ·simp[F]
 ·have cZ:Nat.blt 0 n=true:=lg U
  have dO:Nat.blt 0 aS=true:=lg aO
  have cB:Gt X h b 0=true:=by simp only[Gt,R,kt,lg aK,cZ,Yc]
  have cu:Bo X h dR 0=true:=by simp only[Bo,ar,dO]
  simp[F,cB,cu,fo]
def Xb{b:Nat}(ai:pS X h b)(aK:(q X).a7<=b):∀(dn:List (Nat×H×Nat)) (i:Nat),(∀x∈dn,P x.1/\pS X h x.1)->findKey X h 47 (.ptr b 0) (dn.map Co) i=some (mU dn b i):=by
 intro dn
 induction dn with
 |nil=>intro i _;rfl
 |cons x dn al=>
  intro i q0
  simp only[Yb,Co,findKey,alc,atD ai (q0 x (Zw ..)).2 aK,mU]
  by_cases a:b=x.1
  ·have:x.1=b:=a.symm
   simp[this]
  ·have:¬x.1=b:=λF=>a F.symm
   simp only[a,this,Z8,ZB]
   exact al (i+1) (λx ag=>q0 x (Zu _ ag))
def aq4(b:Nat):nu 20 (.ptr b 0) (.ptr b 0)=true:=by
 simp[nu]
def asf{r:Nat}{dS:Nat->Option H}(Z:(q X).a7<=r)(a:nb X h P r dS){b:Nat}(ai:pS X h b)(ay:P b)(aK:(q X).a7<=b)(v:H):
 ∃T,vj X h j 47 (.map r) (.ptr b 0) v=some (.fv bg.undef T j)/\nb X T P r (λx=>if x=b then some v else dS x)/\∀e,e≠r->aa X T e=aa X h e:=by
 obtain⟨dn,e6,R,U,ar⟩:=a
 have aH:kt X r=true:=lg Z
 have dI:∀e,pS X h e->e≠r:=λe I F=>by obtain⟨c,n,an,_⟩:=I;rw[F,R]at an;cases an
 have key:∀(N:List (Nat×H×Nat)) (sW:Nat),(∀x∈N,x.1=b\/∃e∈dn,e.1=x.1)->(∀x∈N,P x.1/\pS X (Go.bg.bm X h r (some (.map (N.map Co) sW))) x.1):=λN sW jf x ag=>by
  have an:P x.1/\pS X h x.1:=by
   rcases jf x ag with F|⟨e,I,F⟩
   ·rw[F];exact⟨ay,ai⟩
   ·rw[<-F];exact ar e I
  exact⟨an.1,an.2.ac (aE Z (dI _ an.2))⟩
 cases ce:mU dn b 0 with
 |none=>
  refine⟨Go.bg.bm X h r (some (.map ((dn++[(b,v,e6)]).map Co) (e6+1))), ?_,⟨dn++[(b,v,e6)],e6+1,bh Z,λx=> ?_,key _ _ λx ag=> ?_⟩,λe I=>aE Z I⟩
  ·simp only[vj,R,acU,e2,Xb ai aK _ _ ar,ce,bg.setObj,aH,e2,he]
   rw[Yv]
   rfl
  ·rw[acm _ _ _ _ _ (by unfold sq;rw[ce];rfl),U]
  ·rcases Zz.1 ag with ag|ag
   ·exact .inr ⟨x,ag,rfl⟩
   ·rw[List.mem_singleton]at ag;exact .inl (by rw[ag])
 |some p=>
  obtain⟨Y,v0⟩:=p
  obtain⟨born,anO⟩:=Xe b dn Y v0 ce
  have ao1:(dn.map Co)[Y]? =some (.ptr b 0,v0,born):=by rw[Zx,anO];rfl
  refine⟨Go.bg.bm X h r (some (.map ((dn.set Y (b,v,born)).map Co) e6)), ?_,⟨dn.set Y (b,v,born),e6,bh Z,λx=> ?_,key _ _ λx ag=> ?_⟩,λe I=>aE Z I⟩
  ·simp only[vj,R,acU,e2,Xb ai aK _ _ ar,ce,pE,ao1,aq4,bg.setObj,aH,e2,he]
   rw[List.map_set]
   rfl
  ·rw[acn _ _ _ _ _ _ _ ce,U]
  ·rcases List.mem_or_eq_of_mem_set ag with ag|ag
   ·exact .inr ⟨x,ag,rfl⟩
   ·exact .inl (by rw[ag])
mutual
def nG(X:ck)(h:S ak)(ap:List Go.a2.Node)(t:bx->Option fQ)(dS:Nat->Option H)(P eG:Nat->Prop):bz->H->Prop
 | .mk D J nm no ty n args,v=>∃b a8 cL bk row w,v= .ptr b 0/\P b/\am X h (.ptr b 8)=some a8/\d5 X h P cL a8 1 (bk.map λv=>[v])/\AA ap t (.mk D J nm no ty n args)= .ok row/\dS b=some w/\w.cells=[w]/\mQ X h eG w row/\kQ X h ap t dS P eG args bk
def kQ(X:ck)(h:S ak)(ap:List Go.a2.Node)(t:bx->Option fQ)(dS:Nat->Option H)(P eG:Nat->Prop):List bz->List H->Prop
 |[],bk=>bk=[]
 |F::bF,bk=>∃v mK,bk=v::mK/\nG X h ap t dS P eG F v/\kQ X h ap t dS P eG bF mK
end
mutual
def nG.ac{ap:List Go.a2.Node}{t:bx->Option fQ}{dS jm:Nat->Option H}{P eG qI qP:Nat->Prop}(D:∀e,P e->aa X T e=aa X h e)(sm:∀e,eG e->aa X T e=aa X h e)(aB:∀e,P e->jm e=dS e)(ay:∀e,P e->qI e)(I:∀e,eG e->qP e):∀(F:bz) (v:H),nG X h ap t dS P eG F v->nG X T ap t jm qI qP F v
 | .mk sl J nm no ty n args,v,a=>by
   rw[nG]at a ⊢
   obtain⟨b,a8,cL,bk,row,w,R,U,ar,aO,bN,cv,dP,fq,j2⟩:=a
   exact⟨b,a8,cL,bk,row,w,R,ay b U,by rw[cA,D b U, <-cA];exact ar,(aO.ac D).lift ay,bN,by rw[aB b U];exact cv,dP,fq.ac sm I,kQ.ac D sm aB ay I args bk j2⟩
def kQ.ac{ap:List Go.a2.Node}{t:bx->Option fQ}{dS jm:Nat->Option H}{P eG qI qP:Nat->Prop}(D:∀e,P e->aa X T e=aa X h e)(sm:∀e,eG e->aa X T e=aa X h e)(aB:∀e,P e->jm e=dS e)(ay:∀e,P e->qI e)(I:∀e,eG e->qP e):∀(bF:List bz) (bk:List H),kQ X h ap t dS P eG bF bk->kQ X T ap t jm qI qP bF bk
 |[],bk,a=>by rw[kQ]at a ⊢;exact a
 |F::bF,bk,a=>by
  rw[kQ]at a ⊢
  obtain⟨v,mK,R,U,ar⟩:=a
  exact⟨v,mK,R,nG.ac D sm aB ay I F v U,kQ.ac D sm aB ay I bF mK ar⟩
end
end
def W2(ap:List Go.a2.Node)(t:bx->Option fQ)(F:bz):AA ap t F=(match wj ap t F.args with
 | .error J=> .error J
 | .ok (b5,one)=>if one=false then .error F.at_ else if (k6 ap t F b5).2=false then .error F.at_ else .ok (k6 ap t F b5).1):=by
 cases F;rw[AA];rfl
section
variable{X:ck}{h T aX aJ:S ak}{j ao aL a6:Nat}{P eG:Nat->Prop}
def nG.mk'{ap:List Go.a2.Node}{t:bx->Option fQ}{dS:Nat->Option H}{F:bz}{b cL:Nat}{a8 w:H}{bk:List H}{row:List es}(U:P b)(ar:am X h (.ptr b 8)=some a8)(aO:d5 X h P cL a8 1 (bk.map λv=>[v]))(bN:AA ap t F= .ok row)(cv:dS b=some w)(dP:w.cells=[w])(fq:mQ X h eG w row)(j2:kQ X h ap t dS P eG F.args bk):nG X h ap t dS P eG F (.ptr b 0):=by
 cases F
 rw[nG]
 exact⟨b,a8,cL,bk,row,w,rfl,U,ar,aO,bN,cv,dP,fq,j2⟩
def kQ.snoc{ap:List Go.a2.Node}{t:bx->Option fQ}{dS:Nat->Option H}{F:bz}{v:H}(D:nG X h ap t dS P eG F v):∀{bF:List bz}{bk:List H},kQ X h ap t dS P eG bF bk->kQ X h ap t dS P eG (bF++[F]) (bk++[v]):=by
 intro bF
 induction bF with
 |nil=>intro bk a;rw[kQ]at a;subst a;rw[YF,kQ];exact⟨v,[],rfl,D,by rw[kQ]⟩
 |cons J bF al=>
  intro bk a
  rw[kQ]at a
  obtain⟨Kd,awh,rfl,U,ar⟩:=a
  rw[List.cons_append,kQ]
  exact⟨Kd,awh++[v],rfl,U,al ar⟩
def as0:∀{F:bz}{v:H},cI X h P F v->∃b a8 cL bk,v= .ptr b 0/\P b/\pS X h b/\am X h (.ptr b 1)=some (.Z F.at_)/\am X h (.ptr b 8)=some a8/\d5 X h P cL a8 1 (bk.map λv=>[v])/\dp X h (λe=>P e/\e≠b) F.args bk
 | .mk ..,_,a=>by
   unfold cI at a
   obtain⟨b,R,bu,bf,U,ar,aO,bN,cv,dP,fq,j2,a8,cL,bk,rZ,up,us,yb⟩:=a
   exact⟨b,a8,cL,bk,R,bu,bf,ar,rZ,up,dp.lift (λe I=>⟨I.1,I.2.1⟩) _ _ yb⟩
structure v6(X:ck)(h:S ak)(fa:Nat)(P:Nat->Prop)(bY an r:Nat)(cY p:H)(ap:List Go.a2.Node)(t:bx->Option fQ):Prop where
 a7:(q X).a7<=fa
 lc:bY<fa
 F9:an<fa
 Dr:r<fa
 JD:(q X).a7<=r
 EM:bY≠r
 qr:an≠r
 bu:∀e,P e->(q X).a7<=e/\e<fa/\e≠r
 HQ:∃c,aa X h bY=some (.cells c 3 .own)/\c.get 0=some (.ptr an 0)/\c.get 1=some p/\c.get 2=some cY
 D5:am X h (.ptr an 0)=some (.map r)
 vG:rL X h P cY t
 prog:nD X h P ap p
def v6.EJ{fa bY an r:Nat}{cY p:H}{ap:List Go.a2.Node}{t:bx->Option fQ}(a:v6 X h fa P bY an r cY p ap t):Ed X h bY (.ptr an 0) p cY:=by
 obtain⟨c,cj,R,U,ar⟩:=a.HQ
 exact⟨by rw[bJ cj];exact R,by rw[bJ cj];exact U,by rw[bJ cj];exact ar⟩
def v6.ac{fa bY an r:Nat}{cY p:H}{ap:List Go.a2.Node}{t:bx->Option fQ}(a:v6 X h fa P bY an r cY p ap t)(D:∀e,e<fa->e≠r->aa X T e=aa X h e):v6 X T fa P bY an r cY p ap t:=
 have MX:∀e,P e->aa X T e=aa X h e:=λe I=>D e (a.bu e I).2.1 (a.bu e I).2.2
 ⟨a.a7,a.lc,a.F9,a.Dr,a.JD,a.EM,a.qr,a.bu,by rw[D bY a.lc a.EM];exact a.HQ,by rw[cA,D an a.F9 a.qr, <-cA];exact a.D5,a.vG.ac MX (λ_ a=>a),a.prog.ac MX (λ_ a=>a)⟩
def v6.fr{fa bY an r:Nat}{cY p:H}{ap:List Go.a2.Node}{t:bx->Option fQ}(a:v6 X h fa P bY an r cY p ap t)(gf:b4 X [r] h j T ao)(aK:fa<=j):v6 X T fa P bY an r cY p ap t:=
 a.ac λe R U=>gf.ac e Zo (by simp[U])
def aeM(X:ck)(h:S ak)(j:Nat)(bq:Nat->Prop)(r:Nat)(ap:List Go.a2.Node)(t:bx->Option fQ)(dS:Nat->Option H)(bs:Nat->Prop)(F:bz)(v:H):bG:=λad T ao=>∃row jm,AA ap t F= .ok row/\ad.cells=[ad]/\mQ X T (dy j ao) ad row/\nb X T bq r jm/\(∀e,¬bs e->jm e=dS e)/\nG X T ap t jm bs (dy j ao) F v/\b4 X [r] h j T ao
def aeL(X:ck)(h:S ak)(j r:Nat)(ap:List Go.a2.Node)(t:bx->Option fQ)(F:bz):bG:=λad T ao=>∃J,AA ap t F= .error J/\ad=oz 26 J/\b4 X [r] h j T ao
set_option maxRecDepth 100000 in
def alt(ax:dv X)(ek:BW X){ap:List Go.a2.Node}{t:bx->Option fQ}{bY an r fa:Nat}{p cY:H}(cj:ap≠[])(bp:∀g∈ap,g.eQ.length<=100000/\g.out.length<=100000){bq:Nat->Prop}(wJ:∀e,bq e->P e):
 ∀(N:Nat) (F:bz),SizeOf.sizeOf F<N->eS lf F->∀(bs:Nat->Prop) (v:H) (h:S ak) (j:Nat) (dS:Nat->Option H),(∀e,bs e->bq e)->fa<=j->v6 X h fa P bY an r cY p ap t->nb X h bq r dS->cI X h bs F v->
  aR X 131 [.ptr bY 0,v] h j (aeM X h j bq r ap t dS bs F v) (aeL X h j r ap t F):=by
 intro N
 induction N with
 |zero=>intro F a;omega
 |succ N al=>
  intro F jf re bs v h j dS Ff aK bS q0 bt
  have gq:∀e,bs e->P e:=λe I=>wJ e (Ff e I)
  have uQ:=re
  rw[eS.eq]at uQ
  obtain⟨bP,pz⟩:=uQ
  refine c4 (afp X) (ax.none _ _ rfl) ?_
  rw[afq]
  unfold TO
  obtain⟨b,a8,cL,bk,rfl,ai,C2,bd,hA,cz,has⟩:=as0 bt
  have gL:=bS.a7
  have bu:=bS.bu
  have nj:=bu b (gq b ai)
  have ec:=cz.len
  have rb:=has.len
  rw[Zp,rb]at ec
  have l2:F.args.length<=300000:=by have:=cz.many;rw[Zp,rb]at this;exact this
  refine cM @hA @ec ⟨?_⟩
  refine fD (λm K T aS=>∃(Y:Nat) (s:H) (cK:List Nat) (jt:List es) (GJ:Bool) (jm:Nat->Option H) (qK:Nat->Prop),K.g 0=some (.ptr bY 0)/\K.g 1=some (.ptr b 0)/\K.g 5=some s/\K.g 6=some (.bool GJ)/\K.g 15=some a8/\K.g 16=some (.Z (F.args.length:Int))/\K.g 17=some (.Z (Y:Int))/\Y+m=F.args.length
   /\gD X T s 3 (pc jt).flatten cK/\(∀e∈cK,j<=e/\e<aS)/\(GJ=true->jt.length=Y)/\jt.length<=Y
   /\wj ap t F.args=(match wj ap t (F.args.drop Y)with| .error J=> .error J| .ok (b5,one)=> .ok (jt++b5,GJ&&one))
   /\nb X T bq r jm/\(∀e,¬bs e->jm e=dS e)/\jm b=dS b/\b4 X [r] h j T aS
   /\(∀e,qK e->bs e/\e≠b)/\dp X T qK (F.args.drop Y) (bk.drop Y)/\kQ X T ap t jm (λe=>(bs e/\e≠b)/\¬qK e) (λe=>dy j aS e/\e∉cK) (F.args.take Y) (bk.take Y))
   F.args.length ⟨0, .aT,[],[],true,dS,λe=>bs e/\e≠b,bn,bn,bn,bn,bn,bn,fN,Zo, .inl (.inl ⟨rfl,rfl,rfl⟩),Zs,λ_=>rfl,Zi _,by
    rw[ZU];cases wj ap t F.args with
    |error J=>rfl
    |ok x=>obtain⟨b5,one⟩:=x;simp,q0,λ_ _=>rfl,rfl,b4.refl _ _ _,λ_ a=>a,by simpa using has,by rw[Z1,Z1,kQ]⟩ ?_
  rintro m K aJ a6 ⟨Y,s,cK,jt,GJ,RZ,qK,t0,t1,t5,f3,vD,y0,BM,bH,aI,e9,tn,η,mW,X7,Fq,aaK,dc,yg,r6,A8⟩
  have f2:=dc.le
  have bE:=bS.fr dc aK
  have m0:∀e,P e->aa X aJ e=aa X h e:=λe I=>by have:=bu e I;exact dc.ac e Zo (by simp[this.2.2])
  have apb:=C2.ac (m0 b (gq b ai))
  cases m with
  |zero=>
   have d:decide ((Y:Int)<(F.args.length:Int))=false:=by simp only[Zb];omega
   have aoE:Y=F.args.length:=Zo
   rw[ZE Zo,wj]at mW
   simp only[Yq,Yd]at mW
   have n2:=W2 ap t F
   rw[mW]at n2
   simp only[]at n2
   have Oy:am X aJ (.ptr b 1)=some (.Z F.at_):=by rw[cA,m0 b (gq b ai), <-cA];exact bd
   cases GJ with
   |false=>
    rw[Zq rfl]at n2
    refine hQ @BM @y0 @d @f3 @t1 @Oy ⟨?_⟩
    refine(HM ax Zo F.at_).mono (λ_ _ _ a=>a) ?_
    rintro ad aY ba ⟨rfl,ca⟩
    exact⟨_,n2,rfl,dc.trans (b4.of ca)⟩
   |true=>
    rw[Zh Zd]at n2
    have ant:∀e,(P e\/(j<=e/\e<a6))->e<a6:=λe I=>by
     rcases I with a|a
     ·have:=bu e a;omega
     ·exact a.2
    refine ev @BM @y0 @d @f3 @t0 @t1 @t5 ⟨?_⟩
    refine(aur (P:=λe=>P e\/(j<=e/\e<a6)) ax ek Zo (by have:=bS.lc;omega) bE.EJ (bE.vG.ac (λ_ _=>rfl) (λe a=> .inl a)) (bE.prog.ac (λ_ _=>rfl) (λe a=> .inl a)) cj ant bp (cI.lift (λe I=> .inl (gq e I)) _ _ (cI.ac (λe I=>m0 e (gq e I)) _ _ bt)) bP (tn rfl▸aoE) aI Zo (λe I=> .inr (e9 e I))).Zm ?_
    rintro ad aY ba ⟨w,rfl,my,I2,ca⟩
    have ie:=ca.le
    have dZ:=dc.trans (b4.of (X:=[r]) ca)
    have XS:=bS.fr dZ aK
    have kx:∀e,P e->aa X aY e=aa X h e:=λe I=>by have:=bu e I;exact dZ.ac e Zo (by simp[this.2.2])
    cases g4:(k6 ap t F jt).2 with
    |false=>
     rw[Zq g4]at n2
     have Ky:am X aY (.ptr b 1)=some (.Z F.at_):=by rw[cA,kx b (gq b ai), <-cA];exact bd
     refine cM @t1 @Ky ⟨?_⟩
     refine(HM ax Zo F.at_).mono (λ_ _ _ a=>a) ?_
     rintro ad bw c7 ⟨rfl,dm⟩
     exact⟨_,n2,rfl,dZ.trans (b4.of dm)⟩
    |true=>
     rw[Zh (by rw[g4];decide)]at n2
     have d7:=XS.EJ.d7
     have D5:=XS.D5
     refine gp @t0 @t1 @d7 @D5 ⟨?_⟩
     have CG:nb X aY bq r RZ:=X7.ac (ca.ac r (by have:=bS.Dr;omega)) (λe I=>ca.ac e (by have:=bu e (wJ e I);omega))
     obtain⟨bw,bm,Qe,ep⟩:=asf (j:=ba) bS.JD CG (apb.ac (ca.ac b Zo)) (Ff b ai) nj.1 w
     refine kG bm ?_
     refine cH ⟨?_⟩
     have eB:b4 X [r] h j bw ba:=⟨dZ.le,λe R U=>by rw[ep e (by simpa using U)];exact dZ.ac e R U⟩
     have k3:∀e,P e->aa X bw e=aa X h e:=λe I=>by have:=bu e I;exact eB.ac e Zo (by simp[this.2.2])
     have abQ:∀e,j<=e->e<ba->aa X bw e=aa X aY e:=λe R U=>ep e (by have:=bS.Dr;omega)
     rw[Zy Zo,Zy Zo]at A8
     have abq:mQ X bw (dy j ba) w (k6 ap t F jt).1:=I2.ac (λe I=>abQ e (by have:=I.1;omega) I.2) (λe I=>⟨by have:=I.1;omega,I.2⟩)
     refine⟨_,_,n2,my,abq,Qe,λe I=> ?_,nG.mk' ai (by rw[cA,k3 b (gq b ai), <-cA];exact hA) (cz.ac λe I=>k3 e (gq e I)) n2 Zs my abq (kQ.ac (λe I=> ?_) (λe I=> ?_) (λe I=> ?_) (λe I=>I.1.1) (λe I=>⟨I.1.1,by have:=I.1.2;omega⟩) _ _ A8),eB⟩
     ·have:e≠b:=λF=>I (F▸ai)
      simp only[this,ZB];exact Fq e I
     ·rw[k3 e (gq e I.1.1),m0 e (gq e I.1.1)]
     ·rw[abQ e I.1.1 (by have:=I.1.2;omega),ca.ac e I.1.2]
     ·simp only[I.1.2,ZB]
  |succ m=>
   have d:decide ((Y:Int)<(F.args.length:Int))=true:=by simp only[Zg];omega
   have bB:aA .add (.Z (Y:Int)) (.Z 1)=some (.Z ((Y+1:Nat):Int)):=by rw[eI Zo Zo];rfl
   obtain⟨J,aC⟩:∃J,F.args[Y]? =some J:=⟨_,Ze Zo⟩
   have aH:F.args.drop Y=J::F.args.drop (Y+1):=by
    obtain⟨ag,I⟩:=Zc.1 aC
    rw[Zr ag,I]
   rw[aH]at r6 mW
   unfold dp at r6
   obtain⟨w,mK,y,MF,Fe,Ir,Qz⟩:=r6
   have Rr:bk[Y]? =some w:=by
    have:(bk.drop Y)[0]? =some w:=by rw[MF];rfl
    simpa using this
   have ap7:mK=bk.drop (Y+1):=by
    obtain⟨ag,I⟩:=Zc.1 Rr
    rw[Zr ag]at MF
    simp only[YD]at MF
    exact MF.2.symm
   subst ap7
   obtain⟨b3,b2,cQ⟩:=(cz.ac λe I=>m0 e (gq e I)).one Rr
   have oN:F.args.take (Y+1)=F.args.take Y++[J]:=by rw[ZY,aC];rfl
   have abp:bk.take (Y+1)=bk.take Y++[w]:=by rw[ZY,Rr];rfl
   have eH:=JZ (Zj aC)
   have p9:∀e,y e->bs e/\e≠b:=λe I=>yg e (Fe e I)
   rw[wj]at mW
   refine ev @BM @y0 @vD @t0 @d @b3 @b2 ⟨?_⟩
   refine(al J Zo (D9 pz (Zj aC)) y w aJ a6 RZ (λe I=>Ff e (p9 e I).1) Zo bE X7 Ir).mono ?_ (λad T aS a=>by
    obtain⟨fR,R,U,ar⟩:=a
    rw[R]at mW
    simp only[]at mW
    exact⟨fR,by rw[W2,mW],U,dc.trans ar⟩)
   rintro ad aY ba ⟨row,R0,fC,FL,I1,CG,IC,abo,dZ⟩
   have ie:=dZ.le
   have X1:=dc.trans dZ
   rw[fC]at mW
   simp only[]at mW
   have aoM:=bS.Dr
   have MU:∀e,j<=e->e<a6->aa X aY e=aa X aJ e:=λe R U=>dZ.ac e U (by simp;omega)
   have kx:∀e,P e->aa X aY e=aa X aJ e:=λe I=>by have:=bu e I;exact dZ.ac e Zo (by simp[this.2.2])
   have LN:R0 b=RZ b:=IC b (λa=>(p9 b a).2 rfl)
   have w2:dp X aY (λe=>qK e/\¬y e) (F.args.drop (Y+1)) (bk.drop (Y+1)):=dp.ac (λe I=>kx e (gq e (yg e I.1).1)) _ _ Qz
   by_cases fB:row.length=1
   ·obtain⟨x,rfl⟩:∃x,row=[x]:=by
     match row,fB with
     |[x],_=>exact⟨x,rfl⟩
    obtain⟨ei,rp,eU,eP,i3,i4⟩:=I1.rd.gi 0 x rfl
    have eU:dC 3 ad (.Z 0)=some (.ptr ei rp):=eU
    have QR:d8 ad=some (.Z 1):=I1.rd.len
    have aD:decide ((1:Int)≠1)=false:=by decide
    simp only[]at mW
    refine hQ @QR @aD @t5 @eU @i3 eC.eq_1 ⟨?_⟩
    generalize fi:Go.bg.bm X aY ba _=bw
    have d1:aa X bw ba=some (.cells (S.ofList (eC x) 0 .nil) 3 .own):=by rw[<-fi,bh Zo];rfl
    have ep:∀e,e<ba->aa X bw e=aa X aY e:=λe I=>by rw[<-fi,aE Zo Zo]
    clear fi
    obtain⟨fs,bL,gw,ic,yv,uu,lK⟩:=S8 (j:=ba+1) (aI.ac (T:=bw) (λe I=>by have:=e9 e I;rw[ep e Zo,MU e this.1 this.2])) d1 Zo Zo (λe I=>by have:=e9 e I;omega) 1
    refine kG ic ?_
    refine cM @BM @bB ⟨?_⟩
    have dG:∀e,e<ba->e∉cK->aa X bL e=aa X aY e:=λe R U=>by rw[lK e Zo U,ep e R]
    have Bi:∀e,e<j->e∉cK:=λe R U=>by have:=e9 e U;omega
    refine⟨m,Zo,Y+1,fs,gw,jt++[x],GJ,R0,λe=>qK e/\¬y e,a1 t0,a1 t1,bn,a1 f3,a1 vD,a1 y0,bn,Zo,yv,λe I=> ?_,λa=>by have:=tn a;simp;omega,by simp;omega, ?_, ?_,λe I=> ?_,by rw[LN];exact aaK, ?_,λe I=>yg e I.1, ?_, ?_⟩
    ·rcases uu e I with rfl|a
     ·omega
     ·have:=e9 e a;omega
    ·rw[mW]
     cases wj ap t (F.args.drop (Y+1))with
     |error J=>rfl
     |ok p=>obtain⟨b5,one⟩:=p;simp
    ·exact CG.ac (dG r Zo (Bi r Zo)) (λe I=>by have:=bu e (wJ e I);exact dG e Zo (Bi e Zo))
    ·exact(IC e (λa=>I (p9 e a).1)).trans (Fq e I)
    ·exact⟨Zo,λe R U=>by rw[dG e Zo (Bi e R)];exact X1.ac e R U⟩
    ·exact dp.ac (λe I=>by have:=bu e (gq e (yg e I.1).1);exact dG e Zo (Bi e Zo)) _ _ w2
    ·have anp:∀e,a6<=e->e<ba->e∉gw:=λe R U a=>by
      rcases uu e a with rfl|a
      ·omega
      ·have:=e9 e a;omega
     have anq:∀e,e<a6->e∉cK->e∉gw:=λe R U a=>by
      rcases uu e a with rfl|a
      ·omega
      ·exact U a
     have aqT:∀e,(bs e/\e≠b)/\¬qK e->aa X bL e=aa X aJ e:=λe I=>by
      have:=bu e (gq e I.1.1)
      rw[dG e Zo (Bi e Zo),kx e (gq e I.1.1)]
     have aqU:∀e,dy j a6 e/\e∉cK->aa X bL e=aa X aJ e:=λe I=>by
      have R:=I.1.1;have U:=I.1.2
      rw[dG e Zo I.2,MU e R U]
     have aqV:∀e,y e->aa X bL e=aa X aY e:=λe I=>by
      have:=bu e (gq e (p9 e I).1);exact dG e Zo (Bi e Zo)
     have aqW:∀e,dy a6 ba e->aa X bL e=aa X aY e:=λe I=>dG e I.2 (λa=>by have:=e9 e a;have:=I.1;omega)
     rw[oN,abp]
     exact kQ.snoc (nG.ac aqV aqW (λ_ _=>rfl) (λe I=>⟨p9 e I,λa=>a.2 I⟩) (λe I=>⟨⟨by have:=I.1;omega,by have:=I.2;omega⟩,anp e I.1 I.2⟩) J w abo) (kQ.ac aqT aqU (λe I=>IC e (λa=>I.2 (Fe e a))) (λe I=>⟨I.1,λa=>I.2 a.1⟩) (λe I=>⟨⟨I.1.1,by have:=I.1.2;omega⟩,anq e I.1.2 I.2⟩) _ _ A8)
   ·have QR:=I1.rd.len
    have aD:decide ((row.length:Int)≠1)=true:=by simp only[Zg];omega
    refine gp @QR @aD @BM @bB ⟨?_⟩
    refine⟨m,Zo,Y+1,s,cK,jt,false,R0,λe=>qK e/\¬y e,a1 t0,a1 t1,a1 t5,bn,a1 vD,a1 y0,bn,Zo,aI.ac (λe I=>by have:=e9 e I;exact MU e this.1 this.2),λe I=>by have:=e9 e I;omega,(λa=>by cases a),Zo, ?_,CG,λe I=>(IC e (λa=>I (p9 e a).1)).trans (Fq e I),by rw[LN];exact aaK,X1,λe I=>yg e I.1,w2, ?_⟩
    ·rw[mW]
     cases wj ap t (F.args.drop (Y+1))with
     |error J=>rfl
     |ok p=>
      obtain⟨b5,one⟩:=p
      match row,fB with
      |[],_=>simp
      |[_],a=>exact absurd rfl a
      |_::_::_,_=>simp
    ·rw[oN,abp]
     exact kQ.snoc (nG.ac (λ_ _=>rfl) (λ_ _=>rfl) (λ_ _=>rfl) (λe I=>⟨p9 e I,λa=>a.2 I⟩) (λe I=>⟨⟨by have:=I.1;omega,I.2⟩,λa=>by have:=e9 e a;have:=I.1;omega⟩) J w abo) (kQ.ac (λe I=>kx e (gq e I.1.1)) (λe I=>MU e I.1.1 I.1.2) (λe I=>IC e (λa=>I.2 (Fe e a))) (λe I=>⟨I.1,λa=>I.2 a.1⟩) (λe I=>⟨⟨I.1.1,by have:=I.1.2;omega⟩,I.2⟩) _ _ A8)
end
end
end Go.Proofs.YtpfajohmofnkfaaGreatDoor

