/- Part of the proof of the last text; no conditions -/
import Derived.Test.YtbbkkkpgjaopkaaGreatDoorYq
set_option maxHeartbeats 8000000
set_option linter.all false
namespace Go.Proofs.YtbbkkkpgjaopkaaGreatDoor
open Go.bp Go.aS
noncomputable section
def lz(s:bc):Bool:=decide (s=[])||decide (s.length+2<=32)
mutual
def vF:bx->Bool
 | .mk o D nm no ty n args=>lz nm&&Cr args
def Cr:List bx->Bool
 |[]=>true
 |B::k=>vF B&&Cr k
end
def rZ(d:ep):Bool:=lz d.name&&lz d.on
def Cs(al:eL):Bool:=al.left.all lz&&vF al.right
def vG(g:Go.aS.Node):Bool:=lz g.name&&(g.eh.all rZ&&(g.out.all rZ&&(g.loc.all rZ&&g.eqs.all Cs)))
def Sk{s:bc}(a:s≠[]):eu s=122::95::s:=by unfold eu;rw[Zg a];rfl
def Jd{s:bc}(a:wd s)(az:lz s=true):wd (eu s):=by
 rw[Sk a.ne]
 unfold lz at az
 have c5:decide (s=[])=false:=by simp[a.ne]
 rw[c5,Bool.false_or,Zh]at az
 refine⟨Zs,Zx,λc ay=> ?_,λc ay=> ?_, ?_, ?_⟩
 ·simp at ay;subst ay;rfl
 ·rcases Zq.1 ay with rfl|ay
  ·rfl
  rcases Zq.1 ay with rfl|ay
  ·rfl
  exact a.all c ay
 ·simp[ta]
 ·cases aZ:kt (122::95::s)with
  |none=>rfl
  |some t=>
   have:=(FV aZ Zs).1
   omega
mutual
def ad8:∀B:bx,eM ij B->vF B=true->eM ij (j7 B)
 | .mk o D nm no ty n args,bQ,aX=>by
   rw[eM]at bQ
   rw[vF,Zn]at aX
   obtain⟨a,az⟩:=bQ
   have ah:=ad6 args az aX.2
   rw[j7,eM]
   refine⟨⟨a.ap,a.bM,a.cq,λm aX=>by have:=a.DP m aX;show(qp args).length=m;rw[FJ,Zr];exact this,λB=>Jd (a.nm B) aX.1,λB=>MS.2 (a.Fw B),a.no,a.ty,a.dw,a.RY,a.lB,a.a6,λB=> ?_⟩,ah⟩
   obtain⟨k,r,bA,cg⟩:=a.mX B
   have bA:args=[k,r]:=bA
   refine⟨j7 k,j7 r,by show qp args=_;rw[bA,FJ];rfl, ?_⟩
   rw[Sp]
   rcases cg with cg|⟨cg,x,eN,iP⟩
   ·exact .inl cg
   ·exact .inr ⟨cg,j7 x,by cases k with|mk eE fK IZ I0 adK aQ J5=>have eN:J5=[x]:=eN;rw[j7,FJ,eN];rfl,by rw[Sp];exact iP⟩
def ad6:∀k:List bx,fB ij k->Cr k=true->fB ij (qp k)
 |[],_,_=>by rw[qp];exact fB.nil
 |B::k,a,aX=>by
  rw[fB]at a
  rw[Cr,Zn]at aX
  rw[qp];exact fB.cons (ad8 B a.1 aX.1) (ad6 k a.2 aX.2)
end
def ajl{d:ep}(a:mi ij d)(aX:rZ d=true):mi ij (jj d):=by
 unfold rZ at aX
 rw[Zn]at aX
 exact⟨Jd a.name aX.1,a.type,λB=>Jd (a.on λf7=>B (MS.2 f7)) aX.2,λB=>a.no (MS.1 B),a.ap,a.op⟩
def OD{k:List ep}(a:∀d∈k,mi ij d)(aX:k.all rZ=true):∀d∈k.map jj,mi ij d:=λd aI=>by
 obtain⟨mV,I,rfl⟩:=ZK.1 aI
 exact ajl (a mV I) (YG.1 aX mV I)
def arM{g:Go.aS.Node}(a:ml ij g)(aX:vG g=true):ml ij (hE g):=by
 unfold vG at aX
 simp only[Zn]at aX
 obtain⟨d4,fk,iH,IJ,aq7⟩:=aX
 refine⟨Jd a.name d4,OD a.eh fk,OD a.out iH,OD a.loc IJ,λB=>a.some (by simpa[hE]using B),λal bJ=> ?_,a.ap⟩
 obtain⟨vP,I,rfl⟩:=ZK.1 bJ
 have aG:=a.eqs vP I
 have aX:=YG.1 aq7 vP I
 unfold Cs at aX
 rw[Zn,YG]at aX
 refine⟨λs aD=> ?_,λB=>aG.some (by simpa[pA]using B),ad8 _ aG.right aX.2,aG.ap,aG.aq0⟩
 obtain⟨mE,M,rfl⟩:=ZK.1 aD
 exact Jd (aG.left mE M) (aX.1 mE M)
def anj:∀(m:Nat) (B:bx),fH m (j7 B)=fH m B:=by
 intro m
 induction m with
 |zero=>intro B;rfl
 |succ m ah=>
  intro B
  cases B with
  |mk o D nm no ty n args=>
   rw[j7,fH,fH]
   congr 1
   have I:∀(k:List bx) (a:Nat),(k.map j7).foldl (λa D=>max a (fH m D)) a=k.foldl (λa D=>max a (fH m D)) a:=by
    intro k
    induction k with
    |nil=>intro a;rfl
    |cons D k lI=>intro a;rw[ZC,ZL,ZL,ah,lI]
   have bA:(bx.mk o D (eu nm) no ty n (qp args)).args=qp args:=rfl
   have cg:(bx.mk o D nm no ty n args).args=args:=rfl
   rw[bA,cg,FJ,I]
def abT:∀k:List eL,ng (k.map pA)=ng k
 |[]=>rfl
 |al::k=>by
  rw[ZC,ng,ng,abT k]
  have:fH 201 (pA al).right=fH 201 al.right:=anj 201 al.right
  rw[this];rfl
def abV:∀k:List Go.aS.Node,lL (k.map hE)=lL k
 |[]=>rfl
 |g::k=>by
  rw[ZC,lL,lL,abV k]
  have:ng (hE g).eqs=ng g.eqs:=abT g.eqs
  rw[this]
  simp only[hE,Zr]
def aqP(ax:List Go.aS.Node):l5 (ax.map hE)=l5 ax:=by
 unfold l5
 rw[abV,Zw]
 cases ax[64]? <;>rfl
def RG:∀k:List eL,ng k=none↔∀al∈k,fH 201 al.right<=200
 |[]=>by simp[ng]
 |al::k=>by
  rw[ng]
  split
  ·rename_i a
   exact⟨λB=>(by cases B),λB=>zy (B al (Zv ..))⟩
  ·rename_i a
   rw[RG k]
   refine⟨λo x af=> ?_,λo x af=>o x (Zt _ af)⟩
   rcases Zq.1 af with rfl|af
   ·omega
   ·exact o x af
def abU:∀k:List Go.aS.Node,lL k=none->lL (k.map hN)=none
 |[],_=>rfl
 |g::k,a=>by
  rw[lL]at a
  rw[ZC,lL]
  split at a
  ·cases a
  ·rename_i I
   cases bl:ng g.eqs with
   |some D=>rw[bl]at a;cases a
   |none=>
    rw[bl]at a
    have:ng (hN g).eqs=none:=(RG _).2 λal bJ=>(RG _).1 bl al (List.mem_reverse.1 bJ)
    rw[Zg (by simpa[hN]using I),this]
    exact abU k a
def aqO{ax:List Go.aS.Node}(a:l5 ax=none):l5 (ax.map hN)=none:=by
 unfold l5 at a ⊢
 rw[Zw]
 cases bX:ax[64]? with
 |some g=>rw[bX]at a;cases a
 |none=>rw[bX]at a;exact abU ax a
def arL{bu:ik}{g:Go.aS.Node}(a:ml bu g):ml bu (hN g):=⟨a.name,a.eh,a.out,a.loc,a.some,λal bJ=>a.eqs al (List.mem_reverse.1 bJ),a.ap⟩
end
open Go.bp
noncomputable section
variable (X : cn) (h : R ag) (j : Nat) (ai aw : bN) (a0 bm ct a3 a4 a5 kd kz kA : z)
def TZ:Za0:=λa b c d e f=>ar (gl b) λg=>ar (rm a c .min [3,3] [g, .Z 5000]) λg=>ar (xK a c 1 b none (some g) none) λg=>a7 a 5 [g] c d (λc d h=>jQ c λc i=>AQ h λj=>mP a d h j.1 j.2 2 i λd h i=>a7 a 5 [g] i h (λh i j=>jQ h λh k=>AQ j λl=>mP a i j l.1 l.2 2 k λi j k=>ew 0 d a k λ_ l=>Gc l λl=>o6 l 0 i k j a λj k m=>eG l (bg .neq j (.Z 0)) k m λj k m=>c3 (λj=>bw (λb c d=>ca (b 3) λg=>ar (dc a c .eql 23 true g .cM) λg=>y9 g (b 5) c d λc d h=>eG g (dc a d .eql 23 true c .cM) d h λc d h=>c3 (λc=>bw (λb c d=>ca (b 3) λg=>a7 a 7 [g] c d (λc d g=>AQ g λh=>mP a d g h.1 h.2 2 c λc d g=>ff (d+8) λd=>ca (b 5) λh=>a7 a 8 [h] g d (λd g h=>Rh d (b 5) g λg i=>kO d (d0 a i 2 c) i λi j=>lx d (λb=>a7 a 7 [g] j h b f) j h λg h j=>kO d (dc a h .neq 26 false g i) h λg h=>c3 (λg=>L6 (bw (λb c d=>ca (b 3) λg=>fZ g 0 a c λ_ g=>kV g (λb c d=>ff (d+12) λd=>fu b 3 7 λb g=>AR g a c 0 λg h i=>a7 a 7 [b] c d (λb c d=>ar (tF false 0 1 b) λb=>Gd b λb=>ar (dc a c .eql 4 false b i) λb=>ar (aR a c g) λg=>hG g (some h) (lx b (λb=>a7 a 6 [] c d b f) c d λa c d=>c3 (λa=>e a c d) λc=>a8 b (c a) (c .zF))) f) λe f=>fQ (λb c d e=>i1 c 66 65 λg=>bw (λc d e=>bw (λa c d=>hu a 66 λe=>b (ac a 66 e) c d) λb=>fu c 66 3 λf g=>fZ g 0 a d λ_ g=>ar (hr 6 g f) λg=>ew 5 g a d λ_ g=>bw b λb=>fQ (λc d e f=>fu d 10 9 λg h=>ar (gl h) λh=>ar (bg .quo h (.Z 2)) λh=>ar (bg .lss g h) λg=>bw (λb d e=>bw (λa b d=>hu a 10 λe=>c (ac a 10 e) b d) λc=>ff (e+24) λe=>fu b 9 10 λf g=>fu b 9 9 λh i=>ar (gl i) λj=>Dx j λk=>ca (b 10) λl=>ar (bg .sub k l) λk=>fu b 9 9 λl m=>ar (gl m) λm=>Dx m λm=>ca (b 10) λn=>ar (bg .sub m n) λm=>Dz 4 l m a d λl=>fu b 9 10 λm n=>Dz 4 m n a d λm=>ar (hr 4 f g) λf=>ar (fc a d 4 f l) λd=>ar (hr 4 h k) λf=>ar (gl i) λg=>hG g (some j) (ar (fc a d 4 f m) λa=>c b a e)) λa=>a8 g (a (ac d 81 g) e f) (b (ac d 81 g) e f)) (zH c 8 f 9 g 10 (.Z 0)) d e) λa=>a8 g (a (ac c 67 g) d e) (f (ac c 67 g) d e)) (zG b 65 e 66 (.Z 0)) c d) λa=>a8 g (e .zF h j) (a (zG b 7 c 60 g) h j)) λb=>im true d (ar (d0 a h 2 c) λa=>hG a (some i) b) b) λa=>a8 d (a g) (a .zF)) f) f) λa=>a8 c (e .zF d h) (a (ac b 50 c) d h)) λa=>a8 g (a .zT) (a c)) λl=>a8 j (ar (d0 a k 2 d) λb=>ar (d0 a k 2 i) λc=>ar (dc a k .eql 26 false b c) λb=>tj b 0 d k m a λc d g=>ei b (bg .neq c (.Z 0)) d g λc d g=>c3 (λb=>lx b (λb=>a7 a 6 [] d g b f) d g λa c d=>c3 (λa=>e a c d) λc=>a8 b (c a) (c .zF)) λa=>a8 b (a c) (a .zF)) (l (zH (zI (cY [b]) 2 .zF 0 g 4 d 3 c) 6 i 5 h 33 j) k m)) λa=>a8 l (a .zT) (a j)) f) f
def afQ:dr X 3 [a0]=TZ X a0:=Zk
def afP:dd X 3 1=true:=Zk
def UL:Za0:=λa b c d e f=>ar (kB [.zF] d) λg=>g1 a c d g.1 g.2 λc d g=>ar (fc a d 1 c .zT) λd=>ar (kB [.nilFunc] g) λh=>g1 a d g h.1 h.2 λd g h=>ar (fc a g 1 d (.func (.func 25) [] [c])) λg=>fZ b 0 a g λ_ i=>kV i (λb c d=>jB b 3 a c λa=>e a c d) λe i=>fQ (λb c d e=>i1 c 18 17 λg=>bw (λc d e=>bw (λa c d=>hu a 18 λe=>b (ac a 18 e) c d) λb=>fu c 18 0 λg h=>fZ h 0 a d λ_ h=>ar (hr 6 h g) λh=>ff (e+5) λe=>jB c 4 a d λi=>hQ h 0 λj=>mx a i [j] d e (λ_ d e=>ff (e+14) λe=>fZ h 2 a d λ_ i=>fZ h 3 a d λ_ j=>fZ h 4 a d λ_ k=>ar (fd [.aV, .aV, .aV] [(0,1,i),(1,1,j),(2,1,k)]) λi=>bw (λc d e=>ca (c 6) λg=>fZ g 5 a d λ_ g=>ar (gl g) λg=>bw b λb=>fQ (λc d e g=>i1 d 72 71 λh=>bw (λb d e=>bw (λa b d=>hu a 72 λe=>c (ac a 72 e) b d) λc=>fu b 72 6 λg h=>fZ h 5 a d λ_ h=>ar (hr 4 h g) λh=>ew 0 h a d λ_ h=>kV h (λb d e=>ca (b 6) λg=>fZ g 5 a d λ_ g=>ca (b 10) λh=>ar (hr 4 g h) λg=>ew 3 g a d λ_ g=>kb b λh=>a7 a 26 [g, .func (.func 27) [] [h]] d e (λ_ a d=>c b a d) f) λc h=>fQ (λb c d e=>i1 c 84 83 λg=>bw (λc d e=>bw (λa c d=>hu a 84 λe=>b (ac a 84 e) c d) λb=>ca (c 84) λg=>ff (e+12) λe=>jB c 4 a d λh=>ca (c 6) λi=>fZ i 5 a d λ_ i=>ca (c 10) λj=>ar (hr 4 i j) λi=>ew 0 i a d λ_ i=>ar (hr 1 i g) λi=>mx a h [i] d e (λ_ a d=>b (ac c 11 g) a d) f) λa=>a8 g (a (ac c 85 g) d e) (h (ac c 85 g) d e)) (zH b 10 g 83 c 84 (.Z 0)) d e) λa=>a8 h (a (ac d 73 h) e g) (b (ac d 73 h) e g)) (zG c 71 g 72 (.Z 0)) d e) λb=>fQ (λc d e g=>F7 d 45 3 λh=>bw (λb d e=>bw (λa b d=>hu a 45 λe=>c (ac a 45 e) b d) λc=>fu b 44 45 λg h=>ar (sV false 3 1 g h) λg=>ar (gl g) λh=>bw c λc=>fQ (λb d e g=>i1 d 50 49 λh=>bw (λc d e=>bw (λa c d=>hu a 50 λe=>b (ac a 50 e) c d) λb=>ca (c 50) λg=>ff (e+6) λe=>jB c 4 a d λh=>ca (c 8) λi=>ar (hr 8 i g) λi=>ar (hI 0 i) λi=>mx a h [i] d e (λ_ d e=>ff (e+6) λe=>jB c 4 a d λh=>ca (c 8) λi=>ar (hr 8 i g) λi=>ar (hI 5 i) λi=>mx a h [i] d e (λ_ a d=>b (ac c 9 g) a d) f) f) λa=>a8 h (a (ac d 51 h) e g) (c (ac d 51 h) e g)) (zH b 8 g 49 h 50 (.Z 0)) d e) λa=>a8 h (a (ac d 46 h) e g) (b (ac d 46 h) e g)) (zI c 5 g 6 h 44 i 45 (.Z 0)) d e) f) λa=>a8 g (a (ac c 19 g) d e) (i (ac c 19 g) d e)) (ac (zI (cY [b]) 2 .zF 3 c 4 d 17 e) 18 (.Z 0)) g h
def ahh:dr X 8 [a0]=UL X a0:=Zk
def ahg:dd X 8 1=true:=Zk
def TU:Za1:=λa b c d e f _=>ar (mh b) λg=>ar (aR a d g) λg=>ar (dc a d .neq 9 true g (.str [])) λg=>bw (λ_ a b=>f (.tuple []) a b) λf=>a8 g (ar (mh b) λh=>ar (aR a d h) λh=>ar (dc a d .add 9 true (.str [122,95]) h) λh=>ar (mh b) λi=>ka a d i h λd=>ar (aR a d c) λh=>jh h b d e λd e i=>ei h (mh d) e i λd e i=>ei h (aR a e d) e i λd e i=>ei h (lK d) e i λd e i=>ei h (bg .leq d (.Z 32)) e i λd e i=>c3 (λd=>ka a e c d λa=>f (ac (cY [b,c]) 6 g) a i) λa=>a8 h (a d) (a .zF)) (f (ac (cY [b,c]) 6 g) d e)
def afq:dr X 25 [a0,bm]=TU X a0 bm:=Zk
def afp:dd X 25 2=true:=Zk
def TX:Za1:=λa b c d e f g=>ff (e+5) λe=>ar (aR a d c) λc=>hQ b 2 λb=>mx a c [b] d e (λ_ a b=>f .zT a b) g
def afs:dr X 27 [a0,bm]=TX X a0 bm:=Zk
def afr:dd X 27 2=true:=Zk
end
noncomputable section
section
variable{X:cn}{h S a1 aT:R ag}{j aq aP bk:Nat}{P:Nat->Prop}
def kx(X:cn)(h:R ag)(eK:Nat)(m:Bool):Prop:=Z X h eK=zC [.bool m] 1
def kx.ad{eK:Nat}{m:Bool}(a:kx X h eK m)(o:Z X S eK=Z X h eK):kx X S eK m:=by unfold kx;rw[o];exact a
def kx.rX{eK:Nat}{m:Bool}(a:kx X h eK m):aR X h (.ptr eK 0)=some (.bool m):=by rw[bS a];rfl
def ab7{eK:Nat}{m eH:Bool}(aL:(q X).a6<=eK)(a:kx X h eK m):∃S,fc X h 1 (.ptr eK 0) (.bool eH)=some S/\kx X S eK eH/\∀e,e≠eK->Z X S e=Z X h e:=
 ⟨_,SL aL a Zo rfl rfl,by unfold kx;rw[bv aL];rfl,λe F=>aK aL F⟩
def aiZ{D b:bc}(a:D.length+b.length<=1000000000):dc X h .add 9 true (.str D) (.str b)=some (.str (D++b)):=by
 simp only[dc,wl,jV a,fj]
def VW(aB:dR X){b V eK:Nat}{s:bc}{m:Bool}(I:aR X h (.ptr b V)=some (.str s))(az:s.length<=1000000)(aL:(q X).a6<=eK)(aX:kx X h eK m)(cK:fc X h 1 (.ptr b V) (.str (eu s))=some a1)(aG:Z X a1 eK=Z X h eK)(M:aR X a1 (.ptr b V)=some (.str (eu s))):
 a7 X 25 [.ptr b V, .ptr eK 0] h j (λaa S aq=>aa= .tuple []/\j<=aq/\kx X S eK (m&&lz s)/\∀e,e≠eK->Z X S e=Z X (if s=[]then h else a1) e) zK:=by
 refine zF aB (afp X) ?_
 rw[afq]
 unfold TU
 have c5:=AI (C:=q X) (h:=h) 9 true s []
 by_cases aD:s=[]
 ·subst aD
  have d:decide (([]:bc)≠[])=false:=rfl
  refine eW @I @c5 @d ⟨?_⟩
  exact⟨rfl,Zi _,by simpa[lz]using aX,λe _=>by rw[Zp rfl]⟩
 ·have d:decide (s≠[])=true:=by simp[aD]
  have U:[122,95]++s=eu s:=by rw[Sk aD];rfl
  have ay:dc X h .add 9 true (.str [122,95]) (.str s)=some (.str (eu s)):=by rw[aiZ Zx,U]
  have sM:kx X a1 eK m:=aX.ad aG
  have aaf:=sM.rX
  have rP:(eu s).length=s.length+2:=by rw[Sk aD];rfl
  have mw:lz s=decide (((eu s).length:Int)<=32):=by
   unfold lz
   rw[rP]
   have:decide (s=[])=false:=by simp[aD]
   rw[this,Bool.false_or]
   exact decide_eq_decide.2 Zo
  cases m with
  |false=>
   obtain⟨aT,qO,p8,hh⟩:=ab7 (eH:=false) aL sM
   refine eQ @I @c5 @d @ay @cK @aaf @qO ⟨?_⟩
   exact⟨rfl,Zi _,p8,λe F=>by rw[Zg aD];exact hh e F⟩
  |true=>
   obtain⟨aT,qO,p8,hh⟩:=ab7 (eH:=lz s) aL sM
   have anM:bg .leq (.Z ((eu s).length:Int)) (.Z 32)=some (.bool (lz s)):=by rw[mw,y5]
   refine eQ @I @c5 @d @ay @cK @aaf (Za @M (Za @vD (Za @anM @qO))) ⟨?_⟩
   exact⟨rfl,Zi _,by simpa using p8,λe F=>by rw[Zg aD];exact hh e F⟩
def set_set{α:Type}{k:List α}{i:Nat}{D:α}(a:k[i]? =some D):k.set i D=k:=SE a
def Kj(aB:dR X){ef:Nat->Prop}{b aO eK:Nat}{bf:z}{ba:List (List z)}(U:gL X h ef b bf aO ba){i W:Nat}{r:List z}{s:bc}(aE:ba[i]? =some r)(bB:r[W]? =some (.str s)){m:Bool}(az:s.length<=1000000)(aL:(q X).a6<=eK)(aX:kx X h eK m)(ce:¬ef eK):
 a7 X 25 [.ptr b (i*aO+W), .ptr eK 0] h j (λaa S aq=>aa= .tuple []/\j<=aq/\kx X S eK (m&&lz s)/\gL X S ef b bf aO (ba.set i (r.set W (.str (eu s))))/\∀e,¬ef e->e≠eK->Z X S e=Z X h e) zK:=by
 have rP:=U.rd.wide r (Zl aE)
 have rI:=(Zb.1 bB).1
 obtain⟨a1,cK,qN,jI⟩:=U.store aE (W:=W) Zo (v:= .str (eu s)) rfl rfl
 have oy:(ba.set i (r.set W (.str (eu s))))[i]? =some (r.set W (.str (eu s))):=by rw[Z8,Zp rfl,Zp (Zb.1 aE).1]
 have Ll:(r.set W (.str (eu s)))[W]? =some (.str (eu s)):=by rw[Z8,Zp rfl,Zp rI]
 refine(VW (j:=j) aB (U.rd.cell i r W _ aE bB) az aL aX cK (jI eK ce) (qN.rd.cell i _ W _ oy Ll)).mono ?_ (λ_ _ _ a=>a)
 rintro aa S aq ⟨rfl,f8,l0,vm⟩
 refine⟨rfl,f8,l0, ?_,λe F c5=> ?_⟩
 ·by_cases aD:s=[]
  ·subst aD
   have bA:r.set W (.str (eu []))=r:=SE bB
   have cg:ba.set i r=ba:=SE aE
   rw[bA,cg]
   refine U.ad λe F=> ?_
   rw[vm e (λB=>ce (B▸F)),Zp rfl]
  ·refine qN.ad λe F=> ?_
   rw[vm e (λB=>ce (B▸F)),Zg aD]
 ·rw[vm e c5]
  split
  ·rfl
  ·exact jI e F
def FI:bx->bx
 | .mk o D nm no ty n args=> .mk o D (eu nm) no ty n args
def atC(B:bx):j7 B=Vx (FI B) ((FI B).args.map j7):=by
 cases B with
 |mk o D nm no ty n args=>rw[j7,FJ];rfl
def atB(s:Bool)(B:bx):(s&&vF B)=(FI B).args.foldl (λs B=>s&&vF B) (s&&lz B.name):=by
 have key:∀(k:List bx) (b:Bool),k.foldl (λs B=>s&&vF B) b=(b&&Cr k):=by
  intro k
  induction k with
  |nil=>intro b;rw[Cr];simp
  |cons D k ah=>intro b;rw[ZL,ah,Cr,YN]
 cases B with
 |mk o D nm no ty n args=>
  rw[key,vF, <-YN];rfl
def atD(B D:bx)(a:D∈(FI B).args):SizeOf.sizeOf D<SizeOf.sizeOf B:=by
 refine adp ?_
 cases B with
 |mk o fK nm no ty n args=>exact a
def atG(aB:dR X){eK mX:Nat}{m:Bool}(aL:(q X).a6<=eK)(aX:kx X h eK m)(ch:aR X h (.ptr mX 0)=some (.func (.func 25) [] [.ptr eK 0]))(PK:∀e,P e->(q X).a6<=e)(ce:¬P eK){B:bx}{v:z}(az:B.name.length<=1000000)(bl:cm X h P B v):
 a7 X 27 [v, .ptr mX 0] h j (λaa S aq=>aa= .zT/\j<=aq/\kx X S eK (m&&lz B.name)/\cm X S P (FI B) v/\∀e,¬P e->e≠eK->Z X S e=Z X h e) zK:=by
 refine zF aB (afr X) ?_
 rw[afs]
 unfold TX
 obtain⟨o,D,nm,no,ty,n,args⟩:=B
 obtain⟨ke,bf,cD,bj,rfl,yH,dV,dv,dK,_⟩:=id bl.open
 replace dK:aR X h (.ptr ke 2)=some (.str nm):=dK
 obtain⟨dT,rq,_,_,a1,cK,vk,jI⟩:=akp bl PK (eu nm) no
 cases rq
 obtain⟨_,_,_,_,rq,_,_,_,cJ,_⟩:=id vk.open
 cases rq
 replace cJ:aR X a1 (.ptr ke 2)=some (.str (eu nm)):=cJ
 have c5:eK≠ke:=λB=>ce (B▸yH)
 refine cr @ch ⟨?_⟩
 refine(VW (j:=j+5) (b:=ke) (V:=2) aB dK az aL aX cK (jI eK c5) cJ).mono ?_ (λ_ _ _ a=>a)
 rintro aa S aq ⟨rfl,f8,l0,vm⟩
 refine cV ⟨?_⟩
 refine⟨rfl,Zo,l0, ?_,λe F c5=> ?_⟩
 ·by_cases aD:nm=[]
  ·subst aD
   exact cm.ad (λe F=>by rw[vm e (λB=>ce (B▸F)),Zp rfl]) _ _ bl
  ·exact cm.ad (λe F=>by rw[vm e (λB=>ce (B▸F)),Zg aD]) _ _ vk
 ·rw[vm e c5]
  split
  ·rfl
  ·exact jI e (λB=>F (B▸yH))
end
section
variable{X:cn}{h S gx a1 aT:R ag}{j aq aP bk:Nat}
structure wc(X:cn)(h2:R ag)(dM cI cZ:Nat)(p:z)(o:Int)(dA:z)(f:Int×Int)(Y:bc->Option Int)(h:R ag)(n:Nat):Prop where
 le:dM<=n
 jn:fI X h cI p o dA (.map cZ) f
 i2:n9 X h cZ (nC Y)
 low:∀e,e<dM->e≠cI->e≠cZ->Z X h e=Z X h2 e
def wc.ad{h2:R ag}{dM cI cZ:Nat}{p dA:z}{o:Int}{f:Int×Int}{Y:bc->Option Int}(a:wc X h2 dM cI cZ p o dA f Y a1 aP)(mu:cI<dM)(H1:cZ<dM)(aL:aP<=bk)(aG:∀e,e<aP->Z X aT e=Z X a1 e):wc X h2 dM cI cZ p o dA f Y aT bk:=by
 have f8:=a.le
 refine⟨Zo, ?_,a.i2.ad (aG _ Zo),λe I M ak=>by rw[aG e Zo];exact a.low e I M ak⟩
 have:=a.jn
 unfold fI at*
 rw[aG _ Zo];exact this
def A9(al:eL)(i:Nat):Int:=(al.cS[i]?).getD 0
def aqB{al:eL}{i:Nat}{w:bc}(a:al.left[i]? =some w):(nf al)[i]? =some (w,A9 al i):=by
 unfold nf
 rw[Zw,Th a];rfl
def aqC(al:eL):(nf al).length=al.left.length:=by simp[nf]
def ai6(aB:dR X){P:Nat->Prop}{cI cZ:Nat}{p dA:z}{o:Nat}{ax:List Go.aS.Node}{g:Go.aS.Node}(aL:(q X).a6<=j)(mu:(q X).a6<=cI)(vh:(q X).a6<=cZ)(wX:cI<j)(vj:cZ<j)(yL:cI≠cZ)
 (b1:∀e,P e->e<j/\e≠cI/\e≠cZ)(bX:tp X h P ax p)(aG:ax[o]? =some g)(aZ:wk X h P dA (f9 g))(ay:fI X h cI p o dA (.map cZ) (0,0))(f1:n9 X h cZ (nC λ_=>none)):
 a7 X 24 [.ptr cI 0] h j (λaa S aq=>aa= .tuple []/\fI X S cI p o dA (.map cZ) (oT ax o g)/\j<=aq/\∀e,e<j->e≠cI->e≠cZ->Z X S e=Z X h e) zK:=by
 refine Kf (afn X) (aB.none _ _ rfl) ?_
 rw[afo]
 unfold TT
 obtain⟨oV,axZ,axX,axY,rfl,yH,acD,aaE,aaD⟩:=id bX
 have Ia:=aaD.wide
 have awC:=(Zb.1 aG).1
 obtain⟨row,fN,kM⟩:=aaD.get o g aG
 have H6:=kM
 have ls:=kM.iI
 obtain⟨c1,dn,bf,ev,b0,cy,cT,fi,ba,rfl,oy,p4,p5,mv,fp⟩:=kM
 have aoh:=b1 oV yH
 have dV:aR X h (.ptr cI 0)=some (.ptr oV 0):=by unfold fI at ay;rw[bS ay];rfl
 have dv:aR X h (.ptr cI 1)=some (.Z (o:Int)):=by unfold fI at ay;rw[bS ay];rfl
 have d7:=aaE.gZ o (by rw[Ia.1];omega)
 refine u1 ⟨?_⟩
 generalize fG:bn X h j _=a1
 have il:Z X a1 j=zC [.ptr cI 0] 1:=by rw[<-fG,bv aL];rfl
 have b4:bD X h j a1 (j+1):=by rw[<-fG];exact dL
 clear fG
 have pu:∀e,P e->Z X a1 e=Z X h e:=λe F=>b4.ad e (b1 e F).1
 rw[<-b4.fA _ _ wX]at dV dv
 rw[<-b4.fA _ _ aoh.1]at acD
 have na:=(aaE.ad pu).row Zd fN
 refine gO (bS il) @dV (Za @dv (Za @acD (Za @d7 @na))) ⟨?_⟩
 refine gm (j8 (o:=6) (b:=j+1+13) (V:=0) (n:=6) (c:=R.ofList [.str [], .Z 0, .aV, .aV, .aV, .aV] 0 .nil) (bv Zo) Zo rfl Zd Zd ls) ?_
 generalize dX:bn X _ (j+1+13) _=aT
 have b5:Z X aT (j+1+13)=zC [.str g.name, .Z g.at_,c1,dn,bf,ev] 6:=by rw[<-dX,bv Zo];rfl
 have cl:bD X a1 (j+1) aT (j+1+14):=by rw[<-dX];exact dL
 clear dX
 rw[<-cl.ad _ Zo]at il
 have mY:bD X h j aT (j+1+14):=⟨Zo,λe F=>by rw[cl.ad e Zo,b4.ad e F]⟩
 have sW:∀e,P e->Z X aT e=Z X h e:=λe F=>mY.ad e (b1 e F).1
 rw[<-cl.fA _ _ Zo]at dV dv
 refine gO (bS il) @dV (bS b5) ⟨?_⟩
 refine(WN (j:=j+1+15+12) (h:=aT) aB Zo (bX.ad (bh:=P) sW (λ_ a=>a)) (λe F=>zy (b1 e F).1) g.name).Zm ?_
 rintro aa be bF ⟨rfl,cx⟩
 have iT:=cx.le
 rw[<-cx.ad _ Zo]at il b5
 rw[<-cx.fA _ _ Zo]at dV dv
 have rx:bD X h j be bF:=⟨Zo,λe F=>by rw[cx.ad e Zo,mY.ad e F]⟩
 have sX:∀e,P e->Z X be e=Z X h e:=λe F=>rx.ad e (b1 e F).1
 have wS:wc X be bF cI cZ (.ptr oV 0) o dA (0,0) (λ_=>none) be bF:=⟨Zi _,by unfold fI at*;rw[rx.ad _ wX];exact ay,f1.ad (rx.ad _ vj),λ_ _ _ _=>rfl⟩
 generalize ao6:(pj ax g.name).getD 0=M7
 have gu:lN ax o g=if M7<o then lW (0,0) 24 g.at_ else(0,0):=by unfold lN;rw[ao6]
 refine gO (bS il) @dV @dv ⟨?_⟩
 refine jK (λcN S aQ=>cN.g 1=some (.ptr j 0)/\cN.g 2=some (.ptr (j+1+13) 0)/\cN.aW=[]/\wc X be bF cI cZ (.ptr oV 0) o dA (lN ax o g) (λ_=>none) S aQ) (λW bB=> ?_) ?_
 ·by_cases cO:M7<o
  ·have aH:=zA M7 o
   rw[Zp cO]at gu
   refine eW @aH (bS il) (bS b5) ⟨?_⟩
   refine(uS (h:=be) aB mu wS.jn 24 g.at_).Zm ?_
   rintro aa bU cP ⟨rfl,tU,je,f2⟩
   refine cV ⟨?_⟩
   exact bB _ _ _ ⟨bC,bC,rfl,Zo,by rw[gu];exact tU,wS.i2.ad (f2 _ (λB=>yL B.symm)),λe I M ak=>f2 e M⟩
  ·have aH:=zz M7 o
   rw[Zg cO]at gu
   refine cr @aH ⟨?_⟩
   exact bB _ _ _ ⟨bC,bC,rfl,by rw[gu];exact wS⟩
 rintro H bU cP ⟨t1,eY,k8,pY⟩
 have je:=pY.le
 have akW:Z X bU j=zC [.ptr cI 0] 1:=by rw[pY.low _ Zo Zo Zo];exact il
 have ak1:Z X bU (j+1+13)=zC [.str g.name, .Z g.at_,c1,dn,bf,ev] 6:=by rw[pY.low _ Zo Zo Zo];exact b5
 have xn:∀e,P e->Z X bU e=Z X h e:=λe F=>by have:=b1 e F;rw[pY.low e Zo this.2.1 this.2.2,sX e F]
 show ca _ _
 refine gO @t1 @eY (Za (bS akW) (bS ak1)) ⟨?_⟩
 refine(ajp (j:=cP) (h:=bU) aB Zo mu Zo (λe F=>⟨zy (b1 e F).1,(b1 e F).2.1⟩) (aZ.ad (bh:=P) xn (λ_ a=>a)) pY.jn (H6.ad (bh:=P) xn (λ_ a=>a)) trivial).Zm ?_
 rintro aa bY cw ⟨rfl,BG,iU,oz⟩
 have hL:wc X be bF cI cZ (.ptr oV 0) o dA (mq (f9 g) g (lN ax o g)) (λ_=>none) bY cw:=⟨Zo,BG,pY.i2.ad (oz _ Zo (λB=>yL B.symm)),λe I M ak=>by rw[oz e Zo M];exact pY.low e I M ak⟩
 have ak2:Z X bY (j+1+13)=zC [.str g.name, .Z g.at_,c1,dn,bf,ev] 6:=by rw[hL.low _ Zo Zo Zo];exact b5
 have lv:=fp.wide
 have e3:=mv.len
 have kL:=mv.many
 rw[lv.1]at e3 kL
 have Qt:oT ax o g=(gq g).foldl (o2 (g.eqs.foldl (jz (f9 g) ax o) (λ_=>none,mq (f9 g) g (lN ax o g))).1) (g.eqs.foldl (jz (f9 g) ax o) (λ_=>none,mq (f9 g) g (lN ax o g))).2:=rfl
 generalize LO:((λ_=>none,mq (f9 g) g (lN ax o g)):(bc->Option Int)×(Int×Int))=mE at Qt
 have amd:wc X be bF cI cZ (.ptr oV 0) o dA mE.2 mE.1 bY cw:=by rw[<-LO];exact hL
 have hz:∀w,0<=(mE.1 w).getD 0/\(mE.1 w).getD 0<=((0:Nat):Int)*1048576:=by intro w;rw[<-LO];simp
 refine gO @eY (bS ak2) @e3 ⟨?_⟩
 refine gQ ?_
 refine f6 (λm H S aQ=>∃(W:Nat),H.g 1=some (.ptr j 0)/\H.g 2=some (.ptr (j+1+13) 0)/\H.aW=[]/\H.g 49=some ev/\H.g 50=some (.Z (g.eqs.length:Int))/\H.g 51=some (.Z (W:Int))/\W+m=g.eqs.length
  /\wc X be bF cI cZ (.ptr oV 0) o dA ((g.eqs.take W).foldl (jz (f9 g) ax o) mE).2 ((g.eqs.take W).foldl (jz (f9 g) ax o) mE).1 S aQ/\(∀w,0<=(((g.eqs.take W).foldl (jz (f9 g) ax o) mE).1 w).getD 0/\(((g.eqs.take W).foldl (jz (f9 g) ax o) mE).1 w).getD 0<=(W:Int)*1048576))
  g.eqs.length ⟨0,aY t1,aY eY,k8,bC,bC,gC,Zo,amd,hz⟩ ?_
 clear t1 eY k8
 rintro m H ck dB ⟨W,t1,eY,k8,n1,pE,uA,bB,iE,XF⟩
 have qL:=iE.le
 have akX:Z X ck j=zC [.ptr cI 0] 1:=by rw[iE.low _ Zo Zo Zo];exact il
 have ak3:Z X ck (j+1+13)=zC [.str g.name, .Z g.at_,c1,dn,bf,ev] 6:=by rw[iE.low _ Zo Zo Zo];exact b5
 have Fc:∀e,P e->Z X ck e=Z X h e:=λe F=>by have:=b1 e F;rw[iE.low e Zo this.2.1 this.2.2,sX e F]
 cases m with
 |zero=>
  have aH:=zz W g.eqs.length
  rw[ZB Zo]at iE
  generalize g.eqs.foldl (jz (f9 g) ax o) mE=G at iE Qt
  refine gV @uA @pE @eY @aH (bS ak3) ⟨?_⟩
  refine(Ky aB Zo).Zm ?_
  rintro aa cC e6 ⟨rfl,rfl,fa,cB,dN,fx⟩
  generalize EJ:dB+1=dH at*
  have xo:∀e,P e->Z X cC e=Z X h e:=λe F=>by rw[fa.ad e (zy (b1 e F).1),Fc e F]
  have yK:fI X cC cI (.ptr oV 0) o dA (.map cZ) G.2:=by have:=iE.jn;unfold fI at*;rw[fa.ad cI Zo];exact this
  have ait:Z X cC j=zC [.ptr cI 0] 1:=by rw[fa.ad _ Zo];exact akX
  refine gQ ?_
  refine Kz (P:=P) (g:=g) (b0:=b0) (cy:=cy) (cT:=cT) (c1:=c1) (dn:=dn) (bf:=bf) aB (λi S aQ=>ra X cC dH cI cZ (.ptr oV 0) o dA (.map cZ) (((gq g).take i).foldl (o2 G.1) G.2) G.1 S aQ) Zo Zo Zo Zo
   (oy.ad xo) (p4.ad xo) (p5.ad xo) cB dN fx (λi S aQ a=>⟨a.le,λe F=>a.low e (zy (b1 e F).1) (b1 e F).2.1 (b1 e F).2.2⟩)
   (λi a1 aP aT bk a f8 aG=>a.ad Zo Zo f8 aG) (λS bZ=>⟨Zi _,by unfold fI at*;rw[bZ.ad _ Zo];exact yK,(iE.i2.ad (fa.ad _ Zo)).ad (bZ.ad _ Zo),λe F _ _=>bZ.ad e F⟩) ?_ ?_
  ·intro mk i eS d dS hs aE kJ wK alu
   rw[yv (o2 G.1) _ aE]
   generalize ((gq g).take i).foldl (o2 G.1) G.2=bR at kJ ⊢
   have yP:=kJ.le
   have kg:d6 d=[.str d.name, .Z d.at_, .bool d.ty.b, .bool d.ty.s, .Z d.ty.w, .str d.on, .Z d.fX, .bool d.no]:=rfl
   rw[kg]
   unfold r9
   refine cV ⟨?_⟩
   generalize yI:bn X _ hs _=dD
   have ot:Z X dD hs=zC [.str d.name, .Z d.at_, .bool d.ty.b, .bool d.ty.s, .Z d.ty.w, .str d.on, .Z d.fX, .bool d.no] 8:=by rw[<-yI,bv Zo];rfl
   have gf:∀e,e<hs->Z X dD e=Z X dS e:=λe F=>by rw[<-yI];exact zE
   clear yI
   refine⟨by rw[gf _ Zo];exact alu, ?_⟩
   generalize vc:bn X dD (dH+1) _=h2
   have ja:Z X h2 (dH+1)=some (mk .busy none):=by rw[<-vc,bv Zo]
   have nd:∀e,e≠dH+1->Z X h2 e=Z X dD e:=λe F=>by rw[<-vc,aK Zo F]
   clear vc
   have pk:=kJ.ad (aT:=h2) (bk:=hs+1) Zo Zo Zo (λe I M=>by rw[nd e M,gf e I])
   rw[<-nd _ Zo]at ot
   have Pf:Z X h2 dH=some (.deferred (some [])):=by rw[nd _ Zo,gf _ Zo];exact wK
   have ci:aR X h2 (.ptr j 0)=some (.ptr cI 0):=by rw[bS (show Z X h2 j=_ by rw[pk.low _ Zo Zo Zo];exact ait)];rfl
   have eT:aR X h2 (.ptr cI 3)=some (.map cZ):=by have:=pk.jn;unfold fI at this;rw[bS this];rfl
   have iF:my X h2 9 (.Z 0) (.map cZ) (.str d.name) false=some (.Z ((G.1 d.name).getD 0)):=by
    rw[Cn pk.seen];unfold nC;cases G.1 d.name<;>rfl
   have jH:∀S aQ,ra X cC dH cI cZ (.ptr oV 0) o dA (.map cZ) (o2 G.1 bR (eS,d)) G.1 S aQ->Z X S dH=some (.deferred (some []))->(z.bool true=z.bool true/\ra X cC dH cI cZ (.ptr oV 0) o dA (.map cZ) (o2 G.1 bR (eS,d)) G.1 (bn X S (dH+1) (some (mk .ready none))) aQ/\Z X (bn X S (dH+1) (some (mk .ready none))) dH=some (.deferred (some []))/\Z X (bn X S (dH+1) (some (mk .ready none))) (dH+1)=some (mk .ready none)):=λS aQ a M=>
    ⟨rfl,a.ad Zo Zo (Zi _) (λe I M=>aK Zo M),by rw[aK Zo Zo];exact M,bv Zo⟩
   refine u1 ⟨?_⟩
   refine gQ ?_
   by_cases jI:eS=1
   ·have aH:decide (eS≠1)=false:=by simp[jI]
    have qI:o2 G.1 bR (eS,d)=bR:=by unfold o2;rw[Zg (by simp[jI])]
    refine cr @aH ⟨?_⟩
    rw[qI]at jH ⊢
    exact⟨⟨.busy,none,ja⟩,jH _ _ (pk.ad Zo Zo Zo (λ_ _ _=>rfl)) Pf⟩
   ·have aH:decide (eS≠1)=true:=by simp[jI]
    by_cases ce:(G.1 d.name).getD 0=0
    ·have Bk:decide ((G.1 d.name).getD 0=0)=true:=by simp[ce]
     have qI:o2 G.1 bR (eS,d)=lW bR 37 d.at_:=by unfold o2;rw[Zp ⟨jI,ce⟩]
     refine eQ @aH @t1 @ci @eT (bS ot) @iF @Bk ⟨?_⟩
     refine(uS (h:=h2) aB mu pk.jn 37 d.at_).Zm ?_
     rintro aa ahC ary ⟨rfl,PZ,anH,oA⟩
     refine cV ⟨?_⟩
     rw[qI]at jH ⊢
     have anE:=pk.le
     exact⟨⟨.busy,none,by rw[oA _ Zo];exact ja⟩,jH _ _ ⟨Zo,PZ,pk.seen.ad (oA _ Zo),λe I M ak=>by rw[oA e M];exact pk.low e I M ak⟩ (by rw[oA _ Zo];exact Pf)⟩
    ·have Bk:decide ((G.1 d.name).getD 0=0)=false:=by simp[ce]
     have qI:o2 G.1 bR (eS,d)=bR:=by unfold o2;rw[Zg (λa=>ce a.2)]
     refine eQ @aH @t1 @ci @eT (bS ot) @iF @Bk ⟨?_⟩
     rw[qI]at jH ⊢
     exact⟨⟨.busy,none,ja⟩,jH _ _ (pk.ad Zo Zo Zo (λ_ _ _=>rfl)) Pf⟩
  ·intro dS hs kJ wK
   rw[zi]at kJ
   have yP:=kJ.le
   rw[<-Qt]at kJ
   show oW X [] _ _ _ _ _
   simp only[xp,vU,k8]
   refine⟨by show(q X).a6<=dH;omega,wK, ?_⟩
   show qo _ _ _ _ _
   refine⟨rfl, ?_,Zo,λe I M ak=> ?_⟩
   ·have:=kJ.jn
    unfold fI at*
    rw[aK Zo Zo];exact this
   ·rw[aK Zo Zo,kJ.low e Zo M ak,fa.ad e Zo,iE.low e Zo M ak,rx.ad e I]
 |succ m=>
  have aH:=zA W g.eqs.length
  have bA:=zD W
  obtain⟨al,bJ⟩:=zB g.eqs W
  obtain⟨ax0,aos,BW⟩:=fp.get W al bJ
  have d7:=mv.gZ W (by rw[lv.1];omega)
  have na:=(mv.ad Fc).row Zd aos
  obtain⟨xz,AF,awb,awc,hF,rfl,iG,m8,qc,rN⟩:=BW
  have vu:=iG.len
  have ER:=iG.many
  have LI:=m8.1.len
  have aoq:=m8.1.many
  rw[show(g3 al.left).length=al.left.length from by simp[g3]]at vu ER
  rw[Zr]at LI aoq
  have cK:=yv (jz (f9 g) ax o) mE bJ
  generalize amp:(g.eqs.take W).foldl (jz (f9 g) ax o) mE=FO at iE cK XF
  refine ln @uA @pE @n1 @aH @d7 @na ⟨?_⟩
  refine gm (j8 (o:=4) (b:=dB) (V:=0) (n:=4) (c:=R.ofList [.aV, .aV, .Z 0, .cM] 0 .nil) (bv Zo) Zo rfl Zd Zd rN) ?_
  generalize lo:bn X _ dB _=cC
  have eA:Z X cC dB=zC [xz,AF, .Z al.at_,hF] 4:=by rw[<-lo,bv Zo];rfl
  have f5:∀e,e<dB->Z X cC e=Z X ck e:=λe F=>by rw[<-lo];exact zE
  clear lo
  have qG:=iE.ad (aT:=cC) (bk:=dB+1) Zo Zo Zo (λe I=>f5 e I)
  refine G9 (bS eA) @vu ⟨?_⟩
  refine gQ ?_
  refine f6 (λeH H S aQ=>∃(i:Nat),H.g 1=some (.ptr j 0)/\H.g 2=some (.ptr (j+1+13) 0)/\H.aW=[]/\H.g 49=some ev/\H.g 50=some (.Z (g.eqs.length:Int))/\H.g 51=some (.Z (W:Int))/\H.g 6=some (.ptr dB 0)/\H.g 56=some xz/\H.g 57=some (.Z (al.left.length:Int))/\H.g 58=some (.Z (i:Int))/\i+eH=al.left.length
   /\wc X be bF cI cZ (.ptr oV 0) o dA (((nf al).take i).foldl (kP (f9 g)) FO).2 (((nf al).take i).foldl (kP (f9 g)) FO).1 S aQ/\(∀w,0<=((((nf al).take i).foldl (kP (f9 g)) FO).1 w).getD 0/\((((nf al).take i).foldl (kP (f9 g)) FO).1 w).getD 0<=(W:Int)*1048576+i)
   /\dB+1<=aQ/\Z X S dB=zC [xz,AF, .Z al.at_,hF] 4)
   al.left.length ⟨0,aY t1,aY eY,k8,aY n1,aY pE,aY uA,bC,bC,bC,gC,Zo,qG,λw=>by simpa using XF w,Zo,eA⟩ ?_
  clear t1 eY k8 n1 pE uA
  rintro eH cN dS hs ⟨i,t1,eY,k8,n1,pE,uA,eZ,o1,xL,xM,aE,kJ,pm,aw4,h4⟩
  have yP:=kJ.le
  have WU:Z X dS j=zC [.ptr cI 0] 1:=by rw[kJ.low _ Zo Zo Zo];exact il
  have Ac:∀e,P e->Z X dS e=Z X h e:=λe F=>by have:=b1 e F;rw[kJ.low e Zo this.2.1 this.2.2,sX e F]
  cases eH with
  |zero=>
   have eI:=zz i al.left.length
   rw[ZB (by rw[aqC];omega)]at kJ pm
   refine eQ @xM @xL @t1 @eZ @eI (bS WU) (bS h4) ⟨?_⟩
   refine(aty (j:=hs) (h:=dS) aB Zo mu Zo (λe F=>⟨zy (b1 e F).1,(b1 e F).2.1⟩) (aZ.ad (bh:=P) Ac (λ_ a=>a)) (bX.ad (bh:=P) Ac (λ_ a=>a)) kJ.jn (cm.ad Ac _ _ qc)).Zm ?_
   rintro aa dD is ⟨rfl,PY,rJ,nK⟩
   refine dk @uA @bA ⟨?_⟩
   refine⟨m,Zo,W+1,aY t1,aY eY,k8,aY n1,aY pE,bC,Zo, ?_, ?_⟩
   ·rw[cK]
    exact⟨Zo,PY,kJ.i2.ad (nK _ Zo (λB=>yL B.symm)),λe I M ak=>by rw[nK e Zo M];exact kJ.low e I M ak⟩
   ·rw[cK]
    intro w
    have:=pm w
    simp only[jz]
    constructor
    ·exact this.1
    ·have M:=this.2
     have ak:i<=1048576:=Zo
     push_cast
     omega
  |succ eH=>
   have eI:=zA i al.left.length
   have cg:=zD i
   obtain⟨w,bQ⟩:=zB al.left i
   have w3:=iG.gZ i (by simp[g3];omega)
   have j1:=(iG.ad Ac).cell i [.str w] 0 (.str w) (by unfold g3;rw[Zw,bQ];rfl) rfl
   rw[Yc]at w3
   rw[Yc,ZS]at j1
   have qO:=yv (kP (f9 g)) FO (aqB bQ)
   generalize amo:((nf al).take i).foldl (kP (f9 g)) FO=n2 at kJ qO pm
   have amH:=pm w
   refine gO @xM @xL (Za @o1 (Za @eZ (Za @eI (Za @w3 (Za @j1 (Za (bS h4) @LI)))))) ⟨?_⟩
   refine gQ ?_
   refine gO @xM @xL (Za @o1 (Za @eZ (Za @eI (Za @w3 (Za @j1 (Za (bS h4) @LI)))))) ⟨?_⟩
   refine gQ ?_
   refine gO @xM @xL (Za @o1 (Za @eZ (Za @eI (Za @w3 (Za @j1 (Za (bS h4) @LI)))))) ⟨?_⟩
   refine jK (λrj S aQ=>rj.g 1=some (.ptr j 0)/\rj.g 2=some (.ptr (j+1+13) 0)/\rj.aW=[]/\rj.g 49=some ev/\rj.g 50=some (.Z (g.eqs.length:Int))/\rj.g 51=some (.Z (W:Int))/\rj.g 6=some (.ptr dB 0)/\rj.g 56=some xz/\rj.g 57=some (.Z (al.left.length:Int))/\rj.g 58=some (.Z (i:Int))/\rj.g 8=some (.str w)/\rj.g 9=some (.Z (A9 al i))/\S=dS/\aQ=hs) (λabr EG=> ?_) ?_
   ·by_cases HR:i<al.cS.length
    ·have h3:=zA i al.cS.length
     obtain⟨D,aC⟩:∃D,al.cS[i]? =some D:=⟨_,Zf HR⟩
     have ξ:=m8.1.gZ i (by rw[Zr];exact HR)
     have XM:=(m8.1.ad Ac).cell i [E7 D] 0 (E7 D) (by rw[Zw,aC];rfl) rfl
     rw[Yc]at ξ
     rw[Yc,ZS]at XM
     have PQ:A9 al i=D:=by unfold A9;rw[aC];rfl
     refine gV @h3 @eZ (bS h4) @ξ @XM ⟨?_⟩
     exact EG _ _ _ ⟨aY t1,aY eY,k8,aY n1,aY pE,aY uA,aY eZ,aY o1,aY xL,aY xM,bC,by refine yw ⟨?_⟩;rw[PQ];rfl,rfl,rfl⟩
    ·have h3:=zz i al.cS.length
     have PQ:A9 al i=0:=by unfold A9;rw[ZT Zo];rfl
     refine cr @h3 ⟨?_⟩
     exact EG _ _ _ ⟨aY t1,aY eY,k8,aY n1,aY pE,aY uA,aY eZ,aY o1,aY xL,aY xM,bC,by refine yw ⟨?_⟩;rw[PQ],rfl,rfl⟩
   ·clear t1 eY k8 n1 pE uA eZ o1 xL xM
    rintro rj S aQ ⟨t1,eY,k8,n1,pE,uA,eZ,o1,xL,xM,hH,t9,rfl,rfl⟩
    show ca _ _
    refine hT @t1 @hH @t9 (bS WU) ⟨?_⟩
    refine(aqz aB Zo mu vh Zo Zo yL kJ.jn (aZ.ad (bh:=P) Ac (λ_ a=>a)) (λe F=>⟨zy (b1 e F).1,(b1 e F).2.1,(b1 e F).2.2⟩) kJ.i2 w (A9 al i) ⟨amH.1,Zo⟩).Zm ?_
    rintro aa dD is ⟨rfl,PY,al4,rJ,nK⟩
    refine dk @xM @cg ⟨?_⟩
    refine⟨eH,Zo,i+1,aY t1,aY eY,k8,aY n1,aY pE,aY uA,aY eZ,aY o1,aY xL,bC,Zo, ?_, ?_,Zo,by rw[nK _ Zo Zo Zo];exact h4⟩
    ·rw[qO]
     exact⟨Zo,PY,al4,λe I M ak=>by rw[nK e Zo M ak];exact kJ.low e I M ak⟩
    ·rw[qO]
     intro x
     have af:=pm x
     simp only[kP]
     split
     ·simp only[YL];push_cast;omega
     ·push_cast;omega
end
def arC{C:aM}{h:R ag}{j r pos c:Nat}{s:bc}(U:C.a6<=r)(a:Z C h r=some (.nZ s pos))(ay:s[pos]? =some c)(I:c<128):
 va C j3 true h j (j4 (.ptr r 0))=some (.fl (.tuple [.zT, .Z (pos:Int), .int .i32 (c:Int)]) (bn C h r (some (.nZ s (pos+1)))) j):=by
 have cO:=(Zb.1 ay).1
 have bA:Nat.blt pos s.length=true:=by simp[Nat.blt];omega
 have cg:Nat.blt c 128=true:=by simp[Nat.blt];omega
 have eN:iB C r=true:=jV U
 simp only[va,j4,eN,fj,a,bA,qj,ay,cg,bp.setObj,gB]
 rfl
def arA{C:aM}{h:R ag}{j r pos:Nat}{s:bc}(U:C.a6<=r)(a:Z C h r=some (.nZ s pos))(ay:s.length<=pos):
 va C j3 true h j (j4 (.ptr r 0))=some (.val (.tuple [.zF])):=by
 have bA:Nat.blt pos s.length=false:=by
  cases bJ:Nat.blt pos s.length with
  |false=>rfl
  |true=>simp[Nat.blt]at bJ;omega
 have eN:iB C r=true:=jV U
 simp only[va,j4,eN,fj,a,bA,kE]
def akO{V:Option dI}{h S:R ag}{j aq:Nat}{ai:bN}{v:z}(a:V=some (.fl v S aq))(o:ai v S aq):Eb V h j ai:=by subst a;exact⟨o⟩
def akN{V:Option dI}{h:R ag}{j:Nat}{ai:bN}{v:z}(a:V=some (.val v))(o:ai v h j):Eb V h j ai:=by subst a;exact⟨o⟩
section
variable{X:cn}{h S gx a1 aT:R ag}{j aq aP bk:Nat}
def Rg{c:Nat}(a:ir c=true):(97<=c/\c<=122)\/(65<=c/\c<=90)\/(48<=c/\c<=57)\/c=95:=by
 simp[ir,qf,h8]at a
 omega
def arU(aB:dR X){c:Nat}(ay:ir c=true):a7 X 90 [.int .i32 (c:Int)] h j (λaa S aq=>aa= .zF/\S=h/\j<=aq) zK:=by
 refine zF aB (ahi X) ?_
 rw[ahj]
 unfold UW
 rcases Rg ay with a|a|a|a
 ·have cL:decide ((c:Int)<97)=false:=zO
  have cJ:decide ((122:Int)<(c:Int))=false:=zO
  refine dk @cL @cJ ⟨?_⟩
  exact⟨rfl,rfl,Zo⟩
 ·have cL:decide ((c:Int)<97)=true:=zN
  have cJ:decide ((c:Int)<65)=false:=zO
  have eI:decide ((90:Int)<(c:Int))=false:=zO
  refine eW @cL @cJ @eI ⟨?_⟩
  exact⟨rfl,rfl,Zo⟩
 ·have cL:decide ((c:Int)<97)=true:=zN
  have cJ:decide ((c:Int)<65)=true:=zN
  have eI:decide ((c:Int)<48)=false:=zO
  have h3:decide ((57:Int)<(c:Int))=false:=zO
  refine hT @cL @cJ @eI @h3 ⟨?_⟩
  exact⟨rfl,rfl,Zo⟩
 ·have cL:decide ((c:Int)<97)=true:=zN
  have cJ:decide ((c:Int)<65)=false:=zO
  have eI:decide ((90:Int)<(c:Int))=true:=zN
  have h3:decide ((c:Int)<48)=false:=zO
  have fM:decide ((57:Int)<(c:Int))=true:=zN
  have iz:decide ((c:Int)≠95)=false:=by simp only[Zc,ne_eq,Decidable.not_not];omega
  refine ln @cL @cJ @eI @h3 @fM @iz ⟨?_⟩
  exact⟨rfl,rfl,Zo⟩
def atH{C:aM}{s:bc}{ai:bN}(o:ai (.ptr j 0) (bn C h j (some (.nZ s 0))) (j+1)):ht (Sq C h j (.str s)) h j ai:=mc (by simp only[Sq,mz,lG,gB]) o
def aiL:dc X h .eql 4 false .zF .zF=some .zT:=Zk
def VL:dc X h .eql 4 false .zF .zT=some .zF:=Zk
def aiM:dc X h .eql 4 false .zT .zF=some .zF:=Zk
def aiN:dc X h .eql 4 false .zT .zT=some .zT:=Zk
def apF(aB:dR X){s:bc}(aD:∀c∈s,ir c=true)(aL:(q X).a6<=j):
 a7 X 91 [.str s, .func (.func 90) [] []] h j (λaa S aq=>aa= .Z (-1)/\bD X h j S aq) zK:=by
 refine zF aB (ahk X) ?_
 rw[ahl]
 unfold UX
 refine zF aB (aeL X) ?_
 rw[aeM]
 unfold Tz
 refine atH ?_
 generalize fG:bn X h j _=a1
 have cb:Z X a1 j=some (.nZ s 0):=by rw[<-fG,bv aL]
 have b4:bD X h j a1 (j+1):=by rw[<-fG];exact dL
 clear fG
 refine cV ⟨?_⟩
 refine f6 (λm H S aQ=>∃(W:Nat),H.g 1=some (.func (.func 90) [] [])/\H.g 2=some .zT/\H.g 10=some (.ptr j 0)/\W+m=s.length/\Z X S j=some (.nZ s W)/\bD X h j S aQ/\j+1<=aQ)
  s.length ⟨0,bC,bC,bC,Zo,cb,b4,Zo⟩ ?_
 rintro m H aT bk ⟨W,t1,eY,k6,bB,b5,cl,nL⟩
 cases m with
 |zero=>
  refine cr @k6 ⟨?_⟩
  refine akN (arA aL b5 Zo) ?_
  refine cV ⟨?_⟩
  exact⟨rfl,cl⟩
 |succ m=>
  obtain⟨c,ay⟩:=zB s W
  have aX:=aD c (Zl ay)
  have alR:c<128:=zy (Rg aX)
  refine cr @k6 ⟨?_⟩
  refine akO (arC aL b5 ay alR) ?_
  refine cr @t1 ⟨?_⟩
  generalize gt:bn X aT j _=be
  have cG:Z X be j=some (.nZ s (W+1)):=by rw[<-gt,bv aL]
  have cx:bD X h j be bk:=⟨cl.le,λe F=>by rw[<-gt,aK aL Zo];exact cl.ad e F⟩
  clear gt
  refine(arU aB aX).Zm ?_
  rintro aa bU cP ⟨rfl,rfl,je⟩
  refine dk @eY @VL ⟨?_⟩
  refine⟨m,Zo,W+1,aY t1,aY eY,aY k6,Zo,cG,⟨zy cx.le,cx.ad⟩,Zo⟩
end
def adb:List bc:=[[110,111,100,101],[114,101,116,117,114,110,115],[118,97,114],[108,101,116],[116,101,108],[119,104,101,110],[110,111,116],[111,114],[120,111,114],[97,110,100],[112,114,101],[102,98,121],[105,102],[116,104,101,110],[101,108,115,101],[109,101,114,103,101],[116,114,117,101],[102,97,108,115,101]]
def atn:∀w∈adb,w∈ta:=by decide
structure sg(X:cn):Prop where
 a6:2<X.a6
 at_:∀h,∃b bf,aR X h (.ptr 3 0)=some bf/\ee X h (λe=>e<X.a6) b bf 1 (g3 adb)
section
variable{X:cn}{h S gx a1 aT:R ag}{j aq aP bk:Nat}{s:bc}
def aj9:dc X h .eql 115 true .nilIface .nilIface=some .zT:=Zk
def aka(b:Nat):dc X h .eql 115 true (.iface 155 (.ptr b 0)) .nilIface=some .zF:=Zk
def ajd(aB:dR X){b:Nat}{bf:z}{P:Nat->Prop}{mg:List bc}(U:ee X h P b bf 1 (g3 mg))(aD:s∉mg):
 a7 X 92 [bf, .str s] h j (λaa S aq=>aa= .zF/\bD X h j S aq) zK:=by
 refine zF aB (ahm X) ?_
 rw[ahn]
 unfold UY
 refine a7.mono (ai:=λaa S aq=>aa= .Z (-1)/\bD X h j S aq) (aw:=λ_ _ _=>False) ?_ ?_ (λ_ _ _ a=>a.elim)
 ·refine zF aB (aeN X) ?_
  rw[aeO]
  unfold TA
  have e3:=U.len
  have kL:=U.many
  rw[show(g3 mg).length=mg.length from by simp[g3]]at e3 kL
  refine cr @e3 ⟨?_⟩
  refine f6 (λm H S aQ=>∃(W:Nat),H.g 0=some bf/\H.g 1=some (.str s)/\H.g 7=some (.Z (mg.length:Int))/\H.g 8=some (.Z (W:Int))/\W+m=mg.length/\S=h/\aQ=j)
   mg.length ⟨0,bC,bC,bC,gC,Zo,rfl,rfl⟩ ?_
  rintro m H aT bk ⟨W,t0,t1,gT,hH,bB,rfl,rfl⟩
  cases m with
  |zero=>
   have d:=zz W mg.length
   refine eW @hH @gT @d ⟨?_⟩
   exact⟨rfl,bD.refl _ _⟩
  |succ m=>
   have d:=zA W mg.length
   have bA:=zD W
   obtain⟨w,bQ⟩:=zB mg W
   have d7:=U.gZ W (by simp[g3];omega)
   have j1:=U.cell W [.str w] 0 (.str w) (by unfold g3;rw[Zw,bQ];rfl) rfl
   rw[Yc]at d7
   rw[Yc,ZS]at j1
   have c5:s≠w:=λB=>aD (by rw[B];exact Zl bQ)
   have cJ:decide (s=w)=false:=by simp[c5]
   refine eQ @hH @gT @t1 @t0 @d @d7 (Za @j1 (Za @cJ @bA)) ⟨?_⟩
   exact⟨m,Zo,W+1,aY t0,aY t1,aY gT,bC,Zo,rfl,rfl⟩
 ·rintro aa a1 aP ⟨rfl,bZ⟩
  refine cV ⟨?_⟩
  exact⟨rfl,bZ⟩
def adN(aB:dR X)(t:hS)(aL:(q X).a6<=j):a7 X 94 [.agg (k7 t)] h j (λaa S aq=>aa= .str (mF t)/\bD X h j S aq) zK:=by
 refine zF aB (ahq X) ?_
 rw[ahr]
 unfold U0
 have aZ:k7 t=[.bool t.b, .bool t.s, .Z t.w]:=rfl
 rw[aZ]
 refine cV ⟨?_⟩
 refine e1 (λa1=>Z X a1 j=zC [.bool t.b, .bool t.s, .Z t.w] 3/\bD X h j a1 (j+1)) ⟨bv aL,dL⟩ ?_
 rintro a1 ⟨cb,b4⟩
 refine(Ct aB t Zo).Zm ?_
 rintro aa aT bk ⟨rfl,cl⟩
 have gP:=cl.le
 have bZ:=b4.trans cl
 have b5:Z X aT j=zC [.bool t.b, .bool t.s, .Z t.w] 3:=by rw[cl.ad _ Zo];exact cb
 have dV:aR X aT (.ptr j 0)=some (.bool t.b):=by rw[bS b5];rfl
 have dv:aR X aT (.ptr j 1)=some (.bool t.s):=by rw[bS b5];rfl
 have dK:aR X aT (.ptr j 2)=some (.Z t.w):=by rw[bS b5];rfl
 cases aX:km t with
 |false=>
  refine cV ⟨?_⟩
  exact⟨by simp[mF,aX],bZ⟩
 |true=>
  cases l1:t.b with
  |true=>
   rw[l1]at dV
   refine cr @dV ⟨?_⟩
   exact⟨by simp[mF,aX,l1],bZ⟩
  |false=>
   rw[l1]at dV
   have bQ:1<=t.w/\t.w<=64:=by simpa[km,l1]using aX
   obtain⟨w,xi⟩:=Yb (by omega:0<=t.w)
   rw[xi]at dK
   have aE:iV t.w.toNat=iV w:=by rw[xi];rfl
   have eD:(iV w).length<=2:=by unfold iV;split<;>simp
   have sr:∀h c,dc X h .add 9 true (.str [c]) (.str (iV w))=some (.str (c::iV w)):=λh c=>by
    have:Nat.ble ([c].length+(iV w).length) 1000000000=true:=jV Zx
    simp only[dc,wl,this,fj];rfl
   cases k0:t.s with
   |true=>
    rw[k0]at dv
    refine eW @dV @dv @dK ⟨?_⟩
    refine(L3 aB Zo).Zm ?_
    rintro aa be bF ⟨rfl,rfl,rfl⟩
    refine cr @sr ⟨?_⟩
    exact⟨by simp[mF,aX,l1,k0,aE],bZ⟩
   |false=>
    rw[k0]at dv
    refine eW @dV @dv @dK ⟨?_⟩
    refine(L3 aB Zo).Zm ?_
    rintro aa be bF ⟨rfl,rfl,rfl⟩
    refine cr @sr ⟨?_⟩
    exact⟨by simp[mF,aX,l1,k0,aE],bZ⟩
def apK{c:Nat}(a:ir c=true):c<256:=zy (Rg a)
def avh(aB:ix X)(bZ:lT X)(aD:wd s)(aL:(q X).a6<=j):
 a7 X 93 [.str s] h j (λaa S aq=>aa= .zF/\bD X h j S aq) zK:=by
 refine zF aB.todR (aho X) ?_
 rw[ahp]
 unfold UZ
 cases s with
 |nil=>exact absurd rfl aD.ne
 |cons c k=>
  cases k with
  |nil=>
   have mV:decide (((1:Nat):Int)<2)=true:=rfl
   refine cr @mV ⟨?_⟩
   exact⟨rfl,dL⟩
  |cons dK k=>
   have cL:decide ((((dK::k).length+1:Nat):Int)<2)=false:=by simp only[Zc,ZG];omega
   have nP:md (.str (c::dK::k)) (some (.Z 1)) none=some (.str (dK::k)):=M0 (k:=1) .i64 Zs
   have d7:nc (.str (c::dK::k)) (.Z 0)=some (.int .u8 (c:Int)):=y8 (i:=0) .i64 rfl
   have e3:lK (.str (c::dK::k))=some (.Z ((c::dK::k).length:Int)):=vD _
   have kK:=aD.all
   have eD:=aD.len
   have vf:c::dK::k≠[98,111,111,108]:=λB=>by have:=aD.ty;rw[B]at this;cases this
   have cJ:decide (c::dK::k=[98,111,111,108])=false:=by simp only[Zc];exact vf
   have Ij:=aD.ty
   generalize lZ:dK::k=m at*
   have fM:decide ((c:Int)=105)=decide (c=105):=by simp;omega
   refine gm e3 ?_
   refine dk @cL @nP ⟨?_⟩
   refine(VA aB bZ (by simp at eD;omega) (λx af=>apK (kK x (Zt _ af))) (acr (λx af=>kK x (Zt _ af))) Zo).Zm ?_
   rintro aa aT bk ⟨⟨br,B,rfl,bl,af⟩,cl⟩
   have gP:=cl.le
   rcases bl with rfl|⟨b,rfl⟩
   ·refine hT @cJ @aj9 @d7 @fM ⟨?_⟩
    refine(adN (j:=bk) (h:=aT) aB.todR ⟨false,decide (c=105),br⟩ Zo).Zm ?_
    rintro aa be bF ⟨rfl,cx⟩
    have aH:decide (c::m=mF ⟨false,decide (c=105),br⟩)=false:=by
     simp only[Zc]
     intro a
     cases aX:km ⟨false,decide (c=105),br⟩with
     |false=>simp[mF,aX]at a
     |true=>
      have ce:1<=br/\br<=64:=by simpa[km]using aX
      obtain⟨n,rfl⟩:=Yb (by omega:0<=br)
      simp only[mF,aX,ZE,Zu,ZD]at a
      have I:=(List.cons.inj a).1
      have M:=(List.cons.inj a).2
      have P0:c=105\/c=117:=by
       by_cases ay:c=105
       ·exact .inl ay
       ·simp[ay]at I;exact .inr I
      exact adM Ij P0 (n:=n) Zo Zo (by simpa using M.symm)
    refine cr @aH ⟨?_⟩
    exact⟨rfl,cl.trans cx⟩
   ·refine dk @cJ @aka ⟨?_⟩
    exact⟨rfl,cl⟩
def IP(aB:ix X)(bZ:lT X)(eo:sg X)(aD:wd s)(aL:(q X).a6<=j):
 a7 X 65 [.str s] h j (λaa S aq=>aa= .zT/\bD X h j S aq) zK:=by
 refine zF aB.todR (agu X) ?_
 rw[agv]
 unfold Ux
 have c5:=aD.ne
 have cL:decide (s=[])=false:=by simp[c5]
 have eD:=aD.len
 have cJ:decide ((32:Int)<(s.length:Int))=false:=zO
 obtain⟨c,ay⟩:∃c,s.head?=some c:=by cases s with|nil=>exact absurd rfl c5|cons c k=>exact⟨c,rfl⟩
 have wU:=aD.aiD c ay
 have d7:nc (.str s) (.Z 0)=some (.int .u8 (c:Int)):=y8 (i:=0) .i64 (by rw[<-List.head?_eq_getElem?];exact ay)
 have Ex:65<=c:=by simp[qf]at wU;omega
 have eI:decide ((48:Int)<=(c:Int))=true:=zN
 have h3:decide ((c:Int)<=57)=false:=zO
 refine gV @cL @cJ @d7 @eI @h3 ⟨?_⟩
 refine(apF aB.todR aD.all aL).Zm ?_
 rintro aa a1 aP ⟨rfl,b4⟩
 have ju:=b4.le
 obtain⟨b,bf,nP,cW⟩:=eo.at_ a1
 have yp:decide ((0:Int)<= -1)=false:=rfl
 refine dk @nP @yp ⟨?_⟩
 refine(ajd (j:=aP) aB.todR cW (λa=>aD.res (atn _ a))).Zm ?_
 rintro aa aT bk ⟨rfl,cl⟩
 have gP:=cl.le
 refine cV ⟨?_⟩
 refine(avh (j:=bk) (h:=aT) aB bZ aD Zo).Zm ?_
 rintro aa be bF ⟨rfl,cx⟩
 refine cV ⟨?_⟩
 exact⟨rfl,(b4.trans cl).trans cx⟩
end
section
variable{X:cn}{h S gx a1 aT:R ag}{j aq aP bk:Nat}{s:bc}
def Tg:List z:=[.str [], .Z 0, .zF, .zF, .Z 0, .str [], .Z 0, .zF]
def alC(n:Nat):Ew X h j .append [35,3] [.aV, .Z (n:Int)]=bK (Nat.ble n 1048576) (bK (Nat.beq n 0) (some (.val .aV)) (sD X h j n 8 (kp n Tg))) none:=Zk
def CR(n:Nat)(k:List z):(kp n k).length=n*k.length:=by
 induction n with
 |zero=>simp[kp]
 |succ n ah=>simp[kp,ah,Z3];omega
def aiY:rm X h .cap [35] [.aV]=some (.Z 0):=Zk
def aui:xK X h 8 .aV none (some (.Z 0)) none=some .aV:=by rfl
def auk{dH n m:Nat}{c:R z}(a:Z X h dH=some (.cells c m (.grow []))):xK X h 8 (.fh dH 0 n 8) none (some (.Z 0)) none=some (.fh dH 0 0 8):=by
 have bA:qh (some (.Z 0)) (m/8) n=some 0:=by simp[qh,arx]
 have cg:∀D b:Nat,qh none D b=some b:=λD b=>rfl
 have eN:xJ X h dH=some m:=by simp[xJ,a]
 have iP:Nat.blt 0 8=true:=rfl
 simp only[xK,eN,nw,zf,cg,bA]
 simp[iP]
def as9{C:aM}{P:Nat->Prop}{b aO:Nat}{bf:z}{ba:List (List z)}(a:ee C h P b bf aO ba)(ce:0<aO):kS C h aO bf=some (ba.length,ba.flatten):=by
 have HP:=u0 a.wide
 have key:∀dT V n:Nat,n=ba.length->(∀i,i<ba.length->some (z.ptr dT (V+i*aO))=some (.ptr b (i*aO)))->mo C h dT V (n*aO)=some ba.flatten:=by
  intro dT V n aL aE
  subst aL
  by_cases a2:ba.length=0
  ·have:ba=[]:=Yd a2
   subst this
   simp only[mo]
   cases ay:cellsOf C h dT with
   |none=>simp
   |some c=>simp[W2]
  ·have I:=aE 0 Zo
   simp at I
   obtain⟨rfl,rfl⟩:=I
   obtain⟨r,U⟩:=zB ba 0
   have rP:=a.wide r (Zl U)
   obtain⟨v,bt⟩:=zB r 0
   have m6:=a.cell 0 r 0 v U bt
   simp only[zr,ZS]at m6
   have BH:∃c,cellsOf C h dT=some c:=by
    simp only[aR]at m6
    cases ay:cellsOf C h dT with
    |none=>rw[ay]at m6;cases m6
    |some c=>exact⟨c,rfl⟩
   obtain⟨c,ay⟩:=BH
   simp only[mo,ay]
   rw[<-HP]
   refine W0 _ _ λW v bB=> ?_
   have rI:=(Zb.1 bB).1
   rw[HP]at rI
   have bJ:W/aO<ba.length:=Nat.div_lt_of_lt_mul (by rw[zv];exact rI)
   obtain⟨fy,kN⟩:∃r,ba[W/aO]? =some r:=⟨_,Zf bJ⟩
   have axi:=a.wide fy (Zl kN)
   have aX:W%aO<aO:=Nat.mod_lt _ ce
   obtain⟨gp,xh⟩:∃v,fy[W%aO]? =some v:=⟨_,Zf Zo⟩
   have M:=a.cell (W/aO) fy (W%aO) gp kN xh
   have ak:=O1 ba a.wide (W/aO) fy (W%aO) gp kN xh
   have aA:W/aO*aO+W%aO=W:=by rw[zv];exact Nat.div_add_mod W aO
   rw[aA]at M ak
   rw[bB]at ak
   cases ak
   simp only[aR,ay]at M
   rw[ZQ]
   exact M
 have az:=a.len
 cases bf with
 |slice dT V n cap=>
  have aL:n=ba.length:=by rw[sY]at az;simp at az;omega
  have aE:∀i,i<ba.length->some (z.ptr dT (V+i*aO))=some (.ptr b (i*aO)):=λi aE=>by
   have:=a.gZ i aE
   rw[<-this]
   have B:Nat.blt i n=true:=by simp[Nat.blt];omega
   simp only[hr,qT,AN,B,fj]
  have aG:=key dT V n aL aE
  subst aL
  simp only[kS,aG]
 |fh dT V n vW=>
  have aL:n=ba.length:=by rw[vC]at az;simp at az;omega
  have aE:∀i,i<ba.length->some (z.ptr dT (V+i*aO))=some (.ptr b (i*aO)):=λi aE=>by
   have:=a.gZ i aE
   rw[<-this]
   have B:Nat.blt i n=true:=by simp[Nat.blt];omega
   simp only[hr,qT,AN,B,fj]
  have aG:=key dT V n aL aE
  subst aL
  simp only[kS,aG]
 |aV=>
  have aL:(0:Int)=ba.length:=by rw[Ai]at az;simpa using az
  have:ba=[]:=Yd Zo
  subst this
  rfl
 |_=>simp[gl]at az
def atI{dH n r m:Nat}{c:R z}{x:z}{k:List z}{ai:bN}(aj:Z X h dH=some (.cells c (m*8) (.grow [])))(aI:(q X).a6<=dH)(af:kS X h 8 x=some (r,k))(az:k.length=r*8)(U:n+r<=m)(I:Go.bp.iI k=true)
 (o:∀S gA,Z X S dH=some (.cells gA (m*8) (.grow []))->(∀i,gA.get i=if n*8<=i/\i<n*8+k.length then k[i-n*8]? else c.get i)->(∀e,e≠dH->Z X S e=Z X h e)->ai (.fh dH 0 (n+r) 8) S j):
 ht (kC X h j 8 (.fh dH 0 n 8) x) h j ai:=by
 by_cases a2:r=0
 ·subst a2
  have:k=[]:=Yd Zo
  subst this
  have bA:kC X h j 8 (.fh dH 0 n 8) x=some (.val (.fh dH 0 n 8)):=by
   simp only[kC,af]
   simp[DO,xJ,aj]
   omega
  refine atl bA ?_
  exact o h c aj (λi=>by rw[Zg Zs]) (λ_ _=>rfl)
 ·have cg:Nat.ble ((n+r)*8) (m*8)=true:=jV Zo
  have eN:Nat.ble (n*8+k.length) (m*8)=true:=jV Zo
  have GY:Nat.beq 8 8=true:=rfl
  have iP:iB X dH=true:=jV aI
  have pg:kC X h j 8 (.fh dH 0 n 8) x=some (.fl (.fh dH 0 (n+r) 8) (Go.bp.bn X h dH (some (.cells (dP c (n*8) k) (m*8) (.grow [])))) j):=by
   simp only[kC,af]
   rw[hw,Zg a2]
   simp only[wo,Gy,aj,iP,GY,fj,cg,og,eN,I,Yu,gB,k4,ZQ]
  refine mc pg ?_
  refine o _ _ (bv aI) (λi=> ?_) (λe F=>aK aI F)
  rw[nq]
def aua(aB:dR X){n:Nat}(a2:0<n)(I:n<=300000)(aL:(q X).a6<=j):
 a7 X 95 [.aV, .Z (n:Int)] h j (λaa S aq=>aa= .fh j 0 0 8/\(∃c,Z X S j=some (.cells c (n*8) (.grow [])))/\bD X h j S aq/\j<aq) zK:=by
 refine zF aB (ahs X) ?_
 rw[aht]
 unfold U1
 have cL:decide ((n:Int)<0)=false:=zO
 have cJ:decide ((0:Int)<(n:Int))=true:=zN
 have bA:bg .sub (.Z 0) (.Z 0)=some (.Z 0):=vx Zo Zo
 have cg:bg .sub (.Z (n:Int)) (.Z 0)=some (.Z (n:Int)):=by rw[vx Zo Zo];simp
 have eN:Ew X h j .append [35,3] [.aV, .Z (n:Int)]=some (.fl (.fh j 0 n 8) (bn X h j (some (.cells (R.ofList (kp n Tg) 0 .nil) (n*8) (.grow [])))) (j+1)):=by
  rw[alC,jV Zo,fj,hw,Zg Zo]
  simp only[sD,jV (show n<=1048576 by omega),fj,mz,lG,gB,CR]
  rfl
 refine ln @cL @aiY @bA @cg @cJ @aui ⟨?_⟩
 refine mc eN ?_
 generalize fG:bn X h j _=a1
 have cb:Z X a1 j=some (.cells (R.ofList (kp n Tg) 0 .nil) (n*8) (.grow [])):=by rw[<-fG,bv aL]
 have b4:bD X h j a1 (j+1):=by rw[<-fG];exact dL
 clear fG
 have iP:=auk (n:=n) cb
 refine cr @iP ⟨?_⟩
 exact⟨rfl,⟨_,cb⟩,b4,Zo⟩
def yk(k:List (List ep)):Nat:=(k.map List.length).sum
def ajb(aB:dR X){P:Nat->Prop}{pQ b0 cy cT:Nat}{c1 dn bf:z}{A bd Y:List ep}(aL:(q X).a6<=j)(HA:pQ<j)(aC:Z X h pQ=zC [c1,dn,bf] 3)
 (I:ee X h P b0 c1 8 (A.map d6))(M:ee X h P cy dn 8 (bd.map d6))(ak:ee X h P cT bf 8 (Y.map d6))(b1:∀e,P e->e<j)(a2:0<A.length+bd.length+Y.length)(aX:A.length+bd.length+Y.length<=300000):
 a7 X 67 [.slice pQ 0 3 3] h j (λaa S aq=>∃b,ee X S (ec j aq) b aa 8 ((A++(bd++Y)).map d6)/\bD X h j S aq) zK:=by
 refine zF aB (agy X) ?_
 rw[agz]
 unfold Uz
 have LQ:∀W,W<3->∃s b L,[c1,dn,bf][W]? =some s/\ee X h P b s 8 (L.map d6)/\([A,bd,Y]:List (List ep))[W]? =some L/\L.length<=300000:=by
  intro W bB
  match W,bB with
  |0,_=>exact⟨c1,b0,A,rfl,I,rfl,Zo⟩
  |1,_=>exact⟨dn,cy,bd,rfl,M,rfl,Zo⟩
  |2,_=>exact⟨bf,cT,Y,rfl,ak,rfl,Zo⟩
 have m6:∀S W s,Z X S pQ=zC [c1,dn,bf] 3->[c1,dn,bf][W]? =some s->aR X S (.ptr pQ W)=some s:=λS W s a aD=>by rw[bS a,lO];exact aD
 obtain⟨kY,vg⟩:∃kY:Nat->Nat,∀W,kY W=yk (([A,bd,Y]:List (List ep)).take W):=⟨_,λ_=>rfl⟩
 obtain⟨wI,sJ⟩:∃wI:Nat->List ep,∀W,wI W=(([A,bd,Y]:List (List ep)).take W).flatten:=⟨_,λ_=>rfl⟩
 have X5:∀W L,([A,bd,Y]:List (List ep))[W]? =some L->wI (W+1)=wI W++L:=by
  intro W L a
  rw[sJ,sJ,YA,a];simp
 have HH:∀W,kY W=(wI W).length:=λW=>by rw[vg,sJ];unfold yk;rw[List.length_flatten]
 have cK:∀W L,([A,bd,Y]:List (List ep))[W]? =some L->kY (W+1)=kY W+L.length:=by
  intro W L a
  rw[HH,HH,X5 W L a,ZP]
 have f8:∀W,kY W<=A.length+bd.length+Y.length:=by
  intro W
  rw[vg]
  match W with
  |0=>simp[yk]
  |1=>simp[yk];omega
  |2=>simp[yk]
  |n+3=>simp[yk];omega
 have Xh:kY 3=A.length+bd.length+Y.length:=by rw[vg];simp[yk];omega
 have Bw:kY 0=0:=by rw[vg];simp[yk]
 have akt:wI 0=[]:=by rw[sJ];rfl
 refine cV ⟨?_⟩
 refine f6 (λm H S aQ=>∃(W:Nat),H.g 0=some (.slice pQ 0 3 3)/\H.g 9=some (.slice pQ 0 3 3)/\H.g 10=some (.Z 3)/\H.g 11=some (.Z (W:Int))/\H.g 3=some (.Z (kY W:Nat))/\W+m=3/\S=h/\aQ=j)
  3 ⟨0,bC,bC,gC,gC,by refine yw ⟨?_⟩;rw[Bw];rfl,Zo,rfl,rfl⟩ ?_
 rintro m H a1 aP ⟨W,t0,t9,k6,te,t3,bB,rfl,rfl⟩
 cases m with
 |succ m=>
  have d:decide ((W:Int)<3)=true:=zN
  have bA:=zD W
  obtain⟨s,b,L,aD,cW,gj,amg⟩:=LQ W Zo
  have w8:=f8 W
  have d7:hr 1 (.slice pQ 0 3 3) (.Z (W:Int))=some (.ptr pQ W):=by rw[Iv _ Zo];simp
  have ay:=m6 _ W s aC aD
  have e3:=cW.len
  rw[Zr]at e3
  have cg:bg .add (.Z ((kY W:Nat):Int)) (.Z (L.length:Int))=some (.Z ((kY (W+1):Nat):Int)):=by
   rw[cK W L gj,eO Zo Zo];simp
  have cJ:decide (((kY (W+1):Nat):Int)<0)=false:=zO
  refine eQ @te @k6 @t9 @t3 @d @d7 (Za @ay (Za @e3 (Za @cg (Za @cJ @bA)))) ⟨?_⟩
  exact⟨m,Zo,W+1,aY t0,aY t9,aY k6,bC,bC,Zo,rfl,rfl⟩
 |zero=>
  have d:decide ((W:Int)<3)=false:=zO
  have EF:W=3:=Zo
  subst EF
  rw[Xh]at t3
  refine hT @te @k6 @t3 @d ⟨?_⟩
  refine(aua aB a2 aX aL).Zm ?_
  rintro aa aT bk ⟨rfl,⟨dK,b5⟩,cl,nL⟩
  generalize yG:A.length+bd.length+Y.length=dQ at*
  refine cr @t0 ⟨?_⟩
  refine f6 (λm H S aQ=>∃(W:Nat) (c:R z),H.g 25=some (.slice pQ 0 3 3)/\H.g 26=some (.Z 3)/\H.g 27=some (.Z (W:Int))/\H.g 6=some (.fh aP 0 (kY W) 8)/\W+m=3/\aP<aQ/\bD X a1 aP S aQ
   /\Z X S aP=some (.cells c (dQ*8) (.grow []))/\∀(i:Nat) v,((wI W).map d6).flatten[i]? =some v->c.get i=some v)
   3 ⟨0,dK,bC,gC,gC,by refine yw ⟨?_⟩;rw[Bw],Zo,nL,cl,b5,λi v a=>by rw[akt]at a;simp at a⟩ ?_
  clear t0 t9 k6 te t3
  rintro m H be bF ⟨W,gM,uz,tf,SV,eZ,bB,yQ,cx,cG,sH⟩
  have HP:∀L:List ep,((L.map d6).flatten).length=L.length*8:=λL=>by
   have:=u0 (ba:=L.map d6) (aO:=8) (by intro r U;obtain⟨d,_,rfl⟩:=ZK.1 U;rfl)
   rw[this,Zr]
  cases m with
  |zero=>
   have d:decide ((W:Int)<3)=false:=zO
   have EF:W=3:=Zo
   subst EF
   rw[Xh]at eZ
   refine hT @SV @tf @eZ @d ⟨?_⟩
   have kK:wI 3=A++(bd++Y):=by rw[sJ];simp
   rw[kK]at sH
   have eD:(A++(bd++Y)).length=dQ:=by simp;omega
   refine⟨aP,⟨λ_=>⟨Zo,Zo⟩,by rw[Zr,eD];omega,by intro r U;obtain⟨d,_,rfl⟩:=ZK.1 U;rfl,by rw[vC,Zr,eD],λi aE=>by rw[Iw _ (by rw[Zr,eD]at aE;omega),ZQ],λi r abr v aE EG=> ?_⟩,cx⟩
   rw[bS cG]
   exact sH _ _ (O1 _ (by intro r U;obtain⟨d,_,rfl⟩:=ZK.1 U;rfl) i r abr v aE EG)
  |succ m=>
   have d:decide ((W:Int)<3)=true:=zN
   have bA:=zD W
   obtain⟨s,b,L,aD,cW,gj,amg⟩:=LQ W Zo
   have d7:hr 1 (.slice pQ 0 3 3) (.Z (W:Int))=some (.ptr pQ W):=by rw[Iv _ Zo];simp
   have amt:Z X be pQ=zC [c1,dn,bf] 3:=by rw[cx.ad _ HA];exact aC
   have ay:=m6 _ W s amt aD
   have jJ:=as9 (cW.ad (S:=be) (λe F=>cx.ad e (b1 e F))) Zd
   rw[Zr]at jJ
   have I:=cK W L gj
   have M:=f8 (W+1)
   refine eQ @SV @tf @uz @eZ @d @d7 @ay ⟨?_⟩
   refine atI cG Zo jJ (HP L) Zo ?_ ?_
   ·clear jJ
    have:∀dQ:List ep,Go.bp.iI (dQ.map d6).flatten=true:=by
     intro dQ
     induction dQ with
     |nil=>rfl
     |cons d dQ ah=>simpa[d6,Go.bp.iI,nV]using ah
    exact this L
   ·intro bU yj er tU f2
    refine dk @SV @bA ⟨?_⟩
    refine⟨m,Zo,W+1,yj,aY uz,aY tf,bC,by refine yw ⟨?_⟩;rw[I],Zo,yQ,⟨cx.le,λe F=>by rw[f2 e Zo];exact cx.ad e F⟩,er,λi v aE=> ?_⟩
    rw[X5 W L gj]at aE
    simp only[zj,Yw]at aE
    have rL:(((wI W).map d6).flatten).length=kY W*8:=by
     rw[HP,HH]
    rw[tU]
    by_cases cO:i<kY W*8
    ·rw[Zg Zo]
     rw[Z2 Zo]at aE
     exact sH i v aE
    ·rw[ZF Zo,rL]at aE
     have:=(Zb.1 aE).1
     rw[Zp ⟨Zo,Zo⟩]
     exact aE
end
section
variable{X:cn}{h S gx a1 aT:R ag}{j aq aP bk:Nat}{s:bc}
def atW{t:hS}(a:km t=true):mF t≠[]:=by
 unfold mF
 rw[Zp a]
 split<;>simp
def ajm(aB:ix X)(bZ:lT X)(eo:sg X){P:Nat->Prop}{b:Nat}{bf:z}{ds:List ep}(aL:(q X).a6<=j)(cW:ee X h P b bf 8 (ds.map d6))(b1:∀e,P e->e<j)(bQ:∀d∈ds,mi ij d):
 a7 X 66 [bf] h j (λaa S aq=>aa= .zT/\bD X h j S aq) zK:=by
 refine zF aB.todR (agw X) ?_
 rw[agx]
 unfold Uy
 have e3:=cW.len
 have kL:=cW.many
 rw[Zr]at e3 kL
 refine cr @e3 ⟨?_⟩
 refine f6 (λm H S aQ=>∃(W:Nat),H.g 5=some bf/\H.g 6=some (.Z (ds.length:Int))/\H.g 7=some (.Z (W:Int))/\W+m=ds.length/\bD X h j S aQ)
  ds.length ⟨0,bC,bC,gC,Zo,bD.refl _ _⟩ ?_
 rintro m H a1 aP ⟨W,t5,eZ,gT,bB,b4⟩
 have ju:=b4.le
 cases m with
 |zero=>
  have d:=zz W ds.length
  refine eW @gT @eZ @d ⟨?_⟩
  exact⟨rfl,b4⟩
 |succ m=>
  have aju:=zA W ds.length
  have bA:=zD W
  obtain⟨d,aI⟩:=zB ds W
  have vi:=bQ d (Zl aI)
  have d7:=cW.gZ W (by rw[Zr];omega)
  have fN:=(cW.ad (λe F=>b4.ad e (b1 e F))).row (i:=W) (r:=d6 d) Zd (by rw[Zw,aI];rfl)
  have kg:d6 d=[.str d.name, .Z d.at_, .bool d.ty.b, .bool d.ty.s, .Z d.ty.w, .str d.on, .Z d.fX, .bool d.no]:=rfl
  rw[kg]at fN
  refine ln @gT @eZ @t5 @aju @d7 @fN ⟨?_⟩
  generalize dX:bn X _ aP _=aT
  have b5:Z X aT aP=zC [.str d.name, .Z d.at_, .bool d.ty.b, .bool d.ty.s, .Z d.ty.w, .str d.on, .Z d.fX, .bool d.no] 8:=by rw[<-dX,bv Zo];rfl
  have cl:bD X h j aT (aP+1):=⟨Zo,λe F=>by rw[<-dX];simp(disch:=omega) only[aK];exact b4.ad e F⟩
  clear dX
  refine cr (bS b5) ⟨?_⟩
  refine(IP (j:=aP+1) (h:=aT) aB bZ eo vi.name Zo).Zm ?_
  rintro aa be bF ⟨rfl,cx⟩
  have iT:=cx.le
  rw[<-cx.ad _ Zo]at b5
  have EZ:k7 d.ty=[.bool d.ty.b, .bool d.ty.s, .Z d.ty.w]:=rfl
  have w6:d0 X be 3 (.ptr aP 2)=some (.agg (k7 d.ty)):=by
   rw[vB,bS b5,bS b5,bS b5];rfl
  refine cr @w6 ⟨?_⟩
  refine(adN (j:=bF) (h:=be) aB.todR d.ty Zo).Zm ?_
  rintro aa bU cP ⟨rfl,dz⟩
  have je:=dz.le
  rw[<-dz.ad _ Zo]at b5
  have cL:decide (mF d.ty=[])=false:=by simp[atW vi.type]
  have Xm:bD X h j bU cP:=(cl.trans cx).trans dz
  by_cases pr:d.on=[]
  ·have cJ:decide (d.on≠[])=false:=by simp[pr]
   have eI:decide (d.on=[])=true:=by simp[pr]
   have m7:aR X bU (.ptr aP 7)=some .zF:=by rw[bS b5];exact congrArg (λb=>some (z.bool b)) (vi.no pr)
   have QE:aR X bU (.ptr aP 5)=some (.str d.on):=by rw[bS b5];rfl
   refine eQ @cL @QE @cJ @eI @m7 @gT @bA ⟨?_⟩
   exact⟨m,Zo,W+1,aY t5,aY eZ,bC,Zo,Xm⟩
  ·have cJ:decide (d.on≠[])=true:=by simp[pr]
   have eI:decide (d.on=[])=false:=by simp[pr]
   have QE:aR X bU (.ptr aP 5)=some (.str d.on):=by rw[bS b5];rfl
   refine eW @cL @QE @cJ ⟨?_⟩
   refine(IP (j:=cP) (h:=bU) aB bZ eo (vi.on pr) Zo).Zm ?_
   rintro aa bY cw ⟨rfl,dW⟩
   have iU:=dW.le
   rw[<-dW.ad _ Zo]at b5
   have aoc:aR X bY (.ptr aP 5)=some (.str d.on):=by rw[bS b5];rfl
   refine hT @aoc @eI @gT @bA ⟨?_⟩
   exact⟨m,Zo,W+1,aY t5,aY eZ,bC,Zo,Xm.trans dW⟩
def arT(aB:ix X)(bZ:lT X)(eo:sg X){w:bc}(bQ:wd w)(aL:(q X).a6<=j):
 a7 X 68 [.str w] h j (λaa S aq=>aa= .zF/\bD X h j S aq) zK:=by
 refine zF aB.todR (agA X) ?_
 rw[agB]
 unfold UA
 refine(IP (j:=j) (h:=h) aB bZ eo bQ aL).Zm ?_
 rintro aa aT bk ⟨rfl,cl⟩
 refine cV ⟨?_⟩
 exact⟨rfl,cl⟩
def aqA(aB:ix X)(bZ:lT X)(eo:sg X){P:Nat->Prop}{b:Nat}{bf:z}{mg:List bc}(aL:(q X).a6<=j)(U:ee X h P b bf 1 (g3 mg))(b1:∀e,P e->e<j)(bQ:∀w∈mg,wd w):
 a7 X 70 [bf, .func (.func 68) [] []] h j (λaa S aq=>aa= .zF/\bD X h j S aq) zK:=by
 refine zF aB.todR (agE X) ?_
 rw[agF]
 unfold UD
 refine a7.mono (ai:=λaa S aq=>aa= .Z (-1)/\bD X h j S aq) (aw:=λ_ _ _=>False) ?_ ?_ (λ_ _ _ a=>a.elim)
 ·refine zF aB.todR (ahy X) ?_
  rw[ahz]
  unfold U4
  have e3:=U.len
  have kL:=U.many
  rw[show(g3 mg).length=mg.length from by simp[g3]]at e3 kL
  refine cr @e3 ⟨?_⟩
  refine f6 (λm H S aQ=>∃(W:Nat),H.g 0=some bf/\H.g 1=some (.func (.func 68) [] [])/\H.g 7=some (.Z (mg.length:Int))/\H.g 8=some (.Z (W:Int))/\W+m=mg.length/\bD X h j S aQ)
   mg.length ⟨0,bC,bC,bC,gC,Zo,bD.refl _ _⟩ ?_
  rintro m H a1 aP ⟨W,t0,t1,gT,hH,bB,b4⟩
  have ju:=b4.le
  cases m with
  |zero=>
   have d:=zz W mg.length
   refine eW @hH @gT @d ⟨?_⟩
   exact⟨rfl,b4⟩
  |succ m=>
   have d:=zA W mg.length
   have bA:=zD W
   obtain⟨w,oI⟩:=zB mg W
   have d7:=U.gZ W (by simp[g3];omega)
   have j1:=(U.ad (λe F=>b4.ad e (b1 e F))).cell W [.str w] 0 (.str w) (by unfold g3;rw[Zw,oI];rfl) rfl
   rw[Yc]at d7
   rw[Yc,ZS]at j1
   refine eQ @hH @gT @t1 @t0 @d @d7 @j1 ⟨?_⟩
   refine(arT (j:=aP) (h:=a1) aB bZ eo (bQ w (Zl oI)) Zo).Zm ?_
   rintro aa aT bk ⟨rfl,cl⟩
   refine dk @hH @bA ⟨?_⟩
   exact⟨m,Zo,W+1,aY t0,aY t1,aY gT,bC,Zo,b4.trans cl⟩
 ·rintro aa a1 aP ⟨rfl,bZ⟩
  refine cV ⟨?_⟩
  exact⟨rfl,bZ⟩
end
def ar9:∀w<65,Av ((w:Nat):Int)=((2^w-1:Nat):Int):=by decide+kernel
def aib{n w:Nat}(bQ:w<=64)(aL:n<18446744073709551616)(a:Gx (n:Int) (Av (w:Int))=0):n<2^w:=by
 rw[ar9 w Zo]at a
 unfold Gx at a
 have cO:=(BitVec.ofInt 64 (n:Int)&&& ~~~ BitVec.ofInt 64 ((2^w-1:Nat):Int)).isLt
 rw[aec Zo Zo]at a
 have a2:BitVec.ofInt 64 (n:Int)&&& ~~~ BitVec.ofInt 64 ((2^w-1:Nat):Int)=0#64:=BitVec.eq_of_toNat_eq (by rw[BitVec.toNat_ofNat];omega)
 rw[BitVec.ofInt_natCast,BitVec.ofInt_natCast]at a2
 apply Nat.lt_pow_two_of_testBit
 intro i aE
 by_cases En:i<64
 ·have aj:=congrArg (λv=>v.getLsbD i) a2
  simp only[BitVec.getLsbD_and,BitVec.getLsbD_not,BitVec.getLsbD_ofNat,En,YD,Bool.true_and,Nat.testBit_two_pow_sub_one,BitVec.getLsbD_zero]at aj
  have:decide (i<w)=false:=by simp;omega
  rw[this]at aj
  simpa using aj
 ·exact Nat.testBit_lt_two_pow (ZN aL (by
   have:(18446744073709551616:Nat)=2^64:=by decide
   rw[this]
   exact Nat.pow_le_pow_right Zd Zo))
def aqS{t:hS}{n:Int}(a:NI t n):n<2^(if t.s then t.w-1 else t.w).toNat:=by
 obtain⟨I,M,ak,aA⟩:=a
 obtain⟨m,rfl⟩:=Yb ak
 have bQ:=Mj I
 have key:∀w:Nat,w<=64->Gx (m:Int) (Av (w:Int))=0->(m:Int)<2^w:=λw bQ a=>by
  have:=aib bQ Zo a
  have M:((2^w:Nat):Int)=(2:Int)^w:=by simp
  rw[<-M];omega
 unfold ud at M
 cases aD:t.s with
 |true=>
  rw[Zp aD]at M
  rw[Zp rfl]
  by_cases a2:t.w-1=0
  ·rw[Zp a2]at M
   have:(m:Int)=0:=by simpa using M
   rw[a2,this];decide
  ·rw[Zg a2]at M
   obtain⟨w,xi⟩:=Yb (by omega:0<=t.w-1)
   rw[xi]at M ⊢
   simp only[Cb,Zn,Zh]at M
   exact key w Zo M.2
 |false=>
  rw[Zg (by simp[aD])]at M
  rw[Zg Zs]
  obtain⟨w,xi⟩:=Yb (by omega:0<=t.w)
  simp only[Cb,Zn,Zh]at M
  rw[xi]at M ⊢
  exact key w Zo M.2
section
variable{X:cn}{h S gx a1 aT:R ag}{j aq aP bk:Nat}{s:bc}
def adn{n b:Int}(a2:0<=n)(aj:0<=b)(m3:b<=64)(a:n<2^b.toNat):bg .shr (.int .u64 n) (.Z b)=some (.int .u64 0):=by
 have bA:xk b 0=false:=by rw[sU];simp;omega
 have cg:min b.toNat IntKind.u64.bits=b.toNat:=by
  have:IntKind.u64.bits=64:=rfl
  rw[this];omega
 have eN:n.fdiv (2^b.toNat)=0:=by
  rw[Int.fdiv_eq_ediv_of_nonneg _ (by exact Int.le_of_lt (Int.lt_of_le_of_lt a2 a))]
  exact Int.ediv_eq_zero_of_lt a2 a
 simp only[bg,k2,fj,Gw,bA,kE,cg,eN]
 rfl
def aqT(aB:ix X){P:Nat->Prop}{B:bx}{v:z}(aL:(q X).a6<=j)(bl:cm X h P B v)(b1:∀e,P e->e<j)(aG:B.kind=1)(az:NI B.ty B.n):
 a7 X 113 [v] h j (λaa S aq=>aa= .zT/\bD X h j S aq) zK:=by
 refine zF aB.todR (aeR X) ?_
 rw[aeS]
 unfold TC
 obtain⟨b,bf,cD,bj,rfl,aj,a0,bm,ct,a3,a4,a5,kd,kz,kA,cW,has⟩:=id bl.open
 have fV:=b1 b aj
 have K3:=aqS az
 have bQ:=Mj az.1
 have GP:decide (B.kind=1)=true:=by simp[aG]
 have EZ:k7 B.ty=[.bool B.ty.b, .bool B.ty.s, .Z B.ty.w]:=rfl
 have w6:d0 X h 3 (.ptr b 4)=some (.agg (k7 B.ty)):=by rw[vB,a4,a5,kd];rfl
 cases aD:B.ty.s with
 |true=>
  rw[aD]at a5
  rw[Zp aD]at K3
  have bA:bg .sub (.Z B.ty.w) (.Z 1)=some (.Z (B.ty.w-1)):=vx Zo Zo
  have GN:decide (B.ty.w-1=64)=false:=zO
  have lu:=adn az.2.2.1 Zo Zo K3
  refine ln @a5 @kd @bA @a0 @GP @w6 ⟨?_⟩
  refine(Ct (j:=j) (h:=h) aB.todR B.ty aL).Zm ?_
  rintro aa a1 aP ⟨rfl,b4⟩
  have NX:aR X a1 (.ptr b 7)=some (.int .u64 B.n):=by rw[b4.fA _ _ fV];exact kz
  have aX:km B.ty=true:=az.1
  rw[aX]
  refine eW @GN @NX @lu ⟨?_⟩
  exact⟨rfl,b4⟩
 |false=>
  rw[aD]at a5
  rw[Zg (by simp[aD])]at K3
  refine gV @a5 @kd @a0 @GP @w6 ⟨?_⟩
  refine(Ct (j:=j) (h:=h) aB.todR B.ty aL).Zm ?_
  rintro aa a1 aP ⟨rfl,b4⟩
  have NX:aR X a1 (.ptr b 7)=some (.int .u64 B.n):=by rw[b4.fA _ _ fV];exact kz
  have aX:km B.ty=true:=az.1
  rw[aX]
  by_cases En:B.ty.w=64
  ·have GN:decide (B.ty.w=64)=true:=by simp[En]
   refine cr @GN ⟨?_⟩
   exact⟨rfl,b4⟩
  ·have GN:decide (B.ty.w=64)=false:=by simp[En]
   have lu:=adn az.2.2.1 Zo Zo K3
   refine eW @GN @NX @lu ⟨?_⟩
   exact⟨rfl,b4⟩
def arE(b:Nat):dc X h .eql 41 false .cM (.ptr b 0)=some .zF:=Zk
def aik(aB:ix X){P:Nat->Prop}{b:Nat}{bf:z}{b3:List bx}{bj:List z}(U:ee X h P b bf 1 (bj.map λv=>[v]))(EC:dh X h P b3 bj):
 a7 X 112 [bf, .cM] h j (λaa S aq=>aa= .zF/\S=h/\j<=aq) zK:=by
 refine zF aB.todR (aeP X) ?_
 rw[aeQ]
 unfold TB
 refine a7.mono (ai:=λaa S aq=>aa= .Z (-1)/\S=h/\j<=aq) (aw:=λ_ _ _=>False) ?_ ?_ (λ_ _ _ a=>a.elim)
 ·refine zF aB.todR (aeZ X) ?_
  rw[ae0]
  unfold TG
  have e3:=U.len
  have kL:=U.many
  rw[Zr]at e3 kL
  refine cr @e3 ⟨?_⟩
  refine f6 (λm H S aQ=>∃(W:Nat),H.g 0=some bf/\H.g 1=some .cM/\H.g 7=some (.Z (bj.length:Int))/\H.g 8=some (.Z (W:Int))/\W+m=bj.length/\S=h/\j<=aQ)
   bj.length ⟨0,bC,bC,bC,gC,Zo,rfl,Zo⟩ ?_
  rintro m H aT bk ⟨W,t0,t1,gT,hH,bB,rfl,nL⟩
  cases m with
  |zero=>
   have d:=zz W bj.length
   refine eW @hH @gT @d ⟨?_⟩
   exact⟨rfl,rfl,nL⟩
  |succ m=>
   have d:=zA W bj.length
   have bA:=zD W
   obtain⟨v,bt⟩:=zB bj W
   have HM:=EC.len
   obtain⟨B,bl⟩:=zB b3 W
   obtain⟨gp,xh,w1⟩:=EC.get W B bl
   rw[bt]at xh
   cases xh
   obtain⟨aiB,rfl,_,_⟩:=w1.ptr
   obtain⟨cb,b5,cG⟩:=U.one bt
   refine eQ @hH @gT @t1 @t0 @d @cb (Za @b5 (Za @arE @bA)) ⟨?_⟩
   exact⟨m,Zo,W+1,aY t0,aY t1,aY gT,bC,Zo,rfl,nL⟩
 ·rintro aa a1 aP ⟨rfl,rfl,bZ⟩
  refine cV ⟨?_⟩
  exact⟨rfl,rfl,bZ⟩
end
end
end Go.Proofs.YtbbkkkpgjaopkaaGreatDoor

