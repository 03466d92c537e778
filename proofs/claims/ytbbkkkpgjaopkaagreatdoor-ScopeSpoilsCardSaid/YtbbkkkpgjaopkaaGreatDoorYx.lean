/- Part of the proof of the last text; no conditions -/
import Derived.Test.YtbbkkkpgjaopkaaGreatDoorYw
set_option maxHeartbeats 8000000
set_option linter.all false
namespace Go.Proofs.YtbbkkkpgjaopkaaGreatDoor
open Go.bs Go.aQ
noncomputable section
section
variable{X:cl}{h R fg aX aP:M ak}{j au aM be:Nat}{s:ba}
def ad0{t:iO}(a:kB t=true):mS t≠[]:=by
 unfold mS
 rw[Zu a]
 split<;>simp
def ajZ(az:f5 X)(bP:kl X)(c2:km X){P:Nat->Prop}{b:Nat}{a2:y}{ds:List d4}(aI:(o X).aY<=j)(c3:et X h P b a2 8 (ds.map dy))(bI:∀e,P e->e<j)(br:∀d∈ds,pw jO d):
 a1 X 66 [a2] h j (λab R au=>ab= .zT/\bp X h j R au) (λ_ _ _=>False):=by
 refine zL az.todW (Ve X) ?_
 rw[Vf]
 unfold OJ
 have er:=c3.len
 have jq:=c3.many
 rw[Zp]at er jq
 refine ce @er ⟨?_⟩
 refine gK (λm I R aS=>∃(Y:Nat),I.g 5=some a2/\I.g 6=some (.Z (ds.length:Int))/\I.g 7=some (.Z (Y:Int))/\Y+m=ds.length/\bp X h j R aS)
  ds.length ⟨0,bF,bF,ho,Zo,bp.refl _ _⟩ ?_
 rintro m I aX aM ⟨Y,t5,fN,fx,bD,bY⟩
 have jD:=bY.le
 cases m with
 |zero=>
  have d:=zF Y ds.length
  refine eP @fx @fN @d ⟨?_⟩
  exact⟨rfl,bY⟩
 |succ m=>
  have PB:=zG Y ds.length
  have bB:=zJ Y
  obtain⟨d,aH⟩:=zH ds Y
  have tp:=br d (Zh aH)
  have di:=c3.g2 Y (by rw[Zp];omega)
  have d2:=(c3.ad (λe B=>bY.ad e (bI e B))).row (i:=Y) (r:=dy d) Zd (by rw[Zy,aH];rfl)
  have j9:dy d=[.str d.name, .Z d.at_, .bool d.ty.b, .bool d.ty.s, .Z d.ty.w, .str d.on, .Z d.fT, .bool d.no]:=rfl
  rw[j9]at d2
  refine kr @fx @fN @t5 @PB @di @d2 ⟨?_⟩
  generalize dN:bl X _ aM _=aP
  have b5:Z X aP aM=zI [.str d.name, .Z d.at_, .bool d.ty.b, .bool d.ty.s, .Z d.ty.w, .str d.on, .Z d.fT, .bool d.no] 8:=by rw[<-dN,bn Zo];rfl
  have b6:bp X h j aP (aM+1):=⟨Zo,λe B=>by rw[<-dN];simp(disch:=omega) only[aL];exact bY.ad e B⟩
  clear dN
  refine ce (bU b5) ⟨?_⟩
  refine(x8 (j:=aM+1) (h:=aP) az bP c2 tp.name Zo).Zm ?_
  rintro ab bf bE ⟨rfl,cq⟩
  have jE:=cq.le
  rw[<-cq.ad _ Zo]at b5
  have Dw:k0 d.ty=[.bool d.ty.b, .bool d.ty.s, .Z d.ty.w]:=rfl
  have uG:dT X bf 3 (.ptr aM 2)=some (.agg (k0 d.ty)):=by
   rw[tE,bU b5,bU b5,bU b5];rfl
  refine ce @uG ⟨?_⟩
  refine(TK (j:=bE) (h:=bf) az.todW d.ty Zo).Zm ?_
  rintro ab bT b3 ⟨rfl,dA⟩
  have je:=dA.le
  rw[<-dA.ad _ Zo]at b5
  have cB:decide (mS d.ty=[])=false:=by simp[ad0 tp.type]
  have H0:bp X h j bT b3:=(b6.trans cq).trans dA
  by_cases mj:d.on=[]
  ·have cC:decide (d.on≠[])=false:=by simp[mj]
   have dI:decide (d.on=[])=true:=by simp[mj]
   have jV:aV X bT (.ptr aM 7)=some .zF:=by rw[bU b5];exact congrArg (λb=>some (y.bool b)) (tp.no mj)
   have Di:aV X bT (.ptr aM 5)=some (.str d.on):=by rw[bU b5];rfl
   refine fA @cB @Di @cC @dI @jV @fx @bB ⟨?_⟩
   exact⟨m,Zo,Y+1,bz t5,bz fN,bF,Zo,H0⟩
  ·have cC:decide (d.on≠[])=true:=by simp[mj]
   have dI:decide (d.on=[])=false:=by simp[mj]
   have Di:aV X bT (.ptr aM 5)=some (.str d.on):=by rw[bU b5];rfl
   refine eP @cB @Di @cC ⟨?_⟩
   refine(x8 (j:=b3) (h:=bT) az bP c2 (tp.on mj) Zo).Zm ?_
   rintro ab bZ ct ⟨rfl,dC⟩
   have hQ:=dC.le
   rw[<-dC.ad _ Zo]at b5
   have Rz:aV X bZ (.ptr aM 5)=some (.str d.on):=by rw[bU b5];rfl
   refine g6 @Rz @dI @fx @bB ⟨?_⟩
   exact⟨m,Zo,Y+1,bz t5,bz fN,bF,Zo,H0.trans dC⟩
def asJ(az:f5 X)(bP:kl X)(c2:km X){w:ba}(br:qR w)(aI:(o X).aY<=j):
 a1 X 68 [.str w] h j (λab R au=>ab= .zF/\bp X h j R au) (λ_ _ _=>False):=by
 refine zL az.todW (ahd X) ?_
 rw[ahe]
 unfold Vh
 refine(x8 (j:=j) (h:=h) az bP c2 br aI).Zm ?_
 rintro ab aP be ⟨rfl,b6⟩
 refine c7 ⟨?_⟩
 exact⟨rfl,b6⟩
def arp(az:f5 X)(bP:kl X)(c2:km X){P:Nat->Prop}{b:Nat}{a2:y}{mW:List ba}(aI:(o X).aY<=j)(V:et X h P b a2 1 (ip mW))(bI:∀e,P e->e<j)(br:∀w∈mW,qR w):
 a1 X 70 [a2, .func (.func 68) [] []] h j (λab R au=>ab= .zF/\bp X h j R au) (λ_ _ _=>False):=by
 refine zL az.todW (ahh X) ?_
 rw[ahi]
 unfold Vj
 refine a1.mono (ah:=λab R au=>ab= .Z (-1)/\bp X h j R au) (ax:=λ_ _ _=>False) ?_ ?_ (λ_ _ _ a=>a.elim)
 ·refine zL az.todW (ah7 X) ?_
  rw[ah8]
  unfold VL
  have er:=V.len
  have jq:=V.many
  rw[show(ip mW).length=mW.length from by simp[ip]]at er jq
  refine ce @er ⟨?_⟩
  refine gK (λm I R aS=>∃(Y:Nat),I.g 0=some a2/\I.g 1=some (.func (.func 68) [] [])/\I.g 7=some (.Z (mW.length:Int))/\I.g 8=some (.Z (Y:Int))/\Y+m=mW.length/\bp X h j R aS)
   mW.length ⟨0,bF,bF,bF,ho,Zo,bp.refl _ _⟩ ?_
  rintro m I aX aM ⟨Y,t0,t1,fx,iX,bD,bY⟩
  have jD:=bY.le
  cases m with
  |zero=>
   have d:=zF Y mW.length
   refine eP @iX @fx @d ⟨?_⟩
   exact⟨rfl,bY⟩
  |succ m=>
   have d:=zG Y mW.length
   have bB:=zJ Y
   obtain⟨w,oc⟩:=zH mW Y
   have di:=V.g2 Y (by simp[ip];omega)
   have kv:=(V.ad (λe B=>bY.ad e (bI e B))).cell Y [.str w] 0 (.str w) (by unfold ip;rw[Zy,oc];rfl) rfl
   rw[Yp]at di
   rw[Yp,Z5]at kv
   refine fA @iX @fx @t1 @t0 @d @di @kv ⟨?_⟩
   refine(asJ (j:=aM) (h:=aX) az bP c2 (br w (Zh oc)) Zo).Zm ?_
   rintro ab aP be ⟨rfl,b6⟩
   refine dq @iX @bB ⟨?_⟩
   exact⟨m,Zo,Y+1,bz t0,bz t1,bz fx,bF,Zo,bY.trans b6⟩
 ·rintro ab aX aM ⟨rfl,bP⟩
  refine c7 ⟨?_⟩
  exact⟨rfl,bP⟩
end
def asY:∀w<65,By ((w:Nat):Int)=((2^w-1:Nat):Int):=by decide+kernel
def aiR{n w:Nat}(br:w<=64)(aI:n<18446744073709551616)(a:Hj (n:Int) (By (w:Int))=0):n<2^w:=by
 rw[asY w Zo]at a
 unfold Hj at a
 have cJ:=(BitVec.ofInt 64 (n:Int)&&& ~~~ BitVec.ofInt 64 ((2^w-1:Nat):Int)).isLt
 rw[aeO Zo Zo]at a
 have bi:BitVec.ofInt 64 (n:Int)&&& ~~~ BitVec.ofInt 64 ((2^w-1:Nat):Int)=0#64:=BitVec.eq_of_toNat_eq (by rw[BitVec.toNat_ofNat];omega)
 rw[BitVec.ofInt_natCast,BitVec.ofInt_natCast]at bi
 apply Nat.lt_pow_two_of_testBit
 intro i aF
 by_cases Fe:i<64
 ·have al:=congrArg (λv=>v.getLsbD i) bi
  simp only[BitVec.getLsbD_and,BitVec.getLsbD_not,BitVec.getLsbD_ofNat,Fe,Yz,zA,Nat.testBit_two_pow_sub_one,BitVec.getLsbD_zero]at al
  have:decide (i<w)=false:=by simp;omega
  rw[this]at al
  simpa using al
 ·exact Nat.testBit_lt_two_pow (ZT aI (by
   have:(18446744073709551616:Nat)=2^64:=by decide
   rw[this]
   exact Nat.pow_le_pow_right Zd Zo))
def arJ{t:iO}{n:Int}(a:Oz t n):n<2^(if t.s then t.w-1 else t.w).toNat:=by
 obtain⟨H,K,am,aC⟩:=a
 obtain⟨m,rfl⟩:=Yc am
 have br:=MX H
 have key:∀w:Nat,w<=64->Hj (m:Int) (By (w:Int))=0->(m:Int)<2^w:=λw br a=>by
  have:=aiR br Zo a
  have K:((2^w:Nat):Int)=(2:Int)^w:=by simp
  rw[<-K];omega
 unfold uN at K
 cases aE:t.s with
 |true=>
  rw[Zu aE]at K
  rw[Zu rfl]
  by_cases bi:t.w-1=0
  ·rw[Zu bi]at K
   have:(m:Int)=0:=by simpa using K
   rw[bi,this];decide
  ·rw[Zg bi]at K
   obtain⟨w,xW⟩:=Yc (by omega:0<=t.w-1)
   rw[xW]at K ⊢
   simp only[DC,Zq,Zi]at K
   exact key w Zo K.2
 |false=>
  rw[Zg (by simp[aE])]at K
  rw[Zg Zs]
  obtain⟨w,xW⟩:=Yc (by omega:0<=t.w)
  simp only[DC,Zq,Zi]at K
  rw[xW]at K ⊢
  exact key w Zo K.2
section
variable{X:cl}{h R fg aX aP:M ak}{j au aM be:Nat}{s:ba}
def ad4{n b:Int}(bi:0<=n)(al:0<=b)(mC:b<=64)(a:n<2^b.toNat):bg .shr (.int .u64 n) (.Z b)=some (.int .u64 0):=by
 have bB:xZ b 0=false:=by rw[tz];simp;omega
 have cp:min b.toNat IntKind.u64.bits=b.toNat:=by
  have:IntKind.u64.bits=64:=rfl
  rw[this];omega
 have fj:n.fdiv (2^b.toNat)=0:=by
  rw[Int.fdiv_eq_ediv_of_nonneg _ (by exact Int.le_of_lt (Int.lt_of_le_of_lt bi a))]
  exact Int.ediv_eq_zero_of_lt bi a
 simp only[bg,lA,eW,Hh,bB,kp,cp,fj]
 rfl
def arK(az:f5 X){P:Nat->Prop}{D:bL}{v:y}(aI:(o X).aY<=j)(bt:cG X h P D v)(bI:∀e,P e->e<j)(aG:D.kind=1)(aB:Oz D.ty D.n):
 a1 X 113 [v] h j (λab R au=>ab= .zT/\bp X h j R au) (λ_ _ _=>False):=by
 refine zL az.todW (afu X) ?_
 rw[afv]
 unfold Uh
 obtain⟨b,a2,cn,bx,rfl,al,a0,a7,b2,a3,a4,a5,ic,iw,ko,c3,has⟩:=id bt.open
 have f0:=bI b al
 have LO:=arJ aB
 have br:=MX aB.1
 have HA:decide (D.kind=1)=true:=by simp[aG]
 have Dw:k0 D.ty=[.bool D.ty.b, .bool D.ty.s, .Z D.ty.w]:=rfl
 have uG:dT X h 3 (.ptr b 4)=some (.agg (k0 D.ty)):=by rw[tE,a4,a5,ic];rfl
 cases aE:D.ty.s with
 |true=>
  rw[aE]at a5
  rw[Zu aE]at LO
  have bB:bg .sub (.Z D.ty.w) (.Z 1)=some (.Z (D.ty.w-1)):=xY Zo Zo
  have Hy:decide (D.ty.w-1=64)=false:=by simp only[Ze];omega
  have kw:=ad4 aB.2.2.1 Zo Zo LO
  refine kr @a5 @ic @bB @a0 @HA @uG ⟨?_⟩
  refine(DO (j:=j) (h:=h) az.todW D.ty aI).Zm ?_
  rintro ab aX aM ⟨rfl,bY⟩
  have OU:aV X aX (.ptr b 7)=some (.int .u64 D.n):=by rw[bY.fm _ _ f0];exact iw
  have bc:kB D.ty=true:=aB.1
  rw[bc]
  refine eP @Hy @OU @kw ⟨?_⟩
  exact⟨rfl,bY⟩
 |false=>
  rw[aE]at a5
  rw[Zg (by simp[aE])]at LO
  refine g0 @a5 @ic @a0 @HA @uG ⟨?_⟩
  refine(DO (j:=j) (h:=h) az.todW D.ty aI).Zm ?_
  rintro ab aX aM ⟨rfl,bY⟩
  have OU:aV X aX (.ptr b 7)=some (.int .u64 D.n):=by rw[bY.fm _ _ f0];exact iw
  have bc:kB D.ty=true:=aB.1
  rw[bc]
  by_cases Fe:D.ty.w=64
  ·have Hy:decide (D.ty.w=64)=true:=by simp[Fe]
   refine ce @Hy ⟨?_⟩
   exact⟨rfl,bY⟩
  ·have Hy:decide (D.ty.w=64)=false:=by simp[Fe]
   have kw:=ad4 aB.2.2.1 Zo Zo LO
   refine eP @Hy @OU @kw ⟨?_⟩
   exact⟨rfl,bY⟩
def asv(b:Nat):dD X h .eql 41 false .cN (.ptr b 0)=some .zF:=Zk
def aiZ(az:f5 X){P:Nat->Prop}{b:Nat}{a2:y}{ci:List bL}{bx:List y}(V:et X h P b a2 1 (bx.map λv=>[v]))(Fv:dw X h P ci bx):
 a1 X 112 [a2, .cN] h j (λab R au=>ab= .zF/\R=h/\j<=au) (λ_ _ _=>False):=by
 refine zL az.todW (afs X) ?_
 rw[aft]
 unfold Ug
 refine a1.mono (ah:=λab R au=>ab= .Z (-1)/\R=h/\j<=au) (ax:=λ_ _ _=>False) ?_ ?_ (λ_ _ _ a=>a.elim)
 ·refine zL az.todW (afC X) ?_
  rw[afD]
  unfold Ul
  have er:=V.len
  have jq:=V.many
  rw[Zp]at er jq
  refine ce @er ⟨?_⟩
  refine gK (λm I R aS=>∃(Y:Nat),I.g 0=some a2/\I.g 1=some .cN/\I.g 7=some (.Z (bx.length:Int))/\I.g 8=some (.Z (Y:Int))/\Y+m=bx.length/\R=h/\j<=aS)
   bx.length ⟨0,bF,bF,bF,ho,Zo,rfl,Zo⟩ ?_
  rintro m I aP be ⟨Y,t0,t1,fx,iX,bD,rfl,lh⟩
  cases m with
  |zero=>
   have d:=zF Y bx.length
   refine eP @iX @fx @d ⟨?_⟩
   exact⟨rfl,rfl,lh⟩
  |succ m=>
   have d:=zG Y bx.length
   have bB:=zJ Y
   obtain⟨v,bu⟩:=zH bx Y
   have C5:=Fv.len
   obtain⟨D,bt⟩:=zH ci Y
   obtain⟨gj,xU,xH⟩:=Fv.get Y D bt
   rw[bu]at xU
   cases xU
   obtain⟨Wn,rfl,_,_⟩:=xH.ptr
   obtain⟨g1,b5,cR⟩:=V.one bu
   refine fA @iX @fx @t1 @t0 @d @g1 (Za @b5 (Za @asv @bB)) ⟨?_⟩
   exact⟨m,Zo,Y+1,bz t0,bz t1,bz fx,bF,Zo,rfl,lh⟩
 ·rintro ab aX aM ⟨rfl,rfl,bP⟩
  refine c7 ⟨?_⟩
  exact⟨rfl,rfl,bP⟩
end
def tW(q:Int):Option (Int×Bool×Bool×Bool):=
 if q=1 then some (0,false,true,true)else if q=2 then some (0,true,false,false)else if q=3\/q=4\/q=5 then some (1,false,false,false)else if q=6 then some (1,true,false,false)
 else if q=19\/q=20 then some (1,false,false,true)else if q=23 then some (3,false,false,false)else if q=24 then some (2,true,false,false)else if q=25 then some (-1,true,false,false)
 else if q=26 then some (1,false,true,false)else none
def p4(s:Int×Bool×Bool×Bool):List y:=[.Z s.1, .bool s.2.1, .bool s.2.2.1, .bool s.2.2.2]
structure mb(X:cl):Prop where
 at_:∀h,∃v,aV X h (.ptr 4 0)=some v/\∀q:Int,nd X h 3 (.agg [.Z 0, .zF, .zF, .zF]) v (.Z q) true=some (.tuple [.agg (p4 ((tW q).getD (0,false,false,false))), .bool (tW q).isSome])
structure aie(D:bL)(s:Int×Bool×Bool×Bool):Prop where
 Hl:0<=s.1->(D.args.length:Int)=s.1
 acW:s.2.1=true->qR D.name
 Na:s.2.1=false->D.name=[]
 avS:s.2.2.1=true->kB D.ty=true
 dr:s.2.2.1=false->D.ty=dr
 aY:s.2.2.2=false->D.n=0
def auI{D:bL}(a:G3 jO D):aie D ((tW D.kind).getD (2,false,false,false)):=by
 have H:=a.bS
 have K:=a.ck
 have oS:=a.Hl
 have gy:=a.nm
 have Dg:=a.Na
 have IU:=a.ty
 have xT:=a.dr
 have gx:=a.aY
 unfold s0 at oS
 unfold tl at gy Dg
 unfold tm at IU xT
 generalize D.kind=q at*
 unfold tW
 have aG:q=1\/q=2\/(q=3\/q=4\/q=5)\/q=6\/(q=19\/q=20)\/q=23\/q=24\/q=25\/q=26\/(7<=q/\q<=18\/q=21\/q=22):=Zo
 rcases aG with aG|aG|aG|aG|aG|aG|aG|aG|aG|aG
 ·subst aG
  exact⟨λ_=>by have:=oS 0 Zs;simp[this],λa=>by simp at a,λ_=>Dg Zo,λ_=>IU Zo,λa=>by simp at a,λa=>by simp at a⟩
 ·subst aG
  exact⟨λ_=>by have:=oS 0 Zs;simp[this],λ_=>gy Zo,λa=>by simp at a,λa=>by simp at a,λ_=>xT Zo,λ_=>gx Zo Zo Zo⟩
 ·rw[Zg Zo,Zg Zo,Zu aG]
  rw[Zg Zo,Zg Zo,Zu Zo]at oS
  exact⟨λ_=>by have:=oS 1 rfl;simp[this],λa=>by simp at a,λ_=>Dg Zo,λa=>by simp at a,λ_=>xT Zo,λ_=>gx Zo Zo Zo⟩
 ·subst aG
  exact⟨λ_=>by have:=oS 1 Zs;simp[this],λ_=>gy Zo,λa=>by simp at a,λa=>by simp at a,λ_=>xT Zo,λ_=>gx Zo Zo Zo⟩
 ·rw[Zg Zo,Zg Zo,Zg Zo,Zg Zo,Zu aG]
  rw[Zg Zo,Zg Zo,Zu Zo]at oS
  exact⟨λ_=>by have:=oS 1 rfl;simp[this],λa=>by simp at a,λ_=>Dg Zo,λa=>by simp at a,λ_=>xT Zo,λa=>by simp at a⟩
 ·subst aG
  exact⟨λ_=>by have:=oS 3 Zs;simp[this],λa=>by simp at a,λ_=>Dg Zo,λa=>by simp at a,λ_=>xT Zo,λ_=>gx Zo Zo Zo⟩
 ·subst aG
  exact⟨λ_=>by have:=oS 2 Zs;simp[this],λ_=>gy Zo,λa=>by simp at a,λa=>by simp at a,λ_=>xT Zo,λ_=>gx Zo Zo Zo⟩
 ·subst aG
  exact⟨λa=>by simp at a,λ_=>gy Zo,λa=>by simp at a,λa=>by simp at a,λ_=>xT Zo,λ_=>gx Zo Zo Zo⟩
 ·subst aG
  exact⟨λ_=>by have:=oS 1 Zs;simp[this],λa=>by simp at a,λ_=>Dg Zo,λ_=>IU Zo,λa=>by simp at a,λ_=>gx Zo Zo Zo⟩
 ·rw[Zg Zo,Zg Zo,Zg Zo,Zg Zo,Zg Zo,Zg Zo,Zg Zo,Zg Zo,Zg Zo]
  rw[Zg Zo,Zg Zo,Zg Zo,Zg Zo]at oS
  exact⟨λ_=>by have:=oS 2 rfl;simp[this],λa=>by simp at a,λ_=>Dg Zo,λa=>by simp at a,λ_=>xT Zo,λ_=>gx Zo Zo Zo⟩
section
variable{X:cl}{h R fg aX aP:M ak}{j au aM be:Nat}{s:ba}
structure TY(G:Prop):Prop where
 out:G
def Pu{G mc:Prop}(Jq:TY G->mc)(Tv:G):mc:=Jq ⟨Tv⟩
def ajo:dD X h .neq 4 false .zF .zF=some .zF:=Zk
def ajp:dD X h .neq 4 false .zT .zT=some .zF:=Zk
def avT:dD X h .neq 51 false (.agg [.zF, .zF, .Z 0]) (.agg [.zF, .zF, .Z 0])=some .zF:=Zk
def ats(b:Nat):dD X h .neq 41 true (.ptr b 0) .cN=some .zT:=Zk
set_option maxRecDepth 100000 in
def arV(az:f5 X)(bP:kl X)(c2:km X)(hP:mb X){P:Nat->Prop}{D:bL}{v:y}(aI:(o X).aY<=j)(bt:cG X h P D v)(bI:∀e,P e->e<j)(br:fu jO D):
 a1 X 97 [v] h j (λab R au=>ab= .zT/\bp X h j R au) (λ_ _ _=>False):=by
 refine zL az.todW (ah5 X) ?_
 rw[ah6]
 unfold VK
 rw[fu.eq]at br
 obtain⟨br,Dz⟩:=br
 have kw:=auI br
 obtain⟨b,a2,cn,bx,rfl,al,a0,a7,b2,a3,a4,a5,ic,iw,ko,c3,has⟩:=id bt.open
 have f0:=bI b al
 obtain⟨fk,L0,L1⟩:=hP.at_ h
 have kb:=L1 D.kind
 generalize FP:(tW D.kind).getD (2,false,false,false)=s at kw
 have apB:∀ai:Int×Bool×Bool×Bool,p4 ai=[.Z ai.1, .bool ai.2.1, .bool ai.2.2.1, .bool ai.2.2.2]:=λ_=>rfl
 rw[apB]at kb
 refine gG @L0 @a0 @kb ⟨?_⟩
 refine kx (λcP R aS=>cP.g 0=some (.ptr b 0)/\cP.g 3=some (.ptr (j+9) 0)/\bp X h j R aS/\j+9<aS/\Z X R (j+9)=zI (p4 s) 4) (λY bD=> ?_) ?_
 ·cases bG:tW D.kind with
  |some ai=>
   rw[bG]at FP
   simp only[YM]at FP
   subst FP
   simp only[YM,Z8]
   refine c7 ⟨?_⟩
   exact bD _ _ _ ⟨bF,bF,dM,Zo,by rw[bn Zo];rfl⟩
  |none=>
   rw[bG]at FP
   simp only[Option.getD_none]at FP
   subst FP
   simp only[Option.getD_none,Z4]
   refine c7 ⟨?_⟩
   exact bD _ _ _ ⟨bF,bF,dM,Zo,by rw[bn Zo];rfl⟩
 rintro I aX aM ⟨t0,t3,bY,lY,g1⟩
 have rd:∀R,Go.bs.Z X R (j+9)=zI (p4 s) 4->aV X R (.ptr (j+9) 0)=some (.Z s.1)/\aV X R (.ptr (j+9) 1)=some (.bool s.2.1)/\aV X R (.ptr (j+9) 2)=some (.bool s.2.2.1)/\aV X R (.ptr (j+9) 3)=some (.bool s.2.2.2):=λR a=>
  ⟨by rw[bU a];rfl,by rw[bU a];rfl,by rw[bU a];rfl,by rw[bU a];rfl⟩
 have mE:=br.bS
 have gH:=br.ck
 have cB:decide (D.kind<1)=false:=by simp only[Ze];omega
 have cC:decide ((26:Int)<D.kind)=false:=by simp only[Ze];omega
 obtain⟨gq,eA,eU,gr⟩:=rd aX g1
 have OR:aV X aX (.ptr b 0)=some (.Z D.kind):=by rw[bY.fm _ _ f0];exact a0
 have Hd:aV X aX (.ptr b 8)=some a2:=by rw[bY.fm _ _ f0];exact ko
 have er:=c3.len
 have C5:=has.len
 rw[Zp,C5]at er
 have sv:∀e,P e->Z X aX e=Z X h e:=λe B=>bY.ad e (bI e B)
 have jD:=bY.le
 apply Pu
 ·intro aqJ
  by_cases oS:0<=s.1
  all_goals
   first
   |(
     have dI:decide ((0:Int)<=s.1)=true:=by simp[oS]
     have iy:decide ((D.args.length:Int)≠s.1)=false:=by simp[kw.Hl oS]
     refine gG @t0 @t3 (Za @OR (Za @cB (Za @cC (Za @gq (Za @dI (Za @Hd (Za @er (Za @gq @iy)))))))) ⟨?_⟩)
   |(
     have dI:decide ((0:Int)<=s.1)=false:=by simp[oS]
     refine gG @t0 @t3 (Za @OR (Za @cB (Za @cC (Za @gq (Za @dI @Hd))))) ⟨?_⟩)
   refine(aiZ (j:=aM+34) (h:=aX) az (c3.ad sv) (dw.ad sv _ _ has)).Zm ?_
   rintro ab aP be ⟨rfl,rfl,f1⟩
   refine vI ⟨?_⟩
   refine kx (λcP R aS=>cP.g 0=some (.ptr b 0)/\cP.g 3=some (.ptr (j+9) 0)/\bp X h j R aS/\j+9<aS/\Z X R (j+9)=zI (p4 s) 4) (λY bD=> ?_) ?_
   ·refine c7 ⟨?_⟩
    exact bD _ _ _ ⟨bz t0,bz t3,bY.more Zo,Zo,g1⟩
   exact aqJ.out
 clear t0 t3 bY g1 gq eA eU gr OR Hd sv jD
 rintro I bf bE ⟨t0,t3,cq,rf,cR⟩
 obtain⟨gq,eA,eU,gr⟩:=rd bf cR
 have jE:=cq.le
 have OS:aV X bf (.ptr b 2)=some (.str D.name):=by rw[cq.fm _ _ f0];exact b2
 have aoL:s.2.1=true->decide (D.name≠[])=true:=λa=>by simp[(kw.acW a).ne]
 have aoK:s.2.1=false->decide (D.name≠[])=false:=λa=>by simp[kw.Na a]
 have jV:(D.no=true/\decide (D.kind≠6)=false)\/(D.no=false/\decide ((0:Int)≠0)=false):=by
  cases bG:D.no with
  |true=>exact .inl ⟨rfl,by simp[br.no bG]⟩
  |false=>exact .inr ⟨rfl,rfl⟩
 apply Pu
 ·intro aqG
  rcases Bool.eq_false_or_eq_true s.2.1 with kQ|kQ
  all_goals
   first
   |(
     have Aa:=aoL kQ
     rw[kQ]at eA
     refine gG @t0 @t3 (Za @eA (Za @OS (Za @Aa @ajp))) ⟨?_⟩
     refine(x8 (j:=bE+33) (h:=bf) az bP c2 (kw.acW kQ) Zo).Zm ?_
     rintro ab bT b3 ⟨rfl,dA⟩
     have je:=dA.le
     have sd:bp X h j bT b3:=cq.trans (dA.tJ Zo)
     have Rp:j+9<b3:=Zo
     have ft:Z X bT (j+9)=zI (p4 s) 4:=by rw[dA.ad _ Zo];exact cR
     have OT:aV X bT (.ptr b 3)=some (.bool D.no):=by rw[sd.fm _ _ f0];exact a3
     have VS:aV X bT (.ptr b 0)=some (.Z D.kind):=by rw[sd.fm _ _ f0];exact a0)
   |(
     have Aa:=aoK kQ
     rw[kQ]at eA
     refine gG @t0 @t3 (Za @eA (Za @OS (Za @Aa @ajo))) ⟨?_⟩
     have sd:bp X h j bf (bE+33):=cq.more Zo
     have Rp:j+9<bE+33:=Zo
     have ft:Z X bf (j+9)=zI (p4 s) 4:=cR
     have OT:aV X bf (.ptr b 3)=some (.bool D.no):=by rw[sd.fm _ _ f0];exact a3
     have VS:aV X bf (.ptr b 0)=some (.Z D.kind):=by rw[sd.fm _ _ f0];exact a0)
   rcases jV with ⟨aaV,HA⟩|⟨aaV,HA⟩
   all_goals
    rw[aaV]at OT
    refine gG @t0 @t3 (Za @OT (Za @VS @HA)) ⟨?_⟩
    refine kx (λcP R aS=>cP.g 0=some (.ptr b 0)/\cP.g 3=some (.ptr (j+9) 0)/\bp X h j R aS/\j+9<aS/\Z X R (j+9)=zI (p4 s) 4) (λY bD=> ?_) ?_
    ·refine c7 ⟨?_⟩
     exact bD _ _ _ ⟨bz t0,bz t3,sd.more Zo,Zo,ft⟩
    exact aqG.out
 clear t0 t3 cq cR gq eA eU gr OS jE
 rintro I bZ ct ⟨t0,t3,dC,aoM,fw⟩
 obtain⟨gq,eA,eU,gr⟩:=rd bZ fw
 have hQ:=dC.le
 have Dw:k0 D.ty=[.bool D.ty.b, .bool D.ty.s, .Z D.ty.w]:=rfl
 have uG:dT X bZ 3 (.ptr b 4)=some (.agg (k0 D.ty)):=by rw[tE,dC.fm _ _ f0,dC.fm _ _ f0,dC.fm _ _ f0,a4,a5,ic];rfl
 apply Pu
 ·intro aqI
  rcases Bool.eq_false_or_eq_true s.2.2.1 with kQ|kQ
  all_goals
   first
   |(
     have bc:=kw.avS kQ
     rw[kQ]at eU
     refine gG @t0 @t3 (Za @eU @uG) ⟨?_⟩
     refine(DO (j:=ct) (h:=bZ) az.todW D.ty Zo).Zm ?_
     rintro ab b9 dP ⟨rfl,eY⟩
     rw[bc]
     have qx:=eY.le
     have sd:bp X h j b9 dP:=dC.trans (eY.tJ Zo)
     have Rp:j+9<dP:=Zo
     have ft:Z X b9 (j+9)=zI (p4 s) 4:=by rw[eY.ad _ Zo];exact fw
     have VV:aV X b9 (.ptr b 7)=some (.int .u64 D.n):=by rw[sd.fm _ _ f0];exact iw
     have Nz:aV X b9 (.ptr (j+9) 3)=some (.bool s.2.2.2):=(rd b9 ft).2.2.2)
   |(
     have bc:=kw.dr kQ
     rw[kQ]at eU
     have apU:k0 D.ty=[.zF, .zF, .Z 0]:=by rw[bc];rfl
     rw[apU]at uG
     refine gG @t0 @t3 (Za @eU (Za @uG @avT)) ⟨?_⟩
     have sd:bp X h j bZ ct:=dC
     have Rp:j+9<ct:=aoM
     have ft:Z X bZ (j+9)=zI (p4 s) 4:=fw
     have VV:aV X bZ (.ptr b 7)=some (.int .u64 D.n):=by rw[sd.fm _ _ f0];exact iw
     have Nz:aV X bZ (.ptr (j+9) 3)=some (.bool s.2.2.2):=(rd bZ ft).2.2.2)
   rcases Bool.eq_false_or_eq_true s.2.2.2 with o1|o1
   all_goals
    first
    |(
      have Aa:decide ((0:Int)≠0)=false:=rfl
      rw[o1]at Nz
      have ax4:s.2.2.2=true:=o1)
    |(
      have Aa:decide (D.n≠0)=false:=by simp[kw.aY o1]
      rw[o1]at Nz)
    refine gG @t0 @t3 (Za @Nz (Za @VV @Aa)) ⟨?_⟩
    refine kx (λcP R aS=>cP.g 0=some (.ptr b 0)/\cP.g 3=some (.ptr (j+9) 0)/\bp X h j R aS/\j+9<aS/\Z X R (j+9)=zI (p4 s) 4) (λY bD=> ?_) ?_
    ·refine c7 ⟨?_⟩
     exact bD _ _ _ ⟨bz t0,bz t3,sd.more Zo,Zo,ft⟩
    exact aqI.out
 clear t0 t3 dC fw gq eA eU gr hQ uG
 rintro I cm en ⟨t0,t3,e6,aoN,eu⟩
 have re:=e6.le
 have ED:aV X cm (.ptr b 0)=some (.Z D.kind):=by rw[e6.fm _ _ f0];exact a0
 have VW:aV X cm (.ptr b 7)=some (.int .u64 D.n):=by rw[e6.fm _ _ f0];exact iw
 have VX:aV X cm (.ptr b 8)=some a2:=by rw[e6.fm _ _ f0];exact ko
 have x4:∀e,P e->Z X cm e=Z X h e:=λe B=>e6.ad e (bI e B)
 show cg _ _
 by_cases H:D.kind=1
 ·have bB:decide (D.kind=1)=true:=by simp[H]
  refine eP @t0 @ED @bB ⟨?_⟩
  refine(arK (j:=en) (h:=cm) az Zo (cG.ad x4 _ _ bt) (λe B=>zE (bI e B)) H (br.acV H)).Zm ?_
  rintro ab dk jI ⟨rfl,kt⟩
  exact⟨rfl,e6.trans (kt.tJ Zo)⟩
 have bB:decide (D.kind=1)=false:=by simp[H]
 by_cases HW:D.kind=19
 ·have EX:decide (D.kind=19)=true:=by simp[HW]
  have PI:decide (D.n<=63)=true:=by simp[(br.hj (.inl HW)).2]
  refine kr @t0 @ED @bB @EX @VW @PI ⟨?_⟩
  exact⟨rfl,e6.more Zo⟩
 have EX:decide (D.kind=19)=false:=by simp[HW]
 by_cases Qq:D.kind=20
 ·have HH:decide (D.kind=20)=true:=by simp[Qq]
  have PI:decide (D.n<=63)=true:=by simp[(br.hj (.inr Qq)).2]
  refine fA @t0 @ED @bB @EX @HH @VW @PI ⟨?_⟩
  exact⟨rfl,e6.more Zo⟩
 have HH:decide (D.kind=20)=false:=by simp[Qq]
 by_cases Qr:D.kind=21
 ·have K8:decide (D.kind=21)=true:=by simp[Qr]
  obtain⟨k,r,vS,aB⟩:=br.vF Qr
  obtain⟨ao,aoC,fa⟩:=has.get 0 k (by rw[vS];rfl)
  obtain⟨cF,cH,d7⟩:=(c3.ad x4).one aoC
  obtain⟨og,acu,arl,ayw,rfl,Db,d9,_,_,_,_,_,_,_,EP,act,ab7⟩:=(cG.ad x4 _ _ fa).open
  have adD:iV 1 a2 (.Z 0)=some (.ptr cn 0):=cF
  rcases aB with aB|⟨aB,x,af,AP⟩
  ·have tb:decide (k.kind=1)=true:=by simp[aB]
   refine fA @t0 @ED @bB @EX @HH @K8 (Za @VX (Za @adD (Za @cH (Za @d9 @tb)))) ⟨?_⟩
   exact⟨rfl,e6.more Zo⟩
  ·have tb:decide (k.kind=1)=false:=by simp[aB]
   have akw:decide (k.kind=4)=true:=by simp[aB]
   obtain⟨ay8,ap9,ap8⟩:=ab7.get 0 x (by rw[af];rfl)
   obtain⟨e3,g9,ws⟩:=act.one ap9
   obtain⟨ay7,rfl,tv,hb⟩:=ap8.ptr
   have as8:iV 1 acu (.Z 0)=some (.ptr arl 0):=e3
   have acp:=act.len
   rw[Zp,ab7.len,af]at acp
   have arL:fM acu=some (.Z 1):=acp
   have ex:decide (x.kind=1)=true:=by simp[AP]
   have akn:decide ((1:Int)=1)=true:=rfl
   refine fA @t0 @ED @bB @EX @HH @K8 (Za @VX (Za @adD (Za @cH (Za @d9 (Za @tb (Za @akw (Za @EP (Za @arL (Za @akn (Za @as8 (Za @g9 (Za @ats (Za @hb @ex))))))))))))) ⟨?_⟩
   exact⟨rfl,e6.more Zo⟩
 have K8:decide (D.kind=21)=false:=by simp[Qr]
 refine kr @t0 @ED @bB @EX @HH @K8 ⟨?_⟩
 exact⟨rfl,e6.more Zo⟩
end
def aoc{q:Nat}{D E:bL}(a:gm (q+1) D<=q)(aD:E∈D.args):gm q E+1<=q:=by
 have bc:∀(k:List bL) (bi:Nat),(∀E∈k,gm q E<=k.foldl (λa E=>max a (gm q E)) bi)/\bi<=k.foldl (λa E=>max a (gm q E)) bi:=by
  intro k
  induction k with
  |nil=>intro bi;exact⟨λ_ a=>by simp at a,Zj _⟩
  |cons b k aj=>
   intro bi
   obtain⟨ri,jr⟩:=aj (max bi (gm q b))
   refine⟨λx af=> ?_,ZB (Nat.le_max_left _ _) jr⟩
   rcases Zr.1 af with rfl|af
   ·exact ZB (Nat.le_max_right _ _) jr
   ·exact ri x af
 have H:=(bc D.args 0).1 E aD
 have K:gm (q+1) D=D.args.foldl (λa E=>max a (gm q E)) 0+1:=rfl
 omega
def aoe{q:Nat}{D:bL}:1<=gm (q+1) D:=by
 have K:gm (q+1) D=D.args.foldl (λa E=>max a (gm q E)) 0+1:=rfl
 omega
def awo{bv:iP}:∀{k:List bL}{E:bL},gc bv k->E∈k->fu bv E:=by
 intro k
 induction k with
 |nil=>intro E _ a;cases a
 |cons b k aj=>
  intro E a aD
  rw[gc]at a
  rcases Zr.1 aD with rfl|aD
  ·exact a.1
  ·exact aj a.2 aD
section
variable{X:cl}{h R fg aX aP:M ak}{j au aM be:Nat}{s:ba}
structure yH(X:cl)(c1 eV og:Nat)(d:Int)(h:M ak):Prop where
 KY:∃c,Z X h c1=some (.cells c 1 .own)/\c.get 0=some (.Z d)
 N7:aV X h (.ptr eV 0)=some (.Z 0)
 look:aV X h (.ptr og 0)=some (.func (.func 96) [] [.ptr c1 0, .ptr eV 0, .ptr og 0])
def yH.ad{c1 eV og:Nat}{d:Int}(a:yH X c1 eV og d aX)(q:∀e,e=c1\/e=eV\/e=og->Z X aP e=Z X aX e):yH X c1 eV og d aP:=by
 obtain⟨c,H,K⟩:=a.KY
 exact⟨⟨c,by rw[q c1 (.inl rfl)];exact H,K⟩,zP (q eV (.inr (.inl rfl))) a.N7,zP (q og (.inr (.inr rfl))) a.look⟩
set_option maxRecDepth 100000 in
def arQ(az:f5 X)(bP:kl X)(c2:km X)(hP:mb X){P:Nat->Prop}{c1 eV og jH:Nat}(vV:(o X).aY<=c1)(aw7:c1<jH)(AN:eV<jH)(m9:og<jH)(tp:eV≠c1)(jU:og≠c1)(bI:∀e,P e->e<jH/\e≠c1):
 ∀(q:Nat) (D:bL) (v:y) (h:M ak) (j:Nat),q<=200->jH<=j->gm (q+1) D<=q->fu jO D->cG X h P D v->yH X c1 eV og ((200-q:Nat):Int) h->
  a1 X 96 [v, .ptr c1 0, .ptr eV 0, .ptr og 0] h j (λab R au=>ab= .tuple []/\yH X c1 eV og ((200-q:Nat):Int) R/\j<=au/\∀e,e<j->e≠c1->Z X R e=Z X h e) (λ_ _ _=>False):=by
 intro q
 induction q with
 |zero=>intro D v h j _ _ a;have:=aoe (q:=0) (D:=D);omega
 |succ q aj=>
  intro D v h j aG aI f8 br bt dY
  refine zL az.todW (ah3 X) ?_
  rw[ah4]
  unfold VJ
  obtain⟨b,a2,cn,bx,rfl,al,_,_,_,_,_,_,_,_,ko,c3,has⟩:=id bt.open
  obtain⟨c,g1,b5⟩:=dY.KY
  have Im:=bI b al
  have bB:bg .add (.Z ((200-(q+1):Nat):Int)) (.Z 1)=some (.Z ((200-q:Nat):Int)):=by rw[eK Zo Zo,show((200-(q+1):Nat):Int)+1=((200-q:Nat):Int) by omega]
  refine gG (bU g1) @b5 @bB ⟨?_⟩
  generalize eN:bl X h c1 _=aX
  have P6:∃gC,Z X aX c1=some (.cells gC 1 .own)/\gC.get 0=some (.Z ((200-q:Nat):Int)):=⟨d3 c 0 [.Z ((200-q:Nat):Int)],by rw[<-eN,bn vV];rfl,wK c 0 _⟩
  have bS:∀e,e≠c1->Z X aX e=Z X h e:=λe B=>by rw[<-eN,aL vV B]
  clear eN
  have amY:yH X c1 eV og ((200-q:Nat):Int) aX:=⟨P6,zP (bS _ tp) dY.N7,zP (bS _ jU) dY.look⟩
  have sv:∀e,P e->Z X aX e=Z X h e:=λe B=>bS e (bI e B).2
  have QZ:=cG.ad sv _ _ bt
  refine ce @Ns ⟨?_⟩
  refine(arV (j:=j) (h:=aX) az bP c2 hP Zo QZ (λe B=>zE (bI e B).1) br).Zm ?_
  rintro ab aP be ⟨rfl,b6⟩
  have f1:=b6.le
  have LK:yH X c1 eV og ((200-q:Nat):Int) aP:=amY.ad (λe B=>b6.ad e (by rcases B with rfl|rfl|rfl<;>omega))
  obtain⟨dx,P7,alG⟩:=LK.KY
  have aik:aV X aP (.ptr b 8)=some a2:=by rw[b6.fm _ _ Zo,cT,bS _ Im.2, <-cT];exact ko
  have er:=c3.len
  have C5:=has.len
  rw[Zp,C5]at er
  have jq:=c3.many
  rw[Zp,C5]at jq
  have cC:decide ((200:Int)<((200-q:Nat):Int))=false:=by simp only[Ze];omega
  refine g0 (bU P7) @alG @cC @aik @er ⟨?_⟩
  refine gK (λm I R aS=>∃(Y:Nat),I.g 1=some (.ptr c1 0)/\I.g 2=some (.ptr eV 0)/\I.g 3=some (.ptr og 0)/\I.g 12=some a2/\I.g 13=some (.Z (D.args.length:Int))/\I.g 14=some (.Z (Y:Int))/\Y+m=D.args.length
   /\yH X c1 eV og ((200-q:Nat):Int) R/\j<=aS/\∀e,e<j->e≠c1->Z X R e=Z X h e)
   D.args.length ⟨0,bF,bF,bF,bF,bF,ho,Zo,LK,f1,λe H K=>by rw[b6.ad e H,bS e K]⟩ ?_
  rintro m I bf bE ⟨Y,t1,eR,t3,BU,nn,ov,bD,H6,jE,sm⟩
  cases m with
  |zero=>
   have d:=zF Y D.args.length
   obtain⟨gD,vH,alH⟩:=H6.KY
   have cp:bg .sub (.Z ((200-q:Nat):Int)) (.Z 1)=some (.Z ((200-(q+1):Nat):Int)):=by rw[xY Zo Zo,show((200-q:Nat):Int) -1=((200-(q+1):Nat):Int) by omega]
   refine fA @ov @nn @t1 @d (bU vH) @alH @cp ⟨?_⟩
   refine⟨rfl,⟨⟨d3 gD 0 [.Z ((200-(q+1):Nat):Int)],by rw[bn vV];rfl,wK gD 0 _⟩,zP (aL vV tp) H6.N7,zP (aL vV jU) H6.look⟩,Zo,λe H K=>by rw[aL vV K];exact sm e H K⟩
  |succ m=>
   have d:=zG Y D.args.length
   have cp:=zJ Y
   obtain⟨E,aD⟩:=zH D.args Y
   obtain⟨w,oc,QJ⟩:=has.get Y E aD
   have pV:∀e,P e->Z X bf e=Z X h e:=λe B=>sm e (zE (bI e B).1) (bI e B).2
   obtain⟨cF,cH,d7⟩:=(c3.ad pV).one oc
   have κ:=Zh aD
   have axc:=aoc f8 κ
   have kb:=H6.look
   refine fA @ov @nn @BU @t3 @d @cF (Za @cH @kb) ⟨?_⟩
   rw[fu.eq]at br
   refine(aj E w bf bE Zo Zo Zo (awo br.2 κ) (cG.ad pV _ _ QJ) H6).Zm ?_
   rintro ab bT b3 ⟨rfl,amZ,je,gg⟩
   refine dq @ov @cp ⟨?_⟩
   exact⟨m,Zo,Y+1,bz t1,bz eR,bz t3,bz BU,bz nn,bF,Zo,amZ,Zo,λe H K=>by rw[gg e Zo K];exact sm e H K⟩
end
structure rP(g:Go.aQ.Node):Prop where
 vars:g.dg.length+g.out.length+g.loc.length<=256
 eqs:g.eqs.length<=4096
 high:∀ai∈g.eqs,gm 201 ai.right<=200
def arE:∀{k:List ee},uZ k=none->∀ai∈k,gm 201 ai.right<=200:=by
 intro k
 induction k with
 |nil=>intro _ ai a;cases a
 |cons E k aj=>
  intro a ai bG
  unfold uZ at a
  split at a
  ·cases a
  ·rcases Zr.1 bG with rfl|bG
   ·omega
   ·exact aj a ai bG
def arF:∀{k:List Go.aQ.Node},pW k=none->∀g∈k,rP g:=by
 intro k
 induction k with
 |nil=>intro _ ai a;cases a
 |cons E k aj=>
  intro a g bw
  unfold pW at a
  split at a
  ·cases a
  ·rename_i bG
   split at a
   ·cases a
   ·rename_i bt
    rcases Zr.1 bw with rfl|bw
    ·exact⟨Zo,Zo,arE bt⟩
    ·exact aj a g bw
def wh{an:List Go.aQ.Node}(a:pd an=none):an.length<=64/\∀g∈an,rP g:=by
 unfold pd at a
 split at a
 ·cases a
 ·rename_i bG
  rw[List.getElem?_eq_none_iff]at bG
  exact⟨bG,arF a⟩
section
variable{X:cl}{h R fg aX aP:M ak}{j au aM be:Nat}{s:ba}
set_option maxRecDepth 100000 in
def alx(az:f5 X)(bP:kl X)(c2:km X)(hP:mb X){P:Nat->Prop}{D:bL}{v:y}(aI:(o X).aY<=j)(bt:cG X h P D v)(bI:∀e,P e->e<j)(br:fu jO D)(f8:gm 201 D<=200):
 a1 X 69 [v] h j (λab R au=>ab= .Z 0/\bp X h j R au) (λ_ _ _=>False):=by
 refine zL az.todW (ahf X) ?_
 rw[ahg]
 unfold Vi
 refine c7 ⟨?_⟩
 generalize eN:bl X _ (j+1+1) _=aX
 have eC:Z X aX j=zI [.Z 0] 1:=by rw[<-eN];simp(disch:=omega) only[aL,bn];rfl
 have g1:Z X aX (j+1)=zI [.Z 0] 1:=by rw[<-eN];simp(disch:=omega) only[aL,bn];rfl
 have b5:aV X aX (.ptr (j+1+1) 0)=some (.func (.func 96) [] [.ptr (j+1) 0, .ptr j 0, .ptr (j+1+1) 0]):=by rw[<-eN,x5 Zo];rfl
 have bY:bp X h j aX (j+1+1+1):=by rw[<-eN];exact dM
 clear eN
 refine ce @b5 ⟨?_⟩
 have QZ:=cG.ad (λe B=>bY.ad e (bI e B)) _ _ bt
 refine(arQ (jH:=j+1+1+1) az bP c2 hP Zo Zo Zo Zo Zo Zo (λe B=>by have:=bI e B;exact⟨Zo,Zo⟩) 200 D v aX (j+1+1+1) Zo Zo f8 br QZ ⟨⟨_,g1,rfl⟩,by rw[bU eC];rfl,b5⟩).Zm ?_
 rintro ab aP be ⟨rfl,LK,f1,gH⟩
 have ap3:=LK.N7
 refine ce @ap3 ⟨?_⟩
 exact⟨rfl,Zo,λe B=>by rw[gH e Zo Zo];exact bY.ad e B⟩
set_option maxRecDepth 100000 in
def acD(az:f5 X)(bP:kl X)(c2:km X)(hP:mb X){P:Nat->Prop}{g:Go.aQ.Node}{row:List y}(aI:(o X).aY<=j)(bw:lr X h P g row)(bI:∀e,P e->e<j)(br:ls jO g)(aB:rP g):
 a1 X 38 [.agg row] h j (λab R au=>ab= .Z 0/\bp X h j R au) (λ_ _ _=>False):=by
 refine zL az.todW (Kt X) ?_
 rw[Ku]
 unfold G7
 obtain⟨cW,cO,a2,dF,b4,cr,cS,fh,aK,rfl,jA,iD,jB,hq,dJ⟩:=bw
 have dv:=jA.len
 have cD:=iD.len
 have ec:=jB.len
 have gp:=dJ.wide
 have fl:=hq.len
 have jq:=hq.many
 rw[Zp]at dv cD ec
 rw[gp.1]at fl jq
 have RV:=aB.vars
 have anX:=aB.eqs
 have AH:0<g.out.length:=ZH.2 br.some
 have bB:bg .add (.Z (g.dg.length:Int)) (.Z (g.out.length:Int))=some (.Z ((g.dg.length+g.out.length:Nat):Int)):=by rw[eK Zo Zo];simp
 have cp:bg .add (.Z ((g.dg.length+g.out.length:Nat):Int)) (.Z (g.loc.length:Int))=some (.Z ((g.dg.length+g.out.length+g.loc.length:Nat):Int)):=by rw[eK Zo Zo];simp
 have cB:decide ((g.out.length:Int)=0)=false:=by simp only[Ze];omega
 have cC:decide ((256:Int)<((g.dg.length+g.out.length+g.loc.length:Nat):Int))=false:=by simp only[Ze];omega
 have dI:decide ((4096:Int)<(g.eqs.length:Int))=false:=by simp only[Ze];omega
 refine vu ?_
 generalize eN:bl X h j _=aX
 have g1:Z X aX j=zI [.str g.name, .Z g.at_,cW,cO,a2,dF] 6:=by rw[<-eN,bn aI];rfl
 have bY:bp X h j aX (j+1):=by rw[<-eN];exact dM
 clear eN
 refine gG (bU g1) @dv (Za @cD (Za @ec (Za @bB @cp))) ⟨?_⟩
 refine(x8 (j:=j+1) (h:=aX) az bP c2 br.name Zo).Zm ?_
 rintro ab aP be ⟨rfl,b6⟩
 have f1:=b6.le
 rw[<-b6.ad _ Zo]at g1
 have mB:=bY.trans b6
 have dl:=(iG jA.len).1
 have dx:=(iG iD.len).1
 have gD:=(iG jB.len).1
 have jF:hv 3 [.aW, .aW, .aW] [(0,1,cW),(1,1,cO),(2,1,a2)] be=some (.slice be 0 3 3, .cells (M.ofList [cW,cO,a2] 0 .nil) 3 .own):=by
  simp[hv,tc,td,nk,dl,dx,gD]
 refine gG (bU g1) @dv (Za @cD (Za @ec (Za @fl (Za @cB (Za @cC @dI))))) ⟨?_⟩
 refine gi jF ?_
 refine vI ⟨?_⟩
 generalize fE:bl X aP be _=bf
 have cR:Z X bf be=zI [cW,cO,a2] 3:=by rw[<-fE,bn Zo]
 have cq:bp X h j bf (be+1):=⟨Zo,λe B=>by rw[<-fE];simp(disch:=omega) only[aL];exact mB.ad e B⟩
 have vH:Z X bf j=zI [.str g.name, .Z g.at_,cW,cO,a2,dF] 6:=by rw[<-fE];simp(disch:=omega) only[aL];exact g1
 clear fE
 have pV:∀e,P e->Z X bf e=Z X h e:=λe B=>cq.ad e (bI e B)
 refine(WI (j:=be+1) (h:=bf) az.todW Zo Zo cR (jA.ad pV) (iD.ad pV) (jB.ad pV) (λe B=>zE (bI e B)) Zo Zo).Zm ?_
 rintro ab bT b3 ⟨Wn,c3,dA⟩
 have je:=dA.le
 refine vI ⟨?_⟩
 refine(ajZ (j:=b3) (h:=bT) az bP c2 Zo c3 (λe B=>B.2) (λd aH=> ?_)).Zm ?_
 ·rcases Zw.1 aH with a|a
  ·exact br.dg d a
  ·rcases Zw.1 a with a|a
   ·exact br.out d a
   ·exact br.loc d a
 rintro ab bZ ct ⟨rfl,dC⟩
 have hQ:=dC.le
 have H1:bp X bf (be+1) bZ ct:=dA.trans dC
 have sd:bp X h j bZ ct:=cq.trans H1
 rw[<-H1.ad _ Zo]at vH
 refine dq (bU vH) @fl ⟨?_⟩
 refine gK (λm I R aS=>∃(Y:Nat),I.g 4=some (.Z 0)/\I.g 53=some dF/\I.g 54=some (.Z (g.eqs.length:Int))/\I.g 55=some (.Z (Y:Int))/\Y+m=g.eqs.length/\bp X h j R aS)
  g.eqs.length ⟨0,bF,bF,bF,ho,Zo,sd⟩ ?_
 rintro m I b9 dP ⟨Y,t4,BV,np,nq,bD,eY⟩
 have qx:=eY.le
 cases m with
 |zero=>
  have d:=zF Y g.eqs.length
  refine g6 @nq @np @t4 @d ⟨?_⟩
  exact⟨rfl,eY⟩
 |succ m=>
  have d:=zG Y g.eqs.length
  have bB:=zJ Y
  obtain⟨ai,bG⟩:=zH g.eqs Y
  have FI:=Zh bG
  have xO:=br.eqs ai FI
  obtain⟨row,d2,Do⟩:=dJ.get Y ai bG
  have F4:∀e,P e->Z X b9 e=Z X h e:=λe B=>eY.ad e (bI e B)
  have di:=hq.g2 Y (by rw[gp.1];omega)
  have kP:=(hq.ad F4).row Zd d2
  obtain⟨yj,BK,dl,dx,jZ,rfl,jf,nF,qA,sp⟩:=Do
  have ts:=jf.len
  rw[show(ip ai.left).length=ai.left.length from by simp[ip]]at ts
  have axz:0<ai.left.length:=ZH.2 xO.some
  have PC:decide ((ai.left.length:Int)=0)=false:=by simp only[Ze];omega
  refine kr @nq @np @BV @d @di @kP ⟨?_⟩
  refine gi (jJ (q:=4) (b:=dP) (W:=0) (n:=4) (c:=M.ofList [.aW, .aW, .Z 0, .cN] 0 .nil) (bn Zo) Zo rfl Zd Zd sp) ?_
  generalize mg:bl X _ dP _=cm
  have eu:Z X cm dP=zI [yj,BK, .Z ai.at_,jZ] 4:=by rw[<-mg,bn Zo];rfl
  have e6:bp X h j cm (dP+1):=⟨Zo,λe B=>by rw[<-mg];simp(disch:=omega) only[aL];exact eY.ad e B⟩
  clear mg
  have x4:∀e,P e->Z X cm e=Z X h e:=λe B=>e6.ad e (bI e B)
  refine ce (bU eu) ⟨?_⟩
  refine(alx (j:=dP+1) (h:=cm) az bP c2 hP Zo (cG.ad x4 _ _ qA) (λe B=>zE (bI e B)) xO.right (aB.high ai FI)).Zm ?_
  rintro ab dk jI ⟨rfl,kt⟩
  have Dc:=kt.le
  rw[<-kt.ad _ Zo]at eu
  have X0:bp X h j dk jI:=e6.trans kt
  have A6:∀e,P e->Z X dk e=Z X h e:=λe B=>X0.ad e (bI e B)
  refine eP (bU eu) @ts @PC ⟨?_⟩
  refine(arp (j:=jI) (h:=dk) az bP c2 Zo (jf.ad A6) (λe B=>zE (bI e B)) xO.left).Zm ?_
  rintro ab d8 kd ⟨rfl,nB⟩
  have fs:decide ((0:Int)=1)=false:=rfl
  have fC:decide ((0:Int)≠0)=false:=rfl
  refine g6 @fs @fC @nq @bB ⟨?_⟩
  exact⟨m,Zo,Y+1,bz t4,bz BV,bz np,bF,Zo,X0.trans nB⟩
set_option maxRecDepth 100000 in
def alw(az:f5 X)(bP:kl X)(c2:km X)(hP:mb X){P:Nat->Prop}{an:List Go.aQ.Node}{v:y}(aI:(o X).aY<=j)(bw:lL X h P an v)(bI:∀e,P e->e<j)(br:∀g∈an,ls jO g)(bi:an≠[])(aB:pd an=none):
 a1 X 22 [v] h j (λab R au=>ab= .Z 0/\bp X h j R au) (λ_ _ _=>False):=by
 refine zL az.todW (OE X) ?_
 rw[OF]
 unfold Ks
 obtain⟨h0,gI⟩:=wh aB
 obtain⟨b,a2,cn,aK,rfl,al,a0,c3,lZ⟩:=id bw
 have gp:=lZ.wide
 have er:=c3.len
 rw[gp.1]at er
 have f0:=bI b al
 have ay:0<an.length:=ZH.2 bi
 have cB:decide ((an.length:Int)=0)=false:=by simp only[Ze];omega
 have cC:decide ((64:Int)<(an.length:Int))=false:=by simp only[Ze];omega
 refine g0 @Lg @a0 @er @cB @cC ⟨?_⟩
 refine gK (λm I R aS=>∃(Y:Nat),I.g 3=some (.Z 0)/\I.g 28=some a2/\I.g 29=some (.Z (an.length:Int))/\I.g 30=some (.Z (Y:Int))/\Y+m=an.length/\bp X h j R aS)
  an.length ⟨0,bF,bF,bF,ho,Zo,bp.refl _ _⟩ ?_
 rintro m I aX aM ⟨Y,t3,JX,yp,wE,bD,bY⟩
 have jD:=bY.le
 cases m with
 |zero=>
  have d:=zF Y an.length
  refine g6 @wE @yp @t3 @d ⟨?_⟩
  exact⟨rfl,bY⟩
 |succ m=>
  have d:=zG Y an.length
  have bB:=zJ Y
  obtain⟨g,oW⟩:=zH an Y
  have hp:=Zh oW
  obtain⟨row,d2,hh⟩:=lZ.get Y g oW
  have sv:∀e,P e->Z X aX e=Z X h e:=λe B=>bY.ad e (bI e B)
  have di:=c3.g2 Y (by rw[gp.1];omega)
  have kP:=(c3.ad sv).row Zd d2
  have li:=hh.iI
  have Dh:=hh
  obtain⟨cW,cO,po,dF,b4,cr,cS,fh,fV,rfl,_⟩:=hh
  refine kr @wE @yp @JX @d @di @kP ⟨?_⟩
  refine gi (jJ (q:=6) (b:=aM) (W:=0) (n:=6) (c:=M.ofList [.str [], .Z 0, .aW, .aW, .aW, .aW] 0 .nil) (bn Zo) Zo rfl Zd Zd li) ?_
  generalize dN:bl X _ aM _=aP
  have b5:Z X aP aM=zI [.str g.name, .Z g.at_,cW,cO,po,dF] 6:=by rw[<-dN,bn Zo];rfl
  have b6:bp X h j aP (aM+1):=⟨Zo,λe B=>by rw[<-dN];simp(disch:=omega) only[aL];exact bY.ad e B⟩
  clear dN
  refine ce (bU b5) ⟨?_⟩
  refine(acD (j:=aM+1) (h:=aP) az bP c2 hP Zo (Dh.ad (Q:=P) (λe B=>b6.ad e (bI e B)) (λ_ a=>a)) (λe B=>zE (bI e B)) (br g hp) (gI g hp)).Zm ?_
  rintro ab bf bE ⟨rfl,cq⟩
  have fs:decide ((0:Int)=1)=false:=rfl
  have fC:decide ((0:Int)=22)=false:=rfl
  refine g6 @fs @fC @wE @bB ⟨?_⟩
  exact⟨m,Zo,Y+1,bz t3,bz JX,bz yp,bF,Zo,b6.trans cq⟩
end
end
end Go.Proofs.YtbbkkkpgjaopkaaGreatDoor

