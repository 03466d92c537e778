/- Part of the proof of the last text; no conditions -/
import Derived.Test.YtendhgofocgngaaGreatDoorYv
set_option maxHeartbeats 8000000
set_option linter.all false
namespace Go.Proofs.YtendhgofocgngaaGreatDoor
open Go.bn Go.aT
noncomputable section
section
variable{X:co}{h R gn aU aQ:S ai}{j ap aL bc:Nat}{s:aW}
def ayd{t:ig}(a:kW t=true):nh t≠[]:=by
 unfold nh
 rw[Zq a]
 split<;>simp
def amW(az:jd X)(cd:mo X)(eN:s4 X){P:Nat->Prop}{b:Nat}{bi:z}{ds:List eP}(aM:(q X).bf<=j)(cR:dZ X h P b bi 8 (ds.map e8))(bW:∀e,P e->e<j)(bF:∀d∈ds,pZ n3 d):
 ba X 68 [bi] h j (λac R ap=>ac= .zT/\bG X h j R ap) (λ_ _ _=>False):=by
 refine zJ az.todN (aj2 X) ?_
 rw[aj3]
 unfold Xe
 have e5:=cR.len
 have hX:=cR.many
 rw[Zl]at e5 hX
 refine cq @e5 ⟨?_⟩
 refine fP (λm I R aP=>∃(W:Nat),I.g 5=some bi/\I.g 6=some (.Z (ds.length:Int))/\I.g 7=some (.Z (W:Int))/\W+m=ds.length/\bG X h j R aP)
  ds.length ⟨0,bt,bt,gc,Zo,bG.refl _ _⟩ ?_
 rintro m I aU aL ⟨W,t5,g9,fC,bx,cb⟩
 have jn:=cb.le
 cases m with
 |zero=>
  have d:=zD W ds.length
  refine ey @fC @g9 @d ⟨?_⟩
  exact⟨rfl,cb⟩
 |succ m=>
  have am5:=zE W ds.length
  have bw:=zH W
  obtain⟨d,aI⟩:=zF ds W
  have Dd:=bF d (Zn aI)
  have dV:=cR.gF W (by rw[Zl];omega)
  have gg:=(cR.ad (λe D=>cb.ad e (bW e D))).row (i:=W) (r:=e8 d) Zd (by rw[Zv,aI];rfl)
  have kP:e8 d=[.str d.name, .Z d.at_, .bool d.ty.b, .bool d.ty.s, .Z d.ty.w, .str d.on, .Z d.f7, .bool d.no]:=rfl
  rw[kP]at gg
  refine lT @fC @g9 @t5 @am5 @dV @gg ⟨?_⟩
  generalize dG:bp X _ aL _=aQ
  have b1:Z X aQ aL=zG [.str d.name, .Z d.at_, .bool d.ty.b, .bool d.ty.s, .Z d.ty.w, .str d.on, .Z d.f7, .bool d.no] 8:=by rw[<-dG,bz Zo];rfl
  have cu:bG X h j aQ (aL+1):=⟨Zo,λe D=>by rw[<-dG];simp(disch:=omega) only[aJ];exact cb.ad e D⟩
  clear dG
  refine cq (bX b1) ⟨?_⟩
  refine(Kx (j:=aL+1) (h:=aQ) az cd eN Dd.name Zo).Zm ?_
  rintro ac br bL ⟨rfl,cz⟩
  have jo:=cz.le
  rw[<-cz.ad _ Zo]at b1
  have GH:lC d.ty=[.bool d.ty.b, .bool d.ty.s, .Z d.ty.w]:=rfl
  have yj:ep X br 3 (.ptr aL 2)=some (.agg (lC d.ty)):=by
   rw[wP,bX b1,bX b1,bX b1];rfl
  refine cq @yj ⟨?_⟩
  refine(agL (j:=bL) (h:=br) az.todN d.ty Zo).Zm ?_
  rintro ac b0 cU ⟨rfl,dz⟩
  have jy:=dz.le
  rw[<-dz.ad _ Zo]at b1
  have cI:decide (nh d.ty=[])=false:=by simp[ayd Dd.type]
  have abE:bG X h j b0 cU:=(cu.trans cz).trans dz
  by_cases o5:d.on=[]
  ·have cE:decide (d.on≠[])=false:=by simp[o5]
   have eV:decide (d.on=[])=true:=by simp[o5]
   have ma:aV X b0 (.ptr aL 7)=some .zF:=by rw[bX b1];exact congrArg (λb=>some (z.bool b)) (Dd.no o5)
   have SZ:aV X b0 (.ptr aL 5)=some (.str d.on):=by rw[bX b1];rfl
   refine eD @cI @SZ @cE @eV @ma @fC @bw ⟨?_⟩
   exact⟨m,Zo,W+1,a6 t5,a6 g9,bt,Zo,abE⟩
  ·have cE:decide (d.on≠[])=true:=by simp[o5]
   have eV:decide (d.on=[])=false:=by simp[o5]
   have SZ:aV X b0 (.ptr aL 5)=some (.str d.on):=by rw[bX b1];rfl
   refine ey @cI @SZ @cE ⟨?_⟩
   refine(Kx (j:=cU) (h:=b0) az cd eN (Dd.on o5) Zo).Zm ?_
   rintro ac b5 cA ⟨rfl,d1⟩
   have jz:=d1.le
   rw[<-d1.ad _ Zo]at b1
   have asf:aV X b5 (.ptr aL 5)=some (.str d.on):=by rw[bX b1];rfl
   refine hm @asf @eV @fC @bw ⟨?_⟩
   exact⟨m,Zo,W+1,a6 t5,a6 g9,bt,Zo,abE.trans d1⟩
def awg(az:jd X)(cd:mo X)(eN:s4 X){w:aW}(bF:Fj w)(aM:(q X).bf<=j):
 ba X 70 [.str w] h j (λac R ap=>ac= .zF/\bG X h j R ap) (λ_ _ _=>False):=by
 refine zJ az.todN (aj8 X) ?_
 rw[aj9]
 unfold Xh
 refine(Kx (j:=j) (h:=h) az cd eN bF aM).Zm ?_
 rintro ac aQ bc ⟨rfl,cu⟩
 refine cY ⟨?_⟩
 exact⟨rfl,cu⟩
def auW(az:jd X)(cd:mo X)(eN:s4 X){P:Nat->Prop}{b:Nat}{bi:z}{fT:List aW}(aM:(q X).bf<=j)(V:dZ X h P b bi 1 (f8 fT))(bW:∀e,P e->e<j)(bF:∀w∈fT,Fj w):
 ba X 72 [bi, .func (.func 70) [] []] h j (λac R ap=>ac= .zF/\bG X h j R ap) (λ_ _ _=>False):=by
 refine zJ az.todN (akc X) ?_
 rw[akd]
 unfold Xj
 refine ba.mono (aj:=λac R ap=>ac= .Z (-1)/\bG X h j R ap) (au:=λ_ _ _=>False) ?_ ?_ (λ_ _ _ a=>a.elim)
 ·refine zJ az.todN (ahM X) ?_
  rw[ahN]
  unfold V1
  have e5:=V.len
  have hX:=V.many
  rw[show(f8 fT).length=fT.length from by simp[f8]]at e5 hX
  refine cq @e5 ⟨?_⟩
  refine fP (λm I R aP=>∃(W:Nat),I.g 0=some bi/\I.g 1=some (.func (.func 70) [] [])/\I.g 7=some (.Z (fT.length:Int))/\I.g 8=some (.Z (W:Int))/\W+m=fT.length/\bG X h j R aP)
   fT.length ⟨0,bt,bt,bt,gc,Zo,bG.refl _ _⟩ ?_
  rintro m I aU aL ⟨W,t0,t1,fC,iQ,bx,cb⟩
  have jn:=cb.le
  cases m with
  |zero=>
   have d:=zD W fT.length
   refine ey @iQ @fC @d ⟨?_⟩
   exact⟨rfl,cb⟩
  |succ m=>
   have d:=zE W fT.length
   have bw:=zH W
   obtain⟨w,tF⟩:=zF fT W
   have dV:=V.gF W (by simp[f8];omega)
   have g4:=(V.ad (λe D=>cb.ad e (bW e D))).cell W [.str w] 0 (.str w) (by unfold f8;rw[Zv,tF];rfl) rfl
   rw[ZP]at dV
   rw[ZP,ZR]at g4
   refine eD @iQ @fC @t1 @t0 @d @dV @g4 ⟨?_⟩
   refine(awg (j:=aL) (h:=aU) az cd eN (bF w (Zn tF)) Zo).Zm ?_
   rintro ac aQ bc ⟨rfl,cu⟩
   refine dd @iQ @bw ⟨?_⟩
   exact⟨m,Zo,W+1,a6 t0,a6 t1,a6 fC,bt,Zo,cb.trans cu⟩
 ·rintro ac aU aL ⟨rfl,cd⟩
  refine cY ⟨?_⟩
  exact⟨rfl,cd⟩
end
def awv:∀w<65,BW ((w:Nat):Int)=((2^w-1:Nat):Int):=by decide+kernel
def alt{n w:Nat}(bF:w<=64)(aM:n<18446744073709551616)(a:Ib (n:Int) (BW (w:Int))=0):n<2^w:=by
 rw[awv w Zo]at a
 unfold Ib at a
 have cS:=(BitVec.ofInt 64 (n:Int)&&& ~~~ BitVec.ofInt 64 ((2^w-1:Nat):Int)).isLt
 rw[ag9 Zo Zo]at a
 have a8:BitVec.ofInt 64 (n:Int)&&& ~~~ BitVec.ofInt 64 ((2^w-1:Nat):Int)=0#64:=BitVec.eq_of_toNat_eq (by rw[BitVec.toNat_ofNat];omega)
 rw[BitVec.ofInt_natCast,BitVec.ofInt_natCast]at a8
 apply Nat.lt_pow_two_of_testBit
 intro i aA
 by_cases F5:i<64
 ·have ah:=congrArg (λv=>v.getLsbD i) a8
  simp only[BitVec.getLsbD_and,BitVec.getLsbD_not,BitVec.getLsbD_ofNat,F5,YH,Bool.true_and,Nat.testBit_two_pow_sub_one,BitVec.getLsbD_zero]at ah
  have:decide (i<w)=false:=by simp;omega
  rw[this]at ah
  simpa using ah
 ·exact Nat.testBit_lt_two_pow (ZN aM (by
   have:(18446744073709551616:Nat)=2^64:=by decide
   rw[this]
   exact Nat.pow_le_pow_right Zd Zo))
def ava{t:ig}{n:Int}(a:PX t n):n<2^(if t.s then t.w-1 else t.w).toNat:=by
 obtain⟨H,K,ak,ay⟩:=a
 obtain⟨m,rfl⟩:=Yd ak
 have bF:=Oq H
 have key:∀w:Nat,w<=64->Ib (m:Int) (BW (w:Int))=0->(m:Int)<2^w:=λw bF a=>by
  have:=alt bF Zo a
  have K:((2^w:Nat):Int)=(2:Int)^w:=by simp
  rw[<-K];omega
 unfold u1 at K
 cases aD:t.s with
 |true=>
  rw[Zq aD]at K
  rw[Zq rfl]
  by_cases a8:t.w-1=0
  ·rw[Zq a8]at K
   have:(m:Int)=0:=by simpa using K
   rw[a8,this];decide
  ·rw[Zg a8]at K
   obtain⟨w,yA⟩:=Yd (by omega:0<=t.w-1)
   rw[yA]at K ⊢
   simp only[DJ,Zp,Zi]at K
   exact key w Zo K.2
 |false=>
  rw[Zg (by simp[aD])]at K
  rw[Zg Zs]
  obtain⟨w,yA⟩:=Yd (by omega:0<=t.w)
  simp only[DJ,Zp,Zi]at K
  rw[yA]at K ⊢
  exact key w Zo K.2
section
variable{X:co}{h R gn aU aQ:S ai}{j ap aL bc:Nat}{s:aW}
def agm{n b:Int}(a8:0<=n)(ah:0<=b)(ls:b<=64)(a:n<2^b.toNat):bm .shr (.int .u64 n) (.Z b)=some (.int .u64 0):=by
 have bw:wJ b 0=false:=by rw[rj];simp;omega
 have b3:min b.toNat IntKind.u64.bits=b.toNat:=by
  have:IntKind.u64.bits=64:=rfl
  rw[this];omega
 have er:n.fdiv (2^b.toNat)=0:=by
  rw[Int.fdiv_eq_ediv_of_nonneg _ (by exact Int.le_of_lt (Int.lt_of_le_of_lt a8 a))]
  exact Int.ediv_eq_zero_of_lt a8 a
 simp only[bm,lv,eU,H8,bw,ku,b3,er]
 rfl
def avb(az:jd X){P:Nat->Prop}{B:bs}{v:z}(aM:(q X).bf<=j)(a7:cm X h P B v)(bW:∀e,P e->e<j)(aC:B.kind=1)(aw:PX B.ty B.n):
 ba X 141 [v] h j (λac R ap=>ac= .zT/\bG X h j R ap) (λ_ _ _=>False):=by
 refine zJ az.todN (aic X) ?_
 rw[aid]
 unfold We
 obtain⟨b,bi,cj,aY,rfl,ah,a0,bd,ca,a3,a4,a5,h2,ih,hk,cR,has⟩:=id a7.open
 have gd:=bW b ah
 have M7:=ava aw
 have bF:=Oq aw.1
 have uw:decide (B.kind=1)=true:=by simp[aC]
 have GH:lC B.ty=[.bool B.ty.b, .bool B.ty.s, .Z B.ty.w]:=rfl
 have yj:ep X h 3 (.ptr b 4)=some (.agg (lC B.ty)):=by rw[wP,a4,a5,h2];rfl
 cases aD:B.ty.s with
 |true=>
  rw[aD]at a5
  rw[Zq aD]at M7
  have bw:bm .sub (.Z B.ty.w) (.Z 1)=some (.Z (B.ty.w-1)):=tH Zo Zo
  have Ip:decide (B.ty.w-1=64)=false:=by simp only[Zc];omega
  have h7:=agm aw.2.2.1 Zo Zo M7
  refine lT @a5 @h2 @bw @a0 @uw @yj ⟨?_⟩
  refine(D3 (j:=j) (h:=h) az.todN B.ty aM).Zm ?_
  rintro ac aU aL ⟨rfl,cb⟩
  have Qc:aV X aU (.ptr b 7)=some (.int .u64 B.n):=by rw[cb.fq _ _ gd];exact ih
  have aZ:kW B.ty=true:=aw.1
  rw[aZ]
  refine ey @Ip @Qc @h7 ⟨?_⟩
  exact⟨rfl,cb⟩
 |false=>
  rw[aD]at a5
  rw[Zg (by simp[aD])]at M7
  refine ht @a5 @h2 @a0 @uw @yj ⟨?_⟩
  refine(D3 (j:=j) (h:=h) az.todN B.ty aM).Zm ?_
  rintro ac aU aL ⟨rfl,cb⟩
  have Qc:aV X aU (.ptr b 7)=some (.int .u64 B.n):=by rw[cb.fq _ _ gd];exact ih
  have aZ:kW B.ty=true:=aw.1
  rw[aZ]
  by_cases F5:B.ty.w=64
  ·have Ip:decide (B.ty.w=64)=true:=by simp[F5]
   refine cq @Ip ⟨?_⟩
   exact⟨rfl,cb⟩
  ·have Ip:decide (B.ty.w=64)=false:=by simp[F5]
   have h7:=agm aw.2.2.1 Zo Zo M7
   refine ey @Ip @Qc @h7 ⟨?_⟩
   exact⟨rfl,cb⟩
def avZ(b:Nat):dv X h .eql 45 false .cW (.ptr b 0)=some .zF:=Zk
def alF(az:jd X){P:Nat->Prop}{b:Nat}{bi:z}{a1:List bs}{aY:List z}(V:dZ X h P b bi 1 (aY.map λv=>[v]))(Gh:c2 X h P a1 aY):
 ba X 140 [bi, .cW] h j (λac R ap=>ac= .zF/\R=h/\j<=ap) (λ_ _ _=>False):=by
 refine zJ az.todN (aia X) ?_
 rw[aib]
 unfold Wd
 refine ba.mono (aj:=λac R ap=>ac= .Z (-1)/\R=h/\j<=ap) (au:=λ_ _ _=>False) ?_ ?_ (λ_ _ _ a=>a.elim)
 ·refine zJ az.todN (aim X) ?_
  rw[ain]
  unfold Wj
  have e5:=V.len
  have hX:=V.many
  rw[Zl]at e5 hX
  refine cq @e5 ⟨?_⟩
  refine fP (λm I R aP=>∃(W:Nat),I.g 0=some bi/\I.g 1=some .cW/\I.g 7=some (.Z (aY.length:Int))/\I.g 8=some (.Z (W:Int))/\W+m=aY.length/\R=h/\j<=aP)
   aY.length ⟨0,bt,bt,bt,gc,Zo,rfl,Zo⟩ ?_
  rintro m I aQ bc ⟨W,t0,t1,fC,iQ,bx,rfl,lX⟩
  cases m with
  |zero=>
   have d:=zD W aY.length
   refine ey @iQ @fC @d ⟨?_⟩
   exact⟨rfl,rfl,lX⟩
  |succ m=>
   have d:=zE W aY.length
   have bw:=zH W
   obtain⟨v,bo⟩:=zF aY W
   have A8:=Gh.len
   obtain⟨B,a7⟩:=zF a1 W
   obtain⟨fd,yz,yg⟩:=Gh.get W B a7
   rw[bo]at yz
   cases yz
   obtain⟨alX,rfl,_,_⟩:=yg.ptr
   obtain⟨b4,b1,cM⟩:=V.one bo
   refine eD @iQ @fC @t1 @t0 @d @b4 (Za @b1 (Za @avZ @bw)) ⟨?_⟩
   exact⟨m,Zo,W+1,a6 t0,a6 t1,a6 fC,bt,Zo,rfl,lX⟩
 ·rintro ac aU aL ⟨rfl,rfl,cd⟩
  refine cY ⟨?_⟩
  exact⟨rfl,rfl,cd⟩
end
def tV(o:Int):Option (Int×Bool×Bool×Bool):=
 if o=1 then some (0,false,true,true)else if o=2 then some (0,true,false,false)else if o=3\/o=4\/o=5 then some (1,false,false,false)else if o=6 then some (1,true,false,false)
 else if o=19\/o=20 then some (1,false,false,true)else if o=23 then some (3,false,false,false)else if o=24 then some (2,true,false,false)else if o=25 then some (-1,true,false,false)
 else if o=26 then some (1,false,true,false)else none
def pR(s:Int×Bool×Bool×Bool):List z:=[.Z s.1, .bool s.2.1, .bool s.2.2.1, .bool s.2.2.2]
structure Ak(X:co):Prop where
 at_:∀h,∃v,aV X h (.ptr 3 0)=some v/\∀o:Int,l2 X h 3 (.agg [.Z 0, .zF, .zF, .zF]) v (.Z o) true=some (.tuple [.agg (pR ((tV o).getD (0,false,false,false))), .bool (tV o).isSome])
structure akV(B:bs)(s:Int×Bool×Bool×Bool):Prop where
 Fz:0<=s.1->(B.args.length:Int)=s.1
 OA:s.2.1=true->Fj B.name
 Oz:s.2.1=false->B.name=[]
 Vw:s.2.2.1=true->kW B.ty=true
 dC:s.2.2.1=false->B.ty=dC
 bf:s.2.2.2=false->B.n=0
def ayr{B:bs}(a:HV n3 B):akV B ((tV B.kind).getD (2,false,false,false)):=by
 have H:=a.bJ
 have K:=a.b2
 have o2:=a.Fz
 have gf:=a.nm
 have Dk:=a.Oz
 have J0:=a.ty
 have yx:=a.dC
 have gL:=a.bf
 unfold r9 at o2
 unfold tv at gf Dk
 unfold tw at J0 yx
 generalize B.kind=o at*
 unfold tV
 have aC:o=1\/o=2\/(o=3\/o=4\/o=5)\/o=6\/(o=19\/o=20)\/o=23\/o=24\/o=25\/o=26\/(7<=o/\o<=18\/o=21\/o=22):=Zo
 rcases aC with aC|aC|aC|aC|aC|aC|aC|aC|aC|aC
 ·subst aC
  exact⟨λ_=>by have:=o2 0 Zs;simp[this],λa=>by simp at a,λ_=>Dk Zo,λ_=>J0 Zo,λa=>by simp at a,λa=>by simp at a⟩
 ·subst aC
  exact⟨λ_=>by have:=o2 0 Zs;simp[this],λ_=>gf Zo,λa=>by simp at a,λa=>by simp at a,λ_=>yx Zo,λ_=>gL Zo Zo Zo⟩
 ·rw[Zg Zo,Zg Zo,Zq aC]
  rw[Zg Zo,Zg Zo,Zq Zo]at o2
  exact⟨λ_=>by have:=o2 1 rfl;simp[this],λa=>by simp at a,λ_=>Dk Zo,λa=>by simp at a,λ_=>yx Zo,λ_=>gL Zo Zo Zo⟩
 ·subst aC
  exact⟨λ_=>by have:=o2 1 Zs;simp[this],λ_=>gf Zo,λa=>by simp at a,λa=>by simp at a,λ_=>yx Zo,λ_=>gL Zo Zo Zo⟩
 ·rw[Zg Zo,Zg Zo,Zg Zo,Zg Zo,Zq aC]
  rw[Zg Zo,Zg Zo,Zq Zo]at o2
  exact⟨λ_=>by have:=o2 1 rfl;simp[this],λa=>by simp at a,λ_=>Dk Zo,λa=>by simp at a,λ_=>yx Zo,λa=>by simp at a⟩
 ·subst aC
  exact⟨λ_=>by have:=o2 3 Zs;simp[this],λa=>by simp at a,λ_=>Dk Zo,λa=>by simp at a,λ_=>yx Zo,λ_=>gL Zo Zo Zo⟩
 ·subst aC
  exact⟨λ_=>by have:=o2 2 Zs;simp[this],λ_=>gf Zo,λa=>by simp at a,λa=>by simp at a,λ_=>yx Zo,λ_=>gL Zo Zo Zo⟩
 ·subst aC
  exact⟨λa=>by simp at a,λ_=>gf Zo,λa=>by simp at a,λa=>by simp at a,λ_=>yx Zo,λ_=>gL Zo Zo Zo⟩
 ·subst aC
  exact⟨λ_=>by have:=o2 1 Zs;simp[this],λa=>by simp at a,λ_=>Dk Zo,λ_=>J0 Zo,λa=>by simp at a,λ_=>gL Zo Zo Zo⟩
 ·rw[Zg Zo,Zg Zo,Zg Zo,Zg Zo,Zg Zo,Zg Zo,Zg Zo,Zg Zo,Zg Zo]
  rw[Zg Zo,Zg Zo,Zg Zo,Zg Zo]at o2
  exact⟨λ_=>by have:=o2 2 rfl;simp[this],λa=>by simp at a,λ_=>Dk Zo,λa=>by simp at a,λ_=>yx Zo,λ_=>gL Zo Zo Zo⟩
section
variable{X:co}{h R gn aU aQ:S ai}{j ap aL bc:Nat}{s:aW}
structure VJ(G:Prop):Prop where
 out:G
def L8{G nu:Prop}(Kw:VJ G->nu)(Ve:G):nu:=Kw ⟨Ve⟩
def al8:dv X h .neq 4 false .zF .zF=some .zF:=Zk
def al9:dv X h .neq 4 false .zT .zT=some .zF:=Zk
def azF:dv X h .neq 49 false (.agg [.zF, .zF, .Z 0]) (.agg [.zF, .zF, .Z 0])=some .zF:=Zk
def aw3(b:Nat):dv X h .neq 45 true (.ptr b 0) .cW=some .zT:=Zk
set_option maxRecDepth 100000 in
def avm(az:jd X)(cd:mo X)(eN:s4 X)(i1:Ak X){P:Nat->Prop}{B:bs}{v:z}(aM:(q X).bf<=j)(a7:cm X h P B v)(bW:∀e,P e->e<j)(bF:fl n3 B):
 ba X 111 [v] h j (λac R ap=>ac= .zT/\bG X h j R ap) (λ_ _ _=>False):=by
 refine zJ az.todN (ahK X) ?_
 rw[ahL]
 unfold V0
 rw[fl.eq]at bF
 obtain⟨bF,GK⟩:=bF
 have h7:=ayr bF
 obtain⟨b,bi,cj,aY,rfl,ah,a0,bd,ca,a3,a4,a5,h2,ih,hk,cR,has⟩:=id a7.open
 have gd:=bW b ah
 obtain⟨fo,uR,yh⟩:=i1.at_ h
 have jA:=yh B.kind
 generalize GG:(tV B.kind).getD (2,false,false,false)=s at h7
 have as1:∀al:Int×Bool×Bool×Bool,pR al=[.Z al.1, .bool al.2.1, .bool al.2.2.1, .bool al.2.2.2]:=λ_=>rfl
 rw[as1]at jA
 refine gb @uR @a0 @jA ⟨?_⟩
 refine iw (λcZ R aP=>cZ.g 0=some (.ptr b 0)/\cZ.g 3=some (.ptr (j+9) 0)/\bG X h j R aP/\j+9<aP/\Z X R (j+9)=zG (pR s) 4) (λW bx=> ?_) ?_
 ·cases bP:tV B.kind with
  |some al=>
   rw[bP]at GG
   simp only[YL]at GG
   subst GG
   simp only[YL,Z6]
   refine cY ⟨?_⟩
   exact bx _ _ _ ⟨bt,bt,dS,Zo,by rw[bz Zo];rfl⟩
  |none=>
   rw[bP]at GG
   simp only[Option.getD_none]at GG
   subst GG
   simp only[Option.getD_none,Z4]
   refine cY ⟨?_⟩
   exact bx _ _ _ ⟨bt,bt,dS,Zo,by rw[bz Zo];rfl⟩
 rintro I aU aL ⟨t0,t3,cb,nK,b4⟩
 have rd:∀R,Go.bn.Z X R (j+9)=zG (pR s) 4->aV X R (.ptr (j+9) 0)=some (.Z s.1)/\aV X R (.ptr (j+9) 1)=some (.bool s.2.1)/\aV X R (.ptr (j+9) 2)=some (.bool s.2.2.1)/\aV X R (.ptr (j+9) 3)=some (.bool s.2.2.2):=λR a=>
  ⟨by rw[bX a];rfl,by rw[bX a];rfl,by rw[bX a];rfl,by rw[bX a];rfl⟩
 have hW:=bF.bJ
 have gD:=bF.b2
 have cI:decide (B.kind<1)=false:=by simp only[Zc];omega
 have cE:decide ((26:Int)<B.kind)=false:=by simp only[Zc];omega
 obtain⟨jC,fc,fQ,ia⟩:=rd aU b4
 have P9:aV X aU (.ptr b 0)=some (.Z B.kind):=by rw[cb.fq _ _ gd];exact a0
 have xw:aV X aU (.ptr b 8)=some bi:=by rw[cb.fq _ _ gd];exact hk
 have e5:=cR.len
 have A8:=has.len
 rw[Zl,A8]at e5
 have vb:∀e,P e->Z X aU e=Z X h e:=λe D=>cb.ad e (bW e D)
 have jn:=cb.le
 apply L8
 ·intro auk
  by_cases o2:0<=s.1
  all_goals
   first
   |(
     have eV:decide ((0:Int)<=s.1)=true:=by simp[o2]
     have iI:decide ((B.args.length:Int)≠s.1)=false:=by simp[h7.Fz o2]
     refine gb @t0 @t3 (Za @P9 (Za @cI (Za @cE (Za @jC (Za @eV (Za @xw (Za @e5 (Za @jC @iI)))))))) ⟨?_⟩)
   |(
     have eV:decide ((0:Int)<=s.1)=false:=by simp[o2]
     refine gb @t0 @t3 (Za @P9 (Za @cI (Za @cE (Za @jC (Za @eV @xw))))) ⟨?_⟩)
   refine(alF (j:=aL+34) (h:=aU) az (cR.ad vb) (c2.ad vb _ _ has)).Zm ?_
   rintro ac aQ bc ⟨rfl,rfl,gE⟩
   refine tm ⟨?_⟩
   refine iw (λcZ R aP=>cZ.g 0=some (.ptr b 0)/\cZ.g 3=some (.ptr (j+9) 0)/\bG X h j R aP/\j+9<aP/\Z X R (j+9)=zG (pR s) 4) (λW bx=> ?_) ?_
   ·refine cY ⟨?_⟩
    exact bx _ _ _ ⟨a6 t0,a6 t3,cb.more Zo,Zo,b4⟩
   exact auk.out
 clear t0 t3 cb b4 jC fc fQ ia P9 xw vb jn
 rintro I br bL ⟨t0,t3,cz,yl,cM⟩
 obtain⟨jC,fc,fQ,ia⟩:=rd br cM
 have jo:=cz.le
 have Qa:aV X br (.ptr b 2)=some (.str B.name):=by rw[cz.fq _ _ gd];exact ca
 have arX:s.2.1=true->decide (B.name≠[])=true:=λa=>by simp[(h7.OA a).ne]
 have arW:s.2.1=false->decide (B.name≠[])=false:=λa=>by simp[h7.Oz a]
 have ma:(B.no=true/\decide (B.kind≠6)=false)\/(B.no=false/\decide ((0:Int)≠0)=false):=by
  cases bP:B.no with
  |true=>exact .inl ⟨rfl,by simp[bF.no bP]⟩
  |false=>exact .inr ⟨rfl,rfl⟩
 apply L8
 ·intro auh
  rcases Bool.eq_false_or_eq_true s.2.1 with j3|j3
  all_goals
   first
   |(
     have vY:=arX j3
     rw[j3]at fc
     refine gb @t0 @t3 (Za @fc (Za @Qa (Za @vY @al9))) ⟨?_⟩
     refine(Kx (j:=bL+33) (h:=br) az cd eN (h7.OA j3) Zo).Zm ?_
     rintro ac b0 cU ⟨rfl,dz⟩
     have jy:=dz.le
     have sl:bG X h j b0 cU:=cz.trans (dz.rq Zo)
     have SQ:j+9<cU:=Zo
     have eE:Z X b0 (j+9)=zG (pR s) 4:=by rw[dz.ad _ Zo];exact cM
     have Qb:aV X b0 (.ptr b 3)=some (.bool B.no):=by rw[sl.fq _ _ gd];exact a3
     have XJ:aV X b0 (.ptr b 0)=some (.Z B.kind):=by rw[sl.fq _ _ gd];exact a0)
   |(
     have vY:=arW j3
     rw[j3]at fc
     refine gb @t0 @t3 (Za @fc (Za @Qa (Za @vY @al8))) ⟨?_⟩
     have sl:bG X h j br (bL+33):=cz.more Zo
     have SQ:j+9<bL+33:=Zo
     have eE:Z X br (j+9)=zG (pR s) 4:=cM
     have Qb:aV X br (.ptr b 3)=some (.bool B.no):=by rw[sl.fq _ _ gd];exact a3
     have XJ:aV X br (.ptr b 0)=some (.Z B.kind):=by rw[sl.fq _ _ gd];exact a0)
   rcases ma with ⟨ac7,uw⟩|⟨ac7,uw⟩
   all_goals
    rw[ac7]at Qb
    refine gb @t0 @t3 (Za @Qb (Za @XJ @uw)) ⟨?_⟩
    refine iw (λcZ R aP=>cZ.g 0=some (.ptr b 0)/\cZ.g 3=some (.ptr (j+9) 0)/\bG X h j R aP/\j+9<aP/\Z X R (j+9)=zG (pR s) 4) (λW bx=> ?_) ?_
    ·refine cY ⟨?_⟩
     exact bx _ _ _ ⟨a6 t0,a6 t3,sl.more Zo,Zo,eE⟩
    exact auh.out
 clear t0 t3 cz cM jC fc fQ ia Qa jo
 rintro I b5 cA ⟨t0,t3,d1,ac3,eZ⟩
 obtain⟨jC,fc,fQ,ia⟩:=rd b5 eZ
 have jz:=d1.le
 have GH:lC B.ty=[.bool B.ty.b, .bool B.ty.s, .Z B.ty.w]:=rfl
 have yj:ep X b5 3 (.ptr b 4)=some (.agg (lC B.ty)):=by rw[wP,d1.fq _ _ gd,d1.fq _ _ gd,d1.fq _ _ gd,a4,a5,h2];rfl
 apply L8
 ·intro auj
  rcases Bool.eq_false_or_eq_true s.2.2.1 with j3|j3
  all_goals
   first
   |(
     have aZ:=h7.Vw j3
     rw[j3]at fQ
     refine gb @t0 @t3 (Za @fQ @yj) ⟨?_⟩
     refine(D3 (j:=cA) (h:=b5) az.todN B.ty Zo).Zm ?_
     rintro ac cp d2 ⟨rfl,eQ⟩
     rw[aZ]
     have rb:=eQ.le
     have sl:bG X h j cp d2:=d1.trans (eQ.rq Zo)
     have SQ:j+9<d2:=Zo
     have eE:Z X cp (j+9)=zG (pR s) 4:=by rw[eQ.ad _ Zo];exact eZ
     have XM:aV X cp (.ptr b 7)=some (.int .u64 B.n):=by rw[sl.fq _ _ gd];exact ih
     have OU:aV X cp (.ptr (j+9) 3)=some (.bool s.2.2.2):=(rd cp eE).2.2.2)
   |(
     have aZ:=h7.dC j3
     rw[j3]at fQ
     have atl:lC B.ty=[.zF, .zF, .Z 0]:=by rw[aZ];rfl
     rw[atl]at yj
     refine gb @t0 @t3 (Za @fQ (Za @yj @azF)) ⟨?_⟩
     have sl:bG X h j b5 cA:=d1
     have SQ:j+9<cA:=ac3
     have eE:Z X b5 (j+9)=zG (pR s) 4:=eZ
     have XM:aV X b5 (.ptr b 7)=some (.int .u64 B.n):=by rw[sl.fq _ _ gd];exact ih
     have OU:aV X b5 (.ptr (j+9) 3)=some (.bool s.2.2.2):=(rd b5 eE).2.2.2)
   rcases Bool.eq_false_or_eq_true s.2.2.2 with oo|oo
   all_goals
    first
    |(
      have vY:decide ((0:Int)≠0)=false:=rfl
      rw[oo]at OU
      have aCc:s.2.2.2=true:=oo)
    |(
      have vY:decide (B.n≠0)=false:=by simp[h7.bf oo]
      rw[oo]at OU)
    refine gb @t0 @t3 (Za @OU (Za @XM @vY)) ⟨?_⟩
    refine iw (λcZ R aP=>cZ.g 0=some (.ptr b 0)/\cZ.g 3=some (.ptr (j+9) 0)/\bG X h j R aP/\j+9<aP/\Z X R (j+9)=zG (pR s) 4) (λW bx=> ?_) ?_
    ·refine cY ⟨?_⟩
     exact bx _ _ _ ⟨a6 t0,a6 t3,sl.more Zo,Zo,eE⟩
    exact auj.out
 clear t0 t3 d1 eZ jC fc fQ ia jz yj
 rintro I cH eh ⟨t0,t3,e3,aBQ,eW⟩
 have pF:=e3.le
 have Ft:aV X cH (.ptr b 0)=some (.Z B.kind):=by rw[e3.fq _ _ gd];exact a0
 have XN:aV X cH (.ptr b 7)=some (.int .u64 B.n):=by rw[e3.fq _ _ gd];exact ih
 have XP:aV X cH (.ptr b 8)=some bi:=by rw[e3.fq _ _ gd];exact hk
 have yH:∀e,P e->Z X cH e=Z X h e:=λe D=>e3.ad e (bW e D)
 show cl _ _
 by_cases H:B.kind=1
 ·have bw:decide (B.kind=1)=true:=by simp[H]
  refine ey @t0 @Ft @bw ⟨?_⟩
  refine(avb (j:=eh) (h:=cH) az Zo (cm.ad yH _ _ a7) (λe D=>zC (bW e D)) H (bF.afn H)).Zm ?_
  rintro ac ea jM ⟨rfl,kx⟩
  exact⟨rfl,e3.trans (kx.rq Zo)⟩
 have bw:decide (B.kind=1)=false:=by simp[H]
 by_cases IQ:B.kind=19
 ·have FO:decide (B.kind=19)=true:=by simp[IQ]
  have Q1:decide (B.n<=63)=true:=by simp[(bF.d3 (.inl IQ)).2]
  refine lT @t0 @Ft @bw @FO @XN @Q1 ⟨?_⟩
  exact⟨rfl,e3.more Zo⟩
 have FO:decide (B.kind=19)=false:=by simp[IQ]
 by_cases RJ:B.kind=20
 ·have Iy:decide (B.kind=20)=true:=by simp[RJ]
  have Q1:decide (B.n<=63)=true:=by simp[(bF.d3 (.inr RJ)).2]
  refine eD @t0 @Ft @bw @FO @Iy @XN @Q1 ⟨?_⟩
  exact⟨rfl,e3.more Zo⟩
 have Iy:decide (B.kind=20)=false:=by simp[RJ]
 by_cases ju:B.kind=21
 ·have Mk:decide (B.kind=21)=true:=by simp[ju]
  obtain⟨k,r,wn,aw⟩:=bF.jY ju
  obtain⟨am,arO,ge⟩:=has.get 0 k (by rw[wn];rfl)
  obtain⟨cP,cG,d4⟩:=(cR.ad yH).one arO
  obtain⟨f6,aeV,auU,aCI,rfl,uW,dE,_,_,_,_,_,_,_,FG,aeU,aeC⟩:=(cm.ad yH _ _ ge).open
  have afW:iv 1 bi (.Z 0)=some (.ptr cj 0):=cP
  rcases aw with aw|⟨aw,x,af,Dx⟩
  ·have th:decide (k.kind=1)=true:=by simp[aw]
   refine eD @t0 @Ft @bw @FO @Iy @Mk (Za @XP (Za @afW (Za @cG (Za @dE @th)))) ⟨?_⟩
   exact⟨rfl,e3.more Zo⟩
  ·have th:decide (k.kind=1)=false:=by simp[aw]
   have anA:decide (k.kind=4)=true:=by simp[aw]
   obtain⟨aDo,atE,atC⟩:=aeC.get 0 x (by rw[af];rfl)
   obtain⟨e7,hh,vm⟩:=aeU.one atE
   obtain⟨aDn,rfl,tG,ip⟩:=atC.ptr
   have awG:iv 1 aeV (.Z 0)=some (.ptr auU 0):=e7
   have aeN:=aeU.len
   rw[Zl,aeC.len,af]at aeN
   have avc:eT aeV=some (.Z 1):=aeN
   have ex:decide (x.kind=1)=true:=by simp[Dx]
   have ann:decide ((1:Int)=1)=true:=rfl
   refine eD @t0 @Ft @bw @FO @Iy @Mk (Za @XP (Za @afW (Za @cG (Za @dE (Za @th (Za @anA (Za @FG (Za @avc (Za @ann (Za @awG (Za @hh (Za @aw3 (Za @ip @ex))))))))))))) ⟨?_⟩
   exact⟨rfl,e3.more Zo⟩
 have Mk:decide (B.kind=21)=false:=by simp[ju]
 refine lT @t0 @Ft @bw @FO @Iy @Mk ⟨?_⟩
 exact⟨rfl,e3.more Zo⟩
end
def arb{o:Nat}{B E:bs}(a:gV (o+1) B<=o)(aB:E∈B.args):gV o E+1<=o:=by
 have aZ:∀(k:List bs) (a8:Nat),(∀E∈k,gV o E<=k.foldl (λa E=>max a (gV o E)) a8)/\a8<=k.foldl (λa E=>max a (gV o E)) a8:=by
  intro k
  induction k with
  |nil=>intro a8;exact⟨λ_ a=>by simp at a,Zh _⟩
  |cons b k ag=>
   intro a8
   obtain⟨o8,i6⟩:=ag (max a8 (gV o b))
   refine⟨λx af=> ?_,Zy (Nat.le_max_left _ _) i6⟩
   rcases Zr.1 af with rfl|af
   ·exact Zy (Nat.le_max_right _ _) i6
   ·exact o8 x af
 have H:=(aZ B.args 0).1 E aB
 have K:gV (o+1) B=B.args.foldl (λa E=>max a (gV o E)) 0+1:=rfl
 omega
def ard{o:Nat}{B:bs}:1<=gV (o+1) B:=by
 have K:gV (o+1) B=B.args.foldl (λa E=>max a (gV o E)) 0+1:=rfl
 omega
def aAd{bv:iH}:∀{k:List bs}{E:bs},f2 bv k->E∈k->fl bv E:=by
 intro k
 induction k with
 |nil=>intro E _ a;cases a
 |cons b k ag=>
  intro E a aB
  rw[f2]at a
  rcases Zr.1 aB with rfl|aB
  ·exact a.1
  ·exact ag a.2 aB
section
variable{X:co}{h R gn aU aQ:S ai}{j ap aL bc:Nat}{s:aW}
structure Am(X:co)(c8 ns f6:Nat)(d:Int)(h:S ai):Prop where
 Ma:∃c,Z X h c8=some (.cells c 1 .own)/\c.get 0=some (.Z d)
 Py:aV X h (.ptr ns 0)=some (.Z 0)
 look:aV X h (.ptr f6 0)=some (.func (.func 110) [] [.ptr c8 0, .ptr ns 0, .ptr f6 0])
def Am.ad{c8 ns f6:Nat}{d:Int}(a:Am X c8 ns f6 d aU)(o:∀e,e=c8\/e=ns\/e=f6->Z X aQ e=Z X aU e):Am X c8 ns f6 d aQ:=by
 obtain⟨c,H,K⟩:=a.Ma
 exact⟨⟨c,by rw[o c8 (.inl rfl)];exact H,K⟩,zN (o ns (.inr (.inl rfl))) a.Py,zN (o f6 (.inr (.inr rfl))) a.look⟩
set_option maxRecDepth 100000 in
def avi(az:jd X)(cd:mo X)(eN:s4 X)(i1:Ak X){P:Nat->Prop}{c8 ns f6 kV:Nat}(ww:(q X).bf<=c8)(aBc:c8<kV)(aCk:ns<kV)(nJ:f6<kV)(Dd:ns≠c8)(j2:f6≠c8)(bW:∀e,P e->e<kV/\e≠c8):
 ∀(o:Nat) (B:bs) (v:z) (h:S ai) (j:Nat),o<=200->kV<=j->gV (o+1) B<=o->fl n3 B->cm X h P B v->Am X c8 ns f6 ((200-o:Nat):Int) h->
  ba X 110 [v, .ptr c8 0, .ptr ns 0, .ptr f6 0] h j (λac R ap=>ac= .tuple []/\Am X c8 ns f6 ((200-o:Nat):Int) R/\j<=ap/\∀e,e<j->e≠c8->Z X R e=Z X h e) (λ_ _ _=>False):=by
 intro o
 induction o with
 |zero=>intro B v h j _ _ a;have:=ard (o:=0) (B:=B);omega
 |succ o ag=>
  intro B v h j aC aM gC bF a7 gj
  refine zJ az.todN (ahI X) ?_
  rw[ahJ]
  unfold VZ
  obtain⟨b,bi,cj,aY,rfl,ah,_,_,_,_,_,_,_,_,hk,cR,has⟩:=id a7.open
  obtain⟨c,b4,b1⟩:=gj.Ma
  have C9:=bW b ah
  have bw:bm .add (.Z ((200-(o+1):Nat):Int)) (.Z 1)=some (.Z ((200-o:Nat):Int)):=by rw[eG Zo Zo,show((200-(o+1):Nat):Int)+1=((200-o:Nat):Int) by omega]
  refine gb (bX b4) @b1 @bw ⟨?_⟩
  generalize fi:bp X h c8 _=aU
  have Ro:∃gp,Z X aU c8=some (.cells gp 1 .own)/\gp.get 0=some (.Z ((200-o:Nat):Int)):=⟨dM c 0 [.Z ((200-o:Nat):Int)],by rw[<-fi,bz ww];rfl,Aa c 0 _⟩
  have bJ:∀e,e≠c8->Z X aU e=Z X h e:=λe D=>by rw[<-fi,aJ ww D]
  clear fi
  have ap8:Am X c8 ns f6 ((200-o:Nat):Int) aU:=⟨Ro,zN (bJ _ Dd) gj.Py,zN (bJ _ j2) gj.look⟩
  have vb:∀e,P e->Z X aU e=Z X h e:=λe D=>bJ e (bW e D).2
  have tz:=cm.ad vb _ _ a7
  refine cq @En ⟨?_⟩
  refine(avm (j:=j) (h:=aU) az cd eN i1 Zo tz (λe D=>zC (bW e D).1) bF).Zm ?_
  rintro ac aQ bc ⟨rfl,cu⟩
  have gE:=cu.le
  have MZ:Am X c8 ns f6 ((200-o:Nat):Int) aQ:=ap8.ad (λe D=>cu.ad e (by rcases D with rfl|rfl|rfl<;>omega))
  obtain⟨dR,Rp,aoO⟩:=MZ.Ma
  have LD:aV X aQ (.ptr b 8)=some bi:=by rw[cu.fq _ _ Zo,da,bJ _ C9.2, <-da];exact hk
  have e5:=cR.len
  have A8:=has.len
  rw[Zl,A8]at e5
  have hX:=cR.many
  rw[Zl,A8]at hX
  have cE:decide ((200:Int)<((200-o:Nat):Int))=false:=by simp only[Zc];omega
  refine ht (bX Rp) @aoO @cE @LD @e5 ⟨?_⟩
  refine fP (λm I R aP=>∃(W:Nat),I.g 1=some (.ptr c8 0)/\I.g 2=some (.ptr ns 0)/\I.g 3=some (.ptr f6 0)/\I.g 12=some bi/\I.g 13=some (.Z (B.args.length:Int))/\I.g 14=some (.Z (W:Int))/\W+m=B.args.length
   /\Am X c8 ns f6 ((200-o:Nat):Int) R/\j<=aP/\∀e,e<j->e≠c8->Z X R e=Z X h e)
   B.args.length ⟨0,bt,bt,bt,bt,bt,gc,Zo,MZ,gE,λe H K=>by rw[cu.ad e H,bJ e K]⟩ ?_
  rintro m I br bL ⟨W,t1,ei,t3,oG,kn,oH,bx,IZ,jo,k9⟩
  cases m with
  |zero=>
   have d:=zD W B.args.length
   obtain⟨g3,FV,aoP⟩:=IZ.Ma
   have b3:bm .sub (.Z ((200-o:Nat):Int)) (.Z 1)=some (.Z ((200-(o+1):Nat):Int)):=by rw[tH Zo Zo,show((200-o:Nat):Int) -1=((200-(o+1):Nat):Int) by omega]
   refine eD @oH @kn @t1 @d (bX FV) @aoP @b3 ⟨?_⟩
   refine⟨rfl,⟨⟨dM g3 0 [.Z ((200-(o+1):Nat):Int)],by rw[bz ww];rfl,Aa g3 0 _⟩,zN (aJ ww Dd) IZ.Py,zN (aJ ww j2) IZ.look⟩,Zo,λe H K=>by rw[aJ ww K];exact k9 e H K⟩
  |succ m=>
   have d:=zE W B.args.length
   have b3:=zH W
   obtain⟨E,aB⟩:=zF B.args W
   obtain⟨w,tF,R7⟩:=has.get W E aB
   have tM:∀e,P e->Z X br e=Z X h e:=λe D=>k9 e (zC (bW e D).1) (bW e D).2
   obtain⟨cP,cG,d4⟩:=(cR.ad tM).one tF
   have I9:=Zn aB
   have aBh:=arb gC I9
   have jA:=IZ.look
   refine eD @oH @kn @oG @t3 @d @cP (Za @cG @jA) ⟨?_⟩
   rw[fl.eq]at bF
   refine(ag E w br bL Zo Zo Zo (aAd bF.2 I9) (cm.ad tM _ _ R7) IZ).Zm ?_
   rintro ac b0 cU ⟨rfl,ap9,jy,gl⟩
   refine dd @oH @b3 ⟨?_⟩
   exact⟨m,Zo,W+1,a6 t1,a6 ei,a6 t3,a6 oG,a6 kn,bt,Zo,ap9,Zo,λe H K=>by rw[gl e Zo K];exact k9 e H K⟩
end
structure PW(g:Go.aT.Node):Prop where
 vars:g.es.length+g.out.length+g.loc.length<=256
 eqs:g.eqs.length<=4096
 high:∀al∈g.eqs,gV 201 al.right<=200
def au6:∀{k:List eo},BE k=none->∀al∈k,gV 201 al.right<=200:=by
 intro k
 induction k with
 |nil=>intro _ al a;cases a
 |cons E k ag=>
  intro a al bP
  unfold BE at a
  split at a
  ·cases a
  ·rcases Zr.1 bP with rfl|bP
   ·omega
   ·exact ag a al bP
def au7:∀{k:List Go.aT.Node},rm k=none->∀g∈k,PW g:=by
 intro k
 induction k with
 |nil=>intro _ al a;cases a
 |cons E k ag=>
  intro a g bS
  unfold rm at a
  split at a
  ·cases a
  ·rename_i bP
   split at a
   ·cases a
   ·rename_i a7
    rcases Zr.1 bS with rfl|bS
    ·exact⟨Zo,Zo,au6 a7⟩
    ·exact ag a g bS
def T6{aE:List Go.aT.Node}(a:rn aE=none):aE.length<=64/\∀g∈aE,PW g:=by
 unfold rn at a
 split at a
 ·cases a
 ·rename_i bP
  rw[List.getElem?_eq_none_iff]at bP
  exact⟨bP,au7 a⟩
section
variable{X:co}{h R gn aU aQ:S ai}{j ap aL bc:Nat}{s:aW}
set_option maxRecDepth 100000 in
def aoH(az:jd X)(cd:mo X)(eN:s4 X)(i1:Ak X){P:Nat->Prop}{B:bs}{v:z}(aM:(q X).bf<=j)(a7:cm X h P B v)(bW:∀e,P e->e<j)(bF:fl n3 B)(gC:gV 201 B<=200):
 ba X 71 [v] h j (λac R ap=>ac= .Z 0/\bG X h j R ap) (λ_ _ _=>False):=by
 refine zJ az.todN (aka X) ?_
 rw[akb]
 unfold Xi
 refine cY ⟨?_⟩
 generalize fi:bp X _ (j+1+1) _=aU
 have jK:Z X aU j=zG [.Z 0] 1:=by rw[<-fi];simp(disch:=omega) only[aJ,bz];rfl
 have b4:Z X aU (j+1)=zG [.Z 0] 1:=by rw[<-fi];simp(disch:=omega) only[aJ,bz];rfl
 have b1:aV X aU (.ptr (j+1+1) 0)=some (.func (.func 110) [] [.ptr (j+1) 0, .ptr j 0, .ptr (j+1+1) 0]):=by rw[<-fi,By Zo];rfl
 have cb:bG X h j aU (j+1+1+1):=by rw[<-fi];exact dS
 clear fi
 refine cq @b1 ⟨?_⟩
 have tz:=cm.ad (λe D=>cb.ad e (bW e D)) _ _ a7
 refine(avi (kV:=j+1+1+1) az cd eN i1 Zo Zo Zo Zo Zo Zo (λe D=>by have:=bW e D;exact⟨Zo,Zo⟩) 200 B v aU (j+1+1+1) Zo Zo gC bF tz ⟨⟨_,b4,rfl⟩,by rw[bX jK];rfl,b1⟩).Zm ?_
 rintro ac aQ bc ⟨rfl,MZ,gE,gD⟩
 have atw:=MZ.Py
 refine cq @atw ⟨?_⟩
 exact⟨rfl,Zo,λe D=>by rw[gD e Zo Zo];exact cb.ad e D⟩
set_option maxRecDepth 100000 in
def avy(az:jd X)(cd:mo X)(eN:s4 X)(i1:Ak X){P:Nat->Prop}{g:Go.aT.Node}{row:List z}(aM:(q X).bf<=j)(bS:ps X h P g row)(bW:∀e,P e->e<j)(bF:r0 n3 g)(aw:PW g):
 ba X 39 [.agg row] h j (λac R ap=>ac= .Z 0/\bG X h j R ap) (λ_ _ _=>False):=by
 refine zJ az.todN (aje X) ?_
 rw[ajf]
 unfold WL
 obtain⟨dk,dI,bi,eB,ch,cD,di,f4,bu,rfl,pE,q7,q8,m2,e0⟩:=bS
 have cO:=pE.len
 have b9:=q7.len
 have d9:=q8.len
 have oq:=e0.wide
 have fI:=m2.len
 have hX:=m2.many
 rw[Zl]at cO b9 d9
 rw[oq.1]at fI hX
 have aCi:=aw.vars
 have aBf:=aw.eqs
 have Gx:0<g.out.length:=ZW.2 bF.some
 have bw:bm .add (.Z (g.es.length:Int)) (.Z (g.out.length:Int))=some (.Z ((g.es.length+g.out.length:Nat):Int)):=by rw[eG Zo Zo];simp
 have b3:bm .add (.Z ((g.es.length+g.out.length:Nat):Int)) (.Z (g.loc.length:Int))=some (.Z ((g.es.length+g.out.length+g.loc.length:Nat):Int)):=by rw[eG Zo Zo];simp
 have cI:decide ((g.out.length:Int)=0)=false:=by simp only[Zc];omega
 have cE:decide ((256:Int)<((g.es.length+g.out.length+g.loc.length:Nat):Int))=false:=by simp only[Zc];omega
 have eV:decide ((4096:Int)<(g.eqs.length:Int))=false:=by simp only[Zc];omega
 refine Ij ?_
 generalize fi:bp X h j _=aU
 have b4:Z X aU j=zG [.str g.name, .Z g.at_,dk,dI,bi,eB] 6:=by rw[<-fi,bz aM];rfl
 have cb:bG X h j aU (j+1):=by rw[<-fi];exact dS
 clear fi
 refine gb (bX b4) @cO (Za @b9 (Za @d9 (Za @bw @b3))) ⟨?_⟩
 refine(Kx (j:=j+1) (h:=aU) az cd eN bF.name Zo).Zm ?_
 rintro ac aQ bc ⟨rfl,cu⟩
 have gE:=cu.le
 rw[<-cu.ad _ Zo]at b4
 have nE:=cb.trans cu
 have dF:=(mH pE.len).1
 have dR:=(mH q7.len).1
 have g3:=(mH q8.len).1
 have g5:hz 3 [.a2, .a2, .a2] [(0,1,dk),(1,1,dI),(2,1,bi)] bc=some (.slice bc 0 3 3, .cells (S.ofList [dk,dI,bi] 0 .nil) 3 .own):=by
  simp[hz,uy,wa,oE,dF,dR,g3]
 refine gb (bX b4) @cO (Za @b9 (Za @d9 (Za @fI (Za @cI (Za @cE @eV))))) ⟨?_⟩
 refine gr g5 ?_
 refine tm ⟨?_⟩
 generalize gk:bp X aQ bc _=br
 have cM:Z X br bc=zG [dk,dI,bi] 3:=by rw[<-gk,bz Zo]
 have cz:bG X h j br (bc+1):=⟨Zo,λe D=>by rw[<-gk];simp(disch:=omega) only[aJ];exact nE.ad e D⟩
 have FV:Z X br j=zG [.str g.name, .Z g.at_,dk,dI,bi,eB] 6:=by rw[<-gk];simp(disch:=omega) only[aJ];exact b4
 clear gk
 have tM:∀e,P e->Z X br e=Z X h e:=λe D=>cz.ad e (bW e D)
 refine(amE (j:=bc+1) (h:=br) az.todN Zo Zo cM (pE.ad tM) (q7.ad tM) (q8.ad tM) (λe D=>zC (bW e D)) Zo Zo).Zm ?_
 rintro ac b0 cU ⟨alX,cR,dz⟩
 have jy:=dz.le
 refine tm ⟨?_⟩
 refine(amW (j:=cU) (h:=b0) az cd eN Zo cR (λe D=>D.2) (λd aI=> ?_)).Zm ?_
 ·rcases Zx.1 aI with a|a
  ·exact bF.es d a
  ·rcases Zx.1 a with a|a
   ·exact bF.out d a
   ·exact bF.loc d a
 rintro ac b5 cA ⟨rfl,d1⟩
 have jz:=d1.le
 have IT:bG X br (bc+1) b5 cA:=dz.trans d1
 have sl:bG X h j b5 cA:=cz.trans IT
 rw[<-IT.ad _ Zo]at FV
 refine dd (bX FV) @fI ⟨?_⟩
 refine fP (λm I R aP=>∃(W:Nat),I.g 4=some (.Z 0)/\I.g 53=some eB/\I.g 54=some (.Z (g.eqs.length:Int))/\I.g 55=some (.Z (W:Int))/\W+m=g.eqs.length/\bG X h j R aP)
  g.eqs.length ⟨0,bt,bt,bt,gc,Zo,sl⟩ ?_
 rintro m I cp d2 ⟨W,t4,t53,np,pS,bx,eQ⟩
 have rb:=eQ.le
 cases m with
 |zero=>
  have d:=zD W g.eqs.length
  refine hm @pS @np @t4 @d ⟨?_⟩
  exact⟨rfl,eQ⟩
 |succ m=>
  have d:=zE W g.eqs.length
  have bw:=zH W
  obtain⟨al,bP⟩:=zF g.eqs W
  have GB:=Zn bP
  have ys:=bF.eqs al GB
  obtain⟨row,gg,Dp⟩:=e0.get W al bP
  have GX:∀e,P e->Z X cp e=Z X h e:=λe D=>eQ.ad e (bW e D)
  have dV:=m2.gF W (by rw[oq.1];omega)
  have nN:=(m2.ad GX).row Zd gg
  obtain⟨yS,B4,dF,dR,hy,rfl,it,nL,qn,sD⟩:=Dp
  have yq:=it.len
  rw[show(f8 al.left).length=al.left.length from by simp[f8]]at yq
  have SM:0<al.left.length:=ZW.2 ys.some
  have Ir:decide ((al.left.length:Int)=0)=false:=by simp only[Zc];omega
  refine lT @pS @np @t53 @d @dV @nN ⟨?_⟩
  refine gr (km (o:=4) (b:=d2) (U:=0) (n:=4) (c:=S.ofList [.a2, .a2, .Z 0, .cW] 0 .nil) (bz Zo) Zo rfl Zd Zd sD) ?_
  generalize nF:bp X _ d2 _=cH
  have eW:Z X cH d2=zG [yS,B4, .Z al.at_,hy] 4:=by rw[<-nF,bz Zo];rfl
  have e3:bG X h j cH (d2+1):=⟨Zo,λe D=>by rw[<-nF];simp(disch:=omega) only[aJ];exact eQ.ad e D⟩
  clear nF
  have yH:∀e,P e->Z X cH e=Z X h e:=λe D=>e3.ad e (bW e D)
  refine cq (bX eW) ⟨?_⟩
  refine(aoH (j:=d2+1) (h:=cH) az cd eN i1 Zo (cm.ad yH _ _ qn) (λe D=>zC (bW e D)) ys.right (aw.high al GB)).Zm ?_
  rintro ac ea jM ⟨rfl,kx⟩
  have Dj:=kx.le
  rw[<-kx.ad _ Zo]at eW
  have abG:bG X h j ea jM:=e3.trans kx
  have Bv:∀e,P e->Z X ea e=Z X h e:=λe D=>abG.ad e (bW e D)
  refine ey (bX eW) @yq @Ir ⟨?_⟩
  refine(auW (j:=jM) (h:=ea) az cd eN Zo (it.ad Bv) (λe D=>zC (bW e D)) ys.left).Zm ?_
  rintro ac eC mK ⟨rfl,qb⟩
  have fD:decide ((0:Int)=1)=false:=rfl
  have fE:decide ((0:Int)≠0)=false:=rfl
  refine hm @fD @fE @pS @bw ⟨?_⟩
  exact⟨m,Zo,W+1,a6 t4,a6 t53,a6 np,bt,Zo,abG.trans qb⟩
set_option maxRecDepth 100000 in
def aoG(az:jd X)(cd:mo X)(eN:s4 X)(i1:Ak X){P:Nat->Prop}{aE:List Go.aT.Node}{v:z}(aM:(q X).bf<=j)(bS:ui X h P aE v)(bW:∀e,P e->e<j)(bF:∀g∈aE,r0 n3 g)(a8:aE≠[])(aw:rn aE=none):
 ba X 21 [v] h j (λac R ap=>ac= .Z 0/\bG X h j R ap) (λ_ _ _=>False):=by
 refine zJ az.todN (aiI X) ?_
 rw[aiJ]
 unfold Wu
 obtain⟨lu,la⟩:=T6 aw
 obtain⟨b,bi,cj,bu,rfl,ah,a0,cR,kS⟩:=id bS
 have oq:=kS.wide
 have e5:=cR.len
 rw[oq.1]at e5
 have gd:=bW b ah
 have av:0<aE.length:=ZW.2 a8
 have cI:decide ((aE.length:Int)=0)=false:=by simp only[Zc];omega
 have cE:decide ((64:Int)<(aE.length:Int))=false:=by simp only[Zc];omega
 refine ht @aaM @a0 @e5 @cI @cE ⟨?_⟩
 refine fP (λm I R aP=>∃(W:Nat),I.g 3=some (.Z 0)/\I.g 28=some bi/\I.g 29=some (.Z (aE.length:Int))/\I.g 30=some (.Z (W:Int))/\W+m=aE.length/\bG X h j R aP)
  aE.length ⟨0,bt,bt,bt,gc,Zo,bG.refl _ _⟩ ?_
 rintro m I aU aL ⟨W,t3,t28,Vp,Vq,bx,cb⟩
 have jn:=cb.le
 cases m with
 |zero=>
  have d:=zD W aE.length
  refine hm @Vq @Vp @t3 @d ⟨?_⟩
  exact⟨rfl,cb⟩
 |succ m=>
  have d:=zE W aE.length
  have bw:=zH W
  obtain⟨g,wy⟩:=zF aE W
  have Ba:=Zn wy
  obtain⟨row,gg,mA⟩:=kS.get W g wy
  have vb:∀e,P e->Z X aU e=Z X h e:=λe D=>cb.ad e (bW e D)
  have dV:=cR.gF W (by rw[oq.1];omega)
  have nN:=(cR.ad vb).row Zd gg
  have lb:=mA.hZ
  have JF:=mA
  obtain⟨dk,dI,nV,eB,ch,cD,di,f4,hi,rfl,_⟩:=mA
  refine lT @Vq @Vp @t28 @d @dV @nN ⟨?_⟩
  refine gr (km (o:=6) (b:=aL) (U:=0) (n:=6) (c:=S.ofList [.str [], .Z 0, .a2, .a2, .a2, .a2] 0 .nil) (bz Zo) Zo rfl Zd Zd lb) ?_
  generalize dG:bp X _ aL _=aQ
  have b1:Z X aQ aL=zG [.str g.name, .Z g.at_,dk,dI,nV,eB] 6:=by rw[<-dG,bz Zo];rfl
  have cu:bG X h j aQ (aL+1):=⟨Zo,λe D=>by rw[<-dG];simp(disch:=omega) only[aJ];exact cb.ad e D⟩
  clear dG
  refine cq (bX b1) ⟨?_⟩
  refine(avy (j:=aL+1) (h:=aQ) az cd eN i1 Zo (JF.ad (bk:=P) (λe D=>cu.ad e (bW e D)) (λ_ a=>a)) (λe D=>zC (bW e D)) (bF g Ba) (la g Ba)).Zm ?_
  rintro ac br bL ⟨rfl,cz⟩
  have fD:decide ((0:Int)=1)=false:=rfl
  have fE:decide ((0:Int)=22)=false:=rfl
  refine hm @fD @fE @Vq @bw ⟨?_⟩
  exact⟨m,Zo,W+1,a6 t3,a6 t28,a6 Vp,bt,Zo,cu.trans cz⟩
end
def G8(aE:List Go.aT.Node)(o:Nat)(g:Go.aT.Node):(aW->Option Int)×(Int×Int):=g.eqs.foldl (ml (g0 g) aE o) (λ_=>none,uv (g0 g) g (vk aE o g))
def av2(aE:List Go.aT.Node)(o:Nat)(g:Go.aT.Node):nb aE o g=(fO g).foldl (qH (G8 aE o g).1) (G8 aE o g).2:=rfl
def Ui(aE:List Go.aT.Node)(o:Nat)(g:Go.aT.Node)(w:aW):((G8 aE o g).1 w).getD 0=hG w (g.eqs.flatMap eo.left):=by
 unfold G8
 rw[axo];simp
def BC(g:Go.aT.Node):List aW:=g.eqs.flatMap eo.left
structure VP(aE:List Go.aT.Node)(o:Nat)(g:Go.aT.Node):Prop where
 bf:(vk aE o g).1=0
 rs:(Ov g).Nodup
 on:∀x∈fO g,x.2.on≠[]->(g0 g x.2.on).isSome=true
 left:∀w∈BC g,∃v,g0 g w=some v/\v.kind≠1/\hG w (BC g)<=1
 right:∀al∈g.eqs,H1 (g0 g) aE o al.right
def avD{aE:List Go.aT.Node}{o:Nat}{g:Go.aT.Node}:(G8 aE o g).2.1=0↔VP aE o g:=by
 unfold G8
 rw[axp _ _ _ _ _ (λ_=>Zs)]
 simp only[]
 rw[amX]
 constructor
 ·rintro⟨⟨H,K,ak⟩,ay,be⟩
  refine⟨H,K,λx af cK=> ?_,λw bF=> ?_,be⟩
  ·cases bh:g0 g x.2.on with
   |none=>exact absurd ⟨bh,cK⟩ (ak x af)
   |some v=>rfl
  ·obtain⟨v,bJ,b2,cF⟩:=ay w bF
   exact⟨v,bJ,b2,by simpa[BC]using cF⟩
 ·rintro⟨H,K,ak,ay,be⟩
  refine⟨⟨H,K,λx af cK=> ?_⟩,λw bF=> ?_,be⟩
  ·have:=ak x af cK.2
   rw[cK.1]at this;cases this
  ·obtain⟨v,bJ,b2,cF⟩:=ay w bF
   exact⟨v,bJ,b2,by simpa[BC]using cF⟩
def av3{aE:List Go.aT.Node}{o:Nat}{g:Go.aT.Node}:(nb aE o g).1=0↔VP aE o g/\∀x∈fO g,x.1≠1->0<hG x.2.name (BC g):=by
 rw[av2,azM,avD]
 refine and_congr Iff.rfl ⟨λa x af H=> ?_,λa x af H=> ?_⟩
 ·have:=a x af
  rw[Ui]at this
  have:=CC x.2.name (g.eqs.flatMap eo.left)
  have K:¬hG x.2.name (g.eqs.flatMap eo.left)=0:=λB=>a x af ⟨H,by rw[Ui];exact B⟩
  show 0<hG x.2.name (g.eqs.flatMap eo.left)
  omega
 ·rw[Ui]at H
  have:=a x af H.1
  unfold BC at this
  omega
def afA:∀(k:List (Int×eP)) (s:(aW->Option f1)×List aW) (w:aW),((k.foldl kF s).1 w=s.1 w/\((s.1 w).isSome=true\/∀x∈k,x.2.name≠w))\/((s.1 w)=none/\∃x∈k,x.2.name=w/\(k.foldl kF s).1 w=some ⟨x.1,x.2, -1, -1⟩):=by
 intro k
 induction k with
 |nil=>intro s w;exact .inl ⟨rfl, .inr λ_ a=>by cases a⟩
 |cons x k ag=>
  intro s w
  rw[ZZ]
  by_cases aD:(s.1 x.2.name).isSome=true
  ·have B:kF s x=s:=by unfold kF;rw[Zq aD]
   rw[B]
   rcases ag s w with ⟨H,K⟩|⟨H,e,D,K,ak⟩
   ·refine .inl ⟨H, ?_⟩
    rcases K with K|K
    ·exact .inl K
    ·by_cases bF:x.2.name=w
     ·subst bF;exact .inl aD
     ·refine .inr λe D=> ?_
      rcases Zr.1 D with rfl|D
      ·exact bF
      ·exact K e D
   ·exact .inr ⟨H,e,Zt _ D,K,ak⟩
  ·have B:kF s x=(λw=>if w=x.2.name then some ⟨x.1,x.2, -1, -1⟩else s.1 w,s.2++[x.2.name]):=by unfold kF;rw[Zg aD]
   rw[B]
   by_cases bF:w=x.2.name
   ·subst bF
    have aM:s.1 x.2.name=none:=by
     cases a:s.1 x.2.name with
     |none=>rfl
     |some v=>rw[a]at aD;exact absurd rfl aD
    refine .inr ⟨aM,x,Zu ..,rfl, ?_⟩
    rcases ag (λw=>if w=x.2.name then some ⟨x.1,x.2, -1, -1⟩else s.1 w,s.2++[x.2.name]) x.2.name with ⟨H,_⟩|⟨H,_⟩
    ·rw[H];simp
    ·simp at H
   ·rcases ag (λw=>if w=x.2.name then some ⟨x.1,x.2, -1, -1⟩else s.1 w,s.2++[x.2.name]) w with ⟨H,K⟩|⟨H,e,D,K,ak⟩
    ·simp only[Zg bF]at H K
     refine .inl ⟨H,K.imp id λK e D=> ?_⟩
     rcases Zr.1 D with rfl|D
     ·exact λB=>bF B.symm
     ·exact K e D
    ·simp only[Zg bF]at H
     exact .inr ⟨H,e,Zt _ D,K,ak⟩
def azq{g:Go.aT.Node}{w:aW}(a:w∈Ov g):(g0 g w).isSome=true:=by
 obtain⟨x,af,rfl⟩:=ZB.1 a
 have aC:=Pk g x.2.name
 unfold mN at aC
 rcases afA (fO g) (λ_=>none,[]) x.2.name with ⟨H,K⟩|⟨_,e,D,K,ak⟩
 ·rcases K with K|K
  ·cases K
  ·exact absurd rfl (K x af)
 ·rw[ak]at aC
  have:=congrArg Option.isSome aC
  simpa using this
def amp{aE:List Go.aT.Node}:∀(k:List Go.aT.Node) (o:Nat),(CB aE o k).1=0↔∀(i:Nat) g,k[i]? =some g->(nb aE (o+i) g).1=0:=by
 intro k
 induction k with
 |nil=>intro o;simp[CB]
 |cons E k ag=>
  intro o
  rw[CB]
  by_cases a:(nb aE o E).1=0
  ·rw[Zg (by simp[a]),ag]
   constructor
   ·intro H i g aA
    cases i with
    |zero=>simp at aA;subst aA;exact a
    |succ i=>have:=H i g (by simpa using aA);rwa[show o+1+i=o+(i+1) by omega]at this
   ·intro H i g aA
    have:=H (i+1) g (by simpa using aA)
    rwa[show o+(i+1)=o+1+i by omega]at this
  ·rw[Zq a]
   exact⟨λB=>absurd B a,λH=>absurd (H 0 E rfl) a⟩
def amq{aE:List Go.aT.Node}:(FI aE).1=0↔∀(i:Nat) g,aE[i]? =some g->(nb aE i g).1=0:=by
 unfold FI
 rw[amp]
 simp
def aAe(g:Go.aT.Node)(k:List eo):Go.aT.Node:=⟨g.name,g.at_,g.es,g.out,g.loc,k⟩
section
variable{aE:List Go.aT.Node}{W o:Nat}{g:Go.aT.Node}{al:eo}
def χ(w:aW):∀(k:List eo) (o:Nat) (al:eo),k[o]? =some al->hG w (k.flatMap eo.left)=hG w al.left+hG w ((k.eraseIdx o).flatMap eo.left):=by
 intro k
 induction k with
 |nil=>intro o al a;simp at a
 |cons E k ag=>
  intro o al a
  cases o with
  |zero=>simp at a;subst a;rw[List.eraseIdx_cons_zero,Ys,Im]
  |succ o=>
   have:=ag o al (by simpa using a)
   rw[List.eraseIdx_cons_succ,Ys,Ys,Im,Im,this]
   omega
end
end
end Go.Proofs.YtendhgofocgngaaGreatDoor

namespace Go.Proofs.YtendhgofocgngaaGreatDoor
open Go.aT
def BO(o:Int):Bool:=decide (o=2)||decide (o=6)||decide (o=24)
def vN(k:List aW)(w:aW):List aW:=if w∈k then k else k++[w]
mutual
def iO:List aW->bs->List aW
 |k, .mk o _ nm _ _ _ args=>if o=5 then k else oy (if BO o=true then vN k nm else k) (decide (o=21)) args
def oy:List aW->Bool->List bs->List aW
 |k,_,[]=>k
 |k,f,E::b9=>if f=true then iO k E else oy (iO k E) f b9
end
def lE(aG:aW):bs:= .mk 2 0 aG false dC 0 []
mutual
def n8(aG:aW):bs->bs
 | .mk o E nm no ty n args=> .mk o E nm no ty n (if o=5 then args.map (λ_=>lE aG)else if o=21 then FL aG args else xH aG args)
def xH(aG:aW):List bs->List bs
 |[]=>[]
 |E::k=>n8 aG E::xH aG k
def FL(aG:aW):List bs->List bs
 |[]=>[]
 |E::k=>n8 aG E::k.map (λ_=>lE aG)
end
def aak(aG:aW):∀k,xH aG k=k.map (n8 aG)
 |[]=>rfl
 |E::k=>by rw[xH,aak aG k];rfl
def amN(aG:aW):n8 aG (lE aG)=lE aG:=by
 rw[lE,n8,Zg Zd,Zg Zd,xH]
def AL(aG:aW)(o:Int)(args:List bs):List bs:=if o=5 then args.map (λ_=>lE aG)else if o=21 then args.take 1++(args.drop 1).map (λ_=>lE aG)else args
def aaj(aG:aW):bs->bs
 | .mk o E nm no ty n args=> .mk o E nm no ty n (AL aG o args)
def agU(aG:aW)(k:List bs):(k.map (λ_=>lE aG)).map (n8 aG)=k.map (λ_=>lE aG):=by
 rw[YA];exact Yq λ_ _=>amN aG
mutual
def qx:bs->Nat
 | .mk _ _ _ _ _ _ args=>1+BH args
def BH:List bs->Nat
 |[]=>0
 |E::k=>qx E+BH k
end
def avr:∀B,0<qx B
 | .mk .. =>by rw[qx];omega
def Oo:∀{k:List bs}{E:bs},E∈k->qx E<=BH k
 |[],E,a=>by cases a
 |b::k,E,a=>by
  rw[BH]
  rcases Zr.1 a with rfl|a
  ·omega
  ·have:=Oo a;omega
mutual
def Ol(aG:aW):∀(B:bs) (k:List aW),iO k (n8 aG B)=iO k B
 | .mk o E nm no ty n args,k=>by
   rw[n8,iO,iO]
   by_cases be:o=5
   ·rw[Zq be,Zq be]
   ·rw[Zg be,Zg be,Zg be]
    by_cases ju:o=21
    ·rw[Zq ju]
     have d:decide (o=21)=true:=by simp[ju]
     rw[d]
     exact avj aG args _
    ·rw[Zg ju]
     exact aeQ aG args _ _
def aeQ(aG:aW):∀(b9:List bs) (k:List aW) (f:Bool),oy k f (xH aG b9)=oy k f b9
 |[],k,f=>rfl
 |E::b9,k,f=>by
  rw[xH,oy,oy,Ol aG E,aeQ aG b9]
def avj(aG:aW):∀(b9:List bs) (k:List aW),oy k true (FL aG b9)=oy k true b9
 |[],k=>rfl
 |E::b9,k=>by
  rw[FL,oy,oy,Zq rfl,Zq rfl,Ol aG E]
end
def ut(aG:aW)(al:eo):eo:=⟨al.left,al.cL,al.at_,n8 aG al.right⟩
def us(aG:aW)(g:Go.aT.Node):Go.aT.Node:=aAe g (g.eqs.map (ut aG)).reverse
def vn(d3:List aW):aW->Option Nat:=d3.zipIdx.foldl (λm x w=>if w=x.1 then some x.2 else m w) (λ_=>none)
def mh(g:Go.aT.Node)(nm:aW):List aW:=match g0 g nm with
 |some v=>v.d.on::(if 0<=v.eq/\v.kind≠1 then(match g.eqs[v.eq.toNat]? with|some al=>iO [] al.right|none=>[])else[])
 |none=>[]
def KV(g:Go.aT.Node)(nm:aW):List Nat:=(mh g nm).filterMap (vn (kC g))
def awe(o:Nat):∀(k:List (aW×Nat)) (t:aW->Option f1) (w:aW) (v:f1),t w=some v->∃fd,(k.foldl (nT o) t) w=some fd/\((fd.eq=v.eq/\(v.eq<0->∀x∈k,x.1≠w))\/(v.eq<0/\fd.eq=o/\∃x∈k,x.1=w)):=by
 intro k
 induction k with
 |nil=>intro t w v a;exact⟨v,a, .inl ⟨rfl,λ_ x af=>by cases af⟩⟩
 |cons x k ag=>
  intro t w v a
  rw[ZZ]
  by_cases af:x.1=w
  ·by_cases bo:v.eq<0
   ·have bh:nT o t x w=some ⟨v.kind,v.d,o,x.2⟩:=by
     unfold nT
     rw[af,a]
     simp only[bo,ZC]
    obtain⟨fd,H,K⟩:=ag _ w _ bh
    refine⟨fd,H, .inr ⟨bo, ?_,x,Zu ..,af⟩⟩
    rcases K with ⟨K,_⟩|⟨K,_⟩
    ·exact K
    ·simp only at K;omega
   ·have bh:nT o t x w=some v:=by
     unfold nT
     rw[af,a]
     simp only[bo,ZA]
     exact a
    obtain⟨fd,H,K⟩:=ag _ w _ bh
    refine⟨fd,H, .inl ⟨?_,λa=>absurd a bo⟩⟩
    rcases K with ⟨K,_⟩|⟨K,_⟩
    ·exact K
    ·exact absurd K bo
  ·have bh:nT o t x w=some v:=by
    unfold nT
    cases bP:t x.1 with
    |none=>exact a
    |some ac=>
     simp only
     by_cases aX:ac.eq<0
     ·rw[Zq aX,Zg (λB=>af B.symm)];exact a
     ·rw[Zg aX];exact a
   obtain⟨fd,H,K⟩:=ag _ w _ bh
   refine⟨fd,H,K.imp (λ⟨E,b⟩=>⟨E,λbo e D=> ?_⟩) (λ⟨E,b,e,D,B⟩=>⟨E,b,e,Zt _ D,B⟩)⟩
   rcases Zr.1 D with rfl|D
   ·exact af
   ·exact b bo e D
def ahh{w:aW}(k:List aW):(∃x∈k.zipIdx,x.1=w)↔w∈k:=by
 constructor
 ·rintro⟨x,af,rfl⟩
  have:=List.mem_zipIdx_iff_getElem?.1 (show(x.1,x.2)∈k.zipIdx from af)
  exact Zn this
 ·intro a
  obtain⟨i,aA⟩:=List.getElem?_of_mem a
  exact⟨(w,i),List.mem_zipIdx_iff_getElem?.2 aA,rfl⟩
def awf:∀(cf:List eo) (i:Nat) (t:aW->Option f1) (w:aW) (v:f1),t w=some v->∃fd,((cf.zipIdx i).foldl El t) w=some fd/\((fd.eq=v.eq/\(v.eq<0->∀al∈cf,w∉al.left))\/(v.eq<0/\∃(o:Nat) (al:eo),fd.eq=(i+o:Nat)/\cf[o]? =some al/\w∈al.left)):=by
 intro cf
 induction cf with
 |nil=>intro i t w v a;exact⟨v,a, .inl ⟨rfl,λ_ al bP=>by cases bP⟩⟩
 |cons al cf ag=>
  intro i t w v a
  rw[List.zipIdx_cons,ZZ]
  obtain⟨EP,H,K⟩:=awe i al.left.zipIdx t w v a
  obtain⟨fd,ak,ay⟩:=ag (i+1) (El t (al,i)) w EP H
  refine⟨fd,ak, ?_⟩
  rcases K with ⟨bw,b3⟩|⟨bw,b3,er⟩
  ·rcases ay with ⟨ef,ev⟩|⟨ef,o,l3,ev,f3,nC⟩
   ·refine .inl ⟨ef.trans bw,λbo e D=> ?_⟩
    rcases Zr.1 D with rfl|D
    ·intro bF
     obtain⟨x,af,B⟩:=(ahh e.left).2 bF
     exact b3 bo x af B
    ·exact ev Zo e D
   ·exact .inr ⟨Zo,o+1,l3,by rw[ev];omega,by simpa using f3,nC⟩
  ·refine .inr ⟨bw,0,al, ?_,rfl,(ahh al.left).1 er⟩
   rcases ay with ⟨ef,_⟩|⟨ef,_⟩
   ·rw[ef,b3];rfl
   ·omega
def Pl{g:Go.aT.Node}{w:aW}{v:f1}(a:g0 g w=some v):(v.eq= -1/\∀al∈g.eqs,w∉al.left)\/∃(o:Nat) (al:eo),v.eq=o/\g.eqs[o]? =some al/\w∈al.left:=by
 have aC:=Pk g w
 rw[a]at aC
 cases a8:(mN g).1 w with
 |none=>rw[a8]at aC;cases aC
 |some v0=>
  have a7:v0.eq= -1:=by
   unfold mN at a8
   rcases afA (fO g) (λ_=>none,[]) w with ⟨H,_⟩|⟨_,x,af,K,ak⟩
   ·rw[H]at a8;cases a8
   ·rw[ak]at a8;cases a8;rfl
  obtain⟨fd,H,K⟩:=awf g.eqs 0 (mN g).1 w v0 a8
  have:g0 g w=some fd:=H
  rw[a]at this
  cases this
  rcases K with ⟨bw,b3⟩|⟨_,o,al,bw,b3,er⟩
  ·exact .inl ⟨bw.trans a7,b3 Zo⟩
  ·exact .inr ⟨o,al,by rw[bw];omega,b3,er⟩
def ω{w:aW}{k:List aW}(a:w∈k):1<=hG w k:=by
 unfold hG
 have:0<(k.filter λx=>decide (x=w)).length:=ZW.2 (List.ne_nil_of_mem (YG.2 ⟨a,Zs⟩))
 omega
def amA(w:aW)(k:List aW):0<=hG w k:=by unfold hG;omega
def aaa{w:aW}(k:List eo){i W:Nat}{p al:eo}(su:i<W)(aA:k[i]? =some p)(bx:k[W]? =some al)(av:w∈p.left)(bP:w∈al.left):2<=hG w (k.flatMap eo.left):=by
 have H:=χ w k W al bx
 have ky:(k.eraseIdx W)[i]? =some p:=by rw[List.getElem?_eraseIdx_of_lt su];exact aA
 have K:=χ w (k.eraseIdx W) i p ky
 have ak:=ω av
 have ay:=ω bP
 have be:=amA w (((k.eraseIdx W).eraseIdx i).flatMap eo.left)
 omega
def aws{aE:List Go.aT.Node}{o:Nat}{g:Go.aT.Node}(a:(nb aE o g).1=0)(aG:aW)(nm:aW):mh (us aG g) nm=mh g nm:=by
 have aZ:=(av3.1 a).1
 have m3:((g0 (us aG g) nm).map t7)=(g0 g nm).map t7:=by rw[Pk,Pk];rfl
 have u0:∀(i:Nat) (l3:eo),(us aG g).eqs[i]? =some l3->∃(W:Nat) (al:eo),g.eqs[W]? =some al/\l3=ut aG al:=by
  intro i l3 bP
  have bP:((g.eqs.map (ut aG)).reverse)[i]? =some l3:=bP
  have jx:=(Zb.1 bP).1
  rw[List.length_reverse,Zl]at jx
  rw[List.getElem?_reverse (by rw[Zl];exact jx),Zv]at bP
  cases bS:g.eqs[(g.eqs.map (ut aG)).length-1-i]? with
  |none=>rw[bS]at bP;cases bP
  |some al=>rw[bS]at bP;cases bP;exact⟨_,al,bS,rfl⟩
 unfold mh
 cases bh:g0 g nm with
 |none=>
  rw[bh]at m3
  cases wH:g0 (us aG g) nm with
  |none=>rfl
  |some fd=>rw[wH]at m3;cases m3
 |some v=>
  rw[bh]at m3
  cases wH:g0 (us aG g) nm with
  |none=>rw[wH]at m3;cases m3
  |some fd=>
   rw[wH]at m3
   simp only[ZK,Zf,t7,YT]at m3
   obtain⟨aC,aI⟩:=m3
   simp only
   rw[aC,aI]
   congr 1
   rcases Pl bh with ⟨bw,b3⟩|⟨i,al,bw,b3,er⟩
   ·rcases Pl wH with ⟨ef,ev⟩|⟨W,l3,ef,ev,f3⟩
    ·rw[bw,ef];simp
    ·obtain⟨N6,cG,b4,rfl⟩:=u0 W l3 ev
     exact absurd f3 (b3 cG (Zn b4))
   ·rcases Pl wH with ⟨ef,ev⟩|⟨W,l3,ef,ev,f3⟩
    ·have S4:ut aG al∈(us aG g).eqs:=List.mem_reverse.2 (ZB.2 ⟨al,Zn b3,rfl⟩)
     exact absurd (show nm∈(ut aG al).left from er) (ev _ S4)
    ·obtain⟨N6,cG,b4,rfl⟩:=u0 W l3 ev
     have f3:nm∈cG.left:=f3
     have ax:=(aZ.left nm (List.mem_flatMap.2 ⟨al,Zn b3,er⟩)).choose_spec.2.2
     have su:i=N6:=by
      rcases YQ i N6 with a|a|a
      ·have:=aaa g.eqs a b3 b4 er f3;unfold BC at ax;omega
      ·exact a
      ·have:=aaa g.eqs a b4 b3 f3 er;unfold BC at ax;omega
     subst su
     rw[b3]at b4
     cases b4
     rw[bw,ef]
     simp only[Int.toNat_natCast,b3,ev]
     have aw:iO [] (ut aG al).right=iO [] al.right:=Ol aG al.right []
     rw[aw]
     split<;>split<;>first|rfl|omega
def ax0{aE:List Go.aT.Node}{o:Nat}{g:Go.aT.Node}(a:(nb aE o g).1=0)(aG:aW)(nm:aW):KV (us aG g) nm=KV g nm:=by
 rw[KV,KV,aws a];rfl
def amM(aG:aW)(o E:Int)(nm:aW)(no:Bool)(ty:ig)(n:Int)(args:List bs):n8 aG (.mk o E nm no ty n args)= .mk o E nm no ty n ((AL aG o args).map (n8 aG)):=by
 rw[n8]
 congr 1
 unfold AL
 by_cases be:o=5
 ·rw[Zq be,Zq be,agU]
 ·rw[Zg be,Zg be]
  by_cases ju:o=21
  ·rw[Zq ju,Zq ju]
   cases args with
   |nil=>rfl
   |cons x k=>rw[FL,Z8,YE,Yr,Yg,Yo,agU];rfl
  ·rw[Zg ju,Zg ju,aak]
def amL{aG:aW}{o:Int}{args:List bs}{x:bs}(a:x∈AL aG o args):qx x<1+BH args:=by
 have bo:∀k:List bs,(∀e∈k,e∈args)->x∈k.map (λ_=>lE aG)->qx x<1+BH args:=λk aw af=>by
  obtain⟨e,D,rfl⟩:=ZB.1 af
  have H:=Oo (aw e D)
  have K:=avr e
  have ak:qx (lE aG)=1:=by rw[lE,qx,BH]
  omega
 have aZ:x∈args->qx x<1+BH args:=λa=>zC (Oo a)
 unfold AL at a
 split at a
 ·exact bo args (λ_ a=>a) a
 ·split at a
  ·rcases Zx.1 a with a|a
   ·exact aZ (YC a)
   ·exact bo _ (λe D=>Y4 D) a
  ·exact aZ a
def xM:Int->List Int->List Int
 |_,[]=>[]
 |p,E::k=>if E=p then xM E k else E::xM E k
def uq:List Int->List Int
 |[]=>[]
 |E::k=>E::xM E k
end Go.Proofs.YtendhgofocgngaaGreatDoor

namespace Go.Proofs.YtendhgofocgngaaGreatDoor
open Go.bn Go.aT
noncomputable section
section
variable{X:co}{h R aU aQ:S ai}{j ap aL bc:Nat}{P:Nat->Prop}
def dZ.auo{C:aK}{h R:S ai}{P:Nat->Prop}{b aR:Nat}{bi:z}{bu:List (List z)}(a:dZ C h P b bi aR bu)(o:bu≠[]->Z C R b=Z C h b):dZ C R P b bi aR bu:=
 ⟨a.ah,a.many,a.wide,a.len,a.gF,λi r W v aA bx=>by
  rw[da,o (λB=>by rw[B]at aA;simp at aA), <-da];exact a.cell i r W v aA bx⟩
def ayS{C:aK}{b n U:Nat}{c:S z}{v:z}(a8:C.bf<=b)(ah:Z C h b=some (.cells c n .own))(aS:U+1<=n)(bo:v.cells=[v])(H:oA v=true):eI C h 1 (.ptr b U) v=some (bp C h b (some (.cells (c.set U (some v)) n .own))):=by
 have bw:Nat.ble (U+1) n=true:=jg aS
 have b3:jI C b=true:=by simp[jI,jg a8]
 have tB:hZ [v]=true:=by simp[hZ,H]
 simp[eI,bo,lJ,ah,bw,b3,tB,eR,rI,gS]
def alE:bs->List bs->bs
 | .mk o E nm no ty n _,k=> .mk o E nm no ty n k
def ae4{α:Type}{bv:α->α}{k:List α}{W:Nat}{E:α}(a:k[W]? =some E):((k.take W).map bv++k.drop W).set W (bv E)=(k.take (W+1)).map bv++k.drop (W+1):=by
 obtain⟨H,K⟩:=Zb.1 a
 have aw:((k.take W).map bv).length=W:=by rw[Zl,YM];omega
 rw[List.set_append_right _ _ Zo,aw,zz,Zz H,Z7,Z3,a,Yo,List.append_assoc]
 rfl
end
end
end Go.Proofs.YtendhgofocgngaaGreatDoor

