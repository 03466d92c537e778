/- A part of the proof of the claim's last text: what it is used for is said there; no condition of its own. -/
import Derived.Test.YtpfajohmofnkfaaGreatDoorYx
set_option maxHeartbeats 8000000
set_option linter.unusedVariables false
set_option linter.unusedSimpArgs false
namespace Go.Proofs.YtpfajohmofnkfaaGreatDoor
open Go.al Go.bh
noncomputable section
def s8(B:Int):Option (Int×Bool×Bool×Bool):=
 if B=1 then some (0,false,true,true)else if B=2 then some (0,true,false,false)else if B=3\/B=4\/B=5 then some (1,false,false,false)else if B=6 then some (1,true,false,false)
 else if B=19\/B=20 then some (1,false,false,true)else if B=23 then some (3,false,false,false)else if B=24 then some (2,true,false,false)else if B=25 then some (-1,true,false,false)
 else if B=26 then some (1,false,true,false)else none
def pb(s:Int×Bool×Bool×Bool):List H:=[.int .i64 s.1, .bool s.2.1, .bool s.2.2.1, .bool s.2.2.2]
structure yk(X:cD):Prop where
 at_:∀h,∃v,ao X h (.ptr 5 0)=some v/\∀B:Int,iZ X h 3 (.agg [.int .i64 0, .bool false, .bool false, .bool false]) v (.int .i64 B) true=some (.tuple [.agg (pb ((s8 B).getD (0,false,false,false))), .bool (s8 B).isSome])
structure af9(E:bM)(s:Int×Bool×Bool×Bool):Prop where
 Jr:0<=s.1->(E.args.length:Int)=s.1
 aa2:s.2.1=true->C9 E.name
 QW:s.2.1=false->E.name=[]
 as7:s.2.2.1=true->kj E.ty=true
 dA:s.2.2.1=false->E.ty=dA
 bj:s.2.2.2=false->E.n=0
theorem ar6{E:bM}(a:M1 q4 E):af9 E ((s8 E.kind).getD (2,false,false,false)):=by
 have M:=a.bN
 have R:=a.cg
 have nY:=a.Jr
 have jg:=a.nm
 have B2:=a.QW
 have HG:=a.ty
 have xC:=a.dA
 have gr:=a.bj
 unfold sf at nY
 unfold sH at jg B2
 unfold sI at HG xC
 generalize E.kind=B at*
 unfold s8
 have aP:B=1\/B=2\/(B=3\/B=4\/B=5)\/B=6\/(B=19\/B=20)\/B=23\/B=24\/B=25\/B=26\/(7<=B/\B<=18\/B=21\/B=22):=Zo
 rcases aP with aP|aP|aP|aP|aP|aP|aP|aP|aP|aP
 ·subst aP
  exact⟨λ_=>by have:=nY 0 Zs;simp[this],λa=>by simp at a,λ_=>B2 Zo,λ_=>HG Zo,λa=>by simp at a,λa=>by simp at a⟩
 ·subst aP
  exact⟨λ_=>by have:=nY 0 Zs;simp[this],λ_=>jg Zo,λa=>by simp at a,λa=>by simp at a,λ_=>xC Zo,λ_=>gr Zo Zo Zo⟩
 ·rw[Zg Zo,Zg Zo,Zr aP]
  rw[Zg Zo,Zg Zo,Zr Zo]at nY
  exact⟨λ_=>by have:=nY 1 rfl;simp[this],λa=>by simp at a,λ_=>B2 Zo,λa=>by simp at a,λ_=>xC Zo,λ_=>gr Zo Zo Zo⟩
 ·subst aP
  exact⟨λ_=>by have:=nY 1 Zs;simp[this],λ_=>jg Zo,λa=>by simp at a,λa=>by simp at a,λ_=>xC Zo,λ_=>gr Zo Zo Zo⟩
 ·rw[Zg Zo,Zg Zo,Zg Zo,Zg Zo,Zr aP]
  rw[Zg Zo,Zg Zo,Zr Zo]at nY
  exact⟨λ_=>by have:=nY 1 rfl;simp[this],λa=>by simp at a,λ_=>B2 Zo,λa=>by simp at a,λ_=>xC Zo,λa=>by simp at a⟩
 ·subst aP
  exact⟨λ_=>by have:=nY 3 Zs;simp[this],λa=>by simp at a,λ_=>B2 Zo,λa=>by simp at a,λ_=>xC Zo,λ_=>gr Zo Zo Zo⟩
 ·subst aP
  exact⟨λ_=>by have:=nY 2 Zs;simp[this],λ_=>jg Zo,λa=>by simp at a,λa=>by simp at a,λ_=>xC Zo,λ_=>gr Zo Zo Zo⟩
 ·subst aP
  exact⟨λa=>by simp at a,λ_=>jg Zo,λa=>by simp at a,λa=>by simp at a,λ_=>xC Zo,λ_=>gr Zo Zo Zo⟩
 ·subst aP
  exact⟨λ_=>by have:=nY 1 Zs;simp[this],λa=>by simp at a,λ_=>B2 Zo,λ_=>HG Zo,λa=>by simp at a,λ_=>gr Zo Zo Zo⟩
 ·rw[Zg Zo,Zg Zo,Zg Zo,Zg Zo,Zg Zo,Zg Zo,Zg Zo,Zg Zo,Zg Zo]
  rw[Zg Zo,Zg Zo,Zg Zo,Zg Zo]at nY
  exact⟨λ_=>by have:=nY 2 rfl;simp[this],λa=>by simp at a,λ_=>B2 Zo,λa=>by simp at a,λ_=>xC Zo,λ_=>gr Zo Zo Zo⟩
section
variable{X:cD}{h V ft bb aV:U an}{k av aQ bp:Nat}{s:a1}
structure Si(G:Prop):Prop where
 out:G
theorem NL{G oC:Prop}(Ib:Si G->oC)(RG:G):oC:=Ib ⟨RG⟩
theorem ahl:dn X h .neq 4 false (.bool false) (.bool false)=some (.bool false):=by kernel_rfl
theorem ahm:dn X h .neq 4 false (.bool true) (.bool true)=some (.bool false):=by kernel_rfl
theorem as8:dn X h .neq 41 false (.agg [.bool false, .bool false, .int .i64 0]) (.agg [.bool false, .bool false, .int .i64 0])=some (.bool false):=by kernel_rfl
theorem aqK(b:Nat):dn X h .neq 47 true (.ptr b 0) .cI=some (.bool true):=by kernel_rfl
set_option maxRecDepth 100000 in
theorem ape(aA:iD X)(b7:lL X)(eJ:r9 X)(iw:yk X){P:Nat->Prop}{E:bM}{v:H}(aS:(y X).bj<=k)(aW:cP X h P E v)(co:∀j,P j->j<k)(bL:fA q4 E):
 a6 X 191 [v] h k (λad V av=>ad= .bool true/\bB X h k V av) (λ_ _ _=>False):=by
 refine dj (aeD X) (aA.none _ _ rfl) ?_
 rw[aeE]
 unfold Tl
 rw[fA.eq]at bL
 obtain⟨bL,ε⟩:=bL
 have hO:=ar6 bL
 obtain⟨b,bx,cN,br,rfl,ai,a0,be,b2,a3,a4,a5,hT,iv,kc,dp,has⟩:=id aW.open
 have fv:=co b ai
 obtain⟨fi,KK,KL⟩:=iw.at_ h
 have hx:=KL E.kind
 generalize En:(s8 E.kind).getD (2,false,false,false)=s at hO
 have ana:∀ar:Int×Bool×Bool×Bool,pb ar=[.int .i64 ar.1, .bool ar.2.1, .bool ar.2.2.1, .bool ar.2.2.2]:=λ_=>rfl
 rw[ana]at hx
 refine gS @KK @a0 @hx ⟨?_⟩
 refine j6 (λcT V aY=>cT.g 0=some (.ptr b 0)/\cT.g 3=some (.ptr (k+9) 0)/\bB X h k V aY/\k+9<aY/\ab X V (k+9)=some (.cells (U.ofList (pb s) 0 .nil) 4 .own)) (λaa bK=> ?_) ?_
 ·cases cf:s8 E.kind with
  |some ar=>
   rw[cf]at En
   simp only[Yw]at En
   subst En
   simp only[Yw,Z4]
   refine c0 ⟨?_⟩
   exact bK _ _ _ ⟨bv,bv,dR,Zo,by rw[bq Zo];rfl⟩
  |none=>
   rw[cf]at En
   simp only[Option.getD_none]at En
   subst En
   simp only[Option.getD_none,ZX]
   refine c0 ⟨?_⟩
   exact bK _ _ _ ⟨bv,bv,dR,Zo,by rw[bq Zo];rfl⟩
 rintro J bb aQ ⟨t0,t3,b8,pJ,b9⟩
 have rd:∀V,Go.al.ab X V (k+9)=some (.cells (U.ofList (pb s) 0 .nil) 4 .own)->ao X V (.ptr (k+9) 0)=some (.int .i64 s.1)/\ao X V (.ptr (k+9) 1)=some (.bool s.2.1)/\ao X V (.ptr (k+9) 2)=some (.bool s.2.2.1)/\ao X V (.ptr (k+9) 3)=some (.bool s.2.2.2):=λV a=>
  ⟨by rw[bW a];rfl,by rw[bW a];rfl,by rw[bW a];rfl,by rw[bW a];rfl⟩
 have mu:=bL.bN
 have jO:=bL.cg
 have cQ:decide (E.kind<1)=false:=by simp only[Zb];omega
 have cG:decide ((26:Int)<E.kind)=false:=by simp only[Zb];omega
 obtain⟨i1,eH,fk,hh⟩:=rd bb b9
 have Na:ao X bb (.ptr b 0)=some (.int .i64 E.kind):=by rw[b8.fy _ _ fv];exact a0
 have FV:ao X bb (.ptr b 8)=some bx:=by rw[b8.fy _ _ fv];exact kc
 have fw:=dp.len
 have He:=has.len
 rw[Zu,He]at fw
 have up:∀j,P j->ab X bb j=ab X h j:=λj T=>b8.af j (co j T)
 have jB:=b8.le
 apply NL
 ·intro aof
  by_cases nY:0<=s.1
  all_goals
   first
   |(
     have eL:decide ((0:Int)<=s.1)=true:=by simp[nY]
     have ic:decide ((E.args.length:Int)≠s.1)=false:=by simp[hO.Jr nY]
     refine gS @t0 @t3 (Za @Na (Za @cQ (Za @cG (Za @i1 (Za @eL (Za @FV (Za @fw (Za @i1 @ic)))))))) ⟨?_⟩)
   |(
     have eL:decide ((0:Int)<=s.1)=false:=by simp[nY]
     refine gS @t0 @t3 (Za @Na (Za @cQ (Za @cG (Za @i1 (Za @eL @FV))))) ⟨?_⟩)
   refine(agR (k:=aQ+34) (h:=bb) aA (dp.af up) (dq.af up _ _ has)).Zm ?_
   rintro ad aV bp ⟨rfl,rfl,gZ⟩
   refine w6 ⟨?_⟩
   refine j6 (λcT V aY=>cT.g 0=some (.ptr b 0)/\cT.g 3=some (.ptr (k+9) 0)/\bB X h k V aY/\k+9<aY/\ab X V (k+9)=some (.cells (U.ofList (pb s) 0 .nil) 4 .own)) (λaa bK=> ?_) ?_
   ·refine c0 ⟨?_⟩
    exact bK _ _ _ ⟨bn t0,bn t3,b8.more Zo,Zo,b9⟩
   exact aof.out
 clear t0 t3 b8 b9 i1 eH fk hh Na FV up jB
 rintro J bo bw ⟨t0,t3,cE,y4,g3⟩
 obtain⟨i1,eH,fk,hh⟩:=rd bo g3
 have jf:=cE.le
 have Nb:ao X bo (.ptr b 2)=some (.str E.name):=by rw[cE.fy _ _ fv];exact b2
 have aml:s.2.1=true->decide (E.name≠[])=true:=λa=>by simp[(hO.aa2 a).ne]
 have amk:s.2.1=false->decide (E.name≠[])=false:=λa=>by simp[hO.QW a]
 have pL:(E.no=true/\decide (E.kind≠6)=false)\/(E.no=false/\decide ((0:Int)≠0)=false):=by
  cases cf:E.no with
  |true=>exact .inl ⟨rfl,by simp[bL.no cf]⟩
  |false=>exact .inr ⟨rfl,rfl⟩
 apply NL
 ·intro aoc
  rcases Yh s.2.1 with j5|j5
  all_goals
   first
   |(
     have yE:=aml j5
     rw[j5]at eH
     refine gS @t0 @t3 (Za @eH (Za @Nb (Za @yE @ahm))) ⟨?_⟩
     refine(Ic (k:=bw+33) (h:=bo) aA b7 eJ (hO.aa2 j5) Zo).Zm ?_
     rintro ad bX dd ⟨rfl,dN⟩
     have jC:=dN.le
     have rl:bB X h k bX dd:=cE.trans (dN.s0 Zo)
     have B1:k+9<dd:=Zo
     have ek:ab X bX (k+9)=some (.cells (U.ofList (pb s) 0 .nil) 4 .own):=by rw[dN.af _ Zo];exact g3
     have Nc:ao X bX (.ptr b 3)=some (.bool E.no):=by rw[rl.fy _ _ fv];exact a3
     have Ua:ao X bX (.ptr b 0)=some (.int .i64 E.kind):=by rw[rl.fy _ _ fv];exact a0)
   |(
     have yE:=amk j5
     rw[j5]at eH
     refine gS @t0 @t3 (Za @eH (Za @Nb (Za @yE @ahl))) ⟨?_⟩
     have rl:bB X h k bo (bw+33):=cE.more Zo
     have B1:k+9<bw+33:=Zo
     have ek:ab X bo (k+9)=some (.cells (U.ofList (pb s) 0 .nil) 4 .own):=g3
     have Nc:ao X bo (.ptr b 3)=some (.bool E.no):=by rw[rl.fy _ _ fv];exact a3
     have Ua:ao X bo (.ptr b 0)=some (.int .i64 E.kind):=by rw[rl.fy _ _ fv];exact a0)
   rcases pL with ⟨XB,mn⟩|⟨XB,mn⟩
   all_goals
    rw[XB]at Nc
    refine gS @t0 @t3 (Za @Nc (Za @Ua @mn)) ⟨?_⟩
    refine j6 (λcT V aY=>cT.g 0=some (.ptr b 0)/\cT.g 3=some (.ptr (k+9) 0)/\bB X h k V aY/\k+9<aY/\ab X V (k+9)=some (.cells (U.ofList (pb s) 0 .nil) 4 .own)) (λaa bK=> ?_) ?_
    ·refine c0 ⟨?_⟩
     exact bK _ _ _ ⟨bn t0,bn t3,rl.more Zo,Zo,ek⟩
    exact aoc.out
 clear t0 t3 cE g3 i1 eH fk hh Nb jf
 rintro J b4 cA ⟨t0,t3,dX,amm,g5⟩
 obtain⟨i1,eH,fk,hh⟩:=rd b4 g5
 have iW:=dX.le
 have Eo:lx E.ty=[.bool E.ty.b, .bool E.ty.s, .int .i64 E.ty.w]:=rfl
 have xr:cL X b4 3 (.ptr b 4)=some (.agg (lx E.ty)):=by rw[qA,dX.fy _ _ fv,dX.fy _ _ fv,dX.fy _ _ fv,a4,a5,hT];rfl
 apply NL
 ·intro aoe
  rcases Yh s.2.2.1 with j5|j5
  all_goals
   first
   |(
     have bi:=hO.as7 j5
     rw[j5]at fk
     refine gS @t0 @t3 (Za @fk @xr) ⟨?_⟩
     refine(Cq (k:=cA) (h:=b4) aA.tod7 E.ty Zo).Zm ?_
     rintro ad ck eo ⟨rfl,eU⟩
     rw[bi]
     have rB:=eU.le
     have rl:bB X h k ck eo:=dX.trans (eU.s0 Zo)
     have B1:k+9<eo:=Zo
     have ek:ab X ck (k+9)=some (.cells (U.ofList (pb s) 0 .nil) 4 .own):=by rw[eU.af _ Zo];exact g5
     have Ud:ao X ck (.ptr b 7)=some (.int .u64 E.n):=by rw[rl.fy _ _ fv];exact iv
     have Md:ao X ck (.ptr (k+9) 3)=some (.bool s.2.2.2):=(rd ck ek).2.2.2)
   |(
     have bi:=hO.dA j5
     rw[j5]at fk
     have ano:lx E.ty=[.bool false, .bool false, .int .i64 0]:=by rw[bi];rfl
     rw[ano]at xr
     refine gS @t0 @t3 (Za @fk (Za @xr @as8)) ⟨?_⟩
     have rl:bB X h k b4 cA:=dX
     have B1:k+9<cA:=amm
     have ek:ab X b4 (k+9)=some (.cells (U.ofList (pb s) 0 .nil) 4 .own):=g5
     have Ud:ao X b4 (.ptr b 7)=some (.int .u64 E.n):=by rw[rl.fy _ _ fv];exact iv
     have Md:ao X b4 (.ptr (k+9) 3)=some (.bool s.2.2.2):=(rd b4 ek).2.2.2)
   rcases Yh s.2.2.2 with pP|pP
   all_goals
    first
    |(
      have yE:decide ((0:Int)≠0)=false:=rfl
      rw[pP]at Md
      have avo:s.2.2.2=true:=pP)
    |(
      have yE:decide (E.n≠0)=false:=by simp[hO.bj pP]
      rw[pP]at Md)
    refine gS @t0 @t3 (Za @Md (Za @Ud @yE)) ⟨?_⟩
    refine j6 (λcT V aY=>cT.g 0=some (.ptr b 0)/\cT.g 3=some (.ptr (k+9) 0)/\bB X h k V aY/\k+9<aY/\ab X V (k+9)=some (.cells (U.ofList (pb s) 0 .nil) 4 .own)) (λaa bK=> ?_) ?_
    ·refine c0 ⟨?_⟩
     exact bK _ _ _ ⟨bn t0,bn t3,rl.more Zo,Zo,ek⟩
    exact aoe.out
 clear t0 t3 dX g5 i1 eH fk hh iW xr
 rintro J cC ew ⟨t0,t3,e9,au8,g7⟩
 have oX:=e9.le
 have Dh:ao X cC (.ptr b 0)=some (.int .i64 E.kind):=by rw[e9.fy _ _ fv];exact a0
 have Ue:ao X cC (.ptr b 7)=some (.int .u64 E.n):=by rw[e9.fy _ _ fv];exact iv
 have Uf:ao X cC (.ptr b 8)=some bx:=by rw[e9.fy _ _ fv];exact kc
 have xM:∀j,P j->ab X cC j=ab X h j:=λj T=>e9.af j (co j T)
 show am _ _
 by_cases M:E.kind=1
 ·have bF:decide (E.kind=1)=true:=by simp[M]
  refine e8 @t0 @Dh @bF ⟨?_⟩
  refine(ao4 (k:=ew) (h:=cC) aA Zo (cP.af xM _ _ aW) (λj T=>by have:=co j T;omega) M (bL.apN M)).Zm ?_
  rintro ad dQ fa ⟨rfl,j1⟩
  exact⟨rfl,e9.trans (j1.s0 Zo)⟩
 have bF:decide (E.kind=1)=false:=by simp[M]
 by_cases GJ:E.kind=19
 ·have DB:decide (E.kind=19)=true:=by simp[GJ]
  have NX:decide (E.n<=63)=true:=by simp[(bL.mc (.inl GJ)).2]
  refine iJ @t0 @Dh @bF @DB @Ue @NX ⟨?_⟩
  exact⟨rfl,e9.more Zo⟩
 have DB:decide (E.kind=19)=false:=by simp[GJ]
 by_cases OF:E.kind=20
 ·have Gq:decide (E.kind=20)=true:=by simp[OF]
  have NX:decide (E.n<=63)=true:=by simp[(bL.mc (.inr OF)).2]
  refine e0 @t0 @Dh @bF @DB @Gq @Ue @NX ⟨?_⟩
  exact⟨rfl,e9.more Zo⟩
 have Gq:decide (E.kind=20)=false:=by simp[OF]
 by_cases OG:E.kind=21
 ·have JQ:decide (E.kind=21)=true:=by simp[OG]
  obtain⟨l,r,vI,aE⟩:=bL.lg OG
  obtain⟨ap,amd,fX⟩:=has.get 0 l (by rw[vI];rfl)
  obtain⟨cb,b1,dT⟩:=(dp.af xM).one amd
  obtain⟨nB,aaH,aoN,avP,rfl,BY,d1,_,_,_,_,_,_,_,Dv,aaG,aao⟩:=(cP.af xM _ _ fX).open
  have abD:fp 1 bx (.int .i64 0)=some (.ptr cN 0):=cb
  rcases aE with aE|⟨aE,x,ag,Er⟩
  ·have ss:decide (l.kind=1)=true:=by simp[aE]
   refine e0 @t0 @Dh @bF @DB @Gq @JQ (Za @Uf (Za @abD (Za @b1 (Za @d1 @ss)))) ⟨?_⟩
   exact⟨rfl,e9.more Zo⟩
  ·have ss:decide (l.kind=1)=false:=by simp[aE]
   have air:decide (l.kind=4)=true:=by simp[aE]
   obtain⟨awn,anD,anB⟩:=aao.get 0 x (by rw[ag];rfl)
   obtain⟨fe,hg,wl⟩:=aaG.one anD
   obtain⟨awm,rfl,sR,ly⟩:=anB.ptr
   have aqp:fp 1 aaH (.int .i64 0)=some (.ptr aoN 0):=fe
   have aay:=aaG.len
   rw[Zu,aao.len,ag]at aay
   have ao5:eF aaH=some (.int .i64 1):=aay
   have ex:decide (x.kind=1)=true:=by simp[Er]
   have aii:decide ((1:Int)=1)=true:=rfl
   refine e0 @t0 @Dh @bF @DB @Gq @JQ (Za @Uf (Za @abD (Za @b1 (Za @d1 (Za @ss (Za @air (Za @Dv (Za @ao5 (Za @aii (Za @aqp (Za @hg (Za @aqK (Za @ly @ex))))))))))))) ⟨?_⟩
   exact⟨rfl,e9.more Zo⟩
 have JQ:decide (E.kind=21)=false:=by simp[OG]
 refine iJ @t0 @Dh @bF @DB @Gq @JQ ⟨?_⟩
 exact⟨rfl,e9.more Zo⟩
end
end
end Go.Proofs.YtpfajohmofnkfaaGreatDoor

namespace Go.Proofs.YtpfajohmofnkfaaGreatDoor
open Go.al Go.bh
noncomputable section
theorem alS{B:Nat}{E I:bM}(a:gA (B+1) E<=B)(aG:I∈E.args):gA B I+1<=B:=by
 have bi:∀(l:List bM) (ci:Nat),(∀I∈l,gA B I<=l.foldl (λa I=>max a (gA B I)) ci)/\ci<=l.foldl (λa I=>max a (gA B I)) ci:=by
  intro l
  induction l with
  |nil=>intro ci;exact⟨λ_ a=>by simp at a,Zj _⟩
  |cons b l ah=>
   intro ci
   obtain⟨rI,jh⟩:=ah (max ci (gA B b))
   refine⟨λx ag=> ?_,Zz (Nat.le_max_left _ _) jh⟩
   rcases Zl.1 ag with rfl|ag
   ·exact Zz (Nat.le_max_right _ _) jh
   ·exact rI x ag
 have M:=(bi E.args 0).1 I aG
 have R:gA (B+1) E=E.args.foldl (λa I=>max a (gA B I)) 0+1:=rfl
 omega
theorem alU{B:Nat}{E:bM}:1<=gA (B+1) E:=by
 have R:gA (B+1) E=E.args.foldl (λa I=>max a (gA B I)) 0+1:=rfl
 omega
theorem atJ{bD:iS}:∀{l:List bM}{I:bM},gw bD l->I∈l->fA bD I:=by
 intro l
 induction l with
 |nil=>intro I _ a;cases a
 |cons b l ah=>
  intro I a aG
  rw[gw]at a
  rcases Zl.1 aG with rfl|aG
  ·exact a.1
  ·exact ah a.2 aG
section
variable{X:cD}{h V ft bb aV:U an}{k av aQ bp:Nat}{s:a1}
structure yl(X:cD)(c3 ow nB:Nat)(d:Int)(h:U an):Prop where
 JG:∃c,ab X h c3=some (.cells c 1 .own)/\c.get 0=some (.int .i64 d)
 MK:ao X h (.ptr ow 0)=some (.int .i64 0)
 look:ao X h (.ptr nB 0)=some (.func (.func 190) [] [.ptr c3 0, .ptr ow 0, .ptr nB 0])
theorem yl.af{c3 ow nB:Nat}{d:Int}(a:yl X c3 ow nB d bb)(B:∀j,j=c3\/j=ow\/j=nB->ab X aV j=ab X bb j):yl X c3 ow nB d aV:=by
 obtain⟨c,M,R⟩:=a.JG
 exact⟨⟨c,by rw[B c3 (.inl rfl)];exact M,R⟩,by rw[c4,B ow (.inr (.inl rfl)), <-c4];exact a.MK,by rw[c4,B nB (.inr (.inr rfl)), <-c4];exact a.look⟩
set_option maxRecDepth 100000 in
theorem apa(aA:iD X)(b7:lL X)(eJ:r9 X)(iw:yk X){P:Nat->Prop}{c3 ow nB kF:Nat}(vR:(y X).bj<=c3)(aus:c3<kF)(avu:ow<kF)(n3:nB<kF)(BR:ow≠c3)(jA:nB≠c3)(co:∀j,P j->j<kF/\j≠c3):
 ∀(B:Nat) (E:bM) (v:H) (h:U an) (k:Nat),B<=200->kF<=k->gA (B+1) E<=B->fA q4 E->cP X h P E v->yl X c3 ow nB ((200-B:Nat):Int) h->
  a6 X 190 [v, .ptr c3 0, .ptr ow 0, .ptr nB 0] h k (λad V av=>ad= .tuple []/\yl X c3 ow nB ((200-B:Nat):Int) V/\k<=av/\∀j,j<k->j≠c3->ab X V j=ab X h j) (λ_ _ _=>False):=by
 intro B
 induction B with
 |zero=>intro E v h k _ _ a;have:=alU (B:=0) (E:=E);omega
 |succ B ah=>
  intro E v h k aP aS gB bL aW gz
  refine dj (aeB X) (aA.none _ _ rfl) ?_
  rw[aeC]
  unfold Tk
  obtain⟨b,bx,cN,br,rfl,ai,_,_,_,_,_,_,_,_,kc,dp,has⟩:=id aW.open
  obtain⟨c,b9,b3⟩:=gz.JG
  have BM:=co b ai
  have bF:aL .add (.int .i64 ((200-(B+1):Nat):Int)) (.int .i64 1)=some (.int .i64 ((200-B:Nat):Int)):=by rw[eQ Zo Zo,show((200-(B+1):Nat):Int)+1=((200-B:Nat):Int) by omega]
  refine gS (bW b9) @b3 @bF ⟨?_⟩
  generalize f9:bm X h c3 _=bb
  have g11:∃gx,ab X bb c3=some (.cells gx 1 .own)/\gx.get 0=some (.int .i64 ((200-B:Nat):Int)):=⟨d0 c 0 [.int .i64 ((200-B:Nat):Int)],by rw[<-f9,bq vR];rfl,r6 c 0 _⟩
  have bN:∀j,j≠c3->ab X bb j=ab X h j:=λj T=>by rw[<-f9,aK vR T]
  clear f9
  have akT:yl X c3 ow nB ((200-B:Nat):Int) bb:=⟨g11,by rw[c4,bN _ BR, <-c4];exact gz.MK,by rw[c4,bN _ jA, <-c4];exact gz.look⟩
  have up:∀j,P j->ab X bb j=ab X h j:=λj T=>bN j (co j T).2
  have Pb:=cP.af up _ _ aW
  refine cx @L6 ⟨?_⟩
  refine(ape (k:=k) (h:=bb) aA b7 eJ iw Zo Pb (λj T=>by have:=(co j T).1;omega) bL).Zm ?_
  rintro ad aV bp ⟨rfl,ct⟩
  have gZ:=ct.le
  have Ku:yl X c3 ow nB ((200-B:Nat):Int) aV:=akT.af (λj T=>ct.af j (by rcases T with rfl|rfl|rfl<;>omega))
  obtain⟨d2,g12,ajB⟩:=Ku.JG
  have agf:ao X aV (.ptr b 8)=some bx:=by rw[ct.fy _ _ Zo,c4,bN _ BM.2, <-c4];exact kc
  have fw:=dp.len
  have He:=has.len
  rw[Zu,He]at fw
  have lm:=dp.many
  rw[Zu,He]at lm
  have cG:decide ((200:Int)<((200-B:Nat):Int))=false:=by simp only[Zb];omega
  refine gd (bW g12) @ajB @cG @agf @fw ⟨?_⟩
  refine f8 (λm J V aY=>∃(aa:Nat),J.g 1=some (.ptr c3 0)/\J.g 2=some (.ptr ow 0)/\J.g 3=some (.ptr nB 0)/\J.g 12=some bx/\J.g 13=some (.int .i64 (E.args.length:Int))/\J.g 14=some (.int .i64 (aa:Int))/\aa+m=E.args.length
   /\yl X c3 ow nB ((200-B:Nat):Int) V/\k<=aY/\∀j,j<k->j≠c3->ab X V j=ab X h j)
   E.args.length ⟨0,bv,bv,bv,bv,bv,gL,Zo,Ku,gZ,λj M R=>by rw[ct.af j M,bN j R]⟩ ?_
  rintro m J bo bw ⟨aa,t1,eX,t3,AT,lv,nK,bK,GS,jf,n1⟩
  cases m with
  |zero=>
   have d:decide ((aa:Int)<(E.args.length:Int))=false:=by simp only[Zb];omega
   obtain⟨gQ,DH,ajC⟩:=GS.JG
   have cB:aL .sub (.int .i64 ((200-B:Nat):Int)) (.int .i64 1)=some (.int .i64 ((200-(B+1):Nat):Int)):=by rw[Ai Zo Zo,show((200-B:Nat):Int) -1=((200-(B+1):Nat):Int) by omega]
   refine e0 @nK @lv @t1 @d (bW DH) @ajC @cB ⟨?_⟩
   refine⟨rfl,⟨⟨d0 gQ 0 [.int .i64 ((200-(B+1):Nat):Int)],by rw[bq vR];rfl,r6 gQ 0 _⟩,by rw[c4,aK vR BR, <-c4];exact GS.MK,by rw[c4,aK vR jA, <-c4];exact GS.look⟩,Zo,λj M R=>by rw[aK vR R];exact n1 j M R⟩
  |succ m=>
   have d:decide ((aa:Int)<(E.args.length:Int))=true:=by simp only[Zh];omega
   have cB:aL .add (.int .i64 (aa:Int)) (.int .i64 1)=some (.int .i64 ((aa+1:Nat):Int)):=by rw[eQ Zo Zo];rfl
   obtain⟨I,aG⟩:∃I,E.args[aa]? =some I:=⟨_,Zf Zo⟩
   obtain⟨w,nw,OZ⟩:=has.get aa I aG
   have n9:∀j,P j->ab X bo j=ab X h j:=λj T=>n1 j (by have:=(co j T).1;omega) (co j T).2
   obtain⟨cb,b1,dT⟩:=(dp.af n9).one nw
   have WF:=Zp aG
   have auy:=alS gB WF
   have hx:=GS.look
   refine e0 @nK @lv @AT @t3 @d @cb (Za @b1 @hx) ⟨?_⟩
   rw[fA.eq]at bL
   refine(ah I w bo bw Zo Zo Zo (atJ bL.2 WF) (cP.af n9 _ _ OZ) GS).Zm ?_
   rintro ad bX dd ⟨rfl,akU,jC,f6⟩
   refine dc @nK @cB ⟨?_⟩
   exact⟨m,Zo,aa+1,bn t1,bn eX,bn t3,bn AT,bn lv,bv,Zo,akU,Zo,λj M R=>by rw[f6 j Zo R];exact n1 j M R⟩
end
end
end Go.Proofs.YtpfajohmofnkfaaGreatDoor

namespace Go.Proofs.YtpfajohmofnkfaaGreatDoor
open Go.al Go.bh
noncomputable section
structure MZ(g:Go.bh.Node):Prop where
 vars:g.eM.length+g.out.length+g.loc.length<=256
 eqs:g.eqs.length<=4096
 high:∀ar∈g.eqs,gA 201 ar.right<=200
theorem aoZ:∀{l:List fg},At l=none->∀ar∈l,gA 201 ar.right<=200:=by
 intro l
 induction l with
 |nil=>intro _ ar a;cases a
 |cons I l ah=>
  intro a ar cf
  unfold At at a
  split at a
  ·cases a
  ·rcases Zl.1 cf with rfl|cf
   ·omega
   ·exact ah a ar cf
theorem ao0:∀{l:List Go.bh.Node},qD l=none->∀g∈l,MZ g:=by
 intro l
 induction l with
 |nil=>intro _ ar a;cases a
 |cons I l ah=>
  intro a g bV
  unfold qD at a
  split at a
  ·cases a
  ·rename_i cf
   split at a
   ·cases a
   ·rename_i aW
    rcases Zl.1 bV with rfl|bV
    ·exact⟨Zo,Zo,aoZ aW⟩
    ·exact ah a g bV
theorem QF{aC:List Go.bh.Node}(a:rM aC=none):aC.length<=64/\∀g∈aC,MZ g:=by
 unfold rM at a
 split at a
 ·cases a
 ·rename_i cf
  rw[List.getElem?_eq_none_iff]at cf
  exact⟨cf,ao0 a⟩
section
variable{X:cD}{h V ft bb aV:U an}{k av aQ bp:Nat}{s:a1}
set_option maxRecDepth 100000 in
theorem aju(aA:iD X)(b7:lL X)(eJ:r9 X)(iw:yk X){P:Nat->Prop}{E:bM}{v:H}(aS:(y X).bj<=k)(aW:cP X h P E v)(co:∀j,P j->j<k)(bL:fA q4 E)(gB:gA 201 E<=200):
 a6 X 144 [v] h k (λad V av=>ad= .int .i64 0/\bB X h k V av) (λ_ _ _=>False):=by
 refine dj (adJ X) (aA.none _ _ rfl) ?_
 rw[adK]
 unfold SN
 refine c0 ⟨?_⟩
 generalize f9:bm X _ (k+1+1) _=bb
 have jK:ab X bb k=some (.cells (U.ofList [.int .i64 0] 0 .nil) 1 .own):=by rw[<-f9];simp(disch:=omega) only[aK,bq];rfl
 have b9:ab X bb (k+1)=some (.cells (U.ofList [.int .i64 0] 0 .nil) 1 .own):=by rw[<-f9];simp(disch:=omega) only[aK,bq];rfl
 have b3:ao X bb (.ptr (k+1+1) 0)=some (.func (.func 190) [] [.ptr (k+1) 0, .ptr k 0, .ptr (k+1+1) 0]):=by rw[<-f9,pX Zo];rfl
 have b8:bB X h k bb (k+1+1+1):=by rw[<-f9];exact dR
 clear f9
 refine cx @b3 ⟨?_⟩
 have Pb:=cP.af (λj T=>b8.af j (co j T)) _ _ aW
 refine(apa (kF:=k+1+1+1) aA b7 eJ iw Zo Zo Zo Zo Zo Zo (λj T=>by have:=co j T;exact⟨Zo,Zo⟩) 200 E v bb (k+1+1+1) Zo Zo gB bL Pb ⟨⟨_,b9,rfl⟩,by rw[bW jK];rfl,b3⟩).Zm ?_
 rintro ad aV bp ⟨rfl,Ku,gZ,jO⟩
 have anw:=Ku.MK
 refine cx @anw ⟨?_⟩
 exact⟨rfl,Zo,λj T=>by rw[jO j Zo Zo];exact b8.af j T⟩
set_option maxRecDepth 100000 in
theorem apq(aA:iD X)(b7:lL X)(eJ:r9 X)(iw:yk X){P:Nat->Prop}{g:Go.bh.Node}{row:List H}(aS:(y X).bj<=k)(bV:pj X h P g row)(co:∀j,P j->j<k)(bL:vi q4 g)(aE:MZ g):
 a6 X 92 [.agg row] h k (λad V av=>ad= .int .i64 0/\bB X h k V av) (λ_ _ _=>False):=by
 refine dj (af3 X) (aA.none _ _ rfl) ?_
 rw[af4]
 unfold T3
 obtain⟨dk,dK,bx,fG,dr,eu,eI,jZ,b6,rfl,ru,rv,rx,ms,e2⟩:=bV
 have eh:=ru.len
 have c5:=rv.len
 have eN:=rx.len
 have l4:=e2.wide
 have gE:=ms.len
 have lm:=ms.many
 rw[Zu]at eh c5 eN
 rw[l4.1]at gE lm
 have avt:=aE.vars
 have auu:=aE.eqs
 have Ee:0<g.out.length:=Y3.2 bL.some
 have bF:aL .add (.int .i64 (g.eM.length:Int)) (.int .i64 (g.out.length:Int))=some (.int .i64 ((g.eM.length+g.out.length:Nat):Int)):=by rw[eQ Zo Zo];simp
 have cB:aL .add (.int .i64 ((g.eM.length+g.out.length:Nat):Int)) (.int .i64 (g.loc.length:Int))=some (.int .i64 ((g.eM.length+g.out.length+g.loc.length:Nat):Int)):=by rw[eQ Zo Zo];simp
 have cQ:decide ((g.out.length:Int)=0)=false:=by simp only[Zb];omega
 have cG:decide ((256:Int)<((g.eM.length+g.out.length+g.loc.length:Nat):Int))=false:=by simp only[Zb];omega
 have eL:decide ((4096:Int)<(g.eqs.length:Int))=false:=by simp only[Zb];omega
 refine Bi ?_
 generalize f9:bm X h k _=bb
 have b9:ab X bb k=some (.cells (U.ofList [.str g.name, .int .i64 g.at_,dk,dK,bx,fG] 0 .nil) 6 .own):=by rw[<-f9,bq aS];rfl
 have b8:bB X h k bb (k+1):=by rw[<-f9];exact dR
 clear f9
 refine gS (bW b9) @eh (Za @c5 (Za @eN (Za @bF @cB))) ⟨?_⟩
 refine(Ic (k:=k+1) (h:=bb) aA b7 eJ bL.name Zo).Zm ?_
 rintro ad aV bp ⟨rfl,ct⟩
 have gZ:=ct.le
 rw[<-ct.af _ Zo]at b9
 have lX:=b8.trans ct
 have dD:=(lo ru.len).1
 have d2:=(lo rv.len).1
 have gQ:=(lo rx.len).1
 have nv:fE 3 [.aU, .aU, .aU] [(0,1,dk),(1,1,dK),(2,1,bx)] bp=some (.slice bp 0 3 3, .cells (U.ofList [dk,dK,bx] 0 .nil) 3 .own):=by
  simp[fE,pr,ps,lu,dD,d2,gQ]
 refine gS (bW b9) @eh (Za @c5 (Za @eN (Za @gE (Za @cQ (Za @cG @eL))))) ⟨?_⟩
 refine fH nv ?_
 refine w6 ⟨?_⟩
 generalize hI:bm X aV bp _=bo
 have g3:ab X bo bp=some (.cells (U.ofList [dk,dK,bx] 0 .nil) 3 .own):=by rw[<-hI,bq Zo]
 have cE:bB X h k bo (bp+1):=⟨Zo,λj T=>by rw[<-hI];simp(disch:=omega) only[aK];exact lX.af j T⟩
 have DH:ab X bo k=some (.cells (U.ofList [.str g.name, .int .i64 g.at_,dk,dK,bx,fG] 0 .nil) 6 .own):=by rw[<-hI];simp(disch:=omega) only[aK];exact b9
 clear hI
 have n9:∀j,P j->ab X bo j=ab X h j:=λj T=>cE.af j (co j T)
 refine(ahH (k:=bp+1) (h:=bo) aA.tod7 Zo Zo g3 (ru.af n9) (rv.af n9) (rx.af n9) (λj T=>by have:=co j T;omega) Zo Zo).Zm ?_
 rintro ad bX dd ⟨ag7,dp,dN⟩
 have jC:=dN.le
 refine w6 ⟨?_⟩
 refine(ahR (k:=dd) (h:=bX) aA b7 eJ Zo dp (λj T=>T.2) (λd aI=> ?_)).Zm ?_
 ·rcases Zw.1 aI with a|a
  ·exact bL.eM d a
  ·rcases Zw.1 a with a|a
   ·exact bL.out d a
   ·exact bL.loc d a
 rintro ad b4 cA ⟨rfl,dX⟩
 have iW:=dX.le
 have GN:bB X bo (bp+1) b4 cA:=dN.trans dX
 have rl:bB X h k b4 cA:=cE.trans GN
 rw[<-GN.af _ Zo]at DH
 refine dc (bW DH) @gE ⟨?_⟩
 refine f8 (λm J V aY=>∃(aa:Nat),J.g 4=some (.int .i64 0)/\J.g 53=some fG/\J.g 54=some (.int .i64 (g.eqs.length:Int))/\J.g 55=some (.int .i64 (aa:Int))/\aa+m=g.eqs.length/\bB X h k V aY)
  g.eqs.length ⟨0,bv,bv,bv,gL,Zo,rl⟩ ?_
 rintro m J ck eo ⟨aa,t4,AY,mJ,pd,bK,eU⟩
 have rB:=eU.le
 cases m with
 |zero=>
  have d:decide ((aa:Int)<(g.eqs.length:Int))=false:=by simp only[Zb];omega
  refine hk @pd @mJ @t4 @d ⟨?_⟩
  exact⟨rfl,eU⟩
 |succ m=>
  have d:decide ((aa:Int)<(g.eqs.length:Int))=true:=by simp only[Zh];omega
  have bF:aL .add (.int .i64 (aa:Int)) (.int .i64 1)=some (.int .i64 ((aa+1:Nat):Int)):=by rw[eQ Zo Zo];rfl
  obtain⟨ar,cf⟩:∃ar,g.eqs[aa]? =some ar:=⟨_,Zf Zo⟩
  have Aa:=Zp cf
  have xx:=bL.eqs ar Aa
  obtain⟨row,fN,xw⟩:=e2.get aa ar cf
  have xL:∀j,P j->ab X ck j=ab X h j:=λj T=>eU.af j (co j T)
  have eG:=ms.ik aa (by rw[l4.1];omega)
  have mx:=(ms.af xL).row Zd fN
  obtain⟨qK,s6,dD,d2,ko,rfl,hN,mw,n4,pM⟩:=xw
  have ue:=hN.len
  rw[show(hX ar.left).length=ar.left.length from by simp[hX]]at ue
  have auW:0<ar.left.length:=Y3.2 xx.some
  have NS:decide ((ar.left.length:Int)=0)=false:=by simp only[Zb];omega
  refine iJ @pd @mJ @AY @d @eG @mx ⟨?_⟩
  refine fH (iO (B:=4) (b:=eo) (W:=0) (n:=4) (c:=U.ofList [.aU, .aU, .int .i64 0, .cI] 0 .nil) (bq Zo) Zo rfl Zd Zd pM) ?_
  generalize mT:bm X _ eo _=cC
  have g7:ab X cC eo=some (.cells (U.ofList [qK,s6, .int .i64 ar.at_,ko] 0 .nil) 4 .own):=by rw[<-mT,bq Zo];rfl
  have e9:bB X h k cC (eo+1):=⟨Zo,λj T=>by rw[<-mT];simp(disch:=omega) only[aK];exact eU.af j T⟩
  clear mT
  have xM:∀j,P j->ab X cC j=ab X h j:=λj T=>e9.af j (co j T)
  refine cx (bW g7) ⟨?_⟩
  refine(aju (k:=eo+1) (h:=cC) aA b7 eJ iw Zo (cP.af xM _ _ n4) (λj T=>by have:=co j T;omega) xx.right (aE.high ar Aa)).Zm ?_
  rintro ad dQ fa ⟨rfl,j1⟩
  have vV:=j1.le
  rw[<-j1.af _ Zo]at g7
  have Wn:bB X h k dQ fa:=e9.trans j1
  have Ao:∀j,P j->ab X dQ j=ab X h j:=λj T=>Wn.af j (co j T)
  refine e8 (bW g7) @ue @NS ⟨?_⟩
  refine(aoP (k:=fa) (h:=dQ) aA b7 eJ Zo (hN.af Ao) (λj T=>by have:=co j T;omega) xx.left).Zm ?_
  rintro ad dL ma ⟨rfl,rk⟩
  have fI:decide ((0:Int)=1)=false:=rfl
  have fs:decide ((0:Int)≠0)=false:=rfl
  refine hk @fI @fs @pd @bF ⟨?_⟩
  exact⟨m,Zo,aa+1,bn t4,bn AY,bn mJ,bv,Zo,Wn.trans rk⟩
set_option maxRecDepth 100000 in
theorem ajt(aA:iD X)(b7:lL X)(eJ:r9 X)(iw:yk X){P:Nat->Prop}{aC:List Go.bh.Node}{v:H}(aS:(y X).bj<=k)(bV:sc X h P aC v)(co:∀j,P j->j<k)(bL:∀g∈aC,vi q4 g)(ci:aC≠[])(aE:rM aC=none):
 a6 X 40 [v] h k (λad V av=>ad= .int .i64 0/\bB X h k V av) (λ_ _ _=>False):=by
 refine dj (afP X) (aA.none _ _ rfl) ?_
 rw[afQ]
 unfold TV
 obtain⟨sN,pI⟩:=QF aE
 obtain⟨b,bx,cN,b6,rfl,ai,a0,dp,l1⟩:=id bV
 have l4:=l1.wide
 have fw:=dp.len
 rw[l4.1]at fw
 have fv:=co b ai
 have ax:0<aC.length:=Y3.2 ci
 have cQ:decide ((aC.length:Int)=0)=false:=by simp only[Zb];omega
 have cG:decide ((64:Int)<(aC.length:Int))=false:=by simp only[Zb];omega
 refine gd @N4 @a0 @fw @cQ @cG ⟨?_⟩
 refine f8 (λm J V aY=>∃(aa:Nat),J.g 3=some (.int .i64 0)/\J.g 28=some bx/\J.g 29=some (.int .i64 (aC.length:Int))/\J.g 30=some (.int .i64 (aa:Int))/\aa+m=aC.length/\bB X h k V aY)
  aC.length ⟨0,bv,bv,bv,gL,Zo,bB.refl _ _⟩ ?_
 rintro m J bb aQ ⟨aa,t3,acc,RT,RU,bK,b8⟩
 have jB:=b8.le
 cases m with
 |zero=>
  have d:decide ((aa:Int)<(aC.length:Int))=false:=by simp only[Zb];omega
  refine hk @RU @RT @t3 @d ⟨?_⟩
  exact⟨rfl,b8⟩
 |succ m=>
  have d:decide ((aa:Int)<(aC.length:Int))=true:=by simp only[Zh];omega
  have bF:aL .add (.int .i64 (aa:Int)) (.int .i64 1)=some (.int .i64 ((aa+1:Nat):Int)):=by rw[eQ Zo Zo];rfl
  obtain⟨g,rs⟩:∃g,aC[aa]? =some g:=⟨_,Zf Zo⟩
  have KO:=Zp rs
  obtain⟨row,fN,lC⟩:=l1.get aa g rs
  have up:∀j,P j->ab X bb j=ab X h j:=λj T=>b8.af j (co j T)
  have eG:=dp.ik aa (by rw[l4.1];omega)
  have mx:=(dp.af up).row Zd fN
  have kC:=lC.kl
  have Eb:=lC
  obtain⟨dk,dK,jj,fG,dr,eu,eI,jZ,mF,rfl,_⟩:=lC
  refine iJ @RU @RT @acc @d @eG @mx ⟨?_⟩
  refine fH (iO (B:=6) (b:=aQ) (W:=0) (n:=6) (c:=U.ofList [.str [], .int .i64 0, .aU, .aU, .aU, .aU] 0 .nil) (bq Zo) Zo rfl Zd Zd kC) ?_
  generalize dI:bm X _ aQ _=aV
  have b3:ab X aV aQ=some (.cells (U.ofList [.str g.name, .int .i64 g.at_,dk,dK,jj,fG] 0 .nil) 6 .own):=by rw[<-dI,bq Zo];rfl
  have ct:bB X h k aV (aQ+1):=⟨Zo,λj T=>by rw[<-dI];simp(disch:=omega) only[aK];exact b8.af j T⟩
  clear dI
  refine cx (bW b3) ⟨?_⟩
  refine(apq (k:=aQ+1) (h:=aV) aA b7 eJ iw Zo (Eb.af (bR:=P) (λj T=>ct.af j (co j T)) (λ_ a=>a)) (λj T=>by have:=co j T;omega) (bL g KO) (pI g KO)).Zm ?_
  rintro ad bo bw ⟨rfl,cE⟩
  have fI:decide ((0:Int)=1)=false:=rfl
  have fs:decide ((0:Int)=22)=false:=rfl
  refine hk @fI @fs @RU @bF ⟨?_⟩
  exact⟨m,Zo,aa+1,bn t3,bn acc,bn RT,bv,Zo,ct.trans cE⟩
end
end
end Go.Proofs.YtpfajohmofnkfaaGreatDoor

namespace Go.Proofs.YtpfajohmofnkfaaGreatDoor
open Go.al Go.bh
noncomputable section
section
variable{X:cD}{h V ft bb aV:U an}{k av aQ bp:Nat}{s:a1}
theorem acz(c:U H)(I b:H):(d0 c 0 [I,b]).get 0=some I:=by rw[oy];simp
theorem acA(c:U H)(I b:H):(d0 c 0 [I,b]).get 1=some b:=by rw[oy];simp
set_option maxRecDepth 100000 in
theorem ahz(aA:iD X)(b7:lL X)(eJ:r9 X)(iw:yk X){P:Nat->Prop}{aC:List Go.bh.Node}{v:H}(aS:(y X).bj<=k)(bV:sc X h P aC v)(co:∀j,P j->j<k)(bL:∀g∈aC,vi q4 g)(ci:aC≠[])(aE:rM aC=none):
 a6 X 20 [v] h k (λad V av=>ad= .agg [.int .i64 (Bl aC).1, .int .i64 (Bl aC).2]/\bB X h k V av) (λ_ _ _=>False):=by
 refine dj (ae5 X) (aA.none _ _ rfl) ?_
 rw[ae6]
 unfold To
 obtain⟨sN,pI⟩:=QF aE
 refine qh ?_
 generalize f9:bm X h k _=bb
 have b9:∃c,ab X bb k=some (.cells c 2 .own):=⟨_,by rw[<-f9,bq aS];rfl⟩
 have b8:bB X h k bb (k+1):=by rw[<-f9];exact dR
 clear f9
 have up:∀j,P j->ab X bb j=ab X h j:=λj T=>b8.af j (co j T)
 refine(ajt (k:=k+1) (h:=bb) aA b7 eJ iw Zo (bV.af (bR:=P) up (λ_ a=>a)) (λj T=>by have:=co j T;omega) bL ci aE).Zm ?_
 rintro ad aV bp ⟨rfl,ct⟩
 have gZ:=ct.le
 rw[<-ct.af _ Zo]at b9
 have lX:=b8.trans ct
 obtain⟨b,bx,cN,b6,rfl,ai,a0,dp,l1⟩:=id bV
 have l4:=l1.wide
 have fw:=dp.len
 rw[l4.1]at fw
 have fv:=co b ai
 have bl:decide ((0:Int)≠0)=false:=rfl
 rw[<-lX.fy _ _ fv]at a0
 refine e8 @bl @a0 @fw ⟨?_⟩
 refine f8 (λm J V aY=>∃(aa:Nat),J.g 0=some (.ptr b 0)/\J.g 2=some (.ptr k 0)/\J.g 13=some bx/\J.g 14=some (.int .i64 (aC.length:Int))/\J.g 15=some (.int .i64 (aa:Int))/\aa+m=aC.length/\bB X h k V aY/\k<aY/\(∃c,ab X V k=some (.cells c 2 .own))/\Bl aC=Bk aC aa (aC.drop aa))
  aC.length ⟨0,bv,bv,bv,bv,gL,Zo,lX,Zo,b9,rfl⟩ ?_
 rintro m J bo bw ⟨aa,t0,eX,lv,nK,C0,bK,cE,y4,⟨gQ,g3⟩,rn⟩
 have jf:=cE.le
 cases m with
 |zero=>
  have d:decide ((aa:Int)<(aC.length:Int))=false:=by simp only[Zb];omega
  rw[Z1 Zo]at rn
  refine iJ @C0 @nK @eX @d @acz @acA ⟨?_⟩
  refine⟨by rw[rn];rfl, ?_⟩
  exact⟨Zo,λj T=>by rw[aK Zo Zo];exact cE.af j T⟩
 |succ m=>
  have d:decide ((aa:Int)<(aC.length:Int))=true:=by simp only[Zh];omega
  have bF:aL .add (.int .i64 (aa:Int)) (.int .i64 1)=some (.int .i64 ((aa+1:Nat):Int)):=by rw[eQ Zo Zo];rfl
  obtain⟨g,rs⟩:∃g,aC[aa]? =some g:=⟨_,Zf Zo⟩
  have KO:=Zp rs
  have aI:aC.drop aa=g::aC.drop (aa+1):=by
   obtain⟨ag,T⟩:=Zc.1 rs
   rw[ZA ag,T]
  rw[aI,Bk]at rn
  obtain⟨row,fN,lC⟩:=l1.get aa g rs
  have n9:∀j,P j->ab X bo j=ab X h j:=λj T=>cE.af j (co j T)
  have eG:=dp.ik aa (by rw[l4.1];omega)
  have mx:=(dp.af n9).row Zd fN
  have kC:=lC.kl
  have Eb:=lC
  obtain⟨dk,dK,jj,fG,dr,eu,eI,jZ,mF,rfl,_⟩:=lC
  refine iJ @C0 @nK @lv @d @eG @mx ⟨?_⟩
  refine fH (iO (B:=6) (b:=bw) (W:=0) (n:=6) (c:=U.ofList [.str [], .int .i64 0, .aU, .aU, .aU, .aU] 0 .nil) (bq Zo) Zo rfl Zd Zd kC) ?_
  generalize hw:bm X _ bw _=bX
  have ec:ab X bX bw=some (.cells (U.ofList [.str g.name, .int .i64 g.at_,dk,dK,jj,fG] 0 .nil) 6 .own):=by rw[<-hw,bq Zo];rfl
  have eK:∀j,j<bw->ab X bX j=ab X bo j:=λj T=>by rw[<-hw];simp(disch:=omega) only[aK]
  clear hw
  have dN:bB X h k bX (bw+1):=⟨Zo,λj T=>by rw[eK j Zo];exact cE.af j T⟩
  rw[<-eK _ Zo]at g3
  refine dc @t0 (bW ec) ⟨?_⟩
  refine(apZ (k:=bw+1) (h:=bX) aA.tod7 Zo (λj T=>by have:=co j T;omega) (Eb.af (bR:=P) (λj T=>dN.af j (co j T)) (λ_ a=>a)) (by rw[JT];have:=(pI g KO).vars;simp only[mB];omega)).Zm ?_
  rintro ad b4 cA ⟨dC,mA,uO,dS,rfl,l3,Hn,cb,b1,dT,fc,dX⟩
  have iW:=dX.le
  have akH:bB X h k b4 cA:=dN.trans (dX.s0 Zo)
  rw[<-dX.af _ Zo]at g3
  refine dc @t0 @C0 ⟨?_⟩
  generalize hJ:bm X _ (cA+1) _=ck
  have g6:ab X ck (cA+1)=some (.cells (U.ofList [.ptr b 0, .int .i64 (aa:Int), .ptr dC 0, .map cA, .int .i64 0, .int .i64 0] 0 .nil) 6 .own):=by rw[<-hJ,bq Zo];rfl
  have g7:ab X ck cA=some (.map [] 0):=by rw[<-hJ];simp(disch:=omega) only[aK,bq]
  have eU:bB X b4 cA ck (cA+1+1):=by rw[<-hJ];exact dR
  clear hJ
  have Wm:bB X h k ck (cA+1+1):=akH.trans (eU.s0 Zo)
  rw[<-eU.af _ Zo]at g3
  have j2:∀j,(P j\/ef (bw+1) cA j)->j<cA+1+1/\j≠cA+1/\j≠cA:=by
   rintro j (T|T)
   ·have:=co j T;omega
   ·have:=T.2;omega
  refine(ahA (k:=cA+1+1) (h:=ck) (P:=λj=>P j\/ef (bw+1) cA j) (B:=aa) (aC:=aC) (g:=g) (dC:= .ptr dC 0) aA.tod7 Zo Zo Zo Zo Zo Zo j2
   (bV.af (λj T=>Wm.af j (co j T)) (λ_ a=> .inl a)) rs ⟨dC,mA,rfl, .inr l3, .inr Hn,by rw[eU.fy _ _ (by have:=l3.2;omega)];exact cb,b1.af (eU.af _ Hn.2)⟩ g6 ⟨[],0,g7,λ_=>rfl⟩).Zm ?_
  rintro ad cC ew ⟨rfl,yY,oX,qu⟩
  have e9:bB X h k cC ew:=⟨Zo,λj T=>by rw[qu j Zo Zo Zo];exact Wm.af j T⟩
  rw[<-qu _ Zo Zo Zo]at g3
  have lR:ao X cC (.ptr (cA+1) 4)=some (.int .i64 (o5 aC aa g).1):=by unfold fJ at yY;rw[bW yY];rfl
  have tA:ao X cC (.ptr (cA+1) 5)=some (.int .i64 (o5 aC aa g).2):=by unfold fJ at yY;rw[bW yY];rfl
  by_cases cj:(o5 aC aa g).1=0
  ·have ni:decide ((o5 aC aa g).1≠0)=false:=by simp[cj]
   rw[Zg (by simp[cj])]at rn
   refine hk @lR @ni @C0 @bF ⟨?_⟩
   exact⟨m,Zo,aa+1,bn t0,bn eX,bn lv,bn nK,bv,Zo,e9,Zo,⟨gQ,g3⟩,rn⟩
  ·have ni:decide ((o5 aC aa g).1≠0)=true:=by simp[cj]
   rw[Zr cj]at rn
   have xq:cL X cC 2 (.ptr (cA+1) 4)=some (.agg [.int .i64 (o5 aC aa g).1, .int .i64 (o5 aC aa g).2]):=by rw[pY,lR,tA];rfl
   refine iJ @lR @ni @xq @eX @acz @acA ⟨?_⟩
   refine⟨by rw[rn], ?_⟩
   exact⟨Zo,λj T=>by rw[aK Zo Zo];exact e9.af j T⟩
end
end
end Go.Proofs.YtpfajohmofnkfaaGreatDoor

namespace Go.Proofs.YtpfajohmofnkfaaGreatDoor
open Go.al Go.bh
noncomputable section
theorem wd(n:Nat):∀l:List Nat,l9 n l=true↔n∈l:=by
 intro l
 induction l with
 |nil=>simp[l9]
 |cons I l ah=>simp[l9,ah]
theorem atc(seen:List Nat):∀ca:List (a1×H×Nat),g2 seen (ca.map i7)=(ca.filter λE=> !l9 E.2.2 seen).map i7:=by
 intro ca
 induction ca with
 |nil=>rfl
 |cons E ca ah=>
  simp only[Zy,g2,Ym]
  have:(i7 E).2.2=E.2.2:=rfl
  rw[this]
  cases a:l9 E.2.2 seen with
  |true=>simp[ah]
  |false=>simp[ah]
theorem agF{d4:Nat}:∀{ca:List (a1×H×Nat)},(∀E∈ca,E.2.2<d4)->vn d4 (ca.map i7)=true:=by
 intro ca
 induction ca with
 |nil=>intro _;rfl
 |cons E ca ah=>
  intro a
  have M:=a E (Zq ..)
  have:Nat.blt (i7 E).2.2 d4=true:=by simp[Nat.blt,i7];omega
  simp only[Zy,vn,this,ah (λx ag=>a x (Zn _ ag)),Z7]
theorem Us{d4:Nat}{ca:List (a1×H×Nat)}(a:∀E∈ca,E.2.2<d4)(ci:ca≠[]):se d4 (ca.map i7)=true:=by
 cases ca with
 |nil=>exact absurd rfl ci
 |cons E ca=>
  have M:=a E (Zq ..)
  have:Nat.blt (i7 E).2.2 d4=true:=by simp[Nat.blt,i7];omega
  simp only[Zy,se,this,Bool.true_or]
section
variable{X:cD}{h V ft bb aV:U an}{k av aQ bp:Nat}
structure FI(X:cD)(h:U an)(r:Nat)(ca:List (a1×H×Nat))(cw:Nat):Prop where
 at_:ab X h r=some (.map (ca.map i7) cw)
 keys:(ca.map λE=>E.1).Nodup
 born:(ca.map λE=>E.2.2).Nodup
 lr:∀E∈ca,E.2.2<cw
def sa(X:cD)(h:U an)(r:Nat)(l7:a1->Option H):Prop:=∃ca cw,FI X h r ca cw/\∀w,o4 ca w=l7 w
theorem sa.LJ{r:Nat}{l7:a1->Option H}(a:sa X h r l7):jV X h r l7:=by
 obtain⟨ca,cw,M,R⟩:=a
 exact⟨ca,cw,M.at_,R⟩
theorem sa.af{r:Nat}{l7:a1->Option H}(a:sa X h r l7)(B:ab X V r=ab X h r):sa X V r l7:=by
 obtain⟨ca,cw,M,R⟩:=a
 exact⟨ca,cw,⟨by rw[B];exact M.at_,M.keys,M.born,M.lr⟩,R⟩
theorem sa.new{r:Nat}(a:ab X h r=some (.map [] 0)):sa X h r (λ_=>none):=⟨[],0,⟨a,List.nodup_nil,List.nodup_nil,λE a=>by cases a⟩,λ_=>rfl⟩
theorem ajg(w:a1):∀(ca:List (a1×H×Nat)) (i:Nat),lU ca w i=none↔∀E∈ca,E.1≠w:=by
 intro ca
 induction ca with
 |nil=>intro i;simp[lU]
 |cons x ca ah=>
  intro i
  simp only[lU]
  split
  ·rename_i a;simp[a]
  ·rename_i a;simp[a,ah]
theorem ao8{ca:List (a1×H×Nat)}(aP:(ca.map λE=>E.1).Nodup){E:a1×H×Nat}(aW:E∈ca):o4 ca E.1=some E.2.1:=by
 induction ca with
 |nil=>cases aW
 |cons x ca ah=>
  rw[wc]
  rw[Zy,YO]at aP
  rcases Zl.1 aW with rfl|aW
  ·simp
  ·have:¬x.1=E.1:=λa=>aP.1 (a▸YP aW)
   rw[Zg this]
   exact ah aP.2 aW
theorem ao9{ca:List (a1×H×Nat)}{w:a1}{v:H}(a:o4 ca w=some v):∃E∈ca,E.1=w/\E.2.1=v:=by
 induction ca with
 |nil=>cases a
 |cons x ca ah=>
  rw[wc]at a
  split at a
  ·rename_i ag
   cases a
   exact⟨x,Zq ..,ag,rfl⟩
  ·obtain⟨E,aW,M⟩:=ah a
   exact⟨E,Zn _ aW,M⟩
theorem apx{r:Nat}{l7:a1->Option H}(S:(y X).bj<=r)(a:sa X h r l7)(w:a1)(v:H):
 ∃V,qF X h k 9 (.map r) (.str w) v=some (.eW al.undef V k)/\sa X V r (λx=>if x=w then some v else l7 x)/\∀j,j≠r->ab X V j=ab X h j:=by
 obtain⟨ca,cw,⟨M,aP,ai,bc⟩,R⟩:=a
 have aI:ke X r=true:=ml S
 cases b5:lU ca w 0 with
 |none=>
  refine⟨Go.al.bm X h r (some (.map ((ca++[(w,v,cw)]).map i7) (cw+1))), ?_,⟨ca++[(w,v,cw)],cw+1,⟨bq S, ?_, ?_, ?_⟩,λx=> ?_⟩,λj T=>aK S T⟩
  ·simp only[qF,M,E4,eB,Gz,b5,al.setObj,aI,eB,gK]
   rw[Yv]
   rfl
  ·rw[Yv,List.nodup_append]
   refine⟨aP,Zs,λI aG b hK=> ?_⟩
   obtain⟨E,aW,rfl⟩:=ZD.1 aG
   simp at hK
   rw[hK]
   exact(ajg w ca 0).1 b5 E aW
  ·rw[Yv,List.nodup_append]
   refine⟨ai,Zs,λI aG b hK=> ?_⟩
   obtain⟨E,aW,rfl⟩:=ZD.1 aG
   simp at hK
   rw[hK]
   have:=bc E aW
   omega
  ·intro E aW
   rcases Zw.1 aW with aW|aW
   ·have:=bc E aW;omega
   ·simp at aW;subst aW;simp
  ·rw[aaC _ _ _ _ _ (by unfold o4;rw[b5];rfl),R]
 |some p=>
  obtain⟨aa,v0⟩:=p
  obtain⟨born,fv⟩:=VK w ca aa v0 b5
  have dv:(ca.map i7)[aa]? =some (.str w,v0,born):=by rw[Zv,fv];rfl
  have rA:=(Zc.1 fv).1
  have auC:=(Zc.1 fv).2
  have vX:∀{α:Type}(f:a1×H×Nat->α),f (w,v,born)=f (w,v0,born)->(ca.set aa (w,v,born)).map f=ca.map f:=by
   intro α f b5
   rw[List.map_set,b5]
   have:(ca.map f)[aa]? =some (f (w,v0,born)):=by rw[Zv,fv];rfl
   apply YV
   intro i
   rw[List.getElem?_set]
   split
   ·rename_i a
    subst a
    rw[this]
    simp[rA]
   ·rfl
  refine⟨Go.al.bm X h r (some (.map ((ca.set aa (w,v,born)).map i7) cw)), ?_,⟨ca.set aa (w,v,born),cw,⟨bq S,by rw[vX _ rfl];exact aP,by rw[vX _ rfl];exact ai,λE aW=> ?_⟩,λx=> ?_⟩,λj T=>aK S T⟩
  ·simp only[qF,M,E4,eB,Gz,b5,m5,dv,aae,al.setObj,aI,eB,gK]
   rw[List.map_set]
   rfl
  ·rcases List.mem_or_eq_of_mem_set aW with aW|aW
   ·exact bc E aW
   ·rw[aW];exact bc (w,v0,born) (Zp fv)
  ·rw[aaD w x v ca aa v0 born b5,R]
theorem Oh{C:aX}{h:U an}{r m d4 cw:Nat}{seen:List Nat}:∀{l:List (H×H×Nat)}{ad:H}{V:U an},(ad,V)∈yM C h r m d4 cw seen l->∃E∈l,ad= .tuple [.bool true,E.1,E.2.1]/\V=bm C h r (some (.hz (some m) d4 (seen++[E.2.2]) cw)):=by
 intro l
 induction l with
 |nil=>intro ad V a;cases a
 |cons E l ah=>
  intro ad V a
  obtain⟨B,v,b⟩:=E
  simp only[yM,Zl,YJ]at a
  rcases a with ⟨rfl,rfl⟩|a
  ·exact⟨_,Zq ..,rfl,rfl⟩
  ·obtain⟨E,aW,M⟩:=ah a
   exact⟨E,Zn _ aW,M⟩
theorem Im{r m cw:Nat}{seen:List Nat}{ca:List (a1×H×Nat)}{aj:bY}(S:(y X).bj<=r)(bi:FI X h m ca cw)(aN:ab X h r=some (.hz (some m) cw seen cw))(aH:seen=[]\/ca≠[])
 (ci:(∀E∈ca,E.2.2∈seen)->aj (.tuple [.bool false]) h k)
 (M:∀E∈ca,E.2.2∉seen->aj (.tuple [.bool true, .str E.1,E.2.1]) (Go.al.bm X h r (some (.hz (some m) cw (seen++[E.2.2]) cw))) k):
 yL (oR X j7 false h k (ip (.ptr r 0))) h k aj:=by
 have aI:ke X r=true:=ml S
 have pQ:=atc seen ca
 have hm:=agF bi.lr
 have sO:∀E,E∈ca.filter (λE=> !l9 E.2.2 seen)↔E∈ca/\E.2.2∉seen:=by
  intro E
  rw[Yu]
  constructor
  ·rintro⟨cb,b1⟩
   refine⟨cb,λa=> ?_⟩
   rw[(wd _ _).2 a]at b1
   cases b1
  ·rintro⟨cb,b1⟩
   refine⟨cb, ?_⟩
   cases cf:l9 E.2.2 seen with
   |false=>rfl
   |true=>exact absurd ((wd _ _).1 cf) b1
 cases aE:ca.filter (λE=> !l9 E.2.2 seen)with
 |nil=>
  rw[aE]at pQ sO
  have am9:∀E∈ca,E.2.2∈seen:=λE aW=>by
   by_cases a:E.2.2∈seen
   ·exact a
   ·have:=(sO E).2 ⟨aW,a⟩;cases this
  have als:(se cw (ca.map i7)||seen.isEmpty||(ca.map i7).isEmpty)=true:=by
   cases ca with
   |nil=>simp
   |cons I ca=>rw[Us bi.lr Zs];simp
  refine VQ (v:= .tuple [.bool false]) ?_ (ci am9)
  simp only[oR,ip,aI,eB,aN,bi.at_,pQ,zw,hm,als]
 |cons E l=>
  rw[aE]at pQ sO
  have KI:=(sO E).1 (Zq ..)
  have lZ:=Us bi.lr (ca:=ca) (λa=>by rw[a]at KI;cases KI.1)
  cases l with
  |nil=>
   refine VR (v:= .tuple [.bool true, .str E.1,E.2.1]) (V:=Go.al.bm X h r (some (.hz (some m) cw (seen++[E.2.2]) cw))) (av:=k) ?_ (M E KI.1 KI.2)
   simp only[oR,ip,aI,eB,aN,bi.at_,pQ,Zy,zw,i7,hm,lZ,Z7,al.setObj,gK]
  |cons cB l=>
   have aW:oR X j7 false h k (ip (.ptr r 0))=some (.fork (yM X h r m cw cw seen ((E::cB::l).map i7))):=by
    simp only[oR,ip,aI,eB,aN,bi.at_,pQ,Zy,hm,lZ,Z7]
   rw[aW]
   refine⟨⟨by simp[yM,i7],λad V aZ=> ?_⟩⟩
   obtain⟨ar,cf,rfl,rfl⟩:=Oh aZ
   obtain⟨Fb,amJ,rfl⟩:=ZD.1 cf
   have:=(sO Fb).1 amJ
   exact M Fb this.1 this.2
theorem aoC(l:List Nat)(I:Nat):EH (l++[I])=some I:=by
 induction l with
 |nil=>rfl
 |cons b l ah=>
  cases l with
  |nil=>rfl
  |cons c l=>exact ah
theorem Oa{ca:List (a1×H×Nat)}(ai:(ca.map λE=>E.2.2).Nodup){E:a1×H×Nat}(aW:E∈ca):tB E.2.2 (ca.map i7)=some (i7 E):=by
 induction ca with
 |nil=>cases aW
 |cons x ca ah=>
  rw[Zy,YO]at ai
  rcases Zl.1 aW with rfl|aW
  ·simp[tB,i7]
  ·have dv:¬x.2.2=E.2.2:=λa=>ai.1 (a▸YP aW)
   rw[Zy,tB,gX,Zg (show ¬(i7 x).2.2=E.2.2 from dv)]
   exact ah ai.2 aW
theorem aiu{r m cw:Nat}{seen:List Nat}{ca:List (a1×H×Nat)}(bi:FI X h m ca cw){E:a1×H×Nat}(aW:E∈ca)(aN:ab X h r=some (.hz (some m) cw (seen++[E.2.2]) cw)):Gt X h (.ptr r 0)=some (.tuple [.str E.1,E.2.1]):=by
 simp only[Gt,EG,ip,aN,aoC,bi.at_,Oa bi.born aW,i7]
 simp
end
end
end Go.Proofs.YtpfajohmofnkfaaGreatDoor

namespace Go.Proofs.YtpfajohmofnkfaaGreatDoor
open Go.al Go.bh
noncomputable section
def mL(X:cD)(h:U an)(b:Nat)(ok:Bool):Prop:=∃c,ab X h b=some (.cells c 1 .own)/\c.get 0=some (.bool ok)
def oz(ak N:a1->Option Int)(ok:Bool)(E:bM):Bool×Bool:=(if m3 E then ok&&(ak E.name).isSome else if E.kind=25 then ok&&(N E.name).isSome else ok,true)
section
variable{X:cD}{h V ft bb aV:U an}{k av aQ bp:Nat}
theorem mL.af{b:Nat}{ok:Bool}(a:mL X h b ok)(B:ab X V b=ab X h b):mL X V b ok:=by
 obtain⟨c,M,R⟩:=a
 exact⟨c,by rw[B];exact M,R⟩
theorem mL.m1{b:Nat}{ok:Bool}(a:mL X h b ok):ao X h (.ptr b 0)=some (.bool ok):=by
 obtain⟨c,M,R⟩:=a
 rw[bW M];exact R
theorem mL.st{b:Nat}{ok v:Bool}{aj:U an->Prop}(a:mL X h b ok)(ai:(y X).bj<=b)(B:∀V,mL X V b v->(∀j,j≠b->ab X V j=ab X h j)->aj V):D (ce X h 1 (.ptr b 0) (.bool v)) aj:=by
 obtain⟨c,M,R⟩:=a
 refine fH (qO M ai Zo rfl rfl) ?_
 exact B _ ⟨_,bq ai,by rw[U.kf,Zr rfl]⟩ (λj T=>aK ai T)
theorem LG{r:Nat}{ak:a1->Option Int}(a:jV X h r (gR ak))(w:a1):iZ X h 9 (.int .i64 0) (.map r) (.str w) true=some (.tuple [.int .i64 ((ak w).getD 0), .bool (ak w).isSome]):=by
 rw[xO a];unfold gR;cases ak w<;>rfl
theorem aaz{r:Nat}{ak:a1->Option Int}(a:jV X h r (gR ak))(w:a1):iZ X h 9 (.int .i64 0) (.map r) (.str w) false=some (.int .i64 ((ak w).getD 0)):=by
 rw[xO a];unfold gR;cases ak w<;>rfl
theorem Qq(aA:d7 X){iP ff:Nat}{ak:a1->Option Int}(M:ao X h (.ptr iP 0)=some (.map ff))(R:jV X h ff (gR ak))(w:a1):
 a6 X 17 [.str w, .ptr iP 0] h k (λad V av=>ad= .bool (ak w).isSome/\V=h/\av=k) (λ_ _ _=>False):=by
 refine dj (aej X) (aA.none _ _ rfl) ?_
 rw[aek]
 unfold SY
 have hx:=LG R w
 refine dc @M @hx ⟨?_⟩
 exact⟨rfl,rfl,rfl⟩
structure Jd(X:cD)(et:U an)(cX gt:Nat)(ok:Bool)(h:U an)(n:Nat):Prop where
 le:cX<=n
 ok:mL X h gt ok
 low:∀j,j<cX->j≠gt->ab X h j=ab X et j
theorem atM(aA:d7 X){P:Nat->Prop}{cX gt lg iP ff xS LP:Nat}{ak N:a1->Option Int}(Xz:(y X).bj<=cX)(dg:(y X).bj<=gt)(ag:gt<cX)(b5:lg<cX/\lg≠gt)(P9:iP<cX/\iP≠gt)(Qb:ff<cX/\ff≠gt)(xs:xS<cX/\xS≠gt)(jg:LP<cX/\LP≠gt)
 (ez:ao X ft (.ptr lg 0)=some (.func (.func 17) [] [.ptr iP 0]))(eT:ao X ft (.ptr iP 0)=some (.map ff))(f3:jV X ft ff (gR ak))(lR:ao X ft (.ptr xS 0)=some (.map LP))(tA:jV X ft LP (gR N))
 {ok:Bool}{E:bM}{v:H}(ge:Jd X ft cX gt ok h k)(aW:cP X h P E v)(co:∀j,P j->j<cX/\j≠gt):
 a6 X 19 [v, .ptr gt 0, .ptr lg 0, .ptr xS 0] h k (λad V av=>ad= .bool (oz ak N ok E).2/\Jd X ft cX gt (oz ak N ok E).1 V av/\∀j,P j->ab X V j=ab X h j) (λ_ _ _=>False):=by
 refine dj (aeJ X) (aA.none _ _ rfl) ?_
 rw[aeK]
 unfold Tj
 obtain⟨b,_,_,_,rfl,ai,a0,be,b2,_⟩:=id aW.open
 have fX:=ge.le
 have QL:∀j W,j<cX->j≠gt->ao X h (.ptr j W)=ao X ft (.ptr j W):=λj W M R=>by rw[c4,ge.low j M R, <-c4]
 rw[<-QL _ _ b5.1 b5.2]at ez
 rw[<-QL _ _ P9.1 P9.2]at eT
 rw[<-QL _ _ xs.1 xs.2]at lR
 have ai0:=f3.af (ge.low _ Qb.1 Qb.2)
 have ai1:=tA.af (ge.low _ jg.1 jg.2)
 have LD:=ge.ok.m1
 have hx:=LG ai1 E.name
 have h4:∀(v:Bool) V aY,(v=(oz ak N ok E).1)->k<=aY->mL X V gt v->(∀j,j≠gt->ab X V j=ab X h j)->(H.bool true=H.bool (oz ak N ok E).2/\Jd X ft cX gt (oz ak N ok E).1 V aY/\∀j,P j->ab X V j=ab X h j):=by
  rintro v V aY rfl M R au
  exact⟨rfl,⟨Zo,R,λj cb b1=>by rw[au j b1];exact ge.low j cb b1⟩,λj T=>au j (co j T).2⟩
 by_cases aS:m3 E=true
 ·have nw:(oz ak N ok E).1=(ok&&(ak E.name).isSome):=by unfold oz;rw[Zr aS]
  have aP:E.kind=2\/E.kind=6\/E.kind=24:=by simpa[m3,or_assoc]using aS
  have ah1:(decide (E.kind=2)=true)\/(decide (E.kind=2)=false/\decide (E.kind=6)=true)\/(decide (E.kind=2)=false/\decide (E.kind=6)=false/\decide (E.kind=24)=true):=by
   rcases aP with a|a|a<;>simp[a]
  have aB:∃cG hF NN:Bool,decide (E.kind=2)=cG/\decide (E.kind=6)=hF/\decide (E.kind=24)=NN/\(cG=true\/cG=false/\hF=true\/cG=false/\hF=false/\NN=true):=⟨_,_,_,rfl,rfl,rfl,ah1⟩
  obtain⟨cG,hF,NN,cB,sr,DC,Ha⟩:=aB
  rcases Ha with rfl|⟨rfl,rfl⟩|⟨rfl,rfl,rfl⟩
  all_goals
   cases ok with
   |false=>
    refine gd @a0 @cB @sr @DC @LD ⟨?_⟩
    refine ge.ok.st dg (v:=false) λV cb b1=> ?_
    refine c0 ⟨?_⟩
    exact h4 false V _ (by rw[nw];rfl) Zo cb b1
   |true=>
    refine e0 @a0 @cB @sr @DC @LD @ez @b2 ⟨?_⟩
    refine(Qq aA eT ai0 E.name).Zm ?_
    rintro ad bb aQ ⟨rfl,rfl,rfl⟩
    refine c0 ⟨?_⟩
    refine ge.ok.st dg (v:=(ak E.name).isSome) λV cb b1=> ?_
    refine c0 ⟨?_⟩
    exact h4 _ V _ (by rw[nw];rfl) Zo cb b1
 ·have aP:¬E.kind=2/\¬E.kind=6/\¬E.kind=24:=by simpa[m3,and_assoc]using aS
  have cB:decide (E.kind=2)=false:=by simp[aP.1]
  have sr:decide (E.kind=6)=false:=by simp[aP.2.1]
  have DC:decide (E.kind=24)=false:=by simp[aP.2.2]
  by_cases lW:E.kind=25
  ·have nw:(oz ak N ok E).1=(ok&&(N E.name).isSome):=by unfold oz;rw[Zg aS,Zr lW]
   have JR:decide (E.kind=25)=true:=by simp[lW]
   cases ok with
   |false=>
    refine e0 @a0 @cB @sr @DC @JR @LD (Za @lR (Za @b2 @hx)) ⟨?_⟩
    refine ge.ok.st dg (v:=false) λV cb b1=> ?_
    refine c0 ⟨?_⟩
    exact h4 false V _ (by rw[nw];rfl) Zo cb b1
   |true=>
    refine e0 @a0 @cB @sr @DC @JR @LD (Za @lR (Za @b2 @hx)) ⟨?_⟩
    refine ge.ok.st dg (v:=(N E.name).isSome) λV cb b1=> ?_
    refine c0 ⟨?_⟩
    exact h4 _ V _ (by rw[nw];rfl) Zo cb b1
  ·have nw:(oz ak N ok E).1=ok:=by unfold oz;rw[Zg aS,Zg lW]
   have JR:decide (E.kind=25)=false:=by simp[lW]
   refine gd @a0 @cB @sr @DC @JR ⟨?_⟩
   exact h4 ok _ _ nw.symm Zo ge.ok (λ_ _=>rfl)
end
end
end Go.Proofs.YtpfajohmofnkfaaGreatDoor

namespace Go.Proofs.YtpfajohmofnkfaaGreatDoor
open Go.al Go.bh
noncomputable section
def k1(s:Bool×(a1->Option Int))(x:Int×el):Bool×(a1->Option Int):=(s.1&& !(s.2 x.2.name).isSome,λw=>if w=x.2.name then some (if x.1=1 then 1 else 0)else s.2 w)
def qT(ak:a1->Option Int)(ok:Bool)(x:Int×el):Bool:=ok&&(decide (x.2.on=[])||(ak x.2.on).isSome)
def pW(ak:a1->Option Int)(s:Bool×(a1->Option Int))(w:a1):Bool×(a1->Option Int):=(s.1&&(ak w).isSome,λx=>if x=w then some ((s.2 w).getD 0+1)else s.2 x)
def p5(ak N:a1->Option Int)(s:Bool×(a1->Option Int))(ar:fg):Bool×(a1->Option Int):=(uV (oz ak N) (ar.left.foldl (pW ak) s).1 ar.right,(ar.left.foldl (pW ak) s).2)
def CG(ak L:a1->Option Int)(w:a1)(B:Int):Prop:=0<B/\(L w).getD 0=0\/B=0/\(L w).getD 0=1
def Nk(ak L:a1->Option Int):Prop:=∀w B,ak w=some B->CG ak L w B
open Classical in
def Jp(ak L:a1->Option Int):Bool:=decide (Nk ak L)
theorem Uo(ak L:a1->Option Int):Jp ak L=true↔Nk ak L:=by unfold Jp;simp
def EI(N:a1->Option Int)(ok:Bool)(g:Go.bh.Node):Bool:=
 let iN:=(eC g).foldl k1 (ok&& !(N g.name).isSome,λ_=>none)
 let Fk:=g.eqs.foldl (p5 iN.2 N) ((eC g).foldl (qT iN.2) iN.1,λ_=>none)
 Fk.1&&Jp iN.2 Fk.2
def H3(N:a1->Option Int)(g:Go.bh.Node)(B:Nat):a1->Option Int:=if (N g.name).isSome then N else λw=>if w=g.name then some (B:Int)else N w
def rK(s:Bool×(a1->Option Int))(x:Go.bh.Node×Nat):Bool×(a1->Option Int):=(EI s.2 s.1 x.1,H3 s.2 x.1 x.2)
def Ip(aC:List Go.bh.Node):Bool:=(aC.zipIdx.foldl rK (true,λ_=>none)).1
section
variable{X:cD}{h V ft bb aV:U an}{k av aQ bp:Nat}
structure kv(X:cD)(et:U an)(cX gt ff fF:Nat)(ok:Bool)(ak L:a1->Option Int)(h:U an)(n:Nat):Prop where
 le:cX<=n
 ok:mL X h gt ok
 vars:sa X h ff (gR ak)
 left:jV X h fF (gR L)
 low:∀j,j<cX->j≠gt->j≠ff->j≠fF->ab X h j=ab X et j
theorem kv.af{et:U an}{cX gt ff fF:Nat}{ok:Bool}{ak L:a1->Option Int}(a:kv X et cX gt ff fF ok ak L bb aQ)(M:gt<cX)(R:ff<cX)(au:fF<cX)(aS:aQ<=bp)(B:∀j,j<aQ->ab X aV j=ab X bb j):kv X et cX gt ff fF ok ak L aV bp:=by
 have fX:=a.le
 exact⟨Zo,a.ok.af (B _ Zo),a.vars.af (B _ Zo),a.left.af (B _ Zo),λj cb b1 dT fc=>by rw[B j Zo];exact a.low j cb b1 dT fc⟩
theorem kv.Mp{et:U an}{cX gt ff fF:Nat}{ok v:Bool}{ak L:a1->Option Int}(a:kv X et cX gt ff fF ok ak L bb aQ)(R:ff≠gt)(au:fF≠gt)(aS:aQ<=bp)(ai:mL X aV gt v)(B:∀j,j≠gt->ab X aV j=ab X bb j):kv X et cX gt ff fF v ak L aV bp:=by
 have fX:=a.le
 exact⟨Zo,ai,a.vars.af (B _ R),a.left.af (B _ au),λj cb b1 dT fc=>by rw[B j b1];exact a.low j cb b1 dT fc⟩
theorem kv.ar3{et:U an}{cX gt ff fF:Nat}{ok:Bool}{ak gI L:a1->Option Int}(a:kv X et cX gt ff fF ok ak L bb aQ)(R:ff≠gt)(au:fF≠ff)(aS:aQ<=bp)(ai:sa X aV ff (gR gI))(B:∀j,j≠ff->ab X aV j=ab X bb j):kv X et cX gt ff fF ok gI L aV bp:=by
 have fX:=a.le
 exact⟨Zo,a.ok.af (B _ (λE=>R E.symm)),ai,a.left.af (B _ au),λj cb b1 dT fc=>by rw[B j dT];exact a.low j cb b1 dT fc⟩
theorem kv.Mo{et:U an}{cX gt ff fF:Nat}{ok:Bool}{ak L Sn:a1->Option Int}(a:kv X et cX gt ff fF ok ak L bb aQ)(R:fF≠gt)(au:fF≠ff)(aS:aQ<=bp)(ai:jV X aV fF (gR Sn))(B:∀j,j≠fF->ab X aV j=ab X bb j):kv X et cX gt ff fF ok ak Sn aV bp:=by
 have fX:=a.le
 exact⟨Zo,a.ok.af (B _ (λE=>R E.symm)),a.vars.af (B _ (λE=>au E.symm)),ai,λj cb b1 dT fc=>by rw[B j fc];exact a.low j cb b1 dT fc⟩
structure kw(b gt xS:Nat)(LW:H)(len aa:Nat)(J:dw):Prop where
 g3:J.g 3=some (.ptr b 0)
 g5:J.g 5=some (.ptr gt 0)
 g6:J.g 6=some (.ptr xS 0)
 J9:J.g 53=some LW
 GA:J.g 54=some (.int .i64 (len:Int))
 GB:J.g 55=some (.int .i64 (aa:Int))
theorem kw.set{b gt xS len aa d:Nat}{LW v:H}{J:dw}(a:kw b gt xS LW len aa J)(aI:(d==3||d==5||d==6||d==53||d==54||d==55)=false):kw b gt xS LW len aa (ac J d v):=by
 simp only[Bool.or_eq_false_iff,zl]at aI
 obtain⟨⟨⟨⟨⟨be,b2⟩,a3⟩,a4⟩,a5⟩,hT⟩:=aI
 exact⟨by rw[lI,Zg be];exact a.g3,by rw[lI,Zg b2];exact a.g5,by rw[lI,Zg a3];exact a.g6,by rw[lI,Zg a4];exact a.J9,by rw[lI,Zg a5];exact a.GA,by rw[lI,Zg hT];exact a.GB⟩
structure k5(aa wo iP fF:Nat)(kN:Bool)(J:dw):Prop where
 g7:J.g 7=some (.int .i64 (aa:Int))
 g8:J.g 8=some (.ptr wo 0)
 g10:J.g 10=some (.bool kN)
 g11:J.g 11=some (.ptr iP 0)
 g12:J.g 12=some (.map fF)
theorem k5.set{aa wo iP fF d:Nat}{kN:Bool}{v:H}{J:dw}(a:k5 aa wo iP fF kN J)(aI:(d==7||d==8||d==10||d==11||d==12)=false):k5 aa wo iP fF kN (ac J d v):=by
 simp only[Bool.or_eq_false_iff,zl]at aI
 obtain⟨⟨⟨⟨be,b2⟩,a3⟩,a4⟩,a5⟩:=aI
 exact⟨by rw[lI,Zg be];exact a.g7,by rw[lI,Zg b2];exact a.g8,by rw[lI,Zg a3];exact a.g10,by rw[lI,Zg a4];exact a.g11,by rw[lI,Zg a5];exact a.g12⟩
end
end
end Go.Proofs.YtpfajohmofnkfaaGreatDoor

