/- Part of the proof of the last text; no conditions -/
import Derived.Test.YtbbkkkpgjaopkaaGreatDoorYr
set_option maxHeartbeats 8000000
set_option linter.all false
namespace Go.Proofs.YtbbkkkpgjaopkaaGreatDoor
open Go.bp Go.aS
noncomputable section
def tc(o:Int):Option (Int×Bool×Bool×Bool):=
 if o=1 then some (0,false,true,true)else if o=2 then some (0,true,false,false)else if o=3\/o=4\/o=5 then some (1,false,false,false)else if o=6 then some (1,true,false,false)
 else if o=19\/o=20 then some (1,false,false,true)else if o=23 then some (3,false,false,false)else if o=24 then some (2,true,false,false)else if o=25 then some (-1,true,false,false)
 else if o=26 then some (1,false,true,false)else none
def pC(s:Int×Bool×Bool×Bool):List z:=[.Z s.1, .bool s.2.1, .bool s.2.2.1, .bool s.2.2.2]
structure x0(X:cn):Prop where
 at_:∀h,∃v,aR X h (.ptr 4 0)=some v/\∀o:Int,my X h 3 (.agg [.Z 0, .zF, .zF, .zF]) v (.Z o) true=some (.tuple [.agg (pC ((tc o).getD (0,false,false,false))), .bool (tc o).isSome])
structure ahE(B:bx)(s:Int×Bool×Bool×Bool):Prop where
 DP:0<=s.1->(B.args.length:Int)=s.1
 Ms:s.2.1=true->wd B.name
 Fw:s.2.1=false->B.name=[]
 S4:s.2.2.1=true->km B.ty=true
 dw:s.2.2.1=false->B.ty=dw
 a6:s.2.2.2=false->B.n=0
def aub{B:bx}(a:Gl ij B):ahE B ((tc B.kind).getD (2,false,false,false)):=by
 have I:=a.bM
 have M:=a.cq
 have ow:=a.DP
 have jv:=a.nm
 have BS:=a.Fw
 have Ij:=a.ty
 have xg:=a.dw
 have gu:=a.a6
 unfold sl at ow
 unfold rA at jv BS
 unfold sG at Ij xg
 generalize B.kind=o at*
 unfold tc
 have aG:o=1\/o=2\/(o=3\/o=4\/o=5)\/o=6\/(o=19\/o=20)\/o=23\/o=24\/o=25\/o=26\/(7<=o/\o<=18\/o=21\/o=22):=Zo
 rcases aG with aG|aG|aG|aG|aG|aG|aG|aG|aG|aG
 ·subst aG
  exact⟨λ_=>by have:=ow 0 Zs;simp[this],λa=>by simp at a,λ_=>BS Zo,λ_=>Ij Zo,λa=>by simp at a,λa=>by simp at a⟩
 ·subst aG
  exact⟨λ_=>by have:=ow 0 Zs;simp[this],λ_=>jv Zo,λa=>by simp at a,λa=>by simp at a,λ_=>xg Zo,λ_=>gu Zo Zo Zo⟩
 ·rw[Zg Zo,Zg Zo,Zp aG]
  rw[Zg Zo,Zg Zo,Zp Zo]at ow
  exact⟨λ_=>by have:=ow 1 rfl;simp[this],λa=>by simp at a,λ_=>BS Zo,λa=>by simp at a,λ_=>xg Zo,λ_=>gu Zo Zo Zo⟩
 ·subst aG
  exact⟨λ_=>by have:=ow 1 Zs;simp[this],λ_=>jv Zo,λa=>by simp at a,λa=>by simp at a,λ_=>xg Zo,λ_=>gu Zo Zo Zo⟩
 ·rw[Zg Zo,Zg Zo,Zg Zo,Zg Zo,Zp aG]
  rw[Zg Zo,Zg Zo,Zp Zo]at ow
  exact⟨λ_=>by have:=ow 1 rfl;simp[this],λa=>by simp at a,λ_=>BS Zo,λa=>by simp at a,λ_=>xg Zo,λa=>by simp at a⟩
 ·subst aG
  exact⟨λ_=>by have:=ow 3 Zs;simp[this],λa=>by simp at a,λ_=>BS Zo,λa=>by simp at a,λ_=>xg Zo,λ_=>gu Zo Zo Zo⟩
 ·subst aG
  exact⟨λ_=>by have:=ow 2 Zs;simp[this],λ_=>jv Zo,λa=>by simp at a,λa=>by simp at a,λ_=>xg Zo,λ_=>gu Zo Zo Zo⟩
 ·subst aG
  exact⟨λa=>by simp at a,λ_=>jv Zo,λa=>by simp at a,λa=>by simp at a,λ_=>xg Zo,λ_=>gu Zo Zo Zo⟩
 ·subst aG
  exact⟨λ_=>by have:=ow 1 Zs;simp[this],λa=>by simp at a,λ_=>BS Zo,λ_=>Ij Zo,λa=>by simp at a,λ_=>gu Zo Zo Zo⟩
 ·rw[Zg Zo,Zg Zo,Zg Zo,Zg Zo,Zg Zo,Zg Zo,Zg Zo,Zg Zo,Zg Zo]
  rw[Zg Zo,Zg Zo,Zg Zo,Zg Zo]at ow
  exact⟨λ_=>by have:=ow 2 rfl;simp[this],λa=>by simp at a,λ_=>BS Zo,λa=>by simp at a,λ_=>xg Zo,λ_=>gu Zo Zo Zo⟩
section
variable{X:cn}{h S gx a1 aT:R ag}{j aq aP bk:Nat}{s:bc}
structure Tk(G:Prop):Prop where
 out:G
def Oy{G o8:Prop}(IM:Tk G->o8)(SN:G):o8:=IM ⟨SN⟩
def aiO:dc X h .neq 4 false .zF .zF=some .zF:=Zk
def aiP:dc X h .neq 4 false .zT .zT=some .zF:=Zk
def avg:dc X h .neq 51 false (.agg [.zF, .zF, .Z 0]) (.agg [.zF, .zF, .Z 0])=some .zF:=Zk
def asG(b:Nat):dc X h .neq 41 true (.ptr b 0) .cM=some .zT:=Zk
set_option maxRecDepth 100000 in
def aq9(aB:ix X)(bZ:lT X)(eo:sg X)(iR:x0 X){P:Nat->Prop}{B:bx}{v:z}(aL:(q X).a6<=j)(bl:cm X h P B v)(b1:∀e,P e->e<j)(bQ:eM ij B):
 a7 X 97 [v] h j (λaa S aq=>aa= .zT/\bD X h j S aq) zK:=by
 refine zF aB.todR (ahw X) ?_
 rw[ahx]
 unfold U3
 rw[eM.eq]at bQ
 obtain⟨bQ,aa6⟩:=bQ
 have lu:=aub bQ
 obtain⟨b,bf,cD,bj,rfl,aj,a0,bm,ct,a3,a4,a5,kd,kz,kA,cW,has⟩:=id bl.open
 have fV:=b1 b aj
 obtain⟨e9,Le,Lf⟩:=iR.at_ h
 have iF:=Lf B.kind
 generalize EY:(tc B.kind).getD (2,false,false,false)=s at lu
 have aoT:∀al:Int×Bool×Bool×Bool,pC al=[.Z al.1, .bool al.2.1, .bool al.2.2.1, .bool al.2.2.2]:=λ_=>rfl
 rw[aoT]at iF
 refine gO @Le @a0 @iF ⟨?_⟩
 refine jK (λcN S aQ=>cN.g 0=some (.ptr b 0)/\cN.g 3=some (.ptr (j+9) 0)/\bD X h j S aQ/\j+9<aQ/\Z X S (j+9)=zC (pC s) 4) (λW bB=> ?_) ?_
 ·cases bJ:tc B.kind with
  |some al=>
   rw[bJ]at EY
   simp only[YL]at EY
   subst EY
   simp only[YL,Z5]
   refine cV ⟨?_⟩
   exact bB _ _ _ ⟨bC,bC,dL,Zo,by rw[bv Zo];rfl⟩
  |none=>
   rw[bJ]at EY
   simp only[Option.getD_none]at EY
   subst EY
   simp only[Option.getD_none,ZX]
   refine cV ⟨?_⟩
   exact bB _ _ _ ⟨bC,bC,dL,Zo,by rw[bv Zo];rfl⟩
 rintro H a1 aP ⟨t0,t3,b4,rK,cb⟩
 have rd:∀S,Go.bp.Z X S (j+9)=zC (pC s) 4->aR X S (.ptr (j+9) 0)=some (.Z s.1)/\aR X S (.ptr (j+9) 1)=some (.bool s.2.1)/\aR X S (.ptr (j+9) 2)=some (.bool s.2.2.1)/\aR X S (.ptr (j+9) 3)=some (.bool s.2.2.2):=λS a=>
  ⟨by rw[bS a];rfl,by rw[bS a];rfl,by rw[bS a];rfl,by rw[bS a];rfl⟩
 have jI:=bQ.bM
 have hh:=bQ.cq
 have cL:decide (B.kind<1)=false:=zO
 have cJ:decide ((26:Int)<B.kind)=false:=zO
 obtain⟨iW,eX,fD,hD⟩:=rd a1 cb
 have NU:aR X a1 (.ptr b 0)=some (.Z B.kind):=by rw[b4.fA _ _ fV];exact a0
 have Gs:aR X a1 (.ptr b 8)=some bf:=by rw[b4.fA _ _ fV];exact kA
 have e3:=cW.len
 have HM:=has.len
 rw[Zr,HM]at e3
 have pu:∀e,P e->Z X a1 e=Z X h e:=λe F=>b4.ad e (b1 e F)
 have ju:=b4.le
 apply Oy
 ·intro ap1
  by_cases ow:0<=s.1
  all_goals
   first
   |(
     have eI:decide ((0:Int)<=s.1)=true:=by simp[ow]
     have h3:decide ((B.args.length:Int)≠s.1)=false:=by simp[lu.DP ow]
     refine gO @t0 @t3 (Za @NU (Za @cL (Za @cJ (Za @iW (Za @eI (Za @Gs (Za @e3 (Za @iW @h3)))))))) ⟨?_⟩)
   |(
     have eI:decide ((0:Int)<=s.1)=false:=by simp[ow]
     refine gO @t0 @t3 (Za @NU (Za @cL (Za @cJ (Za @iW (Za @eI @Gs))))) ⟨?_⟩)
   refine(aik (j:=aP+34) (h:=a1) aB (cW.ad pu) (dh.ad pu _ _ has)).Zm ?_
   rintro aa aT bk ⟨rfl,rfl,gP⟩
   refine u1 ⟨?_⟩
   refine jK (λcN S aQ=>cN.g 0=some (.ptr b 0)/\cN.g 3=some (.ptr (j+9) 0)/\bD X h j S aQ/\j+9<aQ/\Z X S (j+9)=zC (pC s) 4) (λW bB=> ?_) ?_
   ·refine cV ⟨?_⟩
    exact bB _ _ _ ⟨aY t0,aY t3,b4.more Zo,Zo,cb⟩
   exact ap1.out
 clear t0 t3 b4 cb iW eX fD hD NU Gs pu ju
 rintro H be bF ⟨t0,t3,cx,yQ,cG⟩
 obtain⟨iW,eX,fD,hD⟩:=rd be cG
 have iT:=cx.le
 have NV:aR X be (.ptr b 2)=some (.str B.name):=by rw[cx.fA _ _ fV];exact ct
 have an0:s.2.1=true->decide (B.name≠[])=true:=λa=>by simp[(lu.Ms a).ne]
 have anY:s.2.1=false->decide (B.name≠[])=false:=λa=>by simp[lu.Fw a]
 have m7:(B.no=true/\decide (B.kind≠6)=false)\/(B.no=false/\decide ((0:Int)≠0)=false):=by
  cases bJ:B.no with
  |true=>exact .inl ⟨rfl,by simp[bQ.no bJ]⟩
  |false=>exact .inr ⟨rfl,rfl⟩
 apply Oy
 ·intro apY
  rcases Bool.eq_false_or_eq_true s.2.1 with kh|kh
  all_goals
   first
   |(
     have yp:=an0 kh
     rw[kh]at eX
     refine gO @t0 @t3 (Za @eX (Za @NV (Za @yp @aiP))) ⟨?_⟩
     refine(IP (j:=bF+33) (h:=be) aB bZ eo (lu.Ms kh) Zo).Zm ?_
     rintro aa bU cP ⟨rfl,dz⟩
     have je:=dz.le
     have ry:bD X h j bU cP:=cx.trans (dz.s1 Zo)
     have Qu:j+9<cP:=Zo
     have fe:Z X bU (j+9)=zC (pC s) 4:=by rw[dz.ad _ Zo];exact cG
     have NW:aR X bU (.ptr b 3)=some (.bool B.no):=by rw[ry.fA _ _ fV];exact a3
     have Vb:aR X bU (.ptr b 0)=some (.Z B.kind):=by rw[ry.fA _ _ fV];exact a0)
   |(
     have yp:=anY kh
     rw[kh]at eX
     refine gO @t0 @t3 (Za @eX (Za @NV (Za @yp @aiO))) ⟨?_⟩
     have ry:bD X h j be (bF+33):=cx.more Zo
     have Qu:j+9<bF+33:=Zo
     have fe:Z X be (j+9)=zC (pC s) 4:=cG
     have NW:aR X be (.ptr b 3)=some (.bool B.no):=by rw[ry.fA _ _ fV];exact a3
     have Vb:aR X be (.ptr b 0)=some (.Z B.kind):=by rw[ry.fA _ _ fV];exact a0)
   rcases m7 with ⟨aaq,GP⟩|⟨aaq,GP⟩
   all_goals
    rw[aaq]at NW
    refine gO @t0 @t3 (Za @NW (Za @Vb @GP)) ⟨?_⟩
    refine jK (λcN S aQ=>cN.g 0=some (.ptr b 0)/\cN.g 3=some (.ptr (j+9) 0)/\bD X h j S aQ/\j+9<aQ/\Z X S (j+9)=zC (pC s) 4) (λW bB=> ?_) ?_
    ·refine cV ⟨?_⟩
     exact bB _ _ _ ⟨aY t0,aY t3,ry.more Zo,Zo,fe⟩
    exact apY.out
 clear t0 t3 cx cG iW eX fD hD NV iT
 rintro H bY cw ⟨t0,t3,dW,an1,eV⟩
 obtain⟨iW,eX,fD,hD⟩:=rd bY eV
 have iU:=dW.le
 have EZ:k7 B.ty=[.bool B.ty.b, .bool B.ty.s, .Z B.ty.w]:=rfl
 have w6:d0 X bY 3 (.ptr b 4)=some (.agg (k7 B.ty)):=by rw[vB,dW.fA _ _ fV,dW.fA _ _ fV,dW.fA _ _ fV,a4,a5,kd];rfl
 apply Oy
 ·intro ap0
  rcases Bool.eq_false_or_eq_true s.2.2.1 with kh|kh
  all_goals
   first
   |(
     have aX:=lu.S4 kh
     rw[kh]at fD
     refine gO @t0 @t3 (Za @fD @w6) ⟨?_⟩
     refine(Ct (j:=cw) (h:=bY) aB.todR B.ty Zo).Zm ?_
     rintro aa ck dB ⟨rfl,eC⟩
     rw[aX]
     have qL:=eC.le
     have ry:bD X h j ck dB:=dW.trans (eC.s1 Zo)
     have Qu:j+9<dB:=Zo
     have fe:Z X ck (j+9)=zC (pC s) 4:=by rw[eC.ad _ Zo];exact eV
     have Ve:aR X ck (.ptr b 7)=some (.int .u64 B.n):=by rw[ry.fA _ _ fV];exact kz
     have MN:aR X ck (.ptr (j+9) 3)=some (.bool s.2.2.2):=(rd ck fe).2.2.2)
   |(
     have aX:=lu.dw kh
     rw[kh]at fD
     have apa:k7 B.ty=[.zF, .zF, .Z 0]:=by rw[aX];rfl
     rw[apa]at w6
     refine gO @t0 @t3 (Za @fD (Za @w6 @avg)) ⟨?_⟩
     have ry:bD X h j bY cw:=dW
     have Qu:j+9<cw:=an1
     have fe:Z X bY (j+9)=zC (pC s) 4:=eV
     have Ve:aR X bY (.ptr b 7)=some (.int .u64 B.n):=by rw[ry.fA _ _ fV];exact kz
     have MN:aR X bY (.ptr (j+9) 3)=some (.bool s.2.2.2):=(rd bY fe).2.2.2)
   rcases Bool.eq_false_or_eq_true s.2.2.2 with oF|oF
   all_goals
    first
    |(
      have yp:decide ((0:Int)≠0)=false:=rfl
      rw[oF]at MN
      have axj:s.2.2.2=true:=oF)
    |(
      have yp:decide (B.n≠0)=false:=by simp[lu.a6 oF]
      rw[oF]at MN)
    refine gO @t0 @t3 (Za @MN (Za @Ve @yp)) ⟨?_⟩
    refine jK (λcN S aQ=>cN.g 0=some (.ptr b 0)/\cN.g 3=some (.ptr (j+9) 0)/\bD X h j S aQ/\j+9<aQ/\Z X S (j+9)=zC (pC s) 4) (λW bB=> ?_) ?_
    ·refine cV ⟨?_⟩
     exact bB _ _ _ ⟨aY t0,aY t3,ry.more Zo,Zo,fe⟩
    exact ap0.out
 clear t0 t3 dW eV iW eX fD hD iU w6
 rintro H cC e6 ⟨t0,t3,fa,aw3,eA⟩
 have qM:=fa.le
 have DJ:aR X cC (.ptr b 0)=some (.Z B.kind):=by rw[fa.fA _ _ fV];exact a0
 have Vf:aR X cC (.ptr b 7)=some (.int .u64 B.n):=by rw[fa.fA _ _ fV];exact kz
 have Vh:aR X cC (.ptr b 8)=some bf:=by rw[fa.fA _ _ fV];exact kA
 have xo:∀e,P e->Z X cC e=Z X h e:=λe F=>fa.ad e (b1 e F)
 show ca _ _
 by_cases I:B.kind=1
 ·have bA:decide (B.kind=1)=true:=by simp[I]
  refine eW @t0 @DJ @bA ⟨?_⟩
  refine(aqT (j:=e6) (h:=cC) aB Zo (cm.ad xo _ _ bl) (λe F=>zy (b1 e F)) I (bQ.RY I)).Zm ?_
  rintro aa dS hs ⟨rfl,jY⟩
  exact⟨rfl,fa.trans (jY.s1 Zo)⟩
 have bA:decide (B.kind=1)=false:=by simp[I]
 by_cases Hg:B.kind=19
 ·have D4:decide (B.kind=19)=true:=by simp[Hg]
  have OL:decide (B.n<=63)=true:=by simp[(bQ.lB (.inl Hg)).2]
  refine ln @t0 @DJ @bA @D4 @Vf @OL ⟨?_⟩
  exact⟨rfl,fa.more Zo⟩
 have D4:decide (B.kind=19)=false:=by simp[Hg]
 by_cases Pw:B.kind=20
 ·have GX:decide (B.kind=20)=true:=by simp[Pw]
  have OL:decide (B.n<=63)=true:=by simp[(bQ.lB (.inr Pw)).2]
  refine eQ @t0 @DJ @bA @D4 @GX @Vf @OL ⟨?_⟩
  exact⟨rfl,fa.more Zo⟩
 have GX:decide (B.kind=20)=false:=by simp[Pw]
 by_cases Px:B.kind=21
 ·have Kw:decide (B.kind=21)=true:=by simp[Px]
  obtain⟨k,r,vd,az⟩:=bQ.mX Px
  obtain⟨am,Qq,f8⟩:=has.get 0 k (by rw[vd];rfl)
  obtain⟨cH,cB,dN⟩:=(cW.ad xo).one Qq
  obtain⟨nS,ab0,aqx,axP,rfl,BP,dV,_,_,_,_,_,_,_,DX,abZ,abI⟩:=(cm.ad xo _ _ f8).open
  have acY:hr 1 bf (.Z 0)=some (.ptr cD 0):=cH
  rcases az with az|⟨az,x,af,LZ⟩
  ·have sw:decide (k.kind=1)=true:=by simp[az]
   refine eQ @t0 @DJ @bA @D4 @GX @Kw (Za @Vh (Za @acY (Za @cB (Za @dV @sw)))) ⟨?_⟩
   exact⟨rfl,fa.more Zo⟩
  ·have sw:decide (k.kind=1)=false:=by simp[az]
   have ajU:decide (k.kind=4)=true:=by simp[az]
   obtain⟨ayn,apr,apo⟩:=abI.get 0 x (by rw[af];rfl)
   obtain⟨fg,hc,vM⟩:=abZ.one apr
   obtain⟨aym,rfl,sQ,qt⟩:=apo.ptr
   have asl:hr 1 ab0 (.Z 0)=some (.ptr aqx 0):=fg
   have abW:=abZ.len
   rw[Zr,abI.len,af]at abW
   have aqU:gl ab0=some (.Z 1):=abW
   have ex:decide (x.kind=1)=true:=by simp[LZ]
   have ajL:decide ((1:Int)=1)=true:=rfl
   refine eQ @t0 @DJ @bA @D4 @GX @Kw (Za @Vh (Za @acY (Za @cB (Za @dV (Za @sw (Za @ajU (Za @DX (Za @aqU (Za @ajL (Za @asl (Za @hc (Za @asG (Za @qt @ex))))))))))))) ⟨?_⟩
   exact⟨rfl,fa.more Zo⟩
 have Kw:decide (B.kind=21)=false:=by simp[Px]
 refine ln @t0 @DJ @bA @D4 @GX @Kw ⟨?_⟩
 exact⟨rfl,fa.more Zo⟩
end
def ang{o:Nat}{B D:bx}(a:fH (o+1) B<=o)(aC:D∈B.args):fH o D+1<=o:=by
 have aX:∀(k:List bx) (a2:Nat),(∀D∈k,fH o D<=k.foldl (λa D=>max a (fH o D)) a2)/\a2<=k.foldl (λa D=>max a (fH o D)) a2:=by
  intro k
  induction k with
  |nil=>intro a2;exact⟨λ_ a=>by simp at a,Zi _⟩
  |cons b k ah=>
   intro a2
   obtain⟨rU,jg⟩:=ah (max a2 (fH o b))
   refine⟨λx af=> ?_,ZA (Nat.le_max_left _ _) jg⟩
   rcases Zq.1 af with rfl|af
   ·exact ZA (Nat.le_max_right _ _) jg
   ·exact rU x af
 have I:=(aX B.args 0).1 D aC
 have M:fH (o+1) B=B.args.foldl (λa D=>max a (fH o D)) 0+1:=rfl
 omega
def ani{o:Nat}{B:bx}:1<=fH (o+1) B:=by
 have M:fH (o+1) B=B.args.foldl (λa D=>max a (fH o D)) 0+1:=rfl
 omega
def aea{bu:ik}:∀{k:List bx}{D:bx},fB bu k->D∈k->eM bu D:=by
 intro k
 induction k with
 |nil=>intro D _ a;cases a
 |cons b k ah=>
  intro D a aC
  rw[fB]at a
  rcases Zq.1 aC with rfl|aC
  ·exact a.1
  ·exact ah a.2 aC
section
variable{X:cn}{h S gx a1 aT:R ag}{j aq aP bk:Nat}{s:bc}
structure x1(X:cn)(cZ o4 nS:Nat)(d:Int)(h:R ag):Prop where
 Km:∃c,Z X h cZ=some (.cells c 1 .own)/\c.get 0=some (.Z d)
 Nj:aR X h (.ptr o4 0)=some (.Z 0)
 look:aR X h (.ptr nS 0)=some (.func (.func 96) [] [.ptr cZ 0, .ptr o4 0, .ptr nS 0])
def x1.ad{cZ o4 nS:Nat}{d:Int}(a:x1 X cZ o4 nS d a1)(o:∀e,e=cZ\/e=o4\/e=nS->Z X aT e=Z X a1 e):x1 X cZ o4 nS d aT:=by
 obtain⟨c,I,M⟩:=a.Km
 exact⟨⟨c,by rw[o cZ (.inl rfl)];exact I,M⟩,zJ (o o4 (.inr (.inl rfl))) a.Nj,zJ (o nS (.inr (.inr rfl))) a.look⟩
set_option maxRecDepth 100000 in
def aqZ(aB:ix X)(bZ:lT X)(eo:sg X)(iR:x0 X){P:Nat->Prop}{cZ o4 nS kl:Nat}(vh:(q X).a6<=cZ)(awt:cZ<kl)(axq:o4<kl)(oB:nS<kl)(vi:o4≠cZ)(js:nS≠cZ)(b1:∀e,P e->e<kl/\e≠cZ):
 ∀(o:Nat) (B:bx) (v:z) (h:R ag) (j:Nat),o<=200->kl<=j->fH (o+1) B<=o->eM ij B->cm X h P B v->x1 X cZ o4 nS ((200-o:Nat):Int) h->
  a7 X 96 [v, .ptr cZ 0, .ptr o4 0, .ptr nS 0] h j (λaa S aq=>aa= .tuple []/\x1 X cZ o4 nS ((200-o:Nat):Int) S/\j<=aq/\∀e,e<j->e≠cZ->Z X S e=Z X h e) zK:=by
 intro o
 induction o with
 |zero=>intro B v h j _ _ a;have:=ani (o:=0) (B:=B);omega
 |succ o ah=>
  intro B v h j aG aL gd bQ bl gj
  refine zF aB.todR (ahu X) ?_
  rw[ahv]
  unfold U2
  obtain⟨b,bf,cD,bj,rfl,aj,_,_,_,_,_,_,_,_,kA,cW,has⟩:=id bl.open
  obtain⟨c,cb,b5⟩:=gj.Km
  have HF:=b1 b aj
  have bA:bg .add (.Z ((200-(o+1):Nat):Int)) (.Z 1)=some (.Z ((200-o:Nat):Int)):=by rw[eO Zo Zo,show((200-(o+1):Nat):Int)+1=((200-o:Nat):Int) by omega]
  refine gO (bS cb) @b5 @bA ⟨?_⟩
  generalize fG:bn X h cZ _=a1
  have Pa:∃gA,Z X a1 cZ=some (.cells gA 1 .own)/\gA.get 0=some (.Z ((200-o:Nat):Int)):=⟨dP c 0 [.Z ((200-o:Nat):Int)],by rw[<-fG,bv vh];rfl,xQ c 0 _⟩
  have bM:∀e,e≠cZ->Z X a1 e=Z X h e:=λe F=>by rw[<-fG,aK vh F]
  clear fG
  have ame:x1 X cZ o4 nS ((200-o:Nat):Int) a1:=⟨Pa,zJ (bM _ vi) gj.Nj,zJ (bM _ js) gj.look⟩
  have pu:∀e,P e->Z X a1 e=Z X h e:=λe F=>bM e (b1 e F).2
  have vk:=cm.ad pu _ _ bl
  refine cr @I4 ⟨?_⟩
  refine(aq9 (j:=j) (h:=a1) aB bZ eo iR Zo vk (λe F=>zy (b1 e F).1) bQ).Zm ?_
  rintro aa aT bk ⟨rfl,cl⟩
  have gP:=cl.le
  have K0:x1 X cZ o4 nS ((200-o:Nat):Int) aT:=ame.ad (λe F=>cl.ad e (by rcases F with rfl|rfl|rfl<;>omega))
  obtain⟨dK,Pb,akZ⟩:=K0.Km
  have ahK:aR X aT (.ptr b 8)=some bf:=by rw[cl.fA _ _ Zo,c6,bM _ HF.2, <-c6];exact kA
  have e3:=cW.len
  have HM:=has.len
  rw[Zr,HM]at e3
  have kL:=cW.many
  rw[Zr,HM]at kL
  have cJ:decide ((200:Int)<((200-o:Nat):Int))=false:=zO
  refine gV (bS Pb) @akZ @cJ @ahK @e3 ⟨?_⟩
  refine f6 (λm H S aQ=>∃(W:Nat),H.g 1=some (.ptr cZ 0)/\H.g 2=some (.ptr o4 0)/\H.g 3=some (.ptr nS 0)/\H.g 12=some bf/\H.g 13=some (.Z (B.args.length:Int))/\H.g 14=some (.Z (W:Int))/\W+m=B.args.length
   /\x1 X cZ o4 nS ((200-o:Nat):Int) S/\j<=aQ/\∀e,e<j->e≠cZ->Z X S e=Z X h e)
   B.args.length ⟨0,bC,bC,bC,bC,bC,gC,Zo,K0,gP,λe I M=>by rw[cl.ad e I,bM e M]⟩ ?_
  rintro m H be bF ⟨W,t1,eY,t3,AJ,mJ,n0,bB,Hp,iT,lq⟩
  cases m with
  |zero=>
   have d:=zz W B.args.length
   obtain⟨gM,Ec,ak0⟩:=Hp.Km
   have cg:bg .sub (.Z ((200-o:Nat):Int)) (.Z 1)=some (.Z ((200-(o+1):Nat):Int)):=by rw[vx Zo Zo,show((200-o:Nat):Int) -1=((200-(o+1):Nat):Int) by omega]
   refine eQ @n0 @mJ @t1 @d (bS Ec) @ak0 @cg ⟨?_⟩
   refine⟨rfl,⟨⟨dP gM 0 [.Z ((200-(o+1):Nat):Int)],by rw[bv vh];rfl,xQ gM 0 _⟩,zJ (aK vh vi) Hp.Nj,zJ (aK vh js) Hp.look⟩,Zo,λe I M=>by rw[aK vh M];exact lq e I M⟩
  |succ m=>
   have d:=zA W B.args.length
   have cg:=zD W
   obtain⟨D,aC⟩:=zB B.args W
   obtain⟨w,oI,PR⟩:=has.get W D aC
   have sX:∀e,P e->Z X be e=Z X h e:=λe F=>lq e (zy (b1 e F).1) (b1 e F).2
   obtain⟨cH,cB,dN⟩:=(cW.ad sX).one oI
   have XD:=Zl aC
   have awz:=ang gd XD
   have iF:=Hp.look
   refine eQ @n0 @mJ @AJ @t3 @d @cH (Za @cB @iF) ⟨?_⟩
   rw[eM.eq]at bQ
   refine(ah D w be bF Zo Zo Zo (aea bQ.2 XD) (cm.ad sX _ _ PR) Hp).Zm ?_
   rintro aa bU cP ⟨rfl,amf,je,f2⟩
   refine dk @n0 @cg ⟨?_⟩
   exact⟨m,Zo,W+1,aY t1,aY eY,aY t3,aY AJ,aY mJ,bC,Zo,amf,Zo,λe I M=>by rw[f2 e Zo M];exact lq e I M⟩
end
structure NH(g:Go.aS.Node):Prop where
 vars:g.eh.length+g.out.length+g.loc.length<=256
 eqs:g.eqs.length<=4096
 high:∀al∈g.eqs,fH 201 al.right<=200
def aqM:∀{k:List eL},ng k=none->∀al∈k,fH 201 al.right<=200:=by
 intro k
 induction k with
 |nil=>intro _ al a;cases a
 |cons D k ah=>
  intro a al bJ
  unfold ng at a
  split at a
  ·cases a
  ·rcases Zq.1 bJ with rfl|bJ
   ·omega
   ·exact ah a al bJ
def aqN:∀{k:List Go.aS.Node},lL k=none->∀g∈k,NH g:=by
 intro k
 induction k with
 |nil=>intro _ al a;cases a
 |cons D k ah=>
  intro a g bX
  unfold lL at a
  split at a
  ·cases a
  ·rename_i bJ
   split at a
   ·cases a
   ·rename_i bl
    rcases Zq.1 bX with rfl|bX
    ·exact⟨Zo,Zo,aqM bl⟩
    ·exact ah a g bX
def Mg{ax:List Go.aS.Node}(a:l5 ax=none):ax.length<=64/\∀g∈ax,NH g:=by
 unfold l5 at a
 split at a
 ·cases a
 ·rename_i bJ
  rw[List.getElem?_eq_none_iff]at bJ
  exact⟨bJ,aqN a⟩
section
variable{X:cn}{h S gx a1 aT:R ag}{j aq aP bk:Nat}{s:bc}
set_option maxRecDepth 100000 in
def akR(aB:ix X)(bZ:lT X)(eo:sg X)(iR:x0 X){P:Nat->Prop}{B:bx}{v:z}(aL:(q X).a6<=j)(bl:cm X h P B v)(b1:∀e,P e->e<j)(bQ:eM ij B)(gd:fH 201 B<=200):
 a7 X 69 [v] h j (λaa S aq=>aa= .Z 0/\bD X h j S aq) zK:=by
 refine zF aB.todR (agC X) ?_
 rw[agD]
 unfold UB
 refine cV ⟨?_⟩
 generalize fG:bn X _ (j+1+1) _=a1
 have il:Z X a1 j=zC [.Z 0] 1:=by rw[<-fG];simp(disch:=omega) only[aK,bv];rfl
 have cb:Z X a1 (j+1)=zC [.Z 0] 1:=by rw[<-fG];simp(disch:=omega) only[aK,bv];rfl
 have b5:aR X a1 (.ptr (j+1+1) 0)=some (.func (.func 96) [] [.ptr (j+1) 0, .ptr j 0, .ptr (j+1+1) 0]):=by rw[<-fG,Ae Zo];rfl
 have b4:bD X h j a1 (j+1+1+1):=by rw[<-fG];exact dL
 clear fG
 refine cr @b5 ⟨?_⟩
 have vk:=cm.ad (λe F=>b4.ad e (b1 e F)) _ _ bl
 refine(aqZ (kl:=j+1+1+1) aB bZ eo iR Zo Zo Zo Zo Zo Zo (λe F=>by have:=b1 e F;exact⟨Zo,Zo⟩) 200 B v a1 (j+1+1+1) Zo Zo gd bQ vk ⟨⟨_,cb,rfl⟩,by rw[bS il];rfl,b5⟩).Zm ?_
 rintro aa aT bk ⟨rfl,K0,gP,hh⟩
 have apj:=K0.Nj
 refine cr @apj ⟨?_⟩
 exact⟨rfl,Zo,λe F=>by rw[hh e Zo Zo];exact b4.ad e F⟩
set_option maxRecDepth 100000 in
def arj(aB:ix X)(bZ:lT X)(eo:sg X)(iR:x0 X){P:Nat->Prop}{g:Go.aS.Node}{row:List z}(aL:(q X).a6<=j)(bX:qw X h P g row)(b1:∀e,P e->e<j)(bQ:ml ij g)(az:NH g):
 a7 X 38 [.agg row] h j (λaa S aq=>aa= .Z 0/\bD X h j S aq) zK:=by
 refine zF aB.todR (afL X) ?_
 rw[afM]
 unfold T8
 obtain⟨c1,dn,bf,ev,b0,cy,cT,fi,ba,rfl,oy,p4,p5,mv,fp⟩:=bX
 have ea:=oy.len
 have c4:=p4.len
 have eT:=p5.len
 have lv:=fp.wide
 have gE:=mv.len
 have kL:=mv.many
 rw[Zr]at ea c4 eT
 rw[lv.1]at gE kL
 have axo:=az.vars
 have awv:=az.eqs
 have EM:0<g.out.length:=Yo.2 bQ.some
 have bA:bg .add (.Z (g.eh.length:Int)) (.Z (g.out.length:Int))=some (.Z ((g.eh.length+g.out.length:Nat):Int)):=by rw[eO Zo Zo];simp
 have cg:bg .add (.Z ((g.eh.length+g.out.length:Nat):Int)) (.Z (g.loc.length:Int))=some (.Z ((g.eh.length+g.out.length+g.loc.length:Nat):Int)):=by rw[eO Zo Zo];simp
 have cL:decide ((g.out.length:Int)=0)=false:=zO
 have cJ:decide ((256:Int)<((g.eh.length+g.out.length+g.loc.length:Nat):Int))=false:=zO
 have eI:decide ((4096:Int)<(g.eqs.length:Int))=false:=zO
 refine Kb ?_
 generalize fG:bn X h j _=a1
 have cb:Z X a1 j=zC [.str g.name, .Z g.at_,c1,dn,bf,ev] 6:=by rw[<-fG,bv aL];rfl
 have b4:bD X h j a1 (j+1):=by rw[<-fG];exact dL
 clear fG
 refine gO (bS cb) @ea (Za @c4 (Za @eT (Za @bA @cg))) ⟨?_⟩
 refine(IP (j:=j+1) (h:=a1) aB bZ eo bQ.name Zo).Zm ?_
 rintro aa aT bk ⟨rfl,cl⟩
 have gP:=cl.le
 rw[<-cl.ad _ Zo]at cb
 have mY:=b4.trans cl
 have dv:=(lA oy.len).1
 have dK:=(lA p4.len).1
 have gM:=(lA p5.len).1
 have nP:it 3 [.aV, .aV, .aV] [(0,1,c1),(1,1,dn),(2,1,bf)] bk=some (.slice bk 0 3 3, .cells (R.ofList [c1,dn,bf] 0 .nil) 3 .own):=by
  simp[it,tD,tE,nk,dv,dK,gM]
 refine gO (bS cb) @ea (Za @c4 (Za @eT (Za @gE (Za @cL (Za @cJ @eI))))) ⟨?_⟩
 refine gm nP ?_
 refine u1 ⟨?_⟩
 generalize gt:bn X aT bk _=be
 have cG:Z X be bk=zC [c1,dn,bf] 3:=by rw[<-gt,bv Zo]
 have cx:bD X h j be (bk+1):=⟨Zo,λe F=>by rw[<-gt];simp(disch:=omega) only[aK];exact mY.ad e F⟩
 have Ec:Z X be j=zC [.str g.name, .Z g.at_,c1,dn,bf,ev] 6:=by rw[<-gt];simp(disch:=omega) only[aK];exact cb
 clear gt
 have sX:∀e,P e->Z X be e=Z X h e:=λe F=>cx.ad e (b1 e F)
 refine(ajb (j:=bk+1) (h:=be) aB.todR Zo Zo cG (oy.ad sX) (p4.ad sX) (p5.ad sX) (λe F=>zy (b1 e F)) Zo Zo).Zm ?_
 rintro aa bU cP ⟨aiB,cW,dz⟩
 have je:=dz.le
 refine u1 ⟨?_⟩
 refine(ajm (j:=cP) (h:=bU) aB bZ eo Zo cW (λe F=>F.2) (λd aI=> ?_)).Zm ?_
 ·rcases Zy.1 aI with a|a
  ·exact bQ.eh d a
  ·rcases Zy.1 a with a|a
   ·exact bQ.out d a
   ·exact bQ.loc d a
 rintro aa bY cw ⟨rfl,dW⟩
 have iU:=dW.le
 have Hk:bD X be (bk+1) bY cw:=dz.trans dW
 have ry:bD X h j bY cw:=cx.trans Hk
 rw[<-Hk.ad _ Zo]at Ec
 refine dk (bS Ec) @gE ⟨?_⟩
 refine f6 (λm H S aQ=>∃(W:Nat),H.g 4=some (.Z 0)/\H.g 53=some ev/\H.g 54=some (.Z (g.eqs.length:Int))/\H.g 55=some (.Z (W:Int))/\W+m=g.eqs.length/\bD X h j S aQ)
  g.eqs.length ⟨0,bC,bC,bC,gC,Zo,ry⟩ ?_
 rintro m H ck dB ⟨W,t4,AK,mK,pF,bB,eC⟩
 have qL:=eC.le
 cases m with
 |zero=>
  have d:=zz W g.eqs.length
  refine hT @pF @mK @t4 @d ⟨?_⟩
  exact⟨rfl,eC⟩
 |succ m=>
  have d:=zA W g.eqs.length
  have bA:=zD W
  obtain⟨al,bJ⟩:=zB g.eqs W
  have ER:=Zl bJ
  have sO:=bQ.eqs al ER
  obtain⟨row,fN,BW⟩:=fp.get W al bJ
  have Fc:∀e,P e->Z X ck e=Z X h e:=λe F=>eC.ad e (b1 e F)
  have d7:=mv.gZ W (by rw[lv.1];omega)
  have na:=(mv.ad Fc).row Zd fN
  obtain⟨xz,AF,dv,dK,hF,rfl,iG,m8,qc,rN⟩:=BW
  have vu:=iG.len
  rw[show(g3 al.left).length=al.left.length from by simp[g3]]at vu
  have awQ:0<al.left.length:=Yo.2 sO.some
  have OG:decide ((al.left.length:Int)=0)=false:=zO
  refine ln @pF @mK @AK @d @d7 @na ⟨?_⟩
  refine gm (j8 (o:=4) (b:=dB) (V:=0) (n:=4) (c:=R.ofList [.aV, .aV, .Z 0, .cM] 0 .nil) (bv Zo) Zo rfl Zd Zd rN) ?_
  generalize lo:bn X _ dB _=cC
  have eA:Z X cC dB=zC [xz,AF, .Z al.at_,hF] 4:=by rw[<-lo,bv Zo];rfl
  have fa:bD X h j cC (dB+1):=⟨Zo,λe F=>by rw[<-lo];simp(disch:=omega) only[aK];exact eC.ad e F⟩
  clear lo
  have xo:∀e,P e->Z X cC e=Z X h e:=λe F=>fa.ad e (b1 e F)
  refine cr (bS eA) ⟨?_⟩
  refine(akR (j:=dB+1) (h:=cC) aB bZ eo iR Zo (cm.ad xo _ _ qc) (λe F=>zy (b1 e F)) sO.right (az.high al ER)).Zm ?_
  rintro aa dS hs ⟨rfl,jY⟩
  have yP:=jY.le
  rw[<-jY.ad _ Zo]at eA
  have Xo:bD X h j dS hs:=fa.trans jY
  have Ac:∀e,P e->Z X dS e=Z X h e:=λe F=>Xo.ad e (b1 e F)
  refine eW (bS eA) @vu @OG ⟨?_⟩
  refine(aqA (j:=hs) (h:=dS) aB bZ eo Zo (iG.ad Ac) (λe F=>zy (b1 e F)) sO.left).Zm ?_
  rintro aa dD is ⟨rfl,mZ⟩
  have g4:decide ((0:Int)=1)=false:=rfl
  have gK:decide ((0:Int)≠0)=false:=rfl
  refine hT @g4 @gK @pF @bA ⟨?_⟩
  exact⟨m,Zo,W+1,aY t4,aY AK,aY mK,bC,Zo,Xo.trans mZ⟩
set_option maxRecDepth 100000 in
def akQ(aB:ix X)(bZ:lT X)(eo:sg X)(iR:x0 X){P:Nat->Prop}{ax:List Go.aS.Node}{v:z}(aL:(q X).a6<=j)(bX:tp X h P ax v)(b1:∀e,P e->e<j)(bQ:∀g∈ax,ml ij g)(a2:ax≠[])(az:l5 ax=none):
 a7 X 22 [v] h j (λaa S aq=>aa= .Z 0/\bD X h j S aq) zK:=by
 refine zF aB.todR (afj X) ?_
 rw[afk]
 unfold TR
 obtain⟨p7,lZ⟩:=Mg az
 obtain⟨b,bf,cD,ba,rfl,aj,a0,cW,jf⟩:=id bX
 have lv:=jf.wide
 have e3:=cW.len
 rw[lv.1]at e3
 have fV:=b1 b aj
 have av:0<ax.length:=Yo.2 a2
 have cL:decide ((ax.length:Int)=0)=false:=zO
 have cJ:decide ((64:Int)<(ax.length:Int))=false:=zO
 refine gV @Wx @a0 @e3 @cL @cJ ⟨?_⟩
 refine f6 (λm H S aQ=>∃(W:Nat),H.g 3=some (.Z 0)/\H.g 28=some bf/\H.g 29=some (.Z (ax.length:Int))/\H.g 30=some (.Z (W:Int))/\W+m=ax.length/\bD X h j S aQ)
  ax.length ⟨0,bC,bC,bC,gC,Zo,bD.refl _ _⟩ ?_
 rintro m H a1 aP ⟨W,t3,adA,SW,SX,bB,b4⟩
 have ju:=b4.le
 cases m with
 |zero=>
  have d:=zz W ax.length
  refine hT @SX @SW @t3 @d ⟨?_⟩
  exact⟨rfl,b4⟩
 |succ m=>
  have d:=zA W ax.length
  have bA:=zD W
  obtain⟨g,vl⟩:=zB ax W
  have w2:=Zl vl
  obtain⟨row,fN,kM⟩:=jf.get W g vl
  have pu:∀e,P e->Z X a1 e=Z X h e:=λe F=>b4.ad e (b1 e F)
  have d7:=cW.gZ W (by rw[lv.1];omega)
  have na:=(cW.ad pu).row Zd fN
  have ls:=kM.iI
  have H6:=kM
  obtain⟨c1,dn,pD,ev,b0,cy,cT,fi,gv,rfl,_⟩:=kM
  refine ln @SX @SW @adA @d @d7 @na ⟨?_⟩
  refine gm (j8 (o:=6) (b:=aP) (V:=0) (n:=6) (c:=R.ofList [.str [], .Z 0, .aV, .aV, .aV, .aV] 0 .nil) (bv Zo) Zo rfl Zd Zd ls) ?_
  generalize dX:bn X _ aP _=aT
  have b5:Z X aT aP=zC [.str g.name, .Z g.at_,c1,dn,pD,ev] 6:=by rw[<-dX,bv Zo];rfl
  have cl:bD X h j aT (aP+1):=⟨Zo,λe F=>by rw[<-dX];simp(disch:=omega) only[aK];exact b4.ad e F⟩
  clear dX
  refine cr (bS b5) ⟨?_⟩
  refine(arj (j:=aP+1) (h:=aT) aB bZ eo iR Zo (H6.ad (bh:=P) (λe F=>cl.ad e (b1 e F)) (λ_ a=>a)) (λe F=>zy (b1 e F)) (bQ g w2) (lZ g w2)).Zm ?_
  rintro aa be bF ⟨rfl,cx⟩
  have g4:decide ((0:Int)=1)=false:=rfl
  have gK:decide ((0:Int)=22)=false:=rfl
  refine hT @g4 @gK @SX @bA ⟨?_⟩
  exact⟨m,Zo,W+1,aY t3,aY adA,aY SW,bC,Zo,cl.trans cx⟩
end
section
variable{X:cn}{h S a1 aT:R ag}{j aq aP bk:Nat}{P:Nat->Prop}
def ld.aqE{h:R ag}:∀{b8:List Go.aS.Node}{ba:List (List z)}{P:Nat->Prop},ld X h P b8 ba->∀(i:Nat) al,b8[i]? =some al->∃row bh,ba[i]? =some row/\(∀e,bh e->P e)/\qx X h bh al row/\∀(S:R ag) mb mD,(∀e,P e->¬bh e->Z X S e=Z X h e)->qx X S bh mb mD->ld X S P (b8.set i mb) (ba.set i mD):=by
 intro b8
 induction b8 with
 |nil=>intro ba P _ i al a;simp at a
 |cons D b8 ah=>
  rintro ba P ⟨row,gv,c7,rfl,bJ,M,ak⟩ i al aE
  cases i with
  |zero=>
   simp at aE;subst aE
   exact⟨row,c7,rfl,bJ,M,λS mb mD aG bl=>⟨mD,gv,c7,rfl,bJ,bl,ak.ad (λe F=>aG e F.1 F.2) (λ_ a=>a)⟩⟩
  |succ i=>
   simp at aE
   obtain⟨w,bh,aA,bq,bV,c2⟩:=ah ak i al aE
   exact⟨w,bh,by simpa using aA,λe F=>(bq e F).1,bV,λS mb mD aG bl=>⟨row,gv.set i mD,c7,rfl,bJ,M.ad (λe F=>aG e (bJ e F) (λfU=>(bq e fU).2 F)) (λ_ a=>a),c2 S mb mD (λe F aL=>aG e F.1 aL) bl⟩⟩
def vR{α:Type}(D b c:α):Nat->α
 |0=>D
 |1=>b
 |_=>c
def xq(g:Go.aS.Node):Nat->Bool
 |0=>true
 |c+1=>xq g c&&(hm g c).all rZ
def aq8(g:Go.aS.Node):xq g 3=(g.eh.all rZ&&(g.out.all rZ&&g.loc.all rZ)):=by
 simp only[xq,hm,Bool.true_and,YN]
def J3{α:Type}(p:α->Bool){k:List α}{i:Nat}{D:α}(a:k[i]? =some D):(k.take (i+1)).all p=((k.take i).all p&&p D):=by
 rw[YA,a,List.all_append];simp
def IU{s:bc}(a:wd s\/s=[]):s.length<=1000000:=by
 rcases a with a|rfl
 ·have:=a.len;omega
 ·simp
set_option maxRecDepth 100000 in
def ath(aB:dR X){ax:List Go.aS.Node}{al:Nat}(aL:(q X).a6<=j)(bJ:uL X h P ax (.ptr al 0))(b1:∀e,P e->(q X).a6<=e/\e<j)(bQ:∀g∈ax,ml ij g)(az:l5 ax=none):
 a7 X 8 [.ptr al 0] h j (λaa S aq=>aa= .bool (ax.all vG)/\j<=aq/\uL X S P (ax.map hE) (.ptr al 0)/\∀e,e<j->¬P e->Z X S e=Z X h e) zK:=by
 refine zF aB (ahg X) ?_
 rw[ahh]
 unfold UL
 obtain⟨p7,lZ⟩:=Mg az
 obtain⟨ai,dT,bf,cD,ba,rq,yU,vP,cW,jf⟩:=bJ
 cases rq
 refine cV ⟨?_⟩
 generalize fG:Go.bp.bn X (Go.bp.bn X _ (j+1) _) (j+1) _=a1
 have sM:kx X a1 j true:=by unfold kx;rw[<-fG];exact zP
 have XZ:aR X a1 (.ptr (j+1) 0)=some (.func (.func 25) [] [.ptr j 0]):=by rw[<-fG,bS (bv Zo),nq];rfl
 have bM:∀e,e<j->Z X a1 e=Z X h e:=λe F=>by rw[<-fG];exact zE
 clear fG
 have pu:∀e,P e->Z X a1 e=Z X h e:=λe F=>bM e (b1 e F).2
 have Se:aR X a1 (.ptr al 0)=some bf:=zJ (pu al yU.1) vP
 have lv:=jf.wide
 have e3:=cW.rd.len
 rw[lv.1]at e3
 refine dk @Se @e3 ⟨?_⟩
 refine f6 (λm H S aQ=>∃(o:Nat) (xG:List (List z)),H.g 0=some (.ptr al 0)/\H.g 3=some (.ptr j 0)/\H.g 4=some (.ptr (j+1) 0)/\H.g 17=some (.Z (ax.length:Int))/\H.g 18=some (.Z (o:Int))/\o+m=ax.length/\j+2<=aQ/\kx X S j ((ax.take o).all vG)/\aR X S (.ptr (j+1) 0)=some (.func (.func 25) [] [.ptr j 0])/\aR X S (.ptr al 0)=some bf/\gL X S (λe=>P e/\ai e=2) cD bf 6 xG/\ld X S (λe=>P e/\ai e=0) ((ax.take o).map hE++ax.drop o) xG/\∀e,e<j->¬P e->Z X S e=Z X h e)
  ax.length ⟨0,ba,bC,bC,bC,bC,gC,Zo,Zo,sM,XZ,Se,cW.ad λe F=>pu e F.1,by simpa using jf.ad (S:=a1) (λe F=>pu e F.1) (λ_ a=>a),λe F _=>bM e F⟩ ?_
 clear sM XZ bM pu Se jf cW lv ba
 rintro m H aT bk ⟨o,xG,t0,t3,t4,jN,iu,aG,nL,p8,Qb,MM,cW,jf,hh⟩
 cases m with
 |zero=>
  have d:=zz o ax.length
  rw[ZB Zo]at p8
  rw[ZB Zo,ZH Zo,Z4]at jf
  have t8:=p8.rX
  refine gV @iu @jN @d @t3 @t8 ⟨?_⟩
  exact⟨rfl,Zo,⟨ai,al,bf,cD,xG,rfl,yU,MM,cW,jf⟩,hh⟩
 |succ m=>
  have d:=zA o ax.length
  have bA:=zD o
  obtain⟨g,bX⟩:=zB ax o
  have w2:=Zl bX
  have pp:=bQ g w2
  have iF:((ax.take o).map hE).length=o:=by rw[Zr,Ym];omega
  obtain⟨row,bh,EU,fU,kM,sN⟩:=jf.aqE o g (by rw[ZF Zo,iF,Y2,Z1];exact bX)
  obtain⟨j9,c1,dn,mG,ev,b0,cy,cT,fi,kF,rfl,oy,p4,p5,mv,yW⟩:=kM
  have d7:=cW.rd.gZ o (Zb.1 EU).1
  have pq:¬P j:=λa=>zy (b1 j a).2
  have yR:¬P (j+1):=λa=>zy (b1 _ a).2
  have m0:∀e,bh e->P e:=λe F=>(fU e F).1
  have XL:=Kj (j:=bk+5) aB cW (i:=o) (W:=0) (eK:=j) EU rfl (IU (.inl pp.name)) aL p8 (λa=>pq a.1)
  rw[ZS]at XL
  refine eQ @iu @jN @d @t0 @MM @d7 (Za @t4 @Qb) ⟨?_⟩
  refine XL.Zm ?_
  rintro aa be bF ⟨rfl,iT,aal,yX,lq⟩
  have w5:=(Zb.1 EU).1
  have yX:gL X be (λe=>P e/\ai e=2) cD bf 6 (xG.set o [.str (eu g.name), .Z g.at_,c1,dn,mG,ev]):=yX
  have EV:(xG.set o [.str (eu g.name), .Z g.at_,c1,dn,mG,ev])[o]? =some [.str (eu g.name), .Z g.at_,c1,dn,mG,ev]:=by rw[Z8,Zp rfl,Zp w5]
  have Iz:∀e,bh e->Z X be e=Z X aT e:=λe F=>lq e (λa=>by have:=(fU e F).2;have:=a.2;omega) (λB=>pq (B▸m0 e F))
  have ε:=oy.ad (S:=be) λe F=>Iz e F.1
  have ζ:=p4.ad (S:=be) λe F=>Iz e F.1
  have η:=p5.ad (S:=be) λe F=>Iz e F.1
  have anl:=mv.ad (S:=be) λe F=>Iz e F.1
  have aaI:=yW.ad (S:=be) (λe F=>Iz e F.1) (λ_ a=>a)
  have X0:aR X be (.ptr (j+1) 0)=some (.func (.func 25) [] [.ptr j 0]):=zJ (lq _ (λa=>yR a.1) Zo) Qb
  have aaH:al≠j:=λB=>pq (B▸yU.1)
  have asX:aR X be (.ptr al 0)=some bf:=zJ (lq al (λa=>by have:=a.2;have:=yU.2;omega) aaH) MM
  have anv:∀e,e<j->¬P e->Z X be e=Z X h e:=λe F av=>by rw[lq e (λa=>av a.1) Zo];exact hh e F av
  clear oy p4 p5 mv yW cW p8 Qb MM hh
  have aq1:aR X be (.ptr cD (o*6+2))=some c1:=yX.rd.cell o _ 2 _ EV rfl
  have aq2:aR X be (.ptr cD (o*6+3))=some dn:=yX.rd.cell o _ 3 _ EV rfl
  have aq3:aR X be (.ptr cD (o*6+4))=some mG:=yX.rd.cell o _ 4 _ EV rfl
  have ip:fd [.aV, .aV, .aV] [(0,1,c1),(1,1,dn),(2,1,mG)]=some (.agg [c1,dn,mG]):=by
   simp[fd,tD,tE,nk,(lA ε.rd.len).1,(lA ζ.rd.len).1,(lA η.rd.len).1]
  refine gO @aq1 @aq2 @aq3 ⟨?_⟩
  refine gm ip ?_
  generalize amh:(((ax.take o).all vG)&&lz g.name)=JQ at aal
  have aoR:∀c,c<3->∀aH,aH∈hm g c->mi ij aH:=λc ay aH aI=>by
   match c,ay with
   |0,_=>exact pp.eh aH aI
   |1,_=>exact pp.out aH aI
   |2,_=>exact pp.loc aH aI
  refine jK (λH S aQ=>H.g 0=some (.ptr al 0)/\H.g 3=some (.ptr j 0)/\H.g 4=some (.ptr (j+1) 0)/\H.g 17=some (.Z (ax.length:Int))/\H.g 18=some (.Z (o:Int))/\H.g 6=some (.ptr cD (o*6))/\bF<=aQ/\kx X S j (JQ&&xq g 3)/\(∀i,i<3->gL X S (λe=>bh e/\j9 e=i+1) (vR b0 cy cT i) (vR c1 dn mG i) 8 (((hm g i).map jj).map d6))/\∀e,¬(bh e/\j9 e≠4/\j9 e≠0)->e≠j->Z X S e=Z X be e) (λaxE ant=> ?_) ?_
  ·refine f6 (λm H S aQ=>∃(c:Nat),H.g 0=some (.ptr al 0)/\H.g 3=some (.ptr j 0)/\H.g 4=some (.ptr (j+1) 0)/\H.g 17=some (.Z (ax.length:Int))/\H.g 18=some (.Z (o:Int))/\H.g 6=some (.ptr cD (o*6))/\H.g 44=some (.agg [c1,dn,mG])/\H.g 45=some (.Z (c:Int))/\c+m=3/\bF<=aQ/\kx X S j (JQ&&xq g c)/\(∀i,i<3->gL X S (λe=>bh e/\j9 e=i+1) (vR b0 cy cT i) (vR c1 dn mG i) 8 ((if i<c then(hm g i).map jj else hm g i).map d6))/\∀e,¬(bh e/\j9 e≠4/\j9 e≠0)->e≠j->Z X S e=Z X be e)
    3 ⟨0,aY t0,aY t3,aY t4,aY jN,aY iu,bC,bC,gC,Zo,Zo,by simpa[xq]using aal,λi aE=> ?_,λ_ _ _=>rfl⟩ ?_
   ·rw[Zg Zo]
    match i,aE with
    |0,_=>exact ε
    |1,_=>exact ζ
    |2,_=>exact η
   clear t0 t3 t4 jN iu
   rintro m H dD is ⟨c,t0,t3,t4,jN,iu,eZ,FR,C8,ay,aam,H0,wY,gf⟩
   cases m with
   |zero=>
    have d:decide ((c:Int)<3)=false:=zO
    refine dk @C8 @d ⟨?_⟩
    have sH:c=3:=Zo
    subst sH
    exact ant _ _ _ ⟨aY t0,aY t3,aY t4,aY jN,aY iu,aY eZ,aam,H0,λi aE=>by have:=wY i aE;rw[Zp Zo]at this;exact this,gf⟩
   |succ m=>
    have d:decide ((c:Int)<3)=true:=zN
    have HJ:=wY c Zo
    rw[Zg (Nat.lt_irrefl c)]at HJ
    have anr:sV false 3 1 (.agg [c1,dn,mG]) (.Z (c:Int))=some (vR c1 dn mG c):=by
     have ak:Nat.blt c 3=true:=by simp[Nat.blt];omega
     simp only[sV,qT,ak,fj,kE,qj,Yc]
     match c,(show c<3 by omega)with
     |0,_=>rfl
     |1,_=>rfl
     |2,_=>rfl
    have aah:=HJ.rd.len
    have anU:=HJ.rd.many
    rw[Zr]at aah anU
    refine gV @FR @C8 @d @anr @aah ⟨?_⟩
    refine f6 (λm H S aQ=>∃(i:Nat),H.g 0=some (.ptr al 0)/\H.g 3=some (.ptr j 0)/\H.g 4=some (.ptr (j+1) 0)/\H.g 17=some (.Z (ax.length:Int))/\H.g 18=some (.Z (o:Int))/\H.g 6=some (.ptr cD (o*6))/\H.g 44=some (.agg [c1,dn,mG])/\H.g 45=some (.Z (c:Int))/\H.g 8=some (vR c1 dn mG c)/\H.g 49=some (.Z ((hm g c).length:Int))/\H.g 50=some (.Z (i:Int))/\i+m=(hm g c).length/\is<=aQ/\kx X S j (JQ&&xq g c&&((hm g c).take i).all rZ)/\gL X S (λe=>bh e/\j9 e=c+1) (vR b0 cy cT c) (vR c1 dn mG c) 8 ((((hm g c).take i).map jj++(hm g c).drop i).map d6)/\∀e,¬(bh e/\j9 e=c+1)->e≠j->Z X S e=Z X dD e)
     (hm g c).length ⟨0,aY t0,aY t3,aY t4,aY jN,aY iu,aY eZ,aY FR,aY C8,bC,bC,gC,Zo,Zi _,by simpa using H0,by simpa using HJ,λ_ _ _=>rfl⟩ ?_
    clear t0 t3 t4 jN iu eZ FR C8 d HJ
    rintro eH H jS up ⟨i,t0,t3,t4,jN,iu,eZ,FR,C8,hH,n1,pE,aE,anZ,BQ,K9,sK⟩
    cases eH with
    |zero=>
     have d:=zz i (hm g c).length
     have bA:=zD c
     rw[ZB Zo]at BQ
     rw[ZB Zo,ZH Zo,Z4]at K9
     refine gV @pE @n1 @C8 @d @bA ⟨?_⟩
     refine⟨m,Zo,c+1,aY t0,aY t3,aY t4,aY jN,aY iu,aY eZ,aY FR,bC,Zo,Zo,by rw[xq, <-YN];exact BQ,λcp j2=> ?_,λe F af=> ?_⟩
     ·by_cases κ:cp=c
      ·subst κ
       rw[Zp Zo];exact K9
      ·have:=(wY cp j2).ad (S:=jS) λe F=>sK e (λa=>κ (by have:=a.2;have:=F.2;omega)) (λB=>pq (m0 _ (B▸F.1)))
       by_cases cO:cp<c
       ·rw[Zp cO]at this;rw[Zp Zo];exact this
       ·rw[Zg cO]at this;rw[Zg Zo];exact this
     ·rw[sK e (λa=>F ⟨a.1,zy a.2,zy a.2⟩) af];exact gf e F af
    |succ eH=>
     have d:=zA i (hm g c).length
     have bA:=zD i
     obtain⟨aH,aI⟩:=zB (hm g c) i
     have vi:=aoR c Zo aH (Zl aI)
     have sL:(((hm g c).take i).map jj).length=i:=by rw[Zr,Ym];omega
     have xd:(((((hm g c).take i).map jj++(hm g c).drop i).map d6))[i]? =some (d6 aH):=by
      rw[Zw,ZF Zo,sL,Y2,Z1]
      rw[show i+0=i from rfl,aI];rfl
     have rP:=(Zb.1 xd).1
     have π:=K9.rd.gZ i rP
     have HO:aR X jS (.ptr (j+1) 0)=some (.func (.func 25) [] [.ptr j 0]):=by rw[c6,sK _ (λa=>yR (m0 _ a.1)) Zo,gf _ (λa=>yR (m0 _ a.1)) Zo, <-c6];exact X0
     have bn:((((hm g c).take i).map jj++(hm g c).drop i).map d6).set i (d6 (jj aH))=(((hm g c).take (i+1)).map jj++(hm g c).drop (i+1)).map d6:=by
      rw[<-List.map_set,Fp aI]
     have rB:=Kj (j:=up+6) aB K9 (i:=i) (W:=0) (eK:=j) xd rfl (IU (.inl vi.name)) aL BQ (λa=>pq (m0 _ a.1))
     rw[ZS]at rB
     refine eQ @pE @n1 @hH @t4 @d @HO @π ⟨?_⟩
     refine rB.Zm ?_
     rintro aa jT Fr ⟨rfl,anF,HY,Ey,t6⟩
     have aoE:(((((hm g c).take i).map jj++(hm g c).drop i).map d6).set i ((d6 aH).set 0 (.str (eu aH.name))))[i]? =some ((d6 aH).set 0 (.str (eu aH.name))):=by rw[Z8,Zp rfl,Zp rP]
     have Lc:aR X jT (.ptr (j+1) 0)=some (.func (.func 25) [] [.ptr j 0]):=zJ (t6 _ (λa=>yR (m0 _ a.1)) Zo) HO
     refine gV @t4 @Lc @hH @pE @π ⟨?_⟩
     refine(Kj (j:=Fr+6) aB Ey (i:=i) (W:=5) (eK:=j) (s:=aH.on) aoE rfl (IU (by by_cases a:aH.on=[];exact .inr a;exact .inl (vi.on a))) aL HY (λa=>pq (m0 _ a.1))).Zm ?_
     rintro aa A0 RV ⟨rfl,Qn,HZ,XQ,EH⟩
     rw[List.set_set,show((d6 aH).set 0 (.str (eu aH.name))).set 5 (.str (eu aH.on))=d6 (jj aH) from rfl,bn]at XQ
     refine dk @pE @bA ⟨?_⟩
     exact⟨eH,Zo,i+1,aY t0,aY t3,aY t4,aY jN,aY iu,aY eZ,aY FR,aY C8,aY hH,aY n1,bC,Zo,Zo,by rw[J3 rZ aI,show rZ aH=(lz aH.name&&lz aH.on) from rfl];simpa[YN]using HZ,XQ,λe F af=>by rw[EH e F af,t6 e F af];exact sK e F af⟩
  ·clear t0 t3 t4 jN iu
   rintro H dD is ⟨t0,t3,t4,jN,iu,eZ,aam,H0,wY,gf⟩
   have PN:∀e,P e->¬bh e->Z X dD e=Z X be e:=λe F bJ=>gf e (λa=>bJ a.1) (λB=>pq (B▸F))
   have aaM:=yX.ad (S:=dD) λe F=>PN e F.1 (λa=>by have:=(fU e a).2;have:=F.2;omega)
   have QY:aR X dD (.ptr cD (o*6+5))=some ev:=aaM.rd.cell o _ 5 _ EV rfl
   have aot:=aaI.ad (S:=dD) (λe F=>gf e (λa=>a.2.2 F.2) (λB=>pq (m0 _ (B▸F.1)))) (λ_ a=>a)
   have ι:=anl.ad (S:=dD) λe F=>gf e (λa=>a.2.1 F.2) (λB=>pq (m0 _ (B▸F.1)))
   have am4:aR X dD (.ptr (j+1) 0)=some (.func (.func 25) [] [.ptr j 0]):=zJ (gf _ (λa=>yR (m0 _ a.1)) Zo) X0
   have asY:aR X dD (.ptr al 0)=some bf:=zJ (PN al yU.1 (λa=>by have:=(fU al a).2;have:=yU.2;omega)) asX
   have anw:∀e,e<j->¬P e->Z X dD e=Z X h e:=λe F av=>by rw[gf e (λa=>av (m0 e a.1)) Zo];exact anv e F av
   have aag:=ι.rd.len
   rw[aaI.wide.1]at aag
   have anQ:=(lZ g w2).eqs
   generalize ami:(JQ&&xq g 3)=NJ at H0
   refine eW @eZ @QY @aag ⟨?_⟩
   refine f6 (λm H S aQ=>∃(i:Nat),H.g 0=some (.ptr al 0)/\H.g 3=some (.ptr j 0)/\H.g 4=some (.ptr (j+1) 0)/\H.g 17=some (.Z (ax.length:Int))/\H.g 18=some (.Z (o:Int))/\H.g 6=some (.ptr cD (o*6))/\H.g 71=some (.Z (g.eqs.length:Int))/\H.g 72=some (.Z (i:Int))/\i+m=g.eqs.length/\is<=aQ/\kx X S j (NJ&&(g.eqs.take i).all Cs)/\lD X S (λe=>bh e/\j9 e=0) ((g.eqs.take i).map pA++g.eqs.drop i) kF/\∀e,e<is->¬(bh e/\j9 e=0)->e≠j->Z X S e=Z X dD e)
    g.eqs.length ⟨0,aY t0,aY t3,aY t4,aY jN,aY iu,aY eZ,bC,gC,Zo,Zi _,by simpa using H0,by simpa using aot,λ_ _ _ _=>rfl⟩ ?_
   clear t0 t3 t4 jN iu eZ
   rintro eH H jS up ⟨i,t0,t3,t4,jN,iu,eZ,Db,Dc,aE,anZ,BQ,QK,sK⟩
   have amm:∀e,P e->e<is:=λe F=>zy (b1 e F).2
   have Hu:∀e,P e->¬(bh e/\j9 e=0)->Z X jS e=Z X dD e:=λe F bJ=>sK e (amm e F) bJ (λB=>pq (B▸F))
   have BX:=aaM.ad (S:=jS) λe F=>Hu e F.1 (λa=>by have:=(fU e a.1).2;have:=F.2;omega)
   have aoQ:aR X jS (.ptr cD (o*6+5))=some ev:=BX.rd.cell o _ 5 _ EV rfl
   have HQ:=ι.ad (S:=jS) λe F=>Hu e (m0 e F.1) (λa=>by have:=a.2;have:=F.2;omega)
   have HO:aR X jS (.ptr (j+1) 0)=some (.func (.func 25) [] [.ptr j 0]):=zJ (sK _ Zo (λa=>yR (m0 _ a.1)) Zo) am4
   cases eH with
   |zero=>
    have d:=zz i g.eqs.length
    rw[ZB Zo]at BQ
    rw[ZB Zo,ZH Zo,Z4]at QK
    have P4:∀i,i<3->gL X jS (λe=>bh e/\j9 e=i+1) (vR b0 cy cT i) (vR c1 dn mG i) 8 (((hm g i).map jj).map d6):=λi aE=>(wY i aE).ad λe F=>Hu e (m0 e F.1) (λa=>by have:=a.2;have:=F.2;omega)
    have aoI:qx X jS bh (hE g) [.str (eu g.name), .Z g.at_,c1,dn,mG,ev]:=⟨j9,c1,dn,mG,ev,b0,cy,cT,fi,kF,rfl,P4 0 Zd,P4 1 Zd,P4 2 Zd,HQ,QK⟩
    have aar:=sN jS (hE g) _ (λe F BT=>by rw[Hu e F.1 (λa=>BT a.1),PN e F.1 BT,lq e (λa=>by have:=a.2;have:=F.2;omega) (λB=>pq (B▸F.1))]) aoI
    rw[Fp bX]at aar
    have asW:aR X jS (.ptr al 0)=some bf:=zJ (Hu al yU.1 (λa=>by have:=(fU al a.1).2;have:=yU.2;omega)) asY
    refine gV @Dc @Db @d @iu @bA ⟨?_⟩
    refine⟨m,Zo,o+1,_,aY t0,aY t3,aY t4,aY jN,bC,Zo,Zo, ?_,HO,asW,BX,aar,λe F av=>by rw[sK e Zo (λa=>av (m0 e a.1)) Zo];exact anw e F av⟩
    rw[J3 vG bX]
    have:((ax.take o).all vG&&vG g)=(NJ&&g.eqs.all Cs):=by
     rw[<-ami, <-amh,aq8];unfold vG;simp[YN]
    rw[this];exact BQ
   |succ eH=>
    have d:=zA i g.eqs.length
    have cg:=zD i
    obtain⟨ie,yV⟩:=zB g.eqs i
    have sO:=pp.eqs ie (Zl yV)
    have sL:((g.eqs.take i).map pA).length=i:=by rw[Zr,Ym];omega
    obtain⟨ax4,c7,vv,io,EW,aom⟩:=QK.lens i ie (by rw[ZF Zo,sL,Y2,Z1];exact yV)
    obtain⟨Dv,CZ,adh,dv,dK,hF,rfl,Lp,anB,HN,qb⟩:=EW
    have tO:∀e,c7 e->P e:=λe F=>m0 e (io e F).1
    have Qq:aR X jS (.ptr fi (i*4))=some CZ:=by have:=HQ.rd.cell i _ 0 CZ vv rfl;rwa[ZS]at this
    have aaP:aR X jS (.ptr fi (i*4+3))=some hF:=HQ.rd.cell i _ 3 hF vv rfl
    have Qh:=HQ.rd.gZ i (Zb.1 vv).1
    have aai:=Lp.rd.len
    have anV:=Lp.rd.many
    rw[show(g3 ie.left).length=ie.left.length from by simp[g3]]at aai anV
    refine eQ @Dc @Db @eZ @d @aoQ @Qh (Za @Qq @aai) ⟨?_⟩
    refine f6 (λm H S aQ=>∃(W:Nat),H.g 0=some (.ptr al 0)/\H.g 3=some (.ptr j 0)/\H.g 4=some (.ptr (j+1) 0)/\H.g 17=some (.Z (ax.length:Int))/\H.g 18=some (.Z (o:Int))/\H.g 6=some (.ptr cD (o*6))/\H.g 71=some (.Z (g.eqs.length:Int))/\H.g 72=some (.Z (i:Int))/\H.g 10=some (.Z (i:Int))/\H.g 83=some (.Z (ie.left.length:Int))/\H.g 84=some (.Z (W:Int))/\W+m=ie.left.length/\up<=aQ/\kx X S j (NJ&&(g.eqs.take i).all Cs&&(ie.left.take W).all lz)/\gL X S (λe=>c7 e/\Dv e=1) dv CZ 1 (g3 ((ie.left.take W).map eu++ie.left.drop W))/\∀e,¬(c7 e/\Dv e=1)->e≠j->Z X S e=Z X jS e)
     ie.left.length ⟨0,aY t0,aY t3,aY t4,aY jN,aY iu,aY eZ,aY Db,aY Dc,bC,bC,gC,Zo,Zi _,by simpa using BQ,by simpa using Lp,λ_ _ _=>rfl⟩ ?_
    clear t0 t3 t4 jN iu eZ Db Dc
    rintro RO H jT Fr ⟨W,t0,t3,t4,jN,iu,eZ,Db,Dc,k6,S0,S1,bB,aw0,HY,Lq,t6⟩
    have Hv:∀e,P e->¬(c7 e/\Dv e=1)->Z X jT e=Z X jS e:=λe F bJ=>t6 e bJ (λB=>pq (B▸F))
    have aoz:=BX.ad (S:=jT) λe F=>Hv e F.1 (λa=>by have:=(fU e (io e a.1).1).2;have:=F.2;omega)
    have aaR:aR X jT (.ptr cD (o*6+5))=some ev:=aoz.rd.cell o _ 5 _ EV rfl
    have θ:=HQ.ad (S:=jT) λe F=>Hv e (m0 e F.1) (λa=>by have:=(io e a.1).2;have:=F.2;omega)
    have Lc:aR X jT (.ptr (j+1) 0)=some (.func (.func 25) [] [.ptr j 0]):=zJ (t6 _ (λa=>yR (tO _ a.1)) Zo) HO
    have anP:aR X jT (.ptr fi (i*4))=some CZ:=by have:=θ.rd.cell i _ 0 CZ vv rfl;rwa[ZS]at this
    have aoM:aR X jT (.ptr fi (i*4+3))=some hF:=θ.rd.cell i _ 3 hF vv rfl
    cases RO with
    |zero=>
     have d:=zz W ie.left.length
     rw[ZB (show ie.left.length<=W by omega)]at HY
     rw[ZB Zo,ZH Zo,Z4]at Lq
     have am2:=cm.ad (S:=jT) (λe F=>Hv e (tO e F.1) (λa=>by have:=a.2;have:=F.2;omega)) _ _ HN
     refine eQ @S1 @S0 @d @eZ @aaR @k6 (Za @Qh (Za @aoM @t4)) ⟨?_⟩
     refine(avA aB (ga:=Bool) (o:=27) (pi:=[]) (mX:=[.ptr (j+1) 0]) (st:=FI) (bu:=j7) (f:=λs B=>s&&lz B.name) (bR:=λs B=>s&&vF B) (ef:=λe=>c7 e/\Dv e=0) (bd:=λe=>e=j) (du:=λs h n=>kx X h j s/\aR X h (.ptr (j+1) 0)=some (z.func (.func 25) [] [.ptr j 0])) (DB:=eM ij)
      (λB a D aC=>by cases B with|mk o fK nm no ty n args=>rw[eM]at a;exact aea a.2 aC) atC atB atD (λe F B=>pq (B▸tO e F.1)) (λs B v h n avZ Ht hg bb bl=> ?_) _ ie.right (Yx _) _ (λe=>c7 e/\Dv e=0) hF jT Fr (λe F=>⟨F,zy (b1 e (tO e F.1)).2⟩) ⟨HY,Lc⟩ sO.right am2).Zm ?_
     ·refine(atG (j:=n) aB aL hg.1 hg.2 (λe F=>(b1 e (tO e (Ht e F).1.1)).1) (λa=>pq (tO _ (Ht _ a).1.1)) (IU (by
       rw[eM.eq]at bb
       by_cases gd:rA B.kind
       ·exact .inl (bb.1.nm gd)
       ·exact .inr (bb.1.Fw gd))) bl).mono ?_ (λ_ _ _ a=>a)
      rintro aa S aQ ⟨rfl,f8,l0,P5,vm⟩
      exact⟨rfl,f8,⟨l0,zJ (vm _ (λa=>yR (tO _ (Ht _ a).1.1)) Zo) hg.2⟩,P5,λe _ I M=>vm e I M⟩
     rintro aa A0 RV ⟨rfl,Qn,⟨HZ,aww⟩,am3,EH⟩
     have PO:∀e,P e->¬(c7 e/\Dv e=0)->Z X A0 e=Z X jT e:=λe F bJ=>EH e (zy (b1 e F).2) bJ (λB=>pq (B▸F))
     have aoJ:tl X A0 c7 (pA ie) [CZ,adh, .Z ie.at_,hF]:=⟨Dv,CZ,adh,dv,dK,hF,rfl,Lq.ad λe F=>PO e (tO e F.1) (λa=>by have:=a.2;have:=F.2;omega),(anB.ad λe F=>Hv e (tO e F.1) (λa=>by have:=a.2;have:=F.2;omega)).ad λe F=>PO e (tO e F.1) (λa=>by have:=a.2;have:=F.2;omega),am3,qb⟩
     have aaG:=aom A0 (pA ie) (λe F kM=>by rw[PO e (m0 e F.1) (λa=>kM a.1),Hv e (m0 e F.1) (λa=>kM a.1)]) aoJ
     rw[Fp yV]at aaG
     refine dk @Dc @cg ⟨?_⟩
     refine⟨eH,Zo,i+1,aY t0,aY t3,aY t4,aY jN,aY iu,aY eZ,aY Db,bC,Zo,Zo, ?_,aaG,λe F BT af=> ?_⟩
     ·rw[J3 Cs yV,show Cs ie=(ie.left.all lz&&vF ie.right) from rfl];simpa[YN]using HZ
     ·rw[EH e Zo (λa=>BT (io e a.1)) af,t6 e (λa=>BT (io e a.1)) af];exact sK e F BT af
    |succ RO=>
     have d:=zA W ie.left.length
     have eN:=zD W
     obtain⟨w,oI⟩:=zB ie.left W
     have anJ:((ie.left.take W).map eu).length=W:=by rw[Zr,Ym];omega
     have aaO:(g3 ((ie.left.take W).map eu++ie.left.drop W))[W]? =some [.str w]:=by
      unfold g3
      rw[Zw,ZF Zo,anJ,Y2,Z1]
      rw[show W+0=W from rfl,oI];rfl
     have Lk:=Lq.rd.gZ W (Zb.1 aaO).1
     have aoS:(g3 ((ie.left.take W).map eu++ie.left.drop W)).set W [.str (eu w)]=g3 ((ie.left.take (W+1)).map eu++ie.left.drop (W+1)):=by
      unfold g3
      rw[<-Fp oI,List.map_set]
     have rB:=Kj (j:=Fr+12) aB Lq (i:=W) (W:=0) (eK:=j) (s:=w) aaO rfl (IU (.inl (sO.left w (Zl oI)))) aL HY (λa=>pq (tO _ a.1))
     rw[ZS]at rB
     refine eQ @S1 @S0 @d @t4 @Lc @eZ (Za @aaR (Za @k6 (Za @Qh (Za @anP @Lk)))) ⟨?_⟩
     refine rB.Zm ?_
     rintro aa A0 RV ⟨rfl,Qn,HZ,χ,EH⟩
     rw[show([.str w]:List z).set 0 (.str (eu w))=[.str (eu w)] from rfl,aoS]at χ
     refine dk @S1 @eN ⟨?_⟩
     exact⟨RO,Zo,W+1,aY t0,aY t3,aY t4,aY jN,aY iu,aY eZ,aY Db,aY Dc,aY k6,aY S0,bC,Zo,Zo,by rw[J3 lz oI];simpa[YN]using HZ,χ,λe F af=>by rw[EH e F af];exact t6 e F af⟩
end
section
variable{X:cn}{h S gx a1 aT:R ag}{j aq aP bk:Nat}{s:bc}
def Df(c:R z)(D b:z):(dP c 0 [D,b]).get 0=some D:=by rw[nq];simp
def Dg(c:R z)(D b:z):(dP c 0 [D,b]).get 1=some b:=by rw[nq];simp
set_option maxRecDepth 100000 in
def Ot(aB:ix X)(bZ:lT X)(eo:sg X)(iR:x0 X){P:Nat->Prop}{ax:List Go.aS.Node}{v:z}(aL:(q X).a6<=j)(bX:tp X h P ax v)(b1:∀e,P e->e<j)(bQ:∀g∈ax,ml ij g)(a2:ax≠[])(az:l5 ax=none):
 a7 X 7 [v] h j (λaa S aq=>aa= .agg [.Z (wv ax).1, .Z (wv ax).2]/\bD X h j S aq) zK:=by
 refine zF aB.todR (agU X) ?_
 rw[agV]
 unfold UC
 obtain⟨p7,lZ⟩:=Mg az
 refine tr ?_
 generalize fG:bn X h j _=a1
 have cb:∃c,Z X a1 j=some (.cells c 2 .own):=⟨_,by rw[<-fG,bv aL];rfl⟩
 have b4:bD X h j a1 (j+1):=by rw[<-fG];exact dL
 clear fG
 have pu:∀e,P e->Z X a1 e=Z X h e:=λe F=>b4.ad e (b1 e F)
 refine(akQ (j:=j+1) (h:=a1) aB bZ eo iR Zo (bX.ad (bh:=P) pu (λ_ a=>a)) (λe F=>zy (b1 e F)) bQ a2 az).Zm ?_
 rintro aa aT bk ⟨rfl,cl⟩
 have gP:=cl.le
 rw[<-cl.ad _ Zo]at cb
 have mY:=b4.trans cl
 obtain⟨b,bf,cD,ba,rfl,aj,a0,cW,jf⟩:=id bX
 have lv:=jf.wide
 have e3:=cW.len
 rw[lv.1]at e3
 have fV:=b1 b aj
 have br:decide ((0:Int)≠0)=false:=rfl
 rw[<-mY.fA _ _ fV]at a0
 refine eW @br @a0 @e3 ⟨?_⟩
 refine f6 (λm H S aQ=>∃(W:Nat),H.g 0=some (.ptr b 0)/\H.g 2=some (.ptr j 0)/\H.g 13=some bf/\H.g 14=some (.Z (ax.length:Int))/\H.g 15=some (.Z (W:Int))/\W+m=ax.length/\bD X h j S aQ/\j<aQ/\(∃c,Z X S j=some (.cells c 2 .own))/\wv ax=ss ax W (ax.drop W))
  ax.length ⟨0,bC,bC,bC,bC,gC,Zo,mY,Zo,cb,rfl⟩ ?_
 rintro m H be bF ⟨W,t0,eY,mJ,n0,C5,bB,cx,yQ,⟨gM,cG⟩,rC⟩
 have iT:=cx.le
 cases m with
 |zero=>
  have d:=zz W ax.length
  rw[ZH Zo]at rC
  refine ln @C5 @n0 @eY @d @Df @Dg ⟨?_⟩
  refine⟨by rw[rC];rfl, ?_⟩
  exact⟨Zo,λe F=>by rw[aK Zo Zo];exact cx.ad e F⟩
 |succ m=>
  have d:=zA W ax.length
  have bA:=zD W
  obtain⟨g,vl⟩:=zB ax W
  have w2:=Zl vl
  have aI:ax.drop W=g::ax.drop (W+1):=by
   obtain⟨af,F⟩:=Zb.1 vl
   rw[Zz af,F]
  rw[aI,ss]at rC
  obtain⟨row,fN,kM⟩:=jf.get W g vl
  have sX:∀e,P e->Z X be e=Z X h e:=λe F=>cx.ad e (b1 e F)
  have d7:=cW.gZ W (by rw[lv.1];omega)
  have na:=(cW.ad sX).row Zd fN
  have ls:=kM.iI
  have H6:=kM
  obtain⟨c1,dn,pD,ev,b0,cy,cT,fi,gv,rfl,_⟩:=kM
  refine ln @C5 @n0 @mJ @d @d7 @na ⟨?_⟩
  refine gm (j8 (o:=6) (b:=bF) (V:=0) (n:=6) (c:=R.ofList [.str [], .Z 0, .aV, .aV, .aV, .aV] 0 .nil) (bv Zo) Zo rfl Zd Zd ls) ?_
  generalize h7:bn X _ bF _=bU
  have er:Z X bU bF=zC [.str g.name, .Z g.at_,c1,dn,pD,ev] 6:=by rw[<-h7,bv Zo];rfl
  have fb:∀e,e<bF->Z X bU e=Z X be e:=λe F=>by rw[<-h7];exact zE
  clear h7
  have dz:bD X h j bU (bF+1):=⟨Zo,λe F=>by rw[fb e Zo];exact cx.ad e F⟩
  rw[<-fb _ Zo]at cG
  refine dk @t0 (bS er) ⟨?_⟩
  refine(arX (j:=bF+1) (h:=bU) aB.todR Zo (λe F=>zy (b1 e F)) (H6.ad (bh:=P) (λe F=>dz.ad e (b1 e F)) (λ_ a=>a)) (by rw[Wr];have:=(lZ g w2).vars;simp only[s6];omega)).Zm ?_
  rintro aa bY cw ⟨dA,eK,uy,dH,rfl,l1,H1,cH,cB,dN,fx,dW⟩
  have iU:=dW.le
  have al5:bD X h j bY cw:=dz.trans (dW.s1 Zo)
  rw[<-dW.ad _ Zo]at cG
  refine dk @t0 @C5 ⟨?_⟩
  generalize iS:bn X _ (cw+1) _=ck
  have d3:Z X ck (cw+1)=zC [.ptr b 0, .Z (W:Int), .ptr dA 0, .map cw, .Z 0, .Z 0] 6:=by rw[<-iS,bv Zo];rfl
  have eA:Z X ck cw=some (.map [] 0):=by rw[<-iS];simp(disch:=omega) only[aK,bv]
  have eC:bD X bY cw ck (cw+1+1):=by rw[<-iS];exact dL
  clear iS
  have Xn:bD X h j ck (cw+1+1):=al5.trans (eC.s1 Zo)
  rw[<-eC.ad _ Zo]at cG
  have fU:∀e,(P e\/ec (bF+1) cw e)->e<cw+1+1/\e≠cw+1/\e≠cw:=by
   rintro e (F|F)
   ·have:=b1 e F;omega
   ·have:=F.2;omega
  refine(ai6 (j:=cw+1+1) (h:=ck) (P:=λe=>P e\/ec (bF+1) cw e) (o:=W) (ax:=ax) (g:=g) (dA:= .ptr dA 0) aB.todR Zo Zo Zo Zo Zo Zo fU
   (bX.ad (λe F=>Xn.ad e (b1 e F)) (λ_ a=> .inl a)) vl ⟨dA,eK,rfl, .inr l1, .inr H1,by rw[eC.fA _ _ (zy l1.2)];exact cH,cB.ad (eC.ad _ H1.2)⟩ d3 ⟨[],0,eA,λ_=>rfl⟩).Zm ?_
  rintro aa cC e6 ⟨rfl,yK,qM,qK⟩
  have fa:bD X h j cC e6:=⟨Zo,λe F=>by rw[qK e Zo Zo Zo];exact Xn.ad e F⟩
  rw[<-qK _ Zo Zo Zo]at cG
  have om:aR X cC (.ptr (cw+1) 4)=some (.Z (oT ax W g).1):=by unfold fI at yK;rw[bS yK];rfl
  have wF:aR X cC (.ptr (cw+1) 5)=some (.Z (oT ax W g).2):=by unfold fI at yK;rw[bS yK];rfl
  by_cases ce:(oT ax W g).1=0
  ·have Bk:decide ((oT ax W g).1≠0)=false:=by simp[ce]
   rw[Zg (by simp[ce])]at rC
   refine hT @om @Bk @C5 @bA ⟨?_⟩
   exact⟨m,Zo,W+1,aY t0,aY eY,aY mJ,aY n0,bC,Zo,fa,Zo,⟨gM,cG⟩,rC⟩
  ·have Bk:decide ((oT ax W g).1≠0)=true:=by simp[ce]
   rw[Zp ce]at rC
   have t8:d0 X cC 2 (.ptr (cw+1) 4)=some (.agg [.Z (oT ax W g).1, .Z (oT ax W g).2]):=by rw[qQ,om,wF];rfl
   refine ln @om @Bk @t8 @eY @Df @Dg ⟨?_⟩
   refine⟨by rw[rC], ?_⟩
   exact⟨Zo,λe F=>by rw[aK Zo Zo];exact fa.ad e F⟩
end
section
variable{X:cn}{h S gx a1 aT:R ag}{j aq aP bk:Nat}
def aro{C:aM}{h:R ag}(x e:Int):rm C h .min [3,3] [.int .i64 x, .int .i64 e]=some (.int .i64 (min x e)):=by
 show oe false (.int .i64 x) [.int .i64 e]=_
 simp only[oe,eU,sU]
 congr 2
 simp only[Zh]
 split<;>simp_all<;>omega
def aqL:∀{k:List Go.aS.Node}{o D:Int},lL k=some (o,D)->o=30\/o=22:=by
 intro k
 induction k with
 |nil=>intro o D a;cases a
 |cons g k ah=>
  intro o D a
  unfold lL at a
  split at a
  ·cases a;exact .inl rfl
  ·split at a
   ·cases a;exact .inr rfl
   ·exact ah a
def asu{s:bc}(aD:s.length<=5000){o D:Int}(a:Ax s= .error (o,D)):o≠0:=by
 have I:=acH aD
 rw[a]at I
 unfold Ay at I
 split at I
 ·cases I
 ·cases I;decide
 ·split at I
  ·cases I
  ·cases I;decide
  ·split at I
   ·rename_i az
    cases I
    unfold l5 at az
    split at az
    ·cases az;decide
    ·rcases aqL az with rfl|rfl<;>decide
   ·cases I
end
section
variable{X:cn}{h S a1 aT:R ag}{j aq aP bk:Nat}{P:Nat->Prop}
def Wv(D b c d:Int):lE X h 50 26 (.agg [.Z D, .Z b]) (.agg [.Z c, .Z d])=(match some (sT D c)with|some true=>(match some (sT b d)with|some true=>some true|some false=>some false|none=>none)|some false=>some false|none=>none):=Zk
def aj2(D b:Int):dc X h .eql 26 false (.agg [.Z D, .Z b]) (.agg [.Z D, .Z b])=some .zT:=by
 have a:dc X h .eql 26 false (.agg [.Z D, .Z b]) (.agg [.Z D, .Z b])=(match lE X h 50 26 (.agg [.Z D, .Z b]) (.agg [.Z D, .Z b])with|some b=>nB b|none=>none):=Zk
 rw[a,Wv,xj,xj]
 simp
def arz(D b:Int):dc X h .neq 26 false (.agg [.Z D, .Z b]) (.agg [.Z D, .Z b])=some .zF:=by
 have a:dc X h .neq 26 false (.agg [.Z D, .Z b]) (.agg [.Z D, .Z b])=(match lE X h 50 26 (.agg [.Z D, .Z b]) (.agg [.Z D, .Z b])with|some b=>nB (!b)|none=>none):=Zk
 rw[a,Wv,xj,xj]
 simp
def apA{D:Nat}(aC:D<1000000):bg .quo (.Z (D:Int)) (.Z 2)=some (.Z ((D/2:Nat):Int)):=by
 have I:sT 2 0=false:=rfl
 have ak:(D:Int).tdiv 2=((D/2:Nat):Int):=by rw[Int.tdiv_eq_ediv_of_nonneg Zo];omega
 have aA:n4 .i64 ((D/2:Nat):Int)=((D/2:Nat):Int):=wrap64 Zo Zo
 simp[bg,kW,k2,ly,eU,I,ak,oL,ki,aA]
 rw[show((D:Int)/2)=((D/2:Nat):Int) by omega];exact aA
def akg(b:Nat):dc X h .eql 23 true (.ptr b 0) .cM=some .zF:=Zk
def aj1(D b:Bool):dc X h .eql 4 false (.bool D) (.bool b)=some (.bool (decide (D=b))):=by
 cases D<;>cases b
 ·exact aiL
 ·exact VL
 ·exact aiM
 ·exact aiN
def ajh{G P:R ag->Nat->Prop}{o8:Prop}(IM:(∀h n,P h n->Tk (G h n))->o8)(SN:∀h n,P h n->G h n):o8:=IM λh n a=>⟨SN h n a⟩
def wj(k:List (List z))(i:Nat)(r:List (List z)):Prop:=r.length=k.length/\∀W,W<k.length->r[W]? =if W<i\/k.length-i<=W then k[k.length-1-W]? else k[W]?
def wj.zero(k:List (List z)):wj k 0 k:=⟨rfl,λW bB=>by rw[Zg Zo]⟩
def wj.done{k r:List (List z)}{i:Nat}(a:wj k i r)(aE:i=k.length/2):r=k.reverse:=by
 apply YH
 intro W
 by_cases bB:W<k.length
 ·rw[a.2 W bB,List.getElem?_reverse bB]
  split
  ·rfl
  ·congr 1;omega
 ·rw[ZT (by rw[a.1];omega),ZT (by rw[List.length_reverse];omega)]
def wj.step{k r:List (List z)}{i:Nat}{D b:List z}(a:wj k i r)(aE:i<k.length/2)(aC:k[i]? =some D)(aj:k[k.length-1-i]? =some b):r[i]? =some D/\r[k.length-1-i]? =some b/\wj k (i+1) ((r.set i b).set (k.length-1-i) D):=by
 have I:=a.2 i Zo
 have M:=a.2 (k.length-1-i) Zo
 rw[Zg Zo]at I M
 refine⟨I.trans aC,M.trans aj,by rw[Y4,Y4];exact a.1,λW bB=> ?_⟩
 rw[Z8,Z8]
 by_cases bA:k.length-1-i=W
 ·subst bA
  rw[Zp rfl,Zp (by rw[Y4,a.1];exact bB),Zp Zo,show k.length-1-(k.length-1-i)=i by omega,aC]
 ·rw[Zg bA]
  by_cases cg:i=W
  ·subst cg
   rw[Zp rfl,Zp (by rw[a.1];exact bB),Zp Zo,aj]
  ·rw[Zg cg,a.2 W bB]
   by_cases eN:W<i\/k.length-i<=W
   ·rw[Zp eN,Zp Zo]
   ·rw[Zg eN,Zg Zo]
def atv{ax:List Go.aS.Node}(a:ax≠[]):ax.map hN≠[]:=λB=>a (List.map_eq_nil_iff.1 B)
set_option maxRecDepth 100000 in
def aqo(aB:ix X)(eo:Gj X)(gj:uI X)(PI:sg X)(PJ:x0 X)(aa3:(q X).gS 6 []=some .zT){a0 bm:z}{mE s:bc}(aL:(q X).a6<=j)(az:gl a0=some (.Z (mE.length:Int)))(aD:s.length<=5000)(aj:∀c∈s,c<256)
 (nP:xK X h 1 a0 none (some (.Z (min (mE.length:Int) 5000))) none=some bm)(p7:gl bm=some (.Z (s.length:Int)))(wW:∀S aQ,bD X h j S aQ->ym X S bm=some (.str s)):
 a7 X 3 [a0] h j (λaa S aq=>aa= .zT/\bD X h j S aq) zK:=by
 refine zF aB.todR (afP X) ?_
 rw[afQ]
 unfold TZ
 refine eW @az @aro @nP ⟨?_⟩
 refine(R6 (j:=j) aB eo gj aD aj aL p7 wW).Zm ?_
 rintro aa aT bk ⟨rM,cl⟩
 have gP:=cl.le
 cases vr:Ax s with
 |error nd=>
  rw[vr]at rM
  obtain⟨o,D⟩:=nd
  have Qk:=asu aD vr
  have aU:aa= .tuple [.cM, .agg [.Z o, .Z D]]:=rM
  subst aU
  have br:decide (o≠0)=true:=by simp[Qk]
  refine cV ⟨?_⟩
  generalize gt:Go.bp.bn X _ bk _=be
  have cG:∃c,Z X be bk=some (.cells c 2 .own)/\c.get 0=some (.Z o)/\c.get 1=some (.Z D):=⟨_,by rw[<-gt,bv Zo];rfl,by exact Df _ _ _,by exact Dg _ _ _⟩
  have cx:bD X h j be (bk+1):=⟨Zo,λe F=>by rw[<-cl.ad e Zo, <-gt];exact zE⟩
  clear gt
  obtain⟨gM,cG,Kd,VQ⟩:=cG
  refine(R6 (j:=bk+1) aB eo gj aD aj Zo p7 (λS aQ a=>wW S aQ (cx.trans a))).Zm ?_
  rintro aa bU cP ⟨rM,dz⟩
  have je:=dz.le
  rw[vr]at rM
  have aU:aa= .tuple [.cM, .agg [.Z o, .Z D]]:=rM
  subst aU
  rw[<-dz.ad _ Zo]at cG
  refine cV ⟨?_⟩
  generalize jr:Go.bp.bn X _ cP _=bY
  have eV:∃c,Z X bY cP=some (.cells c 2 .own)/\c.get 0=some (.Z o)/\c.get 1=some (.Z D):=⟨_,by rw[<-jr,bv Zo];rfl,by exact Df _ _ _,by exact Dg _ _ _⟩
  have eJ:∀e,e<cP->Z X bY e=Z X bU e:=λe F=>by rw[<-jr];exact zE
  clear jr
  obtain⟨jD,eV,Oh,VR⟩:=eV
  rw[<-eJ _ Zo]at cG
  have eT:d0 X bY 2 (.ptr bk 0)=some (.agg [.Z o, .Z D]):=by rw[qQ,bS cG,bS cG,Kd,VQ];rfl
  have gg:d0 X bY 2 (.ptr cP 0)=some (.agg [.Z o, .Z D]):=by rw[qQ,bS eV,bS eV,Oh,VR];rfl
  refine ln (bS cG) @Kd @br @eT @gg @aj2 ⟨?_⟩
  refine GI aa3 ?_
  refine cV ⟨?_⟩
  exact⟨rfl,Zo,λe F=>by rw[eJ e Zo,dz.ad e Zo];exact cx.ad e F⟩
 |ok ax=>
  rw[vr]at rM
  obtain⟨v,rfl,EP⟩:=rM
  obtain⟨LY,c5,oC⟩:=asv vr
  obtain⟨Lp,lZ⟩:=Mg oC
  obtain⟨ai,b,bf,cD,ba,rfl,LD,us,cW,jf⟩:=id EP
  have br:decide ((0:Int)≠0)=false:=rfl
  refine cV ⟨?_⟩
  generalize gt:Go.bp.bn X _ bk _=be
  have cG:∃c,Z X be bk=some (.cells c 2 .own)/\c.get 0=some (.Z 0)/\c.get 1=some (.Z 0):=⟨_,by rw[<-gt,bv Zo];rfl,by exact Df _ _ _,by exact Dg _ _ _⟩
  have df:∀e,e<bk->Z X be e=Z X aT e:=λe F=>by rw[<-gt];exact zE
  have cx:bD X h j be (bk+1):=⟨Zo,λe F=>by rw[df e Zo,cl.ad e Zo]⟩
  clear gt
  obtain⟨gM,cG,Kd,VQ⟩:=cG
  refine(R6 (j:=bk+1) aB eo gj aD aj Zo p7 (λS aQ a=>wW S aQ (cx.trans a))).Zm ?_
  rintro aa bU cP ⟨rM,dz⟩
  have je:=dz.le
  rw[vr]at rM
  obtain⟨v,rfl,LH⟩:=rM
  obtain⟨al,rfl⟩:∃al,v= .ptr al 0:=by obtain⟨b,_,_,_,a,_⟩:=LH.prog;exact⟨b,a⟩
  rw[<-dz.ad _ Zo]at cG
  refine cV ⟨?_⟩
  generalize jr:Go.bp.bn X _ cP _=bY
  have eV:∃c,Z X bY cP=some (.cells c 2 .own)/\c.get 0=some (.Z 0)/\c.get 1=some (.Z 0):=⟨_,by rw[<-jr,bv Zo];rfl,by exact Df _ _ _,by exact Dg _ _ _⟩
  have eJ:∀e,e<cP->Z X bY e=Z X bU e:=λe F=>by rw[<-jr];exact zE
  clear jr
  obtain⟨jD,eV,Oh,VR⟩:=eV
  rw[<-eJ _ Zo]at cG
  have gk:=EP.ad (S:=bY) (bh:=ec j bk) (λe F=>by have:=F.2;rw[eJ e Zo,dz.ad e Zo,df e F.2]) (λ_ a=>a)
  have oD:=LH.ad (S:=bY) (bh:=ec (bk+1) cP) (λe F=>eJ e F.2) (λ_ a=>a)
  refine ln (bS cG) (bS eV) @Kd @Oh @br @akg ⟨?_⟩
  refine(Ot (j:=cP+1) (P:=ec j bk) aB eo.err PI PJ Zo gk.prog (λe F=>zy F.2) LY c5 oC).Zm ?_
  rintro aa ck dB ⟨rfl,eC⟩
  have qL:=eC.le
  generalize Ld:wv ax=D8
  obtain⟨D8,pi⟩:=D8
  simp only
  refine cV ⟨?_⟩
  generalize lo:Go.bp.bn X (Go.bp.bn X ck dB _) dB _=cC
  have eA:∃c,Z X cC dB=some (.cells c 2 .own)/\c.get 0=some (.Z D8)/\c.get 1=some (.Z pi):=⟨_,by rw[<-lo,bv Zo];rfl,by exact Df _ _ _,by exact Dg _ _ _⟩
  have f5:∀e,e<dB->Z X cC e=Z X ck e:=λe F=>by rw[<-lo];exact zE
  clear lo
  obtain⟨Bb,eA,Oi,aiU⟩:=eA
  have vs:=oD.ad (S:=cC) (bh:=ec (bk+1) cP) (λe F=>by have:=F.2;rw[f5 e Zo,eC.ad e Zo]) (λ_ a=>a)
  refine(ath (j:=dB+1+8) (P:=ec (bk+1) cP) aB.todR Zo vs (λe F=>⟨zy F.1,zy F.2⟩) LY oC).Zm ?_
  rintro aa dS hs ⟨rfl,yP,LG,vn⟩
  have h4:Z X dS dB=some (.cells Bb 2 .own):=by rw[vn dB Zo (λa=>zy a.2)];exact eA
  have aa5:d0 X dS 2 (.ptr dB 0)=some (.agg [.Z D8, .Z pi]):=by rw[qQ,bS h4,bS h4,Oi,aiU];rfl
  apply ajh (P:=λh n=>hs<=n/\∀e,e<hs->Z X h e=Z X dS e)
  ·intro dY
   cases yG:ax.all vG with
   |false=>
    refine u1 ⟨?_⟩
    have rV:hs<=hs/\∀e,e<hs->Z X dS e=Z X dS e:=⟨Zi _,λ_ _=>rfl⟩
    generalize I:dS=dD at rV ⊢
    generalize M:hs=is at rV ⊢
    refine(dY dD is ⟨Zo,λe F=>by rw[I]⟩).out
   |true=>
    have Q7:∀g∈ax.map hE,ml ij g:=λg bX=>by
     obtain⟨il,a2,rfl⟩:=ZK.1 bX
     exact arM (LY il a2) (YG.1 yG il a2)
    refine cr @aa5 ⟨?_⟩
    refine(Ot (j:=hs) (P:=ec (bk+1) cP) aB eo.err PI PJ Zo LG.prog (λe F=>zy F.2) Q7 (λB=>c5 (List.map_eq_nil_iff.1 B)) (by rw[aqP];exact oC)).Zm ?_
    rintro aa dD is ⟨rfl,mZ⟩
    have rJ:=mZ.le
    rw[ai5,Ld]
    have aph:d0 X dD 2 (.ptr dB 0)=some (.agg [.Z D8, .Z pi]):=by rw[IG,mZ.ad dB Zo, <-IG];exact aa5
    refine G9 @arz @aph ⟨?_⟩
    refine iY (by simp[z.same,pv,oY]) ?_
    refine u1 ⟨?_⟩
    exact(dY dD is ⟨rJ,λe F=>mZ.ad e F⟩).out
  rintro dD is ⟨rJ,nK⟩
  have aak:∀e,e<cP+1->¬ec (bk+1) cP e->Z X dD e=Z X bY e:=λe F bJ=>by rw[nK e Zo,vn e Zo bJ,f5 e Zo,eC.ad e Zo]
  have lr:=gk.ad (S:=dD) (bh:=ec j bk) (λe F=>aak e (zy F.2) (λa=>by have:=F.2;have:=a.1;omega)) (λ_ a=>a)
  clear cW jf us LD gk oD vs LG
  obtain⟨ai,dT,bf,cD,ba,rq,LD,us,cW,jf⟩:=lr
  cases rq
  have lv:=jf.wide
  have e3:=cW.rd.len
  rw[lv.1]at e3
  refine dk @us @e3 ⟨?_⟩
  refine f6 (λm H S aQ=>∃(o:Nat),H.g 3=some (.ptr b 0)/\H.g 7=some (.ptr dB 0)/\H.g 65=some (.Z (ax.length:Int))/\H.g 66=some (.Z (o:Int))/\o+m=ax.length/\is<=aQ/\ld X S (λe=>ec j bk e/\ai e=0) ((ax.take o).map hN++ax.drop o) ba/\∀e,¬(ec j bk e/\ai e=0)->Z X S e=Z X dD e)
   ax.length ⟨0,bC,bC,bC,gC,Zo,Zi _,by simpa using jf,λ_ _=>rfl⟩ ?_
  clear jf
  rintro m H sk ace ⟨o,t3,gT,C9,Da,aG,aw5,QA,HV⟩
  have QO:=cW.ad (S:=sk) λe F=>HV e (λa=>by have:=a.2;have:=F.2;omega)
  have acC:aR X sk (.ptr b 0)=some bf:=zJ (HV b (λa=>by have:=a.2;have:=LD.2;omega)) us
  have WW:Z X sk dB=some (.cells Bb 2 .own):=by rw[HV dB (λa=>zy a.1.2),nK dB Zo];exact h4
  cases m with
  |zero=>
   have d:=zz o ax.length
   rw[ZB Zo,ZH Zo,Z4]at QA
   have LC:uL X sk (ec j bk) (ax.map hN) (.ptr b 0):=⟨ai,b,bf,cD,ba,rfl,LD,acC,QO,QA⟩
   have Q7:∀g∈ax.map hN,ml ij g:=λg bX=>by
    obtain⟨il,a2,rfl⟩:=ZK.1 bX
    exact arL (LY il a2)
   refine eQ @Da @C9 @d @t3 @gT (bS WW) @Oi ⟨?_⟩
   refine(Ot (j:=ace+12) (P:=ec j bk) aB eo.err PI PJ Zo LC.prog (λe F=>zy F.2) Q7 (atv c5) (aqO oC)).Zm ?_
   rintro aa oc s2 ⟨rfl,BA⟩
   have anG:=BA.le
   have G8:Z X oc dB=some (.cells Bb 2 .own):=by rw[BA.ad dB Zo];exact WW
   have jH:dc X oc .eql 4 false (.bool (decide ((wv (ax.map hN)).1=0))) (.bool (decide (D8=0)))=some .zT:=by
    rw[aj1,ai4,Ld];simp
   refine eW @jH (bS G8) @Oi ⟨?_⟩
   refine iY (oY _ _) ?_
   refine cV ⟨?_⟩
   refine GI aa3 ?_
   refine cV ⟨?_⟩
   refine⟨rfl,Zo,λe F=> ?_⟩
   rw[BA.ad e Zo,HV e (λa=>zy a.1.1),aak e Zo (λa=>zy a.1),eJ e Zo,dz.ad e Zo]
   exact cx.ad e F
  |succ m=>
   have d:=zA o ax.length
   have bA:=zD o
   obtain⟨g,bX⟩:=zB ax o
   have w2:=Zl bX
   have iF:((ax.take o).map hN).length=o:=by rw[Zr,Ym];omega
   obtain⟨row,bh,EU,fU,kM,sN⟩:=QA.lens o g (by rw[ZF Zo,iF,Y2,Z1];exact bX)
   obtain⟨j9,c1,dn,mG,ev,b0,cy,cT,fi,kF,rfl,oy,p4,p5,mv,yW⟩:=kM
   have d7:=QO.rd.gZ o (Zb.1 EU).1
   have QY:aR X sk (.ptr cD (o*6+5))=some ev:=QO.rd.cell o _ 5 _ EU rfl
   have anD:=yW.wide.1
   have anQ:=(lZ g w2).eqs
   have pr:∀(W:Nat) r,kF[W]? =some r->iI r=true:=λW r U=>by
    obtain⟨ie,yV⟩:∃ie,g.eqs[W]? =some ie:=⟨_,Zf (by rw[<-anD];exact(Zb.1 U).1)⟩
    obtain⟨mD,c7,kN,_,EW,_⟩:=yW.lens W ie yV
    rw[U]at kN;cases kN
    obtain⟨_,_,_,_,_,_,_,_,_,_,a⟩:=EW
    exact a
   refine eQ @Da @C9 @d @t3 @acC @d7 @QY ⟨?_⟩
   refine f6 (λm H S aQ=>∃(i:Nat) (xD:List (List z)),H.g 3=some (.ptr b 0)/\H.g 7=some (.ptr dB 0)/\H.g 65=some (.Z (ax.length:Int))/\H.g 66=some (.Z (o:Int))/\H.g 9=some ev/\H.g 10=some (.Z (i:Int))/\i+m=kF.length/2/\ace<=aQ/\wj kF i xD/\gL X S (λe=>bh e/\j9 e=4) fi ev 4 xD/\∀e,¬(bh e/\j9 e=4)->Z X S e=Z X sk e)
    (kF.length/2) ⟨0,kF,aY t3,aY gT,aY C9,aY Da,bC,gC,Zo,Zi _,wj.zero _,mv,λ_ _=>rfl⟩ ?_
   clear t3 gT C9 Da
   rintro eH H oc s2 ⟨i,xD,t3,gT,C9,Da,t9,k6,aE,aw6,Q1,xc,BO⟩
   have Qm:=xc.rd.len
   rw[Q1.1]at Qm
   have δ:=apA (D:=kF.length) Zo
   cases eH with
   |zero=>
    have d:=zz i (kF.length/2:Nat)
    have na:=Q1.done Zo
    subst na
    have fN:qx X oc bh (hN g) [.str g.name, .Z g.at_,c1,dn,mG,ev]:=⟨j9,c1,dn,mG,ev,b0,cy,cT,fi,kF.reverse,rfl,oy.ad λe F=>BO e (λa=>by have:=a.2;have:=F.2;omega),p4.ad λe F=>BO e (λa=>by have:=a.2;have:=F.2;omega),p5.ad λe F=>BO e (λa=>by have:=a.2;have:=F.2;omega),xc,yW.rev.ad (λe F=>BO e (λa=>by have:=a.2;have:=F.2;omega)) (λ_ a=>a)⟩
    have aas:=sN oc (hN g) (λe F aL=>BO e (λa=>aL a.1)) fN
    rw[Fp bX]at aas
    refine eQ @k6 @t9 @Qm @δ @d @Da @bA ⟨?_⟩
    exact⟨m,Zo,o+1,aY t3,aY gT,aY C9,bC,Zo,Zo,aas,λe F=>by rw[BO e (λa=>F (fU e a.1))];exact HV e F⟩
   |succ eH=>
    have d:=zA i (kF.length/2:Nat)
    have cg:=zD i
    have kh:bg .sub (.Z (kF.length:Int)) (.Z 1)=some (.Z ((kF.length-1:Nat):Int)):=by rw[vx Zo Zo,show((kF.length:Int) -1)=((kF.length-1:Nat):Int) by omega]
    have oF:bg .sub (.Z ((kF.length-1:Nat):Int)) (.Z (i:Int))=some (.Z ((kF.length-1-i:Nat):Int)):=by rw[vx Zo Zo,show(((kF.length-1:Nat):Int) -(i:Int))=((kF.length-1-i:Nat):Int) by omega]
    obtain⟨MO,aaJ⟩:∃r,kF[i]? =some r:=⟨_,Zf Zo⟩
    obtain⟨xA,LN⟩:∃r,kF[kF.length-1-i]? =some r:=⟨_,Zf Zo⟩
    obtain⟨I,M,ao2⟩:=Q1.step Zo aaJ LN
    have ape:=xc.rd.wide MO (Zl I)
    have apf:=xc.rd.wide xA (Zl M)
    have Ra:=xc.rd.gZ i (Zb.1 I).1
    have apq:=xc.rd.gZ (kF.length-1-i) (Zb.1 M).1
    have w7:=xc.rd.row Zd I
    have w8:=xc.rd.row Zd M
    obtain⟨av0,uh,aow,anx⟩:=ac8 xc Zd I apf (pr _ _ LN)
    have ak:(xD.set i xA)[kF.length-1-i]? =some xA:=by rw[Z8,Zg Zo];exact M
    obtain⟨x8,qO,aox,anz⟩:=ac8 aow Zd ak ape (pr _ _ aaJ)
    refine eQ @k6 @t9 @Qm @δ @d @kh (Za @oF (Za @Ra (Za @apq (Za @w7 (Za @w8 @uh))))) ⟨?_⟩
    refine iY (oY _ _) ?_
    refine eW @qO @k6 @cg ⟨?_⟩
    exact⟨eH,Zo,i+1,_,aY t3,aY gT,aY C9,aY Da,aY t9,bC,Zo,Zo,ao2,aox,λe F=>by rw[anz e F,anx e F];exact BO e F⟩
end
end
end Go.Proofs.YtbbkkkpgjaopkaaGreatDoor

namespace Go.bp
noncomputable section
open Go.RowKit (Below)
def Tr(k:List z):Prop:=∀v∈k,(∀J hY,aJ J v=aJ hY v)/\∀Y,b2 Y v
def DA(w:World)(v:Value)(aO:Nat)(k:List z):Prop:=
 (v= .slice none 0 0/\k=[])\/∃cz off len cap b7 ty fr,v= .slice (some ⟨cz,off,none⟩) len cap/\len<=cap/\k.length=len*aO/\Tr k/\
  (0<k.length->w.heap[cz]? =some (.cells b7 ty fr)/\off+k.length<=b7.size/\∀i x,k[i]? =some x->b7[off+i]? =some (aJ (λ_=>default) x))
def aeo(C:aM)(D:z)(b aO:Nat)(k:List z):Prop:=
 (D= .aV/\k=[])\/∃len cap,D= .slice b 0 len cap/\len<=cap/\k.length=len*aO/\(0<k.length->Z C .nil b=some (.cells (R.ofList k 0 .nil) k.length .jA))
def vJ(k:List z)(G:R ag)(b:Nat):R ag:=if 0<k.length then G.set b (some (.cells (R.ofList k 0 .nil) k.length .jA))else G
def DA.pl{w:World}{v:Value}{aO:Nat}{k:List z}(a:DA w v aO k)(b:Nat):∃(D:z) (pl:lU),(∀J:cQ,J b=pl->aJ J D=v)/\(∀Y:Nat->Prop,Y b->b2 Y D)/\
 ((D= .aV/\k=[])\/∃len cap,D= .slice b 0 len cap/\len<=cap/\k.length=len*aO)/\(0<k.length->∀C J Y,jC C J Y (.cells (R.ofList k 0 .nil) k.length .jA) pl w):=by
 rcases a with ⟨rfl,rfl⟩|⟨cz,off,len,cap,b7,ty,fr,rfl,I,M,ak,aA⟩
 ·exact⟨.aV,default,λ_ _=>rfl,λ_ _=>trivial, .inl ⟨rfl,rfl⟩,λa=>by simp at a⟩
 ·refine⟨.slice b 0 len cap,⟨cz,off,k.length⟩,λJ dt=>by simp[aJ,dt],λY d=>d, .inr ⟨len,cap,rfl,I,M⟩,λa C J Y=> ?_⟩
  obtain⟨bM,cq,df⟩:=aA a
  obtain⟨bL,aE⟩:=fr
  refine⟨b7,ty,bL,aE,bM,⟨trivial,Zi _,cq⟩,cq,λi x af=> ?_⟩
  rw[lO]at af
  have aX:=ak x (Zl af)
  exact⟨by rw[aX.1 J (λ_=>default)];exact df i x af,aX.2 Y⟩
section
variable{P:Program}{w:World}
def aqn{nm:List (String×Nat)}(jv:x3 P nm){laid:List (String×DataW Unit)}{gS:Nat->List z->Option z}(a:laidMet P laid w){a6:Nat}{os:List (Nat×ag)}(az:gF P nm laid P.globals.size=(a6,os)){v0:Value}{mE:Nat}{fw:List z}(a2:DA w v0 mE fw):
 ∃J Y a0,c9 ⟨P,vJ fw (mH os .nil) a6,a6+1,gS,P.globals.size⟩ J Y .nil (a6+1) w.heap.size w/\re ⟨P,vJ fw (mH os .nil) a6,a6+1,gS,P.globals.size⟩ J Y/\d2 Y [a0]/\bP J [a0]=[v0]/\
  aeo ⟨P,vJ fw (mH os .nil) a6,a6+1,gS,P.globals.size⟩ a0 a6 mE fw:=by
 obtain⟨a0,us,dV,il,t0,j3⟩:=a2.pl a6
 obtain⟨db,gj,_,k1⟩:=a
 have ce:rb w db:=λb off aj=>(k1 b off aj).1
 obtain⟨bm,ct,f,a3⟩:=abM (C:=⟨P,vJ fw (mH os .nil) a6,a6+1,gS,P.globals.size⟩) jv laid P.globals.size db rfl gj ce (λb off aj=>(k1 b off aj).2)
 rw[az]at bm ct a3
 simp only at bm ct a3
 have eo:∀b V,Z ⟨P,vJ fw (mH os .nil) a6,a6+1,gS,P.globals.size⟩ .nil b=some V->((b,V)∈os/\b<a6)\/(b=a6/\0<fw.length/\V= .cells (R.ofList fw 0 .nil) fw.length .jA):=by
  intro b V bb
  unfold Z at bb
  rw[eU]at bb
  split at bb
  ·rename_i aj
   have aj:=kX aj
   unfold vJ at bb
   split at bb
   ·rename_i av
    rw[R.jF]at bb
    split at bb
    ·rename_i B;cases bb;exact .inr ⟨B.symm▸rfl,av,rfl⟩
    ·rcases SA b V os .nil bb with al|al
     ·exact .inl ⟨al,by have cB:b<P.globals.size\/b<a6:=(ct (b,V) al).2.1;have:P.globals.size<=a6:=bm;omega⟩
     ·simp at al
   ·rcases SA b V os .nil bb with al|al
    ·exact .inl ⟨al,by have cB:b<P.globals.size\/b<a6:=(ct (b,V) al).2.1;have:P.globals.size<=a6:=bm;omega⟩
    ·simp at al
  ·simp at bb
 refine⟨λb=>if b<P.globals.size then⟨b,0,0⟩else if b=a6 then us else f b,λb=>b<a6+1,a0,⟨Zi _,λ_ a=>a,λb V bb=> ?_, ?_, ?_, ?_, ?_⟩, ?_, ?_, ?_, ?_⟩
 ·rcases eo b V bb with a|a
  ·omega
  ·omega
 ·intro b V bb _
  rcases eo b V bb with a|⟨rfl,av,rfl⟩
  ·exact a3 (λb=>if b<P.globals.size then⟨b,0,0⟩else if b=a6 then us else f b) (λb=>b<a6+1) (λb I M=>⟨by rw[Zg Zo,Zg Zo],Zo⟩) (λg bX=>⟨by rw[Zp bX],by have:P.globals.size<=a6:=bm;omega⟩) (b,V) a.1
  ·show jC _ _ _ _ (if b<P.globals.size then(⟨b,0,0⟩:lU)else if b=b then us else f b) w
   rw[Zg (by have:P.globals.size<=b:=bm;omega),Zp rfl]
   exact j3 av _ _ _
 ·intro b dT V o' _ _ d _ _ aj
  exact absurd d (zt.2 aj)
 ·intro b V aj _ d
  exact absurd d (zt.2 aj)
 ·intro b V bb _
  rcases eo b V bb with a|⟨rfl,av,rfl⟩
  ·exact(ct (b,V) a.1).2.2 _ _
  ·refine⟨λc n k az=>(by cases az),λc n st ay i v bt=> ?_⟩
   cases ay
   rw[lO]at bt
   exact(Zb.1 bt).1
 ·intro g bX
  have bX:g<P.globals.size:=bX
  exact⟨Zo,by simp[bX],by simp[bX]⟩
 ·exact⟨il _ Zo,trivial⟩
 ·simp only[bP]
  rw[dV _ (by rw[Zg Zo,Zp rfl])]
 ·rcases t0 with a|⟨len,cap,cH,cB,dN⟩
  ·exact .inl a
  ·refine .inr ⟨len,cap,cH,cB,dN,λa=> ?_⟩
   unfold Z vJ
   have:Nat.blt a6 (a6+1)=true:=by simp[Nat.blt]
   rw[this,fj,Zp a,R.jF,Zp rfl]
end
end
end Go.bp

