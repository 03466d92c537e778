/- Part of the proof of the last text; no conditions -/
import Derived.Test.YtpeabpmnlmaabaaGreatDoorYl
set_option maxHeartbeats 8000000
set_option linter.all false
namespace Go.Proofs.YtpeabpmnlmaabaaGreatDoor
open Go.bd Go.aT
noncomputable section
def aAo:∀w<65,Dk ((w:Nat):Int)=((2^w-1:Nat):Int):=by decide+kernel
def apD{n w:Nat}(bs:w<=64)(aE:n<18446744073709551616)(a:Ke (n:Int) (Dk (w:Int))=0):n<2^w:=by
 rw[aAo w Zo]at a
 unfold Ke at a
 have cZ:=(BitVec.ofInt 64 (n:Int)&&& ~~~ BitVec.ofInt 64 ((2^w-1:Nat):Int)).isLt
 rw[akm Zo Zo]at a
 have aX:BitVec.ofInt 64 (n:Int)&&& ~~~ BitVec.ofInt 64 ((2^w-1:Nat):Int)=0#64:=BitVec.eq_of_toNat_eq (by rw[BitVec.toNat_ofNat];omega)
 rw[BitVec.ofInt_natCast,BitVec.ofInt_natCast]at aX
 apply Nat.lt_pow_two_of_testBit
 intro i aG
 by_cases HU:i<64
 ·have ag:=congrArg (λv=>v.getLsbD i) aX
  simp only[BitVec.getLsbD_and,BitVec.getLsbD_not,BitVec.getLsbD_ofNat,HU,YE,zi,Nat.testBit_two_pow_sub_one,BitVec.getLsbD_zero]at ag
  have:decide (i<w)=false:=by simp;omega
  rw[this]at ag
  simpa using ag
 ·exact Nat.testBit_lt_two_pow (ZN aE (by
   have:(18446744073709551616:Nat)=2^64:=by decide
   rw[this]
   exact Nat.pow_le_pow_right Zd Zo))
def ay1{t:eu}{n:Int}(a:R2 t n):n<2^(if t.s then t.w-1 else t.w).toNat:=by
 obtain⟨M,R,ak,aA⟩:=a
 obtain⟨m,rfl⟩:=Ye ak
 have bs:=Qt M
 have key:∀w:Nat,w<=64->Ke (m:Int) (Dk (w:Int))=0->(m:Int)<2^w:=λw bs a=>by
  have:=apD bs Zo a
  have R:((2^w:Nat):Int)=(2:Int)^w:=by simp
  rw[<-R];omega
 unfold wz at R
 cases aD:t.s with
 |true=>
  rw[Zr aD]at R
  rw[Zr rfl]
  by_cases aX:t.w-1=0
  ·rw[Zr aX]at R
   have:(m:Int)=0:=by simpa using R
   rw[aX,this];decide
  ·rw[Zh aX]at R
   obtain⟨w,AS⟩:=Ye (by omega:0<=t.w-1)
   rw[AS]at R ⊢
   simp only[Fw,Zp,Zg]at R
   exact key w Zo R.2
 |false=>
  rw[Zh (by simp[aD])]at R
  rw[Zh Zs]
  obtain⟨w,AS⟩:=Ye (by omega:0<=t.w)
  simp only[Fw,Zp,Zg]at R
  rw[AS]at R ⊢
  exact key w Zo R.2
section
variable{X:cl}{h S' fi aI aM:Q af}{j an aO aZ:Nat}{s:aY}
def ajt{n b:Int}(aX:0<=n)(ag:0<=b)(l4:b<=64)(a:n<2^b.toNat):bn .shr (.int .u64 n) (.Z b)=some (.int .u64 0):=by
 have bz:AT b 0=false:=by rw[u9];simp;omega
 have cF:min b.toNat IntKind.u64.bits=b.toNat:=by
  have:IntKind.u64.bits=64:=rfl
  rw[this];omega
 have f0:n.fdiv (2^b.toNat)=0:=by
  rw[Int.fdiv_eq_ediv_of_nonneg _ (by exact Int.le_of_lt (Int.lt_of_le_of_lt aX a))]
  exact Int.ediv_eq_zero_of_lt aX a
 simp only[bn,mB,fo,Kb,bz,lD,cF,f0]
 rfl
def ay2(au:iY X){P:Nat->Prop}{E:bD}{v:D}(aE:(o X).a2<=j)(bC:cE X h P E v)(bq:∀e,P e->e<j)(aJ:E.kind=1)(aC:R2 E.ty E.n):
 aU X 137 [v] h j (λac S' an=>ac= .zT/\ba X h j S' an) (λ_ _ _=>False):=by
 refine zz au.todj (al0 X) ?_
 rw[al1]
 unfold aas
 obtain⟨b,aS,cO,br,rfl,ag,a0,bb,b5,a3,a4,a5,hR,io,ip,cB,has⟩:=id bC.open
 have fP:=bq b ag
 have O5:=ay1 aC
 have bs:=Qt aC.1
 have Aa:decide (E.kind=1)=true:=by simp[aJ]
 have AM:eD E.ty=[.bool E.ty.b, .bool E.ty.s, .Z E.ty.w]:=rfl
 have AD:cG X h 3 (.ptr b 4)=some (.agg (eD E.ty)):=by rw[wL,a4,a5,hR];rfl
 cases aD:E.ty.s with
 |true=>
  rw[aD]at a5
  rw[Zr aD]at O5
  have bz:bn .sub (.Z E.ty.w) (.Z 1)=some (.Z (E.ty.w-1)):=wD Zo Zo
  have Ks:decide (E.ty.w-1=64)=false:=by simp only[Zb];omega
  have my:=ajt aC.2.2.1 Zo Zo O5
  refine hu @a5 @hR @bz @a0 @Aa @AD ⟨?_⟩
  refine(FQ (j:=j) (h:=h) au.todj E.ty aE).Zm ?_
  rintro ac aI aO ⟨rfl,bH⟩
  have Sj:aP X aI (.ptr b 7)=some (.int .u64 E.n):=by rw[bH.eV _ _ fP];exact io
  have bp:lo E.ty=true:=aC.1
  rw[bp]
  refine dI @Ks @Sj @my ⟨?_⟩
  exact⟨rfl,bH⟩
 |false=>
  rw[aD]at a5
  rw[Zh (by simp[aD])]at O5
  refine fO @a5 @hR @a0 @Aa @AD ⟨?_⟩
  refine(FQ (j:=j) (h:=h) au.todj E.ty aE).Zm ?_
  rintro ac aI aO ⟨rfl,bH⟩
  have Sj:aP X aI (.ptr b 7)=some (.int .u64 E.n):=by rw[bH.eV _ _ fP];exact io
  have bp:lo E.ty=true:=aC.1
  rw[bp]
  by_cases HU:E.ty.w=64
  ·have Ks:decide (E.ty.w=64)=true:=by simp[HU]
   refine cd @Ks ⟨?_⟩
   exact⟨rfl,bH⟩
  ·have Ks:decide (E.ty.w=64)=false:=by simp[HU]
   have my:=ajt aC.2.2.1 Zo Zo O5
   refine dI @Ks @Sj @my ⟨?_⟩
   exact⟨rfl,bH⟩
def azQ(b:Nat):c5 X h .eql 54 false .cJ (.ptr b 0)=some .zF:=Zk
def apJ(au:iY X){P:Nat->Prop}{b:Nat}{aS:D}{cb:List bD}{br:List D}(Y:dL X h P b aS 1 (br.map λv=>[v]))(Ie:dD X h P cb br):
 aU X 136 [aS, .cJ] h j (λac S' an=>ac= .zF/\S'=h/\j<=an) (λ_ _ _=>False):=by
 refine zz au.todj (alY X) ?_
 rw[alZ]
 unfold aar
 refine aU.mono (ah:=λac S' an=>ac= .Z (-1)/\S'=h/\j<=an) (av:=λ_ _ _=>False) ?_ ?_ (λ_ _ _ a=>a.elim)
 ·refine zz au.todj (amc X) ?_
  rw[amd]
  unfold aay
  have d0:=Y.len
  have hU:=Y.many
  rw[Zi]at d0 hU
  refine cd @d0 ⟨?_⟩
  refine fh (λm I S' aN=>∃(S:Nat),I.g 0=some aS/\I.g 1=some .cJ/\I.g 7=some (.Z (br.length:Int))/\I.g 8=some (.Z (S:Int))/\S+m=br.length/\S'=h/\j<=aN)
   br.length ⟨0,a8,a8,a8,fq,Zo,rfl,Zo⟩ ?_
  rintro m I aM aZ ⟨S,t0,t1,gc,t8,bE,rfl,lL⟩
  cases m with
  |zero=>
   have d:=zt S br.length
   refine dI @t8 @gc @d ⟨?_⟩
   exact⟨rfl,rfl,lL⟩
  |succ m=>
   have d:=zu S br.length
   have bz:=zx S
   obtain⟨v,bB⟩:=zv br S
   have Lo:=Ie.len
   obtain⟨E,bC⟩:=zv cb S
   obtain⟨hr,AQ,AB⟩:=Ie.get S E bC
   rw[bB]at AQ
   cases AQ
   obtain⟨Hm,rfl,_,_⟩:=AB.ptr
   obtain⟨bI,bN,cH⟩:=Y.one bB
   refine d9 @t8 @gc @t1 @t0 @d @bI (Za @bN (Za @azQ @bz)) ⟨?_⟩
   exact⟨m,Zo,S+1,aL t0,aL t1,aL gc,a8,Zo,rfl,lL⟩
 ·rintro ac aI aO ⟨rfl,rfl,bU⟩
  refine cx ⟨?_⟩
  exact⟨rfl,rfl,bU⟩
end
def vl(z:Int):Option (Int×Bool×Bool×Bool):=
 if z=1 then some (0,false,true,true)else if z=2 then some (0,true,false,false)else if z=3\/z=4\/z=5 then some (1,false,false,false)else if z=6 then some (1,true,false,false)
 else if z=19\/z=20 then some (1,false,false,true)else if z=23 then some (3,false,false,false)else if z=24 then some (2,true,false,false)else if z=25 then some (-1,true,false,false)
 else if z=26 then some (1,false,true,false)else none
def q0(s:Int×Bool×Bool×Bool):List D:=[.Z s.1, .bool s.2.1, .bool s.2.2.1, .bool s.2.2.2]
structure xi(X:cl):Prop where
 at_:∀h,∃v,aP X h (.ptr 7 0)=some v/\∀z:Int,nU X h 3 (.agg [.Z 0, .zF, .zF, .zF]) v (.Z z) true=some (.tuple [.agg (q0 ((vl z).getD (0,false,false,false))), .bool (vl z).isSome])
structure aoZ(E:bD)(s:Int×Bool×Bool×Bool):Prop where
 tq:0<=s.1->(E.args.length:Int)=s.1
 ais:s.2.1=true->G2 E.name
 QB:s.2.1=false->E.name=[]
 aDE:s.2.2.1=true->lo E.ty=true
 dU:s.2.2.1=false->E.ty=dU
 a2:s.2.2.2=false->E.n=0
def aCn{E:bD}(a:DW jl E):aoZ E ((vl E.kind).getD (2,false,false,false)):=by
 have M:=a.bQ
 have R:=a.ct
 have oq:=a.tq
 have jb:=a.nm
 have E5:=a.QB
 have AO:=a.ty
 have AP:=a.dU
 have he:=a.a2
 unfold tr at oq
 unfold uY at jb E5
 unfold uZ at AO AP
 generalize E.kind=z at*
 unfold vl
 have aJ:z=1\/z=2\/(z=3\/z=4\/z=5)\/z=6\/(z=19\/z=20)\/z=23\/z=24\/z=25\/z=26\/(7<=z/\z<=18\/z=21\/z=22):=Zo
 rcases aJ with aJ|aJ|aJ|aJ|aJ|aJ|aJ|aJ|aJ|aJ
 ·subst aJ
  exact⟨λ_=>by have:=oq 0 Zs;simp[this],λa=>by simp at a,λ_=>E5 Zo,λ_=>AO Zo,λa=>by simp at a,λa=>by simp at a⟩
 ·subst aJ
  exact⟨λ_=>by have:=oq 0 Zs;simp[this],λ_=>jb Zo,λa=>by simp at a,λa=>by simp at a,λ_=>AP Zo,λ_=>he Zo Zo Zo⟩
 ·rw[Zh Zo,Zh Zo,Zr aJ]
  rw[Zh Zo,Zh Zo,Zr Zo]at oq
  exact⟨λ_=>by have:=oq 1 rfl;simp[this],λa=>by simp at a,λ_=>E5 Zo,λa=>by simp at a,λ_=>AP Zo,λ_=>he Zo Zo Zo⟩
 ·subst aJ
  exact⟨λ_=>by have:=oq 1 Zs;simp[this],λ_=>jb Zo,λa=>by simp at a,λa=>by simp at a,λ_=>AP Zo,λ_=>he Zo Zo Zo⟩
 ·rw[Zh Zo,Zh Zo,Zh Zo,Zh Zo,Zr aJ]
  rw[Zh Zo,Zh Zo,Zr Zo]at oq
  exact⟨λ_=>by have:=oq 1 rfl;simp[this],λa=>by simp at a,λ_=>E5 Zo,λa=>by simp at a,λ_=>AP Zo,λa=>by simp at a⟩
 ·subst aJ
  exact⟨λ_=>by have:=oq 3 Zs;simp[this],λa=>by simp at a,λ_=>E5 Zo,λa=>by simp at a,λ_=>AP Zo,λ_=>he Zo Zo Zo⟩
 ·subst aJ
  exact⟨λ_=>by have:=oq 2 Zs;simp[this],λ_=>jb Zo,λa=>by simp at a,λa=>by simp at a,λ_=>AP Zo,λ_=>he Zo Zo Zo⟩
 ·subst aJ
  exact⟨λa=>by simp at a,λ_=>jb Zo,λa=>by simp at a,λa=>by simp at a,λ_=>AP Zo,λ_=>he Zo Zo Zo⟩
 ·subst aJ
  exact⟨λ_=>by have:=oq 1 Zs;simp[this],λa=>by simp at a,λ_=>E5 Zo,λ_=>AO Zo,λa=>by simp at a,λ_=>he Zo Zo Zo⟩
 ·rw[Zh Zo,Zh Zo,Zh Zo,Zh Zo,Zh Zo,Zh Zo,Zh Zo,Zh Zo,Zh Zo]
  rw[Zh Zo,Zh Zo,Zh Zo,Zh Zo]at oq
  exact⟨λ_=>by have:=oq 2 rfl;simp[this],λa=>by simp at a,λ_=>E5 Zo,λa=>by simp at a,λ_=>AP Zo,λ_=>he Zo Zo Zo⟩
section
variable{X:cl}{h S' fi aI aM:Q af}{j an aO aZ:Nat}{s:aY}
structure akJ(G:Prop):Prop where
 out:G
def N3{G ti:Prop}(iy:akJ G->ti)(aC9:G):ti:=iy ⟨aC9⟩
def aqd:c5 X h .neq 4 false .zF .zF=some .zF:=Zk
def aqe:c5 X h .neq 4 false .zT .zT=some .zF:=Zk
def aDF:c5 X h .neq 44 false (.agg [.zF, .zF, .Z 0]) (.agg [.zF, .zF, .Z 0])=some .zF:=Zk
def aA1(b:Nat):c5 X h .neq 54 true (.ptr b 0) .cJ=some .zT:=Zk
set_option maxRecDepth 100000 in
def azg(au:iY X)(bU:mf X)(d6:sc X)(iN:xi X){P:Nat->Prop}{E:bD}{v:D}(aE:(o X).a2<=j)(bC:cE X h P E v)(bq:∀e,P e->e<j)(bs:e5 jl E):
 aU X 125 [v] h j (λac S' an=>ac= .zT/\ba X h j S' an) (λ_ _ _=>False):=by
 refine zz au.todj (alE X) ?_
 rw[alF]
 unfold aah
 rw[e5.eq]at bs
 obtain⟨bs,t7⟩:=bs
 have my:=aCn bs
 obtain⟨b,aS,cO,br,rfl,ag,a0,bb,b5,a3,a4,a5,hR,io,ip,cB,has⟩:=id bC.open
 have fP:=bq b ag
 obtain⟨fD,Pg,Ph⟩:=iN.at_ h
 have kF:=Ph E.kind
 generalize IC:(vl E.kind).getD (2,false,false,false)=s at my
 have awG:∀aj:Int×Bool×Bool×Bool,q0 aj=[.Z aj.1, .bool aj.2.1, .bool aj.2.2.1, .bool aj.2.2.2]:=λ_=>rfl
 rw[awG]at kF
 refine gh @Pg @a0 @kF ⟨?_⟩
 refine iR (λc4 S' aN=>c4.g 0=some (.ptr b 0)/\c4.g 3=some (.ptr (j+9) 0)/\ba X h j S' aN/\j+9<aN/\U X S' (j+9)=zw (q0 s) 4) (λS bE=> ?_) ?_
 ·cases b0:vl E.kind with
  |some aj=>
   rw[b0]at IC
   simp only[YQ]at IC
   subst IC
   simp only[YQ,Z7]
   refine cx ⟨?_⟩
   exact bE _ _ _ ⟨a8,a8,dz,Zo,by rw[a7 Zo];rfl⟩
  |none=>
   rw[b0]at IC
   simp only[Option.getD_none]at IC
   subst IC
   simp only[Option.getD_none,Z2]
   refine cx ⟨?_⟩
   exact bE _ _ _ ⟨a8,a8,dz,Zo,by rw[a7 Zo];rfl⟩
 rintro I aI aO ⟨t0,t3,bH,tU,bI⟩
 have rd:∀S',Go.bd.U X S' (j+9)=zw (q0 s) 4->aP X S' (.ptr (j+9) 0)=some (.Z s.1)/\aP X S' (.ptr (j+9) 1)=some (.bool s.2.1)/\aP X S' (.ptr (j+9) 2)=some (.bool s.2.2.1)/\aP X S' (.ptr (j+9) 3)=some (.bool s.2.2.2):=λS' a=>
  ⟨by rw[bc a];rfl,by rw[bc a];rfl,by rw[bc a];rfl,by rw[bc a];rfl⟩
 have lK:=bs.bQ
 have iu:=bs.ct
 have cT:decide (E.kind<1)=false:=by simp only[Zb];omega
 have cy:decide ((26:Int)<E.kind)=false:=by simp only[Zb];omega
 obtain⟨jZ,fd,fX,hZ⟩:=rd aI bI
 have J6:aP X aI (.ptr b 0)=some (.Z E.kind):=by rw[bH.eV _ _ fP];exact a0
 have J8:aP X aI (.ptr b 8)=some aS:=by rw[bH.eV _ _ fP];exact ip
 have d0:=cB.len
 have Lo:=has.len
 rw[Zi,Lo]at d0
 have l9:∀e,P e->U X aI e=U X h e:=λe B=>bH.aa e (bq e B)
 have jJ:=bH.le
 apply N3
 ·intro axX
  by_cases oq:0<=s.1
  all_goals
   first
   |(
     have e1:decide ((0:Int)<=s.1)=true:=by simp[oq]
     have i6:decide ((E.args.length:Int)≠s.1)=false:=by simp[my.tq oq]
     refine gh @t0 @t3 (Za @J6 (Za @cT (Za @cy (Za @jZ (Za @e1 (Za @J8 (Za @d0 (Za @jZ @i6)))))))) ⟨?_⟩)
   |(
     have e1:decide ((0:Int)<=s.1)=false:=by simp[oq]
     refine gh @t0 @t3 (Za @J6 (Za @cT (Za @cy (Za @jZ (Za @e1 @J8))))) ⟨?_⟩)
   refine(apJ (j:=aO+34) (h:=aI) au (cB.aa l9) (dD.aa l9 _ _ has)).Zm ?_
   rintro ac aM aZ ⟨rfl,rfl,fJ⟩
   refine pN ⟨?_⟩
   refine iR (λc4 S' aN=>c4.g 0=some (.ptr b 0)/\c4.g 3=some (.ptr (j+9) 0)/\ba X h j S' aN/\j+9<aN/\U X S' (j+9)=zw (q0 s) 4) (λS bE=> ?_) ?_
   ·refine cx ⟨?_⟩
    exact bE _ _ _ ⟨aL t0,aL t3,bH.more Zo,Zo,bI⟩
   exact axX.out
 clear t0 t3 bH bI jZ fd fX hZ J6 J8 l9 jJ
 rintro I a1 bi ⟨t0,t3,ck,wx,cH⟩
 obtain⟨jZ,fd,fX,hZ⟩:=rd a1 cH
 have iO:=ck.le
 have Hd:aP X a1 (.ptr b 2)=some (.str E.name):=by rw[ck.eV _ _ fP];exact b5
 have avR:s.2.1=true->decide (E.name≠[])=true:=λa=>by simp[(my.ais a).ne]
 have avQ:s.2.1=false->decide (E.name≠[])=false:=λa=>by simp[my.QB a]
 have lk:(E.no=true/\decide (E.kind≠6)=false)\/(E.no=false/\decide ((0:Int)≠0)=false):=by
  cases b0:E.no with
  |true=>exact .inl ⟨rfl,by simp[bs.no b0]⟩
  |false=>exact .inr ⟨rfl,rfl⟩
 apply N3
 ·intro axU
  rcases Bool.eq_false_or_eq_true s.2.1 with ll|ll
  all_goals
   first
   |(
     have BZ:=avR ll
     rw[ll]at fd
     refine gh @t0 @t3 (Za @fd (Za @Hd (Za @BZ @aqe))) ⟨?_⟩
     refine(Mv (j:=bi+33) (h:=a1) au bU d6 (my.ais ll) Zo).Zm ?_
     rintro ac bA cK ⟨rfl,c0⟩
     have iF:=c0.le
     have tF:ba X h j bA cK:=ck.trans (c0.j9 Zo)
     have Vm:j+9<cK:=Zo
     have ff:U X bA (j+9)=zw (q0 s) 4:=by rw[c0.aa _ Zo];exact cH
     have Si:aP X bA (.ptr b 3)=some (.bool E.no):=by rw[tF.eV _ _ fP];exact a3
     have xq:aP X bA (.ptr b 0)=some (.Z E.kind):=by rw[tF.eV _ _ fP];exact a0)
   |(
     have BZ:=avQ ll
     rw[ll]at fd
     refine gh @t0 @t3 (Za @fd (Za @Hd (Za @BZ @aqd))) ⟨?_⟩
     have tF:ba X h j a1 (bi+33):=ck.more Zo
     have Vm:j+9<bi+33:=Zo
     have ff:U X a1 (j+9)=zw (q0 s) 4:=cH
     have Si:aP X a1 (.ptr b 3)=some (.bool E.no):=by rw[tF.eV _ _ fP];exact a3
     have xq:aP X a1 (.ptr b 0)=some (.Z E.kind):=by rw[tF.eV _ _ fP];exact a0)
   rcases lk with ⟨age,Aa⟩|⟨age,Aa⟩
   all_goals
    rw[age]at Si
    refine gh @t0 @t3 (Za @Si (Za @xq @Aa)) ⟨?_⟩
    refine iR (λc4 S' aN=>c4.g 0=some (.ptr b 0)/\c4.g 3=some (.ptr (j+9) 0)/\ba X h j S' aN/\j+9<aN/\U X S' (j+9)=zw (q0 s) 4) (λS bE=> ?_) ?_
    ·refine cx ⟨?_⟩
     exact bE _ _ _ ⟨aL t0,aL t3,tF.more Zo,Zo,ff⟩
    exact axU.out
 clear t0 t3 ck cH jZ fd fX hZ Hd iO
 rintro I bM bX ⟨t0,t3,dC,aga,fT⟩
 obtain⟨jZ,fd,fX,hZ⟩:=rd bM fT
 have ik:=dC.le
 have AM:eD E.ty=[.bool E.ty.b, .bool E.ty.s, .Z E.ty.w]:=rfl
 have AD:cG X bM 3 (.ptr b 4)=some (.agg (eD E.ty)):=by rw[wL,dC.eV _ _ fP,dC.eV _ _ fP,dC.eV _ _ fP,a4,a5,hR];rfl
 apply N3
 ·intro axW
  rcases Bool.eq_false_or_eq_true s.2.2.1 with ll|ll
  all_goals
   first
   |(
     have bp:=my.aDE ll
     rw[ll]at fX
     refine gh @t0 @t3 (Za @fX @AD) ⟨?_⟩
     refine(FQ (j:=bX) (h:=bM) au.todj E.ty Zo).Zm ?_
     rintro ac bZ dy ⟨rfl,el⟩
     rw[bp]
     have pb:=el.le
     have tF:ba X h j bZ dy:=dC.trans (el.j9 Zo)
     have Vm:j+9<dy:=Zo
     have ff:U X bZ (j+9)=zw (q0 s) 4:=by rw[el.aa _ Zo];exact fT
     have ab9:aP X bZ (.ptr b 7)=some (.int .u64 E.n):=by rw[tF.eV _ _ fP];exact io
     have QZ:aP X bZ (.ptr (j+9) 3)=some (.bool s.2.2.2):=(rd bZ ff).2.2.2)
   |(
     have bp:=my.dU ll
     rw[ll]at fX
     have awZ:eD E.ty=[.zF, .zF, .Z 0]:=by rw[bp];rfl
     rw[awZ]at AD
     refine gh @t0 @t3 (Za @fX (Za @AD @aDF)) ⟨?_⟩
     have tF:ba X h j bM bX:=dC
     have Vm:j+9<bX:=aga
     have ff:U X bM (j+9)=zw (q0 s) 4:=fT
     have ab9:aP X bM (.ptr b 7)=some (.int .u64 E.n):=by rw[tF.eV _ _ fP];exact io
     have QZ:aP X bM (.ptr (j+9) 3)=some (.bool s.2.2.2):=(rd bM ff).2.2.2)
   rcases Bool.eq_false_or_eq_true s.2.2.2 with oy|oy
   all_goals
    first
    |(
      have BZ:decide ((0:Int)≠0)=false:=rfl
      rw[oy]at QZ
      have aF5:s.2.2.2=true:=oy)
    |(
      have BZ:decide (E.n≠0)=false:=by simp[my.a2 oy]
      rw[oy]at QZ)
    refine gh @t0 @t3 (Za @QZ (Za @ab9 @BZ)) ⟨?_⟩
    refine iR (λc4 S' aN=>c4.g 0=some (.ptr b 0)/\c4.g 3=some (.ptr (j+9) 0)/\ba X h j S' aN/\j+9<aN/\U X S' (j+9)=zw (q0 s) 4) (λS bE=> ?_) ?_
    ·refine cx ⟨?_⟩
     exact bE _ _ _ ⟨aL t0,aL t3,tF.more Zo,Zo,ff⟩
    exact axW.out
 clear t0 t3 dC fT jZ fd fX hZ ik AD
 rintro I ci dV ⟨t0,t3,ez,aFO,d8⟩
 have nj:=ez.le
 have Hc:aP X ci (.ptr b 0)=some (.Z E.kind):=by rw[ez.eV _ _ fP];exact a0
 have aca:aP X ci (.ptr b 7)=some (.int .u64 E.n):=by rw[ez.eV _ _ fP];exact io
 have acb:aP X ci (.ptr b 8)=some aS:=by rw[ez.eV _ _ fP];exact ip
 have qP:∀e,P e->U X ci e=U X h e:=λe B=>ez.aa e (bq e B)
 show cw _ _
 by_cases M:E.kind=1
 ·have bz:decide (E.kind=1)=true:=by simp[M]
  refine dI @t0 @Hc @bz ⟨?_⟩
  refine(ay2 (j:=dV) (h:=ci) au Zo (cE.aa qP _ _ bC) (λe B=>zs (bq e B)) M (bs.ME M)).Zm ?_
  rintro ac dk hH ⟨rfl,gK⟩
  exact⟨rfl,ez.trans (gK.j9 Zo)⟩
 have bz:decide (E.kind=1)=false:=by simp[M]
 by_cases KV:E.kind=19
 ·have HB:decide (E.kind=19)=true:=by simp[KV]
  have Th:decide (E.n<=63)=true:=by simp[(bs.mY (.inl KV)).2]
  refine hu @t0 @Hc @bz @HB @aca @Th ⟨?_⟩
  exact⟨rfl,ez.more Zo⟩
 have HB:decide (E.kind=19)=false:=by simp[KV]
 by_cases T4:E.kind=20
 ·have KB:decide (E.kind=20)=true:=by simp[T4]
  have Th:decide (E.n<=63)=true:=by simp[(bs.mY (.inr T4)).2]
  refine d9 @t0 @Hc @bz @HB @KB @aca @Th ⟨?_⟩
  exact⟨rfl,ez.more Zo⟩
 have KB:decide (E.kind=20)=false:=by simp[T4]
 by_cases T5:E.kind=21
 ·have Og:decide (E.kind=21)=true:=by simp[T5]
  obtain⟨l,r,xX,aC⟩:=bs.hS T5
  obtain⟨ao,avG,gn⟩:=has.get 0 l (by rw[xX];rfl)
  obtain⟨cN,cA,eb⟩:=(cB.aa qP).one avG
  obtain⟨kr,ah0,ayI,aGB,rfl,ws,dB,_,_,_,_,_,_,_,Hs,ahZ,ahI⟩:=(cE.aa qP _ _ gn).open
  have ai5:gy 1 aS (.Z 0)=some (.ptr cO 0):=cN
  rcases aC with aC|⟨aC,x,ae,P2⟩
  ·have uL:decide (l.kind=1)=true:=by simp[aC]
   refine d9 @t0 @Hc @bz @HB @KB @Og (Za @acb (Za @ai5 (Za @cA (Za @dB @uL)))) ⟨?_⟩
   exact⟨rfl,ez.more Zo⟩
  ·have uL:decide (l.kind=1)=false:=by simp[aC]
   have arv:decide (l.kind=4)=true:=by simp[aC]
   obtain⟨aHf,axk,axh⟩:=ahI.get 0 x (by rw[ae];rfl)
   obtain⟨fQ,hY,yv⟩:=ahZ.one axk
   obtain⟨aHe,rfl,u4,lW⟩:=axh.ptr
   have aAE:gy 1 ah0 (.Z 0)=some (.ptr ayI 0):=fQ
   have ahU:=ahZ.len
   rw[Zi,ahI.len,ae]at ahU
   have ay3:gz ah0=some (.Z 1):=ahU
   have ex:decide (x.kind=1)=true:=by simp[P2]
   have arn:decide ((1:Int)=1)=true:=rfl
   refine d9 @t0 @Hc @bz @HB @KB @Og (Za @acb (Za @ai5 (Za @cA (Za @dB (Za @uL (Za @arv (Za @Hs (Za @ay3 (Za @arn (Za @aAE (Za @hY (Za @aA1 (Za @lW @ex))))))))))))) ⟨?_⟩
   exact⟨rfl,ez.more Zo⟩
 have Og:decide (E.kind=21)=false:=by simp[T5]
 refine hu @t0 @Hc @bz @HB @KB @Og ⟨?_⟩
 exact⟨rfl,ez.more Zo⟩
end
def avi{z:Nat}{E H:bD}(a:hk (z+1) E<=z)(az:H∈E.args):hk z H+1<=z:=by
 have bp:∀(l:List bD) (aX:Nat),(∀H∈l,hk z H<=l.foldl (λa H=>max a (hk z H)) aX)/\aX<=l.foldl (λa H=>max a (hk z H)) aX:=by
  intro l
  induction l with
  |nil=>intro aX;exact⟨λ_ a=>by simp at a,Zj _⟩
  |cons b l ai=>
   intro aX
   obtain⟨il,gU⟩:=ai (max aX (hk z b))
   refine⟨λx ae=> ?_,ZB (Nat.le_max_left _ _) gU⟩
   rcases Zt.1 ae with rfl|ae
   ·exact ZB (Nat.le_max_right _ _) gU
   ·exact il x ae
 have M:=(bp E.args 0).1 H az
 have R:hk (z+1) E=E.args.foldl (λa H=>max a (hk z H)) 0+1:=rfl
 omega
def avk{z:Nat}{E:bD}:1<=hk (z+1) E:=by
 have R:hk (z+1) E=E.args.foldl (λa H=>max a (hk z H)) 0+1:=rfl
 omega
def akk{bG:iL}:∀{l:List bD}{H:bD},gl bG l->H∈l->e5 bG H:=by
 intro l
 induction l with
 |nil=>intro H _ a;cases a
 |cons b l ai=>
  intro H a az
  rw[gl]at a
  rcases Zt.1 az with rfl|az
  ·exact a.1
  ·exact ai a.2 az
section
variable{X:cl}{h S' fi aI aM:Q af}{j an aO aZ:Nat}{s:aY}
structure BE(X:cl)(df qi kr:Nat)(d:Int)(h:Q af):Prop where
 N5:∃c,U X h df=some (.cells c 1 .own)/\c.get 0=some (.Z d)
 RA:aP X h (.ptr qi 0)=some (.Z 0)
 look:aP X h (.ptr kr 0)=some (.func (.func 124) [] [.ptr df 0, .ptr qi 0, .ptr kr 0])
def BE.aa{df qi kr:Nat}{d:Int}(a:BE X df qi kr d aI)(z:∀e,e=df\/e=qi\/e=kr->U X aM e=U X aI e):BE X df qi kr d aM:=by
 obtain⟨c,M,R⟩:=a.N5
 exact⟨⟨c,by rw[z df (.inl rfl)];exact M,R⟩,zD (z qi (.inr (.inl rfl))) a.RA,zD (z kr (.inr (.inr rfl))) a.look⟩
set_option maxRecDepth 100000 in
def ay6(au:iY X)(bU:mf X)(d6:sc X)(iN:xi X){P:Nat->Prop}{df qi kr fV:Nat}(x4:(o X).a2<=df)(aE7:df<fV)(agY:qi<fV)(ni:kr<fV)(Az:qi≠df)(kn:kr≠df)(bq:∀e,P e->e<fV/\e≠df):
 ∀(z:Nat) (E:bD) (v:D) (h:Q af) (j:Nat),z<=200->fV<=j->hk (z+1) E<=z->e5 jl E->cE X h P E v->BE X df qi kr ((200-z:Nat):Int) h->
  aU X 124 [v, .ptr df 0, .ptr qi 0, .ptr kr 0] h j (λac S' an=>ac= .tuple []/\BE X df qi kr ((200-z:Nat):Int) S'/\j<=an/\∀e,e<j->e≠df->U X S' e=U X h e) (λ_ _ _=>False):=by
 intro z
 induction z with
 |zero=>intro E v h j _ _ a;have:=avk (z:=0) (E:=E);omega
 |succ z ai=>
  intro E v h j aJ aE gx bs bC gS
  refine zz au.todj (alC X) ?_
  rw[alD]
  unfold aag
  obtain⟨b,aS,cO,br,rfl,ag,_,_,_,_,_,_,_,_,ip,cB,has⟩:=id bC.open
  obtain⟨c,bI,bN⟩:=gS.N5
  have x1:=bq b ag
  have bz:bn .add (.Z ((200-(z+1):Nat):Int)) (.Z 1)=some (.Z ((200-z:Nat):Int)):=by rw[en Zo Zo,show((200-(z+1):Nat):Int)+1=((200-z:Nat):Int) by omega]
  refine gh (bc bI) @bN @bz ⟨?_⟩
  generalize c6:bj X h df _=aI
  have TH:∃fS,U X aI df=some (.cells fS 1 .own)/\fS.get 0=some (.Z ((200-z:Nat):Int)):=⟨dS c 0 [.Z ((200-z:Nat):Int)],by rw[<-c6,a7 x4];rfl,yL c 0 _⟩
  have bQ:∀e,e≠df->U X aI e=U X h e:=λe B=>by rw[<-c6,aB x4 B]
  clear c6
  have at9:BE X df qi kr ((200-z:Nat):Int) aI:=⟨TH,zD (bQ _ Az) gS.RA,zD (bQ _ kn) gS.look⟩
  have l9:∀e,P e->U X aI e=U X h e:=λe B=>bQ e (bq e B).2
  have tN:=cE.aa l9 _ _ bC
  refine cd @MJ ⟨?_⟩
  refine(azg (j:=j) (h:=aI) au bU d6 iN Zo tN (λe B=>zs (bq e B).1) bs).Zm ?_
  rintro ac aM aZ ⟨rfl,bx⟩
  have fJ:=bx.le
  have OU:BE X df qi kr ((200-z:Nat):Int) aM:=at9.aa (λe B=>bx.aa e (by rcases B with rfl|rfl|rfl<;>omega))
  obtain⟨dN,TI,asJ⟩:=OU.N5
  have Sk:aP X aM (.ptr b 8)=some aS:=by rw[bx.eV _ _ Zo,cv,bQ _ x1.2, <-cv];exact ip
  have d0:=cB.len
  have Lo:=has.len
  rw[Zi,Lo]at d0
  have hU:=cB.many
  rw[Zi,Lo]at hU
  have cy:decide ((200:Int)<((200-z:Nat):Int))=false:=by simp only[Zb];omega
  refine fO (bc TI) @asJ @cy @Sk @d0 ⟨?_⟩
  refine fh (λm I S' aN=>∃(S:Nat),I.g 1=some (.ptr df 0)/\I.g 2=some (.ptr qi 0)/\I.g 3=some (.ptr kr 0)/\I.g 12=some aS/\I.g 13=some (.Z (E.args.length:Int))/\I.g 14=some (.Z (S:Int))/\S+m=E.args.length
   /\BE X df qi kr ((200-z:Nat):Int) S'/\j<=aN/\∀e,e<j->e≠df->U X S' e=U X h e)
   E.args.length ⟨0,a8,a8,a8,a8,a8,fq,Zo,OU,fJ,λe M R=>by rw[bx.aa e M,bQ e R]⟩ ?_
  rintro m I a1 bi ⟨S,t1,eK,t3,t12,mb,pq,bE,K5,iO,mP⟩
  cases m with
  |zero=>
   have d:=zt S E.args.length
   obtain⟨g6,xM,asK⟩:=K5.N5
   have cF:bn .sub (.Z ((200-z:Nat):Int)) (.Z 1)=some (.Z ((200-(z+1):Nat):Int)):=by rw[wD Zo Zo,show((200-z:Nat):Int) -1=((200-(z+1):Nat):Int) by omega]
   refine d9 @pq @mb @t1 @d (bc xM) @asK @cF ⟨?_⟩
   refine⟨rfl,⟨⟨dS g6 0 [.Z ((200-(z+1):Nat):Int)],by rw[a7 x4];rfl,yL g6 0 _⟩,zD (aB x4 Az) K5.RA,zD (aB x4 kn) K5.look⟩,Zo,λe M R=>by rw[aB x4 R];exact mP e M R⟩
  |succ m=>
   have d:=zu S E.args.length
   have cF:=zx S
   obtain⟨H,az⟩:=zv E.args S
   obtain⟨w,nR,EO⟩:=has.get S H az
   have jt:∀e,P e->U X a1 e=U X h e:=λe B=>mP e (zs (bq e B).1) (bq e B).2
   obtain⟨cN,cA,eb⟩:=(cB.aa jt).one nR
   have ae9:=Zl az
   have aFb:=avi gx ae9
   have kF:=K5.look
   refine d9 @pq @mb @t12 @t3 @d @cN (Za @cA @kF) ⟨?_⟩
   rw[e5.eq]at bs
   refine(ai H w a1 bi Zo Zo Zo (akk bs.2 ae9) (cE.aa jt _ _ EO) K5).Zm ?_
   rintro ac bA cK ⟨rfl,aua,iF,gF⟩
   refine cI @pq @cF ⟨?_⟩
   exact⟨m,Zo,S+1,aL t1,aL eK,aL t3,aL t12,aL mb,a8,Zo,aua,Zo,λe M R=>by rw[gF e Zo R];exact mP e M R⟩
end
structure R1(g:Go.aT.Node):Prop where
 vars:g.d4.length+g.out.length+g.loc.length<=256
 eqs:g.eqs.length<=4096
 high:∀aj∈g.eqs,hk 201 aj.right<=200
def ayX:∀{l:List gt},C2 l=none->∀aj∈l,hk 201 aj.right<=200:=by
 intro l
 induction l with
 |nil=>intro _ aj a;cases a
 |cons H l ai=>
  intro a aj b0
  unfold C2 at a
  split at a
  ·cases a
  ·rcases Zt.1 b0 with rfl|b0
   ·omega
   ·exact ai a aj b0
def ayY:∀{l:List Go.aT.Node},sP l=none->∀g∈l,R1 g:=by
 intro l
 induction l with
 |nil=>intro _ aj a;cases a
 |cons H l ai=>
  intro a g b2
  unfold sP at a
  split at a
  ·cases a
  ·rename_i b0
   split at a
   ·cases a
   ·rename_i bC
    rcases Zt.1 b2 with rfl|b2
    ·exact⟨Zo,Zo,ayX bC⟩
    ·exact ai a g b2
def Mr{am:List Go.aT.Node}(a:qR am=none):am.length<=64/\∀g∈am,R1 g:=by
 unfold qR at a
 split at a
 ·cases a
 ·rename_i b0
  rw[List.getElem?_eq_none_iff]at b0
  exact⟨b0,ayY a⟩
section
variable{X:cl}{h S' fi aI aM:Q af}{j an aO aZ:Nat}{s:aY}
set_option maxRecDepth 100000 in
def asA(au:iY X)(bU:mf X)(d6:sc X)(iN:xi X){P:Nat->Prop}{E:bD}{v:D}(aE:(o X).a2<=j)(bC:cE X h P E v)(bq:∀e,P e->e<j)(bs:e5 jl E)(gx:hk 201 E<=200):
 aU X 100 [v] h j (λac S' an=>ac= .Z 0/\ba X h j S' an) (λ_ _ _=>False):=by
 refine zz au.todj (akT X) ?_
 rw[akU]
 unfold θ
 refine cx ⟨?_⟩
 generalize c6:bj X _ (j+1+1) _=aI
 have jG:U X aI j=zw [.Z 0] 1:=by rw[<-c6];simp(disch:=omega) only[aB,a7];rfl
 have bI:U X aI (j+1)=zw [.Z 0] 1:=by rw[<-c6];simp(disch:=omega) only[aB,a7];rfl
 have bN:aP X aI (.ptr (j+1+1) 0)=some (.func (.func 124) [] [.ptr (j+1) 0, .ptr j 0, .ptr (j+1+1) 0]):=by rw[<-c6,CX Zo];rfl
 have bH:ba X h j aI (j+1+1+1):=by rw[<-c6];exact dz
 clear c6
 refine cd @bN ⟨?_⟩
 have tN:=cE.aa (λe B=>bH.aa e (bq e B)) _ _ bC
 refine(ay6 (fV:=j+1+1+1) au bU d6 iN Zo Zo Zo Zo Zo Zo (λe B=>by have:=bq e B;exact⟨Zo,Zo⟩) 200 E v aI (j+1+1+1) Zo Zo gx bs tN ⟨⟨_,bI,rfl⟩,by rw[bc jG];rfl,bN⟩).Zm ?_
 rintro ac aM aZ ⟨rfl,OU,fJ,iu⟩
 have axd:=OU.RA
 refine cd @axd ⟨?_⟩
 exact⟨rfl,Zo,λe B=>by rw[iu e Zo Zo];exact bH.aa e B⟩
set_option maxRecDepth 100000 in
def azp(au:iY X)(bU:mf X)(d6:sc X)(iN:xi X){P:Nat->Prop}{g:Go.aT.Node}{row:List D}(aE:(o X).a2<=j)(b2:oR X h P g row)(bq:∀e,P e->e<j)(bs:oa jl g)(aC:R1 g):
 aU X 78 [.agg row] h j (λac S' an=>ac= .Z 0/\ba X h j S' an) (λ_ _ _=>False):=by
 refine zz au.todj (an8 X) ?_
 rw[an9]
 unfold abE
 obtain⟨c7,dv,aS,eH,bY,co,cY,fM,bK,rfl,k1,ko,ov,jo,e8⟩:=b2
 have eo:=k1.len
 have cR:=ko.len
 have eQ:=ov.len
 have j6:=e8.wide
 have hl:=jo.len
 have hU:=jo.many
 rw[Zi]at eo cR eQ
 rw[j6.1]at hl hU
 have aGe:=aC.vars
 have US:=aC.eqs
 have Is:0<g.out.length:=Yk.2 bs.some
 have bz:bn .add (.Z (g.d4.length:Int)) (.Z (g.out.length:Int))=some (.Z ((g.d4.length+g.out.length:Nat):Int)):=by rw[en Zo Zo];simp
 have cF:bn .add (.Z ((g.d4.length+g.out.length:Nat):Int)) (.Z (g.loc.length:Int))=some (.Z ((g.d4.length+g.out.length+g.loc.length:Nat):Int)):=by rw[en Zo Zo];simp
 have cT:decide ((g.out.length:Int)=0)=false:=by simp only[Zb];omega
 have cy:decide ((256:Int)<((g.d4.length+g.out.length+g.loc.length:Nat):Int))=false:=by simp only[Zb];omega
 have e1:decide ((4096:Int)<(g.eqs.length:Int))=false:=by simp only[Zb];omega
 refine pG ?_
 generalize c6:bj X h j _=aI
 have bI:U X aI j=zw [.str g.name, .Z g.at_,c7,dv,aS,eH] 6:=by rw[<-c6,a7 aE];rfl
 have bH:ba X h j aI (j+1):=by rw[<-c6];exact dz
 clear c6
 refine gh (bc bI) @eo (Za @cR (Za @eQ (Za @bz @cF))) ⟨?_⟩
 refine(Mv (j:=j+1) (h:=aI) au bU d6 bs.name Zo).Zm ?_
 rintro ac aM aZ ⟨rfl,bx⟩
 have fJ:=bx.le
 rw[<-bx.aa _ Zo]at bI
 have hv:=bH.trans bx
 have cX:=(kt k1.len).1
 have dN:=(kt ko.len).1
 have g6:=(kt ov.len).1
 have g2:hC 3 [.aV, .aV, .aV] [(0,1,c7),(1,1,dv),(2,1,aS)] aZ=some (.slice aZ 0 3 3, .cells (Q.ofList [c7,dv,aS] 0 .nil) 3 .own):=by
  simp[hC,uM,uN,n3,cX,dN,g6]
 refine gh (bc bI) @eo (Za @cR (Za @eQ (Za @hl (Za @cT (Za @cy @e1))))) ⟨?_⟩
 refine f8 g2 ?_
 refine pN ⟨?_⟩
 generalize fl:bj X aM aZ _=a1
 have cH:U X a1 aZ=zw [c7,dv,aS] 3:=by rw[<-fl,a7 Zo]
 have ck:ba X h j a1 (aZ+1):=⟨Zo,λe B=>by rw[<-fl];simp(disch:=omega) only[aB];exact hv.aa e B⟩
 have xM:U X a1 j=zw [.str g.name, .Z g.at_,c7,dv,aS,eH] 6:=by rw[<-fl];simp(disch:=omega) only[aB];exact bI
 clear fl
 have jt:∀e,P e->U X a1 e=U X h e:=λe B=>ck.aa e (bq e B)
 refine(ac7 (j:=aZ+1) (h:=a1) au.todj Zo Zo cH (k1.aa jt) (ko.aa jt) (ov.aa jt) (λe B=>zs (bq e B)) Zo Zo).Zm ?_
 rintro ac bA cK ⟨Hm,cB,c0⟩
 have iF:=c0.le
 refine pN ⟨?_⟩
 refine(aqZ (j:=cK) (h:=bA) au bU d6 Zo cB (λe B=>B.2) (λd aF=> ?_)).Zm ?_
 ·rcases Zz.1 aF with a|a
  ·exact bs.d4 d a
  ·rcases Zz.1 a with a|a
   ·exact bs.out d a
   ·exact bs.loc d a
 rintro ac bM bX ⟨rfl,dC⟩
 have ik:=dC.le
 have KZ:ba X a1 (aZ+1) bM bX:=c0.trans dC
 have tF:ba X h j bM bX:=ck.trans KZ
 rw[<-KZ.aa _ Zo]at xM
 refine cI (bc xM) @hl ⟨?_⟩
 refine fh (λm I S' aN=>∃(S:Nat),I.g 4=some (.Z 0)/\I.g 53=some eH/\I.g 54=some (.Z (g.eqs.length:Int))/\I.g 55=some (.Z (S:Int))/\S+m=g.eqs.length/\ba X h j S' aN)
  g.eqs.length ⟨0,a8,a8,a8,fq,Zo,tF⟩ ?_
 rintro m I bZ dy ⟨S,t4,q2,kO,q3,bE,el⟩
 have pb:=el.le
 cases m with
 |zero=>
  have d:=zt S g.eqs.length
  refine fI @q3 @kO @t4 @d ⟨?_⟩
  exact⟨rfl,el⟩
 |succ m=>
  have d:=zu S g.eqs.length
  have bz:=zx S
  obtain⟨aj,b0⟩:=zv g.eqs S
  have Cz:=Zl b0
  have sJ:=bs.eqs aj Cz
  obtain⟨row,e9,tW⟩:=e8.get S aj b0
  have ph:∀e,P e->U X bZ e=U X h e:=λe B=>el.aa e (bq e B)
  have dp:=jo.fx S (by rw[j6.1];omega)
  have hz:=(jo.aa ph).row Zd e9
  obtain⟨qY,s0,cX,dN,kc,rfl,iv,nQ,pf,rE⟩:=tW
  have Cy:=iv.len
  rw[show(e3 aj.left).length=aj.left.length from by simp[e3]]at Cy
  have aFA:0<aj.left.length:=Yk.2 sJ.some
  have Ab:decide ((aj.left.length:Int)=0)=false:=by simp only[Zb];omega
  refine hu @q3 @kO @q2 @d @dp @hz ⟨?_⟩
  refine f8 (iH (z:=4) (b:=dy) (W:=0) (n:=4) (c:=Q.ofList [.aV, .aV, .Z 0, .cJ] 0 .nil) (a7 Zo) Zo rfl Zd Zd rE) ?_
  generalize jW:bj X _ dy _=ci
  have d8:U X ci dy=zw [qY,s0, .Z aj.at_,kc] 4:=by rw[<-jW,a7 Zo];rfl
  have ez:ba X h j ci (dy+1):=⟨Zo,λe B=>by rw[<-jW];simp(disch:=omega) only[aB];exact el.aa e B⟩
  clear jW
  have qP:∀e,P e->U X ci e=U X h e:=λe B=>ez.aa e (bq e B)
  refine cd (bc d8) ⟨?_⟩
  refine(asA (j:=dy+1) (h:=ci) au bU d6 iN Zo (cE.aa qP _ _ pf) (λe B=>zs (bq e B)) sJ.right (aC.high aj Cz)).Zm ?_
  rintro ac dk hH ⟨rfl,gK⟩
  have x8:=gK.le
  rw[<-gK.aa _ Zo]at d8
  have aeM:ba X h j dk hH:=ez.trans gK
  have CV:∀e,P e->U X dk e=U X h e:=λe B=>aeM.aa e (bq e B)
  refine dI (bc d8) @Cy @Ab ⟨?_⟩
  refine(ayN (j:=hH) (h:=dk) au bU d6 Zo (iv.aa CV) (λe B=>zs (bq e B)) sJ.left).Zm ?_
  rintro ac dt fc ⟨rfl,gT⟩
  have f5:decide ((0:Int)=1)=false:=rfl
  have fK:decide ((0:Int)≠0)=false:=rfl
  refine fI @f5 @fK @q3 @bz ⟨?_⟩
  exact⟨m,Zo,S+1,aL t4,aL q2,aL kO,a8,Zo,aeM.trans gT⟩
set_option maxRecDepth 100000 in
def asz(au:iY X)(bU:mf X)(d6:sc X)(iN:xi X){P:Nat->Prop}{am:List Go.aT.Node}{v:D}(aE:(o X).a2<=j)(b2:oS X h P am v)(bq:∀e,P e->e<j)(bs:∀g∈am,oa jl g)(aX:am≠[])(aC:qR am=none):
 aU X 52 [v] h j (λac S' an=>ac= .Z 0/\ba X h j S' an) (λ_ _ _=>False):=by
 refine zz au.todj (anl X) ?_
 rw[anm]
 unfold aba
 obtain⟨pT,mQ⟩:=Mr aC
 obtain⟨b,aS,cO,bK,rfl,ag,a0,cB,kG⟩:=id b2
 have j6:=kG.wide
 have d0:=cB.len
 rw[j6.1]at d0
 have fP:=bq b ag
 have aw:0<am.length:=Yk.2 aX
 have cT:decide ((am.length:Int)=0)=false:=by simp only[Zb];omega
 have cy:decide ((64:Int)<(am.length:Int))=false:=by simp only[Zb];omega
 refine fO @To @a0 @d0 @cT @cy ⟨?_⟩
 refine fh (λm I S' aN=>∃(S:Nat),I.g 3=some (.Z 0)/\I.g 28=some aS/\I.g 29=some (.Z (am.length:Int))/\I.g 30=some (.Z (S:Int))/\S+m=am.length/\ba X h j S' aN)
  am.length ⟨0,a8,a8,a8,fq,Zo,ba.refl _ _⟩ ?_
 rintro m I aI aO ⟨S,t3,ajH,Gy,Dv,bE,bH⟩
 have jJ:=bH.le
 cases m with
 |zero=>
  have d:=zt S am.length
  refine fI @Dv @Gy @t3 @d ⟨?_⟩
  exact⟨rfl,bH⟩
 |succ m=>
  have d:=zu S am.length
  have bz:=zx S
  obtain⟨g,nP⟩:=zv am S
  have tQ:=Zl nP
  obtain⟨row,e9,jK⟩:=kG.get S g nP
  have l9:∀e,P e->U X aI e=U X h e:=λe B=>bH.aa e (bq e B)
  have dp:=cB.fx S (by rw[j6.1];omega)
  have hz:=(cB.aa l9).row Zd e9
  have jL:=jK.jf
  have sG:=jK
  obtain⟨c7,dv,k9,eH,bY,co,cY,fM,ib,rfl,_⟩:=jK
  refine hu @Dv @Gy @ajH @d @dp @hz ⟨?_⟩
  refine f8 (iH (z:=6) (b:=aO) (W:=0) (n:=6) (c:=Q.ofList [.str [], .Z 0, .aV, .aV, .aV, .aV] 0 .nil) (a7 Zo) Zo rfl Zd Zd jL) ?_
  generalize d3:bj X _ aO _=aM
  have bN:U X aM aO=zw [.str g.name, .Z g.at_,c7,dv,k9,eH] 6:=by rw[<-d3,a7 Zo];rfl
  have bx:ba X h j aM (aO+1):=⟨Zo,λe B=>by rw[<-d3];simp(disch:=omega) only[aB];exact bH.aa e B⟩
  clear d3
  refine cd (bc bN) ⟨?_⟩
  refine(azp (j:=aO+1) (h:=aM) au bU d6 iN Zo (sG.aa (bu:=P) (λe B=>bx.aa e (bq e B)) (λ_ a=>a)) (λe B=>zs (bq e B)) (bs g tQ) (mQ g tQ)).Zm ?_
  rintro ac a1 bi ⟨rfl,ck⟩
  have f5:decide ((0:Int)=1)=false:=rfl
  have fK:decide ((0:Int)=22)=false:=rfl
  refine fI @f5 @fK @Dv @bz ⟨?_⟩
  exact⟨m,Zo,S+1,aL t3,aL ajH,aL Gy,a8,Zo,bx.trans ck⟩
end
section
variable{X:cl}{h S' fi aI aM:Q af}{j an aO aZ:Nat}{s:aY}
def oL(c:Q D)(H b:D):(dS c 0 [H,b]).get 0=some H:=by rw[gQ];simp
def oM(c:Q D)(H b:D):(dS c 0 [H,b]).get 1=some b:=by rw[gQ];simp
set_option maxRecDepth 100000 in
def aqA(au:iY X)(bU:mf X)(d6:sc X)(iN:xi X){P:Nat->Prop}{am:List Go.aT.Node}{v:D}(aE:(o X).a2<=j)(b2:oS X h P am v)(bq:∀e,P e->e<j)(bs:∀g∈am,oa jl g)(aX:am≠[])(aC:qR am=none):
 aU X 29 [v] h j (λac S' an=>ac= .agg [.Z (re am).1, .Z (re am).2]/\ba X h j S' an) (λ_ _ _=>False):=by
 refine zz au.todj (amC X) ?_
 rw[amD]
 unfold aaL
 obtain⟨pT,mQ⟩:=Mr aC
 refine pD ?_
 generalize c6:bj X h j _=aI
 have bI:∃c,U X aI j=some (.cells c 2 .own):=⟨_,by rw[<-c6,a7 aE];rfl⟩
 have bH:ba X h j aI (j+1):=by rw[<-c6];exact dz
 clear c6
 have l9:∀e,P e->U X aI e=U X h e:=λe B=>bH.aa e (bq e B)
 refine(asz (j:=j+1) (h:=aI) au bU d6 iN Zo (b2.aa (bu:=P) l9 (λ_ a=>a)) (λe B=>zs (bq e B)) bs aX aC).Zm ?_
 rintro ac aM aZ ⟨rfl,bx⟩
 have fJ:=bx.le
 rw[<-bx.aa _ Zo]at bI
 have hv:=bH.trans bx
 obtain⟨b,aS,cO,bK,rfl,ag,a0,cB,kG⟩:=id b2
 have j6:=kG.wide
 have d0:=cB.len
 rw[j6.1]at d0
 have fP:=bq b ag
 have bm:decide ((0:Int)≠0)=false:=rfl
 rw[<-hv.eV _ _ fP]at a0
 refine dI @bm @a0 @d0 ⟨?_⟩
 refine fh (λm I S' aN=>∃(S:Nat),I.g 0=some (.ptr b 0)/\I.g 2=some (.ptr j 0)/\I.g 13=some aS/\I.g 14=some (.Z (am.length:Int))/\I.g 15=some (.Z (S:Int))/\S+m=am.length/\ba X h j S' aN/\j<aN/\(∃c,U X S' j=some (.cells c 2 .own))/\re am=Hu am S (am.drop S))
  am.length ⟨0,a8,a8,a8,a8,fq,Zo,hv,Zo,bI,rfl⟩ ?_
 rintro m I a1 bi ⟨S,t0,eK,mb,pq,wY,bE,ck,wx,⟨g6,cH⟩,ij⟩
 have iO:=ck.le
 cases m with
 |zero=>
  have d:=zt S am.length
  rw[ZC Zo]at ij
  refine hu @wY @pq @eK @d @oL @oM ⟨?_⟩
  refine⟨by rw[ij];rfl, ?_⟩
  exact⟨Zo,λe B=>by rw[aB Zo Zo];exact ck.aa e B⟩
 |succ m=>
  have d:=zu S am.length
  have bz:=zx S
  obtain⟨g,nP⟩:=zv am S
  have tQ:=Zl nP
  have aF:am.drop S=g::am.drop (S+1):=by
   obtain⟨ae,B⟩:=Zc.1 nP
   rw[Zq ae,B]
  rw[aF,Hu]at ij
  obtain⟨row,e9,jK⟩:=kG.get S g nP
  have jt:∀e,P e->U X a1 e=U X h e:=λe B=>ck.aa e (bq e B)
  have dp:=cB.fx S (by rw[j6.1];omega)
  have hz:=(cB.aa jt).row Zd e9
  have jL:=jK.jf
  have sG:=jK
  obtain⟨c7,dv,k9,eH,bY,co,cY,fM,ib,rfl,_⟩:=jK
  refine hu @wY @pq @mb @d @dp @hz ⟨?_⟩
  refine f8 (iH (z:=6) (b:=bi) (W:=0) (n:=6) (c:=Q.ofList [.str [], .Z 0, .aV, .aV, .aV, .aV] 0 .nil) (a7 Zo) Zo rfl Zd Zd jL) ?_
  generalize eS:bj X _ bi _=bA
  have dg:U X bA bi=zw [.str g.name, .Z g.at_,c7,dv,k9,eH] 6:=by rw[<-eS,a7 Zo];rfl
  have dJ:∀e,e<bi->U X bA e=U X a1 e:=λe B=>by rw[<-eS];exact zy
  clear eS
  have c0:ba X h j bA (bi+1):=⟨Zo,λe B=>by rw[dJ e Zo];exact ck.aa e B⟩
  rw[<-dJ _ Zo]at cH
  refine cI @t0 (bc dg) ⟨?_⟩
  refine(QG (j:=bi+1) (h:=bA) au.todj Zo (λe B=>zs (bq e B)) (sG.aa (bu:=P) (λe B=>c0.aa e (bq e B)) (λ_ a=>a)) (by rw[Ep];have:=(mQ g tQ).vars;simp only[oE];omega)).Zm ?_
  rintro ac bM bX ⟨b6,k3,q1,dW,rfl,kp,ya,cN,cA,eb,fW,dC⟩
  have ik:=dC.le
  have atX:ba X h j bM bX:=c0.trans (dC.j9 Zo)
  rw[<-dC.aa _ Zo]at cH
  refine cI @t0 @wY ⟨?_⟩
  generalize f9:bj X _ (bX+1) _=bZ
  have dZ:U X bZ (bX+1)=zw [.ptr b 0, .Z (S:Int), .ptr b6 0, .map bX, .Z 0, .Z 0] 6:=by rw[<-f9,a7 Zo];rfl
  have d8:U X bZ bX=some (.map [] 0):=by rw[<-f9];simp(disch:=omega) only[aB,a7]
  have el:ba X bM bX bZ (bX+1+1):=by rw[<-f9];exact dz
  clear f9
  have aeK:ba X h j bZ (bX+1+1):=atX.trans (el.j9 Zo)
  rw[<-el.aa _ Zo]at cH
  have gE:∀e,(P e\/dr (bi+1) bX e)->e<bX+1+1/\e≠bX+1/\e≠bX:=by
   rintro e (B|B)
   ·have:=bq e B;omega
   ·have:=B.2;omega
  refine(aqB (j:=bX+1+1) (h:=bZ) (P:=λe=>P e\/dr (bi+1) bX e) (z:=S) (am:=am) (g:=g) (b6:= .ptr b6 0) au.todj Zo Zo Zo Zo Zo Zo gE
   (b2.aa (λe B=>aeK.aa e (bq e B)) (λ_ a=> .inl a)) nP ⟨b6,k3,rfl, .inr kp, .inr ya,by rw[el.eV _ _ (zs kp.2)];exact cN,cA.aa (el.aa _ ya.2)⟩ dZ ⟨[],0,d8,λ_=>rfl⟩).Zm ?_
  rintro ac ci dV ⟨rfl,Co,nj,sD⟩
  have ez:ba X h j ci dV:=⟨Zo,λe B=>by rw[sD e Zo Zo Zo];exact aeK.aa e B⟩
  rw[<-sD _ Zo Zo Zo]at cH
  have pK:aP X ci (.ptr (bX+1) 4)=some (.Z (ue am S g).1):=by unfold gs at Co;rw[bc Co];rfl
  have Ah:aP X ci (.ptr (bX+1) 5)=some (.Z (ue am S g).2):=by unfold gs at Co;rw[bc Co];rfl
  by_cases ch:(ue am S g).1=0
  ·have Eo:decide ((ue am S g).1≠0)=false:=by simp[ch]
   rw[Zh (by simp[ch])]at ij
   refine fI @pK @Eo @wY @bz ⟨?_⟩
   exact⟨m,Zo,S+1,aL t0,aL eK,aL mb,aL pq,a8,Zo,ez,Zo,⟨g6,cH⟩,ij⟩
  ·have Eo:decide ((ue am S g).1≠0)=true:=by simp[ch]
   rw[Zr ch]at ij
   have wt:cG X ci 2 (.ptr (bX+1) 4)=some (.agg [.Z (ue am S g).1, .Z (ue am S g).2]):=by rw[iG,pK,Ah];rfl
   refine hu @pK @Eo @wt @eK @oL @oM ⟨?_⟩
   refine⟨by rw[ij], ?_⟩
   exact⟨Zo,λe B=>by rw[aB Zo Zo];exact ez.aa e B⟩
end
def qa(t:aY->Option c8)(w:aY):eu:=((t w).getD ld).d.ty
def ug:List eu->Bool
 |[]=>true
 |H::l=>(H::l).all λb=>decide (b=H)
def JD:eu:=⟨true,false,1⟩
def Ko(am:List Go.aT.Node)(nm:aY)(H:List eu):List eu×Bool:=
 match am[(qA am nm).getD 0]? with
 |none=>([],false)
 |some g=>(g.out.map (·.ty),decide (g.d4.map (·.ty)=H))
def lQ(am:List Go.aT.Node)(t:aY->Option c8)(E:bD)(H:List eu):List eu×Bool:=
 let a0:=H.headD dU
 if E.kind=1 then([E.ty],true)
 else if E.kind=2 then([qa t E.name],true)
 else if E.kind=3\/E.kind=5 then([a0],true)
 else if E.kind=4\/E.kind=19\/E.kind=20 then([a0], !a0.b)
 else if E.kind=6 then([a0],(qa t E.name).b)
 else if E.kind=7\/E.kind=8\/E.kind=9\/E.kind=21\/E.kind=22 then([a0],ug H)
 else if E.kind=16\/E.kind=17\/E.kind=18 then([a0],ug H&& !a0.b)
 else if E.kind=10\/E.kind=11 then([JD],ug H)
 else if E.kind=12\/E.kind=13\/E.kind=14\/E.kind=15 then([JD],ug H&& !a0.b)
 else if E.kind=23 then([(H[1]?).getD dU],a0.b&&ug H.tail)
 else if E.kind=24 then([a0],ug H&&(qa t E.name).b)
 else if E.kind=26 then([E.ty], !E.ty.b||a0.b)
 else Ko am E.name H
mutual
def B4(am:List Go.aT.Node)(t:aY->Option c8):bD->Except Int (List eu)
 | .mk z at_ nm no ty n args=>match xs am t args with
   | .error H=> .error H
   | .ok (ce,one)=>if one=false then .error at_ else
     let r:=lQ am t (.mk z at_ nm no ty n args) ce
     if r.2=false then .error at_ else .ok r.1
def xs(am:List Go.aT.Node)(t:aY->Option c8):List bD->Except Int (List eu×Bool)
 |[]=> .ok ([],true)
 |E::l=>match B4 am t E with
  | .error H=> .error H
  | .ok r=>match xs am t l with
    | .error H=> .error H
    | .ok (ce,one)=>match r with
      |[x]=> .ok (x::ce,one)
      |_=> .ok (ce,false)
end
def N4(t:aY->Option c8)(g:Go.aT.Node):Option Int:=(gD g).findSome? λx=>if x.2.on≠[]/\(qa t x.2.on).b=false then some x.2.et else none
def xJ(am:List Go.aT.Node)(t:aY->Option c8)(aj:gt):Option Int:=match B4 am t aj.right with
 | .error H=>some H
 | .ok row=>if (1<aj.left.length/\aj.right.kind≠25)\/row≠aj.left.map (qa t)then some aj.at_ else none
def FZ(am:List Go.aT.Node)(g:Go.aT.Node):Option Int:=match N4 (ec g) g with
 |some H=>some H
 |none=>g.eqs.findSome? (xJ am (ec g))
def JE(am:List Go.aT.Node):Option Int:=am.findSome? (FZ am)
end
open Go.bd
noncomputable section
variable (X : cl) (h : Q af) (j : Nat) (ah av : bJ) (a0 bb b5 a3 a4 a5 hR io ip : D)
def Jq(a:aK)(b:bJ):fB:=λc d e=>n0 a [.cell 2 31, .cell 3 26] b c c.bh d e
def QQ(a:aK)(b c:bJ):tm:=λd e f g=>wR a [.cell 2 31, .cell 3 26] b c d e d.bh f g
def abR(a:aK)(b:D)(c:Q af)(d:Nat)(e f:bJ):Prop:=
 ap (hD [.cJ] d) λg=>gO a c d g.1 g.2 λc d g=>By g a d λd g h=>aU a 29 [b] g h (λg h i=>DL i a h g λg h i=>xc g a i 0 λj=>bk (λb c d=>fm b 2 3 λg h=>Ku (.func (.func 30) [] [g,h]) [] b λb=>gO a c d (.map d) (.map [] 0) λc d g=>ap (e6 [.mF] [(0,1,c)]) λc=>ha a d g c λc d g=>cw (b 2) λh=>ql a d h c λc=>kR b 2 a c λd=>e4 b λh=>ap (e6 [.cJ, .cJ, .cJ] [(0,1,d),(1,1,h)]) λd=>ha a c g d λc d g=>r9 b a d λh=>hO h (λb c d=>kR b 2 a c λf=>DI λg=>cw (b 2) λh=>ql a c h f λc=>qm b λf=>ap (gq a c 2 f g) λc=>Jq a e b c d) λi j=>e2 (λb c d g=>gW c 27 26 λh=>bk (λc d g=>ta (λa c d=>ge a 27 λe=>b (Z a 27 e) c d) c 25 27 6 λb h=>DC a d h g λd g h=>n9 c λi=>ap (cG a h 6 d) λj=>aU a 31 [i,j] h g (λ_ a e=>b (Z c 7 d) a e) (QQ a e f (h5 [31,32,33] (Z c 7 d)))) λa=>aR h (a (Z c 28 h) d g) (j (Z c 28 h) d g)) (zC b 5 c 25 h 26 i 27 (.Z 0)) d g) λf=>aR j (fb (h+3) λf=>lg a i g λh=>ap (gq a i 1 c .cJ) λi=>lg a i g λk=>gb k (some h) (ap (gq a i 2 d h) λh=>Jq a e (zC (cP [b]) 2 c 3 d 4 g 12 j) h f)) (f (zC (cP [b]) 2 c 3 d 4 g 12 j) i h)) (QQ a e f (h5 [8,9,4] (zA (cP [b]) 2 c 3 d)))
def aoT:B7 X 9 [a0] h j ah av=abR X a0 h j ah av:=Zk
def aoS:cQ X 9 1=true:=Zk
def R7(a:aK)(b c:D)(d:Option D)(e:Q af)(f:Nat)(g:Bool->Q af->Nat->Prop):Prop:=
 Jo (some d) (cP [b,c]) λb c=>bk (λa b c=>g a.rc b c) λd=>ap (c5 a e .eql 20 true b .nilIface) λg=>bk d λd=>aR g (d (zA c 5 b 7 g) e f) (ap (Hk 26 (.agg [.Z 0, .Z 0]) true b) λh=>ap (n8 1 h) λi=>ap (n8 0 h) λh=>bk d λd=>aR i (DL f a e h λe f j=>fb (f+3) λf=>lg a j e λk=>e4 c λl=>ap (gq a j 1 l .cJ) λj=>lg a j e λl=>gb l (some k) (te c λl=>ap (gq a j 2 l k) λa=>d (Z (zC c 5 b 7 g 9 i 10 h) 3 e) a f)) (wS (λ_ _ _=>False) b e f))
def aaN(X:cl)(a0 bb:D)(ka:Option D)(h:Q af)(j:Nat)(ah:Bool->Q af->Nat->Prop):Ak X 30 [a0,bb] ka h j ah=R7 X a0 bb ka h j ah:=Zk
def R8:cQ X 30 2=true:=Zk
def aaO(a:aK)(b c:D)(d:Q af)(e:Nat)(f g:bJ):Prop:=
 ha a d e c λd e h=>r5 a e 6 d 10 h g λe h i=>r8 b 2 a h e λe=>e0 2 d a e λ_ h=>e0 3 d a e λ_ j=>e0 4 d a e λ_ k=>ap (e6 [.aV, .aV, .aV] [(0,1,h),(1,1,j),(2,1,k)]) λh=>bk (λb c d=>ic b 3 5 a c λ_ e=>hO e (λ_ a b=>f (.tuple []) a b) λf h=>e2 (λb c d e=>gW c 54 53 λf=>bk (λc d e=>ta (λa c d=>ge a 54 λe=>b (Z a 54 e) c d) c 52 54 4 λb f=>DD a d f e λd e f=>e4 c λh=>e0 3 d a f λ_ i=>aU a 56 [h,i] f e (λe f h=>jj d a f λi=>hO i (λc d e=>cw (c 11) λf=>ap (gz f) λf=>ap (bn .gtr f (.Z 1)) λf=>Qb f (c 9) (λa=>gr 3 a) d e λd e h=>d5 f (aP a e d) e h λd e h=>Bw f d e h 0 a λd e h=>d5 f (bn .neq d (.Z 25)) e h λd e h=>cS (λd=>sM d (c 10) e h λe f h=>sM d (c 11) f h λf h i=>j7 d (λb=>aU a 57 [e,f] h i b g) h i λe f h=>eU d (gm .not e) f h λe f h=>cS (λd=>bk b λb=>aR d (ic c 9 2 a f λ_ e=>aU a 55 [e] f h (λ_ a e=>b (Z c 92 d) a e) g) (b (Z c 92 d) f h)) λa=>aR d (a .zT) (a e)) λa=>aR f (a d) (a .zF)) λb j=>e2 (λb c d e=>gW c 65 64 λf=>bk (λc d e=>td (λa c d=>ge a 65 λe=>b (Z a 65 e) c d) c 63 65 a d λb f=>fm c 11 0 λh i=>aU a 54 [i,f] d e (λd e g=>Nt d g λd=>Bu a e g d.1 d.2 3 h λa d e=>b (zA c 13 f 11 a) d e) g) λa=>aR f (a (Z c 66 f) d e) (j (Z c 66 f) d e)) (zA (zC c 9 d 10 e 11 .aV 63 i) 64 b 65 (.Z 0)) f h) g) λa=>aR f (a (Z c 55 f) d e) (h (Z c 55 f) d e)) (zB b 52 e 53 f 54 (.Z 0)) c d) λf=>e2 (λb c d e=>JL c 26 3 λh=>bk (λc d e=>bk (λa c d=>ge a 26 λe=>b (Z a 26 e) c d) λb=>fm c 25 26 λf h=>ap (va false 3 1 f h) λf=>DN f b λb h=>e2 (λb c d e=>gW c 31 30 λf=>bk (λc d e=>bk (λa c d=>ge a 31 λe=>b (Z a 31 e) c d) λb=>Br c 29 31 a d e λd e f=>e0 5 d a f λ_ h=>ap (c5 a f .neq 9 true h (.str [])) λh=>mD h (c 0) f e λe f i=>r4 h 5 d f i a λf i j=>iQ h (λb=>aU a 54 [e,f] i j b g) i j λe f i=>d5 h (ss false 0 1 e) f i λe f i=>d5 h (gm .not e) f i λe f i=>cS (λe=>bk b λb=>aR e (e0 6 d a f λ_ h=>aU a 55 [h] f i (λ_ a f=>b (zA c 7 d 45 e) a f) g) (b (zA c 7 d 45 e) f i)) λa=>aR h (a e) (a .zF)) λa=>aR f (a (Z c 32 f) d e) (h (Z c 32 f) d e)) (zC c 5 f 29 f 30 b 31 (.Z 0)) d e) λa=>aR h (a (Z c 27 h) d e) (f (Z c 27 h) d e)) (zB (cP [b,c]) 3 d 25 h 26 (.Z 0)) e i
def amF:c2 X 31 [a0,bb] h j ah av=aaO X a0 bb h j ah av:=Zk
def amE:cQ X 31 2=true:=Zk
def aai(a:aK)(b c:D)(d:Q af)(e:Nat)(f g:bJ):Prop:=
 aU a 138 [b,c] d e (λa b c=>DK a λa=>f a b c) g
def alH:c2 X 126 [a0,bb] h j ah av=aai X a0 bb h j ah av:=Zk
def alG:cQ X 126 2=true:=Zk
def abc(a:aK)(b c:D)(d:Q af)(e:Nat)(f g:bJ):Prop:=
 JM e λh=>gO a d e h.1 h.2 λd e h=>g5 b 2 a e λ_ b=>Bv a b c e h g λ_ b c e=>ap (gr 1 b) λb=>ap (gr 2 b) λb=>kS a e b λb=>r6 a e 3 d b λa b=>f b a c
def anq:c2 X 54 [a0,bb] h j ah av=abc X a0 bb h j ah av:=Zk
def anp:cQ X 54 2=true:=Zk
def abd(_:aK)(a:D)(b:Q af)(c:Nat)(_ d:bJ):Prop:=
 JO 26 a λa=>wS d a b c
def ans:c2 X 55 [a0] h j ah av=abd X a0 h j ah av:=Zk
def anr:cQ X 55 1=true:=Zk
def abe(a:aK)(b c:D)(d:Q af)(e:Nat)(f g:bJ):Prop:=
 g5 c 8 a d λ_ h=>hO h (λb c d=>cw (b 6) λe=>ap (gm .not e) λe=>bk (λb c d=>fm b 0 1 λe h=>n9 b λi=>aU a 84 [e,h,i] c d (λc d e=>hs c λc h=>ap (gm .not h) λi=>bk (λb c d=>r9 b a c λe=>g5 e 0 a c λ_ e=>fm b 1 10 λg h=>h0 (uc a c d 54 e g h) c d λ_ a c=>cw (b 10) λb=>f b a c) λf=>aR i (kz b 1 1 a d λ_ _ j=>aU a 55 [j] d e (λ_ a d=>f (zB b 10 c 11 h 49 i) a d) g) (f (zB b 10 c 11 h 49 i) d e)) g) λf=>aR e (kz b 1 1 a c λ_ _ h=>aU a 55 [h] c d (λ_ a c=>f (Z b 35 e) a c) g) (f (Z b 35 e) c d)) λf i=>e2 (λb c d e=>gW c 17 16 λf=>bk (λc d e=>td (λa c d=>ge a 17 λe=>b (Z a 17 e) c d) c 15 17 a d λb f=>e4 c λh=>aU a 56 [h,f] d e (λd e g=>ap (gz d) λh=>ap (bn .neq h (.Z 1)) λh=>bk (λc d e=>fm c 5 9 λf g=>xd 3 g λg=>kS a d g λg=>Nt g e λg=>Bu a d e g.1 g.2 3 f λa d e=>b (Z c 5 a) d e) λa=>aR h (b (zC c 8 f 9 d 26 h 6 .zF) e g) (a (zB c 8 f 9 d 26 h) e g)) g) λa=>aR f (a (Z c 18 f) d e) (i (Z c 18 f) d e)) (zA (zC (cP [b,c]) 4 .aV 5 .aV 6 .zT 15 h) 16 f 17 (.Z 0)) d e
def anu:c2 X 56 [a0,bb] h j ah av=abe X a0 bb h j ah av:=Zk
def ant:cQ X 56 2=true:=Zk
def aat(a:aK)(b c:D)(d:Q af)(e:Nat)(f g:bJ):Prop:=
 hO b (λ_ a b=>f (.Z (-1)) a b) λh i=>e2 (λb c d e=>gW c 8 7 λh=>bk (λc d e=>bk (λa c d=>ge a 8 λe=>b (Z a 8 e) c d) λb=>GW c 3 λh i j=>kS a d j λj=>jq a i [j] d e (λa d e=>bk b λb=>aR a (f h d e) (b (zA c 5 h 16 a) d e)) g) λa=>aR h (a (Z c 9 h) d e) (i (Z c 9 h) d e)) (zB (cP [b,c]) 4 (.Z 0) 7 h 8 (.Z 0)) d e
def al3:c2 X 138 [a0,bb] h j ah av=aat X a0 bb h j ah av:=Zk
def al2:cQ X 138 2=true:=Zk
def abL(a:aK)(b c d:D)(e:Q af)(f:Nat)(g h:bJ):Prop:=
 g5 c 0 a e λ_ i=>bk (λb c d=>fm b 0 1 λe f=>cw (b 2) λb=>aU a 107 [e,f,b] c d (λa b c=>hs a λa d=>g (.tuple [a,d]) b c) h) λj=>md i 1 j λj k=>aR j (lx c 4 λb=>kS a e b λb=>jq a (.func (.func 105) [] []) [b, .zT] e f (λa b c=>hs a λa d=>g (.tuple [a,d]) b c) h) (md i 2 k λk l=>aR k (g5 c 2 a e λ_ c=>aU a 54 [b,c] e f (λb c d=>jq a (.func (.func 105) [] []) [b, .zT] c d (λa b c=>hs a λa d=>g (.tuple [a,d]) b c) h) h) (ap (bn .eql i (.Z 3)) λm=>bk (λb c d=>cw (b 35) λe=>bk l λf=>aR e (GX b a c λb _ e=>jq a b [e, .zT] c d (λa b c=>hs a λa d=>g (.tuple [a,d]) b c) h) (tb b 12 4 λe=>bk (λb c d=>cw (b 45) λe=>bk f λf=>aR e (fb (d+14) λd=>GX b a c λe _ f=>cw (b 2) λb=>xd 3 b λb=>jj b a c λb=>ap (gm .not b) λb=>jq a e [f,b] c d (λa b c=>hs a λa d=>g (.tuple [a,d]) b c) h) (vA b 6 f λe f=>aR e (fb (d+16) λd=>GX b a c λe f i=>fm b 0 1 λb j=>g5 j 2 a c λ_ j=>aU a 54 [b,j] c d (λb c d=>ap (ss false 0 1 b) λb=>kS a c f λf=>gb f (some i) (jq a e [i,b] c d (λa b c=>hs a λa d=>g (.tuple [a,d]) b c) h)) h) (tb b 12 7 λi=>bk (λb c d=>cw (b 77) λe=>bk f λf=>aR e (fb (d+11) λd=>GX b a c λe f i=>vz b 2 a 106 c d h λb c d=>kS a c f λf=>gb f (some i) (jq a e [i,b] c d (λa b c=>hs a λa d=>g (.tuple [a,d]) b c) h)) (tb b 12 16 λe=>bk (λb c d=>cw (b 92) λe=>bk f λf=>aR e (fb (d+18) λd=>GX b a c λe f i=>vz b 2 a 106 c d h λc d j=>Fx c (b 2) d λb d=>iP c (gy 3 b (.Z 0)) d λb d=>JN c 0 b d a λb d=>iP c (gm .not b) d λb d=>cS (λb=>kS a d f λc=>gb c (some i) (jq a e [i,b] d j (λa b c=>hs a λa d=>g (.tuple [a,d]) b c) h)) λa=>aR c (a b) (a .zF)) (tb b 12 10 λe=>bk (λb c d=>cw (b 112) λe=>bk f λf=>aR e (fb (d+9) λd=>cw (b 8) λe=>ap (cG a c 3 (.ptr 2 0)) λf=>vz b 2 a 106 c d h λb c d=>ap (cG a c 3 (.ptr 2 0)) λi=>gb i (some f) (jq a e [f,b] c d (λa b c=>hs a λa d=>g (.tuple [a,d]) b c) h)) (tb b 12 12 λe=>bk (λb c d=>cw (b 122) λe=>bk f λf=>aR e (fb (d+16) λd=>cw (b 8) λe=>ap (cG a c 3 (.ptr 2 0)) λf=>vz b 2 a 106 c d h λc d i=>Fx c (b 2) d λb d=>iP c (gy 3 b (.Z 0)) d λb d=>JN c 0 b d a λb d=>iP c (gm .not b) d λb d=>cS (λb=>ap (cG a d 3 (.ptr 2 0)) λc=>gb c (some f) (jq a e [f,b] d i (λa b c=>hs a λa d=>g (.tuple [a,d]) b c) h)) λa=>aR c (a b) (a .zF)) (vA b 23 f λe f=>aR e (fb (d+18) λd=>fm b 8 2 λe f=>ap (gy 3 f (.Z 1)) λf=>kS a c f λi=>cw (b 2) λj=>xd 3 j λj=>jj j a c λj=>Fx j (b 2) c λb c=>iP j (ur a c 3 b (some (.Z 1)) none none) c λb c=>iQ j (λe=>aU a 106 [b] c d e h) c d λb c d=>cS (λb=>kS a c f λf=>gb f (some i) (jq a e [i,b] c d (λa b c=>hs a λa d=>g (.tuple [a,d]) b c) h)) λa=>aR j (a b) (a .zF)) (vA b 24 f λf i=>aR f (fb (d+20) λd=>GX b a c λe f i=>vz b 2 a 106 c d h λc d j=>Fx c (b 0) d λd k=>DE c b 1 k 2 a λb k=>kS a k f λl=>gb l (some i) (iQ c (λc=>aU a 54 [d,b] k j c h) k j λb d j=>iP c (ss false 0 1 b) d λb d=>cS (λb=>kS a d f λc=>gb c (some i) (jq a e [i,b] d j (λa b c=>hs a λa d=>g (.tuple [a,d]) b c) h)) λa=>aR c (a b) (a .zF))) (vA b 26 i λi j=>aR i (fb (d+22) λd=>fm b 8 1 λe f=>lx f 4 λf=>kS a c f λf=>te b λi=>lx i 4 λi=>jj i a c λi=>ap (gm .not i) λi=>V5 i (b 2) c λb c=>yj i (gy 3 b (.Z 0)) c λb c=>yj i (gr 0 b) c λb c=>yj i (aP a c b) c λb c=>cS (λb=>jq a e [f,b] c d (λa b c=>hs a λa d=>g (.tuple [a,d]) b c) h) λa=>aR i (a .zT) (a b)) (j (zB b 141 e 159 f 179 i) c d))))) λa=>aR e (a (Z b 122 e) c d) (vA b 13 a λa f=>aR a (f (zA b 122 e 122 a) c d) (vA b 14 f λf g=>aR f (g (zB b 122 e 122 a 122 f) c d) (tb b 12 15 λh=>g (zC b 122 e 122 a 122 f 122 h) c d))))) λa=>aR e (a (Z b 112 e) c d) (tb b 12 11 λf=>a (zA b 112 e 112 f) c d))) λa=>aR e (a (Z b 92 e) c d) (vA b 17 a λa f=>aR a (f (zA b 92 e 92 a) c d) (tb b 12 18 λg=>f (zB b 92 e 92 a 92 g) c d)))) λa=>aR i (a (zA b 61 e 77 i) c d) (vA b 8 a λa f=>aR a (f (zB b 61 e 77 i 77 a) c d) (vA b 9 f λf g=>aR f (g (zC b 61 e 77 i 77 a 77 f) c d) (vA b 21 g λg h=>aR g (h (Z (zC b 61 e 77 i 77 a 77 f) 77 g) c d) (tb b 12 22 λj=>h (zA (zC b 61 e 77 i 77 a 77 f) 77 g 77 j) c d))))))) λa=>aR e (a (Z b 45 e) c d) (vA b 19 a λa f=>aR a (f (zA b 45 e 45 a) c d) (tb b 12 20 λg=>f (zB b 45 e 45 a 45 g) c d)))) λa=>aR m (a (zB (zC (cP [b,c,d]) 6 .aV 7 .zF 8 (.func (.func 105) [] []) 12 i) 13 j 23 k 35 m) e f) (ap (bn .eql i (.Z 5)) λg=>a (zC (zC (cP [b,c,d]) 6 .aV 7 .zF 8 (.func (.func 105) [] []) 12 i) 13 j 23 k 35 m 35 g) e f)))
def aol:c2 X 84 [a0,bb,b5] h j ah av=abL X a0 bb b5 h j ah av:=Zk
def aok:cQ X 84 3=true:=Zk
def ξ(a:aK)(b c:D)(d:Q af)(e:Nat)(f _:bJ):Prop:=
 ha a d e b λb d e=>kS a d b λb=>Nt b e λb=>gO a d e b.1 b.2 λa b d=>f (.tuple [a,c]) b d
def ak4:c2 X 105 [a0,bb] h j ah av=ξ X a0 bb h j ah av:=Zk
def ak3:cQ X 105 2=true:=Zk
def ο(a:aK)(b:D)(c:Q af)(d:Nat)(e f:bJ):Prop:=
 ha a c d b λb c d=>ap (aP a c b) λg=>aU a 126 [g, .func (.func 127) [] [b]] c d (λa b c=>ap (gm .not a) λa=>e a b c) f
def ak6:c2 X 106 [a0] h j ah av=ο X a0 h j ah av:=Zk
def ak5:cQ X 106 1=true:=Zk
def π(a:aK)(b c d:D)(e:Q af)(f:Nat)(g h:bJ):Prop:=
 fb (f+14) λf=>g5 b 1 a e λ_ i=>g5 c 2 a e λ_ c=>aU a 79 [i,c] e f (λc e f=>hs c λc _=>g5 b 1 a e λ_ b=>g5 b 0 a e λ_ b=>ap (gy 6 b c) λb=>DC a e b f λb c e=>fb (c+12) λc=>e0 3 b a e λ_ f=>e0 2 b a e λb i=>jq a (.func (.func 128) [] []) [f] e c (λc e f=>ap (aP a e b) λb=>gb b (some i) (jq a (.func (.func 128) [] []) [i] e f (λb e f=>aU a 57 [b,d] e f (λa b d=>g (.tuple [c,a]) b d) h) h)) h) h
def ak8:c2 X 107 [a0,bb,b5] h j ah av=π X a0 bb b5 h j ah av:=Zk
def ak7:cQ X 107 3=true:=Zk
def aaj(a:aK)(b c:D)(d:Q af)(e:Nat)(f _:bJ):Prop:=
 ha a d e b λb d e=>fb (e+6) λe=>kS a d b λb=>ap (aP a d c) λc=>xd 3 c λc=>kS a d c λc=>ap (c5 a d .neq 44 false b c) λa=>f a d e
def alJ:c2 X 127 [a0,bb] h j ah av=aaj X a0 bb h j ah av:=Zk
def alI:cQ X 127 2=true:=Zk
def aak(a:aK)(b:D)(c:Q af)(d:Nat)(e _:bJ):Prop:=
 hO b (λa b c=>qm a λa=>e a b c) λe f=>e2 (λb c d e=>gW c 8 7 λg=>bk (λc d e=>bk (λa c d=>ge a 8 λe=>b (Z a 8 e) c d) λb=>Br c 6 8 a d e λd e f=>qm c λg=>ap (gr 2 d) λh=>kS a f h λh=>Nt h e λh=>Bu a f e h.1 h.2 3 g λa e f=>b (zA c 5 d 3 a) e f) λa=>aR g (a (Z c 9 g) d e) (f (Z c 9 g) d e)) (Z (zC (cP [b]) 2 .aV 3 .aV 6 b 7 e) 8 (.Z 0)) c d
def alL:c2 X 128 [a0] h j ah av=aak X a0 h j ah av:=Zk
def alK:cQ X 128 1=true:=Zk
end
noncomputable section
section
variable{X:cl}{h S' aI aM:Q af}{j an aO aZ:Nat}{P:Nat->Prop}
def nG(X:cl)(h:Q af)(P:Nat->Prop)(aS:D)(l:List eu):Prop:=∃b,dL X h P b aS 3 (l.map eD)
def nG.aa{bu:Nat->Prop}{aS:D}{l:List eu}(a:nG X h P aS l)(z:∀e,P e->U X S' e=U X h e)(aC:∀e,P e->bu e):nG X S' bu aS l:=by
 obtain⟨b,a⟩:=a
 exact⟨b,(a.aa z).lift aC⟩
def ad7(X:cl):List Field:=match (o X).P.underlying 44 with|some (.struct jF)=>jF.toList|_=>[]
def arG(eq:Nat->D->D->Option Bool)(H b c fL dM fS:D):yZ X eq (ad7 X) [H,b,c] [fL,dM,fS]=(match eq 4 H fL with|some true=>(match eq 4 b dM with|some true=>(match eq 3 c fS with|some true=>some true|some false=>some false|none=>none)|some false=>some false|none=>none)|some false=>some false|none=>none):=Zk
def arD(cn m6:List D):i2 X h 50 44 (.agg cn) (.agg m6)=yZ X (i2 X h 49) (ad7 X) cn m6:=Zk
def Tn(H b:Bool):i2 X h 49 4 (.bool H) (.bool b)=some (Hr H b):=Zk
def arU(H b:Int):i2 X h 49 3 (.Z H) (.Z b)=some (u7 H b):=Zk
def SG(H b:Bool):Hr H b=decide (H=b):=by cases H<;>cases b<;>rfl
def arS(H b:eu):i2 X h 50 44 (.agg (eD H)) (.agg (eD b))=some (decide (H=b)):=by
 obtain⟨bb,b5,a3⟩:=H
 obtain⟨bY,co,cY⟩:=b
 simp only[eD]
 rw[arD,arG,Tn,Tn,arU,SG,SG,CO]
 by_cases M:bb=bY<;>by_cases R:b5=co<;>by_cases ak:a3=cY<;>simp[M,R,ak]
def aim(H b:eu):c5 X h .neq 44 false (.agg (eD H)) (.agg (eD b))=some (.bool (!decide (H=b))):=by
 have a:c5 X h .neq 44 false (.agg (eD H)) (.agg (eD b))=(match i2 X h 50 44 (.agg (eD H)) (.agg (eD b))with|some b=>nI (!b)|none=>none):=Zk
 rw[a,arS]
 cases decide (H=b)<;>rfl
def Mo{b W:Nat}{c:Q D}{n:Nat}{st:oU}{t:eu}(ag:U X h b=some (.cells c n st))(a:c.li W 3=some (eD t)):cG X h 3 (.ptr b W)=some (.agg (eD t)):=by
 rw[wJ,ag];simp only[a,ZT]
structure yY(X:cl)(h:Q af)(P:Nat->Prop)(aS:D)(l:List eu):Prop where
 len:gz aS=some (.Z (l.length:Int))
 many:l.length<=300000
 fx:∀(i:Nat) t,l[i]? =some t->∃b W,gy 3 aS (.Z (i:Int))=some (.ptr b W)/\P b/\cG X h 3 (.ptr b W)=some (.agg (eD t))/\aP X h (.ptr b W)=some (.bool t.b)
def yY.aa{bu:Nat->Prop}{aS:D}{l:List eu}(a:yY X h P aS l)(z:∀e,P e->U X S' e=U X h e)(aC:∀e,P e->bu e):yY X S' bu aS l:=
 ⟨a.len,a.many,λi t aG=>by
  obtain⟨b,W,M,R,ak,aA⟩:=a.fx i t aG
  exact⟨b,W,M,aC b R,by rw[wJ,z b R, <-wJ];exact ak,zD (z b R) aA⟩⟩
def nG.rd{aS:D}{l:List eu}(a:nG X h P aS l):yY X h P aS l:=by
 obtain⟨b,a⟩:=a
 have aC:=a.len
 have bp:=a.many
 rw[Zi]at aC bp
 refine⟨aC,bp,λi t aG=> ?_⟩
 have l5:=(Zc.1 aG).1
 have Y:(l.map eD)[i]? =some (eD t):=by rw[Zu,aG];rfl
 refine⟨b,i*3,a.fx i (by rw[Zi];omega),a.ag (λE=>by rw[E]at Y;cases Y),a.row Zd Y, ?_⟩
 exact a.cell i (eD t) 0 _ Y rfl
def aAj(au:dj X){H b:eu}{l:List eu}{aS:D}{c:Nat}(aE:(o X).a2<=j)(ax:c<j)(hx:aP X h (.ptr c 0)=some aS)(be:yY X h P aS (b::l))(bq:∀e,P e->e<j):
 aU X 127 [.agg (eD H), .ptr c 0] h j (λac S' an=>ac= .bool (!decide (H=b))/\ba X h j S' an) (λ_ _ _=>False):=by
 refine zz au (alI X) ?_
 rw[alJ]
 unfold aaj
 obtain⟨cO,W,dp,om,wt,_⟩:=be.fx 0 b rfl
 have dp:gy 3 aS (.Z 0)=some (.ptr cO W):=dp
 refine pG ?_
 generalize c6:bj X h j _=aI
 have bI:cG X aI 3 (.ptr j 0)=some (.agg (eD H)):=by rw[<-c6];exact Mo (a7 aE) (by cases H;rfl)
 have bH:ba X h j aI (j+1):=by rw[<-c6];exact dz
 clear c6
 have aJ:=λe (B:P e)=>bH.aa e (bq e B)
 have hz:cG X aI 3 (.ptr cO W)=some (.agg (eD b)):=by rw[wJ,aJ cO om, <-wJ];exact wt
 have auN:aP X aI (.ptr c 0)=some aS:=zD (bH.aa c ax) hx
 refine fO @bI @auN @dp @hz @aim ⟨?_⟩
 exact⟨rfl,bH.more Zo⟩
def aAk(b:eu)(l:List eu):ug (b::l)=(b::l).all (λH=>decide (H=b)):=rfl
def axu(au:dj X){b:eu}{l:List eu}{aS:D}{c:Nat}(aE:(o X).a2<=j)(ax:c<j)(hx:aP X h (.ptr c 0)=some aS)(be:yY X h P aS (b::l))(bq:∀e,P e->e<j):
 aU X 138 [aS, .func (.func 127) [] [.ptr c 0]] h j (λac S' an=>(∃z:Int,ac= .Z z/\decide (0<=z)= !ug (b::l))/\ba X h j S' an) (λ_ _ _=>False):=by
 refine zz au (al2 X) ?_
 rw[al3]
 unfold aat
 have d0:=be.len
 have hU:=be.many
 rw[aAk]
 generalize gS:b::l=L at*
 refine cd @d0 ⟨?_⟩
 refine fh (λm I S' aN=>∃(S:Nat),I.g 0=some aS/\I.g 1=some (.func (.func 127) [] [.ptr c 0])/\I.g 7=some (.Z (L.length:Int))/\I.g 8=some (.Z (S:Int))/\S+m=L.length/\ba X h j S' aN/\L.all (λH=>decide (H=b))=(L.drop S).all (λH=>decide (H=b)))
  L.length ⟨0,a8,a8,a8,fq,Zo,ba.refl _ _,rfl⟩ ?_
 rintro m I aM aZ ⟨S,t0,t1,gc,t8,bE,bx,b7⟩
 have fJ:=bx.le
 cases m with
 |zero=>
  have d:=zt S L.length
  rw[ZC Zo]at b7
  refine dI @t8 @gc @d ⟨?_⟩
  exact⟨⟨-1,rfl,by rw[b7];rfl⟩,bx⟩
 |succ m=>
  have d:=zu S L.length
  have bz:=zx S
  obtain⟨g,b2⟩:=zv L S
  have aF:L.drop S=g::L.drop (S+1):=by
   obtain⟨ae,B⟩:=Zc.1 b2
   rw[Zq ae,B]
  have aJ:=λe (B:P e)=>bx.aa e (bq e B)
  obtain⟨cO,W,dp,om,hz,_⟩:=(be.aa (bu:=P) aJ (λ_ a=>a)).fx S g b2
  have UK:aP X aM (.ptr c 0)=some aS:=zD (bx.aa c ax) hx
  rw[aF,List.all_cons]at b7
  refine d9 @t8 @gc @t1 @t0 @d @dp @hz ⟨?_⟩
  refine(aAj au (b:=b) (l:=l) (aS:=aS) Zo Zo UK (by rw[gS];exact be.aa (bu:=P) aJ (λ_ a=>a)) (λe B=>zs (bq e B))).Zm ?_
  rintro ac a1 bi ⟨rfl,ck⟩
  by_cases jb:g=b
  ·have cy:(!decide (g=b))=false:=by simp[jb]
   have e1:decide (g=b)=true:=by simp[jb]
   rw[e1,zi]at b7
   rw[cy]
   refine cI @t8 @bz ⟨?_⟩
   exact⟨m,Zo,S+1,aL t0,aL t1,aL gc,a8,Zo,bx.trans ck,b7⟩
  ·have cy:(!decide (g=b))=true:=by simp[jb]
   have e1:decide (g=b)=false:=by simp[jb]
   rw[e1,Bool.false_and]at b7
   rw[cy]
   refine cx ⟨?_⟩
   exact⟨⟨S,rfl,by rw[b7];simp⟩,bx.trans ck⟩
def aqP(au:dj X){b:eu}{l:List eu}{aS:D}{c:Nat}(aE:(o X).a2<=j)(ax:c<j)(hx:aP X h (.ptr c 0)=some aS)(be:yY X h P aS (b::l))(bq:∀e,P e->e<j):
 aU X 126 [aS, .func (.func 127) [] [.ptr c 0]] h j (λac S' an=>ac= .bool (!ug (b::l))/\ba X h j S' an) (λ_ _ _=>False):=by
 refine zz au (alG X) ?_
 rw[alH]
 unfold aai
 refine(axu au aE ax hx be bq).Zm ?_
 rintro ac S' aN ⟨⟨z,rfl,aJ⟩,bU⟩
 refine cx ⟨?_⟩
 exact⟨by rw[aJ],bU⟩
def Jc(au:dj X){b:eu}{l:List eu}{aS:D}(aE:(o X).a2<=j)(g2:aS.cells=[aS])(be:yY X h P aS (b::l))(bq:∀e,P e->e<j):
 aU X 106 [aS] h j (λac S' an=>ac= .bool (ug (b::l))/\ba X h j S' an) (λ_ _ _=>False):=by
 refine zz au (ak5 X) ?_
 rw[ak6]
 unfold ο
 refine pG ?_
 rw[g2]
 generalize c6:bj X h j _=aI
 have bI:aP X aI (.ptr j 0)=some aS:=by rw[<-c6,bc (a7 aE)];rfl
 have bH:ba X h j aI (j+1):=by rw[<-c6];exact dz
 clear c6
 have aJ:=λe (B:P e)=>bH.aa e (bq e B)
 refine cd @bI ⟨?_⟩
 refine(aqP au Zo Zo bI (be.aa (bu:=P) aJ (λ_ a=>a)) (λe B=>zs (bq e B))).Zm ?_
 rintro ac aM aZ ⟨rfl,bx⟩
 refine cx ⟨?_⟩
 exact⟨Zs,bH.trans bx⟩
def MF(au:dj X){t:aY->Option c8}{bO:Nat}{b6:D}(aE:(o X).a2<=j)(iD:bO<j)(ax:aP X h (.ptr bO 2)=some b6)(be:i1 X h P b6 t)(bq:∀e,P e->e<j)(w:aY):
 aU X 54 [.ptr bO 0, .str w] h j (λac S' an=>ac= .agg (eD (qa t w))/\ba X h j S' an) (λ_ _ _=>False):=by
 refine zz au (anp X) ?_
 rw[anq]
 unfold abc
 refine pD ?_
 generalize c6:bj X h j _=aI
 have bI:U X aI j=zw [.zF, .zF, .Z 0] 3:=by rw[<-c6,a7 aE];rfl
 have bH:ba X h j aI (j+1):=by rw[<-c6];exact dz
 clear c6
 have aJ:=λe (B:P e)=>bH.aa e (bq e B)
 have ry:aP X aI (.ptr bO 2)=some b6:=zD (bH.aa bO iD) ax
 refine cd @ry ⟨?_⟩
 refine(vV au Zo (be.aa (bu:=P) aJ (λ_ a=>a)) (λe B=>zs (bq e B)) w).Zm ?_
 rintro ac aM aZ ⟨rfl,bx⟩
 have fJ:=bx.le
 unfold qa
 generalize (t w).getD ld=v at*
 have nl:ky v=[.Z v.kind, .str v.d.name, .Z v.d.at_, .bool v.d.ty.b, .bool v.d.ty.s, .Z v.d.ty.w, .str v.d.on, .Z v.d.et, .bool v.d.no, .Z v.eq, .Z v.left]:=rfl
 rw[nl]
 have bN:U X aM j=zw [.zF, .zF, .Z 0] 3:=by rw[bx.aa _ Zo];exact bI
 have hv:=bH.trans bx
 refine cx ⟨?_⟩
 generalize fl:bj X _ aZ _=a1
 have cH:U X a1 aZ=zw [.Z v.kind, .str v.d.name, .Z v.d.at_, .bool v.d.ty.b, .bool v.d.ty.s, .Z v.d.ty.w, .str v.d.on, .Z v.d.et, .bool v.d.no, .Z v.eq, .Z v.left] 11:=by rw[<-fl,a7 Zo];rfl
 have eb:U X a1 j=zw [.zF, .zF, .Z 0] 3:=by rw[<-fl];simp(disch:=omega) only[aB];exact bN
 have ck:ba X h j a1 (aZ+1):=⟨Zo,λe B=>by rw[<-fl];simp(disch:=omega) only[aB];exact hv.aa e B⟩
 clear fl
 have aC:cG X a1 3 (.ptr aZ 3)=some (.agg (eD v.d.ty)):=Mo cH rfl
 refine cd @aC ⟨?_⟩
 generalize eS:bj X _ j _=bA
 have afT:cG X bA 3 (.ptr j 0)=some (.agg (eD v.d.ty)):=by rw[<-eS];exact Mo (a7 aE) rfl
 have c0:ba X h j bA (aZ+1):=⟨Zo,λe B=>by rw[<-eS];simp(disch:=omega) only[aB];exact ck.aa e B⟩
 clear eS
 refine cd @afT ⟨?_⟩
 exact⟨rfl,c0⟩
def KI(au:dj X)(aE:(o X).a2<=j)(H:Int){ah:bJ}:
 aU X 55 [.Z H] h j ah (λac S' an=>ac=pL 26 H/\ba X h j S' an):=by
 refine zz au (anr X) ?_
 rw[ans]
 unfold abd
 refine cx ⟨?_⟩
 exact⟨⟨rfl,dz⟩⟩
end
section
variable{X:cl}{h S' aI aM:Q af}{j an aO aZ:Nat}{P:Nat->Prop}
def qh(l:List eu):List (List D):=l.map eD
def Nb(l:List eu):∀r∈qh l,r.length=3:=by
 intro r Y
 obtain⟨t,_,rfl⟩:=ZI.1 Y
 rfl
def ajY(l:List eu):(qh l).flatten.length=l.length*3:=by
 rw[tz (Nb l)];simp[qh]
def aAl(t:eu):jf (eD t)=true:=rfl
def XS{s:D}{l:List eu}{cq:List Nat}{t:eu}{cO:Nat}{st:oU}(a:gk X h s 3 (qh l).flatten cq)(ag:U X h cO=some (.cells (Q.ofList (eD t) 0 .nil) 3 st))(bp:l.length<=300000)(aE:(o X).a2<=j)(cZ:∀e∈cq,e<j)(cap:Nat):
 ∃eJ S' gf,jC X h j 3 s (.slice cO 0 1 cap)=some (.fv eJ S' (j+1))/\gk X S' eJ 3 (qh (l++[t])).flatten gf/\(∀e∈gf,e=j\/e∈cq)/\∀e,e≠j->e∉cq->U X S' e=U X h e:=by
 have gS:=ajY l
 obtain⟨eJ,S',gf,M,R,ak,aA⟩:=a.append (j:=j) Zd (rT (z:=1) ag (l8 _) rfl cap) rfl Zd (aAl t) (by rw[gS];simp[eD];omega) aE cZ
 refine⟨eJ,S',gf,M, .inl ?_,ak,aA⟩
 have:(qh (l++[t])).flatten=(qh l).flatten++eD t:=by simp[qh]
 rw[this];exact R
def ajX(au:dj X){ds:List eF}{aS:D}{b:Nat}(aE:(o X).a2<=j)(cB:dL X h P b aS 8 (ds.map d2))(bq:∀e,P e->e<j)(bp:ds.length<=100000):
 aU X 128 [aS] h j (λac S' an=>(ac.cells=[ac]/\nG X S' (dr j an) ac (ds.map (·.ty)))/\ba X h j S' an) (λ_ _ _=>False):=by
 refine zz au (alK X) ?_
 rw[alL]
 unfold aak
 have d0:=cB.len
 rw[Zi]at d0
 refine cd @d0 ⟨?_⟩
 refine fh (λm I S' aN=>∃(S:Nat) (s:D) (cq:List Nat),I.g 3=some s/\I.g 6=some aS/\I.g 7=some (.Z (ds.length:Int))/\I.g 8=some (.Z (S:Int))/\S+m=ds.length/\ba X h j S' aN/\gk X S' s 3 (qh ((ds.take S).map (·.ty))).flatten cq/\∀e∈cq,j<=e/\e<aN)
  ds.length ⟨0, .aV,[],a8,a8,a8,fq,Zo,ba.refl _ _, .inl (.inl ⟨rfl,rfl,rfl⟩),Zs⟩ ?_
 rintro m I aM aZ ⟨S,s,cq,t3,eX,gc,t8,bE,bx,aD,eC⟩
 have fJ:=bx.le
 cases m with
 |zero=>
  have d:=zt S ds.length
  rw[ZA Zo]at aD
  refine fI @t8 @gc @d @t3 ⟨?_⟩
  obtain⟨bz,cF,f0⟩:=gk.one aD
  obtain⟨dM,cz⟩:=aD.qZ (P:=dr j aZ) Zd (Nb _) (by simp[qh];omega) eC
  exact⟨⟨bz,dM,cz⟩,bx⟩
 |succ m=>
  have d:=zu S ds.length
  have bz:=zx S
  obtain⟨g,b2⟩:=zv ds S
  have aJ:=λe (B:P e)=>bx.aa e (bq e B)
  have dp:=cB.fx S (by rw[Zi];omega)
  have hz:=(cB.aa aJ).row Zd (i:=S) (r:=d2 g) (by rw[Zu,b2];rfl)
  have kI:ds.take (S+1)=ds.take S++[g]:=by rw[ZQ,b2];rfl
  refine hu @t8 @gc @eX @d @dp @hz ⟨?_⟩
  generalize fl:bj X _ aZ _=a1
  have cH:U X a1 aZ=zw (d2 g) 8:=by rw[<-fl,a7 Zo];rfl
  have c1:∀e,e<aZ->U X a1 e=U X aM e:=λe B=>by rw[<-fl];exact zy
  clear fl
  have aC:cG X a1 3 (.ptr aZ 2)=some (.agg (eD g.ty)):=Mo cH rfl
  refine dI @t3 @aC eD.eq_1 ⟨?_⟩
  generalize eS:bj X a1 _ _=bA
  have dg:U X bA (aZ+1)=zw (eD g.ty) 3:=by rw[<-eS,a7 Zo];rfl
  have dJ:∀e,e<aZ->U X bA e=U X aM e:=λe B=>by rw[<-eS,aB Zo Zo];exact c1 e B
  clear eS
  obtain⟨eJ,bM,gf,ii,Ff,wg,mx⟩:=XS (j:=aZ+1+1) (aD.aa (S':=bA) (λe B=>dJ e (eC e B).2)) dg (by rw[Zi,YZ];omega) Zo (λe B=>zs (eC e B)) 1
  refine kb ii ?_
  refine cI @t8 @bz ⟨?_⟩
  refine⟨m,Zo,S+1,eJ,gf,a8,aL eX,aL gc,a8,Zo,⟨Zo,λe B=> ?_⟩, ?_,λe B=> ?_⟩
  ·rw[mx e Zo (λa=>zs (eC e a)),dJ e Zo];exact bx.aa e B
  ·rw[kI,ZX];exact Ff
  ·rcases wg e B with rfl|a
   ·omega
   ·have:=eC e a;omega
end
end
noncomputable section
variable (X : cl) (h : Q af) (j : Nat) (ah av : bJ) (a0 bb b5 a3 a4 a5 hR io ip : D)
def abf(a:aK)(b c:D)(d:Q af)(e:Nat)(f _:bJ):Prop:=
 ap (gz b) λg=>ap (gz c) λh=>ap (bn .neq g h) λg=>bk (λb c d=>e4 b λe=>hO e (λ_ a b=>f .zT a b) λe g=>e2 (λb c d e=>gW c 13 12 λh=>bk (λc d e=>bk (λa c d=>ge a 13 λe=>b (Z a 13 e) c d) λb=>cw (c 13) λg=>fb (e+9) λe=>e4 c λh=>ap (gy 3 h g) λh=>kS a d h λh=>te c λi=>ap (gy 3 i g) λi=>kS a d i λi=>ap (c5 a d .neq 44 false h i) λa=>bk b λb=>aR a (f .zF d e) (b (zA c 5 g 24 a) d e)) λa=>aR h (a (Z c 14 h) d e) (g (Z c 14 h) d e)) (zA b 12 e 13 (.Z 0)) c d) λa=>aR g (f .zF d e) (a (zA (cP [b,c]) 4 .zF 10 g) d e)
def anw:c2 X 57 [a0,bb] h j ah av=abf X a0 bb h j ah av:=Zk
def anv:cQ X 57 2=true:=Zk
end
noncomputable section
section
variable{X:cl}{h S' aI aM:Q af}{j an aO aZ:Nat}{P:Nat->Prop}
def adG(au:dj X){A bo:List eu}{k8 MZ:D}(aE:(o X).a2<=j)(az:nG X h P k8 A)(ag:nG X h P MZ bo)(bq:∀e,P e->e<j):
 aU X 57 [k8,MZ] h j (λac S' an=>ac= .bool (decide (A=bo))/\ba X h j S' an) (λ_ _ _=>False):=by
 refine zz au (anv X) ?_
 rw[anw]
 unfold abf
 obtain⟨bY,PM⟩:=az
 obtain⟨co,LO⟩:=ag
 have Lw:=PM.len
 have ws:=LO.len
 have avH:=PM.many
 rw[Zi]at Lw ws avH
 by_cases aC:A.length=bo.length
 ·have d:decide ((A.length:Int)≠(bo.length:Int))=false:=by simp[aC]
  refine dI @Lw @ws @d ⟨?_⟩
  refine fh (λm I S' aN=>∃(S:Nat),I.g 0=some k8/\I.g 1=some MZ/\I.g 12=some (.Z (A.length:Int))/\I.g 13=some (.Z (S:Int))/\S+m=A.length/\ba X h j S' aN/\decide (A=bo)=decide (A.drop S=bo.drop S))
   A.length ⟨0,a8,a8,a8,fq,Zo,ba.refl _ _,rfl⟩ ?_
  rintro m I aM aZ ⟨S,t0,t1,t12,mb,bE,bx,b7⟩
  have fJ:=bx.le
  cases m with
  |zero=>
   have d:=zt S A.length
   rw[ZC Zo,ZC Zo]at b7
   refine dI @t12 @mb @d ⟨?_⟩
   exact⟨by rw[b7];rfl,bx⟩
  |succ m=>
   have d:=zu S A.length
   have bz:=zx S
   obtain⟨g,b2⟩:=zv A S
   obtain⟨a,gx⟩:=zv bo S
   have Pc:A.drop S=g::A.drop (S+1):=by
    obtain⟨ae,B⟩:=Zc.1 b2
    rw[Zq ae,B]
   have qH:bo.drop S=a::bo.drop (S+1):=by
    obtain⟨ae,B⟩:=Zc.1 gx
    rw[Zq ae,B]
   have aJ:=λe (B:P e)=>bx.aa e (bq e B)
   have dp:=PM.fx S (by rw[Zi];omega)
   have tT:=LO.fx S (by rw[Zi];omega)
   have hz:=(PM.aa aJ).row Zd (i:=S) (r:=eD g) (by rw[Zu,b2];rfl)
   have awB:=(LO.aa aJ).row Zd (i:=S) (r:=eD a) (by rw[Zu,gx];rfl)
   rw[Pc,qH]at b7
   have I7:=aim (X:=X) (h:=aM) g a
   refine d9 @t0 @t1 @t12 @mb @d @dp (Za @tT (Za @hz (Za @awB @I7))) ⟨?_⟩
   by_cases U0:g=a
   ·subst U0
    have cy:(!decide (g=g))=false:=by simp
    rw[cy]
    refine cI @mb @bz ⟨?_⟩
    exact⟨m,Zo,S+1,aL t0,aL t1,aL t12,a8,Zo,bx.more Zo,by rw[b7];simp⟩
   ·have cy:(!decide (g=a))=true:=by simp[U0]
    rw[cy]
    refine cx ⟨?_⟩
    exact⟨by rw[b7];simp[U0],bx.more Zo⟩
 ·have d:decide ((A.length:Int)≠(bo.length:Int))=true:=by simp only[Zg];omega
  have dQ:A≠bo:=λE=>aC (by rw[E])
  refine dI @Lw @ws @d ⟨?_⟩
  exact⟨by simp[dQ],ba.refl _ _⟩
def aBW(au:dj X)(aE:(o X).a2<=j)(t:eu)(b:Bool):
 jq X (.func (.func 105) [] []) [.agg (eD t), .bool b] h j (λac S' an=>∃w,ac= .tuple [w, .bool b]/\w.cells=[w]/\nG X S' (dr j an) w [t]/\ba X h j S' an) (λ_ _ _=>False):=by
 refine L8 ?_
 show aU X 105 [.agg (eD t), .bool b] h j _ _
 refine zz au (ak3 X) ?_
 rw[ak4]
 unfold ξ
 refine pG ?_
 generalize c6:bj X h j _=aI
 have bI:cG X aI 3 (.ptr j 0)=some (.agg (eD t)):=by rw[<-c6];exact Mo (a7 aE) (by cases t;rfl)
 have bH:ba X h j aI (j+1):=by rw[<-c6];exact dz
 clear c6
 refine cI @bI eD.eq_1 ⟨?_⟩
 generalize d3:bj X aI _ _=aM
 have bN:U X aM (j+1)=zw [eD t].flatten (1*3):=by rw[<-d3,a7 Zo];rfl
 have bx:ba X h j aM (j+1+1):=⟨Zo,λe B=>by rw[<-d3,aB Zo Zo];exact bH.aa e B⟩
 exact⟨_,rfl,rfl,⟨j+1,Jm (bK:=[eD t]) bN rfl (by simp[eD]) Zo ⟨Zo,Zo⟩⟩,bx⟩
structure G0(X:cl)(h:Q af)(bO:Nat)(Dx p b6:D):Prop where
 dB:aP X h (.ptr bO 0)=some Dx
 cX:aP X h (.ptr bO 1)=some p
 dN:aP X h (.ptr bO 2)=some b6
def G0.aa{bO:Nat}{Dx p b6:D}(a:G0 X h bO Dx p b6)(z:U X S' bO=U X h bO):G0 X S' bO Dx p b6:=by
 have aC:∀W,aP X S' (.ptr bO W)=aP X h (.ptr bO W):=λW=>by rw[cv,cv,z]
 exact⟨by rw[aC];exact a.dB,by rw[aC];exact a.cX,by rw[aC];exact a.dN⟩
def asf{nm:aY}:∀(am:List Go.aT.Node) (z S:Nat),HG nm z am=some S->S<z+am.length:=by
 intro am
 induction am with
 |nil=>intro z S a;cases a
 |cons g am ai=>
  intro z S a
  unfold HG at a
  split at a
  ·cases a;simp
  ·have:=ai _ _ a;simp;omega
def ash{am:List Go.aT.Node}{nm:aY}(aX:am≠[]):(qA am nm).getD 0<am.length:=by
 have:0<am.length:=Yk.2 aX
 cases a:qA am nm with
 |none=>exact this
 |some S=>have:=asf am 0 S a;simpa using this
def aqp(au:dj X){am:List Go.aT.Node}{bO:Nat}{Dx p b6:D}(aE:(o X).a2<=j)(iD:bO<j)(ax:G0 X h bO Dx p b6)(b2:oS X h P am p)(aX:am≠[])(bq:∀e,P e->e<j)(bp:∀g∈am,g.d4.length<=100000/\g.out.length<=100000)
 {E:bD}{v:D}(bC:cE X h P E v){H:List eu}{aS:D}(az:nG X h P aS H):
 aU X 107 [.ptr bO 0,v,aS] h j (λac S' an=>∃w,ac= .tuple [w, .bool (Ko am E.name H).2]/\w.cells=[w]/\nG X S' (dr j an) w (Ko am E.name H).1/\ba X h j S' an) (λ_ _ _=>False):=by
 refine zz au (ak7 X) ?_
 rw[ak8]
 unfold π
 obtain⟨jT,_,_,_,rfl,afp,_,_,arw,_⟩:=bC.open
 have cX:=ax.cX
 refine cI @cX @arw ⟨?_⟩
 refine(Tx (j:=j+14) au Zo b2 (λe B=>zs (bq e B)) E.name).Zm ?_
 rintro ac aI aO ⟨rfl,bH⟩
 have jJ:=bH.le
 have lK:=λe (B:P e)=>bH.aa e (zs (bq e B))
 have Cs:=ash (nm:=E.name) aX
 unfold Ko
 generalize x7:(qA am E.name).getD 0=z at*
 obtain⟨g,EX⟩:∃g,am[z]? =some g:=⟨_,Ze Cs⟩
 rw[EX]
 obtain⟨k1,ko⟩:=bp g (Zl EX)
 obtain⟨jv,Jk,QR,bK,rfl,om,a0,cB,kG⟩:=b2
 have PF:=kG.wide
 obtain⟨row,e9,jK⟩:=kG.get z g EX
 have agh:=jK.aa (bu:=P) lK (λ_ a=>a)
 have ry:=(ax.aa (bH.aa bO Zo)).cX
 have J6:aP X aI (.ptr jv 0)=some Jk:=zD (bH.aa jv (zs (bq jv om))) a0
 have dp:=cB.fx z (by rw[PF.1];omega)
 have hz:=(cB.aa lK).row Zd e9
 have fg:=jK.len
 have yc:=agh.jf
 obtain⟨c7,dv,ajn,eH,bY,co,cY,fM,eqs,rfl,AK,jL,_⟩:=agh
 refine fI @ry @J6 @dp @hz ⟨?_⟩
 refine f8 (iH (z:=6) (b:=aO) (W:=0) (n:=6) (a7 Zo) Zo rfl Zd Zd yc) ?_
 refine cx ⟨?_⟩
 show aU X 128 [dv] _ _ _ _
 generalize d3:bj X _ aO _=aM
 have bN:U X aM aO=zw [.str g.name, .Z g.at_,c7,dv,ajn,eH] 6:=by rw[<-d3,a7 Zo];rfl
 have bx:ba X h j aM (aO+1+12):=⟨Zo,λe B=>by rw[<-d3];simp(disch:=omega) only[aB];exact bH.aa e Zo⟩
 have iu:∀e,P e->U X aM e=U X aI e:=λe B=>by rw[bx.aa e (bq e B),lK e B]
 clear d3
 refine(ajX au Zo (jL.aa iu) (λe B=>zs (bq e B)) ko).Zm ?_
 rintro w8 a1 bi ⟨⟨aw1,PW⟩,ck⟩
 have iO:=ck.le
 have cH:U X a1 aO=zw [.str g.name, .Z g.at_,c7,dv,ajn,eH] 6:=by rw[ck.aa _ Zo];exact bN
 obtain⟨cN,cA,eb⟩:=kt AK.len
 refine cd (bc cH) ⟨?_⟩
 refine f4 eb ?_
 refine L8 ?_
 show aU X 128 [c7] _ _ _ _
 have mP:∀e,P e->U X a1 e=U X aI e:=λe B=>by rw[ck.aa e (zs (bq e B)),iu e B]
 refine(ajX au Zo (AK.aa mP) (λe B=>zs (bq e B)) k1).Zm ?_
 rintro vr bA cK ⟨⟨aGc,PX⟩,c0⟩
 have iF:=c0.le
 have gF:∀e,P e->U X bA e=U X h e:=λe B=>by rw[c0.aa e (zs (bq e B)),mP e B,lK e B]
 have K0:=(bx.trans ((ck.j9 Zo).trans c0))
 refine(adG (P:=λe=>e<cK) au Zo (PX.aa (λ_ _=>rfl) (λe B=>B.2)) (az.aa gF (λe B=>zs (bq e B))) (λe B=>B)).Zm ?_
 rintro vs bM bX ⟨rfl,dC⟩
 have ik:=dC.le
 refine cx ⟨?_⟩
 refine⟨w8,rfl,aw1,PW.aa (λe B=> ?_) (λe B=>⟨zs B.1,zs B.2⟩),K0.trans dC⟩
 have:=B.2
 rw[dC.aa e Zo,c0.aa e Zo]
end
def ri{p:Prop}[Decidable p](a:p):decide p=true:=decide_eq_true a
def rh{p:Prop}[Decidable p](a:¬p):decide p=false:=decide_eq_false a
def Ow(t:eu):ss false 0 1 (.agg (eD t))=some (.bool t.b):=rfl
def uq(t:eu):D.same 30 (.agg (eD t)) (.agg (eD t))=true:=by
 obtain⟨H,b,c⟩:=t
 have M:∀x:Bool,D.same 29 (.bool x) (.bool x)=true:=λx=>by cases x<;>rfl
 have R:D.same 29 (.Z c) (.Z c)=true:=by simp only[D.same];simp
 simp only[eD]
 rw[D.same]
 simp only[lO,M,R,Yn]
section
variable{X:cl}{h S' aI aM:Q af}{j an aO aZ:Nat}{P:Nat->Prop}
def DS(X:cl):Prop:=∀h,cG X h 3 (.ptr 2 0)=some (.agg (eD JD))
def ab2(X:cl)(h:Q af)(j:Nat)(r:List eu×Bool):bJ:=λac S' an=>∃w,ac= .tuple [w, .bool r.2]/\w.cells=[w]/\nG X S' (dr j an) w r.1/\ba X h j S' an
def pY(au:dj X)(aE:(o X).a2<=j)(bU:ba X h j aI aO){I:eu}{bo:Bool}{r:List eu×Bool}(Y:r=([I],bo)):
 aU X 105 [.agg (eD I), .bool bo] aI aO (λXX G8 azC=>ap (n8 0 XX) λaDM=>ap (n8 1 XX) λaDN=>ab2 X h j r (.tuple [aDM,aDN]) G8 azC) (λ_ _ _=>False):=by
 subst Y
 have gn:=bU.le
 have a:=(aBW (h:=aI) (j:=aO) au Zo I bo).out
 refine a.Zm ?_
 rintro ac S' aN ⟨w,rfl,bs,be,bx⟩
 refine cx ⟨?_⟩
 exact⟨w,rfl,bs,be.aa (λ_ _=>rfl) (λe B=>⟨zs B.1,B.2⟩),bU.trans bx⟩
def y3{E:bD}{H:List eu}(bs:DW jl E)(nf:H.length=E.args.length){m:Nat}(a:tr E.kind=some (m+1)):∃b l,H=b::l:=by
 have:=bs.tq _ a
 cases H with
 |nil=>simp at nf;omega
 |cons b l=>exact⟨b,l,rfl⟩
def aDq{H:List eu}{aS:D}{cq:List Nat}(a:gk X h aS 3 (qh H).flatten cq)(R:2<=H.length)(bp:H.length<=1000)(aC:∀e∈cq,P e):
 ∃k9,ur X h 3 aS (some (.Z 1)) none none=some k9/\k9.cells=[k9]/\yY X h P k9 H.tail:=by
 have gS:=ajY H
 obtain⟨Hm,cB⟩:=a.qZ (P:=P) Zd (Nb H) (by simp[qh];omega) aC
 have dA:=(show nG X h P aS H from⟨Hm,cB⟩).rd
 have dp:∀i t,H.tail[i]? =some t->∃b W,gy 3 aS (.Z ((i+1:Nat):Int))=some (.ptr b W)/\P b/\cG X h 3 (.ptr b W)=some (.agg (eD t))/\aP X h (.ptr b W)=some (.bool t.b):=
  λi t aG=>dA.fx (i+1) t (by rw[<-aG];cases H<;>simp)
 have cZ:∀i t,H.tail[i]? =some t->i<H.length-1:=λi t aG=>by have:=(Zc.1 aG).1;simpa using this
 have bz:nV (.Z 1)=some 1:=rfl
 rcases a with (⟨_,a,_⟩|⟨b,fp,n,c,rfl,ak,rfl,aA,bv,b9,dl⟩)|⟨b,n,c,st,rfl,ak,rfl,aA,bv⟩
 ·rw[a]at gS;simp at gS;omega
 ·have aE:n=H.length:=Zo
  subst aE
  have ag:mH H.length ((H.length*3-0)/3) (some (.Z 1)) none none=some (1,H.length,H.length):=by
   have cN:(H.length*3-0)/3=H.length:=Zo
   rw[cN]
   have cA:Nat.ble 1 H.length=true:=lC Zo
   simp only[mH,p3,bz,cA,fo]
  refine⟨.fj b (0+1*3) (H.length-1) 3, ?_,rfl,⟨by rw[wM,List.length_tail],Zx,λi t aG=> ?_⟩⟩
  ·simp only[ur,yC,b9,ag]
   have cN:(H.length*3-0)/3=H.length:=Zo
   rw[cN]
   have cA:Nat.blt 1 H.length=true:=by simp[Nat.blt];omega
   simp[cA,fN]
  ·obtain⟨bY,g9,cN,cA,eb,fW⟩:=dp i t aG
   have ko:=cZ i t aG
   rw[IN _ Zo]at cN
   cases cN
   refine⟨b,0+1*3+i*3,IN _ ko,cA, ?_, ?_⟩
   ·rw[show 0+1*3+i*3=0+(i+1)*3 by omega];exact eb
   ·rw[show 0+1*3+i*3=0+(i+1)*3 by omega];exact fW
 ·have aE:n=H.length:=Zo
  subst aE
  have ag:mH H.length H.length (some (.Z 1)) none none=some (1,H.length,H.length):=by
   have cA:Nat.ble 1 H.length=true:=lC Zo
   simp only[mH,p3,bz,cA,fo]
  refine⟨.slice b (0+1*3) (H.length-1) (H.length-1), ?_,rfl,⟨by rw[ub,List.length_tail],Zx,λi t aG=> ?_⟩⟩
  ·simp only[ur,ag]
   have cA:¬H.length=1:=Zo
   simp[cA,h4]
  ·obtain⟨bY,g9,cN,cA,eb,fW⟩:=dp i t aG
   have ko:=cZ i t aG
   rw[IM _ Zo]at cN
   cases cN
   refine⟨b,0+1*3+i*3,IM _ ko,cA, ?_, ?_⟩
   ·rw[show 0+1*3+i*3=0+(i+1)*3 by omega];exact eb
   ·rw[show 0+1*3+i*3=0+(i+1)*3 by omega];exact fW
set_option maxRecDepth 100000 in
def aBX(au:dj X)(ey:DS X){am:List Go.aT.Node}{t:aY->Option c8}{bO:Nat}{Dx p b6:D}(aE:(o X).a2<=j)(iD:bO<j)(ax:G0 X h bO Dx p b6)(be:i1 X h P b6 t)(b2:oS X h P am p)(aX:am≠[])(bq:∀e,P e->e<j)(bp:∀g∈am,g.d4.length<=100000/\g.out.length<=100000)
 {E:bD}{v:D}(bC:cE X h P E v)(bs:DW jl E){H:List eu}{aS:D}{cq:List Nat}(nf:H.length=E.args.length)(az:gk X h aS 3 (qh H).flatten cq)(E3:H.length<=300000)(eC:∀e∈cq,P e):
 aU X 84 [.ptr bO 0,v,aS] h j (ab2 X h j (lQ am t E H)) (λ_ _ _=>False):=by
 obtain⟨Hm,cB⟩:=az.qZ (P:=P) Zd (Nb H) (by simp[qh];omega) eC
 have PY:nG X h P aS H:=⟨Hm,cB⟩
 have dA:=PY.rd
 obtain⟨g2,_,_⟩:=kt dA.len
 refine zz au (aok X) ?_
 rw[aol]
 unfold abL
 obtain⟨jT,_,_,_,rfl,afp,a0,_,b5,_,a4,a5,hR,_⟩:=id bC.open
 have AO:cG X h 3 (.ptr jT 4)=some (.agg (eD E.ty)):=by rw[wL,a4,a5,hR];rfl
 have bQ:=bs.bQ
 have ct:=bs.ct
 have aeC:=ey h
 have aa:∀{S':Q af}{n aN:Nat},ba X h n S' aN->j<=n->∀e,P e->U X S' e=U X h e:=λa aE e B=>a.aa e (zs (bq e B))
 have yi:∀b l,H=b::l->∃cO W,gy 3 aS (.Z 0)=some (.ptr cO W)/\P cO/\cG X h 3 (.ptr cO W)=some (.agg (eD b))/\aP X h (.ptr cO W)=some (.bool b.b):=λb l a=>dA.fx 0 b (by rw[a];rfl)
 have C0:∀{S':Q af}{n aN cO W:Nat}{b:eu},ba X h n S' aN->j<=n->P cO->cG X h 3 (.ptr cO W)=some (.agg (eD b))->aP X h (.ptr cO W)=some (.bool b.b)->cG X S' 3 (.ptr cO W)=some (.agg (eD b))/\aP X S' (.ptr cO W)=some (.bool b.b):=
  λa aE aw cN cA=>⟨by rw[wJ,aa a aE _ aw, <-wJ];exact cN,zD (aa a aE _ aw) cA⟩
 have UH:E.kind=1\/E.kind=2\/(E.kind=3\/E.kind=5)\/(E.kind=4\/E.kind=19\/E.kind=20)\/E.kind=6\/(E.kind=7\/E.kind=8\/E.kind=9\/E.kind=21\/E.kind=22)\/(E.kind=16\/E.kind=17\/E.kind=18)\/(E.kind=10\/E.kind=11)\/(E.kind=12\/E.kind=13\/E.kind=14\/E.kind=15)\/E.kind=23\/E.kind=24\/E.kind=26\/E.kind=25:=Zo
 rcases UH with a|a|a|a|a|a|a|a|a|a|a|a|a
 ·refine fI @a0 @ri @rh @AO ⟨?_⟩
  exact pY au aE (ba.refl _ _) (by unfold lQ;rw[Zr a])
 ·refine fI @a0 @ri @rh @b5 ⟨?_⟩
  refine(MF au aE iD ax.dN be bq E.name).Zm ?_
  rintro ac aM aZ ⟨rfl,bx⟩
  refine cx ⟨?_⟩
  exact pY au aE bx (by unfold lQ;rw[Zh Zo,Zr a])
 ·rcases a with a|a
  all_goals
   obtain⟨b,l,rfl⟩:=y3 bs nf (by rw[a];rfl)
   obtain⟨cO,W,il,gU,i3,i4⟩:=yi b l rfl
   refine fO @a0 @ri @rh @il @i3 ⟨?_⟩
   exact pY au aE (ba.refl _ _) (by simp[lQ,a])
 ·rcases a with a|a|a
  all_goals
   obtain⟨b,l,rfl⟩:=y3 bs nf (by rw[a];rfl)
   obtain⟨cO,W,il,gU,i3,i4⟩:=yi b l rfl
   refine hu @a0 @ri @rh @il @i3 @i4 ⟨?_⟩
   exact pY au aE ((ba.refl _ _).more Zo) (by simp[lQ,a])
 ·obtain⟨b,l,rfl⟩:=y3 bs nf (by rw[a];rfl)
  obtain⟨cO,W,il,gU,i3,i4⟩:=yi b l rfl
  refine hu @a0 @ri @rh @il @i3 @b5 ⟨?_⟩
  refine(MF (j:=j+16) au Zo Zo ax.dN be (λe B=>zs (bq e B)) E.name).Zm ?_
  rintro ac aM aZ ⟨rfl,bx⟩
  obtain⟨sL,AW⟩:=C0 bx Zo gU i3 i4
  refine cI @Ow @sL ⟨?_⟩
  refine f4 (uq b) ?_
  refine cx ⟨?_⟩
  exact pY au aE (bx.j9 Zo) (by simp[lQ,a])
 ·rcases a with a|a|a|a|a
  all_goals
   obtain⟨b,l,rfl⟩:=y3 bs nf (by rw[a];rfl)
   obtain⟨cO,W,il,gU,i3,i4⟩:=yi b l rfl
   refine fO @a0 @ri @rh @il @i3 ⟨?_⟩
   refine(Jc (j:=j+11) au Zo g2 dA (λe B=>zs (bq e B))).Zm ?_
   rintro ac aM aZ ⟨rfl,bx⟩
   obtain⟨sL,AW⟩:=C0 bx Zo gU i3 i4
   refine cd @sL ⟨?_⟩
   refine f4 (uq b) ?_
   refine cx ⟨?_⟩
   exact pY au aE (bx.j9 Zo) (by simp[lQ,a])
 ·rcases a with a|a|a
  all_goals
   obtain⟨b,l,rfl⟩:=y3 bs nf (by rw[a];rfl)
   obtain⟨cO,W,il,gU,i3,i4⟩:=yi b l rfl
   refine fO @a0 @ri @rh @il @i3 ⟨?_⟩
   refine(Jc (j:=j+18) au Zo g2 dA (λe B=>zs (bq e B))).Zm ?_
   rintro ac aM aZ ⟨rfl,bx⟩
   obtain⟨sL,AW⟩:=C0 bx Zo gU i3 i4
   cases ag:ug (b::l)
   ·refine cd @sL ⟨?_⟩
    refine f4 (uq b) ?_
    refine cx ⟨?_⟩
    exact pY au aE (bx.j9 Zo) (by simp[lQ,a,ag])
   ·refine dI @il @sL @AW ⟨?_⟩
    refine f4 (uq b) ?_
    refine cx ⟨?_⟩
    exact pY au aE (bx.j9 Zo) (by simp[lQ,a,ag])
 ·rcases a with a|a
  all_goals
   obtain⟨b,l,rfl⟩:=y3 bs nf (by rw[a];rfl)
   obtain⟨cO,W,il,gU,i3,i4⟩:=yi b l rfl
   refine fI @a0 @ri @rh @aeC ⟨?_⟩
   refine(Jc (j:=j+9) au Zo g2 dA (λe B=>zs (bq e B))).Zm ?_
   rintro ac aM aZ ⟨rfl,bx⟩
   obtain⟨sL,AW⟩:=C0 bx Zo gU i3 i4
   have ON:=ey aM
   refine cd @ON ⟨?_⟩
   refine f4 (uq JD) ?_
   refine cx ⟨?_⟩
   exact pY au aE (bx.j9 Zo) (by simp[lQ,a])
 ·rcases a with a|a|a|a
  all_goals
   obtain⟨b,l,rfl⟩:=y3 bs nf (by rw[a];rfl)
   obtain⟨cO,W,il,gU,i3,i4⟩:=yi b l rfl
   refine fI @a0 @ri @rh @aeC ⟨?_⟩
   refine(Jc (j:=j+16) au Zo g2 dA (λe B=>zs (bq e B))).Zm ?_
   rintro ac aM aZ ⟨rfl,bx⟩
   obtain⟨sL,AW⟩:=C0 bx Zo gU i3 i4
   have ON:=ey aM
   cases ag:ug (b::l)
   ·refine cd @ON ⟨?_⟩
    refine f4 (uq JD) ?_
    refine cx ⟨?_⟩
    exact pY au aE (bx.j9 Zo) (by simp[lQ,a,ag])
   ·refine dI @il @AW @ON ⟨?_⟩
    refine f4 (uq JD) ?_
    refine cx ⟨?_⟩
    exact pY au aE (bx.j9 Zo) (by simp[lQ,a,ag])
 ·obtain⟨b3,bY,co,rfl⟩:∃b3 bY co,H=[b3,bY,co]:=by
   have ak:H.length=3:=nf.trans (bs.tq 3 (by rw[a];rfl))
   match H,ak with
   |[x,e,bm],_=>exact⟨x,e,bm,rfl⟩
  obtain⟨cO,W,il,gU,i3,i4⟩:=yi b3 [bY,co] rfl
  obtain⟨NW,aAx,cN,cA,eb,fW⟩:=dA.fx 1 bY rfl
  have cN:gy 3 aS (.Z 1)=some (.ptr NW aAx):=cN
  obtain⟨k9,jw,j0,MW⟩:=aDq az Zs Zs eC
  cases ag:b3.b
  ·rw[ag]at i4
   refine d9 @a0 @ri @rh @il @cN @eb @i4 ⟨?_⟩
   refine f4 (uq bY) ?_
   refine cx ⟨?_⟩
   exact pY au aE ((ba.refl _ _).more Zo) (by simp[lQ,a,ag])
  ·rw[ag]at i4
   refine d9 @a0 @ri @rh @il @cN @eb (Za @i4 @jw) ⟨?_⟩
   refine(Jc (j:=j+18) (b:=bY) (l:=[co]) au Zo j0 MW (λe B=>zs (bq e B))).Zm ?_
   rintro ac aM aZ ⟨rfl,bx⟩
   obtain⟨sL,AW⟩:=C0 bx Zo cA eb fW
   refine cd @sL ⟨?_⟩
   refine f4 (uq bY) ?_
   refine cx ⟨?_⟩
   exact pY au aE (bx.j9 Zo) (by simp[lQ,a,ag])
 ·obtain⟨b,l,rfl⟩:=y3 bs nf (by rw[a];rfl)
  obtain⟨cO,W,il,gU,i3,i4⟩:=yi b l rfl
  refine fO @a0 @ri @rh @il @i3 ⟨?_⟩
  refine(Jc (j:=j+20) au Zo g2 dA (λe B=>zs (bq e B))).Zm ?_
  rintro ac aM aZ ⟨rfl,bx⟩
  obtain⟨sL,AW⟩:=C0 bx Zo gU i3 i4
  cases ag:ug (b::l)
  ·refine cd @sL ⟨?_⟩
   refine f4 (uq b) ?_
   refine cd @sL ⟨?_⟩
   refine f4 (uq b) ?_
   refine cx ⟨?_⟩
   exact pY au aE (bx.j9 Zo) (by simp[lQ,a,ag])
  ·have ao9:aP X aM (.ptr jT 2)=some (.str E.name):=zD (aa bx Zo jT afp) b5
   have fJ:=bx.le
   refine cI @ao9 @sL ⟨?_⟩
   refine f4 (uq b) ?_
   refine cx ⟨?_⟩
   refine(MF (j:=aZ) au Zo Zo (ax.aa (bx.aa bO Zo)).dN (be.aa (bu:=P) (aa bx Zo) (λ_ a=>a)) (λe B=>zs (bq e B)) E.name).Zm ?_
   rintro ac a1 bi ⟨rfl,ck⟩
   have aeH:=bx.trans ck
   obtain⟨fu,gj⟩:=C0 aeH Zo gU i3 i4
   refine cI @Ow @fu ⟨?_⟩
   refine f4 (uq b) ?_
   refine cx ⟨?_⟩
   exact pY au aE (aeH.j9 Zo) (by simp[lQ,a,ag])
 ·obtain⟨b,l,rfl⟩:=y3 bs nf (by rw[a];rfl)
  obtain⟨cO,W,il,gU,i3,i4⟩:=yi b l rfl
  cases ag:E.ty.b
  ·rw[ag]at a4
   refine fO @a0 @ri @rh @AO @a4 ⟨?_⟩
   exact pY au aE ((ba.refl _ _).more Zo) (by simp[lQ,a,ag])
  ·rw[ag]at a4
   refine d9 @a0 @ri @rh @AO @a4 @il @i4 ⟨?_⟩
   exact pY au aE ((ba.refl _ _).more Zo) (by simp[lQ,a,ag])
 ·have Y:lQ am t E H=Ko am E.name H:=by simp[lQ,a]
  rw[Y]
  refine dI @a0 @ri @rh ⟨?_⟩
  refine(aqp au aE iD ax b2 aX bq bp bC PY).Zm ?_
  rintro ac aM aZ ⟨w,rfl,M,R,ak⟩
  refine cx ⟨?_⟩
  exact⟨w,rfl,M,R,ak⟩
end
def Et(E:Nat×D×Nat):D×D×Nat:=(.ptr E.1 0,E.2.1,E.2.2)
mutual
def Ef:bD->Nat
 | .mk _ _ _ _ _ _ args=>uH args+1
def uH:List bD->Nat
 |[]=>0
 |E::l=>Ef E+uH l
end
def aqH(E:bD):Ef E=uH E.args+1:=by cases E;rw[Ef];rfl
def aqI:uH []=0:=by rw[uH]
def acZ(E:bD):∀l:List bD,uH (l++[E])=uH l+Ef E:=by
 intro l
 induction l with
 |nil=>simp[uH]
 |cons H l ai=>rw[YP,uH,uH,ai];omega
section
variable{X:cl}{h S' aI aM:Q af}{j an aO aZ:Nat}
def nD(X:cl)(h:Q af)(P:Nat->Prop)(r:Nat)(dP:Nat->Option D):Prop:=∃dw fe,U X h r=some (.map (dw.map Et) fe)/\(∀w,sR dw w=dP w)/\∀x∈dw,P x.1/\qs X h x.1
variable{P:Nat->Prop}
def nD.aa{r:Nat}{dP:Nat->Option D}(a:nD X h P r dP)(ayk:U X S' r=U X h r)(z:∀e,P e->U X S' e=U X h e):nD X S' P r dP:=by
 obtain⟨dw,fe,M,R,ak⟩:=a
 exact⟨dw,fe,by rw[ayk];exact M,R,λx ae=>⟨(ak x ae).1,(ak x ae).2.aa (z _ (ak x ae).1)⟩⟩
def WZ(b:Nat):nH X 20 54 (.ptr b 0)=true:=Zk
def arR(b dM:Nat):i2 X h 20 54 (.ptr b 0) (.ptr dM 0)=bd.ptrEq X h b 0 dM 0:=Zk
def aBb{b dM:Nat}(a:qs X h b)(cz:qs X h dM)(aE:(o X).a2<=b):bd.ptrEq X h b 0 dM 0=some (decide (b=dM)):=by
 obtain⟨c,n,M,R⟩:=a
 obtain⟨fS,aN,ak,aA⟩:=cz
 unfold bd.ptrEq
 rw[h4]
 by_cases E:b=dM
 ·simp[E]
 ·have bY:Nat.blt 0 n=true:=lC Zo
  have co:Nat.blt 0 aN=true:=lC Zo
  have cN:Jg X h b 0=true:=by simp only[Jg,M,kV,lC aE,bY,Yn]
  have cA:C3 X h dM 0=true:=by simp only[C3,ak,co]
  simp[E,cN,cA,fN]
def Tu{b:Nat}(ag:qs X h b)(aE:(o X).a2<=b):∀(dw:List (Nat×D×Nat)) (i:Nat),(∀x∈dw,P x.1/\qs X h x.1)->findKey X h 54 (.ptr b 0) (dw.map Et) i=some (mL dw b i):=by
 intro dw
 induction dw with
 |nil=>intro i _;rfl
 |cons x dw ai=>
  intro i sy
  simp only[ZP,Et,findKey,arR,aBb ag (sy x (Zv ..)).2 aE,mL]
  by_cases a:b=x.1
  ·have:x.1=b:=a.symm
   simp[this]
  ·have:¬x.1=b:=λE=>a E.symm
   simp only[a,this,Yh,ZD]
   exact ai (i+1) (λx ae=>sy x (Zw _ ae))
def ax8(b:Nat):oC 20 (.ptr b 0) (.ptr b 0)=true:=by
 simp[oC]
def azy{r:Nat}{dP:Nat->Option D}(Y:(o X).a2<=r)(a:nD X h P r dP){b:Nat}(ag:qs X h b)(aw:P b)(aE:(o X).a2<=b)(v:D):
 ∃S',uc X h j 54 (.map r) (.ptr b 0) v=some (.fv bd.undef S' j)/\nD X S' P r (λx=>if x=b then some v else dP x)/\∀e,e≠r->U X S' e=U X h e:=by
 obtain⟨dw,fe,M,R,ak⟩:=a
 have aF:kV X r=true:=lC Y
 have dQ:∀e,qs X h e->e≠r:=λe B E=>by obtain⟨c,n,aj,_⟩:=B;rw[E,M]at aj;cases aj
 have key:∀(N:List (Nat×D×Nat)) (tu:Nat),(∀x∈N,x.1=b\/∃e∈dw,e.1=x.1)->(∀x∈N,P x.1/\qs X (Go.bd.bj X h r (some (.map (N.map Et) tu))) x.1):=λN tu jn x ae=>by
  have aj:P x.1/\qs X h x.1:=by
   rcases jn x ae with E|⟨e,B,E⟩
   ·rw[E];exact⟨aw,ag⟩
   ·rw[<-E];exact ak e B
  exact⟨aj.1,aj.2.aa (aB Y (dQ _ aj.2))⟩
 cases b7:mL dw b 0 with
 |none=>
  refine⟨Go.bd.bj X h r (some (.map ((dw++[(b,v,fe)]).map Et) (fe+1))), ?_,⟨dw++[(b,v,fe)],fe+1,a7 Y,λx=> ?_,key _ _ λx ae=> ?_⟩,λe B=>aB Y B⟩
  ·simp only[uc,M,WZ,fo,Tu ag aE _ _ ak,b7,bd.setObj,aF,fo,hE]
   rw[ZX]
   rfl
  ·rw[ahX _ _ _ _ _ (by unfold sR;rw[b7];rfl),R]
  ·rcases Zz.1 ae with ae|ae
   ·exact .inr ⟨x,ae,rfl⟩
   ·rw[List.mem_singleton]at ae;exact .inl (by rw[ae])
 |some p=>
  obtain⟨S,v0⟩:=p
  obtain⟨born,auA⟩:=ad0 b dw S v0 b7
  have avU:(dw.map Et)[S]? =some (.ptr b 0,v0,born):=by rw[Zu,auA];rfl
  refine⟨Go.bd.bj X h r (some (.map ((dw.set S (b,v,born)).map Et) fe)), ?_,⟨dw.set S (b,v,born),fe,a7 Y,λx=> ?_,key _ _ λx ae=> ?_⟩,λe B=>aB Y B⟩
  ·simp only[uc,M,WZ,fo,Tu ag aE _ _ ak,b7,qT,avU,ax8,bd.setObj,aF,fo,hE]
   rw[List.map_set]
   rfl
  ·rw[ahY _ _ _ _ _ _ _ b7,R]
  ·rcases List.mem_or_eq_of_mem_set ae with ae|ae
   ·exact .inr ⟨x,ae,rfl⟩
   ·exact .inl (by rw[ae])
def px(X:cl)(h:Q af)(r n:Nat):Prop:=∃cb fe,U X h r=some (.map cb fe)/\cb.length=n
def px.aa{r n:Nat}(a:px X h r n)(z:U X S' r=U X h r):px X S' r n:=by unfold px;rw[z];exact a
def azz{r n:Nat}{dP:Nat->Option D}(Y:(o X).a2<=r)(a:nD X h P r dP)(jn:px X h r n){b:Nat}(ag:qs X h b)(aE:(o X).a2<=b)(aX:dP b=none){v:D}(aD:uc X h j 54 (.map r) (.ptr b 0) v=some (.fv bd.undef S' j)):px X S' r (n+1):=by
 obtain⟨dw,fe,M,R,ak⟩:=a
 obtain⟨cb,tu,bI,bN⟩:=jn
 rw[M]at bI
 cases bI
 have aF:kV X r=true:=lC Y
 have aA:=R b
 rw[aX]at aA
 unfold sR at aA
 have b7:mL dw b 0=none:=by
  cases b0:mL dw b 0 with
  |none=>rfl
  |some p=>rw[b0]at aA;cases aA
 simp only[uc,M,WZ,fo,Tu ag aE _ _ ak,b7,bd.setObj,aF,fo,hE,Zf,ee.fv.injEq]at aD
 obtain⟨_,rfl,_⟩:=aD
 exact⟨_,_,a7 Y,by rw[ZH,bN];rfl⟩
mutual
def oW(X:cl)(h:Q af)(am:List Go.aT.Node)(t:aY->Option c8)(dP:Nat->Option D)(P eO:Nat->Prop):bD->D->Prop
 | .mk z H nm no ty n args,v=>∃b aS cO br row w,v= .ptr b 0/\P b/\aP X h (.ptr b 8)=some aS/\dL X h P cO aS 1 (br.map λv=>[v])/\B4 am t (.mk z H nm no ty n args)= .ok row/\dP b=some w/\w.cells=[w]/\nG X h eO w row/\lA X h am t dP P eO args br
def lA(X:cl)(h:Q af)(am:List Go.aT.Node)(t:aY->Option c8)(dP:Nat->Option D)(P eO:Nat->Prop):List bD->List D->Prop
 |[],br=>br=[]
 |E::cb,br=>∃v nz,br=v::nz/\oW X h am t dP P eO E v/\lA X h am t dP P eO cb nz
end
mutual
def oW.aa{am:List Go.aT.Node}{t:aY->Option c8}{dP ju:Nat->Option D}{P eO sd sk:Nat->Prop}(z:∀e,P e->U X S' e=U X h e)(ua:∀e,eO e->U X S' e=U X h e)(aC:∀e,P e->ju e=dP e)(aw:∀e,P e->sd e)(B:∀e,eO e->sk e):∀(E:bD) (v:D),oW X h am t dP P eO E v->oW X S' am t ju sd sk E v
 | .mk wF H nm no ty n args,v,a=>by
   rw[oW]at a ⊢
   obtain⟨b,aS,cO,br,row,w,M,R,ak,aA,bv,b9,dl,eI,hT⟩:=a
   exact⟨b,aS,cO,br,row,w,M,aw b R,zD (z b R) ak,(aA.aa z).lift aw,bv,by rw[aC b R];exact b9,dl,eI.aa ua B,lA.aa z ua aC aw B args br hT⟩
def lA.aa{am:List Go.aT.Node}{t:aY->Option c8}{dP ju:Nat->Option D}{P eO sd sk:Nat->Prop}(z:∀e,P e->U X S' e=U X h e)(ua:∀e,eO e->U X S' e=U X h e)(aC:∀e,P e->ju e=dP e)(aw:∀e,P e->sd e)(B:∀e,eO e->sk e):∀(cb:List bD) (br:List D),lA X h am t dP P eO cb br->lA X S' am t ju sd sk cb br
 |[],br,a=>by rw[lA]at a ⊢;exact a
 |E::cb,br,a=>by
  rw[lA]at a ⊢
  obtain⟨v,nz,M,R,ak⟩:=a
  exact⟨v,nz,M,oW.aa z ua aC aw B E v R,lA.aa z ua aC aw B cb nz ak⟩
end
end
end
end Go.Proofs.YtpeabpmnlmaabaaGreatDoor

