/- Part of the proof of the last text; no conditions -/
import Derived.Test.YtpeabpmnlmaabaaGreatDoorYl
set_option maxHeartbeats 8000000
set_option linter.all false
namespace Go.Proofs.YtpeabpmnlmaabaaGreatDoor
open Go.ba Go.aQ
noncomputable section
def azh:∀w<65,CR ((w:Nat):Int)=((2^w-1:Nat):Int):=by decide+kernel
def aoy{n w:Nat}(bw:w<=64)(aF:n<18446744073709551616)(a:JB (n:Int) (CR (w:Int))=0):n<2^w:=by
 rw[azh w Zo]at a
 unfold JB at a
 have c2:=(BitVec.ofInt 64 (n:Int)&&& ~~~ BitVec.ofInt 64 ((2^w-1:Nat):Int)).isLt
 rw[ajt Zo Zo]at a
 have aY:BitVec.ofInt 64 (n:Int)&&& ~~~ BitVec.ofInt 64 ((2^w-1:Nat):Int)=0#64:=BitVec.eq_of_toNat_eq (by rw[BitVec.toNat_ofNat];omega)
 rw[BitVec.ofInt_natCast,BitVec.ofInt_natCast]at aY
 apply Nat.lt_pow_two_of_testBit
 intro i aN
 by_cases He:i<64
 ·have ag:=congrArg (λv=>v.getLsbD i) aY
  simp only[BitVec.getLsbD_and,BitVec.getLsbD_not,BitVec.getLsbD_ofNat,He,YB,Bool.true_and,Nat.testBit_two_pow_sub_one,BitVec.getLsbD_zero]at ag
  have:decide (i<w)=false:=by simp;omega
  rw[this]at ag
  simpa using ag
 ·exact Nat.testBit_lt_two_pow (ZN aF (by
   have:(18446744073709551616:Nat)=2^64:=by decide
   rw[this]
   exact Nat.pow_le_pow_right Zd Zo))
def axW{t:er}{n:Int}(a:RE t n):n<2^(if t.s then t.w-1 else t.w).toNat:=by
 obtain⟨J,Q,ak,ay⟩:=a
 obtain⟨m,rfl⟩:=Yd ak
 have bw:=Qc J
 have key:∀w:Nat,w<=64->JB (m:Int) (CR (w:Int))=0->(m:Int)<2^w:=λw bw a=>by
  have:=aoy bw Zo a
  have Q:((2^w:Nat):Int)=(2:Int)^w:=by simp
  rw[<-Q];omega
 unfold v8 at Q
 cases aD:t.s with
 |true=>
  rw[Zp aD]at Q
  rw[Zp rfl]
  by_cases aY:t.w-1=0
  ·rw[Zp aY]at Q
   have:(m:Int)=0:=by simpa using Q
   rw[aY,this];decide
  ·rw[Zh aY]at Q
   obtain⟨w,Au⟩:=Yd (by omega:0<=t.w-1)
   rw[Au]at Q ⊢
   simp only[EN,Zq,Zg]at Q
   exact key w Zo Q.2
 |false=>
  rw[Zh (by simp[aD])]at Q
  rw[Zh Zs]
  obtain⟨w,Au⟩:=Yd (by omega:0<=t.w)
  simp only[EN,Zq,Zg]at Q
  rw[Au]at Q ⊢
  exact key w Zo Q.2
section
variable{X:ch}{h S' eF aK aJ:R af}{j am aM aR:Nat}{s:aX}
def aiy{n b:Int}(aY:0<=n)(ag:0<=b)(lX:b<=64)(a:n<2^b.toNat):bl .shr (.int .u64 n) (.Z b)=some (.int .u64 0):=by
 have bD:Av b 0=false:=by rw[uX];simp;omega
 have cG:min b.toNat IntKind.u64.bits=b.toNat:=by
  have:IntKind.u64.bits=64:=rfl
  rw[this];omega
 have fV:n.fdiv (2^b.toNat)=0:=by
  rw[Int.fdiv_eq_ediv_of_nonneg _ (by exact Int.le_of_lt (Int.lt_of_le_of_lt aY a))]
  exact Int.ediv_eq_zero_of_lt aY a
 simp only[bl,l0,ff,Jz,bD,ls,cG,fV]
 rfl
def axX(au:i2 X){P:Nat->Prop}{E:bB}{v:D}(aF:(o X).a6<=j)(bz:cE X h P E v)(bq:∀e,P e->e<j)(aH:E.kind=1)(az:RE E.ty E.n):
 aW X 137 [v] h j (λac S' am=>ac= .zT/\bf X h j S' am) (λ_ _ _=>False):=by
 refine zx au.todi (ak0 X) ?_
 rw[ak1]
 unfold η
 obtain⟨b,aS,cO,br,rfl,ag,a0,a7,b6,a3,a4,a5,hE,ib,iz,cC,has⟩:=id bz.open
 have fY:=bq b ag
 have ON:=axW az
 have bw:=Qc az.1
 have yG:decide (E.kind=1)=true:=by simp[aH]
 have uQ:eD E.ty=[.bool E.ty.b, .bool E.ty.s, .Z E.ty.w]:=rfl
 have Ad:cZ X h 3 (.ptr b 4)=some (.agg (eD E.ty)):=by rw[wl,a4,a5,hE];rfl
 cases aD:E.ty.s with
 |true=>
  rw[aD]at a5
  rw[Zp aD]at ON
  have bD:bl .sub (.Z E.ty.w) (.Z 1)=some (.Z (E.ty.w-1)):=uV Zo Zo
  have JQ:decide (E.ty.w-1=64)=false:=by simp only[Zc];omega
  have mm:=aiy az.2.2.1 Zo Zo ON
  refine ih @a5 @hE @bD @a0 @yG @Ad ⟨?_⟩
  refine(E7 (j:=j) (h:=h) au.todi E.ty aF).Zm ?_
  rintro ac aK aM ⟨rfl,bH⟩
  have RV:aI X aK (.ptr b 7)=some (.int .u64 E.n):=by rw[bH.ep _ _ fY];exact ib
  have bo:lb E.ty=true:=az.1
  rw[bo]
  refine ed @JQ @RV @mm ⟨?_⟩
  exact⟨rfl,bH⟩
 |false=>
  rw[aD]at a5
  rw[Zh (by simp[aD])]at ON
  refine gb @a5 @hE @a0 @yG @Ad ⟨?_⟩
  refine(E7 (j:=j) (h:=h) au.todi E.ty aF).Zm ?_
  rintro ac aK aM ⟨rfl,bH⟩
  have RV:aI X aK (.ptr b 7)=some (.int .u64 E.n):=by rw[bH.ep _ _ fY];exact ib
  have bo:lb E.ty=true:=az.1
  rw[bo]
  by_cases He:E.ty.w=64
  ·have JQ:decide (E.ty.w=64)=true:=by simp[He]
   refine ce @JQ ⟨?_⟩
   exact⟨rfl,bH⟩
  ·have JQ:decide (E.ty.w=64)=false:=by simp[He]
   have mm:=aiy az.2.2.1 Zo Zo ON
   refine ed @JQ @RV @mm ⟨?_⟩
   exact⟨rfl,bH⟩
def ayJ(b:Nat):dc X h .eql 54 false .cF (.ptr b 0)=some .zF:=Zk
def aoH(au:i2 X){P:Nat->Prop}{b:Nat}{aS:D}{ca:List bB}{br:List D}(Y:dL X h P b aS 1 (br.map λv=>[v]))(Hv:dz X h P ca br):
 aW X 136 [aS, .cF] h j (λac S' am=>ac= .zF/\S'=h/\j<=am) (λ_ _ _=>False):=by
 refine zx au.todi (akY X) ?_
 rw[akZ]
 unfold ζ
 refine aW.mono (ah:=λac S' am=>ac= .Z (-1)/\S'=h/\j<=am) (av:=λ_ _ _=>False) ?_ ?_ (λ_ _ _ a=>a.elim)
 ·refine zx au.todi (ala X) ?_
  rw[alb]
  unfold ν
  have d2:=Y.len
  have ik:=Y.many
  rw[Zi]at d2 ik
  refine ce @d2 ⟨?_⟩
  refine fp (λm H S' aP=>∃(T:Nat),H.g 0=some aS/\H.g 1=some .cF/\H.g 7=some (.Z (br.length:Int))/\H.g 8=some (.Z (T:Int))/\T+m=br.length/\S'=h/\j<=aP)
   br.length ⟨0,be,be,be,fO,Zo,rfl,Zo⟩ ?_
  rintro m H aJ aR ⟨T,t0,t1,t7,t8,bJ,rfl,lB⟩
  cases m with
  |zero=>
   have d:=zr T br.length
   refine ed @t8 @t7 @d ⟨?_⟩
   exact⟨rfl,rfl,lB⟩
  |succ m=>
   have d:=zs T br.length
   have bD:=zv T
   obtain⟨v,bv⟩:=zt br T
   have KT:=Hv.len
   obtain⟨E,bz⟩:=zt ca T
   obtain⟨hj,Ar,Ab⟩:=Hv.get T E bz
   rw[bv]at Ar
   cases Ar
   obtain⟨GB,rfl,_,_⟩:=Ab.ptr
   obtain⟨bK,b1,cM⟩:=Y.one bv
   refine et @t8 @t7 @t1 @t0 @d @bK (Za @b1 (Za @ayJ @bD)) ⟨?_⟩
   exact⟨m,Zo,T+1,aZ t0,aZ t1,aZ t7,be,Zo,rfl,lB⟩
 ·rintro ac aK aM ⟨rfl,rfl,bT⟩
  refine cI ⟨?_⟩
  exact⟨rfl,rfl,bT⟩
end
def u4(y:Int):Option (Int×Bool×Bool×Bool):=
 if y=1 then some (0,false,true,true)else if y=2 then some (0,true,false,false)else if y=3\/y=4\/y=5 then some (1,false,false,false)else if y=6 then some (1,true,false,false)
 else if y=19\/y=20 then some (1,false,false,true)else if y=23 then some (3,false,false,false)else if y=24 then some (2,true,false,false)else if y=25 then some (-1,true,false,false)
 else if y=26 then some (1,false,true,false)else none
def qR(s:Int×Bool×Bool×Bool):List D:=[.Z s.1, .bool s.2.1, .bool s.2.2.1, .bool s.2.2.2]
structure wL(X:ch):Prop where
 at_:∀h,∃v,aI X h (.ptr 7 0)=some v/\∀y:Int,mN X h 3 (.agg [.Z 0, .zF, .zF, .zF]) v (.Z y) true=some (.tuple [.agg (qR ((u4 y).getD (0,false,false,false))), .bool (u4 y).isSome])
structure anY(E:bB)(s:Int×Bool×Bool×Bool):Prop where
 DA:0<=s.1->(E.args.length:Int)=s.1
 ahw:s.2.1=true->Gh E.name
 Qk:s.2.1=false->E.name=[]
 aCB:s.2.2.1=true->lb E.ty=true
 dQ:s.2.2.1=false->E.ty=dQ
 a6:s.2.2.2=false->E.n=0
def aBn{E:bB}(a:yq kt E):anY E ((u4 E.kind).getD (2,false,false,false)):=by
 have J:=a.bW
 have Q:=a.cq
 have pM:=a.DA
 have jg:=a.nm
 have Ep:=a.Qk
 have Ap:=a.ty
 have Aq:=a.dQ
 have g6:=a.a6
 unfold s9 at pM
 unfold to at jg Ep
 unfold uK at Ap Aq
 generalize E.kind=y at*
 unfold u4
 have aH:y=1\/y=2\/(y=3\/y=4\/y=5)\/y=6\/(y=19\/y=20)\/y=23\/y=24\/y=25\/y=26\/(7<=y/\y<=18\/y=21\/y=22):=Zo
 rcases aH with aH|aH|aH|aH|aH|aH|aH|aH|aH|aH
 ·subst aH
  exact⟨λ_=>by have:=pM 0 Zs;simp[this],λa=>by simp at a,λ_=>Ep Zo,λ_=>Ap Zo,λa=>by simp at a,λa=>by simp at a⟩
 ·subst aH
  exact⟨λ_=>by have:=pM 0 Zs;simp[this],λ_=>jg Zo,λa=>by simp at a,λa=>by simp at a,λ_=>Aq Zo,λ_=>g6 Zo Zo Zo⟩
 ·rw[Zh Zo,Zh Zo,Zp aH]
  rw[Zh Zo,Zh Zo,Zp Zo]at pM
  exact⟨λ_=>by have:=pM 1 rfl;simp[this],λa=>by simp at a,λ_=>Ep Zo,λa=>by simp at a,λ_=>Aq Zo,λ_=>g6 Zo Zo Zo⟩
 ·subst aH
  exact⟨λ_=>by have:=pM 1 Zs;simp[this],λ_=>jg Zo,λa=>by simp at a,λa=>by simp at a,λ_=>Aq Zo,λ_=>g6 Zo Zo Zo⟩
 ·rw[Zh Zo,Zh Zo,Zh Zo,Zh Zo,Zp aH]
  rw[Zh Zo,Zh Zo,Zp Zo]at pM
  exact⟨λ_=>by have:=pM 1 rfl;simp[this],λa=>by simp at a,λ_=>Ep Zo,λa=>by simp at a,λ_=>Aq Zo,λa=>by simp at a⟩
 ·subst aH
  exact⟨λ_=>by have:=pM 3 Zs;simp[this],λa=>by simp at a,λ_=>Ep Zo,λa=>by simp at a,λ_=>Aq Zo,λ_=>g6 Zo Zo Zo⟩
 ·subst aH
  exact⟨λ_=>by have:=pM 2 Zs;simp[this],λ_=>jg Zo,λa=>by simp at a,λa=>by simp at a,λ_=>Aq Zo,λ_=>g6 Zo Zo Zo⟩
 ·subst aH
  exact⟨λa=>by simp at a,λ_=>jg Zo,λa=>by simp at a,λa=>by simp at a,λ_=>Aq Zo,λ_=>g6 Zo Zo Zo⟩
 ·subst aH
  exact⟨λ_=>by have:=pM 1 Zs;simp[this],λa=>by simp at a,λ_=>Ep Zo,λ_=>Ap Zo,λa=>by simp at a,λ_=>g6 Zo Zo Zo⟩
 ·rw[Zh Zo,Zh Zo,Zh Zo,Zh Zo,Zh Zo,Zh Zo,Zh Zo,Zh Zo,Zh Zo]
  rw[Zh Zo,Zh Zo,Zh Zo,Zh Zo]at pM
  exact⟨λ_=>by have:=pM 2 rfl;simp[this],λa=>by simp at a,λ_=>Ep Zo,λa=>by simp at a,λ_=>Aq Zo,λ_=>g6 Zo Zo Zo⟩
section
variable{X:ch}{h S' eF aK aJ:R af}{j am aM aR:Nat}{s:aX}
structure ajK(G:Prop):Prop where
 out:G
def NF{G s0:Prop}(iv:ajK G->s0)(aB8:G):s0:=iv ⟨aB8⟩
def apa:dc X h .neq 4 false .zF .zF=some .zF:=Zk
def apb:dc X h .neq 4 false .zT .zT=some .zF:=Zk
def aCC:dc X h .neq 44 false (.agg [.zF, .zF, .Z 0]) (.agg [.zF, .zF, .Z 0])=some .zF:=Zk
def azV(b:Nat):dc X h .neq 54 true (.ptr b 0) .cF=some .zT:=Zk
set_option maxRecDepth 100000 in
def ax8(au:i2 X)(bT:l6 X)(d7:rW X)(iP:wL X){P:Nat->Prop}{E:bB}{v:D}(aF:(o X).a6<=j)(bz:cE X h P E v)(bq:∀e,P e->e<j)(bw:fi kt E):
 aW X 125 [v] h j (λac S' am=>ac= .zT/\bf X h j S' am) (λ_ _ _=>False):=by
 refine zx au.todi (akE X) ?_
 rw[akF]
 unfold X5
 rw[fi.eq]at bw
 obtain⟨bw,At⟩:=bw
 have mm:=aBn bw
 obtain⟨b,aS,cO,br,rfl,ag,a0,a7,b6,a3,a4,a5,hE,ib,iz,cC,has⟩:=id bz.open
 have fY:=bq b ag
 obtain⟨fx,OZ,O0⟩:=iP.at_ h
 have jU:=O0 E.kind
 generalize HU:(u4 E.kind).getD (2,false,false,false)=s at mm
 have avC:∀aj:Int×Bool×Bool×Bool,qR aj=[.Z aj.1, .bool aj.2.1, .bool aj.2.2.1, .bool aj.2.2.2]:=λ_=>rfl
 rw[avC]at jU
 refine gm @OZ @a0 @jU ⟨?_⟩
 refine jW (λc3 S' aP=>c3.g 0=some (.ptr b 0)/\c3.g 3=some (.ptr (j+9) 0)/\bf X h j S' aP/\j+9<aP/\U X S' (j+9)=zu (qR s) 4) (λT bJ=> ?_) ?_
 ·cases b3:u4 E.kind with
  |some aj=>
   rw[b3]at HU
   simp only[YG]at HU
   subst HU
   simp only[YG,Z4]
   refine cI ⟨?_⟩
   exact bJ _ _ _ ⟨be,be,dA,Zo,by rw[bb Zo];rfl⟩
  |none=>
   rw[b3]at HU
   simp only[Option.getD_none]at HU
   subst HU
   simp only[Option.getD_none,ZZ]
   refine cI ⟨?_⟩
   exact bJ _ _ _ ⟨be,be,dA,Zo,by rw[bb Zo];rfl⟩
 rintro H aK aM ⟨t0,t3,bH,tA,bK⟩
 have rd:∀S',Go.ba.U X S' (j+9)=zu (qR s) 4->aI X S' (.ptr (j+9) 0)=some (.Z s.1)/\aI X S' (.ptr (j+9) 1)=some (.bool s.2.1)/\aI X S' (.ptr (j+9) 2)=some (.bool s.2.2.1)/\aI X S' (.ptr (j+9) 3)=some (.bool s.2.2.2):=λS' a=>
  ⟨by rw[bp a];rfl,by rw[bp a];rfl,by rw[bp a];rfl,by rw[bp a];rfl⟩
 have lA:=bw.bW
 have iR:=bw.cq
 have c1:decide (E.kind<1)=false:=by simp only[Zc];omega
 have cH:decide ((26:Int)<E.kind)=false:=by simp only[Zc];omega
 obtain⟨jX,e8,fR,hY⟩:=rd aK bK
 have Ju:aI X aK (.ptr b 0)=some (.Z E.kind):=by rw[bH.ep _ _ fY];exact a0
 have Jw:aI X aK (.ptr b 8)=some aS:=by rw[bH.ep _ _ fY];exact iz
 have d2:=cC.len
 have KT:=has.len
 rw[Zi,KT]at d2
 have l1:∀e,P e->U X aK e=U X h e:=λe B=>bH.aa e (bq e B)
 have jG:=bH.le
 apply NF
 ·intro awQ
  by_cases pM:0<=s.1
  all_goals
   first
   |(
     have eY:decide ((0:Int)<=s.1)=true:=by simp[pM]
     have ja:decide ((E.args.length:Int)≠s.1)=false:=by simp[mm.DA pM]
     refine gm @t0 @t3 (Za @Ju (Za @c1 (Za @cH (Za @jX (Za @eY (Za @Jw (Za @d2 (Za @jX @ja)))))))) ⟨?_⟩)
   |(
     have eY:decide ((0:Int)<=s.1)=false:=by simp[pM]
     refine gm @t0 @t3 (Za @Ju (Za @c1 (Za @cH (Za @jX (Za @eY @Jw))))) ⟨?_⟩)
   refine(aoH (j:=aM+34) (h:=aK) au (cC.aa l1) (dz.aa l1 _ _ has)).Zm ?_
   rintro ac aJ aR ⟨rfl,rfl,fC⟩
   refine pI ⟨?_⟩
   refine jW (λc3 S' aP=>c3.g 0=some (.ptr b 0)/\c3.g 3=some (.ptr (j+9) 0)/\bf X h j S' aP/\j+9<aP/\U X S' (j+9)=zu (qR s) 4) (λT bJ=> ?_) ?_
   ·refine cI ⟨?_⟩
    exact bJ _ _ _ ⟨aZ t0,aZ t3,bH.more Zo,Zo,bK⟩
   exact awQ.out
 clear t0 t3 bH bK jX e8 fR hY Ju Jw l1 jG
 rintro H a1 bn ⟨t0,t3,ck,v6,cM⟩
 obtain⟨jX,e8,fR,hY⟩:=rd a1 cM
 have jf:=ck.le
 have Gs:aI X a1 (.ptr b 2)=some (.str E.name):=by rw[ck.ep _ _ fY];exact b6
 have auR:s.2.1=true->decide (E.name≠[])=true:=λa=>by simp[(mm.ahw a).ne]
 have auQ:s.2.1=false->decide (E.name≠[])=false:=λa=>by simp[mm.Qk a]
 have k7:(E.no=true/\decide (E.kind≠6)=false)\/(E.no=false/\decide ((0:Int)≠0)=false):=by
  cases b3:E.no with
  |true=>exact .inl ⟨rfl,by simp[bw.no b3]⟩
  |false=>exact .inr ⟨rfl,rfl⟩
 apply NF
 ·intro awN
  rcases Bool.eq_false_or_eq_true s.2.1 with k8|k8
  all_goals
   first
   |(
     have BB:=auR k8
     rw[k8]at e8
     refine gm @t0 @t3 (Za @e8 (Za @Gs (Za @BB @apb))) ⟨?_⟩
     refine(L5 (j:=bn+33) (h:=a1) au bT d7 (mm.ahw k8) Zo).Zm ?_
     rintro ac bA cv ⟨rfl,cW⟩
     have iG:=cW.le
     have tm:bf X h j bA cv:=ck.trans (cW.ko Zo)
     have UK:j+9<cv:=Zo
     have fG:U X bA (j+9)=zu (qR s) 4:=by rw[cW.aa _ Zo];exact cM
     have RU:aI X bA (.ptr b 3)=some (.bool E.no):=by rw[tm.ep _ _ fY];exact a3
     have wT:aI X bA (.ptr b 0)=some (.Z E.kind):=by rw[tm.ep _ _ fY];exact a0)
   |(
     have BB:=auQ k8
     rw[k8]at e8
     refine gm @t0 @t3 (Za @e8 (Za @Gs (Za @BB @apa))) ⟨?_⟩
     have tm:bf X h j a1 (bn+33):=ck.more Zo
     have UK:j+9<bn+33:=Zo
     have fG:U X a1 (j+9)=zu (qR s) 4:=cM
     have RU:aI X a1 (.ptr b 3)=some (.bool E.no):=by rw[tm.ep _ _ fY];exact a3
     have wT:aI X a1 (.ptr b 0)=some (.Z E.kind):=by rw[tm.ep _ _ fY];exact a0)
   rcases k7 with ⟨afo,yG⟩|⟨afo,yG⟩
   all_goals
    rw[afo]at RU
    refine gm @t0 @t3 (Za @RU (Za @wT @yG)) ⟨?_⟩
    refine jW (λc3 S' aP=>c3.g 0=some (.ptr b 0)/\c3.g 3=some (.ptr (j+9) 0)/\bf X h j S' aP/\j+9<aP/\U X S' (j+9)=zu (qR s) 4) (λT bJ=> ?_) ?_
    ·refine cI ⟨?_⟩
     exact bJ _ _ _ ⟨aZ t0,aZ t3,tm.more Zo,Zo,fG⟩
    exact awN.out
 clear t0 t3 ck cM jX e8 fR hY Gs jf
 rintro H bN cf ⟨t0,t3,dR,afk,fj⟩
 obtain⟨jX,e8,fR,hY⟩:=rd bN fj
 have iH:=dR.le
 have uQ:eD E.ty=[.bool E.ty.b, .bool E.ty.s, .Z E.ty.w]:=rfl
 have Ad:cZ X bN 3 (.ptr b 4)=some (.agg (eD E.ty)):=by rw[wl,dR.ep _ _ fY,dR.ep _ _ fY,dR.ep _ _ fY,a4,a5,hE];rfl
 apply NF
 ·intro awP
  rcases Bool.eq_false_or_eq_true s.2.2.1 with k8|k8
  all_goals
   first
   |(
     have bo:=mm.aCB k8
     rw[k8]at fR
     refine gm @t0 @t3 (Za @fR @Ad) ⟨?_⟩
     refine(E7 (j:=cf) (h:=bN) au.todi E.ty Zo).Zm ?_
     rintro ac bY dv ⟨rfl,ej⟩
     rw[bo]
     have o7:=ej.le
     have tm:bf X h j bY dv:=dR.trans (ej.ko Zo)
     have UK:j+9<dv:=Zo
     have fG:U X bY (j+9)=zu (qR s) 4:=by rw[ej.aa _ Zo];exact fj
     have abA:aI X bY (.ptr b 7)=some (.int .u64 E.n):=by rw[tm.ep _ _ fY];exact ib
     have QG:aI X bY (.ptr (j+9) 3)=some (.bool s.2.2.2):=(rd bY fG).2.2.2)
   |(
     have bo:=mm.dQ k8
     rw[k8]at fR
     have avW:eD E.ty=[.zF, .zF, .Z 0]:=by rw[bo];rfl
     rw[avW]at Ad
     refine gm @t0 @t3 (Za @fR (Za @Ad @aCC)) ⟨?_⟩
     have tm:bf X h j bN cf:=dR
     have UK:j+9<cf:=afk
     have fG:U X bN (j+9)=zu (qR s) 4:=fj
     have abA:aI X bN (.ptr b 7)=some (.int .u64 E.n):=by rw[tm.ep _ _ fY];exact ib
     have QG:aI X bN (.ptr (j+9) 3)=some (.bool s.2.2.2):=(rd bN fG).2.2.2)
   rcases Bool.eq_false_or_eq_true s.2.2.2 with pS|pS
   all_goals
    first
    |(
      have BB:decide ((0:Int)≠0)=false:=rfl
      rw[pS]at QG
      have aET:s.2.2.2=true:=pS)
    |(
      have BB:decide (E.n≠0)=false:=by simp[mm.a6 pS]
      rw[pS]at QG)
    refine gm @t0 @t3 (Za @QG (Za @abA @BB)) ⟨?_⟩
    refine jW (λc3 S' aP=>c3.g 0=some (.ptr b 0)/\c3.g 3=some (.ptr (j+9) 0)/\bf X h j S' aP/\j+9<aP/\U X S' (j+9)=zu (qR s) 4) (λT bJ=> ?_) ?_
    ·refine cI ⟨?_⟩
     exact bJ _ _ _ ⟨aZ t0,aZ t3,tm.more Zo,Zo,fG⟩
    exact awP.out
 clear t0 t3 dR fj jX e8 fR hY iH Ad
 rintro H cn d8 ⟨t0,t3,eA,aEE,ek⟩
 have ng:=eA.le
 have Gr:aI X cn (.ptr b 0)=some (.Z E.kind):=by rw[eA.ep _ _ fY];exact a0
 have abB:aI X cn (.ptr b 7)=some (.int .u64 E.n):=by rw[eA.ep _ _ fY];exact ib
 have abC:aI X cn (.ptr b 8)=some aS:=by rw[eA.ep _ _ fY];exact iz
 have rz:∀e,P e->U X cn e=U X h e:=λe B=>eA.aa e (bq e B)
 show cz _ _
 by_cases J:E.kind=1
 ·have bD:decide (E.kind=1)=true:=by simp[J]
  refine ed @t0 @Gr @bD ⟨?_⟩
  refine(axX (j:=d8) (h:=cn) au Zo (cE.aa rz _ _ bz) (λe B=>zq (bq e B)) J (bw.ahv J)).Zm ?_
  rintro ac dC iw ⟨rfl,hx⟩
  exact⟨rfl,eA.trans (hx.ko Zo)⟩
 have bD:decide (E.kind=1)=false:=by simp[J]
 by_cases Kk:E.kind=19
 ·have GU:decide (E.kind=19)=true:=by simp[Kk]
  have SN:decide (E.n<=63)=true:=by simp[(bw.mQ (.inl Kk)).2]
  refine ih @t0 @Gr @bD @GU @abB @SN ⟨?_⟩
  exact⟨rfl,eA.more Zo⟩
 have GU:decide (E.kind=19)=false:=by simp[Kk]
 by_cases TD:E.kind=20
 ·have JZ:decide (E.kind=20)=true:=by simp[TD]
  have SN:decide (E.n<=63)=true:=by simp[(bw.mQ (.inr TD)).2]
  refine et @t0 @Gr @bD @GU @JZ @abB @SN ⟨?_⟩
  exact⟨rfl,eA.more Zo⟩
 have JZ:decide (E.kind=20)=false:=by simp[TD]
 by_cases TE:E.kind=21
 ·have NT:decide (E.kind=21)=true:=by simp[TE]
  obtain⟨k,r,xo,az⟩:=bw.hS TE
  obtain⟨ao,auH,f4⟩:=has.get 0 k (by rw[xo];rfl)
  obtain⟨cN,cB,ea⟩:=(cC.aa rz).one auH
  obtain⟨pd,ag4,axA,aFo,rfl,vX,dH,_,_,_,_,_,_,_,GJ,ag3,agK⟩:=(cE.aa rz _ _ f4).open
  have aib:gt 1 aS (.Z 0)=some (.ptr cO 0):=cN
  rcases az with az|⟨az,x,ae,PM⟩
  ·have ux:decide (k.kind=1)=true:=by simp[az]
   refine et @t0 @Gr @bD @GU @JZ @NT (Za @abC (Za @aib (Za @cB (Za @dH @ux)))) ⟨?_⟩
   exact⟨rfl,eA.more Zo⟩
  ·have ux:decide (k.kind=1)=false:=by simp[az]
   have aqq:decide (k.kind=4)=true:=by simp[az]
   obtain⟨aF5,awe,awb⟩:=agK.get 0 x (by rw[ae];rfl)
   obtain⟨fK,hX,xU⟩:=ag3.one awe
   obtain⟨aF4,rfl,uT,mx⟩:=awb.ptr
   have azx:gt 1 ag4 (.Z 0)=some (.ptr axA 0):=fK
   have agY:=ag3.len
   rw[Zi,agK.len,ae]at agY
   have axY:gC ag4=some (.Z 1):=agY
   have ex:decide (x.kind=1)=true:=by simp[PM]
   have aqi:decide ((1:Int)=1)=true:=rfl
   refine et @t0 @Gr @bD @GU @JZ @NT (Za @abC (Za @aib (Za @cB (Za @dH (Za @ux (Za @aqq (Za @GJ (Za @axY (Za @aqi (Za @azx (Za @hX (Za @azV (Za @mx @ex))))))))))))) ⟨?_⟩
   exact⟨rfl,eA.more Zo⟩
 have NT:decide (E.kind=21)=false:=by simp[TE]
 refine ih @t0 @Gr @bD @GU @JZ @NT ⟨?_⟩
 exact⟨rfl,eA.more Zo⟩
end
def auf{y:Nat}{E F:bB}(a:hd (y+1) E<=y)(aA:F∈E.args):hd y F+1<=y:=by
 have bo:∀(k:List bB) (aY:Nat),(∀F∈k,hd y F<=k.foldl (λa F=>max a (hd y F)) aY)/\aY<=k.foldl (λa F=>max a (hd y F)) aY:=by
  intro k
  induction k with
  |nil=>intro aY;exact⟨λ_ a=>by simp at a,Zj _⟩
  |cons b k ai=>
   intro aY
   obtain⟨hA,gB⟩:=ai (max aY (hd y b))
   refine⟨λx ae=> ?_,ZA (Nat.le_max_left _ _) gB⟩
   rcases Zt.1 ae with rfl|ae
   ·exact ZA (Nat.le_max_right _ _) gB
   ·exact hA x ae
 have J:=(bo E.args 0).1 F aA
 have Q:hd (y+1) E=E.args.foldl (λa F=>max a (hd y F)) 0+1:=rfl
 omega
def auh{y:Nat}{E:bB}:1<=hd (y+1) E:=by
 have Q:hd (y+1) E=E.args.foldl (λa F=>max a (hd y F)) 0+1:=rfl
 omega
def ajp{bF:i7}:∀{k:List bB}{F:bB},gx bF k->F∈k->fi bF F:=by
 intro k
 induction k with
 |nil=>intro F _ a;cases a
 |cons b k ai=>
  intro F a aA
  rw[gx]at a
  rcases Zt.1 aA with rfl|aA
  ·exact a.1
  ·exact ai a.2 aA
section
variable{X:ch}{h S' eF aK aJ:R af}{j am aM aR:Nat}{s:aX}
structure Be(X:ch)(dd qb pd:Nat)(d:Int)(h:R af):Prop where
 NH:∃c,U X h dd=some (.cells c 1 .own)/\c.get 0=some (.Z d)
 Rc:aI X h (.ptr qb 0)=some (.Z 0)
 look:aI X h (.ptr pd 0)=some (.func (.func 124) [] [.ptr dd 0, .ptr qb 0, .ptr pd 0])
def Be.aa{dd qb pd:Nat}{d:Int}(a:Be X dd qb pd d aK)(y:∀e,e=dd\/e=qb\/e=pd->U X aJ e=U X aK e):Be X dd qb pd d aJ:=by
 obtain⟨c,J,Q⟩:=a.NH
 exact⟨⟨c,by rw[y dd (.inl rfl)];exact J,Q⟩,zB (y qb (.inr (.inl rfl))) a.Rc,zB (y pd (.inr (.inr rfl))) a.look⟩
set_option maxRecDepth 100000 in
def ax1(au:i2 X)(bT:l6 X)(d7:rW X)(iP:wL X){P:Nat->Prop}{dd qb pd fP:Nat}(xu:(o X).a6<=dd)(aDX:dd<fP)(af5:qb<fP)(om:pd<fP)(y9:qb≠dd)(kh:pd≠dd)(bq:∀e,P e->e<fP/\e≠dd):
 ∀(y:Nat) (E:bB) (v:D) (h:R af) (j:Nat),y<=200->fP<=j->hd (y+1) E<=y->fi kt E->cE X h P E v->Be X dd qb pd ((200-y:Nat):Int) h->
  aW X 124 [v, .ptr dd 0, .ptr qb 0, .ptr pd 0] h j (λac S' am=>ac= .tuple []/\Be X dd qb pd ((200-y:Nat):Int) S'/\j<=am/\∀e,e<j->e≠dd->U X S' e=U X h e) (λ_ _ _=>False):=by
 intro y
 induction y with
 |zero=>intro E v h j _ _ a;have:=auh (y:=0) (E:=E);omega
 |succ y ai=>
  intro E v h j aH aF gU bw bz gT
  refine zx au.todi (akC X) ?_
  rw[akD]
  unfold X4
  obtain⟨b,aS,cO,br,rfl,ag,_,_,_,_,_,_,_,_,iz,cC,has⟩:=id bz.open
  obtain⟨c,bK,b1⟩:=gT.NH
  have vM:=bq b ag
  have bD:bl .add (.Z ((200-(y+1):Nat):Int)) (.Z 1)=some (.Z ((200-y:Nat):Int)):=by rw[eH Zo Zo,show((200-(y+1):Nat):Int)+1=((200-y:Nat):Int) by omega]
  refine gm (bp bK) @b1 @bD ⟨?_⟩
  generalize de:bi X h dd _=aK
  have Tf:∃f9,U X aK dd=some (.cells f9 1 .own)/\f9.get 0=some (.Z ((200-y:Nat):Int)):=⟨dT c 0 [.Z ((200-y:Nat):Int)],by rw[<-de,bb xu];rfl,yd c 0 _⟩
  have bW:∀e,e≠dd->U X aK e=U X h e:=λe B=>by rw[<-de,aC xu B]
  clear de
  have as1:Be X dd qb pd ((200-y:Nat):Int) aK:=⟨Tf,zB (bW _ y9) gT.Rc,zB (bW _ kh) gT.look⟩
  have l1:∀e,P e->U X aK e=U X h e:=λe B=>bW e (bq e B).2
  have vQ:=cE.aa l1 _ _ bz
  refine ce @Mj ⟨?_⟩
  refine(ax8 (j:=j) (h:=aK) au bT d7 iP Zo vQ (λe B=>zq (bq e B).1) bw).Zm ?_
  rintro ac aJ aR ⟨rfl,bC⟩
  have fC:=bC.le
  have OC:Be X dd qb pd ((200-y:Nat):Int) aJ:=as1.aa (λe B=>bC.aa e (by rcases B with rfl|rfl|rfl<;>omega))
  obtain⟨dI,Tg,arC⟩:=OC.NH
  have RW:aI X aJ (.ptr b 8)=some aS:=by rw[bC.ep _ _ Zo,cl,bW _ vM.2, <-cl];exact iz
  have d2:=cC.len
  have KT:=has.len
  rw[Zi,KT]at d2
  have ik:=cC.many
  rw[Zi,KT]at ik
  have cH:decide ((200:Int)<((200-y:Nat):Int))=false:=by simp only[Zc];omega
  refine gb (bp Tg) @arC @cH @RW @d2 ⟨?_⟩
  refine fp (λm H S' aP=>∃(T:Nat),H.g 1=some (.ptr dd 0)/\H.g 2=some (.ptr qb 0)/\H.g 3=some (.ptr pd 0)/\H.g 12=some aS/\H.g 13=some (.Z (E.args.length:Int))/\H.g 14=some (.Z (T:Int))/\T+m=E.args.length
   /\Be X dd qb pd ((200-y:Nat):Int) S'/\j<=aP/\∀e,e<j->e≠dd->U X S' e=U X h e)
   E.args.length ⟨0,be,be,be,be,be,fO,Zo,OC,fC,λe J Q=>by rw[bC.aa e J,bW e Q]⟩ ?_
  rintro m H a1 bn ⟨T,t1,ew,t3,u5,l3,mY,bJ,Kw,jf,mI⟩
  cases m with
  |zero=>
   have d:=zr T E.args.length
   obtain⟨gZ,xd,arD⟩:=Kw.NH
   have cG:bl .sub (.Z ((200-y:Nat):Int)) (.Z 1)=some (.Z ((200-(y+1):Nat):Int)):=by rw[uV Zo Zo,show((200-y:Nat):Int) -1=((200-(y+1):Nat):Int) by omega]
   refine et @mY @l3 @t1 @d (bp xd) @arD @cG ⟨?_⟩
   refine⟨rfl,⟨⟨dT gZ 0 [.Z ((200-(y+1):Nat):Int)],by rw[bb xu];rfl,yd gZ 0 _⟩,zB (aC xu y9) Kw.Rc,zB (aC xu kh) Kw.look⟩,Zo,λe J Q=>by rw[aC xu Q];exact mI e J Q⟩
  |succ m=>
   have d:=zs T E.args.length
   have cG:=zv T
   obtain⟨F,aA⟩:=zt E.args T
   obtain⟨w,pc,KH⟩:=has.get T F aA
   have iT:∀e,P e->U X a1 e=U X h e:=λe B=>mI e (zq (bq e B).1) (bq e B).2
   obtain⟨cN,cB,ea⟩:=(cC.aa iT).one pc
   have aep:=Zn aA
   have aD2:=auf gU aep
   have jU:=Kw.look
   refine et @mY @l3 @u5 @t3 @d @cN (Za @cB @jU) ⟨?_⟩
   rw[fi.eq]at bw
   refine(ai F w a1 bn Zo Zo Zo (ajp bw.2 aep) (cE.aa iT _ _ KH) Kw).Zm ?_
   rintro ac bA cv ⟨rfl,as2,iG,fH⟩
   refine cL @mY @cG ⟨?_⟩
   exact⟨m,Zo,T+1,aZ t1,aZ ew,aZ t3,aZ u5,aZ l3,be,Zo,as2,Zo,λe J Q=>by rw[fH e Zo Q];exact mI e J Q⟩
end
structure RD(g:Go.aQ.Node):Prop where
 vars:g.d3.length+g.out.length+g.loc.length<=256
 eqs:g.eqs.length<=4096
 high:∀aj∈g.eqs,hd 201 aj.right<=200
def axS:∀{k:List f8},Cz k=none->∀aj∈k,hd 201 aj.right<=200:=by
 intro k
 induction k with
 |nil=>intro _ aj a;cases a
 |cons F k ai=>
  intro a aj b3
  unfold Cz at a
  split at a
  ·cases a
  ·rcases Zt.1 b3 with rfl|b3
   ·omega
   ·exact ai a aj b3
def axT:∀{k:List Go.aQ.Node},sv k=none->∀g∈k,RD g:=by
 intro k
 induction k with
 |nil=>intro _ aj a;cases a
 |cons F k ai=>
  intro a g bP
  unfold sv at a
  split at a
  ·cases a
  ·rename_i b3
   split at a
   ·cases a
   ·rename_i bz
    rcases Zt.1 bP with rfl|bP
    ·exact⟨Zo,Zo,axS bz⟩
    ·exact ai a g bP
def L0{an:List Go.aQ.Node}(a:qK an=none):an.length<=64/\∀g∈an,RD g:=by
 unfold qK at a
 split at a
 ·cases a
 ·rename_i b3
  rw[List.getElem?_eq_none_iff]at b3
  exact⟨b3,axT a⟩
section
variable{X:ch}{h S' eF aK aJ:R af}{j am aM aR:Nat}{s:aX}
set_option maxRecDepth 100000 in
def aru(au:i2 X)(bT:l6 X)(d7:rW X)(iP:wL X){P:Nat->Prop}{E:bB}{v:D}(aF:(o X).a6<=j)(bz:cE X h P E v)(bq:∀e,P e->e<j)(bw:fi kt E)(gU:hd 201 E<=200):
 aW X 100 [v] h j (λac S' am=>ac= .Z 0/\bf X h j S' am) (λ_ _ _=>False):=by
 refine zx au.todi (ajU X) ?_
 rw[ajV]
 unfold XI
 refine cI ⟨?_⟩
 generalize de:bi X _ (j+1+1) _=aK
 have jb:U X aK j=zu [.Z 0] 1:=by rw[<-de];simp(disch:=omega) only[aC,bb];rfl
 have bK:U X aK (j+1)=zu [.Z 0] 1:=by rw[<-de];simp(disch:=omega) only[aC,bb];rfl
 have b1:aI X aK (.ptr (j+1+1) 0)=some (.func (.func 124) [] [.ptr (j+1) 0, .ptr j 0, .ptr (j+1+1) 0]):=by rw[<-de,Cv Zo];rfl
 have bH:bf X h j aK (j+1+1+1):=by rw[<-de];exact dA
 clear de
 refine ce @b1 ⟨?_⟩
 have vQ:=cE.aa (λe B=>bH.aa e (bq e B)) _ _ bz
 refine(ax1 (fP:=j+1+1+1) au bT d7 iP Zo Zo Zo Zo Zo Zo (λe B=>by have:=bq e B;exact⟨Zo,Zo⟩) 200 E v aK (j+1+1+1) Zo Zo gU bw vQ ⟨⟨_,bK,rfl⟩,by rw[bp jb];rfl,b1⟩).Zm ?_
 rintro ac aJ aR ⟨rfl,OC,fC,iR⟩
 have av7:=OC.Rc
 refine ce @av7 ⟨?_⟩
 exact⟨rfl,Zo,λe B=>by rw[iR e Zo Zo];exact bH.aa e B⟩
set_option maxRecDepth 100000 in
def ayh(au:i2 X)(bT:l6 X)(d7:rW X)(iP:wL X){P:Nat->Prop}{g:Go.aQ.Node}{row:List D}(aF:(o X).a6<=j)(bP:oM X h P g row)(bq:∀e,P e->e<j)(bw:oN kt g)(az:RD g):
 aW X 78 [.agg row] h j (λac S' am=>ac= .Z 0/\bf X h j S' am) (λ_ _ _=>False):=by
 refine zx au.todi (am5 X) ?_
 rw[am6]
 unfold aa5
 obtain⟨c5,dt,aS,eM,bZ,cu,c0,fE,bL,rfl,mH,k5,oj,jp,e6⟩:=bP
 have c7:=mH.len
 have cr:=k5.len
 have dZ:=oj.len
 have j4:=e6.wide
 have f6:=jp.len
 have ik:=jp.many
 rw[Zi]at c7 cr dZ
 rw[j4.1]at f6 ik
 have aE2:=az.vars
 have aDZ:=az.eqs
 have HJ:0<g.out.length:=Yj.2 bw.some
 have bD:bl .add (.Z (g.d3.length:Int)) (.Z (g.out.length:Int))=some (.Z ((g.d3.length+g.out.length:Nat):Int)):=by rw[eH Zo Zo];simp
 have cG:bl .add (.Z ((g.d3.length+g.out.length:Nat):Int)) (.Z (g.loc.length:Int))=some (.Z ((g.d3.length+g.out.length+g.loc.length:Nat):Int)):=by rw[eH Zo Zo];simp
 have c1:decide ((g.out.length:Int)=0)=false:=by simp only[Zc];omega
 have cH:decide ((256:Int)<((g.d3.length+g.out.length+g.loc.length:Nat):Int))=false:=by simp only[Zc];omega
 have eY:decide ((4096:Int)<(g.eqs.length:Int))=false:=by simp only[Zc];omega
 refine q6 ?_
 generalize de:bi X h j _=aK
 have bK:U X aK j=zu [.str g.name, .Z g.at_,c5,dt,aS,eM] 6:=by rw[<-de,bb aF];rfl
 have bH:bf X h j aK (j+1):=by rw[<-de];exact dA
 clear de
 refine gm (bp bK) @c7 (Za @cr (Za @dZ (Za @bD @cG))) ⟨?_⟩
 refine(L5 (j:=j+1) (h:=aK) au bT d7 bw.name Zo).Zm ?_
 rintro ac aJ aR ⟨rfl,bC⟩
 have fC:=bC.le
 rw[<-bC.aa _ Zo]at bK
 have hp:=bH.trans bC
 have cX:=(km mH.len).1
 have dI:=(km k5.len).1
 have gZ:=(km oj.len).1
 have hJ:hC 3 [.aT, .aT, .aT] [(0,1,c5),(1,1,dt),(2,1,aS)] aR=some (.slice aR 0 3 3, .cells (R.ofList [c5,dt,aS] 0 .nil) 3 .own):=by
  simp[hC,uy,uz,nY,cX,dI,gZ]
 refine gm (bp bK) @c7 (Za @cr (Za @dZ (Za @f6 (Za @c1 (Za @cH @eY))))) ⟨?_⟩
 refine f7 hJ ?_
 refine pI ⟨?_⟩
 generalize e0:bi X aJ aR _=a1
 have cM:U X a1 aR=zu [c5,dt,aS] 3:=by rw[<-e0,bb Zo]
 have ck:bf X h j a1 (aR+1):=⟨Zo,λe B=>by rw[<-e0];simp(disch:=omega) only[aC];exact hp.aa e B⟩
 have xd:U X a1 j=zu [.str g.name, .Z g.at_,c5,dt,aS,eM] 6:=by rw[<-e0];simp(disch:=omega) only[aC];exact bK
 clear e0
 have iT:∀e,P e->U X a1 e=U X h e:=λe B=>ck.aa e (bq e B)
 refine(acq (j:=aR+1) (h:=a1) au.todi Zo Zo cM (mH.aa iT) (k5.aa iT) (oj.aa iT) (λe B=>zq (bq e B)) Zo Zo).Zm ?_
 rintro ac bA cv ⟨GB,cC,cW⟩
 have iG:=cW.le
 refine pI ⟨?_⟩
 refine(apU (j:=cv) (h:=bA) au bT d7 Zo cC (λe B=>B.2) (λd aE=> ?_)).Zm ?_
 ·rcases Zz.1 aE with a|a
  ·exact bw.d3 d a
  ·rcases Zz.1 a with a|a
   ·exact bw.out d a
   ·exact bw.loc d a
 rintro ac bN cf ⟨rfl,dR⟩
 have iH:=dR.le
 have Ko:bf X a1 (aR+1) bN cf:=cW.trans dR
 have tm:bf X h j bN cf:=ck.trans Ko
 rw[<-Ko.aa _ Zo]at xd
 refine cL (bp xd) @f6 ⟨?_⟩
 refine fp (λm H S' aP=>∃(T:Nat),H.g 4=some (.Z 0)/\H.g 53=some eM/\H.g 54=some (.Z (g.eqs.length:Int))/\H.g 55=some (.Z (T:Int))/\T+m=g.eqs.length/\bf X h j S' aP)
  g.eqs.length ⟨0,be,be,be,fO,Zo,tm⟩ ?_
 rintro m H bY dv ⟨T,t4,qU,kG,qV,bJ,ej⟩
 have o7:=ej.le
 cases m with
 |zero=>
  have d:=zr T g.eqs.length
  refine fW @qV @kG @t4 @d ⟨?_⟩
  exact⟨rfl,ej⟩
 |succ m=>
  have d:=zs T g.eqs.length
  have bD:=zv T
  obtain⟨aj,b3⟩:=zt g.eqs T
  have Cb:=Zn b3
  have sn:=bw.eqs aj Cb
  obtain⟨row,fb,tD⟩:=e6.get T aj b3
  have qI:∀e,P e->U X bY e=U X h e:=λe B=>ej.aa e (bq e B)
  have dw:=jp.fI T (by rw[j4.1];omega)
  have hs:=(jp.aa qI).row Zd fb
  obtain⟨qQ,sH,cX,dI,kF,rfl,it,mK,pa,rt⟩:=tD
  have Ca:=it.len
  rw[show(fL aj.left).length=aj.left.length from by simp[fL]]at Ca
  have aEq:0<aj.left.length:=Yj.2 sn.some
  have yH:decide ((aj.left.length:Int)=0)=false:=by simp only[Zc];omega
  refine ih @qV @kG @qU @d @dw @hs ⟨?_⟩
  refine f7 (iJ (y:=4) (b:=dv) (V:=0) (n:=4) (c:=R.ofList [.aT, .aT, .Z 0, .cF] 0 .nil) (bb Zo) Zo rfl Zd Zd rt) ?_
  generalize kO:bi X _ dv _=cn
  have ek:U X cn dv=zu [qQ,sH, .Z aj.at_,kF] 4:=by rw[<-kO,bb Zo];rfl
  have eA:bf X h j cn (dv+1):=⟨Zo,λe B=>by rw[<-kO];simp(disch:=omega) only[aC];exact ej.aa e B⟩
  clear kO
  have rz:∀e,P e->U X cn e=U X h e:=λe B=>eA.aa e (bq e B)
  refine ce (bp ek) ⟨?_⟩
  refine(aru (j:=dv+1) (h:=cn) au bT d7 iP Zo (cE.aa rz _ _ pa) (λe B=>zq (bq e B)) sn.right (az.high aj Cb)).Zm ?_
  rintro ac dC iw ⟨rfl,hx⟩
  have Ae:=hx.le
  rw[<-hx.aa _ Zo]at ek
  have ad3:bf X h j dC iw:=eA.trans hx
  have Ct:∀e,P e->U X dC e=U X h e:=λe B=>ad3.aa e (bq e B)
  refine ed (bp ek) @Ca @yH ⟨?_⟩
  refine(axH (j:=iw) (h:=dC) au bT d7 Zo (it.aa Ct) (λe B=>zq (bq e B)) sn.left).Zm ?_
  rintro ac dW d4 ⟨rfl,hc⟩
  have f1:decide ((0:Int)=1)=false:=rfl
  have fD:decide ((0:Int)≠0)=false:=rfl
  refine fW @f1 @fD @qV @bD ⟨?_⟩
  exact⟨m,Zo,T+1,aZ t4,aZ qU,aZ kG,be,Zo,ad3.trans hc⟩
set_option maxRecDepth 100000 in
def art(au:i2 X)(bT:l6 X)(d7:rW X)(iP:wL X){P:Nat->Prop}{an:List Go.aQ.Node}{v:D}(aF:(o X).a6<=j)(bP:oO X h P an v)(bq:∀e,P e->e<j)(bw:∀g∈an,oN kt g)(aY:an≠[])(az:qK an=none):
 aW X 52 [v] h j (λac S' am=>ac= .Z 0/\bf X h j S' am) (λ_ _ _=>False):=by
 refine zx au.todi (amh X) ?_
 rw[ami]
 unfold aaB
 obtain⟨qB,mJ⟩:=L0 az
 obtain⟨b,aS,cO,bL,rfl,ag,a0,cC,kz⟩:=id bP
 have j4:=kz.wide
 have d2:=cC.len
 rw[j4.1]at d2
 have fY:=bq b ag
 have aw:0<an.length:=Yj.2 aY
 have c1:decide ((an.length:Int)=0)=false:=by simp only[Zc];omega
 have cH:decide ((64:Int)<(an.length:Int))=false:=by simp only[Zc];omega
 refine gb @SW @a0 @d2 @c1 @cH ⟨?_⟩
 refine fp (λm H S' aP=>∃(T:Nat),H.g 3=some (.Z 0)/\H.g 28=some aS/\H.g 29=some (.Z (an.length:Int))/\H.g 30=some (.Z (T:Int))/\T+m=an.length/\bf X h j S' aP)
  an.length ⟨0,be,be,be,fO,Zo,bf.refl _ _⟩ ?_
 rintro m H aK aM ⟨T,t3,aiN,FN,C1,bJ,bH⟩
 have jG:=bH.le
 cases m with
 |zero=>
  have d:=zr T an.length
  refine fW @C1 @FN @t3 @d ⟨?_⟩
  exact⟨rfl,bH⟩
 |succ m=>
  have d:=zs T an.length
  have bD:=zv T
  obtain⟨g,nI⟩:=zt an T
  have o6:=Zn nI
  obtain⟨row,fb,jH⟩:=kz.get T g nI
  have l1:∀e,P e->U X aK e=U X h e:=λe B=>bH.aa e (bq e B)
  have dw:=cC.fI T (by rw[j4.1];omega)
  have hs:=(cC.aa l1).row Zd fb
  have jI:=jH.ju
  have tB:=jH
  obtain⟨c5,dt,kX,eM,bZ,cu,c0,fE,h8,rfl,_⟩:=jH
  refine ih @C1 @FN @aiN @d @dw @hs ⟨?_⟩
  refine f7 (iJ (y:=6) (b:=aM) (V:=0) (n:=6) (c:=R.ofList [.str [], .Z 0, .aT, .aT, .aT, .aT] 0 .nil) (bb Zo) Zo rfl Zd Zd jI) ?_
  generalize dO:bi X _ aM _=aJ
  have b1:U X aJ aM=zu [.str g.name, .Z g.at_,c5,dt,kX,eM] 6:=by rw[<-dO,bb Zo];rfl
  have bC:bf X h j aJ (aM+1):=⟨Zo,λe B=>by rw[<-dO];simp(disch:=omega) only[aC];exact bH.aa e B⟩
  clear dO
  refine ce (bp b1) ⟨?_⟩
  refine(ayh (j:=aM+1) (h:=aJ) au bT d7 iP Zo (tB.aa (bg:=P) (λe B=>bC.aa e (bq e B)) (λ_ a=>a)) (λe B=>zq (bq e B)) (bw g o6) (mJ g o6)).Zm ?_
  rintro ac a1 bn ⟨rfl,ck⟩
  have f1:decide ((0:Int)=1)=false:=rfl
  have fD:decide ((0:Int)=22)=false:=rfl
  refine fW @f1 @fD @C1 @bD ⟨?_⟩
  exact⟨m,Zo,T+1,aZ t3,aZ aiN,aZ FN,be,Zo,bC.trans ck⟩
end
section
variable{X:ch}{h S' eF aK aJ:R af}{j am aM aR:Nat}{s:aX}
def p9(c:R D)(F b:D):(dT c 0 [F,b]).get 0=some F:=by rw[ix];simp
def qa(c:R D)(F b:D):(dT c 0 [F,b]).get 1=some b:=by rw[ix];simp
set_option maxRecDepth 100000 in
def apu(au:i2 X)(bT:l6 X)(d7:rW X)(iP:wL X){P:Nat->Prop}{an:List Go.aQ.Node}{v:D}(aF:(o X).a6<=j)(bP:oO X h P an v)(bq:∀e,P e->e<j)(bw:∀g∈an,oN kt g)(aY:an≠[])(az:qK an=none):
 aW X 29 [v] h j (λac S' am=>ac= .agg [.Z (qm an).1, .Z (qm an).2]/\bf X h j S' am) (λ_ _ _=>False):=by
 refine zx au.todi (alD X) ?_
 rw[alE]
 unfold aad
 obtain⟨qB,mJ⟩:=L0 az
 refine qk ?_
 generalize de:bi X h j _=aK
 have bK:∃c,U X aK j=some (.cells c 2 .own):=⟨_,by rw[<-de,bb aF];rfl⟩
 have bH:bf X h j aK (j+1):=by rw[<-de];exact dA
 clear de
 have l1:∀e,P e->U X aK e=U X h e:=λe B=>bH.aa e (bq e B)
 refine(art (j:=j+1) (h:=aK) au bT d7 iP Zo (bP.aa (bg:=P) l1 (λ_ a=>a)) (λe B=>zq (bq e B)) bw aY az).Zm ?_
 rintro ac aJ aR ⟨rfl,bC⟩
 have fC:=bC.le
 rw[<-bC.aa _ Zo]at bK
 have hp:=bH.trans bC
 obtain⟨b,aS,cO,bL,rfl,ag,a0,cC,kz⟩:=id bP
 have j4:=kz.wide
 have d2:=cC.len
 rw[j4.1]at d2
 have fY:=bq b ag
 have bu:decide ((0:Int)≠0)=false:=rfl
 rw[<-hp.ep _ _ fY]at a0
 refine ed @bu @a0 @d2 ⟨?_⟩
 refine fp (λm H S' aP=>∃(T:Nat),H.g 0=some (.ptr b 0)/\H.g 2=some (.ptr j 0)/\H.g 13=some aS/\H.g 14=some (.Z (an.length:Int))/\H.g 15=some (.Z (T:Int))/\T+m=an.length/\bf X h j S' aP/\j<aP/\(∃c,U X S' j=some (.cells c 2 .own))/\qm an=GN an T (an.drop T))
  an.length ⟨0,be,be,be,be,fO,Zo,hp,Zo,bK,rfl⟩ ?_
 rintro m H a1 bn ⟨T,t0,ew,l3,mY,qS,bJ,ck,v6,⟨gZ,cM⟩,iQ⟩
 have jf:=ck.le
 cases m with
 |zero=>
  have d:=zr T an.length
  rw[ZD Zo]at iQ
  refine ih @qS @mY @ew @d @p9 @qa ⟨?_⟩
  refine⟨by rw[iQ];rfl, ?_⟩
  exact⟨Zo,λe B=>by rw[aC Zo Zo];exact ck.aa e B⟩
 |succ m=>
  have d:=zs T an.length
  have bD:=zv T
  obtain⟨g,nI⟩:=zt an T
  have o6:=Zn nI
  have aE:an.drop T=g::an.drop (T+1):=by
   obtain⟨ae,B⟩:=Zb.1 nI
   rw[Zr ae,B]
  rw[aE,GN]at iQ
  obtain⟨row,fb,jH⟩:=kz.get T g nI
  have iT:∀e,P e->U X a1 e=U X h e:=λe B=>ck.aa e (bq e B)
  have dw:=cC.fI T (by rw[j4.1];omega)
  have hs:=(cC.aa iT).row Zd fb
  have jI:=jH.ju
  have tB:=jH
  obtain⟨c5,dt,kX,eM,bZ,cu,c0,fE,h8,rfl,_⟩:=jH
  refine ih @qS @mY @l3 @d @dw @hs ⟨?_⟩
  refine f7 (iJ (y:=6) (b:=bn) (V:=0) (n:=6) (c:=R.ofList [.str [], .Z 0, .aT, .aT, .aT, .aT] 0 .nil) (bb Zo) Zo rfl Zd Zd jI) ?_
  generalize e1:bi X _ bn _=bA
  have dF:U X bA bn=zu [.str g.name, .Z g.at_,c5,dt,kX,eM] 6:=by rw[<-e1,bb Zo];rfl
  have d1:∀e,e<bn->U X bA e=U X a1 e:=λe B=>by rw[<-e1];exact zw
  clear e1
  have cW:bf X h j bA (bn+1):=⟨Zo,λe B=>by rw[d1 e Zo];exact ck.aa e B⟩
  rw[<-d1 _ Zo]at cM
  refine cL @t0 (bp dF) ⟨?_⟩
  refine(Qo (j:=bn+1) (h:=bA) au.todi Zo (λe B=>zq (bq e B)) (tB.aa (bg:=P) (λe B=>cW.aa e (bq e B)) (λ_ a=>a)) (by rw[DQ];have:=(mJ g o6).vars;simp only[oA];omega)).Zm ?_
  rintro ac bN cf ⟨b8,kS,rJ,dX,rfl,kj,xA,cN,cB,ea,fQ,dR⟩
  have iH:=dR.le
  have asP:bf X h j bN cf:=cW.trans (dR.ko Zo)
  rw[<-dR.aa _ Zo]at cM
  refine cL @t0 @qS ⟨?_⟩
  generalize gN:bi X _ (cf+1) _=bY
  have d0:U X bY (cf+1)=zu [.ptr b 0, .Z (T:Int), .ptr b8 0, .map cf, .Z 0, .Z 0] 6:=by rw[<-gN,bb Zo];rfl
  have ek:U X bY cf=some (.map [] 0):=by rw[<-gN];simp(disch:=omega) only[aC,bb]
  have ej:bf X bN cf bY (cf+1+1):=by rw[<-gN];exact dA
  clear gN
  have ad1:bf X h j bY (cf+1+1):=asP.trans (ej.ko Zo)
  rw[<-ej.aa _ Zo]at cM
  have gz:∀e,(P e\/dx (bn+1) cf e)->e<cf+1+1/\e≠cf+1/\e≠cf:=by
   rintro e (B|B)
   ·have:=bq e B;omega
   ·have:=B.2;omega
  refine(apv (j:=cf+1+1) (h:=bY) (P:=λe=>P e\/dx (bn+1) cf e) (y:=T) (an:=an) (g:=g) (b8:= .ptr b8 0) au.todi Zo Zo Zo Zo Zo Zo gz
   (bP.aa (λe B=>ad1.aa e (bq e B)) (λ_ a=> .inl a)) nI ⟨b8,kS,rfl, .inr kj, .inr xA,by rw[ej.ep _ _ (zq kj.2)];exact cN,cB.aa (ej.aa _ xA.2)⟩ d0 ⟨[],0,ek,λ_=>rfl⟩).Zm ?_
  rintro ac cn d8 ⟨rfl,B2,ng,sj⟩
  have eA:bf X h j cn d8:=⟨Zo,λe B=>by rw[sj e Zo Zo Zo];exact ad1.aa e B⟩
  rw[<-sj _ Zo Zo Zo]at cM
  have pF:aI X cn (.ptr (cf+1) 4)=some (.Z (rC an T g).1):=by unfold gr at B2;rw[bp B2];rfl
  have f5:aI X cn (.ptr (cf+1) 5)=some (.Z (rC an T g).2):=by unfold gr at B2;rw[bp B2];rfl
  by_cases cm:(rC an T g).1=0
  ·have yL:decide ((rC an T g).1≠0)=false:=by simp[cm]
   rw[Zh (by simp[cm])]at iQ
   refine fW @pF @yL @qS @bD ⟨?_⟩
   exact⟨m,Zo,T+1,aZ t0,aZ ew,aZ l3,aZ mY,be,Zo,eA,Zo,⟨gZ,cM⟩,iQ⟩
  ·have yL:decide ((rC an T g).1≠0)=true:=by simp[cm]
   rw[Zp cm]at iQ
   have vY:cZ X cn 2 (.ptr (cf+1) 4)=some (.agg [.Z (rC an T g).1, .Z (rC an T g).2]):=by rw[il,pF,f5];rfl
   refine ih @pF @yL @vY @ew @p9 @qa ⟨?_⟩
   refine⟨by rw[iQ], ?_⟩
   exact⟨Zo,λe B=>by rw[aC Zo Zo];exact eA.aa e B⟩
end
def p2(t:aX->Option c8)(w:aX):er:=((t w).getD nw).d.ty
def tQ:List er->Bool
 |[]=>true
 |F::k=>(F::k).all λb=>decide (b=F)
def IW:er:=⟨true,false,1⟩
def JK(an:List Go.aQ.Node)(nm:aX)(F:List er):List er×Bool:=
 match an[(qs an nm).getD 0]? with
 |none=>([],false)
 |some g=>(g.out.map (·.ty),decide (g.d3.map (·.ty)=F))
def lE(an:List Go.aQ.Node)(t:aX->Option c8)(E:bB)(F:List er):List er×Bool:=
 let a0:=F.headD dQ
 if E.kind=1 then([E.ty],true)
 else if E.kind=2 then([p2 t E.name],true)
 else if E.kind=3\/E.kind=5 then([a0],true)
 else if E.kind=4\/E.kind=19\/E.kind=20 then([a0], !a0.b)
 else if E.kind=6 then([a0],(p2 t E.name).b)
 else if E.kind=7\/E.kind=8\/E.kind=9\/E.kind=21\/E.kind=22 then([a0],tQ F)
 else if E.kind=16\/E.kind=17\/E.kind=18 then([a0],tQ F&& !a0.b)
 else if E.kind=10\/E.kind=11 then([IW],tQ F)
 else if E.kind=12\/E.kind=13\/E.kind=14\/E.kind=15 then([IW],tQ F&& !a0.b)
 else if E.kind=23 then([(F[1]?).getD dQ],a0.b&&tQ F.tail)
 else if E.kind=24 then([a0],tQ F&&(p2 t E.name).b)
 else if E.kind=26 then([E.ty], !E.ty.b||a0.b)
 else JK an E.name F
mutual
def BG(an:List Go.aQ.Node)(t:aX->Option c8):bB->Except Int (List er)
 | .mk y at_ nm no ty n args=>match wV an t args with
   | .error F=> .error F
   | .ok (bM,one)=>if one=false then .error at_ else
     let r:=lE an t (.mk y at_ nm no ty n args) bM
     if r.2=false then .error at_ else .ok r.1
def wV(an:List Go.aQ.Node)(t:aX->Option c8):List bB->Except Int (List er×Bool)
 |[]=> .ok ([],true)
 |E::k=>match BG an t E with
  | .error F=> .error F
  | .ok r=>match wV an t k with
    | .error F=> .error F
    | .ok (bM,one)=>match r with
      |[x]=> .ok (x::bM,one)
      |_=> .ok (bM,false)
end
def NG(t:aX->Option c8)(g:Go.aQ.Node):Option Int:=(gy g).findSome? λx=>if x.2.on≠[]/\(p2 t x.2.on).b=false then some x.2.eP else none
def xa(an:List Go.aQ.Node)(t:aX->Option c8)(aj:f8):Option Int:=match BG an t aj.right with
 | .error F=>some F
 | .ok row=>if (1<aj.left.length/\aj.right.kind≠25)\/row≠aj.left.map (p2 t)then some aj.at_ else none
def Fg(an:List Go.aQ.Node)(g:Go.aQ.Node):Option Int:=match NG (dl g) g with
 |some F=>some F
 |none=>g.eqs.findSome? (xa an (dl g))
def ML(an:List Go.aQ.Node):Option Int:=an.findSome? (Fg an)
end
open Go.ba
noncomputable section
variable (X : ch) (h : R af) (j : Nat) (ah av : bI) (a0 a7 b6 a3 a4 a5 hE ib iz : D)
def II(a:aL)(b:bI):ft:=λc d e=>nV a [.cell 2 31, .cell 3 26] b c c.bd d e
def Qx(a:aL)(b c:bI):s4:=λd e f g=>wr a [.cell 2 31, .cell 3 26] b c d e d.bd f g
def abi(a:aL)(b:D)(c:R af)(d:Nat)(e f:bI):Prop:=
 ar (hR [.cF] d) λg=>gu a c d g.1 g.2 λc d g=>A8 g a d λd g h=>aW a 29 [b] g h (λg h i=>I8 i a h g λg h i=>yh g a i 0 λj=>bk (λb c d=>fm b 2 3 λg h=>JS (.func (.func 30) [] [g,h]) [] b λb=>gu a c d (.map d) (.map [] 0) λc d g=>ar (fv [.mv] [(0,1,c)]) λc=>hn a d g c λc d g=>cz (b 2) λh=>oK a d h c λc=>iY b 2 a c λd=>e3 b λh=>ar (fv [.cF, .cF, .cF] [(0,1,d),(1,1,h)]) λd=>hn a c g d λc d g=>rT b a d λh=>ip h (λb c d=>iY b 2 a c λf=>De λg=>cz (b 2) λh=>oK a c h f λc=>qd b λf=>ar (gg a c 2 f g) λc=>II a e b c d) λi j=>fg (λb c d g=>hm c 27 26 λh=>bk (λc d g=>sT (λa c d=>gJ a 27 λe=>b (Z a 27 e) c d) c 25 27 6 λb h=>C9 a d h g λd g h=>ps c λi=>ar (cZ a h 6 d) λj=>aW a 31 [i,j] h g (λ_ a e=>b (Z c 7 d) a e) (Qx a e f (h2 [31,32,33] (Z c 7 d)))) λa=>aV h (a (Z c 28 h) d g) (j (Z c 28 h) d g)) (zA b 5 c 25 h 26 i 27 (.Z 0)) d g) λf=>aV j (eW (h+3) λf=>m2 a i g λh=>ar (gg a i 1 c .cF) λi=>m2 a i g λk=>gn k (some h) (ar (gg a i 2 d h) λh=>II a e (zA (cP [b]) 2 c 3 d 4 g 12 j) h f)) (f (zA (cP [b]) 2 c 3 d 4 g 12 j) i h)) (Qx a e f (h2 [8,9,4] (zy (cP [b]) 2 c 3 d)))
def anS:BI X 9 [a0] h j ah av=abi X a0 h j ah av:=Zk
def anR:cQ X 9 1=true:=Zk
def RJ(a:aL)(b c:D)(d:Option D)(e:R af)(f:Nat)(g:Bool->R af->Nat->Prop):Prop:=
 IG (some d) (cP [b,c]) λb c=>bk (λa b c=>g a.rc b c) λd=>ar (dc a e .eql 20 true b .nilIface) λg=>bk d λd=>aV g (d (zy c 5 b 7 g) e f) (ar (Gz 26 (.agg [.Z 0, .Z 0]) true b) λh=>ar (n3 1 h) λi=>ar (n3 0 h) λh=>bk d λd=>aV i (I8 f a e h λe f j=>eW (f+3) λf=>m2 a j e λk=>e3 c λl=>ar (gg a j 1 l .cF) λj=>m2 a j e λl=>gn l (some k) (sW c λl=>ar (gg a j 2 l k) λa=>d (Z (zA c 5 b 7 g 9 i 10 h) 3 e) a f)) (ws (λ_ _ _=>False) b e f))
def aae(X:ch)(a0 a7:D)(j7:Option D)(h:R af)(j:Nat)(ah:Bool->R af->Nat->Prop):yQ X 30 [a0,a7] j7 h j ah=RJ X a0 a7 j7 h j ah:=Zk
def RK:cQ X 30 2=true:=Zk
def aaf(a:aL)(b c:D)(d:R af)(e:Nat)(f g:bI):Prop:=
 hn a d e c λd e h=>rR a e 6 d 10 h g λe h i=>rS b 2 a h e λe=>e9 2 d a e λ_ h=>e9 3 d a e λ_ j=>e9 4 d a e λ_ k=>ar (fv [.aT, .aT, .aT] [(0,1,h),(1,1,j),(2,1,k)]) λh=>bk (λb c d=>iy b 3 5 a c λ_ e=>ip e (λ_ a b=>f (.tuple []) a b) λf h=>fg (λb c d e=>hm c 54 53 λf=>bk (λc d e=>sT (λa c d=>gJ a 54 λe=>b (Z a 54 e) c d) c 52 54 4 λb f=>Da a d f e λd e f=>e3 c λh=>e9 3 d a f λ_ i=>aW a 56 [h,i] f e (λe f h=>jy d a f λi=>ip i (λc d e=>cz (c 11) λf=>ar (gC f) λf=>ar (bl .gtr f (.Z 1)) λf=>Vw f (c 9) (λa=>hk 3 a) d e λd e h=>eB f (aI a e d) e h λd e h=>A7 f d e h 0 a λd e h=>eB f (bl .neq d (.Z 25)) e h λd e h=>c4 (λd=>xK d (c 10) e h λe f h=>xK d (c 11) f h λf h i=>kQ d (λb=>aW a 57 [e,f] h i b g) h i λe f h=>e7 d (gi .not e) f h λe f h=>c4 (λd=>bk b λb=>aV d (iy c 9 2 a f λ_ e=>aW a 55 [e] f h (λ_ a e=>b (Z c 92 d) a e) g) (b (Z c 92 d) f h)) λa=>aV d (a .zT) (a e)) λa=>aV f (a d) (a .zF)) λb j=>fg (λb c d e=>hm c 65 64 λf=>bk (λc d e=>vg (λa c d=>gJ a 65 λe=>b (Z a 65 e) c d) c 63 65 a d λb f=>fm c 11 0 λh i=>aW a 54 [i,f] d e (λd e g=>M1 d g λd=>Db a e g d.1 d.2 3 h λa d e=>b (zy c 13 f 11 a) d e) g) λa=>aV f (a (Z c 66 f) d e) (j (Z c 66 f) d e)) (zy (zA c 9 d 10 e 11 .aT 63 i) 64 b 65 (.Z 0)) f h) g) λa=>aV f (a (Z c 55 f) d e) (h (Z c 55 f) d e)) (zz b 52 e 53 f 54 (.Z 0)) c d) λf=>fg (λb c d e=>I5 c 26 3 λh=>bk (λc d e=>bk (λa c d=>gJ a 26 λe=>b (Z a 26 e) c d) λb=>fm c 25 26 λf h=>ar (uY false 3 1 f h) λf=>Gc f b λb h=>fg (λb c d e=>hm c 31 30 λf=>bk (λc d e=>bk (λa c d=>gJ a 31 λe=>b (Z a 31 e) c d) λb=>F7 c 29 31 a d e λd e f=>e9 5 d a f λ_ h=>ar (dc a f .neq 9 true h (.str [])) λh=>ow h (c 0) f e λe f i=>vf h 5 d f i a λf i j=>lC h (λb=>aW a 54 [e,f] i j b g) i j λe f i=>eB h (re false 0 1 e) f i λe f i=>eB h (gi .not e) f i λe f i=>c4 (λe=>bk b λb=>aV e (e9 6 d a f λ_ h=>aW a 55 [h] f i (λ_ a f=>b (zy c 7 d 45 e) a f) g) (b (zy c 7 d 45 e) f i)) λa=>aV h (a e) (a .zF)) λa=>aV f (a (Z c 32 f) d e) (h (Z c 32 f) d e)) (zA c 5 f 29 f 30 b 31 (.Z 0)) d e) λa=>aV h (a (Z c 27 h) d e) (f (Z c 27 h) d e)) (zz (cP [b,c]) 3 d 25 h 26 (.Z 0)) e i
def alG:cY X 31 [a0,a7] h j ah av=aaf X a0 a7 h j ah av:=Zk
def alF:cQ X 31 2=true:=Zk
def X6(a:aL)(b c:D)(d:R af)(e:Nat)(f g:bI):Prop:=
 aW a 138 [b,c] d e (λa b c=>Dg a λa=>f a b c) g
def akH:cY X 126 [a0,a7] h j ah av=X6 X a0 a7 h j ah av:=Zk
def akG:cQ X 126 2=true:=Zk
def aaD(a:aL)(b c:D)(d:R af)(e:Nat)(f g:bI):Prop:=
 I6 e λh=>gu a d e h.1 h.2 λd e h=>g9 b 2 a e λ_ b=>I4 a b c e h g λ_ b c e=>ar (hk 1 b) λb=>ar (hk 2 b) λb=>kI a e b λb=>uk a e 3 d b λa b=>f b a c
def amm:cY X 54 [a0,a7] h j ah av=aaD X a0 a7 h j ah av:=Zk
def aml:cQ X 54 2=true:=Zk
def aaE(_:aL)(a:D)(b:R af)(c:Nat)(_ d:bI):Prop:=
 Ja 26 a λa=>ws d a b c
def amo:cY X 55 [a0] h j ah av=aaE X a0 h j ah av:=Zk
def amn:cQ X 55 1=true:=Zk
def aaF(a:aL)(b c:D)(d:R af)(e:Nat)(f g:bI):Prop:=
 g9 c 8 a d λ_ h=>ip h (λb c d=>cz (b 6) λe=>ar (gi .not e) λe=>bk (λb c d=>fm b 0 1 λe h=>ps b λi=>aW a 84 [e,h,i] c d (λc d e=>hl c λc h=>ar (gi .not h) λi=>bk (λb c d=>rT b a c λe=>g9 e 0 a c λ_ e=>fm b 1 10 λg h=>hN (sy a c d 54 e g h) c d λ_ a c=>cz (b 10) λb=>f b a c) λf=>aV i (lO b 1 1 a d λ_ _ j=>aW a 55 [j] d e (λ_ a d=>f (zz b 10 c 11 h 49 i) a d) g) (f (zz b 10 c 11 h 49 i) d e)) g) λf=>aV e (lO b 1 1 a c λ_ _ h=>aW a 55 [h] c d (λ_ a c=>f (Z b 35 e) a c) g) (f (Z b 35 e) c d)) λf i=>fg (λb c d e=>hm c 17 16 λf=>bk (λc d e=>vg (λa c d=>gJ a 17 λe=>b (Z a 17 e) c d) c 15 17 a d λb f=>e3 c λh=>aW a 56 [h,f] d e (λd e g=>ar (gC d) λh=>ar (bl .neq h (.Z 1)) λh=>bk (λc d e=>fm c 5 9 λf g=>A3 3 g λg=>kI a d g λg=>M1 g e λg=>Db a d e g.1 g.2 3 f λa d e=>b (Z c 5 a) d e) λa=>aV h (b (zA c 8 f 9 d 26 h 6 .zF) e g) (a (zz c 8 f 9 d 26 h) e g)) g) λa=>aV f (a (Z c 18 f) d e) (i (Z c 18 f) d e)) (zy (zA (cP [b,c]) 4 .aT 5 .aT 6 .zT 15 h) 16 f 17 (.Z 0)) d e
def amq:cY X 56 [a0,a7] h j ah av=aaF X a0 a7 h j ah av:=Zk
def amp:cQ X 56 2=true:=Zk
def θ(a:aL)(b c:D)(d:R af)(e:Nat)(f g:bI):Prop:=
 ip b (λ_ a b=>f (.Z (-1)) a b) λh i=>fg (λb c d e=>hm c 8 7 λh=>bk (λc d e=>bk (λa c d=>gJ a 8 λe=>b (Z a 8 e) c d) λb=>F9 c 3 λh i j=>kI a d j λj=>iS a i [j] d e (λa d e=>bk b λb=>aV a (f h d e) (b (zy c 5 h 16 a) d e)) g) λa=>aV h (a (Z c 9 h) d e) (i (Z c 9 h) d e)) (zz (cP [b,c]) 4 (.Z 0) 7 h 8 (.Z 0)) d e
def ak3:cY X 138 [a0,a7] h j ah av=θ X a0 a7 h j ah av:=Zk
def ak2:cQ X 138 2=true:=Zk
def abc(a:aL)(b c d:D)(e:R af)(f:Nat)(g h:bI):Prop:=
 g9 c 0 a e λ_ i=>bk (λb c d=>fm b 0 1 λe f=>cz (b 2) λb=>aW a 107 [e,f,b] c d (λa b c=>hl a λa d=>g (.tuple [a,d]) b c) h) λj=>n4 i 1 j λj k=>aV j (lm c 4 λb=>kI a e b λb=>iS a (.func (.func 105) [] []) [b, .zT] e f (λa b c=>hl a λa d=>g (.tuple [a,d]) b c) h) (n4 i 2 k λk l=>aV k (g9 c 2 a e λ_ c=>aW a 54 [b,c] e f (λb c d=>iS a (.func (.func 105) [] []) [b, .zT] c d (λa b c=>hl a λa d=>g (.tuple [a,d]) b c) h) h) (ar (bl .eql i (.Z 3)) λm=>bk (λb c d=>cz (b 35) λe=>bk l λf=>aV e (Ga b a c λb _ e=>iS a b [e, .zT] c d (λa b c=>hl a λa d=>g (.tuple [a,d]) b c) h) (sU b 12 4 λe=>bk (λb c d=>cz (b 45) λe=>bk f λf=>aV e (eW (d+14) λd=>Ga b a c λe _ f=>cz (b 2) λb=>A3 3 b λb=>jy b a c λb=>ar (gi .not b) λb=>iS a e [f,b] c d (λa b c=>hl a λa d=>g (.tuple [a,d]) b c) h) (vh b 6 f λe f=>aV e (eW (d+16) λd=>Ga b a c λe f i=>fm b 0 1 λb j=>g9 j 2 a c λ_ j=>aW a 54 [b,j] c d (λb c d=>ar (re false 0 1 b) λb=>kI a c f λf=>gn f (some i) (iS a e [i,b] c d (λa b c=>hl a λa d=>g (.tuple [a,d]) b c) h)) h) (sU b 12 7 λi=>bk (λb c d=>cz (b 77) λe=>bk f λf=>aV e (eW (d+11) λd=>Ga b a c λe f i=>A6 b 2 a 106 c d h λb c d=>kI a c f λf=>gn f (some i) (iS a e [i,b] c d (λa b c=>hl a λa d=>g (.tuple [a,d]) b c) h)) (sU b 12 16 λe=>bk (λb c d=>cz (b 92) λe=>bk f λf=>aV e (eW (d+18) λd=>Ga b a c λe f i=>A6 b 2 a 106 c d h λc d j=>Az c (b 2) d λb d=>ji c (gt 3 b (.Z 0)) d λb d=>I7 c 0 b d a λb d=>ji c (gi .not b) d λb d=>c4 (λb=>kI a d f λc=>gn c (some i) (iS a e [i,b] d j (λa b c=>hl a λa d=>g (.tuple [a,d]) b c) h)) λa=>aV c (a b) (a .zF)) (sU b 12 10 λe=>bk (λb c d=>cz (b 112) λe=>bk f λf=>aV e (eW (d+9) λd=>cz (b 8) λe=>ar (cZ a c 3 (.ptr 2 0)) λf=>A6 b 2 a 106 c d h λb c d=>ar (cZ a c 3 (.ptr 2 0)) λi=>gn i (some f) (iS a e [f,b] c d (λa b c=>hl a λa d=>g (.tuple [a,d]) b c) h)) (sU b 12 12 λe=>bk (λb c d=>cz (b 122) λe=>bk f λf=>aV e (eW (d+16) λd=>cz (b 8) λe=>ar (cZ a c 3 (.ptr 2 0)) λf=>A6 b 2 a 106 c d h λc d i=>Az c (b 2) d λb d=>ji c (gt 3 b (.Z 0)) d λb d=>I7 c 0 b d a λb d=>ji c (gi .not b) d λb d=>c4 (λb=>ar (cZ a d 3 (.ptr 2 0)) λc=>gn c (some f) (iS a e [f,b] d i (λa b c=>hl a λa d=>g (.tuple [a,d]) b c) h)) λa=>aV c (a b) (a .zF)) (vh b 23 f λe f=>aV e (eW (d+18) λd=>fm b 8 2 λe f=>ar (gt 3 f (.Z 1)) λf=>kI a c f λi=>cz (b 2) λj=>A3 3 j λj=>jy j a c λj=>Az j (b 2) c λb c=>ji j (uc a c 3 b (some (.Z 1)) none none) c λb c=>lC j (λe=>aW a 106 [b] c d e h) c d λb c d=>c4 (λb=>kI a c f λf=>gn f (some i) (iS a e [i,b] c d (λa b c=>hl a λa d=>g (.tuple [a,d]) b c) h)) λa=>aV j (a b) (a .zF)) (vh b 24 f λf i=>aV f (eW (d+20) λd=>Ga b a c λe f i=>A6 b 2 a 106 c d h λc d j=>Az c (b 0) d λd k=>F8 c b 1 k 2 a λb k=>kI a k f λl=>gn l (some i) (lC c (λc=>aW a 54 [d,b] k j c h) k j λb d j=>ji c (re false 0 1 b) d λb d=>c4 (λb=>kI a d f λc=>gn c (some i) (iS a e [i,b] d j (λa b c=>hl a λa d=>g (.tuple [a,d]) b c) h)) λa=>aV c (a b) (a .zF))) (vh b 26 i λi j=>aV i (eW (d+22) λd=>fm b 8 1 λe f=>lm f 4 λf=>kI a c f λf=>sW b λi=>lm i 4 λi=>jy i a c λi=>ar (gi .not i) λi=>Vu i (b 2) c λb c=>tK i (gt 3 b (.Z 0)) c λb c=>tK i (hk 0 b) c λb c=>tK i (aI a c b) c λb c=>c4 (λb=>iS a e [f,b] c d (λa b c=>hl a λa d=>g (.tuple [a,d]) b c) h) λa=>aV i (a .zT) (a b)) (j (zz b 141 e 159 f 179 i) c d))))) λa=>aV e (a (Z b 122 e) c d) (vh b 13 a λa f=>aV a (f (zy b 122 e 122 a) c d) (vh b 14 f λf g=>aV f (g (zz b 122 e 122 a 122 f) c d) (sU b 12 15 λh=>g (zA b 122 e 122 a 122 f 122 h) c d))))) λa=>aV e (a (Z b 112 e) c d) (sU b 12 11 λf=>a (zy b 112 e 112 f) c d))) λa=>aV e (a (Z b 92 e) c d) (vh b 17 a λa f=>aV a (f (zy b 92 e 92 a) c d) (sU b 12 18 λg=>f (zz b 92 e 92 a 92 g) c d)))) λa=>aV i (a (zy b 61 e 77 i) c d) (vh b 8 a λa f=>aV a (f (zz b 61 e 77 i 77 a) c d) (vh b 9 f λf g=>aV f (g (zA b 61 e 77 i 77 a 77 f) c d) (vh b 21 g λg h=>aV g (h (Z (zA b 61 e 77 i 77 a 77 f) 77 g) c d) (sU b 12 22 λj=>h (zy (zA b 61 e 77 i 77 a 77 f) 77 g 77 j) c d))))))) λa=>aV e (a (Z b 45 e) c d) (vh b 19 a λa f=>aV a (f (zy b 45 e 45 a) c d) (sU b 12 20 λg=>f (zz b 45 e 45 a 45 g) c d)))) λa=>aV m (a (zz (zA (cP [b,c,d]) 6 .aT 7 .zF 8 (.func (.func 105) [] []) 12 i) 13 j 23 k 35 m) e f) (ar (bl .eql i (.Z 5)) λg=>a (zA (zA (cP [b,c,d]) 6 .aT 7 .zF 8 (.func (.func 105) [] []) 12 i) 13 j 23 k 35 m 35 g) e f)))
def anj:cY X 84 [a0,a7,b6] h j ah av=abc X a0 a7 b6 h j ah av:=Zk
def ani:cQ X 84 3=true:=Zk
def XN(a:aL)(b c:D)(d:R af)(e:Nat)(f _:bI):Prop:=
 hn a d e b λb d e=>kI a d b λb=>M1 b e λb=>gu a d e b.1 b.2 λa b d=>f (.tuple [a,c]) b d
def aj5:cY X 105 [a0,a7] h j ah av=XN X a0 a7 h j ah av:=Zk
def aj4:cQ X 105 2=true:=Zk
def XO(a:aL)(b:D)(c:R af)(d:Nat)(e f:bI):Prop:=
 hn a c d b λb c d=>ar (aI a c b) λg=>aW a 126 [g, .func (.func 127) [] [b]] c d (λa b c=>ar (gi .not a) λa=>e a b c) f
def aj7:cY X 106 [a0] h j ah av=XO X a0 h j ah av:=Zk
def aj6:cQ X 106 1=true:=Zk
def XP(a:aL)(b c d:D)(e:R af)(f:Nat)(g h:bI):Prop:=
 eW (f+14) λf=>g9 b 1 a e λ_ i=>g9 c 2 a e λ_ c=>aW a 79 [i,c] e f (λc e f=>hl c λc _=>g9 b 1 a e λ_ b=>g9 b 0 a e λ_ b=>ar (gt 6 b c) λb=>C9 a e b f λb c e=>eW (c+12) λc=>e9 3 b a e λ_ f=>e9 2 b a e λb i=>iS a (.func (.func 128) [] []) [f] e c (λc e f=>ar (aI a e b) λb=>gn b (some i) (iS a (.func (.func 128) [] []) [i] e f (λb e f=>aW a 57 [b,d] e f (λa b d=>g (.tuple [c,a]) b d) h) h)) h) h
def aj9:cY X 107 [a0,a7,b6] h j ah av=XP X a0 a7 b6 h j ah av:=Zk
def aj8:cQ X 107 3=true:=Zk
def X7(a:aL)(b c:D)(d:R af)(e:Nat)(f _:bI):Prop:=
 hn a d e b λb d e=>eW (e+6) λe=>kI a d b λb=>ar (aI a d c) λc=>A3 3 c λc=>kI a d c λc=>ar (dc a d .neq 44 false b c) λa=>f a d e
def akJ:cY X 127 [a0,a7] h j ah av=X7 X a0 a7 h j ah av:=Zk
def akI:cQ X 127 2=true:=Zk
def X8(a:aL)(b:D)(c:R af)(d:Nat)(e _:bI):Prop:=
 ip b (λa b c=>qd a λa=>e a b c) λe f=>fg (λb c d e=>hm c 8 7 λg=>bk (λc d e=>bk (λa c d=>gJ a 8 λe=>b (Z a 8 e) c d) λb=>F7 c 6 8 a d e λd e f=>qd c λg=>ar (hk 2 d) λh=>kI a f h λh=>M1 h e λh=>Db a f e h.1 h.2 3 g λa e f=>b (zy c 5 d 3 a) e f) λa=>aV g (a (Z c 9 g) d e) (f (Z c 9 g) d e)) (Z (zA (cP [b]) 2 .aT 3 .aT 6 b 7 e) 8 (.Z 0)) c d
def akL:cY X 128 [a0] h j ah av=X8 X a0 h j ah av:=Zk
def akK:cQ X 128 1=true:=Zk
end
noncomputable section
section
variable{X:ch}{h S' aK aJ:R af}{j am aM aR:Nat}{P:Nat->Prop}
def nC(X:ch)(h:R af)(P:Nat->Prop)(aS:D)(k:List er):Prop:=∃b,dL X h P b aS 3 (k.map eD)
def nC.aa{bg:Nat->Prop}{aS:D}{k:List er}(a:nC X h P aS k)(y:∀e,P e->U X S' e=U X h e)(az:∀e,P e->bg e):nC X S' bg aS k:=by
 obtain⟨b,a⟩:=a
 exact⟨b,(a.aa y).lift az⟩
def ado(X:ch):List Field:=match (o X).P.underlying 44 with|some (.struct jE)=>jE.toList|_=>[]
def aqA(eq:Nat->D->D->Option Bool)(F b c fu dK f9:D):yu X eq (ado X) [F,b,c] [fu,dK,f9]=(match eq 4 F fu with|some true=>(match eq 4 b dK with|some true=>(match eq 3 c f9 with|some true=>some true|some false=>some false|none=>none)|some false=>some false|none=>none)|some false=>some false|none=>none):=Zk
def aqy(ci m0:List D):jC X h 50 44 (.agg ci) (.agg m0)=yu X (jC X h 49) (ado X) ci m0:=Zk
def SV(F b:Bool):jC X h 49 4 (.bool F) (.bool b)=some (GI F b):=Zk
def aqN(F b:Int):jC X h 49 3 (.Z F) (.Z b)=some (xI F b):=Zk
def Sh(F b:Bool):GI F b=decide (F=b):=by cases F<;>cases b<;>rfl
def aqL(F b:er):jC X h 50 44 (.agg (eD F)) (.agg (eD b))=some (decide (F=b)):=by
 obtain⟨a7,b6,a3⟩:=F
 obtain⟨bZ,cu,c0⟩:=b
 simp only[eD]
 rw[aqy,aqA,SV,SV,aqN,Sh,Sh,H2]
 by_cases J:a7=bZ<;>by_cases Q:b6=cu<;>by_cases ak:a3=c0<;>simp[J,Q,ak]
def ahp(F b:er):dc X h .neq 44 false (.agg (eD F)) (.agg (eD b))=some (.bool (!decide (F=b))):=by
 have a:dc X h .neq 44 false (.agg (eD F)) (.agg (eD b))=(match jC X h 50 44 (.agg (eD F)) (.agg (eD b))with|some b=>n9 (!b)|none=>none):=Zk
 rw[a,aqL]
 cases decide (F=b)<;>rfl
def LW{b V:Nat}{c:R D}{n:Nat}{st:oP}{t:er}(ag:U X h b=some (.cells c n st))(a:c.k3 V 3=some (eD t)):cZ X h 3 (.ptr b V)=some (.agg (eD t)):=by
 rw[wj,ag];simp only[a,ZR]
structure yt(X:ch)(h:R af)(P:Nat->Prop)(aS:D)(k:List er):Prop where
 len:gC aS=some (.Z (k.length:Int))
 many:k.length<=300000
 fI:∀(i:Nat) t,k[i]? =some t->∃b V,gt 3 aS (.Z (i:Int))=some (.ptr b V)/\P b/\cZ X h 3 (.ptr b V)=some (.agg (eD t))/\aI X h (.ptr b V)=some (.bool t.b)
def yt.aa{bg:Nat->Prop}{aS:D}{k:List er}(a:yt X h P aS k)(y:∀e,P e->U X S' e=U X h e)(az:∀e,P e->bg e):yt X S' bg aS k:=
 ⟨a.len,a.many,λi t aN=>by
  obtain⟨b,V,J,Q,ak,ay⟩:=a.fI i t aN
  exact⟨b,V,J,az b Q,by rw[wj,y b Q, <-wj];exact ak,zB (y b Q) ay⟩⟩
def nC.rd{aS:D}{k:List er}(a:nC X h P aS k):yt X h P aS k:=by
 obtain⟨b,a⟩:=a
 have az:=a.len
 have bo:=a.many
 rw[Zi]at az bo
 refine⟨az,bo,λi t aN=> ?_⟩
 have k6:=(Zb.1 aN).1
 have Y:(k.map eD)[i]? =some (eD t):=by rw[Zw,aN];rfl
 refine⟨b,i*3,a.fI i (by rw[Zi];omega),a.ag (λE=>by rw[E]at Y;cases Y),a.row Zd Y, ?_⟩
 exact a.cell i (eD t) 0 _ Y rfl
def azc(au:di X){F b:er}{k:List er}{aS:D}{c:Nat}(aF:(o X).a6<=j)(ax:c<j)(g1:aI X h (.ptr c 0)=some aS)(a8:yt X h P aS (b::k))(bq:∀e,P e->e<j):
 aW X 127 [.agg (eD F), .ptr c 0] h j (λac S' am=>ac= .bool (!decide (F=b))/\bf X h j S' am) (λ_ _ _=>False):=by
 refine zx au (akI X) ?_
 rw[akJ]
 unfold X7
 obtain⟨cO,V,dw,od,vY,_⟩:=a8.fI 0 b rfl
 have dw:gt 3 aS (.Z 0)=some (.ptr cO V):=dw
 refine q6 ?_
 generalize de:bi X h j _=aK
 have bK:cZ X aK 3 (.ptr j 0)=some (.agg (eD F)):=by rw[<-de];exact LW (bb aF) (by cases F;rfl)
 have bH:bf X h j aK (j+1):=by rw[<-de];exact dA
 clear de
 have aH:=λe (B:P e)=>bH.aa e (bq e B)
 have hs:cZ X aK 3 (.ptr cO V)=some (.agg (eD b)):=by rw[wj,aH cO od, <-wj];exact vY
 have atI:aI X aK (.ptr c 0)=some aS:=zB (bH.aa c ax) g1
 refine gb @bK @atI @dw @hs @ahp ⟨?_⟩
 exact⟨rfl,bH.more Zo⟩
def azd(b:er)(k:List er):tQ (b::k)=(b::k).all (λF=>decide (F=b)):=rfl
def awp(au:di X){b:er}{k:List er}{aS:D}{c:Nat}(aF:(o X).a6<=j)(ax:c<j)(g1:aI X h (.ptr c 0)=some aS)(a8:yt X h P aS (b::k))(bq:∀e,P e->e<j):
 aW X 138 [aS, .func (.func 127) [] [.ptr c 0]] h j (λac S' am=>(∃y:Int,ac= .Z y/\decide (0<=y)= !tQ (b::k))/\bf X h j S' am) (λ_ _ _=>False):=by
 refine zx au (ak2 X) ?_
 rw[ak3]
 unfold θ
 have d2:=a8.len
 have ik:=a8.many
 rw[azd]
 generalize gT:b::k=L at*
 refine ce @d2 ⟨?_⟩
 refine fp (λm H S' aP=>∃(T:Nat),H.g 0=some aS/\H.g 1=some (.func (.func 127) [] [.ptr c 0])/\H.g 7=some (.Z (L.length:Int))/\H.g 8=some (.Z (T:Int))/\T+m=L.length/\bf X h j S' aP/\L.all (λF=>decide (F=b))=(L.drop T).all (λF=>decide (F=b)))
  L.length ⟨0,be,be,be,fO,Zo,bf.refl _ _,rfl⟩ ?_
 rintro m H aJ aR ⟨T,t0,t1,t7,t8,bJ,bC,cb⟩
 have fC:=bC.le
 cases m with
 |zero=>
  have d:=zr T L.length
  rw[ZD Zo]at cb
  refine ed @t8 @t7 @d ⟨?_⟩
  exact⟨⟨-1,rfl,by rw[cb];rfl⟩,bC⟩
 |succ m=>
  have d:=zs T L.length
  have bD:=zv T
  obtain⟨g,bP⟩:=zt L T
  have aE:L.drop T=g::L.drop (T+1):=by
   obtain⟨ae,B⟩:=Zb.1 bP
   rw[Zr ae,B]
  have aH:=λe (B:P e)=>bC.aa e (bq e B)
  obtain⟨cO,V,dw,od,hs,_⟩:=(a8.aa (bg:=P) aH (λ_ a=>a)).fI T g bP
  have Uc:aI X aJ (.ptr c 0)=some aS:=zB (bC.aa c ax) g1
  rw[aE,List.all_cons]at cb
  refine et @t8 @t7 @t1 @t0 @d @dw @hs ⟨?_⟩
  refine(azc au (b:=b) (k:=k) (aS:=aS) Zo Zo Uc (by rw[gT];exact a8.aa (bg:=P) aH (λ_ a=>a)) (λe B=>zq (bq e B))).Zm ?_
  rintro ac a1 bn ⟨rfl,ck⟩
  by_cases jg:g=b
  ·have cH:(!decide (g=b))=false:=by simp[jg]
   have eY:decide (g=b)=true:=by simp[jg]
   rw[eY,Bool.true_and]at cb
   rw[cH]
   refine cL @t8 @bD ⟨?_⟩
   exact⟨m,Zo,T+1,aZ t0,aZ t1,aZ t7,be,Zo,bC.trans ck,cb⟩
  ·have cH:(!decide (g=b))=true:=by simp[jg]
   have eY:decide (g=b)=false:=by simp[jg]
   rw[eY,Bool.false_and]at cb
   rw[cH]
   refine cI ⟨?_⟩
   exact⟨⟨T,rfl,by rw[cb];simp⟩,bC.trans ck⟩
def apK(au:di X){b:er}{k:List er}{aS:D}{c:Nat}(aF:(o X).a6<=j)(ax:c<j)(g1:aI X h (.ptr c 0)=some aS)(a8:yt X h P aS (b::k))(bq:∀e,P e->e<j):
 aW X 126 [aS, .func (.func 127) [] [.ptr c 0]] h j (λac S' am=>ac= .bool (!tQ (b::k))/\bf X h j S' am) (λ_ _ _=>False):=by
 refine zx au (akG X) ?_
 rw[akH]
 unfold X6
 refine(awp au aF ax g1 a8 bq).Zm ?_
 rintro ac S' aP ⟨⟨y,rfl,aH⟩,bT⟩
 refine cI ⟨?_⟩
 exact⟨by rw[aH],bT⟩
def Iu(au:di X){b:er}{k:List er}{aS:D}(aF:(o X).a6<=j)(hJ:aS.cells=[aS])(a8:yt X h P aS (b::k))(bq:∀e,P e->e<j):
 aW X 106 [aS] h j (λac S' am=>ac= .bool (tQ (b::k))/\bf X h j S' am) (λ_ _ _=>False):=by
 refine zx au (aj6 X) ?_
 rw[aj7]
 unfold XO
 refine q6 ?_
 rw[hJ]
 generalize de:bi X h j _=aK
 have bK:aI X aK (.ptr j 0)=some aS:=by rw[<-de,bp (bb aF)];rfl
 have bH:bf X h j aK (j+1):=by rw[<-de];exact dA
 clear de
 have aH:=λe (B:P e)=>bH.aa e (bq e B)
 refine ce @bK ⟨?_⟩
 refine(apK au Zo Zo bK (a8.aa (bg:=P) aH (λ_ a=>a)) (λe B=>zq (bq e B))).Zm ?_
 rintro ac aJ aR ⟨rfl,bC⟩
 refine cI ⟨?_⟩
 exact⟨Zs,bH.trans bC⟩
def Mf(au:di X){t:aX->Option c8}{bO:Nat}{b8:D}(aF:(o X).a6<=j)(iF:bO<j)(ax:aI X h (.ptr bO 2)=some b8)(a8:ia X h P b8 t)(bq:∀e,P e->e<j)(w:aX):
 aW X 54 [.ptr bO 0, .str w] h j (λac S' am=>ac= .agg (eD (p2 t w))/\bf X h j S' am) (λ_ _ _=>False):=by
 refine zx au (aml X) ?_
 rw[amm]
 unfold aaD
 refine qk ?_
 generalize de:bi X h j _=aK
 have bK:U X aK j=zu [.zF, .zF, .Z 0] 3:=by rw[<-de,bb aF];rfl
 have bH:bf X h j aK (j+1):=by rw[<-de];exact dA
 clear de
 have aH:=λe (B:P e)=>bH.aa e (bq e B)
 have tq:aI X aK (.ptr bO 2)=some b8:=zB (bH.aa bO iF) ax
 refine ce @tq ⟨?_⟩
 refine(yU au Zo (a8.aa (bg:=P) aH (λ_ a=>a)) (λe B=>zq (bq e B)) w).Zm ?_
 rintro ac aJ aR ⟨rfl,bC⟩
 have fC:=bC.le
 unfold p2
 generalize (t w).getD nw=v at*
 have ot:lM v=[.Z v.kind, .str v.d.name, .Z v.d.at_, .bool v.d.ty.b, .bool v.d.ty.s, .Z v.d.ty.w, .str v.d.on, .Z v.d.eP, .bool v.d.no, .Z v.eq, .Z v.left]:=rfl
 rw[ot]
 have b1:U X aJ j=zu [.zF, .zF, .Z 0] 3:=by rw[bC.aa _ Zo];exact bK
 have hp:=bH.trans bC
 refine cI ⟨?_⟩
 generalize e0:bi X _ aR _=a1
 have cM:U X a1 aR=zu [.Z v.kind, .str v.d.name, .Z v.d.at_, .bool v.d.ty.b, .bool v.d.ty.s, .Z v.d.ty.w, .str v.d.on, .Z v.d.eP, .bool v.d.no, .Z v.eq, .Z v.left] 11:=by rw[<-e0,bb Zo];rfl
 have ea:U X a1 j=zu [.zF, .zF, .Z 0] 3:=by rw[<-e0];simp(disch:=omega) only[aC];exact b1
 have ck:bf X h j a1 (aR+1):=⟨Zo,λe B=>by rw[<-e0];simp(disch:=omega) only[aC];exact hp.aa e B⟩
 clear e0
 have az:cZ X a1 3 (.ptr aR 3)=some (.agg (eD v.d.ty)):=LW cM rfl
 refine ce @az ⟨?_⟩
 generalize e1:bi X _ j _=bA
 have ae7:cZ X bA 3 (.ptr j 0)=some (.agg (eD v.d.ty)):=by rw[<-e1];exact LW (bb aF) rfl
 have cW:bf X h j bA (aR+1):=⟨Zo,λe B=>by rw[<-e1];simp(disch:=omega) only[aC];exact ck.aa e B⟩
 clear e1
 refine ce @ae7 ⟨?_⟩
 exact⟨rfl,cW⟩
def J6(au:di X)(aF:(o X).a6<=j)(F:Int){ah:bI}:
 aW X 55 [.Z F] h j ah (λac S' am=>ac=pG 26 F/\bf X h j S' am):=by
 refine zx au (amn X) ?_
 rw[amo]
 unfold aaE
 refine cI ⟨?_⟩
 exact⟨⟨rfl,dA⟩⟩
end
section
variable{X:ch}{h S' aK aJ:R af}{j am aM aR:Nat}{P:Nat->Prop}
def p8(k:List er):List (List D):=k.map eD
def MM(k:List er):∀r∈p8 k,r.length=3:=by
 intro r Y
 obtain⟨t,_,rfl⟩:=ZG.1 Y
 rfl
def ai1(k:List er):(p8 k).flatten.length=k.length*3:=by
 rw[uA (MM k)];simp[p8]
def aze(t:er):ju (eD t)=true:=rfl
def Xj{s:D}{k:List er}{cw:List Nat}{t:er}{cO:Nat}{st:oP}(a:gw X h s 3 (p8 k).flatten cw)(ag:U X h cO=some (.cells (R.ofList (eD t) 0 .nil) 3 st))(bo:k.length<=300000)(aF:(o X).a6<=j)(c2:∀e∈cw,e<j)(cap:Nat):
 ∃eX S' gL,jP X h j 3 s (.slice cO 0 1 cap)=some (.fq eX S' (j+1))/\gw X S' eX 3 (p8 (k++[t])).flatten gL/\(∀e∈gL,e=j\/e∈cw)/\∀e,e≠j->e∉cw->U X S' e=U X h e:=by
 have gT:=ai1 k
 obtain⟨eX,S',gL,J,Q,ak,ay⟩:=a.append (j:=j) Zd (sJ (y:=1) ag (nk _) rfl cap) rfl Zd (aze t) (by rw[gT];simp[eD];omega) aF c2
 refine⟨eX,S',gL,J, .inl ?_,ak,ay⟩
 have:(p8 (k++[t])).flatten=(p8 k).flatten++eD t:=by simp[p8]
 rw[this];exact Q
def ai0(au:di X){ds:List ey}{aS:D}{b:Nat}(aF:(o X).a6<=j)(cC:dL X h P b aS 8 (ds.map d6))(bq:∀e,P e->e<j)(bo:ds.length<=100000):
 aW X 128 [aS] h j (λac S' am=>(ac.cells=[ac]/\nC X S' (dx j am) ac (ds.map (·.ty)))/\bf X h j S' am) (λ_ _ _=>False):=by
 refine zx au (akK X) ?_
 rw[akL]
 unfold X8
 have d2:=cC.len
 rw[Zi]at d2
 refine ce @d2 ⟨?_⟩
 refine fp (λm H S' aP=>∃(T:Nat) (s:D) (cw:List Nat),H.g 3=some s/\H.g 6=some aS/\H.g 7=some (.Z (ds.length:Int))/\H.g 8=some (.Z (T:Int))/\T+m=ds.length/\bf X h j S' aP/\gw X S' s 3 (p8 ((ds.take T).map (·.ty))).flatten cw/\∀e∈cw,j<=e/\e<aP)
  ds.length ⟨0, .aT,[],be,be,be,fO,Zo,bf.refl _ _, .inl (.inl ⟨rfl,rfl,rfl⟩),Zs⟩ ?_
 rintro m H aJ aR ⟨T,s,cw,t3,t6,t7,t8,bJ,bC,aD,eU⟩
 have fC:=bC.le
 cases m with
 |zero=>
  have d:=zr T ds.length
  rw[ZB Zo]at aD
  refine fW @t8 @t7 @d @t3 ⟨?_⟩
  obtain⟨bD,cG,fV⟩:=gw.one aD
  obtain⟨dK,cy⟩:=aD.rH (P:=dx j aR) Zd (MM _) (by simp[p8];omega) eU
  exact⟨⟨bD,dK,cy⟩,bC⟩
 |succ m=>
  have d:=zs T ds.length
  have bD:=zv T
  obtain⟨g,bP⟩:=zt ds T
  have aH:=λe (B:P e)=>bC.aa e (bq e B)
  have dw:=cC.fI T (by rw[Zi];omega)
  have hs:=(cC.aa aH).row Zd (i:=T) (r:=d6 g) (by rw[Zw,bP];rfl)
  have kk:ds.take (T+1)=ds.take T++[g]:=by rw[ZU,bP];rfl
  refine ih @t8 @t7 @t6 @d @dw @hs ⟨?_⟩
  generalize e0:bi X _ aR _=a1
  have cM:U X a1 aR=zu (d6 g) 8:=by rw[<-e0,bb Zo];rfl
  have cS:∀e,e<aR->U X a1 e=U X aJ e:=λe B=>by rw[<-e0];exact zw
  clear e0
  have az:cZ X a1 3 (.ptr aR 2)=some (.agg (eD g.ty)):=LW cM rfl
  refine ed @t3 @az eD.eq_1 ⟨?_⟩
  generalize e1:bi X a1 _ _=bA
  have dF:U X bA (aR+1)=zu (eD g.ty) 3:=by rw[<-e1,bb Zo];rfl
  have d1:∀e,e<aR->U X bA e=U X aJ e:=λe B=>by rw[<-e1,aC Zo Zo];exact cS e B
  clear e1
  obtain⟨eX,bN,gL,iE,Ey,y6,nd⟩:=Xj (j:=aR+1+1) (aD.aa (S':=bA) (λe B=>d1 e (eU e B).2)) dF (by rw[Zi,zf];omega) Zo (λe B=>zq (eU e B)) 1
  refine j8 iE ?_
  refine cL @t8 @bD ⟨?_⟩
  refine⟨m,Zo,T+1,eX,gL,be,aZ t6,aZ t7,be,Zo,⟨Zo,λe B=> ?_⟩, ?_,λe B=> ?_⟩
  ·rw[nd e Zo (λa=>zq (eU e a)),d1 e Zo];exact bC.aa e B
  ·rw[kk,ZQ];exact Ey
  ·rcases y6 e B with rfl|a
   ·omega
   ·have:=eU e a;omega
end
end
noncomputable section
variable (X : ch) (h : R af) (j : Nat) (ah av : bI) (a0 a7 b6 a3 a4 a5 hE ib iz : D)
def aaG(a:aL)(b c:D)(d:R af)(e:Nat)(f _:bI):Prop:=
 ar (gC b) λg=>ar (gC c) λh=>ar (bl .neq g h) λg=>bk (λb c d=>e3 b λe=>ip e (λ_ a b=>f .zT a b) λe g=>fg (λb c d e=>hm c 13 12 λh=>bk (λc d e=>bk (λa c d=>gJ a 13 λe=>b (Z a 13 e) c d) λb=>cz (c 13) λg=>eW (e+9) λe=>e3 c λh=>ar (gt 3 h g) λh=>kI a d h λh=>sW c λi=>ar (gt 3 i g) λi=>kI a d i λi=>ar (dc a d .neq 44 false h i) λa=>bk b λb=>aV a (f .zF d e) (b (zy c 5 g 24 a) d e)) λa=>aV h (a (Z c 14 h) d e) (g (Z c 14 h) d e)) (zy b 12 e 13 (.Z 0)) c d) λa=>aV g (f .zF d e) (a (zy (cP [b,c]) 4 .zF 10 g) d e)
def ams:cY X 57 [a0,a7] h j ah av=aaG X a0 a7 h j ah av:=Zk
def amr:cQ X 57 2=true:=Zk
end
noncomputable section
section
variable{X:ch}{h S' aK aJ:R af}{j am aM aR:Nat}{P:Nat->Prop}
def acW(au:di X){A bm:List er}{kW My:D}(aF:(o X).a6<=j)(aA:nC X h P kW A)(ag:nC X h P My bm)(bq:∀e,P e->e<j):
 aW X 57 [kW,My] h j (λac S' am=>ac= .bool (decide (A=bm))/\bf X h j S' am) (λ_ _ _=>False):=by
 refine zx au (amr X) ?_
 rw[ams]
 unfold aaG
 obtain⟨bZ,Pv⟩:=aA
 obtain⟨cu,Lj⟩:=ag
 have K2:=Pv.len
 have vX:=Lj.len
 have auI:=Pv.many
 rw[Zi]at K2 vX auI
 by_cases az:A.length=bm.length
 ·have d:decide ((A.length:Int)≠(bm.length:Int))=false:=by simp[az]
  refine ed @K2 @vX @d ⟨?_⟩
  refine fp (λm H S' aP=>∃(T:Nat),H.g 0=some kW/\H.g 1=some My/\H.g 12=some (.Z (A.length:Int))/\H.g 13=some (.Z (T:Int))/\T+m=A.length/\bf X h j S' aP/\decide (A=bm)=decide (A.drop T=bm.drop T))
   A.length ⟨0,be,be,be,fO,Zo,bf.refl _ _,rfl⟩ ?_
  rintro m H aJ aR ⟨T,t0,t1,u5,l3,bJ,bC,cb⟩
  have fC:=bC.le
  cases m with
  |zero=>
   have d:=zr T A.length
   rw[ZD Zo,ZD Zo]at cb
   refine ed @u5 @l3 @d ⟨?_⟩
   exact⟨by rw[cb];rfl,bC⟩
  |succ m=>
   have d:=zs T A.length
   have bD:=zv T
   obtain⟨g,bP⟩:=zt A T
   obtain⟨a,gU⟩:=zt bm T
   have OU:A.drop T=g::A.drop (T+1):=by
    obtain⟨ae,B⟩:=Zb.1 bP
    rw[Zr ae,B]
   have qy:bm.drop T=a::bm.drop (T+1):=by
    obtain⟨ae,B⟩:=Zb.1 gU
    rw[Zr ae,B]
   have aH:=λe (B:P e)=>bC.aa e (bq e B)
   have dw:=Pv.fI T (by rw[Zi];omega)
   have tz:=Lj.fI T (by rw[Zi];omega)
   have hs:=(Pv.aa aH).row Zd (i:=T) (r:=eD g) (by rw[Zw,bP];rfl)
   have avx:=(Lj.aa aH).row Zd (i:=T) (r:=eD a) (by rw[Zw,gU];rfl)
   rw[OU,qy]at cb
   have Ip:=ahp (X:=X) (h:=aJ) g a
   refine et @t0 @t1 @u5 @l3 @d @dw (Za @tz (Za @hs (Za @avx @Ip))) ⟨?_⟩
   by_cases Us:g=a
   ·subst Us
    have cH:(!decide (g=g))=false:=by simp
    rw[cH]
    refine cL @l3 @bD ⟨?_⟩
    exact⟨m,Zo,T+1,aZ t0,aZ t1,aZ u5,be,Zo,bC.more Zo,by rw[cb];simp⟩
   ·have cH:(!decide (g=a))=true:=by simp[Us]
    rw[cH]
    refine cI ⟨?_⟩
    exact⟨by rw[cb];simp[Us],bC.more Zo⟩
 ·have d:decide ((A.length:Int)≠(bm.length:Int))=true:=by simp only[Zg];omega
  have dS:A≠bm:=λE=>az (by rw[E])
  refine ed @K2 @vX @d ⟨?_⟩
  exact⟨by simp[dS],bf.refl _ _⟩
def aAW(au:di X)(aF:(o X).a6<=j)(t:er)(b:Bool):
 iS X (.func (.func 105) [] []) [.agg (eD t), .bool b] h j (λac S' am=>∃w,ac= .tuple [w, .bool b]/\w.cells=[w]/\nC X S' (dx j am) w [t]/\bf X h j S' am) (λ_ _ _=>False):=by
 refine LD ?_
 show aW X 105 [.agg (eD t), .bool b] h j _ _
 refine zx au (aj4 X) ?_
 rw[aj5]
 unfold XN
 refine q6 ?_
 generalize de:bi X h j _=aK
 have bK:cZ X aK 3 (.ptr j 0)=some (.agg (eD t)):=by rw[<-de];exact LW (bb aF) (by cases t;rfl)
 have bH:bf X h j aK (j+1):=by rw[<-de];exact dA
 clear de
 refine cL @bK eD.eq_1 ⟨?_⟩
 generalize dO:bi X aK _ _=aJ
 have b1:U X aJ (j+1)=zu [eD t].flatten (1*3):=by rw[<-dO,bb Zo];rfl
 have bC:bf X h j aJ (j+1+1):=⟨Zo,λe B=>by rw[<-dO,aC Zo Zo];exact bH.aa e B⟩
 exact⟨_,rfl,rfl,⟨j+1,IE (bL:=[eD t]) b1 rfl (by simp[eD]) Zo ⟨Zo,Zo⟩⟩,bC⟩
structure Gf(X:ch)(h:R af)(bO:Nat)(C3 p b8:D):Prop where
 dH:aI X h (.ptr bO 0)=some C3
 cX:aI X h (.ptr bO 1)=some p
 dI:aI X h (.ptr bO 2)=some b8
def Gf.aa{bO:Nat}{C3 p b8:D}(a:Gf X h bO C3 p b8)(y:U X S' bO=U X h bO):Gf X S' bO C3 p b8:=by
 have az:∀V,aI X S' (.ptr bO V)=aI X h (.ptr bO V):=λV=>by rw[cl,cl,y]
 exact⟨by rw[az];exact a.dH,by rw[az];exact a.cX,by rw[az];exact a.dI⟩
def ara{nm:aX}:∀(an:List Go.aQ.Node) (y T:Nat),G0 nm y an=some T->T<y+an.length:=by
 intro an
 induction an with
 |nil=>intro y T a;cases a
 |cons g an ai=>
  intro y T a
  unfold G0 at a
  split at a
  ·cases a;simp
  ·have:=ai _ _ a;simp;omega
def arc{an:List Go.aQ.Node}{nm:aX}(aY:an≠[]):(qs an nm).getD 0<an.length:=by
 have:0<an.length:=Yj.2 aY
 cases a:qs an nm with
 |none=>exact this
 |some T=>have:=ara an 0 T a;simpa using this
def apk(au:di X){an:List Go.aQ.Node}{bO:Nat}{C3 p b8:D}(aF:(o X).a6<=j)(iF:bO<j)(ax:Gf X h bO C3 p b8)(bP:oO X h P an p)(aY:an≠[])(bq:∀e,P e->e<j)(bo:∀g∈an,g.d3.length<=100000/\g.out.length<=100000)
 {E:bB}{v:D}(bz:cE X h P E v){F:List er}{aS:D}(aA:nC X h P aS F):
 aW X 107 [.ptr bO 0,v,aS] h j (λac S' am=>∃w,ac= .tuple [w, .bool (JK an E.name F).2]/\w.cells=[w]/\nC X S' (dx j am) w (JK an E.name F).1/\bf X h j S' am) (λ_ _ _=>False):=by
 refine zx au (aj8 X) ?_
 rw[aj9]
 unfold XP
 obtain⟨iN,_,_,_,rfl,aeE,_,_,aqr,_⟩:=bz.open
 have cX:=ax.cX
 refine cL @cX @aqr ⟨?_⟩
 refine(S5 (j:=j+14) au Zo bP (λe B=>zq (bq e B)) E.name).Zm ?_
 rintro ac aK aM ⟨rfl,bH⟩
 have jG:=bH.le
 have lA:=λe (B:P e)=>bH.aa e (zq (bq e B))
 have Ac:=arc (nm:=E.name) aY
 unfold JK
 generalize xx:(qs an E.name).getD 0=y at*
 obtain⟨g,Hx⟩:∃g,an[y]? =some g:=⟨_,Ze Ac⟩
 rw[Hx]
 obtain⟨mH,k5⟩:=bo g (Zn Hx)
 obtain⟨jv,IC,Qy,bL,rfl,od,a0,cC,kz⟩:=bP
 have Pm:=kz.wide
 obtain⟨row,fb,jH⟩:=kz.get y g Hx
 have afp:=jH.aa (bg:=P) lA (λ_ a=>a)
 have tq:=(ax.aa (bH.aa bO Zo)).cX
 have Ju:aI X aK (.ptr jv 0)=some IC:=zB (bH.aa jv (zq (bq jv od))) a0
 have dw:=cC.fI y (by rw[Pm.1];omega)
 have hs:=(cC.aa lA).row Zd fb
 have eT:=jH.len
 have xC:=afp.ju
 obtain⟨c5,dt,ais,eM,bZ,cu,c0,fE,eqs,rfl,An,jI,_⟩:=afp
 refine fW @tq @Ju @dw @hs ⟨?_⟩
 refine f7 (iJ (y:=6) (b:=aM) (V:=0) (n:=6) (bb Zo) Zo rfl Zd Zd xC) ?_
 refine cI ⟨?_⟩
 show aW X 128 [dt] _ _ _ _
 generalize dO:bi X _ aM _=aJ
 have b1:U X aJ aM=zu [.str g.name, .Z g.at_,c5,dt,ais,eM] 6:=by rw[<-dO,bb Zo];rfl
 have bC:bf X h j aJ (aM+1+12):=⟨Zo,λe B=>by rw[<-dO];simp(disch:=omega) only[aC];exact bH.aa e Zo⟩
 have iR:∀e,P e->U X aJ e=U X aK e:=λe B=>by rw[bC.aa e (bq e B),lA e B]
 clear dO
 refine(ai0 au Zo (jI.aa iR) (λe B=>zq (bq e B)) k5).Zm ?_
 rintro wE a1 bn ⟨⟨avY,PE⟩,ck⟩
 have jf:=ck.le
 have cM:U X a1 aM=zu [.str g.name, .Z g.at_,c5,dt,ais,eM] 6:=by rw[ck.aa _ Zo];exact b1
 obtain⟨cN,cB,ea⟩:=km An.len
 refine ce (bp cM) ⟨?_⟩
 refine gp ea ?_
 refine LD ?_
 show aW X 128 [c5] _ _ _ _
 have mI:∀e,P e->U X a1 e=U X aK e:=λe B=>by rw[ck.aa e (zq (bq e B)),iR e B]
 refine(ai0 au Zo (An.aa mI) (λe B=>zq (bq e B)) mH).Zm ?_
 rintro u9 bA cv ⟨⟨aE0,PF⟩,cW⟩
 have iG:=cW.le
 have fH:∀e,P e->U X bA e=U X h e:=λe B=>by rw[cW.aa e (zq (bq e B)),mI e B,lA e B]
 have Kp:=(bC.trans ((ck.ko Zo).trans cW))
 refine(acW (P:=λe=>e<cv) au Zo (PF.aa (λ_ _=>rfl) (λe B=>B.2)) (aA.aa fH (λe B=>zq (bq e B))) (λe B=>B)).Zm ?_
 rintro va bN cf ⟨rfl,dR⟩
 have iH:=dR.le
 refine cI ⟨?_⟩
 refine⟨wE,rfl,avY,PE.aa (λe B=> ?_) (λe B=>⟨zq B.1,zq B.2⟩),Kp.trans dR⟩
 have:=B.2
 rw[dR.aa e Zo,cW.aa e Zo]
end
def ra{p:Prop}[Decidable p](a:p):decide p=true:=decide_eq_true a
def q9{p:Prop}[Decidable p](a:¬p):decide p=false:=decide_eq_false a
def N6(t:er):re false 0 1 (.agg (eD t))=some (.bool t.b):=rfl
def ub(t:er):D.same 30 (.agg (eD t)) (.agg (eD t))=true:=by
 obtain⟨F,b,c⟩:=t
 have J:∀x:Bool,D.same 29 (.bool x) (.bool x)=true:=λx=>by cases x<;>rfl
 have Q:D.same 29 (.Z c) (.Z c)=true:=by simp only[D.same];simp
 simp only[eD]
 rw[D.same]
 simp only[nO,J,Q,Yo]
section
variable{X:ch}{h S' aK aJ:R af}{j am aM aR:Nat}{P:Nat->Prop}
def Dl(X:ch):Prop:=∀h,cZ X h 3 (.ptr 2 0)=some (.agg (eD IW))
def abt(X:ch)(h:R af)(j:Nat)(r:List er×Bool):bI:=λac S' am=>∃w,ac= .tuple [w, .bool r.2]/\w.cells=[w]/\nC X S' (dx j am) w r.1/\bf X h j S' am
def pV(au:di X)(aF:(o X).a6<=j)(bT:bf X h j aK aM){H:er}{bm:Bool}{r:List er×Bool}(Y:r=([H],bm)):
 aW X 105 [.agg (eD H), .bool bm] aK aM (λXr Gn ayu=>ar (n3 0 Xr) λaCJ=>ar (n3 1 Xr) λaCK=>abt X h j r (.tuple [aCJ,aCK]) Gn ayu) (λ_ _ _=>False):=by
 subst Y
 have f4:=bT.le
 have a:=(aAW (h:=aK) (j:=aM) au Zo H bm).out
 refine a.Zm ?_
 rintro ac S' aP ⟨w,rfl,bw,a8,bC⟩
 refine cI ⟨?_⟩
 exact⟨w,rfl,bw,a8.aa (λ_ _=>rfl) (λe B=>⟨zq B.1,B.2⟩),bT.trans bC⟩
def yz{E:bB}{F:List er}(bw:yq kt E)(nb:F.length=E.args.length){m:Nat}(a:s9 E.kind=some (m+1)):∃b k,F=b::k:=by
 have:=bw.DA _ a
 cases F with
 |nil=>simp at nb;omega
 |cons b k=>exact⟨b,k,rfl⟩
def aCn{F:List er}{aS:D}{cw:List Nat}(a:gw X h aS 3 (p8 F).flatten cw)(Q:2<=F.length)(bo:F.length<=1000)(az:∀e∈cw,P e):
 ∃kX,uc X h 3 aS (some (.Z 1)) none none=some kX/\kX.cells=[kX]/\yt X h P kX F.tail:=by
 have gT:=ai1 F
 obtain⟨GB,cC⟩:=a.rH (P:=P) Zd (MM F) (by simp[p8];omega) az
 have gd:=(show nC X h P aS F from⟨GB,cC⟩).rd
 have dw:∀i t,F.tail[i]? =some t->∃b V,gt 3 aS (.Z ((i+1:Nat):Int))=some (.ptr b V)/\P b/\cZ X h 3 (.ptr b V)=some (.agg (eD t))/\aI X h (.ptr b V)=some (.bool t.b):=
  λi t aN=>gd.fI (i+1) t (by rw[<-aN];cases F<;>simp)
 have c2:∀i t,F.tail[i]? =some t->i<F.length-1:=λi t aN=>by have:=(Zb.1 aN).1;simpa using this
 have bD:nP (.Z 1)=some 1:=rfl
 rcases a with (⟨_,a,_⟩|⟨b,fz,n,c,rfl,ak,rfl,ay,bt,b4,dh⟩)|⟨b,n,c,st,rfl,ak,rfl,ay,bt⟩
 ·rw[a]at gT;simp at gT;omega
 ·have aF:n=F.length:=Zo
  subst aF
  have ag:my F.length ((F.length*3-0)/3) (some (.Z 1)) none none=some (1,F.length,F.length):=by
   have cN:(F.length*3-0)/3=F.length:=Zo
   rw[cN]
   have cB:Nat.ble 1 F.length=true:=lr Zo
   simp only[my,pZ,bD,cB,ff]
  refine⟨.fc b (0+1*3) (F.length-1) 3, ?_,rfl,⟨by rw[wm,List.length_tail],Zx,λi t aN=> ?_⟩⟩
  ·simp only[uc,x3,b4,ag]
   have cN:(F.length*3-0)/3=F.length:=Zo
   rw[cN]
   have cB:Nat.blt 1 F.length=true:=by simp[Nat.blt];omega
   simp[cB,fF]
  ·obtain⟨bZ,g2,cN,cB,ea,fQ⟩:=dw i t aN
   have k5:=c2 i t aN
   rw[H6 _ Zo]at cN
   cases cN
   refine⟨b,0+1*3+i*3,H6 _ k5,cB, ?_, ?_⟩
   ·rw[show 0+1*3+i*3=0+(i+1)*3 by omega];exact ea
   ·rw[show 0+1*3+i*3=0+(i+1)*3 by omega];exact fQ
 ·have aF:n=F.length:=Zo
  subst aF
  have ag:my F.length F.length (some (.Z 1)) none none=some (1,F.length,F.length):=by
   have cB:Nat.ble 1 F.length=true:=lr Zo
   simp only[my,pZ,bD,cB,ff]
  refine⟨.slice b (0+1*3) (F.length-1) (F.length-1), ?_,rfl,⟨by rw[tN,List.length_tail],Zx,λi t aN=> ?_⟩⟩
  ·simp only[uc,ag]
   have cB:¬F.length=1:=Zo
   simp[cB,h1]
  ·obtain⟨bZ,g2,cN,cB,ea,fQ⟩:=dw i t aN
   have k5:=c2 i t aN
   rw[H5 _ Zo]at cN
   cases cN
   refine⟨b,0+1*3+i*3,H5 _ k5,cB, ?_, ?_⟩
   ·rw[show 0+1*3+i*3=0+(i+1)*3 by omega];exact ea
   ·rw[show 0+1*3+i*3=0+(i+1)*3 by omega];exact fQ
set_option maxRecDepth 100000 in
def aAX(au:di X)(ez:Dl X){an:List Go.aQ.Node}{t:aX->Option c8}{bO:Nat}{C3 p b8:D}(aF:(o X).a6<=j)(iF:bO<j)(ax:Gf X h bO C3 p b8)(a8:ia X h P b8 t)(bP:oO X h P an p)(aY:an≠[])(bq:∀e,P e->e<j)(bo:∀g∈an,g.d3.length<=100000/\g.out.length<=100000)
 {E:bB}{v:D}(bz:cE X h P E v)(bw:yq kt E){F:List er}{aS:D}{cw:List Nat}(nb:F.length=E.args.length)(aA:gw X h aS 3 (p8 F).flatten cw)(Eo:F.length<=300000)(eU:∀e∈cw,P e):
 aW X 84 [.ptr bO 0,v,aS] h j (abt X h j (lE an t E F)) (λ_ _ _=>False):=by
 obtain⟨GB,cC⟩:=aA.rH (P:=P) Zd (MM F) (by simp[p8];omega) eU
 have PG:nC X h P aS F:=⟨GB,cC⟩
 have gd:=PG.rd
 obtain⟨hJ,_,_⟩:=km gd.len
 refine zx au (ani X) ?_
 rw[anj]
 unfold abc
 obtain⟨iN,_,_,_,rfl,aeE,a0,_,b6,_,a4,a5,hE,_⟩:=id bz.open
 have Ap:cZ X h 3 (.ptr iN 4)=some (.agg (eD E.ty)):=by rw[wl,a4,a5,hE];rfl
 have bW:=bw.bW
 have cq:=bw.cq
 have adT:=ez h
 have aa:∀{S':R af}{n aP:Nat},bf X h n S' aP->j<=n->∀e,P e->U X S' e=U X h e:=λa aF e B=>a.aa e (zq (bq e B))
 have xJ:∀b k,F=b::k->∃cO V,gt 3 aS (.Z 0)=some (.ptr cO V)/\P cO/\cZ X h 3 (.ptr cO V)=some (.agg (eD b))/\aI X h (.ptr cO V)=some (.bool b.b):=λb k a=>gd.fI 0 b (by rw[a];rfl)
 have Cy:∀{S':R af}{n aP cO V:Nat}{b:er},bf X h n S' aP->j<=n->P cO->cZ X h 3 (.ptr cO V)=some (.agg (eD b))->aI X h (.ptr cO V)=some (.bool b.b)->cZ X S' 3 (.ptr cO V)=some (.agg (eD b))/\aI X S' (.ptr cO V)=some (.bool b.b):=
  λa aF aw cN cB=>⟨by rw[wj,aa a aF _ aw, <-wj];exact cN,zB (aa a aF _ aw) cB⟩
 have atF:E.kind=1\/E.kind=2\/(E.kind=3\/E.kind=5)\/(E.kind=4\/E.kind=19\/E.kind=20)\/E.kind=6\/(E.kind=7\/E.kind=8\/E.kind=9\/E.kind=21\/E.kind=22)\/(E.kind=16\/E.kind=17\/E.kind=18)\/(E.kind=10\/E.kind=11)\/(E.kind=12\/E.kind=13\/E.kind=14\/E.kind=15)\/E.kind=23\/E.kind=24\/E.kind=26\/E.kind=25:=Zo
 rcases atF with a|a|a|a|a|a|a|a|a|a|a|a|a
 ·refine fW @a0 @ra @q9 @Ap ⟨?_⟩
  exact pV au aF (bf.refl _ _) (by unfold lE;rw[Zp a])
 ·refine fW @a0 @ra @q9 @b6 ⟨?_⟩
  refine(Mf au aF iF ax.dI a8 bq E.name).Zm ?_
  rintro ac aJ aR ⟨rfl,bC⟩
  refine cI ⟨?_⟩
  exact pV au aF bC (by unfold lE;rw[Zh Zo,Zp a])
 ·rcases a with a|a
  all_goals
   obtain⟨b,k,rfl⟩:=yz bw nb (by rw[a];rfl)
   obtain⟨cO,V,hA,gB,i3,i4⟩:=xJ b k rfl
   refine gb @a0 @ra @q9 @hA @i3 ⟨?_⟩
   exact pV au aF (bf.refl _ _) (by simp[lE,a])
 ·rcases a with a|a|a
  all_goals
   obtain⟨b,k,rfl⟩:=yz bw nb (by rw[a];rfl)
   obtain⟨cO,V,hA,gB,i3,i4⟩:=xJ b k rfl
   refine ih @a0 @ra @q9 @hA @i3 @i4 ⟨?_⟩
   exact pV au aF ((bf.refl _ _).more Zo) (by simp[lE,a])
 ·obtain⟨b,k,rfl⟩:=yz bw nb (by rw[a];rfl)
  obtain⟨cO,V,hA,gB,i3,i4⟩:=xJ b k rfl
  refine ih @a0 @ra @q9 @hA @i3 @b6 ⟨?_⟩
  refine(Mf (j:=j+16) au Zo Zo ax.dI a8 (λe B=>zq (bq e B)) E.name).Zm ?_
  rintro ac aJ aR ⟨rfl,bC⟩
  obtain⟨sq,Ay⟩:=Cy bC Zo gB i3 i4
  refine cL @N6 @sq ⟨?_⟩
  refine gp (ub b) ?_
  refine cI ⟨?_⟩
  exact pV au aF (bC.ko Zo) (by simp[lE,a])
 ·rcases a with a|a|a|a|a
  all_goals
   obtain⟨b,k,rfl⟩:=yz bw nb (by rw[a];rfl)
   obtain⟨cO,V,hA,gB,i3,i4⟩:=xJ b k rfl
   refine gb @a0 @ra @q9 @hA @i3 ⟨?_⟩
   refine(Iu (j:=j+11) au Zo hJ gd (λe B=>zq (bq e B))).Zm ?_
   rintro ac aJ aR ⟨rfl,bC⟩
   obtain⟨sq,Ay⟩:=Cy bC Zo gB i3 i4
   refine ce @sq ⟨?_⟩
   refine gp (ub b) ?_
   refine cI ⟨?_⟩
   exact pV au aF (bC.ko Zo) (by simp[lE,a])
 ·rcases a with a|a|a
  all_goals
   obtain⟨b,k,rfl⟩:=yz bw nb (by rw[a];rfl)
   obtain⟨cO,V,hA,gB,i3,i4⟩:=xJ b k rfl
   refine gb @a0 @ra @q9 @hA @i3 ⟨?_⟩
   refine(Iu (j:=j+18) au Zo hJ gd (λe B=>zq (bq e B))).Zm ?_
   rintro ac aJ aR ⟨rfl,bC⟩
   obtain⟨sq,Ay⟩:=Cy bC Zo gB i3 i4
   cases ag:tQ (b::k)
   ·refine ce @sq ⟨?_⟩
    refine gp (ub b) ?_
    refine cI ⟨?_⟩
    exact pV au aF (bC.ko Zo) (by simp[lE,a,ag])
   ·refine ed @hA @sq @Ay ⟨?_⟩
    refine gp (ub b) ?_
    refine cI ⟨?_⟩
    exact pV au aF (bC.ko Zo) (by simp[lE,a,ag])
 ·rcases a with a|a
  all_goals
   obtain⟨b,k,rfl⟩:=yz bw nb (by rw[a];rfl)
   obtain⟨cO,V,hA,gB,i3,i4⟩:=xJ b k rfl
   refine fW @a0 @ra @q9 @adT ⟨?_⟩
   refine(Iu (j:=j+9) au Zo hJ gd (λe B=>zq (bq e B))).Zm ?_
   rintro ac aJ aR ⟨rfl,bC⟩
   obtain⟨sq,Ay⟩:=Cy bC Zo gB i3 i4
   have Oq:=ez aJ
   refine ce @Oq ⟨?_⟩
   refine gp (ub IW) ?_
   refine cI ⟨?_⟩
   exact pV au aF (bC.ko Zo) (by simp[lE,a])
 ·rcases a with a|a|a|a
  all_goals
   obtain⟨b,k,rfl⟩:=yz bw nb (by rw[a];rfl)
   obtain⟨cO,V,hA,gB,i3,i4⟩:=xJ b k rfl
   refine fW @a0 @ra @q9 @adT ⟨?_⟩
   refine(Iu (j:=j+16) au Zo hJ gd (λe B=>zq (bq e B))).Zm ?_
   rintro ac aJ aR ⟨rfl,bC⟩
   obtain⟨sq,Ay⟩:=Cy bC Zo gB i3 i4
   have Oq:=ez aJ
   cases ag:tQ (b::k)
   ·refine ce @Oq ⟨?_⟩
    refine gp (ub IW) ?_
    refine cI ⟨?_⟩
    exact pV au aF (bC.ko Zo) (by simp[lE,a,ag])
   ·refine ed @hA @Ay @Oq ⟨?_⟩
    refine gp (ub IW) ?_
    refine cI ⟨?_⟩
    exact pV au aF (bC.ko Zo) (by simp[lE,a,ag])
 ·obtain⟨b7,bZ,cu,rfl⟩:∃b7 bZ cu,F=[b7,bZ,cu]:=by
   have ak:F.length=3:=nb.trans (bw.DA 3 (by rw[a];rfl))
   match F,ak with
   |[x,e,bu],_=>exact⟨x,e,bu,rfl⟩
  obtain⟨cO,V,hA,gB,i3,i4⟩:=xJ b7 [bZ,cu] rfl
  obtain⟨Nw,azq,cN,cB,ea,fQ⟩:=gd.fI 1 bZ rfl
  have cN:gt 3 aS (.Z 1)=some (.ptr Nw azq):=cN
  obtain⟨kX,jw,jY,Mv⟩:=aCn aA Zs Zs eU
  cases ag:b7.b
  ·rw[ag]at i4
   refine et @a0 @ra @q9 @hA @cN @ea @i4 ⟨?_⟩
   refine gp (ub bZ) ?_
   refine cI ⟨?_⟩
   exact pV au aF ((bf.refl _ _).more Zo) (by simp[lE,a,ag])
  ·rw[ag]at i4
   refine et @a0 @ra @q9 @hA @cN @ea (Za @i4 @jw) ⟨?_⟩
   refine(Iu (j:=j+18) (b:=bZ) (k:=[cu]) au Zo jY Mv (λe B=>zq (bq e B))).Zm ?_
   rintro ac aJ aR ⟨rfl,bC⟩
   obtain⟨sq,Ay⟩:=Cy bC Zo cB ea fQ
   refine ce @sq ⟨?_⟩
   refine gp (ub bZ) ?_
   refine cI ⟨?_⟩
   exact pV au aF (bC.ko Zo) (by simp[lE,a,ag])
 ·obtain⟨b,k,rfl⟩:=yz bw nb (by rw[a];rfl)
  obtain⟨cO,V,hA,gB,i3,i4⟩:=xJ b k rfl
  refine gb @a0 @ra @q9 @hA @i3 ⟨?_⟩
  refine(Iu (j:=j+20) au Zo hJ gd (λe B=>zq (bq e B))).Zm ?_
  rintro ac aJ aR ⟨rfl,bC⟩
  obtain⟨sq,Ay⟩:=Cy bC Zo gB i3 i4
  cases ag:tQ (b::k)
  ·refine ce @sq ⟨?_⟩
   refine gp (ub b) ?_
   refine ce @sq ⟨?_⟩
   refine gp (ub b) ?_
   refine cI ⟨?_⟩
   exact pV au aF (bC.ko Zo) (by simp[lE,a,ag])
  ·have an7:aI X aJ (.ptr iN 2)=some (.str E.name):=zB (aa bC Zo iN aeE) b6
   have fC:=bC.le
   refine cL @an7 @sq ⟨?_⟩
   refine gp (ub b) ?_
   refine cI ⟨?_⟩
   refine(Mf (j:=aR) au Zo Zo (ax.aa (bC.aa bO Zo)).dI (a8.aa (bg:=P) (aa bC Zo) (λ_ a=>a)) (λe B=>zq (bq e B)) E.name).Zm ?_
   rintro ac a1 bn ⟨rfl,ck⟩
   have adY:=bC.trans ck
   obtain⟨fk,gl⟩:=Cy adY Zo gB i3 i4
   refine cL @N6 @fk ⟨?_⟩
   refine gp (ub b) ?_
   refine cI ⟨?_⟩
   exact pV au aF (adY.ko Zo) (by simp[lE,a,ag])
 ·obtain⟨b,k,rfl⟩:=yz bw nb (by rw[a];rfl)
  obtain⟨cO,V,hA,gB,i3,i4⟩:=xJ b k rfl
  cases ag:E.ty.b
  ·rw[ag]at a4
   refine gb @a0 @ra @q9 @Ap @a4 ⟨?_⟩
   exact pV au aF ((bf.refl _ _).more Zo) (by simp[lE,a,ag])
  ·rw[ag]at a4
   refine et @a0 @ra @q9 @Ap @a4 @hA @i4 ⟨?_⟩
   exact pV au aF ((bf.refl _ _).more Zo) (by simp[lE,a,ag])
 ·have Y:lE an t E F=JK an E.name F:=by simp[lE,a]
  rw[Y]
  refine ed @a0 @ra @q9 ⟨?_⟩
  refine(apk au aF iF ax bP aY bq bo bz PG).Zm ?_
  rintro ac aJ aR ⟨w,rfl,J,Q,ak⟩
  refine cI ⟨?_⟩
  exact⟨w,rfl,J,Q,ak⟩
end
def DT(E:Nat×D×Nat):D×D×Nat:=(.ptr E.1 0,E.2.1,E.2.2)
mutual
def DH:bB->Nat
 | .mk _ _ _ _ _ _ args=>ut args+1
def ut:List bB->Nat
 |[]=>0
 |E::k=>DH E+ut k
end
def apC(E:bB):DH E=ut E.args+1:=by cases E;rw[DH];rfl
def apD:ut []=0:=by rw[ut]
def aci(E:bB):∀k:List bB,ut (k++[E])=ut k+DH E:=by
 intro k
 induction k with
 |nil=>simp[ut]
 |cons F k ai=>rw[YF,ut,ut,ai];omega
section
variable{X:ch}{h S' aK aJ:R af}{j am aM aR:Nat}
def nz(X:ch)(h:R af)(P:Nat->Prop)(r:Nat)(dN:Nat->Option D):Prop:=∃dr fa,U X h r=some (.map (dr.map DT) fa)/\(∀w,sx dr w=dN w)/\∀x∈dr,P x.1/\qi X h x.1
variable{P:Nat->Prop}
def nz.aa{r:Nat}{dN:Nat->Option D}(a:nz X h P r dN)(axc:U X S' r=U X h r)(y:∀e,P e->U X S' e=U X h e):nz X S' P r dN:=by
 obtain⟨dr,fa,J,Q,ak⟩:=a
 exact⟨dr,fa,by rw[axc];exact J,Q,λx ae=>⟨(ak x ae).1,(ak x ae).2.aa (y _ (ak x ae).1)⟩⟩
def Ws(b:Nat):nD X 20 54 (.ptr b 0)=true:=Zk
def aqK(b dK:Nat):jC X h 20 54 (.ptr b 0) (.ptr dK 0)=ba.ptrEq X h b 0 dK 0:=Zk
def az7{b dK:Nat}(a:qi X h b)(cy:qi X h dK)(aF:(o X).a6<=b):ba.ptrEq X h b 0 dK 0=some (decide (b=dK)):=by
 obtain⟨c,n,J,Q⟩:=a
 obtain⟨f9,aP,ak,ay⟩:=cy
 unfold ba.ptrEq
 rw[h1]
 by_cases E:b=dK
 ·simp[E]
 ·have bZ:Nat.blt 0 n=true:=lr Zo
  have cu:Nat.blt 0 aP=true:=lr Zo
  have cN:Iy X h b 0=true:=by simp only[Iy,J,kM,lr aF,bZ,Yo]
  have cB:CA X h dK 0=true:=by simp only[CA,ak,cu]
  simp[E,cN,cB,fF]
def S2{b:Nat}(ag:qi X h b)(aF:(o X).a6<=b):∀(dr:List (Nat×D×Nat)) (i:Nat),(∀x∈dr,P x.1/\qi X h x.1)->findKey X h 54 (.ptr b 0) (dr.map DT) i=some (mD dr b i):=by
 intro dr
 induction dr with
 |nil=>intro i _;rfl
 |cons x dr ai=>
  intro i qv
  simp only[ZP,DT,findKey,aqK,az7 ag (qv x (Zv ..)).2 aF,mD]
  by_cases a:b=x.1
  ·have:x.1=b:=a.symm
   simp[this]
  ·have:¬x.1=b:=λE=>a E.symm
   simp only[a,this,Yl,ZC]
   exact ai (i+1) (λx ae=>qv x (Zu _ ae))
def aw2(b:Nat):ox 20 (.ptr b 0) (.ptr b 0)=true:=by
 simp[ox]
def ayq{r:Nat}{dN:Nat->Option D}(Y:(o X).a6<=r)(a:nz X h P r dN){b:Nat}(ag:qi X h b)(aw:P b)(aF:(o X).a6<=b)(v:D):
 ∃S',sy X h j 54 (.map r) (.ptr b 0) v=some (.fq ba.undef S' j)/\nz X S' P r (λx=>if x=b then some v else dN x)/\∀e,e≠r->U X S' e=U X h e:=by
 obtain⟨dr,fa,J,Q,ak⟩:=a
 have aE:kM X r=true:=lr Y
 have dS:∀e,qi X h e->e≠r:=λe B E=>by obtain⟨c,n,aj,_⟩:=B;rw[E,J]at aj;cases aj
 have key:∀(N:List (Nat×D×Nat)) (r6:Nat),(∀x∈N,x.1=b\/∃e∈dr,e.1=x.1)->(∀x∈N,P x.1/\qi X (Go.ba.bi X h r (some (.map (N.map DT) r6))) x.1):=λN r6 jF x ae=>by
  have aj:P x.1/\qi X h x.1:=by
   rcases jF x ae with E|⟨e,B,E⟩
   ·rw[E];exact⟨aw,ag⟩
   ·rw[<-E];exact ak e B
  exact⟨aj.1,aj.2.aa (aC Y (dS _ aj.2))⟩
 cases cb:mD dr b 0 with
 |none=>
  refine⟨Go.ba.bi X h r (some (.map ((dr++[(b,v,fa)]).map DT) (fa+1))), ?_,⟨dr++[(b,v,fa)],fa+1,bb Y,λx=> ?_,key _ _ λx ae=> ?_⟩,λe B=>aC Y B⟩
  ·simp only[sy,J,Ws,ff,S2 ag aF _ _ ak,cb,ba.setObj,aE,ff,hv]
   rw[ZQ]
   rfl
  ·rw[ag1 _ _ _ _ _ (by unfold sx;rw[cb];rfl),Q]
  ·rcases Zz.1 ae with ae|ae
   ·exact .inr ⟨x,ae,rfl⟩
   ·rw[List.mem_singleton]at ae;exact .inl (by rw[ae])
 |some p=>
  obtain⟨T,v0⟩:=p
  obtain⟨born,att⟩:=adh b dr T v0 cb
  have auT:(dr.map DT)[T]? =some (.ptr b 0,v0,born):=by rw[Zw,att];rfl
  refine⟨Go.ba.bi X h r (some (.map ((dr.set T (b,v,born)).map DT) fa)), ?_,⟨dr.set T (b,v,born),fa,bb Y,λx=> ?_,key _ _ λx ae=> ?_⟩,λe B=>aC Y B⟩
  ·simp only[sy,J,Ws,ff,S2 ag aF _ _ ak,cb,qL,auT,aw2,ba.setObj,aE,ff,hv]
   rw[List.map_set]
   rfl
  ·rw[ag2 _ _ _ _ _ _ _ cb,Q]
  ·rcases List.mem_or_eq_of_mem_set ae with ae|ae
   ·exact .inr ⟨x,ae,rfl⟩
   ·exact .inl (by rw[ae])
def pw(X:ch)(h:R af)(r n:Nat):Prop:=∃ca fa,U X h r=some (.map ca fa)/\ca.length=n
def pw.aa{r n:Nat}(a:pw X h r n)(y:U X S' r=U X h r):pw X S' r n:=by unfold pw;rw[y];exact a
def ayr{r n:Nat}{dN:Nat->Option D}(Y:(o X).a6<=r)(a:nz X h P r dN)(jF:pw X h r n){b:Nat}(ag:qi X h b)(aF:(o X).a6<=b)(aY:dN b=none){v:D}(aD:sy X h j 54 (.map r) (.ptr b 0) v=some (.fq ba.undef S' j)):pw X S' r (n+1):=by
 obtain⟨dr,fa,J,Q,ak⟩:=a
 obtain⟨ca,r6,bK,b1⟩:=jF
 rw[J]at bK
 cases bK
 have aE:kM X r=true:=lr Y
 have ay:=Q b
 rw[aY]at ay
 unfold sx at ay
 have cb:mD dr b 0=none:=by
  cases b3:mD dr b 0 with
  |none=>rfl
  |some p=>rw[b3]at ay;cases ay
 simp only[sy,J,Ws,ff,S2 ag aF _ _ ak,cb,ba.setObj,aE,ff,hv,Zf,eb.fq.injEq]at aD
 obtain⟨_,rfl,_⟩:=aD
 exact⟨_,_,bb Y,by rw[ZK,b1];rfl⟩
mutual
def oR(X:ch)(h:R af)(an:List Go.aQ.Node)(t:aX->Option c8)(dN:Nat->Option D)(P eS:Nat->Prop):bB->D->Prop
 | .mk y F nm no ty n args,v=>∃b aS cO br row w,v= .ptr b 0/\P b/\aI X h (.ptr b 8)=some aS/\dL X h P cO aS 1 (br.map λv=>[v])/\BG an t (.mk y F nm no ty n args)= .ok row/\dN b=some w/\w.cells=[w]/\nC X h eS w row/\lp X h an t dN P eS args br
def lp(X:ch)(h:R af)(an:List Go.aQ.Node)(t:aX->Option c8)(dN:Nat->Option D)(P eS:Nat->Prop):List bB->List D->Prop
 |[],br=>br=[]
 |E::ca,br=>∃v nx,br=v::nx/\oR X h an t dN P eS E v/\lp X h an t dN P eS ca nx
end
mutual
def oR.aa{an:List Go.aQ.Node}{t:aX->Option c8}{dN jt:Nat->Option D}{P eS rX r2:Nat->Prop}(y:∀e,P e->U X S' e=U X h e)(tL:∀e,eS e->U X S' e=U X h e)(az:∀e,P e->jt e=dN e)(aw:∀e,P e->rX e)(B:∀e,eS e->r2 e):∀(E:bB) (v:D),oR X h an t dN P eS E v->oR X S' an t jt rX r2 E v
 | .mk wd F nm no ty n args,v,a=>by
   rw[oR]at a ⊢
   obtain⟨b,aS,cO,br,row,w,J,Q,ak,ay,bt,b4,dh,eI,hG⟩:=a
   exact⟨b,aS,cO,br,row,w,J,aw b Q,zB (y b Q) ak,(ay.aa y).lift aw,bt,by rw[az b Q];exact b4,dh,eI.aa tL B,lp.aa y tL az aw B args br hG⟩
def lp.aa{an:List Go.aQ.Node}{t:aX->Option c8}{dN jt:Nat->Option D}{P eS rX r2:Nat->Prop}(y:∀e,P e->U X S' e=U X h e)(tL:∀e,eS e->U X S' e=U X h e)(az:∀e,P e->jt e=dN e)(aw:∀e,P e->rX e)(B:∀e,eS e->r2 e):∀(ca:List bB) (br:List D),lp X h an t dN P eS ca br->lp X S' an t jt rX r2 ca br
 |[],br,a=>by rw[lp]at a ⊢;exact a
 |E::ca,br,a=>by
  rw[lp]at a ⊢
  obtain⟨v,nx,J,Q,ak⟩:=a
  exact⟨v,nx,J,oR.aa y tL az aw B E v Q,lp.aa y tL az aw B ca nx ak⟩
end
end
end
end Go.Proofs.YtpeabpmnlmaabaaGreatDoor

