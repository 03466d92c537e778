/- Part of the proof of the last text; no conditions -/
import Derived.Test.YtbbkkkpgjaopkaaGreatDoorYn
set_option maxHeartbeats 8000000
set_option linter.all false
namespace Go.Proofs.YtbbkkkpgjaopkaaGreatDoor
open Go.bp Go.aS
noncomputable section
def Av(w:Int):Int:=(18446744073709551615:Int).fdiv (2^(min (64-w).toNat 64))
def Gx(x e:Int):Int:=n4 .u64 ((BitVec.ofInt 64 x&&& ~~~ BitVec.ofInt 64 e).toNat)
def Cb(t:hS)(n:Int):Bool:=km t&&decide (Gx n (Av t.w)=0)
def ud(t:hS)(n:Int):Bool:=if t.s then(if t.w-1=0 then decide (n=0)else Cb ⟨false,false,t.w-1⟩ n)else Cb t n
def ta:List bc:=[[110,111,100,101],[114,101,116,117,114,110,115],[118,97,114],[108,101,116],[116,101,108],[119,104,101,110],[110,111,116],[112,114,101],[102,98,121],[109,101,114,103,101],
 [105,102],[116,104,101,110],[101,108,115,101],[97,110,100],[111,114],[120,111,114],[116,114,117,101],[102,97,108,115,101]]
structure JP(X:cn):Prop where
 at_:∃v,∀h,aR X h (.ptr 2 0)=some v/\∀s:bc,my X h 9 .zF v (.str s) false=some (.bool (decide (s∈ta)))
section
variable{X:cn}{h S a1 aT:R ag}{j aq aP bk fO:Nat}{s:bc}{i:Nat}
def atm(aB:dR X)(eo:JP X)(s:bc):a7 X 58 [.str s] h j (λaa S aq=>aa= .bool (decide (s∈ta))/\S=h/\aq=j) zK:=by
 refine zF aB (agi X) ?_
 rw[agj]
 unfold Uo
 obtain⟨v,bt⟩:=eo.at_
 obtain⟨I,M⟩:=bt h
 have ak:=M s
 refine dk @I @ak ⟨?_⟩
 exact⟨rfl,rfl,rfl⟩
def asa(aB:dR X)(t:hS)(aZ:1<=t.w/\t.w<=64)(aL:(q X).a6<=j):a7 X 108 [.agg (k7 t)] h j (λaa S aq=>aa= .int .u64 (Av t.w)/\bD X h j S aq) zK:=by
 refine zF aB (aeH X) ?_
 rw[aeI]
 unfold Tx k7
 have bA:bg .sub (.Z 64) (.Z t.w)=some (.Z (64-t.w)):=vx Zo Zo
 have cg:bg .shr (.int .u64 18446744073709551615) (.Z (64-t.w))=some (.int .u64 (Av t.w)):=by
  have:decide ((64-t.w)<0)=false:=zO
  simp only[bg,k2,fj,Gw,sU,this,kE,oL,Ea]
  rfl
 refine dk @bA @cg ⟨?_⟩
 exact⟨rfl,dL⟩
def Mj{t:hS}(a:km t=true):1<=t.w/\t.w<=64:=by
 unfold km at a
 split at a<;>simp at a<;>omega
def abl(aB:dR X)(t:hS)(n:Int)(aL:(q X).a6<=j):a7 X 86 [.agg (k7 t), .int .u64 n] h j (λaa S aq=>aa= .bool (Cb t n)/\bD X h j S aq) zK:=by
 refine zF aB (ag8 X) ?_
 rw[ag9]
 unfold US
 have aZ:k7 t=[.bool t.b, .bool t.s, .Z t.w]:=rfl
 rw[aZ]
 refine cV ⟨?_⟩
 refine e1 (λa1=>Z X a1 j=zC [.bool t.b, .bool t.s, .Z t.w] 3/\bD X h j a1 (j+1)) ⟨bv aL,dL⟩ ?_
 rintro a1 ⟨cb,b4⟩
 refine(Ct aB t Zo).Zm ?_
 rintro aa aT bk ⟨rfl,cl⟩
 have gP:=cl.le
 have bZ:=b4.trans cl
 have b5:Z X aT j=zC [.bool t.b, .bool t.s, .Z t.w] 3:=by rw[cl.ad _ Zo];exact cb
 cases aX:km t with
 |false=>
  refine cV ⟨?_⟩
  exact⟨by simp[Cb,aX],bZ⟩
 |true=>
  refine cr (bS b5) ⟨?_⟩
  refine(asa (j:=bk) (h:=aT) aB t (Mj aX) Zo).Zm ?_
  rintro aa be bF ⟨rfl,cx⟩
  have bA:bg .andNot (.int .u64 n) (.int .u64 (Av t.w))=some (.int .u64 (Gx n (Av t.w))):=by
   simp only[bg,k2,kE,ly,fj,kW,ki,Ea];rfl
  refine cr @bA ⟨?_⟩
  exact⟨by simp[Cb,aX],bZ.trans cx⟩
def aob(aB:dR X)(t:hS)(aZ:km t=true)(n:Int)(aL:(q X).a6<=j):a7 X 57 [.agg (k7 t), .int .u64 n] h j (λaa S aq=>aa= .bool (ud t n)/\bD X h j S aq) zK:=by
 refine zF aB (agf X) ?_
 rw[agh]
 unfold Un
 have bQ:=Mj aZ
 have gd:k7 t=[.bool t.b, .bool t.s, .Z t.w]:=rfl
 rw[gd]
 have bA:bg .sub (.Z t.w) (.Z 1)=some (.Z (t.w-1)):=vx Zo Zo
 cases k0:t.s with
 |false=>
  refine cV ⟨?_⟩
  refine e1 (λa1=>bD X h j a1 (j+1)) dL ?_
  intro a1 b4
  have:=abl (j:=j+1) (h:=a1) aB t n Zo
  rw[gd,k0]at this
  refine this.Zm ?_
  rintro aa aT bk ⟨rfl,cl⟩
  refine cV ⟨?_⟩
  exact⟨by simp[ud,k0],b4.trans cl⟩
 |true=>
  by_cases a2:t.w-1=0
  ·have d:decide (t.w-1=0)=true:=by simp[a2]
   refine dk @bA @d ⟨?_⟩
   refine gm (j8 (o:=3) (b:=j) (V:=0) (n:=3) (c:=R.ofList [.bool t.b, .zT, .Z t.w] 0 .nil) (bv aL) Zo rfl Zd Zd rfl) ?_
   refine cr @d ⟨?_⟩
   exact⟨by simp[ud,k0,a2],dL⟩
  ·have d:decide (t.w-1=0)=false:=by simp[a2]
   refine dk @bA @d ⟨?_⟩
   refine gm (j8 (o:=3) (b:=j) (V:=0) (n:=3) (c:=R.ofList [.bool t.b, .zT, .Z t.w] 0 .nil) (bv aL) Zo rfl Zd Zd rfl) ?_
   refine cr @d ⟨?_⟩
   refine e1 (λa1=>bD X h j a1 (j+1)) dL ?_
   intro a1 b4
   refine(abl (j:=j+1) (h:=a1) aB ⟨false,false,t.w-1⟩ n Zo).Zm ?_
   rintro aa aT bk ⟨rfl,cl⟩
   refine cV ⟨?_⟩
   exact⟨by simp[ud,k0,a2],b4.trans cl⟩
end
def s3(s:bc)(i:Nat):Tok×Bool:=
 let w:=(s.drop i).takeWhile ir
 (⟨if (kt w).isSome then 3 else if w∈ta then 2 else 1,w,0,0,(kt w).getD dw⟩,decide (w.length<=32))
def acr{k:bc}(a:∀c∈k,ir c=true):AX k:=by
 intro c ay
 have:=a c ay
 simp[ir,qf,h8]at this
 omega
def adD{α:Type}(p:α->Bool):∀k:List α,∀c∈k.takeWhile p,p c=true:=by
 intro k
 induction k with
 |nil=>simp
 |cons D k ah=>
  intro c ay
  rw[YC]at ay
  split at ay
  ·rcases Zq.1 ay with rfl|ay
   ·assumption
   ·exact ah c ay
  ·simp at ay
section
variable{X:cn}{h S a1 aT:R ag}{j aq aP bk fO:Nat}{s:bc}{i:Nat}
def RU(U:mm X h fO s i)(aj:∀c∈s,c<256)(W:Nat)(p:Nat->Bool)(av:∀c,p c=true->ir c=true):((s.drop W).takeWhile p).length<=65536/\(∀c∈(s.drop W).takeWhile p,c<256)/\AX ((s.drop W).takeWhile p):=by
 have I:=Dd p (s.drop W)
 rw[Yy]at I
 have:=U.many
 refine⟨Zo,λc ay=>aj c (zb ((List.takeWhile_sublist p).subset ay)),acr λc ay=>av c (adD p _ c ay)⟩
def avM(aB:ix X)(bZ:lT X)(eo:JP X)(U:mm X h fO s i)(aj:∀c∈s,c<256)(aL:(q X).a6<=j)(If:fO<j):
 a7 X 34 [.ptr fO 0] h j (λaa S aq=>aa= .tuple [.agg (bW (s3 s i).1), .bool (s3 s i).2]/\bD X h j S aq) zK:=by
 refine zF aB.todR (afD X) ?_
 rw[afE]
 unfold T4
 have dv:=U.dv
 have hz:=U.ci
 obtain⟨cH,cB,dN⟩:=RU U aj i ir (λ_ a=>a)
 have qN:∀cE,mm X (bn X h j cE) fO s i:=λcE=>U.ad (aK aL Zo)
 refine cr @dv ⟨?_⟩
 refine(MW aB.todR (adf aB.todR) (qN _) U.le).Zm ?_
 rintro aa aT bk ⟨rfl,rfl,rfl⟩
 unfold s3
 generalize (s.drop i).takeWhile ir=w at*
 simp only[]
 refine cV ⟨?_⟩
 refine e1 (λa1=>Z X a1 j=zC [.Z 0, .str [], .Z 0, .int .u64 0, .zF, .zF, .Z 0] 7/\Z X a1 (j+1)=zC [.Z 1, .str w, .Z 0, .int .u64 0, .zF, .zF, .Z 0] 7/\bD X h j a1 (j+1+1)) ⟨by exact zP,by rw[bv Zo];rfl,dL⟩ ?_
 rintro a1 ⟨cb,b5,b4⟩
 refine(adL aB bZ cH cB dN Zo).Zm ?_
 rintro aa be bF ⟨rfl,cx⟩
 have iT:=cx.le
 have rx:=b4.trans cx
 have cG:Z X be j=zC [.Z 0, .str [], .Z 0, .int .u64 0, .zF, .zF, .Z 0] 7:=by rw[cx.ad _ Zo];exact cb
 have er:Z X be (j+1)=zC [.Z 1, .str w, .Z 0, .int .u64 0, .zF, .zF, .Z 0] 7:=by rw[cx.ad _ Zo];exact b5
 generalize aZ:(kt w).getD dw=t
 have EZ:k7 t=[.bool t.b, .bool t.s, .Z t.w]:=rfl
 rw[EZ]
 have OG:decide ((w.length:Int)<=32)=decide (w.length<=32):=by simp;omega
 have fin:∀(ck:R ag) (dB:Nat) (o:Int) (dC:hS) (tu:R z),bF<=dB->bD X h j ck dB->Z X ck (j+1)=some (.cells tu 7 .own)->Z X ck j=zC [.Z 0, .str [], .Z 0, .int .u64 0, .zF, .zF, .Z 0] 7->
  tu.get 0=some (.Z o)->tu.get 1=some (.str w)->tu.get 2=some (.Z 0)->tu.get 3=some (.int .u64 0)->tu.get 4=some (.bool dC.b)->tu.get 5=some (.bool dC.s)->tu.get 6=some (.Z dC.w)->
  ar (d0 X ck 7 (.ptr (j+1) 0)) λavn=>ar (lK (.str w)) λavo=>ar (bg .leq avo (.Z 32)) λavp=>ar (fc X ck 7 (.ptr j 0) avn) λU8=>ar (d0 X U8 7 (.ptr j 0)) λv37=>
   z.tuple [v37,avp]= .tuple [.agg (bW ⟨o,w,0,0,dC⟩), .bool (decide (w.length<=32))]/\bD X h j U8 dB:=by
  intro ck dB o dC tu aw1 eC d3 eA rV bM cq df fb eJ et
  have fw:=jw d3 rV;have ea:=jw d3 bM;have c4:=jw d3 cq;have eT:=jw d3 df;have gE:=jw d3 fb;have gg:=jw d3 eJ;have l4:=jw d3 et
  refine eQ @fw @ea @c4 @eT @gE @gg (Za @l4 @OG) ⟨?_⟩
  exact⟨rfl,bD.set eC (Zi _) aL (Zi _)⟩
 cases rH:(kt w).isSome with
 |true=>
  refine hy ⟨?_⟩
  refine hy ⟨?_⟩
  refine hy ⟨?_⟩
  refine hy ⟨?_⟩
  refine hy ⟨?_⟩
  generalize h7:bn X _ bF _=bU
  have eV:Z X bU bF=zC [.bool t.b, .bool t.s, .Z t.w] 3:=by rw[<-h7,bv Zo];rfl
  have d3:Z X bU j=zC [.Z 0, .str [], .Z 0, .int .u64 0, .zF, .zF, .Z 0] 7:=by rw[<-h7];simp(disch:=omega) only[aK];exact cG
  have eA:Z X bU (j+1)=zC [.Z 1, .str w, .Z 0, .int .u64 0, .zF, .zF, .Z 0] 7:=by rw[<-h7];simp(disch:=omega) only[aK];exact er
  have dz:bD X h j bU (bF+1):=rx.trans (by rw[<-h7];exact dL)
  clear h7 cG er
  refine cr (bS eV) ⟨?_⟩
  refine iY (by simp[z.same,pv,oY]) ?_
  generalize jr:bn X bU (j+1) _=bY
  have bq:∀e,e≠j+1->Z X bY e=Z X bU e:=λe F=>by rw[<-jr,aK Zo F]
  have h4:Z X bY (j+1)=some (.cells (dP (R.ofList [.Z 1, .str w, .Z 0, .int .u64 0, .zF, .zF, .Z 0] 0 .nil) 0 [.Z 3]) 7 .own):=by rw[<-jr,bv Zo];rfl
  rw[<-bq _ Zo]at eV d3
  have dW:bD X h j bY (bF+1):=⟨dz.le,λe F=>by rw[bq e Zo];exact dz.ad e F⟩
  clear jr bq eA
  refine gm (j8 (o:=3) (b:=j+1) (V:=4) (n:=7) h4 Zo rfl Zd Zd rfl) ?_
  generalize iS:bn X bY (j+1) _=ck
  have bV:∀e,e≠j+1->Z X ck e=Z X bY e:=λe F=>by rw[<-iS,aK Zo F]
  have ot:Z X ck (j+1)=some (.cells (dP (dP (R.ofList [.Z 1, .str w, .Z 0, .int .u64 0, .zF, .zF, .Z 0] 0 .nil) 0 [.Z 3]) 4 [.bool t.b, .bool t.s, .Z t.w]) 7 .own):=by rw[<-iS,bv Zo];rfl
  rw[<-bV _ Zo]at d3
  have eC:bD X h j ck (bF+1+5):=⟨zy dW.le,λe F=>by rw[bV e Zo];exact dW.ad e F⟩
  clear iS bV h4
  have:=fin ck (bF+1+5) 3 t _ Zo eC ot d3 rfl rfl rfl rfl rfl rfl rfl
  simp only[ZE]
  refine hy ⟨?_⟩
  exact this
 |false=>
  have Q3:t=dw:=by
   rw[<-aZ]
   cases bJ:kt w with
   |none=>rfl
   |some t=>rw[bJ]at rH;cases rH
  refine cV ⟨?_⟩
  refine e1 (λbU=>bD X be bF bU (bF+1)) dL ?_
  intro bU dz
  have wO:=rx.trans dz
  have d3:Z X bU j=zC [.Z 0, .str [], .Z 0, .int .u64 0, .zF, .zF, .Z 0] 7:=by rw[dz.ad _ Zo];exact cG
  have eA:Z X bU (j+1)=zC [.Z 1, .str w, .Z 0, .int .u64 0, .zF, .zF, .Z 0] 7:=by rw[dz.ad _ Zo];exact er
  refine(atm (j:=bF+1) (h:=bU) aB.todR eo w).Zm ?_
  rintro aa bY cw ⟨rfl,rfl,rfl⟩
  subst Q3
  simp only[Zu,ZD]
  by_cases oE:w∈ta
  ·simp only[oE,YD,ZE]
   refine hy ⟨?_⟩
   refine hy ⟨?_⟩
   refine hy ⟨?_⟩
   refine gm (j8 (o:=1) (b:=j+1) (V:=0) (n:=7) eA Zo rfl Zd Zd rfl) ?_
   generalize iS:bn X _ (j+1) _=ck
   have bV:∀e,e≠j+1->Z X ck e=Z X bY e:=λe F=>by rw[<-iS,aK Zo F]
   have ot:Z X ck (j+1)=some (.cells (dP (R.ofList [.Z 1, .str w, .Z 0, .int .u64 0, .zF, .zF, .Z 0] 0 .nil) 0 [.Z 2]) 7 .own):=by rw[<-iS,bv Zo];rfl
   rw[<-bV _ Zo]at d3
   have eC:bD X h j ck (bF+1):=⟨wO.le,λe F=>by rw[bV e Zo];exact wO.ad e F⟩
   have:=fin ck (bF+1) 2 dw _ Zo eC ot d3 rfl rfl rfl rfl rfl rfl rfl
   refine hy ⟨?_⟩
   exact this
  ·simp only[oE,Yl,ZD]
   have:=fin bY (bF+1) 1 dw _ Zo wO eA d3 rfl rfl rfl rfl rfl rfl rfl
   refine hy ⟨?_⟩
   refine hy ⟨?_⟩
   refine hy ⟨?_⟩
   exact this
end
def CD(s:bc)(i:Nat):Option Tok:=
 let d:=(s.drop i).takeWhile h8
 if (j6 d).2≠0\/20<d.length then none
 else
  let Sy:=(s.drop (i+d.length)).takeWhile ir
  if Sy=[]then some ⟨4,d,0,(j6 d).1,dw⟩
  else match kt Sy with
   |some t=>if !t.b&&ud t (j6 d).1 then some ⟨5,d++Sy,0,(j6 d).1,t⟩else none
   |none=>none
def S5:∀{w:bc}{t:hS},kt w=some t->km t=true:=by
 intro w t a
 cases w with
 |nil=>cases a
 |cons c k=>
  by_cases aj:c::k=[98,111,111,108]
  ·rw[M9,Zp aj]at a
   cases a
   rfl
  ·obtain⟨_,n,I,M,_,rfl⟩:=FV a aj
   simp[km];omega
section
variable{X:cn}{h S a1 aT:R ag}{j aq aP bk fO:Nat}{s:bc}{i:Nat}
def arS(aB:ix X)(bZ:lT X)(U:mm X h fO s i)(aj:∀c∈s,c<256)(aL:(q X).a6<=j)(If:fO<j):
 a7 X 32 [.ptr fO 0] h j (λaa S aq=>(∃o,aa= .tuple [.agg (bW o), .bool (CD s i).isSome]/\∀x,CD s i=some x->o=x)/\bD X h j S aq) zK:=by
 refine zF aB.todR (afz X) ?_
 rw[afA]
 unfold T2
 have dv:=U.dv
 have hz:=U.ci
 have jt:=U.le
 have axl:=U.many
 obtain⟨cH,cB,dN⟩:=RU U aj i h8 (λc a=>by simp[ir,a])
 have vP:=Dd h8 (s.drop i)
 rw[Yy]at vP
 have qN:∀cE,mm X (bn X h j cE) fO s i:=λcE=>U.ad (aK aL Zo)
 refine cr @dv ⟨?_⟩
 refine(MW aB.todR (atz aB.todR) (qN _) U.le).Zm ?_
 rintro aa aT bk ⟨rfl,rfl,rfl⟩
 generalize jZ:CD s i=N
 unfold CD at jZ
 simp only[]at jZ
 generalize (s.drop i).takeWhile h8=d at*
 refine cV ⟨?_⟩
 refine e1 (λa1=>Z X a1 j=zC [.Z 0, .str [], .Z 0, .int .u64 0, .zF, .zF, .Z 0] 7/\bD X h j a1 (j+1)) ⟨by exact zP,dL⟩ ?_
 rintro a1 ⟨cb,b4⟩
 refine(ass aB bZ cH cB Zo).Zm ?_
 rintro aa be bF ⟨⟨B,rfl,bl⟩,cx⟩
 have iT:=cx.le
 have rx:=b4.trans cx
 have cG:Z X be j=zC [.Z 0, .str [], .Z 0, .int .u64 0, .zF, .zF, .Z 0] 7:=by rw[cx.ad _ Zo];exact cb
 have xb:=U.ad (rx.ad fO If)
 have ax3:z.agg [.Z 0, .str [], .Z 0, .int .u64 0, .zF, .zF, .Z 0]= .agg (bW gJ):=rfl
 rcases bl with ⟨a2,rfl⟩|⟨a2,b,rfl⟩
 ·by_cases eD:20<d.length
  ·rw[Zp (.inr eD)]at jZ
   subst jZ
   have cL:decide ((20:Int)<(d.length:Int))=true:=zN
   refine dk @Cy @cL ⟨?_⟩
   exact⟨⟨gJ,rfl,λx a=>by cases a⟩,bD.set rx Zo aL Zo⟩
  have cL:decide ((20:Int)<(d.length:Int))=false:=zO
  rw[Zg (by rintro(a|a);exact a a2;exact eD a)]at jZ
  have gM:=xb.dv
  have bA:bg .add (.Z (i:Int)) (.Z (d.length:Int))=some (.Z ((i+d.length:Nat):Int)):=by rw[eO Zo Zo];rfl
  refine hT @Cy @cL @gM @bA ⟨?_⟩
  refine(MW aB.todR (adf aB.todR) xb Zo).Zm ?_
  rintro aa bU cP ⟨rfl,rfl,rfl⟩
  obtain⟨fg,hc,vM⟩:=RU xb aj (i+d.length) ir (λ_ a=>a)
  generalize (s.drop (i+d.length)).takeWhile ir=w at*
  by_cases bQ:w=[]
  ·have cJ:decide (w=[])=true:=by simp[bQ]
   rw[Zp bQ]at jZ
   subst jZ
   refine cr @cJ ⟨?_⟩
   exact⟨⟨⟨4,d,0,(j6 d).1,dw⟩,rfl,λx a=>by cases a;rfl⟩,bD.set rx Zo aL Zo⟩
  have cJ:decide (w=[])=false:=by simp[bQ]
  rw[Zg bQ]at jZ
  refine cr @cJ ⟨?_⟩
  refine(adL aB bZ fg hc vM Zo).Zm ?_
  rintro aa bY cw ⟨rfl,dW⟩
  have iU:=dW.le
  have eV:Z X bY j=zC [.Z 0, .str [], .Z 0, .int .u64 0, .zF, .zF, .Z 0] 7:=by rw[dW.ad _ Zo];exact cG
  have Bz:=rx.trans dW
  generalize aZ:(kt w).getD dw=t
  have EZ:k7 t=[.bool t.b, .bool t.s, .Z t.w]:=rfl
  rw[EZ]
  refine hy ⟨?_⟩
  refine hy ⟨?_⟩
  refine hy ⟨?_⟩
  refine hy ⟨?_⟩
  refine hy ⟨?_⟩
  generalize iS:bn X _ cw _=ck
  have d3:Z X ck cw=zC [.bool t.b, .bool t.s, .Z t.w] 3:=by rw[<-iS,bv Zo];rfl
  have eA:Z X ck j=zC [.Z 0, .str [], .Z 0, .int .u64 0, .zF, .zF, .Z 0] 7:=by rw[<-iS];simp(disch:=omega) only[aK];exact eV
  have eC:bD X h j ck (cw+1):=Bz.trans (by rw[<-iS];exact dL)
  clear iS eV cG cb
  have sr:∀h,dc X h .add 9 false (.str d) (.str w)=some (.str (d++w)):=λh=>by
   have:Nat.ble (d.length+w.length) 1000000000=true:=jV Zo
   simp only[dc,wl,this,fj]
  have SJ:∀ai:Prop,ai->hG (.str (d++w)) (some (.str (d++w))) ai:=λai a=>iY (by simp[z.same,Cx]) a
  have Jk:∀ai:Prop,ai->hG (.agg [.bool t.b, .bool t.s, .Z t.w]) (some (.agg [.bool t.b, .bool t.s, .Z t.w])) ai:=λai a=>iY (by simp[z.same,pv,oY]) a
  have fN:bW ⟨5,d++w,0,(j6 d).1,t⟩=[.Z 5, .str (d++w), .Z 0, .int .u64 (j6 d).1, .bool t.b, .bool t.s, .Z t.w]:=rfl
  cases rH:kt w with
  |none=>
   rw[rH]at jZ
   simp only[]at jZ
   subst jZ
   simp only[ZX]
   refine dk @sr (bS d3) ⟨?_⟩
   refine SJ _ ?_
   refine dk @sr (bS d3) ⟨?_⟩
   refine Jk _ ?_
   refine cV ⟨?_⟩
   refine⟨⟨⟨5,d++w,0,(j6 d).1,t⟩, ?_,λx a=>by cases a⟩,bD.set eC Zo aL Zo⟩
   rw[fN]
  |some dC=>
   have ao8:dC=t:=by rw[rH]at aZ;exact aZ
   subst ao8
   have anR:=S5 rH
   rw[rH]at jZ
   simp only[]at jZ
   cases l1:dC.b with
   |true=>
    rw[l1]at jZ d3 fN Jk
    simp only[Ys,Bool.false_and,Zu,ZD]at jZ
    subst jZ
    simp only[ZX,Z5]
    refine dk @sr (bS d3) ⟨?_⟩
    refine SJ _ ?_
    refine dk @sr (bS d3) ⟨?_⟩
    refine Jk _ ?_
    refine cV ⟨?_⟩
    refine⟨⟨⟨5,d++w,0,(j6 d).1,dC⟩, ?_,λx a=>by cases a⟩,bD.set eC Zo aL Zo⟩
    rw[fN]
   |false=>
    rw[l1]at jZ d3 fN Jk
    simp only[Yt,Bool.true_and]at jZ
    simp only[Z5]
    refine dk @sr (bS d3) ⟨?_⟩
    have ay:=aob (j:=cw+1+19) (h:=ck) aB.todR dC anR ((j6 d).1:Int) Zo
    have ao5:k7 dC=[.zF, .bool dC.s, .Z dC.w]:=by unfold k7;rw[l1]
    rw[ao5]at ay
    refine ay.Zm ?_
    rintro aa cC e6 ⟨rfl,fa⟩
    have qM:=fa.le
    have h4:Z X cC cw=zC [.zF, .bool dC.s, .Z dC.w] 3:=by rw[fa.ad _ Zo];exact d3
    have ot:Z X cC j=zC [.Z 0, .str [], .Z 0, .int .u64 0, .zF, .zF, .Z 0] 7:=by rw[fa.ad _ Zo];exact eA
    have al6:bD X h j cC e6:=⟨zy eC.le,λe F=>by rw[fa.ad e (zy eC.le)];exact eC.ad e F⟩
    have amk:N.isSome=ud dC ((j6 d).1:Int):=by
     rw[<-jZ];cases ud dC ((j6 d).1:Int)<;>rfl
    rw[amk]
    refine cr @sr ⟨?_⟩
    refine SJ _ ?_
    refine cr (bS h4) ⟨?_⟩
    refine Jk _ ?_
    refine cV ⟨?_⟩
    refine⟨⟨⟨5,d++w,0,(j6 d).1,dC⟩, ?_,λx a=> ?_⟩,bD.set al6 Zo aL Zo⟩
    ·rw[fN]
    ·rw[<-jZ]at a
     split at a
     ·cases a;rfl
     ·cases a
 ·rw[Zp (.inl a2)]at jZ
  subst jZ
  refine cr @aci ⟨?_⟩
  exact⟨⟨gJ,rfl,λx a=>by cases a⟩,bD.set rx Zo aL Zo⟩
end
def xI:List bc:=[[45,62],[60,60],[62,62],[60,61],[62,61],[60,62],[40],[41],[44],[59],[58],[61],[60],[62],[43],[45],[42]]
structure NG(X:cn):Prop where
 at_:∀h,d0 X h 17 (.ptr 1 0)=some (.agg (xI.map z.str))
def HC(s p:bc):Bool:=decide (p.length<=s.length/\s.take p.length=p)
def uw(s:bc)(i:Nat):Option bc:=xI.find? (HC (s.drop i))
def CY(p:bc):Tok:=⟨6,p,0,0,dw⟩
def WO{α:Type}(p:α->Bool):∀(k:List α) (W:Nat),(∀o<W,∀x,k[o]? =some x->p x=false)->k.find? p=(k.drop W).find? p:=by
 intro k W
 induction W with
 |zero=>intro _;rfl
 |succ W ah=>
  intro a
  rw[ah λo aG=>a o Zo]
  by_cases bB:W<k.length
  ·rw[Zz bB,zm]
   have:=a W Zo k[W] (Zf bB)
   rw[this]
  ·rw[ZH Zo,ZH Zo]
section
variable{X:cn}{h S a1 aT:R ag}{j aq aP bk fO:Nat}{s:bc}{i:Nat}
def aue(aB:ix X)(eo:NG X)(U:mm X h fO s i)(aL:(q X).a6<=j)(If:fO<j):
 a7 X 30 [.ptr fO 0] h j (λaa S aq=>aa= .tuple [.agg (bW (match uw s i with|some p=>CY p|none=>gJ)), .bool (uw s i).isSome]/\bD X h j S aq) zK:=by
 refine zF aB.todR (afv X) ?_
 rw[afw]
 unfold T0
 have hz:=U.ci
 have nP:md (.str s) (some (.Z (i:Int))) none=some (.str (s.drop i)):=M0 .i64 U.le
 have bX:=eo.at_
 refine cr @bX ⟨?_⟩
 have cb:Z X (bn X h j (zC [.Z 0, .str [], .Z 0, .int .u64 0, .zF, .zF, .Z 0] 7)) j=zC [.Z 0, .str [], .Z 0, .int .u64 0, .zF, .zF, .Z 0] 7:=bv aL
 have b4:bD X h j (bn X h j (zC [.Z 0, .str [], .Z 0, .int .u64 0, .zF, .zF, .Z 0] 7)) (j+1):=dL
 refine f6 (λm H S aQ=>∃(W:Nat),H.g 0=some (.ptr fO 0)/\H.g 2=some (.ptr j 0)/\H.g 6=some (.agg (xI.map z.str))/\H.g 7=some (.Z (W:Int))/\W+m=17/\Z X S j=zC [.Z 0, .str [], .Z 0, .int .u64 0, .zF, .zF, .Z 0] 7/\bD X h j S aQ/\j+1<=aQ/\∀o<W,∀x,xI[o]? =some x->HC (s.drop i) x=false)
  17 ⟨0,bC,bC,bC,gC,Zo,cb,b4,Zi _,λo aG=>Zo⟩ ?_
 clear cb b4
 rintro m H aT bk ⟨W,t0,eY,eZ,gT,bB,b5,cl,nL,m7⟩
 have g9:=U.ad (cl.ad fO If)
 have dV:=g9.dV
 have dv:=g9.dv
 cases m with
 |zero=>
  have d:decide ((W:Int)<17)=false:=zO
  have ch:uw s i=none:=by
   unfold uw
   rw[WO _ _ W m7,show xI.drop W=[] from ZH (by show 17<=W;omega)]
   rfl
  rw[ch]
  refine eW @gT @d @eY ⟨?_⟩
  exact⟨rfl,bD.set cl Zo aL Zo⟩
 |succ m=>
  have d:decide ((W:Int)<17)=true:=zN
  have bA:=zD W
  obtain⟨p,av⟩:∃p,xI[W]? =some p:=⟨_,Zf (by show W<17;omega)⟩
  have d7:sV false 17 1 (.agg (xI.map z.str)) (.Z (W:Int))=some (.str p):=by
   have:Nat.blt W 17=true:=by simp[Nat.blt];omega
   simp only[sV,qT,this,fj,kE,qj,Yc,Zw,av];rfl
  refine eQ @gT @eZ @t0 @d @d7 @dV (Za @dv @nP) ⟨?_⟩
  refine(acT aB.todR (s.drop i) p).Zm ?_
  rintro aa be bF ⟨rfl,rfl,rfl⟩
  have BV:decide (p.length<=(s.drop i).length/\(s.drop i).take p.length=p)=HC (s.drop i) p:=rfl
  rw[BV]
  cases gd:HC (s.drop i) p with
  |true=>
   have ch:uw s i=some p:=by
    unfold uw
    obtain⟨af,F⟩:=Zb.1 av
    have aI:xI.drop W=p::xI.drop (W+1):=by rw[Zz af,F]
    rw[WO _ _ W m7,aI,zm,gd]
   rw[ch]
   refine cr @eY ⟨?_⟩
   exact⟨rfl,bD.set cl Zo aL Zo⟩
  |false=>
   refine dk @gT @bA ⟨?_⟩
   refine⟨m,Zo,W+1,aY t0,aY eY,aY eZ,bC,Zo,b5,⟨Zo,cl.ad⟩,Zo,λo aG x af=> ?_⟩
   by_cases Lo:o=W
   ·subst Lo;rw[av]at af;cases af;exact gd
   ·exact m7 o Zo x af
end
def vX(s:bc)(i:Nat):Option Tok:=match s[i]? with
 |none=>none
 |some c=>if h8 c then CD s i else if qf c then(if (s3 s i).2 then some (s3 s i).1 else none)else(uw s i).map CY
def lf(x:Tok)(i:Nat):Tok:=⟨x.kind,x.text,i,x.n,x.ty⟩
def qr(s:bc):Nat->List Tok->Nat->Option (Except Int (List Tok))
 |0,_,_=>none
 |n+1,aN,i=>if i<s.length then match vX s i with
   |none=>some (.error i)
   |some x=>qr s n (aN++[lf x i]) (nA s s.length (i+x.text.length))
  else some (.ok (aN++[⟨7,[],i,0,dw⟩]))
def Ob(s:bc):∀(n i:Nat),i<=nA s n i:=by
 intro n
 induction n with
 |zero=>intro i;exact Zi _
 |succ n ah=>
  intro i
  rw[nA]
  split
  ·exact Zi _
  ·split
   ·exact ZA Zo (ah (i+1))
   ·split
    ·exact ZA Zo (ah _)
    ·exact Zi _
def S3{s:bc}{i:Nat}{x:Tok}(a:vX s i=some x):1<=x.text.length/\i+x.text.length<=s.length:=by
 unfold vX at a
 cases ay:s[i]? with
 |none=>rw[ay]at a;cases a
 |some c=>
  rw[ay]at a
  simp only[]at a
  obtain⟨af,F⟩:=Zb.1 ay
  have aI:s.drop i=c::s.drop (i+1):=by rw[Zz af,F]
  have az:(s.drop i).length=s.length-i:=Yy
  split at a
  ·rename_i po
   have I:=Dd h8 (s.drop i)
   have M:1<=((s.drop i).takeWhile h8).length:=by rw[aI,YC,po];simp
   unfold CD at a
   simp only[]at a
   generalize (s.drop i).takeWhile h8=d at*
   split at a
   ·cases a
   ·have ak:=Dd ir (s.drop (i+d.length))
    rw[Yy]at ak
    split at a
    ·cases a;exact⟨M,by show i+d.length<=_;omega⟩
    ·split at a
     ·split at a
      ·cases a
       refine⟨?_, ?_⟩
       ·show 1<=(d++_).length;rw[ZP];omega
       ·show i+(d++_).length<=_;rw[ZP];omega
      ·cases a
     ·cases a
  ·split at a
   ·rename_i wU
    have I:=Dd ir (s.drop i)
    have M:1<=((s.drop i).takeWhile ir).length:=by rw[aI,YC,show ir c=true from by simp[ir,wU]];simp
    split at a
    ·cases a
     exact⟨M,by show i+((s.drop i).takeWhile ir).length<=_;omega⟩
    ·cases a
   ·simp only[Yf]at a
    obtain⟨p,I,rfl⟩:=a
    have M:=List.find?_some I
    have ak:=List.mem_of_find?_eq_some I
    simp[HC]at M
    refine⟨?_, ?_⟩
    ·show 1<=p.length
     revert ak
     clear I M
     revert p
     decide
    ·show i+p.length<=_;omega
def ee.narrow{C:aM}{h:R ag}{P:Nat->Prop}{b aO:Nat}{bf:z}{ba:List (List z)}(a:ee C h P b bf aO ba):ee C h (λe=>e=b) b bf aO ba:=⟨λ_=>rfl,a.many,a.wide,a.len,a.gZ,a.cell⟩
section
variable{X:cn}{h S a1 aT:R ag}{j aq aP bk fO:Nat}{s:bc}{i:Nat}
structure Gj(X:cn):Prop where
 err:lT X
 res:JP X
 sig:NG X
def Va(X:cn)(j:Nat)(r:Except Int (List Tok))(aa:z)(S:R ag)(aq:Nat):Prop:=match r with
 | .error D=>aa= .tuple [.aV, .agg [.Z 20, .Z D]]
 | .ok aN=>∃am bE,aa= .tuple [am, .agg [.Z 0, .Z 0]]/\ee X S (λe=>e=bE) bE am 7 (aN.map bW)/\j<=bE/\bE<aq
def aia(aB:ix X)(eo:Gj X)(aD:s.length<=65536)(aj:∀c∈s,c<256)(aL:(q X).a6<=j){a0:z}(az:gl a0=some (.Z (s.length:Int)))(wW:∀S aQ,bD X h j S aQ->ym X S a0=some (.str s))
 {r:Except Int (List Tok)}(U:qr s (s.length+1) [] (nA s s.length 0)=some r):
 a7 X 17 [a0] h j (λaa S aq=>Va X j r aa S aq/\bD X h j S aq) zK:=by
 refine zF aB.todR (afd X) ?_
 rw[afe]
 unfold TN
 have mV:decide ((65536:Int)<(s.length:Int))=false:=zO
 have rB:=wW (bn X h j (zC [.Z 0, .Z 0] [z.Z 0, .Z 0].length)) (j+1) dL
 refine dk @az @mV ⟨?_⟩
 refine gm rB ?_
 refine cV ⟨?_⟩
 refine e1 (λa1=>Z X a1 j=zC [.Z 0, .Z 0] 2/\Z X a1 (j+1)=zC [.str s, .Z ((0:Nat):Int)] 2/\bD X h j a1 (j+1+1)) ⟨by exact zP,by rw[bv Zo];rfl,dL⟩ ?_
 rintro a1 ⟨cb,b5,b4⟩
 have qN:mm X a1 (j+1) s 0:=⟨b5,Zo,aD,Zo⟩
 refine(VH aB qN aj Zo Zo).Zm ?_
 rintro aa aT bk ⟨g9,dp⟩
 have gP:=dp.le
 have cG:Z X aT j=zC [.Z 0, .Z 0] 2:=by rw[dp.ad _ Zo Zs];exact cb
 have cl:bD X h j aT bk:=⟨Zo,λe F=>by rw[dp.ad e Zo Zx];exact b4.ad e F⟩
 refine gQ ?_
 refine f6 (λm H S aQ=>∃(bf:z) (aN:List Tok) (cR:List Nat) (W:Nat),H.g 3=some (.ptr j 0)/\H.g 4=some (.ptr (j+1) 0)/\H.g 5=some bf/\Z X S j=zC [.Z 0, .Z 0] 2/\mm X S (j+1) s W/\gU X S bf 7 (aN.map bW).flatten cR/\(∀e∈cR,j+2<=e/\e<aQ)/\bD X h j S aQ/\j+2<=aQ/\aN.length<=W/\qr s m aN W=some r)
  (s.length+1) ⟨.aV,[],[],_,bC,bC,bC,cG,g9, .inl (.inl ⟨rfl,rfl,rfl⟩),Zs,cl,Zo,Zs,U⟩ ?_
 clear U cb b5 cG qN g9 b4 cl dp gP rB
 rintro m H aT bk ⟨bf,aN,cR,W,t3,t4,t5,b5,g9,ug,ms,cl,nL,axn,U⟩
 have dV:=g9.dV
 have dv:=g9.dv
 have rI:=g9.le
 cases m with
 |zero=>cases U
 |succ m=>
 rw[qr]at U
 have ψ:∀r∈aN.map bW,r.length=7:=λr a=>by obtain⟨x,_,rfl⟩:=ZK.1 a;rfl
 have sJ:=u0 ψ
 rw[Zr]at sJ
 have Vt:∀(be:R ag) (bF b:Nat) (x:Tok),(∀e∈cR,Z X be e=Z X aT e)->bk<=bF->Z X be b=zC (bW x) 7->
  ∃pD bU iy,kC X be bF 7 bf (.slice b 0 1 1)=some (.fl pD bU (bF+1))/\kc X bU pD 7 ((aN++[x]).map bW).flatten iy/\(∀e∈iy,e=bF\/e∈cR)/\∀e,e≠bF->e∉cR->Z X bU e=Z X be e:=by
  intro be bF b x aG yQ amx
  have jJ:kS X be 7 (.slice b 0 1 1)=some (1,bW x):=td amx (pt _) rfl _
  obtain⟨pD,bU,iy,I,M,ak,aA⟩:=(ug.ad aG).append (j:=bF) Zd jJ rfl Zd rfl (by rw[sJ,show(bW x).length=7 from rfl];omega) Zo (λe F=>zy (ms e F))
  refine⟨pD,bU,iy,I, ?_,ak,aA⟩
  rw[Yw,zj,ZC,List.map_nil,Yi,List.flatten_nil,Z4]
  exact M
 by_cases bB:W<s.length
 ·have cL:=zA W s.length
  rw[Zp bB]at U
  obtain⟨c,ay⟩:∃c,s[W]? =some c:=⟨_,Zf bB⟩
  have d7:=y8 .i64 ay
  have K7:=aj c (Zl ay)
  refine gO @t4 @dV (Za @dv (Za @cL @d7)) ⟨?_⟩
  refine gQ ?_
  refine gO @t4 @dV (Za @dv (Za @cL @d7)) ⟨?_⟩
  refine gQ ?_
  refine gO @t4 @dV (Za @dv (Za @cL @d7)) ⟨?_⟩
  have rd:∀(o:Nat),(h8 c=true->o=32)->(h8 c=false->qf c=true->o=34)->(h8 c=false->qf c=false->o=30)->∀Mv,bk<=Mv->
   a7 X o [.ptr (j+1) 0] aT Mv (λaa S aQ=>(∃x,aa= .tuple [.agg (bW x), .bool (vX s W).isSome]/\∀e,vX s W=some e->x=e)/\bD X aT Mv S aQ) zK:=by
   intro o bM cq df Mv BT
   unfold vX
   rw[ay]
   simp only[]
   cases po:h8 c with
   |true=>
    rw[bM po]
    simp only[ZE]
    exact arS aB eo.err g9 aj Zo Zo
   |false=>
    simp only[Zu,ZD]
    cases wU:qf c with
    |true=>
     rw[cq po wU]
     simp only[ZE]
     refine(avM aB eo.err eo.res g9 aj Zo Zo).Zm ?_
     rintro aa S aQ ⟨rfl,bZ⟩
     refine⟨⟨(s3 s W).1, ?_,λe a=> ?_⟩,bZ⟩
     ·cases(s3 s W).2<;>rfl
     ·split at a
      ·cases a;rfl
      ·cases a
    |false=>
     rw[df po wU]
     simp only[Zu,ZD]
     refine(aue aB eo.sig g9 Zo Zo).Zm ?_
     rintro aa S aQ ⟨rfl,bZ⟩
     refine⟨⟨(match uw s W with|some p=>CY p|none=>gJ), ?_,λe a=> ?_⟩,bZ⟩
     ·cases uw s W<;>rfl
     ·cases bJ:uw s W with
      |none=>rw[bJ]at a;cases a
      |some p=>rw[bJ]at a;cases a;rfl
  refine jK (λcN S aQ=>∃o,cN.g 3=some (.ptr j 0)/\cN.g 4=some (.ptr (j+1) 0)/\cN.g 5=some bf/\cN.g 6=some (.func (.func o) [.ptr (j+1) 0] [])/\S=aT/\bk<=aQ/\(h8 c=true->o=32)/\(h8 c=false->qf c=true->o=34)/\(h8 c=false->qf c=false->o=30)) (λaxF Qj=> ?_) ?_
  ·refine(OF aB.todR c).Zm ?_
   rintro aa be bF ⟨rfl,rfl,rfl⟩
   cases po:h8 c with
   |true=>
    refine cr @t4 ⟨?_⟩
    exact Qj _ _ _ ⟨32,aY t3,aY t4,aY t5,bC,rfl,Zo,λ_=>rfl,(λa=>absurd a (by simp[po])),(λa=>absurd a (by simp[po]))⟩
   |false=>
    refine cr @t4 ⟨?_⟩
    refine(VE aB.todR c).Zm ?_
    rintro aa be bF ⟨rfl,rfl,rfl⟩
    cases wU:qf c with
    |true=>
     refine cr @t4 ⟨?_⟩
     exact Qj _ _ _ ⟨34,aY t3,aY t4,aY t5,bC,rfl,Zo,(λa=>absurd a (by simp[po])),λ_ _=>rfl,(λ_ a=>absurd a (by simp[wU]))⟩
    |false=>
     refine cr @t4 ⟨?_⟩
     exact Qj _ _ _ ⟨30,aY t3,aY t4,aY t5,bC,rfl,Zo,(λa=>absurd a (by simp[po])),(λ_ a=>absurd a (by simp[wU])),λ_ _=>rfl⟩
  clear t3 t4 t5
  rintro av1 be bF ⟨o,t3,t4,t5,eZ,rfl,yQ,bM,cq,df⟩
  refine cr @eZ ⟨?_⟩
  refine(rd o bM cq df _ yQ).Zm ?_
  clear rd bM cq df eZ
  rintro aa bU cP ⟨⟨x,rfl,af⟩,dz⟩
  have je:=dz.le
  have er:Z X bU j=zC [.Z 0, .Z 0] 2:=by rw[dz.ad _ Zo];exact b5
  have LM:=g9.ad (dz.ad (j+1) Zo)
  have Eo:bD X h j bU cP:=cl.trans ⟨Zo,λe F=>dz.ad e Zo⟩
  have ao9:bW x=[.Z x.kind, .str x.text, .Z x.at_, .int .u64 x.n, .bool x.ty.b, .bool x.ty.s, .Z x.ty.w]:=rfl
  rw[ao9]
  refine hy ⟨?_⟩
  refine hy ⟨?_⟩
  refine hy ⟨?_⟩
  refine hy ⟨?_⟩
  refine hy ⟨?_⟩
  generalize jr:bn X _ cP _=bY
  have bq:∀e,e<cP->Z X bY e=Z X bU e:=λe F=>by rw[<-jr];exact zE
  have eV:Z X bY cP=zC (bW x) 7:=by rw[<-jr,bv Zo];rfl
  have d3:=er
  rw[<-bq _ Zo]at d3
  have Ic:=LM.ad (bq (j+1) Zo)
  have dW:bD X h j bY (cP+1):=⟨Zo,λe F=>by rw[bq e Zo];exact Eo.ad e F⟩
  clear jr er
  have jD:=Ic.dv
  cases vw:vX s W with
  |none=>
   rw[vw]at U
   simp only[Ze]at U
   subst U
   simp only[ZX]
   refine eW @t4 @t3 @jD ⟨?_⟩
   exact⟨rfl,bD.set dW (Zi _) aL Zo⟩
  |some e=>
   have:=af e vw
   subst this
   rw[vw]at U
   simp only[]at U
   obtain⟨Im,Q8⟩:=S3 vw
   simp only[Z5]
   simp only[Ys]
   refine eW @t4 @t3 @jD ⟨?_⟩
   generalize iS:bn X bY cP _=ck
   have bV:∀e,e≠cP->Z X ck e=Z X bY e:=λe F=>by rw[<-iS,aK Zo F]
   have eA:Z X ck cP=some (.cells (dP (R.ofList (bW x) 0 .nil) 2 [.Z (W:Int)]) 7 .own):=by rw[<-iS,bv Zo];rfl
   have m9:=Ic.ad (bV (j+1) Zo)
   have eC:bD X h j ck (cP+1):=⟨Zo,λe F=>by rw[bV e Zo];exact dW.ad e F⟩
   have h4:=d3
   rw[<-bV _ Zo]at h4
   have et:∀e∈cR,Z X ck e=Z X be e:=λe F=>by have:=ms e F;rw[bV e Zo,bq e Zo,dz.ad e Zo]
   clear iS eV d3 Ic dW jD bV bq LM Eo
   have ea:aR X ck (.ptr cP 1)=some (.str x.text):=by rw[bS eA];rfl
   have bA:bg .add (.Z (W:Int)) (.Z (x.text.length:Int))=some (.Z ((W+x.text.length:Nat):Int)):=by rw[eO Zo Zo];rfl
   refine sz @ea ⟨?_⟩
   refine hy ⟨?_⟩
   refine sz @bA ⟨?_⟩
   refine hy ⟨?_⟩
   refine hy ⟨?_⟩
   refine gm (j8 (o:=1) (b:=j+1) (V:=1) (n:=2) m9.g Zo rfl Zd Zd rfl) ?_
   generalize lo:bn X ck (j+1) _=cC
   have c2:∀e,e≠j+1->Z X cC e=Z X ck e:=λe F=>by rw[<-lo,aK Zo F]
   have aou:mm X cC (j+1) s (W+x.text.length):=⟨by rw[<-lo,bv Zo];rfl,Q8,aD,Zo⟩
   have fa:bD X h j cC (cP+1):=⟨Zo,λe F=>by rw[c2 e Zo];exact eC.ad e F⟩
   rw[<-c2 _ Zo]at eA h4
   have f5:∀e∈cR,Z X cC e=Z X be e:=λe F=>by have:=ms e F;rw[c2 e Zo];exact et e F
   clear lo c2 m9 eC et ea
   have fw:aR X cC (.ptr cP 0)=some (.Z x.kind):=by rw[bS eA];rfl
   have ea:aR X cC (.ptr cP 1)=some (.str x.text):=by rw[bS eA];rfl
   have c4:aR X cC (.ptr cP 2)=some (.Z (W:Int)):=by rw[bS eA];rfl
   have eT:aR X cC (.ptr cP 3)=some (.int .u64 x.n):=by rw[bS eA];rfl
   have gE:aR X cC (.ptr cP 4)=some (.bool x.ty.b):=by rw[bS eA];rfl
   have gg:aR X cC (.ptr cP 5)=some (.bool x.ty.s):=by rw[bS eA];rfl
   have l4:aR X cC (.ptr cP 6)=some (.Z x.ty.w):=by rw[bS eA];rfl
   refine eQ @fw @ea @c4 @eT @gE @gg (Za @l4 @t5) ⟨?_⟩
   obtain⟨pD,dS,iy,j0,Q0,HE,vn⟩:=Vt (bn X cC (cP+1+11) (zC (bW (lf x W)) 7)) (cP+1+11+1) (cP+1+11) (lf x W) (λe F=>by have:=ms e F;rw[aK Zo Zo];exact f5 e F) Zo (bv Zo)
   refine mc j0 ?_
   have dH:∀e,e<j+2->e∉cR:=λe I M=>zy (ms e M)
   have ia:∀e,e<j+2->Z X dS e=Z X cC e:=λe F=>by rw[vn e Zo (dH e F),aK Zo Zo]
   have aov:=aou.ad (ia (j+1) Zo)
   rw[<-ia _ Zo]at h4
   have jY:bD X h j dS (cP+1+11+1+1):=⟨Zo,λe F=>by rw[ia e Zo];exact fa.ad e F⟩
   have pm:∀e∈iy,j+2<=e/\e<cP+1+11+1+1:=λe F=>by
    rcases HE e F with rfl|a
    ·omega
    ·have:=ms e a;omega
   refine cr @t4 ⟨?_⟩
   refine(VH aB aov aj Zo Zo).Zm ?_
   rintro aa dD is ⟨qd,hq⟩
   have rJ:=hq.le
   refine⟨m,Zo,pD,aN++[lf x W],iy,_,aY t3,aY t4,bC,by rw[hq.ad _ Zo Zs];exact h4,qd, .inl (Q0.ad λe F=>hq.ad e (pm e F).2 (by have:=pm e F;simp;omega)),λe F=>zy (pm e F),⟨Zo,λe F=>by rw[hq.ad e Zo Zx];exact jY.ad e F⟩,Zo, ?_,U⟩
   have:=Ob s s.length (W+x.text.length)
   simp only[ZP,ZG,ZY]
   omega
 ·have cL:=zz W s.length
  rw[Zg bB]at U
  cases U
  refine gV @t4 @dV @dv @cL @t5 ⟨?_⟩
  obtain⟨pD,bU,iy,j0,rQ,tS,f2⟩:=Vt (bn X aT (bk+10) (zC (bW ⟨7,[],W,0,dw⟩) 7)) (bk+10+1) (bk+10) ⟨7,[],W,0,dw⟩ (λe F=>aK Zo (zy (ms e F))) Zo (bv Zo)
  refine mc j0 ?_
  have dH:∀e,e<j+2->e∉cR:=λe I M=>zy (ms e M)
  have er:Z X bU j=zC [.Z 0, .Z 0] 2:=by rw[f2 _ Zo (dH _ Zo),aK Zo Zo];exact b5
  have dz:bD X h j bU (bk+10+1+1):=⟨Zo,λe F=>by rw[f2 _ Zo (dH _ Zo),aK Zo Zo];exact cl.ad e F⟩
  clear j0 f2
  refine cr @t3 ⟨?_⟩
  have anC:∀r∈(aN++[(⟨7,[],W,0,dw⟩:Tok)]).map bW,r.length=7:=λr a=>by obtain⟨x,_,rfl⟩:=ZK.1 a;rfl
  generalize jr:bn X bU j _=bY
  have bq:∀e,e≠j->Z X bY e=Z X bU e:=λe F=>by rw[<-jr,aK Zo F]
  have XE:∀e∈iy,j+2<=e/\e<bk+10+1+1:=λe F=>by
   rcases tS e F with rfl|a
   ·omega
   ·have:=ms e a;omega
  obtain⟨bE,cW⟩:=(rQ.ad (S:=bY) (λe F=>bq e (zy (XE e F)))).FF Zd anC Zx (P:=λe=>j<=e/\e<bk+10+1+1) (λe F=>zy (XE e F))
  have jc:=cW.aj Zs
  exact⟨⟨pD,bE,rfl,ee.narrow cW,jc.1,jc.2⟩,⟨Zo,λe F=>by rw[bq e Zo];exact dz.ad e F⟩⟩
end
section
variable{X:cn}{h S a1 aT:R ag}{j aq aP bk aF bE:Nat}{aN:List Tok}{i:Nat}
def RI(p:z):pb X h 23 p=aR X h p:=Zk
def RJ(p:z):pb X h 26 p=d0 X h 2 p:=Zk
def akf:dc X h .eql 20 true .nilIface .nilIface=some .zT:=Zk
def akc(o D:Int):dc X h .eql 20 true (wG o D) .nilIface=some .zF:=Zk
def VJ:∃fn c,(q X).P.funcs[18]? =some fn/\fn.body=some c:=O3 (NN X)
def atd(aB:dR X){D b:z}{bh:Bool->R ag->Nat->Prop}(a:bh false h j):yo X (.func 18) ([]++[D,b]) none h j bh:=by
 refine⟨aB.none _ _ rfl,VJ,WQ (NN X) ?_⟩
 show D9 X 18 [D,b] none h j bh
 rw[TO]
 unfold NM
 show bw _ _
 refine cr @akf ⟨?_⟩
 exact a
def ate(aB:dR X){D b:Nat}{o at_:Int}{dv dK:R z}{bh:Bool->R ag->Nat->Prop}(aL:(q X).a6<=D)(nL:(q X).a6<=b)(HA:D≠b)(PS:D<j)(HF:b<j)(ja:Z X h D=some (.cells dv 1 .own))(tG:Z X h b=some (.cells dK 2 .own))
 (a:∀S aQ,j<=aQ->aR X S (.ptr D 0)=some .cM->d0 X S 2 (.ptr b 0)=some (.agg [.Z o, .Z at_])->(∀e,e<j->e≠D->e≠b->Z X S e=Z X h e)->bh true S aQ):yo X (.func 18) ([]++[.ptr D 0, .ptr b 0]) (some (wG o at_)) h j bh:=by
 refine⟨aB.none _ _ rfl,VJ,WQ (NN X) ?_⟩
 show D9 X 18 [.ptr D 0, .ptr b 0] (some (wG o at_)) h j bh
 rw[TO]
 unfold NM
 show bw _ _
 have ain:J6 26 (.agg [.Z 0, .Z 0]) true (wG o at_)=some (.tuple [.agg [.Z o, .Z at_], .zT]):=ye _ _ _
 have Sf:∀(H:da) (n:Nat),(SD H).g n=H.g n:=λ_ _=>rfl
 refine eW @akc @ain @Sf ⟨?_⟩
 generalize fG:bn X _ j _=a1
 have cb:Z X a1 j=zC [.Z o, .Z at_] 2:=by rw[<-fG,bv Zo];rfl
 have I:∀e,e<j->Z X a1 e=Z X h e:=λe F=>by rw[<-fG];exact zE
 rw[<-I D PS]at ja
 rw[<-I b HF]at tG
 clear fG
 refine dk (bS cb) @Sf ⟨?_⟩
 refine iY (by simp[z.same,pv,oY]) ?_
 generalize dX:bn X a1 D _=aT
 have b5:Z X aT D=some (.cells (dP dv 0 [.cM]) 1 .own):=by rw[<-dX,bv aL];rfl
 have M:∀e,e≠D->Z X aT e=Z X a1 e:=λe F=>by rw[<-dX,aK aL F]
 rw[<-M b Zo]at tG
 clear dX
 refine sz @Sf ⟨?_⟩
 refine gm (j8 (o:=2) (b:=b) (V:=0) (n:=2) tG nL rfl Zd Zd rfl) ?_
 show bh true _ _
 refine a _ _ Zo ?_ ?_ (λe F apt f4=> ?_)
 ·rw[bS (by rw[aK nL HA];exact b5),nq];rfl
 ·rw[qQ,bS (bv nL),bS (bv nL),nq,nq];rfl
 ·rw[aK nL f4,M e apt,I e F]
def atq{ai:bN}{H:da}{p al v w:z}(pn:H.aW=[])(M:H.g 2=some p)(ak:H.g 3=some al)(ea:aR X h p=some v)(c4:d0 X h 2 al=some w)(a:ai (.tuple [v,w]) h j):FH X ai H h j:=by
 unfold FH
 rw[pn]
 show ca (H.g 2) (λp=>ar (pb X h 23 p) λv=>ca (H.g 3) λp=>ar (pb X h 26 p) λw=>ai (.tuple [v,w]) h j)
 rw[M,ak]
 refine s7 ?_
 rw[RI,ea]
 refine s8 ?_
 refine s7 ?_
 rw[RJ,c4]
 exact s8 a
def atr{ai:bN}{H:da}{p al v w D b:z}(aB:dR X)(pn:H.aW=[⟨.fn (.func 18) [D,b],[]⟩])(M:H.g 2=some p)(ak:H.g 3=some al)(ea:aR X h p=some v)(c4:d0 X h 2 al=some w)(a:ai (.tuple [v,w]) h j):FH X ai H h j:=by
 unfold FH
 rw[pn]
 show yo X (.func 18) ([]++[D,b]) none h j λ_ h j=>oW X [.cell 2 23, .cell 3 26] ai H [] h j
 refine atd aB ?_
 show ca (H.g 2) (λp=>ar (pb X h 23 p) λv=>ca (H.g 3) λp=>ar (pb X h 26 p) λw=>ai (.tuple [v,w]) h j)
 rw[M,ak]
 refine s7 ?_
 rw[RI,ea]
 refine s8 ?_
 refine s7 ?_
 rw[RJ,c4]
 exact s8 a
def acE{ai aw:bN}{H:da}{D b:Nat}{o at_:Int}{dv dK:R z}(aB:dR X)(pn:H.aW=[⟨.fn (.func 18) [.ptr D 0, .ptr b 0],[]⟩])(M:H.g 2=some (.ptr D 0))(ak:H.g 3=some (.ptr b 0))
 (aL:(q X).a6<=D)(nL:(q X).a6<=b)(HA:D≠b)(PS:D<j)(HF:b<j)(ja:Z X h D=some (.cells dv 1 .own))(tG:Z X h b=some (.cells dK 2 .own))
 (a:∀S aQ,j<=aQ->(∀e,e<j->e≠D->e≠b->Z X S e=Z X h e)->ai (.tuple [.cM, .agg [.Z o, .Z at_]]) S aQ):I3 X ai aw H (wG o at_) h j:=by
 unfold I3
 rw[pn]
 show yo X (.func 18) ([]++[.ptr D 0, .ptr b 0]) (some (wG o at_)) h j λb h j=>bK b (oW X [.cell 2 23, .cell 3 26] ai H [] h j) _
 refine ate aB aL nL HA PS HF ja tG (λS aQ f8 ea c4 aG=> ?_)
 show ca (H.g 2) (λp=>ar (pb X S 23 p) λv=>ca (H.g 3) λp=>ar (pb X S 26 p) λw=>ai (.tuple [v,w]) S aQ)
 rw[M,ak]
 refine s7 ?_
 rw[RI,ea]
 refine s8 ?_
 refine s7 ?_
 rw[RJ,c4]
 exact s8 (a S aQ f8 aG)
def ajs{fn:Fn}{first cap wp:List z}{H:da}{ai:da->Prop}(a:ai (AC H ⟨.fn fn cap,first++wp⟩)):Kl (.func fn first cap) wp H ai:=a
def Ay(s:bc)(n:Nat):Option (Except (Int×Int) (List Go.aS.Node)):=match qr s (s.length+1) [] (nA s s.length 0)with
 |none=>none
 |some (.error D)=>some (.error (20,D))
 |some (.ok aN)=>match nodes n [] aN with
  |none=>none
  |some (.error D)=>some (.error (21,D))
  |some (.ok (ax,_))=>match l5 ax with
   |some (o,D)=>some (.error (o,D))
   |none=>some (.ok ax)
def Tq(X:cn)(j:Nat)(r:Except (Int×Int) (List Go.aS.Node))(aa:z)(S:R ag)(aq:Nat):Prop:=match r with
 | .error (o,D)=>aa= .tuple [.cM, .agg [.Z o, .Z D]]
 | .ok ax=>∃v,aa= .tuple [v, .agg [.Z 0, .Z 0]]/\uL X S (ec j aq) ax v
def GD(s:bc):∀(n i:Nat),i<=s.length->nA s n i<=s.length:=by
 intro n
 induction n with
 |zero=>intro i a;exact a
 |succ n ah=>
  intro i a
  rw[nA]
  split
  ·exact a
  ·rename_i c ay
   have af:=(Zb.1 ay).1
   split
   ·exact ah _ Zo
   ·split
    ·have:=Dd (λc=>decide (c≠10)) (s.drop i)
     rw[Yy]at this
     exact ah _ Zo
    ·exact a
def adI(s:bc):∀(n:Nat) (aN:List Tok) (i:Nat) (mf:List Tok),aN.length<=i->i<=s.length->qr s n aN i=some (.ok mf)->mf.length<=s.length+1:=by
 intro n
 induction n with
 |zero=>intro aN i mf _ _ a;cases a
 |succ n ah=>
  intro aN i mf I M a
  rw[qr]at a
  split at a
  ·split at a
   ·cases a
   ·rename_i x af
    obtain⟨bM,cq⟩:=S3 af
    have df:=Ob s s.length (i+x.text.length)
    exact ah _ _ _ Zx (GD s _ _ cq) a
  ·cases a
   simp;omega
def ast(aB:ix X)(eo:Gj X)(gj:uI X){s:bc}{n:Nat}(rK:n<=170000)(aD:s.length<=65536)(aj:∀c∈s,c<256)(aL:(q X).a6<=j){a0:z}(az:gl a0=some (.Z (s.length:Int)))(wW:∀S aQ,bD X h j S aQ->ym X S a0=some (.str s))
 {r:Except (Int×Int) (List Go.aS.Node)}(U:Ay s n=some r):
 a7 X 5 [a0] h j (λaa S aq=>Tq X j r aa S aq/\bD X h j S aq) zK:=by
 refine Kf (agm X) (aB.none _ _ rfl) ?_
 rw[agn]
 unfold Uf
 refine cV ⟨?_⟩
 refine e1 (λa1=>Z X a1 j=zC [.cM] 1/\Z X a1 (j+1)=zC [.Z 0, .Z 0] 2/\bD X h j a1 (j+1+1)) ⟨by exact zP,by rw[bv Zo];rfl,dL⟩ ?_
 rintro a1 ⟨cb,b5,b4⟩
 unfold Ay at U
 obtain⟨Jh,Ig⟩:∃Jh,qr s (s.length+1) [] (nA s s.length 0)=some Jh:=by
  cases a:qr s (s.length+1) [] (nA s s.length 0)with
  |none=>rw[a]at U;cases U
  |some Jh=>exact⟨Jh,rfl⟩
 rw[Ig]at U
 refine(aia aB eo aD aj Zo az (λS aQ a=>wW S aQ (b4.trans a)) Ig).Zm ?_
 rintro aa aT bk ⟨vw,cl⟩
 have gP:=cl.le
 have cG:Z X aT j=zC [.cM] 1:=by rw[cl.ad _ Zo];exact cb
 have er:Z X aT (j+1)=zC [.Z 0, .Z 0] 2:=by rw[cl.ad _ Zo];exact b5
 have mY:=b4.trans cl
 clear cb b5
 cases Jh with
 |error D=>
  simp only[Ze]at U
  subst U
  simp only[Va]at vw
  subst vw
  have Oz:decide ((20:Int)≠0)=true:=rfl
  refine cr @Oz ⟨?_⟩
  generalize gt:bn X aT (j+1) _=be
  have eV:Z X be (j+1)=zC [.Z 20, .Z D] 2:=by rw[<-gt,bv Zo];rfl
  have ak:∀e,e≠j+1->Z X be e=Z X aT e:=λe F=>by rw[<-gt,aK Zo F]
  rw[<-ak _ Zo]at cG
  have cx:bD X h j be bk:=⟨Zo,λe F=>by rw[ak e Zo];exact mY.ad e F⟩
  clear gt ak er
  refine gm (j8 (o:=1) (b:=j) (V:=0) (n:=1) cG aL rfl Zd Zd rfl) ?_
  generalize h7:bn X be j _=bU
  have d3:Z X bU j=some (.cells (dP (R.ofList [.cM] 0 .nil) 0 [.cM]) 1 .own):=by rw[<-h7,bv aL];rfl
  have aA:∀e,e≠j->Z X bU e=Z X be e:=λe F=>by rw[<-h7,aK aL F]
  rw[<-aA _ Zo]at eV
  have dz:bD X h j bU bk:=⟨Zo,λe F=>by rw[aA e Zo];exact cx.ad e F⟩
  clear h7 aA cG cx
  refine sz (bS eV) ⟨?_⟩
  refine iY (by simp[z.same,pv,oY]) ?_
  refine gm (j8 (o:=2) (b:=j+1) (V:=0) (n:=2) eV Zo rfl Zd Zd rfl) ?_
  refine atq (v:= .cM) (w:= .agg [.Z 20, .Z D]) rfl (gC) (gC) ?_ ?_ ⟨rfl,bD.set dz Zo aL Zo⟩
  ·rw[bS (by rw[aK Zo Zo];exact d3),nq];rfl
  ·rw[qQ,bS (bv Zo),bS (bv Zo),nq,nq];rfl
 |ok aN=>
  obtain⟨am,bE,rfl,cW,awp,awq⟩:=vw
  simp only[]at U
  have Oz:decide ((0:Int)≠0)=false:=rfl
  refine cr @Oz ⟨?_⟩
  generalize gt:bn X aT (j+1) _=be
  have eV:Z X be (j+1)=zC [.Z 0, .Z 0] 2:=by rw[<-gt,bv Zo];rfl
  have ak:∀e,e≠j+1->Z X be e=Z X aT e:=λe F=>by rw[<-gt,aK Zo F]
  rw[<-ak _ Zo]at cG
  have cx:bD X h j be bk:=⟨Zo,λe F=>by rw[ak e Zo];exact mY.ad e F⟩
  have yX:=cW.ad (S:=be) (λe F=>by subst F;exact ak e Zo)
  clear gt ak er
  refine ajs ?_
  obtain⟨bA,cg,eN⟩:=lA cW.len
  refine cV ⟨?_⟩
  have ke:fd [.aV, .Z 0] [(0,1,am)]=some (.agg [am, .Z 0]):=by
   simp[fd,tD,tE,bA,nk]
  refine gm ke ?_
  refine cV ⟨?_⟩
  generalize m1:AC _ _=DH
  have k8:DH.aW=[⟨.fn (.func 18) [.ptr j 0, .ptr (j+1) 0],[]⟩]:=by rw[<-m1];rfl
  have eY:DH.g 2=some (.ptr j 0):=by rw[<-m1];rfl
  have t3:DH.g 3=some (.ptr (j+1) 0):=by rw[<-m1];rfl
  have We:∀k,r0 2 k=false->(hx k DH).g 2=some (.ptr j 0):=λk a=>by simp[wC,eY,a]
  have Wf:∀k,r0 3 k=false->(hx k DH).g 3=some (.ptr (j+1) 0):=λk a=>by simp[wC,t3,a]
  have V8:∀k,(hx k DH).aW=[⟨.fn (.func 18) [.ptr j 0, .ptr (j+1) 0],[]⟩]:=λk=>k8
  clear m1
  refine e1 (λbU=>Z X bU bk=zC [am, .Z ((0:Nat):Int)] 2/\bD X be bk bU (bk+1)) ⟨by rw[bv Zo];rfl,dL⟩ ?_
  rintro bU ⟨d3,wO⟩
  have eD:=adI s _ _ _ _ Zs (GD s _ _ Zo) Ig
  have aog:aS X bU bk bE aN 0:=⟨⟨_,am,d3,rfl,rfl,yX.ad λe F=>by subst F;exact wO.ad e Zo⟩,Zo⟩
  have aoj:h1 X bU (bk+1) bk bE aN 0:=⟨Zo,Zo,Zo,Zo,Zo,aog⟩
  obtain⟨Jf,yY⟩:∃Jf,nodes n [] aN=some Jf:=by
   cases a:nodes n [] aN with
   |none=>rw[a]at U;cases U
   |some Jf=>exact⟨Jf,rfl⟩
  rw[yY]at U
  have cH:Z X bU j=zC [.cM] 1:=by rw[wO.ad _ Zo];exact cG
  have cB:Z X bU (j+1)=zC [.Z 0, .Z 0] 2:=by rw[wO.ad _ Zo];exact eV
  refine(asP aB.todR gj rK Zo aoj (r:=Jf) yY).mono ?_ ?_
  ·rintro v bY cw ⟨ax,i5,rfl,vr,_,dF⟩
   have iU:=dF.le
   simp only[]at U
   have dN:Z X bY j=zC [.cM] 1:=by rw[dF.ad _ Zo Zx];exact cH
   have fx:Z X bY (j+1)=zC [.Z 0, .Z 0] 2:=by rw[dF.ad _ Zo Zx];exact cB
   have aaj:∀e,e<j->Z X bY e=Z X h e:=λe F=>by rw[dF.ad e Zo Zx,wO.ad e Zo];exact cx.ad e F
   obtain⟨wt,_,_,_,rfl,XI,_⟩:=vr.prog
   have awr:=XI.1
   have aws:=XI.2
   refine sz @eY ⟨?_⟩
   refine gm (j8 (o:=1) (b:=j) (V:=0) (n:=1) dN aL rfl Zd Zd rfl) ?_
   generalize iS:bn X bY j _=ck
   have eA:Z X ck j=some (.cells (dP (R.ofList [.cM] 0 .nil) 0 [.ptr wt 0]) 1 .own):=by rw[<-iS,bv aL];rfl
   have bV:∀e,e≠j->Z X ck e=Z X bY e:=λe F=>by rw[<-iS,aK aL F]
   clear iS
   have l4:aR X ck (.ptr j 0)=some (.ptr wt 0):=by rw[bS eA,nq];rfl
   refine sz @eY ⟨?_⟩
   refine sz @l4 ⟨?_⟩
   have aok:=vr.ad (S:=ck) (bh:=ec (bk+1) cw) (λe F=>bV e (zy F.1)) (λ_ a=>a)
   have lQ:Z X ck (j+1)=zC [.Z 0, .Z 0] 2:=by rw[bV _ Zo];exact fx
   refine(aqQ (j:=cw) (h:=ck) aB.todR Zo aok.prog (λe F=>F.2)).mono ?_ ?_
   ·rintro Ju cC e6 ⟨oC,rfl,fa⟩
    have qM:=fa.le
    rw[oC]at U
    simp only[Ze]at U
    subst U
    have h4:Z X cC j=some (.cells (dP (R.ofList [.cM] 0 .nil) 0 [.ptr wt 0]) 1 .own):=by rw[fa.ad _ Zo];exact eA
    have AD:Z X cC (j+1)=zC [.Z 0, .Z 0] 2:=by rw[fa.ad _ Zo];exact lQ
    have lJ:aR X cC (.ptr j 0)=some (.ptr wt 0):=by rw[bS h4,nq];rfl
    refine sz @eY ⟨?_⟩
    refine sz @lJ ⟨?_⟩
    refine hy ⟨?_⟩
    refine sz @eY ⟨?_⟩
    refine gm (j8 (o:=1) (b:=j) (V:=0) (n:=1) h4 aL rfl Zd Zd rfl) ?_
    generalize tP:bn X cC j _=dS
    have ot:Z X dS j=some (.cells (dP (dP (R.ofList [.cM] 0 .nil) 0 [.ptr wt 0]) 0 [.ptr wt 0]) 1 .own):=by rw[<-tP,bv aL];rfl
    have eg:∀e,e≠j->Z X dS e=Z X cC e:=λe F=>by rw[<-tP,aK aL F]
    rw[<-eg _ Zo]at AD
    clear tP
    refine sz @t3 ⟨?_⟩
    refine gm (j8 (o:=2) (b:=j+1) (V:=0) (n:=2) AD Zo rfl Zd Zd rfl) ?_
    have nK:∀cE e,e≠j->e≠j+1->e<cw->Z X (bn X dS (j+1) cE) e=Z X bY e:=λcE e I M ak=>by
     rw[aK Zo M,eg e I,fa.ad e ak,bV e I]
    refine atr (v:= .ptr wt 0) (w:= .agg [.Z 0, .Z 0]) aB.todR k8 eY t3 ?_ ?_ ⟨⟨.ptr wt 0,rfl,vr.ad (λe F=>nK _ e (zy F.1) (zy F.1) F.2) (λe F=>⟨zy F.1,zy F.2⟩)⟩,⟨Zo,λe F=>by rw[nK _ e Zo Zo Zo];exact aaj e F⟩⟩
    ·rw[bS (by rw[aK Zo Zo];exact ot),nq];rfl
    ·rw[qQ,bS (bv Zo),bS (bv Zo),nq,nq];rfl
   ·rintro aa cC e6 ⟨o,D,oC,rfl,fa⟩
    have qM:=fa.le
    rw[oC]at U
    simp only[Ze]at U
    subst U
    refine acE (dv:=dP (R.ofList [.cM] 0 .nil) 0 [.ptr wt 0]) (dK:=R.ofList [.Z 0, .Z 0] 0 .nil) aB.todR (V8 _) (We _ rfl) (Wf _ rfl) aL Zo Zo Zo Zo ?_ ?_ (λS aQ f8 aG=>⟨rfl,Zo,λe F=> ?_⟩)
    ·rw[fa.ad _ Zo];exact eA
    ·rw[fa.ad _ Zo];exact lQ
    ·rw[aG e Zo Zo Zo,fa.ad e Zo,bV e Zo];exact aaj e F
  ·rintro aa bY cw ⟨D,rfl,rfl,dF⟩
   have iU:=dF.le
   simp only[Ze]at U
   subst U
   refine acE (dv:=R.ofList [.cM] 0 .nil) (dK:=R.ofList [.Z 0, .Z 0] 0 .nil) aB.todR (V8 _) (We _ rfl) (Wf _ rfl) aL Zo Zo Zo Zo ?_ ?_ (λS aQ f8 aG=>⟨rfl,Zo,λe F=> ?_⟩)
   ·rw[dF.ad _ Zo Zx];exact cH
   ·rw[dF.ad _ Zo Zx];exact cB
   ·rw[aG e Zo Zo Zo,dF.ad e Zo Zx,wO.ad e Zo];exact cx.ad e F
end
end
end Go.Proofs.YtbbkkkpgjaopkaaGreatDoor

namespace Go.aS
def gX:List Tok->Prop
 |[]=>False
 |x::k=>x.kind=7/\x.text=[]\/gX k
def gX.mL{x:Tok}{k:List Tok}(a:gX (x::k))(af:x.kind≠7):gX k:=a.resolve_left λo=>af o.1
def dJ{α:Type}(b:Nat)(bh:α->Prop)(x:fP α):Prop:=∃r,x=some r/\∀D b6,r= .ok (D,b6)->gX b6/\b6.length<b/\bh D
def pO(B:bx):Prop:=B.kind=4->B.args≠[]
def dJ.mono{α:Type}{b dT:Nat}{bh qy:α->Prop}{x:fP α}(a:dJ b bh x)(aj:b<=dT)(bJ:∀D,bh D->qy D):dJ dT qy x:=by
 obtain⟨r,I,M⟩:=a
 exact⟨r,I,λD b6 B=>by obtain⟨bM,cq,df⟩:=M D b6 B;exact⟨bM,Zo,bJ D df⟩⟩
def dJ.ok{α:Type}{b:Nat}{bh:α->Prop}{D:α}{k:List Tok}(I:gX k)(M:k.length<b)(ak:bh D):dJ b bh (aS.ok D k):=⟨_,rfl,λfK b6 B=>by cases B;exact⟨I,M,ak⟩⟩
def dJ.bad{α:Type}{b:Nat}{bh:α->Prop}(D:Int):dJ b bh (aS.bad D:fP α):=⟨_,rfl,λfK b6 B=>by cases B⟩
def dJ.andThen{α d8:Type}{b dT:Nat}{bh:α->Prop}{qy:d8->Prop}{x:fP α}{f:α->List Tok->fP d8}(a:dJ b bh x)(o:∀D b6,gX b6->b6.length<b->bh D->dJ dT qy (f D b6)):dJ dT qy (aS.andThen x f):=by
 obtain⟨r,rfl,M⟩:=a
 cases r with
 |error D=>exact⟨_,rfl,λfK b6 B=>by cases B⟩
 |ok p=>
  obtain⟨D,b6⟩:=p
  obtain⟨bM,cq,df⟩:=M D b6 rfl
  exact o D b6 bM cq df
def Sz{x:Tok}{s:bc}(a:gI x s=true):x.kind≠7:=by
 intro B;simp[gI,B]at a
def nn{s:bc}{k:List Tok}(a:gX k):dJ k.length (λ_=>True) (ed s k):=by
 cases k with
 |nil=>exact a.elim
 |cons x k=>
  simp only[ed]
  split
  ·rename_i aD;exact dJ.ok (a.mL (Sz aD)) Zs trivial
  ·exact dJ.bad _
def ul{o:Int}(aG:o≠7){k:List Tok}(a:gX k):dJ k.length (λx:Tok=>True) (ib o k):=by
 cases k with
 |nil=>exact a.elim
 |cons x k=>
  simp only[ib]
  split
  ·rename_i aD;exact dJ.ok (a.mL Zo) Zs trivial
  ·exact dJ.bad _
def pG{d8:Type}{s:bc}{k:List Tok}{f:Option Tok->List Tok->fP d8}{b:Nat}{bh:d8->Prop}(a:gX k)(I:∀x b6,gX b6->b6.length+1=k.length->dJ b bh (f (some x) b6))(M:dJ b bh (f none k)):dJ b bh (hO s k f):=by
 cases k with
 |nil=>exact a.elim
 |cons x k=>
  unfold hO lC
  by_cases aD:gI x s=true
  ·simp only[aD,ZE];exact I x k (a.mL (Sz aD)) Zs
  ·simp only[aD,ZD];exact M
def VF{k:List Tok}(a:gX k):∀os:List (bc×Int),∃B b6,oh os k=some (B,b6)/\(B=none/\b6=k\/∃x,B=some x/\gX b6/\b6.length+1=k.length):=by
 cases k with
 |nil=>exact a.elim
 |cons x k=>
  intro os
  induction os with
  |nil=>exact⟨_,_,rfl, .inl ⟨rfl,rfl⟩⟩
  |cons V os ah=>
   obtain⟨s,o⟩:=V
   unfold oh lC
   by_cases aD:gI x s=true
   ·simp only[aD,ZE];exact⟨_,_,rfl, .inr ⟨_,rfl,a.mL (Sz aD),Zs⟩⟩
   ·simp only[aD,ZD]
    exact ah
structure aem(n:Nat):Prop where
 level:∀o k,o<=5->gX k->13*k.length+9-o<=n->dJ k.length pO (level n o k)
 oP:∀o B k,o<=4->gX k->pO B->13*k.length+1<=n->dJ (k.length+1) pO (oP n o B k)
 shift:∀k,gX k->13*k.length+3<=n->dJ k.length pO (shift n k)
 oZ:∀B k,gX k->pO B->13*k.length+1<=n->dJ (k.length+1) pO (oZ n B k)
 o0:∀o x B k,o≠4->gX k->13*k.length+1<=n->dJ k.length pO (o0 n o x B k)
 s9:∀k,gX k->13*k.length+2<=n->dJ k.length pO (vO n k)
 mN:∀B k,gX k->pO B->13*k.length+1<=n->dJ (k.length+1) pO (mN n B k)
 part:∀k,gX k->13*k.length+1<=n->dJ k.length pO (part n k)
 list:∀k,gX k->13*k.length+12<=n->dJ k.length (λ_=>True) (list n k)
 oQ:∀cf k,gX k->13*k.length+1<=n->dJ k.length (λ_=>True) (oQ n cf k)
 lm:∀k,gX k->13*k.length+10<=n->dJ k.length pO (lm n k)
 arrow:∀k,gX k->13*k.length+11<=n->dJ k.length pO (arrow n k)
def ti{B:bx}(a:B.kind≠4):pO B:=λo=>absurd o a
def Tb{B:bx}(a:B.args≠[]):pO B:=λ_=>a
def gX.pos{k:List Tok}(a:gX k):0<k.length:=by cases k with
 |nil=>exact a.elim
 |cons x k=>simp
def ah8:∀n,aem n:=by
 intro n
 induction n with
 |zero=>constructor<;>(intros;rename_i a _ _;omega)
 |succ n ah=>
  constructor
  case level=>
   intro o k aG az aL
   have:=az.pos
   rw[level]
   split
   ·exact ah.shift k az Zo
   ·refine(ah.level (o+1) k Zo az Zo).andThen λB b6 I M ak=> ?_
    exact(ah.oP o B b6 Zo I ak Zo).mono Zo λ_ a=>a
  case oP=>
   intro o B k aG az bl aL
   have:=az.pos
   rw[oP]
   obtain⟨V,b6,I,M⟩:=VF az (ao o)
   rw[I]
   rcases M with ⟨rfl,rfl⟩|⟨x,rfl,ak,aA⟩
   ·exact dJ.ok az Zo bl
   ·simp only[]
    refine(ah.level (o+1) b6 Zo ak Zo).andThen λr c4 bM cq df=> ?_
    split
    ·exact dJ.ok bM Zo (Tb (by simp[two,bx.args]))
    ·exact(ah.oP o _ c4 aG bM (Tb (by simp[two,bx.args])) Zo).mono Zo λ_ a=>a
  case shift=>
   intro k az aL
   have:=az.pos
   rw[shift]
   refine(ah.s9 k az Zo).andThen λB b6 I M ak=> ?_
   exact(ah.oZ B b6 I ak Zo).mono Zo λ_ a=>a
  case oZ=>
   intro B k az bl aL
   have:=az.pos
   rw[oZ]
   refine pG az (λx b6 I M=>(ah.o0 19 x B b6 Zd I Zo).mono Zo λ_ a=>a) ?_
   refine pG az (λx b6 I M=>(ah.o0 20 x B b6 Zd I Zo).mono Zo λ_ a=>a) ?_
   exact dJ.ok az Zo bl
  case o0=>
   intro o x B k aG az aL
   have:=az.pos
   rw[o0]
   refine(ul Zd az).andThen λm b6 I M ak=> ?_
   split
   ·exact dJ.bad _
   ·exact(ah.oZ _ b6 I (ti (by simpa[bx.kind]using aG)) Zo).mono Zo λ_ a=>a
  case s9=>
   intro k az aL
   have:=az.pos
   rw[vO]
   obtain⟨V,b6,I,M⟩:=VF az xy
   rw[I]
   rcases M with ⟨rfl,rfl⟩|⟨x,rfl,ak,aA⟩
   ·simp only[]
    refine(ah.part b6 az Zo).andThen λB c4 bM cq df=> ?_
    exact(ah.mN B c4 bM df Zo).mono Zo λ_ a=>a
   ·simp only[]
    refine(ah.s9 b6 ak Zo).andThen λB c4 bM cq df=> ?_
    exact dJ.ok bM Zo (Tb (by simp[bx.args]))
  case mN=>
   intro B k az bl aL
   have:=az.pos
   rw[mN]
   refine pG az (λx b6 I M=> ?_) (dJ.ok az Zo bl)
   have:=I.pos
   refine pG I (λe c4 bM cq=> ?_) ?_
   ·refine(ul Zd bM).andThen λm eT d4 fk iH=> ?_
    exact(ah.mN _ eT d4 (ti (by simp[bx.kind])) Zo).mono Zo λ_ a=>a
   ·refine(ul Zd I).andThen λm eT d4 fk iH=> ?_
    exact(ah.mN _ eT d4 (ti (by simp[bx.kind])) Zo).mono Zo λ_ a=>a
  case list=>
   intro k az aL
   have:=az.pos
   rw[list]
   refine pG az (λx b6 I M=>dJ.ok I Zo trivial) ?_
   refine(ah.arrow k az Zo).andThen λB c4 bM cq df=> ?_
   exact(ah.oQ _ c4 bM Zo).mono Zo λ_ a=>a
  case oQ=>
   intro cf k az aL
   have:=az.pos
   rw[oQ]
   refine pG az (λx b6 I M=> ?_) ?_
   ·refine(ah.arrow b6 I Zo).andThen λB c4 bM cq df=> ?_
    exact(ah.oQ _ c4 bM Zo).mono Zo λ_ a=>a
   ·exact(nn az).andThen λ_ b6 I M _=>dJ.ok I Zo trivial
  case lm=>
   intro k az aL
   have:=az.pos
   rw[lm]
   refine(ah.level 0 k Zo az Zo).andThen λB c4 bM cq df=> ?_
   refine pG bM (λx b6 I M=> ?_) (dJ.ok bM Zo df)
   have sL:s0 B≠none:=by
    unfold s0
    split
    ·simp
    ·split
     ·rename_i aA
      have:=df aA
      cases aC:B.args with
      |nil=>exact absurd aC this
      |cons D k=>simp
     ·simp
   simp only[]
   split
   ·rename_i a;exact absurd a sL
   ·refine(ah.lm b6 I Zo).andThen λr eT d4 fk iH=> ?_
    exact dJ.ok d4 Zo (ti (by simp[bx.kind]))
   ·exact dJ.bad _
  case arrow=>
   intro k az aL
   have:=az.pos
   rw[arrow]
   refine(ah.lm k az Zo).andThen λB c4 bM cq df=> ?_
   refine pG bM (λx b6 I M=> ?_) (dJ.ok bM Zo df)
   refine(ah.arrow b6 I Zo).andThen λr eT d4 fk iH=> ?_
   exact dJ.ok d4 Zo (ti (by simp[bx.kind]))
  case part=>
   intro k az aL
   cases k with
   |nil=>exact az.elim
   |cons x k=>
   simp only[ZG]at aL
   rw[part]
   have eD:(x::k).length=k.length+1:=rfl
   rw[eD]
   by_cases jD:x.kind=5
   ·rw[Zp jD]
    exact dJ.ok (az.mL Zo) Zo (ti (by simp[bx.kind]))
   rw[Zg jD]
   split
   ·rename_i a
    have:x.kind=2:=by simp at a;exact a.1
    exact dJ.ok (az.mL Zo) Zo (ti (by simp[bx.kind]))
   by_cases dv:x.kind=1
   ·rw[Zp dv]
    have gY:=az.mL Zo
    refine pG gY (λe c4 I M=> ?_) (dJ.ok gY Zo (ti (by simp[bx.kind])))
    refine(ah.list c4 I Zo).andThen λcf eT d4 fk iH=> ?_
    exact dJ.ok d4 Zo (ti (by simp[bx.kind]))
   rw[Zg dv]
   by_cases gM:x.kind=3
   ·rw[Zp gM]
    have gY:=az.mL Zo
    refine(nn gY).andThen λ_ c4 I M _=> ?_
    refine(ah.arrow c4 I Zo).andThen λB eT d4 fk iH=> ?_
    refine(nn d4).andThen λ_ gE fg hc _=> ?_
    exact dJ.ok fg Zo (ti (by simp[bx.kind]))
   rw[Zg gM]
   split
   ·rename_i a
    have:x.kind=6:=by simp at a;exact a.1
    have gY:=az.mL Zo
    refine(ah.arrow k gY Zo).andThen λB eT d4 fk iH=> ?_
    refine(nn d4).andThen λ_ gE fg hc _=> ?_
    exact dJ.ok fg Zo iH
   split
   ·rename_i a
    have:x.kind=2:=by simp at a;exact a.1
    have gY:=az.mL Zo
    refine(ah.arrow k gY Zo).andThen λB eT d4 fk iH=> ?_
    refine(nn d4).andThen λ_ gE fg hc _=> ?_
    refine(ah.arrow gE fg Zo).andThen λcg gg cH cB dN=> ?_
    refine(nn cH).andThen λ_ l4 eX fD _=> ?_
    refine(ah.arrow l4 eX Zo).andThen λeN lJ iX k5 Sv=> ?_
    exact dJ.ok iX Zo (ti (by simp[bx.kind]))
   split
   ·rename_i a
    have:x.kind=2:=by simp at a;exact a.1
    have gY:=az.mL Zo
    refine(ul Zd gY).andThen λc c4 I M _=> ?_
    refine(ah.part c4 I Zo).andThen λB eT d4 fk iH=> ?_
    refine(ah.part eT d4 Zo).andThen λcg gE fg hc vM=> ?_
    exact dJ.ok fg Zo (ti (by simp[bx.kind]))
   ·exact dJ.bad _
def acg:∀(n:Nat) (cf k:List Tok),gX k->k.length<=n->dJ k.length (λ_=>True) (qS n cf k):=by
 intro n
 induction n with
 |zero=>intro cf k a aL;have:=a.pos;omega
 |succ n ah=>
  intro cf k a aL
  rw[qS]
  refine(ul Zd a).andThen λx c4 I M _=> ?_
  refine pG I (λe eT bM cq=>(ah _ eT bM Zo).mono Zo λ_ a=>a) (dJ.ok I Zo trivial)
def ajo{w:Option Tok}{k:List Tok}(a:gX k):dJ (k.length+1) (λ_=>True) (yn w k):=by
 cases w with
 |none=>exact dJ.ok a Zo trivial
 |some w=>
  simp only[yn]
  refine pG a (λe c4 bM cq=> ?_) ?_
  ·exact(ul Zd bM).andThen λx eT d4 fk _=>dJ.ok d4 Zo trivial
  ·exact(ul Zd a).andThen λx eT d4 fk _=>dJ.ok d4 Zo trivial
def OB:∀(n:Nat) (loc:Bool) (ds:List ep) (k:List Tok),gX k->k.length+1<=n->dJ k.length (λ_=>True) (iA n loc ds k):=by
 intro n
 induction n with
 |zero=>intro loc ds k a aL;omega
 |succ n ah=>
  intro loc ds k a aL
  rw[iA]
  refine(acg n [] k a Zo).andThen λb9 c4 I M _=> ?_
  unfold Bh
  refine(nn I).andThen λ_ eT bM cq _=> ?_
  refine(ul Zd bM).andThen λt gE d4 fk _=> ?_
  have fin:∀w gg,gX gg->gg.length<=gE.length->dJ k.length (λ_=>True) (andThen (yn w gg) λr k=>wy loc (iA n loc) (ds++b9.map (pf t.ty r.1 r.2.1 r.2.2)) k):=by
   intro w gg fg hc
   refine(ajo fg).andThen λr l4 cH cB _=> ?_
   unfold wy
   cases l4 with
   |nil=>exact cH.elim
   |cons e lJ=>
    simp only[xN,ZG]at cB ⊢
    split
    ·rename_i aD
     have dN:gX lJ:=cH.resolve_left λo=>by rw[o.2]at aD;cases aD
     split
     ·cases lJ with
      |nil=>exact dN.elim
      |cons br nR=>
       simp only[xN]
       split
       ·exact dJ.ok cH (by simp at cB ⊢;omega) trivial
       ·exact(ah _ _ (br::nR) dN (by simp at cB ⊢;omega)).mono (by simp at cB ⊢;omega) λ_ a=>a
     ·exact(ah _ _ lJ dN Zo).mono Zo λ_ a=>a
    ·exact dJ.ok cH Zx trivial
  refine pG d4 (λe gg fg hc=>fin _ gg fg Zo) (fin _ gE d4 Zo)
def akd{n:Nat}{k:List Tok}(a:gX k)(aL:13*k.length+12<=n):dJ k.length (λ_=>True) (tC n k):=by
 unfold tC
 have fin:∀(x:fP (List Tok)),dJ (k.length+1) (λ_=>True) x->dJ k.length (λ_=>True) (andThen x λb9 k=>andThen (ed [61] k) λB k=>andThen (arrow n k) λr k=>andThen (ed [59] k) λ_ k=>ok (⟨b9.map Tok.text,b9.map Tok.at_,B.at_,r⟩:eL) k):=by
  intro x af
  refine af.andThen λb9 c4 I M _=> ?_
  refine(nn I).andThen λ_ eT bM cq _=> ?_
  refine((ah8 n).arrow eT bM Zo).andThen λB gE d4 fk _=> ?_
  exact(nn d4).andThen λ_ gg fg hc _=>dJ.ok fg Zo trivial
 refine pG a (λe c4 I M=>fin _ ?_) (fin _ ?_)
 ·refine(ul Zd I).andThen λx eT bM cq _=> ?_
  refine(nn bM).andThen λ_ gE d4 fk _=> ?_
  refine(acg n _ gE d4 Zo).andThen λb9 gg fg hc _=> ?_
  exact(nn fg).andThen λ_ l4 cH cB _=>dJ.ok cH Zo trivial
 ·exact(ul Zd a).andThen λx eT bM cq _=>dJ.ok bM Zo trivial
def aki:∀(n:Nat) (b8:List eL) (k:List Tok),gX k->13*k.length+13<=n->dJ k.length (λ_=>True) (ll n b8 k):=by
 intro n
 induction n with
 |zero=>intro b8 k a aL;omega
 |succ n ah=>
  intro b8 k a aL
  rw[ll]
  refine pG a (λe c4 I M=>dJ.ok I Zo trivial) ?_
  refine(akd a Zo).andThen λal c4 I M _=> ?_
  exact(ah _ c4 I Zo).mono Zo λ_ a=>a
def arO{n:Nat}{k:List Tok}(a:gX k)(aL:13*k.length+13<=n):dJ k.length (λ_=>True) (node n k):=by
 unfold node
 refine(nn a).andThen λ_ c4 I M _=> ?_
 refine(ul Zd I).andThen λx eT bM cq _=> ?_
 refine(nn bM).andThen λ_ gE d4 fk _=> ?_
 have akx:∀eh out gg,gX gg->gg.length<gE.length->dJ k.length (λ_=>True) (hO [118,97,114] gg λe k=>andThen (match e with
  |some _=>andThen (iA n true [] k) λds k=>andThen (ed [59] k) λ_ k=>ok ds k
  |none=>ok [] k) λloc k=>
  andThen (ed [108,101,116] k) λ_ k=>andThen (ll n [] k) λb8 k=>ok (⟨x.text,x.at_,eh,out,loc,b8⟩:Node) k):=by
  intro eh out gg fg hc
  have WH:∀(br:fP (List ep)),dJ (gg.length+1) (λ_=>True) br->dJ k.length (λ_=>True) (andThen br λloc k=>
   andThen (ed [108,101,116] k) λ_ k=>andThen (ll n [] k) λb8 k=>ok (⟨x.text,x.at_,eh,out,loc,b8⟩:Node) k):=by
   intro br ce
   refine ce.andThen λloc l4 cH cB _=> ?_
   refine(nn cH).andThen λ_ lJ eX fD _=> ?_
   refine(aki n _ lJ eX Zo).andThen λb8 nR iX k5 _=> ?_
   exact dJ.ok iX Zo trivial
  refine pG fg (λe l4 cH cB=>WH _ ?_) (WH _ (dJ.ok fg Zo trivial))
  refine(OB n _ _ l4 cH Zo).andThen λds lJ eX fD _=> ?_
  exact(nn eX).andThen λ_ nR iX k5 _=>dJ.ok iX Zo trivial
 have WG:∀(br:fP (List ep)),dJ (gE.length+1) (λ_=>True) br->dJ k.length (λ_=>True) (andThen br λeh k=>
  andThen (ed [114,101,116,117,114,110,115] k) λ_ k=>andThen (ed [40] k) λ_ k=>andThen (iA n false [] k) λout k=>andThen (ed [41] k) λ_ k=>
  hO [118,97,114] k λe k=>andThen (match e with
  |some _=>andThen (iA n true [] k) λds k=>andThen (ed [59] k) λ_ k=>ok ds k
  |none=>ok [] k) λloc k=>
  andThen (ed [108,101,116] k) λ_ k=>andThen (ll n [] k) λb8 k=>ok (⟨x.text,x.at_,eh,out,loc,b8⟩:Node) k):=by
  intro br ce
  refine ce.andThen λeh gg fg hc _=> ?_
  refine(nn fg).andThen λ_ l4 cH cB _=> ?_
  refine(nn cH).andThen λ_ lJ eX fD _=> ?_
  refine(OB n _ _ lJ eX Zo).andThen λout nR iX k5 _=> ?_
  refine(nn iX).andThen λ_ rW t1 eY _=> ?_
  exact akx eh out rW t1 Zo
 refine pG d4 (λe gg fg hc=>WG _ (dJ.ok fg Zo trivial)) (WG _ ?_)
 refine(OB n _ _ gE d4 Zo).andThen λds lJ eX fD _=> ?_
 exact(nn eX).andThen λ_ nR iX k5 _=>dJ.ok iX Zo trivial
def arQ:∀(n:Nat) (ax:List Node) (k:List Tok),gX k->13*k.length+14<=n->dJ k.length (λ_=>True) (nodes n ax k):=by
 intro n
 induction n with
 |zero=>intro ax k a aL;omega
 |succ n ah=>
  intro ax k a aL
  rw[nodes]
  refine(arO a Zo).andThen λg c4 I M _=> ?_
  cases c4 with
  |nil=>exact I.elim
  |cons x eT=>
   simp only[]
   split
   ·exact dJ.ok I Zo trivial
   ·exact(ah _ _ I Zo).mono Zo λ_ a=>a
end Go.aS

namespace Go.Proofs.YtbbkkkpgjaopkaaGreatDoor
open Go.bp Go.aS
def gX.snoc{x:Tok}(I:x.kind=7)(M:x.text=[]):∀k:List Tok,gX (k++[x]):=by
 intro k
 induction k with
 |nil=>exact .inl ⟨I,M⟩
 |cons e k ah=>exact .inr ah
def au9(s:bc):∀(n:Nat) (aN:List Tok) (i:Nat),i<=s.length->s.length<i+n->∃r,qr s n aN i=some r/\∀mf,r= .ok mf->gX mf:=by
 intro n
 induction n with
 |zero=>intro aN i I M;omega
 |succ n ah=>
  intro aN i I M
  rw[qr]
  split
  ·cases af:vX s i with
   |none=>exact⟨_,rfl,λmf a=>by cases a⟩
   |some x=>
    obtain⟨bM,cq⟩:=S3 af
    have df:=Ob s s.length (i+x.text.length)
    exact ah _ _ (GD s _ _ cq) Zo
  ·exact⟨_,rfl,λmf a=>by cases a;exact gX.snoc rfl rfl _⟩
def asr{s:bc}(aD:s.length<=5000):∃r,Ay s 170000=some r:=by
 unfold Ay
 obtain⟨r,I,M⟩:=au9 s (s.length+1) [] (nA s s.length 0) (GD s _ _ Zo) Zo
 rw[I]
 cases r with
 |error D=>exact⟨_,rfl⟩
 |ok aN=>
  simp only[]
  have eD:=adI s _ _ _ _ Zs (GD s _ _ Zo) I
  obtain⟨r,ak,_⟩:=arQ 170000 [] aN (M aN rfl) Zo
  rw[ak]
  cases r with
  |error D=>exact⟨_,rfl⟩
  |ok p=>
   obtain⟨ax,k⟩:=p
   simp only[]
   cases l5 ax with
   |none=>exact⟨_,rfl⟩
   |some al=>exact⟨_,rfl⟩
noncomputable def Ax(s:bc):Except (Int×Int) (List Go.aS.Node):=match Ay s 170000 with
 |some r=>r
 |none=> .error (0,0)
def acH{s:bc}(aD:s.length<=5000):Ay s 170000=some (Ax s):=by
 obtain⟨r,a⟩:=asr aD
 unfold Ax
 rw[a]
variable{X:cn}{h:R ag}{j:Nat}
def R6(aB:ix X)(eo:Gj X)(gj:uI X){s:bc}(aD:s.length<=5000)(aj:∀c∈s,c<256)(aL:(q X).a6<=j){a0:z}(az:gl a0=some (.Z (s.length:Int)))(wW:∀S aQ,bD X h j S aQ->ym X S a0=some (.str s)):
 a7 X 5 [a0] h j (λaa S aq=>Tq X j (Ax s) aa S aq/\bD X h j S aq) zK:=
 ast aB eo gj (Zi _) Zo aj aL az wW (acH aD)
end Go.Proofs.YtbbkkkpgjaopkaaGreatDoor

namespace Go.Proofs.YtbbkkkpgjaopkaaGreatDoor
open Go.bp Go.aS
noncomputable section
def sx(nm:bc):Nat->List Go.aS.Node->Option Nat
 |_,[]=>none
 |o,g::k=>if g.name=nm then some o else sx nm (o+1) k
def pj(ax:List Go.aS.Node)(nm:bc):Option Nat:=sx nm 0 ax
section
variable{X:cn}{h S a1 aT:R ag}{j aq aP bk:Nat}{P:Nat->Prop}{ax:List Go.aS.Node}
def apM(aB:dR X){g:Go.aS.Node}{row:List z}(aL:(q X).a6<=j)(bX:qw X h P g row){c:Nat}{nm:bc}(ay:c<j)(vg:aR X h (.ptr c 0)=some (.str nm)):
 a7 X 73 [.agg row, .ptr c 0] h j (λaa S aq=>aa= .bool (decide (g.name=nm))/\bD X h j S aq) zK:=by
 refine zF aB (agK X) ?_
 rw[agL]
 unfold UG
 obtain⟨c1,dn,bf,ev,b0,cy,cT,fi,xG,rfl,_⟩:=bX
 refine cr @vg ⟨?_⟩
 exact⟨rfl,dL⟩
def apE(aB:dR X){bf:z}{cD:Nat}{ba:List (List z)}(aL:(q X).a6<=j)(cW:ee X h P cD bf 6 ba)(tZ:to X h P ax ba)(b1:∀e,P e->e<j){c:Nat}{nm:bc}(ay:c<j)(vg:aR X h (.ptr c 0)=some (.str nm)):
 a7 X 72 [bf, .func (.func 73) [] [.ptr c 0]] h j (λaa S aq=>aa= .Z (match pj ax nm with|some o=>(o:Int)|none=> -1)/\bD X h j S aq) zK:=by
 refine zF aB (agI X) ?_
 rw[agJ]
 unfold UF
 have pp:=tZ.wide
 have e3:=cW.len
 have kL:=cW.many
 rw[pp.1]at e3 kL
 refine cr @e3 ⟨?_⟩
 refine f6 (λm H S aQ=>∃(W:Nat),H.g 0=some bf/\H.g 1=some (.func (.func 73) [] [.ptr c 0])/\H.g 7=some (.Z (ax.length:Int))/\H.g 8=some (.Z (W:Int))/\W+m=ax.length/\bD X h j S aQ/\pj ax nm=sx nm W (ax.drop W))
  ax.length ⟨0,bC,bC,bC,gC,Zo,bD.refl _ _,rfl⟩ ?_
 rintro m H aT bk ⟨W,t0,t1,gT,hH,bB,cl,ch⟩
 have gP:=cl.le
 cases m with
 |zero=>
  have d:=zz W ax.length
  rw[ZH Zo]at ch
  refine eW @hH @gT @d ⟨?_⟩
  exact⟨by rw[ch];rfl,cl⟩
 |succ m=>
  have d:=zA W ax.length
  have bA:=zD W
  obtain⟨g,bX⟩:=zB ax W
  have aI:ax.drop W=g::ax.drop (W+1):=by
   obtain⟨af,F⟩:=Zb.1 bX
   rw[Zz af,F]
  obtain⟨row,fN,kM⟩:=tZ.get W g bX
  have aG:=λe (F:P e)=>cl.ad e (b1 e F)
  have d7:=cW.gZ W (by rw[pp.1];omega)
  have na:=(cW.ad aG).row Zd fN
  have amM:aR X aT (.ptr c 0)=some (.str nm):=zJ (cl.ad c ay) vg
  rw[aI,sx]at ch
  refine eQ @hH @gT @t1 @t0 @d @d7 @na ⟨?_⟩
  refine(apM aB Zo (kM.ad (bh:=P) aG (λ_ a=>a)) Zo amM).Zm ?_
  rintro aa be bF ⟨rfl,cx⟩
  by_cases jv:g.name=nm
  ·rw[Zp jv]at ch
   have cJ:decide (g.name=nm)=true:=by simp[jv]
   rw[cJ]
   refine cV ⟨?_⟩
   exact⟨by rw[ch],cl.trans cx⟩
  ·rw[Zg jv]at ch
   have cJ:decide (g.name=nm)=false:=by simp[jv]
   rw[cJ]
   refine dk @hH @bA ⟨?_⟩
   exact⟨m,Zo,W+1,aY t0,aY t1,aY gT,bC,Zo,cl.trans cx,ch⟩
def Wx(b:Nat):dc X h .eql 23 true (.ptr b 0) .cM=some .zF:=Zk
def ab6{C:aM}{h:R ag}(x:Int):rm C h .max [3,3] [.Z x, .Z 0]=some (.Z (max x 0)):=by
 show oe true (.Z x) [.Z 0]=_
 simp only[oe,eU,sU,ZE]
 congr 2
 simp only[Zh]
 split<;>omega
def WN(aB:dR X){v:z}(aL:(q X).a6<=j)(bX:tp X h P ax v)(b1:∀e,P e->e<j)(nm:bc):
 a7 X 40 [v, .str nm] h j (λaa S aq=>aa= .tuple [.Z (((pj ax nm).getD 0:Nat):Int), .bool (pj ax nm).isSome]/\bD X h j S aq) zK:=by
 refine zF aB (afR X) ?_
 rw[afS]
 unfold Ua
 obtain⟨b,bf,cD,ba,rfl,yH,a0,cW,tZ⟩:=bX
 have fV:=b1 b yH
 refine dk @Wx @a0 ⟨?_⟩
 refine e1 (λa1=>Z X a1 j=zC [.str nm] 1/\bD X h j a1 (j+1)) ⟨bv aL,dL⟩ ?_
 rintro a1 ⟨cb,b4⟩
 have aG:=λe (F:P e)=>b4.ad e (b1 e F)
 refine(apE (j:=j+1) (h:=a1) aB Zo (cW.ad aG) (tZ.ad (bh:=P) aG (λ_ a=>a)) (λe F=>zy (b1 e F)) Zo (by rw[bS cb];rfl)).Zm ?_
 rintro aa aT bk ⟨rfl,cl⟩
 cases ch:pj ax nm with
 |none=>
  refine cr @ab6 ⟨?_⟩
  exact⟨rfl,b4.trans cl⟩
 |some o=>
  have d:decide ((0:Int)<=(o:Int))=true:=zN
  have aX:max (o:Int) 0=(o:Int):=Zo
  refine eW @ab6 @d @aX ⟨?_⟩
  exact⟨rfl,b4.trans cl⟩
end
mutual
def th{ga:Type}(step:ga->bx->ga×Bool):ga->bx->ga
 |s, .mk o D nm no t n args=>if (step s (.mk o D nm no t n args)).2=true then pL step (step s (.mk o D nm no t n args)).1 args else(step s (.mk o D nm no t n args)).1
def pL{ga:Type}(step:ga->bx->ga×Bool):ga->List bx->ga
 |s,[]=>s
 |s,B::k=>pL step (th step s B) k
end
def avz{ga:Type}(step:ga->bx->ga×Bool)(s:ga)(B:bx):th step s B=if (step s B).2=true then pL step (step s B).1 B.args else(step s B).1:=by
 cases B;rw[th];rfl
def adp{B D:bx}(a:D∈B.args):SizeOf.sizeOf D<SizeOf.sizeOf B:=by
 cases B with
 |mk o at_ nm no t n args=>
  have cu:D∈args:=a
  have:=List.sizeOf_lt_of_mem cu
  simp
  omega
section
variable{X:cn}{h S a1 aT:R ag}{j aq aP bk:Nat}
def avC(aB:dR X){ga:Type}(step:ga->bx->ga×Bool)(P:Nat->Prop)(du:ga->R ag->Nat->Prop)(gx:R ag)(c7:bx->z->Prop)(io:∀B b bf cD bj,c7 B (.ptr b 0)->aR X gx (.ptr b 8)=some bf->ee X gx P cD bf 1 (bj.map λv=>[v])->dh X gx P B.args bj->∀(i:Nat) D w,B.args[i]? =some D->bj[i]? =some w->c7 D w)(o:Nat)(pi mX:List z)
 (qP:∀(s:ga) (B:bx) (v:z) (h:R ag) (j:Nat),du s h j->c7 B v->cm X h P B v->(∀e,P e->Z X h e=Z X gx e)->a7 X o ((pi++[v])++mX) h j (λaa S aq=>aa= .bool (step s B).2/\du (step s B).1 S aq/\∀e,P e->Z X S e=Z X h e) zK):
 ∀(N:Nat) (B:bx),SizeOf.sizeOf B<N->∀(s:ga) (v:z) (h:R ag) (j:Nat),du s h j->c7 B v->cm X h P B v->(∀e,P e->Z X h e=Z X gx e)->
  a7 X 26 [v, .func (.func o) pi mX] h j (λaa S aq=>aa= .tuple []/\du (th step s B) S aq/\∀e,P e->Z X S e=Z X h e) zK:=by
 intro N
 induction N with
 |zero=>intro B a;omega
 |succ N ah=>
  intro B jZ s v h j hg U bl Hx
  refine zF aB (TV X) ?_
  rw[TW]
  unfold NO
  obtain⟨b,bf,cD,bj,rfl,aj,_,_,_,_,_,_,_,_,kA,cW,has⟩:=id bl.open
  have e3:=cW.len
  have y1:=has.len
  rw[Zr,y1]at e3
  have kL:=cW.many
  rw[Zr,y1]at kL
  rw[avz]
  refine cr @I4 ⟨?_⟩
  refine(qP s B _ h j hg U bl Hx).Zm ?_
  rintro aa a1 aP ⟨rfl,Xw,jI⟩
  cases awy:(step s B).2 with
  |false=>
   refine cV ⟨?_⟩
   exact⟨rfl,Xw,jI⟩
  |true=>
   have Gs:aR X a1 (.ptr b 8)=some bf:=zJ (jI b aj) kA
   refine dk @Gs @e3 ⟨?_⟩
   refine f6 (λm H S aQ=>∃(W:Nat) (eP:ga),H.g 1=some (.func (.func o) pi mX)/\H.g 17=some bf/\H.g 18=some (.Z (B.args.length:Int))/\H.g 19=some (.Z (W:Int))/\W+m=B.args.length/\du eP S aQ/\(∀e,P e->Z X S e=Z X h e)/\pL step (step s B).1 B.args=pL step eP (B.args.drop W))
    B.args.length ⟨0,_,bC,bC,bC,gC,Zo,Xw,jI,rfl⟩ ?_
   rintro m H aT bk ⟨W,eP,t1,jN,iu,qZ,bB,yF,hh,bQ⟩
   cases m with
   |zero=>
    have d:=zz W B.args.length
    rw[ZH Zo,pL]at bQ
    refine eW @qZ @iu @d ⟨?_⟩
    exact⟨rfl,by simp only[ZE];rw[bQ];exact yF,hh⟩
   |succ m=>
    have d:=zA W B.args.length
    have bA:=zD W
    obtain⟨D,aC⟩:=zB B.args W
    have aI:B.args.drop W=D::B.args.drop (W+1):=by
     obtain⟨af,F⟩:=Zb.1 aC
     rw[Zz af,F]
    obtain⟨w,oI,PR⟩:=has.get W D aC
    obtain⟨cb,b5,cG⟩:=(cW.ad hh).one oI
    rw[aI,pL]at bQ
    refine eQ @qZ @iu @jN @t1 @d @cb @b5 ⟨?_⟩
    have d9:=adp (Zl aC)
    refine(ah D Zo eP w aT bk yF (io B b bf cD bj U (by rw[c6, <-Hx b aj, <-c6];exact kA) (cW.ad λe F=>(Hx e F).symm) (dh.ad (λe F=>(Hx e F).symm) _ _ has) W D w aC oI) (cm.ad hh _ _ PR) (λe F=>(hh e F).trans (Hx e F))).Zm ?_
    rintro aa be bF ⟨rfl,wS,lq⟩
    refine dk @qZ @bA ⟨?_⟩
    exact⟨m,Zo,W+1,_,aY t1,aY jN,aY iu,bC,Zo,wS,λe F=>by rw[lq e F,hh e F],bQ⟩
def avB(aB:dR X){ga:Type}(step:ga->bx->ga×Bool)(P:Nat->Prop)(du:ga->R ag->Nat->Prop)(o:Nat)(pi mX:List z)
 (qP:∀(s:ga) (B:bx) (v:z) (h:R ag) (j:Nat),du s h j->cm X h P B v->a7 X o ((pi++[v])++mX) h j (λaa S aq=>aa= .bool (step s B).2/\du (step s B).1 S aq/\∀e,P e->Z X S e=Z X h e) zK)
 (N:Nat)(B:bx)(jZ:SizeOf.sizeOf B<N)(s:ga)(v:z)(h:R ag)(j:Nat)(hg:du s h j)(bl:cm X h P B v):
  a7 X 26 [v, .func (.func o) pi mX] h j (λaa S aq=>aa= .tuple []/\du (th step s B) S aq/\∀e,P e->Z X S e=Z X h e) zK:=
 avC aB step P du h (λ_ _=>True) (λ_ _ _ _ _ _ _ _ _ _ _ _ _ _=>trivial) o pi mX (λs B v h j hg _ bl _=>qP s B v h j hg bl) N B jZ s v h j hg trivial bl (λ_ _=>rfl)
end
end
end Go.Proofs.YtbbkkkpgjaopkaaGreatDoor

