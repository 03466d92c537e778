/- Part of the last text; no conditions -/
import Derived.Test.YtehmapikajmjaaaGreatDoorYk
set_option maxHeartbeats 8000000
set_option linter.all false
namespace Go.Proofs.YtehmapikajmjaaaGreatDoor
open Go.aC Go.aj
noncomputable section
structure gU(X:bf):Prop where
 abB:∃b,∀j,ay X j (.ptr 5 0)=some (.iface 236 (.ptr b 0))
 seven:∃b,∀j,ay X j (.ptr 6 0)=some (.iface 236 (.ptr b 0))
section
variable{X:bf}{j S' am ah:B R}{k W ak ar dJ:Nat}{s:ax}{i:Nat}
def Pw:b0 X j .eql 138 false (.iface 205 (.Z 2)) (.iface 205 (.Z 2))=some .zV:=Zk
def Pv:b0 X j .eql 138 false (.iface 205 (.Z 1)) (.iface 205 (.Z 2))=some .zT:=Zk
def Pu:b0 X j .eql 138 false (.iface 205 (.Z 1)) (.iface 205 (.Z 1))=some .zV:=Zk
def s1(q:Int):b0 X j .neq 138 true (.iface 205 (.Z q)) .nilIface=some .zV:=Zk
def q7:b0 X j .neq 138 true .nilIface .nilIface=some .zT:=Zk
def G1(b:Nat):b0 X j .neq 138 true (.iface 207 (.ptr b 0)) .nilIface=some .zV:=Zk
def acn(a:e2 X)(d:gU X)(f:ax)(i:s.length<=65536)(g:∀c∈s,c<256)(l:(o X).aD<=k):
 az X 131 [.str f,.str s] j k (λM S' W=>(∃b,M=.ptr b 0)/\aT X j k S' W) zW:=by
 refine z6 a.tobW (J8 ..) ?_;unfold Cv;obtain⟨b,T⟩:=d.abB;refine bh @T ⟨?_⟩;refine qf (a.clone s g i) ?_;refine bh @T ⟨?_⟩;refine ed (by simp[y.same]) ?_;exact⟨⟨_,rfl⟩,b8⟩
def aaD(a:e2 X)(d:gU X)(f:ax)(i:s.length<=65536)(g:∀c∈s,c<256)(l:(o X).aD<=k):
 az X 132 [.str f,.str s] j k (λM S' W=>(∃b,M=.ptr b 0)/\aT X j k S' W) zW:=by
 refine z6 a.tobW (Ka ..) ?_;unfold Cw;obtain⟨b,T⟩:=d.seven;refine bh @T ⟨?_⟩;refine qf (a.clone s g i) ?_;refine bh @T ⟨?_⟩;refine ed (by simp[y.same]) ?_;exact⟨⟨_,rfl⟩,b8⟩
def we(g:e2 X)(i:gU X)(f:ax)(x h:y)(n:s.length<=65536)(l:∀c∈s,c<256)(m:(o X).aD<=k){q:Nat}(r:q=1\/q=2):
 az X 98 [.str f,.str s,x,h,m1 q] j k (λM S' W=>(∃b,M=.iface 207 (.ptr b 0))/\aT X j k S' W) zW:=by
 refine z6 g.tobW (Ns ..) ?_;unfold Ek;rcases r with rfl|rfl
 ·have a:m1 1=.iface 205 (.Z 1):=rfl;rw[a];refine bA @Pv @Pu ⟨?_⟩;refine(aaD g i f n l m).Zm ?_;rintro M p t ⟨⟨b,rfl⟩,d⟩;refine br ⟨?_⟩;exact⟨⟨_,rfl⟩,d⟩
 ·have a:m1 2=.iface 205 (.Z 2):=rfl;rw[a];refine bh @Pw ⟨?_⟩;refine(acn g i f n l m).Zm ?_;rintro M p t ⟨⟨b,rfl⟩,d⟩;refine br ⟨?_⟩;exact⟨⟨_,rfl⟩,d⟩
def aau:∀(l:ax) (n:Nat),(lj l n).2=0\/(lj l n).2=1\/(lj l n).2=2:=by
 intro l;induction l with
 |nil=>intro n;exact .inl rfl|cons c l U=>
  intro n;rw[lj];split
  ·split
   ·exact .inr (.inl rfl)
   ·split
    ·exact .inr (.inl rfl)
    ·exact U _
  ·exact .inr (.inr rfl)
def HL(l:ax):(gh l).2=0\/(gh l).2=1\/(gh l).2=2:=by
 unfold gh;split
 ·exact .inr (.inr rfl)
 ·exact aau _ _
def χ(f:e2 X)(n:gU X)(l:s.length<=65536)(T:∀c∈s,c<256)(i:(o X).aD<=k):
 az X 61 [.str s,.Z 10,.Z 64] j k (λM S' W=>(∃u,M=.tuple [.int .u64 ((gh s).1:Int),u]/\((gh s).2=0/\u=.nilIface\/(gh s).2≠0/\∃b,u=.iface 207 (.ptr b 0)))/\aT X j k S' W) zW:=by
 refine z6 f.tobW (MC ..) ?_;unfold DO;refine(Iy f l T i (.inr rfl)).Zm ?_;rintro M m r ⟨rfl,d⟩;have p:=d.le;rcases HL s with e|e|e
 ·rw[e];have a:m1 0=.nilIface:=rfl;rw[a];refine bh @q7 ⟨?_⟩;exact⟨⟨_,rfl,.inl ⟨rfl,rfl⟩⟩,d⟩
 ·rw[e];have a:m1 1=.iface 205 (.Z 1):=rfl;rw[a];refine bh @s1 ⟨?_⟩;refine(we (k:=r) (j:=m) f n [80,97,114,115,101,85,105,110,116] (.Z 10) (.Z 64) l T (ZD i p) (q:=1) Zd).Zm ?_;rintro M t v ⟨⟨b,rfl⟩,g⟩;refine br ⟨?_⟩;exact⟨⟨_,rfl,.inr ⟨Zd,b,rfl⟩⟩,d.trans g⟩
 ·rw[e];have a:m1 2=.iface 205 (.Z 2):=rfl;rw[a];refine bh @s1 ⟨?_⟩;refine(we (k:=r) (j:=m) f n [80,97,114,115,101,85,105,110,116] (.Z 10) (.Z 64) l T (ZD i p) (q:=2) Zd).Zm ?_;rintro M t v ⟨⟨b,rfl⟩,g⟩;refine br ⟨?_⟩;exact⟨⟨_,rfl,.inr ⟨Zd,b,rfl⟩⟩,d.trans g⟩
def BY(u:y):Prop:=u=.nilIface\/u=.iface 205 (.Z 1)\/u=.iface 205 (.Z 2)
def pY(s:ax):Prop:=∀c∈s,c≠43/\c≠45
def nq(s:ax):Nat:=s.foldl (λn c=>n*10+(c-48)) 0
def aav:∀(l:ax) (n:Nat),n<18446744073709551616->(lj l n).1<18446744073709551616:=by
 intro l;induction l with
 |nil=>intro n e;exact e|cons c l U=>
  intro n e;rw[lj];split
  ·split
   ·show 18446744073709551615<_;omega
   ·split
    ·show 18446744073709551615<_;omega
    ·exact U _ Zo
  ·show 0<_;omega
def HM(l:ax):(gh l).1<18446744073709551616:=by
 unfold gh;split
 ·show 0<_;omega
 ·exact aav _ _ Zo
def G8:b0 X j .neq 138 false (.iface 205 (.Z 1)) (.iface 205 (.Z 1))=some .zT:=Zk
def G9:b0 X j .neq 138 false (.iface 205 (.Z 2)) (.iface 205 (.Z 1))=some .zV:=Zk
def Ge(r:e2 X)(L:s.length<=65536)(T:∀c∈s,c<256)(N:pY s)(C:(o X).aD<=k):
 az X 152 [.str s,.Z 10,.Z 0] j k (λM S' W=>(∃aw u,M=.tuple [.Z aw,u]/\BY u)/\aT X j k S' W) zW:=by
 refine z6 r.tobW (KI ..) ?_;unfold CM;by_cases g:s=[]
 ·subst g;have d:decide (([]:List Nat)=[])=true:=rfl;refine bh @d ⟨?_⟩;exact⟨⟨_,_,rfl,.inr (.inr rfl)⟩,aT.refl _ _⟩
 have d:decide (s=[])=false:=by simp[g]
 obtain⟨c,a,rfl⟩:∃c a,s=c::a:=by cases s with|nil=>exact absurd rfl g|cons c a=>exact⟨c,a,rfl⟩
 have A:h7 (.str (c::a)) (.Z 0)=some (.int .u8 (c:Int)):=ph (i:=0) .i64 rfl;have T3:=N c (Zp ..);have a7:decide ((c:Int)=43)=false:=z1;have bl:decide ((c:Int)=45)=false:=z1;refine c9 @d @A @a7 @bl ⟨?_⟩;refine(Iy r L T C (.inl rfl)).Zm ?_;rintro M T1 T6 ⟨rfl,l⟩;have T5:=l.le;generalize G:gh (c::a)=p;have m:=HL (c::a);have t:=HM (c::a);rw[G]at m t;obtain⟨b,T2⟩:=p;simp only[]at m t ⊢;have n:decide ((0:Int)=0)=true:=rfl;have v:aH .sub (.Z 64) (.Z 1)=some (.Z 63):=rfl;have w:(63:Int)%18446744073709551616=63:=rfl;have x:aH .shl (.int .u64 1) (.int .u64 63)=some (.int .u64 9223372036854775808):=rfl;have O:aH .sub (.int .u64 9223372036854775808) (.int .u64 1)=some (.int .u64 9223372036854775807):=rfl;have P:hv .i64 (.int .u64 9223372036854775807)=some (.Z 9223372036854775807):=rfl;rcases m with rfl|rfl|rfl;all_goals
  simp only[show m1 0=.nilIface from rfl,show m1 1=.iface 205 (.Z 1) from rfl,show m1 2=.iface 205 (.Z 2) from rfl];by_cases T4:9223372036854775808<=b
  ·have f:decide ((9223372036854775808:Int)<=(b:Int))=true:=zZ;refine cd @q7 @s1 @G8 @G9 @n @v (Za @w (Za @x (Za @f (Za @O @P)))) ⟨?_⟩;exact⟨⟨_,_,rfl,by first|exact .inl rfl|exact .inr (.inl rfl)|exact .inr (.inr rfl)⟩,l⟩
  ·have f:decide ((9223372036854775808:Int)<=(b:Int))=false:=z1;have T0:hv .i64 (.int .u64 (b:Int))=some (.Z b):=E9 Zo Zo;refine cd @q7 @s1 @G8 @G9 @n @v (Za @w (Za @x (Za @f @T0))) ⟨?_⟩;exact⟨⟨_,_,rfl,by first|exact .inl rfl|exact .inr (.inl rfl)|exact .inr (.inr rfl)⟩,l⟩
def F9{x h:Int}(a: -9223372036854775808<=x*h)(b:x*h<9223372036854775808):aH .mul (.Z x) (.Z h)=some (.Z (x*h)):=by simp[aH,gF,i1,gB,gf,wrap64 a b]
def Rn{c:Nat}(e:c<256):aH .sub (.int .u8 (c:Int)) (.int .u8 48)=some (.int .u8 (((c+208)%256:Nat):Int)):=by
 have w:im .u8 ((c:Int) -48)=(((c+208)%256:Nat):Int):=by show((c:Int) -48)%256=_;omega
 simp only[aH,gF,i1,gB,ge,cE,gf,w,sA]
def acR(l:ax)(c:Nat):nq (l++[c])=nq l*10+(c-48):=by simp[nq,Y7]
def I7(s:ax)(M:y):Prop:=∃aw u,M=.tuple [.Z aw,u]/\BY u/\(s≠[]->s.length<19->(∀c∈s,e6 c=true)->u=.nilIface/\aw=(nq s:Int))
def Of(A:e2 X)(T6:s.length<=65536)(T:∀c∈s,c<256)(L:pY s)(G:(o X).aD<=k):
 az X 135 [.str s] j k (λM S' W=>I7 s M/\aT X j k S' W) zW:=by
 refine z6 A.tobW (Kc ..) ?_;unfold Cx;by_cases T0:s=[]
 ·subst T0;have b:decide ((0:Int)<((0:Nat):Int))=false:=rfl;refine bh @b ⟨?_⟩;refine(Ge A T6 T L G).Zm ?_;rintro M T8 UC ⟨⟨aw,u,rfl,C⟩,x⟩;refine br ⟨?_⟩;exact⟨⟨aw,u,rfl,C,λe=>absurd rfl e⟩,x⟩
 have U8:0<s.length:=ZP.2 T0;have b:decide ((0:Int)<(s.length:Int))=true:=zZ;by_cases U3:s.length<19
 ·have r:decide ((s.length:Int)<19)=true:=zZ;obtain⟨c,T2⟩:∃c,s[0]? =some c:=⟨_,Zb U8⟩;have T4:h7 (.str s) (.Z 0)=some (.int .u8 (c:Int)):=ph (i:=0) .i64 T2;have UE:=L c (Zl T2);have a7:decide ((c:Int)=43)=false:=z1;have bl:decide ((c:Int)=45)=false:=z1;refine dE @b @r @T4 @a7 @bl ⟨?_⟩;refine ET Zo ?_;have U2:F X (aI X j k (some (.cells (B.ofList (s.map λn:Nat=>y.int .u8 (n:Int)) 0 .nil) s.length (.grow [])))) k=some (.cells (B.ofList (s.map λn:Nat=>y.int .u8 (n:Int)) 0 .nil) s.length (.grow [])):=aJ G;have U4:aT X j k (aI X j k (some (.cells (B.ofList (s.map λn:Nat=>y.int .u8 (n:Int)) 0 .nil) s.length (.grow [])))) (k+1):=b8;generalize aI X j k (some (.cells (B.ofList (s.map λn:Nat=>y.int .u8 (n:Int)) 0 .nil) s.length (.grow [])))=T9 at*;refine br ⟨?_⟩;refine cG (λm z S' UB=>∃(E n p:Nat),z.g 47=some (.cy k 0 s.length 1)/\z.g 48=some (.Z s.length)/\z.g 49=some (.Z E)/\z.g 6=some (.Z n)/\z.g 5=some (.str s)/\E+m=s.length/\p*10^m<=10^18/\n<p/\S'=T9/\k+1<=UB/\n=nq (s.take E))
   s.length ⟨0,0,1,av,av,cW,cW,av,Zo,by rw[Nat.one_mul];exact Nat.pow_le_pow_right Zo Zo,Zo,rfl,Zo,rfl⟩ ?_
  rintro m z ah ar ⟨E,n,p,O,l,P,T7,t5,UF,g,UH,rfl,UG,N⟩;have T1:aT X j k ah ar:=⟨Zo,U4.K⟩;cases m with
  |zero=>have d:=zL E s.length;refine cd @P @l @t5 @T7 @d @T4 @bl ⟨?_⟩;rw[Zy Zo]at N;exact⟨⟨_,_,rfl,.inl rfl,λ_ _ _=>⟨rfl,by rw[N]⟩⟩,T1⟩|succ m=>
   have d:=zM E s.length;have TY:=zP E;obtain⟨a,f⟩:∃c,s[E]? =some c:=⟨_,Zb Zo⟩;have U5:=T a (Zl f);have T3:da 1 (.cy k 0 s.length 1) (.Z E)=some (.ptr k E):=(by rw[n4 _ Zo];simp);have T5:ay X ah (.ptr k E)=some (.int .u8 (a:Int)):=(by rw[aZ U2,g5];simp[f]);have v:=Rn U5;generalize UJ:(a+208)%256=w at v;by_cases UD:9<w
   ·have t:decide ((9:Int)<(w:Int))=true:=zZ;refine cd @P @l @O @d @T3 @T5 (Za @v @t) ⟨?_⟩;refine⟨⟨_,_,rfl,.inr (.inr rfl),λ_ _ U6=> ?_⟩,T1⟩;have:=U6 a (Zl f);simp[e6]at this;omega
   ·have t:decide ((9:Int)<(w:Int))=false:=z1;have U7:48<=a/\a<=57/\w=a-48:=Zo;have U9:p*10<=10^18:=(by have:p*10^(m+1)=(p*10)*10^m:=(by rw[Nat.pow_succ];rw[Nat.mul_assoc,zH (10^m) 10]);rw[this]at g;exact ZD (zc _ (Nat.pos_of_ne_zero Zs)) g);have UA:p*10*10^m<=10^18:=(by have:p*10^(m+1)=(p*10)*10^m:=(by rw[Nat.pow_succ];rw[Nat.mul_assoc,zH (10^m) 10]);rw[this]at g;exact g);have UI:p*10<=1000000000000000000:=U9;have TZ:aH .mul (.Z n) (.Z 10)=some (.Z (n*10:Nat)):=(by rw[F9 Zo Zo];rfl);have U0:hv .i64 (.int .u8 (w:Int))=some (.Z w):=E9 Zo Zo;have U1:aH .add (.Z (n*10:Nat)) (.Z w)=some (.Z (n*10+w:Nat)):=(by rw[ck Zo Zo];rfl);refine cd @P @l @O @d @T3 @T5 (Za @v (Za @t (Za @T7 (Za @TZ (Za @U0 (Za @U1 @TY)))))) ⟨?_⟩;refine⟨m,Zo,E+1,n*10+w,p*10,Y O,Y l,av,av,Y t5,Zo,UA,Zo,rfl,Zo, ?_⟩;rw[ZE,f];show _=nq (s.take E++[a]);rw[acR, <-N,U7.2.2]
 ·have r:decide ((s.length:Int)<19)=false:=z1;refine bA @b @r ⟨?_⟩;refine(Ge A T6 T L G).Zm ?_;rintro M T8 UC ⟨⟨aw,u,rfl,C⟩,x⟩;refine br ⟨?_⟩;exact⟨⟨aw,u,rfl,C,λ_ e=>absurd e U3⟩,x⟩
def I8(s:ax)(M:y):Prop:=∃aw u,M=.tuple [.Z aw,u]/\(u=.nilIface\/∃b,u=.iface 207 (.ptr b 0))/\(s≠[]->s.length<19->(∀c∈s,e6 c=true)->u=.nilIface/\aw=(nq s:Int))
def EJ(d:e2 X)(t:gU X)(n:s.length<=65536)(T:∀c∈s,c<256)(C:pY s)(m:(o X).aD<=k):
 az X 99 [.str s] j k (λM S' W=>I8 s M/\aT X j k S' W) zW:=by
 refine z6 d.tobW (Nu ..) ?_;unfold El;refine(Of d n T C m).Zm ?_;rintro M r w ⟨⟨aw,u,rfl,A,p⟩,a⟩;have v:=a.le;rcases A with rfl|rfl|rfl
 ·refine bh @q7 ⟨?_⟩;exact⟨⟨_,_,rfl,.inl rfl,p⟩,a⟩
 ·refine bh @s1 ⟨?_⟩;refine(we (k:=w) (j:=r) d t [65,116,111,105] (.Z 0) (.Z 0) n T (ZD m v) (q:=1) Zd).Zm ?_;rintro M x G ⟨⟨b,rfl⟩,l⟩;refine br ⟨?_⟩;exact⟨⟨_,_,rfl,.inr ⟨b,rfl⟩,λf g i=>absurd (p f g i).1 Zs⟩,a.trans l⟩
 ·refine bh @s1 ⟨?_⟩;refine(we (k:=w) (j:=r) d t [65,116,111,105] (.Z 0) (.Z 0) n T (ZD m v) (q:=2) Zd).Zm ?_;rintro M x G ⟨⟨b,rfl⟩,l⟩;refine br ⟨?_⟩;exact⟨⟨_,_,rfl,.inr ⟨b,rfl⟩,λf g i=>absurd (p f g i).1 Zs⟩,a.trans l⟩
def gq(t:cD):Bool:=if t.b then !t.s&&decide (t.w=1)else decide (1<=t.w)&&decide (t.w<=64)
def fz(n:Nat):ax:=if n<10 then[48+n]else[48+n/10,48+n%10]
def hW(t:cD):ax:=if gq t then(if t.b then[98,111,111,108]else(if t.s then 105 else 117)::fz t.w.toNat)else[]
def gL:ax->Option cD
 |[]=>none|c::l=>if c::l=[98,111,111,108]then some ⟨true,false,1⟩
  else if c=105\/c=117 then((List.range 65).find? λn=>decide (1<=n)&&decide (fz n=l)).map λn:Nat=>⟨false,decide (c=105),(n:Int)⟩
  else none
def q3(d:bW X)(t:cD)(f:(o X).aD<=k):az X 100 [.agg (cI t)] j k (λM S' W=>M=.bool (gq t)/\aT X j k S' W) zW:=by
 refine z6 d (Ji ..) ?_;unfold B5 cI;obtain⟨b,s,w⟩:=t;cases b<;>cases s;all_goals
  by_cases a:1<=w
  ·have c:decide ((1:Int)<=w)=true:=by simp[a]
   refine bh @c ⟨?_⟩;exact⟨by simp[gq,a],b8⟩
  ·have c:decide ((1:Int)<=w)=false:=by simp[a]
   refine bh @c ⟨?_⟩;exact⟨by simp[gq,a],b8⟩
def abL:∀n<10,([48,49,50,51,52,53,54,55,56,57,97,98,99,100,101,102,103,104,105,106,107,108,109,110,111,112,113,114,115,116,117,118,119,120,121,122].drop n).take (n+1-n)=fz n:=by decide+kernel
def xz:ax:=[48,48,48,49,48,50,48,51,48,52,48,53,48,54,48,55,48,56,48,57,49,48,49,49,49,50,49,51,49,52,49,53,49,54,49,55,49,56,49,57,50,48,50,49,50,50,50,51,50,52,50,53,50,54,50,55,50,56,50,57,51,48,51,49,51,50,51,51,51,52,51,53,51,54,51,55,51,56,51,57,52,48,52,49,52,50,52,51,52,52,52,53,52,54,52,55,52,56,52,57,53,48,53,49,53,50,53,51,53,52,53,53,53,54,53,55,53,56,53,57,54,48,54,49,54,50,54,51,54,52,54,53,54,54,54,55,54,56,54,57,55,48,55,49,55,50,55,51,55,52,55,53,55,54,55,55,55,56,55,57,56,48,56,49,56,50,56,51,56,52,56,53,56,54,56,55,56,56,56,57,57,48,57,49,57,50,57,51,57,52,57,53,57,54,57,55,57,56,57,57]
def abN:xz.length=200:=by decide+kernel
def abM:∀n<100,10<=n->(xz.drop (n*2)).take (n*2+2-n*2)=fz n:=by decide+kernel
def wA(a:bW X){n:Nat}(l:n<100):az X 136 [.Z (n:Int)] j k (λM S' W=>M=.str (fz n)/\S'=j/\W=k) zW:=by
 refine z6 a (Ke ..) ?_;unfold Cy;refine z6 a (KK ..) ?_;unfold CN;refine z6 a (KW ..) ?_;unfold CT;have g:decide ((0:Int)<=(n:Int))=true:=zZ;have i:decide ((n:Int)<100)=true:=zZ;refine bA @g @i ⟨?_⟩;refine z6 a (K4 ..) ?_;unfold C0;by_cases e:n<10
 ·have b:decide ((n:Int)<10)=true:=zZ;have c:=zP n;have d:hE (.str [48,49,50,51,52,53,54,55,56,57,97,98,99,100,101,102,103,104,105,106,107,108,109,110,111,112,113,114,115,116,117,118,119,120,121,122]) (some (.Z n)) (some (.Z (n+1:Nat)))=some (.str (fz n)):=by rw[Bx .i64 .i64 Zo Zx,abL n e]
  refine cb @b @c @d ⟨?_⟩;exact⟨rfl,rfl,rfl⟩
 ·have b:decide ((n:Int)<10)=false:=z1;have c:aH .mul (.Z n) (.Z 2)=some (.Z (n*2:Nat)):=by rw[F9 Zo Zo];rfl
  have d:aH .add (.Z (n*2:Nat)) (.Z 2)=some (.Z (n*2+2:Nat)):=by rw[ck Zo Zo];rfl
  have f:hE (.str xz) (some (.Z (n*2:Nat))) (some (.Z (n*2+2:Nat)))=some (.str (fz n)):=by rw[Bx .i64 .i64 Zo (zK abN),abM n l Zo]
  unfold xz at f;refine c9 @b @c @d @f ⟨?_⟩;exact⟨rfl,rfl,rfl⟩
def abj(f:bW X)(t:cD)(v:(o X).aD<=k):az X 101 [.agg (cI t)] j k (λM S' W=>M=.str (hW t)/\aT X j k S' W) zW:=by
 refine z6 f (Jk ..) ?_;unfold B6;have x:cI t=[.bool t.b,.bool t.s,.Z t.w]:=rfl;rw[x];refine br ⟨?_⟩;refine c6 (λam=>F X am k=zO [.bool t.b,.bool t.s,.Z t.w] 3/\aT X j k am (k+1)) ⟨aJ v,b8⟩ ?_;rintro am ⟨r,s⟩;refine(q3 f t Zo).Zm ?_;rintro M ah ar ⟨rfl,l⟩;have C:=l.le;have d:=s.trans l;have i:F X ah k=zO [.bool t.b,.bool t.s,.Z t.w] 3:=by rw[l.K _ Zo];exact r
 have b1:ay X ah (.ptr k 0)=some (.bool t.b):=by rw[aZ i];rfl
 have bS:ay X ah (.ptr k 1)=some (.bool t.s):=by rw[aZ i];rfl
 have bU:ay X ah (.ptr k 2)=some (.Z t.w):=by rw[aZ i];rfl
 cases b:gq t with
 |false=>refine br ⟨?_⟩;exact⟨by simp[hW,b],d⟩|true=>
  cases a:t.b with
  |true=>rw[a]at b1;refine bh @b1 ⟨?_⟩;exact⟨by simp[hW,b,a],d⟩|false=>
   rw[a]at b1;have L:1<=t.w/\t.w<=64:=(by simpa[gq,a]using b);obtain⟨w,n⟩:=Yn (by omega:0<=t.w);rw[n]at bU;have af:fz t.w.toNat=fz w:=(by rw[n];rfl);have G:(fz w).length<=2:=(by unfold fz;split<;>simp);have m:∀j c,b0 X j .add 9 true (.str [c]) (.str (fz w))=some (.str (c::fz w)):=λj c=>(by have:Nat.ble ([c].length+(fz w).length) 1000000000=true:=ds Zx;simp only[b0,oP,this,cE];rfl);cases g:t.s with
   |true=>rw[g]at bS;refine cb @b1 @bS @bU ⟨?_⟩;refine(wA f Zo).Zm ?_;rintro M p A ⟨rfl,rfl,rfl⟩;refine bh @m ⟨?_⟩;exact⟨by simp[hW,b,a,g,af],d⟩
   |false=>rw[g]at bS;refine cb @b1 @bS @bU ⟨?_⟩;refine(wA f Zo).Zm ?_;rintro M p A ⟨rfl,rfl,rfl⟩;refine bh @m ⟨?_⟩;exact⟨by simp[hW,b,a,g,af],d⟩
def uy{n:Nat}(e:n<100):fz n≠[]/\(fz n).length<19/\(∀c∈fz n,e6 c=true)/\nq (fz n)=n:=by
 unfold fz;split
 ·refine⟨Zs,Zs, ?_, ?_⟩
  ·intro c a;simp at a;subst a;simp[e6];omega
  ·simp[nq]
 ·refine⟨Zs,Zs, ?_, ?_⟩
  ·intro c a;simp at a;rcases a with rfl|rfl<;>simp[e6]<;>omega
  ·simp[nq];omega
def xD(c:Nat)(l:ax):gL (c::l)=if c::l=[98,111,111,108]then some ⟨true,false,1⟩
 else if c=105\/c=117 then((List.range 65).find? λn=>decide (1<=n)&&decide (fz n=l)).map λn:Nat=>⟨false,decide (c=105),(n:Int)⟩
 else none:=rfl
def u9{c:Nat}{l:ax}{t:cD}(e:gL (c::l)=some t)(T:c::l≠[98,111,111,108]):(c=105\/c=117)/\∃n:Nat,1<=n/\n<=64/\fz n=l/\t=⟨false,decide (c=105),(n:Int)⟩:=by
 rw[xD]at e;rw[Zi T]at e;split at e
 ·rename_i g;refine⟨g, ?_⟩;simp only[Yr]at e;obtain⟨n,b,d⟩:=e;have a:=List.find?_some b;have f:=List.mem_of_find?_eq_some b;simp at a f;exact⟨n,a.1,Zo,a.2,d.symm⟩
 ·cases e
def It{c:Nat}{l:ax}(e:gL (c::l)=none)(b:c=105\/c=117){n:Nat}(a:1<=n)(f:n<=64):fz n≠l:=by
 intro d;rw[xD]at e;split at e
 ·cases e
 ·first
  |rw[Zu b]at e|skip
  simp at e;exact e n Zo a d
def aT.set{C:ai}{j am:B R}{k ak b a:Nat}{bQ:Option R}(e:aT C j k am ak)(T:k<=b)(f:C.aD<=k)(c:ak<=a):aT C j k (aI C am b bQ) a:=
 ⟨ZD e.le c,λh d=>by rw[ag Zo Zo];exact e.K h d⟩
def Is(T1:e2 X)(UD:gU X)(UL:s.length<=65536)(T:∀c∈s,c<256)(UM:pY s)(A:(o X).aD<=k):
 az X 63 [.str s] j k (λM S' W=>M=.tuple [.agg (cI ((gL s).getD cg)),.bool (gL s).isSome]/\aT X j k S' W) zW:=by
 refine z6 T1.tobW (MG ..) ?_;unfold DQ;by_cases v:s=[98,111,111,108]
 ·have d:decide (s=[98,111,111,108])=true:=by simp[v]
  refine bh @d ⟨?_⟩;exact⟨by subst v;rfl,b8⟩
 have d:decide (s=[98,111,111,108])=false:=by simp[v]
 cases s with
 |nil=>have O:decide (([]:List Nat)=[])=true:=rfl;refine bA @d @O ⟨?_⟩;exact⟨rfl,b8⟩|cons c l=>
  have O:decide (c::l=[])=false:=by simp
  have TZ:h7 (.str (c::l)) (.Z 0)=some (.int .u8 (c:Int)):=ph (i:=0) .i64 rfl;by_cases T3:c=105\/c=117
  ·have UN:hE (.str (c::l)) (some (.Z 1)) none=some (.str l):=xx (l:=1) .i64 Zs;have UJ:l.length<=65536:=(by simp at UL;omega);have UI:∀c∈l,c<256:=λx w=>T x (Zw _ w);have UK:pY l:=λx w=>UM x (Zw _ w);have C:∃bb bn,decide ((c:Int)≠117)=bb/\decide ((c:Int)≠105)=bn/\(bb=false\/bb=true/\bn=false):=by
    rcases T3 with rfl|rfl
    ·exact⟨true,false,rfl,rfl,.inr ⟨rfl,rfl⟩⟩
    ·exact⟨false,true,rfl,rfl,.inl rfl⟩
   obtain⟨bb,bn,C,T6,UG⟩:=C;have U8:decide ((c:Int)=105)=decide (c=105):=(by simp;omega);rcases UG with rfl|⟨rfl,rfl⟩;all_goals
    refine eC @d @O @TZ @C @T6 @UN ⟨?_⟩;refine c6 (λam=>F X am k=zO [.zT,.zT,.Z 0] 3/\aT X j k am (k+1)) ⟨aJ A,b8⟩ ?_;rintro am ⟨U9,UE⟩;refine(EJ T1 UD UJ UI UK Zo).Zm ?_;rintro M ah ar ⟨⟨aw,u,rfl,UH,w⟩,TY⟩;have UQ:=TY.le;have UA:F X ah k=zO [.zT,.zT,.Z 0] 3:=by rw[TY.K _ Zo];exact U9
    have UF:=UE.trans TY;refine bA @TZ @U8 ⟨?_⟩;generalize T2:aI X _ ar _=N;have UB:F X N k=zO [.zT,.zT,.Z 0] 3:=by rw[<-T2];simp(disch:=omega) only[ag];exact UA
    have U2:F X N ar=zO [.zT,.bool (decide (c=105)),.Z aw] 3:=by rw[<-T2];rw[aJ Zo];rfl
    have P:aT X j k N (ar+1):=UF.trans (by rw[<-T2];exact b8);clear T2;rcases UH with rfl|⟨b,rfl⟩
    ·refine bA @q7 (aZ U2) ⟨?_⟩;refine(q3 (k:=ar+1) (j:=N) T1.tobW ⟨false,decide (c=105),aw⟩ (ZD A P.le)).Zm ?_;rintro M T5 UO ⟨rfl,G⟩;have UR:=G.le;have U3:F X T5 k=zO [.zT,.zT,.Z 0] 3:=by rw[G.K _ Zo];exact UB
     have U4:F X T5 ar=zO [.zT,.bool (decide (c=105)),.Z aw] 3:=by rw[G.K _ Zo];exact U2
     cases U0:gq ⟨false,decide (c=105),aw⟩with
     |false=>
      have a:gL (c::l)=none:=by
       cases a:gL (c::l)with
       |none=>rfl|some t=>obtain⟨_,n,T8,T9,r,rfl⟩:=u9 a v;obtain⟨f,g,m,p⟩:=uy (by omega:n<100);rw[r]at f g m p;have:=(w f g m).2;rw[p]at this;subst this;simp[gq]at U0;omega
      rw[a];refine bh (aZ U3) ⟨?_⟩;exact⟨rfl,aT.set (P.trans G) Zo A Zo⟩
     |true=>
      have UT:1<=aw/\aw<=64:=by simpa[gq]using U0
      obtain⟨n,rfl⟩:=Yn (by omega:0<=aw);refine bh (aZ U4) ⟨?_⟩;refine(abj (k:=UO) (j:=T5) T1.tobW ⟨false,decide (c=105),(n:Int)⟩ Zo).Zm ?_;rintro M U1 UU ⟨rfl,T0⟩;have US:=T0.le;have UP:F X U1 k=zO [.zT,.zT,.Z 0] 3:=by rw[T0.K _ Zo];exact U3
      have UC:F X U1 ar=zO [.zT,.bool (decide (c=105)),.Z (n:Int)] 3:=by rw[T0.K _ Zo];exact U4
      have U6:hW ⟨false,decide (c=105),(n:Int)⟩=c::fz n:=by rcases T3 with rfl|rfl<;>simp[hW,U0]<;>simp_all
      have U5:=(P.trans G).trans T0;by_cases L:fz n=l
      ·have a:gL (c::l)=some ⟨false,decide (c=105),(n:Int)⟩:=by
        cases a:gL (c::l)with
        |none=>exact absurd L (It a T3 Zo Zo)|some t=>obtain⟨_,T4,T8,T9,r,rfl⟩:=u9 a v;obtain⟨f,g,m,p⟩:=uy (by omega:n<100);obtain⟨_,_,_,U7⟩:=uy (by omega:T4<100);rw[r, <-L,p]at U7;rw[U7]
       have T7:decide (hW ⟨false,decide (c=105),(n:Int)⟩≠c::l)=false:=by rw[U6,L];simp
       rw[a];refine bA @T7 (aZ UC) ⟨?_⟩;refine⟨rfl,aT.set U5 Zo A Zo⟩
      ·have a:gL (c::l)=none:=by
        cases a:gL (c::l)with
        |none=>rfl|some t=>obtain⟨_,T4,T8,T9,r,rfl⟩:=u9 a v;obtain⟨f,g,m,p⟩:=uy (by omega:T4<100);rw[r]at f g m p;have:=(w f g m).2;rw[p]at this;have:n=T4:=Zo;subst this;exact absurd r L
       have T7:decide (hW ⟨false,decide (c=105),(n:Int)⟩≠c::l)=true:=by rw[U6];simp[L]
       rw[a];refine bh @T7 ⟨?_⟩;exact⟨rfl,aT.set U5 Zo A Zo⟩
    ·have a:gL (c::l)=none:=by
      cases a:gL (c::l)with
      |none=>rfl|some t=>obtain⟨_,n,T8,T9,r,rfl⟩:=u9 a v;obtain⟨f,g,m,p⟩:=uy (by omega:n<100);rw[r]at f g m p;exact absurd (w f g m).1 Zs
     rw[a];refine bh @G1 ⟨?_⟩;exact⟨rfl,aT.set P Zo A Zo⟩
  ·have C:decide ((c:Int)≠117)=true:=zZ;have T6:decide ((c:Int)≠105)=true:=zZ;refine dE @d @O @TZ @C @T6 ⟨?_⟩;have a:gL (c::l)=none:=(by rw[xD];rw[Zi v,Zi T3]);rw[a];exact⟨rfl,b8⟩
def pz(w:Int):Int:=(18446744073709551615:Int).fdiv (2^(min (64-w).toNat 64))
def tO(x h:Int):Int:=im .u64 ((BitVec.ofInt 64 x&&& ~~~ BitVec.ofInt 64 h).toNat)
def qP(t:cD)(n:Int):Bool:=gq t&&decide (tO n (pz t.w)=0)
def mh(t:cD)(n:Int):Bool:=if t.s then(if t.w-1=0 then decide (n=0)else qP ⟨false,false,t.w-1⟩ n)else qP t n
def mu:List ax:=[[110,111,100,101],[114,101,116,117,114,110,115],[118,97,114],[108,101,116],[116,101,108],[119,104,101,110],[110,111,116],[112,114,101],[102,98,121],[109,101,114,103,101],
 [105,102],[116,104,101,110],[101,108,115,101],[97,110,100],[111,114],[120,111,114],[116,114,117,101],[102,97,108,115,101]]
structure vA(X:bf):Prop where
 at_:∃v,∀j,ay X j (.ptr 1 0)=some v/\∀s:ax,fb X j 9 .zT v (.str s) false=some (.bool (decide (s∈mu)))
def aaS(f:bW X)(d:vA X)(s:ax):az X 65 [.str s] j k (λM S' W=>M=.bool (decide (s∈mu))/\S'=j/\W=k) zW:=by refine z6 f (MK ..) ?_;unfold DS;obtain⟨v,g⟩:=d.at_;obtain⟨a,b⟩:=g j;have c:=b s;refine bA @a @c ⟨?_⟩;exact⟨rfl,rfl,rfl⟩
def TU(c:bW X)(t:cD)(f:1<=t.w/\t.w<=64)(d:(o X).aD<=k):az X 137 [.agg (cI t)] j k (λM S' W=>M=.int .u64 (pz t.w)/\aT X j k S' W) zW:=by
 refine z6 c (Kg ..) ?_;unfold Cz cI;have a:aH .sub (.Z 64) (.Z t.w)=some (.Z (64-t.w)):=ju Zo Zo;have b:aH .shr (.int .u64 18446744073709551615) (.Z (64-t.w))=some (.int .u64 (pz t.w)):=by have:decide ((64-t.w)<0)=false:=z1;simp only[aH,gF,cE,tL,k6,this,ge,hf,sA];rfl
 refine bA @a @b ⟨?_⟩;exact⟨rfl,b8⟩
def wR{t:cD}(e:gq t=true):1<=t.w/\t.w<=64:=by unfold gq at e;split at e<;>simp at e<;>omega
def Gh(b:bW X)(t:cD)(n:Int)(p:(o X).aD<=k):az X 102 [.agg (cI t),.int .u64 n] j k (λM S' W=>M=.bool (qP t n)/\aT X j k S' W) zW:=by
 refine z6 b (Jm ..) ?_;unfold B7;have r:cI t=[.bool t.b,.bool t.s,.Z t.w]:=rfl;rw[r];refine br ⟨?_⟩;refine c6 (λam=>F X am k=zO [.bool t.b,.bool t.s,.Z t.w] 3/\aT X j k am (k+1)) ⟨aJ p,b8⟩ ?_;rintro am ⟨g,l⟩;refine(q3 b t Zo).Zm ?_;rintro M ah ar ⟨rfl,a⟩;have v:=a.le;have d:=l.trans a;have i:F X ah k=zO [.bool t.b,.bool t.s,.Z t.w] 3:=by rw[a.K _ Zo];exact g
 cases c:gq t with
 |false=>refine br ⟨?_⟩;exact⟨by simp[qP,c],d⟩|true=>
  refine bh (aZ i) ⟨?_⟩;refine(TU (k:=ar) (j:=ah) b t (wR c) Zo).Zm ?_;rintro M s w ⟨rfl,m⟩;have f:aH .andNot (.int .u64 n) (.int .u64 (pz t.w))=some (.int .u64 (tO n (pz t.w))):=by simp only[aH,gF,ge,i1,cE,gB,gf,sA];rfl
  refine bh @f ⟨?_⟩;exact⟨by simp[qP,c],d.trans m⟩
def Rf(l:bW X)(t:cD)(s:gq t=true)(n:Int)(r:(o X).aD<=k):az X 64 [.agg (cI t),.int .u64 n] j k (λM S' W=>M=.bool (mh t n)/\aT X j k S' W) zW:=by
 refine z6 l (MI ..) ?_;unfold DR;have v:=wR s;have p:cI t=[.bool t.b,.bool t.s,.Z t.w]:=rfl;rw[p];have m:aH .sub (.Z t.w) (.Z 1)=some (.Z (t.w-1)):=ju Zo Zo;cases f:t.s with
 |false=>refine br ⟨?_⟩;refine c6 (λam=>aT X j k am (k+1)) b8 ?_;intro am g;have:=Gh (k:=k+1) (j:=am) l t n Zo;rw[p,f]at this;refine this.Zm ?_;rintro M ah ar ⟨rfl,i⟩;refine br ⟨?_⟩;exact⟨by simp[mh,f],g.trans i⟩
 |true=>
  by_cases a:t.w-1=0
  ·have d:decide (t.w-1=0)=true:=(by simp[a]);refine bA @m @d ⟨?_⟩;refine dh (eR (q:=3) (b:=k) (J:=0) (n:=3) (c:=B.ofList [.bool t.b,.zV,.Z t.w] 0 .nil) (aJ r) Zo rfl Zd Zd rfl) ?_;refine bh @d ⟨?_⟩;exact⟨by simp[mh,f,a],b8⟩
  ·have d:decide (t.w-1=0)=false:=(by simp[a]);refine bA @m @d ⟨?_⟩;refine dh (eR (q:=3) (b:=k) (J:=0) (n:=3) (c:=B.ofList [.bool t.b,.zV,.Z t.w] 0 .nil) (aJ r) Zo rfl Zd Zd rfl) ?_;refine bh @d ⟨?_⟩;refine c6 (λam=>aT X j k am (k+1)) b8 ?_;intro am g;refine(Gh (k:=k+1) (j:=am) l ⟨false,false,t.w-1⟩ n Zo).Zm ?_;rintro M ah ar ⟨rfl,i⟩;refine br ⟨?_⟩;exact⟨by simp[mh,f,a],g.trans i⟩
def lL(s:ax)(i:Nat):Tok×Bool:=
 let w:=(s.drop i).takeWhile fa
 (⟨if (gL w).isSome then 3 else if w∈mu then 2 else 1,w,0,0,(gL w).getD cg⟩,decide (w.length<=32))
def Hf{l:ax}(e:∀c∈l,fa c=true):pY l:=by intro c a;have:=e c a;simp[fa,jZ,e6]at this;omega
def Il{α:Type}(p:α->Bool):∀l:List α,∀c∈l.takeWhile p,p c=true:=by
 intro l;induction l with
 |nil=>simp|cons a l U=>
  intro c b;rw[YY]at b;split at b
  ·rcases Zq.1 b with rfl|b
   ·assumption
   ·exact U c b
  ·simp at b
def A3(I:hJ X j dJ s i)(T:∀c∈s,c<256)(E:Nat)(p:Nat->Bool)(d:∀c,p c=true->fa c=true):((s.drop E).takeWhile p).length<=65536/\(∀c∈(s.drop E).takeWhile p,c<256)/\pY ((s.drop E).takeWhile p):=by have b:=rH p (s.drop E);rw[YL]at b;have:=I.many;refine⟨Zo,λc a=>T c (zq ((List.takeWhile_sublist p).subset a)),Hf λc a=>d c (Il p _ c a)⟩
def ada(G:e2 X)(U5:gU X)(U7:vA X)(I:hJ X j dJ s i)(T:∀c∈s,c<256)(U0:(o X).aD<=k)(UW:dJ<k):
 az X 39 [.ptr dJ 0] j k (λM S' W=>M=.tuple [.agg (bm (lL s i).1),.bool (lL s i).2]/\aT X j k S' W) zW:=by
 refine z6 G.tobW (LU ..) ?_;unfold Ds;have bS:=I.bS;have UT:=I.bk;obtain⟨UN,UO,UP⟩:=A3 I T i fa (λ_ e=>e);have U9:∀bQ,hJ X (aI X j k bQ) dJ s i:=λbQ=>I.K (ag U0 Zo);refine bh @bS ⟨?_⟩;refine(xq G.tobW (HX G.tobW) (U9 _) I.le).Zm ?_;rintro M ah ar ⟨rfl,rfl,rfl⟩;unfold lL;generalize (s.drop i).takeWhile fa=w at*;simp only[];refine br ⟨?_⟩;refine c6 (λam=>F X am k=zO [.Z 0,.str [],.Z 0,.int .u64 0,.zT,.zT,.Z 0] 7/\F X am (k+1)=zO [.Z 1,.str w,.Z 0,.int .u64 0,.zT,.zT,.Z 0] 7/\aT X j k am (k+1+1)) ⟨by exact z2,by rw[aJ Zo];rfl,b8⟩ ?_;rintro am ⟨U3,U4,U6⟩;refine(Is G U5 UN UO UP Zo).Zm ?_;rintro M P f ⟨rfl,N⟩;have UU:=N.le;have T9:=U6.trans N;have T0:F X P k=zO [.Z 0,.str [],.Z 0,.int .u64 0,.zT,.zT,.Z 0] 7:=by rw[N.K _ Zo];exact U3
 have T1:F X P (k+1)=zO [.Z 1,.str w,.Z 0,.int .u64 0,.zT,.zT,.Z 0] 7:=by rw[N.K _ Zo];exact U4
 generalize UA:(gL w).getD cg=t;have UC:cI t=[.bool t.b,.bool t.s,.Z t.w]:=rfl;rw[UC];have U2:decide ((w.length:Int)<=32)=decide (w.length<=32):=by simp;omega
 have fin:∀(a:B R) (O:Nat) (q:Int) (es:cD) (m:B y),f<=O->aT X j k a O->F X a (k+1)=some (.cells m 7 .own)->F X a k=zO [.Z 0,.str [],.Z 0,.int .u64 0,.zT,.zT,.Z 0] 7->
  m.get 0=some (.Z q)->m.get 1=some (.str w)->m.get 2=some (.Z 0)->m.get 3=some (.int .u64 0)->m.get 4=some (.bool es.b)->m.get 5=some (.bool es.s)->m.get 6=some (.Z es.w)->
  Z (b4 X a 7 (.ptr (k+1) 0)) λUQ=>Z (hB (.str w)) λUR=>Z (aH .leq UR (.Z 32)) λUS=>Z (cN X a 7 (.ptr k 0) UQ) λT6=>Z (b4 X T6 7 (.ptr k 0)) λv37=>
   y.tuple [v37,US]=.tuple [.agg (bm ⟨q,w,0,0,es⟩),.bool (decide (w.length<=32))]/\aT X j k T6 O:=by
  intro a O q es m UV C d A UD a7 bl UE UF UG UH;have dr:=fT d UD;have bG:=fT d a7;have UI:=fT d bl;have UJ:=fT d UE;have UK:=fT d UF;have UL:=fT d UG;have UM:=fT d UH;refine cd @dr @bG @UI @UJ @UK @UL (Za @UM @U2) ⟨?_⟩;exact⟨rfl,aT.set C (Zg _) U0 (Zg _)⟩
 cases TZ:(gL w).isSome with
 |true=>
  refine eO ⟨?_⟩;refine eO ⟨?_⟩;refine eO ⟨?_⟩;refine eO ⟨?_⟩;refine eO ⟨?_⟩;generalize L:aI X _ f _=g;have T7:F X g f=zO [.bool t.b,.bool t.s,.Z t.w] 3:=by rw[<-L,aJ Zo];rfl
  have d:F X g k=zO [.Z 0,.str [],.Z 0,.int .u64 0,.zT,.zT,.Z 0] 7:=by rw[<-L];simp(disch:=omega) only[ag];exact T0
  have A:F X g (k+1)=zO [.Z 1,.str w,.Z 0,.int .u64 0,.zT,.zT,.Z 0] 7:=by rw[<-L];simp(disch:=omega) only[ag];exact T1
  have v:aT X j k g (f+1):=T9.trans (by rw[<-L];exact b8);clear L T0 T1;refine bh (aZ T7) ⟨?_⟩;refine ed (by simp[y.same,iF,jb]) ?_;generalize T5:aI X g (k+1) _=p;have T3:∀h,h≠k+1->F X p h=F X g h:=λh l=>by rw[<-T5,ag Zo l]
  have T8:F X p (k+1)=some (.cells (ch (B.ofList [.Z 1,.str w,.Z 0,.int .u64 0,.zT,.zT,.Z 0] 0 .nil) 0 [.Z 3]) 7 .own):=by rw[<-T5,aJ Zo];rfl
  rw[<-T3 _ Zo]at T7 d;have TY:aT X j k p (f+1):=⟨v.le,λh l=>by rw[T3 h Zo];exact v.K h l⟩;clear T5 T3 A;refine dh (eR (q:=3) (b:=k+1) (J:=4) (n:=7) T8 Zo rfl Zd Zd rfl) ?_;generalize x:aI X p (k+1) _=a;have r:∀h,h≠k+1->F X a h=F X p h:=λh l=>by rw[<-x,ag Zo l]
  have T2:F X a (k+1)=some (.cells (ch (ch (B.ofList [.Z 1,.str w,.Z 0,.int .u64 0,.zT,.zT,.Z 0] 0 .nil) 0 [.Z 3]) 4 [.bool t.b,.bool t.s,.Z t.w]) 7 .own):=by rw[<-x,aJ Zo];rfl
  rw[<-r _ Zo]at d;have C:aT X j k a (f+1+5):=⟨zK TY.le,λh l=>by rw[r h Zo];exact TY.K h l⟩;clear x r T8;have:=fin a (f+1+5) 3 t _ Zo C T2 d rfl rfl rfl rfl rfl rfl rfl;simp only[ZK];refine eO ⟨?_⟩;exact this
 |false=>
  have UB:t=cg:=by rw[<-UA];cases U8:gL w with|none=>rfl|some t=>rw[U8]at TZ;cases TZ
  refine br ⟨?_⟩;refine c6 (λg=>aT X P f g (f+1)) b8 ?_;intro g v;have T4:=T9.trans v;have d:F X g k=zO [.Z 0,.str [],.Z 0,.int .u64 0,.zT,.zT,.Z 0] 7:=by rw[v.K _ Zo];exact T0
  have A:F X g (k+1)=zO [.Z 1,.str w,.Z 0,.int .u64 0,.zT,.zT,.Z 0] 7:=by rw[v.K _ Zo];exact T1
  refine(aaS (k:=f+1) (j:=g) G.tobW U7 w).Zm ?_;rintro M p UX ⟨rfl,rfl,rfl⟩;subst UB;simp only[ZA,ZJ];by_cases U1:w∈mu
  ·simp only[U1,YK,ZK];refine eO ⟨?_⟩;refine eO ⟨?_⟩;refine eO ⟨?_⟩;refine dh (eR (q:=1) (b:=k+1) (J:=0) (n:=7) A Zo rfl Zd Zd rfl) ?_;generalize x:aI X _ (k+1) _=a;have r:∀h,h≠k+1->F X a h=F X p h:=λh l=>(by rw[<-x,ag Zo l]);have T2:F X a (k+1)=some (.cells (ch (B.ofList [.Z 1,.str w,.Z 0,.int .u64 0,.zT,.zT,.Z 0] 0 .nil) 0 [.Z 2]) 7 .own):=(by rw[<-x,aJ Zo];rfl);rw[<-r _ Zo]at d;have C:aT X j k a (f+1):=⟨T4.le,λh l=>by rw[r h Zo];exact T4.K h l⟩;have:=fin a (f+1) 2 cg _ Zo C T2 d rfl rfl rfl rfl rfl rfl rfl;refine eO ⟨?_⟩;exact this
  ·simp only[U1,Ys,ZJ];have:=fin p (f+1) 1 cg _ Zo T4 A d rfl rfl rfl rfl rfl rfl rfl;refine eO ⟨?_⟩;refine eO ⟨?_⟩;refine eO ⟨?_⟩;exact this
def re(s:ax)(i:Nat):Option Tok:=
 let d:=(s.drop i).takeWhile e6
 if (gh d).2≠0\/20<d.length then none
 else
  let a:=(s.drop (i+d.length)).takeWhile fa
  if a=[]then some ⟨4,d,0,(gh d).1,cg⟩
  else match gL a with
   |some t=>if !t.b&&mh t (gh d).1 then some ⟨5,d++a,0,(gh d).1,t⟩else none
   |none=>none
def BK:∀{w:ax}{t:cD},gL w=some t->gq t=true:=by
 intro w t e;cases w with
 |nil=>cases e|cons c l=>
  by_cases T:c::l=[98,111,111,108]
  ·rw[xD,Zu T]at e;cases e;rfl
  ·obtain⟨_,n,a,b,_,rfl⟩:=u9 e T;simp[gq];omega
def Tz(g:e2 X)(U0:gU X)(I:hJ X j dJ s i)(T:∀c∈s,c<256)(l:(o X).aD<=k)(UH:dJ<k):
 az X 37 [.ptr dJ 0] j k (λM S' W=>(∃q,M=.tuple [.agg (bm q),.bool (re s i).isSome]/\∀x,re s i=some x->q=x)/\aT X j k S' W) zW:=by
 refine z6 g.tobW (LP ..) ?_;unfold Dq;have bS:=I.bS;have UV:=I.bk;have UW:=I.le;have Ua:=I.many;obtain⟨UR,US,Ud⟩:=A3 I T i e6 (λc e=>by simp[fa,e]);have UQ:=rH e6 (s.drop i);rw[YL]at UQ;have UG:∀bQ,hJ X (aI X j k bQ) dJ s i:=λbQ=>I.K (ag l Zo);refine bh @bS ⟨?_⟩;refine(xq g.tobW (aa5 g.tobW) (UG _) I.le).Zm ?_;rintro M ah ar ⟨rfl,rfl,rfl⟩;generalize a:re s i=N;unfold re at a;simp only[]at a;generalize (s.drop i).takeWhile e6=d at*;refine br ⟨?_⟩;refine c6 (λam=>F X am k=zO [.Z 0,.str [],.Z 0,.int .u64 0,.zT,.zT,.Z 0] 7/\aT X j k am (k+1)) ⟨by exact z2,b8⟩ ?_;rintro am ⟨T9,UA⟩;refine(χ g U0 UR US Zo).Zm ?_;rintro M U4 Ub ⟨⟨u,rfl,UE⟩,T4⟩;have UX:=T4.le;have n:=UA.trans T4;have TY:F X U4 k=zO [.Z 0,.str [],.Z 0,.int .u64 0,.zT,.zT,.Z 0] 7:=by rw[T4.K _ Zo];exact T9
 have T6:=I.K (n.K dJ UH);have Ue:y.agg [.Z 0,.str [],.Z 0,.int .u64 0,.zT,.zT,.Z 0]=.agg (bm el):=rfl;rcases UE with ⟨T3,rfl⟩|⟨T3,b,rfl⟩
 ·by_cases U2:20<d.length
  ·rw[Zu (.inr U2)]at a;subst a;have T1:decide ((20:Int)<(d.length:Int))=true:=zZ;refine bA @q7 @T1 ⟨?_⟩;exact⟨⟨el,rfl,λx e=>by cases e⟩,aT.set n Zo l Zo⟩
  have T1:decide ((20:Int)<(d.length:Int))=false:=z1;rw[Zi (by rintro(e|e);exact e T3;exact U2 e)]at a;have U6:=T6.bS;have U7:aH .add (.Z i) (.Z d.length)=some (.Z (i+d.length:Nat)):=by rw[ck Zo Zo];rfl
  refine c9 @q7 @T1 @U6 @U7 ⟨?_⟩;refine(xq g.tobW (HX g.tobW) T6 Zo).Zm ?_;rintro M UT Uc ⟨rfl,rfl,rfl⟩;obtain⟨UN,UO,UP⟩:=A3 T6 T (i+d.length) fa (λ_ e=>e);generalize (s.drop (i+d.length)).takeWhile fa=w at*;by_cases P:w=[]
  ·have T2:decide (w=[])=true:=(by simp[P]);rw[Zu P]at a;subst a;refine bh @T2 ⟨?_⟩;exact⟨⟨⟨4,d,0,(gh d).1,cg⟩,rfl,λx e=>by cases e;rfl⟩,aT.set n Zo l Zo⟩
  have T2:decide (w=[])=false:=by simp[P]
  rw[Zi P]at a;refine bh @T2 ⟨?_⟩;refine(Is g U0 UN UO UP Zo).Zm ?_;rintro M U5 v ⟨rfl,T5⟩;have UY:=T5.le;have TZ:F X U5 k=zO [.Z 0,.str [],.Z 0,.int .u64 0,.zT,.zT,.Z 0] 7:=by rw[T5.K _ Zo];exact TY
  have UB:=n.trans T5;generalize U3:(gL w).getD cg=t;have UI:cI t=[.bool t.b,.bool t.s,.Z t.w]:=rfl;rw[UI];refine eO ⟨?_⟩;refine eO ⟨?_⟩;refine eO ⟨?_⟩;refine eO ⟨?_⟩;refine eO ⟨?_⟩;generalize L:aI X _ v _=C;have f:F X C v=zO [.bool t.b,.bool t.s,.Z t.w] 3:=by rw[<-L,aJ Zo];rfl
  have U8:F X C k=zO [.Z 0,.str [],.Z 0,.int .u64 0,.zT,.zT,.Z 0] 7:=by rw[<-L];simp(disch:=omega) only[ag];exact TZ
  have p:aT X j k C (v+1):=UB.trans (by rw[<-L];exact b8);clear L TZ TY T9;have m:∀j,b0 X j .add 9 false (.str d) (.str w)=some (.str (d++w)):=λj=>by have:Nat.ble (d.length+w.length) 1000000000=true:=ds Zo;simp only[b0,oP,this,cE]
  have T8:∀S:Prop,S->d8 (.str (d++w)) (some (.str (d++w))) S:=λS e=>ed (by simp[y.same,pv]) e;have A:∀S:Prop,S->d8 (.agg [.bool t.b,.bool t.s,.Z t.w]) (some (.agg [.bool t.b,.bool t.s,.Z t.w])) S:=λS e=>ed (by simp[y.same,iF,jb]) e;have r:bm ⟨5,d++w,0,(gh d).1,t⟩=[.Z 5,.str (d++w),.Z 0,.int .u64 (gh d).1,.bool t.b,.bool t.s,.Z t.w]:=rfl;cases O:gL w with
  |none=>rw[O]at a;simp only[]at a;subst a;simp only[Z6];refine bA @m (aZ f) ⟨?_⟩;refine T8 _ ?_;refine bA @m (aZ f) ⟨?_⟩;refine A _ ?_;refine br ⟨?_⟩;refine⟨⟨⟨5,d++w,0,(gh d).1,t⟩, ?_,λx e=>by cases e⟩,aT.set p Zo l Zo⟩;rw[r]|some es=>
   have UK:es=t:=(by rw[O]at U3;exact U3);subst UK;have UF:=BK O;rw[O]at a;simp only[]at a;cases T7:es.b with
   |true=>rw[T7]at a f r A;simp only[YT,Bool.false_and,ZA,ZJ]at a;subst a;simp only[Z6,Z0];refine bA @m (aZ f) ⟨?_⟩;refine T8 _ ?_;refine bA @m (aZ f) ⟨?_⟩;refine A _ ?_;refine br ⟨?_⟩;refine⟨⟨⟨5,d++w,0,(gh d).1,es⟩, ?_,λx e=>by cases e⟩,aT.set p Zo l Zo⟩;rw[r]|false=>
    rw[T7]at a f r A;simp only[YN,Bool.true_and]at a;simp only[Z0];refine bA @m (aZ f) ⟨?_⟩;have U1:=Rf (k:=v+1+19) (j:=C) g.tobW es UF ((gh d).1:Int) Zo;have UJ:cI es=[.zT,.bool es.s,.Z es.w]:=(by unfold cI;rw[T7]);rw[UJ]at U1;refine U1.Zm ?_;rintro M T0 UM ⟨rfl,G⟩;have UZ:=G.le;have U9:F X T0 v=zO [.zT,.bool es.s,.Z es.w] 3:=(by rw[G.K _ Zo];exact f);have UU:F X T0 k=zO [.Z 0,.str [],.Z 0,.int .u64 0,.zT,.zT,.Z 0] 7:=(by rw[G.K _ Zo];exact U8);have UC:aT X j k T0 UM:=⟨zK p.le,λh UL=>by rw[G.K h (zK p.le)];exact p.K h UL⟩;have UD:N.isSome=mh es ((gh d).1:Int):=(by rw[<-a];cases mh es ((gh d).1:Int)<;>rfl);rw[UD];refine bh @m ⟨?_⟩;refine T8 _ ?_;refine bh (aZ U9) ⟨?_⟩;refine A _ ?_;refine br ⟨?_⟩;refine⟨⟨⟨5,d++w,0,(gh d).1,es⟩, ?_,λx e=> ?_⟩,aT.set UC Zo l Zo⟩
    ·rw[r]
    ·rw[<-a]at e;split at e
     ·cases e;rfl
     ·cases e
 ·rw[Zu (.inl T3)]at a;subst a;refine bh @G1 ⟨?_⟩;exact⟨⟨el,rfl,λx e=>by cases e⟩,aT.set n Zo l Zo⟩
def om:List ax:=[[45,62],[60,60],[62,62],[60,61],[62,61],[60,62],[40],[41],[44],[59],[58],[61],[60],[62],[43],[45],[42]]
structure x7(X:bf):Prop where
 at_:∀j,b4 X j 17 (.ptr 0 0)=some (.agg (om.map y.str))
def ut(s p:ax):Bool:=decide (p.length<=s.length/\s.take p.length=p)
def mw(s:ax)(i:Nat):Option ax:=om.find? (ut (s.drop i))
def rA(p:ax):Tok:=⟨6,p,0,0,cg⟩
def FL{α:Type}(p:α->Bool):∀(l:List α) (E:Nat),(∀q<E,∀x,l[q]? =some x->p x=false)->l.find? p=(l.drop E).find? p:=by
 intro l E;induction E with
 |zero=>intro _;rfl|succ E U=>
  intro e;rw[U λq b=>e q Zo];by_cases a:E<l.length
  ·rw[Zz a,zi];have:=e E Zo l[E] (Zb a);rw[this]
  ·rw[ZM Zo,ZM Zo]
def abA(w:e2 X)(P:x7 X)(I:hJ X j dJ s i)(f:(o X).aD<=k)(T5:dJ<k):
 az X 35 [.ptr dJ 0] j k (λM S' W=>M=.tuple [.agg (bm (match mw s i with|some p=>rA p|none=>el)),.bool (mw s i).isSome]/\aT X j k S' W) zW:=by
 refine z6 w.tobW (LL ..) ?_;unfold Do;have T9:=I.bk;have T6:hE (.str s) (some (.Z i)) none=some (.str (s.drop i)):=xx .i64 I.le;have T0:=P.at_;refine bh @T0 ⟨?_⟩;have t:F X (aI X j k (zO [.Z 0,.str [],.Z 0,.int .u64 0,.zT,.zT,.Z 0] 7)) k=zO [.Z 0,.str [],.Z 0,.int .u64 0,.zT,.zT,.Z 0] 7:=aJ f;have v:aT X j k (aI X j k (zO [.Z 0,.str [],.Z 0,.int .u64 0,.zT,.zT,.Z 0] 7)) (k+1):=b8;refine cG (λm z S' G=>∃(E:Nat),z.g 0=some (.ptr dJ 0)/\z.g 2=some (.ptr k 0)/\z.g 6=some (.agg (om.map y.str))/\z.g 7=some (.Z E)/\E+m=17/\F X S' k=zO [.Z 0,.str [],.Z 0,.int .u64 0,.zT,.zT,.Z 0] 7/\aT X j k S' G/\k+1<=G/\∀q<E,∀x,om[q]? =some x->ut (s.drop i) x=false)
  17 ⟨0,av,av,av,cW,Zo,t,v,Zg _,λq T2=>Zo⟩ ?_
 clear t v;rintro m z ah ar ⟨E,t0,n,L,r,TY,O,b,TZ,g⟩;have C:=I.K (b.K dJ T5);have b1:=C.b1;have bS:=C.bS;cases m with
 |zero=>
  have d:decide ((E:Int)<17)=false:=z1;have c:mw s i=none:=by unfold mw;rw[FL _ _ E g,show om.drop E=[] from ZM (by show 17<=E;omega)];rfl
  rw[c];refine cb @r @d @n ⟨?_⟩;exact⟨rfl,aT.set b Zo f Zo⟩
 |succ m=>
  have d:decide ((E:Int)<17)=true:=zZ;have N:=zP E;obtain⟨p,l⟩:∃p,om[E]? =some p:=⟨_,Zb (by show E<17;omega)⟩;have T1:lH false 17 1 (.agg (om.map y.str)) (.Z E)=some (.str p):=by have:Nat.blt E 17=true:=(by simp[Nat.blt];omega);simp only[lH,hU,this,cE,ge,jB,ZF,Zn,l];rfl
  refine cd @r @L @t0 @d @T1 @b1 (Za @bS @T6) ⟨?_⟩;refine(HK w.tobW (s.drop i) p).Zm ?_;rintro M T8 U0 ⟨rfl,rfl,rfl⟩;have T4:decide (p.length<=(s.drop i).length/\(s.drop i).take p.length=p)=ut (s.drop i) p:=rfl;rw[T4];cases A:ut (s.drop i) p with
  |true=>have c:mw s i=some p:=(by unfold mw;obtain⟨a,T7⟩:=Ze.1 l;have al:om.drop E=p::om.drop (E+1):=(by rw[Zz a,T7]);rw[FL _ _ E g,al,zi,A]);rw[c];refine bh @n ⟨?_⟩;exact⟨rfl,aT.set b Zo f Zo⟩|false=>
   refine bA @r @N ⟨?_⟩;refine⟨m,Zo,E+1,Y t0,Y n,Y L,av,Zo,O,⟨Zo,b.K⟩,Zo,λq T2 x a=> ?_⟩;by_cases T3:q=E
   ·subst T3;rw[l]at a;cases a;exact A
   ·exact g q Zo x a
def nn(s:ax)(i:Nat):Option Tok:=match s[i]? with
 |none=>none|some c=>if e6 c then re s i else if jZ c then(if (lL s i).2 then some (lL s i).1 else none)else(mw s i).map rA
def hL(x:Tok)(i:Nat):Tok:=⟨x.kind,x.text,i,x.n,x.ty⟩
def kb(s:ax):Nat->List Tok->Nat->Option (Except Int (List Tok))
 |0,_,_=>none|n+1,aA,i=>if i<s.length then match nn s i with
   |none=>some (.error i)|some x=>kb s n (aA++[hL x i]) (iy s s.length (i+x.text.length))
  else some (.ok (aA++[⟨7,[],i,0,cg⟩]))
def yv(s:ax):∀(n i:Nat),i<=iy s n i:=by
 intro n;induction n with
 |zero=>intro i;exact Zg _|succ n U=>
  intro i;rw[iy];split
  ·exact Zg _
  ·split
   ·exact ZD Zo (U (i+1))
   ·split
    ·exact ZD Zo (U _)
    ·exact Zg _
def BI{s:ax}{i:Nat}{x:Tok}(e:nn s i=some x):1<=x.text.length/\i+x.text.length<=s.length:=by
 unfold nn at e;cases g:s[i]? with
 |none=>rw[g]at e;cases e|some c=>
  rw[g]at e;simp only[]at e;obtain⟨n,r⟩:=Ze.1 g;have al:s.drop i=c::s.drop (i+1):=by rw[Zz n,r]
  have t:(s.drop i).length=s.length-i:=YL;split at e
  ·rename_i m;have b:=rH e6 (s.drop i);have a:1<=((s.drop i).takeWhile e6).length:=(by rw[al,YY,m];simp);unfold re at e;simp only[]at e;generalize (s.drop i).takeWhile e6=d at*;split at e
   ·cases e
   ·have f:=rH fa (s.drop (i+d.length));rw[YL]at f;split at e
    ·cases e;exact⟨a,by show i+d.length<=_;omega⟩
    ·split at e
     ·split at e
      ·cases e;refine⟨?_, ?_⟩
       ·show 1<=(d++_).length;rw[ZG];omega
       ·show i+(d++_).length<=_;rw[ZG];omega
      ·cases e
     ·cases e
  ·split at e
   ·rename_i l;have b:=rH fa (s.drop i);have a:1<=((s.drop i).takeWhile fa).length:=(by rw[al,YY,show fa c=true from by simp[fa,l]];simp);split at e
    ·cases e;exact⟨a,by show i+((s.drop i).takeWhile fa).length<=_;omega⟩
    ·cases e
   ·simp only[Yr]at e;obtain⟨p,b,rfl⟩:=e;have a:=List.find?_some b;have f:=List.mem_of_find?_eq_some b;simp[ut]at a;refine⟨?_, ?_⟩
    ·show 1<=p.length;revert f;clear b a;revert p;decide
    ·show i+p.length<=_;omega
def ca.narrow{C:ai}{j:B R}{P:Nat->Prop}{b aO:Nat}{aB:y}{aR:List (List y)}(e:ca C j P b aB aO aR):ca C j (λh=>h=b) b aB aO aR:=⟨λ_=>rfl,e.many,e.wide,e.len,e.c0,e.cell⟩
structure tC(X:bf):Prop where
 err:gU X
 res:vA X
 sig:x7 X
def En(X:bf)(k:Nat)(r:Except Int (List Tok))(M:y)(S':B R)(W:Nat):Prop:=match r with
 | .error a=>M=.tuple [.au,.agg [.Z 20,.Z a]]| .ok aA=>∃ac ba,M=.tuple [ac,.agg [.Z 0,.Z 0]]/\ca X S' (λh=>h=ba) ba ac 7 (aA.map bm)/\k<=ba/\ba<W
def NZ(N:e2 X)(U3:tC X)(Uf:s.length<=65536)(T:∀c∈s,c<256)(Uz:(o X).aD<=k){a0:y}(Uv:c2 a0=some (.Z s.length))(Us:∀S' l,aT X j k S' l->oZ X S' a0=some (.str s))
 {r:Except Int (List Tok)}(I:kb s (s.length+1) [] (iy s s.length 0)=some r):
 az X 18 [a0] j k (λM S' W=>En X k r M S' W/\aT X j k S' W) zW:=by
 refine z6 N.tobW (Le ..) ?_;unfold C4;have Ui:decide ((65536:Int)<(s.length:Int))=false:=z1;have UX:=Us (aI X j k (zO [.Z 0,.Z 0] [y.Z 0,.Z 0].length)) (k+1) b8;refine bA @Uv @Ui ⟨?_⟩;refine dh UX ?_;refine br ⟨?_⟩;refine c6 (λam=>F X am k=zO [.Z 0,.Z 0] 2/\F X am (k+1)=zO [.str s,.Z ((0:Nat):Int)] 2/\aT X j k am (k+1+1)) ⟨by exact z2,by rw[aJ Zo];rfl,b8⟩ ?_;rintro am ⟨UQ,T4,US⟩;have Ub:hJ X am (k+1) s 0:=⟨T4,Zo,Uf,Zo⟩;refine(EN N Ub T Zo Zo).Zm ?_;rintro M ah ar ⟨t,U1⟩;have Uy:=U1.le;have UR:F X ah k=zO [.Z 0,.Z 0] 2:=by rw[U1.K _ Zo Zs];exact UQ
 have T7:aT X j k ah ar:=⟨Zo,λh a=>by rw[U1.K h Zo Zx];exact US.K h a⟩;refine dV ?_;refine cG (λm z S' l=>∃(aB:y) (aA:List Tok) (aQ:List Nat) (E:Nat),z.g 3=some (.ptr k 0)/\z.g 4=some (.ptr (k+1) 0)/\z.g 5=some aB/\F X S' k=zO [.Z 0,.Z 0] 2/\hJ X S' (k+1) s E/\cT X S' aB 7 (aA.map bm).flatten aQ/\(∀h∈aQ,k+2<=h/\h<l)/\aT X j k S' l/\k+2<=l/\aA.length<=E/\kb s m aA E=some r)
  (s.length+1) ⟨.au,[],[],_,av,av,av,UR,t,.inl (.inl ⟨rfl,rfl,rfl⟩),Zs,T7,Zo,Zs,I⟩ ?_
 clear I UQ T4 UR Ub t US T7 U1 Uy UX;rintro m z ah ar ⟨aB,aA,aQ,E,t3,t4,t5,T4,t,V3,C,T7,VM,VO,I⟩;have b1:=t.b1;have bS:=t.bS;have VJ:=t.le;cases m with|zero=>cases I|succ m=>
 rw[kb]at I;have Uw:∀r∈aA.map bm,r.length=7:=λr e=>by obtain⟨x,_,rfl⟩:=ZB.1 e;rfl
 have UY:=mb Uw;rw[Zj]at UY;have UP:∀(i:B R) (v b:Nat) (x:Tok),(∀h∈aQ,F X i h=F X ah h)->ar<=v->F X i b=zO (bm x) 7->
  ∃T0 f w,fP X i v 7 aB (.slice b 0 1 1)=some (.cJ T0 f (v+1))/\en X f T0 7 ((aA++[x]).map bm).flatten w/\(∀h∈w,h=v\/h∈aQ)/\∀h,h≠v->h∉aQ->F X f h=F X i h:=by
  intro i v b x Ut UZ Up;have V6:f9 X i 7 (.slice b 0 1 1)=some (1,bm x):=g6 Up (fS _) rfl _;obtain⟨T0,f,w,UB,T5,Ul,Um⟩:=(V3.K Ut).append (k:=v) Zd V6 rfl Zd rfl (by rw[UY,show(bm x).length=7 from rfl];omega) Zo (λh a=>zK (C h a));refine⟨T0,f,w,UB, ?_,Ul,Um⟩;rw[ZR,zx,ZH,List.map_nil,YD,List.flatten_nil,ZW];exact T5
 by_cases UJ:E<s.length
 ·have T3:=zM E s.length;rw[Zu UJ]at I;obtain⟨c,UH⟩:∃c,s[E]? =some c:=⟨_,Zb UJ⟩;have UI:=ph .i64 UH;have VI:=T c (Zl UH);refine c8 @t4 @b1 (Za @bS (Za @T3 @UI)) ⟨?_⟩;refine dV ?_;refine c8 @t4 @b1 (Za @bS (Za @T3 @UI)) ⟨?_⟩;refine dV ?_;refine c8 @t4 @b1 (Za @bS (Za @T3 @UI)) ⟨?_⟩;have rd:∀(q:Nat),(e6 c=true->q=37)->(e6 c=false->jZ c=true->q=39)->(e6 c=false->jZ c=false->q=35)->∀U7,ar<=U7->
   az X q [.ptr (k+1) 0] ah U7 (λM S' l=>(∃x,M=.tuple [.agg (bm x),.bool (nn s E).isSome]/\∀h,nn s E=some h->x=h)/\aT X ah U7 S' l) zW:=by
   intro q a7 bl U6 U7 VN;unfold nn;rw[UH];simp only[];cases O:e6 c with
   |true=>rw[a7 O];simp only[ZK];exact Tz N U3.err t T Zo Zo|false=>
    simp only[ZA,ZJ];cases T9:jZ c with
    |true=>
     rw[bl O T9];simp only[ZK];refine(ada N U3.err U3.res t T Zo Zo).Zm ?_;rintro M S' l ⟨rfl,UC⟩;refine⟨⟨(lL s E).1, ?_,λh e=> ?_⟩,UC⟩
     ·cases(lL s E).2<;>rfl
     ·split at e
      ·cases e;rfl
      ·cases e
    |false=>
     rw[U6 O T9];simp only[ZA,ZJ];refine(abA N U3.sig t Zo Zo).Zm ?_;rintro M S' l ⟨rfl,UC⟩;refine⟨⟨(match mw s E with|some p=>rA p|none=>el), ?_,λh e=> ?_⟩,UC⟩
     ·cases mw s E<;>rfl
     ·cases Ua:mw s E with|none=>rw[Ua]at e;cases e|some p=>rw[Ua]at e;cases e;rfl
  refine dW (λTY S' l=>∃q,TY.g 3=some (.ptr k 0)/\TY.g 4=some (.ptr (k+1) 0)/\TY.g 5=some aB/\TY.g 6=some (.func (.func q) [.ptr (k+1) 0] [])/\S'=ah/\ar<=l/\(e6 c=true->q=37)/\(e6 c=false->jZ c=true->q=39)/\(e6 c=false->jZ c=false->q=35)) (λVQ UK=> ?_) ?_
  ·refine(yT N.tobW c).Zm ?_;rintro M i v ⟨rfl,rfl,rfl⟩;cases O:e6 c with|true=>refine bh @t4 ⟨?_⟩;exact UK _ _ _ ⟨37,Y t3,Y t4,Y t5,av,rfl,Zo,λ_=>rfl,(λe=>absurd e (by simp[O])),(λe=>absurd e (by simp[O]))⟩|false=>refine bh @t4 ⟨?_⟩;refine(EL N.tobW c).Zm ?_;rintro M i v ⟨rfl,rfl,rfl⟩;cases T9:jZ c with|true=>refine bh @t4 ⟨?_⟩;exact UK _ _ _ ⟨39,Y t3,Y t4,Y t5,av,rfl,Zo,(λe=>absurd e (by simp[O])),λ_ _=>rfl,(λ_ e=>absurd e (by simp[T9]))⟩|false=>refine bh @t4 ⟨?_⟩;exact UK _ _ _ ⟨35,Y t3,Y t4,Y t5,av,rfl,Zo,(λe=>absurd e (by simp[O])),(λ_ e=>absurd e (by simp[T9])),λ_ _=>rfl⟩
  clear t3 t4 t5;rintro VH i v ⟨q,t3,t4,t5,Uh,rfl,UZ,a7,bl,U6⟩;refine bh @Uh ⟨?_⟩;refine(rd q a7 bl U6 _ UZ).Zm ?_;clear rd a7 bl U6 Uh;rintro M f d ⟨⟨x,rfl,V8⟩,T2⟩;have VK:=T2.le;have U9:F X f k=zO [.Z 0,.Z 0] 2:=by rw[T2.K _ Zo];exact T4
  have Uc:=t.K (T2.K (k+1) Zo);have UT:aT X j k f d:=T7.trans ⟨Zo,λh a=>T2.K h Zo⟩;have V7:bm x=[.Z x.kind,.str x.text,.Z x.at_,.int .u64 x.n,.bool x.ty.b,.bool x.ty.s,.Z x.ty.w]:=rfl;rw[V7];refine eO ⟨?_⟩;refine eO ⟨?_⟩;refine eO ⟨?_⟩;refine eO ⟨?_⟩;refine eO ⟨?_⟩;generalize T8:aI X _ d _=G;have L:∀h,h<d->F X G h=F X f h:=λh a=>by rw[<-T8];exact zQ
  have Uk:F X G d=zO (bm x) 7:=by rw[<-T8,aJ Zo];rfl
  have UA:=U9;rw[<-L _ Zo]at UA;have UM:=Uc.K (L (k+1) Zo);have UD:aT X j k G (d+1):=⟨Zo,λh a=>by rw[L h Zo];exact UT.K h a⟩;clear T8 U9;have U8:=UM.bS;cases U5:nn s E with
  |none=>rw[U5]at I;simp only[Zh]at I;subst I;simp only[Z6];refine cb @t4 @t3 @U8 ⟨?_⟩;exact⟨rfl,aT.set UD (Zg _) Uz Zo⟩|some h=>
   have:=V8 h U5;subst this;rw[U5]at I;simp only[]at I;obtain⟨VP,V9⟩:=BI U5;simp only[Z0];simp only[YT];refine cb @t4 @t3 @U8 ⟨?_⟩;generalize UE:aI X G d _=T1;have T6:∀h,h≠d->F X T1 h=F X G h:=λh a=>(by rw[<-UE,ag Zo a]);have A:F X T1 d=some (.cells (ch (B.ofList (bm x) 0 .nil) 2 [.Z (E:Int)]) 7 .own):=(by rw[<-UE,aJ Zo];rfl);have Ud:=UM.K (T6 (k+1) Zo);have UU:aT X j k T1 (d+1):=⟨Zo,λh a=>by rw[T6 h Zo];exact UD.K h a⟩;have TZ:=UA;rw[<-T6 _ Zo]at TZ;have Ug:∀h∈aQ,F X T1 h=F X i h:=λh a=>(by have:=C h a;rw[T6 h Zo,L h Zo,T2.K h Zo]);clear UE Uk UA UM UD U8 T6 L Uc UT;have bG:ay X T1 (.ptr d 1)=some (.str x.text):=(by rw[aZ A];rfl);have Uj:aH .add (.Z E) (.Z x.text.length)=some (.Z (E+x.text.length:Nat)):=(by rw[ck Zo Zo];rfl);refine k3 @bG ⟨?_⟩;refine eO ⟨?_⟩;refine k3 @Uj ⟨?_⟩;refine eO ⟨?_⟩;refine eO ⟨?_⟩;refine dh (eR (q:=1) (b:=k+1) (J:=1) (n:=2) Ud.g Zo rfl Zd Zd rfl) ?_;generalize UF:aI X T1 (k+1) _=g;have U0:∀h,h≠k+1->F X g h=F X T1 h:=λh a=>(by rw[<-UF,ag Zo a]);have V0:hJ X g (k+1) s (E+x.text.length):=⟨by rw[<-UF,aJ Zo];rfl,V9,Uf,Zo⟩;have Un:aT X j k g (d+1):=⟨Zo,λh a=>by rw[U0 h Zo];exact UU.K h a⟩;rw[<-U0 _ Zo]at A TZ;have VA:∀h∈aQ,F X g h=F X i h:=λh a=>(by have:=C h a;rw[U0 h Zo];exact Ug h a);clear UF U0 Ud UU Ug bG;have dr:ay X g (.ptr d 0)=some (.Z x.kind):=(by rw[aZ A];rfl);have bG:ay X g (.ptr d 1)=some (.str x.text):=(by rw[aZ A];rfl);have VB:ay X g (.ptr d 2)=some (.Z E):=(by rw[aZ A];rfl);have VC:ay X g (.ptr d 3)=some (.int .u64 x.n):=(by rw[aZ A];rfl);have VD:ay X g (.ptr d 4)=some (.bool x.ty.b):=(by rw[aZ A];rfl);have VE:ay X g (.ptr d 5)=some (.bool x.ty.s):=(by rw[aZ A];rfl);have VF:ay X g (.ptr d 6)=some (.Z x.ty.w):=(by rw[aZ A];rfl);refine cd @dr @bG @VB @VC @VD @VE (Za @VF @t5) ⟨?_⟩;obtain⟨T0,UO,w,U4,V5,Ur,Uu⟩:=UP (aI X g (d+1+11) (zO (bm (hL x E)) 7)) (d+1+11+1) (d+1+11) (hL x E) (λh a=>by have:=C h a;rw[ag Zo Zo];exact VA h a) Zo (aJ Zo);refine d7 U4 ?_;have bu:∀h,h<k+2->h∉aQ:=λh UB T5=>zK (C h T5);have UN:∀h,h<k+2->F X UO h=F X g h:=λh a=>(by rw[Uu h Zo (bu h a),ag Zo Zo]);have V1:=V0.K (UN (k+1) Zo);rw[<-UN _ Zo]at TZ;have Uo:aT X j k UO (d+1+11+1+1):=⟨Zo,λh a=>by rw[UN h Zo];exact Un.K h a⟩;have UG:∀h∈w,k+2<=h/\h<d+1+11+1+1:=λh a=>by
    rcases Ur h a with rfl|e
    ·omega
    ·have:=C h e;omega
   refine bh @t4 ⟨?_⟩;refine(EN N V1 T Zo Zo).Zm ?_;rintro M VG VR ⟨V2,U2⟩;have VL:=U2.le;refine⟨m,Zo,T0,aA++[hL x E],w,_,Y t3,Y t4,av,by rw[U2.K _ Zo Zs];exact TZ,V2,.inl (V5.K λh a=>U2.K h (UG h a).2 (by have:=UG h a;simp;omega)),λh a=>zK (UG h a),⟨Zo,λh a=>by rw[U2.K h Zo Zx];exact Uo.K h a⟩,Zo, ?_,I⟩;have:=yv s s.length (E+x.text.length);simp only[ZG,ZI,ZU];omega
 ·have T3:=zL E s.length;rw[Zi UJ]at I;cases I;refine dE @t4 @b1 @bS @T3 @t5 ⟨?_⟩;obtain⟨T0,f,w,U4,V4,Uq,UL⟩:=UP (aI X ah (ar+10) (zO (bm ⟨7,[],E,0,cg⟩) 7)) (ar+10+1) (ar+10) ⟨7,[],E,0,cg⟩ (λh a=>ag Zo (zK (C h a))) Zo (aJ Zo);refine d7 U4 ?_;have bu:∀h,h<k+2->h∉aQ:=λh UB T5=>zK (C h T5);have U9:F X f k=zO [.Z 0,.Z 0] 2:=by rw[UL _ Zo (bu _ Zo),ag Zo Zo];exact T4
  have T2:aT X j k f (ar+10+1+1):=⟨Zo,λh a=>by rw[UL _ Zo (bu _ Zo),ag Zo Zo];exact T7.K h a⟩;clear U4 UL;refine bh @t3 ⟨?_⟩;have Ux:∀r∈(aA++[(⟨7,[],E,0,cg⟩:Tok)]).map bm,r.length=7:=λr e=>by obtain⟨x,_,rfl⟩:=ZB.1 e;rfl
  generalize T8:aI X f k _=G;have L:∀h,h≠k->F X G h=F X f h:=λh a=>by rw[<-T8,ag Zo a]
  have UV:∀h∈w,k+2<=h/\h<ar+10+1+1:=λh a=>by
   rcases Uq h a with rfl|e
   ·omega
   ·have:=C h e;omega
  obtain⟨ba,Ue⟩:=(V4.K (S':=G) (λh a=>L h (zK (UV h a)))).kG Zd Ux Zx (P:=λh=>k<=h/\h<ar+10+1+1) (λh a=>zK (UV h a));have UW:=Ue.T Zs;exact⟨⟨T0,ba,rfl,ca.narrow Ue,UW.1,UW.2⟩,⟨Zo,λh a=>by rw[L h Zo];exact T2.K h a⟩⟩
variable{an ba:Nat}{aA:List Tok}
def AJ(p:y):gW X j 23 p=ay X j p:=Zk
def sT(p:y):gW X j 26 p=b4 X j 2 p:=Zk
def Fv:b0 X j .eql 20 true .nilIface .nilIface=some .zV:=Zk
def Fu(q a:Int):b0 X j .eql 20 true (iU q a) .nilIface=some .zT:=Zk
def EO:∃fn c,(o X).P.funcs[19]? =some fn/\fn.body=some c:=wn (yd X)
def aaM(c:bW X){a b:y}{aK:Bool->B R->Nat->Prop}(e:aK false j k):lD X (.func 19) ([]++[a,b]) none j k aK:=by refine⟨c.none _ _ rfl,EO,wo (yd X) ?_⟩;show nZ X 19 [a,b] none j k aK;rw[C9];unfold yc;show aG _ _;refine bh @Fv ⟨?_⟩;exact e
def aaN(A:bW X){a b:Nat}{q at_:Int}{bS bU:B y}{aK:Bool->B R->Nat->Prop}(r:(o X).aD<=a)(c:(o X).aD<=b)(C:a≠b)(G:a<k)(L:b<k)(x:F X j a=some (.cells bS 1 .own))(f:F X j b=some (.cells bU 2 .own))
 (e:∀S' s,k<=s->ay X S' (.ptr a 0)=some .bE->b4 X S' 2 (.ptr b 0)=some (.agg [.Z q,.Z at_])->(∀h,h<k->h≠a->h≠b->F X S' h=F X j h)->aK true S' s):lD X (.func 19) ([]++[.ptr a 0,.ptr b 0]) (some (iU q at_)) j k aK:=by
 refine⟨A.none _ _ rfl,EO,wo (yd X) ?_⟩;show nZ X 19 [.ptr a 0,.ptr b 0] (some (iU q at_)) j k aK;rw[C9];unfold yc;show aG _ _;have t:ly 26 (.agg [.Z 0,.Z 0]) true (iU q at_)=some (.tuple [.agg [.Z q,.Z at_],.zV]):=nL _ _ _;have m:∀(z:bO) (n:Nat),(xw z).g n=z.g n:=λ_ _=>rfl;refine cb @Fu @t @m ⟨?_⟩;generalize i:aI X _ k _=am;have v:F X am k=zO [.Z q,.Z at_] 2:=by rw[<-i,aJ Zo];rfl
 have g:∀h,h<k->F X am h=F X j h:=λh d=>by rw[<-i];exact zQ
 rw[<-g a G]at x;rw[<-g b L]at f;clear i;refine bA (aZ v) @m ⟨?_⟩;refine ed (by simp[y.same,iF,jb]) ?_;generalize l:aI X am a _=ah;have w:F X ah a=some (.cells (ch bS 0 [.bE]) 1 .own):=by rw[<-l,aJ r];rfl
 have p:∀h,h≠a->F X ah h=F X am h:=λh d=>by rw[<-l,ag r d]
 rw[<-p b Zo]at f;clear l;refine k3 @m ⟨?_⟩;refine dh (eR (q:=2) (b:=b) (J:=0) (n:=2) f c rfl Zd Zd rfl) ?_;show aK true _ _;refine e _ _ Zo ?_ ?_ (λh d N c4=> ?_)
 ·rw[aZ (by rw[ag c C];exact w),fF];rfl
 ·rw[jw,aZ (aJ c),aZ (aJ c),fF,fF];rfl
 ·rw[ag c c4,p h N,g h d]
def aaW{S:aY}{z:bO}{p V v w:y}(c:z.aP=[])(a:z.g 2=some p)(b:z.g 3=some V)(bG:ay X j p=some v)(d:b4 X j 2 V=some w)(e:S (.tuple [v,w]) j k):tg X S z j k:=by unfold tg;rw[c];show bt (z.g 2) (λp=>Z (gW X j 23 p) λv=>bt (z.g 3) λp=>Z (gW X j 26 p) λw=>S (.tuple [v,w]) j k);rw[a,b];refine iG ?_;rw[AJ,bG];refine gt ?_;refine iG ?_;rw[sT,d];exact gt e
def aaX{S:aY}{z:bO}{p V v w a b:y}(f:bW X)(g:z.aP=[⟨.fn (.func 19) [a,b],[]⟩])(c:z.g 2=some p)(d:z.g 3=some V)(bG:ay X j p=some v)(i:b4 X j 2 V=some w)(e:S (.tuple [v,w]) j k):tg X S z j k:=by unfold tg;rw[g];show lD X (.func 19) ([]++[a,b]) none j k λ_ j k=>ic X [.cell 2 23,.cell 3 26] S z [] j k;refine aaM f ?_;show bt (z.g 2) (λp=>Z (gW X j 23 p) λv=>bt (z.g 3) λp=>Z (gW X j 26 p) λw=>S (.tuple [v,w]) j k);rw[c,d];refine iG ?_;rw[AJ,bG];refine gt ?_;refine iG ?_;rw[sT,i];exact gt e
def Hy{S ab:aY}{z:bO}{a b:Nat}{q at_:Int}{bS bU:B y}(l:bW X)(s:z.aP=[⟨.fn (.func 19) [.ptr a 0,.ptr b 0],[]⟩])(g:z.g 2=some (.ptr a 0))(i:z.g 3=some (.ptr b 0))
 (A:(o X).aD<=a)(C:(o X).aD<=b)(m:a≠b)(n:a<k)(r:b<k)(d:F X j a=some (.cells bS 1 .own))(f:F X j b=some (.cells bU 2 .own))
 (e:∀S' c,k<=c->(∀h,h<k->h≠a->h≠b->F X S' h=F X j h)->S (.tuple [.bE,.agg [.Z q,.Z at_]]) S' c):uZ X S ab z (iU q at_) j k:=by
 unfold uZ;rw[s];show lD X (.func 19) ([]++[.ptr a 0,.ptr b 0]) (some (iU q at_)) j k λb j k=>a8 b (ic X [.cell 2 23,.cell 3 26] S z [] j k) _;refine aaN l A C m n r d f (λS' c x bG G t=> ?_);show bt (z.g 2) (λp=>Z (gW X S' 23 p) λv=>bt (z.g 3) λp=>Z (gW X S' 26 p) λw=>S (.tuple [v,w]) S' c);rw[g,i];refine iG ?_;rw[AJ,bG];refine gt ?_;refine iG ?_;rw[sT,G];exact gt (e S' c x t)
def Fc{fn:Fn}{first cap a:List y}{z:bO}{S:bO->Prop}(e:S (og z ⟨.fn fn cap,first++a⟩)):t6 (.func fn first cap) a z S:=e
def od(s:ax)(n:Nat):Option (Except (Int×Int) (List GE)):=match kb s (s.length+1) [] (iy s s.length 0)with
 |none=>none|some (.error a)=>some (.error (20,a))|some (.ok aA)=>match nodes n [] aA with
  |none=>none|some (.error a)=>some (.error (21,a))|some (.ok (aa,_))=>match jy aa with
   |some (q,a)=>some (.error (q,a))|none=>some (.ok aa)
def B2(X:bf)(k:Nat)(r:Except (Int×Int) (List GE))(M:y)(S':B R)(W:Nat):Prop:=match r with
 | .error (q,a)=>M=.tuple [.bE,.agg [.Z q,.Z a]]| .ok aa=>∃v,M=.tuple [v,.agg [.Z 0,.Z 0]]/\p0 X S' (bR k W) aa v
def sl(s:ax):∀(n i:Nat),i<=s.length->iy s n i<=s.length:=by
 intro n;induction n with
 |zero=>intro i e;exact e|succ n U=>
  intro i e;rw[iy];split
  ·exact e
  ·rename_i c a;have b:=(Ze.1 a).1;split
   ·exact U _ Zo
   ·split
    ·have:=rH (λc=>decide (c≠10)) (s.drop i);rw[YL]at this;exact U _ Zo
    ·exact e
def BJ(s:ax):∀(n:Nat) (aA:List Tok) (i:Nat) (dA:List Tok),aA.length<=i->i<=s.length->kb s n aA i=some (.ok dA)->dA.length<=s.length+1:=by
 intro n;induction n with
 |zero=>intro aA i dA _ _ e;cases e|succ n U=>
  intro aA i dA b c e;rw[kb]at e;split at e
  ·split at e
   ·cases e
   ·rename_i x a;obtain⟨a7,bl⟩:=BI a;have d:=yv s s.length (i+x.text.length);exact U _ _ _ Zx (sl s _ _ bl) e
  ·cases e;simp;omega
def ψ(C:e2 X)(Uc:tC X)(Ud:mF X){s:ax}{n:Nat}(Uj:n<=170000)(Uo:s.length<=65536)(T:∀c∈s,c<256)(f:(o X).aD<=k){a0:y}(Uf:c2 a0=some (.Z s.length))(Ue:∀S' T4,aT X j k S' T4->oZ X S' a0=some (.str s))
 {r:Except (Int×Int) (List GE)}(I:od s n=some r):
 az X 5 [a0] j k (λM S' W=>B2 X k r M S' W/\aT X j k S' W) zW:=by
 refine tW (Mx X) (C.none _ _ rfl) ?_;rw[My];unfold DD;refine br ⟨?_⟩;refine c6 (λam=>F X am k=zO [.bE] 1/\F X am (k+1)=zO [.Z 0,.Z 0] 2/\aT X j k am (k+1+1)) ⟨by exact z2,by rw[aJ Zo];rfl,b8⟩ ?_;rintro am ⟨UF,UG,UL⟩;unfold od at I;obtain⟨T6,UA⟩:∃T6,kb s (s.length+1) [] (iy s s.length 0)=some T6:=by
  cases e:kb s (s.length+1) [] (iy s s.length 0)with
  |none=>rw[e]at I;cases I|some T6=>exact⟨T6,rfl⟩
 rw[UA]at I;refine(NZ C Uc Uo T Zo Uf (λS' T4 e=>Ue S' T4 (UL.trans e)) UA).Zm ?_;rintro M ah ar ⟨UB,T8⟩;have V0:=T8.le;have T0:F X ah k=zO [.bE] 1:=by rw[T8.K _ Zo];exact UF
 have UH:F X ah (k+1)=zO [.Z 0,.Z 0] 2:=by rw[T8.K _ Zo];exact UG
 have UM:=UL.trans T8;clear UF UG;cases T6 with
 |error a=>
  simp only[Zh]at I;subst I;simp only[En]at UB;subst UB;have U0:decide ((20:Int)≠0)=true:=rfl;refine bh @U0 ⟨?_⟩;generalize G:aI X ah (k+1) _=g;have T1:F X g (k+1)=zO [.Z 20,.Z a] 2:=by rw[<-G,aJ Zo];rfl
  have m:∀h,h≠k+1->F X g h=F X ah h:=λh d=>by rw[<-G,ag Zo d]
  rw[<-m _ Zo]at T0;have T2:aT X j k g ar:=⟨Zo,λh d=>by rw[m h Zo];exact UM.K h d⟩;clear G m UH;refine dh (eR (q:=1) (b:=k) (J:=0) (n:=1) T0 f rfl Zd Zd rfl) ?_;generalize U4:aI X g k _=i;have U1:F X i k=some (.cells (ch (B.ofList [.bE] 0 .nil) 0 [.bE]) 1 .own):=by rw[<-U4,aJ f];rfl
  have U3:∀h,h≠k->F X i h=F X g h:=λh d=>by rw[<-U4,ag f d]
  rw[<-U3 _ Zo]at T1;have Ub:aT X j k i ar:=⟨Zo,λh d=>by rw[U3 h Zo];exact T2.K h d⟩;clear U4 U3 T0 T2;refine k3 (aZ T1) ⟨?_⟩;refine ed (by simp[y.same,iF,jb]) ?_;refine dh (eR (q:=2) (b:=k+1) (J:=0) (n:=2) T1 Zo rfl Zd Zd rfl) ?_;refine aaW (v:=.bE) (w:=.agg [.Z 20,.Z a]) rfl (cW) (cW) ?_ ?_ ⟨rfl,aT.set Ub Zo f Zo⟩
  ·rw[aZ (by rw[ag Zo Zo];exact U1),fF];rfl
  ·rw[jw,aZ (aJ Zo),aZ (aJ Zo),fF,fF];rfl
 |ok aA=>
  obtain⟨ac,ba,rfl,UQ,Uw,Ux⟩:=UB;simp only[]at I;have U0:decide ((0:Int)≠0)=false:=rfl;refine bh @U0 ⟨?_⟩;generalize G:aI X ah (k+1) _=g;have T1:F X g (k+1)=zO [.Z 0,.Z 0] 2:=by rw[<-G,aJ Zo];rfl
  have m:∀h,h≠k+1->F X g h=F X ah h:=λh d=>by rw[<-G,ag Zo d]
  rw[<-m _ Zo]at T0;have T2:aT X j k g ar:=⟨Zo,λh d=>by rw[m h Zo];exact UM.K h d⟩;have Un:=UQ.K (S':=g) (λh d=>by subst d;exact m h Zo);clear G m UH;refine Fc ?_;obtain⟨UX,Uu,Uv⟩:=fU UQ.len;refine br ⟨?_⟩;have UY:dp [.au,.Z 0] [(0,1,ac)]=some (.agg [ac,.Z 0]):=by simp[dp,lE,l9,UX,iH]
  refine dh UY ?_;refine br ⟨?_⟩;generalize T9:og _ _=O;have UW:O.aP=[⟨.fn (.func 19) [.ptr k 0,.ptr (k+1) 0],[]⟩]:=by rw[<-T9];rfl
  have P:O.g 2=some (.ptr k 0):=by rw[<-T9];rfl
  have t3:O.g 3=some (.ptr (k+1) 0):=by rw[<-T9];rfl
  have UD:∀l,gH 2 l=false->(eH l O).g 2=some (.ptr k 0):=λl e=>by simp[l8,P,e]
  have UE:∀l,gH 3 l=false->(eH l O).g 3=some (.ptr (k+1) 0):=λl e=>by simp[l8,t3,e]
  have UC:∀l,(eH l O).aP=[⟨.fn (.func 19) [.ptr k 0,.ptr (k+1) 0],[]⟩]:=λl=>UW;clear T9;refine c6 (λi=>F X i ar=zO [ac,.Z ((0:Nat):Int)] 2/\aT X g ar i (ar+1)) ⟨by rw[aJ Zo];rfl,b8⟩ ?_;rintro i ⟨U1,T3⟩;have V1:=BJ s _ _ _ _ Zs (sl s _ _ Zo) UA;have Uk:aj X i ar ba aA 0:=⟨⟨_,ac,U1,rfl,rfl,Un.K λh d=>by subst d;exact T3.K h Zo⟩,Zo⟩;have Ul:e3 X i (ar+1) ar ba aA 0:=⟨Zo,Zo,Zo,Zo,Zo,Uk⟩;obtain⟨T5,UR⟩:∃T5,nodes n [] aA=some T5:=by cases e:nodes n [] aA with|none=>rw[e]at I;cases I|some T5=>exact⟨T5,rfl⟩
  rw[UR]at I;have US:F X i k=zO [.bE] 1:=by rw[T3.K _ Zo];exact T0
  have UT:F X i (k+1)=zO [.Z 0,.Z 0] 2:=by rw[T3.K _ Zo];exact T1
  refine(aar C.tobW Ud Uj Zo Ul (r:=T5) UR).mono ?_ ?_
  ·rintro v A TY ⟨aa,i5,rfl,U9,_,x⟩;have Uh:=x.le;simp only[]at I;have Us:F X A k=zO [.bE] 1:=(by rw[x.K _ Zo Zx];exact US);have Ut:F X A (k+1)=zO [.Z 0,.Z 0] 2:=(by rw[x.K _ Zo Zx];exact UT);have UP:∀h,h<k->F X A h=F X j h:=λh d=>(by rw[x.K h Zo Zx,T3.K h Zo];exact T2.K h d);obtain⟨p,_,_,_,rfl,UN,_⟩:=U9.prog;have Uy:=UN.1;have Uz:=UN.2;refine k3 @P ⟨?_⟩;refine dh (eR (q:=1) (b:=k) (J:=0) (n:=1) Us f rfl Zd Zd rfl) ?_;generalize U5:aI X A k _=L;have U2:F X L k=some (.cells (ch (B.ofList [.bE] 0 .nil) 0 [.ptr p 0]) 1 .own):=(by rw[<-U5,aJ f];rfl);have T7:∀h,h≠k->F X L h=F X A h:=λh d=>(by rw[<-U5,ag f d]);clear U5;have Up:ay X L (.ptr k 0)=some (.ptr p 0):=(by rw[aZ U2,fF];rfl);refine k3 @P ⟨?_⟩;refine k3 @Up ⟨?_⟩;have Um:=U9.K (S':=L) (aK:=bR (ar+1) TY) (λh d=>T7 h (zK d.1)) (λ_ e=>e);have UU:F X L (k+1)=zO [.Z 0,.Z 0] 2:=(by rw[T7 _ Zo];exact Ut);refine(Sz (k:=TY) (j:=L) C.tobW Zo Um.prog (λh d=>d.2)).mono ?_ ?_
   ·rintro V2 N Ur ⟨U8,rfl,t⟩;have Ui:=t.le;rw[U8]at I;simp only[Zh]at I;subst I;have UI:F X N k=some (.cells (ch (B.ofList [.bE] 0 .nil) 0 [.ptr p 0]) 1 .own):=(by rw[t.K _ Zo];exact U2);have UV:F X N (k+1)=zO [.Z 0,.Z 0] 2:=(by rw[t.K _ Zo];exact UU);have Uq:ay X N (.ptr k 0)=some (.ptr p 0):=(by rw[aZ UI,fF];rfl);refine k3 @P ⟨?_⟩;refine k3 @Uq ⟨?_⟩;refine eO ⟨?_⟩;refine k3 @P ⟨?_⟩;refine dh (eR (q:=1) (b:=k) (J:=0) (n:=1) UI f rfl Zd Zd rfl) ?_;generalize U6:aI X N k _=TZ;have UZ:F X TZ k=some (.cells (ch (ch (B.ofList [.bE] 0 .nil) 0 [.ptr p 0]) 0 [.ptr p 0]) 1 .own):=(by rw[<-U6,aJ f];rfl);have UK:∀h,h≠k->F X TZ h=F X N h:=λh d=>(by rw[<-U6,ag f d]);rw[<-UK _ Zo]at UV;clear U6;refine k3 @t3 ⟨?_⟩;refine dh (eR (q:=2) (b:=k+1) (J:=0) (n:=2) UV Zo rfl Zd Zd rfl) ?_;have UO:∀bQ h,h≠k->h≠k+1->h<TY->F X (aI X TZ (k+1) bQ) h=F X A h:=λbQ h UJ Ua m=>(by rw[ag Zo Ua,UK h UJ,t.K h m,T7 h UJ]);refine aaX (v:=.ptr p 0) (w:=.agg [.Z 0,.Z 0]) C.tobW UW P t3 ?_ ?_ ⟨⟨.ptr p 0,rfl,U9.K (λh d=>UO _ h (zK d.1) (zK d.1) d.2) (λh d=>⟨zK d.1,zK d.2⟩)⟩,⟨Zo,λh d=>by rw[UO _ h Zo Zo Zo];exact UP h d⟩⟩
    ·rw[aZ (by rw[ag Zo Zo];exact UZ),fF];rfl
    ·rw[jw,aZ (aJ Zo),aZ (aJ Zo),fF,fF];rfl
   ·rintro M N Ur ⟨q,a,U8,rfl,t⟩;have Ui:=t.le;rw[U8]at I;simp only[Zh]at I;subst I;refine Hy (bS:=ch (B.ofList [.bE] 0 .nil) 0 [.ptr p 0]) (bU:=B.ofList [.Z 0,.Z 0] 0 .nil) C.tobW (UC _) (UD _ rfl) (UE _ rfl) f Zo Zo Zo Zo ?_ ?_ (λS' T4 Ug U7=>⟨rfl,Zo,λh d=> ?_⟩)
    ·rw[t.K _ Zo];exact U2
    ·rw[t.K _ Zo];exact UU
    ·rw[U7 h Zo Zo Zo,t.K h Zo,T7 h Zo];exact UP h d
  ·rintro M A TY ⟨a,rfl,rfl,x⟩;have Uh:=x.le;simp only[Zh]at I;subst I;refine Hy (bS:=B.ofList [.bE] 0 .nil) (bU:=B.ofList [.Z 0,.Z 0] 0 .nil) C.tobW (UC _) (UD _ rfl) (UE _ rfl) f Zo Zo Zo Zo ?_ ?_ (λS' T4 Ug U7=>⟨rfl,Zo,λh d=> ?_⟩)
   ·rw[x.K _ Zo Zx];exact US
   ·rw[x.K _ Zo Zx];exact UT
   ·rw[U7 h Zo Zo Zo,x.K h Zo Zx,T3.K h Zo];exact T2.K h d
end
end
end Go.Proofs.YtehmapikajmjaaaGreatDoor
namespace Go.aj
def ew:List Tok->Prop
 |[]=>False|x::l=>x.kind=7/\x.text=[]\/ew l
def ew.jc{x:Tok}{l:List Tok}(e:ew (x::l))(a:x.kind≠7):ew l:=e.resolve_left λq=>a q.1
def cr{α:Type}(b:Nat)(aK:α->Prop)(x:dn α):Prop:=∃r,x=some r/\∀a c,r=.ok (a,c)->ew c/\c.length<b/\aK a
def jM(u:aX):Prop:=u.kind=4->u.args≠[]
def cr.mono{α:Type}{b d:Nat}{aK c:α->Prop}{x:dn α}(e:cr b aK x)(T:b<=d)(i:∀a,aK a->c a):cr d c x:=by obtain⟨r,f,g⟩:=e;exact⟨r,f,λa m u=>by obtain⟨a7,bl,l⟩:=g a m u;exact⟨a7,Zo,i a l⟩⟩
def cr.ok{α:Type}{b:Nat}{aK:α->Prop}{a:α}{l:List Tok}(c:ew l)(d:l.length<b)(f:aK a):cr b aK (aj.ok a l):=⟨_,rfl,λg i u=>by cases u;exact⟨c,d,f⟩⟩
def cr.bad{α:Type}{b:Nat}{aK:α->Prop}(a:Int):cr b aK (aj.bad a:dn α):=⟨_,rfl,λc d u=>by cases u⟩
def cr.andThen{α cz:Type}{b g:Nat}{aK:α->Prop}{d:cz->Prop}{x:dn α}{f:α->List Tok->dn cz}(e:cr b aK x)(q:∀a c,ew c->c.length<b->aK a->cr g d (f a c)):cr g d (aj.andThen x f):=by obtain⟨r,rfl,i⟩:=e;cases r with|error a=>exact⟨_,rfl,λm c u=>by cases u⟩|ok p=>obtain⟨a,c⟩:=p;obtain⟨a7,bl,l⟩:=i a c rfl;exact q a c a7 bl l
def Bu{x:Tok}{s:ax}(e:ek x s=true):x.kind≠7:=by intro u;simp[ek,u]at e
def ii{s:ax}{l:List Tok}(e:ew l):cr l.length (λ_=>True) (cq s l):=by
 cases l with
 |nil=>exact e.elim|cons x l=>
  simp only[cq];split
  ·rename_i a;exact cr.ok (e.jc (Bu a)) Zs trivial
  ·exact cr.bad _
def mj{q:Int}(a:q≠7){l:List Tok}(e:ew l):cr l.length (λx:Tok=>True) (eT q l):=by
 cases l with
 |nil=>exact e.elim|cons x l=>
  simp only[eT];split
  ·rename_i b;exact cr.ok (e.jc Zo) Zs trivial
  ·exact cr.bad _
def jF{cz:Type}{s:ax}{l:List Tok}{f:Option Tok->List Tok->dn cz}{b:Nat}{aK:cz->Prop}(e:ew l)(d:∀x a,ew a->a.length+1=l.length->cr b aK (f (some x) a))(g:cr b aK (f none l)):cr b aK (eE s l f):=by
 cases l with
 |nil=>exact e.elim|cons x l=>
  unfold eE gv;by_cases c:ek x s=true
  ·simp only[c];exact d x l (e.jc (Bu c)) Zs
  ·grind
def EM{l:List Tok}(e:ew l):∀os:List (ax×Int),∃u a,hM os l=some (u,a)/\(u=none/\a=l\/∃x,u=some x/\ew a/\a.length+1=l.length):=by
 cases l with
 |nil=>exact e.elim|cons x l=>
  intro os;induction os with
  |nil=>exact⟨_,_,rfl,.inl ⟨rfl,rfl⟩⟩|cons J os U=>
   obtain⟨s,q⟩:=J;unfold hM gv;by_cases b:ek x s=true
   ·simp only[b];exact⟨_,_,rfl,.inr ⟨_,rfl,e.jc (Bu b),Zs⟩⟩
   ·grind
structure I4(n:Nat):Prop where
 level:∀q l,q<=5->ew l->13*l.length+9-q<=n->cr l.length jM (level n q l)
 hR:∀q u l,q<=4->ew l->jM u->13*l.length+1<=n->cr (l.length+1) jM (hR n q u l)
 shift:∀l,ew l->13*l.length+3<=n->cr l.length jM (shift n l)
 ie:∀u l,ew l->jM u->13*l.length+1<=n->cr (l.length+1) jM (ie n u l)
 ig:∀q x u l,q≠4->ew l->13*l.length+1<=n->cr l.length jM (ig n q x u l)
 lO:∀l,ew l->13*l.length+2<=n->cr l.length jM (li n l)
 hl:∀u l,ew l->jM u->13*l.length+1<=n->cr (l.length+1) jM (hl n u l)
 part:∀l,ew l->13*l.length+1<=n->cr l.length jM (part n l)
 list:∀l,ew l->13*l.length+12<=n->cr l.length (λ_=>True) (list n l)
 hS:∀a l,ew l->13*l.length+1<=n->cr l.length (λ_=>True) (hS n a l)
 gk:∀l,ew l->13*l.length+10<=n->cr l.length jM (gk n l)
 arrow:∀l,ew l->13*l.length+11<=n->cr l.length jM (arrow n l)
def lR{u:aX}(e:u.kind≠4):jM u:=λq=>absurd q e
def BP{u:aX}(e:u.args≠[]):jM u:=λ_=>e
def ew.pos{l:List Tok}(e:ew l):0<l.length:=by cases l with
 |nil=>exact e.elim|cons x l=>simp
def NW:∀n,I4 n:=by
 intro n;induction n with
 |zero=>constructor<;>(intros;rename_i e _ _;omega)|succ n U=>
  constructor;case level=>
   intro q l O b s;rw[level];split
   ·exact U.shift l b Zo
   ·refine(U.level (q+1) l Zo b Zo).andThen λu f d g C=> ?_;exact(U.hR q u f Zo d C Zo).mono Zo λ_ e=>e
  case hR=>
   intro q u l O b N s;have:=b.pos;rw[hR];obtain⟨J,f,d,g⟩:=EM b (ae q);rw[d];rcases g with ⟨rfl,rfl⟩|⟨x,rfl,C,X⟩
   ·exact cr.ok b Zo N
   ·simp only[];refine(U.level (q+1) f Zo C Zo).andThen λr i a7 bl w=> ?_;split
    ·exact cr.ok a7 Zo (BP (by simp[two,aX.args]))
    ·exact(U.hR q _ i O a7 (BP (by simp[two,aX.args])) Zo).mono Zo λ_ e=>e
  case shift=>
   intro l b s;have:=b.pos;rw[shift];refine(U.lO l b Zo).andThen λu f d g C=> ?_;exact(U.ie u f d C Zo).mono Zo λ_ e=>e
  case ie=>
   intro u l b N s;have:=b.pos;rw[ie];refine jF b (λx f d g=>(U.ig 19 x u f Zd d Zo).mono Zo λ_ e=>e) ?_;refine jF b (λx f d g=>(U.ig 20 x u f Zd d Zo).mono Zo λ_ e=>e) ?_;exact cr.ok b Zo N
  case ig=>
   intro q x u l O b s;have:=b.pos;rw[ig];refine(mj Zd b).andThen λm f d g C=> ?_;split
   ·exact cr.bad _
   ·exact(U.ie _ f d (lR (by simpa[aX.kind]using O)) Zo).mono Zo λ_ e=>e
  case lO=>
   intro l b s;have:=b.pos;rw[li];obtain⟨J,f,d,g⟩:=EM b oe;rw[d];rcases g with ⟨rfl,rfl⟩|⟨x,rfl,C,X⟩
   ·simp only[];refine(U.part f b Zo).andThen λu i a7 bl w=> ?_;exact(U.hl u i a7 w Zo).mono Zo λ_ e=>e
   ·simp only[];refine(U.lO f C Zo).andThen λu i a7 bl w=> ?_;exact cr.ok a7 Zo (BP (by simp[aX.args]))
  case hl=>
   intro u l b N s;have:=b.pos;rw[hl];refine jF b (λx f d g=> ?_) (cr.ok b Zo N);have:=d.pos;refine jF d (λh i a7 bl=> ?_) ?_
   ·refine(mj Zd a7).andThen λm t p G A=> ?_;exact(U.hl _ t p (lR (by simp[aX.kind])) Zo).mono Zo λ_ e=>e
   ·refine(mj Zd d).andThen λm t p G A=> ?_;exact(U.hl _ t p (lR (by simp[aX.kind])) Zo).mono Zo λ_ e=>e
  case list=>
   intro l b s;have:=b.pos;rw[list];refine jF b (λx f d g=>cr.ok d Zo trivial) ?_;refine(U.arrow l b Zo).andThen λu i a7 bl w=> ?_;exact(U.hS _ i a7 Zo).mono Zo λ_ e=>e
  case hS=>
   intro T3 l b s;have:=b.pos;rw[hS];refine jF b (λx f d g=> ?_) ?_
   ·refine(U.arrow f d Zo).andThen λu i a7 bl w=> ?_;exact(U.hS _ i a7 Zo).mono Zo λ_ e=>e
   ·exact(ii b).andThen λ_ f d g _=>cr.ok d Zo trivial
  case gk=>
   intro l b s;have:=b.pos;rw[gk];refine(U.level 0 l Zo b Zo).andThen λu i a7 bl w=> ?_;refine jF a7 (λx f d g=> ?_) (cr.ok a7 Zo w);have T7:k9 u≠none:=by
    unfold k9;split
    ·simp
    ·split
     ·rename_i X;have:=w X;cases T5:u.args with|nil=>exact absurd T5 this|cons a l=>simp
     ·simp
   simp only[];split
   ·rename_i e;exact absurd e T7
   ·refine(U.gk f d Zo).andThen λr t p G A=> ?_;exact cr.ok p Zo (lR (by simp[aX.kind]))
   ·exact cr.bad _
  case arrow=>
   intro l b s;have:=b.pos;rw[arrow];refine(U.gk l b Zo).andThen λu i a7 bl w=> ?_;refine jF a7 (λx f d g=> ?_) (cr.ok a7 Zo w);refine(U.arrow f d Zo).andThen λr t p G A=> ?_;exact cr.ok p Zo (lR (by simp[aX.kind]))
  case part=>
   intro l b s;cases l with|nil=>exact b.elim|cons x l=>
   simp only[ZI]at s;rw[part];have T6:(x::l).length=l.length+1:=rfl;rw[T6];by_cases T2:x.kind=5
   ·rw[Zu T2];exact cr.ok (b.jc Zo) Zo (lR (by simp[aX.kind]))
   rw[Zi T2];split
   ·rename_i e;have:x.kind=2:=(by simp at e;exact e.1);exact cr.ok (b.jc Zo) Zo (lR (by simp[aX.kind]))
   by_cases bS:x.kind=1
   ·rw[Zu bS];have v:=b.jc Zo;refine jF v (λh i d g=> ?_) (cr.ok v Zo (lR (by simp[aX.kind])));refine(U.list i d Zo).andThen λT3 t p G A=> ?_;exact cr.ok p Zo (lR (by simp[aX.kind]))
   rw[Zi bS];by_cases T1:x.kind=3
   ·rw[Zu T1];have v:=b.jc Zo;refine(ii v).andThen λ_ i d g _=> ?_;refine(U.arrow i d Zo).andThen λu t p G A=> ?_;refine(ii p).andThen λ_ P L T0 _=> ?_;exact cr.ok L Zo (lR (by simp[aX.kind]))
   rw[Zi T1];split
   ·rename_i e;have:x.kind=6:=(by simp at e;exact e.1);have v:=b.jc Zo;refine(U.arrow l v Zo).andThen λu t p G A=> ?_;refine(ii p).andThen λ_ P L T0 _=> ?_;exact cr.ok L Zo A
   split
   ·rename_i e;have:x.kind=2:=(by simp at e;exact e.1);have v:=b.jc Zo;refine(U.arrow l v Zo).andThen λu t p G A=> ?_;refine(ii p).andThen λ_ P L T0 _=> ?_;refine(U.arrow P L Zo).andThen λT4 U1 T9 U4 U5=> ?_;refine(ii T9).andThen λ_ T8 TY U6 _=> ?_;refine(U.arrow T8 TY Zo).andThen λU0 U2 TZ U7 U8=> ?_;exact cr.ok TZ Zo (lR (by simp[aX.kind]))
   split
   ·rename_i e;have:x.kind=2:=(by simp at e;exact e.1);have v:=b.jc Zo;refine(mj Zd v).andThen λc i d g _=> ?_;refine(U.part i d Zo).andThen λu t p G A=> ?_;refine(U.part t p Zo).andThen λT4 P L T0 U3=> ?_;exact cr.ok L Zo (lR (by simp[aX.kind]))
   ·exact cr.bad _
def GX:∀(n:Nat) (a l:List Tok),ew l->l.length<=n->cr l.length (λ_=>True) (kB n a l):=by intro n;induction n with|zero=>intro a l e c;have:=e.pos;omega|succ n U=>intro a l e c;refine(mj Zd e).andThen λx g b f _=> ?_;refine jF b (λh d a7 bl=>(U _ d a7 Zo).mono Zo λ_ e=>e) (cr.ok b Zo trivial)
def O3{w:Option Tok}{l:List Tok}(e:ew l):cr (l.length+1) (λ_=>True) (nR w l):=by
 cases w with
 |none=>exact cr.ok e Zo trivial|some w=>
  refine jF e (λh d a7 bl=> ?_) ?_
  ·exact(mj Zd a7).andThen λx b a c _=>cr.ok a Zo trivial
  ·exact(mj Zd e).andThen λx b a c _=>cr.ok a Zo trivial
def yP:∀(n:Nat) (loc:Bool) (d:List cR) (l:List Tok),ew l->l.length+1<=n->cr l.length (λ_=>True) (eV n loc d l):=by
 intro n;induction n with
 |zero=>grind|succ n U=>
  intro loc d l e N;refine(GX n [] l e Zo).andThen λG O v L _=> ?_;refine(ii v).andThen λ_ P a7 bl _=> ?_;refine(mj Zd a7).andThen λt m s X _=> ?_;have fin:∀w a,ew a->a.length<=m.length->cr l.length (λ_=>True) (andThen (nR w a) λr l=>l6 loc (eV n loc) (d++G.map (jq t.ty r.1 r.2.1 r.2.2)) l):=by
   intro w a f C;refine(O3 f).andThen λr x b c _=> ?_;unfold l6;cases x with
   |nil=>exact b.elim|cons h p=>
    simp only[oo,ZI]at c ⊢;split
    ·rename_i i;have g:=b.resolve_left λq=>(by rw[q.2]at i;cases i);split
     ·cases p with
      |nil=>exact g.elim|cons aw A=>
       simp only[oo];split
       ·exact cr.ok b (by simp at c ⊢;omega) trivial
       ·exact(U _ _ (aw::A) g (by simp at c ⊢;omega)).mono (by simp at c ⊢;omega) λ_ e=>e
     ·exact(U _ _ p g Zo).mono Zo λ_ e=>e
    ·exact cr.ok b Zx trivial
  refine jF s (λh a f C=>fin _ a f Zo) (fin _ m s Zo)
def PN{n:Nat}{l:List Tok}(e:ew l)(A:13*l.length+12<=n):cr l.length (λ_=>True) (m0 n l):=by
 have fin:∀(x:dn (List Tok)),cr (l.length+1) (λ_=>True) x->cr l.length (λ_=>True) (andThen x λa l=>andThen (cq [61] l) λu l=>andThen (arrow n l) λr l=>andThen (cq [59] l) λ_ l=>ok (⟨a.map Tok.text,a.map Tok.at_,u.at_,r⟩:cS) l):=by intro x m;refine m.andThen λa p b i _=> ?_;refine(ii b).andThen λ_ c a7 bl _=> ?_;refine((NW n).arrow c a7 Zo).andThen λu g d t _=> ?_;exact(ii d).andThen λ_ s f v _=>cr.ok f Zo trivial
 refine jF e (λh p b i=>fin _ ?_) (fin _ ?_)
 ·refine(mj Zd b).andThen λx c a7 bl _=> ?_;refine(ii a7).andThen λ_ g d t _=> ?_;refine(GX n _ g d Zo).andThen λa s f v _=> ?_;exact(ii f).andThen λ_ C w G _=>cr.ok w Zo trivial
 ·exact(mj Zd e).andThen λx c a7 bl _=>cr.ok a7 Zo trivial
def PS:∀(n:Nat) (c:List cS) (l:List Tok),ew l->13*l.length+13<=n->cr l.length (λ_=>True) (gC n c l):=by intro n;induction n with|zero=>grind|succ n U=>intro c l e f;refine jF e (λh b a d=>cr.ok a Zo trivial) ?_;refine(PN e Zo).andThen λV b a d _=> ?_;exact(U _ b a Zo).mono Zo λ_ e=>e
def Tt{n:Nat}{l:List Tok}(e:ew l)(T1:13*l.length+13<=n):cr l.length (λ_=>True) (node n l):=by
 refine(ii e).andThen λ_ T2 P T0 _=> ?_;refine(mj Zd P).andThen λx T3 a7 bl _=> ?_;refine(ii a7).andThen λ_ r G T4 _=> ?_;have O:∀cv out a,ew a->a.length<r.length->cr l.length (λ_=>True) (eE [118,97,114] a λh l=>andThen (match h with
  |some _=>andThen (eV n true [] l) λg l=>andThen (cq [59] l) λ_ l=>ok g l|none=>ok [] l) λloc l=>
  andThen (cq [108,101,116] l) λ_ l=>andThen (gC n [] l) λf l=>ok (⟨x.text,x.at_,cv,out,loc,f⟩:Node) l):=by
  intro cv out a d L;have C:∀(aw:dn (List cR)),cr (a.length+1) (λ_=>True) aw->cr l.length (λ_=>True) (andThen aw λloc l=>
   andThen (cq [108,101,116] l) λ_ l=>andThen (gC n [] l) λf l=>ok (⟨x.text,x.at_,cv,out,loc,f⟩:Node) l):=by
   intro aw p;refine p.andThen λloc s m N _=> ?_;refine(ii m).andThen λ_ i b v _=> ?_;refine(PS n _ i b Zo).andThen λf t c w _=> ?_;exact cr.ok c Zo trivial
  refine jF d (λh s m N=>C _ ?_) (C _ (cr.ok d Zo trivial));refine(yP n _ _ s m Zo).andThen λg i b v _=> ?_;exact(ii b).andThen λ_ t c w _=>cr.ok c Zo trivial
 have A:∀(aw:dn (List cR)),cr (r.length+1) (λ_=>True) aw->cr l.length (λ_=>True) (andThen aw λcv l=>
  andThen (cq [114,101,116,117,114,110,115] l) λ_ l=>andThen (cq [40] l) λ_ l=>andThen (eV n false [] l) λout l=>andThen (cq [41] l) λ_ l=>
  eE [118,97,114] l λh l=>andThen (match h with
  |some _=>andThen (eV n true [] l) λg l=>andThen (cq [59] l) λ_ l=>ok g l|none=>ok [] l) λloc l=>
  andThen (cq [108,101,116] l) λ_ l=>andThen (gC n [] l) λf l=>ok (⟨x.text,x.at_,cv,out,loc,f⟩:Node) l):=by
  intro aw p;refine p.andThen λcv a d L _=> ?_;refine(ii d).andThen λ_ s m N _=> ?_;refine(ii m).andThen λ_ i b v _=> ?_;refine(yP n _ _ i b Zo).andThen λout t c w _=> ?_;refine(ii c).andThen λ_ X t1 T5 _=> ?_;exact O cv out X t1 Zo
 refine jF G (λh a d L=>A _ (cr.ok d Zo trivial)) (A _ ?_);refine(yP n _ _ r G Zo).andThen λg i b v _=> ?_;exact(ii b).andThen λ_ t c w _=>cr.ok c Zo trivial
def Tw:∀(n:Nat) (aa:List Node) (l:List Tok),ew l->13*l.length+14<=n->cr l.length (λ_=>True) (nodes n aa l):=by
 intro n;induction n with
 |zero=>grind|succ n U=>
  intro aa l e d;refine(Tt e Zo).andThen λg b a c _=> ?_;cases b with
  |nil=>exact a.elim|cons x f=>
   simp;split
   ·exact cr.ok a Zo trivial
   ·exact(U _ _ a Zo).mono Zo λ_ e=>e
end Go.aj
namespace Go.Proofs.YtehmapikajmjaaaGreatDoor
open Go.aC Go.aj
def ew.snoc{x:Tok}(a:x.kind=7)(b:x.text=[]):∀l:List Tok,ew (l++[x]):=by intro l;induction l with|nil=>exact .inl ⟨a,b⟩|cons h l U=>exact .inr U
def acx(s:ax):∀(n:Nat) (aA:List Tok) (i:Nat),i<=s.length->s.length<i+n->∃r,kb s n aA i=some r/\∀dA,r=.ok dA->ew dA:=by
 intro n;induction n with
 |zero=>grind|succ n U=>
  intro aA i b c;rw[kb];split
  ·cases a:nn s i with|none=>grind|some x=>obtain⟨a7,bl⟩:=BI a;have d:=yv s s.length (i+x.text.length);exact U _ _ (sl s _ _ bl) Zo
  ·exact⟨_,rfl,λdA e=>by cases e;exact ew.snoc rfl rfl _⟩
def φ{s:ax}(g:s.length<=5000):∃r,od s 170000=some r:=by unfold od;obtain⟨r,b,c⟩:=acx s (s.length+1) [] (iy s s.length 0) (sl s _ _ Zo) Zo;rw[b];cases r with|error a=>grind|ok aA=>simp;have f:=BJ s _ _ _ _ Zs (sl s _ _ Zo) b;obtain⟨r,d,_⟩:=Tw 170000 [] aA (c aA rfl) Zo;rw[d];cases r with|error a=>grind|ok p=>obtain⟨aa,l⟩:=p;simp;cases jy aa with|none=>grind|some V=>grind
noncomputable def nd(s:ax):Except (Int×Int) (List GE):=match od s 170000 with
 |some r=>r|none=> .error (0,0)
def HB{s:ax}(a:s.length<=5000):od s 170000=some (nd s):=by obtain⟨r,e⟩:=φ a;unfold nd;rw[e]
section
variable{X:bf}{j:B R}{k:Nat}
def υ(d:e2 X)(a:tC X)(b:mF X){s:ax}(l:s.length<=5000)(T:∀c∈s,c<256)(i:(o X).aD<=k){a0:y}(g:c2 a0=some (.Z s.length))(f:∀S' m,aT X j k S' m->oZ X S' a0=some (.str s)):
 az X 5 [a0] j k (λM S' W=>B2 X k (nd s) M S' W/\aT X j k S' W) zW:=
 ψ d a b (Zg _) Zo T i g f (HB l)
end
noncomputable section
def sy(nm:ax):Nat->List GE->Option Nat
 |_,[]=>none|q,g::l=>if g.name=nm then some q else sy nm (q+1) l
def js(aa:List GE)(nm:ax):Option Nat:=sy nm 0 aa
section
variable{X:bf}{j S' am ah:B R}{k W ak ar:Nat}{P:Nat->Prop}{aa:List GE}
def RE(a:bW X){g:GE}{row:List y}(l:(o X).aD<=k)(d:ir X j P g row){c:Nat}{nm:ax}(i:c<k)(b:ay X j (.ptr c 0)=some (.str nm)):
 az X 121 [.agg row,.ptr c 0] j k (λM S' W=>M=.bool (decide (g.name=nm))/\aT X j k S' W) zW:=by
 refine z6 a (JQ ..) ?_;unfold Cm;obtain⟨bK,bM,aB,n,bb,bn,bH,f,m,rfl,_⟩:=d;refine bh @b ⟨?_⟩;exact⟨rfl,b8⟩
def Rq(t:bW X){aB:y}{bz:Nat}{aR:List (List y)}(TY:(o X).aD<=k)(i:ca X j P bz aB 6 aR)(w:lv X j P aa aR)(aU:∀h,P h->h<k){c:Nat}{nm:ax}(L:c<k)(N:ay X j (.ptr c 0)=some (.str nm)):
 az X 120 [aB,.func (.func 121) [] [.ptr c 0]] j k (λM S' W=>M=.Z (match js aa nm with|some q=>(q:Int)|none=> -1)/\aT X j k S' W) zW:=by
 refine z6 t (JO ..) ?_;unfold Cl;have x:=w.wide;have C:=i.len;have T1:=i.many;rw[x.1]at C T1;refine bh @C ⟨?_⟩;refine cG (λm z S' T6=>∃(E:Nat),z.g 0=some aB/\z.g 1=some (.func (.func 121) [] [.ptr c 0])/\z.g 7=some (.Z aa.length)/\z.g 8=some (.Z E)/\E+m=aa.length/\aT X j k S' T6/\js aa nm=sy nm E (aa.drop E))
  aa.length ⟨0,av,av,av,cW,Zo,aT.refl _ _,rfl⟩ ?_
 rintro m z ah ar ⟨E,t0,t1,p,r,T8,b,a⟩;have T9:=b.le;cases m with
 |zero=>have d:=zL E aa.length;rw[ZM Zo]at a;refine cb @r @p @d ⟨?_⟩;exact⟨by rw[a];rfl,b⟩|succ m=>
  have d:=zM E aa.length;have G:=zP E;obtain⟨g,v⟩:=zN aa E;have al:aa.drop E=g::aa.drop (E+1):=by obtain⟨T5,n⟩:=Ze.1 v;rw[Zz T5,n]
  obtain⟨row,T3,T2⟩:=w.get E g v;have A:=λh (n:P h)=>b.K h (aU h n);have T0:=i.c0 E (by rw[x.1];omega);have T4:=(i.K A).row Zd T3;have O:ay X ah (.ptr c 0)=some (.str nm):=zV (b.K c L) N;rw[al,sy]at a;refine cd @r @p @t1 @t0 @d @T0 @T4 ⟨?_⟩;refine(RE t Zo (T2.K (aK:=P) A (λ_ e=>e)) Zo O).Zm ?_;rintro M T7 TZ ⟨rfl,s⟩;by_cases f:g.name=nm
  ·rw[Zu f]at a;have l:decide (g.name=nm)=true:=(by simp[f]);rw[l];refine br ⟨?_⟩;exact⟨by rw[a],b.trans s⟩
  ·rw[Zi f]at a;have l:decide (g.name=nm)=false:=(by simp[f]);rw[l];refine bA @r @G ⟨?_⟩;exact⟨m,Zo,E+1,Y t0,Y t1,Y p,av,Zo,b.trans s,a⟩
def Fw(b:Nat):b0 X j .eql 23 true (.ptr b 0) .bE=some .zT:=Zk
def GM{C:ai}{j:B R}(x:Int):jo C j .max [3,3] [.Z x,.Z 0]=some (.Z (max x 0)):=by show h2 true (.Z x) [.Z 0]=_;simp only[h2,c3,k6,ZK];congr 2;simp only[Zf];split<;>omega
def y6(g:bW X){v:y}(s:(o X).aD<=k)(n:iQ X j P aa v)(aU:∀h,P h->h<k)(nm:ax):
 az X 89 [v,.str nm] j k (λM S' W=>M=.tuple [.Z (((js aa nm).getD 0:Nat):Int),.bool (js aa nm).isSome]/\aT X j k S' W) zW:=by
 refine z6 g (M6 ..) ?_;unfold Ea;obtain⟨b,aB,bz,aR,rfl,m,a0,t,p⟩:=n;have w:=aU b m;refine bA @Fw @a0 ⟨?_⟩;refine c6 (λam=>F X am k=zO [.str nm] 1/\aT X j k am (k+1)) ⟨aJ s,b8⟩ ?_;rintro am ⟨l,a⟩;have i:=λh (c:P h)=>a.K h (aU h c);refine(Rq (k:=k+1) (j:=am) g Zo (t.K i) (p.K (aK:=P) i (λ_ e=>e)) (λh c=>zK (aU h c)) Zo (by rw[aZ l];rfl)).Zm ?_;rintro M ah ar ⟨rfl,f⟩;cases x:js aa nm with|none=>refine bh @GM ⟨?_⟩;exact⟨rfl,a.trans f⟩|some q=>have d:decide ((0:Int)<=(q:Int))=true:=zZ;have r:max (q:Int) 0=(q:Int):=Zo;refine cb @GM @d @r ⟨?_⟩;exact⟨rfl,a.trans f⟩
end
end
end Go.Proofs.YtehmapikajmjaaaGreatDoor
