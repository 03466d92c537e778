/- Part of the proof of the last text; no conditions -/
import Derived.Test.YtmipngjbcdamjaaGreatDoorYh
set_option maxHeartbeats 8000000
set_option linter.all false
namespace Go.Proofs.YtmipngjbcdamjaaGreatDoor
open Go.Q
noncomputable section
variable (X : bQ) (S : F ac) (nx : Nat) (M ad : be) (a0 aE aW a3 a4 a5 dS dW dA : q)
def vQ:Za1:=λ_ a b c d _=>l (ag .lss a (.Z 10)) λe=>aq (λa b c=>N (a 0) λe=>l (ag .mul e (.Z 2)) λe=>N (a 0) λa=>l (ag .mul a (.Z 2)) λa=>l (ag .add a (.Z 2)) λa=>l (kq (.str [48,48,48,49,48,50,48,51,48,52,48,53,48,54,48,55,48,56,48,57,49,48,49,49,49,50,49,51,49,52,49,53,49,54,49,55,49,56,49,57,50,48,50,49,50,50,50,51,50,52,50,53,50,54,50,55,50,56,50,57,51,48,51,49,51,50,51,51,51,52,51,53,51,54,51,55,51,56,51,57,52,48,52,49,52,50,52,51,52,52,52,53,52,54,52,55,52,56,52,57,53,48,53,49,53,50,53,51,53,52,53,53,53,54,53,55,53,56,53,57,54,48,54,49,54,50,54,51,54,52,54,53,54,54,54,55,54,56,54,57,55,48,55,49,55,50,55,51,55,52,55,53,55,54,55,55,55,56,55,57,56,48,56,49,56,50,56,51,56,52,56,53,56,54,56,55,56,56,56,57,57,48,57,49,57,50,57,51,57,52,57,53,57,54,57,55,57,56,57,57]) (some e) (some a)) λa=>d a b c) λf=>aA e (l (ag .add a (.Z 1)) λe=>l (kq (.str [48,49,50,51,52,53,54,55,56,57,97,98,99,100,101,102,103,104,105,106,107,108,109,110,111,112,113,114,115,116,117,118,119,120,121,122]) (some a) (some e)) λa=>d a b c) (f (zC (bN [a]) 2 (.str []) 4 e) b c)
def B7:cl X 169 [a0]=vQ X a0:=Zk
def B6:b9 X 169 1=true:=Zk
end
open Go.Q Go.a6
noncomputable section
def eu(t:d7):Bool:=if t.b then !t.s&&decide (t.w=1)else decide (1<=t.w)&&decide (t.w<=64)
def iz(n:Nat):aT:=if n<10 then[48+n]else[48+n/10,48+n%10]
def nV(t:d7):aT:=if eu t then(if t.b then[98,111,111,108]else(if t.s then 105 else 117)::iz t.w.toNat)else[]
section
variable{X:bQ}{S B ay aM:F ac}{nx nx' aG aL LO:Nat}{s:aT}{i:Nat}
def r1(d:dV X)(t:d7)(f:(o X).aN<=nx):aJ X 94 [.agg (eP t)] S nx (λL B nx'=>L= .bool (eu t)/\aX X S nx B nx') zG:=by
 refine zB d (DI X) ?_
 rw[DJ]
 unfold wN eP
 obtain⟨b,s,w⟩:=t
 cases b<;>cases s
 all_goals
  by_cases a:1<=w
  ·have c:decide ((1:Int)<=w)=true:=by simp[a]
   refine bB @c ⟨?_⟩
   exact⟨by simp[eu,a],dJ⟩
  ·have c:decide ((1:Int)<=w)=false:=by simp[a]
   refine bB @c ⟨?_⟩
   exact⟨by simp[eu,a],dJ⟩
def Kr:∀n<10,([48,49,50,51,52,53,54,55,56,57,97,98,99,100,101,102,103,104,105,106,107,108,109,110,111,112,113,114,115,116,117,118,119,120,121,122].drop n).take (n+1-n)=iz n:=by decide+kernel
def sy:aT:=[48,48,48,49,48,50,48,51,48,52,48,53,48,54,48,55,48,56,48,57,49,48,49,49,49,50,49,51,49,52,49,53,49,54,49,55,49,56,49,57,50,48,50,49,50,50,50,51,50,52,50,53,50,54,50,55,50,56,50,57,51,48,51,49,51,50,51,51,51,52,51,53,51,54,51,55,51,56,51,57,52,48,52,49,52,50,52,51,52,52,52,53,52,54,52,55,52,56,52,57,53,48,53,49,53,50,53,51,53,52,53,53,53,54,53,55,53,56,53,57,54,48,54,49,54,50,54,51,54,52,54,53,54,54,54,55,54,56,54,57,55,48,55,49,55,50,55,51,55,52,55,53,55,54,55,55,55,56,55,57,56,48,56,49,56,50,56,51,56,52,56,53,56,54,56,55,56,56,56,57,57,48,57,49,57,50,57,51,57,52,57,53,57,54,57,55,57,56,57,57]
def Kt:sy.length=200:=by decide+kernel
def Ks:∀n<100,10<=n->(sy.drop (n*2)).take (n*2+2-n*2)=iz n:=by decide+kernel
def yh(a:dV X){n:Nat}(m:n<100):aJ X 95 [.Z (n:Int)] S nx (λL B nx'=>L= .str (iz n)/\B=S/\nx'=nx) zG:=by
 refine zB a (DK X) ?_
 rw[DL]
 unfold wO
 refine zB a (BS X) ?_
 rw[BT]
 unfold vG
 refine zB a (BY X) ?_
 rw[BZ]
 unfold vM
 have g:decide ((0:Int)<=(n:Int))=true:=zK
 have i:decide ((n:Int)<100)=true:=zK
 refine ci @g @i ⟨?_⟩
 refine zB a (B6 X) ?_
 rw[B7]
 unfold vQ
 by_cases e:n<10
 ·have b:decide ((n:Int)<10)=true:=zK
  have c:=zz n
  have d:kq (.str [48,49,50,51,52,53,54,55,56,57,97,98,99,100,101,102,103,104,105,106,107,108,109,110,111,112,113,114,115,116,117,118,119,120,121,122]) (some (.Z (n:Int))) (some (.Z ((n+1:Nat):Int)))=some (.str (iz n)):=by
   rw[AP .i64 .i64 Zo Zx,Kr n e]
  refine cw @b @c @d ⟨?_⟩
  exact⟨rfl,rfl,rfl⟩
 ·have b:decide ((n:Int)<10)=false:=zJ
  have c:ag .mul (.Z (n:Int)) (.Z 2)=some (.Z ((n*2:Nat):Int)):=by rw[GO Zo Zo];rfl
  have d:ag .add (.Z ((n*2:Nat):Int)) (.Z 2)=some (.Z ((n*2+2:Nat):Int)):=by rw[ct Zo Zo];rfl
  have f:kq (.str sy) (some (.Z ((n*2:Nat):Int))) (some (.Z ((n*2+2:Nat):Int)))=some (.str (iz n)):=by
   rw[AP .i64 .i64 Zo (zu Kt),Ks n m Zo]
  unfold sy at f
  refine cV @b @c @d @f ⟨?_⟩
  exact⟨rfl,rfl,rfl⟩
end
def oC(nm:aT):Nat->List Go.a6.Node->Option Nat
 |_,[]=>none
 |k,g::h=>if g.name=nm then some k else oC nm (k+1) h
def eh(T:List Go.a6.Node)(nm:aT):Option Nat:=oC nm 0 T
section
variable{X:bQ}{S B ay aM:F ac}{nx nx' aG aL:Nat}{P:Nat->Prop}{T:List Go.a6.Node}
def GX(a:dV X){g:Go.a6.Node}{row:List q}(i:(o X).aN<=nx)(d:mW X S P g row){c:Nat}{nm:aT}(f:c<nx)(b:W X S (.ptr c 0)=some (.str nm)):
 aJ X 104 [.agg row, .ptr c 0] S nx (λL B nx'=>L= .bool (decide (g.name=nm))/\aX X S nx B nx') zG:=by
 refine zB a (BC X) ?_
 rw[BD]
 unfold vw
 obtain⟨bx,bz,au,n,b0,bb,b4,c1,m,rfl,_⟩:=d
 refine bB @b ⟨?_⟩
 exact⟨rfl,dJ⟩
def GR(w:dV X){au:q}{bL:Nat}{rows:List (List q)}(U3:(o X).aN<=nx)(n:cg X S P bL au 6 rows)(z:mX X S P T rows)(T1:∀f,P f->f<nx){c:Nat}{nm:aT}(T2:c<nx)(T3:W X S (.ptr c 0)=some (.str nm)):
 aJ X 103 [au, .func (.func 104) [] [.ptr c 0]] S nx (λL B nx'=>L= .Z (match eh T nm with|some k=>(k:Int)|none=> -1)/\aX X S nx B nx') zG:=by
 refine zB w (BA X) ?_
 rw[BB]
 unfold vv
 have C:=z.wide
 have O:=n.len
 have T7:=n.many
 rw[C.1]at O T7
 refine bB @O ⟨?_⟩
 refine cM (λm y B ah=>∃(E:Nat),y.g 0=some au/\y.g 1=some (.func (.func 104) [] [.ptr c 0])/\y.g 7=some (.Z (T.length:Int))/\y.g 8=some (.Z (E:Int))/\E+m=T.length/\aX X S nx B ah/\eh T nm=oC nm E (T.drop E))
  T.length ⟨0,aI,aI,aI,cx,Zo,aX.refl _ _,rfl⟩ ?_
 rintro m y aM aL ⟨E,t0,Z,s,t,U1,b,a⟩
 have U2:=b.le
 cases m with
 |zero=>
  have d:=zv E T.length
  rw[YK Zo]at a
  refine cw @t @s @d ⟨?_⟩
  exact⟨by rw[a];rfl,b⟩
 |succ m=>
  have d:=zw E T.length
  have T0:=zz E
  obtain⟨g,x⟩:=zx T E
  have T5:T.drop E=g::T.drop (E+1):=by
   obtain⟨TZ,r⟩:=Zf.1 x
   rw[ZY TZ,r]
  obtain⟨row,T9,T8⟩:=z.get E g x
  have G:=λf (r:P f)=>b.R f (T1 f r)
  have T6:=n.cP E (by rw[C.1];omega)
  have TY:=(n.R G).row Zd T9
  have T4:W X aM (.ptr c 0)=some (.str nm):=zF (b.R c T2) T3
  rw[T5,oC]at a
  refine bo @t @s @Z @t0 @d @T6 @TY ⟨?_⟩
  refine(GX w Zo (T8.R (bi:=P) G (λ_ e=>e)) Zo T4).Zm ?_
  rintro L U0 U4 ⟨rfl,v⟩
  by_cases i:g.name=nm
  ·rw[Zv i]at a
   have p:decide (g.name=nm)=true:=by simp[i]
   rw[p]
   refine bh ⟨?_⟩
   exact⟨by rw[a],b.trans v⟩
  ·rw[Zj i]at a
   have p:decide (g.name=nm)=false:=by simp[i]
   rw[p]
   refine ci @t @T0 ⟨?_⟩
   exact⟨m,Zo,E+1,al t0,al Z,al s,aI,Zo,b.trans v,a⟩
def xF(b:Nat):bZ X S .eql 23 true (.ptr b 0) .bt=some .zF:=Zk
def yK{C:ax}{S:F ac}(x:Int):jX C S .max [3,3] [.Z x, .Z 0]=some (.Z (max x 0)):=by
 show hC true (.Z x) [.Z 0]=_
 simp only[hC,cK,jr,ZP]
 congr 2
 simp only[Zc]
 split<;>omega
def xR(m:dV X){v:q}(x:(o X).aN<=nx)(s:kC X S P T v)(f:∀a,P a->a<nx)(nm:aT):
 aJ X 78 [v, .str nm] S nx (λL B nx'=>L= .tuple [.Z (((eh T nm).getD 0:Nat):Int), .bool (eh T nm).isSome]/\aX X S nx B nx') zG:=by
 refine zB m (Dm X) ?_
 rw[Dn]
 unfold wC
 obtain⟨b,au,bL,rows,rfl,r,a0,z,t⟩:=s
 have C:=f b r
 refine ci @xF @a0 ⟨?_⟩
 refine l7 (λay=>H X ay nx=zy [.str nm] 1/\aX X S nx ay (nx+1)) ⟨a7 x,dJ⟩ ?_
 rintro ay ⟨p,c⟩
 have n:=λa (g:P a)=>c.R a (f a g)
 refine(GR (nx:=nx+1) (S:=ay) m Zo (z.R n) (mX.R (bi:=P) t n (λ_ e=>e)) (λa g=>zu (f a g)) Zo (by rw[aZ p];rfl)).Zm ?_
 rintro L aM aL ⟨rfl,i⟩
 cases G:eh T nm with
 |none=>
  refine bB @yK ⟨?_⟩
  exact⟨rfl,c.trans i⟩
 |some k=>
  have d:decide ((0:Int)<=(k:Int))=true:=zK
  have w:max (k:Int) 0=(k:Int):=Zo
  refine cw @yK @d @w ⟨?_⟩
  exact⟨rfl,c.trans i⟩
end
mutual
def mO{b:Type}(step:b->bg->b×Bool):b->bg->b
 |s, .mk k a nm no t n args=>if (step s (.mk k a nm no t n args)).2=true then kw step (step s (.mk k a nm no t n args)).1 args else(step s (.mk k a nm no t n args)).1
def kw{b:Type}(step:b->bg->b×Bool):b->List bg->b
 |s,[]=>s
 |s,j::h=>kw step (mO step s j) h
end
def Lw{a:Type}(step:a->bg->a×Bool)(s:a)(j:bg):mO step s j=if (step s j).2=true then kw step (step s j).1 j.args else(step s j).1:=by
 cases j;rw[mO];rfl
def AO{j a:bg}(e:a∈j.args):SizeOf.sizeOf a<SizeOf.sizeOf j:=by
 cases j with
 |mk k at_ nm no t n args=>
  have b:a∈args:=e
  have:=List.sizeOf_lt_of_mem b
  simp
  omega
section
variable{X:bQ}{S B ay aM:F ac}{nx nx' aG aL:Nat}
def Ly(U3:dV X){g:Type}(step:g->bg->g×Bool)(P:Nat->Prop)(n:g->F ac->Nat->Prop)(cE:F ac)(dh:bg->q->Prop)(U4:∀j b au bL aB,dh j (.ptr b 0)->W X cE (.ptr b 8)=some au->cg X cE P bL au 1 (aB.map λv=>[v])->jL X cE P j.args aB->∀(i:Nat) a w,j.args[i]? =some a->aB[i]? =some w->dh a w)(k:Nat)(G jm:List q)
 (U9:∀(s:g) (j:bg) (v:q) (S:F ac) (nx:Nat),n s S nx->dh j v->c7 X S P j v->(∀c,P c->H X S c=H X cE c)->aJ X k ((G++[v])++jm) S nx (λL B nx'=>L= .bool (step s j).2/\n (step s j).1 B nx'/\∀c,P c->H X B c=H X S c) zG):
 ∀(bT:Nat) (j:bg),SizeOf.sizeOf j<bT->∀(s:g) (v:q) (S:F ac) (nx:Nat),n s S nx->dh j v->c7 X S P j v->(∀c,P c->H X S c=H X cE c)->
  aJ X 105 [v, .func (.func k) G jm] S nx (λL B nx'=>L= .tuple []/\n (mO step s j) B nx'/\∀c,P c->H X B c=H X S c) zG:=by
 intro bT
 induction bT with
 |zero=>intro j e;omega
 |succ bT U=>
  intro j UD s v S nx U1 K T3 p
  refine zB U3 (BE X) ?_
  rw[BF]
  unfold vx
  obtain⟨b,au,bL,aB,rfl,Y,_,_,_,_,_,_,_,_,dA,x,has⟩:=id T3.open
  have T4:=x.len
  have T5:=has.len
  rw[Zn,T5]at T4
  have U8:=x.many
  rw[Zn,T5]at U8
  rw[Lw]
  refine bB @I7 ⟨?_⟩
  refine(U9 s j _ S nx U1 K T3 p).Zm ?_
  rintro L ay aG ⟨rfl,T1,O⟩
  cases UE:(step s j).2 with
  |false=>
   refine bh ⟨?_⟩
   exact⟨rfl,T1,O⟩
  |true=>
   have T9:W X ay (.ptr b 8)=some au:=zF (O b Y) dA
   refine ci @T9 @T4 ⟨?_⟩
   refine cM (λm y B ah=>∃(E:Nat) (C:g),y.g 1=some (.func (.func k) G jm)/\y.g 17=some au/\y.g 18=some (.Z (j.args.length:Int))/\y.g 19=some (.Z (E:Int))/\E+m=j.args.length/\n C B ah/\(∀c,P c->H X B c=H X S c)/\kw step (step s j).1 j.args=kw step C (j.args.drop E))
    j.args.length ⟨0,_,aI,aI,aI,cx,Zo,T1,O,rfl⟩ ?_
   rintro m y aM aL ⟨E,C,T7,T8,Z,T0,UF,T2,r,z⟩
   cases m with
   |zero=>
    have d:=zv E j.args.length
    rw[YK Zo,kw]at z
    refine cw @T0 @Z @d ⟨?_⟩
    exact⟨rfl,by simp only[ZP];rw[z];exact T2,r⟩
   |succ m=>
    have d:=zw E j.args.length
    have TY:=zz E
    obtain⟨a,t⟩:=zx j.args E
    have U6:j.args.drop E=a::j.args.drop (E+1):=by
     obtain⟨UA,f⟩:=Zf.1 t
     rw[ZY UA,f]
    obtain⟨w,T6,U5⟩:=has.get E a t
    obtain⟨TZ,U0,UC⟩:=(x.R r).one T6
    rw[U6,kw]at z
    refine bo @T0 @Z @T8 @T7 @d @TZ @U0 ⟨?_⟩
    have UG:=AO (Zg t)
    refine(U a Zo C w aM aL T2 (U4 j b au bL aB K (by rw[bX, <-p b Y, <-bX];exact dA) (x.R λc f=>(p c f).symm) (jL.R (λc f=>(p c f).symm) _ _ has) E a w t T6) (c7.R r _ _ U5) (λc f=>(r c f).trans (p c f))).Zm ?_
    rintro L UB UH ⟨rfl,U2,U7⟩
    refine ci @T0 @TY ⟨?_⟩
    exact⟨m,Zo,E+1,_,al T7,al T8,al Z,aI,Zo,U2,λc f=>by rw[U7 c f,r c f],z⟩
def Lx(m:dV X){c:Type}(step:c->bg->c×Bool)(P:Nat->Prop)(b:c->F ac->Nat->Prop)(k:Nat)(d jm:List q)
 (n:∀(s:c) (j:bg) (v:q) (S:F ac) (nx:Nat),b s S nx->c7 X S P j v->aJ X k ((d++[v])++jm) S nx (λL B nx'=>L= .bool (step s j).2/\b (step s j).1 B nx'/\∀a,P a->H X B a=H X S a) zG)
 (bT:Nat)(j:bg)(i:SizeOf.sizeOf j<bT)(s:c)(v:q)(S:F ac)(nx:Nat)(f:b s S nx)(g:c7 X S P j v):
  aJ X 105 [v, .func (.func k) d jm] S nx (λL B nx'=>L= .tuple []/\b (mO step s j) B nx'/\∀a,P a->H X B a=H X S a) zG:=
 Ly m step P b S (λ_ _=>True) (λ_ _ _ _ _ _ _ _ _ _ _ _ _ _=>trivial) k d jm (λs j v S nx f _ g _=>n s j v S nx f g) bT j i s v S nx f trivial g (λ_ _=>rfl)
end
def cS(X:bQ)(S:F ac)(a:Nat)(p:q)(k:Int)(bn bp:q)(f:Int×Int):Prop:=H X S a=zy [p, .Z k,bn,bp, .Z f.1, .Z f.2] 6
def fe(f:Int×Int)(c a:Int):Int×Int:=if f.1=0 then(c,a)else f
section
variable{X:bQ}{S B ay aM:F ac}{nx nx' aG aL:Nat}
def jY(s:dV X){b:Nat}{p bn bp:q}{k:Int}{f:Int×Int}(w:(o X).aN<=b)(n:cS X S b p k bn bp f)(c a:Int):
 aJ X 79 [.ptr b 0, .Z c, .Z a] S nx (λL B nx'=>L= .tuple []/\cS X B b p k bn bp (fe f c a)/\nx<=nx'/\∀m,m≠b->H X B m=H X S m) zG:=by
 refine zB s (Do X) ?_
 rw[Dp]
 unfold wD
 obtain⟨g,v⟩:=f
 have e1:=n
 unfold cS at n
 have r:W X S (.ptr b 4)=some (.Z g):=by rw[aZ n];rfl
 by_cases i:g=0
 ·have d:decide (g=0)=true:=by simp[i]
  refine j6 ⟨?_⟩
  refine j6 ⟨?_⟩
  refine j6 ⟨?_⟩
  refine ci @r @d ⟨?_⟩
  refine⟨rfl, ?_,Zp _,λm t=>aV Zo t⟩
  unfold cS fe
  rw[a7 Zo]
  simp only[i,ZP]
  rfl
 ·have d:decide (g=0)=false:=by simp[i]
  refine ci @r @d ⟨?_⟩
  refine⟨rfl, ?_,Zp _,λ_ _=>rfl⟩
  unfold fe
  simp only[i,ZM]
  exact e1
def kj(j:bg):Bool:=decide (j.kind=2)||decide (j.kind=6)||decide (j.kind=24)
def Iq(g:dV X){P:Nat->Prop}{j:bg}{v:q}(i:c7 X S P j v):
 aJ X 107 [v] S nx (λL B nx'=>L= .bool (kj j)/\B=S/\nx<=nx') zG:=by
 refine zB g (BI X) ?_
 rw[BJ]
 unfold vz
 obtain⟨b,rfl,Y,a0⟩:=i.ptr
 by_cases a:j.kind=2
 ·have d:decide (j.kind=2)=true:=by simp[a]
  refine ci @a0 @d ⟨?_⟩
  exact⟨by simp[kj,a],rfl,Zo⟩
 ·have d:decide (j.kind=2)=false:=by simp[a]
  by_cases c:j.kind=6
  ·have f:decide (j.kind=6)=true:=by simp[c]
   refine cw @a0 @d @f ⟨?_⟩
   exact⟨by simp[kj,c],rfl,Zo⟩
  ·have f:decide (j.kind=6)=false:=by simp[c]
   refine cw @a0 @d @f ⟨?_⟩
   exact⟨by simp[kj,a,c],rfl,Zo⟩
end
def oy(j:aT×q×Nat):q×q×Nat:=(.str j.1,j.2.1,j.2.2)
variable{aD:Type}[DecidableEq aD]
def gY:List (aD×q×Nat)->aD->Nat->Option (Nat×q)
 |[],_,_=>none
 |x::bI,w,i=>if x.1=w then some (i,x.2.1)else gY bI w (i+1)
def jv(bI:List (aD×q×Nat))(w:aD):Option q:=(gY bI w 0).map Prod.snd
def tM(w:aD):∀(bI:List (aD×q×Nat)) (i:Nat),gY bI w (i+1)=(gY bI w i).map λp=>(p.1+1,p.2):=by
 intro bI
 induction bI with
 |nil=>intro i;rfl
 |cons x bI U=>
  intro i
  simp only[gY]
  split
  ·rfl
  ·exact U (i+1)
def mv(x:aD×q×Nat)(bI:List (aD×q×Nat))(w:aD):jv (x::bI) w=if x.1=w then some x.2.1 else jv bI w:=by
 unfold jv
 simp only[gY]
 split
 ·rfl
 ·rw[tM];cases gY bI w 0<;>rfl
def F5(w:aD):∀(bI:List (aD×q×Nat)) (E:Nat) (v:q),gY bI w 0=some (E,v)->∃b,bI[E]? =some (w,v,b):=by
 intro bI
 induction bI with
 |nil=>intro E v e;cases e
 |cons x bI U=>
  intro E v e
  simp only[gY]at e
  split at e
  ·rename_i j
   cases e
   exact⟨x.2.2,by simp[<-j]⟩
  ·rw[tM]at e
   cases a:gY bI w 0 with
   |none=>rw[a]at e;cases e
   |some p=>
    rw[a]at e
    simp at e
    obtain⟨rfl,rfl⟩:=e
    obtain⟨b,Y⟩:=U p.1 p.2 a
    exact⟨b,by simpa using Y⟩
def HS(w aK:aD)(v:q)(b:Nat):∀bI:List (aD×q×Nat),jv bI w=none->jv (bI++[(w,v,b)]) aK=if aK=w then some v else jv bI aK:=by
 intro bI
 induction bI with
 |nil=>
  intro _
  rw[List.nil_append,mv]
  by_cases e:aK=w
  ·simp[e]
  ·have:¬w=aK:=λj=>e j.symm
   simp[e,this]
 |cons x bI U=>
  intro e
  rw[mv]at e
  split at e
  ·cases e
  ·rename_i a
   rw[YZ,mv,mv,U e]
   by_cases j:x.1=aK
   ·have:¬aK=w:=λJ=>a (j.trans J)
    simp[j,this]
   ·simp[j]
def HT(w aK:aD)(v:q):∀(bI:List (aD×q×Nat)) (E:Nat) (v0:q) (b:Nat),gY bI w 0=some (E,v0)->jv (bI.set E (w,v,b)) aK=if aK=w then some v else jv bI aK:=by
 intro bI
 induction bI with
 |nil=>intro E v0 b e;cases e
 |cons x bI U=>
  intro E v0 b e
  simp only[gY]at e
  split at e
  ·rename_i j
   simp at e
   obtain⟨rfl,rfl⟩:=e
   rw[Yg,mv,mv]
   by_cases e:aK=w
   ·simp[e]
   ·have d:¬w=aK:=λJ=>e J.symm
    have a:¬x.1=aK:=λJ=>e (J.symm.trans j)
    simp[e,d,a]
  ·rename_i j
   rw[tM]at e
   cases c:gY bI w 0 with
   |none=>rw[c]at e;cases e
   |some p=>
    rw[c]at e
    simp at e
    obtain⟨rfl,rfl⟩:=e
    rw[Yh,mv,mv,U p.1 p.2 b c]
    by_cases a:x.1=aK
    ·have:¬aK=w:=λJ=>j (a.trans J)
     simp[a,this]
    ·simp[a]
section
variable{X:bQ}{S B ay aM:F ac}{nx nx' aG aL:Nat}
def gR(X:bQ)(S:F ac)(r:Nat)(b:aT->Option q):Prop:=∃bI a,H X S r=some (.map (bI.map oy) a)/\∀w,jv bI w=b w
def gR.R{r:Nat}{a:aT->Option q}(e:gR X S r a)(k:H X B r=H X S r):gR X B r a:=by
 obtain⟨bI,b,c,d⟩:=e
 exact⟨bI,b,by rw[k];exact c,d⟩
def uC(w:aT):fV X 20 9 (.str w)=true:=Zk
def FF(w aK:aT):fG X S 20 9 (.str w) (.str aK)=some (f2 w aK):=Zk
def tI(w:aT):∀(bI:List (aT×q×Nat)) (i:Nat),findKey X S 9 (.str w) (bI.map oy) i=some (gY bI w i):=by
 intro bI
 induction bI with
 |nil=>intro i;rfl
 |cons x bI U=>
  intro i
  simp only[ZS,oy,findKey,FF,qe,gY]
  by_cases e:w=x.1
  ·have:x.1=w:=e.symm
   simp[this]
  ·have:¬x.1=w:=λj=>e j.symm
   simp only[e,this,YJ,ZM]
   exact U (i+1)
def G8(w:aT):gJ 20 (.str w) (.str w)=true:=by
 show f2 w w=true
 rw[qe];simp
def nw{r:Nat}{c:aT->Option q}(e:gR X S r c)(z:q)(w:aT)(ok:Bool):
 gn X S 9 z (.map r) (.str w) ok=some (match c w with|some v=>aQ ok (.tuple [v, .zT]) v|none=>aQ ok (.tuple [z, .zF]) z):=by
 obtain⟨bI,g,d,f⟩:=e
 have a:=f w
 unfold jv at a
 simp only[gn,d,uC,cO,tI]
 cases b:gY bI w 0 with
 |none=>rw[b]at a;rw[<-a];rfl
 |some p=>rw[b]at a;rw[<-a];rfl
def r3{r:Nat}{m:aT->Option q}(K:(o X).aN<=r)(e:gR X S r m)(w:aT)(v:q):
 ∃B,nC X S nx 9 (.map r) (.str w) v=some (.cu Q.undef B nx)/\gR X B r (λx=>if x=w then some v else m x)/\∀c,c≠r->H X B c=H X S c:=by
 obtain⟨bI,a,f,g⟩:=e
 have i:eS X r=true:=gg K
 cases b:gY bI w 0 with
 |none=>
  refine⟨Go.Q.aP X S r (some (.map ((bI++[(w,v,a)]).map oy) (a+1))), ?_,⟨bI++[(w,v,a)],a+1,a7 K,λx=> ?_⟩,λc d=>aV K d⟩
  ·simp only[nC,f,uC,cO,tI,b,Q.setObj,i,cO,dB]
   rw[YF]
   rfl
  ·rw[HS _ _ _ _ _ (by unfold jv;rw[b];rfl),g]
 |some p=>
  obtain⟨E,v0⟩:=p
  obtain⟨born,Y⟩:=F5 w bI E v0 b
  have n:(bI.map oy)[E]? =some (.str w,v0,born):=by rw[Zw,Y];rfl
  refine⟨Go.Q.aP X S r (some (.map ((bI.set E (w,v,born)).map oy) a)), ?_,⟨bI.set E (w,v,born),a,a7 K,λx=> ?_⟩,λc d=>aV K d⟩
  ·simp only[nC,f,uC,cO,tI,b,ic,n,G8,Q.setObj,i,cO,dB]
   rw[List.map_set]
   rfl
  ·rw[HT w x v bI E v0 born b,g]
end
end
noncomputable section
structure c5 where
 kind:Int
 d:bv
 eq:Int
 left:Int
def kv:c5:=⟨0,⟨[],0,ck,[],0,false⟩,0,0⟩
def hw(v:c5):List q:=[.Z v.kind, .str v.d.name, .Z v.d.at_, .bool v.d.ty.b, .bool v.d.ty.s, .Z v.d.ty.w, .str v.d.on, .Z v.d.dg, .bool v.d.no, .Z v.eq, .Z v.left]
def kD(X:bQ)(S:F ac)(P:Nat->Prop)(bn:q)(t:aT->Option c5):Prop:=∃b r,bn= .ptr b 0/\P b/\P r/\W X S (.ptr b 0)=some (.map r)/\gR X S r (λw=>(t w).map λv=> .agg (hw v))
section
variable{X:bQ}{S B ay aM:F ac}{nx nx' aG aL:Nat}
def kD.R{P bi:Nat->Prop}{bn:q}{t:aT->Option c5}(e:kD X S P bn t)(k:∀a,P a->H X B a=H X S a)(ap:∀a,P a->bi a):kD X B bi bn t:=by
 obtain⟨b,r,f,c,d,g,i⟩:=e
 exact⟨b,r,f,ap b c,ap r d,zF (k b c) g,i.R (k r d)⟩
def FG(b:Nat):bZ X S .eql 82 true (.ptr b 0) .bt=some .zF:=Zk
def tW(O:dV X){P:Nat->Prop}{bn:q}{t:aT->Option c5}(i:(o X).aN<=nx)(T3:kD X S P bn t)(p:∀a,P a->a<nx)(w:aT):
 aJ X 83 [bn, .str w] S nx (λL B nx'=>L= .tuple [.agg (hw ((t w).getD kv)), .bool (t w).isSome]/\aX X S nx B nx') zG:=by
 refine zB O (Dy X) ?_
 rw[Dz]
 unfold wI
 obtain⟨b,r,rfl,Y,K,a0,T0⟩:=T3
 have Z:=p b Y
 have T2:=p r K
 refine it ?_
 generalize f:aP X S nx _=ay
 have z:H X ay nx=zy [.Z 0, .str [], .Z 0, .zF, .zF, .Z 0, .str [], .Z 0, .zF, .Z 0, .Z 0] 11:=by rw[<-f,a7 i];rfl
 have d:aX X S nx ay (nx+1):=by rw[<-f];exact dJ
 clear f
 have aE:W X ay (.ptr b 0)=some (.map r):=zF (d.R b Z) a0
 have T1:=T0.R (d.R r T2)
 have s:=nw T1 (.agg [.Z 0, .str [], .Z 0, .zF, .zF, .Z 0, .str [], .Z 0, .zF, .Z 0, .Z 0]) w true
 have x:gn X ay 9 (.agg [.Z 0, .str [], .Z 0, .zF, .zF, .Z 0, .str [], .Z 0, .zF, .Z 0, .Z 0]) (.map r) (.str w) true=some (.tuple [.agg (hw ((t w).getD kv)), .bool (t w).isSome]):=by
  rw[s];cases t w<;>rfl
 clear s
 generalize (t w).getD kv=v at*
 have T4:hw v=[.Z v.kind, .str v.d.name, .Z v.d.at_, .bool v.d.ty.b, .bool v.d.ty.s, .Z v.d.ty.w, .str v.d.on, .Z v.d.dg, .bool v.d.no, .Z v.eq, .Z v.left]:=rfl
 rw[T4]at x ⊢
 refine cw @FG @aE @x ⟨?_⟩
 refine cz (e8 (k:=11) (b:=nx) (A:=0) (n:=11) (c:=F.ofList [.Z 0, .str [], .Z 0, .zF, .zF, .Z 0, .str [], .Z 0, .zF, .Z 0, .Z 0] 0 .nil) (by simp(disch:=omega) only[aV];exact z) i rfl Zd Zd rfl) ?_
 generalize g:aP X _ nx _=m
 have C:H X m nx=zy [.Z v.kind, .str v.d.name, .Z v.d.at_, .bool v.d.ty.b, .bool v.d.ty.s, .Z v.d.ty.w, .str v.d.on, .Z v.d.dg, .bool v.d.no, .Z v.eq, .Z v.left] 11:=by rw[<-g,a7 i];rfl
 have G:aX X S nx m (nx+1+1):=⟨Zo,λa T5=>by rw[<-g];simp(disch:=omega) only[aV];exact d.R a T5⟩
 clear g
 refine bB (aZ C) ⟨?_⟩
 exact⟨rfl,G⟩
end
def oN(t:aT->Option c5)(D:aT->Option Int)(f:Int×Int)(w:aT)(a:Int):Int×Int:=match t w with
 |none=>fe f 23 a
 |some v=>if v.kind=1\/1<(D w).getD 0+1 then fe f 24 a else f
def gA(D:aT->Option Int)(w:aT):Option q:=(D w).map λk=> .Z k
section
variable{X:bQ}{S B ay aM:F ac}{nx nx' aG aL:Nat}
def HC(C:dV X){P:Nat->Prop}{c bp:Nat}{p bn:q}{k:Int}{t:aT->Option c5}{D:aT->Option Int}{f:Int×Int}(UI:(o X).aN<=nx)(T8:(o X).aN<=c)(UG:(o X).aN<=bp)(UF:c<nx)(UH:bp<nx)(UE:c≠bp)
 (T6:cS X S c p k bn (.map bp) f)(UJ:kD X S P bn t)(UC:∀b,P b->b<nx/\b≠c/\b≠bp)(U9:gR X S bp (gA D))(w:aT)(a:Int)(Y:0<=(D w).getD 0/\(D w).getD 0<4000000000000000000):
 aJ X 81 [.ptr c 0, .str w, .Z a] S nx (λL B nx'=>L= .tuple []/\cS X B c p k bn (.map bp) (oN t D f w a)/\gR X B bp (gA λx=>if x=w then some ((D w).getD 0+1)else D x)/\nx<=nx'/\∀b,b<nx->b≠c->b≠bp->H X B b=H X S b) zG:=by
 refine zB C (Du X) ?_
 rw[Dv]
 unfold wG
 have UN:W X S (.ptr c 2)=some bn:=by unfold cS at T6;rw[aZ T6];rfl
 refine bB @UN ⟨?_⟩
 refine(tW C UI UJ (λb T4=>(UC b T4).1) w).Zm ?_
 rintro L ay aG ⟨rfl,T1⟩
 have UO:=T1.le
 have UD:cS X ay c p k bn (.map bp) f:=by unfold cS;rw[T1.R c UF];exact T6
 have UA:=U9.R (T1.R bp UH)
 generalize U6:(t w).getD kv=v
 have UL:hw v=[.Z v.kind, .str v.d.name, .Z v.d.at_, .bool v.d.ty.b, .bool v.d.ty.s, .Z v.d.ty.w, .str v.d.on, .Z v.d.dg, .bool v.d.no, .Z v.eq, .Z v.left]:=rfl
 rw[UL]
 refine j6 ⟨?_⟩
 refine j6 ⟨?_⟩
 refine it ?_
 refine j6 ⟨?_⟩
 generalize T2:aP X _ aG _=aM
 have U0:H X aM aG=zy [.Z v.kind, .str v.d.name, .Z v.d.at_, .bool v.d.ty.b, .bool v.d.ty.s, .Z v.d.ty.w, .str v.d.on, .Z v.d.dg, .bool v.d.no, .Z v.eq, .Z v.left] 11:=by rw[<-T2,a7 Zo];rfl
 have UB:aX X S nx aM (aG+1):=⟨Zo,λb T4=>by rw[<-T2];simp(disch:=omega) only[aV];exact T1.R b T4⟩
 have U3:∀b,b<aG->H X aM b=H X ay b:=λb T4=>by rw[<-T2];exact zA
 clear T2
 have T7:cS X aM c p k bn (.map bp) f:=by unfold cS;rw[U3 c Zo];exact UD
 have U1:=UA.R (U3 bp Zo)
 have Z:W X aM (.ptr c 3)=some (.map bp):=by unfold cS at T7;rw[aZ T7];rfl
 have O:gn X aM 9 (.Z 0) (.map bp) (.str w) false=some (.Z ((D w).getD 0)):=by
  rw[nw U1];unfold gA;cases D w<;>rfl
 have U8:ag .add (.Z ((D w).getD 0)) (.Z 1)=some (.Z ((D w).getD 0+1)):=ct Zo Zo
 refine cw @Z @O @U8 ⟨?_⟩
 obtain⟨m,U5,U2,T9⟩:=r3 (nx:=aG+1) UG U1 w (.Z ((D w).getD 0+1))
 refine eU U5 ?_
 have s:cS X m c p k bn (.map bp) f:=by unfold cS;rw[T9 c UE];exact T7
 rw[<-T9 aG Zo]at U0
 have z:gR X m bp (gA λx=>if x=w then some ((D w).getD 0+1)else D x):=by
  have:(λx=>if x=w then some (q.Z ((D w).getD 0+1))else gA D x)=(gA λx=>if x=w then some ((D w).getD 0+1)else D x):=by
   funext x;unfold gA;by_cases e:x=w<;>simp[e]
  rw[<-this];exact U2
 have T3:∀b,b<nx->b≠bp->H X m b=H X S b:=λb g i=>by rw[T9 b i];exact UB.R b g
 clear O U5 U2 Z
 unfold oN
 cases UK:t w with
 |none=>
  simp only[Z4,Yl]
  refine bh ⟨?_⟩
  refine(jY (nx:=aG+1) (S:=m) C T8 s 23 a).Zm ?_
  rintro L TZ U7 ⟨rfl,G,U4,n⟩
  refine bh ⟨?_⟩
  exact⟨by first|trivial|rfl,G,z.R (n bp Zo),Zo,λb g i r=>by rw[n b i];exact T3 b g r⟩
 |some T0=>
  have UM:T0=v:=by rw[UK]at U6;exact U6
  subst UM
  simp only[Ya,Yn]
  have TY:W X m (.ptr aG 0)=some (.Z T0.kind):=by rw[aZ U0];rfl
  have Z:W X m (.ptr c 3)=some (.map bp):=by unfold cS at s;rw[aZ s];rfl
  have O:gn X m 9 (.Z 0) (.map bp) (.str w) false=some (.Z ((D w).getD 0+1)):=by
   rw[nw z];unfold gA;simp
  by_cases g:T0.kind=1
  ·have d:decide (T0.kind=1)=true:=by simp[g]
   refine ci @TY @d ⟨?_⟩
   refine(jY (nx:=aG+1) (S:=m) C T8 s 24 a).Zm ?_
   rintro L TZ U7 ⟨rfl,G,U4,n⟩
   refine bh ⟨?_⟩
   exact⟨by first|trivial|rfl,by simp only[g,true_or,ZP];exact G,z.R (n bp Zo),Zo,λb g i r=>by rw[n b i];exact T3 b g r⟩
  ·have d:decide (T0.kind=1)=false:=by simp[g]
   by_cases i:1<(D w).getD 0+1
   ·have T5:decide (1<(D w).getD 0+1)=true:=by simp only[Zc];exact i
    refine db @TY @d @Z @O @T5 ⟨?_⟩
    refine(jY (nx:=aG+1) (S:=m) C T8 s 24 a).Zm ?_
    rintro L TZ U7 ⟨rfl,G,U4,n⟩
    refine bh ⟨?_⟩
    exact⟨by first|trivial|rfl,by simp only[g,i,or_true,ZP];exact G,z.R (n bp Zo),Zo,λb g i r=>by rw[n b i];exact T3 b g r⟩
   ·have T5:decide (1<(D w).getD 0+1)=false:=by simp only[Zb];exact i
    refine db @TY @d @Z @O @T5 ⟨?_⟩
    exact⟨by first|trivial|rfl,by simp only[g,i,or_false,ZM];exact s,z,Zo,λb g i r=>T3 b g r⟩
end
def jE(t:aT->Option c5)(f:Int×Int)(j:bg):Int×Int:=if kj j then(if (t j.name).isSome then f else fe f 23 j.at_)else f
def mJ(T:List Go.a6.Node)(k:Nat)(f:Int×Int)(j:bg):Int×Int:=if j.kind=25 then(match eh T j.name with
 |none=>fe f 23 j.at_
 |some E=>if k<=E then fe f 25 j.at_ else f)else f
def g4(t:aT->Option c5)(T:List Go.a6.Node)(k:Nat)(f:Int×Int)(j:bg):(Int×Int)×Bool:=(mJ T k (jE t f j) j,true)
structure n7(X:bQ)(cE:F ac)(aN b:Nat)(p:q)(k:Nat)(bn bp:q)(f:Int×Int)(S:F ac)(nx:Nat):Prop where
 le:aN<=nx
 eE:cS X S b p k bn bp f
 low:∀a,a<aN->a≠b->H X S a=H X cE a
section
variable{X:bQ}{S B cE ay aM:F ac}{nx nx' aG aL:Nat}
def JN(T0:dV X){P:Nat->Prop}{gK g r:Nat}{p bn bp:q}{k:Nat}{t:aT->Option c5}{T:List Go.a6.Node}(UX:(o X).aN<=gK)(U1:(o X).aN<=g)(UU:g<gK)(T9:r<gK)(T8:r≠g)(UO:W X cE (.ptr r 0)=some (.ptr g 0))
 (w:∀a,P a->a<gK/\a≠g)(UQ:kD X cE P bn t)(UM:kC X cE P T p){f:Int×Int}(G:n7 X cE gK g p k bn bp f S nx){j:bg}{v:q}(T6:c7 X S P j v):
 aJ X 106 [v, .ptr r 0] S nx (λL B nx'=>L= .zT/\n7 X cE gK g p k bn bp (g4 t T k f j).1 B nx') zG:=by
 refine zB T0 (BG X) ?_
 rw[BH]
 unfold vy
 refine(Iq T0 T6).Zm ?_
 rintro L ay aG ⟨rfl,rfl,UV⟩
 have UY:=G.le
 have T7:∀S,H X S r=H X cE r->W X S (.ptr r 0)=some (.ptr g 0):=λS e=>zF e UO
 refine cQ (λU7 B ah=>U7.g 0=some v/\U7.g 1=some (.ptr r 0)/\n7 X cE gK g p k bn bp (jE t f j) B ah/\c7 X B P j v) (λE m=> ?_) ?_
 ·obtain⟨b,_,_,_,rfl,Y,a0,aE,aW,_⟩:=id T6.open
  unfold jE at m
  cases UH:kj j with
  |false=>
   rw[UH]at m
   simp only[ZR,ZM]at m
   refine bh ⟨?_⟩
   exact m _ _ _ ⟨aI,aI,⟨Zo,G.eE,G.low⟩,T6⟩
  |true=>
   rw[UH]at m
   simp only[ZP]at m
   have U3:=T7 ay (G.low r T9 T8)
   have UT:W X ay (.ptr g 2)=some bn:=by have:=G.eE;unfold cS at this;rw[aZ this];rfl
   refine cw @U3 @UT @aW ⟨?_⟩
   refine l7 (λaM=>H X aM (aG+12)=zy [.Z 0, .str [], .Z 0, .zF, .zF, .Z 0, .str [], .Z 0, .zF, .Z 0, .Z 0] 11/\aX X ay aG aM (aG+12+1)) ⟨by rw[a7 Zo];rfl,Zo,λa c=>zA⟩ ?_
   rintro aM ⟨U9,UB⟩
   have bl:∀a,a<gK->H X aM a=H X ay a:=λa c=>UB.R a Zo
   refine(tW (nx:=aG+15) (S:=aM) T0 Zo (UQ.R (bi:=P) (λa c=>by rw[bl a (w a c).1];exact G.low a (w a c).1 (w a c).2) (λ_ e=>e)) (λa c=>zu (w a c).1) j.name).Zm ?_
   rintro L x U5 ⟨rfl,C⟩
   have UN:=C.le
   have UA:H X x (aG+12)=zy [.Z 0, .str [], .Z 0, .zF, .zF, .Z 0, .str [], .Z 0, .zF, .Z 0, .Z 0] 11:=by rw[C.R _ Zo];exact U9
   generalize UZ:(t j.name).getD kv=s
   have UR:hw s=[.Z s.kind, .str s.d.name, .Z s.d.at_, .bool s.d.ty.b, .bool s.d.ty.s, .Z s.d.ty.w, .str s.d.on, .Z s.d.dg, .bool s.d.no, .Z s.eq, .Z s.left]:=rfl
   rw[UR]
   refine j6 ⟨?_⟩
   refine j6 ⟨?_⟩
   refine cz (e8 (k:=11) (b:=aG+12) (A:=0) (n:=11) UA Zo rfl Zd Zd rfl) ?_
   generalize UC:aP X x (aG+12) _=T1
   have TY:∀a,a<aG->H X T1 a=H X ay a:=λa c=>by rw[<-UC,aV Zo Zo,C.R a Zo,UB.R a c]
   clear UC U9 UA
   have T5:n7 X cE gK g p k bn bp f T1 U5:=⟨Zo,by have:=G.eE;unfold cS at*;rw[TY g Zo];exact this,λa z i=>by rw[TY a Zo];exact G.low a z i⟩
   have UD:c7 X T1 P j (.ptr b 0):=c7.R (λa c=>TY a (zu (w a c).1)) _ _ T6
   have UP:=T7 T1 (T5.low r T9 T8)
   have UK:W X T1 (.ptr b 1)=some (.Z j.at_):=zF (TY b (zu (w b Y).1)) aE
   cases UE:(t j.name).isSome with
   |true=>
    rw[UE]at m
    simp only[ZP]at m
    refine bh ⟨?_⟩
    exact m _ _ _ ⟨aI,aI,T5,UD⟩
   |false=>
    rw[UE]at m
    simp only[ZR,ZM]at m
    refine ci @UP @UK ⟨?_⟩
    refine(jY (S:=T1) T0 U1 T5.eE 23 j.at_).Zm ?_
    rintro L U6 UJ ⟨rfl,T4,UG,T3⟩
    refine bh ⟨?_⟩
    exact m _ _ _ ⟨aI,aI,⟨Zo,T4,λa z i=>by rw[T3 a i];exact T5.low a z i⟩,c7.R (λa c=>T3 a (w a c).2) _ _ UD⟩
 ·rintro y aM aL ⟨t0,TZ,O,UL⟩
  obtain⟨b,_,_,_,rfl,Y,a0,aE,aW,_⟩:=id UL.open
  have UW:=O.le
  show N _ _
  by_cases T2:j.kind=25
  ·have d:decide (j.kind=25)=true:=by simp[T2]
   have U3:=T7 aM (O.low r T9 T8)
   have US:W X aM (.ptr g 0)=some p:=by have:=O.eE;unfold cS at this;rw[aZ this];rfl
   refine bo @t0 @TZ @a0 @d @U3 @US @aW ⟨?_⟩
   refine(xR (nx:=aL+14) (S:=aM) T0 Zo (UM.R (bi:=P) (λa c=>O.low a (w a c).1 (w a c).2) (λ_ e=>e)) (λa c=>zu (w a c).1) j.name).Zm ?_
   rintro L x U5 ⟨rfl,C⟩
   have UN:=C.le
   have Z:n7 X cE gK g p k bn bp (jE t f j) x U5:=⟨Zo,by have:=O.eE;unfold cS at*;rw[C.R g Zo];exact this,λa z i=>by rw[C.R a Zo];exact O.low a z i⟩
   have U4:=T7 x (Z.low r T9 T8)
   have U8:W X x (.ptr b 1)=some (.Z j.at_):=zF (C.R b (zu (w b Y).1)) aE
   have UI:W X x (.ptr g 1)=some (.Z (k:Int)):=by have:=Z.eE;unfold cS at this;rw[aZ this];rfl
   cases U2:eh T j.name with
   |none=>
    have K:(g4 t T k f j).1=fe (jE t f j) 23 j.at_:=by simp[g4,mJ,T2,U2]
    rw[K]
    simp only[Z4]
    refine cV @t0 @TZ @U4 @U8 ⟨?_⟩
    refine(jY (S:=x) T0 U1 Z.eE 23 j.at_).Zm ?_
    rintro L U6 UJ ⟨rfl,T4,UG,T3⟩
    refine bh ⟨?_⟩
    exact⟨by first|trivial|rfl,Zo,T4,λa z i=>by rw[T3 a i];exact Z.low a z i⟩
   |some E=>
    simp only[Ya,Y0]
    by_cases UF:k<=E
    ·have U0:decide ((k:Int)<=(E:Int))=true:=zK
     have K:(g4 t T k f j).1=fe (jE t f j) 25 j.at_:=by simp[g4,mJ,T2,U2,UF]
     rw[K]
     refine dp @t0 @TZ @U4 @U8 @UI @U0 ⟨?_⟩
     refine(jY (S:=x) T0 U1 Z.eE 25 j.at_).Zm ?_
     rintro L U6 UJ ⟨rfl,T4,UG,T3⟩
     refine bh ⟨?_⟩
     exact⟨by first|trivial|rfl,Zo,T4,λa z i=>by rw[T3 a i];exact Z.low a z i⟩
    ·have U0:decide ((k:Int)<=(E:Int))=false:=zJ
     have K:(g4 t T k f j).1=jE t f j:=by simp[g4,mJ,T2,U2,UF]
     rw[K]
     refine db @t0 @TZ @U4 @UI @U0 ⟨?_⟩
     exact⟨by first|trivial|rfl,Z⟩
  ·have d:decide (j.kind=25)=false:=by simp[T2]
   have K:(g4 t T k f j).1=jE t f j:=by simp[g4,mJ,T2]
   rw[K]
   refine cw @t0 @a0 @d ⟨?_⟩
   exact⟨by first|trivial|rfl,O⟩
end
def oZ(t:aT->Option c5)(T:List Go.a6.Node)(k:Nat)(f:Int×Int)(j:bg):Int×Int:=mO (g4 t T k) f j
section
variable{X:bQ}{S:F ac}{nx:Nat}
def JP(m:dV X){P:Nat->Prop}{b:Nat}{p bn bp:q}{k:Nat}{t:aT->Option c5}{T:List Go.a6.Node}(T2:(o X).aN<=nx)(G:(o X).aN<=b)(O:b<nx)
 (g:∀a,P a->a<nx/\a≠b)(T4:kD X S P bn t)(T1:kC X S P T p){f:Int×Int}(C:cS X S b p k bn bp f){j:bg}{v:q}(Z:c7 X S P j v):
 aJ X 82 [.ptr b 0,v] S nx (λL B nx'=>L= .tuple []/\cS X B b p k bn bp (oZ t T k f j)/\nx<=nx'/\∀a,a<nx->a≠b->H X B a=H X S a) zG:=by
 refine zB m (Dw X) ?_
 rw[Dx]
 unfold wH
 refine bh ⟨?_⟩
 refine l7 (λay=>H X ay nx=zy [.ptr b 0] 1/\aX X S nx ay (nx+1)) ⟨a7 T2,dJ⟩ ?_
 rintro ay ⟨w,i⟩
 have n:∀a,P a->H X ay a=H X S a:=λa d=>i.R a (g a d).1
 have T3:W X ay (.ptr nx 0)=some (.ptr b 0):=by rw[aZ w];rfl
 refine(Lx m (g4 t T k) P (n7 X ay (nx+1) b p k bn bp) 106 [] [.ptr nx 0] (λs j v aM aL r T0=> ?_) (SizeOf.sizeOf j+1) j Zo f v ay (nx+1) ⟨Zp _,by unfold cS at*;rw[i.R b O];exact C,λ_ _ _=>rfl⟩ (c7.R n _ _ Z)).Zm ?_
 ·refine(JN m Zo G Zo Zo Zo T3 (λa d=>⟨zu (g a d).1,(g a d).2⟩) (T4.R (bi:=P) n (λ_ e=>e)) (T1.R (bi:=P) n (λ_ e=>e)) r T0).Zm ?_
  rintro L T5 T6 ⟨rfl,c⟩
  exact⟨rfl,c,λa d=>by have:=g a d;rw[c.low a Zo this.2,r.low a Zo this.2]⟩
 ·rintro L aM aL ⟨rfl,c,_⟩
  refine bh ⟨?_⟩
  have:=c.le
  exact⟨by first|trivial|rfl,c.eE,Zo,λa x z=>by rw[c.low a Zo z,i.R a x]⟩
end
def bf(g:Go.a6.Node):List (Int×bv):=(g.cj.map λd=>(1,d))++((g.out.map λd=>(2,d))++(g.loc.map λd=>(3,d)))
def ig(g:Go.a6.Node):Nat->List bv
 |0=>g.cj
 |1=>g.out
 |_=>g.loc
def iB(g:Go.a6.Node):Nat->Nat
 |0=>0
 |1=>g.cj.length
 |2=>g.cj.length+g.out.length
 |_=>g.cj.length+g.out.length+g.loc.length
def II(g:Go.a6.Node){k:Nat}(a:k<3):iB g (k+1)=iB g k+(ig g k).length:=by
 match k,a with
 |0,_=>simp[iB,ig]
 |1,_=>rfl
 |2,_=>rfl
def tz(g:Go.a6.Node):(bf g).length=iB g 3:=by simp[bf,iB];omega
def Ft(g:Go.a6.Node){k:Nat}(b:k<3){E:Nat}{d:bv}(e:(ig g k)[E]? =some d):(bf g)[iB g k+E]? =some (1+(k:Int),d):=by
 match k,b,e with
 |0,_,e=>
  have a:=(Zf.1 e).1
  simp only[ig]at e a
  simp only[bf,iB,ZE]
  rw[ZA (by simpa using a),Zw,e];rfl
 |1,_,e=>
  have a:=(Zf.1 e).1
  simp only[ig]at e a
  simp only[bf,iB]
  rw[Zy Zs,Zn,Nat.add_sub_cancel_left,ZA (by simpa using a),Zw,e];rfl
 |2,_,e=>
  simp only[ig]at e
  simp only[bf,iB]
  rw[Zy Zx,Zn,Zy Zx,Zn,show g.cj.length+g.out.length+E-g.cj.length-g.out.length=E by omega,Zw,e];rfl
section
variable{X:bQ}{S B cE ay aM:F ac}{nx nx' aG aL:Nat}
def GV{C:ax}{h:Nat}{a m b:List q}{M ad:be}(e:lY C h (a++m) S nx M ad):k9 C (.func (.yield h) a b) m S nx M ad:=⟨e⟩
def Fs(U8:dV X){P:Nat->Prop}{g:Go.a6.Node}{n h b0 bb b4:Nat}{bx bz au:q}(a:Nat->F ac->Nat->Prop)
 (T1:cg X cE P b0 bx 8 (g.cj.map bO))(T2:cg X cE P bb bz 8 (g.out.map bO))(p:cg X cE P b4 au 8 (g.loc.map bO))
 (aW:W X S (.ptr n 2)=some bx)(a3:W X S (.ptr n 3)=some bz)(a4:W X S (.ptr n 4)=some au)
 (U6:∀i S nx,a i S nx->(o X).aN<=nx/\∀w,P w->H X S w=H X cE w)
 (U7:∀i S nx B nx',a i S nx->aX X S nx B nx'->a i B nx')
 (K:∀i k d S nx,(bf g)[i]? =some (k,d)->a i S nx->lY X h [.Z k, .agg (bO d)] S nx (λL B nx'=>L= .zT/\a (i+1) B nx') zG)
 (U3:a 0 S nx):aJ X 102 [.func (.yield h) [] [], .ptr n 0] S nx (λ_ B nx'=>a (bf g).length B nx') zG:=by
 refine zB U8 (By X) ?_
 rw[Bz]
 unfold vu
 have UH:∀k,k<3->∃s b,[bx,bz,au][k]? =some s/\cg X cE P b s 8 ((ig g k).map bO):=by
  intro k T5
  match k,T5 with
  |0,_=>exact⟨bx,b0,rfl,T1⟩
  |1,_=>exact⟨bz,bb,rfl,T2⟩
  |2,_=>exact⟨au,b4,rfl,p⟩
 have TY:=(fg T1.len).1
 have U0:=(fg T2.len).1
 have TZ:=(fg p.len).1
 have UA:cq [.aw, .aw, .aw] [(0,1,bx),(1,1,bz),(2,1,au)]=some (.agg [bx,bz,au]):=by
  simp[cq,gE,gF,e5,TY,U0,TZ]
 refine cw @aW @a3 @a4 ⟨?_⟩
 refine cz UA ?_
 refine bh ⟨?_⟩
 refine cM (λm y B ah=>∃(k:Nat),y.g 0=some (.func (.yield h) [] [])/\y.g 13=some (.agg [bx,bz,au])/\y.g 14=some (.Z (k:Int))/\k+m=3/\a (iB g k) B ah)
  3 ⟨0,aI,aI,cx,Zo,U3⟩ ?_
 rintro m y aM aL ⟨k,t0,f,c,T5,T3⟩
 cases m with
 |zero=>
  have d:decide ((k:Int)<3)=false:=zJ
  refine ci @c @d ⟨?_⟩
  rw[tz]
  have:k=3:=Zo
  subst this
  exact T3
 |succ m=>
  have d:decide ((k:Int)<3)=true:=zK
  obtain⟨s,b,UG,t⟩:=UH k Zo
  have UC:t6 false 3 1 (.agg [bx,bz,au]) (.Z (k:Int))=some s:=by
   have p:Nat.blt k 3=true:=by simp[Nat.blt];omega
   simp only[t6,mz,p,cO,fz,ic,ZV]
   exact UG
  have T6:=t.len
  have UE:=t.many
  rw[Zn]at T6 UE
  refine db @c @f @d @UC @T6 ⟨?_⟩
  refine cM (λm y B ah=>∃(E:Nat),y.g 0=some (.func (.yield h) [] [])/\y.g 13=some (.agg [bx,bz,au])/\y.g 14=some (.Z (k:Int))/\y.g 3=some (.Z (k:Int))/\y.g 18=some s/\y.g 19=some (.Z ((ig g k).length:Int))/\y.g 20=some (.Z (E:Int))/\E+m=(ig g k).length/\a (iB g k+E) B ah)
   (ig g k).length ⟨0,al t0,al f,al c,aI,aI,aI,cx,Zo,T3⟩ ?_
  rintro G UJ T9 v ⟨E,t0,f,c,t3,T8,O,Z,UK,z⟩
  cases G with
  |zero=>
   have d:=zv E (ig g k).length
   have x:=zz k
   refine db @Z @O @c @d @x ⟨?_⟩
   refine⟨m,Zo,k+1,al t0,al f,aI,Zo, ?_⟩
   rw[II g Zo]
   have:E=(ig g k).length:=Zo
   rw[<-this]
   exact z
  |succ G=>
   have d:=zw E (ig g k).length
   have x:=zz E
   have U1:ag .add (.Z 1) (.Z (k:Int))=some (.Z (1+(k:Int))):=ct Zo Zo
   obtain⟨am,T4⟩:=zx (ig g k) E
   obtain⟨UF,U9⟩:=U6 _ _ _ z
   have UD:=t.cP E (by rw[Zn];omega)
   have T7:=(t.R U9).row (i:=E) (r:=bO am) Zd (by rw[Zw,T4];rfl)
   have UB:bO am=[.str am.name, .Z am.at_, .bool am.ty.b, .bool am.ty.s, .Z am.ty.w, .str am.on, .Z am.dg, .bool am.no]:=rfl
   rw[UB]at T7
   refine dp @Z @O @T8 @d @UD @T7 ⟨?_⟩
   generalize C:aP X _ v _=T0
   have U2:H X T0 v=zy [.str am.name, .Z am.at_, .bool am.ty.b, .bool am.ty.s, .Z am.ty.w, .str am.on, .Z am.dg, .bool am.no] 8:=by rw[<-C,a7 UF];rfl
   have U4:aX X T9 v T0 (v+1):=⟨Zo,λw UL=>by rw[<-C];exact zA⟩
   clear C
   refine cV @t0 @t3 @U1 (aZ U2) ⟨?_⟩
   refine GV ((K _ _ _ _ _ (Ft g Zo T4) (U7 _ _ _ _ _ z U4)).mono ?_ (λ_ _ _ e=>False.elim e))
   rintro L UI UM ⟨rfl,U5⟩
   refine ci @Z @x ⟨?_⟩
   exact⟨G,Zo,E+1,al t0,al f,al c,al t3,al T8,al O,aI,Zo,U5⟩
def rj(T1:dV X){P:Nat->Prop}{g:Go.a6.Node}{n w x f b0 bb b4:Nat}{bx bz au:q}{G az:qG}{M:c8}{j:Nat->c8}{r:c8}{ad:iK}{y:b8}(b:Nat->F ac->Nat->Prop)
 (T2:(o X).aN<=nx)(U6:w<n)(U7:x<n)(z:f<nx)
 (TZ:cg X S P b0 bx 8 (g.cj.map bO))(U0:cg X S P bb bz 8 (g.out.map bO))(U1:cg X S P b4 au 8 (g.loc.map bO))
 (aW:W X S (.ptr f 2)=some bx)(a3:W X S (.ptr f 3)=some bz)(a4:W X S (.ptr f 4)=some au)
 (s:∀i B ah,b i B ah->nx+2<=ah/\∀a,P a->H X B a=H X S a)
 (T0:∀i ay aG aM aL,b i ay aG->aG<=aL->(∀a,a<aG->a≠nx+1->H X aM a=H X ay a)->b i aM aL)
 (TY:∀B,aX X S nx B (nx+2)->b 0 B (nx+2))
 (U4:∀mk i k d ay aG,(bf g)[i]? =some (k,d)->b i ay aG->H X ay nx=some (.deferred (some []))->H X ay (nx+1)=some (mk .ready none)->
  iF X G az (nx+1) mk (λL B ah=>L= .zT/\b (i+1) B ah/\H X B nx=some (.deferred (some []))/\H X B (nx+1)=some (mk .ready none)) zG (I (I y w (.Z k)) x (.agg (bO d))) ay aG)
 (U2:∀B ah,b (bf g).length B ah->H X B nx=some (.deferred (some []))->M (jw y nx) B ah):
 nR X n (.func (.func 102) [] [.ptr f 0]) [w,x] (iF X G az) M j r ad y S nx:=by
 refine⟨T2, ?_⟩
 intro mk U3
 refine xc (T1.none _ _ rfl) ?_
 generalize v:aP X (aP X S nx _) (nx+1) _=ay
 have T6:H X ay nx=some (.deferred (some [])):=by rw[<-v,aV Zo Zo,a7 T2]
 have T8:H X ay (nx+1)=some (mk .ready none):=by rw[<-v,a7 Zo]
 have p:aX X S nx ay (nx+2):=⟨Zo,λa c=>by rw[<-v];exact zA⟩
 clear v
 have O:=TY ay p
 obtain⟨_,t⟩:=s _ _ _ O
 refine(Fs (h:=nx+1) T1 (λi B ah=>b i B ah/\H X B nx=some (.deferred (some []))/\H X B (nx+1)=some (mk .ready none)) (TZ.R t) (U0.R t) (U1.R t)
  (by rw[p.cW _ _ z];exact aW) (by rw[p.cW _ _ z];exact a3) (by rw[p.cW _ _ z];exact a4)
  (λi B ah e=> ?_) (λi ay aG aM aL e m=> ?_) (λi k d ay aG ai e=> ?_) ⟨O,T6,T8⟩).Zm ?_
 ·obtain⟨T3,C⟩:=s _ _ _ e.1
  exact⟨Zo,λa c=>by rw[C a c,t a c]⟩
 ·obtain⟨T3,C⟩:=s _ _ _ e.1
  exact⟨T0 _ _ _ _ _ e.1 m.le (λa c _=>m.R a c),by rw[m.R _ Zo];exact e.2.1,by rw[m.R _ Zo];exact e.2.2⟩
 ·refine U3 _ _ _ _ _ e.2.2 ?_
  have T4:Nat.blt w n=true:=by simp[Nat.blt];omega
  have T5:Nat.blt x n=true:=by simp[Nat.blt];omega
  simp only[o3,T4,T5,cO]
  exact U4 mk i k d ay aG ai e.1 e.2.1 e.2.2
 ·rintro L aM aL ⟨Z,T7,T9⟩
  obtain⟨T3,C⟩:=s _ _ _ Z
  refine⟨.ready,none,Zs,T9, ?_⟩
  show M _ _ _
  exact U2 _ _ (T0 _ _ _ _ _ Z (Zp _) (λa c U5=>aV Zo U5)) (by rw[aV Zo Zo];exact T7)
end
def mg{α a:Type}(st:a->α->a)(s:a){h:List α}{i:Nat}{x:α}(e:h[i]? =some x):(h.take (i+1)).foldl st s=st ((h.take i).foldl st s) x:=by
 rw[ZG,e,YX];rfl
def fJ(s:(aT->Option Int)×(Int×Int))(x:Int×bv):(aT->Option Int)×(Int×Int):=
 (λw=>if w=x.2.name then some x.1 else s.1 w,if 0<(s.1 x.2.name).getD 0 then fe s.2 24 x.2.at_ else s.2)
def gW(t:aT->Option c5)(f:Int×Int)(x:Int×bv):Int×Int:=if t x.2.on=none/\x.2.on≠[]then fe f 23 x.2.dg else f
def j0(t:aT->Option c5)(g:Go.a6.Node)(f:Int×Int):Int×Int:=(bf g).foldl (gW t) ((bf g).foldl fJ (λ_=>none,f)).2
section
variable{X:bQ}{S B cE ay aM:F ac}{nx nx' aG aL:Nat}
def ri(c:dV X){nm bx bz au d:q}{a:q}(b:(o X).aN<=nx):
 aJ X 77 [.agg [nm,a,bx,bz,au,d]] S nx (λL B nx'=>L= .func (.func 102) [] [.ptr nx 0]/\nx'=nx+1/\aX X S nx B nx'/\W X B (.ptr nx 2)=some bx/\W X B (.ptr nx 3)=some bz/\W X B (.ptr nx 4)=some au) zG:=by
 refine zB c (Dk X) ?_
 rw[Dl]
 unfold wB
 refine bh ⟨?_⟩
 exact⟨rfl,rfl,dJ,by rw[aZ (a7 b)];rfl,by rw[aZ (a7 b)];rfl,by rw[aZ (a7 b)];rfl⟩
structure il(X:bQ)(d:F ac)(c b bw:Nat)(p:q)(k:Int)(bn bp:q)(f:Int×Int)(D:aT->Option Int)(S:F ac)(n:Nat):Prop where
 le:c+2<=n
 eE:cS X S b p k bn bp f
 seen:gR X S bw (gA D)
 low:∀a,a<c->a≠b->a≠bw->H X S a=H X d a
def il.R{g:F ac}{b c bw:Nat}{p bn bp:q}{k:Int}{f:Int×Int}{D:aT->Option Int}(e:il X g b c bw p k bn bp f D ay aG)(r:c<b)(t:bw<b)(v:aG<=aL)(d:∀a,a<aG->a≠b+1->H X aM a=H X ay a):il X g b c bw p k bn bp f D aM aL:=by
 have s:=e.le
 refine⟨Zo, ?_,e.seen.R (d _ Zo Zo),λa i m n=>by rw[d a Zo Zo];exact e.low a i m n⟩
 have:=e.eE
 unfold cS at*
 rw[d _ Zo Zo];exact this
def E2(T5:dV X){P:Nat->Prop}{m:Nat}{p bn bp:q}{k:Int}{t:aT->Option c5}{g:Go.a6.Node}{row:List q}(VX:(o X).aN<=nx)(Uo:(o X).aN<=m)(VF:m<nx)
 (T3:∀a,P a->a<nx/\a≠m)(VM:kD X S P bn t){f:Int×Int}(V9:cS X S m p k bn bp f)(VG:mW X S P g row)(VT:True):
 aJ X 80 [.ptr m 0, .agg row] S nx (λL B nx'=>L= .tuple []/\cS X B m p k bn bp (j0 t g f)/\nx<=nx'/\∀a,a<nx->a≠m->H X B a=H X S a) zG:=by
 refine q1 (Ds X) (T5.none _ _ rfl) ?_
 rw[Dt]
 unfold wF
 obtain⟨bx,bz,au,Uv,b0,bb,b4,c1,rows,rfl,Up,Uq,Ur,VS,VR⟩:=VG
 refine bh ⟨?_⟩
 refine l7 (λay=>H X ay nx=zy [.ptr m 0] 1/\H X ay (nx+1)=zy [.str g.name, .Z g.at_,bx,bz,au,Uv] 6
  /\H X ay (nx+1+1)=some (.map [] 0)/\W X ay (.ptr (nx+1+1+1) 0)=some (.map (nx+1+1))/\aX X S nx ay (nx+1+1+1+1)) ⟨by(first|assumption|(exact zL)|(simp(disch:=omega) only[a7,aV])),by(first|assumption|(exact zL)|(simp(disch:=omega) only[a7,aV])),by(first|assumption|(exact zL)|(simp(disch:=omega) only[a7,aV])),by rw[bX,a7 Zo];rfl,dJ⟩ ?_
 rintro ay ⟨UL,Uh,Ui,UM,V8⟩
 refine(ri T5 Zo).Zm ?_
 rintro L aM aL ⟨rfl,rfl,UP,Ud,Ue,Uf⟩
 have UO:aX X S nx aM (nx+1+1+1+1+1):=V8.trans UP
 have UI:∀a,P a->H X aM a=H X S a:=λa c=>UO.R a (T3 a c).1
 rw[<-UP.R _ Zo]at UL Uh Ui
 rw[<-UP.cW _ _ Zo]at UM
 generalize VY:nx+1+1+1+1+1=T1 at*
 have VA:cS X aM m p k bn bp f:=by unfold cS at*;rw[UO.R m VF];exact V9
 have VK:gR X aM (nx+1+1) (gA λ_=>none):=⟨[],0,Ui,λ_=>rfl⟩
 refine gm ?_
 refine rj (P:=P) (g:=g) (b0:=b0) (bb:=bb) (b4:=b4) (bx:=bx) (bz:=bz) (au:=au) T5 (λi B ah=>il X aM T1 m (nx+1+1) p k bn bp (((bf g).take i).foldl fJ (λ_=>none,f)).2 (((bf g).take i).foldl fJ (λ_=>none,f)).1 B ah) Zo Zo Zo Zo
  (Up.R UI) (Uq.R UI) (Ur.R UI) Ud Ue Uf (λi B ah e=>⟨e.le,λa c=>e.low a (zu (T3 a c).1) (T3 a c).2 (zu (T3 a c).1)⟩)
  (λi ay aG aM aL e U7 UW=>e.R Zo Zo U7 UW) (λB T8=>⟨Zp _,by unfold cS at*;rw[T8.R _ Zo];exact VA,VK.R (T8.R _ Zo),λa c _ _=>T8.R a c⟩) ?_ ?_
 ·intro mk i w d UK T4 ai Z UN V3
  rw[mg fJ _ ai]
  generalize ((bf g).take i).foldl fJ (λ_=>none,f)=ar at Z ⊢
  have U7:=Z.le
  have UV:bO d=[.str d.name, .Z d.at_, .bool d.ty.b, .bool d.ty.s, .Z d.ty.w, .str d.on, .Z d.dg, .bool d.no]:=rfl
  rw[UV]
  unfold iF
  refine bh ⟨?_⟩
  generalize UR:aP X _ T4 _=z
  have T9:H X z T4=zy [.str d.name, .Z d.at_, .bool d.ty.b, .bool d.ty.s, .Z d.ty.w, .str d.on, .Z d.dg, .bool d.no] 8:=by rw[<-UR,a7 Zo];rfl
  have UX:∀a,a<T4->H X z a=H X UK a:=λa c=>by rw[<-UR];exact zA
  clear UR
  refine⟨by rw[UX _ Zo];exact V3, ?_⟩
  generalize US:aP X z (T1+1) _=C
  have Uj:H X C (T1+1)=some (mk .busy none):=by rw[<-US,a7 Zo]
  have UY:∀a,a≠T1+1->H X C a=H X z a:=λa c=>by rw[<-US,aV Zo c]
  clear US
  have s:=Z.R (aM:=C) (aL:=T4+1) Zo Zo Zo (λa v r=>by rw[UY a r,UX a v])
  rw[<-UY _ Zo]at T9
  have TY:H X C T1=some (.deferred (some [])):=by rw[UY _ Zo,UX _ Zo];exact UN
  have UB:W X C (.ptr nx 0)=some (.ptr m 0):=by rw[aZ (show H X C nx=_ by rw[s.low _ Zo Zo Zo];exact UL)];rfl
  have b4:W X C (.ptr (nx+1+1+1) 0)=some (.map (nx+1+1)):=zF (s.low _ Zo Zo Zo) UM
  have Uu:gn X C 9 (.Z 0) (.map (nx+1+1)) (.str d.name) false=some (.Z ((ar.1 d.name).getD 0)):=by
   rw[nw s.seen];unfold gA;cases ar.1 d.name<;>rfl
  refine c3 @b4 @Uu (aZ T9) ⟨?_⟩
  refine gm ?_
  refine c3 @b4 @Uu (aZ T9) ⟨?_⟩
  refine cQ (λUA B ah=>UA.g 4=some (.ptr (nx+1+1+1) 0)/\UA.g 6=some (.ptr T4 0)/\UA.g 5=some (.Z w)/\il X aM T1 m (nx+1+1) p k bn bp (fJ ar (w,d)).2 ar.1 B ah/\T4+1<=ah
   /\H X B T4=zy [.str d.name, .Z d.at_, .bool d.ty.b, .bool d.ty.s, .Z d.ty.w, .str d.on, .Z d.dg, .bool d.no] 8/\H X B T1=some (.deferred (some []))/\H X B (T1+1)=some (mk .busy none)) (λE Ut=> ?_) ?_
  ·by_cases UH:0<(ar.1 d.name).getD 0
   ·have am:decide (0<(ar.1 d.name).getD 0)=true:=by simp[UH]
    refine cw @am @UB (aZ T9) ⟨?_⟩
    refine(jY (S:=C) T5 Uo s.eE 24 d.at_).Zm ?_
    rintro L T6 Uc ⟨rfl,VC,VJ,U6⟩
    refine bh ⟨?_⟩
    refine Ut _ _ _ ⟨aI,aI,aI,⟨Zo, ?_,s.seen.R (U6 _ Zo),λa v r TZ=>by rw[U6 a r];exact s.low a v r TZ⟩,Zo,by rw[U6 _ Zo];exact T9,by rw[U6 _ Zo];exact TY,by rw[U6 _ Zo];exact Uj⟩
    unfold fJ
    simp only[UH,ZP]
    exact VC
   ·have am:decide (0<(ar.1 d.name).getD 0)=false:=by simp[UH]
    refine bB @am ⟨?_⟩
    refine Ut _ _ _ ⟨aI,aI,aI,⟨Zo, ?_,s.seen,s.low⟩,Zo,T9,TY,Uj⟩
    unfold fJ
    simp only[UH,ZM]
    exact s.eE
  ·rintro UA T6 Uc ⟨t4,VQ,t5,U4,VJ,T7,V2,V5⟩
   have VH:=U4.le
   have Uy:W X T6 (.ptr (nx+1+1+1) 0)=some (.map (nx+1+1)):=zF (U4.low _ Zo Zo Zo) UM
   show N _ _
   refine db @t4 @VQ @t5 @Uy (aZ T7) ⟨?_⟩
   obtain⟨O,VL,V6,UE⟩:=r3 (nx:=Uc) (show(o X).aN<=nx+1+1 by omega) U4.seen d.name (.Z w)
   refine eU VL ?_
   refine bh ⟨?_⟩
   refine⟨⟨.busy,none,by rw[UE _ Zo];exact V5⟩, ?_⟩
   have VD:cS X O m p k bn bp (fJ ar (w,d)).2:=by have:=U4.eE;unfold cS at*;rw[UE m Zo];exact this
   have V7:gR X O (nx+1+1) (gA (fJ ar (w,d)).1):=by
    have:(λx=>if x=d.name then some (q.Z w)else gA ar.1 x)=gA (fJ ar (w,d)).1:=by
     funext x;unfold gA fJ;by_cases e:x=d.name<;>simp[e]
    rw[<-this];exact V6
   have U1:il X aM T1 m (nx+1+1) p k bn bp (fJ ar (w,d)).2 (fJ ar (w,d)).1 O Uc:=⟨VH,VD,V7,λa v r TZ=>by rw[UE a TZ];exact U4.low a v r TZ⟩
   exact⟨rfl,U1.R Zo Zo (Zp _) (λa v r=>aV Zo r),by rw[aV Zo Zo,UE _ Zo];exact V2,a7 Zo⟩
 ·intro UK T4 Z UN
  rw[zi]at Z
  unfold j0
  generalize (bf g).foldl fJ (λ_=>none,f)=ar at Z ⊢
  have U7:=Z.le
  have Uz:H X UK (nx+1)=zy [.str g.name, .Z g.at_,bx,bz,au,Uv] 6:=by rw[Z.low _ Zo Zo Zo];exact Uh
  refine bB (aZ Uz) ⟨?_⟩
  refine(ri T5 Zo).Zm ?_
  rintro L z Vb ⟨rfl,rfl,U0,Ud,Ue,Uf⟩
  generalize VZ:T4+1=cf at*
  have VB:cS X z m p k bn bp ar.2:=by have:=Z.eE;unfold cS at*;rw[U0.R m Zo];exact this
  have V0:H X z T1=some (.deferred (some [])):=by rw[U0.R _ Zo];exact UN
  have UJ:∀a,P a->H X z a=H X S a:=λa c=>by
   have:=T3 a c
   rw[U0.R a Zo,Z.low a Zo this.2 Zo,UI a c]
  have Uw:H X z nx=zy [.ptr m 0] 1:=by rw[U0.R _ Zo,Z.low _ Zo Zo Zo];exact UL
  refine gm ?_
  refine rj (P:=P) (g:=g) (b0:=b0) (bb:=bb) (b4:=b4) (bx:=bx) (bz:=bz) (au:=au) T5 (λi B ah=>il X z cf m (nx+1+1) p k bn bp (((bf g).take i).foldl (gW t) ar.2) ar.1 B ah) Zo Zo Zo Zo
   (Up.R UJ) (Uq.R UJ) (Ur.R UJ) Ud Ue Uf (λi B ah e=>⟨e.le,λa c=>e.low a (zu (T3 a c).1) (T3 a c).2 (zu (T3 a c).1)⟩)
   (λi ay aG aM aL e U7 UW=>e.R Zo Zo U7 UW) (λB T8=>⟨Zp _,by unfold cS at*;rw[T8.R _ Zo];exact VB,(Z.seen.R (U0.R _ Zo)).R (T8.R _ Zo),λa c _ _=>T8.R a c⟩) ?_ ?_
  ·intro mk i w d C T0 ai s TY V4
   rw[mg (gW t) _ ai]
   generalize ((bf g).take i).foldl (gW t) ar.2=G at s ⊢
   have VI:=s.le
   have UV:bO d=[.str d.name, .Z d.at_, .bool d.ty.b, .bool d.ty.s, .Z d.ty.w, .str d.on, .Z d.dg, .bool d.no]:=rfl
   rw[UV]
   unfold iF
   refine bh ⟨?_⟩
   generalize UT:aP X _ T0 _=T6
   have T7:H X T6 T0=zy [.str d.name, .Z d.at_, .bool d.ty.b, .bool d.ty.s, .Z d.ty.w, .str d.on, .Z d.dg, .bool d.no] 8:=by rw[<-UT,a7 Zo];rfl
   have UZ:∀a,a<T0->H X T6 a=H X C a:=λa c=>by rw[<-UT];exact zA
   clear UT
   refine⟨by rw[UZ _ Zo];exact V4, ?_⟩
   generalize UU:aP X T6 (cf+1) _=O
   have UC:H X O (cf+1)=some (mk .busy none):=by rw[<-UU,a7 Zo]
   have Ua:∀a,a≠cf+1->H X O a=H X T6 a:=λa c=>by rw[<-UU,aV Zo c]
   clear UU
   have U1:=s.R (aM:=O) (aL:=T0+1) Zo Zo Zo (λa v r=>by rw[Ua a r,UZ a v])
   rw[<-Ua _ Zo]at T7
   have UD:H X O cf=some (.deferred (some [])):=by rw[Ua _ Zo,UZ _ Zo];exact TY
   have UB:W X O (.ptr nx 0)=some (.ptr m 0):=by rw[aZ (show H X O nx=_ by rw[U1.low _ Zo Zo Zo];exact Uw)];rfl
   have VO:W X O (.ptr m 2)=some bn:=by have:=U1.eE;unfold cS at this;rw[aZ this];rfl
   have U3:∀B ah,il X z cf m (nx+1+1) p k bn bp (gW t G (w,d)) ar.1 B ah->H X B cf=some (.deferred (some []))->(q.bool true=q.bool true/\il X z cf m (nx+1+1) p k bn bp (gW t G (w,d)) ar.1 (aP X B (cf+1) (some (mk .ready none))) ah/\H X (aP X B (cf+1) (some (mk .ready none))) cf=some (.deferred (some []))/\H X (aP X B (cf+1) (some (mk .ready none))) (cf+1)=some (mk .ready none)):=λB ah e r=>
    ⟨rfl,e.R Zo Zo (Zp _) (λa v r=>aV Zo r),by rw[aV Zo Zo];exact r,a7 Zo⟩
   refine hl ⟨?_⟩
   refine gm ?_
   refine cw @UB @VO (aZ T7) ⟨?_⟩
   refine l7 (λU8=>H X U8 (T0+1+10)=zy [.Z 0, .str [], .Z 0, .zF, .zF, .Z 0, .str [], .Z 0, .zF, .Z 0, .Z 0] 11/\aX X O (T0+1) U8 (T0+1+10+1)) ⟨by rw[a7 Zo];rfl,Zo,λa c=>zA⟩ ?_
   rintro U8 ⟨Uk,Um⟩
   refine(tW (nx:=T0+1+13) (S:=U8) T5 Zo (VM.R (bi:=P) (λa c=>by have:=T3 a c;rw[Um.R a Zo,U1.low a Zo this.2 Zo,UJ a c]) (λ_ e=>e)) (λa c=>zu (T3 a c).1) d.on).Zm ?_
   rintro L Ug VP ⟨rfl,UQ⟩
   have VV:=UQ.le
   have Ul:H X Ug (T0+1+10)=zy [.Z 0, .str [], .Z 0, .zF, .zF, .Z 0, .str [], .Z 0, .zF, .Z 0, .Z 0] 11:=by rw[UQ.R _ Zo];exact Uk
   generalize Va:(t d.on).getD kv=T2
   have VN:hw T2=[.Z T2.kind, .str T2.d.name, .Z T2.d.at_, .bool T2.d.ty.b, .bool T2.d.ty.s, .Z T2.d.ty.w, .str T2.d.on, .Z T2.d.dg, .bool T2.d.no, .Z T2.eq, .Z T2.left]:=rfl
   rw[VN]
   refine j6 ⟨?_⟩
   refine j6 ⟨?_⟩
   refine cz (e8 (k:=11) (b:=T0+1+10) (A:=0) (n:=11) Ul Zo rfl Zd Zd rfl) ?_
   generalize Un:aP X Ug (T0+1+10) _=U9
   have Ub:∀a,a<T0+1->H X U9 a=H X O a:=λa c=>by rw[<-Un,aV Zo Zo,UQ.R a Zo,Um.R a c]
   clear Un Uk Ul
   have U2:il X z cf m (nx+1+1) p k bn bp G ar.1 U9 VP:=U1.R Zo Zo Zo (λa v r=>Ub a v)
   rw[<-Ub _ Zo]at T7 UC UD
   have Ux:W X U9 (.ptr nx 0)=some (.ptr m 0):=zF (Ub _ Zo) UB
   cases Us:(t d.on)with
   |some Vd=>
    have U5:gW t G (w,d)=G:=by unfold gW;rw[Zj (by simp[Us])]
    simp only[Ya]
    refine bh ⟨?_⟩
    rw[U5]at U3 ⊢
    exact⟨⟨.busy,none,UC⟩,U3 _ _ U2 UD⟩
   |none=>
    simp only[Z4]
    by_cases UG:d.on=[]
    ·have U5:gW t G (w,d)=G:=by unfold gW;rw[Zj (by simp[UG])]
     have am:decide (d.on≠[])=false:=by simp[UG]
     refine ci (aZ T7) @am ⟨?_⟩
     rw[U5]at U3 ⊢
     exact⟨⟨.busy,none,UC⟩,U3 _ _ U2 UD⟩
    ·have U5:gW t G (w,d)=fe G 23 d.dg:=by unfold gW;rw[Zv ⟨Us,UG⟩]
     have am:decide (d.on≠[])=true:=by simp[UG]
     refine cw (aZ T7) @am @Ux ⟨?_⟩
     refine(jY (S:=U9) T5 Uo U2.eE 23 d.dg).Zm ?_
     rintro L fw Vc ⟨rfl,VE,VW,UF⟩
     refine bh ⟨?_⟩
     rw[U5]at U3 ⊢
     have VU:=U2.le
     exact⟨⟨.busy,none,by rw[UF _ Zo];exact UC⟩,U3 _ _ ⟨Zo,VE,U2.seen.R (UF _ Zo),λa v r TZ=>by rw[UF a r];exact U2.low a v r TZ⟩ (by rw[UF _ Zo];exact UD)⟩
  ·intro C T0 s TY
   rw[zi]at s
   generalize (bf g).foldl (gW t) ar.2=G at s ⊢
   have VI:=s.le
   have V1:H X C T1=some (.deferred (some [])):=by rw[s.low _ Zo Zo Zo];exact V0
   show hR X [] _ _ _ _ _
   simp only[jx,i6,jT]
   refine⟨by show(o X).aN<=cf;omega,TY, ?_⟩
   refine⟨by show(o X).aN<=T1;omega,by rw[aV Zo Zo];exact V1, ?_⟩
   show i2 _ _ _ _ _
   refine⟨rfl, ?_,Zo,λa v r=> ?_⟩
   ·have:=s.eE
    unfold cS at*
    rw[aV Zo Zo,aV Zo Zo];exact this
   ·rw[aV Zo Zo,aV Zo Zo,s.low a Zo r Zo,U0.R a Zo,Z.low a Zo r Zo,UO.R a v]
end
def iZ(s:(aT->Option c5)×List aT)(x:Int×bv):(aT->Option c5)×List aT:=
 if (s.1 x.2.name).isSome then s else(λw=>if w=x.2.name then some ⟨x.1,x.2, -1, -1⟩else s.1 w,s.2++[x.2.name])
def hO(k:Nat)(t:aT->Option c5)(x:aT×Nat):aT->Option c5:=match t x.1 with
 |some v=>if v.eq<0 then(λw=>if w=x.1 then some ⟨v.kind,v.d,k,x.2⟩else t w)else t
 |none=>t
def oX(t:aT->Option c5)(x:dL×Nat):aT->Option c5:=x.1.left.zipIdx.foldl (hO x.2) t
def hp(g:Go.a6.Node):(aT->Option c5)×List aT:=(bf g).foldl iZ (λ_=>none,[])
def cR(g:Go.a6.Node):aT->Option c5:=g.eqs.zipIdx.foldl oX (hp g).1
def r4(g:Go.a6.Node):List aT:=(hp g).2
def kt(t:aT->Option c5):aT->Option q:=λw=>(t w).map λv=> .agg (hw v)
def vm{α:Type}{h:List α}{i:Nat}{x:α}(e:h[i]? =some x):h.zipIdx[i]? =some (x,i):=by
 rw[List.getElem?_zipIdx,e];simp
section
variable{X:bQ}{S B cE ay aM:F ac}{nx nx' aG aL:Nat}
structure ir(X:bQ)(b:F ac)(d bw bn aC:Nat)(t:aT->Option c5)(c6:List aT)(S:F ac)(n:Nat):Prop where
 le:aC<=n
 map:gR X S bw (kt t)
 o6:∃c au aH,H X S bn=some (.cells c 2 .own)/\c.get 0=some (.map bw)/\c.get 1=some au/\cT X S au 1 (c6.map .str) aH/\∀a∈aH,aC<=a/\a<n
 low:∀a,a<d->a≠bw->a≠bn->H X S a=H X b a
def ir.R{g:F ac}{b bw bn aC:Nat}{t:aT->Option c5}{c6:List aT}(e:ir X g b bw bn aC t c6 ay aG)(C:bw<b)(O:bn<b)(z:b<=aC)(G:aG<=aL)(d:∀a,a<aG->(a<b\/aC<=a)->H X aM a=H X ay a):ir X g b bw bn aC t c6 aM aL:=by
 have x:=e.le
 refine⟨Zo,e.map.R (d _ Zo Zo), ?_,λa s v w=>by rw[d a Zo Zo];exact e.low a s v w⟩
 obtain⟨c,au,aH,m,n,p,r,i⟩:=e.o6
 exact⟨c,au,aH,by rw[d _ Zo Zo];exact m,n,p,r.R (λa f=>by have:=i a f;exact d a Zo Zo),λa f=>zu (i a f)⟩
def IH(Ux:dV X){P:Nat->Prop}{g:Go.a6.Node}{row:List q}(WH:(o X).aN<=nx)(UF:∀a,P a->a<nx)(Vj:mW X S P g row)(WG:(bf g).length<=300000):
 aJ X 47 [.agg row] S nx (λL B nx'=>∃bn bw au b,L= .ptr bn 0/\dk nx nx' bn/\dk nx nx' bw/\W X B (.ptr bn 0)=some (.map bw)/\gR X B bw (kt (cR g))/\W X B (.ptr bn 1)=some au/\cg X B (dk nx nx') b au 1 (dr (r4 g))/\aX X S nx B nx') zG:=by
 refine q1 (CO X) (Ux.none _ _ rfl) ?_
 rw[CP]
 unfold wi
 obtain⟨bx,bz,au,Uk,b0,bb,b4,c1,rows,rfl,Vk,Vl,Vm,Ue,VH⟩:=Vj
 refine bh ⟨?_⟩
 refine l7 (λay=>H X ay nx=zy [.str g.name, .Z g.at_,bx,bz,au,Uk] 6
  /\H X ay (nx+1)=some (.map [] 0)/\H X ay (nx+1+1)=zy [.map (nx+1), .aw] 2/\W X ay (.ptr (nx+1+1+1) 0)=some (.ptr (nx+1+1) 0)/\aX X S nx ay (nx+1+1+1+1)) ⟨by(first|assumption|(exact zL)|(simp(disch:=omega) only[a7,aV])),by(first|assumption|(exact zL)|(simp(disch:=omega) only[a7,aV])),by(first|assumption|(exact zL)|(simp(disch:=omega) only[a7,aV])),by rw[bX,a7 Zo];rfl,dJ⟩ ?_
 rintro ay ⟨V9,VA,VB,Uc,Vf⟩
 refine(ri Ux Zo).Zm ?_
 rintro L aM aL ⟨rfl,rfl,Uv,UW,UX,UY⟩
 have VC:aX X S nx aM (nx+1+1+1+1+1):=Vf.trans Uv
 have UU:∀a,P a->H X aM a=H X S a:=λa f=>VC.R a (UF a f)
 rw[<-Uv.R _ Zo]at V9 VA VB
 rw[<-Uv.cW _ _ Zo]at Uc
 generalize WI:nx+1+1+1+1+1=p at*
 refine gm ?_
 refine rj (P:=P) (g:=g) (b0:=b0) (bb:=bb) (b4:=b4) (bx:=bx) (bz:=bz) (au:=au) Ux (λi B ah=>ir X aM p (nx+1) (nx+1+1) (p+2) (((bf g).take i).foldl iZ (λ_=>none,[])).1 (((bf g).take i).foldl iZ (λ_=>none,[])).2 B ah/\(((bf g).take i).foldl iZ (λ_=>none,[])).2.length<=i) Zo Zo Zo Zo
  (Vk.R UU) (Vl.R UU) (Vm.R UU) UW UX UY (λi B ah e=>⟨e.1.le,λa f=>e.1.low a (zu (UF a f)) (zu (UF a f)) (zu (UF a f))⟩)
  (λi ay aG aM aL e VK Vp=>⟨e.1.R Zo Zo Zo VK (λa t z=>Vp a t Zo),e.2⟩)
  (λB Uu=>⟨⟨Zp _,⟨[],0,by rw[Uu.R _ Zo];exact VA,λ_=>rfl⟩,⟨_, .aw,[],by rw[Uu.R _ Zo];exact VB,rfl,rfl, .inl (.inl ⟨rfl,rfl,rfl⟩),λa f=>by simp at f⟩,λa f _ _=>Uu.R a f⟩,Zs⟩) ?_ ?_
 ·intro mk i UK d Ub T3 ai T0 Us Ve
  rw[mg iZ _ ai]
  generalize ((bf g).take i).foldl iZ (λ_=>none,[])=ar at T0 ⊢
  obtain⟨T0,V1⟩:=T0
  have WC:=(Zf.1 ai).1
  have VK:=T0.le
  have Vi:bO d=[.str d.name, .Z d.at_, .bool d.ty.b, .bool d.ty.s, .Z d.ty.w, .str d.on, .Z d.dg, .bool d.no]:=rfl
  rw[Vi]
  unfold iF
  refine bh ⟨?_⟩
  generalize Uy:aP X _ T3 _=T8
  have UD:H X T8 T3=zy [.str d.name, .Z d.at_, .bool d.ty.b, .bool d.ty.s, .Z d.ty.w, .str d.on, .Z d.dg, .bool d.no] 8:=by rw[<-Uy,a7 Zo];rfl
  have V5:∀a,a<T3->H X T8 a=H X Ub a:=λa f=>by rw[<-Uy];exact zA
  clear Uy
  refine⟨by rw[V5 _ Zo];exact Ve, ?_⟩
  generalize U6:aP X T8 (p+1) _=T1
  have UE:H X T1 (p+1)=some (mk .busy none):=by rw[<-U6,a7 Zo]
  have UH:∀a,a≠p+1->H X T1 a=H X T8 a:=λa f=>by rw[<-U6,aV Zo f]
  clear U6
  have T5:=T0.R (aM:=T1) (aL:=T3+1) Zo Zo Zo Zo (λa t z=>by rw[UH a Zo,V5 a t])
  rw[<-UH _ Zo]at UD
  have Ud:H X T1 p=some (.deferred (some [])):=by rw[UH _ Zo,V5 _ Zo];exact Us
  have b4:W X T1 (.ptr (nx+1+1+1) 0)=some (.ptr (nx+1+1) 0):=zF (T5.low _ Zo Zo Zo) Uc
  obtain⟨UO,WO,VY,U1,U2,Ui,Uj,Z⟩:=T5.o6
  have U0:gn X T1 9 (.agg [.Z 0, .str [], .Z 0, .zF, .zF, .Z 0, .str [], .Z 0, .zF, .Z 0, .Z 0]) (.map (nx+1)) (.str d.name) true=some (.tuple [.agg (hw ((ar.1 d.name).getD kv)), .bool (ar.1 d.name).isSome]):=by
   rw[nw T5.map];unfold kt;cases ar.1 d.name<;>rfl
  generalize V4:(ar.1 d.name).getD kv=r at U0
  have V3:hw r=[.Z r.kind, .str r.d.name, .Z r.d.at_, .bool r.d.ty.b, .bool r.d.ty.s, .Z r.d.ty.w, .str r.d.on, .Z r.d.dg, .bool r.d.no, .Z r.eq, .Z r.left]:=rfl
  rw[V3]at U0
  have VI:∀B ah (G:(aT->Option c5)×List aT),ir X aM p (nx+1) (nx+1+1) (p+2) G.1 G.2 B ah->G.2.length<=i+1->H X B p=some (.deferred (some []))->(q.bool true=q.bool true/\(ir X aM p (nx+1) (nx+1+1) (p+2) G.1 G.2 (aP X B (p+1) (some (mk .ready none))) ah/\G.2.length<=i+1)/\H X (aP X B (p+1) (some (mk .ready none))) p=some (.deferred (some []))/\H X (aP X B (p+1) (some (mk .ready none))) (p+1)=some (mk .ready none)):=λB ah G e ap z=>
   ⟨rfl,⟨e.R Zo Zo Zo (Zp _) (λa t z=>aV Zo Zo),ap⟩,by rw[aV Zo Zo];exact z,a7 Zo⟩
  refine hl ⟨?_⟩
  refine gm ?_
  refine db @b4 (aZ U1) @U2 (aZ UD) @U0 ⟨?_⟩
  generalize VE:aP X _ (T3+1+10) _=T4
  have UT:∀a,a<T3+1->H X T4 a=H X T1 a:=λa f=>by rw[<-VE];exact zA
  clear VE U0
  have O:ir X aM p (nx+1) (nx+1+1) (p+2) ar.1 ar.2 T4 (T3+1+13):=T5.R Zo Zo Zo Zo (λa t z=>UT a t)
  rw[<-UT _ Zo]at UD UE Ud
  have UN:W X T4 (.ptr (nx+1+1+1) 0)=some (.ptr (nx+1+1) 0):=zF (UT _ Zo) b4
  have VS:H X T4 (nx+1+1)=some (.cells UO 2 .own):=by rw[UT _ Zo];exact U1
  cases U8:ar.1 d.name with
  |some WQ=>
   have TY:iZ ar (UK,d)=ar:=by unfold iZ;rw[Zv (by simp[U8])]
   rw[TY]
   simp only[Ya]
   refine bh ⟨?_⟩
   exact⟨⟨.busy,none,UE⟩,VI _ _ ar (O.R Zo Zo Zo Zo (λ_ _ _=>rfl)) Zo Ud⟩
  |none=>
   have TY:iZ ar (UK,d)=(λw=>if w=d.name then some ⟨UK,d, -1, -1⟩else ar.1 w,ar.2++[d.name]):=by unfold iZ;rw[Zj (by simp[U8])]
   rw[TY]
   simp only[Z4]
   refine cV @UN (aZ VS) @U2 (aZ UD) ⟨?_⟩
   generalize W9:T3+1+13+10=bT
   obtain⟨T2,Uf,VD,UR⟩:=r3 (nx:=bT) (show(o X).aN<=nx+1 by omega) O.map d.name (.agg (hw ⟨UK,d, -1, -1⟩))
   refine eU Uf ?_
   have V8:W X T2 (.ptr (nx+1+1+1) 0)=some (.ptr (nx+1+1) 0):=zF (UR _ Zo) UN
   have VT:H X T2 (nx+1+1)=some (.cells UO 2 .own):=by rw[UR _ Zo];exact VS
   rw[<-UR _ Zo]at UD UE Ud
   refine cV @V8 (aZ VT) @Ui (aZ UD) ⟨?_⟩
   generalize U7:aP X T2 (bT+7) _=T9
   have Vb:H X T9 (bT+7)=zy [.str d.name] 1:=by rw[<-U7,a7 Zo]
   have T6:∀a,a<bT->H X T9 a=H X T2 a:=λa f=>by rw[<-U7];exact zA
   clear U7 Uf
   obtain⟨V7,UC,VX,Vh,VO,VF,UG⟩:=(Uj.R (B:=T9) (λa f=>by have:=Z a f;rw[T6 a Zo,UR a Zo,UT a Zo])).append (nx:=bT+12) Zd (hu Vb (dj _) rfl _) rfl Zd rfl Zx Zo (λa f=>zu (Z a f))
   refine eU Vh ?_
   have UJ:∀a,a<bT->a∉VY->H X UC a=H X T2 a:=λa f e=>by rw[UG a Zo e,T6 a f]
   have VW:W X UC (.ptr (nx+1+1+1) 0)=some (.ptr (nx+1+1) 0):=zF (UJ _ Zo (λe=>zu (Z _ e))) V8
   have W3:H X UC (nx+1+1)=some (.cells UO 2 .own):=by rw[UJ _ Zo (λe=>zu (Z _ e))];exact VT
   refine bB @VW ⟨?_⟩
   refine eV (by simp[q.same]) ?_
   obtain⟨W1,W2,WM⟩:=c9.one VO
   refine cz (kr W3 Zo Zo W1 W2) ?_
   refine bh ⟨?_⟩
   generalize V0:aP X UC (nx+1+1) _=Uo
   have W4:H X Uo (nx+1+1)=some (.cells (UO.set 1 (some V7)) 2 .own):=by rw[<-V0,a7 Zo]
   have UV:∀a,a≠nx+1+1->H X Uo a=H X UC a:=λa f=>by rw[<-V0,aV Zo f]
   clear V0
   have W0:∀a,a<T3+1->(a<p\/a=p\/a=p+1)->a≠nx+1+1->a≠nx+1->H X Uo a=H X T4 a:=λa f t z TZ=>by
    rw[UV a z,UJ a Zo (λe=>zu (Z _ e)),UR a TZ]
   refine⟨⟨.busy,none, ?_⟩,VI _ _ (_,ar.2++[d.name]) ⟨Zo, ?_,⟨UO.set 1 (some V7),V7,VX,W4, ?_, ?_, ?_, ?_⟩, ?_⟩ Zx ?_⟩
   ·rw[UV _ Zo,UJ _ Zo (λe=>zu (Z _ e))];exact UE
   ·have:(λx=>if x=d.name then some (q.agg (hw ⟨UK,d, -1, -1⟩))else kt ar.1 x)=kt (λw=>if w=d.name then some ⟨UK,d, -1, -1⟩else ar.1 w):=by
     funext x;unfold kt;by_cases e:x=d.name<;>simp[e]
    rw[this]at VD
    exact VD.R (by rw[UV _ Zo,UJ _ Zo (λe=>zu (Z _ e))])
   ·rw[F.gj,Zj Zd];exact U2
   ·rw[F.gj,Zv rfl]
   ·rw[YF]
    exact .inl (VO.R λa f=>UV a (by rcases VF a f with rfl|e;omega;have:=Z _ e;omega))
   ·intro a f
    rcases VF a f with rfl|e
    ·omega
    ·have:=Z _ e;omega
   ·intro a t z TZ
    rw[W0 a Zo (.inl t) TZ z];exact O.low a t z TZ
   ·rw[UV _ Zo,UJ _ Zo (λe=>zu (Z _ e))];exact Ud
 ·intro Ub T3 T0 Us
  rw[zi]at T0
  obtain⟨T0,V1⟩:=T0
  change ir X aM p (nx+1) (nx+1+1) (p+2) (hp g).1 (hp g).2 Ub T3 at T0
  change (hp g).2.length<=_ at V1
  have Vc:H X Ub nx=zy [.str g.name, .Z g.at_,bx,bz,au,Uk] 6:=by rw[T0.low _ Zo Zo Zo];exact V9
  have VQ:=VH.wide
  have VL:=Ue.len
  have Vq:=Ue.many
  rw[VQ.1]at VL Vq
  refine ci (aZ Vc) @VL ⟨?_⟩
  refine cM (λm y B ah=>∃(E:Nat),y.g 3=some (.ptr (nx+1+1+1) 0)/\y.g 54=some Uk/\y.g 55=some (.Z (g.eqs.length:Int))/\y.g 56=some (.Z (E:Int))/\y.av=[⟨.collected p,[]⟩]/\E+m=g.eqs.length
   /\ir X aM p (nx+1) (nx+1+1) (p+2) ((g.eqs.zipIdx.take E).foldl oX (hp g).1) (hp g).2 B ah/\H X B p=some (.deferred (some [])))
   g.eqs.length ⟨0,aI,aI,aI,cx,rfl,Zo,T0,Us⟩ ?_
  rintro m y T8 UL ⟨E,t3,UA,U3,U4,UB,WD,U5,Ut⟩
  have WE:=U5.le
  cases m with
  |zero=>
   have am:=zv E g.eqs.length
   have VU:W X T8 (.ptr (nx+1+1+1) 0)=some (.ptr (nx+1+1) 0):=zF (U5.low _ Zo Zo Zo) Uc
   refine db @U4 @U3 @t3 @am @VU ⟨?_⟩
   have Vo:(g.eqs.zipIdx.take E).foldl oX (hp g).1=cR g:=by
    rw[Zt Zx];rfl
   rw[Vo]at U5
   show hR X [.tmp 2] _ _ _ _ _
   simp only[i6,UB]
   refine⟨by show(o X).aN<=p;omega,Ut, ?_⟩
   show i2 _ _ _ _ _
   unfold i2
   refine bh ⟨?_⟩
   have T5:=U5.R (aM:=aP X T8 p (some (.deferred none))) Zo Zo Zo (Zp _) (λa t z=>aV Zo Zo)
   obtain⟨c,s,aH,U1,U2,Ui,Uj,Z⟩:=T5.o6
   obtain⟨b,Y⟩:=Uj.qp (P:=dk nx UL) (by simp[r4]at V1 ⊢;omega) (λa f=>by have:=Z a f;exact⟨Zo,Zo⟩)
   refine⟨nx+1+1,nx+1,s,b,rfl,⟨Zo,Zo⟩,⟨Zo,Zo⟩,by rw[aZ U1];exact U2,T5.map,by rw[aZ U1];exact Ui, ?_,Zo,λa f=> ?_⟩
   ·have:dr (r4 g)=((hp g).2.map q.str).map λv=>[v]:=by unfold dr r4;rw[YH];rfl
    rw[this];exact Y
   ·rw[T5.low a Zo Zo Zo];exact VC.R a f
  |succ m=>
   have am:=zw E g.eqs.length
   have Va:=zz E
   obtain⟨J,VM⟩:=zx g.eqs E
   obtain⟨row,Vv,Vu⟩:=VH.get E J VM
   have Vy:∀a,P a->H X T8 a=H X S a:=λa f=>by have:=UF a f;rw[U5.low a Zo Zo Zo,UU a f]
   have Vn:=Ue.cP E (by rw[VQ.1];omega)
   have Vw:=(Ue.R Vy).row Zd Vv
   obtain⟨VR,WN,W7,W8,dy,rfl,US,Vr,WJ,Vs⟩:=Vu
   have WK:=fg US.len
   have WL:=fg Vr.1.len
   have VN:=US.len
   have Vt:=US.many
   rw[show(dr J.left).length=J.left.length from by simp[dr]]at VN Vt
   have V2:=mg oX (hp g).1 (vm VM)
   rw[show(J,E)=(J,E) from rfl]at V2
   generalize WB:(g.eqs.zipIdx.take E).foldl oX (hp g).1=Un at U5 V2
   refine dp @U4 @U3 @UA @am @Vn @Vw ⟨?_⟩
   refine cz (e8 (k:=4) (b:=UL) (A:=0) (n:=4) (c:=F.ofList [.aw, .aw, .Z 0, .bt] 0 .nil) (a7 Zo) Zo rfl Zd Zd Vs) ?_
   generalize U6:aP X _ UL _=T1
   have UE:W X T1 (.ptr UL 0)=some VR:=by rw[<-U6,bX,a7 Zo];rfl
   have UH:∀a,a<UL->H X T1 a=H X T8 a:=λa f=>by rw[<-U6];exact zA
   clear U6
   have T5:ir X aM p (nx+1) (nx+1+1) (p+2) Un (hp g).2 T1 (UL+1):=U5.R Zo Zo Zo Zo (λa t z=>UH a t)
   rw[<-UH _ Zo]at Ut
   refine ci @UE @VN ⟨?_⟩
   refine cM (λU9 y B ah=>∃(i:Nat),y.g 3=some (.ptr (nx+1+1+1) 0)/\y.g 54=some Uk/\y.g 55=some (.Z (g.eqs.length:Int))/\y.g 56=some (.Z (E:Int))/\y.av=[⟨.collected p,[]⟩]/\y.g 8=some (.Z (E:Int))/\y.g 62=some VR/\y.g 63=some (.Z (J.left.length:Int))/\y.g 64=some (.Z (i:Int))/\i+U9=J.left.length
    /\ir X aM p (nx+1) (nx+1+1) (p+2) ((J.left.zipIdx.take i).foldl (hO E) Un) (hp g).2 B ah/\H X B p=some (.deferred (some [])))
    J.left.length ⟨0,al t3,al UA,al U3,al U4,UB,aI,aI,aI,cx,Zo,T5,Ut⟩ ?_
   rintro U9 W5 T4 T7 ⟨i,t3,UA,U3,U4,UB,Um,Ul,Ua,UM,ai,O,UP⟩
   have WF:=O.le
   cases U9 with
   |zero=>
    have am:=zv i J.left.length
    refine db @UM @Ua @U4 @am @Va ⟨?_⟩
    rw[Zt Zx]at O
    refine⟨m,Zo,E+1,al t3,al UA,al U3,aI,UB,Zo, ?_,UP⟩
    rw[V2]
    exact O
   |succ U9=>
    have am:=zw i J.left.length
    have Uq:=zz i
    obtain⟨w,VP⟩:=zx J.left i
    have Vz:∀a,P a->H X T4 a=H X S a:=λa f=>by have:=UF a f;rw[O.low a Zo Zo Zo,UU a f]
    have VJ:=US.cP i (by simp[dr];omega)
    have VG:=(US.R Vz).cell i [.str w] 0 (.str w) (by unfold dr;rw[Zw,VP];rfl) rfl
    rw[ZV]at VJ
    rw[ZV,ZH]at VG
    have Uh:=mg (hO E) Un (vm VP)
    generalize WA:(J.left.zipIdx.take i).foldl (hO E) Un=C at O Uh
    have UN:W X T4 (.ptr (nx+1+1+1) 0)=some (.ptr (nx+1+1) 0):=zF (O.low _ Zo Zo Zo) Uc
    obtain⟨VZ,WP,W6,U1,U2,Ui,Uj,Z⟩:=O.o6
    have U0:gn X T4 9 (.agg [.Z 0, .str [], .Z 0, .zF, .zF, .Z 0, .str [], .Z 0, .zF, .Z 0, .Z 0]) (.map (nx+1)) (.str w) true=some (.tuple [.agg (hw ((C w).getD kv)), .bool (C w).isSome]):=by
     rw[nw O.map];unfold kt;cases C w<;>rfl
    generalize V4:(C w).getD kv=r at U0
    have V3:hw r=[.Z r.kind, .str r.d.name, .Z r.d.at_, .bool r.d.ty.b, .bool r.d.ty.s, .Z r.d.ty.w, .str r.d.on, .Z r.d.dg, .bool r.d.no, .Z r.eq, .Z r.left]:=rfl
    rw[V3]at U0
    refine bo @UM @Ua @Ul @t3 @am @VJ (Za @VG (Za @UN (Za (aZ U1) (Za @U2 @U0)))) ⟨?_⟩
    generalize Uz:aP X _ T7 _=T2
    have Ur:H X T2 T7=zy [.Z r.kind, .str r.d.name, .Z r.d.at_, .bool r.d.ty.b, .bool r.d.ty.s, .Z r.d.ty.w, .str r.d.on, .Z r.d.dg, .bool r.d.no, .Z r.eq, .Z r.left] 11:=by rw[<-Uz,a7 Zo];rfl
    have UI:∀a,a<T7->H X T2 a=H X T4 a:=λa f=>by rw[<-Uz];exact zA
    clear Uz
    have UQ:ir X aM p (nx+1) (nx+1+1) (p+2) C (hp g).2 T2 (T7+1):=O.R Zo Zo Zo Zo (λa t z=>UI a t)
    rw[<-UI _ Zo]at UP
    cases U8:C w with
    |none=>
     have TY:hO E C (w,i)=C:=by unfold hO;simp only[U8]
     simp only[Z4]
     refine ci @UM @Uq ⟨?_⟩
     exact⟨U9,Zo,i+1,al t3,al UA,al U3,al U4,UB,al Um,al Ul,al Ua,aI,Zo,by rw[Uh,TY];exact UQ,UP⟩
    |some v=>
     have Vx:v=r:=by rw[U8]at V4;exact V4
     subst Vx
     simp only[Ya]
     by_cases Ug:v.eq<0
     ·have Up:decide (v.eq<0)=true:=by simp[Ug]
      have TY:hO E C (w,i)=λx=>if x=w then some ⟨v.kind,v.d,E,i⟩else C x:=by unfold hO;simp only[U8,Ug,ZP]
      refine cV (aZ Ur) @Up @Um @UM ⟨?_⟩
      generalize U7:aP X (aP X T2 T7 _) T7 _=T9
      have Vd:H X T9 T7=zy [.Z v.kind, .str v.d.name, .Z v.d.at_, .bool v.d.ty.b, .bool v.d.ty.s, .Z v.d.ty.w, .str v.d.on, .Z v.d.dg, .bool v.d.no, .Z E, .Z i] 11:=by rw[<-U7,a7 Zo];rfl
      have T6:∀a,a≠T7->H X T9 a=H X T2 a:=λa f=>by rw[<-U7,aV Zo f,aV Zo f]
      clear U7 Ur
      have Uw:ir X aM p (nx+1) (nx+1+1) (p+2) C (hp g).2 T9 (T7+1):=⟨UQ.le,UQ.map.R (T6 _ Zo),by
       obtain⟨c,s,aH,V6,UW,UX,UY,UZ⟩:=O.o6
       exact⟨c,s,aH,by rw[T6 _ Zo,UI _ Zo];exact V6,UW,UX,UY.R (λa f=>by have:=UZ a f;rw[T6 a Zo,UI a Zo]),λa f=>zu (UZ a f)⟩,
       λa t z TZ=>by rw[T6 a Zo];exact UQ.low a t z TZ⟩
      have VV:W X T9 (.ptr (nx+1+1+1) 0)=some (.ptr (nx+1+1) 0):=by rw[bX,T6 _ Zo,UI _ Zo, <-bX];exact UN
      have eb:H X T9 (nx+1+1)=some (.cells VZ 2 .own):=by rw[T6 _ Zo,UI _ Zo];exact U1
      refine db @t3 @VV (aZ eb) @U2 (aZ Vd) ⟨?_⟩
      obtain⟨UC,Uf,Vg,UG⟩:=r3 (nx:=T7+1+7) (show(o X).aN<=nx+1 by omega) Uw.map w (.agg (hw ⟨v.kind,v.d,E,i⟩))
      refine eU Uf ?_
      refine ci @UM @Uq ⟨?_⟩
      refine⟨U9,Zo,i+1,al t3,al UA,al U3,al U4,UB,al Um,al Ul,al Ua,aI,Zo, ?_,by rw[UG _ Zo,T6 _ Zo];exact UP⟩
      rw[Uh,TY]
      refine⟨Zo, ?_, ?_,λa t z TZ=>by rw[UG a z];exact Uw.low a t z TZ⟩
      ·have:(λx=>if x=w then some (q.agg (hw ⟨v.kind,v.d,E,i⟩))else kt C x)=kt (λx=>if x=w then some ⟨v.kind,v.d,E,i⟩else C x):=by
        funext x;unfold kt;by_cases e:x=w<;>simp[e]
       rw[<-this];exact Vg
      ·obtain⟨c,s,aH,V6,UW,UX,UY,UZ⟩:=Uw.o6
       exact⟨c,s,aH,by rw[UG _ Zo];exact V6,UW,UX,UY.R (λa f=>by have:=UZ a f;exact UG a Zo),λa f=>zu (UZ a f)⟩
     ·have Up:decide (v.eq<0)=false:=by simp[Ug]
      have TY:hO E C (w,i)=C:=by unfold hO;simp only[U8,Ug,ZM]
      refine cV (aZ Ur) @Up @UM @Uq ⟨?_⟩
      exact⟨U9,Zo,i+1,al t3,al UA,al U3,al U4,UB,al Um,al Ul,al Ua,aI,Zo,by rw[Uh,TY];exact UQ,UP⟩
end
mutual
def dH:bg->List bg
 | .mk k a nm no t n args=> .mk k a nm no t n args::ev args
def ev:List bg->List bg
 |[]=>[]
 |j::h=>dH j++ev h
end
mutual
def Ba{b:Type}(step:b->bg->b×Bool)(e:∀s j,(step s j).2=true):∀(j:bg) (s:b),mO step s j=(dH j).foldl (λs j=>(step s j).1) s
 | .mk k a nm no t n args,s=>by
   rw[mO,Zv (e _ _),dH,ZU]
   exact Bb step e args _
def Bb{b:Type}(step:b->bg->b×Bool)(e:∀s j,(step s j).2=true):∀(h:List bg) (s:b),kw step s h=(ev h).foldl (λs j=>(step s j).1) s
 |[],s=>by rw[kw,ev];rfl
 |j::h,s=>by
  rw[kw,ev,YX,Ba step e j s]
  exact Bb step e h _
end
def eL(J:dL):List (aT×Int):=J.left.zipIdx.map λx=>(x.1,(J.bu[x.2]?).getD 0)
def g2(t:aT->Option c5)(s:(aT->Option Int)×(Int×Int))(x:aT×Int):(aT->Option Int)×(Int×Int):=(λw=>if w=x.1 then some ((s.1 x.1).getD 0+1)else s.1 w,oN t s.1 s.2 x.1 x.2)
def e4(t:aT->Option c5)(T:List Go.a6.Node)(k:Nat)(s:(aT->Option Int)×(Int×Int))(J:dL):(aT->Option Int)×(Int×Int):=
 (((eL J).foldl (g2 t) s).1,oZ t T k ((eL J).foldl (g2 t) s).2 J.right)
def f5(D:aT->Option Int)(f:Int×Int)(x:Int×bv):Int×Int:=if x.1≠1/\(D x.2.name).getD 0=0 then fe f 37 x.2.at_ else f
def jB(T:List Go.a6.Node)(k:Nat)(g:Go.a6.Node):Int×Int:=if (eh T g.name).getD 0<k then fe (0,0) 24 g.at_ else(0,0)
def hM(T:List Go.a6.Node)(k:Nat)(g:Go.a6.Node):Int×Int:=
 (bf g).foldl (f5 (g.eqs.foldl (e4 (cR g) T k) (λ_=>none,j0 (cR g) g (jB T k g))).1) (g.eqs.foldl (e4 (cR g) T k) (λ_=>none,j0 (cR g) g (jB T k g))).2
def na(T:List Go.a6.Node):Nat->List Go.a6.Node->Int×Int
 |_,[]=>(0,0)
 |k,g::h=>if (hM T k g).1≠0 then hM T k g else na T (k+1) h
def l9(T:List Go.a6.Node):Int×Int:=na T 0 T
def FR(f:Int×Int){c:Int}(a:Int)(b:c≠0):(fe f c a).1≠0:=by
 unfold fe
 split
 ·exact b
 ·rename_i e;exact e
def yU:List aT:=[[97],[98],[99],[120,95,49],[95],[90,57],[119,104,101,110,95],[117,54,53],[97,98,99,100,101,102,103,104,105,106,107,108,109,110,111,112,113,114,115,116,117,118,119,120,121,122,48,49,50,51,52,53],[111,117,116],[97,97],[98,97],[99,97],[120,95,49,97],[95,97],[90,57,97],[119,104,101,110,95,97],[117,54,53,97]]
def ek:List aT:=yU++[[],[53,120],[116,104,101,110],[117,56],[97,98,99,100,101,102,103,104,105,106,107,108,109,110,111,112,113,114,115,116,117,118,119,120,121,122,48,49,50,51,52,53,97]]
def c4(s:aT):Bool:=decide (s∈yU)
def gt:aT:=[111,117,116]
def l2(k:Int):Option Nat:=if k=25 then none else if k=1\/k=2 then some 0 else if k=3\/k=4\/k=5\/k=6\/k=19\/k=20\/k=26 then some 1 else if k=23 then some 3 else some 2
def eG(k:Int):Prop:=k=2\/k=6\/k=24\/k=25
def fC(k:Int):Prop:=k=1\/k=26
def fI(t:d7):Int:=if t.s then t.w-1 else t.w
def kX(h:List bg):Prop:=∃x r,h=x::r/\(x.kind=1\/x.kind=4/\∃a,x.args=[a]/\a.kind=1)
structure gQ(j:bg):Prop where
 bc:1<=j.kind
 bl:j.kind<=26
 w3:∀m,l2 j.kind=some m->j.args.length=m
 gr:∀a∈j.args,a.kind≠ -1
 nm:eG j.kind->c4 j.name=true
 yT:¬eG j.kind->j.name=[]
 no:j.no=true->j.kind=6
 ty:fC j.kind->eu j.ty=true
 ck:¬fC j.kind->j.ty=ck
 aN:¬(j.kind=1\/j.kind=19\/j.kind=20)->j.n=0
 c6:j.kind=19\/j.kind=20->j.n<=63
 yS:j.kind=1->j.n<2^(fI j.ty).toNat
 jm:j.kind=21->kX j.args
def gb:Nat->bg->Prop
 |0,_=>False
 |d+1,j=>gQ j/\∀a∈j.args,gb d a
structure ja(d:bv):Prop where
 nm:c4 d.name=true
 ty:eu d.ty=true
 on:d.on≠[]->c4 d.on=true
 no:d.on=[]->d.no=false
structure jJ(J:dL):Prop where
 ne:J.left≠[]
 nm:∀w∈J.left,c4 w=true
 ex:gb 200 J.right
structure hA(g:Go.a6.Node):Prop where
 nm:c4 g.name=true
 out:g.out≠[]
 vars:g.cj.length+g.out.length+g.loc.length<=256
 many:g.eqs.length<=4096
 decl:∀d∈g.cj++(g.out++g.loc),ja d
 eqs:∀J∈g.eqs,jJ J
structure ha(T:List Go.a6.Node):Prop where
 ne:T≠[]
 many:T.length<=64
 node:∀g∈T,hA g
mutual
def gb.qi:∀(j:bg) (d:Nat),gb d j->hz j
 | .mk k a nm no t n args,0,e=>e.elim
 | .mk k a nm no t n args,d+1,e=>by
   unfold hz
   have b:=e.1.bc
   exact⟨λj=>by subst j;exact absurd (show(1:Int)<= -1 from b) Zd,gb.yW args d e.2⟩
def gb.yW:∀(h:List bg) (d:Nat),(∀a∈h,gb d a)->jQ h
 |[],_,_=>by unfold jQ;trivial
 |a::h,d,e=>by
  unfold jQ
  exact⟨gb.qi a d (e a (Zl ..)),gb.yW h d λx c=>e x (Zi _ c)⟩
end
structure mU(x:bg):Prop where
 nm:x.name∈ek
 aG:0<=x.n
 aL:x.n<18446744073709551616
def hy(j:bg):Prop:=∀x∈dH j,mU x
def Jj{a x:bg}:∀{h:List bg},a∈h->x∈dH a->x∈ev h:=by
 intro h
 induction h with
 |nil=>intro e;cases e
 |cons b h U=>
  intro e c
  rw[ev]
  rcases Zz.1 e with rfl|e
  ·exact Z2 _ c
  ·exact ZQ _ (U e c)
def mH(j:bg):dH j=j::ev j.args:=by cases j;rw[dH];rfl
def hy.root{j:bg}(e:hy j):mU j:=e j (by rw[mH];exact Zl ..)
def hy.arg{j a:bg}(e:hy j)(b:a∈j.args):hy a:=λx c=>e x (by rw[mH];exact Zi _ (Jj b c))
structure iq(d:bv):Prop where
 nm:d.name∈ek
 on:d.on∈ek
structure vo(g:Go.a6.Node):Prop where
 nm:g.name∈ek
 decl:∀d∈g.cj++(g.out++g.loc),iq d
 left:∀J∈g.eqs,∀w∈J.left,w∈ek
 ex:∀J∈g.eqs,hy J.right
def oA{f:Int×Int}(e:f.1≠0)(c a:Int):fe f c a=f:=by unfold fe;rw[Zj e]
def oB{f:Int×Int}(e:f.1=0)(c a:Int):fe f c a=(c,a):=by unfold fe;rw[Zv e]
def nn{α:Type}{st:Int×Int->α->Int×Int}(a:∀f x,f.1≠0->st f x=f):∀(h:List α) (f:Int×Int),f.1≠0->h.foldl st f=f:=by
 intro h
 induction h with
 |nil=>intro f _;rfl
 |cons x h U=>intro f e;rw[ZU,a f x e];exact U f e
def rx{α a:Type}{st:a×(Int×Int)->α->a×(Int×Int)}(c:∀s x,s.2.1≠0->(st s x).2=s.2):∀(h:List α) (s:a×(Int×Int)),s.2.1≠0->(h.foldl st s).2=s.2:=by
 intro h
 induction h with
 |nil=>intro s _;rfl
 |cons x h U=>
  intro s e
  have b:=c s x e
  rw[ZU,U _ (by rw[b];exact e),b]
def xx(s:(aT->Option Int)×(Int×Int))(x:Int×bv)(e:s.2.1≠0):(fJ s x).2=s.2:=by
 unfold fJ
 simp only[oA e]
 split<;>rfl
def tx(t:aT->Option c5)(f:Int×Int)(x:Int×bv)(e:f.1≠0):gW t f x=f:=by
 unfold gW
 rw[oA e]
 split<;>rfl
def HB(t:aT->Option c5)(D:aT->Option Int){f:Int×Int}(w:aT)(a:Int)(e:f.1≠0):oN t D f w a=f:=by
 unfold oN
 simp only[oA e]
 split
 ·rfl
 ·split<;>rfl
def yD(t:aT->Option c5)(s:(aT->Option Int)×(Int×Int))(x:aT×Int)(e:s.2.1≠0):(g2 t s x).2=s.2:=HB t s.1 x.1 x.2 e
def J0(t:aT->Option c5){f:Int×Int}(j:bg)(e:f.1≠0):jE t f j=f:=by
 unfold jE
 rw[oA e]
 split
 ·split<;>rfl
 ·rfl
def J1(T:List Go.a6.Node)(k:Nat){f:Int×Int}(j:bg)(e:f.1≠0):mJ T k f j=f:=by
 unfold mJ
 simp only[oA e]
 split
 ·split
  ·rfl
  ·split<;>rfl
 ·rfl
def AC(t:aT->Option c5)(T:List Go.a6.Node)(k:Nat)(f:Int×Int)(j:bg)(e:f.1≠0):(g4 t T k f j).1=f:=by
 unfold g4
 rw[J0 t j e,J1 T k j e]
def Ay(t:aT->Option c5)(T:List Go.a6.Node)(k:Nat)(f:Int×Int)(j:bg):oZ t T k f j=(dH j).foldl (λf x=>(g4 t T k f x).1) f:=Ba (g4 t T k) (λ_ _=>rfl) j f
def Az(t:aT->Option c5)(T:List Go.a6.Node)(k:Nat)(f:Int×Int)(j:bg)(e:f.1≠0):oZ t T k f j=f:=by
 rw[Ay]
 exact nn (λf x e=>AC t T k f x e) _ _ e
def Ju(t:aT->Option c5)(T:List Go.a6.Node)(k:Nat)(s:(aT->Option Int)×(Int×Int))(J:dL)(e:s.2.1≠0):(e4 t T k s J).2=s.2:=by
 have a:=rx (yD t) (eL J) s e
 show oZ t T k ((eL J).foldl (g2 t) s).2 J.right=s.2
 rw[a];exact Az t T k _ _ e
def sB(D:aT->Option Int)(f:Int×Int)(x:Int×bv)(e:f.1≠0):f5 D f x=f:=by
 unfold f5
 rw[oA e]
 split<;>rfl
def LK(k:Nat)(w:aT):∀(h:List (aT×Nat)) (t:aT->Option c5),(h.foldl (hO k) t w).map c5.kind=(t w).map c5.kind:=by
 intro h
 induction h with
 |nil=>intro t;rfl
 |cons x h U=>
  intro t
  rw[ZU,U]
  cases a:t x.1 with
  |none=>simp only[hO,a]
  |some v=>
   by_cases b:v.eq<0
   ·by_cases e:w=x.1
    ·simp only[hO,a,b,ZP,e,ZJ]
    ·simp only[hO,a,b,ZP,e,ZM]
   ·simp only[hO,a,b,ZM]
def K2(w:aT):∀(h:List (dL×Nat)) (t:aT->Option c5),(h.foldl oX t w).map c5.kind=(t w).map c5.kind:=by
 intro h
 induction h with
 |nil=>intro t;rfl
 |cons x h U=>
  intro t
  rw[ZU,U]
  exact LK _ _ _ _
def ei(h:List (Int×bv))(w:aT):Option Int:=(h.find? λx=>decide (x.2.name=w)).map Prod.fst
def IE(w:aT):∀(h:List (Int×bv)) (s:(aT->Option c5)×List aT),((h.foldl iZ s).1 w).map c5.kind=match s.1 w with|some v=>some v.kind|none=>ei h w:=by
 intro h
 induction h with
 |nil=>intro s;simp only[List.foldl_nil,ei,List.find?_nil,YD];cases s.1 w<;>rfl
 |cons x h U=>
  intro s
  rw[ZU,U]
  unfold iZ ei
  rw[List.find?_cons]
  by_cases a:(s.1 x.2.name).isSome
  ·rw[Zv a]
   cases b:s.1 w with
   |some v=>rfl
   |none=>
    have:x.2.name≠w:=λj=>by rw[j,b]at a;cases a
    simp[this]
  ·rw[Zj a]
   by_cases b:w=x.2.name
   ·subst b
    cases c:s.1 x.2.name with
    |some v=>rw[c]at a;exact absurd rfl a
    |none=>simp
   ·have d:¬x.2.name=w:=λj=>b j.symm
    simp only[b,ZM]
    cases s.1 w with
    |some v=>rfl
    |none=>simp[d]
def vd(g:Go.a6.Node)(w:aT):(cR g w).map c5.kind=ei (bf g) w:=by
 unfold cR
 rw[K2]
 unfold hp
 rw[IE]
def AZ{g:Go.a6.Node}{w:aT}:cR g w=none↔ei (bf g) w=none:=by
 rw[<-vd];cases cR g w<;>simp
def sV(g:Go.a6.Node):Prop:=∃d∈g.out,∀J∈g.eqs,d.name∉J.left
def HV(t:aT->Option c5)(w:aT):∀(h:List (aT×Int)) (s:(aT->Option Int)×(Int×Int)),s.1 w=none->w∉h.map Prod.fst->(h.foldl (g2 t) s).1 w=none:=by
 intro h
 induction h with
 |nil=>intro s e _;exact e
 |cons x h U=>
  intro s e a
  rw[ZU]
  have b:w≠x.1:=λj=>a (by rw[j];exact Zl ..)
  refine U _ ?_ (λc=>a (Zi _ c))
  simp only[g2,b,ZM];exact e
def HF(J:dL):(eL J).map Prod.fst=J.left:=by
 unfold eL
 rw[YH]
 exact List.zipIdx_map_fst 0 J.left
def Jt(t:aT->Option c5)(T:List Go.a6.Node)(k:Nat)(w:aT):∀(h:List dL) (s:(aT->Option Int)×(Int×Int)),s.1 w=none->(∀J∈h,w∉J.left)->(h.foldl (e4 t T k) s).1 w=none:=by
 intro h
 induction h with
 |nil=>intro s e _;exact e
 |cons x h U=>
  intro s e a
  rw[ZU]
  refine U _ ?_ (λJ b=>a J (Zi _ b))
  exact HV t w _ s e (by rw[HF];exact a x (Zl ..))
def IB{T:List Go.a6.Node}{k:Nat}{g:Go.a6.Node}(e:sV g):(hM T k g).1≠0:=by
 obtain⟨d,m,p⟩:=e
 unfold hM
 generalize r:((λ_=>none,j0 (cR g) g (jB T k g)):(aT->Option Int)×(Int×Int))=a
 have i:a.1 d.name=none:=by rw[<-r]
 have c:=Jt (cR g) T k d.name g.eqs a i p
 have n:((2,d):Int×bv)∈bf g:=by
  unfold bf
  exact ZQ _ (Z2 _ (ZB.2 ⟨d,m,rfl⟩))
 generalize (g.eqs.foldl (e4 (cR g) T k) a).1=D at c
 generalize (g.eqs.foldl (e4 (cR g) T k) a).2=f
 obtain⟨s,t,ap⟩:=List.append_of_mem n
 rw[ap,YX,ZU]
 have b:(f5 D (s.foldl (f5 D) f) (2,d)).1≠0:=by
  unfold f5
  rw[Zv ⟨show(2:Int)≠1 by decide,by rw[c];rfl⟩]
  exact FR _ _ Zd
 rw[nn (sB D) _ _ b]
 exact b
def EL{T:List Go.a6.Node}(b:T≠[])(e:∀g∈T,sV g):(l9 T).1≠0:=by
 cases T with
 |nil=>exact absurd rfl b
 |cons g h=>
  have a:=IB (T:=g::h) (k:=0) (e g (Zl ..))
  unfold l9 na
  rw[Zv a];exact a
end
end Go.Proofs.YtmipngjbcdamjaaGreatDoor

