/- Part of the proof of the last text; no conditions -/
import Derived.Test.YtmipngjbcdamjaaGreatDoorYh
import Derived.Test.YtmipngjbcdamjaaGreatDoorRows
import Derived.ProofKit
set_option maxHeartbeats 8000000
set_option linter.all false
namespace Go.Proofs.YtmipngjbcdamjaaGreatDoor
open Go.S
noncomputable section
variable (X : bU) (h : I ae) (j : Nat) (R af : bh) (a0 aH aZ a3 a4 a5 dY d3 dE : y)
def vS:Za1:=λ_ a b c d _=>q (ah .lss a (.Z 10)) λe=>av (λa b c=>Q (a 0) λe=>q (ah .mul e (.Z 2)) λe=>Q (a 0) λa=>q (ah .mul a (.Z 2)) λa=>q (ah .add a (.Z 2)) λa=>q (ks (.str [48,48,48,49,48,50,48,51,48,52,48,53,48,54,48,55,48,56,48,57,49,48,49,49,49,50,49,51,49,52,49,53,49,54,49,55,49,56,49,57,50,48,50,49,50,50,50,51,50,52,50,53,50,54,50,55,50,56,50,57,51,48,51,49,51,50,51,51,51,52,51,53,51,54,51,55,51,56,51,57,52,48,52,49,52,50,52,51,52,52,52,53,52,54,52,55,52,56,52,57,53,48,53,49,53,50,53,51,53,52,53,53,53,54,53,55,53,56,53,57,54,48,54,49,54,50,54,51,54,52,54,53,54,54,54,55,54,56,54,57,55,48,55,49,55,50,55,51,55,52,55,53,55,54,55,55,55,56,55,57,56,48,56,49,56,50,56,51,56,52,56,53,56,54,56,55,56,56,56,57,57,48,57,49,57,50,57,51,57,52,57,53,57,54,57,55,57,56,57,57]) (some e) (some a)) λa=>d a b c) λf=>aD e (q (ah .add a (.Z 1)) λe=>q (ks (.str [48,49,50,51,52,53,54,55,56,57,97,98,99,100,101,102,103,104,105,106,107,108,109,110,111,112,113,114,115,116,117,118,119,120,121,122]) (some a) (some e)) λa=>d a b c) (f (zC (bR [a]) 2 (.str []) 4 e) b c)
def B5:co X 169 [a0]=vS X a0:=Zk
def B4:cb X 169 1=true:=Zk
end
open Go.S Go.a8
noncomputable section
def ey(t:eb):Bool:=if t.b then !t.s&&decide (t.w=1)else decide (1<=t.w)&&decide (t.w<=64)
def iB(n:Nat):aW:=if n<10 then[48+n]else[48+n/10,48+n%10]
def nY(t:eb):aW:=if ey t then(if t.b then[98,111,111,108]else(if t.s then 105 else 117)::iB t.w.toNat)else[]
section
variable{X:bU}{h E ay aO:I ae}{j ar aL aR LP:Nat}{s:aW}{i:Nat}
def r0(d:dX X)(t:eb)(f:(u X).aP<=j):aN X 94 [.agg (eS t)] h j (λN E ar=>N= .bool (ey t)/\a1 X h j E ar) zG:=by
 refine zB d (DE X) ?_
 rw[DF]
 unfold wO eS
 obtain⟨b,s,w⟩:=t
 cases b<;>cases s
 all_goals
  by_cases a:1<=w
  ·have c:decide ((1:Int)<=w)=true:=by simp[a]
   refine bG @c ⟨?_⟩
   exact⟨by simp[ey,a],dG⟩
  ·have c:decide ((1:Int)<=w)=false:=by simp[a]
   refine bG @c ⟨?_⟩
   exact⟨by simp[ey,a],dG⟩
def Kq:∀n<10,([48,49,50,51,52,53,54,55,56,57,97,98,99,100,101,102,103,104,105,106,107,108,109,110,111,112,113,114,115,116,117,118,119,120,121,122].drop n).take (n+1-n)=iB n:=by decide+kernel
def sz:aW:=[48,48,48,49,48,50,48,51,48,52,48,53,48,54,48,55,48,56,48,57,49,48,49,49,49,50,49,51,49,52,49,53,49,54,49,55,49,56,49,57,50,48,50,49,50,50,50,51,50,52,50,53,50,54,50,55,50,56,50,57,51,48,51,49,51,50,51,51,51,52,51,53,51,54,51,55,51,56,51,57,52,48,52,49,52,50,52,51,52,52,52,53,52,54,52,55,52,56,52,57,53,48,53,49,53,50,53,51,53,52,53,53,53,54,53,55,53,56,53,57,54,48,54,49,54,50,54,51,54,52,54,53,54,54,54,55,54,56,54,57,55,48,55,49,55,50,55,51,55,52,55,53,55,54,55,55,55,56,55,57,56,48,56,49,56,50,56,51,56,52,56,53,56,54,56,55,56,56,56,57,57,48,57,49,57,50,57,51,57,52,57,53,57,54,57,55,57,56,57,57]
def Ks:sz.length=200:=by decide+kernel
def Kr:∀n<100,10<=n->(sz.drop (n*2)).take (n*2+2-n*2)=iB n:=by decide+kernel
def yg(a:dX X){n:Nat}(m:n<100):aN X 95 [.Z (n:Int)] h j (λN E ar=>N= .str (iB n)/\E=h/\ar=j) zG:=by
 refine zB a (DG X) ?_
 rw[DH]
 unfold wP
 refine zB a (BM X) ?_
 rw[BN]
 unfold vH
 refine zB a (BW X) ?_
 rw[BX]
 unfold vO
 have g:decide ((0:Int)<=(n:Int))=true:=zK
 have i:decide ((n:Int)<100)=true:=zK
 refine cn @g @i ⟨?_⟩
 refine zB a (B4 X) ?_
 rw[B5]
 unfold vS
 by_cases e:n<10
 ·have b:decide ((n:Int)<10)=true:=zK
  have c:=zz n
  have d:ks (.str [48,49,50,51,52,53,54,55,56,57,97,98,99,100,101,102,103,104,105,106,107,108,109,110,111,112,113,114,115,116,117,118,119,120,121,122]) (some (.Z (n:Int))) (some (.Z ((n+1:Nat):Int)))=some (.str (iB n)):=by
   rw[AM .i64 .i64 Zo Zx,Kq n e]
  refine cz @b @c @d ⟨?_⟩
  exact⟨rfl,rfl,rfl⟩
 ·have b:decide ((n:Int)<10)=false:=zJ
  have c:ah .mul (.Z (n:Int)) (.Z 2)=some (.Z ((n*2:Nat):Int)):=by rw[GM Zo Zo];rfl
  have d:ah .add (.Z ((n*2:Nat):Int)) (.Z 2)=some (.Z ((n*2+2:Nat):Int)):=by rw[cx Zo Zo];rfl
  have f:ks (.str sz) (some (.Z ((n*2:Nat):Int))) (some (.Z ((n*2+2:Nat):Int)))=some (.str (iB n)):=by
   rw[AM .i64 .i64 Zo (zu Ks),Kr n m Zo]
  unfold sz at f
  refine cP @b @c @d @f ⟨?_⟩
  exact⟨rfl,rfl,rfl⟩
end
def oE(nm:aW):Nat->List Go.a8.Node->Option Nat
 |_,[]=>none
 |o,g::k=>if g.name=nm then some o else oE nm (o+1) k
def el(U:List Go.a8.Node)(nm:aW):Option Nat:=oE nm 0 U
section
variable{X:bU}{h E ay aO:I ae}{j ar aL aR:Nat}{P:Nat->Prop}{U:List Go.a8.Node}
def GW(a:dX X){g:Go.a8.Node}{row:List y}(i:(u X).aP<=j)(d:m0 X h P g row){c:Nat}{nm:aW}(f:c<j)(b:W X h (.ptr c 0)=some (.str nm)):
 aN X 104 [.agg row, .ptr c 0] h j (λN E ar=>N= .bool (decide (g.name=nm))/\a1 X h j E ar) zG:=by
 refine zB a (By X) ?_
 rw[Bz]
 unfold vx
 obtain⟨bA,bB,ax,n,b2,be,b6,c4,m,rfl,_⟩:=d
 refine bG @b ⟨?_⟩
 exact⟨rfl,dG⟩
def GP(w:dX X){ax:y}{bO:Nat}{rows:List (List y)}(U2:(u X).aP<=j)(n:ci X h P bO ax 6 rows)(z:m1 X h P U rows)(T0:∀f,P f->f<j){c:Nat}{nm:aW}(T1:c<j)(T2:W X h (.ptr c 0)=some (.str nm)):
 aN X 103 [ax, .func (.func 104) [] [.ptr c 0]] h j (λN E ar=>N= .Z (match el U nm with|some o=>(o:Int)|none=> -1)/\a1 X h j E ar) zG:=by
 refine zB w (Bw X) ?_
 rw[Bx]
 unfold vw
 have C:=z.wide
 have O:=n.len
 have T6:=n.many
 rw[C.1]at O T6
 refine bG @O ⟨?_⟩
 refine cQ (λm B E aj=>∃(H:Nat),B.g 0=some ax/\B.g 1=some (.func (.func 104) [] [.ptr c 0])/\B.g 7=some (.Z (U.length:Int))/\B.g 8=some (.Z (H:Int))/\H+m=U.length/\a1 X h j E aj/\el U nm=oE nm H (U.drop H))
  U.length ⟨0,aK,aK,aK,cA,Zo,a1.refl _ _,rfl⟩ ?_
 rintro m B aO aR ⟨H,t0,Y,s,t,U0,b,a⟩
 have U1:=b.le
 cases m with
 |zero=>
  have d:=zv H U.length
  rw[YK Zo]at a
  refine cz @t @s @d ⟨?_⟩
  exact⟨by rw[a];rfl,b⟩
 |succ m=>
  have d:=zw H U.length
  have Z:=zz H
  obtain⟨g,x⟩:=zx U H
  have T4:U.drop H=g::U.drop (H+1):=by
   obtain⟨TY,r⟩:=Zf.1 x
   rw[ZY TY,r]
  obtain⟨row,T8,T7⟩:=z.get H g x
  have G:=λf (r:P f)=>b.T f (T0 f r)
  have T5:=n.cT H (by rw[C.1];omega)
  have T9:=(n.T G).row Zd T8
  have T3:W X aO (.ptr c 0)=some (.str nm):=zF (b.T c T1) T2
  rw[T4,oE]at a
  refine bs @t @s @Y @t0 @d @T5 @T9 ⟨?_⟩
  refine(GW w Zo (T7.T (bn:=P) G (λ_ e=>e)) Zo T3).Zm ?_
  rintro N TZ U3 ⟨rfl,v⟩
  by_cases i:g.name=nm
  ·rw[Zv i]at a
   have p:decide (g.name=nm)=true:=by simp[i]
   rw[p]
   refine bl ⟨?_⟩
   exact⟨by rw[a],b.trans v⟩
  ·rw[Zj i]at a
   have p:decide (g.name=nm)=false:=by simp[i]
   rw[p]
   refine cn @t @Z ⟨?_⟩
   exact⟨m,Zo,H+1,an t0,an Y,an s,aK,Zo,b.trans v,a⟩
def xF(b:Nat):ce X h .eql 23 true (.ptr b 0) .bC=some .zF:=Zk
def yJ{C:aC}{h:I ae}(x:Int):j0 C h .max [3,3] [.Z x, .Z 0]=some (.Z (max x 0)):=by
 show hG true (.Z x) [.Z 0]=_
 simp only[hG,cN,jt,ZP]
 congr 2
 simp only[Zc]
 split<;>omega
def xR(m:dX X){v:y}(x:(u X).aP<=j)(s:kE X h P U v)(f:∀a,P a->a<j)(nm:aW):
 aN X 78 [v, .str nm] h j (λN E ar=>N= .tuple [.Z (((el U nm).getD 0:Nat):Int), .bool (el U nm).isSome]/\a1 X h j E ar) zG:=by
 refine zB m (Di X) ?_
 rw[Dj]
 unfold wD
 obtain⟨b,ax,bO,rows,rfl,r,a0,z,t⟩:=s
 have C:=f b r
 refine cn @xF @a0 ⟨?_⟩
 refine l9 (λay=>J X ay j=zy [.str nm] 1/\a1 X h j ay (j+1)) ⟨bb x,dG⟩ ?_
 rintro ay ⟨p,c⟩
 have n:=λa (g:P a)=>c.T a (f a g)
 refine(GP (j:=j+1) (h:=ay) m Zo (z.T n) (m1.T (bn:=P) t n (λ_ e=>e)) (λa g=>zu (f a g)) Zo (by rw[ba p];rfl)).Zm ?_
 rintro N aO aR ⟨rfl,i⟩
 cases G:el U nm with
 |none=>
  refine bG @yJ ⟨?_⟩
  exact⟨rfl,c.trans i⟩
 |some o=>
  have d:decide ((0:Int)<=(o:Int))=true:=zK
  have w:max (o:Int) 0=(o:Int):=Zo
  refine cz @yJ @d @w ⟨?_⟩
  exact⟨rfl,c.trans i⟩
end
mutual
def mS{b:Type}(step:b->bk->b×Bool):b->bk->b
 |s, .mk o a nm no t n args=>if (step s (.mk o a nm no t n args)).2=true then ky step (step s (.mk o a nm no t n args)).1 args else(step s (.mk o a nm no t n args)).1
def ky{b:Type}(step:b->bk->b×Bool):b->List bk->b
 |s,[]=>s
 |s,l::k=>ky step (mS step s l) k
end
def Lx{a:Type}(step:a->bk->a×Bool)(s:a)(l:bk):mS step s l=if (step s l).2=true then ky step (step s l).1 l.args else(step s l).1:=by
 cases l;rw[mS];rfl
def AL{l a:bk}(e:a∈l.args):SizeOf.sizeOf a<SizeOf.sizeOf l:=by
 cases l with
 |mk o at_ nm no t n args=>
  have b:a∈args:=e
  have:=List.sizeOf_lt_of_mem b
  simp
  omega
section
variable{X:bU}{h E ay aO:I ae}{j ar aL aR:Nat}
def Lz(U2:dX X){g:Type}(step:g->bk->g×Bool)(P:Nat->Prop)(n:g->I ae->Nat->Prop)(cH:I ae)(dj:bk->y->Prop)(U3:∀l b ax bO aE,dj l (.ptr b 0)->W X cH (.ptr b 8)=some ax->ci X cH P bO ax 1 (aE.map λv=>[v])->jO X cH P l.args aE->∀(i:Nat) a w,l.args[i]? =some a->aE[i]? =some w->dj a w)(o:Nat)(G jo:List y)
 (U8:∀(s:g) (l:bk) (v:y) (h:I ae) (j:Nat),n s h j->dj l v->da X h P l v->(∀c,P c->J X h c=J X cH c)->aN X o ((G++[v])++jo) h j (λN E ar=>N= .bool (step s l).2/\n (step s l).1 E ar/\∀c,P c->J X E c=J X h c) zG):
 ∀(bW:Nat) (l:bk),SizeOf.sizeOf l<bW->∀(s:g) (v:y) (h:I ae) (j:Nat),n s h j->dj l v->da X h P l v->(∀c,P c->J X h c=J X cH c)->
  aN X 105 [v, .func (.func o) G jo] h j (λN E ar=>N= .tuple []/\n (mS step s l) E ar/\∀c,P c->J X E c=J X h c) zG:=by
 intro bW
 induction bW with
 |zero=>intro l e;omega
 |succ bW V=>
  intro l UC s v h j U0 M T2 p
  refine zB U2 (BA X) ?_
  rw[BB]
  unfold vy
  obtain⟨b,ax,bO,aE,rfl,ab,_,_,_,_,_,_,_,_,dE,x,has⟩:=id T2.open
  have T3:=x.len
  have T4:=has.len
  rw[Zn,T4]at T3
  have U7:=x.many
  rw[Zn,T4]at U7
  rw[Lx]
  refine bG @I2 ⟨?_⟩
  refine(U8 s l _ h j U0 M T2 p).Zm ?_
  rintro N ay aL ⟨rfl,T0,O⟩
  cases UD:(step s l).2 with
  |false=>
   refine bl ⟨?_⟩
   exact⟨rfl,T0,O⟩
  |true=>
   have T8:W X ay (.ptr b 8)=some ax:=zF (O b ab) dE
   refine cn @T8 @T3 ⟨?_⟩
   refine cQ (λm B E aj=>∃(H:Nat) (C:g),B.g 1=some (.func (.func o) G jo)/\B.g 17=some ax/\B.g 18=some (.Z (l.args.length:Int))/\B.g 19=some (.Z (H:Int))/\H+m=l.args.length/\n C E aj/\(∀c,P c->J X E c=J X h c)/\ky step (step s l).1 l.args=ky step C (l.args.drop H))
    l.args.length ⟨0,_,aK,aK,aK,cA,Zo,T0,O,rfl⟩ ?_
   rintro m B aO aR ⟨H,C,T6,T7,Y,Z,UE,T1,r,z⟩
   cases m with
   |zero=>
    have d:=zv H l.args.length
    rw[YK Zo,ky]at z
    refine cz @Z @Y @d ⟨?_⟩
    exact⟨rfl,by simp only[ZP];rw[z];exact T1,r⟩
   |succ m=>
    have d:=zw H l.args.length
    have T9:=zz H
    obtain⟨a,t⟩:=zx l.args H
    have U5:l.args.drop H=a::l.args.drop (H+1):=by
     obtain⟨U9,f⟩:=Zf.1 t
     rw[ZY U9,f]
    obtain⟨w,T5,U4⟩:=has.get H a t
    obtain⟨TY,TZ,UB⟩:=(x.T r).one T5
    rw[U5,ky]at z
    refine bs @Z @Y @T7 @T6 @d @TY @TZ ⟨?_⟩
    have UF:=AL (Zg t)
    refine(V a Zo C w aO aR T1 (U3 l b ax bO aE M (by rw[b0, <-p b ab, <-b0];exact dE) (x.T λc f=>(p c f).symm) (jO.T (λc f=>(p c f).symm) _ _ has) H a w t T5) (da.T r _ _ U4) (λc f=>(r c f).trans (p c f))).Zm ?_
    rintro N UA UG ⟨rfl,U1,U6⟩
    refine cn @Z @T9 ⟨?_⟩
    exact⟨m,Zo,H+1,_,an T6,an T7,an Y,aK,Zo,U1,λc f=>by rw[U6 c f,r c f],z⟩
def Ly(m:dX X){c:Type}(step:c->bk->c×Bool)(P:Nat->Prop)(b:c->I ae->Nat->Prop)(o:Nat)(d jo:List y)
 (n:∀(s:c) (l:bk) (v:y) (h:I ae) (j:Nat),b s h j->da X h P l v->aN X o ((d++[v])++jo) h j (λN E ar=>N= .bool (step s l).2/\b (step s l).1 E ar/\∀a,P a->J X E a=J X h a) zG)
 (bW:Nat)(l:bk)(i:SizeOf.sizeOf l<bW)(s:c)(v:y)(h:I ae)(j:Nat)(f:b s h j)(g:da X h P l v):
  aN X 105 [v, .func (.func o) d jo] h j (λN E ar=>N= .tuple []/\b (mS step s l) E ar/\∀a,P a->J X E a=J X h a) zG:=
 Lz m step P b h (λ_ _=>True) (λ_ _ _ _ _ _ _ _ _ _ _ _ _ _=>trivial) o d jo (λs l v h j f _ g _=>n s l v h j f g) bW l i s v h j f trivial g (λ_ _=>rfl)
end
def cW(X:bU)(h:I ae)(a:Nat)(p:y)(o:Int)(bq bt:y)(f:Int×Int):Prop:=J X h a=zy [p, .Z o,bq,bt, .Z f.1, .Z f.2] 6
def fe(f:Int×Int)(c a:Int):Int×Int:=if f.1=0 then(c,a)else f
section
variable{X:bU}{h E ay aO:I ae}{j ar aL aR:Nat}
def j1(s:dX X){b:Nat}{p bq bt:y}{o:Int}{f:Int×Int}(w:(u X).aP<=b)(n:cW X h b p o bq bt f)(c a:Int):
 aN X 79 [.ptr b 0, .Z c, .Z a] h j (λN E ar=>N= .tuple []/\cW X E b p o bq bt (fe f c a)/\j<=ar/\∀m,m≠b->J X E m=J X h m) zG:=by
 refine zB s (Dk X) ?_
 rw[Dl]
 unfold wE
 obtain⟨g,v⟩:=f
 have e1:=n
 unfold cW at n
 have r:W X h (.ptr b 4)=some (.Z g):=by rw[ba n];rfl
 by_cases i:g=0
 ·have d:decide (g=0)=true:=by simp[i]
  refine j9 ⟨?_⟩
  refine j9 ⟨?_⟩
  refine j9 ⟨?_⟩
  refine cn @r @d ⟨?_⟩
  refine⟨rfl, ?_,Zp _,λm t=>aY Zo t⟩
  unfold cW fe
  rw[bb Zo]
  simp only[i,ZP]
  rfl
 ·have d:decide (g=0)=false:=by simp[i]
  refine cn @r @d ⟨?_⟩
  refine⟨rfl, ?_,Zp _,λ_ _=>rfl⟩
  unfold fe
  simp only[i,ZM]
  exact e1
def kl(l:bk):Bool:=decide (l.kind=2)||decide (l.kind=6)||decide (l.kind=24)
def In(g:dX X){P:Nat->Prop}{l:bk}{v:y}(i:da X h P l v):
 aN X 107 [v] h j (λN E ar=>N= .bool (kl l)/\E=h/\j<=ar) zG:=by
 refine zB g (BE X) ?_
 rw[BF]
 unfold vA
 obtain⟨b,rfl,ab,a0⟩:=i.ptr
 by_cases a:l.kind=2
 ·have d:decide (l.kind=2)=true:=by simp[a]
  refine cn @a0 @d ⟨?_⟩
  exact⟨by simp[kl,a],rfl,Zo⟩
 ·have d:decide (l.kind=2)=false:=by simp[a]
  by_cases c:l.kind=6
  ·have f:decide (l.kind=6)=true:=by simp[c]
   refine cz @a0 @d @f ⟨?_⟩
   exact⟨by simp[kl,c],rfl,Zo⟩
  ·have f:decide (l.kind=6)=false:=by simp[c]
   refine cz @a0 @d @f ⟨?_⟩
   exact⟨by simp[kl,a,c],rfl,Zo⟩
end
def oA(l:aW×y×Nat):y×y×Nat:=(.str l.1,l.2.1,l.2.2)
variable{aG:Type}[DecidableEq aG]
def g2:List (aG×y×Nat)->aG->Nat->Option (Nat×y)
 |[],_,_=>none
 |x::bM,w,i=>if x.1=w then some (i,x.2.1)else g2 bM w (i+1)
def jy(bM:List (aG×y×Nat))(w:aG):Option y:=(g2 bM w 0).map Prod.snd
def tN(w:aG):∀(bM:List (aG×y×Nat)) (i:Nat),g2 bM w (i+1)=(g2 bM w i).map λp=>(p.1+1,p.2):=by
 intro bM
 induction bM with
 |nil=>intro i;rfl
 |cons x bM V=>
  intro i
  simp only[g2]
  split
  ·rfl
  ·exact V (i+1)
def mz(x:aG×y×Nat)(bM:List (aG×y×Nat))(w:aG):jy (x::bM) w=if x.1=w then some x.2.1 else jy bM w:=by
 unfold jy
 simp only[g2]
 split
 ·rfl
 ·rw[tN];cases g2 bM w 0<;>rfl
def F2(w:aG):∀(bM:List (aG×y×Nat)) (H:Nat) (v:y),g2 bM w 0=some (H,v)->∃b,bM[H]? =some (w,v,b):=by
 intro bM
 induction bM with
 |nil=>intro H v e;cases e
 |cons x bM V=>
  intro H v e
  simp only[g2]at e
  split at e
  ·rename_i l
   cases e
   exact⟨x.2.2,by simp[<-l]⟩
  ·rw[tN]at e
   cases a:g2 bM w 0 with
   |none=>rw[a]at e;cases e
   |some p=>
    rw[a]at e
    simp at e
    obtain⟨rfl,rfl⟩:=e
    obtain⟨b,ab⟩:=V p.1 p.2 a
    exact⟨b,by simpa using ab⟩
def HP(w aM:aG)(v:y)(b:Nat):∀bM:List (aG×y×Nat),jy bM w=none->jy (bM++[(w,v,b)]) aM=if aM=w then some v else jy bM aM:=by
 intro bM
 induction bM with
 |nil=>
  intro _
  rw[List.nil_append,mz]
  by_cases e:aM=w
  ·simp[e]
  ·have:¬w=aM:=λl=>e l.symm
   simp[e,this]
 |cons x bM V=>
  intro e
  rw[mz]at e
  split at e
  ·cases e
  ·rename_i a
   rw[YZ,mz,mz,V e]
   by_cases l:x.1=aM
   ·have:¬aM=w:=λL=>a (l.trans L)
    simp[l,this]
   ·simp[l]
def HQ(w aM:aG)(v:y):∀(bM:List (aG×y×Nat)) (H:Nat) (v0:y) (b:Nat),g2 bM w 0=some (H,v0)->jy (bM.set H (w,v,b)) aM=if aM=w then some v else jy bM aM:=by
 intro bM
 induction bM with
 |nil=>intro H v0 b e;cases e
 |cons x bM V=>
  intro H v0 b e
  simp only[g2]at e
  split at e
  ·rename_i l
   simp at e
   obtain⟨rfl,rfl⟩:=e
   rw[Yg,mz,mz]
   by_cases e:aM=w
   ·simp[e]
   ·have d:¬w=aM:=λL=>e L.symm
    have a:¬x.1=aM:=λL=>e (L.symm.trans l)
    simp[e,d,a]
  ·rename_i l
   rw[tN]at e
   cases c:g2 bM w 0 with
   |none=>rw[c]at e;cases e
   |some p=>
    rw[c]at e
    simp at e
    obtain⟨rfl,rfl⟩:=e
    rw[Yh,mz,mz,V p.1 p.2 b c]
    by_cases a:x.1=aM
    ·have:¬aM=w:=λL=>l (a.trans L)
     simp[a,this]
    ·simp[a]
section
variable{X:bU}{h E ay aO:I ae}{j ar aL aR:Nat}
def gU(X:bU)(h:I ae)(r:Nat)(b:aW->Option y):Prop:=∃bM a,J X h r=some (.map (bM.map oA) a)/\∀w,jy bM w=b w
def gU.T{r:Nat}{a:aW->Option y}(e:gU X h r a)(o:J X E r=J X h r):gU X E r a:=by
 obtain⟨bM,b,c,d⟩:=e
 exact⟨bM,b,by rw[o];exact c,d⟩
def uE(w:aW):fX X 20 9 (.str w)=true:=Zk
def FC(w aM:aW):fW X h 20 9 (.str w) (.str aM)=some (f5 w aM):=Zk
def tJ(w:aW):∀(bM:List (aW×y×Nat)) (i:Nat),findKey X h 9 (.str w) (bM.map oA) i=some (g2 bM w i):=by
 intro bM
 induction bM with
 |nil=>intro i;rfl
 |cons x bM V=>
  intro i
  simp only[ZS,oA,findKey,FC,qg,g2]
  by_cases e:w=x.1
  ·have:x.1=w:=e.symm
   simp[this]
  ·have:¬x.1=w:=λl=>e l.symm
   simp only[e,this,YJ,ZM]
   exact V (i+1)
def G7(w:aW):gL 20 (.str w) (.str w)=true:=by
 show f5 w w=true
 rw[qg];simp
def nA{r:Nat}{c:aW->Option y}(e:gU X h r c)(z:y)(w:aW)(ok:Bool):
 gs X h 9 z (.map r) (.str w) ok=some (match c w with|some v=>aT ok (.tuple [v, .zT]) v|none=>aT ok (.tuple [z, .zF]) z):=by
 obtain⟨bM,g,d,f⟩:=e
 have a:=f w
 unfold jy at a
 simp only[gs,d,uE,cS,tJ]
 cases b:g2 bM w 0 with
 |none=>rw[b]at a;rw[<-a];rfl
 |some p=>rw[b]at a;rw[<-a];rfl
def r2{r:Nat}{m:aW->Option y}(M:(u X).aP<=r)(e:gU X h r m)(w:aW)(v:y):
 ∃E,nF X h j 9 (.map r) (.str w) v=some (.cy S.undef E j)/\gU X E r (λx=>if x=w then some v else m x)/\∀c,c≠r->J X E c=J X h c:=by
 obtain⟨bM,a,f,g⟩:=e
 have i:eV X r=true:=gk M
 cases b:g2 bM w 0 with
 |none=>
  refine⟨Go.S.aS X h r (some (.map ((bM++[(w,v,a)]).map oA) (a+1))), ?_,⟨bM++[(w,v,a)],a+1,bb M,λx=> ?_⟩,λc d=>aY M d⟩
  ·simp only[nF,f,uE,cS,tJ,b,S.setObj,i,cS,dF]
   rw[YF]
   rfl
  ·rw[HP _ _ _ _ _ (by unfold jy;rw[b];rfl),g]
 |some p=>
  obtain⟨H,v0⟩:=p
  obtain⟨born,ab⟩:=F2 w bM H v0 b
  have n:(bM.map oA)[H]? =some (.str w,v0,born):=by rw[Zw,ab];rfl
  refine⟨Go.S.aS X h r (some (.map ((bM.set H (w,v,born)).map oA) a)), ?_,⟨bM.set H (w,v,born),a,bb M,λx=> ?_⟩,λc d=>aY M d⟩
  ·simp only[nF,f,uE,cS,tJ,b,ih,n,G7,S.setObj,i,cS,dF]
   rw[List.map_set]
   rfl
  ·rw[HQ w x v bM H v0 born b,g]
end
end
noncomputable section
structure c8 where
 kind:Int
 d:bx
 eq:Int
 left:Int
def kx:c8:=⟨0,⟨[],0,cm,[],0,false⟩,0,0⟩
def hz(v:c8):List y:=[.Z v.kind, .str v.d.name, .Z v.d.at_, .bool v.d.ty.b, .bool v.d.ty.s, .Z v.d.ty.w, .str v.d.on, .Z v.d.di, .bool v.d.no, .Z v.eq, .Z v.left]
def kF(X:bU)(h:I ae)(P:Nat->Prop)(bq:y)(t:aW->Option c8):Prop:=∃b r,bq= .ptr b 0/\P b/\P r/\W X h (.ptr b 0)=some (.map r)/\gU X h r (λw=>(t w).map λv=> .agg (hz v))
section
variable{X:bU}{h E ay aO:I ae}{j ar aL aR:Nat}
def kF.T{P bn:Nat->Prop}{bq:y}{t:aW->Option c8}(e:kF X h P bq t)(o:∀a,P a->J X E a=J X h a)(au:∀a,P a->bn a):kF X E bn bq t:=by
 obtain⟨b,r,f,c,d,g,i⟩:=e
 exact⟨b,r,f,au b c,au r d,zF (o b c) g,i.T (o r d)⟩
def FD(b:Nat):ce X h .eql 82 true (.ptr b 0) .bC=some .zF:=Zk
def tX(O:dX X){P:Nat->Prop}{bq:y}{t:aW->Option c8}(i:(u X).aP<=j)(T2:kF X h P bq t)(p:∀a,P a->a<j)(w:aW):
 aN X 83 [bq, .str w] h j (λN E ar=>N= .tuple [.agg (hz ((t w).getD kx)), .bool (t w).isSome]/\a1 X h j E ar) zG:=by
 refine zB O (Du X) ?_
 rw[Dv]
 unfold wJ
 obtain⟨b,r,rfl,ab,M,a0,Z⟩:=T2
 have Y:=p b ab
 have T1:=p r M
 refine hI ?_
 generalize f:aS X h j _=ay
 have z:J X ay j=zy [.Z 0, .str [], .Z 0, .zF, .zF, .Z 0, .str [], .Z 0, .zF, .Z 0, .Z 0] 11:=by rw[<-f,bb i];rfl
 have d:a1 X h j ay (j+1):=by rw[<-f];exact dG
 clear f
 have aH:W X ay (.ptr b 0)=some (.map r):=zF (d.T b Y) a0
 have T0:=Z.T (d.T r T1)
 have s:=nA T0 (.agg [.Z 0, .str [], .Z 0, .zF, .zF, .Z 0, .str [], .Z 0, .zF, .Z 0, .Z 0]) w true
 have x:gs X ay 9 (.agg [.Z 0, .str [], .Z 0, .zF, .zF, .Z 0, .str [], .Z 0, .zF, .Z 0, .Z 0]) (.map r) (.str w) true=some (.tuple [.agg (hz ((t w).getD kx)), .bool (t w).isSome]):=by
  rw[s];cases t w<;>rfl
 clear s
 generalize (t w).getD kx=v at*
 have T3:hz v=[.Z v.kind, .str v.d.name, .Z v.d.at_, .bool v.d.ty.b, .bool v.d.ty.s, .Z v.d.ty.w, .str v.d.on, .Z v.d.di, .bool v.d.no, .Z v.eq, .Z v.left]:=rfl
 rw[T3]at x ⊢
 refine cz @FD @aH @x ⟨?_⟩
 refine cD (e8 (o:=11) (b:=j) (D:=0) (n:=11) (c:=I.ofList [.Z 0, .str [], .Z 0, .zF, .zF, .Z 0, .str [], .Z 0, .zF, .Z 0, .Z 0] 0 .nil) (by simp(disch:=omega) only[aY];exact z) i rfl Zd Zd rfl) ?_
 generalize g:aS X _ j _=m
 have C:J X m j=zy [.Z v.kind, .str v.d.name, .Z v.d.at_, .bool v.d.ty.b, .bool v.d.ty.s, .Z v.d.ty.w, .str v.d.on, .Z v.d.di, .bool v.d.no, .Z v.eq, .Z v.left] 11:=by rw[<-g,bb i];rfl
 have G:a1 X h j m (j+1+1):=⟨Zo,λa T4=>by rw[<-g];simp(disch:=omega) only[aY];exact d.T a T4⟩
 clear g
 refine bG (ba C) ⟨?_⟩
 exact⟨rfl,G⟩
end
def oP(t:aW->Option c8)(F:aW->Option Int)(f:Int×Int)(w:aW)(a:Int):Int×Int:=match t w with
 |none=>fe f 23 a
 |some v=>if v.kind=1\/1<(F w).getD 0+1 then fe f 24 a else f
def gD(F:aW->Option Int)(w:aW):Option y:=(F w).map λo=> .Z o
section
variable{X:bU}{h E ay aO:I ae}{j ar aL aR:Nat}
def HB(C:dX X){P:Nat->Prop}{c bt:Nat}{p bq:y}{o:Int}{t:aW->Option c8}{F:aW->Option Int}{f:Int×Int}(UH:(u X).aP<=j)(T7:(u X).aP<=c)(UF:(u X).aP<=bt)(UE:c<j)(UG:bt<j)(UD:c≠bt)
 (T5:cW X h c p o bq (.map bt) f)(UI:kF X h P bq t)(UB:∀b,P b->b<j/\b≠c/\b≠bt)(U8:gU X h bt (gD F))(w:aW)(a:Int)(ab:0<=(F w).getD 0/\(F w).getD 0<4000000000000000000):
 aN X 81 [.ptr c 0, .str w, .Z a] h j (λN E ar=>N= .tuple []/\cW X E c p o bq (.map bt) (oP t F f w a)/\gU X E bt (gD λx=>if x=w then some ((F w).getD 0+1)else F x)/\j<=ar/\∀b,b<j->b≠c->b≠bt->J X E b=J X h b) zG:=by
 refine zB C (Dq X) ?_
 rw[Dr]
 unfold wH
 have UM:W X h (.ptr c 2)=some bq:=by unfold cW at T5;rw[ba T5];rfl
 refine bG @UM ⟨?_⟩
 refine(tX C UH UI (λb T3=>(UB b T3).1) w).Zm ?_
 rintro N ay aL ⟨rfl,T0⟩
 have UN:=T0.le
 have UC:cW X ay c p o bq (.map bt) f:=by unfold cW;rw[T0.T c UE];exact T5
 have U9:=U8.T (T0.T bt UG)
 generalize U5:(t w).getD kx=v
 have UK:hz v=[.Z v.kind, .str v.d.name, .Z v.d.at_, .bool v.d.ty.b, .bool v.d.ty.s, .Z v.d.ty.w, .str v.d.on, .Z v.d.di, .bool v.d.no, .Z v.eq, .Z v.left]:=rfl
 rw[UK]
 refine j9 ⟨?_⟩
 refine j9 ⟨?_⟩
 refine hI ?_
 refine j9 ⟨?_⟩
 generalize T1:aS X _ aL _=aO
 have TZ:J X aO aL=zy [.Z v.kind, .str v.d.name, .Z v.d.at_, .bool v.d.ty.b, .bool v.d.ty.s, .Z v.d.ty.w, .str v.d.on, .Z v.d.di, .bool v.d.no, .Z v.eq, .Z v.left] 11:=by rw[<-T1,bb Zo];rfl
 have UA:a1 X h j aO (aL+1):=⟨Zo,λb T3=>by rw[<-T1];simp(disch:=omega) only[aY];exact T0.T b T3⟩
 have U2:∀b,b<aL->J X aO b=J X ay b:=λb T3=>by rw[<-T1];exact zA
 clear T1
 have T6:cW X aO c p o bq (.map bt) f:=by unfold cW;rw[U2 c Zo];exact UC
 have U0:=U9.T (U2 bt Zo)
 have Y:W X aO (.ptr c 3)=some (.map bt):=by unfold cW at T6;rw[ba T6];rfl
 have O:gs X aO 9 (.Z 0) (.map bt) (.str w) false=some (.Z ((F w).getD 0)):=by
  rw[nA U0];unfold gD;cases F w<;>rfl
 have U7:ah .add (.Z ((F w).getD 0)) (.Z 1)=some (.Z ((F w).getD 0+1)):=cx Zo Zo
 refine cz @Y @O @U7 ⟨?_⟩
 obtain⟨m,U4,U1,T8⟩:=r2 (j:=aL+1) UF U0 w (.Z ((F w).getD 0+1))
 refine eX U4 ?_
 have s:cW X m c p o bq (.map bt) f:=by unfold cW;rw[T8 c UD];exact T6
 rw[<-T8 aL Zo]at TZ
 have z:gU X m bt (gD λx=>if x=w then some ((F w).getD 0+1)else F x):=by
  have:(λx=>if x=w then some (y.Z ((F w).getD 0+1))else gD F x)=(gD λx=>if x=w then some ((F w).getD 0+1)else F x):=by
   funext x;unfold gD;by_cases e:x=w<;>simp[e]
  rw[<-this];exact U1
 have T2:∀b,b<j->b≠bt->J X m b=J X h b:=λb g i=>by rw[T8 b i];exact UA.T b g
 clear O U4 U1 Y
 unfold oP
 cases UJ:t w with
 |none=>
  simp only[Z4,Yl]
  refine bl ⟨?_⟩
  refine(j1 (j:=aL+1) (h:=m) C T7 s 23 a).Zm ?_
  rintro N TY U6 ⟨rfl,G,U3,n⟩
  refine bl ⟨?_⟩
  exact⟨by first|trivial|rfl,G,z.T (n bt Zo),Zo,λb g i r=>by rw[n b i];exact T2 b g r⟩
 |some Z=>
  have UL:Z=v:=by rw[UJ]at U5;exact U5
  subst UL
  simp only[Ya,Yn]
  have T9:W X m (.ptr aL 0)=some (.Z Z.kind):=by rw[ba TZ];rfl
  have Y:W X m (.ptr c 3)=some (.map bt):=by unfold cW at s;rw[ba s];rfl
  have O:gs X m 9 (.Z 0) (.map bt) (.str w) false=some (.Z ((F w).getD 0+1)):=by
   rw[nA z];unfold gD;simp
  by_cases g:Z.kind=1
  ·have d:decide (Z.kind=1)=true:=by simp[g]
   refine cn @T9 @d ⟨?_⟩
   refine(j1 (j:=aL+1) (h:=m) C T7 s 24 a).Zm ?_
   rintro N TY U6 ⟨rfl,G,U3,n⟩
   refine bl ⟨?_⟩
   exact⟨by first|trivial|rfl,by simp only[g,true_or,ZP];exact G,z.T (n bt Zo),Zo,λb g i r=>by rw[n b i];exact T2 b g r⟩
  ·have d:decide (Z.kind=1)=false:=by simp[g]
   by_cases i:1<(F w).getD 0+1
   ·have T4:decide (1<(F w).getD 0+1)=true:=by simp only[Zc];exact i
    refine de @T9 @d @Y @O @T4 ⟨?_⟩
    refine(j1 (j:=aL+1) (h:=m) C T7 s 24 a).Zm ?_
    rintro N TY U6 ⟨rfl,G,U3,n⟩
    refine bl ⟨?_⟩
    exact⟨by first|trivial|rfl,by simp only[g,i,or_true,ZP];exact G,z.T (n bt Zo),Zo,λb g i r=>by rw[n b i];exact T2 b g r⟩
   ·have T4:decide (1<(F w).getD 0+1)=false:=by simp only[Zb];exact i
    refine de @T9 @d @Y @O @T4 ⟨?_⟩
    exact⟨by first|trivial|rfl,by simp only[g,i,or_false,ZM];exact s,z,Zo,λb g i r=>T2 b g r⟩
end
def jH(t:aW->Option c8)(f:Int×Int)(l:bk):Int×Int:=if kl l then(if (t l.name).isSome then f else fe f 23 l.at_)else f
def mN(U:List Go.a8.Node)(o:Nat)(f:Int×Int)(l:bk):Int×Int:=if l.kind=25 then(match el U l.name with
 |none=>fe f 23 l.at_
 |some H=>if o<=H then fe f 25 l.at_ else f)else f
def g9(t:aW->Option c8)(U:List Go.a8.Node)(o:Nat)(f:Int×Int)(l:bk):(Int×Int)×Bool:=(mN U o (jH t f l) l,true)
structure oa(X:bU)(cH:I ae)(aP b:Nat)(p:y)(o:Nat)(bq bt:y)(f:Int×Int)(h:I ae)(j:Nat):Prop where
 le:aP<=j
 eG:cW X h b p o bq bt f
 low:∀a,a<aP->a≠b->J X h a=J X cH a
section
variable{X:bU}{h E cH ay aO:I ae}{j ar aL aR:Nat}
def JK(Z:dX X){P:Nat->Prop}{gM g r:Nat}{p bq bt:y}{o:Nat}{t:aW->Option c8}{U:List Go.a8.Node}(UW:(u X).aP<=gM)(U0:(u X).aP<=g)(UT:g<gM)(T8:r<gM)(T7:r≠g)(UN:W X cH (.ptr r 0)=some (.ptr g 0))
 (w:∀a,P a->a<gM/\a≠g)(UP:kF X cH P bq t)(UL:kE X cH P U p){f:Int×Int}(G:oa X cH gM g p o bq bt f h j){l:bk}{v:y}(T5:da X h P l v):
 aN X 106 [v, .ptr r 0] h j (λN E ar=>N= .zT/\oa X cH gM g p o bq bt (g9 t U o f l).1 E ar) zG:=by
 refine zB Z (BC X) ?_
 rw[BD]
 unfold vz
 refine(In Z T5).Zm ?_
 rintro N ay aL ⟨rfl,rfl,UU⟩
 have UX:=G.le
 have T6:∀h,J X h r=J X cH r->W X h (.ptr r 0)=some (.ptr g 0):=λh e=>zF e UN
 refine cU (λU6 E aj=>U6.g 0=some v/\U6.g 1=some (.ptr r 0)/\oa X cH gM g p o bq bt (jH t f l) E aj/\da X E P l v) (λH m=> ?_) ?_
 ·obtain⟨b,_,_,_,rfl,ab,a0,aH,aZ,_⟩:=id T5.open
  unfold jH at m
  cases UG:kl l with
  |false=>
   rw[UG]at m
   simp only[ZR,ZM]at m
   refine bl ⟨?_⟩
   exact m _ _ _ ⟨aK,aK,⟨Zo,G.eG,G.low⟩,T5⟩
  |true=>
   rw[UG]at m
   simp only[ZP]at m
   have U2:=T6 ay (G.low r T8 T7)
   have US:W X ay (.ptr g 2)=some bq:=by have:=G.eG;unfold cW at this;rw[ba this];rfl
   refine cz @U2 @US @aZ ⟨?_⟩
   refine l9 (λaO=>J X aO (aL+12)=zy [.Z 0, .str [], .Z 0, .zF, .zF, .Z 0, .str [], .Z 0, .zF, .Z 0, .Z 0] 11/\a1 X ay aL aO (aL+12+1)) ⟨by rw[bb Zo];rfl,Zo,λa c=>zA⟩ ?_
   rintro aO ⟨U8,UA⟩
   have bo:∀a,a<gM->J X aO a=J X ay a:=λa c=>UA.T a Zo
   refine(tX (j:=aL+15) (h:=aO) Z Zo (UP.T (bn:=P) (λa c=>by rw[bo a (w a c).1];exact G.low a (w a c).1 (w a c).2) (λ_ e=>e)) (λa c=>zu (w a c).1) l.name).Zm ?_
   rintro N x U4 ⟨rfl,C⟩
   have UM:=C.le
   have U9:J X x (aL+12)=zy [.Z 0, .str [], .Z 0, .zF, .zF, .Z 0, .str [], .Z 0, .zF, .Z 0, .Z 0] 11:=by rw[C.T _ Zo];exact U8
   generalize UY:(t l.name).getD kx=s
   have UQ:hz s=[.Z s.kind, .str s.d.name, .Z s.d.at_, .bool s.d.ty.b, .bool s.d.ty.s, .Z s.d.ty.w, .str s.d.on, .Z s.d.di, .bool s.d.no, .Z s.eq, .Z s.left]:=rfl
   rw[UQ]
   refine j9 ⟨?_⟩
   refine j9 ⟨?_⟩
   refine cD (e8 (o:=11) (b:=aL+12) (D:=0) (n:=11) U9 Zo rfl Zd Zd rfl) ?_
   generalize UB:aS X x (aL+12) _=T0
   have T9:∀a,a<aL->J X T0 a=J X ay a:=λa c=>by rw[<-UB,aY Zo Zo,C.T a Zo,UA.T a c]
   clear UB U8 U9
   have T4:oa X cH gM g p o bq bt f T0 U4:=⟨Zo,by have:=G.eG;unfold cW at*;rw[T9 g Zo];exact this,λa z i=>by rw[T9 a Zo];exact G.low a z i⟩
   have UC:da X T0 P l (.ptr b 0):=da.T (λa c=>T9 a (zu (w a c).1)) _ _ T5
   have UO:=T6 T0 (T4.low r T8 T7)
   have UJ:W X T0 (.ptr b 1)=some (.Z l.at_):=zF (T9 b (zu (w b ab).1)) aH
   cases UD:(t l.name).isSome with
   |true=>
    rw[UD]at m
    simp only[ZP]at m
    refine bl ⟨?_⟩
    exact m _ _ _ ⟨aK,aK,T4,UC⟩
   |false=>
    rw[UD]at m
    simp only[ZR,ZM]at m
    refine cn @UO @UJ ⟨?_⟩
    refine(j1 (h:=T0) Z U0 T4.eG 23 l.at_).Zm ?_
    rintro N U5 UI ⟨rfl,T3,UF,T2⟩
    refine bl ⟨?_⟩
    exact m _ _ _ ⟨aK,aK,⟨Zo,T3,λa z i=>by rw[T2 a i];exact T4.low a z i⟩,da.T (λa c=>T2 a (w a c).2) _ _ UC⟩
 ·rintro B aO aR ⟨t0,TY,O,UK⟩
  obtain⟨b,_,_,_,rfl,ab,a0,aH,aZ,_⟩:=id UK.open
  have UV:=O.le
  show Q _ _
  by_cases T1:l.kind=25
  ·have d:decide (l.kind=25)=true:=by simp[T1]
   have U2:=T6 aO (O.low r T8 T7)
   have UR:W X aO (.ptr g 0)=some p:=by have:=O.eG;unfold cW at this;rw[ba this];rfl
   refine bs @t0 @TY @a0 @d @U2 @UR @aZ ⟨?_⟩
   refine(xR (j:=aR+14) (h:=aO) Z Zo (UL.T (bn:=P) (λa c=>O.low a (w a c).1 (w a c).2) (λ_ e=>e)) (λa c=>zu (w a c).1) l.name).Zm ?_
   rintro N x U4 ⟨rfl,C⟩
   have UM:=C.le
   have Y:oa X cH gM g p o bq bt (jH t f l) x U4:=⟨Zo,by have:=O.eG;unfold cW at*;rw[C.T g Zo];exact this,λa z i=>by rw[C.T a Zo];exact O.low a z i⟩
   have U3:=T6 x (Y.low r T8 T7)
   have U7:W X x (.ptr b 1)=some (.Z l.at_):=zF (C.T b (zu (w b ab).1)) aH
   have UH:W X x (.ptr g 1)=some (.Z (o:Int)):=by have:=Y.eG;unfold cW at this;rw[ba this];rfl
   cases U1:el U l.name with
   |none=>
    have M:(g9 t U o f l).1=fe (jH t f l) 23 l.at_:=by simp[g9,mN,T1,U1]
    rw[M]
    simp only[Z4]
    refine cP @t0 @TY @U3 @U7 ⟨?_⟩
    refine(j1 (h:=x) Z U0 Y.eG 23 l.at_).Zm ?_
    rintro N U5 UI ⟨rfl,T3,UF,T2⟩
    refine bl ⟨?_⟩
    exact⟨by first|trivial|rfl,Zo,T3,λa z i=>by rw[T2 a i];exact Y.low a z i⟩
   |some H=>
    simp only[Ya,Y0]
    by_cases UE:o<=H
    ·have TZ:decide ((o:Int)<=(H:Int))=true:=zK
     have M:(g9 t U o f l).1=fe (jH t f l) 25 l.at_:=by simp[g9,mN,T1,U1,UE]
     rw[M]
     refine dw @t0 @TY @U3 @U7 @UH @TZ ⟨?_⟩
     refine(j1 (h:=x) Z U0 Y.eG 25 l.at_).Zm ?_
     rintro N U5 UI ⟨rfl,T3,UF,T2⟩
     refine bl ⟨?_⟩
     exact⟨by first|trivial|rfl,Zo,T3,λa z i=>by rw[T2 a i];exact Y.low a z i⟩
    ·have TZ:decide ((o:Int)<=(H:Int))=false:=zJ
     have M:(g9 t U o f l).1=jH t f l:=by simp[g9,mN,T1,U1,UE]
     rw[M]
     refine de @t0 @TY @U3 @UH @TZ ⟨?_⟩
     exact⟨by first|trivial|rfl,Y⟩
  ·have d:decide (l.kind=25)=false:=by simp[T1]
   have M:(g9 t U o f l).1=jH t f l:=by simp[g9,mN,T1]
   rw[M]
   refine cz @t0 @a0 @d ⟨?_⟩
   exact⟨by first|trivial|rfl,O⟩
end
def o1(t:aW->Option c8)(U:List Go.a8.Node)(o:Nat)(f:Int×Int)(l:bk):Int×Int:=mS (g9 t U o) f l
section
variable{X:bU}{h:I ae}{j:Nat}
def JM(m:dX X){P:Nat->Prop}{b:Nat}{p bq bt:y}{o:Nat}{t:aW->Option c8}{U:List Go.a8.Node}(T1:(u X).aP<=j)(G:(u X).aP<=b)(O:b<j)
 (g:∀a,P a->a<j/\a≠b)(T3:kF X h P bq t)(T0:kE X h P U p){f:Int×Int}(C:cW X h b p o bq bt f){l:bk}{v:y}(Y:da X h P l v):
 aN X 82 [.ptr b 0,v] h j (λN E ar=>N= .tuple []/\cW X E b p o bq bt (o1 t U o f l)/\j<=ar/\∀a,a<j->a≠b->J X E a=J X h a) zG:=by
 refine zB m (Ds X) ?_
 rw[Dt]
 unfold wI
 refine bl ⟨?_⟩
 refine l9 (λay=>J X ay j=zy [.ptr b 0] 1/\a1 X h j ay (j+1)) ⟨bb T1,dG⟩ ?_
 rintro ay ⟨w,i⟩
 have n:∀a,P a->J X ay a=J X h a:=λa d=>i.T a (g a d).1
 have T2:W X ay (.ptr j 0)=some (.ptr b 0):=by rw[ba w];rfl
 refine(Ly m (g9 t U o) P (oa X ay (j+1) b p o bq bt) 106 [] [.ptr j 0] (λs l v aO aR r Z=> ?_) (SizeOf.sizeOf l+1) l Zo f v ay (j+1) ⟨Zp _,by unfold cW at*;rw[i.T b O];exact C,λ_ _ _=>rfl⟩ (da.T n _ _ Y)).Zm ?_
 ·refine(JK m Zo G Zo Zo Zo T2 (λa d=>⟨zu (g a d).1,(g a d).2⟩) (T3.T (bn:=P) n (λ_ e=>e)) (T0.T (bn:=P) n (λ_ e=>e)) r Z).Zm ?_
  rintro N T4 T5 ⟨rfl,c⟩
  exact⟨rfl,c,λa d=>by have:=g a d;rw[c.low a Zo this.2,r.low a Zo this.2]⟩
 ·rintro N aO aR ⟨rfl,c,_⟩
  refine bl ⟨?_⟩
  have:=c.le
  exact⟨by first|trivial|rfl,c.eG,Zo,λa x z=>by rw[c.low a Zo z,i.T a x]⟩
end
def bi(g:Go.a8.Node):List (Int×bx):=(g.cl.map λd=>(1,d))++((g.out.map λd=>(2,d))++(g.loc.map λd=>(3,d)))
def ij(g:Go.a8.Node):Nat->List bx
 |0=>g.cl
 |1=>g.out
 |_=>g.loc
def iD(g:Go.a8.Node):Nat->Nat
 |0=>0
 |1=>g.cl.length
 |2=>g.cl.length+g.out.length
 |_=>g.cl.length+g.out.length+g.loc.length
def ID(g:Go.a8.Node){o:Nat}(a:o<3):iD g (o+1)=iD g o+(ij g o).length:=by
 match o,a with
 |0,_=>simp[iD,ij]
 |1,_=>rfl
 |2,_=>rfl
def tA(g:Go.a8.Node):(bi g).length=iD g 3:=by simp[bi,iD];omega
def Fp(g:Go.a8.Node){o:Nat}(b:o<3){H:Nat}{d:bx}(e:(ij g o)[H]? =some d):(bi g)[iD g o+H]? =some (1+(o:Int),d):=by
 match o,b,e with
 |0,_,e=>
  have a:=(Zf.1 e).1
  simp only[ij]at e a
  simp only[bi,iD,ZE]
  rw[ZA (by simpa using a),Zw,e];rfl
 |1,_,e=>
  have a:=(Zf.1 e).1
  simp only[ij]at e a
  simp only[bi,iD]
  rw[Zy Zs,Zn,Nat.add_sub_cancel_left,ZA (by simpa using a),Zw,e];rfl
 |2,_,e=>
  simp only[ij]at e
  simp only[bi,iD]
  rw[Zy Zx,Zn,Zy Zx,Zn,show g.cl.length+g.out.length+H-g.cl.length-g.out.length=H by omega,Zw,e];rfl
section
variable{X:bU}{h E cH ay aO:I ae}{j ar aL aR:Nat}
def GU{C:aC}{k:Nat}{a m b:List y}{R af:bh}(e:l0 C k (a++m) h j R af):lb C (.func (.yield k) a b) m h j R af:=⟨e⟩
def Fo(U7:dX X){P:Nat->Prop}{g:Go.a8.Node}{n k b2 be b6:Nat}{bA bB ax:y}(a:Nat->I ae->Nat->Prop)
 (T0:ci X cH P b2 bA 8 (g.cl.map bP))(T1:ci X cH P be bB 8 (g.out.map bP))(p:ci X cH P b6 ax 8 (g.loc.map bP))
 (aZ:W X h (.ptr n 2)=some bA)(a3:W X h (.ptr n 3)=some bB)(a4:W X h (.ptr n 4)=some ax)
 (U5:∀i h j,a i h j->(u X).aP<=j/\∀w,P w->J X h w=J X cH w)
 (U6:∀i h j E ar,a i h j->a1 X h j E ar->a i E ar)
 (M:∀i o d h j,(bi g)[i]? =some (o,d)->a i h j->l0 X k [.Z o, .agg (bP d)] h j (λN E ar=>N= .zT/\a (i+1) E ar) zG)
 (U2:a 0 h j):aN X 102 [.func (.yield k) [] [], .ptr n 0] h j (λ_ E ar=>a (bi g).length E ar) zG:=by
 refine zB U7 (Bu X) ?_
 rw[Bv]
 unfold vv
 have UG:∀o,o<3->∃s b,[bA,bB,ax][o]? =some s/\ci X cH P b s 8 ((ij g o).map bP):=by
  intro o T4
  match o,T4 with
  |0,_=>exact⟨bA,b2,rfl,T0⟩
  |1,_=>exact⟨bB,be,rfl,T1⟩
  |2,_=>exact⟨ax,b6,rfl,p⟩
 have T9:=(fg T0.len).1
 have TZ:=(fg T1.len).1
 have TY:=(fg p.len).1
 have U9:cr [.az, .az, .az] [(0,1,bA),(1,1,bB),(2,1,ax)]=some (.agg [bA,bB,ax]):=by
  simp[cr,gH,gI,e5,T9,TZ,TY]
 refine cz @aZ @a3 @a4 ⟨?_⟩
 refine cD U9 ?_
 refine bl ⟨?_⟩
 refine cQ (λm B E aj=>∃(o:Nat),B.g 0=some (.func (.yield k) [] [])/\B.g 13=some (.agg [bA,bB,ax])/\B.g 14=some (.Z (o:Int))/\o+m=3/\a (iD g o) E aj)
  3 ⟨0,aK,aK,cA,Zo,U2⟩ ?_
 rintro m B aO aR ⟨o,t0,f,c,T4,T2⟩
 cases m with
 |zero=>
  have d:decide ((o:Int)<3)=false:=zJ
  refine cn @c @d ⟨?_⟩
  rw[tA]
  have:o=3:=Zo
  subst this
  exact T2
 |succ m=>
  have d:decide ((o:Int)<3)=true:=zK
  obtain⟨s,b,UF,t⟩:=UG o Zo
  have UB:t7 false 3 1 (.agg [bA,bB,ax]) (.Z (o:Int))=some s:=by
   have p:Nat.blt o 3=true:=by simp[Nat.blt];omega
   simp only[t7,mD,p,cS,fB,ih,ZV]
   exact UF
  have T5:=t.len
  have UD:=t.many
  rw[Zn]at T5 UD
  refine de @c @f @d @UB @T5 ⟨?_⟩
  refine cQ (λm B E aj=>∃(H:Nat),B.g 0=some (.func (.yield k) [] [])/\B.g 13=some (.agg [bA,bB,ax])/\B.g 14=some (.Z (o:Int))/\B.g 3=some (.Z (o:Int))/\B.g 18=some s/\B.g 19=some (.Z ((ij g o).length:Int))/\B.g 20=some (.Z (H:Int))/\H+m=(ij g o).length/\a (iD g o+H) E aj)
   (ij g o).length ⟨0,an t0,an f,an c,aK,aK,aK,cA,Zo,T2⟩ ?_
  rintro G UI T8 v ⟨H,t0,f,c,t3,T7,O,Y,UJ,z⟩
  cases G with
  |zero=>
   have d:=zv H (ij g o).length
   have x:=zz o
   refine de @Y @O @c @d @x ⟨?_⟩
   refine⟨m,Zo,o+1,an t0,an f,aK,Zo, ?_⟩
   rw[ID g Zo]
   have:H=(ij g o).length:=Zo
   rw[<-this]
   exact z
  |succ G=>
   have d:=zw H (ij g o).length
   have x:=zz H
   have U0:ah .add (.Z 1) (.Z (o:Int))=some (.Z (1+(o:Int))):=cx Zo Zo
   obtain⟨ao,T3⟩:=zx (ij g o) H
   obtain⟨UE,U8⟩:=U5 _ _ _ z
   have UC:=t.cT H (by rw[Zn];omega)
   have T6:=(t.T U8).row (i:=H) (r:=bP ao) Zd (by rw[Zw,T3];rfl)
   have UA:bP ao=[.str ao.name, .Z ao.at_, .bool ao.ty.b, .bool ao.ty.s, .Z ao.ty.w, .str ao.on, .Z ao.di, .bool ao.no]:=rfl
   rw[UA]at T6
   refine dw @Y @O @T7 @d @UC @T6 ⟨?_⟩
   generalize C:aS X _ v _=Z
   have U1:J X Z v=zy [.str ao.name, .Z ao.at_, .bool ao.ty.b, .bool ao.ty.s, .Z ao.ty.w, .str ao.on, .Z ao.di, .bool ao.no] 8:=by rw[<-C,bb UE];rfl
   have U3:a1 X T8 v Z (v+1):=⟨Zo,λw UK=>by rw[<-C];exact zA⟩
   clear C
   refine cP @t0 @t3 @U0 (ba U1) ⟨?_⟩
   refine GU ((M _ _ _ _ _ (Fp g Zo T3) (U6 _ _ _ _ _ z U3)).mono ?_ (λ_ _ _ e=>False.elim e))
   rintro N UH UL ⟨rfl,U4⟩
   refine cn @Y @x ⟨?_⟩
   exact⟨G,Zo,H+1,an t0,an f,an c,an t3,an T7,an O,aK,Zo,U4⟩
def rk(T0:dX X){P:Nat->Prop}{g:Go.a8.Node}{n w x f b2 be b6:Nat}{bA bB ax:y}{G aB:qI}{R:db}{l:Nat->db}{r:db}{af:iM}{B:ca}(b:Nat->I ae->Nat->Prop)
 (T1:(u X).aP<=j)(U5:w<n)(U6:x<n)(z:f<j)
 (TY:ci X h P b2 bA 8 (g.cl.map bP))(TZ:ci X h P be bB 8 (g.out.map bP))(U0:ci X h P b6 ax 8 (g.loc.map bP))
 (aZ:W X h (.ptr f 2)=some bA)(a3:W X h (.ptr f 3)=some bB)(a4:W X h (.ptr f 4)=some ax)
 (s:∀i E aj,b i E aj->j+2<=aj/\∀a,P a->J X E a=J X h a)
 (Z:∀i ay aL aO aR,b i ay aL->aL<=aR->(∀a,a<aL->a≠j+1->J X aO a=J X ay a)->b i aO aR)
 (T9:∀E,a1 X h j E (j+2)->b 0 E (j+2))
 (U3:∀mk i o d ay aL,(bi g)[i]? =some (o,d)->b i ay aL->J X ay j=some (.deferred (some []))->J X ay (j+1)=some (mk .ready none)->
  iH X G aB (j+1) mk (λN E aj=>N= .zT/\b (i+1) E aj/\J X E j=some (.deferred (some []))/\J X E (j+1)=some (mk .ready none)) zG (K (K B w (.Z o)) x (.agg (bP d))) ay aL)
 (U1:∀E aj,b (bi g).length E aj->J X E j=some (.deferred (some []))->R (jz B j) E aj):
 nU X n (.func (.func 102) [] [.ptr f 0]) [w,x] (iH X G aB) R l r af B h j:=by
 refine⟨T1, ?_⟩
 intro mk U2
 refine xd (T0.none _ _ rfl) ?_
 generalize v:aS X (aS X h j _) (j+1) _=ay
 have T5:J X ay j=some (.deferred (some [])):=by rw[<-v,aY Zo Zo,bb T1]
 have T7:J X ay (j+1)=some (mk .ready none):=by rw[<-v,bb Zo]
 have p:a1 X h j ay (j+2):=⟨Zo,λa c=>by rw[<-v];exact zA⟩
 clear v
 have O:=T9 ay p
 obtain⟨_,t⟩:=s _ _ _ O
 refine(Fo (k:=j+1) T0 (λi E aj=>b i E aj/\J X E j=some (.deferred (some []))/\J X E (j+1)=some (mk .ready none)) (TY.T t) (TZ.T t) (U0.T t)
  (by rw[p.cZ _ _ z];exact aZ) (by rw[p.cZ _ _ z];exact a3) (by rw[p.cZ _ _ z];exact a4)
  (λi E aj e=> ?_) (λi ay aL aO aR e m=> ?_) (λi o d ay aL ak e=> ?_) ⟨O,T5,T7⟩).Zm ?_
 ·obtain⟨T2,C⟩:=s _ _ _ e.1
  exact⟨Zo,λa c=>by rw[C a c,t a c]⟩
 ·obtain⟨T2,C⟩:=s _ _ _ e.1
  exact⟨Z _ _ _ _ _ e.1 m.le (λa c _=>m.T a c),by rw[m.T _ Zo];exact e.2.1,by rw[m.T _ Zo];exact e.2.2⟩
 ·refine U2 _ _ _ _ _ e.2.2 ?_
  have T3:Nat.blt w n=true:=by simp[Nat.blt];omega
  have T4:Nat.blt x n=true:=by simp[Nat.blt];omega
  simp only[o5,T3,T4,cS]
  exact U3 mk i o d ay aL ak e.1 e.2.1 e.2.2
 ·rintro N aO aR ⟨Y,T6,T8⟩
  obtain⟨T2,C⟩:=s _ _ _ Y
  refine⟨.ready,none,Zs,T8, ?_⟩
  show R _ _ _
  exact U1 _ _ (Z _ _ _ _ _ Y (Zp _) (λa c U4=>aY Zo U4)) (by rw[aY Zo Zo];exact T6)
end
def mi{α a:Type}(st:a->α->a)(s:a){k:List α}{i:Nat}{x:α}(e:k[i]? =some x):(k.take (i+1)).foldl st s=st ((k.take i).foldl st s) x:=by
 rw[ZG,e,YX];rfl
def fL(s:(aW->Option Int)×(Int×Int))(x:Int×bx):(aW->Option Int)×(Int×Int):=
 (λw=>if w=x.2.name then some x.1 else s.1 w,if 0<(s.1 x.2.name).getD 0 then fe s.2 24 x.2.at_ else s.2)
def g0(t:aW->Option c8)(f:Int×Int)(x:Int×bx):Int×Int:=if t x.2.on=none/\x.2.on≠[]then fe f 23 x.2.di else f
def j3(t:aW->Option c8)(g:Go.a8.Node)(f:Int×Int):Int×Int:=(bi g).foldl (g0 t) ((bi g).foldl fL (λ_=>none,f)).2
section
variable{X:bU}{h E cH ay aO:I ae}{j ar aL aR:Nat}
def rj(c:dX X){nm bA bB ax d:y}{a:y}(b:(u X).aP<=j):
 aN X 77 [.agg [nm,a,bA,bB,ax,d]] h j (λN E ar=>N= .func (.func 102) [] [.ptr j 0]/\ar=j+1/\a1 X h j E ar/\W X E (.ptr j 2)=some bA/\W X E (.ptr j 3)=some bB/\W X E (.ptr j 4)=some ax) zG:=by
 refine zB c (Dg X) ?_
 rw[Dh]
 unfold wC
 refine bl ⟨?_⟩
 exact⟨rfl,rfl,dG,by rw[ba (bb b)];rfl,by rw[ba (bb b)];rfl,by rw[ba (bb b)];rfl⟩
structure ip(X:bU)(d:I ae)(c b bz:Nat)(p:y)(o:Int)(bq bt:y)(f:Int×Int)(F:aW->Option Int)(h:I ae)(n:Nat):Prop where
 le:c+2<=n
 eG:cW X h b p o bq bt f
 seen:gU X h bz (gD F)
 low:∀a,a<c->a≠b->a≠bz->J X h a=J X d a
def ip.T{g:I ae}{b c bz:Nat}{p bq bt:y}{o:Int}{f:Int×Int}{F:aW->Option Int}(e:ip X g b c bz p o bq bt f F ay aL)(r:c<b)(t:bz<b)(v:aL<=aR)(d:∀a,a<aL->a≠b+1->J X aO a=J X ay a):ip X g b c bz p o bq bt f F aO aR:=by
 have s:=e.le
 refine⟨Zo, ?_,e.seen.T (d _ Zo Zo),λa i m n=>by rw[d a Zo Zo];exact e.low a i m n⟩
 have:=e.eG
 unfold cW at*
 rw[d _ Zo Zo];exact this
def EY(T4:dX X){P:Nat->Prop}{m:Nat}{p bq bt:y}{o:Int}{t:aW->Option c8}{g:Go.a8.Node}{row:List y}(VW:(u X).aP<=j)(Un:(u X).aP<=m)(VE:m<j)
 (T2:∀a,P a->a<j/\a≠m)(VL:kF X h P bq t){f:Int×Int}(V8:cW X h m p o bq bt f)(VF:m0 X h P g row)(VS:True):
 aN X 80 [.ptr m 0, .agg row] h j (λN E ar=>N= .tuple []/\cW X E m p o bq bt (j3 t g f)/\j<=ar/\∀a,a<j->a≠m->J X E a=J X h a) zG:=by
 refine q3 (Do X) (T4.none _ _ rfl) ?_
 rw[Dp]
 unfold wG
 obtain⟨bA,bB,ax,Uu,b2,be,b6,c4,rows,rfl,Uo,Up,Uq,VR,VQ⟩:=VF
 refine bl ⟨?_⟩
 refine l9 (λay=>J X ay j=zy [.ptr m 0] 1/\J X ay (j+1)=zy [.str g.name, .Z g.at_,bA,bB,ax,Uu] 6
  /\J X ay (j+1+1)=some (.map [] 0)/\W X ay (.ptr (j+1+1+1) 0)=some (.map (j+1+1))/\a1 X h j ay (j+1+1+1+1)) ⟨by(first|assumption|(exact zL)|(simp(disch:=omega) only[bb,aY])),by(first|assumption|(exact zL)|(simp(disch:=omega) only[bb,aY])),by(first|assumption|(exact zL)|(simp(disch:=omega) only[bb,aY])),by rw[b0,bb Zo];rfl,dG⟩ ?_
 rintro ay ⟨UK,Ug,Uh,UL,V7⟩
 refine(rj T4 Zo).Zm ?_
 rintro N aO aR ⟨rfl,rfl,UO,Uc,Ud,Ue⟩
 have UN:a1 X h j aO (j+1+1+1+1+1):=V7.trans UO
 have UH:∀a,P a->J X aO a=J X h a:=λa c=>UN.T a (T2 a c).1
 rw[<-UO.T _ Zo]at UK Ug Uh
 rw[<-UO.cZ _ _ Zo]at UL
 generalize VX:j+1+1+1+1+1=T0 at*
 have V9:cW X aO m p o bq bt f:=by unfold cW at*;rw[UN.T m VE];exact V8
 have VJ:gU X aO (j+1+1) (gD λ_=>none):=⟨[],0,Uh,λ_=>rfl⟩
 refine gr ?_
 refine rk (P:=P) (g:=g) (b2:=b2) (be:=be) (b6:=b6) (bA:=bA) (bB:=bB) (ax:=ax) T4 (λi E aj=>ip X aO T0 m (j+1+1) p o bq bt (((bi g).take i).foldl fL (λ_=>none,f)).2 (((bi g).take i).foldl fL (λ_=>none,f)).1 E aj) Zo Zo Zo Zo
  (Uo.T UH) (Up.T UH) (Uq.T UH) Uc Ud Ue (λi E aj e=>⟨e.le,λa c=>e.low a (zu (T2 a c).1) (T2 a c).2 (zu (T2 a c).1)⟩)
  (λi ay aL aO aR e U6 UV=>e.T Zo Zo U6 UV) (λE T7=>⟨Zp _,by unfold cW at*;rw[T7.T _ Zo];exact V9,VJ.T (T7.T _ Zo),λa c _ _=>T7.T a c⟩) ?_ ?_
 ·intro mk i w d UJ T3 ak Y UM V2
  rw[mi fL _ ak]
  generalize ((bi g).take i).foldl fL (λ_=>none,f)=aw at Y ⊢
  have U6:=Y.le
  have UU:bP d=[.str d.name, .Z d.at_, .bool d.ty.b, .bool d.ty.s, .Z d.ty.w, .str d.on, .Z d.di, .bool d.no]:=rfl
  rw[UU]
  unfold iH
  refine bl ⟨?_⟩
  generalize UQ:aS X _ T3 _=z
  have T8:J X z T3=zy [.str d.name, .Z d.at_, .bool d.ty.b, .bool d.ty.s, .Z d.ty.w, .str d.on, .Z d.di, .bool d.no] 8:=by rw[<-UQ,bb Zo];rfl
  have UW:∀a,a<T3->J X z a=J X UJ a:=λa c=>by rw[<-UQ];exact zA
  clear UQ
  refine⟨by rw[UW _ Zo];exact V2, ?_⟩
  generalize UR:aS X z (T0+1) _=C
  have Ui:J X C (T0+1)=some (mk .busy none):=by rw[<-UR,bb Zo]
  have UX:∀a,a≠T0+1->J X C a=J X z a:=λa c=>by rw[<-UR,aY Zo c]
  clear UR
  have s:=Y.T (aO:=C) (aR:=T3+1) Zo Zo Zo (λa v r=>by rw[UX a r,UW a v])
  rw[<-UX _ Zo]at T8
  have T9:J X C T0=some (.deferred (some [])):=by rw[UX _ Zo,UW _ Zo];exact UM
  have UA:W X C (.ptr j 0)=some (.ptr m 0):=by rw[ba (show J X C j=_ by rw[s.low _ Zo Zo Zo];exact UK)];rfl
  have b6:W X C (.ptr (j+1+1+1) 0)=some (.map (j+1+1)):=zF (s.low _ Zo Zo Zo) UL
  have Ut:gs X C 9 (.Z 0) (.map (j+1+1)) (.str d.name) false=some (.Z ((aw.1 d.name).getD 0)):=by
   rw[nA s.seen];unfold gD;cases aw.1 d.name<;>rfl
  refine c6 @b6 @Ut (ba T8) ⟨?_⟩
  refine gr ?_
  refine c6 @b6 @Ut (ba T8) ⟨?_⟩
  refine cU (λU9 E aj=>U9.g 4=some (.ptr (j+1+1+1) 0)/\U9.g 6=some (.ptr T3 0)/\U9.g 5=some (.Z w)/\ip X aO T0 m (j+1+1) p o bq bt (fL aw (w,d)).2 aw.1 E aj/\T3+1<=aj
   /\J X E T3=zy [.str d.name, .Z d.at_, .bool d.ty.b, .bool d.ty.s, .Z d.ty.w, .str d.on, .Z d.di, .bool d.no] 8/\J X E T0=some (.deferred (some []))/\J X E (T0+1)=some (mk .busy none)) (λH Us=> ?_) ?_
  ·by_cases UG:0<(aw.1 d.name).getD 0
   ·have ao:decide (0<(aw.1 d.name).getD 0)=true:=by simp[UG]
    refine cz @ao @UA (ba T8) ⟨?_⟩
    refine(j1 (h:=C) T4 Un s.eG 24 d.at_).Zm ?_
    rintro N T5 Ub ⟨rfl,VB,VI,U5⟩
    refine bl ⟨?_⟩
    refine Us _ _ _ ⟨aK,aK,aK,⟨Zo, ?_,s.seen.T (U5 _ Zo),λa v r TY=>by rw[U5 a r];exact s.low a v r TY⟩,Zo,by rw[U5 _ Zo];exact T8,by rw[U5 _ Zo];exact T9,by rw[U5 _ Zo];exact Ui⟩
    unfold fL
    simp only[UG,ZP]
    exact VB
   ·have ao:decide (0<(aw.1 d.name).getD 0)=false:=by simp[UG]
    refine bG @ao ⟨?_⟩
    refine Us _ _ _ ⟨aK,aK,aK,⟨Zo, ?_,s.seen,s.low⟩,Zo,T8,T9,Ui⟩
    unfold fL
    simp only[UG,ZM]
    exact s.eG
  ·rintro U9 T5 Ub ⟨t4,VP,t5,U3,VI,T6,V1,V4⟩
   have VG:=U3.le
   have Ux:W X T5 (.ptr (j+1+1+1) 0)=some (.map (j+1+1)):=zF (U3.low _ Zo Zo Zo) UL
   show Q _ _
   refine de @t4 @VP @t5 @Ux (ba T6) ⟨?_⟩
   obtain⟨O,VK,V5,UD⟩:=r2 (j:=Ub) (show(u X).aP<=j+1+1 by omega) U3.seen d.name (.Z w)
   refine eX VK ?_
   refine bl ⟨?_⟩
   refine⟨⟨.busy,none,by rw[UD _ Zo];exact V4⟩, ?_⟩
   have VC:cW X O m p o bq bt (fL aw (w,d)).2:=by have:=U3.eG;unfold cW at*;rw[UD m Zo];exact this
   have V6:gU X O (j+1+1) (gD (fL aw (w,d)).1):=by
    have:(λx=>if x=d.name then some (y.Z w)else gD aw.1 x)=gD (fL aw (w,d)).1:=by
     funext x;unfold gD fL;by_cases e:x=d.name<;>simp[e]
    rw[<-this];exact V5
   have U0:ip X aO T0 m (j+1+1) p o bq bt (fL aw (w,d)).2 (fL aw (w,d)).1 O Ub:=⟨VG,VC,V6,λa v r TY=>by rw[UD a TY];exact U3.low a v r TY⟩
   exact⟨rfl,U0.T Zo Zo (Zp _) (λa v r=>aY Zo r),by rw[aY Zo Zo,UD _ Zo];exact V1,bb Zo⟩
 ·intro UJ T3 Y UM
  rw[zi]at Y
  unfold j3
  generalize (bi g).foldl fL (λ_=>none,f)=aw at Y ⊢
  have U6:=Y.le
  have Uy:J X UJ (j+1)=zy [.str g.name, .Z g.at_,bA,bB,ax,Uu] 6:=by rw[Y.low _ Zo Zo Zo];exact Ug
  refine bG (ba Uy) ⟨?_⟩
  refine(rj T4 Zo).Zm ?_
  rintro N z Va ⟨rfl,rfl,TZ,Uc,Ud,Ue⟩
  generalize VY:T3+1=ch at*
  have VA:cW X z m p o bq bt aw.2:=by have:=Y.eG;unfold cW at*;rw[TZ.T m Zo];exact this
  have Uz:J X z T0=some (.deferred (some [])):=by rw[TZ.T _ Zo];exact UM
  have UI:∀a,P a->J X z a=J X h a:=λa c=>by
   have:=T2 a c
   rw[TZ.T a Zo,Y.low a Zo this.2 Zo,UH a c]
  have Uv:J X z j=zy [.ptr m 0] 1:=by rw[TZ.T _ Zo,Y.low _ Zo Zo Zo];exact UK
  refine gr ?_
  refine rk (P:=P) (g:=g) (b2:=b2) (be:=be) (b6:=b6) (bA:=bA) (bB:=bB) (ax:=ax) T4 (λi E aj=>ip X z ch m (j+1+1) p o bq bt (((bi g).take i).foldl (g0 t) aw.2) aw.1 E aj) Zo Zo Zo Zo
   (Uo.T UI) (Up.T UI) (Uq.T UI) Uc Ud Ue (λi E aj e=>⟨e.le,λa c=>e.low a (zu (T2 a c).1) (T2 a c).2 (zu (T2 a c).1)⟩)
   (λi ay aL aO aR e U6 UV=>e.T Zo Zo U6 UV) (λE T7=>⟨Zp _,by unfold cW at*;rw[T7.T _ Zo];exact VA,(Y.seen.T (TZ.T _ Zo)).T (T7.T _ Zo),λa c _ _=>T7.T a c⟩) ?_ ?_
  ·intro mk i w d C Z ak s T9 V3
   rw[mi (g0 t) _ ak]
   generalize ((bi g).take i).foldl (g0 t) aw.2=G at s ⊢
   have VH:=s.le
   have UU:bP d=[.str d.name, .Z d.at_, .bool d.ty.b, .bool d.ty.s, .Z d.ty.w, .str d.on, .Z d.di, .bool d.no]:=rfl
   rw[UU]
   unfold iH
   refine bl ⟨?_⟩
   generalize US:aS X _ Z _=T5
   have T6:J X T5 Z=zy [.str d.name, .Z d.at_, .bool d.ty.b, .bool d.ty.s, .Z d.ty.w, .str d.on, .Z d.di, .bool d.no] 8:=by rw[<-US,bb Zo];rfl
   have UY:∀a,a<Z->J X T5 a=J X C a:=λa c=>by rw[<-US];exact zA
   clear US
   refine⟨by rw[UY _ Zo];exact V3, ?_⟩
   generalize UT:aS X T5 (ch+1) _=O
   have UB:J X O (ch+1)=some (mk .busy none):=by rw[<-UT,bb Zo]
   have UZ:∀a,a≠ch+1->J X O a=J X T5 a:=λa c=>by rw[<-UT,aY Zo c]
   clear UT
   have U0:=s.T (aO:=O) (aR:=Z+1) Zo Zo Zo (λa v r=>by rw[UZ a r,UY a v])
   rw[<-UZ _ Zo]at T6
   have UC:J X O ch=some (.deferred (some [])):=by rw[UZ _ Zo,UY _ Zo];exact T9
   have UA:W X O (.ptr j 0)=some (.ptr m 0):=by rw[ba (show J X O j=_ by rw[U0.low _ Zo Zo Zo];exact Uv)];rfl
   have VN:W X O (.ptr m 2)=some bq:=by have:=U0.eG;unfold cW at this;rw[ba this];rfl
   have U2:∀E aj,ip X z ch m (j+1+1) p o bq bt (g0 t G (w,d)) aw.1 E aj->J X E ch=some (.deferred (some []))->(y.bool true=y.bool true/\ip X z ch m (j+1+1) p o bq bt (g0 t G (w,d)) aw.1 (aS X E (ch+1) (some (mk .ready none))) aj/\J X (aS X E (ch+1) (some (mk .ready none))) ch=some (.deferred (some []))/\J X (aS X E (ch+1) (some (mk .ready none))) (ch+1)=some (mk .ready none)):=λE aj e r=>
    ⟨rfl,e.T Zo Zo (Zp _) (λa v r=>aY Zo r),by rw[aY Zo Zo];exact r,bb Zo⟩
   refine ho ⟨?_⟩
   refine gr ?_
   refine cz @UA @VN (ba T6) ⟨?_⟩
   refine l9 (λU7=>J X U7 (Z+1+10)=zy [.Z 0, .str [], .Z 0, .zF, .zF, .Z 0, .str [], .Z 0, .zF, .Z 0, .Z 0] 11/\a1 X O (Z+1) U7 (Z+1+10+1)) ⟨by rw[bb Zo];rfl,Zo,λa c=>zA⟩ ?_
   rintro U7 ⟨Uj,Ul⟩
   refine(tX (j:=Z+1+13) (h:=U7) T4 Zo (VL.T (bn:=P) (λa c=>by have:=T2 a c;rw[Ul.T a Zo,U0.low a Zo this.2 Zo,UI a c]) (λ_ e=>e)) (λa c=>zu (T2 a c).1) d.on).Zm ?_
   rintro N Uf VO ⟨rfl,UP⟩
   have VU:=UP.le
   have Uk:J X Uf (Z+1+10)=zy [.Z 0, .str [], .Z 0, .zF, .zF, .Z 0, .str [], .Z 0, .zF, .Z 0, .Z 0] 11:=by rw[UP.T _ Zo];exact Uj
   generalize VZ:(t d.on).getD kx=T1
   have VM:hz T1=[.Z T1.kind, .str T1.d.name, .Z T1.d.at_, .bool T1.d.ty.b, .bool T1.d.ty.s, .Z T1.d.ty.w, .str T1.d.on, .Z T1.d.di, .bool T1.d.no, .Z T1.eq, .Z T1.left]:=rfl
   rw[VM]
   refine j9 ⟨?_⟩
   refine j9 ⟨?_⟩
   refine cD (e8 (o:=11) (b:=Z+1+10) (D:=0) (n:=11) Uk Zo rfl Zd Zd rfl) ?_
   generalize Um:aS X Uf (Z+1+10) _=U8
   have Ua:∀a,a<Z+1->J X U8 a=J X O a:=λa c=>by rw[<-Um,aY Zo Zo,UP.T a Zo,Ul.T a c]
   clear Um Uj Uk
   have U1:ip X z ch m (j+1+1) p o bq bt G aw.1 U8 VO:=U0.T Zo Zo Zo (λa v r=>Ua a v)
   rw[<-Ua _ Zo]at T6 UB UC
   have Uw:W X U8 (.ptr j 0)=some (.ptr m 0):=zF (Ua _ Zo) UA
   cases Ur:(t d.on)with
   |some Vc=>
    have U4:g0 t G (w,d)=G:=by unfold g0;rw[Zj (by simp[Ur])]
    simp only[Ya]
    refine bl ⟨?_⟩
    rw[U4]at U2 ⊢
    exact⟨⟨.busy,none,UB⟩,U2 _ _ U1 UC⟩
   |none=>
    simp only[Z4]
    by_cases UF:d.on=[]
    ·have U4:g0 t G (w,d)=G:=by unfold g0;rw[Zj (by simp[UF])]
     have ao:decide (d.on≠[])=false:=by simp[UF]
     refine cn (ba T6) @ao ⟨?_⟩
     rw[U4]at U2 ⊢
     exact⟨⟨.busy,none,UB⟩,U2 _ _ U1 UC⟩
    ·have U4:g0 t G (w,d)=fe G 23 d.di:=by unfold g0;rw[Zv ⟨Ur,UF⟩]
     have ao:decide (d.on≠[])=true:=by simp[UF]
     refine cz (ba T6) @ao @Uw ⟨?_⟩
     refine(j1 (h:=U8) T4 Un U1.eG 23 d.di).Zm ?_
     rintro N fy Vb ⟨rfl,VD,VV,UE⟩
     refine bl ⟨?_⟩
     rw[U4]at U2 ⊢
     have VT:=U1.le
     exact⟨⟨.busy,none,by rw[UE _ Zo];exact UB⟩,U2 _ _ ⟨Zo,VD,U1.seen.T (UE _ Zo),λa v r TY=>by rw[UE a r];exact U1.low a v r TY⟩ (by rw[UE _ Zo];exact UC)⟩
  ·intro C Z s T9
   rw[zi]at s
   generalize (bi g).foldl (g0 t) aw.2=G at s ⊢
   have VH:=s.le
   have V0:J X C T0=some (.deferred (some [])):=by rw[s.low _ Zo Zo Zo];exact Uz
   show hW X [] _ _ _ _ _
   simp only[jA,ja,jW]
   refine⟨by show(u X).aP<=ch;omega,T9, ?_⟩
   refine⟨by show(u X).aP<=T0;omega,by rw[aY Zo Zo];exact V0, ?_⟩
   show i7 _ _ _ _ _
   refine⟨rfl, ?_,Zo,λa v r=> ?_⟩
   ·have:=s.eG
    unfold cW at*
    rw[aY Zo Zo,aY Zo Zo];exact this
   ·rw[aY Zo Zo,aY Zo Zo,s.low a Zo r Zo,TZ.T a Zo,Y.low a Zo r Zo,UN.T a v]
end
def i2(s:(aW->Option c8)×List aW)(x:Int×bx):(aW->Option c8)×List aW:=
 if (s.1 x.2.name).isSome then s else(λw=>if w=x.2.name then some ⟨x.1,x.2, -1, -1⟩else s.1 w,s.2++[x.2.name])
def hT(o:Nat)(t:aW->Option c8)(x:aW×Nat):aW->Option c8:=match t x.1 with
 |some v=>if v.eq<0 then(λw=>if w=x.1 then some ⟨v.kind,v.d,o,x.2⟩else t w)else t
 |none=>t
def oZ(t:aW->Option c8)(x:dO×Nat):aW->Option c8:=x.1.left.zipIdx.foldl (hT x.2) t
def hs(g:Go.a8.Node):(aW->Option c8)×List aW:=(bi g).foldl i2 (λ_=>none,[])
def cV(g:Go.a8.Node):aW->Option c8:=g.eqs.zipIdx.foldl oZ (hs g).1
def r3(g:Go.a8.Node):List aW:=(hs g).2
def kv(t:aW->Option c8):aW->Option y:=λw=>(t w).map λv=> .agg (hz v)
def vn{α:Type}{k:List α}{i:Nat}{x:α}(e:k[i]? =some x):k.zipIdx[i]? =some (x,i):=by
 rw[List.getElem?_zipIdx,e];simp
section
variable{X:bU}{h E cH ay aO:I ae}{j ar aL aR:Nat}
structure iu(X:bU)(b:I ae)(d bz bq aF:Nat)(t:aW->Option c8)(c9:List aW)(h:I ae)(n:Nat):Prop where
 le:aF<=n
 map:gU X h bz (kv t)
 o8:∃c ax aJ,J X h bq=some (.cells c 2 .own)/\c.get 0=some (.map bz)/\c.get 1=some ax/\cX X h ax 1 (c9.map .str) aJ/\∀a∈aJ,aF<=a/\a<n
 low:∀a,a<d->a≠bz->a≠bq->J X h a=J X b a
def iu.T{g:I ae}{b bz bq aF:Nat}{t:aW->Option c8}{c9:List aW}(e:iu X g b bz bq aF t c9 ay aL)(C:bz<b)(O:bq<b)(z:b<=aF)(G:aL<=aR)(d:∀a,a<aL->(a<b\/aF<=a)->J X aO a=J X ay a):iu X g b bz bq aF t c9 aO aR:=by
 have x:=e.le
 refine⟨Zo,e.map.T (d _ Zo Zo), ?_,λa s v w=>by rw[d a Zo Zo];exact e.low a s v w⟩
 obtain⟨c,ax,aJ,m,n,p,r,i⟩:=e.o8
 exact⟨c,ax,aJ,by rw[d _ Zo Zo];exact m,n,p,r.T (λa f=>by have:=i a f;exact d a Zo Zo),λa f=>zu (i a f)⟩
def IC(Uw:dX X){P:Nat->Prop}{g:Go.a8.Node}{row:List y}(WG:(u X).aP<=j)(UE:∀a,P a->a<j)(Vi:m0 X h P g row)(WF:(bi g).length<=300000):
 aN X 47 [.agg row] h j (λN E ar=>∃bq bz ax b,N= .ptr bq 0/\dm j ar bq/\dm j ar bz/\W X E (.ptr bq 0)=some (.map bz)/\gU X E bz (kv (cV g))/\W X E (.ptr bq 1)=some ax/\ci X E (dm j ar) b ax 1 (dt (r3 g))/\a1 X h j E ar) zG:=by
 refine q3 (CI X) (Uw.none _ _ rfl) ?_
 rw[CJ]
 unfold wj
 obtain⟨bA,bB,ax,Uj,b2,be,b6,c4,rows,rfl,Vj,Vk,Vl,Ud,VG⟩:=Vi
 refine bl ⟨?_⟩
 refine l9 (λay=>J X ay j=zy [.str g.name, .Z g.at_,bA,bB,ax,Uj] 6
  /\J X ay (j+1)=some (.map [] 0)/\J X ay (j+1+1)=zy [.map (j+1), .az] 2/\W X ay (.ptr (j+1+1+1) 0)=some (.ptr (j+1+1) 0)/\a1 X h j ay (j+1+1+1+1)) ⟨by(first|assumption|(exact zL)|(simp(disch:=omega) only[bb,aY])),by(first|assumption|(exact zL)|(simp(disch:=omega) only[bb,aY])),by(first|assumption|(exact zL)|(simp(disch:=omega) only[bb,aY])),by rw[b0,bb Zo];rfl,dG⟩ ?_
 rintro ay ⟨V8,V9,VA,Ub,Ve⟩
 refine(rj Uw Zo).Zm ?_
 rintro N aO aR ⟨rfl,rfl,Uu,UV,UW,UX⟩
 have VB:a1 X h j aO (j+1+1+1+1+1):=Ve.trans Uu
 have UT:∀a,P a->J X aO a=J X h a:=λa f=>VB.T a (UE a f)
 rw[<-Uu.T _ Zo]at V8 V9 VA
 rw[<-Uu.cZ _ _ Zo]at Ub
 generalize WH:j+1+1+1+1+1=p at*
 refine gr ?_
 refine rk (P:=P) (g:=g) (b2:=b2) (be:=be) (b6:=b6) (bA:=bA) (bB:=bB) (ax:=ax) Uw (λi E aj=>iu X aO p (j+1) (j+1+1) (p+2) (((bi g).take i).foldl i2 (λ_=>none,[])).1 (((bi g).take i).foldl i2 (λ_=>none,[])).2 E aj/\(((bi g).take i).foldl i2 (λ_=>none,[])).2.length<=i) Zo Zo Zo Zo
  (Vj.T UT) (Vk.T UT) (Vl.T UT) UV UW UX (λi E aj e=>⟨e.1.le,λa f=>e.1.low a (zu (UE a f)) (zu (UE a f)) (zu (UE a f))⟩)
  (λi ay aL aO aR e VJ Vo=>⟨e.1.T Zo Zo Zo VJ (λa t z=>Vo a t Zo),e.2⟩)
  (λE Ut=>⟨⟨Zp _,⟨[],0,by rw[Ut.T _ Zo];exact V9,λ_=>rfl⟩,⟨_, .az,[],by rw[Ut.T _ Zo];exact VA,rfl,rfl, .inl (.inl ⟨rfl,rfl,rfl⟩),λa f=>by simp at f⟩,λa f _ _=>Ut.T a f⟩,Zs⟩) ?_ ?_
 ·intro mk i UJ d Ua T2 ak Z Ur Vd
  rw[mi i2 _ ak]
  generalize ((bi g).take i).foldl i2 (λ_=>none,[])=aw at Z ⊢
  obtain⟨Z,V0⟩:=Z
  have WB:=(Zf.1 ak).1
  have VJ:=Z.le
  have Vh:bP d=[.str d.name, .Z d.at_, .bool d.ty.b, .bool d.ty.s, .Z d.ty.w, .str d.on, .Z d.di, .bool d.no]:=rfl
  rw[Vh]
  unfold iH
  refine bl ⟨?_⟩
  generalize Ux:aS X _ T2 _=T7
  have UC:J X T7 T2=zy [.str d.name, .Z d.at_, .bool d.ty.b, .bool d.ty.s, .Z d.ty.w, .str d.on, .Z d.di, .bool d.no] 8:=by rw[<-Ux,bb Zo];rfl
  have V4:∀a,a<T2->J X T7 a=J X Ua a:=λa f=>by rw[<-Ux];exact zA
  clear Ux
  refine⟨by rw[V4 _ Zo];exact Vd, ?_⟩
  generalize U5:aS X T7 (p+1) _=T0
  have UD:J X T0 (p+1)=some (mk .busy none):=by rw[<-U5,bb Zo]
  have UG:∀a,a≠p+1->J X T0 a=J X T7 a:=λa f=>by rw[<-U5,aY Zo f]
  clear U5
  have T4:=Z.T (aO:=T0) (aR:=T2+1) Zo Zo Zo Zo (λa t z=>by rw[UG a Zo,V4 a t])
  rw[<-UG _ Zo]at UC
  have Uc:J X T0 p=some (.deferred (some [])):=by rw[UG _ Zo,V4 _ Zo];exact Ur
  have b6:W X T0 (.ptr (j+1+1+1) 0)=some (.ptr (j+1+1) 0):=zF (T4.low _ Zo Zo Zo) Ub
  obtain⟨UN,WN,VX,U0,U1,Uh,Ui,Y⟩:=T4.o8
  have TZ:gs X T0 9 (.agg [.Z 0, .str [], .Z 0, .zF, .zF, .Z 0, .str [], .Z 0, .zF, .Z 0, .Z 0]) (.map (j+1)) (.str d.name) true=some (.tuple [.agg (hz ((aw.1 d.name).getD kx)), .bool (aw.1 d.name).isSome]):=by
   rw[nA T4.map];unfold kv;cases aw.1 d.name<;>rfl
  generalize V3:(aw.1 d.name).getD kx=r at TZ
  have V2:hz r=[.Z r.kind, .str r.d.name, .Z r.d.at_, .bool r.d.ty.b, .bool r.d.ty.s, .Z r.d.ty.w, .str r.d.on, .Z r.d.di, .bool r.d.no, .Z r.eq, .Z r.left]:=rfl
  rw[V2]at TZ
  have VH:∀E aj (G:(aW->Option c8)×List aW),iu X aO p (j+1) (j+1+1) (p+2) G.1 G.2 E aj->G.2.length<=i+1->J X E p=some (.deferred (some []))->(y.bool true=y.bool true/\(iu X aO p (j+1) (j+1+1) (p+2) G.1 G.2 (aS X E (p+1) (some (mk .ready none))) aj/\G.2.length<=i+1)/\J X (aS X E (p+1) (some (mk .ready none))) p=some (.deferred (some []))/\J X (aS X E (p+1) (some (mk .ready none))) (p+1)=some (mk .ready none)):=λE aj G e au z=>
   ⟨rfl,⟨e.T Zo Zo Zo (Zp _) (λa t z=>aY Zo Zo),au⟩,by rw[aY Zo Zo];exact z,bb Zo⟩
  refine ho ⟨?_⟩
  refine gr ?_
  refine de @b6 (ba U0) @U1 (ba UC) @TZ ⟨?_⟩
  generalize VD:aS X _ (T2+1+10) _=T3
  have US:∀a,a<T2+1->J X T3 a=J X T0 a:=λa f=>by rw[<-VD];exact zA
  clear VD TZ
  have O:iu X aO p (j+1) (j+1+1) (p+2) aw.1 aw.2 T3 (T2+1+13):=T4.T Zo Zo Zo Zo (λa t z=>US a t)
  rw[<-US _ Zo]at UC UD Uc
  have UM:W X T3 (.ptr (j+1+1+1) 0)=some (.ptr (j+1+1) 0):=zF (US _ Zo) b6
  have VR:J X T3 (j+1+1)=some (.cells UN 2 .own):=by rw[US _ Zo];exact U0
  cases U7:aw.1 d.name with
  |some WP=>
   have T9:i2 aw (UJ,d)=aw:=by unfold i2;rw[Zv (by simp[U7])]
   rw[T9]
   simp only[Ya]
   refine bl ⟨?_⟩
   exact⟨⟨.busy,none,UD⟩,VH _ _ aw (O.T Zo Zo Zo Zo (λ_ _ _=>rfl)) Zo Uc⟩
  |none=>
   have T9:i2 aw (UJ,d)=(λw=>if w=d.name then some ⟨UJ,d, -1, -1⟩else aw.1 w,aw.2++[d.name]):=by unfold i2;rw[Zj (by simp[U7])]
   rw[T9]
   simp only[Z4]
   refine cP @UM (ba VR) @U1 (ba UC) ⟨?_⟩
   generalize W8:T2+1+13+10=bW
   obtain⟨T1,Ue,VC,UQ⟩:=r2 (j:=bW) (show(u X).aP<=j+1 by omega) O.map d.name (.agg (hz ⟨UJ,d, -1, -1⟩))
   refine eX Ue ?_
   have V7:W X T1 (.ptr (j+1+1+1) 0)=some (.ptr (j+1+1) 0):=zF (UQ _ Zo) UM
   have VS:J X T1 (j+1+1)=some (.cells UN 2 .own):=by rw[UQ _ Zo];exact VR
   rw[<-UQ _ Zo]at UC UD Uc
   refine cP @V7 (ba VS) @Uh (ba UC) ⟨?_⟩
   generalize U6:aS X T1 (bW+7) _=T8
   have Va:J X T8 (bW+7)=zy [.str d.name] 1:=by rw[<-U6,bb Zo]
   have T5:∀a,a<bW->J X T8 a=J X T1 a:=λa f=>by rw[<-U6];exact zA
   clear U6 Ue
   obtain⟨V6,UB,VW,Vg,VN,VE,UF⟩:=(Ui.T (E:=T8) (λa f=>by have:=Y a f;rw[T5 a Zo,UQ a Zo,US a Zo])).append (j:=bW+12) Zd (hx Va (dl _) rfl _) rfl Zd rfl Zx Zo (λa f=>zu (Y a f))
   refine eX Vg ?_
   have UI:∀a,a<bW->a∉VX->J X UB a=J X T1 a:=λa f e=>by rw[UF a Zo e,T5 a f]
   have VV:W X UB (.ptr (j+1+1+1) 0)=some (.ptr (j+1+1) 0):=zF (UI _ Zo (λe=>zu (Y _ e))) V7
   have W2:J X UB (j+1+1)=some (.cells UN 2 .own):=by rw[UI _ Zo (λe=>zu (Y _ e))];exact VS
   refine bG @VV ⟨?_⟩
   refine fi (by simp[y.same]) ?_
   obtain⟨W0,W1,WL⟩:=dc.one VN
   refine cD (kt W2 Zo Zo W0 W1) ?_
   refine bl ⟨?_⟩
   generalize Uz:aS X UB (j+1+1) _=Un
   have W3:J X Un (j+1+1)=some (.cells (UN.set 1 (some V6)) 2 .own):=by rw[<-Uz,bb Zo]
   have UU:∀a,a≠j+1+1->J X Un a=J X UB a:=λa f=>by rw[<-Uz,aY Zo f]
   clear Uz
   have Vz:∀a,a<T2+1->(a<p\/a=p\/a=p+1)->a≠j+1+1->a≠j+1->J X Un a=J X T3 a:=λa f t z TY=>by
    rw[UU a z,UI a Zo (λe=>zu (Y _ e)),UQ a TY]
   refine⟨⟨.busy,none, ?_⟩,VH _ _ (_,aw.2++[d.name]) ⟨Zo, ?_,⟨UN.set 1 (some V6),V6,VW,W3, ?_, ?_, ?_, ?_⟩, ?_⟩ Zx ?_⟩
   ·rw[UU _ Zo,UI _ Zo (λe=>zu (Y _ e))];exact UD
   ·have:(λx=>if x=d.name then some (y.agg (hz ⟨UJ,d, -1, -1⟩))else kv aw.1 x)=kv (λw=>if w=d.name then some ⟨UJ,d, -1, -1⟩else aw.1 w):=by
     funext x;unfold kv;by_cases e:x=d.name<;>simp[e]
    rw[this]at VC
    exact VC.T (by rw[UU _ Zo,UI _ Zo (λe=>zu (Y _ e))])
   ·rw[I.gn,Zj Zd];exact U1
   ·rw[I.gn,Zv rfl]
   ·rw[YF]
    exact .inl (VN.T λa f=>UU a (by rcases VE a f with rfl|e;omega;have:=Y _ e;omega))
   ·intro a f
    rcases VE a f with rfl|e
    ·omega
    ·have:=Y _ e;omega
   ·intro a t z TY
    rw[Vz a Zo (.inl t) TY z];exact O.low a t z TY
   ·rw[UU _ Zo,UI _ Zo (λe=>zu (Y _ e))];exact Uc
 ·intro Ua T2 Z Ur
  rw[zi]at Z
  obtain⟨Z,V0⟩:=Z
  change iu X aO p (j+1) (j+1+1) (p+2) (hs g).1 (hs g).2 Ua T2 at Z
  change (hs g).2.length<=_ at V0
  have Vb:J X Ua j=zy [.str g.name, .Z g.at_,bA,bB,ax,Uj] 6:=by rw[Z.low _ Zo Zo Zo];exact V8
  have VP:=VG.wide
  have VK:=Ud.len
  have Vp:=Ud.many
  rw[VP.1]at VK Vp
  refine cn (ba Vb) @VK ⟨?_⟩
  refine cQ (λm B E aj=>∃(H:Nat),B.g 3=some (.ptr (j+1+1+1) 0)/\B.g 54=some Uj/\B.g 55=some (.Z (g.eqs.length:Int))/\B.g 56=some (.Z (H:Int))/\B.aA=[⟨.collected p,[]⟩]/\H+m=g.eqs.length
   /\iu X aO p (j+1) (j+1+1) (p+2) ((g.eqs.zipIdx.take H).foldl oZ (hs g).1) (hs g).2 E aj/\J X E p=some (.deferred (some [])))
   g.eqs.length ⟨0,aK,aK,aK,cA,rfl,Zo,Z,Ur⟩ ?_
  rintro m B T7 UK ⟨H,t3,U9,U2,U3,UA,WC,U4,Us⟩
  have WD:=U4.le
  cases m with
  |zero=>
   have ao:=zv H g.eqs.length
   have VT:W X T7 (.ptr (j+1+1+1) 0)=some (.ptr (j+1+1) 0):=zF (U4.low _ Zo Zo Zo) Ub
   refine de @U3 @U2 @t3 @ao @VT ⟨?_⟩
   have Vn:(g.eqs.zipIdx.take H).foldl oZ (hs g).1=cV g:=by
    rw[Zt Zx];rfl
   rw[Vn]at U4
   show hW X [.tmp 2] _ _ _ _ _
   simp only[ja,UA]
   refine⟨by show(u X).aP<=p;omega,Us, ?_⟩
   show i7 _ _ _ _ _
   unfold i7
   refine bl ⟨?_⟩
   have T4:=U4.T (aO:=aS X T7 p (some (.deferred none))) Zo Zo Zo (Zp _) (λa t z=>aY Zo Zo)
   obtain⟨c,s,aJ,U0,U1,Uh,Ui,Y⟩:=T4.o8
   obtain⟨b,ab⟩:=Ui.qr (P:=dm j UK) (by simp[r3]at V0 ⊢;omega) (λa f=>by have:=Y a f;exact⟨Zo,Zo⟩)
   refine⟨j+1+1,j+1,s,b,rfl,⟨Zo,Zo⟩,⟨Zo,Zo⟩,by rw[ba U0];exact U1,T4.map,by rw[ba U0];exact Uh, ?_,Zo,λa f=> ?_⟩
   ·have:dt (r3 g)=((hs g).2.map y.str).map λv=>[v]:=by unfold dt r3;rw[YH];rfl
    rw[this];exact ab
   ·rw[T4.low a Zo Zo Zo];exact VB.T a f
  |succ m=>
   have ao:=zw H g.eqs.length
   have VZ:=zz H
   obtain⟨L,VL⟩:=zx g.eqs H
   obtain⟨row,Vu,Vt⟩:=VG.get H L VL
   have Vx:∀a,P a->J X T7 a=J X h a:=λa f=>by have:=UE a f;rw[U4.low a Zo Zo Zo,UT a f]
   have Vm:=Ud.cT H (by rw[VP.1];omega)
   have Vv:=(Ud.T Vx).row Zd Vu
   obtain⟨VQ,WM,W6,W7,dB,rfl,UR,Vq,WI,Vr⟩:=Vt
   have WJ:=fg UR.len
   have WK:=fg Vq.1.len
   have VM:=UR.len
   have Vs:=UR.many
   rw[show(dt L.left).length=L.left.length from by simp[dt]]at VM Vs
   have V1:=mi oZ (hs g).1 (vn VL)
   rw[show(L,H)=(L,H) from rfl]at V1
   generalize WA:(g.eqs.zipIdx.take H).foldl oZ (hs g).1=Um at U4 V1
   refine dw @U3 @U2 @U9 @ao @Vm @Vv ⟨?_⟩
   refine cD (e8 (o:=4) (b:=UK) (D:=0) (n:=4) (c:=I.ofList [.az, .az, .Z 0, .bC] 0 .nil) (bb Zo) Zo rfl Zd Zd Vr) ?_
   generalize U5:aS X _ UK _=T0
   have UD:W X T0 (.ptr UK 0)=some VQ:=by rw[<-U5,b0,bb Zo];rfl
   have UG:∀a,a<UK->J X T0 a=J X T7 a:=λa f=>by rw[<-U5];exact zA
   clear U5
   have T4:iu X aO p (j+1) (j+1+1) (p+2) Um (hs g).2 T0 (UK+1):=U4.T Zo Zo Zo Zo (λa t z=>UG a t)
   rw[<-UG _ Zo]at Us
   refine cn @UD @VM ⟨?_⟩
   refine cQ (λU8 B E aj=>∃(i:Nat),B.g 3=some (.ptr (j+1+1+1) 0)/\B.g 54=some Uj/\B.g 55=some (.Z (g.eqs.length:Int))/\B.g 56=some (.Z (H:Int))/\B.aA=[⟨.collected p,[]⟩]/\B.g 8=some (.Z (H:Int))/\B.g 62=some VQ/\B.g 63=some (.Z (L.left.length:Int))/\B.g 64=some (.Z (i:Int))/\i+U8=L.left.length
    /\iu X aO p (j+1) (j+1+1) (p+2) ((L.left.zipIdx.take i).foldl (hT H) Um) (hs g).2 E aj/\J X E p=some (.deferred (some [])))
    L.left.length ⟨0,an t3,an U9,an U2,an U3,UA,aK,aK,aK,cA,Zo,T4,Us⟩ ?_
   rintro U8 W4 T3 T6 ⟨i,t3,U9,U2,U3,UA,Ul,Uk,UZ,UL,ak,O,UO⟩
   have WE:=O.le
   cases U8 with
   |zero=>
    have ao:=zv i L.left.length
    refine de @UL @UZ @U3 @ao @VZ ⟨?_⟩
    rw[Zt Zx]at O
    refine⟨m,Zo,H+1,an t3,an U9,an U2,aK,UA,Zo, ?_,UO⟩
    rw[V1]
    exact O
   |succ U8=>
    have ao:=zw i L.left.length
    have Up:=zz i
    obtain⟨w,VO⟩:=zx L.left i
    have Vy:∀a,P a->J X T3 a=J X h a:=λa f=>by have:=UE a f;rw[O.low a Zo Zo Zo,UT a f]
    have VI:=UR.cT i (by simp[dt];omega)
    have VF:=(UR.T Vy).cell i [.str w] 0 (.str w) (by unfold dt;rw[Zw,VO];rfl) rfl
    rw[ZV]at VI
    rw[ZV,ZH]at VF
    have Ug:=mi (hT H) Um (vn VO)
    generalize W9:(L.left.zipIdx.take i).foldl (hT H) Um=C at O Ug
    have UM:W X T3 (.ptr (j+1+1+1) 0)=some (.ptr (j+1+1) 0):=zF (O.low _ Zo Zo Zo) Ub
    obtain⟨VY,WO,W5,U0,U1,Uh,Ui,Y⟩:=O.o8
    have TZ:gs X T3 9 (.agg [.Z 0, .str [], .Z 0, .zF, .zF, .Z 0, .str [], .Z 0, .zF, .Z 0, .Z 0]) (.map (j+1)) (.str w) true=some (.tuple [.agg (hz ((C w).getD kx)), .bool (C w).isSome]):=by
     rw[nA O.map];unfold kv;cases C w<;>rfl
    generalize V3:(C w).getD kx=r at TZ
    have V2:hz r=[.Z r.kind, .str r.d.name, .Z r.d.at_, .bool r.d.ty.b, .bool r.d.ty.s, .Z r.d.ty.w, .str r.d.on, .Z r.d.di, .bool r.d.no, .Z r.eq, .Z r.left]:=rfl
    rw[V2]at TZ
    refine bs @UL @UZ @Uk @t3 @ao @VI (Za @VF (Za @UM (Za (ba U0) (Za @U1 @TZ)))) ⟨?_⟩
    generalize Uy:aS X _ T6 _=T1
    have Uq:J X T1 T6=zy [.Z r.kind, .str r.d.name, .Z r.d.at_, .bool r.d.ty.b, .bool r.d.ty.s, .Z r.d.ty.w, .str r.d.on, .Z r.d.di, .bool r.d.no, .Z r.eq, .Z r.left] 11:=by rw[<-Uy,bb Zo];rfl
    have UH:∀a,a<T6->J X T1 a=J X T3 a:=λa f=>by rw[<-Uy];exact zA
    clear Uy
    have UP:iu X aO p (j+1) (j+1+1) (p+2) C (hs g).2 T1 (T6+1):=O.T Zo Zo Zo Zo (λa t z=>UH a t)
    rw[<-UH _ Zo]at UO
    cases U7:C w with
    |none=>
     have T9:hT H C (w,i)=C:=by unfold hT;simp only[U7]
     simp only[Z4]
     refine cn @UL @Up ⟨?_⟩
     exact⟨U8,Zo,i+1,an t3,an U9,an U2,an U3,UA,an Ul,an Uk,an UZ,aK,Zo,by rw[Ug,T9];exact UP,UO⟩
    |some v=>
     have Vw:v=r:=by rw[U7]at V3;exact V3
     subst Vw
     simp only[Ya]
     by_cases Uf:v.eq<0
     ·have Uo:decide (v.eq<0)=true:=by simp[Uf]
      have T9:hT H C (w,i)=λx=>if x=w then some ⟨v.kind,v.d,H,i⟩else C x:=by unfold hT;simp only[U7,Uf,ZP]
      refine cP (ba Uq) @Uo @Ul @UL ⟨?_⟩
      generalize U6:aS X (aS X T1 T6 _) T6 _=T8
      have Vc:J X T8 T6=zy [.Z v.kind, .str v.d.name, .Z v.d.at_, .bool v.d.ty.b, .bool v.d.ty.s, .Z v.d.ty.w, .str v.d.on, .Z v.d.di, .bool v.d.no, .Z H, .Z i] 11:=by rw[<-U6,bb Zo];rfl
      have T5:∀a,a≠T6->J X T8 a=J X T1 a:=λa f=>by rw[<-U6,aY Zo f,aY Zo f]
      clear U6 Uq
      have Uv:iu X aO p (j+1) (j+1+1) (p+2) C (hs g).2 T8 (T6+1):=⟨UP.le,UP.map.T (T5 _ Zo),by
       obtain⟨c,s,aJ,V5,UV,UW,UX,UY⟩:=O.o8
       exact⟨c,s,aJ,by rw[T5 _ Zo,UH _ Zo];exact V5,UV,UW,UX.T (λa f=>by have:=UY a f;rw[T5 a Zo,UH a Zo]),λa f=>zu (UY a f)⟩,
       λa t z TY=>by rw[T5 a Zo];exact UP.low a t z TY⟩
      have VU:W X T8 (.ptr (j+1+1+1) 0)=some (.ptr (j+1+1) 0):=by rw[b0,T5 _ Zo,UH _ Zo, <-b0];exact UM
      have ef:J X T8 (j+1+1)=some (.cells VY 2 .own):=by rw[T5 _ Zo,UH _ Zo];exact U0
      refine de @t3 @VU (ba ef) @U1 (ba Vc) ⟨?_⟩
      obtain⟨UB,Ue,Vf,UF⟩:=r2 (j:=T6+1+7) (show(u X).aP<=j+1 by omega) Uv.map w (.agg (hz ⟨v.kind,v.d,H,i⟩))
      refine eX Ue ?_
      refine cn @UL @Up ⟨?_⟩
      refine⟨U8,Zo,i+1,an t3,an U9,an U2,an U3,UA,an Ul,an Uk,an UZ,aK,Zo, ?_,by rw[UF _ Zo,T5 _ Zo];exact UO⟩
      rw[Ug,T9]
      refine⟨Zo, ?_, ?_,λa t z TY=>by rw[UF a z];exact Uv.low a t z TY⟩
      ·have:(λx=>if x=w then some (y.agg (hz ⟨v.kind,v.d,H,i⟩))else kv C x)=kv (λx=>if x=w then some ⟨v.kind,v.d,H,i⟩else C x):=by
        funext x;unfold kv;by_cases e:x=w<;>simp[e]
       rw[<-this];exact Vf
      ·obtain⟨c,s,aJ,V5,UV,UW,UX,UY⟩:=Uv.o8
       exact⟨c,s,aJ,by rw[UF _ Zo];exact V5,UV,UW,UX.T (λa f=>by have:=UY a f;exact UF a Zo),λa f=>zu (UY a f)⟩
     ·have Uo:decide (v.eq<0)=false:=by simp[Uf]
      have T9:hT H C (w,i)=C:=by unfold hT;simp only[U7,Uf,ZM]
      refine cP (ba Uq) @Uo @UL @Up ⟨?_⟩
      exact⟨U8,Zo,i+1,an t3,an U9,an U2,an U3,UA,an Ul,an Uk,an UZ,aK,Zo,by rw[Ug,T9];exact UP,UO⟩
end
mutual
def dL:bk->List bk
 | .mk o a nm no t n args=> .mk o a nm no t n args::ez args
def ez:List bk->List bk
 |[]=>[]
 |l::k=>dL l++ez k
end
mutual
def A6{b:Type}(step:b->bk->b×Bool)(e:∀s l,(step s l).2=true):∀(l:bk) (s:b),mS step s l=(dL l).foldl (λs l=>(step s l).1) s
 | .mk o a nm no t n args,s=>by
   rw[mS,Zv (e _ _),dL,ZU]
   exact A7 step e args _
def A7{b:Type}(step:b->bk->b×Bool)(e:∀s l,(step s l).2=true):∀(k:List bk) (s:b),ky step s k=(ez k).foldl (λs l=>(step s l).1) s
 |[],s=>by rw[ky,ez];rfl
 |l::k,s=>by
  rw[ky,ez,YX,A6 step e l s]
  exact A7 step e k _
end
def eN(L:dO):List (aW×Int):=L.left.zipIdx.map λx=>(x.1,(L.bw[x.2]?).getD 0)
def g7(t:aW->Option c8)(s:(aW->Option Int)×(Int×Int))(x:aW×Int):(aW->Option Int)×(Int×Int):=(λw=>if w=x.1 then some ((s.1 x.1).getD 0+1)else s.1 w,oP t s.1 s.2 x.1 x.2)
def e4(t:aW->Option c8)(U:List Go.a8.Node)(o:Nat)(s:(aW->Option Int)×(Int×Int))(L:dO):(aW->Option Int)×(Int×Int):=
 (((eN L).foldl (g7 t) s).1,o1 t U o ((eN L).foldl (g7 t) s).2 L.right)
def f8(F:aW->Option Int)(f:Int×Int)(x:Int×bx):Int×Int:=if x.1≠1/\(F x.2.name).getD 0=0 then fe f 37 x.2.at_ else f
def jE(U:List Go.a8.Node)(o:Nat)(g:Go.a8.Node):Int×Int:=if (el U g.name).getD 0<o then fe (0,0) 24 g.at_ else(0,0)
def hR(U:List Go.a8.Node)(o:Nat)(g:Go.a8.Node):Int×Int:=
 (bi g).foldl (f8 (g.eqs.foldl (e4 (cV g) U o) (λ_=>none,j3 (cV g) g (jE U o g))).1) (g.eqs.foldl (e4 (cV g) U o) (λ_=>none,j3 (cV g) g (jE U o g))).2
def ng(U:List Go.a8.Node):Nat->List Go.a8.Node->Int×Int
 |_,[]=>(0,0)
 |o,g::k=>if (hR U o g).1≠0 then hR U o g else ng U (o+1) k
def mb(U:List Go.a8.Node):Int×Int:=ng U 0 U
def FO(f:Int×Int){c:Int}(a:Int)(b:c≠0):(fe f c a).1≠0:=by
 unfold fe
 split
 ·exact b
 ·rename_i e;exact e
def yT:List aW:=[[97],[98],[99],[120,95,49],[95],[90,57],[119,104,101,110,95],[117,54,53],[97,98,99,100,101,102,103,104,105,106,107,108,109,110,111,112,113,114,115,116,117,118,119,120,121,122,48,49,50,51,52,53],[111,117,116],[97,97],[98,97],[99,97],[120,95,49,97],[95,97],[90,57,97],[119,104,101,110,95,97],[117,54,53,97]]
def d8:List aW:=yT++[[],[53,120],[116,104,101,110],[117,56],[97,98,99,100,101,102,103,104,105,106,107,108,109,110,111,112,113,114,115,116,117,118,119,120,121,122,48,49,50,51,52,53,97]]
def c7(s:aW):Bool:=decide (s∈yT)
def gx:aW:=[111,117,116]
def l4(o:Int):Option Nat:=if o=25 then none else if o=1\/o=2 then some 0 else if o=3\/o=4\/o=5\/o=6\/o=19\/o=20\/o=26 then some 1 else if o=23 then some 3 else some 2
def eI(o:Int):Prop:=o=2\/o=6\/o=24\/o=25
def fE(o:Int):Prop:=o=1\/o=26
def fK(t:eb):Int:=if t.s then t.w-1 else t.w
def kZ(k:List bk):Prop:=∃x r,k=x::r/\(x.kind=1\/x.kind=4/\∃a,x.args=[a]/\a.kind=1)
structure gT(l:bk):Prop where
 bf:1<=l.kind
 bo:l.kind<=26
 w4:∀m,l4 l.kind=some m->l.args.length=m
 gv:∀a∈l.args,a.kind≠ -1
 nm:eI l.kind->c7 l.name=true
 yS:¬eI l.kind->l.name=[]
 no:l.no=true->l.kind=6
 ty:fE l.kind->ey l.ty=true
 cm:¬fE l.kind->l.ty=cm
 aP:¬(l.kind=1\/l.kind=19\/l.kind=20)->l.n=0
 c9:l.kind=19\/l.kind=20->l.n<=63
 yR:l.kind=1->l.n<2^(fK l.ty).toNat
 jo:l.kind=21->kZ l.args
def ge:Nat->bk->Prop
 |0,_=>False
 |d+1,l=>gT l/\∀a∈l.args,ge d a
structure jc(d:bx):Prop where
 nm:c7 d.name=true
 ty:ey d.ty=true
 on:d.on≠[]->c7 d.on=true
 no:d.on=[]->d.no=false
structure jM(L:dO):Prop where
 ne:L.left≠[]
 nm:∀w∈L.left,c7 w=true
 ex:ge 200 L.right
structure hE(g:Go.a8.Node):Prop where
 nm:c7 g.name=true
 out:g.out≠[]
 vars:g.cl.length+g.out.length+g.loc.length<=256
 many:g.eqs.length<=4096
 decl:∀d∈g.cl++(g.out++g.loc),jc d
 eqs:∀L∈g.eqs,jM L
structure hd(U:List Go.a8.Node):Prop where
 ne:U≠[]
 many:U.length<=64
 node:∀g∈U,hE g
mutual
def ge.qk:∀(l:bk) (d:Nat),ge d l->hD l
 | .mk o a nm no t n args,0,e=>e.elim
 | .mk o a nm no t n args,d+1,e=>by
   unfold hD
   have b:=e.1.bf
   exact⟨λl=>by subst l;exact absurd (show(1:Int)<= -1 from b) Zd,ge.yV args d e.2⟩
def ge.yV:∀(k:List bk) (d:Nat),(∀a∈k,ge d a)->jT k
 |[],_,_=>by unfold jT;trivial
 |a::k,d,e=>by
  unfold jT
  exact⟨ge.qk a d (e a (Zl ..)),ge.yV k d λx c=>e x (Zi _ c)⟩
end
structure mY(x:bk):Prop where
 nm:x.name∈d8
 aL:0<=x.n
 aR:x.n<18446744073709551616
def hC(l:bk):Prop:=∀x∈dL l,mY x
def Je{a x:bk}:∀{k:List bk},a∈k->x∈dL a->x∈ez k:=by
 intro k
 induction k with
 |nil=>intro e;cases e
 |cons b k V=>
  intro e c
  rw[ez]
  rcases Zz.1 e with rfl|e
  ·exact Z2 _ c
  ·exact ZQ _ (V e c)
def mL(l:bk):dL l=l::ez l.args:=by cases l;rw[dL];rfl
def hC.root{l:bk}(e:hC l):mY l:=e l (by rw[mL];exact Zl ..)
def hC.arg{l a:bk}(e:hC l)(b:a∈l.args):hC a:=λx c=>e x (by rw[mL];exact Zi _ (Je b c))
structure it(d:bx):Prop where
 nm:d.name∈d8
 on:d.on∈d8
structure vp(g:Go.a8.Node):Prop where
 nm:g.name∈d8
 decl:∀d∈g.cl++(g.out++g.loc),it d
 left:∀L∈g.eqs,∀w∈L.left,w∈d8
 ex:∀L∈g.eqs,hC L.right
def oC{f:Int×Int}(e:f.1≠0)(c a:Int):fe f c a=f:=by unfold fe;rw[Zj e]
def oD{f:Int×Int}(e:f.1=0)(c a:Int):fe f c a=(c,a):=by unfold fe;rw[Zv e]
def nt{α:Type}{st:Int×Int->α->Int×Int}(a:∀f x,f.1≠0->st f x=f):∀(k:List α) (f:Int×Int),f.1≠0->k.foldl st f=f:=by
 intro k
 induction k with
 |nil=>intro f _;rfl
 |cons x k V=>intro f e;rw[ZU,a f x e];exact V f e
def rx{α a:Type}{st:a×(Int×Int)->α->a×(Int×Int)}(c:∀s x,s.2.1≠0->(st s x).2=s.2):∀(k:List α) (s:a×(Int×Int)),s.2.1≠0->(k.foldl st s).2=s.2:=by
 intro k
 induction k with
 |nil=>intro s _;rfl
 |cons x k V=>
  intro s e
  have b:=c s x e
  rw[ZU,V _ (by rw[b];exact e),b]
def xy(s:(aW->Option Int)×(Int×Int))(x:Int×bx)(e:s.2.1≠0):(fL s x).2=s.2:=by
 unfold fL
 simp only[oC e]
 split<;>rfl
def tz(t:aW->Option c8)(f:Int×Int)(x:Int×bx)(e:f.1≠0):g0 t f x=f:=by
 unfold g0
 rw[oC e]
 split<;>rfl
def HA(t:aW->Option c8)(F:aW->Option Int){f:Int×Int}(w:aW)(a:Int)(e:f.1≠0):oP t F f w a=f:=by
 unfold oP
 simp only[oC e]
 split
 ·rfl
 ·split<;>rfl
def yC(t:aW->Option c8)(s:(aW->Option Int)×(Int×Int))(x:aW×Int)(e:s.2.1≠0):(g7 t s x).2=s.2:=HA t s.1 x.1 x.2 e
def JZ(t:aW->Option c8){f:Int×Int}(l:bk)(e:f.1≠0):jH t f l=f:=by
 unfold jH
 rw[oC e]
 split
 ·split<;>rfl
 ·rfl
def J0(U:List Go.a8.Node)(o:Nat){f:Int×Int}(l:bk)(e:f.1≠0):mN U o f l=f:=by
 unfold mN
 simp only[oC e]
 split
 ·split
  ·rfl
  ·split<;>rfl
 ·rfl
def Az(t:aW->Option c8)(U:List Go.a8.Node)(o:Nat)(f:Int×Int)(l:bk)(e:f.1≠0):(g9 t U o f l).1=f:=by
 unfold g9
 rw[JZ t l e,J0 U o l e]
def Aw(t:aW->Option c8)(U:List Go.a8.Node)(o:Nat)(f:Int×Int)(l:bk):o1 t U o f l=(dL l).foldl (λf x=>(g9 t U o f x).1) f:=A6 (g9 t U o) (λ_ _=>rfl) l f
def Ax(t:aW->Option c8)(U:List Go.a8.Node)(o:Nat)(f:Int×Int)(l:bk)(e:f.1≠0):o1 t U o f l=f:=by
 rw[Aw]
 exact nt (λf x e=>Az t U o f x e) _ _ e
def Jp(t:aW->Option c8)(U:List Go.a8.Node)(o:Nat)(s:(aW->Option Int)×(Int×Int))(L:dO)(e:s.2.1≠0):(e4 t U o s L).2=s.2:=by
 have a:=rx (yC t) (eN L) s e
 show o1 t U o ((eN L).foldl (g7 t) s).2 L.right=s.2
 rw[a];exact Ax t U o _ _ e
def sC(F:aW->Option Int)(f:Int×Int)(x:Int×bx)(e:f.1≠0):f8 F f x=f:=by
 unfold f8
 rw[oC e]
 split<;>rfl
def LL(o:Nat)(w:aW):∀(k:List (aW×Nat)) (t:aW->Option c8),(k.foldl (hT o) t w).map c8.kind=(t w).map c8.kind:=by
 intro k
 induction k with
 |nil=>intro t;rfl
 |cons x k V=>
  intro t
  rw[ZU,V]
  cases a:t x.1 with
  |none=>simp only[hT,a]
  |some v=>
   by_cases b:v.eq<0
   ·by_cases e:w=x.1
    ·simp only[hT,a,b,ZP,e,ZJ]
    ·simp only[hT,a,b,ZP,e,ZM]
   ·simp only[hT,a,b,ZM]
def K1(w:aW):∀(k:List (dO×Nat)) (t:aW->Option c8),(k.foldl oZ t w).map c8.kind=(t w).map c8.kind:=by
 intro k
 induction k with
 |nil=>intro t;rfl
 |cons x k V=>
  intro t
  rw[ZU,V]
  exact LL _ _ _ _
def en(k:List (Int×bx))(w:aW):Option Int:=(k.find? λx=>decide (x.2.name=w)).map Prod.fst
def Iz(w:aW):∀(k:List (Int×bx)) (s:(aW->Option c8)×List aW),((k.foldl i2 s).1 w).map c8.kind=match s.1 w with|some v=>some v.kind|none=>en k w:=by
 intro k
 induction k with
 |nil=>intro s;simp only[List.foldl_nil,en,List.find?_nil,YD];cases s.1 w<;>rfl
 |cons x k V=>
  intro s
  rw[ZU,V]
  unfold i2 en
  rw[List.find?_cons]
  by_cases a:(s.1 x.2.name).isSome
  ·rw[Zv a]
   cases b:s.1 w with
   |some v=>rfl
   |none=>
    have:x.2.name≠w:=λl=>by rw[l,b]at a;cases a
    simp[this]
  ·rw[Zj a]
   by_cases b:w=x.2.name
   ·subst b
    cases c:s.1 x.2.name with
    |some v=>rw[c]at a;exact absurd rfl a
    |none=>simp
   ·have d:¬x.2.name=w:=λl=>b l.symm
    simp only[b,ZM]
    cases s.1 w with
    |some v=>rfl
    |none=>simp[d]
def ve(g:Go.a8.Node)(w:aW):(cV g w).map c8.kind=en (bi g) w:=by
 unfold cV
 rw[K1]
 unfold hs
 rw[Iz]
def AW{g:Go.a8.Node}{w:aW}:cV g w=none↔en (bi g) w=none:=by
 rw[<-ve];cases cV g w<;>simp
def sW(g:Go.a8.Node):Prop:=∃d∈g.out,∀L∈g.eqs,d.name∉L.left
def HS(t:aW->Option c8)(w:aW):∀(k:List (aW×Int)) (s:(aW->Option Int)×(Int×Int)),s.1 w=none->w∉k.map Prod.fst->(k.foldl (g7 t) s).1 w=none:=by
 intro k
 induction k with
 |nil=>intro s e _;exact e
 |cons x k V=>
  intro s e a
  rw[ZU]
  have b:w≠x.1:=λl=>a (by rw[l];exact Zl ..)
  refine V _ ?_ (λc=>a (Zi _ c))
  simp only[g7,b,ZM];exact e
def HE(L:dO):(eN L).map Prod.fst=L.left:=by
 unfold eN
 rw[YH]
 exact List.zipIdx_map_fst 0 L.left
def Jo(t:aW->Option c8)(U:List Go.a8.Node)(o:Nat)(w:aW):∀(k:List dO) (s:(aW->Option Int)×(Int×Int)),s.1 w=none->(∀L∈k,w∉L.left)->(k.foldl (e4 t U o) s).1 w=none:=by
 intro k
 induction k with
 |nil=>intro s e _;exact e
 |cons x k V=>
  intro s e a
  rw[ZU]
  refine V _ ?_ (λL b=>a L (Zi _ b))
  exact HS t w _ s e (by rw[HE];exact a x (Zl ..))
def Iw{U:List Go.a8.Node}{o:Nat}{g:Go.a8.Node}(e:sW g):(hR U o g).1≠0:=by
 obtain⟨d,m,p⟩:=e
 unfold hR
 generalize r:((λ_=>none,j3 (cV g) g (jE U o g)):(aW->Option Int)×(Int×Int))=a
 have i:a.1 d.name=none:=by rw[<-r]
 have c:=Jo (cV g) U o d.name g.eqs a i p
 have n:((2,d):Int×bx)∈bi g:=by
  unfold bi
  exact ZQ _ (Z2 _ (ZB.2 ⟨d,m,rfl⟩))
 generalize (g.eqs.foldl (e4 (cV g) U o) a).1=F at c
 generalize (g.eqs.foldl (e4 (cV g) U o) a).2=f
 obtain⟨s,t,au⟩:=List.append_of_mem n
 rw[au,YX,ZU]
 have b:(f8 F (s.foldl (f8 F) f) (2,d)).1≠0:=by
  unfold f8
  rw[Zv ⟨show(2:Int)≠1 by decide,by rw[c];rfl⟩]
  exact FO _ _ Zd
 rw[nt (sC F) _ _ b]
 exact b
def EI{U:List Go.a8.Node}(b:U≠[])(e:∀g∈U,sW g):(mb U).1≠0:=by
 cases U with
 |nil=>exact absurd rfl b
 |cons g k=>
  have a:=Iw (U:=g::k) (o:=0) (e g (Zl ..))
  unfold mb ng
  rw[Zv a];exact a
end
end Go.Proofs.YtmipngjbcdamjaaGreatDoor

namespace Go.S
noncomputable section
open Go.RowKit (Below)
def vs(k:List y):Prop:=∀v∈k,(∀A a,ai A v=ai a v)/\∀F,bd F v
def n6(w:World)(v:Value)(ap:Nat)(k:List y):Prop:=
 (v= .slice none 0 0/\k=[])\/∃bc off len cap a7 ty fr,v= .slice (some ⟨bc,off,none⟩) len cap/\len<=cap/\k.length=len*ap/\vs k/\
  (0<k.length->w.heap[bc]? =some (.cells a7 ty fr)/\off+k.length<=a7.size/\∀i x,k[i]? =some x->a7[off+i]? =some (ai (λ_=>default) x))
def Bj(C:aC)(a:y)(b ap:Nat)(k:List y):Prop:=
 (a= .az/\k=[])\/∃len cap,a= .slice b 0 len cap/\len<=cap/\k.length=len*ap/\(0<k.length->J C .nil b=some (.cells (I.ofList k 0 .nil) k.length .eC))
def km(k:List y)(G:I ae)(b:Nat):I ae:=if 0<k.length then G.set b (some (.cells (I.ofList k 0 .nil) k.length .eC))else G
def n6.pl{w:World}{v:Value}{ap:Nat}{k:List y}(e:n6 w v ap k)(b:Nat):∃(a:y) (pl:fU),(∀A:bE,A b=pl->ai A a=v)/\(∀F:Nat->Prop,F b->bd F a)/\
 ((a= .az/\k=[])\/∃len cap,a= .slice b 0 len cap/\len<=cap/\k.length=len*ap)/\(0<k.length->∀C A F,eF C A F (.cells (I.ofList k 0 .nil) k.length .eC) pl w):=by
 rcases e with ⟨rfl,rfl⟩|⟨bc,off,len,cap,a7,ty,fr,rfl,g,m,n,p⟩
 ·exact⟨.az,default,λ_ _=>rfl,λ_ _=>trivial, .inl ⟨rfl,rfl⟩,λe=>by simp at e⟩
 ·refine⟨.slice b 0 len cap,⟨bc,off,k.length⟩,λA r=>by simp[ai,r],λF d=>d, .inr ⟨len,cap,rfl,g,m⟩,λe C A F=> ?_⟩
  obtain⟨bf,bo,s⟩:=p e
  obtain⟨aF,ak⟩:=fr
  refine⟨a7,ty,aF,ak,bf,⟨trivial,Zp _,bo⟩,bo,λi x c=> ?_⟩
  rw[fG]at c
  have f:=n x (Zg c)
  exact⟨by rw[f.1 A (λ_=>default)];exact s i x c,f.2 F⟩
section
variable{P:Program}{w:World}
def Hq{nm:List (String×Nat)}(T2:lW P nm){laid:List (String×DataW Unit)}{dy:Nat->List y->Option y}(e:laidMet P laid w){aP:Nat}{os:List (Nat×ae)}(au:dr P nm laid P.globals.size=(aP,os)){v0:Value}{O:Nat}{m:List y}(Z:n6 w v0 O m):
 ∃A F a0,bD ⟨P,km m (gc os .nil) aP,aP+1,dy,P.globals.size⟩ A F .nil (aP+1) w.heap.size w/\is ⟨P,km m (gc os .nil) aP,aP+1,dy,P.globals.size⟩ A F/\cd F [a0]/\aU A [a0]=[v0]/\
  Bj ⟨P,km m (gc os .nil) aP,aP+1,dy,P.globals.size⟩ a0 aP O m:=by
 obtain⟨a0,t,X,Y,t0,fu⟩:=Z.pl aP
 obtain⟨bH,T0,_,G⟩:=e
 have T3:ir w bH:=λb off ab=>(G b off ab).1
 obtain⟨aH,aZ,f,a3⟩:=yo (C:=⟨P,km m (gc os .nil) aP,aP+1,dy,P.globals.size⟩) T2 laid P.globals.size bH rfl T0 T3 (λb off ab=>(G b off ab).2)
 rw[au]at aH aZ a3
 simp only at aH aZ a3
 have s:∀b D,J ⟨P,km m (gc os .nil) aP,aP+1,dy,P.globals.size⟩ .nil b=some D->((b,D)∈os/\b<aP)\/(b=aP/\0<m.length/\D= .cells (I.ofList m 0 .nil) m.length .eC):=by
  intro b D a
  unfold J at a
  rw[cN]at a
  split at a
  ·rename_i ab
   have ab:=e0 ab
   unfold km at a
   split at a
   ·rename_i r
    rw[I.gn]at a
    split at a
    ·rename_i l;cases a;exact .inr ⟨l.symm▸rfl,r,rfl⟩
    ·rcases u4 b D os .nil a with L|L
     ·exact .inl ⟨L,by have x:b<P.globals.size\/b<aP:=(aZ (b,D) L).2.1;have:P.globals.size<=aP:=aH;omega⟩
     ·simp at L
   ·rcases u4 b D os .nil a with L|L
    ·exact .inl ⟨L,by have x:b<P.globals.size\/b<aP:=(aZ (b,D) L).2.1;have:P.globals.size<=aP:=aH;omega⟩
    ·simp at L
  ·simp at a
 refine⟨λb=>if b<P.globals.size then⟨b,0,0⟩else if b=aP then t else f b,λb=>b<aP+1,a0,⟨Zp _,λ_ e=>e,λb D a=> ?_, ?_, ?_, ?_, ?_⟩, ?_, ?_, ?_, ?_⟩
 ·rcases s b D a with e|e
  ·omega
  ·omega
 ·intro b D a _
  rcases s b D a with e|⟨rfl,r,rfl⟩
  ·exact a3 (λb=>if b<P.globals.size then⟨b,0,0⟩else if b=aP then t else f b) (λb=>b<aP+1) (λb T7 T8=>⟨by rw[Zj Zo,Zj Zo],Zo⟩) (λg p=>⟨by rw[Zv p],by have:P.globals.size<=aP:=aH;omega⟩) (b,D) e.1
  ·show eF _ _ _ _ (if b<P.globals.size then(⟨b,0,0⟩:fU)else if b=b then t else f b) w
   rw[Zj (by have:P.globals.size<=b:=aH;omega),Zv rfl]
   exact fu r _ _ _
 ·intro b T6 D o' _ _ d _ _ ab
  exact absurd d (zn.2 ab)
 ·intro b D ab _ d
  exact absurd d (zn.2 ab)
 ·intro b D a _
  rcases s b D a with e|⟨rfl,r,rfl⟩
  ·exact(aZ (b,D) e.1).2.2 _ _
  ·refine⟨λc n k au=>(by cases au),λc n st T1 i v z=> ?_⟩
   cases T1
   rw[fG]at z
   exact(Zf.1 z).1
 ·intro g p
  have p:g<P.globals.size:=p
  exact⟨Zo,by simp[p],by simp[p]⟩
 ·exact⟨Y _ Zo,trivial⟩
 ·simp only[aU]
  rw[X _ (by rw[Zj Zo,Zv rfl])]
 ·rcases t0 with e|⟨len,cap,T4,x,T5⟩
  ·exact .inl e
  ·refine .inr ⟨len,cap,T4,x,T5,λe=> ?_⟩
   unfold J km
   have:Nat.blt aP (aP+1)=true:=by simp[Nat.blt]
   rw[this,cS,Zv e,I.gn,Zv rfl]
end
end
end Go.S

namespace Go.Proofs.YtmipngjbcdamjaaGreatDoor
open Go.S Go.a8
noncomputable section
def nm:List (String×Nat):=[((Tryz.prog.typeName? 3 269).getD "",269)]
def ac:Nat×List (Nat×ae):=dr Tryz.prog nm Rows.initialMadeRow.laid Tryz.prog.globals.size
def rX:ac.1=22:=Zk
def dH:I ae:=gc ac.2 .nil
def GC:dH.get 1=zy [.map 15] 1:=Zk
end
open Go.S
noncomputable section
def fu:Nat->List y->Option y:=qm 173 (oY 175)
def nf:aC:=⟨Tryz.prog,dH,22,fu,Tryz.prog.globals.size⟩
def iN:List (Nat×List y×y):=[(37,[.str [49,117,56,32,45,62,32,112,114,101,32,120]], .agg [.int .i64 0, .int .i64 0]),(37,[.str [40,112,114,101,32,120,41,32,45,62,32,120]], .agg [.int .i64 28, .int .i64 0]),(37,[.str [97,32,43,32,112,114,101,32,120]], .agg [.int .i64 28, .int .i64 0]),(37,[.str [97,32,45,62,32,112,114,101,32,40,98,32,45,62,32,112,114,101,32,120,41]], .agg [.int .i64 0, .int .i64 0]),(37,[.str [97,32,45,62,32,112,114,101,32,112,114,101,32,98]], .agg [.int .i64 28, .int .i64 7]),(37,[.str [97,32,45,62,32,109,101,114,103,101,32,99,32,40,40,112,114,101,32,98,41,32,119,104,101,110,32,99,41,32,40,98,32,119,104,101,110,32,110,111,116,32,99,41]], .agg [.int .i64 28, .int .i64 24]),(37,[.str [97,32,45,62,32,103,40,112,114,101,32,98,41]], .agg [.int .i64 28, .int .i64 7])]
def eP:Nat->List y->Option y:=uJ [37] fu iN
def ou:aC:=⟨Tryz.prog,dH,22,eP,Tryz.prog.globals.size⟩
end
end Go.Proofs.YtmipngjbcdamjaaGreatDoor

