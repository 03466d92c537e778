/- A part of the proof of the claim's last text: what it is used for is said there; no condition of its own. -/
import Derived.Test.YtpfajohmofnkfaaGreatDoorYs
set_option maxHeartbeats 8000000
set_option linter.unusedVariables false
set_option linter.unusedSimpArgs false
namespace Go.Proofs.YtpfajohmofnkfaaGreatDoor
open Go.al Go.bh
noncomputable section
def Ja(X:cD)(f:H)(p:Nat->Bool):Prop:=∃B,f= .func (.func B) [] []/\∀(h:U an) (k c:Nat),a6 X B [.int .u8 (c:Int)] h k (λad V av=>ad= .bool (p c)/\V=h/\av=k) (λ_ _ _=>False)
theorem arA{X:cD}(aA:d7 X):Ja X (.func (.func 112) [] []) ij:=⟨_,rfl,λh k c=>NR aA c⟩
theorem abT{X:cD}(aA:d7 X):Ja X (.func (.func 168) [] []) iy:=⟨_,rfl,λh k c=>apw aA c⟩
theorem arB{X:cD}(aA:d7 X):Ja X (.func (.func 166) [] []) (λc=>decide (c≠10)):=⟨_,rfl,λh k c=>apO aA c⟩
structure mj(X:cD)(h:U an)(fQ:Nat)(s:a1)(i:Nat):Prop where
 g:ab X h fQ=some (.cells (U.ofList [.str s, .int .i64 (i:Int)] 0 .nil) 2 .own)
 le:i<=s.length
 many:s.length<=65536
 fK:(y X).bj<=fQ
theorem mj.d1{X:cD}{h:U an}{fQ:Nat}{s:a1}{i:Nat}(a:mj X h fQ s i):ao X h (.ptr fQ 0)=some (.str s):=by rw[bW a.g];rfl
theorem mj.dD{X:cD}{h:U an}{fQ:Nat}{s:a1}{i:Nat}(a:mj X h fQ s i):ao X h (.ptr fQ 1)=some (.int .i64 (i:Int)):=by rw[bW a.g];rfl
theorem mj.af{X:cD}{h V:U an}{fQ:Nat}{s:a1}{i:Nat}(a:mj X h fQ s i)(B:ab X V fQ=ab X h fQ):mj X V fQ s i:=⟨by rw[B];exact a.g,a.le,a.many,a.fK⟩
section
variable{X:cD}{h V bb aV:U an}{k av aQ bp fQ:Nat}{s:a1}{i:Nat}
theorem Mk(aA:d7 X){f:H}{p:Nat->Bool}(b5:Ja X f p)(S:mj X h fQ s i){I:Nat}(aG:I<=s.length):
 a6 X 165 [.ptr fQ 0, .int .i64 (I:Int),f] h k (λad V av=>ad= .str ((s.drop I).takeWhile p)/\V=h/\av=k) (λ_ _ _=>False):=by
 refine dj (adT X) (aA.none _ _ rfl) ?_
 rw[adU]
 unfold SS
 obtain⟨B,rfl,b5⟩:=b5
 have bi:=S.many
 have d1:=S.d1
 refine c0 ⟨?_⟩
 refine f8 (λm J V aY=>∃(E:Nat),J.g 0=some (.ptr fQ 0)/\J.g 1=some (.int .i64 (I:Int))/\J.g 2=some (.func (.func B) [] [])/\J.g 7=some (.int .i64 (E:Int))/\I<=E/\E+m=s.length/\V=h/\aY=k/\(s.drop I).takeWhile p=(s.drop I).take (E-I)++(s.drop E).takeWhile p)
  (s.length-I) ⟨I,bv,bv,bv,bv,Zj _,Zo,rfl,rfl,Zs⟩ ?_
 rintro m J aV bp ⟨E,t0,t1,eX,hY,ak8,aut,rfl,rfl,bL⟩
 have bF:aL .add (.int .i64 (E:Int)) (.int .i64 1)=some (.int .i64 ((E+1:Nat):Int)):=by rw[eQ Zo Zo];rfl
 have bx:jQ (.str s) (some (.int .i64 (I:Int))) (some (.int .i64 (E:Int)))=some (.str ((s.drop I).take (E-I))):=RA .i64 .i64 ak8 Zo
 cases m with
 |zero=>
  have d:decide ((E:Int)<(s.length:Int))=false:=by simp;omega
  rw[Z1 (by omega:s.length<=E),List.takeWhile_nil,YC]at bL
  refine e0 @hY @t0 @t1 @eX @d1 @d @bx ⟨?_⟩
  exact⟨by rw[bL],rfl,rfl⟩
 |succ m=>
  have d:decide ((E:Int)<(s.length:Int))=true:=by simp;omega
  obtain⟨c,ay⟩:∃c,s[E]? =some c:=⟨_,Zf Zo⟩
  have aI:s.drop E=c::s.drop (E+1):=by
   obtain⟨ag,T⟩:=Zc.1 ay
   rw[ZA ag,T]
  have eG:=Al .i64 ay
  refine e0 @hY @t0 @t1 @eX @d1 @d @eG ⟨?_⟩
  refine(b5 aV bp c).Zm ?_
  rintro ad bo bw ⟨rfl,rfl,rfl⟩
  rw[aI,YB]at bL
  cases ax:p c with
  |false=>
   rw[ax]at bL
   simp only[Zt,Zx,YC]at bL
   refine gd @hY @t0 @t1 @d1 @bx ⟨?_⟩
   exact⟨by rw[bL],rfl,rfl⟩
  |true=>
   rw[ax]at bL
   simp only[ZB]at bL
   refine dc @hY @bF ⟨?_⟩
   refine⟨m,Zo,E+1,bn t0,bn t1,bn eX,bv,Zo,Zo,rfl,rfl, ?_⟩
   rw[bL,show E+1-I=(E-I)+1 by omega,zb]
   have:(s.drop I)[E-I]? =some c:=by rw[YF,show I+(E-I)=E by omega];exact ay
   rw[this]
   simp
end
end
end Go.Proofs.YtpfajohmofnkfaaGreatDoor

namespace Go.Proofs.YtpfajohmofnkfaaGreatDoor
open Go.al Go.bh
noncomputable section
def HU(c:Nat):Bool:=decide (c=32)||decide (c=9)||decide (c=10)||decide (c=13)
structure iD(X:cD):Prop extends d7 X where
 idx:∀c:Nat,c<256->∃bl:Int,X.O 223 [.str [32,9,10,13], .int .u8 (c:Int)]=some (.int .i64 bl)/\(0<=bl↔HU c=true)
 clone:∀s:a1,(∀c∈s,c<256)->s.length<=65536->X.O 240 [.str s]=some (.str s)
def nh(s:a1):Nat->Nat->Nat
 |0,i=>i
 |n+1,i=>match s[i]? with
  |none=>i
  |some c=>if HU c then nh s n (i+1)
   else if 2<=(s.drop i).length/\(s.drop i).take 2=[45,45]then nh s n (i+((s.drop i).takeWhile λc=>decide (c≠10)).length)else i
theorem C4{α:Type}(p:α->Bool):∀l:List α,(l.takeWhile p).length<=l.length:=by
 intro l
 induction l with
 |nil=>simp
 |cons I l ah=>rw[YB];split<;>simp<;>omega
section
variable{X:cD}{h V bb aV:U an}{k av aQ bp fQ:Nat}{s:a1}{i:Nat}
theorem anS(aA:iD X){c:Nat}(ay:c<256):a6 X 163 [.str [32,9,10,13], .int .u8 (c:Int)] h k (λad V av=>(∃bl:Int,ad= .int .i64 bl/\(0<=bl↔HU c=true))/\V=h/\av=k) (λ_ _ _=>False):=by
 refine dj (adP X) (aA.none _ _ rfl) ?_
 rw[adQ]
 unfold SQ
 refine dj (aeH X) (aA.none _ _ rfl) ?_
 rw[aeI]
 unfold Tn
 obtain⟨bl,M,R⟩:=aA.idx c ay
 exact Gc M ⟨⟨bl,rfl,R⟩,rfl,rfl⟩
theorem UI(aA:iD X)(S:mj X h fQ s i)(ai:∀c∈s,c<256)(aS:(y X).bj<=k)(HC:fQ<k):
 a6 X 110 [.ptr fQ 0] h k (λad V av=>mj X V fQ s (nh s s.length i)/\cu X [fQ] h k V av) (λ_ _ _=>False):=by
 refine dj (ac2 X) (aA.none _ _ rfl) ?_
 rw[ac3]
 unfold Ss
 have bi:=S.many
 have hL:=S.fK
 refine c0 ⟨?_⟩
 refine f8 (λm J V aY=>∃(aa:Nat),J.g 0=some (.ptr fQ 0)/\mj X V fQ s aa/\s.length<=aa+m/\nh s s.length i=nh s m aa/\cu X [fQ] h k V aY)
  s.length ⟨i,bv,S,Zo,rfl,cu.refl _ _ _⟩ ?_
 rintro m J aV bp ⟨aa,t0,ha,auB,bK,dl⟩
 have gZ:=dl.le
 have d1:=ha.d1
 have dD:=ha.dD
 have rA:=ha.le
 have b3:=ha.g
 by_cases BV:aa=s.length
 ·subst BV
  have cj:nh s m s.length=s.length:=by cases m<;>simp[nh]
  have d:decide ((s.length:Int)<(s.length:Int))=false:=by simp
  refine hk @t0 @d1 @dD @d ⟨?_⟩
  exact⟨by rw[bK,cj];exact ha,dl.trans ⟨Zo,λ_ _ _=>rfl⟩⟩
 have d:decide ((aa:Int)<(s.length:Int))=true:=by simp;omega
 obtain⟨c,ay⟩:∃c,s[aa]? =some c:=⟨_,Zf Zo⟩
 obtain⟨m,rfl⟩:∃fY,m=fY+1:=⟨m-1,Zo⟩
 rw[nh,ay]at bK
 simp only[]at bK
 have eG:=Al .i64 ay
 have KC:=ai c (Zp ay)
 refine gd @t0 @d1 @dD @d @eG ⟨?_⟩
 refine(anS aA KC).Zm ?_
 rintro ad bo bw ⟨⟨bl,rfl,cj⟩,rfl,rfl⟩
 cases ih:HU c with
 |true=>
  have kV:=cj.2 ih
  have cG:decide ((0:Int)<=bl)=true:=by simp;omega
  have bF:aL .add (.int .i64 (aa:Int)) (.int .i64 1)=some (.int .i64 ((aa+1:Nat):Int)):=by rw[eQ Zo Zo];rfl
  rw[ih]at bK
  simp only[ZB]at bK
  refine hk @t0 @dD @cG @bF ⟨?_⟩
  refine⟨m,Zo,aa+1,bn t0,⟨by rw[bq Zo];rfl,Zo,bi,hL⟩,Zo,bK,dl.trans ⟨Zo,λb ai bO=>by simp only[Zl,ZJ,Y0,Yt,ZG,Z8]at bO;simp(disch:=omega) only[aK]⟩⟩
 |false=>
  have cG:decide ((0:Int)<=bl)=false:=by simp;have:=mt cj.1 (by rw[ih];decide);omega
  have bF:jQ (.str s) (some (.int .i64 (aa:Int))) none=some (.str (s.drop aa)):=Mq .i64 rA
  rw[ih]at bK
  simp only[Zt,Zx]at bK
  refine gd @t0 @d1 @dD @cG @bF ⟨?_⟩
  refine(abz aA.tod7 (s.drop aa) [45,45]).Zm ?_
  rintro ad bX dd ⟨rfl,rfl,rfl⟩
  by_cases ax:2<=(s.drop aa).length/\(s.drop aa).take 2=[45,45]
  ·rw[Zr ax]at bK
   have eL:decide ([45,45].length<=(s.drop aa).length/\List.take [45,45].length (s.drop aa)=[45,45])=true:=decide_eq_true ax
   have aE:=C4 (λc=>decide (c≠10)) (s.drop aa)
   rw[Yx]at aE
   generalize bL:((s.drop aa).takeWhile λc=>decide (c≠10)).length=w at bK aE
   have nw:1<=w:=by
    have akx:c=45:=by
     have:=ax.2
     have aI:s.drop aa=c::s.drop (aa+1):=by
      obtain⟨ag,T⟩:=Zc.1 ay
      rw[ZA ag,T]
     rw[aI]at this
     simp at this
     exact this.1
    have aI:s.drop aa=c::s.drop (aa+1):=by
     obtain⟨ag,T⟩:=Zc.1 ay
     rw[ZA ag,T]
    rw[aI,akx,YB]at bL
    simp at bL
    omega
   have cB:aL .add (.int .i64 (aa:Int)) (.int .i64 (w:Int))=some (.int .i64 ((aa+w:Nat):Int)):=by rw[eQ Zo Zo];rfl
   simp only[eL]
   refine e8 @t0 @d1 @dD ⟨?_⟩
   refine(Mk aA.tod7 (arB aA.tod7) ha rA).Zm ?_
   rintro ad b4 cA ⟨rfl,rfl,rfl⟩
   have fh:lp (.str ((s.drop aa).takeWhile λc=>decide (c≠10)))=some (.int .i64 (w:Int)):=by rw[rL,bL]
   refine e8 @fh @cB @dD ⟨?_⟩
   refine jH (by simp[H.same]) ?_
   refine c0 ⟨?_⟩
   refine⟨m,Zo,aa+w,bn t0,⟨by rw[bq Zo];rfl,Zo,bi,hL⟩,Zo,bK,dl.trans ⟨Zo,λb ai bO=>by simp only[Zl,ZJ,Y0,Yt,ZG,Z8]at bO;simp(disch:=omega) only[aK]⟩⟩
  ·rw[Zg ax]at bK
   have eL:decide ([45,45].length<=(s.drop aa).length/\List.take [45,45].length (s.drop aa)=[45,45])=false:=decide_eq_false ax
   simp only[eL]
   refine c0 ⟨?_⟩
   exact⟨by rw[bK];exact ha,dl.trans ⟨Zo,λ_ _ _=>rfl⟩⟩
end
end
end Go.Proofs.YtpfajohmofnkfaaGreatDoor

namespace Go.Proofs.YtpfajohmofnkfaaGreatDoor
open Go.al Go.bh
noncomputable section
def rW:a1->Nat->Nat×Nat
 |[],n=>(n,0)
 |c::l,n=>if ij c then(if 1844674407370955162<=n then(18446744073709551615,1)else if 18446744073709551616<=n*10+(c-48)then(18446744073709551615,1)else rW l (n*10+(c-48)))
  else(0,2)
def ka(s:a1):Nat×Nat:=if s=[]then(0,2)else rW s 0
def vx:Nat->H
 |0=> .nilIface
 |n+1=> .iface 281 (.int .i64 ((n+1:Nat):Int))
theorem UQ{C:aX}{h:U an}{k:Nat}{s:a1}{aj:bY}(a:s.length<=1048576)(B:aj (.e5 k 0 s.length 1) (bm C h k (some (.cells (U.ofList (s.map λn:Nat=>H.int .u8 (n:Int)) 0 .nil) s.length (.grow [])))) (k+1)):gn (Mn C h k (.str s)) h k aj:=by
 refine kI (v:= .e5 k 0 s.length 1) (V:=bm C h k (some (.cells (U.ofList (s.map λn:Nat=>H.int .u8 (n:Int)) 0 .nil) s.length (.grow [])))) (av:=k+1) ?_ B
 simp[Mn,sA,ml a,lq]
theorem acK{x:Int}(M:0<=x)(R:x<18446744073709551616):ox .u64 x=x:=by
 simp only[ox];exact YW M R
theorem anM{x j:Nat}(a:x+j<18446744073709551616):aL .add (.int .u64 (x:Int)) (.int .u64 (j:Int))=some (.int .u64 ((x+j:Nat):Int)):=by
 rw[ν];congr 2;rw[YW Zo Zo];rfl
theorem anN{x j:Nat}(a:x*j<18446744073709551616):aL .mul (.int .u64 (x:Int)) (.int .u64 (j:Int))=some (.int .u64 ((x*j:Nat):Int)):=by
 have:(x:Int)*(j:Int)=((x*j:Nat):Int):=by simp
 simp only[aL,ln,lE,k6,iF,eB,kE,this]
 rw[acK Zo Zo,DG]
theorem ο{x j:Nat}(a:j<=x)(R:x<256):aL .sub (.int .u8 (x:Int)) (.int .u8 (j:Int))=some (.int .u8 ((x-j:Nat):Int)):=by
 have:(x:Int) -(j:Int)=((x-j:Nat):Int):=Zo
 have w:ox .u8 ((x-j:Nat):Int)=((x-j:Nat):Int):=by simp only[ox];exact YW Zo Zo
 simp only[aL,ln,lE,k6,iF,eB,kE,this,w,DG]
theorem anL{x j:Nat}(R:x+j<256):aL .add (.int .u8 (x:Int)) (.int .u8 (j:Int))=some (.int .u8 ((x+j:Nat):Int)):=by
 have:(x:Int)+(j:Int)=((x+j:Nat):Int):=Zo
 have w:ox .u8 ((x+j:Nat):Int)=((x+j:Nat):Int):=by simp only[ox];exact YW Zo Zo
 simp only[aL,ln,lE,k6,iF,eB,kE,this,w,DG]
section
variable{X:cD}{h V bb aV:U an}{k av aQ bp fQ:Nat}{s:a1}{i:Nat}
theorem acr(aA:iD X)(aH:s.length<=65536)(ai:∀c∈s,c<256)(aS:(y X).bj<=k){b:Int}(alc:b=0\/b=64):
 a6 X 201 [.str s, .int .i64 10, .int .i64 b] h k (λad V av=>ad= .tuple [.int .u64 ((ka s).1:Int),vx (ka s).2]/\bB X h k V av) (λ_ _ _=>False):=by
 refine dj (aeN X) (aA.none _ _ rfl) ?_
 rw[aeO]
 unfold Tq
 by_cases ci:s=[]
 ·subst ci
  have d:decide (([]:List Nat)=[])=true:=rfl
  refine cx @d ⟨?_⟩
  exact⟨rfl,dR⟩
 have d:decide (s=[])=false:=by simp[ci]
 have aB:decide ((2:Int)<=10)=true:=rfl
 have Gi:decide ((10:Int)<=36)=true:=rfl
 have ahQ:decide ((10:Int)=10)=true:=rfl
 have dJ:aL .shl (.int .u64 1) (.int .u64 64)=some (.int .u64 0):=by rfl
 have arR:aL .sub (.int .u64 0) (.int .u64 1)=some (.int .u64 18446744073709551615):=by rfl
 have U2:lQ .u64 (.int .i64 64)=some (.int .u64 64):=by rfl
 have ahO:(64:Int)%18446744073709551616=64:=rfl
 have U3:(10:Int)%18446744073709551616=10:=rfl
 have oN:decide ((10:Int)=0)=false:=rfl
 have amG:ka s=rW s 0:=by simp[ka,ci]
 rw[amG]
 rcases alc with rfl|rfl
 all_goals
  have cQ:decide ((0:Int)=0)=true:=rfl
  have cG:decide ((64:Int)=0)=false:=rfl
  have eL:decide ((64:Int)<0)=false:=rfl
  have ic:decide ((64:Int)<64)=false:=rfl
  refine e0 @d @aB @Gi @ahQ @oN @cQ (Za @cG (Za @eL (Za @ic (Za @dJ (Za @arR (Za @U2 @ahO)))))) ⟨?_⟩
  refine UQ Zo ?_
  have Ol:ab X (bm X h k (some (.cells (U.ofList (s.map λn:Nat=>H.int .u8 (n:Int)) 0 .nil) s.length (.grow [])))) k=some (.cells (U.ofList (s.map λn:Nat=>H.int .u8 (n:Int)) 0 .nil) s.length (.grow [])):=bq aS
  have OL:bB X h k (bm X h k (some (.cells (U.ofList (s.map λn:Nat=>H.int .u8 (n:Int)) 0 .nil) s.length (.grow [])))) (k+1):=dR
  generalize bm X h k (some (.cells (U.ofList (s.map λn:Nat=>H.int .u8 (n:Int)) 0 .nil) s.length (.grow [])))=tm at*
  refine c0 ⟨?_⟩
  refine f8 (λm J V aY=>∃(aa n:Nat),J.g 99=some (.e5 k 0 s.length 1)/\J.g 100=some (.int .i64 (s.length:Int))/\J.g 101=some (.int .i64 (aa:Int))/\J.g 13=some (.int .u64 (n:Int))/\J.g 10=some (.int .u64 1844674407370955162)/\J.g 11=some (.int .u64 18446744073709551615)/\J.g 12=some (.bool false)/\J.g 8=some (.bool false)/\J.g 1=some (.int .i64 10)/\aa+m=s.length/\n<18446744073709551616/\V=tm/\k+1<=aY/\rW s 0=rW (s.drop aa) n)
   s.length ⟨0,0,bv,bv,gL,gL,bv,bv,bv,bv,bv,Zo,Zo,rfl,Zo,rfl⟩ ?_
  rintro m J aV bp ⟨aa,n,IL,Fr,IJ,lv,pc,ta,AT,iA,t1,bK,au7,rfl,ns,ax⟩
  have ct:bB X h k aV bp:=⟨Zo,OL.af⟩
  cases m with
  |zero=>
   have fM:decide ((aa:Int)<(s.length:Int))=false:=by simp;omega
   rw[Z1 (by omega:s.length<=aa),rW]at ax
   rw[ax]
   refine gd @IJ @Fr @AT @lv @fM ⟨?_⟩
   exact⟨rfl,ct⟩
  |succ m=>
   have fM:decide ((aa:Int)<(s.length:Int))=true:=by simp;omega
   have bF:aL .add (.int .i64 (aa:Int)) (.int .i64 1)=some (.int .i64 ((aa+1:Nat):Int)):=by rw[eQ Zo Zo];rfl
   obtain⟨c,ay⟩:∃c,s[aa]? =some c:=⟨_,Zf Zo⟩
   have aI:s.drop aa=c::s.drop (aa+1):=by
    obtain⟨ag,T⟩:=Zc.1 ay
    rw[ZA ag,T]
   have KC:=ai c (Zp ay)
   have eG:fp 1 (.e5 k 0 s.length 1) (.int .i64 (aa:Int))=some (.ptr k aa):=by rw[Ls _ Zo];simp
   have xq:ao X aV (.ptr k aa)=some (.int .u8 (c:Int)):=by rw[bW Ol,kk];simp[ay]
   rw[aI,rW]at ax
   rw[ax]
   have avG:decide ((c:Int)=95)=decide (c=95):=by simp;omega
   have Ap:lQ .u8 (.int .i64 10)=some (.int .u8 10):=rfl
   by_cases oV:ij c=true
   ·have O8:48<=c/\c<=57:=by simpa[ij]using oV
    rw[Zr oV]
    have v8:decide ((c:Int)=95)=false:=by simp;omega
    have bN:decide ((48:Int)<=(c:Int))=true:=by simp;omega
    have cg:decide ((c:Int)<=57)=true:=by simp;omega
    have cH:aL .sub (.int .u8 (c:Int)) (.int .u8 48)=some (.int .u8 ((c-48:Nat):Int)):=ο (j:=48) Zo KC
    have eK:decide ((10:Int)<=((c-48:Nat):Int))=false:=by simp;omega
    by_cases KE:1844674407370955162<=n
    ·rw[Zr KE]
     have eR:decide ((1844674407370955162:Int)<=(n:Int))=true:=by simp;omega
     refine e0 @IJ @Fr @IL @iA @t1 @fM (Za @eG (Za @xq (Za @v8 (Za @bN (Za @cg (Za @cH (Za @eK (Za @Ap (Za @lv (Za @pc (Za @eR @ta))))))))))) ⟨?_⟩
     exact⟨rfl,ct⟩
    ·rw[Zg KE]
     have eR:decide ((1844674407370955162:Int)<=(n:Int))=false:=by simp;omega
     have ed:aL .mul (.int .u64 (n:Int)) (.int .u64 10)=some (.int .u64 ((n*10:Nat):Int)):=anN (j:=10) Zo
     have gl:((c-48:Nat):Int)%18446744073709551616=((c-48:Nat):Int):=YW Zo Zo
     by_cases PH:18446744073709551616<=n*10+(c-48)
     ·rw[Zr PH]
      have im:aL .add (.int .u64 ((n*10:Nat):Int)) (.int .u64 ((c-48:Nat):Int))=some (.int .u64 ((n*10+(c-48) -18446744073709551616:Nat):Int)):=by
       have amh:(((n*10:Nat):Int)+((c-48:Nat):Int))%18446744073709551616=((n*10+(c-48) -18446744073709551616:Nat):Int):=Zo
       rw[ν,amh]
      have gm:decide (((n*10+(c-48) -18446744073709551616:Nat):Int)<((n*10:Nat):Int))=true:=by simp only[Zh];omega
      refine e0 @IJ @Fr @IL @iA @t1 @fM (Za @eG (Za @xq (Za @v8 (Za @bN (Za @cg (Za @cH (Za @eK (Za @Ap (Za @lv (Za @pc (Za @eR (Za @U3 (Za @ed (Za @gl (Za @im (Za @gm @ta)))))))))))))))) ⟨?_⟩
      exact⟨rfl,ct⟩
     ·have Ef:=ax
      rw[Zr oV,Zg KE,Zg PH]at Ef
      rw[Zg PH]
      have im:aL .add (.int .u64 ((n*10:Nat):Int)) (.int .u64 ((c-48:Nat):Int))=some (.int .u64 ((n*10+(c-48):Nat):Int)):=anM Zo
      have gm:decide (((n*10+(c-48):Nat):Int)<((n*10:Nat):Int))=false:=by simp only[Zb];omega
      have uo:decide ((18446744073709551615:Int)<((n*10+(c-48):Nat):Int))=false:=by simp only[Zb];omega
      refine e0 @IJ @Fr @IL @iA @t1 @fM (Za @eG (Za @xq (Za @v8 (Za @bN (Za @cg (Za @cH (Za @eK (Za @Ap (Za @lv (Za @pc (Za @eR (Za @U3 (Za @ed (Za @gl (Za @im (Za @gm (Za @uo (Za @ta @bF)))))))))))))))))) ⟨?_⟩
      exact⟨m,Zo,aa+1,n*10+(c-48),bn IL,bn Fr,bv,bv,bn pc,bn ta,bn AT,bn iA,bn t1,Zo,Zo,rfl,Zo,by first|exact Ef|rw[Ef]|rfl⟩
   ·have O8:¬(48<=c/\c<=57):=by simpa[ij]using oV
    rw[Zg oV]
    have ac1:p1 c<256:=zx _ Zo
    have cb:decide ((97:Int)<=(p1 c:Int))=decide (97<=p1 c):=by simp;omega
    have b1:decide ((p1 c:Int)<=122)=decide (p1 c<=122):=by simp;omega
    have bN:decide ((48:Int)<=(c:Int))=decide (48<=c):=by simp;omega
    have cg:decide ((c:Int)<=57)=decide (c<=57):=by simp;omega
    have fin:97<=p1 c->p1 c<=122->∃bl:Nat,aL .sub (.int .u8 (p1 c:Int)) (.int .u8 97)=some (.int .u8 ((p1 c-97:Nat):Int))/\aL .add (.int .u8 ((p1 c-97:Nat):Int)) (.int .u8 10)=some (.int .u8 ((p1 c-97+10:Nat):Int))/\decide ((10:Int)<=((p1 c-97+10:Nat):Int))=true:=λM R=>
     ⟨0,ο (j:=97) M ac1,anL (j:=10) Zo,by simp only[Zh];omega⟩
    by_cases aul:c=95<;>by_cases aky:48<=c<;>by_cases akz:c<=57<;>try omega
    all_goals
     simp only[aky,akz,Yn,Yf]at bN cg
     first|have aaa:decide ((c:Int)=95)=true:=by simp only[Zh];omega|have aaa:decide ((c:Int)=95)=false:=by simp only[Zb];omega
     refine e0 @IJ @Fr @IL @iA @t1 @fM (Za @eG (Za @xq (Za @aaa (Za @bN @cg)))) ⟨?_⟩
     refine(QM aA.tod7 c).Zm ?_
     rintro ad bo bw ⟨rfl,rfl,rfl⟩
     by_cases sN:97<=p1 c
     ·simp only[sN,Yn]at cb
      refine cx @cb ⟨?_⟩
      refine(QM aA.tod7 c).Zm ?_
      rintro ad bo bw ⟨rfl,rfl,rfl⟩
      by_cases pI:p1 c<=122
      ·simp only[pI,Yn]at b1
       refine cx @b1 ⟨?_⟩
       refine(QM aA.tod7 c).Zm ?_
       rintro ad bo bw ⟨rfl,rfl,rfl⟩
       obtain⟨_,ez,eT,f3⟩:=fin sN pI
       refine gd @ez @eT @f3 @Ap @t1 ⟨?_⟩
       exact⟨rfl,ct⟩
      ·simp only[pI,Yf]at b1
       refine cx @b1 ⟨?_⟩
       exact⟨rfl,ct⟩
     ·simp only[sN,Yf]at cb
      refine cx @cb ⟨?_⟩
      exact⟨rfl,ct⟩
end
end
end Go.Proofs.YtpfajohmofnkfaaGreatDoor

namespace Go.Proofs.YtpfajohmofnkfaaGreatDoor
open Go.al Go.bh
noncomputable section
structure lL(X:cD):Prop where
 asb:∃b,∀h,ao X h (.ptr 6 0)=some (.iface 304 (.ptr b 0))
 seven:∃b,∀h,ao X h (.ptr 7 0)=some (.iface 304 (.ptr b 0))
section
variable{X:cD}{h V bb aV:U an}{k av aQ bp fQ:Nat}{s:a1}{i:Nat}
theorem aiA:dn X h .eql 238 false (.iface 281 (.int .i64 2)) (.iface 281 (.int .i64 2))=some (.bool true):=by kernel_rfl
theorem aiz:dn X h .eql 238 false (.iface 281 (.int .i64 1)) (.iface 281 (.int .i64 2))=some (.bool false):=by kernel_rfl
theorem aiy:dn X h .eql 238 false (.iface 281 (.int .i64 1)) (.iface 281 (.int .i64 1))=some (.bool true):=by kernel_rfl
theorem EZ(B:Int):dn X h .neq 238 true (.iface 281 (.int .i64 B)) .nilIface=some (.bool true):=by kernel_rfl
theorem Cv:dn X h .neq 238 true .nilIface .nilIface=some (.bool false):=by kernel_rfl
theorem aaW(b:Nat):dn X h .neq 238 true (.iface 283 (.ptr b 0)) .nilIface=some (.bool true):=by kernel_rfl
theorem asU(aA:iD X)(b7:lL X)(f:a1)(aH:s.length<=65536)(mq:∀c∈s,c<256)(aS:(y X).bj<=k):
 a6 X 226 [.str f, .str s] h k (λad V av=>(∃b,ad= .ptr b 0)/\bB X h k V av) (λ_ _ _=>False):=by
 refine dj (afh X) (aA.none _ _ rfl) ?_
 rw[afi]
 unfold TE
 obtain⟨b,ai⟩:=b7.asb
 refine cx @ai ⟨?_⟩
 refine Gc (aA.clone s mq aH) ?_
 refine cx @ai ⟨?_⟩
 refine jH (by simp[H.same]) ?_
 exact⟨⟨_,rfl⟩,dR⟩
theorem ara(aA:iD X)(b7:lL X)(f:a1)(aH:s.length<=65536)(mq:∀c∈s,c<256)(aS:(y X).bj<=k):
 a6 X 227 [.str f, .str s] h k (λad V av=>(∃b,ad= .ptr b 0)/\bB X h k V av) (λ_ _ _=>False):=by
 refine dj (afj X) (aA.none _ _ rfl) ?_
 rw[afk]
 unfold TF
 obtain⟨b,ai⟩:=b7.seven
 refine cx @ai ⟨?_⟩
 refine Gc (aA.clone s mq aH) ?_
 refine cx @ai ⟨?_⟩
 refine jH (by simp[H.same]) ?_
 exact⟨⟨_,rfl⟩,dR⟩
theorem JZ(aA:iD X)(b7:lL X)(f:a1)(x j:H)(aH:s.length<=65536)(mq:∀c∈s,c<256)(aS:(y X).bj<=k){B:Nat}(aP:B=1\/B=2):
 a6 X 202 [.str f, .str s,x,j,vx B] h k (λad V av=>(∃b,ad= .iface 283 (.ptr b 0))/\bB X h k V av) (λ_ _ _=>False):=by
 refine dj (aeP X) (aA.none _ _ rfl) ?_
 rw[aeQ]
 unfold Tr
 rcases aP with rfl|rfl
 ·have bF:vx 1= .iface 281 (.int .i64 1):=rfl
  rw[bF]
  refine dc @aiz @aiy ⟨?_⟩
  refine(ara aA b7 f aH mq aS).Zm ?_
  rintro ad bo bw ⟨⟨b,rfl⟩,cE⟩
  refine c0 ⟨?_⟩
  exact⟨⟨_,rfl⟩,cE⟩
 ·have bF:vx 2= .iface 281 (.int .i64 2):=rfl
  rw[bF]
  refine cx @aiA ⟨?_⟩
  refine(asU aA b7 f aH mq aS).Zm ?_
  rintro ad bo bw ⟨⟨b,rfl⟩,cE⟩
  refine c0 ⟨?_⟩
  exact⟨⟨_,rfl⟩,cE⟩
theorem aqV:∀(l:a1) (n:Nat),(rW l n).2=0\/(rW l n).2=1\/(rW l n).2=2:=by
 intro l
 induction l with
 |nil=>intro n;exact .inl rfl
 |cons c l ah=>
  intro n
  rw[rW]
  split
  ·split
   ·exact .inr (.inl rfl)
   ·split
    ·exact .inr (.inl rfl)
    ·exact ah _
  ·exact .inr (.inr rfl)
theorem abA(l:a1):(ka l).2=0\/(ka l).2=1\/(ka l).2=2:=by
 unfold ka;split
 ·exact .inr (.inr rfl)
 ·exact aqV _ _
theorem aqx(aA:iD X)(b7:lL X)(aH:s.length<=65536)(ai:∀c∈s,c<256)(aS:(y X).bj<=k):
 a6 X 167 [.str s, .int .i64 10, .int .i64 64] h k (λad V av=>(∃E,ad= .tuple [.int .u64 ((ka s).1:Int),E]/\((ka s).2=0/\E= .nilIface\/(ka s).2≠0/\∃b,E= .iface 283 (.ptr b 0)))/\bB X h k V av) (λ_ _ _=>False):=by
 refine dj (adX X) (aA.none _ _ rfl) ?_
 rw[adY]
 unfold SV
 refine(acr aA aH ai aS (.inr rfl)).Zm ?_
 rintro ad bo bw ⟨rfl,cE⟩
 have jf:=cE.le
 rcases abA s with a|a|a
 ·rw[a]
  have bF:vx 0= .nilIface:=rfl
  rw[bF]
  refine cx @Cv ⟨?_⟩
  exact⟨⟨_,rfl, .inl ⟨rfl,rfl⟩⟩,cE⟩
 ·rw[a]
  have bF:vx 1= .iface 281 (.int .i64 1):=rfl
  rw[bF]
  refine cx @EZ ⟨?_⟩
  refine(JZ (k:=bw) (h:=bo) aA b7 [80,97,114,115,101,85,105,110,116] (.int .i64 10) (.int .i64 64) aH ai (Zz aS jf) (B:=1) Zd).Zm ?_
  rintro ad bX dd ⟨⟨b,rfl⟩,dN⟩
  refine c0 ⟨?_⟩
  exact⟨⟨_,rfl, .inr ⟨Zd,b,rfl⟩⟩,cE.trans dN⟩
 ·rw[a]
  have bF:vx 2= .iface 281 (.int .i64 2):=rfl
  rw[bF]
  refine cx @EZ ⟨?_⟩
  refine(JZ (k:=bw) (h:=bo) aA b7 [80,97,114,115,101,85,105,110,116] (.int .i64 10) (.int .i64 64) aH ai (Zz aS jf) (B:=2) Zd).Zm ?_
  rintro ad bX dd ⟨⟨b,rfl⟩,dN⟩
  refine c0 ⟨?_⟩
  exact⟨⟨_,rfl, .inr ⟨Zd,b,rfl⟩⟩,cE.trans dN⟩
end
end
end Go.Proofs.YtpfajohmofnkfaaGreatDoor

namespace Go.Proofs.YtpfajohmofnkfaaGreatDoor
open Go.al Go.bh
noncomputable section
def Sl(E:H):Prop:=E= .nilIface\/E= .iface 281 (.int .i64 1)\/E= .iface 281 (.int .i64 2)
def A6(s:a1):Prop:=∀c∈s,c≠43/\c≠45
def wz(s:a1):Nat:=s.foldl (λn c=>n*10+(c-48)) 0
theorem aqW:∀(l:a1) (n:Nat),n<18446744073709551616->(rW l n).1<18446744073709551616:=by
 intro l
 induction l with
 |nil=>intro n a;exact a
 |cons c l ah=>
  intro n a
  rw[rW]
  split
  ·split
   ·show 18446744073709551615<_;omega
   ·split
    ·show 18446744073709551615<_;omega
    ·exact ah _ Zo
  ·show 0<_;omega
theorem abB(l:a1):(ka l).1<18446744073709551616:=by
 unfold ka;split
 ·show 0<_;omega
 ·exact aqW _ _ Zo
section
variable{X:cD}{h V bb aV:U an}{k av aQ bp fQ:Nat}{s:a1}{i:Nat}
theorem aaX:dn X h .neq 238 false (.iface 281 (.int .i64 1)) (.iface 281 (.int .i64 1))=some (.bool false):=by kernel_rfl
theorem aaY:dn X h .neq 238 false (.iface 281 (.int .i64 2)) (.iface 281 (.int .i64 1))=some (.bool true):=by kernel_rfl
theorem τ(aA:iD X)(aH:s.length<=65536)(ai:∀c∈s,c<256)(xA:A6 s)(aS:(y X).bj<=k):
 a6 X 242 [.str s, .int .i64 10, .int .i64 0] h k (λad V av=>(∃bl E,ad= .tuple [.int .i64 bl,E]/\Sl E)/\bB X h k V av) (λ_ _ _=>False):=by
 refine dj (afv X) (aA.none _ _ rfl) ?_
 rw[afw]
 unfold TL
 by_cases ci:s=[]
 ·subst ci
  have d:decide (([]:List Nat)=[])=true:=rfl
  refine cx @d ⟨?_⟩
  exact⟨⟨_,_,rfl, .inr (.inr rfl)⟩,bB.refl _ _⟩
 have d:decide (s=[])=false:=by simp[ci]
 obtain⟨c,fZ,rfl⟩:∃c fZ,s=c::fZ:=by cases s with
  |nil=>exact absurd rfl ci
  |cons c fZ=>exact⟨c,fZ,rfl⟩
 have eG:kW (.str (c::fZ)) (.int .i64 0)=some (.int .u8 (c:Int)):=Al (i:=0) .i64 rfl
 have ay:=xA c (Zq ..)
 have bN:decide ((c:Int)=43)=false:=by simp only[Zb];omega
 have cg:decide ((c:Int)=45)=false:=by simp only[Zb];omega
 refine hk @d @eG @bN @cg ⟨?_⟩
 refine(acr aA aH ai aS (.inl rfl)).Zm ?_
 rintro ad bo bw ⟨rfl,cE⟩
 have jf:=cE.le
 generalize ax:ka (c::fZ)=p
 have B4:=abA (c::fZ)
 have rC:=abB (c::fZ)
 rw[ax]at B4 rC
 obtain⟨IQ,aug⟩:=p
 simp only[]at B4 rC ⊢
 have oN:decide ((0:Int)=0)=true:=rfl
 have iN:aL .sub (.int .i64 64) (.int .i64 1)=some (.int .i64 63):=rfl
 have kZ:(63:Int)%18446744073709551616=63:=rfl
 have Fk:aL .shl (.int .u64 1) (.int .u64 63)=some (.int .u64 9223372036854775808):=rfl
 have arM:aL .sub (.int .u64 9223372036854775808) (.int .u64 1)=some (.int .u64 9223372036854775807):=rfl
 have arN:lQ .i64 (.int .u64 9223372036854775807)=some (.int .i64 9223372036854775807):=rfl
 rcases B4 with rfl|rfl|rfl
 all_goals
  simp only[show vx 0= .nilIface from rfl,show vx 1= .iface 281 (.int .i64 1) from rfl,show vx 2= .iface 281 (.int .i64 2) from rfl]
  by_cases KE:9223372036854775808<=IQ
  ·have cQ:decide ((9223372036854775808:Int)<=(IQ:Int))=true:=by simp only[Zh];omega
   refine e0 @Cv @EZ @aaX @aaY @oN @iN (Za @kZ (Za @Fk (Za @cQ (Za @arM @arN)))) ⟨?_⟩
   exact⟨⟨_,_,rfl,by first|exact .inl rfl|exact .inr (.inl rfl)|exact .inr (.inr rfl)⟩,cE⟩
  ·have cQ:decide ((9223372036854775808:Int)<=(IQ:Int))=false:=by simp only[Zb];omega
   have arO:lQ .i64 (.int .u64 (IQ:Int))=some (.int .i64 (IQ:Int)):=U4 Zo Zo
   refine e0 @Cv @EZ @aaX @aaY @oN @iN (Za @kZ (Za @Fk (Za @cQ @arO))) ⟨?_⟩
   exact⟨⟨_,_,rfl,by first|exact .inl rfl|exact .inr (.inl rfl)|exact .inr (.inr rfl)⟩,cE⟩
end
end
end Go.Proofs.YtpfajohmofnkfaaGreatDoor

namespace Go.Proofs.YtpfajohmofnkfaaGreatDoor
open Go.al Go.bh
noncomputable section
theorem ξ{x j:Int}(M: -9223372036854775808<=x*j)(R:x*j<9223372036854775808):aL .mul (.int .i64 x) (.int .i64 j)=some (.int .i64 (x*j)):=by
 simp[aL,ln,lE,k6,kE,wrap64 M R]
theorem anO{c:Nat}(a:c<256):aL .sub (.int .u8 (c:Int)) (.int .u8 48)=some (.int .u8 (((c+208)%256:Nat):Int)):=by
 have w:ox .u8 ((c:Int) -48)=(((c+208)%256:Nat):Int):=by
  show((c:Int) -48)%256=_
  omega
 simp only[aL,ln,lE,k6,iF,eB,kE,w,DG]
theorem ats(l:a1)(c:Nat):wz (l++[c])=wz l*10+(c-48):=by simp[wz,List.foldl_append]
section
variable{X:cD}{h V bb aV:U an}{k av aQ bp fQ:Nat}{s:a1}{i:Nat}
def acU(s:a1)(ad:H):Prop:=∃bl E,ad= .tuple [.int .i64 bl,E]/\Sl E/\(s≠[]->s.length<19->(∀c∈s,ij c=true)->E= .nilIface/\bl=(wz s:Int))
theorem agY(aA:iD X)(aH:s.length<=65536)(ai:∀c∈s,c<256)(xA:A6 s)(aS:(y X).bj<=k):
 a6 X 230 [.str s] h k (λad V av=>acU s ad/\bB X h k V av) (λ_ _ _=>False):=by
 refine dj (afl X) (aA.none _ _ rfl) ?_
 rw[afm]
 unfold TG
 by_cases ci:s=[]
 ·subst ci
  have oN:decide ((0:Int)<((0:Nat):Int))=false:=rfl
  refine cx @oN ⟨?_⟩
  refine(τ aA aH ai xA aS).Zm ?_
  rintro ad bo bw ⟨⟨bl,E,rfl,aW⟩,cE⟩
  refine c0 ⟨?_⟩
  exact⟨⟨bl,E,rfl,aW,λa=>absurd rfl a⟩,cE⟩
 have n3:0<s.length:=Y3.2 ci
 have oN:decide ((0:Int)<(s.length:Int))=true:=by simp only[Zh];omega
 by_cases GJ:s.length<19
 ·have cQ:decide ((s.length:Int)<19)=true:=by simp only[Zh];omega
  obtain⟨c,vN⟩:∃c,s[0]? =some c:=⟨_,Zf n3⟩
  have eG:kW (.str s) (.int .i64 0)=some (.int .u8 (c:Int)):=Al (i:=0) .i64 vN
  have ay:=xA c (Zp vN)
  have bN:decide ((c:Int)=43)=false:=by simp only[Zb];omega
  have cg:decide ((c:Int)=45)=false:=by simp only[Zb];omega
  refine gd @oN @cQ @eG @bN @cg ⟨?_⟩
  refine UQ Zo ?_
  have Ol:ab X (bm X h k (some (.cells (U.ofList (s.map λn:Nat=>H.int .u8 (n:Int)) 0 .nil) s.length (.grow [])))) k=some (.cells (U.ofList (s.map λn:Nat=>H.int .u8 (n:Int)) 0 .nil) s.length (.grow [])):=bq aS
  have OL:bB X h k (bm X h k (some (.cells (U.ofList (s.map λn:Nat=>H.int .u8 (n:Int)) 0 .nil) s.length (.grow [])))) (k+1):=dR
  generalize bm X h k (some (.cells (U.ofList (s.map λn:Nat=>H.int .u8 (n:Int)) 0 .nil) s.length (.grow [])))=tm at*
  refine c0 ⟨?_⟩
  refine f8 (λm J V aY=>∃(aa n p:Nat),J.g 47=some (.e5 k 0 s.length 1)/\J.g 48=some (.int .i64 (s.length:Int))/\J.g 49=some (.int .i64 (aa:Int))/\J.g 6=some (.int .i64 (n:Int))/\J.g 5=some (.str s)/\aa+m=s.length/\p*10^m<=10^18/\n<p/\V=tm/\k+1<=aY/\n=wz (s.take aa))
   s.length ⟨0,0,1,bv,bv,gL,gL,bv,Zo,by rw[Nat.one_mul];exact Nat.pow_le_pow_right Zo Zo,Zo,rfl,Zo,rfl⟩ ?_
  rintro m J aV bp ⟨aa,n,p,RV,Mu,qR,gN,t5,bK,ud,avd,rfl,ns,bu⟩
  have ct:bB X h k aV bp:=⟨Zo,OL.af⟩
  cases m with
  |zero=>
   have fM:decide ((aa:Int)<(s.length:Int))=false:=by simp only[Zb];omega
   refine e0 @qR @Mu @t5 @gN @fM @eG @cg ⟨?_⟩
   rw[ZN Zo]at bu
   exact⟨⟨_,_,rfl, .inl rfl,λ_ _ _=>⟨rfl,by rw[bu]⟩⟩,ct⟩
  |succ m=>
   have fM:decide ((aa:Int)<(s.length:Int))=true:=by simp only[Zh];omega
   have bF:aL .add (.int .i64 (aa:Int)) (.int .i64 1)=some (.int .i64 ((aa+1:Nat):Int)):=by rw[eQ Zo Zo];rfl
   obtain⟨I,aG⟩:∃c,s[aa]? =some c:=⟨_,Zf Zo⟩
   have ak6:=ai I (Zp aG)
   have Hg:fp 1 (.e5 k 0 s.length 1) (.int .i64 (aa:Int))=some (.ptr k aa):=by rw[Ls _ Zo];simp
   have xq:ao X aV (.ptr k aa)=some (.int .u8 (I:Int)):=by rw[bW Ol,kk];simp[aG]
   have cB:=anO ak6
   generalize bL:(I+208)%256=w at cB
   by_cases lj:9<w
   ·have hF:decide ((9:Int)<(w:Int))=true:=by simp only[Zh];omega
    refine e0 @qR @Mu @RV @fM @Hg @xq (Za @cB @hF) ⟨?_⟩
    refine⟨⟨_,_,rfl, .inr (.inr rfl),λ_ _ hm=> ?_⟩,ct⟩
    have:=hm I (Zp aG)
    simp[ij]at this
    omega
   ·have hF:decide ((9:Int)<(w:Int))=false:=by simp only[Zb];omega
    have O8:48<=I/\I<=57/\w=I-48:=Zo
    have d3:p*10<=10^18:=by
     have:p*10^(m+1)=(p*10)*10^m:=by rw[Nat.pow_succ];rw[Nat.mul_assoc,zv (10^m) 10]
     rw[this]at ud
     exact Zz (Y5 _ (Nat.pos_of_ne_zero Zs)) ud
    have dh:p*10*10^m<=10^18:=by
     have:p*10^(m+1)=(p*10)*10^m:=by rw[Nat.pow_succ];rw[Nat.mul_assoc,zv (10^m) 10]
     rw[this]at ud;exact ud
    have gg:p*10<=1000000000000000000:=d3
    have fh:aL .mul (.int .i64 (n:Int)) (.int .i64 10)=some (.int .i64 ((n*10:Nat):Int)):=by rw[ξ Zo Zo];rfl
    have js:lQ .i64 (.int .u8 (w:Int))=some (.int .i64 (w:Int)):=U4 Zo Zo
    have oP:aL .add (.int .i64 ((n*10:Nat):Int)) (.int .i64 (w:Int))=some (.int .i64 ((n*10+w:Nat):Int)):=by rw[eQ Zo Zo];rfl
    refine e0 @qR @Mu @RV @fM @Hg @xq (Za @cB (Za @hF (Za @gN (Za @fh (Za @js (Za @oP @bF)))))) ⟨?_⟩
    refine⟨m,Zo,aa+1,n*10+w,p*10,bn RV,bn Mu,bv,bv,bn t5,Zo,dh,Zo,rfl,Zo, ?_⟩
    rw[zb,aG]
    show _=wz (s.take aa++[I])
    rw[ats, <-bu,O8.2.2]
 ·have cQ:decide ((s.length:Int)<19)=false:=by simp only[Zb];omega
  refine dc @oN @cQ ⟨?_⟩
  refine(τ aA aH ai xA aS).Zm ?_
  rintro ad bo bw ⟨⟨bl,E,rfl,aW⟩,cE⟩
  refine c0 ⟨?_⟩
  exact⟨⟨bl,E,rfl,aW,λ_ a=>absurd a GJ⟩,cE⟩
def acV(s:a1)(ad:H):Prop:=∃bl E,ad= .tuple [.int .i64 bl,E]/\(E= .nilIface\/∃b,E= .iface 283 (.ptr b 0))/\(s≠[]->s.length<19->(∀c∈s,ij c=true)->E= .nilIface/\bl=(wz s:Int))
theorem UA(aA:iD X)(b7:lL X)(aH:s.length<=65536)(ai:∀c∈s,c<256)(xA:A6 s)(aS:(y X).bj<=k):
 a6 X 203 [.str s] h k (λad V av=>acV s ad/\bB X h k V av) (λ_ _ _=>False):=by
 refine dj (aeR X) (aA.none _ _ rfl) ?_
 rw[aeS]
 unfold Ts
 refine(agY aA aH ai xA aS).Zm ?_
 rintro ad bo bw ⟨⟨bl,E,rfl,aW,ag⟩,cE⟩
 have jf:=cE.le
 rcases aW with rfl|rfl|rfl
 ·refine cx @Cv ⟨?_⟩
  exact⟨⟨_,_,rfl, .inl rfl,ag⟩,cE⟩
 ·refine cx @EZ ⟨?_⟩
  refine(JZ (k:=bw) (h:=bo) aA b7 [65,116,111,105] (.int .i64 0) (.int .i64 0) aH ai (Zz aS jf) (B:=1) Zd).Zm ?_
  rintro ad bX dd ⟨⟨b,rfl⟩,dN⟩
  refine c0 ⟨?_⟩
  exact⟨⟨_,_,rfl, .inr ⟨b,rfl⟩,λM R au=>absurd (ag M R au).1 Zs⟩,cE.trans dN⟩
 ·refine cx @EZ ⟨?_⟩
  refine(JZ (k:=bw) (h:=bo) aA b7 [65,116,111,105] (.int .i64 0) (.int .i64 0) aH ai (Zz aS jf) (B:=2) Zd).Zm ?_
  rintro ad bX dd ⟨⟨b,rfl⟩,dN⟩
  refine c0 ⟨?_⟩
  exact⟨⟨_,_,rfl, .inr ⟨b,rfl⟩,λM R au=>absurd (ag M R au).1 Zs⟩,cE.trans dN⟩
end
end
end Go.Proofs.YtpfajohmofnkfaaGreatDoor

namespace Go.Proofs.YtpfajohmofnkfaaGreatDoor
open Go.al Go.bh
noncomputable section
def kj(t:iu):Bool:=if t.b then !t.s&&decide (t.w=1)else decide (1<=t.w)&&decide (t.w<=64)
def iY(n:Nat):a1:=if n<10 then[48+n]else[48+n/10,48+n%10]
def mH(t:iu):a1:=if kj t then(if t.b then[98,111,111,108]else(if t.s then 105 else 117)::iY t.w.toNat)else[]
def kO:a1->Option iu
 |[]=>none
 |c::l=>if c::l=[98,111,111,108]then some ⟨true,false,1⟩
  else if c=105\/c=117 then((List.range 65).find? λn=>decide (1<=n)&&decide (iY n=l)).map λn:Nat=>⟨false,decide (c=105),(n:Int)⟩
  else none
section
variable{X:cD}{h V bb aV:U an}{k av aQ bp fQ:Nat}{s:a1}{i:Nat}
theorem Cq(aA:d7 X)(t:iu)(aS:(y X).bj<=k):a6 X 182 [.agg (lx t)] h k (λad V av=>ad= .bool (kj t)/\bB X h k V av) (λ_ _ _=>False):=by
 refine dj (ael X) (aA.none _ _ rfl) ?_
 rw[aem]
 unfold Tc lx
 obtain⟨b,s,w⟩:=t
 cases b<;>cases s
 all_goals
  by_cases M:1<=w
  ·have cQ:decide ((1:Int)<=w)=true:=by simp[M]
   refine cx @cQ ⟨?_⟩
   exact⟨by simp[kj,M],dR⟩
  ·have cQ:decide ((1:Int)<=w)=false:=by simp[M]
   refine cx @cQ ⟨?_⟩
   exact⟨by simp[kj,M],dR⟩
theorem asi:∀n<10,([48,49,50,51,52,53,54,55,56,57,97,98,99,100,101,102,103,104,105,106,107,108,109,110,111,112,113,114,115,116,117,118,119,120,121,122].drop n).take (n+1-n)=iY n:=by decide+kernel
def Ms:a1:=[48,48,48,49,48,50,48,51,48,52,48,53,48,54,48,55,48,56,48,57,49,48,49,49,49,50,49,51,49,52,49,53,49,54,49,55,49,56,49,57,50,48,50,49,50,50,50,51,50,52,50,53,50,54,50,55,50,56,50,57,51,48,51,49,51,50,51,51,51,52,51,53,51,54,51,55,51,56,51,57,52,48,52,49,52,50,52,51,52,52,52,53,52,54,52,55,52,56,52,57,53,48,53,49,53,50,53,51,53,52,53,53,53,54,53,55,53,56,53,57,54,48,54,49,54,50,54,51,54,52,54,53,54,54,54,55,54,56,54,57,55,48,55,49,55,50,55,51,55,52,55,53,55,54,55,55,55,56,55,57,56,48,56,49,56,50,56,51,56,52,56,53,56,54,56,55,56,56,56,57,57,48,57,49,57,50,57,51,57,52,57,53,57,54,57,55,57,56,57,57]
theorem asl:Ms.length=200:=by decide+kernel
theorem asj:∀n<100,10<=n->(Ms.drop (n*2)).take (n*2+2-n*2)=iY n:=by decide+kernel
theorem Lq(aA:d7 X){n:Nat}(aS:n<100):a6 X 183 [.int .i64 (n:Int)] h k (λad V av=>ad= .str (iY n)/\V=h/\av=k) (λ_ _ _=>False):=by
 refine dj (aen X) (aA.none _ _ rfl) ?_
 rw[aeo]
 unfold Td
 refine dj (ae3 X) (aA.none _ _ rfl) ?_
 rw[ae4]
 unfold Ty
 refine dj (afr X) (aA.none _ _ rfl) ?_
 rw[afs]
 unfold TJ
 have oN:decide ((0:Int)<=(n:Int))=true:=by simp only[Zh];omega
 have cQ:decide ((n:Int)<100)=true:=by simp only[Zh];omega
 refine dc @oN @cQ ⟨?_⟩
 refine dj (afz X) (aA.none _ _ rfl) ?_
 rw[afA]
 unfold TN
 by_cases a:n<10
 ·have cG:decide ((n:Int)<10)=true:=by simp only[Zh];omega
  have bF:aL .add (.int .i64 (n:Int)) (.int .i64 1)=some (.int .i64 ((n+1:Nat):Int)):=by rw[eQ Zo Zo];rfl
  have cB:jQ (.str [48,49,50,51,52,53,54,55,56,57,97,98,99,100,101,102,103,104,105,106,107,108,109,110,111,112,113,114,115,116,117,118,119,120,121,122]) (some (.int .i64 (n:Int))) (some (.int .i64 ((n+1:Nat):Int)))=some (.str (iY n)):=by
   rw[RA .i64 .i64 Zo (by simp;omega),asi n a]
  refine e8 @cG @bF @cB ⟨?_⟩
  exact⟨rfl,rfl,rfl⟩
 ·have cG:decide ((n:Int)<10)=false:=by simp only[Zb];omega
  have bF:aL .mul (.int .i64 (n:Int)) (.int .i64 2)=some (.int .i64 ((n*2:Nat):Int)):=by rw[ξ Zo Zo];rfl
  have cB:aL .add (.int .i64 ((n*2:Nat):Int)) (.int .i64 2)=some (.int .i64 ((n*2+2:Nat):Int)):=by rw[eQ Zo Zo];rfl
  have fh:jQ (.str Ms) (some (.int .i64 ((n*2:Nat):Int))) (some (.int .i64 ((n*2+2:Nat):Int)))=some (.str (iY n)):=by
   rw[RA .i64 .i64 Zo (by have:=asl;omega),asj n aS Zo]
  unfold Ms at fh
  refine hk @cG @bF @cB @fh ⟨?_⟩
  exact⟨rfl,rfl,rfl⟩
theorem arP(aA:d7 X)(t:iu)(aS:(y X).bj<=k):a6 X 204 [.agg (lx t)] h k (λad V av=>ad= .str (mH t)/\bB X h k V av) (λ_ _ _=>False):=by
 refine dj (aeT X) (aA.none _ _ rfl) ?_
 rw[aeU]
 unfold Tt
 have aT:lx t=[.bool t.b, .bool t.s, .int .i64 t.w]:=rfl
 rw[aT]
 refine c0 ⟨?_⟩
 refine eZ (λbb=>ab X bb k=some (.cells (U.ofList [.bool t.b, .bool t.s, .int .i64 t.w] 0 .nil) 3 .own)/\bB X h k bb (k+1)) ⟨bq aS,dR⟩ ?_
 rintro bb ⟨b9,b8⟩
 refine(Cq aA t Zo).Zm ?_
 rintro ad aV bp ⟨rfl,ct⟩
 have gZ:=ct.le
 have b7:=b8.trans ct
 have b3:ab X aV k=some (.cells (U.ofList [.bool t.b, .bool t.s, .int .i64 t.w] 0 .nil) 3 .own):=by rw[ct.af _ Zo];exact b9
 have d1:ao X aV (.ptr k 0)=some (.bool t.b):=by rw[bW b3];rfl
 have dD:ao X aV (.ptr k 1)=some (.bool t.s):=by rw[bW b3];rfl
 have d2:ao X aV (.ptr k 2)=some (.int .i64 t.w):=by rw[bW b3];rfl
 cases bi:kj t with
 |false=>
  refine c0 ⟨?_⟩
  exact⟨by simp[mH,bi],b7⟩
 |true=>
  cases l3:t.b with
  |true=>
   rw[l3]at d1
   refine cx @d1 ⟨?_⟩
   exact⟨by simp[mH,bi,l3],b7⟩
  |false=>
   rw[l3]at d1
   have bL:1<=t.w/\t.w<=64:=by simpa[kj,l3]using bi
   obtain⟨w,xF⟩:=Yk (by omega:0<=t.w)
   rw[xF]at d2
   have aN:iY t.w.toNat=iY w:=by rw[xF];rfl
   have fj:(iY w).length<=2:=by unfold iY;split<;>simp
   have sm:∀h c,dn X h .add 9 true (.str [c]) (.str (iY w))=some (.str (c::iY w)):=λh c=>by
    have:Nat.ble ([c].length+(iY w).length) 1000000000=true:=ml (by simp;omega)
    simp only[dn,ys,this,eB];rfl
   cases kU:t.s with
   |true=>
    rw[kU]at dD
    refine e8 @d1 @dD @d2 ⟨?_⟩
    refine(Lq aA Zo).Zm ?_
    rintro ad bo bw ⟨rfl,rfl,rfl⟩
    refine cx @sm ⟨?_⟩
    exact⟨by simp[mH,bi,l3,kU,aN],b7⟩
   |false=>
    rw[kU]at dD
    refine e8 @d1 @dD @d2 ⟨?_⟩
    refine(Lq aA Zo).Zm ?_
    rintro ad bo bw ⟨rfl,rfl,rfl⟩
    refine cx @sm ⟨?_⟩
    exact⟨by simp[mH,bi,l3,kU,aN],b7⟩
end
end
end Go.Proofs.YtpfajohmofnkfaaGreatDoor

namespace Go.Proofs.YtpfajohmofnkfaaGreatDoor
open Go.al Go.bh
noncomputable section
theorem HV{n:Nat}(a:n<100):iY n≠[]/\(iY n).length<19/\(∀c∈iY n,ij c=true)/\wz (iY n)=n:=by
 unfold iY
 split
 ·refine⟨Zs,Zs, ?_, ?_⟩
  ·intro c ay;simp at ay;subst ay;simp[ij];omega
  ·simp[wz]
 ·refine⟨Zs,Zs, ?_, ?_⟩
  ·intro c ay;simp at ay;rcases ay with rfl|rfl<;>simp[ij]<;>omega
  ·simp[wz];omega
theorem Mz(c:Nat)(l:a1):kO (c::l)=if c::l=[98,111,111,108]then some ⟨true,false,1⟩
 else if c=105\/c=117 then((List.range 65).find? λn=>decide (1<=n)&&decide (iY n=l)).map λn:Nat=>⟨false,decide (c=105),(n:Int)⟩
 else none:=rfl
theorem IP{c:Nat}{l:a1}{t:iu}(a:kO (c::l)=some t)(ai:c::l≠[98,111,111,108]):(c=105\/c=117)/\∃n:Nat,1<=n/\n<=64/\iY n=l/\t=⟨false,decide (c=105),(n:Int)⟩:=by
 rw[Mz]at a
 rw[Zg ai]at a
 split at a
 ·rename_i ay
  refine⟨ay, ?_⟩
  simp only[Z0]at a
  obtain⟨n,M,R⟩:=a
  have au:=List.find?_some M
  have aM:=List.mem_of_find?_eq_some M
  simp at au aM
  exact⟨n,au.1,Zo,au.2,R.symm⟩
 ·cases a
theorem acn{c:Nat}{l:a1}(a:kO (c::l)=none)(ay:c=105\/c=117){n:Nat}(M:1<=n)(R:n<=64):iY n≠l:=by
 intro aS
 rw[Mz]at a
 split at a
 ·cases a
 ·first
  |rw[Zr ay]at a
  |skip
  simp at a
  exact a n Zo M aS
theorem bB.set{C:aX}{h bb:U an}{k aQ b aY:Nat}{cJ:Option an}(a:bB C h k bb aQ)(ai:k<=b)(ci:C.bj<=k)(aS:aQ<=aY):bB C h k (bm C bb b cJ) aY:=
 ⟨Zz a.le aS,λj T=>by rw[aK Zo Zo];exact a.af j T⟩
section
variable{X:cD}{h V bb aV:U an}{k av aQ bp fQ:Nat}{s:a1}{i:Nat}
theorem acm(aA:iD X)(b7:lL X)(aH:s.length<=65536)(ai:∀c∈s,c<256)(xA:A6 s)(aS:(y X).bj<=k):
 a6 X 169 [.str s] h k (λad V av=>ad= .tuple [.agg (lx ((kO s).getD dA)), .bool (kO s).isSome]/\bB X h k V av) (λ_ _ _=>False):=by
 refine dj (ad1 X) (aA.none _ _ rfl) ?_
 rw[ad2]
 unfold SX
 by_cases vM:s=[98,111,111,108]
 ·have d:decide (s=[98,111,111,108])=true:=by simp[vM]
  refine cx @d ⟨?_⟩
  exact⟨by subst vM;rfl,dR⟩
 have d:decide (s=[98,111,111,108])=false:=by simp[vM]
 cases s with
 |nil=>
  have cG:decide (([]:List Nat)=[])=true:=rfl
  refine dc @d @cG ⟨?_⟩
  exact⟨rfl,dR⟩
 |cons c l=>
  have cG:decide (c::l=[])=false:=by simp
  have eG:kW (.str (c::l)) (.int .i64 0)=some (.int .u8 (c:Int)):=Al (i:=0) .i64 rfl
  by_cases ay:c=105\/c=117
  ·have nv:jQ (.str (c::l)) (some (.int .i64 1)) none=some (.str l):=Mq (l:=1) .i64 Zs
   have fj:l.length<=65536:=by simp at aH;omega
   have BY:∀c∈l,c<256:=λx ag=>ai x (Zn _ ag)
   have amb:A6 l:=λx ag=>xA x (Zn _ ag)
   have eL:∃dr eu,decide ((c:Int)≠117)=dr/\decide ((c:Int)≠105)=eu/\(dr=false\/dr=true/\eu=false):=by
    rcases ay with rfl|rfl
    ·exact⟨true,false,rfl,rfl, .inr ⟨rfl,rfl⟩⟩
    ·exact⟨false,true,rfl,rfl, .inl rfl⟩
   obtain⟨dr,eu,eL,ic,vJ⟩:=eL
   have fM:decide ((c:Int)=105)=decide (c=105):=by simp;omega
   rcases vJ with rfl|⟨rfl,rfl⟩
   all_goals
    refine iJ @d @cG @eG @eL @ic @nv ⟨?_⟩
    refine eZ (λbb=>ab X bb k=some (.cells (U.ofList [.bool false, .bool false, .int .i64 0] 0 .nil) 3 .own)/\bB X h k bb (k+1)) ⟨bq aS,dR⟩ ?_
    rintro bb ⟨b9,b8⟩
    refine(UA aA b7 fj BY amb Zo).Zm ?_
    rintro ad aV bp ⟨⟨bl,E,rfl,aW,ag⟩,ct⟩
    have gZ:=ct.le
    have b3:ab X aV k=some (.cells (U.ofList [.bool false, .bool false, .int .i64 0] 0 .nil) 3 .own):=by rw[ct.af _ Zo];exact b9
    have lX:=b8.trans ct
    refine dc @eG @fM ⟨?_⟩
    generalize hI:bm X _ bp _=bo
    have g3:ab X bo k=some (.cells (U.ofList [.bool false, .bool false, .int .i64 0] 0 .nil) 3 .own):=by rw[<-hI];simp(disch:=omega) only[aK];exact b3
    have ec:ab X bo bp=some (.cells (U.ofList [.bool false, .bool (decide (c=105)), .int .i64 bl] 0 .nil) 3 .own):=by rw[<-hI];rw[bq Zo];rfl
    have cE:bB X h k bo (bp+1):=lX.trans (by rw[<-hI];exact dR)
    clear hI
    rcases aW with rfl|⟨b,rfl⟩
    ·refine dc @Cv (bW ec) ⟨?_⟩
     refine(Cq (k:=bp+1) (h:=bo) aA.tod7 ⟨false,decide (c=105),bl⟩ (Zz aS cE.le)).Zm ?_
     rintro ad bX dd ⟨rfl,dN⟩
     have jC:=dN.le
     have g5:ab X bX k=some (.cells (U.ofList [.bool false, .bool false, .int .i64 0] 0 .nil) 3 .own):=by rw[dN.af _ Zo];exact g3
     have g6:ab X bX bp=some (.cells (U.ofList [.bool false, .bool (decide (c=105)), .int .i64 bl] 0 .nil) 3 .own):=by rw[dN.af _ Zo];exact ec
     cases bi:kj ⟨false,decide (c=105),bl⟩with
     |false=>
      have aT:kO (c::l)=none:=by
       cases aT:kO (c::l)with
       |none=>rfl
       |some t=>
        obtain⟨_,n,M,R,au,rfl⟩:=IP aT vM
        obtain⟨cb,b1,dT,fc⟩:=HV (by omega:n<100)
        rw[au]at cb b1 dT fc
        have:=(ag cb b1 dT).2
        rw[fc]at this
        subst this
        simp[kj]at bi
        omega
      rw[aT]
      refine cx (bW g5) ⟨?_⟩
      exact⟨rfl,bB.set (cE.trans dN) Zo aS Zo⟩
     |true=>
      have cj:1<=bl/\bl<=64:=by simpa[kj]using bi
      obtain⟨n,rfl⟩:=Yk (by omega:0<=bl)
      refine cx (bW g6) ⟨?_⟩
      refine(arP (k:=dd) (h:=bX) aA.tod7 ⟨false,decide (c=105),(n:Int)⟩ Zo).Zm ?_
      rintro ad b4 cA ⟨rfl,dX⟩
      have iW:=dX.le
      have g7:ab X b4 k=some (.cells (U.ofList [.bool false, .bool false, .int .i64 0] 0 .nil) 3 .own):=by rw[dX.af _ Zo];exact g5
      have g8:ab X b4 bp=some (.cells (U.ofList [.bool false, .bool (decide (c=105)), .int .i64 (n:Int)] 0 .nil) 3 .own):=by rw[dX.af _ Zo];exact g6
      have B9:mH ⟨false,decide (c=105),(n:Int)⟩=c::iY n:=by
       rcases ay with rfl|rfl<;>simp[mH,bi]<;>simp_all
      have GN:=(cE.trans dN).trans dX
      by_cases aE:iY n=l
      ·have aT:kO (c::l)=some ⟨false,decide (c=105),(n:Int)⟩:=by
        cases aT:kO (c::l)with
        |none=>exact absurd aE (acn aT ay Zo Zo)
        |some t=>
         obtain⟨_,aY,M,R,au,rfl⟩:=IP aT vM
         obtain⟨cb,b1,dT,fc⟩:=HV (by omega:n<100)
         obtain⟨_,_,_,lH⟩:=HV (by omega:aY<100)
         rw[au, <-aE,fc]at lH
         rw[lH]
       have hF:decide (mH ⟨false,decide (c=105),(n:Int)⟩≠c::l)=false:=by rw[B9,aE];simp
       rw[aT]
       refine dc @hF (bW g8) ⟨?_⟩
       refine⟨rfl,bB.set GN Zo aS Zo⟩
      ·have aT:kO (c::l)=none:=by
        cases aT:kO (c::l)with
        |none=>rfl
        |some t=>
         obtain⟨_,aY,M,R,au,rfl⟩:=IP aT vM
         obtain⟨cb,b1,dT,fc⟩:=HV (by omega:aY<100)
         rw[au]at cb b1 dT fc
         have:=(ag cb b1 dT).2
         rw[fc]at this
         have:n=aY:=Zo
         subst this
         exact absurd au aE
       have hF:decide (mH ⟨false,decide (c=105),(n:Int)⟩≠c::l)=true:=by rw[B9];simp[aE]
       rw[aT]
       refine cx @hF ⟨?_⟩
       exact⟨rfl,bB.set GN Zo aS Zo⟩
    ·have aT:kO (c::l)=none:=by
      cases aT:kO (c::l)with
      |none=>rfl
      |some t=>
       obtain⟨_,n,M,R,au,rfl⟩:=IP aT vM
       obtain⟨cb,b1,dT,fc⟩:=HV (by omega:n<100)
       rw[au]at cb b1 dT fc
       exact absurd (ag cb b1 dT).1 Zs
     rw[aT]
     refine cx @aaW ⟨?_⟩
     exact⟨rfl,bB.set cE Zo aS Zo⟩
  ·have eL:decide ((c:Int)≠117)=true:=by simp only[Zh];omega
   have ic:decide ((c:Int)≠105)=true:=by simp only[Zh];omega
   refine gd @d @cG @eG @eL @ic ⟨?_⟩
   have aT:kO (c::l)=none:=by rw[Mz];rw[Zg vM,Zg ay]
   rw[aT]
   exact⟨rfl,dR⟩
end
end
end Go.Proofs.YtpfajohmofnkfaaGreatDoor

namespace Go.Proofs.YtpfajohmofnkfaaGreatDoor
open Go.al Go.bh
noncomputable section
def AG(w:Int):Int:=(18446744073709551615:Int).fdiv (2^(min (64-w).toNat 64))
def F1(x j:Int):Int:=ox .u64 ((BitVec.ofInt 64 x&&& ~~~ BitVec.ofInt 64 j).toNat)
def Cg(t:iu)(n:Int):Bool:=kj t&&decide (F1 n (AG t.w)=0)
def uc(t:iu)(n:Int):Bool:=if t.s then(if t.w-1=0 then decide (n=0)else Cg ⟨false,false,t.w-1⟩ n)else Cg t n
def uK:List a1:=[[110,111,100,101],[114,101,116,117,114,110,115],[118,97,114],[108,101,116],[116,101,108],[119,104,101,110],[110,111,116],[112,114,101],[102,98,121],[109,101,114,103,101],
 [105,102],[116,104,101,110],[101,108,115,101],[97,110,100],[111,114],[120,111,114],[116,114,117,101],[102,97,108,115,101]]
structure I7(X:cD):Prop where
 at_:∃v,∀h,ao X h (.ptr 3 0)=some v/\∀s:a1,iZ X h 9 (.bool false) v (.str s) false=some (.bool (decide (s∈uK)))
section
variable{X:cD}{h V bb aV:U an}{k av aQ bp fQ:Nat}{s:a1}{i:Nat}
theorem arp(aA:d7 X)(eJ:I7 X)(s:a1):a6 X 171 [.str s] h k (λad V av=>ad= .bool (decide (s∈uK))/\V=h/\av=k) (λ_ _ _=>False):=by
 refine dj (ad5 X) (aA.none _ _ rfl) ?_
 rw[ad6]
 unfold S0
 obtain⟨v,bu⟩:=eJ.at_
 obtain⟨M,R⟩:=bu h
 have au:=R s
 refine dc @M @au ⟨?_⟩
 exact⟨rfl,rfl,rfl⟩
theorem aqd(aA:d7 X)(t:iu)(aT:1<=t.w/\t.w<=64)(aS:(y X).bj<=k):a6 X 231 [.agg (lx t)] h k (λad V av=>ad= .int .u64 (AG t.w)/\bB X h k V av) (λ_ _ _=>False):=by
 refine dj (afn X) (aA.none _ _ rfl) ?_
 rw[afo]
 unfold TH lx
 have bF:aL .sub (.int .i64 64) (.int .i64 t.w)=some (.int .i64 (64-t.w)):=Ai Zo Zo
 have cB:aL .shr (.int .u64 18446744073709551615) (.int .i64 (64-t.w))=some (.int .u64 (AG t.w)):=by
  have:decide ((64-t.w)<0)=false:=by simp only[Zb];omega
  simp only[aL,ln,eB,FZ,sU,this,iF,o0,DG]
  rfl
 refine dc @bF @cB ⟨?_⟩
 exact⟨rfl,dR⟩
theorem LK{t:iu}(a:kj t=true):1<=t.w/\t.w<=64:=by
 unfold kj at a
 split at a<;>simp at a<;>omega
theorem φ(aA:d7 X)(t:iu)(n:Int)(aS:(y X).bj<=k):a6 X 205 [.agg (lx t), .int .u64 n] h k (λad V av=>ad= .bool (Cg t n)/\bB X h k V av) (λ_ _ _=>False):=by
 refine dj (aeV X) (aA.none _ _ rfl) ?_
 rw[aeW]
 unfold Tu
 have aT:lx t=[.bool t.b, .bool t.s, .int .i64 t.w]:=rfl
 rw[aT]
 refine c0 ⟨?_⟩
 refine eZ (λbb=>ab X bb k=some (.cells (U.ofList [.bool t.b, .bool t.s, .int .i64 t.w] 0 .nil) 3 .own)/\bB X h k bb (k+1)) ⟨bq aS,dR⟩ ?_
 rintro bb ⟨b9,b8⟩
 refine(Cq aA t Zo).Zm ?_
 rintro ad aV bp ⟨rfl,ct⟩
 have gZ:=ct.le
 have b7:=b8.trans ct
 have b3:ab X aV k=some (.cells (U.ofList [.bool t.b, .bool t.s, .int .i64 t.w] 0 .nil) 3 .own):=by rw[ct.af _ Zo];exact b9
 cases bi:kj t with
 |false=>
  refine c0 ⟨?_⟩
  exact⟨by simp[Cg,bi],b7⟩
 |true=>
  refine cx (bW b3) ⟨?_⟩
  refine(aqd (k:=bp) (h:=aV) aA t (LK bi) Zo).Zm ?_
  rintro ad bo bw ⟨rfl,cE⟩
  have bF:aL .andNot (.int .u64 n) (.int .u64 (AG t.w))=some (.int .u64 (F1 n (AG t.w))):=by
   simp only[aL,ln,iF,lE,eB,k6,kE,DG];rfl
  refine cx @bF ⟨?_⟩
  exact⟨by simp[Cg,bi],b7.trans cE⟩
theorem amw(aA:d7 X)(t:iu)(aT:kj t=true)(n:Int)(aS:(y X).bj<=k):a6 X 170 [.agg (lx t), .int .u64 n] h k (λad V av=>ad= .bool (uc t n)/\bB X h k V av) (λ_ _ _=>False):=by
 refine dj (ad3 X) (aA.none _ _ rfl) ?_
 rw[ad4]
 unfold SZ
 have bL:=LK aT
 have gB:lx t=[.bool t.b, .bool t.s, .int .i64 t.w]:=rfl
 rw[gB]
 have bF:aL .sub (.int .i64 t.w) (.int .i64 1)=some (.int .i64 (t.w-1)):=Ai Zo Zo
 cases kU:t.s with
 |false=>
  refine c0 ⟨?_⟩
  refine eZ (λbb=>bB X h k bb (k+1)) dR ?_
  intro bb b8
  have:=φ (k:=k+1) (h:=bb) aA t n Zo
  rw[gB,kU]at this
  refine this.Zm ?_
  rintro ad aV bp ⟨rfl,ct⟩
  refine c0 ⟨?_⟩
  exact⟨by simp[uc,kU],b8.trans ct⟩
 |true=>
  by_cases ci:t.w-1=0
  ·have d:decide (t.w-1=0)=true:=by simp[ci]
   refine dc @bF @d ⟨?_⟩
   refine fH (iO (B:=3) (b:=k) (W:=0) (n:=3) (c:=U.ofList [.bool t.b, .bool true, .int .i64 t.w] 0 .nil) (bq aS) Zo rfl Zd Zd rfl) ?_
   refine cx @d ⟨?_⟩
   exact⟨by simp[uc,kU,ci],dR⟩
  ·have d:decide (t.w-1=0)=false:=by simp[ci]
   refine dc @bF @d ⟨?_⟩
   refine fH (iO (B:=3) (b:=k) (W:=0) (n:=3) (c:=U.ofList [.bool t.b, .bool true, .int .i64 t.w] 0 .nil) (bq aS) Zo rfl Zd Zd rfl) ?_
   refine cx @d ⟨?_⟩
   refine eZ (λbb=>bB X h k bb (k+1)) dR ?_
   intro bb b8
   refine(φ (k:=k+1) (h:=bb) aA ⟨false,false,t.w-1⟩ n Zo).Zm ?_
   rintro ad aV bp ⟨rfl,ct⟩
   refine c0 ⟨?_⟩
   exact⟨by simp[uc,kU,ci],b8.trans ct⟩
end
end
end Go.Proofs.YtpfajohmofnkfaaGreatDoor

namespace Go.Proofs.YtpfajohmofnkfaaGreatDoor
open Go.al Go.bh
noncomputable section
def s1(s:a1)(i:Nat):Tok×Bool:=
 let w:=(s.drop i).takeWhile iy
 (⟨if (kO w).isSome then 3 else if w∈uK then 2 else 1,w,0,0,(kO w).getD dA⟩,decide (w.length<=32))
theorem aa8{l:a1}(a:∀c∈l,iy c=true):A6 l:=by
 intro c ay
 have:=a c ay
 simp[iy,pT,ij]at this
 omega
theorem acf{α:Type}(p:α->Bool):∀l:List α,∀c∈l.takeWhile p,p c=true:=by
 intro l
 induction l with
 |nil=>simp
 |cons I l ah=>
  intro c ay
  rw[YB]at ay
  split at ay
  ·rcases Zl.1 ay with rfl|ay
   ·assumption
   ·exact ah c ay
  ·simp at ay
section
variable{X:cD}{h V bb aV:U an}{k av aQ bp fQ:Nat}{s:a1}{i:Nat}
theorem QQ(S:mj X h fQ s i)(ai:∀c∈s,c<256)(aa:Nat)(p:Nat->Bool)(ax:∀c,p c=true->iy c=true):((s.drop aa).takeWhile p).length<=65536/\(∀c∈(s.drop aa).takeWhile p,c<256)/\A6 ((s.drop aa).takeWhile p):=by
 have M:=C4 p (s.drop aa)
 rw[Yx]at M
 have:=S.many
 refine⟨Zo,λc ay=>ai c (zd ((List.takeWhile_sublist p).subset ay)),aa8 λc ay=>ax c (acf p _ c ay)⟩
theorem atK(aA:iD X)(b7:lL X)(eJ:I7 X)(S:mj X h fQ s i)(ai:∀c∈s,c<256)(aS:(y X).bj<=k)(HC:fQ<k):
 a6 X 115 [.ptr fQ 0] h k (λad V av=>ad= .tuple [.agg (bZ (s1 s i).1), .bool (s1 s i).2]/\bB X h k V av) (λ_ _ _=>False):=by
 refine dj (adc X) (aA.none _ _ rfl) ?_
 rw[ade]
 unfold Sx
 have dD:=S.dD
 have hL:=S.fK
 obtain⟨cb,b1,dT⟩:=QQ S ai i iy (λ_ a=>a)
 have rD:∀cJ,mj X (bm X h k cJ) fQ s i:=λcJ=>S.af (aK aS Zo)
 refine cx @dD ⟨?_⟩
 refine(Mk aA.tod7 (abT aA.tod7) (rD _) S.le).Zm ?_
 rintro ad aV bp ⟨rfl,rfl,rfl⟩
 unfold s1
 generalize (s.drop i).takeWhile iy=w at*
 simp only[]
 refine c0 ⟨?_⟩
 refine eZ (λbb=>ab X bb k=some (.cells (U.ofList [.int .i64 0, .str [], .int .i64 0, .int .u64 0, .bool false, .bool false, .int .i64 0] 0 .nil) 7 .own)/\ab X bb (k+1)=some (.cells (U.ofList [.int .i64 1, .str w, .int .i64 0, .int .u64 0, .bool false, .bool false, .int .i64 0] 0 .nil) 7 .own)/\bB X h k bb (k+1+1)) ⟨by simp(disch:=omega) only[aK,bq]<;>rfl,by rw[bq Zo];rfl,dR⟩ ?_
 rintro bb ⟨b9,b3,b8⟩
 refine(acm aA b7 cb b1 dT Zo).Zm ?_
 rintro ad bo bw ⟨rfl,cE⟩
 have jf:=cE.le
 have rj:=b8.trans cE
 have g3:ab X bo k=some (.cells (U.ofList [.int .i64 0, .str [], .int .i64 0, .int .u64 0, .bool false, .bool false, .int .i64 0] 0 .nil) 7 .own):=by rw[cE.af _ Zo];exact b9
 have ec:ab X bo (k+1)=some (.cells (U.ofList [.int .i64 1, .str w, .int .i64 0, .int .u64 0, .bool false, .bool false, .int .i64 0] 0 .nil) 7 .own):=by rw[cE.af _ Zo];exact b3
 generalize aT:(kO w).getD dA=t
 have Eo:lx t=[.bool t.b, .bool t.s, .int .i64 t.w]:=rfl
 rw[Eo]
 have NS:decide ((w.length:Int)<=32)=decide (w.length<=32):=by simp;omega
 have fin:∀(ck:U an) (eo:Nat) (B:Int) (gV:iu) (tq:U H),bw<=eo->bB X h k ck eo->ab X ck (k+1)=some (.cells tq 7 .own)->ab X ck k=some (.cells (U.ofList [.int .i64 0, .str [], .int .i64 0, .int .u64 0, .bool false, .bool false, .int .i64 0] 0 .nil) 7 .own)->
  tq.get 0=some (.int .i64 B)->tq.get 1=some (.str w)->tq.get 2=some (.int .i64 0)->tq.get 3=some (.int .u64 0)->tq.get 4=some (.bool gV.b)->tq.get 5=some (.bool gV.s)->tq.get 6=some (.int .i64 gV.w)->
  D (cL X ck 7 (.ptr (k+1) 0)) λatk=>D (lp (.str w)) λatl=>D (aL .leq atl (.int .i64 32)) λatm=>D (ce X ck 7 (.ptr k 0) atk) λT6=>D (cL X T6 7 (.ptr k 0)) λv37=>
   H.tuple [v37,atm]= .tuple [.agg (bZ ⟨B,w,0,0,gV⟩), .bool (decide (w.length<=32))]/\bB X h k T6 eo:=by
  intro ck eo B gV tq au6 eU g6 g7 v8 bN cg cH eK eR ed
  have fx:=jD g6 v8;have eh:=jD g6 bN;have c5:=jD g6 cg;have eN:=jD g6 cH;have gE:=jD g6 eK;have gs:=jD g6 eR;have kX:=jD g6 ed
  refine e0 @fx @eh @c5 @eN @gE @gs (Za @kX @NS) ⟨?_⟩
  exact⟨rfl,bB.set eU (Zj _) aS (Zj _)⟩
 cases ry:(kO w).isSome with
 |true=>
  refine hH ⟨?_⟩
  refine hH ⟨?_⟩
  refine hH ⟨?_⟩
  refine hH ⟨?_⟩
  refine hH ⟨?_⟩
  generalize hw:bm X _ bw _=bX
  have g5:ab X bX bw=some (.cells (U.ofList [.bool t.b, .bool t.s, .int .i64 t.w] 0 .nil) 3 .own):=by rw[<-hw,bq Zo];rfl
  have g6:ab X bX k=some (.cells (U.ofList [.int .i64 0, .str [], .int .i64 0, .int .u64 0, .bool false, .bool false, .int .i64 0] 0 .nil) 7 .own):=by rw[<-hw];simp(disch:=omega) only[aK];exact g3
  have g7:ab X bX (k+1)=some (.cells (U.ofList [.int .i64 1, .str w, .int .i64 0, .int .u64 0, .bool false, .bool false, .int .i64 0] 0 .nil) 7 .own):=by rw[<-hw];simp(disch:=omega) only[aK];exact ec
  have dN:bB X h k bX (bw+1):=rj.trans (by rw[<-hw];exact dR)
  clear hw g3 ec
  refine cx (bW g5) ⟨?_⟩
  refine jH (by simp[H.same,p0,qL]) ?_
  generalize lY:bm X bX (k+1) _=b4
  have bA:∀j,j≠k+1->ab X b4 j=ab X bX j:=λj T=>by rw[<-lY,aK Zo T]
  have g8:ab X b4 (k+1)=some (.cells (d0 (U.ofList [.int .i64 1, .str w, .int .i64 0, .int .u64 0, .bool false, .bool false, .int .i64 0] 0 .nil) 0 [.int .i64 3]) 7 .own):=by rw[<-lY,bq Zo];rfl
  rw[<-bA _ Zo]at g5 g6
  have dX:bB X h k b4 (bw+1):=⟨dN.le,λj T=>by rw[bA j Zo];exact dN.af j T⟩
  clear lY bA g7
  refine fH (iO (B:=3) (b:=k+1) (W:=4) (n:=7) g8 Zo rfl Zd Zd rfl) ?_
  generalize hJ:bm X b4 (k+1) _=ck
  have cr:∀j,j≠k+1->ab X ck j=ab X b4 j:=λj T=>by rw[<-hJ,aK Zo T]
  have jv:ab X ck (k+1)=some (.cells (d0 (d0 (U.ofList [.int .i64 1, .str w, .int .i64 0, .int .u64 0, .bool false, .bool false, .int .i64 0] 0 .nil) 0 [.int .i64 3]) 4 [.bool t.b, .bool t.s, .int .i64 t.w]) 7 .own):=by rw[<-hJ,bq Zo];rfl
  rw[<-cr _ Zo]at g6
  have eU:bB X h k ck (bw+1+5):=⟨by have:=dX.le;omega,λj T=>by rw[cr j Zo];exact dX.af j T⟩
  clear hJ cr g8
  have:=fin ck (bw+1+5) 3 t _ Zo eU jv g6 rfl rfl rfl rfl rfl rfl rfl
  simp only[ZB]
  refine hH ⟨?_⟩
  exact this
 |false=>
  have P4:t=dA:=by
   rw[<-aT]
   cases cf:kO w with
   |none=>rfl
   |some t=>rw[cf]at ry;cases ry
  refine c0 ⟨?_⟩
  refine eZ (λbX=>bB X bo bw bX (bw+1)) dR ?_
  intro bX dN
  have xc:=rj.trans dN
  have g6:ab X bX k=some (.cells (U.ofList [.int .i64 0, .str [], .int .i64 0, .int .u64 0, .bool false, .bool false, .int .i64 0] 0 .nil) 7 .own):=by rw[dN.af _ Zo];exact g3
  have g7:ab X bX (k+1)=some (.cells (U.ofList [.int .i64 1, .str w, .int .i64 0, .int .u64 0, .bool false, .bool false, .int .i64 0] 0 .nil) 7 .own):=by rw[dN.af _ Zo];exact ec
  refine(arp (k:=bw+1) (h:=bX) aA.tod7 eJ w).Zm ?_
  rintro ad b4 cA ⟨rfl,rfl,rfl⟩
  subst P4
  simp only[Zt,Zx]
  by_cases n5:w∈uK
  ·simp only[n5,Yn,ZB]
   refine hH ⟨?_⟩
   refine hH ⟨?_⟩
   refine hH ⟨?_⟩
   refine fH (iO (B:=1) (b:=k+1) (W:=0) (n:=7) g7 Zo rfl Zd Zd rfl) ?_
   generalize hJ:bm X _ (k+1) _=ck
   have cr:∀j,j≠k+1->ab X ck j=ab X b4 j:=λj T=>by rw[<-hJ,aK Zo T]
   have jv:ab X ck (k+1)=some (.cells (d0 (U.ofList [.int .i64 1, .str w, .int .i64 0, .int .u64 0, .bool false, .bool false, .int .i64 0] 0 .nil) 0 [.int .i64 2]) 7 .own):=by rw[<-hJ,bq Zo];rfl
   rw[<-cr _ Zo]at g6
   have eU:bB X h k ck (bw+1):=⟨xc.le,λj T=>by rw[cr j Zo];exact xc.af j T⟩
   have:=fin ck (bw+1) 2 dA _ Zo eU jv g6 rfl rfl rfl rfl rfl rfl rfl
   refine hH ⟨?_⟩
   exact this
  ·simp only[n5,Yf,Zx]
   have:=fin b4 (bw+1) 1 dA _ Zo xc g7 g6 rfl rfl rfl rfl rfl rfl rfl
   refine hH ⟨?_⟩
   refine hH ⟨?_⟩
   refine hH ⟨?_⟩
   exact this
end
end
end Go.Proofs.YtpfajohmofnkfaaGreatDoor

