/- Part of the last text; no conditions -/
import Derived.Test.YtehmapikajmjaaaGreatDoorYl
set_option maxHeartbeats 8000000
set_option linter.all false
namespace Go.Proofs.YtehmapikajmjaaaGreatDoor
open Go.aC Go.aj
noncomputable section
mutual
def pL{b:Type}(step:b->aX->b×Bool):b->aX->b
 |s,.mk q a nm no t n args=>if (step s (.mk q a nm no t n args)).2=true then ns step (step s (.mk q a nm no t n args)).1 args else(step s (.mk q a nm no t n args)).1
def ns{b:Type}(step:b->aX->b×Bool):b->List aX->b
 |s,[]=>s|s,u::l=>ns step (pL step s u) l
end
def acW{a:Type}(step:a->aX->a×Bool)(s:a)(u:aX):pL step s u=if (step s u).2=true then ns step (step s u).1 u.args else(step s u).1:=by cases u;rw[pL];rfl
def H7{u a:aX}(e:a∈u.args):SizeOf.sizeOf a<SizeOf.sizeOf u:=by cases u with|mk q at_ nm no t n args=>have b:a∈args:=e;have:=List.sizeOf_lt_of_mem b;simp;omega
section
variable{X:bf}{j S' am ah:B R}{k W ak ar:Nat}
def acY(TZ:bW X){f:Type}(step:f->aX->f×Bool)(P:Nat->Prop)(g:f->B R->Nat->Prop)(dU:B R)(b7:aX->y->Prop)(U0:∀u b aB bz aF,b7 u (.ptr b 0)->ay X dU (.ptr b 8)=some aB->ca X dU P bz aB 1 (aF.map λv=>[v])->b3 X dU P u.args aF->∀(i:Nat) a w,u.args[i]? =some a->aF[i]? =some w->b7 a w)(q:Nat)(x gP:List y)
 (U4:∀(s:f) (u:aX) (v:y) (j:B R) (k:Nat),g s j k->b7 u v->bB X j P u v->(∀h,P h->F X j h=F X dU h)->az X q ((x++[v])++gP) j k (λM S' W=>M=.bool (step s u).2/\g (step s u).1 S' W/\∀h,P h->F X S' h=F X j h) zW):
 ∀(N:Nat) (u:aX),SizeOf.sizeOf u<N->∀(s:f) (v:y) (j:B R) (k:Nat),g s j k->b7 u v->bB X j P u v->(∀h,P h->F X j h=F X dU h)->
  az X 122 [v,.func (.func q) x gP] j k (λM S' W=>M=.tuple []/\g (pL step s u) S' W/\∀h,P h->F X S' h=F X j h) zW:=by
 intro N;induction N with
 |zero=>intro u e;omega|succ N U=>
  intro u U9 s v j k T9 I T0 l;refine z6 TZ (JS ..) ?_;unfold Cn;obtain⟨b,aB,bz,aF,rfl,T,_,_,_,_,_,_,_,_,ft,p,has⟩:=id T0.open;have T1:=p.len;have T2:=has.len;rw[Zj,T2]at T1;have U3:=p.many;rw[Zj,T2]at U3;rw[acW];refine bh @tb ⟨?_⟩;refine(U4 s u _ j k T9 I T0 l).Zm ?_;rintro M am ak ⟨rfl,L,A⟩;cases UA:(step s u).2 with
  |false=>refine br ⟨?_⟩;exact⟨rfl,L,A⟩|true=>
   have T5:ay X am (.ptr b 8)=some aB:=zV (A b T) ft;refine bA @T5 @T1 ⟨?_⟩;refine cG (λm z S' U6=>∃(E:Nat) (t:f),z.g 1=some (.func (.func q) x gP)/\z.g 17=some aB/\z.g 18=some (.Z u.args.length)/\z.g 19=some (.Z E)/\E+m=u.args.length/\g t S' U6/\(∀h,P h->F X S' h=F X j h)/\ns step (step s u).1 u.args=ns step t (u.args.drop E))
    u.args.length ⟨0,_,av,av,av,cW,Zo,L,A,rfl⟩ ?_
   rintro m z ah ar ⟨E,t,t1,T4,C,G,UB,O,dx,r⟩;cases m with|zero=>have d:=zL E u.args.length;rw[ZM Zo,ns]at r;refine cb @G @C @d ⟨?_⟩;exact⟨rfl,by simp only[ZK];rw[r];exact O,dx⟩|succ m=>have d:=zM E u.args.length;have T6:=zP E;obtain⟨a,n⟩:=zN u.args E;have al:u.args.drop E=a::u.args.drop (E+1):=(by obtain⟨U5,c⟩:=Ze.1 n;rw[Zz U5,c]);obtain⟨w,T3,U1⟩:=has.get E a n;obtain⟨T7,T8,U8⟩:=(p.K dx).one T3;rw[al,ns]at r;refine cd @G @C @T4 @t1 @d @T7 @T8 ⟨?_⟩;have UC:=H7 (Zl n);refine(U a Zo t w ah ar O (U0 u b aB bz aF I (by rw[bv, <-l b T, <-bv];exact ft) (p.K λh c=>(l h c).symm) (b3.K (λh c=>(l h c).symm) _ _ has) E a w n T3) (bB.K dx _ _ U1) (λh c=>(dx h c).trans (l h c))).Zm ?_;rintro M U7 UD ⟨rfl,TY,U2⟩;refine bA @G @T6 ⟨?_⟩;exact⟨m,Zo,E+1,_,Y t1,Y T4,Y C,av,Zo,TY,λh c=>by rw[U2 h c,dx h c],r⟩
def acX(i:bW X){b:Type}(step:b->aX->b×Bool)(P:Nat->Prop)(a:b->B R->Nat->Prop)(q:Nat)(c gP:List y)
 (l:∀(s:b) (u:aX) (v:y) (j:B R) (k:Nat),a s j k->bB X j P u v->az X q ((c++[v])++gP) j k (λM S' W=>M=.bool (step s u).2/\a (step s u).1 S' W/\∀h,P h->F X S' h=F X j h) zW)
 (N:Nat)(u:aX)(g:SizeOf.sizeOf u<N)(s:b)(v:y)(j:B R)(k:Nat)(d:a s j k)(f:bB X j P u v):
  az X 122 [v,.func (.func q) c gP] j k (λM S' W=>M=.tuple []/\a (pL step s u) S' W/\∀h,P h->F X S' h=F X j h) zW:=
 acY i step P a j (λ_ _=>True) (λ_ _ _ _ _ _ _ _ _ _ _ _ _ _=>trivial) q c gP (λs u v j k d _ f _=>l s u v j k d f) N u g s v j k d trivial f (λ_ _=>rfl)
def dC(X:bf)(j:B R)(a:Nat)(p:y)(q:Int)(bw b:y)(f:Int×Int):Prop:=F X j a=zO [p,.Z q,bw,b,.Z f.1,.Z f.2] 6
def hw(f:Int×Int)(c a:Int):Int×Int:=if f.1=0 then(c,a)else f
def mS(r:bW X){b:Nat}{p bw m:y}{q:Int}{f:Int×Int}(w:(o X).aD<=b)(l:dC X j b p q bw m f)(c a:Int):
 az X 90 [.ptr b 0,.Z c,.Z a] j k (λM S' W=>M=.tuple []/\dC X S' b p q bw m (hw f c a)/\k<=W/\∀h,h≠b->F X S' h=F X j h) zW:=by
 refine z6 r (Na ..) ?_;unfold Ec;obtain⟨g,v⟩:=f;have s:=l;unfold dC at l;have n:ay X j (.ptr b 4)=some (.Z g):=by rw[aZ l];rfl
 by_cases i:g=0
 ·have d:decide (g=0)=true:=by simp[i]
  refine eO ⟨?_⟩;refine eO ⟨?_⟩;refine eO ⟨?_⟩;refine bA @n @d ⟨?_⟩;refine⟨rfl, ?_,Zg _,λh t=>ag Zo t⟩;unfold dC hw;rw[aJ Zo];simp only[i,ZK];rfl
 ·have d:decide (g=0)=false:=by simp[i]
  refine bA @n @d ⟨?_⟩;refine⟨rfl, ?_,Zg _,λ_ _=>rfl⟩;unfold hw;simp only[i,ZJ];exact s
def lM(u:aX):Bool:=decide (u.kind=2)||decide (u.kind=6)||decide (u.kind=24)
def Tc(g:bW X){P:Nat->Prop}{u:aX}{v:y}(i:bB X j P u v):
 az X 124 [v] j k (λM S' W=>M=.bool (lM u)/\S'=j/\k<=W) zW:=by
 refine z6 g (JW ..) ?_;unfold Cp;obtain⟨b,rfl,T,a0⟩:=i.ptr;by_cases a:u.kind=2
 ·have d:decide (u.kind=2)=true:=by simp[a]
  refine bA @a0 @d ⟨?_⟩;exact⟨by simp[lM,a],rfl,Zo⟩
 ·have d:decide (u.kind=2)=false:=by simp[a]
  by_cases c:u.kind=6
  ·have f:decide (u.kind=6)=true:=(by simp[c]);refine cb @a0 @d @f ⟨?_⟩;exact⟨by simp[lM,c],rfl,Zo⟩
  ·have f:decide (u.kind=6)=false:=(by simp[c]);refine cb @a0 @d @f ⟨?_⟩;exact⟨by simp[lM,a,c],rfl,Zo⟩
def sv(u:ax×y×Nat):y×y×Nat:=(.str u.1,u.2.1,u.2.2)
end
section
variable{aM:Type}[DecidableEq aM]
def eW:List (aM×y×Nat)->aM->Nat->Option (Nat×y)
 |[],_,_=>none|x::aV,w,i=>if x.1=w then some (i,x.2.1)else eW aV w (i+1)
def d5(aV:List (aM×y×Nat))(w:aM):Option y:=(eW aV w 0).map Prod.snd
def wl(w:aM):∀(aV:List (aM×y×Nat)) (i:Nat),eW aV w (i+1)=(eW aV w i).map λp=>(p.1+1,p.2):=by
 intro aV;induction aV with
 |nil=>intro i;rfl|cons x aV U=>
  intro i;simp only[eW];split
  ·rfl
  ·exact U (i+1)
def m9(x:aM×y×Nat)(aV:List (aM×y×Nat))(w:aM):d5 (x::aV) w=if x.1=w then some x.2.1 else d5 aV w:=by
 unfold d5;simp only[eW];split
 ·rfl
 ·rw[wl];cases eW aV w 0<;>rfl
def y8(w:aM):∀(aV:List (aM×y×Nat)) (E:Nat) (v:y),eW aV w 0=some (E,v)->∃b,aV[E]? =some (w,v,b):=by
 intro aV;induction aV with
 |nil=>intro E v e;cases e|cons x aV U=>
  intro E v e;simp only[eW]at e;split at e
  ·rename_i u;cases e;exact⟨x.2.2,by simp[<-u]⟩
  ·rw[wl]at e;cases a:eW aV w 0 with|none=>rw[a]at e;cases e|some p=>rw[a]at e;simp at e;obtain⟨rfl,rfl⟩:=e;obtain⟨b,T⟩:=U p.1 p.2 a;exact⟨b,by simpa using T⟩
def AM(w a6:aM)(v:y)(b:Nat):∀aV:List (aM×y×Nat),d5 aV w=none->d5 (aV++[(w,v,b)]) a6=if a6=w then some v else d5 aV a6:=by
 intro aV;induction aV with
 |nil=>
  intro _;rw[Yz,m9];by_cases e:a6=w
  ·simp[e]
  ·have:¬w=a6:=λu=>e u.symm;simp[e,this]
 |cons x aV U=>
  intro e;rw[m9]at e;split at e
  ·cases e
  ·rename_i a;rw[YA,m9,m9,U e];by_cases u:x.1=a6
   ·have:¬a6=w:=λV=>a (u.trans V);simp[u,this]
   ·simp[u]
def AN(w a6:aM)(v:y):∀(aV:List (aM×y×Nat)) (E:Nat) (v0:y) (b:Nat),eW aV w 0=some (E,v0)->d5 (aV.set E (w,v,b)) a6=if a6=w then some v else d5 aV a6:=by
 intro aV;induction aV with
 |nil=>intro E v0 b e;cases e|cons x aV U=>
  intro E v0 b e;simp only[eW]at e;split at e
  ·rename_i u;simp at e;obtain⟨rfl,rfl⟩:=e;rw[YH,m9,m9];by_cases e:a6=w
   ·simp[e]
   ·have d:¬w=a6:=λV=>e V.symm;have a:¬x.1=a6:=λV=>e (V.symm.trans u);simp[e,d,a]
  ·rename_i u;rw[wl]at e;cases c:eW aV w 0 with
   |none=>rw[c]at e;cases e|some p=>
    rw[c]at e;simp at e;obtain⟨rfl,rfl⟩:=e;rw[YI,m9,m9,U p.1 p.2 b c];by_cases a:x.1=a6
    ·have:¬a6=w:=λV=>u (a.trans V);simp[a,this]
    ·simp[a]
variable{X:bf}{j S' am ah:B R}{k W ak ar:Nat}
def hY(X:bf)(j:B R)(r:Nat)(a:ax->Option y):Prop:=∃aV bq,F X j r=some (.map (aV.map sv) bq)/\∀w,d5 aV w=a w
def hY.K{r:Nat}{a:ax->Option y}(e:hY X j r a)(q:F X S' r=F X j r):hY X S' r a:=by obtain⟨aV,bq,b,c⟩:=e;exact⟨aV,bq,by rw[q];exact b,c⟩
def uY(w:ax):ha X 20 9 (.str w)=true:=Zk
def yY(w a6:ax):f3 X j 20 9 (.str w) (.str a6)=some (hC w a6):=Zk
def y4(w:ax):∀(aV:List (ax×y×Nat)) (i:Nat),findKey X j 9 (.str w) (aV.map sv) i=some (eW aV w i):=by
 intro aV;induction aV with
 |nil=>intro i;rfl|cons x aV U=>
  intro i;simp only[ZH,sv,findKey,yY,pv,eW];by_cases e:w=x.1
  ·have:x.1=w:=e.symm;simp[this]
  ·have:¬x.1=w:=λu=>e u.symm;simp only[e,this,Ys,ZJ];exact U (i+1)
def Gj(w:ax):hO 20 (.str w) (.str w)=true:=by show hC w w=true;rw[pv];simp
def pq{r:Nat}{c:ax->Option y}(e:hY X j r c)(aw:y)(w:ax)(ok:Bool):
 fb X j 9 aw (.map r) (.str w) ok=some (match c w with|some v=>a8 ok (.tuple [v,.zV]) v|none=>a8 ok (.tuple [aw,.zT]) aw):=by
 obtain⟨aV,bq,d,f⟩:=e;have a:=f w;unfold d5 at a;simp only[fb,d,uY,cE,y4];cases b:eW aV w 0 with|none=>rw[b]at a;rw[<-a];rfl|some p=>rw[b]at a;rw[<-a];rfl
def uQ{r:Nat}{f:ax->Option y}(I:(o X).aD<=r)(e:hY X j r f)(w:ax)(v:y):
 ∃S',hT X j k 9 (.map r) (.str w) v=some (.cJ aC.undef S' k)/\hY X S' r (λx=>if x=w then some v else f x)/\∀h,h≠r->F X S' h=F X j h:=by
 obtain⟨aV,bq,c,d⟩:=e;have al:eN X r=true:=ds I;cases a:eW aV w 0 with
 |none=>
  refine⟨Go.aC.aI X j r (some (.map ((aV++[(w,v,bq)]).map sv) (bq+1))), ?_,⟨aV++[(w,v,bq)],bq+1,aJ I,λx=> ?_⟩,λh b=>ag I b⟩
  ·simp only[hT,c,uY,cE,y4,a,aC.setObj,al,cE,dD];rw[ZR];rfl
  ·rw[AM _ _ _ _ _ (by unfold d5;rw[a];rfl),d]
 |some p=>
  obtain⟨E,v0⟩:=p;obtain⟨born,T⟩:=y8 w aV E v0 a;have g:(aV.map sv)[E]? =some (.str w,v0,born):=by rw[Zn,T];rfl
  refine⟨Go.aC.aI X j r (some (.map ((aV.set E (w,v,born)).map sv) bq)), ?_,⟨aV.set E (w,v,born),bq,aJ I,λx=> ?_⟩,λh b=>ag I b⟩
  ·simp only[hT,c,uY,cE,y4,a,jB,g,Gj,aC.setObj,al,cE,dD];rw[List.map_set];rfl
  ·rw[AN w x v aV E v0 born a,d]
structure ct where
 kind:Int
 d:cR
 eq:Int
 left:Int
def lQ:ct:=⟨0,⟨[],0,cg,[],0,false⟩,0,0⟩
def hG(v:ct):List y:=[.Z v.kind,.str v.d.name,.Z v.d.at_,.bool v.d.ty.b,.bool v.d.ty.s,.Z v.d.ty.w,.str v.d.on,.Z v.d.cY,.bool v.d.no,.Z v.eq,.Z v.left]
def iv(X:bf)(j:B R)(P:Nat->Prop)(bw:y)(t:ax->Option ct):Prop:=∃b r,bw=.ptr b 0/\P b/\P r/\ay X j (.ptr b 0)=some (.map r)/\hY X j r (λw=>(t w).map λv=> .agg (hG v))
def iv.K{P aK:Nat->Prop}{bw:y}{t:ax->Option ct}(e:iv X j P bw t)(q:∀h,P h->F X S' h=F X j h)(d:∀h,P h->aK h):iv X S' aK bw t:=by obtain⟨b,r,f,a,c,g,i⟩:=e;exact⟨b,r,f,d b a,d r c,zV (q b a) g,i.K (q r c)⟩
def PR(b:Nat):b0 X j .eql 43 true (.ptr b 0) .bE=some .zT:=Zk
def o9(A:bW X){P:Nat->Prop}{bw:y}{t:ax->Option ct}(g:(o X).aD<=k)(O:iv X j P bw t)(aU:∀h,P h->h<k)(w:ax):
 az X 13 [bw,.str w] j k (λM S' W=>M=.tuple [.agg (hG ((t w).getD lQ)),.bool (t w).isSome]/\aT X j k S' W) zW:=by
 refine z6 A (Kk ..) ?_;unfold Cu;obtain⟨b,r,rfl,T,I,a0,G⟩:=O;have C:=aU b T;have N:=aU r I;refine jO ?_;generalize d:aI X j k _=am;have p:F X am k=zO [.Z 0,.str [],.Z 0,.zT,.zT,.Z 0,.str [],.Z 0,.zT,.Z 0,.Z 0] 11:=by rw[<-d,aJ g];rfl
 have a:aT X j k am (k+1):=by rw[<-d];exact b8
 clear d;have aL:ay X am (.ptr b 0)=some (.map r):=zV (a.K b C) a0;have L:=G.K (a.K r N);have l:=pq L (.agg [.Z 0,.str [],.Z 0,.zT,.zT,.Z 0,.str [],.Z 0,.zT,.Z 0,.Z 0]) w true;have m:fb X am 9 (.agg [.Z 0,.str [],.Z 0,.zT,.zT,.Z 0,.str [],.Z 0,.zT,.Z 0,.Z 0]) (.map r) (.str w) true=some (.tuple [.agg (hG ((t w).getD lQ)),.bool (t w).isSome]):=by rw[l];cases t w<;>rfl
 clear l;generalize (t w).getD lQ=v at*;have T0:hG v=[.Z v.kind,.str v.d.name,.Z v.d.at_,.bool v.d.ty.b,.bool v.d.ty.s,.Z v.d.ty.w,.str v.d.on,.Z v.d.cY,.bool v.d.no,.Z v.eq,.Z v.left]:=rfl;rw[T0]at m ⊢;refine cb @PR @aL @m ⟨?_⟩;refine dh (eR (q:=11) (b:=k) (J:=0) (n:=11) (c:=B.ofList [.Z 0,.str [],.Z 0,.zT,.zT,.Z 0,.str [],.Z 0,.zT,.Z 0,.Z 0] 0 .nil) (by simp(disch:=omega) only[ag];exact p) g rfl Zd Zd rfl) ?_;generalize f:aI X _ k _=i;have s:F X i k=zO [.Z v.kind,.str v.d.name,.Z v.d.at_,.bool v.d.ty.b,.bool v.d.ty.s,.Z v.d.ty.w,.str v.d.on,.Z v.d.cY,.bool v.d.no,.Z v.eq,.Z v.left] 11:=by rw[<-f,aJ g];rfl
 have x:aT X j k i (k+1+1):=⟨Zo,λh T1=>by rw[<-f];simp(disch:=omega) only[ag];exact a.K h T1⟩;clear f;refine bh (aZ s) ⟨?_⟩;exact⟨rfl,x⟩
def uI(t:ax->Option ct)(Q:ax->Option Int)(f:Int×Int)(w:ax)(a:Int):Int×Int:=match t w with
 |none=>hw f 23 a|some v=>if v.kind=1\/1<(Q w).getD 0+1 then hw f 24 a else f
def iA(Q:ax->Option Int)(w:ax):Option y:=(Q w).map λq=> .Z q
def Sm(A:bW X){P:Nat->Prop}{c b:Nat}{p bw:y}{q:Int}{t:ax->Option ct}{Q:ax->Option Int}{f:Int×Int}(UD:(o X).aD<=k)(T6:(o X).aD<=c)(UB:(o X).aD<=b)(UA:c<k)(UC:b<k)(U9:c≠b)
 (T4:dC X j c p q bw (.map b) f)(UE:iv X j P bw t)(aU:∀h,P h->h<k/\h≠c/\h≠b)(U5:hY X j b (iA Q))(w:ax)(a:Int)(T:0<=(Q w).getD 0/\(Q w).getD 0<4000000000000000000):
 az X 92 [.ptr c 0,.str w,.Z a] j k (λM S' W=>M=.tuple []/\dC X S' c p q bw (.map b) (uI t Q f w a)/\hY X S' b (iA λx=>if x=w then some ((Q w).getD 0+1)else Q x)/\k<=W/\∀h,h<k->h≠c->h≠b->F X S' h=F X j h) zW:=by
 refine z6 A (Nf ..) ?_;unfold Ee;have UI:ay X j (.ptr c 2)=some bw:=by unfold dC at T4;rw[aZ T4];rfl
 refine bh @UI ⟨?_⟩;refine(o9 A UD UE (λh T2=>(aU h T2).1) w).Zm ?_;rintro M am ak ⟨rfl,O⟩;have UJ:=O.le;have U8:dC X am c p q bw (.map b) f:=by unfold dC;rw[O.K c UA];exact T4
 have U6:=U5.K (O.K b UC);generalize U2:(t w).getD lQ=v;have UG:hG v=[.Z v.kind,.str v.d.name,.Z v.d.at_,.bool v.d.ty.b,.bool v.d.ty.s,.Z v.d.ty.w,.str v.d.on,.Z v.d.cY,.bool v.d.no,.Z v.eq,.Z v.left]:=rfl;rw[UG];refine eO ⟨?_⟩;refine eO ⟨?_⟩;refine jO ?_;refine eO ⟨?_⟩;generalize T0:aI X _ ak _=ah;have T9:F X ah ak=zO [.Z v.kind,.str v.d.name,.Z v.d.at_,.bool v.d.ty.b,.bool v.d.ty.s,.Z v.d.ty.w,.str v.d.on,.Z v.d.cY,.bool v.d.no,.Z v.eq,.Z v.left] 11:=by rw[<-T0,aJ Zo];rfl
 have U7:aT X j k ah (ak+1):=⟨Zo,λh T2=>by rw[<-T0];simp(disch:=omega) only[ag];exact O.K h T2⟩;have dx:∀h,h<ak->F X ah h=F X am h:=λh T2=>by rw[<-T0];exact zQ
 clear T0;have T5:dC X ah c p q bw (.map b) f:=by unfold dC;rw[dx c Zo];exact U8
 have TY:=U6.K (dx b Zo);have L:ay X ah (.ptr c 3)=some (.map b):=by unfold dC at T5;rw[aZ T5];rfl
 have G:fb X ah 9 (.Z 0) (.map b) (.str w) false=some (.Z ((Q w).getD 0)):=by rw[pq TY];unfold iA;cases Q w<;>rfl
 have U4:aH .add (.Z ((Q w).getD 0)) (.Z 1)=some (.Z ((Q w).getD 0+1)):=ck Zo Zo;refine cb @L @G @U4 ⟨?_⟩;obtain⟨l,U1,TZ,T7⟩:=uQ (k:=ak+1) UB TY w (.Z ((Q w).getD 0+1));refine d7 U1 ?_;have r:dC X l c p q bw (.map b) f:=by unfold dC;rw[T7 c U9];exact T5
 rw[<-T7 ak Zo]at T9;have s:hY X l b (iA λx=>if x=w then some ((Q w).getD 0+1)else Q x):=by
  have:(λx=>if x=w then some (y.Z ((Q w).getD 0+1))else iA Q x)=(iA λx=>if x=w then some ((Q w).getD 0+1)else Q x):=by funext x;unfold iA;by_cases e:x=w<;>simp[e]
  rw[<-this];exact TZ
 have T1:∀h,h<k->h≠b->F X l h=F X j h:=λh g i=>by rw[T7 h i];exact U7.K h g
 clear G U1 TZ L;unfold uI;cases UF:t w with
 |none=>simp only[Z6,YN];refine br ⟨?_⟩;refine(mS (k:=ak+1) (j:=l) A T6 r 23 a).Zm ?_;rintro M T8 U3 ⟨rfl,C,U0,m⟩;refine br ⟨?_⟩;exact⟨by first|trivial|rfl,C,s.K (m b Zo),Zo,λh g i n=>by rw[m h i];exact T1 h g n⟩
 |some N=>
  have UH:N=v:=by rw[UF]at U2;exact U2
  subst UH;simp only[Z0,YT];have dr:ay X l (.ptr ak 0)=some (.Z N.kind):=by rw[aZ T9];rfl
  have L:ay X l (.ptr c 3)=some (.map b):=by unfold dC at r;rw[aZ r];rfl
  have G:fb X l 9 (.Z 0) (.map b) (.str w) false=some (.Z ((Q w).getD 0+1)):=by rw[pq s];unfold iA;simp
  by_cases g:N.kind=1
  ·have d:decide (N.kind=1)=true:=(by simp[g]);refine bA @dr @d ⟨?_⟩;refine(mS (k:=ak+1) (j:=l) A T6 r 24 a).Zm ?_;rintro M T8 U3 ⟨rfl,C,U0,m⟩;refine br ⟨?_⟩;exact⟨by first|trivial|rfl,by simp only[g,true_or,ZK];exact C,s.K (m b Zo),Zo,λh g i n=>by rw[m h i];exact T1 h g n⟩
  ·have d:decide (N.kind=1)=false:=by simp[g]
   by_cases i:1<(Q w).getD 0+1
   ·have T3:decide (1<(Q w).getD 0+1)=true:=(by simp only[Zf];exact i);refine dE @dr @d @L @G @T3 ⟨?_⟩;refine(mS (k:=ak+1) (j:=l) A T6 r 24 a).Zm ?_;rintro M T8 U3 ⟨rfl,C,U0,m⟩;refine br ⟨?_⟩;exact⟨by first|trivial|rfl,by simp only[g,i,or_true,ZK];exact C,s.K (m b Zo),Zo,λh g i n=>by rw[m h i];exact T1 h g n⟩
   ·have T3:decide (1<(Q w).getD 0+1)=false:=by simp only[Zc];exact i
    refine dE @dr @d @L @G @T3 ⟨?_⟩;exact⟨by first|trivial|rfl,by simp only[g,i,YB,ZJ];exact r,s,Zo,λh g i n=>T1 h g n⟩
def nh(t:ax->Option ct)(f:Int×Int)(u:aX):Int×Int:=if lM u then(if (t u.name).isSome then f else hw f 23 u.at_)else f
def ti(aa:List GE)(q:Nat)(f:Int×Int)(u:aX):Int×Int:=if u.kind=25 then(match js aa u.name with
 |none=>hw f 23 u.at_|some E=>if q<=E then hw f 25 u.at_ else f)else f
def lm(t:ax->Option ct)(aa:List GE)(q:Nat)(f:Int×Int)(u:aX):(Int×Int)×Bool:=(ti aa q (nh t f u) u,true)
structure sd(X:bf)(dU:B R)(aD a:Nat)(p:y)(q:Nat)(bw b:y)(f:Int×Int)(j:B R)(k:Nat):Prop where
 le:aD<=k
 fQ:dC X j a p q bw b f
 low:∀h,h<aD->h≠a->F X j h=F X dU h
variable{dU:B R}
def aa2(G:bW X){P:Nat->Prop}{di c l:Nat}{p bw T0:y}{q:Nat}{t:ax->Option ct}{aa:List GE}(US:(o X).aD<=di)(T9:(o X).aD<=c)(UP:c<di)(T6:l<di)(T5:l≠c)(UJ:ay X dU (.ptr l 0)=some (.ptr c 0))
 (aU:∀h,P h->h<di/\h≠c)(UL:iv X dU P bw t)(UH:iQ X dU P aa p){f:Int×Int}(x:sd X dU di c p q bw T0 f j k){u:aX}{v:y}(T3:bB X j P u v):
 az X 123 [v,.ptr l 0] j k (λM S' W=>M=.zV/\sd X dU di c p q bw T0 (lm t aa q f u).1 S' W) zW:=by
 refine z6 G (JU ..) ?_;unfold Co;refine(Tc G T3).Zm ?_;rintro M am ak ⟨rfl,rfl,UQ⟩;have UT:=x.le;have T4:∀j,F X j l=F X dU l->ay X j (.ptr l 0)=some (.ptr c 0):=λj e=>zV e UJ;refine dW (λU3 S' UO=>U3.g 0=some v/\U3.g 1=some (.ptr l 0)/\sd X dU di c p q bw T0 (nh t f u) S' UO/\bB X S' P u v) (λE i=> ?_) ?_
 ·obtain⟨b,_,_,_,rfl,T,a0,aL,bs,_⟩:=id T3.open;unfold nh at i;cases UD:lM u with|false=>rw[UD]at i;simp only[ZA,ZJ]at i;refine br ⟨?_⟩;exact i _ _ _ ⟨av,av,⟨Zo,x.fQ,x.low⟩,T3⟩|true=>rw[UD]at i;simp only[ZK]at i;have TZ:=T4 am (x.low l T6 T5);have UN:ay X am (.ptr c 2)=some bw:=(by have:=x.fQ;unfold dC at this;rw[aZ this];rfl);refine cb @TZ @UN @bs ⟨?_⟩;refine c6 (λah=>F X ah (ak+12)=zO [.Z 0,.str [],.Z 0,.zT,.zT,.Z 0,.str [],.Z 0,.zT,.Z 0,.Z 0] 11/\aT X am ak ah (ak+12+1)) ⟨by rw[aJ Zo];rfl,Zo,λh a=>zQ⟩ ?_;rintro ah ⟨U5,U7⟩;have bl:∀h,h<di->F X ah h=F X am h:=λh a=>U7.K h Zo;refine(o9 (k:=ak+15) (j:=ah) G Zo (UL.K (aK:=P) (λh a=>by rw[bl h (aU h a).1];exact x.low h (aU h a).1 (aU h a).2) (λ_ e=>e)) (λh a=>zK (aU h a).1) u.name).Zm ?_;rintro M r U1 ⟨rfl,w⟩;have UI:=w.le;have U6:F X r (ak+12)=zO [.Z 0,.str [],.Z 0,.zT,.zT,.Z 0,.str [],.Z 0,.zT,.Z 0,.Z 0] 11:=(by rw[w.K _ Zo];exact U5);generalize UU:(t u.name).getD lQ=m;have UM:hG m=[.Z m.kind,.str m.d.name,.Z m.d.at_,.bool m.d.ty.b,.bool m.d.ty.s,.Z m.d.ty.w,.str m.d.on,.Z m.d.cY,.bool m.d.no,.Z m.eq,.Z m.left]:=rfl;rw[UM];refine eO ⟨?_⟩;refine eO ⟨?_⟩;refine dh (eR (q:=11) (b:=ak+12) (J:=0) (n:=11) U6 Zo rfl Zd Zd rfl) ?_;generalize U8:aI X r (ak+12) _=L;have T7:∀h,h<ak->F X L h=F X am h:=λh a=>(by rw[<-U8,ag Zo Zo,w.K h Zo,U7.K h a]);clear U8 U5 U6;have T2:sd X dU di c p q bw T0 f L U1:=⟨Zo,by have:=x.fQ;unfold dC at*;rw[T7 c Zo];exact this,λh s g=>by rw[T7 h Zo];exact x.low h s g⟩;have U9:bB X L P u (.ptr b 0):=bB.K (λh a=>T7 h (zK (aU h a).1)) _ _ T3;have UK:=T4 L (T2.low l T6 T5);have UF:ay X L (.ptr b 1)=some (.Z u.at_):=zV (T7 b (zK (aU b T).1)) aL;cases UA:(t u.name).isSome with|true=>rw[UA]at i;simp only[ZK]at i;refine br ⟨?_⟩;exact i _ _ _ ⟨av,av,T2,U9⟩|false=>rw[UA]at i;simp only[ZA,ZJ]at i;refine bA @UK @UF ⟨?_⟩;refine(mS (j:=L) G T9 T2.fQ 23 u.at_).Zm ?_;rintro M U2 UE ⟨rfl,T1,UC,O⟩;refine br ⟨?_⟩;exact i _ _ _ ⟨av,av,⟨Zo,T1,λh s g=>by rw[O h g];exact T2.low h s g⟩,bB.K (λh a=>O h (aU h a).2) _ _ U9⟩
 ·rintro z ah ar ⟨t0,t1,A,UG⟩;obtain⟨b,_,_,_,rfl,T,a0,aL,bs,_⟩:=id UG.open;have UR:=A.le;show bt _ _;by_cases N:u.kind=25
  ·have d:decide (u.kind=25)=true:=(by simp[N]);have TZ:=T4 ah (A.low l T6 T5);have dr:ay X ah (.ptr c 0)=some p:=(by have:=A.fQ;unfold dC at this;rw[aZ this];rfl);refine cd @t0 @t1 @a0 @d @TZ @dr @bs ⟨?_⟩;refine(y6 (k:=ar+14) (j:=ah) G Zo (UH.K (aK:=P) (λh a=>A.low h (aU h a).1 (aU h a).2) (λ_ e=>e)) (λh a=>zK (aU h a).1) u.name).Zm ?_;rintro M r U1 ⟨rfl,w⟩;have UI:=w.le;have C:sd X dU di c p q bw T0 (nh t f u) r U1:=⟨Zo,by have:=A.fQ;unfold dC at*;rw[w.K c Zo];exact this,λh s g=>by rw[w.K h Zo];exact A.low h s g⟩;have U0:=T4 r (C.low l T6 T5);have U4:ay X r (.ptr b 1)=some (.Z u.at_):=zV (w.K b (zK (aU b T).1)) aL;have bG:ay X r (.ptr c 1)=some (.Z q):=(by have:=C.fQ;unfold dC at this;rw[aZ this];rfl);cases TY:js aa u.name with
   |none=>have I:(lm t aa q f u).1=hw (nh t f u) 23 u.at_:=(by simp[lm,ti,N,TY]);rw[I];simp only[Z6];refine c9 @t0 @t1 @U0 @U4 ⟨?_⟩;refine(mS (j:=r) G T9 C.fQ 23 u.at_).Zm ?_;rintro M U2 UE ⟨rfl,T1,UC,O⟩;refine br ⟨?_⟩;exact⟨by first|trivial|rfl,Zo,T1,λh s g=>by rw[O h g];exact C.low h s g⟩
   |some E=>
    simp only[Z0,Yl];by_cases UB:q<=E
    ·have T8:decide ((q:Int)<=(E:Int))=true:=zZ;have I:(lm t aa q f u).1=hw (nh t f u) 25 u.at_:=(by simp[lm,ti,N,TY,UB]);rw[I];refine eC @t0 @t1 @U0 @U4 @bG @T8 ⟨?_⟩;refine(mS (j:=r) G T9 C.fQ 25 u.at_).Zm ?_;rintro M U2 UE ⟨rfl,T1,UC,O⟩;refine br ⟨?_⟩;exact⟨by first|trivial|rfl,Zo,T1,λh s g=>by rw[O h g];exact C.low h s g⟩
    ·have T8:decide ((q:Int)<=(E:Int))=false:=z1;have I:(lm t aa q f u).1=nh t f u:=by simp[lm,ti,N,TY,UB]
     rw[I];refine dE @t0 @t1 @U0 @bG @T8 ⟨?_⟩;exact⟨by first|trivial|rfl,C⟩
  ·have d:decide (u.kind=25)=false:=(by simp[N]);have I:(lm t aa q f u).1=nh t f u:=(by simp[lm,ti,N]);rw[I];refine cb @t0 @a0 @d ⟨?_⟩;exact⟨by first|trivial|rfl,A⟩
def xk(t:ax->Option ct)(aa:List GE)(q:Nat)(f:Int×Int)(u:aX):Int×Int:=pL (lm t aa q) f u
def aa4(i:bW X){P:Nat->Prop}{a:Nat}{p bw d:y}{q:Nat}{t:ax->Option ct}{aa:List GE}(O:(o X).aD<=k)(A:(o X).aD<=a)(C:a<k)
 (aU:∀h,P h->h<k/\h≠a)(T1:iv X j P bw t)(N:iQ X j P aa p){f:Int×Int}(x:dC X j a p q bw d f){u:aX}{v:y}(G:bB X j P u v):
 az X 93 [.ptr a 0,v] j k (λM S' W=>M=.tuple []/\dC X S' a p q bw d (xk t aa q f u)/\k<=W/\∀h,h<k->h≠a->F X S' h=F X j h) zW:=by
 refine z6 i (Nh ..) ?_;unfold Ef;refine br ⟨?_⟩;refine c6 (λam=>F X am k=zO [.ptr a 0] 1/\aT X j k am (k+1)) ⟨aJ O,b8⟩ ?_;rintro am ⟨n,g⟩;have l:∀h,P h->F X am h=F X j h:=λh c=>g.K h (aU h c).1;have T0:ay X am (.ptr k 0)=some (.ptr a 0):=by rw[aZ n];rfl
 refine(acX i (lm t aa q) P (sd X am (k+1) a p q bw d) 123 [] [.ptr k 0] (λs u v ah ar m L=> ?_) (SizeOf.sizeOf u+1) u Zo f v am (k+1) ⟨Zg _,by unfold dC at*;rw[g.K a C];exact x,λ_ _ _=>rfl⟩ (bB.K l _ _ G)).Zm ?_
 ·refine(aa2 i Zo A Zo Zo Zo T0 (λh c=>⟨zK (aU h c).1,(aU h c).2⟩) (T1.K (aK:=P) l (λ_ e=>e)) (N.K (aK:=P) l (λ_ e=>e)) m L).Zm ?_;rintro M T2 T3 ⟨rfl,b⟩;exact⟨rfl,b,λh c=>by have:=aU h c;rw[b.low h Zo this.2,m.low h Zo this.2]⟩
 ·rintro M ah ar ⟨rfl,b,_⟩;refine br ⟨?_⟩;have:=b.le;exact⟨by first|trivial|rfl,b.fQ,Zo,λh r w=>by rw[b.low h Zo w,g.K h r]⟩
def c7(g:GE):List (Int×cR):=(g.cv.map λd=>(1,d))++((g.out.map λd=>(2,d))++(g.loc.map λd=>(3,d)))
def hk(g:GE):Nat->List cR
 |0=>g.cv|1=>g.out|_=>g.loc
def jC(g:GE):Nat->Nat
 |0=>0|1=>g.cv.length|2=>g.cv.length+g.out.length|_=>g.cv.length+g.out.length+g.loc.length
def Hh(g:GE){q:Nat}(a:q<3):jC g (q+1)=jC g q+(hk g q).length:=by
 match q,a with
 |0,_=>simp[jC,hk]|1,_=>rfl|2,_=>rfl
def v7(g:GE):(c7 g).length=jC g 3:=by simp[c7,jC];omega
def Fp(g:GE){q:Nat}(b:q<3){E:Nat}{d:cR}(e:(hk g q)[E]? =some d):(c7 g)[jC g q+E]? =some (1+(q:Int),d):=by
 match q,b,e with
 |0,_,e=>have a:=(Ze.1 e).1;simp only[hk]at e a;simp only[c7,jC,ZQ];rw[ZO (by simpa using a),Zn,e];rfl|1,_,e=>have a:=(Ze.1 e).1;simp only[hk]at e a;simp only[c7,jC];rw[ZT Zs,Zj,Nat.add_sub_cancel_left,ZO (by simpa using a),Zn,e];rfl|2,_,e=>simp only[hk]at e;simp only[c7,jC];rw[ZT Zx,Zj,ZT Zx,Zj,show g.cv.length+g.out.length+E-g.cv.length-g.out.length=E by omega,Zn,e];rfl
def RB{C:ai}{l:Nat}{a m b:List y}{S ab:aY}(e:mL C l (a++m) j k S ab):e5 C (.func (.yield l) a b) m j k S ab:=⟨e⟩
def Pp(U6:bW X){P:Nat->Prop}{g:GE}{n l bb bn bH:Nat}{bK bM aB:y}(a:Nat->B R->Nat->Prop)
 (T0:ca X dU P bb bK 8 (g.cv.map cV))(T1:ca X dU P bn bM 8 (g.out.map cV))(p:ca X dU P bH aB 8 (g.loc.map cV))
 (bs:ay X j (.ptr n 2)=some bK)(a3:ay X j (.ptr n 3)=some bM)(a4:ay X j (.ptr n 4)=some aB)
 (U4:∀i j k,a i j k->(o X).aD<=k/\∀h,P h->F X j h=F X dU h)
 (U5:∀i j k S' W,a i j k->aT X j k S' W->a i S' W)
 (I:∀i q d j k,(c7 g)[i]? =some (q,d)->a i j k->mL X l [.Z q,.agg (cV d)] j k (λM S' W=>M=.zV/\a (i+1) S' W) zW)
 (U1:a 0 j k):az X 46 [.func (.yield l) [] [],.ptr n 0] j k (λ_ S' W=>a (c7 g).length S' W) zW:=by
 refine z6 U6 (L8 ..) ?_;unfold DA;have UF:∀q,q<3->∃s b,[bK,bM,aB][q]? =some s/\ca X dU P b s 8 ((hk g q).map cV):=by
  intro q T3
  match q,T3 with
  |0,_=>exact⟨bK,bb,rfl,T0⟩|1,_=>exact⟨bM,bn,rfl,T1⟩|2,_=>exact⟨aB,bH,rfl,p⟩
 have T8:=(fU T0.len).1;have TY:=(fU T1.len).1;have T9:=(fU p.len).1;have U8:dp [.au,.au,.au] [(0,1,bK),(1,1,bM),(2,1,aB)]=some (.agg [bK,bM,aB]):=by simp[dp,lE,l9,iH,T8,TY,T9]
 refine cb @bs @a3 @a4 ⟨?_⟩;refine dh U8 ?_;refine br ⟨?_⟩;refine cG (λm z S' G=>∃(q:Nat),z.g 0=some (.func (.yield l) [] [])/\z.g 13=some (.agg [bK,bM,aB])/\z.g 14=some (.Z q)/\q+m=3/\a (jC g q) S' G)
  3 ⟨0,av,av,cW,Zo,U1⟩ ?_
 rintro m z ah ar ⟨q,t0,f,c,T3,T2⟩;cases m with
 |zero=>have d:decide ((q:Int)<3)=false:=z1;refine bA @c @d ⟨?_⟩;rw[v7];have:q=3:=Zo;subst this;exact T2|succ m=>
  have d:decide ((q:Int)<3)=true:=zZ;obtain⟨s,b,UE,t⟩:=UF q Zo;have UA:lH false 3 1 (.agg [bK,bM,aB]) (.Z q)=some s:=by have p:Nat.blt q 3=true:=(by simp[Nat.blt];omega);simp only[lH,hU,p,cE,ge,jB,ZF];exact UE
  have T4:=t.len;have UC:=t.many;rw[Zj]at T4 UC;refine dE @c @f @d @UA @T4 ⟨?_⟩;refine cG (λm z S' G=>∃(E:Nat),z.g 0=some (.func (.yield l) [] [])/\z.g 13=some (.agg [bK,bM,aB])/\z.g 14=some (.Z q)/\z.g 3=some (.Z q)/\z.g 18=some s/\z.g 19=some (.Z ((hk g q).length:Int))/\z.g 20=some (.Z E)/\E+m=(hk g q).length/\a (jC g q+E) S' G)
   (hk g q).length ⟨0,Y t0,Y f,Y c,av,av,av,cW,Zo,T2⟩ ?_
  rintro C UH T7 v ⟨E,t0,f,c,t3,T6,L,N,UI,x⟩;cases C with|zero=>have d:=zL E (hk g q).length;have w:=zP q;refine dE @N @L @c @d @w ⟨?_⟩;refine⟨m,Zo,q+1,Y t0,Y f,av,Zo, ?_⟩;rw[Hh g Zo];have:E=(hk g q).length:=Zo;rw[<-this];exact x|succ C=>have d:=zM E (hk g q).length;have w:=zP E;have TZ:aH .add (.Z 1) (.Z q)=some (.Z (1+(q:Int))):=ck Zo Zo;obtain⟨ap,al⟩:=zN (hk g q) E;obtain⟨UD,U7⟩:=U4 _ _ _ x;have UB:=t.c0 E (by rw[Zj];omega);have T5:=(t.K U7).row (i:=E) (r:=cV ap) Zd (by rw[Zn,al];rfl);have U9:cV ap=[.str ap.name,.Z ap.at_,.bool ap.ty.b,.bool ap.ty.s,.Z ap.ty.w,.str ap.on,.Z ap.cY,.bool ap.no]:=rfl;rw[U9]at T5;refine eC @N @L @T6 @d @UB @T5 ⟨?_⟩;generalize A:aI X _ v _=O;have U0:F X O v=zO [.str ap.name,.Z ap.at_,.bool ap.ty.b,.bool ap.ty.s,.Z ap.ty.w,.str ap.on,.Z ap.cY,.bool ap.no] 8:=(by rw[<-A,aJ UD];rfl);have U2:aT X T7 v O (v+1):=⟨Zo,λh UJ=>by rw[<-A];exact zQ⟩;clear A;refine c9 @t0 @t3 @TZ (aZ U0) ⟨?_⟩;refine RB ((I _ _ _ _ _ (Fp g Zo al) (U5 _ _ _ _ _ x U2)).mono ?_ (λ_ _ _ e=>False.elim e));rintro M UG UK ⟨rfl,U3⟩;refine bA @N @w ⟨?_⟩;exact⟨C,Zo,E+1,Y t0,Y f,Y c,Y t3,Y T6,Y L,av,Zo,U3⟩
def wa(T0:bW X){P:Nat->Prop}{g:GE}{n w x f bb bn bH:Nat}{bK bM aB:y}{A aN:vw}{S:dm}{u:Nat->dm}{r:dm}{ab:kY}{z:bO}(b:Nat->B R->Nat->Prop)
 (T1:(o X).aD<=k)(U4:w<n)(U5:x<n)(C:f<k)
 (T9:ca X j P bb bK 8 (g.cv.map cV))(TY:ca X j P bn bM 8 (g.out.map cV))(TZ:ca X j P bH aB 8 (g.loc.map cV))
 (bs:ay X j (.ptr f 2)=some bK)(a3:ay X j (.ptr f 3)=some bM)(a4:ay X j (.ptr f 4)=some aB)
 (s:∀i S' a,b i S' a->k+2<=a/\∀h,P h->F X S' h=F X j h)
 (O:∀i am ak ah ar,b i am ak->ak<=ar->(∀h,h<ak->h≠k+1->F X ah h=F X am h)->b i ah ar)
 (T8:∀S',aT X j k S' (k+2)->b 0 S' (k+2))
 (U2:∀mk i q d am ak,(c7 g)[i]? =some (q,d)->b i am ak->F X am k=some (.deferred (some []))->F X am (k+1)=some (mk .ready none)->
  ll X A aN (k+1) mk (λM S' a=>M=.zV/\b (i+1) S' a/\F X S' k=some (.deferred (some []))/\F X S' (k+1)=some (mk .ready none)) zW (H (H z w (.Z q)) x (.agg (cV d))) am ak)
 (U0:∀S' a,b (c7 g).length S' a->F X S' k=some (.deferred (some []))->S (n7 z k) S' a):
 ru X n (.func (.func 46) [] [.ptr f 0]) [w,x] (ll X A aN) S u r ab z j k:=by
 refine⟨T1, ?_⟩;intro mk U1;refine EU (T0.none _ _ rfl) ?_;generalize v:aI X (aI X j k _) (k+1) _=am;have gl:F X am k=some (.deferred (some [])):=by rw[<-v,ag Zo Zo,aJ T1]
 have T6:F X am (k+1)=some (mk .ready none):=by rw[<-v,aJ Zo]
 have p:aT X j k am (k+2):=⟨Zo,λh c=>by rw[<-v];exact zQ⟩;clear v;have L:=T8 am p;obtain⟨_,t⟩:=s _ _ _ L;refine(Pp (l:=k+1) T0 (λi S' a=>b i S' a/\F X S' k=some (.deferred (some []))/\F X S' (k+1)=some (mk .ready none)) (T9.K t) (TY.K t) (TZ.K t)
  (by rw[p.df _ _ C];exact bs) (by rw[p.df _ _ C];exact a3) (by rw[p.df _ _ C];exact a4)
  (λi S' a e=> ?_) (λi am ak ah ar e m=> ?_) (λi q d am ak af e=> ?_) ⟨L,gl,T6⟩).Zm ?_
 ·obtain⟨T2,G⟩:=s _ _ _ e.1;exact⟨Zo,λh c=>by rw[G h c,t h c]⟩
 ·obtain⟨T2,G⟩:=s _ _ _ e.1;exact⟨O _ _ _ _ _ e.1 m.le (λh c _=>m.K h c),by rw[m.K _ Zo];exact e.2.1,by rw[m.K _ Zo];exact e.2.2⟩
 ·refine U1 _ _ _ _ _ e.2.2 ?_;have T3:Nat.blt w n=true:=by simp[Nat.blt];omega
  have T4:Nat.blt x n=true:=by simp[Nat.blt];omega
  simp only[tl,T3,T4,cE];exact U2 mk i q d am ak af e.1 e.2.1 e.2.2
 ·rintro M ah ar ⟨N,T5,T7⟩;obtain⟨T2,G⟩:=s _ _ _ N;refine⟨.ready,none,Zs,T7, ?_⟩;show S _ _ _;exact U0 _ _ (O _ _ _ _ _ N (Zg _) (λh c U3=>ag Zo U3)) (by rw[ag Zo Zo];exact T5)
def o7{α cz:Type}(st:cz->α->cz)(s:cz){l:List α}{i:Nat}{x:α}(e:l[i]? =some x):(l.take (i+1)).foldl st s=st ((l.take i).foldl st s) x:=by rw[ZE,e,Y7];rfl
def g0(s:(ax->Option Int)×(Int×Int))(x:Int×cR):(ax->Option Int)×(Int×Int):=
 (λw=>if w=x.2.name then some x.1 else s.1 w,if 0<(s.1 x.2.name).getD 0 then hw s.2 24 x.2.at_ else s.2)
def kt(t:ax->Option ct)(f:Int×Int)(x:Int×cR):Int×Int:=if t x.2.on=none/\x.2.on≠[]then hw f 23 x.2.cY else f
def l7(t:ax->Option ct)(g:GE)(f:Int×Int):Int×Int:=(c7 g).foldl (kt t) ((c7 g).foldl g0 (λ_=>none,f)).2
def v8(c:bW X){nm bK bM aB d:y}{a:y}(b:(o X).aD<=k):
 az X 24 [.agg [nm,a,bK,bM,aB,d]] j k (λM S' W=>M=.func (.func 46) [] [.ptr k 0]/\W=k+1/\aT X j k S' W/\ay X S' (.ptr k 2)=some bK/\ay X S' (.ptr k 3)=some bM/\ay X S' (.ptr k 4)=some aB) zW:=by
 refine z6 c (Lu ..) ?_;unfold Dd;refine br ⟨?_⟩;exact⟨rfl,rfl,b8,by rw[aZ (aJ b)];rfl,by rw[aZ (aJ b)];rfl,by rw[aZ (aJ b)];rfl⟩
structure kR(X:bf)(d:B R)(c a b:Nat)(p:y)(q:Int)(bw g:y)(f:Int×Int)(Q:ax->Option Int)(j:B R)(n:Nat):Prop where
 le:c+2<=n
 fQ:dC X j a p q bw g f
 seen:hY X j b (iA Q)
 low:∀h,h<c->h≠a->h≠b->F X j h=F X d h
def kR.K{g:B R}{a b d:Nat}{p bw i:y}{q:Int}{f:Int×Int}{Q:ax->Option Int}(e:kR X g a b d p q bw i f Q am ak)(r:b<a)(t:d<a)(v:ak<=ar)(c:∀h,h<ak->h≠a+1->F X ah h=F X am h):kR X g a b d p q bw i f Q ah ar:=by have s:=e.le;refine⟨Zo, ?_,e.seen.K (c _ Zo Zo),λh l m n=>by rw[c h Zo Zo];exact e.low h l m n⟩;have:=e.fQ;unfold dC at*;rw[c _ Zo Zo];exact this
def O4(T3:bW X){P:Nat->Prop}{c:Nat}{p bw N:y}{q:Int}{t:ax->Option ct}{g:GE}{row:List y}(VV:(o X).aD<=k)(Uk:(o X).aD<=c)(VB:c<k)
 (aU:∀h,P h->h<k/\h≠c)(VI:iv X j P bw t){f:Int×Int}(V5:dC X j c p q bw N f)(VC:ir X j P g row)(VR:True):
 az X 91 [.ptr c 0,.agg row] j k (λM S' W=>M=.tuple []/\dC X S' c p q bw N (l7 t g f)/\k<=W/\∀h,h<k->h≠c->F X S' h=F X j h) zW:=by
 refine tW (Nb X) (T3.none _ _ rfl) ?_;rw[Nc];unfold Ed;obtain⟨bK,bM,aB,Ur,bb,bn,bH,VO,aR,rfl,Ul,Um,Un,VQ,VP⟩:=VC;refine br ⟨?_⟩;refine c6 (λam=>F X am k=zO [.ptr c 0] 1/\F X am (k+1)=zO [.str g.name,.Z g.at_,bK,bM,aB,Ur] 6
  /\F X am (k+1+1)=some (.map [] 0)/\ay X am (.ptr (k+1+1+1) 0)=some (.map (k+1+1))/\aT X j k am (k+1+1+1+1)) ⟨by(first|assumption|(exact z2)|(simp(disch:=omega) only[aJ,ag])),by(first|assumption|(exact z2)|(simp(disch:=omega) only[aJ,ag])),by(first|assumption|(exact z2)|(simp(disch:=omega) only[aJ,ag])),by rw[bv,aJ Zo];rfl,b8⟩ ?_
 rintro am ⟨UI,Ud,Ue,UJ,V4⟩;refine(v8 T3 Zo).Zm ?_;rintro M ah ar ⟨rfl,rfl,UL,UZ,Ua,Ub⟩;have UK:aT X j k ah (k+1+1+1+1+1):=V4.trans UL;have UF:∀h,P h->F X ah h=F X j h:=λh a=>UK.K h (aU h a).1;rw[<-UL.K _ Zo]at UI Ud Ue;rw[<-UL.df _ _ Zo]at UJ;generalize VW:k+1+1+1+1+1=T0 at*;have V6:dC X ah c p q bw N f:=by unfold dC at*;rw[UK.K c VB];exact V5
 have VG:hY X ah (k+1+1) (iA λ_=>none):=⟨[],0,Ue,λ_=>rfl⟩;refine dV ?_;refine wa (P:=P) (g:=g) (bb:=bb) (bn:=bn) (bH:=bH) (bK:=bK) (bM:=bM) (aB:=aB) T3 (λi S' O=>kR X ah T0 c (k+1+1) p q bw N (((c7 g).take i).foldl g0 (λ_=>none,f)).2 (((c7 g).take i).foldl g0 (λ_=>none,f)).1 S' O) Zo Zo Zo Zo
  (Ul.K UF) (Um.K UF) (Un.K UF) UZ Ua Ub (λi S' O e=>⟨e.le,λh a=>e.low h (zK (aU h a).1) (aU h a).2 (zK (aU h a).1)⟩)
  (λi am ak ah ar e U5 US=>e.K Zo Zo U5 US) (λS' T6=>⟨Zg _,by unfold dC at*;rw[T6.K _ Zo];exact V6,VG.K (T6.K _ Zo),λh a _ _=>T6.K h a⟩) ?_ ?_
 ·intro mk i s d UH T2 af C gl Uz;rw[o7 g0 _ af];generalize ((c7 g).take i).foldl g0 (λ_=>none,f)=bj at C ⊢;have U5:=C.le;have UR:cV d=[.str d.name,.Z d.at_,.bool d.ty.b,.bool d.ty.s,.Z d.ty.w,.str d.on,.Z d.cY,.bool d.no]:=rfl;rw[UR];unfold ll;refine br ⟨?_⟩;generalize UN:aI X _ T2 _=v;have T7:F X v T2=zO [.str d.name,.Z d.at_,.bool d.ty.b,.bool d.ty.s,.Z d.ty.w,.str d.on,.Z d.cY,.bool d.no] 8:=by rw[<-UN,aJ Zo];rfl
  have UT:∀h,h<T2->F X v h=F X UH h:=λh a=>by rw[<-UN];exact zQ
  clear UN;refine⟨by rw[UT _ Zo];exact Uz, ?_⟩;generalize UO:aI X v (T0+1) _=w;have Uf:F X w (T0+1)=some (mk .busy none):=by rw[<-UO,aJ Zo]
  have UU:∀h,h≠T0+1->F X w h=F X v h:=λh a=>by rw[<-UO,ag Zo a]
  clear UO;have m:=C.K (ah:=w) (ar:=T2+1) Zo Zo Zo (λh r l=>by rw[UU h l,UT h r]);rw[<-UU _ Zo]at T7;have T8:F X w T0=some (.deferred (some [])):=by rw[UU _ Zo,UT _ Zo];exact gl
  have bk:ay X w (.ptr k 0)=some (.ptr c 0):=by rw[aZ (show F X w k=_ by rw[m.low _ Zo Zo Zo];exact UI)];rfl
  have bH:ay X w (.ptr (k+1+1+1) 0)=some (.map (k+1+1)):=zV (m.low _ Zo Zo Zo) UJ;have Uq:fb X w 9 (.Z 0) (.map (k+1+1)) (.str d.name) false=some (.Z ((bj.1 d.name).getD 0)):=by rw[pq m.seen];unfold iA;cases bj.1 d.name<;>rfl
  refine c8 @bH @Uq (aZ T7) ⟨?_⟩;refine dV ?_;refine c8 @bH @Uq (aZ T7) ⟨?_⟩;refine dW (λU8 S' O=>U8.g 4=some (.ptr (k+1+1+1) 0)/\U8.g 6=some (.ptr T2 0)/\U8.g 5=some (.Z s)/\kR X ah T0 c (k+1+1) p q bw N (g0 bj (s,d)).2 bj.1 S' O/\T2+1<=O
   /\F X S' T2=zO [.str d.name,.Z d.at_,.bool d.ty.b,.bool d.ty.s,.Z d.ty.w,.str d.on,.Z d.cY,.bool d.no] 8/\F X S' T0=some (.deferred (some []))/\F X S' (T0+1)=some (mk .busy none)) (λE Up=> ?_) ?_
  ·by_cases UE:0<(bj.1 d.name).getD 0
   ·have ap:decide (0<(bj.1 d.name).getD 0)=true:=(by simp[UE]);refine cb @ap @bk (aZ T7) ⟨?_⟩;refine(mS (j:=w) T3 Uk m.fQ 24 d.at_).Zm ?_;rintro M T4 UY ⟨rfl,V8,VF,U4⟩;refine br ⟨?_⟩;refine Up _ _ _ ⟨av,av,av,⟨Zo, ?_,m.seen.K (U4 _ Zo),λh r l T9=>by rw[U4 h l];exact m.low h r l T9⟩,Zo,by rw[U4 _ Zo];exact T7,by rw[U4 _ Zo];exact T8,by rw[U4 _ Zo];exact Uf⟩;unfold g0;simp only[UE,ZK];exact V8
   ·have ap:decide (0<(bj.1 d.name).getD 0)=false:=(by simp[UE]);refine bh @ap ⟨?_⟩;refine Up _ _ _ ⟨av,av,av,⟨Zo, ?_,m.seen,m.low⟩,Zo,T7,T8,Uf⟩;unfold g0;simp only[UE,ZJ];exact m.fQ
  ·rintro U8 T4 UY ⟨t4,VM,t5,U2,VF,T5,Uy,V1⟩;have VD:=U2.le;have Uu:ay X T4 (.ptr (k+1+1+1) 0)=some (.map (k+1+1)):=zV (U2.low _ Zo Zo Zo) UJ;show bt _ _;refine dE @t4 @VM @t5 @Uu (aZ T5) ⟨?_⟩;obtain⟨A,VH,V2,UB⟩:=uQ (k:=UY) (show(o X).aD<=k+1+1 by omega) U2.seen d.name (.Z s);refine d7 VH ?_;refine br ⟨?_⟩;refine⟨⟨.busy,none,by rw[UB _ Zo];exact V1⟩, ?_⟩;have V9:dC X A c p q bw N (g0 bj (s,d)).2:=(by have:=U2.fQ;unfold dC at*;rw[UB c Zo];exact this);have V3:hY X A (k+1+1) (iA (g0 bj (s,d)).1):=(by have:(λx=>if x=d.name then some (y.Z s)else iA bj.1 x)=iA (g0 bj (s,d)).1:=(by funext x;unfold iA g0;by_cases e:x=d.name<;>simp[e]);rw[<-this];exact V2);have TZ:kR X ah T0 c (k+1+1) p q bw N (g0 bj (s,d)).2 (g0 bj (s,d)).1 A UY:=⟨VD,V9,V3,λh r l T9=>by rw[UB h T9];exact U2.low h r l T9⟩;exact⟨rfl,TZ.K Zo Zo (Zg _) (λh r l=>ag Zo l),by rw[ag Zo Zo,UB _ Zo];exact Uy,aJ Zo⟩
 ·intro UH T2 C gl;rw[Yu]at C;unfold l7;generalize (c7 g).foldl g0 (λ_=>none,f)=bj at C ⊢;have U5:=C.le;have Uv:F X UH (k+1)=zO [.str g.name,.Z g.at_,bK,bM,aB,Ur] 6:=by rw[C.low _ Zo Zo Zo];exact Ud
  refine bh (aZ Uv) ⟨?_⟩;refine(v8 T3 Zo).Zm ?_;rintro M v VZ ⟨rfl,rfl,TY,UZ,Ua,Ub⟩;generalize VX:T2+1=bu at*;have V7:dC X v c p q bw N bj.2:=by have:=C.fQ;unfold dC at*;rw[TY.K c Zo];exact this
  have Uw:F X v T0=some (.deferred (some [])):=by rw[TY.K _ Zo];exact gl
  have UG:∀h,P h->F X v h=F X j h:=λh a=>by have:=aU h a;rw[TY.K h Zo,C.low h Zo this.2 Zo,UF h a]
  have Us:F X v k=zO [.ptr c 0] 1:=by rw[TY.K _ Zo,C.low _ Zo Zo Zo];exact UI
  refine dV ?_;refine wa (P:=P) (g:=g) (bb:=bb) (bn:=bn) (bH:=bH) (bK:=bK) (bM:=bM) (aB:=aB) T3 (λi S' O=>kR X v bu c (k+1+1) p q bw N (((c7 g).take i).foldl (kt t) bj.2) bj.1 S' O) Zo Zo Zo Zo
   (Ul.K UG) (Um.K UG) (Un.K UG) UZ Ua Ub (λi S' O e=>⟨e.le,λh a=>e.low h (zK (aU h a).1) (aU h a).2 (zK (aU h a).1)⟩)
   (λi am ak ah ar e U5 US=>e.K Zo Zo U5 US) (λS' T6=>⟨Zg _,by unfold dC at*;rw[T6.K _ Zo];exact V7,(C.seen.K (TY.K _ Zo)).K (T6.K _ Zo),λh a _ _=>T6.K h a⟩) ?_ ?_
  ·intro mk i s d w L af m T8 V0;rw[o7 (kt t) _ af];generalize ((c7 g).take i).foldl (kt t) bj.2=G at m ⊢;have VE:=m.le;have UR:cV d=[.str d.name,.Z d.at_,.bool d.ty.b,.bool d.ty.s,.Z d.ty.w,.str d.on,.Z d.cY,.bool d.no]:=rfl;rw[UR];unfold ll;refine br ⟨?_⟩;generalize UP:aI X _ L _=T4;have T5:F X T4 L=zO [.str d.name,.Z d.at_,.bool d.ty.b,.bool d.ty.s,.Z d.ty.w,.str d.on,.Z d.cY,.bool d.no] 8:=(by rw[<-UP,aJ Zo];rfl);have UV:∀h,h<L->F X T4 h=F X w h:=λh a=>(by rw[<-UP];exact zQ);clear UP;refine⟨by rw[UV _ Zo];exact V0, ?_⟩;generalize UQ:aI X T4 (bu+1) _=A;have U9:F X A (bu+1)=some (mk .busy none):=(by rw[<-UQ,aJ Zo]);have UW:∀h,h≠bu+1->F X A h=F X T4 h:=λh a=>(by rw[<-UQ,ag Zo a]);clear UQ;have TZ:=m.K (ah:=A) (ar:=L+1) Zo Zo Zo (λh r l=>by rw[UW h l,UV h r]);rw[<-UW _ Zo]at T5;have UA:F X A bu=some (.deferred (some [])):=(by rw[UW _ Zo,UV _ Zo];exact T8);have bk:ay X A (.ptr k 0)=some (.ptr c 0):=(by rw[aZ (show F X A k=_ by rw[TZ.low _ Zo Zo Zo];exact Us)];rfl);have VK:ay X A (.ptr c 2)=some bw:=(by have:=TZ.fQ;unfold dC at this;rw[aZ this];rfl);have U1:∀S' O,kR X v bu c (k+1+1) p q bw N (kt t G (s,d)) bj.1 S' O->F X S' bu=some (.deferred (some []))->(y.bool true=y.bool true/\kR X v bu c (k+1+1) p q bw N (kt t G (s,d)) bj.1 (aI X S' (bu+1) (some (mk .ready none))) O/\F X (aI X S' (bu+1) (some (mk .ready none))) bu=some (.deferred (some []))/\F X (aI X S' (bu+1) (some (mk .ready none))) (bu+1)=some (mk .ready none)):=λS' O e l=>
    ⟨rfl,e.K Zo Zo (Zg _) (λh r l=>ag Zo l),by rw[ag Zo Zo];exact l,aJ Zo⟩
   refine h5 ⟨?_⟩;refine dV ?_;refine cb @bk @VK (aZ T5) ⟨?_⟩;refine c6 (λU6=>F X U6 (L+1+10)=zO [.Z 0,.str [],.Z 0,.zT,.zT,.Z 0,.str [],.Z 0,.zT,.Z 0,.Z 0] 11/\aT X A (L+1) U6 (L+1+10+1)) ⟨by rw[aJ Zo];rfl,Zo,λh a=>zQ⟩ ?_;rintro U6 ⟨Ug,Ui⟩;refine(o9 (k:=L+1+13) (j:=U6) T3 Zo (VI.K (aK:=P) (λh a=>by have:=aU h a;rw[Ui.K h Zo,TZ.low h Zo this.2 Zo,UG h a]) (λ_ e=>e)) (λh a=>zK (aU h a).1) d.on).Zm ?_;rintro M Uc VL ⟨rfl,UM⟩;have VT:=UM.le;have Uh:F X Uc (L+1+10)=zO [.Z 0,.str [],.Z 0,.zT,.zT,.Z 0,.str [],.Z 0,.zT,.Z 0,.Z 0] 11:=(by rw[UM.K _ Zo];exact Ug);generalize VY:(t d.on).getD lQ=T1;have VJ:hG T1=[.Z T1.kind,.str T1.d.name,.Z T1.d.at_,.bool T1.d.ty.b,.bool T1.d.ty.s,.Z T1.d.ty.w,.str T1.d.on,.Z T1.d.cY,.bool T1.d.no,.Z T1.eq,.Z T1.left]:=rfl;rw[VJ];refine eO ⟨?_⟩;refine eO ⟨?_⟩;refine dh (eR (q:=11) (b:=L+1+10) (J:=0) (n:=11) Uh Zo rfl Zd Zd rfl) ?_;generalize Uj:aI X Uc (L+1+10) _=U7;have UX:∀h,h<L+1->F X U7 h=F X A h:=λh a=>(by rw[<-Uj,ag Zo Zo,UM.K h Zo,Ui.K h a]);clear Uj Ug Uh;have U0:kR X v bu c (k+1+1) p q bw N G bj.1 U7 VL:=TZ.K Zo Zo Zo (λh r l=>UX h r);rw[<-UX _ Zo]at T5 U9 UA;have Ut:ay X U7 (.ptr k 0)=some (.ptr c 0):=zV (UX _ Zo) bk;cases Uo:(t d.on)with
   |some Vb=>have U3:kt t G (s,d)=G:=(by unfold kt;rw[Zi (by simp[Uo])]);simp only[Z0];refine br ⟨?_⟩;rw[U3]at U1 ⊢;exact⟨⟨.busy,none,U9⟩,U1 _ _ U0 UA⟩|none=>
    simp only[Z6];by_cases UD:d.on=[]
    ·have U3:kt t G (s,d)=G:=(by unfold kt;rw[Zi (by simp[UD])]);have ap:decide (d.on≠[])=false:=(by simp[UD]);refine bA (aZ T5) @ap ⟨?_⟩;rw[U3]at U1 ⊢;exact⟨⟨.busy,none,U9⟩,U1 _ _ U0 UA⟩
    ·have U3:kt t G (s,d)=hw G 23 d.cY:=(by unfold kt;rw[Zu ⟨Uo,UD⟩]);have ap:decide (d.on≠[])=true:=(by simp[UD]);refine cb (aZ T5) @ap @Ut ⟨?_⟩;refine(mS (j:=U7) T3 Uk U0.fQ 23 d.cY).Zm ?_;rintro M VN Va ⟨rfl,VA,VU,UC⟩;refine br ⟨?_⟩;rw[U3]at U1 ⊢;have VS:=U0.le;exact⟨⟨.busy,none,by rw[UC _ Zo];exact U9⟩,U1 _ _ ⟨Zo,VA,U0.seen.K (UC _ Zo),λh r l T9=>by rw[UC h l];exact U0.low h r l T9⟩ (by rw[UC _ Zo];exact UA)⟩
  ·intro w L m T8;rw[Yu]at m;generalize (c7 g).foldl (kt t) bj.2=G at m ⊢;have VE:=m.le;have Ux:F X w T0=some (.deferred (some [])):=(by rw[m.low _ Zo Zo Zo];exact Uw);show ic X [] _ _ _ _ _;simp only[n8,nk,oT];refine⟨by show(o X).aD<=bu;omega,T8, ?_⟩;refine⟨by show(o X).aD<=T0;omega,by rw[ag Zo Zo];exact Ux, ?_⟩;show j8 _ _ _ _ _;refine⟨rfl, ?_,Zo,λh r l=> ?_⟩
   ·have:=m.fQ;unfold dC at*;rw[ag Zo Zo,ag Zo Zo];exact this
   ·rw[ag Zo Zo,ag Zo Zo,m.low h Zo l Zo,TY.K h Zo,C.low h Zo l Zo,UK.K h r]
def eQ(s:(ax->Option ct)×List ax)(x:Int×cR):(ax->Option ct)×List ax:=
 if (s.1 x.2.name).isSome then s else(λw=>if w=x.2.name then some ⟨x.1,x.2, -1, -1⟩else s.1 w,s.2++[x.2.name])
def ia(q:Nat)(t:ax->Option ct)(x:ax×Nat):ax->Option ct:=match t x.1 with
 |some v=>if v.eq<0 then(λw=>if w=x.1 then some ⟨v.kind,v.d,q,x.2⟩else t w)else t
 |none=>t
def rm(t:ax->Option ct)(x:cS×Nat):ax->Option ct:=x.1.left.zipIdx.foldl (ia x.2) t
def g4(g:GE):(ax->Option ct)×List ax:=(c7 g).foldl eQ (λ_=>none,[])
def dk(g:GE):ax->Option ct:=g.eqs.zipIdx.foldl rm (g4 g).1
def dd(g:GE):List ax:=(g4 g).2
def np(t:ax->Option ct):ax->Option y:=λw=>(t w).map λv=> .agg (hG v)
def BT{α:Type}{l:List α}{i:Nat}{x:α}(e:l[i]? =some x):l.zipIdx[i]? =some (x,i):=by rw[List.getElem?_zipIdx,e];simp
structure kX(X:bf)(b:B R)(d a bw aW:Nat)(t:ax->Option ct)(cf:List ax)(j:B R)(n:Nat):Prop where
 le:aW<=n
 map:hY X j a (np t)
 mx:∃c aB aQ,F X j bw=some (.cells c 2 .own)/\c.get 0=some (.map a)/\c.get 1=some aB/\cT X j aB 1 (cf.map .str) aQ/\∀h∈aQ,aW<=h/\h<n
 low:∀h,h<d->h≠a->h≠bw->F X j h=F X b h
def kX.K{g:B R}{a f bw aW:Nat}{t:ax->Option ct}{cf:List ax}(e:kX X g a f bw aW t cf am ak)(A:f<a)(G:bw<a)(x:a<=aW)(C:ak<=ar)(b:∀h,h<ak->(h<a\/aW<=h)->F X ah h=F X am h):kX X g a f bw aW t cf ah ar:=by have w:=e.le;refine⟨Zo,e.map.K (b _ Zo Zo), ?_,λh r s v=>by rw[b h Zo Zo];exact e.low h r s v⟩;obtain⟨c,aB,aQ,l,m,n,p,i⟩:=e.mx;exact⟨c,aB,aQ,by rw[b _ Zo Zo];exact l,m,n,p.K (λh d=>by have:=i h d;exact b h Zo Zo),λh d=>zK (i h d)⟩
def s5(Uu:bW X){P:Nat->Prop}{g:GE}{row:List y}(WG:(o X).aD<=k)(aU:∀h,P h->h<k)(Vh:ir X j P g row)(WF:(c7 g).length<=300000):
 az X 8 [.agg row] j k (λM S' W=>∃bw V3 aB b,M=.ptr bw 0/\bR k W bw/\bR k W V3/\ay X S' (.ptr bw 0)=some (.map V3)/\hY X S' V3 (np (dk g))/\ay X S' (.ptr bw 1)=some aB/\ca X S' (bR k W) b aB 1 (cQ (dd g))/\aT X j k S' W) zW:=by
 refine tW (M7 X) (Uu.none _ _ rfl) ?_;rw[M8];unfold D8;obtain⟨bK,bM,aB,Ui,bb,bn,bH,W6,aR,rfl,Vi,Vj,Vk,Uc,VF⟩:=Vh;refine br ⟨?_⟩;refine c6 (λam=>F X am k=zO [.str g.name,.Z g.at_,bK,bM,aB,Ui] 6
  /\F X am (k+1)=some (.map [] 0)/\F X am (k+1+1)=zO [.map (k+1),.au] 2/\ay X am (.ptr (k+1+1+1) 0)=some (.ptr (k+1+1) 0)/\aT X j k am (k+1+1+1+1)) ⟨by(first|assumption|(exact z2)|(simp(disch:=omega) only[aJ,ag])),by(first|assumption|(exact z2)|(simp(disch:=omega) only[aJ,ag])),by(first|assumption|(exact z2)|(simp(disch:=omega) only[aJ,ag])),by rw[bv,aJ Zo];rfl,b8⟩ ?_
 rintro am ⟨V7,V8,V9,Ua,Vd⟩;refine(v8 Uu Zo).Zm ?_;rintro M ah ar ⟨rfl,rfl,Us,UU,UV,UW⟩;have VA:aT X j k ah (k+1+1+1+1+1):=Vd.trans Us;have US:∀h,P h->F X ah h=F X j h:=λh a=>VA.K h (aU h a);rw[<-Us.K _ Zo]at V7 V8 V9;rw[<-Us.df _ _ Zo]at Ua;generalize WH:k+1+1+1+1+1=f at*;refine dV ?_;refine wa (P:=P) (g:=g) (bb:=bb) (bn:=bn) (bH:=bH) (bK:=bK) (bM:=bM) (aB:=aB) Uu (λi S' T5=>kX X ah f (k+1) (k+1+1) (f+2) (((c7 g).take i).foldl eQ (λ_=>none,[])).1 (((c7 g).take i).foldl eQ (λ_=>none,[])).2 S' T5/\(((c7 g).take i).foldl eQ (λ_=>none,[])).2.length<=i) Zo Zo Zo Zo
  (Vi.K US) (Vj.K US) (Vk.K US) UU UV UW (λi S' T5 e=>⟨e.1.le,λh a=>e.1.low h (zK (aU h a)) (zK (aU h a)) (zK (aU h a))⟩)
  (λi am ak ah ar e VI Vn=>⟨e.1.K Zo Zo Zo VI (λh p r=>Vn h p Zo),e.2⟩)
  (λS' Ur=>⟨⟨Zg _,⟨[],0,by rw[Ur.K _ Zo];exact V8,λ_=>rfl⟩,⟨_,.au,[],by rw[Ur.K _ Zo];exact V9,rfl,rfl,.inl (.inl ⟨rfl,rfl,rfl⟩),λh a=>by simp at a⟩,λh a _ _=>Ur.K h a⟩,Zs⟩) ?_ ?_
 ·intro mk i UI d UZ T1 af L gl Vc;rw[o7 eQ _ af];generalize ((c7 g).take i).foldl eQ (λ_=>none,[])=bj at L ⊢;obtain⟨L,Uy⟩:=L;have WB:=(Ze.1 af).1;have VI:=L.le;have Vg:cV d=[.str d.name,.Z d.at_,.bool d.ty.b,.bool d.ty.s,.Z d.ty.w,.str d.on,.Z d.cY,.bool d.no]:=rfl;rw[Vg];unfold ll;refine br ⟨?_⟩;generalize Uv:aI X _ T1 _=T7;have UC:F X T7 T1=zO [.str d.name,.Z d.at_,.bool d.ty.b,.bool d.ty.s,.Z d.ty.w,.str d.on,.Z d.cY,.bool d.no] 8:=by rw[<-Uv,aJ Zo];rfl
  have V2:∀h,h<T1->F X T7 h=F X UZ h:=λh a=>by rw[<-Uv];exact zQ
  clear Uv;refine⟨by rw[V2 _ Zo];exact Vc, ?_⟩;generalize U5:aI X T7 (f+1) _=O;have UD:F X O (f+1)=some (mk .busy none):=by rw[<-U5,aJ Zo]
  have UF:∀h,h≠f+1->F X O h=F X T7 h:=λh a=>by rw[<-U5,ag Zo a]
  clear U5;have T3:=L.K (ah:=O) (ar:=T1+1) Zo Zo Zo Zo (λh p r=>by rw[UF h Zo,V2 h p]);rw[<-UF _ Zo]at UC;have Ub:F X O f=some (.deferred (some [])):=by rw[UF _ Zo,V2 _ Zo];exact gl
  have bH:ay X O (.ptr (k+1+1+1) 0)=some (.ptr (k+1+1) 0):=zV (T3.low _ Zo Zo Zo) Ua;obtain⟨UM,WO,VW,U0,U1,Ug,Uh,C⟩:=T3.mx;have TZ:fb X O 9 (.agg [.Z 0,.str [],.Z 0,.zT,.zT,.Z 0,.str [],.Z 0,.zT,.Z 0,.Z 0]) (.map (k+1)) (.str d.name) true=some (.tuple [.agg (hG ((bj.1 d.name).getD lQ)),.bool (bj.1 d.name).isSome]):=by rw[pq T3.map];unfold np;cases bj.1 d.name<;>rfl
  generalize V1:(bj.1 d.name).getD lQ=l at TZ;have V0:hG l=[.Z l.kind,.str l.d.name,.Z l.d.at_,.bool l.d.ty.b,.bool l.d.ty.s,.Z l.d.ty.w,.str l.d.on,.Z l.d.cY,.bool l.d.no,.Z l.eq,.Z l.left]:=rfl;rw[V0]at TZ;have VG:∀S' T5 (G:(ax->Option ct)×List ax),kX X ah f (k+1) (k+1+1) (f+2) G.1 G.2 S' T5->G.2.length<=i+1->F X S' f=some (.deferred (some []))->(y.bool true=y.bool true/\(kX X ah f (k+1) (k+1+1) (f+2) G.1 G.2 (aI X S' (f+1) (some (mk .ready none))) T5/\G.2.length<=i+1)/\F X (aI X S' (f+1) (some (mk .ready none))) f=some (.deferred (some []))/\F X (aI X S' (f+1) (some (mk .ready none))) (f+1)=some (mk .ready none)):=λS' T5 G e Vo r=>
   ⟨rfl,⟨e.K Zo Zo Zo (Zg _) (λh p r=>ag Zo Zo),Vo⟩,by rw[ag Zo Zo];exact r,aJ Zo⟩
  refine h5 ⟨?_⟩;refine dV ?_;refine dE @bH (aZ U0) @U1 (aZ UC) @TZ ⟨?_⟩;generalize VC:aI X _ (T1+1+10) _=T2;have UR:∀h,h<T1+1->F X T2 h=F X O h:=λh a=>by rw[<-VC];exact zQ
  clear VC TZ;have A:kX X ah f (k+1) (k+1+1) (f+2) bj.1 bj.2 T2 (T1+1+13):=T3.K Zo Zo Zo Zo (λh p r=>UR h p);rw[<-UR _ Zo]at UC UD Ub;have UL:ay X T2 (.ptr (k+1+1+1) 0)=some (.ptr (k+1+1) 0):=zV (UR _ Zo) bH;have VQ:F X T2 (k+1+1)=some (.cells UM 2 .own):=by rw[UR _ Zo];exact U0
  cases U7:bj.1 d.name with
  |some WQ=>have T9:eQ bj (UI,d)=bj:=(by unfold eQ;rw[Zu (by simp[U7])]);rw[T9];simp only[Z0];refine br ⟨?_⟩;exact⟨⟨.busy,none,UD⟩,VG _ _ bj (A.K Zo Zo Zo Zo (λ_ _ _=>rfl)) Zo Ub⟩|none=>
   have T9:eQ bj (UI,d)=(λw=>if w=d.name then some ⟨UI,d, -1, -1⟩else bj.1 w,bj.2++[d.name]):=(by unfold eQ;rw[Zi (by simp[U7])]);rw[T9];simp only[Z6];refine c9 @UL (aZ VQ) @U1 (aZ UC) ⟨?_⟩;generalize W8:T1+1+13+10=N;obtain⟨T0,Ud,VB,UP⟩:=uQ (k:=N) (show(o X).aD<=k+1 by omega) A.map d.name (.agg (hG ⟨UI,d, -1, -1⟩));refine d7 Ud ?_;have V6:ay X T0 (.ptr (k+1+1+1) 0)=some (.ptr (k+1+1) 0):=zV (UP _ Zo) UL;have VR:F X T0 (k+1+1)=some (.cells UM 2 .own):=(by rw[UP _ Zo];exact VQ);rw[<-UP _ Zo]at UC UD Ub;refine c9 @V6 (aZ VR) @Ug (aZ UC) ⟨?_⟩;generalize U6:aI X T0 (N+7) _=T8;have VZ:F X T8 (N+7)=zO [.str d.name] 1:=(by rw[<-U6,aJ Zo]);have T4:∀h,h<N->F X T8 h=F X T0 h:=λh a=>(by rw[<-U6];exact zQ);clear U6 Ud;obtain⟨V5,UB,VV,Vf,VM,VD,UE⟩:=(Uh.K (S':=T8) (λh a=>by have:=C h a;rw[T4 h Zo,UP h Zo,UR h Zo])).append (k:=N+12) Zd (g6 VZ (fS _) rfl _) rfl Zd rfl Zx Zo (λh a=>zK (C h a));refine d7 Vf ?_;have UH:∀h,h<N->h∉VW->F X UB h=F X T0 h:=λh a e=>(by rw[UE h Zo e,T4 h a]);have VU:ay X UB (.ptr (k+1+1+1) 0)=some (.ptr (k+1+1) 0):=zV (UH _ Zo (λe=>zK (C _ e))) V6;have W3:F X UB (k+1+1)=some (.cells UM 2 .own):=(by rw[UH _ Zo (λe=>zK (C _ e))];exact VR);refine bh @VU ⟨?_⟩;refine ed (by simp[y.same]) ?_;obtain⟨W0,W1,WL⟩:=en.one VM;refine dh (jE W3 Zo Zo W0 W1) ?_;refine br ⟨?_⟩;generalize Ux:aI X UB (k+1+1) _=Um;have W4:F X Um (k+1+1)=some (.cells (UM.set 1 (some V5)) 2 .own):=(by rw[<-Ux,aJ Zo]);have UT:∀h,h≠k+1+1->F X Um h=F X UB h:=λh a=>(by rw[<-Ux,ag Zo a]);clear Ux;have Vz:∀h,h<T1+1->(h<f\/h=f\/h=f+1)->h≠k+1+1->h≠k+1->F X Um h=F X T2 h:=λh a p r TY=>(by rw[UT h r,UH h Zo (λe=>zK (C _ e)),UP h TY]);refine⟨⟨.busy,none, ?_⟩,VG _ _ (_,bj.2++[d.name]) ⟨Zo, ?_,⟨UM.set 1 (some V5),V5,VV,W4, ?_, ?_, ?_, ?_⟩, ?_⟩ Zx ?_⟩
   ·rw[UT _ Zo,UH _ Zo (λe=>zK (C _ e))];exact UD
   ·have:(λx=>if x=d.name then some (y.agg (hG ⟨UI,d, -1, -1⟩))else np bj.1 x)=np (λw=>if w=d.name then some ⟨UI,d, -1, -1⟩else bj.1 w):=(by funext x;unfold np;by_cases e:x=d.name<;>simp[e]);rw[this]at VB;exact VB.K (by rw[UT _ Zo,UH _ Zo (λe=>zK (C _ e))])
   ·rw[B.eX,Zi Zd];exact U1
   ·rw[B.eX,Zu rfl]
   ·rw[ZR];exact .inl (VM.K λh a=>UT h (by rcases VD h a with rfl|e;omega;have:=C _ e;omega))
   ·intro h a;rcases VD h a with rfl|e
    ·omega
    ·have:=C _ e;omega
   ·intro h p r TY;rw[Vz h Zo (.inl p) TY r];exact A.low h p r TY
   ·rw[UT _ Zo,UH _ Zo (λe=>zK (C _ e))];exact Ub
 ·intro UZ T1 L gl;rw[Yu]at L;obtain⟨L,Uy⟩:=L;change kX X ah f (k+1) (k+1+1) (f+2) (g4 g).1 (g4 g).2 UZ T1 at L;change (g4 g).2.length<=_ at Uy;have Va:F X UZ k=zO [.str g.name,.Z g.at_,bK,bM,aB,Ui] 6:=by rw[L.low _ Zo Zo Zo];exact V7
  have VO:=VF.wide;have VJ:=Uc.len;have Vp:=Uc.many;rw[VO.1]at VJ Vp;refine bA (aZ Va) @VJ ⟨?_⟩;refine cG (λm z S' T5=>∃(E:Nat),z.g 3=some (.ptr (k+1+1+1) 0)/\z.g 54=some Ui/\z.g 55=some (.Z g.eqs.length)/\z.g 56=some (.Z E)/\z.aP=[⟨.collected f,[]⟩]/\E+m=g.eqs.length
   /\kX X ah f (k+1) (k+1+1) (f+2) ((g.eqs.zipIdx.take E).foldl rm (g4 g).1) (g4 g).2 S' T5/\F X S' f=some (.deferred (some [])))
   g.eqs.length ⟨0,av,av,av,cW,rfl,Zo,L,gl⟩ ?_
  rintro m z T7 UJ ⟨E,t3,U9,U2,U3,UA,WC,U4,Uq⟩;have WD:=U4.le;cases m with
  |zero=>
   have ap:=zL E g.eqs.length;have VS:ay X T7 (.ptr (k+1+1+1) 0)=some (.ptr (k+1+1) 0):=zV (U4.low _ Zo Zo Zo) Ua;refine dE @U3 @U2 @t3 @ap @VS ⟨?_⟩;have Vm:(g.eqs.zipIdx.take E).foldl rm (g4 g).1=dk g:=(by rw[Zy Zx];rfl);rw[Vm]at U4;show ic X [.tmp 2] _ _ _ _ _;simp only[nk,UA];refine⟨by show(o X).aD<=f;omega,Uq, ?_⟩;show j8 _ _ _ _ _;unfold j8;refine br ⟨?_⟩;have T3:=U4.K (ah:=aI X T7 f (some (.deferred none))) Zo Zo Zo (Zg _) (λh p r=>ag Zo Zo);obtain⟨c,s,aQ,U0,U1,Ug,Uh,C⟩:=T3.mx;obtain⟨b,T⟩:=Uh.kH (P:=bR k UJ) (by simp[dd]at Uy ⊢;omega) (λh a=>by have:=C h a;exact⟨Zo,Zo⟩);refine⟨k+1+1,k+1,s,b,rfl,⟨Zo,Zo⟩,⟨Zo,Zo⟩,by rw[aZ U0];exact U1,T3.map,by rw[aZ U0];exact Ug, ?_,Zo,λh a=> ?_⟩
   ·have:cQ (dd g)=((g4 g).2.map y.str).map λv=>[v]:=(by unfold cQ dd;rw[Z2];rfl);rw[this];exact T
   ·rw[T3.low h Zo Zo Zo];exact VA.K h a
  |succ m=>
   have ap:=zM E g.eqs.length;have VY:=zP E;obtain⟨V,VK⟩:=zN g.eqs E;obtain⟨row,Vu,Vt⟩:=VF.get E V VK;have Vx:∀h,P h->F X T7 h=F X j h:=λh a=>(by have:=aU h a;rw[U4.low h Zo Zo Zo,US h a]);have Vl:=Uc.c0 E (by rw[VO.1];omega);have Vv:=(Uc.K Vx).row Zd Vu;obtain⟨VP,WM,bS,bU,WN,rfl,UQ,Vq,WI,Vr⟩:=Vt;have WJ:=fU UQ.len;have WK:=fU Vq.1.len;have VL:=UQ.len;have Vs:=UQ.many;rw[show(cQ V.left).length=V.left.length from by simp[cQ]]at VL Vs;have Uz:=o7 rm (g4 g).1 (BT VK);rw[show(V,E)=(V,E) from rfl]at Uz;generalize WA:(g.eqs.zipIdx.take E).foldl rm (g4 g).1=Ul at U4 Uz;refine eC @U3 @U2 @U9 @ap @Vl @Vv ⟨?_⟩;refine dh (eR (q:=4) (b:=UJ) (J:=0) (n:=4) (c:=B.ofList [.au,.au,.Z 0,.bE] 0 .nil) (aJ Zo) Zo rfl Zd Zd Vr) ?_;generalize U5:aI X _ UJ _=O;have UD:ay X O (.ptr UJ 0)=some VP:=(by rw[<-U5,bv,aJ Zo];rfl);have UF:∀h,h<UJ->F X O h=F X T7 h:=λh a=>(by rw[<-U5];exact zQ);clear U5;have T3:kX X ah f (k+1) (k+1+1) (f+2) Ul (g4 g).2 O (UJ+1):=U4.K Zo Zo Zo Zo (λh p r=>UF h p);rw[<-UF _ Zo]at Uq;refine bA @UD @VL ⟨?_⟩;refine cG (λU8 z S' T5=>∃(i:Nat),z.g 3=some (.ptr (k+1+1+1) 0)/\z.g 54=some Ui/\z.g 55=some (.Z g.eqs.length)/\z.g 56=some (.Z E)/\z.aP=[⟨.collected f,[]⟩]/\z.g 8=some (.Z E)/\z.g 62=some VP/\z.g 63=some (.Z V.left.length)/\z.g 64=some (.Z i)/\i+U8=V.left.length
    /\kX X ah f (k+1) (k+1+1) (f+2) ((V.left.zipIdx.take i).foldl (ia E) Ul) (g4 g).2 S' T5/\F X S' f=some (.deferred (some [])))
    V.left.length ⟨0,Y t3,Y U9,Y U2,Y U3,UA,av,av,av,cW,Zo,T3,Uq⟩ ?_
   rintro U8 W5 T2 T6 ⟨i,t3,U9,U2,U3,UA,Uk,Uj,UY,UK,af,A,UN⟩;have WE:=A.le;cases U8 with
   |zero=>have ap:=zL i V.left.length;refine dE @UK @UY @U3 @ap @VY ⟨?_⟩;rw[Zy Zx]at A;refine⟨m,Zo,E+1,Y t3,Y U9,Y U2,av,UA,Zo, ?_,UN⟩;rw[Uz];exact A|succ U8=>
    have ap:=zM i V.left.length;have Uo:=zP i;obtain⟨w,VN⟩:=zN V.left i;have Vy:∀h,P h->F X T2 h=F X j h:=λh a=>(by have:=aU h a;rw[A.low h Zo Zo Zo,US h a]);have VH:=UQ.c0 i (by simp[cQ];omega);have VE:=(UQ.K Vy).cell i [.str w] 0 (.str w) (by unfold cQ;rw[Zn,VN];rfl) rfl;rw[ZF]at VH;rw[ZF,ZL]at VE;have Uf:=o7 (ia E) Ul (BT VN);generalize W9:(V.left.zipIdx.take i).foldl (ia E) Ul=t at A Uf;have UL:ay X T2 (.ptr (k+1+1+1) 0)=some (.ptr (k+1+1) 0):=zV (A.low _ Zo Zo Zo) Ua;obtain⟨VX,WP,W7,U0,U1,Ug,Uh,C⟩:=A.mx;have TZ:fb X T2 9 (.agg [.Z 0,.str [],.Z 0,.zT,.zT,.Z 0,.str [],.Z 0,.zT,.Z 0,.Z 0]) (.map (k+1)) (.str w) true=some (.tuple [.agg (hG ((t w).getD lQ)),.bool (t w).isSome]):=(by rw[pq A.map];unfold np;cases t w<;>rfl);generalize V1:(t w).getD lQ=l at TZ;have V0:hG l=[.Z l.kind,.str l.d.name,.Z l.d.at_,.bool l.d.ty.b,.bool l.d.ty.s,.Z l.d.ty.w,.str l.d.on,.Z l.d.cY,.bool l.d.no,.Z l.eq,.Z l.left]:=rfl;rw[V0]at TZ;refine cd @UK @UY @Uj @t3 @ap @VH (Za @VE (Za @UL (Za (aZ U0) (Za @U1 @TZ)))) ⟨?_⟩;generalize Uw:aI X _ T6 _=T0;have Up:F X T0 T6=zO [.Z l.kind,.str l.d.name,.Z l.d.at_,.bool l.d.ty.b,.bool l.d.ty.s,.Z l.d.ty.w,.str l.d.on,.Z l.d.cY,.bool l.d.no,.Z l.eq,.Z l.left] 11:=(by rw[<-Uw,aJ Zo];rfl);have UG:∀h,h<T6->F X T0 h=F X T2 h:=λh a=>(by rw[<-Uw];exact zQ);clear Uw;have UO:kX X ah f (k+1) (k+1+1) (f+2) t (g4 g).2 T0 (T6+1):=A.K Zo Zo Zo Zo (λh p r=>UG h p);rw[<-UG _ Zo]at UN;cases U7:t w with
    |none=>have T9:ia E t (w,i)=t:=(by unfold ia;simp only[U7]);simp only[Z6];refine bA @UK @Uo ⟨?_⟩;exact⟨U8,Zo,i+1,Y t3,Y U9,Y U2,Y U3,UA,Y Uk,Y Uj,Y UY,av,Zo,by rw[Uf,T9];exact UO,UN⟩|some v=>
     have Vw:v=l:=(by rw[U7]at V1;exact V1);subst Vw;simp only[Z0];by_cases Ue:v.eq<0
     ·have Un:decide (v.eq<0)=true:=(by simp[Ue]);have T9:ia E t (w,i)=λx=>if x=w then some ⟨v.kind,v.d,E,i⟩else t x:=(by unfold ia;simp only[U7,Ue,ZK]);refine c9 (aZ Up) @Un @Uk @UK ⟨?_⟩;generalize U6:aI X (aI X T0 T6 _) T6 _=T8;have Vb:F X T8 T6=zO [.Z v.kind,.str v.d.name,.Z v.d.at_,.bool v.d.ty.b,.bool v.d.ty.s,.Z v.d.ty.w,.str v.d.on,.Z v.d.cY,.bool v.d.no,.Z E,.Z i] 11:=(by rw[<-U6,aJ Zo];rfl);have T4:∀h,h≠T6->F X T8 h=F X T0 h:=λh a=>(by rw[<-U6,ag Zo a,ag Zo a]);clear U6 Up;have Ut:kX X ah f (k+1) (k+1+1) (f+2) t (g4 g).2 T8 (T6+1):=⟨UO.le,UO.map.K (T4 _ Zo),by
       obtain⟨c,s,aQ,V4,UU,UV,UW,UX⟩:=A.mx;exact⟨c,s,aQ,by rw[T4 _ Zo,UG _ Zo];exact V4,UU,UV,UW.K (λh a=>by have:=UX h a;rw[T4 h Zo,UG h Zo]),λh a=>zK (UX h a)⟩,
       λh p r TY=>by rw[T4 h Zo];exact UO.low h p r TY⟩
      have VT:ay X T8 (.ptr (k+1+1+1) 0)=some (.ptr (k+1+1) 0):=(by rw[bv,T4 _ Zo,UG _ Zo, <-bv];exact UL);have W2:F X T8 (k+1+1)=some (.cells VX 2 .own):=(by rw[T4 _ Zo,UG _ Zo];exact U0);refine dE @t3 @VT (aZ W2) @U1 (aZ Vb) ⟨?_⟩;obtain⟨UB,Ud,Ve,UE⟩:=uQ (k:=T6+1+7) (show(o X).aD<=k+1 by omega) Ut.map w (.agg (hG ⟨v.kind,v.d,E,i⟩));refine d7 Ud ?_;refine bA @UK @Uo ⟨?_⟩;refine⟨U8,Zo,i+1,Y t3,Y U9,Y U2,Y U3,UA,Y Uk,Y Uj,Y UY,av,Zo, ?_,by rw[UE _ Zo,T4 _ Zo];exact UN⟩;rw[Uf,T9];refine⟨Zo, ?_, ?_,λh p r TY=>by rw[UE h r];exact Ut.low h p r TY⟩
      ·have:(λx=>if x=w then some (y.agg (hG ⟨v.kind,v.d,E,i⟩))else np t x)=np (λx=>if x=w then some ⟨v.kind,v.d,E,i⟩else t x):=(by funext x;unfold np;by_cases e:x=w<;>simp[e]);rw[<-this];exact Ve
      ·obtain⟨c,s,aQ,V4,UU,UV,UW,UX⟩:=Ut.mx;exact⟨c,s,aQ,by rw[UE _ Zo];exact V4,UU,UV,UW.K (λh a=>by have:=UX h a;exact UE h Zo),λh a=>zK (UX h a)⟩
     ·have Un:decide (v.eq<0)=false:=(by simp[Ue]);have T9:ia E t (w,i)=t:=(by unfold ia;simp only[U7,Ue,ZJ]);refine c9 (aZ Up) @Un @UK @Uo ⟨?_⟩;exact⟨U8,Zo,i+1,Y t3,Y U9,Y U2,Y U3,UA,Y Uk,Y Uj,Y UY,av,Zo,by rw[Uf,T9];exact UO,UN⟩
end
end
end Go.Proofs.YtehmapikajmjaaaGreatDoor
namespace Go.aj
structure eG where
 N:ax->Prop
 sf:cD->Prop
 L:cD->Int->Prop
 aD:∀s,N s->s≠[]
 bw:sf ⟨true,false,1⟩
 dr:L ⟨true,false,1⟩ 0
 bG:L ⟨true,false,1⟩ 1
 lt:∀t n,L t n->sf t
 A:Int->Prop
 a0:A 0
structure p3(a1:eG)(x:Tok):Prop where
 name:x.kind=1->a1.N x.text
 type:x.kind=3->a1.sf x.ty
 num:x.kind=4->0<=x.n
 lit:x.kind=5->a1.L x.ty x.n
 pos:x.kind≠7->a1.A x.at_
def ee(a1:eG)(l:List Tok):Prop:=∀x∈l,p3 a1 x
def ee.jc{a1:eG}{x:Tok}{l:List Tok}(e:ee a1 (x::l)):ee a1 l:=λh a=>e h (Zw _ a)
def ee.al{a1:eG}{x:Tok}{l:List Tok}(e:ee a1 (x::l)):p3 a1 x:=e x (Zp ..)
def kp(q:Int):Option Nat:=if q=25 then none else if q=1\/q=2 then some 0 else if q=3\/q=4\/q=5\/q=6\/q=19\/q=20\/q=26 then some 1 else if q=23 then some 3 else some 2
def lF(q:Int):Prop:=q=2\/q=6\/q=24\/q=25
def lG(q:Int):Prop:=q=1\/q=26
structure pZ(a1:eG)(u:aX):Prop where
 a:a1.A u.at_
 a7:1<=u.kind
 bl:u.kind<=26
 oR:∀m,kp u.kind=some m->u.args.length=m
 nm:lF u.kind->a1.N u.name
 wZ:¬lF u.kind->u.name=[]
 no:u.no=true->u.kind=6
 ty:lG u.kind->a1.sf u.ty
 cg:¬lG u.kind->u.ty=cg
 Hb:u.kind=1->a1.L u.ty u.n
 cf:u.kind=19\/u.kind=20->0<=u.n/\u.n<=63
 aD:u.kind≠1->u.kind≠19->u.kind≠20->u.n=0
 gP:u.kind=21->∃l r,u.args=[l,r]/\(l.kind=1\/l.kind=4/\∃x,l.args=[x]/\x.kind=1)
mutual
def dv(a1:eG):aX->Prop
 | .mk q a nm no ty n args=>pZ a1 (.mk q a nm no ty n args)/\dK a1 args
def dK(a1:eG):List aX->Prop
 |[]=>True|u::l=>dv a1 u/\dK a1 l
end
def dv.eq{a1:eG}(u:aX):dv a1 u=(pZ a1 u/\dK a1 u.args):=by cases u;rw[dv];rfl
def dK.cons{a1:eG}{u:aX}{l:List aX}(e:dv a1 u)(q:dK a1 l):dK a1 (u::l):=by rw[dK];exact⟨e,q⟩
def dK.nil{a1:eG}:dK a1 []:=by rw[dK];trivial
def dK.app{a1:eG}{u:aX}(e:dv a1 u):∀{l:List aX},dK a1 l->dK a1 (l++[u]):=by intro l;induction l with|nil=>intro _;exact dK.cons e dK.nil|cons a l U=>intro q;rw[dK]at q;exact dK.cons q.1 (U q.2)
def b6(a1:eG){α:Type}(aK:α->Prop)(x:dn α):Prop:=∀a b,x=some (.ok (a,b))->ee a1 b/\aK a
section
variable{a1:eG}{α cz:Type}
def b6.none{aK:α->Prop}:b6 a1 aK none:=λ_ _ e=>by cases e
def b6.ok{aK:α->Prop}{a:α}{l:List Tok}(e:ee a1 l)(V:aK a):b6 a1 aK (aj.ok a l):=λb c u=>by cases u;exact⟨e,V⟩
def b6.bad{aK:α->Prop}(a:Int):b6 a1 aK (aj.bad a:dn α):=λb c u=>by cases u
def b6.andThen{aK:α->Prop}{b:cz->Prop}{x:dn α}{f:α->List Tok->dn cz}(e:b6 a1 aK x)(q:∀a c,ee a1 c->aK a->b6 a1 b (f a c)):b6 a1 b (aj.andThen x f):=by
 unfold aj.andThen;split
 ·exact b6.none
 ·exact λ_ _ u=>by cases u
 ·rename_i a l;obtain⟨d,g⟩:=e a l rfl;grind
def p3.ek{x:Tok}{s:ax}(e:p3 a1 x)(a:ek x s=true):a1.A x.at_:=e.pos λu=>by simp[aj.ek,u]at a
def ij{s:ax}{l:List Tok}(e:ee a1 l):b6 a1 (λx:Tok=>a1.A x.at_) (cq s l):=by
 cases l with
 |nil=>exact b6.none|cons x l=>
  simp only[cq];split
  ·rename_i a;exact b6.ok e.jc (e.al.ek a)
  ·exact b6.bad _
def ml{q:Int}{l:List Tok}(e:ee a1 l):b6 a1 (λx:Tok=>p3 a1 x/\x.kind=q) (eT q l):=by
 cases l with
 |nil=>exact b6.none|cons x l=>
  simp only[eT];split
  ·rename_i a;exact b6.ok e.jc ⟨e.al,a⟩
  ·exact b6.bad _
def jG{s:ax}{l:List Tok}{f:Option Tok->List Tok->dn cz}{aK:cz->Prop}(e:ee a1 l)(c:∀x b,a1.A x.at_->ee a1 b->b6 a1 aK (f (some x) b))(d:b6 a1 aK (f none l)):b6 a1 aK (eE s l f):=by
 cases l with
 |nil=>exact b6.none|cons x l=>
  unfold eE gv;by_cases a:ek x s=true
  ·simp only[a];exact c x l (e.al.ek a) e.jc
  ·grind
def vN{l:List Tok}(e:ee a1 l):∀(os:List (ax×Int)) u c,hM os l=some (u,c)->ee a1 c/\∀x,u=some x->∃J∈os,∃a,a1.A a/\x=.mk J.2 a [] false cg 0 []:=by
 intro os;induction os with
 |nil=>intro u c b;cases b;exact⟨e,λx f=>by cases f⟩|cons J os U=>
  obtain⟨s,q⟩:=J;intro u c b;cases l with
  |nil=>simp[hM,gv]at b|cons x l=>
   unfold hM gv at b;by_cases d:ek x s=true
   ·simp only[d]at b;cases b;exact⟨e.jc,λh g=>by cases g;exact⟨_,Zp ..,_,e.al.ek d,rfl⟩⟩
   ·grind
def IN{q a:Int}{x h:aX}(i:7<=q/\q<=18\/q=22)(f:dv a1 x)(g:dv a1 h)(c:a1.A a):dv a1 (.mk q a [] false cg 0 [x,h]):=by
 refine⟨⟨c,by simp only[aX.kind];omega,by simp only[aX.kind];omega, ?_, ?_,λ_=>rfl,(λe=>absurd e (by simp[aX.no])), ?_,λ_=>rfl, ?_, ?_,λ_ _ _=>rfl, ?_⟩,dK.cons f (dK.cons g dK.nil)⟩
 ·intro m d;have b:kp q=some m:=d;unfold kp at b;rw[Zi Zo,Zi Zo,Zi Zo,Zi Zo]at b;cases b;rfl
 ·intro e;simp only[lF,aX.kind]at e;omega
 ·intro e;simp only[lG,aX.kind]at e;omega
 ·intro e;simp only[aX.kind]at e;omega
 ·intro e;simp only[aX.kind]at e;omega
 ·intro e;simp only[aX.kind]at e;omega
def vd{q a n:Int}{nm:ax}{no:Bool}{ty:cD}{x:aX}(p:q=3\/q=4\/q=5\/q=6\/q=19\/q=20\/q=26)(t:q=6->a1.N nm)(f:q≠6->nm=[]/\no=false)(w:q=26->a1.sf ty)(A:q≠26->ty=cg)(s:q=19\/q=20->0<=n/\n<=63)(v:q≠19->q≠20->n=0)(C:dv a1 x)(l:a1.A a):dv a1 (.mk q a nm no ty n [x]):=by
 refine⟨⟨l,by simp only[aX.kind];omega,by simp only[aX.kind];omega, ?_, ?_, ?_, ?_, ?_, ?_, ?_,s, ?_, ?_⟩,dK.cons C dK.nil⟩
 ·intro m r;have b:kp q=some m:=r;unfold kp at b;rw[Zi Zo,Zi Zo,Zu p]at b;cases b;rfl
 ·intro e;simp only[lF,aX.kind]at e;exact t Zo
 ·intro e;simp only[lF,aX.kind]at e;exact(f Zo).1
 ·intro e;by_cases d:q=6
  ·exact d
  ·have c:=e;rw[(f d).2]at c;cases c
 ·intro e;simp only[lG,aX.kind]at e;exact w Zo
 ·intro e;simp only[lG,aX.kind]at e;exact A Zo
 ·intro e;simp only[aX.kind]at e;omega
 ·intro G g i;exact v g i
 ·intro e;simp only[aX.kind]at e;omega
def IM{a n:Int}{ty:cD}(e:a1.L ty n)(c:a1.A a):dv a1 (.mk 1 a [] false ty n []):=by exact⟨⟨c,by simp[aX.kind],by simp[aX.kind],λm b=>by simp[kp,aX.kind]at b;simp[aX.args, <-b],λe=>by simp[lF,aX.kind]at e,λ_=>rfl,(λe=>absurd e (by simp[aX.no])),λ_=>a1.lt _ _ e,λe=>by simp[lG,aX.kind]at e,λ_=>e,λe=>by simp[aX.kind]at e,λe=>by simp[aX.kind]at e,λe=>by simp[aX.kind]at e⟩,dK.nil⟩
def ac7{a:Int}{nm:ax}(e:a1.N nm)(c:a1.A a):dv a1 (.mk 2 a nm false cg 0 []):=by exact⟨⟨c,by simp[aX.kind],by simp[aX.kind],λm b=>by simp[kp,aX.kind]at b;simp[aX.args, <-b],λ_=>e,λe=>by simp[lF,aX.kind]at e,(λe=>absurd e (by simp[aX.no])),λe=>by simp[lG,aX.kind]at e,λ_=>rfl,λe=>by simp[aX.kind]at e,λe=>by simp[aX.kind]at e,λ_ _ _=>rfl,λe=>by simp[aX.kind]at e⟩,dK.nil⟩
def ac3{a:Int}{nm:ax}{b:List aX}(e:a1.N nm)(q:dK a1 b)(c:a1.A a):dv a1 (.mk 25 a nm false cg 0 b):=by exact⟨⟨c,by simp[aX.kind],by simp[aX.kind],λm d=>by simp[kp,aX.kind]at d,λ_=>e,λe=>by simp[lF,aX.kind]at e,(λe=>absurd e (by simp[aX.no])),λe=>by simp[lG,aX.kind]at e,λ_=>rfl,λe=>by simp[aX.kind]at e,λe=>by simp[aX.kind]at e,λ_ _ _=>rfl,λe=>by simp[aX.kind]at e⟩,q⟩
def ac5{a:Int}{x h aw:aX}(d:dv a1 x)(f:dv a1 h)(g:dv a1 aw)(c:a1.A a):dv a1 (.mk 23 a [] false cg 0 [x,h,aw]):=by exact⟨⟨c,by simp[aX.kind],by simp[aX.kind],λm b=>by simp[kp,aX.kind]at b;simp[aX.args, <-b],λe=>by simp[lF,aX.kind]at e,λ_=>rfl,(λe=>absurd e (by simp[aX.no])),λe=>by simp[lG,aX.kind]at e,λ_=>rfl,λe=>by simp[aX.kind]at e,λe=>by simp[aX.kind]at e,λ_ _ _=>rfl,λe=>by simp[aX.kind]at e⟩,dK.cons d (dK.cons f (dK.cons g dK.nil))⟩
def ac6{a:Int}{nm:ax}{x h:aX}(e:a1.N nm)(d:dv a1 x)(f:dv a1 h)(c:a1.A a):dv a1 (.mk 24 a nm false cg 0 [x,h]):=by exact⟨⟨c,by simp[aX.kind],by simp[aX.kind],λm b=>by simp[kp,aX.kind]at b;simp[aX.args, <-b],λ_=>e,λe=>by simp[lF,aX.kind]at e,(λe=>absurd e (by simp[aX.no])),λe=>by simp[lG,aX.kind]at e,λ_=>rfl,λe=>by simp[aX.kind]at e,λe=>by simp[aX.kind]at e,λ_ _ _=>rfl,λe=>by simp[aX.kind]at e⟩,dK.cons d (dK.cons f dK.nil)⟩
def ac4{a:Int}{x h:aX}(e:k9 x=some true)(g:dv a1 x)(i:dv a1 h)(d:a1.A a):dv a1 (.mk 21 a [] false cg 0 [x,h]):=by
 refine⟨⟨d,by simp[aX.kind],by simp[aX.kind],λm f=>by simp[kp,aX.kind]at f;simp[aX.args, <-f],λe=>by simp[lF,aX.kind]at e,λ_=>rfl,(λe=>absurd e (by simp[aX.no])),λe=>by simp[lG,aX.kind]at e,λ_=>rfl,λe=>by simp[aX.kind]at e,λe=>by simp[aX.kind]at e,λ_ _ _=>rfl,λ_=>⟨x,h,rfl, ?_⟩⟩,dK.cons g (dK.cons i dK.nil)⟩;unfold k9 at e;split at e
 ·grind
 ·split at e
  ·rename_i n c;refine .inr ⟨c, ?_⟩;have jW:=g;rw[dv.eq]at jW;have p:=jW.1.oR 1 (by rw[c];rfl);cases d:x.args with|nil=>grind|cons b l=>simp_all
  ·cases e
def ε:∀(q:Nat) (J:ax×Int),J∈ae q->7<=J.2/\J.2<=18:=by
 intro q J e
 match q with
 |0=>simp[ae]at e;rcases e with rfl|rfl<;>decide
 |1=>simp[ae]at e;subst e;decide|2=>simp[ae]at e;rcases e with rfl|rfl|rfl|rfl|rfl|rfl<;>decide
 |3=>simp[ae]at e;rcases e with rfl|rfl<;>decide
 |4=>simp[ae]at e;subst e;decide|n+5=>simp[ae]at e
def aao(J:ax×Int)(e:J∈oe):J.2=3\/J.2=4\/J.2=5:=by simp[oe]at e;rcases e with rfl|rfl|rfl<;>simp
structure I5(a1:eG)(n:Nat):Prop where
 level:∀q l,ee a1 l->b6 a1 (dv a1) (level n q l)
 hR:∀q u l,ee a1 l->dv a1 u->b6 a1 (dv a1) (hR n q u l)
 shift:∀l,ee a1 l->b6 a1 (dv a1) (shift n l)
 ie:∀u l,ee a1 l->dv a1 u->b6 a1 (dv a1) (ie n u l)
 ig:∀q x u l,q=19\/q=20->a1.A x.at_->ee a1 l->dv a1 u->b6 a1 (dv a1) (ig n q x u l)
 lO:∀l,ee a1 l->b6 a1 (dv a1) (li n l)
 hl:∀u l,ee a1 l->dv a1 u->b6 a1 (dv a1) (hl n u l)
 part:∀l,ee a1 l->b6 a1 (dv a1) (part n l)
 list:∀l,ee a1 l->b6 a1 (dK a1) (list n l)
 hS:∀a l,ee a1 l->dK a1 a->b6 a1 (dK a1) (hS n a l)
 gk:∀l,ee a1 l->b6 a1 (dv a1) (gk n l)
 arrow:∀l,ee a1 l->b6 a1 (dv a1) (arrow n l)
def NY(a1:eG):∀n,I5 a1 n:=by
 intro n;induction n with
 |zero=>constructor<;>intros<;>exact b6.none|succ n U=>
  constructor;case level=>
   intro q l d;rw[level];split
   ·exact U.shift l d
   ·exact(U.level (q+1) l d).andThen λu f b p=>U.hR q u f b p
  case hR=>
   intro q u l d v;rw[hR];split
   ·exact b6.none
   ·rename_i f T;exact b6.ok (vN d _ _ _ T).1 v
   ·rename_i x f T;obtain⟨b,p⟩:=vN d _ _ _ T;obtain⟨J,X,a,g,rfl⟩:=p _ rfl;have P:=ε _ _ X;refine(U.level (q+1) f b).andThen λr s a7 bl=> ?_;have T1:=IN (.inl P) v bl g;split
    ·exact b6.ok a7 T1
    ·exact U.hR q _ s a7 T1
  case shift=>
   intro l d;exact(U.lO l d).andThen λu f b p=>U.ie u f b p
  case ie=>
   intro u l d v;refine jG d (λx f g b=>U.ig 19 x u f (.inl rfl) g b v) ?_;exact jG d (λx f g b=>U.ig 20 x u f (.inr rfl) g b v) (b6.ok d v)
  case ig=>
   intro q x u l P g d v;refine(ml d).andThen λm f b p=> ?_;split
   ·exact b6.bad _
   ·rename_i U2;have T4:=p.1.num p.2;exact U.ie _ f b (vd Zo (λe=>Zo) (λ_=>⟨rfl,rfl⟩) (λe=>Zo) (λ_=>rfl) (λ_=>⟨T4,Zo⟩) (λb p=>Zo) v g)
  case lO=>
   intro l d;rw[li];split
   ·exact b6.none
   ·rename_i x f T;obtain⟨b,p⟩:=vN d _ _ _ T;obtain⟨J,X,a,g,rfl⟩:=p _ rfl;have P:=aao _ X;refine(U.lO f b).andThen λu s a7 bl=>b6.ok a7 ?_;exact vd (q:=J.2) Zo (λe=>Zo) (λ_=>⟨rfl,rfl⟩) (λe=>Zo) (λ_=>rfl) (λe=>Zo) (λ_ _=>rfl) bl g
   ·rename_i f T;exact(U.part f (vN d _ _ _ T).1).andThen λu s a7 bl=>U.hl u s a7 bl
  case hl=>
   intro u l d v;refine jG d (λx f g b=> ?_) (b6.ok d v);refine jG b (λh s _ a7=> ?_) ?_
   ·refine(ml a7).andThen λm A t i=> ?_;exact U.hl _ A t (vd Zo (λ_=>i.1.name i.2) (λe=>absurd rfl e) (λe=>Zo) (λ_=>rfl) (λe=>Zo) (λ_ _=>rfl) v g)
   ·refine(ml b).andThen λm A t i=> ?_;exact U.hl _ A t (vd Zo (λ_=>i.1.name i.2) (λe=>absurd rfl e) (λe=>Zo) (λ_=>rfl) (λe=>Zo) (λ_ _=>rfl) v g)
  case list=>
   intro l d;rw[list];refine jG d (λx f _ b=>b6.ok b dK.nil) ?_;exact(U.arrow l d).andThen λu s a7 bl=>U.hS _ s a7 (dK.cons bl dK.nil)
  case hS=>
   intro T2 l d g;rw[hS];refine jG d (λx f _ b=> ?_) ?_
   ·exact(U.arrow f b).andThen λu s a7 bl=>U.hS _ s a7 (dK.app bl g)
   ·exact(ij d).andThen λ_ f b _=>b6.ok b g
  case gk=>
   intro l d;rw[gk];refine(U.level 0 l d).andThen λu s a7 bl=> ?_;refine jG a7 (λx f g b=> ?_) (b6.ok a7 bl);simp;split
   ·exact b6.none
   ·rename_i T5;exact(U.gk f b).andThen λr A t i=>b6.ok t (ac4 T5 bl i g)
   ·exact b6.bad _
  case arrow=>
   intro l d;rw[arrow];refine(U.gk l d).andThen λu s a7 bl=> ?_;refine jG a7 (λx f g b=> ?_) (b6.ok a7 bl);exact(U.arrow f b).andThen λr A t i=>b6.ok t (IN (.inr rfl) bl i g)
  case part=>
   intro l d;cases l with|nil=>rw[part];exact b6.none|cons x l=>
   have w:=d.al;have C:=d.jc;rw[part];by_cases N:x.kind=5
   ·rw[Zu N];exact b6.ok C (IM (w.lit N) (w.pos (by rw[N];decide)))
   rw[Zi N];split
   ·rename_i p;refine b6.ok C (IM ?_ (w.pos λu=>by simp[u]at p));split
    ·exact a1.bG
    ·exact a1.dr
   by_cases bS:x.kind=1
   ·rw[Zu bS];refine jG C (λh s _ b=> ?_) (b6.ok C (ac7 (w.name bS) (w.pos (by rw[bS];decide))));exact(U.list s b).andThen λT2 A t i=>b6.ok t (ac3 (w.name bS) i (w.pos (by rw[bS];decide)))
   rw[Zi bS];by_cases L:x.kind=3
   ·rw[Zu L];refine(ij C).andThen λ_ s b _=> ?_;refine(U.arrow s b).andThen λu A t i=> ?_;refine(ij t).andThen λ_ O G _=> ?_;exact b6.ok G (vd Zo (λe=>Zo) (λ_=>⟨rfl,rfl⟩) (λ_=>w.type L) (λe=>absurd rfl e) (λe=>Zo) (λ_ _=>rfl) i (w.pos (by rw[L];decide)))
   rw[Zi L];split
   ·refine(U.arrow l C).andThen λu A t i=> ?_;refine(ij t).andThen λ_ O G _=> ?_;exact b6.ok G i
   split
   ·rename_i p;refine(U.arrow l C).andThen λu A t i=> ?_;refine(ij t).andThen λ_ O G _=> ?_;refine(U.arrow O G).andThen λT3 U3 T8 T9=> ?_;refine(ij T8).andThen λ_ T6 TY _=> ?_;refine(U.arrow T6 TY).andThen λU1 U4 TZ U0=> ?_;exact b6.ok TZ (ac5 i T9 U0 (w.pos λu=>by simp[u]at p))
   split
   ·rename_i p;refine(ml C).andThen λc s b T0=> ?_;refine(U.part s b).andThen λu A t i=> ?_;refine(U.part A t).andThen λT3 O G T7=> ?_;exact b6.ok G (ac6 (T0.1.name T0.2) i T7 (w.pos λu=>by simp[u]at p))
   ·exact b6.bad _
structure lU(a1:eG)(d:cR):Prop where
 name:a1.N d.name
 type:a1.sf d.ty
 on:d.on≠[]->a1.N d.on
 no:d.on=[]->d.no=false
 a:a1.A d.at_
 op:a1.A d.cY
structure tB(a1:eG)(V:cS):Prop where
 left:∀s∈V.left,a1.N s
 some:V.left≠[]
 right:dv a1 V.right
 b:a1.A V.at_
 c:∀a∈V.bN,a1.A a
structure hZ(a1:eG)(g:Node):Prop where
 name:a1.N g.name
 cv:∀d∈g.cv,lU a1 d
 out:∀d∈g.out,lU a1 d
 loc:∀d∈g.loc,lU a1 d
 some:g.out≠[]
 eqs:∀V∈g.eqs,tB a1 V
 a:a1.A g.at_
def pX(a1:eG)(a:List Tok):Prop:=∀x∈a,a1.N x.text/\a1.A x.at_
def pX.app{a1:eG}{x:Tok}{b:List Tok}(e:pX a1 b)(c:a1.N x.text/\a1.A x.at_):pX a1 (b++[x]):=by
 intro h a;rcases Zv.1 a with a|a
 ·exact e h a
 ·grind
def GY{a1:eG}:∀(n:Nat) (a l:List Tok),ee a1 l->pX a1 a->b6 a1 (λf=>pX a1 f/\f≠[]) (kB n a l):=by intro n;induction n with|zero=>intro a l _ _;rw[kB];exact b6.none|succ n U=>intro a l m i;refine(ml m).andThen λx r c b=> ?_;have d:=i.app ⟨b.1.name b.2,b.1.pos (by rw[b.2];decide)⟩;refine jG c (λh p _ g=>U _ p g d) (b6.ok c ⟨d,Zs⟩)
def Fb{a1:eG}{w:Option Tok}{l:List Tok}(c:ee a1 l):b6 a1 (λr:ax×Int×Bool=>((r.1≠[]->a1.N r.1)/\(r.1=[]->r.2.2=false))/\a1.A r.2.1) (nR w l):=by
 unfold nR;split
 ·exact b6.ok c ⟨⟨λe=>absurd rfl e,λ_=>rfl⟩,a1.a0⟩
 ·refine jG c (λh g _ d=> ?_) ?_
  ·exact(ml d).andThen λx f b a=>b6.ok b ⟨⟨λ_=>a.1.name a.2,λe=>absurd e (a1.aD _ (a.1.name a.2))⟩,a.1.pos (by rw[a.2];decide)⟩
  ·exact(ml c).andThen λx f b a=>b6.ok b ⟨⟨λ_=>a.1.name a.2,λe=>absurd e (a1.aD _ (a.1.name a.2))⟩,a.1.pos (by rw[a.2];decide)⟩
def ee.drop{a1:eG}{l:List Tok}(e:ee a1 l)(n:Nat):ee a1 (l.drop n):=λx a=>e x (zq a)
def Fa{a1:eG}{loc:Bool}{q:List cR->List Tok->dn (List cR)}{aK:List cR->Prop}{b:List cR}{l:List Tok}(a:ee a1 l)(d:aK b)(c:∀f,ee a1 f->b6 a1 aK (q b f)):b6 a1 aK (l6 loc q b l):=by
 unfold l6;split
 ·exact b6.none
 ·split
  ·split
   ·split
    ·exact b6.none
    ·split
     ·exact b6.ok a d
     ·exact c _ (a.drop 1)
   ·exact c _ (a.drop 1)
  ·exact b6.ok a d
def yQ{a1:eG}{loc:Bool}:∀(n:Nat) (a:List cR) (l:List Tok),ee a1 l->(∀d∈a,lU a1 d)->b6 a1 (λa=>(∀d∈a,lU a1 d)/\a≠[]) (eV n loc a l):=by
 intro n;induction n with
 |zero=>intro a l _ _;rw[eV];exact b6.none|succ n U=>
  intro a l G al;refine(GY n [] l G (λ_ e=>by cases e)).andThen λN f s c=> ?_;refine(ij s).andThen λ_ O v _=> ?_;refine(ml v).andThen λt P i m=> ?_;have b:∀r:ax×Int×Bool,((r.1≠[]->a1.N r.1)/\(r.1=[]->r.2.2=false))/\a1.A r.2.1->∀d∈a++N.map (jq t.ty r.1 r.2.1 r.2.2),lU a1 d:=by
   intro r I d C;rcases Zv.1 C with e|e
   ·grind
   ·obtain⟨x,p,rfl⟩:=ZB.1 e;exact⟨(c.1 x p).1,m.1.type m.2,I.1.1,I.1.2,(c.1 x p).2,I.2⟩
  refine jG i (λw X _ A=> ?_) ?_
  ·refine(Fb A).andThen λr L g I=> ?_;exact Fa g ⟨b r I,by simp[c.2]⟩ (λf e=>U _ f e (b r I))
  ·refine(Fb i).andThen λr L g I=> ?_;exact Fa g ⟨b r I,by simp[c.2]⟩ (λf e=>U _ f e (b r I))
def PO{a1:eG}(n:Nat){l:List Tok}(d:ee a1 l):b6 a1 (tB a1) (m0 n l):=by
 have t:∀(b:List Tok) (l:List Tok),ee a1 l->pX a1 b/\b≠[]->b6 a1 (tB a1) (andThen (cq [61] l) λu l=>andThen (arrow n l) λr l=>andThen (cq [59] l) λ_ l=>ok ⟨b.map Tok.text,b.map Tok.at_,u.at_,r⟩ l):=by
  intro b l d a;refine(ij d).andThen λu w f N=> ?_;refine((NY a1 n).arrow w f).andThen λr A c I=> ?_;refine(ij c).andThen λ_ C g _=>b6.ok g ⟨?_,by simp[a.2],I,N, ?_⟩
  ·intro s i;obtain⟨x,m,rfl⟩:=ZB.1 i;exact(a.1 x m).1
  ·intro s i;obtain⟨x,m,rfl⟩:=ZB.1 i;exact(a.1 x m).2
 have p:∀x:Tok,p3 a1 x/\x.kind=1->pX a1 [x]:=λx a h v=>by simp at v;subst v;exact⟨a.1.name a.2,a.1.pos (by rw[a.2];decide)⟩
 refine jG d (λh w _ f=> ?_) ?_
 ·refine b6.andThen ?_ t;refine(ml f).andThen λx A c a=> ?_;refine(ij c).andThen λ_ C g _=> ?_;refine(GY n [x] C g (p x a)).andThen λb P G O=> ?_;exact(ij G).andThen λ_ X L _=>b6.ok L O
 ·refine b6.andThen ?_ t;exact(ml d).andThen λx A c a=>b6.ok c ⟨p x a,Zs⟩
def PT{a1:eG}:∀(n:Nat) (a:List cS) (l:List Tok),ee a1 l->(∀V∈a,tB a1 V)->b6 a1 (λa=>∀V∈a,tB a1 V) (gC n a l):=by intro n;induction n with|zero=>intro a l _ _;rw[gC];exact b6.none|succ n U=>intro a l c f;refine jG c (λh d _ b=>b6.ok b f) ?_;refine(PO n c).andThen λV d b g=>U _ d b ?_;grind
def Tu{a1:eG}(n:Nat){l:List Tok}(b:ee a1 l):b6 a1 (hZ a1) (node n l):=by
 refine(ij b).andThen λ_ l p _=> ?_;refine(ml p).andThen λx l r g=> ?_;refine(ij r).andThen λ_ l c _=> ?_;have C:∀(cv:List cR) (l:List Tok),ee a1 l->(∀d∈cv,lU a1 d)->b6 a1 (hZ a1) (andThen (cq [114,101,116,117,114,110,115] l) λ_ l=>andThen (cq [40] l) λ_ l=>andThen (eV n false [] l) λout l=>andThen (cq [41] l) λ_ l=>
  eE [118,97,114] l λh l=>andThen (match h with
   |some _=>andThen (eV n true [] l) λm l=>andThen (cq [59] l) λ_ l=>ok m l|none=>ok [] l) λloc l=>
  andThen (cq [108,101,116] l) λ_ l=>andThen (gC n [] l) λi l=>ok ⟨x.text,x.at_,cv,out,loc,i⟩ l):=by
  intro cv l b af;refine(ij b).andThen λ_ l p _=> ?_;refine(ij p).andThen λ_ l r _=> ?_;refine(yQ n [] l r (λ_ e=>by cases e)).andThen λout l c A=> ?_;refine(ij c).andThen λ_ l f _=> ?_;have w:∀(loc:List cR) (l:List Tok),ee a1 l->(∀d∈loc,lU a1 d)->b6 a1 (hZ a1) (andThen (cq [108,101,116] l) λ_ l=>andThen (gC n [] l) λi l=>ok ⟨x.text,x.at_,cv,out,loc,i⟩ l):=by intro loc l b L;refine(ij b).andThen λ_ l s _=> ?_;exact(PT n [] l s (λ_ e=>by cases e)).andThen λi l a N=>b6.ok a ⟨g.1.name g.2,af,A.1,L,A.2,N,g.1.pos (by rw[g.2];decide)⟩
  refine jG f (λh G _ s=> ?_) ?_
  ·refine b6.andThen ?_ w;refine(yQ n [] G s (λ_ e=>by cases e)).andThen λm l a v=> ?_;exact(ij a).andThen λ_ l t _=>b6.ok t v.1
  ·exact b6.andThen (b6.ok f (λ_ e=>by cases e)) w
 refine jG c (λh G _ f=> ?_) ?_
 ·exact b6.andThen (b6.ok f (λ_ e=>by cases e)) C
 ·refine b6.andThen ?_ C;refine(yQ n [] _ c (λ_ e=>by cases e)).andThen λm l a v=> ?_;exact(ij a).andThen λ_ l t _=>b6.ok t v.1
def Tx{a1:eG}:∀(n:Nat) (aa:List Node) (l:List Tok),ee a1 l->(∀g∈aa,hZ a1 g)->b6 a1 (λaa=>(∀g∈aa,hZ a1 g)/\aa≠[]) (nodes n aa l):=by
 intro n;induction n with
 |zero=>intro aa l _ _;rw[nodes];exact b6.none|succ n U=>
  intro aa l d f;refine(Tu n d).andThen λg m b i=> ?_;have c:∀a∈aa++[g],hZ a1 a:=by grind
  split
  ·exact b6.none
  ·split
   ·exact b6.ok b ⟨c,Zs⟩
   ·grind
end
end Go.aj
namespace Go.Proofs.YtehmapikajmjaaaGreatDoor
open Go.aC Go.aj
noncomputable section
structure r8(s:ax):Prop where
 ne:s≠[]
 len:s.length<=32
 Og:∀c,s.head?=some c->jZ c=true
 all:∀c∈s,fa c=true
 res:s∉mu
 ty:gL s=none
def x9(t:cD)(n:Int):Prop:=gq t=true/\mh t n=true/\0<=n/\n<18446744073709551616
def Rd:mh ⟨true,false,1⟩ 0=true:=by rfl
def Re:mh ⟨true,false,1⟩ 1=true:=by rfl
def gN:eG:=⟨r8,λt=>gq t=true,x9,λ_ e=>e.ne,rfl,⟨rfl,Rd,Zo,Zo⟩,⟨rfl,Re,Zo,Zo⟩,λ_ _ e=>e.1,λ_=>True,trivial⟩
def p4(n:Nat):eG:={gN with A:=λa=>0<=a/\a<=n,a0:=⟨Int.le_refl 0,zA n⟩}
def acv{
 s:ax}{i:Nat}{x:Tok}(e:nn s i=some x):p3 gN (hL x i):=by
 unfold nn at e;cases f:s[i]? with
 |none=>grind|some c=>
  rw[f]at e;simp only[]at e;obtain⟨v,w⟩:=Ze.1 f;have al:s.drop i=c::s.drop (i+1):=by rw[Zz v,w]
  split at e
  ·unfold re at e;simp only[]at e;split at e
   ·cases e
   ·have C:=HM ((s.drop i).takeWhile e6);split at e
    ·cases e;exact⟨λe=>by simp[hL]at e,λe=>by simp[hL]at e,λ_=>by simp only[hL];omega,λe=>by simp[hL]at e,λ_=>trivial⟩
    ·split at e
     ·rename_i t b;split at e
      ·rename_i g;cases e;simp only[Zt]at g;exact⟨λe=>by simp[hL]at e,λe=>by simp[hL]at e,λe=>by simp[hL]at e,λ_=>⟨BK b,g.2,by simp only[hL];omega,by simp only[hL];omega⟩,λ_=>trivial⟩
      ·cases e
     ·cases e
  ·split at e
   ·rename_i T;split at e
    ·rename_i n;cases e;have m:(s.drop i).takeWhile fa=c::(s.drop (i+1)).takeWhile fa:=(by rw[al];have:fa c=true:=(by simp[fa,T]);simp[this]);refine⟨λe=> ?_,λe=> ?_,λe=> ?_,λe=> ?_,λ_=>trivial⟩
     ·simp only[hL,lL]at e ⊢;split at e
      ·cases e
      ·rename_i a;split at e
       ·cases e
       ·rename_i I;have r:((s.drop i).takeWhile fa).length<=32:=(by simpa[lL]using n);refine⟨by rw[m];simp,r, ?_,Il fa _,I,by simpa using a⟩;intro A d;rw[m]at d;cases d;exact T
     ·simp only[lL]at e ⊢;split at e
      ·rename_i a;cases b:gL ((s.drop i).takeWhile fa)with
       |none=>rw[b]at a;cases a|some t=>exact BK b
      ·split at e<;>cases e
     ·simp only[lL]at e;split at e
      ·cases e
      ·split at e<;>cases e
     ·simp only[lL]at e;split at e
      ·cases e
      ·split at e<;>cases e
    ·cases e
   ·cases l:mw s i with|none=>rw[l]at e;cases e|some p=>rw[l]at e;cases e;exact⟨λe=>by simp[hL,rA]at e,λe=>by simp[hL,rA]at e,λe=>by simp[hL,rA]at e,λe=>by simp[hL,rA]at e,λ_=>trivial⟩
def acy{s:ax}:∀(n:Nat) (aA:List Tok) (i:Nat) (dA:List Tok),ee gN aA->kb s n aA i=some (.ok dA)->ee gN dA:=by
 intro n;induction n with
 |zero=>intro aA i dA _ e;cases e|succ n U=>
  intro aA i dA b e;rw[kb]at e;split at e
  ·split at e
   ·cases e
   ·rename_i x c;refine U _ _ _ ?_ e;intro h a;rcases Zv.1 a with a|a
    ·exact b h a
    ·simp at a;subst a;exact acv c
  ·cases e;intro h a;rcases Zv.1 a with a|a
   ·exact b h a
   ·simp at a;subst a;exact⟨λe=>by simp at e,λe=>by simp at e,λe=>by simp at e,λe=>by simp at e,λ_=>trivial⟩
def acw{s:ax}:∀(n:Nat) (aA:List Tok) (i:Nat) (dA:List Tok),(∀x∈aA,x.kind≠7->0<=x.at_/\x.at_<=s.length)->kb s n aA i=some (.ok dA)->∀x∈dA,x.kind≠7->0<=x.at_/\x.at_<=s.length:=by
 intro n;induction n with
 |zero=>intro aA i dA _ e;cases e|succ n U=>
  intro aA i dA b e;rw[kb]at e;split at e
  ·rename_i af;split at e
   ·cases e
   ·rename_i x c;refine U _ _ _ ?_ e;intro h a;rcases Zv.1 a with a|a
    ·exact b h a
    ·simp at a;subst a;intro _;simp only[hL];omega
  ·cases e;intro h a;rcases Zv.1 a with a|a
   ·exact b h a
   ·simp at a;subst a;intro e;exact absurd rfl e
def aac{s:ax}{aa:List GE}(e:nd s=.ok aa):(∀g∈aa,hZ (p4 s.length) g)/\aa≠[]/\jy aa=none:=by
 unfold nd at e;split at e
 ·rename_i r I;subst e;unfold od at I;split at I
  ·grind
  ·grind
  ·rename_i aA c;have n:=acw _ _ _ _ (λ_ e=>by cases e) c;have p:ee (p4 s.length) aA:=λx d=>(by obtain⟨a,b,f,i,_⟩:=acy _ _ _ _ (λ_ e=>by cases e) c x d;exact⟨a,b,f,i,n x d⟩);split at I
   ·grind
   ·grind
   ·rename_i t l m;obtain⟨a,b⟩:=Tx _ _ _ p (λ_ e=>by cases e) _ _ m;grind
 ·cases e
def Tp{n:Nat}{u:aX}(e:pZ (p4 n) u):pZ gN u:=⟨trivial,e.a7,e.bl,e.oR,e.nm,e.wZ,e.no,e.ty,e.cg,e.Hb,e.cf,e.aD,e.gP⟩
mutual
def II{n:Nat}:∀{u:aX},dv (p4 n) u->dv gN u
 | .mk ..,e=>by rw[dv]at e ⊢;exact⟨Tp e.1,IJ e.2⟩
def IJ{n:Nat}:∀{l:List aX},dK (p4 n) l->dK gN l
 |[],_=>dK.nil|_::_,e=>by rw[dK]at e;exact dK.cons (II e.1) (IJ e.2)
end
def yO{n:Nat}{d:cR}(e:lU (p4 n) d):lU gN d:=⟨e.name,e.type,e.on,e.no,trivial,trivial⟩
def Tr{n:Nat}{g:GE}(e:hZ (p4 n) g):hZ gN g:=⟨e.name,λd al=>yO (e.cv d al),λd al=>yO (e.out d al),λd al=>yO (e.loc d al),e.some,λV a=>⟨(e.eqs V a).left,(e.eqs V a).some,II (e.eqs V a).right,trivial,λ_ _=>trivial⟩,trivial⟩
def aab{s:ax}{aa:List GE}(e:nd s=.ok aa):(∀g∈aa,hZ gN g)/\aa≠[]/\jy aa=none:=
 have q:=aac e
 ⟨λg a=>Tr (q.1 g a),q.2⟩
end
end Go.Proofs.YtehmapikajmjaaaGreatDoor
