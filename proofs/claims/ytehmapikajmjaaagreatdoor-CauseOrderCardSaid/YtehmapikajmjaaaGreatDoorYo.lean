/- Part of the last text; no conditions -/
import Derived.Test.YtehmapikajmjaaaGreatDoorYn
set_option maxHeartbeats 8000000
set_option linter.all false
namespace Go.Proofs.YtehmapikajmjaaaGreatDoor
open Go.aC Go.aj
noncomputable section
structure x8(g:GE):Prop where
 vars:g.cv.length+g.out.length+g.loc.length<=256
 eqs:g.eqs.length<=4096
 high:∀V∈g.eqs,eJ 201 V.right<=200
def Sx:∀{l:List cS},po l=none->∀V∈l,eJ 201 V.right<=200:=by
 intro l;induction l with
 |nil=>intro _ V e;cases e|cons a l U=>
  intro e V b;unfold po at e;split at e
  ·cases e
  ·rcases Zq.1 b with rfl|b
   ·omega
   ·exact U e V b
def Sy:∀{l:List GE},kA l=none->∀g∈l,x8 g:=by
 intro l;induction l with
 |nil=>intro _ V e;cases e|cons a l U=>
  intro e g b;unfold kA at e;split at e
  ·cases e
  ·rename_i d;split at e
   ·cases e
   ·rename_i c;rcases Zq.1 b with rfl|b
    ·exact⟨Zo,Zo,Sx c⟩
    ·exact U e g b
def wM{aa:List GE}(e:jy aa=none):aa.length<=64/\∀g∈aa,x8 g:=by
 unfold jy at e;split at e
 ·cases e
 ·rename_i a;rw[List.getElem?_eq_none_iff]at a;exact⟨a,Sy e⟩
section
variable{X:bf}{j S' dU am ah:B R}{k W ak ar:Nat}{s:ax}
set_option maxRecDepth 100000 in
def Qt(f:e2 X)(l:gU X)(m:kl X)(p:mG X){P:Nat->Prop}{u:aX}{v:y}(C:(o X).aD<=k)(r:bB X j P u v)(aU:∀h,P h->h<k)(w:dv gN u)(t:eJ 201 u<=200):
 az X 119 [v] j k (λM S' W=>M=.Z 0/\aT X j k S' W) zW:=by
 refine z6 f.tobW (JK ..) ?_;unfold Cj;refine br ⟨?_⟩;generalize a:aI X _ (k+1+1) _=am;have g:F X am k=zO [.Z 0] 1:=by rw[<-a];simp(disch:=omega) only[ag,aJ];rfl
 have i:F X am (k+1)=zO [.Z 0] 1:=by rw[<-a];simp(disch:=omega) only[ag,aJ];rfl
 have c:ay X am (.ptr (k+1+1) 0)=some (.func (.func 145) [] [.ptr (k+1) 0,.ptr k 0,.ptr (k+1+1) 0]):=by rw[<-a,pj Zo];rfl
 have d:aT X j k am (k+1+1+1):=by rw[<-a];exact b8
 clear a;refine bh @c ⟨?_⟩;have s:=bB.K (λh b=>d.K h (aU h b)) _ _ r;refine(SH (di:=k+1+1+1) f l m p Zo Zo Zo Zo Zo Zo (λh b=>by have:=aU h b;exact⟨Zo,Zo⟩) 200 u v am (k+1+1+1) Zo Zo t w s ⟨⟨_,i,rfl⟩,by rw[aZ g];rfl,c⟩).Zm ?_;rintro M ah ar ⟨rfl,n,A,dx⟩;have x:=n.xN;refine bh @x ⟨?_⟩;exact⟨rfl,Zo,λh b=>by rw[dx h Zo Zo];exact d.K h b⟩
set_option maxRecDepth 100000 in
def S0(i:e2 X)(t:gU X)(w:kl X)(UV:mG X){P:Nat->Prop}{g:GE}{row:List y}(UZ:(o X).aD<=k)(UW:ir X j P g row)(aU:∀h,P h->h<k)(l:hZ gN g)(T5:x8 g):
 az X 88 [.agg row] j k (λM S' W=>M=.Z 0/\aT X j k S' W) zW:=by
 refine z6 i.tobW (M4 ..) ?_;unfold D9;obtain⟨bK,bM,aB,TZ,bb,bn,bH,Us,aR,rfl,T2,T3,T4,A,UA⟩:=UW;have bG:=T2.len;have T8:=T3.len;have T9:=T4.len;have UF:=UA.wide;have TY:=A.len;have UY:=A.many;rw[Zj]at bG T8 T9;rw[UF.1]at TY UY;have V4:=T5.vars;have Uu:=T5.eqs;have V2:0<g.out.length:=ZP.2 l.some;have G:aH .add (.Z g.cv.length) (.Z g.out.length)=some (.Z (g.cv.length+g.out.length:Nat)):=by rw[ck Zo Zo];simp
 have UP:aH .add (.Z (g.cv.length+g.out.length:Nat)) (.Z g.loc.length)=some (.Z (g.cv.length+g.out.length+g.loc.length:Nat)):=by rw[ck Zo Zo];simp
 have UL:decide ((g.out.length:Int)=0)=false:=z1;have UM:decide ((256:Int)<((g.cv.length+g.out.length+g.loc.length:Nat):Int))=false:=z1;have UN:decide ((4096:Int)<(g.eqs.length:Int))=false:=z1;refine l1 ?_;generalize T0:aI X j k _=am;have s:F X am k=zO [.str g.name,.Z g.at_,bK,bM,aB,TZ] 6:=by rw[<-T0,aJ UZ];rfl
 have UR:aT X j k am (k+1):=by rw[<-T0];exact b8
 clear T0;refine c8 (aZ s) @bG (Za @T8 (Za @T9 (Za @G @UP))) ⟨?_⟩;refine(uL (k:=k+1) (j:=am) i t w l.name Zo).Zm ?_;rintro M ah ar ⟨rfl,N⟩;have Uw:=N.le;rw[<-N.K _ Zo]at s;have US:=UR.trans N;have bS:=(fU T2.len).1;have bU:=(fU T3.len).1;have UK:=(fU T4.len).1;have Ug:dX 3 [.au,.au,.au] [(0,1,bK),(1,1,bM),(2,1,aB)] ar=some (.slice ar 0 3 3,.cells (B.ofList [bK,bM,aB] 0 .nil) 3 .own):=by simp[dX,lE,l9,iH,bS,bU,UK]
 refine c8 (aZ s) @bG (Za @T8 (Za @T9 (Za @TY (Za @UL (Za @UM @UN))))) ⟨?_⟩;refine dh Ug ?_;refine h5 ⟨?_⟩;generalize x:aI X ah ar _=f;have UQ:F X f ar=zO [bK,bM,aB] 3:=by rw[<-x,aJ Zo]
 have U4:aT X j k f (ar+1):=⟨Zo,λh a=>by rw[<-x];simp(disch:=omega) only[ag];exact US.K h a⟩;have U3:F X f k=zO [.str g.name,.Z g.at_,bK,bM,aB,TZ] 6:=by rw[<-x];simp(disch:=omega) only[ag];exact s
 clear x;have T7:∀h,P h->F X f h=F X j h:=λh a=>U4.K h (aU h a);refine(OV (k:=ar+1) (j:=f) i.tobW Zo Zo UQ (T2.K T7) (T3.K T7) (T4.K T7) (λh a=>zK (aU h a)) Zo Zo).Zm ?_;rintro M UI Ul ⟨Ut,Ud,U6⟩;have Ux:=U6.le;refine h5 ⟨?_⟩;refine(O1 (k:=Ul) (j:=UI) i t w Zo Ud (λh a=>a.2) (λd al=> ?_)).Zm ?_
 ·rcases Zv.1 al with e|e
  ·exact l.cv d e
  ·rcases Zv.1 e with e|e
   ·exact l.out d e
   ·exact l.loc d e
 rintro M U2 UG ⟨rfl,U7⟩;have Uy:=U7.le;have U5:aT X f (ar+1) U2 UG:=U6.trans U7;have UU:aT X j k U2 UG:=U4.trans U5;rw[<-U5.K _ Zo]at U3;refine bA (aZ U3) @TY ⟨?_⟩;refine cG (λm z S' Uk=>∃(E:Nat),z.g 4=some (.Z 0)/\z.g 53=some TZ/\z.g 54=some (.Z g.eqs.length)/\z.g 55=some (.Z E)/\E+m=g.eqs.length/\aT X j k S' Uk)
  g.eqs.length ⟨0,av,av,av,cW,Zo,UU⟩ ?_
 rintro m z UJ p ⟨E,t4,t53,U0,U1,Uv,v⟩;have Uz:=v.le;cases m with
 |zero=>have d:=zL E g.eqs.length;refine c9 @U1 @U0 @t4 @d ⟨?_⟩;exact⟨rfl,v⟩|succ m=>
  have d:=zM E g.eqs.length;have G:=zP E;obtain⟨V,UB⟩:=zN g.eqs E;have UE:=Zl UB;have T6:=l.eqs V UE;obtain⟨row,Ue,Uc⟩:=UA.get E V UB;have Uh:∀h,P h->F X UJ h=F X j h:=λh a=>v.K h (aU h a);have UX:=A.c0 E (by rw[UF.1];omega);have Uf:=(A.K Uh).row Zd Ue;obtain⟨Un,Um,bS,bU,Uo,rfl,UC,V3,Ua,Ub⟩:=Uc;have UD:=UC.len;rw[show(cQ V.left).length=V.left.length from by simp[cQ]]at UD;have V1:0<V.left.length:=ZP.2 T6.some;have UO:decide ((V.left.length:Int)=0)=false:=z1;refine eC @U1 @U0 @t53 @d @UX @Uf ⟨?_⟩;refine dh (eR (q:=4) (b:=p) (J:=0) (n:=4) (c:=B.ofList [.au,.au,.Z 0,.bE] 0 .nil) (aJ Zo) Zo rfl Zd Zd Ub) ?_;generalize T1:aI X _ p _=r;have L:F X r p=zO [Un,Um,.Z V.at_,Uo] 4:=by rw[<-T1,aJ Zo];rfl
  have U8:aT X j k r (p+1):=⟨Zo,λh a=>by rw[<-T1];simp(disch:=omega) only[ag];exact v.K h a⟩;clear T1;have Ui:∀h,P h->F X r h=F X j h:=λh a=>U8.K h (aU h a);refine bh (aZ L) ⟨?_⟩;refine(Qt (k:=p+1) (j:=r) i t w UV Zo (bB.K Ui _ _ Ua) (λh a=>zK (aU h a)) T6.right (T5.high V UE)).Zm ?_;rintro M C UH ⟨rfl,O⟩;have V0:=O.le;rw[<-O.K _ Zo]at L;have U9:aT X j k C UH:=U8.trans O;have Uj:∀h,P h->F X C h=F X j h:=λh a=>U9.K h (aU h a);refine cb (aZ L) @UD @UO ⟨?_⟩;refine(Sn (k:=UH) (j:=C) i t w Zo (UC.K Uj) (λh a=>zK (aU h a)) T6.left).Zm ?_;rintro M Ur V5 ⟨rfl,UT⟩;have Up:decide ((0:Int)=1)=false:=rfl;have Uq:decide ((0:Int)≠0)=false:=rfl;refine c9 @Up @Uq @U1 @G ⟨?_⟩;exact⟨m,Zo,E+1,Y t4,Y t53,Y U0,av,Zo,U9.trans UT⟩
set_option maxRecDepth 100000 in
def Qs(w:e2 X)(T3:gU X)(T5:kl X)(T6:mG X){P:Nat->Prop}{aa:List GE}{v:y}(UF:(o X).aD<=k)(T7:iQ X j P aa v)(aU:∀h,P h->h<k)(U2:∀g∈aa,hZ gN g)(T2:aa≠[])(T9:jy aa=none):
 az X 51 [v] j k (λM S' W=>M=.Z 0/\aT X j k S' W) zW:=by
 refine z6 w.tobW (Mg ..) ?_;unfold DE;obtain⟨UD,TY⟩:=wM T9;obtain⟨b,aB,bz,aR,rfl,T,a0,p,G⟩:=id T7;have L:=G.wide;have C:=p.len;rw[L.1]at C;have UB:=aU b T;have UG:0<aa.length:=ZP.2 T2;have N:decide ((aa.length:Int)=0)=false:=z1;have O:decide ((64:Int)<(aa.length:Int))=false:=z1;refine dE @Fw @a0 @C @N @O ⟨?_⟩;refine cG (λm z S' U4=>∃(E:Nat),z.g 3=some (.Z 0)/\z.g 28=some aB/\z.g 29=some (.Z aa.length)/\z.g 30=some (.Z E)/\E+m=aa.length/\aT X j k S' U4)
  aa.length ⟨0,av,av,av,cW,Zo,aT.refl _ _⟩ ?_
 rintro m z am ak ⟨E,t3,t28,r,s,UC,f⟩;have UE:=f.le;cases m with
 |zero=>have d:=zL E aa.length;refine c9 @s @r @t3 @d ⟨?_⟩;exact⟨rfl,f⟩|succ m=>
  have d:=zM E aa.length;have T0:=zP E;obtain⟨g,x⟩:=zN aa E;have A:=Zl x;obtain⟨row,U0,l⟩:=G.get E g x;have U3:∀h,P h->F X am h=F X j h:=λh a=>f.K h (aU h a);have T8:=p.c0 E (by rw[L.1];omega);have U1:=(p.K U3).row Zd U0;have dF:=l.ei;have TZ:=l;obtain⟨bK,bM,U6,U5,bb,bn,bH,UA,UI,rfl,_⟩:=l;refine eC @s @r @t28 @d @T8 @U1 ⟨?_⟩;refine dh (eR (q:=6) (b:=ak) (J:=0) (n:=6) (c:=B.ofList [.str [],.Z 0,.au,.au,.au,.au] 0 .nil) (aJ Zo) Zo rfl Zd Zd dF) ?_;generalize i:aI X _ ak _=ah;have T1:F X ah ak=zO [.str g.name,.Z g.at_,bK,bM,U6,U5] 6:=by rw[<-i,aJ Zo];rfl
  have t:aT X j k ah (ak+1):=⟨Zo,λh a=>by rw[<-i];simp(disch:=omega) only[ag];exact f.K h a⟩;clear i;refine bh (aZ T1) ⟨?_⟩;refine(S0 (k:=ak+1) (j:=ah) w T3 T5 T6 Zo (TZ.K (aK:=P) (λh a=>t.K h (aU h a)) (λ_ e=>e)) (λh a=>zK (aU h a)) (U2 g A) (TY g A)).Zm ?_;rintro M U9 UH ⟨rfl,T4⟩;have U7:decide ((0:Int)=1)=false:=rfl;have U8:decide ((0:Int)=22)=false:=rfl;refine c9 @U7 @U8 @s @T0 ⟨?_⟩;exact⟨m,Zo,E+1,Y t3,Y t28,Y r,av,Zo,t.trans T4⟩
def sZ(aa:List GE)(q:Nat)(g:GE):(ax->Option Int)×(Int×Int):=g.eqs.foldl (hj (dk g) aa q) (λ_=>none,l7 (dk g) g (mo aa q g))
def Tn(aa:List GE)(q:Nat)(g:GE):hh aa q g=(c7 g).foldl (ke (sZ aa q g).1) (sZ aa q g).2:=rfl
def GP(aa:List GE)(q:Nat)(g:GE)(w:ax):((sZ aa q g).1 w).getD 0=fk w (g.eqs.flatMap cS.left):=by unfold sZ;rw[aaA];simp
def qX(g:GE):List ax:=g.eqs.flatMap cS.left
structure B0(aa:List GE)(q:Nat)(g:GE):Prop where
 aD:(mo aa q g).1=0
 b5:(wU g).Nodup
 on:∀x∈c7 g,x.2.on≠[]->(dk g x.2.on).isSome=true
 left:∀w∈qX g,∃v,dk g w=some v/\v.kind≠1/\fk w (qX g)<=1
 right:∀V∈g.eqs,tH (dk g) aa q V.right
def S5{aa:List GE}{q:Nat}{g:GE}:(sZ aa q g).2.1=0↔B0 aa q g:=by
 unfold sZ;rw[aaB _ _ _ _ _ (λ_=>Zs)];rw[O2];constructor
 ·rintro⟨⟨a,b,l⟩,c,d⟩;refine⟨a,b,λx n m=> ?_,λw f=> ?_,d⟩
  ·cases p:dk g x.2.on with|none=>grind|some v=>rfl
  ·obtain⟨v,a7,bl,i⟩:=c w f;exact⟨v,a7,bl,by simpa[qX]using i⟩
 ·rintro⟨a,b,l,c,d⟩;refine⟨⟨a,b,λx n m=> ?_⟩,λw f=> ?_,d⟩
  ·grind
  ·obtain⟨v,a7,bl,i⟩:=c w f;exact⟨v,a7,bl,by simpa[qX]using i⟩
def To{aa:List GE}{q:Nat}{g:GE}:(hh aa q g).1=0↔B0 aa q g/\∀x∈c7 g,x.1≠1->0<fk x.2.name (qX g):=by
 rw[Tn,acQ,S5];refine and_congr Iff.rfl ⟨λe x b a=> ?_,λe x b a=> ?_⟩
 ·have:=e x b;rw[GP]at this;have:=qi x.2.name (g.eqs.flatMap cS.left);show 0<fk x.2.name (g.eqs.flatMap cS.left);omega
 ·rw[GP]at a;have:=e x b a.1;unfold qX at this;omega
def Hv:∀(l:List (Int×cR)) (s:(ax->Option ct)×List ax) (w:ax),((l.foldl eQ s).1 w=s.1 w/\((s.1 w).isSome=true\/∀x∈l,x.2.name≠w))\/((s.1 w)=none/\∃x∈l,x.2.name=w/\(l.foldl eQ s).1 w=some ⟨x.1,x.2, -1, -1⟩):=by
 intro l;induction l with
 |nil=>simp_all|cons x l U=>
  intro s w;rw[Z8];by_cases d:(s.1 x.2.name).isSome=true
  ·have u:eQ s x=s:=(by unfold eQ;rw[Zu d]);rw[u];grind
  ·have u:eQ s x=(λw=>if w=x.2.name then some ⟨x.1,x.2, -1, -1⟩else s.1 w,s.2++[x.2.name]):=(by unfold eQ;rw[Zi d]);rw[u];by_cases f:w=x.2.name
   ·subst f;have i:s.1 x.2.name=none:=by cases e:s.1 x.2.name with|none=>rfl|some v=>rw[e]at d;exact absurd rfl d
    refine .inr ⟨i,x,Zp ..,rfl, ?_⟩;rcases U (λw=>if w=x.2.name then some ⟨x.1,x.2, -1, -1⟩else s.1 w,s.2++[x.2.name]) x.2.name with ⟨a,_⟩|⟨a,_⟩
    ·rw[a];simp
    ·simp at a
   ·rcases U (λw=>if w=x.2.name then some ⟨x.1,x.2, -1, -1⟩else s.1 w,s.2++[x.2.name]) w with ⟨a,b⟩|⟨a,h,c,b,g⟩
    ·simp only[Zi f]at a b;refine .inl ⟨a,b.imp id λb h c=> ?_⟩;rcases Zq.1 c with rfl|c
     ·exact λu=>f u.symm
     ·exact b h c
    ·simp only[Zi f]at a;exact .inr ⟨a,h,Zw _ c,b,g⟩
def acp{g:GE}{w:ax}(e:w∈wU g):(dk g w).isSome=true:=by
 obtain⟨x,f,rfl⟩:=ZB.1 e;have b:=xB g x.2.name;unfold g4 at b;rcases Hv (c7 g) (λ_=>none,[]) x.2.name with ⟨d,a⟩|⟨_,h,i,a,c⟩
 ·rcases a with a|a
  ·grind
  ·grind
 ·rw[c]at b;have:=congrArg Option.isSome b;grind
def OE{aa:List GE}:∀(l:List GE) (q:Nat),(qg aa q l).1=0↔∀(i:Nat) g,l[i]? =some g->(hh aa (q+i) g).1=0:=by
 intro l;induction l with
 |nil=>intro q;simp[qg]|cons a l U=>
  intro q;rw[qg];by_cases e:(hh aa q a).1=0
  ·rw[Zi (by simp[e]),U];constructor
   ·grind
   ·intro b i g af;have:=b (i+1) g (by simpa using af);grind
  ·rw[Zu e];exact⟨λu=>absurd u e,λb=>absurd (b 0 a rfl) e⟩
def OF{aa:List GE}:(l3 aa).1=0↔∀(i:Nat) g,aa[i]? =some g->(hh aa i g).1=0:=by unfold l3;rw[OE];simp
variable{aa:List GE}{E q:Nat}{g:GE}{V:cS}
end
open Go.aj
def j2(q:Int):Bool:=decide (q=2)||decide (q=6)||decide (q=24)
def lw(l:List ax)(w:ax):List ax:=if w∈l then l else l++[w]
mutual
def fA:List ax->aX->List ax
 |l,.mk q _ nm _ _ _ args=>if q=5 then l else la (if j2 q=true then lw l nm else l) (decide (q=21)) args
def la:List ax->Bool->List aX->List ax
 |l,_,[]=>l|l,f,a::b=>if f=true then fA l a else la (fA l a) f b
end
def vc(aw:ax):aX:=.mk 2 0 aw false cg 0 []
mutual
def q0:aX->Nat
 | .mk _ _ _ _ _ _ args=>1+wQ args
def wQ:List aX->Nat
 |[]=>0|a::l=>q0 a+wQ l
end
def AX:∀{l:List aX}{a:aX},a∈l->q0 a<=wQ l
 |[],a,e=>by cases e|b::l,a,e=>by
  rw[wQ];rcases Zq.1 e with rfl|e
  ·omega
  ·have:=AX e;omega
def j4(cf:List ax):ax->Option Nat:=cf.zipIdx.foldl (λm x w=>if w=x.1 then some x.2 else m w) (λ_=>none)
def hi(g:GE)(nm:ax):List ax:=match dk g nm with
 |some v=>v.d.on::(if 0<=v.eq/\v.kind≠1 then(match g.eqs[v.eq.toNat]? with|some V=>fA [] V.right|none=>[])else[])|none=>[]
def HZ(g:GE)(nm:ax):List Nat:=(hi g nm).filterMap (j4 (dd g))
def TC(q:Nat):∀(l:List (ax×Nat)) (t:ax->Option ct) (w:ax) (v:ct),t w=some v->∃c,(l.foldl (ia q) t) w=some c/\((c.eq=v.eq/\(v.eq<0->∀x∈l,x.1≠w))\/(v.eq<0/\c.eq=q/\∃x∈l,x.1=w)):=by
 intro l;induction l with
 |nil=>simp_all|cons x l U=>
  intro t w v e;by_cases n:x.1=w
  ·by_cases i:v.eq<0
   ·have g:ia q t x w=some ⟨v.kind,v.d,q,x.2⟩:=(by unfold ia;grind);obtain⟨c,f,d⟩:=U _ w _ g;refine⟨c,f,.inr ⟨i, ?_,x,Zp ..,n⟩⟩;grind
   ·have g:ia q t x w=some v:=(by unfold ia;rw[n,e];grind);obtain⟨c,f,d⟩:=U _ w _ g;refine⟨c,f,.inl ⟨?_,λe=>absurd e i⟩⟩;rcases d with ⟨d,_⟩|⟨d,_⟩
    ·exact d
    ·exact absurd d i
  ·have g:ia q t x w=some v:=by
    unfold ia;cases r:t x.1 with
    |none=>exact e|some M=>
     simp only;by_cases p:M.eq<0
     ·rw[Zu p,Zi (λu=>n u.symm)];exact e
     ·rw[Zi p];exact e
   obtain⟨c,f,d⟩:=U _ w _ g;refine⟨c,f,d.imp (λ⟨a,b⟩=>⟨a,λi h m=> ?_⟩) (λ⟨a,b,h,m,u⟩=>⟨a,b,h,Zw _ m,u⟩)⟩;rcases Zq.1 m with rfl|m
   ·exact n
   ·exact b i h m
def I1{w:ax}(l:List ax):(∃x∈l.zipIdx,x.1=w)↔w∈l:=by
 constructor
 ·grind
 ·intro e;obtain⟨i,af⟩:=Yc e;exact⟨(w,i),List.mem_zipIdx_iff_getElem?.2 af,rfl⟩
def TD:∀(a:List cS) (i:Nat) (t:ax->Option ct) (w:ax) (v:ct),t w=some v->∃c,((a.zipIdx i).foldl rm t) w=some c/\((c.eq=v.eq/\(v.eq<0->∀V∈a,w∉V.left))\/(v.eq<0/\∃(q:Nat) (V:cS),c.eq=(i+q:Nat)/\a[q]? =some V/\w∈V.left)):=by
 intro a;induction a with
 |nil=>simp_all|cons V a U=>
  intro i t w v e;obtain⟨O,r,s⟩:=TC i V.left.zipIdx t w v e;obtain⟨c,A,m⟩:=U (i+1) (rm t (V,i)) w O r;refine⟨c,A, ?_⟩;rcases s with ⟨d,f⟩|⟨d,f,n⟩
  ·rcases m with ⟨b,g⟩|⟨b,q,N,g,p,f4⟩
   ·refine .inl ⟨b.trans d,λC h l=> ?_⟩;rcases Zq.1 l with rfl|l
    ·intro G;obtain⟨x,L,u⟩:=(I1 h.left).2 G;exact f C x L u
    ·exact g Zo h l
   ·exact .inr ⟨Zo,q+1,N,by rw[g];omega,by simpa using p,f4⟩
  ·refine .inr ⟨d,0,V, ?_,rfl,(I1 V.left).1 n⟩;rcases m with ⟨b,_⟩|⟨b,_⟩
   ·rw[b,f];rfl
   ·omega
def xC{g:GE}{w:ax}{v:ct}(e:dk g w=some v):(v.eq= -1/\∀V∈g.eqs,w∉V.left)\/∃(q:Nat) (V:cS),v.eq=q/\g.eqs[q]? =some V/\w∈V.left:=by
 have d:=xB g w;rw[e]at d;cases a:(g4 g).1 w with
 |none=>grind|some v0=>
  have l:v0.eq= -1:=by
   unfold g4 at a;rcases Hv (c7 g) (λ_=>none,[]) w with ⟨b,_⟩|⟨_,x,m,c,i⟩
   ·grind
   ·grind
  obtain⟨f,b,c⟩:=TD g.eqs 0 (g4 g).1 w v0 a
  have:dk g w=some f:=b
  grind
def jr:Int->List Int->List Int
 |_,[]=>[]|p,a::l=>if a=p then jr a l else a::jr a l
def hu:List Int->List Int
 |[]=>[]|a::l=>a::jr a l
open Go.aC
section
variable (X : bf) (j : B R) (k : Nat) (S ab : aY) (a0 aL bs a3 a4 a5 fj fO ft : y)
def Eb:Za0:=λa b c d e f=>Z (b0 a c .eql 43 true b .bE) λg=>aG (λb c d=>hn b 1 a c λ_ _ b=>az a 25 [b] c d e f) λa=>ao g (e .au c d) (a (zS (bI [b]) 2 .au 4 g) c d)
theorem Nw:dM X 9 [a0] (Eb X a0):=⟨Zk,Zk⟩
end
section
variable (X : bf) (j : B R) (k : Nat) (S ab : aY) (a0 aL bs a3 a4 a5 fj fO ft : y)
def De:Za0:=λa b c d e _=>Z (b0 a c .eql 38 true b .au) λf=>aG (λb c d=>Z (dX 0 [] [] d) λf=>dG a c d f.1 f.2 λc d f=>cC b λb=>lr a d f c b λa b c=>e a b c) λa=>ao f (e .au c d) (a (zS (bI [b]) 2 .au 4 f) c d)
theorem Lw:dM X 25 [a0] (De X a0):=⟨Zk,Zk⟩
end
section
variable (X : bf) (j : B R) (k : Nat) (S ab : aY) (a0 aL bs a3 a4 a5 fj fO ft : y)
def Dt:Za0:=λa b c d e f=>BV b a c 5000 λg=>mC a 5 g c d f λc d g h=>vk d a c h 0 λc d h i=>aG (λb c d=>gb b λg=>Z (b0 a c .eql 23 true g .bE) λg=>aG (λb c d=>gb b λg=>az a 7 [g] c d (λc d g=>nu g a d λd g h=>Z (cN a g 2 d c) λc=>gb b λg=>mC a 12 g c h f λc g _ h=>vk g a c h 0 λc g h i=>aG (λb c d=>gb b λg=>dB g 0 a c λ_ g=>d9 g (λb c d=>eK b 5 0 a c λ_ g=>Z (aH .eql g (.Z 0)) λg=>bt (b 8) λh=>Z (b0 a c .eql 4 false g h) λg=>gG g (b 8) c d λc d h=>fm g c d h λc d h=>Al c (b 5) (λa=>d2 0 a) d h λb d h=>c1 c (ay a d b) d h λb d h=>c1 c (aH .eql b (.Z 29)) d h λb d h=>f6 g (λa=>bJ (λb=>a b d h) λa=>ao c (a .zV) (a b)) d h λb c d=>bJ (λb=>f6 b (λb=>az a 6 [] c d b f) c d λa c d=>bJ (λa=>e a c d) λc=>ao b (c a) (c .zT)) λa=>ao g (a b) (a .zT)) λh i=>cx (λb c d g=>dy c 68 67 λh=>aG (λc d g=>fp (λa c d=>db a 68 λe=>b (H a 68 e) c d) c 66 68 λb h i=>pN h i a d g λd g h=>iM a h 6 d 8 g f λg h i=>oy a h i λh i j=>Z (fG [.gs] j) λk=>dG a i j k.1 k.2 λi j k=>ga a j i h λh=>az a 9 [g] h k (λh j k=>d9 h (λc d g=>ff c 12 a d λh=>Z (n5 a d h) λh=>aG (λc d g=>bt (c 10) λh=>iM a d 6 h 17 g f λd g h=>et d λd i=>ff c 12 a g λj=>Z (n5 a g j) λj=>Z (aH .eql j (.Z 0)) λj=>Z (b0 a g .neq 4 false i j) λj=>dO j i g h λg h k=>dO j g h k λg h k=>fm g d h k λh k l=>cF g (c2 h) k l λh k l=>gG g (c 18) k l λk l m=>cF g (aH .neq h k) l m λh k l=>g2 j (λa=>bJ (λb=>a b k l) λa=>ao g (a h) (a .zT)) k l λg h k=>bJ (λg=>aG (λc d g=>bt (c 8) λh=>gG h (c 24) d g λd g i=>bJ (λd=>oy a g i λg h i=>bt (c 23) λj=>Z (c2 j) λk=>aG b λb=>cx (λc d g h=>dy d 158 157 λi=>aG (λb d g=>g7 (λa b d=>db a 158 λe=>c (H a 158 e) b d) b 156 158 a d λc h=>bt (b 11) λi=>az a 13 [i,h] d g (λd g i=>pO d i a g λd g i j=>Z (dP .not d) λk=>jv k (b 25) j i λi j l=>dO k h j l λj l m=>c1 k (fb a l 9 (.Z 0) i j false) l m λi j l=>c1 k (aH .gtr i (.Z 0)) j l λi j l=>bJ (λi=>c1 i (d2 1 g) j l λj k l=>kg i 5 j k l a λj k l=>c1 i (b0 a k .neq 9 true j (.str [])) k l λj k l=>dO i j k l λj k l=>gG j (b 25) k l λk l m=>cF j (d2 1 g) l m λl m n=>kN j 5 l m n a λl m n=>cF j (fb a m 9 (.Z 0) k l false) m n λk l m=>cF j (aH .eql k (.Z 0)) l m λk l m=>g2 i (λa=>bJ (λb=>a b l m) λa=>ao j (a k) (a .zT)) l m λj k l=>bJ (λi=>aG (λb d g=>eK b 28 0 a d λ_ h=>tz h λh=>aG (λb d e=>cZ b 25 27 λf g=>d6 (hT a d e 9 f g (.Z 1)) d e λ_ a d=>c b a d) λc=>ao h (eK b 10 5 a d λ_ i=>eK b 28 9 a d λ_ j=>Z (da 4 i j) λi=>mB 3 i a d 14 g f λd f g=>Z (c2 d) λi=>aG c λc=>cx (λb d f g=>dy d 202 201 λh=>aG (λc d f=>g7 (λa c d=>db a 202 λe=>b (H a 202 e) c d) c 200 202 a d λb g=>bt (c 25) λh=>Z (fb a d 9 (.Z 0) h g false) λa=>jg a 0 b λa b=>ao a (e .zT d f) (b (zS c 31 g 209 a) d f)) λa=>ao h (a (H d 203 h) f g) (c (H d 203 h) f g)) (zU b 192 h 200 d 201 i 202 (.Z 0)) f g) (c (H b 192 h) d g)) λa=>ao i (e .zT k l) (a (zU b 27 h 28 g 29 d 189 i) k l)) λa=>ao i (a .zV) (a j)) λa=>ao k (a .zV) (a i)) f) λa=>ao i (a (H d 159 i) g h) (b (H d 159 i) g h)) (H (zU c 8 d 25 g 156 j 157 k) 158 (.Z 0)) h i) λa=>ao h (a d) (a .zT)) λa=>ao g (e .zT h k) (a (zT c 23 d 24 i 150 g) h k)) λa=>ao j (a .zV) (a g)) λb=>cx (λc d e g=>bt (d 19) λh=>aG (λb d e=>aG c λc=>ff b 12 a d λg=>d6 (xl a d e g) d e λd e g=>aG c λc=>cx (λb d e g=>bt (d 119) λh=>n0 (iW a fB false e g (eY h)) e g λe g h=>Z (hH 0 e) λe=>aG (λc d e=>aG b λb=>bt (c 119) λg=>Z (qu a d g) λg=>et g λg h=>bt (c 12) λi=>az a 15 [h,.func (.func 16) [] [i]] d e (λd e f=>ny d b λb d=>ao b (ff c 12 a e λi=>d6 (kx a e f .delete [59,9] [i,g]) e f λ_ a e=>d (H (zU c 20 g 21 h 22 b 129 b) 19 .zV) a e) (d (zU c 20 g 21 h 22 b 129 b) e f)) f) λa=>ao e (a (H d 121 e) g h) (c (H d 121 e) g h)) (zS b 19 .zT 119 d) e g) λa=>ao h (a (H d 117 h) e g) (b (H d 117 h) e g)) (zS c 18 h 19 .zV) d g) λb e=>cx (λb c d g=>dy c 78 77 λh=>aG (λc d e=>g7 (λa c d=>db a 78 λe=>b (H a 78 e) c d) c 76 78 a d λb g=>bt (c 11) λh=>az a 13 [h,g] d e (λd e h=>pO d h a e λ_ d e h=>Z (d2 1 d) λi=>cK 5 i a h λ_ i=>Z (b0 a h .neq 9 true i (.str [])) λi=>aG (λc d e=>eK c 15 0 a d λ_ g=>tz g λg=>aG (λc d e=>ff c 12 a d λf=>cZ c 14 17 λg h=>d6 (hT a d e 9 f g h) d e λ_ a d=>b c a d) λb=>ao g (cZ c 17 10 λh i=>cK 5 i a d λ_ i=>eK c 15 9 a d λ_ j=>Z (da 4 i j) λi=>mB 3 i a d 14 e f λd e f=>lr a e f h d λa d e=>b (zS c 100 g 17 a) d e) (b (H c 100 g) d e)) λb=>ao i (Z (d2 1 d) λf=>cK 5 f a h λ_ f=>Z (dX 1 [.str []] [(0,1,f)] e) λf=>dG a h e f.1 f.2 λe f h=>d6 (fP a f h 1 .au e) f h λa e f=>b (H (zU c 14 g 15 d 17 .au 91 i) 17 a) e f) (b (zU c 14 g 15 d 17 .au 91 i) h e)) f) λa=>ao h (a (H c 79 h) d g) (e (H c 79 h) d g)) (zS (zU c 10 d 11 g 12 i 76 h) 77 b 78 (.Z 0)) j k) f) λa=>ao h (a (H c 69 h) d g) (i (H c 69 h) d g)) (zU b 8 .zV 66 g 67 h 68 (.Z 0)) c d) λj=>ao i (Z (b4 a h 2 d) λb=>Z (b4 a h 2 c) λc=>Z (b0 a h .eql 26 false b c) λb=>f6 b (λb=>az a 6 [] h g b f) h g λa c d=>bJ (λa=>e a c d) λc=>ao b (c a) (c .zT)) (j (zT b 5 d 7 c 56 i) h g)) f) λa=>ao g (e .zT c d) (a (H b 46 g) c d)) λj=>ao i (az a 6 [] h d e f) (j (zU (bI [b]) 2 .zT 4 c 3 g 43 i) h d)
theorem Me:dM X 4 [a0] (Dt X a0):=⟨Zk,Zk⟩
def CW:Za1:=λa b c d e f _=>Z (ay a d c) λc=>Z (fb a d 9 .au c b true) λa=>et a λ_ a=>f a d e
theorem K8:dM X 16 [a0,aL] (CW X a0 aL):=⟨Zk,Zk⟩
def CB:Za0:=λa b c d e f=>dB b 0 a c λ_ g=>Z (aH .eql g (.Z 5)) λg=>aG (λb c d=>tu b a c 2 λg=>jv g (b 0) c d λc d h=>ou g c d h a 6 λc d h=>bJ (λc=>jv c (b 0) d h λd g h=>ou c d g h a 24 λd g h=>bJ (λc=>aG (λb c d=>hn b 8 a c λ_ _ g=>d9 g (λa b c=>gb a λa=>e a b c) λe h=>cx (λb c d e=>dy c 42 41 λg=>aG (λc d e=>fp (λa c d=>db a 42 λe=>b (H a 42 e) c d) c 42 40 λb g h=>bt (c 42) λi=>fL h i a d λh=>jh c a d λi=>Z (aH .neq i (.Z 21)) λi=>dO i g d e λd e j=>c1 i (aH .eql d (.Z 0)) e j λd e j=>bJ (λd=>aG b λb=>ao d (gb c λi=>az a 14 [h] e j (λe f j=>lr a f j i e λa e f=>b (zU c 4 g 5 h 55 d 3 a) e f) f) (b (zT c 4 g 5 h 55 d) e j)) λa=>ao i (a .zV) (a d)) λa=>ao g (a (H c 43 g) d e) (h (H c 43 g) d e)) (zT b 40 g 41 e 42 (.Z 0)) c d) λd=>ao c (hn b 2 a g λ_ _ e=>Z (dX 1 [.str []] [(0,1,e)] h) λe=>dG a g h e.1 e.2 λe f g=>d6 (fP a f g 1 .au e) f g λa e f=>d (zT b 3 .au 29 c 3 a) e f) (d (zS b 3 .au 29 c) g h)) λa=>ao c (a .zV) (a d)) λa=>ao g (a .zV) (a c)) λa=>ao g (e .au c d) (a (zS (bI [b]) 2 .au 10 g) c d)
theorem KG:dM X 14 [a0] (CB X a0):=⟨Zk,Zk⟩
def DY:Za0:=λa b c d e f=>nu d a c λc d g=>mC a 12 b d g f λd g _ h=>vk g a d h 0 λd g h i=>aG (λb c d=>jh b a c λg=>d9 g (λb c d=>tt λf=>jJ b 2 a c 2 f λa b=>e b a d) λh i=>cx (λb c d g=>dy c 26 25 λh=>aG (λc d g=>fp (λa c d=>db a 26 λe=>b (H a 26 e) c d) c 24 26 λb h i=>pN h i a d g λd g h=>iM a h 6 d 10 g f λg h i=>mC a 23 g h i f λg h i j=>Z (dP .not j) λk=>aG (λb c d=>bt (b 6) λg=>iM a c 6 g 8 d f λc d g=>cO (g+15) λh=>bt (b 7) λi=>tw 1 i λi=>Z (ay a d i) λj=>vi g 12 a d λd g=>az a 9 [c] g h (λg h k=>fL g j a h λg=>Z (ay a h i) λi=>d8 i (some j) (az a 13 [c,g] h k (λf g h=>et f λf _=>Z (cN a g 11 d f) λf=>cK 9 d a f λ_ g=>mA g λg=>aG (λb c d=>bt (b 10) λf=>Z (d2 1 f) λf=>cK 6 f a c λ_ f=>vj 29 f λf=>jJ b 2 a c 2 f λa b=>e b a d) λi=>ao g (eK b 6 5 a f λ_ c=>cK 9 d a f λ_ d=>Z (da 4 c d) λc=>cK 2 c a f λ_ c=>vj 29 c λc=>jJ b 2 a f 2 c λa b=>e b a h) (i (zT b 9 c 10 d 54 g) f h)) f)) f) λa=>ao k (b (zU c 6 d 7 i 8 j 37 k) g h) (a (zU c 6 d 7 i 8 j 37 k) g h)) λa=>ao h (a (H c 27 h) d g) (i (H c 27 h) d g)) (zT b 24 g 25 h 26 (.Z 0)) c d) λf=>ao i (Z (b4 a h 2 d) λb=>pQ a h 2 c b λa b=>e b a g) (f (zT (bI [b]) 2 c 4 d 19 i) h g)
theorem M2:dM X 7 [a0] (DY X a0):=⟨Zk,Zk⟩
def B4:Za0:=λa b c d e f=>eM a c d b λc d g=>iM a d 6 c 8 g f λd g h=>oy a g h λg h i=>az a 9 [d] h i (λh i j=>d9 h (λb c d=>gb b λg=>az a 9 [g] c d (λc d g=>d9 c (λa b c=>bt (a 7) λa=>e a b c) λe h=>cx (λb c d e=>dy c 36 35 λg=>aG (λc d e=>g7 (λa c d=>db a 36 λe=>b (H a 36 e) c d) c 34 36 a d λb g=>gb c λh=>az a 13 [h,g] d e (λd e h=>pO d h a e λ_ d e h=>Z (d2 1 d) λi=>cK 5 i a h λ_ i=>Z (dX 1 [.str []] [(0,1,i)] e) λi=>dG a h e i.1 i.2 λe h i=>cK 9 d a h λ_ j=>mA j λj=>kN j 0 d h i a λh i k=>cF j (aH .neq h (.Z 1)) i k λh i k=>bJ (λh=>aG (λc d e=>bt (c 12) λg=>d9 g (λc d e=>bt (c 13) λg=>AY a d [g] e λ_ d e=>cZ c 7 13 λg h=>az a 28 [h] d e (λd e f=>Z (dX 1 [.au] [(0,1,d)] f) λd=>nw a e f d.1 d.2 1 g λa d e=>b (H c 7 a) d e) f) λb f=>cx (λb c d e=>dy c 70 69 λg=>aG (λc d e=>g7 (λa c d=>db a 70 λe=>b (H a 70 e) c d) c 68 70 a d λb f=>eL c λg=>Z (fb a d 9 (.Z 0) g f true) λg=>et g λg h=>aG b λb=>ao h (bt (c 13) λi=>vp g e a d i λa d e=>b (H (zU c 15 f 16 g 17 h 80 h) 13 a) d e) (b (zU c 15 f 16 g 17 h 80 h) d e)) λa=>ao g (a (H c 71 g) d e) (f (H c 71 g) d e)) (zU c 13 .au 68 g 69 b 70 (.Z 0)) d e) λb=>ao h (eK c 1 5 a i λ_ j=>cK 9 d a i λ_ l=>Z (da 4 j l) λj=>mB 3 j a i 26 k f λf i j=>lr a i j e f λa f i=>b (H (zU c 9 g 10 d 12 e 57 h) 12 a) f i) (b (zU c 9 g 10 d 12 e 57 h) i k)) λa=>ao j (a h) (a .zT)) f) λa=>ao g (a (H c 37 g) d e) (h (H c 37 g) d e)) (zU b 7 .au 34 c 35 e 36 (.Z 0)) d g) f) λe f=>cx (λb c d e=>dy c 24 23 λg=>aG (λc d e=>fp (λa c d=>db a 24 λe=>b (H a 24 e) c d) c 24 22 λb f g=>bt (c 24) λh=>fL g h a d λg=>eL c λh=>d6 (hT a d e 9 h g f) d e λ_ a d=>b (zS c 5 f 6 g) a d) λa=>ao g (a (H c 25 g) d e) (f (H c 25 g) d e)) (zT (zU (bI [b]) 1 c 2 .au 3 d 4 g) 22 h 23 e 24 (.Z 0)) i j) f
theorem JA:dM X 10 [a0] (B4 X a0):=⟨Zk,Zk⟩
def C2:Za0:=λa b c d e f=>eM a c d b λc d g=>iM a d 6 c 10 g f λd g h=>mC a 33 d g h f λd g h i=>tx i λj=>aG (λb c d=>ho b λg=>iM a c 6 g 8 d f λc d g=>az a 9 [c] d g (λc d f=>eL b λg=>d9 g (λa b c=>bt (a 7) λa=>e (.tuple [a,.zV]) b c) λe h=>cx (λb c d e=>dy c 23 22 λf=>aG (λc d e=>g7 (λa c d=>db a 23 λe=>b (H a 23 e) c d) c 21 23 a d λb f=>cZ c 7 6 λg h=>fL h f a d λh=>Z (dX 1 [.str []] [(0,1,h)] e) λh=>nw a d e h.1 h.2 1 g λa d e=>b (zS c 9 f 7 a) d e) λa=>ao f (a (H c 24 f) d e) (h (H c 24 f) d e)) (H (zU b 6 c 7 .au 21 g 22 e) 23 (.Z 0)) d f) f) λa=>ao j (e (.tuple [.au,.zT]) d g) (a (zS (zU (bI [b]) 1 c 2 .au 3 .zT 4 h) 5 i 17 j) d g)
theorem Lc:dM X 17 [a0] (C2 X a0):=⟨Zk,Zk⟩
def Df:Za0:=λa b c d e f=>Z (fG [.au] d) λg=>dG a c d g.1 g.2 λc d g=>Z (fG [.nilFunc] g) λh=>dG a d g h.1 h.2 λd g h=>Z (cN a g 1 d (.func (.func 47) [] [c,d])) λg=>Z (ay a g d) λd=>e5 a d [b] g h (λ_ b d=>Z (ay a b c) λa=>e a b d) f
theorem Ly:dM X 26 [a0] (Df X a0):=⟨Zk,Zk⟩
def DB:Za2:=λa b c d e f g h=>Z (b0 a e .eql 40 true b .bE) λi=>dO i b e f λe f j=>ou i e f j a 5 λe f j=>bJ (λe=>aG (λb c d=>tu b a c 2 λe=>jv e (b 0) c d λc d f=>ou e c d f a 6 λc d f=>bJ (λc=>jv c (b 0) d f λd e f=>ou c d e f a 24 λd e f=>bJ (λc=>cO (f+10) λd=>wE c (b 1) (λb=>ay a e b) e λe f=>pP c b 0 f 2 a λf i=>f6 c (λb=>az a 48 [e,f] i d b h) i d λd e f=>f5 c (dP .not d) e λd e=>bJ (λd=>aG (λb c d=>hn b 8 a c λ_ _ e=>tu b a c 21 λf=>aG (λb c d=>hp b λe=>d9 e (λ_ a b=>g (.tuple []) a b) λf g=>cx (λb c d e=>dy c 69 68 λf=>aG (λc d e=>g7 (λa c d=>db a 69 λe=>b (H a 69 e) c d) c 67 69 a d λb f=>ff c 2 a d λg=>e5 a g [f] d e (λ_ a d=>b (H c 7 f) a d) h) λa=>ao f (a (H c 70 f) d e) (g (H c 70 f) d e)) (zT b 67 e 68 f 69 (.Z 0)) c d) λg=>ao f (BV e a c 1 λa=>g (zT b 5 e 61 f 5 a) c d) (g (zS b 5 e 61 f) c d)) λg=>ao d (cO (f+8) λh=>ff b 1 a e λi=>hn b 2 a e λ_ _ j=>Z (dX 1 [.str []] [(0,1,j)] (f+5)) λj=>g3 a e (f+5) j.1 j.2 λe f=>lr a f h i e λe f h=>ho b λi=>ga a f i e λa=>g (zS b 4 c 45 d) a h) (g (zS b 4 c 45 d) e f)) λa=>ao c (a d) (a .zT)) λa=>ao c (a .zV) (a d)) λa=>ao e (a .zV) (a c)) λa=>ao e (g (.tuple []) f j) (a (H (bI [b,c,d]) 16 e) f j)) λa=>ao i (a .zV) (a e)
theorem Ma:dM X 47 [a0,aL,bs] (DB X a0 aL bs):=⟨Zk,Zk⟩
def Dg:Za0:=λa b c d e _=>Z (c2 b) λf=>Z (aH .lss f (.Z 2)) λf=>aG (λb c d=>aG (λa b c=>cC a λa=>e a b c) λf=>cx (λb c d g=>cZ c 3 0 λh i=>Z (c2 i) λi=>Z (aH .lss h i) λh=>aG (λc d f=>aG (λa c d=>db a 3 λe=>b (H a 3 e) c d) λb=>cO (f+10) λf=>cZ c 0 3 λg h=>fL g h a d λg=>cZ c 0 3 λh i=>kO i λi=>fL h i a d λh=>Z (aH .eql g h) λg=>aG b λb=>ao g (cZ c 0 3 λb h=>Z (fY a d 1 b (some h) none none) λb=>aG (λb c d=>cZ b 0 3 λf g=>Z (fY a c 1 f (some g) none none) λf=>d6 (kx a c d .clear [39] [f]) c d λ_ c d=>cZ b 0 3 λb f=>Z (fY a c 1 b none (some f) none) λa=>e a c d) λe=>cx (λb c d f=>cZ c 5 4 λg h=>Z (c2 h) λh=>Z (aH .lss g h) λg=>aG (λc d e=>aG (λa c d=>db a 5 λe=>b (H a 5 e) c d) λb=>cO (e+10) λe=>cZ c 4 5 λf g=>fL f g a d λf=>cZ c 4 5 λg h=>kO h λh=>fL g h a d λg=>Z (aH .neq f g) λf=>aG b λb=>ao f (cZ c 0 3 λg h=>cZ c 4 5 λi j=>fL i j a d λi=>Z (da 1 g h) λg=>ga a d g i λa=>db c 3 λd=>b (zS c 44 f 3 d) a e) (b (H c 44 f) d e)) λa=>ao g (a (H c 32 g) d f) (e (H c 32 g) d f)) (zT c 25 g 4 b 5 (.Z 1)) d f) (b (H c 25 g) d f)) λa=>ao h (a (H c 13 h) d g) (f (H c 13 h) d g)) (H b 3 (.Z 1)) c d) λa=>ao f (e b c d) (a (zS (bI [b]) 2 .au 8 f) c d)
theorem LA:dM X 28 [a0] (Dg X a0):=⟨Zk,Zk⟩
def D2:Za1:=λa b c d e f g=>az a 106 [b,c] d e (λa b c=>mA a λa=>f a b c) g
theorem MU:dM X 72 [a0,aL] (D2 X a0 aL):=⟨Zk,Zk⟩
def Cb:Za1:=λa b c d e f g=>d9 b (λ_ a b=>f (.Z (-1)) a b) λh i=>cx (λb c d e=>dy c 8 7 λh=>aG (λc d e=>fp (λa c d=>db a 8 λe=>b (H a 8 e) c d) c 8 1 λb h i=>cC c λj=>fL j h a d λj=>e5 a i [j] d e (λa d e=>aG b λb=>ao a (f h d e) (b (zS c 5 h 16 a) d e)) g) λa=>ao h (a (H c 9 h) d e) (i (H c 9 h) d e)) (zT (bI [b,c]) 4 (.Z 0) 7 h 8 (.Z 0)) d e
theorem Ju:dM X 106 [a0,aL] (Cb X a0 aL):=⟨Zk,Zk⟩
def Dz:Za1:=λa b c d e f _=>d9 b (λ_ a b=>f (.Z (-1)) a b) λg h=>cx (λb c d e=>dy c 8 7 λg=>aG (λc d e=>fp (λa c d=>db a 8 λe=>b (H a 8 e) c d) c 8 1 λb g h=>cC c λi=>fL i g a d λa=>Z (aH .eql h a) λa=>aG b λb=>ao a (f g d e) (b (zS c 5 g 16 a) d e)) λa=>ao g (a (H c 9 g) d e) (h (H c 9 g) d e)) (zT (bI [b,c]) 4 (.Z 0) 7 g 8 (.Z 0)) d e
theorem L6:dM X 45 [a0,aL] (Dz X a0 aL):=⟨Zk,Zk⟩
def Dc:Za0:=λa b c d e f=>az a 43 [b] c d (λc d g=>Z (dP .not c) λc=>aG (λb c d=>oy a c d λc d g=>cC b λh=>d9 h (λb c d=>cC b λg=>az a 44 [g] c d (λc d g=>d9 c (λb c d=>eL b λg=>Z (n5 a c g) λg=>Z (aH .eql g (.Z 0)) λg=>aG (λb c d=>cC b λg=>Z (c2 g) λg=>eL b λh=>d6 (xl a c d h) c d λc d h=>aG (λb c d=>aG (λa b c=>bt (a 10) λa=>e (.tuple [a,.zV]) b c) λe=>cx (λb c d g=>aG b λb=>cZ c 10 8 λh i=>vp i g a d h λd g h=>cC c λi=>Z (c2 i) λi=>cZ c 0 8 λj k=>fL j k a g λj=>d9 j (λc d g=>cZ c 10 11 λh i=>az a 45 [h,i] d g (λd f g=>mA d λh=>aG (λa c d=>bt (a 11) λe=>b (H a 8 e) c d) λb=>ao h (bt (c 10) λb=>Z (fY a f 1 b (some d) none none) λa=>e (zT c 14 d 78 h 10 a) f g) (b (zS c 14 d 78 h) f g)) f) λb e=>cx (λb c d f=>dy c 62 61 λg=>aG (λc d e=>g7 (λa c d=>db a 62 λe=>b (H a 62 e) c d) c 60 62 a d λb f=>eL c λg=>Z (fb a d 3 (.Z 0) g f false) λg=>vn g λg=>aG b λb=>ao g (bt (c 11) λh=>Z (jo a d .min [3,3] [h,f]) λa=>b (zT c 13 f 69 g 11 a) d e) (b (zS c 13 f 69 g) d e)) λa=>ao g (a (H c 63 g) d f) (e (H c 63 g) d f)) (H (zU c 10 d 11 i 60 j 61 b) 62 (.Z 0)) g h) (H b 10 .au) c d) λe=>cx (λb c d f=>bt (c 43) λg=>n0 (iW a fB false d f (eY g)) d f λd f g=>Z (hH 0 d) λd=>aG (λc d e=>aG b λb=>bt (c 43) λf=>Z (qu a d f) λf=>Z (hH 0 f) λf=>bt (c 8) λg=>Z (jo a d .min [3,3] [g,f]) λa=>b (zS c 9 f 8 a) d e) λa=>ao d (a (H c 45 d) f g) (e (H c 45 d) f g)) (zS b 8 g 43 c) d h) λa=>ao g (e (.tuple [.au,.zT]) c d) (a (H b 39 g) c d)) λe f=>cx (λb c d e=>dy c 30 29 λg=>aG (λc d e=>g7 (λa c d=>db a 30 λe=>b (H a 30 e) c d) c 28 30 a d λb f=>eL c λg=>d6 (kx a d e .delete [48,3] [g,f]) d e λ_ a d=>b (H c 7 f) a d) λa=>ao g (a (H c 31 g) d e) (f (H c 31 g) d e)) (zT b 28 c 29 e 30 (.Z 0)) d g) f) λe f=>cx (λb c d e=>dy c 21 20 λg=>aG (λc d e=>fp (λa c d=>db a 21 λe=>b (H a 21 e) c d) c 21 4 λb f g=>d6 (hT a d e 3 g f (.Z 1)) d e λ_ a d=>b (H c 5 f) a d) λa=>ao g (a (H c 22 g) d e) (f (H c 22 g) d e)) (zT b 4 c 20 e 21 (.Z 0)) d g) λa=>ao c (e (.tuple [.au,.zT]) d g) (a (zT (bI [b]) 2 .au 3 .zT 17 c) d g)) f
theorem Ls:dM X 23 [a0] (Dc X a0):=⟨Zk,Zk⟩
def Dm:Za0:=λa b c d e f=>az a 43 [b] c d (λc d g=>Z (dP .not c) λc=>aG (λb c d=>cC b λg=>az a 44 [g] c d (λa c d=>Z (c2 a) λf=>cC b λg=>Z (c2 g) λg=>Z (aH .lss f g) λf=>aG (λa b c=>eL a λa=>e (.tuple [a,.Z 0]) b c) λg=>ao f (e (.tuple [.au,.Z 35]) c d) (g (zS b 4 a 14 f) c d)) f) λa=>ao c (e (.tuple [.au,.Z 1]) d g) (a (zT (bI [b]) 2 .au 3 (.Z 0) 7 c) d g)) f
theorem LH:dM X 33 [a0] (Dm X a0):=⟨Zk,Zk⟩
def Dx:Za0:=λa b c d e f=>eM a c d b λc d g=>Z (ay a d c) λh=>d9 h (λ_ a b=>e .zV a b) λi j=>cx (λb c d g=>dy c 7 6 λh=>aG (λc d g=>g7 (λa c d=>db a 7 λe=>b (H a 7 e) c d) c 5 7 a d λb h=>ho c λi=>az a 72 [h,.func (.func 73) [] [i]] d g (λa d f=>aG b λb=>ao a (e .zT d f) (b (zS c 4 h 13 a) d f)) f) λa=>ao h (a (H c 8 h) d g) (j (H c 8 h) d g)) (H (zU (bI [b]) 1 c 2 .zT 5 h 6 i) 7 (.Z 0)) d g
theorem L2:dM X 43 [a0] (Dx X a0):=⟨Zk,Zk⟩
def Dy:Za0:=λa b c d e f=>Z (c2 b) λg=>d6 (wT a c d 1 [.Z 0] g g) c d λc d g=>Z (c2 b) λh=>d6 (wT a d g 1 [.au] h h) d g λd g h=>Z (dX 0 [] [] h) λi=>dG a g h i.1 i.2 λg h i=>eM a h i g λg h i=>d9 b (λb c d=>aG (λa b c=>bt (a 10) λa=>e a b c) λe=>cx (λb c d g=>hp c λh=>Z (hm h) λh=>Z (ay a d h) λh=>az a 75 [h] d g (λd g h=>vn d λd=>aG (λc d e=>aG b λb=>hp c λg=>Z (some (y.iface 152 g)) λg=>az a 76 [g] d e (λd e g=>Z (ly 3 (.Z 0) false d) λd=>bt (c 10) λh=>vp d g a e h λe g h=>eL c λi=>fL i d a g λi=>Z (c2 i) λj=>aG b λb=>cx (λc d e g=>dy d 78 77 λh=>aG (λb d e=>g7 (λa b d=>db a 78 λe=>c (H a 78 e) b d) b 76 78 a d λc g=>gb b λh=>fL h g a d λi=>kO i λi=>Z (da 1 h g) λh=>ga a d h i λd=>gb b λh=>fL h g a d λh=>jg h 0 c λc h=>ao c (hp b λi=>Z (some (y.iface 152 i)) λi=>Z (some (y.iface 3 g)) λj=>az a 74 [i,j] d e (λ_ a d=>h (zS b 13 g 92 c) a d) f) (h (zS b 13 g 92 c) d e)) λa=>ao h (a (H d 79 h) e g) (b (H d 79 h) e g)) (H (zU c 11 d 10 e 76 i 77 j) 78 (.Z 0)) g h) f) λa=>ao d (a (H c 64 d) g h) (e (H c 64 d) g h)) f) (H b 10 .au) c d) λe j=>cx (λb c d e=>dy c 24 23 λg=>aG (λc d e=>fp (λa c d=>db a 24 λe=>b (H a 24 e) c d) c 24 22 λb g h=>bt (c 24) λi=>fL h i a d λh=>gb c λi=>Z (c2 h) λj=>Z (da 1 i g) λi=>ga a d i j λd=>d9 h (λc d e=>bt (c 7) λg=>Z (c2 g) λg=>jg g 0 b λb g=>ao b (hp c λh=>Z (some (y.iface 152 h)) λh=>bt (c 6) λi=>Z (some (y.iface 3 i)) λi=>az a 74 [h,i] d e (λ_ a d=>g (H c 53 b) a d) f) (g (H c 53 b) d e)) λb f=>cx (λb c d e=>dy c 36 35 λg=>aG (λc d e=>g7 (λa c d=>db a 36 λe=>b (H a 36 e) c d) c 34 36 a d λb f=>cZ c 4 4 λg h=>fL h f a d λh=>bt (c 6) λi=>vp i e a d h λd e h=>Z (da 1 g f) λg=>ga a e g d λa=>b (H c 9 f) a h) λa=>ao g (a (H c 37 g) d e) (f (H c 37 g) d e)) (H (zU c 6 g 7 h 34 h 35 b) 36 (.Z 0)) d e) λa=>ao g (a (H c 25 g) d e) (j (H c 25 g) d e)) (zT (zU (bI [b]) 2 .au 3 c 4 d 5 g) 22 b 23 e 24 (.Z 0)) h i
theorem L4:dM X 44 [a0] (Dy X a0):=⟨Zk,Zk⟩
def D3:Za1:=λa b c d e f _=>rZ b λg=>dO g b d e λb d e=>c1 g (ay a d c) d e λa c d=>c1 g (c2 a) c d λa c d=>c1 g (aH .geq b a) c d λa b c=>bJ (λa=>f a b c) λb=>ao g (b .zV) (b a)
theorem MW:dM X 73 [a0,aL] (D3 X a0 aL):=⟨Zk,Zk⟩
def D4:Za1:=λa b c d e f g=>jA a false b "Push" [c] d e (λ_ c d=>jA a false b "Len" [] c d (λc d e=>kO c λc=>az a 107 [b,c] d e (λ_ a b=>f (.tuple []) a b) g) g) g
theorem MY:dM X 74 [a0,aL] (D4 X a0 aL):=⟨Zk,Zk⟩
def yj:Za0:=λ_ a b c d _=>Z (c2 a) λa=>d a b c
def D6:bL X 75 [a0]=yj X a0:=Zk
def D5:bD X 75 1=true:=Zk
def D7:Za0:=λa b c d e f=>jA a false b "Len" [] c d (λc d g=>kO c λc=>jA a false b "Swap" [.Z 0,c] d g (λ_ d g=>az a 108 [b,.Z 0,c] d g (λ_ c d=>jA a false b "Pop" [] c d e f) f) f) f
theorem M0:dM X 76 [a0] (D7 X a0):=⟨Zk,Zk⟩
def Cc:Za1:=λa b c d e f g=>aG (λ_ a b=>f (.tuple []) a b) λf=>cx (λb c d e=>aG b λb=>ho c λh=>kO h λh=>Z (aH .quo h (.Z 2)) λh=>ho c λi=>Z (aH .eql h i) λi=>jv i (c 0) d e λd e j=>jv i (c 1) e j λe j k=>dO i h j k λj k l=>r0 i (λb=>jA a false d "Less" [e,j] k l b g) k l λd e j=>bJ (λd=>aG (λc d e=>cZ c 0 4 λf h=>ho c λi=>jA a false f "Swap" [h,i] d e (λ_ a d=>eL c λe=>b (H c 1 e) a d) g) λa=>ao d (f (zS c 4 h 17 d) e j) (a (zS c 4 h 17 d) e j)) λa=>ao i (a .zV) (a d)) (bI [b,c]) d e
theorem Jw:dM X 107 [a0,aL] (Cc X a0 aL):=⟨Zk,Zk⟩
def Cd:Za2:=λa b c d e f g h=>aG (λa b c=>cZ a 7 1 λa d=>Z (aH .gtr a d) λa=>g a b c) λg=>cx (λb c d e=>aG b λb=>bt (c 7) λf=>Z (aH .mul (.Z 2) f) λf=>nx f λf=>gy c λi=>Z (aH .geq f i) λi=>dO i f d e λd e j=>c1 i (aH .lss d (.Z 0)) e j λd e j=>bJ (λd=>aG (λc d e=>cZ c 8 8 λf i=>nx i λi=>gy c λj=>Z (aH .lss i j) λj=>gG j (c 0) d e λd e k=>fm j i e k λe k l=>gG j (c 8) k l λk l m=>f6 j (λb=>jA a false d "Less" [e,k] l m b h) l m λd e k=>bJ (λd=>aG (λc d e=>cZ c 0 9 λf i=>bt (c 7) λj=>jA a false f "Less" [i,j] d e (λd e f=>Z (dP .not d) λd=>aG (λc d e=>cZ c 0 7 λf g=>bt (c 9) λi=>jA a false f "Swap" [g,i] d e (λ_ a d=>bt (c 9) λe=>b (H c 7 e) a d) h) λa=>ao d (g (H c 39 d) e f) (a (H c 39 d) e f)) h) λa=>ao d (a (zU c 9 f 10 i 33 d 9 i) e k) (a (zT c 9 f 10 i 33 d) e k)) λa=>ao j (a d) (a .zT)) λa=>ao d (g (zS c 8 f 21 d) e j) (a (zS c 8 f 21 d) e j)) λa=>ao i (a .zV) (a d)) (zS (bI [b,c,d]) 6 .zT 7 c) e f
theorem Jy:dM X 108 [a0,aL,bs] (Cd X a0 aL bs):=⟨Zk,Zk⟩
def C5:Za2:=λa b c d e f g _=>cO (f+10) λf=>fL b c a e λc=>fL b d a e λa=>Z (aH .lss c a) λa=>g a e f
def Lg:bL X 193 [a0,aL,bs]=C5 X a0 aL bs:=Zk
def Lf:bD X 193 3=true:=Zk
def C6:Za0:=λa b c d e _=>Z (hm b) λf=>Z (ay a c f) λf=>Z (c2 f) λf=>kO f λf=>Z (hm b) λg=>Z (ay a c g) λg=>fL g f a c λg=>Z (hm b) λh=>Z (ay a c h) λh=>Z (fY a c 1 h none (some f) none) λf=>Z (hm b) λb=>ga a c b f λa=>Z (some (y.iface 3 g)) λb=>e b a d
def Li:bL X 194 [a0]=C6 X a0:=Zk
def Lh:bD X 194 1=true:=Zk
def C7:Za1:=λa b c d e f _=>cO (e+10) λg=>Z (hm b) λh=>Z (ay a d h) λh=>Z (ly 3 (.Z 0) false c) λc=>Z (dX 1 [.Z 0] [(0,1,c)] (e+6)) λc=>g3 a d (e+6) c.1 c.2 λc d=>lr a d g h c λc d e=>Z (hm b) λb=>ga a d b c λa=>f (.tuple []) a e
def Lk:bL X 195 [a0,aL]=C7 X a0 aL:=Zk
def Lj:bD X 195 2=true:=Zk
def C8:Za2:=λa b c d e f g _=>cO (f+16) λf=>fL b d a e λh=>fL b c a e λi=>Z (da 1 b c) λc=>ga a e c h λc=>Z (da 1 b d) λb=>ga a c b i λa=>g (.tuple []) a f
def Lm:bL X 196 [a0,aL,bs]=C8 X a0 aL bs:=Zk
def Ll:bD X 196 3=true:=Zk
variable{X:bf}{j S' am ah:B R}{k W ak ar:Nat}{P:Nat->Prop}
def abH{aB:y}{n:Nat}(e:c2 aB=some (.Z (n+1:Nat))):b0 X j .eql 38 true aB .au=some .zT:=by cases aB with|au=>exfalso;simp[c2]at e;omega|slice b J n c=>kernel_rfl|cy b J n c=>kernel_rfl|_=>simp[c2]at e
def act(b:Nat):b0 X j .eql 43 true (.ptr b 0) .bE=some .zT:=Zk
def OL(G:bW X){b:Nat}{aB:y}{cf:List ax}(i:(o X).aD<=k)(n:ca X j P b aB 1 (cQ cf))(aU:∀h,P h->h<k)(T1:cf≠[]):
 az X 25 [aB] j k (λM S' W=>(∃d,ca X S' (bR k W) d M 1 (cQ cf))/\aT X j k S' W) zW:=by
 refine z6 G (Lw ..) ?_;unfold De;have g:=n.len;have T0:=n.many;have p:(cQ cf).length=cf.length:=by simp[cQ]
 rw[p]at g T0;obtain⟨m,O⟩:∃m,cf.length=m+1:=⟨cf.length-1,zK (ZP.2 T1)⟩;rw[O]at g;have x:=abH (X:=X) (j:=j) g;refine bh @x ⟨?_⟩;generalize f:aI X j k _=am;have A:F X am k=zO [] 0:=by rw[<-f,aJ i]
 have a7:∀h,h<k->F X am h=F X j h:=λh c=>by rw[<-f,ag i Zo]
 clear f;have t:=u3 (n.K (S':=am) λh c=>a7 h (aU h c)) Zd;rw[p]at t;have v:(cQ cf).flatten=cf.map .str:=by
  have:∀l:List ax,(cQ l).flatten=l.map .str:=by intro l;induction l with|nil=>rfl|cons a l U=>show[y.str a]++(cQ l).flatten=_;rw[U];rfl
  exact this cf
 rw[v]at t;have T2:∀l:List ax,ei (l.map y.str)=true:=by intro l;induction l with|nil=>rfl|cons a l U=>rw[ZH,ei,U];rfl
 have C:cT X am (.slice k 0 0 0) 1 [] [k]:=.inr ⟨k,0,_,.own,rfl,rfl,rfl,A,fS _,rfl,i⟩;obtain⟨T5,ah,T4,L,w,N,dx⟩:=C.append (k:=k+1) Zd t Zs Zo (T2 cf) Zx Zo Zs;refine d7 L ?_;rw[Yz, <-v]at w;obtain⟨d,T3⟩:=w.kG Zd (λr I=>by obtain⟨M,_,rfl⟩:=ZB.1 (show r∈cf.map (λs=>[y.str s]) from I);rfl) (by rw[p];omega) (P:=bR k (k+1+1)) (λh c=>by
  rcases N h c with rfl|e
  ·exact⟨Zo,Zo⟩
  ·simp at e;exact⟨Zo,Zo⟩)
 exact⟨⟨d,T3⟩,Zo,λh c=>by rw[dx h Zo Zx,a7 h c]⟩
def uS(a:bW X){bw b:Nat}{aB:y}{cf:List ax}(f:(o X).aD<=k)(l:ay X j (.ptr bw 1)=some aB)(i:ca X j P b aB 1 (cQ cf))(aU:∀h,P h->h<k)(g:cf≠[]):
 az X 9 [.ptr bw 0] j k (λM S' W=>(∃c,ca X S' (bR k W) c M 1 (cQ cf))/\aT X j k S' W) zW:=by
 refine z6 a (Nw ..) ?_;unfold Eb;have d:=act (X:=X) (j:=j) bw;refine bA @d @l ⟨?_⟩;refine(OL a f i aU g).Zm ?_;rintro M ah ar e;refine br ⟨?_⟩;exact e
variable{dU:B R}
def GQ{C:ai}{j:B R}(x h:Int):jo C j .min [3,3] [.int .i64 x,.int .i64 h]=some (.int .i64 (min x h)):=by show h2 false (.int .i64 x) [.int .i64 h]=_;simp only[h2,c3,k6];congr 2;simp only[Zf];split<;>simp_all<;>omega
def Sw:∀{l:List GE}{q a:Int},kA l=some (q,a)->q=30\/q=22:=by
 intro l;induction l with
 |nil=>intro q a e;cases e|cons g l U=>
  intro q a e;unfold kA at e;split at e
  ·cases e;exact .inl rfl
  ·split at e
   ·cases e;exact .inr rfl
   ·exact U e
def ω{s:ax}(d:s.length<=5000){q a:Int}(e:nd s=.error (q,a)):q≠0:=by
 have b:=HB d;rw[e]at b;unfold od at b;split at b
 ·cases b
 ·cases b;decide
 ·split at b
  ·cases b
  ·cases b;decide
  ·split at b
   ·rename_i c;cases b;unfold jy at c;split at c
    ·cases c;decide
    ·rcases Sw c with rfl|rfl<;>decide
   ·cases b
def mU{G P:bO->B R->Nat->Prop}{a:Prop}(b:(∀z j n,P z j n->BW (G z j n))->a)(c:∀z j n,P z j n->G z j n):a:=b λz j n e=>⟨c z j n e⟩
def AL:∀(b:List aX) (f:Bool) (l:List ax),la l f b=(if f=true then b.take 1 else b).foldl fA l
 |[],f,l=>by cases f<;>rfl|a::b,f,l=>by cases f with|true=>rw[la];rfl|false=>rw[la,AL b];rfl
def Eu(l:List ax)(w:ax):l.length<=(lw l w).length:=by unfold lw;split<;>simp
mutual
def GB:∀(u:aX) (l:List ax),l.length<=(fA l u).length
 | .mk q a nm no ty n args,l=>by
   rw[fA];split
   ·exact Zg _
   ·refine ZD ?_ (AO args _ _);split
    ·exact Eu _ _
    ·exact Zg _
def AO:∀(b:List aX) (f:Bool) (l:List ax),l.length<=(la l f b).length
 |[],f,l=>Zg _|a::b,f,l=>by
  rw[la];split
  ·exact GB a l
  ·exact ZD (GB a l) (AO b f _)
end
def FR(L:List aX)(l:List ax):l.length<=(L.foldl fA l).length:=by have:=AO L false l;rw[AL]at this;exact this
mutual
def m2:aX->Bool
 | .mk q _ _ _ _ _ args=>(decide (q≠21)|| !args.isEmpty)&&sx args
def sx:List aX->Bool
 |[]=>true|a::l=>m2 a&&sx l
end
def FE:∀{l:List aX}{a:aX},sx l=true->a∈l->m2 a=true
 |b::l,a,e,c=>by
  rw[sx,Zt]at e;rcases Zq.1 c with rfl|c
  ·exact e.1
  ·exact FE e.2 c
def pW(X:bf)(j:B R)(n dL aW:Nat)(l:List ax):Prop:=aW<=n/\∃c aB aQ,F X j dL=some (.cells c 1 .own)/\c.get 0=some aB/\cT X j aB 1 (l.map .str) aQ/\∀h∈aQ,aW<=h/\h<n
def pW.K{dL aW:Nat}{l:List ax}(e:pW X j ak dL aW l)(p:ak<=ar)(d:∀h,h<ak->(h=dL\/aW<=h)->F X S' h=F X j h)(n:dL<aW):pW X S' ar dL aW l:=by obtain⟨m,c,aB,aQ,f,g,i,b⟩:=e;exact⟨Zo,c,aB,aQ,by rw[d dL Zo (.inl rfl)];exact f,g,i.K (λh a=>d h (b h a).2 (.inr (b h a).1)),λh a=>⟨(b h a).1,zK (b h a).2⟩⟩
def abE{C:ai}{j:B R}{bz m:Nat}{aB:y}{aF:List y}(a:ca C j P bz aB 1 (aF.map λv=>[v]))(g:sb C j aB bz aF.length)(f:m<=aF.length):
 ∃b,fY C j 1 aB none (some (.Z m)) none=some b/\ca C j P bz b 1 ((aF.take m).map λv=>[v]):=by
 obtain⟨_,c,rfl,n⟩:=g;refine⟨.slice bz 0 m c, ?_,λe=>a.T (λu=>e (by rw[List.map_eq_nil_iff]at u ⊢;rw[u,List.take_nil])), ?_, ?_, ?_, ?_, ?_⟩
 ·have l:Nat.ble m c=true:=ds Zo;simp only[fY,gd,hA,hU,l,cE];simp[c3]
 ·have:=a.many;simp at this ⊢;omega
 ·intro r I;obtain⟨M,_,rfl⟩:=ZB.1 I;rfl
 ·rw[kz];simp;omega
 ·intro i af;have af:i<m:=by simpa[Nat.min_eq_left f]using af
  rw[n3 _ af,ZQ]
 ·intro i r E v af d;refine a.cell i r E v ?_ d;rw[Zn,YS]at af;rw[Zn];split at af
  ·exact af
  ·cases af
set_option maxRecDepth 100000 in
def SE(UT:bW X){dL gP aW:Nat}(VN:(o X).aD<=dL)(Ue:dL<aW)(Ua:gP<aW)(Uk:gP≠dL):∀(N:Nat) (u:aX),q0 u<N->∀{P:Nat->Prop}{v:y}{j:B R}{k:Nat}{l:List ax},(∀h,P h->h<aW/\h≠dL)->ay X j (.ptr gP 0)=some (.func (.func 47) [] [.ptr dL 0,.ptr gP 0])->pW X j k dL aW l->bB X j P u v->m2 u=true->(fA l u).length<=300000->
 az X 47 [v,.ptr dL 0,.ptr gP 0] j k (λM S' W=>M=.tuple []/\k<=W/\pW X S' W dL aW (fA l u)/\∀h,h<aW->h≠dL->F X S' h=F X j h) zW:=by
 intro N;induction N with|zero=>intro u e;omega|succ N U=>
 intro u V2 P v j k l aU V5 T4 UY UC Ug;refine z6 UT (Ma ..) ?_;unfold DB;obtain⟨q,a,nm,no,ty,n,args⟩:=u;unfold bB at UY;obtain⟨T2,rfl,TY,_,b1,_,bU,_,_,_,_,_,aB,bz,aF,ft,x,V4,A⟩:=UY;have A:=b3.lift (aK:=P) (λh b=>b.1) _ _ A;have Un:=A.len;have VO:=T4.1;rw[m2,Zt]at UC;rw[q0]at V2;by_cases T9:q=5
 ·have U9:decide (q=5)=true:=by simp[T9]
  refine cb @tb @b1 @U9 ⟨?_⟩;exact⟨rfl,Zg _,by rw[fA,Zu T9];exact T4,λ_ _ _=>rfl⟩
 have U9:decide (q=5)=false:=by simp[T9]
 have Uf:fA l (.mk q a nm no ty n args)=(if decide (q=21)=true then args.take 1 else args).foldl fA (if j2 q=true then lw l nm else l):=by rw[fA,Zi T9,AL]
 rw[Uf]at Ug ⊢;clear Uf;generalize f:(if j2 q=true then lw l nm else l)=bG at Ug ⊢;have VJ:=FR (if decide (q=21)=true then args.take 1 else args) bG;refine c8 @tb @b1 @U9 ⟨?_⟩;refine dV ?_;apply mU (P:=λz S' O=>z.g 0=some (.ptr T2 0)/\z.g 2=some (.ptr gP 0)/\k<=O/\pW X S' O dL aW bG/\∀h,h<aW->h≠dL->F X S' h=F X j h)
 ·intro Uq;by_cases U3:j2 q=true
  ·rw[Zu U3]at f;obtain⟨_,c,UK,aQ,UP,aa,Ul,r⟩:=id T4;have U1:ay X j (.ptr dL 0)=some UK:=(by rw[aZ UP,aa]);apply ql
   ·intro bl;have V0:q=2\/q=6\/q=24:=(by simpa[j2,or_assoc]using U3);by_cases T3:q=2
    ·have T1:decide (q=2)=true:=(by simp[T3]);refine c8 @b1 @T1 (Za @U1 @bU) ⟨?_⟩;exact bl.out
    ·have T1:decide (q=2)=false:=(by simp[T3]);by_cases UQ:q=6
     ·have T5:decide (q=6)=true:=(by simp[UQ]);refine c8 @b1 @T1 (Za @T5 (Za @U1 @bU)) ⟨?_⟩;exact bl.out
     ·have T5:decide (q=6)=false:=(by simp[UQ]);have U8:decide (q=24)=true:=(by simp;omega);refine c8 @b1 @T1 (Za @T5 (Za @U8 (Za @U1 @bU))) ⟨?_⟩;exact bl.out
   obtain⟨Us,U4⟩:=Ul.kH (P:=λh=>aW<=h/\h<k) (by rw[Zj];have:=Eu l nm;rw[f]at this;omega) r;have U4:ca X j (λh=>aW<=h/\h<k) Us UK 1 (cQ l):=(by rw[Z2]at U4;exact U4);refine(E7 (k:=k+10) UT U4 (v:=decide (nm∈l)) rfl).Zm ?_;rintro M am ak ⟨rfl,UR⟩;have p:=UR.gr (show k<=k+10 by omega);have V7:=UR.le;refine h5 ⟨?_⟩;refine dW _ ?_ (λz j n e=>(Uq z j n e).out);intro Uo s;by_cases U2:nm∈l
   ·have UA:decide (nm∈l)=true:=(by simp[U2]);rw[lw,Zu U2]at f;refine bh @UA ⟨?_⟩;exact s _ _ _ ⟨av,av,Zo,f▸T4.K Zo (λh b _=>p.K h b) Ue,λh b _=>p.K h Zo⟩
   ·have UA:decide (nm∈l)=false:=(by simp[U2]);rw[lw,Zi U2]at f;have V8:ay X am (.ptr dL 0)=some UK:=(by rw[p.df _ _ Zo];exact U1);have Uu:ay X am (.ptr T2 2)=some (.str nm):=(by rw[p.df _ _ (zK (aU T2 TY).1)];exact bU);refine cb @UA @V8 @Uu ⟨?_⟩;generalize UD:Go.aC.aI X am (ak+5) _=ah;have Uw:F X ah (ak+5)=zO [.str nm] 1:=(by rw[<-UD,aJ Zo]);have bl:∀h,h<ak->F X ah h=F X am h:=λh b=>(by rw[<-UD,ag Zo Zo]);clear UD;obtain⟨UJ,T8,Ut,V3,Um,UX,U0⟩:=(Ul.K (S':=ah) (λh b=>by have:=r h b;rw[bl h Zo,p.K h Zo])).append (k:=ak+8) Zd (g6 Uw (fS _) rfl _) rfl Zd rfl (by have:=congrArg List.length f;simp at this ⊢;omega) Zo (λh b=>zK (r h b));refine d7 V3 ?_;obtain⟨VE,VF,VS⟩:=en.one Um;have UO:F X T8 dL=some (.cells c 1 .own):=(by rw[U0 dL Zo (λe=>zK (r _ e)),bl dL Zo,p.K dL Zo];exact UP);refine h5 ⟨?_⟩;refine dh (jE UO Zo Zo VE VF) ?_;refine br ⟨?_⟩;generalize UE:Go.aC.aI X T8 dL _=UN;have Uz:F X UN dL=some (.cells (c.set 0 (some UJ)) 1 .own):=(by rw[<-UE,aJ Zo]);have Up:∀h,h≠dL->F X UN h=F X T8 h:=λh b=>(by rw[<-UE,ag Zo b]);clear UE;refine s _ _ _ ⟨av,av,Zo,⟨Zo,c.set 0 (some UJ),UJ,Ut,Uz,by rw[B.eX,Zu rfl], ?_, ?_⟩,λh b G=> ?_⟩
    ·rw[<-f,ZR];exact .inl (Um.K λh b=>Up h (by rcases UX h b with rfl|e;omega;have:=r _ e;omega))
    ·intro h b;rcases UX h b with rfl|e
     ·omega
     ·have:=r _ e;omega
    ·rw[Up h G,U0 h Zo (λe=>zK (r _ e)),bl h Zo,p.K h Zo]
  ·rw[Zi U3]at f;have V0:¬(q=2\/q=6\/q=24):=(by simpa[j2,or_assoc]using U3);have T1:decide (q=2)=false:=(by simp;omega);have T5:decide (q=6)=false:=(by simp;omega);have U8:decide (q=24)=false:=(by simp;omega);refine c8 @b1 @T1 (Za @T5 @U8) ⟨?_⟩;refine dW _ ?_ (λz j n e=>(Uq z j n e).out);intro Uo s;refine br ⟨?_⟩;exact s _ _ _ ⟨av,av,Zo,f▸T4.K Zo (λh b _=>rfl) Ue,λh b _=>rfl⟩
 clear T4;rintro U6 am ak ⟨t0,g,V7,Uc,UF⟩;have TZ:∀h,P h->F X am h=F X j h:=λh b=>UF h (aU h b).1 (aU h b).2;have VG:=(aU T2 TY).1;have VH:=(aU T2 TY).2;rw[bv, <-TZ T2 TY, <-bv]at b1 ft;replace x:=x.K (S':=am) TZ;replace A:=b3.K (S':=am) TZ _ _ A;have Uh:=x.len;rw[Zj]at Uh;have V9:=x.many;rw[Zj]at V9;refine c8 @t0 @b1 @ft ⟨?_⟩;refine dW (λz S' O=>∃T0,z.g 2=some (.ptr gP 0)/\z.g 5=some T0/\ca X am P bz T0 1 ((if decide (q=21)=true then aF.take 1 else aF).map λv=>[v])/\S'=am/\O=ak) ?_ ?_
 ·intro Uo s;by_cases t:q=21
  ·have T6:decide (q=21)=true:=(by simp[t]);have UI:aF≠[]:=λu=>by
    have e:=UC.1;subst u
    have:args=[]:=ZY (by simpa using Un.symm)
    simp[t,this]at e
   have VQ:=ZP.2 UI;obtain⟨T0,UH,T7⟩:=abE (m:=1) x ((V4 UI).2 Zo|>.K (TZ bz (x.T (by simpa using UI)))) Zo;have UH:fY X am 1 aB none (some (.Z 1)) none=some T0:=UH;have Uj:=GQ (C:=o X) (j:=am) (aF.length:Int) 1;rw[Int.min_eq_right Zo]at Uj;refine c9 @T6 @Uh @Uj @UH ⟨?_⟩;exact s _ _ _ ⟨T0,Y g,av,by simpa[T6]using T7,rfl,rfl⟩
  ·have T6:decide (q=21)=false:=(by simp[t]);refine bh @T6 ⟨?_⟩;exact s _ _ _ ⟨aB,Y g,av,by simpa[T6]using x,rfl,rfl⟩
 clear t0 g U6;rintro U6 U5 VD ⟨T0,g,t5,T7,rfl,rfl⟩;have V1:∀(i:Nat) a,(if decide (q=21)=true then args.take 1 else args)[i]? =some a->a∈args/\∃w,(if decide (q=21)=true then aF.take 1 else aF)[i]? =some w/\bB X U5 P a w:=by
  intro i a af;split at af
  ·rename_i t;rw[Zu t];rw[YS]at af ⊢;split at af
   ·rename_i V6;rw[Zu V6];obtain⟨w,UB,T3⟩:=A.get i a af;exact⟨Zl af,w,UB,T3⟩
   ·cases af
  ·rename_i t;rw[Zi t];obtain⟨w,UB,T3⟩:=A.get i a af;exact⟨Zl af,w,UB,T3⟩
 have US:(if decide (q=21)=true then aF.take 1 else aF).length=(if decide (q=21)=true then args.take 1 else args).length:=by split<;>simp[Un]
 generalize (if decide (q=21)=true then args.take 1 else args)=L at*;generalize (if decide (q=21)=true then aF.take 1 else aF)=c5 at*;have Ui:=T7.len;rw[Zj,US]at Ui;have VA:=T7.many;rw[Zj,US]at VA;refine bA @t5 @Ui ⟨?_⟩;refine cG (λm z S' O=>∃(E:Nat),z.g 2=some (.ptr gP 0)/\z.g 67=some T0/\z.g 68=some (.Z L.length)/\z.g 69=some (.Z E)/\E+m=L.length/\VD<=O/\pW X S' O dL aW ((L.take E).foldl fA bG)/\∀h,h<aW->h≠dL->F X S' h=F X U5 h)
  L.length ⟨0,Y g,av,av,cW,Zo,Zg _,Uc,λ_ _ _=>rfl⟩ ?_
 clear Uc g t5 U6;rintro m z ah ar ⟨E,g,Ur,UL,UM,VI,VK,UG,dx⟩;cases m with
 |zero=>have d:=zL E L.length;rw[Zy Zo]at UG;refine cb @UM @UL @d ⟨?_⟩;exact⟨rfl,Zo,UG,λh b G=>by rw[dx h b G,UF h b G]⟩|succ m=>
  have d:=zM E L.length;have Uv:=zP E;obtain⟨U7,UV⟩:∃a,L[E]? =some a:=⟨_,Zb Zo⟩;obtain⟨UW,w,VB,VC⟩:=V1 E U7 UV;have UU:∀h,P h->F X ah h=F X U5 h:=λh b=>dx h (aU h b).1 (aU h b).2;obtain⟨Ux,Uy,UO⟩:=(T7.K (S':=ah) UU).one VB;have UZ:ay X ah (.ptr gP 0)=some (.func (.func 47) [] [.ptr dL 0,.ptr gP 0]):=by rw[bv,dx gP Ua Uk,UF gP Ua Uk, <-bv];exact V5
  refine cd @UM @UL @Ur @g @d @Ux (Za @Uy @UZ) ⟨?_⟩;have VP:=AX UW;have Ub:(L.take (E+1)).foldl fA bG=fA ((L.take E).foldl fA bG) U7:=by rw[ZE,UV,Y7];rfl
  have VM:((L.take (E+1)).foldl fA bG).length<=(L.foldl fA bG).length:=by
   conv=>rhs;rw[<-zm (E+1) L,Y7]
   exact FR _ _
  refine(U U7 Zo aU UZ UG (bB.K UU _ _ VC) (FE UC.2 UW) (by rw[<-Ub];omega)).Zm ?_;rintro M T8 VR ⟨rfl,VL,Ud,U0⟩;rw[<-Ub]at Ud;refine bA @UM @Uv ⟨?_⟩;exact⟨m,Zo,E+1,Y g,Y Ur,Y UL,av,Zo,Zo,Ud,λh b G=>by rw[U0 h b G,dx h b G]⟩
def γ(d:bW X){u:aX}{v:y}(s:(o X).aD<=k)(aU:∀h,P h->h<k)(p:bB X j P u v)(m:m2 u=true)(r:(fA [] u).length<=300000):
 az X 26 [v] j k (λM S' W=>(∃aQ,cT X S' M 1 ((fA [] u).map .str) aQ/\∀h∈aQ,k<=h/\h<W)/\aT X j k S' W) zW:=by
 refine z6 d (Ly ..) ?_;unfold Df;refine br ⟨?_⟩;generalize b:Go.aC.aI X (Go.aC.aI X _ (k+1) _) (k+1) _=am;have g:F X am k=zO [.au] 1:=by rw[<-b];exact z2
 have f:ay X am (.ptr (k+1) 0)=some (.func (.func 47) [] [.ptr k 0,.ptr (k+1) 0]):=by rw[<-b,aZ (aJ Zo),fF];rfl
 have a7:∀h,h<k->F X am h=F X j h:=λh a=>by rw[<-b];exact zQ
 clear b;refine bh @f ⟨?_⟩;refine(SE d (dL:=k) (gP:=k+1) (aW:=k+2) s Zo Zo Zo (q0 u+1) u Zo (P:=P) (l:=[]) (λh a=>zK (aU h a)) f ⟨Zg _,_,.au,[],g,rfl,.inl (.inl ⟨rfl,rfl,rfl⟩),Zs⟩ (bB.K (λh a=>a7 h (aU h a)) _ _ p) m r).Zm ?_;rintro M ah ar ⟨rfl,w,⟨_,c,aB,aQ,i,aa,t,n⟩,dx⟩;refine bA (aZ i) @aa ⟨?_⟩;exact⟨⟨aQ,t,λh a=>zK (n h a)⟩,Zo,λh a=>by rw[dx h Zo Zo];exact a7 h a⟩
def du(l:List Int):List y:=l.map λaw=> .Z aw
def d4(l:List Int):List (List y):=l.map λaw=>[.Z aw]
def Ai(l:List Int):(d4 l).flatten=du l:=by induction l with|nil=>rfl|cons a l U=>show[y.Z a]++(d4 l).flatten=_;rw[U];rfl
def Hj(l:List Int):ei (du l)=true:=by induction l with|nil=>rfl|cons a l U=>exact U
def Rz(l:List Int):qN (du l)=some l:=by induction l with|nil=>rfl|cons a l U=>show(match qN (du l)with|some r=>some (a::r)|none=>none)=_;rw[U]
def jY(l:List Int):(du l).length=l.length:=by simp[du]
variable{C:ai}{b:Nat}
structure iO(C:ai)(j:B R)(b:Nat)(aE:List Int):Prop where
 aD:C.aD<=b
 at_:∃c,F C j b=some (.cells c aE.length (.grow []))/\kU c (du aE)
def iO.write{aE c5:List Int}{J:Nat}(e:iO C j b aE)(d:J+c5.length<=aE.length):
 ∃S',gX C j b J (du c5)=some S'/\iO C S' b (aE.take J++(c5++aE.drop (J+c5.length)))/\∀h,h≠b->F C S' h=F C j h:=by
 obtain⟨a,c,g,I⟩:=e;have i:(aE.take J++(c5++aE.drop (J+c5.length))).length=aE.length:=by simp;omega
 refine⟨aI C j b (some (.cells (ch c J (du c5)) aE.length (.grow []))), ?_,⟨a,_,by rw[aJ a,i], ?_⟩,λh l=>ag a l⟩
 ·have f:Nat.ble (J+(du c5).length) aE.length=true:=ds (by rw[jY];exact d);simp only[gX,g,eN,ds a,f,Hj,Z1,cE,dD,hy]
 ·have:=I.put (J:=J) (aF:=du c5) (by rw[jY,jY];exact d);rw[show du (aE.take J++(c5++aE.drop (J+c5.length)))=nf (du aE) J (du c5) by simp[nf,du]];exact this
def iO.store{aE:List Int}{i:Nat}{aw:Int}(e:iO C j b aE)(af:i<aE.length):∃S',cN C j 1 (.ptr b i) (.Z aw)=some S'/\iO C S' b (aE.set i aw)/\∀h,h≠b->F C S' h=F C j h:=by
 obtain⟨S',a,c,d⟩:=e.write (J:=i) (c5:=[aw]) Zx;refine⟨S',a, ?_,d⟩
 have:aE.take i++([aw]++aE.drop (i+[aw].length))=aE.set i aw:=by rw[List.set_eq_take_append_cons_drop,Zu af];rfl
 rw[<-this];exact c
def iO.hP{aE:List Int}{i:Nat}{aw:Int}(e:iO C j b aE)(af:aE[i]? =some aw):ay C j (.ptr b i)=some (.Z aw):=by obtain⟨d,c,a,I⟩:=e;rw[aZ a,I i,du,Zn,af];rfl
def iO.rd{aE:List Int}{q:Nat}(e:iO C j b aE)(g:q<=aE.length)(l:q<=300000)(aU:P b):ca C j P b (.cy b 0 q 1) 1 (d4 (aE.take q)):=by
 have f:(d4 (aE.take q)).length=q:=by simp[d4];omega
 refine⟨λ_=>aU,Zo,λr I=> ?_,by rw[k8,f],λi af=>by rw[n4 _ Zo,ZQ],λi r E v af c=> ?_⟩
 ·obtain⟨M,_,rfl⟩:=ZB.1 I;rfl
 ·rw[d4,Zn]at af;cases a:(aE.take q)[i]? with
  |none=>rw[a]at af;cases af|some aw=>
   rw[a]at af;cases af;have d:E=0:=(by have:=(Ze.1 c).1;simpa using this);subst d;cases c;rw[ZF,ZL];refine e.hP ?_;rw[YS]at a;split at a
   ·exact a
   ·cases a
def abI{s:y}{aE:List Int}{aQ:List Nat}(e:en C j s 1 (du aE) aQ)(G:aE=[]->s=.au)(T7:aE.length<=300000):
 ∃S',p7 C j [s]=some S'/\(∀h,h∉aQ->F C S' h=F C j h)/\((s=.au/\aE=[])\/∃b,b∈aQ/\s=.cy b 0 aE.length 1/\iO C S' b (d0 aE)/\aE≠[]):=by
 by_cases d:aE=[]
 ·have u:=G d;subst u;exact⟨j,rfl,λ_ _=>rfl,.inl ⟨rfl,d⟩⟩
 have l:=ZP.2 d;have f:(d0 aE).length=aE.length:=rB aE;have A:=e;rcases e with ⟨rfl,a,rfl⟩|⟨b,cl,n,c,rfl,a,rfl,T5,T6,L,N⟩
 ·simp[du]at a;exact absurd a d
 rw[ZF,jY]at a;subst a;obtain⟨S',m,T0,X⟩:=A.put (b:=b) (J:=0) (v:=.agg (du (d0 aE))) rfl rfl (by show 0<(du (d0 aE)).length;rw[jY,f];exact l) (Hj _) (by show 0+(du (d0 aE)).length<=_;rw[jY,jY,f];omega);have T1:gX C j b 0 (du (d0 aE))=some S':=by have g:Nat.beq (y.agg (du (d0 aE))).cells.length (y.agg (du (d0 aE))).cells.length=true:=zd _;have i:Nat.blt 0 (y.agg (du (d0 aE))).cells.length=true:=tT (by show 0<(du (d0 aE)).length;rw[jY,f];exact l);simp only[cN,g,i,Z1,cE]at m;exact m
 have O:gj C j b 0 aE.length=some (du aE):=by have:=Ad (c:=c) (du aE) 0 (λE v P=>by rw[ZQ,N E];exact P);rw[jY]at this;simp only[gj,cellsOf,L];exact this
 refine⟨S', ?_,X,.inr ⟨b,Zp ..,rfl, ?_,d⟩⟩
 ·have g:Nat.blt 0 aE.length=true:=tT l;have i:Nat.ble aE.length 1000000=true:=ds Zo;simp only[p7,tM,O,Rz,g,i,Z1,cE];exact T1
 ·rcases T0 with ⟨u,_⟩|⟨T2,T9,T8,p,u,T3,r,t,T4,w,x⟩
  ·cases u
  cases u;cases r;refine⟨t _ (Zp ..),p,by rw[w,f,ZF], ?_⟩
  have:nf (du aE) 0 (du (d0 aE))=du (d0 aE):=by unfold nf;rw[Ya,Yz,ZM (by rw[jY,jY,f];omega),ZW]
  rw[<-this];exact x
def OS:∀(l:List Int) (p a:Int),jr p (l++[a])=jr p l++(if a=(l.getLast?.getD p)then[]else[a]):=by
 intro l;induction l with
 |nil=>intro p a;simp only[Yz,jr,List.getLast?_nil,Option.getD_none];rfl|cons b l U=>
  intro p a;rw[YA,jr,jr];have d:((b::l).getLast?.getD p)=l.getLast?.getD b:=by cases l with|nil=>rfl|cons c l=>simp[List.getLast?_cons]
  rw[d];split
  ·exact U b a
  ·rw[U b a];rfl
def E2{aE:List Int}{E:Nat}{a p:Int}(b:aE[E+1]? =some a)(c:aE[E]? =some p):hu (aE.take (E+2))=hu (aE.take (E+1))++(if a=p then[]else[a]):=by
 cases aE with
 |nil=>simp at b|cons x l=>
  rw[Ye]at b;rw[Yf,Yf,hu,hu,ZE,b];show x::jr x (l.take E++[a])=_;rw[OS]
  have:(l.take E).getLast?.getD x=p:=by cases E with|zero=>simpa using c|succ E=>rw[Ye]at c;rw[ZE,c];simp
  rw[this];rfl
def H8{aE:List Int}{q:Nat}(e:iO C j b aE)(g:q<aE.length):fY C j 1 (.cy b 0 aE.length 1) (some (.Z q)) none none=some (.cy b q (aE.length-q) 1):=by obtain⟨i,c,f,I⟩:=e;have a:Nat.ble q aE.length=true:=ds Zo;have d:Nat.blt q aE.length=true:=tT g;simp[fY,j9,f,gd,hA,hU,a,d,Nat.div_one]
def abJ{aE:List Int}{q:Nat}(e:iO C j b aE)(g:q<=aE.length):fY C j 1 (.cy b 0 aE.length 1) none (some (.Z q)) none=some (.cy b 0 q 1):=by obtain⟨f,c,d,I⟩:=e;have a:Nat.ble q aE.length=true:=ds Zo;simp[fY,j9,d,gd,hA,hU,a,Nat.div_one]
def OJ{aE:List Int}{q:Nat}(e:iO X j b aE)(l:q<aE.length):∃S',kx X j k .clear [39] [.cy b q (aE.length-q) 1]=some (.cJ (.tuple []) S' k)/\iO X S' b (aE.take q++List.replicate (aE.length-q) 0)/\∀h,h≠b->F X S' h=F X j h:=by
 obtain⟨S',c,a,d⟩:=e.write (J:=q) (c5:=List.replicate (aE.length-q) 0) Zx;refine⟨S', ?_, ?_,d⟩
 ·have g:(o X).P.underlying 39=some (.slice 3):=Zk;have f:fd X 3=some 1:=Zk;have i:kf X 3=some (.Z 0):=Zk;have T:Nat.beq (aE.length-q) 0=false:=by cases e:Nat.beq (aE.length-q) 0 with|false=>rfl|true=>have:=Zr e;omega
  have I:∀n,fc n (y.Z 0).cells=du (List.replicate n 0):=by intro n;induction n with|zero=>rfl|succ n U=>rw[List.replicate_succ];show(y.Z 0).cells++fc n (y.Z 0).cells=_;rw[U];rfl
  simp only[kx,tI,g,f,i,T,I,c,ge];rfl
 ·have:aE.drop (q+(List.replicate (aE.length-q) (0:Int)).length)=[]:=ZM Zx
  rw[this,ZW]at a;exact a
def qQ{b J n i:Nat}(e:i<n):da 1 (.cy b J n 1) (.Z i)=some (.ptr b (J+i)):=by rw[n4 _ e,ZF]
set_option maxRecDepth 100000 in
def OU(UI:bW X){s:y}{aE:List Int}(e:(s=.au/\aE=[])\/∃b,P b/\s=.cy b 0 aE.length 1/\iO X j b aE/\aE≠[])(U7:aE.length<=300000):
 az X 28 [s] j k (λM S' W=>k<=W/\(∃UE,ca X S' P UE M 1 (d4 (hu aE)))/\∀h,¬P h->F X S' h=F X j h) zW:=by
 refine z6 UI (LA ..) ?_;unfold Dg;rcases e with ⟨rfl,rfl⟩|⟨b,C,rfl,r,T4⟩
 ·have d:decide ((0:Int)<2)=true:=rfl;refine bh @d ⟨?_⟩;exact⟨Zg _,⟨0,ca.nil P 1⟩,λ_ _=>rfl⟩
 have UT:=ZP.2 T4;by_cases UH:aE.length<2
 ·have d:decide ((aE.length:Int)<2)=true:=zZ;refine bh @d ⟨?_⟩;have v:hu aE=aE.take aE.length:=by
   match aE,T4,UH with
   |[x],_,_=>rfl|x::h::l,_,e=>simp at e;omega
  rw[v];exact⟨Zg _,⟨b,r.rd (Zg _) U7 C⟩,λ_ _=>rfl⟩
 have d:decide ((aE.length:Int)<2)=false:=z1;refine bh @d ⟨?_⟩;refine cG (λm z S' T9=>∃(q:Nat),z.g 0=some (.cy b 0 aE.length 1)/\z.g 3=some (.Z q)/\q+m=aE.length/\1<=q/\S'=j/\k<=T9/\hu (aE.take q)=aE.take q)
  (aE.length-1) ⟨1,av,cW,Zo,Zg _,rfl,Zg _,by
   cases aE with
   |nil=>exact absurd rfl T4|cons x l=>rfl⟩ ?_
 rintro m z dU ak ⟨q,t0,t3,UP,UQ,rfl,UL,v⟩;cases m with
 |zero=>have d:=zL q aE.length;refine cb @t3 @t0 @d ⟨?_⟩;rw[Zy Zo]at v;rw[v];have:=r.rd (Zg _) U7 C;rw[Yu]at this;exact⟨UL,⟨b,this⟩,λ_ _=>rfl⟩|succ m=>
  have d:=zM q aE.length;have UF:=zP q;have TY:aH .sub (.Z q) (.Z 1)=some (.Z (q-1:Nat)):=by rw[ju Zo Zo,show((q:Int) -1)=((q-1:Nat):Int) by omega]
  obtain⟨a,T2⟩:=zN aE q;obtain⟨p,U8⟩:∃a,aE[q-1]? =some a:=⟨_,Zb Zo⟩;have T7:=qQ (b:=b) (J:=0) (n:=aE.length) (i:=q) Zo;have T8:=qQ (b:=b) (J:=0) (n:=aE.length) (i:=q-1) Zo;rw[ZQ]at T7 T8;have U3:=r.hP T2;have U5:=r.hP U8;have w:=E2 (aE:=aE) (E:=q-1) (a:=a) (p:=p) (by rw[show q-1+1=q by omega];exact T2) U8;rw[show q-1+2=q+1 by omega,show q-1+1=q by omega,v]at w;by_cases G:a=p
  ·have g:decide (a=p)=true:=(by simp[G]);rw[Zu G,ZW]at w;have gn:=H8 r (q:=q) Zo;refine cd @t3 @t0 @d @T7 @T8 @U3 (Za @U5 (Za @TY (Za @g @gn))) ⟨?_⟩;refine cG (λm z S' T9=>∃(E f:Nat) (c5:List Int),z.g 0=some (.cy b 0 aE.length 1)/\z.g 3=some (.Z f)/\z.g 4=some (.cy b q (aE.length-q) 1)/\z.g 5=some (.Z E)/\E+m=aE.length-q/\1<=E/\q<=f/\f+1<=q+E/\k<=T9/\
    iO X S' b c5/\c5.length=aE.length/\c5.take f=hu (aE.take (q+E))/\(∀i,q+E<=i+1->c5[i]? =aE[i]?)/\∀h,h≠b->F X S' h=F X dU h)
    (aE.length-q-1) ⟨1,q,aE,Y t0,Y t3,av,cW,Zo,Zg _,Zg _,Zg _,Zo,r,rfl,w.symm,λ_ _=>rfl,λ_ _=>rfl⟩ ?_
   clear t0 t3 z;rintro T1 z am ar ⟨E,f,c5,t0,t3,t4,t5,UN,UO,UJ,UR,US,t,T5,T6,O,T3⟩;cases T1 with
   |zero=>
    have d:=zL E (aE.length-q:Nat);rw[show q+E=aE.length by omega,Yu]at T6;have gp:=H8 t (q:=f) Zo;obtain⟨ah,U2,N,dx⟩:=OJ (k:=ar) t (q:=f) Zo;rw[T5]at gp U2;have UK:(c5.take f++List.replicate (c5.length-f) (0:Int)).length=aE.length:=(by simp;omega);have UA:=abJ N (q:=f) Zo;rw[UK]at UA;refine eC @t5 @t4 @t0 @t3 @d @gp ⟨?_⟩;refine d7 U2 ?_;refine cb @t0 @t3 @UA ⟨?_⟩;refine⟨Zo,⟨b, ?_⟩,λh T0=> ?_⟩
    ·have I:=N.rd (q:=f) Zo Zo C;rw[Yq Zx,List.take_take,Nat.min_self,T6]at I;exact I
    ·have c4:h≠b:=λu=>T0 (u▸C);rw[dx h c4,T3 h c4]
   |succ T1=>
    have d:=zM E (aE.length-q:Nat);have TZ:=zP E;have U0:aH .sub (.Z E) (.Z 1)=some (.Z (E-1:Nat)):=(by rw[ju Zo Zo,show((E:Int) -1)=((E-1:Nat):Int) by omega]);have UG:=zP f;obtain⟨c,U1⟩:∃a,aE[q+E]? =some a:=⟨_,Zb Zo⟩;obtain⟨V,U9⟩:∃a,aE[q+(E-1)]? =some a:=⟨_,Zb Zo⟩;have UB:=qQ (b:=b) (J:=q) (n:=aE.length-q) (i:=E) Zo;have UD:=qQ (b:=b) (J:=q) (n:=aE.length-q) (i:=E-1) Zo;have U4:=t.hP ((O _ Zo).trans U1);have U6:=t.hP ((O _ Zo).trans U9);have A:=E2 (aE:=aE) (E:=q+(E-1)) (a:=c) (p:=V) (by rw[show q+(E-1)+1=q+E by omega];exact U1) U9;rw[show q+(E-1)+2=q+(E+1) by omega,show q+(E-1)+1=q+E by omega, <-T6]at A;by_cases L:c=V
    ·have g:decide (c≠V)=false:=(by simp[L]);rw[Zu L,ZW]at A;refine cd @t5 @t4 @t0 @t3 @d @TZ (Za @U0 (Za @UB (Za @UD (Za @U4 (Za @U6 @g))))) ⟨?_⟩;exact⟨T1,Zo,E+1,f,c5,Y t0,Y t3,Y t4,av,Zo,Zo,UJ,Zo,Zo,t,T5,A.symm,λi af=>O i Zo,T3⟩
    ·have g:decide (c≠V)=true:=(by simp[L]);rw[Zi L]at A;have UC:=qQ (b:=b) (J:=0) (n:=aE.length) (i:=f) Zo;rw[ZQ]at UC;obtain⟨ah,UM,N,dx⟩:=t.store (i:=f) (aw:=c) Zo;refine cd @t5 @t4 @t0 @t3 @d @TZ (Za @U0 (Za @UB (Za @UD (Za @U4 (Za @U6 (Za @g (Za @UC (Za @UM @UG)))))))) ⟨?_⟩;refine⟨T1,Zo,E+1,f+1,c5.set f c,Y t0,av,Y t4,av,Zo,Zo,Zo,Zo,Zo,N,by rw[List.length_set];exact T5, ?_,λi af=>by rw[Y8,Zi Zo];exact O i Zo,λh T0=>by rw[dx h T0,T3 h T0]⟩;rw[A,ZE,Y8,Zu rfl,Zu Zo,List.take_set_of_le (Zg _)];rfl
  ·have g:decide (a=p)=false:=(by simp[G]);rw[Zi G]at w;refine cd @t3 @t0 @d @T7 @T8 @U3 (Za @U5 (Za @TY (Za @g @UF))) ⟨?_⟩;exact⟨m,Zo,q+1,Y t0,av,Zo,Zo,rfl,Zo,by rw[w,ZE,T2];rfl⟩
variable{aK:Nat->Prop}
def nA(X:bf)(j:B R)(P:Nat->Prop)(v:y)(aE:List Int):Prop:=∃b,ca X j P b v 1 (d4 aE)
def nA.K{v:y}{aE:List Int}(e:nA X j P v aE)(q:∀h,P h->F X S' h=F X j h)(a:∀h,P h->aK h):nA X S' aK v aE:=e.imp λ_ e=>(e.K q).lift a
def lY(X:bf)(j:B R)(P:Nat->Prop)(v:y)(a:List (List Int)):Prop:=∃(b:Nat) (aF:List y),ca X j P b v 1 (aF.map λv=>[v])/\aF.length=a.length/\∀(i:Nat) v aE,aF[i]? =some v->a[i]? =some aE->nA X j P v aE
def lY.K{v:y}{f:List (List Int)}(e:lY X j P v f)(q:∀h,P h->F X S' h=F X j h)(d:∀h,P h->aK h):lY X S' aK v f:=by obtain⟨b,aF,g,l,m⟩:=e;exact⟨b,aF,(g.K q).lift d,l,λi v aE a c=>(m i v aE a c).K q d⟩
def BG{l:List Int}{i E:Nat}{a b:Int}(af:l[i]? =some a)(f:l[E]? =some b):((l.set i b).set E a).Perm l:=by obtain⟨c,rfl⟩:=Ze.1 af;obtain⟨d,rfl⟩:=Ze.1 f;exact List.set_set_perm c d
def uN{rd:Bool}{t f:Nat}{v:y}{name:String}{l a:List y}{S ab:aY}(d:jm C j t v name l=g9 C f a)(e:az C f a j k S ab):jA C rd (.iface t v) name l j k S ab:=by obtain⟨r,b,c⟩:=yE (rd:=rd) e;refine⟨?_⟩;show oS C rd (jm C j t v name l) j k S ab;rw[d,b];exact c
def ip(C:ai)(j:B R)(s:y)(aE:List Int)(aQ:List Nat):Prop:=(aE=[]/\aQ=[]/\∃b,s=.slice b 0 0 0)\/
 ∃b cl n c,s=.cy b 0 aE.length 1/\aQ=b::cl/\(∀x∈aQ,C.aD<=x)/\b∉cl/\F C j b=some (.cells c n (.grow cl))/\aE.length<=n/\∀i aw,aE[i]? =some aw->c.get i=some (.Z aw)
def ip.K{s:y}{aE:List Int}{aQ:List Nat}(e:ip C j s aE aQ)(m:∀h∈aQ,F C S' h=F C j h):ip C S' s aE aQ:=by
 rcases e with e|⟨b,cl,n,c,d,a,f,g,i,l⟩
 ·exact .inl e
 ·exact .inr ⟨b,cl,n,c,d,a,f,g,by rw[m b (by rw[a];exact Zp ..)];exact i,l⟩
def ip.len{s:y}{aE:List Int}{aQ:List Nat}(e:ip C j s aE aQ):c2 s=some (.Z aE.length):=by
 rcases e with ⟨rfl,_,b,rfl⟩|⟨b,cl,n,c,rfl,_⟩
 ·rfl
 ·exact k8 ..
def ip.one{s:y}{aE:List Int}{aQ:List Nat}(e:ip C j s aE aQ):s.cells=[s]/\hV s=true:=by have:=fU e.len;exact⟨this.1,this.2.1⟩
def ip.at{s:y}{aE:List Int}{aQ:List Nat}(e:ip C j s aE aQ){i:Nat}{aw:Int}(af:aE[i]? =some aw):∃b,b∈aQ/\da 1 s (.Z i)=some (.ptr b i)/\ay C j (.ptr b i)=some (.Z aw)/\
 ∀a,∃S',cN C j 1 (.ptr b i) (.Z a)=some S'/\ip C S' s (aE.set i a) [b]/\∀h,h∉aQ->F C S' h=F C j h:=by
 have g:=(Ze.1 af).1;rcases e with ⟨rfl,_,b,rfl⟩|⟨b,cl,n,c,rfl,rfl,m,L,p,v,r⟩
 ·simp at g
 ·have f:=m b (Zp ..);have A:∀x∈cl,C.aD<=x:=λx G=>m x (Zw _ G);refine⟨b,Zp ..,by have:=qQ (b:=b) (J:=0) (n:=aE.length) g;rwa[ZQ]at this,by rw[aZ p];exact r i aw af,λa=>⟨aI C (hy C cl j) b (some (.cells (c.set i (some (.Z a))) n (.grow []))), ?_,.inr ⟨b,[],n,_,by rw[List.length_set],rfl,by simpa using f,Zs,aJ f,by rw[List.length_set];exact v,λq w d=> ?_⟩,λh l=> ?_⟩⟩
  ·have t:Nat.ble (i+[y.Z a].length) n=true:=ds Zx;show(a8 (Nat.beq [y.Z a].length 1&&Nat.blt 0 1) (gX C j b i [y.Z a]) none)=_;simp only[gX,p,eN,ds f,t,dD,je,ei,hV,Z1,cE];rfl
  ·rw[B.eX];rw[Y8]at d;by_cases u:i=q
   ·subst u;rw[Zu rfl,Zu g]at d;rw[Zu rfl];cases d;rfl
   ·rw[Zi u]at d;rw[Zi u];exact r q w d
  ·simp only[Zq,YU]at l;rw[ag f l.1,Au _ _ _ A l.2]
def ip.push{s x:y}{aE:List Int}{aQ:List Nat}{aw:Int}(e:ip C j s aE aQ)(p:f9 C j 1 x=some (1,[.Z aw]))(d:C.aD<=k)(TY:aE.length<=1000000)(N:∀h∈aQ,h<k):
 ∃O S' W A,fP C j k 1 s x=some (.cJ O S' W)/\k<=W/\ip C S' O (aE++[aw]) A/\(∀h∈A,(k<=h/\h<W)\/h∈aQ)/\∀h,h<k->h∉aQ->F C S' h=F C j h:=by
 have v:fP C j k 1 s x=kZ C j k 1 1 [.Z aw] s:=by have P:Nat.beq 1 0=false:=rfl;simp only[fP,p,P,ge]
 rcases e with ⟨rfl,rfl,b,rfl⟩|⟨b,cl,n,c,rfl,rfl,t,T7,G,T8,T1⟩
 ·refine⟨_,_,k+1,[k],(v.trans ?_ :_=some (.cJ (.cy k 0 1 1) (aI C j k (some (.cells (B.ofList [.Z aw] 0 .nil) 1 (.grow [])))) (k+1))),Zo,.inr ⟨k,[],1,_,rfl,rfl,by simpa using d,Zs,aJ d,Zs,λi w af=> ?_⟩,λh a=> .inl (by rw[ZC.1 a];omega),λh a _=>ag d Zo⟩
  ·have g:Nat.ble (0+1) 0=false:=rfl;have l:gj C j b 0 (0*1)=some []:=(by unfold gj;split<;>rfl);have m:Nat.ble (0+1) 1048576=true:=rfl;simp only[kZ,g,ge,l,k4,m,cE,gg,ds d,gQ,dD];rfl
  ·cases i with|zero=>simp at af;subst af;rfl|succ i=>simp at af
 ·have f:=t b (Zp ..);have T5:∀x∈cl,C.aD<=x:=λx p=>t x (Zw _ p);have T9:=N b (Zp ..);have L:∀i w,(aE++[aw])[i]? =some w->(ch c aE.length [.Z aw]).get i=some (.Z w):=λi w af=>by
   rw[fF];by_cases T3:i<aE.length
   ·rw[ZO T3]at af;rw[Zi Zo];exact T1 i w af
   ·have:=(Ze.1 af).1;simp at this;have u:i=aE.length:=Zo;subst u;simp at af;subst af;rw[Zu ⟨Zg _,Zs⟩];simp
  by_cases T2:aE.length=n
  ·subst T2;have T4:∀x∈b::cl,x≠k:=λx p u=>zK (N x p);refine⟨_,_,k+1,k::b::cl,(v.trans ?_ :_=some (.cJ (.cy k 0 (aE.length+1) 1) (aI C (aI C j b (some (.cells c aE.length .fD))) k (some (.cells (ch c aE.length [.Z aw]) (aE.length+1) (.grow (b::cl))))) (k+1))),Zo,.inr ⟨k,b::cl,aE.length+1,_,Zs,rfl, ?_,λe=>T4 k e rfl,aJ d,Zs,L⟩,λh a=> ?_,λh a c4=> ?_⟩
   ·have g:Nat.beq 1 1=true:=rfl;have l:Nat.ble (0+(aE.length+1)*1) aE.length=false:=by cases T6:Nat.ble (0+(aE.length+1)*1) aE.length with|false=>rfl|true=>have:=fu T6;omega
    have m:Nat.ble (aE.length+1) 1048576=true:=ds Zo;have X:Nat.beq (0+aE.length*1) aE.length=true:=(by simp);have T0:Nat.beq 0 0=true:=rfl;have r:ei [y.Z aw]=true:=rfl;simp only[kZ,g,p9,G,eN,ds f,l,cE,ge,m,X,T0,r,Z1,dD,gg,ds d,gQ];rfl
   ·intro h a;rcases Zq.1 a with rfl|a
    ·exact d
    ·exact t h a
   ·rcases Zq.1 a with rfl|a
    ·exact .inl ⟨Zo,Zo⟩
    ·exact .inr a
   ·simp only[Zq,YU]at c4;rw[ag d Zo,ag f c4.1]
  ·refine⟨_,_,k,[b],(v.trans ?_ :_=some (.cJ (.cy b 0 (aE.length+1) 1) (aI C (hy C cl j) b (some (.cells (ch c aE.length [.Z aw]) n (.grow [])))) k)),Zg _,.inr ⟨b,[],n,_,Zs,rfl,by simpa using f,Zs,aJ f,Zx,L⟩,λh a=> .inr (by rw[ZC.1 a];exact Zp ..),λh a c4=> ?_⟩
   ·have g:Nat.beq 1 1=true:=rfl;have l:Nat.ble (0+(aE.length+1)*1) n=true:=ds Zo;have m:Nat.ble (0+aE.length*1+[y.Z aw].length) n=true:=ds Zx;have r:ei [y.Z aw]=true:=rfl;simp only[kZ,g,p9,G,eN,ds f,l,cE,gX,m,r,Z1,dD];rw[show 0+aE.length*1=aE.length by omega]
   ·simp only[Zq,YU]at c4;rw[ag f c4.1,Au _ _ _ T5 c4.2]
def ip.pop{s:y}{aE:List Int}{aQ:List Nat}{m:Nat}(e:ip C j s aE aQ)(r:aE.length=m+1):∃d,fY C j 1 s none (some (.Z m)) none=some d/\ip C j d (aE.take m) aQ:=by
 rcases e with ⟨rfl,_,b,rfl⟩|⟨b,cl,n,c,rfl,rfl,g,l,a,t,p⟩
 ·simp at r
 ·have f:Nat.ble m n=true:=ds Zo;refine⟨.cy b 0 m 1, ?_,.inr ⟨b,cl,n,c,by rw[YM];congr 1;omega,rfl,g,l,a,by rw[YM];omega,λi aw af=>p i aw ?_⟩⟩
  ·simp[fY,j9,a,gd,hA,hU,f,Nat.div_one]
  ·rw[YS]at af;split at af
   ·exact af
   ·cases af
variable{bu:Nat}{aE iK kK:List Int}{aQ hb hs:List Nat}{S ab:aY}
def is(X:bf)(j:B R)(bu:Nat)(aE:List Int)(aQ:List Nat):Prop:=(o X).aD<=bu/\bu∉aQ/\∃c s,F X j bu=some (.cells c 1 .own)/\c.get 0=some s/\ip X j s aE aQ
def is.hP(e:is X j bu aE aQ):∃s,ay X j (.ptr bu 0)=some s/\ip X j s aE aQ:=by obtain⟨_,_,c,s,a,b,d⟩:=e;exact⟨s,by rw[aZ a];exact b,d⟩
def is.K(e:is X j bu aE aQ)(q:∀h,h=bu\/h∈aQ->F X S' h=F X j h):is X S' bu aE aQ:=by obtain⟨a,b,c,s,d,f,g⟩:=e;exact⟨a,b,c,s,by rw[q bu (.inl rfl)];exact d,f,g.K λh i=>q h (.inr i)⟩
structure g8(X:bf)(j:B R)(k bu:Nat)(aQ:List Nat)(S':B R)(W:Nat)(b:List Int)(a:List Nat):Prop where
 le:k<=W
 at_:is X S' bu b a
 sub:∀h∈a,h∈aQ\/(k<=h/\h<W)
 K:∀h,h<k->h≠bu->h∉aQ->F X S' h=F X j h
def g8.refl(e:is X j bu aE aQ)(a:k<=W):g8 X j k bu aQ j W aE aQ:=⟨a,e,λh b=> .inl b,λ_ _ _ _=>rfl⟩
def g8.trans(e:g8 X j k bu aQ am ak iK hb)(q:g8 X am ak bu hb ah ar kK hs):g8 X j k bu aQ ah ar kK hs:=by
 have g:=e.le;have a7:=q.le;refine⟨Zo,q.at_,λh c=> ?_,λh c a b=> ?_⟩
 ·rcases q.sub h c with a|a
  ·rcases e.sub h a with b|b
   ·exact .inl b
   ·exact .inr ⟨b.1,Zo⟩
  ·exact .inr ⟨Zo,a.2⟩
 ·rw[q.K h Zo a (λf=>by
   rcases e.sub h f with d|d
   ·exact b d
   ·omega),e.K h c a b]
def SK{s:y}(e:ay X j (.ptr bu 0)=some s):jm X j 152 (.ptr bu 0) "Len" []=g9 X 75 [s]:=by have u:jm X j 152 (.ptr bu 0) "Len" []=(match ay X j (.ptr bu 0)with|some x=>g9 X 75 [x]|none=>none):=Zk;rw[u,e]
def SL{s:y}(e:ay X j (.ptr bu 0)=some s)(i E:y):jm X j 152 (.ptr bu 0) "Less" [i,E]=g9 X 193 [s,i,E]:=by have u:jm X j 152 (.ptr bu 0) "Less" [i,E]=(match ay X j (.ptr bu 0)with|some x=>g9 X 193 [x,i,E]|none=>none):=Zk;rw[u,e]
def SO{s:y}(e:ay X j (.ptr bu 0)=some s)(i E:y):jm X j 152 (.ptr bu 0) "Swap" [i,E]=g9 X 196 [s,i,E]:=by have u:jm X j 152 (.ptr bu 0) "Swap" [i,E]=(match ay X j (.ptr bu 0)with|some x=>g9 X 196 [x,i,E]|none=>none):=Zk;rw[u,e]
def SN(x:y):jm X j 152 (.ptr bu 0) "Push" [x]=g9 X 195 [.ptr bu 0,x]:=Zk
def SM:jm X j 152 (.ptr bu 0) "Pop" []=g9 X 194 [.ptr bu 0]:=Zk
def GG(c:bW X)(e:is X j bu aE aQ)(q:S (.Z aE.length) j k):jA X false (.iface 152 (.ptr bu 0)) "Len" [] j k S ab:=by obtain⟨s,a,b⟩:=e.hP;refine uN (SK a) (bF (D5 X) (c.none _ _ rfl) ?_);rw[D6];unfold yj;have d:=b.len;refine bh @d ⟨?_⟩;exact q
def AU(g:bW X)(e:is X j bu aE aQ){i E:Nat}{a c:Int}(af:aE[i]? =some a)(l:aE[E]? =some c)(q:∀d,k<=d->S (.bool (decide (a<c))) j d):jA X false (.iface 152 (.ptr bu 0)) "Less" [.Z (i:Int),.Z (E:Int)] j k S ab:=by obtain⟨s,f,b⟩:=e.hP;refine uN (SL f _ _) (bF (Lf X) (g.none _ _ rfl) ?_);rw[Lg];unfold C5;obtain⟨bb,_,m,p,_⟩:=b.at af;obtain⟨bn,_,n,r,_⟩:=b.at l;refine c9 @m @p @n @r ⟨?_⟩;exact q _ Zo
def AV(L:bW X)(e:is X j bu aE aQ){i E:Nat}{a c:Int}(af:aE[i]? =some a)(r:aE[E]? =some c)(q:∀S' t x,g8 X j k bu aQ S' t ((aE.set i c).set E a) x->S (.tuple []) S' t):jA X false (.iface 152 (.ptr bu 0)) "Swap" [.Z (i:Int),.Z (E:Int)] j k S ab:=by
 obtain⟨G,f,b1,s,g,l,m⟩:=e;refine uN (SO (by rw[aZ g];exact l) _ _) (bF (Ll X) (L.none _ _ rfl) ?_);rw[Lm];unfold C8;obtain⟨bb,n,T4,T5,T2⟩:=m.at af;obtain⟨bn,p,v,T6,_⟩:=m.at r;obtain⟨am,A,N,a7⟩:=T2 c;have T0:∃d,(aE.set i c)[E]? =some d:=by have:=(Ze.1 r).1;exact⟨_,Zb (by rw[List.length_set];exact this)⟩
 obtain⟨d,al⟩:=T0;obtain⟨bH,P,w,T9,T3⟩:=N.at al;obtain⟨ah,C,O,bl⟩:=T3 a;rw[v]at w;cases w;refine eC @T4 @T5 @v @T6 @A @C ⟨?_⟩;have T7:bn=bb:=ZC.1 P;refine q _ _ [bn] ⟨Zo,⟨G,λb=>f (ZC.1 b▸p),b1,s, ?_,l,O⟩,λh T1=> .inl (ZC.1 T1▸p),λh _ T8 c4=> ?_⟩
 ·rw[bl bu (λb=>f (by rw[ZC.1 b];exact n)),a7 bu f];exact g
 ·rw[bl h (λb=>c4 (by rw[ZC.1 b];exact n)),a7 h c4]
def Rk{a:Nat}(f:a<1000000):aH .quo (.Z a) (.Z 2)=some (.Z (a/2:Nat)):=by
 have c:jX 2 0=false:=rfl;have d:(a:Int).tdiv 2=((a/2:Nat):Int):=by rw[Int.tdiv_eq_ediv_of_nonneg Zo];omega
 have b:im .i64 ((a/2:Nat):Int)=((a/2:Nat):Int):=wrap64 Zo Zo;simp[aH,gB,gF,i1,c3,c,d,hf,gf,b];rw[show((a:Int)/2)=((a/2:Nat):Int) by omega];exact b
def Rl:aH .quo (.Z (-1)) (.Z 2)=some (.Z 0):=by rfl
def Rj{a:Nat}(c:a<1000000):aH .mul (.Z 2) (.Z a)=some (.Z (2*a:Nat)):=by have b:im .i64 (2*(a:Int))=((2*a:Nat):Int):=(wrap64 Zo Zo).trans Zo;simp[aH,gB,gF,i1,c3,hf,gf,b]
def acN(p:bW X)(e:is X j bu aE aQ){E:Nat}(C:E<aE.length)(O:aE.length<=900000):
 az X 107 [.iface 152 (.ptr bu 0),.Z (E:Int)] j k (λM S' W=>M=.tuple []/\∃f i,f.Perm aE/\g8 X j k bu aQ S' W f i) zW:=by
 refine z6 p (Jw ..) ?_;unfold Cc;refine br ⟨?_⟩;refine cG (λm z S' G=>∃(f:List Int) (i:List Nat),z.g 0=some (.iface 152 (.ptr bu 0))/\z.g 1=some (.Z m)/\m<aE.length/\f.Perm aE/\g8 X j k bu aQ S' G f i)
  E ⟨aE,aQ,av,av,C,List.Perm.refl _,g8.refl e (Zg _)⟩ ?_
 rintro m z am ak ⟨iK,hb,t0,t1,P,g,b⟩;have N:=g.length_eq;cases m with
 |zero=>have n:aH .sub (.Z (0:Nat)) (.Z 1)=some (.Z (-1)):=ju Zo Zo;have t1:z.g 1=some (.Z (0:Nat)):=t1;have d:decide ((0:Int)=((0:Nat):Int))=true:=rfl;refine c9 @t1 @n @Rl @d ⟨?_⟩;exact⟨rfl,iK,hb,g,b⟩|succ m=>
  have n:aH .sub (.Z (m+1:Nat)) (.Z 1)=some (.Z m):=by rw[ju Zo Zo,show(((m+1:Nat):Int) -1)=(m:Int) by omega]
  have x:=Rk (a:=m) Zo;have d:decide (((m/2:Nat):Int)=((m+1:Nat):Int))=false:=z1;obtain⟨a,r⟩:∃a,iK[m+1]? =some a:=⟨_,Zb Zo⟩;obtain⟨c,s⟩:∃a,iK[m/2]? =some a:=⟨_,Zb Zo⟩;refine dE @t0 @t1 @n @x @d ⟨?_⟩;refine AU p b.at_ r s (λar v=> ?_);by_cases t:a<c
  ·have l:decide (a<c)=true:=(by simp[t]);rw[l];refine bA @t0 @t1 ⟨?_⟩;refine AV p b.at_ s r (λL T0 w A=> ?_);refine br ⟨?_⟩;refine⟨m/2,Zo,_,w,Y t0,av,Zo,(BG s r).trans g,((b.trans (g8.refl b.at_ v)).trans A)⟩
  ·have l:decide (a<c)=false:=(by simp[t]);rw[l];refine br ⟨?_⟩;exact⟨rfl,iK,hb,g,b.trans (g8.refl b.at_ v)⟩
def Pb(v:bW X)(e:is X j bu aE aQ){n:Nat}(U5:n<=aE.length)(U4:aE.length<=400000):
 az X 108 [.iface 152 (.ptr bu 0),.Z 0,.Z (n:Int)] j k (λM S' W=>∃p A,p.Perm aE/\(∀i,n<=i->p[i]? =aE[i]?)/\g8 X j k bu aQ S' W p A) zW:=by
 refine z6 v (Jy ..) ?_;unfold Cd;refine br ⟨?_⟩;refine cG (λm z S' N=>∃(i:Nat) (p:List Int) (A:List Nat),z.g 0=some (.iface 152 (.ptr bu 0))/\z.g 1=some (.Z 0)/\z.g 2=some (.Z n)/\z.g 7=some (.Z i)/\(i=0\/i<n)/\i+m=max n i/\p.Perm aE/\(∀i,n<=i->p[i]? =aE[i]?)/\g8 X j k bu aQ S' N p A)
  n ⟨0,aE,aQ,av,av,av,cW,.inl rfl,Zo,List.Perm.refl _,λ_ _=>rfl,g8.refl e (Zg _)⟩ ?_
 rintro m z am ak ⟨i,iK,hb,t0,t1,f,b,af,U2,x,L,g⟩;have U3:=x.length_eq;have O:=Rj (a:=i) Zo;have T0:aH .add (.Z (2*i:Nat)) (.Z 1)=some (.Z (2*i+1:Nat)):=by rw[ck Zo Zo];rfl
 by_cases U0:n<=2*i+1
 ·have d:decide ((n:Int)<=((2*i+1:Nat):Int))=true:=zZ;refine eC @b @O @T0 @f @d @t1 ⟨?_⟩;exact⟨iK,hb,x,L,g⟩
 have d:decide ((n:Int)<=((2*i+1:Nat):Int))=false:=z1;have T3:decide (((2*i+1:Nat):Int)<0)=false:=z1;have T4:aH .add (.Z (2*i+1:Nat)) (.Z 1)=some (.Z (2*i+2:Nat)):=by rw[ck Zo Zo];rfl
 refine dV ?_;refine c8 @b @O (Za @T0 (Za @f (Za @d @T3))) ⟨?_⟩;refine dV ?_;refine mc @T4 @f ⟨?_⟩;apply mU (P:=λz S' N=>∃E:Nat,z.g 0=some (.iface 152 (.ptr bu 0))/\z.g 1=some (.Z 0)/\z.g 2=some (.Z n)/\z.g 7=some (.Z i)/\z.g 9=some (.Z E)/\i<E/\E<n/\S'=am/\ak<=N)
 ·intro T1;by_cases TZ:2*i+2<n
  ·have C:decide (((2*i+2:Nat):Int)<(n:Int))=true:=zZ;obtain⟨a,r⟩:∃a,iK[2*i+2]? =some a:=⟨_,Zb Zo⟩;obtain⟨c,s⟩:∃a,iK[2*i+1]? =some a:=⟨_,Zb Zo⟩;rw[C];refine jt @t0 ⟨?_⟩;refine AU v g.at_ r s (λar G=> ?_);refine h5 ⟨?_⟩;refine dW _ ?_ (λz j n e=>(T1 z j n e).out);intro T8 w;by_cases t:a<c
   ·have l:decide (a<c)=true:=(by simp[t]);rw[l];refine br ⟨?_⟩;exact w _ _ _ ⟨2*i+2,Y t0,Y t1,Y f,Y b,av,Zo,Zo,rfl,G⟩
   ·have l:decide (a<c)=false:=(by simp[t]);rw[l];refine br ⟨?_⟩;exact w _ _ _ ⟨2*i+1,Y t0,Y t1,Y f,Y b,av,Zo,Zo,rfl,G⟩
  ·have C:decide (((2*i+2:Nat):Int)<(n:Int))=false:=z1;rw[C];refine h5 ⟨?_⟩;refine dW _ ?_ (λz j n e=>(T1 z j n e).out);intro T8 w;refine br ⟨?_⟩;exact w _ _ _ ⟨2*i+1,Y t0,Y t1,Y f,Y b,av,Zo,Zo,rfl,Zg _⟩
 clear t0 t1 f b z;rintro z T9 ar ⟨E,t0,t1,f,b,t9,U1,T6,rfl,G⟩;obtain⟨a,r⟩:=zN iK E;obtain⟨c,s⟩:∃a,iK[i]? =some a:=⟨_,Zb Zo⟩;refine cb @t0 @t9 @b ⟨?_⟩;refine AU v g.at_ r s (λU7 U6=> ?_);by_cases t:a<c
 ·have l:decide (a<c)=true:=by simp[t]
  rw[l];refine cb @t0 @b @t9 ⟨?_⟩;refine AV v g.at_ s r (λTY U8 T2 T5=> ?_);refine bh @t9 ⟨?_⟩;refine⟨m-(E-i),Zo,E,_,T2,Y t0,Y t1,Y f,av,.inr T6,Zo,(BG s r).trans x,λq T7=>by rw[Y8,Zi Zo,Y8,Zi Zo];exact L q T7,(g.trans (g8.refl g.at_ Zo)).trans T5⟩
 ·have l:decide (a<c)=false:=by simp[t]
  rw[l];refine bA @b @t1 ⟨?_⟩;exact⟨iK,hb,x,L,g.trans (g8.refl g.at_ Zo)⟩
def F7(d:bW X)(e:is X j bu aE aQ)(T5:bu<k)(t:∀h∈aQ,h<k)(v:aE.length<=300000)(aw:Int):
 az X 74 [.iface 152 (.ptr bu 0),.iface 3 (.Z aw)] j k (λM S' W=>M=.tuple []/\∃C b,C.Perm (aE++[aw])/\g8 X j k bu aQ S' W C b) zW:=by
 refine z6 d (MY ..) ?_;unfold D4;obtain⟨c,p,b1,s,n,P,g⟩:=e;refine uN (SN _) (bF (Lj X) (d.none _ _ rfl) ?_);rw[Lk];unfold C7;have T4:ay X j (.ptr bu 0)=some s:=by rw[aZ n];exact P
 have has:ly 3 (.Z 0) false (.iface 3 (.Z aw))=some (.Z aw):=by simp[ly,c3]
 refine bA @T4 @has ⟨?_⟩;generalize i:Go.aC.aI X j (k+6) _=am;have L:F X am (k+6)=zO [.Z aw] 1:=by rw[<-i,aJ Zo]
 have a7:∀h,h<k->F X am h=F X j h:=λh a=>by rw[<-i,ag Zo Zo]
 clear i;obtain⟨A,ah,ar,b,T3,TZ,gp,r,dx⟩:=(g.K (S':=am) (λh a=>a7 h (t h a))).push (k:=k+10) (g6 L (fS _) rfl _) Zo Zo (λh a=>zK (t h a));refine d7 T3 ?_;have O:F X ah bu=some (.cells b1 1 .own):=by rw[dx bu Zo p,a7 bu T5];exact n
 obtain⟨T7,T8⟩:=gp.one;refine h5 ⟨?_⟩;refine dh (jE O c Zo T7 T8) ?_;generalize l:Go.aC.aI X ah bu _=f;have T0:F X f bu=some (.cells (b1.set 0 (some A)) 1 .own):=by rw[<-l,aJ c]
 have x:∀h,h≠bu->F X f h=F X ah h:=λh a=>by rw[<-l,ag c a]
 clear l;have w:bu∉b:=λv=>by
  rcases r bu v with e|e
  ·omega
  ·exact p e
 have m:g8 X j k bu aQ f ar (aE++[aw]) b:=⟨Zo,⟨c,w,_,A,T0,by rw[B.eX,Zu rfl],gp.K λh a=>x h (λu=>w (u▸a))⟩,λh a=>by
  rcases r h a with e|e
  ·exact .inr ⟨Zo,e.2⟩
  ·exact .inl e,λh a T1 g=>by rw[x h T1,dx h Zo g,a7 h a]⟩
 refine br ⟨?_⟩;refine GG d m.at_ ?_;have N:aH .sub (.Z ((aE++[aw]).length:Int)) (.Z 1)=some (.Z aE.length):=by rw[ju (by rw[ZG];omega) (by simp<;>omega),show(((aE++[aw]).length:Int) -1)=(aE.length:Int) by simp]
 refine bh @N ⟨?_⟩;refine(acN (k:=ar) d m.at_ (E:=aE.length) Zs Zx).Zm ?_;rintro M TY U0 ⟨rfl,T9,G,T6,T2⟩;refine br ⟨?_⟩;exact⟨rfl,T9,G,T6,m.trans T2⟩
def Rg(d:bW X)(e:is X j bu aE aQ)(TY:aE≠[])(U8:aE.length<=300000):
 az X 76 [.iface 152 (.ptr bu 0)] j k (λM S' W=>∃aw T1 T2,M=.iface 3 (.Z aw)/\aE.Perm (aw::T1)/\g8 X j k bu aQ S' W T1 T2) zW:=by
 refine z6 d (M0 ..) ?_;unfold D7;obtain⟨m,U7⟩:∃m,aE.length=m+1:=⟨aE.length-1,zK (ZP.2 TY)⟩;refine GG d e ?_;have T3:aH .sub (.Z aE.length) (.Z 1)=some (.Z m):=by rw[ju Zo Zo,show((aE.length:Int) -1)=(m:Int) by omega]
 obtain⟨a,C⟩:=zN aE 0;obtain⟨c,G⟩:∃a,aE[m]? =some a:=⟨_,Zb Zo⟩;refine bh @T3 ⟨?_⟩;refine AV (i:=0) (E:=m) d e C G (λam ak hb r=> ?_);have t:=BG C G;generalize U9:(aE.set 0 c).set m a=iK at r t;have U5:=t.length_eq;refine br ⟨?_⟩;refine(Pb (k:=ak) (n:=m) d r.at_ Zo Zo).Zm ?_;rintro M ah ar ⟨kK,hs,L,UA,A⟩;have U6:=L.length_eq;refine br ⟨?_⟩;obtain⟨g,x,b1,s,w,T5,l⟩:=id A.at_;refine uN SM (bF (Lh X) (d.none _ _ rfl) ?_);rw[Li];unfold C6;have T9:ay X ah (.ptr bu 0)=some s:=by rw[aZ w];exact T5
 have T8:=l.len;have T4:aH .sub (.Z kK.length) (.Z 1)=some (.Z m):=by rw[ju Zo Zo,show((kK.length:Int) -1)=(m:Int) by omega]
 obtain⟨aw,O⟩:∃a,kK[m]? =some a:=⟨_,Zb Zo⟩;obtain⟨b,_,U3,U4,_⟩:=l.at O;obtain⟨T0,TZ,N⟩:=l.pop (m:=m) Zo;obtain⟨U1,U2⟩:=N.one;refine c8 @T9 @T8 (Za @T4 (Za @U3 (Za @U4 @TZ))) ⟨?_⟩;refine dh (jE w g Zo U1 U2) ?_;generalize p:Go.aC.aI X ah bu _=v;have T6:F X v bu=some (.cells (b1.set 0 (some T0)) 1 .own):=by rw[<-p,aJ g]
 have P:∀h,h≠bu->F X v h=F X ah h:=λh f=>by rw[<-p,ag g f]
 clear p;refine br ⟨?_⟩;refine⟨aw,kK.take m,hs,rfl, ?_,(r.trans A).trans ⟨Zg _,⟨g,x,_,T0,T6,by rw[B.eX,Zu rfl],N.K λh f=>P h (λu=>x (u▸f))⟩,λh f=> .inl f,λh _ T7 _=>P h T7⟩⟩;have U0:kK=kK.take m++[aw]:=by have:=zm m kK;rw[Zz Zo,(Ze.1 O).2,ZM Zo]at this;exact this.symm
 refine(L.trans t).symm.trans ?_;rw[U0,Yq Zx,List.take_take,Nat.min_self];exact List.perm_append_singleton aw _
end
end
end Go.Proofs.YtehmapikajmjaaaGreatDoor
