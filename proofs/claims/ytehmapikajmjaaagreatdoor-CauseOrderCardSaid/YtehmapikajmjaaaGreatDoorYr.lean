/- Part of the last text; no conditions -/
import Derived.Test.YtehmapikajmjaaaGreatDoorYq
set_option maxHeartbeats 8000000
set_option linter.all false
namespace Go.Proofs.YtehmapikajmjaaaGreatDoor
open Go.aC Go.aj
noncomputable section
def jP:List cS->Nat
 |[]=>0|V::l=>qh V.right+jP l
def OQ:∀l b:List cS,jP (l++b)=jP l+jP b:=by intro l;induction l with|nil=>intro b;simp[jP]|cons a l U=>intro b;rw[YA,jP,jP,U];omega
def OR(V:cS)(l:List cS):jP (l++[V])=jP l+qh V.right:=by rw[OQ];simp[jP]
def uj{α:Type}{f:α->Option Int}{l:List α}{i:Nat}{x:α}(e:l[i]? =some x)(a:(l.take i).findSome? f=none):(l.take (i+1)).findSome? f=f x:=by rw[ZE,e,List.findSome?_append,a];simp
def wj{α:Type}{f:α->Option Int}{l:List α}{i:Nat}{x:α}{a:Int}(e:l[i]? =some x)(b:(l.take i).findSome? f=none)(c:f x=some a):l.findSome? f=some a:=by have u:l=l.take (i+1)++l.drop (i+1):=(zm _ _).symm;rw[u,List.findSome?_append,uj e b,c];rfl
section
variable{X:bf}{j S' am ah:B R}{k W ak ar:Nat}{P cU aM:Nat->Prop}
def mO(X:bf)(j:B R)(aa:List GE)(t:ax->Option ct)(a:Nat->Option y)(P cU:Nat->Prop):List cS->List (List y)->Prop
 |[],aR=>aR=[]|V::c,aR=>∃row b v,aR=row::b/\row[3]? =some v/\mZ aa t V=none/\iw X j aa t a P cU V.right v/\mO X j aa t a P cU c b
def mO.K{aa:List GE}{t:ax->Option ct}{d f:Nat->Option y}{b c:Nat->Prop}(q:∀h,P h->F X S' h=F X j h)(w:∀h,cU h->F X S' h=F X j h)(p:∀h,P h->f h=d h)(r:∀h,P h->b h)(s:∀h,cU h->c h):∀{a:List cS}{aR:List (List y)},mO X j aa t d P cU a aR->mO X S' aa t f b c a aR:=by intro a;induction a with|nil=>intro aR e;exact e|cons V a U=>rintro aR ⟨row,x,v,g,i,l,m,n⟩;exact⟨row,x,v,g,i,l,iw.K q w p r s _ _ m,U n⟩
def mO.snoc{aa:List GE}{t:ax->Option ct}{c:Nat->Option y}{V:cS}{row:List y}{v:y}(d:row[3]? =some v)(f:mZ aa t V=none)(g:iw X j aa t c P cU V.right v):∀{b:List cS}{aR:List (List y)},mO X j aa t c P cU b aR->mO X j aa t c P cU (b++[V]) (aR++[row]):=by
 intro b;induction b with
 |nil=>rintro aR rfl;exact⟨row,[],v,rfl,d,f,g,rfl⟩
 |cons a b U=>rintro aR ⟨n,p,w,rfl,bl,i,l,m⟩;exact⟨n,p++[row],w,rfl,bl,i,l,U m⟩
structure r5(X:bf)(j:B R)(di:Nat)(P:Nat->Prop)(a V r:Nat)(p:y)(aa:List GE):Prop where
 aD:(o X).aD<=di
 lc:a<di
 sW:V<di
 pr:r<di
 s3:(o X).aD<=r
 wX:(o X).aD<=a
 qk:a≠r
 qr:V≠r
 yN:V≠a
 aU:∀h,P h->(o X).aD<=h/\h<di/\h≠r/\h≠a
 uk:∃c,F X j a=some (.cells c 3 .own)/\c.get 0=some (.ptr V 0)/\c.get 1=some p
 rI:ay X j (.ptr V 0)=some (.map r)
 prog:iQ X j P aa p
def r9(X:bf)(j:B R)(aa:List GE)(c:Nat->Option y)(P cU:Nat->Prop)(g:GE)(row:List y):Prop:=ra aa g=none/\∃bK bM aB a bb bn bH b aR,row=[.str g.name,.Z g.at_,bK,bM,aB,a]/\ca X j P bb bK 8 (g.cv.map cV)/\ca X j P bn bM 8 (g.out.map cV)/\ca X j P bH aB 8 (g.loc.map cV)/\ca X j P b a 4 aR/\kS X j P g.eqs aR/\mO X j aa (dk g) c P cU g.eqs aR
structure Jb(n:Nat)(X:bf)(dU:B R)(k f:Nat)(aM aK:Nat->Prop)(r:Nat)(aa:List GE)(t:ax->Option ct)(d:Nat->Option y)(eqs:List cS)(aR:List (List y))(E:Nat)(S':B R)(c:Nat):Prop where
 none_:(eqs.take E).findSome? (mZ aa t)=none
 fr:bo X [r] dU f S' c
 at_:∃b a,hI X S' aM r b/\(∀h,¬aK h->b h=d h)/\(∀h,a h->aK h)/\kS X S' a (eqs.drop E) (aR.drop E)/\mO X S' aa t b (λh=>aK h/\¬a h) (bR k c) (eqs.take E) (aR.take E)/\iP X S' r (n+jP (eqs.take E))/\∀h,a h->b h=none
set_option maxRecDepth 100000 in
def Tq(TY:bW X)(cB:pU X){aa:List GE}{A UZ r di:Nat}{p:y}(WQ:aa≠[])(X3:∀g∈aa,g.cv.length<=100000/\g.out.length<=100000)(UH:∀h,aM h->P h){aK:Nat->Prop}(Vj:∀h,aK h->aM h)(Xc:di<=k)(C:r5 X j di P A UZ r p aa){UB:Nat->Option y}(Vg:hI X j aM r UB){n:Nat}(Wc:iP X j r n)(Wr:∀h,aK h->UB h=none)
 {g:GE}{row:List y}(Vo:ir X j aK g row)(We:∀V∈g.eqs,dv gN V.right)(X2:(c7 g).length<=300000):
 az X 31 [.ptr A 0,.agg row] j k (λM S' W=>M=.tuple []/\(∃c,F X S' A=some (.cells c 3 .own)/\c.get 0=some (.ptr UZ 0)/\c.get 1=some p)/\∃VT,hI X S' aM r VT/\(∀h,¬aK h->VT h=UB h)/\r9 X S' aa VT aK (bR k W) g row/\bo X [r,A] j k S' W/\iP X S' r (n+jP g.eqs))
  (λM S' W=>∃a,ra aa g=some a/\M=iU 26 a/\bo X [r,A] j k S' W):=by
 refine z6 TY (LF ..) ?_;unfold Dj;have Xd:=C.aD;have aU:=C.aU;have Xb:=C.pr;have XX:=C.lc;have Xa:=C.sW;have T0:∀h,aK h->P h:=λh f=>UH h (Vj h f);have Vp:=Vo;obtain⟨bK,bM,aB,UN,bb,bn,bH,WH,aR,rfl,VJ,VK,VL,UI,VH⟩:=Vo;have XD:=(fU VJ.len).1;have XF:=(fU VK.len).1;have XE:=(fU VL.len).1;have Xf:=(fU UI.len).1;refine l1 ?_;generalize VD:Go.aC.aI X j k _=am;have V0:F X am k=zO [.str g.name,.Z g.at_,bK,bM,aB,UN] 6:=by rw[<-VD,aJ Zo];rfl
 have V3:aT X j k am (k+1):=by rw[<-VD];exact b8
 clear VD;refine bh (aZ V0) ⟨?_⟩;have a7:∀h,P h->F X am h=F X j h:=λh f=>V3.K h (zK (aU h f));refine(s5 (k:=k+1) (j:=am) TY Zo (λh f=>zK (aU h (T0 h f))) (Vp.K (aK:=aK) (λh f=>a7 h (T0 h f)) (λ_ e=>e)) X2).Zm ?_;rintro M ah ar ⟨bw,WD,Xj,XV,rfl,W1,W2,Vk,Vx,_,_,Uh⟩;have XY:=Uh.le;have V4:=V3.trans Uh;obtain⟨c,VW,VX,VY⟩:=C.uk;have wq:F X ah A=some (.cells c 3 .own):=by rw[V4.K A Zo];exact VW
 have Vy:=C.wX;refine h5 ⟨?_⟩;generalize VE:Go.aC.aI X ah A _=L;have WP:∃Uf,F X L A=some (.cells Uf 3 .own)/\Uf.get 0=some (.ptr UZ 0)/\Uf.get 1=some p/\Uf.get 2=some (.ptr bw 0):=⟨ch c 2 [.ptr bw 0],by rw[<-VE,aJ Vy];rfl,by rw[je,B.eX];exact VX,by rw[je,B.eX];exact VY,nt c 2 _⟩;have Ur:∀h,h≠A->F X L h=F X ah h:=λh f=>by rw[<-VE,ag Vy f]
 clear VE wq;have UU:∀h,h<k->h≠A->F X L h=F X j h:=λh U7 T6=>by rw[Ur h T6,V4.K h U7]
 have UV:∀h,P h->F X L h=F X j h:=λh f=>by have:=aU h f;exact UU h Zo Zo
 have Vc:bo X [r,A] j k L ar:=⟨Zo,λh U7 T6=>UU h U7 (by simp at T6;exact T6.2)⟩;have W3:iv X L (λh=>P h\/bR (k+1) ar h) (.ptr bw 0) (dk g):=⟨bw,WD,rfl,.inr W1,.inr W2,zV (Ur bw (zK W1.1)) Vk,Vx.K (Ur WD (zK W2.1))⟩;have UR:mD X L ar (λh=>P h\/bR (k+1) ar h) A UZ r (.ptr bw 0) p aa (dk g):=⟨Zo,Zo,Zo,Zo,C.s3,C.qk,C.qr,λh f=>by
  rcases f with e|e
  ·have:=aU h e;exact⟨this.1,Zo,this.2.2.1⟩
  ·have U7:=e.1;have T6:=e.2;exact⟨Zo,T6,Zo⟩,WP,zV (UU UZ Zo C.yN) C.rI,W3,C.prog.K UV (λ_ e=> .inl e)⟩
 have V1:F X L k=zO [.str g.name,.Z g.at_,bK,bM,aB,UN] 6:=by rw[Ur k Zo,Uh.K k Zo];exact V0
 have Vh:hI X L aM r UB:=Vg.K (UU r Zo (λu=>C.qk u.symm)) (λh f=>UV h (UH h f));have WZ:iP X L r n:=Wc.K (UU r Zo (λu=>C.qk u.symm));generalize W5:dk g=t at*;have UJ:ra aa g=(match vU t g with|some a=>some a|none=>g.eqs.findSome? (mZ aa t)):=by unfold ra;rw[W5];rfl
 clear V3 Uh V4 a7 Vx Vk W3 V0 VW VX VY;have Wi:dp [.au,.au,.au] [(0,1,bK),(1,1,bM),(2,1,aB)]=some (.agg [bK,bM,aB]):=by simp[dp,lE,l9,iH,XD,XF,XE]
 refine jt (aZ V1) ⟨?_⟩;refine dh Wi ?_;refine dW (λz S' T8=>z.g 0=some (.ptr A 0)/\z.g 3=some (.ptr k 0)/\vU t g=none/\aT X L ar S' T8) (λE Vq=> ?_) ?_
 ·have XC:∀q,q<3->∃s b,([bK,bM,aB]:List y)[q]? =some s/\ca X j aK b s 8 ((hk g q).map cV):=λq Vr=>by
   match q,Vr with
   |0,_=>exact⟨bK,bb,rfl,VJ⟩|1,_=>exact⟨bM,bn,rfl,VK⟩|2,_=>exact⟨aB,bH,rfl,VL⟩
  refine cG (λm z S' T8=>∃(q:Nat),z.g 0=some (.ptr A 0)/\z.g 3=some (.ptr k 0)/\z.g 25=some (.agg [bK,bM,aB])/\z.g 26=some (.Z q)/\q+m=3/\((c7 g).take (jC g q)).findSome? (λx=>if x.2.on≠[]/\(i7 t x.2.on).b=false then some x.2.cY else none)=none/\aT X L ar S' T8)
   3 ⟨0,av,av,av,cW,Zo,by simp[jC],aT.refl _ _⟩ ?_
  rintro m z N U0 ⟨q,t0,t3,UD,U3,Vr,G,O⟩;have Wy:=O.le;cases m with
  |zero=>have d:decide ((q:Int)<3)=false:=z1;have Wv:q=3:=Zo;subst Wv;rw[<-v7,Yu]at G;refine bA @U3 @d ⟨?_⟩;exact Vq _ _ _ ⟨Y t0,Y t3,G,O⟩|succ m=>
   have d:decide ((q:Int)<3)=true:=zZ;obtain⟨Us,XU,XA,UL⟩:=XC q Zo;have Wu:lH false 3 1 (.agg [bK,bM,aB]) (.Z q)=some Us:=(by have WR:Nat.blt q 3=true:=(by simp[Nat.blt];omega);simp only[lH,hU,WR,cE,ge,jB,ZF];exact XA);have Vv:=UL.len;have X5:=UL.many;rw[Zj]at Vv X5;refine dE @U3 @UD @d @Wu @Vv ⟨?_⟩;refine cG (λm z S' T8=>∃(i:Nat),z.g 0=some (.ptr A 0)/\z.g 3=some (.ptr k 0)/\z.g 25=some (.agg [bK,bM,aB])/\z.g 26=some (.Z q)/\z.g 29=some Us/\z.g 30=some (.Z ((hk g q).length:Int))/\z.g 31=some (.Z i)/\i+m=(hk g q).length/\((c7 g).take (jC g q+i)).findSome? (λx=>if x.2.on≠[]/\(i7 t x.2.on).b=false then some x.2.cY else none)=none/\aT X L ar S' T8)
    (hk g q).length ⟨0,Y t0,Y t3,Y UD,Y U3,av,av,cW,Zo,G,O⟩ ?_
   clear t0 t3 UD U3 G;rintro U2 z T3 l ⟨i,t0,t3,UD,U3,VV,Ut,Uu,af,G,UQ⟩;have Wz:=UQ.le;cases U2 with
   |zero=>
    have d:=zL i (hk g q).length;have UF:=zP q;refine dE @Uu @Ut @U3 @d @UF ⟨?_⟩;refine⟨m,Zo,q+1,Y t0,Y t3,Y UD,av,Zo, ?_,UQ⟩;rw[Hh g Zo]
    have:i=(hk g q).length:=Zo
    rw[<-this];exact G
   |succ U2=>
    have d:=zM i (hk g q).length;have UF:=zP i;obtain⟨ap,al⟩:=zN (hk g q) i;have Wt:=UL.c0 i (by rw[Zj];omega);have XM:∀h,aK h->F X T3 h=F X j h:=λh f=>(by have:=aU h (T0 h f);rw[UQ.K h Zo,UV h (T0 h f)]);have W0:=(UL.K XM).row (i:=i) (r:=cV ap) Zd (by rw[Zn,al];rfl);have Wl:cV ap=[.str ap.name,.Z ap.at_,.bool ap.ty.b,.bool ap.ty.s,.Z ap.ty.w,.str ap.on,.Z ap.cY,.bool ap.no]:=rfl;rw[Wl]at W0;have VI:=Fp g (q:=q) Zo al;have XW:=UR.fr (bo.of (X:=[r]) UQ) (Zg _);refine eC @Uu @Ut @VV @d @Wt @W0 ⟨?_⟩;generalize UA:Go.aC.aI X _ l _=T4;have U6:F X T4 l=zO [.str ap.name,.Z ap.at_,.bool ap.ty.b,.bool ap.ty.s,.Z ap.ty.w,.str ap.on,.Z ap.cY,.bool ap.no] 8:=(by rw[<-UA,aJ Zo];rfl);have TZ:∀h,h<l->F X T4 h=F X T3 h:=λh f=>(by rw[<-UA];exact zQ);clear UA;have V5:aT X L ar T4 (l+1):=⟨Zo,λh f=>by rw[TZ h Zo];exact UQ.K h f⟩;have Va:=UR.fr (bo.of (X:=[r]) V5) (Zg _);by_cases Um:ap.on=[]
    ·have Uv:∀i:Decidable (ap.on≠[]), @decide (ap.on≠[]) i=false:=λi=>(by simp[Um]);refine bh (aZ U6) ⟨?_⟩;simp only[Uv];refine bA @Uu @UF ⟨?_⟩;refine⟨U2,Zo,i+1,Y t0,Y t3,Y UD,Y U3,Y VV,Y Ut,av,Zo, ?_,V5.more Zo⟩;rw[<-Yi,uj VI G];simp[Um]
    ·have Uv:∀i:Decidable (ap.on≠[]), @decide (ap.on≠[]) i=true:=λi=>(by simp[Um]);refine bh (aZ U6) ⟨?_⟩;simp only[Uv];refine bA @t0 (aZ U6) ⟨?_⟩;refine(uW (k:=l+1) (P:=λh=>P h\/bR (k+1) ar h) TY Zo Zo Va.nP.bU Va.mx (λh f=>zK (UR.aU h f).2.1) ap.on).Zm ?_;rintro M U4 UX ⟨rfl,V6⟩;have X0:=V6.le;have VZ:=V5.trans (V6.gr Zo);have Ug:F X U4 l=zO [.str ap.name,.Z ap.at_,.bool ap.ty.b,.bool ap.ty.s,.Z ap.ty.w,.str ap.on,.Z ap.cY,.bool ap.no] 8:=(by rw[V6.K l Zo];exact U6);cases T:(i7 t ap.on).b with|true=>refine c9 @wm @T @Uu @UF ⟨?_⟩;refine⟨U2,Zo,i+1,Y t0,Y t3,Y UD,Y U3,Y VV,Y Ut,av,Zo, ?_,VZ⟩;rw[<-Yi,uj VI G];simp[T]|false=>refine cb @wm @T (aZ Ug) ⟨?_⟩;refine(ud TY Zo ap.cY).mono (λ_ _ _ e=>e) ?_;rintro M U5 UC ⟨rfl,T7⟩;have Wj:vU t g=some ap.cY:=wj VI G (by simp[Um,T]);exact⟨ap.cY,by rw[UJ,Wj],rfl,Vc.trans (bo.of (VZ.trans T7))⟩
 ·rintro z N U0 ⟨t0,t3,Wk,O⟩;have Wy:=O.le;have V8:bo X [r,A] j k N U0:=Vc.trans (bo.of O);have V7:=UR.fr (bo.of (X:=[r]) O) (Zg _);have WM:F X N k=zO [.str g.name,.Z g.at_,bK,bM,aB,UN] 6:=by rw[O.K k Zo];exact V1
  have W9:∀h,P h->F X N h=F X j h:=λh f=>by have:=aU h f;rw[O.K h Zo,UV h f]
  have WW:hI X N aM r UB:=Vh.K (O.K r Zo) (λh f=>by have:=aU h (UH h f);exact O.K h Zo);have Wa:iP X N r n:=WZ.K (O.K r Zo);have Wo:kS X N aK g.eqs aR:=VH.K (λh f=>W9 h (T0 h f)) (λ_ e=>e);have W6:=VH.wide;have Vu:=UI.len;have X4:=UI.many;rw[W6.1]at Vu X4;rw[Wk]at UJ;simp only[]at UJ;clear Vh V1 UV C Vg Vp;show bt _ _;refine cb @t3 (aZ WM) @Vu ⟨?_⟩;refine cG (λm z S' T8=>∃(E:Nat),z.g 0=some (.ptr A 0)/\z.g 52=some UN/\z.g 53=some (.Z g.eqs.length)/\z.g 54=some (.Z E)/\E+m=g.eqs.length/\Jb n X N k U0 aM aK r aa t UB g.eqs aR E S' T8)
   g.eqs.length ⟨0,Y t0,av,av,cW,Zo,⟨rfl,bo.refl _ _ _,UB,aK,WW,λ_ _=>rfl,λ_ e=>e,by simpa using Wo,by rw[Ya,Ya];rfl,by rw[Ya];exact Wa,Wr⟩⟩ ?_
  clear t0 t3;rintro m z T3 l ⟨E,t0,UO,t53,UE,Vq,Uj⟩;have US:=Uj.fr;have Wz:=US.le;have WT:=V7.fr US Zo;obtain⟨VU,WG,Vi,Vt,VC,Vm,VP,VA,Vn⟩:=Uj.at_;have G:=Uj.none_;clear Uj;cases m with
  |zero=>have d:=zL E g.eqs.length;rw[Zy Zo]at G VA;rw[Zy Zo,Zy Zo]at VP;refine cb @t53 @UE @d ⟨?_⟩;have Vf:bo X [r,A] j k T3 l:=V8.trans (US.down (Zg _) (λb T=> .inl (by simp at T;simp[T])));have UW:∀h,aK h->F X T3 h=F X j h:=λh f=>(by have:=aU h (T0 h f);exact Vf.K h Zo (by simp;exact⟨this.2.2.1,this.2.2.2⟩));obtain⟨WK,z0,XR,XS,_⟩:=WT.uk;exact⟨rfl,⟨WK,z0,XR,XS⟩,VU,Vi,Vt,⟨by rw[UJ];exact G,bK,bM,aB,UN,bb,bn,bH,WH,aR,rfl,VJ.K UW,VK.K UW,VL.K UW,UI.K UW,VH.K UW (λ_ e=>e),by rw[W5];exact VP.K (λ_ _=>rfl) (λ_ _=>rfl) (λ_ _=>rfl) (λh f=>f.1) (λ_ e=>e)⟩,Vf,VA⟩
  |succ m=>
   have d:=zM E g.eqs.length;have UF:=zP E;obtain⟨V,UK⟩:=zN g.eqs E;have al:g.eqs.drop E=V::g.eqs.drop (E+1):=(by obtain⟨VQ,f⟩:=Ze.1 UK;rw[Zz VQ,f]);rw[al]at Vm;obtain⟨row,XP,Ud,Uo,VB,X8,Wp⟩:=Vm;have VN:aR[E]? =some row:=by
    have:(aR.drop E)[0]? =some row:=by rw[Uo];rfl
    simpa using this
   have UL:XP=aR.drop (E+1):=(by obtain⟨VQ,f⟩:=Ze.1 VN;rw[Zz VQ]at Uo;simp only[zy]at Uo;exact Uo.2.symm);subst UL;obtain⟨UM,UY,bS,bU,Xi,rfl,Un,Xe,Vz,X7⟩:=id X8;obtain⟨T1,rfl,Wn,iX⟩:=Vz.ptr;have U9:∀h,Ud h->aK h:=λh f=>VC h (VB h f);have U1:∀h,P h->h<U0/\h≠r:=λh f=>(by have:=aU h f;exact⟨Zo,this.2.2.1⟩);have XL:∀h,P h->F X T3 h=F X j h:=λh f=>(by have:=U1 h f;rw[US.K h this.1 (by simp[this.2]),W9 h f]);have Ws:=UI.c0 E (by rw[W6.1];omega);have X9:=(UI.K (λh f=>XL h (T0 h f))).row Zd VN;have W4:g.eqs.take (E+1)=g.eqs.take E++[V]:=(by rw[ZE,UK];rfl);have XI:aR.take (E+1)=aR.take E++[[UM,UY,.Z V.at_,.ptr T1 0]]:=(by rw[ZE,VN];rfl);refine eC @UE @t53 @UO @d @Ws @X9 ⟨?_⟩;refine dh (eR (q:=4) (b:=l) (J:=0) (n:=4) (aJ Zo) Zo rfl Zd Zd X7) ?_;generalize UA:Go.aC.aI X _ l _=T4;have U6:F X T4 l=zO [UM,UY,.Z V.at_,.ptr T1 0] 4:=(by rw[<-UA,aJ Zo];rfl);have TZ:∀h,h<l->F X T4 h=F X T3 h:=λh f=>(by rw[<-UA];exact zQ);clear UA;have V9:bo X [r] N U0 T4 (l+1):=⟨Zo,λh U7 T6=>by rw[TZ h Zo];exact US.K h U7 T6⟩;have WU:=V7.fr V9 Zo;have WX:hI X T4 aM r VU:=Vi.K (TZ r Zo) (λh f=>by have:=U1 h (UH h f);exact TZ h Zo);have Wq:bB X T4 Ud V.right (.ptr T1 0):=bB.K (λh f=>by have:=U1 h (T0 h (U9 h f));exact TZ h Zo) _ _ Vz;refine bA @t0 (aZ U6) ⟨?_⟩;refine(P3 (aM:=aM) (P:=λh=>P h\/bR (k+1) ar h) (di:=ar) TY cB WQ X3 (λh f=> .inl (UH h f)) (SizeOf.sizeOf V.right+1) V.right (Yt _) (We V (Zl UK)) Ud (.ptr T1 0) T4 (l+1) VU (n+jP (g.eqs.take E)) (λh f=>Vj h (U9 h f)) Zo WU WX Wq (VA.K (TZ r Zo)) (λh f=>Vn h (VB h f))).mono ?_ ?_
   ·rintro M U4 UX ⟨b7,XO,Wd,Xg,XJ,WY,VM,XH,U8,Wb⟩;have X0:=U8.le;have Vd:bo X [r] N U0 U4 UX:=V9.trans (U8.down Zo (λb T=> .inl T));have WV:=V7.fr Vd Zo;have Ug:F X U4 l=zO [UM,UY,.Z V.at_,.ptr T1 0] 4:=(by rw[U8.K l Zo Zx];exact U6);have Vw:=Un.len;have X6:=Un.many;simp only[cQ,Zj]at Vw X6;have XN:∀h,aK h->F X U4 h=F X T3 h:=λh f=>(by have:=U1 h (T0 h f);rw[U8.K h Zo (by simp[this.2]),TZ h Zo]);refine bA (aZ Ug) @Vw ⟨?_⟩;refine cG (λm z S' T8=>∃(i:Nat) (s:y) (aQ:List Nat),z.g 0=some (.ptr A 0)/\z.g 9=some (.ptr l 0)/\z.g 10=some M/\z.g 11=some s/\z.g 52=some UN/\z.g 53=some (.Z g.eqs.length)/\z.g 54=some (.Z E)/\z.g 63=some UM/\z.g 64=some (.Z V.left.length)/\z.g 65=some (.Z i)/\i+m=V.left.length/\cT X S' s 3 (jd ((V.left.take i).map (i7 t))).flatten aQ/\(∀h∈aQ,UX<=h/\h<T8)/\aT X U4 UX S' T8)
     V.left.length ⟨0,.au,[],Y t0,av,av,av,Y UO,Y t53,Y UE,av,av,cW,Zo,.inl (.inl ⟨rfl,rfl,rfl⟩),Zs,aT.refl _ _⟩ ?_
    clear t0 UO t53 UE;rintro U2 z U5 UC ⟨i,s,aQ,t0,t9,WE,Ua,UO,t53,UE,WF,Ub,Uc,af,VO,UT,T7⟩;have XZ:=T7.le;have Vb:=WV.fr (bo.of (X:=[r]) T7) Zo;have V2:F X U5 l=zO [UM,UY,.Z V.at_,.ptr T1 0] 4:=(by rw[T7.K l Zo];exact Ug);have VS:∀h,aK h->F X U5 h=F X T3 h:=λh f=>(by have:=U1 h (T0 h f);rw[T7.K h Zo,XN h f]);cases U2 with
    |zero=>
     have d:=zL i V.left.length;rw[Zy Zo]at VO;obtain⟨WJ,Up⟩:=VO.kG (P:=λh=>h<UC) Zd (va _) (by simp[jd];omega) (λh f=>(UT h f).2);have W7:hK X U5 (λh=>h<UC) s (V.left.map (i7 t)):=⟨WJ,Up⟩;have Uq:=W7.rd.len;rw[Zj]at Uq;have XK:hK X U5 (λh=>h<UC) M b7:=XJ.K (λh f=>T7.K h f.2) (λh f=>zK f.2);have Vs:ay X U5 (.ptr T1 0)=some (.Z V.right.kind):=zV (VS T1 (U9 T1 Wn)) iX;have Ve:bo X [r] N U0 U5 UC:=Vd.trans (bo.of (T7.gr Zo));have VG:mZ aa t V=if (1<V.left.length/\V.right.kind≠25)\/b7≠V.left.map (i7 t)then some V.at_ else none:=(by unfold mZ;rw[Wd]);have fin:∀{T5:B R}{T9:Nat},bo X [r] N U0 T5 T9->mZ aa t V=some V.at_->ra aa g=some V.at_/\bo X [r,A] j k T5 T9:=λUi Wm=>⟨by rw[UJ];exact wj UK G Wm,V8.trans (Ui.down (Zg _) (λb T=> .inl (by simp at T;simp[T])))⟩;by_cases Ul:1<V.left.length/\V.right.kind≠25
     ·have UP:decide ((V.left.length:Int)>1)=true:=zZ;have Uw:decide (V.right.kind≠25)=true:=(by simp[Ul.2]);refine cd @Uc @Ub @d @Ua @Uq @UP (Za @t9 (Za (aZ V2) (Za @Vs @Uw))) ⟨?_⟩;refine(ud TY Zo V.at_).mono (λ_ _ _ e=>e) ?_;rintro M T5 T9 ⟨rfl,T2⟩;obtain⟨Uy,Uz⟩:=fin (Ve.trans (bo.of T2)) (by rw[VG,Zu (.inl Ul)]);exact⟨_,Uy,rfl,Uz⟩
     ·apply ql
      ·intro WC;by_cases Wx:1<V.left.length
       ·have UP:decide ((V.left.length:Int)>1)=true:=zZ;have Uw:decide (V.right.kind≠25)=false:=(by simp only[Zc];exact λe=>Ul ⟨Wx,e⟩);refine cd @Uc @Ub @d @Ua @Uq @UP (Za @t9 (Za (aZ V2) (Za @Vs @Uw))) ⟨?_⟩;exact WC.out
       ·have UP:decide ((V.left.length:Int)>1)=false:=z1;refine eC @Uc @Ub @d @Ua @Uq @UP ⟨?_⟩;exact WC.out
      ·refine bA @WE @Ua ⟨?_⟩;refine(Fx (P:=λh=>h<UC) TY Zo XK W7 (λh e=>e)).Zm ?_;rintro XQ T5 T9 ⟨rfl,T2⟩;have X1:=T2.le;have Ui:bo X [r] N U0 T5 T9:=Ve.trans (bo.of T2);by_cases Uk:b7=V.left.map (i7 t)
       ·have Ux:decide (b7=V.left.map (i7 t))=true:=(by simp[Uk]);have Vl:mZ aa t V=none:=(by rw[VG,Zi];exact λe=>e.elim Ul (λe=>e Uk));refine cb @Ux @UE @UF ⟨?_⟩;have UG:=T7.trans T2;have WA:∀h,aK h->F X T5 h=F X T3 h:=λh f=>(by have:=U1 h (T0 h f);rw[T2.K h Zo,VS h f]);refine⟨m,Zo,E+1,Y t0,Y UO,Y t53,av,Zo,⟨by rw[uj UK G];exact Vl,Ui,XO,λh=>WG h/\¬Ud h,WY.K (UG.K r Zo) (λh f=>by have:=U1 h (UH h f);exact UG.K h Zo),λh f=>(VM h (λe=>f (U9 h e))).trans (Vt h f),λh f=>VC h f.1,Wp.K (λh f=>WA h (VC h f.1)) (λ_ e=>e), ?_,by rw[W4,OR, <-Yi];exact Wb.K (UG.K r Zo),λh f=>(VM h f.2).trans (Vn h f.1)⟩⟩;rw[W4,XI];refine mO.snoc (v:=.ptr T1 0) rfl Vl (iw.K (λh f=>by have:=U1 h (T0 h (U9 h f));exact UG.K h Zo) (λh f=>UG.K h f.2) (λ_ _=>rfl) (λh f=>⟨U9 h f,λe=>e.2 f⟩) (λh f=>⟨zK f.1,zK f.2⟩) _ _ XH) (VP.K (λh f=>WA h f.1) (λh f=> ?_) (λh f=>VM h (λe=>f.2 (VB h e))) (λh f=>⟨f.1,λe=>f.2 e.1⟩) (λh f=>⟨f.1,zK f.2⟩));have U7:=f.1;have T6:=f.2;rw[UG.K h Zo,U8.K h Zo Zx,TZ h T6]
       ·have Ux:decide (b7=V.left.map (i7 t))=false:=(by simp[Uk]);have WN:F X T5 l=zO [UM,UY,.Z V.at_,.ptr T1 0] 4:=(by rw[T2.K l Zo];exact V2);refine cb @Ux @t9 (aZ WN) ⟨?_⟩;refine(ud TY Zo V.at_).mono (λ_ _ _ e=>e) ?_;rintro M Ue Xh ⟨rfl,WS⟩;obtain⟨Uy,Uz⟩:=fin (Ui.trans (bo.of WS)) (by rw[VG,Zu (.inr Uk)]);exact⟨_,Uy,rfl,Uz⟩
    |succ U2=>
     have d:=zM i V.left.length;have WL:=zP i;obtain⟨w,Up⟩:=zN V.left i;have W8:=Un.c0 i (by simp[cQ];omega);have VR:=(Un.K (λh f=>VS h (U9 h f))).cell i [.str w] 0 (.str w) (by simp[cQ,Up]) rfl;rw[ZF]at W8 VR;rw[ZL]at VR;have XG:V.left.take (i+1)=V.left.take i++[w]:=(by rw[ZE,Up];rfl);refine cd @Uc @Ub @WF @d @W8 @VR (Za @Ua @t0) ⟨?_⟩;refine(uW (k:=UC) (P:=λh=>P h\/bR (k+1) ar h) TY Zo Zo Vb.nP.bU Vb.mx (λh f=>zK (UR.aU h f).2.1) w).Zm ?_;rintro XQ T5 T9 ⟨rfl,T2⟩;have X1:=T2.le;refine bh cI.eq_1 ⟨?_⟩;generalize VF:Go.aC.aI X T5 T9 _=Ue;have WO:F X Ue T9=zO (cI (i7 t w)) 3:=(by rw[<-VF,aJ Zo];rfl);have WB:∀h,h<T9->F X Ue h=F X T5 h:=λh f=>(by rw[<-VF,ag Zo Zo]);clear VF;obtain⟨Us,XT,WI,Wg,XB,Wh,Ww⟩:=BL (k:=T9+1) (VO.K (S':=Ue) (λh f=>by have:=UT h f;rw[WB h Zo,T2.K h this.2])) WO (by rw[Zj,YM];omega) Zo (λh f=>zK (UT h f)) 1;refine d7 Wg ?_;refine bA @Uc @WL ⟨?_⟩;refine⟨U2,Zo,i+1,Us,WI,Y t0,Y t9,Y WE,av,Y UO,Y t53,Y UE,Y WF,Y Ub,av,Zo, ?_,λh f=> ?_,⟨Zo,λh f=> ?_⟩⟩
     ·rw[XG,ZR];exact XB
     ·rcases Wh h f with rfl|e
      ·omega
      ·have:=UT h e;omega
     ·rw[Ww h Zo (λe=>zK (UT h e)),WB h Zo,T2.K h Zo];exact T7.K h f
   ·rintro M U4 UX ⟨a,Wf,rfl,U8⟩;exact⟨a,by rw[UJ];exact wj UK G (by unfold mZ;rw[Wf]),rfl,V8.trans ((V9.trans U8).down (Zg _) (λb T=> .inl (by simp at T;simp[T])))⟩
def AK(p:y):gW X j 56 p=ay X j p:=Zk
def EP:∃fn c,(o X).P.funcs[30]? =some fn/\fn.body=some c:=wn (yf X)
def aaK(c:bW X){a b:y}{aK:Bool->B R->Nat->Prop}(e:aK false j k):lD X (.func 30) ([]++[a,b]) none j k aK:=by refine⟨c.none _ _ rfl,EP,wo (yf X) ?_⟩;show nZ X 30 [a,b] none j k aK;rw[Di];unfold ye;show aG _ _;refine bh @Fv ⟨?_⟩;exact e
def aaL(A:bW X){a b:Nat}{q at_:Int}{bS bU:B y}{aK:Bool->B R->Nat->Prop}(r:(o X).aD<=a)(c:(o X).aD<=b)(C:a≠b)(G:a<k)(L:b<k)(x:F X j a=some (.cells bS 1 .own))(f:F X j b=some (.cells bU 2 .own))
 (e:∀S' s,k<=s->ay X S' (.ptr a 0)=some .bE->b4 X S' 2 (.ptr b 0)=some (.agg [.Z q,.Z at_])->(∀h,h<k->h≠a->h≠b->F X S' h=F X j h)->aK true S' s):lD X (.func 30) ([]++[.ptr a 0,.ptr b 0]) (some (iU q at_)) j k aK:=by
 refine⟨A.none _ _ rfl,EP,wo (yf X) ?_⟩;show nZ X 30 [.ptr a 0,.ptr b 0] (some (iU q at_)) j k aK;rw[Di];unfold ye;show aG _ _;have t:ly 26 (.agg [.Z 0,.Z 0]) true (iU q at_)=some (.tuple [.agg [.Z q,.Z at_],.zV]):=nL _ _ _;have m:∀(z:bO) (n:Nat),(xw z).g n=z.g n:=λ_ _=>rfl;refine cb @Fu @t @m ⟨?_⟩;generalize i:aI X _ k _=am;have v:F X am k=zO [.Z q,.Z at_] 2:=by rw[<-i,aJ Zo];rfl
 have g:∀h,h<k->F X am h=F X j h:=λh d=>by rw[<-i];exact zQ
 rw[<-g a G]at x;rw[<-g b L]at f;clear i;refine bA (aZ v) @m ⟨?_⟩;refine ed (by simp[y.same,iF,jb]) ?_;generalize l:aI X am a _=ah;have w:F X ah a=some (.cells (ch bS 0 [.bE]) 1 .own):=by rw[<-l,aJ r];rfl
 have p:∀h,h≠a->F X ah h=F X am h:=λh d=>by rw[<-l,ag r d]
 rw[<-p b Zo]at f;clear l;refine k3 @m ⟨?_⟩;refine dh (eR (q:=2) (b:=b) (J:=0) (n:=2) f c rfl Zd Zd rfl) ?_;show aK true _ _;refine e _ _ Zo ?_ ?_ (λh d N c4=> ?_)
 ·rw[aZ (by rw[ag c C];exact w),fF];rfl
 ·rw[jw,aZ (aJ c),aZ (aJ c),fF,fF];rfl
 ·rw[ag c c4,p h N,g h d]
def aaY{S:aY}{z:bO}{p V v w:y}(c:z.aP=[])(a:z.g 2=some p)(b:z.g 3=some V)(bG:ay X j p=some v)(d:b4 X j 2 V=some w)(e:S (.tuple [v,w]) j k):tf X S z j k:=by unfold tf;rw[c];show bt (z.g 2) (λp=>Z (gW X j 56 p) λv=>bt (z.g 3) λp=>Z (gW X j 26 p) λw=>S (.tuple [v,w]) j k);rw[a,b];refine iG ?_;rw[AK,bG];refine gt ?_;refine iG ?_;rw[sT,d];exact gt e
def aaZ{S:aY}{z:bO}{p V v w a b:y}(f:bW X)(g:z.aP=[⟨.fn (.func 30) [a,b],[]⟩])(c:z.g 2=some p)(d:z.g 3=some V)(bG:ay X j p=some v)(i:b4 X j 2 V=some w)(e:S (.tuple [v,w]) j k):tf X S z j k:=by unfold tf;rw[g];show lD X (.func 30) ([]++[a,b]) none j k λ_ j k=>ic X [.cell 2 56,.cell 3 26] S z [] j k;refine aaK f ?_;show bt (z.g 2) (λp=>Z (gW X j 56 p) λv=>bt (z.g 3) λp=>Z (gW X j 26 p) λw=>S (.tuple [v,w]) j k);rw[c,d];refine iG ?_;rw[AK,bG];refine gt ?_;refine iG ?_;rw[sT,i];exact gt e
def ρ{S ab:aY}{z:bO}{a b:Nat}{q at_:Int}{bS bU:B y}(l:bW X)(s:z.aP=[⟨.fn (.func 30) [.ptr a 0,.ptr b 0],[]⟩])(g:z.g 2=some (.ptr a 0))(i:z.g 3=some (.ptr b 0))
 (A:(o X).aD<=a)(C:(o X).aD<=b)(m:a≠b)(n:a<k)(r:b<k)(d:F X j a=some (.cells bS 1 .own))(f:F X j b=some (.cells bU 2 .own))
 (e:∀S' c,k<=c->(∀h,h<k->h≠a->h≠b->F X S' h=F X j h)->S (.tuple [.bE,.agg [.Z q,.Z at_]]) S' c):w8 X S ab z (iU q at_) j k:=by
 unfold w8;rw[s];show lD X (.func 30) ([]++[.ptr a 0,.ptr b 0]) (some (iU q at_)) j k λb j k=>a8 b (ic X [.cell 2 56,.cell 3 26] S z [] j k) _;refine aaL l A C m n r d f (λS' c x bG G t=> ?_);show bt (z.g 2) (λp=>Z (gW X S' 56 p) λv=>bt (z.g 3) λp=>Z (gW X S' 26 p) λw=>S (.tuple [v,w]) S' c);rw[g,i];refine iG ?_;rw[AK,bG];refine gt ?_;refine iG ?_;rw[sT,G];exact gt (e S' c x t)
def r9.K{aa:List GE}{d f:Nat->Option y}{b c:Nat->Prop}{g:GE}{row:List y}(e:r9 X j aa d P cU g row)(q:∀h,P h->F X S' h=F X j h)(A:∀h,cU h->F X S' h=F X j h)(w:∀h,P h->f h=d h)(a:∀h,P h->b h)(x:∀h,cU h->c h):r9 X S' aa f b c g row:=by obtain⟨l,bK,bM,aB,C,bb,bn,bH,i,aR,m,n,p,r,s,t,v⟩:=e;exact⟨l,bK,bM,aB,C,bb,bn,bH,i,aR,m,(n.K q).lift a,(p.K q).lift a,(r.K q).lift a,(s.K q).lift a,t.K q a,v.K q A w a x⟩
def mI(X:bf)(j:B R)(aa:List GE)(a:Nat->Option y)(P cU:Nat->Prop):List GE->List (List y)->Prop
 |[],aR=>aR=[]|g::l,aR=>∃row b,aR=row::b/\r9 X j aa a P cU g row/\mI X j aa a P cU l b
def mI.K{aa:List GE}{c d:Nat->Option y}{a b:Nat->Prop}(q:∀h,P h->F X S' h=F X j h)(s:∀h,cU h->F X S' h=F X j h)(n:∀h,P h->d h=c h)(p:∀h,P h->a h)(r:∀h,cU h->b h):∀{l:List GE}{aR:List (List y)},mI X j aa c P cU l aR->mI X S' aa d a b l aR:=by intro l;induction l with|nil=>intro aR e;exact e|cons g l U=>rintro aR ⟨row,t,f,i,m⟩;exact⟨row,t,f,i.K q s n p r,U m⟩
def mI.snoc{aa:List GE}{b:Nat->Option y}{g:GE}{row:List y}(e:r9 X j aa b P cU g row):∀{l:List GE}{aR:List (List y)},mI X j aa b P cU l aR->mI X j aa b P cU (l++[g]) (aR++[row]):=by
 intro l;induction l with
 |nil=>rintro aR rfl;exact⟨row,[],rfl,e,rfl⟩
 |cons a l U=>rintro aR ⟨f,i,rfl,c,d⟩;exact⟨f,i++[row],rfl,c,U d⟩
def Jg(X:bf)(j:B R)(aa:List GE)(a:Nat->Option y)(P cU:Nat->Prop)(p:y):Prop:=∃b aB bz aR,p=.ptr b 0/\P b/\ay X j (.ptr b 0)=some aB/\ca X j P bz aB 6 aR/\mI X j aa a P cU aa aR
def ib(aa:List GE):Int×Int:=if (l3 aa).1≠0 then l3 aa else match xE aa with|some a=>(26,a)|none=>(0,0)
def oW:List GE->Nat
 |[]=>0|g::l=>jP g.eqs+oW l
def OP(g:GE):∀l:List GE,oW (l++[g])=oW l+jP g.eqs:=by intro l;induction l with|nil=>simp[oW]|cons a l U=>rw[YA,oW,oW,U];omega
def Nz(X:bf)(j:B R)(aa:List GE)(P cU:Nat->Prop)(p v:y):Prop:=∃V r a,v=.ptr V 0/\cU V/\cU r/\ay X j (.ptr V 0)=some (.map r)/\hI X j P r a/\Jg X j aa a P cU p/\iP X j r (oW aa)
def r3(X:bf)(j:B R)(aa:List GE)(P cU:Nat->Prop)(p M:y):Prop:=if (ib aa).1=0 then ∃v,M=.tuple [v,.agg [.Z 0,.Z 0]]/\Nz X j aa P cU p v else M=.tuple [.bE,.agg [.Z (ib aa).1,.Z (ib aa).2]]
def r5.K{di a V r:Nat}{p:y}{aa:List GE}(e:r5 X j di P a V r p aa)(q:∀h,h<di->h≠r->h≠a->F X S' h=F X j h)(b:∃c,F X S' a=some (.cells c 3 .own)/\c.get 0=some (.ptr V 0)/\c.get 1=some p):r5 X S' di P a V r p aa:=
 ⟨e.aD,e.lc,e.sW,e.pr,e.s3,e.wX,e.qk,e.qr,e.yN,e.aU,b,zV (q V e.sW e.qr e.yN) e.rI,e.prog.K (λh d=>by have:=e.aU h d;exact q h this.2.1 this.2.2.1 this.2.2.2) (λ_ e=>e)⟩
set_option maxRecDepth 100000 in
def EW(TY:e2 X)(V9:gU X)(VD:kl X)(VJ:mG X)(cB:pU X){aa:List GE}{p:y}(VT:(o X).aD<=k)(U8:iQ X j P aa p)(aU:∀h,P h->(o X).aD<=h/\h<k)(Ux:∀g∈aa,hZ gN g)(Uh:aa≠[])(Uo:jy aa=none):
 az X 12 [p] j k (λM S' W=>r3 X S' aa P (bR k W) p M/\aT X j k S' W) zW:=by
 refine tW (J5 X) (TY.tobW.none _ _ rfl) ?_;rw[J6];unfold Ck;obtain⟨Vh,Up⟩:=wM Uo;refine br ⟨?_⟩;refine c6 (λam=>F X am k=zO [.bE] 1/\F X am (k+1)=zO [.Z 0,.Z 0] 2/\aT X j k am (k+1+1)) ⟨by exact z2,by rw[aJ Zo];rfl,b8⟩ ?_;rintro am ⟨Ub,Uc,UG⟩;refine(OG (k:=k+1+1) TY V9 VD VJ Zo (U8.K (aK:=P) (λh f=>UG.K h (aU h f).2) (λ_ e=>e)) (λh f=>zK (aU h f).2) Ux Uh Uo).Zm ?_;rintro M ah ar ⟨rfl,T9⟩;have Vj:=T9.le;have U6:F X ah k=zO [.bE] 1:=by rw[T9.K _ Zo];exact Ub
 have U7:F X ah (k+1)=zO [.Z 0,.Z 0] 2:=by rw[T9.K _ Zo];exact Uc
 have Ui:=UG.trans T9;clear Ub Uc UG T9;have U2:(l3 aa).1≠0->ib aa=l3 aa:=λe=>by unfold ib;rw[Zu e]
 have U3:(l3 aa).1=0->ib aa=match xE aa with|some a=>(26,a)|none=>(0,0):=λe=>by unfold ib;rw[Zi (by simp[e])]
 generalize l3 aa=nP at U2 U3 ⊢;obtain⟨cc,Ua⟩:=nP;simp only at U2 U3;by_cases U0:cc=0
 ·have O:=U3 U0;subst U0;clear U2 U3;have d:decide ((0:Int)≠0)=false:=rfl;refine bh @d ⟨?_⟩;generalize T2:Go.aC.aI X _ ar _=x;have UR:∀h,h<ar->F X x h=F X ah h:=λh f=>by rw[<-T2];exact zQ
  clear T2;rw[<-UR k Zo]at U6;rw[<-UR (k+1) Zo]at U7;have Uy:∀h,h<k->F X x h=F X j h:=λh f=>by rw[UR h Zo];exact Ui.K h f
  have VO:=U8.K (S':=x) (aK:=P) (λh f=>Uy h (aU h f).2) (λ_ e=>e);obtain⟨t,UV,V1,aR,rfl,T5,a0,T7,Ut⟩:=VO;have Uv:=Ut.wide;have Ur:=T7.len;have VS:=T7.many;rw[Uv.1]at Ur VS;have Vm:=aU t T5;refine Fc ?_;generalize TZ:og _ _=U5;have V4:U5.aP=[⟨.fn (.func 30) [.ptr k 0,.ptr (k+1) 0],[]⟩]:=by rw[<-TZ];rfl
  have t0:U5.g 0=some (.ptr t 0):=by rw[<-TZ];rfl
  have T0:U5.g 2=some (.ptr k 0):=by rw[<-TZ];rfl
  have t3:U5.g 3=some (.ptr (k+1) 0):=by rw[<-TZ];rfl
  clear TZ;generalize Vl:ar+1=i at*;refine dE @t0 @T0 @U6 @a0 @Ur ⟨?_⟩;generalize T6:Go.aC.aI X _ (i+1+1) _=l;have Ue:F X l i=some (.map [] 0):=by rw[<-T6];simp(disch:=omega) only[aJ,ag]
  have Ug:F X l (i+1)=zO [.map i] 1:=by rw[<-T6];exact z2
  have Ud:F X l (i+1+1)=zO [.ptr (i+1) 0,.ptr t 0,.bE] 3:=by rw[<-T6,aJ Zo];rfl
  have V8:F X l k=some (.cells (ch (B.ofList [.bE] 0 .nil) 0 [.ptr (i+1) 0]) 1 .own):=by rw[<-T6];exact z2
  have US:∀h,h<i->h≠k->F X l h=F X x h:=λh C T1=>by rw[<-T6];exact zQ
  clear T6;have V7:F X l (k+1)=zO [.Z 0,.Z 0] 2:=by rw[US _ Zo Zo];exact U7
  have UB:∀h,P h->F X l h=F X x h:=λh f=>by have:=aU h f;exact US h Zo Zo
  have Uu:=Ut.K (S':=l) (aK:=P) UB (λ_ e=>e);have VA:r5 X l (i+1+1+1) P (i+1+1) (i+1) i (.ptr t 0) aa:=⟨Zo,Zo,Zo,Zo,Zo,Zo,Zo,Zo,Zo,λh f=>by have:=aU h f;exact⟨this.1,Zo,Zo,Zo⟩,⟨_,Ud,rfl,rfl⟩,by rw[aZ Ug];rfl,⟨t,UV,V1,aR,rfl,T5,zV (UB t T5) a0,T7.K UB,Uu⟩⟩;have VE:hI X l P i (λ_=>none):=⟨[],0,Ue,λ_=>rfl,Zs⟩;have VH:iP X l i 0:=⟨[],0,Ue,rfl⟩;refine cG (λm z S' UU=>∃(E:Nat) (T8:Nat->Option y) (T4:Nat->Prop),z.g 5=some (.ptr (i+1+1) 0)/\z.g 25=some UV/\z.g 26=some (.Z aa.length)/\z.g 27=some (.Z E)/\z.aP=[⟨.fn (.func 30) [.ptr k 0,.ptr (k+1) 0],[]⟩]/\z.g 2=some (.ptr k 0)/\z.g 3=some (.ptr (k+1) 0)/\E+m=aa.length/\(aa.take E).findSome? (ra aa)=none/\(∃c,F X S' (i+1+1)=some (.cells c 3 .own)/\c.get 0=some (.ptr (i+1) 0)/\c.get 1=some (.ptr t 0))/\bo X [i,i+1+1] l (i+1+1+1) S' UU/\hI X S' P i T8/\(∀h,T4 h->P h)/\lv X S' T4 (aa.drop E) (aR.drop E)/\mI X S' aa T8 (λh=>P h/\¬T4 h) (bR (i+1+1+1) UU) (aa.take E) (aR.take E)/\iP X S' i (oW (aa.take E))/\∀h,T4 h->T8 h=none)
   aa.length ⟨0,λ_=>none,P,av,av,av,cW,V4,Y T0,Y t3,Zo,rfl,⟨_,Ud,rfl,rfl⟩,bo.refl _ _ _,VE,λ_ e=>e,by simpa using Uu,by rw[Ya,Ya];rfl,by rw[Ya];exact VH,λ_ _=>rfl⟩ ?_
  clear V4 t0 T0 t3 U6 U7;rintro m z A T3 ⟨E,T8,T4,t5,V3,UW,UX,UY,T0,t3,Vg,U9,VM,G,Uj,UI,Ul,UO,UH,Um⟩;have Vk:=G.le;have UT:∀h,P h->F X A h=F X x h:=λh f=>by have:=aU h f;rw[G.K h Zo Zx,UB h f]
  have UE:F X A k=some (.cells (ch (B.ofList [.bE] 0 .nil) 0 [.ptr (i+1) 0]) 1 .own):=by rw[G.K k Zo Zx];exact V8
  have Uf:F X A (k+1)=zO [.Z 0,.Z 0] 2:=by rw[G.K (k+1) Zo Zx];exact V7
  have Us:∀h,h<k->F X A h=F X j h:=λh f=>by rw[G.K h Zo Zx,US h Zo Zo,Uy h f]
  cases m with
  |zero=>have d:=zL E aa.length;rw[Zy Zo]at U9 UH;rw[Zy Zo,Zy Zo]at UO;have UP:xE aa=none:=U9;rw[UP]at O;simp only[]at O;have VZ:ay X A (.ptr k 0)=some (.ptr (i+1) 0):=(by rw[aZ UE,fF];rfl);refine cd @UX @UW @d @T0 @VZ @UE (Za @t3 @Uf) ⟨?_⟩;generalize N:Go.aC.aI X _ (k+1) _=r;have UZ:F X r k=some (.cells (ch (ch (B.ofList [.bE] 0 .nil) 0 [.ptr (i+1) 0]) 0 [.ptr (i+1) 0]) 1 .own):=(by rw[<-N];exact z2);have U4:F X r (k+1)=some (.cells (ch (B.ofList [.Z 0,.Z 0] 0 .nil) 0 [.Z 0,.Z 0]) 2 .own):=(by rw[<-N,aJ Zo];rfl);have z3:∀h,h≠k->h≠k+1->F X r h=F X A h:=λh C T1=>(by rw[<-N];exact zQ);clear N;have UC:∀h,P h->F X r h=F X A h:=λh f=>(by have:=aU h f;exact z3 h Zo Zo);have Ve:ay X r (.ptr (i+1) 0)=some (.map i):=(by rw[bv,z3 _ Zo Zo,G.K (i+1) Zo Zs, <-bv,aZ Ug];rfl);refine aaZ (v:=.ptr (i+1) 0) (w:=.agg [.Z 0,.Z 0]) TY.tobW UY (Y T0) (Y t3) (by rw[aZ UZ,fF];rfl) (by rw[jw,aZ U4,aZ U4,fF,fF];rfl) ⟨?_,Zo,λh f=>by rw[z3 h Zo Zo];exact Us h f⟩;unfold r3;rw[Zu (by rw[O])];exact⟨_,rfl,i+1,i,T8,rfl,⟨Zo,Zo⟩,⟨Zo,Zo⟩,Ve,Uj.K (z3 _ Zo Zo) UC,⟨t,UV,V1,aR,rfl,T5,by rw[bv,UC t T5,UT t T5, <-bv];exact a0,T7.K (λh f=>by rw[UC h f,UT h f]),UO.K (λh f=>UC h f.1) (λh f=>z3 h (zK f.1) (zK f.1)) (λ_ _=>rfl) (λh f=>f.1) (λh f=>⟨zK f.1,f.2⟩)⟩,UH.K (z3 _ Zo Zo)⟩|succ m=>
   have d:=zM E aa.length;have V5:=zP E;obtain⟨g,U1⟩:=zN aa E;have Un:=Zl U1;have al:aa.drop E=g::aa.drop (E+1):=(by obtain⟨UQ,f⟩:=Ze.1 U1;rw[Zz UQ,f]);rw[al]at Ul;obtain⟨row,V2,aK,UA,UJ,UM,VL⟩:=Ul;have UN:aR[E]? =some row:=by
    have:(aR.drop E)[0]? =some row:=by rw[UA];rfl
    simpa using this
   have VW:V2=aR.drop (E+1):=(by obtain⟨UQ,f⟩:=Ze.1 UN;rw[Zz UQ]at UA;simp only[zy]at UA;exact UA.2.symm);subst VW;have UK:∀h,aK h->P h:=λh f=>UI h (UJ h f);have VP:=T7.c0 E (by rw[Uv.1];omega);have VX:=(T7.K UT).row Zd UN;have dF:=UM.ei;have VU:=UM;have Uw:aa.take (E+1)=aa.take E++[g]:=(by rw[ZE,U1];rfl);have VY:aR.take (E+1)=aR.take E++[row]:=(by rw[ZE,UN];rfl);obtain⟨bK,bM,Vd,Vc,bb,bn,bH,Vf,V2,rfl,_⟩:=UM;refine eC @UX @UW @V3 @d @VP @VX ⟨?_⟩;refine dh (eR (q:=6) (b:=T3) (J:=0) (n:=6) (c:=B.ofList [.str [],.Z 0,.au,.au,.au,.au] 0 .nil) (aJ Zo) Zo rfl Zd Zd dF) ?_;generalize N:Go.aC.aI X _ T3 _=r;have V6:F X r T3=zO [.str g.name,.Z g.at_,bK,bM,Vd,Vc] 6:=(by rw[<-N,aJ Zo];rfl);have s:∀h,h<T3->F X r h=F X A h:=λh f=>(by rw[<-N];exact zQ);clear N;have VB:r5 X r (i+1+1+1) P (i+1+1) (i+1) i (.ptr t 0) aa:=VA.K (λh C T1 UF=>by rw[s h Zo];exact G.K h C (by simp;exact⟨T1,UF⟩)) (by rw[s _ Zo];exact VM);have VF:hI X r P i T8:=Uj.K (s _ Zo) (λh f=>by have:=aU h f;exact s h Zo);have VC:bo X [i,i+1+1] l (i+1+1+1) r (T3+1):=⟨Zo,λh C T1=>by rw[s h Zo];exact G.K h C T1⟩;refine bA @t5 (aZ V6) ⟨?_⟩;refine(Tq (k:=T3+1) (aM:=P) (P:=P) (aK:=aK) TY.tobW cB Uh (λg U8=>zK (Up g U8).vars) (λ_ e=>e) UK Zo VB VF (UH.K (s _ Zo)) (λh f=>Um h (UJ h f)) (VU.K (aK:=aK) (λh f=>by have:=aU h (UK h f);exact s h Zo) (λ_ e=>e)) (λV VV=>((Ux g Un).eqs V VV).right) (by rw[v7];have:=(Up g Un).vars;simp only[jC];omega)).mono ?_ ?_
   ·rintro M UD Vb ⟨rfl,VN,Va,VG,Uq,Uk,L,VI⟩;have VR:=L.le;have V0:∀h,h<T3->h≠i->h≠i+1+1->F X UD h=F X A h:=λh C T1 UF=>(by rw[L.K h Zo (by simp;exact⟨T1,UF⟩),s h C]);have Uz:∀h,P h->F X UD h=F X A h:=λh f=>(by have:=aU h f;exact V0 h Zo Zo Zo);refine bA @UX @V5 ⟨?_⟩;refine⟨m,Zo,E+1,Va,λh=>T4 h/\¬aK h,Y t5,Y V3,Y UW,av,UY,Y T0,Y t3,Zo,by rw[uj U1 U9];exact Uk.1,VN,VC.trans (L.down Zo (λb T=> .inl T)),VG,λh f=>UI h f.1,VL.K (λh f=>Uz h (UI h f.1)) (λ_ e=>e), ?_,by rw[Uw,OP];exact VI,λh f=>(Uq h f.2).trans (Um h f.1)⟩;rw[Uw,VY];exact mI.snoc (Uk.K (λ_ _=>rfl) (λ_ _=>rfl) (λ_ _=>rfl) (λh f=>⟨UK h f,λe=>e.2 f⟩) (λh f=>⟨zK f.1,f.2⟩)) (UO.K (λh f=>Uz h f.1) (λh f=>V0 h f.2 (zK f.1) (zK f.1)) (λh f=>Uq h (λe=>f.2 (UJ h e))) (λh f=>⟨f.1,λe=>f.2 e.1⟩) (λh f=>⟨f.1,zK f.2⟩))
   ·rintro M UD Vb ⟨a,VK,rfl,L⟩;have VR:=L.le;have UP:xE aa=some a:=wj U1 U9 VK;rw[UP]at O;simp only[]at O;refine ρ (bS:=ch (B.ofList [.bE] 0 .nil) 0 [.ptr (i+1) 0]) (bU:=B.ofList [.Z 0,.Z 0] 0 .nil) TY.tobW UY (by have UL:gH 2 [31,32,33]=false:=rfl;simp[l8,ol,T0,UL]) (by have UL:gH 3 [31,32,33]=false:=rfl;simp[l8,ol,t3,UL]) VT Zo Zo Zo Zo ?_ ?_ (λS' UU Vi VQ=>⟨?_,Zo,λh f=> ?_⟩)
    ·rw[L.K k Zo Zx,s k Zo];exact UE
    ·rw[L.K (k+1) Zo Zx,s (k+1) Zo];exact Uf
    ·unfold r3;rw[O,Zi (show ¬(26:Int)=0 by decide)]
    ·rw[VQ h Zo Zo Zo,L.K h Zo Zx,s h Zo];exact Us h f
 ·have O:=U2 U0;clear U2 U3;have d:decide (cc≠0)=true:=by simp[U0]
  refine bA @d @U6 ⟨?_⟩;refine ed (by simp[y.same,iF,jb]) ?_;refine bh @U7 ⟨?_⟩;generalize T2:Go.aC.aI X _ (k+1) _=x;have UZ:F X x k=some (.cells (ch (B.ofList [.bE] 0 .nil) 0 [.bE]) 1 .own):=by rw[<-T2];exact z2
  have U4:F X x (k+1)=some (.cells (ch (B.ofList [.Z 0,.Z 0] 0 .nil) 0 [.Z cc,.Z Ua]) 2 .own):=by rw[<-T2,aJ Zo];rfl
  have z3:∀h,h<k->F X x h=F X j h:=λh C=>by rw[<-T2];simp(disch:=omega) only[ag];exact Ui.K h C
  clear T2;refine aaY (v:=.bE) (w:=.agg [.Z cc,.Z Ua]) rfl (cW) (cW) (by rw[aZ UZ,fF];rfl) (by rw[jw,aZ U4,aZ U4,fF,fF];rfl) ⟨?_,Zo,z3⟩;unfold r3;rw[O,Zi U0]
variable{aK:Nat->Prop}
def lY.len{v:y}{a:List (List Int)}(e:lY X j P v a):c2 v=some (.Z a.length):=by obtain⟨_,aF,I,b,_⟩:=e;have:=I.len;rw[Zj,b]at this;exact this
def κ(i:bW X){v:y}{a:List (List Nat)}(A:(o X).aD<=k)(aU:∀h,P h->h<k)(e:lY X j P v (a.map cM))(t:a.length<=100000)(p:∀r∈a,r.Nodup/\∀q∈r,q<a.length):
 az X 33 [v] j k (λM S' W=>(∃out,iR a out/\((out.length<a.length/\M=.tuple [.au,.Z 35])\/(out.length=a.length/\∃bM,M=.tuple [bM,.Z 0]/\nA X S' (bR k W) bM (cM out))))/\aT X j k S' W) zW:=by
 refine z6 i (LH ..) ?_;unfold Dm;have m:=e.len;rw[Zj]at m;refine(GN i A aU e (λr I aw G=> ?_)).Zm ?_
 ·obtain⟨L,s,rfl⟩:=ZB.1 I;obtain⟨q,x,rfl⟩:=ZB.1 G;have:=(p L s).2 q x;rw[Zj];exact⟨zA q,by show(q:Int)<_;omega⟩
 rintro M am ak ⟨rfl,c⟩;have O:=c.le;refine br ⟨?_⟩;refine(Iq (k:=ak) i Zo (λh b=>zK (aU h b)) (e.K (S':=am) (λh b=>c.K h (aU h b)) (λ_ e=>e)) t p).Zm ?_;rintro N ah ar ⟨out,f,n,g⟩;have T0:=g.le;have T1:=oa _ _ f.once f.he;obtain⟨ba,C⟩:=id n;have l:=C.len;rw[show(d4 (cM out)).length=out.length by simp[d4,cM]]at l;by_cases w:out.length<a.length
 ·have d:=zM out.length a.length;refine cb @l @m @d ⟨?_⟩;exact⟨⟨out,f,.inl ⟨w,rfl⟩⟩,c.trans g⟩
 ·have d:=zL out.length a.length;refine cb @l @m @d ⟨?_⟩;exact⟨⟨out,f,.inr ⟨Zo,N,rfl,n.K (λ_ _=>rfl) (λh b=>⟨zK b.1,b.2⟩)⟩⟩,c.trans g⟩
def gS(g:GE)(out:List Nat):List ax:=out.map λq=>(dd g).getD q []
set_option maxRecDepth 100000 in
def μ(c:bW X){g:GE}{row:List y}(UW:(o X).aD<=k)(aU:∀h,P h->h<k)(G:ir X j P g row)(UV:(c7 g).length<=100000)(U2:dd g≠[])(UT:∀V∈g.eqs,m2 V.right=true/\(fA [] V.right).length<=200000):
 az X 17 [.agg row] j k (λM S' W=>(∃out,iR (fW g) out/\((out.length<(fW g).length/\M=.tuple [.au,.zT])\/(out.length=(fW g).length/\∃bM b,M=.tuple [bM,.zV]/\ca X S' (bR k W) b bM 1 (cQ (gS g out)))))/\aT X j k S' W) zW:=by
 refine z6 c (Lc ..) ?_;unfold C2;obtain⟨bK,bM,T0,T1,bb,bn,bH,Uj,Um,rfl,Up,Uq,Ur,Us,Uo⟩:=id G;have V0:=wV g;refine l1 ?_;generalize A:Go.aC.aI X j k _=am;have UN:F X am k=zO [.str g.name,.Z g.at_,bK,bM,T0,T1] 6:=by rw[<-A,aJ UW];rfl
 have T6:aT X j k am (k+1):=by rw[<-A];exact b8
 clear A;have bG:b4 X am 6 (.ptr k 0)=some (.agg [.str g.name,.Z g.at_,bK,bM,T0,T1]):=by rw[lJ];simp only[aZ UN];rfl
 refine bh @bG ⟨?_⟩;refine(G6 (k:=k+1) c (P:=P) Zo (λh a=>zK (aU h a)) (G.K (S':=am) (λh a=>T6.K h (aU h a)) (λ_ e=>e)) UV U2 UT).Zm ?_;rintro M ah ar ⟨U1,T8⟩;have Uu:=T8.le;rw[G5]at U1;refine(κ (k:=ar) c (P:=bR (k+1) ar) Zo (λh a=>a.2) U1 (by rw[lb];omega) (G4 g)).Zm ?_;rintro V3 T4 UA ⟨⟨out,i,Ua⟩,T9⟩;have Uv:=T9.le;have T7:=T8.trans T9;have t:=T6.trans T7;rcases Ua with ⟨UU,rfl⟩|⟨US,Uf,rfl,⟨Ul,dF⟩⟩
 ·have d:decide ((35:Int)≠0)=true:=rfl;refine bh @d ⟨?_⟩;exact⟨⟨out,i,.inl ⟨UU,rfl⟩⟩,t⟩
 have d:decide ((0:Int)≠0)=false:=rfl;have Ud:b4 X T4 6 (.ptr k 0)=some (.agg [.str g.name,.Z g.at_,bK,bM,T0,T1]):=by rw[i2,T7.K k Zo, <-i2];exact bG
 refine bA @d @Ud ⟨?_⟩;refine(s5 (k:=UA) c (P:=P) Zo (λh a=>zK (aU h a)) (G.K (S':=T4) (λh a=>t.K h (aU h a)) (λ_ e=>e)) Zo).Zm ?_;rintro M Uh UB ⟨bw,V2,aB,b,rfl,V1,Uy,a0,Un,aL,UZ,v⟩;have Uw:=v.le;refine br ⟨?_⟩;refine(uS (k:=UB) c (cf:=dd g) (P:=bR UA UB) Zo aL UZ (λh a=>a.2) U2).Zm ?_;rintro Ug T5 O ⟨⟨Uk,Ub⟩,x⟩;have Ux:=x.le;have UO:=(t.trans v).trans x;have U5:=dF.K (S':=T5) (λh a=>by have:=a.2;rw[x.K h Zo,v.K h a.2]);have U3:(d4 (cM out)).length=out.length:=by simp[d4,cM]
 have U0:=U5.len;rw[U3]at U0;have UX:=oa _ _ i.once i.he;rw[lb]at UX;refine bh @U0 ⟨?_⟩;refine cG (λm z S' U9=>∃(E:Nat) (p:y) (aQ:List Nat),z.g 6=some Ug/\z.g 7=some p/\z.g 21=some Uf/\z.g 22=some (.Z out.length)/\z.g 23=some (.Z E)/\E+m=out.length/\O<=U9/\en X S' p 1 ((gS g (out.take E)).map .str) aQ/\(∀h∈aQ,O<=h/\h<U9)/\∀h,h<O->F X S' h=F X T5 h)
  out.length ⟨0,.au,[],av,av,av,av,cW,Zo,Zg _,.inl ⟨rfl,rfl,rfl⟩,Zs,λ_ _=>rfl⟩ ?_
 rintro m z n l ⟨E,p,aQ,UD,UE,UC,T2,T3,Ut,Uz,N,f,r⟩;cases m with
 |zero=>have d:=zL E out.length;rw[Zy Zo]at N;refine c9 @T3 @T2 @d @UE ⟨?_⟩;obtain⟨UK,TY⟩:=cT.kH (.inl N) (P:=bR k l) (by simp[gS];omega) (λh a=>by have:=f h a;exact⟨Zo,this.2⟩);rw[Z2]at TY;exact⟨⟨out,i,.inr ⟨US,p,UK,rfl,TY⟩⟩,Zo,λh a=>by rw[r h Zo];exact UO.K h a⟩
 |succ m=>
  have d:=zM E out.length;have UL:=zP E;obtain⟨q,L⟩:∃w,out[E]? =some w:=⟨_,Zb Zo⟩;have TZ:=i.he q (Zl L);rw[lb]at TZ;obtain⟨w,U7⟩:∃w,(dd g)[q]? =some w:=⟨_,Zb TZ⟩;have UY:(d4 (cM out))[E]? =some [.Z (q:Int)]:=by rw[d4,cM,Z2,Zn,L];rfl
  have U6:=U5.K (S':=n) (λh a=>r h (zK a.2));have U4:=Ub.K (S':=n) (λh a=>r h a.2);have UF:=U6.c0 E (by rw[U3];omega);have UH:=U6.cell E _ 0 _ UY rfl;have UG:=U4.c0 q (by simp[cQ];omega);have UI:=U4.cell q [.str w] 0 (.str w) (by unfold cQ;rw[Zn,U7];rfl) rfl;rw[ZF]at UF UG;rw[ZF,ZL]at UH UI;refine cd @T3 @T2 @UC @UE @UD @d (Za @UF (Za @UH (Za @UG @UI))) ⟨?_⟩;generalize C:Go.aC.aI X n l _=s;have UM:F X s l=zO [.str w] 1:=by rw[<-C,aJ Zo]
  have U8:∀h,h<l->F X s h=F X n h:=λh a=>by rw[<-C,ag Zo Zo]
  clear C;obtain⟨Ue,Ui,UJ,UP,Uc,UQ,UR⟩:=cT.append (k:=l+1) (.inl (N.K (S':=s) (λh a=>U8 h (f h a).2))) Zd (g6 UM (fS _) rfl _) rfl Zd rfl (by simp[gS];omega) Zo (λh a=>zK (f h a));refine d7 UP ?_;refine bA @T3 @UL ⟨?_⟩;refine⟨m,Zo,E+1,Ue,UJ,Y UD,av,Y UC,Y T2,av,Zo,Zo, ?_,λh a=> ?_,λh a=> ?_⟩
  ·have:(gS g (out.take (E+1))).map y.str=(gS g (out.take E)).map y.str++[.str w]:=by unfold gS;rw[ZE,L,ZR,ZR];simp[Yo,U7]
   rw[this];exact Uc
  ·rcases UQ h a with rfl|e
   ·omega
   ·have:=f h e;omega
  ·rw[UR h Zo (λe=>zK (f h e)),U8 h Zo];exact r h a
mutual
def fJ:aX->List ax
 | .mk q _ nm _ _ _ args=>if q=5 then[]else(if j2 q=true then[nm]else[])++kF (decide (q=21)) args
def kF:Bool->List aX->List ax
 |_,[]=>[]|f,a::l=>fJ a++(if f=true then[]else kF f l)
end
def lN(f:Bool)(args:List aX)(E:Nat):List ax:=(if f=true then args.take (min 1 E)else args.take E).flatMap fJ
def Hl:∀(l:List aX) (f:Bool),kF f l=lN f l l.length
 |[],f=>by cases f<;>rfl|a::l,f=>by cases f with|true=>rw[kF];simp[lN,Nat.min_eq_left]|false=>rw[kF,Hl l false];simp[lN]
def TW{f:Bool}{args:List aX}{E:Nat}{a:aX}(e:args[E]? =some a):lN f args (E+1)=lN f args E++(if f=true/\E≠0 then[]else fJ a):=by
 unfold lN;cases f with
 |true=>
  by_cases b:E=0
  ·subst b;cases args with|nil=>cases e|cons x l=>simp at e;subst e;simp
  ·have c:min 1 (E+1)=1:=Zo;have d:min 1 E=1:=Zo;simp[c,d,b]
 |false=>simp[ZE,e]
def FN{α cz:Type}(f:α->List cz)(l:List α)(E:Nat):((l.take E).flatMap f).length<=(l.flatMap f).length:=by
 conv=>rhs;rw[<-zm E l,List.flatMap_append,ZG]
 omega
def TV(f:Bool)(args:List aX)(E:Nat)(a:E<=args.length):(lN f args E).length<=(lN f args args.length).length:=by unfold lN;cases f with|true=>simp only[ZK];have:=FN fJ (args.take (min 1 args.length)) (min 1 E);rw[List.take_take,show min (min 1 E) (min 1 args.length)=min 1 E by omega]at this;exact this|false=>have:=FN fJ args E;simpa using this
mutual
def w7:∀u:aX,(fJ u).length<=eD u
 | .mk q a nm no ty n args=>by
   rw[fJ,eD];split
   ·simp
   ·have:=Hp args (decide (q=21));rw[ZG];have c:(if j2 q=true then[nm]else[]).length<=1:=(by split<;>simp);omega
def Hp:∀(l:List aX) (f:Bool),(kF f l).length<=d1 l
 |[],f=>by rw[kF];simp|a::l,f=>by
  rw[kF,d1,ZG];have b:=w7 a;split
  ·simp;omega
  ·have:=Hp l f;omega
end
def NT(l:List ax)(x w:ax):w∈lw l x↔w∈l\/w=x:=by
 unfold lw;split
 ·rename_i e;constructor
  ·exact .inl
  ·rintro(a|rfl)
   ·exact a
   ·exact e
 ·simp
mutual
def AP:∀(u:aX) (l:List ax) (w:ax),w∈fA l u↔w∈l\/w∈fJ u
 | .mk q a nm no ty n args,l,w=>by
   rw[fA,fJ];split
   ·simp
   ·rw[GC,Zv];split
    ·rw[NT,ZC,or_assoc]
    ·simp
def GC:∀(args:List aX) (f:Bool) (l:List ax) (w:ax),w∈la l f args↔w∈l\/w∈kF f args
 |[],f,l,w=>by rw[la,kF];simp|a::args,f,l,w=>by
  rw[la,kF,Zv];split
  ·rw[AP];simp
  ·rw[GC,AP,or_assoc]
end
def Hk:∀l:List ax,ei (l.map y.str)=true:=λl=>by induction l with|nil=>rfl|cons a l U=>exact U
set_option maxRecDepth 100000 in
def Hm(US:bW X):∀(N:Nat) (u:aX),q0 u<N->∀{P:Nat->Prop}{v:y}{j:B R}{k:Nat},(o X).aD<=k->(∀h,P h->h<k)->bB X j P u v->(fJ u).length<=300000->
 az X 14 [v] j k (λM S' W=>(∃aQ,cT X S' M 1 ((fJ u).map .str) aQ/\∀h∈aQ,k<=h/\h<W)/\aT X j k S' W) zW:=by
 intro N;induction N with|zero=>intro u e;omega|succ N U=>
 intro u UR P v j k Uu aU UD U6;refine z6 US (KG ..) ?_;unfold CB;obtain⟨q,a,nm,no,ty,n,args⟩:=u;unfold bB at UD;obtain⟨i,rfl,TZ,_,b1,_,bU,_,_,_,_,_,aB,bz,aF,ft,x,Up,p⟩:=UD;have p:=b3.lift (aK:=P) (λh b=>b.1) _ _ p;have UJ:=p.len;rw[q0]at UR;have Un:=aU i TZ;by_cases T0:q=5
 ·have T6:decide (q=5)=true:=by simp[T0]
  refine bA @b1 @T6 ⟨?_⟩;exact⟨⟨[],.inl (.inl ⟨rfl,by rw[fJ,Zu T0];rfl,rfl⟩),Zs⟩,Zg _,λ_ _=>rfl⟩
 have T6:decide (q=5)=false:=by simp[T0]
 have UH:fJ (.mk q a nm no ty n args)=(if j2 q=true then[nm]else[])++lN (decide (q=21)) args args.length:=by rw[fJ,Zi T0,Hl]
 rw[UH]at U6 ⊢;clear UH;generalize T1:(if j2 q=true then[nm]else[])=al at U6 ⊢;rw[ZG]at U6;refine mc @b1 @T6 ⟨?_⟩;refine dV ?_;apply mU (P:=λz S' G=>z.g 0=some (.ptr i 0)/\∃c aQ,z.g 3=some c/\cT X S' c 1 (al.map .str) aQ/\(∀h∈aQ,k<=h/\h<G)/\k<=G/\∀h,h<k->F X S' h=F X j h)
 ·intro UK;by_cases T2:j2 q=true
  ·rw[Zu T2]at T1;apply ql
   ·intro bl;have UQ:q=2\/q=6\/q=24:=(by simpa[j2,or_assoc]using T2);by_cases UB:q=2
    ·have g:decide (q=2)=true:=(by simp[UB]);refine c8 @b1 @g @bU ⟨?_⟩;exact bl.out
    ·have g:decide (q=2)=false:=(by simp[UB]);by_cases UC:q=6
     ·have s:decide (q=6)=true:=(by simp[UC]);refine c8 @b1 @g (Za @s @bU) ⟨?_⟩;exact bl.out
     ·have s:decide (q=6)=false:=(by simp[UC]);have T5:decide (q=24)=true:=(by simp;omega);refine c8 @b1 @g (Za @s (Za @T5 @bU)) ⟨?_⟩;exact bl.out
   refine dW _ ?_ (λz j n e=>(UK z j n e).out);intro Uj U4;refine bh @bU ⟨?_⟩;generalize U2:Go.aC.aI X j k _=ah;have UP:F X ah k=zO [.str nm] 1:=(by rw[<-U2,aJ Zo]);have bl:∀h,h<k->F X ah h=F X j h:=λh b=>(by rw[<-U2,ag Zo Zo]);clear U2;refine tP (aQ:=[]) (.inl (.inl ⟨rfl,rfl,rfl⟩)) (g6 (aO:=1) (q:=1) UP (fS _) rfl _) rfl rfl Zs Zo Zs ?_;intro U7 U8 UL T3 Ub Ue UV UZ;refine U4 _ _ _ ⟨av,U7,T3,av,by rw[<-T1];exact Ue,λh b=> ?_,Zo,λh b=>by rw[UZ h Zo Zs,bl h b]⟩;rcases UV h b with e|e
   ·omega
   ·cases e
  ·rw[Zi T2]at T1;have UQ:¬(q=2\/q=6\/q=24):=(by simpa[j2,or_assoc]using T2);have g:decide (q=2)=false:=(by simp;omega);have s:decide (q=6)=false:=(by simp;omega);have T5:decide (q=24)=false:=(by simp;omega);refine c8 @b1 @g (Za @s @T5) ⟨?_⟩;refine dW _ ?_ (λz j n e=>(UK z j n e).out);intro Uj U4;refine br ⟨?_⟩;exact U4 _ _ _ ⟨av,.au,[],av,.inl (.inl ⟨rfl,by rw[<-T1];rfl,rfl⟩),Zs,Zo,λh b=>rfl⟩
 rintro UM am ak ⟨t0,UN,UO,t3,Ud,UU,Ur,UF⟩;have U0:∀h,P h->F X am h=F X j h:=λh b=>UF h (aU h b);rw[bv, <-U0 i TZ, <-bv]at b1 ft;replace x:=x.K (S':=am) U0;replace p:=b3.K (S':=am) U0 _ _ p;have UG:=x.len;rw[Zj,UJ]at UG;have Uc:=x.many;rw[Zj,UJ]at Uc;refine cb @t0 @ft @UG ⟨?_⟩;refine cG (λm z S' G=>∃(E:Nat) (c:y) (aQ:List Nat),z.g 0=some (.ptr i 0)/\z.g 3=some c/\z.g 40=some aB/\z.g 41=some (.Z args.length)/\z.g 42=some (.Z E)/\E+m=args.length/\ak<=G/\cT X S' c 1 ((al++lN (decide (q=21)) args E).map .str) aQ/\(∀h∈aQ,k<=h/\h<G)/\∀h,h<k->F X S' h=F X am h)
  args.length ⟨0,UN,UO,Y t0,Y t3,av,av,cW,Zo,Zg _,by simpa[lN]using Ud,UU,λ_ _=>rfl⟩ ?_
 clear t0 t3 UM;rintro m z ah ar ⟨E,c,aQ,t0,t3,L,r,O,Uq,Us,gp,l,dx⟩;cases m with
 |zero=>have d:=zL E args.length;rw[show E=args.length by omega]at gp;refine c9 @O @r @d @t3 ⟨?_⟩;exact⟨⟨aQ,gp,l⟩,Zo,λh b=>by rw[dx h b,UF h b]⟩|succ m=>
  have d:=zM E args.length;have UA:=zP E;obtain⟨U9,U3⟩:∃a,args[E]? =some a:=⟨_,Zb Zo⟩;have UT:=Zl U3;obtain⟨w,Uh,Ui⟩:=p.get E U9 U3;have U1:∀h,P h->F X ah h=F X am h:=λh b=>dx h (aU h b);obtain⟨T8,T9,Uo⟩:=(x.K (S':=ah) U1).one Uh;have T4:ay X ah (.ptr i 0)=some (.Z q):=zV (U1 i TZ) b1;have C:=TW (f:=decide (q=21)) U3;have UE:=TV (decide (q=21)) args (E+1) Zo;rw[C,ZG]at UE;by_cases A:q=21/\E≠0
  ·have t:decide (q≠21)=false:=(by simp[A.1]);have T7:decide ((E:Int)=0)=false:=(by simp;omega);rw[Zu ⟨by simp[A.1],A.2⟩,ZW]at C;refine cd @O @r @L @t0 @d @T8 (Za @T9 (Za @T4 (Za @t (Za @T7 @UA)))) ⟨?_⟩;exact⟨m,Zo,E+1,c,aQ,Y t0,Y t3,Y L,Y r,av,Zo,Zo,by rw[C];exact gp,l,dx⟩
  ·rw[Zi (λe=>A ⟨by simpa using e.1,e.2⟩)]at C UE;apply ql
   ·intro bl;by_cases U5:q=21
    ·have t:decide (q≠21)=false:=(by simp[U5]);have UY:E=0:=ZV λe=>A ⟨U5,e⟩;have T7:decide ((E:Int)=0)=true:=(by simp[UY]);refine cd @O @r @L @t0 @t3 @d (Za @T8 (Za @T9 (Za @T4 (Za @t @T7)))) ⟨?_⟩;exact bl.out
    ·have t:decide (q≠21)=true:=(by simp[U5]);refine cd @O @r @L @t0 @t3 @d (Za @T8 (Za @T9 (Za @T4 @t))) ⟨?_⟩;exact bl.out
   have Uv:=AX UT;refine(U U9 Zo Zo (λh b=>zK (aU h b)) (bB.K U1 _ _ Ui) Zo).Zm ?_;rintro M U8 UL ⟨⟨Ul,Ug,UX⟩,TY⟩;have Ub:=TY.le;obtain⟨Um,dF⟩:=Ug.kH (P:=λh=>ar<=h/\h<UL) (by rw[Zj];omega) UX;have UI:=u3 dF Zd;rw[sz,Zj,Zj]at UI;refine tP (gp.K (S':=U8) (λh b=>TY.K h (l h b).2)) UI Zs (Hk _) (by simp only[Zj,ZG];omega) Zo (λh b=>zK (l h b)) ?_;intro U7 Uk Uw T3 Ut Uf UW Ua;refine bA @O @UA ⟨?_⟩;refine⟨m,Zo,E+1,U7,T3,Y t0,av,Y L,Y r,av,Zo,Zo,by rw[C, <-List.append_assoc,ZR];exact Uf,λh b=> ?_,λh b=> ?_⟩
   ·rcases UW h b with e|e
    ·omega
    ·have:=l h e;omega
   ·rw[Ua h Zo (λe=>zK (l h e)),TY.K h Zo];exact dx h b
def TA:∀(l:List (Int×cR)) (s:(ax->Option ct)×List ax) (w:ax) (v:ct),(l.foldl eQ s).1 w=some v->s.1 w=some v\/∃x∈l,v.kind=x.1/\v.d=x.2/\x.2.name=w:=by
 intro l;induction l with
 |nil=>intro s w v e;exact .inl e|cons x l U=>
  intro s w v e;rw[Z8]at e;rcases U _ w v e with e|⟨h,a,u⟩
  ·unfold eQ at e;split at e
   ·exact .inl e
   ·simp only at e;split at e
    ·rename_i u;cases e;exact .inr ⟨x,Zp ..,rfl,rfl,u.symm⟩
    ·exact .inl e
  ·exact .inr ⟨h,Zw _ a,u⟩
def TB:∀(l:List (Int×cR)) (s:(ax->Option ct)×List ax),(∀w,(s.1 w).isSome=true↔w∈s.2)->∀w,((l.foldl eQ s).1 w).isSome=true↔w∈(l.foldl eQ s).2:=by
 intro l;induction l with
 |nil=>intro s e;exact e|cons x l U=>
  intro s e;rw[Z8];refine U _ λw=> ?_;unfold eQ;split
  ·exact e w
  ·simp only[Zv,ZC];split
   ·rename_i u;simp[u]
   ·rename_i u;rw[e];simp[u]
def acq(g:GE)(w:ax):(dk g w).isSome=((g4 g).1 w).isSome:=by have:=congrArg Option.isSome (xB g w);simpa using this
def BH(g:GE)(w:ax):(dk g w).isSome=true↔w∈dd g:=by rw[acq];exact TB (c7 g) (λ_=>none,[]) (λw=>Zs) w
def Ik{g:GE}{w:ax}{v:ct}(e:dk g w=some v):∃x∈c7 g,v.kind=x.1/\v.d=x.2/\x.2.name=w:=by
 have a:=xB g w;rw[e]at a;cases b:(g4 g).1 w with
 |none=>rw[b]at a;cases a|some v0=>
  rw[b]at a;simp only[ZZ,Zh,nr,YZ]at a;rcases TA (c7 g) (λ_=>none,[]) w v0 b with e|⟨x,i,c,d,f⟩
  ·cases e
  ·exact⟨x,i,a.1.trans c,a.2.trans d,f⟩
mutual
def Hn:∀(u:aX) (w:ax),w∈fJ u->∃x∈rq u,lM x=true/\x.name=w
 | .mk q a nm no ty n args,w,e=>by
   rw[fJ]at e;rw[rq];split at e
   ·cases e
   ·rcases Zv.1 e with e|e
    ·split at e
     ·rename_i d;rw[ZC]at e;exact⟨_,Zp ..,d,e.symm⟩
     ·cases e
    ·obtain⟨x,c,b⟩:=Ho args _ w e;exact⟨x,Zw _ c,b⟩
def Ho:∀(l:List aX) (f:Bool) (w:ax),w∈kF f l->∃x∈rr l,lM x=true/\x.name=w
 |[],f,w,e=>by rw[kF]at e;cases e|a::l,f,w,e=>by
  rw[kF]at e;rw[rr];rcases Zv.1 e with e|e
  ·obtain⟨x,c,b⟩:=Hn a w e;exact⟨x,Zv.2 (.inl c),b⟩
  ·split at e
   ·cases e
   ·obtain⟨x,c,b⟩:=Ho l f w e;exact⟨x,Zv.2 (.inr c),b⟩
end
def xG{aa:List GE}{q:Nat}{g:GE}(e:(hh aa q g).1=0){nm:ax}{v:ct}(c:dk g nm=some v):
 (v.d.on≠[]->v.d.on∈dd g)/\(v.kind≠1->∃(i:Nat) (V:cS),v.eq=i/\g.eqs[i]? =some V/\∀w∈fJ V.right,w∈dd g)/\(v.kind=1->v.eq= -1):=by
 obtain⟨l,O⟩:=To.1 e;obtain⟨x,d,s,t,A⟩:=Ik c;refine⟨λr=> ?_,λf=> ?_,λf=> ?_⟩
 ·rw[t]at r ⊢;exact(BH g _).1 (l.on x d r)
 ·have G:=O x d (by rw[<-s];exact f);rw[A]at G;rcases xC c with ⟨_,a⟩|⟨i,V,b,a,n⟩
  ·exfalso
   have:fk nm (qX g)=0:=by
    unfold fk;rw[YJ.2 ?_]
    ·rfl
    ·rw[List.filter_eq_nil_iff];intro h m;obtain⟨V,P,m⟩:=List.mem_flatMap.1 m;simp only[Zf];exact λu=>a V P (u▸m)
   omega
  ·refine⟨i,V,b,a,λw X=> ?_⟩;obtain⟨x,d,L,N⟩:=Hn _ _ X;rw[<-N];exact(BH g _).1 ((l.right V (Zl a) x d).1 L)
 ·rcases xC c with ⟨b,_⟩|⟨i,V,b,a,n⟩
  ·exact b
  ·obtain⟨T0,p,C,_⟩:=l.left nm (List.mem_flatMap.2 ⟨V,Zl a,n⟩);rw[c]at p;cases p;exact absurd f C
def hQ(g:GE)(nm:ax):List ax:=match dk g nm with
 |none=>[]|some v=>(if v.d.on=[]then[]else[v.d.on])++(if v.kind=1 then[]else match g.eqs[v.eq.toNat]? with|some V=>fJ V.right|none=>[])
def Gs{aa:List GE}{q:Nat}{g:GE}(e:(hh aa q g).1=0){nm w:ax}(a:w∈hQ g nm):w∈dd g:=by
 unfold hQ at a;cases b:dk g nm with
 |none=>rw[b]at a;cases a|some v=>
  rw[b]at a;obtain⟨l,m,r⟩:=xG e b;rcases Zv.1 a with a|a
  ·split at a
   ·cases a
   ·rename_i p;rw[ZC]at a;rw[a];exact l p
  ·split at a
   ·cases a
   ·rename_i n;obtain⟨i,V,c,d,f⟩:=m n;rw[c,zp,d]at a;exact f w a
def Te{a1:eG}{g:GE}(b:hZ a1 g):([]:ax)∉dd g:=by
 intro e;obtain⟨v,f⟩:=YE.1 ((BH g _).2 e);obtain⟨x,a,i,l,c⟩:=Ik f
 have:a1.N x.2.name:=by
  rcases Zv.1 (show x∈_++(_++_) from a)with a|a
  ·obtain⟨d,al,rfl⟩:=ZB.1 a;exact(b.cv d al).name
  ·rcases Zv.1 a with a|a
   ·obtain⟨d,al,rfl⟩:=ZB.1 a;exact(b.out d al).name
   ·obtain⟨d,al,rfl⟩:=ZB.1 a;exact(b.loc d al).name
 exact a1.aD _ this c
def Gt{a1:eG}{aa:List GE}{q:Nat}{g:GE}(e:(hh aa q g).1=0)(m:hZ a1 g)(nm:ax){w:ax}(n:w∈dd g):w∈hi g nm↔w∈hQ g nm:=by
 have f:w≠[]:=λu=>Te m (u▸n);unfold hi hQ;cases l:dk g nm with
 |none=>simp|some v=>
  obtain⟨r,d,s⟩:=xG e l;simp only[Zq,Zv];refine or_congr ?_ ?_
  ·split
   ·rename_i u;rw[u];simp[f]
   ·simp
  ·by_cases a:v.kind=1
   ·simp[a]
   ·obtain⟨i,V,b,c,p⟩:=d a;rw[Zu ⟨Zo,a⟩,Zi a,b,zp,c];simp only;rw[AP];simp
def A5{a1:eG}{aa:List GE}{E:Nat}{g:GE}(e:(hh aa E g).1=0)(d:hZ a1 g){a q:Nat}{nm:ax}(f:(dd g)[a]? =some nm):q∈b5 (fW g) a↔∃w,(dd g)[q]? =some w/\w∈hQ g nm:=by
 rw[G3 f];constructor
 ·rintro⟨w,b,c⟩;exact⟨w,b,(Gt e d nm (Zl b)).1 c⟩
 ·rintro⟨w,b,c⟩;exact⟨w,b,(Gt e d nm (Zl b)).2 c⟩
def lW(b:List (List Nat)):Prop:=∃out,iR b out/\∀a,a<b.length->a∈out
def FW{b:List (List Nat)}{out:List Nat}(e:iR b out)(g:out.length=b.length):lW b:=by
 refine⟨out,e,λa d=>ZV λf=> ?_⟩;have:=oa b.length (a::out) (YG.2 ⟨f,e.once⟩) (λx c=>by
  rcases Zq.1 c with rfl|c
  ·exact d
  ·exact e.he x c)
 simp at this;omega
def Qw{b:List (List Nat)}{out:List Nat}(e:iR b out){a:Nat}(f:a<b.length)(g:a∉out):¬lW b:=λ⟨J,c,d⟩=>g ((c.same e a).1 (d a f))
def FV{a:List (List Nat)}{out:List Nat}(e:iR a out):out.length=a.length↔lW a:=by refine⟨FW e,λ⟨J,b,c⟩=> ?_⟩;have g:=oa _ _ e.once e.he;have d:=Ih (List.range a.length) out List.nodup_range (λx f=>(b.same e x).1 (c x (List.mem_range.1 f)));rw[List.length_range]at d;omega
def Ja(aa:List GE)(c a:Int):Prop:=((ib aa).1≠0/\(c,a)=ib aa)\/((ib aa).1=0/\((c=0/\a=0/\∀g∈aa,lW (fW g))\/(c=29/\∃g∈aa,¬lW (fW g)/\∃q nm v,(dd g)[q]? =some nm/\mK (fW g) q q/\dk g nm=some v/\((∃(i:Nat) (V:cS),v.eq=i/\g.eqs[i]? =some V/\a=V.at_)\/(v.eq<0/\a=v.d.cY)))))
structure B1(g:GE):Prop where
 he:(c7 g).length<=100000
 some:dd g≠[]
 a:∀V∈g.eqs,m2 V.right=true/\(fA [] V.right).length<=200000
set_option maxRecDepth 100000 in
def OA(x:e2 X)(VB:gU X)(VD:kl X)(VG:mG X)(cB:pU X){aa:List GE}{p:y}(VV:(o X).aD<=k)(Ug:iQ X j P aa p)(aU:∀h,P h->(o X).aD<=h/\h<k)(Vg:∀g∈aa,hZ gN g)(V8:aa≠[])(VP:jy aa=none)(VY:∀g∈aa,B1 g):
 az X 7 [p] j k (λM S' W=>(∃c a,M=.agg [.Z c,.Z a]/\Ja aa c a)/\aT X j k S' W) zW:=by
 refine z6 x.tobW (M2 ..) ?_;unfold DY;refine br ⟨?_⟩;generalize UE:Go.aC.aI X j k _=am;have T6:F X am k=zO [.Z 0,.Z 0] 2:=by rw[<-UE,aJ VV];rfl
 have Ua:aT X j k am (k+1):=by rw[<-UE];exact b8
 clear UE;refine(EW (k:=k+1) x VB VD VG cB Zo (Ug.K (S':=am) (aK:=P) (λh f=>Ua.K h (aU h f).2) (λ_ e=>e)) (λh f=>zK (aU h f)) Vg V8 VP).Zm ?_;rintro M ah ar ⟨T3,UA⟩;have Vv:=UA.le;have U9:=Ua.trans UA;rw[<-UA.K k Zo]at T6;unfold r3 at T3;by_cases C:(ib aa).1=0
 ·rw[Zu C]at T3;obtain⟨v,rfl,_⟩:=T3;have VL:=Ug.K (S':=ah) (aK:=P) (λh f=>U9.K h (aU h f).2) (λ_ e=>e);obtain⟨V2,Vk,W5,aR,rfl,VF,a0,N,TZ⟩:=VL;have VX:=TZ.wide;have Ul:=N.len;have VU:=N.many;rw[VX.1]at Ul VU;have W4:=aU V2 VF;have U7:decide ((0:Int)≠0)=false:=rfl;refine bh @U7 ⟨?_⟩;generalize Ue:Go.aC.aI X _ ar _=O;have T4:∀h,h<ar->F X O h=F X ah h:=λh f=>by rw[<-Ue];exact zQ
  clear Ue;have Vh:∀h,h<k->F X O h=F X j h:=λh f=>by rw[T4 h Zo];exact U9.K h f
  rw[<-T4 k Zo]at T6;rw[bv, <-T4 V2 Zo, <-bv]at a0;replace N:=N.K (S':=O) (λh f=>T4 h (zK (aU h f)));replace TZ:=TZ.K (S':=O) (aK:=P) (λh f=>T4 h (zK (aU h f))) (λ_ e=>e);generalize W1:ar+1=UR at*;refine bA @a0 @Ul ⟨?_⟩;refine cG (λm z S' Vj=>∃(E:Nat),z.g 2=some (.ptr k 0)/\z.g 24=some Vk/\z.g 25=some (.Z aa.length)/\z.g 26=some (.Z E)/\E+m=aa.length/\UR<=Vj/\(∀g∈aa.take E,lW (fW g))/\∀h,h<UR->F X S' h=F X O h)
   aa.length ⟨0,av,av,av,cW,Zo,Zg _,Zs,λ_ _=>rfl⟩ ?_
  rintro m z s l ⟨E,U4,V3,UT,UU,Vu,W2,UI,T2⟩;have UX:F X s k=zO [.Z 0,.Z 0] 2:=by rw[T2 k Zo];exact T6
  have Uv:∀h,h<k->F X s h=F X j h:=λh f=>by rw[T2 h Zo];exact Vh h f
  cases m with|zero=>have d:=zL E aa.length;rw[Zy Zo]at UI;refine dE @UU @UT @d @U4 @UX ⟨?_⟩;exact⟨⟨0,0,rfl,.inr ⟨C,.inl ⟨rfl,rfl,UI⟩⟩⟩,Zo,λh f=>by simp(disch:=omega) only[ag];exact Uv h f⟩|succ m=>
  have d:=zM E aa.length;have V7:=zP E;obtain⟨g,UJ⟩:=zN aa E;have UK:=Zl UJ;obtain⟨VJ,Uq,VT⟩:=VY g UK;have W3:=wV g;obtain⟨row,Us,Up⟩:=TZ.get E g UJ;have A:∀h,P h->h<UR:=λh f=>zK (aU h f);have VN:=N.c0 E (Ze.1 Us).1;have Vb:=(N.K (S':=s) (λh f=>T2 h (A h f))).row Zd Us;have dF:=Up.ei;have UL:=Up.K (S':=s) (aK:=P) (λh f=>T2 h (A h f)) (λ_ e=>e);have Ve:aa.take (E+1)=aa.take E++[g]:=by rw[ZE,UJ];rfl
  obtain⟨bK,bM,US,U3,bb,bn,bH,Vm,W7,rfl,Vr,Vs,Vt,VM,VK⟩:=id UL;refine eC @UU @UT @V3 @d @VN @Vb ⟨?_⟩;refine dh (eR (q:=6) (b:=l) (J:=0) (n:=6) (c:=B.ofList [.str [],.Z 0,.au,.au,.au,.au] 0 .nil) (aJ Zo) Zo rfl Zd Zd dF) ?_;generalize UF:Go.aC.aI X _ l _=T0;have UY:F X T0 l=zO [.str g.name,.Z g.at_,bK,bM,US,U3] 6:=by rw[<-UF,aJ Zo];rfl
  have Ux:∀h,h<l->F X T0 h=F X s h:=λh f=>by rw[<-UF];exact zQ
  clear UF;have Uz:b4 X T0 6 (.ptr l 0)=some (.agg [.str g.name,.Z g.at_,bK,bM,US,U3]):=by rw[lJ];simp only[aZ UY];rfl
  refine bh @Uz ⟨?_⟩;refine(G6 (k:=l+1) x.tobW (P:=P) Zo (λh f=>zK (A h f)) (UL.K (S':=T0) (λh f=>Ux h (zK (A h f))) (λ_ e=>e)) VJ Uq VT).Zm ?_;rintro M Vl V1 ⟨Un,Ub⟩;have Vw:=Ub.le;rw[G5]at Un;refine br ⟨?_⟩;refine(aba (k:=V1) x.tobW (P:=bR (l+1) V1) Zo (λh f=>f.2) Un (by rw[lb];omega) (G4 g)).Zm ?_;rintro M T5 U2 ⟨Va,Uc⟩;have Vx:=Uc.le;have UB:aT X T0 (l+1) T5 U2:=Ub.trans Uc;have UO:∀h,h<l->F X T5 h=F X s h:=λh f=>by rw[UB.K h Zo,Ux h f]
  rcases Va with ⟨rfl,out,UN,VS⟩|⟨W6,a,b,J,out,rfl,UN,T9,VW,Ur,Ud,VO,VQ⟩
  ·refine bA @UU @V7 ⟨?_⟩;refine⟨m,Zo,E+1,Y U4,Y V3,Y UT,av,Zo,Zo,λV L=> ?_,λh f=>by rw[UO h Zo];exact T2 h f⟩;rw[Ve]at L;rcases Zv.1 L with L|L
   ·exact UI V L
   ·rw[ZC.1 L];exact FW UN VS
  ·have Uo:=Qw UN T9 VW;rw[lb]at T9;obtain⟨nm,TY⟩:∃w,(dd g)[a]? =some w:=⟨_,Zb T9⟩;have Vi:b4 X T5 6 (.ptr l 0)=some (.agg [.str g.name,.Z g.at_,bK,bM,US,U3]):=(by rw[i2,UB.K l Zo, <-i2];exact Uz);refine bh @Vi ⟨?_⟩;refine(s5 (k:=U2) x.tobW (P:=P) Zo (λh f=>zK (A h f)) (UL.K (S':=T5) (λh f=>UO h (zK (A h f))) (λ_ e=>e)) Zo).Zm ?_;rintro M T1 r ⟨bw,V0,aB,Vn,rfl,UM,Um,V5,VE,V6,VZ,T8⟩;have Vy:=T8.le;have Uk:ay X T1 (.ptr b J)=some (.Z a):=(by rw[T8.df _ _ (zK Ud.2)];exact VQ);refine bA @VO @Uk ⟨?_⟩;generalize UG:Go.aC.aI X T1 (r+12) _=U5;have T7:F X U5 (r+12)=zO [.Z 0,.str [],.Z 0,.zT,.zT,.Z 0,.str [],.Z 0,.zT,.Z 0,.Z 0] 11:=(by rw[<-UG,aJ Zo];rfl);have UQ:∀h,h<r->F X U5 h=F X T1 h:=λh f=>(by rw[<-UG,ag Zo Zo]);clear UG;refine(uS (k:=r+15) x.tobW (cf:=dd g) (P:=bR U2 r) Zo (zV (UQ bw UM.2) V6) (VZ.K (S':=U5) (λh f=>UQ h f.2)) (λh f=>zK f.2) Uq).Zm ?_;rintro M U6 bu ⟨⟨Vo,Ut⟩,UC⟩;have Vz:=UC.le;have Vd:(cQ (dd g)).length=(dd g).length:=(by simp[cQ]);have Ui:=Ut.c0 a (by rw[Vd];exact T9);have Uf:=Ut.cell a [.str nm] 0 (.str nm) (by unfold cQ;rw[Zn,TY];rfl) rfl;rw[ZF]at Ui;rw[ZF,ZL]at Uf;have U1:∀h,h<r->F X U6 h=F X T1 h:=λh f=>(by rw[UC.K h Zo,UQ h f]);have VR:ay X U6 (.ptr b J)=some (.Z a):=zV (U1 b (zK Ud.2)) Uk;rw[<-UC.K (r+12) Zo]at T7;refine cb @Ui @Uf @VR ⟨?_⟩;refine ed (by simp[y.same,jb]) ?_;have VH:iv X U6 (bR U2 r) (.ptr bw 0) (dk g):=⟨bw,V0,rfl,UM,Um,zV (U1 bw UM.2) V5,VE.K (U1 V0 Um.2)⟩;obtain⟨v,U0⟩:=YE.1 (wW (Zl TY));refine(o9 (k:=bu) x.tobW Zo VH (λh f=>zK f.2) nm).Zm ?_;rintro M V4 wX ⟨rfl,UD⟩;have W0:=UD.le;rw[U0];simp only[Yl,Z0];have Vf:hG v=[.Z v.kind,.str v.d.name,.Z v.d.at_,.bool v.d.ty.b,.bool v.d.ty.s,.Z v.d.ty.w,.str v.d.on,.Z v.d.cY,.bool v.d.no,.Z v.eq,.Z v.left]:=rfl;rw[Vf];rw[<-UD.K (r+12) Zo]at T7;refine gt ?_;refine gt ?_;refine dh (eR (q:=11) (b:=r+12) (J:=0) (n:=11) T7 Zo rfl Zd Zd rfl) ?_;generalize UH:Go.aC.aI X V4 (r+12) _=t;have gl:F X t (r+12)=zO [.Z v.kind,.str v.d.name,.Z v.d.at_,.bool v.d.ty.b,.bool v.d.ty.s,.Z v.d.ty.w,.str v.d.on,.Z v.d.cY,.bool v.d.no,.Z v.eq,.Z v.left] 11:=(by rw[<-UH,aJ Zo];rfl);have Uy:∀h,h<r->F X t h=F X T1 h:=λh f=>(by rw[<-UH,ag Zo Zo,UD.K h Zo,U1 h f]);clear UH T7;have UP:∀h,h<l->F X t h=F X s h:=λh f=>(by rw[Uy h Zo,T8.K h Zo];exact UO h f);have UZ:F X t k=zO [.Z 0,.Z 0] 2:=(by rw[UP k Zo];exact UX);have Uw:∀h,h<k->F X t h=F X j h:=λh f=>(by rw[UP h Zo];exact Uv h f);by_cases bS:0<=v.eq
   ·have U8:decide (0<=v.eq)=true:=(by simp[bS]);obtain⟨G,V,UV,UW⟩:∃(G:Nat) (V:cS),v.eq=G/\g.eqs[G]? =some V:=by
     rcases xC U0 with ⟨u,_⟩|⟨i,V,V9,VA,_⟩
     ·omega
     ·exact⟨i,V,V9,VA⟩
    obtain⟨W9,Uu,VC⟩:=VK.get G V UW;obtain⟨WB,WA,Vp,Vq,W8,rfl,_⟩:=VC;have Uh:=VM.K (S':=t) (λh f=>UP h (zK (A h f)));have Uj:=Uh.c0 G (Ze.1 Uu).1;rw[<-UV]at Uj;have Vc:=Uh.cell G _ 2 _ Uu rfl;have VI:ay X t (.ptr l 5)=some U3:=(by rw[bv,Uy l Zo,T8.K l Zo,UB.K l Zo, <-bv,aZ UY];rfl);refine cd (aZ gl) @U8 @VI @Uj @Vc @U4 @UZ ⟨?_⟩;exact⟨⟨29,V.at_,rfl,.inr ⟨C,.inr ⟨rfl,g,UK,Uo,a,nm,v,TY,Ur,U0,.inl ⟨G,V,UV,UW,rfl⟩⟩⟩⟩,Zo,λh f=>by simp(disch:=omega) only[ag];exact Uw h f⟩
   ·have U8:decide (0<=v.eq)=false:=(by simp;omega);refine c9 (aZ gl) @U8 @U4 @UZ ⟨?_⟩;exact⟨⟨29,v.d.cY,rfl,.inr ⟨C,.inr ⟨rfl,g,UK,Uo,a,nm,v,TY,Ur,U0,.inr ⟨Zo,rfl⟩⟩⟩⟩,Zo,λh f=>by simp(disch:=omega) only[ag];exact Uw h f⟩
 ·rw[Zi C]at T3;obtain rfl:=T3;have U7:decide ((ib aa).1≠0)=true:=by simp[C]
  refine bA @U7 @T6 ⟨?_⟩;exact⟨⟨_,_,rfl,.inl ⟨C,rfl⟩⟩,Zo,λh f=>by simp(disch:=omega) only[ag];exact U9.K h f⟩
structure ls(b:List (List Nat))(out:List Nat):Prop where
 once:out.Nodup
 he:∀a∈out,a<b.length
 ahead:∀i a,out[i]? =some a->∀q∈b5 b a,q∈out.take i
def ls.new(a:List (List Nat)):ls a []:=⟨List.nodup_nil,Zs,Zs⟩
def ls.snoc{c:List (List Nat)}{out:List Nat}{a:Nat}(e:ls c out)(f:a<c.length)(m:a∉out)(g:∀q∈b5 c a,q∈out):ls c (out++[a]):=by
 refine⟨?_,λx b=> ?_,λi x b q d=> ?_⟩
 ·rw[YX];exact⟨e.once,Zs,λx b h n u=>m (by rw[<-ZC.1 n, <-u];exact b)⟩
 ·rcases Zv.1 b with b|b
  ·exact e.he x b
  ·rw[ZC.1 b];exact f
 ·by_cases af:i<out.length
  ·rw[ZO af]at b;rw[Yq Zo];exact e.ahead i x b q d
  ·have l:=(Ze.1 b).1;simp only[ZG,ZI,ZU]at l;have u:i=out.length:=Zo;subst u;rw[ZT (Zg _)]at b;simp at b;subst b;rw[Yq (Zg _),Yu];exact g q d
def ls.done{b:List (List Nat)}{out:List Nat}(e:ls b out)(c:∀a,a<b.length->a∉out->∃q∈b5 b a,q∉out):iR b out:=⟨e.once,e.he,e.ahead,c⟩
variable{vb r bq:Nat}{aV:List (ax×y×Nat)}
def Rp(f:bW X)(c:ay X j (.ptr vb 0)=some (.map r))(d:f0 X y.str j r aV bq)(w:ax):
 az X 16 [.str w,.ptr vb 0] j k (λM S' W=>M=.bool (d5 aV w).isSome/\S'=j/\k<=W) zW:=by
 refine z6 f (K8 ..) ?_;unfold CW;have a:=d.look (uz X) .au w true;cases b:d5 aV w with|none=>rw[b]at a;simp only[cE]at a;refine bA @c @a ⟨?_⟩;exact⟨rfl,rfl,Zg _⟩|some v=>rw[b]at a;simp only[cE]at a;refine bA @c @a ⟨?_⟩;exact⟨rfl,rfl,Zg _⟩
def N2(a:bW X){b:Nat}{aB:y}{c5:List ax}(C:ay X j (.ptr vb 0)=some (.map r))(x:f0 X y.str j r aV bq)(I:ca X j P b aB 1 (cQ c5)):
 az X 15 [aB,.func (.func 16) [] [.ptr vb 0]] j k (λM S' W=>M=.bool (c5.any λw=>(d5 aV w).isSome)/\S'=j/\k<=W) zW:=by
 refine z6 a (CV ..) ?_;unfold yb;refine az.mono (S:=λM S' W=>(∃aw:Int,M=.Z aw/\decide (0<=aw)=c5.any λw=>(d5 aV w).isSome)/\S'=j/\k<=W) (ab:=λ_ _ _=>False) ?_ ?_ (λ_ _ _ e=>e.elim)
 ·refine z6 a (Dl ..) ?_;unfold yg;have s:=I.len;have A:=I.many;rw[show(cQ c5).length=c5.length from by simp[cQ]]at s A;refine bh @s ⟨?_⟩;refine cG (λm z S' L=>∃(E:Nat),z.g 0=some aB/\z.g 1=some (.func (.func 16) [] [.ptr vb 0])/\z.g 7=some (.Z c5.length)/\z.g 8=some (.Z E)/\E+m=c5.length/\S'=j/\k<=L/\((c5.take E).any λw=>(d5 aV w).isSome)=false)
   c5.length ⟨0,av,av,av,cW,Zo,rfl,Zg _,rfl⟩ ?_
  rintro m z am ak ⟨E,t0,t1,i,l,N,rfl,c,f⟩;cases m with
  |zero=>have d:=zL E c5.length;rw[Zy Zo]at f;refine cb @l @i @d ⟨?_⟩;exact⟨⟨-1,rfl,by rw[f];rfl⟩,rfl,c⟩|succ m=>
   have d:=zM E c5.length;have v:=zP E;obtain⟨w,g⟩:=zN c5 E;have p:=I.c0 E (by simp[cQ];omega);have n:=I.cell E [.str w] 0 (.str w) (by unfold cQ;rw[Zn,g];rfl) rfl;rw[ZF]at p;rw[ZF,ZL]at n;refine cd @l @i @t1 @t0 @d @p @n ⟨?_⟩;refine(Rp (k:=ak) a C x w).Zm ?_;rintro M ah ar ⟨rfl,rfl,O⟩;cases t:(d5 aV w).isSome with
   |true=>
    refine br ⟨?_⟩;exact⟨⟨(E:Int),rfl,by
     rw[decide_eq_true Zo];exact(List.any_eq_true.2 ⟨w,Zl g,t⟩).symm⟩,rfl,Zo⟩
   |false=>refine bA @l @v ⟨?_⟩;exact⟨m,Zo,E+1,Y t0,Y t1,Y i,av,Zo,rfl,Zo,by rw[ZE,g,List.any_append,f];simp[t]⟩
 ·rintro M am ak ⟨⟨aw,rfl,G⟩,rfl,c⟩;rw[<-G];refine br ⟨?_⟩;exact⟨rfl,rfl,c⟩
abbrev nF:=List (ax×y×Nat)
structure iq(X:bf)(j:B R)(aW af:Nat)(g:GE)(r:Nat)(aV:nF)(bq:Nat)(aM:Nat->Prop):Prop where
 map:f0 X y.str j r aV bq
 all:∀u∈aV,∃(q:Nat) (nm:ax),(dd g)[q]? =some nm/\aM q/\u.1=nm/\∃aQ,cT X j u.2.1 1 ((hQ g nm).map .str) aQ/\∀h∈aQ,aW<=h/\h<af
 has:∀(q:Nat) (nm:ax),(dd g)[q]? =some nm->aM q->∃u∈aV,u.1=nm
variable{aW af fy:Nat}{g:GE}{aV:nF}
def iq.K(e:iq X j aW af g r aV bq aM)(n:F X S' r=F X j r)(q:∀h,aW<=h->h<af->F X S' h=F X j h)(p:af<=fy):iq X S' aW fy g r aV bq aM:=
 ⟨e.map.K n,λu l=>by
  obtain⟨m,nm,c,d,f,aQ,i,b⟩:=e.all u l;exact⟨m,nm,c,d,f,aQ,i.K λh a=>q h (b h a).1 (b h a).2,λh a=>⟨(b h a).1,zK (b h a).2⟩⟩,e.has⟩
def iq.look(e:iq X j aW af g r aV bq aM){q:Nat}{nm:ax}(d:(dd g)[q]? =some nm):(d5 aV nm).isSome=true↔aM q:=by
 constructor
 ·intro m;obtain⟨v,n⟩:=YE.1 m;obtain⟨u,b,a,_⟩:=sU n;obtain⟨p,s,c,f,i,_⟩:=e.all u b
  have:p=q:=(YO (Ze.1 c).1 (uR g)).1 (by rw[c,d, <-i,a])
  exact this▸f
 ·intro l;obtain⟨u,b,a⟩:=e.has q nm d l;rw[<-a,wN e.map.keys b];rfl
def iq.add(e:iq X j aW af g r aV bq (λq=>q<ak)){nm:ax}(p:(dd g)[ak]? =some nm){l:y}{aQ:List Nat}{b:nF}{kr:Nat}(t:f0 X y.str S' r b kr)(s:∀x,d5 b x=if x=nm then some l else d5 aV x)(T4:cT X S' l 1 ((hQ g nm).map .str) aQ)(T0:∀h∈aQ,aW<=h/\h<fy)(T2:∀h,aW<=h->h<af->F X S' h=F X j h)(T8:af<=fy):iq X S' aW fy g r b kr (λq=>q<ak+1):=by
 refine⟨t,λu i=> ?_,λq w n T7=> ?_⟩
 ·have a:=s u.1;rw[wN t.keys i]at a;by_cases m:u.1=nm
  ·rw[Zu m]at a;refine⟨ak,nm,p,Zo,m,aQ, ?_,T0⟩;rw[YF a];exact T4
  ·rw[Zi m]at a;obtain⟨G,T1,f,L⟩:=sU a.symm;obtain⟨T5,w,N,T6,O,C,P,d⟩:=e.all G T1;exact⟨T5,w,N,Zo,by rw[<-f];exact O,C,by rw[<-L];exact P.K λh c=>T2 h (d h c).1 (d h c).2,λh c=>⟨(d h c).1,zK (d h c).2⟩⟩
 ·have a:=s w
  have:d5 b w≠none:=by
   rw[a];by_cases u:w=nm
   ·rw[Zu u];simp
   ·rw[Zi u];have T3:q<ak:=by
     rcases zg q ak with e|e
     ·exact e
     ·have:q=ak:=Zo
      subst this;rw[p]at n;exact absurd (YF n).symm u
    have:=(e.look n).2 T3;intro u;rw[u]at this;cases this
  cases A:d5 b w with|none=>exact absurd A this|some v=>obtain⟨u,i,f,_⟩:=sU A;exact⟨u,i,f⟩
def iq.cut{b7:List Nat}(e:iq X j aW af g r aV bq (λq=>q∉b7)){q:Nat}{nm:ax}(p:(dd g)[q]? =some nm)(G:f0 X y.str S' r (aV.filter λu=>decide (u.1≠nm)) bq)(C:∀h,aW<=h->h<af->F X S' h=F X j h):iq X S' aW af g r (aV.filter λu=>decide (u.1≠nm)) bq (λx=>x∉b7++[q]):=by
 refine⟨G,λu f=> ?_,λx w i l=> ?_⟩
 ·obtain⟨b,t⟩:=Yb.1 f;obtain⟨L,w,c,v,n,aQ,A,d⟩:=e.all u b;refine⟨L,w,c,λa=> ?_,n,aQ,A.K λh s=>C h (d h s).1 (d h s).2,d⟩;rcases Zv.1 a with a|a
  ·exact v a
  ·rw[ZC.1 a,p]at c;cases c;simp[n]at t
 ·rw[Zv,ZC,YU]at l;obtain⟨u,f,b⟩:=e.has x w i l.1;refine⟨u,Yb.2 ⟨f, ?_⟩,b⟩;simp only[Zf];intro m;rw[b]at m;subst m;exact l.2 ((YO (Ze.1 i).1 (uR g)).1 (i.trans p.symm))
def iq.free{aa:List GE}{a1:eG}{b7:List Nat}{E q:Nat}{nm:ax}(e:iq X j aW af g r aV bq (λq=>q∉b7))(c:(hh aa E g).1=0)(f:hZ a1 g)(d:(dd g)[q]? =some nm):
 ((hQ g nm).any λw=>(d5 aV w).isSome)=false↔∀x∈b5 (fW g) q,x∈b7:=by
 rw[List.any_eq_false];constructor
 ·intro b x a;obtain⟨w,l,m⟩:=(A5 c f d).1 a;exact ZV λn=>b w m ((e.look l).2 n)
 ·intro b w i p;obtain⟨x,a⟩:=Yc (Gs c i);exact(e.look a).1 p (b x ((A5 c f d).2 ⟨w,a,i⟩))
end
end
end Go.Proofs.YtehmapikajmjaaaGreatDoor
