/- Part of the last text; no conditions -/
import Derived.Test.YtehmapikajmjaaaGreatDoorYp
set_option maxHeartbeats 8000000
set_option linter.all false
namespace Go.Proofs.YtehmapikajmjaaaGreatDoor
open Go.aC Go.aj
noncomputable section
section
variable{X:bf}{j S' am ah:B R}{k W ak ar:Nat}{P aK:Nat->Prop}
def mL(X:bf)(j:B R)(aK:Nat->Prop)(c:List (List Nat))(M:y):Prop:=(M=.tuple [.au,.zT]/\∃out,iR c out/\out.length=c.length)\/
 ∃(d:y) (a b J:Nat) (out:List Nat),M=.tuple [d,.zV]/\iR c out/\a<c.length/\a∉out/\mK c a a/\aK b/\da 1 d (.Z 0)=some (.ptr b J)/\ay X j (.ptr b J)=some (.Z a)
def Rr(L:bW X){s:y}{l:List Nat}{b:Nat}(e:ca X j P b s 1 (d4 (cM l)))(x:Nat):
 az X 45 [s,.Z (x:Int)] j k (λM S' W=>S'=j/\k<=W/\((M=.Z (-1)/\x∉l)\/∃i:Nat,M=.Z (i:Int)/\l[i]? =some x)) zW:=by
 refine z6 L (L6 ..) ?_;unfold Dz;have C:(d4 (cM l)).length=l.length:=by simp[d4,cM]
 have A:=e.len;have N:=e.many;rw[C]at A N;refine bh @A ⟨?_⟩;refine cG (λm z S' T0=>∃(E:Nat),z.g 0=some s/\z.g 1=some (.Z x)/\z.g 7=some (.Z l.length)/\z.g 8=some (.Z E)/\E+m=l.length/\S'=j/\k<=T0/\x∉l.take E)
  l.length ⟨0,av,av,av,cW,Zo,rfl,Zg _,Zs⟩ ?_
 rintro m z ah ar ⟨E,t0,t1,a,r,T1,rfl,f,g⟩;cases m with
 |zero=>have d:=zL E l.length;rw[Zy Zo]at g;refine cb @r @a @d ⟨?_⟩;exact⟨rfl,f,.inl ⟨rfl,g⟩⟩|succ m=>
  have d:=zM E l.length;have G:=zP E;obtain⟨h,p⟩:∃w,l[E]? =some w:=⟨_,Zb Zo⟩;have O:(d4 (cM l))[E]? =some [.Z (h:Int)]:=by rw[d4,cM,Z2,Zn,p];rfl
  have t:=e.c0 E (by rw[C];omega);have v:=e.cell E _ 0 _ O rfl;rw[ZF]at t;rw[ZF,ZL]at v;by_cases n:x=h
  ·have c:decide ((x:Int)=(h:Int))=true:=(by simp[n]);refine cd @r @a @t0 @t1 @d @t (Za @v @c) ⟨?_⟩;exact⟨rfl,f,.inr ⟨E,rfl,by rw[n];exact p⟩⟩
  ·have c:decide ((x:Int)=(h:Int))=false:=z1;refine cd @r @a @t0 @t1 @d @t (Za @v (Za @c @G)) ⟨?_⟩;exact⟨m,Zo,E+1,Y t0,Y t1,Y a,av,Zo,rfl,f,by rw[ZE,p];simp[g,n]⟩
def abG{C:ai}{j:B R}{s:y}{l:List Nat}{aQ:List Nat}(e:en C j s 1 (du (cM l)) aQ){q x:Nat}(g:l[q]? =some x):∃m b,fY C j 1 s (some (.Z q)) none none=some m/\b∈aQ/\da 1 m (.Z 0)=some (.ptr b q)/\ay C j (.ptr b q)=some (.Z x):=by
 have v:=(Ze.1 g).1;have d:(du (cM l)).length=l.length:=by simp[du,cM]
 rcases e with ⟨rfl,a,rfl⟩|⟨b,cl,n,c,rfl,a,rfl,w,A,f,t⟩
 ·rw[a]at d;simp at d;omega
 ·rw[d,ZF]at a;subst a;have p:Nat.ble q l.length=true:=ds Zo;have r:Nat.blt q l.length=true:=tT v;refine⟨.cy b q (l.length-q) 1,b, ?_,Zp .., ?_, ?_⟩
  ·simp[fY,j9,f,gd,hA,hU,p,r,Nat.div_one]
  ·exact qQ (i:=0) Zo
  ·rw[aZ f,t q,du,cM,Z2,Zn,g];rfl
def GR(a b:Nat):jo X j .min [3,3] [.Z (a:Int),.Z (b:Int)]=some (.Z (min a b:Nat)):=by show h2 false (.Z a) [.Z (b:Int)]=_;simp only[h2,c3,k6];congr 2;simp only[Zf];split<;>simp_all<;>omega
def acH:(o X).P.underlying 48=some (.map 3 3):=Zk
abbrev vB:=List (Int×y×Nat)
structure r7(X:bf)(j:B R)(r N:Nat)(aV:vB)(bq:Nat)(aM:Nat->Prop):Prop where
 map:f0 X (y.int .i64) j r aV bq
 all:∀u∈aV,∃q:Nat,u.1=(q:Int)/\aM q/\q<N/\u.2.1=.Z 1
 has:∀q,aM q->q<N->∃u∈aV,u.1=(q:Int)
def r7.look{r N bq:Nat}{aV:vB}{aM:Nat->Prop}(e:r7 X j r N aV bq aM)(q:Nat)(m:q<N):(aM q/\fb X j 3 (.Z 0) (.map r) (.Z q) false=some (.Z 1))\/(¬aM q/\fb X j 3 (.Z 0) (.map r) (.Z q) false=some (.Z 0)):=by
 have a:=e.map.look (lI X) (.Z 0) (q:Int) false;cases b:d5 aV (q:Int)with
 |none=>rw[b]at a;exact .inr ⟨λl=>by obtain⟨u,c,d⟩:=e.has q l m;exact SD.1 b u c d,a⟩|some v=>
  rw[b]at a;obtain⟨u,c,d,f⟩:=sU b;obtain⟨n,p,g,_,i⟩:=e.all u c
  have:n=q:=Zo
  subst this;rw[i]at f;subst f;exact .inl ⟨g,a⟩
set_option maxRecDepth 100000 in
def aba(U8:bW X){v:y}{c:List (List Nat)}(Vu:(o X).aD<=k)(aU:∀h,P h->h<k)(e:lY X j P v (c.map cM))(VY:c.length<=100000)(Uk:∀r∈c,r.Nodup/\∀q∈r,q<c.length):
 az X 23 [v] j k (λM S' W=>mL X S' (bR k W) c M/\aT X j k S' W) zW:=by
 refine z6 U8 (Ls ..) ?_;unfold Dc;have V9:∀q,q<c.length->∀x∈b5 c q,x<c.length:=λq C=>by
  have:b5 c q∈c:=by rw[wY C];exact zs C
  exact(Uk _ this).2
 have Ui:c2 v=some (.Z c.length):=by obtain⟨_,aF,I,WA,_⟩:=id e;have:=I.len;rw[Zj,WA,Zj]at this;exact this
 refine(GN U8 Vu aU e (λr I aw WG=> ?_)).Zm ?_
 ·obtain⟨WI,VT,rfl⟩:=ZB.1 I;obtain⟨q,C,rfl⟩:=ZB.1 WG;have:=(Uk WI VT).2 q C;rw[Zj];exact⟨zA q,by show(q:Int)<_;omega⟩
 rintro M am ak ⟨rfl,Uz⟩;have WR:=Uz.le;refine br ⟨?_⟩;generalize UV:Go.aC.aI X am ak _=ah;have VS:F X ah ak=some (.map [] 0):=by rw[<-UV,aJ Zo]
 have VV:aT X am ak ah (ak+1):=by rw[<-UV];exact b8
 clear UV;refine bh @Ui ⟨?_⟩;refine cG (λm z S' T0=>∃(i:Nat) (aV:vB) (bq:Nat),z.g 0=some v/\z.g 4=some (.map ak)/\z.g 20=some (.Z c.length)/\z.g 21=some (.Z i)/\i+m=c.length/\ak+1<=T0/\r7 X S' ak c.length aV bq (λq=>q<i)/\∀h,h<ak->F X S' h=F X ah h)
  c.length ⟨0,[],0,av,av,av,cW,Zo,Zg _,⟨f0.new VS,Zs,λq e=>Zo⟩,λ_ _=>rfl⟩ ?_
 rintro m z Ut VM ⟨i,aV,bq,t0,t4,UG,UH,af,WT,p,Ud⟩;cases m with
 |succ m=>
  have d:=zM i c.length;have T9:=zP i;obtain⟨WN,UM,VP,Vt,V0,V5,_,Vm⟩:=p.map.set (k:=VM) (lI X) Zo (i:Int) (.Z 1);refine c9 @UH @UG @t4 @d ⟨?_⟩;refine d7 Vt ?_;refine bA @UH @T9 ⟨?_⟩;refine⟨m,Zo,i+1,UM,VP,Y t0,Y t4,Y UG,av,Zo,Zo,⟨V0,λu t=> ?_,λq C T3=> ?_⟩,λh f=>by rw[Vm h Zo];exact Ud h f⟩
  ·have g:=V5 u.1;rw[wN V0.keys t]at g;by_cases Ub:u.1=(i:Int)
   ·rw[Zu Ub]at g;exact⟨i,Ub,Zo,Zo,by injection g⟩
   ·rw[Zi Ub]at g;obtain⟨VQ,Vh,n,N⟩:=sU g.symm;obtain⟨q,O,Uy,US,VU⟩:=p.all VQ Vh;exact⟨q,by rw[<-n];exact O,Zo,US,by rw[<-N];exact VU⟩
  ·have g:=V5 (q:Int)
   have:d5 UM (q:Int)≠none:=by
    rw[g];by_cases V4:(q:Int)=(i:Int)
    ·rw[Zu V4];simp
    ·rw[Zi V4];obtain⟨u,t,n⟩:=p.has q Zo T3;rw[<-n,wN p.map.keys t];simp
   cases VB:d5 UM (q:Int)with
   |none=>exact absurd VB this|some w=>obtain⟨u,t,n,_⟩:=sU VB;exact⟨u,t,n⟩
 |zero=>
 have d:=zL i c.length;have Vk:i=c.length:=Zo;subst Vk;have VI:∀h,h<k->F X Ut h=F X j h:=λh f=>by rw[Ud h Zo,VV.K h Zo];exact Uz.K h f
 refine c9 @UH @UG @d @t0 ⟨?_⟩;refine(Iq (k:=VM) U8 Zo (λh f=>zK (aU h f)) (e.K (S':=Ut) (λh f=>VI h (aU h f)) (λ_ e=>e)) VY Uk).Zm ?_;rintro WK VO WH ⟨out,U5,⟨ba,VE⟩,UT⟩;have WS:=UT.le;have VC:(d4 (cM out)).length=out.length:=by simp[d4,cM]
 have V7:=VE.len;rw[VC]at V7;have WX:=oa _ _ U5.once U5.he;refine bh @V7 ⟨?_⟩;refine cG (λm z S' T0=>∃(E:Nat) (aV:vB) (bq:Nat),z.g 0=some v/\z.g 4=some (.map ak)/\z.g 28=some WK/\z.g 29=some (.Z out.length)/\z.g 30=some (.Z E)/\E+m=out.length/\WH<=T0/\r7 X S' ak c.length aV bq (λq=>q∉out.take E)/\∀h,h≠ak->F X S' h=F X VO h)
  out.length ⟨0,aV,bq,Y t0,Y t4,av,av,cW,Zo,Zg _,⟨p.map.K (UT.K _ Zo),λu t=>by obtain⟨q,g,n,N,O⟩:=p.all u t;exact⟨q,g,Zs,N,O⟩,λq _ C=>p.has q C C⟩,λ_ _=>rfl⟩ ?_
 clear t0 t4 UG UH z p Ud;rintro m z T6 G ⟨E,aV,bq,t0,t4,t28,UI,UJ,Vl,Vv,p,Ue⟩;cases m with
 |succ m=>
  have d:=zM E out.length;have T9:=zP E;obtain⟨x,s⟩:∃w,out[E]? =some w:=⟨_,Zb Zo⟩;have Un:(d4 (cM out))[E]? =some [.Z (x:Int)]:=by rw[d4,cM,Z2,Zn,s];rfl
  have VF:=VE.K (S':=T6) (λh f=>Ue h (zK f.1));have U0:=VF.c0 E (by rw[VC];omega);have U1:=VF.cell E _ 0 _ Un rfl;rw[ZF]at U0;rw[ZF,ZL]at U1;obtain⟨UN,Vg,VX,Vn⟩:=p.map.del (k:=G) (lI X) acH [3] Zo (x:Int);refine cd @UJ @UI @t28 @t4 @d @U0 @U1 ⟨?_⟩;refine d7 Vg ?_;refine bA @UJ @T9 ⟨?_⟩;have VG:∀h,h∉out.take (E+1)↔h∉out.take E/\h≠x:=λh=>by rw[ZE,s];simp
  refine⟨m,Zo,E+1,_,bq,Y t0,Y t4,Y t28,Y UI,av,Zo,Vv,⟨VX,λu t=> ?_,λq C T3=> ?_⟩,λh f=>by rw[Vn h f];exact Ue h f⟩
  ·obtain⟨g,n⟩:=Yb.1 t;obtain⟨q,N,O,Uy,US⟩:=p.all u g;refine⟨q,N,(VG q).2 ⟨O,λu=> ?_⟩,Uy,US⟩;subst u;simp[N]at n
  ·obtain⟨g,n⟩:=(VG q).1 C;obtain⟨u,N,O⟩:=p.has q g T3;exact⟨u,Yb.2 ⟨N,by rw[O];simp;omega⟩,O⟩
 |zero=>
 have d:=zL E out.length;rw[Zy Zo]at p;have UB:∀h,h<k->F X T6 h=F X j h:=λh f=>by rw[Ue h Zo,UT.K h Zo];exact VI h f
 have Vq:n5 X T6 (.map ak)=some (.Z aV.length):=by have:=p.map.at_;simp[n5,this,hf]
 refine c8 @UJ @UI @d ⟨?_⟩;refine dV ?_;refine mc @t4 @Vq ⟨?_⟩;by_cases U7:aV=[]
 ·have UP:decide ((aV.length:Int)=0)=true:=by rw[U7];rfl
  rw[UP];refine br ⟨?_⟩;refine⟨.inl ⟨rfl,out,U5, ?_⟩,Zo,UB⟩;have UZ:∀q,q<c.length->q∈out:=λq C=>ZV λVf=>by obtain⟨u,t,_⟩:=p.has q Vf C;rw[U7]at t;cases t
  have g:(List.range c.length).length<=out.length:=by have W5:∀x∈List.range c.length,x∈out:=λx s=>UZ x (List.mem_range.1 s);exact Ih _ _ List.nodup_range W5
  rw[List.length_range]at g;omega
 have UP:decide ((aV.length:Int)=0)=false:=by have:=ZP.2 U7;simp only[Zc];omega
 rw[UP];obtain⟨b,aF,W2,WC,WD⟩:=id e;rw[Zj]at WC;refine cb @t0 @Ui @t4 ⟨?_⟩;refine d7 (HY Zo p.map) ?_;generalize UW:Go.aC.aI X T6 G _=UN;have Uw:F X UN G=some (.e7 (some ak) bq [] bq):=by rw[<-UW,aJ Zo]
 have VJ:∀h,h≠G->F X UN h=F X T6 h:=λh f=>by rw[<-UW,ag Zo f]
 clear UW;refine br ⟨?_⟩;refine cG (λm z S' T0=>∃(at_:Nat) (seen:List Nat),z.g 0=some v/\z.g 4=some (.map ak)/\z.g 8=some (.Z at_)/\z.g 43=some (.ptr G 0)/\G+1<=T0/\F X S' G=some (.e7 (some ak) bq seen bq)/\((seen=[]/\at_=c.length)\/(at_<c.length/\at_∉out))/\m=(aV.filter λu=>decide (u.2.2∉seen)).length/\∀h,h≠G->F X S' h=F X T6 h)
  (aV.filter λu=>decide (u.2.2∉[])).length ⟨c.length,[],Y t0,Y t4,av,av,Zg _,Uw,.inl ⟨rfl,rfl⟩,rfl,VJ⟩ ?_
 clear t0 t4 t28 UI UJ z Uw VJ;rintro m z T7 TY ⟨at_,seen,t0,t4,L,UK,Vw,Vj,Ua,Vr,U3⟩;have UU:r7 X T7 ak c.length aV bq (λq=>q∉out):=⟨p.map.K (U3 _ Zo),p.all,p.has⟩;refine bh @UK ⟨?_⟩;refine UU.map.next Zo Vj (λUZ=> ?_) (λu t Vz=> ?_)
 ·
  have V1:at_<c.length/\at_∉out:=by
   rcases Ua with ⟨g,_⟩|g
   ·obtain⟨u,t⟩:=List.exists_mem_of_ne_nil aV U7;have:=UZ u t;rw[g]at this;cases this
   ·exact g
  have WB:∀S',(∀h,h<TY->F X S' h=F X T7 h)->ca X S' P b v 1 (aF.map λv=>[v]):=λS' C=>W2.K λh f=>by have:=aU h f;rw[C h Zo,U3 h Zo];exact UB h this
  refine br ⟨?_⟩;refine cG (λm z S' T0=>∃(path:List Nat) (at_:Nat) (Ur:y) (Uq:List Nat),z.g 0=some v/\z.g 4=some (.map ak)/\z.g 8=some (.Z at_)/\z.g 10=some Ur/\path.length+m=c.length/\TY<=T0/\en X S' Ur 1 (du (cM path)) Uq/\(∀h∈Uq,TY<=h/\h<T0)/\(∀h,h<TY->F X S' h=F X T7 h)/\
   (path++[at_]).Nodup/\(∀x∈path++[at_],x<c.length/\x∉out)/\oC c (path++[at_]))
   c.length ⟨[],at_,.au,[],Y t0,Y t4,Y L,av,Zs,Zg _,.inl ⟨rfl,rfl,rfl⟩,Zs,λ_ _=>rfl,Zs,by simpa using V1,λi a b g n=>by simp at n⟩ ?_
  clear t0 t4 L UK z Ua V1;rintro Up z T2 TZ ⟨path,l,Ur,Uq,t0,t4,L,T4,WY,WU,W7,U9,Vo,VA,Um,V2⟩;have W0:=oa _ _ VA (λx s=>(Um x s).1);simp only[ZG,ZI,ZU]at W0;cases Up with|zero=>omega|succ Up=>
  obtain⟨U2,Va⟩:=Um l Zs;refine bA @T4 @L ⟨?_⟩;generalize UY:Go.aC.aI X T2 TZ _=UO;have VR:F X UO TZ=zO [.Z (l:Int)] 1:=by rw[<-UY,aJ Zo]
  have VL:∀h,h<TZ->F X UO h=F X T2 h:=λh f=>by rw[<-UY,ag Zo Zo]
  clear UY;obtain⟨UE,T8,UD,Vb,W8,W1,Vp⟩:=cT.append (k:=TZ+1) (.inl (W7.K (S':=UO) (λh f=>VL h (U9 h f).2))) Zd (g6 VR (fS _) rfl _) rfl Zd rfl (by rw[jY];simp[cM];omega) Zo (λh f=>zK (U9 h f));refine d7 Vb ?_;have U4:∀h,h<TY->F X T8 h=F X T7 h:=λh f=>by rw[Vp h Zo (λe=>zK (U9 h e)),VL h Zo];exact Vo h f
  have Uo:en X T8 UE 1 (du (cM (path++[l]))) UD:=by rw[show du (cM (path++[l]))=du (cM path)++[.Z (l:Int)] by simp[du,cM]];exact W8
  have Ul:∀h∈UD,TY<=h/\h<TZ+2:=λh f=>by
   rcases W1 h f with rfl|e
   ·omega
   ·have:=U9 h e;omega
  obtain⟨VN,VH⟩:∃w,aF[l]? =some w:=⟨_,Zb Zo⟩;obtain⟨WL,WM,_⟩:=(WB T8 U4).one VH;have Vx:(c.map cM)[l]? =some (cM (b5 c l)):=by rw[Zn,Zb U2,wY U2];rfl
  obtain⟨WP,W4⟩:=WD l VN _ VH Vx;have UA:=W4.K (S':=T8) (λh f=>by have:=aU h f;rw[U4 h Zo,U3 h Zo];exact UB h this);have VD:(d4 (cM (b5 c l))).length=(b5 c l).length:=by simp[d4,cM]
  have V6:=UA.len;have Vs:=UA.many;rw[VD]at V6 Vs;have VW:r7 X T8 ak c.length aV bq (λq=>q∉out):=⟨UU.map.K (U4 _ Zo),p.all,p.has⟩;refine eC @t0 @Ui @L @WL @WM @V6 ⟨?_⟩;refine cG (λm z S' T0=>∃(E A:Nat),z.g 0=some v/\z.g 4=some (.map ak)/\z.g 8=some (.Z l)/\z.g 10=some UE/\z.g 11=some (.Z A)/\z.g 60=some VN/\z.g 61=some (.Z ((b5 c l).length:Int))/\z.g 62=some (.Z E)/\E+m=(b5 c l).length/\S'=T8/\TZ+2<=T0/\
   ((A=c.length/\∀q∈(b5 c l).take E,q∈out)\/(A∈b5 c l/\A∉out)))
   (b5 c l).length ⟨0,c.length,Y t0,Y t4,Y L,av,av,av,av,cW,Zo,rfl,Zg _,.inl ⟨rfl,Zs⟩⟩ ?_
  clear t0 t4 L T4 z;rintro UC z Uu bu ⟨E,A,t0,t4,L,T4,UF,UL,U6,Us,Vl,rfl,WV,T1⟩;cases UC with
  |succ UC=>
   have d:=zM E (b5 c l).length;have T9:=zP E;obtain⟨q,Uf⟩:∃w,(b5 c l)[E]? =some w:=⟨_,Zb Zo⟩;have Ug:=Zl Uf;have T3:=V9 l U2 q Ug;have Un:(d4 (cM (b5 c l)))[E]? =some [.Z (q:Int)]:=(by rw[d4,cM,Z2,Zn,Uf];rfl);have U0:=UA.c0 E (by rw[VD];omega);have U1:=UA.cell E _ 0 _ Un rfl;rw[ZF]at U0;rw[ZF,ZL]at U1;rcases VW.look q T3 with ⟨T5,Uh⟩|⟨T5,Uh⟩
   ·have UQ:decide ((0:Int)<1)=true:=rfl;have Uj:=GR (X:=X) (j:=Uu) A q;refine cd @Us @U6 @UL @t4 @d @U0 (Za @U1 (Za @Uh (Za @UQ (Za @UF (Za @Uj @T9))))) ⟨?_⟩;refine⟨UC,Zo,E+1,min A q,Y t0,Y t4,Y L,Y T4,av,Y UL,Y U6,av,Zo,rfl,Zo,.inr ?_⟩;rcases T1 with ⟨g,_⟩|g
    ·rw[g,Nat.min_eq_right Zo];exact⟨Ug,T5⟩
    ·rcases Nat.le_total A q with n|n
     ·rw[Nat.min_eq_left n];exact g
     ·rw[Nat.min_eq_right n];exact⟨Ug,T5⟩
   ·have UQ:decide ((0:Int)<0)=false:=rfl;refine cd @Us @U6 @UL @t4 @d @U0 (Za @U1 (Za @Uh (Za @UQ @T9))) ⟨?_⟩;refine⟨UC,Zo,E+1,A,Y t0,Y t4,Y L,Y T4,Y UF,Y UL,Y U6,av,Zo,rfl,Zo,T1.imp (λ⟨g,n⟩=>⟨g,λx s=> ?_⟩) id⟩;rw[ZE,Uf]at s;rcases Zv.1 s with s|s
    ·exact n x s
    ·simp at s;subst s;exact ZV T5
  |zero=>
   have d:=zL E (b5 c l).length;have T1:A∈b5 c l/\A∉out:=by
    rcases T1 with ⟨_,n⟩|g
    ·rw[Zy Zo]at n;obtain⟨q,N,O⟩:=U5.GV l U2 Va;exact absurd (n q N) O
    ·exact g
   have V8:=V9 l U2 A T1.1;have W9:en X Uu UE 1 (d4 (cM (path++[l]))).flatten UD:=(by rw[Ai];exact Uo);obtain⟨an,Vd⟩:=W9.kG Zd (λr I=>by obtain⟨M,_,rfl⟩:=ZB.1 I;rfl) (by simp[d4,cM];omega) (P:=bR k bu) (λh f=>by have:=Ul h f;exact⟨Zo,Zo⟩);refine dE @Us @U6 @d @T4 @UF ⟨?_⟩;refine(Rr (k:=bu) U8 Vd A).Zm ?_;rintro M WO wX ⟨rfl,WW,W3⟩;rcases W3 with ⟨rfl,Vy⟩|⟨i,rfl,V3⟩
   ·have UR:decide ((0:Int)<= -1)=false:=rfl;refine bA @UR @UF ⟨?_⟩;refine⟨Up,Zo,path++[l],A,UE,UD,Y t0,Y t4,av,Y T4,Zx,Zo,Uo,λh f=>zK (Ul h f),U4, ?_,λx s=> ?_,V2.snoc T1.1⟩
    ·rw[YX];exact⟨VA,Zs,λa VZ b Vc u=>by rw[ZC.1 Vc]at u;subst u;exact Vy VZ⟩
    ·rcases Zv.1 s with s|s
     ·exact Um x s
     ·rw[ZC.1 s];exact⟨V8,T1.2⟩
   ·have UR:decide ((0:Int)<=(i:Int))=true:=(by simp);obtain⟨WJ,Uv,W6,Ve,WE,WF⟩:=abG Uo V3;refine cb @UR @T4 @W6 ⟨?_⟩;have WQ:=Ul Uv Ve;exact⟨.inr ⟨WJ,A,Uv,i,out,rfl,U5,V8,T1.2,V2.round T1.1 V3,⟨Zo,Zo⟩,WE,WF⟩,Zo,λh f=>by rw[U4 h Zo,U3 h Zo];exact UB h f⟩
 ·obtain⟨q,Vi,T5,T3,_⟩:=p.all u t;refine h5 ⟨?_⟩;generalize UX:Go.aC.aI X T7 G _=T2;have Ux:F X T2 G=some (.e7 (some ak) bq (seen++[u.2.2]) bq):=by rw[<-UX,aJ Zo]
  have VK:∀h,h≠G->F X T2 h=F X T7 h:=λh f=>by rw[<-UX,ag Zo f]
  clear UX;have Uc:=(UU.map.K (S':=T2) (VK _ Zo)).entry t Ux;have Uj:=GR (X:=X) (j:=T2) at_ q;have Uc:qu X T2 (.ptr G 0)=some (.tuple [.Z (q:Int),u.2.1]):=by rw[Uc,Vi]
  refine c9 @UK @Uc @L @Uj ⟨?_⟩;refine⟨_, ?_,min at_ q,seen++[u.2.2],Y t0,Y t4,av,Y UK,Vw,Ux,.inr ?_,rfl,λh f=>by rw[VK h f];exact U3 h f⟩
  ·rw[Vr];have g:(aV.filter λx=>decide (x.2.2∉seen++[u.2.2]))=(aV.filter λx=>decide (x.2.2∉seen)).filter λx=>decide (x.2.2≠u.2.2):=(by rw[List.filter_filter];congr 1;funext x;simp[Bool.and_comm]);rw[g];exact Yw.2 ⟨u,Yb.2 ⟨t,by simpa using Vz⟩,Zs⟩
  ·rcases Ua with ⟨_,g⟩|g
   ·rw[g,Nat.min_eq_right Zo];exact⟨T3,T5⟩
   ·rcases Nat.le_total at_ q with n|n
    ·rw[Nat.min_eq_left n];exact g
    ·rw[Nat.min_eq_right n];exact⟨T3,T5⟩
variable{dU:B R}{s:ax}
def rJ(c:B y)(a b:y):(ch c 0 [a,b]).get 0=some a:=by rw[fF];simp
def rK(c:B y)(a b:y):(ch c 0 [a,b]).get 1=some b:=by rw[fF];simp
set_option maxRecDepth 100000 in
def OG(A:e2 X)(UN:gU X)(UP:kl X)(UR:mG X){P:Nat->Prop}{aa:List GE}{v:y}(UX:(o X).aD<=k)(T5:iQ X j P aa v)(aU:∀h,P h->h<k)(Ub:∀g∈aa,hZ gN g)(UM:aa≠[])(U7:jy aa=none):
 az X 29 [v] j k (λM S' W=>M=.agg [.Z (l3 aa).1,.Z (l3 aa).2]/\aT X j k S' W) zW:=by
 refine z6 A.tobW (LC ..) ?_;unfold Dh;obtain⟨Un,UV⟩:=wM U7;refine jO ?_;generalize T3:aI X j k _=am;have U0:∃c,F X am k=some (.cells c 2 .own):=⟨_,by rw[<-T3,aJ UX];rfl⟩;have U1:aT X j k am (k+1):=by rw[<-T3];exact b8
 clear T3;have Ud:∀h,P h->F X am h=F X j h:=λh a=>U1.K h (aU h a);refine(Qs (k:=k+1) (j:=am) A UN UP UR Zo (T5.K (aK:=P) Ud (λ_ e=>e)) (λh a=>zK (aU h a)) Ub UM U7).Zm ?_;rintro M ah ar ⟨rfl,T1⟩;have Uo:=T1.le;rw[<-T1.K _ Zo]at U0;have U2:=U1.trans T1;obtain⟨b,aB,bz,aR,rfl,T,a0,T7,UA⟩:=id T5;have UC:=UA.wide;have U8:=T7.len;rw[UC.1]at U8;have US:=aU b T;have aw:decide ((0:Int)≠0)=false:=rfl;rw[<-U2.df _ _ US]at a0;refine cb @aw @a0 @U8 ⟨?_⟩;refine cG (λm z S' UE=>∃(E:Nat),z.g 0=some (.ptr b 0)/\z.g 2=some (.ptr k 0)/\z.g 13=some aB/\z.g 14=some (.Z aa.length)/\z.g 15=some (.Z E)/\E+m=aa.length/\aT X j k S' UE/\k<UE/\(∃c,F X S' k=some (.cells c 2 .own))/\l3 aa=qg aa E (aa.drop E))
  aa.length ⟨0,av,av,av,av,cW,Zo,U2,Zo,U0,rfl⟩ ?_
 rintro m z TY i ⟨E,t0,T9,UF,T8,O,Um,w,Us,⟨UG,r⟩,l⟩;have Up:=w.le;cases m with
 |zero=>have d:=zL E aa.length;rw[ZM Zo]at l;refine eC @O @T8 @T9 @d @rJ @rK ⟨?_⟩;refine⟨by rw[l];rfl, ?_⟩;exact⟨Zo,λh a=>by rw[ag Zo Zo];exact w.K h a⟩|succ m=>
  have d:=zM E aa.length;have UH:=zP E;obtain⟨g,L⟩:=zN aa E;have UT:=Zl L;have al:aa.drop E=g::aa.drop (E+1):=by obtain⟨Uc,a⟩:=Ze.1 L;rw[Zz Uc,a]
  rw[al,qg]at l;obtain⟨row,UZ,T6⟩:=UA.get E g L;have Ue:∀h,P h->F X TY h=F X j h:=λh a=>w.K h (aU h a);have UU:=T7.c0 E (by rw[UC.1];omega);have Ua:=(T7.K Ue).row Zd UZ;have dF:=T6.ei;have UY:=T6;obtain⟨bK,bM,Uk,Uj,bb,bn,bH,Ul,Uv,rfl,_⟩:=T6;refine eC @O @T8 @UF @d @UU @Ua ⟨?_⟩;refine dh (eR (q:=6) (b:=i) (J:=0) (n:=6) (c:=B.ofList [.str [],.Z 0,.au,.au,.au,.au] 0 .nil) (aJ Zo) Zo rfl Zd Zd dF) ?_;generalize T4:aI X _ i _=s;have UJ:F X s i=zO [.str g.name,.Z g.at_,bK,bM,Uk,Uj] 6:=by rw[<-T4,aJ Zo];rfl
  have UD:∀h,h<i->F X s h=F X TY h:=λh a=>by rw[<-T4];exact zQ
  clear T4;have U3:aT X j k s (i+1):=⟨Zo,λh a=>by rw[UD h Zo];exact w.K h a⟩;rw[<-UD _ Zo]at r;refine bA @t0 (aZ UJ) ⟨?_⟩;refine(s5 (k:=i+1) (j:=s) A.tobW Zo (λh a=>zK (aU h a)) (UY.K (aK:=P) (λh a=>U3.K h (aU h a)) (λ_ e=>e)) (by rw[v7];have:=(UV g UT).vars;simp only[jC];omega)).Zm ?_;rintro M TZ f ⟨bw,Uf,Uw,bu,rfl,UB,U9,Uh,Ui,Ut,Uu,T2⟩;have Uq:=T2.le;have UO:aT X j k TZ f:=U3.trans (T2.gr Zo);rw[<-T2.K _ Zo]at r;refine bA @t0 @O ⟨?_⟩;generalize C:aI X _ (f+1) _=p;have UK:F X p (f+1)=zO [.ptr b 0,.Z (E:Int),.ptr bw 0,.map f,.Z 0,.Z 0] 6:=by rw[<-C,aJ Zo];rfl
  have UL:F X p f=some (.map [] 0):=by rw[<-C];simp(disch:=omega) only[ag,aJ]
  have x:aT X TZ f p (f+1+1):=by rw[<-C];exact b8
  clear C;have U4:aT X j k p (f+1+1):=UO.trans (x.gr Zo);rw[<-x.K _ Zo]at r;have UQ:∀h,(P h\/bR (i+1) f h)->h<f+1+1/\h≠f+1/\h≠f:=by
   rintro h (a|a)
   ·have:=aU h a;omega
   ·have:=a.2;omega
  refine(OH (k:=f+1+1) (j:=p) (P:=λh=>P h\/bR (i+1) f h) (q:=E) (aa:=aa) (g:=g) (bw:=.ptr bw 0) A.tobW Zo Zo Zo Zo Zo Zo UQ
   (T5.K (λh a=>U4.K h (aU h a)) (λ_ e=> .inl e)) L ⟨bw,Uf,rfl,.inr UB,.inr U9,by rw[x.df _ _ (zK UB.2)];exact Uh,Ui.K (x.K _ U9.2)⟩ UK ⟨[],0,UL,λ_=>rfl⟩).Zm ?_
  rintro M t Ug ⟨rfl,G,Ur,U6⟩;have U5:aT X j k t Ug:=⟨Zo,λh a=>by rw[U6 h Zo Zo Zo];exact U4.K h a⟩;rw[<-U6 _ Zo Zo Zo]at r;have f4:ay X t (.ptr (f+1) 4)=some (.Z (hh aa E g).1):=by unfold dC at G;rw[aZ G];rfl
  have UI:ay X t (.ptr (f+1) 5)=some (.Z (hh aa E g).2):=by unfold dC at G;rw[aZ G];rfl
  by_cases N:(hh aa E g).1=0
  ·have T0:decide ((hh aa E g).1≠0)=false:=(by simp[N]);rw[Zi (by simp[N])]at l;refine c9 @f4 @T0 @O @UH ⟨?_⟩;exact⟨m,Zo,E+1,Y t0,Y T9,Y UF,Y T8,av,Zo,U5,Zo,⟨UG,r⟩,l⟩
  ·have T0:decide ((hh aa E g).1≠0)=true:=(by simp[N]);rw[Zu N]at l;have UW:b4 X t 2 (.ptr (f+1) 4)=some (.agg [.Z (hh aa E g).1,.Z (hh aa E g).2]):=(by rw[jw,f4,UI];rfl);refine eC @f4 @T0 @UW @T9 @rJ @rK ⟨?_⟩;refine⟨by rw[l], ?_⟩;exact⟨Zo,λh a=>by rw[ag Zo Zo];exact U5.K h a⟩
def i7(t:ax->Option ct)(w:ax):cD:=((t w).getD lQ).d.ty
def lf:List cD->Bool
 |[]=>true|a::l=>(a::l).all λb=>decide (b=a)
def tp:cD:=⟨true,false,1⟩
def tX(aa:List GE)(nm:ax)(a:List cD):List cD×Bool:=
 match aa[(js aa nm).getD 0]? with
 |none=>([],false)|some g=>(g.out.map (·.ty),decide (g.cv.map (·.ty)=a))
def gI(aa:List GE)(t:ax->Option ct)(u:aX)(a:List cD):List cD×Bool:=
 let a0:=a.headD cg
 if u.kind=1 then([u.ty],true)
 else if u.kind=2 then([i7 t u.name],true)
 else if u.kind=3\/u.kind=5 then([a0],true)
 else if u.kind=4\/u.kind=19\/u.kind=20 then([a0], !a0.b)
 else if u.kind=6 then([a0],(i7 t u.name).b)
 else if u.kind=7\/u.kind=8\/u.kind=9\/u.kind=21\/u.kind=22 then([a0],lf a)
 else if u.kind=16\/u.kind=17\/u.kind=18 then([a0],lf a&& !a0.b)
 else if u.kind=10\/u.kind=11 then([tp],lf a)
 else if u.kind=12\/u.kind=13\/u.kind=14\/u.kind=15 then([tp],lf a&& !a0.b)
 else if u.kind=23 then([(a[1]?).getD cg],a0.b&&lf a.tail)
 else if u.kind=24 then([a0],lf a&&(i7 t u.name).b)
 else if u.kind=26 then([u.ty], !u.ty.b||a0.b)
 else tX aa u.name a
mutual
def o3(aa:List GE)(t:ax->Option ct):aX->Except Int (List cD)
 | .mk q at_ nm no ty n args=>match mP aa t args with
   | .error a=> .error a| .ok (b,one)=>if one=false then .error at_ else
     let r:=gI aa t (.mk q at_ nm no ty n args) b
     if r.2=false then .error at_ else .ok r.1
def mP(aa:List GE)(t:ax->Option ct):List aX->Except Int (List cD×Bool)
 |[]=> .ok ([],true)|u::l=>match o3 aa t u with
  | .error a=> .error a| .ok r=>match mP aa t l with
    | .error a=> .error a| .ok (b,one)=>match r with
      |[x]=> .ok (x::b,one)|_=> .ok (b,false)
end
def vU(t:ax->Option ct)(g:GE):Option Int:=(c7 g).findSome? λx=>if x.2.on≠[]/\(i7 t x.2.on).b=false then some x.2.cY else none
def mZ(aa:List GE)(t:ax->Option ct)(V:cS):Option Int:=match o3 aa t V.right with
 | .error a=>some a| .ok row=>if (1<V.left.length/\V.right.kind≠25)\/row≠V.left.map (i7 t)then some V.at_ else none
def ra(aa:List GE)(g:GE):Option Int:=match vU (dk g) g with
 |some a=>some a|none=>g.eqs.findSome? (mZ aa (dk g))
def xE(aa:List GE):Option Int:=aa.findSome? (ra aa)
end
open Go.aC
section
variable (X : bf) (a : B R) (b : Nat) (S ab : aY) (a0 aL bs a3 a4 a5 fj fO ft : y)
def tf(a:ai)(b:aY):dm:=λc d e=>ic a [.cell 2 56,.cell 3 26] b c c.aP d e
def w8(a:ai)(b c:aY):kY:=λd e f g=>nc a [.cell 2 56,.cell 3 26] b c d e d.aP f g
def Ck:Za0:=λa b c d e f=>Z (fG [.bE] d) λg=>dG a c d g.1 g.2 λc d g=>nu g a d λd g h=>az a 29 [b] g h (λg h i=>vk i a h g 0 λg h i j=>aG (λb c d=>cZ b 2 3 λg h=>t6 (.func (.func 30) [] [g,h]) [] b λb=>oy a c d λc d g=>Z (dp [.gs] [(0,1,c)]) λc=>eM a d g c λc d g=>gy b λh=>ga a d h c λc=>ff b 2 a c λd=>cC b λh=>Z (dp [.bE,.bE,.bE] [(0,1,d),(1,1,h)]) λd=>eM a c g d λc d g=>jh b a d λh=>d9 h (λb c d=>ff b 2 a c λf=>tt λg=>gy b λh=>ga a c h f λc=>gb b λf=>Z (cN a c 2 f g) λc=>tf a e b c d) λi j=>cx (λb c d g=>dy c 27 26 λh=>aG (λc d g=>fp (λa c d=>db a 27 λe=>b (H a 27 e) c d) c 25 27 λb h i=>pN h i a d g λd g h=>hp c λi=>Z (b4 a h 6 d) λj=>az a 31 [i,j] h g (λ_ a e=>b (H c 7 d) a e) (w8 a e f (eH [31,32,33] (H c 7 d)))) λa=>ao h (a (H c 28 h) d g) (j (H c 28 h) d g)) (zU b 5 c 25 h 26 i 27 (.Z 0)) d g) λf=>ao j (cO (h+3) λf=>Z (b4 a i 2 g) λh=>Z (cN a i 1 c .bE) λi=>Z (b4 a i 2 g) λk=>d8 k (some h) (Z (cN a i 2 d h) λh=>tf a e (zU (bI [b]) 2 c 3 d 4 g 12 j) h f)) (f (zU (bI [b]) 2 c 3 d 4 g 12 j) i h)) (w8 a e f (eH [8,9,4] (zS (bI [b]) 2 c 3 d)))
def J6:o5 X 12 [a0] a b S ab=Ck X a0 a b S ab:=Zk
def J5:bD X 12 1=true:=Zk
def ye(a:ai)(b c:y)(d:Option y)(e:B R)(f:Nat)(g:Bool->B R->Nat->Prop):Prop:=
 u4 (some d) (bI [b,c]) λb c=>aG (λa b c=>g a.rc b c) λd=>Z (b0 a e .eql 20 true b .nilIface) λg=>aG d λd=>ao g (d (zS c 5 b 7 g) e f) (Z (ly 26 (.agg [.Z 0,.Z 0]) true b) λh=>Z (hH 1 h) λi=>Z (hH 0 h) λh=>aG d λd=>ao i (nu f a e λe f j=>Z (cN a f 2 e h) λf=>cO (j+3) λj=>Z (b4 a f 2 e) λk=>cC c λl=>Z (cN a f 1 l .bE) λf=>Z (b4 a f 2 e) λl=>d8 l (some k) (ho c λl=>Z (cN a f 2 l k) λa=>d (H (zU c 5 b 7 g 9 i 10 h) 3 e) a j)) (ms zW b e f))
def Di(X:bf)(a0 aL:y)(fX:Option y)(a:B R)(b:Nat)(S:Bool->B R->Nat->Prop):nZ X 30 [a0,aL] fX a b S=ye X a0 aL fX a b S:=Zk
def yf:bD X 30 2=true:=Zk
def Dj:Za1:=λa b c d e f g=>eM a d e c λd e h=>iM a e 6 d 8 h g λe h i=>kh b 2 a h e λe=>BU d a e λh=>aG (λb c d=>eK b 3 5 a c λ_ e=>d9 e (λ_ a b=>f (.tuple []) a b) λf h=>cx (λb c d e=>dy c 54 53 λf=>aG (λc d e=>fp (λa c d=>db a 54 λe=>b (H a 54 e) c d) c 52 54 λb f h=>tq f h a d e λd e f=>cC c λh=>cK 3 d a f λ_ i=>az a 55 [h,i] f e (λe f h=>cK 0 d a f λ_ i=>d9 i (λc d e=>bt (c 11) λf=>Z (c2 f) λf=>Z (aH .gtr f (.Z 1)) λf=>Am f (c 9) (λa=>d2 3 a) d e λd e h=>cF f (ay a e d) e h λd e h=>ox f d e h 0 a λd e h=>cF f (aH .neq d (.Z 25)) e h λd e h=>bJ (λd=>jv d (c 10) e h λe f h=>jv d (c 11) f h λf h i=>r0 d (λb=>az a 56 [e,f] h i b g) h i λe f h=>bJ (λd=>aG b λb=>ao d (eK c 9 2 a f λ_ e=>az a 54 [e] f h (λ_ a e=>b (H c 92 d) a e) g) (b (H c 92 d) f h)) λa=>ao d (a .zV) (a e)) λa=>ao f (a d) (a .zT)) λb j=>cx (λb c d e=>dy c 65 64 λf=>aG (λc d e=>g7 (λa c d=>db a 65 λe=>b (H a 65 e) c d) c 63 65 a d λb f=>cZ c 11 0 λh i=>az a 53 [i,f] d e (λd e g=>vo d g λd=>nw a e g d.1 d.2 3 h λa d e=>b (zS c 13 f 11 a) d e) g) λa=>ao f (a (H c 66 f) d e) (j (H c 66 f) d e)) (zS (zU c 9 d 10 e 11 .au 63 i) 64 b 65 (.Z 0)) f h) g) λa=>ao f (a (H c 55 f) d e) (h (H c 55 f) d e)) (zT b 52 e 53 f 54 (.Z 0)) c d) λf=>cx (λb c d e=>ts c 26 3 λh=>aG (λc d e=>fp (λa c d=>db a 26 λe=>b (H a 26 e) c d) c 25 26 λb f h=>Z (lH false 3 1 f h) λf=>Z (c2 f) λh=>aG b λb=>cx (λc d e f=>dy d 31 30 λh=>aG (λb d e=>aG (λa b d=>db a 31 λe=>c (H a 31 e) b d) λc=>vl b 29 31 a d e λd e f=>cK 5 d a f λ_ h=>Z (b0 a f .neq 9 true h (.str [])) λh=>gG h (b 0) f e λe f i=>kN h 5 d f i a λf i j=>f6 h (λb=>az a 53 [e,f] i j b g) i j λe f i=>cF h (ku false 0 1 e) f i λe f i=>cF h (dP .not e) f i λe f i=>bJ (λe=>aG c λc=>ao e (mB 6 d a f 54 i g λ_ a f=>c (zS b 7 d 45 e) a f) (c (zS b 7 d 45 e) f i)) λa=>ao h (a e) (a .zT)) λa=>ao h (a (H d 32 h) e f) (b (H d 32 h) e f)) (zU c 5 f 29 f 30 h 31 (.Z 0)) d e) λa=>ao h (a (H c 27 h) d e) (f (H c 27 h) d e)) (zT (bI [b,c]) 3 d 25 h 26 (.Z 0)) e i
theorem LF:dM X 31 [a0,aL] (Dj X a0 aL):=⟨Zk,Zk⟩
def CJ:Za1:=λa b c d e f g=>az a 158 [b,c] d e (λa b c=>mA a λa=>f a b c) g
theorem KA:dM X 147 [a0,aL] (CJ X a0 aL):=⟨Zk,Zk⟩
def DG:Za1:=λa b c d e f g=>tr e a d λd e h=>dB b 2 a e λ_ b=>az a 13 [b,c] e h (λb c e=>pO b e a c λ_ b c e=>Z (d2 1 b) λb=>Z (d2 2 b) λb=>fZ a e b λb=>Z (cN a e 3 d b) λb=>fZ a b d λa=>f a b c) g
theorem Mk:dM X 53 [a0,aL] (DG X a0 aL):=⟨Zk,Zk⟩
def DH:Za0:=λ_ a b c _ d=>tv 26 a λa=>ms d a b c
theorem Mm:dM X 54 [a0] (DH X a0):=⟨Zk,Zk⟩
def DI:Za1:=λa b c d e f g=>dB c 8 a d λ_ h=>d9 h (λb c d=>bt (b 6) λe=>Z (dP .not e) λe=>aG (λb c d=>cZ b 0 1 λe h=>hp b λi=>az a 94 [e,h,i] c d (λc d e=>et c λc h=>Z (dP .not h) λi=>aG (λb c d=>jh b a c λe=>dB e 0 a c λ_ e=>cZ b 1 10 λg h=>d6 (hT a c d 40 e g h) c d λ_ a c=>bt (b 10) λb=>f b a c) λf=>ao i (ho b λj=>dB j 1 a d λ_ j=>az a 54 [j] d e (λ_ a d=>f (zT b 10 c 11 h 49 i) a d) g) (f (zT b 10 c 11 h 49 i) d e)) g) λf=>ao e (ho b λh=>dB h 1 a c λ_ h=>az a 54 [h] c d (λ_ a c=>f (H b 35 e) a c) g) (f (H b 35 e) c d)) λf i=>cx (λb c d e=>dy c 17 16 λf=>aG (λc d e=>g7 (λa c d=>db a 17 λe=>b (H a 17 e) c d) c 15 17 a d λb f=>cC c λh=>az a 55 [h,f] d e (λd e g=>Z (c2 d) λh=>tz h λh=>aG (λc d e=>ov c 5 9 0 a d λf _ g=>vo g e λg=>nw a d e g.1 g.2 3 f λa d e=>b (H c 5 a) d e) λa=>ao h (b (zU c 8 f 9 d 26 h 6 .zT) e g) (a (zT c 8 f 9 d 26 h) e g)) g) λa=>ao f (a (H c 18 f) d e) (i (H c 18 f) d e)) (zS (zU (bI [b,c]) 4 .au 5 .au 6 .zV 15 h) 16 f 17 (.Z 0)) d e
theorem Mo:dM X 55 [a0,aL] (DI X a0 aL):=⟨Zk,Zk⟩
def CS:Za1:=λa b c d e f g=>d9 b (λ_ a b=>f (.Z (-1)) a b) λh i=>cx (λb c d e=>dy c 8 7 λh=>aG (λc d e=>fp (λa c d=>db a 8 λe=>b (H a 8 e) c d) c 8 1 λb h i=>cC c λj=>Z (da 3 j h) λj=>fZ a d j λj=>e5 a i [j] d e (λa d e=>aG b λb=>ao a (f h d e) (b (zS c 5 h 16 a) d e)) g) λa=>ao h (a (H c 9 h) d e) (i (H c 9 h) d e)) (zT (bI [b,c]) 4 (.Z 0) 7 h 8 (.Z 0)) d e
theorem KU:dM X 158 [a0,aL] (CS X a0 aL):=⟨Zk,Zk⟩
def Eg:Za2:=λa b c d e f g h=>dB c 0 a e λ_ i=>aG (λb c d=>cZ b 0 1 λe f=>gy b λb=>az a 127 [e,f,b] c d (λa b c=>et a λa d=>g (.tuple [a,d]) b c) h) λj=>jg i 1 j λj k=>ao j (gx c 4 λb=>fZ a e b λb=>e5 a (.func (.func 125) [] []) [b,.zV] e f (λa b c=>et a λa d=>g (.tuple [a,d]) b c) h) (jg i 2 k λk l=>ao k (dB c 2 a e λ_ c=>az a 53 [b,c] e f (λb c d=>e5 a (.func (.func 125) [] []) [b,.zV] c d (λa b c=>et a λa d=>g (.tuple [a,d]) b c) h) h) (Z (aH .eql i (.Z 3)) λm=>aG (λb c d=>bt (b 35) λe=>aG l λf=>ao e (ov b 8 2 0 a c λb _ e=>e5 a b [e,.zV] c d (λa b c=>et a λa d=>g (.tuple [a,d]) b c) h) (jf b 12 4 λe=>aG (λb c d=>bt (b 45) λe=>aG f λf=>ao e (cO (d+14) λd=>ov b 8 2 0 a c λe _ f=>gy b λb=>tw 3 b λb=>cK 0 b a c λ_ b=>Z (dP .not b) λb=>e5 a e [f,b] c d (λa b c=>et a λa d=>g (.tuple [a,d]) b c) h) (lS b 6 f λe f=>ao e (cO (d+16) λd=>ov b 8 2 0 a c λe f i=>cZ b 0 1 λb j=>dB j 2 a c λ_ j=>az a 53 [b,j] c d (λb c d=>Z (ku false 0 1 b) λb=>fZ a c f λf=>d8 f (some i) (e5 a e [i,b] c d (λa b c=>et a λa d=>g (.tuple [a,d]) b c) h)) h) (jf b 12 7 λi=>aG (λb c d=>bt (b 77) λe=>aG f λf=>ao e (cO (d+11) λd=>ov b 8 2 0 a c λe f i=>gy b λb=>az a 126 [b] c d (λb c d=>fZ a c f λf=>d8 f (some i) (e5 a e [i,b] c d (λa b c=>et a λa d=>g (.tuple [a,d]) b c) h)) h) (jf b 12 16 λe=>aG (λb c d=>bt (b 92) λe=>aG f λf=>ao e (cO (d+18) λd=>ov b 8 2 0 a c λe f i=>gy b λj=>az a 126 [j] c d (λc d j=>sM c (b 2) d λb d=>f5 c (da 3 b (.Z 0)) d λb d=>xZ c b d a λb d=>bJ (λb=>fZ a d f λc=>d8 c (some i) (e5 a e [i,b] d j (λa b c=>et a λa d=>g (.tuple [a,d]) b c) h)) λa=>ao c (a b) (a .zT)) h) (jf b 12 10 λe=>aG (λb c d=>bt (b 112) λe=>aG f λf=>ao e (cO (d+9) λd=>bt (b 8) λe=>Z (b4 a c 3 (.ptr 2 0)) λf=>gy b λb=>az a 126 [b] c d (λb c d=>Z (b4 a c 3 (.ptr 2 0)) λi=>d8 i (some f) (e5 a e [f,b] c d (λa b c=>et a λa d=>g (.tuple [a,d]) b c) h)) h) (jf b 12 12 λe=>aG (λb c d=>bt (b 122) λe=>aG f λf=>ao e (cO (d+16) λd=>bt (b 8) λe=>Z (b4 a c 3 (.ptr 2 0)) λf=>gy b λi=>az a 126 [i] c d (λc d i=>sM c (b 2) d λb d=>f5 c (da 3 b (.Z 0)) d λb d=>xZ c b d a λb d=>bJ (λb=>Z (b4 a d 3 (.ptr 2 0)) λc=>d8 c (some f) (e5 a e [f,b] d i (λa b c=>et a λa d=>g (.tuple [a,d]) b c) h)) λa=>ao c (a b) (a .zT)) h) (lS b 23 f λe f=>ao e (cO (d+18) λd=>ov b 8 2 1 a c λe f i=>gy b λj=>tw 3 j λj=>cK 0 j a c λ_ j=>sM j (b 2) c λb c=>f5 j (fY a c 3 b (some (.Z 1)) none none) c λb c=>f6 j (λe=>az a 126 [b] c d e h) c d λb c d=>bJ (λb=>fZ a c f λf=>d8 f (some i) (e5 a e [i,b] c d (λa b c=>et a λa d=>g (.tuple [a,d]) b c) h)) λa=>ao j (a b) (a .zT)) (lS b 24 f λf i=>ao f (cO (d+20) λd=>ov b 8 2 0 a c λe f i=>gy b λj=>az a 126 [j] c d (λc d j=>sM c (b 0) d λd k=>pP c b 1 k 2 a λb k=>fZ a k f λl=>d8 l (some i) (f6 c (λc=>az a 53 [d,b] k j c h) k j λb d j=>f5 c (ku false 0 1 b) d λb d=>bJ (λb=>fZ a d f λc=>d8 c (some i) (e5 a e [i,b] d j (λa b c=>et a λa d=>g (.tuple [a,d]) b c) h)) λa=>ao c (a b) (a .zT))) h) (lS b 26 i λi j=>ao i (cO (d+22) λd=>cZ b 8 1 λe f=>gx f 4 λf=>fZ a c f λf=>ho b λi=>gx i 4 λi=>cK 0 i a c λ_ i=>Z (dP .not i) λi=>Ak i (b 2) c λb c=>m6 i (da 3 b (.Z 0)) c λb c=>m6 i (d2 0 b) c λb c=>m6 i (ay a c b) c λb c=>bJ (λb=>e5 a e [f,b] c d (λa b c=>et a λa d=>g (.tuple [a,d]) b c) h) λa=>ao i (a .zV) (a b)) (j (zT b 141 e 159 f 179 i) c d))))) λa=>ao e (a (H b 122 e) c d) (lS b 13 a λa f=>ao a (f (zS b 122 e 122 a) c d) (lS b 14 f λf g=>ao f (g (zT b 122 e 122 a 122 f) c d) (jf b 12 15 λh=>g (zU b 122 e 122 a 122 f 122 h) c d))))) λa=>ao e (a (H b 112 e) c d) (jf b 12 11 λf=>a (zS b 112 e 112 f) c d))) λa=>ao e (a (H b 92 e) c d) (lS b 17 a λa f=>ao a (f (zS b 92 e 92 a) c d) (jf b 12 18 λg=>f (zT b 92 e 92 a 92 g) c d)))) λa=>ao i (a (zS b 61 e 77 i) c d) (lS b 8 a λa f=>ao a (f (zT b 61 e 77 i 77 a) c d) (lS b 9 f λf g=>ao f (g (zU b 61 e 77 i 77 a 77 f) c d) (lS b 21 g λg h=>ao g (h (H (zU b 61 e 77 i 77 a 77 f) 77 g) c d) (jf b 12 22 λj=>h (zS (zU b 61 e 77 i 77 a 77 f) 77 g 77 j) c d))))))) λa=>ao e (a (H b 45 e) c d) (lS b 19 a λa f=>ao a (f (zS b 45 e 45 a) c d) (jf b 12 20 λg=>f (zT b 45 e 45 a 45 g) c d)))) λa=>ao m (a (zT (zU (bI [b,c,d]) 6 .au 7 .zT 8 (.func (.func 125) [] []) 12 i) 13 j 23 k 35 m) e f) (Z (aH .eql i (.Z 5)) λg=>a (zU (zU (bI [b,c,d]) 6 .au 7 .zT 8 (.func (.func 125) [] []) 12 i) 13 j 23 k 35 m 35 g) e f)))
theorem Nj:dM X 94 [a0,aL,bs] (Eg X a0 aL bs):=⟨Zk,Zk⟩
def Cq:Za1:=λa b c d e f _=>eM a d e b λb d e=>fZ a d b λb=>vo b e λb=>dG a d e b.1 b.2 λa b d=>f (.tuple [a,c]) b d
theorem JY:dM X 125 [a0,aL] (Cq X a0 aL):=⟨Zk,Zk⟩
def Cr:Za0:=λa b c d e f=>eM a c d b λb c d=>Z (ay a c b) λg=>az a 147 [g,.func (.func 148) [] [b]] c d (λa b c=>Z (dP .not a) λa=>e a b c) f
theorem J0:dM X 126 [a0] (Cr X a0):=⟨Zk,Zk⟩
def Cs:Za2:=λa b c d e f g h=>cO (f+14) λf=>dB b 1 a e λ_ i=>dB c 2 a e λ_ c=>az a 89 [i,c] e f (λc e f=>et c λc _=>dB b 1 a e λ_ b=>dB b 0 a e λ_ b=>pN b c a e f λb c e=>cO (c+12) λc=>cK 3 b a e λ_ f=>cK 2 b a e λb i=>e5 a (.func (.func 149) [] []) [f] e c (λc e f=>Z (ay a e b) λb=>d8 b (some i) (e5 a (.func (.func 149) [] []) [i] e f (λb e f=>az a 56 [b,d] e f (λa b d=>g (.tuple [c,a]) b d) h) h)) h) h
theorem J2:dM X 127 [a0,aL,bs] (Cs X a0 aL bs):=⟨Zk,Zk⟩
def CK:Za1:=λa b c d e f _=>eM a d e b λb d e=>cO (e+6) λe=>fZ a d b λb=>Z (ay a d c) λc=>tw 3 c λc=>fZ a d c λc=>Z (b0 a d .neq 52 false b c) λa=>f a d e
theorem KC:dM X 148 [a0,aL] (CK X a0 aL):=⟨Zk,Zk⟩
def CL:Za0:=λa b c d e _=>d9 b (λa b c=>gb a λa=>e a b c) λe f=>cx (λb c d e=>dy c 8 7 λg=>aG (λc d e=>aG (λa c d=>db a 8 λe=>b (H a 8 e) c d) λb=>vl c 6 8 a d e λd e f=>gb c λg=>Z (d2 2 d) λh=>fZ a f h λh=>vo h e λh=>nw a f e h.1 h.2 3 g λa e f=>b (zS c 5 d 3 a) e f) λa=>ao g (a (H c 9 g) d e) (f (H c 9 g) d e)) (H (zU (bI [b]) 2 .au 3 .au 6 b 7 e) 8 (.Z 0)) c d
theorem KE:dM X 149 [a0] (CL X a0):=⟨Zk,Zk⟩
variable{X:bf}{j S' am ah:B R}{k W ak ar:Nat}{P:Nat->Prop}
def hK(X:bf)(j:B R)(P:Nat->Prop)(aB:y)(l:List cD):Prop:=∃b,ca X j P b aB 3 (l.map cI)
def hK.K{aK:Nat->Prop}{aB:y}{l:List cD}(e:hK X j P aB l)(q:∀h,P h->F X S' h=F X j h)(a:∀h,P h->aK h):hK X S' aK aB l:=by obtain⟨b,e⟩:=e;exact⟨b,(e.K q).lift a⟩
def FU(X:bf):List Field:=match (o X).P.underlying 52 with|some (.struct fR)=>fR.toList|_=>[]
def PA(eq:Nat->y->y->Option Bool)(a b c d f g:y):p6 X eq (FU X) [a,b,c] [d,f,g]=(match eq 4 a d with|some true=>(match eq 4 b f with|some true=>(match eq 3 c g with|some true=>some true|some false=>some false|none=>none)|some false=>some false|none=>none)|some false=>some false|none=>none):=Zk
def Px(a b:List y):f3 X j 50 52 (.agg a) (.agg b)=p6 X (f3 X j 49) (FU X) a b:=Zk
def Ft(a b:Bool):f3 X j 49 4 (.bool a) (.bool b)=some (sm a b):=Zk
def PM(a b:Int):f3 X j 49 3 (.Z a) (.Z b)=some (jX a b):=Zk
def EQ(a b:Bool):sm a b=decide (a=b):=by cases a<;>cases b<;>rfl
def PK(a b:cD):f3 X j 50 52 (.agg (cI a)) (.agg (cI b))=some (decide (a=b)):=by obtain⟨aL,bs,a3⟩:=a;obtain⟨bb,bn,bH⟩:=b;simp only[cI];rw[Px,PA,Ft,Ft,PM,EQ,EQ,qM];by_cases c:aL=bb<;>by_cases d:bs=bn<;>by_cases f:a3=bH<;>simp[c,d,f]
def G7(a b:cD):b0 X j .neq 52 false (.agg (cI a)) (.agg (cI b))=some (.bool (!decide (a=b))):=by have e:b0 X j .neq 52 false (.agg (cI a)) (.agg (cI b))=(match f3 X j 50 52 (.agg (cI a)) (.agg (cI b))with|some b=>iz (!b)|none=>none):=Zk;rw[e,PK];cases decide (a=b)<;>rfl
def uH{b J:Nat}{c:B y}{n:Nat}{st:it}{t:cD}(T:F X j b=some (.cells c n st))(e:c.g1 J 3=some (cI t)):b4 X j 3 (.ptr b J)=some (.agg (cI t)):=by rw[i2,T];simp only[e,ZZ]
structure nG(X:bf)(j:B R)(P:Nat->Prop)(aB:y)(l:List cD):Prop where
 len:c2 aB=some (.Z l.length)
 many:l.length<=300000
 c0:∀(i:Nat) t,l[i]? =some t->∃b J,da 3 aB (.Z i)=some (.ptr b J)/\P b/\b4 X j 3 (.ptr b J)=some (.agg (cI t))/\ay X j (.ptr b J)=some (.bool t.b)
def nG.K{aK:Nat->Prop}{aB:y}{l:List cD}(e:nG X j P aB l)(q:∀h,P h->F X S' h=F X j h)(g:∀h,P h->aK h):nG X S' aK aB l:=
 ⟨e.len,e.many,λi t af=>by
  obtain⟨b,J,c,a,d,f⟩:=e.c0 i t af;exact⟨b,J,c,g b a,by rw[i2,q b a, <-i2];exact d,zV (q b a) f⟩⟩
def hK.rd{aB:y}{l:List cD}(e:hK X j P aB l):nG X j P aB l:=by
 obtain⟨b,e⟩:=e;have a:=e.len;have c:=e.many;rw[Zj]at a c;refine⟨a,c,λi t af=> ?_⟩;have d:=(Ze.1 af).1;have I:(l.map cI)[i]? =some (cI t):=by rw[Zn,af];rfl
 refine⟨b,i*3,e.c0 i (by rw[Zj];omega),e.T (λu=>by rw[u]at I;cases I),e.row Zd I, ?_⟩;exact e.cell i (cI t) 0 _ I rfl
def TO(m:bW X){a b:cD}{l:List cD}{aB:y}{c:Nat}(w:(o X).aD<=k)(p:c<k)(r:ay X j (.ptr c 0)=some aB)(A:nG X j P aB (b::l))(aU:∀h,P h->h<k):
 az X 148 [.agg (cI a),.ptr c 0] j k (λM S' W=>M=.bool (!decide (a=b))/\aT X j k S' W) zW:=by
 refine z6 m (KC ..) ?_;unfold CK;obtain⟨bz,J,g,n,v,_⟩:=A.c0 0 b rfl;have g:da 3 aB (.Z 0)=some (.ptr bz J):=g;refine l1 ?_;generalize f:aI X j k _=am;have i:b4 X am 3 (.ptr k 0)=some (.agg (cI a)):=by rw[<-f];exact uH (aJ w) (by cases a;rfl)
 have d:aT X j k am (k+1):=by rw[<-f];exact b8
 clear f;have t:=λh (C:P h)=>d.K h (aU h C);have x:b4 X am 3 (.ptr bz J)=some (.agg (cI b)):=by rw[i2,t bz n, <-i2];exact v
 have s:ay X am (.ptr c 0)=some aB:=zV (d.K c p) r;refine dE @i @s @g @x @G7 ⟨?_⟩;exact⟨rfl,d.more Zo⟩
def TP(b:cD)(l:List cD):lf (b::l)=(b::l).all (λa=>decide (a=b)):=rfl
def Ro(A:bW X){b:cD}{l:List cD}{aB:y}{c:Nat}(U1:(o X).aD<=k)(T0:c<k)(T1:ay X j (.ptr c 0)=some aB)(r:nG X j P aB (b::l))(aU:∀h,P h->h<k):
 az X 158 [aB,.func (.func 148) [] [.ptr c 0]] j k (λM S' W=>(∃q:Int,M=.Z q/\decide (0<=q)= !lf (b::l))/\aT X j k S' W) zW:=by
 refine z6 A (KU ..) ?_;unfold CS;have T4:=r.len;have U0:=r.many;rw[TP];generalize O:b::l=L at*;refine bh @T4 ⟨?_⟩;refine cG (λm z S' T7=>∃(E:Nat),z.g 0=some aB/\z.g 1=some (.func (.func 148) [] [.ptr c 0])/\z.g 7=some (.Z L.length)/\z.g 8=some (.Z E)/\E+m=L.length/\aT X j k S' T7/\L.all (λa=>decide (a=b))=(L.drop E).all (λa=>decide (a=b)))
  L.length ⟨0,av,av,av,cW,Zo,aT.refl _ _,rfl⟩ ?_
 rintro m z ah ar ⟨E,t0,t1,v,w,TY,i,f⟩;have TZ:=i.le;cases m with
 |zero=>have d:=zL E L.length;rw[ZM Zo]at f;refine cb @w @v @d ⟨?_⟩;exact⟨⟨-1,rfl,by rw[f];rfl⟩,i⟩|succ m=>
  have d:=zM E L.length;have N:=zP E;obtain⟨g,C⟩:=zN L E;have al:L.drop E=g::L.drop (E+1):=by obtain⟨T6,n⟩:=Ze.1 C;rw[Zz T6,n]
  have G:=λh (n:P h)=>i.K h (aU h n);obtain⟨bz,J,T3,T9,T5,_⟩:=(r.K (aK:=P) G (λ_ e=>e)).c0 E g C;have T2:ay X ah (.ptr c 0)=some aB:=zV (i.K c T0) T1;rw[al,List.all_cons]at f;refine cd @w @v @t1 @t0 @d @T3 @T5 ⟨?_⟩;refine(TO A (b:=b) (l:=l) (aB:=aB) Zo Zo T2 (by rw[O];exact r.K (aK:=P) G (λ_ e=>e)) (λh n=>zK (aU h n))).Zm ?_;rintro M T8 U2 ⟨rfl,x⟩;by_cases p:g=b
  ·have s:(!decide (g=b))=false:=(by simp[p]);have t:decide (g=b)=true:=(by simp[p]);rw[t,Bool.true_and]at f;rw[s];refine bA @w @N ⟨?_⟩;exact⟨m,Zo,E+1,Y t0,Y t1,Y v,av,Zo,i.trans x,f⟩
  ·have s:(!decide (g=b))=true:=(by simp[p]);have t:decide (g=b)=false:=(by simp[p]);rw[t,Bool.false_and]at f;rw[s];refine br ⟨?_⟩;exact⟨⟨E,rfl,by rw[f];simp⟩,i.trans x⟩
def OX(a:bW X){b:cD}{l:List cD}{aB:y}{c:Nat}(m:(o X).aD<=k)(f:c<k)(g:ay X j (.ptr c 0)=some aB)(n:nG X j P aB (b::l))(aU:∀h,P h->h<k):
 az X 147 [aB,.func (.func 148) [] [.ptr c 0]] j k (λM S' W=>M=.bool (!lf (b::l))/\aT X j k S' W) zW:=by
 refine z6 a (KA ..) ?_;unfold CJ;refine(Ro a m f g n aU).Zm ?_;rintro M S' p ⟨⟨q,rfl,i⟩,d⟩;refine br ⟨?_⟩;exact⟨by rw[i],d⟩
def s7(g:bW X){b:cD}{l:List cD}{aB:y}(n:(o X).aD<=k)(p:aB.cells=[aB])(r:nG X j P aB (b::l))(aU:∀h,P h->h<k):
 az X 126 [aB] j k (λM S' W=>M=.bool (lf (b::l))/\aT X j k S' W) zW:=by
 refine z6 g (J0 ..) ?_;unfold Cr;refine l1 ?_;rw[p];generalize a:aI X j k _=am;have d:ay X am (.ptr k 0)=some aB:=by rw[<-a,aZ (aJ n)];rfl
 have f:aT X j k am (k+1):=by rw[<-a];exact b8
 clear a;have m:=λh (c:P h)=>f.K h (aU h c);refine bh @d ⟨?_⟩;refine(OX g Zo Zo d (r.K (aK:=P) m (λ_ e=>e)) (λh c=>zK (aU h c))).Zm ?_;rintro M ah ar ⟨rfl,i⟩;refine br ⟨?_⟩;exact⟨Zs,f.trans i⟩
def uW(n:bW X){t:ax->Option ct}{b:Nat}{bw:y}(p:(o X).aD<=k)(O:b<k)(L:ay X j (.ptr b 2)=some bw)(T3:iv X j P bw t)(aU:∀h,P h->h<k)(w:ax):
 az X 53 [.ptr b 0,.str w] j k (λM S' W=>M=.agg (cI (i7 t w))/\aT X j k S' W) zW:=by
 refine z6 n (Mk ..) ?_;unfold DG;refine jO ?_;generalize i:aI X j k _=am;have r:F X am k=zO [.zT,.zT,.Z 0] 3:=by rw[<-i,aJ p];rfl
 have f:aT X j k am (k+1):=by rw[<-i];exact b8
 clear i;have T0:=λh (a:P h)=>f.K h (aU h a);have N:ay X am (.ptr b 2)=some bw:=zV (f.K b O) L;refine bh @N ⟨?_⟩;refine(o9 n Zo (T3.K (aK:=P) T0 (λ_ e=>e)) (λh a=>zK (aU h a)) w).Zm ?_;rintro M ah ar ⟨rfl,g⟩;have T5:=g.le;unfold i7;generalize (t w).getD lQ=v at*;have T4:hG v=[.Z v.kind,.str v.d.name,.Z v.d.at_,.bool v.d.ty.b,.bool v.d.ty.s,.Z v.d.ty.w,.str v.d.on,.Z v.d.cY,.bool v.d.no,.Z v.eq,.Z v.left]:=rfl;rw[T4];have s:F X ah k=zO [.zT,.zT,.Z 0] 3:=by rw[g.K _ Zo];exact r
 have A:=f.trans g;refine br ⟨?_⟩;generalize d:aI X _ ar _=c;have x:F X c ar=zO [.Z v.kind,.str v.d.name,.Z v.d.at_,.bool v.d.ty.b,.bool v.d.ty.s,.Z v.d.ty.w,.str v.d.on,.Z v.d.cY,.bool v.d.no,.Z v.eq,.Z v.left] 11:=by rw[<-d,aJ Zo];rfl
 have T6:F X c k=zO [.zT,.zT,.Z 0] 3:=by rw[<-d];simp(disch:=omega) only[ag];exact s
 have C:aT X j k c (ar+1):=⟨Zo,λh a=>by rw[<-d];simp(disch:=omega) only[ag];exact A.K h a⟩;clear d;have T1:b4 X c 3 (.ptr ar 3)=some (.agg (cI v.d.ty)):=uH x rfl;refine bh @T1 ⟨?_⟩;generalize l:aI X _ k _=m;have T2:b4 X m 3 (.ptr k 0)=some (.agg (cI v.d.ty)):=by rw[<-l];exact uH (aJ p) rfl
 have G:aT X j k m (ar+1):=⟨Zo,λh a=>by rw[<-l];simp(disch:=omega) only[ag];exact C.K h a⟩;clear l;refine bh @T2 ⟨?_⟩;exact⟨rfl,G⟩
def ud(b:bW X)(c:(o X).aD<=k)(a:Int){S:aY}:
 az X 54 [.Z a] j k S (λM S' W=>M=iU 26 a/\aT X j k S' W):=by
 refine z6 b (Mm ..) ?_;unfold DH;refine br ⟨?_⟩;exact⟨⟨rfl,b8⟩⟩
def jd(l:List cD):List (List y):=l.map cI
def va(l:List cD):∀r∈jd l,r.length=3:=by intro r I;obtain⟨t,_,rfl⟩:=ZB.1 I;rfl
def Iw(l:List cD):(jd l).flatten.length=l.length*3:=by rw[mb (va l)];simp[jd]
def TQ(t:cD):ei (cI t)=true:=rfl
def BL{s:y}{l:List cD}{aQ:List Nat}{t:cD}{bz:Nat}{st:it}(e:cT X j s 3 (jd l).flatten aQ)(T:F X j bz=some (.cells (B.ofList (cI t) 0 .nil) 3 st))(p:l.length<=300000)(n:(o X).aD<=k)(m:∀h∈aQ,h<k)(cap:Nat):
 ∃b S' a,fP X j k 3 s (.slice bz 0 1 cap)=some (.cJ b S' (k+1))/\cT X S' b 3 (jd (l++[t])).flatten a/\(∀h∈a,h=k\/h∈aQ)/\∀h,h≠k->h∉aQ->F X S' h=F X j h:=by
 have i:=Iw l;obtain⟨b,S',a,c,d,f,g⟩:=e.append (k:=k) Zd (g6 (q:=1) T (fS _) rfl cap) rfl Zd (TQ t) (by rw[i];simp[cI];omega) n m;refine⟨b,S',a,c,.inl ?_,f,g⟩
 have:(jd (l++[t])).flatten=(jd l).flatten++cI t:=by simp[jd]
 rw[this];exact d
def Iv(T7:bW X){a:List cR}{aB:y}{b:Nat}(UD:(o X).aD<=k)(A:ca X j P b aB 8 (a.map cV))(aU:∀h,P h->h<k)(UC:a.length<=100000):
 az X 149 [aB] j k (λM S' W=>(M.cells=[M]/\hK X S' (bR k W) M (a.map (·.ty)))/\aT X j k S' W) zW:=by
 refine z6 T7 (KE ..) ?_;unfold CL;have N:=A.len;rw[Zj]at N;refine bh @N ⟨?_⟩;refine cG (λm z S' T0=>∃(E:Nat) (s:y) (aQ:List Nat),z.g 3=some s/\z.g 6=some aB/\z.g 7=some (.Z a.length)/\z.g 8=some (.Z E)/\E+m=a.length/\aT X j k S' T0/\cT X S' s 3 (jd ((a.take E).map (·.ty))).flatten aQ/\∀h∈aQ,k<=h/\h<T0)
  a.length ⟨0,.au,[],av,av,av,cW,Zo,aT.refl _ _,.inl (.inl ⟨rfl,rfl,rfl⟩),Zs⟩ ?_
 rintro m z ah ar ⟨E,s,aQ,t3,T1,C,G,UA,n,p,f⟩;have UB:=n.le;cases m with
 |zero=>have d:=zL E a.length;rw[Zy Zo]at p;refine c9 @G @C @d @t3 ⟨?_⟩;obtain⟨v,U8,U9⟩:=cT.one p;obtain⟨T2,T6⟩:=p.kG (P:=bR k ar) Zd (va _) (by simp[jd];omega) f;exact⟨⟨v,T2,T6⟩,n⟩
 |succ m=>
  have d:=zM E a.length;have v:=zP E;obtain⟨g,L⟩:=zN a E;have TZ:=λh (c:P h)=>n.K h (aU h c);have TY:=A.c0 E (by rw[Zj];omega);have U2:=(A.K TZ).row Zd (i:=E) (r:=cV g) (by rw[Zn,L];rfl);have U4:a.take (E+1)=a.take E++[g]:=by rw[ZE,L];rfl
  refine eC @G @C @T1 @d @TY @U2 ⟨?_⟩;generalize w:aI X _ ar _=l;have T4:F X l ar=zO (cV g) 8:=by rw[<-w,aJ Zo];rfl
  have U5:∀h,h<ar->F X l h=F X ah h:=λh c=>by rw[<-w];exact zQ
  clear w;have U1:b4 X l 3 (.ptr ar 2)=some (.agg (cI g.ty)):=uH T4 rfl;refine cb @t3 @U1 cI.eq_1 ⟨?_⟩;generalize x:aI X l _ _=t;have T5:F X t (ar+1)=zO (cI g.ty) 3:=by rw[<-x,aJ Zo];rfl
  have O:∀h,h<ar->F X t h=F X ah h:=λh c=>by rw[<-x,ag Zo Zo];exact U5 h c
  clear x;obtain⟨U6,U7,T3,T8,U3,T9,U0⟩:=BL (k:=ar+1+1) (p.K (S':=t) (λh c=>O h (f h c).2)) T5 (by rw[Zj,YM];omega) Zo (λh c=>zK (f h c)) 1;refine d7 T8 ?_;refine bA @G @v ⟨?_⟩;refine⟨m,Zo,E+1,U6,T3,av,Y T1,Y C,av,Zo,⟨Zo,λh c=> ?_⟩, ?_,λh c=> ?_⟩
  ·rw[U0 h Zo (λe=>zK (f h e)),O h Zo];exact n.K h c
  ·rw[U4,ZR];exact U3
  ·rcases T9 h c with rfl|e
   ·omega
   ·have:=f h e;omega
end
section
variable (X : bf) (j : B R) (k : Nat) (S ab : aY) (a0 aL bs a3 a4 a5 fj fO ft : y)
def DJ:Za1:=λa b c d e f _=>Z (c2 b) λg=>Z (c2 c) λh=>Z (aH .neq g h) λg=>aG (λb c d=>cC b λe=>d9 e (λ_ a b=>f .zV a b) λe g=>cx (λb c d e=>dy c 13 12 λh=>aG (λc d e=>aG (λa c d=>db a 13 λe=>b (H a 13 e) c d) λb=>bt (c 13) λg=>cO (e+9) λe=>cC c λh=>Z (da 3 h g) λh=>fZ a d h λh=>ho c λi=>Z (da 3 i g) λi=>fZ a d i λi=>Z (b0 a d .neq 52 false h i) λa=>aG b λb=>ao a (f .zT d e) (b (zS c 5 g 24 a) d e)) λa=>ao h (a (H c 14 h) d e) (g (H c 14 h) d e)) (zS b 12 e 13 (.Z 0)) c d) λa=>ao g (f .zT d e) (a (zS (bI [b,c]) 4 .zT 10 g) d e)
theorem Mq:dM X 56 [a0,aL] (DJ X a0 aL):=⟨Zk,Zk⟩
variable{X:bf}{j S' am ah:B R}{k W ak ar:Nat}{P:Nat->Prop}
def Fx(T2:bW X){A aN:List cD}{w x:y}(U4:(o X).aD<=k)(T3:hK X j P w A)(T:hK X j P x aN)(aU:∀h,P h->h<k):
 az X 56 [w,x] j k (λM S' W=>M=.bool (decide (A=aN))/\aT X j k S' W) zW:=by
 refine z6 T2 (Mq ..) ?_;unfold DJ;obtain⟨bb,f⟩:=T3;obtain⟨bn,t⟩:=T;have p:=f.len;have s:=t.len;have T8:=f.many;rw[Zj]at p s T8;by_cases T0:A.length=aN.length
 ·have d:decide ((A.length:Int)≠(aN.length:Int))=false:=by simp[T0]
  refine cb @p @s @d ⟨?_⟩;refine cG (λm z S' U0=>∃(E:Nat),z.g 0=some w/\z.g 1=some x/\z.g 12=some (.Z A.length)/\z.g 13=some (.Z E)/\E+m=A.length/\aT X j k S' U0/\decide (A=aN)=decide (A.drop E=aN.drop E))
   A.length ⟨0,av,av,av,cW,Zo,aT.refl _ _,rfl⟩ ?_
  rintro m z ah ar ⟨E,t0,t1,C,G,U2,a,b⟩;have U3:=a.le;cases m with
  |zero=>have d:=zL E A.length;rw[ZM Zo,ZM Zo]at b;refine cb @C @G @d ⟨?_⟩;exact⟨by rw[b];rfl,a⟩|succ m=>
   have d:=zM E A.length;have T1:=zP E;obtain⟨g,L⟩:=zN A E;obtain⟨e,N⟩:=zN aN E;have T4:A.drop E=g::A.drop (E+1):=(by obtain⟨v,c⟩:=Ze.1 L;rw[Zz v,c]);have T5:aN.drop E=e::aN.drop (E+1):=(by obtain⟨v,c⟩:=Ze.1 N;rw[Zz v,c]);have O:=λh (c:P h)=>a.K h (aU h c);have T6:=f.c0 E (by rw[Zj];omega);have T7:=t.c0 E (by rw[Zj];omega);have TY:=(f.K O).row Zd (i:=E) (r:=cI g) (by rw[Zn,L];rfl);have TZ:=(t.K O).row Zd (i:=E) (r:=cI e) (by rw[Zn,N];rfl);rw[T4,T5]at b;have U1:=G7 (X:=X) (j:=ah) g e;refine cd @t0 @t1 @C @G @d @T6 (Za @T7 (Za @TY (Za @TZ @U1))) ⟨?_⟩;by_cases n:g=e
   ·subst n;have l:(!decide (g=g))=false:=(by simp);rw[l];refine bA @G @T1 ⟨?_⟩;exact⟨m,Zo,E+1,Y t0,Y t1,Y C,av,Zo,a.more Zo,by rw[b];simp⟩
   ·have l:(!decide (g=e))=true:=(by simp[n]);rw[l];refine br ⟨?_⟩;exact⟨by rw[b];simp[n],a.more Zo⟩
 ·have d:decide ((A.length:Int)≠(aN.length:Int))=true:=zZ;have T9:A≠aN:=λu=>T0 (by rw[u]);refine cb @p @s @d ⟨?_⟩;exact⟨by simp[T9],aT.refl _ _⟩
def abc(l:bW X)(m:(o X).aD<=k)(t:cD)(b:Bool):
 e5 X (.func (.func 125) [] []) [.agg (cI t),.bool b] j k (λM S' W=>∃w,M=.tuple [w,.bool b]/\w.cells=[w]/\hK X S' (bR k W) w [t]/\aT X j k S' W) zW:=by
 refine uw ?_;show az X 125 [.agg (cI t),.bool b] j k _ _;refine z6 l (JY ..) ?_;unfold Cq;refine l1 ?_;generalize a:aI X j k _=am;have d:b4 X am 3 (.ptr k 0)=some (.agg (cI t)):=by rw[<-a];exact uH (aJ m) (by cases t;rfl)
 have g:aT X j k am (k+1):=by rw[<-a];exact b8
 clear a;refine bA @d cI.eq_1 ⟨?_⟩;generalize c:aI X am _ _=ah;have f:F X ah (k+1)=zO [cI t].flatten (1*3):=by rw[<-c,aJ Zo];rfl
 have i:aT X j k ah (k+1+1):=⟨Zo,λh n=>by rw[<-c,ag Zo Zo];exact g.K h n⟩;exact⟨_,rfl,rfl,⟨k+1,u2 (aR:=[cI t]) f rfl (by simp[cI]) Zo ⟨Zo,Zo⟩⟩,i⟩
structure r4(X:bf)(j:B R)(a:Nat)(b p bw:y):Prop where
 b1:ay X j (.ptr a 0)=some b
 bS:ay X j (.ptr a 1)=some p
 bU:ay X j (.ptr a 2)=some bw
def r4.K{a:Nat}{c p bw:y}(e:r4 X j a c p bw)(q:F X S' a=F X j a):r4 X S' a c p bw:=by
 have b:∀J,ay X S' (.ptr a J)=ay X j (.ptr a J):=λJ=>by rw[bv,bv,q]
 exact⟨by rw[b];exact e.b1,by rw[b];exact e.bS,by rw[b];exact e.bU⟩
def Qc{nm:ax}:∀(aa:List GE) (q E:Nat),sy nm q aa=some E->E<q+aa.length:=by
 intro aa;induction aa with
 |nil=>intro q E e;cases e|cons g aa U=>
  intro q E e;unfold sy at e;split at e
  ·cases e;simp
  ·have:=U _ _ e;simp;omega
def Qe{aa:List GE}{nm:ax}(a:aa≠[]):(js aa nm).getD 0<aa.length:=by
 have:0<aa.length:=ZP.2 a
 cases e:js aa nm with|none=>exact this|some E=>have:=Qc aa 0 E e;simpa using this
def Oy(f:bW X){aa:List GE}{i:Nat}{UM p bw:y}(UZ:(o X).aD<=k)(UR:i<k)(L:r4 X j i UM p bw)(N:iQ X j P aa p)(U0:aa≠[])(aU:∀h,P h->h<k)(UB:∀g∈aa,g.cv.length<=100000/\g.out.length<=100000)
 {u:aX}{v:y}(U5:bB X j P u v){a:List cD}{aB:y}(U3:hK X j P aB a):
 az X 127 [.ptr i 0,v,aB] j k (λM S' W=>∃w,M=.tuple [w,.bool (tX aa u.name a).2]/\w.cells=[w]/\hK X S' (bR k W) w (tX aa u.name a).1/\aT X j k S' W) zW:=by
 refine z6 f (J2 ..) ?_;unfold Cs;obtain⟨UQ,_,_,_,rfl,US,_,_,T9,_⟩:=U5.open;have bS:=L.bS;refine bA @bS @T9 ⟨?_⟩;refine(y6 (k:=k+14) f Zo N (λh c=>zK (aU h c)) u.name).Zm ?_;rintro M am ak ⟨rfl,d⟩;have UU:=d.le;have r:=λh (c:P h)=>d.K h (zK (aU h c));have UA:=Qe (nm:=u.name) U0;unfold tX;generalize UT:(js aa u.name).getD 0=q at*;obtain⟨g,x⟩:∃g,aa[q]? =some g:=⟨_,Zb UA⟩;rw[x];obtain⟨U6,U7⟩:=UB g (Zl x);obtain⟨A,UK,Ud,aR,rfl,U2,a0,T3,T2⟩:=N;have UC:=T2.wide;obtain⟨row,UE,T0⟩:=T2.get q g x;have T1:=T0.K (aK:=P) r (λ_ e=>e);have U4:=(L.K (d.K i Zo)).bS;have T8:ay X am (.ptr A 0)=some UK:=zV (d.K A (zK (aU A U2))) a0;have U8:=T3.c0 q (by rw[UC.1];omega);have UF:=(T3.K r).row Zd UE;have UY:=T0.len;have UD:=T1.ei;obtain⟨bK,bM,T5,T6,bb,bn,bH,UP,eqs,rfl,T4,dF,_⟩:=T1;refine c9 @U4 @T8 @U8 @UF ⟨?_⟩;refine dh (eR (q:=6) (b:=ak) (J:=0) (n:=6) (aJ Zo) Zo rfl Zd Zd UD) ?_;refine br ⟨?_⟩;show az X 149 [bM] _ _ _ _;generalize t:aI X _ ak _=ah;have TY:F X ah ak=zO [.str g.name,.Z g.at_,bK,bM,T5,T6] 6:=by rw[<-t,aJ Zo];rfl
 have G:aT X j k ah (ak+1+12):=⟨Zo,λh c=>by rw[<-t];simp(disch:=omega) only[ag];exact d.K h Zo⟩;have dx:∀h,P h->F X ah h=F X am h:=λh c=>by rw[G.K h (aU h c),r h c]
 clear t;refine(Iv f Zo (dF.K dx) (λh c=>zK (aU h c)) U7).Zm ?_;rintro UN C Ub ⟨⟨UI,UG⟩,l⟩;have UV:=l.le;have TZ:F X C ak=zO [.str g.name,.Z g.at_,bK,bM,T5,T6] 6:=by rw[l.K _ Zo];exact TY
 obtain⟨Ue,Uf,UL⟩:=fU T4.len;refine bh (aZ TZ) ⟨?_⟩;refine ed UL ?_;refine uw ?_;show az X 149 [bK] _ _ _ _;have O:∀h,P h->F X C h=F X am h:=λh c=>by rw[l.K h (zK (aU h c)),dx h c]
 refine(Iv f Zo (T4.K O) (λh c=>zK (aU h c)) U6).Zm ?_;rintro Ug T7 UJ ⟨⟨Ua,UH⟩,m⟩;have UW:=m.le;have U9:∀h,P h->F X T7 h=F X j h:=λh c=>by rw[m.K h (zK (aU h c)),O h c,r h c]
 have U1:=(G.trans ((l.gr Zo).trans m));refine(Fx (P:=λh=>h<UJ) f Zo (UH.K (λ_ _=>rfl) (λh c=>c.2)) (U3.K U9 (λh c=>zK (aU h c))) (λh c=>c)).Zm ?_;rintro Uh UO Uc ⟨rfl,s⟩;have UX:=s.le;refine br ⟨?_⟩;refine⟨UN,rfl,UI,UG.K (λh c=> ?_) (λh c=>⟨zK c.1,zK c.2⟩),U1.trans s⟩;have:=c.2;rw[s.K h Zo,m.K h Zo]
def jS{p:Prop}[Decidable p](e:p):decide p=true:=decide_eq_true e
def jR{p:Prop}[Decidable p](e:¬p):decide p=false:=decide_eq_false e
def wm(t:cD):ku false 0 1 (.agg (cI t))=some (.bool t.b):=rfl
def ln(t:cD):y.same 30 (.agg (cI t)) (.agg (cI t))=true:=by
 obtain⟨a,b,c⟩:=t;have d:∀x:Bool,y.same 29 (.bool x) (.bool x)=true:=λx=>by cases x<;>rfl
 have f:y.same 29 (.Z c) (.Z c)=true:=by simp only[y.same];simp
 simp only[cI];rw[y.same];simp only[iF,d,f,Z1]
def pU(X:bf):Prop:=∀j,b4 X j 3 (.ptr 2 0)=some (.agg (cI tp))
def Em(X:bf)(j:B R)(k:Nat)(r:List cD×Bool):aY:=λM S' W=>∃w,M=.tuple [w,.bool r.2]/\w.cells=[w]/\hK X S' (bR k W) w r.1/\aT X j k S' W
def iY(g:bW X)(t:(o X).aD<=k)(a:aT X j k am ak){z:cD}{aN:Bool}{r:List cD×Bool}(I:r=([z],aN)):
 az X 125 [.agg (cI z),.bool aN] am ak (λc d m=>Z (hH 0 c) λn=>Z (hH 1 c) λp=>Em X j k r (.tuple [n,p]) d m) zW:=by
 subst I;have s:=a.le;have e:=(abc (j:=am) (k:=ak) g Zo z aN).out;refine e.Zm ?_;rintro M S' v ⟨w,rfl,l,i,f⟩;refine br ⟨?_⟩;exact⟨w,rfl,l,i.K (λ_ _=>rfl) (λh b=>⟨zK b.1,b.2⟩),a.trans f⟩
def nK{u:aX}{a:List cD}(d:pZ gN u)(c:a.length=u.args.length){m:Nat}(e:kp u.kind=some (m+1)):∃b l,a=b::l:=by have:=d.oR _ e;cases a with|nil=>simp at c;omega|cons b l=>exact⟨b,l,rfl⟩
def acr{a:List cD}{aB:y}{aQ:List Nat}(e:cT X j aB 3 (jd a).flatten aQ)(T2:2<=a.length)(T4:a.length<=1000)(T0:∀h∈aQ,P h):
 ∃g,fY X j 3 aB (some (.Z 1)) none none=some g/\g.cells=[g]/\nG X j P g a.tail:=by
 have v:=Iw a;obtain⟨A,T1⟩:=e.kG (P:=P) Zd (va a) (by simp[jd];omega) T0;have O:=(show hK X j P aB a from⟨A,T1⟩).rd;have w:∀i t,a.tail[i]? =some t->∃b J,da 3 aB (.Z (i+1:Nat))=some (.ptr b J)/\P b/\b4 X j 3 (.ptr b J)=some (.agg (cI t))/\ay X j (.ptr b J)=some (.bool t.b):=
  λi t af=>O.c0 (i+1) t (by rw[<-af];cases a<;>simp)
 have x:∀i t,a.tail[i]? =some t->i<a.length-1:=λi t af=>by have:=(Ze.1 af).1;simpa using this
 have s:hg (.Z 1)=some 1:=rfl;rcases e with (⟨_,e,_⟩|⟨b,cl,n,c,rfl,C,rfl,G,L,N,T3⟩)|⟨b,n,c,st,rfl,C,rfl,G,L⟩
 ·rw[e]at v;simp at v;omega
 ·have m:n=a.length:=Zo;subst m;have T:gd a.length ((a.length*3-0)/3) (some (.Z 1)) none none=some (1,a.length,a.length):=by have f:(a.length*3-0)/3=a.length:=Zo;rw[f];have d:Nat.ble 1 a.length=true:=ds Zo;simp only[gd,hA,s,d,cE]
  refine⟨.cy b (0+1*3) (a.length-1) 3, ?_,rfl,⟨by rw[k8,List.length_tail],Zx,λi t af=> ?_⟩⟩
  ·simp only[fY,j9,N,T];have f:(a.length*3-0)/3=a.length:=Zo;rw[f];have d:Nat.blt 1 a.length=true:=(by simp[Nat.blt];omega);simp[d,c3]
  ·obtain⟨bb,dI,f,d,p,r⟩:=w i t af;have l:=x i t af;rw[n4 _ Zo]at f;cases f;refine⟨b,0+1*3+i*3,n4 _ l,d, ?_, ?_⟩
   ·rw[show 0+1*3+i*3=0+(i+1)*3 by omega];exact p
   ·rw[show 0+1*3+i*3=0+(i+1)*3 by omega];exact r
 ·have m:n=a.length:=Zo;subst m;have T:gd a.length a.length (some (.Z 1)) none none=some (1,a.length,a.length):=by have d:Nat.ble 1 a.length=true:=ds Zo;simp only[gd,hA,s,d,cE]
  refine⟨.slice b (0+1*3) (a.length-1) (a.length-1), ?_,rfl,⟨by rw[kz,List.length_tail],Zx,λi t af=> ?_⟩⟩
  ·simp only[fY,T];have d:¬a.length=1:=Zo;simp[d,er]
  ·obtain⟨bb,dI,f,d,p,r⟩:=w i t af;have l:=x i t af;rw[n3 _ Zo]at f;cases f;refine⟨b,0+1*3+i*3,n3 _ l,d, ?_, ?_⟩
   ·rw[show 0+1*3+i*3=0+(i+1)*3 by omega];exact p
   ·rw[show 0+1*3+i*3=0+(i+1)*3 by omega];exact r
set_option maxRecDepth 100000 in
def abd(d:bW X)(cB:pU X){aa:List GE}{t:ax->Option ct}{T2:Nat}{UQ p bw:y}(f:(o X).aD<=k)(U4:T2<k)(T4:r4 X j T2 UQ p bw)(T7:iv X j P bw t)(UH:iQ X j P aa p)(UB:aa≠[])(aU:∀h,P h->h<k)(UI:∀g∈aa,g.cv.length<=100000/\g.out.length<=100000)
 {u:aX}{v:y}(U5:bB X j P u v)(A:pZ gN u){a:List cD}{aB:y}{aQ:List Nat}(C:a.length=u.args.length)(U2:cT X j aB 3 (jd a).flatten aQ)(UT:a.length<=300000)(U3:∀h∈aQ,P h):
 az X 94 [.ptr T2 0,v,aB] j k (Em X j k (gI aa t u a)) zW:=by
 obtain⟨U9,UJ⟩:=U2.kG (P:=P) Zd (va a) (by simp[jd];omega) U3;have U7:hK X j P aB a:=⟨U9,UJ⟩;have L:=U7.rd;obtain⟨T1,_,_⟩:=fU L.len;refine z6 d (Nj ..) ?_;unfold Eg;obtain⟨T5,_,_,_,rfl,UG,a0,_,bs,_,a4,a5,fj,_⟩:=id U5.open;have T8:b4 X j 3 (.ptr T5 4)=some (.agg (cI u.ty)):=by rw[mn,a4,a5,fj];rfl
 have a7:=A.a7;have bl:=A.bl;have U0:=cB j;have K:∀{S':B R}{n T9:Nat},aT X j n S' T9->k<=n->∀h,P h->F X S' h=F X j h:=λe f h m=>e.K h (zK (aU h m));have G:∀b l,a=b::l->∃bz J,da 3 aB (.Z 0)=some (.ptr bz J)/\P bz/\b4 X j 3 (.ptr bz J)=some (.agg (cI b))/\ay X j (.ptr bz J)=some (.bool b.b):=λb l e=>L.c0 0 b (by rw[e];rfl);have O:∀{S':B R}{n T9 bz J:Nat}{b:cD},aT X j n S' T9->k<=n->P bz->b4 X j 3 (.ptr bz J)=some (.agg (cI b))->ay X j (.ptr bz J)=some (.bool b.b)->b4 X S' 3 (.ptr bz J)=some (.agg (cI b))/\ay X S' (.ptr bz J)=some (.bool b.b):=
  λe f U6 T0 TY=>⟨by rw[i2,K e f _ U6, <-i2];exact T0,zV (K e f _ U6) TY⟩
 have UF:u.kind=1\/u.kind=2\/(u.kind=3\/u.kind=5)\/(u.kind=4\/u.kind=19\/u.kind=20)\/u.kind=6\/(u.kind=7\/u.kind=8\/u.kind=9\/u.kind=21\/u.kind=22)\/(u.kind=16\/u.kind=17\/u.kind=18)\/(u.kind=10\/u.kind=11)\/(u.kind=12\/u.kind=13\/u.kind=14\/u.kind=15)\/u.kind=23\/u.kind=24\/u.kind=26\/u.kind=25:=Zo;rcases UF with e|e|e|e|e|e|e|e|e|e|e|e|e
 ·refine c9 @a0 @jS @jR @T8 ⟨?_⟩;exact iY d f (aT.refl _ _) (by unfold gI;rw[Zu e])
 ·refine c9 @a0 @jS @jR @bs ⟨?_⟩;refine(uW d f U4 T4.bU T7 aU u.name).Zm ?_;rintro M ah ar ⟨rfl,c⟩;refine br ⟨?_⟩;exact iY d f c (by unfold gI;rw[Zi Zo,Zu e])
 ·rcases e with e|e;all_goals
   obtain⟨b,l,rfl⟩:=nK A C (by rw[e];rfl);obtain⟨bz,J,i,r,i3,i4⟩:=G b l rfl;refine dE @a0 @jS @jR @i @i3 ⟨?_⟩;exact iY d f (aT.refl _ _) (by simp[gI,e])
 ·rcases e with e|e|e;all_goals
   obtain⟨b,l,rfl⟩:=nK A C (by rw[e];rfl);obtain⟨bz,J,i,r,i3,i4⟩:=G b l rfl;refine eC @a0 @jS @jR @i @i3 @i4 ⟨?_⟩;exact iY d f ((aT.refl _ _).more Zo) (by simp[gI,e])
 ·obtain⟨b,l,rfl⟩:=nK A C (by rw[e];rfl);obtain⟨bz,J,i,r,i3,i4⟩:=G b l rfl;refine eC @a0 @jS @jR @i @i3 @bs ⟨?_⟩;refine(uW (k:=k+16) d Zo Zo T4.bU T7 (λh m=>zK (aU h m)) u.name).Zm ?_;rintro M ah ar ⟨rfl,c⟩;obtain⟨s,N⟩:=O c Zo r i3 i4;refine bA @wm @s ⟨?_⟩;refine ed (ln b) ?_;refine br ⟨?_⟩;exact iY d f (c.gr Zo) (by simp[gI,e])
 ·rcases e with e|e|e|e|e;all_goals
   obtain⟨b,l,rfl⟩:=nK A C (by rw[e];rfl);obtain⟨bz,J,i,r,i3,i4⟩:=G b l rfl;refine dE @a0 @jS @jR @i @i3 ⟨?_⟩;refine(s7 (k:=k+11) d Zo T1 L (λh m=>zK (aU h m))).Zm ?_;rintro M ah ar ⟨rfl,c⟩;obtain⟨s,N⟩:=O c Zo r i3 i4;refine bh @s ⟨?_⟩;refine ed (ln b) ?_;refine br ⟨?_⟩;exact iY d f (c.gr Zo) (by simp[gI,e])
 ·rcases e with e|e|e;all_goals
   obtain⟨b,l,rfl⟩:=nK A C (by rw[e];rfl);obtain⟨bz,J,i,r,i3,i4⟩:=G b l rfl;refine dE @a0 @jS @jR @i @i3 ⟨?_⟩;refine(s7 (k:=k+18) d Zo T1 L (λh m=>zK (aU h m))).Zm ?_;rintro M ah ar ⟨rfl,c⟩;obtain⟨s,N⟩:=O c Zo r i3 i4;cases T:lf (b::l)
   ·refine bh @s ⟨?_⟩;refine ed (ln b) ?_;refine br ⟨?_⟩;exact iY d f (c.gr Zo) (by simp[gI,e,T])
   ·refine cb @i @s @N ⟨?_⟩;refine ed (ln b) ?_;refine br ⟨?_⟩;exact iY d f (c.gr Zo) (by simp[gI,e,T])
 ·rcases e with e|e;all_goals
   obtain⟨b,l,rfl⟩:=nK A C (by rw[e];rfl);obtain⟨bz,J,i,r,i3,i4⟩:=G b l rfl;refine c9 @a0 @jS @jR @U0 ⟨?_⟩;refine(s7 (k:=k+9) d Zo T1 L (λh m=>zK (aU h m))).Zm ?_;rintro M ah ar ⟨rfl,c⟩;obtain⟨s,N⟩:=O c Zo r i3 i4;have T3:=cB ah;refine bh @T3 ⟨?_⟩;refine ed (ln tp) ?_;refine br ⟨?_⟩;exact iY d f (c.gr Zo) (by simp[gI,e])
 ·rcases e with e|e|e|e;all_goals
   obtain⟨b,l,rfl⟩:=nK A C (by rw[e];rfl);obtain⟨bz,J,i,r,i3,i4⟩:=G b l rfl;refine c9 @a0 @jS @jR @U0 ⟨?_⟩;refine(s7 (k:=k+16) d Zo T1 L (λh m=>zK (aU h m))).Zm ?_;rintro M ah ar ⟨rfl,c⟩;obtain⟨s,N⟩:=O c Zo r i3 i4;have T3:=cB ah;cases T:lf (b::l)
   ·refine bh @T3 ⟨?_⟩;refine ed (ln tp) ?_;refine br ⟨?_⟩;exact iY d f (c.gr Zo) (by simp[gI,e,T])
   ·refine cb @i @N @T3 ⟨?_⟩;refine ed (ln tp) ?_;refine br ⟨?_⟩;exact iY d f (c.gr Zo) (by simp[gI,e,T])
 ·obtain⟨bk,bb,bn,rfl⟩:∃bk bb bn,a=[bk,bb,bn]:=by
   have T6:a.length=3:=C.trans (A.oR 3 (by rw[e];rfl))
   match a,T6 with
   |[x,h,aw],_=>exact⟨x,h,aw,rfl⟩
  obtain⟨bz,J,i,r,i3,i4⟩:=G bk [bb,bn] rfl;obtain⟨UA,UL,T0,TY,TZ,UM⟩:=L.c0 1 bb rfl;have T0:da 3 aB (.Z 1)=some (.ptr UA UL):=T0;obtain⟨UW,UN,UO,UP⟩:=acr U2 Zs Zs U3;cases T:bk.b
  ·rw[T]at i4;refine cd @a0 @jS @jR @i @T0 @TZ @i4 ⟨?_⟩;refine ed (ln bb) ?_;refine br ⟨?_⟩;exact iY d f ((aT.refl _ _).more Zo) (by simp[gI,e,T])
  ·rw[T]at i4;refine cd @a0 @jS @jR @i @T0 @TZ (Za @i4 @UN) ⟨?_⟩;refine(s7 (k:=k+18) (b:=bb) (l:=[bn]) d Zo UO UP (λh m=>zK (aU h m))).Zm ?_;rintro M ah ar ⟨rfl,c⟩;obtain⟨s,N⟩:=O c Zo TY TZ UM;refine bh @s ⟨?_⟩;refine ed (ln bb) ?_;refine br ⟨?_⟩;exact iY d f (c.gr Zo) (by simp[gI,e,T])
 ·obtain⟨b,l,rfl⟩:=nK A C (by rw[e];rfl);obtain⟨bz,J,i,r,i3,i4⟩:=G b l rfl;refine dE @a0 @jS @jR @i @i3 ⟨?_⟩;refine(s7 (k:=k+20) d Zo T1 L (λh m=>zK (aU h m))).Zm ?_;rintro M ah ar ⟨rfl,c⟩;obtain⟨s,N⟩:=O c Zo r i3 i4;cases T:lf (b::l)
  ·refine bh @s ⟨?_⟩;refine ed (ln b) ?_;refine bh @s ⟨?_⟩;refine ed (ln b) ?_;refine br ⟨?_⟩;exact iY d f (c.gr Zo) (by simp[gI,e,T])
  ·have U8:ay X ah (.ptr T5 2)=some (.str u.name):=zV (K c Zo T5 UG) bs;have US:=c.le;refine bA @U8 @s ⟨?_⟩;refine ed (ln b) ?_;refine br ⟨?_⟩;refine(uW (k:=ar) d Zo Zo (T4.K (c.K T2 Zo)).bU (T7.K (aK:=P) (K c Zo) (λ_ e=>e)) (λh m=>zK (aU h m)) u.name).Zm ?_;rintro M UR UV ⟨rfl,UE⟩;have U1:=c.trans UE;obtain⟨UK,UU⟩:=O U1 Zo r i3 i4;refine bA @wm @UK ⟨?_⟩;refine ed (ln b) ?_;refine br ⟨?_⟩;exact iY d f (U1.gr Zo) (by simp[gI,e,T])
 ·obtain⟨b,l,rfl⟩:=nK A C (by rw[e];rfl);obtain⟨bz,J,i,r,i3,i4⟩:=G b l rfl;cases T:u.ty.b
  ·rw[T]at a4;refine dE @a0 @jS @jR @T8 @a4 ⟨?_⟩;exact iY d f ((aT.refl _ _).more Zo) (by simp[gI,e,T])
  ·rw[T]at a4;refine cd @a0 @jS @jR @T8 @a4 @i @i4 ⟨?_⟩;exact iY d f ((aT.refl _ _).more Zo) (by simp[gI,e,T])
 ·have I:gI aa t u a=tX aa u.name a:=by simp[gI,e]
  rw[I];refine cb @a0 @jS @jR ⟨?_⟩;refine(Oy d f U4 T4 UH UB aU UI U5 U7).Zm ?_;rintro M ah ar ⟨w,rfl,UC,UD,T6⟩;refine br ⟨?_⟩;exact⟨w,rfl,UC,UD,T6⟩
def qt(u:Nat×y×Nat):y×y×Nat:=(.ptr u.1 0,u.2.1,u.2.2)
mutual
def qh:aX->Nat
 | .mk _ _ _ _ _ _ args=>lC args+1
def lC:List aX->Nat
 |[]=>0|u::l=>qh u+lC l
end
def ON(u:aX):qh u=lC u.args+1:=by cases u;rw[qh];rfl
def OO:lC []=0:=by rw[lC]
def EX(u:aX):∀l:List aX,lC (l++[u])=lC l+qh u:=by intro l;induction l with|nil=>simp[lC]|cons a l U=>rw[YA,lC,lC,U];omega
def hI(X:bf)(j:B R)(P:Nat->Prop)(r:Nat)(a:Nat->Option y):Prop:=∃aV bq,F X j r=some (.map (aV.map qt) bq)/\(∀w,d5 aV w=a w)/\∀x∈aV,P x.1/\jl X j x.1
def hI.K{r:Nat}{c:Nat->Option y}(e:hI X j P r c)(g:F X S' r=F X j r)(q:∀h,P h->F X S' h=F X j h):hI X S' P r c:=by obtain⟨aV,bq,d,f,a⟩:=e;exact⟨aV,bq,by rw[g];exact d,f,λx b=>⟨(a x b).1,(a x b).2.K (q _ (a x b).1)⟩⟩
def A7(b:Nat):ha X 20 40 (.ptr b 0)=true:=Zk
def PJ(b a:Nat):f3 X j 20 40 (.ptr b 0) (.ptr a 0)=aC.ptrEq X j b 0 a 0:=Zk
def aas{b a:Nat}(e:jl X j b)(d:jl X j a)(i:(o X).aD<=b):aC.ptrEq X j b 0 a 0=some (decide (b=a)):=by
 obtain⟨c,n,f,s⟩:=e;obtain⟨r,l,g,t⟩:=d;unfold aC.ptrEq;rw[er];by_cases u:b=a
 ·simp[u]
 ·have bb:Nat.blt 0 n=true:=ds Zo;have bn:Nat.blt 0 l=true:=ds Zo;have m:ta X j b 0=true:=by simp only[ta,f,eN,ds i,bb,Z1]
  have p:pp X j a 0=true:=by simp only[pp,g,bn]
  simp[u,m,p,c3]
def y3{b:Nat}(T:jl X j b)(c:(o X).aD<=b):∀(aV:List (Nat×y×Nat)) (i:Nat),(∀x∈aV,P x.1/\jl X j x.1)->findKey X j 40 (.ptr b 0) (aV.map qt) i=some (eW aV b i):=by
 intro aV;induction aV with
 |nil=>intro i _;rfl|cons x aV U=>
  intro i a;simp only[ZH,qt,findKey,PJ,aas T (a x (Zp ..)).2 c,eW];by_cases e:b=x.1
  ·have:x.1=b:=e.symm
   simp[this]
  ·have:¬x.1=b:=λu=>e u.symm
   simp only[e,this,Ys,ZJ];exact U (i+1) (λx d=>a x (Zw _ d))
def RS(b:Nat):hO 20 (.ptr b 0) (.ptr b 0)=true:=by simp[hO]
def Ta{r:Nat}{t:Nat->Option y}(I:(o X).aD<=r)(e:hI X j P r t){b:Nat}(T:jl X j b)(L:P b)(s:(o X).aD<=b)(v:y):
 ∃S',hT X j k 40 (.map r) (.ptr b 0) v=some (.cJ aC.undef S' k)/\hI X S' P r (λx=>if x=b then some v else t x)/\∀h,h≠r->F X S' h=F X j h:=by
 obtain⟨aV,bq,g,m,i⟩:=e;have al:eN X r=true:=ds I;have C:∀h,jl X j h->h≠r:=λh d u=>by obtain⟨c,n,V,_⟩:=d;rw[u,g]at V;cases V
 have key:∀(N:List (Nat×y×Nat)) (l:Nat),(∀x∈N,x.1=b\/∃h∈aV,h.1=x.1)->(∀x∈N,P x.1/\jl X (Go.aC.aI X j r (some (.map (N.map qt) l))) x.1):=λN l w x a=>by
  have V:P x.1/\jl X j x.1:=by
   rcases w x a with u|⟨h,d,u⟩
   ·rw[u];exact⟨L,T⟩
   ·rw[<-u];exact i h d
  exact⟨V.1,V.2.K (ag I (C _ V.2))⟩
 cases f:eW aV b 0 with
 |none=>
  refine⟨Go.aC.aI X j r (some (.map ((aV++[(b,v,bq)]).map qt) (bq+1))), ?_,⟨aV++[(b,v,bq)],bq+1,aJ I,λx=> ?_,key _ _ λx a=> ?_⟩,λh d=>ag I d⟩
  ·simp only[hT,g,A7,cE,y3 T s _ _ i,f,aC.setObj,al,cE,dD];rw[ZR];rfl
  ·rw[AM _ _ _ _ _ (by unfold d5;rw[f];rfl),m]
  ·rcases Zv.1 a with a|a
   ·exact .inr ⟨x,a,rfl⟩
   ·rw[ZC]at a;exact .inl (by rw[a])
 |some p=>
  obtain⟨E,v0⟩:=p;obtain⟨born,A⟩:=y8 b aV E v0 f;have G:(aV.map qt)[E]? =some (.ptr b 0,v0,born):=by rw[Zn,A];rfl
  refine⟨Go.aC.aI X j r (some (.map ((aV.set E (b,v,born)).map qt) bq)), ?_,⟨aV.set E (b,v,born),bq,aJ I,λx=> ?_,key _ _ λx a=> ?_⟩,λh d=>ag I d⟩
  ·simp only[hT,g,A7,cE,y3 T s _ _ i,f,jB,G,RS,aC.setObj,al,cE,dD];rw[List.map_set];rfl
  ·rw[AN _ _ _ _ _ _ _ f,m]
  ·rcases List.mem_or_eq_of_mem_set a with a|a
   ·exact .inr ⟨x,a,rfl⟩
   ·exact .inl (by rw[a])
def iP(X:bf)(j:B R)(r n:Nat):Prop:=∃a bq,F X j r=some (.map a bq)/\a.length=n
def iP.K{r n:Nat}(e:iP X j r n)(q:F X S' r=F X j r):iP X S' r n:=by unfold iP;rw[q];exact e
def Tb{r n:Nat}{g:Nat->Option y}(I:(o X).aD<=r)(e:hI X j P r g)(t:iP X j r n){b:Nat}(T:jl X j b)(x:(o X).aD<=b)(l:g b=none){v:y}(f:hT X j k 40 (.map r) (.ptr b 0) v=some (.cJ aC.undef S' k)):iP X S' r (n+1):=by
 obtain⟨aV,bq,d,m,s⟩:=e;obtain⟨G,C,c,i⟩:=t;rw[d]at c;cases c;have al:eN X r=true:=ds I;have a:=m b;rw[l]at a;unfold d5 at a;have w:eW aV b 0=none:=by cases A:eW aV b 0 with|none=>rfl|some p=>rw[A]at a;cases a
 simp only[hT,d,A7,cE,y3 T x _ _ s,w,aC.setObj,al,cE,dD,Zh,cj.cJ.injEq]at f;obtain⟨_,rfl,_⟩:=f;exact⟨_,_,aJ I,by rw[ZG,i];rfl⟩
mutual
def iw(X:bf)(j:B R)(aa:List GE)(t:ax->Option ct)(c:Nat->Option y)(P cU:Nat->Prop):aX->y->Prop
 | .mk q a nm no ty n args,v=>∃b aB bz aF row w,v=.ptr b 0/\P b/\ay X j (.ptr b 8)=some aB/\ca X j P bz aB 1 (aF.map λv=>[v])/\o3 aa t (.mk q a nm no ty n args)=.ok row/\c b=some w/\w.cells=[w]/\hK X j cU w row/\gA X j aa t c P cU args aF
def gA(X:bf)(j:B R)(aa:List GE)(t:ax->Option ct)(c:Nat->Option y)(P cU:Nat->Prop):List aX->List y->Prop
 |[],aF=>aF=[]|u::f,aF=>∃v d,aF=v::d/\iw X j aa t c P cU u v/\gA X j aa t c P cU f d
end
mutual
def iw.K{aa:List GE}{t:ax->Option ct}{p r:Nat->Option y}{P cU d f:Nat->Prop}(q:∀h,P h->F X S' h=F X j h)(m:∀h,cU h->F X S' h=F X j h)(i:∀h,P h->r h=p h)(c:∀h,P h->d h)(l:∀h,cU h->f h):∀(u:aX) (v:y),iw X j aa t p P cU u v->iw X S' aa t r d f u v
 | .mk T2 a nm no ty n args,v,e=>by rw[iw]at e ⊢;obtain⟨b,aB,bz,aF,row,w,x,g,A,G,L,N,O,T0,T1⟩:=e;exact⟨b,aB,bz,aF,row,w,x,c b g,zV (q b g) A,(G.K q).lift c,L,by rw[i b g];exact N,O,T0.K m l,gA.K q m i c l args aF T1⟩
def gA.K{aa:List GE}{t:ax->Option ct}{p r:Nat->Option y}{P cU d f:Nat->Prop}(q:∀h,P h->F X S' h=F X j h)(m:∀h,cU h->F X S' h=F X j h)(i:∀h,P h->r h=p h)(c:∀h,P h->d h)(l:∀h,cU h->f h):∀(s:List aX) (aF:List y),gA X j aa t p P cU s aF->gA X S' aa t r d f s aF
 |[],aF,e=>by rw[gA]at e ⊢;exact e|u::s,aF,e=>by rw[gA]at e ⊢;obtain⟨v,C,x,g,A⟩:=e;exact⟨v,C,x,iw.K q m i c l u v g,gA.K q m i c l s C A⟩
end
def FD(aa:List GE)(t:ax->Option ct)(u:aX):o3 aa t u=(match mP aa t u.args with
 | .error a=> .error a| .ok (b,one)=>if one=false then .error u.at_ else if (gI aa t u b).2=false then .error u.at_ else .ok (gI aa t u b).1):=by
 cases u;rw[o3];rfl
variable{cU:Nat->Prop}
def iw.mk'{aa:List GE}{t:ax->Option ct}{a:Nat->Option y}{u:aX}{b bz:Nat}{aB w:y}{aF:List y}{row:List cD}(c:P b)(d:ay X j (.ptr b 8)=some aB)(f:ca X j P bz aB 1 (aF.map λv=>[v]))(g:o3 aa t u=.ok row)(i:a b=some w)(l:w.cells=[w])(m:hK X j cU w row)(n:gA X j aa t a P cU u.args aF):iw X j aa t a P cU u (.ptr b 0):=by cases u;rw[iw];exact⟨b,aB,bz,aF,row,w,rfl,c,d,f,g,i,l,m,n⟩
def gA.snoc{aa:List GE}{t:ax->Option ct}{c:Nat->Option y}{u:aX}{v:y}(q:iw X j aa t c P cU u v):∀{b:List aX}{aF:List y},gA X j aa t c P cU b aF->gA X j aa t c P cU (b++[u]) (aF++[v]):=by intro b;induction b with|nil=>intro aF e;rw[gA]at e;subst e;rw[Yz,gA];exact⟨v,[],rfl,q,by rw[gA]⟩|cons a b U=>intro aF e;rw[gA]at e;obtain⟨g,i,rfl,d,f⟩:=e;rw[YA,gA];exact⟨g,i++[v],rfl,d,U f⟩
def β:∀{u:aX}{v:y},bB X j P u v->∃b aB bz aF,v=.ptr b 0/\P b/\jl X j b/\ay X j (.ptr b 1)=some (.Z u.at_)/\ay X j (.ptr b 8)=some aB/\ca X j P bz aB 1 (aF.map λv=>[v])/\b3 X j (λh=>P h/\h≠b) u.args aF
 | .mk ..,_,e=>by unfold bB at e;obtain⟨b,c,aU,l,m,i,n,p,r,s,t,w,aB,bz,aF,d,f,x,g⟩:=e;exact⟨b,aB,bz,aF,c,aU,l,i,d,f,b3.lift (λh a=>⟨a.1,a.2.1⟩) _ _ g⟩
structure mD(X:bf)(j:B R)(di:Nat)(P:Nat->Prop)(a V r:Nat)(bw p:y)(aa:List GE)(t:ax->Option ct):Prop where
 aD:(o X).aD<=di
 lc:a<di
 sW:V<di
 pr:r<di
 s3:(o X).aD<=r
 qk:a≠r
 qr:V≠r
 aU:∀h,P h->(o X).aD<=h/\h<di/\h≠r
 uk:∃c,F X j a=some (.cells c 3 .own)/\c.get 0=some (.ptr V 0)/\c.get 1=some p/\c.get 2=some bw
 rI:ay X j (.ptr V 0)=some (.map r)
 mx:iv X j P bw t
 prog:iQ X j P aa p
def mD.nP{di b V r:Nat}{bw p:y}{aa:List GE}{t:ax->Option ct}(e:mD X j di P b V r bw p aa t):r4 X j b (.ptr V 0) p bw:=by obtain⟨c,a,d,f,g⟩:=e.uk;exact⟨by rw[aZ a];exact d,by rw[aZ a];exact f,by rw[aZ a];exact g⟩
def mD.K{di a V r:Nat}{bw p:y}{aa:List GE}{t:ax->Option ct}(e:mD X j di P a V r bw p aa t)(q:∀h,h<di->h≠r->F X S' h=F X j h):mD X S' di P a V r bw p aa t:=
 have c:∀h,P h->F X S' h=F X j h:=λh b=>q h (e.aU h b).2.1 (e.aU h b).2.2
 ⟨e.aD,e.lc,e.sW,e.pr,e.s3,e.qk,e.qr,e.aU,by rw[q a e.lc e.qk];exact e.uk,zV (q V e.sW e.qr) e.rI,e.mx.K c (λ_ e=>e),e.prog.K c (λ_ e=>e)⟩
def mD.fr{di a V r:Nat}{bw p:y}{aa:List GE}{t:ax->Option ct}(e:mD X j di P a V r bw p aa t)(c:bo X [r] j k S' W)(f:di<=k):mD X S' di P a V r bw p aa t:=
 e.K λh d b=>c.K h Zo (by simp[b])
def Jd(n:Nat)(X:bf)(j:B R)(k:Nat)(aM:Nat->Prop)(r:Nat)(aa:List GE)(t:ax->Option ct)(b:Nat->Option y)(aK:Nat->Prop)(u:aX)(v:y):aY:=λM S' W=>∃row a,o3 aa t u=.ok row/\M.cells=[M]/\hK X S' (bR k W) M row/\hI X S' aM r a/\(∀h,¬aK h->a h=b h)/\iw X S' aa t a aK (bR k W) u v/\bo X [r] j k S' W/\iP X S' r (n+qh u)
def Jc(X:bf)(j:B R)(k r:Nat)(aa:List GE)(t:ax->Option ct)(u:aX):aY:=λM S' W=>∃a,o3 aa t u=.error a/\M=iU 26 a/\bo X [r] j k S' W
set_option maxRecDepth 100000 in
def P3(UC:bW X)(cB:pU X){aa:List GE}{t:ax->Option ct}{UN V r di:Nat}{p bw:y}(VD:aa≠[])(VS:∀g∈aa,g.cv.length<=100000/\g.out.length<=100000){aM:Nat->Prop}(UO:∀h,aM h->P h):
 ∀(N:Nat) (u:aX),SizeOf.sizeOf u<N->dv gN u->∀(aK:Nat->Prop) (v:y) (j:B R) (k:Nat) (TZ:Nat->Option y) (n:Nat),(∀h,aK h->aM h)->di<=k->mD X j di P UN V r bw p aa t->hI X j aM r TZ->bB X j aK u v->iP X j r n->(∀h,aK h->TZ h=none)->
  az X 55 [.ptr UN 0,v] j k (Jd n X j k aM r aa t TZ aK u v) (Jc X j k r aa t u):=by
 intro N;induction N with
 |zero=>intro u e;omega|succ N U=>
  intro u Vj VZ aK v j k TZ n UP Uv L VG Ur VK Us;have i:∀h,aK h->P h:=λh c=>UO h (UP h c);have V5:=VZ;rw[dv.eq]at V5;obtain⟨VY,Va⟩:=V5;refine z6 UC (Mo ..) ?_;unfold DI;obtain⟨b,aB,bz,aF,rfl,T,VT,aL,ft,UF,has⟩:=β Ur;have Vp:=L.aD;have aU:=L.aU;have Up:=aU b (i b T);have Uu:=UF.len;have V3:=has.len;rw[Zj,V3]at Uu;have Vl:u.args.length<=300000:=by have:=UF.many;rw[Zj,V3]at this;exact this
  refine bA @ft @Uu ⟨?_⟩;refine cG (λm z S' UL=>∃(E:Nat) (s:y) (aQ:List Nat) (T5:List cD) (U1:Bool) (U8:Nat->Option y) (T3:Nat->Prop),z.g 0=some (.ptr UN 0)/\z.g 1=some (.ptr b 0)/\z.g 5=some s/\z.g 6=some (.bool U1)/\z.g 15=some aB/\z.g 16=some (.Z u.args.length)/\z.g 17=some (.Z E)/\E+m=u.args.length
   /\cT X S' s 3 (jd T5).flatten aQ/\(∀h∈aQ,k<=h/\h<UL)/\(U1=true->T5.length=E)/\T5.length<=E
   /\mP aa t u.args=(match mP aa t (u.args.drop E)with| .error a=> .error a| .ok (UK,one)=> .ok (T5++UK,U1&&one))
   /\hI X S' aM r U8/\(∀h,¬aK h->U8 h=TZ h)/\U8 b=TZ b/\bo X [r] j k S' UL
   /\(∀h,T3 h->aK h/\h≠b)/\b3 X S' T3 (u.args.drop E) (aF.drop E)/\gA X S' aa t U8 (λh=>(aK h/\h≠b)/\¬T3 h) (λh=>bR k UL h/\h∉aQ) (u.args.take E) (aF.take E)/\iP X S' r (n+lC (u.args.take E))/\∀h,T3 h->U8 h=none)
   u.args.length ⟨0,.au,[],[],true,TZ,λh=>aK h/\h≠b,av,av,av,av,av,av,cW,Zo,.inl (.inl ⟨rfl,rfl,rfl⟩),Zs,λ_=>rfl,Zg _,by
    rw[Ym];cases mP aa t u.args with
    |error a=>rfl|ok x=>obtain⟨UK,one⟩:=x;simp,VG,λ_ _=>rfl,rfl,bo.refl _ _ _,λ_ e=>e,by simpa using has,by rw[Ya,Ya,gA],by rw[Ya,OO];exact VK,λh c=>Us h c.1⟩ ?_
  rintro m z ah ar ⟨E,s,aQ,T5,U1,Ud,T3,t0,t1,t5,Ug,Uf,U9,UA,Vm,UX,T1,Uz,Vk,C,Ul,UU,UV,T7,U4,US,UH,Uo,UT⟩;have Vn:=T7.le;have UB:=L.fr T7 Uv;have U6:∀h,P h->F X ah h=F X j h:=λh c=>by have:=aU h c;exact T7.K h Zo (by simp[this.2.2])
  have Uw:=VT.K (U6 b (i b T));cases m with
  |zero=>
   have d:=zL E u.args.length;have VP:E=u.args.length:=Zo;rw[ZM Zo,mP]at C;simp only[ZW,Y0]at C;have T2:=FD aa t u;rw[C]at T2;simp only[]at T2;have V8:ay X ah (.ptr b 1)=some (.Z u.at_):=zV (U6 b (i b T)) aL;cases U1 with
   |false=>rw[Zu rfl]at T2;refine eC @UA @U9 @d @Ug @t1 @V8 ⟨?_⟩;refine(ud UC Zo u.at_).mono (λ_ _ _ e=>e) ?_;rintro M A G ⟨rfl,O⟩;exact⟨_,T2,rfl,T7.trans (bo.of O)⟩
   |true=>
    rw[Zi Zd]at T2;have VL:∀h,(P h\/(k<=h/\h<ar))->h<ar:=λh c=>by
     rcases c with e|e
     ·have:=aU h e;omega
     ·exact e.2
    refine cd @UA @U9 @d @Ug @t0 @t1 @t5 ⟨?_⟩;refine(abd (P:=λh=>P h\/(k<=h/\h<ar)) UC cB Zo (zK L.lc) UB.nP (UB.mx.K (λ_ _=>rfl) (λh e=> .inl e)) (UB.prog.K (λ_ _=>rfl) (λh e=> .inl e)) VD VL VS (bB.lift (λh c=> .inl (i h c)) _ _ (bB.K (λh c=>U6 h (i h c)) _ _ Ur)) VY (Uz rfl▸VP) UX Zo (λh c=> .inr (T1 h c))).Zm ?_;rintro M A G ⟨w,rfl,V4,VW,O⟩;have VR:=O.le;have T0:=T7.trans (bo.of (X:=[r]) O);have Ui:=L.fr T0 Uv;have U7:∀h,P h->F X A h=F X j h:=λh c=>(by have:=aU h c;exact T0.K h Zo (by simp[this.2.2]));cases Ux:(gI aa t u T5).2 with
    |false=>rw[Zu Ux]at T2;have V9:ay X A (.ptr b 1)=some (.Z u.at_):=zV (U7 b (i b T)) aL;refine bA @t1 @V9 ⟨?_⟩;refine(ud UC Zo u.at_).mono (λ_ _ _ e=>e) ?_;rintro M T4 Vt ⟨rfl,VF⟩;exact⟨_,T2,rfl,T0.trans (bo.of VF)⟩
    |true=>
     rw[Zi (by rw[Ux];decide)]at T2;have b1:=Ui.nP.b1;have rI:=Ui.rI;refine c9 @t0 @t1 @b1 @rI ⟨?_⟩;have U3:hI X A aM r Ud:=Ul.K (O.K r (zK L.pr)) (λh c=>O.K h (zK (aU h (UO h c))));obtain⟨T4,aI,VH,U5⟩:=Ta (k:=G) L.s3 U3 (Uw.K (O.K b Zo)) (UP b T) Up.1 w;have Un:=Tb L.s3 U3 (Uo.K (O.K r (zK L.pr))) (Uw.K (O.K b Zo)) Up.1 (by rw[UV];exact Us b T) aI;rw[Zy Zo]at Un;refine d7 aI ?_;refine br ⟨?_⟩;have Uk:bo X [r] j k T4 G:=⟨T0.le,λh l f=>by rw[U5 h (by simpa using f)];exact T0.K h l f⟩;have Uc:∀h,P h->F X T4 h=F X j h:=λh c=>(by have:=aU h c;exact Uk.K h Zo (by simp[this.2.2]));have V6:∀h,k<=h->h<G->F X T4 h=F X A h:=λh l f=>U5 h (zK L.pr);rw[Zy Zo,Zy Zo]at UH;have V2:hK X T4 (bR k G) w (gI aa t u T5).1:=VW.K (λh c=>V6 h (zK c.1) c.2) (λh c=>⟨zK c.1,c.2⟩);refine⟨_,_,T2,V4,V2,VH,λh c=> ?_,iw.mk' T (zV (Uc b (i b T)) ft) (UF.K λh c=>Uc h (i h c)) T2 Zs V4 V2 (gA.K (λh c=> ?_) (λh c=> ?_) (λh c=> ?_) (λh c=>c.1.1) (λh c=>⟨c.1.1,zK c.1.2⟩) _ _ UH),Uk,by rw[ON];exact Un⟩
     ·have:h≠b:=λu=>c (u▸T)
      simp only[this,ZJ];exact UU h c
     ·rw[Uc h (i h c.1.1),U6 h (i h c.1.1)]
     ·rw[V6 h c.1.1 (zK c.1.2),O.K h c.1.2]
     ·simp only[c.1.2,ZJ]
  |succ m=>
   have d:=zM E u.args.length;have Uh:=zP E;obtain⟨a,UE⟩:=zN u.args E;have al:u.args.drop E=a::u.args.drop (E+1):=(by obtain⟨Ua,c⟩:=Ze.1 UE;rw[Zz Ua,c]);rw[al]at US C;unfold b3 at US;obtain⟨w,Vh,U0,UI,UD,VN,VO⟩:=US;have UZ:aF[E]? =some w:=by
    have:(aF.drop E)[0]? =some w:=by rw[UI];rfl
    simpa using this
   have VX:Vh=aF.drop (E+1):=(by obtain⟨Ua,c⟩:=Ze.1 UZ;rw[Zz Ua]at UI;simp only[zy]at UI;exact UI.2.symm);subst VX;obtain⟨VA,VB,Vi⟩:=(UF.K λh c=>U6 h (i h c)).one UZ;have UG:u.args.take (E+1)=u.args.take E++[a]:=(by rw[ZE,UE];rfl);have V1:aF.take (E+1)=aF.take E++[w]:=(by rw[ZE,UZ];rfl);have Vq:=H7 (Zl UE);have T8:∀h,U0 h->aK h/\h≠b:=λh c=>U4 h (UD h c);rw[mP]at C;refine cd @UA @U9 @Uf @t0 @d @VA @VB ⟨?_⟩;refine(U a Zo (IP Va (Zl UE)) U0 w ah ar Ud (n+lC (u.args.take E)) (λh c=>UP h (T8 h c).1) Zo UB Ul VN Uo (λh c=>UT h (UD h c))).mono ?_ (λM S' UL e=>by
    obtain⟨V7,l,f,VE⟩:=e;rw[l]at C;simp only[]at C;exact⟨V7,by rw[FD,C],f,T7.trans VE⟩)
   rintro M A G ⟨row,Ue,VU,Vr,UY,U3,T9,V0,T0,Um⟩;have VR:=T0.le;have Uj:=T7.trans T0;rw[VU]at C;simp only[]at C;have Vo:=L.pr;have UJ:∀h,k<=h->h<ar->F X A h=F X ah h:=λh l f=>T0.K h f Zx;have U7:∀h,P h->F X A h=F X ah h:=λh c=>(by have:=aU h c;exact T0.K h Zo (by simp[this.2.2]));have Uq:Ue b=Ud b:=T9 b (λe=>(T8 b e).2 rfl);have Uy:b3 X A (λh=>T3 h/\¬U0 h) (u.args.drop (E+1)) (aF.drop (E+1)):=b3.K (λh c=>U7 h (i h (U4 h c.1).1)) _ _ VO;by_cases Ut:row.length=1
   ·obtain⟨x,rfl⟩:∃x,row=[x]:=by
     match row,Ut with
     |[x],_=>exact⟨x,rfl⟩
    obtain⟨bH,Vf,Ub,Vs,i3,i4⟩:=UY.rd.c0 0 x rfl;have Ub:da 3 M (.Z 0)=some (.ptr bH Vf):=Ub;have UW:c2 M=some (.Z 1):=UY.rd.len;have ap:decide ((1:Int)≠1)=false:=(by decide);simp only[]at C;refine eC @UW @ap @t5 @Ub @i3 cI.eq_1 ⟨?_⟩;generalize UQ:Go.aC.aI X A G _=T4;have VC:F X T4 G=zO (cI x) 3:=(by rw[<-UQ,aJ Zo];rfl);have U5:∀h,h<G->F X T4 h=F X A h:=λh c=>(by rw[<-UQ,ag Zo Zo]);clear UQ;obtain⟨Vg,U2,UM,VM,VV,UR,VQ⟩:=BL (k:=G+1) (UX.K (S':=T4) (λh c=>by have:=T1 h c;rw[U5 h Zo,UJ h this.1 this.2])) VC Zo Zo (λh c=>zK (T1 h c)) 1;refine d7 VM ?_;refine bA @UA @Uh ⟨?_⟩;have T6:∀h,h<G->h∉aQ->F X U2 h=F X A h:=λh l f=>(by rw[VQ h Zo f,U5 h l]);have TY:∀h,h<k->h∉aQ:=λh l f=>zK (T1 h f);refine⟨m,Zo,E+1,Vg,UM,T5++[x],U1,Ue,λh=>T3 h/\¬U0 h,Y t0,Y t1,av,Y Ug,Y Uf,Y U9,av,Zo,VV,λh c=> ?_,λe=>by have:=Uz e;simp;omega,Zx, ?_, ?_,λh c=> ?_,by rw[Uq];exact UV, ?_,λh c=>U4 h c.1, ?_, ?_,by rw[UG,EX, <-Yi];exact Um.K (T6 r Zo (TY r Zo)),λh c=>(T9 h c.2).trans (UT h c.1)⟩
    ·rcases UR h c with rfl|e
     ·omega
     ·have:=T1 h e;omega
    ·rw[C];cases mP aa t (u.args.drop (E+1))with
     |error a=>rfl|ok p=>obtain⟨UK,one⟩:=p;simp
    ·exact U3.K (T6 r Zo (TY r Zo)) (λh c=>by have:=aU h (UO h c);exact T6 h Zo (TY h Zo))
    ·exact(T9 h (λe=>c (T8 h e).1)).trans (UU h c)
    ·exact⟨Zo,λh l f=>by rw[T6 h Zo (TY h l)];exact Uj.K h l f⟩
    ·exact b3.K (λh c=>by have:=aU h (i h (U4 h c.1).1);exact T6 h Zo (TY h Zo)) _ _ Uy
    ·have VI:∀h,ar<=h->h<G->h∉UM:=λh l f e=>by
      rcases UR h e with rfl|e
      ·omega
      ·have:=T1 h e;omega
     have VJ:∀h,h<ar->h∉aQ->h∉UM:=λh l f e=>by
      rcases UR h e with rfl|e
      ·omega
      ·exact f e
     have Vb:∀h,(aK h/\h≠b)/\¬T3 h->F X U2 h=F X ah h:=λh c=>(by have:=aU h (i h c.1.1);rw[T6 h Zo (TY h Zo),U7 h (i h c.1.1)]);have Vc:∀h,bR k ar h/\h∉aQ->F X U2 h=F X ah h:=λh c=>(by have l:=c.1.1;have f:=c.1.2;rw[T6 h Zo c.2,UJ h l f]);have Vd:∀h,U0 h->F X U2 h=F X A h:=λh c=>(by have:=aU h (i h (T8 h c).1);exact T6 h Zo (TY h Zo));have Ve:∀h,bR ar G h->F X U2 h=F X A h:=λh c=>T6 h c.2 (λe=>by have:=T1 h e;have:=c.1;omega);rw[UG,V1];exact gA.snoc (iw.K Vd Ve (λ_ _=>rfl) (λh c=>⟨T8 h c,λe=>e.2 c⟩) (λh c=>⟨⟨zK c.1,zK c.2⟩,VI h c.1 c.2⟩) a w V0) (gA.K Vb Vc (λh c=>T9 h (λe=>c.2 (UD h e))) (λh c=>⟨c.1,λe=>c.2 e.1⟩) (λh c=>⟨⟨c.1.1,zK c.1.2⟩,VJ h c.1.2 c.2⟩) _ _ UH)
   ·have UW:=UY.rd.len;have ap:decide ((row.length:Int)≠1)=true:=zZ;refine c9 @UW @ap @UA @Uh ⟨?_⟩;refine⟨m,Zo,E+1,s,aQ,T5,false,Ue,λh=>T3 h/\¬U0 h,Y t0,Y t1,Y t5,av,Y Uf,Y U9,av,Zo,UX.K (λh c=>by have:=T1 h c;exact UJ h this.1 this.2),λh c=>zK (T1 h c),(λe=>by cases e),Zo, ?_,U3,λh c=>(T9 h (λe=>c (T8 h e).1)).trans (UU h c),by rw[Uq];exact UV,Uj,λh c=>U4 h c.1,Uy, ?_,by rw[UG,EX, <-Yi];exact Um,λh c=>(T9 h c.2).trans (UT h c.1)⟩
    ·rw[C];cases mP aa t (u.args.drop (E+1))with
     |error a=>rfl|ok p=>
      obtain⟨UK,one⟩:=p
      match row,Ut with
      |[],_=>simp|[_],e=>exact absurd rfl e|_::_::_,_=>simp
    ·rw[UG,V1];exact gA.snoc (iw.K (λ_ _=>rfl) (λ_ _=>rfl) (λ_ _=>rfl) (λh c=>⟨T8 h c,λe=>e.2 c⟩) (λh c=>⟨⟨zK c.1,c.2⟩,λe=>by have:=T1 h e;have:=c.1;omega⟩) a w V0) (gA.K (λh c=>U7 h (i h c.1.1)) (λh c=>UJ h c.1.1 c.1.2) (λh c=>T9 h (λe=>c.2 (UD h e))) (λh c=>⟨c.1,λe=>c.2 e.1⟩) (λh c=>⟨⟨c.1.1,zK c.1.2⟩,c.2⟩) _ _ UH)
end
end
end Go.Proofs.YtehmapikajmjaaaGreatDoor
