/- Part of the proof of the last text; no conditions -/
import Derived.Test.YtehmapikajmjaaaGreatDoorYn
set_option maxHeartbeats 8000000
set_option linter.all false
namespace Go.Proofs.YtehmapikajmjaaaGreatDoor
open Go.aF Go.ak
noncomputable section
def y2{G P:bS->E S->Nat->Prop}{a:Prop}(b:(∀B q n,P B q n->Cd (G B q n))->a)(c:∀B q n,P B q n->G B q n):a:=b λB q n h=>⟨c B q n h⟩
def A2:∀(b:List aX) (f:Bool) (l:List aA),lh l f b=(if f=true then b.take 1 else b).foldl fM l
 |[],f,l=>by cases f<;>rfl|a::b,f,l=>by cases f with|true=>rw[lh];rfl|false=>rw[lh,A2 b];rfl
def EG(l:List aA)(w:aA):l.length<=(lA l w).length:=by unfold lA;split<;>simp
mutual
def GK:∀(e:aX) (l:List aA),l.length<=(fM l e).length
 | .mk k a nm no ty n args,l=>by
   rw[fM];split
   ·exact Zg _
   ·refine ZE ?_ (A6 args _ _);split
    ·exact EG _ _
    ·exact Zg _
def A6:∀(b:List aX) (f:Bool) (l:List aA),l.length<=(lh l f b).length
 |[],f,l=>Zg _|a::b,f,l=>by
  rw[lh];split
  ·exact GK a l
  ·exact ZE (GK a l) (A6 b f _)
end
def F2(L:List aX)(l:List aA):l.length<=(L.foldl fM l).length:=by have:=A6 L false l;rw[A2]at this;exact this
mutual
def nQ:aX->Bool
 | .mk k _ _ _ _ _ args=>(decide (k≠21)|| !args.isEmpty)&&sC args
def sC:List aX->Bool
 |[]=>true|a::l=>nQ a&&sC l
end
def FR:∀{l:List aX}{a:aX},sC l=true->a∈l->nQ a=true
 |b::l,a,h,c=>by
  rw[sC,Zu]at h;rcases Zq.1 c with rfl|c
  ·exact h.1
  ·exact FR h.2 c
section
variable{X:bi}{q D au am:E S}{u Z ap aw:Nat}{P:Nat->Prop}
def pU(X:bi)(q:E S)(n dK aT:Nat)(l:List aA):Prop:=aT<=n/\∃c aE aW,H X q dK=some (.cells c 1 .own)/\c.get 0=some aE/\da X q aE 1 (l.map .str) aW/\∀o∈aW,aT<=o/\o<n
def pU.M{dK aT:Nat}{l:List aA}(h:pU X q ap dK aT l)(k:ap<=aw)(d:∀o,o<ap->(o=dK\/aT<=o)->H X D o=H X q o)(j:dK<aT):pU X D aw dK aT l:=by obtain⟨i,c,aE,aW,e,f,g,b⟩:=h;exact⟨Zo,c,aE,aW,by rw[d dK Zo (.inl rfl)];exact e,f,g.M (λo a=>d o (b o a).2 (.inr (b o a).1)),λo a=>⟨(b o a).1,zL (b o a).2⟩⟩
def abN{C:al}{q:E S}{bC m:Nat}{aE:z}{aG:List z}(a:cl C q P bC aE 1 (aG.map λv=>[v]))(g:sd C q aE bC aG.length)(f:m<=aG.length):
 ∃b,fw C q 1 aE none (some (.Z m)) none=some b/\cl C q P bC b 1 ((aG.take m).map λv=>[v]):=by
 obtain⟨_,c,rfl,l⟩:=g;refine⟨.slice bC 0 m c, ?_,λh=>a.W (λe=>h (by rw[List.map_eq_nil_iff]at e ⊢;rw[e,List.take_nil])), ?_, ?_, ?_, ?_, ?_⟩
 ·have k:Nat.ble m c=true:=de Zo;simp only[fw,fW,ho,hV,k,cI];simp[cY]
 ·have:=a.many;simp at this ⊢;omega
 ·intro r K;obtain⟨R,_,rfl⟩:=ZC.1 K;rfl
 ·rw[kB];simp;omega
 ·intro i ag;have ag:i<m:=by simpa[Nat.min_eq_left f]using ag
  rw[nW _ ag,ZK]
 ·intro i r j v ag d;refine a.cell i r j v ?_ d;rw[Zt,Y0]at ag;rw[Zt];split at ag
  ·exact ag
  ·cases ag
set_option maxRecDepth 100000 in
def SF(UT:bZ X){dK gX aT:Nat}(VN:(y X).aB<=dK)(Ue:dK<aT)(Ua:gX<aT)(Uk:gX≠dK):∀(N:Nat) (e:aX),uO e<N->∀{P:Nat->Prop}{v:z}{q:E S}{u:Nat}{l:List aA},(∀o,P o->o<aT/\o≠dK)->ay X q (.ptr gX 0)=some (.func (.func 47) [] [.ptr dK 0,.ptr gX 0])->pU X q u dK aT l->bF X q P e v->nQ e=true->(fM l e).length<=300000->
 aD X 47 [v,.ptr dK 0,.ptr gX 0] q u (λR D Z=>R=.tuple []/\u<=Z/\pU X D Z dK aT (fM l e)/\∀o,o<aT->o≠dK->H X D o=H X q o) zX:=by
 intro N;induction N with|zero=>intro e h;omega|succ N U=>
 intro e V2 P v q u l aV V5 T4 UY UC Ug;refine Fd UT (L9 ..) ?_;unfold DN;obtain⟨k,a,nm,no,ty,n,args⟩:=e;unfold bF at UY;obtain⟨T2,rfl,TY,_,b8,_,b0,_,_,_,_,_,aE,bC,aG,f9,x,V4,A⟩:=UY;have A:=b5.lift (aI:=P) (λo b=>b.1) _ _ A;have Un:=A.len;have VO:=T4.1;rw[nQ,Zu]at UC;rw[uO]at V2;by_cases T9:k=5
 ·have U9:decide (k=5)=true:=by simp[T9]
  refine cg @tf @b8 @U9 ⟨?_⟩;exact⟨rfl,Zg _,by rw[fM,Zv T9];exact T4,λ_ _ _=>rfl⟩
 have U9:decide (k=5)=false:=by simp[T9]
 have Uf:fM l (.mk k a nm no ty n args)=(if decide (k=21)=true then args.take 1 else args).foldl fM (if n1 k=true then lA l nm else l):=by rw[fM,Zi T9,A2]
 rw[Uf]at Ug ⊢;clear Uf;generalize f:(if n1 k=true then lA l nm else l)=bw at Ug ⊢;have VJ:=F2 (if decide (k=21)=true then args.take 1 else args) bw;refine dF @tf @b8 @U9 ⟨?_⟩;refine dN ?_;apply y2 (P:=λB D O=>B.g 0=some (.ptr T2 0)/\B.g 2=some (.ptr gX 0)/\u<=O/\pU X D O dK aT bw/\∀o,o<aT->o≠dK->H X D o=H X q o)
 ·intro Uq;by_cases U3:n1 k=true
  ·rw[Zv U3]at f;obtain⟨_,c,UK,aW,UP,Y,Ul,r⟩:=id T4;have U1:ay X q (.ptr dK 0)=some UK:=(by rw[a8 UP,Y]);apply t6
   ·intro bl;have V0:k=2\/k=6\/k=24:=(by simpa[n1,or_assoc]using U3);by_cases T3:k=2
    ·have T1:decide (k=2)=true:=(by simp[T3]);refine dF @b8 @T1 (Za @U1 @b0) ⟨?_⟩;exact bl.out
    ·have T1:decide (k=2)=false:=(by simp[T3]);by_cases UQ:k=6
     ·have T5:decide (k=6)=true:=(by simp[UQ]);refine dF @b8 @T1 (Za @T5 (Za @U1 @b0)) ⟨?_⟩;exact bl.out
     ·have T5:decide (k=6)=false:=(by simp[UQ]);have U8:decide (k=24)=true:=(by simp;omega);refine dF @b8 @T1 (Za @T5 (Za @U8 (Za @U1 @b0))) ⟨?_⟩;exact bl.out
   obtain⟨Us,U4⟩:=Ul.pC (P:=λo=>aT<=o/\o<u) (by rw[Zj];have:=EG l nm;rw[f]at this;omega) r;have U4:cl X q (λo=>aT<=o/\o<u) Us UK 1 (dh l):=(by rw[Ya]at U4;exact U4);refine(Fl (u:=u+10) UT U4 (v:=decide (nm∈l)) rfl).Zm ?_;rintro R au ap ⟨rfl,UR⟩;have p:=UR.gx (show u<=u+10 by omega);have V7:=UR.le;refine h8 ⟨?_⟩;refine eO _ ?_ (λB q n h=>(Uq B q n h).out);intro Uo s;by_cases U2:nm∈l
   ·have UA:decide (nm∈l)=true:=(by simp[U2]);rw[lA,Zv U2]at f;refine bo @UA ⟨?_⟩;exact s _ _ _ ⟨aC,aC,Zo,f▸T4.M Zo (λo b _=>p.M o b) Ue,λo b _=>p.M o Zo⟩
   ·have UA:decide (nm∈l)=false:=(by simp[U2]);rw[lA,Zi U2]at f;have V8:ay X au (.ptr dK 0)=some UK:=(by rw[p.dn _ _ Zo];exact U1);have Uu:ay X au (.ptr T2 2)=some (.str nm):=(by rw[p.dn _ _ (zL (aV T2 TY).1)];exact b0);refine cg @UA @V8 @Uu ⟨?_⟩;generalize UD:Go.aF.aH X au (ap+5) _=am;have Uw:H X am (ap+5)=zP [.str nm] 1:=(by rw[<-UD,aM Zo]);have bl:∀o,o<ap->H X am o=H X au o:=λo b=>(by rw[<-UD,ah Zo Zo]);clear UD;obtain⟨UJ,T8,Ut,V3,Um,UX,U0⟩:=(Ul.M (D:=am) (λo b=>by have:=r o b;rw[bl o Zo,p.M o Zo])).append (u:=ap+8) Zd (hY Uw (gv _) rfl _) rfl Zd rfl (by have:=congrArg List.length f;simp at this ⊢;omega) Zo (λo b=>zL (r o b));refine d8 V3 ?_;obtain⟨VE,VF,VS⟩:=et.one Um;have UO:H X T8 dK=some (.cells c 1 .own):=(by rw[U0 dK Zo (λh=>zL (r _ h)),bl dK Zo,p.M dK Zo];exact UP);refine h8 ⟨?_⟩;refine dg (jF UO Zo Zo VE VF) ?_;refine bx ⟨?_⟩;generalize UE:Go.aF.aH X T8 dK _=UN;have Uz:H X UN dK=some (.cells (c.set 0 (some UJ)) 1 .own):=(by rw[<-UE,aM Zo]);have Up:∀o,o≠dK->H X UN o=H X T8 o:=λo b=>(by rw[<-UE,ah Zo b]);clear UE;refine s _ _ _ ⟨aC,aC,Zo,⟨Zo,c.set 0 (some UJ),UJ,Ut,Uz,by rw[E.e0,Zv rfl], ?_, ?_⟩,λo b G=> ?_⟩
    ·rw[<-f,ZU];exact .inl (Um.M λo b=>Up o (by rcases UX o b with rfl|h;omega;have:=r _ h;omega))
    ·intro o b;rcases UX o b with rfl|h
     ·omega
     ·have:=r _ h;omega
    ·rw[Up o G,U0 o Zo (λh=>zL (r _ h)),bl o Zo,p.M o Zo]
  ·rw[Zi U3]at f;have V0:¬(k=2\/k=6\/k=24):=(by simpa[n1,or_assoc]using U3);have T1:decide (k=2)=false:=(by simp;omega);have T5:decide (k=6)=false:=(by simp;omega);have U8:decide (k=24)=false:=(by simp;omega);refine dF @b8 @T1 (Za @T5 @U8) ⟨?_⟩;refine eO _ ?_ (λB q n h=>(Uq B q n h).out);intro Uo s;refine bx ⟨?_⟩;exact s _ _ _ ⟨aC,aC,Zo,f▸T4.M Zo (λo b _=>rfl) Ue,λo b _=>rfl⟩
 clear T4;rintro U6 au ap ⟨t0,g,V7,Uc,UF⟩;have TZ:∀o,P o->H X au o=H X q o:=λo b=>UF o (aV o b).1 (aV o b).2;have VG:=(aV T2 TY).1;have VH:=(aV T2 TY).2;rw[bB, <-TZ T2 TY, <-bB]at b8 f9;replace x:=x.M (D:=au) TZ;replace A:=b5.M (D:=au) TZ _ _ A;have Uh:=x.len;rw[Zj]at Uh;have V9:=x.many;rw[Zj]at V9;refine dF @t0 @b8 @f9 ⟨?_⟩;refine eO (λB D O=>∃T0,B.g 2=some (.ptr gX 0)/\B.g 5=some T0/\cl X au P bC T0 1 ((if decide (k=21)=true then aG.take 1 else aG).map λv=>[v])/\D=au/\O=ap) ?_ ?_
 ·intro Uo s;by_cases t:k=21
  ·have T6:decide (k=21)=true:=(by simp[t]);have UI:aG≠[]:=λe=>by
    have h:=UC.1;subst e
    have:args=[]:=ZS (by simpa using Un.symm)
    simp[t,this]at h
   have VQ:=ZP.2 UI;obtain⟨T0,UH,T7⟩:=abN (m:=1) x ((V4 UI).2 Zo|>.M (TZ bC (x.W (by simpa using UI)))) Zo;have UH:fw X au 1 aE none (some (.Z 1)) none=some T0:=UH;have Uj:=GZ (C:=y X) (q:=au) (aG.length:Int) 1;rw[Int.min_eq_right Zo]at Uj;refine df @T6 @Uh @Uj @UH ⟨?_⟩;exact s _ _ _ ⟨T0,af g,aC,by simpa[T6]using T7,rfl,rfl⟩
  ·have T6:decide (k=21)=false:=(by simp[t]);refine bo @T6 ⟨?_⟩;exact s _ _ _ ⟨aE,af g,aC,by simpa[T6]using x,rfl,rfl⟩
 clear t0 g U6;rintro U6 U5 VD ⟨T0,g,t5,T7,rfl,rfl⟩;have V1:∀(i:Nat) a,(if decide (k=21)=true then args.take 1 else args)[i]? =some a->a∈args/\∃w,(if decide (k=21)=true then aG.take 1 else aG)[i]? =some w/\bF X U5 P a w:=by
  intro i a ag;split at ag
  ·rename_i t;rw[Zv t];rw[Y0]at ag ⊢;split at ag
   ·rename_i V6;rw[Zv V6];obtain⟨w,UB,T3⟩:=A.get i a ag;exact⟨Zl ag,w,UB,T3⟩
   ·cases ag
  ·rename_i t;rw[Zi t];obtain⟨w,UB,T3⟩:=A.get i a ag;exact⟨Zl ag,w,UB,T3⟩
 have US:(if decide (k=21)=true then aG.take 1 else aG).length=(if decide (k=21)=true then args.take 1 else args).length:=by split<;>simp[Un]
 generalize (if decide (k=21)=true then args.take 1 else args)=L at*;generalize (if decide (k=21)=true then aG.take 1 else aG)=dL at*;have Ui:=T7.len;rw[Zj,US]at Ui;have VA:=T7.many;rw[Zj,US]at VA;refine bE @t5 @Ui ⟨?_⟩;refine cM (λm B D O=>∃(j:Nat),B.g 2=some (.ptr gX 0)/\B.g 67=some T0/\B.g 68=some (.Z L.length)/\B.g 69=some (.Z j)/\j+m=L.length/\VD<=O/\pU X D O dK aT ((L.take j).foldl fM bw)/\∀o,o<aT->o≠dK->H X D o=H X U5 o)
  L.length ⟨0,af g,aC,aC,cT,Zo,Zg _,Uc,λ_ _ _=>rfl⟩ ?_
 clear Uc g t5 U6;rintro m B am aw ⟨j,g,Ur,UL,UM,VI,VK,UG,dB⟩;cases m with
 |zero=>have d:=zM j L.length;rw[Zy Zo]at UG;refine cg @UM @UL @d ⟨?_⟩;exact⟨rfl,Zo,UG,λo b G=>by rw[dB o b G,UF o b G]⟩|succ m=>
  have d:=zN j L.length;have Uv:=zQ j;obtain⟨U7,UV⟩:∃a,L[j]? =some a:=⟨_,Zb Zo⟩;obtain⟨UW,w,VB,VC⟩:=V1 j U7 UV;have UU:∀o,P o->H X am o=H X U5 o:=λo b=>dB o (aV o b).1 (aV o b).2;obtain⟨Ux,Uy,UO⟩:=(T7.M (D:=am) UU).one VB;have UZ:ay X am (.ptr gX 0)=some (.func (.func 47) [] [.ptr dK 0,.ptr gX 0]):=by rw[bB,dB gX Ua Uk,UF gX Ua Uk, <-bB];exact V5
  refine cu @UM @UL @Ur @g @d @Ux (Za @Uy @UZ) ⟨?_⟩;have VP:=GS UW;have Ub:(L.take (j+1)).foldl fM bw=fM ((L.take j).foldl fM bw) U7:=by rw[ZD,UV,Y8];rfl
  have VM:((L.take (j+1)).foldl fM bw).length<=(L.foldl fM bw).length:=by
   conv=>rhs;rw[<-List.take_append_drop (j+1) L,Y8]
   exact F2 _ _
  refine(U U7 Zo aV UZ UG (bF.M UU _ _ VC) (FR UC.2 UW) (by rw[<-Ub];omega)).Zm ?_;rintro R T8 VR ⟨rfl,VL,Ud,U0⟩;rw[<-Ub]at Ud;refine bE @UM @Uv ⟨?_⟩;exact⟨m,Zo,j+1,af g,af Ur,af UL,aC,Zo,Zo,Ud,λo b G=>by rw[U0 o b G,dB o b G]⟩
def θ(d:bZ X){e:aX}{v:z}(p:(y X).aB<=u)(aV:∀o,P o->o<u)(m:bF X q P e v)(j:nQ e=true)(n:(fM [] e).length<=300000):
 aD X 26 [v] q u (λR D Z=>(∃aW,da X D R 1 ((fM [] e).map .str) aW/\∀o∈aW,u<=o/\o<Z)/\aU X q u D Z) zX:=by
 refine Fd d (Lv ..) ?_;unfold Dt;refine bx ⟨?_⟩;generalize b:Go.aF.aH X (Go.aF.aH X _ (u+1) _) (u+1) _=au;have g:H X au u=zP [.ax] 1:=by rw[<-b];exact z6
 have f:ay X au (.ptr (u+1) 0)=some (.func (.func 47) [] [.ptr u 0,.ptr (u+1) 0]):=by rw[<-b,a8 (aM Zo),fR];rfl
 have a7:∀o,o<u->H X au o=H X q o:=λo a=>by rw[<-b];exact zR
 clear b;refine bo @f ⟨?_⟩;refine(SF d (dK:=u) (gX:=u+1) (aT:=u+2) p Zo Zo Zo (uO e+1) e Zo (P:=P) (l:=[]) (λo a=>zL (aV o a)) f ⟨Zg _,_,.ax,[],g,rfl,.inl (.inl ⟨rfl,rfl,rfl⟩),Zs⟩ (bF.M (λo a=>a7 o (aV o a)) _ _ m) j n).Zm ?_;rintro R am aw ⟨rfl,s,⟨_,c,aE,aW,i,Y,r,k⟩,dB⟩;refine bE (a8 i) @Y ⟨?_⟩;exact⟨⟨aW,r,λo a=>zL (k o a)⟩,Zo,λo a=>by rw[dB o Zo Zo];exact a7 o a⟩
def dv(l:List Int):List z:=l.map λaj=> .Z aj
def eh(l:List Int):List (List z):=l.map λaj=>[.Z aj]
def Az(l:List Int):(eh l).flatten=dv l:=by induction l with|nil=>rfl|cons a l U=>show[z.Z a]++(eh l).flatten=_;rw[U];rfl
def Ht(l:List Int):dU (dv l)=true:=by induction l with|nil=>rfl|cons a l U=>exact U
def RA(l:List Int):qI (dv l)=some l:=by induction l with|nil=>rfl|cons a l U=>show(match qI (dv l)with|some r=>some (a::r)|none=>none)=_;rw[U]
def j2(l:List Int):(dv l).length=l.length:=by simp[dv]
variable{C:al}{b:Nat}
structure iM(C:al)(q:E S)(b:Nat)(ao:List Int):Prop where
 aB:C.aB<=b
 at_:∃c,H C q b=some (.cells c ao.length (.grow []))/\kU c (dv ao)
def iM.write{ao dL:List Int}{I:Nat}(h:iM C q b ao)(d:I+dL.length<=ao.length):
 ∃D,g5 C q b I (dv dL)=some D/\iM C D b (ao.take I++(dL++ao.drop (I+dL.length)))/\∀o,o≠b->H C D o=H C q o:=by
 obtain⟨a,c,f,K⟩:=h;have g:(ao.take I++(dL++ao.drop (I+dL.length))).length=ao.length:=by simp;omega
 refine⟨aH C q b (some (.cells (cj c I (dv dL)) ao.length (.grow []))), ?_,⟨a,_,by rw[aM a,g], ?_⟩,λo i=>ah a i⟩
 ·have e:Nat.ble (I+(dv dL).length) ao.length=true:=de (by rw[j2];exact d);simp only[g5,f,eB,de a,e,Ht,ZZ,cI,du,fi]
 ·have:=K.put (I:=I) (aG:=dv dL) (by rw[j2,j2];exact d);rw[show dv (ao.take I++(dL++ao.drop (I+dL.length)))=nd (dv ao) I (dv dL) by simp[nd,dv]];exact this
def iM.store{ao:List Int}{i:Nat}{aj:Int}(h:iM C q b ao)(ag:i<ao.length):∃D,cW C q 1 (.ptr b i) (.Z aj)=some D/\iM C D b (ao.set i aj)/\∀o,o≠b->H C D o=H C q o:=by
 obtain⟨D,a,c,d⟩:=h.write (I:=i) (dL:=[aj]) Zx;refine⟨D,a, ?_,d⟩
 have:ao.take i++([aj]++ao.drop (i+[aj].length))=ao.set i aj:=by rw[List.set_eq_take_append_cons_drop,Zv ag];rfl
 rw[<-this];exact c
def iM.hT{ao:List Int}{i:Nat}{aj:Int}(h:iM C q b ao)(ag:ao[i]? =some aj):ay C q (.ptr b i)=some (.Z aj):=by obtain⟨d,c,a,K⟩:=h;rw[a8 a,K i,dv,Zt,ag];rfl
def iM.rd{ao:List Int}{k:Nat}(h:iM C q b ao)(f:k<=ao.length)(g:k<=300000)(aV:P b):cl C q P b (.cq b 0 k 1) 1 (eh (ao.take k)):=by
 have e:(eh (ao.take k)).length=k:=by simp[eh];omega
 refine⟨λ_=>aV,Zo,λr K=> ?_,by rw[lg,e],λi ag=>by rw[m4 _ Zo,ZK],λi r j v ag c=> ?_⟩
 ·obtain⟨R,_,rfl⟩:=ZC.1 K;rfl
 ·rw[eh,Zt]at ag;cases a:(ao.take k)[i]? with
  |none=>rw[a]at ag;cases ag|some aj=>
   rw[a]at ag;cases ag;have d:j=0:=(by have:=(Ze.1 c).1;simpa using this);subst d;cases c;rw[ZF,ZN];refine h.hT ?_;rw[Y0]at a;split at a
   ·exact a
   ·cases a
def abR{s:z}{ao:List Int}{aW:List Nat}(h:et C q s 1 (dv ao) aW)(A:ao=[]->s=.ax)(T6:ao.length<=300000):
 ∃D,p7 C q [s]=some D/\(∀o,o∉aW->H C D o=H C q o)/\((s=.ax/\ao=[])\/∃b,b∈aW/\s=.cq b 0 ao.length 1/\iM C D b (d0 ao)/\ao≠[]):=by
 by_cases d:ao=[]
 ·have e:=A d;subst e;exact⟨q,rfl,λ_ _=>rfl,.inl ⟨rfl,d⟩⟩
 have k:=ZP.2 d;have f:(d0 ao).length=ao.length:=rz ao;have x:=h;rcases h with ⟨rfl,a,rfl⟩|⟨b,b3,n,c,rfl,a,rfl,T4,T5,G,L⟩
 ·simp[dv]at a;exact absurd a d
 rw[ZF,j2]at a;subst a;obtain⟨D,l,X,P⟩:=x.put (b:=b) (I:=0) (v:=.agg (dv (d0 ao))) rfl rfl (by show 0<(dv (d0 ao)).length;rw[j2,f];exact k) (Ht _) (by show 0+(dv (d0 ao)).length<=_;rw[j2,j2,f];omega);have T0:g5 C q b 0 (dv (d0 ao))=some D:=by have g:Nat.beq (z.agg (dv (d0 ao))).cells.length (z.agg (dv (d0 ao))).cells.length=true:=YW _;have i:Nat.blt 0 (z.agg (dv (d0 ao))).cells.length=true:=tU (by show 0<(dv (d0 ao)).length;rw[j2,f];exact k);simp only[cW,g,i,ZZ,cI]at l;exact l
 have N:gq C q b 0 ao.length=some (dv ao):=by have:=wD (c:=c) (dv ao) 0 (λj v O=>by rw[ZK,L j];exact O);rw[j2]at this;simp only[gq,cellsOf,G];exact this
 refine⟨D, ?_,P,.inr ⟨b,Zr ..,rfl, ?_,d⟩⟩
 ·have g:Nat.blt 0 ao.length=true:=tU k;have i:Nat.ble ao.length 1000000=true:=de Zo;simp only[p7,tO,N,RA,g,i,ZZ,cI];exact T0
 ·rcases X with ⟨e,_⟩|⟨T1,T8,T7,m,e,T2,p,r,T3,t,w⟩
  ·cases e
  cases e;cases p;refine⟨r _ (Zr ..),m,by rw[t,f,ZF], ?_⟩
  have:nd (dv ao) 0 (dv (d0 ao))=dv (d0 ao):=by unfold nd;rw[Z8,Yq,ZM (by rw[j2,j2,f];omega),ZY]
  rw[<-this];exact w
def OU:∀(l:List Int) (p a:Int),jq p (l++[a])=jq p l++(if a=(l.getLast?.getD p)then[]else[a]):=by
 intro l;induction l with
 |nil=>intro p a;simp only[Yq,jq,List.getLast?_nil,Option.getD_none];rfl|cons b l U=>
  intro p a;rw[Yw,jq,jq];have d:((b::l).getLast?.getD p)=l.getLast?.getD b:=by cases l with|nil=>rfl|cons c l=>simp[List.getLast?_cons]
  rw[d];split
  ·exact U b a
  ·rw[U b a];rfl
def Fg{ao:List Int}{j:Nat}{a p:Int}(b:ao[j+1]? =some a)(c:ao[j]? =some p):hz (ao.take (j+2))=hz (ao.take (j+1))++(if a=p then[]else[a]):=by
 cases ao with
 |nil=>simp at b|cons x l=>
  rw[Yd]at b;rw[Yf,Yf,hz,hz,ZD,b];show x::jq x (l.take j++[a])=_;rw[OU]
  have:(l.take j).getLast?.getD x=p:=by cases j with|zero=>simpa using c|succ j=>rw[Yd]at c;rw[ZD,c];simp
  rw[this];rfl
def Ic{ao:List Int}{k:Nat}(h:iM C q b ao)(f:k<ao.length):fw C q 1 (.cq b 0 ao.length 1) (some (.Z k)) none none=some (.cq b k (ao.length-k) 1):=by obtain⟨g,c,e,K⟩:=h;have a:Nat.ble k ao.length=true:=de Zo;have d:Nat.blt k ao.length=true:=tU f;simp[fw,ii,e,fW,ho,hV,a,d,zI]
def abS{ao:List Int}{k:Nat}(h:iM C q b ao)(f:k<=ao.length):fw C q 1 (.cq b 0 ao.length 1) none (some (.Z k)) none=some (.cq b 0 k 1):=by obtain⟨e,c,d,K⟩:=h;have a:Nat.ble k ao.length=true:=de Zo;simp[fw,ii,d,fW,ho,hV,a,zI]
def OL{ao:List Int}{k:Nat}(h:iM X q b ao)(i:k<ao.length):∃D,k7 X q u .clear [39] [.cq b k (ao.length-k) 1]=some (.cJ (.tuple []) D u)/\iM X D b (ao.take k++List.replicate (ao.length-k) 0)/\∀o,o≠b->H X D o=H X q o:=by
 obtain⟨D,c,a,d⟩:=h.write (I:=k) (dL:=List.replicate (ao.length-k) 0) Zx;refine⟨D, ?_, ?_,d⟩
 ·have f:(y X).P.underlying 39=some (.slice 3):=Zk;have e:fk X 3=some 1:=Zk;have g:kg X 3=some (.Z 0):=Zk;have W:Nat.beq (ao.length-k) 0=false:=by cases h:Nat.beq (ao.length-k) 0 with|false=>rfl|true=>have:=Zn h;omega
  have K:∀n,fj n (z.Z 0).cells=dv (List.replicate n 0):=by intro n;induction n with|zero=>rfl|succ n U=>rw[List.replicate_succ];show(z.Z 0).cells++fj n (z.Z 0).cells=_;rw[U];rfl
  simp only[k7,tK,f,e,g,W,K,c,ga];rfl
 ·have:ao.drop (k+(List.replicate (ao.length-k) (0:Int)).length)=[]:=ZM Zx
  rw[this,ZY]at a;exact a
def qL{b I n i:Nat}(h:i<n):c8 1 (.cq b I n 1) (.Z i)=some (.ptr b (I+i)):=by rw[m4 _ h,ZF]
set_option maxRecDepth 100000 in
def OW(UI:bZ X){s:z}{ao:List Int}(h:(s=.ax/\ao=[])\/∃b,P b/\s=.cq b 0 ao.length 1/\iM X q b ao/\ao≠[])(U7:ao.length<=300000):
 aD X 28 [s] q u (λR D Z=>u<=Z/\(∃UE,cl X D P UE R 1 (eh (hz ao)))/\∀o,¬P o->H X D o=H X q o) zX:=by
 refine Fd UI (Lx ..) ?_;unfold Du;rcases h with ⟨rfl,rfl⟩|⟨b,C,rfl,r,T4⟩
 ·have d:decide ((0:Int)<2)=true:=rfl;refine bo @d ⟨?_⟩;exact⟨Zg _,⟨0,cl.nil P 1⟩,λ_ _=>rfl⟩
 have UT:=ZP.2 T4;by_cases UH:ao.length<2
 ·have d:decide ((ao.length:Int)<2)=true:=z1;refine bo @d ⟨?_⟩;have v:hz ao=ao.take ao.length:=by
   match ao,T4,UH with
   |[x],_,_=>rfl|x::o::l,_,h=>simp at h;omega
  rw[v];exact⟨Zg _,⟨b,r.rd (Zg _) U7 C⟩,λ_ _=>rfl⟩
 have d:decide ((ao.length:Int)<2)=false:=z2;refine bo @d ⟨?_⟩;refine cM (λm B D T9=>∃(k:Nat),B.g 0=some (.cq b 0 ao.length 1)/\B.g 3=some (.Z k)/\k+m=ao.length/\1<=k/\D=q/\u<=T9/\hz (ao.take k)=ao.take k)
  (ao.length-1) ⟨1,aC,cT,Zo,Zg _,rfl,Zg _,by
   cases ao with
   |nil=>exact absurd rfl T4|cons x l=>rfl⟩ ?_
 rintro m B dT ap ⟨k,t0,t3,UP,UQ,rfl,UL,v⟩;cases m with
 |zero=>have d:=zM k ao.length;refine cg @t3 @t0 @d ⟨?_⟩;rw[Zy Zo]at v;rw[v];have:=r.rd (Zg _) U7 C;rw[Yx]at this;exact⟨UL,⟨b,this⟩,λ_ _=>rfl⟩|succ m=>
  have d:=zN k ao.length;have UF:=zQ k;have TY:aK .sub (.Z k) (.Z 1)=some (.Z (k-1:Nat)):=by rw[ju Zo Zo,show((k:Int) -1)=((k-1:Nat):Int) by omega]
  obtain⟨a,T2⟩:=zO ao k;obtain⟨p,U8⟩:∃a,ao[k-1]? =some a:=⟨_,Zb Zo⟩;have T7:=qL (b:=b) (I:=0) (n:=ao.length) (i:=k) Zo;have T8:=qL (b:=b) (I:=0) (n:=ao.length) (i:=k-1) Zo;rw[ZK]at T7 T8;have U3:=r.hT T2;have U5:=r.hT U8;have w:=Fg (ao:=ao) (j:=k-1) (a:=a) (p:=p) (by rw[show k-1+1=k by omega];exact T2) U8;rw[show k-1+2=k+1 by omega,show k-1+1=k by omega,v]at w;by_cases G:a=p
  ·have g:decide (a=p)=true:=(by simp[G]);rw[Zv G,ZY]at w;have gu:=Ic r (k:=k) Zo;refine cu @t3 @t0 @d @T7 @T8 @U3 (Za @U5 (Za @TY (Za @g @gu))) ⟨?_⟩;refine cM (λm B D T9=>∃(j f:Nat) (dL:List Int),B.g 0=some (.cq b 0 ao.length 1)/\B.g 3=some (.Z f)/\B.g 4=some (.cq b k (ao.length-k) 1)/\B.g 5=some (.Z j)/\j+m=ao.length-k/\1<=j/\k<=f/\f+1<=k+j/\u<=T9/\
    iM X D b dL/\dL.length=ao.length/\dL.take f=hz (ao.take (k+j))/\(∀i,k+j<=i+1->dL[i]? =ao[i]?)/\∀o,o≠b->H X D o=H X dT o)
    (ao.length-k-1) ⟨1,k,ao,af t0,af t3,aC,cT,Zo,Zg _,Zg _,Zg _,Zo,r,rfl,w.symm,λ_ _=>rfl,λ_ _=>rfl⟩ ?_
   clear t0 t3 B;rintro T1 B au aw ⟨j,f,dL,t0,t3,t4,t5,UN,UO,UJ,UR,US,t,T5,T6,O,T3⟩;cases T1 with
   |zero=>
    have d:=zM j (ao.length-k:Nat);rw[show k+j=ao.length by omega,Yx]at T6;have hB:=Ic t (k:=f) Zo;obtain⟨am,U2,N,dB⟩:=OL (u:=aw) t (k:=f) Zo;rw[T5]at hB U2;have UK:(dL.take f++List.replicate (dL.length-f) (0:Int)).length=ao.length:=(by simp;omega);have UA:=abS N (k:=f) Zo;rw[UK]at UA;refine eg @t5 @t4 @t0 @t3 @d @hB ⟨?_⟩;refine d8 U2 ?_;refine cg @t0 @t3 @UA ⟨?_⟩;refine⟨Zo,⟨b, ?_⟩,λo T0=> ?_⟩
    ·have K:=N.rd (k:=f) Zo Zo C;rw[YO Zx,List.take_take,Nat.min_self,T6]at K;exact K
    ·have c5:o≠b:=λe=>T0 (e▸C);rw[dB o c5,T3 o c5]
   |succ T1=>
    have d:=zN j (ao.length-k:Nat);have TZ:=zQ j;have U0:aK .sub (.Z j) (.Z 1)=some (.Z (j-1:Nat)):=(by rw[ju Zo Zo,show((j:Int) -1)=((j-1:Nat):Int) by omega]);have UG:=zQ f;obtain⟨c,U1⟩:∃a,ao[k+j]? =some a:=⟨_,Zb Zo⟩;obtain⟨V,U9⟩:∃a,ao[k+(j-1)]? =some a:=⟨_,Zb Zo⟩;have UB:=qL (b:=b) (I:=k) (n:=ao.length-k) (i:=j) Zo;have UD:=qL (b:=b) (I:=k) (n:=ao.length-k) (i:=j-1) Zo;have U4:=t.hT ((O _ Zo).trans U1);have U6:=t.hT ((O _ Zo).trans U9);have A:=Fg (ao:=ao) (j:=k+(j-1)) (a:=c) (p:=V) (by rw[show k+(j-1)+1=k+j by omega];exact U1) U9;rw[show k+(j-1)+2=k+(j+1) by omega,show k+(j-1)+1=k+j by omega, <-T6]at A;by_cases L:c=V
    ·have g:decide (c≠V)=false:=(by simp[L]);rw[Zv L,ZY]at A;refine cu @t5 @t4 @t0 @t3 @d @TZ (Za @U0 (Za @UB (Za @UD (Za @U4 (Za @U6 @g))))) ⟨?_⟩;exact⟨T1,Zo,j+1,f,dL,af t0,af t3,af t4,aC,Zo,Zo,UJ,Zo,Zo,t,T5,A.symm,λi ag=>O i Zo,T3⟩
    ·have g:decide (c≠V)=true:=(by simp[L]);rw[Zi L]at A;have UC:=qL (b:=b) (I:=0) (n:=ao.length) (i:=f) Zo;rw[ZK]at UC;obtain⟨am,UM,N,dB⟩:=t.store (i:=f) (aj:=c) Zo;refine cu @t5 @t4 @t0 @t3 @d @TZ (Za @U0 (Za @UB (Za @UD (Za @U4 (Za @U6 (Za @g (Za @UC (Za @UM @UG)))))))) ⟨?_⟩;refine⟨T1,Zo,j+1,f+1,dL.set f c,af t0,aC,af t4,aC,Zo,Zo,Zo,Zo,Zo,N,by rw[List.length_set];exact T5, ?_,λi ag=>by rw[Y9,Zi Zo];exact O i Zo,λo T0=>by rw[dB o T0,T3 o T0]⟩;rw[A,ZD,Y9,Zv rfl,Zv Zo,List.take_set_of_le (Zg _)];rfl
  ·have g:decide (a=p)=false:=(by simp[G]);rw[Zi G]at w;refine cu @t3 @t0 @d @T7 @T8 @U3 (Za @U5 (Za @TY (Za @g @UF))) ⟨?_⟩;exact⟨m,Zo,k+1,af t0,aC,Zo,Zo,rfl,Zo,by rw[w,ZD,T2];rfl⟩
variable{aI:Nat->Prop}
def nu(X:bi)(q:E S)(P:Nat->Prop)(v:z)(ao:List Int):Prop:=∃b,cl X q P b v 1 (eh ao)
def nu.M{v:z}{ao:List Int}(h:nu X q P v ao)(k:∀o,P o->H X D o=H X q o)(a:∀o,P o->aI o):nu X D aI v ao:=h.imp λ_ h=>(h.M k).lift a
def oE(X:bi)(q:E S)(P:Nat->Prop)(v:z)(a:List (List Int)):Prop:=∃(b:Nat) (aG:List z),cl X q P b v 1 (aG.map λv=>[v])/\aG.length=a.length/\∀(i:Nat) v ao,aG[i]? =some v->a[i]? =some ao->nu X q P v ao
def oE.M{v:z}{e:List (List Int)}(h:oE X q P v e)(k:∀o,P o->H X D o=H X q o)(d:∀o,P o->aI o):oE X D aI v e:=by obtain⟨b,aG,f,g,j⟩:=h;exact⟨b,aG,(f.M k).lift d,g,λi v ao a c=>(j i v ao a c).M k d⟩
def BY{l:List Int}{i j:Nat}{a b:Int}(ag:l[i]? =some a)(e:l[j]? =some b):((l.set i b).set j a).Perm l:=by obtain⟨c,rfl⟩:=Ze.1 ag;obtain⟨d,rfl⟩:=Ze.1 e;exact List.set_set_perm c d
def uR{rd:Bool}{t f:Nat}{v:z}{name:String}{l a:List z}{T ab:aY}(d:jl C q t v name l=hi C f a)(h:aD C f a q u T ab):jy C rd (.iface t v) name l q u T ab:=by obtain⟨r,b,c⟩:=yS (rd:=rd) h;refine⟨?_⟩;show oO C rd (jl C q t v name l) q u T ab;rw[d,b];exact c
def is(C:al)(q:E S)(s:z)(ao:List Int)(aW:List Nat):Prop:=(ao=[]/\aW=[]/\∃b,s=.slice b 0 0 0)\/
 ∃b b3 n c,s=.cq b 0 ao.length 1/\aW=b::b3/\(∀x∈aW,C.aB<=x)/\b∉b3/\H C q b=some (.cells c n (.grow b3))/\ao.length<=n/\∀i aj,ao[i]? =some aj->c.get i=some (.Z aj)
def is.M{s:z}{ao:List Int}{aW:List Nat}(h:is C q s ao aW)(j:∀o∈aW,H C D o=H C q o):is C D s ao aW:=by
 rcases h with h|⟨b,b3,n,c,d,a,e,f,g,i⟩
 ·exact .inl h
 ·exact .inr ⟨b,b3,n,c,d,a,e,f,by rw[j b (by rw[a];exact Zr ..)];exact g,i⟩
def is.len{s:z}{ao:List Int}{aW:List Nat}(h:is C q s ao aW):c0 s=some (.Z ao.length):=by
 rcases h with ⟨rfl,_,b,rfl⟩|⟨b,b3,n,c,rfl,_⟩
 ·rfl
 ·exact lg ..
def is.one{s:z}{ao:List Int}{aW:List Nat}(h:is C q s ao aW):s.cells=[s]/\hI s=true:=by have:=fu h.len;exact⟨this.1,this.2.1⟩
def is.at{s:z}{ao:List Int}{aW:List Nat}(h:is C q s ao aW){i:Nat}{aj:Int}(ag:ao[i]? =some aj):∃b,b∈aW/\c8 1 s (.Z i)=some (.ptr b i)/\ay C q (.ptr b i)=some (.Z aj)/\
 ∀a,∃D,cW C q 1 (.ptr b i) (.Z a)=some D/\is C D s (ao.set i a) [b]/\∀o,o∉aW->H C D o=H C q o:=by
 have g:=(Ze.1 ag).1;rcases h with ⟨rfl,_,b,rfl⟩|⟨b,b3,n,c,rfl,rfl,l,G,m,t,p⟩
 ·simp at g
 ·have f:=l b (Zr ..);have v:∀x∈b3,C.aB<=x:=λx A=>l x (Zw _ A);refine⟨b,Zr ..,by have:=qL (b:=b) (I:=0) (n:=ao.length) g;rwa[ZK]at this,by rw[a8 m];exact p i aj ag,λa=>⟨aH C (fi C b3 q) b (some (.cells (c.set i (some (.Z a))) n (.grow []))), ?_,.inr ⟨b,[],n,_,by rw[List.length_set],rfl,by simpa using f,Zs,aM f,by rw[List.length_set];exact t,λk w d=> ?_⟩,λo j=> ?_⟩⟩
  ·have r:Nat.ble (i+[z.Z a].length) n=true:=de Zx;show(ba (Nat.beq [z.Z a].length 1&&Nat.blt 0 1) (g5 C q b i [z.Z a]) none)=_;simp only[g5,m,eB,de f,r,du,je,dU,hI,ZZ,cI];rfl
  ·rw[E.e0];rw[Y9]at d;by_cases e:i=k
   ·subst e;rw[Zv rfl,Zv g]at d;rw[Zv rfl];cases d;rfl
   ·rw[Zi e]at d;rw[Zi e];exact p k w d
  ·simp only[Zq,YT]at j;rw[ah f j.1,AJ _ _ _ v j.2]
def is.push{s x:z}{ao:List Int}{aW:List Nat}{aj:Int}(h:is C q s ao aW)(l:fQ C q 1 x=some (1,[.Z aj]))(d:C.aB<=u)(T8:ao.length<=1000000)(G:∀o∈aW,o<u):
 ∃L D Z t,eV C q u 1 s x=some (.cJ L D Z)/\u<=Z/\is C D L (ao++[aj]) t/\(∀o∈t,(u<=o/\o<Z)\/o∈aW)/\∀o,o<u->o∉aW->H C D o=H C q o:=by
 have r:eV C q u 1 s x=jU C q u 1 1 [.Z aj] s:=by have N:Nat.beq 1 0=false:=rfl;simp only[eV,l,N,ga]
 rcases h with ⟨rfl,rfl,b,rfl⟩|⟨b,b3,n,c,rfl,rfl,p,T5,v,T6,X⟩
 ·refine⟨_,_,u+1,[u],(r.trans ?_ :_=some (.cJ (.cq u 0 1 1) (aH C q u (some (.cells (E.ofList [.Z aj] 0 .nil) 1 (.grow [])))) (u+1))),Zo,.inr ⟨u,[],1,_,rfl,rfl,by simpa using d,Zs,aM d,Zs,λi w ag=> ?_⟩,λo a=> .inl (by rw[ZB.1 a];omega),λo a _=>ah d Zo⟩
  ·have g:Nat.ble (0+1) 0=false:=rfl;have j:gq C q b 0 (0*1)=some []:=(by unfold gq;split<;>rfl);have k:Nat.ble (0+1) 1048576=true:=rfl;simp only[jU,g,ga,j,k6,k,cI,fE,de d,gi,du];rfl
  ·cases i with|zero=>simp at ag;subst ag;rfl|succ i=>simp at ag
 ·have f:=p b (Zr ..);have T3:∀x∈b3,C.aB<=x:=λx l=>p x (Zw _ l);have T7:=G b (Zr ..);have A:∀i w,(ao++[aj])[i]? =some w->(cj c ao.length [.Z aj]).get i=some (.Z w):=λi w ag=>by
   rw[fR];by_cases T1:i<ao.length
   ·rw[ZQ T1]at ag;rw[Zi Zo];exact X i w ag
   ·have:=(Ze.1 ag).1;simp at this;have e:i=ao.length:=Zo;subst e;simp at ag;subst ag;rw[Zv ⟨Zg _,Zs⟩];simp
  by_cases T0:ao.length=n
  ·subst T0;have T2:∀x∈b::b3,x≠u:=λx l e=>zL (G x l);refine⟨_,_,u+1,u::b::b3,(r.trans ?_ :_=some (.cJ (.cq u 0 (ao.length+1) 1) (aH C (aH C q b (some (.cells c ao.length .fG))) u (some (.cells (cj c ao.length [.Z aj]) (ao.length+1) (.grow (b::b3))))) (u+1))),Zo,.inr ⟨u,b::b3,ao.length+1,_,Zs,rfl, ?_,λh=>T2 u h rfl,aM d,Zs,A⟩,λo a=> ?_,λo a c5=> ?_⟩
   ·have g:Nat.beq 1 1=true:=rfl;have j:Nat.ble (0+(ao.length+1)*1) ao.length=false:=by cases T4:Nat.ble (0+(ao.length+1)*1) ao.length with|false=>rfl|true=>have:=e7 T4;omega
    have k:Nat.ble (ao.length+1) 1048576=true:=de Zo;have O:Nat.beq (0+ao.length*1) ao.length=true:=(by simp);have P:Nat.beq 0 0=true:=rfl;have m:dU [z.Z aj]=true:=rfl;simp only[jU,g,oM,v,eB,de f,j,cI,ga,k,O,P,m,ZZ,du,fE,de d,gi];rfl
   ·intro o a;rcases Zq.1 a with rfl|a
    ·exact d
    ·exact p o a
   ·rcases Zq.1 a with rfl|a
    ·exact .inl ⟨Zo,Zo⟩
    ·exact .inr a
   ·simp only[Zq,YT]at c5;rw[ah d Zo,ah f c5.1]
  ·refine⟨_,_,u,[b],(r.trans ?_ :_=some (.cJ (.cq b 0 (ao.length+1) 1) (aH C (fi C b3 q) b (some (.cells (cj c ao.length [.Z aj]) n (.grow [])))) u)),Zg _,.inr ⟨b,[],n,_,Zs,rfl,by simpa using f,Zs,aM f,Zx,A⟩,λo a=> .inr (by rw[ZB.1 a];exact Zr ..),λo a c5=> ?_⟩
   ·have g:Nat.beq 1 1=true:=rfl;have j:Nat.ble (0+(ao.length+1)*1) n=true:=de Zo;have k:Nat.ble (0+ao.length*1+[z.Z aj].length) n=true:=de Zx;have m:dU [z.Z aj]=true:=rfl;simp only[jU,g,oM,v,eB,de f,j,cI,g5,k,m,ZZ,du];rw[show 0+ao.length*1=ao.length by omega]
   ·simp only[Zq,YT]at c5;rw[ah f c5.1,AJ _ _ _ T3 c5.2]
def is.pop{s:z}{ao:List Int}{aW:List Nat}{m:Nat}(h:is C q s ao aW)(k:ao.length=m+1):∃d,fw C q 1 s none (some (.Z m)) none=some d/\is C q d (ao.take m) aW:=by
 rcases h with ⟨rfl,_,b,rfl⟩|⟨b,b3,n,c,rfl,rfl,f,g,a,l,j⟩
 ·simp at k
 ·have e:Nat.ble m n=true:=de Zo;refine⟨.cq b 0 m 1, ?_,.inr ⟨b,b3,n,c,by rw[YI];congr 1;omega,rfl,f,g,a,by rw[YI];omega,λi aj ag=>j i aj ?_⟩⟩
  ·simp[fw,ii,a,fW,ho,hV,e,zI]
  ·rw[Y0]at ag;split at ag
   ·exact ag
   ·cases ag
variable{bv:Nat}{ao iJ kJ:List Int}{aW hl hx:List Nat}{T ab:aY}
def it(X:bi)(q:E S)(bv:Nat)(ao:List Int)(aW:List Nat):Prop:=(y X).aB<=bv/\bv∉aW/\∃c s,H X q bv=some (.cells c 1 .own)/\c.get 0=some s/\is X q s ao aW
def it.hT(h:it X q bv ao aW):∃s,ay X q (.ptr bv 0)=some s/\is X q s ao aW:=by obtain⟨_,_,c,s,a,b,d⟩:=h;exact⟨s,by rw[a8 a];exact b,d⟩
def it.M(h:it X q bv ao aW)(k:∀o,o=bv\/o∈aW->H X D o=H X q o):it X D bv ao aW:=by obtain⟨a,b,c,s,d,e,f⟩:=h;exact⟨a,b,c,s,by rw[k bv (.inl rfl)];exact d,e,f.M λo g=>k o (.inr g)⟩
structure hg(X:bi)(q:E S)(u bv:Nat)(aW:List Nat)(D:E S)(Z:Nat)(b:List Int)(a:List Nat):Prop where
 le:u<=Z
 at_:it X D bv b a
 sub:∀o∈a,o∈aW\/(u<=o/\o<Z)
 M:∀o,o<u->o≠bv->o∉aW->H X D o=H X q o
def hg.refl(h:it X q bv ao aW)(a:u<=Z):hg X q u bv aW q Z ao aW:=⟨a,h,λo b=> .inl b,λ_ _ _ _=>rfl⟩
def hg.trans(h:hg X q u bv aW au ap iJ hl)(k:hg X au ap bv hl am aw kJ hx):hg X q u bv aW am aw kJ hx:=by
 have f:=h.le;have a7:=k.le;refine⟨Zo,k.at_,λo c=> ?_,λo c a b=> ?_⟩
 ·rcases k.sub o c with a|a
  ·rcases h.sub o a with b|b
   ·exact .inl b
   ·exact .inr ⟨b.1,Zo⟩
  ·exact .inr ⟨Zo,a.2⟩
 ·rw[k.M o Zo a (λe=>by
   rcases h.sub o e with d|d
   ·exact b d
   ·omega),h.M o c a b]
def SL{s:z}(h:ay X q (.ptr bv 0)=some s):jl X q 152 (.ptr bv 0) "Len" []=hi X 75 [s]:=by have e:jl X q 152 (.ptr bv 0) "Len" []=(match ay X q (.ptr bv 0)with|some x=>hi X 75 [x]|none=>none):=Zk;rw[e,h]
def SM{s:z}(h:ay X q (.ptr bv 0)=some s)(i j:z):jl X q 152 (.ptr bv 0) "Less" [i,j]=hi X 193 [s,i,j]:=by have e:jl X q 152 (.ptr bv 0) "Less" [i,j]=(match ay X q (.ptr bv 0)with|some x=>hi X 193 [x,i,j]|none=>none):=Zk;rw[e,h]
def SP{s:z}(h:ay X q (.ptr bv 0)=some s)(i j:z):jl X q 152 (.ptr bv 0) "Swap" [i,j]=hi X 196 [s,i,j]:=by have e:jl X q 152 (.ptr bv 0) "Swap" [i,j]=(match ay X q (.ptr bv 0)with|some x=>hi X 196 [x,i,j]|none=>none):=Zk;rw[e,h]
def SO(x:z):jl X q 152 (.ptr bv 0) "Push" [x]=hi X 195 [.ptr bv 0,x]:=Zk
def SN:jl X q 152 (.ptr bv 0) "Pop" []=hi X 194 [.ptr bv 0]:=Zk
def GO(c:bZ X)(h:it X q bv ao aW)(k:T (.Z ao.length) q u):jy X false (.iface 152 (.ptr bv 0)) "Len" [] q u T ab:=by obtain⟨s,a,b⟩:=h.hT;refine uR (SL a) (bL (Eh X) (c.none _ _ rfl) ?_);rw[Ei];unfold yy;have d:=b.len;refine bo @d ⟨?_⟩;exact k
def Bc(f:bZ X)(h:it X q bv ao aW){i j:Nat}{a c:Int}(ag:ao[i]? =some a)(g:ao[j]? =some c)(k:∀d,u<=d->T (.bool (decide (a<c))) q d):jy X false (.iface 152 (.ptr bv 0)) "Less" [.Z (i:Int),.Z (j:Int)] q u T ab:=by obtain⟨s,e,b⟩:=h.hT;refine uR (SM e _ _) (bL (Lc X) (f.none _ _ rfl) ?_);rw[Ld];unfold Dj;obtain⟨bc,_,l,n,_⟩:=b.at ag;obtain⟨bp,_,m,p,_⟩:=b.at g;refine df @l @n @m @p ⟨?_⟩;exact k _ Zo
def Bd(G:bZ X)(h:it X q bv ao aW){i j:Nat}{a c:Int}(ag:ao[i]? =some a)(p:ao[j]? =some c)(k:∀D r w,hg X q u bv aW D r ((ao.set i c).set j a) w->T (.tuple []) D r):jy X false (.iface 152 (.ptr bv 0)) "Swap" [.Z (i:Int),.Z (j:Int)] q u T ab:=by
 obtain⟨C,e,b8,s,f,g,l⟩:=h;refine uR (SP (by rw[a8 f];exact g) _ _) (bL (Li X) (G.none _ _ rfl) ?_);rw[Lj];unfold Dm;obtain⟨bc,m,T3,T4,T1⟩:=l.at ag;obtain⟨bp,n,t,T5,_⟩:=l.at p;obtain⟨au,x,L,a7⟩:=T1 c;have P:∃d,(ao.set i c)[j]? =some d:=by have:=(Ze.1 p).1;exact⟨_,Zb (by rw[List.length_set];exact this)⟩
 obtain⟨d,ai⟩:=P;obtain⟨bG,O,v,T8,T2⟩:=L.at ai;obtain⟨am,A,N,bl⟩:=T2 a;rw[t]at v;cases v;refine eg @T3 @T4 @t @T5 @x @A ⟨?_⟩;have T6:bp=bc:=ZB.1 O;refine k _ _ [bp] ⟨Zo,⟨C,λb=>e (ZB.1 b▸n),b8,s, ?_,g,N⟩,λo T0=> .inl (ZB.1 T0▸n),λo _ T7 c5=> ?_⟩
 ·rw[bl bv (λb=>e (by rw[ZB.1 b];exact m)),a7 bv e];exact f
 ·rw[bl o (λb=>c5 (by rw[ZB.1 b];exact m)),a7 o c5]
def Rm{a:Nat}(e:a<1000000):aK .quo (.Z a) (.Z 2)=some (.Z (a/2:Nat)):=by
 have c:k9 2 0=false:=rfl;have d:(a:Int).tdiv 2=((a/2:Nat):Int):=by rw[Int.tdiv_eq_ediv_of_nonneg Zo];omega
 have b:iq .i64 ((a/2:Nat):Int)=((a/2:Nat):Int):=wrap64 Zo Zo;simp[aK,gH,gL,iZ,cY,c,d,hC,gj,b];rw[show((a:Int)/2)=((a/2:Nat):Int) by omega];exact b
def Rn:aK .quo (.Z (-1)) (.Z 2)=some (.Z 0):=by rfl
def Rl{a:Nat}(c:a<1000000):aK .mul (.Z 2) (.Z a)=some (.Z (2*a:Nat)):=by have b:iq .i64 (2*(a:Int))=((2*a:Nat):Int):=(wrap64 Zo Zo).trans Zo;simp[aK,gH,gL,iZ,cY,hC,gj,b]
def acZ(l:bZ X)(h:it X q bv ao aW){j:Nat}(x:j<ao.length)(L:ao.length<=900000):
 aD X 107 [.iface 152 (.ptr bv 0),.Z (j:Int)] q u (λR D Z=>R=.tuple []/\∃e g,e.Perm ao/\hg X q u bv aW D Z e g) zX:=by
 refine Fd l (Jz ..) ?_;unfold Ct;refine bx ⟨?_⟩;refine cM (λm B D A=>∃(e:List Int) (g:List Nat),B.g 0=some (.iface 152 (.ptr bv 0))/\B.g 1=some (.Z m)/\m<ao.length/\e.Perm ao/\hg X q u bv aW D A e g)
  j ⟨ao,aW,aC,aC,x,List.Perm.refl _,hg.refl h (Zg _)⟩ ?_
 rintro m B au ap ⟨iJ,hl,t0,t1,N,f,b⟩;have G:=f.length_eq;cases m with
 |zero=>have k:aK .sub (.Z (0:Nat)) (.Z 1)=some (.Z (-1)):=ju Zo Zo;have t1:B.g 1=some (.Z (0:Nat)):=t1;have d:decide ((0:Int)=((0:Nat):Int))=true:=rfl;refine df @t1 @k @Rn @d ⟨?_⟩;exact⟨rfl,iJ,hl,f,b⟩|succ m=>
  have k:aK .sub (.Z (m+1:Nat)) (.Z 1)=some (.Z m):=by rw[ju Zo Zo,show(((m+1:Nat):Int) -1)=(m:Int) by omega]
  have v:=Rm (a:=m) Zo;have d:decide (((m/2:Nat):Int)=((m+1:Nat):Int))=false:=z2;obtain⟨a,n⟩:∃a,iJ[m+1]? =some a:=⟨_,Zb Zo⟩;obtain⟨c,p⟩:∃a,iJ[m/2]? =some a:=⟨_,Zb Zo⟩;refine dA @t0 @t1 @k @v @d ⟨?_⟩;refine Bc l b.at_ n p (λaw s=> ?_);by_cases r:a<c
  ·have i:decide (a<c)=true:=(by simp[r]);rw[i];refine bE @t0 @t1 ⟨?_⟩;refine Bd l b.at_ p n (λC O t w=> ?_);refine bx ⟨?_⟩;refine⟨m/2,Zo,_,t,af t0,aC,Zo,(BY p n).trans f,((b.trans (hg.refl b.at_ s)).trans w)⟩
  ·have i:decide (a<c)=false:=(by simp[r]);rw[i];refine bx ⟨?_⟩;exact⟨rfl,iJ,hl,f,b.trans (hg.refl b.at_ s)⟩
def Pd(t:bZ X)(h:it X q bv ao aW){n:Nat}(U4:n<=ao.length)(U3:ao.length<=400000):
 aD X 108 [.iface 152 (.ptr bv 0),.Z 0,.Z (n:Int)] q u (λR D Z=>∃l x,l.Perm ao/\(∀i,n<=i->l[i]? =ao[i]?)/\hg X q u bv aW D Z l x) zX:=by
 refine Fd t (JB ..) ?_;unfold Cu;refine bx ⟨?_⟩;refine cM (λm B D L=>∃(i:Nat) (l:List Int) (x:List Nat),B.g 0=some (.iface 152 (.ptr bv 0))/\B.g 1=some (.Z 0)/\B.g 2=some (.Z n)/\B.g 7=some (.Z i)/\(i=0\/i<n)/\i+m=max n i/\l.Perm ao/\(∀i,n<=i->l[i]? =ao[i]?)/\hg X q u bv aW D L l x)
  n ⟨0,ao,aW,aC,aC,aC,cT,.inl rfl,Zo,List.Perm.refl _,λ_ _=>rfl,hg.refl h (Zg _)⟩ ?_
 rintro m B au ap ⟨i,iJ,hl,t0,t1,e,b,ag,U1,w,G,f⟩;have U2:=w.length_eq;have N:=Rl (a:=i) Zo;have O:aK .add (.Z (2*i:Nat)) (.Z 1)=some (.Z (2*i+1:Nat)):=by rw[cp Zo Zo];rfl
 by_cases TZ:n<=2*i+1
 ·have d:decide ((n:Int)<=((2*i+1:Nat):Int))=true:=z1;refine eg @b @N @O @e @d @t1 ⟨?_⟩;exact⟨iJ,hl,w,G,f⟩
 have d:decide ((n:Int)<=((2*i+1:Nat):Int))=false:=z2;have T2:decide (((2*i+1:Nat):Int)<0)=false:=z2;have T3:aK .add (.Z (2*i+1:Nat)) (.Z 1)=some (.Z (2*i+2:Nat)):=by rw[cp Zo Zo];rfl
 refine dN ?_;refine dF @b @N (Za @O (Za @e (Za @d @T2))) ⟨?_⟩;refine dN ?_;refine m0 @T3 @e ⟨?_⟩;apply y2 (P:=λB D L=>∃j:Nat,B.g 0=some (.iface 152 (.ptr bv 0))/\B.g 1=some (.Z 0)/\B.g 2=some (.Z n)/\B.g 7=some (.Z i)/\B.g 9=some (.Z j)/\i<j/\j<n/\D=au/\ap<=L)
 ·intro T0;by_cases TY:2*i+2<n
  ·have A:decide (((2*i+2:Nat):Int)<(n:Int))=true:=z1;obtain⟨a,p⟩:∃a,iJ[2*i+2]? =some a:=⟨_,Zb Zo⟩;obtain⟨c,r⟩:∃a,iJ[2*i+1]? =some a:=⟨_,Zb Zo⟩;rw[A];refine js @t0 ⟨?_⟩;refine Bc t f.at_ p r (λaw C=> ?_);refine h8 ⟨?_⟩;refine eO _ ?_ (λB q n h=>(T0 B q n h).out);intro T7 v;by_cases s:a<c
   ·have g:decide (a<c)=true:=(by simp[s]);rw[g];refine bx ⟨?_⟩;exact v _ _ _ ⟨2*i+2,af t0,af t1,af e,af b,aC,Zo,Zo,rfl,C⟩
   ·have g:decide (a<c)=false:=(by simp[s]);rw[g];refine bx ⟨?_⟩;exact v _ _ _ ⟨2*i+1,af t0,af t1,af e,af b,aC,Zo,Zo,rfl,C⟩
  ·have A:decide (((2*i+2:Nat):Int)<(n:Int))=false:=z2;rw[A];refine h8 ⟨?_⟩;refine eO _ ?_ (λB q n h=>(T0 B q n h).out);intro T7 v;refine bx ⟨?_⟩;exact v _ _ _ ⟨2*i+1,af t0,af t1,af e,af b,aC,Zo,Zo,rfl,Zg _⟩
 clear t0 t1 e b B;rintro B T8 aw ⟨j,t0,t1,e,b,t9,U0,T5,rfl,C⟩;obtain⟨a,p⟩:=zO iJ j;obtain⟨c,r⟩:∃a,iJ[i]? =some a:=⟨_,Zb Zo⟩;refine cg @t0 @t9 @b ⟨?_⟩;refine Bc t f.at_ p r (λU6 U5=> ?_);by_cases s:a<c
 ·have g:decide (a<c)=true:=by simp[s]
  rw[g];refine cg @t0 @b @t9 ⟨?_⟩;refine Bd t f.at_ r p (λT9 U7 T1 T4=> ?_);refine bo @t9 ⟨?_⟩;refine⟨m-(j-i),Zo,j,_,T1,af t0,af t1,af e,aC,.inr T5,Zo,(BY r p).trans w,λk T6=>by rw[Y9,Zi Zo,Y9,Zi Zo];exact G k T6,(f.trans (hg.refl f.at_ Zo)).trans T4⟩
 ·have g:decide (a<c)=false:=by simp[s]
  rw[g];refine bE @b @t1 ⟨?_⟩;exact⟨iJ,hl,w,G,f.trans (hg.refl f.at_ Zo)⟩
def Ge(d:bZ X)(h:it X q bv ao aW)(T4:bv<u)(r:∀o∈aW,o<u)(t:ao.length<=300000)(aj:Int):
 aD X 74 [.iface 152 (.ptr bv 0),.iface 3 (.Z aj)] q u (λR D Z=>R=.tuple []/\∃A b,A.Perm (ao++[aj])/\hg X q u bv aW D Z A b) zX:=by
 refine Fd d (MV ..) ?_;unfold Eg;obtain⟨c,n,b8,s,m,O,g⟩:=h;refine uR (SO _) (bL (Lg X) (d.none _ _ rfl) ?_);rw[Lh];unfold Dl;have T3:ay X q (.ptr bv 0)=some s:=by rw[a8 m];exact O
 have has:lC 3 (.Z 0) false (.iface 3 (.Z aj))=some (.Z aj):=by simp[lC,cY]
 refine bE @T3 @has ⟨?_⟩;generalize i:Go.aF.aH X q (u+6) _=au;have G:H X au (u+6)=zP [.Z aj] 1:=by rw[<-i,aM Zo]
 have a7:∀o,o<u->H X au o=H X q o:=λo a=>by rw[<-i,ah Zo Zo]
 clear i;obtain⟨x,am,aw,b,T2,TY,hB,p,dB⟩:=(g.M (D:=au) (λo a=>a7 o (r o a))).push (u:=u+10) (hY G (gv _) rfl _) Zo Zo (λo a=>zL (r o a));refine d8 T2 ?_;have N:H X am bv=some (.cells b8 1 .own):=by rw[dB bv Zo n,a7 bv T4];exact m
 obtain⟨T6,T7⟩:=hB.one;refine h8 ⟨?_⟩;refine dg (jF N c Zo T6 T7) ?_;generalize k:Go.aF.aH X am bv _=f;have P:H X f bv=some (.cells (b8.set 0 (some x)) 1 .own):=by rw[<-k,aM c]
 have w:∀o,o≠bv->H X f o=H X am o:=λo a=>by rw[<-k,ah c a]
 clear k;have v:bv∉b:=λt=>by
  rcases p bv t with h|h
  ·omega
  ·exact n h
 have l:hg X q u bv aW f aw (ao++[aj]) b:=⟨Zo,⟨c,v,_,x,P,by rw[E.e0,Zv rfl],hB.M λo a=>w o (λe=>v (e▸a))⟩,λo a=>by
  rcases p o a with h|h
  ·exact .inr ⟨Zo,h.2⟩
  ·exact .inl h,λo a T0 g=>by rw[w o T0,dB o Zo g,a7 o a]⟩
 refine bx ⟨?_⟩;refine GO d l.at_ ?_;have L:aK .sub (.Z ((ao++[aj]).length:Int)) (.Z 1)=some (.Z ao.length):=by rw[ju (by rw[ZH];omega) (by simp<;>omega),show(((ao++[aj]).length:Int) -1)=(ao.length:Int) by simp]
 refine bo @L ⟨?_⟩;refine(acZ (u:=aw) d l.at_ (j:=ao.length) Zs Zx).Zm ?_;rintro R T9 TZ ⟨rfl,T8,C,T5,T1⟩;refine bx ⟨?_⟩;exact⟨rfl,T8,C,T5,l.trans T1⟩
def Ri(d:bZ X)(h:it X q bv ao aW)(T9:ao≠[])(U7:ao.length<=300000):
 aD X 76 [.iface 152 (.ptr bv 0)] q u (λR D Z=>∃aj T0 T1,R=.iface 3 (.Z aj)/\ao.Perm (aj::T0)/\hg X q u bv aW D Z T0 T1) zX:=by
 refine Fd d (MX ..) ?_;unfold Ej;obtain⟨m,U6⟩:∃m,ao.length=m+1:=⟨ao.length-1,zL (ZP.2 T9)⟩;refine GO d h ?_;have T2:aK .sub (.Z ao.length) (.Z 1)=some (.Z m):=by rw[ju Zo Zo,show((ao.length:Int) -1)=(m:Int) by omega]
 obtain⟨a,A⟩:=zO ao 0;obtain⟨c,C⟩:∃a,ao[m]? =some a:=⟨_,Zb Zo⟩;refine bo @T2 ⟨?_⟩;refine Bd (i:=0) (j:=m) d h A C (λau ap hl p=> ?_);have r:=BY A C;generalize U8:(ao.set 0 c).set m a=iJ at p r;have U4:=r.length_eq;refine bx ⟨?_⟩;refine(Pd (u:=ap) (n:=m) d p.at_ Zo Zo).Zm ?_;rintro R am aw ⟨kJ,hx,G,U9,x⟩;have U5:=G.length_eq;refine bx ⟨?_⟩;obtain⟨g,w,b8,s,v,T4,k⟩:=id x.at_;refine uR SN (bL (Le X) (d.none _ _ rfl) ?_);rw[Lf];unfold Dk;have T8:ay X am (.ptr bv 0)=some s:=by rw[a8 v];exact T4
 have T7:=k.len;have T3:aK .sub (.Z kJ.length) (.Z 1)=some (.Z m):=by rw[ju Zo Zo,show((kJ.length:Int) -1)=(m:Int) by omega]
 obtain⟨aj,N⟩:∃a,kJ[m]? =some a:=⟨_,Zb Zo⟩;obtain⟨b,_,U2,U3,_⟩:=k.at N;obtain⟨P,TY,L⟩:=k.pop (m:=m) Zo;obtain⟨U0,U1⟩:=L.one;refine dF @T8 @T7 (Za @T3 (Za @U2 (Za @U3 @TY))) ⟨?_⟩;refine dg (jF v g Zo U0 U1) ?_;generalize l:Go.aF.aH X am bv _=t;have T5:H X t bv=some (.cells (b8.set 0 (some P)) 1 .own):=by rw[<-l,aM g]
 have O:∀o,o≠bv->H X t o=H X am o:=λo f=>by rw[<-l,ah g f]
 clear l;refine bx ⟨?_⟩;refine⟨aj,kJ.take m,hx,rfl, ?_,(p.trans x).trans ⟨Zg _,⟨g,w,_,P,T5,by rw[E.e0,Zv rfl],L.M λo f=>O o (λe=>w (e▸f))⟩,λo f=> .inl f,λo _ T6 _=>O o T6⟩⟩;have TZ:kJ=kJ.take m++[aj]:=by have:=List.take_append_drop m kJ;rw[Zz Zo,(Ze.1 N).2,ZM Zo]at this;exact this.symm
 refine(G.trans r).symm.trans ?_;rw[TZ,YO Zx,List.take_take,Nat.min_self];exact List.perm_append_singleton aj _
end
end
end Go.Proofs.YtehmapikajmjaaaGreatDoor
namespace Go.ak
def bR(b:List (List Nat))(a:Nat):List Nat:=b.getD a []
structure kZ(b:List (List Nat))(out:List Nat):Prop where
 once:out.Nodup
 lK:∀a∈out,a<b.length
 ahead:∀i a,out[i]? =some a->∀k∈bR b a,k∈out.take i
 G3:∀a,a<b.length->a∉out->∃k∈bR b a,k∉out
def kZ.sub{d:List (List Nat)}{dH gd:List Nat}(c:kZ d dH)(e:kZ d gd):∀a∈dH,a∈gd:=by
 have key:∀(n i:Nat) a,i<n->dH[i]? =some a->a∈gd:=by intro n;induction n with|zero=>grind|succ n U=>intro i a ag b;apply Yg;intro h;obtain⟨k,f,m⟩:=e.G3 a (c.lK a (Zl b)) h;have g:=c.ahead i a b k f;obtain⟨j,l⟩:=Yv g;grind
 intro a b;obtain⟨i,ag⟩:=Yv b;grind
def kZ.same{d:List (List Nat)}{dH gd:List Nat}(b:kZ d dH)(c:kZ d gd)(a:Nat):a∈dH↔a∈gd:=⟨b.sub c a,c.sub b a⟩
def ip(a:List (List Nat))(Q:List Nat)(k:Nat):Nat:=((bR a k).filter λx=>decide (x∉Q)).length
def IV{a:List (List Nat)}{Q:List Nat}{k:Nat}:ip a Q k=0↔∀x∈bR a k,x∈Q:=by unfold ip;simp
def adm{b:List (List Nat)}{Q:List Nat}{k i:Nat}(c:(bR b k).Nodup)(ag:i∉Q):ip b (Q++[i]) k=if i∈bR b k then ip b Q k-1 else ip b Q k:=by
 unfold ip;generalize bR b k=l at c;induction l with
 |nil=>simp|cons a l U=>
  rw[YC]at c;have U:=U c.2;by_cases f:a=i
  ·grind
  ·have e:(i∈a::l)=(i∈l):=(by grind);have d:decide (a∉Q++[i])=decide (a∉Q):=(by simp[f]);simp only[YM,e,d];by_cases ai:a∈Q
   ·simp[ai];simpa using U
   ·simp only[ai,ZO,YG,ZL,ZI];rw[U];split
    ·rename_i g
     have:0<(l.filter λx=>decide (x∉Q)).length:=ZP.2 (List.ne_nil_of_mem (Yp.2 ⟨g,by simp[ag]⟩))
     omega
    ·rfl
def IU{a:List (List Nat)}{Q:List Nat}{k i:Nat}(b:i∈bR a k)(ag:i∉Q):0<ip a Q k:=by exact ZP.2 (List.ne_nil_of_mem (Yp.2 ⟨b,by simp[ag]⟩))
def iI(a:List (List Nat))(i:Nat):List Nat:=(List.range a.length).filter λk=>decide (i∈bR a k)
def xT{a:List (List Nat)}{i k:Nat}:k∈iI a i↔k<a.length/\i∈bR a k:=by unfold iI;simp
def ID(a:List (List Nat))(i:Nat):(iI a i).Nodup:=List.Pairwise.filter _ List.nodup_range
structure jN(b:List (List Nat))(out next:List Nat)(w:Nat->Int):Prop where
 once:(out++next).Nodup
 lK:∀a∈out++next,a<b.length
 ahead:∀i a,out[i]? =some a->∀k∈bR b a,k∈out.take i
 zero:∀k,k<b.length->((k∈out\/k∈next)↔w k=0)
def jN.done{b:List (List Nat)}{out:List Nat}{w:Nat->Int}(h:jN b out [] w)(d:∀k,k<b.length->w k=ip b out k):kZ b out:=by
 have f:=h.once;rw[ZY]at f;refine⟨f,λa c=>h.lK a (by simp[c]),h.ahead,λa c m=> ?_⟩;have n:=h.zero a c;have d:=d a c
 have:w a≠0:=λe=>by grind
 have i:ip b out a≠0:=λe=>this (by rw[d,e];rfl);apply Yg;intro g;exact i (IV.2 λx j=>Yg λl=>g ⟨x,j,l⟩)
def jN.pop{d:List (List Nat)}{out next f:List Nat}{w:Nat->Int}{i:Nat}(h:jN d out next w)(v:∀k,k<d.length->w k=ip d out k)(l:next.Perm (i::f)):jN d (out++[i]) f w/\i∉out:=by
 have e:=l.symm.mem_iff.1 (Zr ..);have m:(out++next).Perm ((out++[i])++f):=by grind
 have g:=h.lK i (by simp[e]);have r:=λp=>by have:=(YB.1 h.once).2.2 i p i e;exact this rfl
 refine⟨⟨m.nodup_iff.1 h.once,λa b=>h.lK a (m.mem_iff.2 b),λj a b k c=> ?_,λk c=> ?_⟩,r⟩
 ·by_cases s:j<out.length
  ·rw[ZQ s]at b;rw[YO Zo];exact h.ahead j a b k c
  ·rw[ZW Zo]at b;have t:j=out.length:=(by grind);subst t;simp at b;subst b;have n:=(h.zero i g).1 (.inr e);rw[v i g]at n;rw[YO (Zg _),Yx];exact IV.1 Zo k c
 ·rw[<-h.zero k c,Zp,ZB];have:=l.mem_iff (a:=k);rw[Zq]at this;rw[this];constructor
  ·rintro((h|h)|h)
   ·exact .inl h
   ·exact .inr (.inl h)
   ·exact .inr (.inr h)
  ·rintro(h|h|h)
   ·exact .inl (.inl h)
   ·exact .inl (.inr h)
   ·exact .inr h
def jN.less{d:List (List Nat)}{out next:List Nat}{w:Nat->Int}{k:Nat}(h:jN d out next w)(g:k<d.length)(j:0<w k):jN d out (if w k=1 then next++[k]else next) (λx=>if x=k then w k-1 else w x):=by
 have l:=h.zero k g;have i:k∉out/\k∉next:=by grind
 by_cases f:w k=1
 ·rw[Zv f];refine⟨?_,λa b=> ?_,h.ahead,λx c=> ?_⟩
  ·rw[<-List.append_assoc,YB];refine⟨h.once,Zs, ?_⟩;grind
  ·rw[<-List.append_assoc]at b;rcases Zp.1 b with b|b
   ·exact h.lK a b
   ·grind
  ·by_cases e:x=k
   ·grind
   ·simp only[Zi e];rw[<-h.zero x c];simp[e]
 ·rw[Zi f];refine⟨h.once,h.lK,h.ahead,λx c=> ?_⟩;by_cases e:x=k
  ·subst e;grind
  ·simp only[Zi e];exact h.zero x c
def my(a:List (List Nat))(out c2:List Nat)(k:Nat):Int:=(ip a out k:Int) -(if k∈c2 then 1 else 0)
def ac6(a:List (List Nat))(out:List Nat)(k:Nat):my a out [] k=ip a out k:=by simp[my]
def ac5{a:List (List Nat)}{out:List Nat}{i k:Nat}(d:(bR a k).Nodup)(c:k<a.length)(ag:i∉out):my a out (iI a i) k=ip a (out++[i]) k:=by
 rw[adm d ag];unfold my;by_cases b:i∈bR a k
 ·have:=IU b ag;rw[Zv (xT.2 ⟨c,b⟩),Zv b];omega
 ·rw[Zi (λh=>b (xT.1 h).2),Zi b];omega
def ac7{a:List (List Nat)}{out c2:List Nat}{k:Nat}(b:k∉c2)(x:Nat):(if x=k then my a out c2 k-1 else my a out c2 x)=my a out (c2++[k]) x:=by unfold my;grind
def n2:∀(N:Nat) (l:List Nat),l.Nodup->(∀x∈l,x<N)->l.length<=N:=by
 intro N;induction N with
 |zero=>
  intro l _ h;cases l with
  |nil=>grind|cons a l=>have:=h a (Zr ..);omega
 |succ N U=>
  intro l b h;have d:=U (l.erase N) (b.erase N) (λx c=>by
   have:=(b.mem_erase_iff).1 c;have:=h x this.2;omega)
  grind
def acw:∀(l m:List Nat),l.Nodup->(∀x∈l,x∈m)->l.length<=m.length:=by intro l;induction l with|nil=>grind|cons a l U=>intro m b h;rw[YC]at b;have f:=h a (Zr ..);have d:=U (m.erase a) b.2 (λx c=>(List.mem_erase_of_ne (λe=>b.1 (by rw[<-e];exact c))).2 (h x (Zw _ c)));grind
def jN.HC{a:List (List Nat)}{out next:List Nat}{w:Nat->Int}(h:jN a out next w):out.length+next.length<=a.length:=by have:=n2 a.length _ h.once h.lK;grind
def jN.start(b:List (List Nat))(w:Nat->Int)(d:∀k,k<b.length->w k=(bR b k).length):jN b [] ((List.range b.length).filter λx=>(bR b x).isEmpty) w:=by
 refine⟨List.Pairwise.filter _ List.nodup_range,λa e=> ?_,λi a h=>by simp at h,λk c=> ?_⟩
 ·grind
 ·rw[d k c];simp_all
def adl(a:List (List Nat))(k:Nat):ip a [] k=(bR a k).length:=by unfold ip;simp
inductive jP(c:List (List Nat)):Nat->Nat->Prop where
 |one {a b:Nat}:b∈bR c a->jP c a b|more {a k b:Nat}:k∈bR c a->jP c k b->jP c a b
def jP.snoc{d:List (List Nat)}{a b c:Nat}(h:jP d a b)(k:c∈bR d b):jP d a c:=by induction h with|one h=>exact .more h (.one k)|more h _ U=>exact .more h (U k)
def ow(c:List (List Nat))(l:List Nat):Prop:=∀(i:Nat) a b,l[i]? =some a->l[i+1]? =some b->b∈bR c a
def ow.aaK{i:List (List Nat)}{l:List Nat}(h:ow i l):∀(d k a b:Nat),l[k]? =some a->l[k+d+1]? =some b->jP i a b:=by intro d;induction d with|zero=>intro k a b f e;exact .one (h k a b f e)|succ d U=>intro k a b f e;obtain⟨c,g⟩:∃c,l[k+d+1]? =some c:=⟨_,Zb (zL (Ze.1 e).1)⟩;exact(U k a c f g).snoc (h (k+d+1) c b g e)
def ow.snoc{f:List (List Nat)}{l:List Nat}{a b:Nat}(h:ow f (l++[a]))(W:b∈bR f a):ow f ((l++[a])++[b]):=by
 intro i x o d c;by_cases ag:i+1<(l++[a]).length
 ·rw[ZQ Zo]at d;rw[ZQ ag]at c;exact h i x o d c
 ·have g:=(Ze.1 c).1;simp only[ZH,ZI,ZT]at ag g;have e:i=l.length:=Zo;subst e;simp at d c;subst d;subst c;exact W
def ow.round{c:List (List Nat)}{l:List Nat}{a x k:Nat}(h:ow c (l++[a]))(d:x∈bR c a)(b:(l++[a])[k]? =some x):jP c x x:=by
 have g:=(Ze.1 b).1;simp only[ZH,ZI,ZT]at g;by_cases e:k=l.length
 ·subst e;simp at b;subst b;exact .one d
 ·have f:(l++[a])[k+(l.length-k-1)+1]? =some a:=by grind
  exact(h.aaK _ k x a b f).snoc d
end Go.ak
namespace Go.Proofs.YtehmapikajmjaaaGreatDoor
open Go.aF Go.ak
noncomputable section
section
variable{X:bi}{q D au am:E S}{u Z ap aw n bv cD Iz aT N:Nat}{P aI:Nat->Prop}{ao iJ kJ:List Int}{aW hl hx:List Nat}{T ab:aY}{w:Nat->Int}{c2:Nat->List Int}
def S1(e:bZ X){v:z}{a:List (List Int)}(U4:(y X).aB<=u)(aV:∀o,P o->o<u)(h:oE X q P v a)(K:∀r∈a,∀aj∈r,0<=aj/\aj<a.length):
 aD X 43 [v] q u (λR D Z=>R=.zV/\aU X q u D Z) zX:=by
 refine Fd e (L1 ..) ?_;unfold DJ;obtain⟨b,aG,s,U8,U9⟩:=h;have f:=s.len;have U2:=s.many;rw[Zj,U8]at f U2;obtain⟨U1,_⟩:=fu f;refine mQ ?_;rw[U1];generalize n:Go.aF.aH X q u _=au;have N:ay X au (.ptr u 0)=some v:=by rw[<-n,a8 (aM U4)];rfl
 have l:aU X q u au (u+1):=by rw[<-n];exact cf
 clear n;refine bE @N @f ⟨?_⟩;refine cM (λm B D A=>∃(j:Nat),B.g 1=some (.ptr u 0)/\B.g 5=some v/\B.g 6=some (.Z a.length)/\B.g 7=some (.Z j)/\j+m=a.length/\D=au/\u+1<=A)
  a.length ⟨0,aC,aC,aC,cT,Zo,rfl,Zg _⟩ ?_
 rintro m B am aw ⟨j,t1,t5,k,c,UE,rfl,UF⟩;cases m with
 |zero=>have d:=zM j a.length;refine cg @c @k @d ⟨?_⟩;exact⟨rfl,l.more Zo⟩|succ m=>
  have d:=zN j a.length;have TZ:=zQ j;obtain⟨ao,T1⟩:∃w,a[j]? =some w:=⟨_,Zb Zo⟩;obtain⟨T5,T0⟩:∃w,aG[j]? =some w:=⟨_,Zb Zo⟩;obtain⟨UA,UB,UD⟩:=(s.M (D:=am) (λo t=>l.M o (aV o t))).one T0;obtain⟨bp,g⟩:=(U9 j T5 ao T0 T1).M (D:=am) (aI:=P) (λo t=>l.M o (aV o t)) (λ_ h=>h);have U7:(eh ao).length=ao.length:=by simp[eh]
  have O:=g.len;have U3:=g.many;rw[U7]at O U3;refine cu @c @k @t5 @t1 @d @UA @UB ⟨?_⟩;refine aD.mono (T:=λR D Z=>R=.zT/\D=am/\aw<=Z) (ab:=λ_ _ _=>False) ?_ ?_ (λ_ _ _ h=>h.elim)
  ·refine Fd e (MR ..) ?_;unfold Ee;refine aD.mono (T:=λR D Z=>R=.Z (-1)/\D=am/\aw<=Z) (ab:=λ_ _ _=>False) ?_ ?_ (λ_ _ _ h=>h.elim)
   ·refine Fd e (Jx ..) ?_;unfold Cs;refine bo @O ⟨?_⟩;refine cM (λm B D A=>∃(i:Nat),B.g 0=some T5/\B.g 1=some (.func (.func 73) [] [.ptr u 0])/\B.g 7=some (.Z ao.length)/\B.g 8=some (.Z i)/\i+m=ao.length/\D=am/\aw<=A)
     ao.length ⟨0,aC,aC,aC,cT,Zo,rfl,Zg _⟩ ?_
    clear t1 t5 k c;rintro x UC G T3 ⟨i,t0,t1,c,C,ag,rfl,U5⟩;cases x with
    |zero=>have d:=zM i ao.length;refine cg @C @c @d ⟨?_⟩;exact⟨rfl,rfl,U5⟩|succ x=>
     have d:=zN i ao.length;have U0:=zQ i;obtain⟨aj,T2⟩:∃w,ao[i]? =some w:=⟨_,Zb Zo⟩;have U6:(eh ao)[i]? =some [.Z aj]:=(by rw[eh,Zt,T2];rfl);have T6:=g.c4 i Zo;have T7:=g.cell i _ 0 _ U6 rfl;rw[ZF]at T6;rw[ZF,ZN]at T7;obtain⟨UG,UH⟩:=K ao (Zl T1) aj (Zl T2);refine cu @C @c @t1 @t0 @d @T6 @T7 ⟨?_⟩;refine aD.mono (T:=λR D Z=>R=.zT/\D=G/\T3<=Z) (ab:=λ_ _ _=>False) ?_ ?_ (λ_ _ _ h=>h.elim)
     ·show aD X 73 [.Z aj,.ptr u 0] G T3 _ _;refine Fd e (MT ..) ?_;unfold Ef;have T9:decide (aj<0)=false:=z2;have TY:decide ((a.length:Int)<=aj)=false:=z2;refine df @T9 @N @f @TY ⟨?_⟩;exact⟨rfl,rfl,Zg _⟩
     ·rintro R L T4 ⟨rfl,rfl,p⟩;refine bE @C @U0 ⟨?_⟩;exact⟨x,Zo,i+1,af t0,af t1,af c,aC,Zo,rfl,Zo⟩
   ·rintro R L T4 ⟨rfl,rfl,p⟩;have T8:decide ((0:Int)<= -1)=false:=rfl;refine bo @T8 ⟨?_⟩;exact⟨rfl,rfl,p⟩
  ·rintro R L T4 ⟨rfl,rfl,p⟩;refine bE @c @TZ ⟨?_⟩;exact⟨m,Zo,j+1,af t1,af t5,af k,aC,Zo,rfl,Zo⟩
def BR{C:al}{b n I:Nat}{c:E z}{v:z}(e:C.aB<=b)(W:H C q b=some (.cells c n .own))(g:I+1<=n)(i:v.cells=[v])(f:hI v=true):cW C q 1 (.ptr b I) v=some (aH C q b (some (.cells (c.set I (some v)) n .own))):=by
 have a:Nat.ble (I+1) n=true:=de g;have d:eB C b=true:=by simp[eB,de e]
 have h:dU [v]=true:=by simp[dU,f]
 simp[cW,i,g5,W,a,d,h,cY,je,du]
def wM{b n i:Nat}(h:i<n):c8 1 (.slice b 0 n n) (.Z i)=some (.ptr b i):=by rw[nW _ h,ZF,ZK]
structure km(X:bi)(q:E S)(n N cD:Nat)(w:Nat->Int)(c2:Nat->List Int)(ao:List Int):Prop where
 aB:(y X).aB<=cD
 aT:cD+4<=n
 mem:∃(aW:List Nat) (a:Nat->List Nat),(∃c,H X q cD=some (.cells c N .own)/\∀k,k<N->c.get k=some (.Z (w k)))/\
  (∃c,H X q (cD+1)=some (.cells c N .own)/\∀k,k<N->∃s,c.get k=some s/\et X q s 1 (dv (c2 k)) (a k))/\
  it X q (cD+3) ao aW/\(∀o∈aW,cD+4<=o/\o<n)/\(∀k,k<N->∀o∈a k,cD+4<=o/\o<n/\o∉aW)/\∀k b,k<N->b<N->k≠b->∀o∈a k,o∉a b
def km.want(h:km X q n N cD w c2 ao){k:Nat}(t:k<N):ay X q (.ptr cD k)=some (.Z (w k))/\
 ∀aj:Int,∃D,cW X q 1 (.ptr cD k) (.Z aj)=some D/\km X D n N cD (λx=>if x=k then aj else w x) c2 ao/\∀o,o≠cD->H X D o=H X q o:=by
 have v:=h.aT;have b:=h.aB;obtain⟨aW,G,⟨bV,f,g⟩,⟨b0,l,m⟩,p,i,j,r⟩:=h.mem;refine⟨by rw[a8 f];exact g k t,λaj=>⟨_,BR b f Zo rfl rfl, ?_,λo a=>ah b a⟩⟩;have d:∀o,o≠cD->H X (Go.aF.aH X q cD (some (.cells (bV.set k (some (.Z aj))) N .own))) o=H X q o:=λo a=>ah b a;refine⟨b,v,aW,G,⟨_,aM b,λx c=> ?_⟩,⟨b0,by rw[d _ Zo];exact l,λx c=> ?_⟩,p.M (λo a=>d o ?_),i,j,r⟩
 ·rw[E.e0];by_cases e:k=x
  ·rw[Zv e,Zv e.symm]
  ·rw[Zi e,Zi (λh=>e h.symm)];exact g x c
 ·obtain⟨s,A,C⟩:=m x c;exact⟨s,A,C.M λo a=>d o (zL (j x c o a))⟩
 ·rcases a with rfl|a
  ·omega
  ·have:=i o a;omega
def km.acV(h:km X q n N cD w c2 ao){k:Nat}(d:k<N)(U9:(c2 k).length<=300000)(x:Int):∃s,ay X q (.ptr (cD+1) k)=some s/\
 ∀au,(∀o,o<n->H X au o=H X q o)->H X au n=zP [.Z x] 1->
  ∃l am,eV X au (n+1) 1 s (.slice n 0 1 1)=some (.cJ l am (n+2))/\∃f,cW X am 1 (.ptr (cD+1) k) l=some f/\km X f (n+2) N cD w (λo=>if o=k then c2 k++[x]else c2 o) ao/\∀o,o<cD+1->H X f o=H X q o:=by
 have UA:=h.aT;have TY:=h.aB;obtain⟨aW,G,⟨bV,T6,T7⟩,⟨b0,T1,T2⟩,TZ,L,c,r⟩:=h.mem;obtain⟨s,U5,U6⟩:=T2 k d;refine⟨s,by rw[a8 T1];exact U5,λau a7 T5=> ?_⟩;obtain⟨l,am,T0,U0,T4,U1,dB⟩:=(da.append (u:=n+1) (.inl (U6.M (D:=au) λo a=>a7 o (c k d o a).2.1)) Zd (hY T5 (gv _) rfl _) rfl Zd rfl (by rw[j2];simp;omega) Zo (λo a=>zL (c k d o a)));obtain⟨U3,U4,_⟩:=et.one T4;have g:∀o,o<n->o∉G k->H X am o=H X q o:=λo a U2=>by rw[dB o Zo U2,a7 o a]
 have A:∀o,o<cD+4->o∉G k:=λo a b=>zL (c k d o b);have T8:H X am (cD+1)=some (.cells b0 N .own):=by rw[g _ Zo (A _ Zo)];exact T1
 refine⟨l,am,U0,_,BR Zo T8 Zo U3 U4, ?_,λo a=>by rw[ah Zo Zo,g o Zo (A o Zo)]⟩;generalize O:Go.aF.aH X am (cD+1) _=f;have T9:H X f (cD+1)=some (.cells (b0.set k (some l)) N .own):=by rw[<-O,aM Zo]
 have p:∀o,o≠cD+1->H X f o=H X am o:=λo a=>by rw[<-O,ah Zo a]
 clear O;have v:∀o∈T0,o=n+1\/o∈G k:=U1;refine⟨TY,Zo,aW,λx=>if x=k then T0 else G x,⟨bV,by rw[p _ Zo,g _ Zo (A _ Zo)];exact T6,T7⟩,⟨_,T9,λo a=> ?_⟩,TZ.M (λo a=> ?_),λo a=> ?_,λi ag o a=> ?_,λi j ag P T3 o a=> ?_⟩
 ·rw[E.e0];by_cases e:k=o
  ·subst e;rw[Zv rfl];refine⟨l,rfl, ?_⟩;simp only[ZL];rw[show dv (c2 k++[x])=dv (c2 k)++[.Z x] by simp[dv]];exact T4.M λaj C=>p aj (by rcases v aj C with rfl|h;omega;have:=c k d aj h;omega)
  ·rw[Zi e];simp only[Zi (λh:o=k=>e h.symm)];obtain⟨t,U7,U8⟩:=T2 o a;exact⟨t,U7,U8.M λaj C=>by have:=c o a aj C;rw[p aj Zo,g aj Zo (r o k a d (λh=>e h.symm) aj C)]⟩
 ·rcases a with rfl|a
  ·rw[p _ Zo,g _ Zo (A _ Zo)]
  ·have:=L o a;rw[p o Zo,g o Zo (λb=>(c k d o b).2.2 a)]
 ·have:=L o a;omega
 ·by_cases e:i=k
  ·simp only[Zv e]at a;rcases v o a with rfl|b
   ·exact⟨Zo,Zo,λb=>zL (L _ b)⟩
   ·have:=c k d o b;exact⟨this.1,Zo,this.2.2⟩
  ·simp only[Zi e]at a;have:=c i ag o a;exact⟨this.1,Zo,this.2.2⟩
 ·by_cases e:i=k
  ·simp only[Zv e]at a;have m:¬j=k:=λh=>T3 (e.trans h.symm);simp only[Zi m];rcases v o a with rfl|b
   ·exact λb=>zL (c j P _ b)
   ·exact r k j d P (λh=>m h.symm) o b
  ·simp only[Zi e]at a;by_cases m:j=k
   ·simp only[Zv m];intro b;rcases v o b with rfl|b
    ·have:=c i ag _ a;omega
    ·exact r i k ag d e o a b
   ·simp only[Zi m];exact r i j ag P T3 o a
def km.heap(h:km X q n N cD w c2 ao):∃aW,it X q (cD+3) ao aW/\(∀o∈aW,o<n)/\∀D j l e,hg X q n (cD+3) aW D j l e->km X D j N cD w c2 l/\∀o,o<cD+3->H X D o=H X q o:=by
 have T0:=h.aT;have x:=h.aB;obtain⟨aW,O,⟨bV,p,r⟩,⟨b0,t,v⟩,A,f,m,C⟩:=h.mem;refine⟨aW,A,λo a=>(f o a).2,λD j l e b=> ?_⟩;have P:=b.le;have i:∀o,o<cD+4->o∉aW:=λo a g=>zL (f o g);have d:∀o,o<n->o≠cD+3->o∉aW->H X D o=H X q o:=b.M;refine⟨⟨x,Zo,e,O,⟨bV,by rw[d _ Zo Zo (i _ Zo)];exact p,r⟩,⟨b0,by rw[d _ Zo Zo (i _ Zo)];exact t,λk c=> ?_⟩,b.at_,λo a=> ?_,λk c o a=> ?_,C⟩,λo a=>d o Zo Zo (i o Zo)⟩
 ·obtain⟨s,G,L⟩:=v k c;exact⟨s,G,L.M λo a=>by have:=m k c o a;exact d o Zo Zo this.2.2⟩
 ·rcases b.sub o a with h|h
  ·have:=f o h;omega
  ·omega
 ·have:=m k c o a;refine⟨this.1,Zo,λg=> ?_⟩;rcases b.sub o g with h|h
  ·exact this.2.2 h
  ·omega
structure kV(X:bi)(q:E S)(n N cD:Nat)(w:Nat->Int)(ao:List Int)(cZ:Nat->Prop):Prop where
 aB:(y X).aB<=cD
 aT:cD+4<=n
 x2:∀o,cZ o->o<n/\o≠cD/\o≠cD+3
 mem:∃aW:List Nat,(∃c,H X q cD=some (.cells c N .own)/\∀k,k<N->c.get k=some (.Z (w k)))/\it X q (cD+3) ao aW/\∀o∈aW,cD+4<=o/\o<n/\¬cZ o
def km.split(h:km X q n N cD w c2 ao)(p:∀k,k<N->(c2 k).length<=300000):∃cZ:Nat->Prop,kV X q n N cD w ao cZ/\(∀o,cZ o->cD<o)/\cZ (cD+1)/\∀k,k<N->∃s b,ay X q (.ptr (cD+1) k)=some s/\cl X q cZ b s 1 (eh (c2 k)):=by
 have t:=h.aT;obtain⟨aW,g,l,⟨b0,i,j⟩,m,d,e,C⟩:=h.mem;refine⟨λo=>o=cD+1\/∃k,k<N/\o∈g k,⟨h.aB,t,λo a=> ?_,aW,l,m,λo a=>⟨(d o a).1,(d o a).2,λf=> ?_⟩⟩,λo a=> ?_,.inl rfl,λk c=> ?_⟩
 ·rcases a with rfl|⟨k,c,a⟩
  ·omega
  ·have:=e k c o a;omega
 ·rcases f with rfl|⟨k,c,f⟩
  ·have:=d _ a;omega
  ·exact(e k c o f).2.2 a
 ·rcases a with rfl|⟨k,c,a⟩
  ·omega
  ·have:=e k c o a;omega
 ·obtain⟨s,v,x⟩:=j k c;have A:et X q s 1 (eh (c2 k)).flatten (g k):=by rw[Az];exact x
  obtain⟨b,W⟩:=A.kG Zd (λr K=>by obtain⟨R,_,rfl⟩:=ZC.1 K;rfl) (by simpa[eh]using p k c) (P:=λo=>o=cD+1\/∃k,k<N/\o∈g k) (λo a=> .inr ⟨k,c,a⟩);exact⟨s,b,by rw[a8 i];exact v,W⟩
def kV.want{cZ:Nat->Prop}(h:kV X q n N cD w ao cZ){k:Nat}(i:k<N):ay X q (.ptr cD k)=some (.Z (w k))/\
 ∀aj:Int,∃D,cW X q 1 (.ptr cD k) (.Z aj)=some D/\ay X D (.ptr cD k)=some (.Z aj)/\kV X D n N cD (λx=>if x=k then aj else w x) ao cZ/\∀o,o≠cD->H X D o=H X q o:=by
 have j:=h.aT;have a:=h.aB;obtain⟨aW,⟨bV,c,d⟩,g,f⟩:=h.mem;refine⟨by rw[a8 c];exact d k i,λaj=>⟨_,BR a c Zo rfl rfl,by rw[a8 (aM a),E.e0,Zv rfl], ?_,λo b=>ah a b⟩⟩;refine⟨a,j,h.x2,aW,⟨_,aM a,λx l=> ?_⟩,g.M (λo b=>ah a ?_),f⟩
 ·rw[E.e0];by_cases e:k=x
  ·rw[Zv e,Zv e.symm]
  ·rw[Zi e,Zi (λh=>e h.symm)];exact d x l
 ·rcases b with rfl|b
  ·omega
  ·have:=f o b;omega
def kV.M{cZ d:Nat->Prop}(h:kV X q ap N cD w ao cZ)(l:ap<=aw)(b:∀o,o<ap->¬cZ o->H X D o=H X q o)(f:∀o,d o->cZ o\/(ap<=o/\o<aw)):kV X D aw N cD w ao d:=by
 have m:=h.aT;have c:=h.x2;obtain⟨aW,⟨bV,g,i⟩,j,e⟩:=h.mem;refine⟨h.aB,Zo,λo a=> ?_,aW,⟨bV,by rw[b cD Zo (λh=>(c cD h).2.1 rfl)];exact g,i⟩,j.M (λo a=> ?_),λo a=> ?_⟩
 ·rcases f o a with h|h
  ·have:=c o h;omega
  ·omega
 ·rcases a with rfl|a
  ·exact b _ Zo (λh=>(c _ h).2.2 rfl)
  ·have:=e o a;exact b o this.2.1 this.2.2
 ·have:=e o a;refine⟨this.1,Zo,λk=> ?_⟩;rcases f o k with h|h
  ·exact this.2.2 h
  ·omega
def kV.heap{cZ:Nat->Prop}(h:kV X q n N cD w ao cZ):∃aW,it X q (cD+3) ao aW/\(∀o∈aW,o<n)/\∀D i j e,hg X q n (cD+3) aW D i j e->kV X D i N cD w j cZ/\∀o,cZ o\/o<cD->H X D o=H X q o:=by
 have s:=h.aT;have g:=h.x2;obtain⟨aW,⟨bV,l,m⟩,p,d⟩:=h.mem;refine⟨aW,p,λo a=>(d o a).2.1,λD i j e b=> ?_⟩;have r:=b.le;have k:∀o,o<cD+4->o∉aW:=λo a c=>zL (d o c);refine⟨⟨h.aB,Zo,λo a=>zL (g o a),e,⟨bV,by rw[b.M _ Zo Zo (k _ Zo)];exact l,m⟩,b.at_,λo a=> ?_⟩,λo a=> ?_⟩
 ·rcases b.sub o a with f|f
  ·have:=d o f;exact⟨this.1,Zo,this.2.2⟩
  ·exact⟨Zo,f.2,λc=>zL (g o c)⟩
 ·rcases a with a|a
  ·have:=g o a;exact b.M o this.1 this.2.2 (λc=>(d o c).2.2 a)
  ·exact b.M o Zo Zo (k o Zo)
def Th:∀(l:List (Int×cG)) (s:(aA->Option cB)×List aA) (w:aA),w∈(l.foldl eR s).2->w∈s.2\/∃x∈l,x.2.name=w:=by
 intro l;induction l with
 |nil=>intro s w h;exact .inl h|cons x l U=>
  intro s w h;rw[Z6]at h;rcases U _ w h with h|⟨o,a,e⟩
  ·unfold eR at h;split at h
   ·exact .inl h
   ·rcases Zp.1 h with h|h
    ·exact .inl h
    ·exact .inr ⟨x,Zr ..,(ZB.1 h).symm⟩
  ·exact .inr ⟨o,Zw _ a,e⟩
def G5:∀(l:List (Int×cG)) (s:(aA->Option cB)×List aA),s.2.length<=(l.foldl eR s).2.length/\(l.foldl eR s).2.length<=s.2.length+l.length:=by
 intro l;induction l with
 |nil=>intro s;exact⟨Zg _,Zg _⟩|cons x l U=>
  intro s;rw[Z6];obtain⟨a,b⟩:=U (eR s x)
  have:s.2.length<=(eR s x).2.length/\(eR s x).2.length<=s.2.length+1:=by unfold eR;split<;>simp
  simp only[ZI];omega
def G4{g:GT}{w:aA}(h:w∈eQ g):(c6 g w).isSome=true:=by
 rcases Th (c3 g) (λ_=>none,[]) w h with h|⟨x,a,e⟩
 ·cases h
 ·exact acz (ZC.2 ⟨x,a,e⟩)
def Bm(g:GT):(eQ g).length<=(c3 g).length:=by have:=(G5 (c3 g) (λ_=>none,[])).2;exact ZE this Zs
def Tf{g:GT}(h:c3 g≠[]):eQ g≠[]:=by
 unfold eQ hd;cases b:c3 g with
 |nil=>exact absurd b h|cons x l=>
  rw[Z6];have a:=(G5 l (eR (λ_=>none,[]) x)).1;have c:(eR ((λ_=>none:aA->Option cB),([]:List aA)) x).2.length=1:=by unfold eR;simp
  intro e;rw[e]at a;simp only[ZT]at a;omega
def HN{ci:List aA}{k:Nat}{w:aA}(h:ci[k]? =some w):j9 (ci.take (k+1))=λx=>if x=w then some k else j9 (ci.take k) x:=by
 have a:(ci.take k).length=k:=by rw[YI];have:=(Ze.1 h).1;omega
 unfold j9;rw[ZD,h,Option.toList_some,List.zipIdx_append,Y8,a,ZK];rfl
def tg(ci:List aA):aA->Option z:=λw=>(j9 ci w).map λn=> .Z (n:Int)
def pD(g:GT)(nm:aA):List Int:=(H3 g nm).map Int.ofNat
def s7(g:GT):List (List Int):=(eQ g).map λnm=>hz (d0 (pD g nm))
variable{b:Nat}
def N1{C:al}{q:E S}{s x:z}{l m:List z}{aW:List Nat}{k:Nat}{T:aY}(h:da C q s 1 l aW)(g:fQ C q 1 x=some (k,m))(P:m.length=k)(r:dU m=true)(W:l.length+m.length<=1048576)(T0:C.aB<=u)(O:∀o∈aW,o<u)
 (i:∀e D Z a,u<=Z->da C D e 1 (l++m) a->(∀o∈a,(u<=o/\o<Z)\/o∈aW)->(∀o,o<u->o∉aW->H C D o=H C q o)->T e D Z):ek (eV C q u 1 s x) q u T:=by
 cases k with
 |zero=>
  have X:m=[]:=ZS P;subst X;have T2:eV C q u 1 s x=some (.val s):=by
   simp only[eV,g];have j:Nat.beq 0 0=true:=rfl;rw[j,cI];rcases h with (⟨rfl,_,_⟩|⟨b,b3,n,c,rfl,t,rfl,v,w,A,T3⟩)|⟨b,n,c,st,rfl,t,rfl,v,w,_⟩
   ·rfl
   ·have p:Nat.beq 1 1=true:=rfl;have f:Nat.ble (0+n*1) (n*1)=true:=de Zo;simp only[mM,p,cI,ii,A,f]
   ·have f:Nat.ble n n=true:=de (Zg _);simp only[mM,f,cI]
  exact xv T2 (i s q u aW (Zg _) (by rw[ZY];exact h) (λo d=> .inr d) (λ_ _ _=>rfl))
 |succ k=>
  obtain⟨e,D,a,G,T1,L,N⟩:=h.append (u:=u) Zd g Zo Zo r W T0 O;refine d8 G (i e D (u+1) a Zo (.inl T1) (λo d=> ?_) (λo d h=>N o Zo h));rcases L o d with rfl|h
  ·exact .inl ⟨Zo,Zo⟩
  ·exact .inr h
def nw(X:bi)(q:E S)(aT ag:Nat)(s:z)(a:List (List Int)):Prop:=∃(aG:List z) (aW:List Nat),da X q s 1 aG aW/\(∀o∈aW,aT<=o/\o<ag)/\aG.length=a.length/\∀(i:Nat) v ao,aG[i]? =some v->a[i]? =some ao->nu X q (λo=>aT<=o/\o<ag/\o∉aW) v ao
def nw.M{aT:Nat}{s:z}{f:List (List Int)}(h:nw X q aT ap s f)(l:ap<=aw)(e:∀o,aT<=o->o<ap->H X D o=H X q o):nw X D aT aw s f:=by obtain⟨aG,aW,g,d,j,k⟩:=h;exact⟨aG,aW,g.M λo b=>e o (d o b).1 (d o b).2,λo b=>⟨(d o b).1,zL (d o b).2⟩,j,λi v ao a c=>(k i v ao a c).M (λo b=>e o b.1 b.2.1) (λo b=>⟨b.1,zL b.2.1,b.2.2⟩)⟩
def nw.done{aT:Nat}{s:z}{d:List (List Int)}(h:nw X q aT ap s d)(l:d.length<=300000):oE X q (λo=>aT<=o/\o<ap) s d:=by obtain⟨aG,aW,f,g,j,k⟩:=h;obtain⟨b,W⟩:=f.pC (P:=λo=>aT<=o/\o<ap) Zo g;exact⟨b,aG,W,j,λi v ao a c=>(k i v ao a c).M (λ_ _=>rfl) (λo e=>⟨e.1,e.2.1⟩)⟩
def nw.snoc{aT ag:Nat}{s v:z}{j:List (List Int)}{ao:List Int}(h:nw X q aT ag s j)(G:nu X q (λo=>ag<=o/\o<u) v ao)(N:ag<=u)(n:(y X).aB<=u)(O:aT<=ag)(T0:j.length<=300000):
 ∀{x:z},fQ X q 1 x=some (1,[v])->hI v=true->∃e D,eV X q u 1 s x=some (.cJ e D (u+1))/\nw X D aT (u+1) e (j++[ao])/\∀o,o<u->(o<aT)->H X D o=H X q o:=by
 intro x L A;obtain⟨aG,aW,p,c,k,r⟩:=h;obtain⟨e,D,m,t,C,f,g⟩:=p.append (u:=u) Zd L rfl Zd (by simp[dU,A]) Zx n (λo a=>zL (c o a));refine⟨e,D,t,⟨aG++[v],m,.inl C,λo a=> ?_,by simp[k],λi w dL b d=> ?_⟩,λo a P=>g o Zo (λh=>zL (c o h))⟩
 ·rcases f o a with rfl|h
  ·exact⟨Zo,Zo⟩
  ·have:=c o h;omega
 ·by_cases ag:i<aG.length
  ·rw[ZQ ag]at b;rw[ZQ Zo]at d;refine(r i w dL b d).M (λo a=>g o Zo a.2.2) (λo a=>⟨a.1,zL a.2.1,λh=> ?_⟩);rcases f o h with rfl|h
   ·have:=a.2.1;omega
   ·exact a.2.2 h
  ·rw[ZW Zo]at b d;have l:i-aG.length=0:=(by have:=(Ze.1 b).1;simpa using this);rw[l]at b;rw[<-k,l]at d;cases b;cases d;refine G.M (λo a=>g o Zo (λh=>zL (c o h))) (λo a=>⟨Zo,Zo,λh=> ?_⟩);rcases f o h with rfl|h
   ·omega
   ·have:=c o h;omega
set_option maxRecDepth 100000 in
def Hf(T2:bZ X){g:GT}{row:List z}(WM:(y X).aB<=u)(aV:∀o,P o->o<u)(Ux:iO X q P g row)(X3:(c3 g).length<=100000)(V0:eQ g≠[])(VP:∀V∈g.eqs,nQ V.right=true/\(fM [] V.right).length<=200000):
 aD X 10 [.agg row] q u (λR D Z=>oE X D (b2 u Z) R (s7 g)/\aU X q u D Z) zX:=by
 refine Fd T2 (JD ..) ?_;unfold Cl;obtain⟨bK,bO,UY,UI,bc,bp,bG,Wd,Wo,rfl,Wr,Ws,Wt,Wu,Wq⟩:=id Ux;refine mQ ?_;generalize Uo:Go.aF.aH X q u _=au;have Ul:H X au u=zP [.str g.name,.Z g.at_,bK,bO,UY,UI] 6:=by rw[<-Uo,aM WM];rfl
 have UO:aU X q u au (u+1):=by rw[<-Uo];exact cf
 clear Uo;have bw:ca X au 6 (.ptr u 0)=some (.agg [.str g.name,.Z g.at_,bK,bO,UY,UI]):=by rw[mo];simp only[a8 Ul];rfl
 refine bo @bw ⟨?_⟩;refine(uY (u:=u+1) T2 (P:=P) Zo (λo c=>zL (aV o c)) (Ux.M (D:=au) (λo c=>UO.M o (aV o c)) (λ_ h=>h)) Zo).Zm ?_;rintro R am aw ⟨bI,V8,aE,b,rfl,UA,Uz,a0,VJ,aL,UU,VI⟩;have X0:=VI.le;obtain⟨ci,TZ⟩:∃ci,ci=eQ g:=⟨_,rfl⟩;rw[<-TZ]at UU V0;have X7:ci.length<=100000:=by rw[TZ];have:=Bm g;omega
 have Va:(dh ci).length=ci.length:=by simp[dh]
 refine bx ⟨?_⟩;generalize Us:Go.aF.aH X am aw _=VB;have VG:H X VB aw=some (.map [] 0):=by rw[<-Us,aM Zo]
 have UP:aU X am aw VB (aw+1):=by rw[<-Us];exact cf
 clear Us;refine(w7 (u:=aw+1) T2 (ci:=ci) (P:=b2 (u+1) aw) Zo (by rw[UP.dn _ _ UA.2];exact aL) (UU.M λo c=>UP.M o c.2) (λo c=>zL c.2) V0).Zm ?_;rintro R VC Vk ⟨⟨Wh,V4⟩,UQ⟩;have X1:=UQ.le;have VQ:=V4.len;rw[Va]at VQ;have VH:aU X au (u+1) VC Vk:=(VI.trans UP).trans UQ;refine bo @VQ ⟨?_⟩;refine cM (λm B D L=>∃(k:Nat),B.g 1=some (.ptr u 0)/\B.g 3=some (.ptr bI 0)/\B.g 4=some (.map aw)/\B.g 22=some R/\B.g 23=some (.Z ci.length)/\B.g 24=some (.Z k)/\k+m=ci.length/\Vk<=L/\h2 X D aw (tg (ci.take k))/\∀o,o≠aw->H X D o=H X VC o)
  ci.length ⟨0,aC,aC,aC,aC,aC,cT,Zo,Zg _,⟨[],0,by rw[UQ.M _ Zo];exact VG,λ_=>rfl⟩,λ_ _=>rfl⟩ ?_
 rintro m B Ug Vl ⟨k,t1,t3,t4,V9,Ua,Ub,VN,X5,UR,U9⟩;cases m with
 |succ m=>
  have d:=zN k ci.length;have U6:=zQ k;obtain⟨w,UC⟩:=zO ci k;have VU:=V4.M (D:=Ug) (λo c=>U9 o (zL c.1));have TY:=VU.c4 k Zo;have T9:=VU.cell k [.str w] 0 (.str w) (by unfold dh;rw[Zt,UC];rfl) rfl;rw[ZF]at TY;rw[ZF,ZN]at T9;obtain⟨T7,WL,VK,N⟩:=uU (u:=Vl) (show(y X).aB<=aw by omega) UR w (.Z k);refine cu @Ub @Ua @V9 @t4 @d @TY @T9 ⟨?_⟩;refine d8 WL ?_;refine bE @Ub @U6 ⟨?_⟩;refine⟨m,Zo,k+1,af t1,af t3,af t4,af V9,af Ua,aC,Zo,Zo, ?_,λo c=>by rw[N o c,U9 o c]⟩
  have:(λx=>if x=w then some (z.Z (k:Int))else tg (ci.take k) x)=tg (ci.take (k+1)):=by funext x;unfold tg;rw[HN UC];by_cases h:x=w<;>simp[h]
  rw[this]at VK;exact VK
 |zero=>
 have d:=zM k ci.length;rw[Zy Zo]at UR;have T4:∀o,o<u+1->H X Ug o=H X au o:=λo c=>by rw[U9 o Zo,VH.M o c]
 have UD:∀o,o<aw->H X Ug o=H X am o:=λo c=>by rw[U9 o Zo,UQ.M o Zo,UP.M o c]
 refine df @Ub @Ua @d @t3 ⟨?_⟩;refine(w7 (u:=Vl) T2 (ci:=ci) (P:=b2 (u+1) aw) Zo (zW (UD bI UA.2) aL) (UU.M λo c=>UD o c.2) (λo c=>zL c.2) V0).Zm ?_;rintro VA T0 UX ⟨⟨Wi,VW⟩,T1⟩;have X2:=T1.le;have VR:=VW.len;rw[Va]at VR;have Vv:H X T0 u=zP [.str g.name,.Z g.at_,bK,bO,UY,UI] 6:=by rw[T1.M u Zo,T4 u Zo];exact Ul
 have WC:iO X T0 P g [.str g.name,.Z g.at_,bK,bO,UY,UI]:=Ux.M (λo c=>by have:=aV o c;rw[T1.M o Zo,T4 o Zo];exact UO.M o this) (λ_ h=>h);have Vz:jQ X T0 (b2 (u+1) aw) (.ptr bI 0) (c6 g):=⟨bI,V8,rfl,UA,Uz,by rw[bB,T1.M bI (zL UA.2),UD bI UA.2, <-bB];exact a0,VJ.M (by rw[T1.M V8 (zL Uz.2),UD V8 Uz.2])⟩;have Vy:h2 X T0 aw (tg ci):=UR.M (T1.M aw Zo);have WJ:∀o,o<u->H X T0 o=H X q o:=λo c=>by rw[T1.M o Zo,T4 o Zo,UO.M o c]
 clear V4 UR U9 VN Ul UO UU a0 aL VJ VG VH T4 UD;refine cg @VR @t1 @t4 ⟨?_⟩;refine cM (λm B D L=>∃(k:Nat) (U5:z),B.g 1=some (.ptr u 0)/\B.g 3=some (.ptr bI 0)/\B.g 4=some (.map aw)/\B.g 7=some U5/\B.g 34=some VA/\B.g 35=some (.Z ci.length)/\B.g 36=some (.Z k)/\k+m=ci.length/\UX<=L/\nw X D UX L U5 ((ci.take k).map λnm=>hz (d0 (pD g nm)))/\∀o,o<UX->H X D o=H X T0 o)
  ci.length ⟨0,.ax,af t1,af t3,af t4,aC,aC,aC,cT,Zo,Zg _,⟨[],[],.inl (.inl ⟨rfl,rfl,rfl⟩),Zs,rfl,Zs⟩,λ_ _=>rfl⟩ ?_
 clear t1 t3 t4 V9 Ua Ub B;rintro m B T7 T5 ⟨k,U5,t1,t3,t4,C,A,r,t,VN,X6,Uv,N⟩;cases m with
 |zero=>have d:=zM k ci.length;rw[Zy Zo,TZ]at Uv;refine df @t @r @d @C ⟨?_⟩;refine⟨(Uv.done (by rw[Zj, <-TZ];omega)).M (λ_ _=>rfl) (λo c=>⟨Zo,c.2⟩),Zo,λo c=>by rw[N o Zo];exact WJ o c⟩|succ m=>
  have d:=zN k ci.length;have U6:=zQ k;obtain⟨nm,V1⟩:∃w,ci[k]? =some w:=⟨_,Zb Zo⟩;have VV:=VW.M (D:=T7) (λo c=>N o c.2);have TY:=VV.c4 k Zo;have T9:=VV.cell k [.str nm] 0 (.str nm) (by unfold dh;rw[Zt,V1];rfl) rfl;rw[ZF]at TY;rw[ZF,ZN]at T9;have WN:nm∈eQ g:=by rw[<-TZ];exact Zl V1
  obtain⟨v,UB⟩:=Option.isSome_iff_exists.1 (G4 WN);refine cu @t @r @A @t3 @d @TY @T9 ⟨?_⟩;refine(sF (u:=T5) T2 Zo (Vz.M (D:=T7) (λo c=>N o (zL c.2)) (λ_ h=>h)) (λo c=>zL c.2) nm).Zm ?_;rintro R Uh f ⟨rfl,Un⟩;have WI:=Un.le;rw[UB];simp only[YF,Z4];have Vc:ik v=[.Z v.kind,.str v.d.name,.Z v.d.at_,.bool v.d.ty.b,.bool v.d.ty.s,.Z v.d.ty.w,.str v.d.on,.Z v.d.cC,.bool v.d.no,.Z v.eq,.Z v.left]:=rfl;rw[Vc];refine hq ?_;refine hq ?_;refine k0 ?_;generalize Ut:Go.aF.aH X Uh f _=UK;have VF:H X UK f=zP [.Z 0,.str [],.Z 0,.zT,.zT,.Z 0,.str [],.Z 0,.zT,.Z 0,.Z 0] 11:=by rw[<-Ut,aM Zo];rfl
  have Vh:∀o,o<f->H X UK o=H X Uh o:=λo c=>by rw[<-Ut,ah Zo Zo]
  clear Ut;refine dg (eS (k:=11) (b:=f) (I:=0) (n:=11) VF Zo rfl Zd Zd rfl) ?_;generalize Uu:Go.aF.aH X UK f _=UL;have T8:H X UL f=zP [.Z v.kind,.str v.d.name,.Z v.d.at_,.bool v.d.ty.b,.bool v.d.ty.s,.Z v.d.ty.w,.str v.d.on,.Z v.d.cC,.bool v.d.no,.Z v.eq,.Z v.left] 11:=by rw[<-Uu,aM Zo];rfl
  have Vi:∀o,o<f->H X UL o=H X Uh o:=λo c=>by rw[<-Uu,ah Zo Zo,Vh o c]
  clear Uu VF Vh UK;refine js (a8 T8) ⟨?_⟩;generalize Up:Go.aF.aH X UL (f+1) _=O;have VE:H X O (f+1)=zP [.str v.d.on] 1:=by rw[<-Up,aM Zo]
  have V6:∀o,o<f+1->H X O o=H X UL o:=λo c=>by rw[<-Up,ah Zo Zo]
  clear Up;rw[<-V6 _ Zo]at T8;have UE:∀o,o<T5->H X O o=H X T7 o:=λo c=>by rw[V6 o Zo,Vi o Zo,Un.M o c]
  have US:da X O (.slice (f+1) 0 1 1) 1 [.str v.d.on] [f+1]:=.inr ⟨f+1,1,_,.own,rfl,rfl,rfl,VE,gv _,rfl,Zo⟩;have WH:∀V∈g.eqs,(fM [] V.right).length<=200000:=λV V3=>(VP V V3).2;apply y2 (P:=λB D L=>B.g 1=some (.ptr u 0)/\B.g 3=some (.ptr bI 0)/\B.g 4=some (.map aw)/\B.g 7=some U5/\B.g 34=some VA/\B.g 35=some (.Z ci.length)/\B.g 36=some (.Z k)/\
   ∃(on:z) (aW:List Nat),B.g 12=some on/\da X D on 1 ((hp g nm).map .str) aW/\(∀o∈aW,T5<=o/\o<L)/\T5<=L/\∀o,o<T5->H X D o=H X T7 o)
  ·intro V7;have VT:¬(0<=v.eq/\v.kind≠1)->hp g nm=[v.d.on]:=λh=>(by unfold hp;rw[UB];simp only;rw[Zi h]);by_cases bV:0<=v.eq
   ·have UM:decide (0<=v.eq)=true:=(by simp[bV]);by_cases b0:v.kind=1
    ·have Uj:decide (v.kind≠1)=false:=(by simp[b0]);rw[UM];refine m0 (a8 T8) @Uj ⟨?_⟩;refine eO _ ?_ (λB q n h=>(V7 B q n h).out);intro Ve U7;refine bx ⟨?_⟩;refine U7 _ _ _ ⟨af t1,af t3,af t4,af C,af A,af r,af t,_,[f+1],cT,by rw[VT (λh=>h.2 b0)];exact US,λo c=> ?_,Zo,UE⟩;rw[ZB.1 c];omega
    ·have Uj:decide (v.kind≠1)=true:=(by simp[b0]);obtain⟨U1,V,VD,Uk,Wn⟩:∃(U1:Nat) (V:cA),v.eq=U1/\g.eqs[U1]? =some V/\nm∈V.left:=by
      rcases vd UB with ⟨e,_⟩|h
      ·omega
      ·exact h
     have V2:hp g nm=v.d.on::fM [] V.right:=(by unfold hp;rw[UB];simp only;rw[Zv ⟨bV,b0⟩,VD,Int.toNat_natCast,Uk]);have Vj:∀o,o<UX->H X O o=H X T0 o:=λo c=>(by rw[UE o Zo,N o c]);obtain⟨XF,XH,XD,XE,Wa,Wb,Wc,We,Wp,Vs,_,_,_,VM,WD⟩:=WC.M (D:=O) (aI:=P) (λo c=>Vj o (zL (aV o c))) (λ_ h=>h);cases Vs;obtain⟨XB,VZ,Vx⟩:=WD.get U1 V Uk;obtain⟨XG,XC,Wl,Wm,WX,rfl,_,_,WQ,_⟩:=Vx;have VL:=VM.c4 U1 (Ze.1 VZ).1;rw[<-VD]at VL;have WR:=VM.cell U1 _ 3 WX VZ rfl;have W9:ay X O (.ptr u 5)=some UI:=(by rw[bB,Vj u Zo, <-bB,a8 Vv];rfl);rw[UM];refine m0 (a8 T8) @Uj ⟨?_⟩;refine eO _ ?_ (λB q n h=>(V7 B q n h).out);intro Ve U7;refine dA @t1 @W9 (a8 T8) @VL @WR ⟨?_⟩;obtain⟨Vw,G⟩:=VP V (Zl Uk);refine(θ (u:=f+1+1) T2 Zo (λo c=>zL (aV o c)) WQ Vw Zo).Zm ?_;rintro XI Vp WW ⟨⟨Wf,WV,W7⟩,Um⟩;have Ww:=Um.le;obtain⟨Wj,e1⟩:=WV.pC (P:=λo=>f+1+1<=o/\o<WW) (by rw[Zj];omega) W7;have Vb:=u5 e1 Zd;rw[ww,Zj,Zj]at Vb;refine N1 (US.M (D:=Vp) (λo c=>Um.M o (by rw[ZB.1 c];omega))) Vb Zs ?_ Zx Zo (λo c=>by rw[ZB.1 c];omega) ?_
     ·exact(show ∀l:List aA,dU (l.map z.str)=true from λl=>by
       induction l with
       |nil=>rfl|cons a l U=>exact U) _
     intro UH WY XA Ui Wx WS W5 WE;refine U7 _ _ _ ⟨af t1,af t3,af t4,af C,af A,af r,af t,UH,Ui,aC,by rw[V2];exact WS,λo c=> ?_,Zo,λo c=> ?_⟩
     ·rcases W5 o c with h|h
      ·omega
      ·rw[ZB.1 h];omega
     ·rw[WE o Zo (λh=>zL (ZB.1 h)),Um.M o Zo];exact UE o c
   ·have UM:decide (0<=v.eq)=false:=(by simp;omega);rw[UM];refine h8 ⟨?_⟩;refine eO _ ?_ (λB q n h=>(V7 B q n h).out);intro Ve U7;refine bx ⟨?_⟩;refine U7 _ _ _ ⟨af t1,af t3,af t4,af C,af A,af r,af t,_,[f+1],cT,by rw[VT (λh=>bV h.1)];exact US,λo c=> ?_,Zo,UE⟩;rw[ZB.1 c];omega
  have X8:(hp g nm).length<=200001:=by
   unfold hp;rw[UB];simp only;rw[ZI];split
   ·split
    ·rename_i V V3;have:=WH V (Zl V3);omega
    ·simp
   ·simp
  clear t1 t3 t4 C A r t B US T8 VE Vi V6 UE Un WI Vc TY T9;rintro B Vq UF ⟨t1,t3,t4,C,A,r,t,on,Wg,Vm,V2,W8,Wy,VO⟩;obtain⟨Wk,VY⟩:=V2.pC (P:=λo=>T5<=o/\o<UF) (by rw[Zj];omega) W8;have WO:(((hp g nm).map z.str).map λv=>[v]).length=(hp g nm).length:=by simp
  have VS:=VY.len;rw[WO]at VS;refine bE @Vm @VS ⟨?_⟩;refine cM (λm B D L=>∃(j:Nat) (row:z) (ao:List Int) (aW:List Nat),B.g 1=some (.ptr u 0)/\B.g 3=some (.ptr bI 0)/\B.g 4=some (.map aw)/\B.g 7=some U5/\B.g 34=some VA/\B.g 35=some (.Z ci.length)/\B.g 36=some (.Z k)/\
   B.g 13=some row/\B.g 68=some on/\B.g 69=some (.Z ((hp g nm).length:Int))/\B.g 70=some (.Z j)/\j+m=(hp g nm).length/\UF<=L/\ao=(((hp g nm).take j).filterMap (j9 ci)).map Int.ofNat/\ao.length<=j/\et X D row 1 (dv ao) aW/\(ao=[]->row=.ax)/\(∀o∈aW,UF<=o/\o<L)/\∀o,o<UF->H X D o=H X Vq o)
   (hp g nm).length ⟨0,.ax,[],[],af t1,af t3,af t4,af C,af A,af r,af t,aC,aC,aC,cT,Zo,Zg _,rfl,Zg _,.inl ⟨rfl,rfl,rfl⟩,λ_=>rfl,Zs,λ_ _=>rfl⟩ ?_
  clear t1 t3 t4 C A r t Vm B;rintro UW B T6 UG ⟨j,row,ao,aW,t1,t3,t4,C,A,r,t,UZ,Uc,UJ,Ud,Wv,X4,U0,X9,V5,Vd,T3,U8⟩;cases UW with
  |succ UW=>
   have d:=zN j (hp g nm).length;have UN:=zQ j;obtain⟨w,UC⟩:=zO (hp g nm) j;obtain⟨Vn,Vo,_⟩:=(VY.M (D:=T6) (λo c=>U8 o c.2)).one (i:=j) (v:=.str w) (by rw[Zt,UC];rfl);have G:=pn (Vy.M (D:=T6) (by rw[U8 aw Zo,VO aw Zo,N aw Zo])) (.Z 0) w true;have UV:((hp g nm).take (j+1)).filterMap (j9 ci)=((hp g nm).take j).filterMap (j9 ci)++(j9 ci w).toList:=(by rw[ZD,UC,List.filterMap_append];cases UT:j9 ci w<;>simp[UT]);unfold tg at G;cases UT:j9 ci w with
   |none=>rw[UT]at UV G;have G:fb X T6 9 (.Z 0) (.map aw) (.str w) true=some (.tuple [.Z 0,.zT]):=G;refine cu @Ud @UJ @Uc @t4 @d @Vn (Za @Vo (Za @G @UN)) ⟨?_⟩;exact⟨UW,Zo,j+1,row,ao,aW,af t1,af t3,af t4,af C,af A,af r,af t,af UZ,af Uc,af UJ,aC,Zo,Zo,by rw[UV,Option.toList_none,ZY];exact U0,Zo,V5,Vd,T3,U8⟩|some p=>
    rw[UT]at UV G;have G:fb X T6 9 (.Z 0) (.map aw) (.str w) true=some (.tuple [.Z (p:Int),.zV]):=G;refine cu @Ud @UJ @Uc @t4 @UZ @d (Za @Vn (Za @Vo @G)) ⟨?_⟩;generalize Uq:Go.aF.aH X T6 UG _=U3;have Vt:H X U3 UG=zP [.Z (p:Int)] 1:=(by rw[<-Uq,aM Zo]);have T4:∀o,o<UG->H X U3 o=H X T6 o:=λo c=>(by rw[<-Uq,ah Zo Zo]);clear Uq;obtain⟨UH,Uf,Ui,Uw,WT,W6,Uy⟩:=(da.append (u:=UG+1) (.inl (V5.M (D:=U3) (λo c=>T4 o (T3 o c).2))) Zd (hY Vt (gv _) rfl _) rfl Zd rfl (by rw[j2];simp;omega) Zo (λo c=>zL (T3 o c)));refine d8 Uw ?_;refine bE @Ud @UN ⟨?_⟩;refine⟨UW,Zo,j+1,UH,ao++[(p:Int)],Ui,af t1,af t3,af t4,af C,af A,af r,af t,aC,af Uc,af UJ,aC,Zo,Zo,by rw[UV,ZU, <-U0];rfl,Zx,by rw[show dv (ao++[(p:Int)])=dv ao++[.Z (p:Int)] by simp[dv]];exact WT,λh=>by simp at h,λo c=> ?_,λo c=> ?_⟩
    ·rcases W6 o c with rfl|h
     ·omega
     ·have:=T3 o h;omega
    ·rw[Uy o Zo (λh=>zL (T3 o h)),T4 o Zo];exact U8 o c
  |zero=>
  have d:=zM j (hp g nm).length;rw[Zy Zo,TZ]at U0;have U0:ao=pD g nm:=U0;obtain⟨U3,WK,WF,WB⟩:=abR V5 Vd Zo;refine df @Ud @UJ @d @UZ ⟨?_⟩;refine⟨⟨U3,WK, ?_⟩⟩;refine bE @UZ @C ⟨?_⟩;refine(OW (P:=λo=>UF<=o/\o<UG) (s:=row) (ao:=d0 ao) T2 ?_ (by rw[rz];omega)).Zm ?_
  ·rcases WB with ⟨U6,UN⟩|⟨b,W1,W2,W3,W4⟩
   ·exact .inl ⟨U6,by rw[UN];rfl⟩
   ·exact .inr ⟨b,T3 b W1,by rw[rz];exact W2,W3,λe=>W4 (ZS (by rw[<-rz,e];rfl))⟩
  rintro Ue Uf U2 ⟨Wz,⟨Vr,VX⟩,Uy⟩;obtain⟨WA,WP,_⟩:=fu VX.len;have WU:ea 1 [.ax] [(0,1,Ue)] U2=some (.slice U2 0 1 1,.cells (E.ofList [Ue] 0 .nil) 1 .own):=by unfold ea;rw[k4,WA];rfl
  refine h8 ⟨?_⟩;refine dg WU ?_;refine bx ⟨?_⟩;generalize Ur:Go.aF.aH X Uf U2 _=U4;have Vu:H X U4 U2=zP [Ue] 1:=by rw[<-Ur,aM Zo]
  have Vf:∀o,o<U2->H X U4 o=H X Uf o:=λo c=>by rw[<-Ur,ah Zo Zo]
  clear Ur;have Vg:∀o,o<T5->H X U4 o=H X T7 o:=λo c=>by rw[Vf o Zo,Uy o (λh=>zL h.1),WF o (λh=>zL (T3 o h)),U8 o Zo,VO o c]
  obtain⟨UH,WZ,Uw,W0,WG⟩:=(Uv.M (D:=U4) (Zg _) (λo _ c=>Vg o c)).snoc (u:=U2+1) (v:=Ue) (ao:=hz (d0 ao)) ⟨Vr,(VX.M (D:=U4) (λo c=>Vf o Zo)).lift (λo c=>Zo)⟩ Zo Zo Zo (by rw[Zj,YI];omega) (hY Vu (gv _) rfl _) WP;refine d8 Uw ?_;refine bE @t @U6 ⟨?_⟩;refine⟨m,Zo,k+1,UH,af t1,af t3,af t4,aC,af A,af r,aC,Zo,Zo, ?_,λo c=>by rw[WG o Zo c,Vg o Zo];exact N o c⟩;rw[ZD,V1,ZU,Option.toList_some,List.map_singleton, <-U0];exact W0
end
end
end Go.Proofs.YtehmapikajmjaaaGreatDoor
