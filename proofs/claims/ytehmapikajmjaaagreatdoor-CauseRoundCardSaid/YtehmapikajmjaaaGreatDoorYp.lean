/- Part of the proof of the last text; no conditions -/
import Derived.Test.YtehmapikajmjaaaGreatDoorYo
set_option maxHeartbeats 8000000
set_option linter.all false
namespace Go.Proofs.YtehmapikajmjaaaGreatDoor
open Go.aF Go.ak
noncomputable section
mutual
def IP{aZ:eM}:∀{e:aX},dw aZ e->nQ e=true
 | .mk k a nm no ty n args,h=>by
   rw[dw]at h;rw[nQ,IQ h.2,YJ];by_cases b:k=21
   ·have:=h.1.oN 2 (by show kq k=_;rw[b];rfl);cases args with|nil=>cases this|cons x l=>simp
   ·simp[b]
def IQ{aZ:eM}:∀{l:List aX},dJ aZ l->sC l=true
 |[],_=>rfl|a::l,h=>by rw[dJ]at h;rw[sC,IP h.1,IQ h.2];rfl
end
mutual
def GM:∀(e:aX) (l:List aA),(fM l e).length<=l.length+eT e
 | .mk k a nm no ty n args,l=>by
   rw[fM,eT];split
   ·omega
   ·have:=GN args (decide (k=21)) (if n1 k=true then lA l nm else l);have c:(if n1 k=true then lA l nm else l).length<=l.length+1:=by
     split
     ·unfold lA;split<;>simp
     ·omega
    omega
def GN:∀(b:List aX) (f:Bool) (l:List aA),(lh l f b).length<=l.length+eb b
 |[],f,l=>by rw[lh];omega|a::b,f,l=>by
  rw[lh,eb];have d:=GM a l;split
  ·omega
  ·have c:=GN b f (fM l a);omega
end
def ch(l:List Nat):List Int:=l.map Int.ofNat
def Gk(x o:Int):∀l:List Int,o∈k8 x l↔o=x\/o∈l:=by
 intro l;induction l with
 |nil=>simp[k8]|cons a l U=>
  rw[k8,cY];split
  ·rw[Zq,U,Zq];constructor
   ·rintro(h|h|h)
    ·exact .inr (.inl h)
    ·exact .inl h
    ·exact .inr (.inr h)
   ·rintro(h|h|h)
    ·exact .inr (.inl h)
    ·exact .inl h
    ·exact .inr (.inr h)
  ·rw[Zq]
def Ie(o:Int):∀l:List Int,o∈d0 l↔o∈l:=by intro l;induction l with|nil=>simp[d0]|cons a l U=>rw[d0,Gk,U,Zq]
def Rx(x:Int):∀l:List Int,l.Pairwise (·<=·)->(k8 x l).Pairwise (·<=·):=by
 intro l;induction l with
 |nil=>intro _;simp[k8]|cons a l U=>
  intro h;have d:=Yc.1 h;rw[k8,cY];split
  ·rename_i c;rw[la]at c;simp at c;rw[Yc];refine⟨λo b=> ?_,U d.2⟩;rcases(Gk x o l).1 b with rfl|b
   ·omega
   ·exact d.1 o b
  ·rename_i c;rw[la]at c;simp at c;rw[Yc];refine⟨λo b=> ?_,h⟩;rcases Zq.1 b with rfl|b
   ·omega
   ·have:=d.1 o b;omega
def abY:∀l:List Int,(d0 l).Pairwise (·<=·):=by intro l;induction l with|nil=>simp[d0]|cons a l U=>rw[d0];exact Rx a _ U
def Pq:∀(l:List Int) (p o:Int),(o=p\/o∈jq p l)↔(o=p\/o∈l):=by
 intro l;induction l with
 |nil=>intro p o;simp[jq]|cons a l U=>
  intro p o;rw[jq];split
  ·rename_i h;subst h;rw[U];simp
  ·rw[Zq,Zq,U a o]
def Pp:∀(l:List Int) (p:Int),(p::l).Pairwise (·<=·)->(∀o∈jq p l,p<o)/\(jq p l).Pairwise (·<·):=by
 intro l;induction l with
 |nil=>intro p _;simp[jq]|cons a l U=>
  intro p h;obtain⟨f,g⟩:=Yc.1 h;obtain⟨b,d⟩:=U a g;rw[jq];split
  ·rename_i e;subst e;exact⟨b,d⟩
  ·rename_i e;have i:=f a (Zr ..);refine⟨λo c=> ?_,Yc.2 ⟨b,d⟩⟩;rcases Zq.1 c with rfl|c
   ·omega
   ·have:=b o c;omega
def Ff(l:List Int)(o:Int):o∈hz l↔o∈l:=by cases l with|nil=>simp[hz]|cons a l=>rw[hz,Zq,Zq,Pq]
def OV{l:List Int}(h:l.Pairwise (·<=·)):(hz l).Nodup:=by cases l with|nil=>simp[hz]|cons a l=>obtain⟨b,c⟩:=Pp l a h;rw[hz,YC];exact⟨λd=>zL (b a d),c.imp (λh=>Zo)⟩
def ρ:∀(l:List (Int×cG)) (s:(aA->Option cB)×List aA),(∀w,(s.1 w).isSome=true↔w∈s.2)->s.2.Nodup->(l.foldl eR s).2.Nodup:=by
 intro l;induction l with
 |nil=>intro s _ h;exact h|cons x l U=>
  intro s c g;rw[Z6];by_cases d:(s.1 x.2.name).isSome=true
  ·have e:eR s x=s:=(by unfold eR;rw[Zv d]);rw[e];exact U s c g
  ·have e:eR s x=(λw=>if w=x.2.name then some ⟨x.1,x.2, -1, -1⟩else s.1 w,s.2++[x.2.name]):=(by unfold eR;rw[Zi d]);rw[e];refine U _ (λw=> ?_) ?_
   ·show((if w=x.2.name then some (⟨x.1,x.2, -1, -1⟩:cB)else s.1 w)).isSome=true↔w∈s.2++[x.2.name];by_cases f:w=x.2.name
    ·simp[f]
    ·rw[Zi f,c];simp[f]
   ·rw[YB];refine⟨g,Zs,λa i b W e=> ?_⟩;rw[ZB]at W;rw[W]at e;exact d ((c _).2 (e▸i))
def w6(g:GT):(eQ g).Nodup:=ρ (c3 g) (λ_=>none,[]) (λw=>Zs) List.nodup_nil
def HM{ci:List aA}(f:ci.Nodup)(w:aA)(p:Nat):j9 ci w=some p↔ci[p]? =some w:=by
 have key:∀k,k<=ci.length->((∀p,j9 (ci.take k) w=some p->ci[p]? =some w)/\∀p,p<k->ci[p]? =some w->j9 (ci.take k) w=some p):=by
  intro k;induction k with
  |zero=>intro _;exact⟨λp h=>by simp[j9]at h,λp h=>Zo⟩|succ k U=>
   intro i;obtain⟨a,b⟩:=U Zo;obtain⟨x,c⟩:=zO ci k;rw[HN c];refine⟨λp h=> ?_,λp j h=> ?_⟩
   ·simp only at h;split at h
    ·rename_i e;cases h;rw[e];exact c
    ·exact a p h
   ·simp only;by_cases e:p=k
    ·subst e;rw[c]at h;cases h;rw[Zv rfl]
    ·have g:w≠x:=λd=>(by rw[d]at h;have:=(za Zo f).1 (h.trans c.symm);omega);rw[Zi g];exact b p Zo h
 obtain⟨a,b⟩:=key ci.length (Zg _);rw[Yx]at a b;exact⟨a p,λh=>b p (Ze.1 h).1 h⟩
def dZ(g:GT):List (List Nat):=(s7 g).map λr=>r.map Int.toNat
def pt(g:GT):(dZ g).length=(eQ g).length:=by simp[dZ,s7]
def xy(g:GT)(nm:aA):∀aj∈hz (d0 (pD g nm)),∃k:Nat,aj=(k:Int)/\k∈H3 g nm:=by intro aj a;rw[Ff,Ie]at a;obtain⟨k,b,rfl⟩:=ZC.1 a;exact⟨k,rfl,b⟩
def He(g:GT):s7 g=(dZ g).map ch:=by
 unfold dZ s7;rw[Ya,Ya];refine Ys λnm _=> ?_;show _=((hz (d0 (pD g nm))).map Int.toNat).map Int.ofNat;rw[Ya];conv=>lhs;rw[<-List.map_id (hz (d0 (pD g nm)))]
 refine Ys λaj a=> ?_;obtain⟨k,rfl,_⟩:=xy g nm aj a;rfl
def Hc{g:GT}{a:Nat}{nm:aA}(h:(eQ g)[a]? =some nm):bR (dZ g) a=(hz (d0 (pD g nm))).map Int.toNat:=by unfold bR dZ s7;rw[Y1,Ya,Zt,h];rfl
def Hd{g:GT}{a k:Nat}{nm:aA}(h:(eQ g)[a]? =some nm):k∈bR (dZ g) a↔∃w,(eQ g)[k]? =some w/\w∈hp g nm:=by
 rw[Hc h,ZC];constructor
 ·rintro⟨aj,e,rfl⟩;obtain⟨k,rfl,d⟩:=xy g nm aj e;obtain⟨w,b,c⟩:=List.mem_filterMap.1 d;exact⟨w,(HM (w6 g) w k).1 c,b⟩
 ·rintro⟨w,b,c⟩;refine⟨(k:Int), ?_,rfl⟩;rw[Ff,Ie];exact ZC.2 ⟨k,List.mem_filterMap.2 ⟨w,c,(HM (w6 g) w k).2 b⟩,rfl⟩
def Bn(g:GT):∀r∈dZ g,r.Nodup/\∀k∈r,k<(dZ g).length:=by
 intro r K;obtain⟨p,c,rfl⟩:=ZC.1 K;obtain⟨nm,l,rfl⟩:=ZC.1 c;obtain⟨a,b⟩:=Yv l;refine⟨?_,λk h=> ?_⟩
 ·have i:=OV (abY (pD g nm));rw[List.nodup_iff_pairwise_ne,List.pairwise_map];refine List.Pairwise.imp_of_mem (λ{x o} m n j=> ?_) i;obtain⟨a7,rfl,_⟩:=xy g nm x m;obtain⟨bl,rfl,_⟩:=xy g nm o n;intro e;exact j (by have e:(a7:Int).toNat=(bl:Int).toNat:=e;omega)
 ·have d:k∈bR (dZ g) a:=by rw[Hc b];exact h
  obtain⟨w,f,_⟩:=(Hd b).1 d;rw[pt];exact(Ze.1 f).1
def q3{a:List (List Nat)}{k:Nat}(b:k<a.length):bR a k=a[k]:=by unfold bR;rw[Y1,Zb b];rfl
def BD(x:z):∀(n k:Nat),k<n->(fj n [x])[k]? =some x:=by intro n;induction n with|zero=>intro k h;omega|succ n U=>intro k h;show(x::fj n [x])[k]? =_;cases k with|zero=>rfl|succ k=>exact U k Zo
def G2{C:al}{q:E S}{u N:Nat}{x:z}(e:C.aB<=u)(f:N<=1000000):∃c,w4 C q u 1 [x] (.Z N) (.Z N)=some (.cJ (.slice u 0 N N) (aH C q u (some (.cells c N .own))) (u+1))/\∀k,k<N->c.get k=some x:=by refine⟨E.ofList (fj N [x]) 0 .nil, ?_,λk d=>(g0 _ _).trans (BD x N k d)⟩;have a:Nat.ble N N=true:=de (Zg _);have b:Nat.ble N 1048576=true:=de Zo;simp only[w4,hV,a,b,ZZ,cI,fE,de e,gi,du,ZF]
section
variable{X:bi}{q D au am:E S}{u Z ap aw n bv cD Iz aT N:Nat}{P aI:Nat->Prop}{ao iJ kJ:List Int}{aW hl hx:List Nat}{T ab:aY}{w:Nat->Int}{c2:Nat->List Int}
def kf(a:List (List Nat))(i k:Nat):List Int:=ch ((List.range i).filter λx=>decide (k∈bR a x))
def dS(a:List (List Nat))(i k:Nat):Int:=if k<i then((bR a k).length:Int)else 0
def rb(a:List (List Nat))(i:Nat):List Nat:=(List.range i).filter λx=>(bR a x).isEmpty
def ac1(a:List (List Nat))(i k:Nat):kf a (i+1) k=kf a i k++(if k∈bR a i then[(i:Int)]else[]):=by unfold kf ch;rw[List.range_succ,List.filter_append,ZU];congr 1;by_cases h:k∈bR a i<;>simp[h]
def IC(a:List (List Nat))(i k:Nat):(kf a i k).length<=i:=by unfold kf ch;rw[Zj];have:=List.length_filter_le (λx=>decide (k∈bR a x)) (List.range i);simpa using this
def ac0(a:List (List Nat))(k:Nat):kf a a.length k=ch (iI a k):=rfl
def Hs(a:List (List Nat))(i:Nat):rb a (i+1)=rb a i++(if (bR a i).isEmpty=true then[i]else[]):=by unfold rb;rw[List.range_succ,List.filter_append];congr 1;by_cases h:(bR a i).isEmpty=true<;>simp[h]
set_option maxRecDepth 100000 in
def acO(UA:bZ X){v:z}{c:List (List Nat)}(U5:(y X).aB<=u)(aV:∀o,P o->o<u)(h:oE X q P v (c.map ch))(Wr:c.length<=100000)(WO:∀r∈c,r.Nodup/\∀k∈r,k<c.length):
 aD X 44 [v] q u (λR D Z=>∃out,kZ c out/\nu X D (b2 u Z) R (ch out)/\aU X q u D Z) zX:=by
 refine Fd UA (L3 ..) ?_;unfold DK;obtain⟨b,aG,VR,VZ,Wf⟩:=h;have UU:=VR.len;rw[Zj,VZ,Zj]at UU;rw[Zj]at VZ;have UV:∀k,k<c.length->(bR c k).Nodup/\∀x∈bR c k,x<c.length:=λk g=>by
  have:bR c k∈c:=by rw[q3 g];exact YY g
  exact WO _ this
 obtain⟨bV,Vf,V5⟩:=G2 (q:=q) (x:=.Z 0) U5 (show c.length<=1000000 by omega);refine bo @UU ⟨?_⟩;refine d8 Vf ?_;generalize Uj:Go.aF.aH X q u _=au;have Vk:H X au u=some (.cells bV c.length .own):=by rw[<-Uj,aM U5]
 have a7:∀o,o<u->H X au o=H X q o:=λo f=>by rw[<-Uj,ah U5 Zo]
 clear Uj Vf;obtain⟨b0,Vg,V6⟩:=G2 (C:=y X) (q:=au) (u:=u+1) (x:=.ax) Zo (show c.length<=1000000 by omega);refine bo @UU ⟨?_⟩;refine d8 Vg ?_;generalize Uk:Go.aF.aH X au (u+1) _=am;have Vl:H X am (u+1)=some (.cells b0 c.length .own):=by rw[<-Uk,aM Zo]
 have bl:∀o,o<u+1->H X am o=H X au o:=λo f=>by rw[<-Uk,ah Zo Zo]
 clear Uk Vg;refine h8 ⟨?_⟩;generalize Ul:Go.aF.aH X _ (u+1+1+1) _=U8;have Vm:H X U8 (u+3)=zP [.slice (u+2) 0 0 0] 1:=by rw[<-Ul,aM Zo];rfl
 have Ub:∀o,o<u+2->H X U8 o=H X am o:=λo f=>by rw[<-Ul];exact zR
 clear Ul;have VI:∀o,o<u->H X U8 o=H X q o:=λo f=>by rw[Ub o Zo,bl o Zo,a7 o f]
 have V7:km X U8 (u+4) c.length u (dS c 0) (kf c 0) []:=by refine⟨U5,Zg _,[],λ_=>[],⟨bV,by rw[Ub _ Zo,bl _ Zo];exact Vk,λk g=>by rw[V5 k g];simp[dS]⟩,⟨b0,by rw[Ub _ Zo];exact Vl,λk g=>⟨.ax,V6 k g,.inl ⟨rfl,by simp[kf,dv,ch],rfl⟩⟩⟩,⟨Zo,Zs,_,_,Vm,rfl,.inl ⟨rfl,rfl,u+2,rfl⟩⟩,Zs,Zs,Zs⟩
 clear a7 bl Ub Vk Vl Vm V5 V6 au am bV b0;refine bo @UU ⟨?_⟩;refine cM (λm B D N=>∃(i:Nat) (ao:List Int),B.g 3=some (.slice u 0 c.length c.length)/\B.g 4=some (.slice (u+1) 0 c.length c.length)/\B.g 5=some (.ptr (u+3) 0)/\B.g 22=some v/\B.g 23=some (.Z c.length)/\B.g 24=some (.Z i)/\i+m=c.length/\km X D N c.length u (dS c i) (kf c i) ao/\ao.Perm (ch (rb c i))/\∀o,o<u->H X D o=H X q o)
  c.length ⟨0,[],aC,aC,aC,aC,aC,cT,Zo,V7,by simp[rb,ch],VI⟩ ?_
 clear V7 VI U8;rintro m B Ug Vh ⟨i,ao,t3,t4,t5,T6,T3,T4,ag,p,T2,UQ⟩;cases m with
 |succ m=>
  have d:=zN i c.length;have V4:=zQ i;obtain⟨Uc,VY⟩:∃w,aG[i]? =some w:=⟨_,Zb Zo⟩;have WP:(c.map ch)[i]? =some (ch (bR c i)):=by rw[Zt,Zb (show i<c.length by omega),q3 (show i<c.length by omega)];rfl
  obtain⟨Vo,Vp,Ws⟩:=(VR.M (D:=Ug) (λo f=>UQ o (aV o f))).one VY;have WW:nu X q P Uc (ch (bR c i)):=Wf i Uc _ VY WP;obtain⟨Wp,Ur⟩:=WW;have VS:(eh (ch (bR c i))).length=(bR c i).length:=by simp[eh,ch]
  have UT:=Ur.len;have WN:=Ur.many;rw[VS]at UT WN;obtain⟨UX,UY⟩:=p.want (k:=i) Zo;obtain⟨V3,VV,Ui,UC⟩:=UY ((bR c i).length:Int);have UF:(λx=>if x=i then((bR c i).length:Int)else dS c i x)=dS c (i+1):=by
   funext x;unfold dS;by_cases h:x=i
   ·subst h;simp
   ·rw[Zi h];by_cases U4:x<i
    ·rw[Zv U4,Zv Zo]
    ·rw[Zi U4,Zi Zo]
  rw[UF]at Ui;have Ux:=wM (b:=u) (n:=c.length) (i:=i) Zo;refine cu @T4 @T3 @T6 @t3 @d @Vo (Za @Vp (Za @UT (Za @Ux @VV))) ⟨?_⟩;refine cM (λt B D N=>∃(j:Nat),B.g 3=some (.slice u 0 c.length c.length)/\B.g 4=some (.slice (u+1) 0 c.length c.length)/\B.g 5=some (.ptr (u+3) 0)/\B.g 22=some v/\B.g 23=some (.Z c.length)/\B.g 24=some (.Z i)/\B.g 6=some (.Z i)/\B.g 7=some Uc/\B.g 34=some Uc/\B.g 35=some (.Z ((bR c i).length:Int))/\B.g 36=some (.Z j)/\j+t=(bR c i).length/\
   km X D N c.length u (dS c (i+1)) (λk=>kf c i k++(if k∈(bR c i).take j then[(i:Int)]else[])) ao/\∀o,o<u->H X D o=H X q o)
   (bR c i).length ⟨0,af t3,af t4,af t5,af T6,af T3,af T4,aC,aC,aC,aC,cT,Zo,by simpa using Ui,λo f=>by rw[UC o Zo];exact UQ o f⟩ ?_
  clear t3 t4 t5 T6 T3 T4 B p Ui UC VV UX UY UQ Vo Vp;rintro t B T7 A ⟨j,t3,t4,t5,T6,T3,T4,V0,V1,Vn,Ud,Ue,WD,p,TZ⟩;cases t with
  |zero=>
   have d:=zM j (bR c i).length;rw[Zy Zo]at p;have Ut:(λk=>kf c i k++(if k∈bR c i then[(i:Int)]else[]))=kf c (i+1):=(by funext k;rw[ac1]);rw[Ut]at p;by_cases UL:(bR c i).length=0
   ·have T9:decide (((bR c i).length:Int)=0)=true:=(by simp[UL]);obtain⟨aW,UO,VE,US⟩:=p.heap;have VL:=p.aT;refine cu @Ue @Ud @d @V1 @UT @T9 (Za @t5 @V0) ⟨?_⟩;refine(Ge (u:=A) UA UO Zo VE ?_ (i:Int)).Zm ?_
    ·have:=T2.length_eq;have U4:(ch (rb c i)).length<=i:=(by unfold ch rb;rw[Zj];have:=List.length_filter_le (λx=>(bR c x).isEmpty) (List.range i);simpa using this);omega
    rintro R T8 Wk ⟨rfl,Vq,Vw,WT,W4⟩;obtain⟨W1,WF⟩:=US T8 Wk Vq Vw W4;have Uo:(bR c i).isEmpty=true:=(by rw[ZS UL];rfl);refine bE @T4 @V4 ⟨?_⟩;refine⟨m,Zo,i+1,Vq,af t3,af t4,af t5,af T6,af T3,aC,Zo,W1, ?_,λo f=>by rw[WF o Zo];exact TZ o f⟩;rw[Hs,Zv Uo];refine WT.trans ?_;rw[ch,ZU];exact List.Perm.append_right _ T2
   ·have T9:decide (((bR c i).length:Int)=0)=false:=z2;have Uo:(bR c i).isEmpty=false:=by cases WV:bR c i with|nil=>rw[WV]at UL;exact absurd rfl UL|cons a l=>rfl
    refine cu @Ue @Ud @d @V1 @UT @T9 (Za @T4 @V4) ⟨?_⟩;exact⟨m,Zo,i+1,ao,af t3,af t4,af t5,af T6,af T3,aC,Zo,p,by rw[Hs,Uo];simpa using T2,TZ⟩
  |succ t=>
   have d:=zN j (bR c i).length;have UK:=zQ j;obtain⟨k,T1⟩:∃w,(bR c i)[j]? =some w:=⟨_,Zb Zo⟩;obtain⟨WQ,WL⟩:=UV i Zo;have G:=WL k (Zl T1);have Uq:(eh (ch (bR c i)))[j]? =some [.Z (k:Int)]:=(by rw[eh,ch,Ya,Zt,T1];rfl);have VT:=Ur.M (D:=T7) (λo f=>TZ o (aV o f));have U6:=VT.c4 j (by rw[VS];omega);have U7:=VT.cell j _ 0 _ Uq rfl;rw[ZF]at U6;rw[ZF,ZN]at U7;have UD:k∉(bR c i).take j:=λL=>by
    obtain⟨Wj,T0⟩:=Yv L;rw[Y0]at T0;split at T0
    ·rename_i WM;have:=(za Zo WQ).1 (T0.trans T1.symm);omega
    ·cases T0
   have Uu:=IC c i k;obtain⟨s,WX,W9⟩:=p.acV G (by rw[Zi UD,ZY];omega) (i:Int);have UZ:=wM (b:=u+1) (n:=c.length) G;have VL:=p.aT;refine cu @Ue @Ud @Vn @t4 @V0 @d (Za @U6 (Za @U7 (Za @UZ @WX))) ⟨?_⟩;generalize TY:Go.aF.aH X T7 A _=T8;obtain⟨X8,T5,Un,Wn,U0,V8,WE⟩:=W9 T8 (λo f=>by rw[<-TY,ah Zo Zo]) (by rw[<-TY,aM Zo]);clear TY;refine d8 Un ?_;refine df @UZ @U0 @Ue @UK ⟨?_⟩;have Ut:(λo=>if o=k then(kf c i k++(if k∈(bR c i).take j then[(i:Int)]else[]))++[(i:Int)]else kf c i o++(if o∈(bR c i).take j then[(i:Int)]else[]))=λk=>kf c i k++(if k∈(bR c i).take (j+1)then[(i:Int)]else[]):=by
    funext o;have Us:∀o,o∈(bR c i).take (j+1)↔o∈(bR c i).take j\/o=k:=λo=>(by rw[ZD,T1];simp);by_cases e:o=k
    ·subst e;rw[Zv rfl,Zi UD,ZY,Zv ((Us o).2 (.inr rfl))]
    ·rw[Zi e];by_cases L:o∈(bR c i).take j
     ·rw[Zv L,Zv ((Us o).2 (.inl L))]
     ·rw[Zi L,Zi (λh=>((Us o).1 h).elim L e)]
   rw[Ut]at V8;exact⟨t,Zo,j+1,af t3,af t4,af t5,af T6,af T3,af T4,af V0,af V1,af Vn,af Ud,aC,Zo,V8,λo f=>by rw[WE o Zo];exact TZ o f⟩
 |zero=>
  have d:=zM i c.length;have UP:i=c.length:=Zo;subst UP;obtain⟨O,UB,Wu,W8,Wc⟩:=p.split (λk g=>zL (IC c c.length k));have U0:=jN.start c (dS c c.length) (λk g=>by unfold dS;rw[Zv g]);refine cg @T4 @T3 @d ⟨?_⟩;refine cM (λm B D N=>∃(out next:List Nat) (w:Nat->Int) (bO:z) (U1:List Nat) (ao:List Int),B.g 3=some (.slice u 0 c.length c.length)/\B.g 4=some (.slice (u+1) 0 c.length c.length)/\B.g 5=some (.ptr (u+3) 0)/\B.g 10=some bO/\out.length+m=c.length/\Vh<=N/\
   kV X D N c.length u w ao (λo=>O o\/o∈U1)/\jN c out next w/\(∀k,k<c.length->w k=ip c out k)/\ao.Perm (ch next)/\et X D bO 1 (dv (ch out)) U1/\(∀o∈U1,u+4<=o/\o<N/\¬O o)/\∀o,(o<u\/O o)->H X D o=H X Ug o)
   c.length ⟨[],_,_,.ax,[],ao,af t3,af t4,af t5,aC,Zs,Zg _,UB.M (Zg _) (λ_ _ _=>rfl) (λo f=> .inl (f.resolve_right Zs)),U0,λk g=>by rw[adl];unfold dS;rw[Zv g],T2,.inl ⟨rfl,rfl,rfl⟩,Zs,λ_ _=>rfl⟩ ?_
  have UZ:∀k,k<c.length->c8 1 (.slice (u+1) 0 c.length c.length) (.Z k)=some (.ptr (u+1) k):=λk g=>wM g;have Ux:∀k,k<c.length->c8 1 (.slice u 0 c.length c.length) (.Z k)=some (.ptr u k):=λk g=>wM g;have Uy:=UB.x2;have Wy:=p.aT;clear t3 t4 t5 T6 T3 T4 B p U0 T2;rintro m B V3 Vi ⟨out,next,w,bO,U1,ao,t3,t4,t5,U3,X1,Wz,UB,UN,UF,T2,VU,UE,UC⟩;obtain⟨aW,UO,VE,US⟩:=UB.heap;obtain⟨cn,WY,W0⟩:=UO.hT;have VK:=W0.len;have Wv:=UN.HC;have Vc:ao.length=next.length:=by have:=T2.length_eq;simpa[ch]using this
  have VL:=UB.aT;refine bE @t5 @WY ⟨?_⟩;refine zS UA (Eh X) ?_;rw[Ei];unfold yy;by_cases Ua:ao=[]
  ·have Uh:decide ((0:Int)<(ao.length:Int))=false:=(by rw[Ua];rfl);have WR:next=[]:=by rw[Ua]at Vc;exact ZS Vc.symm
   subst WR;refine cg @VK @Uh @U3 ⟨?_⟩;have WZ:et X V3 bO 1 (eh (ch out)).flatten U1:=(by rw[Az];exact VU);obtain⟨Vy,WB⟩:=WZ.kG Zd (λr K=>by obtain⟨R,_,rfl⟩:=ZC.1 K;rfl) (by simp[eh,ch];omega) (P:=b2 u Vi) (λo f=>by have:=UE o f;exact⟨Zo,this.2.1⟩);exact⟨out,UN.done UF,⟨Vy,WB⟩,Zo,λo f=>by rw[UC o (.inl f)];exact UQ o f⟩
  have X7:=ZP.2 Ua;have Uh:decide ((0:Int)<(ao.length:Int))=true:=z1;cases m with|zero=>omega|succ m=>
  refine cg @VK @Uh @t5 ⟨?_⟩;refine(Ri (u:=Vi) UA UO Ua Zo).Zm ?_;rintro R T7 A ⟨aj,UJ,Vv,rfl,VQ,VA⟩;have Ww:=VA.le;obtain⟨W5,TZ⟩:=US T7 A UJ Vv VA;clear US;obtain⟨i,VF,rfl⟩:∃i∈next,aj=(i:Int):=by
   have:aj∈ch next:=T2.mem_iff.1 (VQ.symm.mem_iff.1 (Zr ..))
   obtain⟨i,UM,U4⟩:=ZC.1 this;exact⟨i,UM,U4.symm⟩
  have VP:=List.perm_cons_erase VF;have WS:UJ.Perm (ch (next.erase i)):=by have UM:(((i:Int))::UJ).Perm (ch (i::next.erase i)):=(VQ.symm.trans T2).trans (List.Perm.map _ VP);exact UM.cons_inv
  obtain⟨W2,VG⟩:=UN.pop UF VP;have UP:=UN.lK i (by simp[VF]);have has:lC 3 (.Z 0) false (.iface 3 (.Z i))=some (.Z i):=by simp[lC,cY]
  refine bE @has @U3 ⟨?_⟩;generalize TY:Go.aF.aH X T7 A _=T8;have Vz:H X T8 A=zP [.Z (i:Int)] 1:=by rw[<-TY,aM Zo]
  have Vd:∀o,o<A->H X T8 o=H X T7 o:=λo f=>by rw[<-TY,ah Zo Zo]
  clear TY;obtain⟨Uz,T5,U2,Un,Wa,VN,WG⟩:=da.append (u:=A+1) (.inl (VU.M (D:=T8) (λo f=>by have:=UE o f;rw[Vd o Zo,TZ o (.inl (.inr f))]))) Zd (hY Vz (gv _) rfl _) rfl Zd rfl (by rw[j2];simp[ch];omega) Zo (λo f=>zL (UE o f));refine d8 Un ?_;have Ve:∀o,o<A->o∉U1->H X T5 o=H X T7 o:=λo f h=>by rw[WG o Zo h,Vd o f]
  have Wb:et X T5 Uz 1 (dv (ch (out++[i]))) U2:=by rw[show dv (ch (out++[i]))=dv (ch out)++[.Z (i:Int)] by simp[dv,ch]];exact Wa
  have VO:∀o∈U2,u+4<=o/\o<A+2/\¬O o:=λo f=>by
   rcases VN o f with rfl|h
   ·exact⟨Zo,Zo,λWi=>zL (Uy _ Wi)⟩
   ·have:=UE o h;exact⟨this.1,Zo,this.2.2⟩
  have W6:kV X T5 (A+2) c.length u w UJ (λo=>O o\/o∈U2):=W5.M Zo (λo f U5=>Ve o f (λh=>U5 (.inr h))) (λo f=>by
   rcases f with h|h
   ·exact .inl (.inl h)
   ·rcases VN o h with rfl|h
    ·exact .inr ⟨Zo,Zo⟩
    ·exact .inl (.inr h))
  have Um:∀o,(o<u\/O o)->H X T5 o=H X Ug o:=λo f=>by
   have X5:o<Vh:=by
    rcases f with h|h
    ·omega
    ·exact(Uy o h).1
   have Wh:o∉U1:=λL=>by
    have:=UE o L;rcases f with h|h
    ·omega
    ·exact this.2.2 h
   rw[Ve o Zo Wh,TZ o (f.elim .inr (λh=> .inl (.inl h)))];exact UC o f
  obtain⟨c2,Wq,Wd,Uv⟩:=Wc i UP;rw[ac0]at Uv;have Uu:(eh (ch (iI c i))).length=(iI c i).length:=by simp[eh,ch]
  have VM:=Uv.len;rw[Uu]at VM;have Wt:(iI c i).length<=c.length:=n2 _ _ (ID c i) (λx Uw=>(xT.1 Uw).1);have We:ay X T5 (.ptr (u+1) i)=some c2:=zW (Um _ (.inr W8)) Wd;have Wg:=UZ i UP;refine df @t4 @Wg @We @VM ⟨?_⟩;refine cM (λt B D N=>∃(j:Nat) (next:List Nat) (w:Nat->Int) (ao:List Int),B.g 3=some (.slice u 0 c.length c.length)/\B.g 4=some (.slice (u+1) 0 c.length c.length)/\B.g 5=some (.ptr (u+3) 0)/\B.g 10=some Uz/\B.g 76=some c2/\B.g 77=some (.Z ((iI c i).length:Int))/\B.g 78=some (.Z j)/\j+t=(iI c i).length/\A+2<=N/\
   kV X D N c.length u w ao (λo=>O o\/o∈U2)/\jN c (out++[i]) next w/\(∀k,k<c.length->w k=my c out ((iI c i).take j) k)/\ao.Perm (ch next)/\∀o,(o<u\/O o\/o∈U2)->H X D o=H X T5 o)
   (iI c i).length ⟨0,_,w,UJ,af t3,af t4,af t5,aC,aC,aC,cT,Zo,Zg _,W6,W2,λk g=>by rw[Z8,ac6];exact UF k g,WS,λ_ _=>rfl⟩ ?_
  clear t3 t4 t5 U3 B;rintro t B Vs Wl ⟨j,Vj,a2,V2,t3,t4,t5,U3,Uf,UH,UI,WD,X0,VC,V9,UG,UW,UR⟩;cases t with
  |zero=>have d:=zM j (iI c i).length;rw[Zy Zo]at UG;refine cg @UI @UH @d ⟨?_⟩;refine⟨m,Zo,out++[i],Vj,a2,Uz,U2,V2,af t3,af t4,af t5,af U3,Zx,Zo,VC,V9,λk g=>by rw[UG k g];exact ac5 (UV k g).1 g VG,UW,Wb.M (λo f=>UR o (.inr (.inr f))),λo f=>by have:=VO o f;exact⟨this.1,Zo,this.2.2⟩,λo f=>by rw[UR o (f.imp id .inl)];exact Um o f⟩|succ t=>
   have d:=zN j (iI c i).length;have UK:=zQ j;obtain⟨k,T1⟩:∃w,(iI c i)[j]? =some w:=⟨_,Zb Zo⟩;obtain⟨G,WJ⟩:=xT.1 (Zl T1);have UD:k∉(iI c i).take j:=λL=>by
    obtain⟨Wj,T0⟩:=Yv L;rw[Y0]at T0;split at T0
    ·rename_i WM;have:=(za Zo (ID c i)).1 (T0.trans T1.symm);omega
    ·cases T0
   have Uq:(eh (ch (iI c i)))[j]? =some [.Z (k:Int)]:=(by rw[eh,ch,Ya,Zt,T1];rfl);have VX:=Uv.M (D:=Vs) (λo f=>by rw[UR o (.inr (.inl f))];exact Um o (.inr f));have U6:=VX.c4 j (by rw[Uu];omega);have U7:=VX.cell j _ 0 _ Uq rfl;rw[ZF]at U6;rw[ZF,ZN]at U7;have X2:a2 k=ip c out k:=(by rw[UG k G];unfold my;rw[Zi UD];omega);have X4:=IU WJ VG;have X3:ip c out k<=c.length:=(by have UM:(bR c k).length<=c.length:=n2 _ _ (UV k G).1 (UV k G).2;have U4:ip c out k<=(bR c k).length:=List.length_filter_le _ _;omega);obtain⟨UX,UY⟩:=VC.want G;obtain⟨Vt,U0,VJ,VD,WH⟩:=UY (a2 k-1);have VW:aK .sub (.Z (a2 k)) (.Z 1)=some (.Z (a2 k-1)):=ju Zo Zo;have Vb:=Ux k G;have U9:=V9.less G Zo;have Va:∀x,x<c.length->(if x=k then a2 k-1 else a2 x)=my c out ((iI c i).take (j+1)) x:=λx Uw=>by
    rw[ZD,T1,Option.toList_some, <-ac7 UD x,UG k G];by_cases e:x=k
    ·rw[Zv e,Zv e]
    ·rw[Zi e,Zi e];exact UG x Uw
   have VH:∀o,(o<u\/O o\/o∈U2)->H X Vt o=H X T5 o:=λo f=>by
    rw[WH o (λe=>by
     rcases f with h|h|h
     ·omega
     ·exact(Uy o h).2.1 e
     ·have:=VO o h;omega)]
    exact UR o f
   by_cases Up:a2 k=1
   ·have T9:decide (a2 k-1=0)=true:=(by simp[Up]);rw[Zv Up]at U9;obtain⟨Wo,W3,WA,WK⟩:=VD.heap;have WC:=U9.HC;have X6:V2.length=Vj.length:=(by have:=UW.length_eq;simpa[ch]using this);refine cu @UI @UH @Uf @t3 @d @U6 (Za @U7 (Za @Vb (Za @UX (Za @VW (Za @U0 (Za @VJ (Za @T9 @t5))))))) ⟨?_⟩;refine(Ge (u:=Wl) UA W3 Zo WA (by simp at WC;omega) (k:Int)).Zm ?_;rintro R Vu Wm ⟨rfl,Vr,Vx,WU,VB⟩;obtain⟨W7,WI⟩:=WK Vu Wm Vr Vx VB;have Wx:=VB.le;refine bE @UI @UK ⟨?_⟩;refine⟨t,Zo,j+1,_,_,Vr,af t3,af t4,af t5,af U3,af Uf,af UH,aC,Zo,Zo,W7,U9,Va, ?_,λo f=> ?_⟩
    ·refine WU.trans ?_;rw[ch,ZU];exact List.Perm.append_right _ UW
    ·rw[WI o (by
      rcases f with h|h
      ·exact .inr h
      ·exact .inl h)]
     exact VH o f
   ·have T9:decide (a2 k-1=0)=false:=z2;rw[Zi Up]at U9;refine cu @UI @UH @Uf @t3 @d @U6 (Za @U7 (Za @Vb (Za @UX (Za @VW (Za @U0 (Za @VJ (Za @T9 (Za @UI @UK)))))))) ⟨?_⟩;exact⟨t,Zo,j+1,_,_,V2,af t3,af t4,af t5,af U3,af Uf,af UH,aC,Zo,Zo,VD,U9,Va,UW,VH⟩
end
section
variable{aQ:Type}[DecidableEq aQ]{em:aQ->z}{dY:Nat}
def ft(em:aQ->z)(e:aQ×z×Nat):z×z×Nat:=(em e.1,e.2.1,e.2.2)
structure tE(X:bi)(em:aQ->z)(dY:Nat):Prop where
 ok:∀k,hj X 20 dY (em k)=true
 eq:∀q a b,gn X q 20 dY (em a) (em b)=some (decide (a=b))
 same:∀k,hS 20 (em k) (em k)=true
def PX{α cr:Type}(f:α->cr):∀(l:List α) (i:Nat),(l.eraseIdx i).map f=(l.map f).eraseIdx i:=by intro l;induction l with|nil=>intro i;rfl|cons a l U=>intro i;cases i with|zero=>rfl|succ i=>rw[List.eraseIdx_cons_succ,ZG,ZG,List.eraseIdx_cons_succ,U]
def GX{x:Nat}{l:List Nat}:gN x l=true↔x∈l:=by rw[uQ];simp
def An(w:aQ):∀(a6:List (aQ×z×Nat)) (i:Nat),eZ a6 w i=none↔∀e∈a6,e.1≠w:=by
 intro a6;induction a6 with
 |nil=>intro i;simp[eZ]|cons x a6 U=>
  intro i;simp only[eZ];split
  ·rename_i h;simp[h]
  ·rename_i h;simp[h,U]
def GH{a6:List (aQ×z×Nat)}(b:(a6.map λe=>e.1).Nodup){e:aQ×z×Nat}(a:e∈a6):fN a6 e.1=some e.2.1:=by
 induction a6 with
 |nil=>cases a|cons x a6 U=>
  rw[m8];rw[ZG,YC]at b;rcases Zq.1 a with rfl|a
  ·simp
  ·have:¬x.1=e.1:=λh=>b.1 (h▸YU a)
   rw[Zi this];exact U b.2 a
def A3{a6:List (aQ×z×Nat)}{w:aQ}{v:z}(h:fN a6 w=some v):∃e∈a6,e.1=w/\e.2.1=v:=by
 induction a6 with
 |nil=>cases h|cons x a6 U=>
  rw[m8]at h;split at h
  ·rename_i c;cases h;exact⟨x,Zr ..,c,rfl⟩
  ·obtain⟨e,b,a⟩:=U h;exact⟨e,Zw _ b,a⟩
def SE{a6:List (aQ×z×Nat)}{w:aQ}:fN a6 w=none↔∀e∈a6,e.1≠w:=by unfold fN;rw[Option.map_eq_none_iff,An]
def Qh(w:aQ):∀(a6:List (aQ×z×Nat)) (j:Nat) (v:z),(a6.map λe=>e.1).Nodup->eZ a6 w 0=some (j,v)->a6.eraseIdx j=a6.filter λe=>decide (e.1≠w):=by
 intro a6;induction a6 with
 |nil=>intro j v _ h;cases h|cons x a6 U=>
  intro j v a h;rw[ZG,YC]at a;simp only[eZ]at h;split at h
  ·rename_i e;simp at h;obtain⟨rfl,rfl⟩:=h;rw[List.eraseIdx_cons_zero,YM,Zi (by simp[e])];symm;rw[List.filter_eq_self];intro o d;simp only[Zf];intro c;exact a.1 (ZC.2 ⟨o,d,c.trans e.symm⟩)
  ·rename_i e;rw[wv]at h;cases b:eZ a6 w 0 with|none=>rw[b]at h;cases h|some p=>rw[b]at h;simp at h;obtain⟨rfl,rfl⟩:=h;rw[List.eraseIdx_cons_succ,YM,Zv (by simp[e]),U p.1 p.2 a.2 b]
def P9{a6:List (aQ×z×Nat)}{w:aQ}(h:eZ a6 w 0=none):(a6.filter λe=>decide (e.1≠w))=a6:=by rw[List.filter_eq_self];intro e a;simpa using (An w a6 0).1 h e a
variable{X:bi}{q D au am:E S}{u Z ap aw:Nat}
def ui(a:tE X em dY)(w:aQ):∀(a6:List (aQ×z×Nat)) (i:Nat),findKey X q dY (em w) (a6.map (ft em)) i=some (eZ a6 w i):=by
 intro a6;induction a6 with
 |nil=>intro i;rfl|cons x a6 U=>
  intro i;simp only[ZG,ft,findKey,a.eq,eZ];by_cases h:w=x.1
  ·have:x.1=w:=h.symm
   simp[this]
  ·have:¬x.1=w:=λe=>h e.symm
   simp only[h,this,Yo,ZJ];exact U (i+1)
structure hh(X:bi)(em:aQ->z)(q:E S)(r:Nat)(a6:List (aQ×z×Nat))(bz:Nat):Prop where
 at_:H X q r=some (.map (a6.map (ft em)) bz)
 keys:(a6.map λe=>e.1).Nodup
 born:(a6.map λe=>e.2.2).Nodup
 he:∀e∈a6,e.2.2<bz
variable{r bz:Nat}{a6:List (aQ×z×Nat)}
def hh.M(h:hh X em q r a6 bz)(k:H X D r=H X q r):hh X em D r a6 bz:=⟨by rw[k];exact h.at_,h.keys,h.born,h.he⟩
def hh.new(h:H X q r=some (.map [] 0)):hh X em q r ([]:List (aQ×z×Nat)) 0:=⟨h,List.nodup_nil,List.nodup_nil,λe h=>by cases h⟩
def hh.look(a:tE X em dY)(h:hh X em q r a6 bz)(aj:z)(w:aQ)(ok:Bool):fb X q dY aj (.map r) (em w) ok=some (match fN a6 w with|some v=>ba ok (.tuple [v,.zV]) v|none=>ba ok (.tuple [aj,.zT]) aj):=by have b:=h.at_;simp only[fb,b,a.ok,cI,ui a];unfold fN;cases eZ a6 w 0<;>rfl
def hh.set(g:tE X em dY)(K:(y X).aB<=r)(h:hh X em q r a6 bz)(w:aQ)(v:z):
 ∃D n nI,ib X q u dY (.map r) (em w) v=some (.cJ aF.undef D u)/\hh X em D r n nI/\(∀x,fN n x=if x=w then some v else fN a6 x)/\(fN a6 w=none->n.length=a6.length+1)/\∀o,o≠r->H X D o=H X q o:=by
 obtain⟨C,G,W,m⟩:=h;have ai:eB X r=true:=de K;cases d:eZ a6 w 0 with
 |none=>
  refine⟨Go.aF.aH X q r (some (.map ((a6++[(w,v,bz)]).map (ft em)) (bz+1))),a6++[(w,v,bz)],bz+1, ?_,⟨aM K, ?_, ?_, ?_⟩,λx=> ?_,λ_=>Zs,λo A=>ah K A⟩
  ·simp only[ib,C,g.ok,cI,ui g,d,aF.setObj,ai,cI,du];rw[ZU];rfl
  ·rw[ZU,YB];refine⟨G,Zs,λa s b k=> ?_⟩;obtain⟨e,c,rfl⟩:=ZC.1 s;simp at k;rw[k];exact(An w a6 0).1 d e c
  ·rw[ZU,YB];refine⟨W,Zs,λa s b k=> ?_⟩;obtain⟨e,c,rfl⟩:=ZC.1 s;simp at k;rw[k];have:=m e c;omega
  ·intro e c;rcases Zp.1 c with c|c
   ·have:=m e c;omega
   ·simp at c;subst c;simp
  ·exact A4 _ _ _ _ _ (by unfold fN;rw[d];rfl)
 |some p=>
  obtain⟨j,v0⟩:=p;obtain⟨born,l⟩:=Ao w a6 j v0 d;have O:(a6.map (ft em))[j]? =some (em w,v0,born):=by rw[Zt,l];rfl
  have N:=(Ze.1 l).1;have L:∀{α:Type}(f:aQ×z×Nat->α),f (w,v,born)=f (w,v0,born)->(a6.set j (w,v,born)).map f=a6.map f:=by
   intro α f d;rw[List.map_set,d]
   have:(a6.map f)[j]? =some (f (w,v0,born)):=by rw[Zt,l];rfl
   apply Y7;intro i;rw[Y9];split
   ·rename_i h;subst h;rw[this];simp[N]
   ·rfl
  refine⟨Go.aF.aH X q r (some (.map ((a6.set j (w,v,born)).map (ft em)) bz)),a6.set j (w,v,born),bz, ?_,⟨aM K,by rw[L _ rfl];exact G,by rw[L _ rfl];exact W,λe c=> ?_⟩,λx=>A5 w x v a6 j v0 born d,λt=> ?_,λo A=>ah K A⟩
  ·simp only[ib,C,g.ok,cI,ui g,d,jz,O,g.same,aF.setObj,ai,cI,du];rw[List.map_set];rfl
  ·rcases List.mem_or_eq_of_mem_set c with c|c
   ·exact m e c
   ·rw[c];exact m (w,v0,born) (Zl l)
  ·unfold fN at t;rw[d]at t;cases t
def hh.del(a:tE X em dY){mt m:Nat}(i:(y X).P.underlying mt=some (.map dY m))(bM:List Nat)(K:(y X).aB<=r)(h:hh X em q r a6 bz)(w:aQ):
 ∃D,k7 X q u .delete (mt::bM) [.map r,em w]=some (.cJ (.tuple []) D u)/\hh X em D r (a6.filter λe=>decide (e.1≠w)) bz/\∀o,o≠r->H X D o=H X q o:=by
 obtain⟨f,g,W,k⟩:=h;have ai:eB X r=true:=de K;have d:(a6.filter λe=>decide (e.1≠w)).Sublist a6:=List.filter_sublist;refine⟨Go.aF.aH X q r (some (.map ((a6.filter λe=>decide (e.1≠w)).map (ft em)) bz)), ?_,⟨aM K,(d.map _).nodup g,(d.map _).nodup W,λe c=>k e (d.mem c)⟩,λo l=>ah K l⟩;cases b:eZ a6 w 0 with|none=>rw[P9 b];simp only[k7,sj,i,f,a.ok,cI,ui a,b,aF.setObj,ai,du]|some p=>obtain⟨j,v0⟩:=p;rw[<-Qh w a6 j v0 g b];have c:(a6.eraseIdx j).map (ft em)=(a6.map (ft em)).eraseIdx j:=PX _ _ _;simp only[k7,sj,i,f,a.ok,cI,ui a,b,aF.setObj,ai,du,c]
def acW(seen:List Nat):∀a6:List (aQ×z×Nat),fl seen (a6.map (ft em))=(a6.filter λe=> !gN e.2.2 seen).map (ft em):=by
 intro a6;induction a6 with
 |nil=>rfl|cons e a6 U=>
  rw[ZG,YM]
  have:fl seen (ft em e::a6.map (ft em))=ba (gN e.2.2 seen) (fl seen (a6.map (ft em))) (ft em e::fl seen (a6.map (ft em))):=rfl
  rw[this];cases h:gN e.2.2 seen with|true=>simp[U]|false=>simp[U]
def NV{a:Nat}:∀{a6:List (aQ×z×Nat)},(∀e∈a6,e.2.2<a)->nC a (a6.map (ft em))=true:=by
 intro a6;induction a6 with
 |nil=>intro _;rfl|cons e a6 U=>
  intro h;have c:=h e (Zr ..)
  have:Nat.blt (ft em e).2.2 a=true:=by simp[Nat.blt,ft];omega
  simp only[ZG,nC,this,U (λx b=>h x (Zw _ b)),ZZ]
def EN{a:Nat}{a6:List (aQ×z×Nat)}(h:∀e∈a6,e.2.2<a)(b:a6≠[]):l5 a (a6.map (ft em))=true:=by
 cases a6 with
 |nil=>exact absurd rfl b|cons e a6=>
  have c:=h e (Zr ..)
  have:Nat.blt (ft em e).2.2 a=true:=by simp[Nat.blt,ft];omega
  simp only[ZG,l5,this,Bool.true_or]
def Qr{C:al}{q:E S}{r m a bz:Nat}{seen:List Nat}:∀{l:List (z×z×Nat)}{R:z}{D:E S},(R,D)∈qx C q r m a bz seen l->∃e∈l,R=.tuple [.zV,e.1,e.2.1]/\D=aH C q r (some (.fD (some m) a (seen++[e.2.2]) bz)):=by
 intro l;induction l with
 |nil=>intro R D h;cases h|cons e l U=>
  intro R D h;obtain⟨k,v,b⟩:=e;simp only[qx,Zq,YX]at h;rcases h with ⟨rfl,rfl⟩|h
  ·exact⟨_,Zr ..,rfl,rfl⟩
  ·obtain⟨e,d,c⟩:=U h;exact⟨e,Zw _ d,c⟩
def hh.next{b:Nat}{seen:List Nat}{T:aY}(K:(y X).aB<=b)(c:hh X em q r a6 bz)(ag:H X q b=some (.fD (some r) bz seen bz))
 (x:(∀e∈a6,e.2.2∈seen)->T (.tuple [.zT]) q u)
 (p:∀e∈a6,e.2.2∉seen->T (.tuple [.zV,em e.1,e.2.1]) (Go.aF.aH X q b (some (.fD (some r) bz (seen++[e.2.2]) bz))) u):
 o5 (jt X fO false q u (fc (.ptr b 0))) q u T:=by
 have ai:eB X b=true:=de K;have f:=acW (em:=em) seen a6;have j:=NV (em:=em) c.he;have d:∀e,e∈a6.filter (λe=> !gN e.2.2 seen)↔e∈a6/\e.2.2∉seen:=by
  intro e;rw[Yp];constructor
  ·rintro⟨n,i⟩;refine⟨n,λh=> ?_⟩;rw[GX.2 h]at i;cases i
  ·rintro⟨n,i⟩;refine⟨n, ?_⟩;cases m:gN e.2.2 seen with|false=>rfl|true=>exact absurd (GX.1 m) i
 cases s:a6.filter (λe=> !gN e.2.2 seen)with
 |nil=>
  rw[s]at f d;have G:∀e∈a6,e.2.2∈seen:=λe k=>by
   by_cases h:e.2.2∈seen
   ·exact h
   ·have:=(d e).2 ⟨k,h⟩;cases this
  have A:(l5 bz (a6.map (ft em))||seen.isEmpty||(a6.map (ft em)).isEmpty)=true:=by cases a6 with|nil=>simp|cons a a6=>rw[EN c.he Zs];simp
  refine F3 (v:=.tuple [.zT]) ?_ (x G);simp only[jt,fc,ai,cI,ag,c.at_,f,List.map_nil,j,A]
 |cons e l=>rw[s]at f d;have g:=(d e).1 (Zr ..);have iD:=EN (em:=em) c.he (a6:=a6) (λh=>by rw[h]at g;cases g.1);cases l with|nil=>refine F4 (v:=.tuple [.zV,em e.1,e.2.1]) (D:=Go.aF.aH X q b (some (.fD (some r) bz (seen++[e.2.2]) bz))) (Z:=u) ?_ (p e g.1 g.2);simp only[jt,fc,ai,cI,ag,c.at_,f,ZG,List.map_nil,ft,j,iD,ZZ,aF.setObj,du]|cons w l=>have k:jt X fO false q u (fc (.ptr b 0))=some (.fork (qx X q b r bz bz seen ((e::w::l).map (ft em)))):=(by simp only[jt,fc,ai,cI,ag,c.at_,f,ZG,j,iD,ZZ]);rw[k];refine⟨⟨by simp[qx,ft],λR D L=> ?_⟩⟩;obtain⟨V,m,rfl,rfl⟩:=Qr L;obtain⟨t,C,rfl⟩:=ZC.1 m;have:=(d t).1 C;exact p t this.1 this.2
def Sc(l:List Nat)(a:Nat):uI (l++[a])=some a:=by induction l with|nil=>rfl|cons b l U=>cases l with|nil=>rfl|cons c l=>exact U
def Qc{a6:List (aQ×z×Nat)}(W:(a6.map λe=>e.2.2).Nodup){e:aQ×z×Nat}(a:e∈a6):mb e.2.2 (a6.map (ft em))=some (ft em e):=by
 induction a6 with
 |nil=>cases a|cons x a6 U=>
  rw[ZG,YC]at W;rcases Zq.1 a with rfl|a
  ·simp[mb,ft]
  ·have b:¬x.2.2=e.2.2:=λh=>W.1 (h▸YU a);rw[ZG,mb,ee,Zi (show ¬(ft em x).2.2=e.2.2 from b)];exact U W.2 a
def hh.entry{b:Nat}{seen:List Nat}(a:hh X em q r a6 bz){e:aQ×z×Nat}(c:e∈a6)(ag:H X q b=some (.fD (some r) bz (seen++[e.2.2]) bz)):sA X q (.ptr b 0)=some (.tuple [em e.1,e.2.1]):=by simp only[sA,sU,fc,ag,Sc,a.at_,Qc a.born c,ft];simp
def abd(b:(y X).aB<=u)(a:hh X em q r a6 bz):BI X q u (.map r)=some (.cJ (.ptr u 0) (Go.aF.aH X q u (some (.fD (some r) bz [] bz))) (u+1)):=by simp only[BI,a.at_,fE,de b,cI,gi,du]
def sT(X:bi):tE X (z.int .i64) 3:=by
 refine⟨λk=>by kernel_rfl,λq a b=> ?_,λk=> ?_⟩
 ·have:gn X q 20 3 (.Z a) (.Z b)=some (k9 a b):=Zk
  rw[this,uz]
 ·show(iZ .i64 .i64&&k9 k k)=true;rw[uz];simp[iZ]
end
section
variable{X:bi}{q D au am:E S}{u Z ap aw:Nat}{P aI:Nat->Prop}
def mI(X:bi)(q:E S)(aI:Nat->Prop)(c:List (List Nat))(R:z):Prop:=(R=.tuple [.ax,.zT]/\∃out,kZ c out/\out.length=c.length)\/
 ∃(d:z) (a b I:Nat) (out:List Nat),R=.tuple [d,.zV]/\kZ c out/\a<c.length/\a∉out/\jP c a a/\aI b/\c8 1 d (.Z 0)=some (.ptr b I)/\ay X q (.ptr b I)=some (.Z a)
def Rs(C:bZ X){s:z}{l:List Nat}{b:Nat}(h:cl X q P b s 1 (eh (ch l)))(x:Nat):
 aD X 45 [s,.Z (x:Int)] q u (λR D Z=>D=q/\u<=Z/\((R=.Z (-1)/\x∉l)\/∃i:Nat,R=.Z (i:Int)/\l[i]? =some x)) zX:=by
 refine Fd C (L5 ..) ?_;unfold DL;have v:(eh (ch l)).length=l.length:=by simp[eh,ch]
 have t:=h.len;have G:=h.many;rw[v]at t G;refine bo @t ⟨?_⟩;refine cM (λm B D N=>∃(j:Nat),B.g 0=some s/\B.g 1=some (.Z x)/\B.g 7=some (.Z l.length)/\B.g 8=some (.Z j)/\j+m=l.length/\D=q/\u<=N/\x∉l.take j)
  l.length ⟨0,aC,aC,aC,cT,Zo,rfl,Zg _,Zs⟩ ?_
 rintro m B am aw ⟨j,t0,t1,a,n,O,rfl,e,f⟩;cases m with
 |zero=>have d:=zM j l.length;rw[Zy Zo]at f;refine cg @n @a @d ⟨?_⟩;exact⟨rfl,e,.inl ⟨rfl,f⟩⟩|succ m=>
  have d:=zN j l.length;have A:=zQ j;obtain⟨o,k⟩:∃w,l[j]? =some w:=⟨_,Zb Zo⟩;have L:(eh (ch l))[j]? =some [.Z (o:Int)]:=by rw[eh,ch,Ya,Zt,k];rfl
  have p:=h.c4 j (by rw[v];omega);have r:=h.cell j _ 0 _ L rfl;rw[ZF]at p;rw[ZF,ZN]at r;by_cases g:x=o
  ·have c:decide ((x:Int)=(o:Int))=true:=(by simp[g]);refine cu @n @a @t0 @t1 @d @p (Za @r @c) ⟨?_⟩;exact⟨rfl,e,.inr ⟨j,rfl,by rw[g];exact k⟩⟩
  ·have c:decide ((x:Int)=(o:Int))=false:=z2;refine cu @n @a @t0 @t1 @d @p (Za @r (Za @c @A)) ⟨?_⟩;exact⟨m,Zo,j+1,af t0,af t1,af a,aC,Zo,rfl,e,by rw[ZD,k];simp[f,g]⟩
def abP{C:al}{q:E S}{s:z}{l:List Nat}{aW:List Nat}(h:et C q s 1 (dv (ch l)) aW){k x:Nat}(f:l[k]? =some x):∃g b,fw C q 1 s (some (.Z k)) none none=some g/\b∈aW/\c8 1 g (.Z 0)=some (.ptr b k)/\ay C q (.ptr b k)=some (.Z x):=by
 have r:=(Ze.1 f).1;have d:(dv (ch l)).length=l.length:=by simp[dv,ch]
 rcases h with ⟨rfl,a,rfl⟩|⟨b,b3,n,c,rfl,a,rfl,t,v,e,p⟩
 ·rw[a]at d;simp at d;omega
 ·rw[d,ZF]at a;subst a;have j:Nat.ble k l.length=true:=de Zo;have m:Nat.blt k l.length=true:=tU r;refine⟨.cq b k (l.length-k) 1,b, ?_,Zr .., ?_, ?_⟩
  ·simp[fw,ii,e,fW,ho,hV,j,m,zI]
  ·exact qL (i:=0) Zo
  ·rw[a8 e,p k,dv,ch,Ya,Zt,f];rfl
def G0(a b:Nat):jn X q .min [3,3] [.Z (a:Int),.Z (b:Int)]=some (.Z (min a b:Nat)):=by show h5 false (.Z a) [.Z (b:Int)]=_;simp only[h5,cY,la];congr 2;simp only[Zf];split<;>simp_all<;>omega
def acU:(y X).P.underlying 48=some (.map 3 3):=Zk
abbrev vH:=List (Int×z×Nat)
structure r9(X:bi)(q:E S)(r N:Nat)(a6:vH)(bz:Nat)(aQ:Nat->Prop):Prop where
 map:hh X (z.int .i64) q r a6 bz
 all:∀e∈a6,∃k:Nat,e.1=(k:Int)/\aQ k/\k<N/\e.2.1=.Z 1
 has:∀k,aQ k->k<N->∃e∈a6,e.1=(k:Int)
def r9.look{r N bz:Nat}{a6:vH}{aQ:Nat->Prop}(h:r9 X q r N a6 bz aQ)(k:Nat)(l:k<N):(aQ k/\fb X q 3 (.Z 0) (.map r) (.Z k) false=some (.Z 1))\/(¬aQ k/\fb X q 3 (.Z 0) (.map r) (.Z k) false=some (.Z 0)):=by
 have a:=h.map.look (sT X) (.Z 0) (k:Int) false;cases b:fN a6 (k:Int)with
 |none=>rw[b]at a;exact .inr ⟨λj=>by obtain⟨e,c,d⟩:=h.has k j l;exact SE.1 b e c d,a⟩|some v=>
  rw[b]at a;obtain⟨e,c,d,f⟩:=A3 b;obtain⟨m,n,g,_,i⟩:=h.all e c
  have:m=k:=Zo
  subst this;rw[i]at f;subst f;exact .inl ⟨g,a⟩
set_option maxRecDepth 100000 in
def abg(U8:bZ X){v:z}{c:List (List Nat)}(Vu:(y X).aB<=u)(aV:∀o,P o->o<u)(h:oE X q P v (c.map ch))(VY:c.length<=100000)(Uk:∀r∈c,r.Nodup/\∀k∈r,k<c.length):
 aD X 23 [v] q u (λR D Z=>mI X D (b2 u Z) c R/\aU X q u D Z) zX:=by
 refine Fd U8 (Lp ..) ?_;unfold Dq;have V9:∀k,k<c.length->∀x∈bR c k,x<c.length:=λk C=>by
  have:bR c k∈c:=by rw[q3 C];exact YY C
  exact(Uk _ this).2
 have Ui:c0 v=some (.Z c.length):=by obtain⟨_,aG,K,WA,_⟩:=id h;have:=K.len;rw[Zj,WA,Zj]at this;exact this
 refine(S1 U8 Vu aV h (λr K aj WG=> ?_)).Zm ?_
 ·obtain⟨WI,VT,rfl⟩:=ZC.1 K;obtain⟨k,C,rfl⟩:=ZC.1 WG;have:=(Uk WI VT).2 k C;rw[Zj];exact⟨Int.natCast_nonneg k,by show(k:Int)<_;omega⟩
 rintro R au ap ⟨rfl,Uz⟩;have WR:=Uz.le;refine bx ⟨?_⟩;generalize UV:Go.aF.aH X au ap _=am;have VS:H X am ap=some (.map [] 0):=by rw[<-UV,aM Zo]
 have VV:aU X au ap am (ap+1):=by rw[<-UV];exact cf
 clear UV;refine bo @Ui ⟨?_⟩;refine cM (λm B D T0=>∃(i:Nat) (a6:vH) (bz:Nat),B.g 0=some v/\B.g 4=some (.map ap)/\B.g 20=some (.Z c.length)/\B.g 21=some (.Z i)/\i+m=c.length/\ap+1<=T0/\r9 X D ap c.length a6 bz (λk=>k<i)/\∀o,o<ap->H X D o=H X am o)
  c.length ⟨0,[],0,aC,aC,aC,cT,Zo,Zg _,⟨hh.new VS,Zs,λk h=>Zo⟩,λ_ _=>rfl⟩ ?_
 rintro m B Ut VM ⟨i,a6,bz,t0,t4,UG,UH,ag,WT,p,Ud⟩;cases m with
 |succ m=>
  have d:=zN i c.length;have T9:=zQ i;obtain⟨WN,UM,VP,Vt,V0,V5,_,Vm⟩:=p.map.set (u:=VM) (sT X) Zo (i:Int) (.Z 1);refine df @UH @UG @t4 @d ⟨?_⟩;refine d8 Vt ?_;refine bE @UH @T9 ⟨?_⟩;refine⟨m,Zo,i+1,UM,VP,af t0,af t4,af UG,aC,Zo,Zo,⟨V0,λe t=> ?_,λk C T3=> ?_⟩,λo f=>by rw[Vm o Zo];exact Ud o f⟩
  ·have g:=V5 e.1;rw[GH V0.keys t]at g;by_cases Ub:e.1=(i:Int)
   ·rw[Zv Ub]at g;exact⟨i,Ub,Zo,Zo,by injection g⟩
   ·rw[Zi Ub]at g;obtain⟨VQ,Vh,n,N⟩:=A3 g.symm;obtain⟨k,O,Uy,US,VU⟩:=p.all VQ Vh;exact⟨k,by rw[<-n];exact O,Zo,US,by rw[<-N];exact VU⟩
  ·have g:=V5 (k:Int)
   have:fN UM (k:Int)≠none:=by
    rw[g];by_cases V4:(k:Int)=(i:Int)
    ·rw[Zv V4];simp
    ·rw[Zi V4];obtain⟨e,t,n⟩:=p.has k Zo T3;rw[<-n,GH p.map.keys t];simp
   cases VB:fN UM (k:Int)with
   |none=>exact absurd VB this|some w=>obtain⟨e,t,n,_⟩:=A3 VB;exact⟨e,t,n⟩
 |zero=>
 have d:=zM i c.length;have Vk:i=c.length:=Zo;subst Vk;have VI:∀o,o<u->H X Ut o=H X q o:=λo f=>by rw[Ud o Zo,VV.M o Zo];exact Uz.M o f
 refine df @UH @UG @d @t0 ⟨?_⟩;refine(acO (u:=VM) U8 Zo (λo f=>zL (aV o f)) (h.M (D:=Ut) (λo f=>VI o (aV o f)) (λ_ h=>h)) VY Uk).Zm ?_;rintro WK VO WH ⟨out,U5,⟨bd,VE⟩,UT⟩;have WS:=UT.le;have VC:(eh (ch out)).length=out.length:=by simp[eh,ch]
 have V7:=VE.len;rw[VC]at V7;have WX:=n2 _ _ U5.once U5.lK;refine bo @V7 ⟨?_⟩;refine cM (λm B D T0=>∃(j:Nat) (a6:vH) (bz:Nat),B.g 0=some v/\B.g 4=some (.map ap)/\B.g 28=some WK/\B.g 29=some (.Z out.length)/\B.g 30=some (.Z j)/\j+m=out.length/\WH<=T0/\r9 X D ap c.length a6 bz (λk=>k∉out.take j)/\∀o,o≠ap->H X D o=H X VO o)
  out.length ⟨0,a6,bz,af t0,af t4,aC,aC,cT,Zo,Zg _,⟨p.map.M (UT.M _ Zo),λe t=>by obtain⟨k,g,n,N,O⟩:=p.all e t;exact⟨k,g,Zs,N,O⟩,λk _ C=>p.has k C C⟩,λ_ _=>rfl⟩ ?_
 clear t0 t4 UG UH B p Ud;rintro m B T6 G ⟨j,a6,bz,t0,t4,t28,UI,UJ,Vl,Vv,p,Ue⟩;cases m with
 |succ m=>
  have d:=zN j out.length;have T9:=zQ j;obtain⟨x,s⟩:∃w,out[j]? =some w:=⟨_,Zb Zo⟩;have Un:(eh (ch out))[j]? =some [.Z (x:Int)]:=by rw[eh,ch,Ya,Zt,s];rfl
  have VF:=VE.M (D:=T6) (λo f=>Ue o (zL f.1));have U0:=VF.c4 j (by rw[VC];omega);have U1:=VF.cell j _ 0 _ Un rfl;rw[ZF]at U0;rw[ZF,ZN]at U1;obtain⟨UN,Vg,VX,Vn⟩:=p.map.del (u:=G) (sT X) acU [3] Zo (x:Int);refine cu @UJ @UI @t28 @t4 @d @U0 @U1 ⟨?_⟩;refine d8 Vg ?_;refine bE @UJ @T9 ⟨?_⟩;have VG:∀o,o∉out.take (j+1)↔o∉out.take j/\o≠x:=λo=>by rw[ZD,s];simp
  refine⟨m,Zo,j+1,_,bz,af t0,af t4,af t28,af UI,aC,Zo,Vv,⟨VX,λe t=> ?_,λk C T3=> ?_⟩,λo f=>by rw[Vn o f];exact Ue o f⟩
  ·obtain⟨g,n⟩:=Yp.1 t;obtain⟨k,N,O,Uy,US⟩:=p.all e g;refine⟨k,N,(VG k).2 ⟨O,λe=> ?_⟩,Uy,US⟩;subst e;simp[N]at n
  ·obtain⟨g,n⟩:=(VG k).1 C;obtain⟨e,N,O⟩:=p.has k g T3;exact⟨e,Yp.2 ⟨N,by rw[O];simp;omega⟩,O⟩
 |zero=>
 have d:=zM j out.length;rw[Zy Zo]at p;have UB:∀o,o<u->H X T6 o=H X q o:=λo f=>by rw[Ue o Zo,UT.M o Zo];exact VI o f
 have Vq:AY X T6 (.map ap)=some (.Z a6.length):=by have:=p.map.at_;simp[AY,this,hC]
 refine dF @UJ @UI @d ⟨?_⟩;refine dN ?_;refine m0 @t4 @Vq ⟨?_⟩;by_cases U7:a6=[]
 ·have UP:decide ((a6.length:Int)=0)=true:=by rw[U7];rfl
  rw[UP];refine bx ⟨?_⟩;refine⟨.inl ⟨rfl,out,U5, ?_⟩,Zo,UB⟩;have UZ:∀k,k<c.length->k∈out:=λk C=>Yg λVf=>by obtain⟨e,t,_⟩:=p.has k Vf C;rw[U7]at t;cases t
  have g:(List.range c.length).length<=out.length:=by have W5:∀x∈List.range c.length,x∈out:=λx s=>UZ x (List.mem_range.1 s);exact acw _ _ List.nodup_range W5
  rw[List.length_range]at g;omega
 have UP:decide ((a6.length:Int)=0)=false:=by have:=ZP.2 U7;simp only[Zc];omega
 rw[UP];obtain⟨b,aG,W2,WC,WD⟩:=id h;rw[Zj]at WC;refine cg @t0 @Ui @t4 ⟨?_⟩;refine d8 (abd Zo p.map) ?_;generalize UW:Go.aF.aH X T6 G _=UN;have Uw:H X UN G=some (.fD (some ap) bz [] bz):=by rw[<-UW,aM Zo]
 have VJ:∀o,o≠G->H X UN o=H X T6 o:=λo f=>by rw[<-UW,ah Zo f]
 clear UW;refine bx ⟨?_⟩;refine cM (λm B D T0=>∃(at_:Nat) (seen:List Nat),B.g 0=some v/\B.g 4=some (.map ap)/\B.g 8=some (.Z at_)/\B.g 43=some (.ptr G 0)/\G+1<=T0/\H X D G=some (.fD (some ap) bz seen bz)/\((seen=[]/\at_=c.length)\/(at_<c.length/\at_∉out))/\m=(a6.filter λe=>decide (e.2.2∉seen)).length/\∀o,o≠G->H X D o=H X T6 o)
  (a6.filter λe=>decide (e.2.2∉[])).length ⟨c.length,[],af t0,af t4,aC,aC,Zg _,Uw,.inl ⟨rfl,rfl⟩,rfl,VJ⟩ ?_
 clear t0 t4 t28 UI UJ B Uw VJ;rintro m B T7 TY ⟨at_,seen,t0,t4,L,UK,Vw,Vj,Ua,Vr,U3⟩;have UU:r9 X T7 ap c.length a6 bz (λk=>k∉out):=⟨p.map.M (U3 _ Zo),p.all,p.has⟩;refine bo @UK ⟨?_⟩;refine UU.map.next Zo Vj (λUZ=> ?_) (λe t Vz=> ?_)
 ·
  have V1:at_<c.length/\at_∉out:=by
   rcases Ua with ⟨g,_⟩|g
   ·obtain⟨e,t⟩:=List.exists_mem_of_ne_nil a6 U7;have:=UZ e t;rw[g]at this;cases this
   ·exact g
  have WB:∀D,(∀o,o<TY->H X D o=H X T7 o)->cl X D P b v 1 (aG.map λv=>[v]):=λD C=>W2.M λo f=>by have:=aV o f;rw[C o Zo,U3 o Zo];exact UB o this
  refine bx ⟨?_⟩;refine cM (λm B D T0=>∃(path:List Nat) (at_:Nat) (Ur:z) (Uq:List Nat),B.g 0=some v/\B.g 4=some (.map ap)/\B.g 8=some (.Z at_)/\B.g 10=some Ur/\path.length+m=c.length/\TY<=T0/\et X D Ur 1 (dv (ch path)) Uq/\(∀o∈Uq,TY<=o/\o<T0)/\(∀o,o<TY->H X D o=H X T7 o)/\
   (path++[at_]).Nodup/\(∀x∈path++[at_],x<c.length/\x∉out)/\ow c (path++[at_]))
   c.length ⟨[],at_,.ax,[],af t0,af t4,af L,aC,Zs,Zg _,.inl ⟨rfl,rfl,rfl⟩,Zs,λ_ _=>rfl,Zs,by simpa using V1,λi a b g n=>by simp at n⟩ ?_
  clear t0 t4 L UK B Ua V1;rintro Up B T2 TZ ⟨path,l,Ur,Uq,t0,t4,L,T4,WY,WU,W7,U9,Vo,VA,Um,V2⟩;have W0:=n2 _ _ VA (λx s=>(Um x s).1);simp only[ZH,ZI,ZT]at W0;cases Up with|zero=>omega|succ Up=>
  obtain⟨U2,Va⟩:=Um l Zs;refine bE @T4 @L ⟨?_⟩;generalize UY:Go.aF.aH X T2 TZ _=UO;have VR:H X UO TZ=zP [.Z (l:Int)] 1:=by rw[<-UY,aM Zo]
  have VL:∀o,o<TZ->H X UO o=H X T2 o:=λo f=>by rw[<-UY,ah Zo Zo]
  clear UY;obtain⟨UE,T8,UD,Vb,W8,W1,Vp⟩:=da.append (u:=TZ+1) (.inl (W7.M (D:=UO) (λo f=>VL o (U9 o f).2))) Zd (hY VR (gv _) rfl _) rfl Zd rfl (by rw[j2];simp[ch];omega) Zo (λo f=>zL (U9 o f));refine d8 Vb ?_;have U4:∀o,o<TY->H X T8 o=H X T7 o:=λo f=>by rw[Vp o Zo (λh=>zL (U9 o h)),VL o Zo];exact Vo o f
  have Uo:et X T8 UE 1 (dv (ch (path++[l]))) UD:=by rw[show dv (ch (path++[l]))=dv (ch path)++[.Z (l:Int)] by simp[dv,ch]];exact W8
  have Ul:∀o∈UD,TY<=o/\o<TZ+2:=λo f=>by
   rcases W1 o f with rfl|h
   ·omega
   ·have:=U9 o h;omega
  obtain⟨VN,VH⟩:∃w,aG[l]? =some w:=⟨_,Zb Zo⟩;obtain⟨WL,WM,_⟩:=(WB T8 U4).one VH;have Vx:(c.map ch)[l]? =some (ch (bR c l)):=by rw[Zt,Zb U2,q3 U2];rfl
  obtain⟨WP,W4⟩:=WD l VN _ VH Vx;have UA:=W4.M (D:=T8) (λo f=>by have:=aV o f;rw[U4 o Zo,U3 o Zo];exact UB o this);have VD:(eh (ch (bR c l))).length=(bR c l).length:=by simp[eh,ch]
  have V6:=UA.len;have Vs:=UA.many;rw[VD]at V6 Vs;have VW:r9 X T8 ap c.length a6 bz (λk=>k∉out):=⟨UU.map.M (U4 _ Zo),p.all,p.has⟩;refine eg @t0 @Ui @L @WL @WM @V6 ⟨?_⟩;refine cM (λm B D T0=>∃(j A:Nat),B.g 0=some v/\B.g 4=some (.map ap)/\B.g 8=some (.Z l)/\B.g 10=some UE/\B.g 11=some (.Z A)/\B.g 60=some VN/\B.g 61=some (.Z ((bR c l).length:Int))/\B.g 62=some (.Z j)/\j+m=(bR c l).length/\D=T8/\TZ+2<=T0/\
   ((A=c.length/\∀k∈(bR c l).take j,k∈out)\/(A∈bR c l/\A∉out)))
   (bR c l).length ⟨0,c.length,af t0,af t4,af L,aC,aC,aC,aC,cT,Zo,rfl,Zg _,.inl ⟨rfl,Zs⟩⟩ ?_
  clear t0 t4 L T4 B;rintro UC B Uu bv ⟨j,A,t0,t4,L,T4,UF,UL,U6,Us,Vl,rfl,WV,T1⟩;cases UC with
  |succ UC=>
   have d:=zN j (bR c l).length;have T9:=zQ j;obtain⟨k,Uf⟩:∃w,(bR c l)[j]? =some w:=⟨_,Zb Zo⟩;have Ug:=Zl Uf;have T3:=V9 l U2 k Ug;have Un:(eh (ch (bR c l)))[j]? =some [.Z (k:Int)]:=(by rw[eh,ch,Ya,Zt,Uf];rfl);have U0:=UA.c4 j (by rw[VD];omega);have U1:=UA.cell j _ 0 _ Un rfl;rw[ZF]at U0;rw[ZF,ZN]at U1;rcases VW.look k T3 with ⟨T5,Uh⟩|⟨T5,Uh⟩
   ·have UQ:decide ((0:Int)<1)=true:=rfl;have Uj:=G0 (X:=X) (q:=Uu) A k;refine cu @Us @U6 @UL @t4 @d @U0 (Za @U1 (Za @Uh (Za @UQ (Za @UF (Za @Uj @T9))))) ⟨?_⟩;refine⟨UC,Zo,j+1,min A k,af t0,af t4,af L,af T4,aC,af UL,af U6,aC,Zo,rfl,Zo,.inr ?_⟩;rcases T1 with ⟨g,_⟩|g
    ·rw[g,Nat.min_eq_right Zo];exact⟨Ug,T5⟩
    ·rcases Nat.le_total A k with n|n
     ·rw[Nat.min_eq_left n];exact g
     ·rw[Nat.min_eq_right n];exact⟨Ug,T5⟩
   ·have UQ:decide ((0:Int)<0)=false:=rfl;refine cu @Us @U6 @UL @t4 @d @U0 (Za @U1 (Za @Uh (Za @UQ @T9))) ⟨?_⟩;refine⟨UC,Zo,j+1,A,af t0,af t4,af L,af T4,af UF,af UL,af U6,aC,Zo,rfl,Zo,T1.imp (λ⟨g,n⟩=>⟨g,λx s=> ?_⟩) id⟩;rw[ZD,Uf]at s;rcases Zp.1 s with s|s
    ·exact n x s
    ·simp at s;subst s;exact Yg T5
  |zero=>
   have d:=zM j (bR c l).length;have T1:A∈bR c l/\A∉out:=by
    rcases T1 with ⟨_,n⟩|g
    ·rw[Zy Zo]at n;obtain⟨k,N,O⟩:=U5.G3 l U2 Va;exact absurd (n k N) O
    ·exact g
   have V8:=V9 l U2 A T1.1;have W9:et X Uu UE 1 (eh (ch (path++[l]))).flatten UD:=(by rw[Az];exact Uo);obtain⟨an,Vd⟩:=W9.kG Zd (λr K=>by obtain⟨R,_,rfl⟩:=ZC.1 K;rfl) (by simp[eh,ch];omega) (P:=b2 u bv) (λo f=>by have:=Ul o f;exact⟨Zo,Zo⟩);refine dA @Us @U6 @d @T4 @UF ⟨?_⟩;refine(Rs (u:=bv) U8 Vd A).Zm ?_;rintro R WO w9 ⟨rfl,WW,W3⟩;rcases W3 with ⟨rfl,Vy⟩|⟨i,rfl,V3⟩
   ·have UR:decide ((0:Int)<= -1)=false:=rfl;refine bE @UR @UF ⟨?_⟩;refine⟨Up,Zo,path++[l],A,UE,UD,af t0,af t4,aC,af T4,Zx,Zo,Uo,λo f=>zL (Ul o f),U4, ?_,λx s=> ?_,V2.snoc T1.1⟩
    ·rw[YB];exact⟨VA,Zs,λa VZ b Vc e=>by rw[ZB.1 Vc]at e;subst e;exact Vy VZ⟩
    ·rcases Zp.1 s with s|s
     ·exact Um x s
     ·rw[ZB.1 s];exact⟨V8,T1.2⟩
   ·have UR:decide ((0:Int)<=(i:Int))=true:=(by simp);obtain⟨WJ,Uv,W6,Ve,WE,WF⟩:=abP Uo V3;refine cg @UR @T4 @W6 ⟨?_⟩;have WQ:=Ul Uv Ve;exact⟨.inr ⟨WJ,A,Uv,i,out,rfl,U5,V8,T1.2,V2.round T1.1 V3,⟨Zo,Zo⟩,WE,WF⟩,Zo,λo f=>by rw[U4 o Zo,U3 o Zo];exact UB o f⟩
 ·obtain⟨k,Vi,T5,T3,_⟩:=p.all e t;refine h8 ⟨?_⟩;generalize UX:Go.aF.aH X T7 G _=T2;have Ux:H X T2 G=some (.fD (some ap) bz (seen++[e.2.2]) bz):=by rw[<-UX,aM Zo]
  have VK:∀o,o≠G->H X T2 o=H X T7 o:=λo f=>by rw[<-UX,ah Zo f]
  clear UX;have Uc:=(UU.map.M (D:=T2) (VK _ Zo)).entry t Ux;have Uj:=G0 (X:=X) (q:=T2) at_ k;have Uc:sA X T2 (.ptr G 0)=some (.tuple [.Z (k:Int),e.2.1]):=by rw[Uc,Vi]
  refine df @UK @Uc @L @Uj ⟨?_⟩;refine⟨_, ?_,min at_ k,seen++[e.2.2],af t0,af t4,aC,af UK,Vw,Ux,.inr ?_,rfl,λo f=>by rw[VK o f];exact U3 o f⟩
  ·rw[Vr];have g:(a6.filter λx=>decide (x.2.2∉seen++[e.2.2]))=(a6.filter λx=>decide (x.2.2∉seen)).filter λx=>decide (x.2.2≠e.2.2):=(by rw[List.filter_filter];congr 1;funext x;simp[Bool.and_comm]);rw[g];exact List.length_filter_lt_length_iff_exists.2 ⟨e,Yp.2 ⟨t,by simpa using Vz⟩,Zs⟩
  ·rcases Ua with ⟨_,g⟩|g
   ·rw[g,Nat.min_eq_right Zo];exact⟨T3,T5⟩
   ·rcases Nat.le_total at_ k with n|n
    ·rw[Nat.min_eq_left n];exact g
    ·rw[Nat.min_eq_right n];exact⟨T3,T5⟩
variable{dT:E S}{s:aA}
def vi(c:E z)(a b:z):(cj c 0 [a,b]).get 0=some a:=by rw[fR];simp
def vj(c:E z)(a b:z):(cj c 0 [a,b]).get 1=some b:=by rw[fR];simp
set_option maxRecDepth 100000 in
def OI(x:e5 X)(UN:g2 X)(UP:kl X)(UR:mE X){P:Nat->Prop}{Y:List GT}{v:z}(UX:(y X).aB<=u)(T5:iP X q P Y v)(aV:∀o,P o->o<u)(Ub:∀g∈Y,hN gm g)(UM:Y≠[])(U7:jw Y=none):
 aD X 29 [v] q u (λR D Z=>R=.agg [.Z (l7 Y).1,.Z (l7 Y).2]/\aU X q u D Z) zX:=by
 refine Fd x.tobZ (Lz ..) ?_;unfold Dv;obtain⟨Un,UV⟩:=wY U7;refine k0 ?_;generalize T3:aH X q u _=au;have U0:∃c,H X au u=some (.cells c 2 .own):=⟨_,by rw[<-T3,aM UX];rfl⟩;have U1:aU X q u au (u+1):=by rw[<-T3];exact cf
 clear T3;have Ud:∀o,P o->H X au o=H X q o:=λo a=>U1.M o (aV o a);refine(Qt (u:=u+1) (q:=au) x UN UP UR Zo (T5.M (aI:=P) Ud (λ_ h=>h)) (λo a=>zL (aV o a)) Ub UM U7).Zm ?_;rintro R am aw ⟨rfl,T1⟩;have Uo:=T1.le;rw[<-T1.M _ Zo]at U0;have U2:=U1.trans T1;obtain⟨b,aE,bC,aR,rfl,W,a0,T7,UA⟩:=id T5;have UC:=UA.wide;have U8:=T7.len;rw[UC.1]at U8;have US:=aV b W;have aj:decide ((0:Int)≠0)=false:=rfl;rw[<-U2.dn _ _ US]at a0;refine cg @aj @a0 @U8 ⟨?_⟩;refine cM (λm B D UE=>∃(j:Nat),B.g 0=some (.ptr b 0)/\B.g 2=some (.ptr u 0)/\B.g 13=some aE/\B.g 14=some (.Z Y.length)/\B.g 15=some (.Z j)/\j+m=Y.length/\aU X q u D UE/\u<UE/\(∃c,H X D u=some (.cells c 2 .own))/\l7 Y=mR Y j (Y.drop j))
  Y.length ⟨0,aC,aC,aC,aC,cT,Zo,U2,Zo,U0,rfl⟩ ?_
 rintro m B TY f ⟨j,t0,T9,UF,T8,N,Um,t,Us,⟨UG,p⟩,i⟩;have Up:=t.le;cases m with
 |zero=>have d:=zM j Y.length;rw[ZM Zo]at i;refine eg @N @T8 @T9 @d @vi @vj ⟨?_⟩;refine⟨by rw[i];rfl, ?_⟩;exact⟨Zo,λo a=>by rw[ah Zo Zo];exact t.M o a⟩|succ m=>
  have d:=zN j Y.length;have UH:=zQ j;obtain⟨g,G⟩:=zO Y j;have UT:=Zl G;have ai:Y.drop j=g::Y.drop (j+1):=by obtain⟨Uc,a⟩:=Ze.1 G;rw[Zz Uc,a]
  rw[ai,mR]at i;obtain⟨row,UZ,T6⟩:=UA.get j g G;have Ue:∀o,P o->H X TY o=H X q o:=λo a=>t.M o (aV o a);have UU:=T7.c4 j (by rw[UC.1];omega);have Ua:=(T7.M Ue).row Zd UZ;have e1:=T6.dU;have UY:=T6;obtain⟨bK,bO,Uk,Uj,bc,bp,bG,Ul,Uv,rfl,_⟩:=T6;refine eg @N @T8 @UF @d @UU @Ua ⟨?_⟩;refine dg (eS (k:=6) (b:=f) (I:=0) (n:=6) (c:=E.ofList [.str [],.Z 0,.ax,.ax,.ax,.ax] 0 .nil) (aM Zo) Zo rfl Zd Zd e1) ?_;generalize T4:aH X _ f _=r;have UJ:H X r f=zP [.str g.name,.Z g.at_,bK,bO,Uk,Uj] 6:=by rw[<-T4,aM Zo];rfl
  have UD:∀o,o<f->H X r o=H X TY o:=λo a=>by rw[<-T4];exact zR
  clear T4;have U3:aU X q u r (f+1):=⟨Zo,λo a=>by rw[UD o Zo];exact t.M o a⟩;rw[<-UD _ Zo]at p;refine bE @t0 (a8 UJ) ⟨?_⟩;refine(uY (u:=f+1) (q:=r) x.tobZ Zo (λo a=>zL (aV o a)) (UY.M (aI:=P) (λo a=>U3.M o (aV o a)) (λ_ h=>h)) (by rw[wi];have:=(UV g UT).vars;simp only[jA];omega)).Zm ?_;rintro R TZ e ⟨bI,Uf,Uw,bv,rfl,UB,U9,Uh,Ui,Ut,Uu,T2⟩;have Uq:=T2.le;have UO:aU X q u TZ e:=U3.trans (T2.gx Zo);rw[<-T2.M _ Zo]at p;refine bE @t0 @N ⟨?_⟩;generalize A:aH X _ (e+1) _=l;have UK:H X l (e+1)=zP [.ptr b 0,.Z (j:Int),.ptr bI 0,.map e,.Z 0,.Z 0] 6:=by rw[<-A,aM Zo];rfl
  have UL:H X l e=some (.map [] 0):=by rw[<-A];simp(disch:=omega) only[ah,aM]
  have w:aU X TZ e l (e+1+1):=by rw[<-A];exact cf
  clear A;have U4:aU X q u l (e+1+1):=UO.trans (w.gx Zo);rw[<-w.M _ Zo]at p;have UQ:∀o,(P o\/b2 (f+1) e o)->o<e+1+1/\o≠e+1/\o≠e:=by
   rintro o (a|a)
   ·have:=aV o a;omega
   ·have:=a.2;omega
  refine(OJ (u:=e+1+1) (q:=l) (P:=λo=>P o\/b2 (f+1) e o) (k:=j) (Y:=Y) (g:=g) (bI:=.ptr bI 0) x.tobZ Zo Zo Zo Zo Zo Zo UQ
   (T5.M (λo a=>U4.M o (aV o a)) (λ_ h=> .inl h)) G ⟨bI,Uf,rfl,.inr UB,.inr U9,by rw[w.dn _ _ (zL UB.2)];exact Uh,Ui.M (w.M _ U9.2)⟩ UK ⟨[],0,UL,λ_=>rfl⟩).Zm ?_
  rintro R s Ug ⟨rfl,C,Ur,U6⟩;have U5:aU X q u s Ug:=⟨Zo,λo a=>by rw[U6 o Zo Zo Zo];exact U4.M o a⟩;rw[<-U6 _ Zo Zo Zo]at p;have T0:ay X s (.ptr (e+1) 4)=some (.Z (gZ Y j g).1):=by unfold dE at C;rw[a8 C];rfl
  have UI:ay X s (.ptr (e+1) 5)=some (.Z (gZ Y j g).2):=by unfold dE at C;rw[a8 C];rfl
  by_cases L:(gZ Y j g).1=0
  ·have O:decide ((gZ Y j g).1≠0)=false:=(by simp[L]);rw[Zi (by simp[L])]at i;refine df @T0 @O @N @UH ⟨?_⟩;exact⟨m,Zo,j+1,af t0,af T9,af UF,af T8,aC,Zo,U5,Zo,⟨UG,p⟩,i⟩
  ·have O:decide ((gZ Y j g).1≠0)=true:=(by simp[L]);rw[Zv L]at i;have UW:ca X s 2 (.ptr (e+1) 4)=some (.agg [.Z (gZ Y j g).1,.Z (gZ Y j g).2]):=(by rw[kz,T0,UI];rfl);refine eg @T0 @O @UW @T9 @vi @vj ⟨?_⟩;refine⟨by rw[i], ?_⟩;exact⟨Zo,λo a=>by rw[ah Zo Zo];exact U5.M o a⟩
def i6(t:aA->Option cB)(w:aA):cH:=((t w).getD lV).d.ty
def lj:List cH->Bool
 |[]=>true|a::l=>(a::l).all λb=>decide (b=a)
def ts:cH:=⟨true,false,1⟩
def tY(Y:List GT)(nm:aA)(a:List cH):List cH×Bool:=
 match Y[(jr Y nm).getD 0]? with
 |none=>([],false)|some g=>(g.out.map (·.ty),decide (g.cm.map (·.ty)=a))
def gQ(Y:List GT)(t:aA->Option cB)(e:aX)(a:List cH):List cH×Bool:=
 let a0:=a.headD cd
 if e.kind=1 then([e.ty],true)
 else if e.kind=2 then([i6 t e.name],true)
 else if e.kind=3\/e.kind=5 then([a0],true)
 else if e.kind=4\/e.kind=19\/e.kind=20 then([a0], !a0.b)
 else if e.kind=6 then([a0],(i6 t e.name).b)
 else if e.kind=7\/e.kind=8\/e.kind=9\/e.kind=21\/e.kind=22 then([a0],lj a)
 else if e.kind=16\/e.kind=17\/e.kind=18 then([a0],lj a&& !a0.b)
 else if e.kind=10\/e.kind=11 then([ts],lj a)
 else if e.kind=12\/e.kind=13\/e.kind=14\/e.kind=15 then([ts],lj a&& !a0.b)
 else if e.kind=23 then([(a[1]?).getD cd],a0.b&&lj a.tail)
 else if e.kind=24 then([a0],lj a&&(i6 t e.name).b)
 else if e.kind=26 then([e.ty], !e.ty.b||a0.b)
 else tY Y e.name a
mutual
def o0(Y:List GT)(t:aA->Option cB):aX->Except Int (List cH)
 | .mk k at_ nm no ty n args=>match mN Y t args with
   | .error a=> .error a| .ok (b,one)=>if one=false then .error at_ else
     let r:=gQ Y t (.mk k at_ nm no ty n args) b
     if r.2=false then .error at_ else .ok r.1
def mN(Y:List GT)(t:aA->Option cB):List aX->Except Int (List cH×Bool)
 |[]=> .ok ([],true)|e::l=>match o0 Y t e with
  | .error a=> .error a| .ok r=>match mN Y t l with
    | .error a=> .error a| .ok (b,one)=>match r with
      |[x]=> .ok (x::b,one)|_=> .ok (b,false)
end
def v7(t:aA->Option cB)(g:GT):Option Int:=(c3 g).findSome? λx=>if x.2.on≠[]/\(i6 t x.2.on).b=false then some x.2.cC else none
def mY(Y:List GT)(t:aA->Option cB)(V:cA):Option Int:=match o0 Y t V.right with
 | .error a=>some a| .ok row=>if (1<V.left.length/\V.right.kind≠25)\/row≠V.left.map (i6 t)then some V.at_ else none
def q7(Y:List GT)(g:GT):Option Int:=match v7 (c6 g) g with
 |some a=>some a|none=>g.eqs.findSome? (mY Y (c6 g))
def vf(Y:List GT):Option Int:=Y.findSome? (q7 Y)
end
open Go.aF
section
variable (X : bi) (a : E S) (b : Nat) (T ab : aY) (a0 aL bt a3 a4 a5 fq fV f9 : z)
def tj(a:al)(b:aY):ds:=λc d e=>ig a [.cell 2 56,.cell 3 26] b c c.aP d e
def xk(a:al)(b c:aY):kY:=λd e f g=>nb a [.cell 2 56,.cell 3 26] b c d e d.aP f g
def CC:Za0:=λa b c d e f=>aa (fX [.bH] d) λg=>dQ a c d g.1 g.2 λc d g=>oh g a d λd g h=>aD a 29 [b] g h (λg h i=>vr i a h g 0 λg h i j=>aJ (λb c d=>c1 b 2 3 λg h=>t7 (.func (.func 30) [] [g,h]) [] b λb=>pN a c d λc d g=>aa (dl [.gO] [(0,1,c)]) λc=>eW a d g c λc d g=>gD b λh=>gl a d h c λc=>gg b 2 a c λd=>cN b λh=>aa (dl [.bH,.bH,.bH] [(0,1,d),(1,1,h)]) λd=>eW a c g d λc d g=>jM b a d λh=>ec h (λb c d=>gg b 2 a c λf=>tw λg=>gD b λh=>gl a c h f λc=>gC b λf=>aa (cW a c 2 f g) λc=>tj a e b c d) λi j=>cF (λb c d g=>dD c 27 26 λh=>aJ (λc d g=>fe (λa c d=>c9 a 27 λe=>b (J a 27 e) c d) c 25 27 λb h i=>og h i a d g λd g h=>hu c λi=>aa (ca a h 6 d) λj=>aD a 31 [i,j] h g (λ_ a e=>b (J c 7 d) a e) (xk a e f (eI [31,32,33] (J c 7 d)))) λa=>av h (a (J c 28 h) d g) (j (J c 28 h) d g)) (zV b 5 c 25 h 26 i 27 (.Z 0)) d g) λf=>av j (cU (h+3) λf=>aa (ca a i 2 g) λh=>aa (cW a i 1 c .bH) λi=>aa (ca a i 2 g) λk=>d3 k (some h) (aa (cW a i 2 d h) λh=>tj a e (zV (bN [b]) 2 c 3 d 4 g 12 j) h f)) (f (zV (bN [b]) 2 c 3 d 4 g 12 j) i h)) (xk a e f (eI [8,9,4] (zT (bN [b]) 2 c 3 d)))
def J7:o2 X 12 [a0] a b T ab=CC X a0 a b T ab:=Zk
def J6:bJ X 12 1=true:=Zk
def yu(a:al)(b c:z)(d:Option z)(e:E S)(f:Nat)(g:Bool->E S->Nat->Prop):Prop:=
 u6 (some d) (bN [b,c]) λb c=>aJ (λa b c=>g a.rc b c) λd=>aa (b7 a e .eql 20 true b .nilIface) λg=>aJ d λd=>av g (d (zT c 5 b 7 g) e f) (aa (lC 26 (.agg [.Z 0,.Z 0]) true b) λh=>aa (hZ 1 h) λi=>aa (hZ 0 h) λh=>aJ d λd=>av i (oh f a e λe f j=>aa (cW a f 2 e h) λf=>cU (j+3) λj=>aa (ca a f 2 e) λk=>cN c λl=>aa (cW a f 1 l .bH) λf=>aa (ca a f 2 e) λl=>d3 l (some k) (hL c λl=>aa (cW a f 2 l k) λa=>d (J (zV c 5 b 7 g 9 i 10 h) 3 e) a j)) (ms zX b e f))
def Dx(X:bi)(a0 aL:z)(f4:Option z)(a:E S)(b:Nat)(T:Bool->E S->Nat->Prop):nT X 30 [a0,aL] f4 a b T=yu X a0 aL f4 a b T:=Zk
def yv:bJ X 30 2=true:=Zk
def Dy:Za1:=λa b c d e f g=>eW a d e c λd e h=>jK a e 6 d 8 h g λe h i=>kh b 2 a h e λe=>x6 d a e λh=>aJ (λb c d=>fd b 3 5 a c λ_ e=>ec e (λ_ a b=>f (.tuple []) a b) λf h=>cF (λb c d e=>dD c 54 53 λf=>aJ (λc d e=>fe (λa c d=>c9 a 54 λe=>b (J a 54 e) c d) c 52 54 λb f h=>rV f h a d e λd e f=>cN c λh=>cS 3 d a f λ_ i=>aD a 55 [h,i] f e (λe f h=>cS 0 d a f λ_ i=>ec i (λc d e=>bu (c 11) λf=>aa (c0 f) λf=>aa (aK .gtr f (.Z 1)) λf=>wQ f (c 9) (λa=>es 3 a) d e λd e h=>cR f (ay a e d) e h λd e h=>om f d e h 0 a λd e h=>cR f (aK .neq d (.Z 25)) e h λd e h=>bT (λd=>lb d (c 10) e h λe f h=>lb d (c 11) f h λf h i=>r2 d (λb=>aD a 56 [e,f] h i b g) h i λe f h=>bT (λd=>aJ b λb=>av d (fd c 9 2 a f λ_ e=>aD a 54 [e] f h (λ_ a e=>b (J c 92 d) a e) g) (b (J c 92 d) f h)) λa=>av d (a .zV) (a e)) λa=>av f (a d) (a .zT)) λb j=>cF (λb c d e=>dD c 65 64 λf=>aJ (λc d e=>h0 (λa c d=>c9 a 65 λe=>b (J a 65 e) c d) c 63 65 a d λb f=>c1 c 11 0 λh i=>aD a 53 [i,f] d e (λd e g=>vu d g λd=>oi a e g d.1 d.2 3 h λa d e=>b (zT c 13 f 11 a) d e) g) λa=>av f (a (J c 66 f) d e) (j (J c 66 f) d e)) (zT (zV c 9 d 10 e 11 .ax 63 i) 64 b 65 (.Z 0)) f h) g) λa=>av f (a (J c 55 f) d e) (h (J c 55 f) d e)) (zU b 52 e 53 f 54 (.Z 0)) c d) λf=>cF (λb c d e=>rY c 26 3 λh=>aJ (λc d e=>fe (λa c d=>c9 a 26 λe=>b (J a 26 e) c d) c 25 26 λb f h=>aa (ky false 3 1 f h) λf=>aa (c0 f) λh=>aJ b λb=>cF (λc d e f=>dD d 31 30 λh=>aJ (λb d e=>aJ (λa b d=>c9 a 31 λe=>c (J a 31 e) b d) λc=>tu b 29 31 a d e λd e f=>cS 5 d a f λ_ h=>aa (b7 a f .neq 9 true h (.str [])) λh=>hE h (b 0) f e λe f i=>kN h 5 d f i a λf i j=>gM h (λb=>aD a 53 [e,f] i j b g) i j λe f i=>cR h (kv false 0 1 e) f i λe f i=>cR h (dX .not e) f i λe f i=>bT (λe=>aJ c λc=>av e (oo 6 d a f 54 i g λ_ a f=>c (zT b 7 d 45 e) a f) (c (zT b 7 d 45 e) f i)) λa=>av h (a e) (a .zT)) λa=>av h (a (J d 32 h) e f) (b (J d 32 h) e f)) (zV c 5 f 29 f 30 h 31 (.Z 0)) d e) λa=>av h (a (J c 27 h) d e) (f (J c 27 h) d e)) (zU (bN [b,c]) 3 d 25 h 26 (.Z 0)) e i
theorem LB:dV X 31 [a0,aL] (Dy X a0 aL):=⟨Zk,Zk⟩
def C0:Za1:=λa b c d e f g=>aD a 158 [b,c] d e (λa b c=>mA a λa=>f a b c) g
theorem KB:dV X 147 [a0,aL] (C0 X a0 aL):=⟨Zk,Zk⟩
def DS:Za1:=λa b c d e f g=>tv e a d λd e h=>dC b 2 a e λ_ b=>aD a 13 [b,c] e h (λb c e=>tt b e a c λ_ b c e=>aa (es 1 b) λb=>aa (es 2 b) λb=>f6 a e b λb=>aa (cW a e 3 d b) λb=>f6 a b d λa=>f a b c) g
theorem Mh:dV X 53 [a0,aL] (DS X a0 aL):=⟨Zk,Zk⟩
def DT:Za0:=λ_ a b c _ d=>tx 26 a λa=>ms d a b c
theorem Mj:dV X 54 [a0] (DT X a0):=⟨Zk,Zk⟩
def DU:Za1:=λa b c d e f g=>dC c 8 a d λ_ h=>ec h (λb c d=>bu (b 6) λe=>aa (dX .not e) λe=>aJ (λb c d=>c1 b 0 1 λe h=>hu b λi=>aD a 94 [e,h,i] c d (λc d e=>eG c λc h=>aa (dX .not h) λi=>aJ (λb c d=>jM b a c λe=>dC e 0 a c λ_ e=>c1 b 1 10 λg h=>ek (ib a c d 40 e g h) c d λ_ a c=>bu (b 10) λb=>f b a c) λf=>av i (hL b λj=>dC j 1 a d λ_ j=>aD a 54 [j] d e (λ_ a d=>f (zU b 10 c 11 h 49 i) a d) g) (f (zU b 10 c 11 h 49 i) d e)) g) λf=>av e (hL b λh=>dC h 1 a c λ_ h=>aD a 54 [h] c d (λ_ a c=>f (J b 35 e) a c) g) (f (J b 35 e) c d)) λf i=>cF (λb c d e=>dD c 17 16 λf=>aJ (λc d e=>h0 (λa c d=>c9 a 17 λe=>b (J a 17 e) c d) c 15 17 a d λb f=>cN c λh=>aD a 55 [h,f] d e (λd e g=>aa (c0 d) λh=>yd h λh=>aJ (λc d e=>oj c 5 9 0 a d λf _ g=>vu g e λg=>oi a d e g.1 g.2 3 f λa d e=>b (J c 5 a) d e) λa=>av h (b (zV c 8 f 9 d 26 h 6 .zT) e g) (a (zU c 8 f 9 d 26 h) e g)) g) λa=>av f (a (J c 18 f) d e) (i (J c 18 f) d e)) (zT (zV (bN [b,c]) 4 .ax 5 .ax 6 .zV 15 h) 16 f 17 (.Z 0)) d e
theorem Ml:dV X 55 [a0,aL] (DU X a0 aL):=⟨Zk,Zk⟩
def Da:Za1:=λa b c d e f g=>ec b (λ_ a b=>f (.Z (-1)) a b) λh i=>cF (λb c d e=>dD c 8 7 λh=>aJ (λc d e=>fe (λa c d=>c9 a 8 λe=>b (J a 8 e) c d) c 8 1 λb h i=>cN c λj=>aa (c8 3 j h) λj=>f6 a d j λj=>e9 a i [j] d e (λa d e=>aJ b λb=>av a (f h d e) (b (zT c 5 h 16 a) d e)) g) λa=>av h (a (J c 9 h) d e) (i (J c 9 h) d e)) (zU (bN [b,c]) 4 (.Z 0) 7 h 8 (.Z 0)) d e
theorem KT:dV X 158 [a0,aL] (Da X a0 aL):=⟨Zk,Zk⟩
def Et:Za2:=λa b c d e f g h=>dC c 0 a e λ_ i=>aJ (λb c d=>c1 b 0 1 λe f=>gD b λb=>aD a 127 [e,f,b] c d (λa b c=>eG a λa d=>g (.tuple [a,d]) b c) h) λj=>jg i 1 j λj k=>av j (gB c 4 λb=>f6 a e b λb=>e9 a (.func (.func 125) [] []) [b,.zV] e f (λa b c=>eG a λa d=>g (.tuple [a,d]) b c) h) (jg i 2 k λk l=>av k (dC c 2 a e λ_ c=>aD a 53 [b,c] e f (λb c d=>e9 a (.func (.func 125) [] []) [b,.zV] c d (λa b c=>eG a λa d=>g (.tuple [a,d]) b c) h) h) (aa (aK .eql i (.Z 3)) λm=>aJ (λb c d=>bu (b 35) λe=>aJ l λf=>av e (oj b 8 2 0 a c λb _ e=>e9 a b [e,.zV] c d (λa b c=>eG a λa d=>g (.tuple [a,d]) b c) h) (jf b 12 4 λe=>aJ (λb c d=>bu (b 45) λe=>aJ f λf=>av e (cU (d+14) λd=>oj b 8 2 0 a c λe _ f=>gD b λb=>r1 3 b λb=>cS 0 b a c λ_ b=>aa (dX .not b) λb=>e9 a e [f,b] c d (λa b c=>eG a λa d=>g (.tuple [a,d]) b c) h) (lY b 6 f λe f=>av e (cU (d+16) λd=>oj b 8 2 0 a c λe f i=>c1 b 0 1 λb j=>dC j 2 a c λ_ j=>aD a 53 [b,j] c d (λb c d=>aa (kv false 0 1 b) λb=>f6 a c f λf=>d3 f (some i) (e9 a e [i,b] c d (λa b c=>eG a λa d=>g (.tuple [a,d]) b c) h)) h) (jf b 12 7 λi=>aJ (λb c d=>bu (b 77) λe=>aJ f λf=>av e (cU (d+11) λd=>oj b 8 2 0 a c λe f i=>gD b λb=>aD a 126 [b] c d (λb c d=>f6 a c f λf=>d3 f (some i) (e9 a e [i,b] c d (λa b c=>eG a λa d=>g (.tuple [a,d]) b c) h)) h) (jf b 12 16 λe=>aJ (λb c d=>bu (b 92) λe=>aJ f λf=>av e (cU (d+18) λd=>oj b 8 2 0 a c λe f i=>gD b λj=>aD a 126 [j] c d (λc d j=>sR c (b 2) d λb d=>gc c (c8 3 b (.Z 0)) d λb d=>ye c b d a λb d=>bT (λb=>f6 a d f λc=>d3 c (some i) (e9 a e [i,b] d j (λa b c=>eG a λa d=>g (.tuple [a,d]) b c) h)) λa=>av c (a b) (a .zT)) h) (jf b 12 10 λe=>aJ (λb c d=>bu (b 112) λe=>aJ f λf=>av e (cU (d+9) λd=>bu (b 8) λe=>aa (ca a c 3 (.ptr 2 0)) λf=>gD b λb=>aD a 126 [b] c d (λb c d=>aa (ca a c 3 (.ptr 2 0)) λi=>d3 i (some f) (e9 a e [f,b] c d (λa b c=>eG a λa d=>g (.tuple [a,d]) b c) h)) h) (jf b 12 12 λe=>aJ (λb c d=>bu (b 122) λe=>aJ f λf=>av e (cU (d+16) λd=>bu (b 8) λe=>aa (ca a c 3 (.ptr 2 0)) λf=>gD b λi=>aD a 126 [i] c d (λc d i=>sR c (b 2) d λb d=>gc c (c8 3 b (.Z 0)) d λb d=>ye c b d a λb d=>bT (λb=>aa (ca a d 3 (.ptr 2 0)) λc=>d3 c (some f) (e9 a e [f,b] d i (λa b c=>eG a λa d=>g (.tuple [a,d]) b c) h)) λa=>av c (a b) (a .zT)) h) (lY b 23 f λe f=>av e (cU (d+18) λd=>oj b 8 2 1 a c λe f i=>gD b λj=>r1 3 j λj=>cS 0 j a c λ_ j=>sR j (b 2) c λb c=>gc j (fw a c 3 b (some (.Z 1)) none none) c λb c=>gM j (λe=>aD a 126 [b] c d e h) c d λb c d=>bT (λb=>f6 a c f λf=>d3 f (some i) (e9 a e [i,b] c d (λa b c=>eG a λa d=>g (.tuple [a,d]) b c) h)) λa=>av j (a b) (a .zT)) (lY b 24 f λf i=>av f (cU (d+20) λd=>oj b 8 2 0 a c λe f i=>gD b λj=>aD a 126 [j] c d (λc d j=>sR c (b 0) d λd k=>pM c b 1 k 2 a λb k=>f6 a k f λl=>d3 l (some i) (gM c (λc=>aD a 53 [d,b] k j c h) k j λb d j=>gc c (kv false 0 1 b) d λb d=>bT (λb=>f6 a d f λc=>d3 c (some i) (e9 a e [i,b] d j (λa b c=>eG a λa d=>g (.tuple [a,d]) b c) h)) λa=>av c (a b) (a .zT))) h) (lY b 26 i λi j=>av i (cU (d+22) λd=>c1 b 8 1 λe f=>gB f 4 λf=>f6 a c f λf=>hL b λi=>gB i 4 λi=>cS 0 i a c λ_ i=>aa (dX .not i) λi=>AB i (b 2) c λb c=>m5 i (c8 3 b (.Z 0)) c λb c=>m5 i (es 0 b) c λb c=>m5 i (ay a c b) c λb c=>bT (λb=>e9 a e [f,b] c d (λa b c=>eG a λa d=>g (.tuple [a,d]) b c) h) λa=>av i (a .zV) (a b)) (j (zU b 141 e 159 f 179 i) c d))))) λa=>av e (a (J b 122 e) c d) (lY b 13 a λa f=>av a (f (zT b 122 e 122 a) c d) (lY b 14 f λf g=>av f (g (zU b 122 e 122 a 122 f) c d) (jf b 12 15 λh=>g (zV b 122 e 122 a 122 f 122 h) c d))))) λa=>av e (a (J b 112 e) c d) (jf b 12 11 λf=>a (zT b 112 e 112 f) c d))) λa=>av e (a (J b 92 e) c d) (lY b 17 a λa f=>av a (f (zT b 92 e 92 a) c d) (jf b 12 18 λg=>f (zU b 92 e 92 a 92 g) c d)))) λa=>av i (a (zT b 61 e 77 i) c d) (lY b 8 a λa f=>av a (f (zU b 61 e 77 i 77 a) c d) (lY b 9 f λf g=>av f (g (zV b 61 e 77 i 77 a 77 f) c d) (lY b 21 g λg h=>av g (h (J (zV b 61 e 77 i 77 a 77 f) 77 g) c d) (jf b 12 22 λj=>h (zT (zV b 61 e 77 i 77 a 77 f) 77 g 77 j) c d))))))) λa=>av e (a (J b 45 e) c d) (lY b 19 a λa f=>av a (f (zT b 45 e 45 a) c d) (jf b 12 20 λg=>f (zU b 45 e 45 a 45 g) c d)))) λa=>av m (a (zU (zV (bN [b,c,d]) 6 .ax 7 .zT 8 (.func (.func 125) [] []) 12 i) 13 j 23 k 35 m) e f) (aa (aK .eql i (.Z 5)) λg=>a (zV (zV (bN [b,c,d]) 6 .ax 7 .zT 8 (.func (.func 125) [] []) 12 i) 13 j 23 k 35 m 35 g) e f)))
theorem Ng:dV X 94 [a0,aL,bt] (Et X a0 aL bt):=⟨Zk,Zk⟩
def CI:Za1:=λa b c d e f _=>eW a d e b λb d e=>f6 a d b λb=>vu b e λb=>dQ a d e b.1 b.2 λa b d=>f (.tuple [a,c]) b d
theorem JZ:dV X 125 [a0,aL] (CI X a0 aL):=⟨Zk,Zk⟩
def CJ:Za0:=λa b c d e f=>eW a c d b λb c d=>aa (ay a c b) λg=>aD a 147 [g,.func (.func 148) [] [b]] c d (λa b c=>aa (dX .not a) λa=>e a b c) f
theorem J1:dV X 126 [a0] (CJ X a0):=⟨Zk,Zk⟩
def CK:Za2:=λa b c d e f g h=>cU (f+14) λf=>dC b 1 a e λ_ i=>dC c 2 a e λ_ c=>aD a 89 [i,c] e f (λc e f=>eG c λc _=>dC b 1 a e λ_ b=>dC b 0 a e λ_ b=>og b c a e f λb c e=>cU (c+12) λc=>cS 3 b a e λ_ f=>cS 2 b a e λb i=>e9 a (.func (.func 149) [] []) [f] e c (λc e f=>aa (ay a e b) λb=>d3 b (some i) (e9 a (.func (.func 149) [] []) [i] e f (λb e f=>aD a 56 [b,d] e f (λa b d=>g (.tuple [c,a]) b d) h) h)) h) h
theorem J3:dV X 127 [a0,aL,bt] (CK X a0 aL bt):=⟨Zk,Zk⟩
def C1:Za1:=λa b c d e f _=>eW a d e b λb d e=>cU (e+6) λe=>f6 a d b λb=>aa (ay a d c) λc=>r1 3 c λc=>f6 a d c λc=>aa (b7 a d .neq 52 false b c) λa=>f a d e
theorem KD:dV X 148 [a0,aL] (C1 X a0 aL):=⟨Zk,Zk⟩
def C2:Za0:=λa b c d e _=>ec b (λa b c=>gC a λa=>e a b c) λe f=>cF (λb c d e=>dD c 8 7 λg=>aJ (λc d e=>aJ (λa c d=>c9 a 8 λe=>b (J a 8 e) c d) λb=>tu c 6 8 a d e λd e f=>gC c λg=>aa (es 2 d) λh=>f6 a f h λh=>vu h e λh=>oi a f e h.1 h.2 3 g λa e f=>b (zT c 5 d 3 a) e f) λa=>av g (a (J c 9 g) d e) (f (J c 9 g) d e)) (J (zV (bN [b]) 2 .ax 3 .ax 6 b 7 e) 8 (.Z 0)) c d
theorem KF:dV X 149 [a0] (C2 X a0):=⟨Zk,Zk⟩
variable{X:bi}{q D au am:E S}{u Z ap aw:Nat}{P:Nat->Prop}
def hP(X:bi)(q:E S)(P:Nat->Prop)(aE:z)(l:List cH):Prop:=∃b,cl X q P b aE 3 (l.map cP)
def hP.M{aI:Nat->Prop}{aE:z}{l:List cH}(h:hP X q P aE l)(k:∀o,P o->H X D o=H X q o)(a:∀o,P o->aI o):hP X D aI aE l:=by obtain⟨b,h⟩:=h;exact⟨b,(h.M k).lift a⟩
def F5(X:bi):List Field:=match (y X).P.underlying 52 with|some (.struct f0)=>f0.toList|_=>[]
def PA(eq:Nat->z->z->Option Bool)(a b c d e f:z):p6 X eq (F5 X) [a,b,c] [d,e,f]=(match eq 4 a d with|some true=>(match eq 4 b e with|some true=>(match eq 3 c f with|some true=>some true|some false=>some false|none=>none)|some false=>some false|none=>none)|some false=>some false|none=>none):=Zk
def Pz(a b:List z):gn X q 50 52 (.agg a) (.agg b)=p6 X (gn X q 49) (F5 X) a b:=Zk
def FG(a b:Bool):gn X q 49 4 (.bool a) (.bool b)=some (so a b):=Zk
def PM(a b:Int):gn X q 49 3 (.Z a) (.Z b)=some (k9 a b):=Zk
def E4(a b:Bool):so a b=decide (a=b):=by cases a<;>cases b<;>rfl
def PK(a b:cH):gn X q 50 52 (.agg (cP a)) (.agg (cP b))=some (decide (a=b)):=by obtain⟨aL,bt,a3⟩:=a;obtain⟨bc,bp,bG⟩:=b;simp only[cP];rw[Pz,PA,FG,FG,PM,E4,E4,uz];by_cases c:aL=bc<;>by_cases d:bt=bp<;>by_cases e:a3=bG<;>simp[c,d,e]
def Hg(a b:cH):b7 X q .neq 52 false (.agg (cP a)) (.agg (cP b))=some (.bool (!decide (a=b))):=by have h:b7 X q .neq 52 false (.agg (cP a)) (.agg (cP b))=(match gn X q 50 52 (.agg (cP a)) (.agg (cP b))with|some b=>iR (!b)|none=>none):=Zk;rw[h,PK];cases decide (a=b)<;>rfl
def uL{b I:Nat}{c:E z}{n:Nat}{st:iu}{t:cH}(W:H X q b=some (.cells c n st))(h:c.gs I 3=some (cP t)):ca X q 3 (.ptr b I)=some (.agg (cP t)):=by rw[lf,W];simp only[h,ZX]
structure nz(X:bi)(q:E S)(P:Nat->Prop)(aE:z)(l:List cH):Prop where
 len:c0 aE=some (.Z l.length)
 many:l.length<=300000
 c4:∀(i:Nat) t,l[i]? =some t->∃b I,c8 3 aE (.Z i)=some (.ptr b I)/\P b/\ca X q 3 (.ptr b I)=some (.agg (cP t))/\ay X q (.ptr b I)=some (.bool t.b)
def nz.M{aI:Nat->Prop}{aE:z}{l:List cH}(h:nz X q P aE l)(k:∀o,P o->H X D o=H X q o)(f:∀o,P o->aI o):nz X D aI aE l:=
 ⟨h.len,h.many,λi t ag=>by
  obtain⟨b,I,c,a,d,e⟩:=h.c4 i t ag;exact⟨b,I,c,f b a,by rw[lf,k b a, <-lf];exact d,zW (k b a) e⟩⟩
def hP.rd{aE:z}{l:List cH}(h:hP X q P aE l):nz X q P aE l:=by
 obtain⟨b,h⟩:=h;have a:=h.len;have c:=h.many;rw[Zj]at a c;refine⟨a,c,λi t ag=> ?_⟩;have d:=(Ze.1 ag).1;have K:(l.map cP)[i]? =some (cP t):=by rw[Zt,ag];rfl
 refine⟨b,i*3,h.c4 i (by rw[Zj];omega),h.W (λe=>by rw[e]at K;cases K),h.row Zd K, ?_⟩;exact h.cell i (cP t) 0 _ K rfl
def TU(h:bZ X){a b:cH}{l:List cH}{aE:z}{c:Nat}(r:(y X).aB<=u)(j:c<u)(k:ay X q (.ptr c 0)=some aE)(t:nz X q P aE (b::l))(aV:∀o,P o->o<u):
 aD X 148 [.agg (cP a),.ptr c 0] q u (λR D Z=>R=.bool (!decide (a=b))/\aU X q u D Z) zX:=by
 refine Fd h (KD ..) ?_;unfold C1;obtain⟨bC,I,f,i,p,_⟩:=t.c4 0 b rfl;have f:c8 3 aE (.Z 0)=some (.ptr bC I):=f;refine mQ ?_;generalize e:aH X q u _=au;have g:ca X au 3 (.ptr u 0)=some (.agg (cP a)):=by rw[<-e];exact uL (aM r) (by cases a;rfl)
 have d:aU X q u au (u+1):=by rw[<-e];exact cf
 clear e;have n:=λo (v:P o)=>d.M o (aV o v);have s:ca X au 3 (.ptr bC I)=some (.agg (cP b)):=by rw[lf,n bC i, <-lf];exact p
 have m:ay X au (.ptr c 0)=some aE:=zW (d.M c j) k;refine dA @g @m @f @s @Hg ⟨?_⟩;exact⟨rfl,d.more Zo⟩
def TV(b:cH)(l:List cH):lj (b::l)=(b::l).all (λa=>decide (a=b)):=rfl
def Rq(x:bZ X){b:cH}{l:List cH}{aE:z}{c:Nat}(U0:(y X).aB<=u)(O:c<u)(T0:ay X q (.ptr c 0)=some aE)(p:nz X q P aE (b::l))(aV:∀o,P o->o<u):
 aD X 158 [aE,.func (.func 148) [] [.ptr c 0]] q u (λR D Z=>(∃k:Int,R=.Z k/\decide (0<=k)= !lj (b::l))/\aU X q u D Z) zX:=by
 refine Fd x (KT ..) ?_;unfold Da;have T3:=p.len;have TZ:=p.many;rw[TV];generalize N:b::l=L at*;refine bo @T3 ⟨?_⟩;refine cM (λm B D T6=>∃(j:Nat),B.g 0=some aE/\B.g 1=some (.func (.func 148) [] [.ptr c 0])/\B.g 7=some (.Z L.length)/\B.g 8=some (.Z j)/\j+m=L.length/\aU X q u D T6/\L.all (λa=>decide (a=b))=(L.drop j).all (λa=>decide (a=b)))
  L.length ⟨0,aC,aC,aC,cT,Zo,aU.refl _ _,rfl⟩ ?_
 rintro m B am aw ⟨j,t0,t1,t,v,T9,f,e⟩;have TY:=f.le;cases m with
 |zero=>have d:=zM j L.length;rw[ZM Zo]at e;refine cg @v @t @d ⟨?_⟩;exact⟨⟨-1,rfl,by rw[e];rfl⟩,f⟩|succ m=>
  have d:=zN j L.length;have G:=zQ j;obtain⟨g,A⟩:=zO L j;have ai:L.drop j=g::L.drop (j+1):=by obtain⟨T5,i⟩:=Ze.1 A;rw[Zz T5,i]
  have C:=λo (i:P o)=>f.M o (aV o i);obtain⟨bC,I,T2,T8,T4,_⟩:=(p.M (aI:=P) C (λ_ h=>h)).c4 j g A;have T1:ay X am (.ptr c 0)=some aE:=zW (f.M c O) T0;rw[ai,List.all_cons]at e;refine cu @v @t @t1 @t0 @d @T2 @T4 ⟨?_⟩;refine(TU x (b:=b) (l:=l) (aE:=aE) Zo Zo T1 (by rw[N];exact p.M (aI:=P) C (λ_ h=>h)) (λo i=>zL (aV o i))).Zm ?_;rintro R T7 U1 ⟨rfl,w⟩;by_cases n:g=b
  ·have r:(!decide (g=b))=false:=(by simp[n]);have s:decide (g=b)=true:=(by simp[n]);rw[s,Bool.true_and]at e;rw[r];refine bE @v @G ⟨?_⟩;exact⟨m,Zo,j+1,af t0,af t1,af t,aC,Zo,f.trans w,e⟩
  ·have r:(!decide (g=b))=true:=(by simp[n]);have s:decide (g=b)=false:=(by simp[n]);rw[s,Bool.false_and]at e;rw[r];refine bx ⟨?_⟩;exact⟨⟨j,rfl,by rw[e];simp⟩,f.trans w⟩
def OZ(a:bZ X){b:cH}{l:List cH}{aE:z}{c:Nat}(i:(y X).aB<=u)(e:c<u)(f:ay X q (.ptr c 0)=some aE)(j:nz X q P aE (b::l))(aV:∀o,P o->o<u):
 aD X 147 [aE,.func (.func 148) [] [.ptr c 0]] q u (λR D Z=>R=.bool (!lj (b::l))/\aU X q u D Z) zX:=by
 refine Fd a (KB ..) ?_;unfold C0;refine(Rq a i e f j aV).Zm ?_;rintro R D m ⟨⟨k,rfl,g⟩,d⟩;refine bx ⟨?_⟩;exact⟨by rw[g],d⟩
def tb(f:bZ X){b:cH}{l:List cH}{aE:z}(j:(y X).aB<=u)(k:aE.cells=[aE])(m:nz X q P aE (b::l))(aV:∀o,P o->o<u):
 aD X 126 [aE] q u (λR D Z=>R=.bool (lj (b::l))/\aU X q u D Z) zX:=by
 refine Fd f (J1 ..) ?_;unfold CJ;refine mQ ?_;rw[k];generalize a:aH X q u _=au;have d:ay X au (.ptr u 0)=some aE:=by rw[<-a,a8 (aM j)];rfl
 have e:aU X q u au (u+1):=by rw[<-a];exact cf
 clear a;have i:=λo (c:P o)=>e.M o (aV o c);refine bo @d ⟨?_⟩;refine(OZ f Zo Zo d (m.M (aI:=P) i (λ_ h=>h)) (λo c=>zL (aV o c))).Zm ?_;rintro R am aw ⟨rfl,g⟩;refine bx ⟨?_⟩;exact⟨Zs,e.trans g⟩
def uZ(k:bZ X){t:aA->Option cB}{b:Nat}{bI:z}(l:(y X).aB<=u)(G:b<u)(A:ay X q (.ptr b 2)=some bI)(T0:jQ X q P bI t)(aV:∀o,P o->o<u)(w:aA):
 aD X 53 [.ptr b 0,.str w] q u (λR D Z=>R=.agg (cP (i6 t w))/\aU X q u D Z) zX:=by
 refine Fd k (Mh ..) ?_;unfold DS;refine k0 ?_;generalize g:aH X q u _=au;have m:H X au u=zP [.zT,.zT,.Z 0] 3:=by rw[<-g,aM l];rfl
 have e:aU X q u au (u+1):=by rw[<-g];exact cf
 clear g;have L:=λo (a:P o)=>e.M o (aV o a);have C:ay X au (.ptr b 2)=some bI:=zW (e.M b G) A;refine bo @C ⟨?_⟩;refine(sF k Zo (T0.M (aI:=P) L (λ_ h=>h)) (λo a=>zL (aV o a)) w).Zm ?_;rintro R am aw ⟨rfl,f⟩;have T2:=f.le;unfold i6;generalize (t w).getD lV=v at*;have T1:ik v=[.Z v.kind,.str v.d.name,.Z v.d.at_,.bool v.d.ty.b,.bool v.d.ty.s,.Z v.d.ty.w,.str v.d.on,.Z v.d.cC,.bool v.d.no,.Z v.eq,.Z v.left]:=rfl;rw[T1];have n:H X am u=zP [.zT,.zT,.Z 0] 3:=by rw[f.M _ Zo];exact m
 have r:=e.trans f;refine bx ⟨?_⟩;generalize d:aH X _ aw _=c;have p:H X c aw=zP [.Z v.kind,.str v.d.name,.Z v.d.at_,.bool v.d.ty.b,.bool v.d.ty.s,.Z v.d.ty.w,.str v.d.on,.Z v.d.cC,.bool v.d.no,.Z v.eq,.Z v.left] 11:=by rw[<-d,aM Zo];rfl
 have T3:H X c u=zP [.zT,.zT,.Z 0] 3:=by rw[<-d];simp(disch:=omega) only[ah];exact n
 have s:aU X q u c (aw+1):=⟨Zo,λo a=>by rw[<-d];simp(disch:=omega) only[ah];exact r.M o a⟩;clear d;have N:ca X c 3 (.ptr aw 3)=some (.agg (cP v.d.ty)):=uL p rfl;refine bo @N ⟨?_⟩;generalize i:aH X _ u _=j;have O:ca X j 3 (.ptr u 0)=some (.agg (cP v.d.ty)):=by rw[<-i];exact uL (aM l) rfl
 have x:aU X q u j (aw+1):=⟨Zo,λo a=>by rw[<-i];simp(disch:=omega) only[ah];exact s.M o a⟩;clear i;refine bo @O ⟨?_⟩;exact⟨rfl,x⟩
def ue(b:bZ X)(c:(y X).aB<=u)(a:Int){T:aY}:
 aD X 54 [.Z a] q u T (λR D Z=>R=iU 26 a/\aU X q u D Z):=by
 refine Fd b (Mj ..) ?_;unfold DT;refine bx ⟨?_⟩;exact⟨⟨rfl,cf⟩⟩
def jc(l:List cH):List (List z):=l.map cP
def vg(l:List cH):∀r∈jc l,r.length=3:=by intro r K;obtain⟨t,_,rfl⟩:=ZC.1 K;rfl
def Iy(l:List cH):(jc l).flatten.length=l.length*3:=by rw[mc (vg l)];simp[jc]
def TW(t:cH):dU (cP t)=true:=rfl
def B1{s:z}{l:List cH}{aW:List Nat}{t:cH}{bC:Nat}{st:iu}(h:da X q s 3 (jc l).flatten aW)(W:H X q bC=some (.cells (E.ofList (cP t) 0 .nil) 3 st))(m:l.length<=300000)(j:(y X).aB<=u)(i:∀o∈aW,o<u)(cap:Nat):
 ∃b D a,eV X q u 3 s (.slice bC 0 1 cap)=some (.cJ b D (u+1))/\da X D b 3 (jc (l++[t])).flatten a/\(∀o∈a,o=u\/o∈aW)/\∀o,o≠u->o∉aW->H X D o=H X q o:=by
 have g:=Iy l;obtain⟨b,D,a,c,d,e,f⟩:=h.append (u:=u) Zd (hY (k:=1) W (gv _) rfl cap) rfl Zd (TW t) (by rw[g];simp[cP];omega) j i;refine⟨b,D,a,c,.inl ?_,e,f⟩
 have:(jc (l++[t])).flatten=(jc l).flatten++cP t:=by simp[jc]
 rw[this];exact d
def Ix(T4:bZ X){bb:List cG}{aE:z}{b:Nat}(UA:(y X).aB<=u)(v:cl X q P b aE 8 (bb.map cQ))(aV:∀o,P o->o<u)(U9:bb.length<=100000):
 aD X 149 [aE] q u (λR D Z=>(R.cells=[R]/\hP X D (b2 u Z) R (bb.map (·.ty)))/\aU X q u D Z) zX:=by
 refine Fd T4 (KF ..) ?_;unfold C2;have C:=v.len;rw[Zj]at C;refine bo @C ⟨?_⟩;refine cM (λm B D L=>∃(j:Nat) (s:z) (aW:List Nat),B.g 3=some s/\B.g 6=some aE/\B.g 7=some (.Z bb.length)/\B.g 8=some (.Z j)/\j+m=bb.length/\aU X q u D L/\da X D s 3 (jc ((bb.take j).map (·.ty))).flatten aW/\∀o∈aW,u<=o/\o<L)
  bb.length ⟨0,.ax,[],aC,aC,aC,cT,Zo,aU.refl _ _,.inl (.inl ⟨rfl,rfl,rfl⟩),Zs⟩ ?_
 rintro m B am aw ⟨j,s,aW,t3,N,w,x,U7,f,k,c⟩;have U8:=f.le;cases m with
 |zero=>have d:=zM j bb.length;rw[Zy Zo]at k;refine df @x @w @d @t3 ⟨?_⟩;obtain⟨n,U5,U6⟩:=da.one k;obtain⟨O,T3⟩:=k.kG (P:=b2 u aw) Zd (vg _) (by simp[jc];omega) c;exact⟨⟨n,O,T3⟩,f⟩
 |succ m=>
  have d:=zN j bb.length;have n:=zQ j;obtain⟨g,A⟩:=zO bb j;have T8:=λo (a:P o)=>f.M o (aV o a);have T7:=v.c4 j (by rw[Zj];omega);have TZ:=(v.M T8).row Zd (i:=j) (r:=cQ g) (by rw[Zt,A];rfl);have U1:bb.take (j+1)=bb.take j++[g]:=by rw[ZD,A];rfl
  refine eg @x @w @N @d @T7 @TZ ⟨?_⟩;generalize p:aH X _ aw _=e;have T1:H X e aw=zP (cQ g) 8:=by rw[<-p,aM Zo];rfl
  have U2:∀o,o<aw->H X e o=H X am o:=λo a=>by rw[<-p];exact zR
  clear p;have TY:ca X e 3 (.ptr aw 2)=some (.agg (cP g.ty)):=uL T1 rfl;refine cg @t3 @TY cP.eq_1 ⟨?_⟩;generalize t:aH X e _ _=l;have T2:H X l (aw+1)=zP (cP g.ty) 3:=by rw[<-t,aM Zo];rfl
  have G:∀o,o<aw->H X l o=H X am o:=λo a=>by rw[<-t,ah Zo Zo];exact U2 o a
  clear t;obtain⟨U3,U4,T0,T5,U0,T6,T9⟩:=B1 (u:=aw+1+1) (k.M (D:=l) (λo a=>G o (c o a).2)) T2 (by rw[Zj,YI];omega) Zo (λo a=>zL (c o a)) 1;refine d8 T5 ?_;refine bE @x @n ⟨?_⟩;refine⟨m,Zo,j+1,U3,T0,aC,af N,af w,aC,Zo,⟨Zo,λo a=> ?_⟩, ?_,λo a=> ?_⟩
  ·rw[T9 o Zo (λh=>zL (c o h)),G o Zo];exact f.M o a
  ·rw[U1,ZU];exact U0
  ·rcases T6 o a with rfl|h
   ·omega
   ·have:=c o h;omega
end
section
variable (X : bi) (q : E S) (u : Nat) (T ab : aY) (a0 aL bt a3 a4 a5 fq fV f9 : z)
def DV:Za1:=λa b c d e f _=>aa (c0 b) λg=>aa (c0 c) λh=>aa (aK .neq g h) λg=>aJ (λb c d=>cN b λe=>ec e (λ_ a b=>f .zV a b) λe g=>cF (λb c d e=>dD c 13 12 λh=>aJ (λc d e=>aJ (λa c d=>c9 a 13 λe=>b (J a 13 e) c d) λb=>bu (c 13) λg=>cU (e+9) λe=>cN c λh=>aa (c8 3 h g) λh=>f6 a d h λh=>hL c λi=>aa (c8 3 i g) λi=>f6 a d i λi=>aa (b7 a d .neq 52 false h i) λa=>aJ b λb=>av a (f .zT d e) (b (zT c 5 g 24 a) d e)) λa=>av h (a (J c 14 h) d e) (g (J c 14 h) d e)) (zT b 12 e 13 (.Z 0)) c d) λa=>av g (f .zT d e) (a (zT (bN [b,c]) 4 .zT 10 g) d e)
theorem Mn:dV X 56 [a0,aL] (DV X a0 aL):=⟨Zk,Zk⟩
end
end
end Go.Proofs.YtehmapikajmjaaaGreatDoor
