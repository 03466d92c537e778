/- Part of the proof of the last text; no conditions -/
import Derived.Test.YtehmapikajmjaaaGreatDoorYk
set_option maxHeartbeats 8000000
set_option linter.all false
namespace Go.Proofs.YtehmapikajmjaaaGreatDoor
open Go.aF Go.ak
noncomputable section
def nk(s:aA)(i:Nat):Option Tok:=match s[i]? with
 |none=>none|some c=>if fa c then q9 s i else if j3 c then(if (lP s i).2 then some (lP s i).1 else none)else(mw s i).map ry
def hk(x:Tok)(i:Nat):Tok:=⟨x.kind,x.text,i,x.n,x.ty⟩
def ja(s:aA):Nat->List Tok->Nat->Option (Except Int (List Tok))
 |0,_,_=>none|n+1,az,i=>if i<s.length then match nk s i with
   |none=>some (.error i)|some x=>ja s n (az++[hk x i]) (ix s s.length (i+x.text.length))
  else some (.ok (az++[⟨7,[],i,0,cd⟩]))
def vZ(s:aA):∀(n i:Nat),i<=ix s n i:=by
 intro n;induction n with
 |zero=>intro i;exact Zg _|succ n U=>
  intro i;rw[ix];split
  ·exact Zg _
  ·split
   ·exact ZE Zo (U (i+1))
   ·split
    ·exact ZE Zo (U _)
    ·exact Zg _
def xR{s:aA}{i:Nat}{x:Tok}(h:nk s i=some x):1<=x.text.length/\i+x.text.length<=s.length:=by
 unfold nk at h;cases f:s[i]? with
 |none=>rw[f]at h;cases h|some c=>
  rw[f]at h;simp only[]at h;obtain⟨k,l⟩:=Ze.1 f;have ai:s.drop i=c::s.drop (i+1):=by rw[Zz k,l]
  have m:(s.drop i).length=s.length-i:=YH;split at h
  ·rename_i j;have b:=rG fa (s.drop i);have a:1<=((s.drop i).takeWhile fa).length:=(by rw[ai,YV,j];simp);unfold q9 at h;simp only[]at h;generalize (s.drop i).takeWhile fa=d at*;split at h
   ·cases h
   ·have e:=rG fh (s.drop (i+d.length));rw[YH]at e;split at h
    ·cases h;exact⟨a,by show i+d.length<=_;omega⟩
    ·split at h
     ·split at h
      ·cases h;refine⟨?_, ?_⟩
       ·show 1<=(d++_).length;rw[ZH];omega
       ·show i+(d++_).length<=_;rw[ZH];omega
      ·cases h
     ·cases h
  ·split at h
   ·rename_i g;have b:=rG fh (s.drop i);have a:1<=((s.drop i).takeWhile fh).length:=(by rw[ai,YV,show fh c=true from by simp[fh,g]];simp);split at h
    ·cases h;exact⟨a,by show i+((s.drop i).takeWhile fh).length<=_;omega⟩
    ·cases h
   ·simp only[Yn]at h;obtain⟨p,b,rfl⟩:=h;have a:=List.find?_some b;have e:=List.mem_of_find?_eq_some b;simp[uw]at a;refine⟨?_, ?_⟩
    ·show 1<=p.length;revert e;clear b a;revert p;decide
    ·show i+p.length<=_;omega
def cl.narrow{C:al}{q:E S}{P:Nat->Prop}{b aN:Nat}{aE:z}{aR:List (List z)}(h:cl C q P b aE aN aR):cl C q (λo=>o=b) b aE aN aR:=⟨λ_=>rfl,h.many,h.wide,h.len,h.c4,h.cell⟩
section
variable{X:bi}{q D au am:E S}{u Z ap aw dI:Nat}{s:aA}{i:Nat}
structure tD(X:bi):Prop where
 err:g2 X
 res:vG X
 sig:yn X
def EA(X:bi)(u:Nat)(r:Except Int (List Tok))(R:z)(D:E S)(Z:Nat):Prop:=match r with
 | .error a=>R=.tuple [.ax,.agg [.Z 20,.Z a]]| .ok az=>∃ac bd,R=.tuple [ac,.agg [.Z 0,.Z 0]]/\cl X D (λo=>o=bd) bd ac 7 (az.map bq)/\u<=bd/\bd<Z
def NX(L:e5 X)(U2:tD X)(Ue:s.length<=65536)(W:∀c∈s,c<256)(Uy:(y X).aB<=u){a0:z}(Uu:c0 a0=some (.Z s.length))(Ur:∀D i,aU X q u D i->oV X D a0=some (.str s))
 {r:Except Int (List Tok)}(K:ja s (s.length+1) [] (ix s s.length 0)=some r):
 aD X 18 [a0] q u (λR D Z=>EA X u r R D Z/\aU X q u D Z) zX:=by
 refine Fd L.tobZ (Lb ..) ?_;unfold Di;have Uh:decide ((65536:Int)<(s.length:Int))=false:=z2;have UW:=Ur (aH X q u (zP [.Z 0,.Z 0] [z.Z 0,.Z 0].length)) (u+1) cf;refine bE @Uu @Uh ⟨?_⟩;refine dg UW ?_;refine bx ⟨?_⟩;refine c7 (λau=>H X au u=zP [.Z 0,.Z 0] 2/\H X au (u+1)=zP [.str s,.Z ((0:Nat):Int)] 2/\aU X q u au (u+1+1)) ⟨by exact z6,by rw[aM Zo];rfl,cf⟩ ?_;rintro au ⟨UP,T3,UR⟩;have Ua:hO X au (u+1) s 0:=⟨T3,Zo,Ue,Zo⟩;refine(E1 L Ua W Zo Zo).Zm ?_;rintro R am aw ⟨l,U0⟩;have Ux:=U0.le;have UQ:H X am u=zP [.Z 0,.Z 0] 2:=by rw[U0.M _ Zo Zs];exact UP
 have T6:aU X q u am aw:=⟨Zo,λo a=>by rw[U0.M o Zo Zx];exact UR.M o a⟩;refine dN ?_;refine cM (λm B D i=>∃(aE:z) (az:List Tok) (aW:List Nat) (j:Nat),B.g 3=some (.ptr u 0)/\B.g 4=some (.ptr (u+1) 0)/\B.g 5=some aE/\H X D u=zP [.Z 0,.Z 0] 2/\hO X D (u+1) s j/\da X D aE 7 (az.map bq).flatten aW/\(∀o∈aW,u+2<=o/\o<i)/\aU X q u D i/\u+2<=i/\az.length<=j/\ja s m az j=some r)
  (s.length+1) ⟨.ax,[],[],_,aC,aC,aC,UQ,l,.inl (.inl ⟨rfl,rfl,rfl⟩),Zs,T6,Zo,Zs,K⟩ ?_
 clear K UP T3 UQ Ua l UR T6 U0 Ux UW;rintro m B am aw ⟨aE,az,aW,j,t3,t4,t5,T3,l,V2,A,T6,VL,VN,K⟩;have b8:=l.b8;have bV:=l.bV;have VI:=l.le;cases m with|zero=>cases K|succ m=>
 rw[ja]at K;have Uv:∀r∈az.map bq,r.length=7:=λr h=>by obtain⟨x,_,rfl⟩:=ZC.1 h;rfl
 have UX:=mc Uv;rw[Zj]at UX;have UO:∀(g:E S) (t b:Nat) (x:Tok),(∀o∈aW,H X g o=H X am o)->aw<=t->H X g b=zP (bq x) 7->
  ∃O e v,eV X g t 7 aE (.slice b 0 1 1)=some (.cJ O e (t+1))/\et X e O 7 ((az++[x]).map bq).flatten v/\(∀o∈v,o=t\/o∈aW)/\∀o,o≠t->o∉aW->H X e o=H X g o:=by
  intro g t b x Us UY Uo;have V5:fQ X g 7 (.slice b 0 1 1)=some (1,bq x):=hY Uo (gv _) rfl _;obtain⟨O,e,v,UA,T4,Uk,Ul⟩:=(V2.M Us).append (u:=t) Zd V5 rfl Zd rfl (by rw[UX,show(bq x).length=7 from rfl];omega) Zo (λo a=>zL (A o a));refine⟨O,e,v,UA, ?_,Uk,Ul⟩;rw[ZU,zx,ZG,List.map_nil,YA,List.flatten_nil,ZY];exact T4
 by_cases UI:j<s.length
 ·have T2:=zN j s.length;rw[Zv UI]at K;obtain⟨c,UG⟩:∃c,s[j]? =some c:=⟨_,Zb UI⟩;have UH:=pe .i64 UG;have VH:=W c (Zl UG);refine dF @t4 @b8 (Za @bV (Za @T2 @UH)) ⟨?_⟩;refine dN ?_;refine dF @t4 @b8 (Za @bV (Za @T2 @UH)) ⟨?_⟩;refine dN ?_;refine dF @t4 @b8 (Za @bV (Za @T2 @UH)) ⟨?_⟩;have rd:∀(k:Nat),(fa c=true->k=37)->(fa c=false->j3 c=true->k=39)->(fa c=false->j3 c=false->k=35)->∀U6,aw<=U6->
   aD X k [.ptr (u+1) 0] am U6 (λR D i=>(∃x,R=.tuple [.agg (bq x),.bool (nk s j).isSome]/\∀o,nk s j=some o->x=o)/\aU X am U6 D i) zX:=by
   intro k a7 bl U5 U6 VM;unfold nk;rw[UG];simp only[];cases N:fa c with
   |true=>rw[a7 N];simp only[ZL];exact TF L U2.err l W Zo Zo|false=>
    simp only[ZA,ZJ];cases T8:j3 c with
    |true=>
     rw[bl N T8];simp only[ZL];refine(adn L U2.err U2.res l W Zo Zo).Zm ?_;rintro R D i ⟨rfl,UB⟩;refine⟨⟨(lP s j).1, ?_,λo h=> ?_⟩,UB⟩
     ·cases(lP s j).2<;>rfl
     ·split at h
      ·cases h;rfl
      ·cases h
    |false=>
     rw[U5 N T8];simp only[ZA,ZJ];refine(abJ L U2.sig l Zo Zo).Zm ?_;rintro R D i ⟨rfl,UB⟩;refine⟨⟨(match mw s j with|some p=>ry p|none=>en), ?_,λo h=> ?_⟩,UB⟩
     ·cases mw s j<;>rfl
     ·cases UZ:mw s j with|none=>rw[UZ]at h;cases h|some p=>rw[UZ]at h;cases h;rfl
  refine eO (λT9 D i=>∃k,T9.g 3=some (.ptr u 0)/\T9.g 4=some (.ptr (u+1) 0)/\T9.g 5=some aE/\T9.g 6=some (.func (.func k) [.ptr (u+1) 0] [])/\D=am/\aw<=i/\(fa c=true->k=37)/\(fa c=false->j3 c=true->k=39)/\(fa c=false->j3 c=false->k=35)) (λVP UJ=> ?_) ?_
  ·refine(y9 L.tobZ c).Zm ?_;rintro R g t ⟨rfl,rfl,rfl⟩;cases N:fa c with|true=>refine bo @t4 ⟨?_⟩;exact UJ _ _ _ ⟨37,af t3,af t4,af t5,aC,rfl,Zo,λ_=>rfl,(λh=>absurd h (by simp[N])),(λh=>absurd h (by simp[N]))⟩|false=>refine bo @t4 ⟨?_⟩;refine(EZ L.tobZ c).Zm ?_;rintro R g t ⟨rfl,rfl,rfl⟩;cases T8:j3 c with|true=>refine bo @t4 ⟨?_⟩;exact UJ _ _ _ ⟨39,af t3,af t4,af t5,aC,rfl,Zo,(λh=>absurd h (by simp[N])),λ_ _=>rfl,(λ_ h=>absurd h (by simp[T8]))⟩|false=>refine bo @t4 ⟨?_⟩;exact UJ _ _ _ ⟨35,af t3,af t4,af t5,aC,rfl,Zo,(λh=>absurd h (by simp[N])),(λ_ h=>absurd h (by simp[T8])),λ_ _=>rfl⟩
  clear t3 t4 t5;rintro VG g t ⟨k,t3,t4,t5,Ug,rfl,UY,a7,bl,U5⟩;refine bo @Ug ⟨?_⟩;refine(rd k a7 bl U5 _ UY).Zm ?_;clear rd a7 bl U5 Ug;rintro R e d ⟨⟨x,rfl,V7⟩,T1⟩;have VJ:=T1.le;have U8:H X e u=zP [.Z 0,.Z 0] 2:=by rw[T1.M _ Zo];exact T3
  have Ub:=l.M (T1.M (u+1) Zo);have US:aU X q u e d:=T6.trans ⟨Zo,λo a=>T1.M o Zo⟩;have V6:bq x=[.Z x.kind,.str x.text,.Z x.at_,.int .u64 x.n,.bool x.ty.b,.bool x.ty.s,.Z x.ty.w]:=rfl;rw[V6];refine eN ⟨?_⟩;refine eN ⟨?_⟩;refine eN ⟨?_⟩;refine eN ⟨?_⟩;refine eN ⟨?_⟩;generalize T7:aH X _ d _=C;have G:∀o,o<d->H X C o=H X e o:=λo a=>by rw[<-T7];exact zR
  have Uj:H X C d=zP (bq x) 7:=by rw[<-T7,aM Zo];rfl
  have U9:=U8;rw[<-G _ Zo]at U9;have UL:=Ub.M (G (u+1) Zo);have UC:aU X q u C (d+1):=⟨Zo,λo a=>by rw[G o Zo];exact US.M o a⟩;clear T7 U8;have U7:=UL.bV;cases U4:nk s j with
  |none=>rw[U4]at K;simp only[Zh]at K;subst K;simp only[Z3];refine cg @t4 @t3 @U7 ⟨?_⟩;exact⟨rfl,aU.set UC (Zg _) Uy Zo⟩|some o=>
   have:=V7 o U4;subst this;rw[U4]at K;simp only[]at K;obtain⟨VO,V8⟩:=xR U4;simp only[Z4];simp only[YN];refine cg @t4 @t3 @U7 ⟨?_⟩;generalize UD:aH X C d _=T0;have T5:∀o,o≠d->H X T0 o=H X C o:=λo a=>(by rw[<-UD,ah Zo a]);have w:H X T0 d=some (.cells (cj (E.ofList (bq x) 0 .nil) 2 [.Z (j:Int)]) 7 .own):=(by rw[<-UD,aM Zo];rfl);have Uc:=UL.M (T5 (u+1) Zo);have UT:aU X q u T0 (d+1):=⟨Zo,λo a=>by rw[T5 o Zo];exact UC.M o a⟩;have TY:=U9;rw[<-T5 _ Zo]at TY;have Uf:∀o∈aW,H X T0 o=H X g o:=λo a=>(by have:=A o a;rw[T5 o Zo,G o Zo,T1.M o Zo]);clear UD Uj U9 UL UC U7 T5 G Ub US;have bw:ay X T0 (.ptr d 1)=some (.str x.text):=(by rw[a8 w];rfl);have Ui:aK .add (.Z j) (.Z x.text.length)=some (.Z (j+x.text.length:Nat)):=(by rw[cp Zo Zo];rfl);refine k5 @bw ⟨?_⟩;refine eN ⟨?_⟩;refine k5 @Ui ⟨?_⟩;refine eN ⟨?_⟩;refine eN ⟨?_⟩;refine dg (eS (k:=1) (b:=u+1) (I:=1) (n:=2) Uc.g Zo rfl Zd Zd rfl) ?_;generalize UE:aH X T0 (u+1) _=f;have TZ:∀o,o≠u+1->H X f o=H X T0 o:=λo a=>(by rw[<-UE,ah Zo a]);have Uz:hO X f (u+1) s (j+x.text.length):=⟨by rw[<-UE,aM Zo];rfl,V8,Ue,Zo⟩;have Um:aU X q u f (d+1):=⟨Zo,λo a=>by rw[TZ o Zo];exact UT.M o a⟩;rw[<-TZ _ Zo]at w TY;have V9:∀o∈aW,H X f o=H X g o:=λo a=>(by have:=A o a;rw[TZ o Zo];exact Uf o a);clear UE TZ Uc UT Uf bw;have dk:ay X f (.ptr d 0)=some (.Z x.kind):=(by rw[a8 w];rfl);have bw:ay X f (.ptr d 1)=some (.str x.text):=(by rw[a8 w];rfl);have VA:ay X f (.ptr d 2)=some (.Z j):=(by rw[a8 w];rfl);have VB:ay X f (.ptr d 3)=some (.int .u64 x.n):=(by rw[a8 w];rfl);have VC:ay X f (.ptr d 4)=some (.bool x.ty.b):=(by rw[a8 w];rfl);have VD:ay X f (.ptr d 5)=some (.bool x.ty.s):=(by rw[a8 w];rfl);have VE:ay X f (.ptr d 6)=some (.Z x.ty.w):=(by rw[a8 w];rfl);refine cu @dk @bw @VA @VB @VC @VD (Za @VE @t5) ⟨?_⟩;obtain⟨O,UN,v,U3,V4,Uq,Ut⟩:=UO (aH X f (d+1+11) (zP (bq (hk x j)) 7)) (d+1+11+1) (d+1+11) (hk x j) (λo a=>by have:=A o a;rw[ah Zo Zo];exact V9 o a) Zo (aM Zo);refine d8 U3 ?_;have bv:∀o,o<u+2->o∉aW:=λo UA T4=>zL (A o T4);have UM:∀o,o<u+2->H X UN o=H X f o:=λo a=>(by rw[Ut o Zo (bv o a),ah Zo Zo]);have V0:=Uz.M (UM (u+1) Zo);rw[<-UM _ Zo]at TY;have Un:aU X q u UN (d+1+11+1+1):=⟨Zo,λo a=>by rw[UM o Zo];exact Um.M o a⟩;have UF:∀o∈v,u+2<=o/\o<d+1+11+1+1:=λo a=>by
    rcases Uq o a with rfl|h
    ·omega
    ·have:=A o h;omega
   refine bo @t4 ⟨?_⟩;refine(E1 L V0 W Zo Zo).Zm ?_;rintro R VF VQ ⟨V1,U1⟩;have VK:=U1.le;refine⟨m,Zo,O,az++[hk x j],v,_,af t3,af t4,aC,by rw[U1.M _ Zo Zs];exact TY,V1,.inl (V4.M λo a=>U1.M o (UF o a).2 (by have:=UF o a;simp;omega)),λo a=>zL (UF o a),⟨Zo,λo a=>by rw[U1.M o Zo Zx];exact Un.M o a⟩,Zo, ?_,K⟩;have:=vZ s s.length (j+x.text.length);simp only[ZH,ZI,ZT];omega
 ·have T2:=zM j s.length;rw[Zi UI]at K;cases K;refine dA @t4 @b8 @bV @T2 @t5 ⟨?_⟩;obtain⟨O,e,v,U3,V3,Up,UK⟩:=UO (aH X am (aw+10) (zP (bq ⟨7,[],j,0,cd⟩) 7)) (aw+10+1) (aw+10) ⟨7,[],j,0,cd⟩ (λo a=>ah Zo (zL (A o a))) Zo (aM Zo);refine d8 U3 ?_;have bv:∀o,o<u+2->o∉aW:=λo UA T4=>zL (A o T4);have U8:H X e u=zP [.Z 0,.Z 0] 2:=by rw[UK _ Zo (bv _ Zo),ah Zo Zo];exact T3
  have T1:aU X q u e (aw+10+1+1):=⟨Zo,λo a=>by rw[UK _ Zo (bv _ Zo),ah Zo Zo];exact T6.M o a⟩;clear U3 UK;refine bo @t3 ⟨?_⟩;have Uw:∀r∈(az++[(⟨7,[],j,0,cd⟩:Tok)]).map bq,r.length=7:=λr h=>by obtain⟨x,_,rfl⟩:=ZC.1 h;rfl
  generalize T7:aH X e u _=C;have G:∀o,o≠u->H X C o=H X e o:=λo a=>by rw[<-T7,ah Zo a]
  have UU:∀o∈v,u+2<=o/\o<aw+10+1+1:=λo a=>by
   rcases Up o a with rfl|h
   ·omega
   ·have:=A o h;omega
  obtain⟨bd,Ud⟩:=(V3.M (D:=C) (λo a=>G o (zL (UU o a)))).kG Zd Uw Zx (P:=λo=>u<=o/\o<aw+10+1+1) (λo a=>zL (UU o a));have UV:=Ud.W Zs;exact⟨⟨O,bd,rfl,cl.narrow Ud,UV.1,UV.2⟩,⟨Zo,λo a=>by rw[G o Zo];exact T1.M o a⟩⟩
variable{an bd:Nat}{az:List Tok}
def A0(p:z):g4 X q 23 p=ay X q p:=Zk
def sZ(p:z):g4 X q 26 p=ca X q 2 p:=Zk
def FI:b7 X q .eql 20 true .nilIface .nilIface=some .zV:=Zk
def FH(k a:Int):b7 X q .eql 20 true (iU k a) .nilIface=some .zT:=Zk
def E2:∃fn c,(y X).P.funcs[19]? =some fn/\fn.body=some c:=wy (yt X)
def aaQ(c:bZ X){a b:z}{aI:Bool->E S->Nat->Prop}(h:aI false q u):lI X (.func 19) ([]++[a,b]) none q u aI:=by refine⟨c.none _ _ rfl,E2,wz (yt X) ?_⟩;show nT X 19 [a,b] none q u aI;rw[Dn];unfold ys;show aJ _ _;refine bo @FI ⟨?_⟩;exact h
def aaR(w:bZ X){a b:Nat}{k at_:Int}{bV b0:E z}{aI:Bool->E S->Nat->Prop}(m:(y X).aB<=a)(c:(y X).aB<=b)(x:a≠b)(A:a<u)(C:b<u)(v:H X q a=some (.cells bV 1 .own))(e:H X q b=some (.cells b0 2 .own))
 (h:∀D p,u<=p->ay X D (.ptr a 0)=some .bH->ca X D 2 (.ptr b 0)=some (.agg [.Z k,.Z at_])->(∀o,o<u->o≠a->o≠b->H X D o=H X q o)->aI true D p):lI X (.func 19) ([]++[.ptr a 0,.ptr b 0]) (some (iU k at_)) q u aI:=by
 refine⟨w.none _ _ rfl,E2,wz (yt X) ?_⟩;show nT X 19 [.ptr a 0,.ptr b 0] (some (iU k at_)) q u aI;rw[Dn];unfold ys;show aJ _ _;have r:lC 26 (.agg [.Z 0,.Z 0]) true (iU k at_)=some (.tuple [.agg [.Z k,.Z at_],.zV]):=nE _ _ _;have j:∀(B:bS) (n:Nat),(xH B).g n=B.g n:=λ_ _=>rfl;refine cg @FH @r @j ⟨?_⟩;generalize g:aH X _ u _=au;have s:H X au u=zP [.Z k,.Z at_] 2:=by rw[<-g,aM Zo];rfl
 have f:∀o,o<u->H X au o=H X q o:=λo d=>by rw[<-g];exact zR
 rw[<-f a A]at v;rw[<-f b C]at e;clear g;refine bE (a8 s) @j ⟨?_⟩;refine d9 (by simp[z.same,iE,i7]) ?_;generalize i:aH X au a _=am;have t:H X am a=some (.cells (cj bV 0 [.bH]) 1 .own):=by rw[<-i,aM m];rfl
 have l:∀o,o≠a->H X am o=H X au o:=λo d=>by rw[<-i,ah m d]
 rw[<-l b Zo]at e;clear i;refine k5 @j ⟨?_⟩;refine dg (eS (k:=2) (b:=b) (I:=0) (n:=2) e c rfl Zd Zd rfl) ?_;show aI true _ _;refine h _ _ Zo ?_ ?_ (λo d G c5=> ?_)
 ·rw[a8 (by rw[ah c x];exact t),fR];rfl
 ·rw[kz,a8 (aM c),a8 (aM c),fR,fR];rfl
 ·rw[ah c c5,l o G,f o d]
def aa1{T:aY}{B:bS}{p V v w:z}(c:B.aP=[])(a:B.g 2=some p)(b:B.g 3=some V)(bw:ay X q p=some v)(d:ca X q 2 V=some w)(h:T (.tuple [v,w]) q u):tk X T B q u:=by unfold tk;rw[c];show bu (B.g 2) (λp=>aa (g4 X q 23 p) λv=>bu (B.g 3) λp=>aa (g4 X q 26 p) λw=>T (.tuple [v,w]) q u);rw[a,b];refine iF ?_;rw[A0,bw];refine hq ?_;refine iF ?_;rw[sZ,d];exact hq h
def aa2{T:aY}{B:bS}{p V v w a b:z}(e:bZ X)(f:B.aP=[⟨.fn (.func 19) [a,b],[]⟩])(c:B.g 2=some p)(d:B.g 3=some V)(bw:ay X q p=some v)(g:ca X q 2 V=some w)(h:T (.tuple [v,w]) q u):tk X T B q u:=by unfold tk;rw[f];show lI X (.func 19) ([]++[a,b]) none q u λ_ q u=>ig X [.cell 2 23,.cell 3 26] T B [] q u;refine aaQ e ?_;show bu (B.g 2) (λp=>aa (g4 X q 23 p) λv=>bu (B.g 3) λp=>aa (g4 X q 26 p) λw=>T (.tuple [v,w]) q u);rw[c,d];refine iF ?_;rw[A0,bw];refine hq ?_;refine iF ?_;rw[sZ,g];exact hq h
def HE{T ab:aY}{B:bS}{a b:Nat}{k at_:Int}{bV b0:E z}(i:bZ X)(n:B.aP=[⟨.fn (.func 19) [.ptr a 0,.ptr b 0],[]⟩])(f:B.g 2=some (.ptr a 0))(g:B.g 3=some (.ptr b 0))
 (t:(y X).aB<=a)(x:(y X).aB<=b)(j:a≠b)(l:a<u)(m:b<u)(d:H X q a=some (.cells bV 1 .own))(e:H X q b=some (.cells b0 2 .own))
 (h:∀D c,u<=c->(∀o,o<u->o≠a->o≠b->H X D o=H X q o)->T (.tuple [.bH,.agg [.Z k,.Z at_]]) D c):u1 X T ab B (iU k at_) q u:=by
 unfold u1;rw[n];show lI X (.func 19) ([]++[.ptr a 0,.ptr b 0]) (some (iU k at_)) q u λb q u=>ba b (ig X [.cell 2 23,.cell 3 26] T B [] q u) _;refine aaR i t x j l m d e (λD c s bw A r=> ?_);show bu (B.g 2) (λp=>aa (g4 X D 23 p) λv=>bu (B.g 3) λp=>aa (g4 X D 26 p) λw=>T (.tuple [v,w]) D c);rw[f,g];refine iF ?_;rw[A0,bw];refine hq ?_;refine iF ?_;rw[sZ,A];exact hq (h D c s r)
def Fr{fn:Fn}{first cap a:List z}{B:bS}{T:bS->Prop}(h:T (n6 B ⟨.fn fn cap,first++a⟩)):t7 (.func fn first cap) a B T:=h
def nc(s:aA)(n:Nat):Option (Except (Int×Int) (List GT)):=match ja s (s.length+1) [] (ix s s.length 0)with
 |none=>none|some (.error a)=>some (.error (20,a))|some (.ok az)=>match nodes n [] az with
  |none=>none|some (.error a)=>some (.error (21,a))|some (.ok (Y,_))=>match jw Y with
   |some (k,a)=>some (.error (k,a))|none=>some (.ok Y)
def Cj(X:bi)(u:Nat)(r:Except (Int×Int) (List GT))(R:z)(D:E S)(Z:Nat):Prop:=match r with
 | .error (k,a)=>R=.tuple [.bH,.agg [.Z k,.Z a]]| .ok Y=>∃v,R=.tuple [v,.agg [.Z 0,.Z 0]]/\pZ X D (b2 u Z) Y v
def sn(s:aA):∀(n i:Nat),i<=s.length->ix s n i<=s.length:=by
 intro n;induction n with
 |zero=>intro i h;exact h|succ n U=>
  intro i h;rw[ix];split
  ·exact h
  ·rename_i c a;have b:=(Ze.1 a).1;split
   ·exact U _ Zo
   ·split
    ·have:=rG (λc=>decide (c≠10)) (s.drop i);rw[YH]at this;exact U _ Zo
    ·exact h
def BZ(s:aA):∀(n:Nat) (az:List Tok) (i:Nat) (c2:List Tok),az.length<=i->i<=s.length->ja s n az i=some (.ok c2)->c2.length<=s.length+1:=by
 intro n;induction n with
 |zero=>intro az i c2 _ _ h;cases h|succ n U=>
  intro az i c2 b c h;rw[ja]at h;split at h
  ·split at h
   ·cases h
   ·rename_i x a;obtain⟨a7,bl⟩:=xR a;have d:=vZ s s.length (i+x.text.length);exact U _ _ _ Zx (sn s _ _ bl) h
  ·cases h;simp;omega
def aab(x:e5 X)(Ua:tD X)(Ub:mD X){s:aA}{n:Nat}(Uh:n<=170000)(Um:s.length<=65536)(W:∀c∈s,c<256)(e:(y X).aB<=u){a0:z}(Ud:c0 a0=some (.Z s.length))(Uc:∀D T2,aU X q u D T2->oV X D a0=some (.str s))
 {r:Except (Int×Int) (List GT)}(K:nc s n=some r):
 aD X 5 [a0] q u (λR D Z=>Cj X u r R D Z/\aU X q u D Z) zX:=by
 refine tX (Mu X) (x.none _ _ rfl) ?_;rw[Mv];unfold DP;refine bx ⟨?_⟩;refine c7 (λau=>H X au u=zP [.bH] 1/\H X au (u+1)=zP [.Z 0,.Z 0] 2/\aU X q u au (u+1+1)) ⟨by exact z6,by rw[aM Zo];rfl,cf⟩ ?_;rintro au ⟨UD,UE,UJ⟩;unfold nc at K;obtain⟨T4,U8⟩:∃T4,ja s (s.length+1) [] (ix s s.length 0)=some T4:=by
  cases h:ja s (s.length+1) [] (ix s s.length 0)with
  |none=>rw[h]at K;cases K|some T4=>exact⟨T4,rfl⟩
 rw[U8]at K;refine(NX x Ua Um W Zo Ud (λD T2 h=>Uc D T2 (UJ.trans h)) U8).Zm ?_;rintro R am aw ⟨U9,T6⟩;have Uy:=T6.le;have O:H X am u=zP [.bH] 1:=by rw[T6.M _ Zo];exact UD
 have UF:H X am (u+1)=zP [.Z 0,.Z 0] 2:=by rw[T6.M _ Zo];exact UE
 have UK:=UJ.trans T6;clear UD UE;cases T4 with
 |error a=>
  simp only[Zh]at K;subst K;simp only[EA]at U9;subst U9;have TY:decide ((20:Int)≠0)=true:=rfl;refine bo @TY ⟨?_⟩;generalize A:aH X am (u+1) _=f;have P:H X f (u+1)=zP [.Z 20,.Z a] 2:=by rw[<-A,aM Zo];rfl
  have i:∀o,o≠u+1->H X f o=H X am o:=λo d=>by rw[<-A,ah Zo d]
  rw[<-i _ Zo]at O;have T0:aU X q u f aw:=⟨Zo,λo d=>by rw[i o Zo];exact UK.M o d⟩;clear A i UF;refine dg (eS (k:=1) (b:=u) (I:=0) (n:=1) O e rfl Zd Zd rfl) ?_;generalize U2:aH X f u _=g;have TZ:H X g u=some (.cells (cj (E.ofList [.bH] 0 .nil) 0 [.bH]) 1 .own):=by rw[<-U2,aM e];rfl
  have U1:∀o,o≠u->H X g o=H X f o:=λo d=>by rw[<-U2,ah e d]
  rw[<-U1 _ Zo]at P;have UZ:aU X q u g aw:=⟨Zo,λo d=>by rw[U1 o Zo];exact T0.M o d⟩;clear U2 U1 O T0;refine k5 (a8 P) ⟨?_⟩;refine d9 (by simp[z.same,iE,i7]) ?_;refine dg (eS (k:=2) (b:=u+1) (I:=0) (n:=2) P Zo rfl Zd Zd rfl) ?_;refine aa1 (v:=.bH) (w:=.agg [.Z 20,.Z a]) rfl (cT) (cT) ?_ ?_ ⟨rfl,aU.set UZ Zo e Zo⟩
  ·rw[a8 (by rw[ah Zo Zo];exact TZ),fR];rfl
  ·rw[kz,a8 (aM Zo),a8 (aM Zo),fR,fR];rfl
 |ok az=>
  obtain⟨ac,bd,rfl,UO,Uu,Uv⟩:=U9;simp only[]at K;have TY:decide ((0:Int)≠0)=false:=rfl;refine bo @TY ⟨?_⟩;generalize A:aH X am (u+1) _=f;have P:H X f (u+1)=zP [.Z 0,.Z 0] 2:=by rw[<-A,aM Zo];rfl
  have i:∀o,o≠u+1->H X f o=H X am o:=λo d=>by rw[<-A,ah Zo d]
  rw[<-i _ Zo]at O;have T0:aU X q u f aw:=⟨Zo,λo d=>by rw[i o Zo];exact UK.M o d⟩;have Ul:=UO.M (D:=f) (λo d=>by subst d;exact i o Zo);clear A i UF;refine Fr ?_;obtain⟨UV,Us,Ut⟩:=fu UO.len;refine bx ⟨?_⟩;have UW:dl [.ax,.Z 0] [(0,1,ac)]=some (.agg [ac,.Z 0]):=by simp[dl,k4,lL,UV,ih]
  refine dg UW ?_;refine bx ⟨?_⟩;generalize T7:n6 _ _=L;have UU:L.aP=[⟨.fn (.func 19) [.ptr u 0,.ptr (u+1) 0],[]⟩]:=by rw[<-T7];rfl
  have N:L.g 2=some (.ptr u 0):=by rw[<-T7];rfl
  have t3:L.g 3=some (.ptr (u+1) 0):=by rw[<-T7];rfl
  have UB:∀l,gN 2 l=false->(eI l L).g 2=some (.ptr u 0):=λl h=>by simp[ma,N,h]
  have UC:∀l,gN 3 l=false->(eI l L).g 3=some (.ptr (u+1) 0):=λl h=>by simp[ma,t3,h]
  have UA:∀l,(eI l L).aP=[⟨.fn (.func 19) [.ptr u 0,.ptr (u+1) 0],[]⟩]:=λl=>UU;clear T7;refine c7 (λg=>H X g aw=zP [ac,.Z ((0:Nat):Int)] 2/\aU X f aw g (aw+1)) ⟨by rw[aM Zo];rfl,cf⟩ ?_;rintro g ⟨TZ,T1⟩;have Uz:=BZ s _ _ _ _ Zs (sn s _ _ Zo) U8;have Ui:ak X g aw bd az 0:=⟨⟨_,ac,TZ,rfl,rfl,Ul.M λo d=>by subst d;exact T1.M o Zo⟩,Zo⟩;have Uj:e6 X g (aw+1) aw bd az 0:=⟨Zo,Zo,Zo,Zo,Zo,Ui⟩;obtain⟨T3,UP⟩:∃T3,nodes n [] az=some T3:=by cases h:nodes n [] az with|none=>rw[h]at K;cases K|some T3=>exact⟨T3,rfl⟩
  rw[UP]at K;have UQ:H X g u=zP [.bH] 1:=by rw[T1.M _ Zo];exact O
  have UR:H X g (u+1)=zP [.Z 0,.Z 0] 2:=by rw[T1.M _ Zo];exact P
  refine(aav x.tobZ Ub Uh Zo Uj (r:=T3) UP).mono ?_ ?_
  ·rintro v t T8 ⟨Y,i5,rfl,U7,_,p⟩;have Uf:=p.le;simp only[]at K;have Uq:H X t u=zP [.bH] 1:=(by rw[p.M _ Zo Zx];exact UQ);have Ur:H X t (u+1)=zP [.Z 0,.Z 0] 2:=(by rw[p.M _ Zo Zx];exact UR);have UN:∀o,o<u->H X t o=H X q o:=λo d=>(by rw[p.M o Zo Zx,T1.M o Zo];exact T0.M o d);obtain⟨j,_,_,_,rfl,UL,_⟩:=U7.prog;have Uw:=UL.1;have Ux:=UL.2;refine k5 @N ⟨?_⟩;refine dg (eS (k:=1) (b:=u) (I:=0) (n:=1) Uq e rfl Zd Zd rfl) ?_;generalize U3:aH X t u _=C;have U0:H X C u=some (.cells (cj (E.ofList [.bH] 0 .nil) 0 [.ptr j 0]) 1 .own):=(by rw[<-U3,aM e];rfl);have T5:∀o,o≠u->H X C o=H X t o:=λo d=>(by rw[<-U3,ah e d]);clear U3;have Un:ay X C (.ptr u 0)=some (.ptr j 0):=(by rw[a8 U0,fR];rfl);refine k5 @N ⟨?_⟩;refine k5 @Un ⟨?_⟩;have Uk:=U7.M (D:=C) (aI:=b2 (aw+1) T8) (λo d=>T5 o (zL d.1)) (λ_ h=>h);have US:H X C (u+1)=zP [.Z 0,.Z 0] 2:=(by rw[T5 _ Zo];exact Ur);refine(SA (u:=T8) (q:=C) x.tobZ Zo Uk.prog (λo d=>d.2)).mono ?_ ?_
   ·rintro V0 G Up ⟨U6,rfl,m⟩;have Ug:=m.le;rw[U6]at K;simp only[Zh]at K;subst K;have UG:H X G u=some (.cells (cj (E.ofList [.bH] 0 .nil) 0 [.ptr j 0]) 1 .own):=(by rw[m.M _ Zo];exact U0);have UT:H X G (u+1)=zP [.Z 0,.Z 0] 2:=(by rw[m.M _ Zo];exact US);have Uo:ay X G (.ptr u 0)=some (.ptr j 0):=(by rw[a8 UG,fR];rfl);refine k5 @N ⟨?_⟩;refine k5 @Uo ⟨?_⟩;refine eN ⟨?_⟩;refine k5 @N ⟨?_⟩;refine dg (eS (k:=1) (b:=u) (I:=0) (n:=1) UG e rfl Zd Zd rfl) ?_;generalize U4:aH X G u _=T9;have UX:H X T9 u=some (.cells (cj (cj (E.ofList [.bH] 0 .nil) 0 [.ptr j 0]) 0 [.ptr j 0]) 1 .own):=(by rw[<-U4,aM e];rfl);have UI:∀o,o≠u->H X T9 o=H X G o:=λo d=>(by rw[<-U4,ah e d]);rw[<-UI _ Zo]at UT;clear U4;refine k5 @t3 ⟨?_⟩;refine dg (eS (k:=2) (b:=u+1) (I:=0) (n:=2) UT Zo rfl Zd Zd rfl) ?_;have UM:∀bU o,o≠u->o≠u+1->o<T8->H X (aH X T9 (u+1) bU) o=H X t o:=λbU o UH UY i=>(by rw[ah Zo UY,UI o UH,m.M o i,T5 o UH]);refine aa2 (v:=.ptr j 0) (w:=.agg [.Z 0,.Z 0]) x.tobZ UU N t3 ?_ ?_ ⟨⟨.ptr j 0,rfl,U7.M (λo d=>UM _ o (zL d.1) (zL d.1) d.2) (λo d=>⟨zL d.1,zL d.2⟩)⟩,⟨Zo,λo d=>by rw[UM _ o Zo Zo Zo];exact UN o d⟩⟩
    ·rw[a8 (by rw[ah Zo Zo];exact UX),fR];rfl
    ·rw[kz,a8 (aM Zo),a8 (aM Zo),fR,fR];rfl
   ·rintro R G Up ⟨k,a,U6,rfl,m⟩;have Ug:=m.le;rw[U6]at K;simp only[Zh]at K;subst K;refine HE (bV:=cj (E.ofList [.bH] 0 .nil) 0 [.ptr j 0]) (b0:=E.ofList [.Z 0,.Z 0] 0 .nil) x.tobZ (UA _) (UB _ rfl) (UC _ rfl) e Zo Zo Zo Zo ?_ ?_ (λD T2 Ue U5=>⟨rfl,Zo,λo d=> ?_⟩)
    ·rw[m.M _ Zo];exact U0
    ·rw[m.M _ Zo];exact US
    ·rw[U5 o Zo Zo Zo,m.M o Zo,T5 o Zo];exact UN o d
  ·rintro R t T8 ⟨a,rfl,rfl,p⟩;have Uf:=p.le;simp only[Zh]at K;subst K;refine HE (bV:=E.ofList [.bH] 0 .nil) (b0:=E.ofList [.Z 0,.Z 0] 0 .nil) x.tobZ (UA _) (UB _ rfl) (UC _ rfl) e Zo Zo Zo Zo ?_ ?_ (λD T2 Ue U5=>⟨rfl,Zo,λo d=> ?_⟩)
   ·rw[p.M _ Zo Zx];exact UQ
   ·rw[p.M _ Zo Zx];exact UR
   ·rw[U5 o Zo Zo Zo,p.M o Zo Zx,T1.M o Zo];exact T0.M o d
def ez.snoc{x:Tok}(a:x.kind=7)(b:x.text=[]):∀l:List Tok,ez (l++[x]):=by intro l;induction l with|nil=>exact .inl ⟨a,b⟩|cons o l U=>exact .inr U
def acI(s:aA):∀(n:Nat) (az:List Tok) (i:Nat),i<=s.length->s.length<i+n->∃r,ja s n az i=some r/\∀c2,r=.ok c2->ez c2:=by
 intro n;induction n with
 |zero=>grind|succ n U=>
  intro az i b c;rw[ja];split
  ·cases a:nk s i with|none=>grind|some x=>obtain⟨a7,bl⟩:=xR a;have d:=vZ s s.length (i+x.text.length);exact U _ _ (sn s _ _ bl) Zo
  ·exact⟨_,rfl,λc2 h=>by cases h;exact ez.snoc rfl rfl _⟩
def ω{s:aA}(f:s.length<=5000):∃r,nc s 170000=some r:=by unfold nc;obtain⟨r,b,c⟩:=acI s (s.length+1) [] (ix s s.length 0) (sn s _ _ Zo) Zo;rw[b];cases r with|error a=>grind|ok az=>simp;have e:=BZ s _ _ _ _ Zs (sn s _ _ Zo) b;obtain⟨r,d,_⟩:=Tz 170000 [] az (c az rfl) Zo;rw[d];cases r with|error a=>grind|ok p=>obtain⟨Y,l⟩:=p;simp;cases jw Y with|none=>grind|some V=>grind
noncomputable def lR(s:aA):Except (Int×Int) (List GT):=match nc s 170000 with
 |some r=>r|none=> .error (0,0)
def HH{s:aA}(a:s.length<=5000):nc s 170000=some (lR s):=by obtain⟨r,h⟩:=ω a;unfold lR;rw[h]
def ψ(d:e5 X)(a:tD X)(b:mD X){s:aA}(h:s.length<=5000)(W:∀c∈s,c<256)(g:(y X).aB<=u){a0:z}(f:c0 a0=some (.Z s.length))(e:∀D i,aU X q u D i->oV X D a0=some (.str s)):
 aD X 5 [a0] q u (λR D Z=>Cj X u (lR s) R D Z/\aU X q u D Z) zX:=
 aab d a b (Zg _) Zo W g f e (HH h)
end
end
end Go.Proofs.YtehmapikajmjaaaGreatDoor
namespace Go.ak
structure eM where
 N:aA->Prop
 sh:cH->Prop
 L:cH->Int->Prop
 aB:∀s,N s->s≠[]
 bI:sh ⟨true,false,1⟩
 dk:L ⟨true,false,1⟩ 0
 bw:L ⟨true,false,1⟩ 1
 lt:∀t n,L t n->sh t
 A:Int->Prop
 a0:A 0
structure p3(aZ:eM)(x:Tok):Prop where
 name:x.kind=1->aZ.N x.text
 type:x.kind=3->aZ.sh x.ty
 num:x.kind=4->0<=x.n
 lit:x.kind=5->aZ.L x.ty x.n
 pos:x.kind≠7->aZ.A x.at_
def ed(aZ:eM)(l:List Tok):Prop:=∀x∈l,p3 aZ x
def ed.hf{aZ:eM}{x:Tok}{l:List Tok}(h:ed aZ (x::l)):ed aZ l:=λo a=>h o (Zw _ a)
def ed.ai{aZ:eM}{x:Tok}{l:List Tok}(h:ed aZ (x::l)):p3 aZ x:=h x (Zr ..)
def kq(k:Int):Option Nat:=if k=25 then none else if k=1\/k=2 then some 0 else if k=3\/k=4\/k=5\/k=6\/k=19\/k=20\/k=26 then some 1 else if k=23 then some 3 else some 2
def lM(k:Int):Prop:=k=2\/k=6\/k=24\/k=25
def lN(k:Int):Prop:=k=1\/k=26
structure pX(aZ:eM)(e:aX):Prop where
 a:aZ.A e.at_
 a7:1<=e.kind
 bl:e.kind<=26
 oN:∀m,kq e.kind=some m->e.args.length=m
 nm:lM e.kind->aZ.N e.name
 xa:¬lM e.kind->e.name=[]
 no:e.no=true->e.kind=6
 ty:lN e.kind->aZ.sh e.ty
 cd:¬lN e.kind->e.ty=cd
 Hk:e.kind=1->aZ.L e.ty e.n
 ci:e.kind=19\/e.kind=20->0<=e.n/\e.n<=63
 aB:e.kind≠1->e.kind≠19->e.kind≠20->e.n=0
 gX:e.kind=21->∃l r,e.args=[l,r]/\(l.kind=1\/l.kind=4/\∃x,l.args=[x]/\x.kind=1)
mutual
def dw(aZ:eM):aX->Prop
 | .mk k a nm no ty n args=>pX aZ (.mk k a nm no ty n args)/\dJ aZ args
def dJ(aZ:eM):List aX->Prop
 |[]=>True|e::l=>dw aZ e/\dJ aZ l
end
def dw.eq{aZ:eM}(e:aX):dw aZ e=(pX aZ e/\dJ aZ e.args):=by cases e;rw[dw];rfl
def dJ.cons{aZ:eM}{e:aX}{l:List aX}(h:dw aZ e)(k:dJ aZ l):dJ aZ (e::l):=by rw[dJ];exact⟨h,k⟩
def dJ.nil{aZ:eM}:dJ aZ []:=by rw[dJ];trivial
def dJ.app{aZ:eM}{e:aX}(h:dw aZ e):∀{l:List aX},dJ aZ l->dJ aZ (l++[e]):=by intro l;induction l with|nil=>intro _;exact dJ.cons h dJ.nil|cons a l U=>intro k;rw[dJ]at k;exact dJ.cons k.1 (U k.2)
def b6(aZ:eM){α:Type}(aI:α->Prop)(x:di α):Prop:=∀a b,x=some (.ok (a,b))->ed aZ b/\aI a
section
variable{aZ:eM}{α cr:Type}
def b6.none{aI:α->Prop}:b6 aZ aI none:=λ_ _ h=>by cases h
def b6.ok{aI:α->Prop}{a:α}{l:List Tok}(h:ed aZ l)(V:aI a):b6 aZ aI (ak.ok a l):=λb c e=>by cases e;exact⟨h,V⟩
def b6.bad{aI:α->Prop}(a:Int):b6 aZ aI (ak.bad a:di α):=λb c e=>by cases e
def b6.andThen{aI:α->Prop}{b:cr->Prop}{x:di α}{f:α->List Tok->di cr}(h:b6 aZ aI x)(k:∀a c,ed aZ c->aI a->b6 aZ b (f a c)):b6 aZ b (ak.andThen x f):=by
 unfold ak.andThen;split
 ·exact b6.none
 ·exact λ_ _ e=>by cases e
 ·rename_i a l;obtain⟨d,g⟩:=h a l rfl;grind
def p3.d4{x:Tok}{s:aA}(h:p3 aZ x)(a:d4 x s=true):aZ.A x.at_:=h.pos λe=>by simp[ak.d4,e]at a
def im{s:aA}{l:List Tok}(h:ed aZ l):b6 aZ (λx:Tok=>aZ.A x.at_) (ce s l):=by
 cases l with
 |nil=>exact b6.none|cons x l=>
  simp only[ce];split
  ·rename_i a;exact b6.ok h.hf (h.ai.d4 a)
  ·exact b6.bad _
def ml{k:Int}{l:List Tok}(h:ed aZ l):b6 aZ (λx:Tok=>p3 aZ x/\x.kind=k) (ew k l):=by
 cases l with
 |nil=>exact b6.none|cons x l=>
  simp only[ew];split
  ·rename_i a;exact b6.ok h.hf ⟨h.ai,a⟩
  ·exact b6.bad _
def jH{s:aA}{l:List Tok}{f:Option Tok->List Tok->di cr}{aI:cr->Prop}(h:ed aZ l)(c:∀x b,aZ.A x.at_->ed aZ b->b6 aZ aI (f (some x) b))(d:b6 aZ aI (f none l)):b6 aZ aI (el s l f):=by
 cases l with
 |nil=>exact b6.none|cons x l=>
  unfold el f5;by_cases a:d4 x s=true
  ·simp only[a];exact c x l (h.ai.d4 a) h.hf
  ·grind
def vV{l:List Tok}(h:ed aZ l):∀(os:List (aA×Int)) e c,gV os l=some (e,c)->ed aZ c/\∀x,e=some x->∃I∈os,∃a,aZ.A a/\x=.mk I.2 a [] false cd 0 []:=by
 intro os;induction os with
 |nil=>intro e c b;cases b;exact⟨h,λx f=>by cases f⟩|cons I os U=>
  obtain⟨s,k⟩:=I;intro e c b;cases l with
  |nil=>simp[gV,f5]at b|cons x l=>
   unfold gV f5 at b;by_cases d:d4 x s=true
   ·simp only[d]at b;cases b;exact⟨h.hf,λo g=>by cases g;exact⟨_,Zr ..,_,h.ai.d4 d,rfl⟩⟩
   ·grind
def IS{k a:Int}{x o:aX}(g:7<=k/\k<=18\/k=22)(e:dw aZ x)(f:dw aZ o)(c:aZ.A a):dw aZ (.mk k a [] false cd 0 [x,o]):=by
 refine⟨⟨c,by simp only[aX.kind];omega,by simp only[aX.kind];omega, ?_, ?_,λ_=>rfl,(λh=>absurd h (by simp[aX.no])), ?_,λ_=>rfl, ?_, ?_,λ_ _ _=>rfl, ?_⟩,dJ.cons e (dJ.cons f dJ.nil)⟩
 ·intro m d;have b:kq k=some m:=d;unfold kq at b;rw[Zi Zo,Zi Zo,Zi Zo,Zi Zo]at b;cases b;rfl
 ·intro h;simp only[lM,aX.kind]at h;omega
 ·intro h;simp only[lN,aX.kind]at h;omega
 ·intro h;simp only[aX.kind]at h;omega
 ·intro h;simp only[aX.kind]at h;omega
 ·intro h;simp only[aX.kind]at h;omega
def vk{k a n:Int}{nm:aA}{no:Bool}{ty:cH}{x:aX}(j:k=3\/k=4\/k=5\/k=6\/k=19\/k=20\/k=26)(r:k=6->aZ.N nm)(e:k≠6->nm=[]/\no=false)(t:k=26->aZ.sh ty)(v:k≠26->ty=cd)(p:k=19\/k=20->0<=n/\n<=63)(s:k≠19->k≠20->n=0)(w:dw aZ x)(i:aZ.A a):dw aZ (.mk k a nm no ty n [x]):=by
 refine⟨⟨i,by simp only[aX.kind];omega,by simp only[aX.kind];omega, ?_, ?_, ?_, ?_, ?_, ?_, ?_,p, ?_, ?_⟩,dJ.cons w dJ.nil⟩
 ·intro m l;have b:kq k=some m:=l;unfold kq at b;rw[Zi Zo,Zi Zo,Zv j]at b;cases b;rfl
 ·intro h;simp only[lM,aX.kind]at h;exact r Zo
 ·intro h;simp only[lM,aX.kind]at h;exact(e Zo).1
 ·intro h;by_cases d:k=6
  ·exact d
  ·have c:=h;rw[(e d).2]at c;cases c
 ·intro h;simp only[lN,aX.kind]at h;exact t Zo
 ·intro h;simp only[lN,aX.kind]at h;exact v Zo
 ·intro h;simp only[aX.kind]at h;omega
 ·intro A f g;exact s f g
 ·intro h;simp only[aX.kind]at h;omega
def IR{a n:Int}{ty:cH}(h:aZ.L ty n)(c:aZ.A a):dw aZ (.mk 1 a [] false ty n []):=by exact⟨⟨c,by simp[aX.kind],by simp[aX.kind],λm b=>by simp[kq,aX.kind]at b;simp[aX.args, <-b],λh=>by simp[lM,aX.kind]at h,λ_=>rfl,(λh=>absurd h (by simp[aX.no])),λ_=>aZ.lt _ _ h,λh=>by simp[lN,aX.kind]at h,λ_=>h,λh=>by simp[aX.kind]at h,λh=>by simp[aX.kind]at h,λh=>by simp[aX.kind]at h⟩,dJ.nil⟩
def adk{a:Int}{nm:aA}(h:aZ.N nm)(c:aZ.A a):dw aZ (.mk 2 a nm false cd 0 []):=by exact⟨⟨c,by simp[aX.kind],by simp[aX.kind],λm b=>by simp[kq,aX.kind]at b;simp[aX.args, <-b],λ_=>h,λh=>by simp[lM,aX.kind]at h,(λh=>absurd h (by simp[aX.no])),λh=>by simp[lN,aX.kind]at h,λ_=>rfl,λh=>by simp[aX.kind]at h,λh=>by simp[aX.kind]at h,λ_ _ _=>rfl,λh=>by simp[aX.kind]at h⟩,dJ.nil⟩
def adg{a:Int}{nm:aA}{b:List aX}(h:aZ.N nm)(k:dJ aZ b)(c:aZ.A a):dw aZ (.mk 25 a nm false cd 0 b):=by exact⟨⟨c,by simp[aX.kind],by simp[aX.kind],λm d=>by simp[kq,aX.kind]at d,λ_=>h,λh=>by simp[lM,aX.kind]at h,(λh=>absurd h (by simp[aX.no])),λh=>by simp[lN,aX.kind]at h,λ_=>rfl,λh=>by simp[aX.kind]at h,λh=>by simp[aX.kind]at h,λ_ _ _=>rfl,λh=>by simp[aX.kind]at h⟩,k⟩
def adi{a:Int}{x o aj:aX}(d:dw aZ x)(e:dw aZ o)(f:dw aZ aj)(c:aZ.A a):dw aZ (.mk 23 a [] false cd 0 [x,o,aj]):=by exact⟨⟨c,by simp[aX.kind],by simp[aX.kind],λm b=>by simp[kq,aX.kind]at b;simp[aX.args, <-b],λh=>by simp[lM,aX.kind]at h,λ_=>rfl,(λh=>absurd h (by simp[aX.no])),λh=>by simp[lN,aX.kind]at h,λ_=>rfl,λh=>by simp[aX.kind]at h,λh=>by simp[aX.kind]at h,λ_ _ _=>rfl,λh=>by simp[aX.kind]at h⟩,dJ.cons d (dJ.cons e (dJ.cons f dJ.nil))⟩
def adj{a:Int}{nm:aA}{x o:aX}(h:aZ.N nm)(d:dw aZ x)(e:dw aZ o)(c:aZ.A a):dw aZ (.mk 24 a nm false cd 0 [x,o]):=by exact⟨⟨c,by simp[aX.kind],by simp[aX.kind],λm b=>by simp[kq,aX.kind]at b;simp[aX.args, <-b],λ_=>h,λh=>by simp[lM,aX.kind]at h,(λh=>absurd h (by simp[aX.no])),λh=>by simp[lN,aX.kind]at h,λ_=>rfl,λh=>by simp[aX.kind]at h,λh=>by simp[aX.kind]at h,λ_ _ _=>rfl,λh=>by simp[aX.kind]at h⟩,dJ.cons d (dJ.cons e dJ.nil)⟩
def adh{a:Int}{x o:aX}(h:kD x=some true)(f:dw aZ x)(g:dw aZ o)(d:aZ.A a):dw aZ (.mk 21 a [] false cd 0 [x,o]):=by
 refine⟨⟨d,by simp[aX.kind],by simp[aX.kind],λm e=>by simp[kq,aX.kind]at e;simp[aX.args, <-e],λh=>by simp[lM,aX.kind]at h,λ_=>rfl,(λh=>absurd h (by simp[aX.no])),λh=>by simp[lN,aX.kind]at h,λ_=>rfl,λh=>by simp[aX.kind]at h,λh=>by simp[aX.kind]at h,λ_ _ _=>rfl,λ_=>⟨x,o,rfl, ?_⟩⟩,dJ.cons f (dJ.cons g dJ.nil)⟩;unfold kD at h;split at h
 ·grind
 ·split at h
  ·rename_i i c;refine .inr ⟨c, ?_⟩;have hR:=f;rw[dw.eq]at hR;have j:=hR.1.oN 1 (by rw[c];rfl);cases d:x.args with|nil=>grind|cons b l=>simp_all
  ·cases h
def κ:∀(k:Nat) (I:aA×Int),I∈ae k->7<=I.2/\I.2<=18:=by
 intro k I h
 match k with
 |0=>simp[ae]at h;rcases h with rfl|rfl<;>decide
 |1=>simp[ae]at h;subst h;decide|2=>simp[ae]at h;rcases h with rfl|rfl|rfl|rfl|rfl|rfl<;>decide
 |3=>simp[ae]at h;rcases h with rfl|rfl<;>decide
 |4=>simp[ae]at h;subst h;decide|n+5=>simp[ae]at h
def aas(I:aA×Int)(h:I∈n5):I.2=3\/I.2=4\/I.2=5:=by simp[n5]at h;rcases h with rfl|rfl|rfl<;>simp
structure I9(aZ:eM)(n:Nat):Prop where
 level:∀k l,ed aZ l->b6 aZ (dw aZ) (level n k l)
 g9:∀k e l,ed aZ l->dw aZ e->b6 aZ (dw aZ) (g9 n k e l)
 shift:∀l,ed aZ l->b6 aZ (dw aZ) (shift n l)
 hr:∀e l,ed aZ l->dw aZ e->b6 aZ (dw aZ) (hr n e l)
 hs:∀k x e l,k=19\/k=20->aZ.A x.at_->ed aZ l->dw aZ e->b6 aZ (dw aZ) (hs n k x e l)
 lS:∀l,ed aZ l->b6 aZ (dw aZ) (jC n l)
 gU:∀e l,ed aZ l->dw aZ e->b6 aZ (dw aZ) (gU n e l)
 part:∀l,ed aZ l->b6 aZ (dw aZ) (part n l)
 list:∀l,ed aZ l->b6 aZ (dJ aZ) (list n l)
 ha:∀a l,ed aZ l->dJ aZ a->b6 aZ (dJ aZ) (ha n a l)
 fZ:∀l,ed aZ l->b6 aZ (dw aZ) (fZ n l)
 arrow:∀l,ed aZ l->b6 aZ (dw aZ) (arrow n l)
def NW(aZ:eM):∀n,I9 aZ n:=by
 intro n;induction n with
 |zero=>constructor<;>intros<;>exact b6.none|succ n U=>
  constructor;case level=>
   intro k l d;rw[level];split
   ·exact U.shift l d
   ·exact(U.level (k+1) l d).andThen λe f b j=>U.g9 k e f b j
  case g9=>
   intro k e l d t;rw[g9];split
   ·exact b6.none
   ·rename_i f W;exact b6.ok (vV d _ _ _ W).1 t
   ·rename_i x f W;obtain⟨b,j⟩:=vV d _ _ _ W;obtain⟨I,P,a,g,rfl⟩:=j _ rfl;have O:=κ _ _ P;refine(U.level (k+1) f b).andThen λr p a7 bl=> ?_;have T0:=IS (.inl O) t bl g;split
    ·exact b6.ok a7 T0
    ·exact U.g9 k _ p a7 T0
  case shift=>
   intro l d;exact(U.lS l d).andThen λe f b j=>U.hr e f b j
  case hr=>
   intro e l d t;refine jH d (λx f g b=>U.hs 19 x e f (.inl rfl) g b t) ?_;exact jH d (λx f g b=>U.hs 20 x e f (.inr rfl) g b t) (b6.ok d t)
  case hs=>
   intro k x e l O g d t;refine(ml d).andThen λm f b j=> ?_;split
   ·exact b6.bad _
   ·rename_i U1;have T3:=j.1.num j.2;exact U.hr _ f b (vk Zo (λh=>Zo) (λ_=>⟨rfl,rfl⟩) (λh=>Zo) (λ_=>rfl) (λ_=>⟨T3,Zo⟩) (λb j=>Zo) t g)
  case lS=>
   intro l d;rw[jC];split
   ·exact b6.none
   ·rename_i x f W;obtain⟨b,j⟩:=vV d _ _ _ W;obtain⟨I,P,a,g,rfl⟩:=j _ rfl;have O:=aas _ P;refine(U.lS f b).andThen λe p a7 bl=>b6.ok a7 ?_;exact vk (k:=I.2) Zo (λh=>Zo) (λ_=>⟨rfl,rfl⟩) (λh=>Zo) (λ_=>rfl) (λh=>Zo) (λ_ _=>rfl) bl g
   ·rename_i f W;exact(U.part f (vV d _ _ _ W).1).andThen λe p a7 bl=>U.gU e p a7 bl
  case gU=>
   intro e l d t;refine jH d (λx f g b=> ?_) (b6.ok d t);refine jH b (λo p _ a7=> ?_) ?_
   ·refine(ml a7).andThen λm w s i=> ?_;exact U.gU _ w s (vk Zo (λ_=>i.1.name i.2) (λh=>absurd rfl h) (λh=>Zo) (λ_=>rfl) (λh=>Zo) (λ_ _=>rfl) t g)
   ·refine(ml b).andThen λm w s i=> ?_;exact U.gU _ w s (vk Zo (λ_=>i.1.name i.2) (λh=>absurd rfl h) (λh=>Zo) (λ_=>rfl) (λh=>Zo) (λ_ _=>rfl) t g)
  case list=>
   intro l d;rw[list];refine jH d (λx f _ b=>b6.ok b dJ.nil) ?_;exact(U.arrow l d).andThen λe p a7 bl=>U.ha _ p a7 (dJ.cons bl dJ.nil)
  case ha=>
   intro T1 l d g;rw[ha];refine jH d (λx f _ b=> ?_) ?_
   ·exact(U.arrow f b).andThen λe p a7 bl=>U.ha _ p a7 (dJ.app bl g)
   ·exact(im d).andThen λ_ f b _=>b6.ok b g
  case fZ=>
   intro l d;rw[fZ];refine(U.level 0 l d).andThen λe p a7 bl=> ?_;refine jH a7 (λx f g b=> ?_) (b6.ok a7 bl);simp;split
   ·exact b6.none
   ·rename_i T4;exact(U.fZ f b).andThen λr w s i=>b6.ok s (adh T4 bl i g)
   ·exact b6.bad _
  case arrow=>
   intro l d;rw[arrow];refine(U.fZ l d).andThen λe p a7 bl=> ?_;refine jH a7 (λx f g b=> ?_) (b6.ok a7 bl);exact(U.arrow f b).andThen λr w s i=>b6.ok s (IS (.inr rfl) bl i g)
  case part=>
   intro l d;cases l with|nil=>rw[part];exact b6.none|cons x l=>
   have v:=d.ai;have A:=d.hf;rw[part];by_cases L:x.kind=5
   ·rw[Zv L];exact b6.ok A (IR (v.lit L) (v.pos (by rw[L];decide)))
   rw[Zi L];split
   ·rename_i j;refine b6.ok A (IR ?_ (v.pos λe=>by simp[e]at j));split
    ·exact aZ.bw
    ·exact aZ.dk
   by_cases bV:x.kind=1
   ·rw[Zv bV];refine jH A (λo p _ b=> ?_) (b6.ok A (adk (v.name bV) (v.pos (by rw[bV];decide))));exact(U.list p b).andThen λT1 w s i=>b6.ok s (adg (v.name bV) i (v.pos (by rw[bV];decide)))
   rw[Zi bV];by_cases G:x.kind=3
   ·rw[Zv G];refine(im A).andThen λ_ p b _=> ?_;refine(U.arrow p b).andThen λe w s i=> ?_;refine(im s).andThen λ_ N C _=> ?_;exact b6.ok C (vk Zo (λh=>Zo) (λ_=>⟨rfl,rfl⟩) (λ_=>v.type G) (λh=>absurd rfl h) (λh=>Zo) (λ_ _=>rfl) i (v.pos (by rw[G];decide)))
   rw[Zi G];split
   ·refine(U.arrow l A).andThen λe w s i=> ?_;refine(im s).andThen λ_ N C _=> ?_;exact b6.ok C i
   split
   ·rename_i j;refine(U.arrow l A).andThen λe w s i=> ?_;refine(im s).andThen λ_ N C _=> ?_;refine(U.arrow N C).andThen λT2 U2 T7 T8=> ?_;refine(im T7).andThen λ_ T5 T9 _=> ?_;refine(U.arrow T5 T9).andThen λU0 U3 TY TZ=> ?_;exact b6.ok TY (adi i T8 TZ (v.pos λe=>by simp[e]at j))
   split
   ·rename_i j;refine(ml A).andThen λc p b X=> ?_;refine(U.part p b).andThen λe w s i=> ?_;refine(U.part w s).andThen λT2 N C T6=> ?_;exact b6.ok C (adj (X.1.name X.2) i T6 (v.pos λe=>by simp[e]at j))
   ·exact b6.bad _
structure l1(aZ:eM)(d:cG):Prop where
 name:aZ.N d.name
 type:aZ.sh d.ty
 on:d.on≠[]->aZ.N d.on
 no:d.on=[]->d.no=false
 a:aZ.A d.at_
 op:aZ.A d.cC
structure tB(aZ:eM)(V:cA):Prop where
 left:∀s∈V.left,aZ.N s
 some:V.left≠[]
 right:dw aZ V.right
 b:aZ.A V.at_
 c:∀a∈V.bM,aZ.A a
structure hN(aZ:eM)(g:Node):Prop where
 name:aZ.N g.name
 cm:∀d∈g.cm,l1 aZ d
 out:∀d∈g.out,l1 aZ d
 loc:∀d∈g.loc,l1 aZ d
 some:g.out≠[]
 eqs:∀V∈g.eqs,tB aZ V
 a:aZ.A g.at_
def pV(aZ:eM)(a:List Tok):Prop:=∀x∈a,aZ.N x.text/\aZ.A x.at_
def pV.app{aZ:eM}{x:Tok}{b:List Tok}(h:pV aZ b)(c:aZ.N x.text/\aZ.A x.at_):pV aZ (b++[x]):=by
 intro o a;rcases Zp.1 a with a|a
 ·exact h o a
 ·grind
def G7{aZ:eM}:∀(n:Nat) (a l:List Tok),ed aZ l->pV aZ a->b6 aZ (λe=>pV aZ e/\e≠[]) (i1 n a l):=by intro n;induction n with|zero=>intro a l _ _;rw[i1];exact b6.none|succ n U=>intro a l h g;refine(ml h).andThen λx j c b=> ?_;have d:=g.app ⟨b.1.name b.2,b.1.pos (by rw[b.2];decide)⟩;refine jH c (λo i _ f=>U _ i f d) (b6.ok c ⟨d,Zs⟩)
def Fq{aZ:eM}{w:Option Tok}{l:List Tok}(c:ed aZ l):b6 aZ (λr:aA×Int×Bool=>((r.1≠[]->aZ.N r.1)/\(r.1=[]->r.2.2=false))/\aZ.A r.2.1) (lH w l):=by
 unfold lH;split
 ·exact b6.ok c ⟨⟨λh=>absurd rfl h,λ_=>rfl⟩,aZ.a0⟩
 ·refine jH c (λo f _ d=> ?_) ?_
  ·exact(ml d).andThen λx e b a=>b6.ok b ⟨⟨λ_=>a.1.name a.2,λh=>absurd h (aZ.aB _ (a.1.name a.2))⟩,a.1.pos (by rw[a.2];decide)⟩
  ·exact(ml c).andThen λx e b a=>b6.ok b ⟨⟨λ_=>a.1.name a.2,λh=>absurd h (aZ.aB _ (a.1.name a.2))⟩,a.1.pos (by rw[a.2];decide)⟩
def ed.drop{aZ:eM}{l:List Tok}(h:ed aZ l)(n:Nat):ed aZ (l.drop n):=λx a=>h x (zn a)
def Fp{aZ:eM}{loc:Bool}{k:List cG->List Tok->di (List cG)}{aI:List cG->Prop}{bb:List cG}{l:List Tok}(a:ed aZ l)(c:aI bb)(b:∀d,ed aZ d->b6 aZ aI (k bb d)):b6 aZ aI (ks loc k bb l):=by
 unfold ks;split
 ·exact b6.none
 ·split
  ·split
   ·split
    ·exact b6.none
    ·split
     ·exact b6.ok a c
     ·exact b _ (a.drop 1)
   ·exact b _ (a.drop 1)
  ·exact b6.ok a c
def y5{aZ:eM}{loc:Bool}:∀(n:Nat) (bb:List cG) (l:List Tok),ed aZ l->(∀d∈bb,l1 aZ d)->b6 aZ (λbb=>(∀d∈bb,l1 aZ d)/\bb≠[]) (ep n loc bb l):=by
 intro n;induction n with
 |zero=>intro bb l _ _;rw[ep];exact b6.none|succ n U=>
  intro bb l s ai;refine(G7 n [] l s (λ_ h=>by cases h)).andThen λA c j b=> ?_;refine(im j).andThen λ_ C k _=> ?_;refine(ml k).andThen λt G f g=> ?_;have a:∀r:aA×Int×Bool,((r.1≠[]->aZ.N r.1)/\(r.1=[]->r.2.2=false))/\aZ.A r.2.1->∀d∈bb++A.map (iS t.ty r.1 r.2.1 r.2.2),l1 aZ d:=by
   intro r K d p;rcases Zp.1 p with h|h
   ·grind
   ·obtain⟨x,i,rfl⟩:=ZC.1 h;exact⟨(b.1 x i).1,g.1.type g.2,K.1.1,K.1.2,(b.1 x i).2,K.2⟩
  refine jH f (λw L _ m=> ?_) ?_
  ·refine(Fq m).andThen λr v e K=> ?_;exact Fp e ⟨a r K,by simp[b.2]⟩ (λc h=>U _ c h (a r K))
  ·refine(Fq f).andThen λr v e K=> ?_;exact Fp e ⟨a r K,by simp[b.2]⟩ (λc h=>U _ c h (a r K))
def PO{aZ:eM}(n:Nat){l:List Tok}(d:ed aZ l):b6 aZ (tB aZ) (lJ n l):=by
 have k:∀(b:List Tok) (l:List Tok),ed aZ l->pV aZ b/\b≠[]->b6 aZ (tB aZ) (andThen (ce [61] l) λe l=>andThen (arrow n l) λr l=>andThen (ce [59] l) λ_ l=>ok ⟨b.map Tok.text,b.map Tok.at_,e.at_,r⟩ l):=by
  intro b l d a;refine(im d).andThen λe p f C=> ?_;refine((NW aZ n).arrow p f).andThen λr t c K=> ?_;refine(im c).andThen λ_ v g _=>b6.ok g ⟨?_,by simp[a.2],K,C, ?_⟩
  ·intro s h;obtain⟨x,i,rfl⟩:=ZC.1 h;exact(a.1 x i).1
  ·intro s h;obtain⟨x,i,rfl⟩:=ZC.1 h;exact(a.1 x i).2
 have j:∀x:Tok,p3 aZ x/\x.kind=1->pV aZ [x]:=λx a o m=>by simp at m;subst m;exact⟨a.1.name a.2,a.1.pos (by rw[a.2];decide)⟩
 refine jH d (λo p _ f=> ?_) ?_
 ·refine b6.andThen ?_ k;refine(ml f).andThen λx t c a=> ?_;refine(im c).andThen λ_ v g _=> ?_;refine(G7 n [x] v g (j x a)).andThen λb L w G=> ?_;exact(im w).andThen λ_ N A _=>b6.ok A G
 ·refine b6.andThen ?_ k;exact(ml d).andThen λx t c a=>b6.ok c ⟨j x a,Zs⟩
def PU{aZ:eM}:∀(n:Nat) (a:List cA) (l:List Tok),ed aZ l->(∀V∈a,tB aZ V)->b6 aZ (λa=>∀V∈a,tB aZ V) (fJ n a l):=by intro n;induction n with|zero=>intro a l _ _;rw[fJ];exact b6.none|succ n U=>intro a l c e;refine jH c (λo d _ b=>b6.ok b e) ?_;refine(PO n c).andThen λV d b f=>U _ d b ?_;grind
def Tw{aZ:eM}(n:Nat){l:List Tok}(b:ed aZ l):b6 aZ (hN aZ) (node n l):=by
 refine(im b).andThen λ_ l i _=> ?_;refine(ml i).andThen λx l j f=> ?_;refine(im j).andThen λ_ l c _=> ?_;have t:∀(cm:List cG) (l:List Tok),ed aZ l->(∀d∈cm,l1 aZ d)->b6 aZ (hN aZ) (andThen (ce [114,101,116,117,114,110,115] l) λ_ l=>andThen (ce [40] l) λ_ l=>andThen (ep n false [] l) λout l=>andThen (ce [41] l) λ_ l=>
  el [118,97,114] l λo l=>andThen (match o with
   |some _=>andThen (ep n true [] l) λbb l=>andThen (ce [59] l) λ_ l=>ok bb l|none=>ok [] l) λloc l=>
  andThen (ce [108,101,116] l) λ_ l=>andThen (fJ n [] l) λg l=>ok ⟨x.text,x.at_,cm,out,loc,g⟩ l):=by
  intro cm l b ag;refine(im b).andThen λ_ l i _=> ?_;refine(im i).andThen λ_ l j _=> ?_;refine(y5 n [] l j (λ_ h=>by cases h)).andThen λout l c s=> ?_;refine(im c).andThen λ_ l e _=> ?_;have r:∀(loc:List cG) (l:List Tok),ed aZ l->(∀d∈loc,l1 aZ d)->b6 aZ (hN aZ) (andThen (ce [108,101,116] l) λ_ l=>andThen (fJ n [] l) λg l=>ok ⟨x.text,x.at_,cm,out,loc,g⟩ l):=by intro loc l b w;refine(im b).andThen λ_ l k _=> ?_;exact(PU n [] l k (λ_ h=>by cases h)).andThen λg l a A=>b6.ok a ⟨f.1.name f.2,ag,s.1,w,s.2,A,f.1.pos (by rw[f.2];decide)⟩
  refine jH e (λo v _ k=> ?_) ?_
  ·refine b6.andThen ?_ r;refine(y5 n [] v k (λ_ h=>by cases h)).andThen λbb l a p=> ?_;exact(im a).andThen λ_ l m _=>b6.ok m p.1
  ·exact b6.andThen (b6.ok e (λ_ h=>by cases h)) r
 refine jH c (λo v _ e=> ?_) ?_
 ·exact b6.andThen (b6.ok e (λ_ h=>by cases h)) t
 ·refine b6.andThen ?_ t;refine(y5 n [] _ c (λ_ h=>by cases h)).andThen λbb l a p=> ?_;exact(im a).andThen λ_ l m _=>b6.ok m p.1
def TA{aZ:eM}:∀(n:Nat) (Y:List Node) (l:List Tok),ed aZ l->(∀g∈Y,hN aZ g)->b6 aZ (λY=>(∀g∈Y,hN aZ g)/\Y≠[]) (nodes n Y l):=by
 intro n;induction n with
 |zero=>intro Y l _ _;rw[nodes];exact b6.none|succ n U=>
  intro Y l d e;refine(Tw n d).andThen λg h b f=> ?_;have c:∀a∈Y++[g],hN aZ a:=by grind
  split
  ·exact b6.none
  ·split
   ·exact b6.ok b ⟨c,Zs⟩
   ·grind
end
end Go.ak
namespace Go.Proofs.YtehmapikajmjaaaGreatDoor
open Go.aF Go.ak
noncomputable section
structure sa(s:aA):Prop where
 ne:s≠[]
 len:s.length<=32
 Of:∀c,s.head?=some c->j3 c=true
 all:∀c∈s,fh c=true
 res:s∉mu
 ty:gS s=none
def yp(t:cH)(n:Int):Prop:=gw t=true/\mh t n=true/\0<=n/\n<18446744073709551616
def Rf:mh ⟨true,false,1⟩ 0=true:=by rfl
def Rg:mh ⟨true,false,1⟩ 1=true:=by rfl
def gm:eM:=⟨sa,λt=>gw t=true,yp,λ_ h=>h.ne,rfl,⟨rfl,Rf,Zo,Zo⟩,⟨rfl,Rg,Zo,Zo⟩,λ_ _ h=>h.1,λ_=>True,trivial⟩
def p4(n:Nat):eM:={gm with A:=λa=>0<=a/\a<=n,a0:=⟨zC 0,Int.natCast_nonneg n⟩}
def acG{
 s:aA}{i:Nat}{x:Tok}(h:nk s i=some x):p3 gm (hk x i):=by
 unfold nk at h;cases e:s[i]? with
 |none=>grind|some c=>
  rw[e]at h;simp only[]at h;obtain⟨m,n⟩:=Ze.1 e;have ai:s.drop i=c::s.drop (i+1):=by rw[Zz m,n]
  split at h
  ·unfold q9 at h;simp only[]at h;split at h
   ·cases h
   ·have v:=HS ((s.drop i).takeWhile fa);split at h
    ·cases h;exact⟨λh=>by simp[hk]at h,λh=>by simp[hk]at h,λ_=>by simp only[hk];omega,λh=>by simp[hk]at h,λ_=>trivial⟩
    ·split at h
     ·rename_i t b;split at h
      ·rename_i f;cases h;simp only[Zu]at f;exact⟨λh=>by simp[hk]at h,λh=>by simp[hk]at h,λh=>by simp[hk]at h,λ_=>⟨B0 b,f.2,by simp only[hk];omega,by simp only[hk];omega⟩,λ_=>trivial⟩
      ·cases h
     ·cases h
  ·split at h
   ·rename_i W;split at h
    ·rename_i k;cases h;have j:(s.drop i).takeWhile fh=c::(s.drop (i+1)).takeWhile fh:=by
      rw[ai]
      have:fh c=true:=by simp[fh,W]
      simp[this]
     refine⟨λh=> ?_,λh=> ?_,λh=> ?_,λh=> ?_,λ_=>trivial⟩
     ·simp only[hk,lP]at h ⊢;split at h
      ·cases h
      ·rename_i a;split at h
       ·cases h
       ·rename_i K;have l:((s.drop i).takeWhile fh).length<=32:=(by simpa[lP]using k);refine⟨by rw[j];simp,l, ?_,In fh _,K,by simpa using a⟩;intro r d;rw[j]at d;cases d;exact W
     ·simp only[lP]at h ⊢;split at h
      ·rename_i a;cases b:gS ((s.drop i).takeWhile fh)with
       |none=>rw[b]at a;cases a|some t=>exact B0 b
      ·split at h<;>cases h
     ·simp only[lP]at h;split at h
      ·cases h
      ·split at h<;>cases h
     ·simp only[lP]at h;split at h
      ·cases h
      ·split at h<;>cases h
    ·cases h
   ·cases g:mw s i with|none=>rw[g]at h;cases h|some p=>rw[g]at h;cases h;exact⟨λh=>by simp[hk,ry]at h,λh=>by simp[hk,ry]at h,λh=>by simp[hk,ry]at h,λh=>by simp[hk,ry]at h,λ_=>trivial⟩
def acK{s:aA}:∀(n:Nat) (az:List Tok) (i:Nat) (c2:List Tok),ed gm az->ja s n az i=some (.ok c2)->ed gm c2:=by
 intro n;induction n with
 |zero=>intro az i c2 _ h;cases h|succ n U=>
  intro az i c2 b h;rw[ja]at h;split at h
  ·split at h
   ·cases h
   ·rename_i x c;refine U _ _ _ ?_ h;intro o a;rcases Zp.1 a with a|a
    ·exact b o a
    ·simp at a;subst a;exact acG c
  ·cases h;intro o a;rcases Zp.1 a with a|a
   ·exact b o a
   ·simp at a;subst a;exact⟨λh=>by simp at h,λh=>by simp at h,λh=>by simp at h,λh=>by simp at h,λ_=>trivial⟩
def acH{s:aA}:∀(n:Nat) (az:List Tok) (i:Nat) (c2:List Tok),(∀x∈az,x.kind≠7->0<=x.at_/\x.at_<=s.length)->ja s n az i=some (.ok c2)->∀x∈c2,x.kind≠7->0<=x.at_/\x.at_<=s.length:=by
 intro n;induction n with
 |zero=>intro az i c2 _ h;cases h|succ n U=>
  intro az i c2 b h;rw[ja]at h;split at h
  ·rename_i ag;split at h
   ·cases h
   ·rename_i x c;refine U _ _ _ ?_ h;intro o a;rcases Zp.1 a with a|a
    ·exact b o a
    ·simp at a;subst a;intro _;simp only[hk];omega
  ·cases h;intro o a;rcases Zp.1 a with a|a
   ·exact b o a
   ·simp at a;subst a;intro h;exact absurd rfl h
def aag{s:aA}{Y:List GT}(h:lR s=.ok Y):(∀g∈Y,hN (p4 s.length) g)/\Y≠[]/\jw Y=none:=by
 unfold lR at h;split at h
 ·rename_i r K;subst h;unfold nc at K;split at K
  ·grind
  ·grind
  ·rename_i az c;have j:=acH _ _ _ _ (λ_ h=>by cases h) c;have k:ed (p4 s.length) az:=λx d=>(by obtain⟨a,b,e,f,_⟩:=acK _ _ _ _ (λ_ h=>by cases h) c x d;exact⟨a,b,e,f,j x d⟩);split at K
   ·grind
   ·grind
   ·rename_i m l i;obtain⟨a,b⟩:=TA _ _ _ k (λ_ h=>by cases h) _ _ i;grind
 ·cases h
def Tr{n:Nat}{e:aX}(h:pX (p4 n) e):pX gm e:=⟨trivial,h.a7,h.bl,h.oN,h.nm,h.xa,h.no,h.ty,h.cd,h.Hk,h.ci,h.aB,h.gX⟩
mutual
def IM{n:Nat}:∀{e:aX},dw (p4 n) e->dw gm e
 | .mk ..,h=>by rw[dw]at h ⊢;exact⟨Tr h.1,IN h.2⟩
def IN{n:Nat}:∀{l:List aX},dJ (p4 n) l->dJ gm l
 |[],_=>dJ.nil|_::_,h=>by rw[dJ]at h;exact dJ.cons (IM h.1) (IN h.2)
end
def y3{n:Nat}{d:cG}(h:l1 (p4 n) d):l1 gm d:=⟨h.name,h.type,h.on,h.no,trivial,trivial⟩
def Tt{n:Nat}{g:GT}(h:hN (p4 n) g):hN gm g:=⟨h.name,λd ai=>y3 (h.cm d ai),λd ai=>y3 (h.out d ai),λd ai=>y3 (h.loc d ai),h.some,λV a=>⟨(h.eqs V a).left,(h.eqs V a).some,IM (h.eqs V a).right,trivial,λ_ _=>trivial⟩,trivial⟩
def aaf{s:aA}{Y:List GT}(h:lR s=.ok Y):(∀g∈Y,hN gm g)/\Y≠[]/\jw Y=none:=
 have k:=aag h
 ⟨λg a=>Tt (k.1 g a),k.2⟩
end
end Go.Proofs.YtehmapikajmjaaaGreatDoor
namespace Go.ak
def G8{N:Nat}:∀(n:Nat) (c2 l:List Tok),l.length<=N->be (λ_ a=>a.length<=N) (i1 n c2 l):=by intro n;induction n with|zero=>intro c2 l _;rw[i1];exact be.none|succ n U=>intro c2 l e;exact mm.andThen λx bw c=>jI (λo b d=>U _ b Zo) (be.ok Zo)
def y6{N:Nat}{loc:Bool}:∀(n:Nat) (bb:List cG) (l:List Tok),l.length<=N->be (λ_ c=>c.length<=N) (ep n loc bb l):=by
 intro n;induction n with
 |zero=>intro bb l _;rw[ep];exact be.none|succ n U=>
  intro bb l a;refine(G8 n [] l a).andThen λs bw i=> ?_;refine io.andThen λ_ m j=>mm.andThen λt p k=> ?_;have e:∀(bb:List cG) (l:List Tok),l.length<=N->be (λ_ c=>c.length<=N) (ks loc (ep n loc) bb l):=by
   intro bb l a;have ai:(l.drop 1).length<=N:=(by grind);unfold ks;split
   ·exact be.none
   ·split
    ·split
     ·split
      ·exact be.none
      ·split
       ·exact be.ok a
       ·grind
     ·grind
    ·exact be.ok a
  have f:∀(w:Option Tok) (l:List Tok),l.length<=N->be (λ_ c=>c.length<=N) (lH w l):=by
   intro w l a;unfold lH;split
   ·exact be.ok a
   ·exact jI (λo g h=>mm.andThen λx d b=>be.ok Zo) (mm.andThen λx d b=>be.ok Zo)
  exact jI (λw g h=>(f _ g Zo).andThen λr d b=>e _ _ b) ((f _ _ Zo).andThen λr d b=>e _ _ b)
def PP{N:Nat}(n:Nat){l:List Tok}(k:l.length<=N):be (λV c=>eT V.right<=N/\c.length<=N) (lJ n l):=by
 have d:∀(a:List Tok) (l:List Tok),l.length<=N->be (λV c=>eT V.right<=N/\c.length<=N) (andThen (ce [61] l) λe l=>andThen (arrow n l) λr l=>andThen (ce [59] l) λ_ l=>ok (⟨a.map Tok.text,a.map Tok.at_,e.at_,r⟩:cA) l):=by intro a l k;refine io.andThen λe f i=>((NY n).2.2.2.2.2.2.2.2.2.2.2 f).andThen λr g b=>io.andThen λ_ h j=>be.ok ?_;unfold fp at b;grind
 refine jI (λo f i=> ?_) ?_
 ·refine be.andThen ?_ d;exact mm.andThen λx g b=>io.andThen λ_ h j=>(G8 (N:=N) n [x] h Zo).andThen λa s m=>io.andThen λ_ t p=>be.ok Zo
 ·refine be.andThen ?_ d;exact mm.andThen λx g b=>be.ok Zo
def PV{N:Nat}:∀(n:Nat) (a:List cA) (l:List Tok),l.length<=N->(∀V∈a,eT V.right<=N)->be (λa f=>(∀V∈a,eT V.right<=N)/\f.length<=N) (fJ n a l):=by intro n;induction n with|zero=>intro a l _ _;rw[fJ];exact be.none|succ n U=>intro a l d e;refine jI (λo c b=>be.ok ⟨e,Zo⟩) ((PP n d).andThen λV c b=>U _ c b.2 λg h=> ?_);grind
def Tx{N:Nat}(n:Nat){l:List Tok}(e:l.length<=N):be (λg a=>(∀V∈g.eqs,eT V.right<=N)/\a.length<=N) (node n l):=by
 refine io.andThen λ_ bw v=>mm.andThen λx P A=>io.andThen λ_ X C=> ?_;have f:∀(cm out loc:List cG) (l:List Tok),l.length<=N->be (λg a=>(∀V∈g.eqs,eT V.right<=N)/\a.length<=N) (andThen (ce [108,101,116] l) λ_ l=>andThen (fJ n [] l) λb l=>ok (⟨x.text,x.at_,cm,out,loc,b⟩:Node) l):=by intro cm out loc l e;exact io.andThen λ_ d k=>(PV n [] d Zo (λ_ h=>by cases h)).andThen λb r c=>be.ok c
 have i:∀(cm:List cG) (l:List Tok),l.length<=N->be (λg a=>(∀V∈g.eqs,eT V.right<=N)/\a.length<=N) (andThen (ce [114,101,116,117,114,110,115] l) λ_ l=>andThen (ce [40] l) λ_ l=>andThen (ep n false [] l) λout l=>andThen (ce [41] l) λ_ l=>
  el [118,97,114] l λo l=>andThen (match o with
   |some _=>andThen (ep n true [] l) λbb l=>andThen (ce [59] l) λ_ l=>ok bb l|none=>ok [] l) λloc l=>
  andThen (ce [108,101,116] l) λ_ l=>andThen (fJ n [] l) λb l=>ok (⟨x.text,x.at_,cm,out,loc,b⟩:Node) l):=by
  intro cm l e;refine io.andThen λ_ p j=>io.andThen λ_ d k=>(y6 (N:=N) n [] d Zo).andThen λout r c=>io.andThen λ_ s m=> ?_;refine jI (λo t G=> ?_) ?_
  ·exact be.andThen ((y6 (N:=N) n [] t Zo).andThen λbb T0 L=>io.andThen λ_ O w=>be.ok Zo) λloc l h=>f cm out loc l h
  ·exact be.andThen (be.ok Zo) λloc l h=>f cm out loc l h
 refine jI (λo p j=> ?_) ?_
 ·exact be.andThen (be.ok Zo) i
 ·exact be.andThen ((y6 (N:=N) n [] _ Zo).andThen λbb l c=>io.andThen λ_ s m=>be.ok Zo) i
def TB{N:Nat}:∀(n:Nat) (Y:List Node) (l:List Tok),l.length<=N->(∀g∈Y,∀V∈g.eqs,eT V.right<=N)->be (λY _=>∀g∈Y,∀V∈g.eqs,eT V.right<=N) (nodes n Y l):=by
 intro n;induction n with
 |zero=>intro Y l _ _;rw[nodes];exact be.none|succ n U=>
  intro Y l c e;refine(Tx n c).andThen λg f d=> ?_;have b:∀a∈Y++[g],∀V∈a.eqs,eT V.right<=N:=by grind
  split
  ·exact be.none
  ·split
   ·exact be.ok b
   ·grind
end Go.ak
namespace Go.Proofs.YtehmapikajmjaaaGreatDoor
open Go.aF Go.ak
def aae{s:aA}{Y:List GT}(h:lR s=.ok Y):∀g∈Y,∀V∈g.eqs,eT V.right<=s.length+1:=by
 unfold lR at h;split at h
 ·rename_i r K;subst h;unfold nc at K;split at K
  ·grind
  ·grind
  ·rename_i az c;have a:=BZ s _ _ _ _ Zs (sn s _ _ Zo) c;split at K
   ·grind
   ·grind
   ·rename_i d l b;have e:=TB _ _ _ a (λ_ h=>by cases h) _ _ b;grind
 ·cases h
end Go.Proofs.YtehmapikajmjaaaGreatDoor
namespace Go.ak
section
variable{α cr:Type}
def B6{s:aA}{l:List Tok}:be (λx a=>l=x::a) (ce s l):=by
 cases l with
 |nil=>exact be.none|cons x l=>
  simp only[ce];split
  ·exact be.ok rfl
  ·exact be.bad _
def AK{k:Int}{l:List Tok}:be (λx a=>l=x::a) (ew k l):=by
 cases l with
 |nil=>exact be.none|cons x l=>
  simp only[ew];split
  ·exact be.ok rfl
  ·exact be.bad _
def Io{s:aA}{l:List Tok}{f:Option Tok->List Tok->di cr}{aI:cr->List Tok->Prop}(c:∀x b,l=x::b->be aI (f (some x) b))(d:be aI (f none l)):be aI (el s l f):=by
 cases l with
 |nil=>exact be.none|cons x l=>
  unfold el f5;by_cases a:d4 x s=true
  ·simp only[a,ZL];exact c x l rfl
  ·simp only[a,ZJ];exact d
def Oj{l:List Tok}:∀(os:List (aA×Int)) e b,gV os l=some (e,b)->b=l\/∃x,l=x::b:=by
 intro os;induction os with
 |nil=>intro e b a;cases a;exact .inl rfl|cons I os U=>
  obtain⟨s,k⟩:=I;intro e b a;cases l with
  |nil=>simp[gV,f5]at a|cons x l=>
   unfold gV f5 at a;by_cases c:d4 x s=true
   ·simp only[c,ZL]at a;cases a;exact .inr ⟨_,rfl⟩
   ·simp only[c,ZJ]at a;exact U e b a
structure Nw(P:List Tok->Prop)(n:Nat):Prop where
 a:∀k l,P l->be (λ_ m=>P m) (level n k l)
 b:∀k e l,P l->be (λ_ m=>P m) (g9 n k e l)
 c:∀l,P l->be (λ_ m=>P m) (shift n l)
 d:∀e l,P l->be (λ_ m=>P m) (hr n e l)
 e:∀k x e l,P l->be (λ_ m=>P m) (hs n k x e l)
 f:∀l,P l->be (λ_ m=>P m) (jC n l)
 g:∀e l,P l->be (λ_ m=>P m) (gU n e l)
 h:∀l,P l->be (λ_ m=>P m) (part n l)
 i:∀l,P l->be (λ_ m=>P m) (list n l)
 j:∀c2 l,P l->be (λ_ m=>P m) (ha n c2 l)
 k:∀l,P l->be (λ_ m=>P m) (fZ n l)
 l:∀l,P l->be (λ_ m=>P m) (arrow n l)
def NZ{P:List Tok->Prop}(aV:∀x l,P (x::l)->P l):∀n,Nw P n:=by
 have C:∀{s:aA}{l:List Tok},P l->be (λ_ g=>P g) (ce s l):=λh=>B6.mono λx l e=>aV x l (e▸h);have G:∀{k:Int}{l:List Tok},P l->be (λ_ g=>P g) (ew k l):=λh=>AK.mono λx l e=>aV x l (e▸h);have v:∀{cr:Type}{s:aA}{l:List Tok}{f:Option Tok->List Tok->di cr},P l->(∀x g,P g->be (λ_ g=>P g) (f (some x) g))->be (λ_ g=>P g) (f none l)->be (λ_ g=>P g) (el s l f):=
  λh j d=>Io (λx g e=>j x g (aV x g (e▸h))) d
 have W:∀{os:List (aA×Int)}{l:List Tok}{e g},P l->gV os l=some (e,g)->P g:=λh e=>by
  rcases Oj _ _ _ e with e|⟨x,e⟩
  ·exact e▸h
  ·exact aV x _ (e▸h)
 intro n;induction n with
 |zero=>
  refine⟨λk l _=> ?_,λk e l _=> ?_,λl _=> ?_,λe l _=> ?_,λk x e l _=> ?_,λl _=> ?_,λe l _=> ?_,λl _=> ?_,λl _=> ?_,λc2 l _=> ?_,λl _=> ?_,λl _=> ?_⟩
  ·rw[level];exact be.none
  ·rw[g9];exact be.none
  ·rw[shift];exact be.none
  ·rw[hr];exact be.none
  ·rw[hs];exact be.none
  ·rw[jC];exact be.none
  ·rw[gU];exact be.none
  ·rw[part];exact be.none
  ·rw[list];exact be.none
  ·rw[ha];exact be.none
  ·rw[fZ];exact be.none
  ·rw[arrow];exact be.none
 |succ n U=>
  refine⟨λk l p=> ?_,λk e l p=> ?_,λl p=> ?_,λe l p=> ?_,λk x e l p=> ?_,λl p=> ?_,λe l p=> ?_,λl p=> ?_,λl p=> ?_,λc2 l p=> ?_,λl p=> ?_,λl p=> ?_⟩
  ·rw[level];split
   ·exact U.c l p
   ·exact(U.a _ l p).andThen λa bw h=>U.b k a bw h
  ·rw[g9];split
   ·exact be.none
   ·rename_i A;exact be.ok (W p A)
   ·rename_i A;refine(U.a _ _ (W p A)).andThen λr i d=> ?_;split
    ·exact be.ok d
    ·exact U.b k _ i d
  ·rw[shift];exact(U.f l p).andThen λa bw h=>U.d a bw h
  ·rw[hr];exact v p (λx bw h=>U.e 19 x e bw h) (v p (λx bw h=>U.e 20 x e bw h) (be.ok p))
  ·rw[hs];refine(G p).andThen λm bw h=> ?_;split
   ·exact be.bad _
   ·exact U.d _ bw h
  ·rw[jC];split
   ·exact be.none
   ·rename_i A;exact(U.f _ (W p A)).andThen λa i d=>be.ok d
   ·rename_i A;exact(U.h _ (W p A)).andThen λa i d=>U.g a i d
  ·rw[gU];exact v p (λx bw h=>v h (λo i d=>(G d).andThen λc w t=>U.g _ w t) ((G h).andThen λc w t=>U.g _ w t)) (be.ok p)
  ·cases l with
   |nil=>rw[part];exact be.none|cons x l=>
    rw[part];have p:=aV x l p;split
    ·exact be.ok p
    split
    ·exact be.ok p
    split
    ·exact v p (λo bw h=>(U.i bw h).andThen λc2 i d=>be.ok d) (be.ok p)
    split
    ·exact(C p).andThen λ_ bw j=>(U.l bw j).andThen λe i d=>(C d).andThen λ_ w t=>be.ok t
    split
    ·exact(U.l l p).andThen λe i d=>(C d).andThen λ_ w t=>be.ok t
    split
    ·exact(U.l l p).andThen λc bw j=>(C j).andThen λ_ i d=>(U.l i d).andThen λa w t=>(C t).andThen λ_ O L=>(U.l O L).andThen λb X N=>be.ok N
    split
    ·exact(G p).andThen λc bw j=>(U.h bw j).andThen λa i d=>(U.h i d).andThen λb w t=>be.ok t
    ·exact be.bad _
  ·rw[list];exact v p (λo bw h=>be.ok h) ((U.l l p).andThen λe bw j=>U.j [e] bw j)
  ·rw[ha];exact v p (λo bw h=>(U.l bw h).andThen λe i d=>U.j _ i d) ((C p).andThen λ_ bw j=>be.ok j)
  ·rw[fZ];refine(U.a 0 l p).andThen λa bw j=>v j (λx i d=> ?_) (be.ok j);cases kD a with|none=>exact be.none|some V=>cases V with|false=>exact be.bad _|true=>exact(U.k i d).andThen λr w t=>be.ok t
  ·rw[arrow];exact(U.k l p).andThen λa bw j=>v j (λx i d=>(U.l i d).andThen λr w t=>be.ok t) (be.ok j)
def dy(a:Int)(l:List Tok):Prop:=l.Pairwise (λx o=>x.at_<o.at_)/\∀t∈l,a<t.at_
def dy.hf{a:Int}(x:Tok)(l:List Tok)(h:dy a (x::l)):dy a l:=⟨(Yc.1 h.1).2,λt b=>h.2 t (Zw _ b)⟩
def dy.ai{a:Int}{x:Tok}{l:List Tok}(h:dy a (x::l)):a<x.at_/\dy x.at_ l:=⟨h.2 x (Zr ..),(Yc.1 h.1).2,(Yc.1 h.1).1⟩
def lU{a:Int}{s:aA}{l:List Tok}(h:dy a l):be (λ_ b=>dy a b) (ce s l):=B6.mono λx l e=>dy.hf x l (e▸h)
def va{a:Int}{k:Int}{l:List Tok}(h:dy a l):be (λ_ b=>dy a b) (ew k l):=AK.mono λx l e=>dy.hf x l (e▸h)
def rB{a:Int}{s:aA}{l:List Tok}{f:Option Tok->List Tok->di cr}{aI:cr->List Tok->Prop}(h:dy a l)(c:∀x b,dy a b->be aI (f (some x) b))(d:be aI (f none l)):be aI (el s l f):=
 Io (λx b e=>c x b (dy.hf x b (e▸h))) d
def G9{a:Int}:∀(n:Nat) (c2 l:List Tok),dy a l->be (λ_ e=>dy a e) (i1 n c2 l):=by intro n;induction n with|zero=>intro c2 l _;rw[i1];exact be.none|succ n U=>intro c2 l d;rw[i1];exact(va d).andThen λx bw b=>rB b (λo f c=>U _ f c) (be.ok b)
def gF(c b:Int)(bb:List cG):Prop:=∀d∈bb,d.on≠[]->c<d.cC/\d.cC<=b
def gF.up{c a b:Int}{bb:List cG}(h:gF c a bb)(f:a<=b):gF c b bb:=λd ai e=>⟨(h d ai e).1,Int.le_trans (h d ai e).2 f⟩
def y7{c:Int}{loc:Bool}:∀(n:Nat) (bb:List cG) (l:List Tok) (a:Int),dy a l->c<=a->gF c a bb->be (λi g=>∃b,a<=b/\dy b g/\gF c b i) (ep n loc bb l):=by
 intro n;induction n with
 |zero=>intro bb l a _ _ _;rw[ep];exact be.none|succ n U=>
  intro bb l a f T3 ai;rw[ep];refine(G9 n [] l f).andThen λT2 bw p=> ?_;unfold sv;refine(lU p).andThen λ_ T4 k=>(va k).andThen λt T1 j=> ?_;have P:∀(bb:List cG) (l:List Tok) (b:Int),a<=b->dy b l->gF c b bb->be (λi g=>∃b,a<=b/\dy b g/\gF c b i) (ks loc (ep n loc) bb l):=by
   intro bb l b C f ai;have T0:dy b (l.drop 1):=by cases l with|nil=>exact f|cons x l=>exact dy.hf x l f
   have ag:be (λi g=>∃b,a<=b/\dy b g/\gF c b i) (ep n loc bb (l.drop 1)):=(U bb _ b T0 Zo ai).mono λi g ⟨O,p,k,j⟩=>⟨O,Zo,k,j⟩;unfold ks;split
   ·exact be.none
   ·split
    ·split
     ·split
      ·exact be.none
      ·split
       ·exact be.ok ⟨b,C,f,ai⟩
       ·exact ag
     ·exact ag
    ·exact be.ok ⟨b,C,f,ai⟩
  have X:∀(w:Option Tok) (l:List Tok),dy a l->be (λ(r:aA×Int×Bool) g=>∃b,a<=b/\dy b g/\(r.1≠[]->a<r.2.1/\r.2.1<=b)) (lH w l):=by
   intro w l f;unfold lH;split
   ·exact be.ok ⟨a,zC _,f,λh=>absurd rfl h⟩
   ·have G:∀(no:Option Tok) (l:List Tok),dy a l->be (λ(r:aA×Int×Bool) g=>∃b,a<=b/\dy b g/\(r.1≠[]->a<r.2.1/\r.2.1<=b)) (andThen (ew 1 l) λon l=>ok (on.text,on.at_,no.isSome) l):=λno l f=>
     AK.andThen λx N e=>be.ok (by have:=(dy.ai (e▸f));exact⟨x.at_,Zo,this.2,λ_=>⟨this.1,zC _⟩⟩)
    exact rB f (λo v s=>G _ v s) (G _ l f)
  have A:∀(w:Option Tok) (l:List Tok),dy a l->be (λi g=>∃b,a<=b/\dy b g/\gF c b i) (andThen (lH w l) λr l=>ks loc (ep n loc) (bb++T2.map (iS t.ty r.1 r.2.1 r.2.2)) l):=λw l f=>
   (X w l f).andThen λr N ⟨b,p,k,j⟩=>P _ N b p k (by
    intro d m L;rcases Zp.1 m with m|m
    ·have:=ai d m L;omega
    ·obtain⟨x,_,rfl⟩:=ZC.1 m;have s:=j L;show c<r.2.1/\r.2.1<=b;omega)
  exact rB j (λw v s=>A _ v s) (A _ T1 j)
def PQ{a:Int}(n:Nat){l:List Tok}(d:dy a l):be (λV b=>a<V.at_/\dy V.at_ b) (lJ n l):=by
 have j:∀(f:List Tok) (l:List Tok),dy a l->be (λV b=>a<V.at_/\dy V.at_ b) (andThen (ce [61] l) λe l=>andThen (arrow n l) λr l=>andThen (ce [59] l) λ_ l=>ok (⟨f.map Tok.text,f.map Tok.at_,e.at_,r⟩:cA) l):=by intro f l d;refine B6.andThen λe k g=> ?_;have h:=dy.ai (g▸d);exact((NZ (dy.hf (a:=e.at_)) n).l k h.2).andThen λr m c=>(lU c).andThen λ_ p i=>be.ok ⟨h.1,i⟩
 unfold lJ;refine rB d (λo k g=> ?_) ?_
 ·refine be.andThen (aI:=λ_ b=>dy a b) ?_ j;exact(va g).andThen λx m c=>(lU c).andThen λ_ p i=>(G9 n [x] p i).andThen λf v s=>(lU s).andThen λ_ w t=>be.ok t
 ·refine be.andThen (aI:=λ_ b=>dy a b) ?_ j;exact(va d).andThen λx m c=>be.ok c
def r8(c b:Int)(a:List cA):Prop:=(a.map cA.at_).Pairwise (·<·)/\∀V∈a,c<V.at_/\V.at_<=b
def PW{c:Int}:∀(n:Nat) (g:List cA) (l:List Tok) (a:Int),dy a l->c<=a->r8 c a g->be (λm j=>∃b,a<=b/\dy b j/\r8 c b m) (fJ n g l):=by
 intro n;induction n with
 |zero=>intro g l a _ _ _;rw[fJ];exact be.none|succ n U=>
  intro g l a i A f;rw[fJ];refine rB i (λo k d=>be.ok ⟨a,zC _,d,f⟩) ((PQ n i).andThen λV k d=>(U _ k V.at_ d.2 Zo ⟨?_, ?_⟩).mono λm j ⟨b,w,p,r⟩=>⟨b,Zo,p,r⟩)
  ·rw[ZU,zp];refine⟨f.1,List.pairwise_singleton _ _,λx t o v=> ?_⟩;obtain⟨h,s,rfl⟩:=ZC.1 t;have:=ZB.1 v;have:=f.2 h s;have:=d.1;subst o;omega
  ·intro h e;rcases Zp.1 e with e|e
   ·have:=f.2 h e;have:=d.1;omega
   ·have:=ZB.1 e;subst this;have:=d.1;omega
def Node.bb(g:Node):List cG:=g.cm++(g.out++g.loc)
def Ty{a:Int}(n:Nat){l:List Tok}(j:dy a l):be (λg e=>∃b c,a<=b/\b<=c/\dy c e/\gF a b g.bb/\r8 b c g.eqs) (node n l):=by
 unfold node;refine(lU j).andThen λ_ bw p=>(va p).andThen λx T9 r=>(lU r).andThen λ_ TY G=> ?_;have N:∀{b:Int}{A C:List cG},gF a b A->gF a b C->gF a b (A++C):=λp r d ai P=>(Zp.1 ai).elim (λh=>p d h P) (λh=>r d h P);have O:∀(cm out loc:List cG) (l:List Tok) (b:Int),a<=b->dy b l->gF a b cm->gF a b out->gF a b loc->be (λg e=>∃b c,a<=b/\b<=c/\dy c e/\gF a b g.bb/\r8 b c g.eqs) (andThen (ce [108,101,116] l) λ_ l=>andThen (fJ n [] l) λm l=>ok (⟨x.text,x.at_,cm,out,loc,m⟩:Node) l):=by intro cm out loc l b v j T2 T3 i3;exact(lU j).andThen λ_ w t=>(PW (c:=b) n [] w b t (zC _) ⟨List.Pairwise.nil,λ_ h=>by cases h⟩).andThen λm T5 ⟨c,L,f,k⟩=>be.ok ⟨b,c,v,L,f,N T2 (N T3 i3),k⟩
 have nil:∀{b:Int},gF a b []:=λ_ h=>by cases h
 have X:∀(cm:List cG) (l:List Tok) (b:Int),a<=b->dy b l->gF a b cm->be (λg e=>∃b c,a<=b/\b<=c/\dy c e/\gF a b g.bb/\r8 b c g.eqs) (andThen (ce [114,101,116,117,114,110,115] l) λ_ l=>andThen (ce [40] l) λ_ l=>andThen (ep n false [] l) λout l=>andThen (ce [41] l) λ_ l=>
  el [118,97,114] l λo l=>andThen (match o with
   |some _=>andThen (ep n true [] l) λbb l=>andThen (ce [59] l) λ_ l=>ok bb l|none=>ok [] l) λloc l=>
  andThen (ce [108,101,116] l) λ_ l=>andThen (fJ n [] l) λm l=>ok (⟨x.text,x.at_,cm,out,loc,m⟩:Node) l):=by
  intro cm l b v j ag;refine(lU j).andThen λ_ T4 s=>(lU s).andThen λ_ w t=>(y7 (c:=a) n [] w b t v nil).andThen λout T5 ⟨bp,L,f,k⟩=>(lU f).andThen λ_ T6 f=> ?_;refine rB f (λo T7 T1=> ?_) ?_
  ·refine be.andThen (aI:=λloc e=>∃bG,bp<=bG/\dy bG e/\gF a bG loc) ((y7 (c:=a) n [] T7 bp T1 Zo nil).andThen λbb TZ ⟨bG,a7,bl,i⟩=>(lU bl).andThen λ_ T8 T0=>be.ok ⟨bG,a7,T0,i⟩) λloc l ⟨bG,a7,bl,i⟩=>O cm out loc l bG Zo bl (ag.up Zo) (k.up a7) i
  ·exact be.andThen (aI:=λloc e=>dy bp e/\gF a bp loc) (be.ok ⟨f,nil⟩) λloc l h=>O cm out loc l bp Zo h.1 (ag.up Zo) k h.2
 refine rB G (λo T4 s=> ?_) ?_
 ·exact be.andThen (aI:=λbb e=>dy a e/\gF a a bb) (be.ok ⟨s,nil⟩) λbb l h=>X bb l a (zC _) h.1 h.2
 ·exact be.andThen (aI:=λbb e=>∃b,a<=b/\dy b e/\gF a b bb) ((y7 (c:=a) n [] _ a G (zC _) nil).andThen λbb l ⟨b,a7,bl,i⟩=>(lU bl).andThen λ_ T6 f=>be.ok ⟨b,a7,f,i⟩) λbb l ⟨b,a7,bl,i⟩=>X bb l b a7 bl i
def oX(Y:List Node):List Int:=Y.flatMap λg=>g.eqs.map cA.at_
structure pY(Y:List Node)(a:Int):Prop where
 eqs:(oX Y).Pairwise (·<·)
 up:∀x∈oX Y,x<=a
 on:∀g∈Y,∀d∈g.bb,d.on≠[]->d.cC<=a/\d.cC∉oX Y
def pY.snoc{Y:List Node}{a b c:Int}{g:Node}(h:pY Y a)(t:a<=b)(v:b<=c)(ai:gF a b g.bb)(m:r8 b c g.eqs):pY (Y++[g]) c:=by
 have e:oX (Y++[g])=oX Y++g.eqs.map cA.at_:=by simp[oX]
 have j:∀x∈g.eqs.map cA.at_,b<x/\x<=c:=λx f=>by obtain⟨V,r,rfl⟩:=ZC.1 f;exact m.2 V r
 refine⟨?_, ?_, ?_⟩
 ·rw[e,zp];exact⟨h.eqs,m.1,λx f o s=>by have:=h.up x f;have:=j o s;omega⟩
 ·intro x f;rw[e]at f;rcases Zp.1 f with f|f
  ·have:=h.up x f;omega
  ·exact(j x f).2
 ·intro p i d k n;rcases Zp.1 i with i|i
  ·have l:=h.on p i d k n;refine⟨Zo,λf=> ?_⟩;rw[e]at f;rcases Zp.1 f with f|f
   ·exact l.2 f
   ·have:=j _ f;omega
  ·rw[ZB.1 i]at k;have l:=ai d k n;refine⟨Zo,λf=> ?_⟩;rw[e]at f;rcases Zp.1 f with f|f
   ·have:=h.up _ f;omega
   ·have:=j _ f;omega
def TC:∀(n:Nat) (Y:List Node) (l:List Tok) (a:Int),dy a l->pY Y a->be (λe _=>∃a,pY e a) (nodes n Y l):=by
 intro n;induction n with
 |zero=>intro Y l a _ _;rw[nodes];exact be.none|succ n U=>
  intro Y l a p m;rw[nodes];refine(Ty n p).andThen λg r ⟨b,c,f,h,i,j,k⟩=> ?_;have d:=m.snoc f h j k;split
  ·exact be.none
  ·split
   ·exact be.ok ⟨c,d⟩
   ·exact U _ _ c i d
end
end Go.ak
namespace Go.Proofs.YtehmapikajmjaaaGreatDoor
open Go.aF Go.ak
def acJ{s:aA}:∀(n:Nat) (az:List Tok) (i:Nat) (c2:List Tok),az.Pairwise (λx o=>x.at_<o.at_)->(∀x∈az,0<=x.at_/\x.at_<i)->ja s n az i=some (.ok c2)->dy (-1) c2:=by
 intro n;induction n with
 |zero=>intro az i c2 _ _ h;cases h|succ n U=>
  intro az i c2 f b h;have d:∀o:Tok,o.at_=(i:Int)->(az++[o]).Pairwise (λx o=>x.at_<o.at_):=λo e=>by rw[zp];exact⟨f,List.pairwise_singleton _ _,λx c aj g=>by rw[ZB.1 g,e];exact(b x c).2⟩
  rw[ja]at h;split at h
  ·split at h
   ·cases h
   ·rename_i x c;have j:=xR c;have k:=vZ s s.length (i+x.text.length);refine U _ _ _ (d (hk x i) rfl) ?_ h;intro o a;rcases Zp.1 a with a|a
    ·have:=b o a;omega
    ·rw[ZB.1 a];simp only[hk];omega
  ·cases h;refine⟨d _ rfl,λo a=> ?_⟩;rcases Zp.1 a with a|a
   ·have:=b o a;omega
   ·rw[ZB.1 a];show(-1:Int)<i;omega
def aad{s:aA}{Y:List GT}(h:lR s=.ok Y):∃a,pY Y a:=by
 unfold lR at h;split at h
 ·rename_i r K;subst h;unfold nc at K;split at K
  ·cases K
  ·cases K
  ·rename_i az e;have d:=acJ _ _ _ _ List.Pairwise.nil (λ_ h=>by cases h) e;split at K
   ·cases K
   ·cases K
   ·rename_i f l c;have b:=TC _ _ _ _ d ⟨List.Pairwise.nil,by simp[oX],λ_ h=>by cases h⟩ _ _ c;split at K
    ·cases K
    ·cases K;exact b
 ·cases h
noncomputable section
def sD(nm:aA):Nat->List GT->Option Nat
 |_,[]=>none|k,g::l=>if g.name=nm then some k else sD nm (k+1) l
def jr(Y:List GT)(nm:aA):Option Nat:=sD nm 0 Y
section
variable{X:bi}{q D au am:E S}{u Z ap aw:Nat}{P:Nat->Prop}{Y:List GT}
def RF(a:bZ X){g:GT}{row:List z}(h:(y X).aB<=u)(d:iO X q P g row){c:Nat}{nm:aA}(f:c<u)(b:ay X q (.ptr c 0)=some (.str nm)):
 aD X 121 [.agg row,.ptr c 0] q u (λR D Z=>R=.bool (decide (g.name=nm))/\aU X q u D Z) zX:=by
 refine Fd a (JR ..) ?_;unfold CE;obtain⟨bK,bO,aE,j,bc,bp,bG,e,i,rfl,_⟩:=d;refine bo @b ⟨?_⟩;exact⟨rfl,cf⟩
def Rr(s:bZ X){aE:z}{bC:Nat}{aR:List (List z)}(T9:(y X).aB<=u)(f:cl X q P bC aE 6 aR)(v:lz X q P Y aR)(aV:∀o,P o->o<u){c:Nat}{nm:aA}(G:c<u)(L:ay X q (.ptr c 0)=some (.str nm)):
 aD X 120 [aE,.func (.func 121) [] [.ptr c 0]] q u (λR D Z=>R=.Z (match jr Y nm with|some k=>(k:Int)|none=> -1)/\aU X q u D Z) zX:=by
 refine Fd s (JP ..) ?_;unfold CD;have w:=v.wide;have A:=f.len;have T0:=f.many;rw[w.1]at A T0;refine bo @A ⟨?_⟩;refine cM (λm B D T5=>∃(j:Nat),B.g 0=some aE/\B.g 1=some (.func (.func 121) [] [.ptr c 0])/\B.g 7=some (.Z Y.length)/\B.g 8=some (.Z j)/\j+m=Y.length/\aU X q u D T5/\jr Y nm=sD nm j (Y.drop j))
  Y.length ⟨0,aC,aC,aC,cT,Zo,aU.refl _ _,rfl⟩ ?_
 rintro m B am aw ⟨j,t0,t1,n,p,T7,b,a⟩;have T8:=b.le;cases m with
 |zero=>have d:=zM j Y.length;rw[ZM Zo]at a;refine cg @p @n @d ⟨?_⟩;exact⟨by rw[a];rfl,b⟩|succ m=>
  have d:=zN j Y.length;have C:=zQ j;obtain⟨g,t⟩:=zO Y j;have ai:Y.drop j=g::Y.drop (j+1):=by obtain⟨T4,l⟩:=Ze.1 t;rw[Zz T4,l]
  obtain⟨row,T2,T1⟩:=v.get j g t;have x:=λo (l:P o)=>b.M o (aV o l);have O:=f.c4 j (by rw[w.1];omega);have T3:=(f.M x).row Zd T2;have N:ay X am (.ptr c 0)=some (.str nm):=zW (b.M c G) L;rw[ai,sD]at a;refine cu @p @n @t1 @t0 @d @O @T3 ⟨?_⟩;refine(RF s Zo (T1.M (aI:=P) x (λ_ h=>h)) Zo N).Zm ?_;rintro R T6 TY ⟨rfl,r⟩;by_cases e:g.name=nm
  ·rw[Zv e]at a;have i:decide (g.name=nm)=true:=(by simp[e]);rw[i];refine bx ⟨?_⟩;exact⟨by rw[a],b.trans r⟩
  ·rw[Zi e]at a;have i:decide (g.name=nm)=false:=(by simp[e]);rw[i];refine bE @p @C ⟨?_⟩;exact⟨m,Zo,j+1,af t0,af t1,af n,aC,Zo,b.trans r,a⟩
def FJ(b:Nat):b7 X q .eql 23 true (.ptr b 0) .bH=some .zT:=Zk
def GW{C:al}{q:E S}(x:Int):jn C q .max [3,3] [.Z x,.Z 0]=some (.Z (max x 0)):=by show h5 true (.Z x) [.Z 0]=_;simp only[h5,cY,la,ZL];congr 2;simp only[Zf];split<;>omega
def Am(f:bZ X){v:z}(p:(y X).aB<=u)(l:iP X q P Y v)(aV:∀o,P o->o<u)(nm:aA):
 aD X 89 [v,.str nm] q u (λR D Z=>R=.tuple [.Z (((jr Y nm).getD 0:Nat):Int),.bool (jr Y nm).isSome]/\aU X q u D Z) zX:=by
 refine Fd f (M3 ..) ?_;unfold Em;obtain⟨b,aE,bC,aR,rfl,j,a0,r,m⟩:=l;have s:=aV b j;refine bE @FJ @a0 ⟨?_⟩;refine c7 (λau=>H X au u=zP [.str nm] 1/\aU X q u au (u+1)) ⟨aM p,cf⟩ ?_;rintro au ⟨i,a⟩;have g:=λo (c:P o)=>a.M o (aV o c);refine(Rr (u:=u+1) (q:=au) f Zo (r.M g) (m.M (aI:=P) g (λ_ h=>h)) (λo c=>zL (aV o c)) Zo (by rw[a8 i];rfl)).Zm ?_;rintro R am aw ⟨rfl,e⟩;cases t:jr Y nm with|none=>refine bo @GW ⟨?_⟩;exact⟨rfl,a.trans e⟩|some k=>have d:decide ((0:Int)<=(k:Int))=true:=z1;have n:max (k:Int) 0=(k:Int):=Zo;refine cg @GW @d @n ⟨?_⟩;exact⟨rfl,a.trans e⟩
mutual
def np{b:Type}(step:b->aX->b×Bool):b->aX->b
 |s,.mk k a nm no t n args=>if (step s (.mk k a nm no t n args)).2=true then lv step (step s (.mk k a nm no t n args)).1 args else(step s (.mk k a nm no t n args)).1
def lv{b:Type}(step:b->aX->b×Bool):b->List aX->b
 |s,[]=>s|s,e::l=>lv step (np step s e) l
end
def ac8{a:Type}(step:a->aX->a×Bool)(s:a)(e:aX):np step s e=if (step s e).2=true then lv step (step s e).1 e.args else(step s e).1:=by cases e;rw[np];rfl
def Ib{e a:aX}(h:a∈e.args):SizeOf.sizeOf a<SizeOf.sizeOf e:=by cases e with|mk k at_ nm no t n args=>have b:a∈args:=h;have:=List.sizeOf_lt_of_mem b;simp;omega
def ada(TZ:bZ X){f:Type}(step:f->aX->f×Bool)(P:Nat->Prop)(g:f->E S->Nat->Prop)(dT:E S)(cK:aX->z->Prop)(U0:∀e b aE bC aG,cK e (.ptr b 0)->ay X dT (.ptr b 8)=some aE->cl X dT P bC aE 1 (aG.map λv=>[v])->b5 X dT P e.args aG->∀(i:Nat) a w,e.args[i]? =some a->aG[i]? =some w->cK a w)(k:Nat)(x gX:List z)
 (U4:∀(s:f) (e:aX) (v:z) (q:E S) (u:Nat),g s q u->cK e v->bF X q P e v->(∀o,P o->H X q o=H X dT o)->aD X k ((x++[v])++gX) q u (λR D Z=>R=.bool (step s e).2/\g (step s e).1 D Z/\∀o,P o->H X D o=H X q o) zX):
 ∀(N:Nat) (e:aX),SizeOf.sizeOf e<N->∀(s:f) (v:z) (q:E S) (u:Nat),g s q u->cK e v->bF X q P e v->(∀o,P o->H X q o=H X dT o)->
  aD X 122 [v,.func (.func k) x gX] q u (λR D Z=>R=.tuple []/\g (np step s e) D Z/\∀o,P o->H X D o=H X q o) zX:=by
 intro N;induction N with
 |zero=>intro e h;omega|succ N U=>
  intro e U9 s v q u T9 K T0 l;refine Fd TZ (JT ..) ?_;unfold CF;obtain⟨b,aE,bC,aG,rfl,W,_,_,_,_,_,_,_,_,f9,p,has⟩:=id T0.open;have T1:=p.len;have T2:=has.len;rw[Zj,T2]at T1;have U3:=p.many;rw[Zj,T2]at U3;rw[ac8];refine bo @tf ⟨?_⟩;refine(U4 s e _ q u T9 K T0 l).Zm ?_;rintro R au ap ⟨rfl,L,A⟩;cases UA:(step s e).2 with
  |false=>refine bx ⟨?_⟩;exact⟨rfl,L,A⟩|true=>
   have T5:ay X au (.ptr b 8)=some aE:=zW (A b W) f9;refine bE @T5 @T1 ⟨?_⟩;refine cM (λm B D U6=>∃(j:Nat) (t:f),B.g 1=some (.func (.func k) x gX)/\B.g 17=some aE/\B.g 18=some (.Z e.args.length)/\B.g 19=some (.Z j)/\j+m=e.args.length/\g t D U6/\(∀o,P o->H X D o=H X q o)/\lv step (step s e).1 e.args=lv step t (e.args.drop j))
    e.args.length ⟨0,_,aC,aC,aC,cT,Zo,L,A,rfl⟩ ?_
   rintro m B am aw ⟨j,t,t1,T4,C,G,UB,O,dB,r⟩;cases m with|zero=>have d:=zM j e.args.length;rw[ZM Zo,lv]at r;refine cg @G @C @d ⟨?_⟩;exact⟨rfl,by simp only[ZL];rw[r];exact O,dB⟩|succ m=>have d:=zN j e.args.length;have T6:=zQ j;obtain⟨a,n⟩:=zO e.args j;have ai:e.args.drop j=a::e.args.drop (j+1):=(by obtain⟨U5,c⟩:=Ze.1 n;rw[Zz U5,c]);obtain⟨w,T3,U1⟩:=has.get j a n;obtain⟨T7,T8,U8⟩:=(p.M dB).one T3;rw[ai,lv]at r;refine cu @G @C @T4 @t1 @d @T7 @T8 ⟨?_⟩;have UC:=Ib (Zl n);refine(U a Zo t w am aw O (U0 e b aE bC aG K (by rw[bB, <-l b W, <-bB];exact f9) (p.M λo c=>(l o c).symm) (b5.M (λo c=>(l o c).symm) _ _ has) j a w n T3) (bF.M dB _ _ U1) (λo c=>(dB o c).trans (l o c))).Zm ?_;rintro R U7 UD ⟨rfl,TY,U2⟩;refine bE @G @T6 ⟨?_⟩;exact⟨m,Zo,j+1,_,af t1,af T4,af C,aC,Zo,TY,λo c=>by rw[U2 o c,dB o c],r⟩
def ac9(h:bZ X){b:Type}(step:b->aX->b×Bool)(P:Nat->Prop)(a:b->E S->Nat->Prop)(k:Nat)(c gX:List z)
 (i:∀(s:b) (e:aX) (v:z) (q:E S) (u:Nat),a s q u->bF X q P e v->aD X k ((c++[v])++gX) q u (λR D Z=>R=.bool (step s e).2/\a (step s e).1 D Z/\∀o,P o->H X D o=H X q o) zX)
 (N:Nat)(e:aX)(g:SizeOf.sizeOf e<N)(s:b)(v:z)(q:E S)(u:Nat)(d:a s q u)(f:bF X q P e v):
  aD X 122 [v,.func (.func k) c gX] q u (λR D Z=>R=.tuple []/\a (np step s e) D Z/\∀o,P o->H X D o=H X q o) zX:=
 ada h step P a q (λ_ _=>True) (λ_ _ _ _ _ _ _ _ _ _ _ _ _ _=>trivial) k c gX (λs e v q u d _ f _=>i s e v q u d f) N e g s v q u d trivial f (λ_ _=>rfl)
def dE(X:bi)(q:E S)(a:Nat)(p:z)(k:Int)(bI b:z)(f:Int×Int):Prop:=H X q a=zP [p,.Z k,bI,b,.Z f.1,.Z f.2] 6
def g8(f:Int×Int)(c a:Int):Int×Int:=if f.1=0 then(c,a)else f
def mS(l:bZ X){b:Nat}{p bI i:z}{k:Int}{f:Int×Int}(s:(y X).aB<=b)(h:dE X q b p k bI i f)(c a:Int):
 aD X 90 [.ptr b 0,.Z c,.Z a] q u (λR D Z=>R=.tuple []/\dE X D b p k bI i (g8 f c a)/\u<=Z/\∀o,o≠b->H X D o=H X q o) zX:=by
 refine Fd l (M7 ..) ?_;unfold Eo;obtain⟨e,r⟩:=f;have m:=h;unfold dE at h;have j:ay X q (.ptr b 4)=some (.Z e):=by rw[a8 h];rfl
 by_cases g:e=0
 ·have d:decide (e=0)=true:=by simp[g]
  refine eN ⟨?_⟩;refine eN ⟨?_⟩;refine eN ⟨?_⟩;refine bE @j @d ⟨?_⟩;refine⟨rfl, ?_,Zg _,λo n=>ah Zo n⟩;unfold dE g8;rw[aM Zo];simp only[g,ZL];rfl
 ·have d:decide (e=0)=false:=by simp[g]
  refine bE @j @d ⟨?_⟩;refine⟨rfl, ?_,Zg _,λ_ _=>rfl⟩;unfold g8;simp only[g,ZJ];exact m
def lQ(e:aX):Bool:=decide (e.kind=2)||decide (e.kind=6)||decide (e.kind=24)
def Te(g:bZ X){P:Nat->Prop}{e:aX}{v:z}(h:bF X q P e v):
 aD X 124 [v] q u (λR D Z=>R=.bool (lQ e)/\D=q/\u<=Z) zX:=by
 refine Fd g (JX ..) ?_;unfold CH;obtain⟨b,rfl,W,a0⟩:=h.ptr;by_cases a:e.kind=2
 ·have d:decide (e.kind=2)=true:=by simp[a]
  refine bE @a0 @d ⟨?_⟩;exact⟨by simp[lQ,a],rfl,Zo⟩
 ·have d:decide (e.kind=2)=false:=by simp[a]
  by_cases c:e.kind=6
  ·have f:decide (e.kind=6)=true:=(by simp[c]);refine cg @a0 @d @f ⟨?_⟩;exact⟨by simp[lQ,c],rfl,Zo⟩
  ·have f:decide (e.kind=6)=false:=(by simp[c]);refine cg @a0 @d @f ⟨?_⟩;exact⟨by simp[lQ,a,c],rfl,Zo⟩
def sz(e:aA×z×Nat):z×z×Nat:=(.str e.1,e.2.1,e.2.2)
end
section
variable{aQ:Type}[DecidableEq aQ]
def eZ:List (aQ×z×Nat)->aQ->Nat->Option (Nat×z)
 |[],_,_=>none|x::a6,w,i=>if x.1=w then some (i,x.2.1)else eZ a6 w (i+1)
def fN(a6:List (aQ×z×Nat))(w:aQ):Option z:=(eZ a6 w 0).map Prod.snd
def wv(w:aQ):∀(a6:List (aQ×z×Nat)) (i:Nat),eZ a6 w (i+1)=(eZ a6 w i).map λp=>(p.1+1,p.2):=by
 intro a6;induction a6 with
 |nil=>intro i;rfl|cons x a6 U=>
  intro i;simp only[eZ];split
  ·rfl
  ·exact U (i+1)
def m8(x:aQ×z×Nat)(a6:List (aQ×z×Nat))(w:aQ):fN (x::a6) w=if x.1=w then some x.2.1 else fN a6 w:=by
 unfold fN;simp only[eZ];split
 ·rfl
 ·rw[wv];cases eZ a6 w 0<;>rfl
def Ao(w:aQ):∀(a6:List (aQ×z×Nat)) (j:Nat) (v:z),eZ a6 w 0=some (j,v)->∃b,a6[j]? =some (w,v,b):=by
 intro a6;induction a6 with
 |nil=>intro j v h;cases h|cons x a6 U=>
  intro j v h;simp only[eZ]at h;split at h
  ·rename_i e;cases h;exact⟨x.2.2,by simp[<-e]⟩
  ·rw[wv]at h;cases a:eZ a6 w 0 with|none=>rw[a]at h;cases h|some p=>rw[a]at h;simp at h;obtain⟨rfl,rfl⟩:=h;obtain⟨b,W⟩:=U p.1 p.2 a;exact⟨b,by simpa using W⟩
def A4(w a2:aQ)(v:z)(b:Nat):∀a6:List (aQ×z×Nat),fN a6 w=none->fN (a6++[(w,v,b)]) a2=if a2=w then some v else fN a6 a2:=by
 intro a6;induction a6 with
 |nil=>
  intro _;rw[Yq,m8];by_cases h:a2=w
  ·simp[h]
  ·have:¬w=a2:=λe=>h e.symm
   simp[h,this]
 |cons x a6 U=>
  intro h;rw[m8]at h;split at h
  ·cases h
  ·rename_i a;rw[Yw,m8,m8,U h];by_cases e:x.1=a2
   ·have:¬a2=w:=λV=>a (e.trans V)
    simp[e,this]
   ·simp[e]
def A5(w a2:aQ)(v:z):∀(a6:List (aQ×z×Nat)) (j:Nat) (v0:z) (b:Nat),eZ a6 w 0=some (j,v0)->fN (a6.set j (w,v,b)) a2=if a2=w then some v else fN a6 a2:=by
 intro a6;induction a6 with
 |nil=>intro j v0 b h;cases h|cons x a6 U=>
  intro j v0 b h;simp only[eZ]at h;split at h
  ·rename_i e;simp at h;obtain⟨rfl,rfl⟩:=h;rw[YD,m8,m8];by_cases h:a2=w
   ·simp[h]
   ·have d:¬w=a2:=λV=>h V.symm;have a:¬x.1=a2:=λV=>h (V.symm.trans e);simp[h,d,a]
  ·rename_i e;rw[wv]at h;cases c:eZ a6 w 0 with
   |none=>rw[c]at h;cases h|some p=>
    rw[c]at h;simp at h;obtain⟨rfl,rfl⟩:=h;rw[YE,m8,m8,U p.1 p.2 b c];by_cases a:x.1=a2
    ·have:¬a2=w:=λV=>e (a.trans V)
     simp[a,this]
    ·simp[a]
variable{X:bi}{q D au am:E S}{u Z ap aw:Nat}
def h2(X:bi)(q:E S)(r:Nat)(a:aA->Option z):Prop:=∃a6 bz,H X q r=some (.map (a6.map sz) bz)/\∀w,fN a6 w=a w
def h2.M{r:Nat}{a:aA->Option z}(h:h2 X q r a)(k:H X D r=H X q r):h2 X D r a:=by obtain⟨a6,bz,b,c⟩:=h;exact⟨a6,bz,by rw[k];exact b,c⟩
def xf(w:aA):hj X 20 9 (.str w)=true:=Zk
def FF(w a2:aA):gn X q 20 9 (.str w) (.str a2)=some (hH w a2):=Zk
def Ak(w:aA):∀(a6:List (aA×z×Nat)) (i:Nat),findKey X q 9 (.str w) (a6.map sz) i=some (eZ a6 w i):=by
 intro a6;induction a6 with
 |nil=>intro i;rfl|cons x a6 U=>
  intro i;simp only[ZG,sz,findKey,FF,q2,eZ];by_cases h:w=x.1
  ·have:x.1=w:=h.symm
   simp[this]
  ·have:¬x.1=w:=λe=>h e.symm
   simp only[h,this,Yo,ZJ];exact U (i+1)
def RU(w:aA):hS 20 (.str w) (.str w)=true:=by show hH w w=true;rw[q2];simp
def pn{r:Nat}{c:aA->Option z}(h:h2 X q r c)(aj:z)(w:aA)(ok:Bool):
 fb X q 9 aj (.map r) (.str w) ok=some (match c w with|some v=>ba ok (.tuple [v,.zV]) v|none=>ba ok (.tuple [aj,.zT]) aj):=by
 obtain⟨a6,bz,d,e⟩:=h;have a:=e w;unfold fN at a;simp only[fb,d,xf,cI,Ak];cases b:eZ a6 w 0 with|none=>rw[b]at a;rw[<-a];rfl|some p=>rw[b]at a;rw[<-a];rfl
def uU{r:Nat}{e:aA->Option z}(K:(y X).aB<=r)(h:h2 X q r e)(w:aA)(v:z):
 ∃D,ib X q u 9 (.map r) (.str w) v=some (.cJ aF.undef D u)/\h2 X D r (λx=>if x=w then some v else e x)/\∀o,o≠r->H X D o=H X q o:=by
 obtain⟨a6,bz,c,d⟩:=h;have ai:eB X r=true:=de K;cases a:eZ a6 w 0 with
 |none=>
  refine⟨Go.aF.aH X q r (some (.map ((a6++[(w,v,bz)]).map sz) (bz+1))), ?_,⟨a6++[(w,v,bz)],bz+1,aM K,λx=> ?_⟩,λo b=>ah K b⟩
  ·simp only[ib,c,xf,cI,Ak,a,aF.setObj,ai,cI,du];rw[ZU];rfl
  ·rw[A4 _ _ _ _ _ (by unfold fN;rw[a];rfl),d]
 |some p=>
  obtain⟨j,v0⟩:=p;obtain⟨born,W⟩:=Ao w a6 j v0 a;have f:(a6.map sz)[j]? =some (.str w,v0,born):=by rw[Zt,W];rfl
  refine⟨Go.aF.aH X q r (some (.map ((a6.set j (w,v,born)).map sz) bz)), ?_,⟨a6.set j (w,v,born),bz,aM K,λx=> ?_⟩,λo b=>ah K b⟩
  ·simp only[ib,c,xf,cI,Ak,a,jz,f,RU,aF.setObj,ai,cI,du];rw[List.map_set];rfl
  ·rw[A5 w x v a6 j v0 born a,d]
structure cB where
 kind:Int
 d:cG
 eq:Int
 left:Int
def lV:cB:=⟨0,⟨[],0,cd,[],0,false⟩,0,0⟩
def ik(v:cB):List z:=[.Z v.kind,.str v.d.name,.Z v.d.at_,.bool v.d.ty.b,.bool v.d.ty.s,.Z v.d.ty.w,.str v.d.on,.Z v.d.cC,.bool v.d.no,.Z v.eq,.Z v.left]
def jQ(X:bi)(q:E S)(P:Nat->Prop)(bI:z)(t:aA->Option cB):Prop:=∃b r,bI=.ptr b 0/\P b/\P r/\ay X q (.ptr b 0)=some (.map r)/\h2 X q r (λw=>(t w).map λv=> .agg (ik v))
def jQ.M{P aI:Nat->Prop}{bI:z}{t:aA->Option cB}(h:jQ X q P bI t)(k:∀o,P o->H X D o=H X q o)(d:∀o,P o->aI o):jQ X D aI bI t:=by obtain⟨b,r,e,a,c,f,g⟩:=h;exact⟨b,r,e,d b a,d r c,zW (k b a) f,g.M (k r c)⟩
def PS(b:Nat):b7 X q .eql 43 true (.ptr b 0) .bH=some .zT:=Zk
def sF(p:bZ X){P:Nat->Prop}{bI:z}{t:aA->Option cB}(f:(y X).aB<=u)(G:jQ X q P bI t)(aV:∀o,P o->o<u)(w:aA):
 aD X 13 [bI,.str w] q u (λR D Z=>R=.tuple [.agg (ik ((t w).getD lV)),.bool (t w).isSome]/\aU X q u D Z) zX:=by
 refine Fd p (Kl ..) ?_;unfold CM;obtain⟨b,r,rfl,W,K,a0,x⟩:=G;have s:=aV b W;have C:=aV r K;refine k0 ?_;generalize d:aH X q u _=au;have j:H X au u=zP [.Z 0,.str [],.Z 0,.zT,.zT,.Z 0,.str [],.Z 0,.zT,.Z 0,.Z 0] 11:=by rw[<-d,aM f];rfl
 have a:aU X q u au (u+1):=by rw[<-d];exact cf
 clear d;have aL:ay X au (.ptr b 0)=some (.map r):=zW (a.M b s) a0;have A:=x.M (a.M r C);have h:=pn A (.agg [.Z 0,.str [],.Z 0,.zT,.zT,.Z 0,.str [],.Z 0,.zT,.Z 0,.Z 0]) w true;have i:fb X au 9 (.agg [.Z 0,.str [],.Z 0,.zT,.zT,.Z 0,.str [],.Z 0,.zT,.Z 0,.Z 0]) (.map r) (.str w) true=some (.tuple [.agg (ik ((t w).getD lV)),.bool (t w).isSome]):=by rw[h];cases t w<;>rfl
 clear h;generalize (t w).getD lV=v at*;have L:ik v=[.Z v.kind,.str v.d.name,.Z v.d.at_,.bool v.d.ty.b,.bool v.d.ty.s,.Z v.d.ty.w,.str v.d.on,.Z v.d.cC,.bool v.d.no,.Z v.eq,.Z v.left]:=rfl;rw[L]at i ⊢;refine cg @PS @aL @i ⟨?_⟩;refine dg (eS (k:=11) (b:=u) (I:=0) (n:=11) (c:=E.ofList [.Z 0,.str [],.Z 0,.zT,.zT,.Z 0,.str [],.Z 0,.zT,.Z 0,.Z 0] 0 .nil) (by simp(disch:=omega) only[ah];exact j) f rfl Zd Zd rfl) ?_;generalize e:aH X _ u _=g;have l:H X g u=zP [.Z v.kind,.str v.d.name,.Z v.d.at_,.bool v.d.ty.b,.bool v.d.ty.s,.Z v.d.ty.w,.str v.d.on,.Z v.d.cC,.bool v.d.no,.Z v.eq,.Z v.left] 11:=by rw[<-e,aM f];rfl
 have m:aU X q u g (u+1+1):=⟨Zo,λo N=>by rw[<-e];simp(disch:=omega) only[ah];exact a.M o N⟩;clear e;refine bo (a8 l) ⟨?_⟩;exact⟨rfl,m⟩
end
end
end Go.Proofs.YtehmapikajmjaaaGreatDoor
