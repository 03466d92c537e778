/- Part of the proof of the last text; no conditions -/
import Derived.Test.YtendhgofocgngaaGreatDoorYu
set_option maxHeartbeats 8000000
set_option linter.all false
namespace Go.Proofs.YtendhgofocgngaaGreatDoor
open Go.bn Go.aT
noncomputable section
structure Fj(s:aW):Prop where
 ne:s≠[]
 len:s.length<=32
 alZ:∀c,s.head?=some c->qt c=true
 all:∀c∈s,i7 c=true
 res:s∉vq
 ty:lk s=none
def PX(t:ig)(n:Int):Prop:=kW t=true/\u1 t n=true/\0<=n/\n<18446744073709551616
def asc:u1 ⟨true,false,1⟩ 0=true:=by decide+kernel
def asd:u1 ⟨true,false,1⟩ 1=true:=by decide+kernel
def n3:iH:=⟨Fj,λt=>kW t=true,PX,λ_ a=>a.ne,rfl,⟨rfl,asc,Zo,Zo⟩,⟨rfl,asd,Zo,Zo⟩,λ_ _ a=>a.1,λ_=>True,trivial⟩
def Au(n:Nat):iH:={n3 with A:=λE=>0<=E/\E<=n,a0:=⟨Int.le_refl 0,Int.natCast_nonneg n⟩}
def azv{
 s:aW}{i:Nat}{x:Tok}(a:xb s i=some x):Cr n3 (lL x i):=by
 unfold xb at a
 cases ax:s[i]? with
 |none=>rw[ax]at a;cases a
 |some c=>
  rw[ax]at a
  simp only[]at a
  obtain⟨af,D⟩:=Zb.1 ax
  have aI:s.drop i=c::s.drop (i+1):=by rw[Zz af,D]
  split at a
  ·unfold Ee at a
   simp only[]at a
   split at a
   ·cases a
   ·have cS:=afU ((s.drop i).takeWhile iM)
    split at a
    ·cases a
     exact⟨λa=>by simp[lL]at a,λa=>by simp[lL]at a,λ_=>by simp only[lL];omega,λa=>by simp[lL]at a,λ_=>trivial⟩
    ·split at a
     ·rename_i t bh
      split at a
      ·rename_i gC
       cases a
       simp only[Zp]at gC
       exact⟨λa=>by simp[lL]at a,λa=>by simp[lL]at a,λa=>by simp[lL]at a,λ_=>⟨Vx bh,gC.2,by simp only[lL];omega,by simp only[lL];omega⟩,λ_=>trivial⟩
      ·cases a
     ·cases a
  ·split at a
   ·rename_i ah
    split at a
    ·rename_i aw
     cases a
     have bF:(s.drop i).takeWhile i7=c::(s.drop (i+1)).takeWhile i7:=by
      rw[aI,YF]
      have:i7 c=true:=by simp[i7,ah]
      simp[this]
     refine⟨λa=> ?_,λa=> ?_,λa=> ?_,λa=> ?_,λ_=>trivial⟩
     ·simp only[lL,tO]at a ⊢
      split at a
      ·cases a
      ·rename_i aM
       split at a
       ·cases a
       ·rename_i V
        have hn:((s.drop i).takeWhile i7).length<=32:=by simpa[tO]using aw
        refine⟨by rw[bF];simp,hn, ?_,agD i7 _,V,by simpa using aM⟩
        intro gp cy
        rw[bF]at cy
        cases cy
        exact ah
     ·simp only[lL,tO]at a ⊢
      split at a
      ·rename_i aM
       cases bh:lk ((s.drop i).takeWhile i7)with
       |none=>rw[bh]at aM;cases aM
       |some t=>exact Vx bh
      ·split at a<;>cases a
     ·simp only[lL,tO]at a
      split at a
      ·cases a
      ·split at a<;>cases a
     ·simp only[lL,tO]at a
      split at a
      ·cases a
      ·split at a<;>cases a
    ·cases a
   ·cases aD:vt s i with
    |none=>rw[aD]at a;cases a
    |some p=>
     rw[aD]at a
     cases a
     exact⟨λa=>by simp[lL,EC]at a,λa=>by simp[lL,EC]at a,λa=>by simp[lL,EC]at a,λa=>by simp[lL,EC]at a,λ_=>trivial⟩
def azy{s:aW}:∀(n:Nat) (aO:List Tok) (i:Nat) (lm:List Tok),gQ n3 aO->qF s n aO i=some (.ok lm)->gQ n3 lm:=by
 intro n
 induction n with
 |zero=>intro aO i lm _ a;cases a
 |succ n ag=>
  intro aO i lm bh a
  rw[qF]at a
  split at a
  ·split at a
   ·cases a
   ·rename_i x af
    refine ag _ _ _ ?_ a
    intro e D
    rcases Zx.1 D with D|D
    ·exact bh e D
    ·simp at D;subst D;exact azv af
  ·cases a
   intro e D
   rcases Zx.1 D with D|D
   ·exact bh e D
   ·simp at D;subst D;exact⟨λa=>by simp at a,λa=>by simp at a,λa=>by simp at a,λa=>by simp at a,λ_=>trivial⟩
def azw{s:aW}:∀(n:Nat) (aO:List Tok) (i:Nat) (lm:List Tok),(∀x∈aO,x.kind≠7->0<=x.at_/\x.at_<=s.length)->qF s n aO i=some (.ok lm)->∀x∈lm,x.kind≠7->0<=x.at_/\x.at_<=s.length:=by
 intro n
 induction n with
 |zero=>intro aO i lm _ a;cases a
 |succ n ag=>
  intro aO i lm bh a
  rw[qF]at a
  split at a
  ·rename_i aA
   split at a
   ·cases a
   ·rename_i x af
    refine ag _ _ _ ?_ a
    intro e D
    rcases Zx.1 D with D|D
    ·exact bh e D
    ·simp at D;subst D;intro _;simp only[lL];omega
  ·cases a
   intro e D
   rcases Zx.1 D with D|D
   ·exact bh e D
   ·simp at D;subst D;intro a;exact absurd rfl a
def awS{s:aW}{aE:List Go.aT.Node}(a:w0 s= .ok aE):(∀g∈aE,r0 (Au s.length) g)/\aE≠[]/\rn aE=none:=by
 unfold w0 at a
 split at a
 ·rename_i r V
  subst a
  unfold yQ at V
  split at V
  ·cases V
  ·cases V
  ·rename_i aO bh
   have ati:=azw _ _ _ _ (λ_ a=>by cases a) bh
   have Ts:gQ (Au s.length) aO:=λx af=>by
    obtain⟨H,K,ak,ay,_⟩:=azy _ _ _ _ (λ_ a=>by cases a) bh x af
    exact⟨H,K,ak,ay,ati x af⟩
   split at V
   ·cases V
   ·cases V
   ·rename_i iZ k aM
    obtain⟨H,K⟩:=awb (bv:=Au s.length) _ _ _ Ts (λ_ a=>by cases a) _ _ aM
    split at V
    ·cases V
    ·rename_i aw
     cases V
     exact⟨K.1,K.2,aw⟩
 ·cases a
def av4{n:Nat}{B:bs}(a:HV (Au n) B):HV n3 B:=⟨trivial,a.bJ,a.b2,a.Fz,a.nm,a.Oz,a.no,a.ty,a.dC,a.afn,a.d3,a.bf,a.jY⟩
mutual
def ag2{n:Nat}:∀{B:bs},fl (Au n) B->fl n3 B
 | .mk ..,a=>by rw[fl]at a ⊢;exact⟨av4 a.1,ag3 a.2⟩
def ag3{n:Nat}:∀{k:List bs},f2 (Au n) k->f2 n3 k
 |[],_=>f2.nil
 |_::_,a=>by rw[f2]at a;exact f2.cons (ag2 a.1) (ag3 a.2)
end
def QP{n:Nat}{d:eP}(a:pZ (Au n) d):pZ n3 d:=⟨a.name,a.type,a.on,a.no,trivial,trivial⟩
def av5{n:Nat}{g:Go.aT.Node}(a:r0 (Au n) g):r0 n3 g:=⟨a.name,λd aI=>QP (a.es d aI),λd aI=>QP (a.out d aI),λd aI=>QP (a.loc d aI),a.some,λal bP=>⟨(a.eqs al bP).left,(a.eqs al bP).some,ag2 (a.eqs al bP).right,trivial,λ_ _=>trivial⟩,trivial⟩
def awR{s:aW}{aE:List Go.aT.Node}(a:w0 s= .ok aE):(∀g∈aE,r0 n3 g)/\aE≠[]/\rn aE=none:=
 have o:=awS a
 ⟨λg bS=>av5 (o.1 g bS),o.2⟩
mutual
def KP:bs->List bs
 | .mk o E nm no t n args=> .mk o E nm no t n args::KQ args
def KQ:List bs->List bs
 |[]=>[]
 |B::k=>KP B++KQ k
end
mutual
def agX{iS:Type}(step:iS->bs->iS×Bool)(a:∀s B,(step s B).2=true):∀(B:bs) (s:iS),Cb step s B=(KP B).foldl (λs B=>(step s B).1) s
 | .mk o E nm no t n args,s=>by
   rw[Cb,Zq (a _ _),KP,ZZ]
   exact agY step a args _
def agY{iS:Type}(step:iS->bs->iS×Bool)(a:∀s B,(step s B).2=true):∀(k:List bs) (s:iS),xh step s k=(KQ k).foldl (λs B=>(step s B).1) s
 |[],s=>by rw[xh,KQ];rfl
 |B::k,s=>by
  rw[xh,KQ,Y7,agX step a B s]
  exact agY step a k _
end
def rl(al:eo):List (aW×Int):=al.left.zipIdx.map λx=>(x.1,(al.cL[x.2]?).getD 0)
def nR(t:aW->Option f1)(s:(aW->Option Int)×(Int×Int))(x:aW×Int):(aW->Option Int)×(Int×Int):=(λw=>if w=x.1 then some ((s.1 x.1).getD 0+1)else s.1 w,Kr t s.1 s.2 x.1 x.2)
def ml(t:aW->Option f1)(aE:List Go.aT.Node)(o:Nat)(s:(aW->Option Int)×(Int×Int))(al:eo):(aW->Option Int)×(Int×Int):=
 (((rl al).foldl (nR t) s).1,OZ t aE o ((rl al).foldl (nR t) s).2 al.right)
def qH(Y:aW->Option Int)(f:Int×Int)(x:Int×eP):Int×Int:=if x.1≠1/\(Y x.2.name).getD 0=0 then my f 37 x.2.at_ else f
def vk(aE:List Go.aT.Node)(o:Nat)(g:Go.aT.Node):Int×Int:=if (tj aE g.name).getD 0<o then my (0,0) 24 g.at_ else(0,0)
def nb(aE:List Go.aT.Node)(o:Nat)(g:Go.aT.Node):Int×Int:=
 (fO g).foldl (qH (g.eqs.foldl (ml (g0 g) aE o) (λ_=>none,uv (g0 g) g (vk aE o g))).1) (g.eqs.foldl (ml (g0 g) aE o) (λ_=>none,uv (g0 g) g (vk aE o g))).2
def CB(aE:List Go.aT.Node):Nat->List Go.aT.Node->Int×Int
 |_,[]=>(0,0)
 |o,g::k=>if (nb aE o g).1≠0 then nb aE o g else CB aE (o+1) k
def FI(aE:List Go.aT.Node):Int×Int:=CB aE 0 aE
def CN(f:Int×Int){c:Int}(E:Int)(ax:c≠0):(my f c E).1≠0:=by
 unfold my
 split
 ·exact ax
 ·rename_i a;exact a
def aba{α:Type}(bad:α->Prop)[DecidablePred bad](c E:α->Int)(ax:∀x,c x≠0):∀(k:List α) (f:Int×Int),(k.foldl (λf x=>if bad x then my f (c x) (E x)else f) f).1=0↔f.1=0/\∀x∈k,¬bad x:=by
 intro k
 induction k with
 |nil=>intro f;simp
 |cons x k ag=>
  intro f
  rw[ZZ,ag]
  by_cases ah:bad x
  ·have:=CN f (E x) (ax x)
   simp[ah,this]
  ·simp[ah]
def Ov(g:Go.aT.Node):List aW:=(fO g).map λx=>x.2.name
def anv{g:Go.aT.Node}{x:Int×eP}(a:x∈fO g):x.1=1/\x.2∈g.es\/x.1=2/\x.2∈g.out\/x.1=3/\x.2∈g.loc:=by
 simp only[fO,Zx,ZB]at a
 rcases a with ⟨d,a,rfl⟩|⟨d,a,rfl⟩|⟨d,a,rfl⟩<;>simp[a]
def anm:∀(k:List (Int×eP)) (s:aW->Option Int) (f:Int×Int),(∀x∈k,0<x.1)->((k.foldl lS (s,f)).2.1=0↔f.1=0/\(k.map λx=>x.2.name).Nodup/\∀x∈k,¬0<(s x.2.name).getD 0):=by
 intro k
 induction k with
 |nil=>intro s f _;simp
 |cons x k ag=>
  intro s f av
  rw[ZZ]
  have af:=av x (Zu ..)
  rw[show lS (s,f) x=((lS (s,f) x).1,(lS (s,f) x).2) from rfl,ag _ _ (λe D=>av e (Zt _ D))]
  simp only[lS,ZE,List.nodup_cons,Zr,ZB]
  constructor
  ·rintro⟨H,K,ak⟩
   by_cases ah:0<(s x.2.name).getD 0
   ·rw[Zq ah]at H
    exact absurd H (CN f _ Zd)
   ·rw[Zg ah]at H
    refine⟨H,⟨?_,K⟩, ?_⟩
    ·rintro⟨e,D,a7⟩
     have:=ak e D
     rw[Zq a7]at this
     exact this (by simpa using af)
    ·rintro e (rfl|D)
     ·exact ah
     ·have:=ak e D
      split at this
      ·exact absurd af (by simpa using this)
      ·exact this
  ·rintro⟨H,⟨K,ak⟩,ay⟩
   have ah:¬0<(s x.2.name).getD 0:=ay x (.inl rfl)
   refine⟨by rw[Zg ah];exact H,ak,λe D=> ?_⟩
   rw[Zg (λB=>K ⟨e,D,B⟩)]
   exact ay e (.inr D)
def amX{g:Go.aT.Node}{t:aW->Option f1}{f:Int×Int}:(uv t g f).1=0↔f.1=0/\(Ov g).Nodup/\∀x∈fO g,¬(t x.2.on=none/\x.2.on≠[]):=by
 unfold uv
 have K:=aba (λx:Int×eP=>t x.2.on=none/\x.2.on≠[]) (λ_=>23) (λx=>x.2.f7) (λ_=>Zd) (fO g) ((fO g).foldl lS (λ_=>none,f)).2
 have ak:(fO g).foldl (qU t) ((fO g).foldl lS (λ_=>none,f)).2=(fO g).foldl (λf x=>if t x.2.on=none/\x.2.on≠[]then my f 23 x.2.f7 else f) ((fO g).foldl lS (λ_=>none,f)).2:=rfl
 rw[ak,K,anm _ _ _ (λx af=>by rcases anv af with a|a|a<;>omega)]
 simp[Ov,and_assoc]
def hG(w:aW)(k:List aW):Int:=((k.filter λx=>decide (x=w)).length:Int)
def In(w x:aW)(k:List aW):hG w (x::k)=(if x=w then 1 else 0)+hG w k:=by
 unfold hG
 rw[Yv]
 by_cases a:x=w
 ·simp[a];omega
 ·simp[a]
def QH(w:aW):hG w []=0:=rfl
def CC(w:aW)(k:List aW):0<=hG w k:=by unfold hG;omega
def Im(w:aW)(k m:List aW):hG w (k++m)=hG w k+hG w m:=by unfold hG;rw[List.filter_append,ZU];omega
def ψ{w:aW}{k:List aW}:0<hG w k↔w∈k:=by
 induction k with
 |nil=>simp[QH]
 |cons x k ag=>
  have:=CC w k
  rw[In]
  by_cases a:x=w
  ·simp[a];omega
  ·have cy:¬w=x:=λB=>a B.symm
   simp[a,cy,ag]
def Ue(t:aW->Option f1):∀(k:List (aW×Int)) (s:(aW->Option Int)×(Int×Int)) (w:aW),((k.foldl (nR t) s).1 w).getD 0=(s.1 w).getD 0+hG w (k.map Prod.fst):=by
 intro k
 induction k with
 |nil=>intro s w;simp[QH]
 |cons x k ag=>
  intro s w
  rw[ZZ,ag,ZE,In]
  simp only[nR]
  by_cases a:w=x.1
  ·subst a;simp;omega
  ·have cy:¬x.1=w:=λB=>a B.symm
   simp[a,cy]
def avk(t:aW->Option f1):∀(k:List (aW×Int)) (s:(aW->Option Int)×(Int×Int)),(∀w,0<=(s.1 w).getD 0)->((k.foldl (nR t) s).2.1=0↔s.2.1=0/\∀w∈k.map Prod.fst,∃v,t w=some v/\v.kind≠1/\(s.1 w).getD 0+hG w (k.map Prod.fst)<=1):=by
 intro k
 induction k with
 |nil=>intro s _;simp
 |cons x k ag=>
  intro s aD
  have u5:∀w,0<=((nR t s x).1 w).getD 0:=by
   intro w
   have:=aD w
   have:=aD x.1
   simp only[nR]
   split
   ·simp;omega
   ·assumption
  rw[ZZ,ag _ u5]
  have Bo:=aD x.1
  constructor
  ·rintro⟨H,K⟩
   have ak:s.2.1=0/\∃v,t x.1=some v/\v.kind≠1/\(s.1 x.1).getD 0+1<=1:=by
    simp only[nR,Kr]at H
    cases bh:t x.1 with
    |none=>rw[bh]at H;exact absurd H (CN _ _ Zd)
    |some v=>
     rw[bh]at H
     simp only[]at H
     split at H
     ·exact absurd H (CN _ _ Zd)
     ·rename_i bP
      exact⟨H,v,rfl,λB=>bP (.inl B),by have:¬1<(s.1 x.1).getD 0+1:=λB=>bP (.inr B);omega⟩
   refine⟨ak.1,λw bF=> ?_⟩
   rw[ZE,Zr]at bF
   rw[ZE,In]
   by_cases Bn:w=x.1
   ·subst Bn
    obtain⟨v,ay,be,bV⟩:=ak.2
    refine⟨v,ay,be, ?_⟩
    by_cases aZ:x.1∈k.map Prod.fst
    ·obtain⟨fd,_,_,c9⟩:=K _ aZ
     simp only[nR,ZC,YL]at c9 ⊢
     omega
    ·have:¬0<hG x.1 (k.map Prod.fst):=λB=>aZ (ψ.1 B)
     have:=CC x.1 (k.map Prod.fst)
     simp only[ZC]
     omega
   ·rcases bF with bF|bF
    ·exact absurd bF Bn
    ·obtain⟨v,ay,be,bV⟩:=K _ bF
     have TB:¬x.1=w:=λB=>Bn B.symm
     simp only[nR,Bn,ZA]at bV
     exact⟨v,ay,be,by simp only[TB,ZA];omega⟩
  ·rintro⟨H,K⟩
   obtain⟨v,ay,be,bV⟩:=K x.1 Zs
   rw[ZE,In,Zq rfl]at bV
   have ax:=CC x.1 (k.map Prod.fst)
   refine⟨?_,λw bF=> ?_⟩
   ·simp only[nR,Kr,ay]
    rw[Zg (by rintro(B|B);exact be B;omega)]
    exact H
   ·obtain⟨fd,bJ,b2,cF⟩:=K w (by rw[ZE];exact Zt _ bF)
    refine⟨fd,bJ,b2, ?_⟩
    rw[ZE,In]at cF
    simp only[nR]
    by_cases Bn:w=x.1
    ·subst Bn;simp only[ZC,YL];simp only[ZC]at cF;omega
    ·have TB:¬x.1=w:=λB=>Bn B.symm
     simp only[Bn,ZA];simp only[TB,ZA]at cF;omega
def T4(al:eo):(rl al).map Prod.fst=al.left:=by
 simp only[rl,YA]
 have:(Prod.fst∘λx:aW×Nat=>(x.1,(al.cL[x.2]?).getD 0))=Prod.fst:=rfl
 rw[this]
 exact List.zipIdx_map_fst ..
def H1(t:aW->Option f1)(aE:List Go.aT.Node)(o:Nat)(B:bs):Prop:=∀x∈KP B,(wV x=true->(t x.name).isSome=true)/\(x.kind=25->∃W,tj aE x.name=some W/\W<o)
def axR{t:aW->Option f1}{aE:List Go.aT.Node}{o:Nat}{f:Int×Int}{B:bs}:(OZ t aE o f B).1=0↔f.1=0/\H1 t aE o B:=by
 unfold OZ H1
 rw[agX _ (λ_ _=>rfl)]
 generalize KP B=k
 induction k generalizing f with
 |nil=>simp
 |cons x k ag=>
  rw[ZZ,ag]
  have H:(sV t aE o f x).1.1=0↔f.1=0/\(wV x=true->(t x.name).isSome=true)/\(x.kind=25->∃W,tj aE x.name=some W/\W<o):=by
   simp only[sV,Hq]
   have K:(w3 t f x).1=0↔f.1=0/\(wV x=true->(t x.name).isSome=true):=by
    unfold w3
    by_cases a:wV x=true
    ·rw[Zq a]
     by_cases cy:(t x.name).isSome=true
     ·rw[Zq cy];simp[cy]
     ·rw[Zg cy];simp[a,cy,CN]
    ·rw[Zg a];simp[a]
   by_cases sj:x.kind=25
   ·rw[Zq sj]
    cases b8:tj aE x.name with
    |none=>simp[CN,sj]
    |some W=>
     simp only[]
     by_cases aC:o<=W
     ·rw[Zq aC]
      have:¬W<o:=Zo
      simp[CN,sj,this]
     ·rw[Zg aC,K]
      have:W<o:=Zo
      simp[sj,this]
   ·rw[Zg sj,K];simp[sj]
  rw[H]
  simp only[Zr,forall_eq_or_imp,and_assoc]
def axo(t:aW->Option f1)(aE:List Go.aT.Node)(o:Nat):∀(k:List eo) (s:(aW->Option Int)×(Int×Int)) (w:aW),((k.foldl (ml t aE o) s).1 w).getD 0=(s.1 w).getD 0+hG w (k.flatMap eo.left):=by
 intro k
 induction k with
 |nil=>intro s w;simp[QH]
 |cons al k ag=>
  intro s w
  rw[ZZ,ag,Ys,Im]
  simp only[ml]
  rw[Ue,T4]
  omega
def axp(t:aW->Option f1)(aE:List Go.aT.Node)(o:Nat):∀(k:List eo) (s:(aW->Option Int)×(Int×Int)),(∀w,0<=(s.1 w).getD 0)->((k.foldl (ml t aE o) s).2.1=0↔s.2.1=0/\(∀w∈k.flatMap eo.left,∃v,t w=some v/\v.kind≠1/\(s.1 w).getD 0+hG w (k.flatMap eo.left)<=1)/\∀al∈k,H1 t aE o al.right):=by
 intro k
 induction k with
 |nil=>intro s _;simp
 |cons al k ag=>
  intro s aD
  have u5:∀w,0<=((ml t aE o s al).1 w).getD 0:=by
   intro w
   simp only[ml]
   rw[Ue]
   have:=aD w
   have:=CC w ((rl al).map Prod.fst)
   omega
  rw[ZZ,ag _ u5]
  have bw:(ml t aE o s al).2.1=0↔(s.2.1=0/\∀w∈al.left,∃v,t w=some v/\v.kind≠1/\(s.1 w).getD 0+hG w al.left<=1)/\H1 t aE o al.right:=by
   simp only[ml]
   rw[axR,avk t _ _ aD,T4]
  have b3:∀w,((ml t aE o s al).1 w).getD 0=(s.1 w).getD 0+hG w al.left:=by
   intro w
   simp only[ml]
   rw[Ue,T4]
  rw[bw]
  simp only[b3,Ys,Im,Zx,Zr,forall_eq_or_imp]
  constructor
  ·rintro⟨⟨⟨H,K⟩,ak⟩,ay,be⟩
   refine⟨H,λw bF=> ?_,ak,be⟩
   by_cases aZ:w∈k.flatMap eo.left
   ·obtain⟨v,bJ,b2,cF⟩:=ay w aZ
    exact⟨v,bJ,b2,Zo⟩
   ·have a8:¬0<hG w (k.flatMap eo.left):=λB=>aZ (ψ.1 B)
    have:=CC w (k.flatMap eo.left)
    obtain⟨v,bJ,b2,cF⟩:=K w (bF.resolve_right aZ)
    exact⟨v,bJ,b2,Zo⟩
  ·rintro⟨H,K,ak,ay⟩
   refine⟨⟨⟨H,λw bF=> ?_⟩,ak⟩,λw bF=> ?_,ay⟩
   ·obtain⟨v,bJ,b2,cF⟩:=K w (.inl bF)
    have:=CC w (k.flatMap eo.left)
    exact⟨v,bJ,b2,Zo⟩
   ·obtain⟨v,bJ,b2,cF⟩:=K w (.inr bF)
    exact⟨v,bJ,b2,Zo⟩
def azM(Y:aW->Option Int)(k:List (Int×eP))(f:Int×Int):(k.foldl (qH Y) f).1=0↔f.1=0/\∀x∈k,¬(x.1≠1/\(Y x.2.name).getD 0=0):=
 aba (λx:Int×eP=>x.1≠1/\(Y x.2.name).getD 0=0) (λ_=>37) (λx=>x.2.at_) (λ_=>Zd) k f
def t7(v:f1):Int×eP:=(v.kind,v.d)
def awF(o:Nat)(t:aW->Option f1)(x:aW×Nat)(w:aW):((nT o t x) w).map t7=(t w).map t7:=by
 unfold nT
 cases a:t x.1 with
 |none=>rfl
 |some v=>
  simp only[]
  split
  ·by_cases bF:w=x.1
   ·subst bF;simp[a,t7]
   ·simp[bF]
  ·rfl
def abb{α:Type}(s:(aW->Option f1)->α->(aW->Option f1))(aD:∀t x w,(s t x w).map t7=(t w).map t7):∀(k:List α) (t:aW->Option f1) (w:aW),(k.foldl s t w).map t7=(t w).map t7:=by
 intro k
 induction k with
 |nil=>intro t w;rfl
 |cons E k ag=>intro t w;rw[ZZ,ag,aD]
def Pk(g:Go.aT.Node)(w:aW):(g0 g w).map t7=((mN g).1 w).map t7:=
 abb _ (λt x w=>abb _ (λt e w=>awF _ _ _ _) _ _ _) _ _ _
section
variable{t g8:aW->Option f1}
end
section
variable{X:co}{h R gn aU aQ:S ai}{j ap aL bc:Nat}
structure xp(X:co)(ha:S ai)(dP cT c8:Nat)(p:z)(o:Int)(dl:z)(f:Int×Int)(Y:aW->Option Int)(h:S ai)(n:Nat):Prop where
 le:dP<=n
 jW:fU X h cT p o dl (.map c8) f
 hG:nv X h c8 (n7 Y)
 low:∀e,e<dP->e≠cT->e≠c8->Z X h e=Z X ha e
def xp.ad{ha:S ai}{dP cT c8:Nat}{p dl:z}{o:Int}{f:Int×Int}{Y:aW->Option Int}(a:xp X ha dP cT c8 p o dl f Y aU aL)(m1:cT<dP)(uZ:c8<dP)(aM:aL<=bc)(aC:∀e,e<aL->Z X aQ e=Z X aU e):xp X ha dP cT c8 p o dl f Y aQ bc:=by
 have ge:=a.le
 refine⟨Zo, ?_,a.hG.ad (aC _ Zo),λe H K ak=>by rw[aC e Zo];exact a.low e H K ak⟩
 have:=a.jW
 unfold fU at*
 rw[aC _ Zo];exact this
def Cy(al:eo)(i:Nat):Int:=(al.cL[i]?).getD 0
def auX{al:eo}{i:Nat}{w:aW}(a:al.left[i]? =some w):(rl al)[i]? =some (w,Cy al i):=by
 unfold rl
 rw[Zv,VI a];rfl
def auY(al:eo):(rl al).length=al.left.length:=by simp[rl]
def ams(az:dN X){P:Nat->Prop}{cT c8:Nat}{p dl:z}{o:Nat}{aE:List Go.aT.Node}{g:Go.aT.Node}(aM:(q X).bf<=j)(m1:(q X).bf<=cT)(ww:(q X).bf<=c8)(yc:cT<j)(wx:c8<j)(A7:cT≠c8)
 (bW:∀e,P e->e<j/\e≠cT/\e≠c8)(bS:ui X h P aE p)(aC:aE[o]? =some g)(bh:vM X h P dl (g0 g))(ax:fU X h cT p o dl (.map c8) (0,0))(gv:nv X h c8 (n7 λ_=>none)):
 ba X 22 [.ptr cT 0] h j (λac R ap=>ac= .tuple []/\fU X R cT p o dl (.map c8) (nb aE o g)/\j<=ap/\∀e,e<j->e≠cT->e≠c8->Z X R e=Z X h e) (λ_ _ _=>False):=by
 refine L2 (aiK X) (az.none _ _ rfl) ?_
 rw[aiL]
 unfold Wv
 obtain⟨ph,aCT,aCR,aCS,rfl,o1,afC,adq,adp⟩:=id bS
 have JN:=adp.wide
 have aBm:=(Zb.1 aC).1
 obtain⟨row,gg,mA⟩:=adp.get o g aC
 have JF:=mA
 have lb:=mA.hZ
 obtain⟨dk,dI,bi,eB,ch,cD,di,f4,bu,rfl,pE,q7,q8,m2,e0⟩:=mA
 have asm:=bW ph o1
 have dE:aV X h (.ptr cT 0)=some (.ptr ph 0):=by unfold fU at ax;rw[bX ax];rfl
 have dF:aV X h (.ptr cT 1)=some (.Z (o:Int)):=by unfold fU at ax;rw[bX ax];rfl
 have dV:=adq.gF o (by rw[JN.1];omega)
 refine tm ⟨?_⟩
 generalize fi:bp X h j _=aU
 have jK:Z X aU j=zG [.ptr cT 0] 1:=by rw[<-fi,bz aM];rfl
 have cb:bG X h j aU (j+1):=by rw[<-fi];exact dS
 clear fi
 have vb:∀e,P e->Z X aU e=Z X h e:=λe D=>cb.ad e (bW e D).1
 rw[<-cb.fq _ _ yc]at dE dF
 rw[<-cb.fq _ _ asm.1]at afC
 have nN:=(adq.ad vb).row Zd gg
 refine gb (bX jK) @dE (Za @dF (Za @afC (Za @dV @nN))) ⟨?_⟩
 refine gr (km (o:=6) (b:=j+1+13) (U:=0) (n:=6) (c:=S.ofList [.str [], .Z 0, .a2, .a2, .a2, .a2] 0 .nil) (bz Zo) Zo rfl Zd Zd lb) ?_
 generalize dG:bp X _ (j+1+13) _=aQ
 have b1:Z X aQ (j+1+13)=zG [.str g.name, .Z g.at_,dk,dI,bi,eB] 6:=by rw[<-dG,bz Zo];rfl
 have cu:bG X aU (j+1) aQ (j+1+14):=by rw[<-dG];exact dS
 clear dG
 rw[<-cu.ad _ Zo]at jK
 have nE:bG X h j aQ (j+1+14):=⟨Zo,λe D=>by rw[cu.ad e Zo,cb.ad e D]⟩
 have tL:∀e,P e->Z X aQ e=Z X h e:=λe D=>nE.ad e (bW e D).1
 rw[<-cu.fq _ _ Zo]at dE dF
 refine gb (bX jK) @dE (bX b1) ⟨?_⟩
 refine(aa4 (j:=j+1+15+12) (h:=aQ) az Zo (bS.ad (bk:=P) tL (λ_ a=>a)) (λe D=>zC (bW e D).1) g.name).Zm ?_
 rintro ac br bL ⟨rfl,cz⟩
 have jo:=cz.le
 rw[<-cz.ad _ Zo]at jK b1
 rw[<-cz.fq _ _ Zo]at dE dF
 have sk:bG X h j br bL:=⟨Zo,λe D=>by rw[cz.ad e Zo,nE.ad e D]⟩
 have tM:∀e,P e->Z X br e=Z X h e:=λe D=>sk.ad e (bW e D).1
 have x3:xp X br bL cT c8 (.ptr ph 0) o dl (0,0) (λ_=>none) br bL:=⟨Zh _,by unfold fU at*;rw[sk.ad _ yc];exact ax,gv.ad (sk.ad _ wx),λ_ _ _ _=>rfl⟩
 generalize GI:(tj aE g.name).getD 0=Pn
 have gL:vk aE o g=if Pn<o then my (0,0) 24 g.at_ else(0,0):=by unfold vk;rw[GI]
 refine gb (bX jK) @dE @dF ⟨?_⟩
 refine iw (λcZ R aP=>cZ.g 1=some (.ptr j 0)/\cZ.g 2=some (.ptr (j+1+13) 0)/\cZ.bg=[]/\xp X br bL cT c8 (.ptr ph 0) o dl (vk aE o g) (λ_=>none) R aP) (λW bx=> ?_) ?_
 ·by_cases cS:Pn<o
  ·have aN:=zE Pn o
   rw[Zq cS]at gL
   refine ey @aN (bX jK) (bX b1) ⟨?_⟩
   refine(vT (h:=br) az m1 x3.jW 24 g.at_).Zm ?_
   rintro ac b0 cU ⟨rfl,uM,jy,gl⟩
   refine cY ⟨?_⟩
   exact bx _ _ _ ⟨bt,bt,rfl,Zo,by rw[gL];exact uM,x3.hG.ad (gl _ (λB=>A7 B.symm)),λe H K ak=>gl e K⟩
  ·have aN:=zD Pn o
   rw[Zg cS]at gL
   refine cq @aN ⟨?_⟩
   exact bx _ _ _ ⟨bt,bt,rfl,by rw[gL];exact x3⟩
 rintro I b0 cU ⟨t1,ei,lD,qd⟩
 have jy:=qd.le
 have aoM:Z X b0 j=zG [.ptr cT 0] 1:=by rw[qd.low _ Zo Zo Zo];exact jK
 have aoQ:Z X b0 (j+1+13)=zG [.str g.name, .Z g.at_,dk,dI,bi,eB] 6:=by rw[qd.low _ Zo Zo Zo];exact b1
 have yG:∀e,P e->Z X b0 e=Z X h e:=λe D=>by have:=bW e D;rw[qd.low e Zo this.2.1 this.2.2,tM e D]
 show cl _ _
 refine gb @t1 @ei (Za (bX aoM) (bX aoQ)) ⟨?_⟩
 refine(amZ (j:=cU) (h:=b0) az Zo m1 Zo (λe D=>⟨zC (bW e D).1,(bW e D).2.1⟩) (bh.ad (bk:=P) yG (λ_ a=>a)) qd.jW (JF.ad (bk:=P) yG (λ_ a=>a)) trivial).Zm ?_
 rintro ac b5 cA ⟨rfl,Da,jz,lW⟩
 have ik:xp X br bL cT c8 (.ptr ph 0) o dl (uv (g0 g) g (vk aE o g)) (λ_=>none) b5 cA:=⟨Zo,Da,qd.hG.ad (lW _ Zo (λB=>A7 B.symm)),λe H K ak=>by rw[lW e Zo K];exact qd.low e H K ak⟩
 have aoR:Z X b5 (j+1+13)=zG [.str g.name, .Z g.at_,dk,dI,bi,eB] 6:=by rw[ik.low _ Zo Zo Zo];exact b1
 have oq:=e0.wide
 have e5:=m2.len
 have hX:=m2.many
 rw[oq.1]at e5 hX
 have SP:nb aE o g=(fO g).foldl (qH (g.eqs.foldl (ml (g0 g) aE o) (λ_=>none,uv (g0 g) g (vk aE o g))).1) (g.eqs.foldl (ml (g0 g) aE o) (λ_=>none,uv (g0 g) g (vk aE o g))).2:=rfl
 generalize NS:((λ_=>none,uv (g0 g) g (vk aE o g)):(aW->Option Int)×(Int×Int))=mP at SP
 have ap7:xp X br bL cT c8 (.ptr ph 0) o dl mP.2 mP.1 b5 cA:=by rw[<-NS];exact ik
 have hc:∀w,0<=(mP.1 w).getD 0/\(mP.1 w).getD 0<=((0:Nat):Int)*1048576:=by intro w;rw[<-NS];simp
 refine gb @ei (bX aoR) @e5 ⟨?_⟩
 refine gM ?_
 refine fP (λm I R aP=>∃(W:Nat),I.g 1=some (.ptr j 0)/\I.g 2=some (.ptr (j+1+13) 0)/\I.bg=[]/\I.g 49=some eB/\I.g 50=some (.Z (g.eqs.length:Int))/\I.g 51=some (.Z (W:Int))/\W+m=g.eqs.length
  /\xp X br bL cT c8 (.ptr ph 0) o dl ((g.eqs.take W).foldl (ml (g0 g) aE o) mP).2 ((g.eqs.take W).foldl (ml (g0 g) aE o) mP).1 R aP/\(∀w,0<=(((g.eqs.take W).foldl (ml (g0 g) aE o) mP).1 w).getD 0/\(((g.eqs.take W).foldl (ml (g0 g) aE o) mP).1 w).getD 0<=(W:Int)*1048576))
  g.eqs.length ⟨0,a6 t1,a6 ei,lD,bt,bt,gc,Zo,ap7,hc⟩ ?_
 clear t1 ei lD
 rintro m I cp d2 ⟨W,t1,ei,lD,rF,vw,t51,bx,jl,ab0⟩
 have rb:=jl.le
 have aoN:Z X cp j=zG [.ptr cT 0] 1:=by rw[jl.low _ Zo Zo Zo];exact jK
 have aoS:Z X cp (j+1+13)=zG [.str g.name, .Z g.at_,dk,dI,bi,eB] 6:=by rw[jl.low _ Zo Zo Zo];exact b1
 have GX:∀e,P e->Z X cp e=Z X h e:=λe D=>by have:=bW e D;rw[jl.low e Zo this.2.1 this.2.2,tM e D]
 cases m with
 |zero=>
  have aN:=zD W g.eqs.length
  rw[ZH Zo]at jl
  generalize g.eqs.foldl (ml (g0 g) aE o) mP=G at jl SP
  refine ht @t51 @vw @ei @aN (bX aoS) ⟨?_⟩
  refine(Mm az Zo).Zm ?_
  rintro ac cH eh ⟨rfl,rfl,e3,cG,d4,fK⟩
  generalize sA:d2+1=dj at*
  have yH:∀e,P e->Z X cH e=Z X h e:=λe D=>by rw[e3.ad e (zC (bW e D).1),GX e D]
  have A6:fU X cH cT (.ptr ph 0) o dl (.map c8) G.2:=by have:=jl.jW;unfold fU at*;rw[e3.ad cT Zo];exact this
  have alP:Z X cH j=zG [.ptr cT 0] 1:=by rw[e3.ad _ Zo];exact aoN
  refine gM ?_
  refine Mn (P:=P) (g:=g) (ch:=ch) (cD:=cD) (di:=di) (dk:=dk) (dI:=dI) (bi:=bi) az (λi R aP=>rU X cH dj cT c8 (.ptr ph 0) o dl (.map c8) (((fO g).take i).foldl (qH G.1) G.2) G.1 R aP) Zo Zo Zo Zo
   (pE.ad yH) (q7.ad yH) (q8.ad yH) cG d4 fK (λi R aP a=>⟨a.le,λe D=>a.low e (zC (bW e D).1) (bW e D).2.1 (bW e D).2.2⟩)
   (λi aU aL aQ bc a ge aC=>a.ad Zo Zo ge aC) (λR cd=>⟨Zh _,by unfold fU at*;rw[cd.ad _ Zo];exact A6,(jl.hG.ad (e3.ad _ Zo)).ad (cd.ad _ Zo),λe D _ _=>cd.ad e D⟩) ?_ ?_
  ·intro mk i eY d ea jM aA k8 xU apk
   rw[AU (qH G.1) _ aA]
   generalize ((fO g).take i).foldl (qH G.1) G.2=bZ at k8 ⊢
   have Dj:=k8.le
   have kP:e8 d=[.str d.name, .Z d.at_, .bool d.ty.b, .bool d.ty.s, .Z d.ty.w, .str d.on, .Z d.f7, .bool d.no]:=rfl
   rw[kP]
   unfold sU
   refine cY ⟨?_⟩
   generalize tt:bp X _ jM _=eC
   have lr:Z X eC jM=zG [.str d.name, .Z d.at_, .bool d.ty.b, .bool d.ty.s, .Z d.ty.w, .str d.on, .Z d.f7, .bool d.no] 8:=by rw[<-tt,bz Zo];rfl
   have hw:∀e,e<jM->Z X eC e=Z X ea e:=λe D=>by rw[<-tt];exact zI
   clear tt
   refine⟨by rw[hw _ Zo];exact apk, ?_⟩
   generalize wl:bp X eC (dj+1) _=ha
   have iY:Z X ha (dj+1)=some (mk .busy none):=by rw[<-wl,bz Zo]
   have ld:∀e,e≠dj+1->Z X ha e=Z X eC e:=λe D=>by rw[<-wl,aJ Zo D]
   clear wl
   have pA:=k8.ad (aQ:=ha) (bc:=jM+1) Zo Zo Zo (λe H K=>by rw[ld e K,hw e H])
   rw[<-ld _ Zo]at lr
   have Ru:Z X ha dj=some (.deferred (some [])):=by rw[ld _ Zo,hw _ Zo];exact xU
   have ck:aV X ha (.ptr j 0)=some (.ptr cT 0):=by rw[bX (show Z X ha j=_ by rw[pA.low _ Zo Zo Zo];exact alP)];rfl
   have d9:aV X ha (.ptr cT 3)=some (.map c8):=by have:=pA.jW;unfold fU at this;rw[bX this];rfl
   have jA:l2 X ha 9 (.Z 0) (.map c8) (.str d.name) false=some (.Z ((G.1 d.name).getD 0)):=by
    rw[BG pA.seen];unfold n7;cases G.1 d.name<;>rfl
   have kQ:∀R aP,rU X cH dj cT c8 (.ptr ph 0) o dl (.map c8) (qH G.1 bZ (eY,d)) G.1 R aP->Z X R dj=some (.deferred (some []))->(z.bool true=z.bool true/\rU X cH dj cT c8 (.ptr ph 0) o dl (.map c8) (qH G.1 bZ (eY,d)) G.1 (bp X R (dj+1) (some (mk .ready none))) aP/\Z X (bp X R (dj+1) (some (mk .ready none))) dj=some (.deferred (some []))/\Z X (bp X R (dj+1) (some (mk .ready none))) (dj+1)=some (mk .ready none)):=λR aP a K=>
    ⟨rfl,a.ad Zo Zo (Zh _) (λe H K=>aJ Zo K),by rw[aJ Zo Zo];exact K,bz Zo⟩
   refine tm ⟨?_⟩
   refine gM ?_
   by_cases hW:eY=1
   ·have aN:decide (eY≠1)=false:=by simp[hW]
    have q3:qH G.1 bZ (eY,d)=bZ:=by unfold qH;rw[Zg (by simp[hW])]
    refine cq @aN ⟨?_⟩
    rw[q3]at kQ ⊢
    exact⟨⟨.busy,none,iY⟩,kQ _ _ (pA.ad Zo Zo Zo (λ_ _ _=>rfl)) Ru⟩
   ·have aN:decide (eY≠1)=true:=by simp[hW]
    by_cases ce:(G.1 d.name).getD 0=0
    ·have CJ:decide ((G.1 d.name).getD 0=0)=true:=by simp[ce]
     have q3:qH G.1 bZ (eY,d)=my bZ 37 d.at_:=by unfold qH;rw[Zq ⟨hW,ce⟩]
     refine eD @aN @t1 @ck @d9 (bX lr) @jA @CJ ⟨?_⟩
     refine(vT (h:=ha) az m1 pA.jW 37 d.at_).Zm ?_
     rintro ac akT avT ⟨rfl,Sg,arG,sw⟩
     refine cY ⟨?_⟩
     rw[q3]at kQ ⊢
     have Gp:=pA.le
     exact⟨⟨.busy,none,by rw[sw _ Zo];exact iY⟩,kQ _ _ ⟨Zo,Sg,pA.seen.ad (sw _ Zo),λe H K ak=>by rw[sw e K];exact pA.low e H K ak⟩ (by rw[sw _ Zo];exact Ru)⟩
    ·have CJ:decide ((G.1 d.name).getD 0=0)=false:=by simp[ce]
     have q3:qH G.1 bZ (eY,d)=bZ:=by unfold qH;rw[Zg (λa=>ce a.2)]
     refine eD @aN @t1 @ck @d9 (bX lr) @jA @CJ ⟨?_⟩
     rw[q3]at kQ ⊢
     exact⟨⟨.busy,none,iY⟩,kQ _ _ (pA.ad Zo Zo Zo (λ_ _ _=>rfl)) Ru⟩
  ·intro ea jM k8 xU
   rw[YU]at k8
   have Dj:=k8.le
   rw[<-SP]at k8
   show pi X [] _ _ _ _ _
   simp only[yJ,w6,lD]
   refine⟨by show(q X).bf<=dj;omega,xU, ?_⟩
   show qB _ _ _ _ _
   refine⟨rfl, ?_,Zo,λe H K ak=> ?_⟩
   ·have:=k8.jW
    unfold fU at*
    rw[aJ Zo Zo];exact this
   ·rw[aJ Zo Zo,k8.low e Zo K ak,e3.ad e Zo,jl.low e Zo K ak,sk.ad e H]
 |succ m=>
  have aN:=zE W g.eqs.length
  have bw:=zH W
  obtain⟨al,bP⟩:=zF g.eqs W
  obtain⟨aCU,asz,Dp⟩:=e0.get W al bP
  have dV:=m2.gF W (by rw[oq.1];omega)
  have nN:=(m2.ad GX).row Zd asz
  obtain⟨yS,B4,aAM,aAO,hy,rfl,it,nL,qn,sD⟩:=Dp
  have yq:=it.len
  have GB:=it.many
  have NH:=nL.1.len
  have asw:=nL.1.many
  rw[show(f8 al.left).length=al.left.length from by simp[f8]]at yq GB
  rw[Zl]at NH asw
  have cX:=AU (ml (g0 g) aE o) mP bP
  generalize aqi:(g.eqs.take W).foldl (ml (g0 g) aE o) mP=Hu at jl cX ab0
  refine lT @t51 @vw @rF @aN @dV @nN ⟨?_⟩
  refine gr (km (o:=4) (b:=d2) (U:=0) (n:=4) (c:=S.ofList [.a2, .a2, .Z 0, .cW] 0 .nil) (bz Zo) Zo rfl Zd Zd sD) ?_
  generalize nF:bp X _ d2 _=cH
  have eW:Z X cH d2=zG [yS,B4, .Z al.at_,hy] 4:=by rw[<-nF,bz Zo];rfl
  have gG:∀e,e<d2->Z X cH e=Z X cp e:=λe D=>by rw[<-nF];exact zI
  clear nF
  have q1:=jl.ad (aQ:=cH) (bc:=d2+1) Zo Zo Zo (λe H=>gG e H)
  refine AV (bX eW) @yq ⟨?_⟩
  refine gM ?_
  refine fP (λe6 I R aP=>∃(i:Nat),I.g 1=some (.ptr j 0)/\I.g 2=some (.ptr (j+1+13) 0)/\I.bg=[]/\I.g 49=some eB/\I.g 50=some (.Z (g.eqs.length:Int))/\I.g 51=some (.Z (W:Int))/\I.g 6=some (.ptr d2 0)/\I.g 56=some yS/\I.g 57=some (.Z (al.left.length:Int))/\I.g 58=some (.Z (i:Int))/\i+e6=al.left.length
   /\xp X br bL cT c8 (.ptr ph 0) o dl (((rl al).take i).foldl (nR (g0 g)) Hu).2 (((rl al).take i).foldl (nR (g0 g)) Hu).1 R aP/\(∀w,0<=((((rl al).take i).foldl (nR (g0 g)) Hu).1 w).getD 0/\((((rl al).take i).foldl (nR (g0 g)) Hu).1 w).getD 0<=(W:Int)*1048576+i)
   /\d2+1<=aP/\Z X R d2=zG [yS,B4, .Z al.at_,hy] 4)
   al.left.length ⟨0,a6 t1,a6 ei,lD,a6 rF,a6 vw,a6 t51,bt,bt,bt,gc,Zo,q1,λw=>by simpa using ab0 w,Zo,eW⟩ ?_
  clear t1 ei lD rF vw t51
  rintro e6 cZ ea jM ⟨i,t1,ei,lD,rF,vw,t51,g9,pj,y4,y5,aA,k8,pB,aBR,iX⟩
  have Dj:=k8.le
  have abd:Z X ea j=zG [.ptr cT 0] 1:=by rw[k8.low _ Zo Zo Zo];exact jK
  have Bv:∀e,P e->Z X ea e=Z X h e:=λe D=>by have:=bW e D;rw[k8.low e Zo this.2.1 this.2.2,tM e D]
  cases e6 with
  |zero=>
   have eV:=zD i al.left.length
   rw[ZH (by rw[auY];omega)]at k8 pB
   refine eD @y5 @y4 @t1 @g9 @eV (bX abd) (bX iX) ⟨?_⟩
   refine(axS (j:=jM) (h:=ea) az Zo m1 Zo (λe D=>⟨zC (bW e D).1,(bW e D).2.1⟩) (bh.ad (bk:=P) Bv (λ_ a=>a)) (bS.ad (bk:=P) Bv (λ_ a=>a)) k8.jW (cm.ad Bv _ _ qn)).Zm ?_
   rintro ac eC mK ⟨rfl,Sf,wz,qk⟩
   refine dd @t51 @bw ⟨?_⟩
   refine⟨m,Zo,W+1,a6 t1,a6 ei,lD,a6 rF,a6 vw,bt,Zo, ?_, ?_⟩
   ·rw[cX]
    exact⟨Zo,Sf,k8.hG.ad (qk _ Zo (λB=>A7 B.symm)),λe H K ak=>by rw[qk e Zo K];exact k8.low e H K ak⟩
   ·rw[cX]
    intro w
    have:=pB w
    simp only[ml]
    constructor
    ·exact this.1
    ·have K:=this.2
     have ak:i<=1048576:=Zo
     push_cast
     omega
  |succ e6=>
   have eV:=zE i al.left.length
   have b3:=zH i
   obtain⟨w,bF⟩:=zF al.left i
   have uT:=it.gF i (by simp[f8];omega)
   have g4:=(it.ad Bv).cell i [.str w] 0 (.str w) (by unfold f8;rw[Zv,bF];rfl) rfl
   rw[ZP]at uT
   rw[ZP,ZR]at g4
   have wG:=AU (nR (g0 g)) Hu (auX bF)
   generalize aqh:((rl al).take i).foldl (nR (g0 g)) Hu=oI at k8 wG pB
   have aqD:=pB w
   refine gb @y5 @y4 (Za @pj (Za @g9 (Za @eV (Za @uT (Za @g4 (Za (bX iX) @NH)))))) ⟨?_⟩
   refine gM ?_
   refine gb @y5 @y4 (Za @pj (Za @g9 (Za @eV (Za @uT (Za @g4 (Za (bX iX) @NH)))))) ⟨?_⟩
   refine gM ?_
   refine gb @y5 @y4 (Za @pj (Za @g9 (Za @eV (Za @uT (Za @g4 (Za (bX iX) @NH)))))) ⟨?_⟩
   refine iw (λr6 R aP=>r6.g 1=some (.ptr j 0)/\r6.g 2=some (.ptr (j+1+13) 0)/\r6.bg=[]/\r6.g 49=some eB/\r6.g 50=some (.Z (g.eqs.length:Int))/\r6.g 51=some (.Z (W:Int))/\r6.g 6=some (.ptr d2 0)/\r6.g 56=some yS/\r6.g 57=some (.Z (al.left.length:Int))/\r6.g 58=some (.Z (i:Int))/\r6.g 8=some (.str w)/\r6.g 9=some (.Z (Cy al i))/\R=ea/\aP=jM) (λwL kR=> ?_) ?_
   ·by_cases Jk:i<al.cL.length
    ·have iI:=zE i al.cL.length
     obtain⟨E,aB⟩:∃E,al.cL[i]? =some E:=⟨_,Ze Jk⟩
     have acD:=nL.1.gF i (by rw[Zl];exact Jk)
     have ab8:=(nL.1.ad Bv).cell i [GP E] 0 (GP E) (by rw[Zv,aB];rfl) rfl
     rw[ZP]at acD
     rw[ZP,ZR]at ab8
     have Gb:Cy al i=E:=by unfold Cy;rw[aB];rfl
     refine ht @iI @g9 (bX iX) @acD @ab8 ⟨?_⟩
     exact kR _ _ _ ⟨a6 t1,a6 ei,lD,a6 rF,a6 vw,a6 t51,a6 g9,a6 pj,a6 y4,a6 y5,bt,by refine tl ⟨?_⟩;rw[Gb];rfl,rfl,rfl⟩
    ·have iI:=zD i al.cL.length
     have Gb:Cy al i=0:=by unfold Cy;rw[ZX Zo];rfl
     refine cq @iI ⟨?_⟩
     exact kR _ _ _ ⟨a6 t1,a6 ei,lD,a6 rF,a6 vw,a6 t51,a6 g9,a6 pj,a6 y4,a6 y5,bt,by refine tl ⟨?_⟩;rw[Gb],rfl,rfl⟩
   ·clear t1 ei lD rF vw t51 g9 pj y4 y5
    rintro r6 R aP ⟨t1,ei,lD,rF,vw,t51,g9,pj,y4,y5,iQ,t9,rfl,rfl⟩
    show cl _ _
    refine hm @t1 @iQ @t9 (bX abd) ⟨?_⟩
    refine(auV az Zo m1 ww Zo Zo A7 k8.jW (bh.ad (bk:=P) Bv (λ_ a=>a)) (λe D=>⟨zC (bW e D).1,(bW e D).2.1,(bW e D).2.2⟩) k8.hG w (Cy al i) ⟨aqD.1,Zo⟩).Zm ?_
    rintro ac eC mK ⟨rfl,Sf,apV,wz,qk⟩
    refine dd @y5 @b3 ⟨?_⟩
    refine⟨e6,Zo,i+1,a6 t1,a6 ei,lD,a6 rF,a6 vw,a6 t51,a6 g9,a6 pj,a6 y4,bt,Zo, ?_, ?_,Zo,by rw[qk _ Zo Zo Zo];exact iX⟩
    ·rw[wG]
     exact⟨Zo,Sf,apV,λe H K ak=>by rw[qk e Zo K ak];exact k8.low e H K ak⟩
    ·rw[wG]
     intro x
     have af:=pB x
     simp only[nR]
     split
     ·simp only[YL];push_cast;omega
     ·push_cast;omega
end
def avX{C:aK}{h:S ai}{j r pos c:Nat}{s:aW}(V:C.bf<=r)(a:Z C h r=some (.oF s pos))(ax:s[pos]? =some c)(H:c<128):
 wk C kD true h j (kE (.ptr r 0))=some (.e2 (.tuple [.zT, .Z (pos:Int), .int .i32 (c:Int)]) (bp C h r (some (.oF s (pos+1)))) j):=by
 have cS:=(Zb.1 ax).1
 have bw:Nat.blt pos s.length=true:=by simp[Nat.blt];omega
 have b3:Nat.blt c 128=true:=by simp[Nat.blt];omega
 have er:jI C r=true:=jg V
 simp only[wk,kE,er,eU,a,bw,pN,ax,b3,bn.setObj,gS]
 rfl
def avV{C:aK}{h:S ai}{j r pos:Nat}{s:aW}(V:C.bf<=r)(a:Z C h r=some (.oF s pos))(ax:s.length<=pos):
 wk C kD true h j (kE (.ptr r 0))=some (.val (.tuple [.zF])):=by
 have bw:Nat.blt pos s.length=false:=by
  cases bP:Nat.blt pos s.length with
  |false=>rfl
  |true=>simp[Nat.blt]at bP;omega
 have er:jI C r=true:=jg V
 simp only[wk,kE,er,eU,a,bw,ku]
def aoD{U:Option dL}{h R:S ai}{j ap:Nat}{aj:bR}{v:z}(a:U=some (.e2 v R ap))(o:aj v R ap):FU U h j aj:=by subst a;exact⟨o⟩
def aoC{U:Option dL}{h:S ai}{j:Nat}{aj:bR}{v:z}(a:U=some (.val v))(o:aj v h j):FU U h j aj:=by subst a;exact⟨o⟩
section
variable{X:co}{h R gn aU aQ:S ai}{j ap aL bc:Nat}
def TG{c:Nat}(a:i7 c=true):(97<=c/\c<=122)\/(65<=c/\c<=90)\/(48<=c/\c<=57)\/c=95:=by
 simp[i7,qt,iM]at a
 omega
def awh(az:dN X){c:Nat}(ax:i7 c=true):ba X 105 [.int .i32 (c:Int)] h j (λac R ap=>ac= .zF/\R=h/\j<=ap) (λ_ _ _=>False):=by
 refine zJ az (ahw X) ?_
 rw[ahx]
 unfold VT
 rcases TG ax with a|a|a|a
 ·have cI:decide ((c:Int)<97)=false:=by simp only[Zc];omega
  have cE:decide ((122:Int)<(c:Int))=false:=by simp only[Zc];omega
  refine dd @cI @cE ⟨?_⟩
  exact⟨rfl,rfl,Zo⟩
 ·have cI:decide ((c:Int)<97)=true:=by simp only[Zi];omega
  have cE:decide ((c:Int)<65)=false:=by simp only[Zc];omega
  have eV:decide ((90:Int)<(c:Int))=false:=by simp only[Zc];omega
  refine ey @cI @cE @eV ⟨?_⟩
  exact⟨rfl,rfl,Zo⟩
 ·have cI:decide ((c:Int)<97)=true:=by simp only[Zi];omega
  have cE:decide ((c:Int)<65)=true:=by simp only[Zi];omega
  have eV:decide ((c:Int)<48)=false:=by simp only[Zc];omega
  have iI:decide ((57:Int)<(c:Int))=false:=by simp only[Zc];omega
  refine hm @cI @cE @eV @iI ⟨?_⟩
  exact⟨rfl,rfl,Zo⟩
 ·have cI:decide ((c:Int)<97)=true:=by simp only[Zi];omega
  have cE:decide ((c:Int)<65)=false:=by simp only[Zc];omega
  have eV:decide ((90:Int)<(c:Int))=true:=by simp only[Zi];omega
  have iI:decide ((c:Int)<48)=false:=by simp only[Zc];omega
  have fG:decide ((57:Int)<(c:Int))=true:=by simp only[Zi];omega
  have hP:decide ((c:Int)≠95)=false:=by simp only[Zc,ne_eq,Decidable.not_not];omega
  refine lT @cI @cE @eV @iI @fG @hP ⟨?_⟩
  exact⟨rfl,rfl,Zo⟩
def axV{C:aK}{s:aW}{aj:bR}(o:aj (.ptr j 0) (bp C h j (some (.oF s 0))) (j+1)):iA (UV C h j (.str s)) h j aj:=kl (by simp only[UV,na,l6,gS]) o
def al7:dv X h .eql 4 false .zF .zT=some .zF:=Zk
def atT(az:dN X){s:aW}(aD:∀c∈s,i7 c=true)(aM:(q X).bf<=j):
 ba X 106 [.str s, .func (.func 105) [] []] h j (λac R ap=>ac= .Z (-1)/\bG X h j R ap) (λ_ _ _=>False):=by
 refine zJ az (ahy X) ?_
 rw[ahz]
 unfold VU
 refine zJ az (ah6 X) ?_
 rw[ah7]
 unfold Wb
 refine axV ?_
 generalize fi:bp X h j _=aU
 have b4:Z X aU j=some (.oF s 0):=by rw[<-fi,bz aM]
 have cb:bG X h j aU (j+1):=by rw[<-fi];exact dS
 clear fi
 refine cY ⟨?_⟩
 refine fP (λm I R aP=>∃(W:Nat),I.g 1=some (.func (.func 105) [] [])/\I.g 2=some .zT/\I.g 10=some (.ptr j 0)/\W+m=s.length/\Z X R j=some (.oF s W)/\bG X h j R aP/\j+1<=aP)
  s.length ⟨0,bt,bt,bt,Zo,b4,cb,Zo⟩ ?_
 rintro m I aQ bc ⟨W,t1,ei,mR,bx,b1,cu,lX⟩
 cases m with
 |zero=>
  refine cq @mR ⟨?_⟩
  refine aoC (avV aM b1 Zo) ?_
  refine cY ⟨?_⟩
  exact⟨rfl,cu⟩
 |succ m=>
  obtain⟨c,ax⟩:=zF s W
  have aZ:=aD c (Zn ax)
  have apJ:c<128:=zC (TG aZ)
  refine cq @mR ⟨?_⟩
  refine aoD (avX aM b1 ax apJ) ?_
  refine cq @t1 ⟨?_⟩
  generalize gk:bp X aQ j _=br
  have cM:Z X br j=some (.oF s (W+1)):=by rw[<-gk,bz aM]
  have cz:bG X h j br bc:=⟨cu.le,λe D=>by rw[<-gk,aJ aM Zo];exact cu.ad e D⟩
  clear gk
  refine(awh az aZ).Zm ?_
  rintro ac b0 cU ⟨rfl,rfl,jy⟩
  refine dd @ei @al7 ⟨?_⟩
  refine⟨m,Zo,W+1,a6 t1,a6 ei,a6 mR,Zo,cM,⟨zC cz.le,cz.ad⟩,Zo⟩
end
def aga:List aW:=[[110,111,100,101],[114,101,116,117,114,110,115],[118,97,114],[108,101,116],[116,101,108],[119,104,101,110],[110,111,116],[111,114],[120,111,114],[97,110,100],[112,114,101],[102,98,121],[105,102],[116,104,101,110],[101,108,115,101],[109,101,114,103,101],[116,114,117,101],[102,97,108,115,101]]
def axI:∀w∈aga,w∈vq:=by decide
structure s4(X:co):Prop where
 bf:2<X.bf
 at_:∀h,∃b bi,aV X h (.ptr 2 0)=some bi/\dZ X h (λe=>e<X.bf) b bi 1 (f8 aga)
section
variable{X:co}{h R gn aU aQ:S ai}{j ap aL bc:Nat}{s:aW}
def anQ:dv X h .eql 119 true .nilIface .nilIface=some .zT:=Zk
def anR(b:Nat):dv X h .eql 119 true (.iface 187 (.ptr b 0)) .nilIface=some .zF:=Zk
def aah(az:dN X){b:Nat}{bi:z}{P:Nat->Prop}{fT:List aW}{v:Bool}(V:dZ X h P b bi 1 (f8 fT))(bo:decide (s∈fT)=v):
 ba X 47 [bi, .str s] h j (λac R ap=>ac= .bool v/\bG X h j R ap) (λ_ _ _=>False):=by
 refine zJ az (ajw X) ?_
 rw[ajx]
 unfold WU
 refine ba.mono (aj:=λac R ap=>(∃i:Int,ac= .Z i/\decide (0<=i)=v)/\bG X h j R ap) (au:=λ_ _ _=>False) ?_ ?_ (λ_ _ _ a=>a.elim)
 ·refine zJ az (akm X) ?_
  rw[akn]
  unfold Xo
  have e5:=V.len
  have hX:=V.many
  rw[show(f8 fT).length=fT.length from by simp[f8]]at e5 hX
  refine cq @e5 ⟨?_⟩
  refine fP (λm I R aP=>∃(W:Nat),I.g 0=some bi/\I.g 1=some (.str s)/\I.g 7=some (.Z (fT.length:Int))/\I.g 8=some (.Z (W:Int))/\W+m=fT.length/\s∉fT.take W/\R=h/\aP=j)
   fT.length ⟨0,bt,bt,bt,gc,Zo,Zs,rfl,rfl⟩ ?_
  rintro m I aQ bc ⟨W,t0,t1,fC,iQ,bx,aD,rfl,rfl⟩
  cases m with
  |zero=>
   have d:=zD W fT.length
   rw[ZH Zo]at aD
   refine ey @iQ @fC @d ⟨?_⟩
   exact⟨⟨-1,rfl,by rw[<-bo];simp[aD]⟩,bG.refl _ _⟩
  |succ m=>
   have d:=zE W fT.length
   have bw:=zH W
   obtain⟨w,bF⟩:=zF fT W
   have dV:=V.gF W (by simp[f8];omega)
   have g4:=V.cell W [.str w] 0 (.str w) (by unfold f8;rw[Zv,bF];rfl) rfl
   rw[ZP]at dV
   rw[ZP,ZR]at g4
   by_cases cK:s=w
   ·have cE:decide (s=w)=true:=by simp[cK]
    have aZ:s∈fT:=cK▸Zn bF
    refine eD @iQ @fC @t1 @t0 @d @dV (Za @g4 @cE) ⟨?_⟩
    exact⟨⟨W,rfl,by rw[<-bo];simp[aZ]⟩,bG.refl _ _⟩
   have cE:decide (s=w)=false:=by simp[cK]
   refine eD @iQ @fC @t1 @t0 @d @dV (Za @g4 (Za @cE @bw)) ⟨?_⟩
   exact⟨m,Zo,W+1,a6 t0,a6 t1,a6 fC,bt,Zo,by rw[Z3,bF];simp[aD,cK],rfl,rfl⟩
 ·rintro ac aU aL ⟨⟨i,rfl,aA⟩,cd⟩
  refine cY ⟨?_⟩
  exact⟨by rw[<-aA],cd⟩
def agL(az:dN X)(t:ig)(aM:(q X).bf<=j):ba X 108 [.agg (lC t)] h j (λac R ap=>ac= .str (nh t)/\bG X h j R ap) (λ_ _ _=>False):=by
 refine zJ az (ahC X) ?_
 rw[ahD]
 unfold VW
 have bh:lC t=[.bool t.b, .bool t.s, .Z t.w]:=rfl
 rw[bh]
 refine cY ⟨?_⟩
 refine ff (λaU=>Z X aU j=zG [.bool t.b, .bool t.s, .Z t.w] 3/\bG X h j aU (j+1)) ⟨bz aM,dS⟩ ?_
 rintro aU ⟨b4,cb⟩
 refine(D3 az t Zo).Zm ?_
 rintro ac aQ bc ⟨rfl,cu⟩
 have gE:=cu.le
 have cd:=cb.trans cu
 have b1:Z X aQ j=zG [.bool t.b, .bool t.s, .Z t.w] 3:=by rw[cu.ad _ Zo];exact b4
 have dE:aV X aQ (.ptr j 0)=some (.bool t.b):=by rw[bX b1];rfl
 have dF:aV X aQ (.ptr j 1)=some (.bool t.s):=by rw[bX b1];rfl
 have dR:aV X aQ (.ptr j 2)=some (.Z t.w):=by rw[bX b1];rfl
 cases aZ:kW t with
 |false=>
  refine cY ⟨?_⟩
  exact⟨by simp[nh,aZ],cd⟩
 |true=>
  cases j4:t.b with
  |true=>
   rw[j4]at dE
   refine cq @dE ⟨?_⟩
   exact⟨by simp[nh,aZ,j4],cd⟩
  |false=>
   rw[j4]at dE
   have bF:1<=t.w/\t.w<=64:=by simpa[kW,j4]using aZ
   obtain⟨w,yA⟩:=Yd (by omega:0<=t.w)
   rw[yA]at dR
   have aA:jB t.w.toNat=jB w:=by rw[yA];rfl
   have ej:(jB w).length<=2:=by unfold jB;split<;>simp
   have td:∀h c,dv X h .add 9 true (.str [c]) (.str (jB w))=some (.str (c::jB w)):=λh c=>by
    have:Nat.ble ([c].length+(jB w).length) 1000000000=true:=jg (by simp;omega)
    simp only[dv,Aw,this,eU];rfl
   cases j5:t.s with
   |true=>
    rw[j5]at dF
    refine ey @dE @dF @dR ⟨?_⟩
    refine(N5 az Zo).Zm ?_
    rintro ac br bL ⟨rfl,rfl,rfl⟩
    refine cq @td ⟨?_⟩
    exact⟨by simp[nh,aZ,j4,j5,aA],cd⟩
   |false=>
    rw[j5]at dF
    refine ey @dE @dF @dR ⟨?_⟩
    refine(N5 az Zo).Zm ?_
    rintro ac br bL ⟨rfl,rfl,rfl⟩
    refine cq @td ⟨?_⟩
    exact⟨by simp[nh,aZ,j4,j5,aA],cd⟩
def at2{c:Nat}(a:i7 c=true):c<256:=zC (TG a)
def azG(az:jd X)(cd:mo X)(aD:Fj s)(aM:(q X).bf<=j):
 ba X 107 [.str s] h j (λac R ap=>ac= .zF/\bG X h j R ap) (λ_ _ _=>False):=by
 refine zJ az.todN (ahA X) ?_
 rw[ahB]
 unfold VV
 cases s with
 |nil=>exact absurd rfl aD.ne
 |cons c k=>
  cases k with
  |nil=>
   have mZ:decide (((1:Nat):Int)<2)=true:=rfl
   refine cq @mZ ⟨?_⟩
   exact⟨rfl,dS⟩
  |cons dR k=>
   have cI:decide ((((dR::k).length+1:Nat):Int)<2)=false:=by simp only[Zc,ZD];omega
   have g5:mQ (.str (c::dR::k)) (some (.Z 1)) none=some (.str (dR::k)):=Pb (k:=1) .i64 Zs
   have dV:nQ (.str (c::dR::k)) (.Z 0)=some (.int .u8 (c:Int)):=Bs (i:=0) .i64 rfl
   have e5:mI (.str (c::dR::k))=some (.Z ((c::dR::k).length:Int)):=yI _
   have is:=aD.all
   have ej:=aD.len
   have wq:c::dR::k≠[98,111,111,108]:=λB=>by have:=aD.ty;rw[B]at this;cases this
   have cE:decide (c::dR::k=[98,111,111,108])=false:=by simp only[Zc];exact wq
   have J0:=aD.ty
   generalize la:dR::k=m at*
   have fG:decide ((c:Int)=105)=decide (c=105):=by simp;omega
   refine gr e5 ?_
   refine dd @cI @g5 ⟨?_⟩
   refine(X9 az cd (by simp at ej;omega) (λx af=>at2 (is x (Zt _ af))) (afq (λx af=>is x (Zt _ af))) Zo).Zm ?_
   rintro ac aQ bc ⟨⟨aG,B,rfl,a7,af⟩,cu⟩
   have gE:=cu.le
   rcases a7 with rfl|⟨b,rfl⟩
   ·refine hm @cE @anQ @dV @fG ⟨?_⟩
    refine(agL (j:=bc) (h:=aQ) az.todN ⟨false,decide (c=105),aG⟩ Zo).Zm ?_
    rintro ac br bL ⟨rfl,cz⟩
    have aN:decide (c::m=nh ⟨false,decide (c=105),aG⟩)=false:=by
     simp only[Zc]
     intro a
     cases aZ:kW ⟨false,decide (c=105),aG⟩with
     |false=>simp[nh,aZ]at a
     |true=>
      have ce:1<=aG/\aG<=64:=by simpa[kW]using aZ
      obtain⟨n,rfl⟩:=Yd (by omega:0<=aG)
      simp only[nh,aZ,ZC,Zw,ZA]at a
      have H:=(List.cons.inj a).1
      have K:=(List.cons.inj a).2
      have Jd:c=105\/c=117:=by
       by_cases ax:c=105
       ·exact .inl ax
       ·simp[ax]at H;exact .inr H
      exact agK J0 Jd (n:=n) Zo Zo (by simpa using K.symm)
    refine cq @aN ⟨?_⟩
    exact⟨rfl,cu.trans cz⟩
   ·refine dd @cE @anR ⟨?_⟩
    exact⟨rfl,cu⟩
def Kx(az:jd X)(cd:mo X)(eN:s4 X)(aD:Fj s)(aM:(q X).bf<=j):
 ba X 67 [.str s] h j (λac R ap=>ac= .zT/\bG X h j R ap) (λ_ _ _=>False):=by
 refine zJ az.todN (aj0 X) ?_
 rw[aj1]
 unfold Xd
 have cK:=aD.ne
 have cI:decide (s=[])=false:=by simp[cK]
 have ej:=aD.len
 have cE:decide ((32:Int)<(s.length:Int))=false:=by simp only[Zc];omega
 obtain⟨c,ax⟩:∃c,s.head?=some c:=by cases s with|nil=>exact absurd rfl cK|cons c k=>exact⟨c,rfl⟩
 have x6:=aD.alZ c ax
 have dV:nQ (.str s) (.Z 0)=some (.int .u8 (c:Int)):=Bs (i:=0) .i64 (by rw[<-List.head?_eq_getElem?];exact ax)
 have Gc:65<=c:=by simp[qt]at x6;omega
 have eV:decide ((48:Int)<=(c:Int))=true:=by simp only[Zi];omega
 have iI:decide ((c:Int)<=57)=false:=by simp only[Zc];omega
 refine ht @cI @cE @dV @eV @iI ⟨?_⟩
 refine(atT az.todN aD.all aM).Zm ?_
 rintro ac aU aL ⟨rfl,cb⟩
 have jn:=cb.le
 obtain⟨b,bi,g5,cR⟩:=eN.at_ aU
 have vY:decide ((0:Int)<= -1)=false:=rfl
 refine dd @g5 @vY ⟨?_⟩
 refine(aah (j:=aL) az.todN cR (v:=false) (by simp;exact λa=>aD.res (axI _ a))).Zm ?_
 rintro ac aQ bc ⟨rfl,cu⟩
 have gE:=cu.le
 refine cY ⟨?_⟩
 refine(azG (j:=bc) (h:=aQ) az cd aD Zo).Zm ?_
 rintro ac br bL ⟨rfl,cz⟩
 refine cY ⟨?_⟩
 exact⟨rfl,(cb.trans cu).trans cz⟩
end
section
variable{X:co}{h R gn aU aQ:S ai}{j ap aL bc:Nat}{s:aW}
def VH:List z:=[.str [], .Z 0, .zF, .zF, .Z 0, .str [], .Z 0, .zF]
def apt(n:Nat):x8 X h j .append [35,3] [.a2, .Z (n:Int)]=bI (Nat.ble n 1048576) (bI (Nat.beq n 0) (some (.val .a2)) (ts X h j n 8 (jD n VH))) none:=Zk
def Ex(n:Nat)(k:List z):(jD n k).length=n*k.length:=by
 induction n with
 |zero=>simp[jD]
 |succ n ag=>simp[jD,ag,Z9];omega
def aml:qR X h .cap [35] [.a2]=some (.Z 0):=Zk
def ayy:nl X h 8 .a2 none (some (.Z 0)) none=some .a2:=by rfl
def ayB{dj n m:Nat}{c:S z}(a:Z X h dj=some (.cells c m (.grow []))):nl X h 8 (.el dj 0 n 8) none (some (.Z 0)) none=some (.el dj 0 0 8):=by
 have bw:ow (some (.Z 0)) (m/8) n=some 0:=by simp[ow,avS]
 have b3:∀E b:Nat,ow none E b=some b:=λE b=>rfl
 have er:tW X h dj=some m:=by simp[tW,a]
 have iJ:Nat.blt 0 8=true:=rfl
 simp only[nl,er,ms,Y5,b3,bw]
 simp[iJ]
def UM{C:aK}{P:Nat->Prop}{b aR:Nat}{bi:z}{bu:List (List z)}(a:dZ C h P b bi aR bu)(ce:0<aR):jN C h aR bi=some (bu.length,bu.flatten):=by
 have Ji:=wb a.wide
 have key:∀dw U n:Nat,n=bu.length->(∀i,i<bu.length->some (z.ptr dw (U+i*aR))=some (.ptr b (i*aR)))->kt C h dw U (n*aR)=some bu.flatten:=by
  intro dw U n aM aA
  subst aM
  by_cases a8:bu.length=0
  ·have:bu=[]:=Z5 a8
   subst this
   simp only[kt]
   cases ax:cellsOf C h dw with
   |none=>simp
   |some c=>simp[abj]
  ·have H:=aA 0 Zo
   simp at H
   obtain⟨rfl,rfl⟩:=H
   obtain⟨r,V⟩:=zF bu 0
   have NQ:=a.wide r (Zn V)
   obtain⟨v,bo⟩:=zF r 0
   have oh:=a.cell 0 r 0 v V bo
   simp only[zm,ZR]at oh
   have Db:∃c,cellsOf C h dw=some c:=by
    simp only[aV]at oh
    cases ax:cellsOf C h dw with
    |none=>rw[ax]at oh;cases oh
    |some c=>exact⟨c,rfl⟩
   obtain⟨c,ax⟩:=Db
   simp only[kt,ax]
   rw[<-Ji]
   refine Rx _ _ λW v bx=> ?_
   have q9:=(Zb.1 bx).1
   rw[Ji]at q9
   have bP:W/aR<bu.length:=Nat.div_lt_of_lt_mul (by rw[zy];exact q9)
   obtain⟨fL,mb⟩:∃r,bu[W/aR]? =some r:=⟨_,Ze bP⟩
   have aCa:=a.wide fL (Zn mb)
   have aZ:W%aR<aR:=zq _ ce
   obtain⟨fd,yz⟩:∃v,fL[W%aR]? =some v:=⟨_,Ze Zo⟩
   have K:=a.cell (W/aR) fL (W%aR) fd mb yz
   have ak:=Rg bu a.wide (W/aR) fL (W%aR) fd mb yz
   have ay:W/aR*aR+W%aR=W:=by rw[zy];exact Nat.div_add_mod W aR
   rw[ay]at K ak
   rw[bx]at ak
   cases ak
   simp only[aV,ax]at K
   rw[ZF]
   exact K
 have aw:=a.len
 cases bi with
 |slice dw U n cap=>
  have aM:n=bu.length:=by rw[sJ]at aw;simp at aw;omega
  have aA:∀i,i<bu.length->some (z.ptr dw (U+i*aR))=some (.ptr b (i*aR)):=λi aA=>by
   have:=a.gF i aA
   rw[<-this]
   have B:Nat.blt i n=true:=by simp[Nat.blt];omega
   simp only[iv,pL,Cc,B,eU]
  have aC:=key dw U n aM aA
  subst aM
  simp only[jN,aC]
 |el dw U n w8=>
  have aM:n=bu.length:=by rw[vg]at aw;simp at aw;omega
  have aA:∀i,i<bu.length->some (z.ptr dw (U+i*aR))=some (.ptr b (i*aR)):=λi aA=>by
   have:=a.gF i aA
   rw[<-this]
   have B:Nat.blt i n=true:=by simp[Nat.blt];omega
   simp only[iv,pL,Cc,B,eU]
  have aC:=key dw U n aM aA
  subst aM
  simp only[jN,aC]
 |a2=>
  have aM:(0:Int)=bu.length:=by rw[BD]at aw;simpa using aw
  have:bu=[]:=Z5 Zo
  subst this
  rfl
 |_=>simp[eT]at aw
def axW{dj n r m:Nat}{c:S z}{x:z}{k:List z}{aj:bR}(ah:Z X h dj=some (.cells c (m*8) (.grow [])))(aI:(q X).bf<=dj)(af:jN X h 8 x=some (r,k))(aw:k.length=r*8)(V:n+r<=m)(H:Go.bn.hZ k=true)
 (o:∀R gp,Z X R dj=some (.cells gp (m*8) (.grow []))->(∀i,gp.get i=if n*8<=i/\i<n*8+k.length then k[i-n*8]? else c.get i)->(∀e,e≠dj->Z X R e=Z X h e)->aj (.el dj 0 (n+r) 8) R j):
 iA (lK X h j 8 (.el dj 0 n 8) x) h j aj:=by
 by_cases a8:r=0
 ·subst a8
  have:k=[]:=Z5 Zo
  subst this
  have bw:lK X h j 8 (.el dj 0 n 8) x=some (.val (.el dj 0 n 8)):=by
   simp only[lK,af]
   simp[Ay,tW,ah]
   omega
  refine af9 bw ?_
  exact o h c ah (λi=>by rw[Zg Zs]) (λ_ _=>rfl)
 ·have b3:Nat.ble ((n+r)*8) (m*8)=true:=jg Zo
  have er:Nat.ble (n*8+k.length) (m*8)=true:=jg Zo
  have Iz:Nat.beq 8 8=true:=rfl
  have iJ:jI X dj=true:=jg aI
  have n9:lK X h j 8 (.el dj 0 n 8) x=some (.e2 (.el dj 0 (n+r) 8) (Go.bn.bp X h dj (some (.cells (dM c (n*8) k) (m*8) (.grow [])))) j):=by
   simp only[lK,af]
   rw[hl,Zg a8]
   simp only[xA,Ic,ah,iJ,Iz,eU,b3,lJ,er,H,Ye,gS,l1,ZF]
  refine kl n9 ?_
  refine o _ _ (bz aI) (λi=> ?_) (λe D=>aJ aI D)
  rw[mT]
def ayq(az:dN X){n:Nat}(a8:0<n)(H:n<=300000)(aM:(q X).bf<=j):
 ba X 109 [.a2, .Z (n:Int)] h j (λac R ap=>ac= .el j 0 0 8/\(∃c,Z X R j=some (.cells c (n*8) (.grow [])))/\bG X h j R ap/\j<ap) (λ_ _ _=>False):=by
 refine zJ az (ahE X) ?_
 rw[ahF]
 unfold VX
 have cI:decide ((n:Int)<0)=false:=by simp only[Zc];omega
 have cE:decide ((0:Int)<(n:Int))=true:=by simp only[Zi];omega
 have bw:bm .sub (.Z 0) (.Z 0)=some (.Z 0):=tH Zo Zo
 have b3:bm .sub (.Z (n:Int)) (.Z 0)=some (.Z (n:Int)):=by rw[tH Zo Zo];simp
 have er:x8 X h j .append [35,3] [.a2, .Z (n:Int)]=some (.e2 (.el j 0 n 8) (bp X h j (some (.cells (S.ofList (jD n VH) 0 .nil) (n*8) (.grow [])))) (j+1)):=by
  rw[apt,jg Zo,eU,hl,Zg Zo]
  simp only[ts,jg (show n<=1048576 by omega),eU,na,l6,gS,Ex]
  rfl
 refine lT @cI @aml @bw @b3 @cE @ayy ⟨?_⟩
 refine kl er ?_
 generalize fi:bp X h j _=aU
 have b4:Z X aU j=some (.cells (S.ofList (jD n VH) 0 .nil) (n*8) (.grow [])):=by rw[<-fi,bz aM]
 have cb:bG X h j aU (j+1):=by rw[<-fi];exact dS
 clear fi
 have iJ:=ayB (n:=n) b4
 refine cq @iJ ⟨?_⟩
 exact⟨rfl,⟨_,b4⟩,cb,Zo⟩
def AJ(k:List (List eP)):Nat:=(k.map List.length).sum
def amE(az:dN X){P:Nat->Prop}{p2 ch cD di:Nat}{dk dI bi:z}{A bj Y:List eP}(aM:(q X).bf<=j)(I7:p2<j)(aB:Z X h p2=zG [dk,dI,bi] 3)
 (H:dZ X h P ch dk 8 (A.map e8))(K:dZ X h P cD dI 8 (bj.map e8))(ak:dZ X h P di bi 8 (Y.map e8))(bW:∀e,P e->e<j)(a8:0<A.length+bj.length+Y.length)(aZ:A.length+bj.length+Y.length<=300000):
 ba X 69 [.slice p2 0 3 3] h j (λac R ap=>∃b,dZ X R (du j ap) b ac 8 ((A++(bj++Y)).map e8)/\bG X h j R ap) (λ_ _ _=>False):=by
 refine zJ az (aj4 X) ?_
 rw[aj5]
 unfold Xf
 have NU:∀W,W<3->∃s b L,[dk,dI,bi][W]? =some s/\dZ X h P b s 8 (L.map e8)/\([A,bj,Y]:List (List eP))[W]? =some L/\L.length<=300000:=by
  intro W bx
  match W,bx with
  |0,_=>exact⟨dk,ch,A,rfl,H,rfl,Zo⟩
  |1,_=>exact⟨dI,cD,bj,rfl,K,rfl,Zo⟩
  |2,_=>exact⟨bi,di,Y,rfl,ak,rfl,Zo⟩
 have oh:∀R W s,Z X R p2=zG [dk,dI,bi] 3->[dk,dI,bi][W]? =some s->aV X R (.ptr p2 W)=some s:=λR W s a aD=>by rw[bX a,mg];exact aD
 obtain⟨lp,wv⟩:∃lp:Nat->Nat,∀W,lp W=AJ (([A,bj,Y]:List (List eP)).take W):=⟨_,λ_=>rfl⟩
 obtain⟨xS,qj⟩:∃xS:Nat->List eP,∀W,xS W=(([A,bj,Y]:List (List eP)).take W).flatten:=⟨_,λ_=>rfl⟩
 have act:∀W L,([A,bj,Y]:List (List eP))[W]? =some L->xS (W+1)=xS W++L:=by
  intro W L a
  rw[qj,qj,Z3,a];simp
 have Je:∀W,lp W=(xS W).length:=λW=>by rw[wv,qj];unfold AJ;rw[List.length_flatten]
 have cX:∀W L,([A,bj,Y]:List (List eP))[W]? =some L->lp (W+1)=lp W+L.length:=by
  intro W L a
  rw[Je,Je,act W L a,ZU]
 have ge:∀W,lp W<=A.length+bj.length+Y.length:=by
  intro W
  rw[wv]
  match W with
  |0=>simp[AJ]
  |1=>simp[AJ];omega
  |2=>simp[AJ]
  |n+3=>simp[AJ];omega
 have abz:lp 3=A.length+bj.length+Y.length:=by rw[wv];simp[AJ];omega
 have CY:lp 0=0:=by rw[wv];simp[AJ]
 have aog:xS 0=[]:=by rw[qj];rfl
 refine cY ⟨?_⟩
 refine fP (λm I R aP=>∃(W:Nat),I.g 0=some (.slice p2 0 3 3)/\I.g 9=some (.slice p2 0 3 3)/\I.g 10=some (.Z 3)/\I.g 11=some (.Z (W:Int))/\I.g 3=some (.Z (lp W:Nat))/\W+m=3/\R=h/\aP=j)
  3 ⟨0,bt,bt,gc,gc,by refine tl ⟨?_⟩;rw[CY];rfl,Zo,rfl,rfl⟩ ?_
 rintro m I aU aL ⟨W,t0,t9,mR,qD,t3,bx,rfl,rfl⟩
 cases m with
 |succ m=>
  have d:decide ((W:Int)<3)=true:=by simp only[Zi];omega
  have bw:=zH W
  obtain⟨s,b,L,aD,cR,gj,aqa⟩:=NU W Zo
  have wA:=ge W
  have dV:iv 1 (.slice p2 0 3 3) (.Z (W:Int))=some (.ptr p2 W):=by rw[GU _ Zo];simp
  have ax:=oh _ W s aB aD
  have e5:=cR.len
  rw[Zl]at e5
  have b3:bm .add (.Z ((lp W:Nat):Int)) (.Z (L.length:Int))=some (.Z ((lp (W+1):Nat):Int)):=by
   rw[cX W L gj,eG Zo Zo];simp
  have cE:decide (((lp (W+1):Nat):Int)<0)=false:=by simp only[Zc];omega
  refine eD @qD @mR @t9 @t3 @d @dV (Za @ax (Za @e5 (Za @b3 (Za @cE @bw)))) ⟨?_⟩
  exact⟨m,Zo,W+1,a6 t0,a6 t9,a6 mR,bt,bt,Zo,rfl,rfl⟩
 |zero=>
  have d:decide ((W:Int)<3)=false:=by simp only[Zc];omega
  have No:W=3:=Zo
  subst No
  rw[abz]at t3
  refine hm @qD @mR @t3 @d ⟨?_⟩
  refine(ayq az a8 aZ aM).Zm ?_
  rintro ac aQ bc ⟨rfl,⟨dR,b1⟩,cu,lX⟩
  generalize uG:A.length+bj.length+Y.length=d5 at*
  refine cq @t0 ⟨?_⟩
  refine fP (λm I R aP=>∃(W:Nat) (c:S z),I.g 25=some (.slice p2 0 3 3)/\I.g 26=some (.Z 3)/\I.g 27=some (.Z (W:Int))/\I.g 6=some (.el aL 0 (lp W) 8)/\W+m=3/\aL<aP/\bG X aU aL R aP
   /\Z X R aL=some (.cells c (d5*8) (.grow []))/\∀(i:Nat) v,((xS W).map e8).flatten[i]? =some v->c.get i=some v)
   3 ⟨0,dR,bt,gc,gc,by refine tl ⟨?_⟩;rw[CY],Zo,lX,cu,b1,λi v a=>by rw[aog]at a;simp at a⟩ ?_
  clear t0 t9 mR qD t3
  rintro m I br bL ⟨W,g3,vv,tY,Vo,g9,bx,yl,cz,cM,wu⟩
  have Ji:∀L:List eP,((L.map e8).flatten).length=L.length*8:=λL=>by
   have:=wb (bu:=L.map e8) (aR:=8) (by intro r V;obtain⟨d,_,rfl⟩:=ZB.1 V;rfl)
   rw[this,Zl]
  cases m with
  |zero=>
   have d:decide ((W:Int)<3)=false:=by simp only[Zc];omega
   have No:W=3:=Zo
   subst No
   rw[abz]at g9
   refine hm @Vo @tY @g9 @d ⟨?_⟩
   have is:xS 3=A++(bj++Y):=by rw[qj];simp
   rw[is]at wu
   have ej:(A++(bj++Y)).length=d5:=by simp;omega
   refine⟨aL,⟨λ_=>⟨Zo,Zo⟩,by rw[Zl,ej];omega,by intro r V;obtain⟨d,_,rfl⟩:=ZB.1 V;rfl,by rw[vg,Zl,ej],λi aA=>by rw[DK _ (by rw[Zl,ej]at aA;omega),ZF],λi r wL v aA kR=> ?_⟩,cz⟩
   rw[bX cM]
   exact wu _ _ (Rg _ (by intro r V;obtain⟨d,_,rfl⟩:=ZB.1 V;rfl) i r wL v aA kR)
  |succ m=>
   have d:decide ((W:Int)<3)=true:=by simp only[Zi];omega
   have bw:=zH W
   obtain⟨s,b,L,aD,cR,gj,aqa⟩:=NU W Zo
   have dV:iv 1 (.slice p2 0 3 3) (.Z (W:Int))=some (.ptr p2 W):=by rw[GU _ Zo];simp
   have aqn:Z X br p2=zG [dk,dI,bi] 3:=by rw[cz.ad _ I7];exact aB
   have ax:=oh _ W s aqn aD
   have hY:=UM (cR.ad (R:=br) (λe D=>cz.ad e (bW e D))) Zd
   rw[Zl]at hY
   have H:=cX W L gj
   have K:=ge (W+1)
   refine eD @Vo @tY @vv @g9 @d @dV @ax ⟨?_⟩
   refine axW cM Zo hY (Ji L) Zo ?_ ?_
   ·clear hY
    have:∀d5:List eP,Go.bn.hZ (d5.map e8).flatten=true:=by
     intro d5
     induction d5 with
     |nil=>rfl
     |cons d d5 ag=>simpa[e8,Go.bn.hZ,oA]using ag
    exact this L
   ·intro b0 AH eu uM gl
    refine dd @Vo @bw ⟨?_⟩
    refine⟨m,Zo,W+1,AH,a6 vv,a6 tY,bt,by refine tl ⟨?_⟩;rw[H],Zo,yl,⟨cz.le,λe D=>by rw[gl e Zo];exact cz.ad e D⟩,eu,λi v aA=> ?_⟩
    rw[act W L gj]at aA
    simp only[zo,Yo]at aA
    have sB:(((xS W).map e8).flatten).length=lp W*8:=by
     rw[Ji,Je]
    rw[uM]
    by_cases cS:i<lp W*8
    ·rw[Zg Zo]
     rw[ZO Zo]at aA
     exact wu i v aA
    ·rw[ZG Zo,sB]at aA
     have:=(Zb.1 aA).1
     rw[Zq ⟨Zo,Zo⟩]
     exact aA
end
end
end Go.Proofs.YtendhgofocgngaaGreatDoor

