/- Part of the proof of the last text; no conditions -/
import Derived.Test.YtbbkkkpgjaopkaaGreatDoorYv
set_option maxHeartbeats 8000000
set_option linter.all false
namespace Go.Proofs.YtbbkkkpgjaopkaaGreatDoor
open Go.bs Go.aQ
noncomputable section
structure qR(s:ba):Prop where
 ne:s≠[]
 len:s.length<=32
 ajf:∀c,s.head?=some c->qC c=true
 all:∀c∈s,iU c=true
 res:s∉tS
 ty:k2 s=none
def Oz(t:iO)(n:Int):Prop:=kB t=true/\uN t n=true/\0<=n/\n<18446744073709551616
def aoV:uN ⟨true,false,1⟩ 0=true:=by decide+kernel
def aoW:uN ⟨true,false,1⟩ 1=true:=by decide+kernel
def jO:iP:=⟨qR,λt=>kB t=true,Oz,λ_ a=>a.ne,rfl,⟨rfl,aoV,Zo,Zo⟩,⟨rfl,aoW,Zo,Zo⟩,λ_ _ a=>a.1,λ_=>True,trivial⟩
def yT(n:Nat):iP:={jO with A:=λE=>0<=E/\E<=n,a0:=⟨Int.le_refl 0,Int.natCast_nonneg n⟩}
def aer{
 s:ba}{i:Nat}{x:Tok}(a:sL s i=some x):yS jO (lv x i):=by
 unfold sL at a
 cases aA:s[i]? with
 |none=>rw[aA]at a;cases a
 |some c=>
  rw[aA]at a
  simp only[]at a
  obtain⟨af,B⟩:=Zb.1 aA
  have aH:s.drop i=c::s.drop (i+1):=by rw[ZA af,B]
  split at a
  ·unfold Br at a
   simp only[]at a
   split at a
   ·cases a
   ·have cJ:=adz ((s.drop i).takeWhile iE)
    split at a
    ·cases a
     exact⟨λa=>by simp[lv]at a,λa=>by simp[lv]at a,λ_=>by simp only[lv];omega,λa=>by simp[lv]at a,λ_=>trivial⟩
    ·split at a
     ·rename_i t a8
      split at a
      ·rename_i f8
       cases a
       simp only[Zq]at f8
       exact⟨λa=>by simp[lv]at a,λa=>by simp[lv]at a,λa=>by simp[lv]at a,λ_=>⟨TJ a8,f8.2,by simp only[lv];omega,by simp only[lv];omega⟩,λ_=>trivial⟩
      ·cases a
     ·cases a
  ·split at a
   ·rename_i al
    split at a
    ·rename_i aB
     cases a
     have br:(s.drop i).takeWhile iU=c::(s.drop (i+1)).takeWhile iU:=by
      rw[aH,YJ]
      have:iU c=true:=by simp[iU,al]
      simp[this]
     refine⟨λa=> ?_,λa=> ?_,λa=> ?_,λa=> ?_,λ_=>trivial⟩
     ·simp only[lv,tK]at a ⊢
      split at a
      ·cases a
      ·rename_i aI
       split at a
       ·cases a
       ·rename_i V
        have hg:((s.drop i).takeWhile iU).length<=32:=by simpa[tK]using aB
        refine⟨by rw[br];simp,hg, ?_,aem iU _,V,by simpa using aI⟩
        intro gC co
        rw[br]at co
        cases co
        exact al
     ·simp only[lv,tK]at a ⊢
      split at a
      ·rename_i aI
       cases a8:k2 ((s.drop i).takeWhile iU)with
       |none=>rw[a8]at aI;cases aI
       |some t=>exact TJ a8
      ·split at a<;>cases a
     ·simp only[lv,tK]at a
      split at a
      ·cases a
      ·split at a<;>cases a
     ·simp only[lv,tK]at a
      split at a
      ·cases a
      ·split at a<;>cases a
    ·cases a
   ·cases aE:tX s i with
    |none=>rw[aE]at a;cases a
    |some p=>
     rw[aE]at a
     cases a
     exact⟨λa=>by simp[lv,BQ]at a,λa=>by simp[lv,BQ]at a,λa=>by simp[lv,BQ]at a,λa=>by simp[lv,BQ]at a,λ_=>trivial⟩
def avH{s:ba}:∀(n:Nat) (aU:List Tok) (i:Nat) (k3:List Tok),gv jO aU->pr s n aU i=some (.ok k3)->gv jO k3:=by
 intro n
 induction n with
 |zero=>intro aU i k3 _ a;cases a
 |succ n aj=>
  intro aU i k3 a8 a
  rw[pr]at a
  split at a
  ·split at a
   ·cases a
   ·rename_i x af
    refine aj _ _ _ ?_ a
    intro e B
    rcases Zw.1 B with B|B
    ·exact a8 e B
    ·simp at B;subst B;exact aer af
  ·cases a
   intro e B
   rcases Zw.1 B with B|B
   ·exact a8 e B
   ·simp at B;subst B;exact⟨λa=>by simp at a,λa=>by simp at a,λa=>by simp at a,λa=>by simp at a,λ_=>trivial⟩
def avF{s:ba}:∀(n:Nat) (aU:List Tok) (i:Nat) (k3:List Tok),(∀x∈aU,x.kind≠7->0<=x.at_/\x.at_<=s.length)->pr s n aU i=some (.ok k3)->∀x∈k3,x.kind≠7->0<=x.at_/\x.at_<=s.length:=by
 intro n
 induction n with
 |zero=>intro aU i k3 _ a;cases a
 |succ n aj=>
  intro aU i k3 a8 a
  rw[pr]at a
  split at a
  ·rename_i aF
   split at a
   ·cases a
   ·rename_i x af
    refine aj _ _ _ ?_ a
    intro e B
    rcases Zw.1 B with B|B
    ·exact a8 e B
    ·simp at B;subst B;intro _;simp only[lv];omega
  ·cases a
   intro e B
   rcases Zw.1 B with B|B
   ·exact a8 e B
   ·simp at B;subst B;intro a;exact absurd rfl a
def ati{s:ba}{an:List Go.aQ.Node}(a:rv s= .ok an):(∀g∈an,ls (yT s.length) g)/\an≠[]/\pd an=none:=by
 unfold rv at a
 split at a
 ·rename_i r V
  subst a
  unfold yh at V
  split at V
  ·cases V
  ·cases V
  ·rename_i aU a8
   have apR:=avF _ _ _ _ (λ_ a=>by cases a) a8
   have IT:gv (yT s.length) aU:=λx af=>by
    obtain⟨H,K,am,aC,_⟩:=avH _ _ _ _ (λ_ a=>by cases a) a8 x af
    exact⟨H,K,am,aC,apR x af⟩
   split at V
   ·cases V
   ·cases V
   ·rename_i dH k aI
    obtain⟨H,K⟩:=ac1 (bv:=yT s.length) _ _ _ IT (λ_ a=>by cases a) _ _ aI
    split at V
    ·cases V
    ·rename_i aB
     cases V
     exact⟨K.1,K.2,aB⟩
 ·cases a
def asz{n:Nat}{D:bL}(a:G3 (yT n) D):G3 jO D:=⟨trivial,a.bS,a.ck,a.Hl,a.nm,a.Na,a.no,a.ty,a.dr,a.acV,a.hj,a.aY,a.vF⟩
mutual
def aeI{n:Nat}:∀{D:bL},fu (yT n) D->fu jO D
 | .mk ..,a=>by rw[fu]at a ⊢;exact⟨asz a.1,aeJ a.2⟩
def aeJ{n:Nat}:∀{k:List bL},gc (yT n) k->gc jO k
 |[],_=>gc.nil
 |_::_,a=>by rw[gc]at a;exact gc.cons (aeI a.1) (aeJ a.2)
end
def Pw{n:Nat}{d:d4}(a:pw (yT n) d):pw jO d:=⟨a.name,a.type,a.on,a.no,trivial,trivial⟩
def asA{n:Nat}{g:Go.aQ.Node}(a:ls (yT n) g):ls jO g:=⟨a.name,λd aH=>Pw (a.dg d aH),λd aH=>Pw (a.out d aH),λd aH=>Pw (a.loc d aH),a.some,λai bG=>⟨(a.eqs ai bG).left,(a.eqs ai bG).some,aeI (a.eqs ai bG).right,trivial,λ_ _=>trivial⟩,trivial⟩
def BA{s:ba}{an:List Go.aQ.Node}(a:rv s= .ok an):(∀g∈an,ls jO g)/\an≠[]/\pd an=none:=
 have q:=ati a
 ⟨λg bw=>asA (q.1 g bw),q.2⟩
mutual
def D6:bL->List bL
 | .mk q E nm no t n args=> .mk q E nm no t n args::Gr args
def Gr:List bL->List bL
 |[]=>[]
 |D::k=>D6 D++Gr k
end
mutual
def TO{iM:Type}(step:iM->bL->iM×Bool)(a:∀s D,(step s D).2=true):∀(D:bL) (s:iM),BX step s D=(D6 D).foldl (λs D=>(step s D).1) s
 | .mk q E nm no t n args,s=>by
   rw[BX,Zu (a _ _),D6,ZZ]
   exact aeE step a args _
def aeE{iM:Type}(step:iM->bL->iM×Bool)(a:∀s D,(step s D).2=true):∀(k:List bL) (s:iM),wJ step s k=(Gr k).foldl (λs D=>(step s D).1) s
 |[],s=>by rw[wJ,Gr];rfl
 |D::k,s=>by
  rw[wJ,Gr,zx,TO step a D s]
  exact aeE step a k _
end
def oi(ai:ee):List (ba×Int):=ai.left.zipIdx.map λx=>(x.1,(ai.cX[x.2]?).getD 0)
def lC(t:ba->Option fZ)(s:(ba->Option Int)×(Int×Int))(x:ba×Int):(ba->Option Int)×(Int×Int):=(λw=>if w=x.1 then some ((s.1 x.1).getD 0+1)else s.1 w,Bh t s.1 s.2 x.1 x.2)
def jY(t:ba->Option fZ)(an:List Go.aQ.Node)(q:Nat)(s:(ba->Option Int)×(Int×Int))(ai:ee):(ba->Option Int)×(Int×Int):=
 (((oi ai).foldl (lC t) s).1,Gu t an q ((oi ai).foldl (lC t) s).2 ai.right)
def l7(aa:ba->Option Int)(f:Int×Int)(x:Int×d4):Int×Int:=if x.1≠1/\(aa x.2.name).getD 0=0 then la f 37 x.2.at_ else f
def ke(an:List Go.aQ.Node)(q:Nat)(g:Go.aQ.Node):Int×Int:=if (iz an g.name).getD 0<q then la (0,0) 24 g.at_ else(0,0)
def kU(an:List Go.aQ.Node)(q:Nat)(g:Go.aQ.Node):Int×Int:=
 (fv g).foldl (l7 (g.eqs.foldl (jY (f2 g) an q) (λ_=>none,pF (f2 g) g (ke an q g))).1) (g.eqs.foldl (jY (f2 g) an q) (λ_=>none,pF (f2 g) g (ke an q g))).2
def xb(an:List Go.aQ.Node):Nat->List Go.aQ.Node->Int×Int
 |_,[]=>(0,0)
 |q,g::k=>if (kU an q g).1≠0 then kU an q g else xb an (q+1) k
def i6(an:List Go.aQ.Node):Int×Int:=xb an 0 an
def Ah(f:Int×Int){c:Int}(E:Int)(aA:c≠0):(la f c E).1≠0:=by
 unfold la
 split
 ·exact aA
 ·rename_i a;exact a
def Xv{α:Type}(bad:α->Prop)[DecidablePred bad](c E:α->Int)(aA:∀x,c x≠0):∀(k:List α) (f:Int×Int),(k.foldl (λf x=>if bad x then la f (c x) (E x)else f) f).1=0↔f.1=0/\∀x∈k,¬bad x:=by
 intro k
 induction k with
 |nil=>intro f;simp
 |cons x k aj=>
  intro f
  rw[ZZ,aj]
  by_cases al:bad x
  ·have:=Ah f (E x) (aA x)
   simp[al,this]
  ·simp[al]
def mr(g:Go.aQ.Node):List ba:=(fv g).map λx=>x.2.name
def W5{g:Go.aQ.Node}{x:Int×d4}(a:x∈fv g):x.1=1/\x.2∈g.dg\/x.1=2/\x.2∈g.out\/x.1=3/\x.2∈g.loc:=by
 simp only[fv,Zw,ZC]at a
 rcases a with ⟨d,a,rfl⟩|⟨d,a,rfl⟩|⟨d,a,rfl⟩<;>simp[a]
def akm:∀(k:List (Int×d4)) (s:ba->Option Int) (f:Int×Int),(∀x∈k,0<x.1)->((k.foldl kM (s,f)).2.1=0↔f.1=0/\(k.map λx=>x.2.name).Nodup/\∀x∈k,¬0<(s x.2.name).getD 0):=by
 intro k
 induction k with
 |nil=>intro s f _;simp
 |cons x k aj=>
  intro s f ay
  rw[ZZ]
  have af:=ay x (Zt ..)
  rw[show kM (s,f) x=((kM (s,f) x).1,(kM (s,f) x).2) from rfl,aj _ _ (λe B=>ay e (Zn _ B))]
  simp only[kM,ZJ,zd,Zr,ZC]
  constructor
  ·rintro⟨H,K,am⟩
   by_cases al:0<(s x.2.name).getD 0
   ·rw[Zu al]at H
    exact absurd H (Ah f _ Zd)
   ·rw[Zg al]at H
    refine⟨H,⟨?_,K⟩, ?_⟩
    ·rintro⟨e,B,bt⟩
     have:=am e B
     rw[Zu bt]at this
     exact this (by simpa using af)
    ·rintro e (rfl|B)
     ·exact al
     ·have:=am e B
      split at this
      ·exact absurd af (by simpa using this)
      ·exact this
  ·rintro⟨H,⟨K,am⟩,aC⟩
   have al:¬0<(s x.2.name).getD 0:=aC x (.inl rfl)
   refine⟨by rw[Zg al];exact H,am,λe B=> ?_⟩
   rw[Zg (λD=>K ⟨e,B,D⟩)]
   exact aC e (.inr B)
def WO{g:Go.aQ.Node}{t:ba->Option fZ}{f:Int×Int}:(pF t g f).1=0↔f.1=0/\(mr g).Nodup/\∀x∈fv g,¬(t x.2.on=none/\x.2.on≠[]):=by
 unfold pF
 have K:=Xv (λx:Int×d4=>t x.2.on=none/\x.2.on≠[]) (λ_=>23) (λx=>x.2.fT) (λ_=>Zd) (fv g) ((fv g).foldl kM (λ_=>none,f)).2
 have am:(fv g).foldl (qf t) ((fv g).foldl kM (λ_=>none,f)).2=(fv g).foldl (λf x=>if t x.2.on=none/\x.2.on≠[]then la f 23 x.2.fT else f) ((fv g).foldl kM (λ_=>none,f)).2:=rfl
 rw[am,K,akm _ _ _ (λx af=>by rcases W5 af with a|a|a<;>omega)]
 simp[mr,and_assoc]
def gk(w:ba)(k:List ba):Int:=((k.filter λx=>decide (x=w)).length:Int)
def y3(w x:ba)(k:List ba):gk w (x::k)=(if x=w then 1 else 0)+gk w k:=by
 unfold gk
 rw[List.filter_cons]
 by_cases a:x=w
 ·simp[a];omega
 ·simp[a]
def Pp(w:ba):gk w []=0:=rfl
def uk(w:ba)(k:List ba):0<=gk w k:=by unfold gk;omega
def Hw(w:ba)(k m:List ba):gk w (k++m)=gk w k+gk w m:=by unfold gk;rw[List.filter_append,ZG];omega
def CA{w:ba}{k:List ba}:0<gk w k↔w∈k:=by
 induction k with
 |nil=>simp[Pp]
 |cons x k aj=>
  have:=uk w k
  rw[y3]
  by_cases a:x=w
  ·simp[a];omega
  ·have co:¬w=x:=λD=>a D.symm
   simp[a,co,aj]
def Sz(t:ba->Option fZ):∀(k:List (ba×Int)) (s:(ba->Option Int)×(Int×Int)) (w:ba),((k.foldl (lC t) s).1 w).getD 0=(s.1 w).getD 0+gk w (k.map Prod.fst):=by
 intro k
 induction k with
 |nil=>intro s w;simp[Pp]
 |cons x k aj=>
  intro s w
  rw[ZZ,aj,ZJ,y3]
  simp only[lC]
  by_cases a:w=x.1
  ·subst a;simp;omega
  ·have co:¬x.1=w:=λD=>a D.symm
   simp[a,co]
def arR(t:ba->Option fZ):∀(k:List (ba×Int)) (s:(ba->Option Int)×(Int×Int)),(∀w,0<=(s.1 w).getD 0)->((k.foldl (lC t) s).2.1=0↔s.2.1=0/\∀w∈k.map Prod.fst,∃v,t w=some v/\v.kind≠1/\(s.1 w).getD 0+gk w (k.map Prod.fst)<=1):=by
 intro k
 induction k with
 |nil=>intro s _;simp
 |cons x k aj=>
  intro s aE
  have uR:∀w,0<=((lC t s x).1 w).getD 0:=by
   intro w
   have:=aE w
   have:=aE x.1
   simp only[lC]
   split
   ·simp;omega
   ·assumption
  rw[ZZ,aj _ uR]
  have xX:=aE x.1
  constructor
  ·rintro⟨H,K⟩
   have am:s.2.1=0/\∃v,t x.1=some v/\v.kind≠1/\(s.1 x.1).getD 0+1<=1:=by
    simp only[lC,Bh]at H
    cases a8:t x.1 with
    |none=>rw[a8]at H;exact absurd H (Ah _ _ Zd)
    |some v=>
     rw[a8]at H
     simp only[]at H
     split at H
     ·exact absurd H (Ah _ _ Zd)
     ·rename_i bG
      exact⟨H,v,rfl,λD=>bG (.inl D),by have:¬1<(s.1 x.1).getD 0+1:=λD=>bG (.inr D);omega⟩
   refine⟨am.1,λw br=> ?_⟩
   rw[ZJ,Zr]at br
   rw[ZJ,y3]
   by_cases AO:w=x.1
   ·subst AO
    obtain⟨v,aC,bm,b1⟩:=am.2
    refine⟨v,aC,bm, ?_⟩
    by_cases bc:x.1∈k.map Prod.fst
    ·obtain⟨gj,_,_,df⟩:=K _ bc
     simp only[lC,ZE,YM]at df ⊢
     omega
    ·have:¬0<gk x.1 (k.map Prod.fst):=λD=>bc (CA.1 D)
     have:=uk x.1 (k.map Prod.fst)
     simp only[ZE]
     omega
   ·rcases br with br|br
    ·exact absurd br AO
    ·obtain⟨v,aC,bm,b1⟩:=K _ br
     have R1:¬x.1=w:=λD=>AO D.symm
     simp only[lC,AO,ZD]at b1
     exact⟨v,aC,bm,by simp only[R1,ZD];omega⟩
  ·rintro⟨H,K⟩
   obtain⟨v,aC,bm,b1⟩:=K x.1 Zs
   rw[ZJ,y3,Zu rfl]at b1
   have aA:=uk x.1 (k.map Prod.fst)
   refine⟨?_,λw br=> ?_⟩
   ·simp only[lC,Bh,aC]
    rw[Zg (by rintro(D|D);exact bm D;omega)]
    exact H
   ·obtain⟨gj,bS,ck,cM⟩:=K w (by rw[ZJ];exact Zn _ br)
    refine⟨gj,bS,ck, ?_⟩
    rw[ZJ,y3]at cM
    simp only[lC]
    by_cases AO:w=x.1
    ·subst AO;simp only[ZE,YM];simp only[ZE]at cM;omega
    ·have R1:¬x.1=w:=λD=>AO D.symm
     simp only[AO,ZD];simp only[R1,ZD]at cM;omega
def Su(ai:ee):(oi ai).map Prod.fst=ai.left:=by
 simp only[oi,YB]
 have:(Prod.fst∘λx:ba×Nat=>(x.1,(ai.cX[x.2]?).getD 0))=Prod.fst:=rfl
 rw[this]
 exact List.zipIdx_map_fst ..
def G8(t:ba->Option fZ)(an:List Go.aQ.Node)(q:Nat)(D:bL):Prop:=∀x∈D6 D,(wn x=true->(t x.name).isSome=true)/\(x.kind=25->∃Y,iz an x.name=some Y/\Y<q)
def aub{t:ba->Option fZ}{an:List Go.aQ.Node}{q:Nat}{f:Int×Int}{D:bL}:(Gu t an q f D).1=0↔f.1=0/\G8 t an q D:=by
 unfold Gu G8
 rw[TO _ (λ_ _=>rfl)]
 generalize D6 D=k
 induction k generalizing f with
 |nil=>simp
 |cons x k aj=>
  rw[ZZ,aj]
  have H:(rx t an q f x).1.1=0↔f.1=0/\(wn x=true->(t x.name).isSome=true)/\(x.kind=25->∃Y,iz an x.name=some Y/\Y<q):=by
   simp only[rx,Ec]
   have K:(tU t f x).1=0↔f.1=0/\(wn x=true->(t x.name).isSome=true):=by
    unfold tU
    by_cases a:wn x=true
    ·rw[Zu a]
     by_cases co:(t x.name).isSome=true
     ·rw[Zu co];simp[co]
     ·rw[Zg co];simp[a,co,Ah]
    ·rw[Zg a];simp[a]
   by_cases sb:x.kind=25
   ·rw[Zu sb]
    cases bW:iz an x.name with
    |none=>simp[Ah,sb]
    |some Y=>
     simp only[]
     by_cases aG:q<=Y
     ·rw[Zu aG]
      have:¬Y<q:=Zo
      simp[Ah,sb,this]
     ·rw[Zg aG,K]
      have:Y<q:=Zo
      simp[sb,this]
   ·rw[Zg sb,K];simp[sb]
  rw[H]
  simp only[Zr,forall_eq_or_imp,and_assoc]
def adG(t:ba->Option fZ)(an:List Go.aQ.Node)(q:Nat):∀(k:List ee) (s:(ba->Option Int)×(Int×Int)) (w:ba),((k.foldl (jY t an q) s).1 w).getD 0=(s.1 w).getD 0+gk w (k.flatMap ee.left):=by
 intro k
 induction k with
 |nil=>intro s w;simp[Pp]
 |cons ai k aj=>
  intro s w
  rw[ZZ,aj,Yf,Hw]
  simp only[jY]
  rw[Sz,Su]
  omega
def adH(t:ba->Option fZ)(an:List Go.aQ.Node)(q:Nat):∀(k:List ee) (s:(ba->Option Int)×(Int×Int)),(∀w,0<=(s.1 w).getD 0)->((k.foldl (jY t an q) s).2.1=0↔s.2.1=0/\(∀w∈k.flatMap ee.left,∃v,t w=some v/\v.kind≠1/\(s.1 w).getD 0+gk w (k.flatMap ee.left)<=1)/\∀ai∈k,G8 t an q ai.right):=by
 intro k
 induction k with
 |nil=>intro s _;simp
 |cons ai k aj=>
  intro s aE
  have uR:∀w,0<=((jY t an q s ai).1 w).getD 0:=by
   intro w
   simp only[jY]
   rw[Sz]
   have:=aE w
   have:=uk w ((oi ai).map Prod.fst)
   omega
  rw[ZZ,aj _ uR]
  have bB:(jY t an q s ai).2.1=0↔(s.2.1=0/\∀w∈ai.left,∃v,t w=some v/\v.kind≠1/\(s.1 w).getD 0+gk w ai.left<=1)/\G8 t an q ai.right:=by
   simp only[jY]
   rw[aub,arR t _ _ aE,Su]
  have cp:∀w,((jY t an q s ai).1 w).getD 0=(s.1 w).getD 0+gk w ai.left:=by
   intro w
   simp only[jY]
   rw[Sz,Su]
  rw[bB]
  simp only[cp,Yf,Hw,Zw,Zr,forall_eq_or_imp]
  constructor
  ·rintro⟨⟨⟨H,K⟩,am⟩,aC,bm⟩
   refine⟨H,λw br=> ?_,am,bm⟩
   by_cases bc:w∈k.flatMap ee.left
   ·obtain⟨v,bS,ck,cM⟩:=aC w bc
    exact⟨v,bS,ck,Zo⟩
   ·have bi:¬0<gk w (k.flatMap ee.left):=λD=>bc (CA.1 D)
    have:=uk w (k.flatMap ee.left)
    obtain⟨v,bS,ck,cM⟩:=K w (br.resolve_right bc)
    exact⟨v,bS,ck,Zo⟩
  ·rintro⟨H,K,am,aC⟩
   refine⟨⟨⟨H,λw br=> ?_⟩,am⟩,λw br=> ?_,aC⟩
   ·obtain⟨v,bS,ck,cM⟩:=K w (.inl br)
    have:=uk w (k.flatMap ee.left)
    exact⟨v,bS,ck,Zo⟩
   ·obtain⟨v,bS,ck,cM⟩:=K w (.inr br)
    exact⟨v,bS,ck,Zo⟩
def av0(aa:ba->Option Int)(k:List (Int×d4))(f:Int×Int):(k.foldl (l7 aa) f).1=0↔f.1=0/\∀x∈k,¬(x.1≠1/\(aa x.2.name).getD 0=0):=
 Xv (λx:Int×d4=>x.1≠1/\(aa x.2.name).getD 0=0) (λ_=>37) (λx=>x.2.at_) (λ_=>Zd) k f
def sO(v:fZ):Int×d4:=(v.kind,v.d)
def as7(q:Nat)(t:ba->Option fZ)(x:ba×Nat)(w:ba):((tO q t x) w).map sO=(t w).map sO:=by
 unfold tO
 cases a:t x.1 with
 |none=>rfl
 |some v=>
  simp only[]
  split
  ·by_cases br:w=x.1
   ·subst br;simp[a,sO]
   ·simp[br]
  ·rfl
def Xw{α:Type}(s:(ba->Option fZ)->α->(ba->Option fZ))(aE:∀t x w,(s t x w).map sO=(t w).map sO):∀(k:List α) (t:ba->Option fZ) (w:ba),(k.foldl s t w).map sO=(t w).map sO:=by
 intro k
 induction k with
 |nil=>intro t w;rfl
 |cons E k aj=>intro t w;rw[ZZ,aj,aE]
def NR(g:Go.aQ.Node)(w:ba):(f2 g w).map sO=((ol g).1 w).map sO:=
 Xw _ (λt x w=>Xw _ (λt e w=>as7 _ _ _ _) _ _ _) _ _ _
def Hb(t ga:ba->Option fZ):Prop:=∀w,(ga w).map sO=(t w).map sO
section
variable{t ga:ba->Option fZ}
def Hb.some(a:Hb t ga)(w:ba):(ga w).isSome=(t w).isSome:=by
 have:=congrArg Option.isSome (a w)
 simpa using this
def Hb.kind(a:Hb t ga){w:ba}{v:fZ}(bu:t w=Option.some v):∃gj,ga w=Option.some gj/\gj.kind=v.kind:=by
 have:=a w
 cases K:ga w with
 |none=>rw[bu,K]at this;cases this
 |some gj=>
  rw[bu,K]at this
  simp only[ZU,Zc,sO,YO]at this
  exact⟨gj,rfl,this.1⟩
end
section
variable{X:cl}{h R fg aX aP:M ak}{j au aM be:Nat}
structure wS(X:cl)(iv:M ak)(d1 cL c1:Nat)(p:y)(q:Int)(dK:y)(f:Int×Int)(aa:ba->Option Int)(h:M ak)(n:Nat):Prop where
 le:d1<=n
 jQ:fP X h cL p q dK (.map c1) f
 gk:oC X h c1 (n3 aa)
 low:∀e,e<d1->e≠cL->e≠c1->Z X h e=Z X iv e
def wS.ad{iv:M ak}{d1 cL c1:Nat}{p dK:y}{q:Int}{f:Int×Int}{aa:ba->Option Int}(a:wS X iv d1 cL c1 p q dK f aa aX aM)(m7:cL<d1)(IB:c1<d1)(aI:aM<=be)(aG:∀e,e<aM->Z X aP e=Z X aX e):wS X iv d1 cL c1 p q dK f aa aP be:=by
 have fa:=a.le
 refine⟨Zo, ?_,a.gk.ad (aG _ Zo),λe H K am=>by rw[aG e Zo];exact a.low e H K am⟩
 have:=a.jQ
 unfold fP at*
 rw[aG _ Zo];exact this
def Cu(ai:ee)(i:Nat):Int:=(ai.cX[i]?).getD 0
def arq{ai:ee}{i:Nat}{w:ba}(a:ai.left[i]? =some w):(oi ai)[i]? =some (w,Cu ai i):=by
 unfold oi
 rw[Zy,TW a];rfl
def arr(ai:ee):(oi ai).length=ai.left.length:=by simp[oi]
def ajH(az:dW X){P:Nat->Prop}{cL c1:Nat}{p dK:y}{q:Nat}{an:List Go.aQ.Node}{g:Go.aQ.Node}(aI:(o X).aY<=j)(m7:(o X).aY<=cL)(vV:(o X).aY<=c1)(xF:cL<j)(uA:c1<j)(AB:cL≠c1)
 (bI:∀e,P e->e<j/\e≠cL/\e≠c1)(bw:lL X h P an p)(aG:an[q]? =some g)(a8:wY X h P dK (f2 g))(aA:fP X h cL p q dK (.map c1) (0,0))(gf:oC X h c1 (n3 λ_=>none)):
 a1 X 24 [.ptr cL 0] h j (λab R au=>ab= .tuple []/\fP X R cL p q dK (.map c1) (kU an q g)/\j<=au/\∀e,e<j->e≠cL->e≠c1->Z X R e=Z X h e) (λ_ _ _=>False):=by
 refine KT (af8 X) (az.none _ _ rfl) ?_
 rw[af9]
 unfold UC
 obtain⟨pi,ayL,ayJ,ayK,rfl,LM,adf,aa7,aa6⟩:=id bw
 have IK:=aa6.wide
 have axh:=(Zb.1 aG).1
 obtain⟨row,d2,hh⟩:=aa6.get q g aG
 have Dh:=hh
 have li:=hh.iI
 obtain⟨cW,cO,a2,dF,b4,cr,cS,fh,aK,rfl,jA,iD,jB,hq,dJ⟩:=hh
 have ao3:=bI pi LM
 have d9:aV X h (.ptr cL 0)=some (.ptr pi 0):=by unfold fP at aA;rw[bU aA];rfl
 have dl:aV X h (.ptr cL 1)=some (.Z (q:Int)):=by unfold fP at aA;rw[bU aA];rfl
 have di:=aa7.g2 q (by rw[IK.1];omega)
 refine vI ⟨?_⟩
 generalize eN:bl X h j _=aX
 have eC:Z X aX j=zI [.ptr cL 0] 1:=by rw[<-eN,bn aI];rfl
 have bY:bp X h j aX (j+1):=by rw[<-eN];exact dM
 clear eN
 have sv:∀e,P e->Z X aX e=Z X h e:=λe B=>bY.ad e (bI e B).1
 rw[<-bY.fm _ _ xF]at d9 dl
 rw[<-bY.fm _ _ ao3.1]at adf
 have kP:=(aa7.ad sv).row Zd d2
 refine gG (bU eC) @d9 (Za @dl (Za @adf (Za @di @kP))) ⟨?_⟩
 refine gi (jJ (q:=6) (b:=j+1+13) (W:=0) (n:=6) (c:=M.ofList [.str [], .Z 0, .aW, .aW, .aW, .aW] 0 .nil) (bn Zo) Zo rfl Zd Zd li) ?_
 generalize dN:bl X _ (j+1+13) _=aP
 have b5:Z X aP (j+1+13)=zI [.str g.name, .Z g.at_,cW,cO,a2,dF] 6:=by rw[<-dN,bn Zo];rfl
 have b6:bp X aX (j+1) aP (j+1+14):=by rw[<-dN];exact dM
 clear dN
 rw[<-b6.ad _ Zo]at eC
 have mB:bp X h j aP (j+1+14):=⟨Zo,λe B=>by rw[b6.ad e Zo,bY.ad e B]⟩
 have tC:∀e,P e->Z X aP e=Z X h e:=λe B=>mB.ad e (bI e B).1
 rw[<-b6.fm _ _ Zo]at d9 dl
 refine gG (bU eC) @d9 (bU b5) ⟨?_⟩
 refine(Xq (j:=j+1+15+12) (h:=aP) az Zo (bw.ad (Q:=P) tC (λ_ a=>a)) (λe B=>zE (bI e B).1) g.name).Zm ?_
 rintro ab bf bE ⟨rfl,cq⟩
 have jE:=cq.le
 rw[<-cq.ad _ Zo]at eC b5
 rw[<-cq.fm _ _ Zo]at d9 dl
 have sc:bp X h j bf bE:=⟨Zo,λe B=>by rw[cq.ad e Zo,mB.ad e B]⟩
 have pV:∀e,P e->Z X bf e=Z X h e:=λe B=>sc.ad e (bI e B).1
 have xz:wS X bf bE cL c1 (.ptr pi 0) q dK (0,0) (λ_=>none) bf bE:=⟨Zj _,by unfold fP at*;rw[sc.ad _ xF];exact aA,gf.ad (sc.ad _ uA),λ_ _ _ _=>rfl⟩
 generalize apQ:(iz an g.name).getD 0=NU
 have gx:ke an q g=if NU<q then la (0,0) 24 g.at_ else(0,0):=by unfold ke;rw[apQ]
 refine gG (bU eC) @d9 @dl ⟨?_⟩
 refine kx (λcP R aS=>cP.g 1=some (.ptr j 0)/\cP.g 2=some (.ptr (j+1+13) 0)/\cP.bb=[]/\wS X bf bE cL c1 (.ptr pi 0) q dK (ke an q g) (λ_=>none) R aS) (λY bD=> ?_) ?_
 ·by_cases cJ:NU<q
  ·have aR:=zG NU q
   rw[Zu cJ]at gx
   refine eP @aR (bU eC) (bU b5) ⟨?_⟩
   refine(vv (h:=bf) az m7 xz.jQ 24 g.at_).Zm ?_
   rintro ab bT b3 ⟨rfl,sf,je,gg⟩
   refine c7 ⟨?_⟩
   exact bD _ _ _ ⟨bF,bF,rfl,Zo,by rw[gx];exact sf,xz.gk.ad (gg _ (λD=>AB D.symm)),λe H K am=>gg e K⟩
  ·have aR:=zF NU q
   rw[Zg cJ]at gx
   refine ce @aR ⟨?_⟩
   exact bD _ _ _ ⟨bF,bF,rfl,by rw[gx];exact xz⟩
 rintro I bT b3 ⟨t1,eR,lG,qn⟩
 have je:=qn.le
 have alD:Z X bT j=zI [.ptr cL 0] 1:=by rw[qn.low _ Zo Zo Zo];exact eC
 have alI:Z X bT (j+1+13)=zI [.str g.name, .Z g.at_,cW,cO,a2,dF] 6:=by rw[qn.low _ Zo Zo Zo];exact b5
 have x3:∀e,P e->Z X bT e=Z X h e:=λe B=>by have:=bI e B;rw[qn.low e Zo this.2.1 this.2.2,pV e B]
 show cg _ _
 refine gG @t1 @eR (Za (bU alD) (bU alI)) ⟨?_⟩
 refine(aj2 (j:=b3) (h:=bT) az Zo m7 Zo (λe B=>⟨zE (bI e B).1,(bI e B).2.1⟩) (a8.ad (Q:=P) x3 (λ_ a=>a)) qn.jQ (Dh.ad (Q:=P) x3 (λ_ a=>a)) trivial).Zm ?_
 rintro ab bZ ct ⟨rfl,xE,hQ,oX⟩
 have h6:wS X bf bE cL c1 (.ptr pi 0) q dK (pF (f2 g) g (ke an q g)) (λ_=>none) bZ ct:=⟨Zo,xE,qn.gk.ad (oX _ Zo (λD=>AB D.symm)),λe H K am=>by rw[oX e Zo K];exact qn.low e H K am⟩
 have alJ:Z X bZ (j+1+13)=zI [.str g.name, .Z g.at_,cW,cO,a2,dF] 6:=by rw[h6.low _ Zo Zo Zo];exact b5
 have gp:=dJ.wide
 have er:=hq.len
 have jq:=hq.many
 rw[gp.1]at er jq
 have Ro:kU an q g=(fv g).foldl (l7 (g.eqs.foldl (jY (f2 g) an q) (λ_=>none,pF (f2 g) g (ke an q g))).1) (g.eqs.foldl (jY (f2 g) an q) (λ_=>none,pF (f2 g) g (ke an q g))).2:=rfl
 generalize Mo:((λ_=>none,pF (f2 g) g (ke an q g)):(ba->Option Int)×(Int×Int))=kG at Ro
 have amX:wS X bf bE cL c1 (.ptr pi 0) q dK kG.2 kG.1 bZ ct:=by rw[<-Mo];exact h6
 have hB:∀w,0<=(kG.1 w).getD 0/\(kG.1 w).getD 0<=((0:Nat):Int)*1048576:=by intro w;rw[<-Mo];simp
 refine gG @eR (bU alJ) @er ⟨?_⟩
 refine gT ?_
 refine gK (λm I R aS=>∃(Y:Nat),I.g 1=some (.ptr j 0)/\I.g 2=some (.ptr (j+1+13) 0)/\I.bb=[]/\I.g 49=some dF/\I.g 50=some (.Z (g.eqs.length:Int))/\I.g 51=some (.Z (Y:Int))/\Y+m=g.eqs.length
  /\wS X bf bE cL c1 (.ptr pi 0) q dK ((g.eqs.take Y).foldl (jY (f2 g) an q) kG).2 ((g.eqs.take Y).foldl (jY (f2 g) an q) kG).1 R aS/\(∀w,0<=(((g.eqs.take Y).foldl (jY (f2 g) an q) kG).1 w).getD 0/\(((g.eqs.take Y).foldl (jY (f2 g) an q) kG).1 w).getD 0<=(Y:Int)*1048576))
  g.eqs.length ⟨0,bz t1,bz eR,lG,bF,bF,ho,Zo,amX,hB⟩ ?_
 clear t1 eR lG
 rintro m I b9 dP ⟨Y,t1,eR,lG,rB,vc,t51,bD,jc,ο⟩
 have qx:=jc.le
 have alE:Z X b9 j=zI [.ptr cL 0] 1:=by rw[jc.low _ Zo Zo Zo];exact eC
 have alK:Z X b9 (j+1+13)=zI [.str g.name, .Z g.at_,cW,cO,a2,dF] 6:=by rw[jc.low _ Zo Zo Zo];exact b5
 have F4:∀e,P e->Z X b9 e=Z X h e:=λe B=>by have:=bI e B;rw[jc.low e Zo this.2.1 this.2.2,pV e B]
 cases m with
 |zero=>
  have aR:=zF Y g.eqs.length
  rw[ZQ Zo]at jc
  generalize g.eqs.foldl (jY (f2 g) an q) kG=G at jc Ro
  refine g0 @t51 @vc @eR @aR (bU alK) ⟨?_⟩
  refine(Lb az Zo).Zm ?_
  rintro ab cm en ⟨rfl,rfl,e6,cH,d7,fU⟩
  generalize uL:dP+1=dh at*
  have x4:∀e,P e->Z X cm e=Z X h e:=λe B=>by rw[e6.ad e (zE (bI e B).1),F4 e B]
  have AA:fP X cm cL (.ptr pi 0) q dK (.map c1) G.2:=by have:=jc.jQ;unfold fP at*;rw[e6.ad cL Zo];exact this
  have ai8:Z X cm j=zI [.ptr cL 0] 1:=by rw[e6.ad _ Zo];exact alE
  refine gT ?_
  refine Lc (P:=P) (g:=g) (b4:=b4) (cr:=cr) (cS:=cS) (cW:=cW) (cO:=cO) (a2:=a2) az (λi R aS=>rL X cm dh cL c1 (.ptr pi 0) q dK (.map c1) (((fv g).take i).foldl (l7 G.1) G.2) G.1 R aS) Zo Zo Zo Zo
   (jA.ad x4) (iD.ad x4) (jB.ad x4) cH d7 fU (λi R aS a=>⟨a.le,λe B=>a.low e (zE (bI e B).1) (bI e B).2.1 (bI e B).2.2⟩)
   (λi aX aM aP be a fa aG=>a.ad Zo Zo fa aG) (λR bP=>⟨Zj _,by unfold fP at*;rw[bP.ad _ Zo];exact AA,(jc.gk.ad (e6.ad _ Zo)).ad (bP.ad _ Zo),λe B _ _=>bP.ad e B⟩) ?_ ?_
  ·intro mk i e2 d dk jI aF lf xq amd
   rw[Ak (l7 G.1) _ aF]
   generalize ((fv g).take i).foldl (l7 G.1) G.2=bX at lf ⊢
   have Dc:=lf.le
   have j9:dy d=[.str d.name, .Z d.at_, .bool d.ty.b, .bool d.ty.s, .Z d.ty.w, .str d.on, .Z d.fT, .bool d.no]:=rfl
   rw[j9]
   unfold sK
   refine c7 ⟨?_⟩
   generalize tk:bl X _ jI _=d8
   have nz:Z X d8 jI=zI [.str d.name, .Z d.at_, .bool d.ty.b, .bool d.ty.s, .Z d.ty.w, .str d.on, .Z d.fT, .bool d.no] 8:=by rw[<-tk,bn Zo];rfl
   have gJ:∀e,e<jI->Z X d8 e=Z X dk e:=λe B=>by rw[<-tk];exact zK
   clear tk
   refine⟨by rw[gJ _ Zo];exact amd, ?_⟩
   generalize vR:bl X d8 (dh+1) _=iv
   have iQ:Z X iv (dh+1)=some (mk .busy none):=by rw[<-vR,bn Zo]
   have nJ:∀e,e≠dh+1->Z X iv e=Z X d8 e:=λe B=>by rw[<-vR,aL Zo B]
   clear vR
   have pH:=lf.ad (aP:=iv) (be:=jI+1) Zo Zo Zo (λe H K=>by rw[nJ e K,gJ e H])
   rw[<-nJ _ Zo]at nz
   have Qc:Z X iv dh=some (.deferred (some [])):=by rw[nJ _ Zo,gJ _ Zo];exact xq
   have ch:aV X iv (.ptr j 0)=some (.ptr cL 0):=by rw[bU (show Z X iv j=_ by rw[pH.low _ Zo Zo Zo];exact ai8)];rfl
   have ec:aV X iv (.ptr cL 3)=some (.map c1):=by have:=pH.jQ;unfold fP at this;rw[bU this];rfl
   have kb:nd X iv 9 (.Z 0) (.map c1) (.str d.name) false=some (.Z ((G.1 d.name).getD 0)):=by
    rw[DL pH.seen];unfold n3;cases G.1 d.name<;>rfl
   have kO:∀R aS,rL X cm dh cL c1 (.ptr pi 0) q dK (.map c1) (l7 G.1 bX (e2,d)) G.1 R aS->Z X R dh=some (.deferred (some []))->(y.bool true=y.bool true/\rL X cm dh cL c1 (.ptr pi 0) q dK (.map c1) (l7 G.1 bX (e2,d)) G.1 (bl X R (dh+1) (some (mk .ready none))) aS/\Z X (bl X R (dh+1) (some (mk .ready none))) dh=some (.deferred (some []))/\Z X (bl X R (dh+1) (some (mk .ready none))) (dh+1)=some (mk .ready none)):=λR aS a K=>
    ⟨rfl,a.ad Zo Zo (Zj _) (λe H K=>aL Zo K),by rw[aL Zo Zo];exact K,bn Zo⟩
   refine vI ⟨?_⟩
   refine gT ?_
   by_cases mE:e2=1
   ·have aR:decide (e2≠1)=false:=by simp[mE]
    have q9:l7 G.1 bX (e2,d)=bX:=by unfold l7;rw[Zg (by simp[mE])]
    refine ce @aR ⟨?_⟩
    rw[q9]at kO ⊢
    exact⟨⟨.busy,none,iQ⟩,kO _ _ (pH.ad Zo Zo Zo (λ_ _ _=>rfl)) Qc⟩
   ·have aR:decide (e2≠1)=true:=by simp[mE]
    by_cases cf:(G.1 d.name).getD 0=0
    ·have CG:decide ((G.1 d.name).getD 0=0)=true:=by simp[cf]
     have q9:l7 G.1 bX (e2,d)=la bX 37 d.at_:=by unfold l7;rw[Zu ⟨mE,cf⟩]
     refine fA @aR @t1 @ch @ec (bU nz) @kb @CG ⟨?_⟩
     refine(vv (h:=iv) az m7 pH.jQ 37 d.at_).Zm ?_
     rintro ab aic asq ⟨rfl,QR,aot,rb⟩
     refine c7 ⟨?_⟩
     rw[q9]at kO ⊢
     have aoq:=pH.le
     exact⟨⟨.busy,none,by rw[rb _ Zo];exact iQ⟩,kO _ _ ⟨Zo,QR,pH.seen.ad (rb _ Zo),λe H K am=>by rw[rb e K];exact pH.low e H K am⟩ (by rw[rb _ Zo];exact Qc)⟩
    ·have CG:decide ((G.1 d.name).getD 0=0)=false:=by simp[cf]
     have q9:l7 G.1 bX (e2,d)=bX:=by unfold l7;rw[Zg (λa=>cf a.2)]
     refine fA @aR @t1 @ch @ec (bU nz) @kb @CG ⟨?_⟩
     rw[q9]at kO ⊢
     exact⟨⟨.busy,none,iQ⟩,kO _ _ (pH.ad Zo Zo Zo (λ_ _ _=>rfl)) Qc⟩
  ·intro dk jI lf xq
   rw[zq]at lf
   have Dc:=lf.le
   rw[<-Ro]at lf
   show pj X [] _ _ _ _ _
   simp only[wj,u6,lG]
   refine⟨by show(o X).aY<=dh;omega,xq, ?_⟩
   show qI _ _ _ _ _
   refine⟨rfl, ?_,Zo,λe H K am=> ?_⟩
   ·have:=lf.jQ
    unfold fP at*
    rw[aL Zo Zo];exact this
   ·rw[aL Zo Zo,lf.low e Zo K am,e6.ad e Zo,jc.low e Zo K am,sc.ad e H]
 |succ m=>
  have aR:=zG Y g.eqs.length
  have bB:=zJ Y
  obtain⟨ai,bG⟩:=zH g.eqs Y
  obtain⟨ayM,aph,Do⟩:=dJ.get Y ai bG
  have di:=hq.g2 Y (by rw[gp.1];omega)
  have kP:=(hq.ad F4).row Zd aph
  obtain⟨yj,BK,awN,awO,jZ,rfl,jf,nF,qA,sp⟩:=Do
  have ts:=jf.len
  have FI:=jf.many
  have Mh:=nF.1.len
  have ape:=nF.1.many
  rw[show(ip ai.left).length=ai.left.length from by simp[ip]]at ts FI
  rw[Zp]at Mh ape
  have cI:=Ak (jY (f2 g) an q) kG bG
  generalize am9:(g.eqs.take Y).foldl (jY (f2 g) an q) kG=GA at jc cI ο
  refine kr @t51 @vc @rB @aR @di @kP ⟨?_⟩
  refine gi (jJ (q:=4) (b:=dP) (W:=0) (n:=4) (c:=M.ofList [.aW, .aW, .Z 0, .cN] 0 .nil) (bn Zo) Zo rfl Zd Zd sp) ?_
  generalize mg:bl X _ dP _=cm
  have eu:Z X cm dP=zI [yj,BK, .Z ai.at_,jZ] 4:=by rw[<-mg,bn Zo];rfl
  have e1:∀e,e<dP->Z X cm e=Z X b9 e:=λe B=>by rw[<-mg];exact zK
  clear mg
  have q7:=jc.ad (aP:=cm) (be:=dP+1) Zo Zo Zo (λe H=>e1 e H)
  refine Lr (bU eu) @ts ⟨?_⟩
  refine gT ?_
  refine gK (λfI I R aS=>∃(i:Nat),I.g 1=some (.ptr j 0)/\I.g 2=some (.ptr (j+1+13) 0)/\I.bb=[]/\I.g 49=some dF/\I.g 50=some (.Z (g.eqs.length:Int))/\I.g 51=some (.Z (Y:Int))/\I.g 6=some (.ptr dP 0)/\I.g 56=some yj/\I.g 57=some (.Z (ai.left.length:Int))/\I.g 58=some (.Z (i:Int))/\i+fI=ai.left.length
   /\wS X bf bE cL c1 (.ptr pi 0) q dK (((oi ai).take i).foldl (lC (f2 g)) GA).2 (((oi ai).take i).foldl (lC (f2 g)) GA).1 R aS/\(∀w,0<=((((oi ai).take i).foldl (lC (f2 g)) GA).1 w).getD 0/\((((oi ai).take i).foldl (lC (f2 g)) GA).1 w).getD 0<=(Y:Int)*1048576+i)
   /\dP+1<=aS/\Z X R dP=zI [yj,BK, .Z ai.at_,jZ] 4)
   ai.left.length ⟨0,bz t1,bz eR,lG,bz rB,bz vc,bz t51,bF,bF,bF,ho,Zo,q7,λw=>by simpa using ο w,Zo,eu⟩ ?_
  clear t1 eR lG rB vc t51
  rintro fI cP dk jI ⟨i,t1,eR,lG,rB,vc,t51,fN,mU,yq,yr,aF,lf,pI,axO,hf⟩
  have Dc:=lf.le
  have Xz:Z X dk j=zI [.ptr cL 0] 1:=by rw[lf.low _ Zo Zo Zo];exact eC
  have A6:∀e,P e->Z X dk e=Z X h e:=λe B=>by have:=bI e B;rw[lf.low e Zo this.2.1 this.2.2,pV e B]
  cases fI with
  |zero=>
   have dI:=zF i ai.left.length
   rw[ZQ (by rw[arr];omega)]at lf pI
   refine fA @yr @yq @t1 @fN @dI (bU Xz) (bU hf) ⟨?_⟩
   refine(auc (j:=jI) (h:=dk) az Zo m7 Zo (λe B=>⟨zE (bI e B).1,(bI e B).2.1⟩) (a8.ad (Q:=P) A6 (λ_ a=>a)) (bw.ad (Q:=P) A6 (λ_ a=>a)) lf.jQ (cG.ad A6 _ _ qA)).Zm ?_
   rintro ab d8 kd ⟨rfl,QP,uH,qv⟩
   refine dq @t51 @bB ⟨?_⟩
   refine⟨m,Zo,Y+1,bz t1,bz eR,lG,bz rB,bz vc,bF,Zo, ?_, ?_⟩
   ·rw[cI]
    exact⟨Zo,QP,lf.gk.ad (qv _ Zo (λD=>AB D.symm)),λe H K am=>by rw[qv e Zo K];exact lf.low e H K am⟩
   ·rw[cI]
    intro w
    have:=pI w
    simp only[jY]
    constructor
    ·exact this.1
    ·have K:=this.2
     have am:i<=1048576:=Zo
     push_cast
     omega
  |succ fI=>
   have dI:=zG i ai.left.length
   have cp:=zJ i
   obtain⟨w,br⟩:=zH ai.left i
   have xJ:=jf.g2 i (by simp[ip];omega)
   have kv:=(jf.ad A6).cell i [.str w] 0 (.str w) (by unfold ip;rw[Zy,br];rfl) rfl
   rw[Yp]at xJ
   rw[Yp,Z5]at kv
   have tt:=Ak (lC (f2 g)) GA (arq br)
   generalize am8:((oi ai).take i).foldl (lC (f2 g)) GA=ow at lf tt pI
   have anw:=pI w
   refine gG @yr @yq (Za @mU (Za @fN (Za @dI (Za @xJ (Za @kv (Za (bU hf) @Mh)))))) ⟨?_⟩
   refine gT ?_
   refine gG @yr @yq (Za @mU (Za @fN (Za @dI (Za @xJ (Za @kv (Za (bU hf) @Mh)))))) ⟨?_⟩
   refine gT ?_
   refine gG @yr @yq (Za @mU (Za @fN (Za @dI (Za @xJ (Za @kv (Za (bU hf) @Mh)))))) ⟨?_⟩
   refine kx (λrW R aS=>rW.g 1=some (.ptr j 0)/\rW.g 2=some (.ptr (j+1+13) 0)/\rW.bb=[]/\rW.g 49=some dF/\rW.g 50=some (.Z (g.eqs.length:Int))/\rW.g 51=some (.Z (Y:Int))/\rW.g 6=some (.ptr dP 0)/\rW.g 56=some yj/\rW.g 57=some (.Z (ai.left.length:Int))/\rW.g 58=some (.Z (i:Int))/\rW.g 8=some (.str w)/\rW.g 9=some (.Z (Cu ai i))/\R=dk/\aS=jI) (λabQ C8=> ?_) ?_
   ·by_cases Iw:i<ai.cX.length
    ·have iy:=zG i ai.cX.length
     obtain⟨E,aD⟩:∃E,ai.cX[i]? =some E:=⟨_,Zf Iw⟩
     have aaA:=nF.1.g2 i (by rw[Zp];exact Iw)
     have χ:=(nF.1.ad A6).cell i [FY E] 0 (FY E) (by rw[Zy,aD];rfl) rfl
     rw[Yp]at aaA
     rw[Yp,Z5]at χ
     have QI:Cu ai i=E:=by unfold Cu;rw[aD];rfl
     refine g0 @iy @fN (bU hf) @aaA @χ ⟨?_⟩
     exact C8 _ _ _ ⟨bz t1,bz eR,lG,bz rB,bz vc,bz t51,bz fN,bz mU,bz yq,bz yr,bF,by refine Al ⟨?_⟩;rw[QI];rfl,rfl,rfl⟩
    ·have iy:=zF i ai.cX.length
     have QI:Cu ai i=0:=by unfold Cu;rw[ZW Zo];rfl
     refine ce @iy ⟨?_⟩
     exact C8 _ _ _ ⟨bz t1,bz eR,lG,bz rB,bz vc,bz t51,bz fN,bz mU,bz yq,bz yr,bF,by refine Al ⟨?_⟩;rw[QI],rfl,rfl⟩
   ·clear t1 eR lG rB vc t51 fN mU yq yr
    rintro rW R aS ⟨t1,eR,lG,rB,vc,t51,fN,mU,yq,yr,iX,t9,rfl,rfl⟩
    show cg _ _
    refine g6 @t1 @iX @t9 (bU Xz) ⟨?_⟩
    refine(aro az Zo m7 vV Zo Zo AB lf.jQ (a8.ad (Q:=P) A6 (λ_ a=>a)) (λe B=>⟨zE (bI e B).1,(bI e B).2.1,(bI e B).2.2⟩) lf.gk w (Cu ai i) ⟨anw.1,Zo⟩).Zm ?_
    rintro ab d8 kd ⟨rfl,QP,amO,uH,qv⟩
    refine dq @yr @cp ⟨?_⟩
    refine⟨fI,Zo,i+1,bz t1,bz eR,lG,bz rB,bz vc,bz t51,bz fN,bz mU,bz yq,bF,Zo, ?_, ?_,Zo,by rw[qv _ Zo Zo Zo];exact hf⟩
    ·rw[tt]
     exact⟨Zo,QP,amO,λe H K am=>by rw[qv e Zo K am];exact lf.low e H K am⟩
    ·rw[tt]
     intro x
     have af:=pI x
     simp only[lC]
     split
     ·simp only[YM];push_cast;omega
     ·push_cast;omega
end
def ast{C:aT}{h:M ak}{j r pos c:Nat}{s:ba}(V:C.aY<=r)(a:Z C h r=some (.ou s pos))(aA:s[pos]? =some c)(H:c<128):
 vQ C kC true h j (kD (.ptr r 0))=some (.fq (.tuple [.zT, .Z (pos:Int), .int .i32 (c:Int)]) (bl C h r (some (.ou s (pos+1)))) j):=by
 have cJ:=(Zb.1 aA).1
 have bB:Nat.blt pos s.length=true:=by simp[Nat.blt];omega
 have cp:Nat.blt c 128=true:=by simp[Nat.blt];omega
 have fj:j5 C r=true:=jP V
 simp only[vQ,kD,fj,eW,a,bB,rs,aA,cp,bs.setObj,g5]
 rfl
def asr{C:aT}{h:M ak}{j r pos:Nat}{s:ba}(V:C.aY<=r)(a:Z C h r=some (.ou s pos))(aA:s.length<=pos):
 vQ C kC true h j (kD (.ptr r 0))=some (.val (.tuple [.zF])):=by
 have bB:Nat.blt pos s.length=false:=by
  cases bG:Nat.blt pos s.length with
  |false=>rfl
  |true=>simp[Nat.blt]at bG;omega
 have fj:j5 C r=true:=jP V
 simp only[vQ,kD,fj,eW,a,bB,kp]
def alu{W:Option dZ}{h R:M ak}{j au:Nat}{ah:bQ}{v:y}(a:W=some (.fq v R au))(q:ah v R au):E6 W h j ah:=by subst a;exact⟨q⟩
def alt{W:Option dZ}{h:M ak}{j:Nat}{ah:bQ}{v:y}(a:W=some (.val v))(q:ah v h j):E6 W h j ah:=by subst a;exact⟨q⟩
section
variable{X:cl}{h R fg aX aP:M ak}{j au aM be:Nat}
def R6{c:Nat}(a:iU c=true):(97<=c/\c<=122)\/(65<=c/\c<=90)\/(48<=c/\c<=57)\/c=95:=by
 simp[iU,qC,iE]at a
 omega
def asK(az:dW X){c:Nat}(aA:iU c=true):a1 X 90 [.int .i32 (c:Int)] h j (λab R au=>ab= .zF/\R=h/\j<=au) (λ_ _ _=>False):=by
 refine zL az (ahR X) ?_
 rw[ahS]
 unfold VD
 rcases R6 aA with a|a|a|a
 ·have cB:decide ((c:Int)<97)=false:=by simp only[Ze];omega
  have cC:decide ((122:Int)<(c:Int))=false:=by simp only[Ze];omega
  refine dq @cB @cC ⟨?_⟩
  exact⟨rfl,rfl,Zo⟩
 ·have cB:decide ((c:Int)<97)=true:=by simp only[Zi];omega
  have cC:decide ((c:Int)<65)=false:=by simp only[Ze];omega
  have dI:decide ((90:Int)<(c:Int))=false:=by simp only[Ze];omega
  refine eP @cB @cC @dI ⟨?_⟩
  exact⟨rfl,rfl,Zo⟩
 ·have cB:decide ((c:Int)<97)=true:=by simp only[Zi];omega
  have cC:decide ((c:Int)<65)=true:=by simp only[Zi];omega
  have dI:decide ((c:Int)<48)=false:=by simp only[Ze];omega
  have iy:decide ((57:Int)<(c:Int))=false:=by simp only[Ze];omega
  refine g6 @cB @cC @dI @iy ⟨?_⟩
  exact⟨rfl,rfl,Zo⟩
 ·have cB:decide ((c:Int)<97)=true:=by simp only[Zi];omega
  have cC:decide ((c:Int)<65)=false:=by simp only[Ze];omega
  have dI:decide ((90:Int)<(c:Int))=true:=by simp only[Zi];omega
  have iy:decide ((c:Int)<48)=false:=by simp only[Ze];omega
  have fR:decide ((57:Int)<(c:Int))=true:=by simp only[Zi];omega
  have i7:decide ((c:Int)≠95)=false:=by simp only[Ze,ne_eq,Decidable.not_not];omega
  refine kr @cB @cC @dI @iy @fR @i7 ⟨?_⟩
  exact⟨rfl,rfl,Zo⟩
def auf{C:aT}{s:ba}{ah:bQ}(q:ah (.ptr j 0) (bl C h j (some (.ou s 0))) (j+1)):hu (S9 C h j (.str s)) h j ah:=kh (by simp only[S9,mQ,lT,g5]) q
def ajn:dD X h .eql 4 false .zF .zT=some .zF:=Zk
def aqm(az:dW X){s:ba}(aE:∀c∈s,iU c=true)(aI:(o X).aY<=j):
 a1 X 91 [.str s, .func (.func 90) [] []] h j (λab R au=>ab= .Z (-1)/\bp X h j R au) (λ_ _ _=>False):=by
 refine zL az (ahT X) ?_
 rw[ahU]
 unfold VE
 refine zL az (afo X) ?_
 rw[afp]
 unfold Ue
 refine auf ?_
 generalize eN:bl X h j _=aX
 have g1:Z X aX j=some (.ou s 0):=by rw[<-eN,bn aI]
 have bY:bp X h j aX (j+1):=by rw[<-eN];exact dM
 clear eN
 refine c7 ⟨?_⟩
 refine gK (λm I R aS=>∃(Y:Nat),I.g 1=some (.func (.func 90) [] [])/\I.g 2=some .zT/\I.g 10=some (.ptr j 0)/\Y+m=s.length/\Z X R j=some (.ou s Y)/\bp X h j R aS/\j+1<=aS)
  s.length ⟨0,bF,bF,bF,Zo,g1,bY,Zo⟩ ?_
 rintro m I aP be ⟨Y,t1,eR,p5,bD,b5,b6,lh⟩
 cases m with
 |zero=>
  refine ce @p5 ⟨?_⟩
  refine alt (asr aI b5 Zo) ?_
  refine c7 ⟨?_⟩
  exact⟨rfl,b6⟩
 |succ m=>
  obtain⟨c,aA⟩:=zH s Y
  have bc:=aE c (Zh aA)
  have amB:c<128:=zE (R6 bc)
  refine ce @p5 ⟨?_⟩
  refine alu (ast aI b5 aA amB) ?_
  refine ce @t1 ⟨?_⟩
  generalize fE:bl X aP j _=bf
  have cR:Z X bf j=some (.ou s (Y+1)):=by rw[<-fE,bn aI]
  have cq:bp X h j bf be:=⟨b6.le,λe B=>by rw[<-fE,aL aI Zo];exact b6.ad e B⟩
  clear fE
  refine(asK az bc).Zm ?_
  rintro ab bT b3 ⟨rfl,rfl,je⟩
  refine dq @eR @ajn ⟨?_⟩
  refine⟨m,Zo,Y+1,bz t1,bz eR,bz p5,Zo,cR,⟨zE cq.le,cq.ad⟩,Zo⟩
end
def adS:List ba:=[[110,111,100,101],[114,101,116,117,114,110,115],[118,97,114],[108,101,116],[116,101,108],[119,104,101,110],[110,111,116],[111,114],[120,111,114],[97,110,100],[112,114,101],[102,98,121],[105,102],[116,104,101,110],[101,108,115,101],[109,101,114,103,101],[116,114,117,101],[102,97,108,115,101]]
def at3:∀w∈adS,w∈tS:=by decide
structure km(X:cl):Prop where
 aY:2<X.aY
 at_:∀h,∃b a2,aV X h (.ptr 3 0)=some a2/\et X h (λe=>e<X.aY) b a2 1 (ip adS)
section
variable{X:cl}{h R fg aX aP:M ak}{j au aM be:Nat}{s:ba}
def akK:dD X h .eql 115 true .nilIface .nilIface=some .zT:=Zk
def akL(b:Nat):dD X h .eql 115 true (.iface 155 (.ptr b 0)) .nilIface=some .zF:=Zk
def ajP(az:dW X){b:Nat}{a2:y}{P:Nat->Prop}{mW:List ba}(V:et X h P b a2 1 (ip mW))(aE:s∉mW):
 a1 X 92 [a2, .str s] h j (λab R au=>ab= .zF/\bp X h j R au) (λ_ _ _=>False):=by
 refine zL az (ahV X) ?_
 rw[ahW]
 unfold VF
 refine a1.mono (ah:=λab R au=>ab= .Z (-1)/\bp X h j R au) (ax:=λ_ _ _=>False) ?_ ?_ (λ_ _ _ a=>a.elim)
 ·refine zL az (afq X) ?_
  rw[afr]
  unfold Uf
  have er:=V.len
  have jq:=V.many
  rw[show(ip mW).length=mW.length from by simp[ip]]at er jq
  refine ce @er ⟨?_⟩
  refine gK (λm I R aS=>∃(Y:Nat),I.g 0=some a2/\I.g 1=some (.str s)/\I.g 7=some (.Z (mW.length:Int))/\I.g 8=some (.Z (Y:Int))/\Y+m=mW.length/\R=h/\aS=j)
   mW.length ⟨0,bF,bF,bF,ho,Zo,rfl,rfl⟩ ?_
  rintro m I aP be ⟨Y,t0,t1,fx,iX,bD,rfl,rfl⟩
  cases m with
  |zero=>
   have d:=zF Y mW.length
   refine eP @iX @fx @d ⟨?_⟩
   exact⟨rfl,bp.refl _ _⟩
  |succ m=>
   have d:=zG Y mW.length
   have bB:=zJ Y
   obtain⟨w,br⟩:=zH mW Y
   have di:=V.g2 Y (by simp[ip];omega)
   have kv:=V.cell Y [.str w] 0 (.str w) (by unfold ip;rw[Zy,br];rfl) rfl
   rw[Yp]at di
   rw[Yp,Z5]at kv
   have cE:s≠w:=λD=>aE (by rw[D];exact Zh br)
   have cC:decide (s=w)=false:=by simp[cE]
   refine fA @iX @fx @t1 @t0 @d @di (Za @kv (Za @cC @bB)) ⟨?_⟩
   exact⟨m,Zo,Y+1,bz t0,bz t1,bz fx,bF,Zo,rfl,rfl⟩
 ·rintro ab aX aM ⟨rfl,bP⟩
  refine c7 ⟨?_⟩
  exact⟨rfl,bP⟩
def TK(az:dW X)(t:iO)(aI:(o X).aY<=j):a1 X 94 [.agg (k0 t)] h j (λab R au=>ab= .str (mS t)/\bp X h j R au) (λ_ _ _=>False):=by
 refine zL az (ahZ X) ?_
 rw[ah0]
 unfold VH
 have a8:k0 t=[.bool t.b, .bool t.s, .Z t.w]:=rfl
 rw[a8]
 refine c7 ⟨?_⟩
 refine e8 (λaX=>Z X aX j=zI [.bool t.b, .bool t.s, .Z t.w] 3/\bp X h j aX (j+1)) ⟨bn aI,dM⟩ ?_
 rintro aX ⟨g1,bY⟩
 refine(DO az t Zo).Zm ?_
 rintro ab aP be ⟨rfl,b6⟩
 have f1:=b6.le
 have bP:=bY.trans b6
 have b5:Z X aP j=zI [.bool t.b, .bool t.s, .Z t.w] 3:=by rw[b6.ad _ Zo];exact g1
 have d9:aV X aP (.ptr j 0)=some (.bool t.b):=by rw[bU b5];rfl
 have dl:aV X aP (.ptr j 1)=some (.bool t.s):=by rw[bU b5];rfl
 have dx:aV X aP (.ptr j 2)=some (.Z t.w):=by rw[bU b5];rfl
 cases bc:kB t with
 |false=>
  refine c7 ⟨?_⟩
  exact⟨by simp[mS,bc],bP⟩
 |true=>
  cases mK:t.b with
  |true=>
   rw[mK]at d9
   refine ce @d9 ⟨?_⟩
   exact⟨by simp[mS,bc,mK],bP⟩
  |false=>
   rw[mK]at d9
   have br:1<=t.w/\t.w<=64:=by simpa[kB,mK]using bc
   obtain⟨w,xW⟩:=Yc (by omega:0<=t.w)
   rw[xW]at dx
   have aF:js t.w.toNat=js w:=by rw[xW];rfl
   have eO:(js w).length<=2:=by unfold js;split<;>simp
   have qX:∀h c,dD X h .add 9 true (.str [c]) (.str (js w))=some (.str (c::js w)):=λh c=>by
    have:Nat.ble ([c].length+(js w).length) 1000000000=true:=jP Zx
    simp only[dD,wZ,this,eW];rfl
   cases ly:t.s with
   |true=>
    rw[ly]at dl
    refine eP @d9 @dl @dx ⟨?_⟩
    refine(MC az Zo).Zm ?_
    rintro ab bf bE ⟨rfl,rfl,rfl⟩
    refine ce @qX ⟨?_⟩
    exact⟨by simp[mS,bc,mK,ly,aF],bP⟩
   |false=>
    rw[ly]at dl
    refine eP @d9 @dl @dx ⟨?_⟩
    refine(MC az Zo).Zm ?_
    rintro ab bf bE ⟨rfl,rfl,rfl⟩
    refine ce @qX ⟨?_⟩
    exact⟨by simp[mS,bc,mK,ly,aF],bP⟩
def aqr{c:Nat}(a:iU c=true):c<256:=zE (R6 a)
def avU(az:f5 X)(bP:kl X)(aE:qR s)(aI:(o X).aY<=j):
 a1 X 93 [.str s] h j (λab R au=>ab= .zF/\bp X h j R au) (λ_ _ _=>False):=by
 refine zL az.todW (ahX X) ?_
 rw[ahY]
 unfold VG
 cases s with
 |nil=>exact absurd rfl aE.ne
 |cons c k=>
  cases k with
  |nil=>
   have kq:decide (((1:Nat):Int)<2)=true:=rfl
   refine ce @kq ⟨?_⟩
   exact⟨rfl,dM⟩
  |cons dx k=>
   have cB:decide ((((dx::k).length+1:Nat):Int)<2)=false:=by simp only[Ze,Zz];omega
   have jF:mT (.str (c::dx::k)) (some (.Z 1)) none=some (.str (dx::k)):=NK (k:=1) .i64 Zs
   have di:nI (.str (c::dx::k)) (.Z 0)=some (.int .u8 (c:Int)):=A1 (i:=0) .i64 rfl
   have er:mq (.str (c::dx::k))=some (.Z ((c::dx::k).length:Int)):=uY _
   have hA:=aE.all
   have eO:=aE.len
   have vT:c::dx::k≠[98,111,111,108]:=λD=>by have:=aE.ty;rw[D]at this;cases this
   have cC:decide (c::dx::k=[98,111,111,108])=false:=by simp only[Ze];exact vT
   have IU:=aE.ty
   generalize gI:dx::k=m at*
   have fR:decide ((c:Int)=105)=decide (c=105):=by simp;omega
   refine gi er ?_
   refine dq @cB @jF ⟨?_⟩
   refine(Wi az bP (by simp at eO;omega) (λx af=>aqr (hA x (Zn _ af))) (ac2 (λx af=>hA x (Zn _ af))) Zo).Zm ?_
   rintro ab aP be ⟨⟨bo,D,rfl,bt,af⟩,b6⟩
   have f1:=b6.le
   rcases bt with rfl|⟨b,rfl⟩
   ·refine g6 @cC @akK @di @fR ⟨?_⟩
    refine(TK (j:=be) (h:=aP) az.todW ⟨false,decide (c=105),bo⟩ Zo).Zm ?_
    rintro ab bf bE ⟨rfl,cq⟩
    have aR:decide (c::m=mS ⟨false,decide (c=105),bo⟩)=false:=by
     simp only[Ze]
     intro a
     cases bc:kB ⟨false,decide (c=105),bo⟩with
     |false=>simp[mS,bc]at a
     |true=>
      have cf:1<=bo/\bo<=64:=by simpa[kB]using bc
      obtain⟨n,rfl⟩:=Yc (by omega:0<=bo)
      simp only[mS,bc,ZE,Zv,ZD]at a
      have H:=(List.cons.inj a).1
      have K:=(List.cons.inj a).2
      have QS:c=105\/c=117:=by
       by_cases aA:c=105
       ·exact .inl aA
       ·simp[aA]at H;exact .inr H
      exact aev IU QS (n:=n) Zo Zo (by simpa using K.symm)
    refine ce @aR ⟨?_⟩
    exact⟨rfl,b6.trans cq⟩
   ·refine dq @cC @akL ⟨?_⟩
    exact⟨rfl,b6⟩
def x8(az:f5 X)(bP:kl X)(c2:km X)(aE:qR s)(aI:(o X).aY<=j):
 a1 X 65 [.str s] h j (λab R au=>ab= .zT/\bp X h j R au) (λ_ _ _=>False):=by
 refine zL az.todW (Vc X) ?_
 rw[Vd]
 unfold OI
 have cE:=aE.ne
 have cB:decide (s=[])=false:=by simp[cE]
 have eO:=aE.len
 have cC:decide ((32:Int)<(s.length:Int))=false:=by simp only[Ze];omega
 obtain⟨c,aA⟩:∃c,s.head?=some c:=by cases s with|nil=>exact absurd rfl cE|cons c k=>exact⟨c,rfl⟩
 have xB:=aE.ajf c aA
 have di:nI (.str s) (.Z 0)=some (.int .u8 (c:Int)):=A1 (i:=0) .i64 (by rw[<-List.head?_eq_getElem?];exact aA)
 have Fr:65<=c:=by simp[qC]at xB;omega
 have dI:decide ((48:Int)<=(c:Int))=true:=by simp only[Zi];omega
 have iy:decide ((c:Int)<=57)=false:=by simp only[Ze];omega
 refine g0 @cB @cC @di @dI @iy ⟨?_⟩
 refine(aqm az.todW aE.all aI).Zm ?_
 rintro ab aX aM ⟨rfl,bY⟩
 have jD:=bY.le
 obtain⟨b,a2,jF,c3⟩:=c2.at_ aX
 have Aa:decide ((0:Int)<= -1)=false:=rfl
 refine dq @jF @Aa ⟨?_⟩
 refine(ajP (j:=aM) az.todW c3 (λa=>aE.res (at3 _ a))).Zm ?_
 rintro ab aP be ⟨rfl,b6⟩
 have f1:=b6.le
 refine c7 ⟨?_⟩
 refine(avU (j:=be) (h:=aP) az bP aE Zo).Zm ?_
 rintro ab bf bE ⟨rfl,cq⟩
 refine c7 ⟨?_⟩
 exact⟨rfl,(bY.trans b6).trans cq⟩
end
section
variable{X:cl}{h R fg aX aP:M ak}{j au aM be:Nat}{s:ba}
def TV:List y:=[.str [], .Z 0, .zF, .zF, .Z 0, .str [], .Z 0, .zF]
def amm(n:Nat):Fq X h j .append [35,3] [.aW, .Z (n:Int)]=bH (Nat.ble n 1048576) (bH (Nat.beq n 0) (some (.val .aW)) (sa X h j n 8 (kX n TV))) none:=Zk
def Ea(n:Nat)(k:List y):(kX n k).length=n*k.length:=by
 induction n with
 |zero=>simp[kX]
 |succ n aj=>simp[kX,aj,ZV];omega
def ajy:r1 X h .cap [35] [.aW]=some (.Z 0):=Zk
def auQ:nN X h 8 .aW none (some (.Z 0)) none=some .aW:=by rfl
def auS{dh n m:Nat}{c:M y}(a:Z X h dh=some (.cells c m (.grow []))):nN X h 8 (.ej dh 0 n 8) none (some (.Z 0)) none=some (.ej dh 0 0 8):=by
 have bB:nK (some (.Z 0)) (m/8) n=some 0:=by simp[nK,asp]
 have cp:∀E b:Nat,nK none E b=some b:=λE b=>rfl
 have fj:u9 X h dh=some m:=by simp[u9,a]
 have jn:Nat.blt 0 8=true:=rfl
 simp only[nN,fj,md,YN,cp,bB]
 simp[jn]
def atQ{C:aT}{P:Nat->Prop}{b aN:Nat}{a2:y}{aK:List (List y)}(a:et C h P b a2 aN aK)(cf:0<aN):hI C h aN a2=some (aK.length,aK.flatten):=by
 have Iu:=mf a.wide
 have key:∀cQ W n:Nat,n=aK.length->(∀i,i<aK.length->some (y.ptr cQ (W+i*aN))=some (.ptr b (i*aN)))->ix C h cQ W (n*aN)=some aK.flatten:=by
  intro cQ W n aI aF
  subst aI
  by_cases bi:aK.length=0
  ·have:aK=[]:=Yb bi
   subst this
   simp only[ix]
   cases aA:cellsOf C h cQ with
   |none=>simp
   |some c=>simp[XF]
  ·have H:=aF 0 Zo
   simp at H
   obtain⟨rfl,rfl⟩:=H
   obtain⟨r,V⟩:=zH aK 0
   have uQ:=a.wide r (Zh V)
   obtain⟨v,bu⟩:=zH r 0
   have pK:=a.cell 0 r 0 v V bu
   simp only[Y1,Z5]at pK
   have C1:∃c,cellsOf C h cQ=some c:=by
    simp only[aV]at pK
    cases aA:cellsOf C h cQ with
    |none=>rw[aA]at pK;cases pK
    |some c=>exact⟨c,rfl⟩
   obtain⟨c,aA⟩:=C1
   simp only[ix,aA]
   rw[<-Iu]
   refine XE _ _ λY v bD=> ?_
   have m8:=(Zb.1 bD).1
   rw[Iu]at m8
   have bG:Y/aN<aK.length:=Nat.div_lt_of_lt_mul (by rw[zB];exact m8)
   obtain⟨hH,ml⟩:∃r,aK[Y/aN]? =some r:=⟨_,Zf bG⟩
   have ax3:=a.wide hH (Zh ml)
   have bc:Y%aN<aN:=zs _ cf
   obtain⟨gj,xU⟩:∃v,hH[Y%aN]? =some v:=⟨_,Zf Zo⟩
   have K:=a.cell (Y/aN) hH (Y%aN) gj ml xU
   have am:=PW aK a.wide (Y/aN) hH (Y%aN) gj ml xU
   have aC:Y/aN*aN+Y%aN=Y:=by rw[zB];exact Nat.div_add_mod Y aN
   rw[aC]at K am
   rw[bD]at am
   cases am
   simp only[aV,aA]at K
   rw[ZP]
   exact K
 have aB:=a.len
 cases a2 with
 |slice cQ W n cap=>
  have aI:n=aK.length:=by rw[rk]at aB;simp at aB;omega
  have aF:∀i,i<aK.length->some (y.ptr cQ (W+i*aN))=some (.ptr b (i*aN)):=λi aF=>by
   have:=a.g2 i aF
   rw[<-this]
   have D:Nat.blt i n=true:=by simp[Nat.blt];omega
   simp only[iV,sy,Cc,D,eW]
  have aG:=key cQ W n aI aF
  subst aI
  simp only[hI,aG]
 |ej cQ W n wC=>
  have aI:n=aK.length:=by rw[tF]at aB;simp at aB;omega
  have aF:∀i,i<aK.length->some (y.ptr cQ (W+i*aN))=some (.ptr b (i*aN)):=λi aF=>by
   have:=a.g2 i aF
   rw[<-this]
   have D:Nat.blt i n=true:=by simp[Nat.blt];omega
   simp only[iV,sy,Cc,D,eW]
  have aG:=key cQ W n aI aF
  subst aI
  simp only[hI,aG]
 |aW=>
  have aI:(0:Int)=aK.length:=by rw[x7]at aB;simpa using aB
  have:aK=[]:=Yb Zo
  subst this
  rfl
 |_=>simp[fM]at aB
def aui{dh n r m:Nat}{c:M y}{x:y}{k:List y}{ah:bQ}(al:Z X h dh=some (.cells c (m*8) (.grow [])))(aH:(o X).aY<=dh)(af:hI X h 8 x=some (r,k))(aB:k.length=r*8)(V:n+r<=m)(H:Go.bs.iI k=true)
 (q:∀R gC,Z X R dh=some (.cells gC (m*8) (.grow []))->(∀i,gC.get i=if n*8<=i/\i<n*8+k.length then k[i-n*8]? else c.get i)->(∀e,e≠dh->Z X R e=Z X h e)->ah (.ej dh 0 (n+r) 8) R j):
 hu (ju X h j 8 (.ej dh 0 n 8) x) h j ah:=by
 by_cases bi:r=0
 ·subst bi
  have:k=[]:=Yb Zo
  subst this
  have bB:ju X h j 8 (.ej dh 0 n 8) x=some (.val (.ej dh 0 n 8)):=by
   simp only[ju,af]
   simp[Cs,u9,al]
   omega
  refine at1 bB ?_
  exact q h c al (λi=>by rw[Zg Zs]) (λ_ _=>rfl)
 ·have cp:Nat.ble ((n+r)*8) (m*8)=true:=jP Zo
  have fj:Nat.ble (n*8+k.length) (m*8)=true:=jP Zo
  have Ac:Nat.beq 8 8=true:=rfl
  have jn:j5 X dh=true:=jP aH
  have oM:ju X h j 8 (.ej dh 0 n 8) x=some (.fq (.ej dh 0 (n+r) 8) (Go.bs.bl X h dh (some (.cells (d3 c (n*8) k) (m*8) (.grow [])))) j):=by
   simp only[ju,af]
   rw[hn,Zg bi]
   simp only[vr,Hk,al,jn,Ac,eW,cp,rZ,fj,H,YA,g5,mM,ZP]
  refine kh oM ?_
  refine q _ _ (bn aH) (λi=> ?_) (λe B=>aL aH B)
  rw[pt]
def auH(az:dW X){n:Nat}(bi:0<n)(H:n<=300000)(aI:(o X).aY<=j):
 a1 X 95 [.aW, .Z (n:Int)] h j (λab R au=>ab= .ej j 0 0 8/\(∃c,Z X R j=some (.cells c (n*8) (.grow [])))/\bp X h j R au/\j<au) (λ_ _ _=>False):=by
 refine zL az (ah1 X) ?_
 rw[ah2]
 unfold VI
 have cB:decide ((n:Int)<0)=false:=by simp only[Ze];omega
 have cC:decide ((0:Int)<(n:Int))=true:=by simp only[Zi];omega
 have bB:bg .sub (.Z 0) (.Z 0)=some (.Z 0):=xY Zo Zo
 have cp:bg .sub (.Z (n:Int)) (.Z 0)=some (.Z (n:Int)):=by rw[xY Zo Zo];simp
 have fj:Fq X h j .append [35,3] [.aW, .Z (n:Int)]=some (.fq (.ej j 0 n 8) (bl X h j (some (.cells (M.ofList (kX n TV) 0 .nil) (n*8) (.grow [])))) (j+1)):=by
  rw[amm,jP Zo,eW,hn,Zg Zo]
  simp only[sa,jP (show n<=1048576 by omega),eW,mQ,lT,g5,Ea]
  rfl
 refine kr @cB @ajy @bB @cp @cC @auQ ⟨?_⟩
 refine kh fj ?_
 generalize eN:bl X h j _=aX
 have g1:Z X aX j=some (.cells (M.ofList (kX n TV) 0 .nil) (n*8) (.grow [])):=by rw[<-eN,bn aI]
 have bY:bp X h j aX (j+1):=by rw[<-eN];exact dM
 clear eN
 have jn:=auS (n:=n) g1
 refine ce @jn ⟨?_⟩
 exact⟨rfl,⟨_,g1⟩,bY,Zo⟩
def y4(k:List (List d4)):Nat:=(k.map List.length).sum
def WI(az:dW X){P:Nat->Prop}{qd b4 cr cS:Nat}{cW cO a2:y}{A bj aa:List d4}(aI:(o X).aY<=j)(Ig:qd<j)(aD:Z X h qd=zI [cW,cO,a2] 3)
 (H:et X h P b4 cW 8 (A.map dy))(K:et X h P cr cO 8 (bj.map dy))(am:et X h P cS a2 8 (aa.map dy))(bI:∀e,P e->e<j)(bi:0<A.length+bj.length+aa.length)(bc:A.length+bj.length+aa.length<=300000):
 a1 X 67 [.slice qd 0 3 3] h j (λab R au=>∃b,et X R (ei j au) b ab 8 ((A++(bj++aa)).map dy)/\bp X h j R au) (λ_ _ _=>False):=by
 refine zL az (ahb X) ?_
 rw[ahc]
 unfold Vg
 have Mr:∀Y,Y<3->∃s b L,[cW,cO,a2][Y]? =some s/\et X h P b s 8 (L.map dy)/\([A,bj,aa]:List (List d4))[Y]? =some L/\L.length<=300000:=by
  intro Y bD
  match Y,bD with
  |0,_=>exact⟨cW,b4,A,rfl,H,rfl,Zo⟩
  |1,_=>exact⟨cO,cr,bj,rfl,K,rfl,Zo⟩
  |2,_=>exact⟨a2,cS,aa,rfl,am,rfl,Zo⟩
 have pK:∀R Y s,Z X R qd=zI [cW,cO,a2] 3->[cW,cO,a2][Y]? =some s->aV X R (.ptr qd Y)=some s:=λR Y s a aE=>by rw[bU a,lE];exact aE
 obtain⟨lw,vU⟩:∃lw:Nat->Nat,∀Y,lw Y=y4 (([A,bj,aa]:List (List d4)).take Y):=⟨_,λ_=>rfl⟩
 obtain⟨xo,oV⟩:∃xo:Nat->List d4,∀Y,xo Y=(([A,bj,aa]:List (List d4)).take Y).flatten:=⟨_,λ_=>rfl⟩
 have aao:∀Y L,([A,bj,aa]:List (List d4))[Y]? =some L->xo (Y+1)=xo Y++L:=by
  intro Y L a
  rw[oV,oV,YQ,a];simp
 have Io:∀Y,lw Y=(xo Y).length:=λY=>by rw[vU,oV];unfold y4;rw[List.length_flatten]
 have cI:∀Y L,([A,bj,aa]:List (List d4))[Y]? =some L->lw (Y+1)=lw Y+L.length:=by
  intro Y L a
  rw[Io,Io,aao Y L a,ZG]
 have fa:∀Y,lw Y<=A.length+bj.length+aa.length:=by
  intro Y
  rw[vU]
  match Y with
  |0=>simp[y4]
  |1=>simp[y4];omega
  |2=>simp[y4]
  |n+3=>simp[y4];omega
 have XU:lw 3=A.length+bj.length+aa.length:=by rw[vU];simp[y4];omega
 have CQ:lw 0=0:=by rw[vU];simp[y4]
 have ak2:xo 0=[]:=by rw[oV];rfl
 refine c7 ⟨?_⟩
 refine gK (λm I R aS=>∃(Y:Nat),I.g 0=some (.slice qd 0 3 3)/\I.g 9=some (.slice qd 0 3 3)/\I.g 10=some (.Z 3)/\I.g 11=some (.Z (Y:Int))/\I.g 3=some (.Z (lw Y:Nat))/\Y+m=3/\R=h/\aS=j)
  3 ⟨0,bF,bF,ho,ho,by refine Al ⟨?_⟩;rw[CQ];rfl,Zo,rfl,rfl⟩ ?_
 rintro m I aX aM ⟨Y,t0,t9,p5,tY,t3,bD,rfl,rfl⟩
 cases m with
 |succ m=>
  have d:decide ((Y:Int)<3)=true:=by simp only[Zi];omega
  have bB:=zJ Y
  obtain⟨s,b,L,aE,c3,dY,am0⟩:=Mr Y Zo
  have De:=fa Y
  have di:iV 1 (.slice qd 0 3 3) (.Z (Y:Int))=some (.ptr qd Y):=by rw[A0 _ Zo];simp
  have aA:=pK _ Y s aD aE
  have er:=c3.len
  rw[Zp]at er
  have cp:bg .add (.Z ((lw Y:Nat):Int)) (.Z (L.length:Int))=some (.Z ((lw (Y+1):Nat):Int)):=by
   rw[cI Y L dY,eK Zo Zo];simp
  have cC:decide (((lw (Y+1):Nat):Int)<0)=false:=by simp only[Ze];omega
  refine fA @tY @p5 @t9 @t3 @d @di (Za @aA (Za @er (Za @cp (Za @cC @bB)))) ⟨?_⟩
  exact⟨m,Zo,Y+1,bz t0,bz t9,bz p5,bF,bF,Zo,rfl,rfl⟩
 |zero=>
  have d:decide ((Y:Int)<3)=false:=by simp only[Ze];omega
  have L5:Y=3:=Zo
  subst L5
  rw[XU]at t3
  refine g6 @tY @p5 @t3 @d ⟨?_⟩
  refine(auH az bi bc aI).Zm ?_
  rintro ab aP be ⟨rfl,⟨dx,b5⟩,b6,lh⟩
  generalize Fl:A.length+bj.length+aa.length=d5 at*
  refine ce @t0 ⟨?_⟩
  refine gK (λm I R aS=>∃(Y:Nat) (c:M y),I.g 25=some (.slice qd 0 3 3)/\I.g 26=some (.Z 3)/\I.g 27=some (.Z (Y:Int))/\I.g 6=some (.ej aM 0 (lw Y) 8)/\Y+m=3/\aM<aS/\bp X aX aM R aS
   /\Z X R aM=some (.cells c (d5*8) (.grow []))/\∀(i:Nat) v,((xo Y).map dy).flatten[i]? =some v->c.get i=some v)
   3 ⟨0,dx,bF,ho,ho,by refine Al ⟨?_⟩;rw[CQ],Zo,lh,b6,b5,λi v a=>by rw[ak2]at a;simp at a⟩ ?_
  clear t0 t9 p5 tY t3
  rintro m I bf bE ⟨Y,gD,vb,tZ,TB,fN,bD,rf,cq,cR,tn⟩
  have Iu:∀L:List d4,((L.map dy).flatten).length=L.length*8:=λL=>by
   have:=mf (aK:=L.map dy) (aN:=8) (by intro r V;obtain⟨d,_,rfl⟩:=ZC.1 V;rfl)
   rw[this,Zp]
  cases m with
  |zero=>
   have d:decide ((Y:Int)<3)=false:=by simp only[Ze];omega
   have L5:Y=3:=Zo
   subst L5
   rw[XU]at fN
   refine g6 @TB @tZ @fN @d ⟨?_⟩
   have hA:xo 3=A++(bj++aa):=by rw[oV];simp
   rw[hA]at tn
   have eO:(A++(bj++aa)).length=d5:=by simp;omega
   refine⟨aM,⟨λ_=>⟨Zo,Zo⟩,by rw[Zp,eO];omega,by intro r V;obtain⟨d,_,rfl⟩:=ZC.1 V;rfl,by rw[tF,Zp,eO],λi aF=>by rw[DD _ (by rw[Zp,eO]at aF;omega),ZP],λi r abQ v aF C8=> ?_⟩,cq⟩
   rw[bU cR]
   exact tn _ _ (PW _ (by intro r V;obtain⟨d,_,rfl⟩:=ZC.1 V;rfl) i r abQ v aF C8)
  |succ m=>
   have d:decide ((Y:Int)<3)=true:=by simp only[Zi];omega
   have bB:=zJ Y
   obtain⟨s,b,L,aE,c3,dY,am0⟩:=Mr Y Zo
   have di:iV 1 (.slice qd 0 3 3) (.Z (Y:Int))=some (.ptr qd Y):=by rw[A0 _ Zo];simp
   have ane:Z X bf qd=zI [cW,cO,a2] 3:=by rw[cq.ad _ Ig];exact aD
   have aA:=pK _ Y s ane aE
   have h7:=atQ (c3.ad (R:=bf) (λe B=>cq.ad e (bI e B))) Zd
   rw[Zp]at h7
   have H:=cI Y L dY
   have K:=fa (Y+1)
   refine fA @TB @tZ @vb @fN @d @di @aA ⟨?_⟩
   refine aui cR Zo h7 (Iu L) Zo ?_ ?_
   ·clear h7
    have:∀d5:List d4,Go.bs.iI (d5.map dy).flatten=true:=by
     intro d5
     induction d5 with
     |nil=>rfl
     |cons d d5 aj=>simpa[dy,Go.bs.iI,l3]using aj
    exact this L
   ·intro bT r2 ep sf gg
    refine dq @TB @bB ⟨?_⟩
    refine⟨m,Zo,Y+1,r2,bz vb,bz tZ,bF,by refine Al ⟨?_⟩;rw[H],Zo,rf,⟨cq.le,λe B=>by rw[gg e Zo];exact cq.ad e B⟩,ep,λi v aF=> ?_⟩
    rw[aao Y L dY]at aF
    simp only[YI,Yu]at aF
    have so:(((xo Y).map dy).flatten).length=lw Y*8:=by
     rw[Iu,Io]
    rw[sf]
    by_cases cJ:i<lw Y*8
    ·rw[Zg Zo]
     rw[ZI Zo]at aF
     exact tn i v aF
    ·rw[ZF Zo,so]at aF
     have:=(Zb.1 aF).1
     rw[Zu ⟨Zo,Zo⟩]
     exact aF
end
end
end Go.Proofs.YtbbkkkpgjaopkaaGreatDoor

