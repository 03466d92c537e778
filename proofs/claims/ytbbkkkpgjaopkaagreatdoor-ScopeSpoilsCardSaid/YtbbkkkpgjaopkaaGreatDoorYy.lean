/- Part of the proof of the last text; no conditions -/
import Derived.Test.YtbbkkkpgjaopkaaGreatDoorYx
set_option maxHeartbeats 8000000
set_option linter.all false
namespace Go.Proofs.YtbbkkkpgjaopkaaGreatDoor
open Go.bs Go.aQ
noncomputable section
def Ag{f:Int×Int}(c E:Int)(a:f.1≠0):la f c E=f:=by unfold la;rw[Zg a]
def P0{α:Type}(s:Int×Int->α->Int×Int)(aE:∀f x,f.1≠0->s f x=f):∀(k:List α) (f:Int×Int),f.1≠0->k.foldl s f=f:=by
 intro k
 induction k with
 |nil=>intro f _;rfl
 |cons E k aj=>intro f a;rw[ZZ,aE f E a];exact aj f a
def TM(aa:ba->Option Int)(k:List (Int×d4))(f:Int×Int)(a:f.1≠0):k.foldl (l7 aa) f=f:=
 P0 _ (λf x a=>by unfold l7;rw[Ag _ _ a];split<;>rfl) k f a
def adV{t:ba->Option fZ}{an:List Go.aQ.Node}{q:Nat}{f:Int×Int}(D:bL)(a:f.1≠0):Gu t an q f D=f:=by
 unfold Gu
 rw[TO _ (λ_ _=>rfl)]
 refine P0 _ (λf x a=> ?_) _ f a
 have H:tU t f x=f:=by unfold tU;rw[Ag _ _ a];split<;>(try split)<;>rfl
 simp only[rx,H,Ec]
 split
 ·split
  ·rw[Ag _ _ a]
  ·rw[Ag _ _ a];split<;>rfl
 ·rfl
def arn{t:ba->Option fZ}{aa:ba->Option Int}{f:Int×Int}(w:ba)(E:Int)(a:f.1≠0):Bh t aa f w E=f:=by
 unfold Bh
 rw[Ag _ _ a,Ag _ _ a]
 split
 ·rfl
 ·split<;>rfl
def acv(t:ba->Option fZ):∀(k:List (ba×Int)) (s:(ba->Option Int)×(Int×Int)),s.2.1≠0->(k.foldl (lC t) s).2=s.2:=by
 intro k
 induction k with
 |nil=>intro s _;rfl
 |cons x k aj=>
  intro s a
  have D:(lC t s x).2=s.2:=arn _ _ a
  rw[ZZ,aj _ (by rw[D];exact a),D]
def atJ(t:ba->Option fZ)(an:List Go.aQ.Node)(q:Nat):∀(k:List ee) (s:(ba->Option Int)×(Int×Int)),s.2.1≠0->(k.foldl (jY t an q) s).2=s.2:=by
 intro k
 induction k with
 |nil=>intro s _;rfl
 |cons ai k aj=>
  intro s a
  have D:(jY t an q s ai).2=s.2:=by
   have bB:=acv t (oi ai) s a
   simp only[jY]
   rw[bB];exact adV _ a
  rw[ZZ,aj _ (by rw[D];exact a),D]
def akl:∀(k:List (Int×d4)) (s:(ba->Option Int)×(Int×Int)),s.2.1≠0->(k.foldl kM s).2=s.2:=by
 intro k
 induction k with
 |nil=>intro s _;rfl
 |cons x k aj=>
  intro s a
  have D:(kM s x).2=s.2:=by simp only[kM];rw[Ag _ _ a];split<;>rfl
  rw[ZZ,aj _ (by rw[D];exact a),D]
def aj0{t:ba->Option fZ}{g:Go.aQ.Node}{f:Int×Int}(a:f.1≠0):pF t g f=f:=by
 unfold pF
 rw[akl _ _ a]
 exact P0 _ (λf x a=>by unfold qf;rw[Ag _ _ a];split<;>rfl) _ f a
def wk(an:List Go.aQ.Node)(q:Nat)(g:Go.aQ.Node):(ba->Option Int)×(Int×Int):=g.eqs.foldl (jY (f2 g) an q) (λ_=>none,pF (f2 g) g (ke an q g))
def SJ(an:List Go.aQ.Node)(q:Nat)(g:Go.aQ.Node):kU an q g=(fv g).foldl (l7 (wk an q g).1) (wk an q g).2:=rfl
def SD(an:List Go.aQ.Node)(q:Nat)(g:Go.aQ.Node)(w:ba):((wk an q g).1 w).getD 0=gk w (g.eqs.flatMap ee.left):=by
 unfold wk
 rw[adG];simp
def mo(g:Go.aQ.Node):List ba:=g.eqs.flatMap ee.left
structure rR(an:List Go.aQ.Node)(q:Nat)(g:Go.aQ.Node):Prop where
 aY:(ke an q g).1=0
 nL:(mr g).Nodup
 on:∀x∈fv g,x.2.on≠[]->(f2 g x.2.on).isSome=true
 left:∀w∈mo g,∃v,f2 g w=some v/\v.kind≠1/\gk w (mo g)<=1
 right:∀ai∈g.eqs,G8 (f2 g) an q ai.right
def acG{an:List Go.aQ.Node}{q:Nat}{g:Go.aQ.Node}:(wk an q g).2.1=0↔rR an q g:=by
 unfold wk
 rw[adH _ _ _ _ _ (λ_=>Zs)]
 simp only[]
 rw[WO]
 constructor
 ·rintro⟨⟨H,K,am⟩,aC,bm⟩
  refine⟨H,K,λx af cE=> ?_,λw br=> ?_,bm⟩
  ·cases a8:f2 g x.2.on with
   |none=>exact absurd ⟨a8,cE⟩ (am x af)
   |some v=>rfl
  ·obtain⟨v,bS,ck,cM⟩:=aC w br
   exact⟨v,bS,ck,by simpa[mo]using cM⟩
 ·rintro⟨H,K,am,aC,bm⟩
  refine⟨⟨H,K,λx af cE=> ?_⟩,λw br=> ?_,bm⟩
  ·have:=am x af cE.2
   rw[cE.1]at this;cases this
  ·obtain⟨v,bS,ck,cM⟩:=aC w br
   exact⟨v,bS,ck,by simpa[mo]using cM⟩
def tM{an:List Go.aQ.Node}{q:Nat}{g:Go.aQ.Node}:(kU an q g).1=0↔rR an q g/\∀x∈fv g,x.1≠1->0<gk x.2.name (mo g):=by
 rw[SJ,av0,acG]
 refine and_congr Iff.rfl ⟨λa x af H=> ?_,λa x af H=> ?_⟩
 ·have:=a x af
  rw[SD]at this
  have:=uk x.2.name (g.eqs.flatMap ee.left)
  have K:¬gk x.2.name (g.eqs.flatMap ee.left)=0:=λD=>a x af ⟨H,by rw[SD];exact D⟩
  show 0<gk x.2.name (g.eqs.flatMap ee.left)
  omega
 ·rw[SD]at H
  have:=a x af H.1
  unfold mo at this
  omega
def avZ(aa:ba->Option Int):∀(k:List (Int×d4)) (f:Int×Int),f.1=0->(k.foldl (l7 aa) f).1=0\/(k.foldl (l7 aa) f).1=37:=by
 intro k
 induction k with
 |nil=>intro f a;exact .inl a
 |cons x k aj=>
  intro f a
  rw[ZZ]
  by_cases al:x.1≠1/\(aa x.2.name).getD 0=0
  ·have D:l7 aa f x=(37,x.2.at_):=by unfold l7 la;rw[Zu al,Zu a]
   rw[D,TM _ _ _ Zs]
   exact .inr rfl
  ·have D:l7 aa f x=f:=by unfold l7;rw[Zg al]
   rw[D];exact aj f a
def acZ{an:List Go.aQ.Node}{q:Nat}{g:Go.aQ.Node}(a:rR an q g){x:Int×d4}(af:x∈fv g)(H:x.1≠1)(bi:gk x.2.name (mo g)=0):(kU an q g).1=37:=by
 have bc:=acG.2 a
 rcases avZ (wk an q g).1 (fv g) _ bc with K|K
 ·have:=(tM.1 (show(kU an q g).1=0 from K)).2 x af H
  omega
 ·exact K
def adc:∀(k:List (Int×d4)) (s:(ba->Option fZ)×List ba) (w:ba),((k.foldl pY s).1 w=s.1 w/\((s.1 w).isSome=true\/∀x∈k,x.2.name≠w))\/((s.1 w)=none/\∃x∈k,x.2.name=w/\(k.foldl pY s).1 w=some ⟨x.1,x.2, -1, -1⟩):=by
 intro k
 induction k with
 |nil=>intro s w;exact .inl ⟨rfl, .inr λ_ a=>by cases a⟩
 |cons x k aj=>
  intro s w
  rw[ZZ]
  by_cases aE:(s.1 x.2.name).isSome=true
  ·have D:pY s x=s:=by unfold pY;rw[Zu aE]
   rw[D]
   rcases aj s w with ⟨H,K⟩|⟨H,e,B,K,am⟩
   ·refine .inl ⟨H, ?_⟩
    rcases K with K|K
    ·exact .inl K
    ·by_cases br:x.2.name=w
     ·subst br;exact .inl aE
     ·refine .inr λe B=> ?_
      rcases Zr.1 B with rfl|B
      ·exact br
      ·exact K e B
   ·exact .inr ⟨H,e,Zn _ B,K,am⟩
  ·have D:pY s x=(λw=>if w=x.2.name then some ⟨x.1,x.2, -1, -1⟩else s.1 w,s.2++[x.2.name]):=by unfold pY;rw[Zg aE]
   rw[D]
   by_cases br:w=x.2.name
   ·subst br
    have aI:s.1 x.2.name=none:=by
     cases a:s.1 x.2.name with
     |none=>rfl
     |some v=>rw[a]at aE;exact absurd rfl aE
    refine .inr ⟨aI,x,Zt ..,rfl, ?_⟩
    rcases aj (λw=>if w=x.2.name then some ⟨x.1,x.2, -1, -1⟩else s.1 w,s.2++[x.2.name]) x.2.name with ⟨H,_⟩|⟨H,_⟩
    ·rw[H];simp
    ·simp at H
   ·rcases aj (λw=>if w=x.2.name then some ⟨x.1,x.2, -1, -1⟩else s.1 w,s.2++[x.2.name]) w with ⟨H,K⟩|⟨H,e,B,K,am⟩
    ·simp only[Zg br]at H K
     refine .inl ⟨H,K.imp id λK e B=> ?_⟩
     rcases Zr.1 B with rfl|B
     ·exact λD=>br D.symm
     ·exact K e B
    ·simp only[Zg br]at H
     exact .inr ⟨H,e,Zn _ B,K,am⟩
def NS{g:Go.aQ.Node}{w:ba}{v:fZ}(a:f2 g w=some v):∃x∈fv g,x.2.name=w/\x.1=v.kind:=by
 have aG:=NR g w
 rw[a]at aG
 unfold ol at aG
 rcases adc (fv g) (λ_=>none,[]) w with ⟨H,_⟩|⟨_,x,af,K,am⟩
 ·rw[H]at aG;simp at aG
 ·rw[am]at aG
  simp only[ZU,Zc,sO,YO]at aG
  exact⟨x,af,K,aG.1.symm⟩
def TF{g:Go.aQ.Node}{w:ba}(a:w∈mr g):(f2 g w).isSome=true:=by
 obtain⟨x,af,rfl⟩:=ZC.1 a
 have aG:=NR g x.2.name
 unfold ol at aG
 rcases adc (fv g) (λ_=>none,[]) x.2.name with ⟨H,K⟩|⟨_,e,B,K,am⟩
 ·rcases K with K|K
  ·cases K
  ·exact absurd rfl (K x af)
 ·rw[am]at aG
  have:=congrArg Option.isSome aG
  simpa using this
def TG{g:Go.aQ.Node}{w:ba}(a:(f2 g w).isSome=true):w∈mr g:=by
 obtain⟨v,bu⟩:=Option.isSome_iff_exists.1 a
 obtain⟨x,af,rfl,_⟩:=NS bu
 exact ZC.2 ⟨x,af,rfl⟩
def ael{g:Go.aQ.Node}(aH:(mr g).Nodup){x:Int×d4}(af:x∈fv g):∃v,f2 g x.2.name=some v/\v.kind=x.1:=by
 obtain⟨v,bu⟩:=Option.isSome_iff_exists.1 (TF (g:=g) (ZC.2 ⟨x,af,rfl⟩))
 obtain⟨e,B,aI,aG⟩:=NS bu
 obtain⟨i,aF,Mx⟩:=List.getElem_of_mem af
 obtain⟨Y,bD,abx⟩:=List.getElem_of_mem B
 have xI:i=Y:=by
  unfold mr at aH
  exact(List.getElem_inj (xs:=(fv g).map λx=>x.2.name) (h₀:=by simpa using aF) (h₁:=by simpa using bD) aH).1 (by simp only[List.getElem_map,Mx,abx,aI])
 subst xI
 have:x=e:=Mx.symm.trans abx
 subst this
 exact⟨v,bu,aG.symm⟩
def ala(nm:ba):∀(an dH:List Go.aQ.Node) (q:Nat),dH.map Go.aQ.Node.name=an.map Go.aQ.Node.name->lc nm q dH=lc nm q an:=by
 intro an
 induction an with
 |nil=>intro dH q a;rw[List.map_eq_nil_iff.1 a]
 |cons g an aj=>
  intro dH q a
  cases dH with
  |nil=>simp at a
  |cons eI dH=>
   simp only[ZJ,za]at a
   rw[lc,lc,aj dH _ a.2,a.1]
def ak9(nm:ba):∀(an k:List Go.aQ.Node) (q:Nat),lc nm q (an++k)=match lc nm q an with|some Y=>some Y|none=>lc nm (q+an.length) k:=by
 intro an
 induction an with
 |nil=>intro k q;rfl
 |cons g an aj=>
  intro k q
  rw[List.cons_append,lc,lc,aj]
  split
  ·rfl
  ·rw[Zz,show q+1+an.length=q+(an.length+1) by omega]
def Xo{nm:ba}:∀(an:List Go.aQ.Node) (q:Nat),(∃g∈an,g.name=nm)->∃Y,lc nm q an=some Y/\q<=Y/\Y<q+an.length:=by
 intro an
 induction an with
 |nil=>rintro q ⟨g,a,_⟩;cases a
 |cons E an aj=>
  rintro q ⟨g,bw,aI⟩
  rw[lc]
  by_cases D:E.name=nm
  ·rw[Zu D];exact⟨q,rfl,Zj _,Zs⟩
  ·rw[Zg D]
   rcases Zr.1 bw with rfl|bw
   ·exact absurd aI D
   ·obtain⟨Y,H,K,am⟩:=aj (q+1) ⟨g,bw,aI⟩
    exact⟨Y,H,Zo,by rw[Zz];omega⟩
def alb{nm:ba}:∀(an:List Go.aQ.Node) (q:Nat),lc nm q an=none->∀g∈an,g.name≠nm:=by
 intro an q a g bw D
 obtain⟨Y,H,_⟩:=Xo an q ⟨g,bw,D⟩
 rw[a]at H;cases H
def alc(nm:ba):∀(an:List Go.aQ.Node) (q:Nat),lc nm (q+1) an=(lc nm q an).map (·+1):=by
 intro an
 induction an with
 |nil=>intro q;rfl
 |cons g an aj=>intro q;rw[lc,lc,aj];split<;>rfl
def ajF{an:List Go.aQ.Node}:∀(k:List Go.aQ.Node) (q:Nat),(xb an q k).1=0↔∀(i:Nat) g,k[i]? =some g->(kU an (q+i) g).1=0:=by
 intro k
 induction k with
 |nil=>intro q;simp[xb]
 |cons E k aj=>
  intro q
  rw[xb]
  by_cases a:(kU an q E).1=0
  ·rw[Zg (by simp[a]),aj]
   constructor
   ·intro H i g aF
    cases i with
    |zero=>simp at aF;subst aF;exact a
    |succ i=>have:=H i g (by simpa using aF);rwa[show q+1+i=q+(i+1) by omega]at this
   ·intro H i g aF
    have:=H (i+1) g (by simpa using aF)
    rwa[show q+(i+1)=q+1+i by omega]at this
  ·rw[Zu a]
   exact⟨λD=>absurd D a,λH=>absurd (H 0 E rfl) a⟩
def ajE{an:List Go.aQ.Node}{c:Int}(aA:c≠0):∀(k:List Go.aQ.Node) (q Y:Nat) (g:Go.aQ.Node),(∀(i:Nat) E,i<Y->k[i]? =some E->(kU an (q+i) E).1=0)->k[Y]? =some g->(kU an (q+Y) g).1=c->(xb an q k).1=c:=by
 intro k
 induction k with
 |nil=>intro q Y g _ a;simp at a
 |cons E k aj=>
  intro q Y g H K am
  rw[xb]
  cases Y with
  |zero=>
   simp at K;subst K
   have am:(kU an q E).1=c:=am
   rw[Zu (by rw[am];exact aA)];exact am
  |succ Y=>
   have aC:(kU an q E).1=0:=H 0 E Zo rfl
   rw[Zg (by simp[aC])]
   refine aj (q+1) Y g (λi b aF al=> ?_) (by simpa using K) (by rw[show q+1+Y=q+(Y+1) by omega];exact am)
   have:=H (i+1) b Zo (by simpa using al)
   rwa[show q+(i+1)=q+1+i by omega]at this
def y2{an:List Go.aQ.Node}:(i6 an).1=0↔∀(i:Nat) g,an[i]? =some g->(kU an i g).1=0:=by
 unfold i6
 rw[ajF]
 simp
def KW{an:List Go.aQ.Node}{c:Int}(aA:c≠0){Y:Nat}{g:Go.aQ.Node}(H:∀(i:Nat) E,i<Y->an[i]? =some E->(kU an i E).1=0)(K:an[Y]? =some g)(am:(kU an Y g).1=c):(i6 an).1=c:=by
 unfold i6
 refine ajE aA an 0 Y g (λi E aF aD=>by simpa using H i E aF aD) K (by simpa using am)
def rR.abJ{an dH:List Go.aQ.Node}{q ey:Nat}{g:Go.aQ.Node}(a:rR an q g)(bi:(ke dH ey g).1=0)(bW:∀nm Y,iz an nm=some Y->Y<q->∃lB,iz dH nm=some lB/\lB<ey):rR dH ey g:=
 ⟨bi,a.nL,a.on,a.left,λai bG x af=>⟨(a.right ai bG x af).1,λaG=>by
  obtain⟨Y,H,K⟩:=(a.right ai bG x af).2 aG
  exact bW _ Y H K⟩⟩
def asy{an dH:List Go.aQ.Node}{q ey:Nat}{g eI:Go.aQ.Node}(a:(ke an q g).1=0)(bW:(iz an g.name).getD 0<q\/¬(iz dH eI.name).getD 0<ey):(ke dH ey eI).1=0:=by
 unfold ke at a ⊢
 rcases bW with bW|bW
 ·rw[Zu bW]at a
  exact absurd a (Ah _ _ Zd)
 ·rw[Zg bW]
def Nc{an dH:List Go.aQ.Node}(bW:∀nm,iz dH nm=iz an nm){q:Nat}{g:Go.aQ.Node}(a:(kU an q g).1=0):(kU dH q g).1=0:=by
 obtain⟨H,K⟩:=tM.1 a
 refine tM.2 ⟨H.abJ ?_ (λnm Y am aC=>⟨Y,by rw[bW];exact am,aC⟩),K⟩
 have:=H.aY
 unfold ke at this ⊢
 rw[bW];exact this
def nS(g:Go.aQ.Node)(k:List ee):Go.aQ.Node:=⟨g.name,g.at_,g.dg,g.out,g.loc,k⟩
def aek(g:Go.aQ.Node)(k:List ee):Hb (f2 g) (f2 (nS g k)):=λw=>by rw[NR,NR];rfl
def rR.eqs{an dH:List Go.aQ.Node}(bW:∀nm,iz dH nm=iz an nm){q:Nat}{g:Go.aQ.Node}(a:rR an q g){k:List ee}(aB:∀ai∈k,ai∈g.eqs)(aA:∀w,gk w (k.flatMap ee.left)<=gk w (mo g)):rR dH q (nS g k):=by
 have aE:=aek g k
 refine⟨?_,a.nL,λx af cE=>by rw[aE.some];exact a.on x af cE,λw br=> ?_,λai bG x af=> ?_⟩
 ·have:=a.aY
  unfold ke at this ⊢
  rw[bW];exact this
 ·obtain⟨ai,bG,DA⟩:=zp.1 br
  obtain⟨v,H,K,am⟩:=a.left w (zp.2 ⟨ai,aB ai bG,DA⟩)
  obtain⟨gj,aC,bm⟩:=aE.kind H
  refine⟨gj,aC,by rw[bm];exact K, ?_⟩
  have:=aA w
  show gk w (k.flatMap ee.left)<=1
  omega
 ·obtain⟨H,K⟩:=a.right ai (aB ai bG) x af
  exact⟨λaI=>by rw[aE.some];exact H aI,λaG=>by rw[bW];exact K aG⟩
def PT{an:List Go.aQ.Node}{Y:Nat}{g eI:Go.aQ.Node}(bw:an[Y]? =some g)(aI:eI.name=g.name)(nm:ba):iz (an.set Y eI) nm=iz an nm:=by
 refine ala nm an _ 0 ?_
 rw[List.map_set,aI]
 apply YW
 intro i
 rw[Yx]
 obtain⟨bD,oW⟩:=Zb.1 bw
 by_cases D:Y=i
 ·subst D
  simp[bD,oW]
 ·rw[Zg D]
def JR{an:List Go.aQ.Node}{Y i:Nat}{eI E:Go.aQ.Node}(aF:i<Y)(a:(an.set Y eI)[i]? =some E):an[i]? =some E:=by
 rw[Yx,Zg Zo]at a;exact a
def Tm{an:List Go.aQ.Node}{Y:Nat}{g eI:Go.aQ.Node}(bw:an[Y]? =some g):(an.set Y eI)[Y]? =some eI:=by
 obtain⟨bD,_⟩:=Zb.1 bw
 rw[Yx,Zu rfl,Zu bD]
section
variable{an:List Go.aQ.Node}{Y q:Nat}{g:Go.aQ.Node}{ai:ee}
def ajL(w:ba):∀(k:List ee) (q:Nat) (ai:ee),k[q]? =some ai->gk w (k.flatMap ee.left)=gk w ai.left+gk w ((k.eraseIdx q).flatMap ee.left):=by
 intro k
 induction k with
 |nil=>intro q ai a;simp at a
 |cons E k aj=>
  intro q ai a
  cases q with
  |zero=>simp at a;subst a;rw[List.eraseIdx_cons_zero,Yf,Hw]
  |succ q=>
   have:=aj q ai (by simpa using a)
   rw[List.eraseIdx_cons_succ,Yf,Yf,Hw,Hw,this]
   omega
def aru(dE:(i6 an).1=0)(bw:an[Y]? =some g)(bG:g.eqs[q]? =some ai)(aB:ai.left≠[]):(i6 (an.set Y (nS g (g.eqs.eraseIdx q)))).1=37:=by
 have hA:=y2.1 dE
 have bW:=PT (eI:=nS g (g.eqs.eraseIdx q)) bw rfl
 refine KW Zd (λi E aF aD=>Nc bW (hA i E (JR aF aD))) (Tm bw) ?_
 obtain⟨H,K⟩:=tM.1 (hA Y g bw)
 obtain⟨w,br⟩:=List.exists_mem_of_ne_nil _ aB
 have Dz:w∈mo g:=zp.2 ⟨ai,Zh bG,br⟩
 obtain⟨v,bS,ck,cM⟩:=H.left w Dz
 obtain⟨x,af,rfl,AP⟩:=NS bS
 have bt:=λw=>ajL w g.eqs q ai bG
 have FC:rR (an.set Y (nS g (g.eqs.eraseIdx q))) Y (nS g (g.eqs.eraseIdx q)):=H.eqs bW (λai bG=>List.mem_of_mem_eraseIdx bG) λw=>by
  have:=bt w
  have:=uk w ai.left
  show _<=gk w (g.eqs.flatMap ee.left)
  omega
 refine acZ (x:=x) FC af (by rw[AP];exact ck) ?_
 have am:=bt x.2.name
 have aC:=CA.2 br
 have bm:=uk x.2.name ((g.eqs.eraseIdx q).flatMap ee.left)
 have cM:gk x.2.name (g.eqs.flatMap ee.left)<=1:=cM
 show gk x.2.name ((g.eqs.eraseIdx q).flatMap ee.left)=0
 omega
def ash(dE:(i6 an).1=0)(bw:an[Y]? =some g)(bG:g.eqs[q]? =some ai)(aB:ai.left≠[]):(i6 (an.set Y (nS g (g.eqs++[ai])))).1=24:=by
 have hA:=y2.1 dE
 have bW:=PT (eI:=nS g (g.eqs++[ai])) bw rfl
 refine KW Zd (λi E aF aD=>Nc bW (hA i E (JR aF aD))) (Tm bw) ?_
 obtain⟨H,K⟩:=tM.1 (hA Y g bw)
 obtain⟨w,k,ts⟩:∃w k,ai.left=w::k:=by
  cases a:ai.left with
  |nil=>exact absurd a aB
  |cons w k=>exact⟨w,k,rfl⟩
 have Dz:w∈mo g:=zp.2 ⟨ai,Zh bG,by rw[ts];exact Zt ..⟩
 obtain⟨v,bS,ck,cM⟩:=H.left w Dz
 have aE:=aek g (g.eqs++[ai])
 obtain⟨gj,m1,fp⟩:=aE.kind bS
 generalize Fx:nS g (g.eqs++[ai])=eI at*
 have dJ:eI.eqs=g.eqs++[ai]:=by rw[<-Fx];rfl
 generalize axb:an.set Y eI=dH at*
 have ld:(g.eqs.foldl (jY (f2 eI) dH Y) (λ_=>none,pF (f2 eI) eI (ke dH Y eI))).2.1=0:=by
  have am:rR dH Y (nS g g.eqs):=H.eqs bW (λ_ a=>a) λ_=>Int.le_refl _
  have aI:ke dH Y eI=ke dH Y (nS g g.eqs):=by rw[<-Fx];rfl
  have aH:fv eI=fv g:=by rw[<-Fx];rfl
  rw[adH _ _ _ _ _ (λ_=>Zs)]
  refine⟨WO.2 ⟨by rw[aI];exact am.aY,by have:=am.nL;unfold mr at this ⊢;rw[aH];exact this,λx af cE=> ?_⟩,λw br=> ?_,λai bG x af=> ?_⟩
  ·rw[aH]at af
   have:=H.on x af cE.2
   rw[<-aE.some,cE.1]at this;cases this
  ·obtain⟨v,aM,be,bE⟩:=H.left w br
   obtain⟨NX,b3,ct⟩:=aE.kind aM
   exact⟨NX,b3,by rw[ct];exact be,by simpa[mo]using bE⟩
  ·obtain⟨aM,be⟩:=H.right ai bG x af
   exact⟨λaI=>by rw[aE.some];exact aM aI,λaG=>by rw[bW];exact be aG⟩
 have gf:((g.eqs.foldl (jY (f2 eI) dH Y) (λ_=>none,pF (f2 eI) eI (ke dH Y eI))).1 w).getD 0=gk w (mo g):=by
  rw[adG];simp[mo]
 have AJ:=CA.2 Dz
 have FC:(wk dH Y eI).2.1=24:=by
  unfold wk
  rw[dJ,zx,ZZ,List.foldl_nil]
  generalize g.eqs.foldl (jY (f2 eI) dH Y) (λ_=>none,pF (f2 eI) eI (ke dH Y eI))=s at ld gf ⊢
  obtain⟨E,rest,aoy⟩:∃E rest,oi ai=(w,E)::rest:=by
   unfold oi
   rw[ts,List.zipIdx_cons,ZJ]
   exact⟨_,_,rfl⟩
  have bm:((oi ai).foldl (lC (f2 eI)) s).2.1=24:=by
   rw[aoy,ZZ]
   have D:(lC (f2 eI) s (w,E)).2=(24,E):=by
    simp only[lC,Bh,m1]
    rw[Zu (.inr Zo)]
    unfold la
    rw[Zu ld]
   rw[acv _ _ _ (by rw[D];simp),D]
  simp only[jY]
  rw[adV _ (by rw[bm];decide)]
  exact bm
 rw[SJ,TM _ _ _ (by rw[FC];decide)]
 exact FC
def avQ(dE:(i6 an).1=0){eC:Go.aQ.Node}(sj:an[0]? =some eC):(i6 (an++[eC])).1=24:=by
 have hA:=y2.1 dE
 have bc:eC∈an:=Zh sj
 have eO:0<an.length:=List.length_pos_of_mem bc
 have bW:∀nm,iz (an++[eC]) nm=iz an nm:=λnm=>by
  unfold iz
  rw[ak9]
  cases a:lc nm 0 an with
  |some Y=>rfl
  |none=>
   have:=alb an 0 a eC bc
   simp[lc,this]
 refine KW (Y:=an.length) (g:=eC) Zd (λi E aF aD=>Nc bW (hA i E (by rw[ZI aF]at aD;exact aD))) Zs ?_
 have bi:iz an eC.name=some 0:=by
  cases an with
  |nil=>simp at sj
  |cons E k=>simp at sj;subst sj;unfold iz;rw[lc,Zu rfl]
 have aI:(ke (an++[eC]) an.length eC).1=24:=by
  unfold ke
  rw[bW,bi,Zu (by simpa using eO)]
  rfl
 have v2:(ke (an++[eC]) an.length eC).1≠0:=by rw[aI];decide
 rw[SJ]
 unfold wk
 have bB:=aj0 (t:=f2 eC) (g:=eC) v2
 rw[bB]
 have cp:=atJ (f2 eC) (an++[eC]) an.length eC.eqs (λ_=>none,ke (an++[eC]) an.length eC) v2
 rw[cp,TM _ _ _ v2]
 exact aI
def l8(g:Go.aQ.Node)(d:d4):Go.aQ.Node:=⟨g.name,g.at_,g.dg,g.out,g.loc++[d],g.eqs⟩
def aiQ(dE:(i6 an).1=0)(bw:an[Y]? =some g){d:d4}(mj:d.on=[])(gy:d.name∉mr g):(i6 (an.set Y (l8 g d))).1=37:=by
 have hA:=y2.1 dE
 have bW:=PT (eI:=l8 g d) bw rfl
 refine KW Zd (λi E aF aD=>Nc bW (hA i E (JR aF aD))) (Tm bw) ?_
 obtain⟨H,K⟩:=tM.1 (hA Y g bw)
 have bP:fv (l8 g d)=fv g++[(3,d)]:=by simp[fv,l8]
 have jd:mr (l8 g d)=mr g++[d.name]:=by unfold mr;rw[bP];simp
 have uM:(mr (l8 g d)).Nodup:=by
  rw[jd,List.nodup_append]
  exact⟨H.nL,Zs,λE aD b al=>by simp at al;subst al;exact λD=>gy (D▸aD)⟩
 have abq:∀w,(f2 g w).isSome=true->(f2 (l8 g d) w).isSome=true:=λw a=>TF (by rw[jd];exact List.mem_append_left _ (TG a))
 have aou:∀w∈mo g,w≠d.name:=λw br D=>by
  obtain⟨v,bS,_⟩:=H.left w br
  exact gy (D▸TG (by rw[bS];rfl))
 have FC:rR (an.set Y (l8 g d)) Y (l8 g d):=by
  refine⟨?_,uM,λx af cE=> ?_,λw br=> ?_,λai bG x af=> ?_⟩
  ·have:=H.aY
   unfold ke at this ⊢
   rw[bW];exact this
  ·rw[bP]at af
   rcases Zw.1 af with af|af
   ·exact abq _ (H.on x af cE)
   ·simp at af;subst af;exact absurd mj cE
  ·obtain⟨v,bS,ck,cM⟩:=H.left w br
   obtain⟨x,af,rfl,AP⟩:=NS bS
   obtain⟨gj,m1,fp⟩:=ael uM (x:=x) (by rw[bP];exact List.mem_append_left _ af)
   exact⟨gj,m1,by rw[fp,AP];exact ck,cM⟩
  ·obtain⟨aM,be⟩:=H.right ai bG x af
   exact⟨λaI=>abq _ (aM aI),λaG=>by rw[bW];exact be aG⟩
 refine acZ (x:=(3,d)) FC (by rw[bP];simp) (show(3:Int)≠1 by decide) ?_
 have am:¬0<gk d.name (mo g):=λD=>aou _ (CA.1 D) rfl
 have:=uk d.name (mo g)
 show gk d.name (mo g)=0
 omega
def sB(d:d4):d4:=⟨d.name,d.at_,d.ty,[],d.fT,false⟩
def sC(d:d4):ee:=⟨[d.name],[],0, .mk 2 0 d.name false dr 0 []⟩
def l2(g:Go.aQ.Node)(nm:ba):Go.aQ.Node:=⟨nm,g.at_,[],g.out.map sB,[],g.out.map sC⟩
def aiI(dE:(i6 an).1=0)(bw:g∈an){nm:ba}(gy:∀E∈an,E.name≠nm):(i6 (l2 g nm::an)).1=0:=by
 have hA:=y2.1 dE
 have aap:∀w,w≠nm->iz (l2 g nm::an) w=(iz an w).map (·+1):=λw br=>by
  unfold iz
  rw[lc,Zg (show ¬(l2 g nm).name=w from λD=>br D.symm),alc]
 have anY:iz (l2 g nm::an) nm=some 0:=by unfold iz;rw[lc,Zu (show(l2 g nm).name=nm from rfl)]
 refine y2.2 λi E aD=> ?_
 cases i with
 |zero=>
  simp at aD;subst aD
  obtain⟨i,aF,aoa⟩:=List.getElem_of_mem bw
  obtain⟨H,K⟩:=tM.1 (hA i g (by rw[Zf aF,aoa]))
  have bP:fv (l2 g nm)=g.out.map λd=>(2,sB d):=by simp[fv,l2,Function.comp_def]
  have jd:mr (l2 g nm)=g.out.map d4.name:=by
   unfold mr;rw[bP,YB];rfl
  have dY:mo (l2 g nm)=g.out.map d4.name:=by
   unfold mo l2
   simp only[List.flatMap_map]
   induction g.out with
   |nil=>rfl
   |cons d k aj=>rw[Yf,aj];rfl
  have uM:(g.out.map d4.name).Nodup:=by
   have am:=H.nL
   unfold mr fv at am
   rw[Yu,Yu]at am
   have aC:=(List.nodup_append.1 (List.nodup_append.1 am).2.1).1
   rw[YB]at aC
   exact aC
  have aA:∀w∈g.out.map d4.name,gk w (g.out.map d4.name)=1:=by
   generalize g.out.map d4.name=k at uM
   induction k with
   |nil=>intro w a;cases a
   |cons E k aj=>
    intro w br
    obtain⟨aM,be⟩:=zd.1 uM
    rw[y3]
    by_cases D:E=w
    ·subst D
     have bm:¬0<gk E k:=λD=>aM (CA.1 D)
     have:=uk E k
     rw[Zu rfl];omega
    ·rw[Zg D]
     rcases Zr.1 br with rfl|br
     ·exact absurd rfl D
     ·have:=aj be w br;omega
  have aaT:(mr (l2 g nm)).Nodup:=by rw[jd];exact uM
  refine tM.2 ⟨⟨?_,aaT,λx af cE=> ?_,λw br=> ?_,λai bG x af=> ?_⟩,λx af _=> ?_⟩
  ·unfold ke
   rw[Zg (Nat.not_lt_zero _)]
  ·rw[bP]at af
   obtain⟨d,_,rfl⟩:=ZC.1 af
   exact absurd rfl cE
  ·rw[dY]at br ⊢
   obtain⟨d,aH,rfl⟩:=ZC.1 br
   obtain⟨v,m1,fp⟩:=ael aaT (x:=(2,sB d)) (by rw[bP];exact ZC.2 ⟨d,aH,rfl⟩)
   exact⟨v,m1,by rw[fp];exact(by decide:(2:Int)≠1),by rw[aA _ br];exact Int.le_refl _⟩
  ·obtain⟨d,aH,rfl⟩:=ZC.1 (show ai∈g.out.map sC from bG)
   have af:x∈[bL.mk 2 0 d.name false dr 0 []]:=by
    have D:D6 (sC d).right=[bL.mk 2 0 d.name false dr 0 []]:=by simp only[sC];rw[D6,Gr]
    rw[D]at af;exact af
   simp at af;subst af
   exact⟨λ_=>TF (by rw[jd];exact ZC.2 ⟨d,aH,rfl⟩),λa=>absurd (show(2:Int)=25 from a) Zd⟩
  ·rw[bP]at af
   obtain⟨d,aH,rfl⟩:=ZC.1 af
   rw[dY,show(sB d).name=d.name from rfl,aA _ (ZC.2 ⟨d,aH,rfl⟩)]
   decide
 |succ i=>
  have aD:an[i]? =some E:=by simpa using aD
  obtain⟨H,K⟩:=tM.1 (hA i E aD)
  have ang:=gy E (Zh aD)
  refine tM.2 ⟨H.abJ ?_ (λw lB am aC=> ?_),K⟩
  ·refine asy (q:=i) (g:=E) H.aY ?_
   by_cases cJ:(iz an E.name).getD 0<i
   ·exact .inl cJ
   ·refine .inr ?_
    rw[aap _ ang]
    obtain⟨lB,am,_⟩:=Xo an 0 ⟨E,Zh aD,rfl⟩
    have am:iz an E.name=some lB:=am
    rw[am]at cJ ⊢
    simp only[YM,ZU]at cJ ⊢
    omega
  ·by_cases br:w=nm
   ·subst br;exact⟨0,anY,Nat.succ_pos _⟩
   ·exact⟨lB+1,by rw[aap _ br,am];rfl,Zo⟩
end
def acl:∀k:List ee,uZ k=none↔∀ai∈k,gm 201 ai.right<=200
 |[]=>by simp[uZ]
 |ai::k=>by
  rw[uZ]
  split
  ·rename_i a
   exact⟨λD=>(by cases D),λD=>zE (D ai (Zt ..))⟩
  ·rename_i a
   rw[acl k]
   refine⟨λq x af=> ?_,λq x af=>q x (Zn _ af)⟩
   rcases Zr.1 af with rfl|af
   ·omega
   ·exact q x af
def acm:∀k:List Go.aQ.Node,(∀g∈k,rP g)->pW k=none
 |[],_=>rfl
 |g::k,a=>by
  have bw:=a g (Zt ..)
  rw[pW]
  split
  ·rename_i H
   have:=bw.vars;have:=bw.eqs
   omega
  ·rw[(acl _).2 bw.high]
   exact acm k λx af=>a x (Zn _ af)
def Jk{an:List Go.aQ.Node}(a:an.length<=64)(aB:∀g∈an,rP g):pd an=none:=by
 unfold pd
 rw[ZW Zo]
 exact acm an aB
def asH:∀(k m:List ba),k.Nodup->(∀x∈k,x∈m)->k.length<=m.length:=by
 intro k
 induction k with
 |nil=>intro m _ _;exact zi _
 |cons E k aj=>
  intro m aH aE
  obtain⟨H,K⟩:=zd.1 aH
  have aD:=aE E (Zt ..)
  have am:=List.length_erase_of_mem aD
  have aC:=List.length_pos_of_mem aD
  have:=aj (m.erase E) K (λx af=>(List.mem_erase_of_ne (λD=>H (by rw[<-D];exact af))).2 (aE x (Zn _ af)))
  rw[Zz]
  omega
def ajM:∀k:List ba,(∀w∈k,gk w k<=1)->k.Nodup:=by
 intro k
 induction k with
 |nil=>intro _;simp
 |cons E k aj=>
  intro a
  refine zd.2 ⟨λbc=> ?_,aj λw br=> ?_⟩
  ·have:=a E (Zt ..)
   rw[y3,Zu rfl]at this
   have:=CA.2 bc
   omega
  ·have:=a w (Zn _ br)
   rw[y3]at this
   split at this<;>omega
def ali:∀k:List ee,(∀ai∈k,ai.left≠[])->k.length<=(k.flatMap ee.left).length:=by
 intro k
 induction k with
 |nil=>intro _;exact zi _
 |cons ai k aj=>
  intro a
  have:=aj λx af=>a x (Zn _ af)
  have:=ZH.2 (a ai (Zt ..))
  rw[Yf,ZG,Zz]
  omega
def akU{an:List Go.aQ.Node}{q:Nat}{g:Go.aQ.Node}(a:rR an q g)(aB:∀ai∈g.eqs,ai.left≠[])(bu:g.dg.length+g.out.length+g.loc.length<=256):g.eqs.length<=256:=by
 have H:=ali g.eqs aB
 have K:=asH (mo g) (mr g) (ajM _ λw br=>by obtain⟨_,_,_,a⟩:=a.left w br;exact a) λw br=>by
  obtain⟨v,bS,_⟩:=a.left w br
  exact TG (by rw[bS];rfl)
 have am:(mr g).length=g.dg.length+(g.out.length+g.loc.length):=by simp[mr,fv]
 unfold mo at K
 omega
def Co(s:ba):iP:={jO with N:=λnm=>qR nm/\nm<:+:s,aY:=λ_ a=>a.1.ne}
def avE{s:ba}{i:Nat}{x:Tok}(a:sL s i=some x)(H:x.kind=1):x.text<:+:s:=by
 unfold sL at a
 split at a
 ·cases a
 ·split at a
  ·unfold Br at a
   simp only[]at a
   split at a
   ·cases a
   ·split at a
    ·cases a;simp at H
    ·split at a
     ·split at a
      ·cases a;simp at H
      ·cases a
     ·cases a
  ·split at a
   ·split at a
    ·cases a
     exact(List.takeWhile_prefix _).isInfix.trans (List.drop_suffix ..).isInfix
    ·cases a
   ·cases aE:tX s i with
    |none=>rw[aE]at a;cases a
    |some p=>rw[aE]at a;cases a;simp[BQ]at H
def avD{s:ba}{i:Nat}{x:Tok}(a:sL s i=some x):yS (Co s) (lv x i):=
 have q:=aer a
 ⟨λaG=>⟨q.name aG,(show x.text<:+:s from avE a aG)⟩,q.type,q.num,q.lit,q.pos⟩
def avI{s:ba}:∀(n:Nat) (aU:List Tok) (i:Nat) (k3:List Tok),gv (Co s) aU->pr s n aU i=some (.ok k3)->gv (Co s) k3:=by
 intro n
 induction n with
 |zero=>intro aU i k3 _ a;cases a
 |succ n aj=>
  intro aU i k3 a8 a
  rw[pr]at a
  split at a
  ·split at a
   ·cases a
   ·rename_i x af
    refine aj _ _ _ ?_ a
    intro e B
    rcases Zw.1 B with B|B
    ·exact a8 e B
    ·simp at B;subst B;exact avD af
  ·cases a
   intro e B
   rcases Zw.1 B with B|B
   ·exact a8 e B
   ·simp at B;subst B;exact⟨λa=>by simp at a,λa=>by simp at a,λa=>by simp at a,λa=>by simp at a,λ_=>trivial⟩
def ath{s:ba}{an:List Go.aQ.Node}(a:rv s= .ok an):∀g∈an,ls (Co s) g:=by
 unfold rv at a
 split at a
 ·rename_i r V
  subst a
  unfold yh at V
  split at V
  ·cases V
  ·cases V
  ·rename_i aU a8
   have IT:gv (Co s) aU:=avI _ _ _ _ (λ_ a=>by cases a) a8
   split at V
   ·cases V
   ·cases V
   ·rename_i dH k aI
    obtain⟨H,K⟩:=ac1 (bv:=Co s) _ _ _ IT (λ_ a=>by cases a) _ _ aI
    split at V
    ·cases V
    ·cases V
     exact K.1
 ·cases a
def Xy{s:ba}{g:Go.aQ.Node}(a:ls (Co s) g){nm:ba}(aI:¬nm<:+:s):g.name≠nm/\nm∉mr g:=by
 refine⟨λD=>aI (D▸a.name.2),λbc=> ?_⟩
 obtain⟨x,af,rfl⟩:=ZC.1 bc
 rcases W5 af with ⟨_,af⟩|⟨_,af⟩|⟨_,af⟩
 ·exact aI (a.dg _ af).name.2
 ·exact aI (a.out _ af).name.2
 ·exact aI (a.loc _ af).name.2
def atI{n:Nat}(H:1<=n)(K:n<=32):qR (List.replicate n 113):=by
 obtain⟨m,rfl⟩:∃m,n=m+1:=⟨n-1,Zo⟩
 rw[List.replicate_succ]
 refine⟨Zs,Zx,λc aA=> ?_,λc aA=> ?_, ?_, ?_⟩
 ·simp at aA;subst aA;rfl
 ·have:c=113:=by
   rcases Zr.1 aA with rfl|aA
   ·rfl
   ·exact(List.mem_replicate.1 aA).2
  subst this;rfl
 ·simp[tS]
 ·cases a8:k2 (113::List.replicate m 113)with
  |none=>rfl
  |some t=>
   have:=(GI a8 Zs).1
   omega
def ac0{g:Go.aQ.Node}(a:ls jO g){k:List ee}(aB:∀ai∈k,ai∈g.eqs):ls jO (nS g k):=⟨a.name,a.dg,a.out,a.loc,a.some,λai bG=>a.eqs ai (aB ai bG),a.ap⟩
def tI(nm:ba):d4:=⟨nm,0,⟨false,false,1⟩,[],0,false⟩
def asB{g:Go.aQ.Node}(a:ls jO g){nm:ba}(aI:qR nm):ls jO (l8 g (tI nm)):=
 ⟨a.name,a.dg,a.out,λd aH=>by
  rcases Zw.1 (show d∈g.loc++[tI nm] from aH)with aH|aH
  ·exact a.loc d aH
  ·simp at aH;subst aH
   exact⟨aI,(by decide:kB ⟨false,false,1⟩=true),λD=>absurd rfl D,λ_=>rfl,trivial,trivial⟩,a.some,a.eqs,a.ap⟩
def asC{g:Go.aQ.Node}(a:ls jO g){nm:ba}(aI:qR nm):ls jO (l2 g nm):=by
 refine⟨aI,λd aH=>(by cases aH),λd aH=> ?_,λd aH=>(by cases aH),λD=>a.some (by simpa[l2]using D),λai bG=> ?_,a.ap⟩
 ·obtain⟨kq,H,rfl⟩:=ZC.1 (show d∈g.out.map sB from aH)
  have q:=a.out kq H
  exact⟨q.name,q.type,λD=>absurd rfl D,λ_=>rfl,trivial,trivial⟩
 ·obtain⟨kq,H,rfl⟩:=ZC.1 (show ai∈g.out.map sC from bG)
  have q:=a.out kq H
  exact⟨λs aE=>by simp[sC]at aE;subst aE;exact q.name,λD=>by simp[sC]at D,aeM q.name trivial,trivial,λ_ _=>trivial⟩
def acn{g:Go.aQ.Node}(a:rP g){k:List ee}(aB:∀ai∈k,ai∈g.eqs)(aI:k.length<=4096):rP (nS g k):=⟨a.vars,aI,λai bG=>a.high ai (aB ai bG)⟩
def aco{g:Go.aQ.Node}(a:rP g)(d:d4)(aI:g.dg.length+g.out.length+g.loc.length<256):rP (l8 g d):=⟨by simp only[l8,ZG,Zz,ZY];omega,a.eqs,a.high⟩
def arG{g:Go.aQ.Node}(a:rP g)(nm:ba):rP (l2 g nm):=by
 have:=a.vars
 refine⟨by simp only[l2,Zp,ZY];omega,by simp only[l2,Zp];omega,λai bG=> ?_⟩
 obtain⟨kq,H,rfl⟩:=ZC.1 (show ai∈g.out.map sC from bG)
 show gm 201 (.mk 2 0 kq.name false dr 0 [])<=200
 have D:gm (200+1) (.mk 2 0 kq.name false dr 0 [])=1:=by rw[gm];rfl
 rw[show(201:Nat)=200+1 from rfl,D]
 decide
def Gd{an:List Go.aQ.Node}{Y:Nat}{eI x:Go.aQ.Node}(a:x∈an.set Y eI):x∈an\/x=eI:=YU a
def Tn{an:List Go.aQ.Node}{Y:Nat}{eI:Go.aQ.Node}(a:an≠[]):an.set Y eI≠[]:=λD=>a (Yb (by have:=congrArg List.length D;rw[Yo]at this;exact this))
section
variable{X:cl}{h R fg aX aP:M ak}{j au aM be:Nat}{s:ba}
def GN(c:M y)(E b:y):(d3 c 0 [E,b]).get 0=some E:=by rw[pt];simp
def GO(c:M y)(E b:y):(d3 c 0 [E,b]).get 1=some b:=by rw[pt];simp
set_option maxRecDepth 100000 in
def ajG(az:f5 X)(bP:kl X)(c2:km X)(hP:mb X){P:Nat->Prop}{an:List Go.aQ.Node}{v:y}(aI:(o X).aY<=j)(bw:lL X h P an v)(bI:∀e,P e->e<j)(br:∀g∈an,ls jO g)(bi:an≠[])(aB:pd an=none):
 a1 X 7 [v] h j (λab R au=>ab= .agg [.Z (i6 an).1, .Z (i6 an).2]/\bp X h j R au) (λ_ _ _=>False):=by
 refine zL az.todW (Vr X) ?_
 rw[Vs]
 unfold OK
 obtain⟨h0,gI⟩:=wh aB
 refine r0 ?_
 generalize eN:bl X h j _=aX
 have g1:∃c,Z X aX j=some (.cells c 2 .own):=⟨_,by rw[<-eN,bn aI];rfl⟩
 have bY:bp X h j aX (j+1):=by rw[<-eN];exact dM
 clear eN
 have sv:∀e,P e->Z X aX e=Z X h e:=λe B=>bY.ad e (bI e B)
 refine(alw (j:=j+1) (h:=aX) az bP c2 hP Zo (bw.ad (Q:=P) sv (λ_ a=>a)) (λe B=>zE (bI e B)) br bi aB).Zm ?_
 rintro ab aP be ⟨rfl,b6⟩
 have f1:=b6.le
 rw[<-b6.ad _ Zo]at g1
 have mB:=bY.trans b6
 obtain⟨b,a2,cn,aK,rfl,al,a0,c3,lZ⟩:=id bw
 have gp:=lZ.wide
 have er:=c3.len
 rw[gp.1]at er
 have f0:=bI b al
 have bo:decide ((0:Int)≠0)=false:=rfl
 rw[<-mB.fm _ _ f0]at a0
 refine eP @bo @a0 @er ⟨?_⟩
 refine gK (λm I R aS=>∃(Y:Nat),I.g 0=some (.ptr b 0)/\I.g 2=some (.ptr j 0)/\I.g 13=some a2/\I.g 14=some (.Z (an.length:Int))/\I.g 15=some (.Z (Y:Int))/\Y+m=an.length/\bp X h j R aS/\j<aS/\(∃c,Z X R j=some (.cells c 2 .own))/\i6 an=xb an Y (an.drop Y))
  an.length ⟨0,bF,bF,bF,bF,ho,Zo,mB,Zo,g1,rfl⟩ ?_
 rintro m I bf bE ⟨Y,t0,eR,nn,ov,Ei,bD,cq,rf,⟨gD,cR⟩,mi⟩
 have jE:=cq.le
 cases m with
 |zero=>
  have d:=zF Y an.length
  rw[ZR Zo]at mi
  refine kr @Ei @ov @eR @d @GN @GO ⟨?_⟩
  refine⟨by rw[mi];rfl, ?_⟩
  exact⟨Zo,λe B=>by rw[aL Zo Zo];exact cq.ad e B⟩
 |succ m=>
  have d:=zG Y an.length
  have bB:=zJ Y
  obtain⟨g,oW⟩:=zH an Y
  have hp:=Zh oW
  have aH:an.drop Y=g::an.drop (Y+1):=by
   obtain⟨af,B⟩:=Zb.1 oW
   rw[ZA af,B]
  rw[aH,xb]at mi
  obtain⟨row,d2,hh⟩:=lZ.get Y g oW
  have pV:∀e,P e->Z X bf e=Z X h e:=λe B=>cq.ad e (bI e B)
  have di:=c3.g2 Y (by rw[gp.1];omega)
  have kP:=(c3.ad pV).row Zd d2
  have li:=hh.iI
  have Dh:=hh
  obtain⟨cW,cO,po,dF,b4,cr,cS,fh,fV,rfl,_⟩:=hh
  refine kr @Ei @ov @nn @d @di @kP ⟨?_⟩
  refine gi (jJ (q:=6) (b:=bE) (W:=0) (n:=6) (c:=M.ofList [.str [], .Z 0, .aW, .aW, .aW, .aW] 0 .nil) (bn Zo) Zo rfl Zd Zd li) ?_
  generalize iC:bl X _ bE _=bT
  have ep:Z X bT bE=zI [.str g.name, .Z g.at_,cW,cO,po,dF] 6:=by rw[<-iC,bn Zo];rfl
  have eL:∀e,e<bE->Z X bT e=Z X bf e:=λe B=>by rw[<-iC];exact zK
  clear iC
  have dA:bp X h j bT (bE+1):=⟨Zo,λe B=>by rw[eL e Zo];exact cq.ad e B⟩
  rw[<-eL _ Zo]at cR
  refine dq @t0 (bU ep) ⟨?_⟩
  refine(asM (j:=bE+1) (h:=bT) az.todW Zo (λe B=>zE (bI e B)) (Dh.ad (Q:=P) (λe B=>dA.ad e (bI e B)) (λ_ a=>a)) (by rw[W6];have:=(gI g hp).vars;simp only[tN];omega)).Zm ?_
  rintro ab bZ ct ⟨dK,nf,va,dh,rfl,mK,IB,cF,cH,d7,fU,dC⟩
  have hQ:=dC.le
  have amP:bp X h j bZ ct:=dA.trans (dC.tJ Zo)
  rw[<-dC.ad _ Zo]at cR
  refine dq @t0 @Ei ⟨?_⟩
  generalize hX:bl X _ (ct+1) _=b9
  have dU:Z X b9 (ct+1)=zI [.ptr b 0, .Z (Y:Int), .ptr dK 0, .map ct, .Z 0, .Z 0] 6:=by rw[<-hX,bn Zo];rfl
  have eu:Z X b9 ct=some (.map [] 0):=by rw[<-hX];simp(disch:=omega) only[aL,bn]
  have eY:bp X bZ ct b9 (ct+1+1):=by rw[<-hX];exact dM
  clear hX
  have XZ:bp X h j b9 (ct+1+1):=amP.trans (eY.tJ Zo)
  rw[<-eY.ad _ Zo]at cR
  have e0:∀e,(P e\/ei (bE+1) ct e)->e<ct+1+1/\e≠ct+1/\e≠ct:=by
   rintro e (B|B)
   ·have:=bI e B;omega
   ·have:=B.2;omega
  refine(ajH (j:=ct+1+1) (h:=b9) (P:=λe=>P e\/ei (bE+1) ct e) (q:=Y) (an:=an) (g:=g) (dK:= .ptr dK 0) az.todW Zo Zo Zo Zo Zo Zo e0
   (bw.ad (λe B=>XZ.ad e (bI e B)) (λ_ a=> .inl a)) oW ⟨dK,nf,rfl, .inr mK, .inr IB,by rw[eY.fm _ _ (zE mK.2)];exact cF,cH.ad (eY.ad _ IB.2)⟩ dU ⟨[],0,eu,λ_=>rfl⟩).Zm ?_
  rintro ab cm en ⟨rfl,AA,re,pO⟩
  have e6:bp X h j cm en:=⟨Zo,λe B=>by rw[pO e Zo Zo Zo];exact XZ.ad e B⟩
  rw[<-pO _ Zo Zo Zo]at cR
  have f4:aV X cm (.ptr (ct+1) 4)=some (.Z (kU an Y g).1):=by unfold fP at AA;rw[bU AA];rfl
  have m5:aV X cm (.ptr (ct+1) 5)=some (.Z (kU an Y g).2):=by unfold fP at AA;rw[bU AA];rfl
  by_cases cf:(kU an Y g).1=0
  ·have CG:decide ((kU an Y g).1≠0)=false:=by simp[cf]
   rw[Zg (by simp[cf])]at mi
   refine g6 @f4 @CG @Ei @bB ⟨?_⟩
   exact⟨m,Zo,Y+1,bz t0,bz eR,bz nn,bz ov,bF,Zo,e6,Zo,⟨gD,cR⟩,mi⟩
  ·have CG:decide ((kU an Y g).1≠0)=true:=by simp[cf]
   rw[Zu cf]at mi
   have mF:dT X cm 2 (.ptr (ct+1) 4)=some (.agg [.Z (kU an Y g).1, .Z (kU an Y g).2]):=by rw[tD,f4,m5];rfl
   refine kr @f4 @CG @mF @eR @GN @GO ⟨?_⟩
   refine⟨by rw[mi], ?_⟩
   exact⟨Zo,λe B=>by rw[aL Zo Zo];exact e6.ad e B⟩
end
end
end Go.Proofs.YtbbkkkpgjaopkaaGreatDoor

namespace Go.bs
open Go.aQ
noncomputable section
section
variable{C:aT}{h R:M ak}{j:Nat}
def hd.app{ek:Nat->Prop}{b aN q:Nat}{a2 x:y}{aK fV:List (List y)}(a:hd C h ek b a2 aN aK)(cf:0<aN)(af:hI C h aN x=some (q,fV.flatten))(br:∀r∈fV,r.length=aN)(aG:0<fV.length)(pP:fV.length=q)(H:iI fV.flatten=true)
 (al:(aK.length+fV.length)*aN<=1048576)(bc:aK.length+fV.length<=300000)(aI:C.aY<=j)(cJ:∀e,ek e->e<j):
 ∃fc R cQ,ju C h j aN a2 x=some (.fq fc R (j+1))/\et C R (λe=>ek e\/e=j) cQ fc aN (aK++fV)/\∀e,e≠j->¬ek e->Z C R e=Z C h e:=by
 obtain⟨cy,jF,hY⟩:=a.ap
 subst pP
 obtain⟨fc,R,hS,K,am,aC,bm⟩:=jF.append (j:=j) cf af (mf br) aG H (by rw[mf a.rd.wide,mf br, <-ZV];exact al) aI (λe B=>cJ e (hY e B))
 rw[<-YI]at am
 obtain⟨cQ,b1⟩:=am.wv cf (λr V=>(Zw.1 V).elim (a.rd.wide r) (br r)) (by rw[ZG];exact bc) (P:=λe=>ek e\/e=j) (λe B=>(aC e B).elim .inr λa=> .inl (hY e a))
 exact⟨fc,R,cQ,K,b1,λe df ev=>bm e df λhN=>ev (hY e hN)⟩
def acf(q m d:Nat):nK (some (.int .i64 (q:Int))) m d=if q<=m then some q else none:=by
 have a:ng (.int .i64 (q:Int))=some q:=rfl
 unfold nK
 simp only[a]
 rw[eQ]
 by_cases ai:q<=m
 ·rw[Zu (jP ai),Zu ai]
 ·rw[Zg (λD=>ai (h4 D)),Zg ai]
def Wu{len cap q:Nat}(a:q<=cap):md len cap none (some (.int .i64 (q:Int))) (some (.int .i64 (q:Int)))=some (0,q,q):=by
 unfold md
 simp only[acf,Zu a,Zu (Zj q)]
 rfl
def O9{len cap q:Nat}(a:q<=len):md len cap (some (.int .i64 (q:Int))) none none=some (q,len,cap):=by
 have bB:nK none cap cap=some cap:=rfl
 have cp:nK none cap len=some len:=rfl
 unfold md
 simp only[bB,cp,acf,Zu a]
def alh{aN:Nat}:∀(aK:List (List y)),(∀r∈aK,r.length=aN)->∀q,aK.flatten.drop (q*aN)=(aK.drop q).flatten:=by
 intro aK
 induction aK with
 |nil=>intro _ q;simp
 |cons E aK aj=>
  intro br q
  cases q with
  |zero=>simp
  |succ q=>
   have aD:=br E (Zt ..)
   rw[ZL,Yh, <-aj (λr V=>br r (Zn _ V)) q,show(q+1)*aN=E.length+q*aN by rw[aD,ZV];omega,List.drop_length_add_append]
def alk{aN:Nat}:∀(aK:List (List y)),(∀r∈aK,r.length=aN)->∀q,aK.flatten.take (q*aN)=(aK.take q).flatten:=by
 intro aK
 induction aK with
 |nil=>intro _ q;simp
 |cons E aK aj=>
  intro br q
  cases q with
  |zero=>simp
  |succ q=>
   have aD:=br E (Zt ..)
   rw[ZL,Yd,ZL, <-aj (λr V=>br r (Zn _ V)) q,show(q+1)*aN=E.length+q*aN by rw[aD,ZV];omega,List.take_length_add_append]
def hd.ends{ek:Nat->Prop}{b aN:Nat}{a2:y}{aK:List (List y)}(a:hd C h ek b a2 aN aK)(cf:0<aN){q:Nat}(aG:q<aK.length):
 ∃x,nN C h aN a2 none (some (.int .i64 (q:Int))) (some (.int .i64 (q:Int)))=some (.slice b 0 q q)/\nN C h aN a2 (some (.int .i64 ((q+1:Nat):Int))) none none=some x/\hI C h aN x=some (aK.length-(q+1),(aK.drop (q+1)).flatten)/\ix C h b 0 (q*aN)=some (aK.take q).flatten:=by
 have br:=a.rd.wide
 have dY:=mf br
 have di:=a.rd.g2 0 Zo
 have aH:=alh aK br (q+1)
 have a8:=alk aK br q
 have Rk:q*aN<=aK.length*aN:=Nat.mul_le_mul_right aN Zo
 have mE:(q+1)*aN+(aK.length-(q+1))*aN=aK.length*aN:=by rw[<-ZV];congr 1;omega
 obtain⟨cy,jF,hY⟩:=a.ap
 rcases jF with (⟨_,cp,_⟩|⟨cQ,ez,m,c,rfl,cD,rfl,fl,fG,kz,kA⟩)|⟨cQ,m,c,st,rfl,cD,rfl,fl,fG,rfl,fb⟩
 ·rw[cp]at dY
  have:0<aK.length*aN:=Nat.mul_pos Zo cf
  simp at dY;omega
 ·have bc:m=aK.length:=Z0 cf (by rw[<-cD,dY])
  subst bc
  rw[DD _ Zo]at di
  simp only[Zc,y.ptr.injEq]at di
  obtain⟨rfl,_⟩:=di
  have aE:u9 C h cQ=some (aK.length*aN):=by simp[u9,kz]
  have aac:(aK.length*aN-0)/aN=aK.length:=by rw[YN,zt _ cf]
  have bB:(Nat.beq aN aN&&Nat.blt 0 aN)=true:=by simp[Ws cf]
  have pJ:ix C h cQ 0 (q*aN)=some (aK.take q).flatten:=by
   simp only[ix,cellsOf,kz]
   rw[xr kA _ _ Zo, <-a8];rfl
  have Mt:nN C h aN (.ej cQ 0 aK.length aN) none (some (.int .i64 (q:Int))) (some (.int .i64 (q:Int)))=some (.slice cQ 0 q q):=by
   simp only[nN,aE,bB,eW,aac,Wu (Y0 aG)]
   rw[eQ]
   simp
  by_cases cJ:q+1<aK.length
  ·refine⟨.ej cQ (0+(q+1)*aN) (aK.length-(q+1)) aN,Mt, ?_, ?_,pJ⟩
   ·simp only[nN,aE,bB,eW,aac,O9 (Y0 cJ),Ws cJ,Bool.true_or]
   ·simp only[hI,ix,cellsOf,kz]
    rw[xr kA _ _ Zo,ZP,aH, <-aH,ZQ (by rw[Ye];omega)]
  ·have bt:aK.length=q+1:=Zo
   refine⟨.wA cQ (q+1) aN,Mt, ?_, ?_,pJ⟩
   ·have cF:Nat.blt (q+1) (q+1)=false:=by
     cases ai:Nat.blt (q+1) (q+1)with
     |false=>rfl
     |true=>have:=j4 ai;omega
    have cH:Nat.beq (q+1) 0=false:=rfl
    have d7:(Nat.beq 0 0&&Nat.beq (q+1) (q+1))=true:=by simp
    have anG:((q+1)*aN-0)/aN=q+1:=by rw[YN,zt _ cf]
    rw[bt]at aE ⊢
    simp only[nN,aE,bB,eW,anG,O9 (Zj (q+1)),cF,cH,d7,Bool.or_self,kp]
   ·rw[ZR Zo,bt,zl];rfl
 ·have bc:m=aK.length:=Z0 cf (by rw[<-cD,dY])
  subst bc
  rw[A0 _ Zo]at di
  simp only[Zc,y.ptr.injEq]at di
  obtain⟨rfl,_⟩:=di
  have pJ:ix C h cQ 0 (q*aN)=some (aK.take q).flatten:=by
   simp only[ix,cellsOf,fl]
   rw[xr fG _ _ Zo, <-a8];rfl
  refine⟨.slice cQ (bH (Nat.beq aK.length (q+1)) 0 (0+(q+1)*aN)) (aK.length-(q+1)) (aK.length-(q+1)), ?_, ?_, ?_,pJ⟩
  ·simp only[nN,Wu (Y0 aG)]
   rw[eQ]
   simp
  ·simp only[nN,O9 (show q+1<=aK.length from aG)]
  ·rw[hn]
   simp only[hI,ix,cellsOf,fl]
   by_cases bt:aK.length=q+1
   ·rw[Zu bt,bt,zl,Y1,ZR Zo]
    rfl
   ·rw[Zg bt,xr fG _ _ Zo,ZP,aH, <-aH,ZQ (by rw[Ye];omega)]
def hd.cut{ek:Nat->Prop}{b aN:Nat}{a2 x:y}{aK:List (List y)}(a:hd C h ek b a2 aN aK)(cf:0<aN){q:Nat}(aG:q<aK.length)(af:hI C h aN x=some (aK.length-(q+1),(aK.drop (q+1)).flatten))(aA:ix C h b 0 (q*aN)=some (aK.take q).flatten)
 (al:aK.length<=1048576)(aI:C.aY<=j):
 ∃fc R aS cQ,(∀ah:bQ,ah fc R aS->hu (ju C h j aN (.slice b 0 q q) x) h j ah)/\j<=aS/\aS<=j+1/\et C R (λe=>ek e\/(j<=e/\e<aS)) cQ fc aN (aK.eraseIdx q)/\∀e,e≠j->Z C R e=Z C h e:=by
 have br:=a.rd.wide
 rw[List.eraseIdx_eq_take_drop_succ]
 by_cases bt:aK.length=q+1
 ·refine⟨.slice b 0 q q,h,j,b,λah hF=> ?_,Zj _,Zo, ?_,λ_ _=>rfl⟩
  ·have:ju C h j aN (.slice b 0 q q) x=some (.val (.slice b 0 q q)):=by
    simp only[ju,af]
    rw[hn,Zu Zo]
    simp only[Cs,jP (Zj q),eW]
   rw[this,at0];exact hF
  ·rw[ZR Zo,Yn]
   have eO:(aK.take q).length=q:=by rw[YF];omega
   have Z:∀(i:Nat) r,(aK.take q)[i]? =some r->aK[i]? =some r:=λi r aF=>by
    rw[List.getElem?_take]at aF
    split at aF
    ·exact aF
    ·cases aF
   refine⟨λcE=> .inl (a.rd.al λD=>by rw[D]at aG;simp at aG),by have:=a.rd.many;rw[eO];omega,λr V=>br r (Yr V),by rw[eO];exact rk ..,λi aF=>by rw[A0 _ Zo,ZP],λi r Y v aF bD=>a.rd.cell i r Y v (Z i r aF) bD⟩
 ·have bc:0<aK.length-(q+1):=Zo
  have ap4:∀r∈aK.take q++aK.drop (q+1),r.length=aN:=λr V=>(Zw.1 V).elim (λa=>br r (Yr a)) (λa=>br r (YP a))
  have m9:=mf (λr V=>br r (Yr V)) (aK:=aK.take q)
  have h0:=mf (λr V=>br r (YP V)) (aK:=aK.drop (q+1))
  rw[YF,Nat.min_eq_left Zo]at m9
  rw[Ye]at h0
  have Dv:((aK.take q).flatten++(aK.drop (q+1)).flatten).length=(q+(aK.length-(q+1)))*aN:=by rw[ZG,m9,h0,ZV]
  have anj:ju C h j aN (.slice b 0 q q) x=some (.fq (.ej j 0 (q+(aK.length-(q+1))) aN) (bl C h j (some (.cells (M.ofList ((aK.take q).flatten++(aK.drop (q+1)).flatten) 0 .nil) ((aK.take q).flatten++(aK.drop (q+1)).flatten).length (.grow [])))) (j+1)):=by
   simp only[ju,af]
   rw[hn,Zg Zo]
   have Il:Nat.ble (q+(aK.length-(q+1))) q=false:=by
    cases bG:Nat.ble (q+(aK.length-(q+1))) q with
    |false=>rfl
    |true=>exact absurd (h4 bG) Zo
   have jp:q+(aK.length-(q+1))<=1048576:=Zo
   simp only[vr,Il,kp,aA,sa,jP jp,eW,mQ,lT,g5]
  have hP:ib C (bl C h j (some (.cells (M.ofList ((aK.take q).flatten++(aK.drop (q+1)).flatten) 0 .nil) ((aK.take q).flatten++(aK.drop (q+1)).flatten).length (.grow [])))) (.ej j 0 (q+(aK.length-(q+1))) aN) aN (aK.take q++aK.drop (q+1)).flatten [j]:=by
   rw[YI]
   exact .inr ⟨j,[],_,_,rfl,Dv,rfl,by simpa using aI,Zs,by rw[bn aI,Dv],lk _⟩
  obtain⟨cQ,b1⟩:=hP.wv cf ap4 (by have:=a.rd.many;rw[ZG,YF,Ye];omega) (P:=λe=>ek e\/(j<=e/\e<j+1)) (λe B=> .inr (by simp at B;omega))
  exact⟨_,_,_,cQ,λah hF=>kh anj hF,Zo,Zj _,b1,λe B=>aL aI B⟩
end
end
end Go.bs

namespace Go.Proofs.YtbbkkkpgjaopkaaGreatDoor
open Go.bs Go.aQ
noncomputable section
section
variable{X:cl}{h R aX aP:M ak}{j au aM be:Nat}{P:Nat->Prop}
def nW.No{h:M ak}:∀{b8:List Go.aQ.Node}{aK:List (List y)}{P:Nat->Prop},nW X h P b8 aK->∀(i:Nat) ai,b8[i]? =some ai->∃row Q,aK[i]? =some row/\(∀e,Q e->P e)/\wU X h Q ai row/\∀(R:M ak) (hK:Nat->Prop) p2 mw,(∀e,P e->¬Q e->Z X R e=Z X h e)->(∀e,P e->hK e)->lr X R hK p2 mw->mZ X R hK (b8.set i p2) (aK.set i mw):=by
 intro b8
 induction b8 with
 |nil=>intro aK P _ i ai a;simp at a
 |cons E b8 aj=>
  rintro aK P ⟨row,fV,eE,rfl,bG,K,am⟩ i ai aF
  cases i with
  |zero=>
   simp at aF;subst aF
   exact⟨row,eE,rfl,bG,K,λR hK p2 mw aG bI bt=>⟨mw,fV,rfl,bt,am.nodes.ad (λe B=>aG e B.1 B.2) (λe B=>bI e B.1)⟩⟩
  |succ i=>
   simp at aF
   obtain⟨w,Q,aC,bm,b1,df⟩:=aj am i ai aF
   exact⟨w,Q,by simpa using aC,λe B=>(bm e B).1,b1,λR hK p2 mw aG bI bt=>⟨row,fV.set i mw,rfl,K.row.ad (λe B=>aG e (bG e B) (λe0=>(bm e e0).2 B)) (λe B=>bI e (bG e B)),df R hK p2 mw (λe B aI=>aG e B.1 aI) (λe B=>bI e B.1) bt⟩⟩
structure qS(X:cl)(h:M ak)(P:Nat->Prop)(an:List Go.aQ.Node)(ai:Nat)(ah:Nat->Nat)(cn:Nat)(a2:y)(aK:List (List y)):Prop where
 al:P ai/\ah ai=1
 nc:aV X h (.ptr ai 0)=some a2
 iK:hd X h (λe=>P e/\ah e=2) cn a2 6 aK
 hj:nW X h (λe=>P e/\ah e=0) an aK
 own:yK X h ai 1
def rU.parts{an:List Go.aQ.Node}{v:y}(a:rU X h P an v):∃ai ah cn a2 aK,v= .ptr ai 0/\qS X h P an ai ah cn a2 aK:=by
 obtain⟨ah,b,a2,cn,aK,D,H,K,am,aC,bm⟩:=a
 exact⟨b,ah,cn,a2,aK,D,H,K,am,aC,bm⟩
def qS.ad{an:List Go.aQ.Node}{ai:Nat}{ah:Nat->Nat}{cn:Nat}{a2:y}{aK:List (List y)}(a:qS X h P an ai ah cn a2 aK)(q:∀e,P e->Z X R e=Z X h e):qS X R P an ai ah cn a2 aK:=
 ⟨a.al,zP (q _ a.al.1) a.nc,a.iK.ad λe B=>q e B.1,a.hj.ad (λe B=>q e B.1) (λ_ a=>a),a.own.ad (q _ a.al.1)⟩
def yQ(X:cl)(h:M ak)(P:Nat->Prop)(dH:List Go.aQ.Node)(ai j:Nat):bQ:=λab R au=>ab= .tuple []/\j<=au/\lL X R (λe=>P e\/ei j au e) dH (.ptr ai 0)/\∀e,e<j->¬P e->Z X R e=Z X h e
section
variable{an:List Go.aQ.Node}{ai cn:Nat}{ah:Nat->Nat}{a2:y}{aK:List (List y)}{Y q:Nat}{g:Go.aQ.Node}
def SZ(d:qS X h P an ai ah cn a2 aK)(bI:∀e,P e->(o X).aY<=e/\e<j){row:List y}{Q:Nat->Prop}(d2:aK[Y]? =some row)(e0:∀e,Q e->P e/\ah e=0)
 (Dk:∀(R:M ak) (hK:Nat->Prop) p2 mw,(∀e,P e/\ah e=0->¬Q e->Z X R e=Z X h e)->(∀e,P e/\ah e=0->hK e)->lr X R hK p2 mw->mZ X R hK (an.set Y p2) (aK.set Y mw))
 (fa:j<=aM)(H:∀e,e<j->¬Q e->Z X aX e=Z X h e){c:Nat}(aA:c<6){v:y}(bu:v.cells=[v])(apW:l3 v=true){eI:Go.aQ.Node}
 (xL:∀aP,(∀e,¬(P e/\ah e=2)->Z X aP e=Z X aX e)->lr X aP (λe=>P e\/ei j aM e) eI (row.set c v)):
 ∃aP,es X aX 1 (.ptr cn (Y*6+c)) v=some aP/\yQ X h P (an.set Y eI) ai j (.tuple []) aP aM:=by
 have Mm:hd X aX (λe=>P e/\ah e=2) cn a2 6 aK:=d.iK.ad λe B=>H e (bI e B.1).2 λbG=>by have:=(e0 e bG).2;have:=B.2;omega
 obtain⟨aP,cI,Dq,gH⟩:=Mm.store d2 aA bu apW
 have hF:=d.al.2
 refine⟨aP,cI,rfl,fa,⟨ai,a2,cn,aK.set Y (row.set c v),rfl, .inl d.al.1, ?_,Dq.rd.lift λe B=> .inl B.1,Dk aP _ eI _ (λe B aI=>by rw[gH e (λa=>by have:=a.2;have:=B.2;omega),H e (bI e B.1).2 aI]) (λe B=> .inl B.1) (xL aP gH)⟩,λe B aI=>by rw[gH e (λa=>aI a.1),H e B (λbG=>aI (e0 e bG).1)]⟩
 rw[cT,gH ai (λa=>zE a.2),H ai (bI ai d.al.1).2 (λbG=>zE (e0 ai bG).2), <-cT];exact d.nc
def ma.erase{h:M ak}{b8:List ee}{l5:List (List y)}(a:ma X h P b8 l5)(q:Nat):ma X h P (b8.eraseIdx q) (l5.eraseIdx q):=by
 have aB:=a.wide.1
 refine ma.of (by rw[List.length_eraseIdx,List.length_eraseIdx,aB]) λi ai aF=> ?_
 rw[List.getElem?_eraseIdx]at aF ⊢
 by_cases aG:i<q
 ·rw[Zu aG]at aF ⊢;exact a.get i ai aF
 ·rw[Zg aG]at aF ⊢;exact a.get (i+1) ai aF
def ma.NN{h:M ak}{b8:List ee}{l5:List (List y)}(a:ma X h P b8 l5){ai:ee}{r:List y}(V:vl X h P ai r):ma X h P (b8++[ai]) (l5++[r]):=by
 have aB:=a.wide.1
 refine ma.of (by simp[aB]) λi p2 aF=> ?_
 by_cases aG:i<b8.length
 ·rw[ZI aG]at aF
  rw[ZI Zo]
  exact a.get i p2 aF
 ·rw[ZF Zo]at aF
  rw[ZF Zo,aB]
  cases af:i-b8.length with
  |zero=>rw[af]at aF;simp at aF;subst aF;exact⟨r,rfl,V⟩
  |succ m=>rw[af]at aF;simp at aF
def art(az:dW X)(aI:(o X).aY<=j)(d:qS X h P an ai ah cn a2 aK)(bI:∀e,P e->(o X).aY<=e/\e<j)(bw:an[Y]? =some g)(aG:q<g.eqs.length)(bc:g.eqs.length<=4096):
 a1 X 12 [.ptr ai 0, .ptr cn (Y*6), .int .i64 (q:Int)] h j (yQ X h P (an.set Y (nS g (g.eqs.eraseIdx q))) ai j) (λ_ _ _=>False):=by
 refine zL az (afO X) ?_
 rw[afP]
 unfold Um
 obtain⟨row,Q,d2,e0,hh,Dk⟩:=d.hj.No Y g bw
 obtain⟨qM,cW,cO,tV,dF,b4,cr,cS,fh,vD,rfl,jA,iD,jB,hq,o0⟩:=hh
 have Dy:=o0.wide
 have ie:aV X h (.ptr cn (Y*6+5))=some dF:=d.iK.rd.cell Y _ 5 _ d2 rfl
 have aaI:q<vD.length:=by rw[Dy.1];exact aG
 obtain⟨x,bB,cp,fj,jn⟩:=hq.ends Zd aaI
 obtain⟨fc,aX,aM,cQ,ef,eX,jS,f4,m5⟩:=hq.cut (j:=j+19) Zd aaI fj jn (by rw[Dy.1];omega) Zo
 have a7:bg .add (.int .i64 (q:Int)) (.int .i64 1)=some (.int .i64 ((q+1:Nat):Int)):=by rw[eK Zo Zo];rfl
 refine g6 @ie @bB @a7 @cp ⟨?_⟩
 refine ef _ ?_
 obtain⟨aP,cI,nG⟩:=SZ d bI d2 e0 Dk (aX:=aX) (aM:=aM) Zo (λe B _=>m5 e Zo) (c:=5) Zd (iG f4.len).1 (iG f4.len).2.1 (eI:=nS g (g.eqs.eraseIdx q)) λaP K=>by
  have de:∀e,Q e->Z X aP e=Z X h e:=λe B=>by
   have:=e0 e B;have:=bI e this.1
   rw[K e (λa=>Zo),m5 e Zo]
  refine⟨cW,cO,tV,fc,b4,cr,cS,cQ,vD.eraseIdx q,rfl,(jA.rd.ad λe B=>de e B.1).lift λe B=> .inl (e0 e B.1).1,(iD.rd.ad λe B=>de e B.1).lift λe B=> .inl (e0 e B.1).1,(jB.rd.ad λe B=>de e B.1).lift λe B=> .inl (e0 e B.1).1,(f4.ad λe B=>K e λa=> ?_).lift λe B=> ?_,(o0.eqs.ad (λe B=>de e B.1) (λe B=> .inl (e0 e B.1).1)).erase q⟩
  ·rcases B with B|B
   ·have:=e0 e B.1;omega
   ·have:=bI e a.1;omega
  ·rcases B with B|B
   ·exact .inl (e0 e B.1).1
   ·exact .inr ⟨Zo,Zo⟩
 refine ce @cI ⟨?_⟩
 exact nG
def asf(az:dW X)(aI:(o X).aY<=j)(d:qS X h P an ai ah cn a2 aK)(bI:∀e,P e->(o X).aY<=e/\e<j)(bw:an[Y]? =some g){D:ee}(aG:g.eqs[q]? =some D)(bc:g.eqs.length<=4096):
 a1 X 13 [.ptr ai 0, .ptr cn (Y*6), .int .i64 (q:Int)] h j (yQ X h P (an.set Y (nS g (g.eqs++[D]))) ai j) (λ_ _ _=>False):=by
 refine zL az (afS X) ?_
 rw[afT]
 unfold Us
 obtain⟨row,Q,d2,e0,hh,Dk⟩:=d.hj.No Y g bw
 obtain⟨qM,cW,cO,tV,dF,b4,cr,cS,fh,vD,rfl,jA,iD,jB,hq,o0⟩:=hh
 have Dy:=o0.wide
 have ie:aV X h (.ptr cn (Y*6+5))=some dF:=d.iK.rd.cell Y _ 5 _ d2 rfl
 have pP:=(Zb.1 aG).1
 have di:=hq.rd.g2 q (by rw[Dy.1];exact pP)
 obtain⟨Lh,aag,dJ⟩:=o0.eqs.get q D aG
 have kP:=hq.rd.row Zd aag
 have oY:iI Lh=true:=by obtain⟨_,_,_,_,_,_,_,_,_,a⟩:=dJ;exact a
 have aaJ:=dJ.len
 obtain⟨gq,eA,eU,gr,rfl⟩:∃gq eA eU gr,Lh=[gq,eA,eU,gr]:=by
  match Lh,aaJ with
  |[E,b,c,d],_=>exact⟨E,b,c,d,rfl⟩
 refine eP @ie @di @kP ⟨?_⟩
 generalize oR:bl X h (j+12) _=fg
 have eC:Z X fg (j+12)=zI [gq,eA,eU,gr] 4:=by rw[<-oR,bn Zo]
 have ky:∀e,e≠j+12->Z X fg e=Z X h e:=λe B=>by rw[<-oR,aL Zo B]
 clear oR
 have h7:hI X fg 4 (.slice (j+12) 0 1 1)=some (1,[[gq,eA,eU,gr]].flatten):=pp eC (lk _) rfl _
 have Ay:∀e,Q e->e<j:=λe B=>(bI e (e0 e B).1).2
 obtain⟨fc,aX,cQ,ef,f4,m5⟩:=(hq.ad (R:=fg) λe B=>ky e (zE (Ay e B.1))).app (j:=j+17) Zd h7 Zs Zs rfl (by simpa using oY) (by rw[Dy.1];simp;omega) (by rw[Dy.1];simp;omega) Zo (λe B=>zE (Ay e B.1))
 refine kh ef ?_
 obtain⟨aP,cI,nG⟩:=SZ d bI d2 e0 Dk (aX:=aX) (aM:=j+17+1) Zo (λe B bG=>by rw[m5 e Zo (λa=>bG a.1),ky e Zo]) (c:=5) Zd (iG f4.len).1 (iG f4.len).2.1 (eI:=nS g (g.eqs++[D])) λaP K=>by
  have de:∀e,Q e->qM e≠4->Z X aP e=Z X h e:=λe B aC=>by
   have a:=e0 e B
   have:=bI e a.1
   rw[K e (λco=>Zo),m5 e Zo (λco=>aC co.2),ky e Zo]
  have aa9:=o0.eqs.ad (R:=aP) (Q:=λe=>P e\/ei j (j+17+1) e) (λe B=>de e B.1 Zo) (λe B=> .inl (e0 e B.1).1)
  obtain⟨awU,aah,anW⟩:=aa9.get q D aG
  rw[aag]at aah
  cases aah
  refine⟨cW,cO,tV,fc,b4,cr,cS,cQ,vD++[[gq,eA,eU,gr]],rfl,(jA.rd.ad λe B=>de e B.1 Zo).lift λe B=> .inl (e0 e B.1).1,(iD.rd.ad λe B=>de e B.1 Zo).lift λe B=> .inl (e0 e B.1).1,(jB.rd.ad λe B=>de e B.1 Zo).lift λe B=> .inl (e0 e B.1).1,(f4.ad λe B=>K e λa=> ?_).lift λe B=> ?_,aa9.NN anW⟩
  ·rcases B with B|B
   ·have:=e0 e B.1;omega
   ·have:=bI e a.1;omega
  ·rcases B with B|B
   ·exact .inl (e0 e B.1).1
   ·exact .inr ⟨Zo,Zo⟩
 refine ce @cI ⟨?_⟩
 exact nG
def aiP(az:dW X)(aI:(o X).aY<=j)(d:qS X h P an ai ah cn a2 aK)(bI:∀e,P e->(o X).aY<=e/\e<j)(bw:an[Y]? =some g){rj:y}{dh:Nat}{nm:ba}(gy:aV X h (.ptr dh 0)=some (.str nm))(bc:g.loc.length<=256):
 a1 X 14 [.ptr ai 0, .ptr cn (Y*6),rj, .ptr dh 0] h j (yQ X h P (an.set Y (l8 g (tI nm))) ai j) (λ_ _ _=>False):=by
 refine zL az (afU X) ?_
 rw[afV]
 unfold Uu
 obtain⟨row,Q,d2,e0,hh,Dk⟩:=d.hj.No Y g bw
 obtain⟨qM,cW,cO,tV,dF,b4,cr,cS,fh,vD,rfl,jA,iD,jB,hq,o0⟩:=hh
 have Dy:=o0.wide
 have r2:aV X h (.ptr cn (Y*6+4))=some tV:=d.iK.rd.cell Y _ 4 _ d2 rfl
 refine dq @r2 @gy ⟨?_⟩
 generalize oR:bl X h (j+8) _=fg
 have eC:Z X fg (j+8)=zI (dy (tI nm)) 8:=by rw[<-oR,bn Zo];rfl
 have ky:∀e,e≠j+8->Z X fg e=Z X h e:=λe B=>by rw[<-oR,aL Zo B]
 clear oR
 have h7:hI X fg 8 (.slice (j+8) 0 1 1)=some (1,[dy (tI nm)].flatten):=by
  have:=pp (aN:=8) (q:=1) eC (lk _) rfl 1
  simpa using this
 have Ay:∀e,Q e->e<j:=λe B=>(bI e (e0 e B).1).2
 obtain⟨fc,aX,cQ,ef,f4,m5⟩:=(jB.ad (R:=fg) λe B=>ky e (zE (Ay e B.1))).app (j:=j+13) Zd h7 (by simp[dy]) Zs rfl (by simp[dy,iI,l3]) (by rw[Zp];simp;omega) (by rw[Zp];simp;omega) Zo (λe B=>zE (Ay e B.1))
 refine kh ef ?_
 have aoD:g.loc.map dy++[dy (tI nm)]=(l8 g (tI nm)).loc.map dy:=by simp[l8]
 rw[aoD]at f4
 obtain⟨aP,cI,nG⟩:=SZ d bI d2 e0 Dk (aX:=aX) (aM:=j+13+1) Zo (λe B bG=>by rw[m5 e Zo (λa=>bG a.1),ky e Zo]) (c:=4) Zd (iG f4.len).1 (iG f4.len).2.1 (eI:=l8 g (tI nm)) λaP K=>by
  have de:∀e,Q e->qM e≠3->Z X aP e=Z X h e:=λe B aC=>by
   have a:=e0 e B
   have:=bI e a.1
   rw[K e (λco=>Zo),m5 e Zo (λco=>aC co.2),ky e Zo]
  refine⟨cW,cO,fc,dF,b4,cr,cQ,fh,vD,rfl,(jA.rd.ad λe B=>de e B.1 Zo).lift λe B=> .inl (e0 e B.1).1,(iD.rd.ad λe B=>de e B.1 Zo).lift λe B=> .inl (e0 e B.1).1,(f4.ad λe B=>K e λa=> ?_).lift λe B=> ?_,(hq.rd.ad λe B=>de e B.1 Zo).lift λe B=> .inl (e0 e B.1).1,o0.eqs.ad (R:=aP) (λe B=>de e B.1 Zo) (λe B=> .inl (e0 e B.1).1)⟩
  ·rcases B with B|B
   ·have:=e0 e B.1;omega
   ·have:=bI e a.1;omega
  ·rcases B with B|B
   ·exact .inl (e0 e B.1).1
   ·exact .inr ⟨Zo,Zo⟩
 refine ce @cI ⟨?_⟩
 exact nG
end
end
section
variable{C:aT}{h:M ak}
def S2{ek:Nat->Prop}{b aN:Nat}{a2:y}{aK:List (List y)}(a:hd C h ek b a2 aN aK)(cf:0<aN):hI C h aN a2=some (aK.length,aK.flatten):=by
 have dY:=mf a.rd.wide
 obtain⟨cy,jF,_⟩:=a.ap
 rcases jF with H|⟨cQ,n,c,st,rfl,cD,rfl,fl,fG,_⟩
 ·obtain⟨n,K,am⟩:=H.src
  have aI:n=aK.length:=Z0 cf (by rw[<-K,dY])
  rw[am,aI]
 ·have aI:n=aK.length:=Z0 cf (by rw[<-cD,dY])
  subst aI
  exact pp fl fG cD _
end
section
variable{X:cl}{h R aX aP:M ak}{j au aM be:Nat}{P:Nat->Prop}
variable{an:List Go.aQ.Node}{ai cn:Nat}{ah:Nat->Nat}{a2:y}{aK:List (List y)}{Y q:Nat}{g:Go.aQ.Node}
def adC(d:qS X h P an ai ah cn a2 aK)(bI:∀e,P e->(o X).aY<=e/\e<j)(fa:j<=aM)(H:∀e,e<j->¬(P e/\ah e=2)->Z X aX e=Z X h e){v:y}{dH:List Go.aQ.Node}{fV:List (List y)}{cQ:Nat}
 (c3:et X aX (λe=>(P e/\ah e=2)\/ei j aM e) cQ v 6 fV)(lZ:mZ X aX (λe=>(P e/\ah e=0)\/ei j aM e) dH fV):
 ∃aP,es X aX 1 (.ptr ai 0) v=some aP/\yQ X h P dH ai j (.tuple []) aP aM:=by
 obtain⟨d9,c,n,aA,aI⟩:=d.own
 have hF:=d.al.2
 have bG:=bI ai d.al.1
 rw[<-H ai bG.2 (λa=>Zo)]at aA
 obtain⟨ef,eX,_⟩:=iG c3.len
 have gH:∀e,e≠ai->Z X (bl X aX ai (some (.cells (c.set 0 (some v)) n .own))) e=Z X aX e:=λe B=>aL bG.1 B
 refine⟨_,nO (W:=0) aA bG.1 Zo ef eX,rfl,fa,⟨ai,v,cQ,fV,rfl, .inl d.al.1, ?_, ?_, ?_⟩,λe B aI=> ?_⟩
 ·rw[bU (bn bG.1),M.j7,Zu rfl]
 ·exact(c3.ad λe B=>gH e λD=>by
   rcases B with B|B
   ·subst D;omega
   ·have:=B.1;omega).lift λe B=>B.imp (λa=>a.1) id
 ·exact lZ.ad (λe B=>gH e λD=>by
   rcases B with B|B
   ·subst D;omega
   ·have:=B.1;omega) λe B=>B.imp (λa=>a.1) id
 ·rw[gH e (λD=>aI (D▸d.al.1)),H e B (λa=>aI a.1)]
def mZ.NN{h:M ak}{b8:List Go.aQ.Node}{l5:List (List y)}(a:mZ X h P b8 l5){ai:Go.aQ.Node}{r:List y}(V:lr X h P ai r):mZ X h P (b8++[ai]) (l5++[r]):=by
 have aB:=a.wide.1
 refine mZ.of (by simp[aB]) λi p2 aF=> ?_
 by_cases aG:i<b8.length
 ·rw[ZI aG]at aF
  rw[ZI Zo]
  exact a.get i p2 aF
 ·rw[ZF Zo]at aF
  rw[ZF Zo,aB]
  cases af:i-b8.length with
  |zero=>rw[af]at aF;simp at aF;subst aF;exact⟨r,rfl,V⟩
  |succ m=>rw[af]at aF;simp at aF
def avP(az:dW X)(aI:(o X).aY<=j)(d:qS X h P an ai ah cn a2 aK)(bI:∀e,P e->(o X).aY<=e/\e<j)(bw:an[0]? =some g){SG rj:y}(bc:an.length<=64):
 a1 X 15 [.ptr ai 0,SG,rj] h j (yQ X h P (an++[g]) ai j) (λ_ _ _=>False):=by
 refine zL az (afW X) ?_
 rw[afX]
 unfold Uv
 have gp:=d.hj.wide
 have vX:=(Zb.1 bw).1
 obtain⟨row,d2,hh⟩:=d.hj.nodes.get 0 g bw
 have di:=d.iK.rd.g2 0 (by rw[gp.1];exact vX)
 have kP:=d.iK.rd.row Zd d2
 rw[Y1]at di kP
 have di:iV 6 a2 (.int .i64 0)=some (.ptr cn 0):=di
 have oY:=hh.iI
 have Fz:=hh.len
 obtain⟨gq,eA,eU,gr,l4,ll,rfl⟩:∃gq eA eU gr l4 ll,row=[gq,eA,eU,gr,l4,ll]:=by
  match row,Fz with
  |[E,b,c,d,D,f],_=>exact⟨E,b,c,d,D,f,rfl⟩
 have mF:=d.nc
 refine eP @mF @di @kP ⟨?_⟩
 generalize oR:bl X h (j+11) _=fg
 have eC:Z X fg (j+11)=zI [gq,eA,eU,gr,l4,ll] 6:=by rw[<-oR,bn Zo]
 have ky:∀e,e≠j+11->Z X fg e=Z X h e:=λe B=>by rw[<-oR,aL Zo B]
 clear oR
 have h7:hI X fg 6 (.slice (j+11) 0 1 1)=some (1,[[gq,eA,eU,gr,l4,ll]].flatten):=pp eC (lk _) rfl _
 obtain⟨fc,aX,cQ,ef,f4,m5⟩:=(d.iK.ad (R:=fg) λe B=>ky e (zE (bI e B.1))).app (j:=j+16) Zd h7 Zs Zs rfl (by simpa using oY) (by rw[gp.1];simp;omega) (by rw[gp.1];simp;omega) Zo (λe B=>zE (bI e B.1))
 refine kh ef ?_
 have de:∀e,e<j->¬(P e/\ah e=2)->Z X aX e=Z X h e:=λe B K=>by rw[m5 e Zo K,ky e Zo]
 have ck:∀e,P e/\ah e=0->Z X aX e=Z X h e:=λe B=>de e (bI e B.1).2 (λa=>zE a.2)
 obtain⟨aP,cI,nG⟩:=adC d bI (aM:=j+16+1) Zo de (f4.lift λe B=>B.imp id λD=>⟨Zo,Zo⟩) ((d.hj.nodes.ad (R:=aX) (Q:=λe=>(P e/\ah e=0)\/ei j (j+16+1) e) ck (λ_ a=> .inl a)).NN (hh.ad ck (λ_ a=> .inl a)))
 refine ce @cI ⟨?_⟩
 exact nG
end
end
end Go.Proofs.YtbbkkkpgjaopkaaGreatDoor

