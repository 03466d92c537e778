/- A part of the last text's proof; no condition of its own -/
import Derived.Test.YtpfajohmofnkfaaGreatDoorYm
set_option maxHeartbeats 8000000
set_option linter.all false
namespace Go.aR
structure hd where
 N:bi->Prop
 Gm:de->Prop
 L:de->Int->Prop
 a2:∀s,N s->s≠[]
 cZ:Gm ⟨true,false,1⟩
 fT:L ⟨true,false,1⟩ 0
 ei:L ⟨true,false,1⟩ 1
 lt:∀t n,L t n->Gm t
 A:Int->Prop
 a0:A 0
structure DU(bA:hd)(x:Tok):Prop where
 name:x.kind=1->bA.N x.text
 type:x.kind=3->bA.Gm x.ty
 num:x.kind=4->0<=x.n
 lit:x.kind=5->bA.L x.ty x.n
 pos:x.kind≠7->bA.A x.at_
def g4(bA:hd)(k:List Tok):Prop:=∀x∈k,DU bA x
def g4.nM{bA:hd}{x:Tok}{k:List Tok}(a:g4 bA (x::k)):g4 bA k:=λe z=>a e (Zt _ z)
def g4.aH{bA:hd}{x:Tok}{k:List Tok}(a:g4 bA (x::k)):DU bA x:=a x (Zq ..)
def nq(q:Int):Option Nat:=if q=25 then none else if q=1\/q=2 then some 0 else if q=3\/q=4\/q=5\/q=6\/q=19\/q=20\/q=26 then some 1 else if q=23 then some 3 else some 2
def rh(q:Int):Prop:=q=2\/q=6\/q=24\/q=25
def sd(q:Int):Prop:=q=1\/q=26
structure xF(bA:hd)(E:be):Prop where
 ap:bA.A E.at_
 bR:1<=E.kind
 cq:E.kind<=26
 qh:∀m,nq E.kind=some m->E.args.length=m
 nm:rh E.kind->bA.N E.name
 Iv:¬rh E.kind->E.name=[]
 no:E.no=true->E.kind=6
 ty:sd E.kind->bA.Gm E.ty
 dH:¬sd E.kind->E.ty=dH
 VF:E.kind=1->bA.L E.ty E.n
 mj:E.kind=19\/E.kind=20->0<=E.n/\E.n<=63
 a2:E.kind≠1->E.kind≠19->E.kind≠20->E.n=0
 tc:E.kind=21->∃k r,E.args=[k,r]/\(k.kind=1\/k.kind=4/\∃x,k.args=[x]/\x.kind=1)
mutual
def d2(bA:hd):be->Prop
 | .mk q F nm no ty n args=>xF bA (.mk q F nm no ty n args)/\e0 bA args
def e0(bA:hd):List be->Prop
 |[]=>True
 |E::k=>d2 bA E/\e0 bA k
end
def d2.eq{bA:hd}(E:be):d2 bA E=(xF bA E/\e0 bA E.args):=by cases E;rw[d2];rfl
def e0.cons{bA:hd}{E:be}{k:List be}(a:d2 bA E)(q:e0 bA k):e0 bA (E::k):=by rw[e0];exact⟨a,q⟩
def e0.nil{bA:hd}:e0 bA []:=by rw[e0];trivial
def e0.app{bA:hd}{E:be}(a:d2 bA E):∀{k:List be},e0 bA k->e0 bA (k++[E]):=by
 intro k
 induction k with
 |nil=>intro _;exact e0.cons a e0.nil
 |cons F k al=>intro q;rw[e0]at q;exact e0.cons q.1 (al q.2)
def dz(bA:hd){α:Type}(bm:α->Prop)(x:ge α):Prop:=∀F bV,x=some (.ok (F,bV))->g4 bA bV/\bm F
section
variable{bA:hd}{α eD:Type}
def dz.none{bm:α->Prop}:dz bA bm none:=λ_ _ a=>by cases a
def dz.ok{bm:α->Prop}{F:α}{k:List Tok}(a:g4 bA k)(ah:bm F):dz bA bm (aR.ok F k):=λfV bV E=>by cases E;exact⟨a,ah⟩
def dz.bad{bm:α->Prop}(F:Int):dz bA bm (aR.bad F:ge α):=λfV bV E=>by cases E
def dz.andThen{bm:α->Prop}{rU:eD->Prop}{x:ge α}{f:α->List Tok->ge eD}(a:dz bA bm x)(q:∀F bV,g4 bA bV->bm F->dz bA rU (f F bV)):dz bA rU (aR.andThen x f):=by
 unfold aR.andThen
 split
 ·exact dz.none
 ·exact λ_ _ E=>by cases E
 ·rename_i F k
  obtain⟨I,J⟩:=a F k rfl
  exact q F k I J
def DU.g9{x:Tok}{s:bi}(a:DU bA x)(aF:g9 x s=true):bA.A x.at_:=a.pos λE=>by simp[aR.g9,E]at aF
def om{s:bi}{k:List Tok}(a:g4 bA k):dz bA (λx:Tok=>bA.A x.at_) (eC s k):=by
 cases k with
 |nil=>exact dz.none
 |cons x k=>
  simp only[eC]
  split
  ·rename_i aF;exact dz.ok a.nM (a.aH.g9 aF)
  ·exact dz.bad _
def wx{q:Int}{k:List Tok}(a:g4 bA k):dz bA (λx:Tok=>DU bA x/\x.kind=q) (iU q k):=by
 cases k with
 |nil=>exact dz.none
 |cons x k=>
  simp only[iU]
  split
  ·rename_i aF;exact dz.ok a.nM ⟨a.aH,aF⟩
  ·exact dz.bad _
def qS{s:bi}{k:List Tok}{f:Option Tok->List Tok->ge eD}{bm:eD->Prop}(a:g4 bA k)(I:∀x bV,bA.A x.at_->g4 bA bV->dz bA bm (f (some x) bV))(J:dz bA bm (f none k)):dz bA bm (ir s k f):=by
 cases k with
 |nil=>exact dz.none
 |cons x k=>
  unfold ir mm
  by_cases aF:g9 x s=true
  ·simp only[aF,ZC];exact I x k (a.aH.g9 aF) a.nM
  ·simp only[aF,ZA];exact J
def Ng{k:List Tok}(a:g4 bA k):∀(os:List (bi×Int)) E bV,ps os k=some (E,bV)->g4 bA bV/\∀x,E=some x->∃U∈os,∃F,bA.A F/\x= .mk U.2 F [] false dH 0 []:=by
 intro os
 induction os with
 |nil=>intro E bV bs;cases bs;exact⟨a,λx af=>by cases af⟩
 |cons U os al=>
  obtain⟨s,q⟩:=U
  intro E bV bs
  cases k with
  |nil=>simp[ps,mm]at bs
  |cons x k=>
   unfold ps mm at bs
   by_cases aF:g9 x s=true
   ·simp only[aF,ZC]at bs
    cases bs
    exact⟨a.nM,λe z=>by cases z;exact⟨_,Zq ..,_,a.aH.g9 aF,rfl⟩⟩
   ·simp only[aF,ZA]at bs
    obtain⟨I,J⟩:=al E bV bs
    exact⟨I,λe z=>by obtain⟨U,bj,F,aC⟩:=J e z;exact⟨U,Zt _ bj,F,aC⟩⟩
def aim{q F:Int}{x e:be}(aD:7<=q/\q<=18\/q=22)(af:d2 bA x)(z:d2 bA e)(aC:bA.A F):d2 bA (.mk q F [] false dH 0 [x,e]):=by
 rw[d2.eq]
 refine⟨⟨aC,by simp only[be.kind];omega,by simp only[be.kind];omega, ?_, ?_,λ_=>rfl,(λa=>absurd a (by simp[be.no])), ?_,λ_=>rfl, ?_, ?_,λ_ _ _=>rfl, ?_⟩,e0.cons af (e0.cons z e0.nil)⟩
 ·intro m bp
  have tr:nq q=some m:=bp
  unfold nq at tr
  rw[Zg Zo,Zg Zo,Zg Zo,Zg Zo]at tr
  cases tr;rfl
 ·intro a;simp only[rh,be.kind]at a;omega
 ·intro a;simp only[sd,be.kind]at a;omega
 ·intro a;simp only[be.kind]at a;omega
 ·intro a;simp only[be.kind]at a;omega
 ·intro a;simp only[be.kind]at a;omega
def My{q F n:Int}{nm:bi}{no:Bool}{ty:de}{x:be}(aD:q=3\/q=4\/q=5\/q=6\/q=19\/q=20\/q=26)(iR:q=6->bA.N nm)(gP:q≠6->nm=[]/\no=false)(a6:q=26->bA.Gm ty)(UF:q≠26->ty=dH)(aE:q=19\/q=20->0<=n/\n<=63)(atP:q≠19->q≠20->n=0)(af:d2 bA x)(aC:bA.A F):d2 bA (.mk q F nm no ty n [x]):=by
 rw[d2.eq]
 refine⟨⟨aC,by simp only[be.kind];omega,by simp only[be.kind];omega, ?_, ?_, ?_, ?_, ?_, ?_, ?_,aE, ?_, ?_⟩,e0.cons af e0.nil⟩
 ·intro m bp
  have tr:nq q=some m:=bp
  unfold nq at tr
  rw[Zg Zo,Zg Zo,Zu aD]at tr
  cases tr;rfl
 ·intro a;simp only[rh,be.kind]at a;exact iR Zo
 ·intro a;simp only[rh,be.kind]at a;exact(gP Zo).1
 ·intro a
  by_cases b6:q=6
  ·exact b6
  ·have cz:no=true:=a
   rw[(gP b6).2]at cz;cases cz
 ·intro a;simp only[sd,be.kind]at a;exact a6 Zo
 ·intro a;simp only[sd,be.kind]at a;exact UF Zo
 ·intro a;simp only[be.kind]at a;omega
 ·intro I J am;exact atP J am
 ·intro a;simp only[be.kind]at a;omega
def QK{F n:Int}{ty:de}(a:bA.L ty n)(aC:bA.A F):d2 bA (.mk 1 F [] false ty n []):=by
 rw[d2.eq]
 exact⟨⟨aC,by simp[be.kind],by simp[be.kind],λm bp=>by simp[nq,be.kind]at bp;simp[be.args, <-bp],λa=>by simp[rh,be.kind]at a,λ_=>rfl,(λa=>absurd a (by simp[be.no])),λ_=>bA.lt _ _ a,λa=>by simp[sd,be.kind]at a,λ_=>a,λa=>by simp[be.kind]at a,λa=>by simp[be.kind]at a,λa=>by simp[be.kind]at a⟩,e0.nil⟩
def aB2{F:Int}{nm:bi}(a:bA.N nm)(aC:bA.A F):d2 bA (.mk 2 F nm false dH 0 []):=by
 rw[d2.eq]
 exact⟨⟨aC,by simp[be.kind],by simp[be.kind],λm bp=>by simp[nq,be.kind]at bp;simp[be.args, <-bp],λ_=>a,λa=>by simp[rh,be.kind]at a,(λa=>absurd a (by simp[be.no])),λa=>by simp[sd,be.kind]at a,λ_=>rfl,λa=>by simp[be.kind]at a,λa=>by simp[be.kind]at a,λ_ _ _=>rfl,λa=>by simp[be.kind]at a⟩,e0.nil⟩
def aBY{F:Int}{nm:bi}{cv:List be}(a:bA.N nm)(q:e0 bA cv)(aC:bA.A F):d2 bA (.mk 25 F nm false dH 0 cv):=by
 rw[d2.eq]
 exact⟨⟨aC,by simp[be.kind],by simp[be.kind],λm bp=>by simp[nq,be.kind]at bp,λ_=>a,λa=>by simp[rh,be.kind]at a,(λa=>absurd a (by simp[be.no])),λa=>by simp[sd,be.kind]at a,λ_=>rfl,λa=>by simp[be.kind]at a,λa=>by simp[be.kind]at a,λ_ _ _=>rfl,λa=>by simp[be.kind]at a⟩,q⟩
def aB0{F:Int}{x e bz:be}(af:d2 bA x)(z:d2 bA e)(cr:d2 bA bz)(aC:bA.A F):d2 bA (.mk 23 F [] false dH 0 [x,e,bz]):=by
 rw[d2.eq]
 exact⟨⟨aC,by simp[be.kind],by simp[be.kind],λm bp=>by simp[nq,be.kind]at bp;simp[be.args, <-bp],λa=>by simp[rh,be.kind]at a,λ_=>rfl,(λa=>absurd a (by simp[be.no])),λa=>by simp[sd,be.kind]at a,λ_=>rfl,λa=>by simp[be.kind]at a,λa=>by simp[be.kind]at a,λ_ _ _=>rfl,λa=>by simp[be.kind]at a⟩,e0.cons af (e0.cons z (e0.cons cr e0.nil))⟩
def aB1{F:Int}{nm:bi}{x e:be}(a:bA.N nm)(af:d2 bA x)(z:d2 bA e)(aC:bA.A F):d2 bA (.mk 24 F nm false dH 0 [x,e]):=by
 rw[d2.eq]
 exact⟨⟨aC,by simp[be.kind],by simp[be.kind],λm bp=>by simp[nq,be.kind]at bp;simp[be.args, <-bp],λ_=>a,λa=>by simp[rh,be.kind]at a,(λa=>absurd a (by simp[be.no])),λa=>by simp[sd,be.kind]at a,λ_=>rfl,λa=>by simp[be.kind]at a,λa=>by simp[be.kind]at a,λ_ _ _=>rfl,λa=>by simp[be.kind]at a⟩,e0.cons af (e0.cons z e0.nil)⟩
def aBZ{F:Int}{x e:be}(a:u3 x=some true)(af:d2 bA x)(z:d2 bA e)(aC:bA.A F):d2 bA (.mk 21 F [] false dH 0 [x,e]):=by
 rw[d2.eq]
 refine⟨⟨aC,by simp[be.kind],by simp[be.kind],λm bp=>by simp[nq,be.kind]at bp;simp[be.args, <-bp],λa=>by simp[rh,be.kind]at a,λ_=>rfl,(λa=>absurd a (by simp[be.no])),λa=>by simp[sd,be.kind]at a,λ_=>rfl,λa=>by simp[be.kind]at a,λa=>by simp[be.kind]at a,λ_ _ _=>rfl,λ_=>⟨x,e,rfl, ?_⟩⟩,e0.cons af (e0.cons z e0.nil)⟩
 unfold u3 at a
 split at a
 ·rename_i I;exact .inl I
 ·split at a
  ·rename_i I aB
   refine .inr ⟨aB, ?_⟩
   have pK:=af
   rw[d2.eq]at pK
   have az:=pK.1.qh 1 (by rw[aB];rfl)
   cases aC:x.args with
   |nil=>rw[aC]at az;cases az
   |cons b k=>
    rw[aC]at az a
    cases k with
    |nil=>exact⟨b,rfl,by simpa using a⟩
    |cons c k=>simp at az
  ·cases a
def ayh:∀(q:Nat) (U:bi×Int),U∈ar q->7<=U.2/\U.2<=18:=by
 intro q U a
 match q with
 |0=>simp[ar]at a;rcases a with rfl|rfl<;>decide
 |1=>simp[ar]at a;subst a;decide
 |2=>simp[ar]at a;rcases a with rfl|rfl|rfl|rfl|rfl|rfl<;>decide
 |3=>simp[ar]at a;rcases a with rfl|rfl<;>decide
 |4=>simp[ar]at a;subst a;decide
 |n+5=>simp[ar]at a
def ayN(U:bi×Int)(a:U∈Bp):U.2=3\/U.2=4\/U.2=5:=by
 simp[Bp]at a;rcases a with rfl|rfl|rfl<;>simp
end
end Go.aR

namespace Go.aR
structure aiI(bA:hd)(n:Nat):Prop where
 level:∀q k,g4 bA k->dz bA (d2 bA) (level n q k)
 pU:∀q E k,g4 bA k->d2 bA E->dz bA (d2 bA) (pU n q E k)
 shift:∀k,g4 bA k->dz bA (d2 bA) (shift n k)
 p5:∀E k,g4 bA k->d2 bA E->dz bA (d2 bA) (p5 n E k)
 p6:∀q x E k,q=19\/q=20->bA.A x.at_->g4 bA k->d2 bA E->dz bA (d2 bA) (p6 n q x E k)
 va:∀k,g4 bA k->dz bA (d2 bA) (yL n k)
 nN:∀E k,g4 bA k->d2 bA E->dz bA (d2 bA) (nN n E k)
 part:∀k,g4 bA k->dz bA (d2 bA) (part n k)
 list:∀k,g4 bA k->dz bA (e0 bA) (list n k)
 pW:∀cv k,g4 bA k->e0 bA cv->dz bA (e0 bA) (pW n cv k)
 l9:∀k,g4 bA k->dz bA (d2 bA) (l9 n k)
 arrow:∀k,g4 bA k->dz bA (d2 bA) (arrow n k)
def ang(bA:hd):∀n,aiI bA n:=by
 intro n
 induction n with
 |zero=>constructor<;>intros<;>exact dz.none
 |succ n al=>
  constructor
  case level=>
   intro q k az
   rw[level]
   split
   ·exact al.shift k az
   ·exact(al.level (q+1) k az).andThen λE bV I J=>al.pU q E bV I J
  case pU=>
   intro q E k az bs
   rw[pU]
   split
   ·exact dz.none
   ·rename_i bV aj
    exact dz.ok (Ng az _ _ _ aj).1 bs
   ·rename_i x bV aj
    obtain⟨I,J⟩:=Ng az _ _ _ aj
    obtain⟨U,bj,F,aC,rfl⟩:=J _ rfl
    have aD:=ayh _ _ bj
    refine(al.level (q+1) bV I).andThen λr c4 bR cq=> ?_
    have a6:d2 bA (two (.mk U.2 F [] false dH 0 []) E r):=aim (q:=U.2) (.inl aD) bs cq aC
    split
    ·exact dz.ok bR a6
    ·exact al.pU q _ c4 bR a6
  case shift=>
   intro k az
   rw[shift]
   exact(al.va k az).andThen λE bV I J=>al.p5 E bV I J
  case p5=>
   intro E k az bs
   rw[p5]
   refine qS az (λx bV aC I=>al.p6 19 x E bV (.inl rfl) aC I bs) ?_
   exact qS az (λx bV aC I=>al.p6 20 x E bV (.inr rfl) aC I bs) (dz.ok az bs)
  case p6=>
   intro q x E k aD aC az bs
   rw[p6]
   refine(wx az).andThen λm bV I J=> ?_
   split
   ·exact dz.bad _
   ·rename_i aCH
    have aS:=J.1.num J.2
    exact al.p5 _ bV I (My Zo (λa=>Zo) (λ_=>⟨rfl,rfl⟩) (λa=>Zo) (λ_=>rfl) (λ_=>⟨aS,Zo⟩) (λI J=>Zo) bs aC)
  case va=>
   intro k az
   rw[yL]
   split
   ·exact dz.none
   ·rename_i x bV aj
    obtain⟨I,J⟩:=Ng az _ _ _ aj
    obtain⟨U,bj,F,aC,rfl⟩:=J _ rfl
    have aD:=ayN _ bj
    refine(al.va bV I).andThen λE c4 bR cq=>dz.ok bR ?_
    exact My (q:=U.2) Zo (λa=>Zo) (λ_=>⟨rfl,rfl⟩) (λa=>Zo) (λ_=>rfl) (λa=>Zo) (λ_ _=>rfl) cq aC
   ·rename_i bV aj
    exact(al.part bV (Ng az _ _ _ aj).1).andThen λE c4 bR cq=>al.nN E c4 bR cq
  case nN=>
   intro E k az bs
   rw[nN]
   refine qS az (λx bV aC I=> ?_) (dz.ok az bs)
   refine qS I (λe c4 _ bR=> ?_) ?_
   ·refine(wx bR).andThen λm fa e6 fq=> ?_
    exact al.nN _ fa e6 (My Zo (λ_=>fq.1.name fq.2) (λa=>absurd rfl a) (λa=>Zo) (λ_=>rfl) (λa=>Zo) (λ_ _=>rfl) bs aC)
   ·refine(wx I).andThen λm fa e6 fq=> ?_
    exact al.nN _ fa e6 (My Zo (λ_=>fq.1.name fq.2) (λa=>absurd rfl a) (λa=>Zo) (λ_=>rfl) (λa=>Zo) (λ_ _=>rfl) bs aC)
  case list=>
   intro k az
   rw[list]
   refine qS az (λx bV _ I=>dz.ok I e0.nil) ?_
   exact(al.arrow k az).andThen λE c4 bR cq=>al.pW _ c4 bR (e0.cons cq e0.nil)
  case pW=>
   intro cv k az aC
   rw[pW]
   refine qS az (λx bV _ I=> ?_) ?_
   ·exact(al.arrow bV I).andThen λE c4 bR cq=>al.pW _ c4 bR (e0.app cq aC)
   ·exact(om az).andThen λ_ bV I _=>dz.ok I aC
  case l9=>
   intro k az
   rw[l9]
   refine(al.level 0 k az).andThen λE c4 bR cq=> ?_
   refine qS bR (λx bV aC I=> ?_) (dz.ok bR cq)
   simp only[]
   split
   ·exact dz.none
   ·rename_i CF
    exact(al.l9 bV I).andThen λr fa e6 fq=>dz.ok e6 (aBZ CF cq fq aC)
   ·exact dz.bad _
  case arrow=>
   intro k az
   rw[arrow]
   refine(al.l9 k az).andThen λE c4 bR cq=> ?_
   refine qS bR (λx bV aC I=> ?_) (dz.ok bR cq)
   exact(al.arrow bV I).andThen λr fa e6 fq=>dz.ok e6 (aim (.inr rfl) cq fq aC)
  case part=>
   intro k az
   cases k with
   |nil=>rw[part];exact dz.none
   |cons x k=>
   have af:=az.aH
   have hq:=az.nM
   rw[part]
   by_cases jO:x.kind=5
   ·rw[Zu jO]
    exact dz.ok hq (QK (af.lit jO) (af.pos (by rw[jO];decide)))
   rw[Zg jO]
   split
   ·rename_i J
    refine dz.ok hq (QK ?_ (af.pos λE=>by simp[E]at J))
    split
    ·exact bA.ei
    ·exact bA.fT
   by_cases db:x.kind=1
   ·rw[Zu db]
    refine qS hq (λe c4 _ I=> ?_) (dz.ok hq (aB2 (af.name db) (af.pos (by rw[db];decide))))
    exact(al.list c4 I).andThen λcv fa e6 fq=>dz.ok e6 (aBY (af.name db) fq (af.pos (by rw[db];decide)))
   rw[Zg db]
   by_cases gf:x.kind=3
   ·rw[Zu gf]
    refine(om hq).andThen λ_ c4 I _=> ?_
    refine(al.arrow c4 I).andThen λE fa e6 fq=> ?_
    refine(om e6).andThen λ_ g6 fG _=> ?_
    exact dz.ok fG (My Zo (λa=>Zo) (λ_=>⟨rfl,rfl⟩) (λ_=>af.type gf) (λa=>absurd rfl a) (λa=>Zo) (λ_ _=>rfl) fq (af.pos (by rw[gf];decide)))
   rw[Zg gf]
   split
   ·refine(al.arrow k hq).andThen λE fa e6 fq=> ?_
    refine(om e6).andThen λ_ g6 fG _=> ?_
    exact dz.ok fG fq
   split
   ·rename_i J
    refine(al.arrow k hq).andThen λE fa e6 fq=> ?_
    refine(om e6).andThen λ_ g6 fG _=> ?_
    refine(al.arrow g6 fG).andThen λcn gJ cG cw=> ?_
    refine(om cG).andThen λ_ m7 eL _=> ?_
    refine(al.arrow m7 eL).andThen λeU mE jr k9=> ?_
    exact dz.ok jr (aB0 fq cw k9 (af.pos λE=>by simp[E]at J))
   split
   ·rename_i J
    refine(wx hq).andThen λc c4 I aA=> ?_
    refine(al.part c4 I).andThen λE fa e6 fq=> ?_
    refine(al.part fa e6).andThen λcn g6 fG hD=> ?_
    exact dz.ok fG (aB1 (aA.1.name aA.2) fq hD (af.pos λE=>by simp[E]at J))
   ·exact dz.bad _
structure qc(bA:hd)(d:fo):Prop where
 name:bA.N d.name
 type:bA.Gm d.ty
 on:d.on≠[]->bA.N d.on
 no:d.on=[]->d.no=false
 ap:bA.A d.at_
 op:bA.A d.fL
structure Jl(bA:hd)(ah:fc):Prop where
 left:∀s∈ah.left,bA.N s
 some:ah.left≠[]
 right:d2 bA ah.right
 ap:bA.A ah.at_
 aw3:∀F∈ah.c7,bA.A F
structure mQ(bA:hd)(g:Node):Prop where
 name:bA.N g.name
 ez:∀d∈g.ez,qc bA d
 out:∀d∈g.out,qc bA d
 loc:∀d∈g.loc,qc bA d
 some:g.out≠[]
 eqs:∀ah∈g.eqs,Jl bA ah
 ap:bA.A g.at_
def y9(bA:hd)(cl:List Tok):Prop:=∀x∈cl,bA.N x.text/\bA.A x.at_
def y9.app{bA:hd}{x:Tok}{cl:List Tok}(a:y9 bA cl)(af:bA.N x.text/\bA.A x.at_):y9 bA (cl++[x]):=by
 intro e z
 rcases Zz.1 z with z|z
 ·exact a e z
 ·simp at z;subst z;exact af
def ago{bA:hd}:∀(n:Nat) (cv k:List Tok),g4 bA k->y9 bA cv->dz bA (λcl=>y9 bA cl/\cl≠[]) (su n cv k):=by
 intro n
 induction n with
 |zero=>intro cv k _ _;rw[su];exact dz.none
 |succ n al=>
  intro cv k az aC
  rw[su]
  refine(wx az).andThen λx bV I af=> ?_
  have aE:=aC.app ⟨af.1.name af.2,af.1.pos (by rw[af.2];decide)⟩
  refine qS I (λe c4 _ J=>al _ c4 J aE) (dz.ok I ⟨aE,Zs⟩)
def abR{bA:hd}{w:Option Tok}{k:List Tok}(az:g4 bA k):dz bA (λr:bi×Int×Bool=>((r.1≠[]->bA.N r.1)/\(r.1=[]->r.2.2=false))/\bA.A r.2.1) (Cd w k):=by
 unfold Cd
 split
 ·exact dz.ok az ⟨⟨λa=>absurd rfl a,λ_=>rfl⟩,bA.a0⟩
 ·refine qS az (λe c4 _ J=> ?_) ?_
  ·exact(wx J).andThen λx bV I af=>dz.ok I ⟨⟨λ_=>af.1.name af.2,λa=>absurd a (bA.a2 _ (af.1.name af.2))⟩,af.1.pos (by rw[af.2];decide)⟩
  ·exact(wx az).andThen λx bV I af=>dz.ok I ⟨⟨λ_=>af.1.name af.2,λa=>absurd a (bA.a2 _ (af.1.name af.2))⟩,af.1.pos (by rw[af.2];decide)⟩
def g4.drop{bA:hd}{k:List Tok}(a:g4 bA k)(n:Nat):g4 bA (k.drop n):=λx af=>a x (Y6 af)
def abQ{bA:hd}{loc:Bool}{q:List fo->List Tok->ge (List fo)}{bm:List fo->Prop}{ds:List fo}{k:List Tok}(az:g4 bA k)(bL:bm ds)(aD:∀bV,g4 bA bV->dz bA bm (q ds bV)):dz bA bm (Am loc q ds k):=by
 unfold Am
 split
 ·exact dz.none
 ·split
  ·split
   ·split
    ·exact dz.none
    ·split
     ·exact dz.ok az bL
     ·exact aD _ (az.drop 1)
   ·exact aD _ (az.drop 1)
  ·exact dz.ok az bL
def R8{bA:hd}{loc:Bool}:∀(n:Nat) (ds:List fo) (k:List Tok),g4 bA k->(∀d∈ds,qc bA d)->dz bA (λds=>(∀d∈ds,qc bA d)/\ds≠[]) (jh n loc ds k):=by
 intro n
 induction n with
 |zero=>intro ds k _ _;rw[jh];exact dz.none
 |succ n al=>
  intro ds k az aH
  rw[jh]
  refine(ago n [] k az (λ_ a=>by cases a)).andThen λcl bV I af=> ?_
  unfold D9
  refine(om I).andThen λ_ c4 J _=> ?_
  refine(wx J).andThen λt fa am a6=> ?_
  have mZ:∀r:bi×Int×Bool,((r.1≠[]->bA.N r.1)/\(r.1=[]->r.2.2=false))/\bA.A r.2.1->∀d∈ds++cl.map (qn t.ty r.1 r.2.1 r.2.2),qc bA d:=by
   intro r V d asJ
   rcases Zz.1 asJ with a|a
   ·exact aH d a
   ·obtain⟨x,HS,rfl⟩:=ZE.1 a
    exact⟨(af.1 x HS).1,a6.1.type a6.2,V.1.1,V.1.2,(af.1 x HS).2,V.2⟩
  refine qS am (λw g6 _ aB=> ?_) ?_
  ·refine(abR aB).andThen λr gJ bk V=> ?_
   exact abQ bk ⟨mZ r V,by simp[af.2]⟩ (λbV a=>al _ bV a (mZ r V))
  ·refine(abR am).andThen λr gJ bk V=> ?_
   exact abQ bk ⟨mZ r V,by simp[af.2]⟩ (λbV a=>al _ bV a (mZ r V))
def apF{bA:hd}(n:Nat){k:List Tok}(az:g4 bA k):dz bA (Jl bA) (vH n k):=by
 have rq:∀(cl:List Tok) (k:List Tok),g4 bA k->y9 bA cl/\cl≠[]->dz bA (Jl bA) (andThen (eC [61] k) λE k=>andThen (arrow n k) λr k=>andThen (eC [59] k) λ_ k=>ok ⟨cl.map Tok.text,cl.map Tok.at_,E.at_,r⟩ k):=by
  intro cl k az af
  refine(om az).andThen λE c4 J asP=> ?_
  refine((ang bA n).arrow c4 J).andThen λr fa am V=> ?_
  refine(om am).andThen λ_ g6 aB _=>dz.ok aB ⟨?_,by simp[af.2],V,asP, ?_⟩
  ·intro s aF
   obtain⟨x,HS,rfl⟩:=ZE.1 aF
   exact(af.1 x HS).1
  ·intro s aF
   obtain⟨x,HS,rfl⟩:=ZE.1 aF
   exact(af.1 x HS).2
 have rn:∀x:Tok,DU bA x/\x.kind=1->y9 bA [x]:=λx af e z=>by simp at z;subst z;exact⟨af.1.name af.2,af.1.pos (by rw[af.2];decide)⟩
 unfold vH
 refine qS az (λe c4 _ J=> ?_) ?_
 ·refine dz.andThen (bm:=λcl=>y9 bA cl/\cl≠[]) ?_ rq
  refine(wx J).andThen λx fa am af=> ?_
  refine(om am).andThen λ_ g6 aB _=> ?_
  refine(ago n [x] g6 aB (rn x af)).andThen λcl gJ bk CQ=> ?_
  exact(om bk).andThen λ_ m7 b6 _=>dz.ok b6 CQ
 ·refine dz.andThen (bm:=λcl=>y9 bA cl/\cl≠[]) ?_ rq
  exact(wx az).andThen λx fa am af=>dz.ok am ⟨rn x af,Zs⟩
def apI{bA:hd}:∀(n:Nat) (cN:List fc) (k:List Tok),g4 bA k->(∀ah∈cN,Jl bA ah)->dz bA (λcN=>∀ah∈cN,Jl bA ah) (l8 n cN k):=by
 intro n
 induction n with
 |zero=>intro cN k _ _;rw[l8];exact dz.none
 |succ n al=>
  intro cN k az bL
  rw[l8]
  refine qS az (λe c4 _ J=>dz.ok J bL) ?_
  refine(apF n az).andThen λah c4 J aul=>al _ c4 J ?_
  intro VU a
  rcases Zz.1 a with a|a
  ·exact bL VU a
  ·simp at a;subst a;exact aul
def axR{bA:hd}(n:Nat){k:List Tok}(az:g4 bA k):dz bA (mQ bA) (node n k):=by
 unfold node
 refine(om az).andThen λ_ k I _=> ?_
 refine(wx I).andThen λx k J af=> ?_
 refine(om J).andThen λ_ k am _=> ?_
 have rq:∀(ez:List fo) (k:List Tok),g4 bA k->(∀d∈ez,qc bA d)->dz bA (mQ bA) (andThen (eC [114,101,116,117,114,110,115] k) λ_ k=>andThen (eC [40] k) λ_ k=>andThen (jh n false [] k) λout k=>andThen (eC [41] k) λ_ k=>
  ir [118,97,114] k λe k=>andThen (match e with
   |some _=>andThen (jh n true [] k) λds k=>andThen (eC [59] k) λ_ k=>ok ds k
   |none=>ok [] k) λloc k=>
  andThen (eC [108,101,116] k) λ_ k=>andThen (l8 n [] k) λcN k=>ok ⟨x.text,x.at_,ez,out,loc,cN⟩ k):=by
  intro ez k az aN
  refine(om az).andThen λ_ k I _=> ?_
  refine(om I).andThen λ_ k J _=> ?_
  refine(R8 n [] k J (λ_ a=>by cases a)).andThen λout k am bj=> ?_
  refine(om am).andThen λ_ k aB _=> ?_
  have aes:∀(loc:List fo) (k:List Tok),g4 bA k->(∀d∈loc,qc bA d)->dz bA (mQ bA) (andThen (eC [108,101,116] k) λ_ k=>andThen (l8 n [] k) λcN k=>ok ⟨x.text,x.at_,ez,out,loc,cN⟩ k):=by
   intro loc k az atw
   refine(om az).andThen λ_ k bk _=> ?_
   exact(apI n [] k bk (λ_ a=>by cases a)).andThen λcN k b6 auo=>dz.ok b6 ⟨af.1.name af.2,aN,bj.1,atw,bj.2,auo,af.1.pos (by rw[af.2];decide)⟩
  refine qS aB (λe c4 _ bk=> ?_) ?_
  ·refine dz.andThen (bm:=λds=>∀d∈ds,qc bA d) ?_ aes
   refine(R8 n [] c4 bk (λ_ a=>by cases a)).andThen λds k b6 TI=> ?_
   exact(om b6).andThen λ_ k c5 _=>dz.ok c5 TI.1
  ·exact dz.andThen (bm:=λds=>∀d∈ds,qc bA d) (dz.ok aB (λ_ a=>by cases a)) aes
 refine qS am (λe c4 _ aB=> ?_) ?_
 ·exact dz.andThen (bm:=λds=>∀d∈ds,qc bA d) (dz.ok aB (λ_ a=>by cases a)) rq
 ·refine dz.andThen (bm:=λds=>∀d∈ds,qc bA d) ?_ rq
  refine(R8 n [] _ am (λ_ a=>by cases a)).andThen λds k b6 TI=> ?_
  exact(om b6).andThen λ_ k c5 _=>dz.ok c5 TI.1
def axT{bA:hd}:∀(n:Nat) (ai:List Node) (k:List Tok),g4 bA k->(∀g∈ai,mQ bA g)->dz bA (λai=>(∀g∈ai,mQ bA g)/\ai≠[]) (p1 n ai k):=by
 intro n
 induction n with
 |zero=>intro ai k _ _;rw[p1];exact dz.none
 |succ n al=>
  intro ai k az bU
  rw[p1]
  refine(axR n az).andThen λg c4 J ata=> ?_
  have ad8:∀SH∈ai++[g],mQ bA SH:=by
   intro SH a
   rcases Zz.1 a with a|a
   ·exact bU SH a
   ·simp at a;subst a;exact ata
  split
  ·exact dz.none
  ·split
   ·exact dz.ok J ⟨ad8,Zs⟩
   ·exact al _ _ J ad8
end Go.aR

namespace Go.Proofs.YtpfajohmofnkfaaGreatDoor
open Go.bd Go.aR
noncomputable section
structure Gf(s:bi):Prop where
 ne:s≠[]
 len:s.length<=32
 anK:∀c,s.head?=some c->rs c=true
 all:∀c∈s,ja c=true
 res:s∉wU
 ty:lD s=none
def MW(t:de)(n:Int):Prop:=gR t=true/\uR t n=true/\0<=n/\n<18446744073709551616
def atT:uR ⟨true,false,1⟩ 0=true:=by decide+kernel
def atU:uR ⟨true,false,1⟩ 1=true:=by decide+kernel
def gV:hd:=⟨Gf,λt=>gR t=true,MW,λ_ a=>a.ne,rfl,⟨rfl,atT,Zo,Zo⟩,⟨rfl,atU,Zo,Zo⟩,λ_ _ a=>a.1,λ_=>True,trivial⟩
def B2(n:Nat):hd:={gV with A:=λF=>0<=F/\F<=n,a0:=⟨Int.le_refl 0,Int.natCast_nonneg n⟩}
def aBh{
 s:bi}{i:Nat}{x:Tok}(a:yV s i=some x):DU gV (l1 x i):=by
 unfold yV at a
 cases aA:s[i]? with
 |none=>rw[aA]at a;cases a
 |some c=>
  rw[aA]at a
  simp only[]at a
  obtain⟨af,z⟩:=Zc.1 aA
  have aH:s.drop i=c::s.drop (i+1):=by rw[Zv af,z]
  split at a
  ·unfold Fu at a
   simp only[]at a
   split at a
   ·cases a
   ·have c2:=aha ((s.drop i).takeWhile iS)
    split at a
    ·cases a
     exact⟨λa=>by simp[l1]at a,λa=>by simp[l1]at a,λ_=>by simp only[l1];omega,λa=>by simp[l1]at a,λ_=>trivial⟩
    ·split at a
     ·rename_i t a6
      split at a
      ·rename_i gH
       cases a
       simp only[Zp]at gH
       exact⟨λa=>by simp[l1]at a,λa=>by simp[l1]at a,λa=>by simp[l1]at a,λ_=>⟨Wy a6,gH.2,by simp only[l1];omega,by simp only[l1];omega⟩,λ_=>trivial⟩
      ·cases a
     ·cases a
  ·split at a
   ·rename_i aj
    split at a
    ·rename_i az
     cases a
     have bt:(s.drop i).takeWhile ja=c::(s.drop (i+1)).takeWhile ja:=by
      rw[aH,YG]
      have:ja c=true:=by simp[ja,aj]
      simp[this]
     refine⟨λa=> ?_,λa=> ?_,λa=> ?_,λa=> ?_,λ_=>trivial⟩
     ·simp only[l1,u4]at a ⊢
      split at a
      ·cases a
      ·rename_i aE
       split at a
       ·cases a
       ·rename_i V
        have hq:((s.drop i).takeWhile ja).length<=32:=by simpa[u4]using az
        refine⟨by rw[bt];simp,hq, ?_,ahT ja _,V,by simpa using aE⟩
        intro f5 cz
        rw[bt]at cz
        cases cz
        exact aj
     ·simp only[l1,u4]at a ⊢
      split at a
      ·rename_i aE
       cases a6:lD ((s.drop i).takeWhile ja)with
       |none=>rw[a6]at aE;cases aE
       |some t=>exact Wy a6
      ·split at a<;>cases a
     ·simp only[l1,u4]at a
      split at a
      ·cases a
      ·split at a<;>cases a
     ·simp only[l1,u4]at a
      split at a
      ·cases a
      ·split at a<;>cases a
    ·cases a
   ·cases aF:wX s i with
    |none=>rw[aF]at a;cases a
    |some p=>
     rw[aF]at a
     cases a
     exact⟨λa=>by simp[l1,FL]at a,λa=>by simp[l1,FL]at a,λa=>by simp[l1,FL]at a,λa=>by simp[l1,FL]at a,λ_=>trivial⟩
def aBk{s:bi}:∀(n:Nat) (aT:List Tok) (i:Nat) (ni:List Tok),g4 gV aT->rK s n aT i=some (.ok ni)->g4 gV ni:=by
 intro n
 induction n with
 |zero=>intro aT i ni _ a;cases a
 |succ n al=>
  intro aT i ni a6 a
  rw[rK]at a
  split at a
  ·split at a
   ·cases a
   ·rename_i x af
    refine al _ _ _ ?_ a
    intro e z
    rcases Zz.1 z with z|z
    ·exact a6 e z
    ·simp at z;subst z;exact aBh af
  ·cases a
   intro e z
   rcases Zz.1 z with z|z
   ·exact a6 e z
   ·simp at z;subst z;exact⟨λa=>by simp at a,λa=>by simp at a,λa=>by simp at a,λa=>by simp at a,λ_=>trivial⟩
def aBi{s:bi}:∀(n:Nat) (aT:List Tok) (i:Nat) (ni:List Tok),(∀x∈aT,x.kind≠7->0<=x.at_/\x.at_<=s.length)->rK s n aT i=some (.ok ni)->∀x∈ni,x.kind≠7->0<=x.at_/\x.at_<=s.length:=by
 intro n
 induction n with
 |zero=>intro aT i ni _ a;cases a
 |succ n al=>
  intro aT i ni a6 a
  rw[rK]at a
  split at a
  ·rename_i aN
   split at a
   ·cases a
   ·rename_i x af
    refine al _ _ _ ?_ a
    intro e z
    rcases Zz.1 z with z|z
    ·exact a6 e z
    ·simp at z;subst z;intro _;simp only[l1];omega
  ·cases a
   intro e z
   rcases Zz.1 z with z|z
   ·exact a6 e z
   ·simp at z;subst z;intro a;exact absurd rfl a
def ayB{s:bi}{ai:List Go.aR.Node}(a:Dk s= .ok ai):(∀g∈ai,mQ (B2 s.length) g)/\ai≠[]/\nC ai=none:=by
 unfold Dk at a
 split at a
 ·rename_i r V
  subst a
  unfold Dl at V
  split at V
  ·cases V
  ·cases V
  ·rename_i aT a6
   have auY:=aBi _ _ _ _ (λ_ a=>by cases a) a6
   have Lm:g4 (B2 s.length) aT:=λx af=>by
    obtain⟨I,J,am,aB,_⟩:=aBk _ _ _ _ (λ_ a=>by cases a) a6 x af
    exact⟨I,J,am,aB,auY x af⟩
   split at V
   ·cases V
   ·cases V
   ·rename_i jj k aE
    obtain⟨I,J⟩:=axT (bA:=B2 s.length) _ _ _ Lm (λ_ a=>by cases a) _ _ aE
    split at V
    ·cases V
    ·rename_i az
     cases V
     exact⟨J.1,J.2,az⟩
 ·cases a
def axL{n:Nat}{E:be}(a:xF (B2 n) E):xF gV E:=⟨trivial,a.bR,a.cq,a.qh,a.nm,a.Iv,a.no,a.ty,a.dH,a.VF,a.mj,a.a2,a.tc⟩
mutual
def aii{n:Nat}:∀{E:be},d2 (B2 n) E->d2 gV E
 | .mk ..,a=>by rw[d2]at a ⊢;exact⟨axL a.1,aij a.2⟩
def aij{n:Nat}:∀{k:List be},e0 (B2 n) k->e0 gV k
 |[],_=>e0.nil
 |_::_,a=>by rw[e0]at a;exact e0.cons (aii a.1) (aij a.2)
end
def R6{n:Nat}{d:fo}(a:qc (B2 n) d):qc gV d:=⟨a.name,a.type,a.on,a.no,trivial,trivial⟩
def axO{n:Nat}{g:Go.aR.Node}(a:mQ (B2 n) g):mQ gV g:=⟨a.name,λd aH=>R6 (a.ez d aH),λd aH=>R6 (a.out d aH),λd aH=>R6 (a.loc d aH),a.some,λah bL=>⟨(a.eqs ah bL).left,(a.eqs ah bL).some,aii (a.eqs ah bL).right,trivial,λ_ _=>trivial⟩,trivial⟩
def ayA{s:bi}{ai:List Go.aR.Node}(a:Dk s= .ok ai):(∀g∈ai,mQ gV g)/\ai≠[]/\nC ai=none:=
 have q:=ayB a
 ⟨λg bU=>axO (q.1 g bU),q.2⟩
mutual
def oe:be->List be
 | .mk q F nm no t n args=> .mk q F nm no t n args::og args
def og:List be->List be
 |[]=>[]
 |E::k=>oe E++og k
end
mutual
def aid{iX:Type}(step:iX->be->iX×Bool)(a:∀s E,(step s E).2=true):∀(E:be) (s:iX),Dz step s E=(oe E).foldl (λs E=>(step s E).1) s
 | .mk q F nm no t n args,s=>by
   rw[Dz,Zu (a _ _),oe,Z7]
   exact aie step a args _
def aie{iX:Type}(step:iX->be->iX×Bool)(a:∀s E,(step s E).2=true):∀(k:List be) (s:iX),yZ step s k=(og k).foldl (λs E=>(step s E).1) s
 |[],s=>by rw[yZ,og];rfl
 |E::k,s=>by
  rw[yZ,og,List.foldl_append,aid step a E s]
  exact aie step a k _
end
def sr(ah:fc):List (bi×Int):=ah.left.zipIdx.map λx=>(x.1,(ah.c7[x.2]?).getD 0)
def oc(t:bi->Option ej)(s:(bi->Option Int)×(Int×Int))(x:bi×Int):(bi->Option Int)×(Int×Int):=(λw=>if w=x.1 then some ((s.1 x.1).getD 0+1)else s.1 w,LL t s.1 s.2 x.1 x.2)
def nd(t:bi->Option ej)(ai:List Go.aR.Node)(q:Nat)(s:(bi->Option Int)×(Int×Int))(ah:fc):(bi->Option Int)×(Int×Int):=
 (((sr ah).foldl (oc t) s).1,Qh t ai q ((sr ah).foldl (oc t) s).2 ah.right)
def sF(ad:bi->Option Int)(f:Int×Int)(x:Int×fo):Int×Int:=if x.1≠1/\(ad x.2.name).getD 0=0 then nu f 37 x.2.at_ else f
def rA(ai:List Go.aR.Node)(q:Nat)(g:Go.aR.Node):Int×Int:=if (nv ai g.name).getD 0<q then nu (0,0) 24 g.at_ else(0,0)
def qF(ai:List Go.aR.Node)(q:Nat)(g:Go.aR.Node):Int×Int:=
 (hM g).foldl (sF (g.eqs.foldl (nd (fH g) ai q) (λ_=>none,vF (fH g) g (rA ai q g))).1) (g.eqs.foldl (nd (fH g) ai q) (λ_=>none,vF (fH g) g (rA ai q g))).2
def xR(ai:List Go.aR.Node):Nat->List Go.aR.Node->Int×Int
 |_,[]=>(0,0)
 |q,g::k=>if (qF ai q g).1≠0 then qF ai q g else xR ai (q+1) k
def uo(ai:List Go.aR.Node):Int×Int:=xR ai 0 ai
def GV(f:Int×Int){c:Int}(F:Int)(aA:c≠0):(nu f c F).1≠0:=by
 unfold nu
 split
 ·exact aA
 ·rename_i a;exact a
def ap9{α:Type}(bad:α->Prop)[DecidablePred bad](c F:α->Int)(aA:∀x,c x≠0):∀(k:List α) (f:Int×Int),(k.foldl (λf x=>if bad x then nu f (c x) (F x)else f) f).1=0↔f.1=0/\∀x∈k,¬bad x:=by
 intro k
 induction k with
 |nil=>intro f;simp
 |cons x k al=>
  intro f
  rw[Z7,al]
  by_cases aj:bad x
  ·have:=GV f (F x) (aA x)
   simp[aj,this]
  ·simp[aj]
def ao5{g:Go.aR.Node}{x:Int×fo}(a:x∈hM g):x.1=1/\x.2∈g.ez\/x.1=2/\x.2∈g.out\/x.1=3/\x.2∈g.loc:=by
 simp only[hM,Zz,ZE]at a
 rcases a with ⟨d,a,rfl⟩|⟨d,a,rfl⟩|⟨d,a,rfl⟩<;>simp[a]
def kT(w:bi)(k:List bi):Int:=((k.filter λx=>decide (x=w)).length:Int)
def JR(w x:bi)(k:List bi):kT w (x::k)=(if x=w then 1 else 0)+kT w k:=by
 unfold kT
 rw[List.filter_cons]
 by_cases a:x=w
 ·simp[a];omega
 ·simp[a]
def RZ(w:bi):kT w []=0:=rfl
def GL(w:bi)(k:List bi):0<=kT w k:=by unfold kT;omega
def abE(w:bi)(k m:List bi):kT w (k++m)=kT w k+kT w m:=by unfold kT;rw[List.filter_append,ZO];omega
def abF{w:bi}{k:List bi}:0<kT w k↔w∈k:=by
 induction k with
 |nil=>simp[RZ]
 |cons x k al=>
  have:=GL w k
  rw[JR]
  by_cases a:x=w
  ·simp[a];omega
  ·have cz:¬w=x:=λE=>a E.symm
   simp[a,cz,al]
def Vs(t:bi->Option ej):∀(k:List (bi×Int)) (s:(bi->Option Int)×(Int×Int)) (w:bi),((k.foldl (oc t) s).1 w).getD 0=(s.1 w).getD 0+kT w (k.map Prod.fst):=by
 intro k
 induction k with
 |nil=>intro s w;simp[RZ]
 |cons x k al=>
  intro s w
  rw[Z7,al,ZL,JR]
  simp only[oc]
  by_cases a:w=x.1
  ·subst a;simp;omega
  ·have cz:¬x.1=w:=λE=>a E.symm
   simp[a,cz]
def aw4(t:bi->Option ej):∀(k:List (bi×Int)) (s:(bi->Option Int)×(Int×Int)),(∀w,0<=(s.1 w).getD 0)->((k.foldl (oc t) s).2.1=0↔s.2.1=0/\∀w∈k.map Prod.fst,∃v,t w=some v/\v.kind≠1/\(s.1 w).getD 0+kT w (k.map Prod.fst)<=1):=by
 intro k
 induction k with
 |nil=>intro s _;simp
 |cons x k al=>
  intro s aF
  have tx:∀w,0<=((oc t s x).1 w).getD 0:=by
   intro w
   have:=aF w
   have:=aF x.1
   simp only[oc]
   split
   ·simp;omega
   ·assumption
  rw[Z7,al _ tx]
  have CP:=aF x.1
  constructor
  ·rintro⟨I,J⟩
   have am:s.2.1=0/\∃v,t x.1=some v/\v.kind≠1/\(s.1 x.1).getD 0+1<=1:=by
    simp only[oc,LL]at I
    cases a6:t x.1 with
    |none=>rw[a6]at I;exact absurd I (GV _ _ Zd)
    |some v=>
     rw[a6]at I
     simp only[]at I
     split at I
     ·exact absurd I (GV _ _ Zd)
     ·rename_i bL
      exact⟨I,v,rfl,λE=>bL (.inl E),by have:¬1<(s.1 x.1).getD 0+1:=λE=>bL (.inr E);omega⟩
   refine⟨am.1,λw bt=> ?_⟩
   rw[ZL,Zr]at bt
   rw[ZL,JR]
   by_cases yx:w=x.1
   ·subst yx
    obtain⟨v,aB,bk,b6⟩:=am.2
    refine⟨v,aB,bk, ?_⟩
    by_cases bp:x.1∈k.map Prod.fst
    ·obtain⟨gK,_,_,c5⟩:=J _ bp
     simp only[oc,ZC,YQ]at c5 ⊢
     omega
    ·have:¬0<kT x.1 (k.map Prod.fst):=λE=>bp (abF.1 E)
     have:=GL x.1 (k.map Prod.fst)
     simp only[ZC]
     omega
   ·rcases bt with bt|bt
    ·exact absurd bt yx
    ·obtain⟨v,aB,bk,b6⟩:=J _ bt
     have Lr:¬x.1=w:=λE=>yx E.symm
     simp only[oc,yx,ZA]at b6
     exact⟨v,aB,bk,by simp only[Lr,ZA];omega⟩
  ·rintro⟨I,J⟩
   obtain⟨v,aB,bk,b6⟩:=J x.1 Zs
   rw[ZL,JR,Zu rfl]at b6
   have aA:=GL x.1 (k.map Prod.fst)
   refine⟨?_,λw bt=> ?_⟩
   ·simp only[oc,LL,aB]
    rw[Zg (by rintro(E|E);exact bk E;omega)]
    exact I
   ·obtain⟨gK,bR,cq,cP⟩:=J w (by rw[ZL];exact Zt _ bt)
    refine⟨gK,bR,cq, ?_⟩
    rw[ZL,JR]at cP
    simp only[oc]
    by_cases yx:w=x.1
    ·subst yx;simp only[ZC,YQ];simp only[ZC]at cP;omega
    ·have Lr:¬x.1=w:=λE=>yx E.symm
     simp only[yx,ZA];simp only[Lr,ZA]at cP;omega
def Vg(ah:fc):(sr ah).map Prod.fst=ah.left:=by
 simp only[sr,Yy]
 have:(Prod.fst∘λx:bi×Nat=>(x.1,(ah.c7[x.2]?).getD 0))=Prod.fst:=rfl
 rw[this]
 exact List.zipIdx_map_fst ..
def Ju(t:bi->Option ej)(ai:List Go.aR.Node)(q:Nat)(E:be):Prop:=∀x∈oe E,(pY x=true->(t x.name).isSome=true)/\(x.kind=25->∃W,nv ai x.name=some W/\W<q)
def azA{t:bi->Option ej}{ai:List Go.aR.Node}{q:Nat}{f:Int×Int}{E:be}:(Qh t ai q f E).1=0↔f.1=0/\Ju t ai q E:=by
 unfold Qh Ju
 rw[aid _ (λ_ _=>rfl)]
 generalize oe E=k
 induction k generalizing f with
 |nil=>simp
 |cons x k al=>
  rw[Z7,al]
  have I:(tW t ai q f x).1.1=0↔f.1=0/\(pY x=true->(t x.name).isSome=true)/\(x.kind=25->∃W,nv ai x.name=some W/\W<q):=by
   simp only[tW,IT]
   have J:(yO t f x).1=0↔f.1=0/\(pY x=true->(t x.name).isSome=true):=by
    unfold yO
    by_cases a:pY x=true
    ·rw[Zu a]
     by_cases cz:(t x.name).isSome=true
     ·rw[Zu cz];simp[cz]
     ·rw[Zg cz];simp[a,cz,GV]
    ·rw[Zg a];simp[a]
   by_cases ra:x.kind=25
   ·rw[Zu ra]
    cases ch:nv ai x.name with
    |none=>simp[GV,ra]
    |some W=>
     simp only[]
     by_cases aD:q<=W
     ·rw[Zu aD]
      have:¬W<q:=Zo
      simp[GV,ra,this]
     ·rw[Zg aD,J]
      have:W<q:=Zo
      simp[ra,this]
   ·rw[Zg ra,J];simp[ra]
  rw[I]
  simp only[Zr,forall_eq_or_imp,and_assoc]
def ay5(t:bi->Option ej)(ai:List Go.aR.Node)(q:Nat):∀(k:List fc) (s:(bi->Option Int)×(Int×Int)) (w:bi),((k.foldl (nd t ai q) s).1 w).getD 0=(s.1 w).getD 0+kT w (k.flatMap fc.left):=by
 intro k
 induction k with
 |nil=>intro s w;simp[RZ]
 |cons ah k al=>
  intro s w
  rw[Z7,al,YM,abE]
  simp only[nd]
  rw[Vs,Vg]
  omega
def VV(t:bi->Option ej)(ai:List Go.aR.Node)(q:Nat):∀(k:List fc) (s:(bi->Option Int)×(Int×Int)),(∀w,0<=(s.1 w).getD 0)->((k.foldl (nd t ai q) s).2.1=0↔s.2.1=0/\(∀w∈k.flatMap fc.left,∃v,t w=some v/\v.kind≠1/\(s.1 w).getD 0+kT w (k.flatMap fc.left)<=1)/\∀ah∈k,Ju t ai q ah.right):=by
 intro k
 induction k with
 |nil=>intro s _;simp
 |cons ah k al=>
  intro s aF
  have tx:∀w,0<=((nd t ai q s ah).1 w).getD 0:=by
   intro w
   simp only[nd]
   rw[Vs]
   have:=aF w
   have:=GL w ((sr ah).map Prod.fst)
   omega
  rw[Z7,al _ tx]
  have bF:(nd t ai q s ah).2.1=0↔(s.2.1=0/\∀w∈ah.left,∃v,t w=some v/\v.kind≠1/\(s.1 w).getD 0+kT w ah.left<=1)/\Ju t ai q ah.right:=by
   simp only[nd]
   rw[azA,aw4 t _ _ aF,Vg]
  have cn:∀w,((nd t ai q s ah).1 w).getD 0=(s.1 w).getD 0+kT w ah.left:=by
   intro w
   simp only[nd]
   rw[Vs,Vg]
  rw[bF]
  simp only[cn,YM,abE,Zz,Zr,forall_eq_or_imp]
  constructor
  ·rintro⟨⟨⟨I,J⟩,am⟩,aB,bk⟩
   refine⟨I,λw bt=> ?_,am,bk⟩
   by_cases bp:w∈k.flatMap fc.left
   ·obtain⟨v,bR,cq,cP⟩:=aB w bp
    exact⟨v,bR,cq,Zo⟩
   ·have aS:¬0<kT w (k.flatMap fc.left):=λE=>bp (abF.1 E)
    have:=GL w (k.flatMap fc.left)
    obtain⟨v,bR,cq,cP⟩:=J w (bt.resolve_right bp)
    exact⟨v,bR,cq,Zo⟩
  ·rintro⟨I,J,am,aB⟩
   refine⟨⟨⟨I,λw bt=> ?_⟩,am⟩,λw bt=> ?_,aB⟩
   ·obtain⟨v,bR,cq,cP⟩:=J w (.inl bt)
    have:=GL w (k.flatMap fc.left)
    exact⟨v,bR,cq,Zo⟩
   ·obtain⟨v,bR,cq,cP⟩:=J w (.inr bt)
    exact⟨v,bR,cq,Zo⟩
def ah7(ad:bi->Option Int)(k:List (Int×fo))(f:Int×Int):(k.foldl (sF ad) f).1=0↔f.1=0/\∀x∈k,¬(x.1≠1/\(ad x.2.name).getD 0=0):=
 ap9 (λx:Int×fo=>x.1≠1/\(ad x.2.name).getD 0=0) (λ_=>37) (λx=>x.2.at_) (λ_=>Zd) k f
section
variable{X:cb}{h T c6 aP aM:K ag}{j an aG a1:Nat}
structure y8(X:cb)(gM:K ag)(d1 b5 df:Nat)(p:D)(q:Int)(cZ:D)(f:Int×Int)(ad:bi->Option Int)(h:K ag)(n:Nat):Prop where
 le:d1<=n
 j2:f8 X h b5 p q cZ (.map df) f
 kT:pm X h df (oF ad)
 low:∀e,e<d1->e≠b5->e≠df->Y X h e=Y X gM e
def y8.ab{gM:K ag}{d1 b5 df:Nat}{p cZ:D}{q:Int}{f:Int×Int}{ad:bi->Option Int}(a:y8 X gM d1 b5 df p q cZ f ad aP aG)(kW:b5<d1)(K0:df<d1)(aE:aG<=a1)(aD:∀e,e<aG->Y X aM e=Y X aP e):y8 X gM d1 b5 df p q cZ f ad aM a1:=by
 have gq:=a.le
 refine⟨Zo, ?_,a.kT.ab (aD _ Zo),λe I J am=>by rw[aD e Zo];exact a.low e I J am⟩
 have:=a.j2
 unfold f8 at*
 rw[aD _ Zo];exact this
def D0(ah:fc)(i:Nat):Int:=(ah.c7[i]?).getD 0
def awJ{ah:fc}{i:Nat}{w:bi}(a:ah.left[i]? =some w):(sr ah)[i]? =some (w,D0 ah i):=by
 unfold sr
 rw[Zy,WQ a];rfl
def awK(ah:fc):(sr ah).length=ah.left.length:=by simp[sr]
def aog(aw:du X){P:Nat->Prop}{b5 df:Nat}{p cZ:D}{q:Nat}{ai:List Go.aR.Node}{g:Go.aR.Node}(aE:(o X).a2<=j)(kW:(o X).a2<=b5)(yk:(o X).a2<=df)(AT:b5<j)(v1:df<j)(Cy:b5≠df)
 (bE:∀e,P e->e<j/\e≠b5/\e≠df)(bU:nQ X h P ai p)(aD:ai[q]? =some g)(a6:s2 X h P cZ (fH g))(aA:f8 X h b5 p q cZ (.map df) (0,0))(gF:pm X h df (oF λ_=>none)):
 aY X 71 [.ptr b5 0] h j (λac T an=>ac= .tuple []/\f8 X T b5 p q cZ (.map df) (qF ai q g)/\j<=an/\∀e,e<j->e≠b5->e≠df->Y X T e=Y X h e) (λ_ _ _=>False):=by
 refine JP (aml X) (aw.none _ _ rfl) ?_
 rw[amm]
 unfold aaz
 obtain⟨iV,Bq,L5,aEs,rfl,jA,agP,aeR,aeQ⟩:=id bU
 have K7:=aeQ.wide
 have aC3:=(Zc.1 aD).1
 obtain⟨row,e3,jD⟩:=aeQ.get q g aD
 have ES:=jD
 have jE:=jD.jH
 obtain⟨dj,dG,aW,eP,bQ,cf,cM,ew,br,rfl,oP,my,qz,j8,e2⟩:=jD
 have at4:=bE iV jA
 have d3:aO X h (.ptr b5 0)=some (.ptr iV 0):=by unfold f8 at aA;rw[bO aA];rfl
 have db:aO X h (.ptr b5 1)=some (.Z (q:Int)):=by unfold f8 at aA;rw[bO aA];rfl
 have dS:=aeR.f3 q (by rw[K7.1];omega)
 refine AC ⟨?_⟩
 generalize dZ:bn X h j _=aP
 have h6:Y X aP j=zu [.ptr b5 0] 1:=by rw[<-dZ,bg aE];rfl
 have bN:bo X h j aP (j+1):=by rw[<-dZ];exact dM
 clear dZ
 have wu:∀e,P e->Y X aP e=Y X h e:=λe z=>bN.ab e (bE e z).1
 rw[<-bN.fZ _ _ AT]at d3 db
 rw[<-bN.fZ _ _ at4.1]at agP
 have ic:=(aeR.ab wu).row Zd e3
 refine he (bO h6) @d3 (Za @db (Za @agP (Za @dS @ic))) ⟨?_⟩
 refine fw (hF (q:=6) (b:=j+1+13) (U:=0) (n:=6) (c:=K.ofList [.str [], .Z 0, .aV, .aV, .aV, .aV] 0 .nil) (bg Zo) Zo rfl Zd Zd jE) ?_
 generalize dI:bn X _ (j+1+13) _=aM
 have b7:Y X aM (j+1+13)=zu [.str g.name, .Z g.at_,dj,dG,aW,eP] 6:=by rw[<-dI,bg Zo];rfl
 have bJ:bo X aP (j+1) aM (j+1+14):=by rw[<-dI];exact dM
 clear dI
 rw[<-bJ.ab _ Zo]at h6
 have jk:bo X h j aM (j+1+14):=⟨Zo,λe z=>by rw[bJ.ab e Zo,bN.ab e z]⟩
 have oZ:∀e,P e->Y X aM e=Y X h e:=λe z=>jk.ab e (bE e z).1
 rw[<-bJ.fZ _ _ Zo]at d3 db
 refine he (bO h6) @d3 (bO b7) ⟨?_⟩
 refine(Sz (j:=j+1+15+12) (h:=aM) aw Zo (bU.ab (bm:=P) oZ (λ_ a=>a)) (λe z=>zq (bE e z).1) g.name).Zm ?_
 rintro ac aX bf ⟨rfl,cg⟩
 have ip:=cg.le
 rw[<-cg.ab _ Zo]at h6 b7
 rw[<-cg.fZ _ _ Zo]at d3 db
 have tg:bo X h j aX bf:=⟨Zo,λe z=>by rw[cg.ab e Zo,jk.ab e z]⟩
 have kZ:∀e,P e->Y X aX e=Y X h e:=λe z=>tg.ab e (bE e z).1
 have vT:y8 X aX bf b5 df (.ptr iV 0) q cZ (0,0) (λ_=>none) aX bf:=⟨Zi _,by unfold f8 at*;rw[tg.ab _ AT];exact aA,gF.ab (tg.ab _ v1),λ_ _ _ _=>rfl⟩
 generalize Lk:(nv ai g.name).getD 0=Qz
 have gP:rA ai q g=if Qz<q then nu (0,0) 24 g.at_ else(0,0):=by unfold rA;rw[Lk]
 refine he (bO h6) @d3 @db ⟨?_⟩
 refine kt (λc1 T aU=>c1.g 1=some (.ptr j 0)/\c1.g 2=some (.ptr (j+1+13) 0)/\c1.bc=[]/\y8 X aX bf b5 df (.ptr iV 0) q cZ (rA ai q g) (λ_=>none) T aU) (λW bK=> ?_) ?_
 ·by_cases c2:Qz<q
  ·have aJ:=zs Qz q
   rw[Zu c2]at gP
   refine et @aJ (bO h6) (bO b7) ⟨?_⟩
   refine(xS (h:=aX) aw kW vT.j2 24 g.at_).Zm ?_
   rintro ac bC da ⟨rfl,vY,jC,gh⟩
   refine cK ⟨?_⟩
   exact bK _ _ _ ⟨bw,bw,rfl,Zo,by rw[gP];exact vY,vT.kT.ab (gh _ (λE=>Cy E.symm)),λe I J am=>gh e J⟩
  ·have aJ:=zr Qz q
   rw[Zg c2]at gP
   refine ci @aJ ⟨?_⟩
   exact bK _ _ _ ⟨bw,bw,rfl,by rw[gP];exact vT⟩
 rintro H bC da ⟨t1,dQ,kO,re⟩
 have jC:=re.le
 have aqp:Y X bC j=zu [.ptr b5 0] 1:=by rw[re.low _ Zo Zo Zo];exact h6
 have aqu:Y X bC (j+1+13)=zu [.str g.name, .Z g.at_,dj,dG,aW,eP] 6:=by rw[re.low _ Zo Zo Zo];exact b7
 have ku:∀e,P e->Y X bC e=Y X h e:=λe z=>by have:=bE e z;rw[re.low e Zo this.2.1 this.2.2,kZ e z]
 show cL _ _
 refine he @t1 @dQ (Za (bO aqp) (bO aqu)) ⟨?_⟩
 refine(aoD (j:=da) (h:=bC) aw Zo kW Zo (λe z=>⟨zq (bE e z).1,(bE e z).2.1⟩) (a6.ab (bm:=P) ku (λ_ a=>a)) re.j2 (ES.ab (bm:=P) ku (λ_ a=>a)) trivial).Zm ?_
 rintro ac bW b4 ⟨rfl,EB,ib,md⟩
 have im:y8 X aX bf b5 df (.ptr iV 0) q cZ (vF (fH g) g (rA ai q g)) (λ_=>none) bW b4:=⟨Zo,EB,re.kT.ab (md _ Zo (λE=>Cy E.symm)),λe I J am=>by rw[md e Zo J];exact re.low e I J am⟩
 have aqv:Y X bW (j+1+13)=zu [.str g.name, .Z g.at_,dj,dG,aW,eP] 6:=by rw[im.low _ Zo Zo Zo];exact b7
 have lM:=e2.wide
 have d5:=j8.len
 have hO:=j8.many
 rw[lM.1]at d5 hO
 have Ua:qF ai q g=(hM g).foldl (sF (g.eqs.foldl (nd (fH g) ai q) (λ_=>none,vF (fH g) g (rA ai q g))).1) (g.eqs.foldl (nd (fH g) ai q) (λ_=>none,vF (fH g) g (rA ai q g))).2:=rfl
 generalize Pe:((λ_=>none,vF (fH g) g (rA ai q g)):(bi->Option Int)×(Int×Int))=p4 at Ua
 have arT:y8 X aX bf b5 df (.ptr iV 0) q cZ p4.2 p4.1 bW b4:=by rw[<-Pe];exact im
 have h9:∀w,0<=(p4.1 w).getD 0/\(p4.1 w).getD 0<=((0:Nat):Int)*1048576:=by intro w;rw[<-Pe];simp
 refine he @dQ (bO aqv) @d5 ⟨?_⟩
 refine gZ ?_
 refine fK (λm H T aU=>∃(W:Nat),H.g 1=some (.ptr j 0)/\H.g 2=some (.ptr (j+1+13) 0)/\H.bc=[]/\H.g 49=some eP/\H.g 50=some (.Z (g.eqs.length:Int))/\H.g 51=some (.Z (W:Int))/\W+m=g.eqs.length
  /\y8 X aX bf b5 df (.ptr iV 0) q cZ ((g.eqs.take W).foldl (nd (fH g) ai q) p4).2 ((g.eqs.take W).foldl (nd (fH g) ai q) p4).1 T aU/\(∀w,0<=(((g.eqs.take W).foldl (nd (fH g) ai q) p4).1 w).getD 0/\(((g.eqs.take W).foldl (nd (fH g) ai q) p4).1 w).getD 0<=(W:Int)*1048576))
  g.eqs.length ⟨0,a7 t1,a7 dQ,kO,bw,bw,fW,Zo,arT,h9⟩ ?_
 clear t1 dQ kO
 rintro m H b9 eB ⟨W,t1,dQ,kO,sE,w6,w7,bK,jl,adJ⟩
 have tq:=jl.le
 have aqq:Y X b9 j=zu [.ptr b5 0] 1:=by rw[jl.low _ Zo Zo Zo];exact h6
 have aqw:Y X b9 (j+1+13)=zu [.str g.name, .Z g.at_,dj,dG,aW,eP] 6:=by rw[jl.low _ Zo Zo Zo];exact b7
 have wv:∀e,P e->Y X b9 e=Y X h e:=λe z=>by have:=bE e z;rw[jl.low e Zo this.2.1 this.2.2,kZ e z]
 cases m with
 |zero=>
  have aJ:=zr W g.eqs.length
  rw[Zx Zo]at jl
  generalize g.eqs.foldl (nd (fH g) ai q) p4=G at jl Ua
  refine gg @w7 @w6 @dQ @aJ (bO aqw) ⟨?_⟩
  refine(NE aw Zo).Zm ?_
  rintro ac cB ef ⟨rfl,rfl,eW,cw,d9,fQ⟩
  generalize yp:eB+1=dV at*
  have ru:∀e,P e->Y X cB e=Y X h e:=λe z=>by rw[eW.ab e (zq (bE e z).1),wv e z]
  have Cx:f8 X cB b5 (.ptr iV 0) q cZ (.map df) G.2:=by have:=jl.j2;unfold f8 at*;rw[eW.ab b5 Zo];exact this
  have anB:Y X cB j=zu [.ptr b5 0] 1:=by rw[eW.ab _ Zo];exact aqq
  refine gZ ?_
  refine NF (P:=P) (g:=g) (bQ:=bQ) (cf:=cf) (cM:=cM) (dj:=dj) (dG:=dG) (aW:=aW) aw (λi T aU=>sS X cB dV b5 df (.ptr iV 0) q cZ (.map df) (((hM g).take i).foldl (sF G.1) G.2) G.1 T aU) Zo Zo Zo Zo
   (oP.ab ru) (my.ab ru) (qz.ab ru) cw d9 fQ (λi T aU a=>⟨a.le,λe z=>a.low e (zq (bE e z).1) (bE e z).2.1 (bE e z).2.2⟩)
   (λi aP aG aM a1 a gq aD=>a.ab Zo Zo gq aD) (λT bT=>⟨Zi _,by unfold f8 at*;rw[bT.ab _ Zo];exact Cx,(jl.kT.ab (eW.ab _ Zo)).ab (bT.ab _ Zo),λe z _ _=>bT.ab e z⟩) ?_ ?_
  ·intro mk i ff d dX iD aN lq AD aqW
   rw[Az (sF G.1) _ aN]
   generalize ((hM g).take i).foldl (sF G.1) G.2=ce at lq ⊢
   have CE:=lq.le
   have ko:eT d=[.str d.name, .Z d.at_, .bool d.ty.b, .bool d.ty.s, .Z d.ty.w, .str d.on, .Z d.fL, .bool d.no]:=rfl
   rw[ko]
   unfold tV
   refine cK ⟨?_⟩
   generalize uH:bn X _ iD _=ee
   have mW:Y X ee iD=zu [.str d.name, .Z d.at_, .bool d.ty.b, .bool d.ty.s, .Z d.ty.w, .str d.on, .Z d.fL, .bool d.no] 8:=by rw[<-uH,bg Zo];rfl
   have hs:∀e,e<iD->Y X ee e=Y X dX e:=λe z=>by rw[<-uH];exact zw
   clear uH
   refine⟨by rw[hs _ Zo];exact aqW, ?_⟩
   generalize sc:bn X ee (dV+1) _=gM
   have hN:Y X gM (dV+1)=some (mk .busy none):=by rw[<-sc,bg Zo]
   have mC:∀e,e≠dV+1->Y X gM e=Y X ee e:=λe z=>by rw[<-sc,aI Zo z]
   clear sc
   have qt:=lq.ab (aM:=gM) (a1:=iD+1) Zo Zo Zo (λe I J=>by rw[mC e J,hs e I])
   rw[<-mC _ Zo]at mW
   have SN:Y X gM dV=some (.deferred (some [])):=by rw[mC _ Zo,hs _ Zo];exact AD
   have bM:aO X gM (.ptr j 0)=some (.ptr b5 0):=by rw[bO (show Y X gM j=_ by rw[qt.low _ Zo Zo Zo];exact anB)];rfl
   have fa:aO X gM (.ptr b5 3)=some (.map df):=by have:=qt.j2;unfold f8 at this;rw[bO this];rfl
   have kr:lO X gM 9 (.Z 0) (.map df) (.str d.name) false=some (.Z ((G.1 d.name).getD 0)):=by
    rw[Fh qt.seen];unfold oF;cases G.1 d.name<;>rfl
   have kp:∀T aU,sS X cB dV b5 df (.ptr iV 0) q cZ (.map df) (sF G.1 ce (ff,d)) G.1 T aU->Y X T dV=some (.deferred (some []))->(D.bool true=D.bool true/\sS X cB dV b5 df (.ptr iV 0) q cZ (.map df) (sF G.1 ce (ff,d)) G.1 (bn X T (dV+1) (some (mk .ready none))) aU/\Y X (bn X T (dV+1) (some (mk .ready none))) dV=some (.deferred (some []))/\Y X (bn X T (dV+1) (some (mk .ready none))) (dV+1)=some (mk .ready none)):=λT aU a J=>
    ⟨rfl,a.ab Zo Zo (Zi _) (λe I J=>aI Zo J),by rw[aI Zo Zo];exact J,bg Zo⟩
   refine AC ⟨?_⟩
   refine gZ ?_
   by_cases kq:ff=1
   ·have aJ:decide (ff≠1)=false:=by simp[kq]
    have mv:sF G.1 ce (ff,d)=ce:=by unfold sF;rw[Zg (by simp[kq])]
    refine ci @aJ ⟨?_⟩
    rw[mv]at kp ⊢
    exact⟨⟨.busy,none,hN⟩,kp _ _ (qt.ab Zo Zo Zo (λ_ _ _=>rfl)) SN⟩
   ·have aJ:decide (ff≠1)=true:=by simp[kq]
    by_cases cr:(G.1 d.name).getD 0=0
    ·have Ec:decide ((G.1 d.name).getD 0=0)=true:=by simp[cr]
     have mv:sF G.1 ce (ff,d)=nu ce 37 d.at_:=by unfold sF;rw[Zu ⟨kq,cr⟩]
     refine eF @aJ @t1 @bM @fa (bO mW) @kr @Ec ⟨?_⟩
     refine(xS (h:=gM) aw kW qt.j2 37 d.at_).Zm ?_
     rintro ac Gk axA ⟨rfl,TB,att,wb⟩
     refine cK ⟨?_⟩
     rw[mv]at kp ⊢
     have KW:=qt.le
     exact⟨⟨.busy,none,by rw[wb _ Zo];exact hN⟩,kp _ _ ⟨Zo,TB,qt.seen.ab (wb _ Zo),λe I J am=>by rw[wb e J];exact qt.low e I J am⟩ (by rw[wb _ Zo];exact SN)⟩
    ·have Ec:decide ((G.1 d.name).getD 0=0)=false:=by simp[cr]
     have mv:sF G.1 ce (ff,d)=ce:=by unfold sF;rw[Zg (λa=>cr a.2)]
     refine eF @aJ @t1 @bM @fa (bO mW) @kr @Ec ⟨?_⟩
     rw[mv]at kp ⊢
     exact⟨⟨.busy,none,hN⟩,kp _ _ (qt.ab Zo Zo Zo (λ_ _ _=>rfl)) SN⟩
  ·intro dX iD lq AD
   rw[YY]at lq
   have CE:=lq.le
   rw[<-Ua]at lq
   show nI X [] _ _ _ _ _
   simp only[tK,sC,kO]
   refine⟨by show(o X).a2<=dV;omega,AD, ?_⟩
   show rE _ _ _ _ _
   refine⟨rfl, ?_,Zo,λe I J am=> ?_⟩
   ·have:=lq.j2
    unfold f8 at*
    rw[aI Zo Zo];exact this
   ·rw[aI Zo Zo,lq.low e Zo J am,eW.ab e Zo,jl.low e Zo J am,tg.ab e I]
 |succ m=>
  have aJ:=zs W g.eqs.length
  have bF:=zv W
  obtain⟨ah,bL⟩:=zt g.eqs W
  obtain⟨aEt,aun,tu⟩:=e2.get W ah bL
  have dS:=j8.f3 W (by rw[lM.1];omega)
  have ic:=(j8.ab wv).row Zd aun
  obtain⟨ky,mI,aCu,aCv,k8,rfl,hA,ka,mz,nA⟩:=tu
  have yv:=hA.len
  have EW:=hA.many
  have O6:=ka.1.len
  have auh:=ka.1.many
  rw[show(ih ah.left).length=ah.left.length from by simp[ih]]at yv EW
  rw[Zn]at O6 auh
  have dm:=Az (nd (fH g) ai q) p4 bL
  generalize asd:(g.eqs.take W).foldl (nd (fH g) ai q) p4=IY at jl dm adJ
  refine iM @w7 @w6 @sE @aJ @dS @ic ⟨?_⟩
  refine fw (hF (q:=4) (b:=eB) (U:=0) (n:=4) (c:=K.ofList [.aV, .aV, .Z 0, .cx] 0 .nil) (bg Zo) Zo rfl Zd Zd nA) ?_
  generalize n0:bn X _ eB _=cB
  have eY:Y X cB eB=zu [ky,mI, .Z ah.at_,k8] 4:=by rw[<-n0,bg Zo];rfl
  have gQ:∀e,e<eB->Y X cB e=Y X b9 e:=λe z=>by rw[<-n0];exact zw
  clear n0
  have sa:=jl.ab (aM:=cB) (a1:=eB+1) Zo Zo Zo (λe I=>gQ e I)
  refine NW (bO eY) @yv ⟨?_⟩
  refine gZ ?_
  refine fK (λgr H T aU=>∃(i:Nat),H.g 1=some (.ptr j 0)/\H.g 2=some (.ptr (j+1+13) 0)/\H.bc=[]/\H.g 49=some eP/\H.g 50=some (.Z (g.eqs.length:Int))/\H.g 51=some (.Z (W:Int))/\H.g 6=some (.ptr eB 0)/\H.g 56=some ky/\H.g 57=some (.Z (ah.left.length:Int))/\H.g 58=some (.Z (i:Int))/\i+gr=ah.left.length
   /\y8 X aX bf b5 df (.ptr iV 0) q cZ (((sr ah).take i).foldl (oc (fH g)) IY).2 (((sr ah).take i).foldl (oc (fH g)) IY).1 T aU/\(∀w,0<=((((sr ah).take i).foldl (oc (fH g)) IY).1 w).getD 0/\((((sr ah).take i).foldl (oc (fH g)) IY).1 w).getD 0<=(W:Int)*1048576+i)
   /\eB+1<=aU/\Y X T eB=zu [ky,mI, .Z ah.at_,k8] 4)
   ah.left.length ⟨0,a7 t1,a7 dQ,kO,a7 sE,a7 w6,a7 w7,bw,bw,bw,fW,Zo,sa,λw=>by simpa using adJ w,Zo,eY⟩ ?_
  clear t1 dQ kO sE w6 w7
  rintro gr c1 dX iD ⟨i,t1,dQ,kO,sE,w6,w7,fU,p7,BA,BB,aN,lq,qw,aDy,h7⟩
  have CE:=lq.le
  have acI:Y X dX j=zu [.ptr b5 0] 1:=by rw[lq.low _ Zo Zo Zo];exact h6
  have CZ:∀e,P e->Y X dX e=Y X h e:=λe z=>by have:=bE e z;rw[lq.low e Zo this.2.1 this.2.2,kZ e z]
  cases gr with
  |zero=>
   have eS:=zr i ah.left.length
   rw[Zx (by rw[awK];omega)]at lq qw
   refine eF @BB @BA @t1 @fU @eS (bO acI) (bO h7) ⟨?_⟩
   refine(azB (j:=iD) (h:=dX) aw Zo kW Zo (λe z=>⟨zq (bE e z).1,(bE e z).2.1⟩) (a6.ab (bm:=P) CZ (λ_ a=>a)) (bU.ab (bm:=P) CZ (λ_ a=>a)) lq.j2 (cy.ab CZ _ _ mz)).Zm ?_
   rintro ac ee jo ⟨rfl,Tz,uP,rl⟩
   refine cT @w7 @bF ⟨?_⟩
   refine⟨m,Zo,W+1,a7 t1,a7 dQ,kO,a7 sE,a7 w6,bw,Zo, ?_, ?_⟩
   ·rw[dm]
    exact⟨Zo,Tz,lq.kT.ab (rl _ Zo (λE=>Cy E.symm)),λe I J am=>by rw[rl e Zo J];exact lq.low e I J am⟩
   ·rw[dm]
    intro w
    have:=qw w
    simp only[nd]
    constructor
    ·exact this.1
    ·have J:=this.2
     have am:i<=1048576:=Zo
     push_cast
     omega
  |succ gr=>
   have eS:=zs i ah.left.length
   have cn:=zv i
   obtain⟨w,bt⟩:=zt ah.left i
   have pD:=hA.f3 i (by simp[ih];omega)
   have iy:=(hA.ab CZ).cell i [.str w] 0 (.str w) (by unfold ih;rw[Zy,bt];rfl) rfl
   rw[Yl]at pD
   rw[Yl,ZW]at iy
   have CN:=Az (oc (fH g)) IY (awJ bt)
   generalize asc:((sr ah).take i).foldl (oc (fH g)) IY=pe at lq CN qw
   have asA:=qw w
   refine he @BB @BA (Za @p7 (Za @fU (Za @eS (Za @pD (Za @iy (Za (bO h7) @O6)))))) ⟨?_⟩
   refine gZ ?_
   refine he @BB @BA (Za @p7 (Za @fU (Za @eS (Za @pD (Za @iy (Za (bO h7) @O6)))))) ⟨?_⟩
   refine gZ ?_
   refine he @BB @BA (Za @p7 (Za @fU (Za @eS (Za @pD (Za @iy (Za (bO h7) @O6)))))) ⟨?_⟩
   refine kt (λs1 T aU=>s1.g 1=some (.ptr j 0)/\s1.g 2=some (.ptr (j+1+13) 0)/\s1.bc=[]/\s1.g 49=some eP/\s1.g 50=some (.Z (g.eqs.length:Int))/\s1.g 51=some (.Z (W:Int))/\s1.g 6=some (.ptr eB 0)/\s1.g 56=some ky/\s1.g 57=some (.Z (ah.left.length:Int))/\s1.g 58=some (.Z (i:Int))/\s1.g 8=some (.str w)/\s1.g 9=some (.Z (D0 ah i))/\T=dX/\aU=iD) (λafy Hs=> ?_) ?_
   ·by_cases KT:i<ah.c7.length
    ·have iK:=zs i ah.c7.length
     obtain⟨F,aC⟩:∃F,ah.c7[i]? =some F:=⟨_,Ze KT⟩
     have OP:=ka.1.f3 i (by rw[Zn];exact KT)
     have adP:=(ka.1.ab CZ).cell i [Lv F] 0 (Lv F) (by rw[Zy,aC];rfl) rfl
     rw[Yl]at OP
     rw[Yl,ZW]at adP
     have nx:D0 ah i=F:=by unfold D0;rw[aC];rfl
     refine gg @iK @fU (bO h7) @OP @adP ⟨?_⟩
     exact Hs _ _ _ ⟨a7 t1,a7 dQ,kO,a7 sE,a7 w6,a7 w7,a7 fU,a7 p7,a7 BA,a7 BB,bw,by refine AB ⟨?_⟩;rw[nx];rfl,rfl,rfl⟩
    ·have iK:=zr i ah.c7.length
     have nx:D0 ah i=0:=by unfold D0;rw[ZQ Zo];rfl
     refine ci @iK ⟨?_⟩
     exact Hs _ _ _ ⟨a7 t1,a7 dQ,kO,a7 sE,a7 w6,a7 w7,a7 fU,a7 p7,a7 BA,a7 BB,bw,by refine AB ⟨?_⟩;rw[nx],rfl,rfl⟩
   ·clear t1 dQ kO sE w6 w7 fU p7 BA BB
    rintro s1 T aU ⟨t1,dQ,kO,sE,w6,w7,fU,p7,BA,BB,hb,t9,rfl,rfl⟩
    show cL _ _
    refine gx @t1 @hb @t9 (bO acI) ⟨?_⟩
    refine(awH aw Zo kW yk Zo Zo Cy lq.j2 (a6.ab (bm:=P) CZ (λ_ a=>a)) (λe z=>⟨zq (bE e z).1,(bE e z).2.1,(bE e z).2.2⟩) lq.kT w (D0 ah i) ⟨asA.1,Zo⟩).Zm ?_
    rintro ac ee jo ⟨rfl,Tz,arI,uP,rl⟩
    refine cT @BB @cn ⟨?_⟩
    refine⟨gr,Zo,i+1,a7 t1,a7 dQ,kO,a7 sE,a7 w6,a7 w7,a7 fU,a7 p7,a7 BA,bw,Zo, ?_, ?_,Zo,by rw[rl _ Zo Zo Zo];exact h7⟩
    ·rw[CN]
     exact⟨Zo,Tz,arI,λe I J am=>by rw[rl e Zo J am];exact lq.low e I J am⟩
    ·rw[CN]
     intro x
     have af:=qw x
     simp only[oc]
     split
     ·simp only[YQ];push_cast;omega
     ·push_cast;omega
end
def axE{C:aL}{h:K ag}{j r pos c:Nat}{s:bi}(V:C.a2<=r)(a:Y C h r=some (.pb s pos))(aA:s[pos]? =some c)(I:c<128):
 yc C kw true h j (kL (.ptr r 0))=some (.fs (.tuple [.zT, .Z (pos:Int), .int .i32 (c:Int)]) (bn C h r (some (.pb s (pos+1)))) j):=by
 have c2:=(Zc.1 aA).1
 have bF:Nat.blt pos s.length=true:=by simp[Nat.blt];omega
 have cn:Nat.blt c 128=true:=by simp[Nat.blt];omega
 have eU:kH C r=true:=ll V
 simp only[yc,kL,eU,eX,a,bF,qG,aA,cn,bd.setObj,hk]
 rfl
def axC{C:aL}{h:K ag}{j r pos:Nat}{s:bi}(V:C.a2<=r)(a:Y C h r=some (.pb s pos))(aA:s.length<=pos):
 yc C kw true h j (kL (.ptr r 0))=some (.val (.tuple [.zF])):=by
 have bF:Nat.blt pos s.length=false:=by
  cases bL:Nat.blt pos s.length with
  |false=>rfl
  |true=>simp[Nat.blt]at bL;omega
 have eU:kH C r=true:=ll V
 simp only[yc,kL,eU,eX,a,bF,j3]
def aqh{U:Option d6}{h T:K ag}{j an:Nat}{ak:bI}{v:D}(a:U=some (.fs v T an))(q:ak v T an):GZ U h j ak:=by subst a;exact⟨q⟩
def aqg{U:Option d6}{h:K ag}{j:Nat}{ak:bI}{v:D}(a:U=some (.val v))(q:ak v h j):GZ U h j ak:=by subst a;exact⟨q⟩
section
variable{X:cb}{h T c6 aP aM:K ag}{j an aG a1:Nat}
def UQ{c:Nat}(a:ja c=true):(97<=c/\c<=122)\/(65<=c/\c<=90)\/(48<=c/\c<=57)\/c=95:=by
 simp[ja,rs,iS]at a
 omega
def axX(aw:du X){c:Nat}(aA:ja c=true):aY X 185 [.int .i32 (c:Int)] h j (λac T an=>ac= .zF/\T=h/\j<=an) (λ_ _ _=>False):=by
 refine zx aw (aky X) ?_
 rw[akz]
 unfold XZ
 rcases UQ aA with a|a|a|a
 ·have cX:decide ((c:Int)<97)=false:=by simp only[Zb];omega
  have cF:decide ((122:Int)<(c:Int))=false:=by simp only[Zb];omega
  refine cT @cX @cF ⟨?_⟩
  exact⟨rfl,rfl,Zo⟩
 ·have cX:decide ((c:Int)<97)=true:=by simp only[Zh];omega
  have cF:decide ((c:Int)<65)=false:=by simp only[Zb];omega
  have eS:decide ((90:Int)<(c:Int))=false:=by simp only[Zb];omega
  refine et @cX @cF @eS ⟨?_⟩
  exact⟨rfl,rfl,Zo⟩
 ·have cX:decide ((c:Int)<97)=true:=by simp only[Zh];omega
  have cF:decide ((c:Int)<65)=true:=by simp only[Zh];omega
  have eS:decide ((c:Int)<48)=false:=by simp only[Zb];omega
  have iK:decide ((57:Int)<(c:Int))=false:=by simp only[Zb];omega
  refine gx @cX @cF @eS @iK ⟨?_⟩
  exact⟨rfl,rfl,Zo⟩
 ·have cX:decide ((c:Int)<97)=true:=by simp only[Zh];omega
  have cF:decide ((c:Int)<65)=false:=by simp only[Zb];omega
  have eS:decide ((90:Int)<(c:Int))=true:=by simp only[Zh];omega
  have iK:decide ((c:Int)<48)=false:=by simp only[Zb];omega
  have ga:decide ((57:Int)<(c:Int))=true:=by simp only[Zh];omega
  have jg:decide ((c:Int)≠95)=false:=by simp only[Zb,ne_eq,Decidable.not_not];omega
  refine iM @cX @cF @eS @iK @ga @jg ⟨?_⟩
  exact⟨rfl,rfl,Zo⟩
def azF{C:aL}{s:bi}{ak:bI}(q:ak (.ptr j 0) (bn C h j (some (.pb s 0))) (j+1)):hZ (V2 C h j (.str s)) h j ak:=kN (by simp only[V2,nE,ms,hk]) q
def anS:dw X h .eql 4 false .zF .zT=some .zF:=Zk
def avD(aw:du X){s:bi}(aF:∀c∈s,ja c=true)(aE:(o X).a2<=j):
 aY X 186 [.str s, .func (.func 185) [] []] h j (λac T an=>ac= .Z (-1)/\bo X h j T an) (λ_ _ _=>False):=by
 refine zx aw (akA X) ?_
 rw[akB]
 unfold X0
 refine zx aw (ali X) ?_
 rw[alj]
 unfold ο
 refine azF ?_
 generalize dZ:bn X h j _=aP
 have b3:Y X aP j=some (.pb s 0):=by rw[<-dZ,bg aE]
 have bN:bo X h j aP (j+1):=by rw[<-dZ];exact dM
 clear dZ
 refine cK ⟨?_⟩
 refine fK (λm H T aU=>∃(W:Nat),H.g 1=some (.func (.func 185) [] [])/\H.g 2=some .zT/\H.g 10=some (.ptr j 0)/\W+m=s.length/\Y X T j=some (.pb s W)/\bo X h j T aU/\j+1<=aU)
  s.length ⟨0,bw,bw,bw,Zo,b3,bN,Zo⟩ ?_
 rintro m H aM a1 ⟨W,t1,dQ,oi,bK,b7,bJ,lv⟩
 cases m with
 |zero=>
  refine ci @oi ⟨?_⟩
  refine aqg (axC aE b7 Zo) ?_
  refine cK ⟨?_⟩
  exact⟨rfl,bJ⟩
 |succ m=>
  obtain⟨c,aA⟩:=zt s W
  have bp:=aF c (Zj aA)
  have arr:c<128:=zq (UQ bp)
  refine ci @oi ⟨?_⟩
  refine aqh (axE aE b7 aA arr) ?_
  refine ci @t1 ⟨?_⟩
  generalize e9:bn X aM j _=aX
  have cS:Y X aX j=some (.pb s (W+1)):=by rw[<-e9,bg aE]
  have cg:bo X h j aX a1:=⟨bJ.le,λe z=>by rw[<-e9,aI aE Zo];exact bJ.ab e z⟩
  clear e9
  refine(axX aw bp).Zm ?_
  rintro ac bC da ⟨rfl,rfl,jC⟩
  refine cT @dQ @anS ⟨?_⟩
  refine⟨m,Zo,W+1,a7 t1,a7 dQ,a7 oi,Zo,cS,⟨zq cg.le,cg.ab⟩,Zo⟩
end
def ahs:List bi:=[[110,111,100,101],[114,101,116,117,114,110,115],[118,97,114],[108,101,116],[116,101,108],[119,104,101,110],[110,111,116],[111,114],[120,111,114],[97,110,100],[112,114,101],[102,98,121],[105,102],[116,104,101,110],[101,108,115,101],[109,101,114,103,101],[116,114,117,101],[102,97,108,115,101]]
def azp:∀w∈ahs,w∈wU:=by decide
structure rT(X:cb):Prop where
 a2:2<X.a2
 at_:∀h,∃b aW,aO X h (.ptr 2 0)=some aW/\dD X h (λe=>e<X.a2) b aW 1 (ih ahs)
section
variable{X:cb}{h T c6 aP aM:K ag}{j an aG a1:Nat}{s:bi}
def apx:dw X h .eql 238 true .nilIface .nilIface=some .zT:=Zk
def apy(b:Nat):dw X h .eql 238 true (.iface 283 (.ptr b 0)) .nilIface=some .zF:=Zk
def aou(aw:du X){b:Nat}{aW:D}{P:Nat->Prop}{nj:List bi}(V:dD X h P b aW 1 (ih nj))(aF:s∉nj):
 aY X 187 [aW, .str s] h j (λac T an=>ac= .zF/\bo X h j T an) (λ_ _ _=>False):=by
 refine zx aw (akC X) ?_
 rw[akD]
 unfold X1
 refine aY.mono (ak:=λac T an=>ac= .Z (-1)/\bo X h j T an) (av:=λ_ _ _=>False) ?_ ?_ (λ_ _ _ a=>a.elim)
 ·refine zx aw (alk X) ?_
  rw[alm]
  unfold π
  have d5:=V.len
  have hO:=V.many
  rw[show(ih nj).length=nj.length from by simp[ih]]at d5 hO
  refine ci @d5 ⟨?_⟩
  refine fK (λm H T aU=>∃(W:Nat),H.g 0=some aW/\H.g 1=some (.str s)/\H.g 7=some (.Z (nj.length:Int))/\H.g 8=some (.Z (W:Int))/\W+m=nj.length/\T=h/\aU=j)
   nj.length ⟨0,bw,bw,bw,fW,Zo,rfl,rfl⟩ ?_
  rintro m H aM a1 ⟨W,t0,t1,gd,hb,bK,rfl,rfl⟩
  cases m with
  |zero=>
   have d:=zr W nj.length
   refine et @hb @gd @d ⟨?_⟩
   exact⟨rfl,bo.refl _ _⟩
  |succ m=>
   have d:=zs W nj.length
   have bF:=zv W
   obtain⟨w,bt⟩:=zt nj W
   have dS:=V.f3 W (by simp[ih];omega)
   have iy:=V.cell W [.str w] 0 (.str w) (by unfold ih;rw[Zy,bt];rfl) rfl
   rw[Yl]at dS
   rw[Yl,ZW]at iy
   have c8:s≠w:=λE=>aF (by rw[E];exact Zj bt)
   have cF:decide (s=w)=false:=by simp[c8]
   refine eF @hb @gd @t1 @t0 @d @dS (Za @iy (Za @cF @bF)) ⟨?_⟩
   exact⟨m,Zo,W+1,a7 t0,a7 t1,a7 gd,bw,Zo,rfl,rfl⟩
 ·rintro ac aP aG ⟨rfl,bT⟩
  refine cK ⟨?_⟩
  exact⟨rfl,bT⟩
def ah2(aw:du X)(t:de)(aE:(o X).a2<=j):aY X 128 [.agg (ed t)] h j (λac T an=>ac= .str (nJ t)/\bo X h j T an) (λ_ _ _=>False):=by
 refine zx aw (ajq X) ?_
 rw[ajr]
 unfold Xm
 have a6:ed t=[.bool t.b, .bool t.s, .Z t.w]:=rfl
 rw[a6]
 refine cK ⟨?_⟩
 refine fh (λaP=>Y X aP j=zu [.bool t.b, .bool t.s, .Z t.w] 3/\bo X h j aP (j+1)) ⟨bg aE,dM⟩ ?_
 rintro aP ⟨b3,bN⟩
 refine(Fk aw t Zo).Zm ?_
 rintro ac aM a1 ⟨rfl,bJ⟩
 have f7:=bJ.le
 have bT:=bN.trans bJ
 have b7:Y X aM j=zu [.bool t.b, .bool t.s, .Z t.w] 3:=by rw[bJ.ab _ Zo];exact b3
 have d3:aO X aM (.ptr j 0)=some (.bool t.b):=by rw[bO b7];rfl
 have db:aO X aM (.ptr j 1)=some (.bool t.s):=by rw[bO b7];rfl
 have dx:aO X aM (.ptr j 2)=some (.Z t.w):=by rw[bO b7];rfl
 cases bp:gR t with
 |false=>
  refine cK ⟨?_⟩
  exact⟨by simp[nJ,bp],bT⟩
 |true=>
  cases m1:t.b with
  |true=>
   rw[m1]at d3
   refine ci @d3 ⟨?_⟩
   exact⟨by simp[nJ,bp,m1],bT⟩
  |false=>
   rw[m1]at d3
   have bt:1<=t.w/\t.w<=64:=by simpa[gR,m1]using bp
   obtain⟨w,Ba⟩:=Yn (by omega:0<=t.w)
   rw[Ba]at dx
   have aN:jG t.w.toNat=jG w:=by rw[Ba];rfl
   have fI:(jG w).length<=2:=by unfold jG;split<;>simp
   have un:∀h c,dw X h .add 9 true (.str [c]) (.str (jG w))=some (.str (c::jG w)):=λh c=>by
    have:Nat.ble ([c].length+(jG w).length) 1000000000=true:=ll (by simp;omega)
    simp only[dw,B4,this,eX];rfl
   cases jn:t.s with
   |true=>
    rw[jn]at db
    refine et @d3 @db @dx ⟨?_⟩
    refine(Pu aw Zo).Zm ?_
    rintro ac aX bf ⟨rfl,rfl,rfl⟩
    refine ci @un ⟨?_⟩
    exact⟨by simp[nJ,bp,m1,jn,aN],bT⟩
   |false=>
    rw[jn]at db
    refine et @d3 @db @dx ⟨?_⟩
    refine(Pu aw Zo).Zm ?_
    rintro ac aX bf ⟨rfl,rfl,rfl⟩
    refine ci @un ⟨?_⟩
    exact⟨by simp[nJ,bp,m1,jn,aN],bT⟩
def avK{c:Nat}(a:ja c=true):c<256:=zq (UQ a)
def aBx(aw:iI X)(bT:lV X)(aF:Gf s)(aE:(o X).a2<=j):
 aY X 188 [.str s] h j (λac T an=>ac= .zF/\bo X h j T an) (λ_ _ _=>False):=by
 refine zx aw.todu (akE X) ?_
 rw[akF]
 unfold X2
 cases s with
 |nil=>exact absurd rfl aF.ne
 |cons c k=>
  cases k with
  |nil=>
   have qm:decide (((1:Nat):Int)<2)=true:=rfl
   refine ci @qm ⟨?_⟩
   exact⟨rfl,dM⟩
  |cons dx k=>
   have cX:decide ((((dx::k).length+1:Nat):Int)<2)=false:=by simp only[Zb,ZD];omega
   have jF:nf (.str (c::dx::k)) (some (.Z 1)) none=some (.str (dx::k)):=Qs (k:=1) .i64 Zs
   have dS:n9 (.str (c::dx::k)) (.Z 0)=some (.int .u8 (c:Int)):=CX (i:=0) .i64 rfl
   have d5:m8 (.str (c::dx::k))=some (.Z ((c::dx::k).length:Int)):=tJ _
   have j7:=aF.all
   have fI:=aF.len
   have yg:c::dx::k≠[98,111,111,108]:=λE=>by have:=aF.ty;rw[E]at this;cases this
   have cF:decide (c::dx::k=[98,111,111,108])=false:=by simp only[Zb];exact yg
   have tB:=aF.ty
   generalize n4:dx::k=m at*
   have ga:decide ((c:Int)=105)=decide (c=105):=by simp;omega
   refine fw d5 ?_
   refine cT @cX @jF ⟨?_⟩
   refine(abh aw bT (by simp at fI;omega) (λx af=>avK (j7 x (Zt _ af))) (agB (λx af=>j7 x (Zt _ af))) Zo).Zm ?_
   rintro ac aM a1 ⟨⟨bz,E,rfl,bs,af⟩,bJ⟩
   have f7:=bJ.le
   rcases bs with rfl|⟨b,rfl⟩
   ·refine gx @cF @apx @dS @ga ⟨?_⟩
    refine(ah2 (j:=a1) (h:=aM) aw.todu ⟨false,decide (c=105),bz⟩ Zo).Zm ?_
    rintro ac aX bf ⟨rfl,cg⟩
    have aJ:decide (c::m=nJ ⟨false,decide (c=105),bz⟩)=false:=by
     simp only[Zb]
     intro a
     cases bp:gR ⟨false,decide (c=105),bz⟩with
     |false=>simp[nJ,bp]at a
     |true=>
      have cr:1<=bz/\bz<=64:=by simpa[gR]using bp
      obtain⟨n,rfl⟩:=Yn (by omega:0<=bz)
      simp only[nJ,bp,ZC,Zw,ZA]at a
      have I:=(List.cons.inj a).1
      have J:=(List.cons.inj a).2
      have TC:c=105\/c=117:=by
       by_cases aA:c=105
       ·exact .inl aA
       ·simp[aA]at I;exact .inr I
      exact ah1 tB TC (n:=n) Zo Zo (by simpa using J.symm)
    refine ci @aJ ⟨?_⟩
    exact⟨rfl,bJ.trans cg⟩
   ·refine cT @cF @apy ⟨?_⟩
    exact⟨rfl,bJ⟩
def LQ(aw:iI X)(bT:lV X)(eN:rT X)(aF:Gf s)(aE:(o X).a2<=j):
 aY X 140 [.str s] h j (λac T an=>ac= .zT/\bo X h j T an) (λ_ _ _=>False):=by
 refine zx aw.todu (ajG X) ?_
 rw[ajH]
 unfold Xu
 have c8:=aF.ne
 have cX:decide (s=[])=false:=by simp[c8]
 have fI:=aF.len
 have cF:decide ((32:Int)<(s.length:Int))=false:=by simp only[Zb];omega
 obtain⟨c,aA⟩:∃c,s.head?=some c:=by cases s with|nil=>exact absurd rfl c8|cons c k=>exact⟨c,rfl⟩
 have AQ:=aF.anK c aA
 have dS:n9 (.str s) (.Z 0)=some (.int .u8 (c:Int)):=CX (i:=0) .i64 (by rw[<-List.head?_eq_getElem?];exact aA)
 have AS:65<=c:=by simp[rs]at AQ;omega
 have eS:decide ((48:Int)<=(c:Int))=true:=by simp only[Zh];omega
 have iK:decide ((c:Int)<=57)=false:=by simp only[Zb];omega
 refine gg @cX @cF @dS @eS @iK ⟨?_⟩
 refine(avD aw.todu aF.all aE).Zm ?_
 rintro ac aP aG ⟨rfl,bN⟩
 have jm:=bN.le
 obtain⟨b,aW,jF,cA⟩:=eN.at_ aP
 have Ce:decide ((0:Int)<= -1)=false:=rfl
 refine cT @jF @Ce ⟨?_⟩
 refine(aou (j:=aG) aw.todu cA (λa=>aF.res (azp _ a))).Zm ?_
 rintro ac aM a1 ⟨rfl,bJ⟩
 have f7:=bJ.le
 refine cK ⟨?_⟩
 refine(aBx (j:=a1) (h:=aM) aw bT aF Zo).Zm ?_
 rintro ac aX bf ⟨rfl,cg⟩
 refine cK ⟨?_⟩
 exact⟨rfl,(bN.trans bJ).trans cg⟩
end
section
variable{X:cb}{h T c6 aP aM:K ag}{j an aG a1:Nat}{s:bi}
def WP:List D:=[.str [], .Z 0, .zF, .zF, .Z 0, .str [], .Z 0, .zF]
def ara(n:Nat):Hk X h j .append [34,3] [.aV, .Z (n:Int)]=bY (Nat.ble n 1048576) (bY (Nat.beq n 0) (some (.val .aV)) (uA X h j n 8 (k7 n WP))) none:=Zk
def FI(n:Nat)(k:List D):(k7 n k).length=n*k.length:=by
 induction n with
 |zero=>simp[k7]
 |succ n al=>simp[k7,al,Ye];omega
def an6:qY X h .cap [34] [.aV]=some (.Z 0):=Zk
def aAk:tZ X h 8 .aV none (some (.Z 0)) none=some .aV:=by rfl
def aAm{dV n m:Nat}{c:K D}(a:Y X h dV=some (.cells c m (.grow []))):tZ X h 8 (.fl dV 0 n 8) none (some (.Z 0)) none=some (.fl dV 0 0 8):=by
 have bF:pS (some (.Z 0)) (m/8) n=some 0:=by simp[pS,axz]
 have cn:∀F b:Nat,pS none F b=some b:=λF b=>rfl
 have eU:yR X h dV=some m:=by simp[yR,a]
 have iL:Nat.blt 0 8=true:=rfl
 simp only[tZ,eU,mr,zc,cn,bF]
 simp[iL]
def ahn{C:aL}{P:Nat->Prop}{b bl:Nat}{aW:D}{br:List (List D)}(a:dD C h P b aW bl br)(cr:0<bl):lA C h bl aW=some (br.length,br.flatten):=by
 have KR:=x1 a.wide
 have key:∀dO U n:Nat,n=br.length->(∀i,i<br.length->some (D.ptr dO (U+i*bl))=some (.ptr b (i*bl)))->ns C h dO U (n*bl)=some br.flatten:=by
  intro dO U n aE aN
  subst aE
  by_cases aS:br.length=0
  ·have:br=[]:=Z4 aS
   subst this
   simp only[ns]
   cases aA:cellsOf C h dO with
   |none=>simp
   |some c=>simp[acU]
  ·have I:=aN 0 Zo
   simp at I
   obtain⟨rfl,rfl⟩:=I
   obtain⟨r,V⟩:=zt br 0
   have HI:=a.wide r (Zj V)
   obtain⟨v,bD⟩:=zt r 0
   have tj:=a.cell 0 r 0 v V bD
   simp only[ze,ZW]at tj
   have EC:∃c,cellsOf C h dO=some c:=by
    simp only[aO]at tj
    cases aA:cellsOf C h dO with
    |none=>rw[aA]at tj;cases tj
    |some c=>exact⟨c,rfl⟩
   obtain⟨c,aA⟩:=EC
   simp only[ns,aA]
   rw[<-KR]
   refine acS _ _ λW v bK=> ?_
   have uO:=(Zc.1 bK).1
   rw[KR]at uO
   have bL:W/bl<br.length:=Nat.div_lt_of_lt_mul (by rw[zp];exact uO)
   obtain⟨gb,kb⟩:∃r,br[W/bl]? =some r:=⟨_,Ze bL⟩
   have aDM:=a.wide gb (Zj kb)
   have bp:W%bl<bl:=Nat.mod_lt _ cr
   obtain⟨gK,uU⟩:∃v,gb[W%bl]? =some v:=⟨_,Ze Zo⟩
   have J:=a.cell (W/bl) gb (W%bl) gK kb uU
   have am:=SB br a.wide (W/bl) gb (W%bl) gK kb uU
   have aB:W/bl*bl+W%bl=W:=by rw[zp];exact Nat.div_add_mod W bl
   rw[aB]at J am
   rw[bK]at am
   cases am
   simp only[aO,aA]at J
   rw[ZS]
   exact J
 have az:=a.len
 cases aW with
 |slice dO U n cap=>
  have aE:n=br.length:=by rw[pT]at az;simp at az;omega
  have aN:∀i,i<br.length->some (D.ptr dO (U+i*bl))=some (.ptr b (i*bl)):=λi aN=>by
   have:=a.f3 i aN
   rw[<-this]
   have E:Nat.blt i n=true:=by simp[Nat.blt];omega
   simp only[gv,sv,DA,E,eX]
  have aD:=key dO U n aE aN
  subst aE
  simp only[lA,aD]
 |fl dO U n yT=>
  have aE:n=br.length:=by rw[rx]at az;simp at az;omega
  have aN:∀i,i<br.length->some (D.ptr dO (U+i*bl))=some (.ptr b (i*bl)):=λi aN=>by
   have:=a.f3 i aN
   rw[<-this]
   have E:Nat.blt i n=true:=by simp[Nat.blt];omega
   simp only[gv,sv,DA,E,eX]
  have aD:=key dO U n aE aN
  subst aE
  simp only[lA,aD]
 |aV=>
  have aE:(0:Int)=br.length:=by rw[tI]at az;simpa using az
  have:br=[]:=Z4 Zo
  subst this
  rfl
 |_=>simp[gy]at az
def azG{dV n r m:Nat}{c:K D}{x:D}{k:List D}{ak:bI}(aj:Y X h dV=some (.cells c (m*8) (.grow [])))(aH:(o X).a2<=dV)(af:lA X h 8 x=some (r,k))(az:k.length=r*8)(V:n+r<=m)(I:Go.bd.jH k=true)
 (q:∀T f5,Y X T dV=some (.cells f5 (m*8) (.grow []))->(∀i,f5.get i=if n*8<=i/\i<n*8+k.length then k[i-n*8]? else c.get i)->(∀e,e≠dV->Y X T e=Y X h e)->ak (.fl dV 0 (n+r) 8) T j):
 hZ (kG X h j 8 (.fl dV 0 n 8) x) h j ak:=by
 by_cases aS:r=0
 ·subst aS
  have:k=[]:=Z4 Zo
  subst this
  have bF:kG X h j 8 (.fl dV 0 n 8) x=some (.val (.fl dV 0 n 8)):=by
   simp only[kG,af]
   simp[Gv,yR,aj]
   omega
  refine ahr bF ?_
  exact q h c aj (λi=>by rw[Zg Zs]) (λ_ _=>rfl)
 ·have cn:Nat.ble ((n+r)*8) (m*8)=true:=ll Zo
  have eU:Nat.ble (n*8+k.length) (m*8)=true:=ll Zo
  have J3:Nat.beq 8 8=true:=rfl
  have iL:kH X dV=true:=ll aH
  have oG:kG X h j 8 (.fl dV 0 n 8) x=some (.fs (.fl dV 0 (n+r) 8) (Go.bd.bn X h dV (some (.cells (dN c (n*8) k) (m*8) (.grow [])))) j):=by
   simp only[kG,af]
   rw[hK,Zg aS]
   simp only[Af,JF,aj,iL,J3,eX,cn,xK,eU,I,Yg,hk,qE,ZS]
  refine kN oG ?_
  refine q _ _ (bg aH) (λi=> ?_) (λe z=>aI aH z)
  rw[jd]
def aAc(aw:du X){n:Nat}(aS:0<n)(I:n<=300000)(aE:(o X).a2<=j):
 aY X 189 [.aV, .Z (n:Int)] h j (λac T an=>ac= .fl j 0 0 8/\(∃c,Y X T j=some (.cells c (n*8) (.grow [])))/\bo X h j T an/\j<an) (λ_ _ _=>False):=by
 refine zx aw (akG X) ?_
 rw[akH]
 unfold X3
 have cX:decide ((n:Int)<0)=false:=by simp only[Zb];omega
 have cF:decide ((0:Int)<(n:Int))=true:=by simp only[Zh];omega
 have bF:bq .sub (.Z 0) (.Z 0)=some (.Z 0):=CS Zo Zo
 have cn:bq .sub (.Z (n:Int)) (.Z 0)=some (.Z (n:Int)):=by rw[CS Zo Zo];simp
 have eU:Hk X h j .append [34,3] [.aV, .Z (n:Int)]=some (.fs (.fl j 0 n 8) (bn X h j (some (.cells (K.ofList (k7 n WP) 0 .nil) (n*8) (.grow [])))) (j+1)):=by
  rw[ara,ll Zo,eX,hK,Zg Zo]
  simp only[uA,ll (show n<=1048576 by omega),eX,nE,ms,hk,FI]
  rfl
 refine iM @cX @an6 @bF @cn @cF @aAk ⟨?_⟩
 refine kN eU ?_
 generalize dZ:bn X h j _=aP
 have b3:Y X aP j=some (.cells (K.ofList (k7 n WP) 0 .nil) (n*8) (.grow [])):=by rw[<-dZ,bg aE]
 have bN:bo X h j aP (j+1):=by rw[<-dZ];exact dM
 clear dZ
 have iL:=aAm (n:=n) b3
 refine ci @iL ⟨?_⟩
 exact⟨rfl,⟨_,b3⟩,bN,Zo⟩
def Ca(k:List (List fo)):Nat:=(k.map List.length).sum
def aor(aw:du X){P:Nat->Prop}{qX bQ cf cM:Nat}{dj dG aW:D}{A bh ad:List fo}(aE:(o X).a2<=j)(AP:qX<j)(aC:Y X h qX=zu [dj,dG,aW] 3)
 (I:dD X h P bQ dj 8 (A.map eT))(J:dD X h P cf dG 8 (bh.map eT))(am:dD X h P cM aW 8 (ad.map eT))(bE:∀e,P e->e<j)(aS:0<A.length+bh.length+ad.length)(bp:A.length+bh.length+ad.length<=300000):
 aY X 142 [.slice qX 0 3 3] h j (λac T an=>∃b,dD X T (cQ j an) b ac 8 ((A++(bh++ad)).map eT)/\bo X h j T an) (λ_ _ _=>False):=by
 refine zx aw (ajK X) ?_
 rw[ajL]
 unfold Xw
 have HK:∀W,W<3->∃s b L,[dj,dG,aW][W]? =some s/\dD X h P b s 8 (L.map eT)/\([A,bh,ad]:List (List fo))[W]? =some L/\L.length<=300000:=by
  intro W bK
  match W,bK with
  |0,_=>exact⟨dj,bQ,A,rfl,I,rfl,Zo⟩
  |1,_=>exact⟨dG,cf,bh,rfl,J,rfl,Zo⟩
  |2,_=>exact⟨aW,cM,ad,rfl,am,rfl,Zo⟩
 have tj:∀T W s,Y X T qX=zu [dj,dG,aW] 3->[dj,dG,aW][W]? =some s->aO X T (.ptr qX W)=some s:=λT W s a aF=>by rw[bO a,k4];exact aF
 obtain⟨lH,yj⟩:∃lH:Nat->Nat,∀W,lH W=Ca (([A,bh,ad]:List (List fo)).take W):=⟨_,λ_=>rfl⟩
 obtain⟨Ax,pC⟩:∃Ax:Nat->List fo,∀W,Ax W=(([A,bh,ad]:List (List fo)).take W).flatten:=⟨_,λ_=>rfl⟩
 have ad7:∀W L,([A,bh,ad]:List (List fo))[W]? =some L->Ax (W+1)=Ax W++L:=by
  intro W L a
  rw[pC,pC,ZY,a];simp
 have KJ:∀W,lH W=(Ax W).length:=λW=>by rw[yj,pC];unfold Ca;rw[List.length_flatten]
 have dm:∀W L,([A,bh,ad]:List (List fo))[W]? =some L->lH (W+1)=lH W+L.length:=by
  intro W L a
  rw[KJ,KJ,ad7 W L a,ZO]
 have gq:∀W,lH W<=A.length+bh.length+ad.length:=by
  intro W
  rw[yj]
  match W with
  |0=>simp[Ca]
  |1=>simp[Ca];omega
  |2=>simp[Ca]
  |n+3=>simp[Ca];omega
 have ac9:lH 3=A.length+bh.length+ad.length:=by rw[yj];simp[Ca];omega
 have Es:lH 0=0:=by rw[yj];simp[Ca]
 have apS:Ax 0=[]:=by rw[pC];rfl
 refine cK ⟨?_⟩
 refine fK (λm H T aU=>∃(W:Nat),H.g 0=some (.slice qX 0 3 3)/\H.g 9=some (.slice qX 0 3 3)/\H.g 10=some (.Z 3)/\H.g 11=some (.Z (W:Int))/\H.g 3=some (.Z (lH W:Nat))/\W+m=3/\T=h/\aU=j)
  3 ⟨0,bw,bw,fW,fW,by refine AB ⟨?_⟩;rw[Es];rfl,Zo,rfl,rfl⟩ ?_
 rintro m H aP aG ⟨W,t0,t9,oi,pc,t3,bK,rfl,rfl⟩
 cases m with
 |succ m=>
  have d:decide ((W:Int)<3)=true:=by simp only[Zh];omega
  have bF:=zv W
  obtain⟨s,b,L,aF,cA,f6,arW⟩:=HK W Zo
  have EL:=gq W
  have dS:gv 1 (.slice qX 0 3 3) (.Z (W:Int))=some (.ptr qX W):=by rw[HZ _ Zo];simp
  have aA:=tj _ W s aC aF
  have d5:=cA.len
  rw[Zn]at d5
  have cn:bq .add (.Z ((lH W:Nat):Int)) (.Z (L.length:Int))=some (.Z ((lH (W+1):Nat):Int)):=by
   rw[dm W L f6,eJ Zo Zo];simp
  have cF:decide (((lH (W+1):Nat):Int)<0)=false:=by simp only[Zb];omega
  refine eF @pc @oi @t9 @t3 @d @dS (Za @aA (Za @d5 (Za @cn (Za @cF @bF)))) ⟨?_⟩
  exact⟨m,Zo,W+1,a7 t0,a7 t9,a7 oi,bw,bw,Zo,rfl,rfl⟩
 |zero=>
  have d:decide ((W:Int)<3)=false:=by simp only[Zb];omega
  have OQ:W=3:=Zo
  subst OQ
  rw[ac9]at t3
  refine gx @pc @oi @t3 @d ⟨?_⟩
  refine(aAc aw aS bp aE).Zm ?_
  rintro ac aM a1 ⟨rfl,⟨dx,b7⟩,bJ,lv⟩
  generalize oN:A.length+bh.length+ad.length=dn at*
  refine ci @t0 ⟨?_⟩
  refine fK (λm H T aU=>∃(W:Nat) (c:K D),H.g 25=some (.slice qX 0 3 3)/\H.g 26=some (.Z 3)/\H.g 27=some (.Z (W:Int))/\H.g 6=some (.fl aG 0 (lH W) 8)/\W+m=3/\aG<aU/\bo X aP aG T aU
   /\Y X T aG=some (.cells c (dn*8) (.grow []))/\∀(i:Nat) v,((Ax W).map eT).flatten[i]? =some v->c.get i=some v)
   3 ⟨0,dx,bw,fW,fW,by refine AB ⟨?_⟩;rw[Es],Zo,lv,bJ,b7,λi v a=>by rw[apS]at a;simp at a⟩ ?_
  clear t0 t9 oi pc t3
  rintro m H aX bf ⟨W,gf,jY,lC,FR,fU,bK,AX,cg,cS,yi⟩
  have KR:∀L:List fo,((L.map eT).flatten).length=L.length*8:=λL=>by
   have:=x1 (br:=L.map eT) (bl:=8) (by intro r V;obtain⟨d,_,rfl⟩:=ZE.1 V;rfl)
   rw[this,Zn]
  cases m with
  |zero=>
   have d:decide ((W:Int)<3)=false:=by simp only[Zb];omega
   have OQ:W=3:=Zo
   subst OQ
   rw[ac9]at fU
   refine gx @FR @lC @fU @d ⟨?_⟩
   have j7:Ax 3=A++(bh++ad):=by rw[pC];simp
   rw[j7]at yi
   have fI:(A++(bh++ad)).length=dn:=by simp;omega
   refine⟨aG,⟨λ_=>⟨Zo,Zo⟩,by rw[Zn,fI];omega,by intro r V;obtain⟨d,_,rfl⟩:=ZE.1 V;rfl,by rw[rx,Zn,fI],λi aN=>by rw[H0 _ (by rw[Zn,fI]at aN;omega),ZS],λi r afy v aN Hs=> ?_⟩,cg⟩
   rw[bO cS]
   exact yi _ _ (SB _ (by intro r V;obtain⟨d,_,rfl⟩:=ZE.1 V;rfl) i r afy v aN Hs)
  |succ m=>
   have d:decide ((W:Int)<3)=true:=by simp only[Zh];omega
   have bF:=zv W
   obtain⟨s,b,L,aF,cA,f6,arW⟩:=HK W Zo
   have dS:gv 1 (.slice qX 0 3 3) (.Z (W:Int))=some (.ptr qX W):=by rw[HZ _ Zo];simp
   have asi:Y X aX qX=zu [dj,dG,aW] 3:=by rw[cg.ab _ AP];exact aC
   have aA:=tj _ W s asi aF
   have ks:=ahn (cA.ab (T:=aX) (λe z=>cg.ab e (bE e z))) Zd
   rw[Zn]at ks
   have I:=dm W L f6
   have J:=gq (W+1)
   refine eF @FR @lC @jY @fU @d @dS @aA ⟨?_⟩
   refine azG cS Zo ks (KR L) Zo ?_ ?_
   ·clear ks
    have:∀dn:List fo,Go.bd.jH (dn.map eT).flatten=true:=by
     intro dn
     induction dn with
     |nil=>rfl
     |cons d dn al=>simpa[eT,Go.bd.jH,qJ]using al
    exact this L
   ·intro bC ul eh vY gh
    refine cT @FR @bF ⟨?_⟩
    refine⟨m,Zo,W+1,ul,a7 jY,a7 lC,bw,by refine AB ⟨?_⟩;rw[I],Zo,AX,⟨cg.le,λe z=>by rw[gh e Zo];exact cg.ab e z⟩,eh,λi v aN=> ?_⟩
    rw[ad7 W L f6]at aN
    simp only[zg,Yi]at aN
    have oW:(((Ax W).map eT).flatten).length=lH W*8:=by
     rw[KR,KJ]
    rw[vY]
    by_cases c2:i<lH W*8
    ·rw[Zg Zo]
     rw[Z5 Zo]at aN
     exact yi i v aN
    ·rw[ZX Zo,oW]at aN
     have:=(Zc.1 aN).1
     rw[Zu ⟨Zo,Zo⟩]
     exact aN
end
section
variable{X:cb}{h T c6 aP aM:K ag}{j an aG a1:Nat}{s:bi}
def az0{t:de}(a:gR t=true):nJ t≠[]:=by
 unfold nJ
 rw[Zu a]
 split<;>simp
def aoB(aw:iI X)(bT:lV X)(eN:rT X){P:Nat->Prop}{b:Nat}{aW:D}{ds:List fo}(aE:(o X).a2<=j)(cA:dD X h P b aW 8 (ds.map eT))(bE:∀e,P e->e<j)(bt:∀d∈ds,qc gV d):
 aY X 141 [aW] h j (λac T an=>ac= .zT/\bo X h j T an) (λ_ _ _=>False):=by
 refine zx aw.todu (ajI X) ?_
 rw[ajJ]
 unfold Xv
 have d5:=cA.len
 have hO:=cA.many
 rw[Zn]at d5 hO
 refine ci @d5 ⟨?_⟩
 refine fK (λm H T aU=>∃(W:Nat),H.g 5=some aW/\H.g 6=some (.Z (ds.length:Int))/\H.g 7=some (.Z (W:Int))/\W+m=ds.length/\bo X h j T aU)
  ds.length ⟨0,bw,bw,fW,Zo,bo.refl _ _⟩ ?_
 rintro m H aP aG ⟨W,t5,fU,gd,bK,bN⟩
 have jm:=bN.le
 cases m with
 |zero=>
  have d:=zr W ds.length
  refine et @gd @fU @d ⟨?_⟩
  exact⟨rfl,bN⟩
 |succ m=>
  have aoI:=zs W ds.length
  have bF:=zv W
  obtain⟨d,aH⟩:=zt ds W
  have EF:=bt d (Zj aH)
  have dS:=cA.f3 W (by rw[Zn];omega)
  have e3:=(cA.ab (λe z=>bN.ab e (bE e z))).row (i:=W) (r:=eT d) Zd (by rw[Zy,aH];rfl)
  have ko:eT d=[.str d.name, .Z d.at_, .bool d.ty.b, .bool d.ty.s, .Z d.ty.w, .str d.on, .Z d.fL, .bool d.no]:=rfl
  rw[ko]at e3
  refine iM @gd @fU @t5 @aoI @dS @e3 ⟨?_⟩
  generalize dI:bn X _ aG _=aM
  have b7:Y X aM aG=zu [.str d.name, .Z d.at_, .bool d.ty.b, .bool d.ty.s, .Z d.ty.w, .str d.on, .Z d.fL, .bool d.no] 8:=by rw[<-dI,bg Zo];rfl
  have bJ:bo X h j aM (aG+1):=⟨Zo,λe z=>by rw[<-dI];simp(disch:=omega) only[aI];exact bN.ab e z⟩
  clear dI
  refine ci (bO b7) ⟨?_⟩
  refine(LQ (j:=aG+1) (h:=aM) aw bT eN EF.name Zo).Zm ?_
  rintro ac aX bf ⟨rfl,cg⟩
  have ip:=cg.le
  rw[<-cg.ab _ Zo]at b7
  have HO:ed d.ty=[.bool d.ty.b, .bool d.ty.s, .Z d.ty.w]:=rfl
  have AW:d8 X aX 3 (.ptr aG 2)=some (.agg (ed d.ty)):=by
   rw[rv,bO b7,bO b7,bO b7];rfl
  refine ci @AW ⟨?_⟩
  refine(ah2 (j:=bf) (h:=aX) aw.todu d.ty Zo).Zm ?_
  rintro ac bC da ⟨rfl,dv⟩
  have jC:=dv.le
  rw[<-dv.ab _ Zo]at b7
  have cX:decide (nJ d.ty=[])=false:=by simp[az0 EF.type]
  have adh:bo X h j bC da:=(bJ.trans cg).trans dv
  by_cases oU:d.on=[]
  ·have cF:decide (d.on≠[])=false:=by simp[oU]
   have eS:decide (d.on=[])=true:=by simp[oU]
   have nz:aO X bC (.ptr aG 7)=some .zF:=by rw[bO b7];exact congrArg (λb=>some (D.bool b)) (EF.no oU)
   have Uj:aO X bC (.ptr aG 5)=some (.str d.on):=by rw[bO b7];rfl
   refine eF @cX @Uj @cF @eS @nz @gd @bF ⟨?_⟩
   exact⟨m,Zo,W+1,a7 t5,a7 fU,bw,Zo,adh⟩
  ·have cF:decide (d.on≠[])=true:=by simp[oU]
   have eS:decide (d.on=[])=false:=by simp[oU]
   have Uj:aO X bC (.ptr aG 5)=some (.str d.on):=by rw[bO b7];rfl
   refine et @cX @Uj @cF ⟨?_⟩
   refine(LQ (j:=da) (h:=bC) aw bT eN (EF.on oU) Zo).Zm ?_
   rintro ac bW b4 ⟨rfl,dJ⟩
   have ib:=dJ.le
   rw[<-dJ.ab _ Zo]at b7
   have atW:aO X bW (.ptr aG 5)=some (.str d.on):=by rw[bO b7];rfl
   refine gx @atW @eS @gd @bF ⟨?_⟩
   exact⟨m,Zo,W+1,a7 t5,a7 fU,bw,Zo,adh.trans dJ⟩
def axW(aw:iI X)(bT:lV X)(eN:rT X){w:bi}(bt:Gf w)(aE:(o X).a2<=j):
 aY X 143 [.str w] h j (λac T an=>ac= .zF/\bo X h j T an) (λ_ _ _=>False):=by
 refine zx aw.todu (ajM X) ?_
 rw[ajN]
 unfold Xx
 refine(LQ (j:=j) (h:=h) aw bT eN bt aE).Zm ?_
 rintro ac aM a1 ⟨rfl,bJ⟩
 refine cK ⟨?_⟩
 exact⟨rfl,bJ⟩
def awI(aw:iI X)(bT:lV X)(eN:rT X){P:Nat->Prop}{b:Nat}{aW:D}{nj:List bi}(aE:(o X).a2<=j)(V:dD X h P b aW 1 (ih nj))(bE:∀e,P e->e<j)(bt:∀w∈nj,Gf w):
 aY X 145 [aW, .func (.func 143) [] []] h j (λac T an=>ac= .zF/\bo X h j T an) (λ_ _ _=>False):=by
 refine zx aw.todu (ajQ X) ?_
 rw[ajR]
 unfold Xz
 refine aY.mono (ak:=λac T an=>ac= .Z (-1)/\bo X h j T an) (av:=λ_ _ _=>False) ?_ ?_ (λ_ _ _ a=>a.elim)
 ·refine zx aw.todu (akM X) ?_
  rw[akN]
  unfold X6
  have d5:=V.len
  have hO:=V.many
  rw[show(ih nj).length=nj.length from by simp[ih]]at d5 hO
  refine ci @d5 ⟨?_⟩
  refine fK (λm H T aU=>∃(W:Nat),H.g 0=some aW/\H.g 1=some (.func (.func 143) [] [])/\H.g 7=some (.Z (nj.length:Int))/\H.g 8=some (.Z (W:Int))/\W+m=nj.length/\bo X h j T aU)
   nj.length ⟨0,bw,bw,bw,fW,Zo,bo.refl _ _⟩ ?_
  rintro m H aP aG ⟨W,t0,t1,gd,hb,bK,bN⟩
  have jm:=bN.le
  cases m with
  |zero=>
   have d:=zr W nj.length
   refine et @hb @gd @d ⟨?_⟩
   exact⟨rfl,bN⟩
  |succ m=>
   have d:=zs W nj.length
   have bF:=zv W
   obtain⟨w,mA⟩:=zt nj W
   have dS:=V.f3 W (by simp[ih];omega)
   have iy:=(V.ab (λe z=>bN.ab e (bE e z))).cell W [.str w] 0 (.str w) (by unfold ih;rw[Zy,mA];rfl) rfl
   rw[Yl]at dS
   rw[Yl,ZW]at iy
   refine eF @hb @gd @t1 @t0 @d @dS @iy ⟨?_⟩
   refine(axW (j:=aG) (h:=aP) aw bT eN (bt w (Zj mA)) Zo).Zm ?_
   rintro ac aM a1 ⟨rfl,bJ⟩
   refine cT @hb @bF ⟨?_⟩
   exact⟨m,Zo,W+1,a7 t0,a7 t1,a7 gd,bw,Zo,bN.trans bJ⟩
 ·rintro ac aP aG ⟨rfl,bT⟩
  refine cK ⟨?_⟩
  exact⟨rfl,bT⟩
end
def ayc:∀w<65,Di ((w:Nat):Int)=((2^w-1:Nat):Int):=by decide+kernel
def ani{n w:Nat}(bt:w<=64)(aE:n<18446744073709551616)(a:Gu (n:Int) (Di (w:Int))=0):n<2^w:=by
 rw[ayc w Zo]at a
 unfold Gu at a
 have c2:=(BitVec.ofInt 64 (n:Int)&&& ~~~ BitVec.ofInt 64 ((2^w-1:Nat):Int)).isLt
 rw[aip Zo Zo]at a
 have aS:BitVec.ofInt 64 (n:Int)&&& ~~~ BitVec.ofInt 64 ((2^w-1:Nat):Int)=0#64:=BitVec.eq_of_toNat_eq (by rw[BitVec.toNat_ofNat];omega)
 rw[BitVec.ofInt_natCast,BitVec.ofInt_natCast]at aS
 apply Nat.lt_pow_two_of_testBit
 intro i aN
 by_cases G6:i<64
 ·have aj:=congrArg (λv=>v.getLsbD i) aS
  simp only[BitVec.getLsbD_and,BitVec.getLsbD_not,BitVec.getLsbD_ofNat,G6,Ys,Bool.true_and,Nat.testBit_two_pow_sub_one,BitVec.getLsbD_zero]at aj
  have:decide (i<w)=false:=by simp;omega
  rw[this]at aj
  simpa using aj
 ·exact Nat.testBit_lt_two_pow (ZP aE (by
   have:(18446744073709551616:Nat)=2^64:=by decide
   rw[this]
   exact Nat.pow_le_pow_right Zd Zo))
def awW{t:de}{n:Int}(a:MW t n):n<2^(if t.s then t.w-1 else t.w).toNat:=by
 obtain⟨I,J,am,aB⟩:=a
 obtain⟨m,rfl⟩:=Yn am
 have bt:=PM I
 have key:∀w:Nat,w<=64->Gu (m:Int) (Di (w:Int))=0->(m:Int)<2^w:=λw bt a=>by
  have:=ani bt Zo a
  have J:((2^w:Nat):Int)=(2:Int)^w:=by simp
  rw[<-J];omega
 unfold uR at J
 cases aF:t.s with
 |true=>
  rw[Zu aF]at J
  rw[Zu rfl]
  by_cases aS:t.w-1=0
  ·rw[Zu aS]at J
   have:(m:Int)=0:=by simpa using J
   rw[aS,this];decide
  ·rw[Zg aS]at J
   obtain⟨w,Ba⟩:=Yn (by omega:0<=t.w-1)
   rw[Ba]at J ⊢
   simp only[Bc,Zp,Zh]at J
   exact key w Zo J.2
 |false=>
  rw[Zg (by simp[aF])]at J
  rw[Zg Zs]
  obtain⟨w,Ba⟩:=Yn (by omega:0<=t.w)
  simp only[Bc,Zp,Zh]at J
  rw[Ba]at J ⊢
  exact key w Zo J.2
section
variable{X:cb}{h T c6 aP aM:K ag}{j an aG a1:Nat}{s:bi}
def ahD{n b:Int}(aS:0<=n)(aj:0<=b)(ny:b<=64)(a:n<2^b.toNat):bq .shr (.int .u64 n) (.Z b)=some (.int .u64 0):=by
 have bF:Bb b 0=false:=by rw[tF];simp;omega
 have cn:min b.toNat IntKind.u64.bits=b.toNat:=by
  have:IntKind.u64.bits=64:=rfl
  rw[this];omega
 have eU:n.fdiv (2^b.toNat)=0:=by
  rw[Int.fdiv_eq_ediv_of_nonneg _ (by exact Int.le_of_lt (Int.lt_of_le_of_lt aS a))]
  exact Int.ediv_eq_zero_of_lt aS a
 simp only[bq,mg,eX,JE,bF,j3,cn,eU]
 rfl
def awX(aw:iI X){P:Nat->Prop}{E:be}{v:D}(aE:(o X).a2<=j)(bs:cy X h P E v)(bE:∀e,P e->e<j)(aD:E.kind=1)(az:MW E.ty E.n):
 aY X 216 [v] h j (λac T an=>ac= .zT/\bo X h j T an) (λ_ _ _=>False):=by
 refine zx aw.todu (alp X) ?_
 rw[alq]
 unfold σ
 obtain⟨b,aW,cp,a8,rfl,aj,a0,ba,cj,a3,a4,a5,hy,h3,h4,cA,has⟩:=id bs.open
 have gn:=bE b aj
 have Oy:=awW az
 have bt:=PM az.1
 have An:decide (E.kind=1)=true:=by simp[aD]
 have HO:ed E.ty=[.bool E.ty.b, .bool E.ty.s, .Z E.ty.w]:=rfl
 have AW:d8 X h 3 (.ptr b 4)=some (.agg (ed E.ty)):=by rw[rv,a4,a5,hy];rfl
 cases aF:E.ty.s with
 |true=>
  rw[aF]at a5
  rw[Zu aF]at Oy
  have bF:bq .sub (.Z E.ty.w) (.Z 1)=some (.Z (E.ty.w-1)):=CS Zo Zo
  have JT:decide (E.ty.w-1=64)=false:=by simp only[Zb];omega
  have mf:=ahD az.2.2.1 Zo Zo Oy
  refine iM @a5 @hy @bF @a0 @An @AW ⟨?_⟩
  refine(Fk (j:=j) (h:=h) aw.todu E.ty aE).Zm ?_
  rintro ac aP aG ⟨rfl,bN⟩
  have Rz:aO X aP (.ptr b 7)=some (.int .u64 E.n):=by rw[bN.fZ _ _ gn];exact h3
  have bp:gR E.ty=true:=az.1
  rw[bp]
  refine et @JT @Rz @mf ⟨?_⟩
  exact⟨rfl,bN⟩
 |false=>
  rw[aF]at a5
  rw[Zg (by simp[aF])]at Oy
  refine gg @a5 @hy @a0 @An @AW ⟨?_⟩
  refine(Fk (j:=j) (h:=h) aw.todu E.ty aE).Zm ?_
  rintro ac aP aG ⟨rfl,bN⟩
  have Rz:aO X aP (.ptr b 7)=some (.int .u64 E.n):=by rw[bN.fZ _ _ gn];exact h3
  have bp:gR E.ty=true:=az.1
  rw[bp]
  by_cases G6:E.ty.w=64
  ·have JT:decide (E.ty.w=64)=true:=by simp[G6]
   refine ci @JT ⟨?_⟩
   exact⟨rfl,bN⟩
  ·have JT:decide (E.ty.w=64)=false:=by simp[G6]
   have mf:=ahD az.2.2.1 Zo Zo Oy
   refine et @JT @Rz @mf ⟨?_⟩
   exact⟨rfl,bN⟩
def axI(b:Nat):dw X h .eql 47 false .cx (.ptr b 0)=some .zF:=Zk
def anr(aw:iI X){P:Nat->Prop}{b:Nat}{aW:D}{bH:List be}{a8:List D}(V:dD X h P b aW 1 (a8.map λv=>[v]))(Ho:dk X h P bH a8):
 aY X 215 [aW, .cx] h j (λac T an=>ac= .zF/\T=h/\j<=an) (λ_ _ _=>False):=by
 refine zx aw.todu (aln X) ?_
 rw[alo]
 unfold ρ
 refine aY.mono (ak:=λac T an=>ac= .Z (-1)/\T=h/\j<=an) (av:=λ_ _ _=>False) ?_ ?_ (λ_ _ _ a=>a.elim)
 ·refine zx aw.todu (alJ X) ?_
  rw[alK]
  unfold aad
  have d5:=V.len
  have hO:=V.many
  rw[Zn]at d5 hO
  refine ci @d5 ⟨?_⟩
  refine fK (λm H T aU=>∃(W:Nat),H.g 0=some aW/\H.g 1=some .cx/\H.g 7=some (.Z (a8.length:Int))/\H.g 8=some (.Z (W:Int))/\W+m=a8.length/\T=h/\j<=aU)
   a8.length ⟨0,bw,bw,bw,fW,Zo,rfl,Zo⟩ ?_
  rintro m H aM a1 ⟨W,t0,t1,gd,hb,bK,rfl,lv⟩
  cases m with
  |zero=>
   have d:=zr W a8.length
   refine et @hb @gd @d ⟨?_⟩
   exact⟨rfl,rfl,lv⟩
  |succ m=>
   have d:=zs W a8.length
   have bF:=zv W
   obtain⟨v,bD⟩:=zt a8 W
   have KP:=Ho.len
   obtain⟨E,bs⟩:=zt bH W
   obtain⟨gK,uU,AV⟩:=Ho.get W E bs
   rw[bD]at uU
   cases uU
   obtain⟨B6,rfl,_,_⟩:=AV.ptr
   obtain⟨b3,b7,cS⟩:=V.one bD
   refine eF @hb @gd @t1 @t0 @d @b3 (Za @b7 (Za @axI @bF)) ⟨?_⟩
   exact⟨m,Zo,W+1,a7 t0,a7 t1,a7 gd,bw,Zo,rfl,lv⟩
 ·rintro ac aP aG ⟨rfl,rfl,bT⟩
  refine cK ⟨?_⟩
  exact⟨rfl,rfl,bT⟩
end
end
end Go.Proofs.YtpfajohmofnkfaaGreatDoor

