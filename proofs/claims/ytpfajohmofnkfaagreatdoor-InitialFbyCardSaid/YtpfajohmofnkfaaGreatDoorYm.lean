/- A part of the last text's proof; no condition of its own -/
import Derived.Test.YtpfajohmofnkfaaGreatDoorYl
set_option maxHeartbeats 8000000
set_option linter.all false
namespace Go.aR
def ho:List Tok->Prop
 |[]=>False
 |x::k=>x.kind=7/\x.text=[]\/ho k
def ho.nM{x:Tok}{k:List Tok}(a:ho (x::k))(af:x.kind≠7):ho k:=a.resolve_left λq=>af q.1
def ea{α:Type}(b:Nat)(bm:α->Prop)(x:ge α):Prop:=∃r,x=some r/\∀F bV,r= .ok (F,bV)->ho bV/\bV.length<b/\bm F
def qV(E:be):Prop:=E.kind=4->E.args≠[]
def ea.mono{α:Type}{b dO:Nat}{bm rU:α->Prop}{x:ge α}(a:ea b bm x)(aj:b<=dO)(bL:∀F,bm F->rU F):ea dO rU x:=by
 obtain⟨r,I,J⟩:=a
 exact⟨r,I,λF bV E=>by obtain⟨bR,cq,cP⟩:=J F bV E;exact⟨bR,Zo,bL F cP⟩⟩
def ea.ok{α:Type}{b:Nat}{bm:α->Prop}{F:α}{k:List Tok}(I:ho k)(J:k.length<b)(am:bm F):ea b bm (aR.ok F k):=⟨_,rfl,λfV bV E=>by cases E;exact⟨I,J,am⟩⟩
def ea.bad{α:Type}{b:Nat}{bm:α->Prop}(F:Int):ea b bm (aR.bad F:ge α):=⟨_,rfl,λfV bV E=>by cases E⟩
def ea.andThen{α eD:Type}{b dO:Nat}{bm:α->Prop}{rU:eD->Prop}{x:ge α}{f:α->List Tok->ge eD}(a:ea b bm x)(q:∀F bV,ho bV->bV.length<b->bm F->ea dO rU (f F bV)):ea dO rU (aR.andThen x f):=by
 obtain⟨r,rfl,J⟩:=a
 cases r with
 |error F=>exact⟨_,rfl,λfV bV E=>by cases E⟩
 |ok p=>
  obtain⟨F,bV⟩:=p
  obtain⟨bR,cq,cP⟩:=J F bV rfl
  exact q F bV bR cq cP
def Wb{x:Tok}{s:bi}(a:g9 x s=true):x.kind≠7:=by
 intro E;simp[g9,E]at a
def ol{s:bi}{k:List Tok}(a:ho k):ea k.length (λ_=>True) (eC s k):=by
 cases k with
 |nil=>exact a.elim
 |cons x k=>
  simp only[eC]
  split
  ·rename_i aF;exact ea.ok (a.nM (Wb aF)) Zs trivial
  ·exact ea.bad _
def ww{q:Int}(aD:q≠7){k:List Tok}(a:ho k):ea k.length (λx:Tok=>True) (iU q k):=by
 cases k with
 |nil=>exact a.elim
 |cons x k=>
  simp only[iU]
  split
  ·rename_i aF;exact ea.ok (a.nM Zo) Zs trivial
  ·exact ea.bad _
def qR{eD:Type}{s:bi}{k:List Tok}{f:Option Tok->List Tok->ge eD}{b:Nat}{bm:eD->Prop}(a:ho k)(I:∀x bV,ho bV->bV.length+1=k.length->ea b bm (f (some x) bV))(J:ea b bm (f none k)):ea b bm (ir s k f):=by
 cases k with
 |nil=>exact a.elim
 |cons x k=>
  unfold ir mm
  by_cases aF:g9 x s=true
  ·simp only[aF,ZC];exact I x k (a.nM (Wb aF)) Zs
  ·simp only[aF,ZA];exact J
def abo{k:List Tok}(a:ho k):∀os:List (bi×Int),∃E bV,ps os k=some (E,bV)/\(E=none/\bV=k\/∃x,E=some x/\ho bV/\bV.length+1=k.length):=by
 cases k with
 |nil=>exact a.elim
 |cons x k=>
  intro os
  induction os with
  |nil=>exact⟨_,_,rfl, .inl ⟨rfl,rfl⟩⟩
  |cons U os al=>
   obtain⟨s,q⟩:=U
   unfold ps mm
   by_cases aF:g9 x s=true
   ·simp only[aF,ZC];exact⟨_,_,rfl, .inr ⟨_,rfl,a.nM (Wb aF),Zs⟩⟩
   ·simp only[aF,ZA]
    exact al
structure aiH(n:Nat):Prop where
 level:∀q k,q<=5->ho k->13*k.length+9-q<=n->ea k.length qV (level n q k)
 pU:∀q E k,q<=4->ho k->qV E->13*k.length+1<=n->ea (k.length+1) qV (pU n q E k)
 shift:∀k,ho k->13*k.length+3<=n->ea k.length qV (shift n k)
 p5:∀E k,ho k->qV E->13*k.length+1<=n->ea (k.length+1) qV (p5 n E k)
 p6:∀q x E k,q≠4->ho k->13*k.length+1<=n->ea k.length qV (p6 n q x E k)
 va:∀k,ho k->13*k.length+2<=n->ea k.length qV (yL n k)
 nN:∀E k,ho k->qV E->13*k.length+1<=n->ea (k.length+1) qV (nN n E k)
 part:∀k,ho k->13*k.length+1<=n->ea k.length qV (part n k)
 list:∀k,ho k->13*k.length+12<=n->ea k.length (λ_=>True) (list n k)
 pW:∀cv k,ho k->13*k.length+1<=n->ea k.length (λ_=>True) (pW n cv k)
 l9:∀k,ho k->13*k.length+10<=n->ea k.length qV (l9 n k)
 arrow:∀k,ho k->13*k.length+11<=n->ea k.length qV (arrow n k)
def vi{E:be}(a:E.kind≠4):qV E:=λq=>absurd q a
def WI{E:be}(a:E.args≠[]):qV E:=λ_=>a
def ho.pos{k:List Tok}(a:ho k):0<k.length:=by cases k with
 |nil=>exact a.elim
 |cons x k=>simp
def anf:∀n,aiH n:=by
 intro n
 induction n with
 |zero=>constructor<;>(intros;rename_i a _ _;omega)
 |succ n al=>
  constructor
  case level=>
   intro q k aD az aE
   have:=az.pos
   rw[level]
   split
   ·exact al.shift k az Zo
   ·refine(al.level (q+1) k Zo az Zo).andThen λE bV I J am=> ?_
    exact(al.pU q E bV Zo I am Zo).mono Zo λ_ a=>a
  case pU=>
   intro q E k aD az bs aE
   have:=az.pos
   rw[pU]
   obtain⟨U,bV,I,J⟩:=abo az (ar q)
   rw[I]
   rcases J with ⟨rfl,rfl⟩|⟨x,rfl,am,aB⟩
   ·exact ea.ok az Zo bs
   ·simp only[]
    refine(al.level (q+1) bV Zo am Zo).andThen λr c4 bR cq cP=> ?_
    split
    ·exact ea.ok bR Zo (WI (by simp[two,be.args]))
    ·exact(al.pU q _ c4 aD bR (WI (by simp[two,be.args])) Zo).mono Zo λ_ a=>a
  case shift=>
   intro k az aE
   have:=az.pos
   rw[shift]
   refine(al.va k az Zo).andThen λE bV I J am=> ?_
   exact(al.p5 E bV I am Zo).mono Zo λ_ a=>a
  case p5=>
   intro E k az bs aE
   have:=az.pos
   rw[p5]
   refine qR az (λx bV I J=>(al.p6 19 x E bV Zd I Zo).mono Zo λ_ a=>a) ?_
   refine qR az (λx bV I J=>(al.p6 20 x E bV Zd I Zo).mono Zo λ_ a=>a) ?_
   exact ea.ok az Zo bs
  case p6=>
   intro q x E k aD az aE
   have:=az.pos
   rw[p6]
   refine(ww Zd az).andThen λm bV I J am=> ?_
   split
   ·exact ea.bad _
   ·exact(al.p5 _ bV I (vi (by simpa[be.kind]using aD)) Zo).mono Zo λ_ a=>a
  case va=>
   intro k az aE
   have:=az.pos
   rw[yL]
   obtain⟨U,bV,I,J⟩:=abo az Bp
   rw[I]
   rcases J with ⟨rfl,rfl⟩|⟨x,rfl,am,aB⟩
   ·simp only[]
    refine(al.part bV az Zo).andThen λE c4 bR cq cP=> ?_
    exact(al.nN E c4 bR cP Zo).mono Zo λ_ a=>a
   ·simp only[]
    refine(al.va bV am Zo).andThen λE c4 bR cq cP=> ?_
    exact ea.ok bR Zo (WI (by simp[be.args]))
  case nN=>
   intro E k az bs aE
   have:=az.pos
   rw[nN]
   refine qR az (λx bV I J=> ?_) (ea.ok az Zo bs)
   have:=I.pos
   refine qR I (λe c4 bR cq=> ?_) ?_
   ·refine(ww Zd bR).andThen λm fa e6 fq k2=> ?_
    exact(al.nN _ fa e6 (vi (by simp[be.kind])) Zo).mono Zo λ_ a=>a
   ·refine(ww Zd I).andThen λm fa e6 fq k2=> ?_
    exact(al.nN _ fa e6 (vi (by simp[be.kind])) Zo).mono Zo λ_ a=>a
  case list=>
   intro k az aE
   have:=az.pos
   rw[list]
   refine qR az (λx bV I J=>ea.ok I Zo trivial) ?_
   refine(al.arrow k az Zo).andThen λE c4 bR cq cP=> ?_
   exact(al.pW _ c4 bR Zo).mono Zo λ_ a=>a
  case pW=>
   intro cv k az aE
   have:=az.pos
   rw[pW]
   refine qR az (λx bV I J=> ?_) ?_
   ·refine(al.arrow bV I Zo).andThen λE c4 bR cq cP=> ?_
    exact(al.pW _ c4 bR Zo).mono Zo λ_ a=>a
   ·exact(ol az).andThen λ_ bV I J _=>ea.ok I Zo trivial
  case l9=>
   intro k az aE
   have:=az.pos
   rw[l9]
   refine(al.level 0 k Zo az Zo).andThen λE c4 bR cq cP=> ?_
   refine qR bR (λx bV I J=> ?_) (ea.ok bR Zo cP)
   have CF:u3 E≠none:=by
    unfold u3
    split
    ·simp
    ·split
     ·rename_i aB
      have:=cP aB
      cases aC:E.args with
      |nil=>exact absurd aC this
      |cons F k=>simp
     ·simp
   simp only[]
   split
   ·rename_i a;exact absurd a CF
   ·refine(al.l9 bV I Zo).andThen λr fa e6 fq k2=> ?_
    exact ea.ok e6 Zo (vi (by simp[be.kind]))
   ·exact ea.bad _
  case arrow=>
   intro k az aE
   have:=az.pos
   rw[arrow]
   refine(al.l9 k az Zo).andThen λE c4 bR cq cP=> ?_
   refine qR bR (λx bV I J=> ?_) (ea.ok bR Zo cP)
   refine(al.arrow bV I Zo).andThen λr fa e6 fq k2=> ?_
   exact ea.ok e6 Zo (vi (by simp[be.kind]))
  case part=>
   intro k az aE
   cases k with
   |nil=>exact az.elim
   |cons x k=>
   simp only[ZD]at aE
   rw[part]
   have fI:(x::k).length=k.length+1:=rfl
   rw[fI]
   by_cases jO:x.kind=5
   ·rw[Zu jO]
    exact ea.ok (az.nM Zo) Zo (vi (by simp[be.kind]))
   rw[Zg jO]
   split
   ·rename_i a
    have:x.kind=2:=by simp at a;exact a.1
    exact ea.ok (az.nM Zo) Zo (vi (by simp[be.kind]))
   by_cases db:x.kind=1
   ·rw[Zu db]
    have hq:=az.nM Zo
    refine qR hq (λe c4 I J=> ?_) (ea.ok hq Zo (vi (by simp[be.kind])))
    refine(al.list c4 I Zo).andThen λcv fa e6 fq k2=> ?_
    exact ea.ok e6 Zo (vi (by simp[be.kind]))
   rw[Zg db]
   by_cases gf:x.kind=3
   ·rw[Zu gf]
    have hq:=az.nM Zo
    refine(ol hq).andThen λ_ c4 I J _=> ?_
    refine(al.arrow c4 I Zo).andThen λE fa e6 fq k2=> ?_
    refine(ol e6).andThen λ_ g6 fG hD _=> ?_
    exact ea.ok fG Zo (vi (by simp[be.kind]))
   rw[Zg gf]
   split
   ·rename_i a
    have:x.kind=6:=by simp at a;exact a.1
    have hq:=az.nM Zo
    refine(al.arrow k hq Zo).andThen λE fa e6 fq k2=> ?_
    refine(ol e6).andThen λ_ g6 fG hD _=> ?_
    exact ea.ok fG Zo k2
   split
   ·rename_i a
    have:x.kind=2:=by simp at a;exact a.1
    have hq:=az.nM Zo
    refine(al.arrow k hq Zo).andThen λE fa e6 fq k2=> ?_
    refine(ol e6).andThen λ_ g6 fG hD _=> ?_
    refine(al.arrow g6 fG Zo).andThen λcn gJ cG cw d9=> ?_
    refine(ol cG).andThen λ_ m7 eL e7 _=> ?_
    refine(al.arrow m7 eL Zo).andThen λeU mE jr k9 Mg=> ?_
    exact ea.ok jr Zo (vi (by simp[be.kind]))
   split
   ·rename_i a
    have:x.kind=2:=by simp at a;exact a.1
    have hq:=az.nM Zo
    refine(ww Zd hq).andThen λc c4 I J _=> ?_
    refine(al.part c4 I Zo).andThen λE fa e6 fq k2=> ?_
    refine(al.part fa e6 Zo).andThen λcn g6 fG hD yK=> ?_
    exact ea.ok fG Zo (vi (by simp[be.kind]))
   ·exact ea.bad _
def agn:∀(n:Nat) (cv k:List Tok),ho k->k.length<=n->ea k.length (λ_=>True) (su n cv k):=by
 intro n
 induction n with
 |zero=>intro cv k a aE;have:=a.pos;omega
 |succ n al=>
  intro cv k a aE
  rw[su]
  refine(ww Zd a).andThen λx c4 I J _=> ?_
  refine qR I (λe fa bR cq=>(al _ fa bR Zo).mono Zo λ_ a=>a) (ea.ok I Zo trivial)
def aoC{w:Option Tok}{k:List Tok}(a:ho k):ea (k.length+1) (λ_=>True) (Cd w k):=by
 cases w with
 |none=>exact ea.ok a Zo trivial
 |some w=>
  simp only[Cd]
  refine qR a (λe c4 bR cq=> ?_) ?_
  ·exact(ww Zd bR).andThen λx fa e6 fq _=>ea.ok e6 Zo trivial
  ·exact(ww Zd a).andThen λx fa e6 fq _=>ea.ok e6 Zo trivial
def R7:∀(n:Nat) (loc:Bool) (ds:List fo) (k:List Tok),ho k->k.length+1<=n->ea k.length (λ_=>True) (jh n loc ds k):=by
 intro n
 induction n with
 |zero=>intro loc ds k a aE;omega
 |succ n al=>
  intro loc ds k a aE
  rw[jh]
  refine(agn n [] k a Zo).andThen λcl c4 I J _=> ?_
  unfold D9
  refine(ol I).andThen λ_ fa bR cq _=> ?_
  refine(ww Zd bR).andThen λt g6 e6 fq _=> ?_
  have fin:∀w gJ,ho gJ->gJ.length<=g6.length->ea k.length (λ_=>True) (andThen (Cd w gJ) λr k=>Am loc (jh n loc) (ds++cl.map (qn t.ty r.1 r.2.1 r.2.2)) k):=by
   intro w gJ fG hD
   refine(aoC fG).andThen λr m7 cG cw _=> ?_
   unfold Am
   cases m7 with
   |nil=>exact cG.elim
   |cons e mE=>
    simp only[BC,ZD]at cw ⊢
    split
    ·rename_i aF
     have d9:ho mE:=cG.resolve_left λq=>by rw[q.2]at aF;cases aF
     split
     ·cases mE with
      |nil=>exact d9.elim
      |cons bz o0=>
       simp only[BC]
       split
       ·exact ea.ok cG (by simp at cw ⊢;omega) trivial
       ·exact(al _ _ (bz::o0) d9 (by simp at cw ⊢;omega)).mono (by simp at cw ⊢;omega) λ_ a=>a
     ·exact(al _ _ mE d9 Zo).mono Zo λ_ a=>a
    ·exact ea.ok cG (by simp;omega) trivial
  refine qR e6 (λe gJ fG hD=>fin _ gJ fG Zo) (fin _ g6 e6 Zo)
def apE{n:Nat}{k:List Tok}(a:ho k)(aE:13*k.length+12<=n):ea k.length (λ_=>True) (vH n k):=by
 unfold vH
 have fin:∀(x:ge (List Tok)),ea (k.length+1) (λ_=>True) x->ea k.length (λ_=>True) (andThen x λcl k=>andThen (eC [61] k) λE k=>andThen (arrow n k) λr k=>andThen (eC [59] k) λ_ k=>ok (⟨cl.map Tok.text,cl.map Tok.at_,E.at_,r⟩:fc) k):=by
  intro x af
  refine af.andThen λcl c4 I J _=> ?_
  refine(ol I).andThen λ_ fa bR cq _=> ?_
  refine((anf n).arrow fa bR Zo).andThen λE g6 e6 fq _=> ?_
  exact(ol e6).andThen λ_ gJ fG hD _=>ea.ok fG Zo trivial
 refine qR a (λe c4 I J=>fin _ ?_) (fin _ ?_)
 ·refine(ww Zd I).andThen λx fa bR cq _=> ?_
  refine(ol bR).andThen λ_ g6 e6 fq _=> ?_
  refine(agn n _ g6 e6 Zo).andThen λcl gJ fG hD _=> ?_
  exact(ol fG).andThen λ_ m7 cG cw _=>ea.ok cG Zo trivial
 ·exact(ww Zd a).andThen λx fa bR cq _=>ea.ok bR Zo trivial
def apH:∀(n:Nat) (cN:List fc) (k:List Tok),ho k->13*k.length+13<=n->ea k.length (λ_=>True) (l8 n cN k):=by
 intro n
 induction n with
 |zero=>intro cN k a aE;omega
 |succ n al=>
  intro cN k a aE
  rw[l8]
  refine qR a (λe c4 I J=>ea.ok I Zo trivial) ?_
  refine(apE a Zo).andThen λah c4 I J _=> ?_
  exact(al _ c4 I Zo).mono Zo λ_ a=>a
def axQ{n:Nat}{k:List Tok}(a:ho k)(aE:13*k.length+13<=n):ea k.length (λ_=>True) (node n k):=by
 unfold node
 refine(ol a).andThen λ_ c4 I J _=> ?_
 refine(ww Zd I).andThen λx fa bR cq _=> ?_
 refine(ol bR).andThen λ_ g6 e6 fq _=> ?_
 have apY:∀ez out gJ,ho gJ->gJ.length<g6.length->ea k.length (λ_=>True) (ir [118,97,114] gJ λe k=>andThen (match e with
  |some _=>andThen (jh n true [] k) λds k=>andThen (eC [59] k) λ_ k=>ok ds k
  |none=>ok [] k) λloc k=>
  andThen (eC [108,101,116] k) λ_ k=>andThen (l8 n [] k) λcN k=>ok (⟨x.text,x.at_,ez,out,loc,cN⟩:Node) k):=by
  intro ez out gJ fG hD
  have acx:∀(bz:ge (List fo)),ea (gJ.length+1) (λ_=>True) bz->ea k.length (λ_=>True) (andThen bz λloc k=>
   andThen (eC [108,101,116] k) λ_ k=>andThen (l8 n [] k) λcN k=>ok (⟨x.text,x.at_,ez,out,loc,cN⟩:Node) k):=by
   intro bz cr
   refine cr.andThen λloc m7 cG cw _=> ?_
   refine(ol cG).andThen λ_ mE eL e7 _=> ?_
   refine(apH n _ mE eL Zo).andThen λcN o0 jr k9 _=> ?_
   exact ea.ok jr Zo trivial
  refine qR fG (λe m7 cG cw=>acx _ ?_) (acx _ (ea.ok fG Zo trivial))
  refine(R7 n _ _ m7 cG Zo).andThen λds mE eL e7 _=> ?_
  exact(ol eL).andThen λ_ o0 jr k9 _=>ea.ok jr Zo trivial
 have acw:∀(bz:ge (List fo)),ea (g6.length+1) (λ_=>True) bz->ea k.length (λ_=>True) (andThen bz λez k=>
  andThen (eC [114,101,116,117,114,110,115] k) λ_ k=>andThen (eC [40] k) λ_ k=>andThen (jh n false [] k) λout k=>andThen (eC [41] k) λ_ k=>
  ir [118,97,114] k λe k=>andThen (match e with
  |some _=>andThen (jh n true [] k) λds k=>andThen (eC [59] k) λ_ k=>ok ds k
  |none=>ok [] k) λloc k=>
  andThen (eC [108,101,116] k) λ_ k=>andThen (l8 n [] k) λcN k=>ok (⟨x.text,x.at_,ez,out,loc,cN⟩:Node) k):=by
  intro bz cr
  refine cr.andThen λez gJ fG hD _=> ?_
  refine(ol fG).andThen λ_ m7 cG cw _=> ?_
  refine(ol cG).andThen λ_ mE eL e7 _=> ?_
  refine(R7 n _ _ mE eL Zo).andThen λout o0 jr k9 _=> ?_
  refine(ol jr).andThen λ_ tH t1 dQ _=> ?_
  exact apY ez out tH t1 Zo
 refine qR e6 (λe gJ fG hD=>acw _ (ea.ok fG Zo trivial)) (acw _ ?_)
 refine(R7 n _ _ g6 e6 Zo).andThen λds mE eL e7 _=> ?_
 exact(ol eL).andThen λ_ o0 jr k9 _=>ea.ok jr Zo trivial
def axS:∀(n:Nat) (ai:List Node) (k:List Tok),ho k->13*k.length+14<=n->ea k.length (λ_=>True) (p1 n ai k):=by
 intro n
 induction n with
 |zero=>intro ai k a aE;omega
 |succ n al=>
  intro ai k a aE
  rw[p1]
  refine(axQ a Zo).andThen λg c4 I J _=> ?_
  cases c4 with
  |nil=>exact I.elim
  |cons x fa=>
   simp only[]
   split
   ·exact ea.ok I Zo trivial
   ·exact(al _ _ I Zo).mono Zo λ_ a=>a
end Go.aR

namespace Go.Proofs.YtpfajohmofnkfaaGreatDoor
open Go.bd Go.aR
def ho.snoc{x:Tok}(I:x.kind=7)(J:x.text=[]):∀k:List Tok,ho (k++[x]):=by
 intro k
 induction k with
 |nil=>exact .inl ⟨I,J⟩
 |cons e k al=>exact .inr al
def aBj(s:bi):∀(n:Nat) (aT:List Tok) (i:Nat),i<=s.length->s.length<i+n->∃r,rK s n aT i=some r/\∀ni,r= .ok ni->ho ni:=by
 intro n
 induction n with
 |zero=>intro aT i I J;omega
 |succ n al=>
  intro aT i I J
  rw[rK]
  split
  ·cases af:yV s i with
   |none=>exact⟨_,rfl,λni a=>by cases a⟩
   |some x=>
    obtain⟨bR,cq⟩:=Ww af
    have cP:=RO s s.length (i+x.text.length)
    exact al _ _ (JL s _ _ cq) Zo
  ·exact⟨_,rfl,λni a=>by cases a;exact ho.snoc rfl rfl _⟩
def ayw{s:bi}(aF:s.length<=5000):∃r,Dl s 170000=some r:=by
 unfold Dl
 obtain⟨r,I,J⟩:=aBj s (s.length+1) [] (oD s s.length 0) (JL s _ _ Zo) Zo
 rw[I]
 cases r with
 |error F=>exact⟨_,rfl⟩
 |ok aT=>
  simp only[]
  have fI:=ahY s _ _ _ _ Zs (JL s _ _ Zo) I
  obtain⟨r,am,_⟩:=axS 170000 [] aT (J aT rfl) Zo
  rw[am]
  cases r with
  |error F=>exact⟨_,rfl⟩
  |ok p=>
   obtain⟨ai,k⟩:=p
   simp only[]
   cases nC ai with
   |none=>exact⟨_,rfl⟩
   |some ah=>exact⟨_,rfl⟩
noncomputable def Dk(s:bi):Except (Int×Int) (List Go.aR.Node):=match Dl s 170000 with
 |some r=>r
 |none=> .error (0,0)
def agT{s:bi}(aF:s.length<=5000):Dl s 170000=some (Dk s):=by
 obtain⟨r,a⟩:=ayw aF
 unfold Dk
 rw[a]
variable{X:cb}{h:K ag}{j:Nat}
def ayv(aw:iI X)(eN:Jp X)(f6:xC X){s:bi}(aF:s.length<=5000)(aj:∀c∈s,c<256)(aE:(o X).a2<=j){a0:D}(az:gy a0=some (.Z (s.length:Int)))(ED:∀T aU,bo X h j T aU->Cc X T a0=some (.str s)):
 aY X 15 [a0] h j (λac T an=>W6 X j (Dk s) ac T an/\bo X h j T an) (λ_ _ _=>False):=
 ayy aw eN f6 (Zi _) Zo aj aE az ED (agT aF)
end Go.Proofs.YtpfajohmofnkfaaGreatDoor

namespace Go.Proofs.YtpfajohmofnkfaaGreatDoor
open Go.bd Go.aR
noncomputable section
def x0(nm:bi):Nat->List Go.aR.Node->Option Nat
 |_,[]=>none
 |q,g::k=>if g.name=nm then some q else x0 nm (q+1) k
def nv(ai:List Go.aR.Node)(nm:bi):Option Nat:=x0 nm 0 ai
section
variable{X:cb}{h T aP aM:K ag}{j an aG a1:Nat}{P:Nat->Prop}{ai:List Go.aR.Node}
def avM(aw:du X){g:Go.aR.Node}{row:List D}(aE:(o X).a2<=j)(bU:pn X h P g row){c:Nat}{nm:bi}(aA:c<j)(yj:aO X h (.ptr c 0)=some (.str nm)):
 aY X 134 [.agg row, .ptr c 0] h j (λac T an=>ac= .bool (decide (g.name=nm))/\bo X h j T an) (λ_ _ _=>False):=by
 refine zx aw (ajC X) ?_
 rw[ajD]
 unfold Xs
 obtain⟨dj,dG,aW,eP,bQ,cf,cM,ew,V7,rfl,_⟩:=bU
 refine ci @yj ⟨?_⟩
 exact⟨rfl,dM⟩
def avC(aw:du X){aW:D}{cp:Nat}{br:List (List D)}(aE:(o X).a2<=j)(cA:dD X h P cp aW 6 br)(v8:lX X h P ai br)(bE:∀e,P e->e<j){c:Nat}{nm:bi}(aA:c<j)(yj:aO X h (.ptr c 0)=some (.str nm)):
 aY X 133 [aW, .func (.func 134) [] [.ptr c 0]] h j (λac T an=>ac= .Z (match nv ai nm with|some q=>(q:Int)|none=> -1)/\bo X h j T an) (λ_ _ _=>False):=by
 refine zx aw (ajA X) ?_
 rw[ajB]
 unfold Xr
 have yl:=v8.wide
 have d5:=cA.len
 have hO:=cA.many
 rw[yl.1]at d5 hO
 refine ci @d5 ⟨?_⟩
 refine fK (λm H T aU=>∃(W:Nat),H.g 0=some aW/\H.g 1=some (.func (.func 134) [] [.ptr c 0])/\H.g 7=some (.Z (ai.length:Int))/\H.g 8=some (.Z (W:Int))/\W+m=ai.length/\bo X h j T aU/\nv ai nm=x0 nm W (ai.drop W))
  ai.length ⟨0,bw,bw,bw,fW,Zo,bo.refl _ _,rfl⟩ ?_
 rintro m H aM a1 ⟨W,t0,t1,gd,hb,bK,bJ,ch⟩
 have f7:=bJ.le
 cases m with
 |zero=>
  have d:=zr W ai.length
  rw[ZH Zo]at ch
  refine et @hb @gd @d ⟨?_⟩
  exact⟨by rw[ch];rfl,bJ⟩
 |succ m=>
  have d:=zs W ai.length
  have bF:=zv W
  obtain⟨g,bU⟩:=zt ai W
  have aH:ai.drop W=g::ai.drop (W+1):=by
   obtain⟨af,z⟩:=Zc.1 bU
   rw[Zv af,z]
  obtain⟨row,e3,jD⟩:=v8.get W g bU
  have aD:=λe (z:P e)=>bJ.ab e (bE e z)
  have dS:=cA.f3 W (by rw[yl.1];omega)
  have ic:=(cA.ab aD).row Zd e3
  have TD:aO X aM (.ptr c 0)=some (.str nm):=zB (bJ.ab c aA) yj
  rw[aH,x0]at ch
  refine eF @hb @gd @t1 @t0 @d @dS @ic ⟨?_⟩
  refine(avM aw Zo (jD.ab (bm:=P) aD (λ_ a=>a)) Zo TD).Zm ?_
  rintro ac aX bf ⟨rfl,cg⟩
  by_cases iR:g.name=nm
  ·rw[Zu iR]at ch
   have cF:decide (g.name=nm)=true:=by simp[iR]
   rw[cF]
   refine cK ⟨?_⟩
   exact⟨by rw[ch],bJ.trans cg⟩
  ·rw[Zg iR]at ch
   have cF:decide (g.name=nm)=false:=by simp[iR]
   rw[cF]
   refine cT @hb @bF ⟨?_⟩
   exact⟨m,Zo,W+1,a7 t0,a7 t1,a7 gd,bw,Zo,bJ.trans cg,ch⟩
def Sm(b:Nat):dw X h .eql 23 true (.ptr b 0) .cx=some .zF:=Zk
def agh{C:aL}{h:K ag}(x:Int):qY C h .max [3,3] [.Z x, .Z 0]=some (.Z (max x 0)):=by
 show nU true (.Z x) [.Z 0]=_
 simp only[nU,fA,tF,ZC]
 congr 2
 simp only[Zh]
 split<;>omega
def Sz(aw:du X){v:D}(aE:(o X).a2<=j)(bU:nQ X h P ai v)(bE:∀e,P e->e<j)(nm:bi):
 aY X 79 [v, .str nm] h j (λac T an=>ac= .tuple [.Z (((nv ai nm).getD 0:Nat):Int), .bool (nv ai nm).isSome]/\bo X h j T an) (λ_ _ _=>False):=by
 refine zx aw (amr X) ?_
 rw[ams]
 unfold aaD
 obtain⟨b,aW,cp,br,rfl,jA,a0,cA,v8⟩:=bU
 have gn:=bE b jA
 refine cT @Sm @a0 ⟨?_⟩
 refine fh (λaP=>Y X aP j=zu [.str nm] 1/\bo X h j aP (j+1)) ⟨bg aE,dM⟩ ?_
 rintro aP ⟨b3,bN⟩
 have aD:=λe (z:P e)=>bN.ab e (bE e z)
 refine(avC (j:=j+1) (h:=aP) aw Zo (cA.ab aD) (v8.ab (bm:=P) aD (λ_ a=>a)) (λe z=>zq (bE e z)) Zo (by rw[bO b3];rfl)).Zm ?_
 rintro ac aM a1 ⟨rfl,bJ⟩
 cases ch:nv ai nm with
 |none=>
  refine ci @agh ⟨?_⟩
  exact⟨rfl,bN.trans bJ⟩
 |some q=>
  have d:decide ((0:Int)<=(q:Int))=true:=by simp only[Zh];omega
  have bp:max (q:Int) 0=(q:Int):=Zo
  refine et @agh @d @bp ⟨?_⟩
  exact⟨rfl,bN.trans bJ⟩
end
mutual
def Dz{iX:Type}(step:iX->be->iX×Bool):iX->be->iX
 |s, .mk q F nm no t n args=>if (step s (.mk q F nm no t n args)).2=true then yZ step (step s (.mk q F nm no t n args)).1 args else(step s (.mk q F nm no t n args)).1
def yZ{iX:Type}(step:iX->be->iX×Bool):iX->List be->iX
 |s,[]=>s
 |s,E::k=>yZ step (Dz step s E) k
end
def aBP{iX:Type}(step:iX->be->iX×Bool)(s:iX)(E:be):Dz step s E=if (step s E).2=true then yZ step (step s E).1 E.args else(step s E).1:=by
 cases E;rw[Dz];rfl
def Qq{E F:be}(a:F∈E.args):SizeOf.sizeOf F<SizeOf.sizeOf E:=by
 cases E with
 |mk q at_ nm no t n args=>
  have cz:F∈args:=a
  have:=List.sizeOf_lt_of_mem cz
  simp
  omega
section
variable{X:cb}{h T aP aM:K ag}{j an aG a1:Nat}
def aBT(aw:du X){iX:Type}(step:iX->be->iX×Bool)(P:Nat->Prop)(dW:iX->K ag->Nat->Prop)(c6:K ag)(eE:be->D->Prop)(gO:∀E b aW cp a8,eE E (.ptr b 0)->aO X c6 (.ptr b 8)=some aW->dD X c6 P cp aW 1 (a8.map λv=>[v])->dk X c6 P E.args a8->∀(i:Nat) F w,E.args[i]? =some F->a8[i]? =some w->eE F w)(q:Nat)(Eh tc:List D)
 (sl:∀(s:iX) (E:be) (v:D) (h:K ag) (j:Nat),dW s h j->eE E v->cy X h P E v->(∀e,P e->Y X h e=Y X c6 e)->aY X q ((Eh++[v])++tc) h j (λac T an=>ac= .bool (step s E).2/\dW (step s E).1 T an/\∀e,P e->Y X T e=Y X h e) (λ_ _ _=>False)):
 ∀(N:Nat) (E:be),SizeOf.sizeOf E<N->∀(s:iX) (v:D) (h:K ag) (j:Nat),dW s h j->eE E v->cy X h P E v->(∀e,P e->Y X h e=Y X c6 e)->
  aY X 18 [v, .func (.func q) Eh tc] h j (λac T an=>ac= .tuple []/\dW (Dz step s E) T an/\∀e,P e->Y X T e=Y X h e) (λ_ _ _=>False):=by
 intro N
 induction N with
 |zero=>intro E a;omega
 |succ N al=>
  intro E i2 s v h j fi V bs KA
  refine zx aw (Rm X) ?_
  rw[Rn]
  unfold MX
  obtain⟨b,aW,cp,a8,rfl,aj,_,_,_,_,_,_,_,_,h4,cA,has⟩:=id bs.open
  have d5:=cA.len
  have tC:=has.len
  rw[Zn,tC]at d5
  have hO:=cA.many
  rw[Zn,tC]at hO
  rw[aBP]
  refine ci @IG ⟨?_⟩
  refine(sl s E _ h j fi V bs KA).Zm ?_
  rintro ac aP aG ⟨rfl,Oh,kq⟩
  cases aCY:(step s E).2 with
  |false=>
   refine cK ⟨?_⟩
   exact⟨rfl,Oh,kq⟩
  |true=>
   have DV:aO X aP (.ptr b 8)=some aW:=zB (kq b aj) h4
   refine cT @DV @d5 ⟨?_⟩
   refine fK (λm H T aU=>∃(W:Nat) (fk:iX),H.g 1=some (.func (.func q) Eh tc)/\H.g 17=some aW/\H.g 18=some (.Z (E.args.length:Int))/\H.g 19=some (.Z (W:Int))/\W+m=E.args.length/\dW fk T aU/\(∀e,P e->Y X T e=Y X h e)/\yZ step (step s E).1 E.args=yZ step fk (E.args.drop W))
    E.args.length ⟨0,_,bw,bw,bw,fW,Zo,Oh,kq,rfl⟩ ?_
   rintro m H aM a1 ⟨W,fk,t1,w4,ve,qO,bK,oM,i6,bt⟩
   cases m with
   |zero=>
    have d:=zr W E.args.length
    rw[ZH Zo,yZ]at bt
    refine et @qO @ve @d ⟨?_⟩
    exact⟨rfl,by simp only[ZC];rw[bt];exact oM,i6⟩
   |succ m=>
    have d:=zs W E.args.length
    have bF:=zv W
    obtain⟨F,aC⟩:=zt E.args W
    have aH:E.args.drop W=F::E.args.drop (W+1):=by
     obtain⟨af,z⟩:=Zc.1 aC
     rw[Zv af,z]
    obtain⟨w,mA,Tt⟩:=has.get W F aC
    obtain⟨b3,b7,cS⟩:=(cA.ab i6).one mA
    rw[aH,yZ]at bt
    refine eF @qO @ve @w4 @t1 @d @b3 @b7 ⟨?_⟩
    have eO:=Qq (Zj aC)
    refine(al F Zo fk w aM a1 oM (gO E b aW cp a8 V (by rw[co, <-KA b aj, <-co];exact h4) (cA.ab λe z=>(KA e z).symm) (dk.ab (λe z=>(KA e z).symm) _ _ has) W F w aC mA) (cy.ab i6 _ _ Tt) (λe z=>(i6 e z).trans (KA e z))).Zm ?_
    rintro ac aX bf ⟨rfl,vT,mc⟩
    refine cT @qO @bF ⟨?_⟩
    exact⟨m,Zo,W+1,_,a7 t1,a7 w4,a7 ve,bw,Zo,vT,λe z=>by rw[mc e z,i6 e z],bt⟩
def aBS(aw:du X){iX:Type}(step:iX->be->iX×Bool)(P:Nat->Prop)(dW:iX->K ag->Nat->Prop)(q:Nat)(Eh tc:List D)
 (sl:∀(s:iX) (E:be) (v:D) (h:K ag) (j:Nat),dW s h j->cy X h P E v->aY X q ((Eh++[v])++tc) h j (λac T an=>ac= .bool (step s E).2/\dW (step s E).1 T an/\∀e,P e->Y X T e=Y X h e) (λ_ _ _=>False))
 (N:Nat)(E:be)(i2:SizeOf.sizeOf E<N)(s:iX)(v:D)(h:K ag)(j:Nat)(fi:dW s h j)(bs:cy X h P E v):
  aY X 18 [v, .func (.func q) Eh tc] h j (λac T an=>ac= .tuple []/\dW (Dz step s E) T an/\∀e,P e->Y X T e=Y X h e) (λ_ _ _=>False):=
 aBT aw step P dW h (λ_ _=>True) (λ_ _ _ _ _ _ _ _ _ _ _ _ _ _=>trivial) q Eh tc (λs E v h j fi _ bs _=>sl s E v h j fi bs) N E i2 s v h j fi trivial bs (λ_ _=>rfl)
end
def f8(X:cb)(h:K ag)(b5:Nat)(p:D)(q:Int)(cZ df:D)(f:Int×Int):Prop:=Y X h b5=zu [p, .Z q,cZ,df, .Z f.1, .Z f.2] 6
def nu(f:Int×Int)(c F:Int):Int×Int:=if f.1=0 then(c,F)else f
section
variable{X:cb}{h T aP aM:K ag}{j an aG a1:Nat}
def xS(aw:du X){b5:Nat}{p cZ df:D}{q:Int}{f:Int×Int}(aE:(o X).a2<=b5)(aA:f8 X h b5 p q cZ df f)(c F:Int):
 aY X 119 [.ptr b5 0, .Z c, .Z F] h j (λac T an=>ac= .tuple []/\f8 X T b5 p q cZ df (nu f c F)/\j<=an/\∀e,e≠b5->Y X T e=Y X h e) (λ_ _ _=>False):=by
 refine zx aw (ajg X) ?_
 rw[ajh]
 unfold Xi
 obtain⟨eM,eV⟩:=f
 have asB:=aA
 unfold f8 at aA
 have g6:aO X h (.ptr b5 4)=some (.Z eM):=by rw[bO aA];rfl
 by_cases aS:eM=0
 ·have d:decide (eM=0)=true:=by simp[aS]
  refine h8 ⟨?_⟩
  refine h8 ⟨?_⟩
  refine h8 ⟨?_⟩
  refine cT @g6 @d ⟨?_⟩
  refine⟨rfl, ?_,Zi _,λe z=>aI Zo z⟩
  unfold f8 nu
  rw[bg Zo]
  simp only[aS,ZC]
  rfl
 ·have d:decide (eM=0)=false:=by simp[aS]
  refine cT @g6 @d ⟨?_⟩
  refine⟨rfl, ?_,Zi _,λ_ _=>rfl⟩
  unfold nu
  simp only[aS,ZA]
  exact asB
def pY(E:be):Bool:=decide (E.kind=2)||decide (E.kind=6)||decide (E.kind=24)
def axx(aw:du X){P:Nat->Prop}{E:be}{v:D}(bs:cy X h P E v):
 aY X 179 [v] h j (λac T an=>ac= .bool (pY E)/\T=h/\j<=an) (λ_ _ _=>False):=by
 refine zx aw (akq X) ?_
 rw[akr]
 unfold XV
 obtain⟨b,rfl,aj,a0⟩:=bs.ptr
 by_cases J:E.kind=2
 ·have d:decide (E.kind=2)=true:=by simp[J]
  refine cT @a0 @d ⟨?_⟩
  exact⟨by simp[pY,J],rfl,Zo⟩
 ·have d:decide (E.kind=2)=false:=by simp[J]
  by_cases b6:E.kind=6
  ·have jg:decide (E.kind=6)=true:=by simp[b6]
   refine et @a0 @d @jg ⟨?_⟩
   exact⟨by simp[pY,b6],rfl,Zo⟩
  ·have jg:decide (E.kind=6)=false:=by simp[b6]
   refine et @a0 @d @jg ⟨?_⟩
   exact⟨by simp[pY,J,b6],rfl,Zo⟩
end
def GS(E:bi×D×Nat):D×D×Nat:=(.str E.1,E.2.1,E.2.2)
variable{bx:Type}[DecidableEq bx]
def ma:List (bx×D×Nat)->bx->Nat->Option (Nat×D)
 |[],_,_=>none
 |x::dn,w,i=>if x.1=w then some (i,x.2.1)else ma dn w (i+1)
def ry(dn:List (bx×D×Nat))(w:bx):Option D:=(ma dn w 0).map Prod.snd
def SA(w:bx):∀(dn:List (bx×D×Nat)) (i:Nat),ma dn w (i+1)=(ma dn w i).map λp=>(p.1+1,p.2):=by
 intro dn
 induction dn with
 |nil=>intro i;rfl
 |cons x dn al=>
  intro i
  simp only[ma]
  split
  ·rfl
  ·exact al (i+1)
def C5(x:bx×D×Nat)(dn:List (bx×D×Nat))(w:bx):ry (x::dn) w=if x.1=w then some x.2.1 else ry dn w:=by
 unfold ry
 simp only[ma]
 split
 ·rfl
 ·rw[SA];cases ma dn w 0<;>rfl
def acC(w:bx):∀(dn:List (bx×D×Nat)) (W:Nat) (v:D),ma dn w 0=some (W,v)->∃b,dn[W]? =some (w,v,b):=by
 intro dn
 induction dn with
 |nil=>intro W v a;cases a
 |cons x dn al=>
  intro W v a
  simp only[ma]at a
  split at a
  ·rename_i E
   cases a
   exact⟨x.2.2,by simp[<-E]⟩
  ·rw[SA]at a
   cases bL:ma dn w 0 with
   |none=>rw[bL]at a;cases a
   |some p=>
    rw[bL]at a
    simp at a
    obtain⟨rfl,rfl⟩:=a
    obtain⟨b,aj⟩:=al p.1 p.2 bL
    exact⟨b,by simpa using aj⟩
def af5(w b1:bx)(v:D)(b:Nat):∀dn:List (bx×D×Nat),ry dn w=none->ry (dn++[(w,v,b)]) b1=if b1=w then some v else ry dn b1:=by
 intro dn
 induction dn with
 |nil=>
  intro _
  rw[Z8,C5]
  by_cases a:b1=w
  ·simp[a]
  ·have:¬w=b1:=λE=>a E.symm
   simp[a,this]
 |cons x dn al=>
  intro a
  rw[C5]at a
  split at a
  ·cases a
  ·rename_i af
   rw[YC,C5,C5,al a]
   by_cases E:x.1=b1
   ·have:¬b1=w:=λah=>af (E.trans ah)
    simp[E,this]
   ·simp[E]
def af6(w b1:bx)(v:D):∀(dn:List (bx×D×Nat)) (W:Nat) (v0:D) (b:Nat),ma dn w 0=some (W,v0)->ry (dn.set W (w,v,b)) b1=if b1=w then some v else ry dn b1:=by
 intro dn
 induction dn with
 |nil=>intro W v0 b a;cases a
 |cons x dn al=>
  intro W v0 b a
  simp only[ma]at a
  split at a
  ·rename_i E
   simp at a
   obtain⟨rfl,rfl⟩:=a
   rw[Yb,C5,C5]
   by_cases a:b1=w
   ·simp[a]
   ·have I:¬w=b1:=λah=>a ah.symm
    have J:¬x.1=b1:=λah=>a (ah.symm.trans E)
    simp[a,I,J]
  ·rename_i E
   rw[SA]at a
   cases bL:ma dn w 0 with
   |none=>rw[bL]at a;cases a
   |some p=>
    rw[bL]at a
    simp at a
    obtain⟨rfl,rfl⟩:=a
    rw[Yc,C5,C5,al p.1 p.2 b bL]
    by_cases J:x.1=b1
    ·have:¬b1=w:=λah=>E (J.trans ah)
     simp[J,this]
    ·simp[J]
section
variable{X:cb}{h T aP aM:K ag}{j an aG a1:Nat}
def pm(X:cb)(h:K ag)(r:Nat)(cE:bi->Option D):Prop:=∃dn eR,Y X h r=some (.map (dn.map GS) eR)/\∀w,ry dn w=cE w
def pm.ab{r:Nat}{cE:bi->Option D}(a:pm X h r cE)(q:Y X T r=Y X h r):pm X T r cE:=by
 obtain⟨dn,eR,I,J⟩:=a
 exact⟨dn,eR,by rw[q];exact I,J⟩
def P2(w:bi):np X 20 9 (.str w)=true:=Zk
def ace(w b1:bi):kl X h 20 9 (.str w) (.str b1)=some (na w b1):=Zk
def Sw(w:bi):∀(dn:List (bi×D×Nat)) (i:Nat),findKey X h 9 (.str w) (dn.map GS) i=some (ma dn w i):=by
 intro dn
 induction dn with
 |nil=>intro i;rfl
 |cons x dn al=>
  intro i
  simp only[ZL,GS,findKey,ace,Fo,ma]
  by_cases a:w=x.1
  ·have:x.1=w:=a.symm
   simp[this]
  ·have:¬x.1=w:=λE=>a E.symm
   simp only[a,this,Yd,ZA]
   exact al (i+1)
def awe(w:bi):ob 20 (.str w) (.str w)=true:=by
 show na w w=true
 rw[Fo];simp
def Fh{r:Nat}{cE:bi->Option D}(a:pm X h r cE)(bz:D)(w:bi)(ok:Bool):
 lO X h 9 bz (.map r) (.str w) ok=some (match cE w with|some v=>bY ok (.tuple [v, .zT]) v|none=>bY ok (.tuple [bz, .zF]) bz):=by
 obtain⟨dn,eR,I,J⟩:=a
 have am:=J w
 unfold ry at am
 simp only[lO,I,P2,eX,Sw]
 cases bL:ma dn w 0 with
 |none=>rw[bL]at am;rw[<-am];rfl
 |some p=>rw[bL]at am;rw[<-am];rfl
def PO{r:Nat}{cE:bi->Option D}(V:(o X).a2<=r)(a:pm X h r cE)(w:bi)(v:D):
 ∃T,tL X h j 9 (.map r) (.str w) v=some (.fs bd.undef T j)/\pm X T r (λx=>if x=w then some v else cE x)/\∀e,e≠r->Y X T e=Y X h e:=by
 obtain⟨dn,eR,I,J⟩:=a
 have aH:kH X r=true:=ll V
 cases ch:ma dn w 0 with
 |none=>
  refine⟨Go.bd.bn X h r (some (.map ((dn++[(w,v,eR)]).map GS) (eR+1))), ?_,⟨dn++[(w,v,eR)],eR+1,bg V,λx=> ?_⟩,λe z=>aI V z⟩
  ·simp only[tL,I,P2,eX,Sw,ch,bd.setObj,aH,eX,hk]
   rw[Yi]
   rfl
  ·rw[af5 _ _ _ _ _ (by unfold ry;rw[ch];rfl),J]
 |some p=>
  obtain⟨W,v0⟩:=p
  obtain⟨born,aj⟩:=acC w dn W v0 ch
  have c8:(dn.map GS)[W]? =some (.str w,v0,born):=by rw[Zy,aj];rfl
  refine⟨Go.bd.bn X h r (some (.map ((dn.set W (w,v,born)).map GS) eR)), ?_,⟨dn.set W (w,v,born),eR,bg V,λx=> ?_⟩,λe z=>aI V z⟩
  ·simp only[tL,I,P2,eX,Sw,ch,qG,c8,awe,bd.setObj,aH,eX,hk]
   rw[List.map_set]
   rfl
  ·rw[af6 w x v dn W v0 born ch,J]
end
end
end Go.Proofs.YtpfajohmofnkfaaGreatDoor

namespace Go.Proofs.YtpfajohmofnkfaaGreatDoor
open Go.bd Go.aR
noncomputable section
structure ej where
 kind:Int
 d:fo
 eq:Int
 left:Int
def vh:ej:=⟨0,⟨[],0,dH,[],0,false⟩,0,0⟩
def p8(v:ej):List D:=[.Z v.kind, .str v.d.name, .Z v.d.at_, .bool v.d.ty.b, .bool v.d.ty.s, .Z v.d.ty.w, .str v.d.on, .Z v.d.fL, .bool v.d.no, .Z v.eq, .Z v.left]
def s2(X:cb)(h:K ag)(P:Nat->Prop)(cZ:D)(t:bi->Option ej):Prop:=∃b r,cZ= .ptr b 0/\P b/\P r/\aO X h (.ptr b 0)=some (.map r)/\pm X h r (λw=>(t w).map λv=> .agg (p8 v))
section
variable{X:cb}{h T aP aM:K ag}{j an aG a1:Nat}
def s2.ab{P bm:Nat->Prop}{cZ:D}{t:bi->Option ej}(a:s2 X h P cZ t)(q:∀e,P e->Y X T e=Y X h e)(az:∀e,P e->bm e):s2 X T bm cZ t:=by
 obtain⟨b,r,I,J,am,aB,bk⟩:=a
 exact⟨b,r,I,az b J,az r am,zB (q b J) aB,bk.ab (q r am)⟩
def apG(b:Nat):dw X h .eql 68 true (.ptr b 0) .cx=some .zF:=Zk
def NZ(aw:du X){P:Nat->Prop}{cZ:D}{t:bi->Option ej}(aE:(o X).a2<=j)(a6:s2 X h P cZ t)(bE:∀e,P e->e<j)(w:bi):
 aY X 34 [cZ, .str w] h j (λac T an=>ac= .tuple [.agg (p8 ((t w).getD vh)), .bool (t w).isSome]/\bo X h j T an) (λ_ _ _=>False):=by
 refine zx aw (al3 X) ?_
 rw[al4]
 unfold aan
 obtain⟨b,r,rfl,aj,V,a0,bp⟩:=a6
 have gn:=bE b aj
 have CK:=bE r V
 refine pq ?_
 generalize dZ:bn X h j _=aP
 have b3:Y X aP j=zu [.Z 0, .str [], .Z 0, .zF, .zF, .Z 0, .str [], .Z 0, .zF, .Z 0, .Z 0] 11:=by rw[<-dZ,bg aE];rfl
 have bN:bo X h j aP (j+1):=by rw[<-dZ];exact dM
 clear dZ
 have ba:aO X aP (.ptr b 0)=some (.map r):=zB (bN.ab b gn) a0
 have KZ:=bp.ab (bN.ab r CK)
 have kr:=Fh KZ (.agg [.Z 0, .str [], .Z 0, .zF, .zF, .Z 0, .str [], .Z 0, .zF, .Z 0, .Z 0]) w true
 have Hu:lO X aP 9 (.agg [.Z 0, .str [], .Z 0, .zF, .zF, .Z 0, .str [], .Z 0, .zF, .Z 0, .Z 0]) (.map r) (.str w) true=some (.tuple [.agg (p8 ((t w).getD vh)), .bool (t w).isSome]):=by
  rw[kr];cases t w<;>rfl
 clear kr
 generalize (t w).getD vh=v at*
 have tD:p8 v=[.Z v.kind, .str v.d.name, .Z v.d.at_, .bool v.d.ty.b, .bool v.d.ty.s, .Z v.d.ty.w, .str v.d.on, .Z v.d.fL, .bool v.d.no, .Z v.eq, .Z v.left]:=rfl
 rw[tD]at Hu ⊢
 refine et @apG @ba @Hu ⟨?_⟩
 refine fw (hF (q:=11) (b:=j) (U:=0) (n:=11) (c:=K.ofList [.Z 0, .str [], .Z 0, .zF, .zF, .Z 0, .str [], .Z 0, .zF, .Z 0, .Z 0] 0 .nil) (by simp(disch:=omega) only[aI];exact b3) aE rfl Zd Zd rfl) ?_
 generalize e9:bn X _ j _=aX
 have cS:Y X aX j=zu [.Z v.kind, .str v.d.name, .Z v.d.at_, .bool v.d.ty.b, .bool v.d.ty.s, .Z v.d.ty.w, .str v.d.on, .Z v.d.fL, .bool v.d.no, .Z v.eq, .Z v.left] 11:=by rw[<-e9,bg aE];rfl
 have cg:bo X h j aX (j+1+1):=⟨Zo,λe z=>by rw[<-e9];simp(disch:=omega) only[aI];exact bN.ab e z⟩
 clear e9
 refine ci (bO cS) ⟨?_⟩
 exact⟨rfl,cg⟩
end
def LL(t:bi->Option ej)(ad:bi->Option Int)(f:Int×Int)(w:bi)(F:Int):Int×Int:=match t w with
 |none=>nu f 23 F
 |some v=>if v.kind=1\/1<(ad w).getD 0+1 then nu f 24 F else f
def oF(ad:bi->Option Int)(w:bi):Option D:=(ad w).map λq=> .Z q
section
variable{X:cb}{h T aP aM:K ag}{j an aG a1:Nat}
def awH(aw:du X){P:Nat->Prop}{b5 df:Nat}{p cZ:D}{q:Int}{t:bi->Option ej}{ad:bi->Option Int}{f:Int×Int}(aE:(o X).a2<=j)(kW:(o X).a2<=b5)(yk:(o X).a2<=df)(AT:b5<j)(v1:df<j)(Cy:b5≠df)
 (aA:f8 X h b5 p q cZ (.map df) f)(a6:s2 X h P cZ t)(bE:∀e,P e->e<j/\e≠b5/\e≠df)(gF:pm X h df (oF ad))(w:bi)(F:Int)(aj:0<=(ad w).getD 0/\(ad w).getD 0<4000000000000000000):
 aY X 121 [.ptr b5 0, .str w, .Z F] h j (λac T an=>ac= .tuple []/\f8 X T b5 p q cZ (.map df) (LL t ad f w F)/\pm X T df (oF λx=>if x=w then some ((ad w).getD 0+1)else ad x)/\j<=an/\∀e,e<j->e≠b5->e≠df->Y X T e=Y X h e) (λ_ _ _=>False):=by
 refine zx aw (ajm X) ?_
 rw[ajn]
 unfold Xk
 have c4:aO X h (.ptr b5 2)=some cZ:=by unfold f8 at aA;rw[bO aA];rfl
 refine ci @c4 ⟨?_⟩
 refine(NZ aw aE a6 (λe z=>(bE e z).1) w).Zm ?_
 rintro ac aP aG ⟨rfl,bN⟩
 have jm:=bN.le
 have uJ:f8 X aP b5 p q cZ (.map df) f:=by unfold f8;rw[bN.ab b5 AT];exact aA
 have arF:=gF.ab (bN.ab df v1)
 generalize bD:(t w).getD vh=v
 have tD:p8 v=[.Z v.kind, .str v.d.name, .Z v.d.at_, .bool v.d.ty.b, .bool v.d.ty.s, .Z v.d.ty.w, .str v.d.on, .Z v.d.fL, .bool v.d.no, .Z v.eq, .Z v.left]:=rfl
 rw[tD]
 refine h8 ⟨?_⟩
 refine h8 ⟨?_⟩
 refine pq ?_
 refine h8 ⟨?_⟩
 generalize dI:bn X _ aG _=aM
 have b7:Y X aM aG=zu [.Z v.kind, .str v.d.name, .Z v.d.at_, .bool v.d.ty.b, .bool v.d.ty.s, .Z v.d.ty.w, .str v.d.on, .Z v.d.fL, .bool v.d.no, .Z v.eq, .Z v.left] 11:=by rw[<-dI,bg Zo];rfl
 have bJ:bo X h j aM (aG+1):=⟨Zo,λe z=>by rw[<-dI];simp(disch:=omega) only[aI];exact bN.ab e z⟩
 have i6:∀e,e<aG->Y X aM e=Y X aP e:=λe z=>by rw[<-dI];exact zw
 clear dI
 have AS:f8 X aM b5 p q cZ (.map df) f:=by unfold f8;rw[i6 b5 Zo];exact uJ
 have adf:=arF.ab (i6 df Zo)
 have fa:aO X aM (.ptr b5 3)=some (.map df):=by unfold f8 at AS;rw[bO AS];rfl
 have kr:lO X aM 9 (.Z 0) (.map df) (.str w) false=some (.Z ((ad w).getD 0)):=by
  rw[Fh adf];unfold oF;cases ad w<;>rfl
 have bF:bq .add (.Z ((ad w).getD 0)) (.Z 1)=some (.Z ((ad w).getD 0+1)):=eJ Zo Zo
 refine et @fa @kr @bF ⟨?_⟩
 obtain⟨aX,sh,adg,mc⟩:=PO (j:=aG+1) yk adf w (.Z ((ad w).getD 0+1))
 refine kN sh ?_
 have yi:f8 X aX b5 p q cZ (.map df) f:=by unfold f8;rw[mc b5 Cy];exact AS
 rw[<-mc aG Zo]at b7
 have Kl:pm X aX df (oF λx=>if x=w then some ((ad w).getD 0+1)else ad x):=by
  have:(λx=>if x=w then some (D.Z ((ad w).getD 0+1))else oF ad x)=(oF λx=>if x=w then some ((ad w).getD 0+1)else ad x):=by
   funext x;unfold oF;by_cases a:x=w<;>simp[a]
  rw[<-this];exact adg
 have OZ:∀e,e<j->e≠df->Y X aX e=Y X h e:=λe I J=>by rw[mc e J];exact bJ.ab e I
 clear kr sh adg fa
 unfold LL
 cases Lm:t w with
 |none=>
  simp only[Z2,Yj]
  refine cK ⟨?_⟩
  refine(xS (j:=aG+1) (h:=aX) aw kW yi 23 F).Zm ?_
  rintro ac bC da ⟨rfl,vY,jC,gh⟩
  refine cK ⟨?_⟩
  exact⟨by first|trivial|rfl,vY,Kl.ab (gh df Zo),Zo,λe I J am=>by rw[gh e J];exact OZ e I am⟩
 |some gK=>
  have E4:gK=v:=by rw[Lm]at bD;exact bD
  subst E4
  simp only[Z9,Yk]
  have fT:aO X aX (.ptr aG 0)=some (.Z gK.kind):=by rw[bO b7];rfl
  have fa:aO X aX (.ptr b5 3)=some (.map df):=by unfold f8 at yi;rw[bO yi];rfl
  have kr:lO X aX 9 (.Z 0) (.map df) (.str w) false=some (.Z ((ad w).getD 0+1)):=by
   rw[Fh Kl];unfold oF;simp
  by_cases I:gK.kind=1
  ·have d:decide (gK.kind=1)=true:=by simp[I]
   refine cT @fT @d ⟨?_⟩
   refine(xS (j:=aG+1) (h:=aX) aw kW yi 24 F).Zm ?_
   rintro ac bC da ⟨rfl,vY,jC,gh⟩
   refine cK ⟨?_⟩
   exact⟨by first|trivial|rfl,by simp only[I,true_or,ZC];exact vY,Kl.ab (gh df Zo),Zo,λe I J am=>by rw[gh e J];exact OZ e I am⟩
  ·have d:decide (gK.kind=1)=false:=by simp[I]
   by_cases J:1<(ad w).getD 0+1
   ·have cF:decide (1<(ad w).getD 0+1)=true:=by simp only[Zh];exact J
    refine gg @fT @d @fa @kr @cF ⟨?_⟩
    refine(xS (j:=aG+1) (h:=aX) aw kW yi 24 F).Zm ?_
    rintro ac bC da ⟨rfl,vY,jC,gh⟩
    refine cK ⟨?_⟩
    exact⟨by first|trivial|rfl,by simp only[I,J,or_true,ZC];exact vY,Kl.ab (gh df Zo),Zo,λe I J am=>by rw[gh e J];exact OZ e I am⟩
   ·have cF:decide (1<(ad w).getD 0+1)=false:=by simp only[Zb];exact J
    refine gg @fT @d @fa @kr @cF ⟨?_⟩
    exact⟨by first|trivial|rfl,by simp only[I,J,Yz,ZA];exact yi,Kl,Zo,λe I J am=>OZ e I am⟩
end
def yO(t:bi->Option ej)(f:Int×Int)(E:be):Int×Int:=if pY E then(if (t E.name).isSome then f else nu f 23 E.at_)else f
def IT(ai:List Go.aR.Node)(q:Nat)(f:Int×Int)(E:be):Int×Int:=if E.kind=25 then(match nv ai E.name with
 |none=>nu f 23 E.at_
 |some W=>if q<=W then nu f 25 E.at_ else f)else f
def tW(t:bi->Option ej)(ai:List Go.aR.Node)(q:Nat)(f:Int×Int)(E:be):(Int×Int)×Bool:=(IT ai q (yO t f E) E,true)
structure Gi(X:cb)(c6:K ag)(a2 b5:Nat)(p:D)(q:Nat)(cZ df:D)(f:Int×Int)(h:K ag)(j:Nat):Prop where
 le:a2<=j
 j2:f8 X h b5 p q cZ df f
 low:∀e,e<a2->e≠b5->Y X h e=Y X c6 e
section
variable{X:cb}{h T c6 aP aM:K ag}{j an aG a1:Nat}
def azz(aw:du X){P:Nat->Prop}{dK b5 hT:Nat}{p cZ df:D}{q:Nat}{t:bi->Option ej}{ai:List Go.aR.Node}(aDs:(o X).a2<=dK)(kW:(o X).a2<=b5)(AT:b5<dK)(HF:hT<dK)(O7:hT≠b5)(bL:aO X c6 (.ptr hT 0)=some (.ptr b5 0))
 (bE:∀e,P e->e<dK/\e≠b5)(a6:s2 X c6 P cZ t)(bU:nQ X c6 P ai p){f:Int×Int}(pA:Gi X c6 dK b5 p q cZ df f h j){E:be}{v:D}(bs:cy X h P E v):
 aY X 178 [v, .ptr hT 0] h j (λac T an=>ac= .zT/\Gi X c6 dK b5 p q cZ df (tW t ai q f E).1 T an) (λ_ _ _=>False):=by
 refine zx aw (ako X) ?_
 rw[akp]
 unfold XU
 refine(axx aw bs).Zm ?_
 rintro ac aP aG ⟨rfl,rfl,jm⟩
 have aDu:=pA.le
 have hA:∀h,Y X h hT=Y X c6 hT->aO X h (.ptr hT 0)=some (.ptr b5 0):=λh a=>zB a bL
 refine kt (λc1 T aU=>c1.g 0=some v/\c1.g 1=some (.ptr hT 0)/\Gi X c6 dK b5 p q cZ df (yO t f E) T aU/\cy X T P E v) (λW bK=> ?_) ?_
 ·obtain⟨b,_,_,_,rfl,aj,a0,ba,cj,_⟩:=id bs.open
  unfold yO at bK
  cases iR:pY E with
  |false=>
   rw[iR]at bK
   simp only[Zw,ZA]at bK
   refine cK ⟨?_⟩
   exact bK _ _ _ ⟨bw,bw,⟨Zo,pA.j2,pA.low⟩,bs⟩
  |true=>
   rw[iR]at bK
   simp only[ZC]at bK
   have Uq:=hA aP (pA.low hT HF O7)
   have c4:aO X aP (.ptr b5 2)=some cZ:=by have:=pA.j2;unfold f8 at this;rw[bO this];rfl
   refine et @Uq @c4 @cj ⟨?_⟩
   refine fh (λaM=>Y X aM (aG+12)=zu [.Z 0, .str [], .Z 0, .zF, .zF, .Z 0, .str [], .Z 0, .zF, .Z 0, .Z 0] 11/\bo X aP aG aM (aG+12+1)) ⟨by rw[bg Zo];rfl,Zo,λe z=>zw⟩ ?_
   rintro aM ⟨b7,bJ⟩
   have cq:∀e,e<dK->Y X aM e=Y X aP e:=λe z=>bJ.ab e Zo
   refine(NZ (j:=aG+15) (h:=aM) aw Zo (a6.ab (bm:=P) (λe z=>by rw[cq e (bE e z).1];exact pA.low e (bE e z).1 (bE e z).2) (λ_ a=>a)) (λe z=>zq (bE e z).1) E.name).Zm ?_
   rintro ac aX bf ⟨rfl,cg⟩
   have ip:=cg.le
   have cS:Y X aX (aG+12)=zu [.Z 0, .str [], .Z 0, .zF, .zF, .Z 0, .str [], .Z 0, .zF, .Z 0, .Z 0] 11:=by rw[cg.ab _ Zo];exact b7
   generalize E4:(t E.name).getD vh=fm
   have tD:p8 fm=[.Z fm.kind, .str fm.d.name, .Z fm.d.at_, .bool fm.d.ty.b, .bool fm.d.ty.s, .Z fm.d.ty.w, .str fm.d.on, .Z fm.d.fL, .bool fm.d.no, .Z fm.eq, .Z fm.left]:=rfl
   rw[tD]
   refine h8 ⟨?_⟩
   refine h8 ⟨?_⟩
   refine fw (hF (q:=11) (b:=aG+12) (U:=0) (n:=11) cS Zo rfl Zd Zd rfl) ?_
   generalize eH:bn X aX (aG+12) _=bC
   have d0:∀e,e<aG->Y X bC e=Y X aP e:=λe z=>by rw[<-eH,aI Zo Zo,cg.ab e Zo,bJ.ab e z]
   clear eH b7 cS
   have Og:Gi X c6 dK b5 p q cZ df f bC bf:=⟨Zo,by have:=pA.j2;unfold f8 at*;rw[d0 b5 Zo];exact this,λe I J=>by rw[d0 e Zo];exact pA.low e I J⟩
   have uL:cy X bC P E (.ptr b 0):=cy.ab (λe z=>d0 e (zq (bE e z).1)) _ _ bs
   have auf:=hA bC (Og.low hT HF O7)
   have amO:aO X bC (.ptr b 1)=some (.Z E.at_):=zB (d0 b (zq (bE b aj).1)) ba
   cases to:(t E.name).isSome with
   |true=>
    rw[to]at bK
    simp only[ZC]at bK
    refine cK ⟨?_⟩
    exact bK _ _ _ ⟨bw,bw,Og,uL⟩
   |false=>
    rw[to]at bK
    simp only[Zw,ZA]at bK
    refine cT @auf @amO ⟨?_⟩
    refine(xS (h:=bC) aw kW Og.j2 23 E.at_).Zm ?_
    rintro ac bW b4 ⟨rfl,EB,ib,md⟩
    refine cK ⟨?_⟩
    exact bK _ _ _ ⟨bw,bw,⟨Zo,EB,λe I J=>by rw[md e J];exact Og.low e I J⟩,cy.ab (λe z=>md e (bE e z).2) _ _ uL⟩
 ·rintro H aM a1 ⟨t0,t1,Ex,KN⟩
  obtain⟨b,_,_,_,rfl,aj,a0,ba,cj,_⟩:=id KN.open
  have f7:=Ex.le
  show cL _ _
  by_cases ra:E.kind=25
  ·have d:decide (E.kind=25)=true:=by simp[ra]
   have Uq:=hA aM (Ex.low hT HF O7)
   have fT:aO X aM (.ptr b5 0)=some p:=by have:=Ex.j2;unfold f8 at this;rw[bO this];rfl
   refine eF @t0 @t1 @a0 @d @Uq @fT @cj ⟨?_⟩
   refine(Sz (j:=a1+14) (h:=aM) aw Zo (bU.ab (bm:=P) (λe z=>Ex.low e (bE e z).1 (bE e z).2) (λ_ a=>a)) (λe z=>zq (bE e z).1) E.name).Zm ?_
   rintro ac aX bf ⟨rfl,cg⟩
   have ip:=cg.le
   have Ey:Gi X c6 dK b5 p q cZ df (yO t f E) aX bf:=⟨Zo,by have:=Ex.j2;unfold f8 at*;rw[cg.ab b5 Zo];exact this,λe I J=>by rw[cg.ab e Zo];exact Ex.low e I J⟩
   have Ur:=hA aX (Ey.low hT HF O7)
   have M4:aO X aX (.ptr b 1)=some (.Z E.at_):=zB (cg.ab b (zq (bE b aj).1)) ba
   have ei:aO X aX (.ptr b5 1)=some (.Z (q:Int)):=by have:=Ey.j2;unfold f8 at this;rw[bO this];rfl
   cases ch:nv ai E.name with
   |none=>
    have V:(tW t ai q f E).1=nu (yO t f E) 23 E.at_:=by simp[tW,IT,ra,ch]
    rw[V]
    simp only[Z2]
    refine gx @t0 @t1 @Ur @M4 ⟨?_⟩
    refine(xS (h:=aX) aw kW Ey.j2 23 E.at_).Zm ?_
    rintro ac bW b4 ⟨rfl,EB,ib,md⟩
    refine cK ⟨?_⟩
    exact⟨by first|trivial|rfl,Zo,EB,λe I J=>by rw[md e J];exact Ey.low e I J⟩
   |some W=>
    simp only[Z9,YQ]
    by_cases OT:q<=W
    ·have cF:decide ((q:Int)<=(W:Int))=true:=by simp only[Zh];omega
     have V:(tW t ai q f E).1=nu (yO t f E) 25 E.at_:=by simp[tW,IT,ra,ch,OT]
     rw[V]
     refine iM @t0 @t1 @Ur @M4 @ei @cF ⟨?_⟩
     refine(xS (h:=aX) aw kW Ey.j2 25 E.at_).Zm ?_
     rintro ac bW b4 ⟨rfl,EB,ib,md⟩
     refine cK ⟨?_⟩
     exact⟨by first|trivial|rfl,Zo,EB,λe I J=>by rw[md e J];exact Ey.low e I J⟩
    ·have cF:decide ((q:Int)<=(W:Int))=false:=by simp only[Zb];omega
     have V:(tW t ai q f E).1=yO t f E:=by simp[tW,IT,ra,ch,OT]
     rw[V]
     refine gg @t0 @t1 @Ur @ei @cF ⟨?_⟩
     exact⟨by first|trivial|rfl,Ey⟩
  ·have d:decide (E.kind=25)=false:=by simp[ra]
   have V:(tW t ai q f E).1=yO t f E:=by simp[tW,IT,ra]
   rw[V]
   refine et @t0 @a0 @d ⟨?_⟩
   exact⟨by first|trivial|rfl,Ex⟩
end
def Qh(t:bi->Option ej)(ai:List Go.aR.Node)(q:Nat)(f:Int×Int)(E:be):Int×Int:=Dz (tW t ai q) f E
section
variable{X:cb}{h:K ag}{j:Nat}
def azB(aw:du X){P:Nat->Prop}{b5:Nat}{p cZ df:D}{q:Nat}{t:bi->Option ej}{ai:List Go.aR.Node}(aE:(o X).a2<=j)(kW:(o X).a2<=b5)(AT:b5<j)
 (bE:∀e,P e->e<j/\e≠b5)(a6:s2 X h P cZ t)(bU:nQ X h P ai p){f:Int×Int}(aA:f8 X h b5 p q cZ df f){E:be}{v:D}(bs:cy X h P E v):
 aY X 122 [.ptr b5 0,v] h j (λac T an=>ac= .tuple []/\f8 X T b5 p q cZ df (Qh t ai q f E)/\j<=an/\∀e,e<j->e≠b5->Y X T e=Y X h e) (λ_ _ _=>False):=by
 refine zx aw (ajo X) ?_
 rw[ajp]
 unfold Xl
 refine cK ⟨?_⟩
 refine fh (λaP=>Y X aP j=zu [.ptr b5 0] 1/\bo X h j aP (j+1)) ⟨bg aE,dM⟩ ?_
 rintro aP ⟨b3,bN⟩
 have UV:∀e,P e->Y X aP e=Y X h e:=λe z=>bN.ab e (bE e z).1
 have bL:aO X aP (.ptr j 0)=some (.ptr b5 0):=by rw[bO b3];rfl
 refine(aBS aw (tW t ai q) P (Gi X aP (j+1) b5 p q cZ df) 178 [] [.ptr j 0] (λs E v aM a1 fi KN=> ?_) (SizeOf.sizeOf E+1) E Zo f v aP (j+1) ⟨Zi _,by unfold f8 at*;rw[bN.ab b5 AT];exact aA,λ_ _ _=>rfl⟩ (cy.ab UV _ _ bs)).Zm ?_
 ·refine(azz aw Zo kW Zo Zo Zo bL (λe z=>⟨zq (bE e z).1,(bE e z).2⟩) (a6.ab (bm:=P) UV (λ_ a=>a)) (bU.ab (bm:=P) UV (λ_ a=>a)) fi KN).Zm ?_
  rintro ac aX bf ⟨rfl,pA⟩
  exact⟨rfl,pA,λe z=>by have:=bE e z;rw[pA.low e Zo this.2,fi.low e Zo this.2]⟩
 ·rintro ac aM a1 ⟨rfl,pA,_⟩
  refine cK ⟨?_⟩
  have:=pA.le
  exact⟨by first|trivial|rfl,pA.j2,Zo,λe I J=>by rw[pA.low e Zo J,bN.ab e I]⟩
end
def hM(g:Go.aR.Node):List (Int×fo):=(g.ez.map λd=>(1,d))++((g.out.map λd=>(2,d))++(g.loc.map λd=>(3,d)))
def mK(g:Go.aR.Node):Nat->List fo
 |0=>g.ez
 |1=>g.out
 |_=>g.loc
def qH(g:Go.aR.Node):Nat->Nat
 |0=>0
 |1=>g.ez.length
 |2=>g.ez.length+g.out.length
 |_=>g.ez.length+g.out.length+g.loc.length
def agF(g:Go.aR.Node){q:Nat}(aD:q<3):qH g (q+1)=qH g q+(mK g q).length:=by
 match q,aD with
 |0,_=>simp[qH,mK]
 |1,_=>rfl
 |2,_=>rfl
def ND(g:Go.aR.Node):(hM g).length=qH g 3:=by simp[hM,qH];omega
def aca(g:Go.aR.Node){q:Nat}(aD:q<3){W:Nat}{d:fo}(a:(mK g q)[W]? =some d):(hM g)[qH g q+W]? =some (1+(q:Int),d):=by
 match q,aD,a with
 |0,_,a=>
  have bK:=(Zc.1 a).1
  simp only[mK]at a bK
  simp only[hM,qH,ZS]
  rw[Z5 (by simpa using bK),Zy,a];rfl
 |1,_,a=>
  have bK:=(Zc.1 a).1
  simp only[mK]at a bK
  simp only[hM,qH]
  rw[ZX Zs,Zn,Nat.add_sub_cancel_left,Z5 (by simpa using bK),Zy,a];rfl
 |2,_,a=>
  simp only[mK]at a
  simp only[hM,qH]
  rw[ZX (by simp;omega),Zn,ZX (by simp;omega),Zn,show g.ez.length+g.out.length+W-g.ez.length-g.out.length=W by omega,Zy,a];rfl
section
variable{X:cb}{h T c6 aP aM:K ag}{j an aG a1:Nat}
def avJ{C:aL}{k:Nat}{F m b:List D}{ak av:bI}(a:B0 C k (F++m) h j ak av):iz C (.func (.yield k) F b) m h j ak av:=⟨a⟩
def ao4(aw:du X){P:Nat->Prop}{g:Go.aR.Node}{cR k bQ cf cM:Nat}{dj dG aW:D}(dW:Nat->K ag->Nat->Prop)
 (I:dD X c6 P bQ dj 8 (g.ez.map eT))(J:dD X c6 P cf dG 8 (g.out.map eT))(am:dD X c6 P cM aW 8 (g.loc.map eT))
 (cj:aO X h (.ptr cR 2)=some dj)(a3:aO X h (.ptr cR 3)=some dG)(a4:aO X h (.ptr cR 4)=some aW)
 (He:∀i h j,dW i h j->(o X).a2<=j/\∀e,P e->Y X h e=Y X c6 e)
 (Oi:∀i h j T an,dW i h j->bo X h j T an->dW i T an)
 (V:∀i q d h j,(hM g)[i]? =some (q,d)->dW i h j->B0 X k [.Z q, .agg (eT d)] h j (λac T an=>ac= .zT/\dW (i+1) T an) (λ_ _ _=>False))
 (aS:dW 0 h j):aY X 132 [.func (.yield k) [] [], .ptr cR 0] h j (λ_ T an=>dW (hM g).length T an) (λ_ _ _=>False):=by
 refine zx aw (ajy X) ?_
 rw[ajz]
 unfold Xq
 have HK:∀q,q<3->∃s b,[dj,dG,aW][q]? =some s/\dD X c6 P b s 8 ((mK g q).map eT):=by
  intro q aD
  match q,aD with
  |0,_=>exact⟨dj,bQ,rfl,I⟩
  |1,_=>exact⟨dG,cf,rfl,J⟩
  |2,_=>exact⟨aW,cM,rfl,am⟩
 have aoh:=(k0 I.len).1
 have aoq:=(k0 J.len).1
 have s9:=(k0 am.len).1
 have fd:e8 [.aV, .aV, .aV] [(0,1,dj),(1,1,dG),(2,1,aW)]=some (.agg [dj,dG,aW]):=by
  simp[e8,qp,qq,lS,aoh,aoq,s9]
 refine et @cj @a3 @a4 ⟨?_⟩
 refine fw fd ?_
 refine cK ⟨?_⟩
 refine fK (λm H T aU=>∃(q:Nat),H.g 0=some (.func (.yield k) [] [])/\H.g 13=some (.agg [dj,dG,aW])/\H.g 14=some (.Z (q:Int))/\q+m=3/\dW (qH g q) T aU)
  3 ⟨0,bw,bw,fW,Zo,aS⟩ ?_
 rintro m H aM a1 ⟨q,t0,jt,lb,aD,oM⟩
 cases m with
 |zero=>
  have d:decide ((q:Int)<3)=false:=by simp only[Zb];omega
  refine cT @lb @d ⟨?_⟩
  rw[ND]
  have:q=3:=Zo
  subst this
  exact oM
 |succ m=>
  have d:decide ((q:Int)<3)=true:=by simp only[Zh];omega
  obtain⟨s,b,aF,cA⟩:=HK q Zo
  have dS:uZ false 3 1 (.agg [dj,dG,aW]) (.Z (q:Int))=some s:=by
   have am:Nat.blt q 3=true:=by simp[Nat.blt];omega
   simp only[uZ,sv,am,eX,j3,qG,Yl]
   exact aF
  have d5:=cA.len
  have hO:=cA.many
  rw[Zn]at d5 hO
  refine gg @lb @jt @d @dS @d5 ⟨?_⟩
  refine fK (λm H T aU=>∃(W:Nat),H.g 0=some (.func (.yield k) [] [])/\H.g 13=some (.agg [dj,dG,aW])/\H.g 14=some (.Z (q:Int))/\H.g 3=some (.Z (q:Int))/\H.g 18=some s/\H.g 19=some (.Z ((mK g q).length:Int))/\H.g 20=some (.Z (W:Int))/\W+m=(mK g q).length/\dW (qH g q+W) T aU)
   (mK g q).length ⟨0,a7 t0,a7 jt,a7 lb,bw,bw,bw,fW,Zo,oM⟩ ?_
  rintro gr c1 aX bf ⟨W,t0,jt,lb,t3,ve,qO,FQ,bK,vT⟩
  cases gr with
  |zero=>
   have d:=zr W (mK g q).length
   have bF:=zv q
   refine gg @FQ @qO @lb @d @bF ⟨?_⟩
   refine⟨m,Zo,q+1,a7 t0,a7 jt,bw,Zo, ?_⟩
   rw[agF g Zo]
   have:W=(mK g q).length:=Zo
   rw[<-this]
   exact vT
  |succ gr=>
   have d:=zs W (mK g q).length
   have bF:=zv W
   have cn:bq .add (.Z 1) (.Z (q:Int))=some (.Z (1+(q:Int))):=eJ Zo Zo
   obtain⟨aJ,aH⟩:=zt (mK g q) W
   obtain⟨AX,ar7⟩:=He _ _ _ vT
   have pD:=cA.f3 W (by rw[Zn];omega)
   have e3:=(cA.ab ar7).row (i:=W) (r:=eT aJ) Zd (by rw[Zy,aH];rfl)
   have ko:eT aJ=[.str aJ.name, .Z aJ.at_, .bool aJ.ty.b, .bool aJ.ty.s, .Z aJ.ty.w, .str aJ.on, .Z aJ.fL, .bool aJ.no]:=rfl
   rw[ko]at e3
   refine iM @FQ @qO @ve @d @pD @e3 ⟨?_⟩
   generalize eH:bn X _ bf _=bC
   have eh:Y X bC bf=zu [.str aJ.name, .Z aJ.at_, .bool aJ.ty.b, .bool aJ.ty.s, .Z aJ.ty.w, .str aJ.on, .Z aJ.fL, .bool aJ.no] 8:=by rw[<-eH,bg AX];rfl
   have dv:bo X aX bf bC (bf+1):=⟨Zo,λe z=>by rw[<-eH];exact zw⟩
   clear eH
   refine gx @t0 @t3 @cn (bO eh) ⟨?_⟩
   refine avJ ((V _ _ _ _ _ (aca g Zo aH) (Oi _ _ _ _ _ vT dv)).mono ?_ (λ_ _ _ a=>False.elim a))
   rintro ac bW b4 ⟨rfl,im⟩
   refine cT @FQ @bF ⟨?_⟩
   exact⟨gr,Zo,W+1,a7 t0,a7 jt,a7 lb,a7 t3,a7 ve,a7 qO,bw,Zo,im⟩
def NF(aw:du X){P:Nat->Prop}{g:Go.aR.Node}{n fG hD cR bQ cf cM:Nat}{dj dG aW:D}{A bh:MS}{ak:fg}{E:Nat->fg}{r:fg}{av:sZ}{H:cV}(dW:Nat->K ag->Nat->Prop)
 (aE:(o X).a2<=j)(en:fG<n)(dB:hD<n)(v6:cR<j)
 (I:dD X h P bQ dj 8 (g.ez.map eT))(J:dD X h P cf dG 8 (g.out.map eT))(am:dD X h P cM aW 8 (g.loc.map eT))
 (cj:aO X h (.ptr cR 2)=some dj)(a3:aO X h (.ptr cR 3)=some dG)(a4:aO X h (.ptr cR 4)=some aW)
 (He:∀i T aU,dW i T aU->j+2<=aU/\∀e,P e->Y X T e=Y X h e)
 (Oi:∀i aP aG aM a1,dW i aP aG->aG<=a1->(∀e,e<aG->e≠j+1->Y X aM e=Y X aP e)->dW i aM a1)
 (aS:∀T,bo X h j T (j+2)->dW 0 T (j+2))
 (auz:∀mk i q d aP aG,(hM g)[i]? =some (q,d)->dW i aP aG->Y X aP j=some (.deferred (some []))->Y X aP (j+1)=some (mk .ready none)->
  tV X A bh (j+1) mk (λac T aU=>ac= .zT/\dW (i+1) T aU/\Y X T j=some (.deferred (some []))/\Y X T (j+1)=some (mk .ready none)) (λ_ _ _=>False) (aa (aa H fG (.Z q)) hD (.agg (eT d))) aP aG)
 (EI:∀T aU,dW (hM g).length T aU->Y X T j=some (.deferred (some []))->ak (wJ H j) T aU):
 FE X n (.func (.func 132) [] [.ptr cR 0]) [fG,hD] (tV X A bh) ak E r av H h j:=by
 refine⟨aE, ?_⟩
 intro mk K3
 refine abA (aw.none _ _ rfl) ?_
 generalize dZ:bn X (bn X h j _) (j+1) _=aP
 have nw:Y X aP j=some (.deferred (some [])):=by rw[<-dZ,aI Zo Zo,bg aE]
 have iO:Y X aP (j+1)=some (mk .ready none):=by rw[<-dZ,bg Zo]
 have bN:bo X h j aP (j+2):=⟨Zo,λe z=>by rw[<-dZ];exact zw⟩
 clear dZ
 have Hd:=aS aP bN
 obtain⟨_,On⟩:=He _ _ _ Hd
 refine(ao4 (k:=j+1) aw (λi T aU=>dW i T aU/\Y X T j=some (.deferred (some []))/\Y X T (j+1)=some (mk .ready none)) (I.ab On) (J.ab On) (am.ab On)
  (by rw[bN.fZ _ _ v6];exact cj) (by rw[bN.fZ _ _ v6];exact a3) (by rw[bN.fZ _ _ v6];exact a4)
  (λi T aU a=> ?_) (λi aP aG aM a1 a bT=> ?_) (λi q d aP aG aN a=> ?_) ⟨Hd,nw,iO⟩).Zm ?_
 ·obtain⟨cG,cw⟩:=He _ _ _ a.1
  exact⟨Zo,λe z=>by rw[cw e z,On e z]⟩
 ·obtain⟨cG,cw⟩:=He _ _ _ a.1
  exact⟨Oi _ _ _ _ _ a.1 bT.le (λe z _=>bT.ab e z),by rw[bT.ab _ Zo];exact a.2.1,by rw[bT.ab _ Zo];exact a.2.2⟩
 ·refine K3 _ _ _ _ _ a.2.2 ?_
  have bF:Nat.blt fG n=true:=by simp[Nat.blt];omega
  have cn:Nat.blt hD n=true:=by simp[Nat.blt];omega
  simp only[IV,bF,cn,eX]
  exact auz mk i q d aP aG aN a.1 a.2.1 a.2.2
 ·rintro ac aM a1 ⟨oM,aqM,aqT⟩
  obtain⟨cG,cw⟩:=He _ _ _ oM
  refine⟨.ready,none,Zs,aqT, ?_⟩
  show ak _ _ _
  exact EI _ _ (Oi _ _ _ _ _ oM (Zi _) (λe z Pp=>aI Zo Pp)) (by rw[aI Zo Zo];exact aqM)
end
def Az{α eD:Type}(st:eD->α->eD)(s:eD){k:List α}{i:Nat}{x:α}(a:k[i]? =some x):(k.take (i+1)).foldl st s=st ((k.take i).foldl st s) x:=by
 rw[ZY,a,List.foldl_append];rfl
def q2(s:(bi->Option Int)×(Int×Int))(x:Int×fo):(bi->Option Int)×(Int×Int):=
 (λw=>if w=x.2.name then some x.1 else s.1 w,if 0<(s.1 x.2.name).getD 0 then nu s.2 24 x.2.at_ else s.2)
def tb(t:bi->Option ej)(f:Int×Int)(x:Int×fo):Int×Int:=if t x.2.on=none/\x.2.on≠[]then nu f 23 x.2.fL else f
def vF(t:bi->Option ej)(g:Go.aR.Node)(f:Int×Int):Int×Int:=(hM g).foldl (tb t) ((hM g).foldl q2 (λ_=>none,f)).2
section
variable{X:cb}{h T c6 aP aM:K ag}{j an aG a1:Nat}
def NE(aw:du X){nm dj dG aW eP:D}{F:D}(aE:(o X).a2<=j):
 aY X 78 [.agg [nm,F,dj,dG,aW,eP]] h j (λac T an=>ac= .func (.func 132) [] [.ptr j 0]/\an=j+1/\bo X h j T an/\aO X T (.ptr j 2)=some dj/\aO X T (.ptr j 3)=some dG/\aO X T (.ptr j 4)=some aW) (λ_ _ _=>False):=by
 refine zx aw (amp X) ?_
 rw[amq]
 unfold aaC
 refine cK ⟨?_⟩
 exact⟨rfl,rfl,dM,by rw[bO (bg aE)];rfl,by rw[bO (bg aE)];rfl,by rw[bO (bg aE)];rfl⟩
structure sS(X:cb)(gM:K ag)(d1 b5 mh:Nat)(p:D)(q:Int)(cZ df:D)(f:Int×Int)(ad:bi->Option Int)(h:K ag)(n:Nat):Prop where
 le:d1+2<=n
 j2:f8 X h b5 p q cZ df f
 seen:pm X h mh (oF ad)
 low:∀e,e<d1->e≠b5->e≠mh->Y X h e=Y X gM e
def sS.ab{gM:K ag}{d1 b5 mh:Nat}{p cZ df:D}{q:Int}{f:Int×Int}{ad:bi->Option Int}(a:sS X gM d1 b5 mh p q cZ df f ad aP aG)(kW:b5<d1)(K0:mh<d1)(aE:aG<=a1)(aD:∀e,e<aG->e≠d1+1->Y X aM e=Y X aP e):sS X gM d1 b5 mh p q cZ df f ad aM a1:=by
 have gq:=a.le
 refine⟨Zo, ?_,a.seen.ab (aD _ Zo Zo),λe I J am=>by rw[aD e Zo Zo];exact a.low e I J am⟩
 have:=a.j2
 unfold f8 at*
 rw[aD _ Zo Zo];exact this
def aoD(aw:du X){P:Nat->Prop}{b5:Nat}{p cZ df:D}{q:Int}{t:bi->Option ej}{g:Go.aR.Node}{row:List D}(aE:(o X).a2<=j)(kW:(o X).a2<=b5)(AT:b5<j)
 (bE:∀e,P e->e<j/\e≠b5)(a6:s2 X h P cZ t){f:Int×Int}(aA:f8 X h b5 p q cZ df f)(bU:pn X h P g row)(yn:True):
 aY X 120 [.ptr b5 0, .agg row] h j (λac T an=>ac= .tuple []/\f8 X T b5 p q cZ df (vF t g f)/\j<=an/\∀e,e<j->e≠b5->Y X T e=Y X h e) (λ_ _ _=>False):=by
 refine JP (ajk X) (aw.none _ _ rfl) ?_
 rw[ajl]
 unfold Xj
 obtain⟨dj,dG,aW,eP,bQ,cf,cM,ew,br,rfl,oP,my,qz,j8,e2⟩:=bU
 refine cK ⟨?_⟩
 refine fh (λaP=>Y X aP j=zu [.ptr b5 0] 1/\Y X aP (j+1)=zu [.str g.name, .Z g.at_,dj,dG,aW,eP] 6
  /\Y X aP (j+1+1)=some (.map [] 0)/\aO X aP (.ptr (j+1+1+1) 0)=some (.map (j+1+1))/\bo X h j aP (j+1+1+1+1)) ⟨by(first|assumption|(simp(disch:=omega) only[bg,aI]<;>rfl)|(simp(disch:=omega) only[bg,aI])),by(first|assumption|(simp(disch:=omega) only[bg,aI]<;>rfl)|(simp(disch:=omega) only[bg,aI])),by(first|assumption|(simp(disch:=omega) only[bg,aI]<;>rfl)|(simp(disch:=omega) only[bg,aI])),by rw[co,bg Zo];rfl,dM⟩ ?_
 rintro aP ⟨h6,b3,b7,cS,bN⟩
 refine(NE aw Zo).Zm ?_
 rintro ac aM a1 ⟨rfl,rfl,bJ,cw,d9,fQ⟩
 have jk:bo X h j aM (j+1+1+1+1+1):=bN.trans bJ
 have oZ:∀e,P e->Y X aM e=Y X h e:=λe z=>jk.ab e (bE e z).1
 rw[<-bJ.ab _ Zo]at h6 b3 b7
 rw[<-bJ.fZ _ _ Zo]at cS
 generalize atM:j+1+1+1+1+1=d1 at*
 have AS:f8 X aM b5 p q cZ df f:=by unfold f8 at*;rw[jk.ab b5 AT];exact aA
 have EN:pm X aM (j+1+1) (oF λ_=>none):=⟨[],0,b7,λ_=>rfl⟩
 refine gZ ?_
 refine NF (P:=P) (g:=g) (bQ:=bQ) (cf:=cf) (cM:=cM) (dj:=dj) (dG:=dG) (aW:=aW) aw (λi T aU=>sS X aM d1 b5 (j+1+1) p q cZ df (((hM g).take i).foldl q2 (λ_=>none,f)).2 (((hM g).take i).foldl q2 (λ_=>none,f)).1 T aU) Zo Zo Zo Zo
  (oP.ab oZ) (my.ab oZ) (qz.ab oZ) cw d9 fQ (λi T aU a=>⟨a.le,λe z=>a.low e (zq (bE e z).1) (bE e z).2 (zq (bE e z).1)⟩)
  (λi aP aG aM a1 a gq aD=>a.ab Zo Zo gq aD) (λT bT=>⟨Zi _,by unfold f8 at*;rw[bT.ab _ Zo];exact AS,EN.ab (bT.ab _ Zo),λe z _ _=>bT.ab e z⟩) ?_ ?_
 ·intro mk i ff d aX bf aN fi nw iO
  rw[Az q2 _ aN]
  generalize ((hM g).take i).foldl q2 (λ_=>none,f)=ce at fi ⊢
  have gq:=fi.le
  have ko:eT d=[.str d.name, .Z d.at_, .bool d.ty.b, .bool d.ty.s, .Z d.ty.w, .str d.on, .Z d.fL, .bool d.no]:=rfl
  rw[ko]
  unfold tV
  refine cK ⟨?_⟩
  generalize eH:bn X _ bf _=bC
  have eh:Y X bC bf=zu [.str d.name, .Z d.at_, .bool d.ty.b, .bool d.ty.s, .Z d.ty.w, .str d.on, .Z d.fL, .bool d.no] 8:=by rw[<-eH,bg Zo];rfl
  have d0:∀e,e<bf->Y X bC e=Y X aX e:=λe z=>by rw[<-eH];exact zw
  clear eH
  refine⟨by rw[d0 _ Zo];exact iO, ?_⟩
  generalize lr:bn X bC (d1+1) _=bW
  have fS:Y X bW (d1+1)=some (mk .busy none):=by rw[<-lr,bg Zo]
  have dU:∀e,e≠d1+1->Y X bW e=Y X bC e:=λe z=>by rw[<-lr,aI Zo z]
  clear lr
  have im:=fi.ab (aM:=bW) (a1:=bf+1) Zo Zo Zo (λe I J=>by rw[dU e J,d0 e I])
  rw[<-dU _ Zo]at eh
  have vL:Y X bW d1=some (.deferred (some [])):=by rw[dU _ Zo,d0 _ Zo];exact nw
  have bM:aO X bW (.ptr j 0)=some (.ptr b5 0):=by rw[bO (show Y X bW j=_ by rw[im.low _ Zo Zo Zo];exact h6)];rfl
  have cM:aO X bW (.ptr (j+1+1+1) 0)=some (.map (j+1+1)):=zB (im.low _ Zo Zo Zo) cS
  have kr:lO X bW 9 (.Z 0) (.map (j+1+1)) (.str d.name) false=some (.Z ((ce.1 d.name).getD 0)):=by
   rw[Fh im.seen];unfold oF;cases ce.1 d.name<;>rfl
  refine he @cM @kr (bO eh) ⟨?_⟩
  refine gZ ?_
  refine he @cM @kr (bO eh) ⟨?_⟩
  refine kt (λc1 T aU=>c1.g 4=some (.ptr (j+1+1+1) 0)/\c1.g 6=some (.ptr bf 0)/\c1.g 5=some (.Z ff)/\sS X aM d1 b5 (j+1+1) p q cZ df (q2 ce (ff,d)).2 ce.1 T aU/\bf+1<=aU
   /\Y X T bf=zu [.str d.name, .Z d.at_, .bool d.ty.b, .bool d.ty.s, .Z d.ty.w, .str d.on, .Z d.fL, .bool d.no] 8/\Y X T d1=some (.deferred (some []))/\Y X T (d1+1)=some (mk .busy none)) (λW bK=> ?_) ?_
  ·by_cases aF:0<(ce.1 d.name).getD 0
   ·have aJ:decide (0<(ce.1 d.name).getD 0)=true:=by simp[aF]
    refine et @aJ @bM (bO eh) ⟨?_⟩
    refine(xS (h:=bW) aw kW im.j2 24 d.at_).Zm ?_
    rintro ac b9 eB ⟨rfl,asC,tq,oQ⟩
    refine cK ⟨?_⟩
    refine bK _ _ _ ⟨bw,bw,bw,⟨Zo, ?_,im.seen.ab (oQ _ Zo),λe I J am=>by rw[oQ e J];exact im.low e I J am⟩,Zo,by rw[oQ _ Zo];exact eh,by rw[oQ _ Zo];exact vL,by rw[oQ _ Zo];exact fS⟩
    unfold q2
    simp only[aF,ZC]
    exact asC
   ·have aJ:decide (0<(ce.1 d.name).getD 0)=false:=by simp[aF]
    refine ci @aJ ⟨?_⟩
    refine bK _ _ _ ⟨bw,bw,bw,⟨Zo, ?_,im.seen,im.low⟩,Zo,eh,vL,fS⟩
    unfold q2
    simp only[aF,ZA]
    exact im.j2
  ·rintro c1 b9 eB ⟨t4,fU,t5,jl,tq,dT,te,aqV⟩
   have OV:=jl.le
   have D1:aO X b9 (.ptr (j+1+1+1) 0)=some (.map (j+1+1)):=zB (jl.low _ Zo Zo Zo) cS
   show cL _ _
   refine gg @t4 @fU @t5 @D1 (bO dT) ⟨?_⟩
   obtain⟨cB,sh,arG,sg⟩:=PO (j:=eB) (show(o X).a2<=j+1+1 by omega) jl.seen d.name (.Z ff)
   refine kN sh ?_
   refine cK ⟨?_⟩
   refine⟨⟨.busy,none,by rw[sg _ Zo];exact aqV⟩, ?_⟩
   have Cx:f8 X cB b5 p q cZ df (q2 ce (ff,d)).2:=by have:=jl.j2;unfold f8 at*;rw[sg b5 Zo];exact this
   have arH:pm X cB (j+1+1) (oF (q2 ce (ff,d)).1):=by
    have:(λx=>if x=d.name then some (D.Z ff)else oF ce.1 x)=oF (q2 ce (ff,d)).1:=by
     funext x;unfold oF q2;by_cases a:x=d.name<;>simp[a]
    rw[<-this];exact arG
   have sa:sS X aM d1 b5 (j+1+1) p q cZ df (q2 ce (ff,d)).2 (q2 ce (ff,d)).1 cB eB:=⟨OV,Cx,arH,λe I J am=>by rw[sg e am];exact jl.low e I J am⟩
   exact⟨rfl,sa.ab Zo Zo (Zi _) (λe I J=>aI Zo J),by rw[aI Zo Zo,sg _ Zo];exact te,bg Zo⟩
 ·intro aX bf fi nw
  rw[YY]at fi
  unfold vF
  generalize (hM g).foldl q2 (λ_=>none,f)=ce at fi ⊢
  have gq:=fi.le
  have x3:Y X aX (j+1)=zu [.str g.name, .Z g.at_,dj,dG,aW,eP] 6:=by rw[fi.low _ Zo Zo Zo];exact b3
  refine ci (bO x3) ⟨?_⟩
  refine(NE aw Zo).Zm ?_
  rintro ac bC da ⟨rfl,rfl,dv,cw,d9,fQ⟩
  generalize yp:bf+1=dV at*
  have vY:f8 X bC b5 p q cZ df ce.2:=by have:=fi.j2;unfold f8 at*;rw[dv.ab b5 Zo];exact this
  have Kf:Y X bC d1=some (.deferred (some [])):=by rw[dv.ab _ Zo];exact nw
  have ku:∀e,P e->Y X bC e=Y X h e:=λe z=>by
   have:=bE e z
   rw[dv.ab e Zo,fi.low e Zo this.2 Zo,oZ e z]
  have JI:Y X bC j=zu [.ptr b5 0] 1:=by rw[dv.ab _ Zo,fi.low _ Zo Zo Zo];exact h6
  refine gZ ?_
  refine NF (P:=P) (g:=g) (bQ:=bQ) (cf:=cf) (cM:=cM) (dj:=dj) (dG:=dG) (aW:=aW) aw (λi T aU=>sS X bC dV b5 (j+1+1) p q cZ df (((hM g).take i).foldl (tb t) ce.2) ce.1 T aU) Zo Zo Zo Zo
   (oP.ab ku) (my.ab ku) (qz.ab ku) cw d9 fQ (λi T aU a=>⟨a.le,λe z=>a.low e (zq (bE e z).1) (bE e z).2 (zq (bE e z).1)⟩)
   (λi aP aG aM a1 a gq aD=>a.ab Zo Zo gq aD) (λT bT=>⟨Zi _,by unfold f8 at*;rw[bT.ab _ Zo];exact vY,(fi.seen.ab (dv.ab _ Zo)).ab (bT.ab _ Zo),λe z _ _=>bT.ab e z⟩) ?_ ?_
  ·intro mk i ff d bW b4 aN im vL aqU
   rw[Az (tb t) _ aN]
   generalize ((hM g).take i).foldl (tb t) ce.2=G at im ⊢
   have ib:=im.le
   have ko:eT d=[.str d.name, .Z d.at_, .bool d.ty.b, .bool d.ty.s, .Z d.ty.w, .str d.on, .Z d.fL, .bool d.no]:=rfl
   rw[ko]
   unfold tV
   refine cK ⟨?_⟩
   generalize fB:bn X _ b4 _=b9
   have dT:Y X b9 b4=zu [.str d.name, .Z d.at_, .bool d.ty.b, .bool d.ty.s, .Z d.ty.w, .str d.on, .Z d.fL, .bool d.no] 8:=by rw[<-fB,bg Zo];rfl
   have dy:∀e,e<b4->Y X b9 e=Y X bW e:=λe z=>by rw[<-fB];exact zw
   clear fB
   refine⟨by rw[dy _ Zo];exact aqU, ?_⟩
   generalize n0:bn X b9 (dV+1) _=cB
   have eY:Y X cB (dV+1)=some (mk .busy none):=by rw[<-n0,bg Zo]
   have gQ:∀e,e≠dV+1->Y X cB e=Y X b9 e:=λe z=>by rw[<-n0,aI Zo z]
   clear n0
   have sa:=im.ab (aM:=cB) (a1:=b4+1) Zo Zo Zo (λe I J=>by rw[gQ e J,dy e I])
   rw[<-gQ _ Zo]at dT
   have ux:Y X cB dV=some (.deferred (some [])):=by rw[gQ _ Zo,dy _ Zo];exact vL
   have bM:aO X cB (.ptr j 0)=some (.ptr b5 0):=by rw[bO (show Y X cB j=_ by rw[sa.low _ Zo Zo Zo];exact JI)];rfl
   have c4:aO X cB (.ptr b5 2)=some cZ:=by have:=sa.j2;unfold f8 at this;rw[bO this];rfl
   have kp:∀T aU,sS X bC dV b5 (j+1+1) p q cZ df (tb t G (ff,d)) ce.1 T aU->Y X T dV=some (.deferred (some []))->(D.bool true=D.bool true/\sS X bC dV b5 (j+1+1) p q cZ df (tb t G (ff,d)) ce.1 (bn X T (dV+1) (some (mk .ready none))) aU/\Y X (bn X T (dV+1) (some (mk .ready none))) dV=some (.deferred (some []))/\Y X (bn X T (dV+1) (some (mk .ready none))) (dV+1)=some (mk .ready none)):=λT aU a J=>
    ⟨rfl,a.ab Zo Zo (Zi _) (λe I J=>aI Zo J),by rw[aI Zo Zo];exact J,bg Zo⟩
   refine AC ⟨?_⟩
   refine gZ ?_
   refine et @bM @c4 (bO dT) ⟨?_⟩
   refine fh (λdX=>Y X dX (b4+1+10)=zu [.Z 0, .str [], .Z 0, .zF, .zF, .Z 0, .str [], .Z 0, .zF, .Z 0, .Z 0] 11/\bo X cB (b4+1) dX (b4+1+10+1)) ⟨by rw[bg Zo];rfl,Zo,λe z=>zw⟩ ?_
   rintro dX ⟨h7,hX⟩
   refine(NZ (j:=b4+1+13) (h:=dX) aw Zo (a6.ab (bm:=P) (λe z=>by have:=bE e z;rw[hX.ab e Zo,sa.low e Zo this.2 Zo,ku e z]) (λ_ a=>a)) (λe z=>zq (bE e z).1) d.on).Zm ?_
   rintro ac ee jo ⟨rfl,jS⟩
   have uP:=jS.le
   have mW:Y X ee (b4+1+10)=zu [.Z 0, .str [], .Z 0, .zF, .zF, .Z 0, .str [], .Z 0, .zF, .Z 0, .Z 0] 11:=by rw[jS.ab _ Zo];exact h7
   generalize E4:(t d.on).getD vh=fm
   have tD:p8 fm=[.Z fm.kind, .str fm.d.name, .Z fm.d.at_, .bool fm.d.ty.b, .bool fm.d.ty.s, .Z fm.d.ty.w, .str fm.d.on, .Z fm.d.fL, .bool fm.d.no, .Z fm.eq, .Z fm.left]:=rfl
   rw[tD]
   refine h8 ⟨?_⟩
   refine h8 ⟨?_⟩
   refine fw (hF (q:=11) (b:=b4+1+10) (U:=0) (n:=11) mW Zo rfl Zd Zd rfl) ?_
   generalize sc:bn X ee (b4+1+10) _=gM
   have mC:∀e,e<b4+1->Y X gM e=Y X cB e:=λe z=>by rw[<-sc,aI Zo Zo,jS.ab e Zo,hX.ab e z]
   clear sc h7 mW
   have qt:sS X bC dV b5 (j+1+1) p q cZ df G ce.1 gM jo:=sa.ab Zo Zo Zo (λe I J=>mC e I)
   rw[<-mC _ Zo]at dT eY ux
   have anC:aO X gM (.ptr j 0)=some (.ptr b5 0):=zB (mC _ Zo) bM
   cases to:(t d.on)with
   |some FZ=>
    have mv:tb t G (ff,d)=G:=by unfold tb;rw[Zg (by simp[to])]
    simp only[Z9]
    refine cK ⟨?_⟩
    rw[mv]at kp ⊢
    exact⟨⟨.busy,none,eY⟩,kp _ _ qt ux⟩
   |none=>
    simp only[Z2]
    by_cases oU:d.on=[]
    ·have mv:tb t G (ff,d)=G:=by unfold tb;rw[Zg (by simp[oU])]
     have aJ:decide (d.on≠[])=false:=by simp[oU]
     refine cT (bO dT) @aJ ⟨?_⟩
     rw[mv]at kp ⊢
     exact⟨⟨.busy,none,eY⟩,kp _ _ qt ux⟩
    ·have mv:tb t G (ff,d)=nu G 23 d.fL:=by unfold tb;rw[Zu ⟨to,oU⟩]
     have aJ:decide (d.on≠[])=true:=by simp[oU]
     refine et (bO dT) @aJ @anC ⟨?_⟩
     refine(xS (h:=gM) aw kW qt.j2 23 d.fL).Zm ?_
     rintro ac Gk axA ⟨rfl,TB,att,wb⟩
     refine cK ⟨?_⟩
     rw[mv]at kp ⊢
     have KW:=qt.le
     exact⟨⟨.busy,none,by rw[wb _ Zo];exact eY⟩,kp _ _ ⟨Zo,TB,qt.seen.ab (wb _ Zo),λe I J am=>by rw[wb e J];exact qt.low e I J am⟩ (by rw[wb _ Zo];exact ux)⟩
  ·intro bW b4 im vL
   rw[YY]at im
   generalize (hM g).foldl (tb t) ce.2=G at im ⊢
   have ib:=im.le
   have aqO:Y X bW d1=some (.deferred (some [])):=by rw[im.low _ Zo Zo Zo];exact Kf
   show nI X [] _ _ _ _ _
   simp only[tK,sC,uh]
   refine⟨by show(o X).a2<=dV;omega,vL, ?_⟩
   refine⟨by show(o X).a2<=d1;omega,by rw[aI Zo Zo];exact aqO, ?_⟩
   show rE _ _ _ _ _
   refine⟨rfl, ?_,Zo,λe I J=> ?_⟩
   ·have:=im.j2
    unfold f8 at*
    rw[aI Zo Zo,aI Zo Zo];exact this
   ·rw[aI Zo Zo,aI Zo Zo,im.low e Zo J Zo,dv.ab e Zo,fi.low e Zo J Zo,jk.ab e I]
end
def wO(s:(bi->Option ej)×List bi)(x:Int×fo):(bi->Option ej)×List bi:=
 if (s.1 x.2.name).isSome then s else(λw=>if w=x.2.name then some ⟨x.1,x.2, -1, -1⟩else s.1 w,s.2++[x.2.name])
def u9(q:Nat)(t:bi->Option ej)(x:bi×Nat):bi->Option ej:=match t x.1 with
 |some v=>if v.eq<0 then(λw=>if w=x.1 then some ⟨v.kind,v.d,q,x.2⟩else t w)else t
 |none=>t
def ID(t:bi->Option ej)(x:fc×Nat):bi->Option ej:=x.1.left.zipIdx.foldl (u9 x.2) t
def nF(g:Go.aR.Node):(bi->Option ej)×List bi:=(hM g).foldl wO (λ_=>none,[])
def fH(g:Go.aR.Node):bi->Option ej:=g.eqs.zipIdx.foldl ID (nF g).1
def PR(g:Go.aR.Node):List bi:=(nF g).2
def xa(t:bi->Option ej):bi->Option D:=λw=>(t w).map λv=> .agg (p8 v)
def WQ{α:Type}{k:List α}{i:Nat}{x:α}(a:k[i]? =some x):k.zipIdx[i]? =some (x,i):=by
 rw[List.getElem?_zipIdx,a];simp
section
variable{X:cb}{h T c6 aP aM:K ag}{j an aG a1:Nat}
structure sY(X:cb)(gM:K ag)(d1 mh cZ b0:Nat)(t:bi->Option ej)(mj:List bi)(h:K ag)(n:Nat):Prop where
 le:b0<=n
 map:pm X h mh (xa t)
 w8:∃c aW cJ,Y X h cZ=some (.cells c 2 .own)/\c.get 0=some (.map mh)/\c.get 1=some aW/\gB X h aW 1 (mj.map .str) cJ/\∀e∈cJ,b0<=e/\e<n
 low:∀e,e<d1->e≠mh->e≠cZ->Y X h e=Y X gM e
def sY.ab{gM:K ag}{d1 mh cZ b0:Nat}{t:bi->Option ej}{mj:List bi}(a:sY X gM d1 mh cZ b0 t mj aP aG)(K0:mh<d1)(m1:cZ<d1)(oS:d1<=b0)(aE:aG<=a1)(aD:∀e,e<aG->(e<d1\/b0<=e)->Y X aM e=Y X aP e):sY X gM d1 mh cZ b0 t mj aM a1:=by
 have gq:=a.le
 refine⟨Zo,a.map.ab (aD _ Zo Zo), ?_,λe I J am=>by rw[aD e Zo Zo];exact a.low e I J am⟩
 obtain⟨c,aW,cJ,b3,b7,cS,eh,fS⟩:=a.w8
 exact⟨c,aW,cJ,by rw[aD _ Zo Zo];exact b3,b7,cS,eh.ab (λe z=>by have:=fS e z;exact aD e Zo Zo),λe z=>zq (fS e z)⟩
def agE(aw:du X){P:Nat->Prop}{g:Go.aR.Node}{row:List D}(aE:(o X).a2<=j)(bE:∀e,P e->e<j)(bU:pn X h P g row)(bp:(hM g).length<=300000):
 aY X 32 [.agg row] h j (λac T an=>∃cZ mh aW b,ac= .ptr cZ 0/\cQ j an cZ/\cQ j an mh/\aO X T (.ptr cZ 0)=some (.map mh)/\pm X T mh (xa (fH g))/\aO X T (.ptr cZ 1)=some aW/\dD X T (cQ j an) b aW 1 (ih (PR g))/\bo X h j T an) (λ_ _ _=>False):=by
 refine JP (al1 X) (aw.none _ _ rfl) ?_
 rw[al2]
 unfold aam
 obtain⟨dj,dG,aW,eP,bQ,cf,cM,ew,br,rfl,oP,my,qz,j8,e2⟩:=bU
 refine cK ⟨?_⟩
 refine fh (λaP=>Y X aP j=zu [.str g.name, .Z g.at_,dj,dG,aW,eP] 6
  /\Y X aP (j+1)=some (.map [] 0)/\Y X aP (j+1+1)=zu [.map (j+1), .aV] 2/\aO X aP (.ptr (j+1+1+1) 0)=some (.ptr (j+1+1) 0)/\bo X h j aP (j+1+1+1+1)) ⟨by(first|assumption|(simp(disch:=omega) only[bg,aI]<;>rfl)|(simp(disch:=omega) only[bg,aI])),by(first|assumption|(simp(disch:=omega) only[bg,aI]<;>rfl)|(simp(disch:=omega) only[bg,aI])),by(first|assumption|(simp(disch:=omega) only[bg,aI]<;>rfl)|(simp(disch:=omega) only[bg,aI])),by rw[co,bg Zo];rfl,dM⟩ ?_
 rintro aP ⟨h6,b3,b7,cS,bN⟩
 refine(NE aw Zo).Zm ?_
 rintro ac aM a1 ⟨rfl,rfl,bJ,cw,d9,fQ⟩
 have jk:bo X h j aM (j+1+1+1+1+1):=bN.trans bJ
 have oZ:∀e,P e->Y X aM e=Y X h e:=λe z=>jk.ab e (bE e z)
 rw[<-bJ.ab _ Zo]at h6 b3 b7
 rw[<-bJ.fZ _ _ Zo]at cS
 generalize atM:j+1+1+1+1+1=d1 at*
 refine gZ ?_
 refine NF (P:=P) (g:=g) (bQ:=bQ) (cf:=cf) (cM:=cM) (dj:=dj) (dG:=dG) (aW:=aW) aw (λi T aU=>sY X aM d1 (j+1) (j+1+1) (d1+2) (((hM g).take i).foldl wO (λ_=>none,[])).1 (((hM g).take i).foldl wO (λ_=>none,[])).2 T aU/\(((hM g).take i).foldl wO (λ_=>none,[])).2.length<=i) Zo Zo Zo Zo
  (oP.ab oZ) (my.ab oZ) (qz.ab oZ) cw d9 fQ (λi T aU a=>⟨a.1.le,λe z=>a.1.low e (zq (bE e z)) (zq (bE e z)) (zq (bE e z))⟩)
  (λi aP aG aM a1 a gq aD=>⟨a.1.ab Zo Zo Zo gq (λe I J=>aD e I Zo),a.2⟩)
  (λT bT=>⟨⟨Zi _,⟨[],0,by rw[bT.ab _ Zo];exact b3,λ_=>rfl⟩,⟨_, .aV,[],by rw[bT.ab _ Zo];exact b7,rfl,rfl, .inl (.inl ⟨rfl,rfl,rfl⟩),λe z=>by simp at z⟩,λe z _ _=>bT.ab e z⟩,Zs⟩) ?_ ?_
 ·intro mk i ff d aX bf aN fi nw iO
  rw[Az wO _ aN]
  generalize ((hM g).take i).foldl wO (λ_=>none,[])=ce at fi ⊢
  obtain⟨fi,fI⟩:=fi
  have aC0:=(Zc.1 aN).1
  have gq:=fi.le
  have ko:eT d=[.str d.name, .Z d.at_, .bool d.ty.b, .bool d.ty.s, .Z d.ty.w, .str d.on, .Z d.fL, .bool d.no]:=rfl
  rw[ko]
  unfold tV
  refine cK ⟨?_⟩
  generalize eH:bn X _ bf _=bC
  have eh:Y X bC bf=zu [.str d.name, .Z d.at_, .bool d.ty.b, .bool d.ty.s, .Z d.ty.w, .str d.on, .Z d.fL, .bool d.no] 8:=by rw[<-eH,bg Zo];rfl
  have d0:∀e,e<bf->Y X bC e=Y X aX e:=λe z=>by rw[<-eH];exact zw
  clear eH
  refine⟨by rw[d0 _ Zo];exact iO, ?_⟩
  generalize lr:bn X bC (d1+1) _=bW
  have fS:Y X bW (d1+1)=some (mk .busy none):=by rw[<-lr,bg Zo]
  have dU:∀e,e≠d1+1->Y X bW e=Y X bC e:=λe z=>by rw[<-lr,aI Zo z]
  clear lr
  have im:=fi.ab (aM:=bW) (a1:=bf+1) Zo Zo Zo Zo (λe I J=>by rw[dU e Zo,d0 e I])
  rw[<-dU _ Zo]at eh
  have vL:Y X bW d1=some (.deferred (some [])):=by rw[dU _ Zo,d0 _ Zo];exact nw
  have cM:aO X bW (.ptr (j+1+1+1) 0)=some (.ptr (j+1+1) 0):=zB (im.low _ Zo Zo Zo) cS
  obtain⟨jO,aEB,anP,eL,e7,hE,pa,mJ⟩:=im.w8
  have kr:lO X bW 9 (.agg [.Z 0, .str [], .Z 0, .zF, .zF, .Z 0, .str [], .Z 0, .zF, .Z 0, .Z 0]) (.map (j+1)) (.str d.name) true=some (.tuple [.agg (p8 ((ce.1 d.name).getD vh)), .bool (ce.1 d.name).isSome]):=by
   rw[Fh im.map];unfold xa;cases ce.1 d.name<;>rfl
  generalize E4:(ce.1 d.name).getD vh=fm at kr
  have tD:p8 fm=[.Z fm.kind, .str fm.d.name, .Z fm.d.at_, .bool fm.d.ty.b, .bool fm.d.ty.s, .Z fm.d.ty.w, .str fm.d.on, .Z fm.d.fL, .bool fm.d.no, .Z fm.eq, .Z fm.left]:=rfl
  rw[tD]at kr
  have kp:∀T aU (G:(bi->Option ej)×List bi),sY X aM d1 (j+1) (j+1+1) (d1+2) G.1 G.2 T aU->G.2.length<=i+1->Y X T d1=some (.deferred (some []))->(D.bool true=D.bool true/\(sY X aM d1 (j+1) (j+1+1) (d1+2) G.1 G.2 (bn X T (d1+1) (some (mk .ready none))) aU/\G.2.length<=i+1)/\Y X (bn X T (d1+1) (some (mk .ready none))) d1=some (.deferred (some []))/\Y X (bn X T (d1+1) (some (mk .ready none))) (d1+1)=some (mk .ready none)):=λT aU G a az J=>
   ⟨rfl,⟨a.ab Zo Zo Zo (Zi _) (λe I J=>aI Zo Zo),az⟩,by rw[aI Zo Zo];exact J,bg Zo⟩
  refine AC ⟨?_⟩
  refine gZ ?_
  refine gg @cM (bO eL) @e7 (bO eh) @kr ⟨?_⟩
  generalize fB:bn X _ (bf+1+10) _=b9
  have dy:∀e,e<bf+1->Y X b9 e=Y X bW e:=λe z=>by rw[<-fB];exact zw
  clear fB kr
  have jl:sY X aM d1 (j+1) (j+1+1) (d1+2) ce.1 ce.2 b9 (bf+1+13):=im.ab Zo Zo Zo Zo (λe I J=>dy e I)
  rw[<-dy _ Zo]at eh fS vL
  have D1:aO X b9 (.ptr (j+1+1+1) 0)=some (.ptr (j+1+1) 0):=zB (dy _ Zo) cM
  have ahg:Y X b9 (j+1+1)=some (.cells jO 2 .own):=by rw[dy _ Zo];exact eL
  cases aF:ce.1 d.name with
  |some FZ=>
   have gm:wO ce (ff,d)=ce:=by unfold wO;rw[Zu (by simp[aF])]
   rw[gm]
   simp only[Z9]
   refine cK ⟨?_⟩
   exact⟨⟨.busy,none,fS⟩,kp _ _ ce (jl.ab Zo Zo Zo Zo (λ_ _ _=>rfl)) Zo vL⟩
  |none=>
   have gm:wO ce (ff,d)=(λw=>if w=d.name then some ⟨ff,d, -1, -1⟩else ce.1 w,ce.2++[d.name]):=by unfold wO;rw[Zg (by simp[aF])]
   rw[gm]
   simp only[Z2]
   refine gx @D1 (bO ahg) @e7 (bO eh) ⟨?_⟩
   generalize i2:bf+1+13+10=N
   obtain⟨cB,sh,Hf,sg⟩:=PO (j:=N) (show(o X).a2<=j+1 by omega) jl.map d.name (.agg (p8 ⟨ff,d, -1, -1⟩))
   refine kN sh ?_
   have abl:aO X cB (.ptr (j+1+1+1) 0)=some (.ptr (j+1+1) 0):=zB (sg _ Zo) D1
   have ahh:Y X cB (j+1+1)=some (.cells jO 2 .own):=by rw[sg _ Zo];exact ahg
   rw[<-sg _ Zo]at eh fS vL
   refine gx @abl (bO ahh) @hE (bO eh) ⟨?_⟩
   generalize rg:bn X cB (N+7) _=dX
   have ao0:Y X dX (N+7)=zu [.str d.name] 1:=by rw[<-rg,bg Zo]
   have hS:∀e,e<N->Y X dX e=Y X cB e:=λe z=>by rw[<-rg];exact zw
   clear rg sh
   obtain⟨fk,ee,gC,ix,ae1,adK,rl⟩:=(pa.ab (T:=dX) (λe z=>by have:=mJ e z;rw[hS e Zo,sg e Zo,dy e Zo])).append (j:=N+12) Zd (sD ao0 (n8 _) rfl _) rfl Zd rfl (by simp;omega) Zo (λe z=>zq (mJ e z))
   refine kN ix ?_
   have hs:∀e,e<N->e∉anP->Y X ee e=Y X cB e:=λe z a=>by rw[rl e Zo a,hS e z]
   have anI:aO X ee (.ptr (j+1+1+1) 0)=some (.ptr (j+1+1) 0):=zB (hs _ Zo (λa=>zq (mJ _ a))) abl
   have ay7:Y X ee (j+1+1)=some (.cells jO 2 .own):=by rw[hs _ Zo (λa=>zq (mJ _ a))];exact ahh
   refine ci @anI ⟨?_⟩
   refine g2 (by simp[D.same]) ?_
   obtain⟨fG,hD,yK⟩:=kS.one ae1
   refine fw (t2 ay7 Zo Zo fG hD) ?_
   refine cK ⟨?_⟩
   generalize sc:bn X ee (j+1+1) _=gM
   have ahj:Y X gM (j+1+1)=some (.cells (jO.set 1 (some fk)) 2 .own):=by rw[<-sc,bg Zo]
   have mC:∀e,e≠j+1+1->Y X gM e=Y X ee e:=λe z=>by rw[<-sc,aI Zo z]
   clear sc
   have eA:∀e,e<bf+1->(e<d1\/e=d1\/e=d1+1)->e≠j+1+1->e≠j+1->Y X gM e=Y X b9 e:=λe z I J am=>by
    rw[mC e J,hs e Zo (λa=>zq (mJ _ a)),sg e am]
   refine⟨⟨.busy,none, ?_⟩,kp _ _ (_,ce.2++[d.name]) ⟨Zo, ?_,⟨jO.set 1 (some fk),fk,gC,ahj, ?_, ?_, ?_, ?_⟩, ?_⟩ (by simp;omega) ?_⟩
   ·rw[mC _ Zo,hs _ Zo (λa=>zq (mJ _ a))];exact fS
   ·have:(λx=>if x=d.name then some (D.agg (p8 ⟨ff,d, -1, -1⟩))else xa ce.1 x)=xa (λw=>if w=d.name then some ⟨ff,d, -1, -1⟩else ce.1 w):=by
     funext x;unfold xa;by_cases a:x=d.name<;>simp[a]
    rw[this]at Hf
    exact Hf.ab (by rw[mC _ Zo,hs _ Zo (λa=>zq (mJ _ a))])
   ·rw[K.kI,Zg Zd];exact e7
   ·rw[K.kI,Zu rfl]
   ·rw[Yi]
    exact .inl (ae1.ab λe z=>mC e (by rcases adK e z with rfl|a;omega;have:=mJ _ a;omega))
   ·intro e z
    rcases adK e z with rfl|a
    ·omega
    ·have:=mJ _ a;omega
   ·intro e I J am
    rw[eA e Zo (.inl I) am J];exact jl.low e I J am
   ·rw[mC _ Zo,hs _ Zo (λa=>zq (mJ _ a))];exact vL
 ·intro aX bf fi nw
  rw[YY]at fi
  obtain⟨fi,fI⟩:=fi
  change sY X aM d1 (j+1) (j+1+1) (d1+2) (nF g).1 (nF g).2 aX bf at fi
  change (nF g).2.length<=_ at fI
  have aqo:Y X aX j=zu [.str g.name, .Z g.at_,dj,dG,aW,eP] 6:=by rw[fi.low _ Zo Zo Zo];exact h6
  have lM:=e2.wide
  have d5:=j8.len
  have hO:=j8.many
  rw[lM.1]at d5 hO
  refine cT (bO aqo) @d5 ⟨?_⟩
  refine fK (λm H T aU=>∃(W:Nat),H.g 3=some (.ptr (j+1+1+1) 0)/\H.g 54=some eP/\H.g 55=some (.Z (g.eqs.length:Int))/\H.g 56=some (.Z (W:Int))/\H.bc=[⟨.collected d1,[]⟩]/\W+m=g.eqs.length
   /\sY X aM d1 (j+1) (j+1+1) (d1+2) ((g.eqs.zipIdx.take W).foldl ID (nF g).1) (nF g).2 T aU/\Y X T d1=some (.deferred (some [])))
   g.eqs.length ⟨0,bw,bw,bw,fW,rfl,Zo,fi,nw⟩ ?_
  rintro m H bC da ⟨W,t3,kz,qQ,p7,kO,bK,re,Kf⟩
  have jC:=re.le
  cases m with
  |zero=>
   have aJ:=zr W g.eqs.length
   have anG:aO X bC (.ptr (j+1+1+1) 0)=some (.ptr (j+1+1) 0):=zB (re.low _ Zo Zo Zo) cS
   refine gg @p7 @qQ @t3 @aJ @anG ⟨?_⟩
   have Hs:(g.eqs.zipIdx.take W).foldl ID (nF g).1=fH g:=by
    rw[Zx (by simp;omega)];rfl
   rw[Hs]at re
   show nI X [.tmp 2] _ _ _ _ _
   simp only[sC,kO]
   refine⟨by show(o X).a2<=d1;omega,Kf, ?_⟩
   show rE _ _ _ _ _
   unfold rE
   refine cK ⟨?_⟩
   have im:=re.ab (aM:=bn X bC d1 (some (.deferred none))) Zo Zo Zo (Zi _) (λe I J=>aI Zo Zo)
   obtain⟨c,s,cJ,eL,e7,hE,pa,mJ⟩:=im.w8
   obtain⟨b,aj⟩:=pa.IK (P:=cQ j da) (by simp[PR]at fI ⊢;omega) (λe z=>by have:=mJ e z;exact⟨Zo,Zo⟩)
   refine⟨j+1+1,j+1,s,b,rfl,⟨Zo,Zo⟩,⟨Zo,Zo⟩,by rw[bO eL];exact e7,im.map,by rw[bO eL];exact hE, ?_,Zo,λe z=> ?_⟩
   ·have:ih (PR g)=((nF g).2.map D.str).map λv=>[v]:=by unfold ih PR;rw[Yy];rfl
    rw[this];exact aj
   ·rw[im.low e Zo Zo Zo];exact jk.ab e z
  |succ m=>
   have aJ:=zs W g.eqs.length
   have bF:=zv W
   obtain⟨ah,bL⟩:=zt g.eqs W
   obtain⟨row,e3,tu⟩:=e2.get W ah bL
   have ku:∀e,P e->Y X bC e=Y X h e:=λe z=>by have:=bE e z;rw[re.low e Zo Zo Zo,oZ e z]
   have dS:=j8.f3 W (by rw[lM.1];omega)
   have ic:=(j8.ab ku).row Zd e3
   obtain⟨ky,mI,db,dx,k8,rfl,hA,ka,mz,nA⟩:=tu
   have sk:=k0 hA.len
   have aDL:=k0 ka.1.len
   have yv:=hA.len
   have EW:=hA.many
   rw[show(ih ah.left).length=ah.left.length from by simp[ih]]at yv EW
   have dm:=Az ID (nF g).1 (WQ bL)
   rw[show(ah,W)=(ah,W) from rfl]at dm
   generalize asd:(g.eqs.zipIdx.take W).foldl ID (nF g).1=Qy at re dm
   refine iM @p7 @qQ @kz @aJ @dS @ic ⟨?_⟩
   refine fw (hF (q:=4) (b:=da) (U:=0) (n:=4) (c:=K.ofList [.aV, .aV, .Z 0, .cx] 0 .nil) (bg Zo) Zo rfl Zd Zd nA) ?_
   generalize lr:bn X _ da _=bW
   have fS:aO X bW (.ptr da 0)=some ky:=by rw[<-lr,co,bg Zo];rfl
   have dU:∀e,e<da->Y X bW e=Y X bC e:=λe z=>by rw[<-lr];exact zw
   clear lr
   have im:sY X aM d1 (j+1) (j+1+1) (d1+2) Qy (nF g).2 bW (da+1):=re.ab Zo Zo Zo Zo (λe I J=>dU e I)
   rw[<-dU _ Zo]at Kf
   refine cT @fS @yv ⟨?_⟩
   refine fK (λgr H T aU=>∃(i:Nat),H.g 3=some (.ptr (j+1+1+1) 0)/\H.g 54=some eP/\H.g 55=some (.Z (g.eqs.length:Int))/\H.g 56=some (.Z (W:Int))/\H.bc=[⟨.collected d1,[]⟩]/\H.g 8=some (.Z (W:Int))/\H.g 62=some ky/\H.g 63=some (.Z (ah.left.length:Int))/\H.g 64=some (.Z (i:Int))/\i+gr=ah.left.length
    /\sY X aM d1 (j+1) (j+1+1) (d1+2) ((ah.left.zipIdx.take i).foldl (u9 W) Qy) (nF g).2 T aU/\Y X T d1=some (.deferred (some [])))
    ah.left.length ⟨0,a7 t3,a7 kz,a7 qQ,a7 p7,kO,bw,bw,bw,fW,Zo,im,Kf⟩ ?_
   rintro gr c1 b9 eB ⟨i,t3,kz,qQ,p7,kO,hb,Qx,Dv,vf,aN,jl,te⟩
   have tq:=jl.le
   cases gr with
   |zero=>
    have aJ:=zr i ah.left.length
    refine gg @vf @Dv @p7 @aJ @bF ⟨?_⟩
    rw[Zx (by simp;omega)]at jl
    refine⟨m,Zo,W+1,a7 t3,a7 kz,a7 qQ,bw,kO,Zo, ?_,te⟩
    rw[dm]
    exact jl
   |succ gr=>
    have aJ:=zs i ah.left.length
    have cn:=zv i
    obtain⟨w,bt⟩:=zt ah.left i
    have wv:∀e,P e->Y X b9 e=Y X h e:=λe z=>by have:=bE e z;rw[jl.low e Zo Zo Zo,oZ e z]
    have pD:=hA.f3 i (by simp[ih];omega)
    have iy:=(hA.ab wv).cell i [.str w] 0 (.str w) (by unfold ih;rw[Zy,bt];rfl) rfl
    rw[Yl]at pD
    rw[Yl,ZW]at iy
    have CN:=Az (u9 W) Qy (WQ bt)
    generalize asc:(ah.left.zipIdx.take i).foldl (u9 W) Qy=pe at jl CN
    have D1:aO X b9 (.ptr (j+1+1+1) 0)=some (.ptr (j+1+1) 0):=zB (jl.low _ Zo Zo Zo) cS
    obtain⟨s7,aEC,aCo,eL,e7,hE,pa,mJ⟩:=jl.w8
    have kr:lO X b9 9 (.agg [.Z 0, .str [], .Z 0, .zF, .zF, .Z 0, .str [], .Z 0, .zF, .Z 0, .Z 0]) (.map (j+1)) (.str w) true=some (.tuple [.agg (p8 ((pe w).getD vh)), .bool (pe w).isSome]):=by
     rw[Fh jl.map];unfold xa;cases pe w<;>rfl
    generalize E4:(pe w).getD vh=fm at kr
    have tD:p8 fm=[.Z fm.kind, .str fm.d.name, .Z fm.d.at_, .bool fm.d.ty.b, .bool fm.d.ty.s, .Z fm.d.ty.w, .str fm.d.on, .Z fm.d.fL, .bool fm.d.no, .Z fm.eq, .Z fm.left]:=rfl
    rw[tD]at kr
    refine eF @vf @Dv @Qx @t3 @aJ @pD (Za @iy (Za @D1 (Za (bO eL) (Za @e7 @kr)))) ⟨?_⟩
    generalize n0:bn X _ eB _=cB
    have eY:Y X cB eB=zu [.Z fm.kind, .str fm.d.name, .Z fm.d.at_, .bool fm.d.ty.b, .bool fm.d.ty.s, .Z fm.d.ty.w, .str fm.d.on, .Z fm.d.fL, .bool fm.d.no, .Z fm.eq, .Z fm.left] 11:=by rw[<-n0,bg Zo];rfl
    have gQ:∀e,e<eB->Y X cB e=Y X b9 e:=λe z=>by rw[<-n0];exact zw
    clear n0
    have sa:sY X aM d1 (j+1) (j+1+1) (d1+2) pe (nF g).2 cB (eB+1):=jl.ab Zo Zo Zo Zo (λe I J=>gQ e I)
    rw[<-gQ _ Zo]at te
    cases aF:pe w with
    |none=>
     have gm:u9 W pe (w,i)=pe:=by unfold u9;simp only[aF]
     simp only[Z2]
     refine cT @vf @cn ⟨?_⟩
     exact⟨gr,Zo,i+1,a7 t3,a7 kz,a7 qQ,a7 p7,kO,a7 hb,a7 Qx,a7 Dv,bw,Zo,by rw[CN,gm];exact sa,te⟩
    |some v=>
     have au8:v=fm:=by rw[aF]at E4;exact E4
     subst au8
     simp only[Z9]
     by_cases O4:v.eq<0
     ·have cF:decide (v.eq<0)=true:=by simp[O4]
      have gm:u9 W pe (w,i)=λx=>if x=w then some ⟨v.kind,v.d,W,i⟩else pe x:=by unfold u9;simp only[aF,O4,ZC]
      refine gx (bO eY) @cF @hb @vf ⟨?_⟩
      generalize rg:bn X (bn X cB eB _) eB _=dX
      have h7:Y X dX eB=zu [.Z v.kind, .str v.d.name, .Z v.d.at_, .bool v.d.ty.b, .bool v.d.ty.s, .Z v.d.ty.w, .str v.d.on, .Z v.d.fL, .bool v.d.no, .Z W, .Z i] 11:=by rw[<-rg,bg Zo];rfl
      have hS:∀e,e≠eB->Y X dX e=Y X cB e:=λe z=>by rw[<-rg,aI Zo z,aI Zo z]
      clear rg eY
      have lq:sY X aM d1 (j+1) (j+1+1) (d1+2) pe (nF g).2 dX (eB+1):=⟨sa.le,sa.map.ab (hS _ Zo),by
       obtain⟨c,s,cJ,cG,cw,d9,fQ,mH⟩:=jl.w8
       exact⟨c,s,cJ,by rw[hS _ Zo,gQ _ Zo];exact cG,cw,d9,fQ.ab (λe z=>by have:=mH e z;rw[hS e Zo,gQ e Zo]),λe z=>zq (mH e z)⟩,
       λe I J am=>by rw[hS e Zo];exact sa.low e I J am⟩
      have anH:aO X dX (.ptr (j+1+1+1) 0)=some (.ptr (j+1+1) 0):=by rw[co,hS _ Zo,gQ _ Zo, <-co];exact D1
      have ay6:Y X dX (j+1+1)=some (.cells s7 2 .own):=by rw[hS _ Zo,gQ _ Zo];exact eL
      refine gg @t3 @anH (bO ay6) @e7 (bO h7) ⟨?_⟩
      obtain⟨ee,sh,arY,rl⟩:=PO (j:=eB+1+7) (show(o X).a2<=j+1 by omega) lq.map w (.agg (p8 ⟨v.kind,v.d,W,i⟩))
      refine kN sh ?_
      refine cT @vf @cn ⟨?_⟩
      refine⟨gr,Zo,i+1,a7 t3,a7 kz,a7 qQ,a7 p7,kO,a7 hb,a7 Qx,a7 Dv,bw,Zo, ?_,by rw[rl _ Zo,hS _ Zo];exact te⟩
      rw[CN,gm]
      refine⟨Zo, ?_, ?_,λe I J am=>by rw[rl e J];exact lq.low e I J am⟩
      ·have:(λx=>if x=w then some (D.agg (p8 ⟨v.kind,v.d,W,i⟩))else xa pe x)=xa (λx=>if x=w then some ⟨v.kind,v.d,W,i⟩else pe x):=by
        funext x;unfold xa;by_cases a:x=w<;>simp[a]
       rw[<-this];exact arY
      ·obtain⟨c,s,cJ,cG,cw,d9,fQ,mH⟩:=lq.w8
       exact⟨c,s,cJ,by rw[rl _ Zo];exact cG,cw,d9,fQ.ab (λe z=>by have:=mH e z;exact rl e Zo),λe z=>zq (mH e z)⟩
     ·have cF:decide (v.eq<0)=false:=by simp[O4]
      have gm:u9 W pe (w,i)=pe:=by unfold u9;simp only[aF,O4,ZA]
      refine gx (bO eY) @cF @vf @cn ⟨?_⟩
      exact⟨gr,Zo,i+1,a7 t3,a7 kz,a7 qQ,a7 p7,kO,a7 hb,a7 Qx,a7 Dv,bw,Zo,by rw[CN,gm];exact sa,te⟩
end
end
end Go.Proofs.YtpfajohmofnkfaaGreatDoor

