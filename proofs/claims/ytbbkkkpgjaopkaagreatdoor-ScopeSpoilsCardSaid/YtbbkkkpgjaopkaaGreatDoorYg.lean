/- Part of the proof of the last text; no conditions -/
import Derived.Test.YtbbkkkpgjaopkaaGreatDoorYf
import Derived.Orders
set_option maxHeartbeats 8000000
set_option linter.all false
namespace Go.bs
open Go.RowKit (Below)
def ajS{k:List Bool}(a:k.count false=0):∀b∈k,b=true:=by
 intro b al
 cases b with
 |true=>rfl
 |false=>exact absurd al (List.count_eq_zero.1 a)
def auv{ar:Array Oper}(lX:D0 ar.toList 0=true):∀(fuel t:Nat) (ij:Array Bool),ij.size=ar.size->ij.toList.count false=fuel->
 vp ar (λi=>ij.getD i false=true) (Region.linearise.go .any ar fuel t ij []):=by
 intro fuel
 induction fuel with
 |zero=>
  intro t ij aE aA
  simp only[Region.linearise.go,List.reverse_nil]
  refine .nil λi aF=> ?_
  have cJ:i<ij.size:=Zo
  have:=ajS aA ij[i] Zs
  simp[cJ,this]
 |succ fuel aj=>
  intro t ij aE aA
  simp only[Region.linearise.go]
  have Q4:∃i,i<ar.size/\ij.getD i true=false:=by
   have ID:false∈ij.toList:=by
    rw[<-List.count_pos_iff];omega
   obtain⟨i,aF⟩:=Z3.1 ID
   have cJ:i<ij.size:=by have:=(Zb.1 aF).1;simpa using this
   refine⟨i,Zo, ?_⟩
   rw[ZO]at aF
   simp[aF]
  have Df:∃i,i<ar.size/\ij.getD i true=false/\∀Y,Y<i->ij.getD Y false=true:=by
   have key:∀m,(∃i,i<m/\i<ar.size/\ij.getD i true=false)->∃i,i<ar.size/\ij.getD i true=false/\∀Y,Y<i->ij.getD Y false=true:=by
    intro m
    induction m with
    |zero=>rintro⟨i,a,_⟩;omega
    |succ m pU=>
     rintro⟨i,H,K,am⟩
     by_cases ai:∃i,i<m/\i<ar.size/\ij.getD i true=false
     ·exact pU ai
     ·have:i=m:=by
       rcases Y8 i m with a|a
       ·exact absurd ⟨i,a,K,am⟩ ai
       ·omega
      subst this
      refine⟨i,K,am,λY bD=> ?_⟩
      have cJ:Y<ij.size:=Zo
      cases al:ij[Y]with
      |true=>simp[cJ,al]
      |false=>exact absurd ⟨Y,bD,Zo,by simp[cJ,al]⟩ ai
   obtain⟨i,H,K⟩:=Q4
   exact key (i+1) ⟨i,Zo,H,K⟩
  obtain⟨i0,uE,apV,hB⟩:=Df
  have apk:i0∈Region.ready .any ar ij:=by
   rw[mem_ready]
   refine⟨apV,ar[i0],Array.getElem?_eq_getElem uE,λD bt al=> ?_⟩
   have:=asP lX i0 ar[i0] (by rw[ZO];exact Array.getElem?_eq_getElem uE) D (by simpa using bt) al
   exact hB _ Zo
  change vp ar _ (match (Region.ready .any ar ij)[t%(Region.ready .any ar ij).length]? with
   |some i=>Region.linearise.go .any ar fuel (t/(Region.ready .any ar ij).length) (ij.setIfInBounds i true) [i]
   |none=>[].reverse)
  have eO:0<(Region.ready .any ar ij).length:=List.length_pos_of_mem apk
  have cJ:t%(Region.ready .any ar ij).length<(Region.ready .any ar ij).length:=zs _ eO
  rw[Zf cJ]
  simp only[]
  generalize aF:(Region.ready .any ar ij)[t%(Region.ready .any ar ij).length]=i
  have ID:i∈Region.ready .any ar ij:=by rw[<-aF];exact List.getElem_mem cJ
  obtain⟨H,W,K,am⟩:=mem_ready.1 ID
  have axe:i<ar.size:=(ZS.1 K).1
  have jC:i<ij.size:=Zo
  have aal:ij[i]=false:=by simpa[jC]using H
  rw[linearise_go_acc,List.reverse_singleton,List.singleton_append]
  refine .cons K (by simp[jC,aal]) (λD bt al=>am D (by simpa using bt) al) ?_
  have bP:add (λi=>ij.getD i false=true) i=λY=>(ij.setIfInBounds i true).getD Y false=true:=by
   funext Y
   apply propext
   unfold add
   by_cases D:Y=i
   ·subst D;simp[jC]
   ·rw[getD_set_ne false (λai=>D ai.symm)]
    simp[D]
  rw[bP]
  refine aj _ _ (by simpa using aE) ?_
  rw[Array.toList_setIfInBounds,List.count_set (by simpa using jC)]
  have:(ij.toList[i]'(by simpa using jC))=false:=by simpa using aal
  simp[this,aA]
def auw{ar:Array Oper}(lX:D0 ar.toList 0=true)(t:Nat):vp ar (λ_=>False) (Region.schedule true ar t):=by
 simp only[Region.schedule,Bool.true_or,ZE,Region.linearise]
 have:=auv lX ar.size t (Array.replicate ar.size false) Zs Zs
 have D:(λi=>(Array.replicate ar.size false).getD i false=true)=λ_=>False:=by
  funext i
  apply propext
  by_cases a:i<ar.size<;>simp[a]
 rw[D]at this
 exact this
section
variable{C:aT}{J c0 dB:cU}{aa dn dR:Nat->Prop}{h R:M ak}{j au bj:Nat}{w w':World}{n ao:Nat}{ar:Array Oper}
variable{aZ:World}{bA:Nat}{bM:List Frame}{v:y}{aj:hl}
variable{fn:Nat}{bb:List hy}{aR:Bool}{ro:Option Nat}{cs:List gB}{I:M y}{tmps:Array Value}{bq:List Item}{an:List Frame}{bR aF:Nat}
def aqo{op:jM}(aG:mN op= .h2)(aE:BL op=false)(h R:M ak)(aq:List (Nat×y))(I:M y):gM op C h aq I=gM op C R aq I:=by
 cases op<;>simp only[gM]<;>(try rfl)<;>simp[BL]at aE
 case h2 bV W=>cases W<;>simp[BL]at aE<;>rfl
def py.refl(h:M ak):py C h h:=λ_=> .inl rfl
def py.trans{aX aP bf:M ak}(a:py C aX aP)(q:py C aP bf):py C aX bf:=λx=>by
 rcases a x with a|a
 ·rcases q x with q|q
  ·exact .inl (a.trans q)
  ·exact .inr (a.trans q)
 ·exact .inr a
def ach(h:M ak):py C .nil h:=by
 intro b
 unfold Z
 rw[eQ,eQ]
 split
 ·exact .inl rfl
 ·exact .inr rfl
def aj7{base:Nat}(aI:C.aY<=base):∀(k:List fd) (aq:List (Nat×y)) (h:M ak) (hm:List (Nat×y)) (R:M ak),(k.Pairwise λE b=>E.i≠b.i)->(∀x∈k,ed aq x.i=none/\Z C h (base+x.i)=none/\nH x.op=false)->
 vx C base I k aq h=some (hm,R)->Sub aq hm/\py C h R/\(∀i,ed hm i≠none->ed aq i≠none\/∃x∈k,x.i=i)/\(∀b,Z C R b≠Z C h b->∃x∈k,b=base+x.i)/\
 ∀x∈k,∃ab,(∀aa,Kj C aa R base hm I x ab)/\G4 C R hm I x ab:=by
 intro k
 induction k with
 |nil=>
  intro aq h hm R _ _ a
  simp[vx]at a
  obtain⟨rfl,rfl⟩:=a
  exact⟨Sub.refl _,py.refl _,λi a=> .inl a,λb a=>absurd rfl a,Zs⟩
 |cons x k aj=>
  intro aq h hm R ay bW a
  rw[List.pairwise_cons]at ay
  obtain⟨eb,dm⟩:=ay
  obtain⟨Lq,P3,P4⟩:=bW x (Zt ..)
  have step:∀(ab:y) (aX:M ak),py C h aX->(∀b,Z C aX b≠Z C h b->b=base+x.i)->vx C base I k ((x.i,ab)::aq) aX=some (hm,R)->
   (∀hm R,Sub ((x.i,ab)::aq) hm->py C aX R->(Z C aX (base+x.i)≠none->Z C R (base+x.i)=Z C aX (base+x.i))->(∀aa,Kj C aa R base hm I x ab)/\G4 C R hm I x ab)->
   Sub aq hm/\py C h R/\(∀i,ed hm i≠none->ed aq i≠none\/∃iL∈x::k,iL.i=i)/\(∀b,Z C R b≠Z C h b->∃iL∈x::k,b=base+iL.i)/\∀iL∈x::k,∃ab,(∀aa,Kj C aa R base hm I iL ab)/\G4 C R hm I iL ab:=by
   intro ab aX h0 xD aH af
   have o4:Sub aq ((x.i,ab)::aq):=Sub.cons Lq
   have qt:∀iL∈k,ed ((x.i,ab)::aq) iL.i=none/\Z C aX (base+iL.i)=none/\nH iL.op=false:=by
    intro iL qB
    obtain⟨g1,b5,cR⟩:=bW iL (Zn _ qB)
    have cE:=eb iL qB
    refine⟨by rw[qW,Zg cE];exact g1, ?_,cR⟩
    by_cases ai:Z C aX (base+iL.i)=Z C h (base+iL.i)
    ·rw[ai];exact b5
    ·have:=xD _ ai;omega
   obtain⟨bS,ck,cM,eL,eM⟩:=aj _ _ _ _ dm qt aH
   have IH:Z C R (base+x.i)=Z C aX (base+x.i):=by
    by_cases ai:Z C R (base+x.i)=Z C aX (base+x.i)
    ·exact ai
    ·obtain⟨iL,qB,D⟩:=eL _ ai
     exact absurd Zo (eb iL qB)
   refine⟨o4.trans bS,h0.trans ck,λi aF=> ?_,λb al=> ?_,λiL qB=> ?_⟩
   ·rcases cM i aF with H|⟨iL,H,K⟩
    ·rw[qW]at H
     split at H
     ·rename_i D;exact .inr ⟨x,Zt ..,D⟩
     ·exact .inl H
    ·exact .inr ⟨iL,Zn _ H,K⟩
   ·by_cases ai:Z C R b=Z C aX b
    ·rw[ai]at al
     exact⟨x,Zt ..,xD b al⟩
    ·obtain⟨iL,H,K⟩:=eL b ai
     exact⟨iL,Zn _ H,K⟩
   ·rcases Zr.1 qB with rfl|qB
    ·exact⟨ab,af hm R bS ck (λ_=>IH)⟩
    ·exact eM iL qB
  have IH:∀(ab:y) (hm:List (Nat×y)),Sub ((x.i,ab)::aq) hm->ed hm x.i=some ab:=λab hm aE=>aE _ _ (by rw[qW,Zu rfl])
  simp only[vx]at a
  split at a
  ·simp at a
  ·rename_i br
   refine step undef h (py.refl _) (λb al=>absurd rfl al) a λhm R aE aB _=> ?_
   have AL:Sub aq hm:=(Sub.cons Lq).trans aE
   exact⟨λaa=>⟨IH _ _ aE,aq,false,AL,br,λ_=>rfl,Zs⟩,aq, .nil,false,AL,ach _,br,Zs⟩
  ·rename_i br
   cases aG:mN x.op with
   |make=>
    rw[aG]at a
    simp only at a
    split at a
    ·rename_i ab cK bc
     simp only[g5]at a
     have al:C.aY<=base+x.i:=Zo
     refine step ab _ (λb=> ?_) (λb jp=> ?_) a λhm R aE aB Fy=> ?_
     ·rw[fF _ al]
      by_cases D:b=base+x.i
      ·subst D;exact .inr P3
      ·rw[Zg D];exact .inl rfl
     ·rw[fF _ al]at jp
      by_cases D:b=base+x.i
      ·exact D
      ·rw[Zg D]at jp;exact absurd rfl jp
     ·have AL:Sub aq hm:=(Sub.cons Lq).trans aE
      have hC:Z C R (base+x.i)=some cK:=by
       rw[Fy (by rw[fF _ al,Zu rfl];simp),fF _ al,Zu rfl]
      exact⟨λaa=>⟨IH _ _ aE,aq,true,AL,br,Zs,λ_=>⟨P4,λ_=>⟨cK,bc,hC⟩,λai=>by rw[aG]at ai;cases ai⟩⟩,aq,h,true,AL,
       (by
        intro b
        rcases aB b with ai|ai
        ·rw[fF _ al]at ai
         by_cases D:b=base+x.i
         ·subst D;exact .inr P3
         ·rw[Zg D]at ai;exact .inl ai
        ·rw[fF _ al]at ai
         by_cases D:b=base+x.i
         ·subst D;exact .inr P3
         ·rw[Zg D]at ai;exact .inr ai),br,λ_ ai=>by rw[aG]at ai;cases ai⟩
    ·simp at a
   |h2=>
    rw[aG]at a
    simp only at a
    split at a
    ·rename_i ab a6
     refine step ab h (py.refl _) (λb al=>absurd rfl al) a λhm R aE aB _=> ?_
     have AL:Sub aq hm:=(Sub.cons Lq).trans aE
     exact⟨λaa=>⟨IH _ _ aE,aq,true,AL,br,Zs,λ_=>⟨P4,λai=>(by rw[aG]at ai;cases ai),λ_ FO ib=>by rw[aqo aG FO ib h];exact a6⟩⟩,aq,h,true,AL,aB,br,λ_ _=>a6⟩
    ·simp at a
   |e9=>simp[nH,aG]at P4
end
section
variable{C:aT}{J c0 dB:cU}{aa dn dR:Nat->Prop}{h R:M ak}{j au bj:Nat}{w w':World}{n ao:Nat}{ar:Array Oper}
variable{aZ:World}{bA:Nat}{bM:List Frame}{v:y}{aj:hl}
variable{fn:Nat}{bb:List hy}{aR:Bool}{ro:Option Nat}{cs:List gB}{I:M y}{tmps:Array Value}{bq:List Item}{an:List Frame}{bR aF:Nat}
def aj8{aq:List (Nat×y)}:∀(k:List fd),CF C I aq h k=true->∀x∈k,∃b,oy x.g aq=some b/\(b=true->∃ab,gM x.op C h aq I=some ab/\ed aq x.i=some ab):=by
 intro k
 induction k with
 |nil=>intro _ x a;simp at a
 |cons E k aj=>
  intro a x af
  simp only[CF]at a
  split at a
  ·simp at a
  ·rename_i br
   rcases Zr.1 af with rfl|af
   ·exact⟨false,br,Zs⟩
   ·exact aj a x af
  ·rename_i br
   split at a
   ·rename_i ab sN H K
    simp only[Zq]at a
    have:=NJ _ _ _ a.1
    subst this
    rcases Zr.1 af with rfl|af
    ·exact⟨true,br,λ_=>⟨ab,H,K⟩⟩
    ·exact aj a.2 x af
   ·simp at a
def avr{ik:List pz}{q:Nat}{aB:List (f6×fd)}:∃s rest,yb ik q aB=s::rest/\s.tG=s1 q ik/\s.S3=D9 q ik/\
 (match aB with|[]=>s.e9=none/\rest=[]|e::hg=>s.e9=some e.2/\rest=yb ik (q+1) hg):=by
 cases aB with
 |nil=>exact⟨_,_,rfl,rfl,rfl,rfl,rfl⟩
 |cons e aB=>exact⟨_,_,rfl,rfl,rfl,rfl,rfl⟩
def yX{q:Nat}:∀{ik:List pz}{x:fd},x∈s1 q ik↔∃k∈ik,k.bR=q/\k.x=x:=by
 intro ik
 induction ik with
 |nil=>intro x;simp[s1]
 |cons E ik aj=>
  intro x
  simp only[s1,hn]
  by_cases a:E.bR=q
  ·simp only[a,ZE,Zr,aj]
   constructor
   ·rintro(rfl|⟨k,H,K,am⟩)
    ·exact⟨E, .inl rfl,a,rfl⟩
    ·exact⟨k, .inr H,K,am⟩
   ·rintro⟨k,rfl|H,K,am⟩
    ·exact .inl am.symm
    ·exact .inr ⟨k,H,K,am⟩
  ·simp only[a,ZD,aj]
   constructor
   ·rintro⟨k,H,K,am⟩;exact⟨k, .tail _ H,K,am⟩
   ·rintro⟨k,H,K,am⟩
    rcases Zr.1 H with rfl|H
    ·exact absurd K a
    ·exact⟨k,H,K,am⟩
def atS{q:Nat}:∀{ik:List pz}{k:pz},k∈ik->k.bR<q->q<=k.aF->BL k.x.op=true->k.x∈D9 q ik:=by
 intro ik
 induction ik with
 |nil=>intro k a;simp at a
 |cons E ik aj=>
  intro k aB H K am
  simp only[D9,eQ]
  rcases Zr.1 aB with rfl|aB
  ·rw[Zu]
   ·exact Zt ..
   ·have bB:Nat.blt k.bR q=true:=by simp[Nat.blt];omega
    have cp:Nat.ble q k.aF=true:=by simpa using K
    simp[bB,cp,am]
  ·split
   ·exact Zn _ (aj aB H K am)
   ·exact aj aB H K am
def ai5{q:Nat}:∀{ik:List pz},(ik.Pairwise λE b=>E.x.i<b.x.i)->(s1 q ik).Pairwise λE b=>E.i≠b.i:=by
 intro ik
 induction ik with
 |nil=>intro _;simp[s1]
 |cons E ik aj=>
  intro a
  rw[List.pairwise_cons]at a
  simp only[s1,hn]
  split
  ·rw[List.pairwise_cons]
   refine⟨λx af=> ?_,aj a.2⟩
   obtain⟨k,H,_,rfl⟩:=yX.1 af
   have:=a.1 k H;omega
  ·exact aj a.2
def aqS(op:jM):nH op=true/\mN op= .e9\/nH op=false/\(mN op= .h2\/mN op= .make):=by
 unfold nH
 cases mN op<;>simp
def asb(cz:Env C aZ dB dR)(f9:nt C aZ bA bM aj){q:List dG}{base de:Nat}{aq:List (Nat×y)}(Db:bR<=base)(f0:base+ar.size<=j)(gx:C.aY<=base){s:vq}{rest:List vq}
 (cI:match (gw C n ao ar).drop de with|[]=>s.e9=none|e::hg=>s.e9=some e.2/\rest=yb (lP C n ao ar) (de+1) hg)
 (a:(match s.e9 with
    |none=>HN (lb ao ar.toList 0) aq I λI=>aj .run q ⟨fn,n,ao,bb,aR,ro,cs⟩ I h j
    |some a=>(match oy a.g aq with
     |none=>none
     |some w=>bH (w) ((match hz a.op C h j aq I with
       |some r=>n0 r aj C (.yu ar base aq a.i rest (lb ao ar.toList 0)) q ⟨fn,n,ao,bb,aR,ro,cs⟩ I h j
       |none=>none))<|aj .run (.drawn ar base ((a.i,undef)::aq) rest (lb ao ar.toList 0)::q) ⟨fn,n,ao,bb,aR,ro,cs⟩ I h j))=some v):
 ∀(k:List Nat) (J:cU) (aa:Nat->Prop) (w:World) (tmps:Array Value) (db:Nat->Prop),i1 C aZ bA bM fn ao bb aR ro cs h j J aa w bR an->lK C J aa ao q bq->qO C J aa h base n ao ar aq de (de+1) I tmps db->vp ar db k->
  (∀k∈lP C n ao ar,k.bR<de+1->¬db k.x.i->∃ab,ed aq k.x.i=some ab/\G4 C h aq I k.x ab)->Ends C aZ bA bM v (lone (cj J fn bb aR ro tmps (.inRegion ar k::bq) .run) an w):=by
 intro k
 induction k with
 |nil=>
  intro J aa w tmps db aD aG aH aE Ru
  cases aE with
  |nil hA=>
   have LY:(gw C n ao ar).drop de=[]:=by
    cases bG:(gw C n ao ar).drop de with
    |nil=>rfl
    |cons e hg=>
     exfalso
     have B:(gw C n ao ar)[de]? =some e:=by
      have:((gw C n ao ar).drop de)[0]? =some e:=by rw[bG];rfl
      rwa[YC]at this
     have bP:=hA e.1.i (aka aH.st (Zh B)).1
     have:=(aH.done de e B).1 bP
     omega
   rw[LY]at cI
   simp only at cI
   rw[cI]at a
   simp only[Ln,om]at a
   split at a
   ·rename_i cP nC
    refine .head aeb ?_
    have bu:oF J aa ao (λ_=>True) (h9 ar ar.size) aq I tmps:=by
     obtain⟨_,eX,jS⟩:=Ka ar ar.size (Zj _)
     intro t ab _ a6
     apply aH.CE t ab
     split at a6
     ·rename_i Y bD
      obtain⟨g1,b5,cR⟩:=eX t Y bD
      left
      refine⟨Y,hA Y g1,b5,λlB Ix sg=> ?_,a6⟩
      rcases Y8 Y lB with cJ|vW
      ·exact absurd sg (cR lB cJ (aH.wb lB Ix))
      ·exact vW
     ·rename_i bD
      exact .inr ⟨λY Ix=>jS t bD Y (aH.wb Y Ix),a6⟩
    exact f9 _ _ _ _ _ _ _ _ _ _ _ _ v a J aa w bR tmps bq an (aD.state (.plain aG (Xn bu aH.size nC)))
   ·simp at a
 |cons i k nb=>
  intro J aa w tmps db aD aG aH aE Ru
  cases aE with
  |cons bd qy lX uR=>
   rename_i W
   have aF:i<ar.size:=(ZS.1 bd).1
   obtain⟨p,x,o',fs,fC,z3,z4,z5,rE⟩:=xh aH.st i aF
   have aoY:o'=W:=by
    have:=z5.oper
    rw[z4,bd]at this
    exact(Ym this).symm
   subst aoY
   have Mw:=akb aH.st aH.closed aH.wb aH.CE fC bd qy lX
   have Mc:=HC aH.closed (MY fC) (by rw[z3];exact bd) lX
   have aA:=z5
   have bw:=aA.g
   have Dj:=aA.op
   have c3:=aA.reads
   rw[z4]at bw Dj c3
   have xH:∀kn,Sub kn aq->jk J aa (k1 tmps) (jb (h9 ar i) kn I) o'.op.operands.toList:=by
    intro kn o4
    refine Xc (X:=λt=>fi p.r t=true) (λt ab bN a6=>Mw t ab bN ?_) (λt a8=>aty rE a8) c3 aD.hM
    split at a6
    ·exact o4 _ _ a6
    ·exact a6
   have Q9:∀Y b t,o'.guard=some (Y,b)->vB Y (h9 ar i)=some t->fi p.r t=true:=by
    intro Y b t H K
    rw[rE.r,EL,z3]
    have:fi (LB (h9 ar i) o'.guard) t=true:=by
     rw[H]
     simp only[LB,K]
     rw[KN];simp
    rw[this];simp
   have kO:∀(c0:cU) (ab:Value),(cj c0 fn bb aR ro tmps (.inRegion ar (i::k)::bq) .run).finish ab=cj c0 fn bb aR ro (p1 tmps o'.dst ab) (.inRegion ar k::bq) .run:=by
    intro c0 ab
    rw[Lo (g:=cj c0 fn bb aR ro tmps _ .run) rfl bd];rfl
   rcases aqS x.op with ⟨f8,qw⟩|⟨f8,qw⟩
   ·
    have vZ:(p,x)∈gw C n ao ar:=by rw[K0];exact YR.2 ⟨Zh fs,f8⟩
    obtain⟨ai,bG⟩:=Z3.1 vZ
    have apf:ai=de:=by
     rcases YZ ai de with cJ|D|gm
     ·exact absurd ((aH.done ai _ bG).2 cJ) (by simpa only[z3]using qy)
     ·exact D
     ·exfalso
      have eO:ai-1<(gw C n ao ar).length:=zE (Zb.1 bG).1
      have aa8:(gw C n ao ar)[ai-1]? =some ((gw C n ao ar)[ai-1]):=Zf eO
      have φ:=aH.st.chain
      rw[Lp]at φ
      have al:=anQ φ (ai-1) ((gw C n ao ar)[ai-1]).1 p (by rw[Zy,aa8];rfl) (by rw[show ai-1+1=ai by omega,Zy,bG];rfl)
      have bP:=Mc _ al
      have:=(aH.done (ai-1) _ aa8).1 bP
      omega
    subst apf
    have LY:(gw C n ao ar).drop ai=(p,x)::(gw C n ao ar).drop (ai+1):=by
     have cJ:=(Zb.1 bG).1
     rw[ZA cJ,(Zb.1 bG).2]
    rw[LY]at cI
    simp only at cI
    obtain⟨kQ,o1⟩:=cI
    rw[kQ]at a
    simp only at a
    have B:ar[((p,x):f6×fd).1.i]? =some o':=by simp only[z3];exact bd
    split at a
    ·simp at a
    ·rename_i TQ gp
     have su:=N4 (Y0 aF) bw Mw Q9 (Sub.refl aq) gp
     have aaS:¬db ((p,x):f6×fd).1.i:=by simpa only[z3]using qy
     have Mx:x.i=((p,x):f6×fd).1.i:=by simp only[z3,z4]
     cases TQ with
     |false=>
      simp only[kp]at a
      refine .head (Tu bd su) ?_
      rw[kO]
      rw[Mx,o1]at a
      have:=aH.e9 bG B aaS lX (v:=undef) trivial aA.dst
      exact f9 _ _ _ _ _ _ _ _ _ _ _ _ v a J aa w bR _ _ an (aD.state (.drawn aG Db f0 this (by simp only[z3];exact uR)))
     |true=>
      simp only[eW]at a
      split at a
      ·rename_i r V
       have ld:=aae aD.V aD.eS cz.kg (xH aq (Sub.refl aq)) Dj V
       have IS:mA C J aa h bR j n ao I tmps (.yu ar base aq x.i rest (lb ao ar.toList 0)::q) (.inRegion ar (i::k)::bq):=by
        have abr:=mA.drawn (bR:=bR) (aF:=j) (k:=k) aG Db f0 aH bG B aaS lX (by simp only[z3];exact uR)
        simp only[z3]at abr
        rw[o1,z4]
        exact abr
       exact V6 cz f9 aD IS aD.jX (Zj _) bd su ld a
      ·simp at a
   ·
    have aoF:=Zh fs
    have dY:(⟨x,um p.m (qi (gw C n ao ar)),AD p.i (qi (gw C n ao ar))⟩:pz)∈lP C n ao ar:=by
     rw[K2];exact ZC.2 ⟨(p,x),YR.2 ⟨aoF,by simp[f8]⟩,rfl⟩
    have mG:um p.m (qi (gw C n ao ar))<de+1:=by
     have:=ajR p.m (qi (gw C n ao ar)) de (λai e bG fa=>by
      rw[Lp,Zy]at bG
      cases cf:(gw C n ao ar)[ai]? with
      |none=>rw[cf]at bG;cases bG
      |some bo=>
       rw[cf]at bG;cases bG
       cases al:fi p.m bo.1.i with
       |false=>rfl
       |true=>have:=(aH.done ai bo cf).1 (Mc _ al);omega)
     omega
    have FD:¬db x.i:=by rw[z4];exact qy
    obtain⟨ab,IV,IW⟩:=aH.ahead _ dY mG
    obtain⟨uF,kn,b,ζ,Dz,hB,n8⟩:=IW FD
    have su:=N4 (Y0 aF) bw Mw Q9 ζ Dz
    have RB:ar[x.i]? =some o':=by rw[z4];exact bd
    have Rv:∀Ow:Nat->Prop,(∀Y,db Y->Ow Y)->∀k∈lP C n ao ar,k.bR<de+1->¬Ow k.x.i->∃ab,ed aq k.x.i=some ab/\G4 C h aq I k.x ab:=λOw CT cb H K am=>Ru cb H K (λai=>am (CT _ ai))
    have Ih:add db x.i=add db i:=by rw[z4]
    cases b with
    |false=>
     have:ab=undef:=hB rfl
     subst this
     refine .head (Tu bd su) ?_
     rw[kO]
     have jU:=aH.h2 (c0:=J) (dn:=aa) dY mG RB FD lX IV (λ_ _=>rfl) (λ_ a=>a) (λ_ a=> .inl a) (by trivial) aA.dst
     simp only[Ih]at jU
     exact nb J aa w _ _ aD aG jU uR (Rv _ λ_ a=> .inl a)
    |true=>
     obtain⟨_,IE,_⟩:=n8 rfl
     rcases qw with qw|qw
     ·obtain⟨sN,tu,aih,aif,s4,aM,be,bE,b3⟩:=Ru _ dY mG FD
      simp only at tu bE b3
      rw[IV]at tu;cases tu
      have ap2:=N4 (Y0 aF) bw Mw Q9 aM bE
      have f0:s4=true:=by rw[<-ap2,su]
      have Q4:=b3 f0 qw
      have AK:c9 C J aa aif j aZ.heap.size w:=aD.V.Xi be
      obtain⟨a7,b2⟩:=acj AK (xH aih aM) Dj Q4
      refine .head (Eg bd su a7 (.inl rfl)) ?_
      rw[kO]
      have jU:=aH.h2 (c0:=J) (dn:=aa) dY mG RB FD lX IV (λ_ _=>rfl) (λ_ a=>a) (λ_ a=> .inl a) b2 aA.dst
      simp only[Ih]at jU
      exact nb J aa w _ _ aD aG jU uR (Rv _ λ_ a=> .inl a)
     ·obtain⟨cK,bc,hC⟩:=IE qw
      simp only at bc hC
      have oa:¬aa (base+x.i):=λai=>FD (aH.ids x.i (by rw[z4];exact aF) ai)
      obtain⟨oj,m1,fp,il⟩:=acy (w:=w) (J:=J) oa (xH kn ζ) (MW Dj bc)
      have cJ:base+x.i<j:=by rw[z4];omega
      have C0:=aD.V.alloc (au:=j) (R:=h) (b:=base+x.i) Zo cJ (Zj _) oa aD.eS rfl hC (λ_ _=> .inl rfl) il (acz (MW Dj bc))
      have af:is C bR J aa h aZ.heap.size w (gb J (base+x.i) ⟨w.heap.size,0,0⟩) (add aa (base+x.i)) h (w.alloc oj):=
       ⟨qK oa,λ_ a=> .inl a,λe a=>a.elim .inl (λa=> .inr Zo),λ_ _ _=>rfl,Below.alloc (Below.refl _ _) aD.eS _⟩
      refine .head (Eg bd su m1 (.inl rfl)) ?_
      rw[kO, <-Gf af.iJ aD.hL]
      have jU:=aH.h2 (c0:=gb J (base+x.i) ⟨w.heap.size,0,0⟩) (dn:=add aa (base+x.i)) dY mG RB FD lX IV af.iJ af.jw (λ_ a=>a) fp aA.dst
      simp only[Ih]at jU
      exact nb _ _ _ _ _ (aD.ext C0 af (Zj _)) (aG.ad af.iJ af.jw) jU uR (Rv _ λ_ a=> .inl a)
end
section
variable{C:aT}{J c0 dB:cU}{aa dn dR:Nat->Prop}{h R:M ak}{j au bj:Nat}{w w':World}{n ao:Nat}{ar:Array Oper}
variable{aZ:World}{bA:Nat}{bM:List Frame}{v:y}{aj:hl}
variable{fn:Nat}{bb:List hy}{aR:Bool}{ro:Option Nat}{cs:List gB}{I:M y}{tmps:Array Value}{bq:List Item}{an:List Frame}{bR aF:Nat}
def c9.more(V:c9 C J aa h j bj w)(aI:j<=au)(hP:∀b,aa b->Z C R b=Z C h b)(cJ:∀b W,Z C R b=some W->b<au):c9 C J aa R au bj w:=by
 refine⟨ZB V.aY aI,λb a=>ZT (V.lt b a) aI,cJ,λb W a d=>V.obj b W (by rw[<-hP b d];exact a) d,λb cQ W o' a co d lx=>V.sep b cQ W o' (by rw[<-hP b d];exact a) (by rw[<-hP cQ lx];exact co) d lx,λb W al a d=>V.base b W al (by rw[<-hP b d];exact a) d,λb W a d=>V.ez b W (by rw[<-hP b d];exact a) d⟩
def ack(cI:px C n ao ar){k cb:pz}(aB:k∈lP C n ao ar)(hg:cb∈lP C n ao ar)(a:k.x.i=cb.x.i):k=cb:=by
 obtain⟨E,aD⟩:=Z3.1 aB
 obtain⟨b,al⟩:=Z3.1 hg
 obtain⟨If,nD⟩:=Zb.1 aD
 obtain⟨n8,mC⟩:=Zb.1 al
 have ay:=PE cI
 rw[YV]at ay
 rcases YZ E b with cJ|D|gm
 ·have:=ay E b If n8 cJ
  rw[nD,mC]at this;omega
 ·subst D;rw[<-nD,mC]
 ·have:=ay b E n8 If gm
  rw[nD,mC]at this;omega
def WX(cz:Env C aZ dB dR)(f9:nt C aZ bA bM aj){q:List dG}{base de:Nat}{aq:List (Nat×y)}{db:Nat->Prop}{k:List Nat}(aD:i1 C aZ bA bM fn ao bb aR ro cs h j J aa w bR an)
 (aG:lK C J aa ao q bq)(Db:bR<=base)(f0:base+ar.size<=j)(gx:C.aY<=base)(aH:qO C J aa h base n ao ar aq de de I tmps db)(aE:vp ar db k)
 (a:xj aj C ar base aq (yb (lP C n ao ar) de ((gw C n ao ar).drop de)) (lb ao ar.toList 0) q ⟨fn,n,ao,bb,aR,ro,cs⟩ I h j=some v):Ends C aZ bA bM v (lone (cj J fn bb aR ro tmps (.inRegion ar k::bq) .run) an w):=by
 obtain⟨s,rest,bB,cp,fj,jn⟩:=avr (ik:=lP C n ao ar) (q:=de) (aB:=(gw C n ao ar).drop de)
 rw[bB]at a
 simp only[xj]at a
 split at a
 ·simp at a
 ·rename_i hm R dY
  simp only[eF]at a
  obtain⟨Mn,a⟩:=a
  rw[cp]at dY
  rw[fj]at Mn
  have Q7:∀x∈s1 de (lP C n ao ar),ed aq x.i=none/\Z C h (base+x.i)=none/\nH x.op=false:=by
   intro x af
   obtain⟨dv,H,K,rfl⟩:=yX.1 af
   have bu:ed aq dv.x.i=none:=by
    cases bu:ed aq dv.x.i with
    |none=>rfl
    |some ab=>
     exfalso
     rcases aH.keys _ ab bu with ⟨cD,g1,b5,cR⟩|⟨p,e,g1,b5,_⟩
     ·have:=ack aH.st g1 H b5
      subst this;omega
     ·exact MT aH.st H g1 b5.symm
   obtain⟨_,_,cR,_⟩:=K4 H
   exact⟨bu,aH.free _ (K3 aH.st H) bu,cR⟩
  obtain⟨bS,ck,cM,eL,eM⟩:=aj7 gx _ _ _ _ _ (ai5 (PE aH.st)) Q7 dY
  have RO:∀b,aa b->Z C R b=Z C h b:=by
   intro b al
   by_cases ai:Z C R b=Z C h b
   ·exact ai
   ·obtain⟨x,af,D⟩:=eL b ai
    obtain⟨dv,H,K,rfl⟩:=yX.1 af
    have bP:=aH.ids _ (K3 aH.st H) (D▸al)
    have:=aH.tG dv H bP
    omega
  have ml:c9 C J aa R j aZ.heap.size w:=aD.V.more (Zj _) RO (λb W al=>by
   by_cases ai:Z C R b=Z C h b
   ·exact aD.V.u4 b W (by rw[<-ai];exact al)
   ·obtain⟨x,af,D⟩:=eL b ai
    obtain⟨dv,H,K,rfl⟩:=yX.1 af
    have:=K3 aH.st H
    omega)
  have af:is C bR J aa h aZ.heap.size w J aa R w:=⟨λ_ _=>rfl,λ_ a=>a,λ_ a=> .inl a,λb _ cJ=>by
   by_cases ai:Z C R b=Z C h b
   ·exact ai
   ·obtain⟨x,af,D⟩:=eL b ai
    omega,Below.refl _ _⟩
  have xA:=aD.ext ml af (Zj _)
  have sg:qO C J aa R base n ao ar hm de (de+1) I tmps db:=by
   refine⟨aH.st,aH.size,aH.MN,aH.dh,aH.closed,aH.wb,aH.done,λdv H K=>Nat.lt_succ_of_lt (aH.tG dv H K), ?_, ?_, ?_, ?_,aH.ids, ?_⟩
   ·intro i ab a6
    rcases cM i (by rw[a6];simp)with H|⟨x,H,K⟩
    ·cases bu:ed aq i with
     |none=>exact absurd bu H
     |some sN=>
      rcases aH.keys i sN bu with ⟨dv,g1,b5,cR⟩|g
      ·exact .inl ⟨dv,g1,b5,Zo⟩
      ·exact .inr g
    ·obtain⟨dv,g1,b5,rfl⟩:=yX.1 H
     exact .inl ⟨dv,g1,K,Zo⟩
   ·intro p e B ay
    obtain⟨ab,a6⟩:=aH.uF p e B ay
    exact⟨ab,bS _ _ a6⟩
   ·intro dv H K
    by_cases ai:dv.bR=de
    ·obtain⟨ab,g1,b5⟩:=eM dv.x (yX.2 ⟨dv,H,ai,rfl⟩)
     exact⟨ab,(g1 aa).key,λ_=>g1 aa⟩
    ·obtain⟨ab,g1,b5⟩:=aH.ahead dv H Zo
     refine⟨ab,bS _ _ g1,λbP=> ?_⟩
     obtain⟨_,kn,b,ep,fw,dU,eu⟩:=b5 bP
     refine⟨bS _ _ g1,kn,b,ep.trans bS,fw,dU,λal=> ?_⟩
     obtain⟨hf,nz,alF⟩:=eu al
     refine⟨hf,λbc=> ?_,alF⟩
     obtain⟨cK,P6,P7⟩:=nz bc
     refine⟨cK,P6, ?_⟩
     by_cases cH:Z C R (base+dv.x.i)=Z C h (base+dv.x.i)
     ·rw[cH];exact P7
     ·obtain⟨x,af,D⟩:=eL _ cH
      obtain⟨cD,m1,fp,rfl⟩:=yX.1 af
      have:=ack aH.st H m1 Zo
      subst this;omega
   ·intro t ab a6
    apply aH.CE t ab
    rcases a6 with ⟨Y,bP,uz,tr,a6⟩|a6
    ·left
     refine⟨Y,bP,uz,tr, ?_⟩
     have uF:∃sN,ed aq Y=some sN:=by
      rcases WW aH.st Y (aH.wb Y bP)with ⟨dv,g1,b5⟩|⟨p,e,g1,b5⟩
      ·obtain⟨sN,cR,_⟩:=aH.ahead dv g1 (aH.tG dv g1 (by rw[b5];exact bP))
       exact⟨sN,by rw[<-b5];exact cR⟩
      ·obtain⟨sN,cR⟩:=aH.uF p e g1 ((aH.done p e g1).1 (by rw[b5];exact bP))
       exact⟨sN,by rw[<-b5];exact cR⟩
     obtain⟨sN,tu⟩:=uF
     have:=bS _ _ tu
     rw[a6]at this
     cases this
     exact tu
    ·exact .inr a6
   ·intro i aF bu
    have abs:ed aq i=none:=by
     cases bG:ed aq i with
     |none=>rfl
     |some ab=>rw[bS _ _ bG]at bu;cases bu
    by_cases ai:Z C R (base+i)=Z C h (base+i)
    ·rw[ai];exact aH.free i aF abs
    ·obtain⟨x,af,D⟩:=eL _ ai
     obtain⟨ab,g1,_⟩:=eM x af
     have:x.i=i:=Zo
     rw[<-this,(g1 aa).key]at bu
     cases bu
  refine asb cz f9 Db f0 gx (s:=s) (rest:=rest) ?_ a k J aa w tmps db xA aG sg aE ?_
  ·cases bG:(gw C n ao ar).drop de with
   |nil=>rw[bG]at jn;exact jn.1
   |cons e hg=>rw[bG]at jn;exact jn
  ·intro dv H K bP
   by_cases ai:dv.bR=de
   ·obtain⟨ab,g1,b5⟩:=eM dv.x (yX.2 ⟨dv,H,ai,rfl⟩)
    exact⟨ab,(g1 aa).key,b5⟩
   ·obtain⟨ab,g1,b5⟩:=aH.ahead dv H Zo
    refine⟨ab,bS _ _ g1, ?_⟩
    obtain⟨_,kn,b,ep,fw,dU,eu⟩:=b5 bP
    by_cases FO:BL dv.x.op=true
    ·have sk:de<=dv.aF:=by
      obtain⟨p,m1,fp,il,Bk⟩:=K4 H
      obtain⟨_,fs,fC,z3,z4,z5⟩:=xi aH.st m1
      rw[Bk]
      refine aog _ _ _ (by rw[Lp,Zp];exact aH.MN) λai e B cJ=> ?_
      rw[Lp,Zy]at B
      cases cf:(gw C n ao ar)[ai]? with
      |none=>rw[cf]at B;cases B
      |some bo=>
       rw[cf]at B;cases B
       cases al:fi bo.1.m p.i with
       |false=>rfl
       |true=>
        exfalso
        have amS:=(aH.done ai bo cf).2 cJ
        obtain⟨ayF,vh,Cf,awz,awA,aza,TT⟩:=xi aH.st (K1 (Zh cf)).1
        have:=HC aH.closed (Zh awA) TT.oper (aH.closed _ _ TT.oper amS) _ al
        simp only at fC
        rw[<-fC]at this
        exact bP this
     obtain⟨cQ,eA,eU⟩:=aj8 _ Mn dv.x (atS H Zo sk FO)
     refine⟨hm,R,cQ,Sub.refl _,py.refl _,eA,λal _=> ?_⟩
     obtain⟨sN,gr,l4⟩:=eU al
     rw[bS _ _ g1]at l4
     cases l4
     exact gr
    ·have FO:BL dv.x.op=false:=by simpa using FO
     refine⟨kn, .nil,b,ep.trans bS,ach _,fw,λal qw=> ?_⟩
     exact(eu al).2.2 qw FO .nil
def ak1{q:List dG}(id:Nat)(a:lK C J aa ao q bq){ey:List dG}(bt:exitTo id q=some ey):∃hR,Go.exitTo id bq=some hR/\lK C J aa ao ey hR:=by
 induction a with
 |nil=>simp[exitTo]at bt
 |cons H K aj=>
  cases H<;>simp only[exitTo]at bt
  case inBlock tx=>
   rw[hn]at bt
   split at bt
   ·rename_i D
    simp at bt;subst bt
    exact⟨_,by simp[Go.exitTo,D],K⟩
   ·rename_i D
    obtain⟨hR,g1,b5⟩:=aj bt
    have:(tx==id)=false:=by simpa using D
    exact⟨hR,by simp[Go.exitTo,this,g1],b5⟩
  all_goals
   obtain⟨hR,g1,b5⟩:=aj bt
   exact⟨hR,by simp[Go.exitTo,g1],b5⟩
def Xe(hM:rN C J aa){n:Nat}(a8:jl J aa n ao I tmps){x:Operand}{ab:y}(dE:ye C ao [] x=true)(a:vE I x=some ab):k1 tmps x=aO J ab/\b7 aa ab:=by
 cases x with
 |tmp t=>
  simp only[ye,ai3]at dE
  obtain⟨H,K⟩:=a8.val t ab dE a
  exact⟨by simp[k1,H],K⟩
 |const c=>exact Ng a
 |global g=>
  simp[vE]at a;subst a
  simp only[ye]at dE
  obtain⟨g1,b5,cR⟩:=hM g (j4 dE)
  exact⟨by simp[k1,aO,b5,cR],g1⟩
 |func f=>
  simp[vE]at a;subst a
  exact⟨by simp[k1,aO,m4,bO],trivial,trivial,trivial⟩
def oF.start{n:Nat}(a8:jl J aa n ao I tmps):oF J aa ao (λ_=>True) (h9 ar 0) [] I tmps:=by
 intro t ab _ a
 rw[J9]at a
 exact a8.val t ab a.1 a.2
def atX(cz:Env C aZ dB dR)(f9:nt C aZ bA bM aj){q:List dG}{id:Nat}{Ab:Bool}(aD:i1 C aZ bA bM fn ao bb aR ro cs h j J aa w bR an)(aG:lK C J aa ao q bq)(a8:jl J aa n ao I tmps)
 (a:adP ar Ab aj C q ⟨fn,n,ao,bb,aR,ro,cs⟩ I h j=some v):Ends C aZ bA bM v (lone (cj J fn bb aR ro tmps (.code (.region id ar Ab)::bq) .run) an w):=by
 cases Ab with
 |false=>
  have co:S6 n ao ar aj C q ⟨fn,n,ao,bb,aR,ro,cs⟩ I h j=some v:=a
  simp only[S6,om]at co
  split at co
  ·rename_i r V
   obtain⟨rest,fin⟩:=r
   have LF:yn rest ⟨aj,ar,fin,q,⟨fn,n,ao,bb,aR,ro,cs⟩⟩ C I [] h j=some v:=co
   unfold Jt at V
   split at V
   ·rename_i cZ hZ
    simp at V
    obtain⟨rfl,rfl⟩:=V
    refine .head avi ?_
    refine ad1 cz f9 cZ [] h j J aa w tmps _ an aD aG ⟨0,zi _, ?_,hZ,rfl,oF.start a8,a8.size⟩ LF
    rw[List.range_eq_range'];rfl
   ·simp at V
  ·simp at co
 |true=>
  have co:S5 n ao ar aj C q ⟨fn,n,ao,bb,aR,ro,cs⟩ I h j=some v:=a
  simp only[S5,om]at co
  split at co
  ·rename_i r V
   obtain⟨lo,fin⟩:=r
   have LF:qh j (λj=>xj aj C ar j [] lo fin q ⟨fn,n,ao,bb,aR,ro,cs⟩ I h (j+ar.size))=some v:=co
   rw[lT]at LF
   unfold Js at V
   split at V
   ·simp at V
   ·rename_i cZ hZ
    simp only[eF,Zq,Zc]at V
    obtain⟨⟨⟨g1,b5⟩,cR⟩,ep⟩:=V
    have j9:vy C n ao ar=cZ:=by unfold vy;rw[hZ];rfl
    have cI:px C n ao ar:=⟨by rw[j9];exact hZ,g1,b5,by unfold gw;rw[j9];exact cR⟩
    have apM:lo=yb (lP C n ao ar) 0 ((gw C n ao ar).drop 0)/\fin=lb ao ar.toList 0:=by
     have D:=ep
     cases D
     refine⟨?_,rfl⟩
     rw[Z9]
     unfold lP gw
     rw[j9];rfl
    obtain⟨rfl,rfl⟩:=apM
    refine .head avj ?_
    rw[cz.kg.mixed]
    have af:is C bR J aa h aZ.heap.size w J aa h w.drew:=⟨λ_ _=>rfl,λ_ a=>a,λ_ a=> .inl a,λ_ _ _=>rfl,Below.drew (Below.refl _ _)⟩
    have ml:c9 C J aa h (j+ar.size) aZ.heap.size w.drew:=aD.V.drew.more (zo _ _) (λ_ _=>rfl) (λb W al=>ZT (aD.V.u4 b W al) (zo _ _))
    refine WX cz f9 (db:=λ_=>False) (aD.ext ml af (zo _ _)) aG aD.jX (Zj _) aD.V.aY ?_ (auw g1 _) LF
    refine⟨cI,a8.size,zi _,aD.V.aY,λ_ _ _ a=>a.elim,λ_ a=>a.elim,λp e _=>⟨λa=>a.elim,λa=>Zo⟩,λ_ _ a=>a.elim,λi ab a6=>by simp at a6,λp e _ a=>Zo,λdv _ a=>Zo, ?_, ?_, ?_⟩
    ·intro t ab a6
     rcases a6 with ⟨Y,a,_⟩|⟨_,H,K⟩
     ·exact a.elim
     ·exact a8.val t ab H K
    ·intro i _ aH
     have:=aD.V.lt _ aH;omega
    ·intro i _ _
     cases bG:Z C h (j+i)with
     |none=>rfl
     |some W=>have:=aD.V.u4 _ W bG;omega
  ·simp at co
end
end Go.bs

