/- Part of the proof of the last text; no conditions -/
import Derived.Test.YtendhgofocgngaaGreatDoorYp
set_option maxHeartbeats 8000000
set_option linter.all false
namespace Go.Proofs.YtendhgofocgngaaGreatDoor
open Go.bn Go.aT
noncomputable section
def ug(X:co)(h:S ai):(Nat->Prop)->List Go.aT.Node->List (List z)->Prop
 |_,[],bu=>bu=[]
 |P,al::cf,bu=>∃row hi bk,bu=row::hi/\(∀e,bk e->P e)/\ps X h bk al row/\ug X h (λe=>P e/\¬bk e) cf hi
def ps.ad{X:co}{h R:S ai}{P bk:Nat->Prop}{g:Go.aT.Node}{row:List z}(a:ps X h P g row)(o:∀e,P e->Z X R e=Z X h e)(aw:∀e,P e->bk e):ps X R bk g row:=by
 obtain⟨dk,dI,bi,eB,ch,cD,di,f4,bu,B,H,K,ak,ay,be⟩:=a
 exact⟨dk,dI,bi,eB,ch,cD,di,f4,bu,B,(H.ad o).lift aw,(K.ad o).lift aw,(ak.ad o).lift aw,(ay.ad o).lift aw,be.ad o aw⟩
def ps.len{X:co}{h:S ai}{P:Nat->Prop}{g:Go.aT.Node}{row:List z}(a:ps X h P g row):row.length=6:=by
 obtain⟨dk,dI,bi,eB,ch,cD,di,f4,bu,B,_⟩:=a
 subst B;rfl
def ug.ad{X:co}{h R:S ai}:∀{cf:List Go.aT.Node}{bu:List (List z)}{P bk:Nat->Prop}(o:∀e,P e->Z X R e=Z X h e) (aw:∀e,P e->bk e),ug X h P cf bu->ug X R bk cf bu:=by
 intro cf
 induction cf with
 |nil=>intro bu P bk o aw a;exact a
 |cons al cf ag=>
  rintro bu P bk o aw ⟨row,hi,dK,H,bP,K,ak⟩
  exact⟨row,hi,dK,H,λe D=>aw e (bP e D),K.ad (λe D=>o e (bP e D)) (λe D=>D),ag (λe D=>o e D.1) (λe D=>⟨aw e D.1,D.2⟩) ak⟩
def ug.wide{X:co}{h:S ai}:∀{cf:List Go.aT.Node}{bu:List (List z)}{P:Nat->Prop},ug X h P cf bu->bu.length=cf.length/\∀r∈bu,r.length=6:=by
 intro cf
 induction cf with
 |nil=>rintro bu P rfl;simp
 |cons E cf ag=>
  rintro bu P ⟨vs,hi,dK,rfl,bP,K,ak⟩
  obtain⟨ay,be⟩:=ag ak
  refine⟨by simp[ay],λr V=> ?_⟩
  rcases Zr.1 V with rfl|V
  ·exact K.len
  ·exact be r V
def ug.get{X:co}{h:S ai}:∀{cf:List Go.aT.Node}{bu:List (List z)}{P:Nat->Prop},ug X h P cf bu->∀(i:Nat) g,cf[i]? =some g->∃row,bu[i]? =some row/\ps X h P g row:=by
 intro cf
 induction cf with
 |nil=>intro bu P _ i g a;simp at a
 |cons E cf ag=>
  rintro bu P ⟨vs,hi,dK,rfl,bP,K,ak⟩ i g a
  cases i with
  |zero=>simp at a;subst a;exact⟨vs,rfl,K.ad (λ_ _=>rfl) bP⟩
  |succ i=>simp at a;obtain⟨row,ay,be⟩:=ag ak i g a;exact⟨row,by simpa using ay,be.ad (λ_ _=>rfl) (λe D=>D.1)⟩
def vE.get{X:co}{h:S ai}:∀{cf:List eo}{bu:List (List z)}{P:Nat->Prop},vE X h P cf bu->∀(i:Nat) g,cf[i]? =some g->∃row,bu[i]? =some row/\Ai X h P g row:=by
 intro cf
 induction cf with
 |nil=>intro bu P _ i g a;simp at a
 |cons E cf ag=>
  rintro bu P ⟨vs,hi,dK,rfl,bP,K,ak⟩ i g a
  cases i with
  |zero=>simp at a;subst a;exact⟨vs,rfl,K.ad (λ_ _=>rfl) bP⟩
  |succ i=>simp at a;obtain⟨row,ay,be⟩:=ag ak i g a;exact⟨row,by simpa using ay,be.ad (λ_ _=>rfl) (λe D=>D.1)⟩
def ps.hZ{X:co}{h:S ai}{P:Nat->Prop}{g:Go.aT.Node}{row:List z}(a:ps X h P g row):Go.bn.hZ row=true:=by
 obtain⟨dk,dI,bi,eB,ch,cD,di,f4,bu,rfl,H,K,ak,ay,_⟩:=a
 simp[Go.bn.hZ,(mH H.len).2.1,(mH K.len).2.1,(mH ak.len).2.1,(mH ay.len).2.1,show oA (.Z g.at_)=true from rfl,show oA (.str g.name)=true from rfl]
def ui(X:co)(h:S ai)(P:Nat->Prop)(aE:List Go.aT.Node)(v:z):Prop:=∃b bi cj bu,v= .ptr b 0/\P b/\aV X h (.ptr b 0)=some bi/\dZ X h P cj bi 6 bu/\ug X h P aE bu
def ui.ad{X:co}{h R:S ai}{P bk:Nat->Prop}{aE:List Go.aT.Node}{v:z}(a:ui X h P aE v)(o:∀e,P e->Z X R e=Z X h e)(aw:∀e,P e->bk e):ui X R bk aE v:=by
 obtain⟨b,bi,cj,bu,rfl,H,K,ak,ay⟩:=a
 exact⟨b,bi,cj,bu,rfl,aw _ H,zN (o _ H) K,(ak.ad o).lift aw,ay.ad o aw⟩
def pt(X:co)(h:S ai):(Nat->Prop)->List Go.aT.Node->List (List z)->Prop
 |_,[],bu=>bu=[]
 |P,al::cf,bu=>∃row hi bk,bu=row::hi/\(∀e,bk e->P e)/\xs X h bk al row/\pt X h (λe=>P e/\¬bk e) cf hi
def pt.ad{X:co}{h R:S ai}:∀{cf:List Go.aT.Node}{bu:List (List z)}{P bk:Nat->Prop}(o:∀e,P e->Z X R e=Z X h e) (aw:∀e,P e->bk e),pt X h P cf bu->pt X R bk cf bu:=by
 intro cf
 induction cf with
 |nil=>intro bu P bk o aw a;exact a
 |cons al cf ag=>
  rintro bu P bk o aw ⟨row,hi,dK,H,bP,K,ak⟩
  exact⟨row,hi,dK,H,λe D=>aw e (bP e D),K.ad (λe D=>o e (bP e D)) (λe D=>D),ag (λe D=>o e D.1) (λe D=>⟨aw e D.1,D.2⟩) ak⟩
def pt.snoc{X:co}{h:S ai}{bk:Nat->Prop}{al:Go.aT.Node}{row:List z}(a:xs X h bk al row):∀{cf:List Go.aT.Node}{bu:List (List z)}{oP P:Nat->Prop},pt X h oP cf bu->(∀e,oP e->P e)->(∀e,bk e->P e/\¬oP e)->pt X h P (cf++[al]) (bu++[row]):=by
 intro cf
 induction cf with
 |nil=>rintro bu oP P rfl H K;exact⟨row,[],bk,rfl,λe D=>(K e D).1,a,rfl⟩
 |cons E cf ag=>
  rintro bu oP P ⟨vs,hi,dK,rfl,bP,ak,ay⟩ H K
  exact⟨vs,hi++[row],dK,rfl,λe D=>H e (bP e D),ak,ag ay (λe D=>⟨H e D.1,D.2⟩) (λe D=>⟨⟨(K e D).1,λjv=>(K e D).2 (bP e jv)⟩,λo7=>(K e D).2 o7.1⟩)⟩
def pt.wide{X:co}{h:S ai}:∀{cf:List Go.aT.Node}{bu:List (List z)}{P:Nat->Prop},pt X h P cf bu->bu.length=cf.length/\∀r∈bu,r.length=6:=by
 intro cf
 induction cf with
 |nil=>rintro bu P rfl;simp
 |cons E cf ag=>
  rintro bu P ⟨vs,hi,dK,rfl,bP,K,ak⟩
  obtain⟨ay,be⟩:=ag ak
  refine⟨by simp[ay],λr V=> ?_⟩
  rcases Zr.1 V with rfl|V
  ·exact K.row.len
  ·exact be r V
def pt.nodes{X:co}{h:S ai}:∀{cf:List Go.aT.Node}{bu:List (List z)}{P:Nat->Prop},pt X h P cf bu->ug X h P cf bu:=by
 intro cf
 induction cf with
 |nil=>intro bu P a;exact a
 |cons al cf ag=>rintro bu P ⟨row,hi,dK,H,bP,K,ak⟩;exact⟨row,hi,dK,H,bP,K.row,ag ak⟩
def Co(X:co)(h:S ai)(P:Nat->Prop)(aE:List Go.aT.Node)(v:z):Prop:=∃(aj:Nat->Nat) (b:Nat) (bi:z) (cj:Nat) (bu:List (List z)),v= .ptr b 0/\(P b/\aj b=1)/\aV X h (.ptr b 0)=some bi/\iU X h (λe=>P e/\aj e=2) cj bi 6 bu/\pt X h (λe=>P e/\aj e=0) aE bu
def Co.prog{X:co}{h:S ai}{P:Nat->Prop}{aE:List Go.aT.Node}{v:z}(a:Co X h P aE v):ui X h P aE v:=by
 obtain⟨aj,b,bi,cj,bu,rfl,H,K,ak,ay⟩:=a
 exact⟨b,bi,cj,bu,rfl,H.1,K,ak.rd.lift λ_ a=>a.1,ay.nodes.ad (λ_ _=>rfl) λ_ a=>a.1⟩
def Co.ad{X:co}{h R:S ai}{P bk:Nat->Prop}{aE:List Go.aT.Node}{v:z}(a:Co X h P aE v)(o:∀e,P e->Z X R e=Z X h e)(aw:∀e,P e->bk e):Co X R bk aE v:=by
 obtain⟨aj,b,bi,cj,bu,rfl,H,K,ak,ay⟩:=a
 exact⟨aj,b,bi,cj,bu,rfl,⟨aw _ H.1,H.2⟩,zN (o _ H.1) K,(ak.ad λe D=>o e D.1).lift λe D=>⟨aw e D.1,D.2⟩,ay.ad (λe D=>o e D.1) λe D=>⟨aw e D.1,D.2⟩⟩
section
variable{X:co}{h R aU aQ:S ai}{j ap aL bc aH bM:Nat}{aO:List Tok}{i:Nat}
def axc(az:dN X)(eN:vG X){n:Nat}(nK:n<=170000)(j5:aO.length<=100000)(av:iG X h j aH bM aO i){r:Except Int (List Go.aT.Node×List Tok)}(V:nodes n [] (aO.drop i)=some r):
 ba X 18 [.ptr aH 0] h j (λac R ap=>∃aE cC,r= .ok (aE,aO.drop cC)/\Co X R (du j ap) aE ac/\aT X R aH bM aO cC/\cx X [aH] h j R ap) (iT X aH h j r):=by
 refine zJ az (aiE X) ?_
 rw[aiF]
 unfold Ws
 have gL:=av.bf
 have ki:=av.hp
 have hc:=av.ck
 have jL:=av.gY
 refine cY ⟨?_⟩
 have abo:Z X (bp X h j (zG [.a2] 1)) j=zG [.a2] 1:=bz Zo
 have cb:bG X h j (bp X h j (zG [.a2] 1)) (j+1):=dS
 refine fP (λm I R aP=>∃(bi:z) (aE:List Go.aT.Node) (bu:List (List z)) (cw:List Nat) (cC:Nat) (c:Bool),I.g 0=some (.ptr aH 0)/\I.g 3=some (.ptr j 0)/\I.g 4=some (.bool c)/\Z X R j=zG [bi] 1/\f0 X R bi 6 bu.flatten cw/\(∀e∈cw,j+1<=e/\e<aP)/\pt X R (vr (j+1) aP cw) aE bu/\aT X R aH bM aO cC/\cx X [aH] h j R aP/\j+1<=aP/\aE.length+m<=n/\
  (if c then nodes m aE (aO.drop cC)=some r else r= .ok (aE,aO.drop cC)))
  n ⟨.a2,[],[],[],i,true,bt,bt,bt,abo, .inl (.inl ⟨rfl,rfl,rfl⟩),Zs,rfl,av.par.ex cb Zo Zo,cx.of cb,Zh _,Zs,V⟩ ?_
 clear V abo cb
 rintro m I aQ bc ⟨bi,aE,bu,cw,i6,c,t0,t3,t4,uB,rf,l7,Nk,dq,dy,gE,Gs,V⟩
 cases c with
 |false=>
  simp only[Zw,ZA]at V
  subst V
  refine dd @t4 @t3 ⟨?_⟩
  have ss:=Nk.wide
  obtain⟨cj,cR⟩:=rf.OX Zd ss.2 (by rw[ss.1];omega) (d8:=λe=>du j bc e/\e∈cw) (λe D=>by have:=l7 e D;exact⟨⟨Zo,Zo⟩,D⟩)
  exact⟨aE,i6,rfl,⟨λe=>if e=j then 1 else if e∈cw then 2 else 0,j,bi,cj,bu,rfl,⟨⟨Zo,Zo⟩,Zq rfl⟩,by rw[bX uB];rfl,cR.lift λe D=>⟨D.1,(Zg (zC (l7 e D.2))).trans (Zq D.2)⟩,Nk.ad (λ_ _=>rfl) (λe D=>⟨⟨zC D.1,D.2.1⟩,(Zg (zC D.1)).trans (Zg D.2.2)⟩)⟩,dq,dy⟩
 |true=>
  simp only[ZC]at V
  cases m with
  |zero=>simp[nodes]at V
  |succ m=>
  unfold nodes at V
  have fB:=av.go dq dy.le
  obtain⟨bw,b3,er⟩:=f0.one rf
  have ld:aV X aQ (.ptr j 0)=some bi:=by rw[bX uB];rfl
  refine hm @t4 @t3 @t0 @ld ⟨?_⟩
  have qq:∃Ey,Go.aT.node m (aO.drop i6)=some Ey/\(match Ey with
   | .error E=>r= .error E
   | .ok (al,k)=>(match k with
     |[]=>none
     |x::_=>if x.kind=7 then ok (aE++[al]) k else nodes m (aE++[al]) k)=some r):=by
   rcases gi V with ⟨E,H,rfl⟩|⟨al,bQ,H,V⟩
   ·exact⟨_,H,rfl⟩
   ·exact⟨_,H,V⟩
  obtain⟨Ey,H,hf⟩:=qq
  clear V
  have nc:=fB.go (ap:=bc+12) dq Zo
  refine(av6 az eN Zo j5 nc H).mono ?_ (λac R ap a=>by
   obtain⟨E,rfl,rfl,a⟩:=a
   subst hf
   exact⟨E,rfl,rfl,dy.trans (a.down Zo (λb ah=> .inl ah))⟩)
  rintro v3 br bL ⟨g,i3,row,rfl,rfl,Tc,gx,eF⟩
  have jo:=eF.le
  have F8:cx X [aH] h j br bL:=dy.trans (eF.down Zo (λb ah=> .inl ah))
  have Ns:=Tc.row.len
  have tB:=Tc.row.hZ
  obtain⟨jC,fc,fQ,ia,oD,nf,rfl⟩:∃jC fc fQ ia oD nf,row=[jC,fc,fQ,ia,oD,nf]:=by
   match row,Ns with
   |[E,b,c,d,B,f],_=>exact⟨E,b,c,d,B,f,rfl⟩
  have tr:Z X br j=zG [bi] 1:=by rw[eF.ad _ Zo (by simp;omega)];exact uB
  have cF:∀e,j<=e->e<bc->Z X br e=Z X aQ e:=λe H K=>eF.ad e Zo (by simp;omega)
  have aum:aV X br (.ptr j 0)=some bi:=by rw[bX tr];rfl
  refine cq @aum ⟨?_⟩
  refine ka er ?_
  have hY:jN X (bp X br (bc+7) (zG [jC,fc,fQ,ia,oD,nf] 6)) 6 (.slice (bc+7) 0 1 1)=some (1,[jC,fc,fQ,ia,oD,nf]):=qC (bz Zo) (mF _) rfl _
  have ss:=Nk.wide
  have qj:=wb ss.2
  obtain⟨nV,b0,gA,gU,sF,uK,gl⟩:=(rf.ad (R:=bp X br (bc+7) (zG [jC,fc,fQ,ia,oD,nf] 6)) (λe D=>by have:=l7 e D;rw[aJ Zo Zo];exact cF e Zo Zo)).append (j:=bL) Zd hY rfl Zd tB (by rw[qj,ss.1];simp only[ZD,ZY];omega) Zo (λe D=>zC (l7 e D))
  refine kl gU ?_
  obtain⟨ef,ev,f3⟩:=je.one sF
  have fb:∀e,e<bL->e≠bc+7->e∉cw->Z X b0 e=Z X br e:=λe H K ak=>by rw[gl e Zo ak,aJ Zo K]
  have dj:∀e,e<j+1->e∉cw:=λe H K=>zC (l7 e K)
  have xV:Z X b0 j=zG [bi] 1:=by rw[fb _ Zo Zo (dj _ Zo)];exact tr
  refine cY ⟨?_⟩
  refine gr (rC (U:=0) xV Zo Zo ef ev) ?_
  refine cq @t0 ⟨?_⟩
  have eS:∀e,e≠j->∀cN,Z X (bp X b0 j cN) e=Z X b0 e:=λe a cN=>aJ Zo a
  have gy:∀cN,aT X (bp X b0 j cN) aH bM aO i3:=λcN=>gx.ad (by rw[eS _ Zo,fb _ Zo Zo (dj _ Zo)]) (by rw[eS _ Zo,fb _ Zo Zo (dj _ Zo)])
  obtain⟨x,k,aI,yt⟩:∃x k,aO.drop i3=x::k/\(if x.kind=7 then ok (aE++[g]) (aO.drop i3)else nodes m (aE++[g]) (aO.drop i3))=some r:=by
   cases aI:aO.drop i3 with
   |nil=>rw[aI]at hf;cases hf
   |cons x k=>rw[aI]at hf;exact⟨x,k,rfl,hf⟩
  refine ff (λb5=>Z X b5 j=zG [nV] 1/\(∀e,e≠j->Z X b5 e=Z X b0 e)) ⟨by rw[bz Zo];rfl,λe a=>eS e a _⟩ ?_
  rintro b5 ⟨FY,eS⟩
  have adj:aT X b5 aH bM aO i3:=gx.ad (by rw[eS _ Zo,fb _ Zo Zo (dj _ Zo)]) (by rw[eS _ Zo,fb _ Zo Zo (dj _ Zo)])
  refine(ru az Zo adj Zo Zo (fx aI).1).Zm ?_
  rintro agM cp d2 ⟨rfl,eQ⟩
  have rb:=eQ.le
  have eK:∀e,e≠j->e<bL+1->Z X cp e=Z X b0 e:=λe H K=>by rw[eQ.ad e K,eS e H]
  have fin:∀(cZ:db) (c:Bool),cZ.g 0=some (.ptr aH 0)->cZ.g 3=some (.ptr j 0)->cZ.g 4=some (.bool c)->(if c then nodes m (aE++[g]) (aO.drop i3)=some r else r= .ok (aE++[g],aO.drop i3))->∃e6,e6<m+1/\∃(bi:z) (aE:List Go.aT.Node) (bu:List (List z)) (cw:List Nat) (cC:Nat) (c:Bool),cZ.g 0=some (.ptr aH 0)/\cZ.g 3=some (.ptr j 0)/\cZ.g 4=some (.bool c)/\Z X cp j=zG [bi] 1/\f0 X cp bi 6 bu.flatten cw/\(∀e∈cw,j+1<=e/\e<d2)/\pt X cp (vr (j+1) d2 cw) aE bu/\aT X cp aH bM aO cC/\cx X [aH] h j cp d2/\j+1<=d2/\aE.length+e6<=n/\
   (if c then nodes e6 aE (aO.drop cC)=some r else r= .ok (aE,aO.drop cC)):=by
   intro cZ c vo d4 fK ax
   refine⟨m,Zo,nV,aE++[g],bu++[[jC,fc,fQ,ia,oD,nf]],gA,i3,c,vo,d4,fK,by rw[eQ.ad _ Zo];exact FY, .inl ?_, ?_, ?_, ?_, ?_,Zo,by simp;omega,ax⟩
   ·rw[zo,Yt,List.flatten_nil,Z0]
    exact sF.ad λe D=>eK e (by rcases uK e D with rfl|a;omega;have:=l7 e a;omega) (by rcases uK e D with rfl|a;omega;have:=l7 e a;omega)
   ·intro e D
    rcases uK e D with rfl|a
    ·omega
    ·have:=l7 e a;omega
   ·refine pt.snoc (Tc.ad (λe D=> ?_) (λe D=>D)) (Nk.ad (λe D=> ?_) (λe D=>D)) (λe D=> ?_) (λe D=>⟨?_,λo7=>by have:=D.1;have:=o7.2.1;omega⟩)
    ·have H:=D.1;have K:=D.2
     rw[eK e Zo Zo,fb e Zo Zo (λa=>zC (l7 e a))]
    ·have H:=D.1;have K:=D.2.1
     rw[eK e Zo Zo,fb e Zo Zo D.2.2,cF e Zo Zo]
    ·have H:=D.1;have K:=D.2.1
     refine⟨H,Zo,λa=> ?_⟩
     rcases uK e a with rfl|a
     ·omega
     ·exact D.2.2 a
    ·have H:=D.1;have K:=D.2
     refine⟨Zo,Zo,λa=> ?_⟩
     rcases uK e a with rfl|a
     ·omega
     ·have:=l7 e a;omega
   ·exact adj.ex eQ Zo Zo
   ·exact⟨Zo,λb ah bT=>by rw[eK b Zo Zo,fb b Zo Zo (dj b Zo)];exact F8.ad b ah bT⟩
  by_cases aC:x.kind=7
  ·rw[Zq aC]at yt
   simp only[ok,Zf]at yt
   have d:decide (x.kind=7)=true:=by simp[aC]
   refine dd b6.eq_1 @aC ⟨?_⟩
   exact fin _ false (a6 t0) (a6 t3) (gc) yt.symm
  ·rw[Zg aC]at yt
   have d:decide (x.kind=7)=false:=by simp[aC]
   refine dd b6.eq_1 @aC ⟨?_⟩
   exact fin _ true (a6 t0) (a6 t3) (by refine tl ⟨?_⟩;simp[aC]) yt
end
end
end Go.Proofs.YtendhgofocgngaaGreatDoor

namespace Go.Proofs.YtendhgofocgngaaGreatDoor
open Go.bn
noncomputable section
variable (X : co) (h : S ai) (j : Nat) (aj au : bR) (a0 bd ca a3 a4 a5 h2 ih hk : z)
def P3(a:aK)(b c:z)(d:S ai)(e:Nat)(f g:bR):Prop:=
 ar (dv a d .eql 45 true b .cW) λh=>gW h c d e λd e i=>gW h b e i λe i j=>lc h (λb=>ot a d [e] i j b g) i j λd e i=>fa h (hb .not d) e i λd e i=>c5 (λd=>bA (λb c d=>jq b 8 a c λ_ _ e=>jQ e (λ_ a b=>f (.tuple []) a b) λf h=>fJ (λb c d e=>iF c 19 18 λf=>bA (λc d e=>ie (λa c d=>g2 a 19 λe=>b (ab a 19 e) c d) c 17 19 λb f h=>kb f h a d λf=>rS c λh=>ba a 9 [f,h] d e (λ_ a d=>b (ab c 5 f) a d) g) λa=>bb f (a (ab c 20 f) d e) (h (ab c 20 f) d e)) (zL b 17 e 18 f 19 (.Z 0)) c d) λa=>bb d (f (.tuple []) e i) (a (ab (c0 [b,c]) 13 d) e i)) λa=>bb h (a .zT) (a d)
def XC:dm X 9 [a0,bd] h j aj au=P3 X a0 bd h j aj au:=Zk
def XB:c4 X 9 2=true:=Zk
def W5(a:aK)(b:z)(c:S ai)(d:Nat)(e f:bR):Prop:=
 Fa d a c λc d g=>ba a 21 [b] d g (λd g h=>Ff d λd=>bA (λb c d=>jq b 0 a c λ_ _ g=>jQ g (λb c d=>ar (fv [.Z 0, .Z 0] []) λf=>n0 b 2 a c 2 f λa b=>e b a d) λh i=>fJ (λb c d g=>iF c 15 14 λh=>bA (λc d g=>ie (λa c d=>g2 a 15 λe=>b (ab a 15 e) c d) c 15 13 λb h i=>cl (c 15) λj=>qJ 6 i j a d λi=>HJ g a d λd g j=>ar (eI a g 6 d i) λg=>eO c λi=>xm a g 6 d 7 j f λg j k=>gm a j k (.map k) (.map [] 0) λj k l=>ar (fv [.cW, .Z 0, .cW, .mf, .Z 0, .Z 0] [(0,1,i),(1,1,h),(2,1,g),(3,1,j)]) λg=>kd a k l g λg i j=>ba a 22 [g] i j (λ_ f i=>l5 g 4 λj=>eM 0 j a f λ_ j=>Ff j λj=>bA b λb=>bb j (l5 g 4 λb=>ar (ep a f 2 b) λb=>n0 c 2 a f 2 b λa b=>e b a i) (b (zM c 4 d 3 h 5 g 34 j) f i)) f) λa=>bb h (a (ab c 16 h) d g) (i (ab c 16 h) d g)) (zL b 13 g 14 h 15 (.Z 0)) c d) λf=>bb d (ar (fv [.Z 0, .Z 0] [(0,1, .Z 1)]) λb=>xl a g 2 c b λa b=>e b a h) (f (zK (c0 [b]) 2 c 8 d) g h)) f
def aj7:dm X 6 [a0] h j aj au=W5 X a0 h j aj au:=Zk
def aj6:c4 X 6 1=true:=Zk
def Wu(a:aK)(b:z)(c:S ai)(d:Nat)(e f:bR):Prop:=
 ar (dv a c .eql 23 true b .cW) λg=>gW g b c d λc d h=>Fg g c d h 0 a λc d h=>fa g (eT c) d h λc d h=>fa g (bm .eql c (.Z 0)) d h λc d h=>c5 (λc=>gW c b d h λd g h=>Fg c d g h 0 a λd g h=>fa c (eT d) g h λd g h=>fa c (bm .gtr d (.Z 64)) g h λd g h=>c5 (λc=>bA (λb c d=>jq b 0 a c λ_ _ g=>jQ g (λa b c=>cl (a 3) λa=>e a b c) λh i=>fJ (λb c d g=>iF c 30 29 λh=>bA (λc d g=>ie (λa c d=>g2 a 30 λe=>b (ab a 30 e) c d) c 28 30 λb h i=>qJ 6 h i a d λh=>HJ g a d λd g i=>xl a g 6 d h λg h=>ba a 39 [h] g i (λa f g=>bA b λb=>rN a 1 b λb h=>bb b (e a f g) (rN a 22 h λe h=>bb e (h (zK (zM c 5 d 6 a 36 a 37 b) 40 e 3 a) f g) (h (ab (zM c 5 d 6 a 36 a 37 b) 40 e) f g))) f) λa=>bb h (a (ab c 31 h) d g) (i (ab c 31 h) d g)) (zM b 3 (.Z 0) 28 g 29 h 30 (.Z 0)) c d) λa=>bb c (e (.Z 1) g h) (a (zK (c0 [b]) 2 (.Z 0) 24 c) g h)) λa=>bb c (a .zT) (a d)) λa=>bb g (a .zT) (a c)
def aiJ:dm X 21 [a0] h j aj au=Wu X a0 h j aj au:=Zk
def aiI:c4 X 21 1=true:=Zk
def agb(a:aK)(b:bR):fS:=λc d e=>pi a [] b c c.bg d e
def Em(a:aK)(b c:bR):s6:=λd e f g=>wZ a [] b c d e d.bg f g
def Wv(a:aK)(b:z)(c:S ai)(d:Nat)(e f:bR):Prop:=
 kd a c d b λc d g=>fs (g+15) λh=>ar (aV a d c) λi=>gs i 0 a d λ_ i=>gs i 0 a d λ_ i=>ar (aV a d c) λj=>gs j 1 a d λ_ j=>qJ 6 i j a d λi=>ar (kK [.str [], .Z 0, .a2, .a2, .a2, .a2] (g+13)) λj=>me a d (g+13) j.1 j.2 λd g=>ar (eI a g 6 d i) λg=>fs (h+12) λh=>ar (aV a g c) λi=>gs i 0 a g λ_ i=>eM 0 d a g λ_ j=>ba a 40 [i,j] g h (λg h i=>jR g λg _=>ar (aV a h c) λj=>gs j 1 a h λ_ j=>ar (bm .lss g j) λj=>bA (λb c d=>k2 b 1 a c λg=>rP b 2 a c 6 λh=>ba a 42 [g,h] c d (λ_ c d=>kc b 2 5 a c λ_ g=>jQ g (λb c d=>rP b 2 a c 6 λg=>ba a 23 [g] c d (λc d g=>bA (λb c d=>agb a e b c d) λh=>Eu a 103 c [85,86] (sU a (λ_ _ b _ _ c d e=>cl (c 85) λf=>Cd e a d λd e g=>cl (c 86) λh=>ar (eI a e 8 d h) λa=>b (zK c 10 f 11 d) a g) λ_ b c _ _ d e f=>bA c λc=>fs (f+12) λf=>cl (d 10) λg=>ar (bm .neq g (.Z 1)) λg=>N9 g (d 1) (λb=>aV a e b) e λe h=>lw g (pn e) h λe h=>lw g (iq 3 e) h λe h=>lw g (aV a h e) h λe h=>N9 g (d 11) (λa=>iq 0 a) h λh i=>lw g (aV a i h) i λh i=>lw g (l2 a i 9 (.Z 0) e h false) i λe h=>lw g (bm .eql e (.Z 0)) h λe h=>c5 (λe=>bA c λc=>bb e (k2 d 1 a h λg=>kc d 11 1 a h λ_ i=>ba a 41 [g, .Z 37,i] h f (λ_ a b=>c (ab d 98 e) a b) (b (h3 [99,100,101,102] (ab d 98 e)))) (c (ab d 98 e) h f)) λa=>bb g (a e) (a .zF)) h (CM 4 h λ_ _ _ _=>False) (agb a e) (Em a e f) (ab b 84 c) d g) (Em a e f (h3 [83,84] b))) λh i=>fJ (λb c d g=>iF c 51 50 λh=>bA (λc d g=>ie (λa c d=>g2 a 51 λe=>b (ab a 51 e) c d) c 49 51 λb h i=>Lk h i a d g 0 λd g h i=>jQ i (λc d g=>k2 c 1 a d λh=>kc c 6 3 a d λ_ i=>ba a 44 [h,i] d g (λ_ a d=>b c a d) (Em a e f (h3 [78,79,80,81] c))) λb j=>fJ (λb c d g=>iF c 58 57 λh=>bA (λc d g=>ie (λa c d=>g2 a 58 λe=>b (ab a 58 e) c d) c 58 56 λb h i=>cl (c 58) λj=>kb i j a d λi=>kc c 6 1 a d λ_ j=>ar (eT j) λj=>ar (bm .lss h j) λj=>bA (λc d g=>k2 c 1 a d λh=>fR c 8 9 λi j=>ba a 43 [h,i,j] d g (λ_ a d=>b c a d) (Em a e f (h3 [73,74,75,76] c))) λb=>bb j (kc c 6 1 a d λ_ e=>kb e h a d λa=>b (ab (zM c 7 h 8 i 9 (.Z 0) 67 j) 9 a) d g) (b (zM c 7 h 8 i 9 (.Z 0) 67 j) d g)) λa=>bb h (a (ab c 59 h) d g) (j (ab c 59 h) d g)) (zM c 6 d 56 i 57 b 58 (.Z 0)) h g) λa=>bb h (a (ab c 52 h) d g) (i (ab c 52 h) d g)) (zL b 49 g 50 h 51 (.Z 0)) c d) (Em a e f (h3 [45,46,47] b))) λk=>bb j (ar (aV a h c) λl=>eM 1 d a h λ_ m=>ba a 41 [l, .Z 24,m] h i (λ_ a e=>k (zM (c0 [b]) 1 c 2 d 3 g 40 j) a e) (Em a e f (h3 [41,42,43,44] (zM (c0 [b]) 1 c 2 d 3 g 40 j)))) (k (zM (c0 [b]) 1 c 2 d 3 g 40 j) h i)) (Em a e f (h3 [26,27,28,29,30,31,32,25,33,34,3,4] (zK (c0 [b]) 1 c 2 d)))
def aiL:CS X 22 [a0] h j aj au=Wv X a0 h j aj au:=Zk
def aiK:c4 X 22 1=true:=Zk
def Ww(a:aK)(b:z)(c:S ai)(d:Nat)(e _:bR):Prop:=
 kd a c d b λa b c=>e (.func (.func 45) [] [a]) b c
def aiN:dm X 23 [a0] h j aj au=Ww X a0 h j aj au:=Zk
def aiM:c4 X 23 1=true:=Zk
def WN(a:aK)(b c:z)(d:S ai)(e:Nat)(f g:bR):Prop:=
 kd a d e c λd e h=>ar (dv a e .eql 23 true b .cW) λi=>bA (λb c d=>jq b 0 a c λ_ _ e=>cl (b 3) λb=>ba a 73 [e, .func (.func 74) [] [b]] c d (λb c d=>ar (qR a c .max [3,3] [b, .Z 0]) λa=>Fe b λb=>f (.tuple [a,b]) c d) g) λa=>bb i (f (.tuple [.Z 0, .zF]) e h) (a (zM (c0 [b,c]) 3 d 4 (.Z 0) 5 .zF 8 i) e h)
def ajj:dm X 40 [a0,bd] h j aj au=WN X a0 bd h j aj au:=Zk
def aji:c4 X 40 2=true:=Zk
def WL(a:aK)(b:z)(c:S ai)(d:Nat)(e f:bR):Prop:=
 kd a c d b λc d g=>eM 2 c a d λ_ h=>ar (eT h) λh=>eM 3 c a d λ_ i=>HL i h λh=>eM 4 c a d λ_ i=>HL i h λh=>eM 0 c a d λ_ i=>ba a 67 [i] d g (λd g i=>ar (hb .not d) λd=>qI d 3 c g i a λg i j=>fa d (eT g) i j λg i j=>fa d (bm .eql g (.Z 0)) i j λg i j=>c5 (λd=>gW d h i j λg i j=>fa d (bm .gtr g (.Z 256)) i j λg i j=>c5 (λd=>qI d 5 c i j a λg i j=>fa d (eT g) i j λg i j=>fa d (bm .gtr g (.Z 4096)) i j λg i j=>c5 (λd=>qI d 2 c i j a λg i j=>qI d 3 c i j a λi j k=>qI d 4 c j k a λj k l=>lc d (λb=>ar (hz 3 [.a2, .a2, .a2] [(0,1,g),(1,1,i),(2,1,j)] l) λc=>gm a k l c.1 c.2 λa c d=>b a c d) k l λg i j=>lc d (λb=>ba a 69 [g] i j b f) i j λg i j=>lc d (λb=>ba a 68 [g] i j b f) i j λg i j=>fa d (hb .not g) i j λg i j=>c5 (λd=>bA (λb c d=>kc b 1 5 a c λ_ g=>jQ g (λa b c=>kp a λa=>e a b c) λh i=>fJ (λb c d g=>iF c 55 54 λh=>bA (λc d g=>ie (λa c d=>g2 a 55 λe=>b (ab a 55 e) c d) c 53 55 λb h i=>Lk h i a d g 3 λd g h i=>ba a 71 [i] h g (λg h i=>eM 0 d a h λ_ j=>ar (eT j) λj=>HM j λj=>qI j 0 d h i a λh i k=>gW j (.func (.func 70) [] []) i k λi k l=>lc j (λb=>ba a 72 [h,i] k l b f) k l λa f h=>c5 (λa=>gW a g f h λf h i=>fa a (bm .eql f (.Z 1)) h i λf h i=>c5 (λa=>bA (λa c d=>cl (a 8) λe=>Ff e λe=>bA b λb=>bb e (cl (a 8) λf=>b (zK a 77 e 4 f) c d) (b (ab a 77 e) c d)) λb=>bb a (e (.Z 1) h i) (b (zM c 6 d 7 (.func (.func 70) [] []) 8 g 75 a) h i)) λb=>bb a (b .zT) (b f)) λb=>bb j (b .zT) (b a)) f) λa=>bb h (a (ab c 56 h) d g) (i (ab c 56 h) d g)) (zM b 4 (.Z 0) 53 g 54 h 55 (.Z 0)) c d) λa=>bb d (e (.Z 1) i j) (a (zM (c0 [b]) 1 c 2 (.Z 0) 3 h 51 d) i j)) λa=>bb d (a .zT) (a g)) λa=>bb d (a .zT) (a g)) λa=>bb d (a .zT) (a g)) λa=>bb d (a .zT) (a g)) f
def ajf:dm X 39 [a0] h j aj au=WL X a0 h j aj au:=Zk
def aje:c4 X 39 1=true:=Zk
def WK(a:aK)(b:z)(c:S ai)(d:Nat)(e f:bR):Prop:=
 ba a 64 [b,.Z 201] c d e f
def ajd:dm X 37 [a0] h j aj au=WK X a0 h j aj au:=Zk
def ajc:c4 X 37 1=true:=Zk
def WO(a:aK)(b c d:z)(e:S ai)(f:Nat)(g _:bR):Prop:=
 l5 b 4 λh=>Fb h a e 0 λh=>bA (λ_ a b=>g (.tuple []) a b) λg=>bb h (ar (fv [.Z 0, .Z 0] [(0,1,c),(1,1,d)]) λi=>l5 b 4 λj=>ar (eI a e 2 j i) λa=>g (ab (c0 [b,c,d]) 11 h) a f) (g (ab (c0 [b,c,d]) 11 h) e f)
def ajl:dm X 41 [a0,bd,ca] h j aj au=WO X a0 bd ca h j aj au:=Zk
def ajk:c4 X 41 3=true:=Zk
def UU(a:aK)(b:bR):fS:=λc d e=>pi a [] b c c.bg d e
def ON(a:aK)(b c:bR):s6:=λd e f g=>wZ a [] b c d e d.bg f g
def WP(a:aK)(b c:z)(d:S ai)(e:Nat)(f g:bR):Prop:=
 kd a d e b λd e h=>kd a e h c λe h i=>gm a h i (.map i) (.map [] 0) λh i j=>ar (kK [.mf] j) λk=>gm a i j k.1 k.2 λi j k=>nt a j i h λh=>ar (ep a h 6 e) λj=>ba a 23 [j] h k (λh j k=>bA (λb c d=>rP b 3 a c 6 λe=>ba a 23 [e] c d (λc d e=>bA (λb c d=>UU a f b c d) λh=>Eu a 54 c [31,32] (sU a (λ_ _ b _ _ c d e=>Cd e a d λd e f=>cl (c 32) λg=>ar (eI a e 8 d g) λa=>b (ab c 8 d) a f) λ_ b c _ _ d e f=>bA c λc=>fs (f+13) λg=>Ae d 2 a e 2 λh=>kc d 8 5 a e λ_ i=>PD f 10 a e λe f=>ba a 25 [h,i] f g (λf g h=>jR f λf i=>ar (eI a g 11 e f) λe=>ar (hb .not i) λf=>aei f (d 8) (λa=>iq 5 a) e h λe g h=>eH f (aV a g e) g h λe g h=>eH f (dv a g .neq 9 true e (.str [])) g h λe g h=>c5 (λe=>bA c λc=>bb e (k2 d 2 a g λf=>kc d 8 6 a g λ_ j=>ba a 41 [f, .Z 23,j] g h (λ_ a b=>c (zK d 10 i 49 e) a b) (b (h3 [50,51,52,53] (zK d 10 i 49 e)))) (c (zK d 10 i 49 e) g h)) λa=>bb f (a e) (a .zF)) (b (h3 [34,35,36,37,38,39,40,33,41,42,9,10] d))) h (CM 2 h λ_ _ _ _=>False) (UU a f) (ON a f g) (ab b 30 c) d e) (ON a f g (h3 [29,30] b))) λl=>Eu a 54 h [14,15] (sU a (λ_ _ b _ _ c d e=>cl (c 14) λf=>Cd e a d λd e g=>cl (c 15) λh=>ar (eI a e 8 d h) λa=>b (zK c 5 f 6 d) a g) λ_ b c _ _ d e f=>bA c λc=>k2 d 4 a e λg=>kc d 6 0 a e λ_ h=>ar (l2 a e 9 (.Z 0) g h false) λg=>ar (bm .gtr g (.Z 0)) λg=>bA (λb d e=>k2 b 4 a d λf=>kc b 6 0 a d λ_ g=>cl (b 5) λh=>iA (BL a d e 9 f g h) d e λ_ a d=>c b a d) λc=>bb g (k2 d 2 a e λh=>kc d 6 1 a e λ_ i=>ba a 41 [h, .Z 24,i] e f (λ_ a b=>c (ab d 20 g) a b) (b (h3 [21,22,23,24] (ab d 20 g)))) (c (ab d 20 g) e f)) l (CM 0 l λ_ _ _ _=>False) (UU a f) (ON a f g) (zM (c0 [b,c]) 2 d 3 e 4 i 13 h) j k) (ON a f g (h3 [12,13] (zL (c0 [b,c]) 2 d 3 e 4 i)))
def ajn:CS X 42 [a0,bd] h j aj au=WP X a0 bd h j aj au:=Zk
def ajm:c4 X 42 2=true:=Zk
def WQ(a:aK)(b c d:z)(e:S ai)(f:Nat)(g h:bR):Prop:=
 gs b 2 a e λ_ i=>ba a 25 [i,c] e f (λe f i=>jR e λe j=>HH i a f λf i k=>ar (eI a i 11 f e) λe=>gs b 3 a e λ_ i=>ar (l2 a e 9 (.Z 0) i c false) λl=>Ce l λl=>iA (BL a e k 9 i c l) e k λ_ e i=>bA (λ_ a b=>g (.tuple []) a b) λg=>xn j g λg k=>bb g (ba a 41 [b, .Z 23,d] e i (λ_ a e=>k (zL (c0 [b,c,d]) 6 f 7 j 24 g) a e) h) (Fb f a e 1 λl=>gW l b e i λe i m=>Fg l e i m 3 a λe i m=>gW l c i m λi m n=>fa l (l2 a m 9 (.Z 0) e i false) m n λe i m=>fa l (bm .gtr e (.Z 1)) i m λe i m=>c5 (λe=>bA k λk=>bb e (ba a 41 [b, .Z 24,d] i m (λ_ a h=>k (zM (c0 [b,c,d]) 6 f 7 j 24 g 30 e) a h) h) (k (zM (c0 [b,c,d]) 6 f 7 j 24 g 30 e) i m)) λa=>bb l (a .zT) (a e))) h
def ajp:dm X 43 [a0,bd,ca] h j aj au=WQ X a0 bd ca h j aj au:=Zk
def ajo:c4 X 43 3=true:=Zk
def WR(a:aK)(b c:z)(d:S ai)(e:Nat)(f g:bR):Prop:=
 kd a d e b λb d e=>ba a 9 [c, .func (.func 75) [] [b]] d e (λ_ a b=>f (.tuple []) a b) g
def ajr:dm X 44 [a0,bd] h j aj au=WR X a0 bd h j aj au:=Zk
def ajq:c4 X 44 2=true:=Zk
def WS(a:aK)(b c:z)(d:S ai)(e:Nat)(f g:bR):Prop:=
 eM 2 c a d λ_ h=>eM 3 c a d λ_ i=>eM 4 c a d λ_ j=>ar (fv [.a2, .a2, .a2] [(0,1,h),(1,1,i),(2,1,j)]) λh=>bA (λ_ a b=>f (.tuple []) a b) λi=>fJ (λb c d e=>cl (c 14) λh=>ar (bm .lss h (.Z 3)) λh=>bA (λc d e=>ie (λa c d=>g2 a 14 λe=>b (ab a 14 e) c d) c 14 13 λb h i=>cl (c 14) λj=>ar (yD false 3 1 i j) λi=>ar (eT i) λj=>bA b λb=>fJ (λc d e h=>iF d 20 19 λi=>bA (λb d e=>ie (λa b d=>g2 a 20 λe=>c (ab a 20 e) b d) b 18 20 λc h i=>qJ 8 h i a d λh=>Cd e a d λd e i=>ar (eI a e 8 d h) λe=>fR b 0 3 λh j=>ar (bm .add (.Z 1) j) λj=>ar (ep a e 8 d) λk=>ot a h [j,k] e i (λa e g=>xn a c λa c=>bb a (f (.tuple []) e g) (c (zK b 6 d 29 a) e g)) g) λa=>bb i (a (ab d 21 i) e h) (b (ab d 21 i) e h)) (ab (zM c 3 h 4 i 18 i 19 j) 20 (.Z 0)) d e) λa=>bb h (a (ab c 15 h) d e) (i (ab c 15 h) d e)) (zK (c0 [b,c]) 13 h 14 (.Z 0)) d e
def ajt:dm X 45 [a0,bd] h j aj au=WS X a0 bd h j aj au:=Zk
def ajs:c4 X 45 2=true:=Zk
def Xk(a:aK)(b c:z)(d:S ai)(e:Nat)(f g:bR):Prop:=
 jQ b (λ_ a b=>f (.Z (-1)) a b) λh i=>fJ (λb c d e=>iF c 8 7 λh=>bA (λc d e=>ie (λa c d=>g2 a 8 λe=>b (ab a 8 e) c d) c 8 1 λb h i=>eO c λj=>qJ 6 j h a d λj=>ot a i [j] d e (λa d e=>bA b λb=>bb a (f h d e) (b (zK c 5 h 16 a) d e)) g) λa=>bb h (a (ab c 9 h) d e) (i (ab c 9 h) d e)) (zL (c0 [b,c]) 4 (.Z 0) 7 h 8 (.Z 0)) d e
def akf:dm X 73 [a0,bd] h j aj au=Xk X a0 bd h j aj au:=Zk
def ake:c4 X 73 2=true:=Zk
def Xl(a:aK)(b c:z)(d:S ai)(e:Nat)(f _:bR):Prop:=
 kd a d e b λb d e=>eM 0 b a d λ_ b=>ar (aV a d c) λc=>ar (dv a d .eql 9 false b c) λa=>f a d e
def akh:dm X 74 [a0,bd] h j aj au=Xl X a0 bd h j aj au:=Zk
def akg:c4 X 74 2=true:=Zk
def Xd(a:aK)(b:z)(c:S ai)(d:Nat)(e f:bR):Prop:=
 ar (dv a c .eql 9 true b (.str [])) λg=>gW g b c d λc d h=>fa g (mI c) d h λc d h=>fa g (bm .gtr c (.Z 32)) d h λc d h=>c5 (λc=>gW c b d h λd g h=>fa c (nQ d (.Z 0)) g h λd g h=>fa c (bm .geq d (.int .u8 48)) g h λd g h=>gW c d g h λd g h=>j6 d b g h λg h i=>eH d (nQ g (.Z 0)) h i λg h i=>eH d (bm .leq g (.int .u8 57)) h i λg h i=>lc c (λa=>c5 (λb=>a b h i) λa=>bb d (a g) (a .zF)) h i λd g h=>c5 (λc=>gW c b g h λd g h=>gW c (.func (.func 105) [] []) g h λg h i=>lc c (λb=>ba a 106 [d,g] h i b f) h i λd g h=>fa c (bm .geq d (.Z 0)) g h λd g h=>c5 (λc=>bA (λb c d=>ar (aV a c (.ptr 2 0)) λg=>eO b λh=>ba a 47 [g,h] c d (λc d g=>ar (hb .not c) λc=>ou c (b 0) d g λb d g=>md c (λc=>ba a 107 [b] d g c f) d g λa b d=>eH c (hb .not a) b d λa b d=>c5 (λa=>e a b d) λb=>bb c (b a) (b .zF)) f) λa=>bb c (e .zF g h) (a (zL (c0 [b]) 2 .zF 3 (.func (.func 105) [] []) 26 c) g h)) λa=>bb c (a .zT) (a d)) λa=>bb c (a .zT) (a d)) λa=>bb g (a .zT) (a c)
def aj1:dm X 67 [a0] h j aj au=Xd X a0 h j aj au:=Zk
def aj0:c4 X 67 1=true:=Zk
def Xe(a:aK)(b:z)(c:S ai)(d:Nat)(e f:bR):Prop:=
 jQ b (λ_ a b=>e .zT a b) λg h=>fJ (λb c d g=>iF c 7 6 λi=>bA (λc d g=>ie (λa c d=>g2 a 7 λe=>b (ab a 7 e) c d) c 5 7 λb h i=>qJ 8 h i a d λh=>Cd g a d λd g i=>ar (eI a g 8 d h) λg=>eM 0 d a g λ_ h=>ba a 67 [h] g i (λg h i=>ar (hb .not g) λg=>fa g (iq 2 d) h i λh i j=>fa g (ep a i 3 h) i j λh i j=>lc g (λb=>ba a 108 [h] i j b f) i j λh i j=>fa g (dv a i .eql 9 true h (.str [])) i j λh i j=>c5 (λg=>qI g 5 d i j a λh i j=>fa g (dv a i .neq 9 true h (.str [])) i j λh i j=>gW g h i j λh i j=>uc h 5 d i j a λi j k=>md h (λb=>ba a 67 [i] j k b f) j k λf i j=>eH h (hb .not f) i j λf i j=>lc g (λa=>c5 (λb=>a b i j) λa=>bb h (a f) (a .zF)) i j λf h i=>c5 (λf=>qI f 5 d h i a λg h i=>fa f (dv a h .eql 9 true g (.str [])) h i λg h i=>gW f g h i λg h i=>uc g 7 d h i a λa h i=>lc f (λb=>c5 (λa=>b a h i) λb=>bb g (b a) (b .zF)) h i λa g h=>c5 (λa=>bA b λb=>bb a (e .zF g h) (b (zK c 4 d 40 a) g h)) λb=>bb f (b .zT) (b a)) λa=>bb g (a .zT) (a f)) λa=>bb g (a .zT) (a h)) f) λa=>bb i (a (ab c 8 i) d g) (h (ab c 8 i) d g)) (zM (c0 [b]) 2 .zF 5 b 6 g 7 (.Z 0)) c d
def aj3:dm X 68 [a0] h j aj au=Xe X a0 h j aj au:=Zk
def aj2:c4 X 68 1=true:=Zk
def Xf(a:aK)(b:z)(c:S ai)(d:Nat)(e f:bR):Prop:=
 jQ b (λb c d=>cl (b 3) λg=>ba a 109 [.a2,g] c d (λc d f=>eO b λg=>jQ g (λa b c=>cl (a 6) λa=>e a b c) λe h=>fJ (λb c d e=>iF c 27 26 λf=>bA (λc d e=>ie (λa c d=>g2 a 27 λe=>b (ab a 27 e) c d) c 25 27 λb f g=>kb f g a d λf=>cl (c 6) λg=>iA (lK a d e 8 g f) d e λa d e=>b (zK c 8 f 6 a) d e) λa=>bb f (a (ab c 28 f) d e) (h (ab c 28 f) d e)) (zM b 6 c 25 g 26 e 27 (.Z 0)) d f) f) λe g=>fJ (λb c d e=>iF c 11 10 λh=>bA (λc d e=>ie (λa c d=>g2 a 11 λe=>b (ab a 11 e) c d) c 9 11 λb g h=>kb g h a d λa=>cl (c 3) λg=>HL a g λg=>Fc g λh=>bA b λb=>bb h (ar (some (z.iface 9 (.str [108,101,110,32,111,117,116,32,111,102,32,114,97,110,103,101]))) λa=>yP f a d e) (b (zL c 5 a 3 g 20 h) d e)) λa=>bb h (a (ab c 12 h) d e) (g (ab c 12 h) d e)) (ab (zM (c0 [b]) 2 .a2 3 (.Z 0) 9 b 10 e) 11 (.Z 0)) c d
def aj5:dm X 69 [a0] h j aj au=Xf X a0 h j aj au:=Zk
def aj4:c4 X 69 1=true:=Zk
def Xh(a:aK)(b:z)(c:S ai)(d:Nat)(e f:bR):Prop:=
 ba a 67 [b] c d (λa b c=>ar (hb .not a) λa=>e a b c) f
def aj9:dm X 70 [a0] h j aj au=Xh X a0 h j aj au:=Zk
def aj8:c4 X 70 1=true:=Zk
def Xi(a:aK)(b:z)(c:S ai)(d:Nat)(e f:bR):Prop:=
 ar (kK [.Z 0] d) λg=>gm a c d g.1 g.2 λc d g=>rO a d c 0 λd=>ar (kK [.Z 0] g) λh=>gm a d g h.1 h.2 λd g h=>rO a g d 0 λg=>ar (kK [.nilFunc] h) λi=>gm a g h i.1 i.2 λg h i=>ar (eI a h 1 g (.func (.func 110) [] [d,c,g])) λd=>ar (aV a d g) λg=>ot a g [b] d i (λ_ b d=>ar (aV a b c) λa=>e a b d) f
def akb:dm X 71 [a0] h j aj au=Xi X a0 h j aj au:=Zk
def aka:c4 X 71 1=true:=Zk
def Xj(a:aK)(b c:z)(d:S ai)(e:Nat)(f g:bR):Prop:=
 ba a 112 [b,c] d e (λa b c=>Fe a λa=>f a b c) g
def akd:dm X 72 [a0,bd] h j aj au=Xj X a0 bd h j aj au:=Zk
def akc:c4 X 72 2=true:=Zk
def P2(a:aK)(b c:z)(d:S ai)(e:Nat)(f g:bR):Prop:=
 ar (dv a d .eql 45 true b .cW) λh=>gW h c d e λd e i=>fa h (bm .eql d (.Z 0)) e i λd e i=>c5 (λd=>bA (λb c d=>PC b 1 1 λe=>jq b 8 a c λ_ _ h=>jQ h (λa b c=>g2 a 5 λa=>f a b c) λf i=>fJ (λb c d e=>iF c 21 20 λf=>bA (λc d e=>ie (λa c d=>g2 a 21 λe=>b (ab a 21 e) c d) c 19 21 λb f h=>kb f h a d λf=>fR c 5 1 λh i=>ba a 64 [f,i] d e (λd e g=>ar (qR a e .max [3,3] [h,d]) λa=>b (zK c 7 f 5 a) e g) g) λa=>bb f (a (ab c 22 f) d e) (i (ab c 22 f) d e)) (ab (zM b 1 e 5 (.Z 0) 19 h 20 f) 21 (.Z 0)) c d) λa=>bb d (f (.Z 0) e i) (a (zK (c0 [b,c]) 4 (.Z 0) 13 d) e i)) λa=>bb h (a .zT) (a d)
def Xc:dm X 64 [a0,bd] h j aj au=P2 X a0 bd h j aj au:=Zk
def Xb:c4 X 64 2=true:=Zk
def Xm(a:aK)(b c:z)(d:S ai)(e:Nat)(f g:bR):Prop:=
 ba a 76 [b] d e (λd e h=>bA (λb c d=>HK b a c 25 λe=>bA (λ_ a b=>f .zT a b) λf=>bb e (fs (d+14) λd=>Ae b 1 a c 0 λh=>jq b 2 a c λ_ _ i=>ba a 40 [h,i] c d (λc d h=>jR c λc i=>bA f λf=>xn i f λf j=>bb f (fs (h+6) λh=>k2 b 1 a d λk=>jq b 1 a d λ_ _ l=>ba a 41 [k, .Z 23,l] d h (λ_ a d=>j (zM b 34 e 6 c 7 i 47 f) a d) g) (Ae b 1 a d 1 λk=>ar (bm .geq c k) λk=>bA j λj=>bb k (fs (h+6) λh=>k2 b 1 a d λl=>jq b 1 a d λ_ _ m=>ba a 41 [l, .Z 25,m] d h (λ_ a d=>j (ab (zM b 34 e 6 c 7 i 47 f) 56 k) a d) g) (j (ab (zM b 34 e 6 c 7 i 47 f) 56 k) d h))) g) (f (ab b 34 e) c d)) λf=>bb d (fs (h+15) λi=>ar (aV a e c) λj=>gs j 2 a e λ_ j=>gs b 2 a e λ_ k=>PD h 12 a e λe h=>ba a 25 [j,k] h i (λh i j=>jR h λh k=>ar (eI a i 11 e h) λe=>xn k f λf h=>bb f (fs (j+6) λi=>ar (aV a e c) λj=>gs b 1 a e λ_ l=>ba a 41 [j, .Z 23,l] e i (λ_ a e=>h (zM (c0 [b,c]) 3 .zF 9 d 5 k 23 f) a e) g) (h (zM (c0 [b,c]) 3 .zF 9 d 5 k 23 f) e j)) g) (f (zK (c0 [b,c]) 3 .zF 9 d) e h)) g
def akj:dm X 75 [a0,bd] h j aj au=Xm X a0 bd h j aj au:=Zk
def aki:c4 X 75 2=true:=Zk
def Xn(a:aK)(b:z)(c:S ai)(d:Nat)(e _:bR):Prop:=
 gs b 0 a c λ_ f=>ar (bm .eql f (.Z 2)) λf=>gW f b c d λc d g=>E9 f c d g a 6 λc d g=>c5 (λc=>gW c b d g λb d f=>E9 c b d f a 24 λa b d=>c5 (λa=>e a b d) λb=>bb c (b .zT) (b a)) λa=>bb f (a .zT) (a c)
def akl:dm X 76 [a0] h j aj au=Xn X a0 h j aj au:=Zk
def akk:c4 X 76 1=true:=Zk
def Xv(a:aK)(b:z)(c:S ai)(d:Nat)(e _:bR):Prop:=
 kd a c d b λc d f=>eM 0 c a d λ_ g=>bA (λb c d=>kc b 1 2 a c λ_ f=>ar (bm .geq f (.Z 1)) λf=>aei f (b 1) (λa=>iq 2 a) c d λb c d=>eH f (aV a c b) c d λa b c=>eH f (bm .leq a (.Z 64)) b c λa b c=>c5 (λa=>e a b c) λb=>bb f (b a) (b .zF)) λh=>bb g (eM 1 c a d λ_ b=>ar (hb .not b) λb=>uc b 2 c d f a λa c d=>eH b (bm .eql a (.Z 1)) c d λa c d=>c5 (λa=>e a c d) λc=>bb b (c a) (c .zF)) (h (zL (c0 [b]) 1 c 2 .zF 4 g) d f)
def akD:dm X 94 [a0] h j aj au=Xv X a0 h j aj au:=Zk
def akC:c4 X 94 1=true:=Zk
def VT(_:aK)(a:z)(b:S ai)(c:Nat)(d _:bR):Prop:=
 ar (bm .lss a (.int .i32 97)) λe=>gW e a b c λb c f=>fa e (bm .gtr b (.int .i32 122)) c f λb c f=>c5 (λb=>j6 b a c f λc e f=>eH b (bm .lss c (.int .i32 65)) e f λc e f=>j6 b c e f λc e f=>gW c a e f λe f g=>fa c (bm .gtr e (.int .i32 90)) f g λe f g=>md b (λa=>c5 (λb=>a b f g) λa=>bb c (a .zT) (a e)) f g λc e f=>c5 (λb=>j6 b a e f λc e f=>eH b (bm .lss c (.int .i32 48)) e f λc e f=>j6 b c e f λc e f=>gW c a e f λe f g=>fa c (bm .gtr e (.int .i32 57)) f g λe f g=>md b (λa=>c5 (λb=>a b f g) λa=>bb c (a .zT) (a e)) f g λc e f=>c5 (λb=>j6 b a e f λa c e=>eH b (bm .neq a (.int .i32 95)) c e λa c e=>c5 (λa=>d a c e) λc=>bb b (c a) (c .zF)) λa=>bb b (a c) (a .zF)) λa=>bb b (a c) (a .zF)) λa=>bb e (a .zT) (a b)
def ahx:dm X 105 [a0] h j aj au=VT X a0 h j aj au:=Zk
def ahw:c4 X 105 1=true:=Zk
def VU(a:aK)(b c:z)(d:S ai)(e:Nat)(f g:bR):Prop:=
 ba a 139 [b,c,.zT] d e f g
def ahz:dm X 106 [a0,bd] h j aj au=VU X a0 bd h j aj au:=Zk
def ahy:c4 X 106 2=true:=Zk
def WU(a:aK)(b c:z)(d:S ai)(e:Nat)(f g:bR):Prop:=
 ba a 77 [b,c] d e (λa b c=>Fe a λa=>f a b c) g
def ajx:dm X 47 [a0,bd] h j aj au=WU X a0 bd h j aj au:=Zk
def ajw:c4 X 47 2=true:=Zk
def VV(a:aK)(b:z)(c:S ai)(d:Nat)(e f:bR):Prop:=
 ar (mI b) λg=>ar (bm .lss g (.Z 2)) λg=>bA (λb c d=>Ad b 1 λg=>ba a 93 [g] c d (λc d g=>jR c λc h=>eO b λi=>ar (dv a d .eql 9 true i (.str [98,111,111,108])) λi=>gW i h d g λd g h=>fa i (dv a g .eql 119 true d .nilIface) g h λd g h=>gW i d g h λd g h=>ou d (b 0) g h λg h j=>ou d (b 0) h j λb h j=>eH d (nQ b (.Z 0)) h j λb h j=>eH d (bm .eql b (.int .u8 105)) h j λb h j=>j6 d c h j λc h j=>eH d (fv [.zF, .zF, .Z 0] [(1,1,b),(2,1,c)]) h j λb c h=>md d (λd=>ba a 108 [b] c h d f) c h λb c f=>eH d (dv a c .eql 9 false g b) c f λa b c=>lc i (λe=>c5 (λa=>e a b c) λb=>bb d (b a) (b .zF)) b c λa b c=>c5 (λa=>e a b c) λb=>bb i (b .zT) (b a)) f) λa=>bb g (e .zF c d) (a (zK (c0 [b]) 2 .zF 7 g) c d)
def ahB:dm X 107 [a0] h j aj au=VV X a0 h j aj au:=Zk
def ahA:c4 X 107 1=true:=Zk
def VX(a:aK)(b c:z)(d:S ai)(e:Nat)(f g:bR):Prop:=
 Fc c λh=>bA (λb c d=>fR b 1 0 λe g=>ar (qR a c .cap [35] [g]) λg=>eO b λh=>ar (eT h) λh=>ar (bm .sub g h) λg=>ar (bm .sub e g) λe=>ar (bm .gtr e (.Z 0)) λg=>bA (λa b c=>eO a λa=>f a b c) λf=>bb g (fR b 0 0 λh i=>ar (qR a c .cap [35] [i]) λi=>ar (nl a c 8 h none (some i) none) λh=>iA (x8 a c d .append [35,3] [h,e]) c d λc d h=>eO b λi=>ar (eT i) λi=>ar (nl a d 8 c none (some i) none) λa=>f (zL b 1 e 16 g 0 a) d h) (f (zK b 1 e 16 g) c d)) λa=>bb h (ar (some (z.iface 9 (.str [99,97,110,110,111,116,32,98,101,32,110,101,103,97,116,105,118,101]))) λa=>yP g a d e) (a (zK (c0 [b,c]) 4 .a2 6 h) d e)
def ahF:dm X 109 [a0,bd] h j aj au=VX X a0 bd h j aj au:=Zk
def ahE:c4 X 109 2=true:=Zk
def VZ(a:aK)(b c d e:z)(f:S ai)(g:Nat)(h i:bR):Prop:=
 ar (aV a f c) λj=>Ce j λj=>nt a f c j λf=>bA (λb c d=>k2 b 1 a c λe=>Cf e λe=>rS b λb=>nt a c b e λa=>h (.tuple []) a d) λh=>ar (dv a f .eql 45 true b .cW) λj=>gW j b f g λf g k=>lc j (λb=>ba a 111 [f] g k b i) g k λf g k=>fa j (hb .not f) g k λf g k=>c5 (λf=>bA h λh=>bb f (rO a g d 1 λa=>h (ab (c0 [b,c,d,e]) 22 f) a k) (ar (aV a g c) λj=>ar (bm .gtr j (.Z 200)) λj=>bA h λh=>bb j (ar (aV a g d) λi=>rN i 0 h λh i=>bb h (rO a g d 22 λa=>i (zL (c0 [b,c,d,e]) 22 f 30 j 34 h) a k) (i (zL (c0 [b,c,d,e]) 22 f 30 j 34 h) g k)) (gs b 8 a g λ_ l=>ar (eT l) λm=>bA h λh=>fJ (λb c d e=>iF c 14 13 λf=>bA (λc d e=>ie (λa c d=>g2 a 14 λe=>b (ab a 14 e) c d) c 12 14 λb f g=>kb f g a d λf=>k2 c 3 a d λg=>ot a g [f] d e (λ_ a d=>b (ab c 6 f) a d) i) λa=>bb f (a (ab c 15 f) d e) (h (ab c 15 f) d e)) (ab (zM (c0 [b,c,d,e]) 22 f 30 j 12 l 13 m) 14 (.Z 0)) g k))) λa=>bb j (a .zT) (a f)
def ahJ:dm X 110 [a0,bd,ca,a3] h j aj au=VZ X a0 bd ca a3 h j aj au:=Zk
def ahI:c4 X 110 4=true:=Zk
def V0(a:aK)(b:z)(c:S ai)(d:Nat)(e f:bR):Prop:=
 fs (d+12) λg=>ar (aV a c (.ptr 3 0)) λh=>gs b 0 a c λ_ i=>ar (l2 a c 3 (.agg [.Z 0, .zF, .zF, .zF]) h i true) λh=>jR h λh i=>ar (kK [.Z 0, .zF, .zF, .zF] (d+9)) λj=>me a c (d+9) j.1 j.2 λc d=>ar (eI a d 4 c h) λd=>ar (hb .not i) λh=>bA (λb c d=>fs (d+34) λd=>jq b 0 a c λ_ _ g=>ar (bm .lss g (.Z 1)) λg=>HI g b 0 c 0 a λc h=>u9 g (bm .gtr c (.Z 26)) h λc h=>c5 (λc=>aef c (b 3) (λa=>iq 0 a) h λg h=>u9 c (aV a h g) h λg h=>u9 c (bm .geq g (.Z 0)) h λg h=>N8 c g h λg h=>E8 g b h 8 a λh i=>lw g (eT h) i λh i=>N9 g (b 3) (λa=>iq 0 a) i λi j=>lw g (aV a j i) j λi j=>lw g (bm .neq h i) j λh i=>N7 c (λa=>c5 (λb=>a b i) λa=>bb g (a h) (a .zF)) i λg h=>c5 (λc=>HI c b 0 h 8 a λg h=>lc c (λb=>ba a 140 [g, .cW] h d b f) h d λd g h=>c5 (λc=>bA (λb c d=>fs (d+33) λd=>kc b 3 1 a c λ_ g=>jq b 2 a c λ_ _ h=>ar (dv a c .neq 9 true h (.str [])) λh=>ar (dv a c .neq 4 false g h) λg=>aef g (b 3) (λa=>iq 1 a) c λc h=>u9 g (aV a h c) h λc h=>N8 g c h λc h=>E8 c b h 2 a λh i=>md c (λb=>ba a 67 [h] i d b f) i d λd h i=>lw c (hb .not d) h λd h=>N7 g (λa=>c5 (λb=>a b h) λa=>bb c (a d) (a .zF)) h λc d=>c5 (λc=>HI c b 0 d 3 a λd g=>N8 c d g λd g=>E8 d b g 0 a λg h=>lw d (bm .neq g (.Z 6)) h λg h=>N7 c (λa=>c5 (λb=>a b h) λa=>bb d (a g) (a .zF)) h λd g=>c5 (λc=>bA (λb c d=>kc b 3 2 a c λ_ g=>ar (hb .not g) λg=>PK g b c d a λc d h=>eH g (fv [.zF, .zF, .Z 0] []) d h λd h i=>eH g (dv a h .neq 49 false c d) h i λc d h=>c5 (λc=>aeh c (b 3) (λa=>iq 2 a) d h λd g h=>fa c (aV a g d) g h λd g h=>gW c d g h λd g h=>PK d b g h a λg h i=>md d (λb=>ba a 94 [g] h i b f) h i λg h i=>eH d (hb .not g) h i λg h i=>lc c (λa=>c5 (λb=>a b h i) λa=>bb d (a g) (a .zF)) h i λd g h=>c5 (λc=>aeh c (b 3) (λa=>iq 3 a) g h λd g h=>fa c (aV a g d) g h λd g h=>fa c (hb .not d) g h λd g h=>gW c d g h λd g h=>ou d (b 0) g h λg h i=>Cg d g h i 7 a λg h i=>eH d (bm .neq g (.int .u64 0)) h i λg h i=>lc c (λa=>c5 (λb=>a b h i) λa=>bb d (a g) (a .zF)) h i λd g h=>c5 (λc=>bA (λb c d=>jq b 0 a c λ_ _ g=>bA (λ_ a b=>e .zT a b) λh=>rN g 1 h λh i=>bb h (eO b λb=>ba a 141 [b] c d e f) (ar (bm .eql g (.Z 19)) λf=>bA (λb c d=>cl (b 128) λf=>bA i λg=>bb f (jq b 7 a c λ_ _ a=>ar (bm .leq a (.int .u64 63)) λa=>e a c d) (cl (b 123) λf=>rN f 21 g λf g=>bb f (jq b 8 a c λ_ _ b=>ar (iv 1 b (.Z 0)) λb=>ar (aV a c b) λb=>gs b 0 a c λ_ f=>ar (bm .eql f (.Z 1)) λf=>gW f b c d λc d g=>E9 f c d g a 4 λc d g=>gW f c d g λc d g=>j6 c b d g λd g h=>Cg c d g h 8 a λd g h=>eH c (eT d) g h λd g h=>eH c (bm .eql d (.Z 1)) g h λd g h=>lc f (λa=>c5 (λb=>a b g h) λa=>bb c (a d) (a .zF)) g h λc d g=>gW f c d g λc d g=>j6 c b d g λd g h=>Cg c d g h 8 a λd g h=>eH c (iv 1 d (.Z 0)) g h λd g h=>eH c (aV a g d) g h λd g h=>eH c (dv a g .neq 45 true d .cW) g h λd g h=>lc f (λa=>c5 (λb=>a b g h) λa=>bb c (a d) (a .zF)) g h λc d g=>gW f c d g λc d g=>j6 c b d g λb d g=>Cg c b d g 8 a λb d g=>eH c (iv 1 b (.Z 0)) d g λb d g=>eH c (aV a d b) d g λb d g=>Cg c b d g 0 a λa b d=>eH c (bm .eql a (.Z 1)) b d λa b d=>lc f (λe=>c5 (λa=>e a b d) λb=>bb c (b a) (b .zF)) b d λa b c=>c5 (λa=>e a b c) λb=>bb f (b .zT) (b a)) (g (ab b 136 f) c d))) λa=>bb f (a (zL b 123 g 124 h 128 f) c d) (ar (bm .eql g (.Z 20)) λe=>a (zM b 123 g 124 h 128 f 128 e) c d))) λa=>bb c (e .zF g h) (a (ab b 119 c) g h)) λa=>bb c (a .zT) (a d)) λa=>bb c (a .zT) (a d)) λa=>bb g (a c) (a .zF)) λa=>bb c (e .zF g i) (a (ab b 84 c) g i)) λa=>bb c (a .zT) (a d)) λa=>bb g (a .zT) (a c)) λa=>bb c (e .zF g h) (a (ab b 51 c) g h)) λa=>bb c (a .zT) (a d)) λa=>bb c (a .zT) (a g)) λa=>bb g (a .zT) (a c)) λe=>bb h (ar (fv [.Z 0, .zF, .zF, .zF] [(0,1, .Z 2)]) λf=>ar (eI a d 4 c f) λa=>e (zM (c0 [b]) 2 .zF 3 c 4 i 16 h) a g) (e (zM (c0 [b]) 2 .zF 3 c 4 i 16 h) d g)
def ahL:dm X 111 [a0] h j aj au=V0 X a0 h j aj au:=Zk
def ahK:c4 X 111 1=true:=Zk
def V1(a:aK)(b c:z)(d:S ai)(e:Nat)(f g:bR):Prop:=
 jQ b (λ_ a b=>f (.Z (-1)) a b) λh i=>fJ (λb c d e=>iF c 8 7 λh=>bA (λc d e=>ie (λa c d=>g2 a 8 λe=>b (ab a 8 e) c d) c 8 1 λb h i=>eO c λj=>kb j h a d λj=>ot a i [j] d e (λa d e=>bA b λb=>bb a (f h d e) (b (zK c 5 h 16 a) d e)) g) λa=>bb h (a (ab c 9 h) d e) (i (ab c 9 h) d e)) (zL (c0 [b,c]) 4 (.Z 0) 7 h 8 (.Z 0)) d e
def ahN:dm X 112 [a0,bd] h j aj au=V1 X a0 bd h j aj au:=Zk
def ahM:c4 X 112 2=true:=Zk
def Wb(a:aK)(b c d:z)(e:S ai)(f:Nat)(g h:bR):Prop:=
 iA (UV a e f b) e f λe f i=>bA (λ_ a b=>g (.Z (-1)) a b) λj=>fJ (λb c d e=>cl (c 10) λf=>FU (wk a kD true d e (kE f)) d e λd e f=>ar (rJ 0 d) λi=>bA (λc d e=>bA b λb=>cl (c 11) λf=>ar (rJ 1 f) λf=>cl (c 11) λi=>ar (rJ 2 i) λi=>rS c λj=>ot a j [i] d e (λd e h=>cl (c 2) λj=>ar (dv a e .eql 4 false d j) λa=>bA b λb=>bb a (g f e h) (b (zL c 7 f 8 i 19 a) e h)) h) λa=>bb i (a (zK c 11 d 12 i) e f) (j (zK c 11 d 12 i) e f)) (zK (c0 [b,c,d]) 6 (.Z 0) 10 e) f i
def ah7:dm X 139 [a0,bd,ca] h j aj au=Wb X a0 bd ca h j aj au:=Zk
def ah6:c4 X 139 3=true:=Zk
def Xo(a:aK)(b c:z)(d:S ai)(e:Nat)(f _:bR):Prop:=
 jQ b (λ_ a b=>f (.Z (-1)) a b) λg h=>fJ (λb c d e=>iF c 8 7 λg=>bA (λc d e=>ie (λa c d=>g2 a 8 λe=>b (ab a 8 e) c d) c 8 1 λb g h=>eO c λi=>kb i g a d λi=>ar (dv a d .eql 9 false h i) λa=>bA b λb=>bb a (f g d e) (b (zK c 5 g 16 a) d e)) λa=>bb g (a (ab c 9 g) d e) (h (ab c 9 g) d e)) (zL (c0 [b,c]) 4 (.Z 0) 7 g 8 (.Z 0)) d e
def akn:dm X 77 [a0,bd] h j aj au=Xo X a0 bd h j aj au:=Zk
def akm:c4 X 77 2=true:=Zk
def Wd(a:aK)(b c:z)(d:S ai)(e:Nat)(f g:bR):Prop:=
 ba a 152 [b,c] d e (λa b c=>Fe a λa=>f a b c) g
def aib:dm X 140 [a0,bd] h j aj au=Wd X a0 bd h j aj au:=Zk
def aia:c4 X 140 2=true:=Zk
def We(a:aK)(b:z)(c:S ai)(d:Nat)(e f:bR):Prop:=
 l5 b 4 λg=>eM 2 g a c λ_ g=>l5 b 4 λh=>eM 1 h a c λ_ h=>bA (λb c d=>HK b a c 1 λg=>PK g b c d a λc d h=>md g (λb=>ba a 94 [c] d h b f) d h λc d f=>c5 (λc=>ou c (b 3) d f λd f g=>eH c (bm .eql d (.Z 64)) f g λd f g=>j6 c d f g λd f g=>yF d (b 0) f g λf g h=>Fg d f g h 7 a λa f g=>yF d (b 3) f g λb f g=>fa d (bm .shr a b) f g λa b f=>fa d (bm .eql a (.int .u64 0)) b f λa b f=>md c (λc=>c5 (λa=>c a b f) λb=>bb d (b .zT) (b a)) b f λa b d=>c5 (λa=>e a b d) λb=>bb c (b a) (b .zF)) λa=>bb g (a c) (a .zF)) λa=>bb h (Cf g λe=>a (zM (c0 [b]) 2 .zF 3 g 13 h 3 e) c d) (a (zL (c0 [b]) 2 .zF 3 g 13 h) c d)
def aid:dm X 141 [a0] h j aj au=We X a0 h j aj au:=Zk
def aic:c4 X 141 1=true:=Zk
def Wj(a:aK)(b c:z)(d:S ai)(e:Nat)(f _:bR):Prop:=
 jQ b (λ_ a b=>f (.Z (-1)) a b) λg h=>fJ (λb c d e=>iF c 8 7 λg=>bA (λc d e=>ie (λa c d=>g2 a 8 λe=>b (ab a 8 e) c d) c 8 1 λb g h=>eO c λi=>kb i g a d λi=>ar (dv a d .eql 45 false h i) λa=>bA b λb=>bb a (f g d e) (b (zK c 5 g 16 a) d e)) λa=>bb g (a (ab c 9 g) d e) (h (ab c 9 g) d e)) (zL (c0 [b,c]) 4 (.Z 0) 7 g 8 (.Z 0)) d e
def ain:dm X 152 [a0,bd] h j aj au=Wj X a0 bd h j aj au:=Zk
def aim:c4 X 152 2=true:=Zk
def agc(a:aK)(b:bR):fS:=λc d e=>pi a [.tmp 2] b c c.bg d e
def afE(a:aK)(b c:bR):s6:=λd e f g=>wZ a [.tmp 2] b c d e d.bg f g
def Xg(a:aK)(b:z)(c:S ai)(d:Nat)(e f:bR):Prop:=
 kd a c d b λc d g=>gm a d g (.map g) (.map [] 0) λd g h=>ar (fv [.mf, .a2] [(0,1,d)]) λd=>kd a g h d λd g h=>ar (kK [.cW] h) λi=>gm a g h i.1 i.2 λg h i=>nt a h g d λd=>ar (ep a d 6 c) λh=>ba a 23 [h] d i (λd h i=>bA (λb c d=>kc b 1 5 a c λ_ f=>jQ f (λb c d=>k2 b 3 a c λf=>agc a e (ab b 2 f) c d) λe g=>fJ (λb c d e=>iF c 56 55 λf=>bA (λc d e=>ie (λa c d=>g2 a 56 λe=>b (ab a 56 e) c d) c 56 54 λb f g=>cl (c 56) λh=>Lk g h a d e 0 λd e g h=>ar (eT h) λi=>bA b λb=>fJ (λc d e f=>iF d 64 63 λg=>bA (λb d e=>ie (λa b d=>g2 a 64 λe=>c (ab a 64 e) b d) b 64 62 λc f g=>cl (b 64) λh=>kb g h a d λg=>Ae b 3 a d 0 λh=>PE a d h g λh i=>HH e a d λd e j=>ar (eI a e 11 d h) λe=>uc i 9 d e j a λe h j=>eH i (bm .lss e (.Z 0)) h j λe h j=>c5 (λe=>bA c λc=>bb e (cl (b 8) λk=>rQ 9 d a h k λh=>rQ 10 d a h f λh=>fs (j+7) λj=>Ae b 3 a h 0 λk=>ar (ep a h 11 d) λl=>iA (BL a h j 9 k g l) h j λ_ a h=>c (ab (zM b 10 f 11 g 12 d 13 i) 83 e) a h) (c (ab (zM b 10 f 11 g 12 d 13 i) 83 e) h j)) λa=>bb i (a e) (a .zF)) λa=>bb g (a (ab d 65 g) e f) (b (ab d 65 g) e f)) (ab (zM c 9 d 8 f 62 h 63 i) 64 (.Z 0)) g e) λa=>bb f (a (ab c 57 f) d e) (g (ab c 57 f) d e)) (zL b 54 f 55 e 56 (.Z 0)) c d) λj=>Eu a 97 d [19,20] (sU a (λ_ _ b _ _ c d e=>cl (c 19) λf=>Cd e a d λd e g=>cl (c 20) λh=>ar (eI a e 8 d h) λa=>b (zK c 4 f 5 d) a g) λ_ _ b _ _ c d e=>bA b λb=>fs (e+13) λf=>Ae c 3 a d 0 λg=>kc c 5 0 a d λ_ h=>PE a d g h λg h=>PD e 10 a d λd e=>ar (eI a e 11 d g) λd=>xn h b λb e=>bb b (fs (f+10) λf=>Ae c 3 a d 0 λg=>kc c 5 0 a d λ_ i=>fR c 4 5 λj k=>ar (ep a d 8 k) λk=>ar (fv [.Z 0, .str [], .Z 0, .zF, .zF, .Z 0, .str [], .Z 0, .zF, .Z 0, .Z 0] [(0,1,j),(1,8,k),(9,1, .Z (-1)),(10,1, .Z (-1))]) λj=>iA (BL a d f 9 g i j) d f λ_ d f=>fs (f+12) λg=>k2 c 3 a d λi=>Ae c 3 a d 1 λj=>kc c 5 0 a d λ_ k=>ar (hz 1 [.str []] [(0,1,k)] (f+7)) λk=>me a d (f+7) k.1 k.2 λd f=>s3 a f g j d λd f g=>l5 i 1 λj=>k2 c 3 a f λk=>iB k (some i) (nt a f j d λa=>e (zK c 7 h 32 b) a g)) (e (zK c 7 h 32 b) d f)) j (CM 0 j λ_ _ _ _=>False) (agc a e) (afE a e f) (zM (c0 [b]) 1 c 2 .cW 3 g 18 d) h i) (afE a e f (h3 [17,18] (zL (c0 [b]) 1 c 2 .cW 3 g)))
def akp:CS X 7 [a0] h j aj au=Xg X a0 h j aj au:=Zk
def ako:c4 X 7 1=true:=Zk
def Wy(a:aK)(b c:z)(d:S ai)(e:Nat)(f _:bR):Prop:=
 HH e a d λd e g=>ar (dv a e .eql 40 true b .cW) λh=>bA (λb c d=>jq b 0 a c λ_ _ e=>rS b λg=>PE a c e g λe g=>HH d a c λc d h=>xl a d 11 c e λc d=>n0 b 4 a c 11 d λa b=>f (.tuple [b,g]) a h) λi=>bb h (ar (fv [.Z 0, .str [], .Z 0, .zF, .zF, .Z 0, .str [], .Z 0, .zF, .Z 0, .Z 0] []) λb=>xl a e 11 d b λa b=>f (.tuple [b, .zF]) a g) (i (zL (c0 [b,c]) 4 d 5 .zF 9 h) e g)
def aiR:dm X 25 [a0,bd] h j aj au=Wy X a0 bd h j aj au:=Zk
def aiQ:c4 X 25 2=true:=Zk
def VW(a:aK)(b:z)(c:S ai)(d:Nat)(e f:bR):Prop:=
 kd a c d b λc d g=>bA (λb c d=>kc b 1 2 a c λ_ b=>ba a 127 [b] c d (λb c d=>ar (dv a c .add 9 true (.str [117]) b) λa=>e a c d) f) λh=>xm a d 3 c 94 g f λd g i=>xn d h λd h=>bb d (e (.str []) g i) (eM 0 c a g λ_ j=>bA h λh=>bb j (e (.str [98,111,111,108]) g i) (eM 1 c a g λ_ k=>bA h λh=>bb k (eM 2 c a g λ_ b=>ba a 127 [b] g i (λb c d=>ar (dv a c .add 9 true (.str [105]) b) λa=>e a c d) f) (h (ab (zM (c0 [b]) 1 c 2 (.str []) 3 d 7 j) 10 k) g i)))
def ahD:dm X 108 [a0] h j aj au=VW X a0 h j aj au:=Zk
def ahC:c4 X 108 1=true:=Zk
end
end Go.Proofs.YtendhgofocgngaaGreatDoor

namespace Go.Proofs.YtendhgofocgngaaGreatDoor
open Go.bn Go.aT
noncomputable section
def gV:Nat->bs->Nat
 |0,_=>0
 |o+1,B=>B.args.foldl (λa E=>max a (gV o E)) 0+1
def arc:∀o B,gV o B<=o:=by
 intro o
 induction o with
 |zero=>intro B;simp[gV]
 |succ o ag=>
  intro B
  have:∀(k:List bs) a,a<=o->k.foldl (λa E=>max a (gV o E)) a<=o:=by
   intro k
   induction k with
   |nil=>intro a gC;exact gC
   |cons E k J7=>intro a gC;exact J7 _ (Nat.max_le.2 ⟨gC,ag E⟩)
  have:=this B.args 0 Zo
  show _+1<=o+1
  omega
def avx{C:aK}{h:S ai}(E b:Nat):qR C h .max [3,3] [.Z (E:Int), .Z (b:Int)]=some (.Z ((max E b:Nat):Int)):=by
 show oU true (.Z (E:Int)) [.Z (b:Int)]=_
 simp only[oU,eR,rj,ZC]
 congr 2
 split<;>simp_all<;>omega
def En{X:co}{h:S ai}(b:Nat):dv X h .eql 45 true (.ptr b 0) .cW=some .zF:=Zk
section
variable{X:co}{h R aU aQ:S ai}{j ap aL bc aH bM:Nat}{aO:List Tok}{i:Nat}
def aqW(az:dN X):∀(o:Nat),o<=1000->∀h j P B v,(q X).bf<=j->cm X h P B v->(∀e,P e->e<j)->
 ba X 64 [v, .Z (o:Int)] h j (λac R ap=>ac= .Z (gV o B:Nat)/\bG X h j R ap) (λ_ _ _=>False):=by
 intro o
 induction o with
 |zero=>
  intro _ h j P B v aM a7 bW
  refine zJ az (Xb X) ?_
  rw[Xc]
  unfold P2
  obtain⟨b,rfl,ah,_⟩:=a7.ptr
  have gd:=bW b ah
  refine dd @En @Int.natCast_zero ⟨?_⟩
  exact⟨rfl,dS⟩
 |succ o ag=>
  intro aC h j P B v aM a7 bW
  refine zJ az (Xb X) ?_
  rw[Xc]
  unfold P2
  obtain⟨b,bi,cj,aY,rfl,ah,a0,bd,ca,a3,a4,a5,h2,ih,hk,cR,has⟩:=a7.open
  have gd:=bW b ah
  have e5:=cR.len
  have rh:=has.len
  have hW:((o+1:Nat):Int)=(o:Int)+1:=Zo
  have d:decide (((o+1:Nat):Int)=0)=false:=by simp;omega
  have bw:bm .sub (.Z ((o+1:Nat):Int)) (.Z 1)=some (.Z (o:Int)):=by rw[tH Zo Zo];congr 2;omega
  have aZ:=cR.many
  rw[Zl,rh]at aZ
  rw[Zl,rh]at e5
  refine ht @En @d @bw @hk @e5 ⟨?_⟩
  refine fP (λm I R aP=>∃(W:Nat) (a:Nat),I.g 1=some (.Z (o:Int))/\I.g 5=some (.Z (a:Int))/\I.g 19=some bi/\I.g 20=some (.Z (B.args.length:Int))/\I.g 21=some (.Z (W:Int))/\W+m=B.args.length/\a<=o/\bG X h j R aP/\gV (o+1) B=(B.args.drop W).foldl (λa E=>max a (gV o E)) a+1)
   B.args.length ⟨0,0,bt,gc,bt,bt,gc,Zo,Zo,bG.refl _ _,by simp[gV]⟩ ?_
  rintro m I aQ bc ⟨W,a,t1,t5,rE,EL,Vm,bx,gC,cu,bS⟩
  have gE:=cu.le
  have b3:=zH W
  have er:=zH a
  cases m with
  |zero=>
   have cE:=zD W B.args.length
   rw[ZJ Zo]at bS
   simp only[List.foldl_nil]at bS
   refine ht @Vm @EL @t5 @cE @er ⟨?_⟩
   exact⟨by first|rw[bS]|(simp only[bS];rfl),cu⟩
  |succ m=>
   have cE:=zE W B.args.length
   obtain⟨E,aB⟩:=zF B.args W
   obtain⟨v,bo,aqq⟩:=has.get W E aB
   obtain⟨b4,b1,cM⟩:=(cR.ad λe D=>cu.ad e (bW e D)).one bo
   refine eD @Vm @EL @t5 @rE @t1 @cE (Za @b4 @b1) ⟨?_⟩
   refine(ag Zo aQ bc P E v Zo (aqq.ad λe D=>cu.ad e (bW e D)) (λe D=>zC (bW e D))).Zm ?_
   rintro t2 br bL ⟨rfl,cz⟩
   have jo:=cz.le
   have iJ:qR X br .max [3,3] [.Z (a:Int), .Z ((gV o E:Nat):Int)]=some (.Z ((max a (gV o E):Nat):Int)):=avx _ _
   refine ey @iJ @Vm @b3 ⟨?_⟩
   refine⟨m,Zo,W+1,max a (gV o E),a6 t1,bt,a6 rE,a6 EL,bt,Zo,Nat.max_le.2 ⟨gC,arc o E⟩,cu.trans cz, ?_⟩
   have aI:B.args.drop W=E::B.args.drop (W+1):=by
    obtain⟨af,D⟩:=Zb.1 aB
    rw[Zz af,D]
   rw[aI,ZZ]at bS
   exact bS
end
def BE:List eo->Option Int
 |[]=>none
 |al::k=>if 200<gV 201 al.right then some al.at_ else BE k
def rm:List Go.aT.Node->Option (Int×Int)
 |[]=>none
 |g::k=>if 256<g.es.length+g.out.length+g.loc.length\/4096<g.eqs.length then some (30,g.at_)else match BE g.eqs with
  |some E=>some (22,E)
  |none=>rm k
def rn(aE:List Go.aT.Node):Option (Int×Int):=match aE[64]? with
 |some g=>some (30,g.at_)
 |none=>rm aE
section
variable{X:co}{h R aU aQ:S ai}{j ap aL bc aH bM:Nat}{aO:List Tok}{i:Nat}
def aqV(az:dN X){P:Nat->Prop}{B:bs}{v:z}(aM:(q X).bf<=j)(a7:cm X h P B v)(bW:∀e,P e->e<j):
 ba X 37 [v] h j (λac R ap=>ac= .Z (gV 201 B:Nat)/\bG X h j R ap) (λ_ _ _=>False):=by
 refine zJ az (ajc X) ?_
 rw[ajd]
 unfold WK
 exact(aqW az 201 Zo h j P B v aM a7 bW)
def au8(az:dN X){P:Nat->Prop}{aE:List Go.aT.Node}{v:z}(aM:(q X).bf<=j)(bS:ui X h P aE v)(bW:∀e,P e->e<j):
 ba X 19 [v] h j (λac R ap=>rn aE=none/\ac= .tuple []/\bG X h j R ap) (λac R ap=>∃o E,rn aE=some (o,E)/\ac=xQ o E/\bG X h j R ap):=by
 refine zJ az (aiG X) ?_
 rw[aiH]
 unfold Wt
 obtain⟨b,bi,cj,bu,rfl,o1,a0,cR,uS⟩:=bS
 have ss:=uS.wide
 have e5:=cR.len
 have hX:=cR.many
 rw[ss.1]at e5 hX
 by_cases F5:64<aE.length
 ·obtain⟨g,acw⟩:∃g,aE[64]? =some g:=⟨_,Ze F5⟩
  obtain⟨row,gg,mA⟩:=uS.get 64 g acw
  have dV:=cR.gF 64 Zo
  obtain⟨dk,dI,U9,eB,ch,cD,di,f4,age,rfl,_⟩:=mA
  have ax:=cR.cell 64 _ 1 _ gg rfl
  have d:decide ((64:Int)<(aE.length:Int))=true:=by simp;omega
  have ark:iv 6 bi (.Z 64)=some (.ptr cj (64*6)):=dV
  refine ht @a0 @e5 @d @ark @ax ⟨?_⟩
  refine⟨⟨30,g.at_,by simp[rn,acw],rfl,bG.refl _ _⟩⟩
 ·have aw:rn aE=rm aE:=by simp[rn,ZX (by omega:aE.length<=64)]
  have d:decide ((64:Int)<(aE.length:Int))=false:=by simp;omega
  rw[aw]
  refine ey @a0 @e5 @d ⟨?_⟩
  refine fP (λm I R aP=>∃(W:Nat),I.g 24=some bi/\I.g 25=some (.Z (aE.length:Int))/\I.g 26=some (.Z (W:Int))/\W+m=aE.length/\bG X h j R aP/\rm aE=rm (aE.drop W))
   aE.length ⟨0,bt,bt,gc,Zo,bG.refl _ _,rfl⟩ ?_
  rintro m I aQ bc ⟨W,tX,vv,tY,bx,cu,wA⟩
  have gE:=cu.le
  have b3:=zH W
  cases m with
  |zero=>
   have cE:=zD W aE.length
   rw[ZJ Zo]at wA
   refine ey @tY @vv @cE ⟨?_⟩
   exact⟨wA,rfl,cu⟩
  |succ m=>
   have cE:=zE W aE.length
   obtain⟨g,wy⟩:=zF aE W
   have aI:aE.drop W=g::aE.drop (W+1):=by
    obtain⟨af,D⟩:=Zb.1 wy
    rw[Zz af,D]
   rw[aI]at wA
   obtain⟨row,gg,mA⟩:=uS.get W g wy
   have dV:=cR.gF W Zo
   have nN:=(cR.ad λe D=>cu.ad e (bW e D)).row Zd gg
   have ar7:=mA.ad (bk:=P) (λe D=>cu.ad e (bW e D)) (λ_ a=>a)
   have tB:=mA.hZ
   obtain⟨dk,dI,U9,eB,ch,cD,di,f4,age,rfl,cP,cG,d4,fK,mj⟩:=ar7
   have cO:=cP.len;have b9:=cG.len;have d9:=d4.len;have fI:=fK.len
   have ek:=cP.many;have fN:=cG.many;have iP:=d4.many;have D0:=fK.many
   have Pr:=mj.wide
   rw[Zl]at cO b9 d9 ek fN iP
   rw[Pr.1]at fI D0
   have er:bm .add (.Z (g.es.length:Int)) (.Z (g.out.length:Int))=some (.Z ((g.es.length+g.out.length:Nat):Int)):=by rw[eG Zo Zo];rfl
   have iJ:bm .add (.Z ((g.es.length+g.out.length:Nat):Int)) (.Z (g.loc.length:Int))=some (.Z ((g.es.length+g.out.length+g.loc.length:Nat):Int)):=by rw[eG Zo Zo];rfl
   refine lT @tY @vv @tX @cE @dV @nN ⟨?_⟩
   refine gr (km (o:=6) (b:=bc) (U:=0) (n:=6) (c:=S.ofList [.str [], .Z 0, .a2, .a2, .a2, .a2] 0 .nil) (bz Zo) Zo rfl Zd Zd tB) ?_
   generalize gk:bp X _ bc _=br
   have wc:Z X br bc=some (.cells (dM (S.ofList [.str [], .Z 0, .a2, .a2, .a2, .a2] 0 .nil) 0 [.str g.name, .Z g.at_,dk,dI,U9,eB]) 6 .own):=by rw[<-gk];exact bz Zo
   have cz:bG X h j br (bc+1):=cu.trans (by rw[<-gk];exact dS)
   have cF:∀e,P e->Z X br e=Z X h e:=λe D=>cz.ad e (bW e D)
   clear gk
   have dF:aV X br (.ptr bc 1)=some (.Z g.at_):=by rw[bX wc];rfl
   have dR:aV X br (.ptr bc 2)=some dk:=by rw[bX wc];rfl
   have g3:aV X br (.ptr bc 3)=some dI:=by rw[bX wc];rfl
   have AH:aV X br (.ptr bc 4)=some U9:=by rw[bX wc];rfl
   have ke:aV X br (.ptr bc 5)=some eB:=by rw[bX wc];rfl
   by_cases apM:256<g.es.length+g.out.length+g.loc.length
   ·have eV:decide ((256:Int)<((g.es.length+g.out.length+g.loc.length:Nat):Int))=true:=by simp;omega
    refine eD @dF @dR @g3 @AH @ke @cO (Za @b9 (Za @d9 (Za @fI (Za @er (Za @iJ @eV))))) ⟨?_⟩
    exact⟨⟨30,g.at_,by rw[wA,rm,Zq (.inl apM)],rfl,cz⟩⟩
   have eV:decide ((256:Int)<((g.es.length+g.out.length+g.loc.length:Nat):Int))=false:=by simp;omega
   by_cases apN:4096<g.eqs.length
   ·have iI:decide ((4096:Int)<(g.eqs.length:Int))=true:=by simp;omega
    refine eD @dF @dR @g3 @AH @ke @cO (Za @b9 (Za @d9 (Za @fI (Za @er (Za @iJ (Za @eV @iI)))))) ⟨?_⟩
    exact⟨⟨30,g.at_,by rw[wA,rm,Zq (.inr apN)],rfl,cz⟩⟩
   have iI:decide ((4096:Int)<(g.eqs.length:Int))=false:=by simp;omega
   refine eD @dF @dR @g3 @AH @ke @cO (Za @b9 (Za @d9 (Za @fI (Za @er (Za @iJ (Za @eV (Za @iI (Za @tX (Za @vv @tY))))))))) ⟨?_⟩
   have ah:rm aE=(match BE g.eqs with|some E=>some (22,E)|none=>rm (aE.drop (W+1))):=by rw[wA,rm,Zg Zo]
   have Bg:=fK.ad (R:=h) (λe D=>(cu.ad e (bW e D)).symm)
   have axm:=mj.ad (R:=h) (bk:=P) (λe D=>(cu.ad e (bW e D)).symm) (λ_ a=>a)
   refine fP (λiP I R aP=>∃(i:Nat),I.g 24=some bi/\I.g 25=some (.Z (aE.length:Int))/\I.g 26=some (.Z (W:Int))/\I.g 53=some eB/\I.g 54=some (.Z (g.eqs.length:Int))/\I.g 55=some (.Z (i:Int))/\i+iP=g.eqs.length/\bG X h j R aP/\BE g.eqs=BE (g.eqs.drop i))
    g.eqs.length ⟨0,a6 tX,a6 vv,a6 tY,bt,bt,gc,Zo,cz,rfl⟩ ?_
   clear tX vv tY dF dR g3 AH ke wc cF cz
   rintro iP I br bL ⟨i,tX,vv,tY,t53,np,pS,aA,cz,yk⟩
   have jo:=cz.le
   cases iP with
   |zero=>
    have fG:=zD i g.eqs.length
    rw[ZJ Zo]at yk
    refine ht @pS @np @fG @tY @b3 ⟨?_⟩
    refine⟨m,Zo,W+1,a6 tX,a6 vv,bt,Zo,cz, ?_⟩
    rw[ah,yk];rfl
   |succ iP=>
    have fG:=zE i g.eqs.length
    have n9:=zH i
    obtain⟨al,wF⟩:=zF g.eqs i
    have aqM:g.eqs.drop i=al::g.eqs.drop (i+1):=by
     obtain⟨af,D⟩:=Zb.1 wF
     rw[Zz af,D]
    rw[aqM,BE]at yk
    obtain⟨row,gg,Dp⟩:=axm.get i al wF
    have arl:=fK.gF i (by rw[Pr.1];omega)
    have Bh:=(Bg.ad λe D=>cz.ad e (bW e D)).row Zd gg
    obtain⟨aln,alk,nA,xC,hy,rfl,_,_,Tf,o5⟩:=Dp
    refine lT @pS @np @t53 @fG @arl @Bh ⟨?_⟩
    refine gr (km (o:=4) (b:=bL) (U:=0) (n:=4) (c:=S.ofList [.a2, .a2, .Z 0, .cW] 0 .nil) (bz Zo) Zo rfl Zd Zd o5) ?_
    generalize hV:bp X _ bL _=b0
    have abn:Z X b0 bL=some (.cells (dM (S.ofList [.a2, .a2, .Z 0, .cW] 0 .nil) 0 [aln,alk, .Z al.at_,hy]) 4 .own):=by rw[<-hV];exact bz Zo
    have dz:bG X br bL b0 (bL+1):=by rw[<-hV];exact dS
    have F6:=cz.trans dz
    clear hV
    have g3:aV X b0 (.ptr bL 3)=some hy:=by rw[bX abn];rfl
    refine cq @g3 ⟨?_⟩
    refine(aqV az Zo (Tf.ad λe D=>F6.ad e (bW e D)) (λe D=>zC (bW e D))).Zm ?_
    rintro HB b5 cA ⟨rfl,d1⟩
    have jz:=d1.le
    have dR:aV X b5 (.ptr bL 2)=some (.Z al.at_):=by rw[bX (by rw[d1.ad _ Zo];exact abn)];rfl
    by_cases gC:200<gV 201 al.right
    ·have hP:decide ((200:Int)<((gV 201 al.right:Nat):Int))=true:=by simp;omega
     rw[Zq gC]at yk
     refine dd @hP @dR ⟨?_⟩
     exact⟨⟨22,al.at_,by rw[ah,yk],rfl,F6.trans d1⟩⟩
    ·have hP:decide ((200:Int)<((gV 201 al.right:Nat):Int))=false:=by simp;omega
     rw[Zg gC]at yk
     refine ey @hP @pS @n9 ⟨?_⟩
     exact⟨iP,Zo,i+1,a6 tX,a6 vv,a6 tY,a6 t53,a6 np,bt,Zo,F6.trans d1,yk⟩
end
end
end Go.Proofs.YtendhgofocgngaaGreatDoor

