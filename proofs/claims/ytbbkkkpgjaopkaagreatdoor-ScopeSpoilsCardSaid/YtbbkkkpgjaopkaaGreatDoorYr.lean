/- Part of the proof of the last text; no conditions -/
import Derived.Test.YtbbkkkpgjaopkaaGreatDoorYq
set_option maxHeartbeats 8000000
set_option linter.all false
namespace Go.Proofs.YtbbkkkpgjaopkaaGreatDoor
open Go.bs Go.aQ
noncomputable section
def mZ(X:cl)(h:M ak):(Nat->Prop)->List Go.aQ.Node->List (List y)->Prop
 |_,[],aK=>aK=[]
 |P,ai::b8,aK=>∃row fV,aK=row::fV/\lr X h P ai row/\mZ X h P b8 fV
def lr.ad{X:cl}{h R:M ak}{P Q:Nat->Prop}{g:Go.aQ.Node}{row:List y}(a:lr X h P g row)(q:∀e,P e->Z X R e=Z X h e)(aB:∀e,P e->Q e):lr X R Q g row:=by
 obtain⟨cW,cO,a2,dF,b4,cr,cS,fh,aK,D,H,K,am,aC,bm⟩:=a
 exact⟨cW,cO,a2,dF,b4,cr,cS,fh,aK,D,(H.ad q).lift aB,(K.ad q).lift aB,(am.ad q).lift aB,(aC.ad q).lift aB,bm.ad q aB⟩
def lr.len{X:cl}{h:M ak}{P:Nat->Prop}{g:Go.aQ.Node}{row:List y}(a:lr X h P g row):row.length=6:=by
 obtain⟨cW,cO,a2,dF,b4,cr,cS,fh,aK,D,_⟩:=a
 subst D;rfl
def mZ.ad{X:cl}{h R:M ak}:∀{b8:List Go.aQ.Node}{aK:List (List y)}{P Q:Nat->Prop}(q:∀e,P e->Z X R e=Z X h e) (aB:∀e,P e->Q e),mZ X h P b8 aK->mZ X R Q b8 aK:=by
 intro b8
 induction b8 with
 |nil=>intro aK P Q q aB a;exact a
 |cons ai b8 aj=>
  rintro aK P Q q aB ⟨row,fV,H,K,am⟩
  exact⟨row,fV,H,K.ad q aB,aj q aB am⟩
def mZ.of{X:cl}{h:M ak}{P:Nat->Prop}:∀{b8:List Go.aQ.Node}{aK:List (List y)},aK.length=b8.length->(∀(i:Nat) ai,b8[i]? =some ai->∃row,aK[i]? =some row/\lr X h P ai row)->mZ X h P b8 aK:=by
 intro b8
 induction b8 with
 |nil=>intro aK a _;exact YE.1 a
 |cons ai b8 aj=>
  intro aK a bw
  cases aK with
  |nil=>simp at a
  |cons row aK=>
   obtain⟨r,H,K⟩:=bw 0 ai rfl
   simp at H;subst H
   exact⟨row,aK,rfl,K,aj (by simpa using a) λi ai bG=>by simpa using bw (i+1) ai (by simpa using bG)⟩
def mZ.wide{X:cl}{h:M ak}:∀{b8:List Go.aQ.Node}{aK:List (List y)}{P:Nat->Prop},mZ X h P b8 aK->aK.length=b8.length/\∀r∈aK,r.length=6:=by
 intro b8
 induction b8 with
 |nil=>rintro aK P rfl;simp
 |cons E b8 aj=>
  rintro aK P ⟨mw,fV,rfl,K,am⟩
  obtain⟨aC,bm⟩:=aj am
  refine⟨by simp[aC],λr V=> ?_⟩
  rcases Zr.1 V with rfl|V
  ·exact K.len
  ·exact bm r V
def mZ.get{X:cl}{h:M ak}:∀{b8:List Go.aQ.Node}{aK:List (List y)}{P:Nat->Prop},mZ X h P b8 aK->∀(i:Nat) g,b8[i]? =some g->∃row,aK[i]? =some row/\lr X h P g row:=by
 intro b8
 induction b8 with
 |nil=>intro aK P _ i g a;simp at a
 |cons E b8 aj=>
  rintro aK P ⟨mw,fV,rfl,K,am⟩ i g a
  cases i with
  |zero=>simp at a;subst a;exact⟨mw,rfl,K⟩
  |succ i=>simp at a;obtain⟨row,aC,bm⟩:=aj am i g a;exact⟨row,by simpa using aC,bm⟩
def ma.get{X:cl}{h:M ak}:∀{b8:List ee}{aK:List (List y)}{P:Nat->Prop},ma X h P b8 aK->∀(i:Nat) g,b8[i]? =some g->∃row,aK[i]? =some row/\vl X h P g row:=by
 intro b8
 induction b8 with
 |nil=>intro aK P _ i g a;simp at a
 |cons E b8 aj=>
  rintro aK P ⟨mw,fV,rfl,K,am⟩ i g a
  cases i with
  |zero=>simp at a;subst a;exact⟨mw,rfl,K⟩
  |succ i=>simp at a;obtain⟨row,aC,bm⟩:=aj am i g a;exact⟨row,by simpa using aC,bm⟩
def lr.iI{X:cl}{h:M ak}{P:Nat->Prop}{g:Go.aQ.Node}{row:List y}(a:lr X h P g row):Go.bs.iI row=true:=by
 obtain⟨cW,cO,a2,dF,b4,cr,cS,fh,aK,rfl,H,K,am,aC,_⟩:=a
 simp[Go.bs.iI,(iG H.len).2.1,(iG K.len).2.1,(iG am.len).2.1,(iG aC.len).2.1,show l3 (.Z g.at_)=true from rfl,show l3 (.str g.name)=true from rfl]
def lL(X:cl)(h:M ak)(P:Nat->Prop)(an:List Go.aQ.Node)(v:y):Prop:=∃b a2 cn aK,v= .ptr b 0/\P b/\aV X h (.ptr b 0)=some a2/\et X h P cn a2 6 aK/\mZ X h P an aK
def lL.ad{X:cl}{h R:M ak}{P Q:Nat->Prop}{an:List Go.aQ.Node}{v:y}(a:lL X h P an v)(q:∀e,P e->Z X R e=Z X h e)(aB:∀e,P e->Q e):lL X R Q an v:=by
 obtain⟨b,a2,cn,aK,rfl,H,K,am,aC⟩:=a
 exact⟨b,a2,cn,aK,rfl,aB _ H,zP (q _ H) K,(am.ad q).lift aB,aC.ad q aB⟩
def nW(X:cl)(h:M ak):(Nat->Prop)->List Go.aQ.Node->List (List y)->Prop
 |_,[],aK=>aK=[]
 |P,ai::b8,aK=>∃row fV Q,aK=row::fV/\(∀e,Q e->P e)/\wU X h Q ai row/\nW X h (λe=>P e/\¬Q e) b8 fV
def nW.ad{X:cl}{h R:M ak}:∀{b8:List Go.aQ.Node}{aK:List (List y)}{P Q:Nat->Prop}(q:∀e,P e->Z X R e=Z X h e) (aB:∀e,P e->Q e),nW X h P b8 aK->nW X R Q b8 aK:=by
 intro b8
 induction b8 with
 |nil=>intro aK P Q q aB a;exact a
 |cons ai b8 aj=>
  rintro aK P Q q aB ⟨row,fV,eE,H,bG,K,am⟩
  exact⟨row,fV,eE,H,λe B=>aB e (bG e B),K.ad (λe B=>q e (bG e B)) (λe B=>B),aj (λe B=>q e B.1) (λe B=>⟨aB e B.1,B.2⟩) am⟩
def nW.snoc{X:cl}{h:M ak}{Q:Nat->Prop}{ai:Go.aQ.Node}{row:List y}(a:wU X h Q ai row):∀{b8:List Go.aQ.Node}{aK:List (List y)}{oD P:Nat->Prop},nW X h oD b8 aK->(∀e,oD e->P e)->(∀e,Q e->P e/\¬oD e)->nW X h P (b8++[ai]) (aK++[row]):=by
 intro b8
 induction b8 with
 |nil=>rintro aK oD P rfl H K;exact⟨row,[],Q,rfl,λe B=>(K e B).1,a,rfl⟩
 |cons E b8 aj=>
  rintro aK oD P ⟨mw,fV,eE,rfl,bG,am,aC⟩ H K
  exact⟨mw,fV++[row],eE,rfl,λe B=>H e (bG e B),am,aj aC (λe B=>⟨H e B.1,B.2⟩) (λe B=>⟨⟨(K e B).1,λku=>(K e B).2 (bG e ku)⟩,λo5=>(K e B).2 o5.1⟩)⟩
def nW.wide{X:cl}{h:M ak}:∀{b8:List Go.aQ.Node}{aK:List (List y)}{P:Nat->Prop},nW X h P b8 aK->aK.length=b8.length/\∀r∈aK,r.length=6:=by
 intro b8
 induction b8 with
 |nil=>rintro aK P rfl;simp
 |cons E b8 aj=>
  rintro aK P ⟨mw,fV,eE,rfl,bG,K,am⟩
  obtain⟨aC,bm⟩:=aj am
  refine⟨by simp[aC],λr V=> ?_⟩
  rcases Zr.1 V with rfl|V
  ·exact K.row.len
  ·exact bm r V
def nW.nodes{X:cl}{h:M ak}:∀{b8:List Go.aQ.Node}{aK:List (List y)}{P:Nat->Prop},nW X h P b8 aK->mZ X h P b8 aK:=by
 intro b8
 induction b8 with
 |nil=>intro aK P a;exact a
 |cons ai b8 aj=>rintro aK P ⟨row,fV,eE,H,bG,K,am⟩;exact⟨row,fV,H,K.row.ad (λ_ _=>rfl) bG,(aj am).ad (λ_ _=>rfl) λ_ a=>a.1⟩
def rU(X:cl)(h:M ak)(P:Nat->Prop)(an:List Go.aQ.Node)(v:y):Prop:=∃(ah:Nat->Nat) (b:Nat) (a2:y) (cn:Nat) (aK:List (List y)),v= .ptr b 0/\(P b/\ah b=1)/\aV X h (.ptr b 0)=some a2/\hd X h (λe=>P e/\ah e=2) cn a2 6 aK/\nW X h (λe=>P e/\ah e=0) an aK/\yK X h b 1
def rU.prog{X:cl}{h:M ak}{P:Nat->Prop}{an:List Go.aQ.Node}{v:y}(a:rU X h P an v):lL X h P an v:=by
 obtain⟨ah,b,a2,cn,aK,rfl,H,K,am,aC,_⟩:=a
 exact⟨b,a2,cn,aK,rfl,H.1,K,am.rd.lift λ_ a=>a.1,aC.nodes.ad (λ_ _=>rfl) λ_ a=>a.1⟩
def rU.ad{X:cl}{h R:M ak}{P Q:Nat->Prop}{an:List Go.aQ.Node}{v:y}(a:rU X h P an v)(q:∀e,P e->Z X R e=Z X h e)(aB:∀e,P e->Q e):rU X R Q an v:=by
 obtain⟨ah,b,a2,cn,aK,rfl,H,K,am,aC,bm⟩:=a
 exact⟨ah,b,a2,cn,aK,rfl,⟨aB _ H.1,H.2⟩,zP (q _ H.1) K,(am.ad λe B=>q e B.1).lift λe B=>⟨aB e B.1,B.2⟩,aC.ad (λe B=>q e B.1) λe B=>⟨aB e B.1,B.2⟩,bm.ad (q _ H.1)⟩
section
variable{X:cl}{h R aX aP:M ak}{j au aM be aJ bJ:Nat}{aU:List Tok}{i:Nat}
def atA(az:dW X)(c2:mY X){n:Nat}(lY:n<=170000)(ly:aU.length<=100000)(ay:iu X h j aJ bJ aU i){r:Except Int (List Go.aQ.Node×List Tok)}(V:nodes n [] (aU.drop i)=some r):
 a1 X 19 [.ptr aJ 0] h j (λab R au=>∃an cx,r= .ok (an,aU.drop cx)/\rU X R (ei j au) an ab/\aQ X R aJ bJ aU cx/\cu X [aJ] h j R au) (iN X aJ h j r):=by
 refine zL az (af2 X) ?_
 rw[af3]
 unfold Uz
 have gx:=ay.aY
 have j8:=ay.hi
 have hB:=ay.ch
 have jy:=ay.gV
 refine c7 ⟨?_⟩
 have XJ:Z X (bl X h j (zI [.aW] 1)) j=zI [.aW] 1:=bn Zo
 have bY:bp X h j (bl X h j (zI [.aW] 1)) (j+1):=dM
 refine gK (λm I R aS=>∃(a2:y) (an:List Go.aQ.Node) (aK:List (List y)) (cy:List Nat) (cx:Nat) (c:Bool),I.g 0=some (.ptr aJ 0)/\I.g 3=some (.ptr j 0)/\I.g 4=some (.bool c)/\Z X R j=zI [a2] 1/\gu X R a2 6 aK.flatten cy/\(∀e∈cy,j+1<=e/\e<aS)/\nW X R (p3 (j+1) aS cy) an aK/\aQ X R aJ bJ aU cx/\cu X [aJ] h j R aS/\j+1<=aS/\an.length+m<=n/\
  (if c then nodes m an (aU.drop cx)=some r else r= .ok (an,aU.drop cx)))
  n ⟨.aW,[],[],[],i,true,bF,bF,bF,XJ, .inl (.inl ⟨rfl,rfl,rfl⟩),Zs,rfl,ay.par.ex bY Zo Zo,cu.of bY,Zj _,Zs,V⟩ ?_
 clear V XJ bY
 rintro m I aP be ⟨a2,an,aK,cy,jr,c,t0,t3,t4,ti,uS,m6,L3,dm,dt,f1,FB,V⟩
 cases c with
 |false=>
  simp only[Zv,ZD]at V
  subst V
  refine dq @t4 @t3 ⟨?_⟩
  have vY:=L3.wide
  obtain⟨cn,c3⟩:=uS.JJ Zd vY.2 (by rw[vY.1];omega) (ek:=λe=>ei j be e/\e∈cy) (λe B=>by have:=m6 e B;exact⟨⟨Zo,Zo⟩,B⟩)
  exact⟨an,jr,rfl,⟨λe=>if e=j then 1 else if e∈cy then 2 else 0,j,a2,cn,aK,rfl,⟨⟨Zo,Zo⟩,Zu rfl⟩,by rw[bU ti];rfl,c3.lift λe B=>⟨B.1,(Zg (zE (m6 e B.2))).trans (Zu B.2)⟩,L3.ad (λ_ _=>rfl) (λe B=>⟨⟨zE B.1,B.2.1⟩,(Zg (zE B.1)).trans (Zg B.2.2)⟩),Zo,_,_,ti,Zj _⟩,dm,dt⟩
 |true=>
  simp only[ZE]at V
  cases m with
  |zero=>simp[nodes]at V
  |succ m=>
  unfold nodes at V
  have fB:=ay.go dm dt.le
  obtain⟨bB,cp,fj⟩:=gu.one uS
  have nJ:aV X aP (.ptr j 0)=some a2:=by rw[bU ti];rfl
  refine g6 @t4 @t3 @t0 @nJ ⟨?_⟩
  have AK:∃Eb,Go.aQ.node m (aU.drop jr)=some Eb/\(match Eb with
   | .error E=>r= .error E
   | .ok (ai,k)=>(match k with
     |[]=>none
     |x::_=>if x.kind=7 then ok (an++[ai]) k else nodes m (an++[ai]) k)=some r):=by
   rcases ge V with ⟨E,H,rfl⟩|⟨ai,cb,H,V⟩
   ·exact⟨_,H,rfl⟩
   ·exact⟨_,H,V⟩
  obtain⟨Eb,H,gn⟩:=AK
  clear V
  have nh:=fB.go (au:=be+12) dm Zo
  refine(asD az c2 Zo ly nh H).mono ?_ (λab R au a=>by
   obtain⟨E,rfl,rfl,a⟩:=a
   subst gn
   exact⟨E,rfl,rfl,dt.trans (a.down Zo (λb al=> .inl al))⟩)
  rintro v3 bf bE ⟨g,i3,row,rfl,rfl,RL,gz,eG⟩
  have jE:=eG.le
  have Fj:cu X [aJ] h j bf bE:=dt.trans (eG.down Zo (λb al=> .inl al))
  have Fz:=RL.row.len
  have oY:=RL.row.iI
  obtain⟨gq,eA,eU,gr,l4,ll,rfl⟩:∃gq eA eU gr l4 ll,row=[gq,eA,eU,gr,l4,ll]:=by
   match row,Fz with
   |[E,b,c,d,D,f],_=>exact⟨E,b,c,d,D,f,rfl⟩
  have q3:Z X bf j=zI [a2] 1:=by rw[eG.ad _ Zo Zx];exact ti
  have cM:∀e,j<=e->e<be->Z X bf e=Z X aP e:=λe H K=>eG.ad e Zo Zx
  have aqK:aV X bf (.ptr j 0)=some a2:=by rw[bU q3];rfl
  refine ce @aqK ⟨?_⟩
  refine j0 fj ?_
  have h7:hI X (bl X bf (be+7) (zI [gq,eA,eU,gr,l4,ll] 6)) 6 (.slice (be+7) 0 1 1)=some (1,[gq,eA,eU,gr,l4,ll]):=pp (bn Zo) (lk _) rfl _
  have vY:=L3.wide
  have oV:=mf vY.2
  obtain⟨po,bT,hS,ii,pS,mh,gg⟩:=(uS.ad (R:=bl X bf (be+7) (zI [gq,eA,eU,gr,l4,ll] 6)) (λe B=>by have:=m6 e B;rw[aL Zo Zo];exact cM e Zo Zo)).append (j:=bE) Zd h7 rfl Zd oY (by rw[oV,vY.1];simp only[Zz,ZY];omega) Zo (λe B=>zE (m6 e B))
  refine kh ii ?_
  obtain⟨ef,eX,jS⟩:=ib.one pS
  have eL:∀e,e<bE->e≠be+7->e∉cy->Z X bT e=Z X bf e:=λe H K am=>by rw[gg e Zo am,aL Zo K]
  have dh:∀e,e<j+1->e∉cy:=λe H K=>zE (m6 e K)
  have xt:Z X bT j=zI [a2] 1:=by rw[eL _ Zo Zo (dh _ Zo)];exact q3
  refine c7 ⟨?_⟩
  refine gi (nO (W:=0) xt Zo Zo ef eX) ?_
  refine ce @t0 ⟨?_⟩
  have eM:∀e,e≠j->∀cK,Z X (bl X bT j cK) e=Z X bT e:=λe a cK=>aL Zo a
  have g8:∀cK,aQ X (bl X bT j cK) aJ bJ aU i3:=λcK=>gz.ad (by rw[eM _ Zo,eL _ Zo Zo (dh _ Zo)]) (by rw[eM _ Zo,eL _ Zo Zo (dh _ Zo)])
  obtain⟨x,k,aH,xP⟩:∃x k,aU.drop i3=x::k/\(if x.kind=7 then ok (an++[g]) (aU.drop i3)else nodes m (an++[g]) (aU.drop i3))=some r:=by
   cases aH:aU.drop i3 with
   |nil=>rw[aH]at gn;cases gn
   |cons x k=>rw[aH]at gn;exact⟨x,k,rfl,gn⟩
  refine e8 (λbZ=>Z X bZ j=zI [po] 1/\(∀e,e≠j->Z X bZ e=Z X bT e)) ⟨by rw[bn Zo];rfl,λe a=>eM e a _⟩ ?_
  rintro bZ ⟨Fa,eM⟩
  have aa1:aQ X bZ aJ bJ aU i3:=gz.ad (by rw[eM _ Zo,eL _ Zo Zo (dh _ Zo)]) (by rw[eM _ Zo,eL _ Zo Zo (dh _ Zo)])
  refine(rp az Zo aa1 Zo Zo (fz aH).1).Zm ?_
  rintro aew b9 dP ⟨rfl,eY⟩
  have qx:=eY.le
  have dS:∀e,e≠j->e<bE+1->Z X b9 e=Z X bT e:=λe H K=>by rw[eY.ad e K,eM e H]
  have fin:∀(cP:dc) (c:Bool),cP.g 0=some (.ptr aJ 0)->cP.g 3=some (.ptr j 0)->cP.g 4=some (.bool c)->(if c then nodes m (an++[g]) (aU.drop i3)=some r else r= .ok (an++[g],aU.drop i3))->∃fI,fI<m+1/\∃(a2:y) (an:List Go.aQ.Node) (aK:List (List y)) (cy:List Nat) (cx:Nat) (c:Bool),cP.g 0=some (.ptr aJ 0)/\cP.g 3=some (.ptr j 0)/\cP.g 4=some (.bool c)/\Z X b9 j=zI [a2] 1/\gu X b9 a2 6 aK.flatten cy/\(∀e∈cy,j+1<=e/\e<dP)/\nW X b9 (p3 (j+1) dP cy) an aK/\aQ X b9 aJ bJ aU cx/\cu X [aJ] h j b9 dP/\j+1<=dP/\an.length+fI<=n/\
   (if c then nodes fI an (aU.drop cx)=some r else r= .ok (an,aU.drop cx)):=by
   intro cP c oq d7 fU aA
   refine⟨m,Zo,po,an++[g],aK++[[gq,eA,eU,gr,l4,ll]],hS,i3,c,oq,d7,fU,by rw[eY.ad _ Zo];exact Fa, .inl ?_, ?_, ?_, ?_, ?_,Zo,Zx,aA⟩
   ·rw[YI,ZL,List.flatten_nil,Yn]
    exact pS.ad λe B=>dS e (by rcases mh e B with rfl|a;omega;have:=m6 e a;omega) (by rcases mh e B with rfl|a;omega;have:=m6 e a;omega)
   ·intro e B
    rcases mh e B with rfl|a
    ·omega
    ·have:=m6 e a;omega
   ·refine nW.snoc (RL.ad (λe B=> ?_) (λe B=>B)) (L3.ad (λe B=> ?_) (λe B=>B)) (λe B=> ?_) (λe B=>⟨?_,λo5=>by have:=B.1;have:=o5.2.1;omega⟩)
    ·have H:=B.1;have K:=B.2
     rw[dS e Zo Zo,eL e Zo Zo (λa=>zE (m6 e a))]
    ·have H:=B.1;have K:=B.2.1
     rw[dS e Zo Zo,eL e Zo Zo B.2.2,cM e Zo Zo]
    ·have H:=B.1;have K:=B.2.1
     refine⟨H,Zo,λa=> ?_⟩
     rcases mh e a with rfl|a
     ·omega
     ·exact B.2.2 a
    ·have H:=B.1;have K:=B.2
     refine⟨Zo,Zo,λa=> ?_⟩
     rcases mh e a with rfl|a
     ·omega
     ·have:=m6 e a;omega
   ·exact aa1.ex eY Zo Zo
   ·exact⟨Zo,λb al bN=>by rw[dS b Zo Zo,eL b Zo Zo (dh b Zo)];exact Fj.ad b al bN⟩
  by_cases aG:x.kind=7
  ·rw[Zu aG]at xP
   simp only[ok,Zc]at xP
   have d:decide (x.kind=7)=true:=by simp[aG]
   refine dq b0.eq_1 @aG ⟨?_⟩
   exact fin _ false (bz t0) (bz t3) (ho) xP.symm
  ·rw[Zg aG]at xP
   have d:decide (x.kind=7)=false:=by simp[aG]
   refine dq b0.eq_1 @aG ⟨?_⟩
   exact fin _ true (bz t0) (bz t3) (by refine Al ⟨?_⟩;simp[aG]) xP
end
end
open Go.bs
noncomputable section
variable (X : cl) (h : M ak) (j : Nat) (ah ax : bQ) (a0 a7 b2 a3 a4 a5 ic iw ko : y)
def UD(a:aT)(b c:y)(d:M ak)(e:Nat)(f g:bQ):Prop:=
 av (dD a d .eql 41 true b .cN) λh=>gS h c d e λd e i=>gS h b e i λe i j=>kS h (λb=>mm a d [e] i j b g) i j λd e i=>eT h (he .not d) e i λd e i=>c4 (λd=>bC (λb c d=>jL b 8 a c λ_ _ e=>lI e (λ_ a b=>f (.tuple []) a b) λf h=>gA (λb c d e=>ki c 19 18 λf=>bC (λc d e=>nT (λa c d=>iZ a 19 λe=>b (ae a 19 e) c d) c 17 19 1 λb f=>av (aV a d f) λf=>cg (c 1) λh=>a1 a 26 [f,h] d e (λ_ a d=>b (ae c 5 f) a d) g) λa=>bh f (a (ae c 20 f) d e) (h (ae c 20 f) d e)) (zN b 17 e 18 f 19 (.Z 0)) c d) λa=>bh d (f (.tuple []) e i) (a (ae (c6 [b,c]) 13 d) e i)) λa=>bh h (a .zT) (a d)
def agb:dp X 26 [a0,a7] h j ah ax=UD X a0 a7 h j ah ax:=Zk
def aga:c8 X 26 2=true:=Zk
def OK(a:aT)(b:y)(c:M ak)(d:Nat)(e f:bQ):Prop:=
 GR d a c λc d g=>a1 a 22 [b] d g (λd g h=>Ep d λd=>bC (λb c d=>jL b 0 a c λ_ _ g=>lI g (λb c d=>av (fe [.Z 0, .Z 0] []) λf=>nU b 2 a c 2 f λa b=>e b a d) λh i=>gA (λb c d g=>ki c 15 14 λh=>bC (λc d g=>bC (λa c d=>iZ a 15 λe=>b (ae a 15 e) c d) λb=>f3 c 15 13 λh i=>cg (c 15) λj=>Et 6 i j a d λi=>GQ g a d λd g j=>av (es a g 6 d i) λg=>e5 c λi=>av (dT a g 6 d) λk=>a1 a 23 [k] g j (λg j k=>gN a j k (.map k) (.map [] 0) λj k l=>av (fe [.cN, .Z 0, .cN, .ms, .Z 0, .Z 0] [(0,1,i),(1,1,h),(2,1,g),(3,1,j)]) λg=>jv a k l g λg i j=>a1 a 24 [g] i j (λ_ f i=>jj g 4 λj=>l9 j a f λj=>Ep j λj=>bC b λb=>bh j (jj g 4 λb=>av (dT a f 2 b) λb=>nU c 2 a f 2 b λa b=>e b a i) (b (zO c 4 d 3 h 5 g 34 j) f i)) f) f) λa=>bh h (a (ae c 16 h) d g) (i (ae c 16 h) d g)) (zN b 13 g 14 h 15 (.Z 0)) c d) λf=>bh d (av (fe [.Z 0, .Z 0] [(0,1, .Z 1)]) λb=>wQ a g 2 c b λa b=>e b a h) (f (zM (c6 [b]) 2 c 8 d) g h)) f
def Vs:dp X 7 [a0] h j ah ax=OK X a0 h j ah ax:=Zk
def Vr:c8 X 7 1=true:=Zk
def Ks(a:aT)(b:y)(c:M ak)(d:Nat)(e f:bQ):Prop:=
 av (dD a c .eql 23 true b .cN) λg=>gS g b c d λc d h=>vk g c d h 0 a λc d h=>eT g (fM c) d h λc d h=>eT g (bg .eql c (.Z 0)) d h λc d h=>c4 (λc=>gS c b d h λd g h=>vk c d g h 0 a λd g h=>eT c (fM d) g h λd g h=>eT c (bg .gtr d (.Z 64)) g h λd g h=>c4 (λc=>bC (λb c d=>jL b 0 a c λ_ _ g=>lI g (λa b c=>cg (a 3) λa=>e a b c) λh i=>gA (λb c d g=>ki c 30 29 λh=>bC (λc d g=>nT (λa c d=>iZ a 30 λe=>b (ae a 30 e) c d) c 28 30 6 λb h=>av (dT a d 6 h) λh=>GQ g a d λd g i=>wQ a g 6 d h λg h=>a1 a 38 [h] g i (λa f g=>bC b λb=>rH a 1 b λb h=>bh b (e a f g) (rH a 22 h λe h=>bh e (h (zM (zO c 5 d 6 a 36 a 37 b) 40 e 3 a) f g) (h (ae (zO c 5 d 6 a 36 a 37 b) 40 e) f g))) f) λa=>bh h (a (ae c 31 h) d g) (i (ae c 31 h) d g)) (zO b 3 (.Z 0) 28 g 29 h 30 (.Z 0)) c d) λa=>bh c (e (.Z 1) g h) (a (zM (c6 [b]) 2 (.Z 0) 24 c) g h)) λa=>bh c (a .zT) (a d)) λa=>bh g (a .zT) (a c)
def OF:dp X 22 [a0] h j ah ax=Ks X a0 h j ah ax:=Zk
def OE:c8 X 22 1=true:=Zk
def adU(a:aT)(b:bQ):fK:=λc d e=>pj a [] b c c.bb d e
def D4(a:aT)(b c:bQ):sX:=λd e f g=>wt a [] b c d e d.bb f g
def UC(a:aT)(b:y)(c:M ak)(d:Nat)(e f:bQ):Prop:=
 jv a c d b λc d g=>fo (g+15) λh=>av (aV a d c) λi=>fO i 0 a d λ_ i=>fO i 0 a d λ_ i=>av (aV a d c) λj=>fO j 1 a d λ_ j=>Et 6 i j a d λi=>av (kJ [.str [], .Z 0, .aW, .aW, .aW, .aW] (g+13)) λj=>lD a d (g+13) j.1 j.2 λd g=>av (es a g 6 d i) λg=>fo (h+12) λh=>av (aV a g c) λi=>fO i 0 a g λ_ i=>l9 d a g λj=>a1 a 40 [i,j] g h (λg h i=>kI g λg _=>av (aV a h c) λj=>fO j 1 a h λ_ j=>av (bg .lss g j) λj=>bC (λb c d=>kj b 1 a c λg=>rJ b 2 a c 6 λh=>a1 a 42 [g,h] c d (λ_ c d=>iY b 2 5 a c λ_ g=>lI g (λb c d=>rJ b 2 a c 6 λg=>a1 a 39 [g] c d (λc d g=>bC (λb c d=>adU a e b c d) λh=>D8 a 103 c [85,86] (sK a (λ_ _ b _ _ c d e=>cg (c 85) λf=>yx e a d λd e g=>cg (c 86) λh=>av (es a e 8 d h) λa=>b (zM c 10 f 11 d) a g) λ_ b c _ _ d e f=>bC c λc=>fo (f+12) λf=>cg (d 10) λg=>av (bg .neq g (.Z 1)) λg=>R7 g (d 1) (λb=>aV a e b) e λe h=>wO g e h 3 a λe h=>R7 g (d 11) (λa=>hJ 0 a) h λh i=>kR g (aV a i h) i λh i=>kR g (nd a i 9 (.Z 0) e h false) i λe h=>kR g (bg .eql e (.Z 0)) h λe h=>c4 (λe=>bC c λc=>bh e (kj d 1 a h λg=>iY d 11 1 a h λ_ i=>a1 a 41 [g, .Z 37,i] h f (λ_ a b=>c (ae d 98 e) a b) (b (hT [99,100,101,102] (ae d 98 e)))) (c (ae d 98 e) h f)) λa=>bh g (a e) (a .zF)) h (CJ 4 h λ_ _ _ _=>False) (adU a e) (D4 a e f) (ae b 84 c) d g) (D4 a e f (hT [83,84] b))) λh i=>gA (λb c d g=>ki c 51 50 λh=>bC (λc d g=>nT (λa c d=>iZ a 51 λe=>b (ae a 51 e) c d) c 49 51 4 λb h=>Ke a d h g 0 λd g h i=>lI i (λc d g=>kj c 1 a d λh=>iY c 6 3 a d λ_ i=>a1 a 44 [h,i] d g (λ_ a d=>b c a d) (D4 a e f (hT [78,79,80,81] c))) λb j=>gA (λb c d g=>ki c 58 57 λh=>bC (λc d g=>bC (λa c d=>iZ a 58 λe=>b (ae a 58 e) c d) λb=>f3 c 58 56 λh i=>cg (c 58) λj=>Es i j a d λi=>iY c 6 1 a d λ_ j=>av (fM j) λj=>av (bg .lss h j) λj=>bC (λc d g=>kj c 1 a d λh=>f3 c 8 9 λi j=>a1 a 43 [h,i,j] d g (λ_ a d=>b c a d) (D4 a e f (hT [73,74,75,76] c))) λb=>bh j (iY c 6 1 a d λ_ e=>Es e h a d λa=>b (ae (zO c 7 h 8 i 9 (.Z 0) 67 j) 9 a) d g) (b (zO c 7 h 8 i 9 (.Z 0) 67 j) d g)) λa=>bh h (a (ae c 59 h) d g) (j (ae c 59 h) d g)) (zO c 6 d 56 i 57 b 58 (.Z 0)) h g) λa=>bh h (a (ae c 52 h) d g) (i (ae c 52 h) d g)) (zN b 49 g 50 h 51 (.Z 0)) c d) (D4 a e f (hT [45,46,47] b))) λk=>bh j (av (aV a h c) λl=>gs 1 d a h λ_ m=>a1 a 41 [l, .Z 24,m] h i (λ_ a e=>k (zO (c6 [b]) 1 c 2 d 3 g 40 j) a e) (D4 a e f (hT [41,42,43,44] (zO (c6 [b]) 1 c 2 d 3 g 40 j)))) (k (zO (c6 [b]) 1 c 2 d 3 g 40 j) h i)) (D4 a e f (hT [26,27,28,29,30,31,32,25,33,34,3,4] (zM (c6 [b]) 1 c 2 d)))
def af9:CM X 24 [a0] h j ah ax=UC X a0 h j ah ax:=Zk
def af8:c8 X 24 1=true:=Zk
def UN(a:aT)(b:y)(c:M ak)(d:Nat)(e _:bQ):Prop:=
 jv a c d b λa b c=>e (.func (.func 71) [] [a]) b c
def agw:dp X 39 [a0] h j ah ax=UN X a0 h j ah ax:=Zk
def agv:c8 X 39 1=true:=Zk
def UP(a:aT)(b c:y)(d:M ak)(e:Nat)(f g:bQ):Prop:=
 jv a d e c λd e h=>av (dD a e .eql 23 true b .cN) λi=>bC (λb c d=>jL b 0 a c λ_ _ e=>cg (b 3) λb=>a1 a 72 [e, .func (.func 73) [] [b]] c d (λb c d=>av (r1 a c .max [3,3] [b, .Z 0]) λa=>GV b λb=>f (.tuple [a,b]) c d) g) λa=>bh i (f (.tuple [.Z 0, .zF]) e h) (a (zO (c6 [b,c]) 3 d 4 (.Z 0) 5 .zF 8 i) e h)
def agy:dp X 40 [a0,a7] h j ah ax=UP X a0 a7 h j ah ax:=Zk
def agx:c8 X 40 2=true:=Zk
def G7(a:aT)(b:y)(c:M ak)(d:Nat)(e f:bQ):Prop:=
 jv a c d b λc d g=>gs 2 c a d λ_ h=>av (fM h) λh=>gs 3 c a d λ_ i=>GS i h λh=>gs 4 c a d λ_ i=>GS i h λh=>l9 c a d λi=>a1 a 65 [i] d g (λd g i=>av (he .not d) λd=>sU d 3 c g i a λg i j=>eT d (fM g) i j λg i j=>eT d (bg .eql g (.Z 0)) i j λg i j=>c4 (λd=>gS d h i j λg i j=>eT d (bg .gtr g (.Z 256)) i j λg i j=>c4 (λd=>sU d 5 c i j a λg i j=>eT d (fM g) i j λg i j=>eT d (bg .gtr g (.Z 4096)) i j λg i j=>c4 (λd=>sU d 2 c i j a λg i j=>sU d 3 c i j a λi j k=>sU d 4 c j k a λj k l=>kS d (λb=>av (hv 3 [.aW, .aW, .aW] [(0,1,g),(1,1,i),(2,1,j)] l) λc=>gN a k l c.1 c.2 λa c d=>b a c d) k l λg i j=>kS d (λb=>a1 a 67 [g] i j b f) i j λg i j=>kS d (λb=>a1 a 66 [g] i j b f) i j λg i j=>eT d (he .not g) i j λg i j=>c4 (λd=>bC (λb c d=>iY b 1 5 a c λ_ g=>lI g (λa b c=>k5 a λa=>e a b c) λh i=>gA (λb c d g=>ki c 55 54 λh=>bC (λc d g=>nT (λa c d=>iZ a 55 λe=>b (ae a 55 e) c d) c 53 55 4 λb h=>Ke a d h g 3 λd g h i=>a1 a 69 [i] h g (λg h i=>l9 d a h λj=>av (fM j) λj=>av (bg .eql j (.Z 0)) λj=>sU j 0 d h i a λh i k=>gS j (.func (.func 68) [] []) i k λi k l=>kS j (λb=>a1 a 70 [h,i] k l b f) k l λa f h=>c4 (λa=>gS a g f h λf h i=>eT a (bg .eql f (.Z 1)) h i λf h i=>c4 (λa=>bC (λa c d=>cg (a 8) λe=>Ep e λe=>bC b λb=>bh e (cg (a 8) λf=>b (zM a 77 e 4 f) c d) (b (ae a 77 e) c d)) λb=>bh a (e (.Z 1) h i) (b (zO c 6 d 7 (.func (.func 68) [] []) 8 g 75 a) h i)) λb=>bh a (b .zT) (b f)) λb=>bh j (b .zT) (b a)) f) λa=>bh h (a (ae c 56 h) d g) (i (ae c 56 h) d g)) (zO b 4 (.Z 0) 53 g 54 h 55 (.Z 0)) c d) λa=>bh d (e (.Z 1) i j) (a (zO (c6 [b]) 1 c 2 (.Z 0) 3 h 51 d) i j)) λa=>bh d (a .zT) (a g)) λa=>bh d (a .zT) (a g)) λa=>bh d (a .zT) (a g)) λa=>bh d (a .zT) (a g)) f
def Ku:dp X 38 [a0] h j ah ax=G7 X a0 h j ah ax:=Zk
def Kt:c8 X 38 1=true:=Zk
def UM(a:aT)(b:y)(c:M ak)(d:Nat)(e f:bQ):Prop:=
 a1 a 64 [b,.Z 201] c d e f
def agu:dp X 37 [a0] h j ah ax=UM X a0 h j ah ax:=Zk
def agt:c8 X 37 1=true:=Zk
def UQ(a:aT)(b c d:y)(e:M ak)(f:Nat)(g _:bQ):Prop:=
 jj b 4 λh=>Eo h a e 0 λh=>bC (λ_ a b=>g (.tuple []) a b) λg=>bh h (av (fe [.Z 0, .Z 0] [(0,1,c),(1,1,d)]) λi=>jj b 4 λj=>av (es a e 2 j i) λa=>g (ae (c6 [b,c,d]) 11 h) a f) (g (ae (c6 [b,c,d]) 11 h) e f)
def agA:dp X 41 [a0,a7,b2] h j ah ax=UQ X a0 a7 b2 h j ah ax:=Zk
def agz:c8 X 41 3=true:=Zk
def S8(a:aT)(b:bQ):fK:=λc d e=>pj a [] b c c.bb d e
def Nr(a:aT)(b c:bQ):sX:=λd e f g=>wt a [] b c d e d.bb f g
def UR(a:aT)(b c:y)(d:M ak)(e:Nat)(f g:bQ):Prop:=
 jv a d e b λd e h=>jv a e h c λe h i=>gN a h i (.map i) (.map [] 0) λh i j=>av (kJ [.ms] j) λk=>gN a i j k.1 k.2 λi j k=>j2 a j i h λh=>av (dT a h 6 e) λj=>a1 a 39 [j] h k (λh j k=>bC (λb c d=>rJ b 3 a c 6 λe=>a1 a 39 [e] c d (λc d e=>bC (λb c d=>S8 a f b c d) λh=>D8 a 54 c [31,32] (sK a (λ_ _ b _ _ c d e=>yx e a d λd e f=>cg (c 32) λg=>av (es a e 8 d g) λa=>b (ae c 8 d) a f) λ_ b c _ _ d e f=>bC c λc=>fo (f+13) λg=>yB d 2 a e 2 λh=>iY d 8 5 a e λ_ i=>Ob f 10 a e λe f=>a1 a 74 [h,i] f g (λf g h=>kI f λf i=>av (es a g 11 e f) λe=>av (he .not i) λf=>MF f (d 8) (λa=>hJ 5 a) e h λe g h=>el f (aV a g e) g h λe g h=>el f (dD a g .neq 9 true e (.str [])) g h λe g h=>c4 (λe=>bC c λc=>bh e (kj d 2 a g λf=>iY d 8 6 a g λ_ j=>a1 a 41 [f, .Z 23,j] g h (λ_ a b=>c (zM d 10 i 49 e) a b) (b (hT [50,51,52,53] (zM d 10 i 49 e)))) (c (zM d 10 i 49 e) g h)) λa=>bh f (a e) (a .zF)) (b (hT [34,35,36,37,38,39,40,33,41,42,9,10] d))) h (CJ 2 h λ_ _ _ _=>False) (S8 a f) (Nr a f g) (ae b 30 c) d e) (Nr a f g (hT [29,30] b))) λl=>D8 a 54 h [14,15] (sK a (λ_ _ b _ _ c d e=>cg (c 14) λf=>yx e a d λd e g=>cg (c 15) λh=>av (es a e 8 d h) λa=>b (zM c 5 f 6 d) a g) λ_ b c _ _ d e f=>bC c λc=>kj d 4 a e λg=>iY d 6 0 a e λ_ h=>av (nd a e 9 (.Z 0) g h false) λg=>av (bg .gtr g (.Z 0)) λg=>bC (λb d e=>kj b 4 a d λf=>iY b 6 0 a d λ_ g=>cg (b 5) λh=>hu (DQ a d e 9 f g h) d e λ_ a d=>c b a d) λc=>bh g (kj d 2 a e λh=>iY d 6 1 a e λ_ i=>a1 a 41 [h, .Z 24,i] e f (λ_ a b=>c (ae d 20 g) a b) (b (hT [21,22,23,24] (ae d 20 g)))) (c (ae d 20 g) e f)) l (CJ 0 l λ_ _ _ _=>False) (S8 a f) (Nr a f g) (zO (c6 [b,c]) 2 d 3 e 4 i 13 h) j k) (Nr a f g (hT [12,13] (zN (c6 [b,c]) 2 d 3 e 4 i)))
def agC:CM X 42 [a0,a7] h j ah ax=UR X a0 a7 h j ah ax:=Zk
def agB:c8 X 42 2=true:=Zk
def US(a:aT)(b c d:y)(e:M ak)(f:Nat)(g h:bQ):Prop:=
 fO b 2 a e λ_ i=>a1 a 74 [i,c] e f (λe f i=>kI e λe j=>Kd i a f λf i k=>av (es a i 11 f e) λe=>fO b 3 a e λ_ i=>av (nd a e 9 (.Z 0) i c false) λl=>yz l λl=>hu (DQ a e k 9 i c l) e k λ_ e i=>bC (λ_ a b=>g (.tuple []) a b) λg=>yA j g λg k=>bh g (a1 a 41 [b, .Z 23,d] e i (λ_ a e=>k (zN (c6 [b,c,d]) 6 f 7 j 24 g) a e) h) (Eo f a e 1 λl=>gS l b e i λe i m=>vk l e i m 3 a λe i m=>gS l c i m λi m n=>eT l (nd a m 9 (.Z 0) e i false) m n λe i m=>eT l (bg .gtr e (.Z 1)) i m λe i m=>c4 (λe=>bC k λk=>bh e (a1 a 41 [b, .Z 24,d] i m (λ_ a h=>k (zO (c6 [b,c,d]) 6 f 7 j 24 g 30 e) a h) h) (k (zO (c6 [b,c,d]) 6 f 7 j 24 g 30 e) i m)) λa=>bh l (a .zT) (a e))) h
def agE:dp X 43 [a0,a7,b2] h j ah ax=US X a0 a7 b2 h j ah ax:=Zk
def agD:c8 X 43 3=true:=Zk
def UT(a:aT)(b c:y)(d:M ak)(e:Nat)(f g:bQ):Prop:=
 jv a d e b λb d e=>a1 a 26 [c, .func (.func 75) [] [b]] d e (λ_ a b=>f (.tuple []) a b) g
def agG:dp X 44 [a0,a7] h j ah ax=UT X a0 a7 h j ah ax:=Zk
def agF:c8 X 44 2=true:=Zk
def Vk(a:aT)(b c:y)(d:M ak)(e:Nat)(f g:bQ):Prop:=
 gs 2 c a d λ_ h=>gs 3 c a d λ_ i=>gs 4 c a d λ_ j=>av (fe [.aW, .aW, .aW] [(0,1,h),(1,1,i),(2,1,j)]) λh=>bC (λ_ a b=>f (.tuple []) a b) λi=>gA (λb c d e=>cg (c 14) λh=>av (bg .lss h (.Z 3)) λh=>bC (λc d e=>bC (λa c d=>iZ a 14 λe=>b (ae a 14 e) c d) λb=>f3 c 14 13 λh i=>cg (c 14) λj=>av (x1 false 3 1 i j) λi=>av (fM i) λj=>bC b λb=>gA (λc d e h=>ki d 20 19 λi=>bC (λb d e=>nT (λa b d=>iZ a 20 λe=>c (ae a 20 e) b d) b 18 20 8 λc h=>av (dT a d 8 h) λh=>yx e a d λd e i=>av (es a e 8 d h) λe=>f3 b 0 3 λh j=>av (bg .add (.Z 1) j) λj=>av (dT a e 8 d) λk=>mm a h [j,k] e i (λa e g=>yA a c λa c=>bh a (f (.tuple []) e g) (c (zM b 6 d 29 a) e g)) g) λa=>bh i (a (ae d 21 i) e h) (b (ae d 21 i) e h)) (ae (zO c 3 h 4 i 18 i 19 j) 20 (.Z 0)) d e) λa=>bh h (a (ae c 15 h) d e) (i (ae c 15 h) d e)) (zM (c6 [b,c]) 13 h 14 (.Z 0)) d e
def ahk:dp X 71 [a0,a7] h j ah ax=Vk X a0 a7 h j ah ax:=Zk
def ahj:c8 X 71 2=true:=Zk
def Vl(a:aT)(b c:y)(d:M ak)(e:Nat)(f g:bQ):Prop:=
 lI b (λ_ a b=>f (.Z (-1)) a b) λh i=>gA (λb c d e=>ki c 8 7 λh=>bC (λc d e=>bC (λa c d=>iZ a 8 λe=>b (ae a 8 e) c d) λb=>f3 c 8 1 λh i=>e5 c λj=>Et 6 j h a d λj=>mm a i [j] d e (λa d e=>bC b λb=>bh a (f h d e) (b (zM c 5 h 16 a) d e)) g) λa=>bh h (a (ae c 9 h) d e) (i (ae c 9 h) d e)) (zN (c6 [b,c]) 4 (.Z 0) 7 h 8 (.Z 0)) d e
def ahm:dp X 72 [a0,a7] h j ah ax=Vl X a0 a7 h j ah ax:=Zk
def ahl:c8 X 72 2=true:=Zk
def Vm(a:aT)(b c:y)(d:M ak)(e:Nat)(f _:bQ):Prop:=
 jv a d e b λb d e=>l9 b a d λb=>av (aV a d c) λc=>av (dD a d .eql 9 false b c) λa=>f a d e
def aho:dp X 73 [a0,a7] h j ah ax=Vm X a0 a7 h j ah ax:=Zk
def ahn:c8 X 73 2=true:=Zk
def OI(a:aT)(b:y)(c:M ak)(d:Nat)(e f:bQ):Prop:=
 av (dD a c .eql 9 true b (.str [])) λg=>gS g b c d λc d h=>eT g (mq c) d h λc d h=>eT g (bg .gtr c (.Z 32)) d h λc d h=>c4 (λc=>gS c b d h λd g h=>eT c (nI d (.Z 0)) g h λd g h=>eT c (bg .geq d (.int .u8 48)) g h λd g h=>gS c d g h λd g h=>iW d b g h λg h i=>el d (nI g (.Z 0)) h i λg h i=>el d (bg .leq g (.int .u8 57)) h i λg h i=>kS c (λa=>c4 (λb=>a b h i) λa=>bh d (a g) (a .zF)) h i λd g h=>c4 (λc=>gS c b g h λd g h=>gS c (.func (.func 90) [] []) g h λg h i=>kS c (λb=>a1 a 91 [d,g] h i b f) h i λd g h=>eT c (bg .geq d (.Z 0)) g h λd g h=>c4 (λc=>bC (λb c d=>av (aV a c (.ptr 3 0)) λg=>e5 b λh=>a1 a 92 [g,h] c d (λc d g=>av (he .not c) λc=>od c (b 0) d g λb d g=>mn c (λc=>a1 a 93 [b] d g c f) d g λa b d=>el c (he .not a) b d λa b d=>c4 (λa=>e a b d) λb=>bh c (b a) (b .zF)) f) λa=>bh c (e .zF g h) (a (zN (c6 [b]) 2 .zF 3 (.func (.func 90) [] []) 26 c) g h)) λa=>bh c (a .zT) (a d)) λa=>bh c (a .zT) (a d)) λa=>bh g (a .zT) (a c)
def Vd:dp X 65 [a0] h j ah ax=OI X a0 h j ah ax:=Zk
def Vc:c8 X 65 1=true:=Zk
def OJ(a:aT)(b:y)(c:M ak)(d:Nat)(e f:bQ):Prop:=
 lI b (λ_ a b=>e .zT a b) λg h=>gA (λb c d g=>ki c 7 6 λi=>bC (λc d g=>nT (λa c d=>iZ a 7 λe=>b (ae a 7 e) c d) c 5 7 8 λb h=>av (dT a d 8 h) λh=>yx g a d λd g i=>av (es a g 8 d h) λg=>l9 d a g λh=>a1 a 65 [h] g i (λg h i=>av (he .not g) λg=>eT g (hJ 2 d) h i λh i j=>eT g (dT a i 3 h) i j λh i j=>kS g (λb=>a1 a 94 [h] i j b f) i j λh i j=>eT g (dD a i .eql 9 true h (.str [])) i j λh i j=>c4 (λg=>sU g 5 d i j a λh i j=>eT g (dD a i .neq 9 true h (.str [])) i j λh i j=>gS g h i j λh i j=>vj h 5 d i j a λi j k=>mn h (λb=>a1 a 65 [i] j k b f) j k λf i j=>el h (he .not f) i j λf i j=>kS g (λa=>c4 (λb=>a b i j) λa=>bh h (a f) (a .zF)) i j λf h i=>c4 (λf=>sU f 5 d h i a λg h i=>eT f (dD a h .eql 9 true g (.str [])) h i λg h i=>gS f g h i λg h i=>vj g 7 d h i a λa h i=>kS f (λb=>c4 (λa=>b a h i) λb=>bh g (b a) (b .zF)) h i λa g h=>c4 (λa=>bC b λb=>bh a (e .zF g h) (b (zM c 4 d 40 a) g h)) λb=>bh f (b .zT) (b a)) λa=>bh g (a .zT) (a f)) λa=>bh g (a .zT) (a h)) f) λa=>bh i (a (ae c 8 i) d g) (h (ae c 8 i) d g)) (zO (c6 [b]) 2 .zF 5 b 6 g 7 (.Z 0)) c d
def Vf:dp X 66 [a0] h j ah ax=OJ X a0 h j ah ax:=Zk
def Ve:c8 X 66 1=true:=Zk
def Vg(a:aT)(b:y)(c:M ak)(d:Nat)(e f:bQ):Prop:=
 lI b (λb c d=>cg (b 3) λg=>a1 a 95 [.aW,g] c d (λc d f=>e5 b λg=>lI g (λa b c=>cg (a 6) λa=>e a b c) λe h=>gA (λb c d e=>ki c 27 26 λf=>bC (λc d e=>nT (λa c d=>iZ a 27 λe=>b (ae a 27 e) c d) c 25 27 1 λb f=>av (aV a d f) λf=>cg (c 6) λg=>hu (ju a d e 8 g f) d e λa d e=>b (zM c 8 f 6 a) d e) λa=>bh f (a (ae c 28 f) d e) (h (ae c 28 f) d e)) (zO b 6 c 25 g 26 e 27 (.Z 0)) d f) f) λe g=>gA (λb c d e=>ki c 11 10 λh=>bC (λc d e=>nT (λa c d=>iZ a 11 λe=>b (ae a 11 e) c d) c 9 11 1 λb g=>av (aV a d g) λa=>cg (c 3) λg=>GS a g λg=>Er g λh=>bC b λb=>bh h (av (some (y.iface 9 (.str [108,101,110,32,111,117,116,32,111,102,32,114,97,110,103,101]))) λa=>yg f a d e) (b (zN c 5 a 3 g 20 h) d e)) λa=>bh h (a (ae c 12 h) d e) (g (ae c 12 h) d e)) (ae (zO (c6 [b]) 2 .aW 3 (.Z 0) 9 b 10 e) 11 (.Z 0)) c d
def ahc:dp X 67 [a0] h j ah ax=Vg X a0 h j ah ax:=Zk
def ahb:c8 X 67 1=true:=Zk
def Vh(a:aT)(b:y)(c:M ak)(d:Nat)(e f:bQ):Prop:=
 a1 a 65 [b] c d (λa b c=>av (he .not a) λa=>e a b c) f
def ahe:dp X 68 [a0] h j ah ax=Vh X a0 h j ah ax:=Zk
def ahd:c8 X 68 1=true:=Zk
def Vi(a:aT)(b:y)(c:M ak)(d:Nat)(e f:bQ):Prop:=
 av (kJ [.Z 0] d) λg=>gN a c d g.1 g.2 λc d g=>rI a d c 0 λd=>av (kJ [.Z 0] g) λh=>gN a d g h.1 h.2 λd g h=>rI a g d 0 λg=>av (kJ [.nilFunc] h) λi=>gN a g h i.1 i.2 λg h i=>av (es a h 1 g (.func (.func 96) [] [d,c,g])) λd=>av (aV a d g) λg=>mm a g [b] d i (λ_ b d=>av (aV a b c) λa=>e a b d) f
def ahg:dp X 69 [a0] h j ah ax=Vi X a0 h j ah ax:=Zk
def ahf:c8 X 69 1=true:=Zk
def Vj(a:aT)(b c:y)(d:M ak)(e:Nat)(f g:bQ):Prop:=
 a1 a 98 [b,c] d e (λa b c=>GV a λa=>f a b c) g
def ahi:dp X 70 [a0,a7] h j ah ax=Vj X a0 a7 h j ah ax:=Zk
def ahh:c8 X 70 2=true:=Zk
def OH(a:aT)(b c:y)(d:M ak)(e:Nat)(f g:bQ):Prop:=
 av (dD a d .eql 41 true b .cN) λh=>gS h c d e λd e i=>eT h (bg .eql d (.Z 0)) e i λd e i=>c4 (λd=>bC (λb c d=>TX b 1 1 λe=>jL b 8 a c λ_ _ h=>lI h (λa b c=>iZ a 5 λa=>f a b c) λf i=>gA (λb c d e=>ki c 21 20 λf=>bC (λc d e=>nT (λa c d=>iZ a 21 λe=>b (ae a 21 e) c d) c 19 21 1 λb f=>av (aV a d f) λf=>f3 c 5 1 λh i=>a1 a 64 [f,i] d e (λd e g=>av (r1 a e .max [3,3] [h,d]) λa=>b (zM c 7 f 5 a) e g) g) λa=>bh f (a (ae c 22 f) d e) (i (ae c 22 f) d e)) (ae (zO b 1 e 5 (.Z 0) 19 h 20 f) 21 (.Z 0)) c d) λa=>bh d (f (.Z 0) e i) (a (zM (c6 [b,c]) 4 (.Z 0) 13 d) e i)) λa=>bh h (a .zT) (a d)
def Vb:dp X 64 [a0,a7] h j ah ax=OH X a0 a7 h j ah ax:=Zk
def Va:c8 X 64 2=true:=Zk
def Vo(a:aT)(b c:y)(d:M ak)(e:Nat)(f g:bQ):Prop:=
 a1 a 76 [b] d e (λd e h=>bC (λb c d=>jL b 0 a c λ_ _ e=>av (bg .eql e (.Z 25)) λe=>bC (λ_ a b=>f .zT a b) λf=>bh e (fo (d+14) λd=>yB b 1 a c 0 λh=>jL b 2 a c λ_ _ i=>a1 a 40 [h,i] c d (λc d h=>kI c λc i=>bC f λf=>yA i f λf j=>bh f (fo (h+6) λh=>kj b 1 a d λk=>jL b 1 a d λ_ _ l=>a1 a 41 [k, .Z 23,l] d h (λ_ a d=>j (zO b 34 e 6 c 7 i 47 f) a d) g) (yB b 1 a d 1 λk=>av (bg .geq c k) λk=>bC j λj=>bh k (fo (h+6) λh=>kj b 1 a d λl=>jL b 1 a d λ_ _ m=>a1 a 41 [l, .Z 25,m] d h (λ_ a d=>j (ae (zO b 34 e 6 c 7 i 47 f) 56 k) a d) g) (j (ae (zO b 34 e 6 c 7 i 47 f) 56 k) d h))) g) (f (ae b 34 e) c d)) λf=>bh d (fo (h+15) λi=>av (aV a e c) λj=>fO j 2 a e λ_ j=>fO b 2 a e λ_ k=>Ob h 12 a e λe h=>a1 a 74 [j,k] h i (λh i j=>kI h λh k=>av (es a i 11 e h) λe=>yA k f λf h=>bh f (fo (j+6) λi=>av (aV a e c) λj=>fO b 1 a e λ_ l=>a1 a 41 [j, .Z 23,l] e i (λ_ a e=>h (zO (c6 [b,c]) 3 .zF 9 d 5 k 23 f) a e) g) (h (zO (c6 [b,c]) 3 .zF 9 d 5 k 23 f) e j)) g) (f (zM (c6 [b,c]) 3 .zF 9 d) e h)) g
def ahs:dp X 75 [a0,a7] h j ah ax=Vo X a0 a7 h j ah ax:=Zk
def ahr:c8 X 75 2=true:=Zk
def Vp(a:aT)(b:y)(c:M ak)(d:Nat)(e _:bQ):Prop:=
 fO b 0 a c λ_ f=>av (bg .eql f (.Z 2)) λf=>gS f b c d λc d g=>vk f c d g 0 a λc d g=>eT f (bg .eql c (.Z 6)) d g λc d g=>c4 (λc=>gS c b d g λb d f=>vk c b d f 0 a λa b d=>eT c (bg .eql a (.Z 24)) b d λa b d=>c4 (λa=>e a b d) λb=>bh c (b .zT) (b a)) λa=>bh f (a .zT) (a c)
def ahu:dp X 76 [a0] h j ah ax=Vp X a0 h j ah ax:=Zk
def aht:c8 X 76 1=true:=Zk
def Vx(a:aT)(b:y)(c:M ak)(d:Nat)(e _:bQ):Prop:=
 jv a c d b λc d f=>l9 c a d λg=>bC (λb c d=>iY b 1 2 a c λ_ f=>av (bg .geq f (.Z 1)) λf=>MF f (b 1) (λa=>hJ 2 a) c d λb c d=>el f (aV a c b) c d λa b c=>el f (bg .leq a (.Z 64)) b c λa b c=>c4 (λa=>e a b c) λb=>bh f (b a) (b .zF)) λh=>bh g (gs 1 c a d λ_ b=>av (he .not b) λb=>vj b 2 c d f a λa c d=>el b (bg .eql a (.Z 1)) c d λa c d=>c4 (λa=>e a c d) λc=>bh b (c a) (c .zF)) (h (zN (c6 [b]) 1 c 2 .zF 4 g) d f)
def ahG:dp X 84 [a0] h j ah ax=Vx X a0 h j ah ax:=Zk
def ahF:c8 X 84 1=true:=Zk
def VD(_:aT)(a:y)(b:M ak)(c:Nat)(d _:bQ):Prop:=
 av (bg .lss a (.int .i32 97)) λe=>gS e a b c λb c f=>eT e (bg .gtr b (.int .i32 122)) c f λb c f=>c4 (λb=>iW b a c f λc e f=>el b (bg .lss c (.int .i32 65)) e f λc e f=>iW b c e f λc e f=>gS c a e f λe f g=>eT c (bg .gtr e (.int .i32 90)) f g λe f g=>mn b (λa=>c4 (λb=>a b f g) λa=>bh c (a .zT) (a e)) f g λc e f=>c4 (λb=>iW b a e f λc e f=>el b (bg .lss c (.int .i32 48)) e f λc e f=>iW b c e f λc e f=>gS c a e f λe f g=>eT c (bg .gtr e (.int .i32 57)) f g λe f g=>mn b (λa=>c4 (λb=>a b f g) λa=>bh c (a .zT) (a e)) f g λc e f=>c4 (λb=>iW b a e f λa c e=>el b (bg .neq a (.int .i32 95)) c e λa c e=>c4 (λa=>d a c e) λc=>bh b (c a) (c .zF)) λa=>bh b (a c) (a .zF)) λa=>bh b (a c) (a .zF)) λa=>bh e (a .zT) (a b)
def ahS:dp X 90 [a0] h j ah ax=VD X a0 h j ah ax:=Zk
def ahR:c8 X 90 1=true:=Zk
def VE(a:aT)(b c:y)(d:M ak)(e:Nat)(f g:bQ):Prop:=
 a1 a 110 [b,c,.zT] d e f g
def ahU:dp X 91 [a0,a7] h j ah ax=VE X a0 a7 h j ah ax:=Zk
def ahT:c8 X 91 2=true:=Zk
def VF(a:aT)(b c:y)(d:M ak)(e:Nat)(f g:bQ):Prop:=
 a1 a 111 [b,c] d e (λa b c=>GV a λa=>f a b c) g
def ahW:dp X 92 [a0,a7] h j ah ax=VF X a0 a7 h j ah ax:=Zk
def ahV:c8 X 92 2=true:=Zk
def VG(a:aT)(b:y)(c:M ak)(d:Nat)(e f:bQ):Prop:=
 av (mq b) λg=>av (bg .lss g (.Z 2)) λg=>bC (λb c d=>yy b 1 λg=>a1 a 83 [g] c d (λc d g=>kI c λc h=>e5 b λi=>av (dD a d .eql 9 true i (.str [98,111,111,108])) λi=>gS i h d g λd g h=>eT i (dD a g .eql 115 true d .nilIface) g h λd g h=>gS i d g h λd g h=>od d (b 0) g h λg h j=>od d (b 0) h j λb h j=>el d (nI b (.Z 0)) h j λb h j=>el d (bg .eql b (.int .u8 105)) h j λb h j=>iW d c h j λc h j=>el d (fe [.zF, .zF, .Z 0] [(1,1,b),(2,1,c)]) h j λb c h=>mn d (λd=>a1 a 94 [b] c h d f) c h λb c f=>el d (dD a c .eql 9 false g b) c f λa b c=>kS i (λe=>c4 (λa=>e a b c) λb=>bh d (b a) (b .zF)) b c λa b c=>c4 (λa=>e a b c) λb=>bh i (b .zT) (b a)) f) λa=>bh g (e .zF c d) (a (zM (c6 [b]) 2 .zF 7 g) c d)
def ahY:dp X 93 [a0] h j ah ax=VG X a0 h j ah ax:=Zk
def ahX:c8 X 93 1=true:=Zk
def VI(a:aT)(b c:y)(d:M ak)(e:Nat)(f g:bQ):Prop:=
 Er c λh=>bC (λb c d=>f3 b 1 0 λe g=>av (r1 a c .cap [35] [g]) λg=>e5 b λh=>av (fM h) λh=>av (bg .sub g h) λg=>av (bg .sub e g) λe=>av (bg .gtr e (.Z 0)) λg=>bC (λa b c=>e5 a λa=>f a b c) λf=>bh g (f3 b 0 0 λh i=>av (r1 a c .cap [35] [i]) λi=>av (nN a c 8 h none (some i) none) λh=>hu (Fq a c d .append [35,3] [h,e]) c d λc d h=>e5 b λi=>av (fM i) λi=>av (nN a d 8 c none (some i) none) λa=>f (zN b 1 e 16 g 0 a) d h) (f (zM b 1 e 16 g) c d)) λa=>bh h (av (some (y.iface 9 (.str [99,97,110,110,111,116,32,98,101,32,110,101,103,97,116,105,118,101]))) λa=>yg g a d e) (a (zM (c6 [b,c]) 4 .aW 6 h) d e)
def ah2:dp X 95 [a0,a7] h j ah ax=VI X a0 a7 h j ah ax:=Zk
def ah1:c8 X 95 2=true:=Zk
def VJ(a:aT)(b c d e:y)(f:M ak)(g:Nat)(h i:bQ):Prop:=
 av (aV a f c) λj=>yz j λj=>j2 a f c j λf=>bC (λb c d=>kj b 1 a c λe=>GU e λe=>cg (b 1) λb=>j2 a c b e λa=>h (.tuple []) a d) λh=>av (dD a f .eql 41 true b .cN) λj=>gS j b f g λf g k=>kS j (λb=>a1 a 97 [f] g k b i) g k λf g k=>eT j (he .not f) g k λf g k=>c4 (λf=>bC h λh=>bh f (rI a g d 1 λa=>h (ae (c6 [b,c,d,e]) 22 f) a k) (av (aV a g c) λj=>av (bg .gtr j (.Z 200)) λj=>bC h λh=>bh j (av (aV a g d) λi=>rH i 0 h λh i=>bh h (rI a g d 22 λa=>i (zN (c6 [b,c,d,e]) 22 f 30 j 34 h) a k) (i (zN (c6 [b,c,d,e]) 22 f 30 j 34 h) g k)) (fO b 8 a g λ_ l=>av (fM l) λm=>bC h λh=>gA (λb c d e=>ki c 14 13 λf=>bC (λc d e=>nT (λa c d=>iZ a 14 λe=>b (ae a 14 e) c d) c 12 14 1 λb f=>av (aV a d f) λf=>kj c 3 a d λg=>mm a g [f] d e (λ_ a d=>b (ae c 6 f) a d) i) λa=>bh f (a (ae c 15 f) d e) (h (ae c 15 f) d e)) (ae (zO (c6 [b,c,d,e]) 22 f 30 j 12 l 13 m) 14 (.Z 0)) g k))) λa=>bh j (a .zT) (a f)
def ah4:dp X 96 [a0,a7,b2,a3] h j ah ax=VJ X a0 a7 b2 a3 h j ah ax:=Zk
def ah3:c8 X 96 4=true:=Zk
def VK(a:aT)(b:y)(c:M ak)(d:Nat)(e f:bQ):Prop:=
 fo (d+12) λg=>av (aV a c (.ptr 4 0)) λh=>fO b 0 a c λ_ i=>av (nd a c 3 (.agg [.Z 0, .zF, .zF, .zF]) h i true) λh=>kI h λh i=>av (kJ [.Z 0, .zF, .zF, .zF] (d+9)) λj=>lD a c (d+9) j.1 j.2 λc d=>av (es a d 4 c h) λd=>av (he .not i) λh=>bC (λb c d=>fo (d+34) λd=>jL b 0 a c λ_ _ g=>av (bg .lss g (.Z 1)) λg=>Ok g b c 0 a λc h=>DE g (bg .gtr c (.Z 26)) h λc h=>c4 (λc=>abO c (b 3) (λa=>hJ 0 a) h λg h=>DE c (aV a h g) h λg h=>DE c (bg .geq g (.Z 0)) h λg h=>ME c g h λg h=>F1 g (b 0) h λh i=>wO g h i 8 a λh i=>kR g (fM h) i λh i=>R7 g (b 3) (λa=>hJ 0 a) i λi j=>kR g (aV a j i) j λi j=>kR g (bg .neq h i) j λh i=>MD c (λa=>c4 (λb=>a b i) λa=>bh g (a h) (a .zF)) i λg h=>c4 (λc=>Ok c b h 8 a λg h=>kS c (λb=>a1 a 112 [g, .cN] h d b f) h d λd g h=>c4 (λc=>bC (λb c d=>fo (d+33) λd=>iY b 3 1 a c λ_ g=>jL b 2 a c λ_ _ h=>av (dD a c .neq 9 true h (.str [])) λh=>av (dD a c .neq 4 false g h) λg=>abO g (b 3) (λa=>hJ 1 a) c λc h=>DE g (aV a h c) h λc h=>ME g c h λc h=>F1 c (b 0) h λh i=>wO c h i 2 a λh i=>mn c (λb=>a1 a 65 [h] i d b f) i d λd h i=>kR c (he .not d) h λd h=>MD g (λa=>c4 (λb=>a b h) λa=>bh c (a d) (a .zF)) h λc d=>c4 (λc=>Ok c b d 3 a λd g=>ME c d g λd g=>F1 d (b 0) g λg h=>wO d g h 0 a λg h=>kR d (bg .neq g (.Z 6)) h λg h=>MD c (λa=>c4 (λb=>a b h) λa=>bh d (a g) (a .zF)) h λd g=>c4 (λc=>bC (λb c d=>iY b 3 2 a c λ_ g=>av (he .not g) λg=>Oi g b c d a λc d h=>el g (fe [.zF, .zF, .Z 0] []) d h λd h i=>el g (dD a h .neq 51 false c d) h i λc d h=>c4 (λc=>abP c (b 3) (λa=>hJ 2 a) d h λd g h=>eT c (aV a g d) g h λd g h=>gS c d g h λd g h=>Oi d b g h a λg h i=>mn d (λb=>a1 a 84 [g] h i b f) h i λg h i=>el d (he .not g) h i λg h i=>kS c (λa=>c4 (λb=>a b h i) λa=>bh d (a g) (a .zF)) h i λd g h=>c4 (λc=>abP c (b 3) (λa=>hJ 3 a) g h λd g h=>eT c (aV a g d) g h λd g h=>eT c (he .not d) g h λd g h=>gS c d g h λd g h=>od d (b 0) g h λg h i=>Cg d g h i 7 a λg h i=>el d (bg .neq g (.int .u64 0)) h i λg h i=>kS c (λa=>c4 (λb=>a b h i) λa=>bh d (a g) (a .zF)) h i λd g h=>c4 (λc=>bC (λb c d=>jL b 0 a c λ_ _ g=>bC (λ_ a b=>e .zT a b) λh=>rH g 1 h λh i=>bh h (e5 b λb=>a1 a 113 [b] c d e f) (av (bg .eql g (.Z 19)) λf=>bC (λb c d=>cg (b 128) λf=>bC i λg=>bh f (jL b 7 a c λ_ _ a=>av (bg .leq a (.int .u64 63)) λa=>e a c d) (cg (b 123) λf=>rH f 21 g λf g=>bh f (jL b 8 a c λ_ _ b=>av (iV 1 b (.Z 0)) λb=>av (aV a c b) λb=>fO b 0 a c λ_ f=>av (bg .eql f (.Z 1)) λf=>gS f b c d λc d g=>vk f c d g 0 a λc d g=>eT f (bg .eql c (.Z 4)) d g λc d g=>gS f c d g λc d g=>iW c b d g λd g h=>Cg c d g h 8 a λd g h=>el c (fM d) g h λd g h=>el c (bg .eql d (.Z 1)) g h λd g h=>kS f (λa=>c4 (λb=>a b g h) λa=>bh c (a d) (a .zF)) g h λc d g=>gS f c d g λc d g=>iW c b d g λd g h=>Cg c d g h 8 a λd g h=>el c (iV 1 d (.Z 0)) g h λd g h=>el c (aV a g d) g h λd g h=>el c (dD a g .neq 41 true d .cN) g h λd g h=>kS f (λa=>c4 (λb=>a b g h) λa=>bh c (a d) (a .zF)) g h λc d g=>gS f c d g λc d g=>iW c b d g λb d g=>Cg c b d g 8 a λb d g=>el c (iV 1 b (.Z 0)) d g λb d g=>el c (aV a d b) d g λb d g=>Cg c b d g 0 a λa b d=>el c (bg .eql a (.Z 1)) b d λa b d=>kS f (λe=>c4 (λa=>e a b d) λb=>bh c (b a) (b .zF)) b d λa b c=>c4 (λa=>e a b c) λb=>bh f (b .zT) (b a)) (g (ae b 136 f) c d))) λa=>bh f (a (zN b 123 g 124 h 128 f) c d) (av (bg .eql g (.Z 20)) λe=>a (zO b 123 g 124 h 128 f 128 e) c d))) λa=>bh c (e .zF g h) (a (ae b 119 c) g h)) λa=>bh c (a .zT) (a d)) λa=>bh c (a .zT) (a d)) λa=>bh g (a c) (a .zF)) λa=>bh c (e .zF g i) (a (ae b 84 c) g i)) λa=>bh c (a .zT) (a d)) λa=>bh g (a .zT) (a c)) λa=>bh c (e .zF g h) (a (ae b 51 c) g h)) λa=>bh c (a .zT) (a d)) λa=>bh c (a .zT) (a g)) λa=>bh g (a .zT) (a c)) λe=>bh h (av (fe [.Z 0, .zF, .zF, .zF] [(0,1, .Z 2)]) λf=>av (es a d 4 c f) λa=>e (zO (c6 [b]) 2 .zF 3 c 4 i 16 h) a g) (e (zO (c6 [b]) 2 .zF 3 c 4 i 16 h) d g)
def ah6:dp X 97 [a0] h j ah ax=VK X a0 h j ah ax:=Zk
def ah5:c8 X 97 1=true:=Zk
def VL(a:aT)(b c:y)(d:M ak)(e:Nat)(f g:bQ):Prop:=
 lI b (λ_ a b=>f (.Z (-1)) a b) λh i=>gA (λb c d e=>ki c 8 7 λh=>bC (λc d e=>bC (λa c d=>iZ a 8 λe=>b (ae a 8 e) c d) λb=>f3 c 8 1 λh i=>e5 c λj=>Es j h a d λj=>mm a i [j] d e (λa d e=>bC b λb=>bh a (f h d e) (b (zM c 5 h 16 a) d e)) g) λa=>bh h (a (ae c 9 h) d e) (i (ae c 9 h) d e)) (zN (c6 [b,c]) 4 (.Z 0) 7 h 8 (.Z 0)) d e
def ah8:dp X 98 [a0,a7] h j ah ax=VL X a0 a7 h j ah ax:=Zk
def ah7:c8 X 98 2=true:=Zk
def Ue(a:aT)(b c d:y)(e:M ak)(f:Nat)(g h:bQ):Prop:=
 hu (S9 a e f b) e f λe f i=>bC (λ_ a b=>g (.Z (-1)) a b) λj=>gA (λb c d e=>cg (c 10) λf=>E6 (vQ a kC true d e (kD f)) d e λd e f=>av (rD 0 d) λi=>bC (λc d e=>bC b λb=>cg (c 11) λf=>av (rD 1 f) λf=>cg (c 11) λi=>av (rD 2 i) λi=>cg (c 1) λj=>mm a j [i] d e (λd e h=>cg (c 2) λj=>av (dD a e .eql 4 false d j) λa=>bC b λb=>bh a (g f e h) (b (zN c 7 f 8 i 19 a) e h)) h) λa=>bh i (a (zM c 11 d 12 i) e f) (j (zM c 11 d 12 i) e f)) (zM (c6 [b,c,d]) 6 (.Z 0) 10 e) f i
def afp:dp X 110 [a0,a7,b2] h j ah ax=Ue X a0 a7 b2 h j ah ax:=Zk
def afo:c8 X 110 3=true:=Zk
def Uf(a:aT)(b c:y)(d:M ak)(e:Nat)(f _:bQ):Prop:=
 lI b (λ_ a b=>f (.Z (-1)) a b) λg h=>gA (λb c d e=>ki c 8 7 λg=>bC (λc d e=>bC (λa c d=>iZ a 8 λe=>b (ae a 8 e) c d) λb=>f3 c 8 1 λg h=>e5 c λi=>Es i g a d λi=>av (dD a d .eql 9 false h i) λa=>bC b λb=>bh a (f g d e) (b (zM c 5 g 16 a) d e)) λa=>bh g (a (ae c 9 g) d e) (h (ae c 9 g) d e)) (zN (c6 [b,c]) 4 (.Z 0) 7 g 8 (.Z 0)) d e
def afr:dp X 111 [a0,a7] h j ah ax=Uf X a0 a7 h j ah ax:=Zk
def afq:c8 X 111 2=true:=Zk
def Ug(a:aT)(b c:y)(d:M ak)(e:Nat)(f g:bQ):Prop:=
 a1 a 119 [b,c] d e (λa b c=>GV a λa=>f a b c) g
def aft:dp X 112 [a0,a7] h j ah ax=Ug X a0 a7 h j ah ax:=Zk
def afs:c8 X 112 2=true:=Zk
def Uh(a:aT)(b:y)(c:M ak)(d:Nat)(e f:bQ):Prop:=
 jj b 4 λg=>gs 2 g a c λ_ g=>jj b 4 λh=>gs 1 h a c λ_ h=>bC (λb c d=>jL b 0 a c λ_ _ g=>av (bg .eql g (.Z 1)) λg=>Oi g b c d a λc d h=>mn g (λb=>a1 a 84 [c] d h b f) d h λc d f=>c4 (λc=>od c (b 3) d f λd f g=>el c (bg .eql d (.Z 64)) f g λd f g=>iW c d f g λd f g=>A2 d (b 0) f g λf g h=>vk d f g h 7 a λa f g=>A2 d (b 3) f g λb f g=>eT d (bg .shr a b) f g λa b f=>eT d (bg .eql a (.int .u64 0)) b f λa b f=>mn c (λc=>c4 (λa=>c a b f) λb=>bh d (b .zT) (b a)) b f λa b d=>c4 (λa=>e a b d) λb=>bh c (b a) (b .zF)) λa=>bh g (a c) (a .zF)) λa=>bh h (GU g λe=>a (zO (c6 [b]) 2 .zF 3 g 13 h 3 e) c d) (a (zN (c6 [b]) 2 .zF 3 g 13 h) c d)
def afv:dp X 113 [a0] h j ah ax=Uh X a0 h j ah ax:=Zk
def afu:c8 X 113 1=true:=Zk
def Ul(a:aT)(b c:y)(d:M ak)(e:Nat)(f _:bQ):Prop:=
 lI b (λ_ a b=>f (.Z (-1)) a b) λg h=>gA (λb c d e=>ki c 8 7 λg=>bC (λc d e=>bC (λa c d=>iZ a 8 λe=>b (ae a 8 e) c d) λb=>f3 c 8 1 λg h=>e5 c λi=>Es i g a d λi=>av (dD a d .eql 41 false h i) λa=>bC b λb=>bh a (f g d e) (b (zM c 5 g 16 a) d e)) λa=>bh g (a (ae c 9 g) d e) (h (ae c 9 g) d e)) (zN (c6 [b,c]) 4 (.Z 0) 7 g 8 (.Z 0)) d e
def afD:dp X 119 [a0,a7] h j ah ax=Ul X a0 a7 h j ah ax:=Zk
def afC:c8 X 119 2=true:=Zk
def adT(a:aT)(b:bQ):fK:=λc d e=>pj a [.tmp 2] b c c.bb d e
def adh(a:aT)(b c:bQ):sX:=λd e f g=>wt a [.tmp 2] b c d e d.bb f g
def UB(a:aT)(b:y)(c:M ak)(d:Nat)(e f:bQ):Prop:=
 jv a c d b λc d g=>gN a d g (.map g) (.map [] 0) λd g h=>av (fe [.ms, .aW] [(0,1,d)]) λd=>jv a g h d λd g h=>av (kJ [.cN] h) λi=>gN a g h i.1 i.2 λg h i=>j2 a h g d λd=>av (dT a d 6 c) λh=>a1 a 39 [h] d i (λd h i=>bC (λb c d=>iY b 1 5 a c λ_ f=>lI f (λb c d=>kj b 3 a c λf=>adT a e (ae b 2 f) c d) λe g=>gA (λb c d e=>ki c 56 55 λf=>bC (λc d e=>bC (λa c d=>iZ a 56 λe=>b (ae a 56 e) c d) λb=>f3 c 56 54 λf g=>cg (c 56) λh=>av (iV 4 g h) λg=>Ke a d g e 0 λd e g h=>av (fM h) λi=>bC b λb=>gA (λc d e f=>ki d 64 63 λg=>bC (λb d e=>bC (λa b d=>iZ a 64 λe=>c (ae a 64 e) b d) λc=>f3 b 64 62 λf g=>cg (b 64) λh=>Es g h a d λg=>yB b 3 a d 0 λh=>Oc a d h g λh i=>Kd e a d λd e j=>av (es a e 11 d h) λe=>vj i 9 d e j a λe h j=>el i (bg .lss e (.Z 0)) h j λe h j=>c4 (λe=>bC c λc=>bh e (cg (b 8) λk=>pv 9 d a h k λh=>pv 10 d a h f λh=>fo (j+7) λj=>yB b 3 a h 0 λk=>av (dT a h 11 d) λl=>hu (DQ a h j 9 k g l) h j λ_ a h=>c (ae (zO b 10 f 11 g 12 d 13 i) 83 e) a h) (c (ae (zO b 10 f 11 g 12 d 13 i) 83 e) h j)) λa=>bh i (a e) (a .zF)) λa=>bh g (a (ae d 65 g) e f) (b (ae d 65 g) e f)) (ae (zO c 9 d 8 f 62 h 63 i) 64 (.Z 0)) g e) λa=>bh f (a (ae c 57 f) d e) (g (ae c 57 f) d e)) (zN b 54 f 55 e 56 (.Z 0)) c d) λj=>D8 a 97 d [19,20] (sK a (λ_ _ b _ _ c d e=>cg (c 19) λf=>yx e a d λd e g=>cg (c 20) λh=>av (es a e 8 d h) λa=>b (zM c 4 f 5 d) a g) λ_ _ b _ _ c d e=>bC b λb=>fo (e+13) λf=>yB c 3 a d 0 λg=>iY c 5 0 a d λ_ h=>Oc a d g h λg h=>Ob e 10 a d λd e=>av (es a e 11 d g) λd=>yA h b λb e=>bh b (fo (f+10) λf=>yB c 3 a d 0 λg=>iY c 5 0 a d λ_ i=>f3 c 4 5 λj k=>av (dT a d 8 k) λk=>av (fe [.Z 0, .str [], .Z 0, .zF, .zF, .Z 0, .str [], .Z 0, .zF, .Z 0, .Z 0] [(0,1,j),(1,8,k),(9,1, .Z (-1)),(10,1, .Z (-1))]) λj=>hu (DQ a d f 9 g i j) d f λ_ d f=>fo (f+12) λg=>kj c 3 a d λi=>yB c 3 a d 1 λj=>iY c 5 0 a d λ_ k=>av (hv 1 [.str []] [(0,1,k)] (f+7)) λk=>lD a d (f+7) k.1 k.2 λd f=>hu (ju a f g 1 j d) f g λd f g=>jj i 1 λj=>kj c 3 a f λk=>io k (some i) (j2 a f j d λa=>e (zM c 7 h 32 b) a g)) (e (zM c 7 h 32 b) d f)) j (CJ 0 j λ_ _ _ _=>False) (adT a e) (adh a e f) (zO (c6 [b]) 1 c 2 .cN 3 g 18 d) h i) (adh a e f (hT [17,18] (zN (c6 [b]) 1 c 2 .cN 3 g)))
def af7:CM X 23 [a0] h j ah ax=UB X a0 h j ah ax:=Zk
def af6:c8 X 23 1=true:=Zk
def Vn(a:aT)(b c:y)(d:M ak)(e:Nat)(f _:bQ):Prop:=
 Kd e a d λd e g=>av (dD a e .eql 70 true b .cN) λh=>bC (λb c d=>jL b 0 a c λ_ _ e=>cg (b 1) λg=>Oc a c e g λe g=>Kd d a c λc d h=>wQ a d 11 c e λc d=>nU b 4 a c 11 d λa b=>f (.tuple [b,g]) a h) λi=>bh h (av (fe [.Z 0, .str [], .Z 0, .zF, .zF, .Z 0, .str [], .Z 0, .zF, .Z 0, .Z 0] []) λb=>wQ a e 11 d b λa b=>f (.tuple [b, .zF]) a g) (i (zN (c6 [b,c]) 4 d 5 .zF 9 h) e g)
def ahq:dp X 74 [a0,a7] h j ah ax=Vn X a0 a7 h j ah ax:=Zk
def ahp:c8 X 74 2=true:=Zk
def VH(a:aT)(b:y)(c:M ak)(d:Nat)(e f:bQ):Prop:=
 jv a c d b λc d g=>bC (λb c d=>iY b 1 2 a c λ_ b=>a1 a 107 [b] c d (λb c d=>av (dD a c .add 9 true (.str [117]) b) λa=>e a c d) f) λh=>av (dT a d 3 c) λi=>a1 a 84 [i] d g (λd g i=>yA d h λd h=>bh d (e (.str []) g i) (l9 c a g λj=>bC h λh=>bh j (e (.str [98,111,111,108]) g i) (gs 1 c a g λ_ k=>bC h λh=>bh k (gs 2 c a g λ_ b=>a1 a 107 [b] g i (λb c d=>av (dD a c .add 9 true (.str [105]) b) λa=>e a c d) f) (h (ae (zO (c6 [b]) 1 c 2 (.str []) 3 d 7 j) 10 k) g i)))) f
def ah0:dp X 94 [a0] h j ah ax=VH X a0 h j ah ax:=Zk
def ahZ:c8 X 94 1=true:=Zk
end
noncomputable section
def gm:Nat->bL->Nat
 |0,_=>0
 |q+1,D=>D.args.foldl (λa E=>max a (gm q E)) 0+1
def aod:∀q D,gm q D<=q:=by
 intro q
 induction q with
 |zero=>intro D;simp[gm]
 |succ q aj=>
  intro D
  have:∀(k:List bL) a,a<=q->k.foldl (λa E=>max a (gm q E)) a<=q:=by
   intro k
   induction k with
   |nil=>intro a f8;exact f8
   |cons E k I5=>intro a f8;exact I5 _ (Nat.max_le.2 ⟨f8,aj E⟩)
  have:=this D.args 0 Zo
  show _+1<=q+1
  omega
def ar3{C:aT}{h:M ak}(E b:Nat):r1 C h .max [3,3] [.Z (E:Int), .Z (b:Int)]=some (.Z ((max E b:Nat):Int)):=by
 show oG true (.Z (E:Int)) [.Z (b:Int)]=_
 simp only[oG,eQ,tz,ZE]
 congr 2
 split<;>simp_all<;>omega
def Ns{X:cl}{h:M ak}(b:Nat):dD X h .eql 41 true (.ptr b 0) .cN=some .zF:=Zk
section
variable{X:cl}{h R aX aP:M ak}{j au aM be aJ bJ:Nat}{aU:List Tok}{i:Nat}
def anT(az:dW X):∀(q:Nat),q<=1000->∀h j P D v,(o X).aY<=j->cG X h P D v->(∀e,P e->e<j)->
 a1 X 64 [v, .Z (q:Int)] h j (λab R au=>ab= .Z (gm q D:Nat)/\bp X h j R au) (λ_ _ _=>False):=by
 intro q
 induction q with
 |zero=>
  intro _ h j P D v aI bt bI
  refine zL az (Va X) ?_
  rw[Vb]
  unfold OH
  obtain⟨b,rfl,al,_⟩:=bt.ptr
  have f0:=bI b al
  refine dq @Ns @Int.natCast_zero ⟨?_⟩
  exact⟨rfl,dM⟩
 |succ q aj=>
  intro aG h j P D v aI bt bI
  refine zL az (Va X) ?_
  rw[Vb]
  unfold OH
  obtain⟨b,a2,cn,bx,rfl,al,a0,a7,b2,a3,a4,a5,ic,iw,ko,c3,has⟩:=bt.open
  have f0:=bI b al
  have er:=c3.len
  have IZ:=has.len
  have mE:((q+1:Nat):Int)=(q:Int)+1:=Zo
  have d:decide (((q+1:Nat):Int)=0)=false:=by simp;omega
  have bB:bg .sub (.Z ((q+1:Nat):Int)) (.Z 1)=some (.Z (q:Int)):=by rw[xY Zo Zo];congr 2;omega
  have bc:=c3.many
  rw[Zp,IZ]at bc
  rw[Zp,IZ]at er
  refine g0 @Ns @d @bB @ko @er ⟨?_⟩
  refine gK (λm I R aS=>∃(Y:Nat) (a:Nat),I.g 1=some (.Z (q:Int))/\I.g 5=some (.Z (a:Int))/\I.g 19=some a2/\I.g 20=some (.Z (D.args.length:Int))/\I.g 21=some (.Z (Y:Int))/\Y+m=D.args.length/\a<=q/\bp X h j R aS/\gm (q+1) D=(D.args.drop Y).foldl (λa E=>max a (gm q E)) a+1)
   D.args.length ⟨0,0,bF,ho,bF,bF,ho,Zo,Zo,bp.refl _ _,by simp[gm]⟩ ?_
  rintro m I aP be ⟨Y,a,t1,t5,wD,Ej,TA,bD,f8,b6,bw⟩
  have f1:=b6.le
  have cp:=zJ Y
  have fj:=zJ a
  cases m with
  |zero=>
   have cC:=zF Y D.args.length
   rw[ZR Zo]at bw
   simp only[List.foldl_nil]at bw
   refine g0 @TA @Ej @t5 @cC @fj ⟨?_⟩
   exact⟨by first|rw[bw]|(simp only[bw];rfl),b6⟩
  |succ m=>
   have cC:=zG Y D.args.length
   obtain⟨E,aD⟩:=zH D.args Y
   obtain⟨v,bu,anl⟩:=has.get Y E aD
   obtain⟨g1,b5,cR⟩:=(c3.ad λe B=>b6.ad e (bI e B)).one bu
   refine fA @TA @Ej @t5 @wD @t1 @cC (Za @g1 @b5) ⟨?_⟩
   refine(aj Zo aP be P E v Zo (anl.ad λe B=>b6.ad e (bI e B)) (λe B=>zE (bI e B))).Zm ?_
   rintro Em bf bE ⟨rfl,cq⟩
   have jE:=cq.le
   have jn:r1 X bf .max [3,3] [.Z (a:Int), .Z ((gm q E:Nat):Int)]=some (.Z ((max a (gm q E):Nat):Int)):=ar3 _ _
   refine eP @jn @TA @cp ⟨?_⟩
   refine⟨m,Zo,Y+1,max a (gm q E),bz t1,bF,bz wD,bz Ej,bF,Zo,Nat.max_le.2 ⟨f8,aod q E⟩,b6.trans cq, ?_⟩
   have aH:D.args.drop Y=E::D.args.drop (Y+1):=by
    obtain⟨af,B⟩:=Zb.1 aD
    rw[ZA af,B]
   rw[aH,ZZ]at bw
   exact bw
end
def uZ:List ee->Option Int
 |[]=>none
 |ai::k=>if 200<gm 201 ai.right then some ai.at_ else uZ k
def pW:List Go.aQ.Node->Option (Int×Int)
 |[]=>none
 |g::k=>if 256<g.dg.length+g.out.length+g.loc.length\/4096<g.eqs.length then some (30,g.at_)else match uZ g.eqs with
  |some E=>some (22,E)
  |none=>pW k
def pd(an:List Go.aQ.Node):Option (Int×Int):=match an[64]? with
 |some g=>some (30,g.at_)
 |none=>pW an
section
variable{X:cl}{h R aX aP:M ak}{j au aM be aJ bJ:Nat}{aU:List Tok}{i:Nat}
def anS(az:dW X){P:Nat->Prop}{D:bL}{v:y}(aI:(o X).aY<=j)(bt:cG X h P D v)(bI:∀e,P e->e<j):
 a1 X 37 [v] h j (λab R au=>ab= .Z (gm 201 D:Nat)/\bp X h j R au) (λ_ _ _=>False):=by
 refine zL az (agt X) ?_
 rw[agu]
 unfold UM
 exact(anT az 201 Zo h j P D v aI bt bI)
def arH(az:dW X){P:Nat->Prop}{an:List Go.aQ.Node}{v:y}(aI:(o X).aY<=j)(bw:lL X h P an v)(bI:∀e,P e->e<j):
 a1 X 20 [v] h j (λab R au=>pd an=none/\ab= .tuple []/\bp X h j R au) (λab R au=>∃q E,pd an=some (q,E)/\ab=xm q E/\bp X h j R au):=by
 refine zL az (af4 X) ?_
 rw[af5]
 unfold UA
 obtain⟨b,a2,cn,aK,rfl,LM,a0,c3,uD⟩:=bw
 have vY:=uD.wide
 have er:=c3.len
 have jq:=c3.many
 rw[vY.1]at er jq
 by_cases Fe:64<an.length
 ·obtain⟨g,aar⟩:∃g,an[64]? =some g:=⟨_,Zf Fe⟩
  obtain⟨row,d2,hh⟩:=uD.get 64 g aar
  have di:=c3.g2 64 Zo
  obtain⟨cW,cO,Tr,dF,b4,cr,cS,fh,adX,rfl,_⟩:=hh
  have aA:=c3.cell 64 _ 1 _ d2 rfl
  have d:decide ((64:Int)<(an.length:Int))=true:=by simp;omega
  have aoi:iV 6 a2 (.Z 64)=some (.ptr cn (64*6)):=di
  refine g0 @a0 @er @d @aoi @aA ⟨?_⟩
  refine⟨⟨30,g.at_,by simp[pd,aar],rfl,bp.refl _ _⟩⟩
 ·have aB:pd an=pW an:=by simp[pd,ZW (by omega:an.length<=64)]
  have d:decide ((64:Int)<(an.length:Int))=false:=by simp;omega
  rw[aB]
  refine eP @a0 @er @d ⟨?_⟩
  refine gK (λm I R aS=>∃(Y:Nat),I.g 24=some a2/\I.g 25=some (.Z (an.length:Int))/\I.g 26=some (.Z (Y:Int))/\Y+m=an.length/\bp X h j R aS/\pW an=pW (an.drop Y))
   an.length ⟨0,bF,bF,ho,Zo,bp.refl _ _,rfl⟩ ?_
  rintro m I aP be ⟨Y,Ek,vb,tZ,bD,b6,De⟩
  have f1:=b6.le
  have cp:=zJ Y
  cases m with
  |zero=>
   have cC:=zF Y an.length
   rw[ZR Zo]at De
   refine eP @tZ @vb @cC ⟨?_⟩
   exact⟨De,rfl,b6⟩
  |succ m=>
   have cC:=zG Y an.length
   obtain⟨g,oW⟩:=zH an Y
   have aH:an.drop Y=g::an.drop (Y+1):=by
    obtain⟨af,B⟩:=Zb.1 oW
    rw[ZA af,B]
   rw[aH]at De
   obtain⟨row,d2,hh⟩:=uD.get Y g oW
   have di:=c3.g2 Y Zo
   have kP:=(c3.ad λe B=>b6.ad e (bI e B)).row Zd d2
   have Me:=hh.ad (Q:=P) (λe B=>b6.ad e (bI e B)) (λ_ a=>a)
   have oY:=hh.iI
   obtain⟨cW,cO,Tr,dF,b4,cr,cS,fh,adX,rfl,cF,cH,d7,fU,mv⟩:=Me
   have dv:=cF.len;have cD:=cH.len;have ec:=d7.len;have fl:=fU.len
   have m1:=cF.many;have fp:=cH.many;have il:=d7.many;have Bk:=fU.many
   have aeD:=mv.wide
   rw[Zp]at dv cD ec m1 fp il
   rw[aeD.1]at fl Bk
   have fj:bg .add (.Z (g.dg.length:Int)) (.Z (g.out.length:Int))=some (.Z ((g.dg.length+g.out.length:Nat):Int)):=by rw[eK Zo Zo];rfl
   have jn:bg .add (.Z ((g.dg.length+g.out.length:Nat):Int)) (.Z (g.loc.length:Int))=some (.Z ((g.dg.length+g.out.length+g.loc.length:Nat):Int)):=by rw[eK Zo Zo];rfl
   refine kr @tZ @vb @Ek @cC @di @kP ⟨?_⟩
   refine gi (jJ (q:=6) (b:=be) (W:=0) (n:=6) (c:=M.ofList [.str [], .Z 0, .aW, .aW, .aW, .aW] 0 .nil) (bn Zo) Zo rfl Zd Zd oY) ?_
   generalize fE:bl X _ be _=bf
   have vJ:Z X bf be=some (.cells (d3 (M.ofList [.str [], .Z 0, .aW, .aW, .aW, .aW] 0 .nil) 0 [.str g.name, .Z g.at_,cW,cO,Tr,dF]) 6 .own):=by rw[<-fE];exact bn Zo
   have cq:bp X h j bf (be+1):=b6.trans (by rw[<-fE];exact dM)
   have cM:∀e,P e->Z X bf e=Z X h e:=λe B=>cq.ad e (bI e B)
   clear fE
   have dl:aV X bf (.ptr be 1)=some (.Z g.at_):=by rw[bU vJ];rfl
   have dx:aV X bf (.ptr be 2)=some cW:=by rw[bU vJ];rfl
   have gD:aV X bf (.ptr be 3)=some cO:=by rw[bU vJ];rfl
   have r2:aV X bf (.ptr be 4)=some Tr:=by rw[bU vJ];rfl
   have ie:aV X bf (.ptr be 5)=some dF:=by rw[bU vJ];rfl
   by_cases amE:256<g.dg.length+g.out.length+g.loc.length
   ·have dI:decide ((256:Int)<((g.dg.length+g.out.length+g.loc.length:Nat):Int))=true:=by simp;omega
    refine fA @dl @dx @gD @r2 @ie @dv (Za @cD (Za @ec (Za @fl (Za @fj (Za @jn @dI))))) ⟨?_⟩
    exact⟨⟨30,g.at_,by rw[De,pW,Zu (.inl amE)],rfl,cq⟩⟩
   have dI:decide ((256:Int)<((g.dg.length+g.out.length+g.loc.length:Nat):Int))=false:=by simp;omega
   by_cases amF:4096<g.eqs.length
   ·have iy:decide ((4096:Int)<(g.eqs.length:Int))=true:=by simp;omega
    refine fA @dl @dx @gD @r2 @ie @dv (Za @cD (Za @ec (Za @fl (Za @fj (Za @jn (Za @dI @iy)))))) ⟨?_⟩
    exact⟨⟨30,g.at_,by rw[De,pW,Zu (.inr amF)],rfl,cq⟩⟩
   have iy:decide ((4096:Int)<(g.eqs.length:Int))=false:=by simp;omega
   refine fA @dl @dx @gD @r2 @ie @dv (Za @cD (Za @ec (Za @fl (Za @fj (Za @jn (Za @dI (Za @iy (Za @Ek (Za @vb @tZ))))))))) ⟨?_⟩
   have al:pW an=(match uZ g.eqs with|some E=>some (22,E)|none=>pW (an.drop (Y+1))):=by rw[De,pW,Zg Zo]
   have FJ:=fU.ad (R:=h) (λe B=>(b6.ad e (bI e B)).symm)
   have atH:=mv.ad (R:=h) (Q:=P) (λe B=>(b6.ad e (bI e B)).symm) (λ_ a=>a)
   refine gK (λil I R aS=>∃(i:Nat),I.g 24=some a2/\I.g 25=some (.Z (an.length:Int))/\I.g 26=some (.Z (Y:Int))/\I.g 53=some dF/\I.g 54=some (.Z (g.eqs.length:Int))/\I.g 55=some (.Z (i:Int))/\i+il=g.eqs.length/\bp X h j R aS/\uZ g.eqs=uZ (g.eqs.drop i))
    g.eqs.length ⟨0,bz Ek,bz vb,bz tZ,bF,bF,ho,Zo,cq,rfl⟩ ?_
   clear Ek vb tZ dl dx gD r2 ie vJ cM cq
   rintro il I bf bE ⟨i,Ek,vb,tZ,BV,np,nq,aF,cq,Dd⟩
   have jE:=cq.le
   cases il with
   |zero=>
    have fR:=zF i g.eqs.length
    rw[ZR Zo]at Dd
    refine g0 @nq @np @fR @tZ @cp ⟨?_⟩
    refine⟨m,Zo,Y+1,bz Ek,bz vb,bF,Zo,cq, ?_⟩
    rw[al,Dd];rfl
   |succ il=>
    have fR:=zG i g.eqs.length
    have oM:=zJ i
    obtain⟨ai,v8⟩:=zH g.eqs i
    have anI:g.eqs.drop i=ai::g.eqs.drop (i+1):=by
     obtain⟨af,B⟩:=Zb.1 v8
     rw[ZA af,B]
    rw[anI,uZ]at Dd
    obtain⟨row,d2,Do⟩:=atH.get i ai v8
    have Rf:=fU.g2 i (by rw[aeD.1];omega)
    have Dp:=(FJ.ad λe B=>cq.ad e (bI e B)).row Zd d2
    obtain⟨aiJ,Hi,oI,w5,jZ,rfl,_,_,apx,mj⟩:=Do
    refine kr @nq @np @BV @fR @Rf @Dp ⟨?_⟩
    refine gi (jJ (q:=4) (b:=bE) (W:=0) (n:=4) (c:=M.ofList [.aW, .aW, .Z 0, .cN] 0 .nil) (bn Zo) Zo rfl Zd Zd mj) ?_
    generalize iC:bl X _ bE _=bT
    have XI:Z X bT bE=some (.cells (d3 (M.ofList [.aW, .aW, .Z 0, .cN] 0 .nil) 0 [aiJ,Hi, .Z ai.at_,jZ]) 4 .own):=by rw[<-iC];exact bn Zo
    have dA:bp X bf bE bT (bE+1):=by rw[<-iC];exact dM
    have Ff:=cq.trans dA
    clear iC
    have gD:aV X bT (.ptr bE 3)=some jZ:=by rw[bU XI];rfl
    refine ce @gD ⟨?_⟩
    refine(anS az Zo (apx.ad λe B=>Ff.ad e (bI e B)) (λe B=>zE (bI e B))).Zm ?_
    rintro GL bZ ct ⟨rfl,dC⟩
    have hQ:=dC.le
    have dx:aV X bZ (.ptr bE 2)=some (.Z ai.at_):=by rw[bU (by rw[dC.ad _ Zo];exact XI)];rfl
    by_cases f8:200<gm 201 ai.right
    ·have i7:decide ((200:Int)<((gm 201 ai.right:Nat):Int))=true:=by simp;omega
     rw[Zu f8]at Dd
     refine dq @i7 @dx ⟨?_⟩
     exact⟨⟨22,ai.at_,by rw[al,Dd],rfl,Ff.trans dC⟩⟩
    ·have i7:decide ((200:Int)<((gm 201 ai.right:Nat):Int))=false:=by simp;omega
     rw[Zg f8]at Dd
     refine eP @i7 @nq @oM ⟨?_⟩
     exact⟨il,Zo,i+1,bz Ek,bz vb,bz tZ,bz BV,bz np,bF,Zo,Ff.trans dC,Dd⟩
end
end
end Go.Proofs.YtbbkkkpgjaopkaaGreatDoor

