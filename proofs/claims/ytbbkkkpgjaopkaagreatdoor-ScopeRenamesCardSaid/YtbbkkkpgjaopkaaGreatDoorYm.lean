/- Part of the proof of the last text; no conditions -/
import Derived.Test.YtbbkkkpgjaopkaaGreatDoorYl
set_option maxHeartbeats 8000000
set_option linter.all false
namespace Go.Proofs.YtbbkkkpgjaopkaaGreatDoor
open Go.bp Go.aS
noncomputable section
def to(X:cn)(h:R ag):(Nat->Prop)->List Go.aS.Node->List (List z)->Prop
 |_,[],ba=>ba=[]
 |P,al::b8,ba=>∃row gv bh,ba=row::gv/\(∀e,bh e->P e)/\qw X h bh al row/\to X h (λe=>P e/\¬bh e) b8 gv
def qw.ad{X:cn}{h S:R ag}{P bh:Nat->Prop}{g:Go.aS.Node}{row:List z}(a:qw X h P g row)(o:∀e,P e->Z X S e=Z X h e)(az:∀e,P e->bh e):qw X S bh g row:=by
 obtain⟨c1,dn,bf,ev,b0,cy,cT,fi,ba,B,I,M,ak,aA,bq⟩:=a
 exact⟨c1,dn,bf,ev,b0,cy,cT,fi,ba,B,(I.ad o).lift az,(M.ad o).lift az,(ak.ad o).lift az,(aA.ad o).lift az,bq.ad o az⟩
def qw.len{X:cn}{h:R ag}{P:Nat->Prop}{g:Go.aS.Node}{row:List z}(a:qw X h P g row):row.length=6:=by
 obtain⟨c1,dn,bf,ev,b0,cy,cT,fi,ba,B,_⟩:=a
 subst B;rfl
def to.ad{X:cn}{h S:R ag}:∀{b8:List Go.aS.Node}{ba:List (List z)}{P bh:Nat->Prop}(o:∀e,P e->Z X S e=Z X h e) (az:∀e,P e->bh e),to X h P b8 ba->to X S bh b8 ba:=by
 intro b8
 induction b8 with
 |nil=>intro ba P bh o az a;exact a
 |cons al b8 ah=>
  rintro ba P bh o az ⟨row,gv,c7,I,bJ,M,ak⟩
  exact⟨row,gv,c7,I,λe F=>az e (bJ e F),M.ad (λe F=>o e (bJ e F)) (λe F=>F),ah (λe F=>o e F.1) (λe F=>⟨az e F.1,F.2⟩) ak⟩
def to.wide{X:cn}{h:R ag}:∀{b8:List Go.aS.Node}{ba:List (List z)}{P:Nat->Prop},to X h P b8 ba->ba.length=b8.length/\∀r∈ba,r.length=6:=by
 intro b8
 induction b8 with
 |nil=>rintro ba P rfl;simp
 |cons D b8 ah=>
  rintro ba P ⟨mD,gv,c7,rfl,bJ,M,ak⟩
  obtain⟨aA,bq⟩:=ah ak
  refine⟨by simp[aA],λr U=> ?_⟩
  rcases Zq.1 U with rfl|U
  ·exact M.len
  ·exact bq r U
def to.get{X:cn}{h:R ag}:∀{b8:List Go.aS.Node}{ba:List (List z)}{P:Nat->Prop},to X h P b8 ba->∀(i:Nat) g,b8[i]? =some g->∃row,ba[i]? =some row/\qw X h P g row:=by
 intro b8
 induction b8 with
 |nil=>intro ba P _ i g a;simp at a
 |cons D b8 ah=>
  rintro ba P ⟨mD,gv,c7,rfl,bJ,M,ak⟩ i g a
  cases i with
  |zero=>simp at a;subst a;exact⟨mD,rfl,M.ad (λ_ _=>rfl) bJ⟩
  |succ i=>simp at a;obtain⟨row,aA,bq⟩:=ah ak i g a;exact⟨row,by simpa using aA,bq.ad (λ_ _=>rfl) (λe F=>F.1)⟩
def uG.get{X:cn}{h:R ag}:∀{b8:List eL}{ba:List (List z)}{P:Nat->Prop},uG X h P b8 ba->∀(i:Nat) g,b8[i]? =some g->∃row,ba[i]? =some row/\xY X h P g row:=by
 intro b8
 induction b8 with
 |nil=>intro ba P _ i g a;simp at a
 |cons D b8 ah=>
  rintro ba P ⟨mD,gv,c7,rfl,bJ,M,ak⟩ i g a
  cases i with
  |zero=>simp at a;subst a;exact⟨mD,rfl,M.ad (λ_ _=>rfl) bJ⟩
  |succ i=>simp at a;obtain⟨row,aA,bq⟩:=ah ak i g a;exact⟨row,by simpa using aA,bq.ad (λ_ _=>rfl) (λe F=>F.1)⟩
def qw.iI{X:cn}{h:R ag}{P:Nat->Prop}{g:Go.aS.Node}{row:List z}(a:qw X h P g row):Go.bp.iI row=true:=by
 obtain⟨c1,dn,bf,ev,b0,cy,cT,fi,ba,rfl,I,M,ak,aA,_⟩:=a
 simp[Go.bp.iI,(lA I.len).2.1,(lA M.len).2.1,(lA ak.len).2.1,(lA aA.len).2.1,show nV (.Z g.at_)=true from rfl,show nV (.str g.name)=true from rfl]
def tp(X:cn)(h:R ag)(P:Nat->Prop)(ax:List Go.aS.Node)(v:z):Prop:=∃b bf cD ba,v= .ptr b 0/\P b/\aR X h (.ptr b 0)=some bf/\ee X h P cD bf 6 ba/\to X h P ax ba
def tp.ad{X:cn}{h S:R ag}{P bh:Nat->Prop}{ax:List Go.aS.Node}{v:z}(a:tp X h P ax v)(o:∀e,P e->Z X S e=Z X h e)(az:∀e,P e->bh e):tp X S bh ax v:=by
 obtain⟨b,bf,cD,ba,rfl,I,M,ak,aA⟩:=a
 exact⟨b,bf,cD,ba,rfl,az _ I,zJ (o _ I) M,(ak.ad o).lift az,aA.ad o az⟩
def ld(X:cn)(h:R ag):(Nat->Prop)->List Go.aS.Node->List (List z)->Prop
 |_,[],ba=>ba=[]
 |P,al::b8,ba=>∃row gv bh,ba=row::gv/\(∀e,bh e->P e)/\qx X h bh al row/\ld X h (λe=>P e/\¬bh e) b8 gv
def ld.ad{X:cn}{h S:R ag}:∀{b8:List Go.aS.Node}{ba:List (List z)}{P bh:Nat->Prop}(o:∀e,P e->Z X S e=Z X h e) (az:∀e,P e->bh e),ld X h P b8 ba->ld X S bh b8 ba:=by
 intro b8
 induction b8 with
 |nil=>intro ba P bh o az a;exact a
 |cons al b8 ah=>
  rintro ba P bh o az ⟨row,gv,c7,I,bJ,M,ak⟩
  exact⟨row,gv,c7,I,λe F=>az e (bJ e F),M.ad (λe F=>o e (bJ e F)) (λe F=>F),ah (λe F=>o e F.1) (λe F=>⟨az e F.1,F.2⟩) ak⟩
def ld.snoc{X:cn}{h:R ag}{bh:Nat->Prop}{al:Go.aS.Node}{row:List z}(a:qx X h bh al row):∀{b8:List Go.aS.Node}{ba:List (List z)}{oa P:Nat->Prop},ld X h oa b8 ba->(∀e,oa e->P e)->(∀e,bh e->P e/\¬oa e)->ld X h P (b8++[al]) (ba++[row]):=by
 intro b8
 induction b8 with
 |nil=>rintro ba oa P rfl I M;exact⟨row,[],bh,rfl,λe F=>(M e F).1,a,rfl⟩
 |cons D b8 ah=>
  rintro ba oa P ⟨mD,gv,c7,rfl,bJ,ak,aA⟩ I M
  exact⟨mD,gv++[row],c7,rfl,λe F=>I e (bJ e F),ak,ah aA (λe F=>⟨I e F.1,F.2⟩) (λe F=>⟨⟨(M e F).1,λio=>(M e F).2 (bJ e io)⟩,λoJ=>(M e F).2 oJ.1⟩)⟩
def ld.wide{X:cn}{h:R ag}:∀{b8:List Go.aS.Node}{ba:List (List z)}{P:Nat->Prop},ld X h P b8 ba->ba.length=b8.length/\∀r∈ba,r.length=6:=by
 intro b8
 induction b8 with
 |nil=>rintro ba P rfl;simp
 |cons D b8 ah=>
  rintro ba P ⟨mD,gv,c7,rfl,bJ,M,ak⟩
  obtain⟨aA,bq⟩:=ah ak
  refine⟨by simp[aA],λr U=> ?_⟩
  rcases Zq.1 U with rfl|U
  ·exact M.row.len
  ·exact bq r U
def ld.nodes{X:cn}{h:R ag}:∀{b8:List Go.aS.Node}{ba:List (List z)}{P:Nat->Prop},ld X h P b8 ba->to X h P b8 ba:=by
 intro b8
 induction b8 with
 |nil=>intro ba P a;exact a
 |cons al b8 ah=>rintro ba P ⟨row,gv,c7,I,bJ,M,ak⟩;exact⟨row,gv,c7,I,bJ,M.row,ah ak⟩
def uL(X:cn)(h:R ag)(P:Nat->Prop)(ax:List Go.aS.Node)(v:z):Prop:=∃(ai:Nat->Nat) (b:Nat) (bf:z) (cD:Nat) (ba:List (List z)),v= .ptr b 0/\(P b/\ai b=1)/\aR X h (.ptr b 0)=some bf/\gL X h (λe=>P e/\ai e=2) cD bf 6 ba/\ld X h (λe=>P e/\ai e=0) ax ba
def uL.prog{X:cn}{h:R ag}{P:Nat->Prop}{ax:List Go.aS.Node}{v:z}(a:uL X h P ax v):tp X h P ax v:=by
 obtain⟨ai,b,bf,cD,ba,rfl,I,M,ak,aA⟩:=a
 exact⟨b,bf,cD,ba,rfl,I.1,M,ak.rd.lift λ_ a=>a.1,aA.nodes.ad (λ_ _=>rfl) λ_ a=>a.1⟩
def uL.ad{X:cn}{h S:R ag}{P bh:Nat->Prop}{ax:List Go.aS.Node}{v:z}(a:uL X h P ax v)(o:∀e,P e->Z X S e=Z X h e)(az:∀e,P e->bh e):uL X S bh ax v:=by
 obtain⟨ai,b,bf,cD,ba,rfl,I,M,ak,aA⟩:=a
 exact⟨ai,b,bf,cD,ba,rfl,⟨az _ I.1,I.2⟩,zJ (o _ I.1) M,(ak.ad λe F=>o e F.1).lift λe F=>⟨az e F.1,F.2⟩,aA.ad (λe F=>o e F.1) λe F=>⟨az e F.1,F.2⟩⟩
section
variable{X:cn}{h S a1 aT:R ag}{j aq aP bk aF bE:Nat}{aN:List Tok}{i:Nat}
def asP(aB:dR X)(eo:uI X){n:Nat}(rK:n<=170000)(k0:aN.length<=100000)(av:h1 X h j aF bE aN i){r:Except Int (List Go.aS.Node×List Tok)}(U:nodes n [] (aN.drop i)=some r):
 a7 X 19 [.ptr aF 0] h j (λaa S aq=>∃ax cp,r= .ok (ax,aN.drop cp)/\uL X S (ec j aq) ax aa/\aS X S aF bE aN cp/\co X [aF] h j S aq) (ii X aF h j r):=by
 refine zF aB (aff X) ?_
 rw[afg]
 unfold TP
 have gu:=av.a6
 have jG:=av.g0
 have hz:=av.ci
 have jc:=av.gG
 refine cV ⟨?_⟩
 have W6:Z X (bn X h j (zC [.aV] 1)) j=zC [.aV] 1:=bv Zo
 have b4:bD X h j (bn X h j (zC [.aV] 1)) (j+1):=dL
 refine f6 (λm H S aQ=>∃(bf:z) (ax:List Go.aS.Node) (ba:List (List z)) (cR:List Nat) (cp:Nat) (c:Bool),H.g 0=some (.ptr aF 0)/\H.g 3=some (.ptr j 0)/\H.g 4=some (.bool c)/\Z X S j=zC [bf] 1/\gU X S bf 6 ba.flatten cR/\(∀e∈cR,j+1<=e/\e<aQ)/\ld X S (uu (j+1) aQ cR) ax ba/\aS X S aF bE aN cp/\co X [aF] h j S aQ/\j+1<=aQ/\ax.length+m<=n/\
  (if c then nodes m ax (aN.drop cp)=some r else r= .ok (ax,aN.drop cp)))
  n ⟨.aV,[],[],[],i,true,bC,bC,bC,W6, .inl (.inl ⟨rfl,rfl,rfl⟩),Zs,rfl,av.par.ex b4 Zo Zo,co.of b4,Zi _,Zs,U⟩ ?_
 clear U W6 b4
 rintro m H aT bk ⟨bf,ax,ba,cR,jg,c,t0,t3,t4,tJ,ug,ms,Li,dm,dp,gP,p8,U⟩
 cases c with
 |false=>
  simp only[Zu,ZD]at U
  subst U
  refine dk @t4 @t3 ⟨?_⟩
  have pp:=Li.wide
  obtain⟨cD,cW⟩:=ug.MR Zd pp.2 (by rw[pp.1];omega) (ef:=λe=>ec j bk e/\e∈cR) (λe F=>by have:=ms e F;exact⟨⟨Zo,Zo⟩,F⟩)
  exact⟨ax,jg,rfl,⟨λe=>if e=j then 1 else if e∈cR then 2 else 0,j,bf,cD,ba,rfl,⟨⟨Zo,Zo⟩,Zp rfl⟩,by rw[bS tJ];rfl,cW.lift λe F=>⟨F.1,(Zg (zy (ms e F.2))).trans (Zp F.2)⟩,Li.ad (λ_ _=>rfl) (λe F=>⟨⟨zy F.1,F.2.1⟩,(Zg (zy F.1)).trans (Zg F.2.2)⟩)⟩,dm,dp⟩
 |true=>
  simp only[ZE]at U
  cases m with
  |zero=>simp[nodes]at U
  |succ m=>
  unfold nodes at U
  have ft:=av.go dm dp.le
  obtain⟨bA,cg,eN⟩:=gU.one ug
  have nd:aR X aT (.ptr j 0)=some bf:=by rw[bS tJ];rfl
  refine hT @t4 @t3 @t0 @nd ⟨?_⟩
  have yY:∃CS,Go.aS.node m (aN.drop jg)=some CS/\(match CS with
   | .error D=>r= .error D
   | .ok (al,k)=>(match k with
     |[]=>none
     |x::_=>if x.kind=7 then ok (ax++[al]) k else nodes m (ax++[al]) k)=some r):=by
   rcases f0 U with ⟨D,I,rfl⟩|⟨al,b6,I,U⟩
   ·exact⟨_,I,rfl⟩
   ·exact⟨_,I,U⟩
  obtain⟨CS,I,g9⟩:=yY
  clear U
  have mA:=ft.go (aq:=bk+12) dm Zo
  refine(arN aB eo Zo k0 mA I).mono ?_ (λaa S aq a=>by
   obtain⟨D,rfl,rfl,a⟩:=a
   subst g9
   exact⟨D,rfl,rfl,dp.trans (a.down Zo (λb aj=> .inl aj))⟩)
  rintro v3 be bF ⟨g,i3,row,rfl,rfl,QR,ge,en⟩
  have iT:=en.le
  have Er:co X [aF] h j be bF:=dp.trans (en.down Zo (λb aj=> .inl aj))
  have Lr:=QR.row.len
  have qb:=QR.row.iI
  obtain⟨iW,eX,fD,hD,nY,mC,rfl⟩:∃iW eX fD hD nY mC,row=[iW,eX,fD,hD,nY,mC]:=by
   match row,Lr with
   |[D,b,c,d,B,f],_=>exact⟨D,b,c,d,B,f,rfl⟩
  have sC:Z X be j=zC [bf] 1:=by rw[en.ad _ Zo Zx];exact tJ
  have df:∀e,j<=e->e<bk->Z X be e=Z X aT e:=λe I M=>en.ad e Zo Zx
  have ap2:aR X be (.ptr j 0)=some bf:=by rw[bS sC];rfl
  refine cr @ap2 ⟨?_⟩
  refine iY eN ?_
  have jJ:kS X (bn X be (bk+7) (zC [iW,eX,fD,hD,nY,mC] 6)) 6 (.slice (bk+7) 0 1 1)=some (1,[iW,eX,fD,hD,nY,mC]):=td (bv Zo) (pt _) rfl _
  have pp:=Li.wide
  have sJ:=u0 pp.2
  obtain⟨pD,bU,iy,j0,rQ,tS,f2⟩:=(ug.ad (S:=bn X be (bk+7) (zC [iW,eX,fD,hD,nY,mC] 6)) (λe F=>by have:=ms e F;rw[aK Zo Zo];exact df e Zo Zo)).append (j:=bF) Zd jJ rfl Zd qb (by rw[sJ,pp.1];simp only[ZG,ZY];omega) Zo (λe F=>zy (ms e F))
  refine mc j0 ?_
  obtain⟨ez,e5,f3⟩:=kc.one rQ
  have fb:∀e,e<bF->e≠bk+7->e∉cR->Z X bU e=Z X be e:=λe I M ak=>by rw[f2 e Zo ak,aK Zo M]
  have dH:∀e,e<j+1->e∉cR:=λe I M=>zy (ms e M)
  have wL:Z X bU j=zC [bf] 1:=by rw[fb _ Zo Zo (dH _ Zo)];exact sC
  refine cV ⟨?_⟩
  refine gm (sa (V:=0) wL Zo Zo ez e5) ?_
  refine cr @t0 ⟨?_⟩
  have eJ:∀e,e≠j->∀cE,Z X (bn X bU j cE) e=Z X bU e:=λe a cE=>aK Zo a
  have gk:∀cE,aS X (bn X bU j cE) aF bE aN i3:=λcE=>ge.ad (by rw[eJ _ Zo,fb _ Zo Zo (dH _ Zo)]) (by rw[eJ _ Zo,fb _ Zo Zo (dH _ Zo)])
  obtain⟨x,k,aI,xb⟩:∃x k,aN.drop i3=x::k/\(if x.kind=7 then ok (ax++[g]) (aN.drop i3)else nodes m (ax++[g]) (aN.drop i3))=some r:=by
   cases aI:aN.drop i3 with
   |nil=>rw[aI]at g9;cases g9
   |cons x k=>rw[aI]at g9;exact⟨x,k,rfl,g9⟩
  refine e1 (λbY=>Z X bY j=zC [pD] 1/\(∀e,e≠j->Z X bY e=Z X bU e)) ⟨by rw[bv Zo];rfl,λe a=>eJ e a _⟩ ?_
  rintro bY ⟨Eg,eJ⟩
  have aaz:aS X bY aF bE aN i3:=ge.ad (by rw[eJ _ Zo,fb _ Zo Zo (dH _ Zo)]) (by rw[eJ _ Zo,fb _ Zo Zo (dH _ Zo)])
  refine(qV aB Zo aaz Zo Zo (fo aI).1).Zm ?_
  rintro adO ck dB ⟨rfl,eC⟩
  have qL:=eC.le
  have et:∀e,e≠j->e<bF+1->Z X ck e=Z X bU e:=λe I M=>by rw[eC.ad e M,eJ e I]
  have fin:∀(cN:da) (c:Bool),cN.g 0=some (.ptr aF 0)->cN.g 3=some (.ptr j 0)->cN.g 4=some (.bool c)->(if c then nodes m (ax++[g]) (aN.drop i3)=some r else r= .ok (ax++[g],aN.drop i3))->∃eH,eH<m+1/\∃(bf:z) (ax:List Go.aS.Node) (ba:List (List z)) (cR:List Nat) (cp:Nat) (c:Bool),cN.g 0=some (.ptr aF 0)/\cN.g 3=some (.ptr j 0)/\cN.g 4=some (.bool c)/\Z X ck j=zC [bf] 1/\gU X ck bf 6 ba.flatten cR/\(∀e∈cR,j+1<=e/\e<dB)/\ld X ck (uu (j+1) dB cR) ax ba/\aS X ck aF bE aN cp/\co X [aF] h j ck dB/\j+1<=dB/\ax.length+eH<=n/\
   (if c then nodes eH ax (aN.drop cp)=some r else r= .ok (ax,aN.drop cp)):=by
   intro cN c vP dN fx ay
   refine⟨m,Zo,pD,ax++[g],ba++[[iW,eX,fD,hD,nY,mC]],iy,i3,c,vP,dN,fx,by rw[eC.ad _ Zo];exact Eg, .inl ?_, ?_, ?_, ?_, ?_,Zo,Zx,ay⟩
   ·rw[zj,Yi,List.flatten_nil,Z4]
    exact rQ.ad λe F=>et e (by rcases tS e F with rfl|a;omega;have:=ms e a;omega) (by rcases tS e F with rfl|a;omega;have:=ms e a;omega)
   ·intro e F
    rcases tS e F with rfl|a
    ·omega
    ·have:=ms e a;omega
   ·refine ld.snoc (QR.ad (λe F=> ?_) (λe F=>F)) (Li.ad (λe F=> ?_) (λe F=>F)) (λe F=> ?_) (λe F=>⟨?_,λoJ=>by have:=F.1;have:=oJ.2.1;omega⟩)
    ·have I:=F.1;have M:=F.2
     rw[et e Zo Zo,fb e Zo Zo (λa=>zy (ms e a))]
    ·have I:=F.1;have M:=F.2.1
     rw[et e Zo Zo,fb e Zo Zo F.2.2,df e Zo Zo]
    ·have I:=F.1;have M:=F.2.1
     refine⟨I,Zo,λa=> ?_⟩
     rcases tS e a with rfl|a
     ·omega
     ·exact F.2.2 a
    ·have I:=F.1;have M:=F.2
     refine⟨Zo,Zo,λa=> ?_⟩
     rcases tS e a with rfl|a
     ·omega
     ·have:=ms e a;omega
   ·exact aaz.ex eC Zo Zo
   ·exact⟨Zo,λb aj bI=>by rw[et b Zo Zo,fb b Zo Zo (dH b Zo)];exact Er.ad b aj bI⟩
  by_cases aG:x.kind=7
  ·rw[Zp aG]at xb
   simp only[ok,Ze]at xb
   have d:decide (x.kind=7)=true:=by simp[aG]
   refine dk bW.eq_1 @aG ⟨?_⟩
   exact fin _ false (aY t0) (aY t3) (gC) xb.symm
  ·rw[Zg aG]at xb
   have d:decide (x.kind=7)=false:=by simp[aG]
   refine dk bW.eq_1 @aG ⟨?_⟩
   exact fin _ true (aY t0) (aY t3) (by refine yw ⟨?_⟩;simp[aG]) xb
end
end
open Go.bp
noncomputable section
variable (X : cn) (h : R ag) (j : Nat) (ai aw : bN) (a0 bm ct a3 a4 a5 kd kz kA : z)
def NO:Za1:=λa b c d e f g=>ar (dc a d .eql 41 true b .cM) λh=>hM h c d e λd e i=>hM h b e i λe i j=>k3 h (λb=>mx a d [e] i j b g) i j λd e i=>eG h (g7 .not d) e i λd e i=>c3 (λd=>bw (λb c d=>jP b 8 a c λ_ _ e=>kV e (λ_ a b=>f (.tuple []) a b) λf h=>fQ (λb c d e=>i1 c 19 18 λf=>bw (λc d e=>n6 (λa c d=>hu a 19 λe=>b (ac a 19 e) c d) c 17 19 1 λb f=>ar (aR a d f) λf=>ca (c 1) λh=>a7 a 26 [f,h] d e (λ_ a d=>b (ac c 5 f) a d) g) λa=>a8 f (a (ac c 20 f) d e) (h (ac c 20 f) d e)) (zH b 17 e 18 f 19 (.Z 0)) c d) λa=>a8 d (f (.tuple []) e i) (a (ac (cY [b,c]) 13 d) e i)) λa=>a8 h (a .zT) (a d)
def TW:dr X 26 [a0,bm]=NO X a0 bm:=Zk
def TV:dd X 26 2=true:=Zk
def UC:Za0:=λa b c d e f=>AQ d λg=>g1 a c d g.1 g.2 λc d g=>a7 a 22 [b] d g (λd g h=>Gc d λd=>bw (λb c d=>jP b 0 a c λ_ _ g=>kV g (λb c d=>ar (fd [.Z 0, .Z 0] []) λf=>nr b 2 a c 2 f λa b=>e b a d) λh i=>fQ (λb c d g=>i1 c 15 14 λh=>bw (λc d g=>bw (λa c d=>hu a 15 λe=>b (ac a 15 e) c d) λb=>fu c 15 13 λh i=>ca (c 15) λj=>Dz 6 i j a d λi=>F6 g λj=>mP a d g j.1 j.2 6 i λd g i=>eF c λj=>xT a i 6 d 23 g f λg i k=>g1 a i k (.map k) (.map [] 0) λi k l=>ar (fd [.cM, .Z 0, .cM, .lM, .Z 0, .Z 0] [(0,1,j),(1,1,h),(2,1,g),(3,1,i)]) λg=>jW a k l g λg i j=>a7 a 24 [g] i j (λ_ f i=>hQ g 4 λj=>ew 0 j a f λ_ j=>Gc j λj=>bw b λb=>a8 j (hQ g 4 λb=>ar (d0 a f 2 b) λb=>nr c 2 a f 2 b λa b=>e b a i) (b (zI c 4 d 3 h 5 g 34 j) f i)) f) λa=>a8 h (a (ac c 16 h) d g) (i (ac c 16 h) d g)) (zH b 13 g 14 h 15 (.Z 0)) c d) λf=>a8 d (ar (fd [.Z 0, .Z 0] [(0,1, .Z 1)]) λb=>AS a g 2 c b λa b=>e b a h) (f (zG (cY [b]) 2 c 8 d) g h)) f
def agV:dr X 7 [a0]=UC X a0:=Zk
def agU:dd X 7 1=true:=Zk
def TR:Za0:=λa b c d e f=>ar (dc a c .eql 23 true b .cM) λg=>Dw g b c d 0 a λc d h=>eG g (gl c) d h λc d h=>eG g (bg .eql c (.Z 0)) d h λc d h=>c3 (λc=>Dw c b d h 0 a λd g h=>eG c (gl d) g h λd g h=>eG c (bg .gtr d (.Z 64)) g h λd g h=>c3 (λc=>bw (λb c d=>jP b 0 a c λ_ _ g=>kV g (λa b c=>ca (a 3) λa=>e a b c) λh i=>fQ (λb c d g=>i1 c 30 29 λh=>bw (λc d g=>n6 (λa c d=>hu a 30 λe=>b (ac a 30 e) c d) c 28 30 6 λb h=>ar (d0 a d 6 h) λh=>F6 g λi=>mP a d g i.1 i.2 6 h λd g h=>xT a h 6 d 38 g f λa f g=>bw b λb=>q5 a 1 b λb h=>a8 b (e a f g) (q5 a 22 h λe h=>a8 e (h (zG (zI c 5 d 6 a 36 a 37 b) 40 e 3 a) f g) (h (ac (zI c 5 d 6 a 36 a 37 b) 40 e) f g))) λa=>a8 h (a (ac c 31 h) d g) (i (ac c 31 h) d g)) (zI b 3 (.Z 0) 28 g 29 h 30 (.Z 0)) c d) λa=>a8 c (e (.Z 1) g h) (a (zG (cY [b]) 2 (.Z 0) 24 c) g h)) λa=>a8 c (a .zT) (a d)) λa=>a8 g (a .zT) (a c)
def afk:dr X 22 [a0]=TR X a0:=Zk
def afj:dd X 22 1=true:=Zk
def ade(a:aM)(b:bN):fE:=λc d e=>oW a [] b c c.aW d e
def CK(a:aM)(b c:bN):si:=λd e f g=>vN a [] b c d e d.aW f g
def TT:Za0:=λa b c d e f=>jW a c d b λc d g=>ff (g+15) λh=>ar (aR a d c) λi=>fZ i 0 a d λ_ i=>fZ i 0 a d λ_ i=>ar (aR a d c) λj=>fZ j 1 a d λ_ j=>Dz 6 i j a d λi=>ar (kB [.str [], .Z 0, .aV, .aV, .aV, .aV] (g+13)) λj=>l7 a d (g+13) j.1 j.2 λd g=>ar (fc a g 6 d i) λg=>ff (h+12) λh=>ar (aR a g c) λi=>fZ i 0 a g λ_ i=>ew 0 d a g λ_ j=>a7 a 40 [i,j] g h (λg h i=>jQ g λg _=>ar (aR a h c) λj=>fZ j 1 a h λ_ j=>ar (bg .lss g j) λj=>bw (λb c d=>jB b 1 a c λg=>q7 b 2 a c 6 λh=>a7 a 42 [g,h] c d (λ_ c d=>jO b 2 5 a c λ_ g=>kV g (λb c d=>q7 b 2 a c 6 λg=>a7 a 39 [g] c d (λc d g=>bw (λb c d=>ade a e b c d) λh=>CP a 103 c [85,86] (r9 a (λ_ _ b _ _ c d e=>ca (c 85) λf=>AP e a d λd e g=>ca (c 86) λh=>ar (fc a e 8 d h) λa=>b (zG c 10 f 11 d) a g) λ_ b c _ _ d e f=>bw c λc=>ff (f+12) λf=>ca (d 10) λg=>ar (bg .neq g (.Z 1)) λg=>Ri g (d 1) (λb=>aR a e b) e λe h=>kO g (mh e) h λe h=>kO g (hI 3 e) h λe h=>kO g (aR a h e) h λe h=>Ri g (d 11) (λa=>hI 0 a) h λh i=>kO g (aR a i h) i λh i=>kO g (my a i 9 (.Z 0) e h false) i λe h=>kO g (bg .eql e (.Z 0)) h λe h=>c3 (λe=>bw c λc=>a8 e (jB d 1 a h λg=>jO d 11 1 a h λ_ i=>a7 a 41 [g, .Z 37,i] h f (λ_ a b=>c (ac d 98 e) a b) (b (hx [99,100,101,102] (ac d 98 e)))) (c (ac d 98 e) h f)) λa=>a8 g (a e) (a .zF)) h (Bn 4 h λ_ _ _ _=>False) (ade a e) (CK a e f) (ac b 84 c) d g) (CK a e f (hx [83,84] b))) λh i=>fQ (λb c d g=>i1 c 51 50 λh=>bw (λc d g=>n6 (λa c d=>hu a 51 λe=>b (ac a 51 e) c d) c 49 51 4 λb h=>JF a d h g 0 λd g h i=>kV i (λc d g=>jB c 1 a d λh=>jO c 6 3 a d λ_ i=>a7 a 44 [h,i] d g (λ_ a d=>b c a d) (CK a e f (hx [78,79,80,81] c))) λb j=>fQ (λb c d g=>i1 c 58 57 λh=>bw (λc d g=>bw (λa c d=>hu a 58 λe=>b (ac a 58 e) c d) λb=>fu c 58 56 λh i=>ca (c 58) λj=>Dy i j a d λi=>jO c 6 1 a d λ_ j=>ar (gl j) λj=>ar (bg .lss h j) λj=>bw (λc d g=>jB c 1 a d λh=>fu c 8 9 λi j=>a7 a 43 [h,i,j] d g (λ_ a d=>b c a d) (CK a e f (hx [73,74,75,76] c))) λb=>a8 j (jO c 6 1 a d λ_ e=>Dy e h a d λa=>b (ac (zI c 7 h 8 i 9 (.Z 0) 67 j) 9 a) d g) (b (zI c 7 h 8 i 9 (.Z 0) 67 j) d g)) λa=>a8 h (a (ac c 59 h) d g) (j (ac c 59 h) d g)) (zI c 6 d 56 i 57 b 58 (.Z 0)) h g) λa=>a8 h (a (ac c 52 h) d g) (i (ac c 52 h) d g)) (zH b 49 g 50 h 51 (.Z 0)) c d) (CK a e f (hx [45,46,47] b))) λk=>a8 j (ar (aR a h c) λl=>ew 1 d a h λ_ m=>a7 a 41 [l, .Z 24,m] h i (λ_ a e=>k (zI (cY [b]) 1 c 2 d 3 g 40 j) a e) (CK a e f (hx [41,42,43,44] (zI (cY [b]) 1 c 2 d 3 g 40 j)))) (k (zI (cY [b]) 1 c 2 d 3 g 40 j) h i)) (CK a e f (hx [26,27,28,29,30,31,32,25,33,34,3,4] (zG (cY [b]) 1 c 2 d)))
def afo:Bs X 24 [a0] h j ai aw=TT X a0 h j ai aw:=Zk
def afn:dd X 24 1=true:=Zk
def T9:Za0:=λa b c d e _=>jW a c d b λa b c=>e (.func (.func 71) [] [a]) b c
def afO:dr X 39 [a0]=T9 X a0:=Zk
def afN:dd X 39 1=true:=Zk
def Ua:Za1:=λa b c d e f g=>jW a d e c λd e h=>ar (dc a e .eql 23 true b .cM) λi=>bw (λb c d=>jP b 0 a c λ_ _ e=>ca (b 3) λb=>a7 a 72 [e, .func (.func 73) [] [b]] c d (λb c d=>ar (rm a c .max [3,3] [b, .Z 0]) λa=>Gb b λb=>f (.tuple [a,b]) c d) g) λa=>a8 i (f (.tuple [.Z 0, .zF]) e h) (a (zI (cY [b,c]) 3 d 4 (.Z 0) 5 .zF 8 i) e h)
def afS:dr X 40 [a0,bm]=Ua X a0 bm:=Zk
def afR:dd X 40 2=true:=Zk
def T8:Za0:=λa b c d e f=>jW a c d b λc d g=>ew 2 c a d λ_ h=>ar (gl h) λh=>ew 3 c a d λ_ i=>F8 i h λh=>ew 4 c a d λ_ i=>F8 i h λh=>ew 0 c a d λ_ i=>a7 a 65 [i] d g (λd g i=>ar (g7 .not d) λd=>o6 d 3 c g i a λg i j=>eG d (gl g) i j λg i j=>eG d (bg .eql g (.Z 0)) i j λg i j=>c3 (λd=>hM d h i j λg i j=>eG d (bg .gtr g (.Z 256)) i j λg i j=>c3 (λd=>o6 d 5 c i j a λg i j=>eG d (gl g) i j λg i j=>eG d (bg .gtr g (.Z 4096)) i j λg i j=>c3 (λd=>o6 d 2 c i j a λg i j=>o6 d 3 c i j a λi j k=>o6 d 4 c j k a λj k l=>k3 d (λb=>ar (it 3 [.aV, .aV, .aV] [(0,1,g),(1,1,i),(2,1,j)] l) λc=>g1 a k l c.1 c.2 λa c d=>b a c d) k l λg i j=>k3 d (λb=>a7 a 67 [g] i j b f) i j λg i j=>k3 d (λb=>a7 a 66 [g] i j b f) i j λg i j=>eG d (g7 .not g) i j λg i j=>c3 (λd=>bw (λb c d=>jO b 1 5 a c λ_ g=>kV g (λa b c=>kb a λa=>e a b c) λh i=>fQ (λb c d g=>i1 c 55 54 λh=>bw (λc d g=>n6 (λa c d=>hu a 55 λe=>b (ac a 55 e) c d) c 53 55 4 λb h=>JF a d h g 3 λd g h i=>a7 a 69 [i] h g (λg h i=>ew 0 d a h λ_ j=>ar (gl j) λj=>Gd j λj=>o6 j 0 d h i a λh i k=>hM j (.func (.func 68) [] []) i k λi k l=>k3 j (λb=>a7 a 70 [h,i] k l b f) k l λa f h=>c3 (λa=>hM a g f h λf h i=>eG a (bg .eql f (.Z 1)) h i λf h i=>c3 (λa=>bw (λa c d=>ca (a 8) λe=>Gc e λe=>bw b λb=>a8 e (ca (a 8) λf=>b (zG a 77 e 4 f) c d) (b (ac a 77 e) c d)) λb=>a8 a (e (.Z 1) h i) (b (zI c 6 d 7 (.func (.func 68) [] []) 8 g 75 a) h i)) λb=>a8 a (b .zT) (b f)) λb=>a8 j (b .zT) (b a)) f) λa=>a8 h (a (ac c 56 h) d g) (i (ac c 56 h) d g)) (zI b 4 (.Z 0) 53 g 54 h 55 (.Z 0)) c d) λa=>a8 d (e (.Z 1) i j) (a (zI (cY [b]) 1 c 2 (.Z 0) 3 h 51 d) i j)) λa=>a8 d (a .zT) (a g)) λa=>a8 d (a .zT) (a g)) λa=>a8 d (a .zT) (a g)) λa=>a8 d (a .zT) (a g)) f
def afM:dr X 38 [a0]=T8 X a0:=Zk
def afL:dd X 38 1=true:=Zk
def T7:Za0:=λa b c d e f=>a7 a 64 [b,.Z 201] c d e f
def afK:dr X 37 [a0]=T7 X a0:=Zk
def afJ:dd X 37 1=true:=Zk
def Ub:Za2:=λa b c d e f g _=>hQ b 4 λh=>AR h a e 0 λ_ _ h=>bw (λ_ a b=>g (.tuple []) a b) λg=>a8 h (ar (fd [.Z 0, .Z 0] [(0,1,c),(1,1,d)]) λi=>hQ b 4 λj=>ar (fc a e 2 j i) λa=>g (ac (cY [b,c,d]) 11 h) a f) (g (ac (cY [b,c,d]) 11 h) e f)
def afU:dr X 41 [a0,bm,ct]=Ub X a0 bm ct:=Zk
def afT:dd X 41 3=true:=Zk
def So(a:aM)(b:bN):fE:=λc d e=>oW a [] b c c.aW d e
def MF(a:aM)(b c:bN):si:=λd e f g=>vN a [] b c d e d.aW f g
def Uc:Za1:=λa b c d e f g=>jW a d e b λd e h=>jW a e h c λe h i=>g1 a h i (.map i) (.map [] 0) λh i j=>ar (kB [.lM] j) λk=>mP a i j k.1 k.2 1 h λh i j=>ar (d0 a j 6 e) λk=>a7 a 39 [k] j i (λi j k=>bw (λb c d=>q7 b 3 a c 6 λe=>a7 a 39 [e] c d (λc d e=>bw (λb c d=>So a f b c d) λh=>CP a 54 c [31,32] (r9 a (λ_ _ b _ _ c d e=>AP e a d λd e f=>ca (c 32) λg=>ar (fc a e 8 d g) λa=>b (ac c 8 d) a f) λ_ b c _ _ d e f=>bw c λc=>ff (f+13) λg=>xU d 2 a e 2 λh=>jO d 8 5 a e λ_ i=>Nn f 10 a e λe f=>a7 a 74 [h,i] f g (λf g h=>jQ f λf i=>ar (fc a g 11 e f) λe=>ar (g7 .not i) λf=>abq f (d 8) (λa=>hI 5 a) e h λe g h=>ei f (aR a g e) g h λe g h=>ei f (dc a g .neq 9 true e (.str [])) g h λe g h=>c3 (λe=>bw c λc=>a8 e (jB d 2 a g λf=>jO d 8 6 a g λ_ j=>a7 a 41 [f, .Z 23,j] g h (λ_ a b=>c (zG d 10 i 49 e) a b) (b (hx [50,51,52,53] (zG d 10 i 49 e)))) (c (zG d 10 i 49 e) g h)) λa=>a8 f (a e) (a .zF)) (b (hx [34,35,36,37,38,39,40,33,41,42,9,10] d))) h (Bn 2 h λ_ _ _ _=>False) (So a f) (MF a f g) (ac b 30 c) d e) (MF a f g (hx [29,30] b))) λl=>CP a 54 i [14,15] (r9 a (λ_ _ b _ _ c d e=>ca (c 14) λf=>AP e a d λd e g=>ca (c 15) λh=>ar (fc a e 8 d h) λa=>b (zG c 5 f 6 d) a g) λ_ b c _ _ d e f=>bw c λc=>jB d 4 a e λg=>jO d 6 0 a e λ_ h=>ar (my a e 9 (.Z 0) g h false) λg=>ar (bg .gtr g (.Z 0)) λg=>bw (λb d e=>jB b 4 a d λf=>jO b 6 0 a d λ_ g=>ca (b 5) λh=>ht (Cv a d e 9 f g h) d e λ_ a d=>c b a d) λc=>a8 g (jB d 2 a e λh=>jO d 6 1 a e λ_ i=>a7 a 41 [h, .Z 24,i] e f (λ_ a b=>c (ac d 20 g) a b) (b (hx [21,22,23,24] (ac d 20 g)))) (c (ac d 20 g) e f)) l (Bn 0 l λ_ _ _ _=>False) (So a f) (MF a f g) (zI (cY [b,c]) 2 d 3 e 4 h 13 i) j k) (MF a f g (hx [12,13] (zH (cY [b,c]) 2 d 3 e 4 h)))
def afW:Bs X 42 [a0,bm] h j ai aw=Uc X a0 bm h j ai aw:=Zk
def afV:dd X 42 2=true:=Zk
def Ud:Za2:=λa b c d e f g h=>fZ b 2 a e λ_ i=>a7 a 74 [i,c] e f (λe f i=>jQ e λe j=>JD i λk=>mP a f i k.1 k.2 11 e λe f i=>fZ b 3 a i λ_ k=>ar (my a i 9 (.Z 0) k c false) λl=>F9 l λl=>ht (Cv a i f 9 k c l) i f λ_ f i=>bw (λ_ a b=>g (.tuple []) a b) λg=>xS j g λg k=>a8 g (a7 a 41 [b, .Z 23,d] f i (λ_ a f=>k (zH (cY [b,c,d]) 6 e 7 j 24 g) a f) h) (AR e a f 1 λ_ _ l=>Dw l b f i 3 a λf i m=>hM l c i m λi m n=>eG l (my a m 9 (.Z 0) f i false) m n λf i m=>eG l (bg .gtr f (.Z 1)) i m λf i m=>c3 (λf=>bw k λk=>a8 f (a7 a 41 [b, .Z 24,d] i m (λ_ a h=>k (zI (cY [b,c,d]) 6 e 7 j 24 g 30 f) a h) h) (k (zI (cY [b,c,d]) 6 e 7 j 24 g 30 f) i m)) λa=>a8 l (a .zT) (a f))) h
def afY:dr X 43 [a0,bm,ct]=Ud X a0 bm ct:=Zk
def afX:dd X 43 3=true:=Zk
def Ue:Za1:=λa b c d e f g=>jW a d e b λb d e=>a7 a 26 [c, .func (.func 75) [] [b]] d e (λ_ a b=>f (.tuple []) a b) g
def af0:dr X 44 [a0,bm]=Ue X a0 bm:=Zk
def afZ:dd X 44 2=true:=Zk
def UE:Za1:=λa b c d e f g=>ew 2 c a d λ_ h=>ew 3 c a d λ_ i=>ew 4 c a d λ_ j=>ar (fd [.aV, .aV, .aV] [(0,1,h),(1,1,i),(2,1,j)]) λh=>bw (λ_ a b=>f (.tuple []) a b) λi=>fQ (λb c d e=>F7 c 14 3 λh=>bw (λc d e=>bw (λa c d=>hu a 14 λe=>b (ac a 14 e) c d) λb=>fu c 14 13 λh i=>ca (c 14) λj=>ar (sV false 3 1 i j) λi=>ar (gl i) λj=>bw b λb=>fQ (λc d e h=>i1 d 20 19 λi=>bw (λb d e=>n6 (λa b d=>hu a 20 λe=>c (ac a 20 e) b d) b 18 20 8 λc h=>ar (d0 a d 8 h) λh=>AP e a d λd e i=>ar (fc a e 8 d h) λe=>fu b 0 3 λh j=>ar (bg .add (.Z 1) j) λj=>ar (d0 a e 8 d) λk=>mx a h [j,k] e i (λa e g=>xS a c λa c=>a8 a (f (.tuple []) e g) (c (zG b 6 d 29 a) e g)) g) λa=>a8 i (a (ac d 21 i) e h) (b (ac d 21 i) e h)) (ac (zI c 3 h 4 i 18 i 19 j) 20 (.Z 0)) d e) λa=>a8 h (a (ac c 15 h) d e) (i (ac c 15 h) d e)) (zG (cY [b,c]) 13 h 14 (.Z 0)) d e
def agH:dr X 71 [a0,bm]=UE X a0 bm:=Zk
def agG:dd X 71 2=true:=Zk
def UF:Za1:=λa b c d e f g=>kV b (λ_ a b=>f (.Z (-1)) a b) λh i=>fQ (λb c d e=>i1 c 8 7 λh=>bw (λc d e=>bw (λa c d=>hu a 8 λe=>b (ac a 8 e) c d) λb=>fu c 8 1 λh i=>eF c λj=>Dz 6 j h a d λj=>mx a i [j] d e (λa d e=>bw b λb=>a8 a (f h d e) (b (zG c 5 h 16 a) d e)) g) λa=>a8 h (a (ac c 9 h) d e) (i (ac c 9 h) d e)) (zH (cY [b,c]) 4 (.Z 0) 7 h 8 (.Z 0)) d e
def agJ:dr X 72 [a0,bm]=UF X a0 bm:=Zk
def agI:dd X 72 2=true:=Zk
def UG:Za1:=λa b c d e f _=>jW a d e b λb d e=>ew 0 b a d λ_ b=>ar (aR a d c) λc=>ar (dc a d .eql 9 false b c) λa=>f a d e
def agL:dr X 73 [a0,bm]=UG X a0 bm:=Zk
def agK:dd X 73 2=true:=Zk
def Ux:Za0:=λa b c d e f=>ar (dc a c .eql 9 true b (.str [])) λg=>hM g b c d λc d h=>eG g (lK c) d h λc d h=>eG g (bg .gtr c (.Z 32)) d h λc d h=>c3 (λc=>hM c b d h λd g h=>eG c (nc d (.Z 0)) g h λd g h=>eG c (bg .geq d (.int .u8 48)) g h λd g h=>hM c d g h λd g h=>jh d b g h λg h i=>ei d (nc g (.Z 0)) h i λg h i=>ei d (bg .leq g (.int .u8 57)) h i λg h i=>k3 c (λa=>c3 (λb=>a b h i) λa=>a8 d (a g) (a .zF)) h i λd g h=>c3 (λc=>hM c b g h λd g h=>hM c (.func (.func 90) [] []) g h λg h i=>k3 c (λb=>a7 a 91 [d,g] h i b f) h i λd g h=>eG c (bg .geq d (.Z 0)) g h λd g h=>c3 (λc=>bw (λb c d=>ar (aR a c (.ptr 3 0)) λg=>eF b λh=>a7 a 92 [g,h] c d (λc d g=>ar (g7 .not c) λc=>nQ c (b 0) d g λb d g=>lx c (λc=>a7 a 93 [b] d g c f) d g λa b d=>ei c (g7 .not a) b d λa b d=>c3 (λa=>e a b d) λb=>a8 c (b a) (b .zF)) f) λa=>a8 c (e .zF g h) (a (zH (cY [b]) 2 .zF 3 (.func (.func 90) [] []) 26 c) g h)) λa=>a8 c (a .zT) (a d)) λa=>a8 c (a .zT) (a d)) λa=>a8 g (a .zT) (a c)
def agv:dr X 65 [a0]=Ux X a0:=Zk
def agu:dd X 65 1=true:=Zk
def Uy:Za0:=λa b c d e f=>kV b (λ_ a b=>e .zT a b) λg h=>fQ (λb c d g=>i1 c 7 6 λi=>bw (λc d g=>n6 (λa c d=>hu a 7 λe=>b (ac a 7 e) c d) c 5 7 8 λb h=>ar (d0 a d 8 h) λh=>AP g a d λd g i=>ar (fc a g 8 d h) λg=>ew 0 d a g λ_ h=>a7 a 65 [h] g i (λg h i=>ar (g7 .not g) λg=>eG g (hI 2 d) h i λh i j=>eG g (d0 a i 3 h) i j λh i j=>k3 g (λb=>a7 a 94 [h] i j b f) i j λh i j=>eG g (dc a i .eql 9 true h (.str [])) i j λh i j=>c3 (λg=>o6 g 5 d i j a λh i j=>eG g (dc a i .neq 9 true h (.str [])) i j λh i j=>hM g h i j λh i j=>tj h 5 d i j a λi j k=>lx h (λb=>a7 a 65 [i] j k b f) j k λf i j=>ei h (g7 .not f) i j λf i j=>k3 g (λa=>c3 (λb=>a b i j) λa=>a8 h (a f) (a .zF)) i j λf h i=>c3 (λf=>o6 f 5 d h i a λg h i=>eG f (dc a h .eql 9 true g (.str [])) h i λg h i=>hM f g h i λg h i=>tj g 7 d h i a λa h i=>k3 f (λb=>c3 (λa=>b a h i) λb=>a8 g (b a) (b .zF)) h i λa g h=>c3 (λa=>bw b λb=>a8 a (e .zF g h) (b (zG c 4 d 40 a) g h)) λb=>a8 f (b .zT) (b a)) λa=>a8 g (a .zT) (a f)) λa=>a8 g (a .zT) (a h)) f) λa=>a8 i (a (ac c 8 i) d g) (h (ac c 8 i) d g)) (zI (cY [b]) 2 .zF 5 b 6 g 7 (.Z 0)) c d
def agx:dr X 66 [a0]=Uy X a0:=Zk
def agw:dd X 66 1=true:=Zk
def Uz:Za0:=λa b c d e f=>kV b (λb c d=>ca (b 3) λg=>a7 a 95 [.aV,g] c d (λc d f=>eF b λg=>kV g (λa b c=>ca (a 6) λa=>e a b c) λe h=>fQ (λb c d e=>i1 c 27 26 λf=>bw (λc d e=>n6 (λa c d=>hu a 27 λe=>b (ac a 27 e) c d) c 25 27 1 λb f=>ar (aR a d f) λf=>ca (c 6) λg=>ht (kC a d e 8 g f) d e λa d e=>b (zG c 8 f 6 a) d e) λa=>a8 f (a (ac c 28 f) d e) (h (ac c 28 f) d e)) (zI b 6 c 25 g 26 e 27 (.Z 0)) d f) f) λe g=>fQ (λb c d e=>i1 c 11 10 λh=>bw (λc d e=>n6 (λa c d=>hu a 11 λe=>b (ac a 11 e) c d) c 9 11 1 λb g=>ar (aR a d g) λa=>ca (c 3) λg=>F8 a g λg=>Ga g λh=>bw b λb=>a8 h (ar (some (z.iface 9 (.str [108,101,110,32,111,117,116,32,111,102,32,114,97,110,103,101]))) λa=>xx f a d e) (b (zH c 5 a 3 g 20 h) d e)) λa=>a8 h (a (ac c 12 h) d e) (g (ac c 12 h) d e)) (ac (zI (cY [b]) 2 .aV 3 (.Z 0) 9 b 10 e) 11 (.Z 0)) c d
def agz:dr X 67 [a0]=Uz X a0:=Zk
def agy:dd X 67 1=true:=Zk
def UA:Za0:=λa b c d e f=>a7 a 65 [b] c d (λa b c=>ar (g7 .not a) λa=>e a b c) f
def agB:dr X 68 [a0]=UA X a0:=Zk
def agA:dd X 68 1=true:=Zk
def UB:Za0:=λa b c d e f=>ar (kB [.Z 0] d) λg=>g1 a c d g.1 g.2 λc d g=>q6 a d c 0 λd=>ar (kB [.Z 0] g) λh=>g1 a d g h.1 h.2 λd g h=>q6 a g d 0 λg=>ar (kB [.nilFunc] h) λi=>g1 a g h i.1 i.2 λg h i=>ar (fc a h 1 g (.func (.func 96) [] [d,c,g])) λd=>ar (aR a d g) λg=>mx a g [b] d i (λ_ b d=>ar (aR a b c) λa=>e a b d) f
def agD:dr X 69 [a0]=UB X a0:=Zk
def agC:dd X 69 1=true:=Zk
def UD:Za1:=λa b c d e f g=>a7 a 98 [b,c] d e (λa b c=>Gb a λa=>f a b c) g
def agF:dr X 70 [a0,bm]=UD X a0 bm:=Zk
def agE:dd X 70 2=true:=Zk
def NQ:Za1:=λa b c d e f g=>ar (dc a d .eql 41 true b .cM) λh=>hM h c d e λd e i=>eG h (bg .eql d (.Z 0)) e i λd e i=>c3 (λd=>bw (λb c d=>Tj b 1 1 λe=>jP b 8 a c λ_ _ h=>kV h (λa b c=>hu a 5 λa=>f a b c) λf i=>fQ (λb c d e=>i1 c 21 20 λf=>bw (λc d e=>n6 (λa c d=>hu a 21 λe=>b (ac a 21 e) c d) c 19 21 1 λb f=>ar (aR a d f) λf=>fu c 5 1 λh i=>a7 a 64 [f,i] d e (λd e g=>ar (rm a e .max [3,3] [h,d]) λa=>b (zG c 7 f 5 a) e g) g) λa=>a8 f (a (ac c 22 f) d e) (i (ac c 22 f) d e)) (ac (zI b 1 e 5 (.Z 0) 19 h 20 f) 21 (.Z 0)) c d) λa=>a8 d (f (.Z 0) e i) (a (zG (cY [b,c]) 4 (.Z 0) 13 d) e i)) λa=>a8 h (a .zT) (a d)
def Uw:dr X 64 [a0,bm]=NQ X a0 bm:=Zk
def Uv:dd X 64 2=true:=Zk
def UI:Za1:=λa b c d e f g=>a7 a 76 [b] d e (λd e h=>bw (λb c d=>jP b 0 a c λ_ _ e=>ar (bg .eql e (.Z 25)) λe=>bw (λ_ a b=>f .zT a b) λf=>a8 e (ff (d+14) λd=>xU b 1 a c 0 λh=>jP b 2 a c λ_ _ i=>a7 a 40 [h,i] c d (λc d h=>jQ c λc i=>bw f λf=>xS i f λf j=>a8 f (ff (h+6) λh=>jB b 1 a d λk=>jP b 1 a d λ_ _ l=>a7 a 41 [k, .Z 23,l] d h (λ_ a d=>j (zI b 34 e 6 c 7 i 47 f) a d) g) (xU b 1 a d 1 λk=>ar (bg .geq c k) λk=>bw j λj=>a8 k (ff (h+6) λh=>jB b 1 a d λl=>jP b 1 a d λ_ _ m=>a7 a 41 [l, .Z 25,m] d h (λ_ a d=>j (ac (zI b 34 e 6 c 7 i 47 f) 56 k) a d) g) (j (ac (zI b 34 e 6 c 7 i 47 f) 56 k) d h))) g) (f (ac b 34 e) c d)) λf=>a8 d (ff (h+15) λi=>ar (aR a e c) λj=>fZ j 2 a e λ_ j=>fZ b 2 a e λ_ k=>Nn h 12 a e λe h=>a7 a 74 [j,k] h i (λh i j=>jQ h λh k=>ar (fc a i 11 e h) λe=>xS k f λf h=>a8 f (ff (j+6) λi=>ar (aR a e c) λj=>fZ b 1 a e λ_ l=>a7 a 41 [j, .Z 23,l] e i (λ_ a e=>h (zI (cY [b,c]) 3 .zF 9 d 5 k 23 f) a e) g) (h (zI (cY [b,c]) 3 .zF 9 d 5 k 23 f) e j)) g) (f (zG (cY [b,c]) 3 .zF 9 d) e h)) g
def agP:dr X 75 [a0,bm]=UI X a0 bm:=Zk
def agO:dd X 75 2=true:=Zk
def UJ:Za0:=λa b c d e _=>fZ b 0 a c λ_ f=>ar (bg .eql f (.Z 2)) λf=>Dw f b c d 0 a λc d g=>eG f (bg .eql c (.Z 6)) d g λc d g=>c3 (λc=>Dw c b d g 0 a λa b d=>eG c (bg .eql a (.Z 24)) b d λa b d=>c3 (λa=>e a b d) λb=>a8 c (b .zT) (b a)) λa=>a8 f (a .zT) (a c)
def agR:dr X 76 [a0]=UJ X a0:=Zk
def agQ:dd X 76 1=true:=Zk
def UQ:Za0:=λa b c d e _=>jW a c d b λc d f=>ew 0 c a d λ_ g=>bw (λb c d=>jO b 1 2 a c λ_ f=>ar (bg .geq f (.Z 1)) λf=>abq f (b 1) (λa=>hI 2 a) c d λb c d=>ei f (aR a c b) c d λa b c=>ei f (bg .leq a (.Z 64)) b c λa b c=>c3 (λa=>e a b c) λb=>a8 f (b a) (b .zF)) λh=>a8 g (ew 1 c a d λ_ b=>ar (g7 .not b) λb=>tj b 2 c d f a λa c d=>ei b (bg .eql a (.Z 1)) c d λa c d=>c3 (λa=>e a c d) λc=>a8 b (c a) (c .zF)) (h (zH (cY [b]) 1 c 2 .zF 4 g) d f)
def ag5:dr X 84 [a0]=UQ X a0:=Zk
def ag4:dd X 84 1=true:=Zk
def UW:Za0:=λ_ a b c d _=>ar (bg .lss a (.int .i32 97)) λe=>hM e a b c λb c f=>eG e (bg .gtr b (.int .i32 122)) c f λb c f=>c3 (λb=>jh b a c f λc e f=>ei b (bg .lss c (.int .i32 65)) e f λc e f=>jh b c e f λc e f=>hM c a e f λe f g=>eG c (bg .gtr e (.int .i32 90)) f g λe f g=>lx b (λa=>c3 (λb=>a b f g) λa=>a8 c (a .zT) (a e)) f g λc e f=>c3 (λb=>jh b a e f λc e f=>ei b (bg .lss c (.int .i32 48)) e f λc e f=>jh b c e f λc e f=>hM c a e f λe f g=>eG c (bg .gtr e (.int .i32 57)) f g λe f g=>lx b (λa=>c3 (λb=>a b f g) λa=>a8 c (a .zT) (a e)) f g λc e f=>c3 (λb=>jh b a e f λa c e=>ei b (bg .neq a (.int .i32 95)) c e λa c e=>c3 (λa=>d a c e) λc=>a8 b (c a) (c .zF)) λa=>a8 b (a c) (a .zF)) λa=>a8 b (a c) (a .zF)) λa=>a8 e (a .zT) (a b)
def ahj:dr X 90 [a0]=UW X a0:=Zk
def ahi:dd X 90 1=true:=Zk
def UX:Za1:=λa b c d e f g=>a7 a 110 [b,c,.zT] d e f g
def ahl:dr X 91 [a0,bm]=UX X a0 bm:=Zk
def ahk:dd X 91 2=true:=Zk
def UY:Za1:=λa b c d e f g=>a7 a 111 [b,c] d e (λa b c=>Gb a λa=>f a b c) g
def ahn:dr X 92 [a0,bm]=UY X a0 bm:=Zk
def ahm:dd X 92 2=true:=Zk
def UZ:Za0:=λa b c d e f=>ar (lK b) λg=>ar (bg .lss g (.Z 2)) λg=>bw (λb c d=>xR b 1 λg=>a7 a 83 [g] c d (λc d g=>jQ c λc h=>eF b λi=>ar (dc a d .eql 9 true i (.str [98,111,111,108])) λi=>hM i h d g λd g h=>eG i (dc a g .eql 115 true d .nilIface) g h λd g h=>hM i d g h λd g h=>nQ d (b 0) g h λg h j=>nQ d (b 0) h j λb h j=>ei d (nc b (.Z 0)) h j λb h j=>ei d (bg .eql b (.int .u8 105)) h j λb h j=>jh d c h j λc h j=>ei d (fd [.zF, .zF, .Z 0] [(1,1,b),(2,1,c)]) h j λb c h=>lx d (λd=>a7 a 94 [b] c h d f) c h λb c f=>ei d (dc a c .eql 9 false g b) c f λa b c=>k3 i (λe=>c3 (λa=>e a b c) λb=>a8 d (b a) (b .zF)) b c λa b c=>c3 (λa=>e a b c) λb=>a8 i (b .zT) (b a)) f) λa=>a8 g (e .zF c d) (a (zG (cY [b]) 2 .zF 7 g) c d)
def ahp:dr X 93 [a0]=UZ X a0:=Zk
def aho:dd X 93 1=true:=Zk
def U1:Za1:=λa b c d e f g=>Ga c λh=>bw (λb c d=>fu b 1 0 λe g=>ar (rm a c .cap [35] [g]) λg=>eF b λh=>ar (gl h) λh=>ar (bg .sub g h) λg=>ar (bg .sub e g) λe=>ar (bg .gtr e (.Z 0)) λg=>bw (λa b c=>eF a λa=>f a b c) λf=>a8 g (fu b 0 0 λh i=>ar (rm a c .cap [35] [i]) λi=>ar (xK a c 8 h none (some i) none) λh=>ht (Ew a c d .append [35,3] [h,e]) c d λc d h=>eF b λi=>ar (gl i) λi=>ar (xK a d 8 c none (some i) none) λa=>f (zH b 1 e 16 g 0 a) d h) (f (zG b 1 e 16 g) c d)) λa=>a8 h (ar (some (z.iface 9 (.str [99,97,110,110,111,116,32,98,101,32,110,101,103,97,116,105,118,101]))) λa=>xx g a d e) (a (zG (cY [b,c]) 4 .aV 6 h) d e)
def aht:dr X 95 [a0,bm]=U1 X a0 bm:=Zk
def ahs:dd X 95 2=true:=Zk
def U2:Za3:=λa b c d e f g h i=>ar (aR a f c) λj=>F9 j λj=>ka a f c j λf=>bw (λb c d=>jB b 1 a c λe=>Dx e λe=>ca (b 1) λb=>ka a c b e λa=>h (.tuple []) a d) λh=>ar (dc a f .eql 41 true b .cM) λj=>hM j b f g λf g k=>k3 j (λb=>a7 a 97 [f] g k b i) g k λf g k=>eG j (g7 .not f) g k λf g k=>c3 (λf=>bw h λh=>a8 f (q6 a g d 1 λa=>h (ac (cY [b,c,d,e]) 22 f) a k) (ar (aR a g c) λj=>ar (bg .gtr j (.Z 200)) λj=>bw h λh=>a8 j (ar (aR a g d) λi=>q5 i 0 h λh i=>a8 h (q6 a g d 22 λa=>i (zH (cY [b,c,d,e]) 22 f 30 j 34 h) a k) (i (zH (cY [b,c,d,e]) 22 f 30 j 34 h) g k)) (fZ b 8 a g λ_ l=>ar (gl l) λm=>bw h λh=>fQ (λb c d e=>i1 c 14 13 λf=>bw (λc d e=>n6 (λa c d=>hu a 14 λe=>b (ac a 14 e) c d) c 12 14 1 λb f=>ar (aR a d f) λf=>jB c 3 a d λg=>mx a g [f] d e (λ_ a d=>b (ac c 6 f) a d) i) λa=>a8 f (a (ac c 15 f) d e) (h (ac c 15 f) d e)) (ac (zI (cY [b,c,d,e]) 22 f 30 j 12 l 13 m) 14 (.Z 0)) g k))) λa=>a8 j (a .zT) (a f)
def ahv:dr X 96 [a0,bm,ct,a3]=U2 X a0 bm ct a3:=Zk
def ahu:dd X 96 4=true:=Zk
def U3:Za0:=λa b c d e f=>ff (d+12) λg=>ar (aR a c (.ptr 4 0)) λh=>fZ b 0 a c λ_ i=>ar (my a c 3 (.agg [.Z 0, .zF, .zF, .zF]) h i true) λh=>jQ h λh i=>ar (kB [.Z 0, .zF, .zF, .zF] (d+9)) λj=>l7 a c (d+9) j.1 j.2 λc d=>ar (fc a d 4 c h) λd=>ar (g7 .not i) λh=>bw (λb c d=>ff (d+34) λd=>jP b 0 a c λ_ _ g=>ar (bg .lss g (.Z 1)) λg=>Nw g b c 0 a λc h=>Cc g (bg .gtr c (.Z 26)) h λc h=>c3 (λc=>abo c (b 3) (λa=>hI 0 a) h λg h=>Cc c (aR a h g) h λg h=>Cc c (bg .geq g (.Z 0)) h λg h=>L5 c g h λg h=>F4 g b h 8 a λh i=>kO g (gl h) i λh i=>Ri g (b 3) (λa=>hI 0 a) i λi j=>kO g (aR a j i) j λi j=>kO g (bg .neq h i) j λh i=>L4 c (λa=>c3 (λb=>a b i) λa=>a8 g (a h) (a .zF)) i λg h=>c3 (λc=>Nw c b h 8 a λg h=>k3 c (λb=>a7 a 112 [g, .cM] h d b f) h d λd g h=>c3 (λc=>bw (λb c d=>ff (d+33) λd=>jO b 3 1 a c λ_ g=>jP b 2 a c λ_ _ h=>ar (dc a c .neq 9 true h (.str [])) λh=>ar (dc a c .neq 4 false g h) λg=>abo g (b 3) (λa=>hI 1 a) c λc h=>Cc g (aR a h c) h λc h=>L5 g c h λc h=>F4 c b h 2 a λh i=>lx c (λb=>a7 a 65 [h] i d b f) i d λd h i=>kO c (g7 .not d) h λd h=>L4 g (λa=>c3 (λb=>a b h) λa=>a8 c (a d) (a .zF)) h λc d=>c3 (λc=>Nw c b d 3 a λd g=>L5 c d g λd g=>F4 d b g 0 a λg h=>kO d (bg .neq g (.Z 6)) h λg h=>L4 c (λa=>c3 (λb=>a b h) λa=>a8 d (a g) (a .zF)) h λd g=>c3 (λc=>bw (λb c d=>jO b 3 2 a c λ_ g=>ar (g7 .not g) λg=>Nu g b c d a λc d h=>ei g (fd [.zF, .zF, .Z 0] []) d h λd h i=>ei g (dc a h .neq 51 false c d) h i λc d h=>c3 (λc=>abp c (b 3) (λa=>hI 2 a) d h λd g h=>eG c (aR a g d) g h λd g h=>hM c d g h λd g h=>Nu d b g h a λg h i=>lx d (λb=>a7 a 84 [g] h i b f) h i λg h i=>ei d (g7 .not g) h i λg h i=>k3 c (λa=>c3 (λb=>a b h i) λa=>a8 d (a g) (a .zF)) h i λd g h=>c3 (λc=>abp c (b 3) (λa=>hI 3 a) g h λd g h=>eG c (aR a g d) g h λd g h=>eG c (g7 .not d) g h λd g h=>hM c d g h λd g h=>nQ d (b 0) g h λg h i=>AT d g h i 7 a λg h i=>ei d (bg .neq g (.int .u64 0)) h i λg h i=>k3 c (λa=>c3 (λb=>a b h i) λa=>a8 d (a g) (a .zF)) h i λd g h=>c3 (λc=>bw (λb c d=>jP b 0 a c λ_ _ g=>bw (λ_ a b=>e .zT a b) λh=>q5 g 1 h λh i=>a8 h (eF b λb=>a7 a 113 [b] c d e f) (ar (bg .eql g (.Z 19)) λf=>bw (λb c d=>ca (b 128) λf=>bw i λg=>a8 f (jP b 7 a c λ_ _ a=>ar (bg .leq a (.int .u64 63)) λa=>e a c d) (ca (b 123) λf=>q5 f 21 g λf g=>a8 f (jP b 8 a c λ_ _ b=>ar (hr 1 b (.Z 0)) λb=>ar (aR a c b) λb=>fZ b 0 a c λ_ f=>ar (bg .eql f (.Z 1)) λf=>Dw f b c d 0 a λc d g=>eG f (bg .eql c (.Z 4)) d g λc d g=>hM f c d g λc d g=>jh c b d g λd g h=>AT c d g h 8 a λd g h=>ei c (gl d) g h λd g h=>ei c (bg .eql d (.Z 1)) g h λd g h=>k3 f (λa=>c3 (λb=>a b g h) λa=>a8 c (a d) (a .zF)) g h λc d g=>hM f c d g λc d g=>jh c b d g λd g h=>AT c d g h 8 a λd g h=>ei c (hr 1 d (.Z 0)) g h λd g h=>ei c (aR a g d) g h λd g h=>ei c (dc a g .neq 41 true d .cM) g h λd g h=>k3 f (λa=>c3 (λb=>a b g h) λa=>a8 c (a d) (a .zF)) g h λc d g=>hM f c d g λc d g=>jh c b d g λb d g=>AT c b d g 8 a λb d g=>ei c (hr 1 b (.Z 0)) d g λb d g=>ei c (aR a d b) d g λb d g=>AT c b d g 0 a λa b d=>ei c (bg .eql a (.Z 1)) b d λa b d=>k3 f (λe=>c3 (λa=>e a b d) λb=>a8 c (b a) (b .zF)) b d λa b c=>c3 (λa=>e a b c) λb=>a8 f (b .zT) (b a)) (g (ac b 136 f) c d))) λa=>a8 f (a (zH b 123 g 124 h 128 f) c d) (ar (bg .eql g (.Z 20)) λe=>a (zI b 123 g 124 h 128 f 128 e) c d))) λa=>a8 c (e .zF g h) (a (ac b 119 c) g h)) λa=>a8 c (a .zT) (a d)) λa=>a8 c (a .zT) (a d)) λa=>a8 g (a c) (a .zF)) λa=>a8 c (e .zF g i) (a (ac b 84 c) g i)) λa=>a8 c (a .zT) (a d)) λa=>a8 g (a .zT) (a c)) λa=>a8 c (e .zF g h) (a (ac b 51 c) g h)) λa=>a8 c (a .zT) (a d)) λa=>a8 c (a .zT) (a g)) λa=>a8 g (a .zT) (a c)) λe=>a8 h (ar (fd [.Z 0, .zF, .zF, .zF] [(0,1, .Z 2)]) λf=>ar (fc a d 4 c f) λa=>e (zI (cY [b]) 2 .zF 3 c 4 i 16 h) a g) (e (zI (cY [b]) 2 .zF 3 c 4 i 16 h) d g)
def ahx:dr X 97 [a0]=U3 X a0:=Zk
def ahw:dd X 97 1=true:=Zk
def U4:Za1:=λa b c d e f g=>kV b (λ_ a b=>f (.Z (-1)) a b) λh i=>fQ (λb c d e=>i1 c 8 7 λh=>bw (λc d e=>bw (λa c d=>hu a 8 λe=>b (ac a 8 e) c d) λb=>fu c 8 1 λh i=>eF c λj=>Dy j h a d λj=>mx a i [j] d e (λa d e=>bw b λb=>a8 a (f h d e) (b (zG c 5 h 16 a) d e)) g) λa=>a8 h (a (ac c 9 h) d e) (i (ac c 9 h) d e)) (zH (cY [b,c]) 4 (.Z 0) 7 h 8 (.Z 0)) d e
def ahz:dr X 98 [a0,bm]=U4 X a0 bm:=Zk
def ahy:dd X 98 2=true:=Zk
def Tz:Za2:=λa b c d e f g h=>ht (Sq a e f b) e f λe f i=>bw (λ_ a b=>g (.Z (-1)) a b) λj=>fQ (λb c d e=>ca (c 10) λf=>Eb (va a j3 true d e (j4 f)) d e λd e f=>ar (q2 0 d) λi=>bw (λc d e=>bw b λb=>ca (c 11) λf=>ar (q2 1 f) λf=>ca (c 11) λi=>ar (q2 2 i) λi=>ca (c 1) λj=>mx a j [i] d e (λd e h=>ca (c 2) λj=>ar (dc a e .eql 4 false d j) λa=>bw b λb=>a8 a (g f e h) (b (zH c 7 f 8 i 19 a) e h)) h) λa=>a8 i (a (zG c 11 d 12 i) e f) (j (zG c 11 d 12 i) e f)) (zG (cY [b,c,d]) 6 (.Z 0) 10 e) f i
def aeM:dr X 110 [a0,bm,ct]=Tz X a0 bm ct:=Zk
def aeL:dd X 110 3=true:=Zk
def TA:Za1:=λa b c d e f _=>kV b (λ_ a b=>f (.Z (-1)) a b) λg h=>fQ (λb c d e=>i1 c 8 7 λg=>bw (λc d e=>bw (λa c d=>hu a 8 λe=>b (ac a 8 e) c d) λb=>fu c 8 1 λg h=>eF c λi=>Dy i g a d λi=>ar (dc a d .eql 9 false h i) λa=>bw b λb=>a8 a (f g d e) (b (zG c 5 g 16 a) d e)) λa=>a8 g (a (ac c 9 g) d e) (h (ac c 9 g) d e)) (zH (cY [b,c]) 4 (.Z 0) 7 g 8 (.Z 0)) d e
def aeO:dr X 111 [a0,bm]=TA X a0 bm:=Zk
def aeN:dd X 111 2=true:=Zk
def TB:Za1:=λa b c d e f g=>a7 a 119 [b,c] d e (λa b c=>Gb a λa=>f a b c) g
def aeQ:dr X 112 [a0,bm]=TB X a0 bm:=Zk
def aeP:dd X 112 2=true:=Zk
def TC:Za0:=λa b c d e f=>hQ b 4 λg=>ew 2 g a c λ_ g=>hQ b 4 λh=>ew 1 h a c λ_ h=>bw (λb c d=>jP b 0 a c λ_ _ g=>ar (bg .eql g (.Z 1)) λg=>Nu g b c d a λc d h=>lx g (λb=>a7 a 84 [c] d h b f) d h λc d f=>c3 (λc=>nQ c (b 3) d f λd f g=>ei c (bg .eql d (.Z 64)) f g λd f g=>jh c d f g λd f g=>y9 d (b 0) f g λf g h=>eG d (mh f) g h λf g h=>o6 d 7 f g h a λa f g=>y9 d (b 3) f g λb f g=>eG d (bg .shr a b) f g λa b f=>eG d (bg .eql a (.int .u64 0)) b f λa b f=>lx c (λc=>c3 (λa=>c a b f) λb=>a8 d (b .zT) (b a)) b f λa b d=>c3 (λa=>e a b d) λb=>a8 c (b a) (b .zF)) λa=>a8 g (a c) (a .zF)) λa=>a8 h (Dx g λe=>a (zI (cY [b]) 2 .zF 3 g 13 h 3 e) c d) (a (zH (cY [b]) 2 .zF 3 g 13 h) c d)
def aeS:dr X 113 [a0]=TC X a0:=Zk
def aeR:dd X 113 1=true:=Zk
def TG:Za1:=λa b c d e f _=>kV b (λ_ a b=>f (.Z (-1)) a b) λg h=>fQ (λb c d e=>i1 c 8 7 λg=>bw (λc d e=>bw (λa c d=>hu a 8 λe=>b (ac a 8 e) c d) λb=>fu c 8 1 λg h=>eF c λi=>Dy i g a d λi=>ar (dc a d .eql 41 false h i) λa=>bw b λb=>a8 a (f g d e) (b (zG c 5 g 16 a) d e)) λa=>a8 g (a (ac c 9 g) d e) (h (ac c 9 g) d e)) (zH (cY [b,c]) 4 (.Z 0) 7 g 8 (.Z 0)) d e
def ae0:dr X 119 [a0,bm]=TG X a0 bm:=Zk
def aeZ:dd X 119 2=true:=Zk
def adc(a:aM)(b:bN):fE:=λc d e=>oW a [.tmp 2] b c c.aW d e
def acF(a:aM)(b c:bN):si:=λd e f g=>vN a [.tmp 2] b c d e d.aW f g
def TS:Za0:=λa b c d e f=>jW a c d b λc d g=>g1 a d g (.map g) (.map [] 0) λd g h=>ar (fd [.lM, .aV] [(0,1,d)]) λd=>jW a g h d λd g h=>ar (kB [.cM] h) λi=>mP a g h i.1 i.2 1 d λd g h=>ar (d0 a h 6 c) λi=>a7 a 39 [i] h g (λg h i=>bw (λb c d=>jO b 1 5 a c λ_ f=>kV f (λb c d=>jB b 3 a c λf=>adc a e (ac b 2 f) c d) λe g=>fQ (λb c d e=>i1 c 56 55 λf=>bw (λc d e=>bw (λa c d=>hu a 56 λe=>b (ac a 56 e) c d) λb=>fu c 56 54 λf g=>ca (c 56) λh=>ar (hr 4 g h) λg=>JF a d g e 0 λd e g h=>ar (gl h) λi=>bw b λb=>fQ (λc d e f=>i1 d 64 63 λg=>bw (λb d e=>bw (λa b d=>hu a 64 λe=>c (ac a 64 e) b d) λc=>fu b 64 62 λf g=>ca (b 64) λh=>Dy g h a d λg=>xU b 3 a d 0 λh=>No a d h g λh i=>JD e λj=>mP a d e j.1 j.2 11 h λd e h=>tj i 9 d h e a λe h j=>ei i (bg .lss e (.Z 0)) h j λe h j=>c3 (λe=>bw c λc=>a8 e (ca (b 8) λk=>q8 9 d a h k λh=>q8 10 d a h f λh=>ff (j+7) λj=>xU b 3 a h 0 λk=>ar (d0 a h 11 d) λl=>ht (Cv a h j 9 k g l) h j λ_ a h=>c (ac (zI b 10 f 11 g 12 d 13 i) 83 e) a h) (c (ac (zI b 10 f 11 g 12 d 13 i) 83 e) h j)) λa=>a8 i (a e) (a .zF)) λa=>a8 g (a (ac d 65 g) e f) (b (ac d 65 g) e f)) (ac (zI c 9 d 8 f 62 h 63 i) 64 (.Z 0)) g e) λa=>a8 f (a (ac c 57 f) d e) (g (ac c 57 f) d e)) (zH b 54 f 55 e 56 (.Z 0)) c d) λj=>CP a 97 g [19,20] (r9 a (λ_ _ b _ _ c d e=>ca (c 19) λf=>AP e a d λd e g=>ca (c 20) λh=>ar (fc a e 8 d h) λa=>b (zG c 4 f 5 d) a g) λ_ _ b _ _ c d e=>bw b λb=>ff (e+13) λf=>xU c 3 a d 0 λg=>jO c 5 0 a d λ_ h=>No a d g h λg h=>Nn e 10 a d λd e=>ar (fc a e 11 d g) λd=>xS h b λb e=>a8 b (ff (f+10) λf=>xU c 3 a d 0 λg=>jO c 5 0 a d λ_ i=>fu c 4 5 λj k=>ar (d0 a d 8 k) λk=>ar (fd [.Z 0, .str [], .Z 0, .zF, .zF, .Z 0, .str [], .Z 0, .zF, .Z 0, .Z 0] [(0,1,j),(1,8,k),(9,1, .Z (-1)),(10,1, .Z (-1))]) λj=>ht (Cv a d f 9 g i j) d f λ_ d f=>ff (f+12) λg=>jB c 3 a d λi=>xU c 3 a d 1 λj=>jO c 5 0 a d λ_ k=>ar (it 1 [.str []] [(0,1,k)] (f+7)) λk=>l7 a d (f+7) k.1 k.2 λd f=>ht (kC a f g 1 j d) f g λd f g=>hQ i 1 λj=>jB c 3 a f λk=>hG k (some i) (ka a f j d λa=>e (zG c 7 h 32 b) a g)) (e (zG c 7 h 32 b) d f)) j (Bn 0 j λ_ _ _ _=>False) (adc a e) (acF a e f) (zI (cY [b]) 1 c 2 .cM 3 d 18 g) h i) (acF a e f (hx [17,18] (zH (cY [b]) 1 c 2 .cM 3 d)))
def afm:Bs X 23 [a0] h j ai aw=TS X a0 h j ai aw:=Zk
def afl:dd X 23 1=true:=Zk
def UH:Za1:=λa b c d e f _=>JD e λg=>g1 a d e g.1 g.2 λd e g=>ar (dc a e .eql 70 true b .cM) λh=>bw (λb c d=>jP b 0 a c λ_ _ e=>ca (b 1) λg=>No a c e g λe g=>JD d λh=>mP a c d h.1 h.2 11 e λc d e=>ar (d0 a e 11 c) λc=>nr b 4 a e 11 c λa b=>f (.tuple [b,g]) a d) λi=>a8 h (ar (fd [.Z 0, .str [], .Z 0, .zF, .zF, .Z 0, .str [], .Z 0, .zF, .Z 0, .Z 0] []) λb=>AS a e 11 d b λa b=>f (.tuple [b, .zF]) a g) (i (zH (cY [b,c]) 4 d 5 .zF 9 h) e g)
def agN:dr X 74 [a0,bm]=UH X a0 bm:=Zk
def agM:dd X 74 2=true:=Zk
def U0:Za0:=λa b c d e f=>jW a c d b λc d g=>bw (λb c d=>jO b 1 2 a c λ_ b=>a7 a 107 [b] c d (λb c d=>ar (dc a c .add 9 true (.str [117]) b) λa=>e a c d) f) λh=>xT a d 3 c 84 g f λd g i=>xS d h λd h=>a8 d (e (.str []) g i) (ew 0 c a g λ_ j=>bw h λh=>a8 j (e (.str [98,111,111,108]) g i) (ew 1 c a g λ_ k=>bw h λh=>a8 k (ew 2 c a g λ_ b=>a7 a 107 [b] g i (λb c d=>ar (dc a c .add 9 true (.str [105]) b) λa=>e a c d) f) (h (ac (zI (cY [b]) 1 c 2 (.str []) 3 d 7 j) 10 k) g i)))
def ahr:dr X 94 [a0]=U0 X a0:=Zk
def ahq:dd X 94 1=true:=Zk
end
noncomputable section
def fH:Nat->bx->Nat
 |0,_=>0
 |o+1,B=>B.args.foldl (λa D=>max a (fH o D)) 0+1
def anh:∀o B,fH o B<=o:=by
 intro o
 induction o with
 |zero=>intro B;simp[fH]
 |succ o ah=>
  intro B
  have:∀(k:List bx) a,a<=o->k.foldl (λa D=>max a (fH o D)) a<=o:=by
   intro k
   induction k with
   |nil=>intro a gd;exact gd
   |cons D k Iq=>intro a gd;exact Iq _ (Nat.max_le.2 ⟨gd,ah D⟩)
  have:=this B.args 0 Zo
  show _+1<=o+1
  omega
def ari{C:aM}{h:R ag}(D b:Nat):rm C h .max [3,3] [.Z (D:Int), .Z (b:Int)]=some (.Z ((max D b:Nat):Int)):=by
 show oe true (.Z (D:Int)) [.Z (b:Int)]=_
 simp only[oe,eU,sU,ZE]
 congr 2
 split<;>simp_all<;>omega
def I4{X:cn}{h:R ag}(b:Nat):dc X h .eql 41 true (.ptr b 0) .cM=some .zF:=Zk
section
variable{X:cn}{h S a1 aT:R ag}{j aq aP bk aF bE:Nat}{aN:List Tok}{i:Nat}
def amZ(aB:dR X):∀(o:Nat),o<=1000->∀h j P B v,(q X).a6<=j->cm X h P B v->(∀e,P e->e<j)->
 a7 X 64 [v, .Z (o:Int)] h j (λaa S aq=>aa= .Z (fH o B:Nat)/\bD X h j S aq) zK:=by
 intro o
 induction o with
 |zero=>
  intro _ h j P B v aL bl b1
  refine zF aB (Uv X) ?_
  rw[Uw]
  unfold NQ
  obtain⟨b,rfl,aj,_⟩:=bl.ptr
  have fV:=b1 b aj
  refine dk @I4 @Int.natCast_zero ⟨?_⟩
  exact⟨rfl,dL⟩
 |succ o ah=>
  intro aG h j P B v aL bl b1
  refine zF aB (Uv X) ?_
  rw[Uw]
  unfold NQ
  obtain⟨b,bf,cD,bj,rfl,aj,a0,bm,ct,a3,a4,a5,kd,kz,kA,cW,has⟩:=bl.open
  have fV:=b1 b aj
  have e3:=cW.len
  have y1:=has.len
  have jI:((o+1:Nat):Int)=(o:Int)+1:=Zo
  have d:decide (((o+1:Nat):Int)=0)=false:=by simp;omega
  have bA:bg .sub (.Z ((o+1:Nat):Int)) (.Z 1)=some (.Z (o:Int)):=by rw[vx Zo Zo];congr 2;omega
  have aX:=cW.many
  rw[Zr,y1]at aX
  rw[Zr,y1]at e3
  refine gV @I4 @d @bA @kA @e3 ⟨?_⟩
  refine f6 (λm H S aQ=>∃(W:Nat) (a:Nat),H.g 1=some (.Z (o:Int))/\H.g 5=some (.Z (a:Int))/\H.g 19=some bf/\H.g 20=some (.Z (B.args.length:Int))/\H.g 21=some (.Z (W:Int))/\W+m=B.args.length/\a<=o/\bD X h j S aQ/\fH (o+1) B=(B.args.drop W).foldl (λa D=>max a (fH o D)) a+1)
   B.args.length ⟨0,0,bC,gC,bC,bC,gC,Zo,Zo,bD.refl _ _,by simp[fH]⟩ ?_
  rintro m H aT bk ⟨W,a,t1,t5,qZ,C6,SU,bB,gd,cl,bX⟩
  have gP:=cl.le
  have cg:=zD W
  have eN:=zD a
  cases m with
  |zero=>
   have cJ:=zz W B.args.length
   rw[ZH Zo]at bX
   simp only[List.foldl_nil]at bX
   refine gV @SU @C6 @t5 @cJ @eN ⟨?_⟩
   exact⟨by first|rw[bX]|(simp only[bX];rfl),cl⟩
  |succ m=>
   have cJ:=zA W B.args.length
   obtain⟨D,aC⟩:=zB B.args W
   obtain⟨v,bt,amw⟩:=has.get W D aC
   obtain⟨cb,b5,cG⟩:=(cW.ad λe F=>cl.ad e (b1 e F)).one bt
   refine eQ @SU @C6 @t5 @qZ @t1 @cJ (Za @cb @b5) ⟨?_⟩
   refine(ah Zo aT bk P D v Zo (amw.ad λe F=>cl.ad e (b1 e F)) (λe F=>zy (b1 e F))).Zm ?_
   rintro De be bF ⟨rfl,cx⟩
   have iT:=cx.le
   have iP:rm X be .max [3,3] [.Z (a:Int), .Z ((fH o D:Nat):Int)]=some (.Z ((max a (fH o D):Nat):Int)):=ari _ _
   refine eW @iP @SU @cg ⟨?_⟩
   refine⟨m,Zo,W+1,max a (fH o D),aY t1,bC,aY qZ,aY C6,bC,Zo,Nat.max_le.2 ⟨gd,anh o D⟩,cl.trans cx, ?_⟩
   have aI:B.args.drop W=D::B.args.drop (W+1):=by
    obtain⟨af,F⟩:=Zb.1 aC
    rw[Zz af,F]
   rw[aI,ZL]at bX
   exact bX
end
def ng:List eL->Option Int
 |[]=>none
 |al::k=>if 200<fH 201 al.right then some al.at_ else ng k
def lL:List Go.aS.Node->Option (Int×Int)
 |[]=>none
 |g::k=>if 256<g.eh.length+g.out.length+g.loc.length\/4096<g.eqs.length then some (30,g.at_)else match ng g.eqs with
  |some D=>some (22,D)
  |none=>lL k
def l5(ax:List Go.aS.Node):Option (Int×Int):=match ax[64]? with
 |some g=>some (30,g.at_)
 |none=>lL ax
section
variable{X:cn}{h S a1 aT:R ag}{j aq aP bk aF bE:Nat}{aN:List Tok}{i:Nat}
def amY(aB:dR X){P:Nat->Prop}{B:bx}{v:z}(aL:(q X).a6<=j)(bl:cm X h P B v)(b1:∀e,P e->e<j):
 a7 X 37 [v] h j (λaa S aq=>aa= .Z (fH 201 B:Nat)/\bD X h j S aq) zK:=by
 refine zF aB (afJ X) ?_
 rw[afK]
 unfold T7
 exact(amZ aB 201 Zo h j P B v aL bl b1)
def aqQ(aB:dR X){P:Nat->Prop}{ax:List Go.aS.Node}{v:z}(aL:(q X).a6<=j)(bX:tp X h P ax v)(b1:∀e,P e->e<j):
 a7 X 20 [v] h j (λaa S aq=>l5 ax=none/\aa= .tuple []/\bD X h j S aq) (λaa S aq=>∃o D,l5 ax=some (o,D)/\aa=wG o D/\bD X h j S aq):=by
 refine zF aB (afh X) ?_
 rw[afi]
 unfold TQ
 obtain⟨b,bf,cD,ba,rfl,yH,a0,cW,tZ⟩:=bX
 have pp:=tZ.wide
 have e3:=cW.len
 have kL:=cW.many
 rw[pp.1]at e3 kL
 by_cases En:64<ax.length
 ·obtain⟨g,X7⟩:∃g,ax[64]? =some g:=⟨_,Zf En⟩
  obtain⟨row,fN,kM⟩:=tZ.get 64 g X7
  have d7:=cW.gZ 64 Zo
  obtain⟨c1,dn,SI,ev,b0,cy,cT,fi,xG,rfl,_⟩:=kM
  have ay:=cW.cell 64 _ 1 _ fN rfl
  have d:decide ((64:Int)<(ax.length:Int))=true:=by simp;omega
  have anp:hr 6 bf (.Z 64)=some (.ptr cD (64*6)):=d7
  refine gV @a0 @e3 @d @anp @ay ⟨?_⟩
  refine⟨⟨30,g.at_,by simp[l5,X7],rfl,bD.refl _ _⟩⟩
 ·have az:l5 ax=lL ax:=by simp[l5,ZT (by omega:ax.length<=64)]
  have d:decide ((64:Int)<(ax.length:Int))=false:=by simp;omega
  rw[az]
  refine eW @a0 @e3 @d ⟨?_⟩
  refine f6 (λm H S aQ=>∃(W:Nat),H.g 24=some bf/\H.g 25=some (.Z (ax.length:Int))/\H.g 26=some (.Z (W:Int))/\W+m=ax.length/\bD X h j S aQ/\lL ax=lL (ax.drop W))
   ax.length ⟨0,bC,bC,gC,Zo,bD.refl _ _,rfl⟩ ?_
  rintro m H aT bk ⟨W,C7,uz,tf,bB,cl,w8⟩
  have gP:=cl.le
  have cg:=zD W
  cases m with
  |zero=>
   have cJ:=zz W ax.length
   rw[ZH Zo]at w8
   refine eW @tf @uz @cJ ⟨?_⟩
   exact⟨w8,rfl,cl⟩
  |succ m=>
   have cJ:=zA W ax.length
   obtain⟨g,vl⟩:=zB ax W
   have aI:ax.drop W=g::ax.drop (W+1):=by
    obtain⟨af,F⟩:=Zb.1 vl
    rw[Zz af,F]
   rw[aI]at w8
   obtain⟨row,fN,kM⟩:=tZ.get W g vl
   have d7:=cW.gZ W Zo
   have na:=(cW.ad λe F=>cl.ad e (b1 e F)).row Zd fN
   have an5:=kM.ad (bh:=P) (λe F=>cl.ad e (b1 e F)) (λ_ a=>a)
   have qb:=kM.iI
   obtain⟨c1,dn,SI,ev,b0,cy,cT,fi,xG,rfl,cH,cB,dN,fx,lQ⟩:=an5
   have ea:=cH.len;have c4:=cB.len;have eT:=dN.len;have gE:=fx.len
   have d4:=cH.many;have fk:=cB.many;have iH:=dN.many;have IJ:=fx.many
   have adW:=lQ.wide
   rw[Zr]at ea c4 eT d4 fk iH
   rw[adW.1]at gE IJ
   have eN:bg .add (.Z (g.eh.length:Int)) (.Z (g.out.length:Int))=some (.Z ((g.eh.length+g.out.length:Nat):Int)):=by rw[eO Zo Zo];rfl
   have iP:bg .add (.Z ((g.eh.length+g.out.length:Nat):Int)) (.Z (g.loc.length:Int))=some (.Z ((g.eh.length+g.out.length+g.loc.length:Nat):Int)):=by rw[eO Zo Zo];rfl
   refine ln @tf @uz @C7 @cJ @d7 @na ⟨?_⟩
   refine gm (j8 (o:=6) (b:=bk) (V:=0) (n:=6) (c:=R.ofList [.str [], .Z 0, .aV, .aV, .aV, .aV] 0 .nil) (bv Zo) Zo rfl Zd Zd qb) ?_
   generalize gt:bn X _ bk _=be
   have u2:Z X be bk=some (.cells (dP (R.ofList [.str [], .Z 0, .aV, .aV, .aV, .aV] 0 .nil) 0 [.str g.name, .Z g.at_,c1,dn,SI,ev]) 6 .own):=by rw[<-gt];exact bv Zo
   have cx:bD X h j be (bk+1):=cl.trans (by rw[<-gt];exact dL)
   have df:∀e,P e->Z X be e=Z X h e:=λe F=>cx.ad e (b1 e F)
   clear gt
   have dv:aR X be (.ptr bk 1)=some (.Z g.at_):=by rw[bS u2];rfl
   have dK:aR X be (.ptr bk 2)=some c1:=by rw[bS u2];rfl
   have gM:aR X be (.ptr bk 3)=some dn:=by rw[bS u2];rfl
   have yj:aR X be (.ptr bk 4)=some SI:=by rw[bS u2];rfl
   have jD:aR X be (.ptr bk 5)=some ev:=by rw[bS u2];rfl
   by_cases alU:256<g.eh.length+g.out.length+g.loc.length
   ·have eI:decide ((256:Int)<((g.eh.length+g.out.length+g.loc.length:Nat):Int))=true:=by simp;omega
    refine eQ @dv @dK @gM @yj @jD @ea (Za @c4 (Za @eT (Za @gE (Za @eN (Za @iP @eI))))) ⟨?_⟩
    exact⟨⟨30,g.at_,by rw[w8,lL,Zp (.inl alU)],rfl,cx⟩⟩
   have eI:decide ((256:Int)<((g.eh.length+g.out.length+g.loc.length:Nat):Int))=false:=by simp;omega
   by_cases alV:4096<g.eqs.length
   ·have h3:decide ((4096:Int)<(g.eqs.length:Int))=true:=by simp;omega
    refine eQ @dv @dK @gM @yj @jD @ea (Za @c4 (Za @eT (Za @gE (Za @eN (Za @iP (Za @eI @h3)))))) ⟨?_⟩
    exact⟨⟨30,g.at_,by rw[w8,lL,Zp (.inr alV)],rfl,cx⟩⟩
   have h3:decide ((4096:Int)<(g.eqs.length:Int))=false:=by simp;omega
   refine eQ @dv @dK @gM @yj @jD @ea (Za @c4 (Za @eT (Za @gE (Za @eN (Za @iP (Za @eI (Za @h3 (Za @C7 (Za @uz @tf))))))))) ⟨?_⟩
   have aj:lL ax=(match ng g.eqs with|some D=>some (22,D)|none=>lL (ax.drop (W+1))):=by rw[w8,lL,Zg Zo]
   have LM:=fx.ad (S:=h) (λe F=>(cl.ad e (b1 e F)).symm)
   have asZ:=lQ.ad (S:=h) (bh:=P) (λe F=>(cl.ad e (b1 e F)).symm) (λ_ a=>a)
   refine f6 (λiH H S aQ=>∃(i:Nat),H.g 24=some bf/\H.g 25=some (.Z (ax.length:Int))/\H.g 26=some (.Z (W:Int))/\H.g 53=some ev/\H.g 54=some (.Z (g.eqs.length:Int))/\H.g 55=some (.Z (i:Int))/\i+iH=g.eqs.length/\bD X h j S aQ/\ng g.eqs=ng (g.eqs.drop i))
    g.eqs.length ⟨0,aY C7,aY uz,aY tf,bC,bC,gC,Zo,cx,rfl⟩ ?_
   clear C7 uz tf dv dK gM yj jD u2 df cx
   rintro iH H be bF ⟨i,C7,uz,tf,AK,mK,pF,aE,cx,w7⟩
   have iT:=cx.le
   cases iH with
   |zero=>
    have fM:=zz i g.eqs.length
    rw[ZH Zo]at w7
    refine gV @pF @mK @fM @tf @cg ⟨?_⟩
    refine⟨m,Zo,W+1,aY C7,aY uz,bC,Zo,cx, ?_⟩
    rw[aj,w7];rfl
   |succ iH=>
    have fM:=zA i g.eqs.length
    have pg:=zD i
    obtain⟨al,vt⟩:=zB g.eqs i
    have amP:g.eqs.drop i=al::g.eqs.drop (i+1):=by
     obtain⟨af,F⟩:=Zb.1 vt
     rw[Zz af,F]
    rw[amP,ng]at w7
    obtain⟨row,fN,BW⟩:=asZ.get i al vt
    have anq:=fx.gZ i (by rw[adW.1];omega)
    have Ic:=(LM.ad λe F=>cx.ad e (b1 e F)).row Zd fN
    obtain⟨ah6,ah4,pc,tt,hF,rfl,_,_,aaP,pr⟩:=BW
    refine ln @pF @mK @AK @fM @anq @Ic ⟨?_⟩
    refine gm (j8 (o:=4) (b:=bF) (V:=0) (n:=4) (c:=R.ofList [.aV, .aV, .Z 0, .cM] 0 .nil) (bv Zo) Zo rfl Zd Zd pr) ?_
    generalize h7:bn X _ bF _=bU
    have W5:Z X bU bF=some (.cells (dP (R.ofList [.aV, .aV, .Z 0, .cM] 0 .nil) 0 [ah6,ah4, .Z al.at_,hF]) 4 .own):=by rw[<-h7];exact bv Zo
    have dz:bD X be bF bU (bF+1):=by rw[<-h7];exact dL
    have Eo:=cx.trans dz
    clear h7
    have gM:aR X bU (.ptr bF 3)=some hF:=by rw[bS W5];rfl
    refine cr @gM ⟨?_⟩
    refine(amY aB Zo (aaP.ad λe F=>Eo.ad e (b1 e F)) (λe F=>zy (b1 e F))).Zm ?_
    rintro FY bY cw ⟨rfl,dW⟩
    have iU:=dW.le
    have dK:aR X bY (.ptr bF 2)=some (.Z al.at_):=by rw[bS (by rw[dW.ad _ Zo];exact W5)];rfl
    by_cases gd:200<fH 201 al.right
    ·have iz:decide ((200:Int)<((fH 201 al.right:Nat):Int))=true:=by simp;omega
     rw[Zp gd]at w7
     refine dk @iz @dK ⟨?_⟩
     exact⟨⟨22,al.at_,by rw[aj,w7],rfl,Eo.trans dW⟩⟩
    ·have iz:decide ((200:Int)<((fH 201 al.right:Nat):Int))=false:=by simp;omega
     rw[Zg gd]at w7
     refine eW @iz @pF @pg ⟨?_⟩
     exact⟨iH,Zo,i+1,aY C7,aY uz,aY tf,aY AK,aY mK,bC,Zo,Eo.trans dW,w7⟩
end
end
end Go.Proofs.YtbbkkkpgjaopkaaGreatDoor

