/- Part of the proof of the last text; no conditions -/
import Derived.Test.YtpeabpmnlmaabaaGreatDoorYl
import Derived.Test.YtpeabpmnlmaabaaGreatDoorRows
import Derived.ProofKit
set_option maxHeartbeats 8000000
set_option linter.all false
namespace Go.Proofs.YtpeabpmnlmaabaaGreatDoor
open Go.bg Go.aL
noncomputable section
mutual
def Gq{gh:Type}(t:aR->Option c0)(step:gh->bp->fu->gh):bp->fu->gh->gh
 | .mk u F nm no ty n args,c,s=>yH t step u nm c 0 args (step s (.mk u F nm no ty n args) c)
def yH{gh:Type}(t:aR->Option c0)(step:gh->bp->fu->gh)(u:Int)(nm:aR)(c:fu):Nat->List bp->gh->gh
 |_,[],s=>s
 |i,D::b8,s=>yH t step u nm c (i+1) b8 (Gq t step D (ot t u nm c i) s)
end
def aE5{gh:Type}(t:aR->Option c0)(step:gh->bp->fu->gh)(D:bp)(c:fu)(s:gh):Gq t step D c s=yH t step D.kind D.name c 0 D.args (step s D c):=by
 cases D;rw[Gq];rfl
def C9(t:aR->Option c0)(f:Option Int)(D:bp)(c:fu):Option Int:=FG f (Hy t D c) D.at_
mutual
def akd(t:aR->Option c0):∀(D:bp) (c:fu) (f:Option Int),nK t D c f=Gq t (C9 t) D c f
 | .mk u F nm no ty n args,c,f=>by rw[nK,Gq];exact akc t u nm c 0 args _
def akc(t:aR->Option c0)(u:Int)(nm:aR)(c:fu):∀(i:Nat) (k:List bp) (f:Option Int),vz t u nm c i k f=yH t (C9 t) u nm c i k f
 |_,[],f=>by rw[vz,yH]
 |i,D::b8,f=>by rw[vz,yH,akd t D,akc t u nm c (i+1) b8]
end
section
variable{X:ca}{h R aQ aP:S ag}{j an aV aX:Nat}{P a7:Nat->Prop}
def aEQ(aw:dk X){gh:Type}(t:aR->Option c0)(step:gh->bp->fu->gh)(P sh:Nat->Prop)(bO:Nat)(cr:E)(dB:gh->S ag->Nat->Prop)(u:Nat)(ox ha:List E)(oC:(o X).a8<=bO)(bs:∀e,P e->e<bO)(xL:∀e,sh e->e<bO)
 (gf:∀s h n,dB s h n->bO<=n/\kd X h sh cr t)(EB:∀s h n R aS,dB s h n->n<=aS->(∀e,e<n->W X R e=W X h e)->dB s R aS)
 (dG:bp->fu->Prop)(d9:∀D c (i:Nat) F,dG D c->D.args[i]? =some F->dG F (ot t D.kind D.name c i))
 (qV:∀(s:gh) (D:bp) (v:E) (c:fu) (h:S ag) (j:Nat),dB s h j->dG D c->cn X h P D v->a2 X u ((ox++[v,h9 c])++ha) h j (λac R an=>dB (step s D c) R an/\j<=an/\(∀e,P e->W X R e=W X h e)/\∀e,bO<=e->e<j->W X R e=W X h e) zL):
 ∀(N:Nat) (D:bp),SizeOf.sizeOf D<N->∀(s:gh) (v:E) (c:fu) (h:S ag) (j:Nat),dB s h j->dG D c->cn X h P D v->
  a2 X 20 [cr,v,h9 c, .func (.func u) ox ha] h j (λac R an=>ac= .tuple []/\dB (Gq t step D c s) R an/\j<=an/\(∀e,P e->W X R e=W X h e)/\∀e,bO<=e->e<j->W X R e=W X h e) zL:=by
 intro N
 induction N with
 |zero=>intro D a;omega
 |succ N ah=>
  intro D jw s v c h j aC Y bA
  have d2:=(gf _ _ _ aC).1
  refine zG aw (amp X) ?_
  rw[amq]
  unfold aav
  refine tr ?_
  generalize dl:Go.bg.bm X h j _=aQ
  have bP:W X aQ j=zD [.str c.1, .bool c.2] 2:=by rw[<-dl,bh Zo];rfl
  have bR:∀e,e<j->W X aQ e=W X h e:=λe z=>by rw[<-dl,aI Zo Zo]
  clear dl
  have md:∀e,P e->W X aQ e=W X h e:=λe z=>bR e (zz (bs e z))
  have lu:=EB _ _ _ aQ (j+1) aC Zo bR
  have pc:=cn.ab md _ _ bA
  obtain⟨b,aO,ce,bk,rfl,aj,a0,_,cf,_,_,_,_,_,jf,cG,has⟩:=id pc.open
  have eM:=cG.len
  have qW:=has.len
  rw[Zi,qW]at eM
  have h1:=cG.many
  rw[Zi,qW]at h1
  have cZ:dE X aQ 2 (.ptr j 0)=some (h9 c):=by rw[jp,bG bP,bG bP];rfl
  rw[aE5]
  refine cS @Jd @cZ ⟨?_⟩
  refine(qV s D _ c aQ (j+1) lu Y pc).Zm ?_
  rintro ac aP aX ⟨p3,fN,nv,ahp⟩
  rw[<-ahp _ Zo Zo]at bP
  have R1:aU X aP (.ptr b 8)=some aO:=zK (nv b aj) jf
  refine cS @R1 @eM ⟨?_⟩
  refine fE (λm I R aS=>∃(V:Nat) (e1:gh),I.g 0=some cr/\I.g 1=some (.ptr b 0)/\I.g 3=some (.func (.func u) ox ha)/\I.g 6=some (.ptr j 0)/\I.g 20=some aO/\I.g 21=some (.Z (D.args.length:Int))/\I.g 22=some (.Z (V:Int))/\V+m=D.args.length/\dB e1 R aS/\j<aS/\(∀e,P e->W X R e=W X aQ e)/\(∀e,bO<=e->e<j+1->W X R e=W X aP e)/\yH t step D.kind D.name c 0 D.args (step s D c)=yH t step D.kind D.name c V (D.args.drop V) e1)
   D.args.length ⟨0,_,bo,bo,bo,bo,bo,bo,fY,Zo,p3,Zo,nv,λ_ _ _=>rfl,rfl⟩ ?_
  rintro m I a6 bz ⟨V,e1,t0,t1,t3,eY,qp,r4,r5,bF,Vr,ww,jC,VY,bb⟩
  have ayy:∀e,bO<=e->e<j->W X a6 e=W X h e:=λe H M=>by rw[VY e H Zo,ahp e H Zo,bR e M]
  cases m with
  |zero=>
   have d:=zA V D.args.length
   rw[ZC Zo,yH]at bb
   rw[bb]
   refine er @r5 @r4 @d ⟨?_⟩
   exact⟨rfl,Vr,Zo,λe z=>by rw[jC e z,md e z],ayy⟩
  |succ m=>
   have d:=zB V D.args.length
   have bC:=zE V
   obtain⟨F,aE⟩:=zC D.args V
   have aJ:D.args.drop V=F::D.args.drop (V+1):=by
    obtain⟨af,z⟩:=Zb.1 aE
    rw[Zr af,z]
   obtain⟨w,nt,Lb⟩:=has.get V F aE
   obtain⟨cE,cA,dT⟩:=(cG.ab jC).one nt
   rw[aJ,yH]at bb
   have eA:=QV (Zl aE)
   have cI:=bP
   rw[<-VY _ Zo Zo]at cI
   have eW:dE X a6 2 (.ptr j 0)=some (.agg [.str c.1, .bool c.2]):=by rw[jp,bG cI,bG cI];rfl
   have cv:b<bO:=bs b aj
   have RX:aU X a6 (.ptr b 0)=some (.Z D.kind):=zK (jC b aj) a0
   have G7:aU X a6 (.ptr b 2)=some (.str D.name):=zK (jC b aj) cf
   have key:∀(I:c1) (bN:S ag) (ci:Nat) (P4:S ag->Nat->Prop),I.g 0=some cr->I.g 9=some w->I.g 10=some (.ptr bz 0)->I.g 3=some (.func (.func u) ox ha)->bz<ci->(∀e,e<bz->W X bN e=W X a6 e)->dE X bN 2 (.ptr bz 0)=some (h9 (ot t D.kind D.name c V))->
    (∀b6 dr,dB (Gq t step F (ot t D.kind D.name c V) e1) b6 dr->j<dr->(∀e,P e->W X b6 e=W X aQ e)->(∀e,bO<=e->e<j+1->W X b6 e=W X aP e)->P4 b6 dr)->
    cH (I.g 0) λw0=>cH (I.g 9) λaDY=>cH (I.g 10) λaDZ=>ar (dE X bN 2 aDZ) λaEC=>cH (I.g 3) λJw=>a2 X 20 [w0,aDY,aEC,Jw] bN ci (λ_ aoP azT=>P4 aoP azT) zL:=by
    intro I bN ci P4 aEt Jz aj0 w4 af1 dN afM aH
    rw[aEt,Jz,aj0,w4]
    refine m6 (m6 (m6 ?_))
    rw[afM]
    refine oK (m6 ?_)
    refine(ah F Zo e1 w _ bN ci (EB _ _ _ bN ci Vr Zo dN) (d9 D c V F Y aE) (cn.ab (λe z=>by rw[dN e (zz (bs e z)),jC e z]) _ _ Lb)).Zm ?_
    rintro ac b6 dr ⟨rfl,LN,oB,qZ,ayz⟩
    exact aH b6 dr LN Zo (λe z=>by rw[qZ e z,dN e (zz (bs e z)),jC e z]) (λe H M=>by rw[ayz e H Zo,dN e Zo,VY e H M])
   by_cases dc:D.kind=6
   ·have ht:decide (D.kind=6)=true:=by simp[dc]
    have K9:ot t D.kind D.name c V=e8 t D.name:=by unfold ot;rw[Zp dc]
    refine eh @r5 @r4 @qp @eY @t1 @t0 (Za @d (Za @cE (Za @cA @eW))) ⟨?_⟩
    generalize e5:Go.bg.bm X _ bz _=bH
    have d4:∀e,e<bz->W X bH e=W X a6 e:=λe z=>by rw[<-e5];exact zF
    have dL:∃ou,W X bH bz=some (.cells ou 2 .own):=⟨_,by rw[<-e5,bh Zo];rfl⟩
    clear e5
    have xm:aU X bH (.ptr b 0)=some (.Z D.kind):=zK (d4 b Zo) RX
    have RY:aU X bH (.ptr b 2)=some (.str D.name):=zK (d4 b Zo) G7
    obtain⟨ou,dL⟩:=dL
    refine f3 @t1 @t0 @xm @ht @RY ⟨?_⟩
    refine(I5 (j:=bz+1) aw Zo ((gf _ _ _ Vr).2.ab (R:=bH) (a7:=sh) (λe z=>d4 e (zz (xL e z))) (λ_ a=>a)) (λe z=>zz (xL e z)) D.name).Zm ?_
    rintro ac bN ci ⟨rfl,dW⟩
    have iP:=dW.le
    rw[<-dW.ab _ Zo]at dL
    unfold h9
    refine rt @dL ⟨?_⟩
    refine key _ _ ci _ (aW t0) (bo) (bo) (aW t3) Zo (λe z=>by rw[aI Zo Zo,dW.ab e Zo,d4 e z]) (by rw[K9,jp,bG (bh Zo),bG (bh Zo)];erw [nI,nJ];rfl) (λb6 dr H M al aB=> ?_)
    refine cS @r5 @bC ⟨?_⟩
    exact⟨m,Zo,V+1,_,aW t0,aW t1,aW t3,aW eY,aW qp,aW r4,bo,Zo,H,M,al,aB,bb⟩
   ·have ht:decide (D.kind=6)=false:=by simp[dc]
    by_cases mH:D.kind=24
    ·have xt:decide (D.kind=24)=true:=by simp[mH]
     have K9:ot t D.kind D.name c V=(D.name,decide (V=1)):=by unfold ot;rw[Zg dc,Zp mH]
     have SQ:decide ((V:Int)=1)=decide (V=1):=by by_cases a:V=1<;>simp[a];omega
     refine eh @r5 @r4 @qp @eY @t1 @t0 (Za @d (Za @cE (Za @cA @eW))) ⟨?_⟩
     generalize e5:Go.bg.bm X _ bz _=bH
     have d4:∀e,e<bz->W X bH e=W X a6 e:=λe z=>by rw[<-e5];exact zF
     have dL:∃ou,W X bH bz=some (.cells ou 2 .own):=⟨_,by rw[<-e5,bh Zo];rfl⟩
     clear e5
     have xm:aU X bH (.ptr b 0)=some (.Z D.kind):=zK (d4 b Zo) RX
     have RY:aU X bH (.ptr b 2)=some (.str D.name):=zK (d4 b Zo) G7
     obtain⟨ou,dL⟩:=dL
     refine eh @t1 @xm @ht @RY @xt @SQ @dL ⟨?_⟩
     refine key _ _ (bz+1) _ (aW t0) (bo) (bo) (aW t3) Zo (λe z=>by rw[aI Zo Zo,d4 e z]) (by rw[K9,jp,bG (bh Zo),bG (bh Zo)];erw [nI,nJ];rfl) (λb6 dr H M al aB=> ?_)
     refine cS @r5 @bC ⟨?_⟩
     exact⟨m,Zo,V+1,_,aW t0,aW t1,aW t3,aW eY,aW qp,aW r4,bo,Zo,H,M,al,aB,bb⟩
    ·have xt:decide (D.kind=24)=false:=by simp[mH]
     have K9:ot t D.kind D.name c V=c:=by unfold ot;rw[Zg dc,Zg mH]
     refine eh @r5 @r4 @qp @eY @t1 @t0 (Za @d (Za @cE (Za @cA @eW))) ⟨?_⟩
     generalize e5:Go.bg.bm X _ bz _=bH
     have d4:∀e,e<bz->W X bH e=W X a6 e:=λe z=>by rw[<-e5];exact zF
     have dL:W X bH bz=zD [.str c.1, .bool c.2] 2:=by rw[<-e5,bh Zo];rfl
     clear e5
     have xm:aU X bH (.ptr b 0)=some (.Z D.kind):=zK (d4 b Zo) RX
     refine gk @t1 @xm @ht @xt ⟨?_⟩
     refine key _ _ (bz+1) _ (aW t0) (bo) (bo) (aW t3) Zo (λe z=>by rw[d4 e z]) (by rw[K9,jp,bG dL,bG dL];rfl) (λb6 dr H M al aB=> ?_)
     refine cS @r5 @bC ⟨?_⟩
     exact⟨m,Zo,V+1,_,aW t0,aW t1,aW t3,aW eY,aW qp,aW r4,bo,Zo,H,M,al,aB,bb⟩
end
section
variable{X:ca}{h R fi aQ aP:S ag}{j an aV aX bO ha lH:Nat}{P sh a7:Nat->Prop}
structure DQ(X:ca)(fi:S ag)(bO ha:Nat)(f:Option Int)(h:S ag)(n:Nat):Prop where
 le:bO<=n
 cell:∃c,W X h ha=some (.cells c 2 .own)/\c.get 0=some (.Z (if f.isSome then 27 else 0))/\c.get 1=some (.Z (f.getD 0))
 low:∀e,e<bO->e≠ha->W X h e=W X fi e
def DQ.ab{f:Option Int}(a:DQ X fi bO ha f aQ aV)(Uz:ha<bO)(gl:aV<=aX)(u:∀e,e<aV->W X aP e=W X aQ e):DQ X fi bO ha f aP aX:=by
 have az:=a.le
 obtain⟨c,g,jO,bP⟩:=a.cell
 exact⟨Zo,⟨c,by rw[u _ Zo];exact g,jO,bP⟩,λe H M=>by rw[u e Zo];exact a.low e H M⟩
def azJ(aw:dk X){cr:E}{t:aR->Option c0}{D:bp}{v:E}{c:fu}{f:Option Int}(aF:(o X).a8<=ha)(Uz:ha<bO)(ba:kd X fi sh cr t)(xL:∀e,sh e->e<bO/\e≠ha)(E9:lH<bO)(axd:lH≠ha)(ft:aU X fi (.ptr lH 0)=some cr)(bA:cn X h P D v)(bs:∀e,P e->e<bO/\e≠ha)(gf:DQ X fi bO ha f h j):
 a2 X 50 (([]++[v,h9 c])++[.ptr ha 0, .ptr lH 0]) h j (λac R an=>DQ X fi bO ha (C9 t f D c) R an/\j<=an/\(∀e,P e->W X R e=W X h e)/\∀e,bO<=e->e<j->W X R e=W X h e) zL:=by
 refine zG aw (anb X) ?_
 rw[YF]
 show c7 X 50 [v,h9 c, .ptr ha 0, .ptr lH 0] _ _ _ _
 rw[anc]
 unfold aaX
 have gl:=gf.le
 refine tr ?_
 generalize dl:Go.bg.bm X h j _=aQ
 have bP:W X aQ j=zD [.str c.1, .bool c.2] 2:=by rw[<-dl,bh Zo];rfl
 have bR:∀e,e<j->W X aQ e=W X h e:=λe z=>by rw[<-dl,aI Zo Zo]
 clear dl
 have md:∀e,P e->W X aQ e=W X h e:=λe z=>bR e (zz (bs e z))
 have pc:=cn.ab md _ _ bA
 have Co:=gf.ab (aX:=j+1) Uz Zo bR
 obtain⟨cc,HF,bJ,eO⟩:=Co.cell
 obtain⟨b,aO,ce,bk,rfl,aj,a0,J4,_⟩:=id pc.open
 have eR:=bs b aj
 have ae3:b≠ha:=eR.2
 have lt:aU X aQ (.ptr lH 0)=some cr:=zK (Co.low lH E9 axd) ft
 have cZ:dE X aQ 2 (.ptr j 0)=some (h9 c):=by rw[jp,bG bP,bG bP];rfl
 cases f with
 |some F=>
  have Uy:cc.get 0=some (.Z 27):=bJ
  have d:decide ((27:Int)=0)=false:=rfl
  refine er (bG HF) @Uy @d ⟨?_⟩
  exact⟨Co,Zo,md,λe H M=>bR e M⟩
 |none=>
  have Uy:cc.get 0=some (.Z 0):=bJ
  have d:decide ((0:Int)=0)=true:=rfl
  refine f3 (bG HF) @Uy @d @lt @cZ ⟨?_⟩
  refine(asq (j:=j+1) aw Zo (ba.ab (R:=aQ) (a7:=sh) (λe z=>by have:=xL e z;exact Co.low e this.1 this.2) (λ_ a=>a)) (λe z=>zz (xL e z)) pc (λe z=>zz (bs e z)) c).Zm ?_
  rintro ac aP aX ⟨rfl,bI⟩
  have fN:=bI.le
  have wb:=Co.ab (aX:=aX) Uz fN bI.ab
  rw[<-bI.ab _ Zo]at HF
  have cm:∀e,e<j->W X aP e=W X h e:=λe z=>by rw[bI.ab e Zo,bR e z]
  cases H8:Hy t D c with
  |true=>
   have bn:C9 t none D c=none:=by simp[C9,FG,H8]
   rw[bn]
   refine cL ⟨?_⟩
   exact⟨wb,Zo,λe z=>cm e (zz (bs e z)),λe H M=>cm e M⟩
  |false=>
   have bn:C9 t none D c=some D.at_:=by simp[C9,FG,H8]
   rw[bn]
   rw[<-bI.e6 _ _ Zo]at J4
   refine cS @J4 @HF ⟨?_⟩
   generalize eQ:Go.bg.bm X aP ha _=a6
   have cI:∃ge,W X a6 ha=some (.cells ge 2 .own):=⟨_,by rw[<-eQ,bh aF]⟩
   have cX:∀e,e≠ha->W X a6 e=W X aP e:=λe z=>by rw[<-eQ,aI aF z]
   clear eQ
   obtain⟨ge,cI⟩:=cI
   have ab8:aU X a6 (.ptr b 1)=some (.Z D.at_):=zK (cX b ae3) J4
   refine cj @ab8 ⟨?_⟩
   refine gP (by simp[E.same,pt]) ?_
   refine cj @cI ⟨?_⟩
   generalize e5:Go.bg.bm X a6 ha _=bH
   have dL:∃ou,W X bH ha=some (.cells ou 2 .own)/\ou.get 0=some (.Z 27):=⟨_,by rw[<-e5,bh aF],by rw[kb];rfl⟩
   have d4:∀e,e≠ha->W X bH e=W X a6 e:=λe z=>by rw[<-e5,aI aF z]
   clear e5
   obtain⟨ou,dL,asT⟩:=dL
   have apn:aU X bH (.ptr b 1)=some (.Z D.at_):=zK (d4 b ae3) ab8
   refine cj @apn ⟨?_⟩
   refine gP (by simp[E.same,pt]) ?_
   refine cj @dL ⟨?_⟩
   have ej:∀e,e≠ha->e<j->W X (Go.bg.bm X bH ha (some (.cells (d7 ou 1 [.Z D.at_]) 2 .own))) e=W X h e:=λe H M=>by rw[aI aF H,d4 e H,cX e H,cm e M]
   refine⟨⟨Zo,⟨_,bh aF,by rw[kb];simpa using asT,by rw[kb];rfl⟩,λe H M=>by rw[aI aF M,d4 e M,cX e M];exact wb.low e H M⟩,Zo,λe z=>ej e (bs e z).2 (zz (bs e z)),λe H M=>ej e Zo M⟩
def aA9(aw:dk X){cr:E}{t:aR->Option c0}{c:fu}{bT:Nat}(aF:(o X).a8<=j)(ba:kd X h sh cr t)(xL:∀e,sh e->e<j)(E9:lH<j)(ft:aU X h (.ptr lH 0)=some cr)(iO:bT<j)(lc:dE X h 2 (.ptr bT 0)=some (h9 c))(w:aR):
 a2 X 48 [.str w, .ptr lH 0, .ptr bT 0] h j (λac R an=>ac= .bool (decide (e8 t w≠c))/\br X h j R an) zL:=by
 refine zG aw (am7 X) ?_
 rw[am8]
 unfold aaU
 refine cS @ft @lc ⟨?_⟩
 refine(I5 (j:=j+6) aw Zo ba (λe z=>zz (xL e z)) w).Zm ?_
 rintro ac aQ aV ⟨rfl,bL⟩
 have jy:=bL.le
 have ayZ:dE X aQ 2 (.ptr bT 0)=some (h9 c):=by rw[<-lc,jp,jp,bL.e6 _ _ Zo,bL.e6 _ _ Zo]
 refine cS @ah8 @ayZ ⟨?_⟩
 refine gP (SC c) ?_
 refine⟨?_,bL.kZ Zo⟩
 by_cases a:e8 t w=c<;>simp[a]
def aBa(aw:dk X){cr:E}{t:aR->Option c0}{c:fu}{bT b:Nat}{aO:E}{hi:List aR}(aF:(o X).a8<=j)(ba:kd X h sh cr t)(xL:∀e,sh e->e<j)(E9:lH<j)(ft:aU X h (.ptr lH 0)=some cr)(iO:bT<j)(lc:dE X h 2 (.ptr bT 0)=some (h9 c))(Y:dV X h P b aO 1 (f8 hi))(bs:∀e,P e->e<j):
 a2 X 49 [aO, .func (.func 48) [] [.ptr lH 0, .ptr bT 0]] h j (λac R an=>ac= .bool (hi.any λw=>decide (e8 t w≠c))/\br X h j R an) zL:=by
 refine zG aw (aaV X) ?_
 rw[aaW]
 unfold RP
 refine a2.mono (ai:=λac R an=>(∃r:Int,ac= .Z r/\(0<=r↔(hi.any λw=>decide (e8 t w≠c))=true))/\br X h j R an) (ax:=λ_ _ _=>False) ?_ ?_ (λ_ _ _ a=>a.elim)
 ·refine zG aw (abr X) ?_
  rw[abs]
  unfold RS
  have d2:=Y.len
  have h1:=Y.many
  rw[show(f8 hi).length=hi.length from by simp[f8]]at d2 h1
  refine cj @d2 ⟨?_⟩
  refine fE (λm I R aS=>∃(V:Nat),I.g 0=some aO/\I.g 1=some (.func (.func 48) [] [.ptr lH 0, .ptr bT 0])/\I.g 7=some (.Z (hi.length:Int))/\I.g 8=some (.Z (V:Int))/\V+m=hi.length/\br X h j R aS/\(hi.any λw=>decide (e8 t w≠c))=(hi.drop V).any λw=>decide (e8 t w≠c))
   hi.length ⟨0,bo,bo,bo,fY,Zo,br.refl _ _,rfl⟩ ?_
  rintro m I aQ aV ⟨V,t0,t1,e9,gQ,bF,bL,rA⟩
  have jy:=bL.le
  cases m with
  |zero=>
   have d:=zA V hi.length
   rw[ZC Zo]at rA
   refine er @gQ @e9 @d ⟨?_⟩
   exact⟨⟨-1,rfl,by rw[rA];simp⟩,bL⟩
  |succ m=>
   have d:=zB V hi.length
   have bC:=zE V
   obtain⟨w,nt⟩:=zC hi V
   have aJ:hi.drop V=w::hi.drop (V+1):=by
    obtain⟨af,z⟩:=Zb.1 nt
    rw[Zr af,z]
   rw[aJ,List.any_cons]at rA
   have dA:=Y.fx V (by simp[f8];omega)
   have h0:=(Y.ab (λe z=>bL.ab e (bs e z))).cell V [.str w] 0 (.str w) (by unfold f8;rw[Zy,nt];rfl) rfl
   rw[Z4]at dA
   rw[Z4,ZX]at h0
   refine eh @gQ @e9 @t1 @t0 @d @dA @h0 ⟨?_⟩
   refine(aA9 (j:=aV) (c:=c) aw Zo (ba.ab (a7:=sh) (λe z=>bL.ab e (xL e z)) (λ_ a=>a)) (λe z=>zz (xL e z)) Zo (by rw[bL.e6 _ _ E9];exact ft) (show bT<aV by omega) (by rw[<-lc,jp,jp,bL.e6 _ _ iO,bL.e6 _ _ iO]) w).Zm ?_
   rintro ac aP aX ⟨rfl,bI⟩
   refine uU ⟨?_⟩
   refine g3 ?_
   refine BZ (λbb=> ?_) (λbb=> ?_)
   ·refine cL ⟨?_⟩
    exact⟨⟨V,rfl,by rw[rA];simp[bb]⟩,bL.trans bI⟩
   ·refine cS @gQ @bC ⟨?_⟩
    exact⟨m,Zo,V+1,aW t0,aW t1,aW e9,bo,Zo,bL.trans bI,by rw[rA];simp[bb]⟩
 ·rintro ac aQ aV ⟨⟨r,rfl,Y⟩,bY⟩
  refine cL ⟨?_⟩
  refine⟨?_,bY⟩
  congr 1
  generalize (hi.any λw=>decide (e8 t w≠c))=ak at Y
  cases ak with
  |true=>simp[Y.2 rfl]
  |false=>simp at Y;simp;omega
end
def xy(t:aR->Option c0)(ak:eZ):Option Int:=if (ak.left.any λw=>decide (e8 t w≠e8 t (ak.left.headD [])))=true then some ak.at_ else nK t ak.right (e8 t (ak.left.headD [])) none
def vo(g:Go.aL.Node)(iE:Bool):Int×Int:=if (mS (dy g) (C3 g) g iE).1≠0 then mS (dy g) (C3 g) g iE else match g.eqs.findSome? (xy (dy g))with
 |some F=>(27,F)
 |none=>(0,0)
def aso{α:Type}{p:α->Option Int}{k:List α}{V:Nat}(a:k.findSome? p=(k.drop V).findSome? p)(bF:k.length<=V):k.findSome? p=none:=by
 rw[a,ZC bF];rfl
def asn{α:Type}{p:α->Option Int}{k:List α}{V:Nat}{x:α}(a:k.findSome? p=(k.drop V).findSome? p)(af:k[V]? =some x)(ay:p x=none):k.findSome? p=(k.drop (V+1)).findSome? p:=by
 obtain⟨H,M⟩:=Zb.1 af
 rw[a,Zr H,M,List.findSome?_cons,ay]
def adS{α:Type}{p:α->Option Int}{k:List α}{V:Nat}{x:α}{F:Int}(a:k.findSome? p=(k.drop V).findSome? p)(af:k[V]? =some x)(ay:p x=some F):k.findSome? p=some F:=by
 obtain⟨H,M⟩:=Zb.1 af
 rw[a,Zr H,M,List.findSome?_cons,ay]
def ail:∀(k:List (Int×eb)) (s:(aR->Option c0)×List aR),(∀w,s.1 w≠none->w∈s.2)->(∀w,(k.foldl hH s).1 w≠none->w∈(k.foldl hH s).2)/\(k.foldl hH s).2.length<=s.2.length+k.length:=by
 intro k
 induction k with
 |nil=>intro s a;exact⟨a,Zs⟩
 |cons x k ah=>
  intro s a
  rw[ZH]
  have H:∀w,(hH s x).1 w≠none->w∈(hH s x).2:=by
   intro w
   unfold hH
   split
   ·exact a w
   ·simp only
    split
    ·rename_i D;subst D;simp
    ·intro bb;exact List.mem_append_left _ (a w bb)
  have M:(hH s x).2.length<=s.2.length+1:=by
   unfold hH
   split
   ·omega
   ·simp
  obtain⟨F,b⟩:=ah _ H
  exact⟨F,by simp only[ZF];omega⟩
def aA7(u:Nat)(t:aR->Option c0)(x:aR×Nat)(w:aR)(a:rW u t x w≠none):t w≠none:=by
 unfold rW at a
 cases bD:t x.1 with
 |none=>rw[bD]at a;exact a
 |some v=>
  rw[bD]at a
  simp only at a
  by_cases H:v.eq<0
  ·rw[Zp H]at a
   by_cases M:w=x.1
   ·rw[M,bD];simp
   ·rw[Zg M]at a;exact a
  ·rw[Zg H]at a;exact a
def ad0{α:Type}(f:(aR->Option c0)->α->aR->Option c0)(b4:∀t x w,f t x w≠none->t w≠none):∀(k:List α) (t:aR->Option c0) (w:aR),k.foldl f t w≠none->t w≠none:=by
 intro k
 induction k with
 |nil=>intro t w a;exact a
 |cons x k ah=>intro t w a;rw[ZH]at a;exact b4 t x w (ah _ w a)
def ajG(g:Go.aL.Node)(w:aR)(a:dy g w≠none):w∈iQ g:=by
 unfold dy at a
 have H:=ad0 Jb (λt x w a=>ad0 (rW x.2) (aA7 x.2) _ t w a) _ _ _ a
 exact(ail (fS g) (λ_=>none,[]) Zs).1 w H
def az0(g:Go.aL.Node):(iQ g).length<=(fS g).length:=by
 have:=(ail (fS g) (λ_=>none,[]) Zs).2
 simpa[iQ,me]using this
section
variable{X:ca}{h R fi aQ aP:S ag}{j an aV aX:Nat}{P:Nat->Prop}
set_option maxRecDepth 100000 in
def aAh(aw:dk X){g:Go.aL.Node}{row:List E}(aF:(o X).a8<=j)(bV:pG X h P g row)(bs:∀e,P e->e<j)(bb:kv jJ g)(bD:(lk g).length<=100000)(aGT:(fS g).length<=100000)(iE:Bool):
 a2 X 28 [.agg row, .bool iE] h j (λac R an=>ac= .agg [.Z (vo g iE).1, .Z (vo g iE).2]/\br X h j R an) zL:=by
 refine zG aw (amx X) ?_
 rw[amy]
 unfold aaA
 have AH:=bV
 have kl:=bV.iF
 have aGB:=az0 g
 obtain⟨cQ,c4,aO,eo,bQ,cl,cU,fe,be,rfl,l9,kS,np,kk,fq⟩:=bV
 refine cL ⟨?_⟩
 refine e0 (λaQ=>W X aQ j=zD [.str g.name, .Z g.at_,cQ,c4,aO,eo] 6/\W X aQ (j+1)=zD [.Z 0, .Z 0] 2/\br X h j aQ (j+1+1))
  ⟨by exact zQ,by rw[bh Zo];rfl,dH⟩ ?_
 rintro aQ ⟨bP,b2,bL⟩
 have md:∀e,P e->W X aQ e=W X h e:=λe z=>bL.ab e (bs e z)
 refine(Qq (j:=j+1+1) aw Zo (λe z=>zz (bs e z)) (AH.ab (a7:=P) md (λ_ a=>a)) Zo).Zm ?_
 rintro ac aP aX ⟨cr,lB,uw,d5,rfl,lv,ET,cE,cA, -, -,bI⟩
 have fN:=bI.le
 rw[<-bI.ab _ Zo]at bP b2
 have hb:=bL.trans bI
 have aHA:=lv.1
 have aHB:=lv.2
 have CK:kd X aP (λe=>e<aX) (.ptr cr 0) (dy g):=⟨cr,lB,rfl,lv.2,ET.2,cE,cA⟩
 refine cj (bG bP) ⟨?_⟩
 refine e0 (λa6=>W X a6 aX=zD [.ptr cr 0] 1/\∀e,e<aX->W X a6 e=W X aP e)
  ⟨by exact zQ,λe z=>zF⟩ ?_
 rintro a6 ⟨cI,cX⟩
 have ON:∀e,P e->e<aX:=λe z=>zz (bs e z)
 have jC:∀e,P e->W X a6 e=W X h e:=λe z=>by rw[cX e (ON e z)];exact hb.ab e (bs e z)
 rw[<-cX _ Zo]at bP b2
 have PL:kd X a6 (λe=>e<aX) (.ptr cr 0) (dy g):=CK.ab (λe z=>cX e z) (λ_ a=>a)
 refine(aq0 (j:=aX+1) (P:=λe=>e<aX) (t:=dy g) (gN:=iQ g) aw Zo PL (AH.ab (a7:=λe=>e<aX) jC ON) (λe z=>Zo) (ajG g) Zo bb.some bD iE).Zm ?_
 rintro ac bH cC ⟨rfl,cW⟩
 have iu:=cW.le
 rw[<-cW.ab _ Zo]at bP b2 cI
 have Ig:∀e,e<j->W X bH e=W X h e:=λe z=>by rw[cW.ab e Zo,cX e Zo];exact hb.ab e z
 have wx:vo g iE=if (mS (dy g) ((iQ g).length+1) g iE).1≠0 then mS (dy g) ((iQ g).length+1) g iE else match g.eqs.findSome? (xy (dy g))with|some F=>(27,F)|none=>(0,0):=rfl
 generalize mS (dy g) ((iQ g).length+1) g iE=f at wx ⊢
 obtain⟨KD,ox⟩:=f
 by_cases b4:KD=0
 ·subst b4
  rw[Zg Zs]at wx
  have hM:decide ((0:Int)≠0)=false:=rfl
  have km:=fq.wide
  have d2:=kk.len
  have h1:=kk.many
  rw[km.1]at d2 h1
  have PM:kd X bH (λe=>e<aX) (.ptr cr 0) (dy g):=PL.ab (λe z=>cW.ab e Zo) (λ_ a=>a)
  generalize dy g=t at PM wx
  refine er @hM (bG bP) @d2 ⟨?_⟩
  generalize hZ:Go.bg.bm X _ cC _=bN
  have dN:∀e,e<cC->W X bN e=W X bH e:=λe z=>by rw[<-hZ];exact zF
  clear hZ
  rw[<-dN _ Zo]at bP b2 cI
  have axa:kd X bN (λe=>e<aX) (.ptr cr 0) t:=PM.ab (λe z=>dN e Zo) (λ_ a=>a)
  have Pk:∀e,e<j->W X bN e=W X h e:=λe z=>by rw[dN e Zo];exact Ig e z
  refine fE (λm I R aS=>∃(V:Nat),I.g 2=some (.ptr j 0)/\I.g 4=some (.ptr (j+1) 0)/\I.g 5=some (.ptr aX 0)/\I.g 23=some eo/\I.g 24=some (.Z (g.eqs.length:Int))/\I.g 25=some (.Z (V:Int))/\V+m=g.eqs.length/\br X bN (cC+1) R aS/\g.eqs.findSome? (xy t)=(g.eqs.drop V).findSome? (xy t))
   g.eqs.length ⟨0,bo,bo,bo,bo,bo,fY,Zo,br.refl _ _,rfl⟩ ?_
  rintro m I b6 dr ⟨V,DA,vw,vx,aj1,XI,XJ,bF,ec,tS⟩
  have oB:=ec.le
  have tF:=b2
  have uT:=cI
  rw[<-ec.ab _ Zo]at tF uT
  have AL:∀e,e<j->W X b6 e=W X h e:=λe z=>by rw[ec.ab e Zo];exact Pk e z
  have Vy:kd X b6 (λe=>e<aX) (.ptr cr 0) t:=axa.ab (λe z=>ec.ab e Zo) (λ_ a=>a)
  cases m with
  |zero=>
   have d:=zA V g.eqs.length
   rw[aso tS Zo]at wx
   rw[wx]
   refine eh @XJ @XI @d @vw @tF @nI @nJ ⟨?_⟩
   exact⟨rfl,Zo,λe z=>by rw[aI Zo Zo];exact AL e z⟩
  |succ m=>
   have d:=zB V g.eqs.length
   have bC:=zE V
   obtain⟨ak,bM⟩:=zC g.eqs V
   have wB:=bb.eqs ak (Zl bM)
   have qZ:∀e,P e->W X b6 e=W X h e:=λe z=>AL e (bs e z)
   obtain⟨aiY,wA,awC⟩:=(fq.ab (a7:=P) qZ (λ_ a=>a)).get V ak bM
   have dA:=kk.fx V (by rw[km.1];omega)
   have iB:=(kk.ab qZ).row (i:=V) (r:=aiY) Zd wA
   obtain⟨ajr,jV,c5,dC,il,rfl,qU, -,sG,awn⟩:=awC
   obtain⟨bq,hi,x6⟩:∃bq hi,ak.left=bq::hi:=by
    cases a:ak.left with
    |nil=>exact absurd a wB.some
    |cons F k=>exact⟨F,k,rfl⟩
   have avr:ak.left.headD []=bq:=by rw[x6];rfl
   have avw:gd 1 ajr (.Z 0)=some (.ptr c5 0):=by
    have:=qU.fx 0 (by rw[x6];simp[f8])
    simpa using this
   have VB:aU X b6 (.ptr c5 0)=some (.str bq):=by
    have:=qU.cell 0 [.str bq] 0 (.str bq) (by rw[x6];rfl) rfl
    simpa using this
   have sE:c5<j:=bs c5 (qU.aj (by rw[x6];simp[f8]))
   have Cx:xy t ak=if (ak.left.any λw=>decide (e8 t w≠e8 t bq))=true then some ak.at_ else nK t ak.right (e8 t bq) none:=by unfold xy;rw[avr]
   refine ic @XJ @XI @aj1 @d @dA @iB ⟨?_⟩
   refine gm (jG (u:=4) (b:=dr) (T:=0) (n:=4) (c:=S.ofList [.aY, .aY, .Z 0, .cN] 0 .nil) (bh Zo) Zo rfl Zd Zd awn) ?_
   generalize k6:Go.bg.bm X _ dr _=cy
   have ew:W X cy dr=zD [ajr,jV, .Z ak.at_,il] 4:=by rw[<-k6,bh Zo];rfl
   have f0:∀e,e<dr->W X cy e=W X b6 e:=λe z=>by rw[<-k6];exact zF
   clear k6
   rw[<-f0 _ Zo]at tF uT
   have axo:aU X cy (.ptr c5 0)=some (.str bq):=zK (f0 _ Zo) VB
   refine f3 @vx (bG uT) (bG ew) @avw @axo ⟨?_⟩
   refine e0 (λdt=>W X dt (dr+1+6)=zD [.str [], .zF] 2/\∀e,e<dr+1->W X dt e=W X cy e)
    ⟨by rw[bh Zo];rfl,λe z=>zF⟩ ?_
   rintro dt ⟨gu,gG⟩
   rw[<-gG _ Zo]at tF uT ew
   have axb:kd X dt (λe=>e<aX) (.ptr cr 0) t:=Vy.ab (λe z=>by rw[gG e Zo,f0 e Zo]) (λ_ a=>a)
   refine(I5 (j:=dr+1+8) aw Zo axb (λe z=>Zo) bq).Zm ?_
   rintro ac d6 hG ⟨rfl,ie⟩
   have qT:=ie.le
   rw[<-ie.ab _ Zo]at tF uT ew gu
   generalize e8 t bq=qF at Cx
   unfold h9
   refine er @gu @vx (bG ew) ⟨?_⟩
   refine e0 (λg7=>(∃cc,W X g7 (dr+1+6)=some (.cells cc 2 .own)/\cc.get 0=some (.str qF.1)/\cc.get 1=some (.bool qF.2))/\∀e,e≠dr+1+6->W X g7 e=W X d6 e)
    ⟨⟨_,bh Zo,by exact nI _ _ _,by exact nJ _ _ _⟩,λe z=>aI Zo z⟩ ?_
   rintro g7 ⟨⟨cc,hm,St,Su⟩,lV⟩
   rw[<-lV _ Zo]at tF uT ew
   have VZ:∀e,e<dr->W X g7 e=W X b6 e:=λe z=>by rw[lV e Zo,ie.ab e Zo,gG e Zo,f0 e z]
   have PN:kd X g7 (λe=>e<aX) (.ptr cr 0) t:=Vy.ab (λe z=>VZ e Zo) (λ_ a=>a)
   have ay0:dE X g7 2 (.ptr (dr+1+6) 0)=some (h9 qF):=by rw[jp,bG hm,bG hm,St,Su];rfl
   refine(aBa (j:=hG) (lH:=aX) (bT:=dr+1+6) (c:=qF) (hi:=ak.left) aw Zo PN (λe z=>Zo) Zo (by rw[bG uT];rfl) Zo ay0 (qU.ab (λe z=>VZ e (zz (bs e z)))) (λe z=>zz (bs e z))).Zm ?_
   rintro ac DW sT ⟨rfl,TT⟩
   have afS:=TT.le
   rw[<-TT.ab _ Zo]at tF uT ew hm
   have ahq:∀e,e<dr->W X DW e=W X b6 e:=λe z=>by rw[TT.ab e Zo,VZ e z]
   cases rA:(ak.left.any λw=>decide (e8 t w≠qF))with
   |true=>
    rw[Zp rA]at Cx
    rw[adS tS bM Cx]at wx
    rw[wx]
    refine f3 (bG ew) @vw @tF @nI @nJ ⟨?_⟩
    exact⟨rfl,Zo,λe z=>by rw[aI Zo Zo,ahq e Zo];exact AL e z⟩
   |false=>
    rw[Zg (by rw[rA];simp)]at Cx
    have ay1:dE X DW 2 (.ptr (dr+1+6) 0)=some (.agg [.str qF.1, .bool qF.2]):=by rw[jp,bG hm,bG hm,St,Su];rfl
    refine uU ⟨?_⟩
    refine g3 ?_
    refine eh @vx (bG uT) (bG ew) @ay1 (bG hm) @St @Su ⟨?_⟩
    generalize Ub:Go.bg.bm X DW sT _=xi
    have as8:W X xi sT=zD [.Z 0, .Z 0] 2:=by rw[<-Ub,bh Zo];rfl
    have Fs:∀e,e<sT->W X xi e=W X DW e:=λe z=>by rw[<-Ub,aI Zo Zo]
    clear Ub
    rw[<-Fs _ Zo]at tF uT ew hm
    have P2:∀e,e<dr->W X xi e=W X b6 e:=λe z=>by rw[Fs e Zo,ahq e z]
    have sM:kd X xi (λe=>e<aX) (.ptr cr 0) t:=Vy.ab (λe z=>P2 e Zo) (λ_ a=>a)
    have avc:cn X xi P ak.right il:=cn.ab (λe z=>P2 e (zz (bs e z))) _ _ sG
    have OI:DQ X xi (sT+1) sT none xi (sT+1):=⟨Zj _,⟨_,as8,rfl,rfl⟩,λ_ _ _=>rfl⟩
    refine(aEQ aw t (C9 t) P (λe=>e<aX) (sT+1) (.ptr cr 0) (DQ X xi (sT+1) sT) 50 [] [.ptr sT 0, .ptr aX 0] Zo (λe z=>zz (bs e z)) (λe z=>Zo)
     (λs h n a=>⟨a.le,sM.ab (λe z=>a.low e Zo Zo) (λ_ a=>a)⟩) (λs h n R aS a gl u=>a.ab Zo gl u)
     (λ_ _=>True) (λ_ _ _ _ _ _=>trivial) (λs D v c h j a _ bA=>azJ aw Zo Zo sM (λe z=>⟨Zo,Zo⟩) Zo Zo (by rw[bG uT];rfl) bA (λe z=>by have:=bs e z;exact⟨Zo,Zo⟩) a) _ ak.right (Yn _) none il qF xi (sT+1) OI trivial avc).Zm ?_
    rintro ac aoS sU ⟨rfl,T3,aGf,aHb,aHc⟩
    rw[<-akd]at T3
    obtain⟨Sw,aeb,NO,acO⟩:=T3.cell
    have fd:∀e,e<sT->W X aoS e=W X xi e:=λe z=>T3.low e Zo Zo
    rw[<-fd _ Zo]at tF uT ew
    cases agQ:nK t ak.right qF none with
    |none=>
     rw[agQ]at Cx NO
     have Sx:Sw.get 0=some (.Z 0):=NO
     refine f3 (bG aeb) @Sx @hM @XJ @bC ⟨?_⟩
     exact⟨m,Zo,V+1,aW DA,aW vw,aW vx,aW aj1,aW XI,bo,Zo,⟨Zo,λe z=>by rw[fd e Zo,P2 e Zo];exact ec.ab e z⟩,asn tS bM Cx⟩
    |some F=>
     rw[agQ]at Cx NO acO
     rw[adS tS bM Cx]at wx
     rw[wx]
     have Sx:Sw.get 0=some (.Z 27):=NO
     have aqp:Sw.get 1=some (.Z F):=acO
     have aqX:decide ((27:Int)≠0)=true:=rfl
     refine eh (bG aeb) @Sx @aqp @aqX @vw @tF (Za @nI @nJ) ⟨?_⟩
     exact⟨rfl,Zo,λe z=>by rw[aI Zo Zo,fd e Zo,P2 e Zo];exact AL e z⟩
 ·rw[Zp (by simpa using b4)]at wx
  rw[wx]
  have hM:decide (KD≠0)=true:=by simp[b4]
  refine gk @hM @b2 @nI @nJ ⟨?_⟩
  refine⟨rfl,Zo,λe z=> ?_⟩
  simp(disch:=omega) only[aI]
  exact Ig e z
end
def tv(n:Nat):Nat->List Go.aL.Node->Int×Int
 |_,[]=>(0,0)
 |u,g::k=>if (vo g (decide (u+1=n))).1≠0 then vo g (decide (u+1=n))else tv n (u+1) k
def wR(am:List Go.aL.Node):Int×Int:=if (lW am).1≠0 then lW am else tv am.length 0 am
section
variable{X:ca}{h R fi aQ aP:S ag}{j an aV aX:Nat}{P:Nat->Prop}
set_option maxRecDepth 100000 in
def acQ(aw:jd X)(bY:mi X)(dZ:sf X)(iX:xe X)(ez:DO X){am:List Go.aL.Node}{p:E}(aF:(o X).a8<=j)(bV:oX X h P am p)(bs:∀e,P e->(o X).a8<=e/\e<j)(bb:∀g∈am,kv jJ g)(aK:am≠[])(az:n2 am=none):
 a2 X 8 [p] h j (λac R an=>ac= .agg [.Z (wR am).1, .Z (wR am).2]/\br X h j R an) zL:=by
 refine zG aw.todk (aor X) ?_
 rw[aos]
 unfold abv
 obtain⟨n0,lR⟩:=Mj az
 refine so ?_
 generalize dl:Go.bg.bm X h j _=aQ
 have bP:W X aQ j=zD [.Z 0, .Z 0] 2:=by rw[<-dl,bh aF];rfl
 have bL:br X h j aQ (j+1):=by rw[<-dl];exact dH
 clear dl
 have md:∀e,P e->W X aQ e=W X h e:=λe z=>bL.ab e (bs e z).2
 refine(aqx (j:=j+1) aw bY dZ iX ez Zo (bV.ab (a7:=P) md (λ_ a=>a)) (λe z=>by have:=bs e z;exact⟨this.1,Zo⟩) bb aK az).Zm ?_
 rintro ac aP aX ⟨bc,bI⟩
 have fN:=bI.le
 rw[<-bI.ab _ Zo]at bP
 have hb:=bL.trans bI
 have sN:∃v,ac= .tuple [v, .agg [.Z (lW am).1, .Z (lW am).2]]:=by
  unfold JL at bc
  by_cases a:(lW am).1=0
  ·rw[Zp a]at bc
   obtain⟨v,rfl,_⟩:=bc
   have M:(lW am).2=0:=by
    unfold lW at a ⊢
    by_cases aA:(ss am).1≠0
    ·rw[Zp aA]at a;exact absurd a aA
    ·rw[Zg aA]at a ⊢
     cases bM:yA am with
     |some F=>rw[bM]at a;exact absurd a (show ¬(26:Int)=0 by decide)
     |none=>rfl
   exact⟨v,by rw[a,M]⟩
  ·rw[Zg a]at bc
   exact⟨_,bc⟩
 clear bc
 obtain⟨v,rfl⟩:=sN
 have Iq:wR am=if (lW am).1≠0 then lW am else tv am.length 0 am:=rfl
 generalize lW am=F5 at Iq ⊢
 obtain⟨rc,WU⟩:=F5
 by_cases cx:rc=0
 ·subst cx
  rw[Zg Zs]at Iq
  have hM:decide ((0:Int)≠0)=false:=rfl
  obtain⟨b,aO,ce,be,rfl,aj,a0,cG,kU⟩:=id bV
  have km:=kU.wide
  have d2:=cG.len
  rw[km.1]at d2
  have f5:=(bs b aj).2
  rw[<-hb.e6 _ _ f5]at a0
  refine er @hM @a0 @d2 ⟨?_⟩
  generalize eQ:Go.bg.bm X _ aX _=a6
  have cX:∀e,e<aX->W X a6 e=W X aP e:=λe z=>by rw[<-eQ];exact zF
  clear eQ
  rw[<-cX _ Zo]at bP
  have cp:br X h j a6 (aX+1):=⟨Zo,λe z=>by rw[cX e Zo];exact hb.ab e z⟩
  refine fE (λm I R aS=>∃(V:Nat),I.g 0=some (.ptr b 0)/\I.g 2=some (.ptr j 0)/\I.g 20=some aO/\I.g 21=some (.Z (am.length:Int))/\I.g 22=some (.Z (V:Int))/\V+m=am.length/\br X h j R aS/\j<aS/\W X R j=zD [.Z 0, .Z 0] 2/\tv am.length 0 am=tv am.length V (am.drop V))
   am.length ⟨0,bo,bo,bo,bo,fY,Zo,cp,Zo,bP,rfl⟩ ?_
  rintro m I bH cC ⟨V,t0,eK,qp,r4,r5,bF,cW,aGu,dL,iY⟩
  have mI:∀e,P e->W X bH e=W X h e:=λe z=>cW.ab e (bs e z).2
  cases m with
  |zero=>
   have d:=zA V am.length
   rw[ZC Zo,tv]at iY
   rw[Iq,iY]
   refine eh @r5 @r4 @d @eK @dL @nI @nJ ⟨?_⟩
   exact⟨rfl,Zo,λe z=>by rw[aI Zo Zo];exact cW.ab e z⟩
  |succ m=>
   have d:=zB V am.length
   have bC:=zE V
   have cu:bv .sub (.Z (am.length:Int)) (.Z 1)=some (.Z ((am.length:Int) -1)):=x7 Zo Zo
   have aq6:decide ((V:Int)=(am.length:Int) -1)=decide (V+1=am.length):=by by_cases a:V+1=am.length<;>simp[a]<;>omega
   obtain⟨g,nZ⟩:=zC am V
   have qS:=Zl nZ
   have aJ:am.drop V=g::am.drop (V+1):=by
    obtain⟨af,z⟩:=Zb.1 nZ
    rw[Zr af,z]
   rw[aJ,tv]at iY
   obtain⟨row,fD,jR⟩:=kU.get V g nZ
   have dA:=cG.fx V (by rw[km.1];omega)
   have iB:=(cG.ab mI).row Zd fD
   have kl:=jR.iF
   have AN:=jR
   have xm:aU X bH (.ptr b 0)=some aO:=by rw[cw,cW.ab _ f5, <-hb.ab _ f5, <-cw];exact a0
   obtain⟨cQ,c4,lh,eo,bQ,cl,cU,fe,fP,rfl,_⟩:=jR
   refine ic @r5 @r4 @qp @d @dA @iB ⟨?_⟩
   refine gm (jG (u:=6) (b:=cC) (T:=0) (n:=6) (c:=S.ofList [.str [], .Z 0, .aY, .aY, .aY, .aY] 0 .nil) (bh Zo) Zo rfl Zd Zd kl) ?_
   generalize hZ:Go.bg.bm X _ cC _=bN
   have fg:W X bN cC=zD [.str g.name, .Z g.at_,cQ,c4,lh,eo] 6:=by rw[<-hZ,bh Zo];rfl
   have dN:∀e,e<cC->W X bN e=W X bH e:=λe z=>by rw[<-hZ];exact zF
   clear hZ
   rw[<-dN _ Zo]at dL
   have aoZ:aU X bN (.ptr b 0)=some aO:=zK (dN _ Zo) xm
   refine ic @t0 (bG fg) @aoZ @d2 @cu @aq6 ⟨?_⟩
   refine e0 (λb6=>W X b6 (cC+1+10)=zD [.Z 0, .Z 0] 2/\∀e,e<cC+1->W X b6 e=W X bN e) ⟨by rw[bh Zo];rfl,λe z=>zF⟩ ?_
   rintro b6 ⟨d1,dc⟩
   rw[<-dc _ Zo]at dL
   have AL:∀e,e<j->W X b6 e=W X h e:=λe z=>by rw[dc e Zo,dN e Zo];exact cW.ab e z
   have CM:=(lR g qS).vars
   refine(aAh (j:=cC+1+12) aw.todk Zo (AN.ab (a7:=P) (λe z=>AL e (bs e z).2) (λ_ a=>a)) (λe z=>zz (bs e z)) (bb g qS) (by simp[lk];omega) (by rw[Kw];simp only[qk];omega) (decide (V+1=am.length))).Zm ?_
   rintro ac cy dX ⟨rfl,eC⟩
   have nr:=eC.le
   rw[<-eC.ab _ Zo]at dL d1
   have Lt:∀e,e<j->W X cy e=W X h e:=λe z=>by rw[eC.ab e Zo];exact AL e z
   generalize vo g (decide (V+1=am.length))=az8 at iY ⊢
   obtain⟨KD,ox⟩:=az8
   by_cases b4:KD=0
   ·subst b4
    rw[Zg Zs]at iY
    refine gk @d1 @hM @r5 @bC ⟨?_⟩
    exact⟨m,Zo,V+1,aW t0,aW eK,aW qp,aW r4,bo,Zo,⟨Zo,λe z=>by rw[aI Zo Zo];exact Lt e z⟩,Zo,by rw[aI Zo Zo];exact dL,iY⟩
   ·have bj:decide (KD≠0)=true:=by simp[b4]
    rw[Zp (by simpa using b4)]at iY
    rw[Iq,iY]
    refine ic @d1 @bj @eK @dL @nI @nJ ⟨?_⟩
    refine⟨rfl,Zo,λe z=> ?_⟩
    simp(disch:=omega) only[aI]
    exact Lt e z
 ·rw[Zp (by simpa using cx)]at Iq
  have hM:decide (rc≠0)=true:=by simp[cx]
  rw[Iq]
  refine gk @hM @bP @nI @nJ ⟨?_⟩
  refine⟨rfl,Zo,λe z=> ?_⟩
  simp(disch:=omega) only[aI]
  exact hb.ab e z
end
end
open Go.bg
noncomputable section
variable (X : ca) (h : S ag) (j : Nat) (ai ax : bK) (a0 bf cf a3 a4 a5 jK kx jf : E)
def aaF:Za0:=λa b c d e _=>ar (db a c .eql 47 true b .aY) λf=>bt (λb c d=>ar (hI 0 [] [] d) λf=>gT a c d f.1 f.2 λc d f=>fa b λb=>h6 (j1 a d f 1 c b) d f λa b c=>e a b c) λa=>a1 f (e .aY c d) (a (zH (cR [b]) 2 .aY 4 f) c d)
def amG:c7 X 33 [a0]=aaF X a0:=Zk
def amF:cV X 33 1=true:=Zk
end
noncomputable section
section
variable{X:ca}{h R fi aQ aP:S ag}{j an aV aX:Nat}{P sh:Nat->Prop}
def aAc:db X h .eql 47 true .aY .aY=some .zT:=Zk
def aC7(b T k c:Nat):db X h .eql 47 true (.slice b T k c) .aY=some .zF:=Zk
def aDd(b T k c:Nat):db X h .eql 47 true (.fl b T k c) .aY=some .zF:=Zk
def aAd{aO:E}{n:Nat}(a:gr aO=some (.Z (n:Int))):(aO= .aY/\n=0)\/db X h .eql 47 true aO .aY=some .zF:=by
 cases aO with
 |aY=>rw[yf]at a;injection a with a;injection a with _ a;exact .inl ⟨rfl,Zo⟩
 |slice b T k c=>exact .inr (aC7 b T k c)
 |fl b T k c=>exact .inr (aDd b T k c)
 |_=>simp[gr]at a
def aAW(k:List aR):iF (f8 k).flatten=true:=by
 induction k with
 |nil=>rfl
 |cons t k ah=>exact ah
def ajs(k:List aR):∀r∈f8 k,r.length=1:=by
 intro r Y
 obtain⟨c,_,rfl⟩:=ZE.1 Y
 rfl
def azY(aw:dk X){k:List aR}{b cr:Nat}{aO:E}(aF:(o X).a8<=j)(H:aU X h (.ptr cr 1)=some aO)(cG:dV X h P b aO 1 (f8 k))(bn:k.length<=200000)(bs:∀e,P e->e<j):
 a2 X 11 [.ptr cr 0] h j (λac R an=>(∃dD,dV X R (dU j an) dD ac 1 (f8 k))/\br X h j R an) zL:=by
 refine zG aw (alt X) ?_
 rw[alu]
 unfold η
 refine cS @adA @H ⟨?_⟩
 refine a2.mono (ai:=λac R an=>(∃dD,dV X R (dU j an) dD ac 1 (f8 k))/\br X h j R an) (ax:=λ_ _ _=>False) ?_ (λac R aS a=>a) (λ_ _ _ a=>a.elim)
 refine zG aw (amF X) ?_
 rw[amG]
 unfold aaF
 have d2:=cG.len
 have hP:(f8 k).length=k.length:=by simp[f8]
 rw[hP]at d2
 rcases aAd (X:=X) (h:=h) d2 with ⟨rfl,aK⟩|dn
 ·have:k=[]:=ZN aK
  subst this
  refine cj @aAc ⟨?_⟩
  exact⟨⟨0,dV.nil _ _⟩,br.refl _ _⟩
 ·refine cj @dn ⟨?_⟩
  generalize dl:Go.bg.bm X h j _=aQ
  have bP:W X aQ j=zD [] (0*1):=by rw[<-dl,bh aF]
  have bL:br X h j aQ (j+1):=by rw[<-dl];exact dH
  clear dl
  have aC:=QJ (cG.ab (λe z=>bL.ab e (bs e z))) Zd
  rw[hP]at aC
  by_cases aK:k=[]
  ·subst aK
   have D:j1 X aQ (j+1) 1 (.slice j 0 0 0) aO=some (.val (.slice j 0 0 0)):=by simp only[j1,aC];rfl
   refine W1 D ?_
   exact⟨⟨j,Ji (be:=[]) bP rfl Zs Zo ⟨Zo,Zo⟩⟩,bL⟩
  ·have aH:0<k.length:=ZU.2 aK
   have mC:(f8 k).flatten.length=k.length*1:=by rw[tE (ajs k),hP]
   obtain⟨e1,aP,cv,aE,t7,eR,hD⟩:=ga.append (j:=j+1) (k:=[]) (cv:=[j]) (m:=(f8 k).flatten) (.inr ⟨j,0,_, .own,rfl,rfl,rfl,bP,nu [],rfl,Zo⟩) Zd aC mC aH (aAW k) (by rw[mC];simp;omega) Zo Zs
   refine kH aE ?_
   obtain⟨cl,M⟩:=t7.uq (P:=dU j (j+1+1)) (be:=f8 k) Zd (ajs k) (by rw[hP];omega) (λe z=>by rcases(show e=j+1\/e=j by simpa using eR e z)with rfl|rfl<;>exact⟨Zo,Zo⟩)
   exact⟨⟨cl,M⟩,⟨Zo,λe z=>by rw[hD e Zo Zx];exact bL.ab e z⟩⟩
end
section
variable{X:ca}{h R fi aQ aP:S ag}{j an aV aX:Nat}{P sh:Nat->Prop}
end
def aqw{am:List Go.aL.Node}:∀(k:List Go.aL.Node) (u:Nat),(y7 am u k).1=0->∀g∈k,∃V,(q0 am V g).1=0:=by
 intro k
 induction k with
 |nil=>intro u _ g bV;cases bV
 |cons F k ah=>
  intro u a g bV
  rw[y7]at a
  split at a
  ·rename_i H;exact absurd a H
  ·rename_i H
   rcases Zu.1 bV with rfl|bV
   ·exact⟨u,by simpa using H⟩
   ·exact ah _ a g bV
def ai9{am:List Go.aL.Node}(a:(lW am).1=0):(ss am).1=0:=by
 unfold lW at a
 split at a
 ·exact a
 ·rename_i aA;simpa using aA
def uA(v:c0):Int×eb:=(v.kind,v.d)
def aA8(u:Nat)(t:aR->Option c0)(x:aR×Nat)(w:aR):((rW u t x) w).map uA=(t w).map uA:=by
 unfold rW
 cases a:t x.1 with
 |none=>rfl
 |some v=>
  simp only[]
  split
  ·by_cases bb:w=x.1
   ·subst bb;simp[a,uA]
   ·simp[bb]
  ·rfl
def ad2{α:Type}(s:(aR->Option c0)->α->(aR->Option c0))(aC:∀t x w,(s t x w).map uA=(t w).map uA):∀(k:List α) (t:aR->Option c0) (w:aR),(k.foldl s t w).map uA=(t w).map uA:=by
 intro k
 induction k with
 |nil=>intro t w;rfl
 |cons F k ah=>intro t w;rw[ZH,ah,aC]
def XA(g:Go.aL.Node)(w:aR):(dy g w).map uA=((me g).1 w).map uA:=
 ad2 _ (λt x w=>ad2 _ (λt e w=>aA8 _ _ _ _) _ _ _) _ _ _
section
variable{t eB:aR->Option c0}
end
section
variable{t eB:aR->Option c0}
end
def s3(t:aR->Option c0):Nat->aR->Nat->Nat
 |0,_,s=>s
 |m+1,w,s=>if w=[]then s else s3 t m (e8 t w).1 (s+1)
def aDO(t:aR->Option c0):∀(m:Nat) (w:aR) (s:Nat),s3 t m w s<=s+m:=by
 intro m
 induction m with
 |zero=>intro w s;rw[s3];exact Zj _
 |succ m ah=>
  intro w s
  rw[s3]
  split
  ·omega
  ·have:=ah (e8 t w).1 (s+1);omega
def aDN(t:aR->Option c0):∀(m:Nat) (w:aR) (s:Nat),s3 t m w s=s+m↔∀i,i<m->mG t i w≠[]:=by
 intro m
 induction m with
 |zero=>intro w s;rw[s3];simp
 |succ m ah=>
  intro w s
  rw[s3]
  split
  ·rename_i a
   exact⟨λD=>Zo,λu=>absurd a (u 0 Zo)⟩
  ·rename_i a
   rw[show s+(m+1)=s+1+m by omega,ah]
   refine⟨λu i aG=> ?_,λu i aG=>u (i+1) Zo⟩
   cases i with
   |zero=>exact a
   |succ i=>exact u i Zo
def Ml(t:aR->Option c0)(L:Nat)(w:aR):Bool:=decide (L<s3 t (L+1) (e8 t w).1 0)
def vp(t:aR->Option c0)(ak:eZ):Bool:=ak.left.all λw=>j7 (nh t ak.right) (e8 t w)&&decide (e8 t w=e8 t (ak.left.headD []))
def I7(n u:Nat)(g:Go.aL.Node):Bool:=(g.d8.all λd=>decide (d.on=[]))&&(g.out.all λd=>decide (d.on=[])||decide (u+1=n))&&g.eqs.all (vp (dy g))
def r1(g:Go.aL.Node):Bool:=(iQ g).any (Ml (dy g) (iQ g).length)
def Bd(n:Nat):Nat->List Go.aL.Node->Bool
 |_,[]=>true
 |u,g::k=>I7 n u g&&Bd n (u+1) k
structure JR(g:Go.aL.Node):Prop where
 dec:∀d∈lk g,∃v,dy g d.name=some v/\v.d=d
 var:∀w v,dy g w=some v->v.d∈lk g
 Wy:∀w,w∈iQ g↔dy g w≠none
 on:∀d∈lk g,d.on≠[]->dy g d.on≠none
 no:∀d∈lk g,d.on=[]->d.no=false
def S1{g:Go.aL.Node}{d:eb}:d∈lk g↔∃x∈fS g,x.2=d:=by
 simp only[lk,fS,Zz,ZE]
 constructor
 ·rintro(a|a|a)
  ·exact⟨(1,d), .inl ⟨d,a,rfl⟩,rfl⟩
  ·exact⟨(2,d), .inr (.inl ⟨d,a,rfl⟩),rfl⟩
  ·exact⟨(3,d), .inr (.inr ⟨d,a,rfl⟩),rfl⟩
 ·rintro⟨x,(⟨e,a,rfl⟩|⟨e,a,rfl⟩|⟨e,a,rfl⟩),rfl⟩
  ·exact .inl a
  ·exact .inr (.inl a)
  ·exact .inr (.inr a)
def aAz:∀(k:List (Int×eb)) (s:(aR->Option c0)×List aR) (w:aR) (v:c0),s.1 w=some v->(k.foldl hH s).1 w=some v:=by
 intro k
 induction k with
 |nil=>intro s w v a;exact a
 |cons x k ah=>
  intro s w v a
  rw[ZH]
  refine ah _ w v ?_
  unfold hH
  by_cases aC:(s.1 x.2.name).isSome=true
  ·rw[Zp aC];exact a
  ·rw[Zg aC]
   simp only
   by_cases bb:w=x.2.name
   ·rw[<-bb,a]at aC;exact absurd rfl aC
   ·rw[Zg bb];exact a
def aAB:∀(k:List (Int×eb)) (s:(aR->Option c0)×List aR),(k.map λx=>x.2.name).Nodup->(∀x∈k,s.1 x.2.name=none)->∀x∈k,(k.foldl hH s).1 x.2.name=some ⟨x.1,x.2, -1, -1⟩:=by
 intro k
 induction k with
 |nil=>intro s _ _ x af;cases af
 |cons F k ah=>
  intro s aF aC x af
  rw[ZJ,zm]at aF
  rw[ZH]
  have H:hH s F=(λw=>if w=F.2.name then some ⟨F.1,F.2, -1, -1⟩else s.1 w,s.2++[F.2.name]):=by
   unfold hH;rw[Zg (by rw[aC F (Zv ..)];simp)]
  rw[H]
  rcases Zu.1 af with rfl|af
  ·exact aAz _ _ _ _ (by simp only[ZG])
  ·refine ah _ aF.2 (λe z=> ?_) x af
   simp only
   rw[Zg (λD=>aF.1 (by rw[<-D];exact ZE.2 ⟨e,z,rfl⟩))]
   exact aC e (Zt _ z)
def aAy:∀(k:List (Int×eb)) (s:(aR->Option c0)×List aR) (w:aR) (v:c0),(k.foldl hH s).1 w=some v->s.1 w=some v\/∃x∈k,v.d=x.2:=by
 intro k
 induction k with
 |nil=>intro s w v a;exact .inl a
 |cons x k ah=>
  intro s w v a
  rw[ZH]at a
  rcases ah _ w v a with a|⟨e,z,D⟩
  ·unfold hH at a
   by_cases aC:(s.1 x.2.name).isSome=true
   ·rw[Zp aC]at a;exact .inl a
   ·rw[Zg aC]at a
    simp only at a
    by_cases bb:w=x.2.name
    ·rw[Zp bb]at a
     simp only[Zf]at a
     exact .inr ⟨x,Zv ..,by rw[<-a]⟩
    ·rw[Zg bb]at a;exact .inl a
  ·exact .inr ⟨e,Zt _ z,D⟩
def aAA:∀(k:List (Int×eb)) (s:(aR->Option c0)×List aR),(∀w∈s.2,s.1 w≠none)->∀w∈(k.foldl hH s).2,(k.foldl hH s).1 w≠none:=by
 intro k
 induction k with
 |nil=>intro s a;exact a
 |cons x k ah=>
  intro s a
  rw[ZH]
  refine ah _ λw bb=> ?_
  unfold hH at bb ⊢
  by_cases aC:(s.1 x.2.name).isSome=true
  ·rw[Zp aC]at bb ⊢;exact a w bb
  ·rw[Zg aC]at bb ⊢
   simp only at bb ⊢
   by_cases D:w=x.2.name
   ·rw[Zp D];simp
   ·rw[Zg D]
    rcases Zz.1 bb with bb|bb
    ·exact a w bb
    ·simp at bb;exact absurd bb D
def VX{g:Go.aL.Node}{w:aR}:((dy g w).map λv=>v.d)=((me g).1 w).map λv=>v.d:=by
 have:=congrArg (Option.map Prod.snd) (XA g w)
 simpa[uA,Function.comp_def]using this
def atr{am:List Go.aL.Node}(a:(ss am).1=0)(bb:∀g∈am,kv jJ g){g:Go.aL.Node}(bV:g∈am):JR g:=by
 obtain⟨u,aH⟩:=aqw am 0 a g bV
 unfold q0 at aH
 rw[aj5]at aH
 have H:=(WT (dy g) am u g.eqs (λ_=>none,tx (dy g) g (rU am u g)) (λ_=>Zs)).1 aH.1
 obtain⟨-,AM,ls⟩:=SL.1 H.1
 have rz:=bb g bV
 have AE:∀d∈lk g,oT jJ d:=by
  intro d aJ
  simp only[lk,Zz]at aJ
  rcases aJ with a|a|a
  ·exact rz.d8 d a
  ·exact rz.out d a
  ·exact rz.loc d a
 refine⟨λd aJ=> ?_,λw v bD=> ?_,λw=>⟨λbn aF=> ?_,ajG g w⟩,λd aJ bi=> ?_,λd aJ=>(AE d aJ).no⟩
 ·obtain⟨x,af,rfl⟩:=S1.1 aJ
  have D:=aAB (fS g) (λ_=>none,[]) AM (λ_ _=>rfl) x af
  have aH:=VX (g:=g) (w:=x.2.name)
  rw[show(me g).1 x.2.name=some ⟨x.1,x.2, -1, -1⟩ from D]at aH
  cases ba:dy g x.2.name with
  |none=>rw[ba]at aH;cases aH
  |some v=>rw[ba]at aH;simp at aH;exact⟨v,rfl,aH⟩
 ·have aH:=VX (g:=g) (w:=w)
  rw[bD]at aH
  cases bi:(me g).1 w with
  |none=>rw[bi]at aH;cases aH
  |some f9=>
   rw[bi]at aH
   simp at aH
   rcases aAy _ _ _ _ bi with a|⟨x,af,D⟩
   ·cases a
   ·exact S1.2 ⟨x,af,by rw[aH,D]⟩
 ·have:=aAA (fS g) (λ_=>none,[]) Zs w bn
  have aH:=VX (g:=g) (w:=w)
  rw[aF]at aH
  cases bi:(me g).1 w with
  |none=>exact this bi
  |some f9=>rw[bi]at aH;cases aH
 ·obtain⟨x,af,rfl⟩:=S1.1 aJ
  exact λaF=>ls x af ⟨aF,bi⟩
def acx{α:Type}{p:α->Bool}{k:List α}:k.find? p=none↔∀x∈k,p x=false:=by
 rw[Y4];simp
section
variable{g:Go.aL.Node}
def aim(dZ:JR g){d:eb}(aJ:d∈lk g):e8 (dy g) d.name=kN d:=by
 obtain⟨v,bD,rfl⟩:=dZ.dec d aJ
 unfold e8;rw[bD];rfl
def atq(dZ:JR g):∀w,dy g w≠none->e8 (dy g) w=kM\/(dy g (e8 (dy g) w).1≠none/\(e8 (dy g) w).1≠[]):=by
 intro w bb
 cases bD:dy g w with
 |none=>exact absurd bD bb
 |some v=>
  have aJ:=dZ.var w v bD
  have D:e8 (dy g) w=(v.d.on,v.d.no):=by unfold e8;rw[bD];rfl
  rw[D]
  by_cases bi:v.d.on=[]
  ·exact .inl (by rw[bi,dZ.no _ aJ bi];rfl)
  ·exact .inr ⟨dZ.on _ aJ bi,bi⟩
def acw(dZ:JR g){d:eb}(aJ:d∈lk g):xo (dy g) (C3 g) d=Ml (dy g) (iQ g).length d.name:=by
 have fZ:∀w,dy g w≠none->w∈iQ g:=λw=>(dZ.Wy w).2
 have H:=atq dZ
 have aA:kN d=kM\/(dy g (kN d).1≠none/\(kN d).1≠[]):=by
  by_cases bi:d.on=[]
  ·exact .inl (by unfold kN;rw[bi,dZ.no _ aJ bi];rfl)
  ·exact .inr ⟨dZ.on _ aJ bi,bi⟩
 have OX:=aqv fZ H (C3 g) [] (kN d) (by simp[C3]) Zs Zs Zs aA
 have c8:=aDN (dy g) ((iQ g).length+1) (kN d).1 0
 have gl:=aDO (dy g) ((iQ g).length+1) (kN d).1 0
 unfold xo Ml
 rw[aim dZ aJ]
 have key:(∃i,mG (dy g) i (kN d).1=[])↔∃i,i<=(iQ g).length/\mG (dy g) i (kN d).1=[]:=by
  rcases aA with a|a
  ·refine⟨λ_=>⟨0,zd _,by rw[a];rfl⟩,λ⟨i,_,a⟩=>⟨i,a⟩⟩
  ·exact ax0 fZ H a
 have:(pM (dy g) (C3 g) [] (kN d)).getLast?≠some kM↔(iQ g).length<s3 (dy g) ((iQ g).length+1) (kN d).1 0:=by
  rw[Ne,OX,key]
  constructor
  ·intro a
   have:s3 (dy g) ((iQ g).length+1) (kN d).1 0=0+((iQ g).length+1):=c8.2 λi aG D=>a ⟨i,Zo,D⟩
   omega
  ·rintro a ⟨i,aG,D⟩
   exact c8.1 Zo i Zo D
 exact decide_eq_decide.2 this
def adu{ak:eZ}{bu:gI}(aK:ak.left≠[])(x5:eG bu ak.right)(t:aR->Option c0):xy t ak=none↔vp t ak=true:=by
 obtain⟨bq,hi,x6⟩:∃bq hi,ak.left=bq::hi:=by
  cases a:ak.left with
  |nil=>exact absurd a aK
  |cons F k=>exact⟨F,k,rfl⟩
 have gL:ak.left.headD []=bq:=by rw[x6];rfl
 unfold xy vp
 rw[gL]
 have aE:=acb (t:=t) ak.right (e8 t bq) x5
 by_cases rA:(ak.left.any λw=>decide (e8 t w≠e8 t bq))=true
 ·rw[Zp rA]
  refine⟨λa=>(by cases a),λa=> ?_⟩
  rw[List.any_eq_true]at rA
  obtain⟨w,bb,H⟩:=rA
  rw[Ym]at a
  have:=a w bb
  simp only[Zq,Zh]at this
  simp only[Zh]at H
  exact absurd this.2 H
 ·rw[Zg rA, <-aE]
  have k7:∀w∈ak.left,e8 t w=e8 t bq:=λw bb=>by
   rw[List.any_eq_true]at rA
   exact Classical.byContradiction λD=>rA ⟨w,bb,by simpa using D⟩
  rw[Ym]
  refine⟨λa w bb=> ?_,λa=> ?_⟩
  ·rw[k7 w bb,a];simp
  ·have:=a bq (by rw[x6];exact Zv ..)
   simp only[Zq]at this
   exact this.1
def aAi(dZ:JR g)(rz:kv jJ g)(n u:Nat):((vo g (decide (u+1=n))).1=0↔I7 n u g=true/\r1 g=false)/\((vo g (decide (u+1=n))).1=0\/(vo g (decide (u+1=n))).1=27\/((vo g (decide (u+1=n))).1=25/\r1 g=true)):=by
 have PF:r1 g=true↔∃d∈lk g,xo (dy g) (C3 g) d=true:=by
  unfold r1
  rw[List.any_eq_true]
  constructor
  ·rintro⟨w,bb,az⟩
   cases bD:dy g w with
   |none=>exact absurd bD ((dZ.Wy w).1 bb)
   |some v=>
    have aJ:=dZ.var w v bD
    refine⟨v.d,aJ, ?_⟩
    rw[acw dZ aJ]
    unfold Ml at az ⊢
    rw[aim dZ aJ]
    have D:e8 (dy g) w=kN v.d:=by unfold e8;rw[bD];rfl
    rw[D]at az;exact az
  ·rintro⟨d,aJ,aj⟩
   obtain⟨v,bD,LV⟩:=dZ.dec d aJ
   exact⟨d.name,(dZ.Wy _).2 (by rw[bD];simp),by rw[<-acw dZ aJ];exact aj⟩
 have wd:(rk g (decide (u+1=n))).find? (λd=>decide (d.on≠[]))=none↔((g.d8.all λd=>decide (d.on=[]))&&(g.out.all λd=>decide (d.on=[])||decide (u+1=n)))=true:=by
  rw[acx]
  simp only[Zq,Ym,Y5,Zh]
  unfold rk
  by_cases aH:u+1=n
  ·simp[aH]
  ·simp only[aH,Yl,Zw,ZB,Zz,Yq]
   refine⟨λa=>⟨λd aJ=>by simpa using a d (.inl aJ),λd aJ=>by simpa using a d (.inr aJ)⟩,λa d aJ=> ?_⟩
   rcases aJ with aJ|aJ
   ·simpa using a.1 d aJ
   ·simpa using a.2 d aJ
 have Uw:g.eqs.findSome? (xy (dy g))=none↔g.eqs.all (vp (dy g))=true:=by
  rw[List.findSome?_eq_none_iff,Ym]
  exact⟨λa ak bM=>(adu ((rz.eqs ak bM).some) ((rz.eqs ak bM).right) _).1 (a ak bM),λa ak bM=>(adu ((rz.eqs ak bM).some) ((rz.eqs ak bM).right) _).2 (a ak bM)⟩
 have U8:I7 n u g=((g.d8.all λd=>decide (d.on=[]))&&(g.out.all λd=>decide (d.on=[])||decide (u+1=n))&&g.eqs.all (vp (dy g))):=rfl
 unfold vo mS
 cases aj:(rk g (decide (u+1=n))).find? (λd=>decide (d.on≠[]))with
 |some d=>
  simp only[ne_eq,show ¬(27:Int)=0 from by decide,ZI,ZG,false_iff,true_or,or_true,Yb,false_or]
  rw[U8]
  rintro⟨H,_⟩
  rw[Zq]at H
  rw[wd.2 H.1]at aj
  cases aj
 |none=>
  have nX:=wd.1 aj
  simp only[]
  cases bD:(lk g).find? (xo (dy g) (C3 g))with
  |some d=>
   have Y:r1 g=true:=PF.2 ⟨d,List.mem_of_find?_eq_some bD,List.find?_some bD⟩
   simp only[ne_eq,show ¬(25:Int)=0 from by decide,ZI,ZG,false_iff,Y]
   refine⟨λa=>absurd a.2 Zs, .inr (.inr ⟨trivial,trivial⟩)⟩
  |none=>
   have Y:r1 g=false:=by
    cases bM:r1 g with
    |false=>rfl
    |true=>
     obtain⟨d,aJ,HZ⟩:=PF.1 bM
     rw[acx]at bD
     rw[bD d aJ]at HZ;cases HZ
   simp only[ne_eq,not_true_eq_false,ZB,Y,Yb]
   cases b4:g.eqs.findSome? (xy (dy g))with
   |some F=>
    refine⟨⟨λa=>absurd a (show ¬(27:Int)=0 by decide),λa=> ?_⟩, .inr (.inl rfl)⟩
    rw[U8,Zq]at a
    rw[Uw.2 a.2]at b4;cases b4
   |none=>
    refine⟨⟨λ_=> ?_,λ_=>rfl⟩, .inl rfl⟩
    rw[U8,nX,Uw.1 b4];rfl
end
def apZ{am:List Go.aL.Node}(a:(ss am).1=0)(bb:∀g∈am,kv jJ g)(n:Nat):∀(k:List Go.aL.Node) (u:Nat),(∀g∈k,g∈am)->
 ((tv n u k).1=0↔Bd n u k=true/\k.any r1=false)/\((tv n u k).1=0\/(tv n u k).1=27\/((tv n u k).1=25/\k.any r1=true)):=by
 intro k
 induction k with
 |nil=>intro u _;simp[tv,Bd]
 |cons g k ah=>
  intro u az
  have bV:=az g (Zv ..)
  obtain⟨bf,cf⟩:=aAi (atr a bb bV) (bb g bV) n u
  obtain⟨bQ,cl⟩:=ah (u+1) λx af=>az x (Zt _ af)
  rw[tv,Bd,List.any_cons]
  generalize vo g (decide (u+1=n))=f at bf cf ⊢
  by_cases b4:f.1=0
  ·rw[Zg (by simpa using b4)]
   obtain⟨c5,dC⟩:=bf.1 b4
   rw[c5,dC,zk,Bool.false_or]
   exact⟨bQ,cl⟩
  ·rw[Zp b4]
   refine⟨⟨λD=>absurd D b4,λ⟨bC,cu⟩=> ?_⟩, ?_⟩
   ·rw[Zq]at bC
    rw[Bool.or_eq_false_iff]at cu
    exact bf.2 ⟨bC.1,cu.1⟩
   ·rcases cf with cf|cf|cf
    ·exact absurd cf b4
    ·exact .inr (.inl cf)
    ·exact .inr (.inr ⟨cf.1,by rw[cf.2];rfl⟩)
def li{α:Type}:List α->List α
 |[F,b]=>[b,F]
 |k=>k
def Xt{α eU:Type}(f:α->eU)(k:List α):li (k.map f)=(li k).map f:=by
 match k with
 |[]=>rfl
 |[_]=>rfl
 |[_,_]=>rfl
 |_::_::_::_=>rfl
def ajC{α:Type}{x:α}{k:List α}:x∈li k↔x∈k:=by
 match k with
 |[]=>exact Iff.rfl
 |[_]=>exact Iff.rfl
 |[F,b]=>simp[li,or_comm]
 |_::_::_::_=>exact Iff.rfl
def aDV{α:Type}(k:List α):li (li k)=k:=by
 match k with
 |[]=>rfl
 |[_]=>rfl
 |[_,_]=>rfl
 |_::_::_::_=>rfl
def aDU{α:Type}(k:List α):(li k).length=k.length:=by
 match k with
 |[]=>rfl
 |[_]=>rfl
 |[_,_]=>rfl
 |_::_::_::_=>rfl
def aDT{α:Type}(k:List α):li k=k\/∃x e,k=[x,e]:=by
 match k with
 |[]=>exact .inl rfl
 |[_]=>exact .inl rfl
 |[F,b]=>exact .inr ⟨F,b,rfl⟩
 |_::_::_::_=>exact .inl rfl
mutual
def hV(T:Option aR):bp->bp
 | .mk u F nm no ty n args=> .mk u F nm (if T=some nm/\u=6 then !no else no) ty n (if T=some nm/\u=24 then li (hs T args)else hs T args)
def hs(T:Option aR):List bp->List bp
 |[]=>[]
 |D::k=>hV T D::hs T k
end
def i6(T:Option aR)(d:eb):eb:=⟨d.name,d.at_,d.ty,d.on,d.eX,if T=some d.on then !d.no else d.no⟩
def oN(T:Option aR)(ak:eZ):eZ:=⟨ak.left,ak.df,ak.at_,hV T ak.right⟩
def gB(T:Option aR)(g:Go.aL.Node):Go.aL.Node:=⟨g.name,g.at_,g.d8.map (i6 T),g.out.map (i6 T),g.loc.map (i6 T),g.eqs.map (oN T)⟩
def ix:List Go.aL.Node->List Go.aL.Node->Prop
 |[],[]=>True
 |g::k,o9::bS=>(∃T,T≠some []/\o9=gB T g)/\ix k bS
 |_,_=>False
def Dz(T:Option aR):∀k:List bp,hs T k=k.map (hV T)
 |[]=>by rw[hs];rfl
 |D::k=>by rw[hs,Dz T k];rfl
section
variable{T:Option aR}
def XE(D:bp):(hV T D).kind=D.kind:=by cases D;rw[hV];rfl
def ajP(D:bp):(hV T D).args=if T=some D.name/\D.kind=24 then li (D.args.map (hV T))else D.args.map (hV T):=by cases D;rw[hV,Dz];rfl
mutual
def ajQ:∀D:bp,hV none D=D
 | .mk u F nm no ty n args=>by rw[hV,ajS args];simp
def ajS:∀k:List bp,hs none k=k
 |[]=>by rw[hs]
 |D::k=>by rw[hs,ajQ D,ajS k]
end
mutual
def ajR:∀D:bp,hV T (hV T D)=D
 | .mk u F nm no ty n args=>by
   rw[hV,hV]
   have a:=ajT args
   have cu:hs T (li (hs T args))=li args:=by rw[Dz, <-Xt, <-Dz,a]
   by_cases b1:T=some nm/\u=6
   ·have Cl:¬(T=some nm/\u=24):=λak=>by have:=b1.2;have:=ak.2;omega
    simp only[Zp b1,Zg Cl,a,Bool.not_not]
   ·by_cases Cl:T=some nm/\u=24
    ·simp only[Zg b1,Zp Cl,cu,aDV]
    ·simp only[Zg b1,Zg Cl,a]
def ajT:∀k:List bp,hs T (hs T k)=k
 |[]=>by rw[hs,hs]
 |D::k=>by rw[hs,hs,ajR D,ajT k]
end
def aEk(d:eb):i6 T (i6 T d)=d:=by
 unfold i6
 by_cases a:T=some d.on<;>simp[a]
def aEl(g:Go.aL.Node):gB T (gB T g)=g:=by
 unfold gB
 simp only[Yt]
 have H:i6 T∘i6 T=id:=funext aEk
 have M:oN T∘oN T=id:=funext λak=>by simp only[Function.comp_apply,oN,ajR];rfl
 simp only[H,M,List.map_id]
def ajU(g:Go.aL.Node):gB none g=g:=by
 unfold gB
 have H:i6 none=id:=funext λd=>by simp[i6]
 have M:oN none=id:=funext λak=>by simp only[oN,ajQ];rfl
 rw[H,M];simp
end
def ix.symm:∀{k bS:List Go.aL.Node},ix k bS->ix bS k
 |[],[],_=>trivial
 |g::k,o9::bS,a=>⟨by obtain⟨⟨T,aK,rfl⟩,_⟩:=a;exact⟨T,aK,(aEl g).symm⟩,ix.symm a.2⟩
 |[],_::_,a=>a.elim
 |_::_,[],a=>a.elim
def ix.len:∀{k bS:List Go.aL.Node},ix k bS->bS.length=k.length
 |[],[],_=>rfl
 |g::k,o9::bS,a=>by rw[ZF,ZF,ix.len a.2]
 |[],_::_,a=>a.elim
 |_::_,[],a=>a.elim
def ix.get:∀{k bS:List Go.aL.Node},ix k bS->∀i:Nat,(∃g T,T≠some []/\k[i]? =some g/\bS[i]? =some (gB T g))\/(k[i]? =none/\bS[i]? =none)
 |[],[],_,i=> .inr ⟨Zs,Zs⟩
 |g::k,o9::bS,a,0=>by obtain⟨⟨T,aK,rfl⟩,_⟩:=a;exact .inl ⟨g,T,aK,rfl,rfl⟩
 |g::k,o9::bS,a,i+1=>by simpa using ix.get a.2 i
 |[],_::_,a,_=>a.elim
 |_::_,[],a,_=>a.elim
def ix.mem{k bS:List Go.aL.Node}(a:ix k bS){o9:Go.aL.Node}(bV:o9∈bS):∃g T,T≠some []/\g∈k/\o9=gB T g:=by
 obtain⟨i,aG,rfl⟩:=List.mem_iff_getElem.1 bV
 rcases a.get i with ⟨g,T,aK,H,M⟩|⟨_,M⟩
 ·rw[Ze aG]at M
  exact⟨g,T,aK,Zl H,Yf M⟩
 ·rw[Ze aG]at M;cases M
def ix.tD(nm:aR):∀{k bS:List Go.aL.Node},ix k bS->∀u:Nat,tD nm u bS=tD nm u k
 |[],[],_,u=>rfl
 |g::k,o9::bS,a,u=>by
  obtain⟨⟨T,_,rfl⟩,M⟩:=a
  rw[Go.Proofs.YtpeabpmnlmaabaaGreatDoor.tD,Go.Proofs.YtpeabpmnlmaabaaGreatDoor.tD,ix.tD nm M];rfl
 |[],_::_,a,_=>a.elim
 |_::_,[],a,_=>a.elim
def ix.mz{k bS:List Go.aL.Node}(a:ix k bS)(nm:aR):mz bS nm=mz k nm:=a.tD nm 0
section
variable{T:Option aR}
def aEn(T:Option aR)(v:c0):c0:=⟨v.kind,i6 T v.d,v.eq,v.left⟩
def Gm(T:Option aR)(s:(aR->Option c0)×List aR):(aR->Option c0)×List aR:=(λw=>(s.1 w).map (aEn T),s.2)
def aA6(s:(aR->Option c0)×List aR)(x:Int×eb):hH (Gm T s) (x.1,i6 T x.2)=Gm T (hH s x):=by
 unfold hH
 have aF:(i6 T x.2).name=x.2.name:=rfl
 simp only[aF,Gm,Option.isSome_map]
 split
 ·rfl
 ·simp only[YA,Yb]
  funext w
  split<;>rfl
def aAC:∀(k:List (Int×eb)) (s:(aR->Option c0)×List aR),(k.map λx=>(x.1,i6 T x.2)).foldl hH (Gm T s)=Gm T (k.foldl hH s):=by
 intro k
 induction k with
 |nil=>intro s;rfl
 |cons F k ah=>intro s;rw[ZJ,ZH,ZH,aA6,ah]
def Kx(g:Go.aL.Node):fS (gB T g)=(fS g).map λx=>(x.1,i6 T x.2):=by
 unfold fS gB
 simp[ZW,Function.comp_def]
def aik(g:Go.aL.Node):me (gB T g)=Gm T (me g):=by
 unfold me
 rw[Kx]
 exact aAC (fS g) (λ_=>none,[])
def azX(g:Go.aL.Node):iQ (gB T g)=iQ g:=by unfold iQ;rw[aik];rfl
def ml(T:Option aR)(t eB:aR->Option c0):Prop:=∀w,(eB w).map uA=((t w).map uA).map λp=>(p.1,i6 T p.2)
def Q4(g:Go.aL.Node):ml T (dy g) (dy (gB T g)):=λw=>by
 rw[XA,XA,aik]
 simp only[Gm,Option.map_map]
 rfl
variable{t eB:aR->Option c0}
def ml.inv(a:ml T t eB)(w:aR):(t w=none/\eB w=none)\/∃v f9,t w=some v/\eB w=some f9/\f9.kind=v.kind/\f9.d=i6 T v.d:=by
 have:=a w
 cases H:t w with
 |none=>
  cases M:eB w with
  |none=>exact .inl ⟨rfl,rfl⟩
  |some f9=>rw[H,M]at this;cases this
 |some v=>
  cases M:eB w with
  |none=>rw[H,M]at this;cases this
  |some f9=>
   rw[H,M]at this
   simp only[ZS,Zf,uA,YA]at this
   exact .inr ⟨v,f9,rfl,rfl,this.1,this.2⟩
def ml.isSome(a:ml T t eB)(w:aR):(eB w).isSome=(t w).isSome:=by
 rcases a.inv w with ⟨H,M⟩|⟨v,f9,H,M,_⟩<;>rw[H,M]<;>rfl
def ml.aAu(a:ml T t eB)(w:aR):eB w=none↔t w=none:=by
 rcases a.inv w with ⟨H,M⟩|⟨v,f9,H,M,_⟩<;>rw[H,M]<;>simp
def ml.of(a:ml T t eB)(w:aR):mN eB w=mN t w:=by
 unfold mN
 rcases a.inv w with ⟨H,M⟩|⟨v,f9,H,M,_,al⟩
 ·rw[H,M]
 ·rw[H,M];simp[al,i6]
def o8(T:Option aR)(c:fu):fu:=(c.1,if T=some c.1 then !c.2 else c.2)
def Tg{c d:fu}:o8 T c=o8 T d↔c=d:=by
 obtain⟨F,b⟩:=c
 obtain⟨fB,dD⟩:=d
 simp only[o8,YA]
 constructor
 ·rintro⟨rfl,a⟩
  refine⟨rfl, ?_⟩
  split at a<;>simpa using a
 ·rintro⟨rfl,rfl⟩;exact⟨rfl,rfl⟩
def Oh(aK:T≠some []):o8 T kM=kM:=by simp[o8,kM,aK]
def aqD(d:eb):kN (i6 T d)=o8 T (kN d):=rfl
def ml.Hn(a:ml T t eB)(aK:T≠some [])(w:aR):e8 eB w=o8 T (e8 t w):=by
 unfold e8
 rcases a.inv w with ⟨H,M⟩|⟨v,f9,H,M,_,al⟩
 ·rw[H,M]
  have:kN ((none:Option c0).getD px).d=kM:=rfl
  rw[this,Oh aK]
 ·rw[H,M];simp only[YJ,al,aqD]
mutual
def aiP:∀(D x:bp),x∈Bh (hV T D)->∃e∈Bh D,x.kind=e.kind/\x.name=e.name
 | .mk u F nm no ty n args,x,a=>by
   rw[hV,Bh]at a
   rw[Bh]
   rcases Zu.1 a with rfl|a
   ·exact⟨_,Zv ..,rfl,rfl⟩
   ·obtain⟨e,z,axB⟩:=aiQ args x (by
     split at a
     ·exact(aBE _ _).1 a
     ·exact a)
    exact⟨e,Zt _ z,axB⟩
def aiQ:∀(k:List bp) (x:bp),x∈un (hs T k)->∃e∈un k,x.kind=e.kind/\x.name=e.name
 |[],x,a=>by rw[hs,un]at a;cases a
 |D::k,x,a=>by
  rw[hs,un]at a
  rw[un]
  rcases Zz.1 a with a|a
  ·obtain⟨e,z,u⟩:=aiP D x a;exact⟨e,List.mem_append_left _ z,u⟩
  ·obtain⟨e,z,u⟩:=aiQ k x a;exact⟨e,List.mem_append_right _ z,u⟩
def aBE:∀(k:List bp) (x:bp),x∈un (li k)↔x∈un k
 |[],x=>Iff.rfl
 |[_],x=>Iff.rfl
 |[F,b],x=>by simp only[li,un,Zz,ZK,Yq];exact or_comm
 |_::_::_::_,x=>Iff.rfl
end
variable{am e3:List Go.aL.Node}
def aCn(it:ml T t eB)(d9:ix am e3){u:Nat}{D:bp}(a:G1 t am u D):G1 eB e3 u (hV T D):=λx af=>by
 obtain⟨e,z,H,M⟩:=aiP D x af
 obtain⟨bR,cm⟩:=a e z
 unfold wM at bR ⊢
 rw[H,M,it.isSome,d9.mz]
 exact⟨bR,cm⟩
def ay4(k:List eZ):(k.map (oN T)).flatMap eZ.left=k.flatMap eZ.left:=by
 rw[List.flatMap_map];rfl
def aAj(d9:ix am e3){u:Nat}{g:Go.aL.Node}(a:(q0 am u g).1=0):(q0 e3 u (gB T g)).1=0:=by
 have aC:ml T (dy g) (dy (gB T g)):=Q4 g
 unfold q0 at a ⊢
 have aF:rU e3 u (gB T g)=rU am u g:=by unfold rU;rw[d9.mz];rfl
 rw[aF]
 rw[aj5]at a ⊢
 obtain⟨H,M⟩:=a
 have cE:=(WT (dy g) am u g.eqs (λ_=>none,tx (dy g) g (rU am u g)) (λ_=>Zs)).1 H
 obtain⟨cA,dT,fG⟩:=cE
 have cA:=SL.1 cA
 have az:(gB T g).eqs.flatMap eZ.left=g.eqs.flatMap eZ.left:=ay4 g.eqs
 have g1:Mu (gB T g)=Mu g:=by unfold Mu;rw[Kx,Yt];rfl
 refine⟨(WT (dy (gB T g)) e3 u (gB T g).eqs (λ_=>none,tx (dy (gB T g)) (gB T g) (rU am u g)) (λ_=>Zs)).2 ⟨SL.2 ⟨cA.1,by rw[g1];exact cA.2.1,λx af=> ?_⟩,λw bb=> ?_,λak bM=> ?_⟩,λx af=> ?_⟩
 ·rw[Kx]at af
  obtain⟨e,z,rfl⟩:=ZE.1 af
  rw[aC.aAu];exact cA.2.2 e z
 ·rw[az]at bb
  obtain⟨v,bR,cm,cX⟩:=dT w bb
  rcases aC.inv w with ⟨es,_⟩|⟨ac,f9,es,fk,jT,_⟩
  ·rw[bR]at es;cases es
  ·rw[bR]at es;cases es
   exact⟨f9,fk,by rw[jT];exact cm,by rw[az];exact cX⟩
 ·obtain⟨pr,LC,rfl⟩:=ZE.1 bM
  exact aCn aC d9 (fG pr LC)
 ·rw[Kx]at af
  obtain⟨e,z,rfl⟩:=ZE.1 af
  have:=M e z
  rw[aBS]at this ⊢
  rw[az];exact this
def acR(d9:ix am e3):∀(k bS:List Go.aL.Node) (u:Nat),ix k bS->(y7 am u k).1=0->(y7 e3 u bS).1=0
 |[],[],u,_,_=>rfl
 |g::k,o9::bS,u,az,a=>by
  obtain⟨⟨T,_,rfl⟩,M⟩:=az
  rw[y7]at a ⊢
  split at a
  ·rename_i H;exact absurd a H
  ·rename_i H
   rw[Zg (by simp only[ne_eq,Decidable.not_not]at H ⊢;exact aAj d9 H)]
   exact acR d9 k bS _ M a
 |[],_::_,_,a,_=>a.elim
 |_::_,[],_,a,_=>a.elim
def aqn(d9:ix am e3)(nm:aR)(F:List d3):B1 e3 nm F=B1 am nm F:=by
 unfold B1
 rw[d9.mz]
 rcases d9.get ((mz am nm).getD 0)with ⟨g,T,_,H,M⟩|⟨H,M⟩
 ·rw[H,M]
  simp only[gB,Yt]
  rfl
 ·rw[H,M]
def W6(aC:ml T t eB)(d9:ix am e3)(u F:Int)(nm:aR)(no I1:Bool)(ty:d3)(n:Int)(ck aFf:List bp)(k:List d3):kI e3 eB (.mk u F nm I1 ty n aFf) k=kI am t (.mk u F nm no ty n ck) k:=by
 unfold kI
 simp only[aC.of,aqn d9]
 rfl
def apF{F b:bp}{k:List d3}(a:ln am t [F,b]= .ok (k,true)):∃x e,ow am t F= .ok [x]/\ow am t b= .ok [e]/\k=[x,e]:=by
 rw[ln,ln,ln]at a
 cases aE:ow am t F with
 |error D=>rw[aE]at a;cases a
 |ok r=>
  cases aj:ow am t b with
  |error D=>rw[aE,aj]at a;cases a
  |ok s=>
   rw[aE,aj]at a
   match r,s with
   |[x],[e]=>simp at a;exact⟨x,e,rfl,rfl,a.symm⟩
   |[],[]=>simp at a
   |[],[_]=>simp at a
   |[],_::_::_=>simp at a
   |[_],[]=>simp at a
   |[_],_::_::_=>simp at a
   |_::_::_,[]=>simp at a
   |_::_::_,[_]=>simp at a
   |_::_::_,_::_::_=>simp at a
mutual
def adI(aC:ml T t eB)(d9:ix am e3):∀(D:bp) (r:List d3),ow am t D= .ok r->ow e3 eB (hV T D)= .ok r
 | .mk u F nm no ty n args,r,a=>by
   rw[ow]at a
   rw[hV,ow]
   cases aE:ln am t args with
   |error x=>rw[aE]at a;cases a
   |ok p=>
    obtain⟨k,one⟩:=p
    rw[aE]at a
    have ah:=aco aC d9 args k one aE
    cases one with
    |false=>simp at a
    |true=>
     simp only[zo,ZB]at a
     by_cases Cl:T=some nm/\u=24
     ·rw[Zp Cl]
      rcases aDT args with Vv|⟨x,e,rfl⟩
      ·rw[Dz,Xt,Vv, <-Dz]
       simp only[ah,zo,ZB]
       rw[W6 aC d9 u F nm no _ ty n args _ k]
       exact a
      ·rw[hs,hs,hs]at ah ⊢
       obtain⟨ac,v,H,M,rfl⟩:=apF ah
       have pP:li [hV T x,hV T e]=[hV T e,hV T x]:=rfl
       have Vv:ln e3 eB [hV T e,hV T x]= .ok ([v,ac],true):=by rw[ln,ln,ln,H,M]
       rw[pP]
       simp only[Vv,zo,ZB]
       rw[W6 aC d9 u F nm no _ ty n [x,e] _ [v,ac]]
       have aH:=Cl.2
       subst aH
       have Y:∀k:List d3,kI am t (.mk 24 F nm no ty n [x,e]) k=([k.headD dQ],q2 k&&(mN t nm).b):=λk=>rfl
       rw[Y]at a ⊢
       by_cases agN:v=ac
       ·subst agN;exact a
       ·have:q2 [ac,v]=false:=by simp[q2,agN]
        rw[this]at a
        simp at a
     ·rw[Zg Cl]
      simp only[ah,zo,ZB]
      rw[W6 aC d9 u F nm no _ ty n args _ k]
      exact a
def aco(aC:ml T t eB)(d9:ix am e3):∀(k:List bp) (r:List d3) (one:Bool),ln am t k= .ok (r,one)->ln e3 eB (hs T k)= .ok (r,one)
 |[],r,one,a=>by rw[ln]at a;rw[hs,ln];exact a
 |D::k,r,one,a=>by
  rw[ln]at a
  rw[hs,ln]
  cases bA:ow am t D with
  |error x=>rw[bA]at a;cases a
  |ok s=>
   rw[bA]at a
   cases az:ln am t k with
   |error x=>rw[az]at a;cases a
   |ok p=>
    obtain⟨bS,aAO⟩:=p
    rw[az]at a
    rw[adI aC d9 D s bA,aco aC d9 k bS aAO az]
    exact a
end
def aAm(d9:ix am e3){g:Go.aL.Node}(a:yj am g=none):yj e3 (gB T g)=none:=by
 have aC:ml T (dy g) (dy (gB T g)):=Q4 g
 have aJ:Ee (dy (gB T g)) (gB T g)=Ee (dy g) g:=by
  unfold Ee
  rw[Kx,List.findSome?_map]
  simp only[aC.of,Function.comp_def]
  rfl
 unfold yj at a ⊢
 rw[aJ]
 split at a
 ·cases a
 ·rename_i H
  rw[List.findSome?_eq_none_iff]at a ⊢
  intro ak bM
  obtain⟨pr,LC,rfl⟩:=ZE.1 bM
  have:=a pr LC
  unfold vX at this ⊢
  cases bA:ow am (dy g) pr.right with
  |error x=>rw[bA]at this;cases this
  |ok row=>
   rw[bA]at this
   have bC:ow e3 (dy (gB T g)) (oN T pr).right= .ok row:=adI aC d9 _ _ bA
   rw[bC]
   have:mN (dy (gB T g))=mN (dy g):=funext aC.of
   simp only[this]
   have aH:(oN T pr).right.kind=pr.right.kind:=XE _
   rw[aH]
   assumption
def aEs(d9:ix am e3)(a:yA am=none):yA e3=none:=by
 unfold yA at a ⊢
 rw[List.findSome?_eq_none_iff]at a ⊢
 intro o9 bV
 obtain⟨g,T,_,AH,rfl⟩:=d9.mem bV
 exact aAm d9 (a g AH)
def aCb(d9:ix am e3)(a:(lW am).1=0):(lW e3).1=0:=by
 have H:=ai9 a
 have M:yA am=none:=by
  unfold lW at a
  rw[Zg (by simp[H])]at a
  cases ay:yA am with
  |none=>rfl
  |some F=>rw[ay]at a;cases a
 have al:(ss e3).1=0:=acR d9 am e3 0 d9 H
 unfold lW
 rw[Zg (by simp[al]),aEs d9 M]
def mV(T:Option aR)(x:Can):Can:=⟨x.any,x.one,o8 T x.c⟩
def HY(x:Can)(c:fu):j7 (mV T x) (o8 T c)=j7 x c:=by
 unfold j7 mV
 simp only[Tg]
def aqb(aK:T≠some [])(x e:Can):y3 (mV T x) (mV T e)=mV T (y3 x e):=by
 unfold y3
 simp only[mV,Tg]
 split
 ·rfl
 ·split
  ·rfl
  ·simp only[Oh aK]
def asu(aK:T≠some [])(k:List Can):Hz (k.map (mV T))=mV T (Hz k):=by
 unfold Hz
 have:∀(k:List Can) (x:Can),(k.map (mV T)).foldl y3 (mV T x)=mV T (k.foldl y3 x):=by
  intro k
  induction k with
  |nil=>intro x;rfl
  |cons F k ah=>intro x;rw[ZJ,ZH,ZH,aqb aK,ah]
 have a:=this k ⟨true,false,kM⟩
 have D:mV T ⟨true,false,kM⟩=⟨true,false,kM⟩:=by simp only[mV,Oh aK]
 rw[D]at a;exact a
mutual
def acd(aC:ml T t eB)(aK:T≠some []){bu:gI}:∀D:bp,eG bu D->nh eB (hV T D)=mV T (nh t D)
 | .mk u F nm no ty n args,bb=>by
   rw[eG]at bb
   have ah:=aca aC aK args bb.2
   rw[hV,nh,nh]
   have aF:∀(u F:Int) (no:Bool) (n:Int) (ck:List bp),(bp.mk u F nm no ty n ck).name=nm:=λ_ _ _ _ _=>rfl
   have aH:∀(u F:Int) (no:Bool) (n:Int) (ck:List bp),(bp.mk u F nm no ty n ck).kind=u:=λ_ _ _ _ _=>rfl
   have bi:∀(u F:Int) (no:Bool) (n:Int) (ck:List bp),(bp.mk u F nm no ty n ck).no=no:=λ_ _ _ _ _=>rfl
   unfold Xp
   simp only[aF,aH,bi]
   by_cases bR:u=1
   ·simp only[Zp bR,mV,Oh aK]
   rw[Zg bR,Zg bR]
   by_cases cm:u=2
   ·simp only[Zp cm,mV,aC.Hn aK]
   rw[Zg cm,Zg cm]
   by_cases dc:u=6
   ·have azS:¬(T=some nm/\u=24):=λak=>by have:=ak.2;omega
    rw[Zp dc,Zp dc,Zg azS,ah,Zy]
    have bC:(Option.map (mV T) (ky t args)[0]?).elim false (λx=>j7 x (e8 eB nm))=((ky t args)[0]?).elim false (λx=>j7 x (e8 t nm)):=by
     cases(ky t args)[0]? with
     |none=>rfl
     |some x=>simp only[ZS,Option.elim_some,aC.Hn aK,HY]
    rw[bC]
    simp only[mV,o8,dc,Yb]
   rw[Zg dc,Zg dc]
   by_cases mH:u=24
   ·subst mH
    rw[Zp rfl,Zp rfl,aC.Hn aK]
    have M:args.length=2:=bb.1.sp 2 rfl
    obtain⟨x,e,rfl⟩:∃x e,args=[x,e]:=by
     match args,M with
     |[x,e],_=>exact⟨x,e,rfl⟩
    rw[hs,hs,hs]at ah ⊢
    rw[ky,ky,ky,ky,ky,ky]at ah
    rw[ky,ky,ky]
    simp only[ZJ,List.map_nil,YE,Yb]at ah
    obtain⟨hg,gq⟩:=ah
    by_cases g1:T=some nm
    ·have b4:o8 T (nm,false)=(nm,true):=by simp[o8,g1]
     have ba:o8 T (nm,true)=(nm,false):=by simp[o8,g1]
     rw[Zp ⟨g1,rfl⟩]
     simp only[li]
     rw[ky,ky,ky,hg,gq]
     simp only[Z5,ZV,Option.elim_some,mV]
     rw[<-b4,show(nm,false)=o8 T (nm,true) from ba.symm]
     have bC:=HY (T:=T) (nh t e) (nm,true)
     have cu:=HY (T:=T) (nh t x) (nm,false)
     unfold mV at bC cu
     rw[bC]
     rw[ba,cu,Bool.and_comm]
     rw[b4]
    ·have b4:∀b,o8 T (nm,b)=(nm,b):=λb=>by simp[o8,g1]
     rw[Zg (λak=>g1 ak.1)]
     rw[ky,ky,ky,hg,gq]
     simp only[Z5,ZV,Option.elim_some]
     have bC:=HY (T:=T) (nh t x) (nm,false)
     have cu:=HY (T:=T) (nh t e) (nm,true)
     rw[b4]at bC cu
     rw[bC,cu];rfl
   ·rw[Zg mH,Zg mH,Zg (λak=>mH ak.2),ah]
    exact asu aK _
def aca(aC:ml T t eB)(aK:T≠some []){bu:gI}:∀k:List bp,fj bu k->ky eB (hs T k)=(ky t k).map (mV T)
 |[],_=>by rw[hs,ky,ky];rfl
 |D::k,bb=>by rw[fj]at bb;rw[hs,ky,ky,acd aC aK D bb.1,aca aC aK k bb.2];rfl
end
def aAK(aC:ml T t eB)(aK:T≠some []){bu:gI}{ak:eZ}(bb:eG bu ak.right):vp eB (oN T ak)=vp t ak:=by
 unfold vp
 have bC:nh eB (oN T ak).right=mV T (nh t ak.right):=acd aC aK _ bb
 rw[bC]
 simp only[aC.Hn aK,HY,Tg]
 rfl
def aDP(aC:ml T t eB)(aK:T≠some []):∀(m:Nat) (w:aR) (s:Nat),s3 eB m w s=s3 t m w s:=by
 intro m
 induction m with
 |zero=>intro w s;rfl
 |succ m ah=>
  intro w s
  rw[s3,s3,aC.Hn aK]
  simp only[o8,ah]
def aCx(aK:T≠some [])(g:Go.aL.Node):r1 (gB T g)=r1 g:=by
 have aC:ml T (dy g) (dy (gB T g)):=Q4 g
 unfold r1
 rw[azX]
 congr 1
 funext w
 unfold Ml
 rw[aDP aC aK,aC.Hn aK]
 rfl
def aAI(aK:T≠some []){bu:gI}{g:Go.aL.Node}(bb:kv bu g)(n u:Nat):I7 n u (gB T g)=I7 n u g:=by
 have aC:ml T (dy g) (dy (gB T g)):=Q4 g
 unfold I7
 have bC:(gB T g).d8.all (λd=>decide (d.on=[]))=g.d8.all λd=>decide (d.on=[]):=by
  simp only[gB,List.all_map];rfl
 have cu:(gB T g).out.all (λd=>decide (d.on=[])||decide (u+1=n))=g.out.all λd=>decide (d.on=[])||decide (u+1=n):=by
  simp only[gB,List.all_map];rfl
 have fL:(gB T g).eqs.all (vp (dy (gB T g)))=g.eqs.all (vp (dy g)):=by
  show(g.eqs.map (oN T)).all _=_
  rw[List.all_map,Z9,Ym,Ym]
  have:∀ak∈g.eqs,(vp (dy (gB T g))∘oN T) ak=vp (dy g) ak:=λak bM=>aAK aC aK (bb.eqs ak bM).right
  exact⟨λa ak bM=>by rw[<-this ak bM];exact a ak bM,λa ak bM=>by rw[this ak bM];exact a ak bM⟩
 rw[bC,cu,fL]
def aip{bu:gI}(n:Nat):∀(k bS:List Go.aL.Node) (u:Nat),ix k bS->(∀g∈k,kv bu g)->Bd n u bS=Bd n u k/\bS.any r1=k.any r1
 |[],[],u,_,_=>⟨rfl,rfl⟩
 |g::k,o9::bS,u,az,bb=>by
  obtain⟨⟨T,aK,rfl⟩,M⟩:=az
  obtain⟨bC,cu⟩:=aip n k bS (u+1) M (λg bV=>bb g (Zt _ bV))
  rw[Bd,Bd,aAI aK (bb g (Zv ..)),bC,List.any_cons,List.any_cons,aCx aK,cu]
  exact⟨rfl,rfl⟩
 |[],_::_,_,a,_=>a.elim
 |_::_,[],_,a,_=>a.elim
def XD(aK:T≠some []){bu:gI}{d:eb}(a:oT bu d):oT bu (i6 T d):=⟨a.name,a.type,a.on,λD=>by
 have D:d.on=[]:=D
 unfold i6
 simp only[D]
 rw[Zg aK];exact a.no D,a.ap,a.op⟩
mutual
def akn{bu:gI}:∀D:bp,eG bu D->eG bu (hV T D)
 | .mk u F nm no ty n args,bb=>by
   have sO:=bb
   rw[eG]at bb
   obtain⟨a,az⟩:=bb
   have ah:=akl args az
   have u1:fj bu (if T=some nm/\u=24 then li (hs T args)else hs T args):=by
    split
    ·exact aEZ _ ah
    ·exact ah
   have eM:(if T=some nm/\u=24 then li (hs T args)else hs T args).length=args.length:=by
    rw[Dz];split
    ·rw[aDU,Zi]
    ·rw[Zi]
   rw[hV,eG]
   refine⟨⟨a.ap,a.bR,a.cm,λm bn=>eM.trans (a.sp m bn),a.nm,a.hS,λD=> ?_,a.ty,a.dQ,a.WB,a.mM,a.a8,λD=> ?_⟩,u1⟩
   ·have D:(if T=some nm/\u=6 then !no else no)=true:=D
    by_cases b1:T=some nm/\u=6
    ·exact b1.2
    ·rw[Zg b1]at D;exact a.no D
   ·have D:u=21:=D
    obtain⟨k,r,bC,cu⟩:=a.ha D
    have bC:args=[k,r]:=bC
    refine⟨hV T k,hV T r, ?_, ?_⟩
    ·show(if T=some nm/\u=24 then li (hs T args)else hs T args)=_
     rw[Zg (λak=>zz ak.2),bC,hs,hs,hs]
    ·rw[XE]
     rcases cu with cu|⟨cu,x,fL,j5⟩
     ·exact .inl cu
     ·refine .inr ⟨cu,hV T x, ?_,by rw[XE];exact j5⟩
      rw[ajP,fL,Zg (λak=>zz ak.2)];rfl
def akl{bu:gI}:∀k:List bp,fj bu k->fj bu (hs T k)
 |[],_=>by rw[hs];exact fj.nil
 |D::k,a=>by rw[fj]at a;rw[hs];exact fj.cons (akn D a.1) (akl k a.2)
def aEZ{bu:gI}:∀k:List bp,fj bu k->fj bu (li k)
 |[],a=>a
 |[_],a=>a
 |[F,b],a=>by
  rw[fj,fj]at a
  exact fj.cons a.2.1 (fj.cons a.1 fj.nil)
 |_::_::_::_,a=>a
end
def aAo(aK:T≠some []){bu:gI}{g:Go.aL.Node}(a:kv bu g):kv bu (gB T g):=by
 refine⟨a.name,λd aJ=> ?_,λd aJ=> ?_,λd aJ=> ?_,λD=>a.some (by simpa[gB]using D),λak bM=> ?_,a.ap⟩
 ·obtain⟨hM,H,rfl⟩:=ZE.1 aJ;exact XD aK (a.d8 hM H)
 ·obtain⟨hM,H,rfl⟩:=ZE.1 aJ;exact XD aK (a.out hM H)
 ·obtain⟨hM,H,rfl⟩:=ZE.1 aJ;exact XD aK (a.loc hM H)
 ·obtain⟨pr,H,rfl⟩:=ZE.1 bM
  have:=a.eqs pr H
  exact⟨this.left,this.some,akn _ this.right,this.ap,this.azp⟩
def asw{f:bp->Nat}:∀(k:List bp) (a:Nat),(li k).foldl (λa F=>max a (f F)) a=k.foldl (λa F=>max a (f F)) a
 |[],_=>rfl
 |[_],_=>rfl
 |[F,b],a=>by simp only[li,ZH,List.foldl_nil];omega
 |_::_::_::_,_=>rfl
def avp:∀(m:Nat) (D:bp),gv m (hV T D)=gv m D:=by
 intro m
 induction m with
 |zero=>intro D;rfl
 |succ m ah=>
  intro D
  rw[gv,gv,ajP]
  congr 1
  have H:∀(k:List bp) (a:Nat),(k.map (hV T)).foldl (λa F=>max a (gv m F)) a=k.foldl (λa F=>max a (gv m F)) a:=by
   intro k
   induction k with
   |nil=>intro a;rfl
   |cons F k m2=>intro a;rw[ZJ,ZH,ZH,ah,m2]
  split
  ·rw[asw,H]
  ·rw[H]
def ahJ:∀k:List eZ,sQ (k.map (oN T))=sQ k
 |[]=>rfl
 |ak::k=>by
  rw[ZJ,sQ,sQ,ahJ k]
  have:gv 201 (oN T ak).right=gv 201 ak.right:=avp 201 ak.right
  rw[this];rfl
def ahK:∀{k bS:List Go.aL.Node},ix k bS->pm bS=pm k
 |[],[],_=>rfl
 |g::k,o9::bS,a=>by
  obtain⟨⟨T,aK,rfl⟩,M⟩:=a
  rw[pm,pm,ahK M]
  have:sQ (gB T g).eqs=sQ g.eqs:=ahJ g.eqs
  rw[this]
  simp only[gB,Zi]
 |[],_::_,a=>a.elim
 |_::_,[],a=>a.elim
def azg(d9:ix am e3):n2 e3=n2 am:=by
 unfold n2
 rw[ahK d9]
 rcases d9.get 64 with ⟨g,T,_,H,M⟩|⟨H,M⟩
 ·rw[H,M];rfl
 ·rw[H,M]
def WC(d9:ix am e3){bu:gI}(a:∀g∈am,kv bu g):∀g∈e3,kv bu g:=λo9 bV=>by
 obtain⟨g,T,aK,AH,rfl⟩:=d9.mem bV
 exact aAo aK (a g AH)
end
def ai7{am:List Go.aL.Node}(bb:∀g∈am,kv jJ g):(wR am).1=0↔(lW am).1=0/\Bd am.length 0 am=true/\am.any r1=false:=by
 unfold wR
 by_cases a:(lW am).1=0
 ·rw[Zg (by simp[a])]
  exact(apZ (ai9 a) bb am.length am 0 (λ_ a=>a)).1.trans ⟨λu=>⟨a,u⟩,λu=>u.2⟩
 ·rw[Zp a]
  exact⟨λu=>absurd u a,λu=>absurd u.1 a⟩
def ajO{am e3:List Go.aL.Node}(d9:ix am e3)(bb:∀g∈am,kv jJ g)(a:(wR am).1=0):(wR e3).1=0:=by
 rw[ai7 bb]at a
 rw[ai7 (WC d9 bb)]
 obtain⟨H,M,al⟩:=a
 obtain⟨bC,cu⟩:=aip am.length am e3 0 d9 bb
 exact⟨aCb d9 H,by rw[d9.len,bC];exact M,by rw[cu];exact al⟩
def aEg{am e3:List Go.aL.Node}(d9:ix am e3)(bb:∀g∈am,kv jJ g):decide ((wR am).1=0)=decide ((wR e3).1=0):=
 decide_eq_decide.2 ⟨ajO d9 bb,ajO d9.symm (WC d9 bb)⟩
end
noncomputable section
variable (X : ca) (h : S ag) (j : Nat) (ai ax : bK) (a0 bf cf a3 a4 a5 jK kx jf : E)
def aaL:Za1:=λa b c d e f g=>hC a d e c λd e h=>akD b a e h g λe h i j k=>a2 a 6 [e] k j (λj k l=>hB j λj m=>GM l a k m λk l m=>yL i a m 0 λn=>tb n 0 k m l a λl m o=>fc n (bv .neq l (.Z 0)) m o λl m o=>c9 (λl=>bt (λb c d=>pB b λe=>ar (db a c .eql 23 true e .cN) λe=>vg e (b 7) c d λc d h=>fc e (db a d .eql 23 true c .cN) d h λc d h=>c9 (λc=>vg c (b 7) d h λd e h=>w8 c d e h 0 a λd e h=>fc c (gr d) e h λd e h=>fc c (bv .eql d (.Z 0)) e h λd e h=>c9 (λc=>bt (λb c d=>e7 (d+10) λd=>qx b λe=>ar (ya 2 1 e (.Z 0)) λe=>ar (aU a c e) λe=>ar (ms .i64 e) λe=>kc b 7 0 a c λ_ _ h=>ar (gr h) λh=>ar (bv .rem e h) λe=>kc b 7 0 a c λ_ _ h=>ar (gd 6 h e) λh=>ar (rf h) λi=>td a c 6 i 10 d g λc d i=>a2 a 11 [c] d i (λc d i=>ar (gr c) λj=>Nj j λj=>bt (λb c d=>fs b 11 3 λe h=>ar (ya 2 1 h (.Z 1)) λh=>ar (aU a c h) λh=>ar (ms .i64 h) λh=>cH (b 11) λi=>ar (gr i) λi=>ar (bv .rem h i) λh=>ar (gd 1 e h) λe=>ar (aU a c e) λe=>ar (iK [.str []] d) λh=>qw a c d h.1 h.2 1 e λc d e=>yN d 14 b 10 2 a e 3 λd h i=>kc b 10 4 a e λ_ _ j=>ar (fv [.aY, .aY, .aY] [(0,1,h),(1,1,i),(2,1,j)]) λh=>bt (λb c d=>kc b 10 5 a c λ_ _ e=>iT e (λb c d=>w9 b 5 a 8 c d g λc d e=>ar (qK false 0 1 c) λc=>Nj c λc=>w9 b 7 a 8 d e g λb d e=>ar (qK false 0 1 b) λb=>Nj b λb=>ar (db a d .eql 4 false c b) λb=>lx b (λb=>a2 a 7 [] d e b g) d e λa c d=>c9 (λa=>f a c d) λc=>a1 b (c a) (c .zF)) λe f=>fy (λb c d e=>hK c 137 136 λh=>bt (λc d e=>bt (λa c d=>gR a 137 λe=>b (aa a 137 e) c d) λb=>fs c 137 10 λf h=>gU h 5 a d λ_ h=>ar (gd 4 h f) λh=>e4 3 h a d λ_ h=>cH (c 12) λi=>a2 a 16 [h, .func (.func 17) [] [i]] d e (λ_ a d=>b (aa c 16 f) a d) g) λa=>a1 h (a (aa c 138 h) d e) (f (aa c 138 h) d e)) (zH b 136 e 137 (.Z 0)) c d) λf=>fy (λb c d e=>GJ c 105 3 λg=>bt (λc d e=>bt (λa c d=>gR a 105 λe=>b (aa a 105 e) c d) λb=>fs c 104 105 λf g=>ar (rQ false 3 1 f g) λf=>GP f b λb g=>fy (λb c d e=>hK c 110 109 λf=>bt (λc d e=>bt (λa c d=>gR a 110 λe=>b (aa a 110 e) c d) λb=>cH (c 110) λf=>e7 (e+7) λe=>cH (c 14) λg=>ar (gd 8 g f) λg=>e4 5 g a d λ_ g=>kt c 12 a d λh=>BB a d 9 g h b λb g=>a1 b (fs c 14 14 λh i=>ar (gd 8 i f) λi=>e4 7 i a d λ_ i=>ar (gi .not i) λi=>ar (gd 8 h f) λh=>sb 7 h a d i λa=>g (zH c 15 f 119 b) a e) (g (zH c 15 f 119 b) d e)) λa=>a1 f (a (aa c 111 f) d e) (g (aa c 111 f) d e)) (zI c 14 f 109 b 110 (.Z 0)) d e) λa=>a1 g (a (aa c 106 g) d e) (f (aa c 106 g) d e)) (zI b 12 c 104 h 105 (.Z 0)) e d) λa=>a1 j (f .zF d i) (a (zJ b 9 e 10 h 11 c 82 j) d i)) g) λa=>a1 c (f .zF e h) (a (aa b 59 c) e h)) λa=>a1 c (a .zT) (a d)) λa=>a1 e (a .zT) (a c)) λn=>a1 l (nc a m i λb=>nc a m k λc=>ar (db a m .eql 26 false b c) λb=>lx b (λb=>a2 a 7 [] m o b g) m o λa c d=>c9 (λa=>f a c d) λc=>a1 b (c a) (c .zF)) (n (zJ (zJ (cR [b,c]) 3 d 4 .zF 0 e 6 i) 5 h 8 k 7 j 39 l) m o)) λa=>a1 n (a .zT) (a l)) g
def ana:c7 X 4 [a0,bf]=aaL X a0 bf:=Zk
def am9:cV X 4 2=true:=Zk
def aat:Za1:=λa b c d e f _=>e7 (e+13) λe=>gU b 2 a d λ_ g=>ar (aU a d c) λh=>ar (db a d .eql 9 false g h) λg=>ax8 g b d λd h=>kX g (rf d) h λd h=>GL g 0 d h a λd h=>kX g (bv .eql d (.Z 6)) h λd h=>c9 (λd=>bt (λb c d=>e7 (d+13) λd=>kc b 0 2 a c λ_ _ e=>kt b 1 a c λg=>ar (db a c .eql 9 false e g) λe=>DF e b 0 c 0 a λc g=>kX e (bv .eql c (.Z 24)) g λc g=>c9 (λc=>bt (λ_ a b=>f .zT a b) λe=>a1 c (yN d 24 b 0 8 a g 8 λd f h=>kc b 0 8 a g λ_ _ i=>ar (gd 1 i (.Z 1)) λi=>ar (aU a g i) λi=>kc b 0 8 a g λ_ _ j=>yM 1 j λj=>ar (aU a g j) λj=>yM 1 f λf=>oR a g f i λf=>ar (gd 1 h (.Z 1)) λg=>oR a f g j λa=>e (aa b 37 c) a d) (e (aa b 37 c) g d)) λa=>a1 e (a c) (a .zF)) λf=>a1 d (gU b 3 a h λ_ g=>ar (gi .not g) λg=>rg b 3 a h g λa=>f (zH (cR [b,c]) 3 .zF 16 d) a e) (f (zH (cR [b,c]) 3 .zF 16 d) h e)) λa=>a1 g (a d) (a .zF)
def amm:c7 X 17 [a0,bf]=aat X a0 bf:=Zk
def aml:cV X 17 2=true:=Zk
end
noncomputable section
section
variable{X:ca}{h R aQ aP:S ag}{j an aV aX:Nat}{P:Nat->Prop}
def Gl(hS:aR):bp->bp
 | .mk u F nm no ty n args=> .mk u F nm (if some hS=some nm/\u=6 then !no else no) ty n (if some hS=some nm/\u=24 then li args else args)
def Q8(hS:aR)(u F:Int)(nm:aR)(no:Bool)(ty:d3)(n:Int)(args:List bp):Gl hS (.mk u F nm no ty n args)= .mk u F nm (if some hS=some nm/\u=6 then !no else no) ty n (if some hS=some nm/\u=24 then li args else args):=rfl
def aEh(hS:aR)(D:bp):hV (some hS) D=acn (Gl hS D) ((Gl hS D).args.map (hV (some hS))):=by
 cases D with
 |mk u F nm no ty n args=>
  rw[hV,Dz]
  show _=bp.mk u F nm _ ty n ((if some hS=some nm/\u=24 then li args else args).map (hV (some hS)))
  by_cases a:some hS=some nm/\u=24
  ·rw[Zp a,Zp a,Xt]
  ·rw[Zg a,Zg a]
def aEi(hS:aR)(D F:bp)(a:F∈(Gl hS D).args):SizeOf.sizeOf F<SizeOf.sizeOf D:=by
 refine QV ?_
 cases D with
 |mk u fB nm no ty n args=>
  have a:F∈(if some hS=some nm/\u=24 then li args else args):=a
  show F∈args
  split at a
  ·exact ajC.1 a
  ·exact a
def aEj{bu:gI}(hS:aR)(D:bp)(a:eG bu D):∀F∈(Gl hS D).args,eG bu F:=by
 cases D with
 |mk u fB nm no ty n args=>
  intro F aE
  have aE:F∈(if some hS=some nm/\u=24 then li args else args):=aE
  rw[eG]at a
  refine XQ a.2 ?_
  split at aE
  ·exact ajC.1 aE
  ·exact aE
set_option maxRecDepth 100000 in
def aEo(aw:dk X){r7:Nat}{hS:aR}(aA:aU X h (.ptr r7 0)=some (.str hS))(sM:¬P r7)(T7:∀e,P e->(o X).a8<=e){D:bp}{v:E}(bb:D.kind=24->D.args.length=2)(bA:cn X h P D v):
 a2 X 17 [v, .ptr r7 0] h j (λac R an=>ac= .zT/\j<=an/\cn X R P (Gl hS D) v/\∀e,¬P e->W X R e=W X h e) zL:=by
 refine zG aw (aml X) ?_
 rw[amm]
 unfold aat
 obtain⟨u,F,nm,no,ty,n,args⟩:=D
 have auM:∀(R:S ag),(∀e,¬P e->W X R e=W X h e)->aU X R (.ptr r7 0)=some (.str hS):=λR aH=>zK (aH r7 sM) aA
 obtain⟨hu,aO,ce,bk,rfl,mY,dx,c5,dC,ge,_⟩:=id bA.open
 replace dx:aU X h (.ptr hu 0)=some (.Z u):=dx
 replace dC:aU X h (.ptr hu 2)=some (.str nm):=dC
 replace ge:aU X h (.ptr hu 3)=some (.bool no):=ge
 by_cases aF:nm=hS
 ·subst aF
  have d:decide (nm=nm)=true:=by simp
  by_cases dc:u=6
  ·subst dc
   obtain⟨dD,pP,_,⟨aQ,c8,pc,jx⟩,_⟩:=ar6 bA T7 nm (!no)
   cases pP
   have afI:∀e,¬P e->W X aQ e=W X h e:=λe z=>jx e (λD=>z (D▸mY))
   obtain⟨_,_,_,_,pP,_,hM,_,cM,_⟩:=id pc.open
   cases pP
   replace hM:aU X aQ (.ptr hu 0)=some (.Z 6):=hM
   replace cM:aU X aQ (.ptr hu 2)=some (.str nm):=cM
   have sE:=auM aQ afI
   have cE:decide ((6:Int)=24)=false:=rfl
   refine eh @dx @dC @ge @aA @d @c8 (Za @hM (Za @cM (Za @sE @cE))) ⟨?_⟩
   refine⟨rfl,Zo, ?_,afI⟩
   rw[Q8]
   rw[Zp (show some nm=some nm/\(6:Int)=6 from⟨rfl,rfl⟩),Zg (show ¬(some nm=some nm/\(6:Int)=24) from by simp)];exact pc
  ·by_cases mH:u=24
   ·subst mH
    have bb:args.length=2:=bb rfl
    obtain⟨x,e,rfl⟩:∃x e,args=[x,e]:=by
     match args,bb with
     |[x,e],_=>exact⟨x,e,rfl⟩
    obtain⟨dD,lh,aqd,yD,yE,pP,_,Cr,el,i0,hg,ft,en,aQ,i2,aP,jF,wk,hD⟩:=ar7 bA
    cases pP
    have avC:∀e,¬P e->W X aP e=W X h e:=λe z=>hD e (λD=>z (D▸Cr))
    have cE:decide ((24:Int)=6)=false:=rfl
    refine eh @dx @dC @ge @aA @d @el (Za @i0 (Za @hg (Za @ft (Za @en (Za @i2 (Za @jF @cE)))))) ⟨?_⟩
    refine⟨rfl,Zo, ?_,avC⟩
    rw[Q8]
    rw[Zg (show ¬(some nm=some nm/\(24:Int)=6) from by simp),Zp (show some nm=some nm/\(24:Int)=24 from⟨rfl,rfl⟩)];exact wk
   ·have ht:decide (u=6)=false:=by simp[dc]
    have xt:decide (u=24)=false:=by simp[mH]
    refine eh @dx @dC @ge @aA @d @ht @xt ⟨?_⟩
    refine⟨rfl,Zo, ?_,λ_ _=>rfl⟩
    rw[Q8]
    rw[Zg (λa=>dc a.2),Zg (λa=>mH a.2)];exact bA
 ·have d:decide (nm=hS)=false:=by simp[aF]
  refine f3 @dx @dC @ge @aA @d ⟨?_⟩
  refine⟨rfl,Zo, ?_,λ_ _=>rfl⟩
  rw[Q8]
  rw[Zg (λa=>aF (Yf a.1).symm),Zg (λa=>aF (Yf a.1).symm)];exact bA
def aER(aw:dk X){r7:Nat}{hS:aR}(aA:aU X h (.ptr r7 0)=some (.str hS))(axe:r7<j)(sM:¬P r7)(bs:∀e,P e->(o X).a8<=e/\e<j){bu:gI}{D:bp}{v:E}(bb:eG bu D)(bA:cn X h P D v):
 a2 X 16 [v, .func (.func 17) [] [.ptr r7 0]] h j (λac R an=>ac= .tuple []/\j<=an/\cn X R P (hV (some hS) D) v/\∀e,e<j->¬P e->W X R e=W X h e) zL:=
 aES aw (u:=17) (ox:=[]) (ha:=[.ptr r7 0]) (st:=Gl hS) (bu:=hV (some hS)) (fm:=P) (dB:=λh n=>r7<n/\aU X h (.ptr r7 0)=some (.str hS)) (GW:=eG bu) (aEh hS) (aEi hS) (λD a=>aEj hS D a)
  (λh n R aS bF gl aH=>⟨zz bF.1,zK (aH r7 bF.1 sM) bF.2⟩)
  (λD v h j a7 eP bF bi bA=>(aEo (j:=j) aw bF.2 (λa=>sM (eP r7 a).1) (λe z=>(bs e (eP e z).1).1) (λa=>by rw[eG.eq]at bi;exact bi.1.sp 2 (by rw[a];rfl)) bA).mono (λac R aS a=>⟨a.1,a.2.1,a.2.2.1,λe _ aF=>a.2.2.2 e aF⟩) (λ_ _ _ a=>a))
  _ D (Yn _) P v h j (λe z=>⟨z,(bs e z).2⟩) ⟨axe,aA⟩ bb bA
end
section
variable{X:ca}{h R fi aQ aP:S ag}{j an aV aX:Nat}
def azI{C:aN}{h:S ag}(x e:Int):ts C h .min [3,3] [.int .i64 x, .int .i64 e]=some (.int .i64 (min x e)):=by
 show pJ false (.int .i64 x) [.int .i64 e]=_
 simp only[pJ,fw,vf]
 congr 2
 simp only[Zh]
 split<;>simp_all<;>omega
def azd:∀{k:List Go.aL.Node}{u F:Int},pm k=some (u,F)->u=30\/u=22:=by
 intro k
 induction k with
 |nil=>intro u F a;cases a
 |cons g k ah=>
  intro u F a
  unfold pm at a
  split at a
  ·cases a;exact .inl rfl
  ·split at a
   ·cases a;exact .inr rfl
   ·exact ah a
def aBl{s:aR}(aC:s.length<=5000){u F:Int}(a:Dl s= .error (u,F)):u≠0:=by
 have H:=aiD aC
 rw[a]at H
 unfold Dm at H
 split at H
 ·cases H
 ·cases H;decide
 ·split at H
  ·cases H
  ·cases H;decide
  ·split at H
   ·rename_i az
    cases H
    unfold n2 at az
    split at az
    ·cases az;decide
    ·rcases azd az with rfl|rfl<;>decide
   ·cases H
end
section
variable{X:ca}{h R aQ aP:S ag}{j an aV aX:Nat}{P:Nat->Prop}
def arG(F b c d:Int):jg X h 50 26 (.agg [.Z F, .Z b]) (.agg [.Z c, .Z d])=(match some (uc F c)with|some true=>(match some (uc b d)with|some true=>some true|some false=>some false|none=>none)|some false=>some false|none=>none):=Zk
def arF(F b:Int):db X h .eql 26 false (.agg [.Z F, .Z b]) (.agg [.Z F, .Z b])=some .zT:=by
 have a:db X h .eql 26 false (.agg [.Z F, .Z b]) (.agg [.Z F, .Z b])=(match jg X h 50 26 (.agg [.Z F, .Z b]) (.agg [.Z F, .Z b])with|some b=>nR b|none=>none):=Zk
 rw[a,arG,A0,A0]
 simp
def ag0{F b:Nat}(aE:F<1000000)(aj:0<b)(kC:b<1000000):bv .rem (.Z (F:Int)) (.Z (b:Int))=some (.Z ((F%b:Nat):Int)):=by
 have H:uc (b:Int) 0=false:=by rw[A0];simp;omega
 have M:=zn F aj
 have al:(F:Int).tmod (b:Int)=((F%b:Nat):Int):=by rw[Int.tmod_eq_emod_of_nonneg Zo];omega
 simp[bv,l4,mc,mJ,fw,H,al,p9]
 omega
def arX(b:Nat):db X h .eql 23 true (.ptr b 0) .cN=some .zF:=Zk
def arE(F b:Bool):db X h .eql 4 false (.bool F) (.bool b)=some (.bool (decide (F=b))):=by
 cases F<;>cases b
 ·exact ap6
 ·exact acG
 ·exact ap7
 ·exact ap8
def vs{α:Type}(F b c:α):Nat->α
 |0=>F
 |1=>b
 |_=>c
def az1{bu:gI}{g:Go.aL.Node}(a:kv bu g){w:aR}(bb:w∈iQ g):w≠[]:=by
 have key:∀(k:List (Int×eb)) (s:(aR->Option c0)×List aR),(∀x∈k,x.2.name≠[])->(∀w∈s.2,w≠[])->∀w∈(k.foldl hH s).2,w≠[]:=by
  intro k
  induction k with
  |nil=>intro s _ a;exact a
  |cons x k ah=>
   intro s az aC
   rw[ZH]
   refine ah _ (λe z=>az e (Zt _ z)) λw bb=> ?_
   unfold hH at bb
   split at bb
   ·exact aC w bb
   ·rcases Zz.1 bb with bb|bb
    ·exact aC w bb
    ·simp at bb;subst bb;exact az x (Zv ..)
 refine key _ _ (λx af=> ?_) Zs w bb
 rcases adq af with ⟨_,H⟩|⟨_,H⟩|⟨_,H⟩
 ·exact bu.a8 _ (a.d8 _ H).name
 ·exact bu.a8 _ (a.out _ H).name
 ·exact bu.a8 _ (a.loc _ H).name
def az3{g:Go.aL.Node}(a:g.out≠[]):iQ g≠[]:=by
 have key:∀(k:List (Int×eb)) (s:(aR->Option c0)×List aR),((∃w,s.1 w≠none)->s.2≠[])->(k≠[]\/s.2≠[])->(k.foldl hH s).2≠[]:=by
  intro k
  induction k with
  |nil=>intro s _ a;exact a.resolve_left (λa=>a rfl)
  |cons x k ah=>
   intro s aC _
   rw[ZH]
   have dn:(hH s x).2≠[]:=by
    unfold hH
    by_cases bM:(s.1 x.2.name).isSome=true
    ·rw[Zp bM];exact aC ⟨x.2.name,λD=>by rw[D]at bM;cases bM⟩
    ·rw[Zg bM];simp
   exact ah _ (λ_=>dn) (.inr dn)
 refine key _ _ (λ⟨w,bb⟩=>absurd rfl bb) (.inl ?_)
 obtain⟨d,k,aJ⟩:∃d k,g.out=d::k:=by
  cases bi:g.out with
  |nil=>exact absurd bi a
  |cons d k=>exact⟨d,k,rfl⟩
 unfold fS
 rw[aJ];simp
def azZ(g:Go.aL.Node):(iQ g).length<=(fS g).length:=by
 have key:∀(k:List (Int×eb)) (s:(aR->Option c0)×List aR),(k.foldl hH s).2.length<=s.2.length+k.length:=by
  intro k
  induction k with
  |nil=>intro s;exact Zj _
  |cons x k ah=>
   intro s
   rw[ZH]
   have:=ah (hH s x)
   have H:(hH s x).2.length<=s.2.length+1:=by
    unfold hH;split<;>simp
   rw[ZF];omega
 have:=key (fS g) (λ_=>none,[])
 rw[Z0,ZT]at this
 exact this
def aEm{am:List Go.aL.Node}{nm:aR}(g1:nm≠[]):∀{u:Nat}{g:Go.aL.Node},am[u]? =some g->ix am (am.set u (gB (some nm) g)):=by
 have same:∀k:List Go.aL.Node,ix k k:=by
  intro k
  induction k with
  |nil=>trivial
  |cons F k ah=>exact⟨⟨none,Zs,(ajU F).symm⟩,ah⟩
 induction am with
 |nil=>intro u g a;simp at a
 |cons F k ah=>
  intro u g a
  cases u with
  |zero=>simp at a;subst a;exact⟨⟨some nm,by simpa using g1,rfl⟩,same k⟩
  |succ u=>simp at a;exact⟨⟨none,Zs,(ajU F).symm⟩,ah a⟩
set_option maxRecDepth 100000 in
def ayP(aw:jd X)(dZ:JQ X)(gp:xd X)(aeR:sf X)(aeS:xe X)(ez:DO X)(PP:(o X).hz 7 []=some .zT){a0 bf:E}{qm s:aR}{bq jX:Nat}(VB:bq<256)(nt:jX<256)(aF:(o X).a8<=j)(az:gr a0=some (.Z (qm.length:Int)))(aC:s.length<=5000)(aj:∀c∈s,c<256)
 (hP:∀R,uv X R 1 a0 none (some (.Z (min (qm.length:Int) 5000))) none=some bf)(n0:gr bf=some (.Z (s.length:Int)))(AB:∀R aS,br X h j R aS->B5 X R bf=some (.str s)):
 a2 X 4 [a0, .agg [.int .u8 (bq:Int), .int .u8 (jX:Int)]] h j (λac R an=>ac= .zT/\br X h j R an) zL:=by
 refine zG aw.todk (am9 X) ?_
 rw[ana]
 unfold aaL
 refine er @az @azI @hP ⟨?_⟩
 generalize dl:Go.bg.bm X h j _=aQ
 have atH:W X aQ j=zD [.int .u8 (bq:Int), .int .u8 (jX:Int)] 2:=by rw[<-dl,bh aF];rfl
 have bL:br X h j aQ (j+1):=by rw[<-dl];exact dH
 clear dl
 refine(WK (j:=j+1) aw dZ gp aC aj Zo n0 (λR aS a=>AB R aS (bL.trans a))).Zm ?_
 rintro ac aP aX ⟨tZ,bI⟩
 have fN:=bI.le
 cases xZ:Dl s with
 |error lV=>
  rw[xZ]at tZ
  obtain⟨u,F⟩:=lV
  have AI:=aBl aC xZ
  have bc:ac= .tuple [.cN, .agg [.Z u, .Z F]]:=tZ
  subst bc
  have bE:decide (u≠0)=true:=by simp[AI]
  refine cL ⟨?_⟩
  generalize eQ:Go.bg.bm X _ aX _=a6
  have cI:∃c,W X a6 aX=some (.cells c 2 .own)/\c.get 0=some (.Z u)/\c.get 1=some (.Z F):=⟨_,by rw[<-eQ,bh Zo];rfl,by exact nI _ _ _,by exact nJ _ _ _⟩
  have cp:br X h j a6 (aX+1):=⟨Zo,λe z=>by rw[<-bL.ab e z, <-bI.ab e Zo, <-eQ];exact zF⟩
  clear eQ
  obtain⟨ge,cI,NL,acK⟩:=cI
  refine(WK (j:=aX+1) aw dZ gp aC aj Zo n0 (λR aS a=>AB R aS (cp.trans a))).Zm ?_
  rintro ac bH cC ⟨tZ,cW⟩
  have iu:=cW.le
  rw[xZ]at tZ
  have bc:ac= .tuple [.cN, .agg [.Z u, .Z F]]:=tZ
  subst bc
  rw[<-cW.ab _ Zo]at cI
  refine cL ⟨?_⟩
  generalize hZ:Go.bg.bm X _ cC _=bN
  have fg:∃c,W X bN cC=some (.cells c 2 .own)/\c.get 0=some (.Z u)/\c.get 1=some (.Z F):=⟨_,by rw[<-hZ,bh Zo];rfl,by exact nI _ _ _,by exact nJ _ _ _⟩
  have dN:∀e,e<cC->W X bN e=W X bH e:=λe z=>by rw[<-hZ];exact zF
  clear hZ
  obtain⟨ke,fg,Sp,acL⟩:=fg
  rw[<-dN _ Zo]at cI
  have eW:dE X bN 2 (.ptr aX 0)=some (.agg [.Z u, .Z F]):=by rw[jp,bG cI,bG cI,NL,acK];rfl
  have gM:dE X bN 2 (.ptr cC 0)=some (.agg [.Z u, .Z F]):=by rw[jp,bG fg,bG fg,Sp,acL];rfl
  refine ic (bG cI) @NL @bE @eW @gM @arF ⟨?_⟩
  refine Kg PP ?_
  refine cL ⟨?_⟩
  exact⟨rfl,Zo,λe z=>by rw[dN e Zo,cW.ab e Zo];exact cp.ab e z⟩
 |ok am=>
  rw[xZ]at tZ
  obtain⟨v,rfl,Io⟩:=tZ
  obtain⟨x5,dn,p0⟩:=aBm xZ
  obtain⟨aF6,lR⟩:=Mj p0
  obtain⟨b,rfl⟩:∃b,v= .ptr b 0:=by obtain⟨b,_,_,_,a,_⟩:=Io.prog;exact⟨b,a⟩
  have bE:decide ((0:Int)≠0)=false:=rfl
  refine cL ⟨?_⟩
  generalize eQ:Go.bg.bm X _ aX _=a6
  have cI:∃c,W X a6 aX=some (.cells c 2 .own)/\c.get 0=some (.Z 0)/\c.get 1=some (.Z 0):=⟨_,by rw[<-eQ,bh Zo];rfl,by exact nI _ _ _,by exact nJ _ _ _⟩
  have cX:∀e,e<aX->W X a6 e=W X aP e:=λe z=>by rw[<-eQ];exact zF
  have cp:br X h j a6 (aX+1):=⟨Zo,λe z=>by rw[cX e Zo,bI.ab e Zo];exact bL.ab e z⟩
  clear eQ
  obtain⟨ge,cI,NL,acK⟩:=cI
  refine(WK (j:=aX+1) aw dZ gp aC aj Zo n0 (λR aS a=>AB R aS (cp.trans a))).Zm ?_
  rintro ac bH cC ⟨tZ,cW⟩
  have iu:=cW.le
  rw[xZ]at tZ
  obtain⟨v,rfl,Vk⟩:=tZ
  rw[<-cW.ab _ Zo]at cI
  obtain⟨ai,ak,aO,ce,be,rfl,Pv,pr,cG,kU⟩:=id Vk
  refine cL ⟨?_⟩
  generalize hZ:Go.bg.bm X _ cC _=bN
  have fg:∃c,W X bN cC=some (.cells c 2 .own)/\c.get 0=some (.Z 0)/\c.get 1=some (.Z 0):=⟨_,by rw[<-hZ,bh Zo];rfl,by exact nI _ _ _,by exact nJ _ _ _⟩
  have dN:∀e,e<cC->W X bN e=W X bH e:=λe z=>by rw[<-hZ];exact zF
  clear hZ
  obtain⟨ke,fg,Sp,acL⟩:=fg
  rw[<-dN _ Zo]at cI
  have ahw:∀e,dU (aX+1) cC e->W X bN e=W X bH e:=λe z=>dN e z.2
  have aBP:aU X bN (.ptr ak 0)=some aO:=zK (dN ak Pv.1.2) pr
  have agt:=cG.ab (R:=bN) λe z=>ahw e z.1
  have awe:=kU.ab (R:=bN) (λe z=>ahw e z.1) (λ_ a=>a)
  have km:=kU.wide
  have d2:=cG.rd.len
  have h1:=cG.rd.many
  rw[km.1]at d2 h1
  have EN:0<am.length:=ZU.2 dn
  have aFm:decide ((am.length:Int)=0)=false:=zO
  have aev:W X bN j=zD [.int .u8 (bq:Int), .int .u8 (jX:Int)] 2:=by rw[dN j Zo,cW.ab j Zo,cX j Zo,bI.ab j Zo];exact atH
  have pP:aU X bN (.ptr j 0)=some (.int .u8 (bq:Int)):=by rw[bG aev];rfl
  have bC:aU X bN (.ptr j 1)=some (.int .u8 (jX:Int)):=by rw[bG aev];rfl
  have aqT:ms .i64 (.int .u8 (bq:Int))=some (.Z (bq:Int)):=NS Zo Zo
  have aqU:ms .i64 (.int .u8 (jX:Int))=some (.Z (jX:Int)):=NS Zo Zo
  have AI:=zn bq EN
  have aje:=ag0 (F:=bq) Zo EN Zo
  generalize bq%am.length=u at AI aje
  obtain⟨g,bV⟩:∃g,am[u]? =some g:=⟨_,Ze AI⟩
  have qS:=Zl bV
  have dA:=agt.rd.fx u (by rw[km.1];exact AI)
  obtain⟨row,a7,It,eP,jR,x0⟩:=awe.lens u g bV
  have avI:=agt.rd.row Zd It
  have axH:ya 2 1 (.ptr j 0) (.Z 0)=some (.ptr j 0):=Zk
  have axI:ya 2 1 (.ptr j 0) (.Z 1)=some (.ptr j 1):=Zk
  refine eh (bG cI) (bG fg) @NL @Sp @bE @arX (Za @aBP (Za @d2 (Za @aFm (Za @axH (Za @pP (Za @aqT (Za @aje (Za @dA @avI)))))))) ⟨?_⟩
  have xM:∀e,a7 e->aX+1<=e/\e<cC:=λe z=>(eP e z).1
  have qW:(fS g).length<=256:=by
   have:=(lR g qS).vars
   unfold fS;simp only[ZL,Zi];omega
  have U3:=az3 (x5 g qS).some
  have aGC:=azZ g
  have AP:0<(iQ g).length:=ZU.2 U3
  refine(Qq (j:=cC+1+10) (P:=a7) aw.todk Zo (λe z=>zz (xM e z)) jR.row Zo).Zm ?_
  rintro ac b6 dr ⟨cr,lB,uw,aFw,rfl,lv,_,_,_,E6,awa,ec⟩
  have oB:=ec.le
  refine cL ⟨?_⟩
  refine(azY (j:=dr) (P:=dU (cC+1+10) dr) aw.todk Zo E6 awa Zo (λe z=>z.2)).Zm ?_
  rintro ac cy dX ⟨⟨vN,LH⟩,eC⟩
  have nr:=eC.le
  have UT:=LH.len
  rw[show(f8 (iQ g)).length=(iQ g).length from by simp[f8]]at UT
  have aFn:decide (((iQ g).length:Int)=0)=false:=zO
  have jx:=zn jX AP
  have ajf:=ag0 (F:=jX) Zo AP Zo
  generalize jX%(iQ g).length=V at jx ajf
  obtain⟨nm,g1⟩:∃nm,(iQ g)[V]? =some nm:=⟨_,Ze jx⟩
  have af5:=LH.fx V (by simp[f8];omega)
  have af4:=LH.cell V [.str nm] 0 (.str nm) (by unfold f8;rw[Zy,g1];rfl) rfl
  rw[Z4]at af5
  rw[Z4,ZX]at af4
  have f0:∀e,e<cC->W X cy e=W X bH e:=λe z=>by rw[eC.ab e Zo,ec.ab e Zo,dN e z]
  have arn:aU X cy (.ptr j 1)=some (.int .u8 (jX:Int)):=by rw[cw,eC.ab j Zo,ec.ab j Zo, <-cw];exact bC
  refine KH @UT @aFn ⟨?_⟩
  refine g3 ?_
  refine vO ?_
  refine hl @axI @arn (Za @aqU (Za @UT (Za @ajf (Za @af5 @af4)))) ⟨?_⟩
  generalize mA:Go.bg.bm X (Go.bg.bm X cy dX _) dX _=dt
  have ae8:aU X dt (.ptr dX 0)=some (.str nm):=by rw[<-mA,bG (bh Zo),kb];rfl
  have ayh:∀e,e≠dX->W X dt e=W X cy e:=λe z=>by rw[<-mA,aI Zo z,aI Zo z]
  clear mA
  have gG:∀e,e<cC->W X dt e=W X bH e:=λe z=>by rw[ayh e Zo,f0 e z]
  have awc:=jR.ab (R:=dt) (a7:=a7) (λe z=>by rw[gG e (xM e z).2,dN e (xM e z).2]) (λ_ a=>a)
  have u9:=cG.ab (R:=dt) λe z=>gG e z.1.2
  obtain⟨mQ,cQ,c4,r3,eo,bQ,cl,cU,fe,MK,rfl,l9,kS,np,kk,Py⟩:=awc
  have azq:aU X dt (.ptr ce (u*6+2))=some cQ:=u9.rd.cell u _ 2 _ It rfl
  have azr:aU X dt (.ptr ce (u*6+3))=some c4:=u9.rd.cell u _ 3 _ It rfl
  have azs:aU X dt (.ptr ce (u*6+4))=some r3:=u9.rd.cell u _ 4 _ It rfl
  have eR:fv [.aY, .aY, .aY] [(0,1,cQ),(1,1,c4),(2,1,r3)]=some (.agg [cQ,c4,r3]):=by
   simp[fv,tB,tC,nE,(jS l9.rd.len).1,(jS kS.rd.len).1,(jS np.rd.len).1]
  refine hl @azq @azr @azs ⟨?_⟩
  refine gm eR ?_
  have av9:nm≠[]:=by
   have:=(x5 g qS)
   exact az1 this (Zl g1)
  have Ih:¬a7 dX:=λa=>zz (xM dX a)
  refine ko (λI R aS=>I.g 5=some (.ptr b 0)/\I.g 7=some (.ptr ak 0)/\I.g 10=some (.ptr ce (u*6))/\I.g 12=some (.ptr dX 0)/\dX<aS/\(∀i,i<3->iI X R (λe=>a7 e/\mQ e=i+1) (vs bQ cl cU i) (vs cQ c4 r3 i) 8 (((hA g i).map (i6 (some nm))).map dK))/\∀e,¬(a7 e/\mQ e≠4/\mQ e≠0)->W X R e=W X dt e) (λaG8 avB=> ?_) ?_
  ·refine fE (λm I R aS=>∃(c:Nat),I.g 5=some (.ptr b 0)/\I.g 7=some (.ptr ak 0)/\I.g 10=some (.ptr ce (u*6))/\I.g 12=some (.ptr dX 0)/\I.g 104=some (.agg [cQ,c4,r3])/\I.g 105=some (.Z (c:Int))/\c+m=3/\dX<aS/\(∀i,i<3->iI X R (λe=>a7 e/\mQ e=i+1) (vs bQ cl cU i) (vs cQ c4 r3 i) 8 ((if i<c then(hA g i).map (i6 (some nm))else hA g i).map dK))/\∀e,¬(a7 e/\mQ e≠4/\mQ e≠0)->W X R e=W X dt e)
    3 ⟨0,bo,bo,bo,bo,bo,fY,Zo,Zo,λi aG=> ?_,λ_ _=>rfl⟩ ?_
   ·rw[Zg Zo]
    match i,aG with
    |0,_=>exact l9
    |1,_=>exact kS
    |2,_=>exact np
   rintro m I d6 hG ⟨c,t5,e9,js,k1,Gg,Du,aA,UY,AD,g4⟩
   cases m with
   |zero=>
    have d:decide ((c:Int)<3)=false:=zO
    refine cS @Du @d ⟨?_⟩
    exact avB _ _ _ ⟨aW t5,aW e9,aW js,aW k1,UY,λi aG=>by have:=AD i aG;rw[Zp Zo]at this;exact this,g4⟩
   |succ m=>
    have d:decide ((c:Int)<3)=true:=zP
    have Lg:=AD c Zo
    rw[Zg (Nat.lt_irrefl c)]at Lg
    have O9:rQ false 3 1 (.agg [cQ,c4,r3]) (.Z (c:Int))=some (vs cQ c4 r3 c):=by
     have al:Nat.blt c 3=true:=by simp[Nat.blt];omega
     simp only[rQ,rT,al,fo,lo,qi,Z4]
     match c,(show c<3 by omega)with
     |0,_=>rfl
     |1,_=>rfl
     |2,_=>rfl
    have afZ:=Lg.rd.len
    have av1:=Lg.rd.many
    rw[Zi]at afZ av1
    refine f3 @Gg @Du @d @O9 @afZ ⟨?_⟩
    refine fE (λm I R aS=>∃(i:Nat),I.g 5=some (.ptr b 0)/\I.g 7=some (.ptr ak 0)/\I.g 10=some (.ptr ce (u*6))/\I.g 12=some (.ptr dX 0)/\I.g 104=some (.agg [cQ,c4,r3])/\I.g 105=some (.Z (c:Int))/\I.g 14=some (vs cQ c4 r3 c)/\I.g 109=some (.Z ((hA g c).length:Int))/\I.g 110=some (.Z (i:Int))/\i+m=(hA g c).length/\hG<=aS/\iI X R (λe=>a7 e/\mQ e=c+1) (vs bQ cl cU c) (vs cQ c4 r3 c) 8 ((((hA g c).take i).map (i6 (some nm))++(hA g c).drop i).map dK)/\∀e,¬(a7 e/\mQ e=c+1)->W X R e=W X d6 e)
     (hA g c).length ⟨0,aW t5,aW e9,aW js,aW k1,aW Gg,aW Du,bo,bo,fY,Zo,Zj _,by simpa using Lg,λ_ _=>rfl⟩ ?_
    clear t5 e9 js k1 Gg Du d Lg
    rintro gg I jZ vl ⟨i,t5,e9,js,k1,Gg,Du,mO,MU,Xu,aG,av5,EG,rF⟩
    cases gg with
    |zero=>
     have d:=zA i (hA g c).length
     have bC:=zE c
     rw[ZA Zo,ZC Zo,Yh]at EG
     refine f3 @Xu @MU @Du @d @bC ⟨?_⟩
     refine⟨m,Zo,c+1,aW t5,aW e9,aW js,aW k1,aW Gg,bo,Zo,Zo,λcJ k8=> ?_,λe z=> ?_⟩
     ·by_cases afz:cJ=c
      ·subst afz
       rw[Zp Zo];exact EG
      ·have:=(AD cJ k8).ab (R:=jZ) λe z=>rF e (λa=>afz (by have:=a.2;have:=z.2;omega))
       by_cases c3:cJ<c
       ·rw[Zp c3]at this;rw[Zp Zo];exact this
       ·rw[Zg c3]at this;rw[Zg Zo];exact this
     ·rw[rF e (λa=>z ⟨a.1,zz a.2,zz a.2⟩)];exact g4 e z
    |succ gg=>
     have d:=zB i (hA g c).length
     have bC:=zE i
     obtain⟨aD,aJ⟩:=zC (hA g c) i
     have u6:(((hA g c).take i).map (i6 (some nm))).length=i:=by rw[Zi,Yz];omega
     have rM:(((((hA g c).take i).map (i6 (some nm))++(hA g c).drop i).map dK))[i]? =some (dK aD):=by
      rw[Zy,ZM Zo,u6,zx,Yi]
      rw[show i+0=i from rfl,aJ];rfl
     have afD:=EG.rd.fx i (Zb.1 rM).1
     have ls:=EG.rd.cell i (dK aD) 5 (.str aD.on) rM rfl
     have jQ:=EG.rd.cell i (dK aD) 7 (.bool aD.no) rM rfl
     have OW:aU X jZ (.ptr dX 0)=some (.str nm):=by rw[cw,rF dX (λa=>Ih a.1),g4 dX (λa=>Ih a.1), <-cw];exact ae8
     have bm:((((hA g c).take i).map (i6 (some nm))++(hA g c).drop i).map dK).set i (dK (i6 (some nm) aD))=(((hA g c).take (i+1)).map (i6 (some nm))++(hA g c).drop (i+1)).map dK:=by
      rw[<-List.map_set,Ws aJ]
     obtain⟨ol,c8,EH,xU⟩:=EG.store (i:=i) (V:=7) rM Zd (v:= .bool (!aD.no)) rfl rfl
     by_cases bM:aD.on=nm
     ·have c2:decide (aD.on=nm)=true:=by simp[bM]
      have Vl:(dK aD).set 7 (.bool (!aD.no))=dK (i6 (some nm) aD):=by
       unfold i6;rw[Zp (by rw[bM])];rfl
      rw[Vl,bm]at EH
      refine eh @Xu @MU @mO @k1 @d @afD (Za @ls (Za @OW (Za @c2 (Za @jQ (Za @c8 @bC))))) ⟨?_⟩
      exact⟨gg,Zo,i+1,aW t5,aW e9,aW js,aW k1,aW Gg,aW Du,aW mO,aW MU,bo,Zo,Zo,EH,λe z=>by rw[xU e z];exact rF e z⟩
     ·have c2:decide (aD.on=nm)=false:=by simp[bM]
      have Vl:dK aD=dK (i6 (some nm) aD):=by
       unfold i6;rw[Zg (λD=>bM (Yf D).symm)]
      have auS:iI X jZ (λe=>a7 e/\mQ e=c+1) (vs bQ cl cU c) (vs cQ c4 r3 c) 8 ((((hA g c).take (i+1)).map (i6 (some nm))++(hA g c).drop (i+1)).map dK):=by
       rw[<-bm, <-Vl,aCX rM];exact EG
      refine eh @Xu @MU @mO @k1 @d @afD (Za @ls (Za @OW (Za @c2 @bC))) ⟨?_⟩
      exact⟨gg,Zo,i+1,aW t5,aW e9,aW js,aW k1,aW Gg,aW Du,aW mO,aW MU,bo,Zo,Zo,auS,rF⟩
  ·rintro I d6 hG ⟨t5,e9,js,k1,UY,AD,g4⟩
   have agu:=u9.ab (R:=d6) λe z=>g4 e (λa=>by have:=(eP e a.1).2;have:=z.2;omega)
   have agy:aU X d6 (.ptr ce (u*6+5))=some eo:=agu.rd.cell u _ 5 _ It rfl
   have awF:=Py.ab (R:=d6) (λe z=>g4 e (λa=>a.2.2 z.2)) (λ_ a=>a)
   have afy:=kk.ab (R:=d6) λe z=>g4 e (λa=>a.2.1 z.2)
   have afY:=afy.rd.len
   rw[Py.wide.1]at afY
   have aGs:=(lR g qS).eqs
   refine er @js @agy @afY ⟨?_⟩
   refine fE (λm I R aS=>∃(i:Nat),I.g 5=some (.ptr b 0)/\I.g 7=some (.ptr ak 0)/\I.g 10=some (.ptr ce (u*6))/\I.g 12=some (.ptr dX 0)/\I.g 136=some (.Z (g.eqs.length:Int))/\I.g 137=some (.Z (i:Int))/\i+m=g.eqs.length/\hG<=aS/\oU X R (λe=>a7 e/\mQ e=0) ((g.eqs.take i).map (oN (some nm))++g.eqs.drop i) MK/\∀e,e<hG->¬(a7 e/\mQ e=0)->W X R e=W X d6 e)
    g.eqs.length ⟨0,aW t5,aW e9,aW js,aW k1,bo,fY,Zo,Zj _,by simpa using awF,λ_ _ _=>rfl⟩ ?_
   clear t5 e9 js k1
   rintro m I jZ vl ⟨i,t5,e9,js,k1,Xv,Xw,aG,av5,Vg,rF⟩
   have Is:=agu.ab (R:=jZ) λe z=>rF e (zz z.1.2) (λa=>by have:=(eP e a.1).2;have:=z.2;omega)
   have awW:aU X jZ (.ptr ce (u*6+5))=some eo:=Is.rd.cell u _ 5 _ It rfl
   have UI:=afy.ab (R:=jZ) λe z=>rF e (zz (xM e z.1)) (λa=>by have:=a.2;have:=z.2;omega)
   cases m with
   |zero=>
    have d:=zA i g.eqs.length
    rw[ZA Zo,ZC Zo,Yh]at Vg
    have xW:∀e,e<cC->¬a7 e->W X jZ e=W X bH e:=λe H M=>by rw[rF e Zo (λa=>M a.1),g4 e (λa=>M a.1),gG e H]
    have CD:oX X jZ (dU (j+1) aX) am (.ptr b 0):=Io.prog.ab (λe z=>by
     have H:=z.2
     rw[xW e Zo (λa=>zz (xM e a)),cW.ab e Zo,cX e Zo]) (λ_ a=>a)
    have Uq:∀i,i<3->iI X jZ (λe=>a7 e/\mQ e=i+1) (vs bQ cl cU i) (vs cQ c4 r3 i) 8 (((hA g i).map (i6 (some nm))).map dK):=λi aG=>(AD i aG).ab λe z=>rF e (zz (xM e z.1)) (λa=>by have:=a.2;have:=z.2;omega)
    have awO:vI X jZ a7 (gB (some nm) g) [.str g.name, .Z g.at_,cQ,c4,r3,eo]:=⟨mQ,cQ,c4,r3,eo,bQ,cl,cU,fe,MK,rfl,Uq 0 Zd,Uq 1 Zd,Uq 2 Zd,UI,Vg⟩
    have awd:=x0 jZ (gB (some nm) g) (λe z af7=>by rw[xW e z.1.2 af7,dN e z.1.2]) awO
    have LC:aU X jZ (.ptr ak 0)=some aO:=zK (xW ak Pv.1.2 (λa=>by have:=(eP ak a).2;have:=Pv.2;omega)) pr
    have Pu:BL X jZ (dU (aX+1) cC) (am.set u (gB (some nm) g)) (.ptr ak 0):=⟨ai,ak,aO,ce,be,rfl,Pv,LC,Is,awd⟩
    have d9:=aEm av9 bV
    have axq:=WC d9 x5
    have avM:n2 (am.set u (gB (some nm) g))=none:=by rw[azg d9];exact p0
    have Po:am.set u (gB (some nm) g)≠[]:=λD=>dn (ZN (by rw[<-d9.len,D];rfl))
    refine gk @Xw @Xv @d @t5 ⟨?_⟩
    refine(acQ (j:=vl) (P:=dU (j+1) aX) aw dZ.err aeR aeS ez Zo CD (λe z=>⟨zz z.1,zz z.2⟩) x5 dn p0).Zm ?_
    rintro ac ol Qf ⟨rfl,TP⟩
    have afR:=TP.le
    refine cj @e9 ⟨?_⟩
    refine(acQ (j:=Qf) (P:=dU (aX+1) cC) aw dZ.err aeR aeS ez Zo (Pu.prog.ab (a7:=dU (aX+1) cC) (λe z=>TP.ab e (zz z.2)) (λ_ a=>a)) (λe z=>⟨zz z.1,zz z.2⟩) axq Po avM).Zm ?_
    rintro ac RT azQ ⟨rfl,hb⟩
    have avK:=hb.le
    have kR:db X RT .eql 4 false (.bool (decide ((wR am).1=0))) (.bool (decide ((wR (am.set u (gB (some nm) g))).1=0)))=some .zT:=by
     rw[arE,aEg d9 x5];simp
    refine cj @kR ⟨?_⟩
    refine Kg PP ?_
    refine cL ⟨?_⟩
    refine⟨rfl,Zo,λe z=> ?_⟩
    rw[hb.ab e Zo,TP.ab e Zo,xW e Zo (λa=>zz (xM e a)),cW.ab e Zo]
    exact cp.ab e z
   |succ m=>
    have d:=zB i g.eqs.length
    have bC:=zE i
    obtain⟨up,LF⟩:=zC g.eqs i
    have u6:((g.eqs.take i).map (oN (some nm))).length=i:=by rw[Zi,Yz];omega
    obtain⟨aHx,dG,E0,d9,AU,aww⟩:=Vg.lens i up (by rw[ZM Zo,u6,zx,Yi];exact LF)
    obtain⟨akB,MP,aji,c5,dC,il,rfl,n0,avF,sG,p2⟩:=AU
    have Vq:aU X jZ (.ptr fe (i*4+3))=some il:=UI.rd.cell i _ 3 il E0 rfl
    have avy:=UI.rd.fx i (Zb.1 E0).1
    have OW:aU X jZ (.ptr dX 0)=some (.str nm):=by rw[cw,rF dX UY (λa=>Ih a.1),g4 dX (λa=>Ih a.1), <-cw];exact ae8
    have Ua:∀e,dG e->aX+1<=e/\e<cC:=λe z=>xM e (d9 e z).1
    refine eh @Xw @Xv @js @k1 @d @awW (Za @avy @Vq) ⟨?_⟩
    refine(aER (j:=vl) (P:=λe=>dG e/\akB e=0) aw.todk OW Zo (λa=>Ih (d9 dX a.1).1) (λe z=>zz (Ua e z.1)) ((x5 g qS).eqs up (Zl LF)).right sG).Zm ?_
    rintro ac ol Qf ⟨rfl,afR,ava,xU⟩
    have awP:vF X ol dG (oN (some nm) up) [MP,aji, .Z up.at_,il]:=⟨akB,MP,aji,c5,dC,il,rfl,n0.ab λe z=>xU e (zz (Ua e z.1)) (λa=>by have:=a.2;have:=z.2;omega),avF.ab λe z=>xU e (zz (Ua e z.1)) (λa=>by have:=a.2;have:=z.2;omega),ava,p2⟩
    have Pu:=aww ol (oN (some nm) up) (λe z aF=>xU e (zz (xM e z.1)) (λa=>aF a.1)) awP
    rw[Ws LF]at Pu
    refine cS @Xw @bC ⟨?_⟩
    exact⟨m,Zo,i+1,aW t5,aW e9,aW js,aW k1,aW Xv,bo,Zo,Zo,Pu,λe z aF=>by rw[xU e Zo (λa=>aF (d9 e a.1))];exact rF e z aF⟩
end
end
end Go.Proofs.YtpeabpmnlmaabaaGreatDoor

namespace Go.bg
noncomputable section
open Go.RowKit (Below)
def X4(k:List E):Prop:=∀v∈k,(∀U ja,aT U v=aT ja v)/\∀ae,co ae v
def GQ(w:World)(v:Value)(bd:Nat)(k:List E):Prop:=
 (v= .slice none 0 0/\k=[])\/∃cO off len cap ct ty fr,v= .slice (some ⟨cO,off,none⟩) len cap/\len<=cap/\k.length=len*bd/\X4 k/\
  (0<k.length->w.heap[cO]? =some (.cells ct ty fr)/\off+k.length<=ct.size/\∀i x,k[i]? =some x->ct[off+i]? =some (aT (λ_=>default) x))
def akG(C:aN)(F:E)(b bd:Nat)(k:List E):Prop:=
 (F= .aY/\k=[])\/∃len cap,F= .slice b 0 len cap/\len<=cap/\k.length=len*bd/\(0<k.length->W C .nil b=some (.cells (S.ofList k 0 .nil) k.length .kJ))
def yk(k:List E)(G:S ag)(b:Nat):S ag:=if 0<k.length then G.set b (some (.cells (S.ofList k 0 .nil) k.length .kJ))else G
def GQ.pl{w:World}{v:Value}{bd:Nat}{k:List E}(a:GQ w v bd k)(b:Nat):∃(F:E) (pl:nf),(∀U:dd,U b=pl->aT U F=v)/\(∀ae:Nat->Prop,ae b->co ae F)/\
 ((F= .aY/\k=[])\/∃len cap,F= .slice b 0 len cap/\len<=cap/\k.length=len*bd)/\(0<k.length->∀C U ae,kL C U ae (.cells (S.ofList k 0 .nil) k.length .kJ) pl w):=by
 rcases a with ⟨rfl,rfl⟩|⟨cO,off,len,cap,ct,ty,fr,rfl,H,M,al,aB⟩
 ·exact⟨.aY,default,λ_ _=>rfl,λ_ _=>trivial, .inl ⟨rfl,rfl⟩,λa=>by simp at a⟩
 ·refine⟨.slice b 0 len cap,⟨cO,off,k.length⟩,λU dS=>by simp[aT,dS],λae d=>d, .inr ⟨len,cap,rfl,H,M⟩,λa C U ae=> ?_⟩
  obtain⟨bR,cm,cX⟩:=aB a
  obtain⟨bO,aG⟩:=fr
  refine⟨ct,ty,bO,aG,bR,⟨trivial,Zj _,cm⟩,cm,λi x af=> ?_⟩
  rw[m5]at af
  have bn:=al x (Zl af)
  exact⟨by rw[bn.1 U (λ_=>default)];exact cX i x af,bn.2 ae⟩
section
variable{P:Program}{w:World}
def ayN{nm:List (String×Nat)}(g1:BK P nm){laid:List (String×DataW Unit)}{hz:Nat->List E->Option E}(a:laidMet P laid w){a8:Nat}{os:List (Nat×ag)}(az:ho P nm laid P.globals.size=(a8,os)){v0:Value}{qm:Nat}{ft:List E}(aK:GQ w v0 qm ft):
 ∃U ae a0,dq ⟨P,yk ft (ob os .nil) a8,a8+1,hz,P.globals.size⟩ U ae .nil (a8+1) w.heap.size w/\ti ⟨P,yk ft (ob os .nil) a8,a8+1,hz,P.globals.size⟩ U ae/\ey ae [a0]/\b3 U [a0]=[v0]/\
  akG ⟨P,yk ft (ob os .nil) a8,a8+1,hz,P.globals.size⟩ a0 a8 qm ft:=by
 obtain⟨a0,Bf,dx,jO,t0,ld⟩:=aK.pl a8
 obtain⟨dm,gp,_,mb⟩:=a
 have cx:th w dm:=λb off aj=>(mb b off aj).1
 obtain⟨bf,cf,f,a3⟩:=ahC (C:=⟨P,yk ft (ob os .nil) a8,a8+1,hz,P.globals.size⟩) g1 laid P.globals.size dm rfl gp cx (λb off aj=>(mb b off aj).2)
 rw[az]at bf cf a3
 simp only at bf cf a3
 have dZ:∀b T,W ⟨P,yk ft (ob os .nil) a8,a8+1,hz,P.globals.size⟩ .nil b=some T->((b,T)∈os/\b<a8)\/(b=a8/\0<ft.length/\T= .cells (S.ofList ft 0 .nil) ft.length .kJ):=by
  intro b T bi
  unfold W at bi
  rw[fw]at bi
  split at bi
  ·rename_i aj
   have aj:=l6 aj
   unfold yk at bi
   split at bi
   ·rename_i ay
    rw[S.jP]at bi
    split at bi
    ·rename_i D;cases bi;exact .inr ⟨D.symm▸rfl,ay,rfl⟩
    ·rcases Xe b T os .nil bi with ak|ak
     ·exact .inl ⟨ak,by have cA:b<P.globals.size\/b<a8:=(cf (b,T) ak).2.1;have:P.globals.size<=a8:=bf;omega⟩
     ·simp at ak
   ·rcases Xe b T os .nil bi with ak|ak
    ·exact .inl ⟨ak,by have cA:b<P.globals.size\/b<a8:=(cf (b,T) ak).2.1;have:P.globals.size<=a8:=bf;omega⟩
    ·simp at ak
  ·simp at bi
 refine⟨λb=>if b<P.globals.size then⟨b,0,0⟩else if b=a8 then Bf else f b,λb=>b<a8+1,a0,⟨Zj _,λ_ a=>a,λb T bi=> ?_, ?_, ?_, ?_, ?_⟩, ?_, ?_, ?_, ?_⟩
 ·rcases dZ b T bi with a|a
  ·omega
  ·omega
 ·intro b T bi _
  rcases dZ b T bi with a|⟨rfl,ay,rfl⟩
  ·exact a3 (λb=>if b<P.globals.size then⟨b,0,0⟩else if b=a8 then Bf else f b) (λb=>b<a8+1) (λb H M=>⟨by rw[Zg Zo,Zg Zo],Zo⟩) (λg bV=>⟨by rw[Zp bV],by have:P.globals.size<=a8:=bf;omega⟩) (b,T) a.1
  ·show kL _ _ _ _ (if b<P.globals.size then(⟨b,0,0⟩:nf)else if b=b then Bf else f b) w
   rw[Zg (by have:P.globals.size<=b:=bf;omega),Zp rfl]
   exact ld ay _ _ _
 ·intro b dD T o' _ _ d _ _ aj
  exact absurd d (zt.2 aj)
 ·intro b T aj _ d
  exact absurd d (zt.2 aj)
 ·intro b T bi _
  rcases dZ b T bi with a|⟨rfl,ay,rfl⟩
  ·exact(cf (b,T) a.1).2.2 _ _
  ·refine⟨λc n k az=>(by cases az),λc n st aA i v bD=> ?_⟩
   cases aA
   rw[m5]at bD
   exact(Zb.1 bD).1
 ·intro g bV
  have bV:g<P.globals.size:=bV
  exact⟨Zo,by simp[bV],by simp[bV]⟩
 ·exact⟨jO _ Zo,trivial⟩
 ·simp only[b3]
  rw[dx _ (by rw[Zg Zo,Zp rfl])]
 ·rcases t0 with a|⟨len,cap,cE,cA,dT⟩
  ·exact .inl a
  ·refine .inr ⟨len,cap,cE,cA,dT,λa=> ?_⟩
   unfold W yk
   have:Nat.blt a8 (a8+1)=true:=by simp[Nat.blt]
   rw[this,fo,Zp a,S.jP,Zp rfl]
end
end
end Go.bg

namespace Go.Proofs.YtpeabpmnlmaabaaGreatDoor
open Go.bg Go.aL
noncomputable section
def nm:List (String×Nat):=[((Tryz.prog.typeName? 3 206).getD "",206)]
def aq:Nat×List (Nat×ag):=ho Tryz.prog nm Rows.clocksTurnedRow.laid Tryz.prog.globals.size
def IT:aq.1=22:=Zk
def fM:S ag:=ob aq.2 .nil
def atC:fM.get 0=zD [.str [45,62], .str [60,60], .str [62,62], .str [60,61], .str [62,61], .str [60,62], .str [40], .str [41], .str [44], .str [59], .str [58], .str [61], .str [60], .str [62], .str [43], .str [45], .str [42]] 17:=Zk
def HM:fM.get 3=zD [.slice 14 0 18 18] 1:=Zk
def v7:fM.get 1=zD [.map 16] 1:=Zk
def Eu:fM.get 2=zD [.bool true, .bool false, .int .i64 1] 3:=Zk
def OA:fM.get 7=zD [.map 15] 1:=Zk
def KO:fM.get 5=zD [.iface 206 (.ptr 13 0)] 1:=Zk
def xG:fM.get 6=zD [.iface 206 (.ptr 12 0)] 1:=Zk
def Ao:fM.get 8=zD [.slice 17 0 2 2, .slice 18 0 1 1, .slice 19 0 6 6, .slice 20 0 2 2, .slice 21 0 1 1] 5:=Zk
def atD:fM.get 14=zD [.str [110,111,100,101], .str [114,101,116,117,114,110,115], .str [118,97,114], .str [108,101,116], .str [116,101,108], .str [119,104,101,110], .str [110,111,116], .str [111,114], .str [120,111,114], .str [97,110,100], .str [112,114,101], .str [102,98,121], .str [105,102], .str [116,104,101,110], .str [101,108,115,101], .str [109,101,114,103,101], .str [116,114,117,101], .str [102,97,108,115,101]] 18:=Zk
def atF:fM.get 16=some (.look [(.str [97,110,100], .bool true),(.str [101,108,115,101], .bool true),(.str [102,97,108,115,101], .bool true),(.str [102,98,121], .bool true),(.str [105,102], .bool true),(.str [108,101,116], .bool true),(.str [109,101,114,103,101], .bool true),(.str [110,111,100,101], .bool true),(.str [110,111,116], .bool true),(.str [111,114], .bool true),(.str [112,114,101], .bool true),(.str [114,101,116,117,114,110,115], .bool true),(.str [116,101,108], .bool true),(.str [116,104,101,110], .bool true),(.str [116,114,117,101], .bool true),(.str [118,97,114], .bool true),(.str [119,104,101,110], .bool true),(.str [120,111,114], .bool true)]):=Zk
structure sk(X:ca):Prop where
 a8:X.a8=23
 get:∀b,b<22->X.G.get b=fM.get b
section
variable{X:ca}{h:S ag}
def sk.W(a:sk X){b:Nat}(aj:b<22):W X h b=fM.get b:=by
 have D:Nat.blt b (o X).a8=true:=by
  show Nat.blt b X.a8=true
  rw[a.a8];simp[Nat.blt];omega
 unfold Go.bg.W
 rw[D,fo]
 exact a.get b aj
def sk.ye(a:sk X){b n:Nat}(aj:b<22){c:S E}{st:oo}(bV:fM.get b=some (.cells c n st))(T:Nat):aU X h (.ptr b T)=c.get T:=bG (by rw[a.W aj];exact bV) T
def asW(a:sk X):DO X:=λh=>by
 rw[wI,a.W Zd,Eu]
 rfl
def asX(a:sk X):mi X:=⟨⟨13,λh=>by rw[a.ye Zd KO];rfl⟩,⟨12,λh=>by rw[a.ye Zd xG];rfl⟩⟩
def as3(a:sk X):RF X:=⟨λh=>by
 rw[wI,a.W Zd,atC]
 rfl⟩
def azn(w:aR):∀L:List (aR×E),(L.map Prod.fst).Nodup->qg X h 9 (.str w) (L.map λD=>(E.str D.1,D.2))=some ((L.find? λD=>decide (D.1=w)).map Prod.snd):=by
 intro L
 induction L with
 |nil=>intro _;rfl
 |cons D L ah=>
  intro aF
  rw[ZJ,zm]at aF
  simp only[ZJ,qg,ah aF.2,adw,Ba,zl]
  by_cases a:D.1=w
  ·have cF:w=D.1:=a.symm
   have ma:L.find? (λD=>decide (D.1=w))=none:=by
    rw[Y4]
    intro x af bM
    have:x.1=w:=by simpa using bM
    exact aF.1 (by rw[a, <-this];exact List.mem_map_of_mem af)
   simp[a,ma]
  ·have cF:¬w=D.1:=λak=>a ak.symm
   simp[a,cF]
noncomputable def ur:List aR:=[[97,110,100],[101,108,115,101],[102,97,108,115,101],[102,98,121],[105,102],[108,101,116],[109,101,114,103,101],[110,111,100,101],[110,111,116],[111,114],[112,114,101],[114,101,116,117,114,110,115],[116,101,108],[116,104,101,110],[116,114,117,101],[118,97,114],[119,104,101,110],[120,111,114]]
def ai8(s:aR):s∈ur↔s∈wS:=by
 constructor
 ·intro a
  have:∀w∈ur,w∈wS:=by decide
  exact this s a
 ·intro a
  have:∀w∈wS,w∈ur:=by decide
  exact this s a
def aB9:((ur.map λs=>(s,E.bool true)).map λD:aR×E=>(E.str D.1,D.2))=[(.str [97,110,100], .bool true),(.str [101,108,115,101], .bool true),(.str [102,97,108,115,101], .bool true),(.str [102,98,121], .bool true),(.str [105,102], .bool true),(.str [108,101,116], .bool true),(.str [109,101,114,103,101], .bool true),(.str [110,111,100,101], .bool true),(.str [110,111,116], .bool true),(.str [111,114], .bool true),(.str [112,114,101], .bool true),(.str [114,101,116,117,114,110,115], .bool true),(.str [116,101,108], .bool true),(.str [116,104,101,110], .bool true),(.str [116,114,117,101], .bool true),(.str [118,97,114], .bool true),(.str [119,104,101,110], .bool true),(.str [120,111,114], .bool true)]:=rfl
def as1(a:sk X):Ns X:=⟨.map 16,λh=>⟨by rw[a.ye Zd v7];rfl,λs=>by
 have bC:W X h 16=_:=(a.W Zd).trans atF
 rw[<-aB9]at bC
 have AM:((ur.map λs=>(s,E.bool true)).map Prod.fst).Nodup:=by decide
 simp only[n3,bC,Qt,fo,azn s _ AM]
 have b4:((ur.map λs=>(s,E.bool true)).find? λD=>decide (D.1=s)).map Prod.snd=if s∈ur then some (E.bool true)else none:=by
  by_cases aC:s∈ur
  ·rw[Zp aC]
   generalize ur=L at aC
   induction L with
   |nil=>cases aC
   |cons F L ah=>
    rw[ZJ,zl]
    by_cases aE:F=s
    ·simp[aE]
    ·simp only[aE,Yl]
     exact ah ((Zu.1 aC).resolve_left (λD=>aE D.symm))
  ·rw[Zg aC]
   have:(ur.map λs=>(s,E.bool true)).find? (λD=>decide (D.1=s))=none:=by
    rw[Y4]
    intro x af bM
    obtain⟨e,z,rfl⟩:=ZE.1 af
    have:e=s:=by simpa using bM
    exact aC (this▸z)
   rw[this];rfl
 rw[b4]
 have:decide (s∈wS)=decide (s∈ur):=by
  by_cases aC:s∈ur
  ·simp[aC,(ai8 s).1 aC]
  ·have:¬s∈wS:=λak=>aC ((ai8 s).2 ak)
   simp[aC,this]
 rw[this]
 by_cases aC:s∈ur
 ·simp[aC,IR]
 ·simp[aC,IR]⟩⟩
def Jj{P:Nat->Prop}{b u bd n:Nat}{be:List (List E)}{st:oo}(a:sk X)(aj:b<22)(bV:fM.get b=some (.cells (S.ofList be.flatten 0 .nil) n st))(aF:n=u*bd)(aH:be.length=u)(Y:∀r∈be,r.length=bd)(bn:u<=300000)(bs:P b):dV X h P b (.slice b 0 u u) bd be:=
 Ji (st:=st) (by rw[a.W aj,bV,aF]) aH Y bn bs
def as0(a:sk X):sf X:=⟨by rw[a.a8];decide,λh=>⟨14, .slice 14 0 18 18,by rw[a.ye Zd HM];rfl,Jj a Zd atD rfl rfl Zd Zd (by rw[a.a8];decide)⟩⟩
def atI:fM.get 17=zD ((av 0).map λT=>[E.str T.1, .int .i64 T.2]).flatten 4:=Zk
def atJ:fM.get 18=zD ((av 1).map λT=>[E.str T.1, .int .i64 T.2]).flatten 2:=Zk
def atK:fM.get 19=zD ((av 2).map λT=>[E.str T.1, .int .i64 T.2]).flatten 12:=Zk
def atL:fM.get 20=zD ((av 3).map λT=>[E.str T.1, .int .i64 T.2]).flatten 4:=Zk
def atM:fM.get 21=zD ((av 4).map λT=>[E.str T.1, .int .i64 T.2]).flatten 2:=Zk
def M6(u:Nat):∀r∈(av u).map λT=>[E.str T.1, .int .i64 T.2],r.length=2:=by
 intro r Y
 obtain⟨T,_,rfl⟩:=ZE.1 Y
 rfl
set_option maxRecDepth 20000 in
def asZ(a:sk X):xd X:=⟨by rw[a.a8];decide,λh u aH=>by
 have bs:∀b,b<22->b<X.a8:=λb aj=>by rw[a.a8];omega
 match u,aH with
 |0,_=>exact⟨17, .slice 17 0 2 2,by rw[a.ye Zd Ao];rfl,Jj (P:=λe=>e<X.a8) (b:=17) (be:=(av 0).map λT=>[E.str T.1, .int .i64 T.2]) a Zd atI rfl rfl (M6 0) Zd (bs 17 Zd)⟩
 |1,_=>exact⟨18, .slice 18 0 1 1,by rw[a.ye Zd Ao];rfl,Jj (P:=λe=>e<X.a8) (b:=18) (be:=(av 1).map λT=>[E.str T.1, .int .i64 T.2]) a Zd atJ rfl rfl (M6 1) Zd (bs 18 Zd)⟩
 |2,_=>exact⟨19, .slice 19 0 6 6,by rw[a.ye Zd Ao];rfl,Jj (P:=λe=>e<X.a8) (b:=19) (be:=(av 2).map λT=>[E.str T.1, .int .i64 T.2]) a Zd atK rfl rfl (M6 2) Zd (bs 19 Zd)⟩
 |3,_=>exact⟨20, .slice 20 0 2 2,by rw[a.ye Zd Ao];rfl,Jj (P:=λe=>e<X.a8) (b:=20) (be:=(av 3).map λT=>[E.str T.1, .int .i64 T.2]) a Zd atL rfl rfl (M6 3) Zd (bs 20 Zd)⟩
 |4,_=>exact⟨21, .slice 21 0 1 1,by rw[a.ye Zd Ao];rfl,Jj (P:=λe=>e<X.a8) (b:=21) (be:=(av 4).map λT=>[E.str T.1, .int .i64 T.2]) a Zd atM rfl rfl (M6 4) Zd (bs 21 Zd)⟩⟩
def arO(F b:Int):jg X h 20 3 (.int .i64 F) (.int .i64 b)=some (uc F b):=Zk
def aAH(F:Int):nQ X 20 3 (.int .i64 F)=true:=Zk
def azm(w:Int):∀L:List (Int×E),(L.map Prod.fst).Nodup->qg X h 3 (.int .i64 w) (L.map λD=>(E.int .i64 D.1,D.2))=some ((L.find? λD=>decide (D.1=w)).map Prod.snd):=by
 intro L
 induction L with
 |nil=>intro _;rfl
 |cons D L ah=>
  intro aF
  rw[ZJ,zm]at aF
  simp only[ZJ,qg,ah aF.2,arO,A0,zl]
  by_cases a:D.1=w
  ·have ma:L.find? (λD=>decide (D.1=w))=none:=by
    rw[Y4]
    intro x af bM
    have:x.1=w:=by simpa using bM
    exact aF.1 (by rw[a, <-this];exact List.mem_map_of_mem af)
   simp[a,ma]
  ·have cF:¬w=D.1:=λak=>a ak.symm
   simp[a,cF]
noncomputable def Js:List (Int×(Int×Bool×Bool×Bool)):=[1,2,3,4,5,6,19,20,23,24,25,26].map λu:Int=>(u,(vt u).getD (0,false,false,false))
def atE:fM.get 15=some (.look ((Js.map λD=>(D.1,E.agg (q6 D.2))).map λD=>(E.int .i64 D.1,D.2))):=Zk
def aC2(u:Int):(Js.find? λD=>decide (D.1=u)).map Prod.snd=vt u:=by
 by_cases aH:u=1\/u=2\/u=3\/u=4\/u=5\/u=6\/u=19\/u=20\/u=23\/u=24\/u=25\/u=26
 ·rcases aH with rfl|rfl|rfl|rfl|rfl|rfl|rfl|rfl|rfl|rfl|rfl|rfl<;>decide
 ·have H:vt u=none:=by
   unfold vt
   rw[Zg Zo,Zg Zo,Zg Zo,Zg Zo,Zg Zo,Zg Zo,Zg Zo,Zg Zo,Zg Zo]
  rw[H]
  have:Js.find? (λD=>decide (D.1=u))=none:=by
   rw[Y4]
   intro x af bM
   have PS:x.1=u:=by simpa using bM
   obtain⟨e,z,rfl⟩:=ZE.1 af
   simp only at PS
   subst PS
   simp only[Zu,ZK,Yq]at z
   exact aH z
  rw[this];rfl
def as2(a:sk X):xe X:=⟨λh=>⟨.map 15,by rw[a.ye Zd OA];rfl,λu=>by
 have bC:W X h 15=_:=(a.W Zd).trans atE
 have AM:((Js.map λD=>(D.1,E.agg (q6 D.2))).map Prod.fst).Nodup:=by decide
 simp only[n3,bC,aAH,fo,azm u _ AM]
 have b4:((Js.map λD=>(D.1,E.agg (q6 D.2))).find? λD=>decide (D.1=u)).map Prod.snd=(vt u).map λs=>E.agg (q6 s):=by
  rw[<-aC2 u,List.find?_map]
  have:((λD:Int×E=>decide (D.1=u))∘λD:Int×(Int×Bool×Bool×Bool)=>(D.1,E.agg (q6 D.2)))=λD=>decide (D.1=u):=rfl
  rw[this]
  cases Js.find? (λD=>decide (D.1=u))<;>rfl
 rw[b4]
 cases vt u with
 |none=>rfl
 |some s=>rfl⟩⟩
def as4(a:sk X):JQ X:=⟨asX a,as1 a,as3 a⟩
end
end
end Go.Proofs.YtpeabpmnlmaabaaGreatDoor

