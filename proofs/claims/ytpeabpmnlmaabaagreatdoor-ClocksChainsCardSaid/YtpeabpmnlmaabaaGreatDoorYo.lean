/- Part of the proof of the last text; no conditions -/
import Derived.Test.YtpeabpmnlmaabaaGreatDoorYn
set_option maxHeartbeats 8000000
set_option linter.all false
namespace Go.Proofs.YtpeabpmnlmaabaaGreatDoor
open Go.ba Go.aQ
noncomputable section
mutual
def AZ{gh:Type}(t:aX->Option c8)(step:gh->bB->e4->gh):bB->e4->gh->gh
 | .mk y F nm no ty n args,c,s=>ug t step y nm c 0 args (step s (.mk y F nm no ty n args) c)
def ug{gh:Type}(t:aX->Option c8)(step:gh->bB->e4->gh)(y:Int)(nm:aX)(c:e4):Nat->List bB->gh->gh
 |_,[],s=>s
 |i,E::ca,s=>ug t step y nm c (i+1) ca (AZ t step E (s8 t y nm c i) s)
end
def aDc{gh:Type}(t:aX->Option c8)(step:gh->bB->e4->gh)(E:bB)(c:e4)(s:gh):AZ t step E c s=ug t step E.kind E.name c 0 E.args (step s E c):=by
 cases E;rw[AZ];rfl
def CG(t:aX->Option c8)(f:Option Int)(E:bB)(c:e4):Option Int:=Qe f (Kc t E c) E.at_
mutual
def aje(t:aX->Option c8):∀(E:bB) (c:e4) (f:Option Int),IZ t E c f=AZ t (CG t) E c f
 | .mk y F nm no ty n args,c,f=>by rw[IZ,AZ];exact ajd t y nm c 0 args _
def ajd(t:aX->Option c8)(y:Int)(nm:aX)(c:e4):∀(i:Nat) (k:List bB) (f:Option Int),MR t y nm c i k f=ug t (CG t) y nm c i k f
 |_,[],f=>by rw[MR,ug]
 |i,E::ca,f=>by rw[MR,ug,aje t E,ajd t y nm c (i+1) ca]
end
section
variable{X:ch}{h S' aK aJ:R af}{j am aM aR:Nat}{P bg:Nat->Prop}
def ajg(au:di X){gh:Type}(t:aX->Option c8)(step:gh->bB->e4->gh)(P ks:Nat->Prop)(bG:Nat)(b8:D)(dJ:gh->R af->Nat->Prop)(y:Nat)(sa hS:List D)(oo:(o X).a6<=bG)(bq:∀e,P e->e<bG)(oe:∀e,ks e->e<bG)
 (fe:∀s h n,dJ s h n->bG<=n/\ia X h ks b8 t)(D9:∀s h n S' aP,dJ s h n->n<=aP->(∀e,e<n->U X S' e=U X h e)->dJ s S' aP)
 (eK:bB->e4->Prop)(jT:∀E c (i:Nat) F,eK E c->E.args[i]? =some F->eK F (s8 t E.kind E.name c i))
 (qF:∀(s:gh) (E:bB) (v:D) (c:e4) (h:R af) (j:Nat),dJ s h j->eK E c->cE X h P E v->aW X y ((sa++[v,ga c])++hS) h j (λac S' am=>dJ (step s E c) S' am/\j<=am/\(∀e,P e->U X S' e=U X h e)/\∀e,bG<=e->e<j->U X S' e=U X h e) (λ_ _ _=>False)):
 ∀(N:Nat) (E:bB),SizeOf.sizeOf E<N->∀(s:gh) (v:D) (c:e4) (h:R af) (j:Nat),dJ s h j->eK E c->cE X h P E v->
  aW X 20 [b8,v,ga c, .func (.func y) sa hS] h j (λac S' am=>ac= .tuple []/\dJ (AZ t step E c s) S' am/\j<=am/\(∀e,P e->U X S' e=U X h e)/\∀e,bG<=e->e<j->U X S' e=U X h e) (λ_ _ _=>False):=by
 intro N
 induction N with
 |zero=>intro E a;omega
 |succ N ai=>
  intro E jF s v c h j aD Y bz
  have d2:=(fe _ _ _ aD).1
  refine zx au (alr X) ?_
  rw[als]
  unfold φ
  refine q6 ?_
  generalize de:Go.ba.bi X h j _=aK
  have bK:U X aK j=zu [.str c.1, .bool c.2] 2:=by rw[<-de,bb Zo];rfl
  have bW:∀e,e<j->U X aK e=U X h e:=λe B=>by rw[<-de,aC Zo Zo]
  clear de
  have l1:∀e,P e->U X aK e=U X h e:=λe B=>bW e (zq (bq e B))
  have k8:=D9 _ _ _ aK (j+1) aD Zo bW
  have vQ:=cE.aa l1 _ _ bz
  obtain⟨b,aS,cO,br,rfl,ag,a0,_,b6,_,_,_,_,_,iz,cC,has⟩:=id vQ.open
  have eT:=cC.len
  have uR:=has.len
  rw[Zi,uR]at eT
  have ik:=cC.many
  rw[Zi,uR]at ik
  have cr:cZ X aK 2 (.ptr j 0)=some (ga c):=by rw[il,bp bK,bp bK];rfl
  rw[aDc]
  refine cL @Mj @cr ⟨?_⟩
  refine(qF s E _ c aK (j+1) k8 Y vQ).Zm ?_
  rintro ac aJ aR ⟨pS,fC,nl,agC⟩
  rw[<-agC _ Zo Zo]at bK
  have RW:aI X aJ (.ptr b 8)=some aS:=zB (nl b ag) iz
  refine cL @RW @eT ⟨?_⟩
  refine fp (λm H S' aP=>∃(T:Nat) (eX:gh),H.g 0=some b8/\H.g 1=some (.ptr b 0)/\H.g 3=some (.func (.func y) sa hS)/\H.g 6=some (.ptr j 0)/\H.g 20=some aS/\H.g 21=some (.Z (E.args.length:Int))/\H.g 22=some (.Z (T:Int))/\T+m=E.args.length/\dJ eX S' aP/\j<aP/\(∀e,P e->U X S' e=U X aK e)/\(∀e,bG<=e->e<j+1->U X S' e=U X aJ e)/\ug t step E.kind E.name c 0 E.args (step s E c)=ug t step E.kind E.name c T (E.args.drop T) eX)
   E.args.length ⟨0,_,be,be,be,be,be,be,fO,Zo,pS,Zo,nl,λ_ _ _=>rfl,rfl⟩ ?_
  rintro m H a1 bn ⟨T,eX,t0,t1,t3,t6,p5,rK,rL,bJ,Va,v6,iT,VJ,bw⟩
  have aw8:∀e,bG<=e->e<j->U X a1 e=U X h e:=λe J Q=>by rw[VJ e J Zo,agC e J Zo,bW e Q]
  cases m with
  |zero=>
   have d:=zr T E.args.length
   rw[ZD Zo,ug]at bw
   rw[bw]
   refine ed @rL @rK @d ⟨?_⟩
   exact⟨rfl,Va,Zo,λe B=>by rw[iT e B,l1 e B],aw8⟩
  |succ m=>
   have d:=zs T E.args.length
   have bD:=zv T
   obtain⟨F,aA⟩:=zt E.args T
   have aE:E.args.drop T=F::E.args.drop (T+1):=by
    obtain⟨ae,B⟩:=Zb.1 aA
    rw[Zr ae,B]
   obtain⟨w,pc,KH⟩:=has.get T F aA
   obtain⟨cN,cB,ea⟩:=(cC.aa iT).one pc
   rw[aE,ug]at bw
   have eN:=W1 (Zn aA)
   have cM:=bK
   rw[<-VJ _ Zo Zo]at cM
   have dZ:cZ X a1 2 (.ptr j 0)=some (.agg [.str c.1, .bool c.2]):=by rw[il,bp cM,bp cM];rfl
   have cw:b<bG:=bq b ag
   have RS:aI X a1 (.ptr b 0)=some (.Z E.kind):=zB (iT b ag) a0
   have Gs:aI X a1 (.ptr b 2)=some (.str E.name):=zB (iT b ag) b6
   have key:∀(H:cU) (bN:R af) (cf:Nat) (P2:R af->Nat->Prop),H.g 0=some b8->H.g 9=some w->H.g 10=some (.ptr bn 0)->H.g 3=some (.func (.func y) sa hS)->bn<cf->(∀e,e<bn->U X bN e=U X a1 e)->cZ X bN 2 (.ptr bn 0)=some (ga (s8 t E.kind E.name c T))->
    (∀bY dv,dJ (AZ t step F (s8 t E.kind E.name c T) eX) bY dv->j<dv->(∀e,P e->U X bY e=U X aK e)->(∀e,bG<=e->e<j+1->U X bY e=U X aJ e)->P2 bY dv)->
    cz (H.g 0) λwA=>cz (H.g 9) λaCh=>cz (H.g 10) λaCi=>ar (cZ X bN 2 aCi) λaCO=>cz (H.g 3) λIU=>aW X 20 [wA,aCh,aCO,IU] bN cf (λ_ anU ayv=>P2 anU ayv) (λ_ _ _=>False):=by
    intro H bN cf P2 aCE IX ai2 wE afk dY ae8 aH
    rw[aCE,IX,ai2,wE]
    refine mS (mS (mS ?_))
    rw[ae8]
    refine oB (mS ?_)
    refine(ai F Zo eX w _ bN cf (D9 _ _ _ bN cf Va Zo dY) (jT E c T F Y aA) (cE.aa (λe B=>by rw[dY e (zq (bq e B)),iT e B]) _ _ KH)).Zm ?_
    rintro ac bY dv ⟨rfl,Ln,o7,qI,aw9⟩
    exact aH bY dv Ln Zo (λe B=>by rw[qI e B,dY e (zq (bq e B)),iT e B]) (λe J Q=>by rw[aw9 e J Zo,dY e Zo,VJ e J Q])
   by_cases dk:E.kind=6
   ·have hF:decide (E.kind=6)=true:=by simp[dk]
    have KE:s8 t E.kind E.name c T=gW t E.name:=by unfold s8;rw[Zp dk]
    refine et @rL @rK @p5 @t6 @t1 @t0 (Za @d (Za @cN (Za @cB @dZ))) ⟨?_⟩
    generalize e1:Go.ba.bi X _ bn _=bA
    have d1:∀e,e<bn->U X bA e=U X a1 e:=λe B=>by rw[<-e1];exact zw
    have dF:∃oa,U X bA bn=some (.cells oa 2 .own):=⟨_,by rw[<-e1,bb Zo];rfl⟩
    clear e1
    have wT:aI X bA (.ptr b 0)=some (.Z E.kind):=zB (d1 b Zo) RS
    have RT:aI X bA (.ptr b 2)=some (.str E.name):=zB (d1 b Zo) Gs
    obtain⟨oa,dF⟩:=dF
    refine gb @t1 @t0 @wT @hF @RT ⟨?_⟩
    refine(Is (j:=bn+1) au Zo ((fe _ _ _ Va).2.aa (S':=bA) (bg:=ks) (λe B=>d1 e (zq (oe e B))) (λ_ a=>a)) (λe B=>zq (oe e B)) E.name).Zm ?_
    rintro ac bN cf ⟨rfl,dR⟩
    have iH:=dR.le
    rw[<-dR.aa _ Zo]at dF
    unfold ga
    refine o1 @dF ⟨?_⟩
    refine key _ _ cf _ (aZ t0) (be) (be) (aZ t3) Zo (λe B=>by rw[aC Zo Zo,dR.aa e Zo,d1 e B]) (by rw[KE,il,bp (bb Zo),bp (bb Zo)];erw [p9,qa];rfl) (λbY dv J Q ak ay=> ?_)
    refine cL @rL @bD ⟨?_⟩
    exact⟨m,Zo,T+1,_,aZ t0,aZ t1,aZ t3,aZ t6,aZ p5,aZ rK,be,Zo,J,Q,ak,ay,bw⟩
   ·have hF:decide (E.kind=6)=false:=by simp[dk]
    by_cases AA:E.kind=24
    ·have Bz:decide (E.kind=24)=true:=by simp[AA]
     have KE:s8 t E.kind E.name c T=(E.name,decide (T=1)):=by unfold s8;rw[Zh dk,Zp AA]
     have DO:decide ((T:Int)=1)=decide (T=1):=by by_cases a:T=1<;>simp[a];omega
     refine et @rL @rK @p5 @t6 @t1 @t0 (Za @d (Za @cN (Za @cB @dZ))) ⟨?_⟩
     generalize e1:Go.ba.bi X _ bn _=bA
     have d1:∀e,e<bn->U X bA e=U X a1 e:=λe B=>by rw[<-e1];exact zw
     have dF:∃oa,U X bA bn=some (.cells oa 2 .own):=⟨_,by rw[<-e1,bb Zo];rfl⟩
     clear e1
     have wT:aI X bA (.ptr b 0)=some (.Z E.kind):=zB (d1 b Zo) RS
     have RT:aI X bA (.ptr b 2)=some (.str E.name):=zB (d1 b Zo) Gs
     obtain⟨oa,dF⟩:=dF
     refine et @t1 @wT @hF @RT @Bz @DO @dF ⟨?_⟩
     refine key _ _ (bn+1) _ (aZ t0) (be) (be) (aZ t3) Zo (λe B=>by rw[aC Zo Zo,d1 e B]) (by rw[KE,il,bp (bb Zo),bp (bb Zo)];erw [p9,qa];rfl) (λbY dv J Q ak ay=> ?_)
     refine cL @rL @bD ⟨?_⟩
     exact⟨m,Zo,T+1,_,aZ t0,aZ t1,aZ t3,aZ t6,aZ p5,aZ rK,be,Zo,J,Q,ak,ay,bw⟩
    ·have Bz:decide (E.kind=24)=false:=by simp[AA]
     have KE:s8 t E.kind E.name c T=c:=by unfold s8;rw[Zh dk,Zh AA]
     refine et @rL @rK @p5 @t6 @t1 @t0 (Za @d (Za @cN (Za @cB @dZ))) ⟨?_⟩
     generalize e1:Go.ba.bi X _ bn _=bA
     have d1:∀e,e<bn->U X bA e=U X a1 e:=λe B=>by rw[<-e1];exact zw
     have dF:U X bA bn=zu [.str c.1, .bool c.2] 2:=by rw[<-e1,bb Zo];rfl
     clear e1
     have wT:aI X bA (.ptr b 0)=some (.Z E.kind):=zB (d1 b Zo) RS
     refine fW @t1 @wT @hF @Bz ⟨?_⟩
     refine key _ _ (bn+1) _ (aZ t0) (be) (be) (aZ t3) Zo (λe B=>by rw[d1 e B]) (by rw[KE,il,bp dF,bp dF];rfl) (λbY dv J Q ak ay=> ?_)
     refine cL @rL @bD ⟨?_⟩
     exact⟨m,Zo,T+1,_,aZ t0,aZ t1,aZ t3,aZ t6,aZ p5,aZ rK,be,Zo,J,Q,ak,ay,bw⟩
end
section
variable{X:ch}{h S' eF aK aJ:R af}{j am aM aR bG hS gq:Nat}{P ks bg:Nat->Prop}
structure Dn(X:ch)(eF:R af)(bG hS:Nat)(f:Option Int)(h:R af)(n:Nat):Prop where
 le:bG<=n
 cell:∃c,U X h hS=some (.cells c 2 .own)/\c.get 0=some (.Z (if f.isSome then 27 else 0))/\c.get 1=some (.Z (f.getD 0))
 low:∀e,e<bG->e≠hS->U X h e=U X eF e
def Dn.aa{f:Option Int}(a:Dn X eF bG hS f aK aM)(Un:hS<bG)(f4:aM<=aR)(y:∀e,e<aM->U X aJ e=U X aK e):Dn X eF bG hS f aJ aR:=by
 have az:=a.le
 obtain⟨c,g,jb,bK⟩:=a.cell
 exact⟨Zo,⟨c,by rw[y _ Zo];exact g,jb,bK⟩,λe J Q=>by rw[y e Zo];exact a.low e J Q⟩
def aym(au:di X){b8:D}{t:aX->Option c8}{E:bB}{v:D}{c:e4}{f:Option Int}(aF:(o X).a6<=hS)(Un:hS<bG)(a8:ia X eF ks b8 t)(oe:∀e,ks e->e<bG/\e≠hS)(so:gq<bG)(avS:gq≠hS)(eZ:aI X eF (.ptr gq 0)=some b8)(bz:cE X h P E v)(bq:∀e,P e->e<bG/\e≠hS)(fe:Dn X eF bG hS f h j):
 aW X 50 (([]++[v,ga c])++[.ptr hS 0, .ptr gq 0]) h j (λac S' am=>Dn X eF bG hS (CG t f E c) S' am/\j<=am/\(∀e,P e->U X S' e=U X h e)/\∀e,bG<=e->e<j->U X S' e=U X h e) (λ_ _ _=>False):=by
 refine zx au (amd X) ?_
 rw[Yn]
 show cY X 50 [v,ga c, .ptr hS 0, .ptr gq 0] _ _ _ _
 rw[ame]
 unfold aaz
 have f4:=fe.le
 refine q6 ?_
 generalize de:Go.ba.bi X h j _=aK
 have bK:U X aK j=zu [.str c.1, .bool c.2] 2:=by rw[<-de,bb Zo];rfl
 have bW:∀e,e<j->U X aK e=U X h e:=λe B=>by rw[<-de,aC Zo Zo]
 clear de
 have l1:∀e,P e->U X aK e=U X h e:=λe B=>bW e (zq (bq e B))
 have vQ:=cE.aa l1 _ _ bz
 have BU:=fe.aa (aR:=j+1) Un Zo bW
 obtain⟨cc,G5,bE,eQ⟩:=BU.cell
 obtain⟨b,aS,cO,br,rfl,ag,a0,JA,_⟩:=id vQ.open
 have eU:=bq b ag
 have aet:b≠hS:=eU.2
 have lt:aI X aK (.ptr gq 0)=some b8:=zB (BU.low gq so avS) eZ
 have cr:cZ X aK 2 (.ptr j 0)=some (ga c):=by rw[il,bp bK,bp bK];rfl
 cases f with
 |some F=>
  have Um:cc.get 0=some (.Z 27):=bE
  have d:decide ((27:Int)=0)=false:=rfl
  refine ed (bp G5) @Um @d ⟨?_⟩
  exact⟨BU,Zo,l1,λe J Q=>bW e Q⟩
 |none=>
  have Um:cc.get 0=some (.Z 0):=bE
  have d:decide ((0:Int)=0)=true:=rfl
  refine gb (bp G5) @Um @d @lt @cr ⟨?_⟩
  refine(arh (j:=j+1) au Zo (a8.aa (S':=aK) (bg:=ks) (λe B=>by have:=oe e B;exact BU.low e this.1 this.2) (λ_ a=>a)) (λe B=>zq (oe e B)) vQ (λe B=>zq (bq e B)) c).Zm ?_
  rintro ac aJ aR ⟨rfl,bC⟩
  have fC:=bC.le
  have vH:=BU.aa (aR:=aR) Un fC bC.aa
  rw[<-bC.aa _ Zo]at G5
  have cq:∀e,e<j->U X aJ e=U X h e:=λe B=>by rw[bC.aa e Zo,bW e B]
  cases OY:Kc t E c with
  |true=>
   have bo:CG t none E c=none:=by simp[CG,Qe,OY]
   rw[bo]
   refine cI ⟨?_⟩
   exact⟨vH,Zo,λe B=>cq e (zq (bq e B)),λe J Q=>cq e Q⟩
  |false=>
   have bo:CG t none E c=some E.at_:=by simp[CG,Qe,OY]
   rw[bo]
   rw[<-bC.ep _ _ Zo]at JA
   refine cL @JA @G5 ⟨?_⟩
   generalize e0:Go.ba.bi X aJ hS _=a1
   have cM:∃gZ,U X a1 hS=some (.cells gZ 2 .own):=⟨_,by rw[<-e0,bb aF]⟩
   have cS:∀e,e≠hS->U X a1 e=U X aJ e:=λe B=>by rw[<-e0,aC aF B]
   clear e0
   obtain⟨gZ,cM⟩:=cM
   have abJ:aI X a1 (.ptr b 1)=some (.Z E.at_):=zB (cS b aet) JA
   refine ce @abJ ⟨?_⟩
   refine gp (by simp[D.same,pk]) ?_
   refine ce @cM ⟨?_⟩
   generalize e1:Go.ba.bi X a1 hS _=bA
   have dF:∃oa,U X bA hS=some (.cells oa 2 .own)/\oa.get 0=some (.Z 27):=⟨_,by rw[<-e1,bb aF],by rw[ix];rfl⟩
   have d1:∀e,e≠hS->U X bA e=U X a1 e:=λe B=>by rw[<-e1,aC aF B]
   clear e1
   obtain⟨oa,dF,arG⟩:=dF
   have aor:aI X bA (.ptr b 1)=some (.Z E.at_):=zB (d1 b aet) abJ
   refine ce @aor ⟨?_⟩
   refine gp (by simp[D.same,pk]) ?_
   refine ce @dF ⟨?_⟩
   have ev:∀e,e≠hS->e<j->U X (Go.ba.bi X bA hS (some (.cells (dT oa 1 [.Z E.at_]) 2 .own))) e=U X h e:=λe J Q=>by rw[aC aF J,d1 e J,cS e J,cq e Q]
   refine⟨⟨Zo,⟨_,bb aF,by rw[ix];simpa using arG,by rw[ix];rfl⟩,λe J Q=>by rw[aC aF Q,d1 e Q,cS e Q];exact vH.low e J Q⟩,Zo,λe B=>ev e (bq e B).2 (zq (bq e B)),λe J Q=>ev e Zo Q⟩
def azv(au:di X){b8:D}{t:aX->Option c8}{c:e4}{bO:Nat}(aF:(o X).a6<=j)(a8:ia X h ks b8 t)(oe:∀e,ks e->e<j)(so:gq<j)(eZ:aI X h (.ptr gq 0)=some b8)(iF:bO<j)(lc:cZ X h 2 (.ptr bO 0)=some (ga c))(w:aX):
 aW X 48 [.str w, .ptr gq 0, .ptr bO 0] h j (λac S' am=>ac= .bool (decide (gW t w≠c))/\bf X h j S' am) (λ_ _ _=>False):=by
 refine zx au (amb X) ?_
 rw[amc]
 unfold aav
 refine cL @eZ @lc ⟨?_⟩
 refine(Is (j:=j+6) au Zo a8 (λe B=>zq (oe e B)) w).Zm ?_
 rintro ac aK aM ⟨rfl,bH⟩
 have jG:=bH.le
 have axB:cZ X aK 2 (.ptr bO 0)=some (ga c):=by rw[<-lc,il,il,bH.ep _ _ Zo,bH.ep _ _ Zo]
 refine cL @Wm @axB ⟨?_⟩
 refine gp (NE c) ?_
 refine⟨?_,bH.ko Zo⟩
 by_cases a:gW t w=c<;>simp[a]
def azw(au:di X){b8:D}{t:aX->Option c8}{c:e4}{bO b:Nat}{aS:D}{g8:List aX}(aF:(o X).a6<=j)(a8:ia X h ks b8 t)(oe:∀e,ks e->e<j)(so:gq<j)(eZ:aI X h (.ptr gq 0)=some b8)(iF:bO<j)(lc:cZ X h 2 (.ptr bO 0)=some (ga c))(Y:dL X h P b aS 1 (fL g8))(bq:∀e,P e->e<j):
 aW X 49 [aS, .func (.func 48) [] [.ptr gq 0, .ptr bO 0]] h j (λac S' am=>ac= .bool (g8.any λw=>decide (gW t w≠c))/\bf X h j S' am) (λ_ _ _=>False):=by
 refine zx au (aaw X) ?_
 rw[aax]
 unfold RL
 refine aW.mono (ah:=λac S' am=>(∃r:Int,ac= .Z r/\(0<=r↔(g8.any λw=>decide (gW t w≠c))=true))/\bf X h j S' am) (av:=λ_ _ _=>False) ?_ ?_ (λ_ _ _ a=>a.elim)
 ·refine zx au (aa3 X) ?_
  rw[aa4]
  unfold RO
  have d2:=Y.len
  have ik:=Y.many
  rw[show(fL g8).length=g8.length from by simp[fL]]at d2 ik
  refine ce @d2 ⟨?_⟩
  refine fp (λm H S' aP=>∃(T:Nat),H.g 0=some aS/\H.g 1=some (.func (.func 48) [] [.ptr gq 0, .ptr bO 0])/\H.g 7=some (.Z (g8.length:Int))/\H.g 8=some (.Z (T:Int))/\T+m=g8.length/\bf X h j S' aP/\(g8.any λw=>decide (gW t w≠c))=(g8.drop T).any λw=>decide (gW t w≠c))
   g8.length ⟨0,be,be,be,fO,Zo,bf.refl _ _,rfl⟩ ?_
  rintro m H aK aM ⟨T,t0,t1,t7,t8,bJ,bH,BZ⟩
  have jG:=bH.le
  cases m with
  |zero=>
   have d:=zr T g8.length
   rw[ZD Zo]at BZ
   refine ed @t8 @t7 @d ⟨?_⟩
   exact⟨⟨-1,rfl,by rw[BZ];simp⟩,bH⟩
  |succ m=>
   have d:=zs T g8.length
   have bD:=zv T
   obtain⟨w,pc⟩:=zt g8 T
   have aE:g8.drop T=w::g8.drop (T+1):=by
    obtain⟨ae,B⟩:=Zb.1 pc
    rw[Zr ae,B]
   rw[aE,List.any_cons]at BZ
   have dw:=Y.fI T (by simp[fL];omega)
   have g1:=(Y.aa (λe B=>bH.aa e (bq e B))).cell T [.str w] 0 (.str w) (by unfold fL;rw[Zw,pc];rfl) rfl
   rw[Z5]at dw
   rw[Z5,ZX]at g1
   refine et @t8 @t7 @t1 @t0 @d @dw @g1 ⟨?_⟩
   refine(azv (j:=aM) (c:=c) au Zo (a8.aa (bg:=ks) (λe B=>bH.aa e (oe e B)) (λ_ a=>a)) (λe B=>zq (oe e B)) Zo (by rw[bH.ep _ _ so];exact eZ) (show bO<aM by omega) (by rw[<-lc,il,il,bH.ep _ _ iF,bH.ep _ _ iF]) w).Zm ?_
   rintro ac aJ aR ⟨rfl,bC⟩
   refine pI ⟨?_⟩
   refine gk ?_
   refine Bu (λbw=> ?_) (λbw=> ?_)
   ·refine cI ⟨?_⟩
    exact⟨⟨T,rfl,by rw[BZ];simp[bw]⟩,bH.trans bC⟩
   ·refine cL @t8 @bD ⟨?_⟩
    exact⟨m,Zo,T+1,aZ t0,aZ t1,aZ t7,be,Zo,bH.trans bC,by rw[BZ];simp[bw]⟩
 ·rintro ac aK aM ⟨⟨r,rfl,Y⟩,bT⟩
  refine cI ⟨?_⟩
  refine⟨?_,bT⟩
  congr 1
  generalize (g8.any λw=>decide (gW t w≠c))=aj at Y
  cases aj with
  |true=>simp[Y.2 rfl]
  |false=>simp at Y;simp;omega
end
def GY(t:aX->Option c8)(aj:f8):Option Int:=if (aj.left.any λw=>decide (gW t w≠gW t (aj.left.headD [])))=true then some aj.at_ else IZ t aj.right (gW t (aj.left.headD [])) none
def CK(g:Go.aQ.Node)(iv:Bool):Int×Int:=if (lv (dl g) (su g) g iv).1≠0 then lv (dl g) (su g) g iv else match g.eqs.findSome? (GY (dl g))with
 |some F=>(27,F)
 |none=>(0,0)
def are{α:Type}{p:α->Option Int}{k:List α}{T:Nat}(a:k.findSome? p=(k.drop T).findSome? p)(bJ:k.length<=T):k.findSome? p=none:=by
 rw[a,ZD bJ];rfl
def ard{α:Type}{p:α->Option Int}{k:List α}{T:Nat}{x:α}(a:k.findSome? p=(k.drop T).findSome? p)(ae:k[T]? =some x)(aw:p x=none):k.findSome? p=(k.drop (T+1)).findSome? p:=by
 obtain⟨J,Q⟩:=Zb.1 ae
 rw[a,Zr J,Q,List.findSome?_cons,aw]
def adb{α:Type}{p:α->Option Int}{k:List α}{T:Nat}{x:α}{F:Int}(a:k.findSome? p=(k.drop T).findSome? p)(ae:k[T]? =some x)(aw:p x=some F):k.findSome? p=some F:=by
 obtain⟨J,Q⟩:=Zb.1 ae
 rw[a,Zr J,Q,List.findSome?_cons,aw]
def ahB:∀(k:List (Int×ey)) (s:(aX->Option c8)×List aX),(∀w,s.1 w≠none->w∈s.2)->(∀w,(k.foldl kD s).1 w≠none->w∈(k.foldl kD s).2)/\(k.foldl kD s).2.length<=s.2.length+k.length:=by
 intro k
 induction k with
 |nil=>intro s a;exact⟨a,Zs⟩
 |cons x k ai=>
  intro s a
  rw[Z0]
  have J:∀w,(kD s x).1 w≠none->w∈(kD s x).2:=by
   intro w
   unfold kD
   split
   ·exact a w
   ·simp only
    split
    ·rename_i E;subst E;simp
    ·intro bw;exact List.mem_append_left _ (a w bw)
  have Q:(kD s x).2.length<=s.2.length+1:=by
   unfold kD
   split
   ·omega
   ·simp
  obtain⟨F,b⟩:=ai _ J
  exact⟨F,by simp only[ZF];omega⟩
def azt(y:Nat)(t:aX->Option c8)(x:aX×Nat)(w:aX)(a:rE y t x w≠none):t w≠none:=by
 unfold rE at a
 cases bv:t x.1 with
 |none=>rw[bv]at a;exact a
 |some v=>
  rw[bv]at a
  simp only at a
  by_cases J:v.eq<0
  ·rw[Zp J]at a
   by_cases Q:w=x.1
   ·rw[Q,bv];simp
   ·rw[Zh Q]at a;exact a
  ·rw[Zh J]at a;exact a
def adl{α:Type}(f:(aX->Option c8)->α->aX->Option c8)(cb:∀t x w,f t x w≠none->t w≠none):∀(k:List α) (t:aX->Option c8) (w:aX),k.foldl f t w≠none->t w≠none:=by
 intro k
 induction k with
 |nil=>intro t w a;exact a
 |cons x k ai=>intro t w a;rw[Z0]at a;exact cb t x w (ai _ w a)
def Xe(g:Go.aQ.Node)(w:aX)(a:dl g w≠none):w∈ld g:=by
 unfold dl at a
 have J:=adl Ix (λt x w a=>adl (rE x.2) (azt x.2) _ t w a) _ _ _ a
 exact(ahB (gy g) (λ_=>none,[]) Zs).1 w J
def ahn(g:Go.aQ.Node):(ld g).length<=(gy g).length:=by
 have:=(ahB (gy g) (λ_=>none,[]) Zs).2
 simpa[ld,ns]using this
section
variable{X:ch}{h S' eF aK aJ:R af}{j am aM aR:Nat}{P:Nat->Prop}
set_option maxRecDepth 100000 in
def ayL(au:di X){g:Go.aQ.Node}{row:List D}(aF:(o X).a6<=j)(bP:oM X h P g row)(bq:∀e,P e->e<j)(bw:oN kt g)(bv:(kZ g).length<=100000)(aE1:(gy g).length<=100000)(iv:Bool):
 aW X 28 [.agg row, .bool iv] h j (λac S' am=>ac= .agg [.Z (CK g iv).1, .Z (CK g iv).2]/\bf X h j S' am) (λ_ _ _=>False):=by
 refine zx au (alB X) ?_
 rw[alC]
 unfold aac
 have KY:=bP
 have jI:=bP.ju
 have UN:=ahn g
 obtain⟨c5,dt,aS,eM,bZ,cu,c0,fE,bL,rfl,mH,k5,oj,jp,e6⟩:=bP
 refine cI ⟨?_⟩
 refine eL (λaK=>U X aK j=zu [.str g.name, .Z g.at_,c5,dt,aS,eM] 6/\U X aK (j+1)=zu [.Z 0, .Z 0] 2/\bf X h j aK (j+1+1))
  ⟨by simp(disch:=omega) only[aC,bb]<;>rfl,by rw[bb Zo];rfl,dA⟩ ?_
 rintro aK ⟨bK,b1,bH⟩
 have l1:∀e,P e->U X aK e=U X h e:=λe B=>bH.aa e (bq e B)
 refine(Qo (j:=j+1+1) au Zo (λe B=>zq (bq e B)) (KY.aa (bg:=P) l1 (λ_ a=>a)) Zo).Zm ?_
 rintro ac aJ aR ⟨b8,kS,rJ,dX,rfl,kj,xA,cN,cB, -, -,bC⟩
 have fC:=bC.le
 rw[<-bC.aa _ Zo]at bK b1
 have hp:=bH.trans bC
 have aFH:=kj.1
 have aFI:=kj.2
 have xF:ia X aJ (λe=>e<aR) (.ptr b8 0) (dl g):=⟨b8,kS,rfl,kj.2,xA.2,cN,cB⟩
 refine ce (bp bK) ⟨?_⟩
 refine eL (λa1=>U X a1 aR=zu [.ptr b8 0] 1/\∀e,e<aR->U X a1 e=U X aJ e)
  ⟨by simp(disch:=omega) only[aC,bb]<;>rfl,λe B=>zw⟩ ?_
 rintro a1 ⟨cM,cS⟩
 have OH:∀e,P e->e<aR:=λe B=>zq (bq e B)
 have iT:∀e,P e->U X a1 e=U X h e:=λe B=>by rw[cS e (OH e B)];exact hp.aa e (bq e B)
 rw[<-cS _ Zo]at bK b1
 have PE:ia X a1 (λe=>e<aR) (.ptr b8 0) (dl g):=xF.aa (λe B=>cS e B) (λ_ a=>a)
 refine(apV (j:=aR+1) (P:=λe=>e<aR) (t:=dl g) (fh:=ld g) au Zo PE (KY.aa (bg:=λe=>e<aR) iT OH) (λe B=>Zo) (Xe g) Zo bw.some bv iv).Zm ?_
 rintro ac bA cv ⟨rfl,cW⟩
 have iG:=cW.le
 rw[<-cW.aa _ Zo]at bK b1 cM
 have HC:∀e,e<j->U X bA e=U X h e:=λe B=>by rw[cW.aa e Zo,cS e Zo];exact hp.aa e B
 have v7:CK g iv=if (lv (dl g) ((ld g).length+1) g iv).1≠0 then lv (dl g) ((ld g).length+1) g iv else match g.eqs.findSome? (GY (dl g))with|some F=>(27,F)|none=>(0,0):=rfl
 generalize lv (dl g) ((ld g).length+1) g iv=f at v7 ⊢
 obtain⟨J8,sa⟩:=f
 by_cases cb:J8=0
 ·subst cb
  rw[Zh Zs]at v7
  have jn:decide ((0:Int)≠0)=false:=rfl
  have j4:=e6.wide
  have d2:=jp.len
  have ik:=jp.many
  rw[j4.1]at d2 ik
  have PF:ia X bA (λe=>e<aR) (.ptr b8 0) (dl g):=PE.aa (λe B=>cW.aa e Zo) (λ_ a=>a)
  generalize dl g=t at PF v7
  refine ed @jn (bp bK) @d2 ⟨?_⟩
  generalize iD:Go.ba.bi X _ cv _=bN
  have dY:∀e,e<cv->U X bN e=U X bA e:=λe B=>by rw[<-iD];exact zw
  clear iD
  rw[<-dY _ Zo]at bK b1 cM
  have avP:ia X bN (λe=>e<aR) (.ptr b8 0) t:=PF.aa (λe B=>dY e Zo) (λ_ a=>a)
  have Pg:∀e,e<j->U X bN e=U X h e:=λe B=>by rw[dY e Zo];exact HC e B
  refine fp (λm H S' aP=>∃(T:Nat),H.g 2=some (.ptr j 0)/\H.g 4=some (.ptr (j+1) 0)/\H.g 5=some (.ptr aR 0)/\H.g 23=some eM/\H.g 24=some (.Z (g.eqs.length:Int))/\H.g 25=some (.Z (T:Int))/\T+m=g.eqs.length/\bf X bN (cv+1) S' aP/\g.eqs.findSome? (GY t)=(g.eqs.drop T).findSome? (GY t))
   g.eqs.length ⟨0,be,be,be,be,be,fO,Zo,bf.refl _ _,rfl⟩ ?_
  rintro m H bY dv ⟨T,C5,u9,va,ai3,Xk,Xl,bJ,ej,tu⟩
  have o7:=ej.le
  have th:=b1
  have uC:=cM
  rw[<-ej.aa _ Zo]at th uC
  have Af:∀e,e<j->U X bY e=U X h e:=λe B=>by rw[ej.aa e Zo];exact Pg e B
  have Lr:ia X bY (λe=>e<aR) (.ptr b8 0) t:=avP.aa (λe B=>ej.aa e Zo) (λ_ a=>a)
  cases m with
  |zero=>
   have d:=zr T g.eqs.length
   rw[are tu Zo]at v7
   rw[v7]
   refine et @Xl @Xk @d @u9 @th @p9 @qa ⟨?_⟩
   exact⟨rfl,Zo,λe B=>by rw[aC Zo Zo];exact Af e B⟩
  |succ m=>
   have d:=zs T g.eqs.length
   have bD:=zv T
   obtain⟨aj,b3⟩:=zt g.eqs T
   have sn:=bw.eqs aj (Zn b3)
   have qI:∀e,P e->U X bY e=U X h e:=λe B=>Af e (bq e B)
   obtain⟨QF,tD,U4⟩:=(e6.aa (bg:=P) qI (λ_ a=>a)).get T aj b3
   have dw:=jp.fI T (by rw[j4.1];omega)
   have hs:=(jp.aa qI).row (i:=T) (r:=QF) Zd tD
   obtain⟨MA,kW,cX,dI,kF,rfl,nJ, -,rn,UV⟩:=U4
   obtain⟨bj,g8,uS⟩:∃bj g8,aj.left=bj::g8:=by
    cases a:aj.left with
    |nil=>exact absurd a sn.some
    |cons F k=>exact⟨F,k,rfl⟩
   have auj:aj.left.headD []=bj:=by rw[uS];rfl
   have Uw:gt 1 MA (.Z 0)=some (.ptr cX 0):=by
    have:=nJ.fI 0 (by rw[uS];simp[fL])
    simpa using this
   have af5:aI X bY (.ptr cX 0)=some (.str bj):=by
    have:=nJ.cell 0 [.str bj] 0 (.str bj) (by rw[uS];rfl) rfl
    simpa using this
   have tq:cX<j:=bq cX (nJ.ag (by rw[uS];simp[fL]))
   have B3:GY t aj=if (aj.left.any λw=>decide (gW t w≠gW t bj))=true then some aj.at_ else IZ t aj.right (gW t bj) none:=by unfold GY;rw[auj]
   refine ih @Xl @Xk @ai3 @d @dw @hs ⟨?_⟩
   refine f7 (iJ (y:=4) (b:=dv) (V:=0) (n:=4) (c:=R.ofList [.aT, .aT, .Z 0, .cF] 0 .nil) (bb Zo) Zo rfl Zd Zd UV) ?_
   generalize kO:Go.ba.bi X _ dv _=cn
   have ek:U X cn dv=zu [MA,kW, .Z aj.at_,kF] 4:=by rw[<-kO,bb Zo];rfl
   have fJ:∀e,e<dv->U X cn e=U X bY e:=λe B=>by rw[<-kO];exact zw
   clear kO
   rw[<-fJ _ Zo]at th uC
   have av4:aI X cn (.ptr cX 0)=some (.str bj):=zB (fJ _ Zo) af5
   refine gb @va (bp uC) (bp ek) @Uw @av4 ⟨?_⟩
   refine eL (λdC=>U X dC (dv+1+6)=zu [.str [], .zF] 2/\∀e,e<dv+1->U X dC e=U X cn e)
    ⟨by rw[bb Zo];rfl,λe B=>zw⟩ ?_
   rintro dC ⟨fN,gM⟩
   rw[<-gM _ Zo]at th uC ek
   have avQ:ia X dC (λe=>e<aR) (.ptr b8 0) t:=Lr.aa (λe B=>by rw[gM e Zo,fJ e Zo]) (λ_ a=>a)
   refine(Is (j:=dv+1+8) au Zo avQ (λe B=>Zo) bj).Zm ?_
   rintro ac dW d4 ⟨rfl,hc⟩
   have pQ:=hc.le
   rw[<-hc.aa _ Zo]at th uC ek fN
   generalize gW t bj=oW at B3
   unfold ga
   refine ed @fN @va (bp ek) ⟨?_⟩
   refine eL (λf2=>(∃cc,U X f2 (dv+1+6)=some (.cells cc 2 .own)/\cc.get 0=some (.str oW.1)/\cc.get 1=some (.bool oW.2))/\∀e,e≠dv+1+6->U X f2 e=U X dW e)
    ⟨⟨_,bb Zo,by exact p9 _ _ _,by exact qa _ _ _⟩,λe B=>aC Zo B⟩ ?_
   rintro f2 ⟨⟨cc,gc,Sn,So⟩,js⟩
   rw[<-js _ Zo]at th uC ek
   have VK:∀e,e<dv->U X f2 e=U X bY e:=λe B=>by rw[js e Zo,hc.aa e Zo,gM e Zo,fJ e B]
   have PG:ia X f2 (λe=>e<aR) (.ptr b8 0) t:=Lr.aa (λe B=>VK e Zo) (λ_ a=>a)
   have axD:cZ X f2 2 (.ptr (dv+1+6) 0)=some (ga oW):=by rw[il,bp gc,bp gc,Sn,So];rfl
   refine(azw (j:=d4) (gq:=aR) (bO:=dv+1+6) (c:=oW) (g8:=aj.left) au Zo PG (λe B=>Zo) Zo (by rw[bp uC];rfl) Zo axD (nJ.aa (λe B=>VK e (zq (bq e B)))) (λe B=>zq (bq e B))).Zm ?_
   rintro ac q2 sA ⟨rfl,TJ⟩
   have afc:=TJ.le
   rw[<-TJ.aa _ Zo]at th uC ek gc
   have agD:∀e,e<dv->U X q2 e=U X bY e:=λe B=>by rw[TJ.aa e Zo,VK e B]
   cases BZ:(aj.left.any λw=>decide (gW t w≠oW))with
   |true=>
    rw[Zp BZ]at B3
    rw[adb tu b3 B3]at v7
    rw[v7]
    refine gb (bp ek) @u9 @th @p9 @qa ⟨?_⟩
    exact⟨rfl,Zo,λe B=>by rw[aC Zo Zo,agD e Zo];exact Af e B⟩
   |false=>
    rw[Zh (by rw[BZ];simp)]at B3
    have axE:cZ X q2 2 (.ptr (dv+1+6) 0)=some (.agg [.str oW.1, .bool oW.2]):=by rw[il,bp gc,bp gc,Sn,So];rfl
    refine pI ⟨?_⟩
    refine gk ?_
    refine et @va (bp uC) (bp ek) @axE (bp gc) @Sn @So ⟨?_⟩
    generalize T0:Go.ba.bi X q2 sA _=lP
    have arV:U X lP sA=zu [.Z 0, .Z 0] 2:=by rw[<-T0,bb Zo];rfl
    have ES:∀e,e<sA->U X lP e=U X q2 e:=λe B=>by rw[<-T0,aC Zo Zo]
    clear T0
    rw[<-ES _ Zo]at th uC ek gc
    have P0:∀e,e<dv->U X lP e=U X bY e:=λe B=>by rw[ES e Zo,agD e B]
    have uQ:ia X lP (λe=>e<aR) (.ptr b8 0) t:=Lr.aa (λe B=>P0 e Zo) (λ_ a=>a)
    have at4:cE X lP P aj.right kF:=cE.aa (λe B=>P0 e (zq (bq e B))) _ _ rn
    have OB:Dn X lP (sA+1) sA none lP (sA+1):=⟨Zj _,⟨_,arV,rfl,rfl⟩,λ_ _ _=>rfl⟩
    refine(ajg au t (CG t) P (λe=>e<aR) (sA+1) (.ptr b8 0) (Dn X lP (sA+1) sA) 50 [] [.ptr sA 0, .ptr aR 0] Zo (λe B=>zq (bq e B)) (λe B=>Zo)
     (λs h n a=>⟨a.le,uQ.aa (λe B=>a.low e Zo Zo) (λ_ a=>a)⟩) (λs h n S' aP a f4 y=>a.aa Zo f4 y)
     (λ_ _=>True) (λ_ _ _ _ _ _=>trivial) (λs E v c h j a _ bz=>aym au Zo Zo uQ (λe B=>⟨Zo,Zo⟩) Zo Zo (by rw[bp uC];rfl) bz (λe B=>by have:=bq e B;exact⟨Zo,Zo⟩) a) _ aj.right (Yh _) none kF oW lP (sA+1) OB trivial at4).Zm ?_
    rintro ac Bk jJ ⟨rfl,TU,auz,aFe,aFf⟩
    rw[<-aje]at TU
    obtain⟨GL,adw,NB,acd⟩:=TU.cell
    have eV:∀e,e<sA->U X Bk e=U X lP e:=λe B=>TU.low e Zo Zo
    rw[<-eV _ Zo]at th uC ek
    cases af7:IZ t aj.right oW none with
    |none=>
     rw[af7]at B3 NB
     have Sq:GL.get 0=some (.Z 0):=NB
     refine gb (bp adw) @Sq @jn @Xl @bD ⟨?_⟩
     exact⟨m,Zo,T+1,aZ C5,aZ u9,aZ va,aZ ai3,aZ Xk,be,Zo,⟨Zo,λe B=>by rw[eV e Zo,P0 e Zo];exact ej.aa e B⟩,ard tu b3 B3⟩
    |some F=>
     rw[af7]at B3 NB acd
     rw[adb tu b3 B3]at v7
     rw[v7]
     have Sq:GL.get 0=some (.Z 27):=NB
     have apm:GL.get 1=some (.Z F):=acd
     have apS:decide ((27:Int)≠0)=true:=rfl
     refine et (bp adw) @Sq @apm @apS @u9 @th (Za @p9 @qa) ⟨?_⟩
     exact⟨rfl,Zo,λe B=>by rw[aC Zo Zo,eV e Zo,P0 e Zo];exact Af e B⟩
 ·rw[Zp (by simpa using cb)]at v7
  rw[v7]
  have jn:decide (J8≠0)=true:=by simp[cb]
  refine fW @jn @b1 @p9 @qa ⟨?_⟩
  refine⟨rfl,Zo,λe B=> ?_⟩
  simp(disch:=omega) only[aC]
  exact HC e B
end
def w3(n:Nat):Nat->List Go.aQ.Node->Int×Int
 |_,[]=>(0,0)
 |y,g::k=>if (CK g (decide (y+1=n))).1≠0 then CK g (decide (y+1=n))else w3 n (y+1) k
def Ms(an:List Go.aQ.Node):Int×Int:=if (mV an).1≠0 then mV an else w3 an.length 0 an
section
variable{X:ch}{h S' eF aK aJ:R af}{j am aM aR:Nat}{P:Nat->Prop}
set_option maxRecDepth 100000 in
def aps(au:i2 X)(bT:l6 X)(d7:rW X)(iP:wL X)(ez:Dl X){an:List Go.aQ.Node}{p:D}(aF:(o X).a6<=j)(bP:oO X h P an p)(bq:∀e,P e->(o X).a6<=e/\e<j)(bw:∀g∈an,oN kt g)(aY:an≠[])(az:qK an=none):
 aW X 8 [p] h j (λac S' am=>ac= .agg [.Z (Ms an).1, .Z (Ms an).2]/\bf X h j S' am) (λ_ _ _=>False):=by
 refine zx au.todi (anu X) ?_
 rw[anv]
 unfold aa7
 obtain⟨qB,mJ⟩:=L0 az
 refine qk ?_
 generalize de:Go.ba.bi X h j _=aK
 have bK:U X aK j=zu [.Z 0, .Z 0] 2:=by rw[<-de,bb aF];rfl
 have bH:bf X h j aK (j+1):=by rw[<-de];exact dA
 clear de
 have l1:∀e,P e->U X aK e=U X h e:=λe B=>bH.aa e (bq e B).2
 refine(apt (j:=j+1) au bT d7 iP ez Zo (bP.aa (bg:=P) l1 (λ_ a=>a)) (λe B=>by have:=bq e B;exact⟨this.1,Zo⟩) bw aY az).Zm ?_
 rintro ac aJ aR ⟨bc,bC⟩
 have fC:=bC.le
 rw[<-bC.aa _ Zo]at bK
 have hp:=bH.trans bC
 have sp:∃v,ac= .tuple [v, .agg [.Z (mV an).1, .Z (mV an).2]]:=by
  unfold Jd at bc
  by_cases a:(mV an).1=0
  ·rw[Zp a]at bc
   obtain⟨v,rfl,_⟩:=bc
   have Q:(mV an).2=0:=by
    unfold mV at a ⊢
    by_cases ax:(qm an).1≠0
    ·rw[Zp ax]at a;exact absurd a ax
    ·rw[Zh ax]at a ⊢
     cases b3:ML an with
     |some F=>rw[b3]at a;exact absurd a (show ¬(26:Int)=0 by decide)
     |none=>rfl
   exact⟨v,by rw[a,Q]⟩
  ·rw[Zh a]at bc
   exact⟨_,bc⟩
 clear bc
 obtain⟨v,rfl⟩:=sp
 have uO:Ms an=if (mV an).1≠0 then mV an else w3 an.length 0 an:=rfl
 generalize mV an=FA at uO ⊢
 obtain⟨rc,WF⟩:=FA
 by_cases cm:rc=0
 ·subst cm
  rw[Zh Zs]at uO
  have jn:decide ((0:Int)≠0)=false:=rfl
  obtain⟨b,aS,cO,bL,rfl,ag,a0,cC,kz⟩:=id bP
  have j4:=kz.wide
  have d2:=cC.len
  rw[j4.1]at d2
  have fY:=(bq b ag).2
  rw[<-hp.ep _ _ fY]at a0
  refine ed @jn @a0 @d2 ⟨?_⟩
  generalize e0:Go.ba.bi X _ aR _=a1
  have cS:∀e,e<aR->U X a1 e=U X aJ e:=λe B=>by rw[<-e0];exact zw
  clear e0
  rw[<-cS _ Zo]at bK
  have ck:bf X h j a1 (aR+1):=⟨Zo,λe B=>by rw[cS e Zo];exact hp.aa e B⟩
  refine fp (λm H S' aP=>∃(T:Nat),H.g 0=some (.ptr b 0)/\H.g 2=some (.ptr j 0)/\H.g 20=some aS/\H.g 21=some (.Z (an.length:Int))/\H.g 22=some (.Z (T:Int))/\T+m=an.length/\bf X h j S' aP/\j<aP/\U X S' j=zu [.Z 0, .Z 0] 2/\w3 an.length 0 an=w3 an.length T (an.drop T))
   an.length ⟨0,be,be,be,be,fO,Zo,ck,Zo,bK,rfl⟩ ?_
  rintro m H bA cv ⟨T,t0,ew,p5,rK,rL,bJ,cW,afj,dF,iQ⟩
  have mo:∀e,P e->U X bA e=U X h e:=λe B=>cW.aa e (bq e B).2
  cases m with
  |zero=>
   have d:=zr T an.length
   rw[ZD Zo,w3]at iQ
   rw[uO,iQ]
   refine et @rL @rK @d @ew @dF @p9 @qa ⟨?_⟩
   exact⟨rfl,Zo,λe B=>by rw[aC Zo Zo];exact cW.aa e B⟩
  |succ m=>
   have d:=zs T an.length
   have bD:=zv T
   have cG:bl .sub (.Z (an.length:Int)) (.Z 1)=some (.Z ((an.length:Int) -1)):=uV Zo Zo
   have ap2:decide ((T:Int)=(an.length:Int) -1)=decide (T+1=an.length):=by by_cases a:T+1=an.length<;>simp[a]<;>omega
   obtain⟨g,nI⟩:=zt an T
   have o6:=Zn nI
   have aE:an.drop T=g::an.drop (T+1):=by
    obtain⟨ae,B⟩:=Zb.1 nI
    rw[Zr ae,B]
   rw[aE,w3]at iQ
   obtain⟨row,fb,jH⟩:=kz.get T g nI
   have dw:=cC.fI T (by rw[j4.1];omega)
   have hs:=(cC.aa mo).row Zd fb
   have jI:=jH.ju
   have tB:=jH
   have wT:aI X bA (.ptr b 0)=some aS:=by rw[cl,cW.aa _ fY, <-hp.aa _ fY, <-cl];exact a0
   obtain⟨c5,dt,kX,eM,bZ,cu,c0,fE,h8,rfl,_⟩:=jH
   refine ih @rL @rK @p5 @d @dw @hs ⟨?_⟩
   refine f7 (iJ (y:=6) (b:=cv) (V:=0) (n:=6) (c:=R.ofList [.str [], .Z 0, .aT, .aT, .aT, .aT] 0 .nil) (bb Zo) Zo rfl Zd Zd jI) ?_
   generalize iD:Go.ba.bi X _ cv _=bN
   have fj:U X bN cv=zu [.str g.name, .Z g.at_,c5,dt,kX,eM] 6:=by rw[<-iD,bb Zo];rfl
   have dY:∀e,e<cv->U X bN e=U X bA e:=λe B=>by rw[<-iD];exact zw
   clear iD
   rw[<-dY _ Zo]at dF
   have an3:aI X bN (.ptr b 0)=some aS:=zB (dY _ Zo) wT
   refine ih @t0 (bp fj) @an3 @d2 @cG @ap2 ⟨?_⟩
   refine eL (λbY=>U X bY (cv+1+10)=zu [.Z 0, .Z 0] 2/\∀e,e<cv+1->U X bY e=U X bN e) ⟨by rw[bb Zo];rfl,λe B=>zw⟩ ?_
   rintro bY ⟨d0,dk⟩
   rw[<-dk _ Zo]at dF
   have Af:∀e,e<j->U X bY e=U X h e:=λe B=>by rw[dk e Zo,dY e Zo];exact cW.aa e B
   have As:=(mJ g o6).vars
   refine(ayL (j:=cv+1+12) au.todi Zo (tB.aa (bg:=P) (λe B=>Af e (bq e B).2) (λ_ a=>a)) (λe B=>zq (bq e B)) (bw g o6) (by simp[kZ];omega) (by rw[DQ];simp only[oA];omega) (decide (T+1=an.length))).Zm ?_
   rintro ac cn d8 ⟨rfl,eA⟩
   have ng:=eA.le
   rw[<-eA.aa _ Zo]at dF d0
   have K6:∀e,e<j->U X cn e=U X h e:=λe B=>by rw[eA.aa e Zo];exact Af e B
   generalize CK g (decide (T+1=an.length))=Qh at iQ ⊢
   obtain⟨J8,sa⟩:=Qh
   by_cases cb:J8=0
   ·subst cb
    rw[Zh Zs]at iQ
    refine fW @d0 @jn @rL @bD ⟨?_⟩
    exact⟨m,Zo,T+1,aZ t0,aZ ew,aZ p5,aZ rK,be,Zo,⟨Zo,λe B=>by rw[aC Zo Zo];exact K6 e B⟩,Zo,by rw[aC Zo Zo];exact dF,iQ⟩
   ·have bd:decide (J8≠0)=true:=by simp[cb]
    rw[Zp (by simpa using cb)]at iQ
    rw[uO,iQ]
    refine ih @d0 @bd @ew @dF @p9 @qa ⟨?_⟩
    refine⟨rfl,Zo,λe B=> ?_⟩
    simp(disch:=omega) only[aC]
    exact K6 e B
 ·rw[Zp (by simpa using cm)]at uO
  have jn:decide (rc≠0)=true:=by simp[cm]
  rw[uO]
  refine fW @jn @bK @p9 @qa ⟨?_⟩
  refine⟨rfl,Zo,λe B=> ?_⟩
  simp(disch:=omega) only[aC]
  exact hp.aa e B
end
end
open Go.ba
noncomputable section
variable (X : ch) (h : R af) (j : Nat) (ah av : bI) (a0 a7 b6 a3 a4 a5 hE ib iz : D)
def aah(a:aL)(b:D)(c:R af)(d:Nat)(e _:bI):Prop:=
 ar (dc a c .eql 47 true b .aT) λf=>bk (λb c d=>ar (hC 0 [] [] d) λf=>gu a c d f.1 f.2 λc d f=>e3 b λb=>hN (jP a d f 1 c b) d f λa b c=>e a b c) λa=>aV f (e .aT c d) (a (zy (cP [b]) 2 .aT 4 f) c d)
def alK:cY X 33 [a0] h j ah av=aah X a0 h j ah av:=Zk
def alJ:cQ X 33 1=true:=Zk
end
noncomputable section
section
variable{X:ch}{h S' eF aK aJ:R af}{j am aM aR:Nat}{P ks:Nat->Prop}
def ayH:dc X h .eql 47 true .aT .aT=some .zT:=Zk
def aBu(b V k c:Nat):dc X h .eql 47 true (.slice b V k c) .aT=some .zF:=Zk
def aBA(b V k c:Nat):dc X h .eql 47 true (.fc b V k c) .aT=some .zF:=Zk
def ayI{aS:D}{n:Nat}(a:gC aS=some (.Z (n:Int))):(aS= .aT/\n=0)\/dc X h .eql 47 true aS .aT=some .zF:=by
 cases aS with
 |aT=>rw[xO]at a;injection a with a;injection a with _ a;exact .inl ⟨rfl,Zo⟩
 |slice b V k c=>exact .inr (aBu b V k c)
 |fc b V k c=>exact .inr (aBA b V k c)
 |_=>simp[gC]at a
def azj(k:List aX):ju (fL k).flatten=true:=by
 induction k with
 |nil=>rfl
 |cons t k ai=>exact ai
def aiC(k:List aX):∀r∈fL k,r.length=1:=by
 intro r Y
 obtain⟨c,_,rfl⟩:=ZG.1 Y
 rfl
def ayz(au:di X){k:List aX}{b b8:Nat}{aS:D}(aF:(o X).a6<=j)(J:aI X h (.ptr b8 1)=some aS)(cC:dL X h P b aS 1 (fL k))(bo:k.length<=200000)(bq:∀e,P e->e<j):
 aW X 11 [.ptr b8 0] h j (λac S' am=>(∃dK,dL X S' (dx j am) dK ac 1 (fL k))/\bf X h j S' am) (λ_ _ _=>False):=by
 refine zx au (aks X) ?_
 rw[akt]
 unfold XR
 refine cL @acV @J ⟨?_⟩
 refine aW.mono (ah:=λac S' am=>(∃dK,dL X S' (dx j am) dK ac 1 (fL k))/\bf X h j S' am) (av:=λ_ _ _=>False) ?_ (λac S' aP a=>a) (λ_ _ _ a=>a.elim)
 refine zx au (alJ X) ?_
 rw[alK]
 unfold aah
 have d2:=cC.len
 have hJ:(fL k).length=k.length:=by simp[fL]
 rw[hJ]at d2
 rcases ayI (X:=X) (h:=h) d2 with ⟨rfl,aY⟩|dS
 ·have:k=[]:=Z9 aY
  subst this
  refine ce @ayH ⟨?_⟩
  exact⟨⟨0,dL.nil _ _⟩,bf.refl _ _⟩
 ·refine ce @dS ⟨?_⟩
  generalize de:Go.ba.bi X h j _=aK
  have bK:U X aK j=zu [] (0*1):=by rw[<-de,bb aF]
  have bH:bf X h j aK (j+1):=by rw[<-de];exact dA
  clear de
  have aD:=QH (cC.aa (λe B=>bH.aa e (bq e B))) Zd
  rw[hJ]at aD
  by_cases aY:k=[]
  ·subst aY
   have E:jP X aK (j+1) 1 (.slice j 0 0 0) aS=some (.val (.slice j 0 0 0)):=by simp only[jP,aD];rfl
   refine WM E ?_
   exact⟨⟨j,IE (bL:=[]) bK rfl Zs Zo ⟨Zo,Zo⟩⟩,bH⟩
  ·have aH:0<k.length:=Yj.2 aY
   have mj:(fL k).flatten.length=k.length*1:=by rw[uA (aiC k),hJ]
   obtain⟨eX,aJ,cw,aA,tG,eU,iR⟩:=gw.append (j:=j+1) (k:=[]) (cw:=[j]) (m:=(fL k).flatten) (.inr ⟨j,0,_, .own,rfl,rfl,rfl,bK,nk []⟩) Zd aD mj aH (azj k) (by rw[mj];simp;omega) Zo Zs
   refine j8 aA ?_
   obtain⟨cu,Q⟩:=tG.rH (P:=dx j (j+1+1)) (bL:=fL k) Zd (aiC k) (by rw[hJ];omega) (λe B=>by rcases(show e=j+1\/e=j by simpa using eU e B)with rfl|rfl<;>exact⟨Zo,Zo⟩)
   exact⟨⟨cu,Q⟩,⟨Zo,λe B=>by rw[iR e Zo Zx];exact bH.aa e B⟩⟩
end
section
variable{X:ch}{h S' eF aK aJ:R af}{j am aM aR:Nat}{P ks:Nat->Prop}
end
def Sv{an:List Go.aQ.Node}:∀(k:List Go.aQ.Node) (y:Nat),(GN an y k).1=0->∀g∈k,∃T,(rC an T g).1=0:=by
 intro k
 induction k with
 |nil=>intro y _ g bP;cases bP
 |cons F k ai=>
  intro y a g bP
  rw[GN]at a
  split at a
  ·rename_i J;exact absurd a J
  ·rename_i J
   rcases Zt.1 bP with rfl|bP
   ·exact⟨y,by simpa using J⟩
   ·exact ai _ a g bP
def aAQ{an:List Go.aQ.Node}(a:(qm an).1=0){g:Go.aQ.Node}(bP:g∈an){aj:f8}(b3:aj∈g.eqs):∃y,Jo (dl g) an y aj.right:=by
 obtain⟨y,aH⟩:=Sv an 0 a g bP
 unfold rC at aH
 rw[Xp]at aH
 have:=(WE (dl g) an y g.eqs (λ_=>none,td (dl g) g (u1 an y g)) (λ_=>Zs)).1 aH.1
 exact⟨y,this.2.2 aj b3⟩
def az4(E:bB):E∈sG E:=by cases E;rw[sG];exact Zv ..
def az2{E F x:bB}(aA:F∈E.args)(ae:x∈sG F):x∈sG E:=by
 have key:∀k:List bB,F∈k->x∈xW k:=by
  intro k
  induction k with
  |nil=>intro a;cases a
  |cons b k ai=>
   intro a
   rw[xW,Zz]
   rcases Zt.1 a with rfl|a
   ·exact .inl ae
   ·exact .inr (ai a)
 cases E
 rw[sG]
 exact Zu _ (key _ aA)
mutual
def ah5{bF:i7}:∀{E:bB},fi bF E->∀x∈sG E,yq bF x
 | .mk y F nm no t n args,a,x,ae=>by
   rw[fi]at a
   rw[sG]at ae
   rcases Zt.1 ae with rfl|ae
   ·exact a.1
   ·exact ah4 a.2 x ae
def ah4{bF:i7}:∀{k:List bB},gx bF k->∀x∈xW k,yq bF x
 |[],_,x,ae=>by rw[xW]at ae;cases ae
 |E::k,a,x,ae=>by
  rw[gx]at a
  rw[xW,Zz]at ae
  rcases ae with ae|ae
  ·exact ah5 a.1 x ae
  ·exact ah4 a.2 x ae
end
def yb(v:c8):Int×ey:=(v.kind,v.d)
def azu(y:Nat)(t:aX->Option c8)(x:aX×Nat)(w:aX):((rE y t x) w).map yb=(t w).map yb:=by
 unfold rE
 cases a:t x.1 with
 |none=>rfl
 |some v=>
  simp only[]
  split
  ·by_cases bw:w=x.1
   ·subst bw;simp[a,yb]
   ·simp[bw]
  ·rfl
def adn{α:Type}(s:(aX->Option c8)->α->(aX->Option c8))(aD:∀t x w,(s t x w).map yb=(t w).map yb):∀(k:List α) (t:aX->Option c8) (w:aX),(k.foldl s t w).map yb=(t w).map yb:=by
 intro k
 induction k with
 |nil=>intro t w;rfl
 |cons F k ai=>intro t w;rw[Z0,ai,aD]
def aCm(g:Go.aQ.Node)(w:aX):(dl g w).map yb=((ns g).1 w).map yb:=
 adn _ (λt x w=>adn _ (λt e w=>azu _ _ _ _) _ _ _) _ _ _
section
variable{t hh:aX->Option c8}
end
section
variable{t hh:aX->Option c8}
end
structure Jk(g:Go.aQ.Node):Prop where
 aDF:∀d∈kZ g,∃v,dl g d.name=some v/\v.d=d
 var:∀w v,dl g w=some v->v.d∈kZ g
 Wk:∀w,w∈ld g↔dl g w≠none
 on:∀d∈kZ g,d.on≠[]->dl g d.on≠none
 no:∀d∈kZ g,d.on=[]->d.no=false
def SQ{g:Go.aQ.Node}{d:ey}:d∈kZ g↔∃x∈gy g,x.2=d:=by
 simp only[kZ,gy,Zz,ZG]
 constructor
 ·rintro(a|a|a)
  ·exact⟨(1,d), .inl ⟨d,a,rfl⟩,rfl⟩
  ·exact⟨(2,d), .inr (.inl ⟨d,a,rfl⟩),rfl⟩
  ·exact⟨(3,d), .inr (.inr ⟨d,a,rfl⟩),rfl⟩
 ·rintro⟨x,(⟨e,a,rfl⟩|⟨e,a,rfl⟩|⟨e,a,rfl⟩),rfl⟩
  ·exact .inl a
  ·exact .inr (.inl a)
  ·exact .inr (.inr a)
def ay0:∀(k:List (Int×ey)) (s:(aX->Option c8)×List aX) (w:aX) (v:c8),s.1 w=some v->(k.foldl kD s).1 w=some v:=by
 intro k
 induction k with
 |nil=>intro s w v a;exact a
 |cons x k ai=>
  intro s w v a
  rw[Z0]
  refine ai _ w v ?_
  unfold kD
  by_cases aD:(s.1 x.2.name).isSome=true
  ·rw[Zp aD];exact a
  ·rw[Zh aD]
   simp only
   by_cases bw:w=x.2.name
   ·rw[<-bw,a]at aD;exact absurd rfl aD
   ·rw[Zh bw];exact a
def ay2:∀(k:List (Int×ey)) (s:(aX->Option c8)×List aX),(k.map λx=>x.2.name).Nodup->(∀x∈k,s.1 x.2.name=none)->∀x∈k,(k.foldl kD s).1 x.2.name=some ⟨x.1,x.2, -1, -1⟩:=by
 intro k
 induction k with
 |nil=>intro s _ _ x ae;cases ae
 |cons F k ai=>
  intro s aF aD x ae
  rw[ZP,zi]at aF
  rw[Z0]
  have J:kD s F=(λw=>if w=F.2.name then some ⟨F.1,F.2, -1, -1⟩else s.1 w,s.2++[F.2.name]):=by
   unfold kD;rw[Zh (by rw[aD F (Zv ..)];simp)]
  rw[J]
  rcases Zt.1 ae with rfl|ae
  ·exact ay0 _ _ _ _ (by simp only[ZE])
  ·refine ai _ aF.2 (λe B=> ?_) x ae
   simp only
   rw[Zh (λE=>aF.1 (by rw[<-E];exact ZG.2 ⟨e,B,rfl⟩))]
   exact aD e (Zu _ B)
def ayZ:∀(k:List (Int×ey)) (s:(aX->Option c8)×List aX) (w:aX) (v:c8),(k.foldl kD s).1 w=some v->s.1 w=some v\/∃x∈k,v.d=x.2:=by
 intro k
 induction k with
 |nil=>intro s w v a;exact .inl a
 |cons x k ai=>
  intro s w v a
  rw[Z0]at a
  rcases ai _ w v a with a|⟨e,B,E⟩
  ·unfold kD at a
   by_cases aD:(s.1 x.2.name).isSome=true
   ·rw[Zp aD]at a;exact .inl a
   ·rw[Zh aD]at a
    simp only at a
    by_cases bw:w=x.2.name
    ·rw[Zp bw]at a
     simp only[Zf]at a
     exact .inr ⟨x,Zv ..,by rw[<-a]⟩
    ·rw[Zh bw]at a;exact .inl a
  ·exact .inr ⟨e,Zu _ B,E⟩
def ay1:∀(k:List (Int×ey)) (s:(aX->Option c8)×List aX),(∀w∈s.2,s.1 w≠none)->∀w∈(k.foldl kD s).2,(k.foldl kD s).1 w≠none:=by
 intro k
 induction k with
 |nil=>intro s a;exact a
 |cons x k ai=>
  intro s a
  rw[Z0]
  refine ai _ λw bw=> ?_
  unfold kD at bw ⊢
  by_cases aD:(s.1 x.2.name).isSome=true
  ·rw[Zp aD]at bw ⊢;exact a w bw
  ·rw[Zh aD]at bw ⊢
   simp only at bw ⊢
   by_cases E:w=x.2.name
   ·rw[Zp E];simp
   ·rw[Zh E]
    rcases Zz.1 bw with bw|bw
    ·exact a w bw
    ·simp at bw;exact absurd bw E
def VG{g:Go.aQ.Node}{w:aX}:((dl g w).map λv=>v.d)=((ns g).1 w).map λv=>v.d:=by
 have:=congrArg (Option.map Prod.snd) (aCm g w)
 simpa[yb,Function.comp_def]using this
def asf{an:List Go.aQ.Node}(a:(qm an).1=0)(bw:∀g∈an,oN kt g){g:Go.aQ.Node}(bP:g∈an):Jk g:=by
 obtain⟨y,aH⟩:=Sv an 0 a g bP
 unfold rC at aH
 rw[Xp]at aH
 have J:=(WE (dl g) an y g.eqs (λ_=>none,td (dl g) g (u1 an y g)) (λ_=>Zs)).1 aH.1
 obtain⟨-,Ag,ml⟩:=apW.1 J.1
 have tn:=bw g bP
 have y9:∀d∈kZ g,qe kt d:=by
  intro d aE
  simp only[kZ,Zz]at aE
  rcases aE with a|a|a
  ·exact tn.d3 d a
  ·exact tn.out d a
  ·exact tn.loc d a
 refine⟨λd aE=> ?_,λw v bv=> ?_,λw=>⟨λbo aF=> ?_,Xe g w⟩,λd aE bh=> ?_,λd aE=>(y9 d aE).no⟩
 ·obtain⟨x,ae,rfl⟩:=SQ.1 aE
  have E:=ay2 (gy g) (λ_=>none,[]) Ag (λ_ _=>rfl) x ae
  have aH:=VG (g:=g) (w:=x.2.name)
  rw[show(ns g).1 x.2.name=some ⟨x.1,x.2, -1, -1⟩ from E]at aH
  cases a8:dl g x.2.name with
  |none=>rw[a8]at aH;cases aH
  |some v=>rw[a8]at aH;simp at aH;exact⟨v,rfl,aH⟩
 ·have aH:=VG (g:=g) (w:=w)
  rw[bv]at aH
  cases bh:(ns g).1 w with
  |none=>rw[bh]at aH;cases aH
  |some hj=>
   rw[bh]at aH
   simp at aH
   rcases ayZ _ _ _ _ bh with a|⟨x,ae,E⟩
   ·cases a
   ·exact SQ.2 ⟨x,ae,by rw[aH,E]⟩
 ·have:=ay1 (gy g) (λ_=>none,[]) Zs w bo
  have aH:=VG (g:=g) (w:=w)
  rw[aF]at aH
  cases bh:(ns g).1 w with
  |none=>exact this bh
  |some hj=>rw[bh]at aH;cases aH
 ·obtain⟨x,ae,rfl⟩:=SQ.1 aE
  exact λaF=>ml x ae ⟨aF,bh⟩
def aoY{α:Type}{p:α->Bool}{k:List α}:k.find? p=none↔∀x∈k,p x=false:=by
 rw[Y0];simp
section
variable{g:Go.aQ.Node}
def adE(d7:Jk g):∀w,dl g w≠none->gW (dl g) w=mA\/(dl g (gW (dl g) w).1≠none/\(gW (dl g) w).1≠[]):=by
 intro w bw
 cases bv:dl g w with
 |none=>exact absurd bv bw
 |some v=>
  have aE:=d7.var w v bv
  have E:gW (dl g) w=(v.d.on,v.d.no):=by unfold gW;rw[bv];rfl
  rw[E]
  by_cases bh:v.d.on=[]
  ·exact .inl (by rw[bh,d7.no _ aE bh];rfl)
  ·exact .inr ⟨d7.on _ aE bh,bh⟩
end
end
end Go.Proofs.YtpeabpmnlmaabaaGreatDoor

namespace Go.aQ
mutual
def hO:bB->Nat
 | .mk _ _ _ _ _ _ args=>1+gX args
def gX:List bB->Nat
 |[]=>0
 |E::k=>hO E+gX k
end
def aCf(E:bB):hO E=1+gX E.args:=by cases E;rw[hO];rfl
def aiM:∀(k:List bB) (E:bB),gX (k++[E])=gX k+hO E
 |[],E=>by rw[Yn,gX,gX,gX];omega
 |F::k,E=>by rw[YF,gX,gX,aiM k E];omega
def db{α:Type}(bg:α->List Tok->Prop)(x:fS α):Prop:=∀F bM,x=some (.ok (F,bM))->bg F bM
section
variable{α eJ:Type}
def db.none{bg:α->List Tok->Prop}:db bg none:=λ_ _ a=>by cases a
def db.ok{bg:α->List Tok->Prop}{F:α}{k:List Tok}(aj:bg F k):db bg (aQ.ok F k):=λfu bM E=>by cases E;exact aj
def db.bad{bg:α->List Tok->Prop}(F:Int):db bg (aQ.bad F:fS α):=λfu bM E=>by cases E
def db.mono{bg nA:α->List Tok->Prop}{x:fS α}(a:db bg x)(y:∀F k,bg F k->nA F k):db nA x:=λF k E=>y F k (a F k E)
def db.andThen{bg:α->List Tok->Prop}{nA:eJ->List Tok->Prop}{x:fS α}{f:α->List Tok->fS eJ}(a:db bg x)(y:∀F k,bg F k->db nA (f F k)):db nA (aQ.andThen x f):=by
 unfold aQ.andThen
 split
 ·exact db.none
 ·exact λ_ _ E=>by cases E
 ·rename_i F k
  exact y F k (a F k rfl)
def oI{s:aX}{k:List Tok}:db (λ_ bM=>bM.length+1=k.length) (ee s k):=by
 cases k with
 |nil=>exact db.none
 |cons x k=>
  simp only[ee]
  split
  ·exact db.ok rfl
  ·exact db.bad _
def wi{y:Int}{k:List Tok}:db (λ_ bM=>bM.length+1=k.length) (iI y k):=by
 cases k with
 |nil=>exact db.none
 |cons x k=>
  simp only[iI]
  split
  ·exact db.ok rfl
  ·exact db.bad _
def qY{s:aX}{k:List Tok}{f:Option Tok->List Tok->fS eJ}{bg:eJ->List Tok->Prop}(J:∀x bM,bM.length+1=k.length->db bg (f (some x) bM))(Q:db bg (f none k)):db bg (h9 s k f):=by
 cases k with
 |nil=>exact db.none
 |cons x k=>
  unfold h9 lj
  by_cases aD:g3 x s=true
  ·simp only[aD,ZE];exact J x k rfl
  ·simp only[aD,ZC];exact Q
def Nt{k:List Tok}:∀(os:List (aX×Int)) E bM,nE os k=some (E,bM)->(E=Option.none/\bM=k)\/(∃y F,E=some (.mk y F [] false dQ 0 [])/\bM.length+1=k.length):=by
 intro os
 induction os with
 |nil=>intro E bM bz;cases bz;exact .inl ⟨rfl,rfl⟩
 |cons V os ai=>
  obtain⟨s,y⟩:=V
  intro E bM bz
  cases k with
  |nil=>simp[nE,lj]at bz
  |cons x k=>
   unfold nE lj at bz
   by_cases aD:g3 x s=true
   ·simp only[aD,ZE]at bz
    cases bz
    exact .inr ⟨_,_,rfl,rfl⟩
   ·simp only[aD,ZC]at bz
    exact ai E bM bz
def jB(N:Nat)(E:bB)(k:List Tok):Prop:=hO E+k.length<=N
def Dy(N:Nat)(ca:List bB)(k:List Tok):Prop:=gX ca+k.length<=N
def aox:∀n:Nat,(∀y k,db (jB k.length) (level n y k))/\(∀y E k,db (jB (hO E+k.length)) (nM n y E k))/\(∀k,db (jB k.length) (shift n k))/\(∀E k,db (jB (hO E+k.length)) (nZ n E k))
 /\(∀y x E k,db (jB (hO E+k.length+1)) (n0 n y x E k))/\(∀k,db (jB k.length) (tV n k))/\(∀E k,db (jB (hO E+k.length)) (mw n E k))/\(∀k,db (jB k.length) (part n k))/\(∀k,db (Dy k.length) (list n k))/\(∀cp k,db (Dy (gX cp+k.length)) (nN n cp k))
 /\(∀k,db (jB k.length) (k2 n k))/\(∀k,db (jB k.length) (arrow n k)):=by
 intro n
 induction n with
 |zero=>
  refine⟨λy k=> ?_,λy E k=> ?_,λk=> ?_,λE k=> ?_,λy x E k=> ?_,λk=> ?_,λE k=> ?_,λk=> ?_,λk=> ?_,λcp k=> ?_,λk=> ?_,λk=> ?_⟩
  ·rw[level];exact db.none
  ·rw[nM];exact db.none
  ·rw[shift];exact db.none
  ·rw[nZ];exact db.none
  ·rw[n0];exact db.none
  ·rw[tV];exact db.none
  ·rw[mw];exact db.none
  ·rw[part];exact db.none
  ·rw[list];exact db.none
  ·rw[nN];exact db.none
  ·rw[k2];exact db.none
  ·rw[arrow];exact db.none
 |succ n ai=>
  obtain⟨hA,gB,i3,i4,i5,hU,ni,i8,i9,Lz,agc,wb⟩:=ai
  refine⟨λy k=> ?_,λy E k=> ?_,λk=> ?_,λE k=> ?_,λy x E k=> ?_,λk=> ?_,λE k=> ?_,λk=> ?_,λk=> ?_,λcp k=> ?_,λk=> ?_,λk=> ?_⟩
  ·rw[level]
   split
   ·exact i3 k
   ·exact(hA _ k).andThen λF c7 a=>(gB y F c7).mono λb cr Q=>ZA Q a
  ·rw[nM]
   split
   ·exact db.none
   ·rename_i c7 ag
    rcases Nt _ _ _ ag with ⟨_,rfl⟩|⟨_,_,a,_⟩
    ·exact db.ok (Zj _)
    ·cases a
   ·rename_i V c7 ag
    rcases Nt _ _ _ ag with ⟨a,_⟩|⟨e2,fu,a,az⟩
    ·cases a
    ·refine(hA _ c7).andThen λr cr Q=> ?_
     unfold jB at Q
     have aD:hO (two V E r)=1+(hO E+hO r):=by unfold two;rw[hO,gX,gX,gX];omega
     split
     ·exact db.ok (by unfold jB;omega)
     ·exact(gB y _ cr).mono λb dZ ak=>by unfold jB at ak ⊢;omega
  ·rw[shift]
   exact(hU k).andThen λF c7 a=>(i4 F c7).mono λb cr Q=>ZA Q a
  ·rw[nZ]
   refine qY (λx c7 a=>(i5 19 x E c7).mono λb cr Q=>by unfold jB at Q ⊢;omega) (qY (λx c7 a=>(i5 20 x E c7).mono λb cr Q=>by unfold jB at Q ⊢;omega) (db.ok (Zj _)))
  ·rw[n0]
   refine wi.andThen λm c7 a=> ?_
   split
   ·exact db.bad _
   ·exact(i4 _ c7).mono λb cr Q=>by unfold jB at Q ⊢;rw[hO,gX,gX]at Q;omega
  ·rw[tV]
   split
   ·exact db.none
   ·rename_i V c7 ag
    rcases Nt _ _ _ ag with ⟨a,_⟩|⟨e2,fu,a,az⟩
    ·cases a
    ·exact(hU c7).andThen λF cr Q=>db.ok (by unfold jB at Q ⊢;rw[hO,gX,gX];omega)
   ·rename_i c7 ag
    rcases Nt _ _ _ ag with ⟨_,rfl⟩|⟨_,_,a,_⟩
    ·exact(i8 _).andThen λF cr Q=>(ni F cr).mono λb dZ ak=>ZA ak Q
    ·cases a
  ·rw[mw]
   refine qY (λx c7 a=>qY (λe cr Q=>wi.andThen λc dZ ak=>(ni _ dZ).mono λb f6 ay=> ?_) (wi.andThen λc dZ ak=>(ni _ dZ).mono λb f6 ay=> ?_)) (db.ok (Zj _))
   ·unfold jB at ay ⊢;rw[hO,gX,gX]at ay;omega
   ·unfold jB at ay ⊢;rw[hO,gX,gX]at ay;omega
  ·cases k with
   |nil=>rw[part];exact db.none
   |cons x k=>
    rw[part]
    have gT:(x::k).length=k.length+1:=rfl
    split
    ·exact db.ok (by unfold jB;rw[hO,gX];omega)
    split
    ·exact db.ok (by unfold jB;rw[hO,gX];omega)
    split
    ·refine qY (λe c7 a=>(i9 c7).andThen λcp cr Q=>db.ok ?_) (db.ok ?_)
     ·unfold Dy at Q;unfold jB;rw[hO];omega
     ·unfold jB;rw[hO,gX];omega
    split
    ·exact oI.andThen λ_ c7 J=>(wb c7).andThen λE cr Q=>oI.andThen λ_ dZ ak=>db.ok (by unfold jB at Q ⊢;rw[hO,gX,gX];omega)
    split
    ·exact(wb k).andThen λE cr Q=>oI.andThen λ_ dZ ak=>db.ok (by unfold jB at Q ⊢;omega)
    split
    ·exact(wb k).andThen λc c7 J=>oI.andThen λ_ cr Q=>(wb cr).andThen λF dZ ak=>oI.andThen λ_ f6 ay=>(wb f6).andThen λb fZ bt=>db.ok (by unfold jB at J ak bt ⊢;rw[hO,gX,gX,gX,gX];omega)
    split
    ·exact wi.andThen λc c7 J=>(i8 c7).andThen λF cr Q=>(i8 cr).andThen λb dZ ak=>db.ok (by unfold jB at Q ak ⊢;rw[hO,gX,gX,gX];omega)
    ·exact db.bad _
  ·rw[list]
   refine qY (λe c7 a=>db.ok (by unfold Dy;rw[gX];omega)) ((wb k).andThen λE c7 J=>(Lz [E] c7).mono λcp cr Q=> ?_)
   unfold Dy at Q ⊢;unfold jB at J;rw[gX,gX]at Q;omega
  ·rw[nN]
   refine qY (λe c7 a=>(wb c7).andThen λE cr Q=>(Lz _ cr).mono λcO dZ ak=> ?_) (oI.andThen λ_ c7 J=>db.ok ?_)
   ·unfold Dy at ak ⊢;unfold jB at Q;rw[aiM]at ak;omega
   ·unfold Dy;omega
  ·rw[k2]
   refine(hA 0 k).andThen λF c7 J=>qY (λx cr Q=> ?_) (db.ok J)
   cases tO F with
   |none=>exact db.none
   |some aj=>
    cases aj with
    |false=>exact db.bad _
    |true=>exact(agc cr).andThen λr dZ ak=>db.ok (by unfold jB at J ak ⊢;rw[hO,gX,gX,gX];omega)
  ·rw[arrow]
   exact(agc k).andThen λF c7 J=>qY (λx cr Q=>(wb cr).andThen λr dZ ak=>db.ok (by unfold jB at J ak ⊢;rw[hO,gX,gX,gX];omega)) (db.ok J)
end
def ahm{N:Nat}:∀(n:Nat) (lL k:List Tok),k.length<=N->db (λ_ bM=>bM.length<=N) (fh n lL k):=by
 intro n
 induction n with
 |zero=>intro lL k _;rw[fh];exact db.none
 |succ n ai=>
  intro lL k az
  rw[fh]
  exact wi.andThen λx c7 J=>qY (λe cr Q=>ai _ cr Zo) (db.ok Zo)
def SE{N:Nat}{loc:Bool}:∀(n:Nat) (ds:List ey) (k:List Tok),k.length<=N->db (λ_ bM=>bM.length<=N) (ic n loc ds k):=by
 intro n
 induction n with
 |zero=>intro ds k _;rw[ic];exact db.none
 |succ n ai=>
  intro ds k az
  rw[ic]
  refine(ahm n [] k az).andThen λci c7 J=> ?_
  unfold BA
  refine oI.andThen λ_ cr Q=>wi.andThen λt dZ ak=> ?_
  have Ot:∀(ds:List ey) (k:List Tok),k.length<=N->db (λ_ bM=>bM.length<=N) (lv loc (ic n loc) ds k):=by
   intro ds k az
   have aE:(k.drop 1).length<=N:=by rw[Yp];omega
   unfold lv
   split
   ·exact db.none
   ·split
    ·split
     ·split
      ·exact db.none
      ·split
       ·exact db.ok az
       ·exact ai _ _ aE
     ·exact ai _ _ aE
    ·exact db.ok az
  have tn:∀(w:Option Tok) (k:List Tok),k.length<=N->db (λ_ bM=>bM.length<=N) (w5 w k):=by
   intro w k az
   unfold w5
   split
   ·exact db.ok az
   ·exact qY (λe f6 ay=>wi.andThen λx fZ bt=>db.ok Zo) (wi.andThen λx fZ bt=>db.ok Zo)
  exact qY (λw f6 ay=>(tn _ f6 Zo).andThen λr fZ bt=>Ot _ _ bt) ((tn _ _ Zo).andThen λr fZ bt=>Ot _ _ bt)
def aqQ{N:Nat}(n:Nat){k:List Tok}(az:k.length<=N):db (λaj bM=>hO aj.right<=N/\bM.length<=N) (tf n k):=by
 have qD:∀(ci:List Tok) (k:List Tok),k.length<=N->db (λaj bM=>hO aj.right<=N/\bM.length<=N) (andThen (ee [61] k) λE k=>andThen (arrow n k) λr k=>andThen (ee [59] k) λ_ k=>ok (⟨ci.map Tok.text,ci.map Tok.at_,E.at_,r⟩:f8) k):=by
  intro ci k az
  refine oI.andThen λE cr Q=>((aox n).2.2.2.2.2.2.2.2.2.2.2 cr).andThen λr dZ ak=>oI.andThen λ_ f6 ay=>db.ok ?_
  unfold jB at ak
  exact⟨by show hO r<=N;omega,Zo⟩
 unfold tf
 refine qY (λe cr Q=> ?_) ?_
 ·refine db.andThen (bg:=λ_ bM=>bM.length<=N) ?_ qD
  exact wi.andThen λx dZ ak=>oI.andThen λ_ f6 ay=>(ahm (N:=N) n [x] f6 Zo).andThen λci fZ bt=>oI.andThen λ_ l2 b4=>db.ok Zo
 ·refine db.andThen (bg:=λ_ bM=>bM.length<=N) ?_ qD
  exact wi.andThen λx dZ ak=>db.ok Zo
def aqT{N:Nat}:∀(n:Nat) (cT:List f8) (k:List Tok),k.length<=N->(∀aj∈cT,hO aj.right<=N)->db (λcT bM=>(∀aj∈cT,hO aj.right<=N)/\bM.length<=N) (kv n cT k):=by
 intro n
 induction n with
 |zero=>intro cT k _ _;rw[kv];exact db.none
 |succ n ai=>
  intro cT k az b3
  rw[kv]
  refine qY (λe cr Q=>db.ok ⟨b3,Zo⟩) ((aqQ n az).andThen λaj cr Q=>ai _ cr Q.2 λMm a=> ?_)
  rcases Zz.1 a with a|a
  ·exact b3 Mm a
  ·simp at a;subst a;exact Q.1
def ayS{N:Nat}(n:Nat){k:List Tok}(az:k.length<=N):db (λg bM=>(∀aj∈g.eqs,hO aj.right<=N)/\bM.length<=N) (node n k):=by
 unfold node
 refine oI.andThen λ_ c7 J=>wi.andThen λx cr Q=>oI.andThen λ_ dZ ak=> ?_
 have Ek:∀(d3 out loc:List ey) (k:List Tok),k.length<=N->db (λg bM=>(∀aj∈g.eqs,hO aj.right<=N)/\bM.length<=N) (andThen (ee [108,101,116] k) λ_ k=>andThen (kv n [] k) λcT k=>ok (⟨x.text,x.at_,d3,out,loc,cT⟩:Node) k):=by
  intro d3 out loc k az
  exact oI.andThen λ_ fZ bt=>(aqT (N:=N) n [] fZ Zo (λ_ a=>by cases a)).andThen λcT l2 b4=>db.ok b4
 have qD:∀(d3:List ey) (k:List Tok),k.length<=N->db (λg bM=>(∀aj∈g.eqs,hO aj.right<=N)/\bM.length<=N) (andThen (ee [114,101,116,117,114,110,115] k) λ_ k=>andThen (ee [40] k) λ_ k=>andThen (ic n false [] k) λout k=>andThen (ee [41] k) λ_ k=>
  h9 [118,97,114] k λe k=>andThen (match e with
   |some _=>andThen (ic n true [] k) λds k=>andThen (ee [59] k) λ_ k=>ok ds k
   |none=>ok [] k) λloc k=>
  andThen (ee [108,101,116] k) λ_ k=>andThen (kv n [] k) λcT k=>ok (⟨x.text,x.at_,d3,out,loc,cT⟩:Node) k):=by
  intro d3 k az
  refine oI.andThen λ_ f6 ay=>oI.andThen λ_ fZ bt=>(SE (N:=N) n [] fZ Zo).andThen λout l2 b4=>oI.andThen λ_ kR dh=> ?_
  refine qY (λe mM eI=> ?_) ?_
  ·exact db.andThen (bg:=λ_ bM=>bM.length<=N) ((SE (N:=N) n [] mM Zo).andThen λds sr hG=>oI.andThen λ_ axf kx=>db.ok Zo) λloc k a=>Ek d3 out loc k a
  ·exact db.andThen (bg:=λ_ bM=>bM.length<=N) (db.ok Zo) λloc k a=>Ek d3 out loc k a
 refine qY (λe f6 ay=> ?_) ?_
 ·exact db.andThen (bg:=λ_ bM=>bM.length<=N) (db.ok Zo) qD
 ·exact db.andThen (bg:=λ_ bM=>bM.length<=N) ((SE (N:=N) n [] _ Zo).andThen λds k b4=>oI.andThen λ_ kR dh=>db.ok Zo) qD
def ayV{N:Nat}:∀(n:Nat) (an:List Node) (k:List Tok),k.length<=N->(∀g∈an,∀aj∈g.eqs,hO aj.right<=N)->db (λan _=>∀g∈an,∀aj∈g.eqs,hO aj.right<=N) (nR n an k):=by
 intro n
 induction n with
 |zero=>intro an k _ _;rw[nR];exact db.none
 |succ n ai=>
  intro an k az bP
  rw[nR]
  refine(ayS n az).andThen λg cr Q=> ?_
  have KX:∀yS∈an++[g],∀aj∈yS.eqs,hO aj.right<=N:=by
   intro yS a
   rcases Zz.1 a with a|a
   ·exact bP yS a
   ·simp at a;subst a;exact Q.1
  split
  ·exact db.none
  ·split
   ·exact db.ok KX
   ·exact ai _ _ Q.2 KX
end Go.aQ
namespace Go.Proofs.YtpeabpmnlmaabaaGreatDoor
open Go.ba Go.aQ
def azJ{s:aX}{an:List Go.aQ.Node}(a:xV s= .ok an):∀g∈an,∀aj∈g.eqs,hO aj.right<=s.length+1:=by
 unfold xV at a
 split at a
 ·rename_i r Y
  subst a
  unfold AL at Y
  split at Y
  ·cases Y
  ·cases Y
  ·rename_i aU a8
   have eT:=Xh s _ _ _ _ Zs (GH s _ _ Zo) a8
   split at Y
   ·cases Y
   ·cases Y
   ·rename_i jo k aF
    have J:=ayV (N:=s.length+1) _ _ _ eT (λ_ a=>by cases a) _ _ aF
    split at Y
    ·cases Y
    ·cases Y
     exact J
 ·cases a
noncomputable section
def Steps(t:aX->Option c8)(k:List e4):Prop:=∀y x e,k[y]? =some x->k[y+1]? =some e->∃v,t x.1=some v/\mB v.d=e
structure Nb(t:aX->Option c8)(c:e4)(k:List e4):Prop where
 aE:k[0]? =some c
 last:k.getLast?=some mA
 jJ:(k.map Prod.fst).Nodup
 st:Steps t k
def Je(t:aX->Option c8)(c:e4):Prop:=(c=mA\/(t c.1≠none/\c.1≠[]))/\∃i,EO t i c.1=[]
def aCa{t:aX->Option c8}{k:List e4}{c:e4}(a:Steps t k)(ax:∀x,k.getLast?=some x->∃v,t x.1=some v/\mB v.d=c):Steps t (k++[c]):=by
 intro y x e ae B
 rw[List.getElem?_append]at ae B
 by_cases J:y+1<k.length
 ·rw[Zp Zo]at ae
  rw[Zp J]at B
  exact a y x e ae B
 ·rw[Zh J]at B
  have aH:y+1-k.length=0:=by
   by_cases cm:y+1-k.length=0
   ·exact cm
   ·rw[show y+1-k.length=(y+1-k.length-1)+1 by omega]at B;simp at B
  have Ac:y+1=k.length:=Zo
  rw[aH]at B
  simp at B
  rw[Zp Zo]at ae
  rw[<-B]
  exact ax x (by rw[List.getLast?_eq_getElem?,show k.length-1=y by omega];exact ae)
def apr{t:aX->Option c8}:∀(n:Nat) (k:List e4) (c:e4),(k.map Prod.fst).Nodup->Steps t k->(∀x,k.getLast?=some x->∃v,t x.1=some v/\mB v.d=c)->
 ((kL t n k c).map Prod.fst).Nodup/\Steps t (kL t n k c)/\(∀x,k[0]? =some x->(kL t n k c)[0]? =some x)/\(k=[]->0<n->(kL t n k c)[0]? =some c):=by
 intro n
 induction n with
 |zero=>intro k c J Q _;rw[kL];exact⟨J,Q,λ_ a=>a,λ_ a=>absurd a Zo⟩
 |succ n ai=>
  intro k c J Q ak
  rw[kL]
  by_cases ol:(k.map Prod.fst).contains c.1=true
  ·rw[Zp ol]
   exact⟨J,Q,λ_ a=>a,λa _=>by subst a;simp at ol⟩
  ·rw[Zh ol]
   have aul:c.1∉k.map Prod.fst:=by simpa using ol
   have aM:((k++[c]).map Prod.fst).Nodup:=by
    rw[ZQ,Y6]
    refine⟨J,Zs,λF aA b ag E=> ?_⟩
    simp at ag
    rw[E,ag]at aA
    exact aul aA
   have aR:=aCa Q ak
   have bn:∀x,k[0]? =some x->(k++[c])[0]? =some x:=λx ae=>by
    rw[ZW (Zb.1 ae).1];exact ae
   have cv:k=[]->(k++[c])[0]? =some c:=λa=>by subst a;rfl
   split
   ·exact⟨aM,aR,bn,λa _=>cv a⟩
   ·rename_i ag
    obtain⟨a7,b6,a3, -⟩:=ai (k++[c]) (gW t c.1) aM aR (λx ae=>by
     rw[List.getLast?_append]at ae
     simp at ae
     subst ae
     cases bv:t c.1 with
     |none=>exact absurd (.inr bv) ag
     |some v=>exact⟨v,rfl,by unfold gW;rw[bv];rfl⟩)
    exact⟨a7,b6,λx ae=>a3 x (bn x ae),λa _=>a3 c (cv a)⟩
section
variable{g:Go.aQ.Node}
def ase(d7:Jk g){c:e4}(a:Je (dl g) c):Nb (dl g) c (kL (dl g) (su g) [] c):=by
 obtain⟨a7,b6, -,a4⟩:=apr (t:=dl g) (su g) [] c Zs (λy x e ae=>by simp at ae) (λx ae=>by simp at ae)
 exact⟨a4 rfl (by simp[su]),(ach (λw=>(d7.Wk w).2) (adE d7) (su g) [] c (by simp[su]) Zs Zs Zs a.1).2 a.2,a7,b6⟩
def SS(d7:Jk g)(ag:∀d∈kZ g,vp (dl g) (su g) d=false){w:aX}(bw:dl g w≠none):Je (dl g) (gW (dl g) w):=by
 cases bv:dl g w with
 |none=>exact absurd bv bw
 |some v=>
  have aE:=d7.var w v bv
  have E:gW (dl g) w=mB v.d:=by unfold gW;rw[bv];rfl
  rw[E]
  have ax:mB v.d=mA\/(dl g (mB v.d).1≠none/\(mB v.d).1≠[]):=by
   by_cases bh:v.d.on=[]
   ·exact .inl (by unfold mB;rw[bh,d7.no _ aE bh];rfl)
   ·exact .inr ⟨d7.on _ aE bh,bh⟩
  refine⟨ax,(ach (λw=>(d7.Wk w).2) (adE d7) (su g) [] (mB v.d) (by simp[su]) Zs Zs Zs ax).1 ?_⟩
  have:=ag _ aE
  unfold vp at this
  simpa using this
def Nc(t:aX->Option c8)(E:bB)(c:e4):Prop:=Je t c/\∀x∈sG E,x.kind=6\/x.kind=24->t x.name≠none/\x.name≠[]
def aAo(d7:Jk g)(ag:∀d∈kZ g,vp (dl g) (su g) d=false){E F:bB}{c:e4}{i:Nat}(a:Nc (dl g) E c)(aA:E.args[i]? =some F):Nc (dl g) F (s8 (dl g) E.kind E.name c i):=by
 refine⟨?_,λx ae=>a.2 x (az2 (Zn aA) ae)⟩
 have nK:=a.2 E (az4 E)
 unfold s8
 by_cases b4:E.kind=6
 ·rw[Zp b4];exact SS d7 ag (nK (.inl b4)).1
 ·rw[Zh b4]
  by_cases TF:E.kind=24
  ·rw[Zp TF]
   obtain⟨aM,aR⟩:=nK (.inr TF)
   have⟨cA,aN⟩:=(SS d7 ag aM).2
   exact⟨.inr ⟨aM,aR⟩,cA+1,aN⟩
  ·rw[Zh TF];exact a.1
def aAO{an:List Go.aQ.Node}(a:(qm an).1=0)(bw:∀g∈an,oN kt g)(bP:g∈an){aj:f8}(b3:aj∈g.eqs):∀x∈sG aj.right,x.kind=6\/x.kind=24->dl g x.name≠none/\x.name≠[]:=by
 obtain⟨y,aH⟩:=aAQ a bP b3
 intro x ae K1
 have J:=(aH x ae).1 (by unfold wp;simp;omega)
 have Q:=ah5 ((bw g bP).eqs aj b3).right x ae
 refine⟨λE=>absurd J (by rw[E];simp), ?_⟩
 exact(Q.nm (by unfold to;omega)).ne
def axG{an:List Go.aQ.Node}(a:(qm an).1=0)(bP:g∈an){aj:f8}(b3:aj∈g.eqs):∀w∈aj.left,dl g w≠none:=by
 obtain⟨y,aH⟩:=Sv an 0 a g bP
 unfold rC at aH
 rw[Xp]at aH
 have J:=(WE (dl g) an y g.eqs (λ_=>none,td (dl g) g (u1 an y g)) (λ_=>Zs)).1 aH.1
 intro w bw
 obtain⟨v,bv,_⟩:=J.2.1 w (List.mem_flatMap.2 ⟨aj,b3,bw⟩)
 rw[bv];simp
end
def apz{n:Nat}:∀(k:List Go.aQ.Node) (y:Nat),(w3 n y k).1=0->∀g∈k,∀d∈kZ g,vp (dl g) (su g) d=false:=by
 intro k
 induction k with
 |nil=>intro y _ g bP;cases bP
 |cons F k ai=>
  intro y a g bP
  rw[w3]at a
  by_cases cm:(CK F (decide (y+1=n))).1=0
  ·rw[Zh (by simpa using cm)]at a
   rcases Zt.1 bP with rfl|bP
   ·unfold CK at cm
    by_cases aE:(lv (dl g) (su g) g (decide (y+1=n))).1=0
    ·unfold lv at aE
     cases J:(ta g (decide (y+1=n))).find? (λd=>decide (d.on≠[]))with
     |some d=>rw[J]at aE;exact absurd aE (show ¬(27:Int)=0 by decide)
     |none=>
      rw[J]at aE
      simp only at aE
      cases Q:(kZ g).find? (vp (dl g) (su g))with
      |some d=>rw[Q]at aE;exact absurd aE (show ¬(25:Int)=0 by decide)
      |none=>exact aoY.1 Q
    ·rw[Zp (by simpa using aE)]at cm;exact absurd cm aE
   ·exact ai _ a g bP
  ·rw[Zp (by simpa using cm)]at a;exact absurd a cm
mutual
def ajr(t:aX->Option c8):∀(E:bB) (c:e4) (s:Nat),AZ t (λs _ _=>s+1) E c s=s+hO E
 | .mk y F nm no ty n args,c,s=>by rw[AZ,ajq t y nm c 0 args,hO];omega
def ajq(t:aX->Option c8)(y:Int)(nm:aX)(c:e4):∀(i:Nat) (k:List bB) (s:Nat),ug t (λs _ _=>s+1) y nm c i k s=s+gX k
 |_,[],s=>by rw[ug,gX];rfl
 |i,E::ca,s=>by rw[ug,ajq t y nm c (i+1) ca,ajr t E,gX];omega
end
end
open Go.ba
noncomputable section
variable (X : ch) (h : R af) (j : Nat) (ah av : bI) (a0 a7 b6 a3 a4 a5 hE ib iz : D)
def aay(a:aL)(b:D)(c:R af)(d:Nat)(e f:bI):Prop:=
 ajC b a c d f λ_ c d g h=>yh d a h 0 λi=>hB i c h g λg h j=>kQ i (λb=>aW a 8 [g] h j b f) h j λg h j=>e7 i (re false 0 1 g) h j λg h j=>e7 i (bl .neq g (.Z 0)) h j λg h j=>c4 (λg=>bk (λb c d=>qd b λg=>ar (dc a c .eql 23 true g .cF) λg=>bk (λb c d=>lO b 3 0 a c λ_ _ g=>ip g (λ_ b c=>aW a 7 [] b c e f) λh i=>fg (λb c d g=>hm c 45 44 λh=>bk (λc d g=>sT (λa c d=>gJ a 45 λe=>b (Z a 45 e) c d) c 43 45 6 λb h=>C9 a d h g λd g h=>rR a h 6 d 10 g f λg h i=>ar (hR [.cF] i) λj=>pq a h i j.1 j.2 1 g λg h i=>ar (hR [.nilFunc] h) λj=>gu a i h j.1 j.2 λh i j=>ar (gg a i 1 h (.func (.func 18) [] [g])) λi=>ar (aI a i g) λk=>aW a 11 [k] i j (λi j k=>ip i (λc d g=>iy c 6 5 a d λ_ h=>Gc h b λb i=>fg (λb c d g=>hm c 75 74 λh=>bk (λc d g=>sT (λa c d=>gJ a 75 λe=>b (Z a 75 e) c d) c 73 75 4 λb h=>Da a d h g λd g h=>eW (g+12) λi=>iY c 7 a h λj=>jy d a h λk=>A3 1 k λk=>ar (aI a h k) λk=>I2 g 9 a h λg h=>aW a 12 [j,k] h i (λh i j=>hl h λh _=>ar (gg a i 11 g h) λh=>ar (hR [.zF] j) λi=>gu a h j i.1 i.2 λh i j=>ar (hR [.Z 0] j) λk=>gu a i j k.1 k.2 λi j k=>ar (gg a j 1 h .zT) λj=>q1 a j i 0 λj=>eW (k+8) λk=>iY c 7 a j λl=>e9 3 d a j λm n=>ar (hk 1 g) λo=>ar (cZ a j 8 o) λo=>cz (c 8) λp=>aW a 15 [o] j k (λj k o=>iY c 7 a k λq=>gn q (some l) (ar (aI a k m) λm=>gn m (some n) (aW a 20 [l,n,j, .func (.func 21) [] [i,h,p]] k o (λ_ f j=>ar (aI a f h) λk=>ar (gi .not k) λk=>e7 k (aI a f i) f j λa f j=>e7 k (bl .eql a (.Z 0)) f j λa f j=>c4 (λa=>bk b λb=>aV a (e .zF f j) (b (Z (zA c 14 d 15 g 17 h 18 i) 101 a) f j)) λb=>aV k (b .zT) (b a)) f))) f) f) λa=>aV h (a (Z c 76 h) d g) (i (Z c 76 h) d g)) (zz c 73 h 74 b 75 (.Z 0)) d g) λb l=>fg (λb c d g=>hm c 55 54 λh=>bk (λc d g=>vg (λa c d=>gJ a 55 λe=>b (Z a 55 e) c d) c 53 55 a d λb h=>iY c 7 a d λi=>I4 a i h d g f λ_ d g i=>eW (g+6) λg=>iY c 8 a i λj=>ar (hk 1 d) λk=>rR a i 8 k 15 g f λg i k=>iY c 8 a i λl=>gn l (some j) (iS a j [g] i k (λa f g=>yk a b λa b=>aV a (e .zF f g) (b (zz c 10 h 11 d 70 a) f g)) f)) λa=>aV h (a (Z c 56 h) d g) (l (Z c 56 h) d g)) (zy (zA c 6 d 7 g 8 h 53 i) 54 b 55 (.Z 0)) j k) f) λa=>aV h (a (Z c 46 h) d g) (i (Z c 46 h) d g)) (zz b 43 g 44 h 45 (.Z 0)) c d) λa=>aV g (e .zF c d) (a (Z b 39 g) c d)) λi=>aV g (aW a 7 [] h j e f) (i (zA (cP [b]) 2 .zF 4 d 3 c 36 g) h j)) λa=>aV i (a .zT) (a g)
def amy:cY X 5 [a0] h j ah av=aay X a0 h j ah av:=Zk
def amx:cQ X 5 1=true:=Zk
def τ(a:aL)(b c:D)(d:R af)(e:Nat)(f g:bI):Prop:=
 hn a d e b λd e h=>ar (aI a e c) λi=>m2 a e d λj=>aW a 19 [i,j] e h (λe h i=>gu a h i (.map i) (.map [] 0) λh i j=>ip e (λb c d=>eW (d+21) λd=>n5 b λe=>ar (gC e) λe=>I9 e λe=>Az e (b 4) c λc g=>ji e (gt 2 c (.Z 0)) g λc g=>ji e (cZ a g 2 c) g λc g=>PU e (b 2) (λb=>cZ a g 2 b) g λg h=>ji e (dc a h .eql 58 false c g) h λc g=>c4 (λc=>Az c (b 4) g λe g=>Az c (b 4) g λb g=>ji c (gC b) g λb g=>ji c (bl .sub b (.Z 1)) g λb g=>ji c (gt 2 e b) g λb e=>ji c (cZ a e 2 b) e λb e=>ji c (fv [.str [], .zF] []) e λe g=>ji c (dc a g .eql 58 false b e) g λa b=>c4 (λa=>f a b d) λb=>aV c (b a) (b .zF)) λa=>aV e (a c) (a .zF)) λk l=>fg (λb c d e=>hm c 16 15 λh=>bk (λc d e=>bk (λa c d=>gJ a 16 λe=>b (Z a 16 e) c d) λb=>Dc c 16 14 2 λh i=>m2 a d i λi=>ar (hR [.str [], .zF] e) λj=>pq a d e j.1 j.2 2 i λd e i=>ps c λj=>jy d a i λk=>ar (mN a i 9 (.Z 0) j k false) λj=>I9 j λj=>bk (λc d e=>fm c 5 7 λh i=>jy i a d λi=>hN (sy a d e 9 h i (.Z 1)) d e λ_ d e=>cz (c 6) λh=>I9 h λh=>bk b λb=>aV h (eW (e+14) λi=>iY c 1 a d λj=>fm c 4 6 λk l=>yi l λl=>ar (gt 2 k l) λk=>jy k a d λk=>I2 e 11 a d λd e=>aW a 12 [j,k] e i (λe i j=>hl e λe k=>ar (gg a i 11 d e) λe=>eW (j+9) λi=>ar (gi .not k) λj=>tK j (hk 1 d) e λe l=>tK j (cZ a l 8 e) l λe l=>Vv j (c 7) (λb=>cZ a l 2 b) l λl m=>kQ j (λb=>aW a 15 [e] m i b g) m i λe g i=>tK j (dc a g .neq 58 false e l) g λe g=>c4 (λe=>PV (bk b λa=>aV e (f .zF g i) (a (zA c 30 h 8 d 9 k 50 e) g i)) λb=>iO false j (m1 c 7 a g 2 λa=>gn a (some l) b) b) λa=>aV j (a .zT) (a e)) g) (b (Z c 30 h) d e)) λa=>aV j (f .zF i e) (a (zz c 7 d 6 h 25 j) i e)) λa=>aV h (a (Z c 17 h) d e) (l (Z c 17 h) d e)) (zz (zA (cP [b,c]) 2 d 3 .zF 4 e 5 h) 14 e 15 k 16 (.Z 0)) i j) g
def alo:cY X 18 [a0,a7] h j ah av=τ X a0 a7 h j ah av:=Zk
def aln:cQ X 18 2=true:=Zk
def χ(a:aL)(_ b c d e:D)(f:R af)(g:Nat)(h i:bI):Prop:=
 hn a f g b λb f g=>ar (aI a f c) λj=>A5 j λj=>oK a f c j λc=>ar (aI a c d) λf=>eB f (aI a c e) c g λc e g=>eB f (cZ a e 2 b) e g λb e g=>lC f (λd=>iS a c [b] e g d i) e g λb c e=>c4 (λb=>oK a c d b λa=>h (.tuple []) a e) λa=>aV f (a b) (a .zF)
def alu:cY X 21 [a0,a7,b6,a3,a4] h j ah av=χ X a0 a7 b6 a3 a4 h j ah av:=Zk
def alt:cQ X 21 5=true:=Zk
end
noncomputable section
def FD(k:List e4)(w:aX):Option D:=if (k.map Prod.fst).contains w then some (.Z 1)else none
section
variable{X:ch}{h S' eF aK aJ:R af}{j am aM aR:Nat}{P ks:Nat->Prop}
set_option maxRecDepth 100000 in
def afu(au:di X){b8:D}{t:aX->Option c8}{fh:List aX}{c:e4}{gq:Nat}(aF:(o X).a6<=j)(a8:ia X h ks b8 t)(oe:∀e,ks e->e<j)(fX:∀w,t w≠none->w∈fh)(bo:fh.length<=200000)(so:gq<j)(eZ:aI X h (.ptr gq 0)=some b8)(bP:Nb t c (kL t (fh.length+1) [] c)):
 aW X 18 [ga c, .ptr gq 0] h j (λac S' am=>ac= .zT/\bf X h j S' am) (λ_ _ _=>False):=by
 refine zx au (aln X) ?_
 rw[alo]
 unfold τ
 refine q6 ?_
 generalize de:Go.ba.bi X h j _=aK
 have bK:U X aK j=zu [.str c.1, .bool c.2] 2:=by rw[<-de,bb aF];rfl
 have bH:bf X h j aK (j+1):=by rw[<-de];exact dA
 clear de
 rw[<-bH.ep _ _ so]at eZ
 have lc:cZ X aK 2 (.ptr j 0)=some (ga c):=by rw[il,bp bK,bp bK];rfl
 refine cL @eZ @lc ⟨?_⟩
 refine(acg (j:=j+1) (fh:=fh) au Zo (a8.aa (bg:=ks) (λe B=>bH.aa e (oe e B)) (λ_ a=>a)) (λe B=>zq (oe e B)) fX bo c).Zm ?_
 rintro ac aJ aR ⟨⟨b,cC⟩,bC⟩
 have fC:=bC.le
 have g1:=acf (t:=t) (fh.length+1) [] c
 generalize kL t (fh.length+1) [] c=k at bP cC g1
 simp at g1
 rw[<-bC.aa _ Zo]at bK
 have eT:=cC.len
 rw[Zi]at eT
 have om:0<k.length:=(Zb.1 bP.aE).1
 refine ce @eT ⟨?_⟩
 generalize e0:Go.ba.bi X aJ aR _=a1
 have cM:U X a1 aR=some (.map [] 0):=by rw[<-e0,bb Zo]
 have cS:∀e,e<aR->U X a1 e=U X aJ e:=λe B=>by rw[<-e0,aC Zo Zo]
 clear e0
 rw[<-cS _ Zo]at bK
 have xy:∀e,e<j->U X a1 e=U X h e:=λe B=>by rw[cS e Zo,bC.aa e Zo];exact bH.aa e B
 refine fp (λm H S' aP=>∃(T:Nat),H.g 1=some (.ptr gq 0)/\H.g 2=some (.ptr j 0)/\H.g 4=some ac/\H.g 5=some (.map aR)/\H.g 14=some ac/\H.g 15=some (.Z (k.length:Int))/\H.g 16=some (.Z (T:Int))/\T+m=k.length/\aR<aP/\(∀e,e<aR->U X S' e=U X a1 e)/\n6 X S' aR (FD (k.take T)))
  k.length ⟨0,be,be,be,be,be,be,fO,Zo,Zo,λ_ _=>rfl,⟨[],0,cM,λ_=>by simp[FD];rfl⟩⟩ ?_
 rintro m H bA cv ⟨T,t1,ew,t4,t5,mY,qS,qT,bJ,afj,fH,qv⟩
 have afK:dL X bA (λe=>e<aR) b ac 2 (k.map pC):=(cC.aa (λe B=>by rw[fH e B.2,cS e B.2])).lift λe B=>B.2
 have Kd:=bK
 rw[<-fH _ Zo]at Kd
 have o5:∀(i:Nat) x,k[i]? =some x->∀{S':R af},(∀e,e<aR->U X S' e=U X bA e)->cZ X S' 2 (.ptr b (i*2))=some (ga x)/\aI X S' (.ptr b (i*2))=some (.str x.1):=λi x aN S' aH=>by
  have Y:=afK.aa (S':=S') aH
  have fb:(k.map pC)[i]? =some (pC x):=by rw[Zw,aN];rfl
  exact⟨Y.row Zd fb,by have:=Y.cell i (pC x) 0 (.str x.1) fb rfl;simpa using this⟩
 have O8:∀(i:Nat),i<k.length->gt 2 ac (.Z (i:Int))=some (.ptr b (i*2)):=λi aN=>afK.fI i (by rw[Zi];exact aN)
 cases m with
 |zero=>
  have d:=zr T k.length
  have NJ:decide ((0:Int)<(k.length:Int))=true:=by simp only[Zg];omega
  have tw:gt 2 ac (.Z 0)=some (.ptr b 0):=by have:=O8 0 om;simpa using this
  have tp:cZ X bA 2 (.ptr b 0)=some (ga c):=by have:=(o5 0 c bP.aE (S':=bA) (λ_ _=>rfl)).1;simpa using this
  have axC:cZ X bA 2 (.ptr j 0)=some (ga c):=by rw[il,bp Kd,bp Kd];rfl
  have b3:dc X bA .eql 58 false (ga c) (ga c)=some .zT:=by rw[J4];simp
  have Ek:k[k.length-1]? =some mA:=by rw[<-List.getLast?_eq_getElem?];exact bP.last
  have cG:bl .sub (.Z (k.length:Int)) (.Z 1)=some (.Z ((k.length-1:Nat):Int)):=by
   have:((k.length-1:Nat):Int)=(k.length:Int) -1:=Zo
   rw[this];exact uV Zo Zo
  have k6:=O8 (k.length-1) Zo
  have atJ:=(o5 _ _ Ek (S':=bA) (λ_ _=>rfl)).1
  have mK:dc X bA .eql 58 false (ga mA) (.agg [.str [], .zF])=some .zT:=by
   have:=J4 (X:=X) (h:=bA) mA mA
   simpa[ga,mA]using this
  refine et @qT @qS @d @t4 @eT @NJ (Za @tw (Za @tp (Za @ew (Za @axC (Za @b3 (Za @cG (Za @k6 (Za @atJ @mK)))))))) ⟨?_⟩
  exact⟨rfl,Zo,λe B=>by rw[fH e Zo];exact xy e B⟩
 |succ m=>
  have d:=zs T k.length
  have bD:=zv T
  obtain⟨x,ae⟩:=zt k T
  have kk:k.take (T+1)=k.take T++[x]:=by rw[ZU,ae];rfl
  have Ah:((k.take T).map Prod.fst).contains x.1=false:=by
   have J:=bP.jJ
   have:(k.take (T+1)++k.drop (T+1)).map Prod.fst=k.map Prod.fst:=by rw[List.take_append_drop]
   rw[<-this,kk,ZQ,ZQ,Y6,Y6]at J
   have Q:=J.1.2.2
   cases ax:((k.take T).map Prod.fst).contains x.1 with
   |false=>rfl
   |true=>
    have bo:x.1∈(k.take T).map Prod.fst:=by simpa using ax
    exact absurd rfl (Q x.1 bo x.1 Zs)
  have dw:=O8 T Zo
  have hs:cZ X bA 2 (.ptr b (T*2))=some (.agg [.str x.1, .bool x.2]):=(o5 T x ae (S':=bA) (λ_ _=>rfl)).1
  refine gm @qT @qS @d ⟨?_⟩
  refine gk ?_
  refine pI ⟨?_⟩
  refine gk ?_
  refine gm @qT @mY (Za @dw @hs) ⟨?_⟩
  generalize iD:Go.ba.bi X _ cv _=bN
  have fj:U X bN cv=zu [.str x.1, .bool x.2] 2:=by rw[<-iD,bb Zo];rfl
  have dY:∀e,e<cv->U X bN e=U X bA e:=λe B=>by rw[<-iD];exact zw
  clear iD
  have BW:=qv.aa (dY aR afj)
  have jU:mN X bN 9 (.Z 0) (.map aR) (.str x.1) false=some (.Z 0):=by
   rw[CC BW];unfold FD;rw[Ah];rfl
  have jn:decide ((0:Int)<0)=false:=rfl
  refine fW @t5 (bp fj) @jU @jn ⟨?_⟩
  obtain⟨bY,pR,Hk,nf⟩:=L8 (j:=cv+1) (show(o X).a6<=aR by omega) BW x.1 (.Z 1)
  refine j8 pR ?_
  have aeh:n6 X bY aR (FD (k.take (T+1))):=by
   have:(λw=>if w=x.1 then some (D.Z 1)else FD (k.take T) w)=FD (k.take (T+1)):=by
    funext w
    unfold FD
    rw[kk,ZQ]
    by_cases bw:w=x.1
    ·simp[bw]
    ·simp[bw]
   rw[<-this];exact Hk
  rw[<-nf _ Zo]at fj
  have dk:∀e,e<aR->U X bY e=U X bA e:=λe B=>by rw[nf e Zo,dY e Zo]
  clear pR Hk jU
  by_cases auq:T=0
  ·have DO:decide ((0:Int)<(T:Int))=false:=by simp[auq]
   refine ed @qT @DO @bD ⟨?_⟩
   exact⟨m,Zo,T+1,aZ t1,aZ ew,aZ t4,aZ t5,aZ mY,aZ qS,be,Zo,Zo,λe B=>by rw[dk e B];exact fH e B,aeh⟩
  ·have DO:decide ((0:Int)<(T:Int))=true:=by simp only[Zg];omega
   have cG:bl .sub (.Z (T:Int)) (.Z 1)=some (.Z ((T-1:Nat):Int)):=by
    have:((T-1:Nat):Int)=(T:Int) -1:=Zo
    rw[this];exact uV Zo Zo
   obtain⟨bu,cm⟩:∃bu,k[T-1]? =some bu:=⟨_,Ze Zo⟩
   obtain⟨rP,av3,av0⟩:=bP.st (T-1) bu x cm (by rw[show T-1+1=T by omega];exact ae)
   have aup:=O8 (T-1) Zo
   have OT:=(o5 (T-1) bu cm (S':=bY) dk).2
   have axe:aI X bY (.ptr gq 0)=some b8:=by rw[cl,dk gq Zo,fH gq Zo,cS gq Zo,bC.aa gq Zo, <-cl];exact eZ
   have Lr:ia X bY ks b8 t:=a8.aa (bg:=ks) (λe B=>by have:=oe e B;rw[dk e Zo,fH e Zo];exact xy e this) (λ_ a=>a)
   refine et @qT @DO @t1 @axe @t4 @cG (Za @aup @OT) ⟨?_⟩
   refine eL (λcn=>(∃cc,U X cn (cv+1+11)=some (.cells cc 11 .own))/\∀e,e<cv+1->U X cn e=U X bY e) ⟨⟨_,by rw[bb Zo];rfl⟩,λe B=>zw⟩ ?_
   rintro cn ⟨⟨Ny,ek⟩,fJ⟩
   refine(yU (j:=cv+1+14) au Zo (Lr.aa (bg:=ks) (λe B=>fJ e (zq (oe e B))) (λ_ a=>a)) (λe B=>zq (oe e B)) bu.1).Zm ?_
   rintro u8 dC iw ⟨rfl,hx⟩
   have Ae:=hx.le
   rw[<-hx.aa _ Zo]at ek
   rw[av3]
   have ot:lM rP=[.Z rP.kind, .str rP.d.name, .Z rP.d.at_, .bool rP.d.ty.b, .bool rP.d.ty.s, .Z rP.d.ty.w, .str rP.d.on, .Z rP.d.eP, .bool rP.d.no, .Z rP.eq, .Z rP.left]:=rfl
   simp only[YG,Z4]
   rw[ot]
   refine o1 @ek ⟨?_⟩
   generalize uJ:Go.ba.bi X dC (cv+1+11) _=dW
   have mM:cZ X dW 8 (.ptr (cv+1+11) 1)=some (.agg (d6 rP.d)):=by
    have aj:∃cc,U X dW (cv+1+11)=some (.cells cc 11 .own)/\∀i,i<11->cc.get i=(lM rP)[i]? :=⟨_,by rw[<-uJ,bb Zo],λi aN=>by
     rw[ix,Zp ⟨YN _,by simpa[D.cells]using aN⟩,YL];rfl⟩
    obtain⟨cc,aj,b3⟩:=aj
    rw[tM,bp aj,bp aj,bp aj,bp aj,bp aj,bp aj,bp aj,bp aj,b3 1 Zo,b3 (1+1) Zo,b3 (1+2) Zo,b3 (1+3) Zo,b3 (1+4) Zo,b3 (1+5) Zo,b3 (1+6) Zo,b3 (1+7) Zo];rfl
   have he:∀e,e<cv+1->U X dW e=U X bY e:=λe B=>by rw[<-uJ,aC Zo Zo,hx.aa e Zo,fJ e B]
   clear uJ
   have kR:cZ X dW 2 (.ptr cv 0)=some (ga x):=by rw[il,bp (by rw[he cv Zo];exact fj),bp (by rw[he cv Zo];exact fj)];rfl
   refine cL @mM @kR ⟨?_⟩
   refine(JL (j:=iw+9) au Zo rP.d).Zm ?_
   rintro aFL f2 d9 ⟨rfl,BQ⟩
   have aEi:=BQ.le
   rw[av0]
   have HG:dc X f2 .neq 58 false (ga x) (ga x)=some .zF:=by rw[Wm];simp
   have axg:cZ X f2 2 (.ptr cv 0)=some (ga x):=by rw[<-kR,il,il,BQ.ep _ _ Zo,BQ.ep _ _ Zo]
   have js:∀e,e<cv+1->U X f2 e=U X bY e:=λe B=>by rw[BQ.aa e Zo,he e B]
   refine cL @HG @axg ⟨?_⟩
   refine gp (NE x) ?_
   refine cL @qT @bD ⟨?_⟩
   exact⟨m,Zo,T+1,aZ t1,aZ ew,aZ t4,aZ t5,aZ mY,aZ qS,be,Zo,Zo,λe B=>by rw[js e Zo,dk e B];exact fH e B,aeh.aa (js aR Zo)⟩
end
section
variable{X:ch}{h S' eF aK aJ:R af}{j am aM aR:Nat}
def ayl{C:aL}{h:R af}(x e:Int):tb C h .min [3,3] [.int .i64 x, .int .i64 e]=some (.int .i64 (min x e)):=by
 show pA false (.int .i64 x) [.int .i64 e]=_
 simp only[pA,fF,uX]
 congr 2
 simp only[Zg]
 split<;>simp_all<;>omega
def axR:∀{k:List Go.aQ.Node}{y F:Int},sv k=some (y,F)->y=30\/y=22:=by
 intro k
 induction k with
 |nil=>intro y F a;cases a
 |cons g k ai=>
  intro y F a
  unfold sv at a
  split at a
  ·cases a;exact .inl rfl
  ·split at a
   ·cases a;exact .inr rfl
   ·exact ai a
def azI{s:aX}(aD:s.length<=5000){y F:Int}(a:xV s= .error (y,F)):y≠0:=by
 have J:=ahR aD
 rw[a]at J
 unfold AL at J
 split at J
 ·cases J
 ·cases J;decide
 ·split at J
  ·cases J
  ·cases J;decide
  ·split at J
   ·rename_i az
    cases J
    unfold qK at az
    split at az
    ·cases az;decide
    ·rcases axR az with rfl|rfl<;>decide
   ·cases J
end
def MQ:Nat->Int
 |0=>0
 |n+1=>oJ .i64 (MQ n+1)
def aCZ:∀n:Nat,n<=100000->MQ n=n:=by
 intro n
 induction n with
 |zero=>intro _;rfl
 |succ n ai=>intro a;rw[MQ,ai Zo,wrap64 Zo Zo];omega
def awm(x e:Int):bl .add (.Z x) (.Z e)=some (.Z (oJ .i64 (x+e))):=by simp[bl,l0,mr,lQ,k9]
section
variable{X:ch}{h S' eF aK aJ:R af}{j am aM aR bG mz m7:Nat}{P ks:Nat->Prop}
structure Ge(X:ch)(eF:R af)(bG mz m7:Nat)(s:Nat)(h:R af)(n:Nat):Prop where
 le:bG<=n
 ask:∃c,U X h mz=some (.cells c 1 .own)/\c.get 0=some (.Z (MQ s))
 all:∃c,U X h m7=some (.cells c 1 .own)/\c.get 0=some .zT
 low:∀e,e<bG->e≠mz->e≠m7->U X h e=U X eF e
def Ge.aa{s:Nat}(a:Ge X eF bG mz m7 s aK aM)(b3:mz<bG)(aA:m7<bG)(f4:aM<=aR)(y:∀e,e<aM->U X aJ e=U X aK e):Ge X eF bG mz m7 s aJ aR:=by
 have az:=a.le
 obtain⟨c,g,jb⟩:=a.ask
 obtain⟨f9,yS,Td⟩:=a.all
 exact⟨Zo,⟨c,by rw[y _ Zo];exact g,jb⟩,⟨f9,by rw[y _ Zo];exact yS,Td⟩,λe J Q ak=>by rw[y e Zo];exact a.low e J Q ak⟩
def aoK(au:di X){b8:D}{t:aX->Option c8}{fh:List aX}{v:D}{c:e4}{s gq bv:Nat}(UQ:(o X).a6<=mz)(HF:(o X).a6<=m7)(b3:mz<bG)(aA:m7<bG)(Po:mz≠m7)(a8:ia X eF ks b8 t)(oe:∀e,ks e->e<bG/\e≠mz/\e≠m7)(fX:∀w,t w≠none->w∈fh)(bo:fh.length<=200000)
 (so:gq<bG/\gq≠mz/\gq≠m7)(O5:bv<bG/\bv≠mz/\bv≠m7)(eZ:aI X eF (.ptr gq 0)=some b8)(c7:aI X eF (.ptr bv 0)=some (.func (.func 18) [] [.ptr gq 0]))(bP:Nb t c (kL t (fh.length+1) [] c))(bq:∀e,P e->e<bG/\e≠mz/\e≠m7)(fe:Ge X eF bG mz m7 s h j):
 aW X 21 (([]++[v,ga c])++[.ptr mz 0, .ptr m7 0, .ptr bv 0]) h j (λac S' am=>Ge X eF bG mz m7 (s+1) S' am/\j<=am/\(∀e,P e->U X S' e=U X h e)/\∀e,bG<=e->e<j->U X S' e=U X h e) (λ_ _ _=>False):=by
 refine zx au (alt X) ?_
 rw[Yn]
 show cY X 21 [v,ga c, .ptr mz 0, .ptr m7 0, .ptr bv 0] _ _ _ _
 rw[alu]
 unfold χ
 have f4:=fe.le
 refine q6 ?_
 generalize de:Go.ba.bi X h j _=aK
 have bK:U X aK j=zu [.str c.1, .bool c.2] 2:=by rw[<-de,bb Zo];rfl
 have bW:∀e,e<j->U X aK e=U X h e:=λe B=>by rw[<-de,aC Zo Zo]
 clear de
 obtain⟨JP,sd,tX⟩:=fe.ask
 obtain⟨vs,gc,a0⟩:=fe.all
 rw[<-bW _ Zo]at sd gc
 refine fW (bp sd) @tX @awm @sd ⟨?_⟩
 generalize dO:Go.ba.bi X aK mz _=aJ
 have Og:∃dI,U X aJ mz=some (.cells dI 1 .own)/\dI.get 0=some (.Z (MQ (s+1))):=⟨_,by rw[<-dO,bb UQ],by rw[ix];rfl⟩
 have cq:∀e,e≠mz->U X aJ e=U X aK e:=λe B=>by rw[<-dO,aC UQ B]
 clear dO
 rw[<-cq _ (λE=>Po E.symm)]at gc
 rw[<-cq _ Zo]at bK
 have LO:∀e,e<j->e≠mz->U X aJ e=U X h e:=λe J Q=>by rw[cq e Q,bW e J]
 have LY:aI X aJ (.ptr bv 0)=some (.func (.func 18) [] [.ptr gq 0]):=by rw[cl,LO bv Zo O5.2.1,fe.low bv O5.1 O5.2.1 O5.2.2, <-cl];exact c7
 have lt:aI X aJ (.ptr gq 0)=some b8:=by rw[cl,LO gq Zo so.2.1,fe.low gq so.1 so.2.1 so.2.2, <-cl];exact eZ
 have lc:cZ X aJ 2 (.ptr j 0)=some (ga c):=by rw[il,bp bK,bp bK];rfl
 have xF:ia X aJ ks b8 t:=a8.aa (bg:=ks) (λe B=>by have:=oe e B;rw[LO e Zo this.2.1];exact fe.low e this.1 this.2.1 this.2.2) (λ_ a=>a)
 refine fW (bp gc) @a0 @LY @lc ⟨?_⟩
 refine(afu (j:=j+1) (fh:=fh) au Zo xF (λe B=>zq (oe e B)) fX bo Zo lt bP).Zm ?_
 rintro ac a1 bn ⟨rfl,ck⟩
 have jf:=ck.le
 obtain⟨dI,Og,cB⟩:=Og
 rw[<-ck.aa _ Zo]at gc Og
 refine ce @gc ⟨?_⟩
 have ki:∀e,e≠mz->e≠m7->e<j->U X (Go.ba.bi X a1 m7 (some (.cells (dT vs 0 [.zT]) 1 .own))) e=U X h e:=λe J Q ak=>by rw[aC HF Q,ck.aa e Zo,LO e ak J]
 refine⟨⟨Zo,⟨_,by rw[aC HF Po];exact Og,cB⟩,⟨_,bb HF,by rw[ix];rfl⟩,λe J Q ak=>by rw[aC HF ak,ck.aa e Zo,LO e Zo Q];exact fe.low e J Q ak⟩,Zo,λe B=>ki e (bq e B).2.1 (bq e B).2.2 (zq (bq e B)),λe J Q=>ki e Zo Zo Q⟩
end
section
variable{X:ch}{h S' aK aJ:R af}{j am aM aR:Nat}{P ks:Nat->Prop}
end
structure Dv(H:cU)(p:D)(aS:D)(len y jJ gq bv:Nat):Prop where
 t3:H.g 3=some p
 t43:H.g 43=some aS
 t44:H.g 44=some (.Z (len:Int))
 t45:H.g 45=some (.Z (y:Int))
 t6:H.g 6=some (.ptr jJ 0)
 t7:H.g 7=some (.ptr gq 0)
 t8:H.g 8=some (.ptr bv 0)
def Dv.set{H:cU}{p:D}{aS:D}{len y jJ gq bv:Nat}(a:Dv H p aS len y jJ gq bv){i:Nat}{v:D}(aN:[3,43,44,45,6,7,8].contains i=false:=by rfl):Dv (Z H i v) p aS len y jJ gq bv:=by
 simp only[List.contains_eq_mem,Zt,ZI,Ym,Zc,YU]at aN
 constructor<;>rw[x2,Zh Zo]<;>first|exact a.t3|exact a.t43|exact a.t44|exact a.t45|exact a.t6|exact a.t7|exact a.t8
section
variable{X:ch}{h S' aK aJ:R af}{j am aM aR:Nat}{P ks:Nat->Prop}
set_option maxRecDepth 100000 in
def axr(au:i2 X)(d7:Jj X)(gT:wK X)(asY:rW X)(asZ:wL X)(ez:Dl X)(Ls:(o X).hu 7 []=some .zT){a0 a7:D}{p4 s:aX}(aF:(o X).a6<=j)(az:gC a0=some (.Z (p4.length:Int)))(aD:s.length<=5000)(ag:∀c∈s,c<256)
 (hJ:uc X h 1 a0 none (some (.Z (min (p4.length:Int) 5000))) none=some a7)(qB:gC a7=some (.Z (s.length:Int)))(Ee:∀S' aP,bf X h j S' aP->By X S' a7=some (.str s)):
 aW X 5 [a0] h j (λac S' am=>ac= .zT/\bf X h j S' am) (λ_ _ _=>False):=by
 refine zx au.todi (amx X) ?_
 rw[amy]
 unfold aay
 refine ed @az @ayl @hJ ⟨?_⟩
 refine(azE au d7 gT aD ag aF qB Ee).Zm ?_
 rintro ac aK aM ⟨Et,bH⟩
 have jG:=bH.le
 cases Aj:xV s with
 |error js=>
  rw[Aj]at Et
  obtain⟨y,F⟩:=js
  have Uy:=azI aD Aj
  have bc:ac= .tuple [.cF, .agg [.Z y, .Z F]]:=Et
  subst bc
  have bu:decide (y≠0)=true:=by simp[Uy]
  refine ce @bu ⟨?_⟩
  refine GK Ls ?_
  refine cI ⟨?_⟩
  exact⟨rfl,Zo,λe B=>by simp(disch:=omega) only[aC];exact bH.aa e B⟩
 |ok an=>
  rw[Aj]at Et
  obtain⟨v,rfl,HM⟩:=Et
  obtain⟨HX,dS,qC⟩:=azK Aj
  have eN:=azJ Aj
  obtain⟨aD7,mJ⟩:=L0 qC
  obtain⟨b,aS,cO,bL,rfl,atq,b7,cC,kz⟩:=id HM
  have vM:=atq.2
  have bu:decide ((0:Int)≠0)=false:=rfl
  refine ce @bu ⟨?_⟩
  refine eL (λaJ=>bf X aK aM aJ (aM+1)) dA ?_
  intro aJ bC
  refine(aps (j:=aM+1) (P:=dx j aM) au d7.err asY asZ ez Zo (HM.aa (bg:=dx j aM) (λe B=>bC.aa e B.2) (λ_ a=>a)) (λe B=>⟨zq B.1,zq B.2⟩) HX dS qC).Zm ?_
  rintro ac a1 bn ⟨rfl,ck⟩
  have jf:=ck.le
  have pK:bf X aK aM a1 bn:=bC.trans ck
  have xy:∀e,e<j->U X a1 e=U X h e:=λe B=>by rw[pK.aa e Zo];exact bH.aa e B
  have uO:Ms an=if (mV an).1≠0 then mV an else w3 an.length 0 an:=rfl
  generalize Ms an=rc at uO ⊢
  obtain⟨aiT,aFG⟩:=rc
  simp only
  by_cases uQ:aiT=0
  ·subst uQ
   have OL:(mV an).1=0:=by
    by_cases a:(mV an).1=0
    ·exact a
    ·rw[Zp a]at uO;rw[<-uO]at a;exact absurd rfl a
   rw[Zh (by simpa using OL)]at uO
   have Ud:(qm an).1=0:=by
    unfold mV at OL
    by_cases ax:(qm an).1≠0
    ·rw[Zp ax]at OL;exact absurd OL ax
    ·simpa using ax
   have KI:=apz an 0 (by rw[<-uO])
   have d2:=cC.len
   have ik:=cC.many
   have j4:=kz.wide
   rw[j4.1]at d2 ik
   have aoP:aI X a1 (.ptr b 0)=some aS:=zB (pK.aa b vM) b7
   have iT:∀e,dx j aM e->U X a1 e=U X aK e:=λe B=>pK.aa e B.2
   refine fW @bu @SW @aoP @d2 ⟨?_⟩
   refine fp (λm H S' aP=>∃(y:Nat),H.g 3=some (.ptr b 0)/\H.g 43=some aS/\H.g 44=some (.Z (an.length:Int))/\H.g 45=some (.Z (y:Int))/\y+m=an.length/\bf X a1 bn S' aP)
    an.length ⟨0,be,be,be,fO,Zo,bf.refl _ _⟩ ?_
   rintro m H cn d8 ⟨y,t3,t43,t44,t45,aD6,eA⟩
   have ng:=eA.le
   have rz:∀e,dx j aM e->U X cn e=U X aK e:=λe B=>by have:=B.2;rw[eA.aa e Zo,iT e B]
   cases m with
   |zero=>
    have d:=zr y an.length
    refine ed @t45 @t44 @d ⟨?_⟩
    refine GK Ls ?_
    exact⟨rfl,Zo,λe B=>by rw[eA.aa e Zo];exact xy e B⟩
   |succ m=>
    have d:=zs y an.length
    have bD:=zv y
    obtain⟨g,Hx⟩:=zt an y
    have o6:=Zn Hx
    obtain⟨row,fb,jH⟩:=kz.get y g Hx
    have dw:=cC.fI y (by rw[j4.1];omega)
    have hs:=(cC.aa rz).row Zd fb
    have jI:=jH.ju
    have afq:=jH.aa (S':=cn) (bg:=dx j aM) rz (λ_ a=>a)
    have As:=(mJ g o6).vars
    have UN:=ahn g
    rw[DQ]at UN
    simp only[oA]at UN
    have tn:=HX g o6
    have Oz:=asf Ud HX o6
    have aes:=KI g o6
    obtain⟨c5,dt,kX,eM,bZ,cu,c0,fE,aFA,rfl,mH,k5,oj,jp,e6⟩:=id afq
    have qE:=jp.len
    have sn:=e6.wide
    have Cb:=jp.many
    rw[sn.1]at qE Cb
    refine gm @t45 @t44 (Za @t43 @d) ⟨?_⟩
    refine gk ?_
    refine gm @t45 @t44 (Za @t43 @d) ⟨?_⟩
    refine gk ?_
    refine gm @t45 @t44 (Za @t43 (Za @d (Za @dw @hs))) ⟨?_⟩
    refine f7 (iJ (y:=6) (b:=d8) (V:=0) (n:=6) (c:=R.ofList [.str [], .Z 0, .aT, .aT, .aT, .aT] 0 .nil) (bb Zo) Zo rfl Zd Zd jI) ?_
    generalize mh:Go.ba.bi X _ d8 _=dC
    have fN:U X dC d8=zu [.str g.name, .Z g.at_,c5,dt,kX,eM] 6:=by rw[<-mh,bb Zo];rfl
    have gM:∀e,e<d8->U X dC e=U X cn e:=λe B=>by rw[<-mh];exact zw
    clear mh
    refine o1 (bp fN) ⟨?_⟩
    refine(Qo (j:=d8+1) au.todi Zo (λe B=>zq B.2) (afq.aa (bg:=dx j aM) (λe B=>gM e (zq B.2)) (λ_ a=>a)) (by rw[DQ];simp only[oA];omega)).Zm ?_
    rintro ac dW d4 ⟨b8,kS,rJ,dX,rfl,kj,xA,cN,cB,ea,fQ,hc⟩
    have pQ:=hc.le
    have aEY:=kj.1
    have af0:=kj.2
    have auK:=xA.2
    rw[<-hc.aa _ Zo]at fN
    have he:∀e,e<d8->U X dW e=U X cn e:=λe B=>by rw[hc.aa e Zo,gM e B]
    have avR:ia X dW (λe=>e<d4) (.ptr b8 0) (dl g):=⟨b8,kS,rfl,af0,auK,cN,cB⟩
    have aAf:dL X dW (λe=>e<d4) dX rJ 1 (fL (ld g)):=fQ.lift λe B=>B.2
    clear cN cB fQ kj xA
    refine pI ⟨?_⟩
    refine eL (λf2=>aI X f2 (.ptr d4 0)=some (.ptr b8 0)/\aI X f2 (.ptr (d4+1) 0)=some (.func (.func 18) [] [.ptr d4 0])/\∀e,e<d4->U X f2 e=U X dW e)
     ⟨by rw[cl];simp(disch:=omega) only[aC,bb]<;>rfl,by rw[cl];simp(disch:=omega) only[aC,bb]<;>rfl,λe B=>zw⟩ ?_
    rintro f2 ⟨lt,LY,js⟩
    rw[<-js _ Zo]at fN
    have aAe:aI X f2 (.ptr b8 1)=some rJ:=zB (js b8 af0) ea
    refine(ayz (j:=d4+1+1) (k:=ld g) au.todi Zo aAe (aAf.aa js) Zo (λe B=>Zo)).Zm ?_
    rintro ac un oz ⟨⟨aFs,tB⟩,xj⟩
    have eT:=xj.le
    have afn:=tB.len
    rw[show(fL (ld g)).length=(ld g).length from by simp[fL]]at afn
    rw[<-xj.aa _ Zo]at fN
    rw[<-xj.ep _ _ Zo]at lt LY
    have LP:∀e,e<d4->U X un e=U X dW e:=λe B=>by rw[xj.aa e Zo,js e B]
    have PI:ia X un (λe=>e<d4) (.ptr b8 0) (dl g):=avR.aa LP (λ_ a=>a)
    have auD:∀e,e<bn->U X un e=U X a1 e:=λe B=>by rw[LP e Zo,he e Zo];exact eA.aa e B
    have awV:∀e,dx j aM e->U X un e=U X cn e:=λe B=>by have:=B.2;rw[LP e Zo,he e Zo]
    have adX:=Xe g
    have ad7:∀{w:aX},dl g w≠none->Je (dl g) (gW (dl g) w):=λa=>SS Oz aes a
    have KN:∀{c:e4},Je (dl g) c->Nb (dl g) c (kL (dl g) ((ld g).length+1) [] c):=λa=>ase Oz a
    have arx:D.same 30 (.func (.func 18) [] [.ptr d4 0]) (.func (.func 18) [] [.ptr d4 0])=true:=by simp[D.same,nO]
    refine o1 @afn ⟨?_⟩
    refine jW (λH S' aP=>Dv H (.ptr b 0) aS an.length y d8 d4 (d4+1)/\bf X un oz S' aP) (λT bJ=> ?_) ?_
    ·refine fp (λm H S' aP=>∃(T:Nat),Dv H (.ptr b 0) aS an.length y d8 d4 (d4+1)/\H.g 53=some ac/\H.g 54=some (.Z ((ld g).length:Int))/\H.g 55=some (.Z (T:Int))/\T+m=(ld g).length/\bf X un oz S' aP)
      (ld g).length ⟨0,⟨aZ t3,aZ t43,aZ t44,aZ t45,be,be,be⟩,be,be,fO,Zo,bf.refl _ _⟩ ?_
     rintro m H lP mu ⟨T,gd,ai4,Xm,Q2,ae3,lW⟩
     have UC:=lW.le
     cases m with
     |zero=>
      have d:=zr T (ld g).length
      refine ed @Q2 @Xm @d ⟨?_⟩
      exact bJ _ _ _ ⟨gd.set,lW⟩
     |succ m=>
      have d:=zs T (ld g).length
      have bD:=zv T
      obtain⟨w,bw⟩:=zt (ld g) T
      have Vl:dl g w≠none:=(Oz.Wk w).1 (Zn bw)
      have dw:=tB.fI T (by simp[fL];omega)
      have g1:=(tB.aa (λe B=>lW.aa e B.2)).cell T [.str w] 0 (.str w) (by unfold fL;rw[Zw,bw];rfl) rfl
      rw[Z5]at dw
      rw[Z5,ZX]at g1
      have C6:=gd.t7
      have u8:=gd.t8
      have L1:aI X lP (.ptr d4 0)=some (.ptr b8 0):=by rw[lW.ep _ _ Zo];exact lt
      have P5:aI X lP (.ptr (d4+1) 0)=some (.func (.func 18) [] [.ptr d4 0]):=by rw[lW.ep _ _ Zo];exact LY
      have Vh:ia X lP (λe=>e<d4) (.ptr b8 0) (dl g):=PI.aa (λe B=>lW.aa e Zo) (λ_ a=>a)
      refine gm @Q2 @Xm @d ⟨?_⟩
      refine gk ?_
      refine pI ⟨?_⟩
      refine gk ?_
      refine gm @ai4 @Q2 (Za @C6 (Za @dw (Za @g1 @L1))) ⟨?_⟩
      refine(yU (j:=mu) au.todi Zo Vh (λe B=>Zo) w).Zm ?_
      rintro sL Bk jJ ⟨rfl,TK⟩
      have auz:=TK.le
      have Lc:gW (dl g) w=mB ((dl g w).getD nw).d:=rfl
      generalize (dl g w).getD nw=im at Lc ⊢
      have Vk:lM im=[.Z im.kind, .str im.d.name, .Z im.d.at_, .bool im.d.ty.b, .bool im.d.ty.s, .Z im.d.ty.w, .str im.d.on, .Z im.d.eP, .bool im.d.no, .Z im.eq, .Z im.left]:=rfl
      rw[Vk]
      rw[<-TK.ep _ _ Zo]at L1 P5
      refine pI ⟨?_⟩
      generalize T1:Go.ba.bi X _ jJ _=Bl
      have ax7:cZ X Bl 8 (.ptr jJ 1)=some (.agg (d6 im.d)):=by
       have tX:∃c,U X Bl jJ=some (.cells c 11 .own)/\∀i,i<11->c.get i=(lM im)[i]? :=⟨_,by rw[<-T1,bb Zo];rfl,λi aN=>by
        rw[ix,Zp ⟨YN _,by simpa[D.cells]using aN⟩,YL];rfl⟩
       obtain⟨c,ii,ax⟩:=tX
       rw[tM,bp ii,bp ii,bp ii,bp ii,bp ii,bp ii,bp ii,bp ii,ax 1 Zo,ax (1+1) Zo,ax (1+2) Zo,ax (1+3) Zo,ax (1+4) Zo,ax (1+5) Zo,ax (1+6) Zo,ax (1+7) Zo];rfl
      have VH:∀e,e<jJ->U X Bl e=U X Bk e:=λe B=>by rw[<-T1];exact zw
      clear T1
      have agT:aI X Bl (.ptr (d4+1) 0)=some (.func (.func 18) [] [.ptr d4 0]):=zB (VH _ Zo) P5
      have ax3:aI X Bl (.ptr d4 0)=some (.ptr b8 0):=zB (VH _ Zo) L1
      have Kq:bf X un oz Bl (jJ+1):=⟨Zo,λe B=>by rw[VH e Zo,TK.aa e Zo];exact lW.aa e B⟩
      refine ed @u8 @agT @ax7 ⟨?_⟩
      refine(JL (j:=jJ+1+6) au.todi Zo im.d).Zm ?_
      rintro aFN wQ Qh ⟨rfl,Ow⟩
      have aEk:=Ow.le
      have VZ:aI X wQ (.ptr (d4+1) 0)=some (.func (.func 18) [] [.ptr d4 0]):=by rw[Ow.ep _ _ Zo];exact agT
      have Wb:aI X wQ (.ptr d4 0)=some (.ptr b8 0):=by rw[Ow.ep _ _ Zo];exact ax3
      refine cL @u8 @VZ ⟨?_⟩
      refine gp arx ?_
      rw[<-Lc]
      have ad4:bf X un oz wQ Qh:=⟨Zo,λe B=>by rw[Ow.aa e Zo];exact Kq.aa e B⟩
      refine cI ⟨?_⟩
      refine(afu (j:=Qh) (fh:=ld g) (t:=dl g) (gq:=d4) au.todi Zo (PI.aa (bg:=λe=>e<d4) (λe B=>ad4.aa e Zo) (λ_ a=>a)) (λe B=>Zo) adX Zo Zo Wb (KN (ad7 Vl))).Zm ?_
      rintro aFO Dt pf ⟨rfl,ad5⟩
      have aEl:=ad5.le
      refine cL @Q2 @bD ⟨?_⟩
      exact⟨m,Zo,T+1,gd.set.set.set.set.set,aZ ai4,aZ Xm,be,Zo,ad4.trans (ad5.ko Zo)⟩
    rintro H lP mu ⟨gd,lW⟩
    have UC:=lW.le
    have MN:=gd.t6
    have Tj:=fN
    rw[<-lW.aa _ Zo]at Tj
    refine gm @MN (bp Tj) @qE ⟨?_⟩
    refine jW (λH S' aP=>Dv H (.ptr b 0) aS an.length y d8 d4 (d4+1)/\bf X un oz S' aP) (λT bJ=> ?_) ?_
    ·refine fp (λm H S' aP=>∃(T:Nat),Dv H (.ptr b 0) aS an.length y d8 d4 (d4+1)/\H.g 73=some eM/\H.g 74=some (.Z (g.eqs.length:Int))/\H.g 75=some (.Z (T:Int))/\T+m=g.eqs.length/\bf X un oz S' aP)
      g.eqs.length ⟨0,gd.set.set.set,be,be,fO,Zo,lW⟩ ?_
     clear gd MN Tj lW UC
     rintro m H lP mu ⟨T,gd,ai5,Xn,Q3,ae3,lW⟩
     have UC:=lW.le
     cases m with
     |zero=>
      have d:=zr T g.eqs.length
      refine ed @Q3 @Xn @d ⟨?_⟩
      exact bJ _ _ _ ⟨gd.set,lW⟩
     |succ m=>
      have d:=zs T g.eqs.length
      have bD:=zv T
      obtain⟨aj,b3⟩:=zt g.eqs T
      have Pr:=Zn b3
      have avf:=tn.eqs aj Pr
      have ags:∀e,dx j aM e->U X lP e=U X cn e:=λe B=>by rw[lW.aa e (zq B.2),awV e B]
      obtain⟨QF,tD,U4⟩:=(e6.aa (bg:=dx j aM) ags (λ_ a=>a)).get T aj b3
      have dw:=jp.fI T (by rw[sn.1];omega)
      have hs:=(jp.aa ags).row (i:=T) (r:=QF) Zd tD
      obtain⟨MA,kW,cX,dI,kF,rfl,nJ, -,rn,UV⟩:=U4
      obtain⟨iN,rfl, -, -⟩:=id rn.ptr
      obtain⟨bj,g8,uS⟩:∃bj g8,aj.left=bj::g8:=by
       cases a:aj.left with
       |nil=>exact absurd a avf.some
       |cons F k=>exact⟨F,k,rfl⟩
      have av5:dl g bj≠none:=axG Ud o6 Pr bj (by rw[uS];exact Zv ..)
      have Uw:gt 1 MA (.Z 0)=some (.ptr cX 0):=by
       have:=nJ.fI 0 (by rw[uS];simp[fL])
       simpa using this
      have atH:aI X lP (.ptr cX 0)=some (.str bj):=by
       have:=nJ.cell 0 [.str bj] 0 (.str bj) (by rw[uS];rfl) rfl
       simpa using this
      have tq:cX<aM:=(nJ.ag (by rw[uS];simp[fL])).2
      have C6:=gd.t7
      have u8:=gd.t8
      have L1:aI X lP (.ptr d4 0)=some (.ptr b8 0):=by rw[lW.ep _ _ Zo];exact lt
      have P5:aI X lP (.ptr (d4+1) 0)=some (.func (.func 18) [] [.ptr d4 0]):=by rw[lW.ep _ _ Zo];exact LY
      refine gm @Q3 @Xn @d ⟨?_⟩
      refine gk ?_
      refine pI ⟨?_⟩
      refine gk ?_
      refine gm @ai5 @Q3 (Za @dw @hs) ⟨?_⟩
      refine f7 (iJ (y:=4) (b:=mu) (V:=0) (n:=4) (c:=R.ofList [.aT, .aT, .Z 0, .cF] 0 .nil) (bb Zo) Zo rfl Zd Zd UV) ?_
      generalize TZ:Go.ba.bi X _ mu _=q2
      have lV:U X q2 mu=zu [MA,kW, .Z aj.at_, .ptr iN 0] 4:=by rw[<-TZ,bb Zo];rfl
      have mq:∀e,e<mu->U X q2 e=U X lP e:=λe B=>by rw[<-TZ];exact zw
      clear TZ
      have ag6:aI X q2 (.ptr d4 0)=some (.ptr b8 0):=zB (mq _ Zo) L1
      have axL:aI X q2 (.ptr (d4+1) 0)=some (.func (.func 18) [] [.ptr d4 0]):=zB (mq _ Zo) P5
      have atK:aI X q2 (.ptr cX 0)=some (.str bj):=zB (mq _ Zo) atH
      refine gm @C6 @ag6 (Za (bp lV) (Za @Uw @atK)) ⟨?_⟩
      refine eL (λBk=>(∃GL,U X Bk (mu+1+9)=some (.cells GL 11 .own))/\∀e,e<mu+1->U X Bk e=U X q2 e) ⟨⟨_,by rw[bb Zo];rfl⟩,λe B=>zw⟩ ?_
      rintro Bk ⟨⟨GL,mg⟩,eV⟩
      have aw0:∀e,e<mu->U X Bk e=U X lP e:=λe B=>by rw[eV e Zo,mq e B]
      refine(yU (j:=mu+1+12) au.todi Zo (PI.aa (bg:=λe=>e<d4) (λe B=>by rw[aw0 e Zo];exact lW.aa e Zo) (λ_ a=>a)) (λe B=>Zo) bj).Zm ?_
      rintro aFM Bl ne ⟨rfl,Kq⟩
      have aEj:=Kq.le
      rw[<-Kq.aa _ Zo]at mg
      have Lc:gW (dl g) bj=mB ((dl g bj).getD nw).d:=rfl
      generalize (dl g bj).getD nw=im at Lc ⊢
      have Vk:lM im=[.Z im.kind, .str im.d.name, .Z im.d.at_, .bool im.d.ty.b, .bool im.d.ty.s, .Z im.d.ty.w, .str im.d.on, .Z im.d.eP, .bool im.d.no, .Z im.eq, .Z im.left]:=rfl
      rw[Vk]
      refine hw ⟨?_⟩
      refine hw ⟨?_⟩
      refine f7 (iJ (y:=11) (b:=mu+1+9) (V:=0) (n:=11) mg Zo rfl Zd Zd rfl) ?_
      generalize T2:Go.ba.bi X Bl (mu+1+9) _=wQ
      have ax5:cZ X wQ 8 (.ptr (mu+1+9) 1)=some (.agg (d6 im.d)):=by
       have tX:∃c,U X wQ (mu+1+9)=some (.cells c 11 .own)/\∀i,i<11->c.get i=(lM im)[i]? :=⟨_,by rw[<-T2,bb Zo],λi aN=>by
        rw[ix,Zp ⟨YN _,by simpa[D.cells]using aN⟩,YL];rfl⟩
       obtain⟨c,ii,ax⟩:=tX
       rw[tM,bp ii,bp ii,bp ii,bp ii,bp ii,bp ii,bp ii,bp ii,ax 1 Zo,ax (1+1) Zo,ax (1+2) Zo,ax (1+3) Zo,ax (1+4) Zo,ax (1+5) Zo,ax (1+6) Zo,ax (1+7) Zo];rfl
      have PZ:∀e,e<mu+1->U X wQ e=U X q2 e:=λe B=>by rw[<-T2,aC Zo Zo,Kq.aa e Zo,eV e B]
      clear T2
      rw[<-PZ _ Zo]at lV
      have Wb:aI X wQ (.ptr d4 0)=some (.ptr b8 0):=zB (PZ _ Zo) ag6
      have VZ:aI X wQ (.ptr (d4+1) 0)=some (.func (.func 18) [] [.ptr d4 0]):=zB (PZ _ Zo) axL
      refine qk (qk ?_)
      refine hw ⟨?_⟩
      refine hw ⟨?_⟩
      generalize OK:Go.ba.bi X _ (ne+1) _=Dt
      have sd:∃c,U X Dt (ne+1)=some (.cells c 1 .own)/\c.get 0=some (.Z 0):=⟨_,by rw[<-OK,bb Zo];rfl,by rw[ix];rfl⟩
      have gc:∃c,U X Dt ne=some (.cells c 1 .own)/\c.get 0=some .zT:=⟨_,by rw[<-OK];simp(disch:=omega) only[aC,bb]<;>rfl,by rw[ix];rfl⟩
      have LN:∀e,e<ne->U X Dt e=U X wQ e:=λe B=>by rw[<-OK];exact zw
      clear OK
      rw[<-LN _ Zo]at lV
      have P9:aI X Dt (.ptr d4 0)=some (.ptr b8 0):=zB (LN _ Zo) Wb
      have agU:aI X Dt (.ptr (d4+1) 0)=some (.func (.func 18) [] [.ptr d4 0]):=zB (LN _ Zo) VZ
      have ax6:cZ X Dt 8 (.ptr (mu+1+9) 1)=some (.agg (d6 im.d)):=by rw[<-ax5,tM,tM];simp only[cl,LN (mu+1+9) Zo]
      refine gb @C6 @P9 (bp lV) @ax6 @u8 ⟨?_⟩
      refine(JL (j:=ne+1+1+8) au.todi Zo im.d).Zm ?_
      rintro aFP Jt Wp ⟨rfl,Kr⟩
      have aEm:=Kr.le
      rw[<-Lc]
      have aej:Nc (dl g) aj.right (gW (dl g) bj):=⟨ad7 av5,aAO Ud HX o6 Pr⟩
      generalize gW (dl g) bj=oW at aej ⊢
      rw[<-Kr.aa _ Zo]at lV
      rw[<-Kr.ep _ _ Zo]at P9 agU
      obtain⟨JP,sd,tX⟩:=sd
      obtain⟨vs,gc,an2⟩:=gc
      rw[<-Kr.aa _ Zo]at sd gc
      have VI:∀e,e<mu->U X Jt e=U X lP e:=λe B=>by rw[Kr.aa e Zo,LN e Zo,PZ e Zo,mq e B]
      have af1:ia X Jt (λe=>e<d4) (.ptr b8 0) (dl g):=PI.aa (bg:=λe=>e<d4) (λe B=>by rw[VI e Zo];exact lW.aa e Zo) (λ_ a=>a)
      refine cL @C6 @P9 ⟨?_⟩
      refine gp (by simp[D.same]) ?_
      refine ce (bp lV) ⟨?_⟩
      refine gp (by simp[D.same]) ?_
      have at5:cE X Jt (dx j aM) aj.right (.ptr iN 0):=cE.aa (λe B=>VI e (zq B.2)) _ _ rn
      refine(ajg au.todi (dl g) (λs _ _=>s+1) (dx j aM) (λe=>e<d4) (ne+1+1) (.ptr b8 0) (Ge X Jt (ne+1+1) (ne+1) ne) 21 [] [.ptr (ne+1) 0, .ptr ne 0, .ptr (d4+1) 0] Zo (λe B=>zq B.2) (λe B=>Zo)
       (λs h n a=>⟨a.le,af1.aa (λe B=>a.low e Zo Zo Zo) (λ_ a=>a)⟩) (λs h n S' aP a f4 y=>a.aa Zo Zo f4 y) (Nc (dl g)) (λE c i F a aA=>aAo Oz aes a aA)
       (λs E v c h j a Y bz=>aoK (fh:=ld g) (gq:=d4) (bv:=d4+1) au.todi Zo Zo Zo Zo Zo af1 (λe B=>⟨Zo,Zo,Zo⟩) adX Zo ⟨Zo,Zo,Zo⟩ ⟨Zo,Zo,Zo⟩ P9 agU (KN Y.1) (λe B=>by have:=B.2;exact⟨Zo,Zo,Zo⟩) a)
       _ aj.right (Yh _) 0 (.ptr iN 0) oW Jt Wp ⟨Zo,⟨_,sd,tX⟩,⟨_,gc,an2⟩,λ_ _ _ _=>rfl⟩ aej at5).Zm ?_
      rintro aFQ aDq aFr ⟨rfl,fe,aEn, -, -⟩
      rw[ajr,ZS]at fe
      have Vq:=eN g o6 aj Pr
      have EF:=aCf aj.right
      obtain⟨aDD,ar5,ago⟩:=fe.ask
      obtain⟨r6,iB,eZ⟩:=fe.all
      rw[aCZ _ Zo]at ago
      have yL:decide (((hO aj.right:Nat):Int)=0)=false:=by simp only[Zc];omega
      refine et (bp iB) @eZ (bp ar5) @ago @yL @Q3 @bD ⟨?_⟩
      exact⟨m,Zo,T+1,gd.set.set.set.set.set.set.set,aZ ai5,aZ Xn,be,Zo,⟨Zo,λe B=>by rw[fe.low e Zo Zo Zo,VI e Zo];exact lW.aa e B⟩⟩
    rintro H lP mu ⟨gd,lW⟩
    have aCG:=gd.t45
    refine cL @aCG @bD ⟨?_⟩
    exact⟨m,Zo,y+1,aZ gd.t3,aZ gd.t43,aZ gd.t44,be,Zo,⟨zq lW.le,λe B=>by rw[lW.aa e Zo,auD e B]⟩⟩
  ·have f1:decide (aiT≠0)=true:=by simp[uQ]
   refine ce @f1 ⟨?_⟩
   refine GK Ls ?_
   exact⟨rfl,Zo,xy⟩
end
end
end Go.Proofs.YtpeabpmnlmaabaaGreatDoor

