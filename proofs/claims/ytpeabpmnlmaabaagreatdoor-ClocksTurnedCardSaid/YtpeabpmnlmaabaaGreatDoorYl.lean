/- Part of the proof of the last text; no conditions -/
import Derived.Test.YtpeabpmnlmaabaaGreatDoorYk
set_option maxHeartbeats 8000000
set_option linter.all false
namespace Go.Proofs.YtpeabpmnlmaabaaGreatDoor
open Go.bg Go.aL
noncomputable section
def rp{p:Prop}[Decidable p](a:p):decide p=true:=decide_eq_true a
def rn{p:Prop}[Decidable p](a:¬p):decide p=false:=decide_eq_false a
def Oi(t:d3):qK false 0 1 (.agg (eE t))=some (.bool t.b):=rfl
def uu(t:d3):E.same 30 (.agg (eE t)) (.agg (eE t))=true:=by
 obtain⟨F,b,c⟩:=t
 have H:∀x:Bool,E.same 29 (.bool x) (.bool x)=true:=λx=>by cases x<;>rfl
 have M:E.same 29 (.Z c) (.Z c)=true:=by simp only[E.same];simp
 simp only[eE]
 rw[E.same]
 simp only[oI,H,M,Ys]
section
variable{X:ca}{h R aQ aP:S ag}{j an aV aX:Nat}{P:Nat->Prop}
def DO(X:ca):Prop:=∀h,dE X h 3 (.ptr 2 0)=some (.agg (eE Jy))
def abR(X:ca)(h:S ag)(j:Nat)(r:List d3×Bool):bK:=λac R an=>∃w,ac= .tuple [w, .bool r.2]/\w.cells=[w]/\nP X R (dU j an) w r.1/\br X h j R an
def qa(aw:dk X)(aF:(o X).a8<=j)(bY:br X h j aQ aV){I:d3}{bx:Bool}{r:List d3×Bool}(Y:r=([I],bx)):
 a2 X 105 [.agg (eE I), .bool bx] aQ aV (λXM G3 azR=>ar (oh 0 XM) λaEx=>ar (oh 1 XM) λaEy=>abR X h j r (.tuple [aEx,aEy]) G3 azR) zL:=by
 subst Y
 have gl:=bY.le
 have a:=(aCy (h:=aQ) (j:=aV) aw Zo I bx).out
 refine a.Zm ?_
 rintro ac R aS ⟨w,rfl,bb,ba,bI⟩
 refine cL ⟨?_⟩
 exact⟨w,rfl,bb,ba.ab (λ_ _=>rfl) (λe z=>⟨zz z.1,z.2⟩),bY.trans bI⟩
def y0{D:bp}{F:List d3}(bb:DS jJ D)(nl:F.length=D.args.length){m:Nat}(a:tq D.kind=some (m+1)):∃b k,F=b::k:=by
 have:=bb.sp _ a
 cases F with
 |nil=>simp at nl;omega
 |cons b k=>exact⟨b,k,rfl⟩
def aD3{F:List d3}{aO:E}{cv:List Nat}(a:ga X h aO 3 (qs F).flatten cv)(M:2<=F.length)(bn:F.length<=1000)(az:∀e∈cv,P e):
 ∃lh,uv X h 3 aO (some (.Z 1)) none none=some lh/\lh.cells=[lh]/\yU X h P lh F.tail:=by
 have gp:=ajZ F
 obtain⟨Hg,cG⟩:=a.uq (P:=P) Zd (M2 F) (by simp[qs];omega) az
 have it:=(show nP X h P aO F from⟨Hg,cG⟩).rd
 have dA:∀i t,F.tail[i]? =some t->∃b T,gd 3 aO (.Z ((i+1:Nat):Int))=some (.ptr b T)/\P b/\dE X h 3 (.ptr b T)=some (.agg (eE t))/\aU X h (.ptr b T)=some (.bool t.b):=
  λi t aG=>it.fx (i+1) t (by rw[<-aG];cases F<;>simp)
 have c3:∀i t,F.tail[i]? =some t->i<F.length-1:=λi t aG=>by have:=(Zb.1 aG).1;simpa using this
 have bC:n4 (.Z 1)=some 1:=rfl
 rcases a with (⟨_,a,_⟩|⟨b,eS,n,c,rfl,al,rfl,aB,bw,b1,c6⟩)|⟨b,n,c,st,rfl,al,rfl,aB,bw⟩
 ·rw[a]at gp;simp at gp;omega
 ·have aF:n=F.length:=Zo
  subst aF
  have aj:mR F.length ((F.length*3-0)/3) (some (.Z 1)) none none=some (1,F.length,F.length):=by
   have cE:(F.length*3-0)/3=F.length:=Zo
   rw[cE]
   have cA:Nat.ble 1 F.length=true:=j3 Zo
   simp only[mR,qd,bC,cA,fo]
  refine⟨.fl b (0+1*3) (F.length-1) 3, ?_,rfl,⟨by rw[wK,List.length_tail],Zx,λi t aG=> ?_⟩⟩
  ·simp only[uv,yu,b1,aj]
   have cE:(F.length*3-0)/3=F.length:=Zo
   rw[cE]
   have cA:Nat.blt 1 F.length=true:=by simp[Nat.blt];omega
   simp[cA,fw]
  ·obtain⟨bQ,hc,cE,cA,dT,fG⟩:=dA i t aG
   have kS:=c3 i t aG
   rw[Fp _ Zo]at cE
   cases cE
   refine⟨b,0+1*3+i*3,Fp _ kS,cA, ?_, ?_⟩
   ·rw[show 0+1*3+i*3=0+(i+1)*3 by omega];exact dT
   ·rw[show 0+1*3+i*3=0+(i+1)*3 by omega];exact fG
 ·have aF:n=F.length:=Zo
  subst aF
  have aj:mR F.length F.length (some (.Z 1)) none none=some (1,F.length,F.length):=by
   have cA:Nat.ble 1 F.length=true:=j3 Zo
   simp only[mR,qd,bC,cA,fo]
  refine⟨.slice b (0+1*3) (F.length-1) (F.length-1), ?_,rfl,⟨by rw[ug,List.length_tail],Zx,λi t aG=> ?_⟩⟩
  ·simp only[uv,aj]
   have cA:¬F.length=1:=Zo
   simp[cA,ia]
  ·obtain⟨bQ,hc,cE,cA,dT,fG⟩:=dA i t aG
   have kS:=c3 i t aG
   rw[Fo _ Zo]at cE
   cases cE
   refine⟨b,0+1*3+i*3,Fo _ kS,cA, ?_, ?_⟩
   ·rw[show 0+1*3+i*3=0+(i+1)*3 by omega];exact dT
   ·rw[show 0+1*3+i*3=0+(i+1)*3 by omega];exact fG
set_option maxRecDepth 100000 in
def aCz(aw:dk X)(ez:DO X){am:List Go.aL.Node}{t:aR->Option c0}{bT:Nat}{Dx p cr:E}(aF:(o X).a8<=j)(iO:bT<j)(aA:GR X h bT Dx p cr)(ba:kd X h P cr t)(bV:oX X h P am p)(aK:am≠[])(bs:∀e,P e->e<j)(bn:∀g∈am,g.d8.length<=100000/\g.out.length<=100000)
 {D:bp}{v:E}(bA:cn X h P D v)(bb:DS jJ D){F:List d3}{aO:E}{cv:List Nat}(nl:F.length=D.args.length)(aE:ga X h aO 3 (qs F).flatten cv)(ES:F.length<=300000)(eR:∀e∈cv,P e):
 a2 X 84 [.ptr bT 0,v,aO] h j (abR X h j (kI am t D F)) zL:=by
 obtain⟨Hg,cG⟩:=aE.uq (P:=P) Zd (M2 F) (by simp[qs];omega) eR
 have PN:nP X h P aO F:=⟨Hg,cG⟩
 have it:=PN.rd
 obtain⟨hP,_,_⟩:=jS it.len
 refine zG aw (aof X) ?_
 rw[aog]
 unfold abA
 obtain⟨hu,_,_,_,rfl,afg,a0,_,cf,_,a4,a5,jK,_⟩:=id bA.open
 have AW:dE X h 3 (.ptr hu 4)=some (.agg (eE D.ty)):=by rw[wJ,a4,a5,jK];rfl
 have bR:=bb.bR
 have cm:=bb.cm
 have aey:=ez h
 have ab:∀{R:S ag}{n aS:Nat},br X h n R aS->j<=n->∀e,P e->W X R e=W X h e:=λa aF e z=>a.ab e (zz (bs e z))
 have x9:∀b k,F=b::k->∃ce T,gd 3 aO (.Z 0)=some (.ptr ce T)/\P ce/\dE X h 3 (.ptr ce T)=some (.agg (eE b))/\aU X h (.ptr ce T)=some (.bool b.b):=λb k a=>it.fx 0 b (by rw[a];rfl)
 have C2:∀{R:S ag}{n aS ce T:Nat}{b:d3},br X h n R aS->j<=n->P ce->dE X h 3 (.ptr ce T)=some (.agg (eE b))->aU X h (.ptr ce T)=some (.bool b.b)->dE X R 3 (.ptr ce T)=some (.agg (eE b))/\aU X R (.ptr ce T)=some (.bool b.b):=
  λa aF ay cE cA=>⟨by rw[wI,ab a aF _ ay, <-wI];exact cE,zK (ab a aF _ ay) cA⟩
 have auP:D.kind=1\/D.kind=2\/(D.kind=3\/D.kind=5)\/(D.kind=4\/D.kind=19\/D.kind=20)\/D.kind=6\/(D.kind=7\/D.kind=8\/D.kind=9\/D.kind=21\/D.kind=22)\/(D.kind=16\/D.kind=17\/D.kind=18)\/(D.kind=10\/D.kind=11)\/(D.kind=12\/D.kind=13\/D.kind=14\/D.kind=15)\/D.kind=23\/D.kind=24\/D.kind=26\/D.kind=25:=Zo
 rcases auP with a|a|a|a|a|a|a|a|a|a|a|a|a
 ·refine gk @a0 @rp @rn @AW ⟨?_⟩
  exact qa aw aF (br.refl _ _) (by unfold kI;rw[Zp a])
 ·refine gk @a0 @rp @rn @cf ⟨?_⟩
  refine(Mz aw aF iO aA.dC ba bs D.name).Zm ?_
  rintro ac aP aX ⟨rfl,bI⟩
  refine cL ⟨?_⟩
  exact qa aw aF bI (by unfold kI;rw[Zg Zo,Zp a])
 ·rcases a with a|a
  all_goals
   obtain⟨b,k,rfl⟩:=y0 bb nl (by rw[a];rfl)
   obtain⟨ce,T,hg,gq,i3,i4⟩:=x9 b k rfl
   refine f3 @a0 @rp @rn @hg @i3 ⟨?_⟩
   exact qa aw aF (br.refl _ _) (by simp[kI,a])
 ·rcases a with a|a|a
  all_goals
   obtain⟨b,k,rfl⟩:=y0 bb nl (by rw[a];rfl)
   obtain⟨ce,T,hg,gq,i3,i4⟩:=x9 b k rfl
   refine ic @a0 @rp @rn @hg @i3 @i4 ⟨?_⟩
   exact qa aw aF ((br.refl _ _).more Zo) (by simp[kI,a])
 ·obtain⟨b,k,rfl⟩:=y0 bb nl (by rw[a];rfl)
  obtain⟨ce,T,hg,gq,i3,i4⟩:=x9 b k rfl
  refine ic @a0 @rp @rn @hg @i3 @cf ⟨?_⟩
  refine(Mz (j:=j+16) aw Zo Zo aA.dC ba (λe z=>zz (bs e z)) D.name).Zm ?_
  rintro ac aP aX ⟨rfl,bI⟩
  obtain⟨qY,wD⟩:=C2 bI Zo gq i3 i4
  refine cS @Oi @qY ⟨?_⟩
  refine gP (uu b) ?_
  refine cL ⟨?_⟩
  exact qa aw aF (bI.kZ Zo) (by simp[kI,a])
 ·rcases a with a|a|a|a|a
  all_goals
   obtain⟨b,k,rfl⟩:=y0 bb nl (by rw[a];rfl)
   obtain⟨ce,T,hg,gq,i3,i4⟩:=x9 b k rfl
   refine f3 @a0 @rp @rn @hg @i3 ⟨?_⟩
   refine(I8 (j:=j+11) aw Zo hP it (λe z=>zz (bs e z))).Zm ?_
   rintro ac aP aX ⟨rfl,bI⟩
   obtain⟨qY,wD⟩:=C2 bI Zo gq i3 i4
   refine cj @qY ⟨?_⟩
   refine gP (uu b) ?_
   refine cL ⟨?_⟩
   exact qa aw aF (bI.kZ Zo) (by simp[kI,a])
 ·rcases a with a|a|a
  all_goals
   obtain⟨b,k,rfl⟩:=y0 bb nl (by rw[a];rfl)
   obtain⟨ce,T,hg,gq,i3,i4⟩:=x9 b k rfl
   refine f3 @a0 @rp @rn @hg @i3 ⟨?_⟩
   refine(I8 (j:=j+18) aw Zo hP it (λe z=>zz (bs e z))).Zm ?_
   rintro ac aP aX ⟨rfl,bI⟩
   obtain⟨qY,wD⟩:=C2 bI Zo gq i3 i4
   cases aj:q2 (b::k)
   ·refine cj @qY ⟨?_⟩
    refine gP (uu b) ?_
    refine cL ⟨?_⟩
    exact qa aw aF (bI.kZ Zo) (by simp[kI,a,aj])
   ·refine er @hg @qY @wD ⟨?_⟩
    refine gP (uu b) ?_
    refine cL ⟨?_⟩
    exact qa aw aF (bI.kZ Zo) (by simp[kI,a,aj])
 ·rcases a with a|a
  all_goals
   obtain⟨b,k,rfl⟩:=y0 bb nl (by rw[a];rfl)
   obtain⟨ce,T,hg,gq,i3,i4⟩:=x9 b k rfl
   refine gk @a0 @rp @rn @aey ⟨?_⟩
   refine(I8 (j:=j+9) aw Zo hP it (λe z=>zz (bs e z))).Zm ?_
   rintro ac aP aX ⟨rfl,bI⟩
   obtain⟨qY,wD⟩:=C2 bI Zo gq i3 i4
   have OC:=ez aP
   refine cj @OC ⟨?_⟩
   refine gP (uu Jy) ?_
   refine cL ⟨?_⟩
   exact qa aw aF (bI.kZ Zo) (by simp[kI,a])
 ·rcases a with a|a|a|a
  all_goals
   obtain⟨b,k,rfl⟩:=y0 bb nl (by rw[a];rfl)
   obtain⟨ce,T,hg,gq,i3,i4⟩:=x9 b k rfl
   refine gk @a0 @rp @rn @aey ⟨?_⟩
   refine(I8 (j:=j+16) aw Zo hP it (λe z=>zz (bs e z))).Zm ?_
   rintro ac aP aX ⟨rfl,bI⟩
   obtain⟨qY,wD⟩:=C2 bI Zo gq i3 i4
   have OC:=ez aP
   cases aj:q2 (b::k)
   ·refine cj @OC ⟨?_⟩
    refine gP (uu Jy) ?_
    refine cL ⟨?_⟩
    exact qa aw aF (bI.kZ Zo) (by simp[kI,a,aj])
   ·refine er @hg @wD @OC ⟨?_⟩
    refine gP (uu Jy) ?_
    refine cL ⟨?_⟩
    exact qa aw aF (bI.kZ Zo) (by simp[kI,a,aj])
 ·obtain⟨cb,bQ,cl,rfl⟩:∃cb bQ cl,F=[cb,bQ,cl]:=by
   have al:F.length=3:=nl.trans (bb.sp 3 (by rw[a];rfl))
   match F,al with
   |[x,e,bE],_=>exact⟨x,e,bE,rfl⟩
  obtain⟨ce,T,hg,gq,i3,i4⟩:=x9 cb [bQ,cl] rfl
  obtain⟨NJ,aA3,cE,cA,dT,fG⟩:=it.fx 1 bQ rfl
  have cE:gd 3 aO (.Z 1)=some (.ptr NJ aA3):=cE
  obtain⟨lh,i2,jF,ML⟩:=aD3 aE Zs Zs eR
  cases aj:cb.b
  ·rw[aj]at i4
   refine eh @a0 @rp @rn @hg @cE @dT @i4 ⟨?_⟩
   refine gP (uu bQ) ?_
   refine cL ⟨?_⟩
   exact qa aw aF ((br.refl _ _).more Zo) (by simp[kI,a,aj])
  ·rw[aj]at i4
   refine eh @a0 @rp @rn @hg @cE @dT (Za @i4 @i2) ⟨?_⟩
   refine(I8 (j:=j+18) (b:=bQ) (k:=[cl]) aw Zo jF ML (λe z=>zz (bs e z))).Zm ?_
   rintro ac aP aX ⟨rfl,bI⟩
   obtain⟨qY,wD⟩:=C2 bI Zo cA dT fG
   refine cj @qY ⟨?_⟩
   refine gP (uu bQ) ?_
   refine cL ⟨?_⟩
   exact qa aw aF (bI.kZ Zo) (by simp[kI,a,aj])
 ·obtain⟨b,k,rfl⟩:=y0 bb nl (by rw[a];rfl)
  obtain⟨ce,T,hg,gq,i3,i4⟩:=x9 b k rfl
  refine f3 @a0 @rp @rn @hg @i3 ⟨?_⟩
  refine(I8 (j:=j+20) aw Zo hP it (λe z=>zz (bs e z))).Zm ?_
  rintro ac aP aX ⟨rfl,bI⟩
  obtain⟨qY,wD⟩:=C2 bI Zo gq i3 i4
  cases aj:q2 (b::k)
  ·refine cj @qY ⟨?_⟩
   refine gP (uu b) ?_
   refine cj @qY ⟨?_⟩
   refine gP (uu b) ?_
   refine cL ⟨?_⟩
   exact qa aw aF (bI.kZ Zo) (by simp[kI,a,aj])
  ·have ao3:aU X aP (.ptr hu 2)=some (.str D.name):=zK (ab bI Zo hu afg) cf
   have fN:=bI.le
   refine cS @ao3 @qY ⟨?_⟩
   refine gP (uu b) ?_
   refine cL ⟨?_⟩
   refine(Mz (j:=aX) aw Zo Zo (aA.ab (bI.ab bT Zo)).dC (ba.ab (a7:=P) (ab bI Zo) (λ_ a=>a)) (λe z=>zz (bs e z)) D.name).Zm ?_
   rintro ac a6 bz ⟨rfl,cp⟩
   have aeC:=bI.trans cp
   obtain⟨es,fk⟩:=C2 aeC Zo gq i3 i4
   refine cS @Oi @es ⟨?_⟩
   refine gP (uu b) ?_
   refine cL ⟨?_⟩
   exact qa aw aF (aeC.kZ Zo) (by simp[kI,a,aj])
 ·obtain⟨b,k,rfl⟩:=y0 bb nl (by rw[a];rfl)
  obtain⟨ce,T,hg,gq,i3,i4⟩:=x9 b k rfl
  cases aj:D.ty.b
  ·rw[aj]at a4
   refine f3 @a0 @rp @rn @AW @a4 ⟨?_⟩
   exact qa aw aF ((br.refl _ _).more Zo) (by simp[kI,a,aj])
  ·rw[aj]at a4
   refine eh @a0 @rp @rn @AW @a4 @hg @i4 ⟨?_⟩
   exact qa aw aF ((br.refl _ _).more Zo) (by simp[kI,a,aj])
 ·have Y:kI am t D F=B1 am D.name F:=by simp[kI,a]
  rw[Y]
  refine er @a0 @rp @rn ⟨?_⟩
  refine(aqm aw aF iO aA bV aK bs bn bA PN).Zm ?_
  rintro ac aP aX ⟨w,rfl,H,M,al⟩
  refine cL ⟨?_⟩
  exact⟨w,rfl,H,M,al⟩
end
def Ek(D:Nat×E×Nat):E×E×Nat:=(.ptr D.1 0,D.2.1,D.2.2)
mutual
def D7:bp->Nat
 | .mk _ _ _ _ _ _ args=>uN args+1
def uN:List bp->Nat
 |[]=>0
 |D::k=>D7 D+uN k
end
def aqG(D:bp):D7 D=uN D.args+1:=by cases D;rw[D7];rfl
def aqH:uN []=0:=by rw[uN]
def acT(D:bp):∀k:List bp,uN (k++[D])=uN k+D7 D:=by
 intro k
 induction k with
 |nil=>simp[uN]
 |cons F k ah=>rw[YO,uN,uN,ah];omega
section
variable{X:ca}{h R aQ aP:S ag}{j an aV aX:Nat}
def nN(X:ca)(h:S ag)(P:Nat->Prop)(r:Nat)(dP:Nat->Option E):Prop:=∃dv ff,W X h r=some (.map (dv.map Ek) ff)/\(∀w,sS dv w=dP w)/\∀x∈dv,P x.1/\qC X h x.1
variable{P:Nat->Prop}
def nN.ab{r:Nat}{dP:Nat->Option E}(a:nN X h P r dP)(ayD:W X R r=W X h r)(u:∀e,P e->W X R e=W X h e):nN X R P r dP:=by
 obtain⟨dv,ff,H,M,al⟩:=a
 exact⟨dv,ff,by rw[ayD];exact H,M,λx af=>⟨(al x af).1,(al x af).2.ab (u _ (al x af).1)⟩⟩
def WF(b:Nat):nQ X 20 54 (.ptr b 0)=true:=Zk
def arR(b dD:Nat):jg X h 20 54 (.ptr b 0) (.ptr dD 0)=bg.ptrEq X h b 0 dD 0:=Zk
def aBI{b dD:Nat}(a:qC X h b)(cF:qC X h dD)(aF:(o X).a8<=b):bg.ptrEq X h b 0 dD 0=some (decide (b=dD)):=by
 obtain⟨c,n,H,M⟩:=a
 obtain⟨fX,aS,al,aB⟩:=cF
 unfold bg.ptrEq
 rw[ia]
 by_cases D:b=dD
 ·simp[D]
 ·have bQ:Nat.blt 0 n=true:=j3 Zo
  have cl:Nat.blt 0 aS=true:=j3 Zo
  have cE:Jc X h b 0=true:=by simp only[Jc,H,jv,j3 aF,bQ,Ys]
  have cA:C4 X h dD 0=true:=by simp only[C4,al,cl]
  simp[D,cE,cA,fw]
def Tb{b:Nat}(aj:qC X h b)(aF:(o X).a8<=b):∀(dv:List (Nat×E×Nat)) (i:Nat),(∀x∈dv,P x.1/\qC X h x.1)->findKey X h 54 (.ptr b 0) (dv.map Ek) i=some (mU dv b i):=by
 intro dv
 induction dv with
 |nil=>intro i _;rfl
 |cons x dv ah=>
  intro i sB
  simp only[ZJ,Ek,findKey,arR,aBI aj (sB x (Zv ..)).2 aF,mU]
  by_cases a:b=x.1
  ·have:x.1=b:=a.symm
   simp[this]
  ·have:¬x.1=b:=λD=>a D.symm
   simp only[a,this,Yl,ZB]
   exact ah (i+1) (λx af=>sB x (Zt _ af))
def ayr(b:Nat):oH 20 (.ptr b 0) (.ptr b 0)=true:=by
 simp[oH]
def azN{r:Nat}{dP:Nat->Option E}(Y:(o X).a8<=r)(a:nN X h P r dP){b:Nat}(aj:qC X h b)(ay:P b)(aF:(o X).a8<=b)(v:E):
 ∃R,uh X h j 54 (.map r) (.ptr b 0) v=some (.fH bg.undef R j)/\nN X R P r (λx=>if x=b then some v else dP x)/\∀e,e≠r->W X R e=W X h e:=by
 obtain⟨dv,ff,H,M,al⟩:=a
 have aJ:jv X r=true:=j3 Y
 have dn:∀e,qC X h e->e≠r:=λe z D=>by obtain⟨c,n,ak,_⟩:=z;rw[D,H]at ak;cases ak
 have key:∀(N:List (Nat×E×Nat)) (tu:Nat),(∀x∈N,x.1=b\/∃e∈dv,e.1=x.1)->(∀x∈N,P x.1/\qC X (Go.bg.bm X h r (some (.map (N.map Ek) tu))) x.1):=λN tu jw x af=>by
  have ak:P x.1/\qC X h x.1:=by
   rcases jw x af with D|⟨e,z,D⟩
   ·rw[D];exact⟨ay,aj⟩
   ·rw[<-D];exact al e z
  exact⟨ak.1,ak.2.ab (aI Y (dn _ ak.2))⟩
 cases b4:mU dv b 0 with
 |none=>
  refine⟨Go.bg.bm X h r (some (.map ((dv++[(b,v,ff)]).map Ek) (ff+1))), ?_,⟨dv++[(b,v,ff)],ff+1,bh Y,λx=> ?_,key _ _ λx af=> ?_⟩,λe z=>aI Y z⟩
  ·simp only[uh,H,WF,fo,Tb aj aF _ _ al,b4,bg.setObj,aJ,fo,hf]
   rw[ZW]
   rfl
  ·rw[ahO _ _ _ _ _ (by unfold sS;rw[b4];rfl),M]
  ·rcases Zz.1 af with af|af
   ·exact .inr ⟨x,af,rfl⟩
   ·rw[List.mem_singleton]at af;exact .inl (by rw[af])
 |some p=>
  obtain⟨V,v0⟩:=p
  obtain⟨born,auC⟩:=adX b dv V v0 b4
  have av8:(dv.map Ek)[V]? =some (.ptr b 0,v0,born):=by rw[Zy,auC];rfl
  refine⟨Go.bg.bm X h r (some (.map ((dv.set V (b,v,born)).map Ek) ff)), ?_,⟨dv.set V (b,v,born),ff,bh Y,λx=> ?_,key _ _ λx af=> ?_⟩,λe z=>aI Y z⟩
  ·simp only[uh,H,WF,fo,Tb aj aF _ _ al,b4,qi,av8,ayr,bg.setObj,aJ,fo,hf]
   rw[List.map_set]
   rfl
  ·rw[ahP _ _ _ _ _ _ _ b4,M]
  ·rcases YQ af with af|af
   ·exact .inr ⟨x,af,rfl⟩
   ·exact .inl (by rw[af])
def pE(X:ca)(h:S ag)(r n:Nat):Prop:=∃b8 ff,W X h r=some (.map b8 ff)/\b8.length=n
def pE.ab{r n:Nat}(a:pE X h r n)(u:W X R r=W X h r):pE X R r n:=by unfold pE;rw[u];exact a
def azO{r n:Nat}{dP:Nat->Option E}(Y:(o X).a8<=r)(a:nN X h P r dP)(jw:pE X h r n){b:Nat}(aj:qC X h b)(aF:(o X).a8<=b)(aK:dP b=none){v:E}(aC:uh X h j 54 (.map r) (.ptr b 0) v=some (.fH bg.undef R j)):pE X R r (n+1):=by
 obtain⟨dv,ff,H,M,al⟩:=a
 obtain⟨b8,tu,bP,b2⟩:=jw
 rw[H]at bP
 cases bP
 have aJ:jv X r=true:=j3 Y
 have aB:=M b
 rw[aK]at aB
 unfold sS at aB
 have b4:mU dv b 0=none:=by
  cases bM:mU dv b 0 with
  |none=>rfl
  |some p=>rw[bM]at aB;cases aB
 simp only[uh,H,WF,fo,Tb aj aF _ _ al,b4,bg.setObj,aJ,fo,hf,Zf,ed.fH.injEq]at aC
 obtain⟨_,rfl,_⟩:=aC
 exact⟨_,_,bh Y,by rw[ZL,b2];rfl⟩
mutual
def oZ(X:ca)(h:S ag)(am:List Go.aL.Node)(t:aR->Option c0)(dP:Nat->Option E)(P eV:Nat->Prop):bp->E->Prop
 | .mk u F nm no ty n args,v=>∃b aO ce bk row w,v= .ptr b 0/\P b/\aU X h (.ptr b 8)=some aO/\dV X h P ce aO 1 (bk.map λv=>[v])/\ow am t (.mk u F nm no ty n args)= .ok row/\dP b=some w/\w.cells=[w]/\nP X h eV w row/\lN X h am t dP P eV args bk
def lN(X:ca)(h:S ag)(am:List Go.aL.Node)(t:aR->Option c0)(dP:Nat->Option E)(P eV:Nat->Prop):List bp->List E->Prop
 |[],bk=>bk=[]
 |D::b8,bk=>∃v lI,bk=v::lI/\oZ X h am t dP P eV D v/\lN X h am t dP P eV b8 lI
end
mutual
def oZ.ab{am:List Go.aL.Node}{t:aR->Option c0}{dP jD:Nat->Option E}{P eV sg sl:Nat->Prop}(u:∀e,P e->W X R e=W X h e)(ud:∀e,eV e->W X R e=W X h e)(az:∀e,P e->jD e=dP e)(ay:∀e,P e->sg e)(z:∀e,eV e->sl e):∀(D:bp) (v:E),oZ X h am t dP P eV D v->oZ X R am t jD sg sl D v
 | .mk wE F nm no ty n args,v,a=>by
   rw[oZ]at a ⊢
   obtain⟨b,aO,ce,bk,row,w,H,M,al,aB,bw,b1,c6,el,gY⟩:=a
   exact⟨b,aO,ce,bk,row,w,H,ay b M,zK (u b M) al,(aB.ab u).lift ay,bw,by rw[az b M];exact b1,c6,el.ab ud z,lN.ab u ud az ay z args bk gY⟩
def lN.ab{am:List Go.aL.Node}{t:aR->Option c0}{dP jD:Nat->Option E}{P eV sg sl:Nat->Prop}(u:∀e,P e->W X R e=W X h e)(ud:∀e,eV e->W X R e=W X h e)(az:∀e,P e->jD e=dP e)(ay:∀e,P e->sg e)(z:∀e,eV e->sl e):∀(b8:List bp) (bk:List E),lN X h am t dP P eV b8 bk->lN X R am t jD sg sl b8 bk
 |[],bk,a=>by rw[lN]at a ⊢;exact a
 |D::b8,bk,a=>by
  rw[lN]at a ⊢
  obtain⟨v,lI,H,M,al⟩:=a
  exact⟨v,lI,H,oZ.ab u ud az ay z D v M,lN.ab u ud az ay z b8 lI al⟩
end
end
def adH(am:List Go.aL.Node)(t:aR->Option c0)(D:bp):ow am t D=(match ln am t D.args with
 | .error F=> .error F
 | .ok (bS,one)=>if one=false then .error D.at_ else if (kI am t D bS).2=false then .error D.at_ else .ok (kI am t D bS).1):=by
 cases D;rw[ow];rfl
section
variable{X:ca}{h R aQ aP:S ag}{j an aV aX:Nat}{P eV:Nat->Prop}
def oZ.mk'{am:List Go.aL.Node}{t:aR->Option c0}{dP:Nat->Option E}{D:bp}{b ce:Nat}{aO w:E}{bk:List E}{row:List d3}(M:P b)(al:aU X h (.ptr b 8)=some aO)(aB:dV X h P ce aO 1 (bk.map λv=>[v]))(bw:ow am t D= .ok row)(b1:dP b=some w)(c6:w.cells=[w])(el:nP X h eV w row)(gY:lN X h am t dP P eV D.args bk):oZ X h am t dP P eV D (.ptr b 0):=by
 cases D
 rw[oZ]
 exact⟨b,aO,ce,bk,row,w,rfl,M,al,aB,bw,b1,c6,el,gY⟩
def lN.snoc{am:List Go.aL.Node}{t:aR->Option c0}{dP:Nat->Option E}{D:bp}{v:E}(u:oZ X h am t dP P eV D v):∀{b8:List bp}{bk:List E},lN X h am t dP P eV b8 bk->lN X h am t dP P eV (b8++[D]) (bk++[v]):=by
 intro b8
 induction b8 with
 |nil=>intro bk a;rw[lN]at a;subst a;rw[YF,lN];exact⟨v,[],rfl,u,by rw[lN]⟩
 |cons F b8 ah=>
  intro bk a
  rw[lN]at a
  obtain⟨Gn,aEM,rfl,M,al⟩:=a
  rw[YO,lN]
  exact⟨Gn,aEM++[v],rfl,M,ah al⟩
def aAY:∀{D:bp}{v:E},cn X h P D v->∃b aO ce bk,v= .ptr b 0/\P b/\qC X h b/\aU X h (.ptr b 1)=some (.Z D.at_)/\aU X h (.ptr b 8)=some aO/\dV X h P ce aO 1 (bk.map λv=>[v])/\de X h (λe=>P e/\e≠b) D.args bk
 | .mk ..,_,a=>by
   unfold cn at a
   obtain⟨b,H,bs,bi,M,al,aB,bw,b1,c6,el,gY,aO,ce,bk,iL,kP,mZ,oy⟩:=a
   exact⟨b,aO,ce,bk,H,bs,bi,al,iL,kP,de.lift (λe z=>⟨z.1,z.2.1⟩) _ _ oy⟩
structure xb(X:ca)(h:S ag)(fV:Nat)(P:Nat->Prop)(bT ak r:Nat)(cr p:E)(am:List Go.aL.Node)(t:aR->Option c0):Prop where
 a8:(o X).a8<=fV
 lc:bT<fV
 IS:ak<fV
 C6:r<fV
 I3:(o X).a8<=r
 D9:bT≠r
 qr:ak≠r
 bs:∀e,P e->(o X).a8<=e/\e<fV/\e≠r
 KI:∃c,W X h bT=some (.cells c 3 .own)/\c.get 0=some (.ptr ak 0)/\c.get 1=some p/\c.get 2=some cr
 Gk:aU X h (.ptr ak 0)=some (.map r)
 w1:kd X h P cr t
 prog:oX X h P am p
def xb.qF{fV bT ak r:Nat}{cr p:E}{am:List Go.aL.Node}{t:aR->Option c0}(a:xb X h fV P bT ak r cr p am t):GR X h bT (.ptr ak 0) p cr:=by
 obtain⟨c,aK,H,M,al⟩:=a.KI
 exact⟨by rw[bG aK];exact H,by rw[bG aK];exact M,by rw[bG aK];exact al⟩
def xb.ab{fV bT ak r:Nat}{cr p:E}{am:List Go.aL.Node}{t:aR->Option c0}(a:xb X h fV P bT ak r cr p am t)(u:∀e,e<fV->e≠r->W X R e=W X h e):xb X R fV P bT ak r cr p am t:=
 have ahv:∀e,P e->W X R e=W X h e:=λe z=>u e (a.bs e z).2.1 (a.bs e z).2.2
 ⟨a.a8,a.lc,a.IS,a.C6,a.I3,a.D9,a.qr,a.bs,by rw[u bT a.lc a.D9];exact a.KI,zK (u ak a.IS a.qr) a.Gk,a.w1.ab ahv (λ_ a=>a),a.prog.ab ahv (λ_ a=>a)⟩
def xb.fr{fV bT ak r:Nat}{cr p:E}{am:List Go.aL.Node}{t:aR->Option c0}(a:xb X h fV P bT ak r cr p am t)(gE:ch X [r] h j R an)(aF:fV<=j):xb X R fV P bT ak r cr p am t:=
 a.ab λe H M=>gE.ab e Zo (by simp[M])
def akP(n:Nat)(X:ca)(h:S ag)(j:Nat)(bB:Nat->Prop)(r:Nat)(am:List Go.aL.Node)(t:aR->Option c0)(dP:Nat->Option E)(a7:Nat->Prop)(D:bp)(v:E):bK:=λac R an=>∃row jD,ow am t D= .ok row/\ac.cells=[ac]/\nP X R (dU j an) ac row/\nN X R bB r jD/\(∀e,¬a7 e->jD e=dP e)/\oZ X R am t jD a7 (dU j an) D v/\ch X [r] h j R an/\pE X R r (n+D7 D)
def akO(X:ca)(h:S ag)(j r:Nat)(am:List Go.aL.Node)(t:aR->Option c0)(D:bp):bK:=λac R an=>∃F,ow am t D= .error F/\ac=pQ 26 F/\ch X [r] h j R an
set_option maxRecDepth 100000 in
def asa(aw:dk X)(ez:DO X){am:List Go.aL.Node}{t:aR->Option c0}{bT ak r fV:Nat}{p cr:E}(aK:am≠[])(bn:∀g∈am,g.d8.length<=100000/\g.out.length<=100000){bB:Nat->Prop}(xJ:∀e,bB e->P e):
 ∀(N:Nat) (D:bp),SizeOf.sizeOf D<N->eG jJ D->∀(a7:Nat->Prop) (v:E) (h:S ag) (j:Nat) (dP:Nat->Option E) (n:Nat),(∀e,a7 e->bB e)->fV<=j->xb X h fV P bT ak r cr p am t->nN X h bB r dP->cn X h a7 D v->pE X h r n->(∀e,a7 e->dP e=none)->
  a2 X 56 [.ptr bT 0,v] h j (akP n X h j bB r am t dP a7 D v) (akO X h j r am t D):=by
 intro N
 induction N with
 |zero=>intro D a;omega
 |succ N ah=>
  intro D jw x5 a7 v h j dP n HW aF bY sB bA T6 qR
  have eP:∀e,a7 e->P e:=λe z=>xJ e (HW e z)
  have agP:=x5
  rw[eG.eq]at agP
  obtain⟨bb,wC⟩:=agP
  refine zG aw (ano X) ?_
  rw[anp]
  unfold aa3
  obtain⟨b,aO,ce,bk,rfl,aj,EY,bf,jf,cG,has⟩:=aAY bA
  have g0:=bY.a8
  have bs:=bY.bs
  have mY:=bs b (eP b aj)
  have d2:=cG.len
  have qW:=has.len
  rw[Zi,qW]at d2
  have nl:D.args.length<=300000:=by have:=cG.many;rw[Zi,qW]at this;exact this
  refine cS @jf @d2 ⟨?_⟩
  refine fE (λm I R aS=>∃(V:Nat) (s:E) (cv:List Nat) (yW:List d3) (Jr:Bool) (jD:Nat->Option E) (qD:Nat->Prop),I.g 0=some (.ptr bT 0)/\I.g 1=some (.ptr b 0)/\I.g 5=some s/\I.g 6=some (.bool Jr)/\I.g 15=some aO/\I.g 16=some (.Z (D.args.length:Int))/\I.g 17=some (.Z (V:Int))/\V+m=D.args.length
   /\ga X R s 3 (qs yW).flatten cv/\(∀e∈cv,j<=e/\e<aS)/\(Jr=true->yW.length=V)/\yW.length<=V
   /\ln am t D.args=(match ln am t (D.args.drop V)with| .error F=> .error F| .ok (bS,one)=> .ok (yW++bS,Jr&&one))
   /\nN X R bB r jD/\(∀e,¬a7 e->jD e=dP e)/\jD b=dP b/\ch X [r] h j R aS
   /\(∀e,qD e->a7 e/\e≠b)/\de X R qD (D.args.drop V) (bk.drop V)/\lN X R am t jD (λe=>(a7 e/\e≠b)/\¬qD e) (λe=>dU j aS e/\e∉cv) (D.args.take V) (bk.take V)/\pE X R r (n+uN (D.args.take V))/\∀e,qD e->jD e=none)
   D.args.length ⟨0, .aY,[],[],true,dP,λe=>a7 e/\e≠b,bo,bo,bo,bo,bo,bo,fY,Zo, .inl (.inl ⟨rfl,rfl,rfl⟩),Zs,λ_=>rfl,Zj _,by
    rw[Yg];cases ln am t D.args with
    |error F=>rfl
    |ok x=>obtain⟨bS,one⟩:=x;simp,sB,λ_ _=>rfl,rfl,ch.refl _ _ _,λ_ a=>a,by simpa using has,by rw[Yc,Yc,lN],by rw[Yc,aqH];exact T6,λe z=>qR e z.1⟩ ?_
  rintro m I aP aX ⟨V,s,cv,yW,Jr,Wf,qD,t0,t1,t5,eY,wW,Br,wX,bF,aC,eR,va,aFQ,nW,aeT,Ie,US,dz,Av,sG,CL,aeU,Ll⟩
  have fN:=dz.le
  have bI:=bY.fr dz aF
  have nv:∀e,P e->W X aP e=W X h e:=λe z=>by have:=bs e z;exact dz.ab e Zo (by simp[this.2.2])
  have age:=EY.ab (nv b (eP b aj))
  cases m with
  |zero=>
   have d:=zA V D.args.length
   have avz:V=D.args.length:=Zo
   rw[ZC Zo,ln]at nW
   simp only[Yh,YY]at nW
   have pf:=adH am t D
   rw[nW]at pf
   simp only[]at pf
   have ao1:aU X aP (.ptr b 1)=some (.Z D.at_):=zK (nv b (eP b aj)) bf
   cases Jr with
   |false=>
    rw[Zp rfl]at pf
    refine ic @wX @Br @d @eY @t1 @ao1 ⟨?_⟩
    refine(KB aw Zo D.at_).mono (λ_ _ _ a=>a) ?_
    rintro ac a6 bz ⟨rfl,cp⟩
    exact⟨_,pf,rfl,dz.trans (ch.of cp)⟩
   |true=>
    rw[Zg Zd]at pf
    have ON:∀e,(P e\/(j<=e/\e<aX))->e<aX:=λe z=>by
     rcases z with a|a
     ·have:=bs e a;omega
     ·exact a.2
    refine eh @wX @Br @d @eY @t0 @t1 @t5 ⟨?_⟩
    refine(aCz (P:=λe=>P e\/(j<=e/\e<aX)) aw ez Zo (zz bY.lc) bI.qF (bI.w1.ab (λ_ _=>rfl) (λe a=> .inl a)) (bI.prog.ab (λ_ _=>rfl) (λe a=> .inl a)) aK ON bn (cn.lift (λe z=> .inl (eP e z)) _ _ (cn.ab (λe z=>nv e (eP e z)) _ _ bA)) bb (va rfl▸avz) aC Zo (λe z=> .inr (eR e z))).Zm ?_
    rintro ac a6 bz ⟨w,rfl,nt,LS,cp⟩
    have jm:=cp.le
    have ei:=dz.trans (ch.of (X:=[r]) cp)
    have aeE:=bY.fr ei aF
    have jC:∀e,P e->W X a6 e=W X h e:=λe z=>by have:=bs e z;exact ei.ab e Zo (by simp[this.2.2])
    cases hx:(kI am t D yW).2 with
    |false=>
     rw[Zp hx]at pf
     have Nx:aU X a6 (.ptr b 1)=some (.Z D.at_):=zK (jC b (eP b aj)) bf
     refine cS @t1 @Nx ⟨?_⟩
     refine(KB aw Zo D.at_).mono (λ_ _ _ a=>a) ?_
     rintro ac bH cC ⟨rfl,cW⟩
     exact⟨_,pf,rfl,ei.trans (ch.of cW)⟩
    |true=>
     rw[Zg (by rw[hx];decide)]at pf
     have dx:=aeE.qF.dx
     have Gk:=aeE.Gk
     refine gk @t0 @t1 @dx @Gk ⟨?_⟩
     have Cp:nN X a6 bB r Wf:=aeT.ab (cp.ab r (zz bY.C6)) (λe z=>cp.ab e (zz (bs e (xJ e z))))
     obtain⟨bH,bm,T4,d4⟩:=azN (j:=bz) bY.I3 Cp (age.ab (cp.ab b Zo)) (HW b aj) mY.1 w
     have OL:=azO bY.I3 Cp (aeU.ab (cp.ab r (zz bY.C6))) (age.ab (cp.ab b Zo)) mY.1 (by rw[US];exact qR b aj) bm
     rw[ZA Zo]at OL
     refine kH bm ?_
     refine cL ⟨?_⟩
     have eH:ch X [r] h j bH bz:=⟨ei.le,λe H M=>by rw[d4 e (by simpa using M)];exact ei.ab e H M⟩
     have mI:∀e,P e->W X bH e=W X h e:=λe z=>by have:=bs e z;exact eH.ab e Zo (by simp[this.2.2])
     have ahe:∀e,j<=e->e<bz->W X bH e=W X a6 e:=λe H M=>d4 e (zz bY.C6)
     rw[ZA Zo,ZA Zo]at CL
     have agM:nP X bH (dU j bz) w (kI am t D yW).1:=LS.ab (λe z=>ahe e (zz z.1) z.2) (λe z=>⟨zz z.1,z.2⟩)
     refine⟨_,_,pf,nt,agM,T4,λe z=> ?_,oZ.mk' aj (zK (mI b (eP b aj)) jf) (cG.ab λe z=>mI e (eP e z)) pf Zs nt agM (lN.ab (λe z=> ?_) (λe z=> ?_) (λe z=> ?_) (λe z=>z.1.1) (λe z=>⟨z.1.1,zz z.1.2⟩) _ _ CL),eH,by rw[aqG];exact OL⟩
     ·have:e≠b:=λD=>z (D▸aj)
      simp only[this,ZB];exact Ie e z
     ·rw[mI e (eP e z.1.1),nv e (eP e z.1.1)]
     ·rw[ahe e z.1.1 (zz z.1.2),cp.ab e z.1.2]
     ·simp only[z.1.2,ZB]
  |succ m=>
   have d:=zB V D.args.length
   have bC:=zE V
   obtain⟨F,aE⟩:=zC D.args V
   have aJ:D.args.drop V=F::D.args.drop (V+1):=by
    obtain⟨af,z⟩:=Zb.1 aE
    rw[Zr af,z]
   rw[aJ]at sG nW
   unfold de at sG
   obtain⟨w,lI,B,LV,Cs,pc,Ux⟩:=sG
   have VA:bk[V]? =some w:=by
    have:(bk.drop V)[0]? =some w:=by rw[LV];rfl
    simpa using this
   have axm:lI=bk.drop (V+1):=by
    obtain⟨af,z⟩:=Zb.1 VA
    rw[Zr af]at LV
    simp only[YE]at LV
    exact LV.2.symm
   subst axm
   obtain⟨bP,b2,cI⟩:=(cG.ab λe z=>nv e (eP e z)).one VA
   have lw:D.args.take (V+1)=D.args.take V++[F]:=by rw[ZY,aE];rfl
   have E9:bk.take (V+1)=bk.take V++[w]:=by rw[ZY,VA];rfl
   have eA:=QV (Zl aE)
   have ry:∀e,B e->a7 e/\e≠b:=λe z=>Av e (Cs e z)
   rw[ln]at nW
   refine eh @wX @Br @wW @t0 @d @bP @b2 ⟨?_⟩
   refine(ah F Zo (XQ wC (Zl aE)) B w aP aX Wf (n+uN (D.args.take V)) (λe z=>HW e (ry e z).1) Zo bI aeT pc aeU (λe z=>Ll e (Cs e z))).mono ?_ (λac R aS a=>by
    obtain⟨fB,H,M,al⟩:=a
    rw[H]at nW
    simp only[]at nW
    exact⟨fB,by rw[adH,nW],M,dz.trans al⟩)
   rintro ac a6 bz ⟨row,Wg,fD,Iz,LR,Cp,ER,agL,ei,OK⟩
   have jm:=ei.le
   have aeN:=dz.trans ei
   rw[fD]at nW
   simp only[]at nW
   have avQ:=bY.C6
   have P0:∀e,j<=e->e<aX->W X a6 e=W X aP e:=λe H M=>ei.ab e M Zx
   have jC:∀e,P e->W X a6 e=W X aP e:=λe z=>by have:=bs e z;exact ei.ab e Zo (by simp[this.2.2])
   have OQ:Wg b=Wf b:=ER b (λa=>(ry b a).2 rfl)
   have x3:de X a6 (λe=>qD e/\¬B e) (D.args.drop (V+1)) (bk.drop (V+1)):=de.ab (λe z=>jC e (eP e (Av e z.1).1)) _ _ Ux
   by_cases eM:row.length=1
   ·obtain⟨x,rfl⟩:∃x,row=[x]:=by
     match row,eM with
     |[x],_=>exact⟨x,rfl⟩
    obtain⟨cU,sZ,hg,gq,i3,i4⟩:=LR.rd.fx 0 x rfl
    have hg:gd 3 ac (.Z 0)=some (.ptr cU sZ):=hg
    have UV:gr ac=some (.Z 1):=LR.rd.len
    have aD:decide ((1:Int)≠1)=false:=by decide
    simp only[]at nW
    refine ic @UV @aD @t5 @hg @i3 eE.eq_1 ⟨?_⟩
    generalize e5:Go.bg.bm X a6 bz _=bH
    have dL:W X bH bz=zD (eE x) 3:=by rw[<-e5,bh Zo];rfl
    have d4:∀e,e<bz->W X bH e=W X a6 e:=λe z=>by rw[<-e5,aI Zo Zo]
    clear e5
    obtain⟨e1,bN,gK,iN,E3,Ay,nq⟩:=XH (j:=bz+1) (aC.ab (R:=bH) (λe z=>by have:=eR e z;rw[d4 e Zo,P0 e this.1 this.2])) dL Zo Zo (λe z=>zz (eR e z)) 1
    refine kH iN ?_
    refine cS @wX @bC ⟨?_⟩
    have dN:∀e,e<bz->e∉cv->W X bN e=W X a6 e:=λe H M=>by rw[nq e Zo M,d4 e H]
    have Fr:∀e,e<j->e∉cv:=λe H M=>zz (eR e M)
    refine⟨m,Zo,V+1,e1,gK,yW++[x],Jr,Wg,λe=>qD e/\¬B e,aW t0,aW t1,bo,aW eY,aW wW,aW Br,bo,Zo,E3,λe z=> ?_,λa=>by have:=va a;simp;omega,Zx, ?_, ?_,λe z=> ?_,by rw[OQ];exact US, ?_,λe z=>Av e z.1, ?_, ?_,by rw[lw,acT, <-ZR];exact OK.ab (dN r Zo (Fr r Zo)),λe z=>(ER e z.2).trans (Ll e z.1)⟩
    ·rcases Ay e z with rfl|a
     ·omega
     ·have:=eR e a;omega
    ·rw[nW]
     cases ln am t (D.args.drop (V+1))with
     |error F=>rfl
     |ok p=>obtain⟨bS,one⟩:=p;simp
    ·exact Cp.ab (dN r Zo (Fr r Zo)) (λe z=>by have:=bs e (xJ e z);exact dN e Zo (Fr e Zo))
    ·exact(ER e (λa=>z (ry e a).1)).trans (Ie e z)
    ·exact⟨Zo,λe H M=>by rw[dN e Zo (Fr e H)];exact aeN.ab e H M⟩
    ·exact de.ab (λe z=>by have:=bs e (eP e (Av e z.1).1);exact dN e Zo (Fr e Zo)) _ _ x3
    ·have aui:∀e,aX<=e->e<bz->e∉gK:=λe H M a=>by
      rcases Ay e a with rfl|a
      ·omega
      ·have:=eR e a;omega
     have auj:∀e,e<aX->e∉cv->e∉gK:=λe H M a=>by
      rcases Ay e a with rfl|a
      ·omega
      ·exact M a
     have ayi:∀e,(a7 e/\e≠b)/\¬qD e->W X bN e=W X aP e:=λe z=>by
      have:=bs e (eP e z.1.1)
      rw[dN e Zo (Fr e Zo),jC e (eP e z.1.1)]
     have ayj:∀e,dU j aX e/\e∉cv->W X bN e=W X aP e:=λe z=>by
      have H:=z.1.1;have M:=z.1.2
      rw[dN e Zo z.2,P0 e H M]
     have ayk:∀e,B e->W X bN e=W X a6 e:=λe z=>by
      have:=bs e (eP e (ry e z).1);exact dN e Zo (Fr e Zo)
     have ayl:∀e,dU aX bz e->W X bN e=W X a6 e:=λe z=>dN e z.2 (λa=>by have:=eR e a;have:=z.1;omega)
     rw[lw,E9]
     exact lN.snoc (oZ.ab ayk ayl (λ_ _=>rfl) (λe z=>⟨ry e z,λa=>a.2 z⟩) (λe z=>⟨⟨zz z.1,zz z.2⟩,aui e z.1 z.2⟩) F w agL) (lN.ab ayi ayj (λe z=>ER e (λa=>z.2 (Cs e a))) (λe z=>⟨z.1,λa=>z.2 a.1⟩) (λe z=>⟨⟨z.1.1,zz z.1.2⟩,auj e z.1.2 z.2⟩) _ _ CL)
   ·have UV:=LR.rd.len
    have aD:decide ((row.length:Int)≠1)=true:=zP
    refine gk @UV @aD @wX @bC ⟨?_⟩
    refine⟨m,Zo,V+1,s,cv,yW,false,Wg,λe=>qD e/\¬B e,aW t0,aW t1,aW t5,bo,aW wW,aW Br,bo,Zo,aC.ab (λe z=>by have:=eR e z;exact P0 e this.1 this.2),λe z=>zz (eR e z),(λa=>by cases a),Zo, ?_,Cp,λe z=>(ER e (λa=>z (ry e a).1)).trans (Ie e z),by rw[OQ];exact US,aeN,λe z=>Av e z.1,x3, ?_,by rw[lw,acT, <-ZR];exact OK,λe z=>(ER e z.2).trans (Ll e z.1)⟩
    ·rw[nW]
     cases ln am t (D.args.drop (V+1))with
     |error F=>rfl
     |ok p=>
      obtain⟨bS,one⟩:=p
      match row,eM with
      |[],_=>simp
      |[_],a=>exact absurd rfl a
      |_::_::_,_=>simp
    ·rw[lw,E9]
     exact lN.snoc (oZ.ab (λ_ _=>rfl) (λ_ _=>rfl) (λ_ _=>rfl) (λe z=>⟨ry e z,λa=>a.2 z⟩) (λe z=>⟨⟨zz z.1,z.2⟩,λa=>by have:=eR e a;have:=z.1;omega⟩) F w agL) (lN.ab (λe z=>jC e (eP e z.1.1)) (λe z=>P0 e z.1.1 z.1.2) (λe z=>ER e (λa=>z.2 (Cs e a))) (λe z=>⟨z.1,λa=>z.2 a.1⟩) (λe z=>⟨⟨z.1.1,zz z.1.2⟩,z.2⟩) _ _ CL)
end
def rl:List eZ->Nat
 |[]=>0
 |ak::k=>D7 ak.right+rl k
def aqJ:∀k bS:List eZ,rl (k++bS)=rl k+rl bS:=by
 intro k
 induction k with
 |nil=>intro bS;simp[rl]
 |cons F k ah=>intro bS;rw[YO,rl,rl,ah];omega
def aqK(ak:eZ)(k:List eZ):rl (k++[ak])=rl k+D7 ak.right:=by rw[aqJ];simp[rl]
def KG{α:Type}{f:α->Option Int}{k:List α}{i:Nat}{x:α}(a:k[i]? =some x)(aK:(k.take i).findSome? f=none):(k.take (i+1)).findSome? f=f x:=by
 rw[ZY,a,List.findSome?_append,aK]
 simp
def Of{α:Type}{f:α->Option Int}{k:List α}{i:Nat}{x:α}{F:Int}(a:k[i]? =some x)(aK:(k.take i).findSome? f=none)(af:f x=some F):k.findSome? f=some F:=by
 have D:k=k.take (i+1)++k.drop (i+1):=(List.take_append_drop _ _).symm
 rw[D,List.findSome?_append,KG a aK,af]
 rfl
section
variable{X:ca}{h R aQ aP:S ag}{j an aV aX:Nat}{P eV bB:Nat->Prop}
def xl(X:ca)(h:S ag)(am:List Go.aL.Node)(t:aR->Option c0)(dP:Nat->Option E)(P eV:Nat->Prop):List eZ->List (List E)->Prop
 |[],be=>be=[]
 |ak::cq,be=>∃row fP v,be=row::fP/\row[3]? =some v/\vX am t ak=none/\oZ X h am t dP P eV ak.right v/\xl X h am t dP P eV cq fP
def xl.ab{am:List Go.aL.Node}{t:aR->Option c0}{dP jD:Nat->Option E}{sg sl:Nat->Prop}(u:∀e,P e->W X R e=W X h e)(ud:∀e,eV e->W X R e=W X h e)(az:∀e,P e->jD e=dP e)(ay:∀e,P e->sg e)(z:∀e,eV e->sl e):∀{cq:List eZ}{be:List (List E)},xl X h am t dP P eV cq be->xl X R am t jD sg sl cq be:=by
 intro cq
 induction cq with
 |nil=>intro be a;exact a
 |cons ak cq ah=>
  rintro be ⟨row,fP,v,H,M,al,aB,bw⟩
  exact⟨row,fP,v,H,M,al,oZ.ab u ud az ay z _ _ aB,ah bw⟩
def xl.snoc{am:List Go.aL.Node}{t:aR->Option c0}{dP:Nat->Option E}{ak:eZ}{row:List E}{v:E}(M:row[3]? =some v)(al:vX am t ak=none)(aB:oZ X h am t dP P eV ak.right v):∀{cq:List eZ}{be:List (List E)},xl X h am t dP P eV cq be->xl X h am t dP P eV (cq++[ak]) (be++[row]):=by
 intro cq
 induction cq with
 |nil=>rintro be rfl;exact⟨row,[],v,rfl,M,al,aB,rfl⟩
 |cons F cq ah=>
  rintro be ⟨r2,fP,w,rfl,cm,cX,d4,dN⟩
  exact⟨r2,fP++[row],w,rfl,cm,cX,d4,ah dN⟩
structure GS(X:ca)(h:S ag)(fV:Nat)(P:Nat->Prop)(bT ak r:Nat)(p:E)(am:List Go.aL.Node):Prop where
 a8:(o X).a8<=fV
 lc:bT<fV
 IS:ak<fV
 C6:r<fV
 I3:(o X).a8<=r
 ah6:(o X).a8<=bT
 D9:bT≠r
 qr:ak≠r
 SH:ak≠bT
 bs:∀e,P e->(o X).a8<=e/\e<fV/\e≠r/\e≠bT
 KI:∃c,W X h bT=some (.cells c 3 .own)/\c.get 0=some (.ptr ak 0)/\c.get 1=some p
 Gk:aU X h (.ptr ak 0)=some (.map r)
 prog:oX X h P am p
def GV(X:ca)(h:S ag)(am:List Go.aL.Node)(dP:Nat->Option E)(P eV:Nat->Prop)(g:Go.aL.Node)(row:List E):Prop:=yj am g=none/\∃cQ c4 aO eo bQ cl cU fe be,row=[.str g.name, .Z g.at_,cQ,c4,aO,eo]/\dV X h P bQ cQ 8 (g.d8.map dK)/\dV X h P cl c4 8 (g.out.map dK)/\dV X h P cU aO 8 (g.loc.map dK)/\dV X h P fe eo 4 be/\tg X h P g.eqs be/\xl X h am (dy g) dP P eV g.eqs be
structure akN(n:Nat)(X:ca)(fi:S ag)(j bz:Nat)(bB a7:Nat->Prop)(r:Nat)(am:List Go.aL.Node)(t:aR->Option c0)(dP:Nat->Option E)(eqs:List eZ)(be:List (List E))(V:Nat)(R:S ag)(aS:Nat):Prop where
 none_:(eqs.take V).findSome? (vX am t)=none
 fr:ch X [r] fi bz R aS
 at_:∃jD qD,nN X R bB r jD/\(∀e,¬a7 e->jD e=dP e)/\(∀e,qD e->a7 e)/\tg X R qD (eqs.drop V) (be.drop V)/\xl X R am t jD (λe=>a7 e/\¬qD e) (dU j aS) (eqs.take V) (be.take V)/\pE X R r (n+rl (eqs.take V))/\∀e,qD e->jD e=none
set_option maxRecDepth 100000 in
def aAl(aw:dk X)(ez:DO X){am:List Go.aL.Node}{bT up r fV:Nat}{p:E}(aK:am≠[])(bn:∀g∈am,g.d8.length<=100000/\g.out.length<=100000)(xJ:∀e,bB e->P e){a7:Nat->Prop}(HW:∀e,a7 e->bB e)(aF:fV<=j)(bY:GS X h fV P bT up r p am){dP:Nat->Option E}(sB:nN X h bB r dP){n:Nat}(T6:pE X h r n)(qR:∀e,a7 e->dP e=none)
 {g:Go.aL.Node}{row:List E}(bV:pG X h a7 g row)(rz:∀ak∈g.eqs,eG jJ ak.right)(p0:(fS g).length<=300000):
 a2 X 31 [.ptr bT 0, .agg row] h j (λac R an=>ac= .tuple []/\(∃c,W X R bT=some (.cells c 3 .own)/\c.get 0=some (.ptr up 0)/\c.get 1=some p)/\∃jD,nN X R bB r jD/\(∀e,¬a7 e->jD e=dP e)/\GV X R am jD a7 (dU j an) g row/\ch X [r,bT] h j R an/\pE X R r (n+rl g.eqs))
  (λac R an=>∃F,yj am g=some F/\ac=pQ 26 F/\ch X [r,bT] h j R an):=by
 refine zG aw (amB X) ?_
 rw[amC]
 unfold aaD
 have g0:=bY.a8
 have bs:=bY.bs
 have avQ:=bY.C6;have UQ:=bY.lc;have aGj:=bY.IS
 have qM:∀e,a7 e->P e:=λe z=>xJ e (HW e z)
 have AH:=bV
 obtain⟨cQ,c4,aO,eo,bQ,cl,cU,fe,be,rfl,l9,kS,np,kk,fq⟩:=bV
 have awY:=(jS l9.len).1
 have aw2:=(jS kS.len).1
 have hP:=(jS np.len).1
 have agy:=(jS kk.len).1
 refine tr ?_
 generalize dl:Go.bg.bm X h j _=aQ
 have bP:W X aQ j=zD [.str g.name, .Z g.at_,cQ,c4,aO,eo] 6:=by rw[<-dl,bh Zo];rfl
 have bL:br X h j aQ (j+1):=by rw[<-dl];exact dH
 clear dl
 refine cj (bG bP) ⟨?_⟩
 have bR:∀e,P e->W X aQ e=W X h e:=λe z=>bL.ab e (zz (bs e z))
 refine(Qq (j:=j+1) (h:=aQ) aw Zo (λe z=>zz (bs e (qM e z))) (AH.ab (a7:=a7) (λe z=>bR e (qM e z)) (λ_ a=>a)) p0).Zm ?_
 rintro ac aP aX ⟨cr,lB,Bq,Hg,rfl,E8,CK,tN,sK,_,_,bI⟩
 have fN:=bI.le
 have hb:=bL.trans bI
 obtain⟨c,ad7,ad8,ad9⟩:=bY.KI
 have nU:W X aP bT=some (.cells c 3 .own):=by rw[hb.ab bT Zo];exact ad7
 have Pn:=bY.ah6
 refine uU ⟨?_⟩
 generalize eQ:Go.bg.bm X aP bT _=a6
 have as9:∃fX,W X a6 bT=some (.cells fX 3 .own)/\fX.get 0=some (.ptr up 0)/\fX.get 1=some p/\fX.get 2=some (.ptr cr 0):=⟨d7 c 2 [.ptr cr 0],by rw[<-eQ,bh Pn];rfl,by rw[pz,S.jP];exact ad8,by rw[pz,S.jP];exact ad9,yG c 2 _⟩
 have cX:∀e,e≠bT->W X a6 e=W X aP e:=λe z=>by rw[<-eQ,aI Pn z]
 clear eQ nU
 have CT:∀e,e<j->e≠bT->W X a6 e=W X h e:=λe H M=>by rw[cX e M,hb.ab e H]
 have jC:∀e,P e->W X a6 e=W X h e:=λe z=>by have:=bs e z;exact CT e Zo Zo
 have ei:ch X [r,bT] h j a6 aX:=⟨Zo,λe H M=>CT e H (by simp at M;exact M.2)⟩
 have agK:kd X a6 (λe=>P e\/dU (j+1) aX e) (.ptr cr 0) (dy g):=⟨cr,lB,rfl, .inr E8, .inr CK,zK (cX cr (zz E8.1)) tN,sK.ab (cX lB (zz CK.1))⟩
 have KV:xb X a6 aX (λe=>P e\/dU (j+1) aX e) bT up r (.ptr cr 0) p am (dy g):=⟨Zo,Zo,Zo,Zo,bY.I3,bY.D9,bY.qr,λe z=>by
  rcases z with a|a
  ·have:=bs e a;exact⟨this.1,Zo,this.2.2.1⟩
  ·have H:=a.1;have M:=a.2;exact⟨Zo,M,Zo⟩,as9,zK (CT up Zo bY.SH) bY.Gk,agK,bY.prog.ab jC (λ_ a=> .inl a)⟩
 have xB:W X a6 j=zD [.str g.name, .Z g.at_,cQ,c4,aO,eo] 6:=by rw[cX j Zo,bI.ab j Zo];exact bP
 have Cp:nN X a6 bB r dP:=sB.ab (CT r Zo (λD=>bY.D9 D.symm)) (λe z=>jC e (xJ e z))
 have OK:pE X a6 r n:=T6.ab (CT r Zo (λD=>bY.D9 D.symm))
 generalize PQ:dy g=t at*
 have Ij:yj am g=(match Ee t g with|some F=>some F|none=>g.eqs.findSome? (vX am t)):=by unfold yj;rw[PQ];rfl
 clear bL bI hb bR sK tN agK bP ad7 ad8 ad9
 have auG:fv [.aY, .aY, .aY] [(0,1,cQ),(1,1,c4),(2,1,aO)]=some (.agg [cQ,c4,aO]):=by
  simp[fv,tB,tC,nE,awY,aw2,hP]
 refine rt (bG xB) ⟨?_⟩
 refine gm auG ?_
 refine ko (λI R aS=>I.g 0=some (.ptr bT 0)/\I.g 3=some (.ptr j 0)/\Ee t g=none/\br X a6 aX R aS) (λV bF=> ?_) ?_
 ·have Iu:∀u,u<3->∃s b,([cQ,c4,aO]:List E)[u]? =some s/\dV X h a7 b s 8 ((hA g u).map dK):=λu aH=>by
   match u,aH with
   |0,_=>exact⟨cQ,bQ,rfl,l9⟩
   |1,_=>exact⟨c4,cl,rfl,kS⟩
   |2,_=>exact⟨aO,cU,rfl,np⟩
  refine fE (λm I R aS=>∃(u:Nat),I.g 0=some (.ptr bT 0)/\I.g 3=some (.ptr j 0)/\I.g 25=some (.agg [cQ,c4,aO])/\I.g 26=some (.Z (u:Int))/\u+m=3/\((fS g).take (qk g u)).findSome? (λx=>if x.2.on≠[]/\(mN t x.2.on).b=false then some x.2.eX else none)=none/\br X a6 aX R aS)
   3 ⟨0,bo,bo,bo,fY,Zo,by simp[qk],br.refl _ _⟩ ?_
  rintro m I bH cC ⟨u,t0,t3,na,l1,aH,ma,cW⟩
  have iu:=cW.le
  cases m with
  |zero=>
   have d:decide ((u:Int)<3)=false:=zO
   have la:u=3:=Zo
   subst la
   rw[<-Kw,Y1]at ma
   refine cS @l1 @d ⟨?_⟩
   exact bF _ _ _ ⟨aW t0,aW t3,ma,cW⟩
  |succ m=>
   have d:decide ((u:Int)<3)=true:=zP
   obtain⟨e1,dD,t6,x2⟩:=Iu u Zo
   have O8:rQ false 3 1 (.agg [cQ,c4,aO]) (.Z (u:Int))=some e1:=by
    have al:Nat.blt u 3=true:=by simp[Nat.blt];omega
    simp only[rQ,rT,al,fo,lo,qi,Z4]
    exact t6
   have afV:=x2.len
   have avZ:=x2.many
   rw[Zi]at afV avZ
   refine f3 @l1 @na @d @O8 @afV ⟨?_⟩
   refine fE (λm I R aS=>∃(i:Nat),I.g 0=some (.ptr bT 0)/\I.g 3=some (.ptr j 0)/\I.g 25=some (.agg [cQ,c4,aO])/\I.g 26=some (.Z (u:Int))/\I.g 29=some e1/\I.g 30=some (.Z ((hA g u).length:Int))/\I.g 31=some (.Z (i:Int))/\i+m=(hA g u).length/\((fS g).take (qk g u+i)).findSome? (λx=>if x.2.on≠[]/\(mN t x.2.on).b=false then some x.2.eX else none)=none/\br X a6 aX R aS)
    (hA g u).length ⟨0,aW t0,aW t3,aW na,aW l1,bo,bo,fY,Zo,ma,cW⟩ ?_
   clear t0 t3 na l1 ma
   rintro fk I bN ci ⟨i,t0,t3,na,l1,Gi,Dv,Q2,aG,ma,dW⟩
   have iP:=dW.le
   cases fk with
   |zero=>
    have d:=zA i (hA g u).length
    have bC:=zE u
    refine f3 @Q2 @Dv @l1 @d @bC ⟨?_⟩
    refine⟨m,Zo,u+1,aW t0,aW t3,aW na,bo,Zo, ?_,dW⟩
    rw[aio g Zo]
    have:i=(hA g u).length:=Zo
    rw[<-this]
    exact ma
   |succ fk=>
    have d:=zB i (hA g u).length
    have bC:=zE i
    obtain⟨aD,aJ⟩:=zC (hA g u) i
    have tV:=x2.fx i (by rw[Zi];omega)
    have aym:∀e,a7 e->W X bN e=W X h e:=λe z=>by have:=bs e (qM e z);rw[dW.ab e Zo,jC e (qM e z)]
    have agw:=(x2.ab aym).row (i:=i) (r:=dK aD) Zd (by rw[Zy,aJ];rfl)
    have jl:dK aD=[.str aD.name, .Z aD.at_, .bool aD.ty.b, .bool aD.ty.s, .Z aD.ty.w, .str aD.on, .Z aD.eX, .bool aD.no]:=rfl
    rw[jl]at agw
    have UD:=adp g (u:=u) Zo aJ
    have aFP:=KV.fr (ch.of (X:=[r]) dW) (Zj _)
    refine ic @Q2 @Dv @Gi @d @tV @agw ⟨?_⟩
    generalize gS:Go.bg.bm X _ ci _=b6
    have d1:W X b6 ci=zD [.str aD.name, .Z aD.at_, .bool aD.ty.b, .bool aD.ty.s, .Z aD.ty.w, .str aD.on, .Z aD.eX, .bool aD.no] 8:=by rw[<-gS,bh Zo];rfl
    have dc:∀e,e<ci->W X b6 e=W X bN e:=λe z=>by rw[<-gS];exact zF
    clear gS
    have ec:br X a6 aX b6 (ci+1):=⟨Zo,λe z=>by rw[dc e Zo];exact dW.ab e z⟩
    have aeG:=KV.fr (ch.of (X:=[r]) ec) (Zj _)
    by_cases ls:aD.on=[]
    ·have cM:∀i:Decidable (aD.on≠[]), @decide (aD.on≠[]) i=false:=λi=>by simp[ls]
     refine cj (bG d1) ⟨?_⟩
     simp only[cM]
     refine cS @Q2 @bC ⟨?_⟩
     refine⟨fk,Zo,i+1,aW t0,aW t3,aW na,aW l1,aW Gi,aW Dv,bo,Zo, ?_,ec.more Zo⟩
     rw[<-ZR,KG UD ma]
     simp[ls]
    ·have cM:∀i:Decidable (aD.on≠[]), @decide (aD.on≠[]) i=true:=λi=>by simp[ls]
     refine cj (bG d1) ⟨?_⟩
     simp only[cM]
     refine cS @t0 (bG d1) ⟨?_⟩
     refine(Mz (j:=ci+1) (P:=λe=>P e\/dU (j+1) aX e) aw Zo Zo aeG.qF.dC aeG.w1 (λe z=>zz (KV.bs e z).2.1) aD.on).Zm ?_
     rintro ac cy dX ⟨rfl,eC⟩
     have nr:=eC.le
     have OE:=ec.trans (eC.kZ Zo)
     have ew:W X cy ci=zD [.str aD.name, .Z aD.at_, .bool aD.ty.b, .bool aD.ty.s, .Z aD.ty.w, .str aD.on, .Z aD.eX, .bool aD.no] 8:=by rw[eC.ab ci Zo];exact d1
     cases aj:(mN t aD.on).b with
     |true=>
      refine gk @Oi @aj @Q2 @bC ⟨?_⟩
      refine⟨fk,Zo,i+1,aW t0,aW t3,aW na,aW l1,aW Gi,aW Dv,bo,Zo, ?_,OE⟩
      rw[<-ZR,KG UD ma]
      simp[aj]
     |false=>
      refine er @Oi @aj (bG ew) ⟨?_⟩
      refine(KB aw Zo aD.eX).mono (λ_ _ _ a=>a) ?_
      rintro ac dt iv ⟨rfl,is⟩
      have auT:Ee t g=some aD.eX:=Of UD ma (by simp[ls,aj])
      exact⟨aD.eX,by rw[Ij,auT],rfl,ei.trans (ch.of (OE.trans is))⟩
 ·rintro I bH cC ⟨t0,t3,pX,cW⟩
  have iu:=cW.le
  have eH:ch X [r,bT] h j bH cC:=ei.trans (ch.of cW)
  have TU:=KV.fr (ch.of (X:=[r]) cW) (Zj _)
  have asO:W X bH j=zD [.str g.name, .Z g.at_,cQ,c4,aO,eo] 6:=by rw[cW.ab j Zo];exact xB
  have mI:∀e,P e->W X bH e=W X h e:=λe z=>by have:=bs e z;rw[cW.ab e Zo,jC e z]
  have T4:nN X bH bB r dP:=Cp.ab (cW.ab r Zo) (λe z=>by have:=bs e (xJ e z);exact cW.ab e Zo)
  have OL:pE X bH r n:=OK.ab (cW.ab r Zo)
  have au9:tg X bH a7 g.eqs be:=fq.ab (λe z=>mI e (qM e z)) (λ_ a=>a)
  have km:=fq.wide
  have d2:=kk.len
  have h1:=kk.many
  rw[km.1]at d2 h1
  rw[pX]at Ij
  simp only[]at Ij
  clear Cp xB jC bY sB AH
  show cH _ _
  refine er @t3 (bG asO) @d2 ⟨?_⟩
  refine fE (λm I R aS=>∃(V:Nat),I.g 0=some (.ptr bT 0)/\I.g 52=some eo/\I.g 53=some (.Z (g.eqs.length:Int))/\I.g 54=some (.Z (V:Int))/\V+m=g.eqs.length/\akN n X bH j cC bB a7 r am t dP g.eqs be V R aS)
   g.eqs.length ⟨0,aW t0,bo,bo,fY,Zo,⟨rfl,ch.refl _ _ _,dP,a7,T4,λ_ _=>rfl,λ_ a=>a,by simpa using au9,by rw[Yc,Yc];rfl,by rw[Yc];exact OL,qR⟩⟩ ?_
  clear t0 t3
  rintro m I bN ci ⟨V,t0,yy,q7,k2,bF,gf⟩
  have dM:=gf.fr
  have iP:=dM.le
  have at3:=TU.fr dM Zo
  obtain⟨Wh,qD,K1,afU,Av,sG,CL,EC,Ln⟩:=gf.at_
  have ma:=gf.none_
  clear gf
  cases m with
  |zero=>
   have d:=zA V g.eqs.length
   rw[ZA Zo]at ma EC
   rw[ZA Zo,ZA Zo]at CL
   refine er @q7 @k2 @d ⟨?_⟩
   have sz:ch X [r,bT] h j bN ci:=eH.trans (dM.down (Zj _) (λb aj=> .inl (by simp at aj;simp[aj])))
   have L9:∀e,a7 e->W X bN e=W X h e:=λe z=>by have:=bs e (qM e z);exact sz.ab e Zo (by simp;exact⟨this.2.2.1,this.2.2.2⟩)
   obtain⟨ke,z0,g5,gx,_⟩:=at3.KI
   exact⟨rfl,⟨ke,z0,g5,gx⟩,Wh,K1,afU,⟨by rw[Ij];exact ma,cQ,c4,aO,eo,bQ,cl,cU,fe,be,rfl,l9.ab L9,kS.ab L9,np.ab L9,kk.ab L9,fq.ab L9 (λ_ a=>a),by rw[PQ];exact CL.ab (λ_ _=>rfl) (λ_ _=>rfl) (λ_ _=>rfl) (λe z=>z.1) (λ_ a=>a)⟩,sz,EC⟩
  |succ m=>
   have d:=zB V g.eqs.length
   have bC:=zE V
   obtain⟨ak,bM⟩:=zC g.eqs V
   have aJ:g.eqs.drop V=ak::g.eqs.drop (V+1):=by
    obtain⟨af,z⟩:=Zb.1 bM
    rw[Zr af,z]
   rw[aJ]at sG
   obtain⟨row,fP,B,cG,Cs,wA,Ux⟩:=sG
   have E1:be[V]? =some row:=by
    have:(be.drop V)[0]? =some row:=by rw[cG];rfl
    simpa using this
   have x2:fP=be.drop (V+1):=by
    obtain⟨af,z⟩:=Zb.1 E1
    rw[Zr af]at cG
    simp only[YE]at cG
    exact cG.2.symm
   subst x2
   obtain⟨q5,s0,c5,dC,il,rfl,iA,n1,pg,rK⟩:=id wA
   obtain⟨hu,rfl,Lj,pY⟩:=pg.ptr
   have ry:∀e,B e->a7 e:=λe z=>Av e (Cs e z)
   have Cq:∀e,P e->e<cC/\e≠r:=λe z=>by have:=bs e z;exact⟨Zo,this.2.2.1⟩
   have A4:∀e,P e->W X bN e=W X h e:=λe z=>by have:=Cq e z;rw[dM.ab e this.1 (by simp[this.2]),mI e z]
   have dA:=kk.fx V (by rw[km.1];omega)
   have iB:=(kk.ab (λe z=>A4 e (qM e z))).row Zd E1
   have lw:g.eqs.take (V+1)=g.eqs.take V++[ak]:=by rw[ZY,bM];rfl
   have x4:be.take (V+1)=be.take V++[[q5,s0, .Z ak.at_, .ptr hu 0]]:=by rw[ZY,E1];rfl
   refine ic @k2 @q7 @yy @d @dA @iB ⟨?_⟩
   refine gm (jG (u:=4) (b:=ci) (T:=0) (n:=4) (bh Zo) Zo rfl Zd Zd rK) ?_
   generalize gS:Go.bg.bm X _ ci _=b6
   have d1:W X b6 ci=zD [q5,s0, .Z ak.at_, .ptr hu 0] 4:=by rw[<-gS,bh Zo];rfl
   have dc:∀e,e<ci->W X b6 e=W X bN e:=λe z=>by rw[<-gS];exact zF
   clear gS
   have eD:ch X [r] bH cC b6 (ci+1):=⟨Zo,λe H M=>by rw[dc e Zo];exact dM.ab e H M⟩
   have at4:=TU.fr eD Zo
   have T5:nN X b6 bB r Wh:=K1.ab (dc r Zo) (λe z=>by have:=Cq e (xJ e z);exact dc e Zo)
   have avb:cn X b6 B ak.right (.ptr hu 0):=cn.ab (λe z=>by have:=Cq e (qM e (ry e z));exact dc e Zo) _ _ pg
   refine cS @t0 (bG d1) ⟨?_⟩
   refine(asa (bB:=bB) (P:=λe=>P e\/dU (j+1) aX e) (fV:=aX) aw ez aK bn (λe z=> .inl (xJ e z)) (SizeOf.sizeOf ak.right+1) ak.right (Yn _) (rz ak (Zl bM)) B (.ptr hu 0) b6 (ci+1) Wh (n+rl (g.eqs.take V)) (λe z=>HW e (ry e z)) Zo at4 T5 avb (EC.ab (dc r Zo)) (λe z=>Ln e (Cs e z))).mono ?_ ?_
   ·rintro ac cy dX ⟨dG,Wi,d9,Iz,LR,HU,If,axf,et,OM⟩
    have nr:=et.le
    have aeP:ch X [r] bH cC cy dX:=eD.trans (et.down Zo (λb aj=> .inl aj))
    have at5:=TU.fr aeP Zo
    have ew:W X cy ci=zD [q5,s0, .Z ak.at_, .ptr hu 0] 4:=by rw[et.ab ci Zo Zx];exact d1
    have afW:=iA.len
    have av0:=iA.many
    simp only[f8,Zi]at afW av0
    have ayn:∀e,a7 e->W X cy e=W X bN e:=λe z=>by have:=Cq e (qM e z);rw[et.ab e Zo (by simp[this.2]),dc e Zo]
    refine cS (bG ew) @afW ⟨?_⟩
    refine fE (λm I R aS=>∃(i:Nat) (s:E) (cv:List Nat),I.g 0=some (.ptr bT 0)/\I.g 9=some (.ptr ci 0)/\I.g 10=some ac/\I.g 11=some s/\I.g 52=some eo/\I.g 53=some (.Z (g.eqs.length:Int))/\I.g 54=some (.Z (V:Int))/\I.g 63=some q5/\I.g 64=some (.Z (ak.left.length:Int))/\I.g 65=some (.Z (i:Int))/\i+m=ak.left.length/\ga X R s 3 (qs ((ak.left.take i).map (mN t))).flatten cv/\(∀e∈cv,dX<=e/\e<aS)/\br X cy dX R aS)
     ak.left.length ⟨0, .aY,[],aW t0,bo,bo,bo,aW yy,aW q7,aW k2,bo,bo,fY,Zo, .inl (.inl ⟨rfl,rfl,rfl⟩),Zs,br.refl _ _⟩ ?_
    clear t0 yy q7 k2
    rintro fk I dt iv ⟨i,s,cv,t0,t9,js,pv,yy,q7,k2,Dw,vv,MV,aG,aC,eR,is⟩
    have CA:=is.le
    have aeI:=at5.fr (ch.of (X:=[r]) is) Zo
    have gu:W X dt ci=zD [q5,s0, .Z ak.at_, .ptr hu 0] 4:=by rw[is.ab ci Zo];exact ew
    have VU:∀e,a7 e->W X dt e=W X bN e:=λe z=>by have:=Cq e (qM e z);rw[is.ab e Zo,ayn e z]
    cases fk with
    |zero=>
     have d:=zA i ak.left.length
     rw[ZA Zo]at aC
     obtain⟨aqf,bb⟩:=aC.uq (P:=λe=>e<iv) Zd (M2 _) (by simp[qs];omega) (λe z=>(eR e z).2)
     have x6:nP X dt (λe=>e<iv) s (ak.left.map (mN t)):=⟨aqf,bb⟩
     have wC:=x6.rd.len
     rw[Zi]at wC
     have Fa:nP X dt (λe=>e<iv) ac dG:=LR.ab (λe z=>is.ab e z.2) (λe z=>zz z.2)
     have sJ:aU X dt (.ptr hu 0)=some (.Z ak.right.kind):=zK (VU hu (ry hu Lj)) pY
     have gZ:ch X [r] bH cC dt iv:=aeP.trans (ch.of (is.kZ Zo))
     have Uu:vX am t ak=if (1<ak.left.length/\ak.right.kind≠25)\/dG≠ak.left.map (mN t)then some ak.at_ else none:=by unfold vX;rw[d9]
     have fin:∀{d6:S ag}{hG:Nat},ch X [r] bH cC d6 hG->vX am t ak=some ak.at_->yj am g=some ak.at_/\ch X [r,bT] h j d6 hG:=λhw bA=>⟨by rw[Ij];exact Of bM ma bA,eH.trans (hw.down (Zj _) (λb aj=> .inl (by simp at aj;simp[aj])))⟩
     by_cases jQ:1<ak.left.length/\ak.right.kind≠25
     ·have Aa:decide ((ak.left.length:Int)>1)=true:=zP
      have y9:decide (ak.right.kind≠25)=true:=by simp[jQ.2]
      refine eh @MV @vv @d @pv @wC @Aa (Za @t9 (Za (bG gu) (Za @sJ @y9))) ⟨?_⟩
      refine(KB aw Zo ak.at_).mono (λ_ _ _ a=>a) ?_
      rintro ac d6 hG ⟨rfl,ie⟩
      obtain⟨eO,fp⟩:=fin (gZ.trans (ch.of ie)) (by rw[Uu,Zp (.inl jQ)])
      exact⟨_,eO,rfl,fp⟩
     ·apply NR
      ·intro ej
       by_cases n0:1<ak.left.length
       ·have Aa:decide ((ak.left.length:Int)>1)=true:=zP
        have y9:decide (ak.right.kind≠25)=false:=by simp only[Zc];exact λa=>jQ ⟨n0,a⟩
        refine eh @MV @vv @d @pv @wC @Aa (Za @t9 (Za (bG gu) (Za @sJ @y9))) ⟨?_⟩
        exact ej.out
       ·have Aa:decide ((ak.left.length:Int)>1)=false:=zO
        refine ic @MV @vv @d @pv @wC @Aa ⟨?_⟩
        exact ej.out
      ·refine cS @js @pv ⟨?_⟩
       refine(adB (P:=λe=>e<iv) aw Zo Fa x6 (λe a=>a)).Zm ?_
       rintro Jz d6 hG ⟨rfl,ie⟩
       have qT:=ie.le
       have hw:ch X [r] bH cC d6 hG:=gZ.trans (ch.of ie)
       by_cases OO:dG=ak.left.map (mN t)
       ·have SR:decide (dG=ak.left.map (mN t))=true:=by simp[OO]
        have aff:vX am t ak=none:=by rw[Uu,Zg];exact λa=>a.elim jQ (λa=>a OO)
        refine er @SR @k2 @bC ⟨?_⟩
        have HQ:=is.trans ie
        have ahd:∀e,a7 e->W X d6 e=W X bN e:=λe z=>by have:=Cq e (qM e z);rw[ie.ab e Zo,VU e z]
        refine⟨m,Zo,V+1,aW t0,aW yy,aW q7,bo,Zo,⟨by rw[KG bM ma];exact aff,hw,Wi,λe=>qD e/\¬B e,HU.ab (HQ.ab r Zo) (λe z=>by have:=Cq e (xJ e z);exact HQ.ab e Zo),λe z=>(If e (λa=>z (ry e a))).trans (afU e z),λe z=>Av e z.1,Ux.ab (λe z=>ahd e (Av e z.1)) (λ_ a=>a), ?_,by rw[lw,aqK, <-ZR];exact OM.ab (HQ.ab r Zo),λe z=>(If e z.2).trans (Ln e z.1)⟩⟩
        rw[lw,x4]
        refine xl.snoc (v:= .ptr hu 0) rfl aff (oZ.ab (λe z=>by have:=Cq e (qM e (ry e z));exact HQ.ab e Zo) (λe z=>HQ.ab e z.2) (λ_ _=>rfl) (λe z=>⟨ry e z,λa=>a.2 z⟩) (λe z=>⟨zz z.1,zz z.2⟩) _ _ axf) (CL.ab (λe z=>ahd e z.1) (λe z=> ?_) (λe z=>If e (λa=>z.2 (Cs e a))) (λe z=>⟨z.1,λa=>z.2 a.1⟩) (λe z=>⟨z.1,zz z.2⟩))
        have H:=z.1;have M:=z.2
        rw[HQ.ab e Zo,et.ab e Zo Zx,dc e M]
       ·have SR:decide (dG=ak.left.map (mN t))=false:=by simp[OO]
        have nk:W X d6 ci=zD [q5,s0, .Z ak.at_, .ptr hu 0] 4:=by rw[ie.ab ci Zo];exact gu
        refine er @SR @t9 (bG nk) ⟨?_⟩
        refine(KB aw Zo ak.at_).mono (λ_ _ _ a=>a) ?_
        rintro ac g7 ef ⟨rfl,TS⟩
        obtain⟨eO,fp⟩:=fin (hw.trans (ch.of TS)) (by rw[Uu,Zp (.inr OO)])
        exact⟨_,eO,rfl,fp⟩
    |succ fk=>
     have d:=zB i ak.left.length
     have cu:=zE i
     obtain⟨w,bb⟩:=zC ak.left i
     have vb:=iA.fx i (by simp[f8];omega)
     have Fe:=(iA.ab (λe z=>VU e (ry e z))).cell i [.str w] 0 (.str w) (by simp[f8,bb]) rfl
     rw[Z4]at vb Fe
     rw[ZX]at Fe
     have PP:ak.left.take (i+1)=ak.left.take i++[w]:=by rw[ZY,bb];rfl
     refine eh @MV @vv @Dw @d @vb @Fe (Za @pv @t0) ⟨?_⟩
     refine(Mz (j:=iv) (P:=λe=>P e\/dU (j+1) aX e) aw Zo Zo aeI.qF.dC aeI.w1 (λe z=>zz (KV.bs e z).2.1) w).Zm ?_
     rintro Jz d6 hG ⟨rfl,ie⟩
     have qT:=ie.le
     refine cj eE.eq_1 ⟨?_⟩
     generalize sC:Go.bg.bm X d6 hG _=g7
     have hm:W X g7 hG=zD (eE (mN t w)) 3:=by rw[<-sC,bh Zo];rfl
     have lV:∀e,e<hG->W X g7 e=W X d6 e:=λe z=>by rw[<-sC,aI Zo Zo]
     clear sC
     obtain⟨e1,DW,gK,iN,LO,auF,rH⟩:=XH (j:=hG+1) (aC.ab (R:=g7) (λe z=>by have:=eR e z;rw[lV e Zo,ie.ab e this.2])) hm (by rw[Zi,Yz];omega) Zo (λe z=>zz (eR e z)) 1
     refine kH iN ?_
     refine cS @MV @cu ⟨?_⟩
     refine⟨fk,Zo,i+1,e1,gK,aW t0,aW t9,aW js,bo,aW yy,aW q7,aW k2,aW Dw,aW vv,bo,Zo, ?_,λe z=> ?_,⟨Zo,λe z=> ?_⟩⟩
     ·rw[PP,ZW];exact LO
     ·rcases auF e z with rfl|a
      ·omega
      ·have:=eR e a;omega
     ·rw[rH e Zo (λa=>zz (eR e a)),lV e Zo,ie.ab e Zo];exact is.ab e z
   ·rintro ac cy dX ⟨F,aE,rfl,et⟩
    exact⟨F,by rw[Ij];exact Of bM ma (by unfold vX;rw[aE]),rfl,eH.trans ((eD.trans et).down (Zj _) (λb aj=> .inl (by simp at aj;simp[aj])))⟩
end
section
variable{X:ca}{h R aQ aP:S ag}{j an aV aX:Nat}{P eV:Nat->Prop}
def Wl(p:E):mm X h 31 p=aU X h p:=Zk
def acE:∃fn c,(o X).P.funcs[30]? =some fn/\fn.body=some c:=Oj (RO X)
def aB2(aw:dk X){F b:E}{a7:Bool->S ag->Nat->Prop}(a:a7 false h j):uQ X (.func 30) ([]++[F,b]) none h j a7:=by
 refine⟨aw.none _ _ rfl,acE,Ok (RO X) ?_⟩
 show Aj X 30 [F,b] none h j a7
 rw[aaC]
 unfold RN
 show bt _ _
 refine cj @ady ⟨?_⟩
 exact a
def aB3(aw:dk X){F b:Nat}{u at_:Int}{c5 dC:S E}{a7:Bool->S ag->Nat->Prop}(aF:(o X).a8<=F)(lS:(o X).a8<=b)(u0:F≠b)(ED:F<j)(AA:b<j)(hm:W X h F=some (.cells c5 1 .own))(pS:W X h b=some (.cells dC 2 .own))
 (a:∀R aS,j<=aS->aU X R (.ptr F 0)=some .cN->dE X R 2 (.ptr b 0)=some (.agg [.Z u, .Z at_])->(∀e,e<j->e≠F->e≠b->W X R e=W X h e)->a7 true R aS):uQ X (.func 30) ([]++[.ptr F 0, .ptr b 0]) (some (pQ u at_)) h j a7:=by
 refine⟨aw.none _ _ rfl,acE,Ok (RO X) ?_⟩
 show Aj X 30 [.ptr F 0, .ptr b 0] (some (pQ u at_)) h j a7
 rw[aaC]
 unfold RN
 show bt _ _
 have Sb:He 26 (.agg [.Z 0, .Z 0]) true (pQ u at_)=some (.tuple [.agg [.Z u, .Z at_], .zT]):=y2 _ _ _
 have F1:∀(I:c1) (n:Nat),(QU I).g n=I.g n:=λ_ _=>rfl
 refine er @adx @Sb @F1 ⟨?_⟩
 generalize dl:bm X _ j _=aQ
 have bP:W X aQ j=zD [.Z u, .Z at_] 2:=by rw[<-dl,bh Zo];rfl
 have H:∀e,e<j->W X aQ e=W X h e:=λe z=>by rw[<-dl];exact zF
 rw[<-H F ED]at hm
 rw[<-H b AA]at pS
 clear dl
 refine cS (bG bP) @F1 ⟨?_⟩
 refine gP (by simp[E.same,oI,pt]) ?_
 generalize dR:bm X aQ F _=aP
 have b2:W X aP F=some (.cells (d7 c5 0 [.cN]) 1 .own):=by rw[<-dR,bh aF];rfl
 have M:∀e,e≠F->W X aP e=W X aQ e:=λe z=>by rw[<-dR,aI aF z]
 rw[<-M b Zo]at pS
 clear dR
 refine tG @F1 ⟨?_⟩
 refine gm (jG (u:=2) (b:=b) (T:=0) (n:=2) pS lS rfl Zd Zd rfl) ?_
 show a7 true _ _
 refine a _ _ Zo ?_ ?_ (λe z VF gA=> ?_)
 ·rw[bG (by rw[aI lS u0];exact b2),kb];rfl
 ·rw[jp,bG (bh lS),bG (bh lS),kb,kb];rfl
 ·rw[aI lS gA,M e VF,H e z]
def aCi{ai:bK}{I:c1}{p ak v w:E}(m0:I.bj=[])(M:I.g 2=some p)(al:I.g 3=some ak)(en:aU X h p=some v)(cZ:dE X h 2 ak=some w)(a:ai (.tuple [v,w]) h j):Jm X ai I h j:=by
 unfold Jm
 rw[m0]
 show cH (I.g 2) (λp=>ar (mm X h 31 p) λv=>cH (I.g 3) λp=>ar (mm X h 26 p) λw=>ai (.tuple [v,w]) h j)
 rw[M,al]
 refine m6 ?_
 rw[Wl,en]
 refine oK ?_
 refine m6 ?_
 rw[IQ,cZ]
 exact oK a
def aCj{ai:bK}{I:c1}{p ak v w F b:E}(aw:dk X)(m0:I.bj=[⟨.fn (.func 30) [F,b],[]⟩])(M:I.g 2=some p)(al:I.g 3=some ak)(en:aU X h p=some v)(cZ:dE X h 2 ak=some w)(a:ai (.tuple [v,w]) h j):Jm X ai I h j:=by
 unfold Jm
 rw[m0]
 show uQ X (.func 30) ([]++[F,b]) none h j λ_ h j=>n9 X [.cell 2 31, .cell 3 26] ai I [] h j
 refine aB2 aw ?_
 show cH (I.g 2) (λp=>ar (mm X h 31 p) λv=>cH (I.g 3) λp=>ar (mm X h 26 p) λw=>ai (.tuple [v,w]) h j)
 rw[M,al]
 refine m6 ?_
 rw[Wl,en]
 refine oK ?_
 refine m6 ?_
 rw[IQ,cZ]
 exact oK a
def aBf{ai ax:bK}{I:c1}{F b:Nat}{u at_:Int}{c5 dC:S E}(aw:dk X)(m0:I.bj=[⟨.fn (.func 30) [.ptr F 0, .ptr b 0],[]⟩])(M:I.g 2=some (.ptr F 0))(al:I.g 3=some (.ptr b 0))
 (aF:(o X).a8<=F)(lS:(o X).a8<=b)(u0:F≠b)(ED:F<j)(AA:b<j)(hm:W X h F=some (.cells c5 1 .own))(pS:W X h b=some (.cells dC 2 .own))
 (a:∀R aS,j<=aS->(∀e,e<j->e≠F->e≠b->W X R e=W X h e)->ai (.tuple [.cN, .agg [.Z u, .Z at_]]) R aS):Qz X ai ax I (pQ u at_) h j:=by
 unfold Qz
 rw[m0]
 show uQ X (.func 30) ([]++[.ptr F 0, .ptr b 0]) (some (pQ u at_)) h j λb h j=>b0 b (n9 X [.cell 2 31, .cell 3 26] ai I [] h j) _
 refine aB3 aw aF lS u0 ED AA hm pS (λR aS gl en cZ aH=> ?_)
 show cH (I.g 2) (λp=>ar (mm X R 31 p) λv=>cH (I.g 3) λp=>ar (mm X R 26 p) λw=>ai (.tuple [v,w]) R aS)
 rw[M,al]
 refine m6 ?_
 rw[Wl,en]
 refine oK ?_
 refine m6 ?_
 rw[IQ,cZ]
 exact oK (a R aS gl aH)
def GV.ab{am:List Go.aL.Node}{dP jD:Nat->Option E}{sg sl:Nat->Prop}{g:Go.aL.Node}{row:List E}(a:GV X h am dP P eV g row)(u:∀e,P e->W X R e=W X h e)(ud:∀e,eV e->W X R e=W X h e)(az:∀e,P e->jD e=dP e)(ay:∀e,P e->sg e)(z:∀e,eV e->sl e):GV X R am jD sg sl g row:=by
 obtain⟨aK,cQ,c4,aO,eo,bQ,cl,cU,fe,be,H,M,al,aB,bw,b1,c6⟩:=a
 exact⟨aK,cQ,c4,aO,eo,bQ,cl,cU,fe,be,H,(M.ab u).lift ay,(al.ab u).lift ay,(aB.ab u).lift ay,(bw.ab u).lift ay,b1.ab u ay,c6.ab u ud az ay z⟩
def xg(X:ca)(h:S ag)(am:List Go.aL.Node)(dP:Nat->Option E)(P eV:Nat->Prop):List Go.aL.Node->List (List E)->Prop
 |[],be=>be=[]
 |g::k,be=>∃row fP,be=row::fP/\GV X h am dP P eV g row/\xg X h am dP P eV k fP
def xg.ab{am:List Go.aL.Node}{dP jD:Nat->Option E}{sg sl:Nat->Prop}(u:∀e,P e->W X R e=W X h e)(ud:∀e,eV e->W X R e=W X h e)(az:∀e,P e->jD e=dP e)(ay:∀e,P e->sg e)(z:∀e,eV e->sl e):∀{k:List Go.aL.Node}{be:List (List E)},xg X h am dP P eV k be->xg X R am jD sg sl k be:=by
 intro k
 induction k with
 |nil=>intro be a;exact a
 |cons g k ah=>
  rintro be ⟨row,fP,H,M,al⟩
  exact⟨row,fP,H,M.ab u ud az ay z,ah al⟩
def xg.snoc{am:List Go.aL.Node}{dP:Nat->Option E}{g:Go.aL.Node}{row:List E}(a:GV X h am dP P eV g row):∀{k:List Go.aL.Node}{be:List (List E)},xg X h am dP P eV k be->xg X h am dP P eV (k++[g]) (be++[row]):=by
 intro k
 induction k with
 |nil=>rintro be rfl;exact⟨row,[],rfl,a,rfl⟩
 |cons F k ah=>
  rintro be ⟨r2,fP,rfl,M,al⟩
  exact⟨r2,fP++[row],rfl,M,ah al⟩
def akT(X:ca)(h:S ag)(am:List Go.aL.Node)(dP:Nat->Option E)(P eV:Nat->Prop)(p:E):Prop:=∃b aO ce be,p= .ptr b 0/\P b/\aU X h (.ptr b 0)=some aO/\dV X h P ce aO 6 be/\xg X h am dP P eV am be
def lW(am:List Go.aL.Node):Int×Int:=if (ss am).1≠0 then ss am else match yA am with|some F=>(26,F)|none=>(0,0)
def B2:List Go.aL.Node->Nat
 |[]=>0
 |g::k=>rl g.eqs+B2 k
def aqI(g:Go.aL.Node):∀k:List Go.aL.Node,B2 (k++[g])=B2 k+rl g.eqs:=by
 intro k
 induction k with
 |nil=>simp[B2]
 |cons F k ah=>rw[YO,B2,B2,ah];omega
def aoX(X:ca)(h:S ag)(am:List Go.aL.Node)(P eV:Nat->Prop)(p v:E):Prop:=∃ak r dP,v= .ptr ak 0/\eV ak/\eV r/\aU X h (.ptr ak 0)=some (.map r)/\nN X h P r dP/\akT X h am dP P eV p/\pE X h r (B2 am)
def JL(X:ca)(h:S ag)(am:List Go.aL.Node)(P eV:Nat->Prop)(p ac:E):Prop:=if (lW am).1=0 then ∃v,ac= .tuple [v, .agg [.Z 0, .Z 0]]/\aoX X h am P eV p v else ac= .tuple [.cN, .agg [.Z (lW am).1, .Z (lW am).2]]
def GS.ab{fV bT ak r:Nat}{p:E}{am:List Go.aL.Node}(a:GS X h fV P bT ak r p am)(u:∀e,e<fV->e≠r->e≠bT->W X R e=W X h e)(bV:∃c,W X R bT=some (.cells c 3 .own)/\c.get 0=some (.ptr ak 0)/\c.get 1=some p):GS X R fV P bT ak r p am:=
 ⟨a.a8,a.lc,a.IS,a.C6,a.I3,a.ah6,a.D9,a.qr,a.SH,a.bs,bV,zK (u ak a.IS a.qr a.SH) a.Gk,a.prog.ab (λe z=>by have:=a.bs e z;exact u e this.2.1 this.2.2.1 this.2.2.2) (λ_ a=>a)⟩
set_option maxRecDepth 100000 in
def aqx(aw:jd X)(bY:mi X)(dZ:sf X)(iX:xe X)(ez:DO X){am:List Go.aL.Node}{p:E}(aF:(o X).a8<=j)(bV:oX X h P am p)(bs:∀e,P e->(o X).a8<=e/\e<j)(bb:∀g∈am,kv jJ g)(aK:am≠[])(az:n2 am=none):
 a2 X 9 [p] h j (λac R an=>JL X R am P (dU j an) p ac/\br X h j R an) zL:=by
 refine Kf (aoN X) (aw.todk.none _ _ rfl) ?_
 rw[aoO]
 unfold abG
 obtain⟨n0,lR⟩:=Mj az
 refine cL ⟨?_⟩
 refine e0 (λaQ=>W X aQ j=zD [.cN] 1/\W X aQ (j+1)=zD [.Z 0, .Z 0] 2/\br X h j aQ (j+1+1)) ⟨by exact zQ,by rw[bh Zo];rfl,dH⟩ ?_
 rintro aQ ⟨bP,b2,bL⟩
 refine(aqy (j:=j+1+1) aw bY dZ iX Zo (bV.ab (a7:=P) (λe z=>bL.ab e (bs e z).2) (λ_ a=>a)) (λe z=>zz (bs e z).2) bb aK az).Zm ?_
 rintro ac aP aX ⟨rfl,bI⟩
 have fN:=bI.le
 have cI:W X aP j=zD [.cN] 1:=by rw[bI.ab _ Zo];exact bP
 have dL:W X aP (j+1)=zD [.Z 0, .Z 0] 2:=by rw[bI.ab _ Zo];exact b2
 have hb:=bL.trans bI
 clear bP b2 bL bI
 have lb:(ss am).1≠0->lW am=ss am:=λa=>by unfold lW;rw[Zp a]
 have LK:(ss am).1=0->lW am=match yA am with|some F=>(26,F)|none=>(0,0):=λa=>by unfold lW;rw[Zg (by simp[a])]
 generalize ss am=qF at lb LK ⊢
 obtain⟨cc,B0⟩:=qF
 simp only at lb LK
 by_cases aA:cc=0
 ·have CG:=LK aA
  subst aA
  clear lb LK
  have d:decide ((0:Int)≠0)=false:=rfl
  refine cj @d ⟨?_⟩
  generalize eQ:Go.bg.bm X _ aX _=a6
  have cX:∀e,e<aX->W X a6 e=W X aP e:=λe z=>by rw[<-eQ];exact zF
  clear eQ
  rw[<-cX j Zo]at cI
  rw[<-cX (j+1) Zo]at dL
  have CT:∀e,e<j->W X a6 e=W X h e:=λe z=>by rw[cX e Zo];exact hb.ab e z
  have UB:=bV.ab (R:=a6) (a7:=P) (λe z=>CT e (bs e z).2) (λ_ a=>a)
  obtain⟨jE,Jg,QA,be,rfl,mY,a0,cG,kU⟩:=UB
  have Pr:=kU.wide
  have d2:=cG.len
  have h1:=cG.many
  rw[Pr.1]at d2 h1
  have Lz:=bs jE mY
  refine ada ?_
  generalize it:Bi _ _=vL
  have lj:vL.bj=[⟨.fn (.func 30) [.ptr j 0, .ptr (j+1) 0],[]⟩]:=by rw[<-it];rfl
  have t0:vL.g 0=some (.ptr jE 0):=by rw[<-it];rfl
  have eK:vL.g 2=some (.ptr j 0):=by rw[<-it];rfl
  have t3:vL.g 3=some (.ptr (j+1) 0):=by rw[<-it];rfl
  clear it
  generalize ww:aX+1=bz at*
  refine f3 @t0 @eK @cI @a0 @d2 ⟨?_⟩
  generalize e5:Go.bg.bm X _ (bz+1+1) _=bH
  have v1:W X bH bz=some (.map [] 0):=by rw[<-e5];simp(disch:=omega) only[bh,aI]
  have KM:W X bH (bz+1)=zD [.map bz] 1:=by rw[<-e5];exact zQ
  have aea:W X bH (bz+1+1)=zD [.ptr (bz+1) 0, .ptr jE 0, .cN] 3:=by rw[<-e5,bh Zo];rfl
  have atn:W X bH j=some (.cells (d7 (S.ofList [.cN] 0 .nil) 0 [.ptr (bz+1) 0]) 1 .own):=by rw[<-e5];exact zQ
  have d4:∀e,e<bz->e≠j->W X bH e=W X a6 e:=λe H M=>by rw[<-e5];exact zF
  clear e5
  have atm:W X bH (j+1)=zD [.Z 0, .Z 0] 2:=by rw[d4 _ Zo Zo];exact dL
  have mI:∀e,P e->W X bH e=W X a6 e:=λe z=>by have:=bs e z;exact d4 e Zo Zo
  have af9:=kU.ab (R:=bH) (a7:=P) mI (λ_ a=>a)
  have at1:GS X bH (bz+1+1+1) P (bz+1+1) (bz+1) bz (.ptr jE 0) am:=⟨Zo,Zo,Zo,Zo,Zo,Zo,Zo,Zo,Zo,λe z=>by have:=bs e z;exact⟨this.1,Zo,Zo,Zo⟩,⟨_,aea,rfl,rfl⟩,by rw[bG KM];rfl,⟨jE,Jg,QA,be,rfl,mY,zK (mI jE mY) a0,cG.ab mI,af9⟩⟩
  have auf:nN X bH P bz (λ_=>none):=⟨[],0,v1,λ_=>rfl,Zs⟩
  have auh:pE X bH bz 0:=⟨[],0,v1,rfl⟩
  refine fE (λm I R aS=>∃(V:Nat) (dP:Nat->Option E) (GY:Nat->Prop),I.g 5=some (.ptr (bz+1+1) 0)/\I.g 25=some Jg/\I.g 26=some (.Z (am.length:Int))/\I.g 27=some (.Z (V:Int))/\I.bj=[⟨.fn (.func 30) [.ptr j 0, .ptr (j+1) 0],[]⟩]/\I.g 2=some (.ptr j 0)/\I.g 3=some (.ptr (j+1) 0)/\V+m=am.length/\(am.take V).findSome? (yj am)=none/\(∃c,W X R (bz+1+1)=some (.cells c 3 .own)/\c.get 0=some (.ptr (bz+1) 0)/\c.get 1=some (.ptr jE 0))/\ch X [bz,bz+1+1] bH (bz+1+1+1) R aS/\nN X R P bz dP/\(∀e,GY e->P e)/\uG X R GY (am.drop V) (be.drop V)/\xg X R am dP (λe=>P e/\¬GY e) (dU (bz+1+1+1) aS) (am.take V) (be.take V)/\pE X R bz (B2 (am.take V))/\∀e,GY e->dP e=none)
   am.length ⟨0,λ_=>none,P,bo,bo,bo,fY,lj,aW eK,aW t3,Zo,rfl,⟨_,aea,rfl,rfl⟩,ch.refl _ _ _,auf,λ_ a=>a,by simpa using af9,by rw[Yc,Yc];rfl,by rw[Yc];exact auh,λ_ _=>rfl⟩ ?_
  clear lj t0 eK t3 cI dL
  rintro m I bN ci ⟨V,dP,GY,t5,na,l1,Gh,MY,eK,t3,bF,ma,iY,dM,K1,T9,nW,LQ,EC,Ln⟩
  have iP:=dM.le
  have A4:∀e,P e->W X bN e=W X a6 e:=λe z=>by have:=bs e z;rw[dM.ab e Zo Zx,mI e z]
  have TA:W X bN j=some (.cells (d7 (S.ofList [.cN] 0 .nil) 0 [.ptr (bz+1) 0]) 1 .own):=by rw[dM.ab j Zo Zx];exact atn
  have aeh:W X bN (j+1)=zD [.Z 0, .Z 0] 2:=by rw[dM.ab (j+1) Zo Zx];exact atm
  have xW:∀e,e<j->W X bN e=W X h e:=λe z=>by rw[dM.ab e Zo Zx,d4 e Zo Zo,CT e z]
  cases m with
  |zero=>
   have d:=zA V am.length
   rw[ZA Zo]at ma EC
   rw[ZA Zo,ZA Zo]at LQ
   have kW:yA am=none:=ma
   rw[kW]at CG
   simp only[]at CG
   have gM:aU X bN (.ptr j 0)=some (.ptr (bz+1) 0):=by rw[bG TA,kb];rfl
   refine eh @Gh @l1 @d @eK @gM @TA (Za @t3 @aeh) ⟨?_⟩
   generalize gS:Go.bg.bm X _ (j+1) _=b6
   have g5:W X b6 j=some (.cells (d7 (d7 (S.ofList [.cN] 0 .nil) 0 [.ptr (bz+1) 0]) 0 [.ptr (bz+1) 0]) 1 .own):=by rw[<-gS];exact zQ
   have gx:W X b6 (j+1)=some (.cells (d7 (S.ofList [.Z 0, .Z 0] 0 .nil) 0 [.Z 0, .Z 0]) 2 .own):=by rw[<-gS,bh Zo];rfl
   have z3:∀e,e≠j->e≠j+1->W X b6 e=W X bN e:=λe H M=>by rw[<-gS];exact zF
   clear gS
   have qZ:∀e,P e->W X b6 e=W X bN e:=λe z=>by have:=bs e z;exact z3 e Zo Zo
   have aD6:aU X b6 (.ptr (bz+1) 0)=some (.map bz):=by rw[cw,z3 _ Zo Zo,dM.ab (bz+1) Zo Zs, <-cw,bG KM];rfl
   refine aCj (v:= .ptr (bz+1) 0) (w:= .agg [.Z 0, .Z 0]) aw.todk MY (aW eK) (aW t3) (by rw[bG g5,kb];rfl) (by rw[jp,bG gx,bG gx,kb,kb];rfl) ⟨?_,Zo,λe z=>by rw[z3 e Zo Zo];exact xW e z⟩
   unfold JL
   rw[Zp (by rw[CG])]
   exact⟨_,rfl,bz+1,bz,dP,rfl,⟨Zo,Zo⟩,⟨Zo,Zo⟩,aD6,K1.ab (z3 _ Zo Zo) qZ,⟨jE,Jg,QA,be,rfl,mY,by rw[cw,qZ jE mY,A4 jE mY, <-cw];exact a0,cG.ab (λe z=>by rw[qZ e z,A4 e z]),LQ.ab (λe z=>qZ e z.1) (λe z=>z3 e (zz z.1) (zz z.1)) (λ_ _=>rfl) (λe z=>z.1) (λe z=>⟨zz z.1,z.2⟩)⟩,EC.ab (z3 _ Zo Zo)⟩
  |succ m=>
   have d:=zB V am.length
   have bC:=zE V
   obtain⟨g,nZ⟩:=zC am V
   have qS:=Zl nZ
   have aJ:am.drop V=g::am.drop (V+1):=by
    obtain⟨af,z⟩:=Zb.1 nZ
    rw[Zr af,z]
   rw[aJ]at nW
   obtain⟨row,fP,a7,AU,eP,jR,auw⟩:=nW
   have E1:be[V]? =some row:=by
    have:(be.drop V)[0]? =some row:=by rw[AU];rfl
    simpa using this
   have x2:fP=be.drop (V+1):=by
    obtain⟨af,z⟩:=Zb.1 E1
    rw[Zr af]at AU
    simp only[YE]at AU
    exact AU.2.symm
   subst x2
   have qM:∀e,a7 e->P e:=λe z=>T9 e (eP e z)
   have dA:=cG.fx V (by rw[Pr.1];omega)
   have iB:=(cG.ab A4).row Zd E1
   have kl:=jR.iF
   have AN:=jR
   have lw:am.take (V+1)=am.take V++[g]:=by rw[ZY,nZ];rfl
   have x4:be.take (V+1)=be.take V++[row]:=by rw[ZY,E1];rfl
   obtain⟨cQ,c4,lh,eo,bQ,cl,cU,fe,fP,rfl,_⟩:=jR
   refine ic @Gh @l1 @na @d @dA @iB ⟨?_⟩
   refine gm (jG (u:=6) (b:=ci) (T:=0) (n:=6) (c:=S.ofList [.str [], .Z 0, .aY, .aY, .aY, .aY] 0 .nil) (bh Zo) Zo rfl Zd Zd kl) ?_
   generalize gS:Go.bg.bm X _ ci _=b6
   have d1:W X b6 ci=zD [.str g.name, .Z g.at_,cQ,c4,lh,eo] 6:=by rw[<-gS,bh Zo];rfl
   have dc:∀e,e<ci->W X b6 e=W X bN e:=λe z=>by rw[<-gS];exact zF
   clear gS
   have ec:GS X b6 (bz+1+1+1) P (bz+1+1) (bz+1) bz (.ptr jE 0) am:=at1.ab (λe H M al=>by rw[dc e Zo];exact dM.ab e H (by simp;exact⟨M,al⟩)) (by rw[dc _ Zo];exact iY)
   have T5:nN X b6 P bz dP:=K1.ab (dc _ Zo) (λe z=>by have:=bs e z;exact dc e Zo)
   have eD:ch X [bz,bz+1+1] bH (bz+1+1+1) b6 (ci+1):=⟨Zo,λe H M=>by rw[dc e Zo];exact dM.ab e H M⟩
   refine cS @t5 (bG d1) ⟨?_⟩
   refine(aAl (j:=ci+1) (bB:=P) (P:=P) (a7:=a7) aw.todk ez aK (λg bV=>zz (lR g bV).vars) (λ_ a=>a) qM Zo ec T5 (EC.ab (dc _ Zo)) (λe z=>Ln e (eP e z)) (AN.ab (a7:=a7) (λe z=>by have:=bs e (qM e z);exact dc e Zo) (λ_ a=>a)) (λak bM=>((bb g qS).eqs ak bM).right) (by rw[Kw];have:=(lR g qS).vars;simp only[qk];omega)).mono ?_ ?_
   ·rintro ac cy dX ⟨rfl,auQ,Wi,HU,If,OM,et,auk⟩
    have nr:=et.le
    have aho:∀e,e<ci->e≠bz->e≠bz+1+1->W X cy e=W X bN e:=λe H M al=>by rw[et.ab e Zo (by simp;exact⟨M,al⟩),dc e H]
    have vi:∀e,P e->W X cy e=W X bN e:=λe z=>by have:=bs e z;exact aho e Zo Zo Zo
    refine cS @Gh @bC ⟨?_⟩
    refine⟨m,Zo,V+1,Wi,λe=>GY e/\¬a7 e,aW t5,aW na,aW l1,bo,MY,aW eK,aW t3,Zo,by rw[KG nZ ma];exact OM.1,auQ,eD.trans (et.down Zo (λb aj=> .inl aj)),HU,λe z=>T9 e z.1,auw.ab (λe z=>vi e (T9 e z.1)) (λ_ a=>a), ?_,by rw[lw,aqI];exact auk,λe z=>(If e z.2).trans (Ln e z.1)⟩
    rw[lw,x4]
    exact xg.snoc (OM.ab (λ_ _=>rfl) (λ_ _=>rfl) (λ_ _=>rfl) (λe z=>⟨qM e z,λa=>a.2 z⟩) (λe z=>⟨zz z.1,z.2⟩)) (LQ.ab (λe z=>vi e z.1) (λe z=>aho e z.2 (zz z.1) (zz z.1)) (λe z=>If e (λa=>z.2 (eP e a))) (λe z=>⟨z.1,λa=>z.2 a.1⟩) (λe z=>⟨z.1,zz z.2⟩))
   ·rintro ac cy dX ⟨F,aE,rfl,et⟩
    have nr:=et.le
    have kW:yA am=some F:=Of nZ ma aE
    rw[kW]at CG
    simp only[]at CG
    refine aBf (c5:=d7 (S.ofList [.cN] 0 .nil) 0 [.ptr (bz+1) 0]) (dC:=S.ofList [.Z 0, .Z 0] 0 .nil) aw.todk MY (by have bn:rS 2 [31,32,33]=false:=rfl;simp[vW,Bo,eK,bn]) (by have bn:rS 3 [31,32,33]=false:=rfl;simp[vW,Bo,t3,bn]) aF Zo Zo Zo Zo ?_ ?_ (λR aS gl aH=>⟨?_,Zo,λe z=> ?_⟩)
    ·rw[et.ab j Zo Zx,dc j Zo];exact TA
    ·rw[et.ab (j+1) Zo Zx,dc (j+1) Zo];exact aeh
    ·unfold JL
     rw[CG,Zg (show ¬(26:Int)=0 by decide)]
    ·rw[aH e Zo Zo Zo,et.ab e Zo Zx,dc e Zo];exact xW e z
 ·have CG:=lb aA
  clear lb LK
  have d:decide (cc≠0)=true:=by simp[aA]
  refine cS @d @cI ⟨?_⟩
  refine gP (by simp[E.same,oI,pt]) ?_
  refine cj @dL ⟨?_⟩
  generalize eQ:Go.bg.bm X _ (j+1) _=a6
  have g5:W X a6 j=some (.cells (d7 (S.ofList [.cN] 0 .nil) 0 [.cN]) 1 .own):=by rw[<-eQ];exact zQ
  have gx:W X a6 (j+1)=some (.cells (d7 (S.ofList [.Z 0, .Z 0] 0 .nil) 0 [.Z cc, .Z B0]) 2 .own):=by rw[<-eQ,bh Zo];rfl
  have z3:∀e,e<j->W X a6 e=W X h e:=λe H=>by rw[<-eQ];simp(disch:=omega) only[aI];exact hb.ab e H
  clear eQ
  refine aCi (v:= .cN) (w:= .agg [.Z cc, .Z B0]) rfl (fY) (fY) (by rw[bG g5,kb];rfl) (by rw[jp,bG gx,bG gx,kb,kb];rfl) ⟨?_,Zo,z3⟩
  unfold JL
  rw[CG,Zg aA]
end
abbrev fu:=aR×Bool
def kN(d:eb):fu:=(d.on,d.no)
def e8(t:aR->Option c0)(w:aR):fu:=kN ((t w).getD px).d
def Hy(t:aR->Option c0)(D:bp)(c:fu):Bool:=if D.kind=2\/D.kind=24 then decide (e8 t D.name=c)else if D.kind=6 then decide ((D.name,D.no)=c)else true
def ot(t:aR->Option c0)(u:Int)(nm:aR)(c:fu)(i:Nat):fu:=if u=6 then e8 t nm else if u=24 then(nm,decide (i=1))else c
def FG(f:Option Int)(b:Bool)(F:Int):Option Int:=match f with
 |some F=>some F
 |none=>if b then none else some F
mutual
def nK(t:aR->Option c0):bp->fu->Option Int->Option Int
 | .mk u F nm no ty n args,c,f=>vz t u nm c 0 args (FG f (Hy t (.mk u F nm no ty n args) c) F)
def vz(t:aR->Option c0)(u:Int)(nm:aR)(c:fu):Nat->List bp->Option Int->Option Int
 |_,[],f=>f
 |i,D::b8,f=>vz t u nm c (i+1) b8 (nK t D (ot t u nm c i) f)
end
structure Can where
 any:Bool
 one:Bool
 c:fu
def j7(x:Can)(c:fu):Bool:=x.any||(x.one&&decide (x.c=c))
def kM:fu:=([],false)
def y3(x e:Can):Can:=if x.any then e else if e.any||(x.one&&e.one&&decide (x.c=e.c))then x else⟨false,false,kM⟩
def Hz(k:List Can):Can:=k.foldl y3 ⟨true,false,kM⟩
def Xp(t:aR->Option c0)(D:bp)(k:List Can):Can:=
 if D.kind=1 then⟨true,false,kM⟩
 else if D.kind=2 then⟨false,true,e8 t D.name⟩
 else if D.kind=6 then⟨false,(k[0]?).elim false λx=>j7 x (e8 t D.name),(D.name,D.no)⟩
 else if D.kind=24 then⟨false,((k[0]?).elim false λx=>j7 x (D.name,false))&&((k[1]?).elim false λx=>j7 x (D.name,true)),e8 t D.name⟩
 else Hz k
mutual
def nh(t:aR->Option c0):bp->Can
 | .mk u F nm no ty n args=>Xp t (.mk u F nm no ty n args) (ky t args)
def ky(t:aR->Option c0):List bp->List Can
 |[]=>[]
 |D::b8=>nh t D::ky t b8
end
section
variable{t:aR->Option c0}
def aqc(x e:Can)(c:fu):j7 (y3 x e) c=(j7 x c&&j7 e c):=by
 unfold y3
 obtain⟨aFd,akw,aFe⟩:=x
 obtain⟨aFi,akx,aFj⟩:=e
 cases aFd with
 |true=>simp[j7]
 |false=>
  cases aFi with
  |true=>simp[j7]
  |false=>
   simp only[Zw,ZB,Bool.false_or]
   by_cases a:(akw&&akx&&decide (aFe=aFj))=true
   ·rw[Zp a]
    simp only[Zq,Zh]at a
    obtain⟨⟨rfl,rfl⟩,rfl⟩:=a
    simp[j7]
   ·rw[Zg a]
    cases akw<;>cases akx<;>simp[j7]at a ⊢
    intro H M
    exact a (H.trans M.symm)
def asv(c:fu):∀(k:List Can) (x:Can),j7 (k.foldl y3 x) c=(j7 x c&&k.all λe=>j7 e c):=by
 intro k
 induction k with
 |nil=>intro x;simp
 |cons F k ah=>intro x;rw[ZH,ah,aqc,List.all_cons,Bool.and_assoc]
mutual
def aEO:∀(D:bp) (c:fu) (F:Int),nK t D c (some F)=some F
 | .mk u F nm no ty n args,c,fB=>by rw[nK];exact Ra u nm c 0 args fB
def Ra(u:Int)(nm:aR)(c:fu):∀(i:Nat) (k:List bp) (F:Int),vz t u nm c i k (some F)=some F
 |_,[],F=>by rw[vz]
 |i,D::b8,F=>by rw[vz,aEO D,Ra u nm c (i+1) b8]
end
def aEN(u:Int)(nm:aR)(c:fu):∀(k:List bp) (i:Nat),vz t u nm c i k none=none↔∀(V:Nat) x,k[V]? =some x->nK t x (ot t u nm c (i+V)) none=none:=by
 intro k
 induction k with
 |nil=>intro i;rw[vz];simp
 |cons D k ah=>
  intro i
  rw[vz]
  cases a:nK t D (ot t u nm c i) none with
  |some F=>
   rw[Ra]
   refine⟨λa=>(by cases a),λbF=> ?_⟩
   have:=bF 0 D rfl
   rw[ZX,a]at this
   cases this
  |none=>
   rw[ah]
   refine⟨λbF V x af=> ?_,λbF V x af=> ?_⟩
   ·cases V with
    |zero=>simp at af;subst af;exact a
    |succ V=>have:=bF V x (by simpa using af);rw[show i+(V+1)=i+1+V by omega];exact this
   ·have:=bF (V+1) x (by simpa using af)
    rw[show i+1+V=i+(V+1) by omega];exact this
def ab9:∀k:List bp,ky t k=k.map (nh t)
 |[]=>by rw[ky];rfl
 |D::k=>by rw[ky,ab9 k];rfl
mutual
def acb{bu:gI}:∀(D:bp) (c:fu),eG bu D->(j7 (nh t D) c=true↔nK t D c none=none)
 | .mk u F nm no ty n args,c,bb=>by
   rw[eG]at bb
   obtain⟨a,wC⟩:=bb
   have ah:=acc args wC
   rw[nh,nK,ab9]
   have H8:∀(b:Bool),vz t u nm c 0 args (FG none b F)=none↔b=true/\∀(V:Nat) x,args[V]? =some x->nK t x (ot t u nm c V) none=none:=λb=>by
    cases b with
    |false=>simp only[FG,Zw,ZB,false_and];rw[Ra];simp
    |true=>simp only[FG,ZG,zu];rw[aEN];simp
   rw[H8]
   have L1:∀(V:Nat) x,args[V]? =some x->∀fX,j7 (nh t x) fX=true↔nK t x fX none=none:=λV x af fX=>ah x (Zl af) fX
   unfold Xp Hy
   change j7 (if u=1 then⟨true,false,kM⟩else if u=2 then⟨false,true,e8 t nm⟩else if u=6 then⟨false,((args.map (nh t))[0]?).elim false λx=>j7 x (e8 t nm),(nm,no)⟩
    else if u=24 then⟨false,(((args.map (nh t))[0]?).elim false λx=>j7 x (nm,false))&&(((args.map (nh t))[1]?).elim false λx=>j7 x (nm,true)),e8 t nm⟩else Hz (args.map (nh t))) c=true↔
    (if u=2\/u=24 then decide (e8 t nm=c)else if u=6 then decide ((nm,no)=c)else true)=true/\∀(V:Nat) x,args[V]? =some x->nK t x (ot t u nm c V) none=none
   by_cases bR:u=1
   ·subst bR
    have:args=[]:=ZN (a.sp 0 rfl)
    subst this
    simp[j7]
   rw[Zg bR]
   by_cases cm:u=2
   ·subst cm
    have:args=[]:=ZN (a.sp 0 rfl)
    subst this
    simp[j7]
   rw[Zg cm]
   by_cases dc:u=6
   ·subst dc
    have:=a.sp 1 rfl
    match bM:args,this with
    |[x],_=>
     subst bM
     have af:=L1 0 x rfl (e8 t nm)
     have bF:(∀(V:Nat) e,[x][V]? =some e->nK t e (ot t 6 nm c V) none=none)↔nK t x (e8 t nm) none=none:=by
      refine⟨λa=>a 0 x rfl,λa V e z=> ?_⟩
      cases V with
      |zero=>simp at z;subst z;exact a
      |succ V=>simp at z
     rw[bF, <-af]
     simp[j7,and_comm]
   rw[Zg dc]
   by_cases mH:u=24
   ·subst mH
    have:=a.sp 2 rfl
    match bM:args,this with
    |[x,bE],_=>
     subst bM
     have af:=L1 0 x rfl (nm,false)
     have cx:=L1 1 bE rfl (nm,true)
     have bF:(∀(V:Nat) e,[x,bE][V]? =some e->nK t e (ot t 24 nm c V) none=none)↔nK t x (nm,false) none=none/\nK t bE (nm,true) none=none:=by
      refine⟨λa=>⟨a 0 x rfl,a 1 bE rfl⟩,λa V e z=> ?_⟩
      match V,z with
      |0,z=>simp at z;subst z;exact a.1
      |1,z=>simp at z;subst z;exact a.2
     rw[bF, <-af, <-cx]
     simp[j7,and_comm]
   rw[Zg mH,Zg Zo,Zg dc]
   unfold Hz
   rw[asv]
   simp only[j7,Bool.true_or,zk,List.all_map,Ym,zu]
   refine⟨λbF V x af=> ?_,λbF x af=> ?_⟩
   ·have:=bF x (Zl af)
    simp only[ot,Zg dc,Zg mH]
    exact(L1 V x af c).1 this
   ·obtain⟨V,UM,rfl⟩:=List.mem_iff_getElem.1 af
    have H:args[V]? =some args[V]:=Ze UM
    have:=bF V _ H
    simp only[ot,Zg dc,Zg mH]at this
    exact(L1 V _ H c).2 this
def acc{bu:gI}:∀(k:List bp),fj bu k->∀x∈k,∀c,(j7 (nh t x) c=true↔nK t x c none=none)
 |[],_,x,af,_=>by cases af
 |D::k,bb,x,af,c=>by
  rw[fj]at bb
  rcases Zu.1 af with a|a
  ·rw[a];exact acb D c bb.1
  ·exact acc k bb.2 x a c
end
end
def WO{α:Type}[DecidableEq α]:∀(k m:List α),k.Nodup->(∀x∈k,x∈m)->k.length<=m.length:=by
 intro k
 induction k with
 |nil=>intro m _ _;exact zd _
 |cons F k ah=>
  intro m aF a
  rw[zm]at aF
  have aE:=a F (Zv ..)
  have:=ah (m.erase F) aF.2 λx af=>(List.mem_erase_of_ne (λD=>aF.1 (by rw[<-D];exact af))).2 (a x (Zt _ af))
  have bn:=List.length_pos_of_mem aE
  rw[List.length_erase_of_mem aE]at this
  simp only[ZF]
  omega
def pM(t:aR->Option c0):Nat->List fu->fu->List fu
 |0,k,_=>k
 |n+1,k,c=>if (k.map Prod.fst).contains c.1 then k else if c.1=[]\/t c.1=none then k++[c]else pM t n (k++[c]) (e8 t c.1)
def mG(t:aR->Option c0):Nat->aR->aR
 |0,w=>w
 |n+1,w=>mG t n (e8 t w).1
def L5(t:aR->Option c0):∀(n:Nat) (w:aR),mG t (n+1) w=(e8 t (mG t n w)).1:=by
 intro n
 induction n with
 |zero=>intro w;rfl
 |succ n ah=>intro w;rw[mG,ah];rfl
def aqv{t:aR->Option c0}{gN:List aR}(fZ:∀w,t w≠none->w∈gN)(H:∀w,t w≠none->e8 t w=kM\/(t (e8 t w).1≠none/\(e8 t w).1≠[])):
 ∀(n:Nat) (k:List fu) (c:fu),gN.length<n+k.length->(k.map Prod.fst).Nodup->(∀w∈k.map Prod.fst,t w≠none/\w≠[])->(∀w∈k.map Prod.fst,(e8 t w).1∈k.map Prod.fst\/(e8 t w).1=c.1)->(c=kM\/(t c.1≠none/\c.1≠[]))->
  ((pM t n k c).getLast?=some kM↔∃i,mG t i c.1=[]):=by
 intro n
 induction n with
 |zero=>
  intro k c az aF bb _ _
  have:=WO (k.map Prod.fst) gN aF λw a=>fZ w (bb w a).1
  rw[Zi]at this
  omega
 |succ n ah=>
  intro k c az aF bb aA H3
  rw[pM]
  by_cases sH:c.1∈k.map Prod.fst
  ·rw[Zp (by simpa using sH)]
   refine⟨λa=> ?_,λa=> ?_⟩
   ·have bn:=List.mem_of_getLast? a
    exact absurd rfl (bb [] (ZE.2 ⟨kM,bn,rfl⟩)).2
   ·obtain⟨i,aG⟩:=a
    have key:∀i,mG t i c.1∈k.map Prod.fst:=by
     intro i
     induction i with
     |zero=>exact sH
     |succ i axO=>
      rw[L5]
      rcases aA _ axO with a|a
      ·exact a
      ·rw[a];exact sH
    exact absurd aG (bb _ (key i)).2
  ·rw[Zg (by simpa using sH)]
   by_cases aK:c.1=[]
   ·rw[Zp (.inl aK)]
    rcases H3 with rfl|a
    ·rw[List.getLast?_append]
     exact⟨λ_=>⟨0,rfl⟩,λ_=>rfl⟩
    ·exact absurd aK a.2
   ·have u4:t c.1≠none/\c.1≠[]:=H3.resolve_left λD=>aK (by rw[D];rfl)
    rw[Zg (λa=>a.elim aK u4.1)]
    rw[ah (k++[c]) (e8 t c.1) Zx (by
     rw[ZW,List.nodup_append]
     refine⟨aF,Zs,λF aE b aj D=> ?_⟩
     simp at aj
     rw[D,aj]at aE
     exact sH aE) (λw a=>by
     rw[ZW]at a
     rcases Zz.1 a with a|a
     ·exact bb w a
     ·simp at a;rw[a];exact u4) (λw a=>by
     rw[ZW]at a ⊢
     rcases Zz.1 a with a|a
     ·rcases aA w a with ak|ak
      ·exact .inl (List.mem_append_left _ ak)
      ·exact .inl (List.mem_append_right _ (by simp[ak]))
     ·simp at a;rw[a];exact .inr rfl) (H _ u4.1)]
    refine⟨λa=> ?_,λa=> ?_⟩
    ·obtain⟨i,aG⟩:=a;exact⟨i+1,aG⟩
    ·obtain⟨i,aG⟩:=a
     cases i with
     |zero=>exact absurd aG aK
     |succ i=>exact⟨i,aG⟩
def ax0{t:aR->Option c0}{gN:List aR}(fZ:∀w,t w≠none->w∈gN)(H:∀w,t w≠none->e8 t w=kM\/(t (e8 t w).1≠none/\(e8 t w).1≠[])){w:aR}(bb:t w≠none/\w≠[]):(∃i,mG t i w=[])↔∃i,i<=gN.length/\mG t i w=[]:=by
 refine⟨λ⟨i,aG⟩=> ?_,λ⟨i,_,aG⟩=>⟨i,aG⟩⟩
 have b4:∃i,mG t i w=[]/\∀V,V<i->mG t V w≠[]:=by
  induction i with
  |zero=>exact⟨0,aG,λV bF=>Zo⟩
  |succ i ah=>
   by_cases a:∃V,V<=i/\mG t V w=[]
   ·obtain⟨V,bF,Ib⟩:=a
    clear ah aG
    induction V using Nat.strongRecOn with
    |_ V axP=>
     by_cases a:∃u,u<V/\mG t u w=[]
     ·obtain⟨u,aH,hD⟩:=a
      exact axP u aH Zo hD
     ·exact⟨V,Ib,λu aH D=>a ⟨u,aH,D⟩⟩
   ·exact⟨i+1,aG,λV bF D=>a ⟨V,Zo,D⟩⟩
 obtain⟨i,aG,c3⟩:=b4
 refine⟨i, ?_,aG⟩
 have tQ:∀V,V<i->t (mG t V w)≠none:=by
  intro V
  induction V with
  |zero=>intro _;exact bb.1
  |succ V ah=>
   intro bF
   rw[L5]
   rcases H _ (ah Zo)with a|a
   ·have:=c3 (V+1) bF
    rw[L5,a]at this
    exact absurd rfl this
   ·exact a.1
 have Cu:∀F b,mG t (F+b) w=mG t F (mG t b w):=by
  intro F
  induction F with
  |zero=>intro b;rw[ZT];rfl
  |succ F mF=>intro b;rw[show F+1+b=(F+b)+1 by omega,L5,mF,L5]
 have avt:∀F b,F<b->b<i->mG t F w≠mG t b w:=λF b u0 aj D=>by
  have M:mG t (i-b+F) w=[]:=by rw[Cu,D, <-Cu,show i-b+b=i by omega];exact aG
  exact c3 _ Zo M
 have aF:((List.range i).map λV=>mG t V w).Nodup:=by
  rw[List.nodup_iff_pairwise_ne,List.pairwise_map]
  refine List.Pairwise.imp_of_mem ?_ List.pairwise_lt_range
  intro F b aE aj u0
  exact avt F b u0 (List.mem_range.1 aj)
 have:=WO _ gN aF λx af=>by
  obtain⟨V,bF,rfl⟩:=ZE.1 af
  exact fZ _ (tQ V (List.mem_range.1 bF))
 simpa using this
end
open Go.bg
noncomputable section
variable (X : ca) (h : S ag) (j : Nat) (ai ax : bK) (a0 bf cf a3 a4 a5 jK kx jf : E)
def abv:Za0:=λa b c d e f=>BA d a c λc d g=>a2 a 9 [b] d g (λd g h=>hB d λ_ d=>GM h a g d λd g h=>yL d a h 0 λi=>bt (λb c d=>sc b a c λg=>iT g (λb c d=>DI λf=>ll b 2 a c 2 f λa b=>e b a d) λh i=>fy (λb c d g=>hK c 22 21 λh=>bt (λc d g=>bt (λa c d=>gR a 22 λe=>b (aa a 22 e) c d) λb=>GI c 22 20 6 λh i=>GG a d i g λd g i=>e7 (g+12) λj=>ar (dE a i 6 d) λk=>sc c a i λl=>ar (gr l) λl=>Bw l λl=>ar (bv .eql h l) λl=>ar (iK [.Z 0, .Z 0] (g+10)) λm=>mK a i (g+10) m.1 m.2 λg i=>a2 a 28 [k,l] i j (λf i j=>ar (fT a i 2 g f) λf=>yL g a f 0 λi=>bt b λb=>a1 i (nc a f g λb=>ll c 2 a f 2 b λa b=>e b a j) (b (zJ c 6 d 5 h 7 g 39 i) f j)) f) λa=>a1 h (a (aa c 23 h) d g) (i (aa c 23 h) d g)) (zI b 20 g 21 h 22 (.Z 0)) c d) λf=>a1 i (nc a h d λb=>uD a h 2 c b λa b=>e b a g) (f (zI (cR [b]) 2 c 4 d 15 i) h g)) f
def aos:c7 X 8 [a0]=abv X a0:=Zk
def aor:cV X 8 1=true:=Zk
def η:Za0:=λa b c d e f=>ar (db a c .eql 41 true b .cN) λg=>bt (λb c d=>kc b 0 1 a c λ_ _ b=>a2 a 33 [b] c d e f) λa=>a1 g (e .aY c d) (a (zH (cR [b]) 2 .aY 4 g) c d)
def alu:c7 X 11 [a0]=η X a0:=Zk
def alt:cV X 11 1=true:=Zk
def aap:Za0:=λa b c d e _=>hC a c d b λb c d=>ar (iK [.str [], .zF] d) λf=>gT a c d f.1 f.2 λc d f=>e4 5 b a d λ_ g=>e4 7 b a d λ_ b=>Rw g b λb=>uD a d 2 c b λa b=>e b a f
def amk:c7 X 15 [a0]=aap X a0:=Zk
def amj:cV X 15 1=true:=Zk
def aau:Za1:=λa b c d e f g=>hC a d e c λd e h=>bt (λa b c=>oS a λa=>f a b c) λ_=>fy (λb c d e=>bt b λb=>fs c 0 3 λh i=>kK i a d λi=>Nf a h i d e g λd _ e h=>fs c 5 6 λi j=>a2 a 36 [i,j] h e (λe h i=>bt (λc d e=>fs c 5 3 λh i=>nc a d i λi=>ar (hI 1 [.str [], .zF] [(0,2,i)] e) λi=>DH a d e i.1 i.2 2 h λd e h=>iU c 3 0 a e λ_ i=>GO a e i λi=>vg i (c 8) e h λe h j=>fc i (gi .not e) h j λe h j=>c9 (λe=>bt (λc d e=>fs c 0 3 λf h=>kK h a d λh=>a2 a 37 [f,h] d e (λd e f=>qx c λg=>ar (fT a e 2 g d) λa=>b c a f) g) λa=>a1 e (f d h j) (a (zH c 5 d 31 e) h j)) λa=>a1 i (a .zT) (a e)) λa=>a1 e (pB c λa=>f a h i) (a (zH c 8 d 19 e) h i)) g) (zJ (cR [b,c]) 3 d 4 .aY 5 .aY 6 (.func (.func 35) [] [d])) e h
def amo:c7 X 19 [a0,bf]=aau X a0 bf:=Zk
def amn:cV X 19 2=true:=Zk
def aav:Za3:=λa b c d e f g h i=>hC a f g d λf g j=>ar (db a g .eql 54 true c .cN) λk=>bt (λb c d=>fs b 3 1 λe f=>nL b 6 a c 2 λg=>jA a e [f,g] c d (λ_ c d=>kc b 1 8 a c λ_ _ e=>iT e (λ_ a b=>h (.tuple []) a b) λf g=>fy (λb c d e=>hK c 22 21 λf=>bt (λc d e=>bt (λa c d=>gR a 22 λe=>b (aa a 22 e) c d) λb=>GI c 22 20 1 λf g=>ar (aU a d g) λg=>nL c 6 a d 2 λh=>ar (iK [.str [], .zF] e) λj=>qw a d e j.1 j.2 2 h λd e h=>kc c 1 0 a h λ_ _ j=>bt (λc d e=>fs c 0 9 λf g=>nL c 10 a d 2 λh=>qx c λj=>a2 a 20 [f,g,h,j] d e (λ_ a d=>b c a d) i) λb=>oi j 6 b λb k=>a1 b (fs c 0 1 λl m=>gU m 2 a h λ_ m=>a2 a 37 [l,m] h e (λe h i=>ar (fT a h 2 d e) λa=>k (aa (zJ c 8 f 9 g 10 d 31 j) 32 b) a i) i) (oi j 24 k λi k=>a1 i (kc c 1 2 a h λ_ _ l=>ar (bv .eql f (.Z 1)) λm=>Rw l m λl=>ar (fT a h 2 d l) λa=>k (zH (zJ c 8 f 9 g 10 d 31 j) 32 b 40 i) a e) (k (zH (zJ c 8 f 9 g 10 d 31 j) 32 b 40 i) h e))) λa=>a1 f (a (aa c 23 f) d e) (g (aa c 23 f) d e)) (zI b 20 e 21 f 22 (.Z 0)) c d) i) λa=>a1 k (h (.tuple []) g j) (a (zH (cR [b,c,d,e]) 6 f 12 k) g j)
def amq:c7 X 20 [a0,bf,cf,a3]=aav X a0 bf cf a3:=Zk
def amp:cV X 20 4=true:=Zk
def aaA:Za1:=λa b c d e f g=>hC a d e b λd e h=>BA h a e λe h i=>td a h 6 d 10 i g λh i j=>ar (iK [.cN] j) λk=>qw a i j k.1 k.2 1 h λh i j=>ar (aU a j h) λk=>ar (dE a j 6 d) λl=>a2 a 47 [k,l,c] j i (λi j k=>GM k a j i λi j k=>yL i a k 0 λl=>bt (λb c d=>iU b 2 5 a c λ_ e=>iT e (λb c d=>DI λe=>ll b 4 a c 2 e λa b=>f b a d) λh i=>fy (λb c d e=>hK c 25 24 λh=>bt (λc d e=>vB (λa c d=>gR a 25 λe=>b (aa a 25 e) c d) c 23 25 4 λb h=>GH a d h e λd e h=>e7 (e+8) λi=>kt c 5 a h λj=>kK d a h λk=>yM 1 k λk=>ar (aU a h k) λk=>ar (iK [.str [], .zF] (e+6)) λl=>mK a h (e+6) l.1 l.2 λe h=>a2 a 37 [j,k] h i (λh i j=>ar (fT a i 2 e h) λh=>pB c λi=>kK d a h λk=>a2 a 49 [k, .func (.func 48) [] [i,e]] h j (λh j k=>bt (λc d e=>BA e a d λd e h=>kt c 5 a e λi=>iU c 8 3 a e λ_ j=>nL c 9 a e 2 λk=>pB c λl=>a2 a 20 [i,j,k, .func (.func 50) [] [d,l]] e h (λ_ e g=>yL d a e 0 λh=>bt b λb=>a1 h (nc a e d λb=>ll c 4 a e 2 b λa b=>f b a g) (b (zH c 11 d 51 h) e g)) g) λb=>a1 h (e4 2 d a j λ_ b=>JG 27 b λb=>ll c 4 a j 2 b λa b=>f b a k) (b (zJ c 8 d 9 e 10 (.func (.func 48) [] [i,e]) 39 h) j k)) g) g) λa=>a1 h (a (aa c 26 h) d e) (i (aa c 26 h) d e)) (zI b 23 e 24 h 25 (.Z 0)) c d) λg=>a1 l (nc a k i λb=>uD a k 2 e b λa b=>f b a j) (g (aa (zJ (cR [b,c]) 2 d 4 e 5 h 6 i) 20 l) k j)) g
def amy:c7 X 28 [a0,bf]=aaA X a0 bf:=Zk
def amx:cV X 28 2=true:=Zk
def aaG:Za1:=λa b c d e f _=>hC a d e b λb d e=>kK b a d λb=>kK c a d λc=>ar (db a d .eql 9 false b c) λa=>f a d e
def amI:c7 X 35 [a0,bf]=aaG X a0 bf:=Zk
def amH:cV X 35 2=true:=Zk
def aaH:Za1:=λa b c d e f g=>a2 a 59 [b,c] d e (λa b c=>DK a λa=>f a b c) g
def amK:c7 X 36 [a0,bf]=aaH X a0 bf:=Zk
def amJ:cV X 36 2=true:=Zk
def aaI:Za1:=λa b c d e f g=>ar (iK [.str [], .zF] e) λh=>gT a d e h.1 h.2 λd e h=>Nf a b c e h g λ_ b c e=>ar (hW 1 b) λb=>td a e 8 b 15 c g λb c e=>uD a c 2 d b λa b=>f b a e
def amM:c7 X 37 [a0,bf]=aaI X a0 bf:=Zk
def amL:cV X 37 2=true:=Zk
def aaT:Za2:=λa b c d e f g h=>hC a e f c λe f i=>BA i a f λf i j=>e4 2 e a i λ_ k=>a2 a 75 [k] i j (λi j k=>ar (gi .not d) λl=>bt (λb c d=>cH (b 7) λe=>iT e (λb c d=>iU b 4 2 a c λ_ e=>iU b 4 3 a c λ_ f=>iU b 4 4 a c λ_ i=>ar (hI 3 [.aY, .aY, .aY] [(0,1,e),(1,1,f),(2,1,i)] d) λe=>gT a c d e.1 e.2 λc d e=>a2 a 76 [c] d e (λc d e=>iT c (λb c d=>DI λe=>ll b 6 a c 2 e λa b=>g b a d) λf i=>fy (λb c d e=>hK c 44 43 λf=>bt (λc d e=>bt (λa c d=>gR a 44 λe=>b (aa a 44 e) c d) λb=>GF c 42 44 a d e λd e f=>fa c λi=>td a f 8 d 15 e h λe f j=>a2 a 19 [i,e] f j (λe f h=>ar (gr e) λi=>Bw i λi=>ar (gd 2 e i) λi=>nc a f i λi=>ar (fv [.str [], .zF] []) λj=>ar (db a f .neq 58 false i j) λi=>bt b λb=>a1 i (e4 6 d a f λ_ b=>JG 25 b λb=>ll c 6 a f 2 b λa b=>g b a h) (b (zI c 11 d 12 e 59 i) f h)) h) λa=>a1 f (a (aa c 45 f) d e) (i (aa c 45 f) d e)) (zI b 42 c 43 f 44 (.Z 0)) d e) h) λf h=>fy (λb c d e=>hK c 24 23 λf=>bt (λc d e=>bt (λa c d=>gR a 24 λe=>b (aa a 24 e) c d) λb=>GF c 22 24 a d e λd e f=>e4 5 d a f λ_ h=>ar (db a f .neq 9 true h (.str [])) λh=>bt b λb=>a1 h (e4 6 d a f λ_ b=>JG 27 b λb=>ll c 6 a f 2 b λa b=>g b a e) (b (zH c 9 d 30 h) f e)) λa=>a1 f (a (aa c 25 f) d e) (h (aa c 25 f) d e)) (zI b 22 e 23 f 24 (.Z 0)) c d) λg=>a1 l (e4 3 e a j λ_ h=>h6 (j1 a j k 8 i h) j k λa h j=>g (aa (zJ (cR [b,c,d]) 4 e 6 f 7 i 17 l) 7 a) h j) (g (zJ (cR [b,c,d]) 4 e 6 f 7 i 17 l) j k)) h
def am6:c7 X 47 [a0,bf,cf]=aaT X a0 bf cf:=Zk
def am5:cV X 47 3=true:=Zk
def aaU:Za2:=λa b c d e f g h=>e7 (f+6) λf=>ar (aU a e c) λc=>nc a e d λi=>a2 a 37 [c,b] e f (λb c e=>ar (db a c .neq 58 false b i) λb=>nc a c d λa=>gO a (some i) (g b c e)) h
def am8:c7 X 48 [a0,bf,cf]=aaU X a0 bf cf:=Zk
def am7:cV X 48 3=true:=Zk
def aaX:Za3:=λa b c d e f g h i=>hC a f g c λf g j=>DJ d a g 0 λk=>eJ k (aU a g e) g j λg j l=>kn k b j l λj l m=>eJ k (dE a l 2 f) l m λl m n=>lx k (λb=>a2 a 51 [g,j,l] m n b i) m n λg i j=>eJ k (gi .not g) i j λg i j=>c9 (λg=>bt (λ_ a b=>h (.tuple []) a b) λh=>a1 g (e7 (j+9) λj=>gU b 1 a i λk l=>ar (fT a i 2 d (.agg [.Z 0, .Z 0])) λi=>ar (hW 0 d) λm=>ar (aU a i k) λn=>gO n (some l) (sa a i m 27 λi=>ar (hW 1 d) λm=>ar (aU a i k) λk=>gO k (some l) (oR a i m l λa=>h (zH (cR [b,c,d,e]) 5 f 15 g) a j))) (h (zH (cR [b,c,d,e]) 5 f 15 g) i j)) λa=>a1 k (a g) (a .zF)
def anc:c7 X 50 [a0,bf,cf,a3]=aaX X a0 bf cf a3:=Zk
def anb:cV X 50 4=true:=Zk
def aaY:Za2:=λa b c d e f g h=>hC a e f d λe f i=>gU c 0 a f λ_ j=>bt (λ_ a b=>g .zT a b) λk=>ar (bv .eql j (.Z 2)) λl=>bt (λb c d=>cH (b 11) λe=>bt k λf=>a1 e (e7 (d+9) λd=>fs b 0 1 λe f=>gU f 2 a c λ_ f=>nL b 5 a c 2 λi=>a2 a 37 [e,f] c d (λc d e=>ar (db a d .eql 58 false c i) λc=>nL b 5 a d 2 λa=>gO a (some i) (g c d e)) h) (cH (b 10) λe=>oi e 6 f λe f=>a1 e (yN d 12 b 1 2 a c 3 λd e f=>Rw e f λe=>nL b 5 a c 2 λb=>ar (db a c .eql 58 false e b) λa=>g a c d) (f (aa b 22 e) c d))) λa=>a1 l (a (zJ (cR [b,c,d]) 5 e 6 .zF 10 j 11 l) f i) (ar (bv .eql j (.Z 24)) λg=>a (aa (zJ (cR [b,c,d]) 5 e 6 .zF 10 j 11 l) 11 g) f i)
def anf:c7 X 51 [a0,bf,cf]=aaY X a0 bf cf:=Zk
def ane:cV X 51 3=true:=Zk
def aa6:Za1:=λa b c d e f g=>iT b (λ_ a b=>f (.Z (-1)) a b) λh i=>fy (λb c d e=>hK c 8 7 λh=>bt (λc d e=>bt (λa c d=>gR a 8 λe=>b (aa a 8 e) c d) λb=>GK c 2 λh i j=>nc a d j λj=>jA a i [j] d e (λa d e=>bt b λb=>a1 a (f h d e) (b (zH c 5 h 16 a) d e)) g) λa=>a1 h (a (aa c 9 h) d e) (i (aa c 9 h) d e)) (zI (cR [b,c]) 4 (.Z 0) 7 h 8 (.Z 0)) d e
def anv:c7 X 59 [a0,bf]=aa6 X a0 bf:=Zk
def anu:cV X 59 2=true:=Zk
def abp:Za0:=λa b c d e _=>ar (db a c .eql 37 true b .aY) λf=>bt (λb c d=>ar (hI 0 [] [] d) λf=>gT a c d f.1 f.2 λc d f=>fa b λb=>h6 (j1 a d f 8 c b) d f λa b c=>e a b c) λa=>a1 f (e .aY c d) (a (zH (cR [b]) 2 .aY 4 f) c d)
def an0:c7 X 75 [a0]=abp X a0:=Zk
def anZ:cV X 75 1=true:=Zk
end
noncomputable section
section
variable{X:ca}{h R aQ aP:S ag}{j an aV aX:Nat}{P:Nat->Prop}
def h9(c:fu):E:= .agg [.str c.1, .bool c.2]
def ad4(X:ca):List Field:=match (o X).P.underlying 58 with|some (.struct jN)=>jN.toList|_=>[]
def arI(eq:Nat->E->E->Option Bool)(F b fB dD:E):yV X eq (ad4 X) [F,b] [fB,dD]=(match eq 9 F fB with|some true=>(match eq 4 b dD with|some true=>some true|some false=>some false|none=>none)|some false=>some false|none=>none):=Zk
def arD(ck nb:List E):jg X h 50 58 (.agg ck) (.agg nb)=yV X (jg X h 49) (ad4 X) ck nb:=Zk
def ar0(F b:aR):jg X h 49 9 (.str F) (.str b)=some (m4 F b):=Zk
def adv(F b:fu):jg X h 50 58 (h9 F) (h9 b)=some (decide (F=b)):=by
 obtain⟨bf,cf⟩:=F
 obtain⟨bQ,cl⟩:=b
 simp only[h9]
 rw[arD,arI,ar0,S4,Sl,Ba]
 by_cases H:bf=bQ<;>by_cases M:cf=cl<;>simp[H,M]
def S5(F b:fu):db X h .eql 58 false (h9 F) (h9 b)=some (.bool (decide (F=b))):=by
 have a:db X h .eql 58 false (.agg [.str F.1, .bool F.2]) (.agg [.str b.1, .bool b.2])=(match jg X h 50 58 (.agg [.str F.1, .bool F.2]) (.agg [.str b.1, .bool b.2])with|some b=>nR b|none=>none):=Zk
 have D:=adv (X:=X) (h:=h) F b
 simp only[h9]at D ⊢
 rw[a,D]
 cases decide (F=b)<;>rfl
def ah8(F b:fu):db X h .neq 58 false (h9 F) (h9 b)=some (.bool (!decide (F=b))):=by
 have a:db X h .neq 58 false (.agg [.str F.1, .bool F.2]) (.agg [.str b.1, .bool b.2])=(match jg X h 50 58 (.agg [.str F.1, .bool F.2]) (.agg [.str b.1, .bool b.2])with|some b=>nR (!b)|none=>none):=Zk
 have D:=adv (X:=X) (h:=h) F b
 simp only[h9]at D ⊢
 rw[a,D]
 cases decide (F=b)<;>rfl
def acS(aw:dk X)(aF:(o X).a8<=j)(d:eb):
 a2 X 15 [.agg (dK d)] h j (λac R an=>ac=h9 (kN d)/\br X h j R an) zL:=by
 refine zG aw (amj X) ?_
 rw[amk]
 unfold aap
 have jl:dK d=[.str d.name, .Z d.at_, .bool d.ty.b, .bool d.ty.s, .Z d.ty.w, .str d.on, .Z d.eX, .bool d.no]:=rfl
 rw[jl]
 refine cL ⟨?_⟩
 exact⟨rfl,dH⟩
def I5(aw:dk X){cr:E}{t:aR->Option c0}(aF:(o X).a8<=j)(ba:kd X h P cr t)(bs:∀e,P e->e<j)(w:aR):
 a2 X 37 [cr, .str w] h j (λac R an=>ac=h9 (e8 t w)/\br X h j R an) zL:=by
 refine zG aw (amL X) ?_
 rw[amM]
 unfold aaI
 refine so ?_
 generalize dl:bm X h j _=aQ
 have bP:W X aQ j=zD [.str [], .zF] 2:=by rw[<-dl,bh aF];rfl
 have bL:br X h j aQ (j+1):=by rw[<-dl];exact dH
 clear dl
 refine(HE (j:=j+1) aw Zo (ba.ab (λe z=>bL.ab e (bs e z)) (λ_ a=>a)) (λe z=>zz (bs e z)) w).Zm ?_
 rintro ac aP aX ⟨rfl,bI⟩
 have fN:=bI.le
 rw[<-bI.ab _ Zo]at bP
 have hb:=bL.trans bI
 have agb:e8 t w=kN ((t w).getD px).d:=rfl
 rw[agb]
 generalize (t w).getD px=v at*
 have p6:oO v=[.Z v.kind, .str v.d.name, .Z v.d.at_, .bool v.d.ty.b, .bool v.d.ty.s, .Z v.d.ty.w, .str v.d.on, .Z v.d.eX, .bool v.d.no, .Z v.eq, .Z v.left]:=rfl
 rw[p6]
 refine cL ⟨?_⟩
 refine e0 (λa6=>W X a6 j=zD [.str [], .zF] 2/\br X h j a6 (aX+1)) ⟨by simp(disch:=omega) only[aI];exact bP,⟨Zo,λe z=>by simp(disch:=omega) only[aI];exact hb.ab e z⟩⟩ ?_
 rintro a6 ⟨cI,cp⟩
 refine(acS (j:=aX+1) aw Zo v.d).Zm ?_
 rintro ac bH cC ⟨rfl,cW⟩
 have iu:=cW.le
 rw[<-cW.ab _ Zo]at cI
 generalize aA:kN v.d=c
 unfold h9
 refine er @cI @nI @nJ ⟨?_⟩
 exact⟨rfl,⟨Zo,λe z=>by rw[aI Zo Zo,cW.ab _ Zo];exact cp.ab e z⟩⟩
end
section
variable{X:ca}{h R aQ aP:S ag}{j an aV aX:Nat}{P a7:Nat->Prop}
def SC(c:fu):E.same 30 (h9 c) (h9 c)=true:=by simp[h9,E.same,oI,Ba]
def asq(aw:dk X){cr:E}{t:aR->Option c0}{D:bp}{v:E}(aF:(o X).a8<=j)(ba:kd X h P cr t)(bs:∀e,P e->e<j)(bA:cn X h a7 D v)(eP:∀e,a7 e->e<j)(c:fu):
 a2 X 51 [cr,v,h9 c] h j (λac R an=>ac= .bool (Hy t D c)/\br X h j R an) zL:=by
 refine zG aw (ane X) ?_
 rw[anf]
 unfold aaY
 obtain⟨b,aO,ce,bk,rfl,aj,a0, -,cf,a3, -⟩:=bA.open
 have f5:=eP b aj
 refine tr ?_
 generalize dl:bm X h j _=aQ
 have bP:W X aQ j=zD [.str c.1, .bool c.2] 2:=by rw[<-dl,bh aF];rfl
 have bL:br X h j aQ (j+1):=by rw[<-dl];exact dH
 clear dl
 rw[<-bL.e6 _ _ f5]at a0 cf a3
 have cZ:dE X aQ 2 (.ptr j 0)=some (h9 c):=by rw[jp,bG bP,bG bP];rfl
 have E8:=ba.ab (R:=aQ) (a7:=P) (λe z=>bL.ab e (bs e z)) (λ_ a=>a)
 unfold Hy
 by_cases cm:D.kind=2
 ·have cM:decide (D.kind=2)=true:=by simp[cm]
  rw[Zp (.inl cm)]
  refine gk @a0 @cM @cf @cZ ⟨?_⟩
  refine(I5 (j:=j+1+9) aw Zo E8 (λe z=>zz (bs e z)) D.name).Zm ?_
  rintro ac aP aX ⟨rfl,bI⟩
  have fN:=bI.le
  have eW:dE X aP 2 (.ptr j 0)=some (h9 c):=by rw[<-cZ,jp,jp,bI.e6 _ _ Zo,bI.e6 _ _ Zo]
  refine cS @S5 @eW ⟨?_⟩
  refine gP (SC c) ?_
  exact⟨rfl,bL.trans (bI.kZ Zo)⟩
 ·have cM:decide (D.kind=2)=false:=by simp[cm]
  by_cases mH:D.kind=24
  ·have xt:decide (D.kind=24)=true:=by simp[mH]
   rw[Zp (.inr mH)]
   refine f3 @a0 @cM @xt @cf @cZ ⟨?_⟩
   refine(I5 (j:=j+1+9) aw Zo E8 (λe z=>zz (bs e z)) D.name).Zm ?_
   rintro ac aP aX ⟨rfl,bI⟩
   have fN:=bI.le
   have eW:dE X aP 2 (.ptr j 0)=some (h9 c):=by rw[<-cZ,jp,jp,bI.e6 _ _ Zo,bI.e6 _ _ Zo]
   refine cS @S5 @eW ⟨?_⟩
   refine gP (SC c) ?_
   exact⟨rfl,bL.trans (bI.kZ Zo)⟩
  ·have xt:decide (D.kind=24)=false:=by simp[mH]
   rw[Zg (λa=>a.elim cm mH)]
   by_cases dc:D.kind=6
   ·have ht:decide (D.kind=6)=true:=by simp[dc]
    have bM:db X aQ .eql 58 false (.agg [.str D.name, .bool D.no]) (h9 c)=some (.bool (decide ((D.name,D.no)=c))):=S5 (D.name,D.no) c
    rw[Zp dc]
    refine eh @a0 @cM @xt @ht @cf @a3 (Za @cZ @bM) ⟨?_⟩
    exact⟨rfl,bL.more Zo⟩
   ·have ht:decide (D.kind=6)=false:=by simp[dc]
    rw[Zg dc]
    refine gk @a0 @cM @xt @ht ⟨?_⟩
    exact⟨rfl,bL⟩
def aCP(aw:dk X){bT:Nat}{w:aR}(aF:(o X).a8<=j)(iO:bT<j)(aA:aU X h (.ptr bT 0)=some (.str w))(x:fu):
 a2 X 35 [h9 x, .ptr bT 0] h j (λac R an=>ac= .bool (decide (x.1=w))/\br X h j R an) zL:=by
 refine zG aw (amH X) ?_
 rw[amI]
 unfold aaG
 refine tr ?_
 generalize dl:bm X h j _=aQ
 have bP:W X aQ j=zD [.str x.1, .bool x.2] 2:=by rw[<-dl,bh aF];rfl
 have bL:br X h j aQ (j+1):=by rw[<-dl];exact dH
 clear dl
 rw[<-bL.e6 _ _ iO]at aA
 refine cS (bG bP) @aA ⟨?_⟩
 exact⟨rfl,bL⟩
def tw(c:fu):List E:=[.str c.1, .bool c.2]
def aqB(aw:dk X){bT b:Nat}{w:aR}{aO:E}{k:List fu}(aF:(o X).a8<=j)(iO:bT<j)(aA:aU X h (.ptr bT 0)=some (.str w))(az:dV X h P b aO 2 (k.map tw))(bs:∀e,P e->e<j):
 a2 X 59 [aO, .func (.func 35) [] [.ptr bT 0]] h j (λac R an=>(∃r:Int,ac= .Z r/\(0<=r↔(k.map Prod.fst).contains w=true))/\br X h j R an) zL:=by
 refine zG aw (anu X) ?_
 rw[anv]
 unfold aa6
 have eM:=az.len
 have h1:=az.many
 rw[Zi]at eM h1
 refine cj @eM ⟨?_⟩
 refine fE (λm I R aS=>∃(V:Nat),I.g 0=some aO/\I.g 1=some (.func (.func 35) [] [.ptr bT 0])/\I.g 7=some (.Z (k.length:Int))/\I.g 8=some (.Z (V:Int))/\V+m=k.length/\br X h j R aS/\∀x∈k.take V,x.1≠w)
  k.length ⟨0,bo,bo,bo,fY,Zo,br.refl _ _,λx af=>by simp at af⟩ ?_
 rintro m I aP aX ⟨V,t0,t1,e9,gQ,bF,bI,jQ⟩
 have fN:=bI.le
 cases m with
 |zero=>
  have d:=zA V k.length
  rw[ZA Zo]at jQ
  refine er @gQ @e9 @d ⟨?_⟩
  refine⟨⟨-1,rfl, ?_⟩,bI⟩
  simp only[List.contains_eq_mem,ZE,Zh]
  exact⟨λa=>absurd a Zd,λ⟨x,af,D⟩=>absurd D (jQ x af)⟩
 |succ m=>
  have d:=zB V k.length
  have bC:=zE V
  obtain⟨x,af⟩:=zC k V
  have axz:(k.map tw)[V]? =some (tw x):=by rw[Zy,af];rfl
  have dA:=az.fx V (by rw[Zi];omega)
  have iB:dE X aP 2 (.ptr b (V*2))=some (h9 x):=((az.ab (λe z=>bI.ab e (bs e z))).row Zd axz)
  refine eh @gQ @e9 @t1 @t0 @d @dA @iB ⟨?_⟩
  refine(aCP (j:=aX) aw Zo Zo (by rw[bI.e6 _ _ iO];exact aA) x).Zm ?_
  rintro ac a6 bz ⟨rfl,cp⟩
  have lw:k.take (V+1)=k.take V++[x]:=by rw[ZY,af];rfl
  refine uU ⟨?_⟩
  refine g3 ?_
  refine BZ (λbb=> ?_) (λbb=> ?_)
  ·refine cL ⟨?_⟩
   refine⟨⟨V,rfl, ?_⟩,bI.trans cp⟩
   simp only[List.contains_eq_mem,ZE,Zh]
   exact⟨λ_=>⟨x,Zl af,bb⟩,λ_=>Zo⟩
  ·refine cS @gQ @bC ⟨?_⟩
   exact⟨m,Zo,V+1,aW t0,aW t1,aW e9,bo,Zo,bI.trans cp,λe z=>by
    rw[lw]at z
    rcases Zz.1 z with a|a
    ·exact jQ e a
    ·simp at a;rw[a];exact bb⟩
def aqO(aw:dk X){bT b:Nat}{w:aR}{aO:E}{k:List fu}(aF:(o X).a8<=j)(iO:bT<j)(aA:aU X h (.ptr bT 0)=some (.str w))(az:dV X h P b aO 2 (k.map tw))(bs:∀e,P e->e<j):
 a2 X 36 [aO, .func (.func 35) [] [.ptr bT 0]] h j (λac R an=>ac= .bool ((k.map Prod.fst).contains w)/\br X h j R an) zL:=by
 refine zG aw (amJ X) ?_
 rw[amK]
 unfold aaH
 refine(aqB aw aF iO aA az bs).Zm ?_
 rintro ac aQ aV ⟨⟨r,rfl,Y⟩,bY⟩
 refine cL ⟨?_⟩
 refine⟨?_,bY⟩
 congr 1
 by_cases a:(k.map Prod.fst).contains w=true
 ·rw[a];simp[Y.2 a]
 ·have:¬0<=r:=λD=>a (Y.1 D)
  simp only[Bool.not_eq_true]at a
  rw[a];simp;omega
end
section
variable{X:ca}{h R aQ aP:S ag}{j an aV aX:Nat}{P a7:Nat->Prop}
structure DL(X:ca)(fi:S ag)(j:Nat)(fO:List fu)(c:fu)(aO:E)(h:S ag)(n:Nat):Prop where
 lt:j<n
 box:∃cc,W X h j=some (.cells cc 2 .own)/\cc.get 0=some (.str c.1)/\cc.get 1=some (.bool c.2)
 aO:∃cv,ga X h aO 2 (fO.map tw).flatten cv/\∀e∈cv,j<e/\e<n
 low:∀e,e<j->W X h e=W X fi e
def DL.ab{fi:S ag}{fO:List fu}{c:fu}{aO:E}(a:DL X fi j fO c aO aQ aV)(gl:aV<=aX)(u:∀e,e<aV->W X aP e=W X aQ e):DL X fi j fO c aO aP aX:=by
 have az:=a.lt
 obtain⟨cc,g,jO,bP⟩:=a.box
 obtain⟨cv,i2,jF⟩:=a.aO
 exact⟨Zo,⟨cc,by rw[u _ az];exact g,jO,bP⟩,⟨cv,i2.ab λe z=>u e (jF e z).2,λe z=>zz (jF e z)⟩,λe z=>by rw[u e Zo];exact a.low e z⟩
def ac3:∀(k:List fu),∀r∈k.map tw,r.length=2:=by
 intro k r Y
 obtain⟨c,_,rfl⟩:=ZE.1 Y
 rfl
def DL.rd{fi:S ag}{fO:List fu}{c:fu}{aO:E}{n:Nat}(a:DL X fi j fO c aO h n)(bn:fO.length<=300000):∃b,dV X h (dU j n) b aO 2 (fO.map tw):=by
 obtain⟨cv,i2,jF⟩:=a.aO
 exact i2.uq Zd (ac3 fO) (by rw[Zi];exact bn) (λe z=>by have:=jF e z;exact⟨Zo,Zo⟩)
def aqu(aw:dk X){cr:E}{t:aR->Option c0}{gN:List aR}(aF:(o X).a8<=j)(ba:kd X h P cr t)(bs:∀e,P e->e<j)(fZ:∀w,t w≠none->w∈gN)(bn:gN.length<=200000)(c:fu):
 a2 X 19 [cr,h9 c] h j (λac R an=>(∃b,dV X R (dU j an) b ac 2 ((pM t (gN.length+1) [] c).map tw))/\br X h j R an) zL:=by
 refine zG aw (amn X) ?_
 rw[amo]
 unfold aau
 refine tr ?_
 generalize dl:bm X h j _=aQ
 have bP:W X aQ j=zD [.str c.1, .bool c.2] 2:=by rw[<-dl,bh aF];rfl
 have bL:br X h j aQ (j+1):=by rw[<-dl];exact dH
 clear dl
 refine cL ⟨?_⟩
 refine fE (λm I R aS=>∃fO gW aO,I.g 0=some cr/\I.g 3=some (.ptr j 0)/\I.g 5=some aO/\I.g 6=some (.func (.func 35) [] [.ptr j 0])/\DL X h j fO gW aO R aS/\pM t m fO gW=pM t (gN.length+1) [] c/\(fO.map Prod.fst).Nodup/\(∀w∈fO.map Prod.fst,w∈gN)/\m+fO.length=gN.length+1)
  (gN.length+1) ⟨[],c, .aY,bo,bo,bo,bo,⟨Zo,⟨_,bP,rfl,rfl⟩,⟨[], .inl (.inl ⟨rfl,rfl,rfl⟩),λe z=>by simp at z⟩,bL.ab⟩,rfl,Zs,Zs,Zs⟩ ?_
 rintro m I a6 bz ⟨fO,gW,aO,t0,t3,t5,eY,gf,iY,AM,sH,avY⟩
 have c3:=gf.lt
 have eM:fO.length<=gN.length:=by
  have:=WO (fO.map Prod.fst) gN AM sH
  simpa using this
 obtain⟨m,rfl⟩:∃u,m=u+1:=⟨m-1,Zo⟩
 obtain⟨cc,nU,dx,c5⟩:=gf.box
 rw[pM]at iY
 have lw:∀{R},(∀e,e<j->W X R e=W X h e)->kd X R P cr t:=λu=>ba.ab (λe z=>u e (bs e z)) (λ_ a=>a)
 refine gk @t0 @t3 (bG nU) @dx ⟨?_⟩
 refine(HE (j:=bz) aw Zo (lw gf.low) (λe z=>zz (bs e z)) gW.1).Zm ?_
 rintro ac bH cC ⟨rfl,cW⟩
 have iu:=cW.le
 have pb:=gf.ab iu cW.ab
 clear gf nU dx c5 cc
 have agb:e8 t gW.1=kN ((t gW.1).getD px).d:=rfl
 generalize (t gW.1).getD px=v at*
 have p6:oO v=[.Z v.kind, .str v.d.name, .Z v.d.at_, .bool v.d.ty.b, .bool v.d.ty.s, .Z v.d.ty.w, .str v.d.on, .Z v.d.eX, .bool v.d.no, .Z v.eq, .Z v.left]:=rfl
 rw[p6]
 refine cS @t5 @eY ⟨?_⟩
 refine e0 (λbN=>∀e,e<cC->W X bN e=W X bH e) (λe z=>zF) ?_
 intro bN dN
 have hN:=pb.ab (aX:=cC+1) Zo dN
 obtain⟨cc,nU,dx,c5⟩:=hN.box
 obtain⟨b,cG⟩:=hN.rd Zo
 refine(aqO (j:=cC+1) (w:=gW.1) aw Zo Zo (by rw[bG nU];exact dx) cG (λe z=>z.2)).Zm ?_
 rintro ac b6 dr ⟨rfl,ec⟩
 have oB:=ec.le
 have ig:=hN.ab oB ec.ab
 clear pb hN nU dx c5 cc cG
 by_cases aA:(fO.map Prod.fst).contains gW.1=true
 ·rw[Zp aA]at iY
  rw[aA]
  refine cj @t5 ⟨?_⟩
  rw[<-iY]
  refine⟨ig.rd Zo,⟨Zo,ig.low⟩⟩
 ·rw[Zg aA]at iY
  simp only[Bool.not_eq_true]at aA
  rw[aA]
  have Ui:gW.1∉fO.map Prod.fst:=by simpa using aA
  obtain⟨cc,nU,dx,c5⟩:=ig.box
  have cZ:dE X b6 2 (.ptr j 0)=some (.agg [.str gW.1, .bool gW.2]):=by rw[jp,bG nU,bG nU,dx,c5];rfl
  refine er @t5 @t3 @cZ ⟨?_⟩
  generalize k6:bm X b6 dr _=cy
  have Hu:W X cy dr=zD (tw gW) 2:=by rw[<-k6,bh Zo];rfl
  have f0:∀e,e<dr->W X cy e=W X b6 e:=λe z=>by rw[<-k6,aI Zo Zo]
  clear k6
  obtain⟨cv,MP,Bq⟩:=ig.aO
  have mC:(fO.map tw).flatten.length=fO.length*2:=by rw[tE (ac3 fO),Zi]
  obtain⟨e1,dt,gK,iN,Iw,Cv,sJ⟩:=(MP.ab (R:=cy) (λe z=>f0 e (Bq e z).2)).append (j:=dr+1) Zd (s2 (u:=1) Hu (nu _) rfl 1) rfl Zd rfl (by rw[mC];simp[tw];omega) Zo (λe z=>zz (Bq e z))
  refine kH iN ?_
  have CB:j∉cv:=λa=>zz (Bq _ a)
  have jk:DL X h j (fO++[gW]) gW e1 dt (dr+1+1):=by
   refine⟨Zo,⟨cc,by rw[sJ _ Zo CB,f0 _ Zo];exact nU,dx,c5⟩,⟨gK, ?_, ?_⟩,λe z=>by rw[sJ e Zo (λa=>zz (Bq _ a)),f0 e Zo];exact ig.low e z⟩
   ·rw[ZW,YN]
    have:([gW].map tw).flatten=tw gW:=by simp
    rw[this]
    exact .inl Iw
   ·intro e z
    rcases Cv e z with rfl|a
    ·omega
    ·have:=Bq _ a;omega
  clear iN Iw Cv sJ Hu f0 MP Bq ig nU dx c5 cc cZ
  obtain⟨cc,nU,dx,c5⟩:=jk.box
  by_cases aK:gW.1=[]
  ·rw[Zp (.inl aK)]at iY
   have hM:decide (gW.1=[])=true:=by simp[aK]
   refine gk @t3 (bG nU) @dx @hM ⟨?_⟩
   rw[<-iY]
   exact⟨jk.rd Zx,⟨Zo,jk.low⟩⟩
  ·have hM:decide (gW.1=[])=false:=by simp[aK]
   by_cases aC:t gW.1=none
   ·rw[Zp (.inr aC)]at iY
    have ds:(t gW.1).isSome=false:=by rw[aC];rfl
    refine f3 @t3 (bG nU) @dx @hM @ds ⟨?_⟩
    rw[<-iY]
    exact⟨jk.rd Zx,⟨Zo,jk.low⟩⟩
   ·rw[Zg (λa=>a.elim aK aC)]at iY
    have ds:(t gW.1).isSome=true:=by cases a:t gW.1 with
     |none=>exact absurd a aC
     |some _=>rfl
    refine ic @t3 (bG nU) @dx @hM @ds @t0 ⟨?_⟩
    refine(I5 (j:=dr+1+1) aw Zo (lw jk.low) (λe z=>zz (bs e z)) gW.1).Zm ?_
    rintro ac d6 hG ⟨rfl,ie⟩
    have qT:=ie.le
    have T2:=jk.ab qT ie.ab
    clear jk nU dx c5 cc
    obtain⟨cc,nk, -, -⟩:=T2.box
    obtain⟨ap3,aCI,ajg⟩:=T2.aO
    unfold h9
    refine cS @t3 @nk ⟨?_⟩
    refine⟨m,Zo,fO++[gW],e8 t gW.1,e1,aW t0,aW t3,bo,aW eY,⟨Zo,⟨_,bh Zo,by exact nI _ _ _,by exact nJ _ _ _⟩,⟨ap3,aCI.ab (λe z=>aI Zo (zz (ajg e z))),ajg⟩,λe z=>by rw[aI Zo Zo];exact T2.low e z⟩,iY, ?_, ?_,Zx⟩
    ·rw[ZW,List.nodup_append]
     refine⟨AM,Zs,λF aE b aj D=> ?_⟩
     simp at aj
     rw[D,aj]at aE
     exact Ui aE
    ·intro w bb
     rw[ZW]at bb
     rcases Zz.1 bb with a|a
     ·exact sH w a
     ·simp at a;rw[a];exact fZ _ aC
end
def rk(g:Go.aL.Node)(iE:Bool):List eb:=if iE then g.d8 else g.d8++g.out
def lk(g:Go.aL.Node):List eb:=g.d8++(g.out++g.loc)
def C3(g:Go.aL.Node):Nat:=(iQ g).length+1
def xo(t:aR->Option c0)(n:Nat)(d:eb):Bool:=decide ((pM t n [] (kN d)).getLast?≠some kM)
def mS(t:aR->Option c0)(n:Nat)(g:Go.aL.Node)(iE:Bool):Int×Int:=match (rk g iE).find? λd=>decide (d.on≠[])with
 |some d=>(27,d.eX)
 |none=>match (lk g).find? (xo t n)with
  |some d=>(25,d.eX)
  |none=>(0,0)
def adV{α:Type}{p:α->Bool}{k:List α}{V:Nat}(a:k.find? p=(k.drop V).find? p)(bF:k.length<=V):k.find? p=none:=by
 rw[a,ZC bF];rfl
def adU{α:Type}{p:α->Bool}{k:List α}{V:Nat}{x:α}(a:k.find? p=(k.drop V).find? p)(af:k[V]? =some x)(ay:p x=false):k.find? p=(k.drop (V+1)).find? p:=by
 obtain⟨H,M⟩:=Zb.1 af
 rw[a,Zr H,M,List.find?_cons_of_neg (by simp[ay])]
def adW{α:Type}{p:α->Bool}{k:List α}{V:Nat}{x:α}(a:k.find? p=(k.drop V).find? p)(af:k[V]? =some x)(ay:p x=true):k.find? p=some x:=by
 obtain⟨H,M⟩:=Zb.1 af
 rw[a,Zr H,M,List.find?_cons_of_pos ay]
section
variable{X:ca}{h R aQ aP:S ag}{j an aV aX:Nat}{P a7:Nat->Prop}
def aAa:db X h .eql 37 true .aY .aY=some .zT:=Zk
def aC6(b T k c:Nat):db X h .eql 37 true (.slice b T k c) .aY=some .zF:=Zk
def aDc(b T k c:Nat):db X h .eql 37 true (.fl b T k c) .aY=some .zF:=Zk
def aAb{aO:E}{n:Nat}(a:gr aO=some (.Z (n:Int))):(aO= .aY/\n=0)\/db X h .eql 37 true aO .aY=some .zF:=by
 cases aO with
 |aY=>rw[yf]at a;injection a with a;injection a with _ a;exact .inl ⟨rfl,Zo⟩
 |slice b T k c=>exact .inr (aC6 b T k c)
 |fl b T k c=>exact .inr (aDc b T k c)
 |_=>simp[gr]at a
def air(k:List eb):iF (k.map dK).flatten=true:=by
 induction k with
 |nil=>rfl
 |cons t k ah=>exact ah
def aqE(aw:dk X){k:List eb}{b:Nat}{aO:E}(aF:(o X).a8<=j)(cG:dV X h P b aO 8 (k.map dK))(bn:k.length<=100000)(bs:∀e,P e->e<j):
 a2 X 75 [aO] h j (λac R an=>(∃cv,ga X R ac 8 (k.map dK).flatten cv/\∀e∈cv,dU j an e)/\br X h j R an) zL:=by
 refine zG aw (anZ X) ?_
 rw[an0]
 unfold abp
 have d2:=cG.len
 rw[Zi]at d2
 rcases aAb (X:=X) (h:=h) d2 with ⟨rfl,aK⟩|dn
 ·have:k=[]:=ZN aK
  subst this
  refine cj @aAa ⟨?_⟩
  exact⟨⟨[], .inl (.inl ⟨rfl,rfl,rfl⟩),λe z=>by simp at z⟩,br.refl _ _⟩
 ·refine cj @dn ⟨?_⟩
  generalize dl:Go.bg.bm X h j _=aQ
  have bP:W X aQ j=zD [] (0*8):=by rw[<-dl,bh aF]
  have bL:br X h j aQ (j+1):=by rw[<-dl];exact dH
  clear dl
  have aC:=QJ (cG.ab (λe z=>bL.ab e (bs e z))) Zd
  rw[Zi]at aC
  by_cases aK:k=[]
  ·subst aK
   have D:j1 X aQ (j+1) 8 (.slice j 0 0 0) aO=some (.val (.slice j 0 0 0)):=by simp only[j1,aC];rfl
   refine W1 D ?_
   exact⟨⟨[j], .inr ⟨j,0,_, .own,rfl,rfl,rfl,bP,nu [],rfl,Zo⟩,λe z=>by simp at z;subst z;exact⟨Zo,Zo⟩⟩,bL⟩
  ·have aH:0<k.length:=ZU.2 aK
   have mC:=N1 k
   obtain⟨e1,aP,cv,aE,hP,eR,hD⟩:=ga.append (j:=j+1) (k:=[]) (cv:=[j]) (m:=(k.map dK).flatten) (.inr ⟨j,0,_, .own,rfl,rfl,rfl,bP,nu [],rfl,Zo⟩) Zd aC mC aH (air k) (by rw[mC];simp;omega) Zo Zs
   refine kH aE ?_
   exact⟨⟨cv, .inl hP,λe z=>by rcases(show e=j+1\/e=j by simpa using eR e z)with rfl|rfl<;>exact⟨Zo,Zo⟩⟩,⟨Zo,λe z=>by rw[hD e Zo Zx];exact bL.ab e z⟩⟩
def ayO{t:aR->Option c0}:∀(n:Nat) (k:List fu) (c:fu),k≠[]\/0<n->pM t n k c≠[]:=by
 intro n
 induction n with
 |zero=>intro k c a;exact a.resolve_right Zo
 |succ n ah=>
  intro k c a
  rw[pM]
  split
  ·rename_i aA
   intro D;subst D;simp at aA
  ·split
   ·simp
   ·exact ah _ _ (.inl Zs)
def aqt{t:aR->Option c0}:∀(n:Nat) (k:List fu) (c:fu),(pM t n k c).length<=k.length+n:=by
 intro n
 induction n with
 |zero=>intro k c;rw[pM];exact Zj _
 |succ n ah=>
  intro k c
  rw[pM]
  split
  ·omega
  ·split
   ·rw[ZL,List.length_singleton];omega
   ·have:=ah (k++[c]) (e8 t c.1)
    simp at this
    omega
set_option maxRecDepth 100000 in
def aq0(aw:dk X){cr:E}{t:aR->Option c0}{gN:List aR}{g:Go.aL.Node}{row:List E}(aF:(o X).a8<=j)(ba:kd X h P cr t)(bV:pG X h P g row)(bs:∀e,P e->e<j)(fZ:∀w,t w≠none->w∈gN)(bn:gN.length<=200000)(bi:g.out≠[])(bD:(lk g).length<=100000)(iE:Bool):
 a2 X 47 [cr, .agg row, .bool iE] h j (λac R an=>ac= .agg [.Z (mS t (gN.length+1) g iE).1, .Z (mS t (gN.length+1) g iE).2]/\br X h j R an) zL:=by
 refine zG aw (am5 X) ?_
 rw[am6]
 unfold aaT
 obtain⟨cQ,c4,aO,eo,bQ,cl,cU,fe,be,rfl,l9,kS,np,kk,fq⟩:=bV
 have qW:g.d8.length+g.out.length+g.loc.length<=100000:=by simpa[lk,ZR]using bD
 have p1:=ZU.2 bi
 refine cL ⟨?_⟩
 refine e0 (λaQ=>W X aQ j=zD [.str g.name, .Z g.at_,cQ,c4,aO,eo] 6/\W X aQ (j+1)=zD [.Z 0, .Z 0] 2/\br X h j aQ (j+1+1))
  ⟨by exact zQ,by rw[bh Zo];rfl,dH⟩ ?_
 rintro aQ ⟨bP,b2,bL⟩
 have md:∀e,P e->W X aQ e=W X h e:=λe z=>bL.ab e (bs e z)
 refine(aqE (j:=j+1+1) aw Zo (l9.ab md) Zo (λe z=>zz (bs e z))).Zm ?_
 rintro v aP aX ⟨⟨cv,hP,eR⟩,bI⟩
 have fN:=bI.le
 rw[<-bI.ab _ Zo]at bP b2
 have hb:=bL.trans bI
 have fin:∀{R:S ag}{aS:Nat}{I:c1}{P4:bK},(∀e,e<j->W X R e=W X h e)->j+1<aS->True:=λ_ _=>trivial
 refine iq ⟨?_⟩
 refine ko (λI R aS=>∃v cv,I.g 0=some cr/\I.g 4=some (.ptr j 0)/\I.g 6=some (.ptr (j+1) 0)/\I.g 7=some v/\ga X R v 8 ((rk g iE).map dK).flatten cv/\(∀e∈cv,j+1<e/\e<aS)/\j+1<aS/\W X R j=zD [.str g.name, .Z g.at_,cQ,c4,aO,eo] 6/\W X R (j+1)=zD [.Z 0, .Z 0] 2/\∀e,e<j->W X R e=W X h e) (λV bF=> ?_) ?_
 ·cases iE with
  |true=>
   refine cL ⟨?_⟩
   exact bF _ _ _ ⟨v,cv,bo,bo,bo,bo,hP,λe z=>by have:=eR e z;exact⟨zz this.1,this.2⟩,Zo,bP,b2,hb.ab⟩
  |false=>
   refine cj (bG bP) ⟨?_⟩
   have aC:=QJ (kS.ab λe z=>hb.ab e (bs e z)) Zd
   rw[Zi]at aC
   have mC:=N1 g.out
   have avd:=N1 g.d8
   obtain⟨e1,a6,gK,aE,aw0,auE,la⟩:=hP.append (j:=aX) Zd aC mC p1 (air g.out) (by rw[mC,avd];omega) Zo (λe z=>(eR e z).2)
   refine kH aE ?_
   have d5:∀e,e<j+1+1->e∉cv:=λe z a=>zz (eR e a).1
   exact bF _ _ _ ⟨e1,gK,bo,bo,bo,bo,by show ga _ _ _ 8 ((g.d8++g.out).map dK).flatten _;rw[ZW,YN];exact .inl aw0,λe z=>by
    rcases auE e z with rfl|a
    ·omega
    ·have:=eR e a;exact⟨zz this.1,zz this.2⟩,Zo,by rw[la _ Zo (d5 _ Zo)];exact bP,by rw[la _ Zo (d5 _ Zo)];exact b2,λe z=>by rw[la e Zo (d5 e Zo)];exact hb.ab e z⟩
 ·clear fin hP eR cv hb bI bP b2 bL md v
  rintro I a6 bz ⟨v,cv,t0,t4,eY,e9,hP,eR,ww,bP,b2,xW⟩
  have f5:(rk g iE).length<=100000:=by unfold rk;cases iE<;>simp<;>omega
  obtain⟨aHH,cG⟩:=hP.uq (P:=λe=>j+1<e/\e<bz) Zd (SX _) (by rw[Zi];omega) eR
  have d2:=cG.len
  rw[Zi]at d2
  refine cS @e9 @d2 ⟨?_⟩
  refine fE (λm I R aS=>∃(V:Nat),I.g 0=some cr/\I.g 4=some (.ptr j 0)/\I.g 6=some (.ptr (j+1) 0)/\I.g 22=some v/\I.g 23=some (.Z ((rk g iE).length:Int))/\I.g 24=some (.Z (V:Int))/\V+m=(rk g iE).length/\br X a6 bz R aS/\((rk g iE).find? λd=>decide (d.on≠[]))=((rk g iE).drop V).find? λd=>decide (d.on≠[]))
   (rk g iE).length ⟨0,aW t0,aW t4,aW eY,bo,bo,fY,Zo,br.refl _ _,rfl⟩ ?_
  clear t0 t4 eY e9
  rintro m I bH cC ⟨V,t0,t4,eY,r5,Q1,vu,bF,cW,tS⟩
  have iu:=cW.le
  rw[<-cW.ab _ Zo]at bP b2
  have Ig:∀e,e<j->W X bH e=W X h e:=λe z=>by rw[cW.ab e Zo];exact xW e z
  have bC:=zE V
  cases m with
  |zero=>
   have d:=zA V (rk g iE).length
   have jQ:=adV tS Zo
   have lb:mS t (gN.length+1) g iE=match (lk g).find? (xo t (gN.length+1))with|some d=>(25,d.eX)|none=>(0,0):=by unfold mS;rw[jQ]
   rw[lb]
   refine f3 @vu @Q1 @d @t4 (bG bP) ⟨?_⟩
   have c5:=(jS l9.len).1
   have dC:=(jS kS.len).1
   have ge:=(jS np.len).1
   refine gm (show hI 3 [.aY, .aY, .aY] [(0,1,cQ),(1,1,c4),(2,1,aO)] cC=some (.slice cC 0 3 3, .cells (S.ofList [cQ,c4,aO] 0 .nil) 3 .own) by simp[hI,tB,tC,nE,c5,dC,ge]) ?_
   refine cL ⟨?_⟩
   generalize hZ:Go.bg.bm X _ cC _=bN
   have fg:W X bN cC=zD [cQ,c4,aO] 3:=by rw[<-hZ,bh Zo]
   have dN:∀e,e<cC->W X bN e=W X bH e:=λe z=>by rw[<-hZ,aI Zo Zo]
   clear hZ
   rw[<-dN _ Zo]at bP b2
   have A4:∀e,P e->W X bN e=W X h e:=λe z=>by have:=bs e z;rw[dN e Zo];exact Ig e this
   refine(ac1 (j:=cC+1) (h:=bN) aw Zo Zo fg (l9.ab A4) (kS.ab A4) (np.ab A4) (λe z=>zz (bs e z)) Zo Zo).Zm ?_
   rintro ac b6 dr ⟨bT,PD,ec⟩
   change dV X b6 _ bT ac 8 ((lk g).map dK)at PD
   have oB:=ec.le
   rw[<-ec.ab _ Zo]at bP b2
   have AL:∀e,e<j->W X b6 e=W X h e:=λe z=>by rw[ec.ab e Zo,dN e Zo];exact Ig e z
   have afX:=PD.len
   rw[Zi]at afX
   refine cj @afX ⟨?_⟩
   refine fE (λm I R aS=>∃(V:Nat),I.g 0=some cr/\I.g 6=some (.ptr (j+1) 0)/\I.g 42=some ac/\I.g 43=some (.Z ((lk g).length:Int))/\I.g 44=some (.Z (V:Int))/\V+m=(lk g).length/\br X b6 dr R aS/\(lk g).find? (xo t (gN.length+1))=((lk g).drop V).find? (xo t (gN.length+1)))
    (lk g).length ⟨0,aW t0,aW eY,bo,bo,fY,Zo,br.refl _ _,rfl⟩ ?_
   clear t0 t4 eY r5 Q1 vu bC d tS bF
   rintro m I cy dX ⟨V,t0,eY,ajE,Xx,Xy,bF,eC,tS⟩
   have nr:=eC.le
   rw[<-eC.ab _ Zo]at b2
   have Lt:∀e,e<j->W X cy e=W X h e:=λe z=>by rw[eC.ab e Zo];exact AL e z
   cases m with
   |zero=>
    have d:=zA V (lk g).length
    rw[adV tS Zo]
    refine eh @Xy @Xx @d @eY @b2 @nI @nJ ⟨?_⟩
    exact⟨rfl,Zo,λe z=>by rw[aI Zo Zo];exact Lt e z⟩
   |succ m=>
    have d:=zB V (lk g).length
    have bC:=zE V
    obtain⟨aD,wj⟩:∃d,(lk g)[V]? =some d:=⟨_,Ze Zo⟩
    have dA:=PD.fx V (by rw[Zi];omega)
    have fD:=(PD.ab (λe z=>eC.ab e z.2)).row (i:=V) (r:=dK aD) Zd (by rw[Zy,wj];rfl)
    have jl:dK aD=[.str aD.name, .Z aD.at_, .bool aD.ty.b, .bool aD.ty.s, .Z aD.ty.w, .str aD.on, .Z aD.eX, .bool aD.no]:=rfl
    rw[jl]at fD
    refine ic @Xy @Xx @ajE @d @dA @fD ⟨?_⟩
    generalize mA:Go.bg.bm X _ dX _=dt
    have gu:W X dt dX=zD [.str aD.name, .Z aD.at_, .bool aD.ty.b, .bool aD.ty.s, .Z aD.ty.w, .str aD.on, .Z aD.eX, .bool aD.no] 8:=by rw[<-mA,bh Zo];rfl
    have gG:∀e,e<dX->W X dt e=W X cy e:=λe z=>by rw[<-mA];exact zF
    clear mA
    rw[<-gG _ Zo]at b2
    have avH:dE X dt 8 (.ptr dX 0)=some (.agg (dK aD)):=by rw[C1,bG gu,bG gu,bG gu,bG gu,bG gu,bG gu,bG gu,bG gu];rfl
    refine cS @t0 @avH ⟨?_⟩
    refine(acS (j:=dX+1) aw Zo aD).Zm ?_
    rintro Jz d6 hG ⟨rfl,ie⟩
    have qT:=ie.le
    rw[<-ie.ab _ Zo]at b2 gu
    have af0:∀e,e<j->W X d6 e=W X h e:=λe z=>by rw[ie.ab e Zo,gG e Zo];exact Lt e z
    refine(aqu (j:=hG) aw Zo (ba.ab (a7:=P) (λe z=>af0 e (bs e z)) (λ_ a=>a)) (λe z=>zz (bs e z)) fZ bn (kN aD)).Zm ?_
    rintro aj0 jZ vl ⟨⟨hU,PE⟩,OD⟩
    have avJ:=OD.le
    rw[<-OD.ab _ Zo]at b2 gu
    have avP:∀e,e<j->W X jZ e=W X h e:=λe z=>by rw[OD.ab e Zo];exact af0 e z
    have HZ:xo t (gN.length+1) aD=decide ((pM t (gN.length+1) [] (kN aD)).getLast?≠some kM):=rfl
    have afb:pM t (gN.length+1) [] (kN aD)≠[]:=ayO _ _ _ (.inr Zo)
    have Um:=aqt (t:=t) (gN.length+1) [] (kN aD)
    generalize pM t (gN.length+1) [] (kN aD)=fK at PE HZ afb Um
    have h0:=PE.len
    rw[Zi]at h0
    have tN:=ZU.2 afb
    obtain⟨bE,cx⟩:∃bE,fK[fK.length-1]? =some bE:=⟨_,Ze Zo⟩
    rw[List.getLast?_eq_getElem?,cx]at HZ
    have cu:bv .sub (.Z (fK.length:Int)) (.Z 1)=some (.Z ((fK.length-1:Nat):Int)):=by
     have:((fK.length-1:Nat):Int)=(fK.length:Int) -1:=Zo
     rw[this];exact x7 (by simp at Um;omega) (by simp at Um;omega)
    have O9:=PE.fx (fK.length-1) (by rw[Zi];omega)
    have AT:dE X jZ 2 (.ptr hU ((fK.length-1)*2))=some (h9 bE):=PE.row Zd (by rw[Zy,cx];rfl)
    have Pq:db X jZ .neq 58 false (h9 bE) (.agg [.str [], .zF])=some (.bool (!decide (bE=kM))):=ah8 bE kM
    have kC:xo t (gN.length+1) aD= !decide (bE=kM):=by
     rw[HZ];by_cases a:bE=kM<;>simp[a]
    by_cases agU:bE=kM
    ·have bM:(!decide (bE=kM))=false:=by simp[agU]
     rw[bM]at Pq kC
     refine eh @h0 @cu @O9 @AT @Pq @Xy @bC ⟨?_⟩
     exact⟨m,Zo,V+1,aW t0,aW eY,aW ajE,aW Xx,bo,Zo,⟨Zo,λe z=>by rw[OD.ab e Zo,ie.ab e Zo,gG e Zo];exact eC.ab e z⟩,adU tS wj kC⟩
    ·have bM:(!decide (bE=kM))=true:=by simp[agU]
     rw[bM]at Pq kC
     rw[adW tS wj kC]
     refine eh @h0 @cu @O9 @AT @Pq (bG gu) (Za @eY (Za @b2 (Za @nI @nJ))) ⟨?_⟩
     exact⟨rfl,Zo,λe z=>by rw[aI Zo Zo];exact avP e z⟩
  |succ m=>
   have d:=zB V (rk g iE).length
   obtain⟨aD,wj⟩:∃d,(rk g iE)[V]? =some d:=⟨_,Ze Zo⟩
   have dA:=cG.fx V (by rw[Zi];omega)
   have fD:=(cG.ab (λe z=>cW.ab e z.2)).row (i:=V) (r:=dK aD) Zd (by rw[Zy,wj];rfl)
   have jl:dK aD=[.str aD.name, .Z aD.at_, .bool aD.ty.b, .bool aD.ty.s, .Z aD.ty.w, .str aD.on, .Z aD.eX, .bool aD.no]:=rfl
   rw[jl]at fD
   refine ic @vu @Q1 @r5 @d @dA @fD ⟨?_⟩
   generalize mA:Go.bg.bm X _ cC _=dt
   have gu:W X dt cC=zD [.str aD.name, .Z aD.at_, .bool aD.ty.b, .bool aD.ty.s, .Z aD.ty.w, .str aD.on, .Z aD.eX, .bool aD.no] 8:=by rw[<-mA,bh Zo];rfl
   have gG:∀e,e<cC->W X dt e=W X bH e:=λe z=>by rw[<-mA];exact zF
   clear mA
   rw[<-gG _ Zo]at b2
   by_cases ls:aD.on=[]
   ·have cM:decide (aD.on≠[])=false:=by simp[ls]
    refine gk (bG gu) @cM @vu @bC ⟨?_⟩
    exact⟨m,Zo,V+1,aW t0,aW t4,aW eY,aW r5,aW Q1,bo,Zo,⟨Zo,λe z=>by rw[gG e Zo];exact cW.ab e z⟩,adU tS wj cM⟩
   ·have cM:decide (aD.on≠[])=true:=by simp[ls]
    have lb:mS t (gN.length+1) g iE=(27,aD.eX):=by unfold mS;rw[adW tS wj cM]
    rw[lb]
    refine ic (bG gu) @cM @eY @b2 @nI @nJ ⟨?_⟩
    exact⟨rfl,Zo,λe z=>by rw[aI Zo Zo,gG e Zo];exact Ig e z⟩
end
end
end Go.Proofs.YtpeabpmnlmaabaaGreatDoor

