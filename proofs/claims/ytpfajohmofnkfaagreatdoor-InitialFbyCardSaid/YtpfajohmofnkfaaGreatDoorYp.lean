/- A part of the last text's proof; no condition of its own -/
import Derived.Test.YtpfajohmofnkfaaGreatDoorYo
set_option maxHeartbeats 8000000
set_option linter.all false
namespace Go.Proofs.YtpfajohmofnkfaaGreatDoor
open Go.bd Go.aR
noncomputable section
def acn(ai:List Go.aR.Node)(t:bi->Option ej)(E:be):lJ ai t E=(match j1 ai t E.args with
 | .error F=> .error F
 | .ok (bV,one)=>if one=false then .error E.at_ else if (iq ai t E bV).2=false then .error E.at_ else .ok (iq ai t E bV).1):=by
 cases E;rw[lJ];rfl
section
variable{X:cb}{h T aP aM:K ag}{j an aG a1:Nat}{P c3:Nat->Prop}
def lY.mk'{ai:List Go.aR.Node}{t:bi->Option ej}{cE:Nat->Option D}{E:be}{b cp:Nat}{aW w:D}{a8:List D}{row:List de}(J:P b)(am:aO X h (.ptr b 8)=some aW)(aB:dD X h P cp aW 1 (a8.map λv=>[v]))(bk:lJ ai t E= .ok row)(b6:cE b=some w)(c5:w.cells=[w])(eb:kE X h c3 w row)(g5:kD X h ai t cE P c3 E.args a8):lY X h ai t cE P c3 E (.ptr b 0):=by
 cases E
 rw[lY]
 exact⟨b,aW,cp,a8,row,w,rfl,J,am,aB,bk,b6,c5,eb,g5⟩
def kD.snoc{ai:List Go.aR.Node}{t:bi->Option ej}{cE:Nat->Option D}{E:be}{v:D}(q:lY X h ai t cE P c3 E v):∀{bH:List be}{a8:List D},kD X h ai t cE P c3 bH a8->kD X h ai t cE P c3 (bH++[E]) (a8++[v]):=by
 intro bH
 induction bH with
 |nil=>intro a8 a;rw[kD]at a;subst a;rw[Z8,kD];exact⟨v,[],rfl,q,by rw[kD]⟩
 |cons F bH al=>
  intro a8 a
  rw[kD]at a
  obtain⟨Mv,aBO,rfl,J,am⟩:=a
  rw[YC,kD]
  exact⟨Mv,aBO++[v],rfl,J,al am⟩
def agH:∀{E:be}{v:D},cy X h P E v->∃b aW cp a8,v= .ptr b 0/\P b/\kR X h b/\aO X h (.ptr b 1)=some (.Z E.at_)/\aO X h (.ptr b 8)=some aW/\dD X h P cp aW 1 (a8.map λv=>[v])/\dk X h (λe=>P e/\e≠b) E.args a8
 | .mk ..,_,a=>by
   unfold cy at a
   obtain⟨b,I,bE,bj,J,am,aB,bk,b6,c5,eb,g5,aW,cp,a8,lp,tf,ti,vR⟩:=a
   exact⟨b,aW,cp,a8,I,bE,bj,am,lp,tf,dk.lift (λe z=>⟨z.1,z.2.1⟩) _ _ vR⟩
structure xz(X:cb)(h:K ag)(dK:Nat)(P:Nat->Prop)(b5 ah r:Nat)(cZ p:D)(ai:List Go.aR.Node)(t:bi->Option ej):Prop where
 a2:(o X).a2<=dK
 lc:b5<dK
 Ij:ah<dK
 C6:r<dK
 Ix:(o X).a2<=r
 D7:b5≠r
 qr:ah≠r
 bE:∀e,P e->(o X).a2<=e/\e<dK/\e≠r
 Ke:∃c,Y X h b5=some (.cells c 3 .own)/\c.get 0=some (.ptr ah 0)/\c.get 1=some p/\c.get 2=some cZ
 FW:aO X h (.ptr ah 0)=some (.map r)
 w8:s2 X h P cZ t
 prog:nQ X h P ai p
def xz.GJ{dK b5 ah r:Nat}{cZ p:D}{ai:List Go.aR.Node}{t:bi->Option ej}(a:xz X h dK P b5 ah r cZ p ai t):Gd X h b5 (.ptr ah 0) p cZ:=by
 obtain⟨c,aS,I,J,am⟩:=a.Ke
 exact⟨by rw[bO aS];exact I,by rw[bO aS];exact J,by rw[bO aS];exact am⟩
def xz.ab{dK b5 ah r:Nat}{cZ p:D}{ai:List Go.aR.Node}{t:bi->Option ej}(a:xz X h dK P b5 ah r cZ p ai t)(q:∀e,e<dK->e≠r->Y X T e=Y X h e):xz X T dK P b5 ah r cZ p ai t:=
 have PE:∀e,P e->Y X T e=Y X h e:=λe z=>q e (a.bE e z).2.1 (a.bE e z).2.2
 ⟨a.a2,a.lc,a.Ij,a.C6,a.Ix,a.D7,a.qr,a.bE,by rw[q b5 a.lc a.D7];exact a.Ke,zB (q ah a.Ij a.qr) a.FW,a.w8.ab PE (λ_ a=>a),a.prog.ab PE (λ_ a=>a)⟩
def xz.fr{dK b5 ah r:Nat}{cZ p:D}{ai:List Go.aR.Node}{t:bi->Option ej}(a:xz X h dK P b5 ah r cZ p ai t)(gm:ca X [r] h j T an)(aE:dK<=j):xz X T dK P b5 ah r cZ p ai t:=
 a.ab λe I J=>gm.ab e Zo (by simp[J])
def aiS(n:Nat)(X:cb)(h:K ag)(j:Nat)(bx:Nat->Prop)(r:Nat)(ai:List Go.aR.Node)(t:bi->Option ej)(cE:Nat->Option D)(bm:Nat->Prop)(E:be)(v:D):bI:=λac T an=>∃row jb,lJ ai t E= .ok row/\ac.cells=[ac]/\kE X T (cQ j an) ac row/\kj X T bx r jb/\(∀e,¬bm e->jb e=cE e)/\lY X T ai t jb bm (cQ j an) E v/\ca X [r] h j T an/\pk X T r (n+D5 E)
def aiR(X:cb)(h:K ag)(j r:Nat)(ai:List Go.aR.Node)(t:bi->Option ej)(E:be):bI:=λac T an=>∃F,lJ ai t E= .error F/\ac=pw 26 F/\ca X [r] h j T an
set_option maxRecDepth 100000 in
def apR(aw:du X)(er:DK X){ai:List Go.aR.Node}{t:bi->Option ej}{b5 ah r dK:Nat}{p cZ:D}(aS:ai≠[])(bp:∀g∈ai,g.ez.length<=100000/\g.out.length<=100000){bx:Nat->Prop}(yb:∀e,bx e->P e):
 ∀(N:Nat) (E:be),SizeOf.sizeOf E<N->d2 gV E->∀(bm:Nat->Prop) (v:D) (h:K ag) (j:Nat) (cE:Nat->Option D) (n:Nat),(∀e,bm e->bx e)->dK<=j->xz X h dK P b5 ah r cZ p ai t->kj X h bx r cE->cy X h bm E v->pk X h r n->(∀e,bm e->cE e=none)->
  aY X 131 [.ptr b5 0,v] h j (aiS n X h j bx r ai t cE bm E v) (aiR X h j r ai t E):=by
 intro N
 induction N with
 |zero=>intro E a;omega
 |succ N al=>
  intro E i2 A8 bm v h j cE n Hh aE bT oN bs Tm qy
  have fj:∀e,bm e->P e:=λe z=>yb e (Hh e z)
  have Lo:=A8
  rw[d2.eq]at Lo
  obtain⟨bt,oY⟩:=Lo
  refine zx aw (ajw X) ?_
  rw[ajx]
  unfold Xp
  obtain⟨b,aW,cp,a8,rfl,aj,tt,ba,h4,cA,has⟩:=agH bs
  have gP:=bT.a2
  have bE:=bT.bE
  have jA:=bE b (fj b aj)
  have d5:=cA.len
  have tC:=has.len
  rw[Zn,tC]at d5
  have kJ:E.args.length<=300000:=by have:=cA.many;rw[Zn,tC]at this;exact this
  refine cT @h4 @d5 ⟨?_⟩
  refine fK (λm H T aU=>∃(W:Nat) (s:D) (cJ:List Nat) (jN:List de) (IW:Bool) (jb:Nat->Option D) (qg:Nat->Prop),H.g 0=some (.ptr b5 0)/\H.g 1=some (.ptr b 0)/\H.g 5=some s/\H.g 6=some (.bool IW)/\H.g 15=some aW/\H.g 16=some (.Z (E.args.length:Int))/\H.g 17=some (.Z (W:Int))/\W+m=E.args.length
   /\gB X T s 3 (nh jN).flatten cJ/\(∀e∈cJ,j<=e/\e<aU)/\(IW=true->jN.length=W)/\jN.length<=W
   /\j1 ai t E.args=(match j1 ai t (E.args.drop W)with| .error F=> .error F| .ok (bV,one)=> .ok (jN++bV,IW&&one))
   /\kj X T bx r jb/\(∀e,¬bm e->jb e=cE e)/\jb b=cE b/\ca X [r] h j T aU
   /\(∀e,qg e->bm e/\e≠b)/\dk X T qg (E.args.drop W) (a8.drop W)/\kD X T ai t jb (λe=>(bm e/\e≠b)/\¬qg e) (λe=>cQ j aU e/\e∉cJ) (E.args.take W) (a8.take W)/\pk X T r (n+up (E.args.take W))/\∀e,qg e->jb e=none)
   E.args.length ⟨0, .aV,[],[],true,cE,λe=>bm e/\e≠b,bw,bw,bw,bw,bw,bw,fW,Zo, .inl (.inl ⟨rfl,rfl,rfl⟩),Zs,λ_=>rfl,Zi _,by
    rw[ZZ];cases j1 ai t E.args with
    |error F=>rfl
    |ok x=>obtain⟨bV,one⟩:=x;simp,oN,λ_ _=>rfl,rfl,ca.refl _ _ _,λ_ a=>a,by simpa using has,by rw[ZI,ZI,kD],by rw[ZI,aom];exact Tm,λe z=>qy e z.1⟩ ?_
  rintro m H aM a1 ⟨W,s,cJ,jN,IW,Vi,qg,t0,t1,t5,fU,w3,Bz,w4,bK,aF,fd,uS,adG,nx,adx,Hu,T4,dl,AN,uM,CO,ady,KQ⟩
  have f7:=dl.le
  have bJ:=bT.fr dl aE
  have oZ:∀e,P e->Y X aM e=Y X h e:=λe z=>by have:=bE e z;exact dl.ab e Zo (by simp[this.2.2])
  have aeH:=tt.ab (oZ b (fj b aj))
  cases m with
  |zero=>
   have d:=zr W E.args.length
   have atm:W=E.args.length:=Zo
   rw[ZH Zo,j1]at nx
   simp only[Yx,Yr]at nx
   have oV:=acn ai t E
   rw[nx]at oV
   simp only[]at oV
   have Rw:aO X aM (.ptr b 1)=some (.Z E.at_):=zB (oZ b (fj b aj)) ba
   cases IW with
   |false=>
    rw[Zu rfl]at oV
    refine iM @w4 @Bz @d @fU @t1 @Rw ⟨?_⟩
    refine(J8 aw Zo E.at_).mono (λ_ _ _ a=>a) ?_
    rintro ac aX bf ⟨rfl,cg⟩
    exact⟨_,oV,rfl,dl.trans (ca.of cg)⟩
   |true=>
    rw[Zg Zd]at oV
    have ar6:∀e,(P e\/(j<=e/\e<a1))->e<a1:=λe z=>by
     rcases z with a|a
     ·have:=bE e a;omega
     ·exact a.2
    refine eF @w4 @Bz @d @fU @t0 @t1 @t5 ⟨?_⟩
    refine(azN (P:=λe=>P e\/(j<=e/\e<a1)) aw er Zo (zq bT.lc) bJ.GJ (bJ.w8.ab (λ_ _=>rfl) (λe a=> .inl a)) (bJ.prog.ab (λ_ _=>rfl) (λe a=> .inl a)) aS ar6 bp (cy.lift (λe z=> .inl (fj e z)) _ _ (cy.ab (λe z=>oZ e (fj e z)) _ _ bs)) bt (uS rfl▸atm) aF Zo (λe z=> .inr (fd e z))).Zm ?_
    rintro ac aX bf ⟨w,rfl,mA,Lm,cg⟩
    have ip:=cg.le
    have dY:=dl.trans (ca.of (X:=[r]) cg)
    have adi:=bT.fr dY aE
    have kZ:∀e,P e->Y X aX e=Y X h e:=λe z=>by have:=bE e z;exact dY.ab e Zo (by simp[this.2.2])
    cases hg:(iq ai t E jN).2 with
    |false=>
     rw[Zu hg]at oV
     have M4:aO X aX (.ptr b 1)=some (.Z E.at_):=zB (kZ b (fj b aj)) ba
     refine cT @t1 @M4 ⟨?_⟩
     refine(J8 aw Zo E.at_).mono (λ_ _ _ a=>a) ?_
     rintro ac bC da ⟨rfl,dv⟩
     exact⟨_,oV,rfl,dY.trans (ca.of dv)⟩
    |true=>
     rw[Zg (by rw[hg];decide)]at oV
     have d3:=adi.GJ.d3
     have FW:=adi.FW
     refine gx @t0 @t1 @d3 @FW ⟨?_⟩
     have Cu:kj X aX bx r Vi:=adx.ab (cg.ab r (zq bT.C6)) (λe z=>cg.ab e (zq (bE e (yb e z))))
     obtain⟨bC,bn,Tk,d0⟩:=axq (j:=bf) bT.Ix Cu (aeH.ab (cg.ab b Zo)) (Hh b aj) jA.1 w
     have Ol:=axr bT.Ix Cu (ady.ab (cg.ab r (zq bT.C6))) (aeH.ab (cg.ab b Zo)) jA.1 (by rw[T4];exact qy b aj) bn
     rw[Zx Zo]at Ol
     refine kN bn ?_
     refine cK ⟨?_⟩
     have ey:ca X [r] h j bC bf:=⟨dY.le,λe I J=>by rw[d0 e (by simpa using J)];exact dY.ab e I J⟩
     have ku:∀e,P e->Y X bC e=Y X h e:=λe z=>by have:=bE e z;exact ey.ab e Zo (by simp[this.2.2])
     have H6:∀e,j<=e->e<bf->Y X bC e=Y X aX e:=λe I J=>d0 e (zq bT.C6)
     rw[Zx Zo,Zx Zo]at CO
     have afd:kE X bC (cQ j bf) w (iq ai t E jN).1:=Lm.ab (λe z=>H6 e (zq z.1) z.2) (λe z=>⟨zq z.1,z.2⟩)
     refine⟨_,_,oV,mA,afd,Tk,λe z=> ?_,lY.mk' aj (zB (ku b (fj b aj)) h4) (cA.ab λe z=>ku e (fj e z)) oV Zs mA afd (kD.ab (λe z=> ?_) (λe z=> ?_) (λe z=> ?_) (λe z=>z.1.1) (λe z=>⟨z.1.1,zq z.1.2⟩) _ _ CO),ey,by rw[aol];exact Ol⟩
     ·have:e≠b:=λE=>z (E▸aj)
      simp only[this,ZA];exact Hu e z
     ·rw[ku e (fj e z.1.1),oZ e (fj e z.1.1)]
     ·rw[H6 e z.1.1 (zq z.1.2),cg.ab e z.1.2]
     ·simp only[z.1.2,ZA]
  |succ m=>
   have d:=zs W E.args.length
   have bF:=zv W
   obtain⟨F,aC⟩:=zt E.args W
   have aH:E.args.drop W=F::E.args.drop (W+1):=by
    obtain⟨af,z⟩:=Zc.1 aC
    rw[Zv af,z]
   rw[aH]at uM nx
   unfold dk at uM
   obtain⟨w,jc,B,Pm,qu,KM,TO⟩:=uM
   have UI:a8[W]? =some w:=by
    have:(a8.drop W)[0]? =some w:=by rw[Pm];rfl
    simpa using this
   have au6:jc=a8.drop (W+1):=by
    obtain⟨af,z⟩:=Zc.1 UI
    rw[Zv af]at Pm
    simp only[Yw]at Pm
    exact Pm.2.symm
   subst au6
   obtain⟨b3,b7,cS⟩:=(cA.ab λe z=>oZ e (fj e z)).one UI
   have kc:E.args.take (W+1)=E.args.take W++[F]:=by rw[ZY,aC];rfl
   have afc:a8.take (W+1)=a8.take W++[w]:=by rw[ZY,UI];rfl
   have eO:=Qq (Zj aC)
   have rf:∀e,B e->bm e/\e≠b:=λe z=>AN e (qu e z)
   rw[j1]at nx
   refine eF @w4 @Bz @w3 @t0 @d @b3 @b7 ⟨?_⟩
   refine(al F Zo (WJ oY (Zj aC)) B w aM a1 Vi (n+up (E.args.take W)) (λe z=>Hh e (rf e z).1) Zo bJ adx KM ady (λe z=>KQ e (qu e z))).mono ?_ (λac T aU a=>by
    obtain⟨fV,I,J,am⟩:=a
    rw[I]at nx
    simp only[]at nx
    exact⟨fV,by rw[acn,nx],J,dl.trans am⟩)
   rintro ac aX bf ⟨row,Vj,e3,HP,Ll,Cu,EM,afb,dY,Ok⟩
   have ip:=dY.le
   have adr:=dl.trans dY
   rw[e3]at nx
   simp only[]at nx
   have atx:=bT.C6
   have Pz:∀e,j<=e->e<a1->Y X aX e=Y X aM e:=λe I J=>dY.ab e J (by simp;omega)
   have kZ:∀e,P e->Y X aX e=Y X aM e:=λe z=>by have:=bE e z;exact dY.ab e Zo (by simp[this.2.2])
   have Ow:Vj b=Vi b:=EM b (λa=>(rf b a).2 rfl)
   have rq:dk X aX (λe=>qg e/\¬B e) (E.args.drop (W+1)) (a8.drop (W+1)):=dk.ab (λe z=>kZ e (fj e (AN e z.1).1)) _ _ TO
   by_cases fI:row.length=1
   ·obtain⟨x,rfl⟩:∃x,row=[x]:=by
     match row,fI with
     |[x],_=>exact⟨x,rfl⟩
    obtain⟨cM,sz,fC,fe,i3,i4⟩:=Ll.rd.f3 0 x rfl
    have fC:gv 3 ac (.Z 0)=some (.ptr cM sz):=fC
    have T7:gy ac=some (.Z 1):=Ll.rd.len
    have aJ:decide ((1:Int)≠1)=false:=by decide
    simp only[]at nx
    refine iM @T7 @aJ @t5 @fC @i3 ed.eq_1 ⟨?_⟩
    generalize eH:Go.bd.bn X aX bf _=bC
    have eh:Y X bC bf=zu (ed x) 3:=by rw[<-eH,bg Zo];rfl
    have d0:∀e,e<bf->Y X bC e=Y X aX e:=λe z=>by rw[<-eH,aI Zo Zo]
    clear eH
    obtain⟨fk,bW,gC,ix,A5,vW,md⟩:=WA (j:=bf+1) (aF.ab (T:=bC) (λe z=>by have:=fd e z;rw[d0 e Zo,Pz e this.1 this.2])) eh Zo Zo (λe z=>zq (fd e z)) 1
    refine kN ix ?_
    refine cT @w4 @bF ⟨?_⟩
    have dU:∀e,e<bf->e∉cJ->Y X bW e=Y X aX e:=λe I J=>by rw[md e Zo J,d0 e I]
    have Bh:∀e,e<j->e∉cJ:=λe I J=>zq (fd e J)
    refine⟨m,Zo,W+1,fk,gC,jN++[x],IW,Vj,λe=>qg e/\¬B e,a7 t0,a7 t1,bw,a7 fU,a7 w3,a7 Bz,bw,Zo,A5,λe z=> ?_,λa=>by have:=uS a;simp;omega,by simp;omega, ?_, ?_,λe z=> ?_,by rw[Ow];exact T4, ?_,λe z=>AN e z.1, ?_, ?_,by rw[kc,abD, <-ZJ];exact Ok.ab (dU r Zo (Bh r Zo)),λe z=>(EM e z.2).trans (KQ e z.1)⟩
    ·rcases vW e z with rfl|a
     ·omega
     ·have:=fd e a;omega
    ·rw[nx]
     cases j1 ai t (E.args.drop (W+1))with
     |error F=>rfl
     |ok p=>obtain⟨bV,one⟩:=p;simp
    ·exact Cu.ab (dU r Zo (Bh r Zo)) (λe z=>by have:=bE e (yb e z);exact dU e Zo (Bh e Zo))
    ·exact(EM e (λa=>z (rf e a).1)).trans (Hu e z)
    ·exact⟨Zo,λe I J=>by rw[dU e Zo (Bh e I)];exact adr.ab e I J⟩
    ·exact dk.ab (λe z=>by have:=bE e (fj e (AN e z.1).1);exact dU e Zo (Bh e Zo)) _ _ rq
    ·have ar1:∀e,a1<=e->e<bf->e∉gC:=λe I J a=>by
      rcases vW e a with rfl|a
      ·omega
      ·have:=fd e a;omega
     have ar2:∀e,e<a1->e∉cJ->e∉gC:=λe I J a=>by
      rcases vW e a with rfl|a
      ·omega
      ·exact J a
     have av3:∀e,(bm e/\e≠b)/\¬qg e->Y X bW e=Y X aM e:=λe z=>by
      have:=bE e (fj e z.1.1)
      rw[dU e Zo (Bh e Zo),kZ e (fj e z.1.1)]
     have av4:∀e,cQ j a1 e/\e∉cJ->Y X bW e=Y X aM e:=λe z=>by
      have I:=z.1.1;have J:=z.1.2
      rw[dU e Zo z.2,Pz e I J]
     have av5:∀e,B e->Y X bW e=Y X aX e:=λe z=>by
      have:=bE e (fj e (rf e z).1);exact dU e Zo (Bh e Zo)
     have av6:∀e,cQ a1 bf e->Y X bW e=Y X aX e:=λe z=>dU e z.2 (λa=>by have:=fd e a;have:=z.1;omega)
     rw[kc,afc]
     exact kD.snoc (lY.ab av5 av6 (λ_ _=>rfl) (λe z=>⟨rf e z,λa=>a.2 z⟩) (λe z=>⟨⟨zq z.1,zq z.2⟩,ar1 e z.1 z.2⟩) F w afb) (kD.ab av3 av4 (λe z=>EM e (λa=>z.2 (qu e a))) (λe z=>⟨z.1,λa=>z.2 a.1⟩) (λe z=>⟨⟨z.1.1,zq z.1.2⟩,ar2 e z.1.2 z.2⟩) _ _ CO)
   ·have T7:=Ll.rd.len
    have aJ:decide ((row.length:Int)≠1)=true:=by simp only[Zh];omega
    refine gx @T7 @aJ @w4 @bF ⟨?_⟩
    refine⟨m,Zo,W+1,s,cJ,jN,false,Vj,λe=>qg e/\¬B e,a7 t0,a7 t1,a7 t5,bw,a7 w3,a7 Bz,bw,Zo,aF.ab (λe z=>by have:=fd e z;exact Pz e this.1 this.2),λe z=>zq (fd e z),(λa=>by cases a),Zo, ?_,Cu,λe z=>(EM e (λa=>z (rf e a).1)).trans (Hu e z),by rw[Ow];exact T4,adr,λe z=>AN e z.1,rq, ?_,by rw[kc,abD, <-ZJ];exact Ok,λe z=>(EM e z.2).trans (KQ e z.1)⟩
    ·rw[nx]
     cases j1 ai t (E.args.drop (W+1))with
     |error F=>rfl
     |ok p=>
      obtain⟨bV,one⟩:=p
      match row,fI with
      |[],_=>simp
      |[_],a=>exact absurd rfl a
      |_::_::_,_=>simp
    ·rw[kc,afc]
     exact kD.snoc (lY.ab (λ_ _=>rfl) (λ_ _=>rfl) (λ_ _=>rfl) (λe z=>⟨rf e z,λa=>a.2 z⟩) (λe z=>⟨⟨zq z.1,z.2⟩,λa=>by have:=fd e a;have:=z.1;omega⟩) F w afb) (kD.ab (λe z=>kZ e (fj e z.1.1)) (λe z=>Pz e z.1.1 z.1.2) (λe z=>EM e (λa=>z.2 (qu e a))) (λe z=>⟨z.1,λa=>z.2 a.1⟩) (λe z=>⟨⟨z.1.1,zq z.1.2⟩,z.2⟩) _ _ CO)
end
def qZ:List fc->Nat
 |[]=>0
 |ah::k=>D5 ah.right+qZ k
def aoo:∀k bV:List fc,qZ (k++bV)=qZ k+qZ bV:=by
 intro k
 induction k with
 |nil=>intro bV;simp[qZ]
 |cons F k al=>intro bV;rw[YC,qZ,qZ,al];omega
def aop(ah:fc)(k:List fc):qZ (k++[ah])=qZ k+D5 ah.right:=by rw[aoo];simp[qZ]
def Ek{α:Type}{f:α->Option Int}{k:List α}{i:Nat}{x:α}(a:k[i]? =some x)(aS:(k.take i).findSome? f=none):(k.take (i+1)).findSome? f=f x:=by
 rw[ZY,a,List.findSome?_append,aS]
 simp
def GX{α:Type}{f:α->Option Int}{k:List α}{i:Nat}{x:α}{F:Int}(a:k[i]? =some x)(aS:(k.take i).findSome? f=none)(af:f x=some F):k.findSome? f=some F:=by
 have E:k=k.take (i+1)++k.drop (i+1):=(List.take_append_drop _ _).symm
 rw[E,List.findSome?_append,Ek a aS,af]
 rfl
section
variable{X:cb}{h T aP aM:K ag}{j an aG a1:Nat}{P c3 bx:Nat->Prop}
def ug(X:cb)(h:K ag)(ai:List Go.aR.Node)(t:bi->Option ej)(cE:Nat->Option D)(P c3:Nat->Prop):List fc->List (List D)->Prop
 |[],br=>br=[]
 |ah::cN,br=>∃row gz v,br=row::gz/\row[3]? =some v/\q3 ai t ah=none/\lY X h ai t cE P c3 ah.right v/\ug X h ai t cE P c3 cN gz
def ug.ab{ai:List Go.aR.Node}{t:bi->Option ej}{cE jb:Nat->Option D}{nP rY:Nat->Prop}(q:∀e,P e->Y X T e=Y X h e)(tG:∀e,c3 e->Y X T e=Y X h e)(az:∀e,P e->jb e=cE e)(ay:∀e,P e->nP e)(z:∀e,c3 e->rY e):∀{cN:List fc}{br:List (List D)},ug X h ai t cE P c3 cN br->ug X T ai t jb nP rY cN br:=by
 intro cN
 induction cN with
 |nil=>intro br a;exact a
 |cons ah cN al=>
  rintro br ⟨row,gz,v,I,J,am,aB,bk⟩
  exact⟨row,gz,v,I,J,am,lY.ab q tG az ay z _ _ aB,al bk⟩
def ug.snoc{ai:List Go.aR.Node}{t:bi->Option ej}{cE:Nat->Option D}{ah:fc}{row:List D}{v:D}(J:row[3]? =some v)(am:q3 ai t ah=none)(aB:lY X h ai t cE P c3 ah.right v):∀{cN:List fc}{br:List (List D)},ug X h ai t cE P c3 cN br->ug X h ai t cE P c3 (cN++[ah]) (br++[row]):=by
 intro cN
 induction cN with
 |nil=>rintro br rfl;exact⟨row,[],v,rfl,J,am,aB,rfl⟩
 |cons F cN al=>
  rintro br ⟨rF,gz,w,rfl,cq,cP,d0,dU⟩
  exact⟨rF,gz++[row],w,rfl,cq,cP,d0,al dU⟩
structure Ge(X:cb)(h:K ag)(dK:Nat)(P:Nat->Prop)(b5 ah r:Nat)(p:D)(ai:List Go.aR.Node):Prop where
 a2:(o X).a2<=dK
 lc:b5<dK
 Ij:ah<dK
 C6:r<dK
 Ix:(o X).a2<=r
 agp:(o X).a2<=b5
 D7:b5≠r
 qr:ah≠r
 R3:ah≠b5
 bE:∀e,P e->(o X).a2<=e/\e<dK/\e≠r/\e≠b5
 Ke:∃c,Y X h b5=some (.cells c 3 .own)/\c.get 0=some (.ptr ah 0)/\c.get 1=some p
 FW:aO X h (.ptr ah 0)=some (.map r)
 prog:nQ X h P ai p
def DN(X:cb)(h:K ag)(ai:List Go.aR.Node)(cE:Nat->Option D)(P c3:Nat->Prop)(g:Go.aR.Node)(row:List D):Prop:=u6 ai g=none/\∃dj dG aW eP bQ cf cM ew br,row=[.str g.name, .Z g.at_,dj,dG,aW,eP]/\dD X h P bQ dj 8 (g.ez.map eT)/\dD X h P cf dG 8 (g.out.map eT)/\dD X h P cM aW 8 (g.loc.map eT)/\dD X h P ew eP 4 br/\mP X h P g.eqs br/\ug X h ai (fH g) cE P c3 g.eqs br
structure aiQ(n:Nat)(X:cb)(c6:K ag)(j bf:Nat)(bx bm:Nat->Prop)(r:Nat)(ai:List Go.aR.Node)(t:bi->Option ej)(cE:Nat->Option D)(eqs:List fc)(br:List (List D))(W:Nat)(T:K ag)(aU:Nat):Prop where
 none_:(eqs.take W).findSome? (q3 ai t)=none
 fr:ca X [r] c6 bf T aU
 at_:∃jb qg,kj X T bx r jb/\(∀e,¬bm e->jb e=cE e)/\(∀e,qg e->bm e)/\mP X T qg (eqs.drop W) (br.drop W)/\ug X T ai t jb (λe=>bm e/\¬qg e) (cQ j aU) (eqs.take W) (br.take W)/\pk X T r (n+qZ (eqs.take W))/\∀e,qg e->jb e=none
set_option maxRecDepth 100000 in
def axM(aw:du X)(er:DK X){ai:List Go.aR.Node}{b5 L9 r dK:Nat}{p:D}(aS:ai≠[])(bp:∀g∈ai,g.ez.length<=100000/\g.out.length<=100000)(yb:∀e,bx e->P e){bm:Nat->Prop}(Hh:∀e,bm e->bx e)(aE:dK<=j)(bT:Ge X h dK P b5 L9 r p ai){cE:Nat->Option D}(oN:kj X h bx r cE){n:Nat}(Tm:pk X h r n)(qy:∀e,bm e->cE e=none)
 {g:Go.aR.Node}{row:List D}(bU:pn X h bm g row)(hY:∀ah∈g.eqs,d2 gV ah.right)(oR:(hM g).length<=300000):
 aY X 77 [.ptr b5 0, .agg row] h j (λac T an=>ac= .tuple []/\(∃c,Y X T b5=some (.cells c 3 .own)/\c.get 0=some (.ptr L9 0)/\c.get 1=some p)/\∃jb,kj X T bx r jb/\(∀e,¬bm e->jb e=cE e)/\DN X T ai jb bm (cQ j an) g row/\ca X [r,b5] h j T an/\pk X T r (n+qZ g.eqs))
  (λac T an=>∃F,u6 ai g=some F/\ac=pw 26 F/\ca X [r,b5] h j T an):=by
 refine zx aw (amn X) ?_
 rw[amo]
 unfold aaB
 have gP:=bT.a2
 have bE:=bT.bE
 have atx:=bT.C6;have T1:=bT.lc;have aDl:=bT.Ij
 have qv:∀e,bm e->P e:=λe z=>yb e (Hh e z)
 have ad9:=bU
 obtain⟨dj,dG,aW,eP,bQ,cf,cM,ew,br,rfl,oP,my,qz,j8,e2⟩:=bU
 have auI:=(k0 oP.len).1
 have auL:=(k0 my.len).1
 have jF:=(k0 qz.len).1
 have aDP:=(k0 j8.len).1
 refine s6 ?_
 generalize dZ:Go.bd.bn X h j _=aP
 have b3:Y X aP j=zu [.str g.name, .Z g.at_,dj,dG,aW,eP] 6:=by rw[<-dZ,bg Zo];rfl
 have bN:bo X h j aP (j+1):=by rw[<-dZ];exact dM
 clear dZ
 refine ci (bO b3) ⟨?_⟩
 have bR:∀e,P e->Y X aP e=Y X h e:=λe z=>bN.ab e (zq (bE e z))
 refine(agE (j:=j+1) (h:=aP) aw Zo (λe z=>zq (bE e (qv e z))) (ad9.ab (bm:=bm) (λe z=>bR e (qv e z)) (λ_ a=>a)) oR).Zm ?_
 rintro ac aM a1 ⟨cZ,mh,Qr,B6,rfl,Pj,HN,yh,sh,_,_,bJ⟩
 have f7:=bJ.le
 have jk:=bN.trans bJ
 obtain⟨c,acM,acN,acO⟩:=bT.Ke
 have NX:Y X aM b5=some (.cells c 3 .own):=by rw[jk.ab b5 Zo];exact acM
 have O2:=bT.agp
 refine AC ⟨?_⟩
 generalize e9:Go.bd.bn X aM b5 _=aX
 have aqI:∃f5,Y X aX b5=some (.cells f5 3 .own)/\f5.get 0=some (.ptr L9 0)/\f5.get 1=some p/\f5.get 2=some (.ptr cZ 0):=⟨dN c 2 [.ptr cZ 0],by rw[<-e9,bg O2];rfl,by rw[rM,K.kI];exact acN,by rw[rM,K.kI];exact acO,sH c 2 _⟩
 have cP:∀e,e≠b5->Y X aX e=Y X aM e:=λe z=>by rw[<-e9,aI O2 z]
 clear e9 NX
 have CY:∀e,e<j->e≠b5->Y X aX e=Y X h e:=λe I J=>by rw[cP e J,jk.ab e I]
 have kZ:∀e,P e->Y X aX e=Y X h e:=λe z=>by have:=bE e z;exact CY e Zo Zo
 have dY:ca X [r,b5] h j aX a1:=⟨Zo,λe I J=>CY e I (by simp at J;exact J.2)⟩
 have afa:s2 X aX (λe=>P e\/cQ (j+1) a1 e) (.ptr cZ 0) (fH g):=⟨cZ,mh,rfl, .inr Pj, .inr HN,zB (cP cZ (zq Pj.1)) yh,sh.ab (cP mh (zq HN.1))⟩
 have Kp:xz X aX a1 (λe=>P e\/cQ (j+1) a1 e) b5 L9 r (.ptr cZ 0) p ai (fH g):=⟨Zo,Zo,Zo,Zo,bT.Ix,bT.D7,bT.qr,λe z=>by
  rcases z with a|a
  ·have:=bE e a;exact⟨this.1,Zo,this.2.2.1⟩
  ·have I:=a.1;have J:=a.2;exact⟨Zo,J,Zo⟩,aqI,zB (CY L9 Zo bT.R3) bT.FW,afa,bT.prog.ab kZ (λ_ a=> .inl a)⟩
 have x3:Y X aX j=zu [.str g.name, .Z g.at_,dj,dG,aW,eP] 6:=by rw[cP j Zo,bJ.ab j Zo];exact b3
 have Cu:kj X aX bx r cE:=oN.ab (CY r Zo (λE=>bT.D7 E.symm)) (λe z=>kZ e (yb e z))
 have Ok:pk X aX r n:=Tm.ab (CY r Zo (λE=>bT.D7 E.symm))
 generalize Pl:fH g=t at*
 have EO:u6 ai g=(match GN t g with|some F=>some F|none=>g.eqs.findSome? (q3 ai t)):=by unfold u6;rw[Pl];rfl
 clear bN bJ jk bR sh yh afa b3 acM acN acO
 have KH:e8 [.aV, .aV, .aV] [(0,1,dj),(1,1,dG),(2,1,aW)]=some (.agg [dj,dG,aW]):=by
  simp[e8,qp,qq,lS,auI,auL,jF]
 refine r7 (bO x3) ⟨?_⟩
 refine fw KH ?_
 refine kt (λH T aU=>H.g 0=some (.ptr b5 0)/\H.g 3=some (.ptr j 0)/\GN t g=none/\bo X aX a1 T aU) (λW bK=> ?_) ?_
 ·have HK:∀q,q<3->∃s b,([dj,dG,aW]:List D)[q]? =some s/\dD X h bm b s 8 ((mK g q).map eT):=λq aD=>by
   match q,aD with
   |0,_=>exact⟨dj,bQ,rfl,oP⟩
   |1,_=>exact⟨dG,cf,rfl,my⟩
   |2,_=>exact⟨aW,cM,rfl,qz⟩
  refine fK (λm H T aU=>∃(q:Nat),H.g 0=some (.ptr b5 0)/\H.g 3=some (.ptr j 0)/\H.g 25=some (.agg [dj,dG,aW])/\H.g 26=some (.Z (q:Int))/\q+m=3/\((hM g).take (qH g q)).findSome? (λx=>if x.2.on≠[]/\(od t x.2.on).b=false then some x.2.fL else none)=none/\bo X aX a1 T aU)
   3 ⟨0,bw,bw,bw,fW,Zo,by simp[qH],bo.refl _ _⟩ ?_
  rintro m H bC da ⟨q,t0,t3,jY,lC,aD,j9,dv⟩
  have jC:=dv.le
  cases m with
  |zero=>
   have d:decide ((q:Int)<3)=false:=by simp only[Zb];omega
   have mc:q=3:=Zo
   subst mc
   rw[<-ND,YY]at j9
   refine cT @lC @d ⟨?_⟩
   exact bK _ _ _ ⟨a7 t0,a7 t3,j9,dv⟩
  |succ m=>
   have d:decide ((q:Int)<3)=true:=by simp only[Zh];omega
   obtain⟨fk,dO,tx,wi⟩:=HK q Zo
   have OP:uZ false 3 1 (.agg [dj,dG,aW]) (.Z (q:Int))=some fk:=by
    have am:Nat.blt q 3=true:=by simp[Nat.blt];omega
    simp only[uZ,sv,am,eX,j3,qG,Yl]
    exact tx
   have aew:=wi.len
   have atE:=wi.many
   rw[Zn]at aew atE
   refine gg @lC @jY @d @OP @aew ⟨?_⟩
   refine fK (λm H T aU=>∃(i:Nat),H.g 0=some (.ptr b5 0)/\H.g 3=some (.ptr j 0)/\H.g 25=some (.agg [dj,dG,aW])/\H.g 26=some (.Z (q:Int))/\H.g 29=some fk/\H.g 30=some (.Z ((mK g q).length:Int))/\H.g 31=some (.Z (i:Int))/\i+m=(mK g q).length/\((hM g).take (qH g q+i)).findSome? (λx=>if x.2.on≠[]/\(od t x.2.on).b=false then some x.2.fL else none)=none/\bo X aX a1 T aU)
    (mK g q).length ⟨0,a7 t0,a7 t3,a7 jY,a7 lC,bw,bw,fW,Zo,j9,dv⟩ ?_
   clear t0 t3 jY lC j9
   rintro fq H bW b4 ⟨i,t0,t3,jY,lC,FS,w5,Du,aN,j9,dJ⟩
   have ib:=dJ.le
   cases fq with
   |zero=>
    have d:=zr i (mK g q).length
    have bF:=zv q
    refine gg @Du @w5 @lC @d @bF ⟨?_⟩
    refine⟨m,Zo,q+1,a7 t0,a7 t3,a7 jY,bw,Zo, ?_,dJ⟩
    rw[agF g Zo]
    have:i=(mK g q).length:=Zo
    rw[<-this]
    exact j9
   |succ fq=>
    have d:=zs i (mK g q).length
    have bF:=zv i
    obtain⟨aJ,aH⟩:=zt (mK g q) i
    have pD:=wi.f3 i (by rw[Zn];omega)
    have av8:∀e,bm e->Y X bW e=Y X h e:=λe z=>by have:=bE e (qv e z);rw[dJ.ab e Zo,kZ e (qv e z)]
    have A4:=(wi.ab av8).row (i:=i) (r:=eT aJ) Zd (by rw[Zy,aH];rfl)
    have ko:eT aJ=[.str aJ.name, .Z aJ.at_, .bool aJ.ty.b, .bool aJ.ty.s, .Z aJ.ty.w, .str aJ.on, .Z aJ.fL, .bool aJ.no]:=rfl
    rw[ko]at A4
    have TS:=aca g (q:=q) Zo aH
    have aCK:=Kp.fr (ca.of (X:=[r]) dJ) (Zi _)
    refine iM @Du @w5 @FS @d @pD @A4 ⟨?_⟩
    generalize fB:Go.bd.bn X _ b4 _=b9
    have dT:Y X b9 b4=zu [.str aJ.name, .Z aJ.at_, .bool aJ.ty.b, .bool aJ.ty.s, .Z aJ.ty.w, .str aJ.on, .Z aJ.fL, .bool aJ.no] 8:=by rw[<-fB,bg Zo];rfl
    have dy:∀e,e<b4->Y X b9 e=Y X bW e:=λe z=>by rw[<-fB];exact zw
    clear fB
    have eG:bo X aX a1 b9 (b4+1):=⟨Zo,λe z=>by rw[dy e Zo];exact dJ.ab e z⟩
    have adk:=Kp.fr (ca.of (X:=[r]) eG) (Zi _)
    by_cases oU:aJ.on=[]
    ·have cF:∀i:Decidable (aJ.on≠[]), @decide (aJ.on≠[]) i=false:=λi=>by simp[oU]
     refine ci (bO dT) ⟨?_⟩
     simp only[cF]
     refine cT @Du @bF ⟨?_⟩
     refine⟨fq,Zo,i+1,a7 t0,a7 t3,a7 jY,a7 lC,a7 FS,a7 w5,bw,Zo, ?_,eG.more Zo⟩
     rw[<-ZJ,Ek TS j9]
     simp[oU]
    ·have cF:∀i:Decidable (aJ.on≠[]), @decide (aJ.on≠[]) i=true:=λi=>by simp[oU]
     refine ci (bO dT) ⟨?_⟩
     simp only[cF]
     refine cT @t0 (bO dT) ⟨?_⟩
     refine(L1 (j:=b4+1) (P:=λe=>P e\/cQ (j+1) a1 e) aw Zo Zo adk.GJ.dx adk.w8 (λe z=>zq (Kp.bE e z).2.1) aJ.on).Zm ?_
     rintro ac cB ef ⟨rfl,eW⟩
     have n5:=eW.le
     have Od:=eG.trans (eW.k3 Zo)
     have eY:Y X cB b4=zu [.str aJ.name, .Z aJ.at_, .bool aJ.ty.b, .bool aJ.ty.s, .Z aJ.ty.w, .str aJ.on, .Z aJ.fL, .bool aJ.no] 8:=by rw[eW.ab b4 Zo];exact dT
     cases aj:(od t aJ.on).b with
     |true=>
      refine gx @NQ @aj @Du @bF ⟨?_⟩
      refine⟨fq,Zo,i+1,a7 t0,a7 t3,a7 jY,a7 lC,a7 FS,a7 w5,bw,Zo, ?_,Od⟩
      rw[<-ZJ,Ek TS j9]
      simp[aj]
     |false=>
      refine et @NQ @aj (bO eY) ⟨?_⟩
      refine(J8 aw Zo aJ.fL).mono (λ_ _ _ a=>a) ?_
      rintro ac dX iD ⟨rfl,hX⟩
      have asH:GN t g=some aJ.fL:=GX TS j9 (by simp[oU,aj])
      exact⟨aJ.fL,by rw[EO,asH],rfl,dY.trans (ca.of (Od.trans hX))⟩
 ·rintro H bC da ⟨t0,t3,mZ,dv⟩
  have jC:=dv.le
  have ey:ca X [r,b5] h j bC da:=dY.trans (ca.of dv)
  have Ta:=Kp.fr (ca.of (X:=[r]) dv) (Zi _)
  have aqs:Y X bC j=zu [.str g.name, .Z g.at_,dj,dG,aW,eP] 6:=by rw[dv.ab j Zo];exact x3
  have ku:∀e,P e->Y X bC e=Y X h e:=λe z=>by have:=bE e z;rw[dv.ab e Zo,kZ e z]
  have Tk:kj X bC bx r cE:=Cu.ab (dv.ab r Zo) (λe z=>by have:=bE e (yb e z);exact dv.ab e Zo)
  have Ol:pk X bC r n:=Ok.ab (dv.ab r Zo)
  have asY:mP X bC bm g.eqs br:=e2.ab (λe z=>ku e (qv e z)) (λ_ a=>a)
  have lM:=e2.wide
  have d5:=j8.len
  have hO:=j8.many
  rw[lM.1]at d5 hO
  rw[mZ]at EO
  simp only[]at EO
  clear Cu x3 kZ bT oN ad9
  show cL _ _
  refine et @t3 (bO aqs) @d5 ⟨?_⟩
  refine fK (λm H T aU=>∃(W:Nat),H.g 0=some (.ptr b5 0)/\H.g 52=some eP/\H.g 53=some (.Z (g.eqs.length:Int))/\H.g 54=some (.Z (W:Int))/\W+m=g.eqs.length/\aiQ n X bC j da bx bm r ai t cE g.eqs br W T aU)
   g.eqs.length ⟨0,a7 t0,bw,bw,fW,Zo,⟨rfl,ca.refl _ _ _,cE,bm,Tk,λ_ _=>rfl,λ_ a=>a,by simpa using asY,by rw[ZI,ZI];rfl,by rw[ZI];exact Ol,qy⟩⟩ ?_
  clear t0 t3
  rintro m H bW b4 ⟨W,t0,yU,qP,kz,bK,fi⟩
  have dF:=fi.fr
  have ib:=dF.le
  have arK:=Ta.fr dF Zo
  obtain⟨Vk,qg,Kv,aev,AN,uM,CO,Ez,KS⟩:=fi.at_
  have j9:=fi.none_
  clear fi
  cases m with
  |zero=>
   have d:=zr W g.eqs.length
   rw[Zx Zo]at j9 Ez
   rw[Zx Zo,Zx Zo]at CO
   refine et @qP @kz @d ⟨?_⟩
   have oL:ca X [r,b5] h j bW b4:=ey.trans (dF.down (Zi _) (λb aj=> .inl (by simp at aj;simp[aj])))
   have LC:∀e,bm e->Y X bW e=Y X h e:=λe z=>by have:=bE e (qv e z);exact oL.ab e Zo (by simp;exact⟨this.2.2.1,this.2.2.2⟩)
   obtain⟨jO,z0,f1,fD,_⟩:=arK.Ke
   exact⟨rfl,⟨jO,z0,f1,fD⟩,Vk,Kv,aev,⟨by rw[EO];exact j9,dj,dG,aW,eP,bQ,cf,cM,ew,br,rfl,oP.ab LC,my.ab LC,qz.ab LC,j8.ab LC,e2.ab LC (λ_ a=>a),by rw[Pl];exact CO.ab (λ_ _=>rfl) (λ_ _=>rfl) (λ_ _=>rfl) (λe z=>z.1) (λ_ a=>a)⟩,oL,Ez⟩
  |succ m=>
   have d:=zs W g.eqs.length
   have bF:=zv W
   obtain⟨ah,bL⟩:=zt g.eqs W
   have aH:g.eqs.drop W=ah::g.eqs.drop (W+1):=by
    obtain⟨af,z⟩:=Zc.1 bL
    rw[Zv af,z]
   rw[aH]at uM
   obtain⟨row,gz,B,cA,qu,tu,TO⟩:=uM
   have EY:br[W]? =some row:=by
    have:(br.drop W)[0]? =some row:=by rw[cA];rfl
    simpa using this
   have wi:gz=br.drop (W+1):=by
    obtain⟨af,z⟩:=Zc.1 EY
    rw[Zv af]at cA
    simp only[Yw]at cA
    exact cA.2.symm
   subst wi
   obtain⟨ky,mI,db,dx,k8,rfl,hA,ka,mz,nA⟩:=id tu
   obtain⟨cR,rfl,v6,pE⟩:=mz.ptr
   have rf:∀e,B e->bm e:=λe z=>AN e (qu e z)
   have Cv:∀e,P e->e<da/\e≠r:=λe z=>by have:=bE e z;exact⟨Zo,this.2.2.1⟩
   have Fb:∀e,P e->Y X bW e=Y X h e:=λe z=>by have:=Cv e z;rw[dF.ab e this.1 (by simp[this.2]),ku e z]
   have dS:=j8.f3 W (by rw[lM.1];omega)
   have ic:=(j8.ab (λe z=>Fb e (qv e z))).row Zd EY
   have kc:g.eqs.take (W+1)=g.eqs.take W++[ah]:=by rw[ZY,bL];rfl
   have yw:br.take (W+1)=br.take W++[[ky,mI, .Z ah.at_, .ptr cR 0]]:=by rw[ZY,EY];rfl
   refine iM @kz @qP @yU @d @dS @ic ⟨?_⟩
   refine fw (hF (q:=4) (b:=b4) (U:=0) (n:=4) (bg Zo) Zo rfl Zd Zd nA) ?_
   generalize fB:Go.bd.bn X _ b4 _=b9
   have dT:Y X b9 b4=zu [ky,mI, .Z ah.at_, .ptr cR 0] 4:=by rw[<-fB,bg Zo];rfl
   have dy:∀e,e<b4->Y X b9 e=Y X bW e:=λe z=>by rw[<-fB];exact zw
   clear fB
   have eu:ca X [r] bC da b9 (b4+1):=⟨Zo,λe I J=>by rw[dy e Zo];exact dF.ab e I J⟩
   have arL:=Ta.fr eu Zo
   have Tl:kj X b9 bx r Vk:=Kv.ab (dy r Zo) (λe z=>by have:=Cv e (yb e z);exact dy e Zo)
   have asZ:cy X b9 B ah.right (.ptr cR 0):=cy.ab (λe z=>by have:=Cv e (qv e (rf e z));exact dy e Zo) _ _ mz
   refine cT @t0 (bO dT) ⟨?_⟩
   refine(apR (bx:=bx) (P:=λe=>P e\/cQ (j+1) a1 e) (dK:=a1) aw er aS bp (λe z=> .inl (yb e z)) (SizeOf.sizeOf ah.right+1) ah.right (Yq _) (hY ah (Zj bL)) B (.ptr cR 0) b9 (b4+1) Vk (n+qZ (g.eqs.take W)) (λe z=>Hh e (rf e z)) Zo arL Tl asZ (Ez.ab (dy r Zo)) (λe z=>KS e (qu e z))).mono ?_ ?_
   ·rintro ac cB ef ⟨eE,Vl,gO,HP,Ll,Hf,Hv,auX,el,Om⟩
    have n5:=el.le
    have adt:ca X [r] bC da cB ef:=eu.trans (el.down Zo (λb aj=> .inl aj))
    have arM:=Ta.fr adt Zo
    have eY:Y X cB b4=zu [ky,mI, .Z ah.at_, .ptr cR 0] 4:=by rw[el.ab b4 Zo (by simp;omega)];exact dT
    have aex:=hA.len
    have atF:=hA.many
    simp only[ih,Zn]at aex atF
    have av9:∀e,bm e->Y X cB e=Y X bW e:=λe z=>by have:=Cv e (qv e z);rw[el.ab e Zo (by simp[this.2]),dy e Zo]
    refine cT (bO eY) @aex ⟨?_⟩
    refine fK (λm H T aU=>∃(i:Nat) (s:D) (cJ:List Nat),H.g 0=some (.ptr b5 0)/\H.g 9=some (.ptr b4 0)/\H.g 10=some ac/\H.g 11=some s/\H.g 52=some eP/\H.g 53=some (.Z (g.eqs.length:Int))/\H.g 54=some (.Z (W:Int))/\H.g 63=some ky/\H.g 64=some (.Z (ah.left.length:Int))/\H.g 65=some (.Z (i:Int))/\i+m=ah.left.length/\gB X T s 3 (nh ((ah.left.take i).map (od t))).flatten cJ/\(∀e∈cJ,ef<=e/\e<aU)/\bo X cB ef T aU)
     ah.left.length ⟨0, .aV,[],a7 t0,bw,bw,bw,a7 yU,a7 qP,a7 kz,bw,bw,fW,Zo, .inl (.inl ⟨rfl,rfl,rfl⟩),Zs,bo.refl _ _⟩ ?_
    clear t0 yU qP kz
    rintro fq H dX iD ⟨i,s,cJ,t0,t9,oi,pc,yU,qP,kz,Dv,vf,Mn,aN,aF,fd,hX⟩
    have CE:=hX.le
    have adm:=arM.fr (ca.of (X:=[r]) hX) Zo
    have h7:Y X dX b4=zu [ky,mI, .Z ah.at_, .ptr cR 0] 4:=by rw[hX.ab b4 Zo];exact eY
    have UW:∀e,bm e->Y X dX e=Y X bW e:=λe z=>by have:=Cv e (qv e z);rw[hX.ab e Zo,av9 e z]
    cases fq with
    |zero=>
     have d:=zr i ah.left.length
     rw[Zx Zo]at aF
     obtain⟨anX,bt⟩:=aF.tT (P:=λe=>e<iD) Zd (I4 _) (by simp[nh];omega) (λe z=>(fd e z).2)
     have aff:kE X dX (λe=>e<iD) s (ah.left.map (od t)):=⟨anX,bt⟩
     have oY:=aff.rd.len
     rw[Zn]at oY
     have E3:kE X dX (λe=>e<iD) ac eE:=Ll.ab (λe z=>hX.ab e z.2) (λe z=>zq z.2)
     have ym:aO X dX (.ptr cR 0)=some (.Z ah.right.kind):=zB (UW cR (rf cR v6)) pE
     have gG:ca X [r] bC da dX iD:=adt.trans (ca.of (hX.k3 Zo))
     have OH:q3 ai t ah=if (1<ah.left.length/\ah.right.kind≠25)\/eE≠ah.left.map (od t)then some ah.at_ else none:=by unfold q3;rw[gO]
     have fin:∀{ee:K ag}{jo:Nat},ca X [r] bC da ee jo->q3 ai t ah=some ah.at_->u6 ai g=some ah.at_/\ca X [r,b5] h j ee jo:=λhf bs=>⟨by rw[EO];exact GX bL j9 bs,ey.trans (hf.down (Zi _) (λb aj=> .inl (by simp at aj;simp[aj])))⟩
     by_cases nz:1<ah.left.length/\ah.right.kind≠25
     ·have Ao:decide ((ah.left.length:Int)>1)=true:=by simp only[Zh];omega
      have An:decide (ah.right.kind≠25)=true:=by simp[nz.2]
      refine eF @Mn @vf @d @pc @oY @Ao (Za @t9 (Za (bO h7) (Za @ym @An))) ⟨?_⟩
      refine(J8 aw Zo ah.at_).mono (λ_ _ _ a=>a) ?_
      rintro ac ee jo ⟨rfl,jS⟩
      obtain⟨eM,eV⟩:=fin (gG.trans (ca.of jS)) (by rw[OH,Zu (.inl nz)])
      exact⟨_,eM,rfl,eV⟩
     ·apply Np
      ·intro eA
       by_cases qA:1<ah.left.length
       ·have Ao:decide ((ah.left.length:Int)>1)=true:=by simp only[Zh];omega
        have An:decide (ah.right.kind≠25)=false:=by simp only[Zb];exact λa=>nz ⟨qA,a⟩
        refine eF @Mn @vf @d @pc @oY @Ao (Za @t9 (Za (bO h7) (Za @ym @An))) ⟨?_⟩
        exact eA.out
       ·have Ao:decide ((ah.left.length:Int)>1)=false:=by simp only[Zb];omega
        refine iM @Mn @vf @d @pc @oY @Ao ⟨?_⟩
        exact eA.out
      ·refine cT @oi @pc ⟨?_⟩
       refine(aci (P:=λe=>e<iD) aw Zo E3 aff (λe a=>a)).Zm ?_
       rintro WB ee jo ⟨rfl,jS⟩
       have uP:=jS.le
       have hf:ca X [r] bC da ee jo:=gG.trans (ca.of jS)
       by_cases Oq:eE=ah.left.map (od t)
       ·have Sb:decide (eE=ah.left.map (od t))=true:=by simp[Oq]
        have adU:q3 ai t ah=none:=by rw[OH,Zg];exact λa=>a.elim nz (λa=>a Oq)
        refine et @Sb @kz @bF ⟨?_⟩
        have G9:=hX.trans jS
        have afA:∀e,bm e->Y X ee e=Y X bW e:=λe z=>by have:=Cv e (qv e z);rw[jS.ab e Zo,UW e z]
        refine⟨m,Zo,W+1,a7 t0,a7 yU,a7 qP,bw,Zo,⟨by rw[Ek bL j9];exact adU,hf,Vl,λe=>qg e/\¬B e,Hf.ab (G9.ab r Zo) (λe z=>by have:=Cv e (yb e z);exact G9.ab e Zo),λe z=>(Hv e (λa=>z (rf e a))).trans (aev e z),λe z=>AN e z.1,TO.ab (λe z=>afA e (AN e z.1)) (λ_ a=>a), ?_,by rw[kc,aop, <-ZJ];exact Om.ab (G9.ab r Zo),λe z=>(Hv e z.2).trans (KS e z.1)⟩⟩
        rw[kc,yw]
        refine ug.snoc (v:= .ptr cR 0) rfl adU (lY.ab (λe z=>by have:=Cv e (qv e (rf e z));exact G9.ab e Zo) (λe z=>G9.ab e z.2) (λ_ _=>rfl) (λe z=>⟨rf e z,λa=>a.2 z⟩) (λe z=>⟨zq z.1,zq z.2⟩) _ _ auX) (CO.ab (λe z=>afA e z.1) (λe z=> ?_) (λe z=>Hv e (λa=>z.2 (qu e a))) (λe z=>⟨z.1,λa=>z.2 a.1⟩) (λe z=>⟨z.1,zq z.2⟩))
        have I:=z.1;have J:=z.2
        rw[G9.ab e Zo,el.ab e Zo (by simp;omega),dy e J]
       ·have Sb:decide (eE=ah.left.map (od t))=false:=by simp[Oq]
        have mW:Y X ee b4=zu [ky,mI, .Z ah.at_, .ptr cR 0] 4:=by rw[jS.ab b4 Zo];exact h7
        refine et @Sb @t9 (bO mW) ⟨?_⟩
        refine(J8 aw Zo ah.at_).mono (λ_ _ _ a=>a) ?_
        rintro ac gM d1 ⟨rfl,Ew⟩
        obtain⟨eM,eV⟩:=fin (hf.trans (ca.of Ew)) (by rw[OH,Zu (.inr Oq)])
        exact⟨_,eM,rfl,eV⟩
    |succ fq=>
     have d:=zs i ah.left.length
     have cn:=zv i
     obtain⟨w,bt⟩:=zt ah.left i
     have CP:=hA.f3 i (by simp[ih];omega)
     have E5:=(hA.ab (λe z=>UW e (rf e z))).cell i [.str w] 0 (.str w) (by simp[ih,bt]) rfl
     rw[Yl]at CP E5
     rw[ZW]at E5
     have Lj:ah.left.take (i+1)=ah.left.take i++[w]:=by rw[ZY,bt];rfl
     refine eF @Mn @vf @Dv @d @CP @E5 (Za @pc @t0) ⟨?_⟩
     refine(L1 (j:=iD) (P:=λe=>P e\/cQ (j+1) a1 e) aw Zo Zo adm.GJ.dx adm.w8 (λe z=>zq (Kp.bE e z).2.1) w).Zm ?_
     rintro WB ee jo ⟨rfl,jS⟩
     have uP:=jS.le
     refine ci ed.eq_1 ⟨?_⟩
     generalize sc:Go.bd.bn X ee jo _=gM
     have hN:Y X gM jo=zu (ed (od t w)) 3:=by rw[<-sc,bg Zo];rfl
     have mC:∀e,e<jo->Y X gM e=Y X ee e:=λe z=>by rw[<-sc,aI Zo Zo]
     clear sc
     obtain⟨fk,Gk,gC,ix,Lg,asv,wb⟩:=WA (j:=jo+1) (aF.ab (T:=gM) (λe z=>by have:=fd e z;rw[mC e Zo,jS.ab e this.2])) hN (by rw[Zn,zf];omega) Zo (λe z=>zq (fd e z)) 1
     refine kN ix ?_
     refine cT @Mn @cn ⟨?_⟩
     refine⟨fq,Zo,i+1,fk,gC,a7 t0,a7 t9,a7 oi,bw,a7 yU,a7 qP,a7 kz,a7 Dv,a7 vf,bw,Zo, ?_,λe z=> ?_,⟨Zo,λe z=> ?_⟩⟩
     ·rw[Lj,Yi];exact Lg
     ·rcases asv e z with rfl|a
      ·omega
      ·have:=fd e a;omega
     ·rw[wb e Zo (λa=>zq (fd e a)),mC e Zo,jS.ab e Zo];exact hX.ab e z
   ·rintro ac cB ef ⟨F,aC,rfl,el⟩
    exact⟨F,by rw[EO];exact GX bL j9 (by unfold q3;rw[aC]),rfl,ey.trans ((eu.trans el).down (Zi _) (λb aj=> .inl (by simp at aj;simp[aj])))⟩
end
section
variable{X:cb}{h T aP aM:K ag}{j an aG a1:Nat}{P c3:Nat->Prop}
def Vp(p:D):l0 X h 65 p=aO X h p:=Zk
def abt:∃fn c,(o X).P.funcs[76]? =some fn/\fn.body=some c:=NR (Rs X)
def aze(aw:du X){F b:D}{bm:Bool->K ag->Nat->Prop}(a:bm false h j):us X (.func 76) ([]++[F,b]) none h j bm:=by
 refine⟨aw.none _ _ rfl,abt,NS (Rs X) ?_⟩
 show Ay X 76 [F,b] none h j bm
 rw[aaA]
 unfold Rr
 show bB _ _
 refine ci @ach ⟨?_⟩
 exact a
def azf(aw:du X){F b:Nat}{q at_:Int}{db dx:K D}{bm:Bool->K ag->Nat->Prop}(aE:(o X).a2<=F)(lv:(o X).a2<=b)(AP:F≠b)(EA:F<j)(uI:b<j)(hN:Y X h F=some (.cells db 1 .own))(py:Y X h b=some (.cells dx 2 .own))
 (a:∀T aU,j<=aU->aO X T (.ptr F 0)=some .cx->d8 X T 2 (.ptr b 0)=some (.agg [.Z q, .Z at_])->(∀e,e<j->e≠F->e≠b->Y X T e=Y X h e)->bm true T aU):us X (.func 76) ([]++[.ptr F 0, .ptr b 0]) (some (pw q at_)) h j bm:=by
 refine⟨aw.none _ _ rfl,abt,NS (Rs X) ?_⟩
 show Ay X 76 [.ptr F 0, .ptr b 0] (some (pw q at_)) h j bm
 rw[aaA]
 unfold Rr
 show bB _ _
 have RI:Gx 26 (.agg [.Z 0, .Z 0]) true (pw q at_)=some (.tuple [.agg [.Z q, .Z at_], .zT]):=s4 _ _ _
 have FF:∀(H:cV) (n:Nat),(Qp H).g n=H.g n:=λ_ _=>rfl
 refine et @acg @RI @FF ⟨?_⟩
 generalize dZ:bn X _ j _=aP
 have b3:Y X aP j=zu [.Z q, .Z at_] 2:=by rw[<-dZ,bg Zo];rfl
 have I:∀e,e<j->Y X aP e=Y X h e:=λe z=>by rw[<-dZ];exact zw
 rw[<-I F EA]at hN
 rw[<-I b uI]at py
 clear dZ
 refine cT (bO b3) @FF ⟨?_⟩
 refine g2 (by simp[D.same,o3,qM]) ?_
 generalize dI:bn X aP F _=aM
 have b7:Y X aM F=some (.cells (dN db 0 [.cx]) 1 .own):=by rw[<-dI,bg aE];rfl
 have J:∀e,e≠F->Y X aM e=Y X aP e:=λe z=>by rw[<-dI,aI aE z]
 rw[<-J b Zo]at py
 clear dI
 refine uw @FF ⟨?_⟩
 refine fw (hF (q:=2) (b:=b) (U:=0) (n:=2) py lv rfl Zd Zd rfl) ?_
 show bm true _ _
 refine a _ _ Zo ?_ ?_ (λe z UK gi=> ?_)
 ·rw[bO (by rw[aI lv AP];exact b7),jd];rfl
 ·rw[o1,bO (bg lv),bO (bg lv),jd,jd];rfl
 ·rw[aI lv gi,J e UK,I e z]
def azv{ak:bI}{H:cV}{p ah v w:D}(mw:H.bc=[])(J:H.g 2=some p)(am:H.g 3=some ah)(ei:aO X h p=some v)(c4:d8 X h 2 ah=some w)(a:ak (.tuple [v,w]) h j):IR X ak H h j:=by
 unfold IR
 rw[mw]
 show cL (H.g 2) (λp=>ax (l0 X h 65 p) λv=>cL (H.g 3) λp=>ax (l0 X h 26 p) λw=>ak (.tuple [v,w]) h j)
 rw[J,am]
 refine lP ?_
 rw[Vp,ei]
 refine lQ ?_
 refine lP ?_
 rw[Ih,c4]
 exact lQ a
def azw{ak:bI}{H:cV}{p ah v w F b:D}(aw:du X)(mw:H.bc=[⟨.fn (.func 76) [F,b],[]⟩])(J:H.g 2=some p)(am:H.g 3=some ah)(ei:aO X h p=some v)(c4:d8 X h 2 ah=some w)(a:ak (.tuple [v,w]) h j):IR X ak H h j:=by
 unfold IR
 rw[mw]
 show us X (.func 76) ([]++[F,b]) none h j λ_ h j=>nI X [.cell 2 65, .cell 3 26] ak H [] h j
 refine aze aw ?_
 show cL (H.g 2) (λp=>ax (l0 X h 65 p) λv=>cL (H.g 3) λp=>ax (l0 X h 26 p) λw=>ak (.tuple [v,w]) h j)
 rw[J,am]
 refine lP ?_
 rw[Vp,ei]
 refine lQ ?_
 refine lP ?_
 rw[Ih,c4]
 exact lQ a
def ays{ak av:bI}{H:cV}{F b:Nat}{q at_:Int}{db dx:K D}(aw:du X)(mw:H.bc=[⟨.fn (.func 76) [.ptr F 0, .ptr b 0],[]⟩])(J:H.g 2=some (.ptr F 0))(am:H.g 3=some (.ptr b 0))
 (aE:(o X).a2<=F)(lv:(o X).a2<=b)(AP:F≠b)(EA:F<j)(uI:b<j)(hN:Y X h F=some (.cells db 1 .own))(py:Y X h b=some (.cells dx 2 .own))
 (a:∀T aU,j<=aU->(∀e,e<j->e≠F->e≠b->Y X T e=Y X h e)->ak (.tuple [.cx, .agg [.Z q, .Z at_]]) T aU):P8 X ak av H (pw q at_) h j:=by
 unfold P8
 rw[mw]
 show us X (.func 76) ([]++[.ptr F 0, .ptr b 0]) (some (pw q at_)) h j λb h j=>bY b (nI X [.cell 2 65, .cell 3 26] ak H [] h j) _
 refine azf aw aE lv AP EA uI hN py (λT aU gq ei c4 aD=> ?_)
 show cL (H.g 2) (λp=>ax (l0 X T 65 p) λv=>cL (H.g 3) λp=>ax (l0 X T 26 p) λw=>ak (.tuple [v,w]) T aU)
 rw[J,am]
 refine lP ?_
 rw[Vp,ei]
 refine lQ ?_
 refine lP ?_
 rw[Ih,c4]
 exact lQ (a T aU gq aD)
def DN.ab{ai:List Go.aR.Node}{cE jb:Nat->Option D}{nP rY:Nat->Prop}{g:Go.aR.Node}{row:List D}(a:DN X h ai cE P c3 g row)(q:∀e,P e->Y X T e=Y X h e)(tG:∀e,c3 e->Y X T e=Y X h e)(az:∀e,P e->jb e=cE e)(ay:∀e,P e->nP e)(z:∀e,c3 e->rY e):DN X T ai jb nP rY g row:=by
 obtain⟨aS,dj,dG,aW,eP,bQ,cf,cM,ew,br,I,J,am,aB,bk,b6,c5⟩:=a
 exact⟨aS,dj,dG,aW,eP,bQ,cf,cM,ew,br,I,(J.ab q).lift ay,(am.ab q).lift ay,(aB.ab q).lift ay,(bk.ab q).lift ay,b6.ab q ay,c5.ab q tG az ay z⟩
def uf(X:cb)(h:K ag)(ai:List Go.aR.Node)(cE:Nat->Option D)(P c3:Nat->Prop):List Go.aR.Node->List (List D)->Prop
 |[],br=>br=[]
 |g::k,br=>∃row gz,br=row::gz/\DN X h ai cE P c3 g row/\uf X h ai cE P c3 k gz
def uf.ab{ai:List Go.aR.Node}{cE jb:Nat->Option D}{nP rY:Nat->Prop}(q:∀e,P e->Y X T e=Y X h e)(tG:∀e,c3 e->Y X T e=Y X h e)(az:∀e,P e->jb e=cE e)(ay:∀e,P e->nP e)(z:∀e,c3 e->rY e):∀{k:List Go.aR.Node}{br:List (List D)},uf X h ai cE P c3 k br->uf X T ai jb nP rY k br:=by
 intro k
 induction k with
 |nil=>intro br a;exact a
 |cons g k al=>
  rintro br ⟨row,gz,I,J,am⟩
  exact⟨row,gz,I,J.ab q tG az ay z,al am⟩
def uf.snoc{ai:List Go.aR.Node}{cE:Nat->Option D}{g:Go.aR.Node}{row:List D}(a:DN X h ai cE P c3 g row):∀{k:List Go.aR.Node}{br:List (List D)},uf X h ai cE P c3 k br->uf X h ai cE P c3 (k++[g]) (br++[row]):=by
 intro k
 induction k with
 |nil=>rintro br rfl;exact⟨row,[],rfl,a,rfl⟩
 |cons F k al=>
  rintro br ⟨rF,gz,rfl,J,am⟩
  exact⟨rF,gz++[row],rfl,J,al am⟩
def aiX(X:cb)(h:K ag)(ai:List Go.aR.Node)(cE:Nat->Option D)(P c3:Nat->Prop)(p:D):Prop:=∃b aW cp br,p= .ptr b 0/\P b/\aO X h (.ptr b 0)=some aW/\dD X h P cp aW 6 br/\uf X h ai cE P c3 ai br
def lx(ai:List Go.aR.Node):Int×Int:=if (uo ai).1≠0 then uo ai else match BD ai with|some F=>(26,F)|none=>(0,0)
def B9:List Go.aR.Node->Nat
 |[]=>0
 |g::k=>qZ g.eqs+B9 k
def aon(g:Go.aR.Node):∀k:List Go.aR.Node,B9 (k++[g])=B9 k+qZ g.eqs:=by
 intro k
 induction k with
 |nil=>simp[B9]
 |cons F k al=>rw[YC,B9,B9,al];omega
def amK(X:cb)(h:K ag)(ai:List Go.aR.Node)(P c3:Nat->Prop)(p v:D):Prop:=∃ah r cE,v= .ptr ah 0/\c3 ah/\c3 r/\aO X h (.ptr ah 0)=some (.map r)/\kj X h P r cE/\aiX X h ai cE P c3 p/\pk X h r (B9 ai)
def DG(X:cb)(h:K ag)(ai:List Go.aR.Node)(P c3:Nat->Prop)(p ac:D):Prop:=if (lx ai).1=0 then ∃v,ac= .tuple [v, .agg [.Z 0, .Z 0]]/\amK X h ai P c3 p v else ac= .tuple [.cx, .agg [.Z (lx ai).1, .Z (lx ai).2]]
def Ge.ab{dK b5 ah r:Nat}{p:D}{ai:List Go.aR.Node}(a:Ge X h dK P b5 ah r p ai)(q:∀e,e<dK->e≠r->e≠b5->Y X T e=Y X h e)(bU:∃c,Y X T b5=some (.cells c 3 .own)/\c.get 0=some (.ptr ah 0)/\c.get 1=some p):Ge X T dK P b5 ah r p ai:=
 ⟨a.a2,a.lc,a.Ij,a.C6,a.Ix,a.agp,a.D7,a.qr,a.R3,a.bE,bU,zB (q ah a.Ij a.qr a.R3) a.FW,a.prog.ab (λe z=>by have:=a.bE e z;exact q e this.2.1 this.2.2.1 this.2.2.2) (λ_ a=>a)⟩
set_option maxRecDepth 100000 in
def abC(aw:iI X)(bT:lV X)(eN:rT X)(gY:xD X)(er:DK X){ai:List Go.aR.Node}{p:D}(aE:(o X).a2<=j)(bU:nQ X h P ai p)(bE:∀e,P e->(o X).a2<=e/\e<j)(bt:∀g∈ai,mQ gV g)(aS:ai≠[])(az:nC ai=none):
 aY X 31 [p] h j (λac T an=>DG X T ai P (cQ j an) p ac/\bo X h j T an) (λ_ _ _=>False):=by
 refine JP (alZ X) (aw.todu.none _ _ rfl) ?_
 rw[al0]
 unfold aal
 obtain⟨qA,n4⟩:=Vh az
 refine cK ⟨?_⟩
 refine fh (λaP=>Y X aP j=zu [.cx] 1/\Y X aP (j+1)=zu [.Z 0, .Z 0] 2/\bo X h j aP (j+1+1)) ⟨by simp(disch:=omega) only[aI,bg]<;>rfl,by rw[bg Zo];rfl,dM⟩ ?_
 rintro aP ⟨b3,b7,bN⟩
 refine(aof (j:=j+1+1) aw bT eN gY Zo (bU.ab (bm:=P) (λe z=>bN.ab e (bE e z).2) (λ_ a=>a)) (λe z=>zq (bE e z).2) bt aS az).Zm ?_
 rintro ac aM a1 ⟨rfl,bJ⟩
 have f7:=bJ.le
 have cS:Y X aM j=zu [.cx] 1:=by rw[bJ.ab _ Zo];exact b3
 have eh:Y X aM (j+1)=zu [.Z 0, .Z 0] 2:=by rw[bJ.ab _ Zo];exact b7
 have jk:=bN.trans bJ
 clear b3 b7 bN bJ
 have me:(uo ai).1≠0->lx ai=uo ai:=λa=>by unfold lx;rw[Zu a]
 have Ld:(uo ai).1=0->lx ai=match BD ai with|some F=>(26,F)|none=>(0,0):=λa=>by unfold lx;rw[Zg (by simp[a])]
 generalize uo ai=GJ at me Ld ⊢
 obtain⟨cc,vy⟩:=GJ
 simp only at me Ld
 by_cases aA:cc=0
 ·have pG:=Ld aA
  subst aA
  clear me Ld
  have d:decide ((0:Int)≠0)=false:=rfl
  refine ci @d ⟨?_⟩
  generalize e9:Go.bd.bn X _ a1 _=aX
  have cP:∀e,e<a1->Y X aX e=Y X aM e:=λe z=>by rw[<-e9];exact zw
  clear e9
  rw[<-cP j Zo]at cS
  rw[<-cP (j+1) Zo]at eh
  have CY:∀e,e<j->Y X aX e=Y X h e:=λe z=>by rw[cP e Zo];exact jk.ab e z
  have TQ:=bU.ab (T:=aX) (bm:=P) (λe z=>CY e (bE e z).2) (λ_ a=>a)
  obtain⟨iV,Bq,L5,br,rfl,jA,a0,cA,kK⟩:=TQ
  have yr:=kK.wide
  have d5:=cA.len
  have hO:=cA.many
  rw[yr.1]at d5 hO
  have A0:=bE iV jA
  refine abT ?_
  generalize e4:Br _ _=vr
  have kO:vr.bc=[⟨.fn (.func 76) [.ptr j 0, .ptr (j+1) 0],[]⟩]:=by rw[<-e4];rfl
  have t0:vr.g 0=some (.ptr iV 0):=by rw[<-e4];rfl
  have dQ:vr.g 2=some (.ptr j 0):=by rw[<-e4];rfl
  have t3:vr.g 3=some (.ptr (j+1) 0):=by rw[<-e4];rfl
  clear e4
  generalize AX:a1+1=bf at*
  refine gg @t0 @dQ @cS @a0 @d5 ⟨?_⟩
  generalize eH:Go.bd.bn X _ (bf+1+1) _=bC
  have vM:Y X bC bf=some (.map [] 0):=by rw[<-eH];simp(disch:=omega) only[bg,aI]
  have Em:Y X bC (bf+1)=zu [.map bf] 1:=by rw[<-eH];simp(disch:=omega) only[bg,aI]<;>rfl
  have acP:Y X bC (bf+1+1)=zu [.ptr (bf+1) 0, .ptr iV 0, .cx] 3:=by rw[<-eH,bg Zo];rfl
  have aqY:Y X bC j=some (.cells (dN (K.ofList [.cx] 0 .nil) 0 [.ptr (bf+1) 0]) 1 .own):=by rw[<-eH];simp(disch:=omega) only[bg,aI]<;>rfl
  have d0:∀e,e<bf->e≠j->Y X bC e=Y X aX e:=λe I J=>by rw[<-eH];exact zw
  clear eH
  have aqX:Y X bC (j+1)=zu [.Z 0, .Z 0] 2:=by rw[d0 _ Zo Zo];exact eh
  have ku:∀e,P e->Y X bC e=Y X aX e:=λe z=>by have:=bE e z;exact d0 e Zo Zo
  have K4:=kK.ab (T:=bC) (bm:=P) ku (λ_ a=>a)
  have S7:Ge X bC (bf+1+1+1) P (bf+1+1) (bf+1) bf (.ptr iV 0) ai:=⟨Zo,Zo,Zo,Zo,Zo,Zo,Zo,Zo,Zo,λe z=>by have:=bE e z;exact⟨this.1,Zo,Zo,Zo⟩,⟨_,acP,rfl,rfl⟩,by rw[bO Em];rfl,⟨iV,Bq,L5,br,rfl,jA,zB (ku iV jA) a0,cA.ab ku,K4⟩⟩
  have arX:kj X bC P bf (λ_=>none):=⟨[],0,vM,λ_=>rfl,Zs⟩
  have ar0:pk X bC bf 0:=⟨[],0,vM,rfl⟩
  refine fK (λm H T aU=>∃(W:Nat) (cE:Nat->Option D) (mS:Nat->Prop),H.g 5=some (.ptr (bf+1+1) 0)/\H.g 25=some Bq/\H.g 26=some (.Z (ai.length:Int))/\H.g 27=some (.Z (W:Int))/\H.bc=[⟨.fn (.func 76) [.ptr j 0, .ptr (j+1) 0],[]⟩]/\H.g 2=some (.ptr j 0)/\H.g 3=some (.ptr (j+1) 0)/\W+m=ai.length/\(ai.take W).findSome? (u6 ai)=none/\(∃c,Y X T (bf+1+1)=some (.cells c 3 .own)/\c.get 0=some (.ptr (bf+1) 0)/\c.get 1=some (.ptr iV 0))/\ca X [bf,bf+1+1] bC (bf+1+1+1) T aU/\kj X T P bf cE/\(∀e,mS e->P e)/\lX X T mS (ai.drop W) (br.drop W)/\uf X T ai cE (λe=>P e/\¬mS e) (cQ (bf+1+1+1) aU) (ai.take W) (br.take W)/\pk X T bf (B9 (ai.take W))/\∀e,mS e->cE e=none)
   ai.length ⟨0,λ_=>none,P,bw,bw,bw,fW,kO,a7 dQ,a7 t3,Zo,rfl,⟨_,acP,rfl,rfl⟩,ca.refl _ _ _,arX,λ_ a=>a,by simpa using K4,by rw[ZI,ZI];rfl,by rw[ZI];exact ar0,λ_ _=>rfl⟩ ?_
  clear kO t0 dQ t3 cS eh
  rintro m H bW b4 ⟨W,cE,mS,t5,jY,lC,FR,Mq,dQ,t3,bK,j9,ls,dF,Kv,sb,nx,Lk,Ez,KS⟩
  have ib:=dF.le
  have Fb:∀e,P e->Y X bW e=Y X aX e:=λe z=>by have:=bE e z;rw[dF.ab e Zo (by simp;omega),ku e z]
  have SU:Y X bW j=some (.cells (dN (K.ofList [.cx] 0 .nil) 0 [.ptr (bf+1) 0]) 1 .own):=by rw[dF.ab j Zo (by simp;omega)];exact aqY
  have acV:Y X bW (j+1)=zu [.Z 0, .Z 0] 2:=by rw[dF.ab (j+1) Zo (by simp;omega)];exact aqX
  have T5:∀e,e<j->Y X bW e=Y X h e:=λe z=>by rw[dF.ab e Zo (by simp;omega),d0 e Zo Zo,CY e z]
  cases m with
  |zero=>
   have d:=zr W ai.length
   rw[Zx Zo]at j9 Ez
   rw[Zx Zo,Zx Zo]at Lk
   have jn:BD ai=none:=j9
   rw[jn]at pG
   simp only[]at pG
   have gJ:aO X bW (.ptr j 0)=some (.ptr (bf+1) 0):=by rw[bO SU,jd];rfl
   refine eF @FR @lC @d @dQ @gJ @SU (Za @t3 @acV) ⟨?_⟩
   generalize fB:Go.bd.bn X _ (j+1) _=b9
   have f1:Y X b9 j=some (.cells (dN (dN (K.ofList [.cx] 0 .nil) 0 [.ptr (bf+1) 0]) 0 [.ptr (bf+1) 0]) 1 .own):=by rw[<-fB];simp(disch:=omega) only[bg,aI]<;>rfl
   have fD:Y X b9 (j+1)=some (.cells (dN (K.ofList [.Z 0, .Z 0] 0 .nil) 0 [.Z 0, .Z 0]) 2 .own):=by rw[<-fB,bg Zo];rfl
   have z3:∀e,e≠j->e≠j+1->Y X b9 e=Y X bW e:=λe I J=>by rw[<-fB];exact zw
   clear fB
   have wv:∀e,P e->Y X b9 e=Y X bW e:=λe z=>by have:=bE e z;exact z3 e Zo Zo
   have aBf:aO X b9 (.ptr (bf+1) 0)=some (.map bf):=by rw[co,z3 _ Zo Zo,dF.ab (bf+1) Zo Zs, <-co,bO Em];rfl
   refine azw (v:= .ptr (bf+1) 0) (w:= .agg [.Z 0, .Z 0]) aw.todu Mq (a7 dQ) (a7 t3) (by rw[bO f1,jd];rfl) (by rw[o1,bO fD,bO fD,jd,jd];rfl) ⟨?_,Zo,λe z=>by rw[z3 e Zo Zo];exact T5 e z⟩
   unfold DG
   rw[Zu (by rw[pG])]
   exact⟨_,rfl,bf+1,bf,cE,rfl,⟨Zo,Zo⟩,⟨Zo,Zo⟩,aBf,Kv.ab (z3 _ Zo Zo) wv,⟨iV,Bq,L5,br,rfl,jA,by rw[co,wv iV jA,Fb iV jA, <-co];exact a0,cA.ab (λe z=>by rw[wv e z,Fb e z]),Lk.ab (λe z=>wv e z.1) (λe z=>z3 e (zq z.1) (zq z.1)) (λ_ _=>rfl) (λe z=>z.1) (λe z=>⟨zq z.1,z.2⟩)⟩,Ez.ab (z3 _ Zo Zo)⟩
  |succ m=>
   have d:=zs W ai.length
   have bF:=zv W
   obtain⟨g,kX⟩:=zt ai W
   have mx:=Zj kX
   have aH:ai.drop W=g::ai.drop (W+1):=by
    obtain⟨af,z⟩:=Zc.1 kX
    rw[Zv af,z]
   rw[aH]at nx
   obtain⟨row,gz,bm,EZ,fj,jD,asm⟩:=nx
   have EY:br[W]? =some row:=by
    have:(br.drop W)[0]? =some row:=by rw[EZ];rfl
    simpa using this
   have wi:gz=br.drop (W+1):=by
    obtain⟨af,z⟩:=Zc.1 EY
    rw[Zv af]at EZ
    simp only[Yw]at EZ
    exact EZ.2.symm
   subst wi
   have qv:∀e,bm e->P e:=λe z=>sb e (fj e z)
   have dS:=cA.f3 W (by rw[yr.1];omega)
   have ic:=(cA.ab Fb).row Zd EY
   have jE:=jD.jH
   have ES:=jD
   have kc:ai.take (W+1)=ai.take W++[g]:=by rw[ZY,kX];rfl
   have yw:br.take (W+1)=br.take W++[row]:=by rw[ZY,EY];rfl
   obtain⟨dj,dG,jJ,eP,bQ,cf,cM,ew,gz,rfl,_⟩:=jD
   refine iM @FR @lC @jY @d @dS @ic ⟨?_⟩
   refine fw (hF (q:=6) (b:=b4) (U:=0) (n:=6) (c:=K.ofList [.str [], .Z 0, .aV, .aV, .aV, .aV] 0 .nil) (bg Zo) Zo rfl Zd Zd jE) ?_
   generalize fB:Go.bd.bn X _ b4 _=b9
   have dT:Y X b9 b4=zu [.str g.name, .Z g.at_,dj,dG,jJ,eP] 6:=by rw[<-fB,bg Zo];rfl
   have dy:∀e,e<b4->Y X b9 e=Y X bW e:=λe z=>by rw[<-fB];exact zw
   clear fB
   have eG:Ge X b9 (bf+1+1+1) P (bf+1+1) (bf+1) bf (.ptr iV 0) ai:=S7.ab (λe I J am=>by rw[dy e Zo];exact dF.ab e I (by simp;exact⟨J,am⟩)) (by rw[dy _ Zo];exact ls)
   have Tl:kj X b9 P bf cE:=Kv.ab (dy _ Zo) (λe z=>by have:=bE e z;exact dy e Zo)
   have eu:ca X [bf,bf+1+1] bC (bf+1+1+1) b9 (b4+1):=⟨Zo,λe I J=>by rw[dy e Zo];exact dF.ab e I J⟩
   refine cT @t5 (bO dT) ⟨?_⟩
   refine(axM (j:=b4+1) (bx:=P) (P:=P) (bm:=bm) aw.todu er aS (λg bU=>zq (n4 g bU).vars) (λ_ a=>a) qv Zo eG Tl (Ez.ab (dy _ Zo)) (λe z=>KS e (fj e z)) (ES.ab (bm:=bm) (λe z=>by have:=bE e (qv e z);exact dy e Zo) (λ_ a=>a)) (λah bL=>((bt g mx).eqs ah bL).right) (by rw[ND];have:=(n4 g mx).vars;simp only[qH];omega)).mono ?_ ?_
   ·rintro ac cB ef ⟨rfl,asF,Vl,Hf,Hv,Om,el,ar3⟩
    have n5:=el.le
    have afH:∀e,e<b4->e≠bf->e≠bf+1+1->Y X cB e=Y X bW e:=λe I J am=>by rw[el.ab e Zo (by simp;exact⟨J,am⟩),dy e I]
    have ru:∀e,P e->Y X cB e=Y X bW e:=λe z=>by have:=bE e z;exact afH e Zo Zo Zo
    refine cT @FR @bF ⟨?_⟩
    refine⟨m,Zo,W+1,Vl,λe=>mS e/\¬bm e,a7 t5,a7 jY,a7 lC,bw,Mq,a7 dQ,a7 t3,Zo,by rw[Ek kX j9];exact Om.1,asF,eu.trans (el.down Zo (λb aj=> .inl aj)),Hf,λe z=>sb e z.1,asm.ab (λe z=>ru e (sb e z.1)) (λ_ a=>a), ?_,by rw[kc,aon];exact ar3,λe z=>(Hv e z.2).trans (KS e z.1)⟩
    rw[kc,yw]
    exact uf.snoc (Om.ab (λ_ _=>rfl) (λ_ _=>rfl) (λ_ _=>rfl) (λe z=>⟨qv e z,λa=>a.2 z⟩) (λe z=>⟨zq z.1,z.2⟩)) (Lk.ab (λe z=>ru e z.1) (λe z=>afH e z.2 (zq z.1) (zq z.1)) (λe z=>Hv e (λa=>z.2 (fj e a))) (λe z=>⟨z.1,λa=>z.2 a.1⟩) (λe z=>⟨z.1,zq z.2⟩))
   ·rintro ac cB ef ⟨F,aC,rfl,el⟩
    have n5:=el.le
    have jn:BD ai=some F:=GX kX j9 aC
    rw[jn]at pG
    simp only[]at pG
    refine ays (db:=dN (K.ofList [.cx] 0 .nil) 0 [.ptr (bf+1) 0]) (dx:=K.ofList [.Z 0, .Z 0] 0 .nil) aw.todu Mq (by have bp:o5 2 [31,32,33]=false:=rfl;simp[q1,tY,dQ,bp]) (by have bp:o5 3 [31,32,33]=false:=rfl;simp[q1,tY,t3,bp]) aE Zo Zo Zo Zo ?_ ?_ (λT aU gq aD=>⟨?_,Zo,λe z=> ?_⟩)
    ·rw[el.ab j Zo (by simp;omega),dy j Zo];exact SU
    ·rw[el.ab (j+1) Zo (by simp;omega),dy (j+1) Zo];exact acV
    ·unfold DG
     rw[pG,Zg (show ¬(26:Int)=0 by decide)]
    ·rw[aD e Zo Zo Zo,el.ab e Zo (by simp;omega),dy e Zo];exact T5 e z
 ·have pG:=me aA
  clear me Ld
  have d:decide (cc≠0)=true:=by simp[aA]
  refine cT @d @cS ⟨?_⟩
  refine g2 (by simp[D.same,o3,qM]) ?_
  refine ci @eh ⟨?_⟩
  generalize e9:Go.bd.bn X _ (j+1) _=aX
  have f1:Y X aX j=some (.cells (dN (K.ofList [.cx] 0 .nil) 0 [.cx]) 1 .own):=by rw[<-e9];simp(disch:=omega) only[bg,aI]<;>rfl
  have fD:Y X aX (j+1)=some (.cells (dN (K.ofList [.Z 0, .Z 0] 0 .nil) 0 [.Z cc, .Z vy]) 2 .own):=by rw[<-e9,bg Zo];rfl
  have z3:∀e,e<j->Y X aX e=Y X h e:=λe I=>by rw[<-e9];simp(disch:=omega) only[aI];exact jk.ab e I
  clear e9
  refine azv (v:= .cx) (w:= .agg [.Z cc, .Z vy]) rfl (fW) (fW) (by rw[bO f1,jd];rfl) (by rw[o1,bO fD,bO fD,jd,jd];rfl) ⟨?_,Zo,z3⟩
  unfold DG
  rw[pG,Zg aA]
end
def aod{ai:List Go.aR.Node}:∀(k:List Go.aR.Node) (q:Nat),(xR ai q k).1=0->∀g∈k,∃W,(qF ai W g).1=0:=by
 intro k
 induction k with
 |nil=>intro q _ g bU;cases bU
 |cons F k al=>
  intro q a g bU
  rw[xR]at a
  split at a
  ·rename_i I;exact absurd a I
  ·rename_i I
   rcases Zr.1 bU with rfl|bU
   ·exact⟨q,by simpa using I⟩
   ·exact al _ a g bU
def azE{ai:List Go.aR.Node}(a:(uo ai).1=0){g:Go.aR.Node}(bU:g∈ai){ah:fc}(bL:ah∈g.eqs):∃q,Ju (fH g) ai q ah.right:=by
 obtain⟨q,aD⟩:=aod ai 0 a g bU
 unfold qF at aD
 rw[ah7]at aD
 have:=(VV (fH g) ai q g.eqs (λ_=>none,vF (fH g) g (rA ai q g)) (λ_=>Zs)).1 aD.1
 exact⟨q,this.2.2 ah bL⟩
def ag7(E:be):E∈oe E:=by cases E;rw[oe];exact Zq ..
def aqa{α eD:Type}{nO:eD->Prop}{s:eD->α->eD}:∀(k:List α) (b:eD),nO b->(∀b x,x∈k->nO b->nO (s b x))->nO (k.foldl s b):=by
 intro k
 induction k with
 |nil=>intro b a _;exact a
 |cons F k al=>intro b a q;exact al _ (q b F (Zq ..) a) λb x af=>q b x (Zt _ af)
def ao6{bA:hd}{g:Go.aR.Node}(a:mQ bA g){x:Int×fo}(af:x∈hM g):qc bA x.2:=by
 rcases ao5 af with ⟨_,I⟩|⟨_,I⟩|⟨_,I⟩
 ·exact a.ez _ I
 ·exact a.out _ I
 ·exact a.loc _ I
def azn{ai:List Go.aR.Node}(a:(lx ai).1=0):(uo ai).1=0:=by
 unfold lx at a
 split at a
 ·exact a
 ·rename_i aA;simpa using aA
def yY(v:ej):Int×fo:=(v.kind,v.d)
def ayn(q:Nat)(t:bi->Option ej)(x:bi×Nat)(w:bi):((u9 q t x) w).map yY=(t w).map yY:=by
 unfold u9
 cases a:t x.1 with
 |none=>rfl
 |some v=>
  simp only[]
  split
  ·by_cases bt:w=x.1
   ·subst bt;simp[a,yY]
   ·simp[bt]
  ·rfl
def acG{α:Type}(s:(bi->Option ej)->α->(bi->Option ej))(aF:∀t x w,(s t x w).map yY=(t w).map yY):∀(k:List α) (t:bi->Option ej) (w:bi),(k.foldl s t w).map yY=(t w).map yY:=by
 intro k
 induction k with
 |nil=>intro t w;rfl
 |cons F k al=>intro t w;rw[Z7,al,aF]
def aBa(g:Go.aR.Node)(w:bi):(fH g w).map yY=((nF g).1 w).map yY:=
 acG _ (λt x w=>acG _ (λt e w=>ayn _ _ _ _) _ _ _) _ _ _
section
variable{t ha:bi->Option ej}
end
section
variable{t ha:bi->Option ej}
end
def Vy(n:Nat):∀k:List Nat,o5 n k=true↔n∈k:=by
 intro k
 induction k with
 |nil=>simp[o5]
 |cons F k al=>simp[o5,al]
section
variable{X:cb}{h T c6 aP aM:K ag}{j an aG a1:Nat}
end
section
variable{X:cb}{h T c6 aP aM:K ag}{j an aG a1:Nat}
end
open Classical in
section
variable{X:cb}{h T c6 aP aM:K ag}{j an aG a1:Nat}
end
section
variable{X:cb}{h T c6 aP aM:K ag}{j an aG a1:Nat}
def axm{C:aL}{h:K ag}(x e:Int):qY C h .min [3,3] [.int .i64 x, .int .i64 e]=some (.int .i64 (min x e)):=by
 show nU false (.int .i64 x) [.int .i64 e]=_
 simp only[nU,fA,tF]
 congr 2
 simp only[Zh]
 split<;>simp_all<;>omega
def awR:∀{k:List Go.aR.Node}{q F:Int},pV k=some (q,F)->q=30\/q=22:=by
 intro k
 induction k with
 |nil=>intro q F a;cases a
 |cons g k al=>
  intro q F a
  unfold pV at a
  split at a
  ·cases a;exact .inl rfl
  ·split at a
   ·cases a;exact .inr rfl
   ·exact al a
def ayz{s:bi}(aF:s.length<=5000){q F:Int}(a:Dk s= .error (q,F)):q≠0:=by
 have I:=agT aF
 rw[a]at I
 unfold Dl at I
 split at I
 ·cases I
 ·cases I;decide
 ·split at I
  ·cases I
  ·cases I;decide
  ·split at I
   ·rename_i az
    cases I
    unfold nC at az
    split at az
    ·cases az;decide
    ·rcases awR az with rfl|rfl<;>decide
   ·cases I
end
end
end Go.Proofs.YtpfajohmofnkfaaGreatDoor

namespace Go.Proofs.YtpfajohmofnkfaaGreatDoor
open Go.bd
noncomputable section
end
end Go.Proofs.YtpfajohmofnkfaaGreatDoor

namespace Go.Proofs.YtpfajohmofnkfaaGreatDoor
open Go.bd Go.aR
noncomputable section
section
variable{X:cb}{h T aP aM:K ag}{j an aG a1:Nat}{P c3:Nat->Prop}
def axG:dw X h .eql 76 true .aV .aV=some .zT:=Zk
def aAj(b U k c:Nat):dw X h .eql 76 true (.slice b U k c) .aV=some .zF:=Zk
def aAo(b U k c:Nat):dw X h .eql 76 true (.fl b U k c) .aV=some .zF:=Zk
def apm(b:Nat):dw X h .eql 65 true (.ptr b 0) .cx=some .zF:=Zk
def axH{aW:D}{n:Nat}(a:gy aW=some (.Z (n:Int))):(aW= .aV/\n=0)\/dw X h .eql 76 true aW .aV=some .zF:=by
 cases aW with
 |aV=>rw[tI]at a;injection a with a;injection a with _ a;exact .inl ⟨rfl,Zo⟩
 |slice b U k c=>exact .inr (aAj b U k c)
 |fl b U k c=>exact .inr (aAo b U k c)
 |_=>simp[gy]at a
def aye(k:List de):jH (nh k).flatten=true:=by
 induction k with
 |nil=>rfl
 |cons t k al=>exact al
def aoj(aw:du X){k:List de}{aW:D}(aE:(o X).a2<=j)(a:kE X h P aW k)(bE:∀e,P e->e<j):
 aY X 83 [aW] h j (λac T an=>(ac.cells=[ac]/\kE X T (cQ j an) ac k)/\bo X h j T an) (λ_ _ _=>False):=by
 refine zx aw (amv X) ?_
 rw[amw]
 unfold aaF
 obtain⟨b,cA⟩:=a
 have hO:=cA.many
 have d5:=cA.len
 rw[Zn]at hO d5
 rcases axH (X:=X) (h:=h) d5 with ⟨rfl,aS⟩|c8
 ·have:k=[]:=Z4 aS
  subst this
  refine ci @axG ⟨?_⟩
  exact⟨⟨rfl,0,dD.nil _ _⟩,bo.refl _ _⟩
 ·refine ci @c8 ⟨?_⟩
  generalize dZ:Go.bd.bn X h j _=aP
  have b3:Y X aP j=zu [] (0*3):=by rw[<-dZ,bg aE]
  have bN:bo X h j aP (j+1):=by rw[<-dZ];exact dM
  clear dZ
  have aF:=ahn (cA.ab (λe z=>bN.ab e (bE e z))) Zd
  rw[Zn]at aF
  by_cases aS:k=[]
  ·subst aS
   have E:kG X aP (j+1) 3 (.slice j 0 0 0) aW=some (.val (.slice j 0 0 0)):=by simp only[kG,aF];rfl
   refine ahr E ?_
   exact⟨⟨rfl,j,FG (br:=[]) b3 rfl Zs Zo ⟨Zo,Zo⟩⟩,bN⟩
  ·have aD:0<k.length:=YO.2 aS
   have pC:=Wz k
   obtain⟨fk,aM,cJ,aC,jF,fd,i6⟩:=gB.append (j:=j+1) (k:=[]) (cJ:=[j]) (m:=(nh k).flatten) (.inr ⟨j,0,_, .own,rfl,rfl,rfl,b3,n8 []⟩) Zd aF pC aD (aye k) (by rw[pC];simp;omega) Zo Zs
   refine kN aC ?_
   have aeE:j∉[j]->False:=λa=>a (Zq ..)
   have iy:fk.cells=[fk]:=by
    rcases jF with ⟨rfl,_,_⟩|⟨_,_,_,_,rfl,_⟩<;>rfl
   obtain⟨cf,J⟩:=jF.tT (P:=cQ j (j+1+1)) (br:=nh k) Zd (I4 k) (by simp[nh];omega) (λe z=>by rcases(show e=j+1\/e=j by simpa using fd e z)with rfl|rfl<;>exact⟨Zo,Zo⟩)
   exact⟨⟨iy,cf,J⟩,⟨Zo,λe z=>by rw[i6 e Zo (by simp;omega)];exact bN.ab e z⟩⟩
def azr(aw:du X){ah r cR:Nat}{cE:Nat->Option D}{w:D}{k:List de}(aE:(o X).a2<=j)(bL:aO X h (.ptr ah 0)=some (.map r))(oN:kj X h P r cE)(bj:kR X h cR)(bs:(o X).a2<=cR)(bt:cE cR=some w)(a6:kE X h c3 w k)(Ov:∀e,c3 e->e<j):
 aY X 37 [.ptr ah 0, .ptr cR 0] h j (λac T an=>(ac.cells=[ac]/\kE X T (cQ j an) ac k)/\bo X h j T an) (λ_ _ _=>False):=by
 refine zx aw (al5 X) ?_
 rw[al6]
 unfold aao
 have az:=aw1 oN bj bs .aV false
 rw[bt]at az
 have az:lO X h 47 .aV (.map r) (.ptr cR 0) false=some w:=az
 refine et @apm @bL @az ⟨?_⟩
 refine(aoj aw aE a6 Ov).Zm ?_
 rintro ac aP aG a
 refine cK ⟨?_⟩
 exact a
def aBg(aw:du X){ah r cR:Nat}{cE:Nat->Option D}{w:D}{t:de}(aE:(o X).a2<=j)(bL:aO X h (.ptr ah 0)=some (.map r))(HF:ah<j)(auD:r<j)(oN:kj X h P r cE)(bE:∀e,P e->e<j)(bj:kR X h cR)(uM:cR<j)(bs:(o X).a2<=cR)(bt:cE cR=some w)(a6:kE X h c3 w [t])(Ov:∀e,c3 e->e<j):
 aY X 54 [.ptr ah 0, .ptr cR 0] h j (λac T an=>ac= .tuple [.agg (ed t), .zT]/\bo X h j T an) (λ_ _ _=>False):=by
 refine zx aw (amd X) ?_
 rw[ame]
 unfold aau
 refine pq ?_
 generalize dZ:bn X h j _=aP
 have b3:Y X aP j=zu [.zF, .zF, .Z 0] 3:=by rw[<-dZ,bg aE];rfl
 have bN:bo X h j aP (j+1):=by rw[<-dZ];exact dM
 clear dZ
 refine(azr (j:=j+1) (h:=aP) aw Zo (zB (bN.ab ah HF) bL) (oN.ab (bN.ab r auD) (λe z=>bN.ab e (bE e z))) (bj.ab (bN.ab cR uM)) bs bt (a6.ab (bm:=c3) (λe z=>bN.ab e (Ov e z)) (λ_ a=>a)) (λe z=>zq (Ov e z))).Zm ?_
 rintro ac aM a1 ⟨⟨_,bb⟩,bJ⟩
 have f7:=bJ.le
 have b7:Y X aM j=zu [.zF, .zF, .Z 0] 3:=by rw[bJ.ab _ Zo];exact b3
 have jk:=bN.trans bJ
 have V:=bb.rd
 have az:gy ac=some (.Z 1):=V.len
 obtain⟨cp,U,dS,jA,tp,_⟩:=V.f3 0 t rfl
 have dS:gv 3 ac (.Z 0)=some (.ptr cp U):=dS
 have d:decide ((1:Int)≠1)=false:=rfl
 obtain⟨aA9,cZ,pd⟩:=t
 refine gg @az @d @dS @tp ed.eq_1 ⟨?_⟩
 generalize eH:bn X _ j _=bC
 have OU:d8 X bC 3 (.ptr j 0)=some (.agg (ed ⟨aA9,cZ,pd⟩)):=by rw[<-eH];exact Ib (bg aE) rfl
 have dv:bo X h j bC a1:=⟨Zo,λe z=>by rw[<-eH];simp(disch:=omega) only[aI];exact jk.ab e z⟩
 clear eH
 refine ci @OU ⟨?_⟩
 exact⟨rfl,dv⟩
end
end
end Go.Proofs.YtpfajohmofnkfaaGreatDoor

namespace Go.Proofs.YtpfajohmofnkfaaGreatDoor
open Go.bd
noncomputable section
end
end Go.Proofs.YtpfajohmofnkfaaGreatDoor

namespace Go.Proofs.YtpfajohmofnkfaaGreatDoor
open Go.bd Go.aR
noncomputable section
section
variable{X:cb}{h T aP aM:K ag}{j an aG a1:Nat}{P bm c3 ij:Nat->Prop}
end
section
variable{X:cb}{h T aP aM:K ag}{j an aG a1:Nat}{P bm c3 ij:Nat->Prop}
def Md{C:aL}{b dO bl:Nat}{aW:D}{br gz:List (List D)}(a:dD C h P b aW bl br)(q:dD C h bm dO aW bl gz):br=gz:=by
 have az:br.length=gz.length:=by
  have I:=a.len
  rw[q.len]at I
  injection I with I;injection I with _ I;omega
 apply YL
 intro i
 by_cases aN:i<br.length
 ·obtain⟨r,V⟩:∃r,br[i]? =some r:=⟨_,Ze aN⟩
  obtain⟨gb,kb⟩:∃r,gz[i]? =some r:=⟨_,Ze Zo⟩
  have lf:=a.wide r (Zj V)
  have mM:=q.wide gb (Zj kb)
  have fC:=a.f3 i aN
  have fe:=q.f3 i Zo
  rw[fC]at fe;cases fe
  rw[V,kb]
  congr 1
  apply YL
  intro W
  by_cases bK:W<bl
  ·obtain⟨v,bD⟩:=zt r W
   obtain⟨gK,uU⟩:∃v,gb[W]? =some v:=⟨_,Ze Zo⟩
   have db:=a.cell i r W v V bD
   have dx:=q.cell i gb W gK kb uU
   rw[db]at dx;cases dx
   rw[bD,uU]
  ·rw[ZQ Zo,ZQ Zo]
 ·rw[ZQ Zo,ZQ Zo]
def af1:∀k:List fc,wI k=none↔∀ah∈k,fO 201 ah.right<=200:=by
 intro k
 induction k with
 |nil=>exact⟨λ_ ah a=>(by cases a),λ_=>rfl⟩
 |cons F k al=>
  unfold wI
  by_cases a:200<fO 201 F.right
  ·rw[Zu a]
   exact⟨λa=>(by cases a),λq=>absurd (q F (Zq ..)) Zo⟩
  ·rw[Zg a,al]
   exact⟨λq ah bL=>(Zr.1 bL).elim (λE=>(by rw[E];omega)) (q ah),λq ah bL=>q ah (Zt _ bL)⟩
end
end
end Go.Proofs.YtpfajohmofnkfaaGreatDoor

namespace Go.aR
def y0(st:Option Int)(F:Int):Option Int:=match st with|none=>some F|some b=>some b
def r9(k:List Int):Int:=k.foldl (λm d=>max m d) 0
def u7(k:List Int)(i:Nat):Int:=(k[i]?).getD 0
def ut(q F:Int)(k:List Int)(st:Option Int):Int×Option Int:=
 if q=5 then(1,if 0<u7 k 0 then y0 st F else st)
 else if q=21 then(0,if 0<u7 k 1 then y0 st F else st)
 else if q=22 then(u7 k 0,st)
 else if q=6\/q=24\/q=25 then(0,if 0<r9 k then y0 st F else st)
 else(r9 k,st)
mutual
def l5:be->Option Int->Int×Option Int
 | .mk q F _ _ _ _ args,st=>ut q F (mU args st).1 (mU args st).2
def mU:List be->Option Int->List Int×Option Int
 |[],st=>([],st)
 |E::bH,st=>((l5 E st).1::(mU bH (l5 E st).2).1,(mU bH (l5 E st).2).2)
end
def abX(E:be)(st:Option Int):l5 E st=ut E.kind E.at_ (mU E.args st).1 (mU E.args st).2:=by cases E;rw[l5];rfl
mutual
def so:be->Bool
 | .mk q _ _ _ _ _ args=>if q=5 then false else if q=21 then true else if q=22 then H8 args else sp args
def H8:List be->Bool
 |[]=>false
 |E::_=>so E
def sp:List be->Bool
 |[]=>true
 |E::bH=>so E&&sp bH
end
def U0(E:be):so E=if E.kind=5 then false else if E.kind=21 then true else if E.kind=22 then H8 E.args else sp E.args:=by cases E;rw[so];rfl
def DZ(q:Int)(i:Nat):Bool:=decide (q=5)||(decide (q=21)&&decide (i=1))||decide (q=6)||decide (q=24)||decide (q=25)
def pr(q:Int):Nat->List be->Bool
 |_,[]=>true
 |i,E::bH=>(!DZ q i||so E)&&pr q (i+1) bH
mutual
def xM:be->Bool
 | .mk q _ _ _ _ _ args=>pr q 0 args&&r0 args
def r0:List be->Bool
 |[]=>true
 |E::bH=>xM E&&r0 bH
end
def RJ(E:be):xM E=(pr E.kind 0 E.args&&r0 E.args):=by cases E;rw[xM];rfl
def WK(st:Option Int)(F:Int):(y0 st F).isSome=true:=by cases st<;>rfl
def I8{st:Option Int}(a:st.isSome=true)(F:Int):y0 st F=st:=by cases st<;>simp_all [y0]
def aq6:∀(k:List Int) (m:Int),0<=m->(∀d∈k,d=0\/d=1)->(k.foldl (λm d=>max m d) m=0↔m=0/\∀d∈k,d=0)/\m<=k.foldl (λm d=>max m d) m:=by
 intro k
 induction k with
 |nil=>intro m a _;simp
 |cons F k al=>
  intro m a az
  have aC:=az F (Zq ..)
  obtain⟨I,J⟩:=al (max m F) Zo (λd aH=>az d (Zt _ aH))
  simp only[Z7]
  refine⟨?_,Zo⟩
  rw[I]
  constructor
  ·rintro⟨am,aB⟩
   refine⟨Zo,λd aH=> ?_⟩
   rcases Zr.1 aH with rfl|aH
   ·omega
   ·exact aB d aH
  ·rintro⟨am,aB⟩
   have:=aB F (Zq ..)
   exact⟨Zo,λd aH=>aB d (Zt _ aH)⟩
def aq8{k:List Int}(a:∀d∈k,d=0\/d=1):(r9 k=0↔∀d∈k,d=0)/\0<=r9 k/\(r9 k=0\/r9 k=1):=by
 obtain⟨I,J⟩:=aq6 k 0 Zo a
 refine⟨by unfold r9;rw[I];simp,J, ?_⟩
 have:∀(k:List Int) (m:Int),(m=0\/m=1)->(∀d∈k,d=0\/d=1)->k.foldl (λm d=>max m d) m=0\/k.foldl (λm d=>max m d) m=1:=by
  intro k
  induction k with
  |nil=>intro m a _;exact a
  |cons F k al=>
   intro m bp az
   have aC:=az F (Zq ..)
   exact al (max m F) Zo (λd aH=>az d (Zt _ aH))
 exact this k 0 (.inl rfl) a
def y7:List Int->List be->Prop
 |[],bH=>bH=[]
 |d::k,bH=>∃E j5,bH=E::j5/\(d=0\/d=1)/\(d=0↔so E=true)/\y7 k j5
def y7.bit:∀{k:List Int}{bH:List be},y7 k bH->∀d∈k,d=0\/d=1:=by
 intro k
 induction k with
 |nil=>intro bH _ d a;cases a
 |cons F k al=>
  rintro bH ⟨E,j5,_,J,_,aB⟩ d aH
  rcases Zr.1 aH with rfl|aH
  ·exact J
  ·exact al aB d aH
def y7.all:∀{k:List Int}{bH:List be},y7 k bH->((∀d∈k,d=0)↔sp bH=true):=by
 intro k
 induction k with
 |nil=>rintro bH rfl;simp[sp]
 |cons F k al=>
  rintro bH ⟨E,j5,rfl,J,am,aB⟩
  rw[sp,Zp, <-al aB, <-am]
  simp
def y7.inv{x:be}{bH:List be}:∀{k:List Int},y7 k (x::bH)->∃d bV,k=d::bV/\(d=0\/d=1)/\(d=0↔so x=true)/\y7 bV bH:=by
 intro k a
 cases k with
 |nil=>cases a
 |cons d k=>
  obtain⟨E,j5,bs,J,am,aB⟩:=a
  cases bs
  exact⟨d,k,rfl,J,am,aB⟩
def anu{q:Int}(aD:q=6\/q=24\/q=25):∀(bH:List be) (i:Nat),pr q i bH=sp bH:=by
 intro bH
 induction bH with
 |nil=>intro i;rfl
 |cons E bH al=>
  intro i
  rw[pr,sp,al]
  have:DZ q i=true:=by unfold DZ;rcases aD with rfl|rfl|rfl<;>simp
  rw[this];simp
def abe{q:Int}(aD:¬(q=5\/q=21\/q=6\/q=24\/q=25)):∀(bH:List be) (i:Nat),pr q i bH=true:=by
 intro bH
 induction bH with
 |nil=>intro i;rfl
 |cons E bH al=>
  intro i
  rw[pr,al]
  have:DZ q i=false:=by
   unfold DZ
   simp only[YS]at aD
   simp[aD.1,aD.2.1,aD.2.2.1,aD.2.2.2.1,aD.2.2.2.2]
  rw[this];simp
def WZ(E:be):Prop:=∀st:Option Int,(st.isSome=true->(l5 E st).2=st)/\(xM E=true->(l5 E st).2=st/\((l5 E st).1=0\/(l5 E st).1=1)/\((l5 E st).1=0↔so E=true))/\(xM E=false->((l5 E st).2).isSome=true)
def W4(bH:List be):Prop:=∀st:Option Int,(st.isSome=true->(mU bH st).2=st)/\(r0 bH=true->(mU bH st).2=st/\y7 (mU bH st).1 bH)/\(r0 bH=false->((mU bH st).2).isSome=true)
def ao2{bA:hd}{E:be}(bt:xF bA E)(a:W4 E.args):WZ E:=by
 intro st
 obtain⟨I,J,am⟩:=a st
 rw[abX,RJ,U0]
 generalize az:mU E.args st=p at I J am
 obtain⟨k,jr⟩:=p
 simp only at I J am ⊢
 have mX:=bt.qh
 by_cases f6:r0 E.args=true
 ·obtain⟨rfl,V⟩:=J f6
  have aj:=V.bit
  have j7:=V.all
  obtain⟨b3,b7,cS⟩:=aq8 aj
  rw[f6,Yr]
  unfold ut
  by_cases dU:E.kind=5
  ·have:=mX 1 (by rw[dU];rfl)
   match aC:E.args,V with
   |[x],V=>
      obtain⟨d,bV,rfl,Cz,mv,kb⟩:=V.inv
      simp only[dU,ZC]
      have bL:pr 5 0 [x]=so x:=by simp[pr,DZ]
      rw[bL]
      have aE:u7 (d::bV) 0=d:=rfl
      rw[aE]
      refine⟨λaF=> ?_,λaD=> ?_,λaD=> ?_⟩
      ·split
       ·exact I8 aF _
       ·rfl
      ·have:d=0:=mv.2 aD
       subst this
       simp
      ·have:d≠0:=λa=>by rw[mv.1 a]at aD;cases aD
       rw[Zu Zo]
       exact WK _ _
   |[],_=>rw[aC]at this;simp at this
   |_::_::_,_=>rw[aC]at this;simp at this
  ·by_cases m5:E.kind=21
   ·have:=mX 2 (by rw[m5];rfl)
    match aC:E.args,V with
    |[x,e],V=>
       obtain⟨d,ei,rfl,Cz,mv,tv⟩:=V.inv
       obtain⟨cF,bV,rfl,uJ,AS,kb⟩:=tv.inv
       have aE:u7 (d::cF::bV) 1=cF:=rfl
       have bL:pr 21 0 [x,e]=so e:=by simp[pr,DZ]
       have bk:¬(21:Int)=5:=by decide
       simp only[m5,bk,ZC,ZA,aE,bL]
       refine⟨λaF=> ?_,λaD=> ?_,λaD=> ?_⟩
       ·split
        ·exact I8 aF _
        ·rfl
       ·have:cF=0:=AS.2 aD
        subst this
        simp
       ·have:cF≠0:=λa=>by rw[AS.1 a]at aD;cases aD
        have am:0<cF:=Zo
        simp[am,WK]
    |[],_=>rw[aC]at this;simp at this
    |[_],_=>rw[aC]at this;simp at this
    |_::_::_::_,_=>rw[aC]at this;simp at this
   ·by_cases nB:E.kind=22
    ·have:=mX 2 (by rw[nB];rfl)
     have bL:pr E.kind 0 E.args=true:=abe Zo _ _
     rw[bL]
     match aC:E.args,V with
     |x::j5,V=>
       obtain⟨d,bV,rfl,Cz,mv,kb⟩:=V.inv
       have aE:u7 (d::bV) 0=d:=rfl
       simp only[nB,ZC,aE,H8]
       simp
       exact⟨Cz,mv⟩
     |[],_=>rw[aC]at this;simp at this
    ·by_cases cP:E.kind=6\/E.kind=24\/E.kind=25
     ·rw[anu cP,Zg dU,Zg m5,Zg nB,Zu cP,Zg dU,Zg m5,Zg nB]
      simp only
      refine⟨λaF=> ?_,λaD=> ?_,λaD=> ?_⟩
      ·split
       ·exact I8 aF _
       ·rfl
      ·have:r9 k=0:=b3.2 (j7.2 aD)
       rw[this]
       simp[aD]
      ·have:r9 k≠0:=λa=>by rw[j7.1 (b3.1 a)]at aD;cases aD
       rw[Zu Zo]
       exact WK _ _
     ·have bL:pr E.kind 0 E.args=true:=abe Zo _ _
      rw[bL,Zg dU,Zg m5,Zg nB,Zg cP,Zg dU,Zg m5,Zg nB]
      exact⟨λ_=>rfl,λ_=>⟨rfl,cS,b3.trans j7⟩,λa=>by cases a⟩
 ·have f6:r0 E.args=false:=by simpa using f6
  have aF:=am f6
  have key:∀(q F:Int) (k:List Int),(ut q F k jr).2=jr:=by
   intro q F k
   unfold ut
   split
   ·simp only;split
    ·exact I8 aF _
    ·rfl
   ·split
    ·simp only;split
     ·exact I8 aF _
     ·rfl
    ·split
     ·rfl
     ·split
      ·simp only;split
       ·exact I8 aF _
       ·rfl
      ·rfl
  rw[key,f6,Bool.and_false]
  exact⟨λa=>I a,(λa=>by cases a),λ_=>aF⟩
mutual
def ab9{bA:hd}:∀(E:be),d2 bA E->WZ E
 | .mk q F nm no ty n args,a=>by
   rw[d2]at a
   exact ao2 a.1 (afO args a.2)
def afO{bA:hd}:∀(bH:List be),e0 bA bH->W4 bH
 |[],_=>by
  intro st
  rw[mU,r0]
  exact⟨λ_=>rfl,λ_=>⟨rfl,rfl⟩,λa=>by cases a⟩
 |E::bH,a=>by
  rw[e0]at a
  have I:=ab9 E a.1
  have J:=afO bH a.2
  intro st
  rw[mU,r0]
  obtain⟨ba,cj,a3⟩:=I st
  obtain⟨bQ,cf,cM⟩:=J (l5 E st).2
  simp only
  refine⟨λaF=> ?_,λaD=> ?_,λaD=> ?_⟩
  ·rw[ba aF]at bQ ⊢;exact bQ aF
  ·rw[Zp]at aD
   obtain⟨db,dx,gf⟩:=cj aD.1
   obtain⟨cX,cF⟩:=cf aD.2
   exact⟨cX.trans db,E,bH,rfl,dx,gf,cF⟩
  ·rw[Bool.and_eq_false_iff]at aD
   rcases aD with aD|aD
   ·have:=a3 aD
    rw[bQ this];exact this
   ·exact cM aD
end
def E7(ah:fc):Option Int:=match l5 ah.right none with
 |(_,some F)=>some F
 |(d,none)=>if 0<d then some ah.at_ else none
def UP(g:Node):Option Int:=g.eqs.findSome? E7
def E6(ai:List Node):Option Int:=ai.findSome? UP
def P1(ah:fc):Bool:=so ah.right&&xM ah.right
def avG{bA:hd}{ah:fc}(a:d2 bA ah.right):E7 ah=none↔P1 ah=true:=by
 obtain⟨_,J,am⟩:=ab9 ah.right a none
 unfold E7 P1
 cases aC:xM ah.right with
 |false=>
  have:=am aC
  generalize l5 ah.right none=p at this
  obtain⟨d,s⟩:=p
  cases s with
  |none=>cases this
  |some F=>simp
 |true=>
  obtain⟨db,dx,gf⟩:=J aC
  generalize l5 ah.right none=p at db dx gf
  obtain⟨d,s⟩:=p
  simp only at db dx gf
  subst db
  simp only[Yr]
  rw[<-gf]
  split
  ·constructor
   ·intro a;cases a
   ·intro a;omega
  ·constructor
   ·intro _;omega
   ·intro _;rfl
def avF{bA:hd}{ai:List Node}(a:∀g∈ai,∀ah∈g.eqs,d2 bA ah.right):E6 ai=none↔(ai.all λg=>g.eqs.all P1)=true:=by
 unfold E6
 rw[Yv,YI]
 refine forall_congr' λg=>forall_congr' λbU=> ?_
 unfold UP
 rw[Yv,YI]
 exact forall_congr' λah=>forall_congr' λbL=>avG (a g bU ah bL)
end Go.aR

namespace Go.Proofs.YtpfajohmofnkfaaGreatDoor
open Go.bd Go.aR
noncomputable section
def o4(ty:de):be:= .mk 1 0 [] false ty 0 []
def vI(H:be->de)(E:be):List be:=if E.kind=5 then[o4 (H E)]else[]
def r4(q:Int):Int:=if q=5 then 21 else q
mutual
def i1(H:be->de):be->be
 | .mk q F nm no ty n args=> .mk (r4 q) F nm no ty n (vI H (.mk q F nm no ty n args)++hj H args)
def hj(H:be->de):List be->List be
 |[]=>[]
 |E::k=>i1 H E::hj H k
end
section
variable{H:be->de}
def St(E:be):(i1 H E).args=vI H E++hj H E.args:=by cases E;rw[i1];rfl
def Ka(E:be):(i1 H E).kind=r4 E.kind:=by cases E;rw[i1];rfl
def acs(ty:de):i1 H (o4 ty)=o4 ty:=by rw[o4,i1,hj];rfl
def Su:∀k:List be,hj H k=k.map (i1 H)
 |[]=>by rw[hj];rfl
 |E::k=>by rw[hj,Su k];rfl
def Kb{q:Int}(a:q≠5):r4 q=q:=Zg a
def NM:r4 5=21:=rfl
def Cj{E:be}(a:E.kind≠5):vI H E=[]:=Zg a
def GW{E:be}(a:E.kind=5):vI H E=[o4 (H E)]:=Zu a
def Nd{bA:hd}{E:be}(a:xF bA E)(bk:E.kind=5):∃x,E.args=[x]:=by
 have:=a.qh 1 (by rw[bk];decide)
 match bL:E.args,this with
 |[x],_=>exact⟨x,rfl⟩
def ain{bA:hd}:∀{k:List be},e0 bA k->∀x∈k,d2 bA x:=by
 intro k
 induction k with
 |nil=>intro _ x a;cases a
 |cons F k al=>
  intro a x af
  rw[e0]at a
  rcases Zr.1 af with rfl|af
  ·exact a.1
  ·exact al a.2 x af
def atd{bA:hd}:∀(q:Nat) (E:be),d2 bA E->fO q (i1 H E)=fO q E:=by
 intro q
 induction q with
 |zero=>intro E _;rfl
 |succ q al=>
  intro E bt
  rw[d2.eq]at bt
  have key:∀(k:List be) (a:Nat),(∀x∈k,d2 bA x)->(hj H k).foldl (λa F=>max a (fO q F)) a=k.foldl (λa F=>max a (fO q F)) a:=by
   intro k
   induction k with
   |nil=>intro a _;rw[hj]
   |cons F k mB=>
    intro a az
    rw[hj,Z7,Z7,al F (az F (Zq ..))]
    exact mB _ λx af=>az x (Zt _ af)
  rw[fO,fO,St]
  by_cases bk:E.kind=5
  ·obtain⟨x,af⟩:=Nd bt.1 bk
   have yx:=ain bt.2 x (by rw[af];exact Zq ..)
   have az:fO q (o4 (H E))<=fO q x:=by
    cases q with
    |zero=>exact Zi _
    |succ q=>rw[fO,fO];show 0+1<=_;omega
   rw[GW bk,af,hj,hj]
   simp only[YC,Z8,Z7,List.foldl_nil,al x yx]
   omega
  ·rw[Cj bk,Z8,key _ _ (ain bt.2)]
def QK{ty:de}(a:gR ty=true):d2 gV (o4 ty):=by
 have cr:∀t:de,gR t=true->Bc t 0=true:=λt a6=>by simp[Bc,a6,Gu];rfl
 have az:MW ty 0:=by
  refine⟨a, ?_,Zo,Zo⟩
  unfold uR
  split
  ·split
   ·simp
   ·rename_i I J
    refine cr _ ?_
    unfold gR at a ⊢
    split at a
    ·simp_all
    ·simp only[Zp,Zh]at a
     simp;omega
  ·exact cr _ a
 rw[d2.eq]
 refine⟨⟨trivial,(by show(1:Int)<=1;decide),(by show(1:Int)<=26;decide), ?_, ?_,λ_=>rfl,(λa=>by cases a),λ_=>a, ?_,λ_=>az, ?_, ?_, ?_⟩,e0.nil⟩
 ·intro m bp;have:nq 1=some m:=bp;simp[nq]at this;subst this;rfl
 ·intro a;simp[o4,rh,be.kind]at a
 ·intro a;exact absurd (.inl rfl) a
 ·intro a;simp[o4,be.kind]at a
 ·intro a;exact absurd rfl a
 ·intro a;simp[o4,be.kind]at a
mutual
def aik:∀E:be,d2 gV E->(∀x∈oe E,x.kind=5->gR (H x)=true)->d2 gV (i1 H E)
 | .mk q F nm no ty n args,bt,e4=>by
   rw[d2]at bt
   obtain⟨a,oY⟩:=bt
   have kJ:=ail args oY λx af=>e4 x (by rw[oe];exact Zt _ af)
   rw[i1,d2]
   by_cases bk:q=5
   ·subst bk
    obtain⟨x,af⟩:=Nd a rfl
    have af:args=[x]:=af
    subst af
    have avc:=QK (e4 _ (ag7 _) rfl)
    refine⟨⟨trivial,(by show(1:Int)<=21;decide),(by show(21:Int)<=26;decide), ?_, ?_,λ_=>a.Iv (by simp[rh,be.kind]),(λah=>absurd (a.no ah) (show ¬(5:Int)=6 by decide)), ?_,λ_=>a.dH (by simp[sd,be.kind]), ?_, ?_,λ_ _ _=>a.a2 (show ¬(5:Int)=1 by decide) (show ¬(5:Int)=19 by decide) (show ¬(5:Int)=20 by decide),λ_=> ?_⟩, ?_⟩
    ·intro m bp
     have:nq 21=some m:=bp
     simp[nq]at this;subst this
     rw[hj,hj];rfl
    ·intro a;simp[rh,be.kind,NM]at a
    ·intro a;simp[sd,be.kind,NM]at a
    ·intro a;simp[be.kind,NM]at a
    ·intro a;simp[be.kind,NM]at a
    ·rw[hj,hj];exact⟨_,_,rfl, .inl rfl⟩
    ·exact e0.cons avc kJ
   ·have bF:r4 q=q:=Kb bk
    rw[Cj (E:= .mk q F nm no ty n args) bk,Z8,bF]
    refine⟨⟨a.ap,a.bR,a.cq, ?_,a.nm,a.Iv,a.no,a.ty,a.dH,a.VF,a.mj,a.a2,λah=> ?_⟩,kJ⟩
    ·intro m bp
     have:=a.qh m bp
     show(hj H args).length=m
     rw[Su,Zn];exact this
    ·obtain⟨k,r,cn,eU⟩:=a.tc ah
     have cn:args=[k,r]:=cn
     subst cn
     refine⟨i1 H k,i1 H r,by simp only[be.args,hj], ?_⟩
     rcases eU with eU|⟨eU,x,iL,oG⟩
     ·exact .inl (by rw[Ka,eU];rfl)
     ·refine .inr ⟨by rw[Ka,eU];rfl,i1 H x, ?_,by rw[Ka,oG];rfl⟩
      rw[St,Cj (by rw[eU];decide),iL,hj,hj];rfl
def ail:∀k:List be,e0 gV k->(∀x∈og k,x.kind=5->gR (H x)=true)->e0 gV (hj H k)
 |[],_,_=>by rw[hj];exact e0.nil
 |E::k,bt,e4=>by
  rw[e0]at bt
  rw[hj]
  rw[og]at e4
  exact e0.cons (aik E bt.1 λx af=>e4 x (List.mem_append_left _ af)) (ail k bt.2 λx af=>e4 x (List.mem_append_right _ af))
end
mutual
def ag6:∀(E f0:be),f0∈oe (i1 H E)->f0.kind=1\/∃x∈oe E,f0.name=x.name/\(f0.kind=x.kind\/f0.kind=21)
 | .mk q F nm no ty n args,f0,a=>by
   rw[i1,oe]at a
   rw[oe]
   rcases Zr.1 a with rfl|a
   ·refine .inr ⟨_,Zq ..,rfl, ?_⟩
    by_cases bk:q=5
    ·subst bk;exact .inr rfl
    ·exact .inl (Kb bk)
   ·by_cases bk:q=5
    ·rw[GW (by exact bk)]at a
     have a:f0∈oe (o4 (H (.mk q F nm no ty n args)))++og (hj H args):=a
     rcases Zz.1 a with a|a
     ·rw[o4,oe]at a
      rcases Zr.1 a with rfl|a
      ·exact .inl rfl
      ·rw[og]at a;cases a
     ·rcases VT args f0 a with ah|⟨x,cG,cw⟩
      ·exact .inl ah
      ·exact .inr ⟨x,Zt _ cG,cw⟩
    ·rw[Cj (by exact bk),Z8]at a
     rcases VT args f0 a with ah|⟨x,cG,cw⟩
     ·exact .inl ah
     ·exact .inr ⟨x,Zt _ cG,cw⟩
def VT:∀(k:List be) (f0:be),f0∈og (hj H k)->f0.kind=1\/∃x∈og k,f0.name=x.name/\(f0.kind=x.kind\/f0.kind=21)
 |[],f0,a=>by rw[hj,og]at a;cases a
 |E::k,f0,a=>by
  rw[hj,og]at a
  rw[og]
  rcases Zz.1 a with a|a
  ·rcases ag6 E f0 a with ah|⟨x,cG,cw⟩
   ·exact .inl ah
   ·exact .inr ⟨x,List.mem_append_left _ cG,cw⟩
  ·rcases VT k f0 a with ah|⟨x,cG,cw⟩
   ·exact .inl ah
   ·exact .inr ⟨x,List.mem_append_right _ cG,cw⟩
end
mutual
def afL{bA:hd}:∀E:be,d2 bA E->so (i1 H E)=true/\xM (i1 H E)=true
 | .mk q F nm no ty n args,bt=>by
   rw[d2]at bt
   obtain⟨a,oY⟩:=bt
   obtain⟨I,J,am⟩:=afM args oY
   have aC:∀(k:List be) (i:Nat),sp k=true->pr (r4 q) i k=true:=by
    intro k
    induction k with
    |nil=>intro i _;rfl
    |cons F k al=>intro i bL;rw[sp,Zp]at bL;rw[pr,bL.1,al _ bL.2];simp
   rw[U0,RJ,St,Ka]
   show(if r4 q=5 then _ else _)=true/\(pr (r4 q) 0 (_++hj H args)&&r0 (_++hj H args))=true
   by_cases bk:q=5
   ·subst bk
    rw[GW rfl]
    have ah:∀ty,so (o4 ty)=true/\xM (o4 ty)=true:=λty=>by rw[U0,RJ];exact⟨rfl,rfl⟩
    refine⟨rfl, ?_⟩
    rw[YC,Z8,aC _ _ (by rw[sp,(ah _).1,I];rfl),r0,(ah _).2,J];rfl
   ·rw[Cj (E:= .mk q F nm no ty n args) bk]
    show(if r4 q=5 then false else if r4 q=21 then true else if r4 q=22 then H8 (hj H args)else sp (hj H args))=true/\(pr (r4 q) 0 (hj H args)&&r0 (hj H args))=true
    rw[aC _ _ I,J,Kb bk,Zg bk]
    refine⟨?_,rfl⟩
    split
    ·rfl
    ·split
     ·rename_i aru
      have:=a.qh 2 (by show nq q=some 2;rw[aru];decide)
      exact am (λE=>by have E:args=[]:=E;rw[E]at this;cases this)
     ·exact I
def afM{bA:hd}:∀k:List be,e0 bA k->sp (hj H k)=true/\r0 (hj H k)=true/\(k≠[]->H8 (hj H k)=true)
 |[],_=>by rw[hj];exact⟨rfl,rfl,λa=>absurd rfl a⟩
 |E::k,bt=>by
  rw[e0]at bt
  obtain⟨I,J⟩:=afL E bt.1
  obtain⟨bR,cq,_⟩:=afM k bt.2
  rw[hj,sp,r0,H8,I,J,bR,cq]
  exact⟨rfl,rfl,λ_=>rfl⟩
end
end
end
end Go.Proofs.YtpfajohmofnkfaaGreatDoor

namespace Go.Proofs.YtpfajohmofnkfaaGreatDoor
open Go.bd
noncomputable section
variable (X : cb) (h : K ag) (j : Nat) (ak av : bI) (a0 ba cj a3 a4 a5 hy h3 h4 : D)
def aar(a:aL)(b:D)(c:K ag)(d:Nat)(e f:bI):Prop:=
 BL d a c λc d g=>WS a 31 b d g f λ_ d g h i=>bB (λb c d=>ot b a c λg=>je g (λb c d=>F5 λf=>mq b 2 a c 2 f λa b=>e b a d) λh i=>fF (λb c d g=>hJ c 25 24 λh=>bB (λc d g=>mN (λa c d=>gU a 25 λe=>b (aa a 25 e) c d) c 23 25 λb h i=>DB h i a d g λd g h=>fy 5 d a h λ_ i=>DF i b λb j=>fF (λb c d g=>hJ c 32 31 λh=>bB (λc d g=>F2 (λa c d=>gU a 32 λe=>b (aa a 32 e) c d) c 30 32 a d g λb d g h=>Jj g a h λg h i=>fy 3 d a h λ_ j=>aY a 97 [j, .func (.func 98) [] [g]] h i (λf h i=>bB b λb=>ax (aO a h g) λj=>ax (dw a h .neq 47 true j .cx) λj=>bB b λb=>aZ j (BP a h g 1 λ_ b=>MI 28 b λb=>mq c 2 a h 2 b λa b=>e b a i) (MH f λk=>bB b λb=>aZ k (fy 2 d a h λ_ b=>MI 28 b λb=>mq c 2 a h 2 b λa b=>e b a i) (b (aa (zA c 8 d 9 g 10 f 40 j) 48 k) h i))) f) λa=>aZ h (a (aa c 33 h) d g) (j (aa c 33 h) d g)) (zA c 6 d 30 i 31 b 32 (.Z 0)) h g) λa=>aZ h (a (aa c 26 h) d g) (i (aa c 26 h) d g)) (zz b 23 g 24 h 25 (.Z 0)) c d) λf=>aZ i (xy a h d λb=>DD a h 2 c b λa b=>e b a g) (f (zz (cO [b]) 2 c 4 d 18 i) h g)
def amc:dg X 48 [a0] h j ak av=aar X a0 h j ak av:=Zk
def amb:cW X 48 1=true:=Zk
def aaH(a:aL)(b c:D)(d:K ag)(e:Nat)(f g:bI):Prop:=
 iv a d e b λd e h=>iv a e h c λe h i=>BP a h d 8 λ_ j=>je j (λb c d=>gt b 3 2 λe h=>y4 b 2 a c 0 λi=>bB (λb c d=>ou b λb=>aY a 157 [b] c d f g) λj=>oq i 5 j λj k=>aZ j (ou b λb=>xw 1 b λb=>ax (aO a c b) λb=>iz a (.func (.func 156) [] [e,h]) [b, .Z 1] c d f g) (oq i 21 k λk l=>aZ k (ou b λb=>ax (gv 1 b (.Z 1)) λb=>ax (aO a c b) λb=>iz a (.func (.func 156) [] [e,h]) [b, .Z 0] c d f g) (oq i 22 l λl m=>aZ l (ou b λb=>xw 1 b λb=>ax (aO a c b) λa=>f a c d) (ax (bq .eql i (.Z 6)) λn=>bB (λb c d=>BK b 49 m λe h=>aZ e (gt b 8 5 λb e=>aY a 157 [e] c d (λc d e=>iz a b [c, .Z 0] d e f g) g) (h b c d)) λa=>aZ n (a (zy (zA b 8 (.func (.func 156) [] [e,h]) 29 i 30 j 37 k) 44 l 49 n) c d) (oq i 24 a λa f=>aZ a (f (zz (zA b 8 (.func (.func 156) [] [e,h]) 29 i 30 j 37 k) 44 l 49 n 49 a) c d) (ax (bq .eql i (.Z 25)) λg=>f (zA (zA b 8 (.func (.func 156) [] [e,h]) 29 i 30 j 37 k) 44 l 49 n 49 a 49 g) c d)))))) λf k=>fF (λb c d e=>hJ c 14 13 λf=>bB (λc d e=>uc (λa c d=>gU a 14 λe=>b (aa a 14 e) c d) c 12 14 a d λb f=>gt c 5 3 λh i=>ax (aO a d i) λi=>aY a 97 [f,i] d e (λd e g=>ax (hi 1 [.Z 0] [(0,1,d)] g) λd=>DC a e g d.1 d.2 1 h λa d e=>b (zy c 7 f 5 a) d e) g) λa=>aZ f (a (aa c 15 f) d e) (k (aa c 15 f) d e)) (zz (zA (cO [b,c]) 2 d 3 e 4 (.Z 0) 5 .aV) 12 j 13 f 14 (.Z 0)) h i
def amA:dg X 97 [a0,ba] h j ak av=aaH X a0 ba h j ak av:=Zk
def amz:cW X 97 2=true:=Zk
def aaI(a:aL)(b c:D)(d:K ag)(e:Nat)(f _:bI):Prop:=
 ax (aO a d c) λg=>ax (dw a d .eql 47 true g .cx) λg=>bB (λ_ a b=>f (.tuple []) a b) λf=>aZ g (nk a d c b λa=>f (aa (cO [b,c]) 4 g) a e) (f (aa (cO [b,c]) 4 g) d e)
def amC:dg X 98 [a0,ba] h j ak av=aaI X a0 ba h j ak av:=Zk
def amB:cW X 98 2=true:=Zk
def XB(a:aL)(b c d e:D)(f:K ag)(g:Nat)(h i:bI):Prop:=
 MH b λj=>bB (λa b c=>sL a λa=>h a b c) λh=>aZ j (ax (aO a f d) λk=>ax (aO a f e) λl=>iz a k [l] f g (λ_ a f=>h (zy (cO [b,c,d,e]) 6 (.Z 0) 8 j) a f) i) (h (zy (cO [b,c,d,e]) 6 (.Z 0) 8 j) f g)
def ajT:dg X 156 [a0,ba,cj,a3] h j ak av=XB X a0 ba cj a3 h j ak av:=Zk
def ajS:cW X 156 4=true:=Zk
def XC(a:aL)(b:D)(c:K ag)(d:Nat)(e _:bI):Prop:=
 je b (λa b c=>qb a λa=>e a b c) λe f=>fF (λb c d e=>hJ c 8 7 λg=>bB (λc d e=>uc (λa c d=>gU a 8 λe=>b (aa a 8 e) c d) c 6 8 a d λb f=>qb c λg=>ax (qY a d .max [3,3] [g,f]) λa=>b (zy c 5 f 3 a) d e) λa=>aZ g (a (aa c 9 g) d e) (f (aa c 9 g) d e)) (aa (zA (cO [b]) 2 (.Z 0) 3 (.Z 0) 6 b 7 e) 8 (.Z 0)) c d
def ajV:dg X 157 [a0] h j ak av=XC X a0 h j ak av:=Zk
def ajU:cW X 157 1=true:=Zk
end
end Go.Proofs.YtpfajohmofnkfaaGreatDoor

