/- Part of the proof of the last text; no conditions -/
import Derived.Test.YtendhgofocgngaaGreatDoorYw
set_option maxHeartbeats 8000000
set_option linter.all false
namespace Go.Proofs.YtendhgofocgngaaGreatDoor
open Go.bn Go.aT
noncomputable section
section
variable{X:co}{h R aU aQ:S ai}{j ap aL bc:Nat}{P:Nat->Prop}
def aoe{C:aK}{h:S ai}:∀{a1:List bs}{aY:List z}{P:Nat->Prop},c2 C h P a1 aY->∀(i:Nat) B,a1[i]? =some B->∃w bk,aY[i]? =some w/\(∀e,bk e->P e)/\cm C h bk B w/\
 ∀(R:S ai) fy (N:Nat->Prop),(∀e,P e->¬bk e->Z C R e=Z C h e)->(∀e,N e->¬P e)->cm C R (λe=>bk e\/N e) fy w->c2 C R (λe=>P e\/N e) (a1.set i fy) aY:=by
 intro a1
 induction a1 with
 |nil=>intro aY P _ i B a;simp at a
 |cons E a1 ag=>
  intro aY P a i B aA
  unfold c2 at a
  obtain⟨v,nq,dK,rfl,bP,K,ak⟩:=a
  cases i with
  |zero=>
   simp at aA;subst aA
   refine⟨v,dK,rfl,bP,K,λR fy N aC fX a7=> ?_⟩
   rw[Z7]
   unfold c2
   refine⟨v,nq,λe=>dK e\/N e,rfl,λe D=>D.imp (bP e) id,a7,c2.lift (λe D=>⟨.inl D.1,λa=> ?_⟩) _ _ (c2.ad (λe D=>aC e D.1 D.2) _ _ ak)⟩
   rcases a with a|a
   ·exact D.2 a
   ·exact fX e a D.1
  |succ i=>
   simp at aA
   obtain⟨w,bk,ay,be,bV,c9⟩:=ag ak i B aA
   refine⟨w,bk,by simpa using ay,λe D=>(be e D).1,bV,λR fy N aC fX a7=> ?_⟩
   rw[Yh]
   unfold c2
   refine⟨v,nq,dK,rfl,λe D=> .inl (bP e D),cm.ad (λe D=>aC e (bP e D) (λh6=>(be e h6).2 D)) _ _ K,c2.lift (λe D=> ?_) _ _ (c9 R fy N (λe D aM=>aC e D.1 aM) (λe D a=>fX e D a.1) a7)⟩
   rcases D with D|D
   ·exact⟨.inl D.1,D.2⟩
   ·exact⟨.inr D,λa=>fX e D (bP e a)⟩
def Mt{C:aK}{o E:Int}{nm:aW}{no:Bool}{ty:ig}{n:Int}{args:List bs}{v:z}(a:cm C h P (.mk o E nm no ty n args) v):∃(b:Nat) (bi:z) (cj:Nat) (aY:List z),v= .ptr b 0/\P b/\aV C h (.ptr b 8)=some bi/\dZ C h P cj bi 1 (aY.map λv=>[v])/\aY.length=args.length/\
 ∀(i:Nat) B,args[i]? =some B->∃w bk,aY[i]? =some w/\(∀e,bk e->P e/\e≠b)/\cm C h bk B w/\∀(R:S ai) fy (N:Nat->Prop),(∀e,P e->¬bk e->Z C R e=Z C h e)->(∀e,N e->¬P e)->cm C R (λe=>bk e\/N e) fy w->cm C R (λe=>P e\/N e) (.mk o E nm no ty n (args.set i fy)) v:=by
 unfold cm at a
 obtain⟨b,rfl,bW,aS,K,ak,ay,be,bV,c9,eg,hI,bi,cj,aY,kO,lU,og,qa⟩:=a
 refine⟨b,bi,cj,aY,rfl,bW,kO,lU,qa.len,λi B aA=> ?_⟩
 obtain⟨w,bk,cP,cG,d4,fK⟩:=aoe qa i B aA
 refine⟨w,bk,cP,λe D=>⟨(cG e D).1,(cG e D).2.1⟩,d4,λR fy N aC fX a7=> ?_⟩
 have tE:aY≠[]:=λB=>by subst B;simp at cP
 have uH:P cj:=lU.ah (by simpa using tE)
 have l0:Z C R b=Z C h b:=aC b bW λa=>(cG b a).2.1 rfl
 have aer:Z C R cj=Z C h cj:=aC cj uH λa=>(cG cj a).2.2 rfl
 have aw:∀U,aV C R (.ptr b U)=aV C h (.ptr b U):=λU=>by rw[da,da,l0]
 unfold cm
 refine⟨b,rfl, .inl bW,aS.ad l0,by rw[aw];exact K,by rw[aw];exact ak,by rw[aw];exact ay,by rw[aw];exact be,by rw[aw];exact bV,by rw[aw];exact c9,by rw[aw];exact eg,by rw[aw];exact hI,bi,cj,aY,by rw[aw];exact kO,
  (dZ.auo lU (λ_=>aer)).lift (λe D=> .inl D),λbo=>⟨(og bo).1,λaC=>((og bo).2 aC).ad aer⟩,c2.lift (λe D=> ?_) _ _ (fK R fy N (λe D aM=>aC e D.1 aM) (λe D a=>fX e D a.1) a7)⟩
 rcases D with D|D
 ·exact⟨.inl D.1,D.2⟩
 ·exact⟨.inr D,λB=>fX e D (B▸bW),λB=>fX e D (B▸uH)⟩
def aof{C:aK}{aU:S ai}{N:Nat->Prop}{fy:bs}{w:z}(bF:cm C aU N fy w):∀{a1:List bs}{aY:List z}{P:Nat->Prop},c2 C aU P a1 aY->(∀e,N e->¬P e)->∀(i:Nat),i<a1.length->c2 C aU (λe=>P e\/N e) (a1.set i fy) (aY.set i w):=by
 intro a1
 induction a1 with
 |nil=>intro aY P _ _ i a;simp at a
 |cons E a1 ag=>
  intro aY P a fX i aA
  unfold c2 at a
  obtain⟨v,nq,dK,rfl,bP,K,ak⟩:=a
  cases i with
  |zero=>
   rw[Z7,Z7]
   unfold c2
   exact⟨w,nq,N,rfl,λe D=> .inr D,bF,c2.lift (λe D=>⟨.inl D.1,λa=>fX e a D.1⟩) _ _ ak⟩
  |succ i=>
   rw[Yh,Yh]
   unfold c2
   refine⟨v,nq.set i w,dK,rfl,λe D=> .inl (bP e D),K,c2.lift (λe D=> ?_) _ _ (ag ak (λe D a=>fX e D a.1) i (by simpa using aA))⟩
   rcases D with D|D
   ·exact⟨.inl D.1,D.2⟩
   ·exact⟨.inr D,λa=>fX e D (bP e a)⟩
def aob{C:aK}{o E:Int}{nm:aW}{no:Bool}{ty:ig}{n:Int}{args:List bs}{v:z}(a:cm C h P (.mk o E nm no ty n args) v)(aC:o≠25/\o≠23){i:Nat}(aA:i<args.length):∃(b:Nat) (bi:z) (cj:Nat),v= .ptr b 0/\P b/\P cj/\cj≠b/\aV C h (.ptr b 8)=some bi/\iv 1 bi (.int .i64 (i:Int))=some (.ptr cj i)/\
 ∀(aU:S ai) fy (w:z) (N:Nat->Prop),(∀e,P e->Z C aU e=Z C h e)->(∀e,N e->¬P e)->cm C aU N fy w->∃aQ,eI C aU 1 (.ptr cj i) w=some aQ/\cm C aQ (λe=>P e\/N e) (.mk o E nm no ty n (args.set i fy)) v/\∀e,e≠cj->Z C aQ e=Z C aU e:=by
 unfold cm at a
 obtain⟨b,rfl,bW,aS,K,ak,ay,be,bV,c9,eg,hI,bi,cj,aY,kO,lU,og,qa⟩:=a
 have ej:=qa.len
 have tE:aY≠[]:=λB=>by subst B;simp at ej;omega
 have uH:P cj:=lU.ah (by simpa using tE)
 obtain⟨cK,Gy⟩:=og tE
 have Gy:=Gy aC
 have dV:=lU.gF i (by simpa[ej]using aA)
 rw[ZP]at dV
 refine⟨b,bi,cj,rfl,bW,uH,cK,kO,dV,λaU fy w N hW fX bF=> ?_⟩
 obtain⟨a8,c,m,bS,aZ⟩:=Gy.1.ad (hW cj uH)
 obtain⟨ns,rfl,aA3,_⟩:=bF.ptr
 have jx:i<aY.length:=Zo
 have l0:∀cN e,e≠cj->Z C (bp C aU cj cN) e=Z C aU e:=λcN e D=>aJ a8 D
 refine⟨_,ayS a8 bS Zo rfl rfl, ?_,λe D=>l0 _ e D⟩
 generalize dG:bp C aU cj _=aQ
 have b2:∀e,e≠cj->Z C aQ e=Z C aU e:=λe D=>by rw[<-dG];exact l0 _ e D
 have b1:Z C aQ cj=some (.cells (c.set i (some (.ptr ns 0))) m .own):=by rw[<-dG,bz a8]
 clear dG
 have de:∀e,P e->e≠cj->Z C aQ e=Z C h e:=λe D aM=>by rw[b2 e aM,hW e D]
 have aw:∀U,aV C aQ (.ptr b U)=aV C h (.ptr b U):=λU=>by rw[da,da,de b bW (λB=>cK B.symm)]
 unfold cm
 refine⟨b,rfl, .inl bW,aS.ad (de b bW (λB=>cK B.symm)),by rw[aw];exact K,by rw[aw];exact ak,by rw[aw];exact ay,by rw[aw];exact be,by rw[aw];exact bV,by rw[aw];exact c9,by rw[aw];exact eg,by rw[aw];exact hI,bi,cj,aY.set i (.ptr ns 0),by rw[aw];exact kO,
  ⟨λ_=> .inl uH, ?_, ?_, ?_,λW bx=>lU.gF W (by simpa using bx),λW r al ac bx bP=> ?_⟩,λ_=>⟨cK,λ_=>⟨⟨a8,_,m,b1,by rw[Y2];exact aZ⟩,by rw[Y2];exact Gy.2⟩⟩, ?_⟩
 ·have:=lU.many;simpa using this
 ·intro r V;obtain⟨ac,_,rfl⟩:=ZB.1 V;rfl
 ·have:=lU.len;simpa using this
 ·rw[Zv,YD]at bx
  rw[bX b1,S.kw]
  by_cases su:i=W
  ·subst su
   rw[Zq rfl,Zq jx]at bx
   simp only[ZK,Zf]at bx
   subst bx
   have S5:al=0:=by have:=(Zb.1 bP).1;simpa using this
   subst S5
   rw[ZP,ZR,Zq rfl]
   simpa using bP
  ·rw[Zg su]at bx
   have S5:al=0:=by
    cases bo:aY[W]? with
    |none=>rw[bo]at bx;cases bx
    |some rG=>rw[bo]at bx;cases bx;have:=(Zb.1 bP).1;simpa using this
   subst S5
   rw[ZP,ZR,Zg su]
   have:=lU.cell W r 0 ac (by rw[Zv];exact bx) bP
   rw[da, <-hW cj uH, <-da,bX bS,ZP,ZR]at this
   exact this
 ·refine c2.lift (λe D=> ?_) _ _ (aof (aU:=aQ) (N:=N) (cm.ad (λe D=>b2 e (λB=>fX e D (B▸uH))) _ _ bF) (c2.ad (λe D=>de e D.1 D.2.2) _ _ qa) (λe D a=>fX e D a.1) i Zo)
  rcases D with D|D
  ·exact⟨.inl D.1,D.2⟩
  ·exact⟨.inr D,λB=>fX e D (B▸bW),λB=>fX e D (B▸uH)⟩
set_option maxRecDepth 100000 in
def az1(az:dN X){o:Nat}{sf jY:List z}{st bv:bs->bs}{d8:Nat->Prop}{dA:S ai->Nat->Prop}{Fk:bs->Prop}{HG:bs->Nat}(C8:∀B,bv B=alE (st B) ((st B).args.map bv))(dW:∀B E,E∈(st B).args->HG E<HG B)(fj:∀B,Fk B->∀E∈(st B).args,Fk E)
 (tu:∀h n e,dA h n->n<=e->d8 e)(hU:∀h n R aP,dA h n->n<=aP->(∀e,e<n->¬d8 e->Z X R e=Z X h e)->dA R aP)
 (cX:∀B v h j P,(∀e,P e->d8 e/\e<j)->dA h j->Fk B->cm X h P B v->ba X o ((sf++[v])++jY) h j (λac R ap=>ac= .bool true/\j<=ap/\cm X R (λe=>P e\/du j ap e) (st B) v/\∀e,e<j->¬P e->Z X R e=Z X h e) (λ_ _ _=>False)):
 ∀(N:Nat) (B:bs),HG B<N->∀(P:Nat->Prop) (v:z) (h:S ai) (j:Nat),(∀e,P e->d8 e/\e<j)->dA h j->Fk B->cm X h P B v->
  ba X 9 [v, .func (.func o) sf jY] h j (λac R ap=>ac= .tuple []/\j<=ap/\cm X R (λe=>P e\/du j ap e) (bv B) v/\∀e,e<j->¬P e->Z X R e=Z X h e) (λ_ _ _=>False):=by
 intro N
 induction N with
 |zero=>intro B a;omega
 |succ N ag=>
  intro B fX P v h j bW bx adc a7
  obtain⟨iW,rfl,o1,_⟩:=a7.ptr
  refine zJ az (XB X) ?_
  rw[XC]
  unfold P3
  refine cq @En ⟨?_⟩
  refine(cX B _ h j P bW bx adc a7).Zm ?_
  rintro ac aU aL ⟨rfl,jn,tz,hW⟩
  have Nn:=hU h j aU aL bx jn (λe D ce=>hW e D (λa=>ce (bW e a).1))
  have C6:∀e,P e->e<j:=λe D=>(bW e D).2
  have R6:∀e,j<=e->d8 e:=λe D=>tu h j e bx D
  have NX:=dW B
  have NC:=fj B adc
  rw[C8 B]
  generalize st B=bw at tz NX NC ⊢
  obtain⟨bJ,bd,OA,av1,Vw,ek,args⟩:=bw
  have NX:∀E,E∈args->HG E<HG B:=NX
  have NC:∀E∈args,Fk E:=NC
  obtain⟨b,bi,cj,aY,mx,ah,hk,cR,rh,_⟩:=id (Mt tz)
  cases mx
  have e5:=cR.len
  rw[Zl,rh]at e5
  have hX:=cR.many
  rw[Zl,rh]at hX
  refine dd @hk @e5 ⟨?_⟩
  refine fP (λm I R aP=>∃(W:Nat),I.g 1=some (.func (.func o) sf jY)/\I.g 17=some bi/\I.g 18=some (.int .i64 (args.length:Int))/\I.g 19=some (.int .i64 (W:Int))/\W+m=args.length/\aL<=aP/\dA R aP/\aV X R (.ptr iW 8)=some bi/\cm X R (λe=>P e\/du j aP e) (.mk bJ bd OA av1 Vw ek ((args.take W).map bv++args.drop W)) (.ptr iW 0)/\∀e,e<j->¬P e->Z X R e=Z X h e)
   args.length ⟨0,bt,bt,bt,gc,Zo,Zh _,Nn,hk,by simpa using tz,hW⟩ ?_
  clear hk cR
  rintro m I aQ bc ⟨W,t1,y3,xa,rE,bx,gE,Jn,hk,ye,gD⟩
  cases m with
  |zero=>
   have d:=zD W args.length
   rw[ZH Zo,ZJ Zo,Z0]at ye
   refine ey @rE @xa @d ⟨?_⟩
   exact⟨rfl,Zo,ye,gD⟩
  |succ m=>
   have d:=zE W args.length
   have bw:bm .add (.int .i64 (W:Int)) (.int .i64 1)=some (.int .i64 ((W+1:Nat):Int)):=by rw[eG Zo Zo];rfl
   obtain⟨E,aB⟩:=zF args W
   obtain⟨dw,nV,aAI,nq,mx,jm,XO,asG,aCj,arH⟩:=Mt ye
   cases mx
   rw[hk]at XO
   cases XO
   have la:((args.take W).map bv).length=W:=by rw[Zl,YM];omega
   obtain⟨w,bk,tF,h6,Dw,tC⟩:=arH W E (by rw[ZG Zo,la,zz,Yk];exact aB)
   obtain⟨b4,b1,cM⟩:=asG.one tF
   refine eD @rE @xa @y3 @t1 @d @b4 @b1 ⟨?_⟩
   have abV:∀e,bk e->d8 e/\e<bc:=λe D=>by
    rcases(h6 e D).1 with a|a
    ·exact⟨(bW e a).1,zC (C6 e a)⟩
    ·exact⟨R6 e a.1,a.2⟩
   refine(ag E (zC (NX E (Zn aB))) bk w aQ bc abV Jn (NC E (Zn aB)) Dw).Zm ?_
   rintro ac br bL ⟨rfl,jo,Gf,k9⟩
   have ac2:∀e,(P e\/du j bc e)->e<bc:=λe D=>by
    rcases D with a|a
    ·have:=C6 e a;omega
    ·exact a.2
   have o4:=tC br (bv E) (du bc bL) (λe D aM=>k9 e (ac2 e D) aM) (λe D a=>by have:=ac2 e a;have:=D.1;omega) Gf
   rw[ae4 aB]at o4
   have o4:=cm.lift (bk:=λe=>P e\/du j bL e) (λe D=>by
    rcases D with (a|a)|a
    ·exact .inl a
    ·exact .inr ⟨a.1,zC a.2⟩
    ·exact .inr ⟨zC a.1,a.2⟩) _ _ o4
   have aBd:=C6 iW o1
   refine dd @rE @bw ⟨?_⟩
   exact⟨m,Zo,W+1,a6 t1,a6 y3,a6 xa,bt,Zo,Zo,hU aQ bc br bL Jn jo (λe D ce=>k9 e D (λa=>ce (abV e a).1)),zN (k9 iW Zo (λa=>(h6 iW a).2 rfl)) hk,o4,λe D aM=>by rw[k9 e Zo (λa=>by rcases(h6 e a).1 with a|a;exact aM a;have:=a.1;omega)];exact gD e D aM⟩
end
end
end Go.Proofs.YtendhgofocgngaaGreatDoor

namespace Go.Proofs.YtendhgofocgngaaGreatDoor
open Go.bn
noncomputable section
variable (X : co) (h : S ai) (j : Nat) (aj au : bR) (a0 bd ca a3 a4 a5 h2 ih hk : z)
def WC(a:aK)(b c:z)(d:S ai)(e:Nat)(f g:bR):Prop:=
 ar (eT b) λh=>ar (qR a d .min [3,3] [h, .Z 5000]) λh=>ar (nl a d 1 b none (some h) none) λh=>ba a 4 [h] d e (λd e i=>jR d λd j=>Fa i a e λe i k=>ar (eI a i 2 e j) λi=>ba a 4 [h] i k (λi j k=>jR i λi l=>Fa k a j λj k m=>ar (eI a k 2 j l) λk=>eM 0 e a k λ_ l=>Ff l λl=>qI l 0 j k m a λk m n=>fa l (bm .neq k (.Z 0)) m n λk m n=>c5 (λk=>bA (λb c d=>fs (d+19) λd=>cl (b 5) λe=>ar (dv a c .eql 23 true e .cW) λe=>TH e (b 7) c λc h=>u9 e (dv a h .eql 23 true c .cW) h λc h=>c5 (λc=>HI c b 5 h 0 a λe h=>u9 c (eT e) h λe h=>HI c b 7 h 0 a λh i=>u9 c (eT h) i λh i=>u9 c (bm .neq e h) i λe h=>c5 (λc=>bA (λb c d=>cl (b 5) λe=>ba a 6 [e] c d (λc d e=>ar (uz false 0 1 c) λc=>Ff c λc=>bA (λb c d=>cl (b 7) λe=>gs e 0 a c λ_ e=>jQ e (λ_ b c=>ba a 5 [] b c f g) λe h=>fJ (λb c d e=>iF c 74 73 λi=>bA (λc d e=>ie (λa c d=>g2 a 74 λe=>b (ab a 74 e) c d) c 74 7 λb h i=>gs i 0 a d λ_ i=>ar (iv 6 i h) λi=>ar (pn i) λj=>xm a d 6 j 7 e g λd e j=>ba a 8 [d] e j (λd e j=>ar (eT d) λk=>HM k λk=>bA (λc d e=>fR c 11 1 λh i=>ar (mw .i64 i) λi=>cl (c 11) λj=>ar (eT j) λj=>ar (bm .rem i j) λi=>kb h i a d λh=>ar (kK [.str []] e) λi=>gm a d e i.1 i.2 λd e i=>nt a e d h λe=>cl (c 10) λh=>gs h 5 a e λ_ h=>jQ h (λc d e=>cl (c 10) λh=>gs h 5 a d λ_ h=>ba a 11 [h] d e (λ_ d e=>fs (e+14) λe=>cl (c 5) λh=>gs h 0 a d λ_ h=>cl (c 9) λi=>qJ 6 h i a d λh=>cl (c 10) λi=>ar (pn i) λi=>ar (ep a d 6 i) λj=>ba a 12 [h] d e (λd e h=>ar (ep a e 6 i) λi=>iB i (some j) (ba a 12 [j] e h (λe h i=>ar (eT d) λj=>cl (c 11) λk=>ar (eT k) λk=>ar (bm .neq j k) λj=>gW j d h i λh i k=>gW j e i k λi k l=>lc j (λb=>ba a 13 [h,i, .func (.func 14) [] []] k l b g) k l λa g h=>fa j (hb .not a) g h λa g h=>c5 (λa=>bA b λb=>bb a (f .zF g h) (b (zL c 14 d 15 e 145 a) g h)) λb=>bb j (b .zT) (b a)) g)) g) g) λb f=>fJ (λb c d e=>iF c 104 103 λh=>bA (λc d e=>ie (λa c d=>g2 a 104 λe=>b (ab a 104 e) c d) c 104 10 λb f h=>gs h 5 a d λ_ h=>ar (iv 4 h f) λh=>eM 3 h a d λ_ h=>cl (c 12) λi=>ba a 9 [h, .func (.func 10) [] [i]] d e (λ_ a d=>b (ab c 13 f) a d) g) λa=>bb h (a (ab c 105 h) d e) (f (ab c 105 h) d e)) (zL c 12 d 103 b 104 (.Z 0)) e i) λa=>bb k (f .zF e j) (a (zM c 9 h 10 i 11 d 90 k) e j)) g) λa=>bb i (a (ab c 75 i) d e) (h (ab c 75 i) d e)) (zK b 73 e 74 (.Z 0)) c d) λh=>bb c (ba a 5 [] d e f g) (h (ab b 67 c) d e)) g) λa=>bb c (f .zF h d) (a (ab b 63 c) h d)) λa=>bb c (a .zT) (a e)) λa=>bb e (a .zT) (a c)) λl=>bb k (ar (ep a m 2 e) λb=>ar (ep a m 2 j) λc=>ar (dv a m .eql 26 false b c) λb=>md b (λb=>ba a 5 [] m n b g) m n λa c d=>c5 (λa=>f a c d) λc=>bb b (c a) (c .zF)) (l (zL (zM (c0 [b,c]) 4 .zF 0 h 6 e 5 d) 8 j 7 i 38 k) m n)) λa=>bb l (a .zT) (a k)) g) g
def ajh:dm X 3 [a0,bd] h j aj au=WC X a0 bd h j aj au:=Zk
def ajg:c4 X 3 2=true:=Zk
def VS(a:aK)(b c:z)(d:S ai)(e:Nat)(f _:bR):Prop:=
 gs b 8 a d λ_ g=>ar (eT g) λg=>gs b 0 a d λ_ h=>ar (bm .eql h (.Z 5)) λh=>bA (λb c d=>HK b a c 21 λe=>bA (λb c d=>bA (λ_ a b=>f .zT a b) λe=>fJ (λb c d f=>fR c 4 0 λg h=>gs h 8 a d λ_ h=>ar (eT h) λh=>ar (bm .lss g h) λg=>bA (λc d e=>bA (λa c d=>g2 a 4 λe=>b (ab a 4 e) c d) λb=>fs (e+10) λf=>jq c 8 a d λ_ _ g=>fR c 4 1 λh i=>ar (aV a d i) λi=>ar (fv [.Z 0, .Z 0, .str [], .zF, .zF, .zF, .Z 0, .int .u64 0, .a2] [(0,1, .Z 2),(2,1,i)]) λi=>vR a d (e+7) i λd e=>ar (iv 1 g h) λg=>nt a e g d λa=>b c a f) λa=>bb g (a (ab c 26 g) d f) (e (ab c 26 g) d f)) b c d) λa=>bb e (a (zK b 19 e 4 (.Z 1)) c d) (a (ab b 19 e) c d)) λa=>bb h (a (zM (c0 [b,c]) 3 .zF 4 g 14 h 4 (.Z 0)) d e) (a (zL (c0 [b,c]) 3 .zF 4 g 14 h) d e)
def ahH:dm X 10 [a0,bd] h j aj au=VS X a0 bd h j aj au:=Zk
def ahG:c4 X 10 2=true:=Zk
def VY(a:aK)(b:z)(c:S ai)(d:Nat)(e _:bR):Prop:=
 ar (eT b) λf=>Cf f λf=>bA (λ_ a b=>e (.tuple []) a b) λe=>fJ (λb c d f=>iF c 2 3 λg=>bA (λc d e=>bA (λa c d=>g2 a 2 λe=>PC a 3 1 λf=>b (zK a 2 e 3 f) c d) λb=>fs (e+16) λe=>fR c 0 2 λf g=>fR c 0 3 λh i=>fR c 0 3 λj k=>qJ 4 j k a d λj=>fR c 0 2 λk l=>qJ 4 k l a d λk=>ar (iv 4 f g) λf=>ar (eI a d 4 f j) λd=>ar (iv 4 h i) λf=>ar (eI a d 4 f k) λa=>b c a e) λa=>bb g (a (ab c 9 g) d f) (e (ab c 9 g) d f)) (zK (c0 [b]) 2 (.Z 0) 3 f) c d
def ahP:dm X 11 [a0] h j aj au=VY X a0 h j aj au:=Zk
def ahO:c4 X 11 1=true:=Zk
def V2(a:aK)(b:z)(c:S ai)(d:Nat)(e f:bR):Prop:=
 kd a c d b λc d g=>xm a d 6 c 7 g f λd g h=>gm a g h (.map h) (.map [] 0) λg h i=>ba a 8 [d] h i (λh i j=>jQ h (λb c d=>cl (b 3) λg=>ba a 8 [g] c d (λc d g=>jQ c (λa b c=>cl (a 7) λa=>e a b c) λe h=>fJ (λb c d e=>iF c 36 35 λg=>bA (λc d e=>ie (λa c d=>g2 a 36 λe=>b (ab a 36 e) c d) c 34 36 λb g h=>kb g h a d λg=>cl (c 3) λh=>ba a 25 [h,g] d e (λd e h=>jR d λd _=>HH h a e λe h i=>ar (eI a h 11 e d) λd=>ar (iq 1 e) λh=>eM 5 h a d λ_ h=>ar (hz 1 [.str []] [(0,1,h)] i) λh=>gm a d i h.1 h.2 λd h i=>eM 9 e a h λ_ j=>Fe j λj=>uc j 0 e h i a λh i k=>eH j (bm .neq h (.Z 1)) i k λh i k=>c5 (λh=>bA (λc d e=>cl (c 12) λg=>jQ g (λc d e=>cl (c 13) λg=>Uh a d [g] e λ_ d e=>fR c 7 13 λg h=>ba a 28 [h] d e (λd e f=>ar (hz 1 [.a2] [(0,1,d)] f) λd=>gm a e f d.1 d.2 λd e f=>s3 a e f g d λa d e=>b (ab c 7 a) d e) f) λb f=>fJ (λb c d e=>iF c 70 69 λg=>bA (λc d e=>ie (λa c d=>g2 a 70 λe=>b (ab a 70 e) c d) c 68 70 λb f g=>kb f g a d λf=>kp c λg=>ar (l2 a d 9 (.Z 0) g f true) λg=>jR g λg h=>bA b λb=>bb h (cl (c 13) λi=>ar (hz 1 [.Z 0] [(0,1,g)] e) λj=>gm a d e j.1 j.2 λd e j=>s3 a e j i d λa d e=>b (ab (zM c 15 f 16 g 17 h 80 h) 13 a) d e) (b (zM c 15 f 16 g 17 h 80 h) d e)) λa=>bb g (a (ab c 71 g) d e) (f (ab c 71 g) d e)) (zM c 13 .a2 68 g 69 b 70 (.Z 0)) d e) λb=>bb h (kc c 1 5 a i λ_ j=>eM 9 e a i λ_ l=>ar (iv 4 j l) λj=>eM 3 j a i λ_ j=>ba a 26 [j] i k (λf i j=>s3 a i j d f λa f i=>b (ab (zM c 9 g 10 e 12 d 57 h) 12 a) f i) f) (b (zM c 9 g 10 e 12 d 57 h) i k)) λa=>bb j (a h) (a .zF)) f) λa=>bb g (a (ab c 37 g) d e) (h (ab c 37 g) d e)) (zM b 7 .a2 34 c 35 e 36 (.Z 0)) d g) f) λe f=>fJ (λb c d e=>iF c 24 23 λg=>bA (λc d e=>ie (λa c d=>g2 a 24 λe=>b (ab a 24 e) c d) c 24 22 λb f g=>cl (c 24) λh=>kb g h a d λg=>kp c λh=>iA (BL a d e 9 h g f) d e λ_ a d=>b (zK c 5 f 6 g) a d) λa=>bb g (a (ab c 25 g) d e) (f (ab c 25 g) d e)) (zL (zM (c0 [b]) 1 c 2 .a2 3 d 4 g) 22 h 23 e 24 (.Z 0)) i j) f
def ah5:dm X 12 [a0] h j aj au=V2 X a0 h j aj au:=Zk
def ah4:c4 X 12 1=true:=Zk
def Wa(a:aK)(b c d:z)(e:S ai)(f:Nat)(g h:bR):Prop:=
 ar (eT b) λi=>ar (eT c) λj=>ar (bm .neq i j) λi=>bA (λb c d=>eO b λe=>jQ e (λ_ a b=>g .zT a b) λf i=>fJ (λb c d e=>iF c 17 16 λf=>bA (λc d e=>ie (λa c d=>g2 a 17 λe=>b (ab a 17 e) c d) c 17 15 λb f i=>cl (c 17) λj=>kb i j a d λi=>rS c λj=>kb j f a d λj=>cl (c 2) λk=>ot a k [i,j] d e (λa d e=>xn a b λa b=>bb a (g .zF d e) (b (zM c 7 f 8 i 9 j 30 a) d e)) h) λa=>bb f (a (ab c 18 f) d e) (i (ab c 18 f) d e)) (zL b 15 e 16 f 17 (.Z 0)) c d) λa=>bb i (g .zF e f) (a (zK (c0 [b,c,d]) 6 .zF 14 i) e f)
def ah9:dm X 13 [a0,bd,ca] h j aj au=Wa X a0 bd ca h j aj au:=Zk
def ah8:c4 X 13 3=true:=Zk
def Wc(a:aK)(b c:z)(d:S ai)(e:Nat)(f g:bR):Prop:=
 ba a 15 [b,c] d e f g
def ail:dm X 14 [a0,bd] h j aj au=Wc X a0 bd h j aj au:=Zk
def aik:c4 X 14 2=true:=Zk
def Wi(a:aK)(b c:z)(d:S ai)(e:Nat)(f _:bR):Prop:=
 ar (eT b) λg=>ar (eT c) λh=>ar (bm .neq g h) λg=>bA (λb c d=>eO b λe=>jQ e (λ_ a b=>f .zT a b) λe g=>fJ (λb c d e=>iF c 13 12 λh=>bA (λc d e=>bA (λa c d=>g2 a 13 λe=>b (ab a 13 e) c d) λb=>cl (c 13) λg=>fs (e+9) λe=>eO c λh=>kb h g a d λh=>rS c λi=>kb i g a d λa=>ar (bm .neq h a) λa=>bA b λb=>bb a (f .zF d e) (b (zK c 5 g 24 a) d e)) λa=>bb h (a (ab c 14 h) d e) (g (ab c 14 h) d e)) (zK b 12 e 13 (.Z 0)) c d) λa=>bb g (f .zF d e) (a (zK (c0 [b,c]) 4 .zF 10 g) d e)
def aix:dm X 15 [a0,bd] h j aj au=Wi X a0 bd h j aj au:=Zk
def aiw:c4 X 15 2=true:=Zk
def Wz(a:aK)(b:z)(c:S ai)(d:Nat)(e f:bR):Prop:=
 ar (kK [.a2] d) λg=>gm a c d g.1 g.2 λc d g=>ar (kK [.nilFunc] g) λh=>gm a d g h.1 h.2 λd g h=>ar (eI a g 1 d (.func (.func 46) [] [c,d])) λg=>ar (aV a g d) λd=>ot a d [b] g h (λ_ b d=>ar (aV a b c) λa=>e a b d) f
def aiT:dm X 26 [a0] h j aj au=Wz X a0 h j aj au:=Zk
def aiS:c4 X 26 1=true:=Zk
def WA(a:aK)(b:z)(c:S ai)(d:Nat)(e _:bR):Prop:=
 ar (eT b) λf=>ar (bm .lss f (.Z 2)) λf=>bA (λb c d=>bA (λa b c=>eO a λa=>e a b c) λf=>fJ (λb c d g=>fR c 3 0 λh i=>ar (eT i) λi=>ar (bm .lss h i) λh=>bA (λc d f=>bA (λa c d=>g2 a 3 λe=>b (ab a 3 e) c d) λb=>fs (f+10) λf=>fR c 0 3 λg h=>kb g h a d λg=>fR c 0 3 λh i=>Cf i λi=>kb h i a d λh=>ar (bm .eql g h) λg=>bA b λb=>bb g (fR c 0 3 λb h=>ar (nl a d 1 b (some h) none none) λb=>bA (λb c d=>fR b 0 3 λf g=>ar (nl a c 1 f (some g) none none) λf=>iA (x8 a c d .clear [44] [f]) c d λ_ c d=>fR b 0 3 λb f=>ar (nl a c 1 b none (some f) none) λa=>e a c d) λe=>fJ (λb c d f=>fR c 5 4 λg h=>ar (eT h) λh=>ar (bm .lss g h) λg=>bA (λc d e=>bA (λa c d=>g2 a 5 λe=>b (ab a 5 e) c d) λb=>fs (e+10) λe=>fR c 4 5 λf g=>kb f g a d λf=>fR c 4 5 λg h=>Cf h λh=>kb g h a d λg=>ar (bm .neq f g) λf=>bA b λb=>bb f (fR c 0 3 λg h=>fR c 4 5 λi j=>kb i j a d λi=>ar (iv 1 g h) λg=>nt a d g i λa=>g2 c 3 λd=>b (zK c 44 f 3 d) a e) (b (ab c 44 f) d e)) λa=>bb g (a (ab c 32 g) d f) (e (ab c 32 g) d f)) (zL c 25 g 4 b 5 (.Z 1)) d f) (b (ab c 25 g) d f)) λa=>bb h (a (ab c 13 h) d g) (f (ab c 13 h) d g)) (ab b 3 (.Z 1)) c d) λa=>bb f (e b c d) (a (zK (c0 [b]) 2 .a2 8 f) c d)
def aiV:dm X 28 [a0] h j aj au=WA X a0 h j aj au:=Zk
def aiU:c4 X 28 1=true:=Zk
def WT(a:aK)(b c d:z)(e:S ai)(f:Nat)(g h:bR):Prop:=
 ar (dv a e .eql 45 true b .cW) λi=>gW i b e f λe f j=>E9 i e f j a 5 λe f j=>c5 (λe=>bA (λb c d=>HK b a c 2 λe=>yF e (b 0) c d λc d f=>E9 e c d f a 6 λc d f=>c5 (λc=>yF c (b 0) d f λd e f=>E9 c d e f a 24 λd e f=>c5 (λc=>fs (f+10) λd=>N9 c (b 1) (λb=>aV a e b) e λe f=>E8 c b f 2 a λf i=>md c (λb=>ba a 47 [e,f] i d b h) i d λd e f=>lw c (hb .not d) e λd e=>c5 (λd=>bA (λb c d=>jq b 8 a c λ_ _ e=>HK b a c 21 λf=>bA (λb c d=>cl (b 5) λe=>jQ e (λ_ a b=>g (.tuple []) a b) λf g=>fJ (λb c d e=>iF c 69 68 λf=>bA (λc d e=>ie (λa c d=>g2 a 69 λe=>b (ab a 69 e) c d) c 67 69 λb f g=>kb f g a d λf=>k2 c 2 a d λg=>ot a g [f] d e (λ_ a d=>b (ab c 7 f) a d) h) λa=>bb f (a (ab c 70 f) d e) (g (ab c 70 f) d e)) (zL b 67 e 68 f 69 (.Z 0)) c d) λg=>bb f (ar (eT e) λh=>ar (qR a c .min [3,3] [h, .Z 1]) λh=>ar (nl a c 1 e none (some h) none) λa=>g (zL b 5 e 61 f 5 a) c d) (g (zK b 5 e 61 f) c d)) λg=>bb d (fs (f+8) λh=>k2 b 1 a e λi=>jq b 2 a e λ_ _ j=>ar (hz 1 [.str []] [(0,1,j)] (f+5)) λj=>me a e (f+5) j.1 j.2 λe f=>s3 a f h i e λe f h=>rS b λi=>nt a f i e λa=>g (zK b 4 c 45 d) a h) (g (zK b 4 c 45 d) e f)) λa=>bb c (a d) (a .zF)) λa=>bb c (a .zT) (a d)) λa=>bb e (a .zT) (a c)) λa=>bb e (g (.tuple []) f j) (a (ab (c0 [b,c,d]) 16 e) f j)) λa=>bb i (a .zT) (a e)
def ajv:dm X 46 [a0,bd,ca] h j aj au=WT X a0 bd ca h j aj au:=Zk
def aju:c4 X 46 3=true:=Zk
end
end Go.Proofs.YtendhgofocgngaaGreatDoor

namespace Go.Proofs.YtendhgofocgngaaGreatDoor
open Go.bn Go.aT
noncomputable section
section
variable{X:co}{h R aU aQ:S ai}{j ap aL bc:Nat}{P:Nat->Prop}
def vW(aG:aW)(args:List bs)(E W:Nat):List bs:=args.take E++List.replicate (W-E) (lE aG)++args.drop W
def amS(aG:aW)(args:List bs)(E:Nat):vW aG args E E=args:=by simp[vW]
def amR{aG:aW}{args:List bs}{E W:Nat}(H:E<=W)(K:W<args.length):(vW aG args E W).set W (lE aG)=vW aG args E (W+1):=by
 have aw:(args.take E++List.replicate (W-E) (lE aG)).length=W:=by simp;omega
 unfold vW
 rw[List.set_append_right _ _ Zo,aw,zz,Zz K,Z7,show W+1-E=(W-E)+1 by omega,List.replicate_succ']
 simp
def amQ(aG:aW)(args:List bs){E W:Nat}(H:W=max E args.length):vW aG args E W=args.take E++(args.drop E).map (λ_=>lE aG):=by
 unfold vW
 rw[ZJ Zo,Z0,List.map_const',Yp,show W-E=args.length-E by omega]
set_option maxRecDepth 100000 in
def amP(az:dN X){dj:Nat}{aG:aW}(aM:(q X).bf<=j)(gf:aV X h (.ptr dj 0)=some (.str aG))(sA:dj<j)(bW:∀e,P e->e<j)(C6:¬P dj){B:bs}{v:z}(a7:cm X h P B v):
 ba X 10 [v, .ptr dj 0] h j (λac R ap=>ac= .bool true/\j<=ap/\cm X R (λe=>P e\/du j ap e) (aaj aG B) v/\∀e,e<j->¬P e->Z X R e=Z X h e) (λ_ _ _=>False):=by
 refine zJ az (ahG X) ?_
 rw[ahH]
 unfold VS
 obtain⟨o,E,nm,no,ty,n,args⟩:=B
 obtain⟨iW,rfl,o1,dE⟩:=a7.ptr
 replace dE:aV X h (.ptr iW 0)=some (.int .i64 o):=dE
 obtain⟨dw,bi,cj,aY,mx,_,hk,cR,rh,_⟩:=id (Mt a7)
 cases mx
 have e5:=cR.len
 rw[Zl,rh]at e5
 have hX:=cR.many
 rw[Zl,rh]at hX
 refine gb @hk @e5 @dE ⟨?_⟩
 refine iw (λI R aP=>I.g 0=some (.ptr iW 0)/\I.g 1=some (.ptr dj 0)/\I.g 4=some (.int .i64 ((if o=5 then 0 else args.length:Nat):Int))/\R=h/\aP=j) ?_ ?_
 ·intro wL kR
  by_cases be:o=5
  ·have cI:decide (o=5)=true:=by simp[be]
   refine cq @cI ⟨?_⟩
   exact kR _ _ _ ⟨bt,bt,by rw[Zq be];refine tl ⟨?_⟩;rfl,rfl,rfl⟩
  ·have cI:decide (o=5)=false:=by simp[be]
   refine cq @cI ⟨?_⟩
   exact kR _ _ _ ⟨bt,bt,(by rw[Zg be];simp only[B8];rfl),rfl,rfl⟩
 rintro kJ gn bf ⟨t0,t1,t4,rfl,rfl⟩
 refine AV @t0 @dE ⟨?_⟩
 refine iw (λI R aP=>I.g 0=some (.ptr iW 0)/\I.g 1=some (.ptr dj 0)/\I.g 4=some (.int .i64 ((if o=5 then 0 else if o=21 then 1 else args.length:Nat):Int))/\R=gn/\aP=bf) ?_ ?_
 ·intro wL kR
  by_cases ju:o=21
  ·have cI:decide (o=21)=true:=by simp[ju]
   refine cq @cI ⟨?_⟩
   exact kR _ _ _ ⟨a6 t0,a6 t1,by rw[Zg Zo,Zq ju];refine tl ⟨?_⟩;rfl,rfl,rfl⟩
  ·have cI:decide (o=21)=false:=by simp[ju]
   refine cq @cI ⟨?_⟩
   exact kR _ _ _ ⟨a6 t0,a6 t1,by rw[Zg ju];refine tl ⟨?_⟩;exact t4,rfl,rfl⟩
 clear t0 t1 t4 kJ
 rintro kJ akO Ou ⟨t0,t1,t4,rfl,rfl⟩
 obtain⟨lM,Gb,fj,nM⟩:∃lM:Nat,lM=(if o=5 then 0 else if o=21 then 1 else args.length:Nat)/\(args.length<=lM\/(o≠25/\o≠23))/\AL aG o args=args.take lM++(args.drop lM).map (λ_=>lE aG):=by
  refine⟨_,rfl, ?_, ?_⟩
  ·by_cases be:o=5
   ·right;omega
   ·by_cases ju:o=21
    ·right;omega
    ·left;rw[Zg be,Zg ju];exact Zh _
  ·unfold AL
   by_cases be:o=5
   ·simp[be]
   ·by_cases ju:o=21
    ·simp[ju]
    ·rw[Zg be,Zg ju,Zg be,Zg ju];simp
 rw[<-Gb]at t4
 have wm:lM<=300001:=by rw[Gb];split<;>(try split)<;>omega
 refine cY ⟨?_⟩
 refine fP (λm I R aP=>∃(W:Nat),I.g 0=some (.ptr iW 0)/\I.g 1=some (.ptr dj 0)/\I.g 4=some (.int .i64 (W:Int))/\lM<=W/\W+m=max lM args.length/\Ou<=aP/\cm X R (λe=>P e\/du Ou aP e) (.mk o E nm no ty n (vW aG args lM W)) (.ptr iW 0)/\∀e,e<Ou->¬P e->Z X R e=Z X akO e)
  (max lM args.length-lM) ⟨lM,t0,t1,t4,Zh _,Zo,Zh _,by rw[amS];exact cm.lift (λe D=> .inl D) _ _ a7,λ_ _ _=>rfl⟩ ?_
 clear t0 t1 t4 kJ
 rintro m I aU aL ⟨W,t0,t1,t4,Nn,Jn,nK,tz,hW⟩
 obtain⟨dw,ago,aAJ,aDe,mx,_,xw,NN,ato,_⟩:=id (Mt tz)
 cases mx
 have wB:=NN.len
 rw[Zl,ato]at wB
 have g4:(vW aG args lM W).length=args.length:=by simp[vW];omega
 rw[g4]at wB
 cases m with
 |zero=>
  have d:=zD W args.length
  rw[amQ aG args Zo, <-nM]at tz
  refine ht @t4 @t0 @xw @wB @d ⟨?_⟩
  exact⟨rfl,nK,tz,hW⟩
 |succ m=>
  have q9:W<args.length:=Zo
  have d:=zE W args.length
  have bw:bm .add (.int .i64 (W:Int)) (.int .i64 1)=some (.int .i64 ((W+1:Nat):Int)):=by rw[eG Zo Zo];rfl
  have aC:=fj.resolve_left Zo
  obtain⟨dw,agp,amb,mx,aA4,abT,aBW,LD,uT,tC⟩:=aob tz aC (i:=W) (by rw[g4];exact q9)
  cases mx
  rw[xw]at LD
  cases LD
  have Jz:∀e,(P e\/du Ou aL e)->e<aL:=λe D=>by
   rcases D with a|a
   ·have:=bW e a;omega
   ·exact a.2
  have ar2:aV X aU (.ptr dj 0)=some (.str aG):=zN (hW dj sA C6) gf
  refine eD @t4 @t0 @xw @wB @d @t1 @ar2 ⟨?_⟩
  generalize dG:bp X aU (aL+7) _=aQ
  have b1:Z X aQ (aL+7)=zG (gR 2 0 aG false dC 0 .a2) 9:=by rw[<-dG,bz Zo];rfl
  have b2:∀e,e≠aL+7->Z X aQ e=Z X aU e:=λe D=>by rw[<-dG,aJ Zo D]
  clear dG
  obtain⟨br,ata,Gf,k9⟩:=tC aQ (lE aG) (.ptr (aL+7) 0) (λe=>e=aL+7) (λe D=>b2 e (zC (Jz e D))) (λe D a=>zC (Jz e a)) (cm.leaf b1 rfl)
  rw[amR Nn q9]at Gf
  have aA6:=Jz amb abT
  refine hm @uT @ata @t4 @bw ⟨?_⟩
  refine⟨m,Zo,W+1,a6 t0,a6 t1,bt,Zo,Zo,Zo,cm.lift (λe D=> ?_) _ _ Gf,λe D av=> ?_⟩
  ·rcases D with (a|a)|a
   ·exact .inl a
   ·exact .inr ⟨a.1,zC a.2⟩
   ·exact .inr ⟨Zo,Zo⟩
  ·rw[k9 e (λB=>by subst B;rcases abT with a|a;exact av a;have:=a.1;omega),b2 e Zo];exact hW e D av
end
end
end Go.Proofs.YtendhgofocgngaaGreatDoor

namespace Go.Proofs.YtendhgofocgngaaGreatDoor
open Go.bn
noncomputable section
variable (X : co) (h : S ai) (j : Nat) (aj au : bR) (a0 bd ca a3 a4 a5 h2 ih hk : z)
def Xp(a:aK)(b:z)(c:S ai)(d:Nat)(e f:bR):Prop:=
 ar (dv a c .eql 40 true b .cW) λg=>bA (λb c d=>jq b 1 a c λ_ _ b=>ba a 24 [b] c d e f) λa=>bb g (e .a2 c d) (a (zK (c0 [b]) 2 .a2 4 g) c d)
def akt:dm X 8 [a0] h j aj au=Xp X a0 h j aj au:=Zk
def aks:c4 X 8 1=true:=Zk
end
end Go.Proofs.YtendhgofocgngaaGreatDoor

namespace Go.Proofs.YtendhgofocgngaaGreatDoor
open Go.bn
noncomputable section
variable (X : co) (h : S ai) (j : Nat) (aj au : bR) (a0 bd ca a3 a4 a5 h2 ih hk : z)
def Wx(a:aK)(b:z)(c:S ai)(d:Nat)(e _:bR):Prop:=
 ar (dv a c .eql 39 true b .a2) λf=>bA (λb c d=>ar (hz 0 [] [] d) λf=>gm a c d f.1 f.2 λc d f=>eO b λb=>s3 a d f c b λa b c=>e a b c) λa=>bb f (e .a2 c d) (a (zK (c0 [b]) 2 .a2 4 f) c d)
def aiP:dm X 24 [a0] h j aj au=Wx X a0 h j aj au:=Zk
def aiO:c4 X 24 1=true:=Zk
end
end Go.Proofs.YtendhgofocgngaaGreatDoor

namespace Go.Proofs.YtendhgofocgngaaGreatDoor
open Go.bn Go.aT
noncomputable section
section
variable{X:co}{h R aU aQ:S ai}{j ap aL bc:Nat}{P:Nat->Prop}
def amO(az:dN X){dj:Nat}{aG:aW}(aM:(q X).bf<=j)(gf:aV X h (.ptr dj 0)=some (.str aG))(sA:dj<j)(bW:∀e,P e->e<j)(C6:¬P dj){B:bs}{v:z}(a7:cm X h P B v):
 ba X 9 [v, .func (.func 10) [] [.ptr dj 0]] h j (λac R ap=>ac= .tuple []/\j<=ap/\cm X R (λe=>P e\/du j ap e) (n8 aG B) v/\∀e,e<j->¬P e->Z X R e=Z X h e) (λ_ _ _=>False):=by
 refine az1 (o:=10) (sf:=[]) (jY:=[.ptr dj 0]) (st:=aaj aG) (bv:=n8 aG) (HG:=qx) (d8:=λe=>e≠dj) (Fk:=λ_=>True) (dA:=λh n=>(q X).bf<=n/\dj<n/\aV X h (.ptr dj 0)=some (.str aG)) az ?_ ?_ (λ_ _ _ _=>trivial) ?_ ?_ ?_ (qx B+1) B Zo P v h j (λe D=>⟨λB=>C6 (B▸D),bW e D⟩) ⟨aM,sA,gf⟩ trivial a7
 ·rintro⟨o,E,nm,no,ty,n,args⟩
  exact amM aG o E nm no ty n args
 ·rintro⟨o,E,nm,no,ty,n,args⟩ x af
  have:=amL (show x∈AL aG o args from af)
  rw[qx];exact this
 ·intro h n e a D B
  have:=a.2.1;omega
 ·intro h n R aP a ge aC
  exact⟨zC a.1,zC a.2.1,zN (aC dj a.2.1 (λa=>a rfl)) a.2.2⟩
 ·intro B v h j P bW bx _ a7
  exact amP az bx.1 bx.2.2 bx.2.1 (λe D=>(bW e D).2) (λa=>(bW dj a).1 rfl) a7
def ayC{bi:z}{n:Nat}(a:eT bi=some (.int .i64 ((n+1:Nat):Int))):dv X h .eql 39 true bi .a2=some (.bool false):=by
 cases bi with
 |a2=>exfalso;simp[eT]at a;omega
 |slice b U n c=>kernel_rfl
 |el b U n c=>kernel_rfl
 |_=>simp[eT]at a
def azs(b:Nat):dv X h .eql 40 true (.ptr b 0) .cW=some (.bool false):=Zk
def amy(az:dN X){b:Nat}{bi:z}{d3:List aW}(aM:(q X).bf<=j)(cR:dZ X h P b bi 1 (f8 d3))(bW:∀e,P e->e<j)(cK:d3≠[]):
 ba X 24 [bi] h j (λac R ap=>(∃dw,dZ X R (du j ap) dw ac 1 (f8 d3))/\bG X h j R ap) (λ_ _ _=>False):=by
 refine zJ az (aiO X) ?_
 rw[aiP]
 unfold Wx
 have ej:=cR.len
 have hX:=cR.many
 have g5:(f8 d3).length=d3.length:=by simp[f8]
 rw[g5]at ej hX
 obtain⟨m,aZ⟩:∃m,d3.length=m+1:=⟨d3.length-1,zC (ZW.2 cK)⟩
 rw[aZ]at ej
 have mx:=ayC (X:=X) (h:=h) ej
 refine cq @mx ⟨?_⟩
 generalize fi:bp X h j _=aU
 have b4:Z X aU j=zG [] 0:=by rw[<-fi,bz aM]
 have bJ:∀e,e<j->Z X aU e=Z X h e:=λe D=>by rw[<-fi,aJ aM Zo]
 clear fi
 have hY:=UM (cR.ad (R:=aU) λe D=>bJ e (bW e D)) Zd
 rw[g5]at hY
 have qj:(f8 d3).flatten=d3.map .str:=by
  have:∀k:List aW,(f8 k).flatten=k.map .str:=by
   intro k
   induction k with
   |nil=>rfl
   |cons E k ag=>show[z.str E]++(f8 k).flatten=_;rw[ag];rfl
  exact this d3
 rw[qj]at hY
 have tB:∀k:List aW,hZ (k.map z.str)=true:=by
  intro k
  induction k with
  |nil=>rfl
  |cons E k ag=>rw[ZE,hZ,ag];rfl
 have k7:f0 X aU (.slice j 0 0 0) 1 [] [j]:= .inr ⟨j,0,_, .own,rfl,rfl,rfl,b4,mF _,rfl,aM⟩
 obtain⟨e1,aQ,gA,gU,rf,l7,gD⟩:=k7.append (j:=j+1) Zd hY Zs Zo (tB d3) (by simp;omega) Zo Zs
 refine kl gU ?_
 rw[Yn, <-qj]at rf
 obtain⟨dw,hf⟩:=rf.Ev Zd (λr V=>by obtain⟨ac,_,rfl⟩:=ZB.1 (show r∈d3.map (λs=>[z.str s]) from V);rfl) (by rw[g5];omega) (P:=du j (j+1+1)) (λe D=>by
  rcases l7 e D with rfl|a
  ·exact⟨Zo,Zo⟩
  ·simp at a;exact⟨Zo,Zo⟩)
 exact⟨⟨dw,hf⟩,Zo,λe D=>by rw[gD e Zo (by simp;omega),bJ e D]⟩
def Ur(az:dN X){dl b:Nat}{bi:z}{d3:List aW}(aM:(q X).bf<=j)(bh:aV X h (.ptr dl 1)=some bi)(cR:dZ X h P b bi 1 (f8 d3))(bW:∀e,P e->e<j)(cK:d3≠[]):
 ba X 8 [.ptr dl 0] h j (λac R ap=>(∃dw,dZ X R (du j ap) dw ac 1 (f8 d3))/\bG X h j R ap) (λ_ _ _=>False):=by
 refine zJ az (aks X) ?_
 rw[akt]
 unfold Xp
 have mx:=azs (X:=X) (h:=h) dl
 refine dd @mx @bh ⟨?_⟩
 refine(amy az aM cR bW cK).Zm ?_
 rintro ac aQ bc a
 refine cY ⟨?_⟩
 exact a
end
section
variable{X:co}{h R gn aU aQ:S ai}{j ap aL bc:Nat}
def ae3{C:aK}{h:S ai}(x e:Int):qR C h .min [3,3] [.int .i64 x, .int .i64 e]=some (.int .i64 (min x e)):=by
 show oU false (.int .i64 x) [.int .i64 e]=_
 simp only[oU,eR,rj]
 congr 2
 simp only[Zi]
 split<;>simp_all<;>omega
def au5:∀{k:List Go.aT.Node}{o E:Int},rm k=some (o,E)->o=30\/o=22:=by
 intro k
 induction k with
 |nil=>intro o E a;cases a
 |cons g k ag=>
  intro o E a
  unfold rm at a
  split at a
  ·cases a;exact .inl rfl
  ·split at a
   ·cases a;exact .inr rfl
   ·exact ag a
def awP{s:aW}(aD:s.length<=5000){o E:Int}(a:w0 s= .error (o,E)):o≠0:=by
 have H:=afG aD
 rw[a]at H
 unfold yQ at H
 split at H
 ·cases H
 ·cases H;decide
 ·split at H
  ·cases H
  ·cases H;decide
  ·split at H
   ·rename_i aw
    cases H
    unfold rn at aw
    split at aw
    ·cases aw;decide
    ·rcases au5 aw with rfl|rfl<;>decide
   ·cases H
end
def aal{G P:db->S ai->Nat->Prop}{nu:Prop}(Kw:(∀I h n,P I h n->VJ (G I h n))->nu)(Ve:∀I h n,P I h n->G I h n):nu:=Kw λI h n a=>⟨Ve I h n a⟩
def Ua:∀(b9:List bs) (f:Bool) (k:List aW),oy k f b9=(if f=true then b9.take 1 else b9).foldl iO k
 |[],f,k=>by cases f<;>rfl
 |E::b9,f,k=>by
  cases f with
  |true=>rw[oy];rfl
  |false=>rw[oy,Ua b9];rfl
def XV(k:List aW)(w:aW):k.length<=(vN k w).length:=by
 unfold vN;split<;>simp
mutual
def aeR:∀(B:bs) (k:List aW),k.length<=(iO k B).length
 | .mk o E nm no ty n args,k=>by
   rw[iO]
   split
   ·exact Zh _
   ·refine Zy ?_ (Ub args _ _)
    split
    ·exact XV _ _
    ·exact Zh _
def Ub:∀(b9:List bs) (f:Bool) (k:List aW),k.length<=(oy k f b9).length
 |[],f,k=>Zh _
 |E::b9,f,k=>by
  rw[oy]
  split
  ·exact aeR E k
  ·exact Zy (aeR E k) (Ub b9 f _)
end
def abc(L:List bs)(k:List aW):k.length<=(L.foldl iO k).length:=by
 have:=Ub L false k
 rw[Ua]at this
 exact this
mutual
def se:bs->Bool
 | .mk o _ _ _ _ _ args=>(decide (o≠21)|| !args.isEmpty)&&qV args
def qV:List bs->Bool
 |[]=>true
 |E::k=>se E&&qV k
end
def aaT:∀{k:List bs}{E:bs},qV k=true->E∈k->se E=true
 |b::k,E,a,aZ=>by
  rw[qV,Zp]at a
  rcases Zr.1 aZ with rfl|aZ
  ·exact a.1
  ·exact aaT a.2 aZ
section
variable{X:co}{h R aU aQ:S ai}{j ap aL bc:Nat}{P:Nat->Prop}
def Ck(X:co)(h:S ai)(n f6 bC:Nat)(k:List aW):Prop:=bC<=n/\∃c bi cw,Z X h f6=some (.cells c 1 .own)/\c.get 0=some bi/\f0 X h bi 1 (k.map .str) cw/\∀e∈cw,bC<=e/\e<n
def Ck.ad{f6 bC:Nat}{k:List aW}(a:Ck X h aL f6 bC k)(ge:aL<=bc)(aC:∀e,e<aL->(e=f6\/bC<=e)->Z X R e=Z X h e)(uW:f6<bC):Ck X R bc f6 bC k:=by
 obtain⟨H,c,bi,cw,K,ak,ay,be⟩:=a
 exact⟨Zo,c,bi,cw,by rw[aC f6 Zo (.inl rfl)];exact K,ak,ay.ad (λe D=>aC e (be e D).2 (.inr (be e D).1)),λe D=>⟨(be e D).1,zC (be e D).2⟩⟩
def ayA{C:aK}{h:S ai}{cj m:Nat}{bi:z}{aY:List z}(cR:dZ C h P cj bi 1 (aY.map λv=>[v]))(Gy:Fm C h bi cj aY.length)(aZ:m<=aY.length):
 ∃nV,nl C h 1 bi none (some (.int .i64 (m:Int))) none=some nV/\dZ C h P cj nV 1 ((aY.take m).map λv=>[v]):=by
 obtain⟨_,c,rfl,ax⟩:=Gy
 refine⟨.slice cj 0 m c, ?_,λa=>cR.ah (λB=>a (by rw[List.map_eq_nil_iff]at B ⊢;rw[B,List.take_nil])), ?_, ?_, ?_, ?_, ?_⟩
 ·have cP:Nat.ble m c=true:=jg Zo
  simp only[nl,ms,ow,pL,cP,eU]
  simp[eR]
 ·have:=cR.many;simp at this ⊢;omega
 ·intro r V;obtain⟨ac,_,rfl⟩:=ZB.1 V;rfl
 ·rw[sJ];simp;omega
 ·intro i aA
  have aA:i<m:=by simpa[Nat.min_eq_left aZ]using aA
  rw[GU _ aA,ZF]
 ·intro i r W v aA bx
  refine cR.cell i r W v ?_ bx
  rw[Zv,zs]at aA
  rw[Zv]
  split at aA
  ·exact aA
  ·cases aA
set_option maxRecDepth 100000 in
def avd(az:dN X){f6 jY bC:Nat}(aM:(q X).bf<=f6)(uW:f6<bC)(acp:jY<bC)(cK:jY≠f6):∀(N:Nat) (B:bs),qx B<N->∀{P:Nat->Prop}{v:z}{h:S ai}{j:Nat}{k:List aW},(∀e,P e->e<bC/\e≠f6)->aV X h (.ptr jY 0)=some (.func (.func 46) [] [.ptr f6 0, .ptr jY 0])->Ck X h j f6 bC k->cm X h P B v->se B=true->(iO k B).length<=300000->
 ba X 46 [v, .ptr f6 0, .ptr jY 0] h j (λac R ap=>ac= .tuple []/\j<=ap/\Ck X R ap f6 bC (iO k B)/\∀e,e<bC->e≠f6->Z X R e=Z X h e) (λ_ _ _=>False):=by
 intro N
 induction N with
 |zero=>intro B a;omega
 |succ N ag=>
 intro B fX P v h j k bW b8 aw a7 ju ej
 refine zJ az (aju X) ?_
 rw[ajv]
 unfold WT
 obtain⟨o,E,nm,no,ty,n,args⟩:=B
 unfold cm at a7
 obtain⟨iW,rfl,o1,_,dE,_,dR,_,_,_,_,_,bi,cj,aY,hk,cR,og,pH⟩:=a7
 have pH:=c2.lift (bk:=P) (λe D=>D.1) _ _ pH
 have rh:=pH.len
 have ada:=aw.1
 rw[se,Zp]at ju
 rw[qx]at fX
 by_cases be:o=5
 ·have fG:decide (o=5)=true:=by simp[be]
  refine ey @En @dE @fG ⟨?_⟩
  exact⟨rfl,Zh _,by rw[iO,Zq be];exact aw,λ_ _ _=>rfl⟩
 have fG:decide (o=5)=false:=by simp[be]
 have ge:iO k (.mk o E nm no ty n args)=(if decide (o=21)=true then args.take 1 else args).foldl iO (if BO o=true then vN k nm else k):=by rw[iO,Zg be,Ua]
 rw[ge]at ej ⊢
 clear ge
 generalize lu:(if BO o=true then vN k nm else k)=cO at ej ⊢
 have aBn:=abc (if decide (o=21)=true then args.take 1 else args) cO
 refine gb @En @dE @fG ⟨?_⟩
 refine gM ?_
 apply aal (P:=λI R aP=>I.g 0=some (.ptr iW 0)/\I.g 2=some (.ptr jY 0)/\j<=aP/\Ck X R aP f6 bC cO/\∀e,e<bC->e≠f6->Z X R e=Z X h e)
 ·intro de
  by_cases gf:BO o=true
  ·rw[Zq gf]at lu
   obtain⟨_,c,mP,cw,h5,aE,g5,fM⟩:=id aw
   have Nw:aV X h (.ptr f6 0)=some mP:=by rw[bX h5,aE]
   apply L8
   ·intro b2
    have ak:o=2\/o=6\/o=24:=by simpa[BO,or_assoc]using gf
    by_cases K:o=2
    ·have cE:decide (o=2)=true:=by simp[K]
     refine gb @dE @cE (Za @Nw @dR) ⟨?_⟩
     exact b2.out
    ·have cE:decide (o=2)=false:=by simp[K]
     by_cases bV:o=6
     ·have hP:decide (o=6)=true:=by simp[bV]
      refine gb @dE @cE (Za @hP (Za @Nw @dR)) ⟨?_⟩
      exact b2.out
     ·have hP:decide (o=6)=false:=by simp[bV]
      have QO:decide (o=24)=true:=by simp;omega
      refine gb @dE @cE (Za @hP (Za @QO (Za @Nw @dR))) ⟨?_⟩
      exact b2.out
   obtain⟨dw,NR⟩:=g5.B5 (P:=λe=>bC<=e/\e<j) (by rw[Zl];have:=XV k nm;rw[lu]at this;omega) fM
   have NR:dZ X h (λe=>bC<=e/\e<j) dw mP 1 (f8 k):=by rw[YA]at NR;exact NR
   refine(aah (j:=j+10) az NR (v:=decide (nm∈k)) rfl).Zm ?_
   rintro ac aU aL ⟨rfl,cb⟩
   have C1:=cb.rq (show j<=j+10 by omega)
   have jn:=cb.le
   refine tm ⟨?_⟩
   refine iw _ ?_ (λI h n a=>(de I h n a).out)
   intro wL kR
   by_cases aZ:nm∈k
   ·have QV:decide (nm∈k)=true:=by simp[aZ]
    rw[vN,Zq aZ]at lu
    refine cq @QV ⟨?_⟩
    exact kR _ _ _ ⟨bt,bt,Zo,lu▸aw.ad Zo (λe D _=>C1.ad e D) uW,λe D _=>C1.ad e Zo⟩
   ·have QV:decide (nm∈k)=false:=by simp[aZ]
    rw[vN,Zg aZ]at lu
    have arL:aV X aU (.ptr f6 0)=some mP:=by rw[C1.fq _ _ Zo];exact Nw
    have amh:aV X aU (.ptr iW 2)=some (.str nm):=by rw[C1.fq _ _ (zC (bW iW o1).1)];exact dR
    refine ey @QV @arL @amh ⟨?_⟩
    generalize dG:Go.bn.bp X aU (aL+5) _=aQ
    have b3:Z X aQ (aL+5)=zG [.str nm] 1:=by rw[<-dG,bz Zo]
    have b2:∀e,e<aL->Z X aQ e=Z X aU e:=λe D=>by rw[<-dG,aJ Zo Zo]
    clear dG
    obtain⟨e1,br,gA,gU,adK,ab1,k9⟩:=(g5.ad (R:=aQ) (λe D=>by have:=fM e D;rw[b2 e Zo,C1.ad e Zo])).append (j:=aL+8) Zd (qC b3 (mF _) rfl _) rfl Zd rfl (by have:=congrArg List.length lu;simp at this ⊢;omega) Zo (λe D=>zC (fM e D))
    refine kl gU ?_
    obtain⟨e7,hh,vm⟩:=je.one adK
    have cM:Z X br f6=some (.cells c 1 .own):=by rw[k9 f6 Zo (λa=>zC (fM _ a)),b2 f6 Zo,C1.ad f6 Zo];exact h5
    refine tm ⟨?_⟩
    refine gr (rC cM Zo Zo e7 hh) ?_
    refine cY ⟨?_⟩
    generalize hV:Go.bn.bp X br f6 _=b0
    have eu:Z X b0 f6=some (.cells (c.set 0 (some e1)) 1 .own):=by rw[<-hV,bz Zo]
    have fb:∀e,e≠f6->Z X b0 e=Z X br e:=λe D=>by rw[<-hV,aJ Zo D]
    clear hV
    refine kR _ _ _ ⟨bt,bt,Zo,⟨Zo,c.set 0 (some e1),e1,gA,eu,by rw[S.kw,Zq rfl], ?_, ?_⟩,λe D Dy=> ?_⟩
    ·rw[<-lu,Yo]
     exact .inl (adK.ad λe D=>fb e (by rcases ab1 e D with rfl|a;omega;have:=fM _ a;omega))
    ·intro e D
     rcases ab1 e D with rfl|a
     ·omega
     ·have:=fM _ a;omega
    ·rw[fb e Dy,k9 e Zo (λa=>zC (fM _ a)),b2 e Zo,C1.ad e Zo]
  ·rw[Zg gf]at lu
   have ak:¬(o=2\/o=6\/o=24):=by simpa[BO,or_assoc]using gf
   have cE:decide (o=2)=false:=by simp;omega
   have hP:decide (o=6)=false:=by simp;omega
   have QO:decide (o=24)=false:=by simp;omega
   refine gb @dE @cE (Za @hP @QO) ⟨?_⟩
   refine iw _ ?_ (λI h n a=>(de I h n a).out)
   intro wL kR
   refine cY ⟨?_⟩
   exact kR _ _ _ ⟨bt,bt,Zo,lu▸aw.ad Zo (λe D _=>rfl) uW,λe D _=>rfl⟩
 clear aw
 rintro kJ aU aL ⟨t0,ei,jn,SJ,hW⟩
 have M3:∀e,P e->Z X aU e=Z X h e:=λe D=>hW e (bW e D).1 (bW e D).2
 have aAS:=(bW iW o1).1
 have aAT:=(bW iW o1).2
 rw[da, <-M3 iW o1, <-da]at dE hk
 replace cR:=cR.ad (R:=aU) M3
 replace pH:=c2.ad (R:=aU) M3 _ _ pH
 have e5:=cR.len
 rw[Zl]at e5
 have hX:=cR.many
 rw[Zl]at hX
 refine gb @t0 @dE @hk ⟨?_⟩
 refine iw (λI R aP=>∃Ez,I.g 2=some (.ptr jY 0)/\I.g 5=some Ez/\dZ X aU P cj Ez 1 ((if decide (o=21)=true then aY.take 1 else aY).map λv=>[v])/\R=aU/\aP=aL) ?_ ?_
 ·intro wL kR
  by_cases aC:o=21
  ·have uw:decide (o=21)=true:=by simp[aC]
   have Tu:aY≠[]:=λB=>by
    have a:=ju.1
    subst B
    have:args=[]:=Z5 (by simpa using rh.symm)
    simp[aC,this]at a
   have aCh:=ZW.2 Tu
   obtain⟨Ez,Ti,JO⟩:=ayA (m:=1) cR ((og Tu).2 Zo|>.ad (M3 cj (cR.ah (by simpa using Tu)))) Zo
   have Ti:nl X aU 1 bi none (some (.int .i64 1)) none=some Ez:=Ti
   have qm:=ae3 (C:=q X) (h:=aU) (aY.length:Int) 1
   rw[Int.min_eq_right Zo]at qm
   refine hm @uw @e5 @qm @Ti ⟨?_⟩
   exact kR _ _ _ ⟨Ez,a6 ei,bt,by simpa[uw]using JO,rfl,rfl⟩
  ·have uw:decide (o=21)=false:=by simp[aC]
   refine cq @uw ⟨?_⟩
   exact kR _ _ _ ⟨bi,a6 ei,bt,by simpa[uw]using cR,rfl,rfl⟩
 clear t0 ei kJ
 rintro kJ P4 avI ⟨Ez,ei,t5,JO,rfl,rfl⟩
 have gj:∀(i:Nat) E,(if decide (o=21)=true then args.take 1 else args)[i]? =some E->E∈args/\∃w,(if decide (o=21)=true then aY.take 1 else aY)[i]? =some w/\cm X P4 P E w:=by
  intro i E aA
  split at aA
  ·rename_i aC
   rw[Zq aC]
   rw[zs]at aA ⊢
   split at aA
   ·rename_i pE
    rw[Zq pE]
    obtain⟨w,H,K⟩:=pH.get i E aA
    exact⟨Zn aA,w,H,K⟩
   ·cases aA
  ·rename_i aC
   rw[Zg aC]
   obtain⟨w,H,K⟩:=pH.get i E aA
   exact⟨Zn aA,w,H,K⟩
 have abQ:(if decide (o=21)=true then aY.take 1 else aY).length=(if decide (o=21)=true then args.take 1 else args).length:=by split<;>simp[rh]
 generalize (if decide (o=21)=true then args.take 1 else args)=L at*
 generalize (if decide (o=21)=true then aY.take 1 else aY)=fT at*
 have acY:=JO.len
 rw[Zl,abQ]at acY
 have arS:=JO.many
 rw[Zl,abQ]at arS
 refine dd @t5 @acY ⟨?_⟩
 refine fP (λm I R aP=>∃(W:Nat),I.g 2=some (.ptr jY 0)/\I.g 67=some Ez/\I.g 68=some (.int .i64 (L.length:Int))/\I.g 69=some (.int .i64 (W:Int))/\W+m=L.length/\avI<=aP/\Ck X R aP f6 bC ((L.take W).foldl iO cO)/\∀e,e<bC->e≠f6->Z X R e=Z X P4 e)
  L.length ⟨0,a6 ei,bt,bt,gc,Zo,Zh _,SJ,λ_ _ _=>rfl⟩ ?_
 clear SJ ei t5 kJ
 rintro m I aQ bc ⟨W,ei,agB,B9,y6,bx,gE,la,gD⟩
 cases m with
 |zero=>
  have d:=zD W L.length
  rw[ZH Zo]at la
  refine ey @y6 @B9 @d ⟨?_⟩
  exact⟨rfl,Zo,la,λe D Dy=>by rw[gD e D Dy,hW e D Dy]⟩
 |succ m=>
  have d:=zE W L.length
  have bw:bm .add (.int .i64 (W:Int)) (.int .i64 1)=some (.int .i64 ((W+1:Nat):Int)):=by rw[eG Zo Zo];rfl
  obtain⟨fu,aB⟩:∃E,L[W]? =some E:=⟨_,Ze Zo⟩
  obtain⟨I9,w,bF,Dw⟩:=gj W fu aB
  have abU:∀e,P e->Z X aQ e=Z X P4 e:=λe D=>gD e (bW e D).1 (bW e D).2
  obtain⟨b4,b1,cM⟩:=(JO.ad (R:=aQ) abU).one bF
  have acn:aV X aQ (.ptr jY 0)=some (.func (.func 46) [] [.ptr f6 0, .ptr jY 0]):=by rw[da,gD jY acp cK,hW jY acp cK, <-da];exact b8
  refine eD @y6 @B9 @agB @ei @d @b4 (Za @b1 @acn) ⟨?_⟩
  have dW:=Oo I9
  have acu:(L.take (W+1)).foldl iO cO=iO ((L.take W).foldl iO cO) fu:=by rw[Z3,aB,Y7];rfl
  have wA:((L.take (W+1)).foldl iO cO).length<=(L.foldl iO cO).length:=by
   conv=>rhs;rw[<-List.take_append_drop (W+1) L,Y7]
   exact abc _ _
  refine(ag fu Zo bW acn la (cm.ad abU _ _ Dw) (aaT ju.2 I9) (by rw[<-acu];omega)).Zm ?_
  rintro ac br bL ⟨rfl,jo,acQ,k9⟩
  rw[<-acu]at acQ
  refine dd @y6 @bw ⟨?_⟩
  exact⟨m,Zo,W+1,a6 ei,a6 agB,a6 B9,bt,Zo,Zo,acQ,λe D Dy=>by rw[k9 e D Dy,gD e D Dy]⟩
def awy(az:dN X){B:bs}{v:z}(aM:(q X).bf<=j)(bW:∀e,P e->e<j)(a7:cm X h P B v)(ju:se B=true)(ej:(iO [] B).length<=300000):
 ba X 26 [v] h j (λac R ap=>(∃cw,f0 X R ac 1 ((iO [] B).map .str) cw/\∀e∈cw,j<=e/\e<ap)/\bG X h j R ap) (λ_ _ _=>False):=by
 refine zJ az (aiS X) ?_
 rw[aiT]
 unfold Wz
 refine cY ⟨?_⟩
 generalize fi:Go.bn.bp X (Go.bn.bp X _ (j+1) _) (j+1) _=aU
 have jK:Z X aU j=zG [.a2] 1:=by rw[<-fi];simp(disch:=omega) only[aJ,bz]<;>rfl
 have acm:aV X aU (.ptr (j+1) 0)=some (.func (.func 46) [] [.ptr j 0, .ptr (j+1) 0]):=by rw[<-fi,bX (bz Zo),mT];rfl
 have bJ:∀e,e<j->Z X aU e=Z X h e:=λe D=>by rw[<-fi];exact zI
 clear fi
 refine cq @acm ⟨?_⟩
 refine(avd az (f6:=j) (jY:=j+1) (bC:=j+2) aM Zo Zo Zo (qx B+1) B Zo (P:=P) (k:=[]) (λe D=>zC (bW e D)) acm ⟨Zh _,_, .a2,[],jK,rfl, .inl (.inl ⟨rfl,rfl,rfl⟩),Zs⟩ (cm.ad (λe D=>bJ e (bW e D)) _ _ a7) ju ej).Zm ?_
 rintro ac aQ bc ⟨rfl,gE,⟨_,c,bi,cw,b1,aE,g5,fM⟩,gD⟩
 refine dd (bX b1) @aE ⟨?_⟩
 exact⟨⟨cw,g5,λe D=>zC (fM e D)⟩,Zo,λe D=>by rw[gD e Zo Zo];exact bJ e D⟩
end
def iu(k:List Int):List z:=k.map λaG=> .int .i64 aG
def wK(k:List Int):List (List z):=k.map λaG=>[.int .i64 aG]
def aft(k:List Int):hZ (iu k)=true:=by
 induction k with
 |nil=>rfl
 |cons E k ag=>exact ag
def atZ(k:List Int):DH (iu k)=some k:=by
 induction k with
 |nil=>rfl
 |cons E k ag=>show(match DH (iu k)with|some r=>some (E::r)|none=>none)=_;rw[ag]
def tK(k:List Int):(iu k).length=k.length:=by simp[iu]
section
variable{C:aK}{X:co}{h R aU aQ:S ai}{j ap aL bc b:Nat}{P:Nat->Prop}
structure oO(C:aK)(h:S ai)(b:Nat)(bH:List Int):Prop where
 bf:C.bf<=b
 at_:∃c,Z C h b=some (.cells c bH.length (.grow []))/\rZ c (iu bH)
def oO.write{bH fT:List Int}{U:Nat}(a:oO C h b bH)(aS:U+fT.length<=bH.length):
 ∃R,lJ C h b U (iu fT)=some R/\oO C R b (bH.take U++(fT++bH.drop (U+fT.length)))/\∀e,e≠b->Z C R e=Z C h e:=by
 obtain⟨a8,c,bS,V⟩:=a
 have aw:(bH.take U++(fT++bH.drop (U+fT.length))).length=bH.length:=by simp;omega
 refine⟨bp C h b (some (.cells (dM c U (iu fT)) bH.length (.grow []))), ?_,⟨a8,_,by rw[bz a8,aw], ?_⟩,λe D=>aJ a8 D⟩
 ·have bw:Nat.ble (U+(iu fT).length) bH.length=true:=jg (by rw[tK];exact aS)
  simp only[lJ,bS,jI,jg a8,bw,aft,Ye,eU,gS,l1]
 ·have:=V.put (U:=U) (aY:=iu fT) (by rw[tK,tK];exact aS)
  rw[show iu (bH.take U++(fT++bH.drop (U+fT.length)))=w1 (iu bH) U (iu fT) by simp[w1,iu]]
  exact this
def oO.store{bH:List Int}{i:Nat}{aG:Int}(a:oO C h b bH)(aA:i<bH.length):∃R,eI C h 1 (.ptr b i) (.int .i64 aG)=some R/\oO C R b (bH.set i aG)/\∀e,e≠b->Z C R e=Z C h e:=by
 obtain⟨R,H,K,ak⟩:=a.write (U:=i) (fT:=[aG]) (by simp;omega)
 refine⟨R,H, ?_,ak⟩
 have:bH.take i++([aG]++bH.drop (i+[aG].length))=bH.set i aG:=by rw[List.set_eq_take_append_cons_drop,Zq aA];rfl
 rw[<-this];exact K
def oO.pJ{bH:List Int}{i:Nat}{aG:Int}(a:oO C h b bH)(aA:bH[i]? =some aG):aV C h (.ptr b i)=some (.int .i64 aG):=by
 obtain⟨a8,c,bS,V⟩:=a
 rw[bX bS,V i,iu,Zv,aA];rfl
def oO.rd{bH:List Int}{o:Nat}(a:oO C h b bH)(aC:o<=bH.length)(aZ:o<=300000)(bW:P b):dZ C h P b (.el b 0 o 1) 1 (wK (bH.take o)):=by
 have aw:(wK (bH.take o)).length=o:=by simp[wK];omega
 refine⟨λ_=>bW,Zo,λr V=> ?_,by rw[vg,aw],λi aA=>by rw[DK _ Zo,ZF],λi r W v aA bx=> ?_⟩
 ·obtain⟨ac,_,rfl⟩:=ZB.1 V;rfl
 ·rw[wK,Zv]at aA
  cases ce:(bH.take o)[i]? with
  |none=>rw[ce]at aA;cases aA
  |some aG=>
   rw[ce]at aA
   cases aA
   have aro:W=0:=by have:=(Zb.1 bx).1;simpa using this
   subst aro
   cases bx
   rw[ZP,ZR]
   refine a.pJ ?_
   rw[zs]at ce
   split at ce
   ·exact ce
   ·cases ce
def ayD{s:z}{bH:List Int}{cw:List Nat}(a:je C h s 1 (iu bH) cw)(a8:bH=[]->s= .a2)(ce:bH.length<=300000):
 ∃R,Ct C h [s]=some R/\(∀e,e∉cw->Z C R e=Z C h e)/\((s= .a2/\bH=[])\/∃b,b∈cw/\s= .el b 0 bH.length 1/\oO C R b (ib bH)/\bH≠[]):=by
 by_cases cK:bH=[]
 ·have B:=a8 cK
  subst B
  exact⟨h,rfl,λ_ _=>rfl, .inl ⟨rfl,cK⟩⟩
 have u3:=ZW.2 cK
 have g5:(ib bH).length=bH.length:=ED bH
 have cy:=a
 rcases a with ⟨rfl,K,rfl⟩|⟨b,et,n,c,rfl,K,rfl,ay,be,bV,c9⟩
 ·simp[iu]at K;exact absurd K cK
 rw[ZP,tK]at K
 subst K
 obtain⟨R,cX,as2,aC⟩:=cy.put (b:=b) (U:=0) (v:= .agg (iu (ib bH))) rfl rfl (by show 0<(iu (ib bH)).length;rw[tK,g5];exact u3) (aft _) (by show 0+(iu (ib bH)).length<=_;rw[tK,tK,g5];omega)
 have bF:lJ C h b 0 (iu (ib bH))=some R:=by
  have bw:Nat.beq (z.agg (iu (ib bH))).cells.length (z.agg (iu (ib bH))).cells.length=true:=YS _
  have b3:Nat.blt 0 (z.agg (iu (ib bH))).cells.length=true:=LW (by show 0<(iu (ib bH)).length;rw[tK,g5];exact u3)
  simp only[eI,bw,b3,Ye,eU]at cX
  exact cX
 have g4:kt C h b 0 bH.length=some (iu bH):=by
  have:=Rx (c:=c) (iu bH) 0 (λW v bx=>by rw[ZF,c9 W];exact bx)
  rw[tK]at this
  simp only[kt,cellsOf,bV]
  exact this
 refine⟨R, ?_,aC, .inr ⟨b,Zu ..,rfl, ?_,cK⟩⟩
 ·have bw:Nat.blt 0 bH.length=true:=LW u3
  have b3:Nat.ble bH.length 1000000=true:=jg Zo
  simp only[Ct,H9,g4,atZ,bw,b3,Ye,eU]
  exact bF
 ·rcases as2 with ⟨B,_⟩|⟨dw,aCM,aP,gp,B,b1,cM,eu,eZ,eb,eW⟩
  ·cases B
  cases B
  cases cM
  refine⟨eu _ (Zu ..),gp,by rw[eb,g5,ZP], ?_⟩
  have:w1 (iu bH) 0 (iu (ib bH))=iu (ib bH):=by
   unfold w1
   rw[YE,Yn,ZJ (by rw[tK,tK,g5];omega),Z0]
  rw[<-this];exact eW
def amC:∀(k:List Int) (p E:Int),xM p (k++[E])=xM p k++(if E=(k.getLast?.getD p)then[]else[E]):=by
 intro k
 induction k with
 |nil=>
  intro p E
  simp only[Yn,xM,List.getLast?_nil,Option.getD_none]
  rfl
 |cons b k ag=>
  intro p E
  rw[zb,xM,xM]
  have bS:((b::k).getLast?.getD p)=k.getLast?.getD b:=by
   cases k with
   |nil=>rfl
   |cons c k=>simp[List.getLast?_cons]
  rw[bS]
  split
  ·exact ag b E
  ·rw[ag b E];rfl
def aac{bH:List Int}{W:Nat}{E p:Int}(aB:bH[W+1]? =some E)(av:bH[W]? =some p):uq (bH.take (W+2))=uq (bH.take (W+1))++(if E=p then[]else[E]):=by
 cases bH with
 |nil=>simp at aB
 |cons x k=>
  rw[ZT]at aB
  rw[Z8,Z8,uq,uq,Z3,aB]
  show x::xM x (k.take W++[E])=_
  rw[amC]
  have:(k.take W).getLast?.getD x=p:=by
   cases W with
   |zero=>simpa using av
   |succ W=>
    rw[ZT]at av
    rw[Z3,av];simp
  rw[this];rfl
def agq{bH:List Int}{o:Nat}(a:oO C h b bH)(aC:o<bH.length):nl C h 1 (.el b 0 bH.length 1) (some (.int .i64 (o:Int))) none none=some (.el b o (bH.length-o) 1):=by
 obtain⟨a8,c,bS,V⟩:=a
 have bw:Nat.ble o bH.length=true:=jg Zo
 have b3:Nat.blt o bH.length=true:=LW aC
 simp[nl,tW,bS,ms,ow,pL,bw,b3,Nat.div_one]
def ayE{bH:List Int}{o:Nat}(a:oO C h b bH)(aC:o<=bH.length):nl C h 1 (.el b 0 bH.length 1) none (some (.int .i64 (o:Int))) none=some (.el b 0 o 1):=by
 obtain⟨a8,c,bS,V⟩:=a
 have bw:Nat.ble o bH.length=true:=jg Zo
 simp[nl,tW,bS,ms,ow,pL,bw,Nat.div_one]
def amw{bH:List Int}{o:Nat}(a:oO X h b bH)(aC:o<bH.length):∃R,x8 X h j .clear [44] [.el b o (bH.length-o) 1]=some (.e2 (.tuple []) R j)/\oO X R b (bH.take o++List.replicate (bH.length-o) 0)/\∀e,e≠b->Z X R e=Z X h e:=by
 obtain⟨R,H,K,ak⟩:=a.write (U:=o) (fT:=List.replicate (bH.length-o) 0) (by simp;omega)
 refine⟨R, ?_, ?_,ak⟩
 ·have aX:(q X).P.underlying 44=some (.slice 3):=Zk
  have aD:iC X 3=some 1:=Zk
  have ce:pY X 3=some (.int .i64 0):=Zk
  have ah:Nat.beq (bH.length-o) 0=false:=by
   cases a:Nat.beq (bH.length-o) 0 with
   |false=>rfl
   |true=>have:=Zj a;omega
  have V:∀n,jD n (z.int .i64 0).cells=iu (List.replicate n 0):=by
   intro n
   induction n with
   |zero=>rfl
   |succ n ag=>rw[List.replicate_succ];show(z.int .i64 0).cells++jD n (z.int .i64 0).cells=_;rw[ag];rfl
  simp only[x8,H4,aX,aD,ce,ah,V,H,ku]
  rfl
 ·have:bH.drop (o+(List.replicate (bH.length-o) (0:Int)).length)=[]:=ZJ (by simp;omega)
  rw[this,Z0]at K
  exact K
def Kd{b U n i:Nat}(a:i<n):iv 1 (.el b U n 1) (.int .i64 (i:Int))=some (.ptr b (U+i)):=by rw[DK _ a,ZP]
set_option maxRecDepth 100000 in
def amD(az:dN X){s:z}{bH:List Int}(a:(s= .a2/\bH=[])\/∃b,P b/\s= .el b 0 bH.length 1/\oO X h b bH/\bH≠[])(aZ:bH.length<=300000):
 ba X 28 [s] h j (λac R ap=>j<=ap/\(∃dw,dZ X R P dw ac 1 (wK (uq bH)))/\∀e,¬P e->Z X R e=Z X h e) (λ_ _ _=>False):=by
 refine zJ az (aiU X) ?_
 rw[aiV]
 unfold WA
 rcases a with ⟨rfl,rfl⟩|⟨b,o1,rfl,bS,cK⟩
 ·have d:decide ((0:Int)<2)=true:=rfl
  refine cq @d ⟨?_⟩
  exact⟨Zh _,⟨0,dZ.nil P 1⟩,λ_ _=>rfl⟩
 have u3:=ZW.2 cK
 by_cases K:bH.length<2
 ·have d:decide ((bH.length:Int)<2)=true:=by simp only[Zi];omega
  refine cq @d ⟨?_⟩
  have ax:uq bH=bH.take bH.length:=by
   match bH,cK,K with
   |[x],_,_=>rfl
   |x::e::k,_,a=>simp at a;omega
  rw[ax]
  exact⟨Zh _,⟨b,bS.rd (Zh _) aZ o1⟩,λ_ _=>rfl⟩
 have d:decide ((bH.length:Int)<2)=false:=by simp only[Zc];omega
 refine cq @d ⟨?_⟩
 refine fP (λm I R aP=>∃(o:Nat),I.g 0=some (.el b 0 bH.length 1)/\I.g 3=some (.int .i64 (o:Int))/\o+m=bH.length/\1<=o/\R=h/\j<=aP/\uq (bH.take o)=bH.take o)
  (bH.length-1) ⟨1,bt,gc,Zo,Zh _,rfl,Zh _,by
   cases bH with
   |nil=>exact absurd rfl cK
   |cons x k=>rfl⟩ ?_
 rintro m I gn aL ⟨o,t0,t3,aC,hW,rfl,nK,ax⟩
 cases m with
 |zero=>
  have d:=zD o bH.length
  refine ey @t3 @t0 @d ⟨?_⟩
  rw[ZH Zo]at ax
  rw[ax]
  have:=bS.rd (Zh _) aZ o1
  rw[YU]at this
  exact⟨nK,⟨b,this⟩,λ_ _=>rfl⟩
 |succ m=>
  have d:=zE o bH.length
  have bw:bm .add (.int .i64 (o:Int)) (.int .i64 1)=some (.int .i64 ((o+1:Nat):Int)):=by rw[eG Zo Zo];rfl
  have b3:bm .sub (.int .i64 (o:Int)) (.int .i64 1)=some (.int .i64 ((o-1:Nat):Int)):=by rw[tH Zo Zo,show((o:Int) -1)=((o-1:Nat):Int) by omega]
  obtain⟨E,aB⟩:=zF bH o
  obtain⟨p,av⟩:∃E,bH[o-1]? =some E:=⟨_,Ze Zo⟩
  have Dw:=Kd (b:=b) (U:=0) (n:=bH.length) (i:=o) Zo
  have TA:=Kd (b:=b) (U:=0) (n:=bH.length) (i:=o-1) Zo
  rw[ZF]at Dw TA
  have Gp:=bS.pJ aB
  have SM:=bS.pJ av
  have u6:=aac (bH:=bH) (W:=o-1) (E:=E) (p:=p) (by rw[show o-1+1=o by omega];exact aB) av
  rw[show o-1+2=o+1 by omega,show o-1+1=o by omega,ax]at u6
  by_cases gU:E=p
  ·have cE:decide (E=p)=true:=by simp[gU]
   rw[Zq gU,Z0]at u6
   have j3:=agq bS (o:=o) Zo
   refine eD @t3 @t0 @d @Dw @TA @Gp (Za @SM (Za @b3 (Za @cE @j3))) ⟨?_⟩
   refine fP (λm I R aP=>∃(W de:Nat) (fT:List Int),I.g 0=some (.el b 0 bH.length 1)/\I.g 3=some (.int .i64 (de:Int))/\I.g 4=some (.el b o (bH.length-o) 1)/\I.g 5=some (.int .i64 (W:Int))/\W+m=bH.length-o/\1<=W/\o<=de/\de+1<=o+W/\j<=aP/\
    oO X R b fT/\fT.length=bH.length/\fT.take de=uq (bH.take (o+W))/\(∀i,o+W<=i+1->fT[i]? =bH[i]?)/\∀e,e≠b->Z X R e=Z X gn e)
    (bH.length-o-1) ⟨1,o,bH,a6 t0,a6 t3,bt,gc,Zo,Zh _,Zh _,Zh _,Zo,bS,rfl,u6.symm,λ_ _=>rfl,λ_ _=>rfl⟩ ?_
   clear t0 t3 I
   rintro e6 I aU bc ⟨W,de,fT,t0,t3,t4,t5,bx,Nn,uV,Jr,lX,uR,GK,Tv,N1,SF⟩
   cases e6 with
   |zero=>
    have d:=zD W (bH.length-o:Nat)
    rw[show o+W=bH.length by omega,YU]at Tv
    have oo:=agq uR (o:=de) Zo
    obtain⟨aQ,g4,yh,gD⟩:=amw (j:=bc) uR (o:=de) Zo
    rw[GK]at oo g4
    have la:(fT.take de++List.replicate (fT.length-de) (0:Int)).length=bH.length:=by simp;omega
    have adB:=ayE yh (o:=de) Zo
    rw[la]at adB
    refine lT @t5 @t4 @t0 @t3 @d @oo ⟨?_⟩
    refine kl g4 ?_
    refine ey @t0 @t3 @adB ⟨?_⟩
    refine⟨Zo,⟨b, ?_⟩,λe D=> ?_⟩
    ·have V:=yh.rd (o:=de) Zo Zo o1
     rw[List.take_append_of_le_length (by simp;omega),List.take_take,Nat.min_self,Tv]at V
     exact V
    ·have fY:e≠b:=λB=>D (B▸o1)
     rw[gD e fY,SF e fY]
   |succ e6=>
    have d:=zE W (bH.length-o:Nat)
    have er:bm .add (.int .i64 (W:Int)) (.int .i64 1)=some (.int .i64 ((W+1:Nat):Int)):=by rw[eG Zo Zo];rfl
    have iJ:bm .sub (.int .i64 (W:Int)) (.int .i64 1)=some (.int .i64 ((W-1:Nat):Int)):=by rw[tH Zo Zo,show((W:Int) -1)=((W-1:Nat):Int) by omega]
    have n9:bm .add (.int .i64 (de:Int)) (.int .i64 1)=some (.int .i64 ((de+1:Nat):Int)):=by rw[eG Zo Zo];rfl
    obtain⟨c,wt⟩:∃E,bH[o+W]? =some E:=⟨_,Ze Zo⟩
    obtain⟨al,it⟩:∃E,bH[o+(W-1)]? =some E:=⟨_,Ze Zo⟩
    have ad0:=Kd (b:=b) (U:=o) (n:=bH.length-o) (i:=W) Zo
    have ad1:=Kd (b:=b) (U:=o) (n:=bH.length-o) (i:=W-1) Zo
    have Ju:=uR.pJ ((N1 _ Zo).trans wt)
    have sx:=uR.pJ ((N1 _ Zo).trans it)
    have JX:=aac (bH:=bH) (W:=o+(W-1)) (E:=c) (p:=al) (by rw[show o+(W-1)+1=o+W by omega];exact wt) it
    rw[show o+(W-1)+2=o+(W+1) by omega,show o+(W-1)+1=o+W by omega, <-Tv]at JX
    by_cases Nd:c=al
    ·have cE:decide (c≠al)=false:=by simp[Nd]
     rw[Zq Nd,Z0]at JX
     refine eD @t5 @t4 @t0 @t3 @d @er (Za @iJ (Za @ad0 (Za @ad1 (Za @Ju (Za @sx @cE))))) ⟨?_⟩
     exact⟨e6,Zo,W+1,de,fT,a6 t0,a6 t3,a6 t4,bt,Zo,Zo,uV,Zo,Zo,uR,GK,JX.symm,λi aA=>N1 i Zo,SF⟩
    ·have cE:decide (c≠al)=true:=by simp[Nd]
     rw[Zg Nd]at JX
     have Dx:=Kd (b:=b) (U:=0) (n:=bH.length) (i:=de) Zo
     rw[ZF]at Dx
     obtain⟨aQ,cX,yh,gD⟩:=uR.store (i:=de) (aG:=c) Zo
     refine eD @t5 @t4 @t0 @t3 @d @er (Za @iJ (Za @ad0 (Za @ad1 (Za @Ju (Za @sx (Za @cE (Za @Dx (Za @cX @n9)))))))) ⟨?_⟩
     refine⟨e6,Zo,W+1,de+1,fT.set de c,a6 t0,bt,a6 t4,bt,Zo,Zo,Zo,Zo,Zo,yh,by rw[Y2];exact GK, ?_,λi aA=>by rw[YD,Zg Zo];exact N1 i Zo,λe D=>by rw[gD e D,SF e D]⟩
     rw[JX,Z3,YD,Zq rfl,Zq Zo,List.take_set_of_le (Zh _)]
     rfl
  ·have cE:decide (E=p)=false:=by simp[gU]
   rw[Zg gU]at u6
   refine eD @t3 @t0 @d @Dw @TA @Gp (Za @SM (Za @b3 (Za @cE @bw))) ⟨?_⟩
   exact⟨m,Zo,o+1,a6 t0,bt,Zo,Zo,rfl,Zo,by rw[u6,Z3,aB];rfl⟩
end
end
end Go.Proofs.YtendhgofocgngaaGreatDoor

