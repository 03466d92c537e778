/- A part of the proof of the claim's last text: what it is used for is said there; no condition of its own. -/
import Derived.Test.YtpfajohmofnkfaaGreatDoorYn
set_option maxHeartbeats 8000000
set_option linter.unusedVariables false
set_option linter.unusedSimpArgs false
namespace Go.Proofs.YtpfajohmofnkfaaGreatDoor
open Go.al Go.bh
noncomputable section
section
variable{X:cD}{h V bb aV:U an}{k av aQ bp aF bE:Nat}{aR:List Tok}{i:Nat}
def uL(I b:Nat)(db:List Nat):Nat->Prop:=λj=>I<=j/\j<b/\j∉db
theorem dq.off{C:aX}{bR:Nat->Prop}{I b cN:Nat}{db:List Nat}{bx:H}{a2:List bM}{br:List H}(a:dq C h (uL I b db) a2 br)(S:ej C h (λj=>bR j/\j∈db) cN bx 1 (br.map λv=>[v])):dq C h (λj=>ef I b j/\j≠cN) a2 br:=by
 cases br with
 |nil=>
  have:=a.len
  cases a2 with
  |nil=>exact .nil
  |cons=>simp at this
 |cons v br=>
  have ai:=(S.ai Zs).2
  exact dq.lift (λj T=>⟨⟨T.1,T.2.1⟩,λE=>T.2.2 (E▸ai)⟩) _ _ a
theorem i2(aA:d7 X)(ax:ib X h k aF bE aR i){cN:Nat}{s:a1}(xl:cN<k)(PY:cN≠aF)(aH:ab X h cN=some (.cells (U.ofList [.str s] 0 .nil) 1 .own)){r:Except Int (Tok×List Tok)}(S:ei s (aR.drop i)=some r):
 a6 X 172 [.ptr aF 0, .slice cN 0 1 1] h k (λad V av=>∃x cy,r= .ok (x,aR.drop cy)/\ad= .agg (bZ x)/\bh X V aF bE aR cy/\cu X [aF] h k V av) (it X aF h k r):=by
 have M:ej X h (λj=>j=cN) cN (.slice cN 0 1 1) 1 (hX [s]):=Me (b6:=[[.str s]]) (st:= .own) aH rfl Zs Zs rfl
 refine(acG aA ax.bj ax.par ax.fK ax.g0 ax.gF ax.many xl PY M (r:=r) ?_)
 simp only[qU]
 rw[S]
 obtain⟨E|⟨x,l⟩,_⟩:∃ar,ar=r:=⟨r,rfl⟩
 all_goals(rename_i cf;subst cf;rfl)
theorem ao2(aA:d7 X){n:Nat}(pJ:n<=300000)(ah:∀m,m<n->qb X aF bE aR m):∀h k i r,ib X h k aF bE aR i->Go.bh.list n (aR.drop i)=some r->a6 X 262 [.ptr aF 0] h k (λad V av=>∃a2 cy br cN,r= .ok (a2,aR.drop cy)/\ej X V (ef k av) cN ad 1 (br.map λv=>[v])/\dq X V (λj=>ef k av j/\j≠cN) a2 br/\bh X V aF bE aR cy/\cu X [aF] h k V av) (it X aF h k r):=by
 intro h k i r ax S
 cases n with
 |zero=>simp[Go.bh.list]at S
 |succ n=>
 refine dj (afH X) (aA.none _ _ rfl) ?_
 rw[afI]
 unfold TR
 have gr:=ax.bj
 have jN:=ax.g0
 have hL:=ax.fK
 have jd:=ax.gF
 unfold Go.bh.list at S
 obtain⟨x,cd,aI,ag⟩:=p7 S
 refine(m7 aA ax aI _).Zm ?_
 rintro uU bb aQ ⟨rfl,d3,hl⟩
 have jB:=hl.le
 rcases ag with ⟨aH,S⟩|⟨aH,S⟩
 ·rw[aH]at d3 ⊢
  simp only[ZB]at d3 ⊢
  simp only[ok,Ze]at S
  subst S
  refine cx bZ.eq_1 ⟨?_⟩
  refine⟨[],i+1,[],0,by rw[(fm aI).2],ej.nil _ _, .nil,d3.af (by simp(disch:=omega) only[aK]) (by simp(disch:=omega) only[aK]), ?_⟩
  exact⟨Zo,λb ai bO=>by rw[<-hl.af b ai bO];simp(disch:=omega) only[aK]⟩
 ·rw[aH]at d3 ⊢
  simp only[Zt,Zx]at d3 ⊢
  simp only[]at S
  refine dc bZ.eq_1 gG.eq_1 ⟨?_⟩
  refine eZ (λbo=>bB X bb aQ bo (aQ+1)) dR ?_
  intro aV ct
  have fq:=ax.go (d3.ex ct Zo Zo) (by omega:k<=aQ+1)
  have dl:=hl.trans (cu.of ct)
  rcases f4 S with ⟨I,R,rfl⟩|⟨E,c5,R,S⟩
  ·exact((ah n Zo).arrow aV _ _ _ fq R).mono (λad V av a=>by obtain⟨E,cy,a,_⟩:=a;cases a) (λad V av a=>a.of dl (λ_ a=>by cases a;rfl))
  refine((ah n Zo).arrow aV _ _ _ fq R).mono ?_ (λad V av a=>by obtain⟨I,a,_⟩:=a;cases a)
  rintro v3 bo bw ⟨fh,i3,alx,cE,gg,en⟩
  cases alx
  have jf:=en.le
  obtain⟨dT,rfl,n4,_⟩:=cE.ptr
  have n4:=n4.2
  refine c0 ⟨?_⟩
  refine f8 (λm J V aY=>∃a2 br s db cy,br.length+m<=n+1/\J.g 0=some (.ptr aF 0)/\J.g 5=some s/\hE X V s 1 br db/\(∀j∈db,k<=j/\j<aY)/\dq X V (uL k aY db) a2 br/\bh X V aF bE aR cy/\cu X [aF] h k V aY/\od m a2 (aR.drop cy)=some r)
   n ⟨[E],[.ptr dT 0], .slice bw 0 1 1,[bw],i3,by simp;omega,bv,bv, .inr ⟨bw,1,_,_,rfl,rfl,rfl,bq Zo,o1 _⟩, ?_, ?_,gg.af (by simp(disch:=omega) only[aK]) (by simp(disch:=omega) only[aK]), ?_,S⟩ ?_
  ·intro j T
   simp at T
   omega
  ·refine dq.one (cP.af (λj T=> ?_) _ _ cE) (λj T=>⟨by have:=T.1;omega,by have:=T.2;omega,by have:=T.2;simp;omega⟩)
   have:=T.2
   simp(disch:=omega) only[aK]
  ·exact⟨Zo,λb ai bO=>by rw[<-(dl.trans en).af b ai bO];simp(disch:=omega) only[aK]⟩
  clear cE gg en R S n4
  rintro m J bX dd ⟨a2,br,s,db,i4,bi,t0,t5,nv,ih,D3,gT,eD,S⟩
  cases m with
  |zero=>simp[od]at S
  |succ m=>
  unfold od at S
  have jC:=eD.le
  have kn:=ax.go gT jC
  refine gh ?_
  refine cx @t0 ⟨?_⟩
  obtain⟨j,cd,aI,ag⟩:=p7 S
  refine(m7 aA kn aI _).Zm ?_
  rintro Fz b4 cA ⟨rfl,gU,dO⟩
  have iW:=dO.le
  have oa:∀j,k<=j->j<dd->ab X b4 j=ab X bX j:=λj M R=>dO.af j Zo (by simp;omega)
  have n6:=nv.af (V:=b4) (λj T=>oa j (ih j T).1 (ih j T).2)
  have tW:=dq.af (V:=b4) (λj T=>oa j T.1 T.2.1) _ _ D3
  rcases ag with ⟨aH,S⟩|⟨aH,S⟩
  ·rw[aH]at gU ⊢
   simp only[ZB]at gU ⊢
   rw[<-(fm aI).2]at S
   simp only[]at S
   refine e8 bZ.eq_1 @t0 @t5 ⟨?_⟩
   refine eZ (λbo=>bB X b4 cA bo (cA+1)) dR ?_
   intro ck eU
   have ev:=(eD.trans dO).trans (cu.of eU)
   have lG:=kn.go (gU.ex eU Zo Zo) (by omega:dd<=cA+1)
   rcases f4 S with ⟨I,dM,rfl⟩|⟨NY,lF,dM,S⟩
   ·exact((ah m Zo).arrow ck _ _ _ lG dM).mono (λad V av a=>by obtain⟨E,cy,a,_⟩:=a;cases a) (λad V av a=>a.of ev (λ_ a=>by cases a;rfl))
   refine((ah m Zo).arrow ck _ _ _ lG dM).mono ?_ (λad V av a=>by obtain⟨I,a,_⟩:=a;cases a)
   rintro IS cC ew ⟨Vm,n8,xo,e9,hn,eV⟩
   cases xo
   have oX:=eV.le
   obtain⟨Fc,rfl,B6,_⟩:=e9.ptr
   have B6:=B6.2
   refine c0 ⟨?_⟩
   have aoi:∀gb,gb=bm X cC ew (some (.cells (U.ofList [.ptr Fc 0] 0 .nil) 1 .own))->∀j,k<=j->j<cA->ab X gb j=ab X b4 j:=by
    rintro gb rfl j M R
    rw[aK Zo Zo,eV.af j Zo (by simp;omega),eU.af j Zo]
   have iX:jR X (bm X cC ew (some (.cells (U.ofList [.ptr Fc 0] 0 .nil) 1 .own))) 1 (.slice ew 0 1 1)=some (1,[.ptr Fc 0]):=s9 (bq Zo) (o1 _) rfl _
   obtain⟨fZ,dQ,iE,j3,P1,G5,BX⟩:=(n6.af (V:=bm X cC ew (some (.cells (U.ofList [.ptr Fc 0] 0 .nil) 1 .own))) (λj T=>aoi _ rfl j (ih j T).1 (by have:=(ih j T).2;omega))).append (k:=ew+1) Zd iX rfl Zd rfl (by simp;omega) Zo (λj T=>by have:=(ih j T).2;omega)
   refine kI j3 ?_
   have im:∀j,j<ew->j∉db->ab X dQ j=ab X cC j:=λj M R=>by
    rw[BX j Zo R,aK Zo Zo]
   refine⟨m,Zo,a2++[NY],br++[.ptr Fc 0],fZ,iE,n8,by simp;omega,bn t0,bv, .inl P1, ?_, ?_, ?_, ?_,S⟩
   ·intro j T
    rcases G5 j T with rfl|T
    ·omega
    ·have:=ih j T;omega
   ·refine dq.snoc (cP.af (λj T=> ?_) _ _ e9) (dq.af (λj T=> ?_) _ _ tW) (λj T=>⟨T.1,by have:=T.2.1;omega,λf7=> ?_⟩) (λj T=>⟨⟨by have:=T.1;omega,by have:=T.2;omega,λf7=> ?_⟩,λn7=>by have:=T.1;have:=n7.2.1;omega⟩)
    ·have M:=T.1
     exact im j T.2 (λf7=>by have:=ih j f7;omega)
    ·have R:=T.2.1
     rw[im j Zo T.2.2,eV.af j Zo (by have:=T.1;simp;omega),eU.af j Zo]
    ·have R:=T.2.1
     rcases G5 j f7 with rfl|f7
     ·omega
     ·exact T.2.2 f7
    ·have M:=T.1;have R:=T.2
     rcases G5 j f7 with rfl|f7
     ·omega
     ·have:=ih j f7;omega
   ·exact hn.af (im _ Zo (λE=>by have:=ih _ E;omega)) (im _ Zo (λE=>by have:=ih _ E;omega))
   ·exact⟨Zo,λb ai bO=>by rw[im b Zo (λE=>by have:=ih _ E;omega)];exact(ev.trans eV).af b ai bO⟩
  ·rw[aH]at gU ⊢
   simp only[Zt,Zx]at gU ⊢
   simp only[]at S
   refine hk bZ.eq_1 gG.eq_1 @t0 @t5 ⟨?_⟩
   refine eZ (λbo=>bB X b4 cA bo (cA+1+1)/\ab X bo (cA+1)=some (.cells (U.ofList [.str [41]] 0 .nil) 1 .own)) ⟨dR,bq Zo⟩ ?_
   rintro ck ⟨eU,g6⟩
   have ev:=(eD.trans dO).trans (cu.of eU)
   have lG:=kn.go (gU.ex eU Zo Zo) (by omega:dd<=cA+1+1)
   rcases f4 S with ⟨I,dM,rfl⟩|⟨NY,lF,dM,S⟩
   ·exact(i2 aA lG Zo Zo g6 dM).mono (λad V av a=>by obtain⟨E,cy,a,_⟩:=a;cases a) (λad V av a=>a.of ev (λ_ a=>by cases a;rfl))
   refine(i2 aA lG Zo Zo g6 dM).mono ?_ (λad V av a=>by obtain⟨I,a,_⟩:=a;cases a)
   rintro IS cC ew ⟨Vm,n8,xo,_,hn,eV⟩
   cases xo
   have oX:=eV.le
   simp only[ok,Ze]at S
   subst S
   refine cx @t5 ⟨?_⟩
   have gl:∀j,k<=j->j<cA->ab X cC j=ab X b4 j:=λj M R=>by
    rw[eV.af j Zo (by simp;omega),eU.af j Zo]
   obtain⟨cN,dp⟩:=(n6.af (V:=cC) (λj T=>gl j (ih j T).1 (by have:=(ih j T).2;omega))).Iz (P:=λj=>ef k ew j/\j∈db) Zo (λj T=>⟨⟨(ih j T).1,by have:=(ih j T).2;omega⟩,T⟩)
   refine⟨a2,n8,br,cN,rfl,dp.lift (λj T=>T.1), ?_,hn,ev.trans eV⟩
   exact dq.lift (λj T=>⟨⟨T.1.1,by have:=T.1.2;omega⟩,T.2⟩) _ _ (dq.off (dq.af (λj T=>gl j T.1 (by have:=T.2.1;omega)) _ _ tW) dp)
end
end
end Go.Proofs.YtpfajohmofnkfaaGreatDoor

namespace Go.Proofs.YtpfajohmofnkfaaGreatDoor
open Go.al Go.bh
noncomputable section
section
variable{X:cD}{h V bb aV:U an}{k av aQ bp aF bE:Nat}{aR:List Tok}{i:Nat}
theorem aqC(aA:d7 X){n:Nat}{r:Except Int (bM×List Tok)}(ax:ib X h k aF bE aR i){x:Tok}{l:List Tok}(aI:aR.drop i=x::l)(aP:x.kind=5)(S:Go.bh.part (n+1) (x::l)=some r):
 a6 X 261 [.ptr aF 0] h k (jo X aF bE aR h k r) (it X aF h k r):=by
 refine dj (yn X) (aA.none _ _ rfl) ?_
 rw[yo]
 unfold wJ
 have gr:=ax.bj
 have jN:=ax.g0
 have hL:=ax.fK
 have jd:=ax.gF
 obtain⟨ag,jA⟩:=fm aI
 unfold Go.bh.part at S
 refine(qI aA ax.bj ax.par ax.g0 ax.gF ag).Zm ?_
 rintro ad bb aQ ⟨rfl,b8⟩
 have jB:=b8.le
 have d3:=ax.par.ex b8 Zo Zo
 obtain⟨c,ap,be,b2,a3,a4⟩:=d3.at_
 have bN:=jD be a3
 have ll:=(Zc.1 ag).1
 have ua:=ax.many
 have dv:=d3.ne
 have bF:aL .add (.int .i64 (i:Int)) (.int .i64 1)=some (.int .i64 ((i+1:Nat):Int)):=by rw[eQ Zo Zo];rfl
 refine gS bZ.eq_1 @bN (Za @bF @be) ⟨?_⟩
 generalize dI:bm X _ aF _=aV
 have ek:ab X aV aQ=some (.cells (U.ofList (bZ x) 0 .nil) 7 .own):=by rw[<-dI];simp(disch:=omega) only[aK,bq]<;>rfl
 have ie:ab X aV (aQ+1)=some (.cells (U.ofList (gJ 0 x.at_ [] false dA 0 .aU) 0 .nil) 9 .own):=by rw[<-dI];simp(disch:=omega) only[aK,bq]<;>rfl
 have dh:bh X aV aF bE aR (i+1):=by
  refine d3.on (c:=d0 c 1 [.int .i64 ((i+1:Nat):Int)]) ?_ (λd1 st a=>by rw[be]at a;cases a;exact r7 ..) ?_
  ·rw[<-dI];simp(disch:=omega) only[aK,bq];rfl
  ·rw[<-dI];simp(disch:=omega) only[aK]
 have dl:cu X [aF] h k aV (aQ+2):=by
  refine⟨Zo,λb ai bO=> ?_⟩
  rw[<-b8.af b ai, <-dI]
  simp only[Zl,ZJ,Y0,Yt,ZG,Z8]at bO
  simp(disch:=omega) only[aK]
 clear dI bN be b2 a3 a4 d3 b8
 have sy:∃d2,ab X aV aF=some (.cells d2 2 .own)/\ao X aV (.ptr aF 1)=some (.int .i64 ((i+1:Nat):Int)):=by
  obtain⟨c,ap,dr,eu,eI,jZ⟩:=dh.at_
  exact⟨c,dr,jD dr eI⟩
 have fq:=ax.go dh (by omega:k<=aQ+1+1)
 refine j6 (λJ V aY=>∃v,J.g 4=some v/\jo X aF bE aR h k r v V aY) (λaa bK=> ?_) (by
  rintro J V aY ⟨v,t4,a⟩
  refine cx @t4 ⟨?_⟩
  exact a)
 rw[Zr aP]at S
 simp only[ok,Ze]at S
 subst S
 have fM:decide (x.kind=5)=true:=by simp[aP]
 refine hk (bW ek) @ie @fM bZ.eq_1 ⟨?_⟩
 refine jH (by simp[H.same,p0]) ?_
 refine e8 (bW ek) @ie bZ.eq_1 ⟨?_⟩
 refine jH (qL _ _) ?_
 refine e8 (bW ek) @ie bZ.eq_1 ⟨?_⟩
 refine jH (qL _ _) ?_
 refine e8 (bW ek) @ie bZ.eq_1 ⟨?_⟩
 refine bK _ _ _ ⟨.ptr (aQ+1) 0,bv,_,i+1,by rw[<-jA],cP.leaf (b:=aQ+1) (m:=9) (st:= .own) ?_ ⟨Zo,Zo⟩,dh.af (by simp(disch:=omega) only[aK]) (by simp(disch:=omega) only[aK]), ?_⟩
 ·simp(disch:=omega) only[aK,bq]<;>rfl
 ·exact⟨Zo,λb ai bO=>by rw[<-dl.af b ai bO];simp(disch:=omega) only[aK]⟩
end
end
end Go.Proofs.YtpfajohmofnkfaaGreatDoor

namespace Go.Proofs.YtpfajohmofnkfaaGreatDoor
open Go.al Go.bh
noncomputable section
section
variable{X:cD}{h V bb aV:U an}{k av aQ bp aF bE:Nat}{aR:List Tok}{i:Nat}
theorem abo(aA:d7 X){n:Nat}{r:Except Int (bM×List Tok)}(ax:ib X h k aF bE aR i){x:Tok}{l:List Tok}(aI:aR.drop i=x::l)(aP:x.kind=2)(aT:x.text=[116,114,117,101]\/x.text=[102,97,108,115,101])(S:Go.bh.part (n+1) (x::l)=some r):
 a6 X 261 [.ptr aF 0] h k (jo X aF bE aR h k r) (it X aF h k r):=by
 refine dj (yn X) (aA.none _ _ rfl) ?_
 rw[yo]
 unfold wJ
 have gr:=ax.bj
 have jN:=ax.g0
 have hL:=ax.fK
 have jd:=ax.gF
 obtain⟨ag,jA⟩:=fm aI
 unfold Go.bh.part at S
 refine(qI aA ax.bj ax.par ax.g0 ax.gF ag).Zm ?_
 rintro ad bb aQ ⟨rfl,b8⟩
 have jB:=b8.le
 have d3:=ax.par.ex b8 Zo Zo
 obtain⟨c,ap,be,b2,a3,a4⟩:=d3.at_
 have bN:=jD be a3
 have ll:=(Zc.1 ag).1
 have ua:=ax.many
 have dv:=d3.ne
 have bF:aL .add (.int .i64 (i:Int)) (.int .i64 1)=some (.int .i64 ((i+1:Nat):Int)):=by rw[eQ Zo Zo];rfl
 refine gS bZ.eq_1 @bN (Za @bF @be) ⟨?_⟩
 generalize dI:bm X _ aF _=aV
 have ek:ab X aV aQ=some (.cells (U.ofList (bZ x) 0 .nil) 7 .own):=by rw[<-dI];simp(disch:=omega) only[aK,bq]<;>rfl
 have ie:ab X aV (aQ+1)=some (.cells (U.ofList (gJ 0 x.at_ [] false dA 0 .aU) 0 .nil) 9 .own):=by rw[<-dI];simp(disch:=omega) only[aK,bq]<;>rfl
 have dh:bh X aV aF bE aR (i+1):=by
  refine d3.on (c:=d0 c 1 [.int .i64 ((i+1:Nat):Int)]) ?_ (λd1 st a=>by rw[be]at a;cases a;exact r7 ..) ?_
  ·rw[<-dI];simp(disch:=omega) only[aK,bq];rfl
  ·rw[<-dI];simp(disch:=omega) only[aK]
 have dl:cu X [aF] h k aV (aQ+2):=by
  refine⟨Zo,λb ai bO=> ?_⟩
  rw[<-b8.af b ai, <-dI]
  simp only[Zl,ZJ,Y0,Yt,ZG,Z8]at bO
  simp(disch:=omega) only[aK]
 clear dI bN be b2 a3 a4 d3 b8
 have sy:∃d2,ab X aV aF=some (.cells d2 2 .own)/\ao X aV (.ptr aF 1)=some (.int .i64 ((i+1:Nat):Int)):=by
  obtain⟨c,ap,dr,eu,eI,jZ⟩:=dh.at_
  exact⟨c,dr,jD dr eI⟩
 have fq:=ax.go dh (by omega:k<=aQ+1+1)
 refine j6 (λJ V aY=>∃v,J.g 4=some v/\jo X aF bE aR h k r v V aY) (λaa bK=> ?_) (by
  rintro J V aY ⟨v,t4,a⟩
  refine cx @t4 ⟨?_⟩
  exact a)
 rw[Zg (by rw[aP];decide),Zr (by rcases aT with a|a<;>simp[aP,a])]at S
 simp only[ok,Ze]at S
 subst S
 have fM:decide (x.kind=5)=false:=by simp[aP]
 have cG:decide (x.kind=2)=true:=by simp[aP]
 rcases aT with aT|aT
 ·have Gp:decide (x.text=[116,114,117,101])=true:=by simp[aT]
  refine iJ (bW ek) @ie @fM @cG @Gp bZ.eq_1 ⟨?_⟩
  refine bK _ _ _ ⟨.ptr (aQ+1) 0,bv,_,i+1,by rw[<-jA],cP.leaf (b:=aQ+1) (m:=9) (st:= .own) (n:=if x.text=[116,114,117,101]then 1 else 0) ?_ ⟨Zo,Zo⟩,dh.af (by simp(disch:=omega) only[aK]) (by simp(disch:=omega) only[aK]), ?_⟩
  ·rw[Zr aT];simp(disch:=omega) only[aK,bq]<;>rfl
  ·exact⟨Zo,λb ai bO=>by rw[<-dl.af b ai bO];simp(disch:=omega) only[aK]⟩
 ·have Gp:decide (x.text=[116,114,117,101])=false:=by simp[aT]
  have a8:decide (x.text=[102,97,108,115,101])=true:=by simp[aT]
  refine e0 (bW ek) @ie @fM @cG @Gp @a8 bZ.eq_1 ⟨?_⟩
  refine bK _ _ _ ⟨.ptr (aQ+1) 0,bv,_,i+1,by rw[<-jA],cP.leaf (b:=aQ+1) (m:=9) (st:= .own) (n:=if x.text=[116,114,117,101]then 1 else 0) ?_ ⟨Zo,Zo⟩,dh.af (by simp(disch:=omega) only[aK]) (by simp(disch:=omega) only[aK]), ?_⟩
  ·rw[Zg (by rw[aT];decide)];simp(disch:=omega) only[aK,bq]<;>rfl
  ·exact⟨Zo,λb ai bO=>by rw[<-dl.af b ai bO];simp(disch:=omega) only[aK]⟩
end
end
end Go.Proofs.YtpfajohmofnkfaaGreatDoor

namespace Go.Proofs.YtpfajohmofnkfaaGreatDoor
open Go.al Go.bh
noncomputable section
section
variable{X:cD}{h V bb aV:U an}{k av aQ bp aF bE:Nat}{aR:List Tok}{i:Nat}
theorem aqE(aA:d7 X){n:Nat}(ah:∀m,m<n+1->qb X aF bE aR m){r:Except Int (bM×List Tok)}(ax:ib X h k aF bE aR i){x:Tok}{l:List Tok}(aI:aR.drop i=x::l)(pJ:n<=1000000)(aP:x.kind=1)(S:Go.bh.part (n+1) (x::l)=some r):
 a6 X 261 [.ptr aF 0] h k (jo X aF bE aR h k r) (it X aF h k r):=by
 refine dj (yn X) (aA.none _ _ rfl) ?_
 rw[yo]
 unfold wJ
 have gr:=ax.bj
 have jN:=ax.g0
 have hL:=ax.fK
 have jd:=ax.gF
 obtain⟨ag,jA⟩:=fm aI
 unfold Go.bh.part at S
 refine(qI aA ax.bj ax.par ax.g0 ax.gF ag).Zm ?_
 rintro ad bb aQ ⟨rfl,b8⟩
 have jB:=b8.le
 have d3:=ax.par.ex b8 Zo Zo
 obtain⟨c,ap,be,b2,a3,a4⟩:=d3.at_
 have bN:=jD be a3
 have ll:=(Zc.1 ag).1
 have ua:=ax.many
 have dv:=d3.ne
 have bF:aL .add (.int .i64 (i:Int)) (.int .i64 1)=some (.int .i64 ((i+1:Nat):Int)):=by rw[eQ Zo Zo];rfl
 refine gS bZ.eq_1 @bN (Za @bF @be) ⟨?_⟩
 generalize dI:bm X _ aF _=aV
 have ek:ab X aV aQ=some (.cells (U.ofList (bZ x) 0 .nil) 7 .own):=by rw[<-dI];simp(disch:=omega) only[aK,bq]<;>rfl
 have ie:ab X aV (aQ+1)=some (.cells (U.ofList (gJ 0 x.at_ [] false dA 0 .aU) 0 .nil) 9 .own):=by rw[<-dI];simp(disch:=omega) only[aK,bq]<;>rfl
 have dh:bh X aV aF bE aR (i+1):=by
  refine d3.on (c:=d0 c 1 [.int .i64 ((i+1:Nat):Int)]) ?_ (λd1 st a=>by rw[be]at a;cases a;exact r7 ..) ?_
  ·rw[<-dI];simp(disch:=omega) only[aK,bq];rfl
  ·rw[<-dI];simp(disch:=omega) only[aK]
 have dl:cu X [aF] h k aV (aQ+2):=by
  refine⟨Zo,λb ai bO=> ?_⟩
  rw[<-b8.af b ai, <-dI]
  simp only[Zl,ZJ,Y0,Yt,ZG,Z8]at bO
  simp(disch:=omega) only[aK]
 clear dI bN be b2 a3 a4 d3 b8
 have sy:∃d2,ab X aV aF=some (.cells d2 2 .own)/\ao X aV (.ptr aF 1)=some (.int .i64 ((i+1:Nat):Int)):=by
  obtain⟨c,ap,dr,eu,eI,jZ⟩:=dh.at_
  exact⟨c,dr,jD dr eI⟩
 have fq:=ax.go dh (by omega:k<=aQ+1+1)
 refine j6 (λJ V aY=>∃v,J.g 4=some v/\jo X aF bE aR h k r v V aY) (λaa bK=> ?_) (by
  rintro J V aY ⟨v,t4,a⟩
  refine cx @t4 ⟨?_⟩
  exact a)
 rw[Zg (by rw[aP];decide),Zg (by simp[aP]),Zr aP]at S
 have fM:decide (x.kind=5)=false:=by simp[aP]
 have cG:decide (x.kind=2)=false:=by simp[aP]
 have cQ:decide (x.kind=1)=true:=by simp[aP]
 refine iJ (bW ek) @ie @fM @cG @cQ bZ.eq_1 ⟨?_⟩
 refine jH (by simp[H.same,Ct]) ?_
 refine e8 (bW ek) @ie bZ.eq_1 ⟨?_⟩
 refine eZ (λbo=>ab X bo (aQ+1)=some (.cells (U.ofList (gJ 2 x.at_ x.text false dA 0 .aU) 0 .nil) 9 .own)/\bh X bo aF bE aR (i+1)/\cu X [aF] h k bo (aQ+1+1+10)) ⟨?_, ?_, ?_⟩ ?_
 ·simp(disch:=omega) only[aK,bq]<;>rfl
 ·exact dh.af (by simp(disch:=omega) only[aK]) (by simp(disch:=omega) only[aK])
 ·exact⟨Zo,λb ai bO=>by rw[<-dl.af b ai bO];simp(disch:=omega) only[aK]⟩
 clear dh fq dl ek ie sy
 rintro bo ⟨ie,gg,en⟩
 have mC:=ax.go gg (by omega:k<=aQ+1+1+10)
 rw[<-jA]at S
 obtain⟨j,gE,BQ,anz⟩:=p7 S
 refine(m7 aA mC BQ _).Zm ?_
 rintro Fy bX dd ⟨rfl,gT,eD⟩
 have jC:=eD.le
 have GD:ab X bX (aQ+1)=some (.cells (U.ofList (gJ 2 x.at_ x.text false dA 0 .aU) 0 .nil) 9 .own):=by rw[eD.af _ Zo (by simp;omega)];exact ie
 have tN:=en.trans eD
 rcases anz with ⟨aH,S⟩|⟨aH,S⟩
 ·rw[aH]at gT ⊢
  simp only[ZB]at gT ⊢
  rw[<-(fm BQ).2]at S
  simp only[]at S
  refine cx bZ.eq_1 ⟨?_⟩
  refine eZ (λb4=>bB X bX dd b4 (dd+1)) dR ?_
  intro b4 dX
  have nG:=mC.go (gT.ex dX Zo Zo) (by omega:aQ+1+1+10<=dd+1)
  have dO:=tN.trans (cu.of dX)
  rcases f4 S with ⟨I,cr,rfl⟩|⟨a2,kX,cr,S⟩
  ·exact((ah n Zo).list b4 _ _ _ nG cr).mono (λad V av a=>by obtain⟨E,cy,br,cN,a,_⟩:=a;cases a) (λad V av a=>a.of dO (λ_ a=>by cases a;rfl))
  refine((ah n Zo).list b4 _ _ _ nG cr).mono ?_ (λad V av a=>by obtain⟨I,a,_⟩:=a;cases a)
  rintro td ck eo ⟨jt,hP,br,cN,Pd,dp,D3,g9,ev⟩
  cases Pd
  have rB:=ev.le
  simp only[ok,Ze]at S
  subst S
  have ri:ab X ck (aQ+1)=some (.cells (U.ofList (gJ 2 x.at_ x.text false dA 0 .aU) 0 .nil) 9 .own):=by rw[ev.af _ Zo (by simp;omega),dX.af _ Zo];exact GD
  have mv:∃w,td.cells=[w]/\w=td/\o8 td=true:=by
   have:=dp.len
   cases td<;>first|exact⟨_,rfl,rfl,rfl⟩|(simp[eF]at this;done)
  obtain⟨w,bL,rfl,nw⟩:=mv
  have cV:∀cC Nz,ab X cC (aQ+1)=some (.cells Nz 9 .own)->ce X cC 1 (.ptr (aQ+1) 8) w=some (bm X cC (aQ+1) (some (.cells (Nz.set 8 (some w)) 9 .own))):=λcC Nz a=>qO a Zo Zo bL nw
  refine cx @ri ⟨?_⟩
  refine fH (cV _ _ (bq Zo)) ?_
  refine bK _ _ _ ⟨.ptr (aQ+1) 0,bv,_,hP,rfl,cP.of (b:=aQ+1) (m:=9) (st:= .own) (cN:=cN) (bx:=w) (kind:=25) (at_:=x.at_) (name:=x.text) (no:=false) (ty:=dA) (n:=0) (br:=br) ?_ ⟨Zo,Zo⟩ ?_ (λbu=> ?_) ?_,g9.af (by simp(disch:=omega) only[aK]) (by simp(disch:=omega) only[aK]), ?_⟩
  ·simp(disch:=omega) only[aK,bq]<;>rfl
  ·refine(dp.af (λj T=> ?_)).lift (λj T=>⟨by have:=T.1;omega,T.2⟩)
   have:=T.1
   simp(disch:=omega) only[aK]
  ·have:=(dp.ai (by simpa using bu)).1
   omega
  ·refine dq.lift (λj T=>⟨⟨by have:=T.1.1;omega,by have:=T.1.2;omega⟩,by have:=T.1.1;omega,T.2⟩) _ _ (dq.af (λj T=> ?_) _ _ D3)
   have M:=T.1.1
   have R:=T.1.2
   simp(disch:=omega) only[aK]
  ·exact⟨Zo,λb ai bO=>by rw[<-(dO.trans ev).af b ai bO];simp(disch:=omega) only[aK]⟩
 ·rw[aH]at gT ⊢
  simp only[Zt,Zx]at gT ⊢
  simp only[ok,Ze]at S
  subst S
  refine dc bZ.eq_1 gG.eq_1 ⟨?_⟩
  refine bK _ _ _ ⟨.ptr (aQ+1) 0,bv,_,i+1,rfl,cP.leaf (b:=aQ+1) (m:=9) (st:= .own) ?_ ⟨Zo,Zo⟩,gT.af (by simp(disch:=omega) only[aK]) (by simp(disch:=omega) only[aK]), ?_⟩
  ·simp(disch:=omega) only[aK];exact GD
  ·exact⟨Zo,λb ai bO=>by rw[<-tN.af b ai bO];simp(disch:=omega) only[aK]⟩
end
end
end Go.Proofs.YtpfajohmofnkfaaGreatDoor

namespace Go.Proofs.YtpfajohmofnkfaaGreatDoor
open Go.al Go.bh
noncomputable section
section
variable{X:cD}{h V bb aV:U an}{k av aQ bp aF bE:Nat}{aR:List Tok}{i:Nat}
theorem aqH(aA:d7 X){n:Nat}(ah:∀m,m<n+1->qb X aF bE aR m){r:Except Int (bM×List Tok)}(ax:ib X h k aF bE aR i){x:Tok}{l:List Tok}(aI:aR.drop i=x::l)(aP:x.kind=3)(S:Go.bh.part (n+1) (x::l)=some r):
 a6 X 261 [.ptr aF 0] h k (jo X aF bE aR h k r) (it X aF h k r):=by
 refine dj (yn X) (aA.none _ _ rfl) ?_
 rw[yo]
 unfold wJ
 have gr:=ax.bj
 have jN:=ax.g0
 have hL:=ax.fK
 have jd:=ax.gF
 obtain⟨ag,jA⟩:=fm aI
 unfold Go.bh.part at S
 refine(qI aA ax.bj ax.par ax.g0 ax.gF ag).Zm ?_
 rintro ad bb aQ ⟨rfl,b8⟩
 have jB:=b8.le
 have d3:=ax.par.ex b8 Zo Zo
 obtain⟨c,ap,be,b2,a3,a4⟩:=d3.at_
 have bN:=jD be a3
 have ll:=(Zc.1 ag).1
 have ua:=ax.many
 have dv:=d3.ne
 have bF:aL .add (.int .i64 (i:Int)) (.int .i64 1)=some (.int .i64 ((i+1:Nat):Int)):=by rw[eQ Zo Zo];rfl
 refine gS bZ.eq_1 @bN (Za @bF @be) ⟨?_⟩
 generalize dI:bm X _ aF _=aV
 have ek:ab X aV aQ=some (.cells (U.ofList (bZ x) 0 .nil) 7 .own):=by rw[<-dI];simp(disch:=omega) only[aK,bq]<;>rfl
 have ie:ab X aV (aQ+1)=some (.cells (U.ofList (gJ 0 x.at_ [] false dA 0 .aU) 0 .nil) 9 .own):=by rw[<-dI];simp(disch:=omega) only[aK,bq]<;>rfl
 have dh:bh X aV aF bE aR (i+1):=by
  refine d3.on (c:=d0 c 1 [.int .i64 ((i+1:Nat):Int)]) ?_ (λd1 st a=>by rw[be]at a;cases a;exact r7 ..) ?_
  ·rw[<-dI];simp(disch:=omega) only[aK,bq];rfl
  ·rw[<-dI];simp(disch:=omega) only[aK]
 have dl:cu X [aF] h k aV (aQ+2):=by
  refine⟨Zo,λb ai bO=> ?_⟩
  rw[<-b8.af b ai, <-dI]
  simp only[Zl,ZJ,Y0,Yt,ZG,Z8]at bO
  simp(disch:=omega) only[aK]
 clear dI bN be b2 a3 a4 d3 b8
 have sy:∃d2,ab X aV aF=some (.cells d2 2 .own)/\ao X aV (.ptr aF 1)=some (.int .i64 ((i+1:Nat):Int)):=by
  obtain⟨c,ap,dr,eu,eI,jZ⟩:=dh.at_
  exact⟨c,dr,jD dr eI⟩
 have fq:=ax.go dh (by omega:k<=aQ+1+1)
 refine j6 (λJ V aY=>∃v,J.g 4=some v/\jo X aF bE aR h k r v V aY) (λaa bK=> ?_) (by
  rintro J V aY ⟨v,t4,a⟩
  refine cx @t4 ⟨?_⟩
  exact a)
 rw[Zg (by rw[aP];decide),Zg (by simp[aP]),Zg (by rw[aP];decide),Zr aP]at S
 have fM:decide (x.kind=5)=false:=by simp[aP]
 have cG:decide (x.kind=2)=false:=by simp[aP]
 have cQ:decide (x.kind=1)=false:=by simp[aP]
 have eL:decide (x.kind=3)=true:=by simp[aP]
 refine e0 (bW ek) @ie @fM @cG @cQ @eL bZ.eq_1 ⟨?_⟩
 refine jH (by simp[H.same,p0]) ?_
 refine e8 (bW ek) @ie bZ.eq_1 ⟨?_⟩
 refine eZ (λbo=>ab X bo (aQ+1+1+10)=some (.cells (U.ofList [.str [40]] 0 .nil) 1 .own)/\ab X bo (aQ+1)=some (.cells (U.ofList (gJ 26 x.at_ [] false x.ty 0 .aU) 0 .nil) 9 .own)/\bh X bo aF bE aR (i+1)/\cu X [aF] h k bo (aQ+1+1+10+1)) ⟨bq Zo, ?_, ?_, ?_⟩ ?_
 ·simp(disch:=omega) only[aK,bq]<;>rfl
 ·exact dh.af (by simp(disch:=omega) only[aK]) (by simp(disch:=omega) only[aK])
 ·exact⟨Zo,λb ai bO=>by rw[<-dl.af b ai bO];simp(disch:=omega) only[aK]⟩
 clear dh fq dl ek ie sy
 rintro bo ⟨aC,ie,gg,en⟩
 have mC:=ax.go gg (by omega:k<=aQ+1+1+10+1)
 rw[<-jA]at S
 rcases f4 S with ⟨I,aM,rfl⟩|⟨kQ,gE,aM,S⟩
 ·exact(i2 aA mC Zo Zo aC aM).mono (λad V av a=>by obtain⟨E,cy,a,_⟩:=a;cases a) (λad V av a=>a.of en (λ_ a=>by cases a;rfl))
 refine(i2 aA mC Zo Zo aC aM).mono ?_ (λad V av a=>by obtain⟨I,a,_⟩:=a;cases a)
 rintro v4 bX dd ⟨atO,i4,sK,_,gT,eD⟩
 cases sK
 have jC:=eD.le
 have kn:=mC.go gT jC
 have xe:=en.trans eD
 rcases f4 S with ⟨I,bA,rfl⟩|⟨oP,gs,bA,S⟩
 ·exact((ah n Zo).arrow bX _ _ _ kn bA).mono (λad V av a=>by obtain⟨E,cy,a,_⟩:=a;cases a) (λad V av a=>a.of xe (λ_ a=>by cases a;rfl))
 refine((ah n Zo).arrow bX _ _ _ kn bA).mono ?_ (λad V av a=>by obtain⟨I,a,_⟩:=a;cases a)
 rintro v5 b4 cA ⟨JS,i5,rr,dX,gU,dO⟩
 cases rr
 have iW:=dO.le
 have nG:=kn.go gU iW
 have pz:=xe.trans dO
 obtain⟨lH,rfl,qx,_⟩:=dX.ptr
 have qx:=qx.2
 have qo:ab X b4 (aQ+1)=some (.cells (U.ofList (gJ 26 x.at_ [] false x.ty 0 .aU) 0 .nil) 9 .own):=by rw[dO.af _ Zo (by simp;omega),eD.af _ Zo (by simp;omega)];exact ie
 refine cx @qo ⟨?_⟩
 refine eZ (λck=>ab X ck (cA+1)=some (.cells (U.ofList [.str [41]] 0 .nil) 1 .own)/\ab X ck cA=some (.cells (U.ofList [.ptr lH 0] 0 .nil) 1 .own)/\ab X ck (aQ+1)=some (.cells (U.ofList (gJ 26 x.at_ [] false x.ty 0 (.slice cA 0 1 1)) 0 .nil) 9 .own)/\cP X ck (ef dd cA) oP (.ptr lH 0)/\bh X ck aF bE aR i5/\cu X [aF] h k ck (cA+1+1)) ⟨bq Zo, ?_, ?_, ?_, ?_, ?_⟩ ?_
 ·simp(disch:=omega) only[aK,bq]<;>rfl
 ·simp(disch:=omega) only[aK,bq]<;>rfl
 ·refine cP.ex dX (λj M R=> ?_) Zo Zo
  simp(disch:=omega) only[aK]
 ·exact gU.af (by simp(disch:=omega) only[aK]) (by simp(disch:=omega) only[aK])
 ·exact⟨Zo,λb ai bO=>by rw[<-pz.af b ai bO];simp(disch:=omega) only[aK]⟩
 clear dX gU qo dO
 rintro ck ⟨GG,ajQ,ri,eU,g9,ev⟩
 have lG:=ax.go g9 (by omega:k<=cA+1+1)
 rcases f4 S with ⟨I,dM,rfl⟩|⟨vb,lF,dM,S⟩
 ·exact(i2 aA lG Zo Zo GG dM).mono (λad V av a=>by obtain⟨E,cy,a,_⟩:=a;cases a) (λad V av a=>a.of ev (λ_ a=>by cases a;rfl))
 refine(i2 aA lG Zo Zo GG dM).mono ?_ (λad V av a=>by obtain⟨I,a,_⟩:=a;cases a)
 rintro IS cC ew ⟨atP,n8,xo,_,hn,eV⟩
 cases xo
 have oX:=eV.le
 simp only[ok,Ze]at S
 subst S
 refine bK _ _ _ ⟨.ptr (aQ+1) 0,bv,_,n8,rfl,cP.lit (B:=1) (cap:=1) (b:=aQ+1) (m:=9) (st:= .own) (iz:= .own) (cN:=cA) (br:=[.ptr lH 0]) ?_ ⟨Zo,Zo⟩ ?_ ⟨Zo,Zo⟩ rfl Zo Zo (dq.one (cP.af (λj T=> ?_) _ _ eU) (λj T=> ?_)),hn,ev.trans eV⟩
 ·rw[eV.af _ Zo (by simp;omega)];exact ri
 ·rw[eV.af _ Zo (by simp;omega)];exact ajQ
 ·have M:=T.1;have R:=T.2
  exact eV.af j Zo (by simp;omega)
 ·simp only[ef]at T ⊢;omega
end
end
end Go.Proofs.YtpfajohmofnkfaaGreatDoor

namespace Go.Proofs.YtpfajohmofnkfaaGreatDoor
open Go.al Go.bh
noncomputable section
section
variable{X:cD}{h V bb aV:U an}{k av aQ bp aF bE:Nat}{aR:List Tok}{i:Nat}
theorem aqG(aA:d7 X){n:Nat}(ah:∀m,m<n+1->qb X aF bE aR m){r:Except Int (bM×List Tok)}(ax:ib X h k aF bE aR i){x:Tok}{l:List Tok}(aI:aR.drop i=x::l)(aP:x.kind=6)(aT:x.text=[40])(S:Go.bh.part (n+1) (x::l)=some r):
 a6 X 261 [.ptr aF 0] h k (jo X aF bE aR h k r) (it X aF h k r):=by
 refine dj (yn X) (aA.none _ _ rfl) ?_
 rw[yo]
 unfold wJ
 have gr:=ax.bj
 have jN:=ax.g0
 have hL:=ax.fK
 have jd:=ax.gF
 obtain⟨ag,jA⟩:=fm aI
 unfold Go.bh.part at S
 refine(qI aA ax.bj ax.par ax.g0 ax.gF ag).Zm ?_
 rintro ad bb aQ ⟨rfl,b8⟩
 have jB:=b8.le
 have d3:=ax.par.ex b8 Zo Zo
 obtain⟨c,ap,be,b2,a3,a4⟩:=d3.at_
 have bN:=jD be a3
 have ll:=(Zc.1 ag).1
 have ua:=ax.many
 have dv:=d3.ne
 have bF:aL .add (.int .i64 (i:Int)) (.int .i64 1)=some (.int .i64 ((i+1:Nat):Int)):=by rw[eQ Zo Zo];rfl
 refine gS bZ.eq_1 @bN (Za @bF @be) ⟨?_⟩
 generalize dI:bm X _ aF _=aV
 have ek:ab X aV aQ=some (.cells (U.ofList (bZ x) 0 .nil) 7 .own):=by rw[<-dI];simp(disch:=omega) only[aK,bq]<;>rfl
 have ie:ab X aV (aQ+1)=some (.cells (U.ofList (gJ 0 x.at_ [] false dA 0 .aU) 0 .nil) 9 .own):=by rw[<-dI];simp(disch:=omega) only[aK,bq]<;>rfl
 have dh:bh X aV aF bE aR (i+1):=by
  refine d3.on (c:=d0 c 1 [.int .i64 ((i+1:Nat):Int)]) ?_ (λd1 st a=>by rw[be]at a;cases a;exact r7 ..) ?_
  ·rw[<-dI];simp(disch:=omega) only[aK,bq];rfl
  ·rw[<-dI];simp(disch:=omega) only[aK]
 have dl:cu X [aF] h k aV (aQ+2):=by
  refine⟨Zo,λb ai bO=> ?_⟩
  rw[<-b8.af b ai, <-dI]
  simp only[Zl,ZJ,Y0,Yt,ZG,Z8]at bO
  simp(disch:=omega) only[aK]
 clear dI bN be b2 a3 a4 d3 b8
 have sy:∃d2,ab X aV aF=some (.cells d2 2 .own)/\ao X aV (.ptr aF 1)=some (.int .i64 ((i+1:Nat):Int)):=by
  obtain⟨c,ap,dr,eu,eI,jZ⟩:=dh.at_
  exact⟨c,dr,jD dr eI⟩
 have fq:=ax.go dh (by omega:k<=aQ+1+1)
 refine j6 (λJ V aY=>∃v,J.g 4=some v/\jo X aF bE aR h k r v V aY) (λaa bK=> ?_) (by
  rintro J V aY ⟨v,t4,a⟩
  refine cx @t4 ⟨?_⟩
  exact a)
 rw[Zg (by rw[aP];decide),Zg (by simp[aP]),Zg (by rw[aP];decide),Zg (by rw[aP];decide),Zr (by simp[aP,aT])]at S
 have fM:decide (x.kind=5)=false:=by simp[aP]
 have cG:decide (x.kind=2)=false:=by simp[aP]
 have cQ:decide (x.kind=1)=false:=by simp[aP]
 have eL:decide (x.kind=3)=false:=by simp[aP]
 have hF:decide (x.kind=6)=true:=by simp[aP]
 have Gp:decide (x.text=[40])=true:=by simp[aT]
 refine e0 (bW ek) @ie @fM @cG @cQ @eL (Za @hF (Za @Gp bZ.eq_1)) ⟨?_⟩
 rw[<-jA]at S
 rcases f4 S with ⟨I,bA,rfl⟩|⟨oP,gs,bA,S⟩
 ·exact((ah n Zo).arrow aV _ _ _ fq bA).mono (λad V av a=>by obtain⟨E,cy,a,_⟩:=a;cases a) (λad V av a=>a.of dl (λ_ a=>by cases a;rfl))
 refine((ah n Zo).arrow aV _ _ _ fq bA).mono ?_ (λad V av a=>by obtain⟨I,a,_⟩:=a;cases a)
 rintro v5 b4 cA ⟨JS,i5,rr,dX,gU,dO⟩
 cases rr
 have iW:=dO.le
 have nG:=fq.go gU iW
 have pz:=dl.trans dO
 refine c0 ⟨?_⟩
 refine eZ (λck=>ab X ck cA=some (.cells (U.ofList [.str [41]] 0 .nil) 1 .own)/\bB X b4 cA ck (cA+1)) ⟨bq Zo,dR⟩ ?_
 rintro ck ⟨GG,eU⟩
 have lG:=nG.go (gU.ex eU Zo Zo) (by omega:cA<=cA+1)
 have ev:=pz.trans (cu.of eU)
 rcases f4 S with ⟨I,dM,rfl⟩|⟨vb,lF,dM,S⟩
 ·exact(i2 aA lG Zo Zo GG dM).mono (λad V av a=>by obtain⟨E,cy,a,_⟩:=a;cases a) (λad V av a=>a.of ev (λ_ a=>by cases a;rfl))
 refine(i2 aA lG Zo Zo GG dM).mono ?_ (λad V av a=>by obtain⟨I,a,_⟩:=a;cases a)
 rintro IS cC ew ⟨atP,n8,xo,_,hn,eV⟩
 cases xo
 have oX:=eV.le
 simp only[ok,Ze]at S
 subst S
 refine bK _ _ _ ⟨v5,bv,_,n8,rfl,cP.ex dX (λj M R=>by rw[eV.af j Zo (by simp;omega),eU.af j Zo]) Zo Zo,hn,ev.trans eV⟩
end
end
end Go.Proofs.YtpfajohmofnkfaaGreatDoor

namespace Go.Proofs.YtpfajohmofnkfaaGreatDoor
open Go.al Go.bh
noncomputable section
section
variable{X:cD}{h V bb aV:U an}{k av aQ bp aF bE:Nat}{aR:List Tok}{i:Nat}
theorem aqD(aA:d7 X){n:Nat}(ah:∀m,m<n+1->qb X aF bE aR m){r:Except Int (bM×List Tok)}(ax:ib X h k aF bE aR i){x:Tok}{l:List Tok}(aI:aR.drop i=x::l)(aP:x.kind=2)(aT:x.text=[109,101,114,103,101])(S:Go.bh.part (n+1) (x::l)=some r):
 a6 X 261 [.ptr aF 0] h k (jo X aF bE aR h k r) (it X aF h k r):=by
 refine dj (yn X) (aA.none _ _ rfl) ?_
 rw[yo]
 unfold wJ
 have gr:=ax.bj
 have jN:=ax.g0
 have hL:=ax.fK
 have jd:=ax.gF
 obtain⟨ag,jA⟩:=fm aI
 unfold Go.bh.part at S
 refine(qI aA ax.bj ax.par ax.g0 ax.gF ag).Zm ?_
 rintro ad bb aQ ⟨rfl,b8⟩
 have jB:=b8.le
 have d3:=ax.par.ex b8 Zo Zo
 obtain⟨c,ap,be,b2,a3,a4⟩:=d3.at_
 have bN:=jD be a3
 have ll:=(Zc.1 ag).1
 have ua:=ax.many
 have dv:=d3.ne
 have bF:aL .add (.int .i64 (i:Int)) (.int .i64 1)=some (.int .i64 ((i+1:Nat):Int)):=by rw[eQ Zo Zo];rfl
 refine gS bZ.eq_1 @bN (Za @bF @be) ⟨?_⟩
 generalize dI:bm X _ aF _=aV
 have ek:ab X aV aQ=some (.cells (U.ofList (bZ x) 0 .nil) 7 .own):=by rw[<-dI];simp(disch:=omega) only[aK,bq]<;>rfl
 have ie:ab X aV (aQ+1)=some (.cells (U.ofList (gJ 0 x.at_ [] false dA 0 .aU) 0 .nil) 9 .own):=by rw[<-dI];simp(disch:=omega) only[aK,bq]<;>rfl
 have dh:bh X aV aF bE aR (i+1):=by
  refine d3.on (c:=d0 c 1 [.int .i64 ((i+1:Nat):Int)]) ?_ (λd1 st a=>by rw[be]at a;cases a;exact r7 ..) ?_
  ·rw[<-dI];simp(disch:=omega) only[aK,bq];rfl
  ·rw[<-dI];simp(disch:=omega) only[aK]
 have dl:cu X [aF] h k aV (aQ+2):=by
  refine⟨Zo,λb ai bO=> ?_⟩
  rw[<-b8.af b ai, <-dI]
  simp only[Zl,ZJ,Y0,Yt,ZG,Z8]at bO
  simp(disch:=omega) only[aK]
 clear dI bN be b2 a3 a4 d3 b8
 have sy:∃d2,ab X aV aF=some (.cells d2 2 .own)/\ao X aV (.ptr aF 1)=some (.int .i64 ((i+1:Nat):Int)):=by
  obtain⟨c,ap,dr,eu,eI,jZ⟩:=dh.at_
  exact⟨c,dr,jD dr eI⟩
 have fq:=ax.go dh (by omega:k<=aQ+1+1)
 refine j6 (λJ V aY=>∃v,J.g 4=some v/\jo X aF bE aR h k r v V aY) (λaa bK=> ?_) (by
  rintro J V aY ⟨v,t4,a⟩
  refine cx @t4 ⟨?_⟩
  exact a)
 rw[Zg (by rw[aP];decide),Zg (by simp[aP,aT]),Zg (by rw[aP];decide),Zg (by rw[aP];decide),Zg (by simp[aP]),Zg (by simp[aP,aT]),Zr (by simp[aP,aT])]at S
 have fM:decide (x.kind=5)=false:=by simp[aP]
 have cG:decide (x.kind=2)=true:=by simp[aP]
 have cQ:decide (x.kind=1)=false:=by simp[aP]
 have eL:decide (x.kind=3)=false:=by simp[aP]
 have hF:decide (x.kind=6)=false:=by simp[aP]
 have cb:decide (x.text=[116,114,117,101])=false:=by simp[aT]
 have b1:decide (x.text=[102,97,108,115,101])=false:=by simp[aT]
 have dT:decide (x.text=[105,102])=false:=by simp[aT]
 have fc:decide (x.text=[109,101,114,103,101])=true:=by simp[aT]
 refine e0 (bW ek) @ie @fM @cG @cQ @eL (Za @hF (Za @cb (Za @b1 (Za @dT (Za @fc bZ.eq_1))))) ⟨?_⟩
 rw[<-jA]at S
 cases BQ:aR.drop (i+1)with
 |nil=>rw[BQ]at S;simp[io,andThen]at S
 |cons c gE=>
 rw[BQ]at S
 simp only[io]at S
 refine(AD aA fq.bj fq.par fq.fK fq.g0 fq.gF fq.many (fm BQ).1 1).mono ?_ ?_
 ·rintro Fy bX dd ⟨f6,rfl,gT,eD⟩
  have jC:=eD.le
  rw[Zr f6]at S
  simp only[andThen,ok]at S
  rw[<-(fm BQ).2]at S
  have GD:ab X bX (aQ+1)=some (.cells (U.ofList (gJ 0 x.at_ [] false dA 0 .aU) 0 .nil) 9 .own):=by rw[eD.af _ Zo (by simp;omega)];exact ie
  have xe:=dl.trans eD
  refine dc bZ.eq_1 @GD ⟨?_⟩
  refine eZ (λbo=>ab X bo (aQ+1)=some (.cells (U.ofList (gJ 24 x.at_ c.text false dA 0 .aU) 0 .nil) 9 .own)/\bh X bo aF bE aR (i+1+1)/\cu X [aF] h k bo dd) ⟨?_, ?_, ?_⟩ ?_
  ·simp(disch:=omega) only[aK,bq]<;>rfl
  ·exact gT.af (by simp(disch:=omega) only[aK]) (by simp(disch:=omega) only[aK])
  ·exact⟨Zo,λb ai bO=>by rw[<-xe.af b ai bO];simp(disch:=omega) only[aK]⟩
  clear GD gT eD xe ie sy dh fq dl ek
  rintro bo ⟨ie,gg,en⟩
  have mC:=ax.go gg (by omega:k<=dd)
  cases y8:Go.bh.part n (aR.drop (i+1+1))with
  |none=>rw[y8]at S;cases S
  |some abJ=>
  rw[y8]at S
  refine((ah n Zo).part bo _ _ _ mC y8).mono ?_ ?_
  ·rintro v5 b4 cA ⟨oP,i5,rfl,dX,gU,dO⟩
   simp only[]at S
   have iW:=dO.le
   have nG:=mC.go gU iW
   have pz:=en.trans dO
   cases K6:Go.bh.part n (aR.drop i5)with
   |none=>rw[K6]at S;cases S
   |some wo=>
   rw[K6]at S
   refine((ah n Zo).part b4 _ _ _ nG K6).mono ?_ ?_
   ·rintro td ck eo ⟨sr,hP,rfl,eU,g9,ev⟩
    simp only[Ze]at S
    subst S
    have rB:=ev.le
    obtain⟨lH,rfl,qx,_⟩:=dX.ptr
    obtain⟨AO,rfl,Hx,_⟩:=eU.ptr
    have ri:ab X ck (aQ+1)=some (.cells (U.ofList (gJ 24 x.at_ c.text false dA 0 .aU) 0 .nil) 9 .own):=by rw[ev.af _ Zo (by simp;omega),dO.af _ Zo (by simp;omega)];exact ie
    refine cx @ri ⟨?_⟩
    refine bK _ _ _ ⟨.ptr (aQ+1) 0,bv,_,hP,rfl,cP.lit (B:=2) (cap:=2) (b:=aQ+1) (m:=9) (st:= .own) (iz:= .own) (cN:=eo) (br:=[.ptr lH 0, .ptr AO 0]) ?_ ⟨Zo,Zo⟩ ?_ ⟨Zo,Zo⟩ rfl Zo Zo (dq.two (cP.af (λj T=> ?_) _ _ dX) (cP.af (λj T=> ?_) _ _ eU) (λj T=> ?_) (λj T=> ?_)),g9.af (by simp(disch:=omega) only[aK]) (by simp(disch:=omega) only[aK]), ?_⟩
    ·simp(disch:=omega) only[aK,bq]<;>rfl
    ·simp(disch:=omega) only[aK,bq]<;>rfl
    ·have M:=T.1;have R:=T.2
     simp(disch:=omega) only[aK]
     exact ev.af j Zo (by simp;omega)
    ·have M:=T.1;have R:=T.2
     simp(disch:=omega) only[aK]
    ·simp only[ef]at T ⊢;omega
    ·simp only[ef]at T ⊢;omega
    ·exact⟨Zo,λb ai bO=>by rw[<-(pz.trans ev).af b ai bO];simp(disch:=omega) only[aK]⟩
   ·rintro td ck eo ⟨I,rfl,rfl,ev⟩
    simp only[Ze]at S
    subst S
    exact⟨I,rfl,rfl,pz.trans ev⟩
  ·rintro v5 b4 cA ⟨I,rfl,rfl,dO⟩
   simp only[Ze]at S
   subst S
   exact⟨I,rfl,rfl,en.trans dO⟩
 ·rintro Fy bX dd ⟨f6,rfl,eD⟩
  rw[Zg f6]at S
  simp only[andThen,bad,Ze]at S
  subst S
  exact⟨_,rfl,rfl,dl.trans eD⟩
end
end
end Go.Proofs.YtpfajohmofnkfaaGreatDoor

namespace Go.Proofs.YtpfajohmofnkfaaGreatDoor
open Go.al Go.bh
noncomputable section
section
variable{X:cD}{h V bb aV:U an}{k av aQ bp aF bE:Nat}{aR:List Tok}{i:Nat}
theorem Q8(aA:d7 X){n:Nat}{r:Except Int (bM×List Tok)}(ax:ib X h k aF bE aR i){x:Tok}{l:List Tok}(aI:aR.drop i=x::l)(eR:x.kind≠5)(bN:x.kind≠1)(cH:x.kind≠3)(ed:x.kind=6->x.text≠[40])(cg:x.kind=2->x.text≠[116,114,117,101]/\x.text≠[102,97,108,115,101]/\x.text≠[105,102]/\x.text≠[109,101,114,103,101])(S:Go.bh.part (n+1) (x::l)=some r):
 a6 X 261 [.ptr aF 0] h k (jo X aF bE aR h k r) (it X aF h k r):=by
 refine dj (yn X) (aA.none _ _ rfl) ?_
 rw[yo]
 unfold wJ
 have gr:=ax.bj
 have jN:=ax.g0
 have hL:=ax.fK
 have jd:=ax.gF
 obtain⟨ag,jA⟩:=fm aI
 unfold Go.bh.part at S
 refine(qI aA ax.bj ax.par ax.g0 ax.gF ag).Zm ?_
 rintro ad bb aQ ⟨rfl,b8⟩
 have jB:=b8.le
 have d3:=ax.par.ex b8 Zo Zo
 obtain⟨c,ap,be,b2,a3,a4⟩:=d3.at_
 have bN:=jD be a3
 have ll:=(Zc.1 ag).1
 have ua:=ax.many
 have dv:=d3.ne
 have bF:aL .add (.int .i64 (i:Int)) (.int .i64 1)=some (.int .i64 ((i+1:Nat):Int)):=by rw[eQ Zo Zo];rfl
 refine gS bZ.eq_1 @bN (Za @bF @be) ⟨?_⟩
 generalize dI:bm X _ aF _=aV
 have ek:ab X aV aQ=some (.cells (U.ofList (bZ x) 0 .nil) 7 .own):=by rw[<-dI];simp(disch:=omega) only[aK,bq]<;>rfl
 have ie:ab X aV (aQ+1)=some (.cells (U.ofList (gJ 0 x.at_ [] false dA 0 .aU) 0 .nil) 9 .own):=by rw[<-dI];simp(disch:=omega) only[aK,bq]<;>rfl
 have dh:bh X aV aF bE aR (i+1):=by
  refine d3.on (c:=d0 c 1 [.int .i64 ((i+1:Nat):Int)]) ?_ (λd1 st a=>by rw[be]at a;cases a;exact r7 ..) ?_
  ·rw[<-dI];simp(disch:=omega) only[aK,bq];rfl
  ·rw[<-dI];simp(disch:=omega) only[aK]
 have dl:cu X [aF] h k aV (aQ+2):=by
  refine⟨Zo,λb ai bO=> ?_⟩
  rw[<-b8.af b ai, <-dI]
  simp only[Zl,ZJ,Y0,Yt,ZG,Z8]at bO
  simp(disch:=omega) only[aK]
 clear dI bN be b2 a3 a4 d3 b8
 have sy:∃d2,ab X aV aF=some (.cells d2 2 .own)/\ao X aV (.ptr aF 1)=some (.int .i64 ((i+1:Nat):Int)):=by
  obtain⟨c,ap,dr,eu,eI,jZ⟩:=dh.at_
  exact⟨c,dr,jD dr eI⟩
 have fq:=ax.go dh (by omega:k<=aQ+1+1)
 refine j6 (λJ V aY=>∃v,J.g 4=some v/\jo X aF bE aR h k r v V aY) (λaa bK=> ?_) (by
  rintro J V aY ⟨v,t4,a⟩
  refine cx @t4 ⟨?_⟩
  exact a)
 have amT:r= .error x.at_:=by
  by_cases R:x.kind=2
  ·obtain⟨fe,hg,wl,Ir⟩:=cg R
   have cr:¬x.kind=6:=Zo
   rw[Zg eR,Zg (by simp[fe,hg]),Zg bN,Zg cH,Zg (by simp[cr]),Zg (by simp[wl]),Zg (by simp[Ir])]at S
   simp only[bad,Ze]at S
   exact S.symm
  ·by_cases cr:x.kind=6
   ·rw[Zg eR,Zg (by simp[R]),Zg bN,Zg cH,Zg (by simp[ed cr]),Zg (by simp[R]),Zg (by simp[R])]at S
    simp only[bad,Ze]at S
    exact S.symm
   ·rw[Zg eR,Zg (by simp[R]),Zg bN,Zg cH,Zg (by simp[cr]),Zg (by simp[R]),Zg (by simp[R])]at S
    simp only[bad,Ze]at S
    exact S.symm
 subst amT
 have fM:decide (x.kind=5)=false:=by simp[eR]
 have cQ:decide (x.kind=1)=false:=by simp[bN]
 have eL:decide (x.kind=3)=false:=by simp[cH]
 obtain⟨d2,Oy,Oz⟩:=sy
 have cB:aL .sub (.int .i64 ((i+1:Nat):Int)) (.int .i64 1)=some (.int .i64 (((i+1:Nat):Int) -1)):=by rw[Ai Zo Zo]
 have fin:∀(bo:U an) (aj:bY),(∀b,b<k->b∉[aF]->ab X bo b=ab X aV b)->a6 X 206 [.agg (bZ x)] bo (aQ+1+1) aj (it X aF h k (Except.error x.at_:Except Int (bM×List Tok))):=by
  intro bo aj au
  refine(Gw aA Zo x _ ?_).mono (λ_ _ _ a=>a.elim) (λ_ _ _ a=>a)
  intro V av b7
  have Hj:=b7.le
  exact⟨_,rfl,rfl,Zo,λb ai bO=>by rw[b7.af b Zo,au b ai bO];exact dl.af b ai bO⟩
 by_cases R:x.kind=2
 ·obtain⟨fe,hg,wl,Ir⟩:=cg R
  have cG:decide (x.kind=2)=true:=by simp[R]
  have hF:decide (x.kind=6)=false:=by simp[R]
  have cb:decide (x.text=[116,114,117,101])=false:=by simp[fe]
  have b1:decide (x.text=[102,97,108,115,101])=false:=by simp[hg]
  have dT:decide (x.text=[105,102])=false:=by simp[wl]
  have fc:decide (x.text=[109,101,114,103,101])=false:=by simp[Ir]
  refine e0 (bW ek) @ie @fM @cG @cQ @eL (Za @hF (Za @cb (Za @b1 (Za @dT (Za @fc (Za bZ.eq_1 (Za @Oy (Za @Oz @cB)))))))) ⟨?_⟩
  refine fin _ _ (λb ai bO=> ?_)
  simp only[Zl,ZJ,Y0,Yt,ZG,Z8]at bO
  simp(disch:=omega) only[aK]
 ·have cG:decide (x.kind=2)=false:=by simp[R]
  by_cases cr:x.kind=6
  ·have hF:decide (x.kind=6)=true:=by simp[cr]
   have cb:decide (x.text=[40])=false:=by simp[ed cr]
   refine e0 (bW ek) @ie @fM @cG @cQ @eL (Za @hF (Za @cb (Za bZ.eq_1 (Za @Oy (Za @Oz @cB))))) ⟨?_⟩
   refine fin _ _ (λb ai bO=> ?_)
   simp only[Zl,ZJ,Y0,Yt,ZG,Z8]at bO
   simp(disch:=omega) only[aK]
  ·have hF:decide (x.kind=6)=false:=by simp[cr]
   refine e0 (bW ek) @ie @fM @cG @cQ @eL (Za @hF (Za bZ.eq_1 (Za @Oy (Za @Oz @cB)))) ⟨?_⟩
   refine fin _ _ (λb ai bO=> ?_)
   simp only[Zl,ZJ,Y0,Yt,ZG,Z8]at bO
   simp(disch:=omega) only[aK]
end
end
end Go.Proofs.YtpfajohmofnkfaaGreatDoor

namespace Go.Proofs.YtpfajohmofnkfaaGreatDoor
open Go.al Go.bh
noncomputable section
section
variable{X:cD}{h V bb aV:U an}{k av aQ bp aF bE:Nat}{aR:List Tok}{i:Nat}
theorem cu.s0{X:cD}{aF:Nat}{h V:U an}{k av n:Nat}(a:cu X [aF] h k V av)(B:av<=n):cu X [aF] h k V n:=⟨Zz a.le B,a.af⟩
theorem kb.one{C:aX}{h:U an}{s:H}{bd:Nat}{l:List H}{db:List Nat}(a:kb C h s bd l db):s.cells=[s]/\o8 s=true/\H.same 30 s s=true:=by
 rcases a with ⟨rfl,_⟩|⟨b,fb,n,c,rfl,_⟩
 ·exact⟨rfl,rfl,rfl⟩
 ·exact⟨rfl,rfl,by simp[H.same]⟩
theorem aqB(aA:d7 X){n:Nat}(ah:∀m,m<n+1->qb X aF bE aR m){r:Except Int (bM×List Tok)}(ax:ib X h k aF bE aR i){x:Tok}{l:List Tok}(aI:aR.drop i=x::l)(aP:x.kind=2)(aT:x.text=[105,102])(S:Go.bh.part (n+1) (x::l)=some r):
 a6 X 261 [.ptr aF 0] h k (jo X aF bE aR h k r) (it X aF h k r):=by
 refine dj (yn X) (aA.none _ _ rfl) ?_
 rw[yo]
 unfold wJ
 have gr:=ax.bj
 have jN:=ax.g0
 have hL:=ax.fK
 have jd:=ax.gF
 obtain⟨ag,jA⟩:=fm aI
 unfold Go.bh.part at S
 refine(qI aA ax.bj ax.par ax.g0 ax.gF ag).Zm ?_
 rintro ad bb aQ ⟨rfl,b8⟩
 have jB:=b8.le
 have d3:=ax.par.ex b8 Zo Zo
 obtain⟨c,ap,be,b2,a3,a4⟩:=d3.at_
 have bN:=jD be a3
 have ll:=(Zc.1 ag).1
 have ua:=ax.many
 have dv:=d3.ne
 have bF:aL .add (.int .i64 (i:Int)) (.int .i64 1)=some (.int .i64 ((i+1:Nat):Int)):=by rw[eQ Zo Zo];rfl
 refine gS bZ.eq_1 @bN (Za @bF @be) ⟨?_⟩
 generalize dI:bm X _ aF _=aV
 have ek:ab X aV aQ=some (.cells (U.ofList (bZ x) 0 .nil) 7 .own):=by rw[<-dI];simp(disch:=omega) only[aK,bq]<;>rfl
 have ie:ab X aV (aQ+1)=some (.cells (U.ofList (gJ 0 x.at_ [] false dA 0 .aU) 0 .nil) 9 .own):=by rw[<-dI];simp(disch:=omega) only[aK,bq]<;>rfl
 have dh:bh X aV aF bE aR (i+1):=by
  refine d3.on (c:=d0 c 1 [.int .i64 ((i+1:Nat):Int)]) ?_ (λd1 st a=>by rw[be]at a;cases a;exact r7 ..) ?_
  ·rw[<-dI];simp(disch:=omega) only[aK,bq];rfl
  ·rw[<-dI];simp(disch:=omega) only[aK]
 have dl:cu X [aF] h k aV (aQ+2):=by
  refine⟨Zo,λb ai bO=> ?_⟩
  rw[<-b8.af b ai, <-dI]
  simp only[Zl,ZJ,Y0,Yt,ZG,Z8]at bO
  simp(disch:=omega) only[aK]
 clear dI bN be b2 a3 a4 d3 b8
 have sy:∃d2,ab X aV aF=some (.cells d2 2 .own)/\ao X aV (.ptr aF 1)=some (.int .i64 ((i+1:Nat):Int)):=by
  obtain⟨c,ap,dr,eu,eI,jZ⟩:=dh.at_
  exact⟨c,dr,jD dr eI⟩
 have fq:=ax.go dh (by omega:k<=aQ+1+1)
 refine j6 (λJ V aY=>∃v,J.g 4=some v/\jo X aF bE aR h k r v V aY) (λaa bK=> ?_) (by
  rintro J V aY ⟨v,t4,a⟩
  refine cx @t4 ⟨?_⟩
  exact a)
 rw[Zg (by rw[aP];decide),Zg (by simp[aP,aT]),Zg (by rw[aP];decide),Zg (by rw[aP];decide),Zg (by simp[aP]),Zr (by simp[aP,aT])]at S
 have fM:decide (x.kind=5)=false:=by simp[aP]
 have cG:decide (x.kind=2)=true:=by simp[aP]
 have cQ:decide (x.kind=1)=false:=by simp[aP]
 have eL:decide (x.kind=3)=false:=by simp[aP]
 have hF:decide (x.kind=6)=false:=by simp[aP]
 have cb:decide (x.text=[116,114,117,101])=false:=by simp[aT]
 have b1:decide (x.text=[102,97,108,115,101])=false:=by simp[aT]
 have dT:decide (x.text=[105,102])=true:=by simp[aT]
 refine e0 (bW ek) @ie @fM @cG @cQ @eL (Za @hF (Za @cb (Za @b1 (Za @dT (Za bZ.eq_1 gJ.eq_1))))) ⟨?_⟩
 rw[<-jA]at S
 refine eZ (λbo=>ab X bo (aQ+1)=some (.cells (U.ofList (gJ 23 x.at_ [] false dA 0 .aU) 0 .nil) 9 .own)/\bh X bo aF bE aR (i+1)/\cu X [aF] h k bo (aQ+1+1)) ⟨?_, ?_, ?_⟩ ?_
 ·simp(disch:=omega) only[aK,bq]<;>rfl
 ·exact dh.af (by simp(disch:=omega) only[aK]) (by simp(disch:=omega) only[aK])
 ·exact⟨Zo,λb ai bO=>by rw[<-dl.af b ai bO];simp(disch:=omega) only[aK]⟩
 clear dh fq dl ek ie sy
 rintro FR ⟨VX,XL,OR⟩
 have X1:hE X FR .aU 1 [] []:= .inl (.inl ⟨rfl,rfl,rfl⟩)
 have tS:∀j∈([]:List Nat),aQ+2<=j/\j<aQ+1+1:=by simp
 have WY:dq X FR (uL (aQ+2) (aQ+1+1) []) [] []:= .nil
 have am6:H.same 30 .aU .aU=true:=rfl
 have abw:=ax.go XL (by omega:k<=(aQ+1+1)+12)
 rcases f4 S with ⟨I,bA,rfl⟩|⟨Gr,gs,bA,S⟩
 ·exact((ah n Zo).arrow FR _ _ _ abw bA).mono (λad V av a=>by obtain⟨E,cy,a,_⟩:=a;cases a) (λad V av a=>a.of (cu.s0 OR Zo) (λ_ a=>by cases a;rfl))
 refine((ah n Zo).arrow FR _ _ _ abw bA).mono ?_ (λad V av a=>by obtain⟨I,a,_⟩:=a;cases a)
 clear bA
 rintro v5 b4 cA ⟨JS,avA,rr,dX,gU,dO⟩
 cases rr
 have iW:=dO.le
 have pz:=(cu.s0 OR (by omega:(aQ+1+1)<=(aQ+1+1)+12)).trans dO
 obtain⟨uJ,rfl,qx,_⟩:=dX.ptr
 have qx:=qx.2
 have qo:ab X b4 (aQ+1)=some (.cells (U.ofList (gJ 23 x.at_ [] false dA 0 H.aU) 0 .nil) 9 .own):=by rw[dO.af _ Zo (by simp;omega)];exact VX
 have oa:∀j,aQ+2<=j->j<(aQ+1+1)->ab X b4 j=ab X FR j:=λj M R=>dO.af j Zo (by simp;omega)
 have n6:=X1.af (V:=b4) (λj T=>oa j (tS j T).1 (tS j T).2)
 have tW:=dq.af (V:=b4) (λj T=>oa j T.1 T.2.1) _ _ WY
 clear oa
 refine dc (bW qo) gJ.eq_1 ⟨?_⟩
 refine jH am6 ?_
 have iX:jR X (bm X b4 ((aQ+1+1)+7) (some (.cells (U.ofList [.ptr uJ 0] 0 .nil) 1 .own))) 1 (.slice ((aQ+1+1)+7) 0 1 1)=some (1,[.ptr uJ 0]):=s9 (bq Zo) (o1 _) rfl _
 obtain⟨IE,ck,Dq,j3,rG,qq,nq⟩:=(n6.af (V:=bm X b4 ((aQ+1+1)+7) (some (.cells (U.ofList [.ptr uJ 0] 0 .nil) 1 .own))) (λj T=>aK Zo (by have:=(tS j T).2;omega))).append (k:=cA) Zd iX rfl Zd rfl Zs Zo (λj T=>by have:=(tS j T).2;omega)
 refine kI j3 ?_
 have ed:∀j,j<cA->j∉([]:List Nat)->j≠(aQ+1+1)+7->ab X ck j=ab X b4 j:=λj M R au=>by
  rw[nq j Zo R,aK Zo au]
 have ri:ab X ck (aQ+1)=some (.cells (U.ofList (gJ 23 x.at_ [] false dA 0 H.aU) 0 .nil) 9 .own):=by
  rw[ed _ Zo (λa=>by have:=tS _ a;omega) Zo];exact qo
 obtain⟨mv,y5,am7⟩:=kb.one rG
 refine c0 ⟨?_⟩
 refine fH (qO ri Zo Zo mv y5) ?_
 have pB:∀j∈Dq,aQ+2<=j/\j<cA+1:=by
  intro j T
  rcases qq j T with rfl|T
  ·omega
  ·have:=tS j T;omega
 have BW:dq X ck (uL (aQ+2) (cA+1) Dq) ([]++[Gr]) ([]++[.ptr uJ 0]):=by
  refine dq.snoc (cP.af (λj T=> ?_) _ _ dX) (dq.af (λj T=> ?_) _ _ tW) (λj T=>⟨T.1,by have:=T.2.1;omega,λf7=> ?_⟩) (λj T=>⟨⟨by have:=T.1;omega,by have:=T.2;omega,λf7=> ?_⟩,λn7=>by have:=T.1;have:=n7.2.1;omega⟩)
  ·have M:=T.1
   exact ed j T.2 (λf7=>by have:=tS j f7;omega) Zo
  ·have R:=T.2.1
   exact ed j Zo T.2.2 Zo
  ·have R:=T.2.1
   rcases qq j f7 with rfl|f7
   ·omega
   ·exact T.2.2 f7
  ·have M:=T.1;have R:=T.2
   rcases qq j f7 with rfl|f7
   ·omega
   ·have:=tS j f7;omega
 have ev:cu X [aF] h k ck (cA+1):=⟨Zo,λb ai bO=>by
  rw[ed b Zo (λE=>by have:=tS _ E;omega) Zo];exact pz.af b ai bO⟩
 have g9:=gU.af (ed aF Zo (λE=>by have:=tS _ E;omega) Zo) (ed bE Zo (λE=>by have:=tS _ E;omega) Zo)
 clear tW dX gU dO pz qo n6 iX j3 nq qq mv y5 WY VX X1 XL OR
 refine c0 ⟨?_⟩
 refine eZ (λcC=>ab X cC (cA+1)=some (.cells (U.ofList [.str [116,104,101,110]] 0 .nil) 1 .own)/\ab X cC (aQ+1)=some (.cells (U.ofList (gJ 23 x.at_ [] false dA 0 IE) 0 .nil) 9 .own)/\(∀j,j<cA+1->j≠aQ+1->ab X cC j=ab X ck j)) ⟨bq Zo, ?_, ?_⟩ ?_
 ·simp(disch:=omega) only[aK,bq]<;>rfl
 ·intro j M R
  simp(disch:=omega) only[aK]
 clear ri
 rintro cC ⟨BA,GF,gl⟩
 have hn:=g9.af (gl aF Zo Zo) (gl bE Zo Zo)
 have mD:=ax.go hn (by omega:k<=cA+1+1)
 have eV:cu X [aF] h k cC (cA+1+1):=⟨Zo,λb ai bO=>by rw[gl b Zo Zo];exact ev.af b ai bO⟩
 rcases f4 S with ⟨I,fC,rfl⟩|⟨yc,nA,fC,S⟩
 ·exact(i2 aA mD Zo Zo BA fC).mono (λad V av a=>by obtain⟨E,cy,a,_⟩:=a;cases a) (λad V av a=>a.of eV (λ_ a=>by cases a;rfl))
 refine(i2 aA mD Zo Zo BA fC).mono ?_ (λad V av a=>by obtain⟨I,a,_⟩:=a;cases a)
 clear fC
 rintro FA tm we ⟨atQ,avy,BT,_,XM,gy⟩
 cases BT
 have auP:=gy.le
 have OS:=eV.trans gy
 have Oq:ab X tm (aQ+1)=some (.cells (U.ofList (gJ 23 x.at_ [] false dA 0 IE) 0 .nil) 9 .own):=by rw[gy.af _ Zo (by simp;omega)];exact GF
 have dx:∀j,aQ+2<=j->j<cA+1->ab X tm j=ab X ck j:=λj M R=>by
  rw[gy.af j Zo (by simp;omega),gl j R Zo]
 have X2:hE X tm IE 1 ([]++[.ptr uJ 0]) Dq:= .inl (rG.af (λj T=>dx j (pB j T).1 (pB j T).2))
 have WZ:dq X tm (uL (aQ+2) we Dq) ([]++[Gr]) ([]++[.ptr uJ 0]):=
  dq.lift (λj T=>⟨T.1,by have:=T.2.1;omega,T.2.2⟩) _ _ (dq.af (λj T=>dx j T.1 T.2.1) _ _ BW)
 have pB:∀j∈Dq,aQ+2<=j/\j<we:=λj T=>by have:=pB j T;omega
 clear BW rG g9 ev hn mD eV gy BA GF gl ed dx
 refine dc (bW Oq) gJ.eq_1 ⟨?_⟩
 have abx:=ax.go XM (by omega:k<=we+12)
 rcases f4 S with ⟨I,bA,rfl⟩|⟨N0,gs,bA,S⟩
 ·exact((ah n Zo).arrow tm _ _ _ abx bA).mono (λad V av a=>by obtain⟨E,cy,a,_⟩:=a;cases a) (λad V av a=>a.of (cu.s0 OS Zo) (λ_ a=>by cases a;rfl))
 refine((ah n Zo).arrow tm _ _ _ abx bA).mono ?_ (λad V av a=>by obtain⟨I,a,_⟩:=a;cases a)
 clear bA
 rintro v5 b4 cA ⟨JS,avB,rr,dX,gU,dO⟩
 cases rr
 have iW:=dO.le
 have pz:=(cu.s0 OS (by omega:we<=we+12)).trans dO
 obtain⟨AP,rfl,qx,_⟩:=dX.ptr
 have qx:=qx.2
 have qo:ab X b4 (aQ+1)=some (.cells (U.ofList (gJ 23 x.at_ [] false dA 0 IE) 0 .nil) 9 .own):=by rw[dO.af _ Zo (by simp;omega)];exact Oq
 have oa:∀j,aQ+2<=j->j<we->ab X b4 j=ab X tm j:=λj M R=>dO.af j Zo (by simp;omega)
 have n6:=X2.af (V:=b4) (λj T=>oa j (pB j T).1 (pB j T).2)
 have tW:=dq.af (V:=b4) (λj T=>oa j T.1 T.2.1) _ _ WZ
 clear oa
 refine dc (bW qo) gJ.eq_1 ⟨?_⟩
 refine jH am7 ?_
 have iX:jR X (bm X b4 (we+7) (some (.cells (U.ofList [.ptr AP 0] 0 .nil) 1 .own))) 1 (.slice (we+7) 0 1 1)=some (1,[.ptr AP 0]):=s9 (bq Zo) (o1 _) rfl _
 obtain⟨CS,ck,Dr,j3,rG,qq,nq⟩:=(n6.af (V:=bm X b4 (we+7) (some (.cells (U.ofList [.ptr AP 0] 0 .nil) 1 .own))) (λj T=>aK Zo (by have:=(pB j T).2;omega))).append (k:=cA) Zd iX rfl Zd rfl Zs Zo (λj T=>by have:=(pB j T).2;omega)
 refine kI j3 ?_
 have ed:∀j,j<cA->j∉Dq->j≠we+7->ab X ck j=ab X b4 j:=λj M R au=>by
  rw[nq j Zo R,aK Zo au]
 have ri:ab X ck (aQ+1)=some (.cells (U.ofList (gJ 23 x.at_ [] false dA 0 IE) 0 .nil) 9 .own):=by
  rw[ed _ Zo (λa=>by have:=pB _ a;omega) Zo];exact qo
 obtain⟨mv,y5,am8⟩:=kb.one rG
 refine c0 ⟨?_⟩
 refine fH (qO ri Zo Zo mv y5) ?_
 have pC:∀j∈Dr,aQ+2<=j/\j<cA+1:=by
  intro j T
  rcases qq j T with rfl|T
  ·omega
  ·have:=pB j T;omega
 have BW:dq X ck (uL (aQ+2) (cA+1) Dr) (([]++[Gr])++[N0]) (([]++[.ptr uJ 0])++[.ptr AP 0]):=by
  refine dq.snoc (cP.af (λj T=> ?_) _ _ dX) (dq.af (λj T=> ?_) _ _ tW) (λj T=>⟨T.1,by have:=T.2.1;omega,λf7=> ?_⟩) (λj T=>⟨⟨by have:=T.1;omega,by have:=T.2;omega,λf7=> ?_⟩,λn7=>by have:=T.1;have:=n7.2.1;omega⟩)
  ·have M:=T.1
   exact ed j T.2 (λf7=>by have:=pB j f7;omega) Zo
  ·have R:=T.2.1
   exact ed j Zo T.2.2 Zo
  ·have R:=T.2.1
   rcases qq j f7 with rfl|f7
   ·omega
   ·exact T.2.2 f7
  ·have M:=T.1;have R:=T.2
   rcases qq j f7 with rfl|f7
   ·omega
   ·have:=pB j f7;omega
 have ev:cu X [aF] h k ck (cA+1):=⟨Zo,λb ai bO=>by
  rw[ed b Zo (λE=>by have:=pB _ E;omega) Zo];exact pz.af b ai bO⟩
 have g9:=gU.af (ed aF Zo (λE=>by have:=pB _ E;omega) Zo) (ed bE Zo (λE=>by have:=pB _ E;omega) Zo)
 clear tW dX gU dO pz qo n6 iX j3 nq qq mv y5 WZ Oq X2 XM OS
 refine c0 ⟨?_⟩
 refine eZ (λcC=>ab X cC (cA+1)=some (.cells (U.ofList [.str [101,108,115,101]] 0 .nil) 1 .own)/\ab X cC (aQ+1)=some (.cells (U.ofList (gJ 23 x.at_ [] false dA 0 CS) 0 .nil) 9 .own)/\(∀j,j<cA+1->j≠aQ+1->ab X cC j=ab X ck j)) ⟨bq Zo, ?_, ?_⟩ ?_
 ·simp(disch:=omega) only[aK,bq]<;>rfl
 ·intro j M R
  simp(disch:=omega) only[aK]
 clear ri
 rintro cC ⟨BA,GF,gl⟩
 have hn:=g9.af (gl aF Zo Zo) (gl bE Zo Zo)
 have mD:=ax.go hn (by omega:k<=cA+1+1)
 have eV:cu X [aF] h k cC (cA+1+1):=⟨Zo,λb ai bO=>by rw[gl b Zo Zo];exact ev.af b ai bO⟩
 rcases f4 S with ⟨I,fC,rfl⟩|⟨yc,nA,fC,S⟩
 ·exact(i2 aA mD Zo Zo BA fC).mono (λad V av a=>by obtain⟨E,cy,a,_⟩:=a;cases a) (λad V av a=>a.of eV (λ_ a=>by cases a;rfl))
 refine(i2 aA mD Zo Zo BA fC).mono ?_ (λad V av a=>by obtain⟨I,a,_⟩:=a;cases a)
 clear fC
 rintro FA Ba wg ⟨atQ,avz,BT,_,XN,gy⟩
 cases BT
 have auQ:=gy.le
 have OT:=eV.trans gy
 have Ot:ab X Ba (aQ+1)=some (.cells (U.ofList (gJ 23 x.at_ [] false dA 0 CS) 0 .nil) 9 .own):=by rw[gy.af _ Zo (by simp;omega)];exact GF
 have dx:∀j,aQ+2<=j->j<cA+1->ab X Ba j=ab X ck j:=λj M R=>by
  rw[gy.af j Zo (by simp;omega),gl j R Zo]
 have X3:hE X Ba CS 1 (([]++[.ptr uJ 0])++[.ptr AP 0]) Dr:= .inl (rG.af (λj T=>dx j (pC j T).1 (pC j T).2))
 have W0:dq X Ba (uL (aQ+2) wg Dr) (([]++[Gr])++[N0]) (([]++[.ptr uJ 0])++[.ptr AP 0]):=
  dq.lift (λj T=>⟨T.1,by have:=T.2.1;omega,T.2.2⟩) _ _ (dq.af (λj T=>dx j T.1 T.2.1) _ _ BW)
 have pC:∀j∈Dr,aQ+2<=j/\j<wg:=λj T=>by have:=pC j T;omega
 clear BW rG g9 ev hn mD eV gy BA GF gl ed dx
 refine dc (bW Ot) gJ.eq_1 ⟨?_⟩
 have aby:=ax.go XN (by omega:k<=wg+12)
 rcases f4 S with ⟨I,bA,rfl⟩|⟨aik,gs,bA,S⟩
 ·exact((ah n Zo).arrow Ba _ _ _ aby bA).mono (λad V av a=>by obtain⟨E,cy,a,_⟩:=a;cases a) (λad V av a=>a.of (cu.s0 OT Zo) (λ_ a=>by cases a;rfl))
 refine((ah n Zo).arrow Ba _ _ _ aby bA).mono ?_ (λad V av a=>by obtain⟨I,a,_⟩:=a;cases a)
 clear bA
 rintro v5 b4 cA ⟨JS,anK,rr,dX,gU,dO⟩
 cases rr
 have iW:=dO.le
 have pz:=(cu.s0 OT (by omega:wg<=wg+12)).trans dO
 obtain⟨Ix,rfl,qx,_⟩:=dX.ptr
 have qx:=qx.2
 have qo:ab X b4 (aQ+1)=some (.cells (U.ofList (gJ 23 x.at_ [] false dA 0 CS) 0 .nil) 9 .own):=by rw[dO.af _ Zo (by simp;omega)];exact Ot
 have oa:∀j,aQ+2<=j->j<wg->ab X b4 j=ab X Ba j:=λj M R=>dO.af j Zo (by simp;omega)
 have n6:=X3.af (V:=b4) (λj T=>oa j (pC j T).1 (pC j T).2)
 have tW:=dq.af (V:=b4) (λj T=>oa j T.1 T.2.1) _ _ W0
 clear oa
 refine dc (bW qo) gJ.eq_1 ⟨?_⟩
 refine jH am8 ?_
 have iX:jR X (bm X b4 (wg+7) (some (.cells (U.ofList [.ptr Ix 0] 0 .nil) 1 .own))) 1 (.slice (wg+7) 0 1 1)=some (1,[.ptr Ix 0]):=s9 (bq Zo) (o1 _) rfl _
 obtain⟨Rs,ck,Nt,j3,rG,qq,nq⟩:=(n6.af (V:=bm X b4 (wg+7) (some (.cells (U.ofList [.ptr Ix 0] 0 .nil) 1 .own))) (λj T=>aK Zo (by have:=(pC j T).2;omega))).append (k:=cA) Zd iX rfl Zd rfl Zs Zo (λj T=>by have:=(pC j T).2;omega)
 refine kI j3 ?_
 have ed:∀j,j<cA->j∉Dr->j≠wg+7->ab X ck j=ab X b4 j:=λj M R au=>by
  rw[nq j Zo R,aK Zo au]
 have ri:ab X ck (aQ+1)=some (.cells (U.ofList (gJ 23 x.at_ [] false dA 0 CS) 0 .nil) 9 .own):=by
  rw[ed _ Zo (λa=>by have:=pC _ a;omega) Zo];exact qo
 obtain⟨mv,y5,avp⟩:=kb.one rG
 refine c0 ⟨?_⟩
 refine fH (qO ri Zo Zo mv y5) ?_
 have WJ:∀j∈Nt,aQ+2<=j/\j<cA+1:=by
  intro j T
  rcases qq j T with rfl|T
  ·omega
  ·have:=pC j T;omega
 have BW:dq X ck (uL (aQ+2) (cA+1) Nt) (([]++[Gr]++[N0])++[aik]) (([]++[.ptr uJ 0]++[.ptr AP 0])++[.ptr Ix 0]):=by
  refine dq.snoc (cP.af (λj T=> ?_) _ _ dX) (dq.af (λj T=> ?_) _ _ tW) (λj T=>⟨T.1,by have:=T.2.1;omega,λf7=> ?_⟩) (λj T=>⟨⟨by have:=T.1;omega,by have:=T.2;omega,λf7=> ?_⟩,λn7=>by have:=T.1;have:=n7.2.1;omega⟩)
  ·have M:=T.1
   exact ed j T.2 (λf7=>by have:=pC j f7;omega) Zo
  ·have R:=T.2.1
   exact ed j Zo T.2.2 Zo
  ·have R:=T.2.1
   rcases qq j f7 with rfl|f7
   ·omega
   ·exact T.2.2 f7
  ·have M:=T.1;have R:=T.2
   rcases qq j f7 with rfl|f7
   ·omega
   ·have:=pC j f7;omega
 have ev:cu X [aF] h k ck (cA+1):=⟨Zo,λb ai bO=>by
  rw[ed b Zo (λE=>by have:=pC _ E;omega) Zo];exact pz.af b ai bO⟩
 have g9:=gU.af (ed aF Zo (λE=>by have:=pC _ E;omega) Zo) (ed bE Zo (λE=>by have:=pC _ E;omega) Zo)
 clear tW dX gU dO pz qo n6 iX j3 nq qq mv y5 W0 Ot X3 XN OT
 simp only[ok,Ze]at S
 subst S
 have gm:∀j,j≠aQ+1->ab X (bm X ck (aQ+1) (some (.cells ((U.ofList (gJ 23 x.at_ [] false dA 0 CS) 0 .nil).set 8 (some Rs)) 9 .own))) j=ab X ck j:=λj a=>aK Zo a
 obtain⟨cN,dp⟩:=(hE.af (V:=bm X ck (aQ+1) (some (.cells ((U.ofList (gJ 23 x.at_ [] false dA 0 CS) 0 .nil).set 8 (some Rs)) 9 .own))) (.inl rG) (λj T=>gm j (by have:=WJ j T;omega))).Iz (P:=λj=>ef (aQ+2) (cA+1) j/\j∈Nt) Zs (λj T=>⟨by have:=WJ j T;exact⟨Zo,Zo⟩,T⟩)
 refine bK _ _ _ ⟨.ptr (aQ+1) 0,bv,_,anK,rfl,cP.of (b:=aQ+1) (m:=9) (st:= .own) (cN:=cN) (bx:=Rs) (kind:=23) (at_:=x.at_) (name:=[]) (no:=false) (ty:=dA) (n:=0) (br:=[.ptr uJ 0, .ptr AP 0, .ptr Ix 0]) ?_ ⟨Zo,Zo⟩ (dp.lift (λj T=>⟨by have:=T.1.1;omega,T.1.2⟩)) (λ_=> ?_) ?_, ?_, ?_⟩
 ·rw[bq Zo];rfl
 ·have:=(dp.ai Zs).1.1
  omega
 ·exact dq.lift (λj T=>⟨⟨by have:=T.1.1;omega,by have:=T.1.2;omega⟩,by have:=T.1.1;omega,T.2⟩) _ _ (dq.off (dq.af (λj T=>gm j (by have:=T.1;omega)) _ _ BW) dp)
 ·exact g9.af (gm _ Zo) (gm _ Zo)
 ·exact⟨ev.le,λb ai bO=>by rw[gm b Zo];exact ev.af b ai bO⟩
end
end
end Go.Proofs.YtpfajohmofnkfaaGreatDoor

namespace Go.Proofs.YtpfajohmofnkfaaGreatDoor
open Go.al Go.bh
noncomputable section
section
variable{X:cD}{h V bb aV:U an}{k av aQ bp aF bE:Nat}{aR:List Tok}{i:Nat}
theorem aqF(aA:d7 X){n:Nat}(pJ:n<=300000)(ah:∀m,m<n->qb X aF bE aR m):∀h k i r,ib X h k aF bE aR i->Go.bh.part n (aR.drop i)=some r->a6 X 261 [.ptr aF 0] h k (jo X aF bE aR h k r) (it X aF h k r):=by
 intro h k i r ax S
 cases n with
 |zero=>simp[Go.bh.part]at S
 |succ n=>
 cases aI:aR.drop i with
 |nil=>rw[aI]at S;simp[Go.bh.part]at S
 |cons x l=>
 rw[aI]at S
 by_cases eR:x.kind=5
 ·exact aqC aA ax aI eR S
 by_cases bN:x.kind=1
 ·exact aqE aA ah ax aI Zo bN S
 by_cases cH:x.kind=3
 ·exact aqH aA ah ax aI cH S
 by_cases ed:x.kind=6
 ·by_cases aT:x.text=[40]
  ·exact aqG aA ah ax aI ed aT S
  ·exact Q8 aA ax aI eR bN cH (λ_=>aT) (λa=>Zo) S
 by_cases cg:x.kind=2
 ·by_cases M:x.text=[116,114,117,101]
  ·exact abo aA ax aI cg (.inl M) S
  by_cases R:x.text=[102,97,108,115,101]
  ·exact abo aA ax aI cg (.inr R) S
  by_cases au:x.text=[105,102]
  ·exact aqB aA ah ax aI cg au S
  by_cases aM:x.text=[109,101,114,103,101]
  ·exact aqD aA ah ax aI cg aM S
  ·exact Q8 aA ax aI eR bN cH (λa=>Zo) (λ_=>⟨M,R,au,aM⟩) S
 ·exact Q8 aA ax aI eR bN cH (λa=>Zo) (λa=>absurd a cg) S
theorem Ur(aA:d7 X)(eJ:vg X):∀n,n<=300000->qb X aF bE aR n:=by
 intro n
 induction n using Nat.strongRecOn with
 |ind n ah=>
  intro aS
  have ah:∀m,m<n->qb X aF bE aR m:=λm bi=>ah m bi Zo
  exact⟨aoS aA eJ ah,ar7 aA ah,aqS aA ah,aqF aA aS ah,ai4 aA ah,agT aA ah,ao2 aA aS ah⟩
end
end
end Go.Proofs.YtpfajohmofnkfaaGreatDoor

