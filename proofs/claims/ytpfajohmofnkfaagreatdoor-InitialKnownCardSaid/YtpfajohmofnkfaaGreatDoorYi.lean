/- A part of the proof of the claim's last text: what it is used for is said there; no condition of its own. -/
import Derived.Test.YtpfajohmofnkfaaGreatDoorYh
set_option maxHeartbeats 8000000
set_option linter.all false
namespace Go.Proofs.YtpfajohmofnkfaaGreatDoor
open Go.bg Go.a2
noncomputable section
section
variable{X:ck}{h T aX aJ:S ak}{j ao aL a6 aG bK:Nat}{aU:List Tok}{i:Nat}
def aqF{n bl Y:Nat}{cs:List H}(D:IntKind)(a:Y<n):tt true n bl (.agg cs) (.int D (Y:Int))=some (.agg ((cs.drop (Y*bl)).take bl)):=by
 simp[tt,rk,fo,a]
def Sr:List H:=[.str [110,111,116], .Z 3, .str [45], .Z 4, .str [112,114,101], .Z 5]
def atu{Y:Nat}(a:Y<3):∃s D,yR.drop Y=(s,D)::yR.drop (Y+1)/\(Sr.drop (Y*2)).take 2=[.str s, .Z D]:=by
 match Y,a with
 |0,_=>exact⟨_,_,rfl,rfl⟩
 |1,_=>exact⟨_,_,rfl,rfl⟩
 |2,_=>exact⟨_,_,rfl,rfl⟩
def atB(ax:dv X){n:Nat}(al:∀m,m<n->qF X aG bK aU m):∀h j i r,it X h j aG bK aU i->Go.a2.xi n (aU.drop i)=some r->aR X 258 [.ptr aG 0] h j (jH X aG bK aU h j r) (iF X aG h j r):=by
 intro h j i r ay Z
 cases n with
 |zero=>simp[Go.a2.xi]at Z
 |succ n=>
 refine c4 (ahQ X) (ax.none _ _ rfl) ?_
 rw[ahR]
 unfold U5
 have gL:=ay.a7
 have j3:=ay.hi
 have hT:=ay.fM
 have jz:=ay.gY
 unfold Go.a2.xi at Z
 cases ai:ou yR (aU.drop i)with
 |none=>rw[ai]at Z;cases Z
 |some JQ=>
 rw[ai]at Z
 refine x6 ⟨?_⟩
 refine ka (λK T aS=>K.g 0=some (.ptr aG 0)/\a2 X T aG bK aU i/\b4 X [aG] h j T aS/\JQ=(none,aU.drop i)) (λY bH=> ?_) ?_
 ·refine fD (λm K T aS=>∃Y,m=3-Y/\Y<=3/\K.g 0=some (.ptr aG 0)/\K.g 15=some (.agg Sr)/\K.g 16=some (.Z (Y:Int))/\a2 X T aG bK aU i/\b4 X [aG] h j T aS/\ou (yR.drop Y) (aU.drop i)=some JQ)
   3 ⟨0,rfl,Zo,bn,fN,fN,ay.par,b4.refl _ _ _,ai⟩ ?_
  rintro m K aJ a6 ⟨Y,rfl,L8,t0,vD,y0,dt,dc,ai⟩
  have f2:=dc.le
  have fK:=ay.go dt f2
  refine qW @y0 ⟨?_⟩
  refine gM ?_
  refine EF (λc2=> ?_) (λc2=> ?_)
  ·have c2:Y<3:=Zo
   obtain⟨s,e7,j4,fC⟩:=atu c2
   rw[j4]at ai
   simp only[ou]at ai
   have aav:=aqF (n:=3) (bl:=2) (cs:=Sr) .i64 c2
   rw[fC]at aav
   refine gp @vD @y0 @aav @t0 ⟨?_⟩
   refine e8 (λaY=>bj X aJ a6 aY (a6+1)/\aa X aY a6=some (.cells (S.ofList [.str s, .Z e7] 0 .nil) 2 .own)) ⟨dM,bh Zo⟩ ?_
   rintro aY ⟨ca,cQ⟩
   cases aH:aU.drop i with
   |nil=>rw[aH]at ai;simp[lX]at ai
   |cons x l=>
   rw[aH]at ai
   refine(ny ax (fK.go (dt.ex ca Zo Zo) Zo) aH s).Zm ?_
   rintro ad bw c7 ⟨rfl,g9,eB⟩
   have ji:=eB.le
   have d1:aa X bw a6=some (.cells (S.ofList [.str s, .Z e7] 0 .nil) 2 .own):=by rw[eB.ac _ Zo (by simp;omega)];exact cQ
   have nT:=dc.trans ((b4.of ca).trans eB)
   cases aI:hN x s with
   |true=>
    rw[aI]at g9
    simp only[lX,aI,ZD]at ai g9 ⊢
    simp only[Zf]at ai
    subst ai
    simp only[]at Z
    refine eu b9.eq_1 (bJ d1) @t0 ⟨?_⟩
    refine e8 (λbL=>bj X bw c7 bL (c7+1+10)/\aa X bL c7=some (.cells (S.ofList (b9 x) 0 .nil) 7 .own)) ⟨dM,bh Zo⟩ ?_
    rintro bL ⟨dw,fA⟩
    have ob:=fK.go (g9.ex dw Zo Zo) (by omega:a6<=c7+1+10)
    have dx:=nT.trans (b4.of dw)
    rw[<-(fI aH).2]at Z
    rcases gl Z with ⟨J,cv,rfl⟩|⟨HH,mC,cv,Z⟩
    ·exact((al n Zo).tE bL _ _ _ ob cv).mono (λad T ao a=>by obtain⟨F,cy,a,_⟩:=a;cases a) (λad T ao a=>a.of dx (λ_ a=>a))
    refine((al n Zo).tE bL _ _ _ ob cv).mono ?_ (λad T ao a=>by obtain⟨J,a,_⟩:=a;cases a)
    rintro y5 cd er ⟨awZ,hW,Qw,eO,hq,ey⟩
    cases Qw
    have q6:=ey.le
    simp only[ok,Zf]at Z
    subst Z
    obtain⟨BH,rfl,IP,_⟩:=eO.ptr
    have dU:aa X cd c7=some (.cells (S.ofList (b9 x) 0 .nil) 7 .own):=by rw[ey.ac _ Zo (by simp;omega)];exact fA
    have Xl:aa X cd a6=some (.cells (S.ofList [.str s, .Z e7] 0 .nil) 2 .own):=by rw[ey.ac _ Zo (by simp;omega),dw.ac _ Zo];exact d1
    refine eu (bJ dU) (bJ Xl) b9.eq_1 ⟨?_⟩
    refine gQ (o7 _ _) ?_
    refine eu (bJ dU) (bJ Xl) b9.eq_1 ⟨?_⟩
    refine gQ (o7 _ _) ?_
    refine⟨_,hW,rfl,cI.lit (D:=1) (cap:=1) (n:=0) (kind:=e7) (at_:=x.at_) (name:=[]) (no:=false) (ty:=dJ) (b:=c7+1+8) (hY:= .own) (cL:=c7+1+6) (bk:=[.ptr BH 0]) (bh (b:=c7+1+8) Zo) ⟨Zo,Zo⟩ ?_ ⟨Zo,Zo⟩ rfl Zo Zo (dp.one (cI.ac (λe I=> ?_) _ _ eO) (λe I=> ?_)), ?_, ?_⟩
    ·simp(disch:=omega) only[aE,bh]<;>rfl
    ·have R:=I.1;have U:=I.2
     simp(disch:=omega) only[aE]
    ·simp only[dy]at I ⊢;omega
    ·exact hq.ac (by simp(disch:=omega) only[aE]) (by simp(disch:=omega) only[aE])
    ·exact⟨Zo,λe I bQ=>by
      rw[<-(dx.trans ey).ac e I bQ]
      simp(disch:=omega) only[aE]⟩
   |false=>
    rw[aI]at g9
    simp only[lX,aI,Zv,ZB]at ai g9 ⊢
    have bB:aA .add (.Z (Y:Int)) (.Z 1)=some (.Z ((Y+1:Nat):Int)):=by rw[eI Zo Zo];rfl
    refine gp b9.eq_1 g0.eq_1 @y0 @bB ⟨?_⟩
    refine⟨_, ?_,Y+1,rfl,Zo,a1 t0,a1 vD,bn,g9.ac (by simp(disch:=omega) only[aE]) (by simp(disch:=omega) only[aE]), ?_,ai⟩
    ·omega
    ·exact⟨Zo,λb ai bQ=>by rw[<-nT.ac b ai bQ];simp(disch:=omega) only[aE]⟩
  ·have bH:Y=3:=Zo
   subst bH
   simp only[yR,Z4,ZU,ou,Zf]at ai
   refine cH ⟨?_⟩
   exact bH _ _ _ ⟨a1 t0,dt,dc,ai.symm⟩
 ·clear ai
  rintro nF fG a7 ⟨t0,aaW,LD,rfl⟩
  simp only[]at Z
  have IB:=LD.le
  have St:=ay.go aaW IB
  refine ci @t0 ⟨?_⟩
  rcases gl Z with ⟨J,R,rfl⟩|⟨left,eh,R,Z⟩
  ·exact((al n Zo).part fG a7 i _ St R).mono (λad T ao a=>by obtain⟨F,cy,a,_⟩:=a;cases a) (λad T ao a=>a.of LD (λ_ a=>a))
  refine((al n Zo).part fG a7 i _ St R).mono ?_ (λad T ao a=>by obtain⟨J,a,_⟩:=a;cases a)
  rintro vJ aX aL ⟨F,eU,bt,bU,eo,h3⟩
  cases bt
  have jB:=h3.le
  refine gM ?_
  refine fD (λm K T aS=>∃left v cy,K.g 0=some (.ptr aG 0)/\K.g 7=some v/\cI X T (dy j aS) left v/\a2 X T aG bK aU cy/\b4 X [aG] h j T aS/\na m left (aU.drop cy)=some r)
   n ⟨left,vJ,eU,a1 t0,bn,cI.lift (λe I=>⟨by have:=I.1;omega,I.2⟩) _ _ bU,eo,LD.trans h3,Z⟩ ?_
  clear bU eo h3 R Z jB t0 aaW LD IB St
  rintro m K aJ a6 ⟨left,v,eP,t0,gu,bE,dt,dc,Z⟩
  cases m with
  |zero=>simp[na]at Z
  |succ m=>
  unfold na at Z
  have f2:=dc.le
  have fK:=ay.go dt f2
  refine gM ?_
  obtain⟨cu,rfl,l6,_⟩:=bE.ptr
  have l6:=l6.2
  refine ci @t0 ⟨?_⟩
  obtain⟨x,b5,aH,ag⟩:=qA Z
  refine(ny ax fK aH _).Zm ?_
  rintro y4 aY ba ⟨rfl,gA,dZ⟩
  have ie:=dZ.le
  have X4:=dc.trans dZ
  have ca:=cI.ex (T:=aY) bE (λe R U=>dZ.ac e Zo (by simp;omega)) (Zi _) (Zi _)
  rcases ag with ⟨aI,Z⟩|⟨aI,Z⟩
  ·rw[aI]at gA ⊢
   simp only[ZD]at gA ⊢
   rw[<-(fI aH).2]at Z
   simp only[]at Z
   refine cM b9.eq_1 @t0 ⟨?_⟩
   refine e8 (λbL=>bj X aY ba bL (ba+1)/\aa X bL ba=some (.cells (S.ofList (b9 x) 0 .nil) 7 .own)) ⟨dM,bh Zo⟩ ?_
   rintro bL ⟨dw,fA⟩
   have ob:=fK.go (gA.ex dw Zo Zo) (by omega:a6<=ba+1)
   obtain⟨e,mC,Ip,I5⟩:=qA Z
   refine(ny ax ob Ip _).Zm ?_
   rintro aef cd er ⟨rfl,hq,ey⟩
   have q6:=ey.le
   have dU:aa X cd ba=some (.cells (S.ofList (b9 x) 0 .nil) 7 .own):=by rw[ey.ac _ Zo (by simp;omega)];exact fA
   have uq:=(X4.trans (b4.of dw)).trans ey
   have eO:=cI.ex (T:=cd) ca (λe R U=>by rw[ey.ac e Zo (by simp;omega),dw.ac e Zo]) (Zi _) (Zi _)
   have ns:andThen (iB 1 (aU.drop (if hN e [110,111,116]then eP+1+1 else eP+1))) (λc l=>na m (.mk 6 x.at_ c.text (hN e [110,111,116]) dJ 0 [left]) l)=some r:=by
    rcases I5 with ⟨Ri,ns⟩|⟨Ri,ns⟩
    ·simp only[Ri,ZD];rw[(fI Ip).2];exact ns
    ·simp only[Ri,Zv,ZB];exact ns
   clear Z I5
   generalize (if hN e [110,111,116]then eP+1+1 else eP+1)=hW at ns hq
   generalize (if hN e [110,111,116]then e else g0)=Tj
   generalize hN e [110,111,116]=no at ns
   refine gp b9.eq_1 (bJ dU) @t0 @gu ⟨?_⟩
   refine e8 (λcr=>bj X cd er cr (er+1+11)/\aa X cr (er+1+7)=some (.cells (S.ofList [.ptr cu 0] 0 .nil) 1 .own)) ⟨dM,bh Zo⟩ ?_
   rintro cr ⟨eF,eN⟩
   have m4:=fK.go (hq.ex eF Zo Zo) (by omega:a6<=er+1+11)
   cases r4:aU.drop hW with
   |nil=>rw[r4]at ns;simp[iB,andThen]at ns
   |cons c l9=>
   rw[r4]at ns
   simp only[iB]at ns
   refine(By ax m4.a7 m4.par m4.fM m4.hi m4.gY m4.many (fI r4).1 1).mono ?_ ?_
   ·rintro u8 dH gt ⟨aF,rfl,w0,gz⟩
    have yp:=gz.le
    rw[Zq aF]at ns
    simp only[andThen,ok]at ns
    have hf:aa X dH ba=some (.cells (S.ofList (b9 x) 0 .nil) 7 .own):=by rw[gz.ac _ Zo (by simp;omega),eF.ac _ Zo];exact dU
    have al6:aa X dH (er+1+7)=some (.cells (S.ofList [.ptr cu 0] 0 .nil) 1 .own):=by rw[gz.ac _ Zo (by simp;omega)];exact eN
    refine cM b9.eq_1 (bJ hf) ⟨?_⟩
    refine gQ (o7 _ _) ?_
    refine⟨m,Zo,_, .ptr (er+1+9) 0,hW+1,a1 t0,bn,cI.lit (D:=1) (cap:=1) (n:=0) (kind:=6) (at_:=x.at_) (name:=c.text) (no:=no) (ty:=dJ) (b:=er+1+9) (hY:= .own) (cL:=er+1+7) (bk:=[.ptr cu 0]) (bh (b:=er+1+9) Zo) ⟨Zo,Zo⟩ ?_ ⟨Zo,Zo⟩ rfl Zo Zo (dp.one (cI.ac (λe I=> ?_) _ _ eO) (λe I=> ?_)), ?_, ?_,by rw[(fI r4).2];exact ns⟩
    ·simp(disch:=omega) only[aE];exact al6
    ·have R:=I.1;have U:=I.2
     simp(disch:=omega) only[aE]
     rw[gz.ac e Zo (by simp;omega),eF.ac e Zo]
    ·simp only[dy]at I ⊢;omega
    ·exact w0.ac (by simp(disch:=omega) only[aE]) (by simp(disch:=omega) only[aE])
    ·exact⟨Zo,λe I bQ=>by
      rw[<-((uq.trans (b4.of eF)).trans gz).ac e I bQ]
      simp(disch:=omega) only[aE]⟩
   ·rintro u8 dH gt ⟨aF,rfl,gz⟩
    rw[Zh aF]at ns
    simp only[andThen,bad,Zf]at ns
    subst ns
    exact⟨_,rfl,rfl,(uq.trans (b4.of eF)).trans gz⟩
  ·rw[aI]at gA ⊢
   simp only[Zv,ZB]at gA ⊢
   simp only[ok,Zf]at Z
   subst Z
   refine eu b9.eq_1 g0.eq_1 @gu ⟨?_⟩
   refine⟨left,eP,rfl,cI.ex ca (λe R U=> ?_) (Zi _) Zo,gA.ac (by simp(disch:=omega) only[aE]) (by simp(disch:=omega) only[aE]), ?_⟩
   ·simp(disch:=omega) only[aE]
   ·exact⟨Zo,λb ai bQ=>by rw[<-X4.ac b ai bQ];simp(disch:=omega) only[aE]⟩
end
section
variable{X:ck}{h T aX aJ:S ak}{j ao aL a6 aG bK:Nat}{aU:List Tok}{i:Nat}
def vu(J b:Nat)(cK:List Nat):Nat->Prop:=λe=>J<=e/\e<b/\e∉cK
def dp.off{C:aW}{bs:Nat->Prop}{J b cL:Nat}{cK:List Nat}{a8:H}{bF:List bz}{bk:List H}(a:dp C h (vu J b cK) bF bk)(Z:d5 C h (λe=>bs e/\e∈cK) cL a8 1 (bk.map λv=>[v])):dp C h (λe=>dy J b e/\e≠cL) bF bk:=by
 cases bk with
 |nil=>
  have:=a.len
  cases bF with
  |nil=>exact .nil
  |cons=>simp at this
 |cons v bk=>
  have ai:=(Z.ai Zs).2
  exact dp.lift (λe I=>⟨⟨I.1,I.2.1⟩,λF=>I.2.2 (F▸ai)⟩) _ _ a
def jq(ax:dv X)(ay:it X h j aG bK aU i){cL:Nat}{s:bx}(Im:cL<j)(IX:cL≠aG)(aI:aa X h cL=some (.cells (S.ofList [.str s] 0 .nil) 1 .own)){r:Except Int (Tok×List Tok)}(Z:eD s (aU.drop i)=some r):
 aR X 172 [.ptr aG 0, .slice cL 0 1 1] h j (λad T ao=>∃x cy,r= .ok (x,aU.drop cy)/\ad= .agg (b9 x)/\a2 X T aG bK aU cy/\b4 X [aG] h j T ao) (iF X aG h j r):=by
 have R:d5 X h (λe=>e=cL) cL (.slice cL 0 1 1) 1 (il [s]):=JR (bC:=[[.str s]]) (st:= .own) aI rfl Zs Zs rfl
 refine(aes ax ay.a7 ay.par ay.fM ay.hi ay.gY ay.many Im IX R (r:=r) ?_)
 simp only[ry]
 rw[Z]
 obtain⟨F|⟨x,l⟩,_⟩:∃an,an=r:=⟨r,rfl⟩
 all_goals(rename_i cl;subst cl;rfl)
def arP(ax:dv X){n:Nat}(r9:n<=300000)(al:∀m,m<n->qF X aG bK aU m):∀h j i r,it X h j aG bK aU i->Go.a2.list n (aU.drop i)=some r->aR X 262 [.ptr aG 0] h j (λad T ao=>∃bF cy bk cL,r= .ok (bF,aU.drop cy)/\d5 X T (dy j ao) cL ad 1 (bk.map λv=>[v])/\dp X T (λe=>dy j ao e/\e≠cL) bF bk/\a2 X T aG bK aU cy/\b4 X [aG] h j T ao) (iF X aG h j r):=by
 intro h j i r ay Z
 cases n with
 |zero=>simp[Go.a2.list]at Z
 |succ n=>
 refine c4 (ahS X) (ax.none _ _ rfl) ?_
 rw[ahT]
 unfold U6
 have gL:=ay.a7
 have j3:=ay.hi
 have hT:=ay.fM
 have jz:=ay.gY
 unfold Go.a2.list at Z
 obtain⟨x,b5,aH,ag⟩:=qA Z
 refine(ny ax ay aH _).Zm ?_
 rintro vJ aX aL ⟨rfl,eo,h3⟩
 have jB:=h3.le
 rcases ag with ⟨aI,Z⟩|⟨aI,Z⟩
 ·rw[aI]at eo ⊢
  simp only[ZD]at eo ⊢
  simp only[ok,Zf]at Z
  subst Z
  refine ci b9.eq_1 ⟨?_⟩
  refine⟨[],i+1,[],0,by rw[(fI aH).2],d5.nil _ _, .nil,eo.ac (by simp(disch:=omega) only[aE]) (by simp(disch:=omega) only[aE]), ?_⟩
  exact⟨Zo,λb ai bQ=>by rw[<-h3.ac b ai bQ];simp(disch:=omega) only[aE]⟩
 ·rw[aI]at eo ⊢
  simp only[Zv,ZB]at eo ⊢
  simp only[]at Z
  refine cM b9.eq_1 g0.eq_1 ⟨?_⟩
  refine e8 (λaY=>bj X aX aL aY (aL+1)) dM ?_
  intro aJ bE
  have fK:=ay.go (eo.ex bE Zo Zo) (by omega:j<=aL+1)
  have dc:=h3.trans (b4.of bE)
  rcases gl Z with ⟨J,U,rfl⟩|⟨F,c5,U,Z⟩
  ·exact((al n Zo).arrow aJ _ _ _ fK U).mono (λad T ao a=>by obtain⟨F,cy,a,_⟩:=a;cases a) (λad T ao a=>a.of dc (λ_ a=>by cases a;rfl))
  refine((al n Zo).arrow aJ _ _ _ fK U).mono ?_ (λad T ao a=>by obtain⟨J,a,_⟩:=a;cases a)
  rintro v3 aY ba ⟨fp,i3,aoa,ca,gA,dZ⟩
  cases aoa
  have ie:=dZ.le
  obtain⟨ee,rfl,ll,_⟩:=ca.ptr
  have ll:=ll.2
  refine cH ⟨?_⟩
  refine fD (λm K T aS=>∃bF bk s cK cy,bk.length+m<=n+1/\K.g 0=some (.ptr aG 0)/\K.g 5=some s/\gD X T s 1 bk cK/\(∀e∈cK,j<=e/\e<aS)/\dp X T (vu j aS cK) bF bk/\a2 X T aG bK aU cy/\b4 X [aG] h j T aS/\oY m bF (aU.drop cy)=some r)
   n ⟨[F],[.ptr ee 0], .slice ba 0 1 1,[ba],i3,by simp;omega,bn,bn, .inr ⟨ba,1,_,_,rfl,rfl,rfl,bh Zo,n4 _⟩, ?_, ?_,gA.ac (by simp(disch:=omega) only[aE]) (by simp(disch:=omega) only[aE]), ?_,Z⟩ ?_
  ·intro e I
   simp at I
   omega
  ·refine dp.one (cI.ac (λe I=> ?_) _ _ ca) (λe I=>⟨by have:=I.1;omega,by have:=I.2;omega,by have:=I.2;simp;omega⟩)
   have:=I.2
   simp(disch:=omega) only[aE]
  ·exact⟨Zo,λb ai bQ=>by rw[<-(dc.trans dZ).ac b ai bQ];simp(disch:=omega) only[aE]⟩
  clear ca gA dZ U Z ll
  rintro m K bw c7 ⟨bF,bk,s,cK,i4,bp,t0,t5,j7,e9,Fl,g9,eB,Z⟩
  cases m with
  |zero=>simp[oY]at Z
  |succ m=>
  unfold oY at Z
  have ji:=eB.le
  have kE:=ay.go g9 ji
  refine gM ?_
  refine ci @t0 ⟨?_⟩
  obtain⟨e,b5,aH,ag⟩:=qA Z
  refine(ny ax kE aH _).Zm ?_
  rintro D7 bL cb ⟨rfl,ha,dx⟩
  have hV:=dx.le
  have oT:∀e,j<=e->e<c7->aa X bL e=aa X bw e:=λe R U=>dx.ac e Zo (by simp;omega)
  have oM:=j7.ac (T:=bL) (λe I=>oT e (e9 e I).1 (e9 e I).2)
  have uA:=dp.ac (T:=bL) (λe I=>oT e I.1 I.2.1) _ _ Fl
  rcases ag with ⟨aI,Z⟩|⟨aI,Z⟩
  ·rw[aI]at ha ⊢
   simp only[ZD]at ha ⊢
   rw[<-(fI aH).2]at Z
   simp only[]at Z
   refine eu b9.eq_1 @t0 @t5 ⟨?_⟩
   refine e8 (λaY=>bj X bL cb aY (cb+1)) dM ?_
   intro cd eO
   have ey:=(eB.trans dx).trans (b4.of eO)
   have md:=kE.go (ha.ex eO Zo Zo) (by omega:c7<=cb+1)
   rcases gl Z with ⟨J,dP,rfl⟩|⟨Pj,l9,dP,Z⟩
   ·exact((al m Zo).arrow cd _ _ _ md dP).mono (λad T ao a=>by obtain⟨F,cy,a,_⟩:=a;cases a) (λad T ao a=>a.of ey (λ_ a=>by cases a;rfl))
   refine((al m Zo).arrow cd _ _ _ md dP).mono ?_ (λad T ao a=>by obtain⟨J,a,_⟩:=a;cases a)
   rintro Ke cr d9 ⟨WN,oP,ym,eF,hD,el⟩
   cases ym
   have mX:=el.le
   obtain⟨Gx,rfl,C4,_⟩:=eF.ptr
   have C4:=C4.2
   refine cH ⟨?_⟩
   have aq2:∀gv,gv=bm X cr d9 (some (.cells (S.ofList [.ptr Gx 0] 0 .nil) 1 .own))->∀e,j<=e->e<cb->aa X gv e=aa X bL e:=by
    rintro gv rfl e R U
    rw[aE Zo Zo,el.ac e Zo (by simp;omega),eO.ac e Zo]
   have j8:k8 X (bm X cr d9 (some (.cells (S.ofList [.ptr Gx 0] 0 .nil) 1 .own))) 1 (.slice d9 0 1 1)=some (1,[.ptr Gx 0]):=rs (bh Zo) (n4 _) rfl _
   obtain⟨fs,dH,gw,ic,Rm,Il,wU⟩:=(oM.ac (T:=bm X cr d9 (some (.cells (S.ofList [.ptr Gx 0] 0 .nil) 1 .own))) (λe I=>aq2 _ rfl e (e9 e I).1 (by have:=(e9 e I).2;omega))).append (j:=d9+1) Zd j8 rfl Zd rfl (by simp;omega) Zo (λe I=>by have:=(e9 e I).2;omega)
   refine kG ic ?_
   have ht:∀e,e<d9->e∉cK->aa X dH e=aa X cr e:=λe R U=>by
    rw[wU e Zo U,aE Zo Zo]
   refine⟨m,Zo,bF++[Pj],bk++[.ptr Gx 0],fs,gw,oP,by simp;omega,a1 t0,bn, .inl Rm, ?_, ?_, ?_, ?_,Z⟩
   ·intro e I
    rcases Il e I with rfl|I
    ·omega
    ·have:=e9 e I;omega
   ·refine dp.snoc (cI.ac (λe I=> ?_) _ _ eF) (dp.ac (λe I=> ?_) _ _ uA) (λe I=>⟨I.1,by have:=I.2.1;omega,λgc=> ?_⟩) (λe I=>⟨⟨by have:=I.1;omega,by have:=I.2;omega,λgc=> ?_⟩,λoO=>by have:=I.1;have:=oO.2.1;omega⟩)
    ·have R:=I.1
     exact ht e I.2 (λgc=>by have:=e9 e gc;omega)
    ·have U:=I.2.1
     rw[ht e Zo I.2.2,el.ac e Zo (by have:=I.1;simp;omega),eO.ac e Zo]
    ·have U:=I.2.1
     rcases Il e gc with rfl|gc
     ·omega
     ·exact I.2.2 gc
    ·have R:=I.1;have U:=I.2
     rcases Il e gc with rfl|gc
     ·omega
     ·have:=e9 e gc;omega
   ·exact hD.ac (ht _ Zo (λF=>by have:=e9 _ F;omega)) (ht _ Zo (λF=>by have:=e9 _ F;omega))
   ·exact⟨Zo,λb ai bQ=>by rw[ht b Zo (λF=>by have:=e9 _ F;omega)];exact(ey.trans el).ac b ai bQ⟩
  ·rw[aI]at ha ⊢
   simp only[Zv,ZB]at ha ⊢
   simp only[]at Z
   refine gp b9.eq_1 g0.eq_1 @t0 @t5 ⟨?_⟩
   refine e8 (λaY=>bj X bL cb aY (cb+1+1)/\aa X aY (cb+1)=some (.cells (S.ofList [.str [41]] 0 .nil) 1 .own)) ⟨dM,bh Zo⟩ ?_
   rintro cd ⟨eO,dU⟩
   have ey:=(eB.trans dx).trans (b4.of eO)
   have md:=kE.go (ha.ex eO Zo Zo) (by omega:c7<=cb+1+1)
   rcases gl Z with ⟨J,dP,rfl⟩|⟨Pj,l9,dP,Z⟩
   ·exact(jq ax md Zo Zo dU dP).mono (λad T ao a=>by obtain⟨F,cy,a,_⟩:=a;cases a) (λad T ao a=>a.of ey (λ_ a=>by cases a;rfl))
   refine(jq ax md Zo Zo dU dP).mono ?_ (λad T ao a=>by obtain⟨J,a,_⟩:=a;cases a)
   rintro Ke cr d9 ⟨WN,oP,ym,_,hD,el⟩
   cases ym
   have mX:=el.le
   simp only[ok,Zf]at Z
   subst Z
   refine ci @t5 ⟨?_⟩
   have gm:∀e,j<=e->e<cb->aa X cr e=aa X bL e:=λe R U=>by
    rw[el.ac e Zo (by simp;omega),eO.ac e Zo]
   obtain⟨cL,cz⟩:=(oM.ac (T:=cr) (λe I=>gm e (e9 e I).1 (by have:=(e9 e I).2;omega))).Gy (P:=λe=>dy j d9 e/\e∈cK) Zo (λe I=>⟨⟨(e9 e I).1,by have:=(e9 e I).2;omega⟩,I⟩)
   refine⟨bF,oP,bk,cL,rfl,cz.lift (λe I=>I.1), ?_,hD,ey.trans el⟩
   exact dp.lift (λe I=>⟨⟨I.1.1,by have:=I.1.2;omega⟩,I.2⟩) _ _ (dp.off (dp.ac (λe I=>gm e I.1 (by have:=I.2.1;omega)) _ _ uA) cz)
end
section
variable{X:ck}{h T aX aJ:S ak}{j ao aL a6 aG bK:Nat}{aU:List Tok}{i:Nat}
def atl(ax:dv X){n:Nat}{r:Except Int (bz×List Tok)}(ay:it X h j aG bK aU i){x:Tok}{l:List Tok}(aH:aU.drop i=x::l)(aF:x.kind=5)(Z:Go.a2.part (n+1) (x::l)=some r):
 aR X 261 [.ptr aG 0] h j (jH X aG bK aU h j r) (iF X aG h j r):=by
 refine c4 (Ah X) (ax.none _ _ rfl) ?_
 rw[Ai]
 unfold xE
 have gL:=ay.a7
 have j3:=ay.hi
 have hT:=ay.fM
 have jz:=ay.gY
 obtain⟨ag,h6⟩:=fI aH
 unfold Go.a2.part at Z
 refine(rm ax ay.a7 ay.par ay.hi ay.gY ag).Zm ?_
 rintro ad aX aL ⟨rfl,bU⟩
 have jB:=bU.le
 have eo:=ay.par.ex bU Zo Zo
 obtain⟨c,aq,bd,cg,a3,a4⟩:=eo.at_
 have bZ:=jS bd a3
 have lk:=(Zc.1 ag).1
 have uM:=ay.many
 have dI:=eo.ne
 have bB:aA .add (.Z (i:Int)) (.Z 1)=some (.Z ((i+1:Nat):Int)):=by rw[eI Zo Zo];rfl
 refine g7 b9.eq_1 @bZ (Za @bB @bd) ⟨?_⟩
 generalize dE:bm X _ aG _=aJ
 have fx:aa X aJ aL=some (.cells (S.ofList (b9 x) 0 .nil) 7 .own):=by rw[<-dE];simp(disch:=omega) only[aE,bh]<;>rfl
 have iv:aa X aJ (aL+1)=some (.cells (S.ofList (g2 0 x.at_ [] false dJ 0 .aT) 0 .nil) 9 .own):=by rw[<-dE];simp(disch:=omega) only[aE,bh]<;>rfl
 have dt:a2 X aJ aG bK aU (i+1):=by
  refine eo.on (c:=dT c 1 [.Z ((i+1:Nat):Int)]) ?_ (λd7 st a=>by rw[bd]at a;cases a;exact qD ..) ?_
  ·rw[<-dE];simp(disch:=omega) only[aE,bh];rfl
  ·rw[<-dE];simp(disch:=omega) only[aE]
 have dc:b4 X [aG] h j aJ (aL+2):=by
  refine⟨Zo,λb ai bQ=> ?_⟩
  rw[<-bU.ac b ai, <-dE]
  simp only[Zt,ZH,YI,Yr,ZG,Ye]at bQ
  simp(disch:=omega) only[aE]
 clear dE bZ bd cg a3 a4 eo bU
 have s5:∃dB,aa X aJ aG=some (.cells dB 2 .own)/\am X aJ (.ptr aG 1)=some (.Z ((i+1:Nat):Int)):=by
  obtain⟨c,aq,cZ,dO,ei,h2⟩:=dt.at_
  exact⟨c,cZ,jS cZ ei⟩
 have fK:=ay.go dt (by omega:j<=aL+1+1)
 refine ka (λK T aS=>∃v,K.g 4=some v/\jH X aG bK aU h j r v T aS) (λY bH=> ?_) (by
  rintro K T aS ⟨v,t4,a⟩
  refine ci @t4 ⟨?_⟩
  exact a)
 rw[Zq aF]at Z
 simp only[ok,Zf]at Z
 subst Z
 have f6:decide (x.kind=5)=true:=by simp[aF]
 refine gp (bJ fx) @iv @f6 b9.eq_1 ⟨?_⟩
 refine gQ (by simp[H.same,nw]) ?_
 refine eu (bJ fx) @iv b9.eq_1 ⟨?_⟩
 refine gQ (o7 _ _) ?_
 refine eu (bJ fx) @iv b9.eq_1 ⟨?_⟩
 refine gQ (o7 _ _) ?_
 refine eu (bJ fx) @iv b9.eq_1 ⟨?_⟩
 refine bH _ _ _ ⟨.ptr (aL+1) 0,bn,_,i+1,by rw[<-h6],cI.leaf (b:=aL+1) (m:=9) (st:= .own) ?_ ⟨Zo,Zo⟩,dt.ac (by simp(disch:=omega) only[aE]) (by simp(disch:=omega) only[aE]), ?_⟩
 ·simp(disch:=omega) only[aE,bh]<;>rfl
 ·exact⟨Zo,λb ai bQ=>by rw[<-dc.ac b ai bQ];simp(disch:=omega) only[aE]⟩
end
section
variable{X:ck}{h T aX aJ:S ak}{j ao aL a6 aG bK:Nat}{aU:List Tok}{i:Nat}
def ac9(ax:dv X){n:Nat}{r:Except Int (bz×List Tok)}(ay:it X h j aG bK aU i){x:Tok}{l:List Tok}(aH:aU.drop i=x::l)(aF:x.kind=2)(be:x.text=[116,114,117,101]\/x.text=[102,97,108,115,101])(Z:Go.a2.part (n+1) (x::l)=some r):
 aR X 261 [.ptr aG 0] h j (jH X aG bK aU h j r) (iF X aG h j r):=by
 refine c4 (Ah X) (ax.none _ _ rfl) ?_
 rw[Ai]
 unfold xE
 have gL:=ay.a7
 have j3:=ay.hi
 have hT:=ay.fM
 have jz:=ay.gY
 obtain⟨ag,h6⟩:=fI aH
 unfold Go.a2.part at Z
 refine(rm ax ay.a7 ay.par ay.hi ay.gY ag).Zm ?_
 rintro ad aX aL ⟨rfl,bU⟩
 have jB:=bU.le
 have eo:=ay.par.ex bU Zo Zo
 obtain⟨c,aq,bd,cg,a3,a4⟩:=eo.at_
 have bZ:=jS bd a3
 have lk:=(Zc.1 ag).1
 have uM:=ay.many
 have dI:=eo.ne
 have bB:aA .add (.Z (i:Int)) (.Z 1)=some (.Z ((i+1:Nat):Int)):=by rw[eI Zo Zo];rfl
 refine g7 b9.eq_1 @bZ (Za @bB @bd) ⟨?_⟩
 generalize dE:bm X _ aG _=aJ
 have fx:aa X aJ aL=some (.cells (S.ofList (b9 x) 0 .nil) 7 .own):=by rw[<-dE];simp(disch:=omega) only[aE,bh]<;>rfl
 have iv:aa X aJ (aL+1)=some (.cells (S.ofList (g2 0 x.at_ [] false dJ 0 .aT) 0 .nil) 9 .own):=by rw[<-dE];simp(disch:=omega) only[aE,bh]<;>rfl
 have dt:a2 X aJ aG bK aU (i+1):=by
  refine eo.on (c:=dT c 1 [.Z ((i+1:Nat):Int)]) ?_ (λd7 st a=>by rw[bd]at a;cases a;exact qD ..) ?_
  ·rw[<-dE];simp(disch:=omega) only[aE,bh];rfl
  ·rw[<-dE];simp(disch:=omega) only[aE]
 have dc:b4 X [aG] h j aJ (aL+2):=by
  refine⟨Zo,λb ai bQ=> ?_⟩
  rw[<-bU.ac b ai, <-dE]
  simp only[Zt,ZH,YI,Yr,ZG,Ye]at bQ
  simp(disch:=omega) only[aE]
 clear dE bZ bd cg a3 a4 eo bU
 have s5:∃dB,aa X aJ aG=some (.cells dB 2 .own)/\am X aJ (.ptr aG 1)=some (.Z ((i+1:Nat):Int)):=by
  obtain⟨c,aq,cZ,dO,ei,h2⟩:=dt.at_
  exact⟨c,cZ,jS cZ ei⟩
 have fK:=ay.go dt (by omega:j<=aL+1+1)
 refine ka (λK T aS=>∃v,K.g 4=some v/\jH X aG bK aU h j r v T aS) (λY bH=> ?_) (by
  rintro K T aS ⟨v,t4,a⟩
  refine ci @t4 ⟨?_⟩
  exact a)
 rw[Zh (by rw[aF];decide),Zq (by rcases be with a|a<;>simp[aF,a])]at Z
 simp only[ok,Zf]at Z
 subst Z
 have f6:decide (x.kind=5)=false:=by simp[aF]
 have cJ:decide (x.kind=2)=true:=by simp[aF]
 rcases be with be|be
 ·have HF:decide (x.text=[116,114,117,101])=true:=by simp[be]
  refine hQ (bJ fx) @iv @f6 @cJ @HF b9.eq_1 ⟨?_⟩
  refine bH _ _ _ ⟨.ptr (aL+1) 0,bn,_,i+1,by rw[<-h6],cI.leaf (b:=aL+1) (m:=9) (st:= .own) (n:=if x.text=[116,114,117,101]then 1 else 0) ?_ ⟨Zo,Zo⟩,dt.ac (by simp(disch:=omega) only[aE]) (by simp(disch:=omega) only[aE]), ?_⟩
  ·rw[Zq be];simp(disch:=omega) only[aE,bh]<;>rfl
  ·exact⟨Zo,λb ai bQ=>by rw[<-dc.ac b ai bQ];simp(disch:=omega) only[aE]⟩
 ·have HF:decide (x.text=[116,114,117,101])=false:=by simp[be]
  have bb:decide (x.text=[102,97,108,115,101])=true:=by simp[be]
  refine ev (bJ fx) @iv @f6 @cJ @HF @bb b9.eq_1 ⟨?_⟩
  refine bH _ _ _ ⟨.ptr (aL+1) 0,bn,_,i+1,by rw[<-h6],cI.leaf (b:=aL+1) (m:=9) (st:= .own) (n:=if x.text=[116,114,117,101]then 1 else 0) ?_ ⟨Zo,Zo⟩,dt.ac (by simp(disch:=omega) only[aE]) (by simp(disch:=omega) only[aE]), ?_⟩
  ·rw[Zh (by rw[be];decide)];simp(disch:=omega) only[aE,bh]<;>rfl
  ·exact⟨Zo,λb ai bQ=>by rw[<-dc.ac b ai bQ];simp(disch:=omega) only[aE]⟩
end
section
variable{X:ck}{h T aX aJ:S ak}{j ao aL a6 aG bK:Nat}{aU:List Tok}{i:Nat}
def atn(ax:dv X){n:Nat}(al:∀m,m<n+1->qF X aG bK aU m){r:Except Int (bz×List Tok)}(ay:it X h j aG bK aU i){x:Tok}{l:List Tok}(aH:aU.drop i=x::l)(r9:n<=1000000)(aF:x.kind=1)(Z:Go.a2.part (n+1) (x::l)=some r):
 aR X 261 [.ptr aG 0] h j (jH X aG bK aU h j r) (iF X aG h j r):=by
 refine c4 (Ah X) (ax.none _ _ rfl) ?_
 rw[Ai]
 unfold xE
 have gL:=ay.a7
 have j3:=ay.hi
 have hT:=ay.fM
 have jz:=ay.gY
 obtain⟨ag,h6⟩:=fI aH
 unfold Go.a2.part at Z
 refine(rm ax ay.a7 ay.par ay.hi ay.gY ag).Zm ?_
 rintro ad aX aL ⟨rfl,bU⟩
 have jB:=bU.le
 have eo:=ay.par.ex bU Zo Zo
 obtain⟨c,aq,bd,cg,a3,a4⟩:=eo.at_
 have bZ:=jS bd a3
 have lk:=(Zc.1 ag).1
 have uM:=ay.many
 have dI:=eo.ne
 have bB:aA .add (.Z (i:Int)) (.Z 1)=some (.Z ((i+1:Nat):Int)):=by rw[eI Zo Zo];rfl
 refine g7 b9.eq_1 @bZ (Za @bB @bd) ⟨?_⟩
 generalize dE:bm X _ aG _=aJ
 have fx:aa X aJ aL=some (.cells (S.ofList (b9 x) 0 .nil) 7 .own):=by rw[<-dE];simp(disch:=omega) only[aE,bh]<;>rfl
 have iv:aa X aJ (aL+1)=some (.cells (S.ofList (g2 0 x.at_ [] false dJ 0 .aT) 0 .nil) 9 .own):=by rw[<-dE];simp(disch:=omega) only[aE,bh]<;>rfl
 have dt:a2 X aJ aG bK aU (i+1):=by
  refine eo.on (c:=dT c 1 [.Z ((i+1:Nat):Int)]) ?_ (λd7 st a=>by rw[bd]at a;cases a;exact qD ..) ?_
  ·rw[<-dE];simp(disch:=omega) only[aE,bh];rfl
  ·rw[<-dE];simp(disch:=omega) only[aE]
 have dc:b4 X [aG] h j aJ (aL+2):=by
  refine⟨Zo,λb ai bQ=> ?_⟩
  rw[<-bU.ac b ai, <-dE]
  simp only[Zt,ZH,YI,Yr,ZG,Ye]at bQ
  simp(disch:=omega) only[aE]
 clear dE bZ bd cg a3 a4 eo bU
 have s5:∃dB,aa X aJ aG=some (.cells dB 2 .own)/\am X aJ (.ptr aG 1)=some (.Z ((i+1:Nat):Int)):=by
  obtain⟨c,aq,cZ,dO,ei,h2⟩:=dt.at_
  exact⟨c,cZ,jS cZ ei⟩
 have fK:=ay.go dt (by omega:j<=aL+1+1)
 refine ka (λK T aS=>∃v,K.g 4=some v/\jH X aG bK aU h j r v T aS) (λY bH=> ?_) (by
  rintro K T aS ⟨v,t4,a⟩
  refine ci @t4 ⟨?_⟩
  exact a)
 rw[Zh (by rw[aF];decide),Zh (by simp[aF]),Zq aF]at Z
 have f6:decide (x.kind=5)=false:=by simp[aF]
 have cJ:decide (x.kind=2)=false:=by simp[aF]
 have cT:decide (x.kind=1)=true:=by simp[aF]
 refine hQ (bJ fx) @iv @f6 @cJ @cT b9.eq_1 ⟨?_⟩
 refine gQ (by simp[H.same,Dx]) ?_
 refine eu (bJ fx) @iv b9.eq_1 ⟨?_⟩
 refine e8 (λaY=>aa X aY (aL+1)=some (.cells (S.ofList (g2 2 x.at_ x.text false dJ 0 .aT) 0 .nil) 9 .own)/\a2 X aY aG bK aU (i+1)/\b4 X [aG] h j aY (aL+1+1+10)) ⟨?_, ?_, ?_⟩ ?_
 ·simp(disch:=omega) only[aE,bh]<;>rfl
 ·exact dt.ac (by simp(disch:=omega) only[aE]) (by simp(disch:=omega) only[aE])
 ·exact⟨Zo,λb ai bQ=>by rw[<-dc.ac b ai bQ];simp(disch:=omega) only[aE]⟩
 clear dt fK dc fx iv s5
 rintro aY ⟨iv,gA,dZ⟩
 have m3:=ay.go gA (by omega:j<=aL+1+1+10)
 rw[<-h6]at Z
 obtain⟨e,gW,CM,aqd⟩:=qA Z
 refine(ny ax m3 CM _).Zm ?_
 rintro D6 bw c7 ⟨rfl,g9,eB⟩
 have ji:=eB.le
 have HS:aa X bw (aL+1)=some (.cells (S.ofList (g2 2 x.at_ x.text false dJ 0 .aT) 0 .nil) 9 .own):=by rw[eB.ac _ Zo (by simp;omega)];exact iv
 have nT:=dZ.trans eB
 rcases aqd with ⟨aI,Z⟩|⟨aI,Z⟩
 ·rw[aI]at g9 ⊢
  simp only[ZD]at g9 ⊢
  rw[<-(fI CM).2]at Z
  simp only[]at Z
  refine ci b9.eq_1 ⟨?_⟩
  refine e8 (λbL=>bj X bw c7 bL (c7+1)) dM ?_
  intro bL dw
  have ob:=m3.go (g9.ex dw Zo Zo) (by omega:aL+1+1+10<=c7+1)
  have dx:=nT.trans (b4.of dw)
  rcases gl Z with ⟨J,cv,rfl⟩|⟨bF,mC,cv,Z⟩
  ·exact((al n Zo).list bL _ _ _ ob cv).mono (λad T ao a=>by obtain⟨F,cy,bk,cL,a,_⟩:=a;cases a) (λad T ao a=>a.of dx (λ_ a=>by cases a;rfl))
  refine((al n Zo).list bL _ _ _ ob cv).mono ?_ (λad T ao a=>by obtain⟨J,a,_⟩:=a;cases a)
  rintro y5 cd er ⟨jN,hW,bk,cL,Qw,cz,Fl,hq,ey⟩
  cases Qw
  have q6:=ey.le
  simp only[ok,Zf]at Z
  subst Z
  have rY:aa X cd (aL+1)=some (.cells (S.ofList (g2 2 x.at_ x.text false dJ 0 .aT) 0 .nil) 9 .own):=by rw[ey.ac _ Zo (by simp;omega),dw.ac _ Zo];exact HS
  have qg:∃w,y5.cells=[w]/\w=y5/\pH y5=true:=by
   have:=cz.len
   cases y5<;>first|exact⟨_,rfl,rfl,rfl⟩|(simp[d8]at this;done)
  obtain⟨w,bP,rfl,my⟩:=qg
  have df:∀cr OV,aa X cr (aL+1)=some (.cells OV 9 .own)->b7 X cr 1 (.ptr (aL+1) 8) w=some (bm X cr (aL+1) (some (.cells (OV.set 8 (some w)) 9 .own))):=λcr OV a=>rt a Zo Zo bP my
  refine ci @rY ⟨?_⟩
  refine fE (df _ _ (bh Zo)) ?_
  refine bH _ _ _ ⟨.ptr (aL+1) 0,bn,_,hW,rfl,cI.of (b:=aL+1) (m:=9) (st:= .own) (cL:=cL) (a8:=w) (kind:=25) (at_:=x.at_) (name:=x.text) (no:=false) (ty:=dJ) (n:=0) (bk:=bk) ?_ ⟨Zo,Zo⟩ ?_ (λbA=> ?_) ?_,hq.ac (by simp(disch:=omega) only[aE]) (by simp(disch:=omega) only[aE]), ?_⟩
  ·simp(disch:=omega) only[aE,bh]<;>rfl
  ·refine(cz.ac (λe I=> ?_)).lift (λe I=>⟨by have:=I.1;omega,I.2⟩)
   have:=I.1
   simp(disch:=omega) only[aE]
  ·have:=(cz.ai (by simpa using bA)).1
   omega
  ·refine dp.lift (λe I=>⟨⟨by have:=I.1.1;omega,by have:=I.1.2;omega⟩,by have:=I.1.1;omega,I.2⟩) _ _ (dp.ac (λe I=> ?_) _ _ Fl)
   have R:=I.1.1
   have U:=I.1.2
   simp(disch:=omega) only[aE]
  ·exact⟨Zo,λb ai bQ=>by rw[<-(dx.trans ey).ac b ai bQ];simp(disch:=omega) only[aE]⟩
 ·rw[aI]at g9 ⊢
  simp only[Zv,ZB]at g9 ⊢
  simp only[ok,Zf]at Z
  subst Z
  refine cM b9.eq_1 g0.eq_1 ⟨?_⟩
  refine bH _ _ _ ⟨.ptr (aL+1) 0,bn,_,i+1,rfl,cI.leaf (b:=aL+1) (m:=9) (st:= .own) ?_ ⟨Zo,Zo⟩,g9.ac (by simp(disch:=omega) only[aE]) (by simp(disch:=omega) only[aE]), ?_⟩
  ·simp(disch:=omega) only[aE];exact HS
  ·exact⟨Zo,λb ai bQ=>by rw[<-nT.ac b ai bQ];simp(disch:=omega) only[aE]⟩
end
section
variable{X:ck}{h T aX aJ:S ak}{j ao aL a6 aG bK:Nat}{aU:List Tok}{i:Nat}
def atq(ax:dv X){n:Nat}(al:∀m,m<n+1->qF X aG bK aU m){r:Except Int (bz×List Tok)}(ay:it X h j aG bK aU i){x:Tok}{l:List Tok}(aH:aU.drop i=x::l)(aF:x.kind=3)(Z:Go.a2.part (n+1) (x::l)=some r):
 aR X 261 [.ptr aG 0] h j (jH X aG bK aU h j r) (iF X aG h j r):=by
 refine c4 (Ah X) (ax.none _ _ rfl) ?_
 rw[Ai]
 unfold xE
 have gL:=ay.a7
 have j3:=ay.hi
 have hT:=ay.fM
 have jz:=ay.gY
 obtain⟨ag,h6⟩:=fI aH
 unfold Go.a2.part at Z
 refine(rm ax ay.a7 ay.par ay.hi ay.gY ag).Zm ?_
 rintro ad aX aL ⟨rfl,bU⟩
 have jB:=bU.le
 have eo:=ay.par.ex bU Zo Zo
 obtain⟨c,aq,bd,cg,a3,a4⟩:=eo.at_
 have bZ:=jS bd a3
 have lk:=(Zc.1 ag).1
 have uM:=ay.many
 have dI:=eo.ne
 have bB:aA .add (.Z (i:Int)) (.Z 1)=some (.Z ((i+1:Nat):Int)):=by rw[eI Zo Zo];rfl
 refine g7 b9.eq_1 @bZ (Za @bB @bd) ⟨?_⟩
 generalize dE:bm X _ aG _=aJ
 have fx:aa X aJ aL=some (.cells (S.ofList (b9 x) 0 .nil) 7 .own):=by rw[<-dE];simp(disch:=omega) only[aE,bh]<;>rfl
 have iv:aa X aJ (aL+1)=some (.cells (S.ofList (g2 0 x.at_ [] false dJ 0 .aT) 0 .nil) 9 .own):=by rw[<-dE];simp(disch:=omega) only[aE,bh]<;>rfl
 have dt:a2 X aJ aG bK aU (i+1):=by
  refine eo.on (c:=dT c 1 [.Z ((i+1:Nat):Int)]) ?_ (λd7 st a=>by rw[bd]at a;cases a;exact qD ..) ?_
  ·rw[<-dE];simp(disch:=omega) only[aE,bh];rfl
  ·rw[<-dE];simp(disch:=omega) only[aE]
 have dc:b4 X [aG] h j aJ (aL+2):=by
  refine⟨Zo,λb ai bQ=> ?_⟩
  rw[<-bU.ac b ai, <-dE]
  simp only[Zt,ZH,YI,Yr,ZG,Ye]at bQ
  simp(disch:=omega) only[aE]
 clear dE bZ bd cg a3 a4 eo bU
 have s5:∃dB,aa X aJ aG=some (.cells dB 2 .own)/\am X aJ (.ptr aG 1)=some (.Z ((i+1:Nat):Int)):=by
  obtain⟨c,aq,cZ,dO,ei,h2⟩:=dt.at_
  exact⟨c,cZ,jS cZ ei⟩
 have fK:=ay.go dt (by omega:j<=aL+1+1)
 refine ka (λK T aS=>∃v,K.g 4=some v/\jH X aG bK aU h j r v T aS) (λY bH=> ?_) (by
  rintro K T aS ⟨v,t4,a⟩
  refine ci @t4 ⟨?_⟩
  exact a)
 rw[Zh (by rw[aF];decide),Zh (by simp[aF]),Zh (by rw[aF];decide),Zq aF]at Z
 have f6:decide (x.kind=5)=false:=by simp[aF]
 have cJ:decide (x.kind=2)=false:=by simp[aF]
 have cT:decide (x.kind=1)=false:=by simp[aF]
 have eT:decide (x.kind=3)=true:=by simp[aF]
 refine ev (bJ fx) @iv @f6 @cJ @cT @eT b9.eq_1 ⟨?_⟩
 refine gQ (by simp[H.same,nw]) ?_
 refine eu (bJ fx) @iv b9.eq_1 ⟨?_⟩
 refine e8 (λaY=>aa X aY (aL+1+1+10)=some (.cells (S.ofList [.str [40]] 0 .nil) 1 .own)/\aa X aY (aL+1)=some (.cells (S.ofList (g2 26 x.at_ [] false x.ty 0 .aT) 0 .nil) 9 .own)/\a2 X aY aG bK aU (i+1)/\b4 X [aG] h j aY (aL+1+1+10+1)) ⟨bh Zo, ?_, ?_, ?_⟩ ?_
 ·simp(disch:=omega) only[aE,bh]<;>rfl
 ·exact dt.ac (by simp(disch:=omega) only[aE]) (by simp(disch:=omega) only[aE])
 ·exact⟨Zo,λb ai bQ=>by rw[<-dc.ac b ai bQ];simp(disch:=omega) only[aE]⟩
 clear dt fK dc fx iv s5
 rintro aY ⟨ap,iv,gA,dZ⟩
 have m3:=ay.go gA (by omega:j<=aL+1+1+10+1)
 rw[<-h6]at Z
 rcases gl Z with ⟨J,aO,rfl⟩|⟨kh,gW,aO,Z⟩
 ·exact(jq ax m3 Zo Zo ap aO).mono (λad T ao a=>by obtain⟨F,cy,a,_⟩:=a;cases a) (λad T ao a=>a.of dZ (λ_ a=>by cases a;rfl))
 refine(jq ax m3 Zo Zo ap aO).mono ?_ (λad T ao a=>by obtain⟨J,a,_⟩:=a;cases a)
 rintro v4 bw c7 ⟨awx,i4,tj,_,g9,eB⟩
 cases tj
 have ji:=eB.le
 have kE:=m3.go g9 ji
 have ye:=dZ.trans eB
 rcases gl Z with ⟨J,bN,rfl⟩|⟨ps,gB,bN,Z⟩
 ·exact((al n Zo).arrow bw _ _ _ kE bN).mono (λad T ao a=>by obtain⟨F,cy,a,_⟩:=a;cases a) (λad T ao a=>a.of ye (λ_ a=>by cases a;rfl))
 refine((al n Zo).arrow bw _ _ _ kE bN).mono ?_ (λad T ao a=>by obtain⟨J,a,_⟩:=a;cases a)
 rintro v5 bL cb ⟨K3,i5,r5,dw,ha,dx⟩
 cases r5
 have hV:=dx.le
 have ob:=kE.go ha hV
 have p7:=ye.trans dx
 obtain⟨me,rfl,q9,_⟩:=dw.ptr
 have q9:=q9.2
 have qX:aa X bL (aL+1)=some (.cells (S.ofList (g2 26 x.at_ [] false x.ty 0 .aT) 0 .nil) 9 .own):=by rw[dx.ac _ Zo (by simp;omega),eB.ac _ Zo (by simp;omega)];exact iv
 refine ci @qX ⟨?_⟩
 refine e8 (λcd=>aa X cd (cb+1)=some (.cells (S.ofList [.str [41]] 0 .nil) 1 .own)/\aa X cd cb=some (.cells (S.ofList [.ptr me 0] 0 .nil) 1 .own)/\aa X cd (aL+1)=some (.cells (S.ofList (g2 26 x.at_ [] false x.ty 0 (.slice cb 0 1 1)) 0 .nil) 9 .own)/\cI X cd (dy c7 cb) ps (.ptr me 0)/\a2 X cd aG bK aU i5/\b4 X [aG] h j cd (cb+1+1)) ⟨bh Zo, ?_, ?_, ?_, ?_, ?_⟩ ?_
 ·simp(disch:=omega) only[aE,bh]<;>rfl
 ·simp(disch:=omega) only[aE,bh]<;>rfl
 ·refine cI.ex dw (λe R U=> ?_) Zo Zo
  simp(disch:=omega) only[aE]
 ·exact ha.ac (by simp(disch:=omega) only[aE]) (by simp(disch:=omega) only[aE])
 ·exact⟨Zo,λb ai bQ=>by rw[<-p7.ac b ai bQ];simp(disch:=omega) only[aE]⟩
 clear dw ha qX dx
 rintro cd ⟨HU,amf,rY,eO,hq,ey⟩
 have md:=ay.go hq (by omega:j<=cb+1+1)
 rcases gl Z with ⟨J,dP,rfl⟩|⟨vY,l9,dP,Z⟩
 ·exact(jq ax md Zo Zo HU dP).mono (λad T ao a=>by obtain⟨F,cy,a,_⟩:=a;cases a) (λad T ao a=>a.of ey (λ_ a=>by cases a;rfl))
 refine(jq ax md Zo Zo HU dP).mono ?_ (λad T ao a=>by obtain⟨J,a,_⟩:=a;cases a)
 rintro Ke cr d9 ⟨awy,oP,ym,_,hD,el⟩
 cases ym
 have mX:=el.le
 simp only[ok,Zf]at Z
 subst Z
 refine bH _ _ _ ⟨.ptr (aL+1) 0,bn,_,oP,rfl,cI.lit (D:=1) (cap:=1) (b:=aL+1) (m:=9) (st:= .own) (hY:= .own) (cL:=cb) (bk:=[.ptr me 0]) ?_ ⟨Zo,Zo⟩ ?_ ⟨Zo,Zo⟩ rfl Zo Zo (dp.one (cI.ac (λe I=> ?_) _ _ eO) (λe I=> ?_)),hD,ey.trans el⟩
 ·rw[el.ac _ Zo (by simp;omega)];exact rY
 ·rw[el.ac _ Zo (by simp;omega)];exact amf
 ·have R:=I.1;have U:=I.2
  exact el.ac e Zo (by simp;omega)
 ·simp only[dy]at I ⊢;omega
end
section
variable{X:ck}{h T aX aJ:S ak}{j ao aL a6 aG bK:Nat}{aU:List Tok}{i:Nat}
def atp(ax:dv X){n:Nat}(al:∀m,m<n+1->qF X aG bK aU m){r:Except Int (bz×List Tok)}(ay:it X h j aG bK aU i){x:Tok}{l:List Tok}(aH:aU.drop i=x::l)(aF:x.kind=6)(be:x.text=[40])(Z:Go.a2.part (n+1) (x::l)=some r):
 aR X 261 [.ptr aG 0] h j (jH X aG bK aU h j r) (iF X aG h j r):=by
 refine c4 (Ah X) (ax.none _ _ rfl) ?_
 rw[Ai]
 unfold xE
 have gL:=ay.a7
 have j3:=ay.hi
 have hT:=ay.fM
 have jz:=ay.gY
 obtain⟨ag,h6⟩:=fI aH
 unfold Go.a2.part at Z
 refine(rm ax ay.a7 ay.par ay.hi ay.gY ag).Zm ?_
 rintro ad aX aL ⟨rfl,bU⟩
 have jB:=bU.le
 have eo:=ay.par.ex bU Zo Zo
 obtain⟨c,aq,bd,cg,a3,a4⟩:=eo.at_
 have bZ:=jS bd a3
 have lk:=(Zc.1 ag).1
 have uM:=ay.many
 have dI:=eo.ne
 have bB:aA .add (.Z (i:Int)) (.Z 1)=some (.Z ((i+1:Nat):Int)):=by rw[eI Zo Zo];rfl
 refine g7 b9.eq_1 @bZ (Za @bB @bd) ⟨?_⟩
 generalize dE:bm X _ aG _=aJ
 have fx:aa X aJ aL=some (.cells (S.ofList (b9 x) 0 .nil) 7 .own):=by rw[<-dE];simp(disch:=omega) only[aE,bh]<;>rfl
 have iv:aa X aJ (aL+1)=some (.cells (S.ofList (g2 0 x.at_ [] false dJ 0 .aT) 0 .nil) 9 .own):=by rw[<-dE];simp(disch:=omega) only[aE,bh]<;>rfl
 have dt:a2 X aJ aG bK aU (i+1):=by
  refine eo.on (c:=dT c 1 [.Z ((i+1:Nat):Int)]) ?_ (λd7 st a=>by rw[bd]at a;cases a;exact qD ..) ?_
  ·rw[<-dE];simp(disch:=omega) only[aE,bh];rfl
  ·rw[<-dE];simp(disch:=omega) only[aE]
 have dc:b4 X [aG] h j aJ (aL+2):=by
  refine⟨Zo,λb ai bQ=> ?_⟩
  rw[<-bU.ac b ai, <-dE]
  simp only[Zt,ZH,YI,Yr,ZG,Ye]at bQ
  simp(disch:=omega) only[aE]
 clear dE bZ bd cg a3 a4 eo bU
 have s5:∃dB,aa X aJ aG=some (.cells dB 2 .own)/\am X aJ (.ptr aG 1)=some (.Z ((i+1:Nat):Int)):=by
  obtain⟨c,aq,cZ,dO,ei,h2⟩:=dt.at_
  exact⟨c,cZ,jS cZ ei⟩
 have fK:=ay.go dt (by omega:j<=aL+1+1)
 refine ka (λK T aS=>∃v,K.g 4=some v/\jH X aG bK aU h j r v T aS) (λY bH=> ?_) (by
  rintro K T aS ⟨v,t4,a⟩
  refine ci @t4 ⟨?_⟩
  exact a)
 rw[Zh (by rw[aF];decide),Zh (by simp[aF]),Zh (by rw[aF];decide),Zh (by rw[aF];decide),Zq (by simp[aF,be])]at Z
 have f6:decide (x.kind=5)=false:=by simp[aF]
 have cJ:decide (x.kind=2)=false:=by simp[aF]
 have cT:decide (x.kind=1)=false:=by simp[aF]
 have eT:decide (x.kind=3)=false:=by simp[aF]
 have iR:decide (x.kind=6)=true:=by simp[aF]
 have HF:decide (x.text=[40])=true:=by simp[be]
 refine ev (bJ fx) @iv @f6 @cJ @cT @eT (Za @iR (Za @HF b9.eq_1)) ⟨?_⟩
 rw[<-h6]at Z
 rcases gl Z with ⟨J,bN,rfl⟩|⟨ps,gB,bN,Z⟩
 ·exact((al n Zo).arrow aJ _ _ _ fK bN).mono (λad T ao a=>by obtain⟨F,cy,a,_⟩:=a;cases a) (λad T ao a=>a.of dc (λ_ a=>by cases a;rfl))
 refine((al n Zo).arrow aJ _ _ _ fK bN).mono ?_ (λad T ao a=>by obtain⟨J,a,_⟩:=a;cases a)
 rintro v5 bL cb ⟨K3,i5,r5,dw,ha,dx⟩
 cases r5
 have hV:=dx.le
 have ob:=fK.go ha hV
 have p7:=dc.trans dx
 refine cH ⟨?_⟩
 refine e8 (λcd=>aa X cd cb=some (.cells (S.ofList [.str [41]] 0 .nil) 1 .own)/\bj X bL cb cd (cb+1)) ⟨bh Zo,dM⟩ ?_
 rintro cd ⟨HU,eO⟩
 have md:=ob.go (ha.ex eO Zo Zo) (by omega:cb<=cb+1)
 have ey:=p7.trans (b4.of eO)
 rcases gl Z with ⟨J,dP,rfl⟩|⟨vY,l9,dP,Z⟩
 ·exact(jq ax md Zo Zo HU dP).mono (λad T ao a=>by obtain⟨F,cy,a,_⟩:=a;cases a) (λad T ao a=>a.of ey (λ_ a=>by cases a;rfl))
 refine(jq ax md Zo Zo HU dP).mono ?_ (λad T ao a=>by obtain⟨J,a,_⟩:=a;cases a)
 rintro Ke cr d9 ⟨awy,oP,ym,_,hD,el⟩
 cases ym
 have mX:=el.le
 simp only[ok,Zf]at Z
 subst Z
 refine bH _ _ _ ⟨v5,bn,_,oP,rfl,cI.ex dw (λe R U=>by rw[el.ac e Zo (by simp;omega),eO.ac e Zo]) Zo Zo,hD,ey.trans el⟩
end
section
variable{X:ck}{h T aX aJ:S ak}{j ao aL a6 aG bK:Nat}{aU:List Tok}{i:Nat}
def atm(ax:dv X){n:Nat}(al:∀m,m<n+1->qF X aG bK aU m){r:Except Int (bz×List Tok)}(ay:it X h j aG bK aU i){x:Tok}{l:List Tok}(aH:aU.drop i=x::l)(aF:x.kind=2)(be:x.text=[109,101,114,103,101])(Z:Go.a2.part (n+1) (x::l)=some r):
 aR X 261 [.ptr aG 0] h j (jH X aG bK aU h j r) (iF X aG h j r):=by
 refine c4 (Ah X) (ax.none _ _ rfl) ?_
 rw[Ai]
 unfold xE
 have gL:=ay.a7
 have j3:=ay.hi
 have hT:=ay.fM
 have jz:=ay.gY
 obtain⟨ag,h6⟩:=fI aH
 unfold Go.a2.part at Z
 refine(rm ax ay.a7 ay.par ay.hi ay.gY ag).Zm ?_
 rintro ad aX aL ⟨rfl,bU⟩
 have jB:=bU.le
 have eo:=ay.par.ex bU Zo Zo
 obtain⟨c,aq,bd,cg,a3,a4⟩:=eo.at_
 have bZ:=jS bd a3
 have lk:=(Zc.1 ag).1
 have uM:=ay.many
 have dI:=eo.ne
 have bB:aA .add (.Z (i:Int)) (.Z 1)=some (.Z ((i+1:Nat):Int)):=by rw[eI Zo Zo];rfl
 refine g7 b9.eq_1 @bZ (Za @bB @bd) ⟨?_⟩
 generalize dE:bm X _ aG _=aJ
 have fx:aa X aJ aL=some (.cells (S.ofList (b9 x) 0 .nil) 7 .own):=by rw[<-dE];simp(disch:=omega) only[aE,bh]<;>rfl
 have iv:aa X aJ (aL+1)=some (.cells (S.ofList (g2 0 x.at_ [] false dJ 0 .aT) 0 .nil) 9 .own):=by rw[<-dE];simp(disch:=omega) only[aE,bh]<;>rfl
 have dt:a2 X aJ aG bK aU (i+1):=by
  refine eo.on (c:=dT c 1 [.Z ((i+1:Nat):Int)]) ?_ (λd7 st a=>by rw[bd]at a;cases a;exact qD ..) ?_
  ·rw[<-dE];simp(disch:=omega) only[aE,bh];rfl
  ·rw[<-dE];simp(disch:=omega) only[aE]
 have dc:b4 X [aG] h j aJ (aL+2):=by
  refine⟨Zo,λb ai bQ=> ?_⟩
  rw[<-bU.ac b ai, <-dE]
  simp only[Zt,ZH,YI,Yr,ZG,Ye]at bQ
  simp(disch:=omega) only[aE]
 clear dE bZ bd cg a3 a4 eo bU
 have s5:∃dB,aa X aJ aG=some (.cells dB 2 .own)/\am X aJ (.ptr aG 1)=some (.Z ((i+1:Nat):Int)):=by
  obtain⟨c,aq,cZ,dO,ei,h2⟩:=dt.at_
  exact⟨c,cZ,jS cZ ei⟩
 have fK:=ay.go dt (by omega:j<=aL+1+1)
 refine ka (λK T aS=>∃v,K.g 4=some v/\jH X aG bK aU h j r v T aS) (λY bH=> ?_) (by
  rintro K T aS ⟨v,t4,a⟩
  refine ci @t4 ⟨?_⟩
  exact a)
 rw[Zh (by rw[aF];decide),Zh (by simp[aF,be]),Zh (by rw[aF];decide),Zh (by rw[aF];decide),Zh (by simp[aF]),Zh (by simp[aF,be]),Zq (by simp[aF,be])]at Z
 have f6:decide (x.kind=5)=false:=by simp[aF]
 have cJ:decide (x.kind=2)=true:=by simp[aF]
 have cT:decide (x.kind=1)=false:=by simp[aF]
 have eT:decide (x.kind=3)=false:=by simp[aF]
 have iR:decide (x.kind=6)=false:=by simp[aF]
 have cB:decide (x.text=[116,114,117,101])=false:=by simp[be]
 have cu:decide (x.text=[102,97,108,115,101])=false:=by simp[be]
 have ee:decide (x.text=[105,102])=false:=by simp[be]
 have fV:decide (x.text=[109,101,114,103,101])=true:=by simp[be]
 refine ev (bJ fx) @iv @f6 @cJ @cT @eT (Za @iR (Za @cB (Za @cu (Za @ee (Za @fV b9.eq_1))))) ⟨?_⟩
 rw[<-h6]at Z
 cases CM:aU.drop (i+1)with
 |nil=>rw[CM]at Z;simp[iB,andThen]at Z
 |cons c gW=>
 rw[CM]at Z
 simp only[iB]at Z
 refine(By ax fK.a7 fK.par fK.fM fK.hi fK.gY fK.many (fI CM).1 1).mono ?_ ?_
 ·rintro D6 bw c7 ⟨f1,rfl,g9,eB⟩
  have ji:=eB.le
  rw[Zq f1]at Z
  simp only[andThen,ok]at Z
  rw[<-(fI CM).2]at Z
  have HS:aa X bw (aL+1)=some (.cells (S.ofList (g2 0 x.at_ [] false dJ 0 .aT) 0 .nil) 9 .own):=by rw[eB.ac _ Zo (by simp;omega)];exact iv
  have ye:=dc.trans eB
  refine cM b9.eq_1 @HS ⟨?_⟩
  refine e8 (λaY=>aa X aY (aL+1)=some (.cells (S.ofList (g2 24 x.at_ c.text false dJ 0 .aT) 0 .nil) 9 .own)/\a2 X aY aG bK aU (i+1+1)/\b4 X [aG] h j aY c7) ⟨?_, ?_, ?_⟩ ?_
  ·simp(disch:=omega) only[aE,bh]<;>rfl
  ·exact g9.ac (by simp(disch:=omega) only[aE]) (by simp(disch:=omega) only[aE])
  ·exact⟨Zo,λb ai bQ=>by rw[<-ye.ac b ai bQ];simp(disch:=omega) only[aE]⟩
  clear HS g9 eB ye iv s5 dt fK dc fx
  rintro aY ⟨iv,gA,dZ⟩
  have m3:=ay.go gA (by omega:j<=c7)
  cases AY:Go.a2.part n (aU.drop (i+1+1))with
  |none=>rw[AY]at Z;cases Z
  |some adw=>
  rw[AY]at Z
  refine((al n Zo).part aY _ _ _ m3 AY).mono ?_ ?_
  ·rintro v5 bL cb ⟨ps,i5,rfl,dw,ha,dx⟩
   simp only[]at Z
   have hV:=dx.le
   have ob:=m3.go ha hV
   have p7:=dZ.trans dx
   cases IL:Go.a2.part n (aU.drop i5)with
   |none=>rw[IL]at Z;cases Z
   |some JQ=>
   rw[IL]at Z
   refine((al n Zo).part bL _ _ _ ob IL).mono ?_ ?_
   ·rintro y5 cd er ⟨HH,hW,rfl,eO,hq,ey⟩
    simp only[Zf]at Z
    subst Z
    have q6:=ey.le
    obtain⟨me,rfl,q9,_⟩:=dw.ptr
    obtain⟨BH,rfl,IP,_⟩:=eO.ptr
    have rY:aa X cd (aL+1)=some (.cells (S.ofList (g2 24 x.at_ c.text false dJ 0 .aT) 0 .nil) 9 .own):=by rw[ey.ac _ Zo (by simp;omega),dx.ac _ Zo (by simp;omega)];exact iv
    refine ci @rY ⟨?_⟩
    refine bH _ _ _ ⟨.ptr (aL+1) 0,bn,_,hW,rfl,cI.lit (D:=2) (cap:=2) (b:=aL+1) (m:=9) (st:= .own) (hY:= .own) (cL:=er) (bk:=[.ptr me 0, .ptr BH 0]) ?_ ⟨Zo,Zo⟩ ?_ ⟨Zo,Zo⟩ rfl Zo Zo (dp.two (cI.ac (λe I=> ?_) _ _ dw) (cI.ac (λe I=> ?_) _ _ eO) (λe I=> ?_) (λe I=> ?_)),hq.ac (by simp(disch:=omega) only[aE]) (by simp(disch:=omega) only[aE]), ?_⟩
    ·simp(disch:=omega) only[aE,bh]<;>rfl
    ·simp(disch:=omega) only[aE,bh]<;>rfl
    ·have R:=I.1;have U:=I.2
     simp(disch:=omega) only[aE]
     exact ey.ac e Zo (by simp;omega)
    ·have R:=I.1;have U:=I.2
     simp(disch:=omega) only[aE]
    ·simp only[dy]at I ⊢;omega
    ·simp only[dy]at I ⊢;omega
    ·exact⟨Zo,λb ai bQ=>by rw[<-(p7.trans ey).ac b ai bQ];simp(disch:=omega) only[aE]⟩
   ·rintro y5 cd er ⟨J,rfl,rfl,ey⟩
    simp only[Zf]at Z
    subst Z
    exact⟨J,rfl,rfl,p7.trans ey⟩
  ·rintro v5 bL cb ⟨J,rfl,rfl,dx⟩
   simp only[Zf]at Z
   subst Z
   exact⟨J,rfl,rfl,dZ.trans dx⟩
 ·rintro D6 bw c7 ⟨f1,rfl,eB⟩
  rw[Zh f1]at Z
  simp only[andThen,bad,Zf]at Z
  subst Z
  exact⟨_,rfl,rfl,dc.trans eB⟩
end
section
variable{X:ck}{h T aX aJ:S ak}{j ao aL a6 aG bK:Nat}{aU:List Tok}{i:Nat}
def Sp(ax:dv X){n:Nat}{r:Except Int (bz×List Tok)}(ay:it X h j aG bK aU i){x:Tok}{l:List Tok}(aH:aU.drop i=x::l)(dG:x.kind≠5)(bZ:x.kind≠1)(c0:x.kind≠3)(dQ:x.kind=6->x.text≠[40])(cw:x.kind=2->x.text≠[116,114,117,101]/\x.text≠[102,97,108,115,101]/\x.text≠[105,102]/\x.text≠[109,101,114,103,101])(Z:Go.a2.part (n+1) (x::l)=some r):
 aR X 261 [.ptr aG 0] h j (jH X aG bK aU h j r) (iF X aG h j r):=by
 refine c4 (Ah X) (ax.none _ _ rfl) ?_
 rw[Ai]
 unfold xE
 have gL:=ay.a7
 have j3:=ay.hi
 have hT:=ay.fM
 have jz:=ay.gY
 obtain⟨ag,h6⟩:=fI aH
 unfold Go.a2.part at Z
 refine(rm ax ay.a7 ay.par ay.hi ay.gY ag).Zm ?_
 rintro ad aX aL ⟨rfl,bU⟩
 have jB:=bU.le
 have eo:=ay.par.ex bU Zo Zo
 obtain⟨c,aq,bd,cg,a3,a4⟩:=eo.at_
 have bZ:=jS bd a3
 have lk:=(Zc.1 ag).1
 have uM:=ay.many
 have dI:=eo.ne
 have bB:aA .add (.Z (i:Int)) (.Z 1)=some (.Z ((i+1:Nat):Int)):=by rw[eI Zo Zo];rfl
 refine g7 b9.eq_1 @bZ (Za @bB @bd) ⟨?_⟩
 generalize dE:bm X _ aG _=aJ
 have fx:aa X aJ aL=some (.cells (S.ofList (b9 x) 0 .nil) 7 .own):=by rw[<-dE];simp(disch:=omega) only[aE,bh]<;>rfl
 have iv:aa X aJ (aL+1)=some (.cells (S.ofList (g2 0 x.at_ [] false dJ 0 .aT) 0 .nil) 9 .own):=by rw[<-dE];simp(disch:=omega) only[aE,bh]<;>rfl
 have dt:a2 X aJ aG bK aU (i+1):=by
  refine eo.on (c:=dT c 1 [.Z ((i+1:Nat):Int)]) ?_ (λd7 st a=>by rw[bd]at a;cases a;exact qD ..) ?_
  ·rw[<-dE];simp(disch:=omega) only[aE,bh];rfl
  ·rw[<-dE];simp(disch:=omega) only[aE]
 have dc:b4 X [aG] h j aJ (aL+2):=by
  refine⟨Zo,λb ai bQ=> ?_⟩
  rw[<-bU.ac b ai, <-dE]
  simp only[Zt,ZH,YI,Yr,ZG,Ye]at bQ
  simp(disch:=omega) only[aE]
 clear dE bZ bd cg a3 a4 eo bU
 have s5:∃dB,aa X aJ aG=some (.cells dB 2 .own)/\am X aJ (.ptr aG 1)=some (.Z ((i+1:Nat):Int)):=by
  obtain⟨c,aq,cZ,dO,ei,h2⟩:=dt.at_
  exact⟨c,cZ,jS cZ ei⟩
 have fK:=ay.go dt (by omega:j<=aL+1+1)
 refine ka (λK T aS=>∃v,K.g 4=some v/\jH X aG bK aU h j r v T aS) (λY bH=> ?_) (by
  rintro K T aS ⟨v,t4,a⟩
  refine ci @t4 ⟨?_⟩
  exact a)
 have IS:r= .error x.at_:=by
  by_cases U:x.kind=2
  ·obtain⟨fy,hu,xh,JH⟩:=cw U
   have cv:¬x.kind=6:=Zo
   rw[Zh dG,Zh (by simp[fy,hu]),Zh bZ,Zh c0,Zh (by simp[cv]),Zh (by simp[xh]),Zh (by simp[JH])]at Z
   simp only[bad,Zf]at Z
   exact Z.symm
  ·by_cases cv:x.kind=6
   ·rw[Zh dG,Zh (by simp[U]),Zh bZ,Zh c0,Zh (by simp[dQ cv]),Zh (by simp[U]),Zh (by simp[U])]at Z
    simp only[bad,Zf]at Z
    exact Z.symm
   ·rw[Zh dG,Zh (by simp[U]),Zh bZ,Zh c0,Zh (by simp[cv]),Zh (by simp[U]),Zh (by simp[U])]at Z
    simp only[bad,Zf]at Z
    exact Z.symm
 subst IS
 have f6:decide (x.kind=5)=false:=by simp[dG]
 have cT:decide (x.kind=1)=false:=by simp[bZ]
 have eT:decide (x.kind=3)=false:=by simp[c0]
 obtain⟨dB,PS,PT⟩:=s5
 have cF:aA .sub (.Z ((i+1:Nat):Int)) (.Z 1)=some (.Z (((i+1:Nat):Int) -1)):=by rw[Bb Zo Zo]
 have fin:∀(aY:S ak) (ah:bG),(∀b,b<j->b∉[aG]->aa X aY b=aa X aJ b)->aR X 206 [.agg (b9 x)] aY (aL+1+1) ah (iF X aG h j (Except.error x.at_:Except Int (bz×List Tok))):=by
  intro aY ah ar
  refine(HN ax Zo x _ ?_).mono (λ_ _ _ a=>a.elim) (λ_ _ _ a=>a)
  intro T ao bS
  have IA:=bS.le
  exact⟨_,rfl,rfl,Zo,λb ai bQ=>by rw[bS.ac b Zo,ar b ai bQ];exact dc.ac b ai bQ⟩
 by_cases U:x.kind=2
 ·obtain⟨fy,hu,xh,JH⟩:=cw U
  have cJ:decide (x.kind=2)=true:=by simp[U]
  have iR:decide (x.kind=6)=false:=by simp[U]
  have cB:decide (x.text=[116,114,117,101])=false:=by simp[fy]
  have cu:decide (x.text=[102,97,108,115,101])=false:=by simp[hu]
  have ee:decide (x.text=[105,102])=false:=by simp[xh]
  have fV:decide (x.text=[109,101,114,103,101])=false:=by simp[JH]
  refine ev (bJ fx) @iv @f6 @cJ @cT @eT (Za @iR (Za @cB (Za @cu (Za @ee (Za @fV (Za b9.eq_1 (Za @PS (Za @PT @cF)))))))) ⟨?_⟩
  refine fin _ _ (λb ai bQ=> ?_)
  simp only[Zt,ZH,YI,Yr,ZG,Ye]at bQ
  simp(disch:=omega) only[aE]
 ·have cJ:decide (x.kind=2)=false:=by simp[U]
  by_cases cv:x.kind=6
  ·have iR:decide (x.kind=6)=true:=by simp[cv]
   have cB:decide (x.text=[40])=false:=by simp[dQ cv]
   refine ev (bJ fx) @iv @f6 @cJ @cT @eT (Za @iR (Za @cB (Za b9.eq_1 (Za @PS (Za @PT @cF))))) ⟨?_⟩
   refine fin _ _ (λb ai bQ=> ?_)
   simp only[Zt,ZH,YI,Yr,ZG,Ye]at bQ
   simp(disch:=omega) only[aE]
  ·have iR:decide (x.kind=6)=false:=by simp[cv]
   refine ev (bJ fx) @iv @f6 @cJ @cT @eT (Za @iR (Za b9.eq_1 (Za @PS (Za @PT @cF)))) ⟨?_⟩
   refine fin _ _ (λb ai bQ=> ?_)
   simp only[Zt,ZH,YI,Yr,ZG,Ye]at bQ
   simp(disch:=omega) only[aE]
end
section
variable{X:ck}{h T aX aJ:S ak}{j ao aL a6 aG bK:Nat}{aU:List Tok}{i:Nat}
def b4.kB{X:ck}{aG:Nat}{h T:S ak}{j ao n:Nat}(a:b4 X [aG] h j T ao)(D:ao<=n):b4 X [aG] h j T n:=⟨ZA a.le D,a.ac⟩
def ks.one{C:aW}{h:S ak}{s:H}{bl:Nat}{l:List H}{cK:List Nat}(a:ks C h s bl l cK):s.cells=[s]/\pH s=true/\H.same 30 s s=true:=by
 rcases a with ⟨rfl,_⟩|⟨b,fk,n,c,rfl,_⟩
 ·exact⟨rfl,rfl,rfl⟩
 ·exact⟨rfl,rfl,by simp[H.same]⟩
def atk(ax:dv X){n:Nat}(al:∀m,m<n+1->qF X aG bK aU m){r:Except Int (bz×List Tok)}(ay:it X h j aG bK aU i){x:Tok}{l:List Tok}(aH:aU.drop i=x::l)(aF:x.kind=2)(be:x.text=[105,102])(Z:Go.a2.part (n+1) (x::l)=some r):
 aR X 261 [.ptr aG 0] h j (jH X aG bK aU h j r) (iF X aG h j r):=by
 refine c4 (Ah X) (ax.none _ _ rfl) ?_
 rw[Ai]
 unfold xE
 have gL:=ay.a7
 have j3:=ay.hi
 have hT:=ay.fM
 have jz:=ay.gY
 obtain⟨ag,h6⟩:=fI aH
 unfold Go.a2.part at Z
 refine(rm ax ay.a7 ay.par ay.hi ay.gY ag).Zm ?_
 rintro ad aX aL ⟨rfl,bU⟩
 have jB:=bU.le
 have eo:=ay.par.ex bU Zo Zo
 obtain⟨c,aq,bd,cg,a3,a4⟩:=eo.at_
 have bZ:=jS bd a3
 have lk:=(Zc.1 ag).1
 have uM:=ay.many
 have dI:=eo.ne
 have bB:aA .add (.Z (i:Int)) (.Z 1)=some (.Z ((i+1:Nat):Int)):=by rw[eI Zo Zo];rfl
 refine g7 b9.eq_1 @bZ (Za @bB @bd) ⟨?_⟩
 generalize dE:bm X _ aG _=aJ
 have fx:aa X aJ aL=some (.cells (S.ofList (b9 x) 0 .nil) 7 .own):=by rw[<-dE];simp(disch:=omega) only[aE,bh]<;>rfl
 have iv:aa X aJ (aL+1)=some (.cells (S.ofList (g2 0 x.at_ [] false dJ 0 .aT) 0 .nil) 9 .own):=by rw[<-dE];simp(disch:=omega) only[aE,bh]<;>rfl
 have dt:a2 X aJ aG bK aU (i+1):=by
  refine eo.on (c:=dT c 1 [.Z ((i+1:Nat):Int)]) ?_ (λd7 st a=>by rw[bd]at a;cases a;exact qD ..) ?_
  ·rw[<-dE];simp(disch:=omega) only[aE,bh];rfl
  ·rw[<-dE];simp(disch:=omega) only[aE]
 have dc:b4 X [aG] h j aJ (aL+2):=by
  refine⟨Zo,λb ai bQ=> ?_⟩
  rw[<-bU.ac b ai, <-dE]
  simp only[Zt,ZH,YI,Yr,ZG,Ye]at bQ
  simp(disch:=omega) only[aE]
 clear dE bZ bd cg a3 a4 eo bU
 have s5:∃dB,aa X aJ aG=some (.cells dB 2 .own)/\am X aJ (.ptr aG 1)=some (.Z ((i+1:Nat):Int)):=by
  obtain⟨c,aq,cZ,dO,ei,h2⟩:=dt.at_
  exact⟨c,cZ,jS cZ ei⟩
 have fK:=ay.go dt (by omega:j<=aL+1+1)
 refine ka (λK T aS=>∃v,K.g 4=some v/\jH X aG bK aU h j r v T aS) (λY bH=> ?_) (by
  rintro K T aS ⟨v,t4,a⟩
  refine ci @t4 ⟨?_⟩
  exact a)
 rw[Zh (by rw[aF];decide),Zh (by simp[aF,be]),Zh (by rw[aF];decide),Zh (by rw[aF];decide),Zh (by simp[aF]),Zq (by simp[aF,be])]at Z
 have f6:decide (x.kind=5)=false:=by simp[aF]
 have cJ:decide (x.kind=2)=true:=by simp[aF]
 have cT:decide (x.kind=1)=false:=by simp[aF]
 have eT:decide (x.kind=3)=false:=by simp[aF]
 have iR:decide (x.kind=6)=false:=by simp[aF]
 have cB:decide (x.text=[116,114,117,101])=false:=by simp[be]
 have cu:decide (x.text=[102,97,108,115,101])=false:=by simp[be]
 have ee:decide (x.text=[105,102])=true:=by simp[be]
 refine ev (bJ fx) @iv @f6 @cJ @cT @eT (Za @iR (Za @cB (Za @cu (Za @ee (Za b9.eq_1 g2.eq_1))))) ⟨?_⟩
 rw[<-h6]at Z
 refine e8 (λaY=>aa X aY (aL+1)=some (.cells (S.ofList (g2 23 x.at_ [] false dJ 0 .aT) 0 .nil) 9 .own)/\a2 X aY aG bK aU (i+1)/\b4 X [aG] h j aY (aL+1+1)) ⟨?_, ?_, ?_⟩ ?_
 ·simp(disch:=omega) only[aE,bh]<;>rfl
 ·exact dt.ac (by simp(disch:=omega) only[aE]) (by simp(disch:=omega) only[aE])
 ·exact⟨Zo,λb ai bQ=>by rw[<-dc.ac b ai bQ];simp(disch:=omega) only[aE]⟩
 clear dt fK dc fx iv s5
 rintro Hc ⟨Xt,aa0,P8⟩
 have abf:gD X Hc .aT 1 [] []:= .inl (.inl ⟨rfl,rfl,rfl⟩)
 have uv:∀e∈([]:List Nat),aL+2<=e/\e<aL+1+1:=by simp
 have aae:dp X Hc (vu (aL+2) (aL+1+1) []) [] []:= .nil
 have apJ:H.same 30 .aT .aT=true:=rfl
 have adi:=ay.go aa0 (by omega:j<=(aL+1+1)+12)
 rcases gl Z with ⟨J,bN,rfl⟩|⟨HI,gB,bN,Z⟩
 ·exact((al n Zo).arrow Hc _ _ _ adi bN).mono (λad T ao a=>by obtain⟨F,cy,a,_⟩:=a;cases a) (λad T ao a=>a.of (b4.kB P8 Zo) (λ_ a=>by cases a;rfl))
 refine((al n Zo).arrow Hc _ _ _ adi bN).mono ?_ (λad T ao a=>by obtain⟨J,a,_⟩:=a;cases a)
 clear bN
 rintro v5 bL cb ⟨K3,aym,r5,dw,ha,dx⟩
 cases r5
 have hV:=dx.le
 have p7:=(b4.kB P8 (by omega:(aL+1+1)<=(aL+1+1)+12)).trans dx
 obtain⟨vs,rfl,q9,_⟩:=dw.ptr
 have q9:=q9.2
 have qX:aa X bL (aL+1)=some (.cells (S.ofList (g2 23 x.at_ [] false dJ 0 H.aT) 0 .nil) 9 .own):=by rw[dx.ac _ Zo (by simp;omega)];exact Xt
 have oT:∀e,aL+2<=e->e<(aL+1+1)->aa X bL e=aa X Hc e:=λe R U=>dx.ac e Zo (by simp;omega)
 have oM:=abf.ac (T:=bL) (λe I=>oT e (uv e I).1 (uv e I).2)
 have uA:=dp.ac (T:=bL) (λe I=>oT e I.1 I.2.1) _ _ aae
 clear oT
 refine cM (bJ qX) g2.eq_1 ⟨?_⟩
 refine gQ apJ ?_
 have j8:k8 X (bm X bL ((aL+1+1)+7) (some (.cells (S.ofList [.ptr vs 0] 0 .nil) 1 .own))) 1 (.slice ((aL+1+1)+7) 0 1 1)=some (1,[.ptr vs 0]):=rs (bh Zo) (n4 _) rfl _
 obtain⟨JW,cd,EC,ic,sf,q3,nY⟩:=(oM.ac (T:=bm X bL ((aL+1+1)+7) (some (.cells (S.ofList [.ptr vs 0] 0 .nil) 1 .own))) (λe I=>aE Zo (by have:=(uv e I).2;omega))).append (j:=cb) Zd j8 rfl Zd rfl Zs Zo (λe I=>by have:=(uv e I).2;omega)
 refine kG ic ?_
 have dQ:∀e,e<cb->e∉([]:List Nat)->e≠(aL+1+1)+7->aa X cd e=aa X bL e:=λe R U ar=>by
  rw[nY e Zo U,aE Zo ar]
 have rY:aa X cd (aL+1)=some (.cells (S.ofList (g2 23 x.at_ [] false dJ 0 H.aT) 0 .nil) 9 .own):=by
  rw[dQ _ Zo (λa=>by have:=uv _ a;omega) Zo];exact qX
 obtain⟨qg,AW,apK⟩:=ks.one sf
 refine cH ⟨?_⟩
 refine fE (rt rY Zo Zo qg AW) ?_
 have qa:∀e∈EC,aL+2<=e/\e<cb+1:=by
  intro e I
  rcases q3 e I with rfl|I
  ·omega
  ·have:=uv e I;omega
 have CR:dp X cd (vu (aL+2) (cb+1) EC) ([]++[HI]) ([]++[.ptr vs 0]):=by
  refine dp.snoc (cI.ac (λe I=> ?_) _ _ dw) (dp.ac (λe I=> ?_) _ _ uA) (λe I=>⟨I.1,by have:=I.2.1;omega,λgc=> ?_⟩) (λe I=>⟨⟨by have:=I.1;omega,by have:=I.2;omega,λgc=> ?_⟩,λoO=>by have:=I.1;have:=oO.2.1;omega⟩)
  ·have R:=I.1
   exact dQ e I.2 (λgc=>by have:=uv e gc;omega) Zo
  ·have U:=I.2.1
   exact dQ e Zo I.2.2 Zo
  ·have U:=I.2.1
   rcases q3 e gc with rfl|gc
   ·omega
   ·exact I.2.2 gc
  ·have R:=I.1;have U:=I.2
   rcases q3 e gc with rfl|gc
   ·omega
   ·have:=uv e gc;omega
 have ey:b4 X [aG] h j cd (cb+1):=⟨Zo,λb ai bQ=>by
  rw[dQ b Zo (λF=>by have:=uv _ F;omega) Zo];exact p7.ac b ai bQ⟩
 have hq:=ha.ac (dQ aG Zo (λF=>by have:=uv _ F;omega) Zo) (dQ bK Zo (λF=>by have:=uv _ F;omega) Zo)
 clear uA dw ha dx p7 qX oM j8 ic nY q3 qg AW aae Xt abf aa0 P8
 refine cH ⟨?_⟩
 refine e8 (λcr=>aa X cr (cb+1)=some (.cells (S.ofList [.str [116,104,101,110]] 0 .nil) 1 .own)/\aa X cr (aL+1)=some (.cells (S.ofList (g2 23 x.at_ [] false dJ 0 JW) 0 .nil) 9 .own)/\(∀e,e<cb+1->e≠aL+1->aa X cr e=aa X cd e)) ⟨bh Zo, ?_, ?_⟩ ?_
 ·simp(disch:=omega) only[aE,bh]<;>rfl
 ·intro e R U
  simp(disch:=omega) only[aE]
 clear rY
 rintro cr ⟨Cv,HT,gm⟩
 have hD:=hq.ac (gm aG Zo Zo) (gm bK Zo Zo)
 have m4:=ay.go hD (by omega:j<=cb+1+1)
 have el:b4 X [aG] h j cr (cb+1+1):=⟨Zo,λb ai bQ=>by rw[gm b Zo Zo];exact ey.ac b ai bQ⟩
 rcases gl Z with ⟨J,fq,rfl⟩|⟨y7,n5,fq,Z⟩
 ·exact(jq ax m4 Zo Zo Cv fq).mono (λad T ao a=>by obtain⟨F,cy,a,_⟩:=a;cases a) (λad T ao a=>a.of el (λ_ a=>by cases a;rfl))
 refine(jq ax m4 Zo Zo Cv fq).mono ?_ (λad T ao a=>by obtain⟨J,a,_⟩:=a;cases a)
 clear fq
 rintro GV tU xa ⟨awz,ayk,CP,_,aa1,gz⟩
 cases CP
 have axy:=gz.le
 have P9:=el.trans gz
 have PL:aa X tU (aL+1)=some (.cells (S.ofList (g2 23 x.at_ [] false dJ 0 JW) 0 .nil) 9 .own):=by rw[gz.ac _ Zo (by simp;omega)];exact HT
 have d0:∀e,aL+2<=e->e<cb+1->aa X tU e=aa X cd e:=λe R U=>by
  rw[gz.ac e Zo (by simp;omega),gm e U Zo]
 have abg:gD X tU JW 1 ([]++[.ptr vs 0]) EC:= .inl (sf.ac (λe I=>d0 e (qa e I).1 (qa e I).2))
 have aaf:dp X tU (vu (aL+2) xa EC) ([]++[HI]) ([]++[.ptr vs 0]):=
  dp.lift (λe I=>⟨I.1,by have:=I.2.1;omega,I.2.2⟩) _ _ (dp.ac (λe I=>d0 e I.1 I.2.1) _ _ CR)
 have qa:∀e∈EC,aL+2<=e/\e<xa:=λe I=>by have:=qa e I;omega
 clear CR sf hq ey hD m4 el gz Cv HT gm dQ d0
 refine cM (bJ PL) g2.eq_1 ⟨?_⟩
 have adj:=ay.go aa1 (by omega:j<=xa+12)
 rcases gl Z with ⟨J,bN,rfl⟩|⟨Pl,gB,bN,Z⟩
 ·exact((al n Zo).arrow tU _ _ _ adj bN).mono (λad T ao a=>by obtain⟨F,cy,a,_⟩:=a;cases a) (λad T ao a=>a.of (b4.kB P9 Zo) (λ_ a=>by cases a;rfl))
 refine((al n Zo).arrow tU _ _ _ adj bN).mono ?_ (λad T ao a=>by obtain⟨J,a,_⟩:=a;cases a)
 clear bN
 rintro v5 bL cb ⟨K3,ayn,r5,dw,ha,dx⟩
 cases r5
 have hV:=dx.le
 have p7:=(b4.kB P9 (by omega:xa<=xa+12)).trans dx
 obtain⟨BI,rfl,q9,_⟩:=dw.ptr
 have q9:=q9.2
 have qX:aa X bL (aL+1)=some (.cells (S.ofList (g2 23 x.at_ [] false dJ 0 JW) 0 .nil) 9 .own):=by rw[dx.ac _ Zo (by simp;omega)];exact PL
 have oT:∀e,aL+2<=e->e<xa->aa X bL e=aa X tU e:=λe R U=>dx.ac e Zo (by simp;omega)
 have oM:=abg.ac (T:=bL) (λe I=>oT e (qa e I).1 (qa e I).2)
 have uA:=dp.ac (T:=bL) (λe I=>oT e I.1 I.2.1) _ _ aaf
 clear oT
 refine cM (bJ qX) g2.eq_1 ⟨?_⟩
 refine gQ apK ?_
 have j8:k8 X (bm X bL (xa+7) (some (.cells (S.ofList [.ptr BI 0] 0 .nil) 1 .own))) 1 (.slice (xa+7) 0 1 1)=some (1,[.ptr BI 0]):=rs (bh Zo) (n4 _) rfl _
 obtain⟨DU,cd,ED,ic,sf,q3,nY⟩:=(oM.ac (T:=bm X bL (xa+7) (some (.cells (S.ofList [.ptr BI 0] 0 .nil) 1 .own))) (λe I=>aE Zo (by have:=(qa e I).2;omega))).append (j:=cb) Zd j8 rfl Zd rfl Zs Zo (λe I=>by have:=(qa e I).2;omega)
 refine kG ic ?_
 have dQ:∀e,e<cb->e∉EC->e≠xa+7->aa X cd e=aa X bL e:=λe R U ar=>by
  rw[nY e Zo U,aE Zo ar]
 have rY:aa X cd (aL+1)=some (.cells (S.ofList (g2 23 x.at_ [] false dJ 0 JW) 0 .nil) 9 .own):=by
  rw[dQ _ Zo (λa=>by have:=qa _ a;omega) Zo];exact qX
 obtain⟨qg,AW,apL⟩:=ks.one sf
 refine cH ⟨?_⟩
 refine fE (rt rY Zo Zo qg AW) ?_
 have qb:∀e∈ED,aL+2<=e/\e<cb+1:=by
  intro e I
  rcases q3 e I with rfl|I
  ·omega
  ·have:=qa e I;omega
 have CR:dp X cd (vu (aL+2) (cb+1) ED) (([]++[HI])++[Pl]) (([]++[.ptr vs 0])++[.ptr BI 0]):=by
  refine dp.snoc (cI.ac (λe I=> ?_) _ _ dw) (dp.ac (λe I=> ?_) _ _ uA) (λe I=>⟨I.1,by have:=I.2.1;omega,λgc=> ?_⟩) (λe I=>⟨⟨by have:=I.1;omega,by have:=I.2;omega,λgc=> ?_⟩,λoO=>by have:=I.1;have:=oO.2.1;omega⟩)
  ·have R:=I.1
   exact dQ e I.2 (λgc=>by have:=qa e gc;omega) Zo
  ·have U:=I.2.1
   exact dQ e Zo I.2.2 Zo
  ·have U:=I.2.1
   rcases q3 e gc with rfl|gc
   ·omega
   ·exact I.2.2 gc
  ·have R:=I.1;have U:=I.2
   rcases q3 e gc with rfl|gc
   ·omega
   ·have:=qa e gc;omega
 have ey:b4 X [aG] h j cd (cb+1):=⟨Zo,λb ai bQ=>by
  rw[dQ b Zo (λF=>by have:=qa _ F;omega) Zo];exact p7.ac b ai bQ⟩
 have hq:=ha.ac (dQ aG Zo (λF=>by have:=qa _ F;omega) Zo) (dQ bK Zo (λF=>by have:=qa _ F;omega) Zo)
 clear uA dw ha dx p7 qX oM j8 ic nY q3 qg AW aaf PL abg aa1 P9
 refine cH ⟨?_⟩
 refine e8 (λcr=>aa X cr (cb+1)=some (.cells (S.ofList [.str [101,108,115,101]] 0 .nil) 1 .own)/\aa X cr (aL+1)=some (.cells (S.ofList (g2 23 x.at_ [] false dJ 0 DU) 0 .nil) 9 .own)/\(∀e,e<cb+1->e≠aL+1->aa X cr e=aa X cd e)) ⟨bh Zo, ?_, ?_⟩ ?_
 ·simp(disch:=omega) only[aE,bh]<;>rfl
 ·intro e R U
  simp(disch:=omega) only[aE]
 clear rY
 rintro cr ⟨Cv,HT,gm⟩
 have hD:=hq.ac (gm aG Zo Zo) (gm bK Zo Zo)
 have m4:=ay.go hD (by omega:j<=cb+1+1)
 have el:b4 X [aG] h j cr (cb+1+1):=⟨Zo,λb ai bQ=>by rw[gm b Zo Zo];exact ey.ac b ai bQ⟩
 rcases gl Z with ⟨J,fq,rfl⟩|⟨y7,n5,fq,Z⟩
 ·exact(jq ax m4 Zo Zo Cv fq).mono (λad T ao a=>by obtain⟨F,cy,a,_⟩:=a;cases a) (λad T ao a=>a.of el (λ_ a=>by cases a;rfl))
 refine(jq ax m4 Zo Zo Cv fq).mono ?_ (λad T ao a=>by obtain⟨J,a,_⟩:=a;cases a)
 clear fq
 rintro GV B1 xb ⟨awz,ayl,CP,_,aa2,gz⟩
 cases CP
 have axz:=gz.le
 have Qa:=el.trans gz
 have PM:aa X B1 (aL+1)=some (.cells (S.ofList (g2 23 x.at_ [] false dJ 0 DU) 0 .nil) 9 .own):=by rw[gz.ac _ Zo (by simp;omega)];exact HT
 have d0:∀e,aL+2<=e->e<cb+1->aa X B1 e=aa X cd e:=λe R U=>by
  rw[gz.ac e Zo (by simp;omega),gm e U Zo]
 have abh:gD X B1 DU 1 (([]++[.ptr vs 0])++[.ptr BI 0]) ED:= .inl (sf.ac (λe I=>d0 e (qb e I).1 (qb e I).2))
 have aag:dp X B1 (vu (aL+2) xb ED) (([]++[HI])++[Pl]) (([]++[.ptr vs 0])++[.ptr BI 0]):=
  dp.lift (λe I=>⟨I.1,by have:=I.2.1;omega,I.2.2⟩) _ _ (dp.ac (λe I=>d0 e I.1 I.2.1) _ _ CR)
 have qb:∀e∈ED,aL+2<=e/\e<xb:=λe I=>by have:=qb e I;omega
 clear CR sf hq ey hD m4 el gz Cv HT gm dQ d0
 refine cM (bJ PM) g2.eq_1 ⟨?_⟩
 have adk:=ay.go aa2 (by omega:j<=xb+12)
 rcases gl Z with ⟨J,bN,rfl⟩|⟨akI,gB,bN,Z⟩
 ·exact((al n Zo).arrow B1 _ _ _ adk bN).mono (λad T ao a=>by obtain⟨F,cy,a,_⟩:=a;cases a) (λad T ao a=>a.of (b4.kB Qa Zo) (λ_ a=>by cases a;rfl))
 refine((al n Zo).arrow B1 _ _ _ adk bN).mono ?_ (λad T ao a=>by obtain⟨J,a,_⟩:=a;cases a)
 clear bN
 rintro v5 bL cb ⟨K3,aqm,r5,dw,ha,dx⟩
 cases r5
 have hV:=dx.le
 have p7:=(b4.kB Qa (by omega:xb<=xb+12)).trans dx
 obtain⟨JN,rfl,q9,_⟩:=dw.ptr
 have q9:=q9.2
 have qX:aa X bL (aL+1)=some (.cells (S.ofList (g2 23 x.at_ [] false dJ 0 DU) 0 .nil) 9 .own):=by rw[dx.ac _ Zo (by simp;omega)];exact PM
 have oT:∀e,aL+2<=e->e<xb->aa X bL e=aa X B1 e:=λe R U=>dx.ac e Zo (by simp;omega)
 have oM:=abh.ac (T:=bL) (λe I=>oT e (qb e I).1 (qb e I).2)
 have uA:=dp.ac (T:=bL) (λe I=>oT e I.1 I.2.1) _ _ aag
 clear oT
 refine cM (bJ qX) g2.eq_1 ⟨?_⟩
 refine gQ apL ?_
 have j8:k8 X (bm X bL (xb+7) (some (.cells (S.ofList [.ptr JN 0] 0 .nil) 1 .own))) 1 (.slice (xb+7) 0 1 1)=some (1,[.ptr JN 0]):=rs (bh Zo) (n4 _) rfl _
 obtain⟨SI,cd,OP,ic,sf,q3,nY⟩:=(oM.ac (T:=bm X bL (xb+7) (some (.cells (S.ofList [.ptr JN 0] 0 .nil) 1 .own))) (λe I=>aE Zo (by have:=(qb e I).2;omega))).append (j:=cb) Zd j8 rfl Zd rfl Zs Zo (λe I=>by have:=(qb e I).2;omega)
 refine kG ic ?_
 have dQ:∀e,e<cb->e∉ED->e≠xb+7->aa X cd e=aa X bL e:=λe R U ar=>by
  rw[nY e Zo U,aE Zo ar]
 have rY:aa X cd (aL+1)=some (.cells (S.ofList (g2 23 x.at_ [] false dJ 0 DU) 0 .nil) 9 .own):=by
  rw[dQ _ Zo (λa=>by have:=qb _ a;omega) Zo];exact qX
 obtain⟨qg,AW,ax8⟩:=ks.one sf
 refine cH ⟨?_⟩
 refine fE (rt rY Zo Zo qg AW) ?_
 have ν:∀e∈OP,aL+2<=e/\e<cb+1:=by
  intro e I
  rcases q3 e I with rfl|I
  ·omega
  ·have:=qb e I;omega
 have CR:dp X cd (vu (aL+2) (cb+1) OP) (([]++[HI]++[Pl])++[akI]) (([]++[.ptr vs 0]++[.ptr BI 0])++[.ptr JN 0]):=by
  refine dp.snoc (cI.ac (λe I=> ?_) _ _ dw) (dp.ac (λe I=> ?_) _ _ uA) (λe I=>⟨I.1,by have:=I.2.1;omega,λgc=> ?_⟩) (λe I=>⟨⟨by have:=I.1;omega,by have:=I.2;omega,λgc=> ?_⟩,λoO=>by have:=I.1;have:=oO.2.1;omega⟩)
  ·have R:=I.1
   exact dQ e I.2 (λgc=>by have:=qb e gc;omega) Zo
  ·have U:=I.2.1
   exact dQ e Zo I.2.2 Zo
  ·have U:=I.2.1
   rcases q3 e gc with rfl|gc
   ·omega
   ·exact I.2.2 gc
  ·have R:=I.1;have U:=I.2
   rcases q3 e gc with rfl|gc
   ·omega
   ·have:=qb e gc;omega
 have ey:b4 X [aG] h j cd (cb+1):=⟨Zo,λb ai bQ=>by
  rw[dQ b Zo (λF=>by have:=qb _ F;omega) Zo];exact p7.ac b ai bQ⟩
 have hq:=ha.ac (dQ aG Zo (λF=>by have:=qb _ F;omega) Zo) (dQ bK Zo (λF=>by have:=qb _ F;omega) Zo)
 clear uA dw ha dx p7 qX oM j8 ic nY q3 qg AW aag PM abh aa2 Qa
 simp only[ok,Zf]at Z
 subst Z
 have gV:∀e,e≠aL+1->aa X (bm X cd (aL+1) (some (.cells ((S.ofList (g2 23 x.at_ [] false dJ 0 DU) 0 .nil).set 8 (some SI)) 9 .own))) e=aa X cd e:=λe a=>aE Zo a
 obtain⟨cL,cz⟩:=(gD.ac (T:=bm X cd (aL+1) (some (.cells ((S.ofList (g2 23 x.at_ [] false dJ 0 DU) 0 .nil).set 8 (some SI)) 9 .own))) (.inl sf) (λe I=>gV e (by have:=ν e I;omega))).Gy (P:=λe=>dy (aL+2) (cb+1) e/\e∈OP) Zs (λe I=>⟨by have:=ν e I;exact⟨Zo,Zo⟩,I⟩)
 refine bH _ _ _ ⟨.ptr (aL+1) 0,bn,_,aqm,rfl,cI.of (b:=aL+1) (m:=9) (st:= .own) (cL:=cL) (a8:=SI) (kind:=23) (at_:=x.at_) (name:=[]) (no:=false) (ty:=dJ) (n:=0) (bk:=[.ptr vs 0, .ptr BI 0, .ptr JN 0]) ?_ ⟨Zo,Zo⟩ (cz.lift (λe I=>⟨by have:=I.1.1;omega,I.1.2⟩)) (λ_=> ?_) ?_, ?_, ?_⟩
 ·rw[bh Zo];rfl
 ·have:=(cz.ai Zs).1.1
  omega
 ·exact dp.lift (λe I=>⟨⟨by have:=I.1.1;omega,by have:=I.1.2;omega⟩,by have:=I.1.1;omega,I.2⟩) _ _ (dp.off (dp.ac (λe I=>gV e (by have:=I.1;omega)) _ _ CR) cz)
 ·exact hq.ac (gV _ Zo) (gV _ Zo)
 ·exact⟨ey.le,λb ai bQ=>by rw[gV b Zo];exact ey.ac b ai bQ⟩
end
section
variable{X:ck}{h T aX aJ:S ak}{j ao aL a6 aG bK:Nat}{aU:List Tok}{i:Nat}
def ato(ax:dv X){n:Nat}(r9:n<=300000)(al:∀m,m<n->qF X aG bK aU m):∀h j i r,it X h j aG bK aU i->Go.a2.part n (aU.drop i)=some r->aR X 261 [.ptr aG 0] h j (jH X aG bK aU h j r) (iF X aG h j r):=by
 intro h j i r ay Z
 cases n with
 |zero=>simp[Go.a2.part]at Z
 |succ n=>
 cases aH:aU.drop i with
 |nil=>rw[aH]at Z;simp[Go.a2.part]at Z
 |cons x l=>
 rw[aH]at Z
 by_cases dG:x.kind=5
 ·exact atl ax ay aH dG Z
 by_cases bZ:x.kind=1
 ·exact atn ax al ay aH Zo bZ Z
 by_cases c0:x.kind=3
 ·exact atq ax al ay aH c0 Z
 by_cases dQ:x.kind=6
 ·by_cases be:x.text=[40]
  ·exact atp ax al ay aH dQ be Z
  ·exact Sp ax ay aH dG bZ c0 (λ_=>be) (λa=>Zo) Z
 by_cases cw:x.kind=2
 ·by_cases R:x.text=[116,114,117,101]
  ·exact ac9 ax ay aH cw (.inl R) Z
  by_cases U:x.text=[102,97,108,115,101]
  ·exact ac9 ax ay aH cw (.inr U) Z
  by_cases ar:x.text=[105,102]
  ·exact atk ax al ay aH cw ar Z
  by_cases aO:x.text=[109,101,114,103,101]
  ·exact atm ax al ay aH cw aO Z
  ·exact Sp ax ay aH dG bZ c0 (λa=>Zo) (λ_=>⟨R,U,ar,aO⟩) Z
 ·exact Sp ax ay aH dG bZ c0 (λa=>Zo) (λa=>absurd a cw) Z
def VN(ax:dv X)(eK:v8 X):∀n,n<=300000->qF X aG bK aU n:=by
 intro n
 induction n using Nat.strongRecOn with
 |ind n al=>
  intro aK
  have al:∀m,m<n->qF X aG bK aU m:=λm bp=>al m bp Zo
  exact⟨arF ax eK al,auQ ax al,atB ax al,ato ax aK al,alv ax al,ajj ax al,arP ax aK al⟩
end
def I9(n:Int):H:= .Z n
def tT(X:ck)(h:S ak)(hG aM:Nat)(left:List bx)(dg:List Int):Prop:=hG<aM/\(q X).a7<=hG/\∃c a8 mf EB wm,aa X h hG=some (.cells c 4 .own)/\c.get 0=some a8/\c.get 1=some mf/\gD X h a8 1 (left.map .str) EB/\gD X h mf 1 (dg.map I9) wm
 /\(∀e∈EB,hG<e/\e<aM/\e∉wm)/\∀e∈wm,hG<e/\e<aM
def tT.ac{X:ck}{h T:S ak}{hG aM kX:Nat}{left:List bx}{dg:List Int}(a:tT X h hG aM left dg)(D:∀e,hG<=e->e<aM->aa X T e=aa X h e)(gb:aM<=kX):tT X T hG kX left dg:=by
 obtain⟨cj,Cy,c,a8,mf,EB,wm,R,U,ar,aO,bN,cv,dP⟩:=a
 exact⟨Zo,Cy,c,a8,mf,EB,wm,by rw[D hG Zo cj];exact R,U,ar,aO.ac (λe I=>D e (by have:=cv e I;omega) (cv e I).2.1),bN.ac (λe I=>D e (by have:=dP e I;omega) (dP e I).2),
  λe I=>by have:=cv e I;exact⟨this.1,Zo,this.2.2⟩,λe I=>by have:=dP e I;omega⟩
def gD.one{C:aW}{h:S ak}{s:H}{bl:Nat}{l:List H}{cK:List Nat}(a:gD C h s bl l cK):s.cells=[s]/\pH s=true/\H.same 30 s s=true:=by
 rcases a with a|⟨b,n,c,st,rfl,_⟩
 ·exact ks.one a
 ·exact⟨rfl,rfl,by simp[H.same]⟩
section
variable{X:ck}{h T aX aJ:S ak}{j ao aL a6 aG bK:Nat}{aU:List Tok}{i:Nat}
def Sf(ax:dv X)(ay:it X h j aG bK aU i){iC hG:Nat}(IL:iC<hG)(axY:iC≠aG)(anT:aG<hG)(anU:bK<hG)(apm:am X h (.ptr iC 0)=some (.ptr aG 0)){left:List bx}{dg:List Int}(cl:tT X h hG j left dg)(bp:left.length<=1000000)(CV:dg.length<=300000){x:Tok}{l:List Tok}(aH:aU.drop i=x::l):
 aR X 207 [.ptr iC 0, .ptr hG 0] h j (λad T ao=>x.kind=1/\ad= .tuple []/\tT X T hG ao (left++[x.text]) (dg++[x.at_])/\a2 X T aG bK aU (i+1)/\j<=ao/\b4 X [aG] h hG T ao)
  (λad T ao=>x.kind≠1/\ad=oz 21 x.at_/\b4 X [aG] h j T ao):=by
 refine c4 (ag0 X) (ax.none _ _ rfl) ?_
 rw[ag1]
 unfold UG
 have gL:=ay.a7
 have j3:=ay.hi
 have hT:=ay.fM
 have jz:=ay.gY
 refine ci @apm ⟨?_⟩
 refine(By ax ay.a7 ay.par ay.fM ay.hi ay.gY ay.many (fI aH).1 1).mono ?_ (λad T ao a=>a)
 rintro ad aX aL ⟨aF,rfl,eo,h3⟩
 have jB:=h3.le
 have hE:=cl.ac (T:=aX) (kX:=aL) (λe R U=>h3.ac e U (by simp;omega)) jB
 have ax4:=cl.1
 clear cl
 obtain⟨cj,Cy,c,a8,mf,EB,wm,b3,b2,cQ,d1,fA,dU,eN⟩:=hE
 obtain⟨gH,mG,rp⟩:=gD.one d1
 obtain⟨Gn,Bv,ss⟩:=gD.one fA
 refine gp b9.eq_1 (bJ b3) @b2 @cQ ⟨?_⟩
 have j8:∀gv,aa X gv (aL+1+4)=some (.cells (S.ofList [.str x.text] 0 .nil) 1 .own)->k8 X gv 1 (.slice (aL+1+4) 0 1 1)=some (1,[.str x.text]):=λgv a=>rs a (n4 _) rfl _
 have apR:∀gv,aa X gv (aL+1+10)=some (.cells (S.ofList [.Z x.at_] 0 .nil) 1 .own)->k8 X gv 1 (.slice (aL+1+10) 0 1 1)=some (1,[.Z x.at_]):=λgv a=>rs a (n4 _) rfl _
 generalize fd:bm X _ (aL+1+10) _=aY
 have c0:∀e,e<aL->aa X aY e=aa X aX e:=λe I=>by rw[<-fd];simp(disch:=omega) only[aE]
 have t3:aa X aY aL=some (.cells (S.ofList (b9 x) 0 .nil) 7 .own):=by rw[<-fd];simp(disch:=omega) only[aE,bh]<;>rfl
 have fp:aa X aY (aL+1+4)=some (.cells (S.ofList [.str x.text] 0 .nil) 1 .own):=by rw[<-fd];simp(disch:=omega) only[aE,bh]<;>rfl
 have jw:aa X aY (aL+1+10)=some (.cells (S.ofList [.Z x.at_] 0 .nil) 1 .own):=by rw[<-fd];simp(disch:=omega) only[aE,bh]<;>rfl
 clear fd
 obtain⟨fs,bw,V4,ic,se,ut,f1⟩:=(d1.ac (T:=aY) (λe I=>c0 e (dU e I).2.1)).append (j:=aL+1+16) Zd (j8 aY fp) rfl Zd rfl (by simp;omega) Zo (λe I=>by have:=(dU e I).2.1;omega)
 refine kG ic ?_
 have fV:aa X bw hG=some (.cells c 4 .own):=by rw[f1 _ Zo (λa=>by have:=(dU _ a).1;omega),c0 _ cj];exact b3
 have t4:aa X bw aL=some (.cells (S.ofList (b9 x) 0 .nil) 7 .own):=by rw[f1 _ Zo (λa=>by have:=(dU _ a).2.1;omega)];exact t3
 have ox:aa X bw (aL+1+10)=some (.cells (S.ofList [.Z x.at_] 0 .nil) 1 .own):=by rw[f1 _ Zo (λa=>by have:=(dU _ a).2.1;omega)];exact jw
 refine cM (bJ fV) @cQ ⟨?_⟩
 refine gQ ss ?_
 refine cM (bJ t4) b9.eq_1 ⟨?_⟩
 refine gQ (o7 _ _) ?_
 have al5:gD X bw mf 1 (dg.map I9) wm:=fA.ac (λe I=>by
  rw[f1 e (by have:=eN e I;omega) (λa=>(dU e a).2.2 I)]
  exact c0 e (eN e I).2)
 obtain⟨SJ,bL,OO,anG,oM,uu,lK⟩:=al5.append (j:=aL+1+16+1) Zd (apR bw ox) rfl Zd rfl (by simp;omega) Zo (λe I=>by have:=(eN e I).2;omega)
 refine kG anG ?_
 obtain⟨fy,hu,xh⟩:=ks.one se
 obtain⟨JH,as9,ayL⟩:=ks.one oM
 have me:aa X bL hG=some (.cells c 4 .own):=by rw[lK _ Zo (λa=>by have:=(eN _ a).1;omega)];exact fV
 refine fE (rt me Zo Zo fy hu) ?_
 refine cH ⟨?_⟩
 refine fE (rt (bh Zo) Zo Zo JH as9) ?_
 have abR:∀e∈V4,hG<e/\e<aL+1+16+1+1/\e∉OO:=by
  intro e I
  rcases ut e I with rfl|I
  ·refine⟨Zo,Zo,λa=> ?_⟩
   rcases uu _ a with a|a
   ·omega
   ·have:=eN _ a;omega
  ·obtain⟨bd,cg,a3⟩:=dU e I
   refine⟨Zo,Zo,λa=> ?_⟩
   rcases uu _ a with a|a
   ·omega
   ·exact a3 a
 have abS:∀e∈OO,hG<e/\e<aL+1+16+1+1:=by
  intro e I
  rcases uu e I with rfl|I
  ·omega
  ·have:=eN e I;omega
 have gm:∀gv,gv=bm X (bm X bL hG (some (.cells (c.set 0 (some fs)) 4 .own))) hG (some (.cells ((c.set 0 (some fs)).set 1 (some SJ)) 4 .own))->∀e,e≠hG->aa X gv e=aa X bL e:=by
  rintro gv rfl e I
  rw[aE Zo I,aE Zo I]
 refine⟨aF,rfl,⟨Zo,Cy,(c.set 0 (some fs)).set 1 (some SJ),fs,SJ,V4,OO,bh Zo, ?_, ?_, ?_, ?_,abR,abS⟩, ?_,Zo,Zo,λb ai bQ=> ?_⟩
 ·rw[S.j1,Zh Zd,S.j1,Zq rfl]
 ·rw[S.j1,Zq rfl]
 ·rw[Yv]
  refine .inl (se.ac λe I=> ?_)
  have:=abR e I
  rw[gm _ rfl e Zo,lK e (by rcases ut e I with rfl|a;omega;have:=dU e a;omega) (λa=> ?_)]
  rcases ut e I with rfl|cD
  ·have:=eN _ a;omega
  ·exact(dU e cD).2.2 a
 ·rw[Yv]
  exact .inl (oM.ac λe I=>gm _ rfl e (by have:=abS e I;omega))
 ·have ht:∀e,e<hG->aa X bL e=aa X aX e:=λe I=>by
   rw[lK e Zo (λa=>by have:=eN _ a;omega),f1 e Zo (λa=>by have:=dU _ a;omega),c0 e Zo]
  exact eo.ac (by rw[gm _ rfl _ Zo,ht _ anT]) (by rw[gm _ rfl _ Zo,ht _ anU])
 ·rw[gm _ rfl _ Zo,lK b Zo (λa=>by have:=eN _ a;omega),f1 b Zo (λa=>by have:=dU _ a;omega),c0 b Zo]
  exact h3.ac b Zo bQ
end
end
end Go.Proofs.YtpfajohmofnkfaaGreatDoor

