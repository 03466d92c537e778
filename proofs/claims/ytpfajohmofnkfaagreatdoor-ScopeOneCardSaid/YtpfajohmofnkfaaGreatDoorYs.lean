/- A part of the proof of the claim's last text: what it is used for is said there; no condition of its own. -/
import Derived.Test.YtpfajohmofnkfaaGreatDoorYq
import Derived.Test.YtpfajohmofnkfaaGreatDoorYr
set_option maxHeartbeats 8000000
set_option linter.unusedVariables false
set_option linter.unusedSimpArgs false
namespace Go.Proofs.YtpfajohmofnkfaaGreatDoor
open Go.al Go.bh
noncomputable section
def gA:Nat->bM->Nat
 |0,_=>0
 |B+1,E=>E.args.foldl (λa I=>max a (gA B I)) 0+1
theorem alT:∀B E,gA B E<=B:=by
 intro B
 induction B with
 |zero=>intro E;simp[gA]
 |succ B ah=>
  intro E
  have:∀(l:List bM) a,a<=B->l.foldl (λa I=>max a (gA B I)) a<=B:=by
   intro l
   induction l with
   |nil=>intro a gB;exact gB
   |cons I l HO=>intro a gB;exact HO _ (Nat.max_le.2 ⟨gB,ah I⟩)
  have:=this E.args 0 Zo
  show _+1<=B+1
  omega
theorem apo{C:aX}{h:U an}(I b:Nat):q9 C h .max [3,3] [.int .i64 (I:Int), .int .i64 (b:Int)]=some (.int .i64 ((max I b:Nat):Int)):=by
 show nR true (.int .i64 (I:Int)) [.int .i64 (b:Int)]=_
 simp only[nR,fB,sU,ZB]
 congr 2
 split<;>simp_all<;>omega
theorem L6{X:cD}{h:U an}(b:Nat):dn X h .eql 47 true (.ptr b 0) .cI=some (.bool false):=by kernel_rfl
section
variable{X:cD}{h V bb aV:U an}{k av aQ bp aF bE:Nat}{aR:List Tok}{i:Nat}
theorem alD(aA:d7 X):∀(B:Nat),B<=1000->∀h k P E v,(y X).bj<=k->cP X h P E v->(∀j,P j->j<k)->
 a6 X 177 [v, .int .i64 (B:Int)] h k (λad V av=>ad= .int .i64 (gA B E:Nat)/\bB X h k V av) (λ_ _ _=>False):=by
 intro B
 induction B with
 |zero=>
  intro _ h k P E v aS aW co
  refine dj (S7 X) (aA.none _ _ rfl) ?_
  rw[S8]
  unfold M4
  obtain⟨b,rfl,ai,_⟩:=aW.ptr
  have fv:=co b ai
  refine dc @L6 @Int.natCast_zero ⟨?_⟩
  exact⟨rfl,dR⟩
 |succ B ah=>
  intro aP h k P E v aS aW co
  refine dj (S7 X) (aA.none _ _ rfl) ?_
  rw[S8]
  unfold M4
  obtain⟨b,bx,cN,br,rfl,ai,a0,be,b2,a3,a4,a5,hT,iv,kc,dp,has⟩:=aW.open
  have fv:=co b ai
  have fw:=dp.len
  have HJ:=has.len
  have mu:((B+1:Nat):Int)=(B:Int)+1:=Zo
  have d:decide (((B+1:Nat):Int)=0)=false:=by simp;omega
  have bF:aL .sub (.int .i64 ((B+1:Nat):Int)) (.int .i64 1)=some (.int .i64 (B:Int)):=by rw[Ai Zo Zo];congr 2;omega
  have bi:=dp.many
  rw[Zu,HJ]at bi
  rw[Zu,HJ]at fw
  refine gd @L6 @d @bF @kc @fw ⟨?_⟩
  refine f8 (λm J V aY=>∃(aa:Nat) (a:Nat),J.g 1=some (.int .i64 (B:Int))/\J.g 5=some (.int .i64 (a:Int))/\J.g 19=some bx/\J.g 20=some (.int .i64 (E.args.length:Int))/\J.g 21=some (.int .i64 (aa:Int))/\aa+m=E.args.length/\a<=B/\bB X h k V aY/\gA (B+1) E=(E.args.drop aa).foldl (λa I=>max a (gA B I)) a+1)
   E.args.length ⟨0,0,bv,gL,bv,bv,gL,Zo,Zo,bB.refl _ _,by simp[gA]⟩ ?_
  rintro m J aV bp ⟨aa,a,t1,t5,jS,C1,RR,bK,gB,ct,bV⟩
  have gZ:=ct.le
  have cB:aL .add (.int .i64 (aa:Int)) (.int .i64 1)=some (.int .i64 ((aa+1:Nat):Int)):=by rw[eQ Zo Zo];rfl
  have fh:aL .add (.int .i64 (a:Int)) (.int .i64 1)=some (.int .i64 ((a+1:Nat):Int)):=by rw[eQ Zo Zo];rfl
  cases m with
  |zero=>
   have cG:decide ((aa:Int)<(E.args.length:Int))=false:=by simp;omega
   rw[Z1 Zo]at bV
   simp only[List.foldl_nil]at bV
   refine gd @RR @C1 @t5 @cG @fh ⟨?_⟩
   exact⟨by first|rw[bV]|(simp only[bV];rfl),ct⟩
  |succ m=>
   have cG:decide ((aa:Int)<(E.args.length:Int))=true:=by simp;omega
   obtain⟨I,aG⟩:∃I,E.args[aa]? =some I:=⟨_,Zf Zo⟩
   obtain⟨v,bu,ala⟩:=has.get aa I aG
   obtain⟨b9,b3,g3⟩:=(dp.af λj T=>ct.af j (co j T)).one bu
   refine e0 @RR @C1 @t5 @jS @t1 @cG (Za @b9 @b3) ⟨?_⟩
   refine(ah Zo aV bp P I v Zo (ala.af λj T=>ct.af j (co j T)) (λj T=>by have:=co j T;omega)).Zm ?_
   rintro C5 bo bw ⟨rfl,cE⟩
   have jf:=cE.le
   have js:q9 X bo .max [3,3] [.int .i64 (a:Int), .int .i64 ((gA B I:Nat):Int)]=some (.int .i64 ((max a (gA B I):Nat):Int)):=apo _ _
   refine e8 @js @RR @cB ⟨?_⟩
   refine⟨m,Zo,aa+1,max a (gA B I),bn t1,bv,bn jS,bn C1,bv,Zo,Nat.max_le.2 ⟨gB,alT B I⟩,ct.trans cE, ?_⟩
   have aI:E.args.drop aa=I::E.args.drop (aa+1):=by
    obtain⟨ag,T⟩:=Zc.1 aG
    rw[ZA ag,T]
   rw[aI,ZL]at bV
   exact bV
end
end
end Go.Proofs.YtpfajohmofnkfaaGreatDoor

namespace Go.Proofs.YtpfajohmofnkfaaGreatDoor
open Go.al Go.bh
noncomputable section
def At:List fg->Option Int
 |[]=>none
 |ar::l=>if 200<gA 201 ar.right then some ar.at_ else At l
def qD:List Go.bh.Node->Option (Int×Int)
 |[]=>none
 |g::l=>if 256<g.eM.length+g.out.length+g.loc.length\/4096<g.eqs.length then some (30,g.at_)else match At g.eqs with
  |some I=>some (22,I)
  |none=>qD l
def rM(aC:List Go.bh.Node):Option (Int×Int):=match aC[64]? with
 |some g=>some (30,g.at_)
 |none=>qD aC
section
variable{X:cD}{h V bb aV:U an}{k av aQ bp aF bE:Nat}{aR:List Tok}{i:Nat}
theorem alC(aA:d7 X){P:Nat->Prop}{E:bM}{v:H}(aS:(y X).bj<=k)(aW:cP X h P E v)(co:∀j,P j->j<k):
 a6 X 118 [v] h k (λad V av=>ad= .int .i64 (gA 201 E:Nat)/\bB X h k V av) (λ_ _ _=>False):=by
 refine dj (adj X) (aA.none _ _ rfl) ?_
 rw[adk]
 unfold SA
 exact(alD aA 201 Zo h k P E v aS aW co)
theorem ao1(aA:d7 X){P:Nat->Prop}{aC:List Go.bh.Node}{v:H}(aS:(y X).bj<=k)(bV:sc X h P aC v)(co:∀j,P j->j<k):
 a6 X 69 [v] h k (λad V av=>rM aC=none/\ad= .tuple []/\bB X h k V av) (λad V av=>∃B I,rM aC=some (B,I)/\ad=w1 B I/\bB X h k V av):=by
 refine dj (afV X) (aA.none _ _ rfl) ?_
 rw[afW]
 unfold TZ
 obtain⟨b,bx,cN,b6,rfl,Kw,a0,dp,tY⟩:=bV
 have vT:=tY.wide
 have fw:=dp.len
 have lm:=dp.many
 rw[vT.1]at fw lm
 by_cases BE:64<aC.length
 ·obtain⟨g,W5⟩:∃g,aC[64]? =some g:=⟨_,Zf BE⟩
  obtain⟨row,fN,lC⟩:=tY.get 64 g W5
  have eG:=dp.ik 64 Zo
  obtain⟨dk,dK,RC,fG,dr,eu,eI,jZ,abU,rfl,_⟩:=lC
  have ay:=dp.cell 64 _ 1 _ fN rfl
  have d:decide ((64:Int)<(aC.length:Int))=true:=by simp;omega
  have al0:fp 6 bx (.int .i64 64)=some (.ptr cN (64*6)):=eG
  refine gd @a0 @fw @d @al0 @ay ⟨?_⟩
  refine⟨⟨30,g.at_,by simp[rM,W5],rfl,bB.refl _ _⟩⟩
 ·have aE:rM aC=qD aC:=by simp[rM,Z3 (by omega:aC.length<=64)]
  have d:decide ((64:Int)<(aC.length:Int))=false:=by simp;omega
  rw[aE]
  refine e8 @a0 @fw @d ⟨?_⟩
  refine f8 (λm J V aY=>∃(aa:Nat),J.g 24=some bx/\J.g 25=some (.int .i64 (aC.length:Int))/\J.g 26=some (.int .i64 (aa:Int))/\aa+m=aC.length/\bB X h k V aY/\qD aC=qD (aC.drop aa))
   aC.length ⟨0,bv,bv,gL,Zo,bB.refl _ _,rfl⟩ ?_
  rintro m J aV bp ⟨aa,C2,qQ,tb,bK,ct,B0⟩
  have gZ:=ct.le
  have cB:aL .add (.int .i64 (aa:Int)) (.int .i64 1)=some (.int .i64 ((aa+1:Nat):Int)):=by rw[eQ Zo Zo];rfl
  cases m with
  |zero=>
   have cG:decide ((aa:Int)<(aC.length:Int))=false:=by simp;omega
   rw[Z1 Zo]at B0
   refine e8 @tb @qQ @cG ⟨?_⟩
   exact⟨B0,rfl,ct⟩
  |succ m=>
   have cG:decide ((aa:Int)<(aC.length:Int))=true:=by simp;omega
   obtain⟨g,rs⟩:∃g,aC[aa]? =some g:=⟨_,Zf Zo⟩
   have aI:aC.drop aa=g::aC.drop (aa+1):=by
    obtain⟨ag,T⟩:=Zc.1 rs
    rw[ZA ag,T]
   rw[aI]at B0
   obtain⟨row,fN,lC⟩:=tY.get aa g rs
   have eG:=dp.ik aa Zo
   have mx:=(dp.af λj T=>ct.af j (co j T)).row Zd fN
   have amq:=lC.af (bR:=P) (λj T=>ct.af j (co j T)) (λ_ a=>a)
   have y6:=lC.kl
   obtain⟨dk,dK,RC,fG,dr,eu,eI,jZ,abU,rfl,cb,b1,dT,fc,lH⟩:=amq
   have eh:=cb.len;have c5:=b1.len;have eN:=dT.len;have gE:=fc.len
   have ee:=cb.many;have fz:=b1.many;have ki:=dT.many;have Cn:=fc.many
   have acB:=lH.wide
   rw[Zu]at eh c5 eN ee fz ki
   rw[acB.1]at gE Cn
   have fh:aL .add (.int .i64 (g.eM.length:Int)) (.int .i64 (g.out.length:Int))=some (.int .i64 ((g.eM.length+g.out.length:Nat):Int)):=by rw[eQ Zo Zo];rfl
   have js:aL .add (.int .i64 ((g.eM.length+g.out.length:Nat):Int)) (.int .i64 (g.loc.length:Int))=some (.int .i64 ((g.eM.length+g.out.length+g.loc.length:Nat):Int)):=by rw[eQ Zo Zo];rfl
   refine iJ @tb @qQ @C2 @cG @eG @mx ⟨?_⟩
   refine fH (iO (B:=6) (b:=bp) (W:=0) (n:=6) (c:=U.ofList [.str [], .int .i64 0, .aU, .aU, .aU, .aU] 0 .nil) (bq Zo) Zo rfl Zd Zd y6) ?_
   generalize hI:bm X _ bp _=bo
   have vz:ab X bo bp=some (.cells (d0 (U.ofList [.str [], .int .i64 0, .aU, .aU, .aU, .aU] 0 .nil) 0 [.str g.name, .int .i64 g.at_,dk,dK,RC,fG]) 6 .own):=by rw[<-hI];exact bq Zo
   have cE:bB X h k bo (bp+1):=ct.trans (by rw[<-hI];exact dR)
   have cH:∀j,P j->ab X bo j=ab X h j:=λj T=>cE.af j (co j T)
   clear hI
   have dD:ao X bo (.ptr bp 1)=some (.int .i64 g.at_):=by rw[bW vz];rfl
   have d2:ao X bo (.ptr bp 2)=some dk:=by rw[bW vz];rfl
   have gQ:ao X bo (.ptr bp 3)=some dK:=by rw[bW vz];rfl
   have yx:ao X bo (.ptr bp 4)=some RC:=by rw[bW vz];rfl
   have ky:ao X bo (.ptr bp 5)=some fG:=by rw[bW vz];rfl
   by_cases akv:256<g.eM.length+g.out.length+g.loc.length
   ·have eL:decide ((256:Int)<((g.eM.length+g.out.length+g.loc.length:Nat):Int))=true:=by simp;omega
    refine e0 @dD @d2 @gQ @yx @ky @eh (Za @c5 (Za @eN (Za @gE (Za @fh (Za @js @eL))))) ⟨?_⟩
    exact⟨⟨30,g.at_,by rw[B0,qD,Zr (.inl akv)],rfl,cE⟩⟩
   have eL:decide ((256:Int)<((g.eM.length+g.out.length+g.loc.length:Nat):Int))=false:=by simp;omega
   by_cases akw:4096<g.eqs.length
   ·have ic:decide ((4096:Int)<(g.eqs.length:Int))=true:=by simp;omega
    refine e0 @dD @d2 @gQ @yx @ky @eh (Za @c5 (Za @eN (Za @gE (Za @fh (Za @js (Za @eL @ic)))))) ⟨?_⟩
    exact⟨⟨30,g.at_,by rw[B0,qD,Zr (.inr akw)],rfl,cE⟩⟩
   have ic:decide ((4096:Int)<(g.eqs.length:Int))=false:=by simp;omega
   refine e0 @dD @d2 @gQ @yx @ky @eh (Za @c5 (Za @eN (Za @gE (Za @fh (Za @js (Za @eL (Za @ic (Za @C2 (Za @qQ @tb))))))))) ⟨?_⟩
   have ai:qD aC=(match At g.eqs with|some I=>some (22,I)|none=>qD (aC.drop (aa+1))):=by rw[B0,qD,Zg Zo]
   have Lb:=fc.af (V:=h) (λj T=>(ct.af j (co j T)).symm)
   have aq2:=lH.af (V:=h) (bR:=P) (λj T=>(ct.af j (co j T)).symm) (λ_ a=>a)
   refine f8 (λki J V aY=>∃(i:Nat),J.g 24=some bx/\J.g 25=some (.int .i64 (aC.length:Int))/\J.g 26=some (.int .i64 (aa:Int))/\J.g 53=some fG/\J.g 54=some (.int .i64 (g.eqs.length:Int))/\J.g 55=some (.int .i64 (i:Int))/\i+ki=g.eqs.length/\bB X h k V aY/\At g.eqs=At (g.eqs.drop i))
    g.eqs.length ⟨0,bn C2,bn qQ,bn tb,bv,bv,gL,Zo,cE,rfl⟩ ?_
   clear C2 qQ tb dD d2 gQ yx ky vz cH cE
   rintro ki J bo bw ⟨i,C2,qQ,tb,AY,mJ,pd,aN,cE,BZ⟩
   have jf:=cE.le
   cases ki with
   |zero=>
    have fM:decide ((i:Int)<(g.eqs.length:Int))=false:=by simp;omega
    rw[Z1 Zo]at BZ
    refine gd @pd @mJ @fM @tb @cB ⟨?_⟩
    refine⟨m,Zo,aa+1,bn C2,bn qQ,bv,Zo,cE, ?_⟩
    rw[ai,BZ];rfl
   |succ ki=>
    have fM:decide ((i:Int)<(g.eqs.length:Int))=true:=by simp;omega
    have oP:aL .add (.int .i64 (i:Int)) (.int .i64 1)=some (.int .i64 ((i+1:Nat):Int)):=by rw[eQ Zo Zo];rfl
    obtain⟨ar,v6⟩:∃ar,g.eqs[i]? =some ar:=⟨_,Zf Zo⟩
    have alu:g.eqs.drop i=ar::g.eqs.drop (i+1):=by
     obtain⟨ag,T⟩:=Zc.1 v6
     rw[ZA ag,T]
    rw[alu,At]at BZ
    obtain⟨row,fN,xw⟩:=aq2.get i ar v6
    have Po:=fc.ik i (by rw[acB.1];omega)
    have Hz:=(Lb.af λj T=>cE.af j (co j T)).row Zd fN
    obtain⟨agC,agA,at2,at3,ko,rfl,_,_,am5,oY⟩:=xw
    refine iJ @pd @mJ @AY @fM @Po @Hz ⟨?_⟩
    refine fH (iO (B:=4) (b:=bw) (W:=0) (n:=4) (c:=U.ofList [.aU, .aU, .int .i64 0, .cI] 0 .nil) (bq Zo) Zo rfl Zd Zd oY) ?_
    generalize hw:bm X _ bw _=bX
    have V3:ab X bX bw=some (.cells (d0 (U.ofList [.aU, .aU, .int .i64 0, .cI] 0 .nil) 0 [agC,agA, .int .i64 ar.at_,ko]) 4 .own):=by rw[<-hw];exact bq Zo
    have dN:bB X bo bw bX (bw+1):=by rw[<-hw];exact dR
    have DP:=cE.trans dN
    clear hw
    have gQ:ao X bX (.ptr bw 3)=some ko:=by rw[bW V3];rfl
    refine cx @gQ ⟨?_⟩
    refine(alC aA Zo (am5.af λj T=>DP.af j (co j T)) (λj T=>by have:=co j T;omega)).Zm ?_
    rintro Fz b4 cA ⟨rfl,dX⟩
    have iW:=dX.le
    have d2:ao X b4 (.ptr bw 2)=some (.int .i64 ar.at_):=by rw[bW (by rw[dX.af _ Zo];exact V3)];rfl
    by_cases gB:200<gA 201 ar.right
    ·have hF:decide ((200:Int)<((gA 201 ar.right:Nat):Int))=true:=by simp;omega
     rw[Zr gB]at BZ
     refine dc @hF @d2 ⟨?_⟩
     exact⟨⟨22,ar.at_,by rw[ai,BZ],rfl,DP.trans dX⟩⟩
    ·have hF:decide ((200:Int)<((gA 201 ar.right:Nat):Int))=false:=by simp;omega
     rw[Zg gB]at BZ
     refine e8 @hF @pd @oP ⟨?_⟩
     exact⟨ki,Zo,i+1,bn C2,bn qQ,bn tb,bn AY,bn mJ,bv,Zo,DP.trans dX,BZ⟩
end
end
end Go.Proofs.YtpfajohmofnkfaaGreatDoor

namespace Go.Proofs.YtpfajohmofnkfaaGreatDoor
open Go.al
noncomputable section
variable (X : cD) (h : U an) (k : Nat) (aj aw : bY) (a0 be b2 a3 a4 a5 hT iv kc : H)
def TW(a:aX)(b:H)(c:U an)(d:Nat)(e f:bY):Prop:=
 D (dH [(.int .i64 0),(.int .i64 0)] d) λg=>cU a c d g.1 g.2 λc d g=>D (eF b) λh=>D (aL .gtr h (.int .i64 65536)) λh=>a7 (λb c d=>am (b 0) λg=>D (yB a c g) λg=>D (ey [(.str []),(.int .i64 0)] [(0,1,g)]) λg=>j0 a c d g λc d g=>a6 a 110 [c] d g (λ_ d g=>a7 (λb c d=>am (b 5) λf=>am (b 4) λg=>D (cz g) λg=>D (bf 1 g) λg=>D (ao a c g) λg=>D (ey [(.int .i64 0),(.str []),(.int .i64 0),(.int .u64 0),(.bool false),(.bool false),(.int .i64 0)] [(0,1,(.int .i64 7)),(2,1,g)]) λg=>D (fE 1 [(.int .i64 0),(.str []),(.int .i64 0),(.int .u64 0),(.bool false),(.bool false),(.int .i64 0)] [(0,7,g)] d) λg=>cU a c d g.1 g.2 λc d g=>gn (jY a d g 7 f c) d g λc d f=>D (ey [(.int .i64 0),(.int .i64 0)] []) λg=>am (b 3) λh=>D (ce a d 2 h g) λd=>am (b 3) λb=>D (cL a d 2 b) λa=>e (.tuple [c,a]) d f) λh=>fO (λb c d g=>fD (g+10) λg=>am (c 4) λi=>D (cz i) λi=>D (bf 1 i) λi=>D (ao a d i) λi=>am (c 4) λj=>D (cz j) λj=>D (bf 0 j) λj=>D (ao a d j) λj=>D (lp j) λj=>D (aL .lss i j) λi=>a7 (λc d g=>a7 (λc d e=>am (c 4) λg=>a6 a 110 [g] d e (λ_ a d=>b c a d) f) λb=>am (c 4) λh=>fD (g+10) λg=>am (c 4) λi=>D (cz i) λi=>D (bf 0 i) λi=>D (ao a d i) λi=>am (c 4) λj=>D (cz j) λj=>D (bf 1 j) λj=>D (ao a d j) λj=>D (kW i j) λi=>a7 (λc d g=>am (c 6) λh=>nx a h [] d g (λd f g=>D (c9 0 d) λh=>D (c9 1 d) λd=>D (dH [(.int .i64 0),(.str []),(.int .i64 0),(.int .u64 0),(.bool false),(.bool false),(.int .i64 0)] g) λi=>cU a f g i.1 i.2 λf g i=>D (ce a g 7 f h) λg=>D (fT .not d) λh=>a7 (λc d e=>am (c 4) λf=>D (cz f) λf=>D (bf 1 f) λf=>D (ao a d f) λf=>am (c 8) λg=>D (bf 2 g) λg=>D (ce a d 1 g f) λd=>fD (e+11) λe=>am (c 4) λf=>D (cz f) λg=>D (bf 1 g) λg=>D (ao a d g) λg=>am (c 8) λh=>D (bf 1 h) λh=>D (ao a d h) λh=>D (lp h) λh=>D (aL .add g h) λg=>D (cz f) λf=>D (bf 1 f) λf=>D (ce a d 1 f g) λd=>am (c 5) λf=>am (c 8) λg=>D (cL a d 7 g) λg=>D (fE 1 [(.int .i64 0),(.str []),(.int .i64 0),(.int .u64 0),(.bool false),(.bool false),(.int .i64 0)] [(0,7,g)] e) λg=>cU a d e g.1 g.2 λd e g=>gn (jY a e g 7 f d) e g λa d e=>b (ac c 5 a) d e) λb=>ba h (fD (i+7) λb=>am (c 4) λd=>D (cz d) λd=>D (bf 1 d) λd=>D (ao a g d) λd=>D (ey [(.int .i64 0),(.int .i64 0)] [(0,1,(.int .i64 20)),(1,1,d)]) λd=>am (c 3) λf=>D (ce a g 2 f d) λd=>am (c 3) λc=>D (cL a d 2 c) λa=>e (.tuple [.aU,a]) d b) (b (ac (ac (ac c 8 f) 9 d) 59 h) g i)) f) λb=>a6 a 112 [i] d g (λd e g=>a7 b λb=>ba d (am (c 4) λa=>b (ac (ac (ac (ac c 6 (.func (.func 111) [h] [])) 7 i) 43 d) 6 (.func (.func 113) [a] [])) e g) (a6 a 114 [i] e g (λa e f=>a7 b λb=>ba a (am (c 4) λg=>b (ac (ac (ac (ac (ac c 6 (.func (.func 111) [h] [])) 7 i) 43 d) 48 a) 6 (.func (.func 115) [g] [])) e f) (b (ac (ac (ac (ac c 6 (.func (.func 111) [h] [])) 7 i) 43 d) 48 a) e f)) f)) f) λa=>ba i (a (ac c 29 i) d g) (h (ac c 29 i) d g)) (ac (ac b 4 c) 5 .aU) d g) f) λf=>ba h (D (ey [(.int .i64 0),(.int .i64 0)] [(0,1,(.int .i64 3))]) λb=>D (ce a d 2 c b) λb=>D (cL a b 2 c) λa=>e (.tuple [.aU,a]) b g) (f (ac (ac (ac (c2 [b]) 2 .aU) 3 c) 12 h) d g)
theorem afS:du X 66 [a0] h k aj aw=TW X a0 h k aj aw:=by kernel_rfl
theorem afR:da X 66 1=true:=by kernel_rfl
def Ss(a:aX)(b:H)(c:U an)(d:Nat)(e f:bY):Prop:=
 a7 (λ_ a b=>e (.tuple []) a b) λg=>fO (λb c d h=>fD (h+10) λh=>am (c 0) λi=>D (cz i) λi=>D (bf 1 i) λi=>D (ao a d i) λi=>am (c 0) λj=>D (cz j) λj=>D (bf 0 j) λj=>D (ao a d j) λj=>D (lp j) λj=>D (aL .lss i j) λi=>a7 (λc d g=>a7 b λb=>a7 b λb=>fD (g+12) λg=>am (c 0) λh=>D (cz h) λh=>D (bf 0 h) λh=>D (ao a d h) λh=>am (c 0) λi=>D (cz i) λi=>D (bf 1 i) λi=>D (ao a d i) λi=>D (kW h i) λh=>a6 a 163 [(.str [32,9,10,13]),h] d g (λd g h=>D (aL .geq d (.int .i64 0)) λd=>a7 b λb=>ba d (am (c 0) λe=>D (cz e) λf=>D (bf 1 f) λf=>D (ao a g f) λf=>D (aL .add f (.int .i64 1)) λf=>D (cz e) λe=>D (bf 1 e) λe=>D (ce a g 1 e f) λa=>b (ac c 12 d) a h) (fD (h+11) λh=>am (c 0) λi=>D (cz i) λi=>D (bf 0 i) λi=>D (ao a g i) λi=>am (c 0) λj=>D (cz j) λj=>D (bf 1 j) λj=>D (ao a g j) λj=>D (jQ i (some j) none) λi=>a6 a 164 [i,(.str [45,45])] g h (λg h i=>a7 b λb=>ba g (fD (i+15) λe=>am (c 0) λi=>D (cz i) λj=>D (bf 1 j) λj=>D (ao a h j) λk=>am (c 0) λl=>am (c 0) λm=>D (cz m) λm=>D (bf 1 m) λm=>D (ao a h m) λm=>a6 a 165 [l,m,(.func (.func 166) [] [])] h e (λe f h=>D (lp e) λe=>D (aL .add k e) λe=>D (cz i) λi=>D (bf 1 i) λi=>D (ao a f j) λj=>h8 j (some k) (D (ce a f 1 i e) λa=>b (ac (ac c 12 d) 31 g) a h)) f) (e (.tuple []) h i)) f)) f) λa=>ba i (a (ac c 11 i) d h) (g (ac c 11 i) d h)) (c2 [b]) c d
theorem ac3:du X 110 [a0] h k aj aw=Ss X a0 h k aj aw:=by kernel_rfl
theorem ac2:da X 110 1=true:=by kernel_rfl
def St(a:aX)(b:H)(c:U an)(d:Nat)(e f:bY):Prop:=
 D (dH [(.int .i64 0),(.str []),(.int .i64 0),(.int .u64 0),(.bool false),(.bool false),(.int .i64 0)] d) λg=>cU a c d g.1 g.2 λc d g=>D (cL a d 17 (.ptr 1 0)) λh=>a7 (λb c d=>D (ey [(.int .i64 0),(.str []),(.int .i64 0),(.int .u64 0),(.bool false),(.bool false),(.int .i64 0)] []) λf=>am (b 2) λg=>D (ce a c 7 g f) λc=>am (b 2) λb=>D (cL a c 7 b) λa=>e (.tuple [a,(.bool false)]) c d) λi=>fO (λb c d g=>am (c 7) λh=>D (aL .lss h (.int .i64 17)) λh=>a7 (λc d g=>a7 (λa c d=>am (a 7) λe=>D (aL .add e (.int .i64 1)) λe=>b (ac a 7 e) c d) λb=>am (c 6) λh=>am (c 7) λi=>D (pV false 17 1 h i) λh=>fD (g+11) λg=>am (c 0) λi=>D (cz i) λi=>D (bf 0 i) λi=>D (ao a d i) λi=>am (c 0) λj=>D (cz j) λj=>D (bf 1 j) λj=>D (ao a d j) λj=>D (jQ i (some j) none) λi=>a6 a 164 [i,h] d g (λd f g=>a7 b λb=>ba d (D (ey [(.int .i64 0),(.str []),(.int .i64 0),(.int .u64 0),(.bool false),(.bool false),(.int .i64 0)] [(0,1,(.int .i64 6)),(1,1,h)]) λb=>am (c 2) λd=>D (ce a f 7 d b) λb=>am (c 2) λc=>D (cL a b 7 c) λa=>e (.tuple [a,(.bool true)]) b g) (b (ac (ac c 5 h) 20 d) f g)) f) λa=>ba h (a (ac c 8 h) d g) (i (ac c 8 h) d g)) (ac (ac (ac (ac (c2 [b]) 2 c) 3 (.bool false)) 6 h) 7 (.int .i64 0)) d g
theorem ac5:du X 111 [a0] h k aj aw=St X a0 h k aj aw:=by kernel_rfl
theorem ac4:da X 111 1=true:=by kernel_rfl
def Su(_:aX)(a:H)(b:U an)(c:Nat)(d _:bY):Prop:=
 D (aL .geq a (.int .u8 48)) λe=>aO (λa b c=>aO (λa b c=>cW (λa=>d a b c) λb=>ba e (b a) (b (.bool false))) λd=>az true e (D (aL .leq a (.int .u8 57)) λa=>d a b c) (d al.undef b c)) λd=>az true e (d a b c) (d al.undef b c)
theorem ac7:du X 112 [a0] h k aj aw=Su X a0 h k aj aw:=by kernel_rfl
theorem ac6:da X 112 1=true:=by kernel_rfl
def Sv(a:aX)(b:H)(c:U an)(d:Nat)(e f:bY):Prop:=
 D (dH [(.int .i64 0),(.str []),(.int .i64 0),(.int .u64 0),(.bool false),(.bool false),(.int .i64 0)] d) λg=>cU a c d g.1 g.2 λc d g=>D (cz b) λh=>D (bf 1 h) λh=>D (ao a d h) λh=>a6 a 165 [b,h,(.func (.func 112) [] [])] d g (λd g h=>a6 a 167 [d,(.int .i64 10),(.int .i64 64)] g h (λg h i=>D (c9 0 g) λj=>D (c9 1 g) λg=>D (dn a h .neq 238 true g .nilIface) λk=>aO (λh i l=>aO (λh i l=>aO (λh i l=>cW (λh=>a7 (λb c d=>am (b 0) λg=>am (b 0) λh=>D (cz h) λh=>D (bf 1 h) λh=>D (ao a c h) λh=>am (b 4) λi=>D (lp i) λi=>D (aL .add h i) λh=>a6 a 165 [g,h,(.func (.func 168) [] [])] c d (λc d g=>D (dn a d .eql 9 true c (.str [])) λh=>a7 (λb c d=>am (b 7) λg=>a6 a 169 [g] c d (λc d g=>D (c9 0 c) λh=>D (c9 1 c) λc=>D (dH [(.bool false),(.bool false),(.int .i64 0)] g) λi=>cU a d g i.1 i.2 λd g i=>D (ce a g 3 d h) λg=>fD (i+19) λh=>am (b 4) λi=>am (b 7) λj=>D (dn a g .add 9 false i j) λk=>am (b 5) λl=>D (cL a g 3 d) λm=>D (ey [(.int .i64 0),(.str []),(.int .i64 0),(.int .u64 0),(.bool false),(.bool false),(.int .i64 0)] [(0,1,(.int .i64 5)),(1,1,k),(3,1,l),(4,3,m)]) λl=>eb (λg n=>eb (λg n=>eb (λg n=>cW (λc=>eb (λg n=>eb (λn o=>aO (λf g h=>cW (λc=>D (dn a g .add 9 false i j) λf=>h8 f (some k) (D (cL a g 3 d) λd=>h8 d (some m) (am (b 2) λd=>D (ce a g 7 d l) λd=>am (b 2) λb=>D (cL a d 7 b) λa=>e (.tuple [a,c]) d h))) λa=>ba c (a f) (a (.bool false))) λb=>az true c (a6 a 170 [g,n] o h (λa c d=>b a c d) f) (b al.undef o h)) λa=>az true c (am (b 5) λb=>a b n) (a al.undef n)) λb=>az true c (D (cL a n 3 d) λa=>b a n) (b al.undef n)) λa=>ba c (a g) (a (.bool false))) λa=>az true c (D (fT .not g) λb=>a b n) (a al.undef n)) λb=>az true c (D (ao a n g) λa=>b a n) (b al.undef n)) λa=>az true c (D (bf 0 d) λb=>a b g) (a al.undef g)) f) λf=>ba h (am (b 4) λc=>am (b 5) λf=>D (ey [(.int .i64 0),(.str []),(.int .i64 0),(.int .u64 0),(.bool false),(.bool false),(.int .i64 0)] [(0,1,(.int .i64 4)),(1,1,c),(3,1,f)]) λc=>am (b 2) λf=>D (ce a d 7 f c) λc=>am (b 2) λb=>D (cL a c 7 b) λa=>e (.tuple [a,(.bool true)]) c g) (f (ac (ac b 7 c) 39 h) d g)) f) λf=>ba h (D (ey [(.int .i64 0),(.str []),(.int .i64 0),(.int .u64 0),(.bool false),(.bool false),(.int .i64 0)] []) λb=>D (ce a i 7 c b) λb=>D (cL a b 7 c) λa=>e (.tuple [a,(.bool false)]) b l) (f (ac (ac (ac (ac (ac (ac (c2 [b]) 2 c) 3 (.bool false)) 4 d) 5 j) 6 g) 27 h) i l)) λa=>ba k (a (.bool true)) (a h)) λa=>az false k (D (aL .gtr h (.int .i64 20)) λb=>a b i l) (a al.undef i l)) λa=>az false k (D (lp h) λb=>a b i l) (a al.undef i l)) λa=>az false k (a d h i) (a al.undef h i)) f) f
theorem ac9:du X 113 [a0] h k aj aw=Sv X a0 h k aj aw:=by kernel_rfl
theorem ac8:da X 113 1=true:=by kernel_rfl
def Sw(_:aX)(a:H)(b:U an)(c:Nat)(d _:bY):Prop:=
 D (aL .geq a (.int .u8 97)) λe=>aO (λb c f=>aO (λb c f=>cW (λb=>aO (λc e f=>aO (λc e f=>aO (λc e f=>aO (λe f g=>aO (λe f g=>aO (λc e f=>cW (λb=>aO (λa c e=>aO (λa c e=>cW (λa=>d a c e) λc=>ba b (c (.bool true)) (c a)) λd=>az false b (D (aL .eql a (.int .u8 95)) λa=>d a c e) (d al.undef c e)) λc=>az false b (c a e f) (c al.undef e f)) λa=>ba b (a (.bool true)) (a c)) λa=>az false b (cW (λb=>a b f g) λa=>ba c (a e) (a (.bool false))) (a al.undef f g)) λa=>az true c (D (aL .leq e (.int .u8 90)) λb=>a b f g) (a al.undef f g)) λb=>az true c (b a e f) (b al.undef e f)) λa=>az false b (a c e f) (a al.undef e f)) λa=>az false b (D (aL .geq c (.int .u8 65)) λb=>a b e f) (a al.undef e f)) λd=>az false b (d a c f) (d al.undef c f)) λa=>ba e (a b) (a (.bool false))) λa=>az true e (D (aL .leq b (.int .u8 122)) λb=>a b c f) (a al.undef c f)) λd=>az true e (d a b c) (d al.undef b c)
theorem adb:du X 114 [a0] h k aj aw=Sw X a0 h k aj aw:=by kernel_rfl
theorem ada:da X 114 1=true:=by kernel_rfl
def Sx(a:aX)(b:H)(c:U an)(d:Nat)(e f:bY):Prop:=
 D (dH [(.int .i64 0),(.str []),(.int .i64 0),(.int .u64 0),(.bool false),(.bool false),(.int .i64 0)] d) λg=>cU a c d g.1 g.2 λc d g=>D (cz b) λh=>D (bf 1 h) λh=>D (ao a d h) λh=>a6 a 165 [b,h,(.func (.func 168) [] [])] d g (λd g h=>D (ey [(.int .i64 0),(.str []),(.int .i64 0),(.int .u64 0),(.bool false),(.bool false),(.int .i64 0)] [(0,1,(.int .i64 1)),(1,1,d)]) λi=>D (dH [(.int .i64 0),(.str []),(.int .i64 0),(.int .u64 0),(.bool false),(.bool false),(.int .i64 0)] h) λj=>cU a g h j.1 j.2 λg h j=>D (ce a h 7 g i) λh=>a6 a 169 [d] h j (λh i j=>D (c9 0 h) λk=>D (c9 1 h) λh=>D (dH [(.bool false),(.bool false),(.int .i64 0)] j) λl=>cU a i j l.1 l.2 λi j l=>D (ce a j 3 i k) λj=>a7 (λb c d=>am (b 5) λf=>D (cL a c 7 f) λf=>am (b 4) λg=>D (lp g) λg=>D (aL .leq g (.int .i64 32)) λg=>am (b 2) λh=>D (ce a c 7 h f) λc=>am (b 2) λb=>D (cL a c 7 b) λa=>e (.tuple [a,g]) c d) λe=>ba h (fD (l+5) λf=>D (cL a j 3 i) λk=>D (bf 0 g) λl=>D (ce a j 1 l (.int .i64 3)) λj=>D (bf 4 g) λl=>D (cL a j 3 i) λm=>h8 m (some k) (D (ce a j 3 l k) λa=>e (ac (ac (ac (ac (ac (ac (ac (c2 [b]) 2 c) 3 (.bool false)) 4 d) 5 g) 6 i) 7 h) 21 h) a f)) (a6 a 171 [d] j l (λf j k=>a7 e λe=>ba f (D (bf 0 g) λl=>D (ce a j 1 l (.int .i64 2)) λa=>e (ac (ac (ac (ac (ac (ac (ac (ac (c2 [b]) 2 c) 3 (.bool false)) 4 d) 5 g) 6 i) 7 h) 21 h) 26 f) a k) (e (ac (ac (ac (ac (ac (ac (ac (ac (c2 [b]) 2 c) 3 (.bool false)) 4 d) 5 g) 6 i) 7 h) 21 h) 26 f) j k)) f)) f) f
theorem ade:du X 115 [a0] h k aj aw=Sx X a0 h k aj aw:=by kernel_rfl
theorem adc:da X 115 1=true:=by kernel_rfl
def SQ(a:aX)(b c:H)(d:U an)(e:Nat)(f g:bY):Prop:=
 a6 a 199 [b,c] d e (λa b c=>f a b c) g
theorem adQ:du X 163 [a0,be] h k aj aw=SQ X a0 be h k aj aw:=by kernel_rfl
theorem adP:da X 163 2=true:=by kernel_rfl
def SR(a:aX)(b c:H)(d:U an)(e:Nat)(f g:bY):Prop:=
 a6 a 200 [b,c] d e (λa b c=>f a b c) g
theorem adS:du X 164 [a0,be] h k aj aw=SR X a0 be h k aj aw:=by kernel_rfl
theorem adR:da X 164 2=true:=by kernel_rfl
def SS(a:aX)(b c d:H)(e:U an)(f:Nat)(g h:bY):Prop:=
 a7 (λb c d=>am (b 0) λe=>D (cz e) λe=>D (bf 0 e) λe=>D (ao a c e) λa=>am (b 1) λe=>am (b 7) λb=>D (jQ a (some e) (some b)) λa=>g a c d) λg=>fO (λb c d e=>am (c 7) λf=>am (c 0) λi=>D (cz i) λi=>D (bf 0 i) λi=>D (ao a d i) λi=>D (lp i) λi=>D (aL .lss f i) λf=>aO (λd e i=>aO (λe i j=>aO (λe i j=>aO (λe i j=>aO (λe i j=>aO (λi j k=>aO (λe i j=>aO (λa d e=>cW (λa=>a7 (λa c d=>a7 b λb=>am (a 7) λe=>D (aL .add e (.int .i64 1)) λe=>b (ac a 7 e) c d) λb=>ba a (b (ac c 25 a) d e) (g (ac c 25 a) d e)) λb=>ba f (b a) (b (.bool false))) λb=>az true f (nx a d [e] i j (λa c d=>b a c d) h) (b al.undef i j)) λa=>az true f (D (kW e i) λb=>a b j k) (a al.undef j k)) λa=>az true f (am (c 7) λb=>a b i j) (a al.undef i j)) λb=>az true f (D (ao a i e) λa=>b a i j) (b al.undef i j)) λa=>az true f (D (bf 0 e) λb=>a b i j) (a al.undef i j)) λa=>az true f (D (cz e) λb=>a b i j) (a al.undef i j)) λa=>az true f (am (c 0) λb=>a b e i) (a al.undef e i)) λa=>az true f (am (c 2) λb=>a b d e) (a al.undef d e)) (ac (ac (c2 [b,c,d]) 6 (.str [])) 7 c) e f
theorem adU:du X 165 [a0,be,b2] h k aj aw=SS X a0 be b2 h k aj aw:=by kernel_rfl
theorem adT:da X 165 3=true:=by kernel_rfl
def SU(_:aX)(a:H)(b:U an)(c:Nat)(d _:bY):Prop:=
 D (aL .neq a (.int .u8 10)) λa=>d a b c
theorem adW:du X 166 [a0] h k aj aw=SU X a0 h k aj aw:=by kernel_rfl
theorem adV:da X 166 1=true:=by kernel_rfl
def SV(a:aX)(b c d:H)(e:U an)(f:Nat)(g h:bY):Prop:=
 a6 a 201 [b,c,d] e f (λe f i=>D (c9 0 e) λj=>D (c9 1 e) λe=>D (dn a f .neq 238 true e .nilIface) λk=>a7 (λa b c=>am (a 8) λa=>g (.tuple [a, .nilIface]) b c) λl=>ba k (a6 a 202 [(.str [80,97,114,115,101,85,105,110,116]),b,c,d,e] f i (λa b c=>g (.tuple [j,a]) b c) h) (l (ac (ac (ac (ac (ac (c2 [b,c,d]) 6 (.int .u64 0)) 7 .nilIface) 8 j) 9 e) 18 k) f i)) h
theorem adY:du X 167 [a0,be,b2] h k aj aw=SV X a0 be b2 h k aj aw:=by kernel_rfl
theorem adX:da X 167 3=true:=by kernel_rfl
def SW(a:aX)(b:H)(c:U an)(d:Nat)(e f:bY):Prop:=
 a6 a 114 [b] c d (λc d g=>aO (λb d g=>aO (λa b d=>cW (λa=>e a b d) λb=>ba c (b (.bool true)) (b a)) λe=>az false c (a6 a 112 [b] d g (λa b c=>e a b c) f) (e al.undef d g)) λa=>az false c (a b d g) (a al.undef d g)) f
theorem ad0:du X 168 [a0] h k aj aw=SW X a0 h k aj aw:=by kernel_rfl
theorem adZ:da X 168 1=true:=by kernel_rfl
def SX(a:aX)(b:H)(c:U an)(d:Nat)(e f:bY):Prop:=
 D (dH [(.bool false),(.bool false),(.int .i64 0)] d) λg=>cU a c d g.1 g.2 λc d g=>D (dn a d .eql 9 true b (.str [98,111,111,108])) λh=>a7 (λb c d=>am (b 0) λg=>D (dn a c .eql 9 true g (.str [])) λg=>aO (λc d h=>aO (λc d h=>aO (λc d h=>aO (λc d h=>aO (λd h i=>aO (λd h i=>aO (λd h i=>aO (λc d h=>cW (λc=>a7 (λb c d=>am (b 0) λg=>D (jQ g (some (.int .i64 1)) none) λg=>a6 a 203 [g] c d (λc d g=>D (c9 0 c) λh=>D (c9 1 c) λc=>am (b 0) λi=>D (kW i (.int .i64 0)) λi=>D (aL .eql i (.int .u8 105)) λi=>D (ey [(.bool false),(.bool false),(.int .i64 0)] [(1,1,i),(2,1,h)]) λi=>D (dH [(.bool false),(.bool false),(.int .i64 0)] g) λj=>cU a d g j.1 j.2 λd g j=>D (ce a g 3 d i) λg=>D (dn a g .neq 238 true c .nilIface) λi=>aO (λg j k=>aO (λg j k=>aO (λg j k=>cW (λg=>aO (λi j k=>aO (λf i j=>aO (λi j k=>aO (λf i j=>cW (λf=>a7 (λb c d=>am (b 6) λf=>D (cL a c 3 f) λf=>am (b 2) λg=>D (ce a c 3 g f) λc=>am (b 2) λb=>D (cL a c 3 b) λa=>e (.tuple [a,(.bool true)]) c d) λg=>ba f (D (ey [(.bool false),(.bool false),(.int .i64 0)] []) λc=>am (b 2) λd=>D (ce a i 3 d c) λc=>am (b 2) λb=>D (cL a c 3 b) λa=>e (.tuple [a,(.bool false)]) c j) (g (ac (ac (ac (ac b 4 h) 5 c) 6 d) 46 f) i j)) λa=>ba g (a (.bool true)) (a f)) λb=>az false g (D (dn a j .neq 9 false f i) λa=>b a j k) (b al.undef j k)) λa=>az false g (am (b 0) λb=>a b i j) (a al.undef i j)) λb=>az false g (a6 a 204 [i] j k (λa c d=>b a c d) f) (b al.undef j k)) λb=>az false g (D (cL a j 3 d) λa=>b a j k) (b al.undef j k)) λa=>ba i (a (.bool true)) (a g)) λa=>az false i (D (fT .not g) λb=>a b j k) (a al.undef j k)) λb=>az false i (a6 a 182 [g] j k (λa c d=>b a c d) f) (b al.undef j k)) λb=>az false i (D (cL a g 3 d) λa=>b a g j) (b al.undef g j)) f) λf=>ba c (D (ey [(.bool false),(.bool false),(.int .i64 0)] []) λc=>am (b 2) λf=>D (ce a d 3 f c) λc=>am (b 2) λb=>D (cL a c 3 b) λa=>e (.tuple [a,(.bool false)]) c h) (f (ac b 21 c) d h)) λa=>ba g (a (.bool true)) (a c)) λa=>az false g (cW (λb=>a b h i) λa=>ba c (a d) (a (.bool false))) (a al.undef h i)) λa=>az true c (D (aL .neq d (.int .u8 105)) λb=>a b h i) (a al.undef h i)) λa=>az true c (D (kW d (.int .i64 0)) λb=>a b h i) (a al.undef h i)) λa=>az true c (am (b 0) λb=>a b d h) (a al.undef d h)) λa=>az false g (a c d h) (a al.undef d h)) λa=>az false g (D (aL .neq c (.int .u8 117)) λb=>a b d h) (a al.undef d h)) λa=>az false g (D (kW c (.int .i64 0)) λb=>a b d h) (a al.undef d h)) λa=>az false g (am (b 0) λb=>a b c d) (a al.undef c d)) λf=>ba h (D (ey [(.bool false),(.bool false),(.int .i64 0)] [(0,1,(.bool true)),(2,1,(.int .i64 1))]) λb=>D (ce a d 3 c b) λb=>D (cL a b 3 c) λa=>e (.tuple [a,(.bool true)]) b g) (f (ac (ac (ac (c2 [b]) 2 c) 3 (.bool false)) 8 h) d g)
theorem ad2:du X 169 [a0] h k aj aw=SX X a0 h k aj aw:=by kernel_rfl
theorem ad1:da X 169 1=true:=by kernel_rfl
def SZ(a:aX)(b c:H)(d:U an)(e:Nat)(f g:bY):Prop:=
 j0 a d e b λd e h=>D (bf 1 d) λi=>D (ao a e i) λi=>a7 (λb c d=>am (b 2) λe=>D (cL a c 3 e) λe=>am (b 1) λb=>a6 a 205 [e,b] c d (λa b c=>f a b c) g) λg=>ba i (D (bf 2 d) λj=>D (ao a e j) λj=>D (aL .sub j (.int .i64 1)) λj=>D (ey [(.bool false),(.bool false),(.int .i64 0)] [(2,1,j)]) λj=>D (ce a e 3 d j) λe=>D (bf 2 d) λj=>D (ao a e j) λa=>D (aL .eql a (.int .i64 0)) λa=>a7 g λg=>ba a (D (aL .eql c (.int .u64 0)) λa=>f a e h) (g (ac (ac (ac (ac (c2 [b,c]) 2 d) 4 (.bool false)) 6 i) 13 a) e h)) (g (ac (ac (ac (c2 [b,c]) 2 d) 4 (.bool false)) 6 i) e h)
theorem ad4:du X 170 [a0,be] h k aj aw=SZ X a0 be h k aj aw:=by kernel_rfl
theorem ad3:da X 170 2=true:=by kernel_rfl
def S0(a:aX)(b:H)(c:U an)(d:Nat)(e _:bY):Prop:=
 D (ao a c (.ptr 3 0)) λf=>D (iZ a c 9 (.bool false) f b false) λa=>e a c d
theorem ad6:du X 171 [a0] h k aj aw=S0 X a0 h k aj aw:=by kernel_rfl
theorem ad5:da X 171 1=true:=by kernel_rfl
def Tn(a:aX)(b c:H)(d:U an)(e:Nat)(f g:bY):Prop:=
 a6 a 223 [b,c] d e (λa b c=>f a b c) g
theorem aeI:du X 199 [a0,be] h k aj aw=Tn X a0 be h k aj aw:=by kernel_rfl
theorem aeH:da X 199 2=true:=by kernel_rfl
def Tp(a:aX)(b c:H)(d:U an)(e:Nat)(f _:bY):Prop:=
 D (lp b) λg=>D (lp c) λh=>D (aL .geq g h) λg=>aO (λb d e=>aO (λd e h=>aO (λd e h=>aO (λb d e=>aO (λc d e=>aO (λa b c=>cW (λa=>f a b c) λb=>ba g (b a) (b (.bool false))) λf=>az true g (D (dn a d .eql 9 false b c) λa=>f a d e) (f al.undef d e)) λa=>az true g (a c d e) (a al.undef d e)) λa=>az true g (D (jQ b none (some d)) λb=>a b e h) (a al.undef e h)) λa=>az true g (D (lp d) λb=>a b e h) (a al.undef e h)) λa=>az true g (a c d e) (a al.undef d e)) λa=>az true g (a b d e) (a al.undef d e)
theorem aeM:du X 200 [a0,be] h k aj aw=Tp X a0 be h k aj aw:=by kernel_rfl
theorem aeL:da X 200 2=true:=by kernel_rfl
def Tq(a:aX)(b c d:H)(e:U an)(f:Nat)(g h:bY):Prop:=
 D (dn a e .eql 9 true b (.str [])) λi=>a7 (λb c d=>am (b 1) λe=>D (aL .eql e (.int .i64 0)) λe=>am (b 0) λf=>a7 (λb c d=>am (b 2) λe=>D (aL .eql e (.int .i64 0)) λe=>a7 (λb c d=>am (b 1) λe=>a7 (λb c d=>am (b 2) λe=>D (lQ .u64 e) λe=>D (aL .shl (.int .u64 1) e) λe=>D (aL .sub e (.int .u64 1)) λe=>am (b 0) λf=>gn (Mn a c d f) c d λc d f=>D (eF c) λi=>a7 (λb c d=>am (b 12) λe=>aO (λc d f=>aO (λa c d=>aO (λa c d=>cW (λa=>a7 (λa b c=>am (a 13) λa=>g (.tuple [a, .nilIface]) b c) λe=>ba a (D (some (H.iface 281 (.int .i64 2))) λa=>g (.tuple [(.int .u64 0),a]) c d) (e (ac b 169 a) c d)) λb=>ba e (b a) (b (.bool false))) λb=>az true e (D (fT .not a) λa=>b a c d) (b al.undef c d)) λb=>az true e (a6 a 225 [c] d f (λa c d=>b a c d) h) (b al.undef d f)) λa=>az true e (am (b 9) λb=>a b c d) (a al.undef c d)) λj=>fO (λb c d e=>am (c 101) λf=>am (c 100) λi=>D (aL .lss f i) λf=>a7 (λc d e=>a7 (λa c d=>am (a 101) λe=>D (aL .add e (.int .i64 1)) λe=>b (ac a 101 e) c d) λb=>am (c 99) λf=>am (c 101) λi=>D (fp 1 f i) λf=>D (ao a d f) λf=>a7 (λa c d=>am (a 16) λe=>am (a 1) λf=>D (lQ .u8 f) λf=>D (aL .geq e f) λe=>a7 (λa c d=>am (a 13) λe=>am (a 10) λf=>D (aL .geq e f) λe=>a7 (λa c d=>am (a 13) λe=>am (a 1) λf=>D (lQ .u64 f) λf=>D (aL .mul e f) λe=>am (a 16) λf=>D (lQ .u64 f) λf=>D (aL .add e f) λf=>D (aL .lss f e) λh=>aO (λc d i=>aO (λd i j=>aO (λc d i=>cW (λc=>a7 (λa c d=>am (a 17) λe=>b (ac a 13 e) c d) λb=>ba c (am (a 11) λa=>D (some (H.iface 281 (.int .i64 1))) λb=>g (.tuple [a,b]) d i) (b (ac (ac (ac a 13 e) 17 f) 159 c) d i)) λa=>ba h (a (.bool true)) (a c)) λa=>az false h (D (aL .gtr c d) λb=>a b i j) (a al.undef i j)) λb=>az false h (am (a 11) λa=>b a d i) (b al.undef d i)) λa=>az false h (a f c d) (a al.undef c d)) λb=>ba e (am (a 11) λa=>D (some (H.iface 281 (.int .i64 1))) λb=>g (.tuple [a,b]) c d) (b (ac a 141 e) c d)) λb=>ba e (D (some (H.iface 281 (.int .i64 2))) λa=>g (.tuple [(.int .u64 0),a]) c d) (b (ac a 137 e) c d)) λi=>D (aL .eql f (.int .u8 95)) λj=>aO (λd e k=>cW (λd=>a7 i λi=>ba d (b (ac (ac (ac (ac c 15 f) 16 (.int .u8 0)) 106 d) 12 (.bool true)) e k) (D (aL .leq (.int .u8 48) f) λb=>aO (λe j k=>aO (λe j k=>cW (λb=>a7 i λe=>ba b (D (aL .sub f (.int .u8 48)) λa=>e (ac (ac (ac (ac (ac c 15 f) 16 (.int .u8 0)) 106 d) 112 b) 16 a) j k) (a6 a 224 [f] j k (λi j k=>D (aL .leq (.int .u8 97) i) λi=>aO (λj k l=>aO (λj k l=>aO (λj k l=>cW (λi=>a7 e λe=>ba i (a6 a 224 [f] k l (λa g h=>D (aL .sub a (.int .u8 97)) λa=>D (aL .add a (.int .u8 10)) λa=>e (ac (ac (ac (ac (ac (ac c 15 f) 16 (.int .u8 0)) 106 d) 112 b) 121 i) 16 a) g h) h) (D (some (H.iface 281 (.int .i64 2))) λa=>g (.tuple [(.int .u64 0),a]) k l)) λa=>ba i (a j) (a (.bool false))) λa=>az true i (D (aL .leq j (.int .u8 122)) λb=>a b k l) (a al.undef k l)) λb=>az true i (a6 a 224 [j] k l (λa c d=>b a c d) h) (b al.undef k l)) λa=>az true i (a f j k) (a al.undef j k)) h)) λa=>ba b (a e) (a (.bool false))) λa=>az true b (D (aL .leq e (.int .u8 57)) λb=>a b j k) (a al.undef j k)) λa=>az true b (a f e k) (a al.undef e k))) λa=>ba j (a d) (a (.bool false))) λa=>az true j (am (c 8) λb=>a b d e) (a al.undef d e)) λa=>ba f (a (ac c 102 f) d e) (j (ac c 102 f) d e)) (ac (ac (ac (ac (ac (ac b 11 e) 12 (.bool false)) 13 (.int .u64 0)) 99 c) 100 i) 101 (.int .i64 0)) d f) λa=>D (aL .eql e (.int .i64 10)) λf=>a7 a λa=>ba f (a (ac (ac (ac (ac b 10 (.int .u64 0)) 85 e) 90 f) 10 (.int .u64 1844674407370955162)) c d) (D (aL .eql e (.int .i64 16)) λg=>a7 a λa=>ba g (a (ac (ac (ac (ac (ac b 10 (.int .u64 0)) 85 e) 90 f) 92 g) 10 (.int .u64 1152921504606846976)) c d) (am (b 1) λh=>D (lQ .u64 h) λh=>D (aL .quo (.int .u64 18446744073709551615) h) λh=>D (aL .add h (.int .u64 1)) λh=>a (ac (ac (ac (ac (ac b 10 (.int .u64 0)) 85 e) 90 f) 92 g) 10 h) c d))) λa=>ba e (a (ac (ac b 77 e) 2 (.int .i64 64)) c d) (am (b 2) λf=>D (aL .lss f (.int .i64 0)) λf=>aO (λc d h=>aO (λc d h=>cW (λc=>a7 a λa=>ba c (D (some (H.iface 281 (.int .i64 4))) λa=>g (.tuple [(.int .u64 0),a]) d h) (a (ac (ac b 77 e) 83 c) d h)) λa=>ba f (a (.bool true)) (a c)) λa=>az false f (D (aL .gtr c (.int .i64 64)) λb=>a b d h) (a al.undef d h)) λa=>az false f (am (b 2) λb=>a b c d) (a al.undef c d))) λi=>am (b 1) λj=>D (aL .leq (.int .i64 2) j) λj=>aO (λc d k=>aO (λc d k=>cW (λc=>a7 i λi=>ba c (i (ac (ac (ac b 8 e) 9 f) 25 c) d k) (am (b 1) λj=>D (aL .eql j (.int .i64 0)) λj=>a7 i λi=>ba j (am (b 0) λg=>D (kW g (.int .i64 0)) λg=>D (aL .eql g (.int .u8 48)) λg=>a7 i λi=>ba g (a7 i λi=>am (b 0) λl=>D (lp l) λl=>D (aL .geq l (.int .i64 3)) λl=>aO (λd k m=>aO (λd k m=>aO (λd k m=>aO (λd k m=>cW (λd=>a7 i λi=>ba d (am (b 0) λa=>D (jQ a (some (.int .i64 2)) none) λa=>i (ac (ac (ac (ac (ac (ac (ac (ac (ac b 8 e) 9 f) 25 c) 32 j) 1 (.int .i64 10)) 37 g) 40 d) 1 (.int .i64 2)) 0 a) k m) (am (b 0) λl=>D (lp l) λl=>D (aL .geq l (.int .i64 3)) λl=>aO (λk m n=>aO (λk m n=>aO (λk m n=>aO (λk m n=>cW (λk=>a7 i λi=>ba k (am (b 0) λa=>D (jQ a (some (.int .i64 2)) none) λa=>i (ac (ac (ac (ac (ac (ac (ac (ac (ac (ac b 8 e) 9 f) 25 c) 32 j) 1 (.int .i64 10)) 37 g) 40 d) 52 k) 1 (.int .i64 8)) 0 a) m n) (am (b 0) λl=>D (lp l) λl=>D (aL .geq l (.int .i64 3)) λl=>aO (λm n o=>aO (λm n o=>aO (λa h m=>aO (λa h m=>cW (λa=>a7 i λi=>ba a (am (b 0) λl=>D (jQ l (some (.int .i64 2)) none) λl=>i (ac (ac (ac (ac (ac (ac (ac (ac (ac (ac (ac b 8 e) 9 f) 25 c) 32 j) 1 (.int .i64 10)) 37 g) 40 d) 52 k) 64 a) 1 (.int .i64 16)) 0 l) h m) (am (b 0) λl=>D (jQ l (some (.int .i64 1)) none) λl=>i (ac (ac (ac (ac (ac (ac (ac (ac (ac (ac (ac b 8 e) 9 f) 25 c) 32 j) 1 (.int .i64 10)) 37 g) 40 d) 52 k) 64 a) 1 (.int .i64 8)) 0 l) h m)) λb=>ba l (b a) (b (.bool false))) λb=>az true l (D (aL .eql a (.int .u8 120)) λa=>b a h m) (b al.undef h m)) λb=>az true l (a6 a 224 [m] n o (λa c d=>b a c d) h) (b al.undef n o)) λa=>az true l (D (kW m (.int .i64 1)) λb=>a b n o) (a al.undef n o)) λa=>az true l (am (b 0) λb=>a b m n) (a al.undef m n))) λa=>ba l (a k) (a (.bool false))) λa=>az true l (D (aL .eql k (.int .u8 111)) λb=>a b m n) (a al.undef m n)) λb=>az true l (a6 a 224 [k] m n (λa c d=>b a c d) h) (b al.undef m n)) λa=>az true l (D (kW k (.int .i64 1)) λb=>a b m n) (a al.undef m n)) λa=>az true l (am (b 0) λb=>a b k m) (a al.undef k m))) λa=>ba l (a d) (a (.bool false))) λa=>az true l (D (aL .eql d (.int .u8 98)) λb=>a b k m) (a al.undef k m)) λb=>az true l (a6 a 224 [d] k m (λa c d=>b a c d) h) (b al.undef k m)) λa=>az true l (D (kW d (.int .i64 1)) λb=>a b k m) (a al.undef k m)) λa=>az true l (am (b 0) λb=>a b d k) (a al.undef d k)) (i (ac (ac (ac (ac (ac (ac b 8 e) 9 f) 25 c) 32 j) 1 (.int .i64 10)) 37 g) d k)) (D (some (H.iface 281 (.int .i64 3))) λa=>g (.tuple [(.int .u64 0),a]) d k))) λa=>ba j (a c) (a (.bool false))) λa=>az true j (D (aL .leq c (.int .i64 36)) λb=>a b d k) (a al.undef d k)) λa=>az true j (am (b 1) λb=>a b c d) (a al.undef c d)) λa=>ba i (D (some (H.iface 281 (.int .i64 2))) λa=>g (.tuple [(.int .u64 0),a]) e f) (a (ac (ac (ac (c2 [b,c,d]) 6 (.int .u64 0)) 7 .nilIface) 19 i) e f)
theorem aeO:du X 201 [a0,be,b2] h k aj aw=Tq X a0 be b2 h k aj aw:=by kernel_rfl
theorem aeN:da X 201 3=true:=by kernel_rfl
def Tr(a:aX)(b c d e f:H)(g:U an)(h:Nat)(i j:bY):Prop:=
 a7 (λa b c=>am (a 4) λa=>i a b c) λk=>D (some (H.iface 281 (.int .i64 2))) λl=>D (dn a g .eql 238 false f l) λl=>a7 k λk=>ba l (a6 a 226 [b,c] g h (λa b c=>D (some (H.iface 283 a)) λa=>i a b c) j) (D (some (H.iface 281 (.int .i64 1))) λm=>D (dn a g .eql 238 false f m) λm=>a7 k λk=>ba m (a6 a 227 [b,c] g h (λa b c=>D (some (H.iface 283 a)) λa=>i a b c) j) (D (some (H.iface 281 (.int .i64 3))) λn=>D (dn a g .eql 238 false f n) λn=>a7 k λk=>ba n (a6 a 228 [b,c,d] g h (λa b c=>D (some (H.iface 283 a)) λa=>i a b c) j) (D (some (H.iface 281 (.int .i64 4))) λo=>D (dn a g .eql 238 false f o) λo=>a7 k λk=>ba o (a6 a 229 [b,c,e] g h (λa b c=>D (some (H.iface 283 a)) λa=>i a b c) j) (k (ac (ac (ac (ac (ac (ac (c2 [b,c,d,e,f]) 10 .nilIface) 11 f) 12 l) 19 m) 26 n) 34 o) g h))))
theorem aeQ:du X 202 [a0,be,b2,a3,a4] h k aj aw=Tr X a0 be b2 a3 a4 h k aj aw:=by kernel_rfl
theorem aeP:da X 202 5=true:=by kernel_rfl
def Ts(a:aX)(b:H)(c:U an)(d:Nat)(e f:bY):Prop:=
 a6 a 230 [b] c d (λc d g=>D (c9 0 c) λh=>D (c9 1 c) λc=>D (dn a d .neq 238 true c .nilIface) λi=>a7 (λa b c=>am (a 4) λa=>e (.tuple [a, .nilIface]) b c) λj=>ba i (a6 a 202 [(.str [65,116,111,105]),b,(.int .i64 0),(.int .i64 0),c] d g (λa b c=>e (.tuple [h,a]) b c) f) (j (ac (ac (ac (ac (ac (c2 [b]) 2 (.int .i64 0)) 3 .nilIface) 4 h) 5 c) 12 i) d g)) f
theorem aeS:du X 203 [a0] h k aj aw=Ts X a0 h k aj aw:=by kernel_rfl
theorem aeR:da X 203 1=true:=by kernel_rfl
def Tt(a:aX)(b:H)(c:U an)(d:Nat)(e f:bY):Prop:=
 j0 a c d b λc d g=>a7 (λb c d=>am (b 1) λb=>D (bf 2 b) λb=>D (ao a c b) λb=>a6 a 183 [b] c d (λb c d=>D (dn a c .add 9 true (.str [117]) b) λa=>e a c d) f) λh=>D (cL a d 3 c) λi=>a6 a 182 [i] d g (λd g i=>D (fT .not d) λd=>a7 h λh=>ba d (e (.str []) g i) (D (bf 0 c) λj=>D (ao a g j) λj=>a7 h λh=>ba j (e (.str [98,111,111,108]) g i) (D (bf 1 c) λk=>D (ao a g k) λk=>a7 h λh=>ba k (D (bf 2 c) λb=>D (ao a g b) λb=>a6 a 183 [b] g i (λb c d=>D (dn a c .add 9 true (.str [105]) b) λa=>e a c d) f) (h (ac (ac (ac (ac (ac (c2 [b]) 1 c) 2 (.str [])) 3 d) 7 j) 10 k) g i)))) f
theorem aeU:du X 204 [a0] h k aj aw=Tt X a0 h k aj aw:=by kernel_rfl
theorem aeT:da X 204 1=true:=by kernel_rfl
def Tu(a:aX)(b c:H)(d:U an)(e:Nat)(f g:bY):Prop:=
 j0 a d e b λb d e=>D (cL a d 3 b) λh=>a6 a 182 [h] d e (λd e h=>aO (λc e h=>aO (λb e h=>aO (λa b e=>aO (λa b c=>aO (λa b c=>cW (λa=>f a b c) λb=>ba d (b a) (b (.bool false))) λe=>az true d (D (aL .eql a (.int .u64 0)) λa=>e a b c) (e al.undef b c)) λf=>az true d (D (aL .andNot c a) λa=>f a b e) (f al.undef b e)) λc=>az true d (a6 a 231 [b] e h (λa b d=>c a b d) g) (c al.undef e h)) λc=>az true d (D (cL a e 3 b) λa=>c a e h) (c al.undef e h)) λa=>az true d (a c e h) (a al.undef e h)) g
theorem aeW:du X 205 [a0,be] h k aj aw=Tu X a0 be h k aj aw:=by kernel_rfl
theorem aeV:da X 205 2=true:=by kernel_rfl
def TE(a:aX)(b c:H)(d:U an)(e:Nat)(f g:bY):Prop:=
 fD (e+7) λh=>D (ao a d (.ptr 6 0)) λi=>a6 a 240 [c] d h (λc d g=>D (ey [(.str []),(.str []), .nilIface] [(0,1,b),(1,1,c),(2,1,i)]) λb=>wQ a d (e+5) b λb c=>D (ao a c (.ptr 6 0)) λa=>h8 a (some i) (f b c g)) g
theorem afi:du X 226 [a0,be] h k aj aw=TE X a0 be h k aj aw:=by kernel_rfl
theorem afh:da X 226 2=true:=by kernel_rfl
def TF(a:aX)(b c:H)(d:U an)(e:Nat)(f g:bY):Prop:=
 fD (e+7) λh=>D (ao a d (.ptr 7 0)) λi=>a6 a 240 [c] d h (λc d g=>D (ey [(.str []),(.str []), .nilIface] [(0,1,b),(1,1,c),(2,1,i)]) λb=>wQ a d (e+5) b λb c=>D (ao a c (.ptr 7 0)) λa=>h8 a (some i) (f b c g)) g
theorem afk:du X 227 [a0,be] h k aj aw=TF X a0 be h k aj aw:=by kernel_rfl
theorem afj:da X 227 2=true:=by kernel_rfl
def TG(a:aX)(b:H)(c:U an)(d:Nat)(e f:bY):Prop:=
 D (lp b) λg=>aO (λc d h=>aO (λc d h=>aO (λc d h=>aO (λd h i=>aO (λd h i=>aO (λc d h=>cW (λc=>aO (λd h i=>aO (λh i j=>aO (λh i j=>aO (λh i j=>aO (λi j k=>aO (λi j k=>aO (λh i j=>aO (λd h i=>cW (λc=>a7 (λb c d=>am (b 0) λb=>a6 a 242 [b,(.int .i64 10),(.int .i64 0)] c d (λa b c=>D (c9 0 a) λd=>D (c9 1 a) λa=>e (.tuple [d,a]) b c) f) λd=>ba c (D (kW b (.int .i64 0)) λd=>D (aL .eql d (.int .u8 45)) λd=>aO (λf h i=>aO (λf h i=>aO (λf h i=>cW (λd=>a7 (λb c d=>am (b 0) λf=>gn (Mn a c d f) c d λc d f=>D (eF c) λg=>a7 (λa b c=>am (a 5) λd=>D (kW d (.int .i64 0)) λd=>D (aL .eql d (.int .u8 45)) λd=>a7 (λa b c=>am (a 6) λa=>e (.tuple [a, .nilIface]) b c) λe=>ba d (am (a 6) λf=>D (fT .neg f) λf=>e (ac (ac a 66 d) 6 f) b c) (e (ac a 66 d) b c)) λh=>fO (λb c d f=>am (c 49) λg=>am (c 48) λi=>D (aL .lss g i) λg=>a7 (λc d f=>a7 (λa c d=>am (a 49) λe=>D (aL .add e (.int .i64 1)) λe=>b (ac a 49 e) c d) λb=>am (c 47) λg=>am (c 49) λh=>D (fp 1 g h) λg=>D (ao a d g) λa=>D (aL .sub a (.int .u8 48)) λg=>D (aL .gtr g (.int .u8 9)) λh=>a7 (λa c d=>am (a 6) λe=>D (aL .mul e (.int .i64 10)) λe=>am (a 8) λf=>D (lQ .i64 f) λf=>D (aL .add e f) λe=>b (ac a 6 e) c d) λb=>ba h (D (some (H.iface 281 (.int .i64 2))) λa=>e (.tuple [(.int .i64 0),a]) d f) (b (ac (ac (ac c 8 a) 8 g) 56 h) d f)) λa=>ba g (a (ac c 50 g) d f) (h (ac c 50 g) d f)) (ac (ac (ac (ac b 6 (.int .i64 0)) 47 c) 48 g) 49 (.int .i64 0)) d f) λa=>ba d (D (jQ b (some (.int .i64 1)) none) λf=>D (lp f) λj=>D (aL .lss j (.int .i64 1)) λj=>a7 a λa=>ba j (D (some (H.iface 281 (.int .i64 2))) λa=>e (.tuple [(.int .i64 0),a]) h i) (a (ac (ac (ac (ac (ac (ac (ac (ac (c2 [b]) 2 (.int .i64 0)) 3 .nilIface) 4 g) 30 c) 5 b) 39 d) 0 f) 44 j) h i)) (a (ac (ac (ac (ac (ac (ac (c2 [b]) 2 (.int .i64 0)) 3 .nilIface) 4 g) 30 c) 5 b) 39 d) h i)) λa=>ba d (a (.bool true)) (a f)) λa=>az false d (D (aL .eql f (.int .u8 43)) λb=>a b h i) (a al.undef h i)) λa=>az false d (D (kW f (.int .i64 0)) λb=>a b h i) (a al.undef h i)) λa=>az false d (a b h i) (a al.undef h i)) (d (ac (ac (ac (ac (c2 [b]) 2 (.int .i64 0)) 3 .nilIface) 4 g) 30 c) h i)) λa=>ba c (a (.bool true)) (a d)) λa=>az false c (cW (λb=>a b i j) λa=>ba d (a h) (a (.bool false))) (a al.undef i j)) λa=>az true d (cW (λb=>a b j k) λa=>ba h (a i) (a (.bool false))) (a al.undef j k)) λa=>az true h (D (aL .lss i (.int .i64 19)) λb=>a b j k) (a al.undef j k)) λa=>az true h (a g i j) (a al.undef i j)) λa=>az true d (a h i j) (a al.undef i j)) λa=>az true d (D (aL .lss (.int .i64 0) h) λb=>a b i j) (a al.undef i j)) λa=>az true d (a g h i) (a al.undef h i)) λa=>az false c (a (.bool true) d h) (a al.undef d h)) λa=>ba (.bool false) (a c) (a (.bool false))) λa=>az true (.bool false) (cW (λb=>a b h i) λa=>ba c (a d) (a (.bool false))) (a al.undef h i)) λa=>az true c (D (aL .lss d (.int .i64 10)) λb=>a b h i) (a al.undef h i)) λa=>az true c (a g d h) (a al.undef d h)) λa=>az true (.bool false) (a c d h) (a al.undef d h)) λa=>az true (.bool false) (D (aL .lss (.int .i64 0) c) λb=>a b d h) (a al.undef d h)) λa=>az true (.bool false) (a g c d) (a al.undef c d)
theorem afm:du X 230 [a0] h k aj aw=TG X a0 h k aj aw:=by kernel_rfl
theorem afl:da X 230 1=true:=by kernel_rfl
def TH(a:aX)(b:H)(c:U an)(d:Nat)(e _:bY):Prop:=
 j0 a c d b λb c d=>D (bf 2 b) λb=>D (ao a c b) λa=>D (aL .sub (.int .i64 64) a) λa=>D (aL .shr (.int .u64 18446744073709551615) a) λa=>e a c d
theorem afo:du X 231 [a0] h k aj aw=TH X a0 h k aj aw:=by kernel_rfl
theorem afn:da X 231 1=true:=by kernel_rfl
def TL(a:aX)(b c d:H)(e:U an)(f:Nat)(g h:bY):Prop:=
 D (dn a e .eql 9 true b (.str [])) λi=>a7 (λb c d=>am (b 0) λe=>D (kW e (.int .i64 0)) λe=>a7 (λb c d=>am (b 0) λe=>am (b 1) λf=>am (b 2) λi=>a6 a 201 [e,f,i] c d (λc d e=>D (c9 0 c) λf=>D (c9 1 c) λc=>D (dn a d .neq 238 true c .nilIface) λh=>aO (λd e i=>aO (λe i j=>aO (λa d e=>cW (λa=>a7 (λa b c=>am (a 2) λd=>D (aL .eql d (.int .i64 0)) λd=>a7 (λa b c=>am (a 2) λd=>D (aL .sub d (.int .i64 1)) λd=>D (lQ .u64 d) λd=>D (aL .shl (.int .u64 1) d) λd=>am (a 8) λe=>D (fT .not e) λe=>aO (λb c f=>aO (λc f h=>aO (λb c f=>cW (λb=>a7 (λa b c=>am (a 8) λd=>aO (λb c e=>aO (λc e f=>aO (λb c e=>cW (λb=>a7 (λa b c=>am (a 9) λd=>D (lQ .i64 d) λd=>am (a 8) λe=>a7 (λa b c=>am (a 11) λa=>g (.tuple [a, .nilIface]) b c) λf=>ba e (D (fT .neg d) λg=>f (ac (ac (ac a 11 d) 69 e) 11 g) b c) (f (ac (ac a 11 d) 69 e) b c)) λd=>ba b (am (a 10) λa=>D (lQ .i64 a) λa=>D (fT .neg a) λa=>D (some (H.iface 281 (.int .i64 1))) λb=>g (.tuple [a,b]) c e) (d (ac a 62 b) c e)) λa=>ba d (a b) (a (.bool false))) λa=>az true d (D (aL .gtr b c) λb=>a b e f) (a al.undef e f)) λb=>az true d (am (a 10) λa=>b a c e) (b al.undef c e)) λe=>az true d (am (a 9) λa=>e a b c) (e al.undef b c)) λe=>ba b (D (aL .sub d (.int .u64 1)) λa=>D (lQ .i64 a) λa=>D (some (H.iface 281 (.int .i64 1))) λb=>g (.tuple [a,b]) c f) (e (ac (ac a 10 d) 52 b) c f)) λa=>ba e (a b) (a (.bool false))) λa=>az true e (D (aL .geq b c) λb=>a b f h) (a al.undef f h)) λa=>az true e (a d c f) (a al.undef c f)) λd=>az true e (am (a 9) λa=>d a b c) (d al.undef b c)) λe=>ba d (e (ac (ac a 41 d) 2 (.int .i64 64)) b c) (e (ac a 41 d) b c)) λh=>ba a (g (.tuple [(.int .i64 0),c]) d e) (h (ac (ac (ac (ac b 9 (.int .u64 0)) 9 f) 7 c) 38 a) d e)) λb=>ba h (b a) (b (.bool false))) λb=>az true h (D (dn a i .neq 238 false d e) λa=>b a i j) (b al.undef i j)) λa=>az true h (D (some (H.iface 281 (.int .i64 1))) λb=>a b e i) (a al.undef e i)) λa=>az true h (a c d e) (a al.undef d e)) h) λa=>D (aL .eql e (.int .u8 43)) λf=>a7 a λa=>ba f (am (b 0) λg=>D (jQ g (some (.int .i64 1)) none) λg=>a (ac (ac (ac (ac b 8 (.bool false)) 16 e) 17 f) 0 g) c d) (D (aL .eql e (.int .u8 45)) λg=>a7 a λa=>ba g (am (b 0) λh=>D (jQ h (some (.int .i64 1)) none) λh=>a (ac (ac (ac (ac (ac (ac b 8 (.bool false)) 16 e) 17 f) 21 g) 0 h) 8 (.bool true)) c d) (a (ac (ac (ac (ac b 8 (.bool false)) 16 e) 17 f) 21 g) c d))) λa=>ba i (D (some (H.iface 281 (.int .i64 2))) λa=>g (.tuple [(.int .i64 0),a]) e f) (a (ac (ac (ac (c2 [b,c,d]) 6 (.int .i64 0)) 7 .nilIface) 13 i) e f)
theorem afw:du X 242 [a0,be,b2] h k aj aw=TL X a0 be b2 h k aj aw:=by kernel_rfl
theorem afv:da X 242 3=true:=by kernel_rfl
def Td(a:aX)(b:H)(c:U an)(d:Nat)(e f:bY):Prop:=
 a6 a 209 [b] c d (λa b c=>e a b c) f
theorem aeo:du X 183 [a0] h k aj aw=Td X a0 h k aj aw:=by kernel_rfl
theorem aen:da X 183 1=true:=by kernel_rfl
def Ty(a:aX)(b:H)(c:U an)(d:Nat)(e f:bY):Prop:=
 a6 a 233 [b,(.int .i64 10)] c d (λa b c=>e a b c) f
theorem ae4:du X 209 [a0] h k aj aw=Ty X a0 h k aj aw:=by kernel_rfl
theorem ae3:da X 209 1=true:=by kernel_rfl
def TJ(a:aX)(b c:H)(d:U an)(e:Nat)(f g:bY):Prop:=
 D (aL .eql c (.int .i64 10)) λh=>a7 (λb c d=>am (b 0) λe=>D (lQ .u64 e) λe=>am (b 1) λh=>am (b 0) λb=>D (aL .lss b (.int .i64 0)) λb=>a6 a 247 [.aU,e,h,b,(.bool false)] c d (λa b c=>D (c9 0 a) λ_=>D (c9 1 a) λa=>f a b c) g) λi=>ba h (D (aL .leq (.int .i64 0) b) λi=>aO (λd e j=>aO (λd e j=>cW (λd=>a7 (λb c d=>D (dH [(.int .u8 0),(.int .u8 0),(.int .u8 0),(.int .u8 0),(.int .u8 0),(.int .u8 0),(.int .u8 0),(.int .u8 0),(.int .u8 0),(.int .u8 0),(.int .u8 0),(.int .u8 0),(.int .u8 0),(.int .u8 0),(.int .u8 0),(.int .u8 0),(.int .u8 0),(.int .u8 0),(.int .u8 0),(.int .u8 0),(.int .u8 0),(.int .u8 0),(.int .u8 0),(.int .u8 0)] d) λe=>cU a c d e.1 e.2 λc d e=>am (b 0) λh=>D (lQ .u64 h) λh=>am (b 0) λi=>D (aL .lss i (.int .i64 0)) λi=>a7 (λb c d=>am (b 6) λe=>a6 a 245 [e] c d (λc d e=>D (aL .add (.int .i64 1) c) λh=>am (b 5) λi=>D (Rz 24 1 i (some (.int .i64 1)) (some h) none) λh=>am (b 6) λi=>a6 a 246 [h,i] d e (λ_ d e=>am (b 0) λg=>D (aL .lss g (.int .i64 0)) λg=>a7 (λb c d=>am (b 7) λe=>D (aL .add (.int .i64 1) e) λe=>am (b 5) λb=>D (Rz 24 1 b (some (.int .i64 1)) (some e) none) λb=>D (yB a c b) λa=>f a c d) λh=>ba g (am (b 5) λg=>D (Ey 24 1 g (.int .i64 0)) λg=>D (ce a d 1 g (.int .u8 45)) λd=>D (aL .add (.int .i64 1) c) λc=>am (b 5) λb=>D (Rz 24 1 b none (some c) none) λb=>D (yB a d b) λa=>f a d e) (h (ac (ac b 7 c) 34 g) d e)) g) g) λa=>ba i (D (fT .neg h) λf=>a (ac (ac (ac (ac b 5 c) 6 h) 23 i) 6 f) d e) (a (ac (ac (ac b 5 c) 6 h) 23 i) d e)) λi=>ba d (a6 a 244 [b] e j (λa b c=>f a b c) g) (i (ac (ac (ac (c2 [b,c]) 4 (.str [])) 11 h) 17 d) e j)) λa=>ba i (a d) (a (.bool false))) λa=>az true i (D (aL .lss d (.int .i64 100)) λb=>a b e j) (a al.undef e j)) λa=>az true i (a b d e) (a al.undef d e)) (i (ac (ac (c2 [b,c]) 4 (.str [])) 11 h) d e)
theorem afs:du X 233 [a0,be] h k aj aw=TJ X a0 be h k aj aw:=by kernel_rfl
theorem afr:da X 233 2=true:=by kernel_rfl
end
end Go.Proofs.YtpfajohmofnkfaaGreatDoor

namespace Go.Proofs.YtpfajohmofnkfaaGreatDoor
open Go.al
noncomputable section
variable (X : cD) (h : U an) (k : Nat) (aj aw : bY) (a0 be b2 a3 a4 a5 hT iv kc : H)
def TD(_:aX)(a:H)(b:U an)(c:Nat)(d _:bY):Prop:=
 D (aL .or a (.int .u8 32)) λa=>d a b c
theorem afg:du X 224 [a0] h k aj aw=TD X a0 h k aj aw:=by kernel_rfl
theorem aff:da X 224 1=true:=by kernel_rfl
def TN(_:aX)(a:H)(b:U an)(c:Nat)(d _:bY):Prop:=
 D (aL .lss a (.int .i64 10)) λe=>a7 (λa b c=>am (a 0) λe=>D (aL .mul e (.int .i64 2)) λe=>am (a 0) λa=>D (aL .mul a (.int .i64 2)) λa=>D (aL .add a (.int .i64 2)) λa=>D (jQ (.str [48,48,48,49,48,50,48,51,48,52,48,53,48,54,48,55,48,56,48,57,49,48,49,49,49,50,49,51,49,52,49,53,49,54,49,55,49,56,49,57,50,48,50,49,50,50,50,51,50,52,50,53,50,54,50,55,50,56,50,57,51,48,51,49,51,50,51,51,51,52,51,53,51,54,51,55,51,56,51,57,52,48,52,49,52,50,52,51,52,52,52,53,52,54,52,55,52,56,52,57,53,48,53,49,53,50,53,51,53,52,53,53,53,54,53,55,53,56,53,57,54,48,54,49,54,50,54,51,54,52,54,53,54,54,54,55,54,56,54,57,55,48,55,49,55,50,55,51,55,52,55,53,55,54,55,55,55,56,55,57,56,48,56,49,56,50,56,51,56,52,56,53,56,54,56,55,56,56,56,57,57,48,57,49,57,50,57,51,57,52,57,53,57,54,57,55,57,56,57,57]) (some e) (some a)) λa=>d a b c) λf=>ba e (D (aL .add a (.int .i64 1)) λe=>D (jQ (.str [48,49,50,51,52,53,54,55,56,57,97,98,99,100,101,102,103,104,105,106,107,108,109,110,111,112,113,114,115,116,117,118,119,120,121,122]) (some a) (some e)) λa=>d a b c) (f (ac (ac (c2 [a]) 2 (.str [])) 4 e) b c)
theorem afA:du X 244 [a0] h k aj aw=TN X a0 h k aj aw:=by kernel_rfl
theorem afz:da X 244 1=true:=by kernel_rfl
end
end Go.Proofs.YtpfajohmofnkfaaGreatDoor

namespace Go.Proofs.YtpfajohmofnkfaaGreatDoor
open Go.al Go.bh
noncomputable section
def ij(c:Nat):Bool:=decide (48<=c)&&decide (c<=57)
def pT(c:Nat):Bool:=decide (97<=c)&&decide (c<=122)||decide (65<=c)&&decide (c<=90)||decide (c=95)
def iy(c:Nat):Bool:=pT c||ij c
theorem Al{s:a1}{i c:Nat}(B:IntKind)(a:s[i]? =some c):kW (.str s) (.int B (i:Int))=some (.int .u8 (c:Int)):=by
 simp[kW,p2,a]
theorem RA{s:a1}{l a:Nat}(B eA:IntKind)(M:l<=a)(R:a<=s.length):jQ (.str s) (some (.int B (l:Int))) (some (.int eA (a:Int)))=some (.str ((s.drop l).take (a-l))):=by
 simp[jQ,nd,pZ,p2,fB,M,R]
theorem Mq{s:a1}{l:Nat}(B:IntKind)(M:l<=s.length):jQ (.str s) (some (.int B (l:Int))) none=some (.str (s.drop l)):=by
 simp[jQ,nd,pZ,p2,fB,M,ZN]
theorem asf{s:a1}{a:Nat}(B:IntKind)(M:a<=s.length):jQ (.str s) none (some (.int B (a:Int)))=some (.str (s.take a)):=by
 simp[jQ,nd,pZ,p2,fB,M]
section
variable{X:cD}{h V bb aV:U an}{k av aQ bp:Nat}
theorem NR(aA:d7 X)(c:Nat):a6 X 112 [.int .u8 (c:Int)] h k (λad V av=>ad= .bool (ij c)/\V=h/\av=k) (λ_ _ _=>False):=by
 refine dj (ac6 X) (aA.none _ _ rfl) ?_
 rw[ac7]
 unfold Su
 by_cases a:48<=c
 ·have d:decide ((48:Int)<=(c:Int))=true:=by simp;omega
  have cG:decide ((c:Int)<=57)=decide (c<=57):=by simp;omega
  refine dc @d @cG ⟨?_⟩
  exact⟨by simp[ij,a],rfl,rfl⟩
 ·have d:decide ((48:Int)<=(c:Int))=false:=by simp;omega
  refine cx @d ⟨?_⟩
  exact⟨by simp[ij,a],rfl,rfl⟩
theorem UF(aA:d7 X)(c:Nat):a6 X 114 [.int .u8 (c:Int)] h k (λad V av=>ad= .bool (pT c)/\V=h/\av=k) (λ_ _ _=>False):=by
 refine dj (ada X) (aA.none _ _ rfl) ?_
 rw[adb]
 unfold Sw
 have cQ:decide ((97:Int)<=(c:Int))=decide (97<=c):=by simp;omega
 have cG:decide ((c:Int)<=122)=decide (c<=122):=by simp;omega
 have eL:decide ((65:Int)<=(c:Int))=decide (65<=c):=by simp;omega
 have ic:decide ((c:Int)<=90)=decide (c<=90):=by simp;omega
 have fM:decide ((c:Int)=95)=decide (c=95):=by simp;omega
 by_cases M:97<=c<;>by_cases R:c<=122<;>by_cases au:65<=c<;>by_cases aM:c<=90<;>try omega
 all_goals
  simp only[M,R,au,aM,Yn,Yf]at cQ cG eL ic
  refine gd @cQ @cG @eL @ic @fM ⟨?_⟩
  exact⟨by simp[pT,M,R,au,aM],rfl,rfl⟩
theorem apw(aA:d7 X)(c:Nat):a6 X 168 [.int .u8 (c:Int)] h k (λad V av=>ad= .bool (iy c)/\V=h/\av=k) (λ_ _ _=>False):=by
 refine dj (adZ X) (aA.none _ _ rfl) ?_
 rw[ad0]
 unfold SW
 refine(UF aA c).Zm ?_
 rintro ad V av ⟨rfl,rfl,rfl⟩
 cases ai:pT c with
 |true=>
  refine c0 ⟨?_⟩
  exact⟨by simp[iy,ai],rfl,rfl⟩
 |false=>
  refine c0 ⟨?_⟩
  refine(NR aA c).Zm ?_
  rintro ad V av ⟨rfl,rfl,rfl⟩
  refine c0 ⟨?_⟩
  exact⟨by simp[iy,ai],rfl,rfl⟩
theorem apO(aA:d7 X)(c:Nat):a6 X 166 [.int .u8 (c:Int)] h k (λad V av=>ad= .bool (decide (c≠10))/\V=h/\av=k) (λ_ _ _=>False):=by
 refine dj (adV X) (aA.none _ _ rfl) ?_
 rw[adW]
 unfold SU
 refine c0 ⟨?_⟩
 exact⟨by congr 1;simp;omega,rfl,rfl⟩
def p1(c:Nat):Nat:=(BitVec.ofInt 8 (c:Int)|||BitVec.ofInt 8 32).toNat%256
theorem QM(aA:d7 X)(c:Nat):a6 X 224 [.int .u8 (c:Int)] h k (λad V av=>ad= .int .u8 (p1 c:Int)/\V=h/\av=k) (λ_ _ _=>False):=by
 refine dj (aff X) (aA.none _ _ rfl) ?_
 rw[afg]
 unfold TD
 have E:aL .or (.int .u8 (c:Int)) (.int .u8 32)=some (.int .u8 (ox .u8 ((BitVec.ofInt 8 (c:Int)|||BitVec.ofInt 8 32).toNat))):=by
  simp[aL,ln,lE,k6,kE];rfl
 refine cx @E ⟨?_⟩
 exact⟨rfl,rfl,rfl⟩
theorem abz(aA:d7 X)(s p:a1):a6 X 164 [.str s, .str p] h k (λad V av=>ad= .bool (decide (p.length<=s.length/\s.take p.length=p))/\V=h/\av=k) (λ_ _ _=>False):=by
 refine dj (adR X) (aA.none _ _ rfl) ?_
 rw[adS]
 unfold SR
 refine dj (aeL X) (aA.none _ _ rfl) ?_
 rw[aeM]
 unfold Tp
 by_cases a:p.length<=s.length
 ·have d:decide ((p.length:Int)<=(s.length:Int))=true:=by simp;omega
  have E:=asf (s:=s) .i64 a
  refine dc @d @E ⟨?_⟩
  exact⟨by congr 1;simp[a],rfl,rfl⟩
 ·have d:decide ((p.length:Int)<=(s.length:Int))=false:=by simp;omega
  refine cx @d ⟨?_⟩
  exact⟨by congr 1;simp;omega,rfl,rfl⟩
end
end
end Go.Proofs.YtpfajohmofnkfaaGreatDoor

