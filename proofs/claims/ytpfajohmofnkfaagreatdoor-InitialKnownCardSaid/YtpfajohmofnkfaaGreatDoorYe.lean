/- A part of the proof of the claim's last text: what it is used for is said there; no condition of its own. -/
import Derived.Test.YtpfajohmofnkfaaGreatDoorYd
import Derived.ChangeReads
import GoSem.ClaimJoined
import Derived.Lib.Bytealg
import Derived.LaidLaws
set_option maxHeartbeats 8000000
set_option linter.all false
namespace Go.bg
open Go.RowKit (Below)
section
variable{C:aW}{Q c9 dK:c6}{ae du d4:Nat->Prop}{h T:S ak}{j ao bi:Nat}{w bV:World}{n aq:Nat}{av:Array Oper}
variable{bo:World}{bv:Nat}{bO:List Frame}{v:H}{al:hm}
variable{fn:Nat}{bb:List hy}{aD:Bool}{ro:Option Nat}{cs:List gC}{K:S H}{tmps:Array Value}{bq:List Item}{ap:List Frame}{bT aM:Nat}
def de.more(Z:de C Q ae h j bi w)(aK:j<=ao)(hS:∀b,ae b->aa C T b=aa C h b)(c2:∀b W,aa C T b=some W->b<ao):de C Q ae T ao bi w:=by
 refine⟨ZA Z.a7 aK,λb a=>ZK (Z.lt b a) aK,c2,λb W a d=>Z.obj b W (by rw[<-hS b d];exact a) d,λb dR W o' a cD d lj=>Z.sep b dR W o' (by rw[<-hS b d];exact a) (by rw[<-hS dR lj];exact cD) d lj,λb W ai a d=>Z.base b W ai (by rw[<-hS b d];exact a) d,λb W a d=>Z.fk b W (by rw[<-hS b d];exact a) d⟩
def aci(df:pg C n aq av){l b5:pj}(aB:l∈lE C n aq av)(hh:b5∈lE C n aq av)(a:l.x.i=b5.x.i):l=b5:=by
 obtain⟨J,aC⟩:=ZX.1 aB
 obtain⟨b,ai⟩:=ZX.1 hh
 obtain⟨Ih,nl⟩:=Zc.1 aC
 obtain⟨nV,nn⟩:=Zc.1 ai
 have ay:=Pe df
 rw[YH]at ay
 rcases YL J b with c2|F|gU
 ·have:=ay J b Ih nV c2
  rw[nl,nn]at this;omega
 ·subst F;rw[<-nl,nn]
 ·have:=ay b J nV Ih gU
  rw[nl,nn]at this;omega
def WG(cG:Env C bo dK d4)(gh:nc C bo bv bO al){D:List dN}{base d0:Nat}{au:List (Nat×H)}{di:Nat->Prop}{l:List Nat}(aC:iO C bo bv bO fn aq bb aD ro cs h j Q ae w bT ap)
 (aF:lx C Q ae aq D bq)(uI:bT<=base)(gg:base+av.size<=j)(gL:C.a7<=base)(aH:qG C Q ae h base n aq av au d0 d0 K tmps di)(aI:we av di l)
 (a:xV al C av base au (yK (lE C n aq av) d0 ((gx C n aq av).drop d0)) (kT aq av.toList 0) D ⟨fn,n,aq,bb,aD,ro,cs⟩ K h j=some v):Ends C bo bv bO v (lone (co Q fn bb aD ro tmps (.inRegion av l::bq) .run) ap w):=by
 obtain⟨s,rest,bB,cF,fp,jM⟩:=avw (ij:=lE C n aq av) (D:=d0) (aB:=(gx C n aq av).drop d0)
 rw[bB]at a
 simp only[xV]at a
 split at a
 ·simp at a
 ·rename_i ho T f0
  simp only[eY]at a
  obtain⟨Mv,a⟩:=a
  rw[cF]at f0
  rw[fp]at Mv
  have QA:∀x∈sQ d0 (lE C n aq av),et au x.i=none/\aa C h (base+x.i)=none/\nt x.op=false:=by
   intro x ag
   obtain⟨eh,R,U,rfl⟩:=An.1 ag
   have bA:et au eh.x.i=none:=by
    cases bA:et au eh.x.i with
    |none=>rfl
    |some ad=>
     exfalso
     rcases aH.keys _ ad bA with ⟨c5,b3,b2,cQ⟩|⟨p,e,b3,b2,_⟩
     ·have:=aci aH.st b3 R b2
      subst this;omega
     ·exact M3 aH.st R b3 b2.symm
   obtain⟨_,_,cQ,_⟩:=KY R
   exact⟨bA,aH.free _ (KX aH.st R) bA,cQ⟩
  obtain⟨bZ,cw,c0,ep,dG⟩:=akr gL _ _ _ _ _ (ajp (Pe aH.st)) QA f0
  have Rj:∀b,ae b->aa C T b=aa C h b:=by
   intro b ai
   by_cases an:aa C T b=aa C h b
   ·exact an
   ·obtain⟨x,ag,F⟩:=ep b an
    obtain⟨eh,R,U,rfl⟩:=An.1 ag
    have bS:=aH.ids _ (KX aH.st R) (F▸ai)
    have:=aH.tx eh R bS
    omega
  have k0:de C Q ae T j bo.heap.size w:=aC.Z.more (Zi _) Rj (λb W ai=>by
   by_cases an:aa C T b=aa C h b
   ·exact aC.Z.vn b W (by rw[<-an];exact ai)
   ·obtain⟨x,ag,F⟩:=ep b an
    obtain⟨eh,R,U,rfl⟩:=An.1 ag
    have:=KX aH.st R
    omega)
  have ag:iq C bT Q ae h bo.heap.size w Q ae T w:=⟨λ_ _=>rfl,λ_ a=>a,λ_ a=> .inl a,λb _ c2=>by
   by_cases an:aa C T b=aa C h b
   ·exact an
   ·obtain⟨x,ag,F⟩:=ep b an
    omega,Below.refl _ _⟩
  have yh:=aC.ext k0 ag (Zi _)
  have r3:qG C Q ae T base n aq av ho d0 (d0+1) K tmps di:=by
   refine⟨aH.st,aH.size,aH.MW,aH.dW,aH.closed,aH.w5,aH.done,λeh R U=>Nat.lt_succ_of_lt (aH.tx eh R U), ?_, ?_, ?_, ?_,aH.ids, ?_⟩
   ·intro i ad bc
    rcases c0 i (by rw[bc];simp)with R|⟨x,R,U⟩
    ·cases bA:et au i with
     |none=>exact absurd bA R
     |some sJ=>
      rcases aH.keys i sJ bA with ⟨eh,b3,b2,cQ⟩|g
      ·exact .inl ⟨eh,b3,b2,Zo⟩
      ·exact .inr g
    ·obtain⟨eh,b3,b2,rfl⟩:=An.1 R
     exact .inl ⟨eh,b3,U,Zo⟩
   ·intro p e I ay
    obtain⟨ad,bc⟩:=aH.uH p e I ay
    exact⟨ad,bZ _ _ bc⟩
   ·intro eh R U
    by_cases an:eh.bT=d0
    ·obtain⟨ad,b3,b2⟩:=dG eh.x (An.2 ⟨eh,R,an,rfl⟩)
     exact⟨ad,(b3 ae).key,λ_=>b3 ae⟩
    ·obtain⟨ad,b3,b2⟩:=aH.ahead eh R Zo
     refine⟨ad,bZ _ _ b3,λbS=> ?_⟩
     obtain⟨_,kj,b,d1,fA,dU,eN⟩:=b2 bS
     refine⟨bZ _ _ b3,kj,b,d1.trans bZ,fA,dU,λai=> ?_⟩
     obtain⟨hf,kU,alY⟩:=eN ai
     refine⟨hf,λbp=> ?_,alY⟩
     obtain⟨cR,PG,wz⟩:=kU bp
     refine⟨cR,PG, ?_⟩
     by_cases cu:aa C T (base+eh.x.i)=aa C h (base+eh.x.i)
     ·rw[cu];exact wz
     ·obtain⟨x,ag,F⟩:=ep _ cu
      obtain⟨c5,fb,ff,rfl⟩:=An.1 ag
      have:=aci aH.st R fb Zo
      subst this;omega
   ·intro t ad bc
    apply aH.Cj t ad
    rcases bc with ⟨Y,bS,ux,wW,bc⟩|bc
    ·left
     refine⟨Y,bS,ux,wW, ?_⟩
     have uH:∃sJ,et au Y=some sJ:=by
      rcases WF aH.st Y (aH.w5 Y bS)with ⟨eh,b3,b2⟩|⟨p,e,b3,b2⟩
      ·obtain⟨sJ,cQ,_⟩:=aH.ahead eh b3 (aH.tx eh b3 (by rw[b2];exact bS))
       exact⟨sJ,by rw[<-b2];exact cQ⟩
      ·obtain⟨sJ,cQ⟩:=aH.uH p e b3 ((aH.done p e b3).1 (by rw[b2];exact bS))
       exact⟨sJ,by rw[<-b2];exact cQ⟩
     obtain⟨sJ,to⟩:=uH
     have:=bZ _ _ to
     rw[bc]at this
     cases this
     exact to
    ·exact .inr bc
   ·intro i aM bA
    have ap6:et au i=none:=by
     cases cl:et au i with
     |none=>rfl
     |some ad=>rw[bZ _ _ cl]at bA;cases bA
    by_cases an:aa C T (base+i)=aa C h (base+i)
    ·rw[an];exact aH.free i aM ap6
    ·obtain⟨x,ag,F⟩:=ep _ an
     obtain⟨ad,b3,_⟩:=dG x ag
     have:x.i=i:=Zo
     rw[<-this,(b3 ae).key]at bA
     cases bA
  refine asa cG gh uI gg gL (s:=s) (rest:=rest) ?_ a l Q ae w tmps di yh aF r3 aI ?_
  ·cases cl:(gx C n aq av).drop d0 with
   |nil=>rw[cl]at jM;exact jM.1
   |cons e hh=>rw[cl]at jM;exact jM
  ·intro eh R U bS
   by_cases an:eh.bT=d0
   ·obtain⟨ad,b3,b2⟩:=dG eh.x (An.2 ⟨eh,R,an,rfl⟩)
    exact⟨ad,(b3 ae).key,b2⟩
   ·obtain⟨ad,b3,b2⟩:=aH.ahead eh R Zo
    refine⟨ad,bZ _ _ b3, ?_⟩
    obtain⟨_,kj,b,d1,fA,dU,eN⟩:=b2 bS
    by_cases FG:BK eh.x.op=true
    ·have r7:d0<=eh.aM:=by
      obtain⟨p,fb,ff,mb,Sa⟩:=KY R
      obtain⟨_,fW,fw,z3,z4,z5⟩:=xU aH.st fb
      rw[Sa]
      refine aoz _ _ _ (by rw[Li,Zp];exact aH.MW) λan e I c2=> ?_
      rw[Li,Zx]at I
      cases ct:(gx C n aq av)[an]? with
      |none=>rw[ct]at I;cases I
      |some br=>
       rw[ct]at I;cases I
       cases ai:bit br.1.m p.i with
       |false=>rfl
       |true=>
        exfalso
        have ane:=(aH.done an br ct).2 c2
        obtain⟨ayJ,N6,N7,azb,awC,azc,Tj⟩:=xU aH.st (KV (Zj ct)).1
        have:=HB aH.closed (Zj awC) Tj.oper (aH.closed _ _ Tj.oper ane) _ ai
        simp only at fw
        rw[<-fw]at this
        exact bS this
     obtain⟨dR,e0,fF⟩:=aks _ Mv eh.x (atT R Zo r7 FG)
     refine⟨ho,T,dR,Sub.refl _,pi.refl _,e0,λai _=> ?_⟩
     obtain⟨sJ,hv,oc⟩:=fF ai
     rw[bZ _ _ b3]at oc
     cases oc
     exact hv
    ·have FG:BK eh.x.op=false:=by simpa using FG
     refine⟨kj, .nil,b,d1.trans bZ,acf _,fA,λai oH=> ?_⟩
     exact(eN ai).2.2 oH FG .nil
def als{D:List dN}(id:Nat)(a:lx C Q ae aq D bq){e1:List dN}(bt:exitTo id D=some e1):∃hP,Go.exitTo id bq=some hP/\lx C Q ae aq e1 hP:=by
 induction a with
 |nil=>simp[exitTo]at bt
 |cons R U al=>
  cases R<;>simp only[exitTo]at bt
  case inBlock tr=>
   rw[hB]at bt
   split at bt
   ·rename_i F
    simp at bt;subst bt
    exact⟨_,by simp[Go.exitTo,F],U⟩
   ·rename_i F
    obtain⟨hP,b3,b2⟩:=al bt
    have:(tr==id)=false:=by simpa using F
    exact⟨hP,by simp[Go.exitTo,this,b3],b2⟩
  all_goals
   obtain⟨hP,b3,b2⟩:=al bt
   exact⟨hP,by simp[Go.exitTo,b3],b2⟩
def W0(hL:rG C Q ae){n:Nat}(be:ja Q ae n aq K tmps){x:Operand}{ad:H}(e4:yO C aq [] x=true)(a:wx K x=some ad):kK tmps x=aN Q ad/\ch ae ad:=by
 cases x with
 |tmp t=>
  simp only[yO,ajn]at e4
  obtain⟨R,U⟩:=be.val t ad e4 a
  exact⟨by simp[kK,R],U⟩
 |const c=>exact Ni a
 |global g=>
  simp[wx]at a;subst a
  simp only[yO]at e4
  obtain⟨b3,b2,cQ⟩:=hL g (lh e4)
  exact⟨by simp[kK,aN,b2,cQ],b3⟩
 |func f=>
  simp[wx]at a;subst a
  exact⟨by simp[kK,aN,mS,bX],trivial,trivial,trivial⟩
def ot.start{n:Nat}(be:ja Q ae n aq K tmps):ot Q ae aq (λ_=>True) (h8 av 0) [] K tmps:=by
 intro t ad _ a
 rw[Kj]at a
 exact be.val t ad a.1 a.2
def at0(cG:Env C bo dK d4)(gh:nc C bo bv bO al){D:List dN}{id:Nat}{Aw:Bool}(aC:iO C bo bv bO fn aq bb aD ro cs h j Q ae w bT ap)(aF:lx C Q ae aq D bq)(be:ja Q ae n aq K tmps)
 (a:adA av Aw al C D ⟨fn,n,aq,bb,aD,ro,cs⟩ K h j=some v):Ends C bo bv bO v (lone (co Q fn bb aD ro tmps (.code (.region id av Aw)::bq) .run) ap w):=by
 cases Aw with
 |false=>
  have cD:SA n aq av al C D ⟨fn,n,aq,bb,aD,ro,cs⟩ K h j=some v:=a
  simp only[SA,oa]at cD
  split at cD
  ·rename_i r Z
   obtain⟨rest,fin⟩:=r
   have Lz:yY rest ⟨al,av,fin,D,⟨fn,n,aq,bb,aD,ro,cs⟩⟩ C K [] h j=some v:=cD
   unfold Jv at Z
   split at Z
   ·rename_i c8 hU
    simp at Z
    obtain⟨rfl,rfl⟩:=Z
    refine .head avn ?_
    refine adL cG gh c8 [] h j Q ae w tmps _ ap aC aF ⟨0,zo _, ?_,hU,rfl,ot.start be,be.size⟩ Lz
    rw[List.range_eq_range'];rfl
   ·simp at Z
  ·simp at cD
 |true=>
  have cD:Sz n aq av al C D ⟨fn,n,aq,bb,aD,ro,cs⟩ K h j=some v:=a
  simp only[Sz,oa]at cD
  split at cD
  ·rename_i r Z
   obtain⟨k9,fin⟩:=r
   have Lz:p3 j (λj=>xV al C av j [] k9 fin D ⟨fn,n,aq,bb,aD,ro,cs⟩ K h (j+av.size))=some v:=cD
   rw[l0]at Lz
   unfold Ju at Z
   split at Z
   ·simp at Z
   ·rename_i c8 hU
    simp only[eY,Zn,Zf]at Z
    obtain⟨⟨⟨b3,b2⟩,cQ⟩,d1⟩:=Z
    have j4:ws C n aq av=c8:=by unfold ws;rw[hU];rfl
    have df:pg C n aq av:=⟨by rw[j4];exact hU,b3,b2,by unfold gx;rw[j4];exact cQ⟩
    have apV:k9=yK (lE C n aq av) 0 ((gx C n aq av).drop 0)/\fin=kT aq av.toList 0:=by
     have F:=d1
     cases F
     refine⟨?_,rfl⟩
     rw[ZU]
     unfold lE gx
     rw[j4];rfl
    obtain⟨rfl,rfl⟩:=apV
    refine .head avo ?_
    rw[cG.kc.mixed]
    have ag:iq C bT Q ae h bo.heap.size w Q ae h w.drew:=⟨λ_ _=>rfl,λ_ a=>a,λ_ a=> .inl a,λ_ _ _=>rfl,Below.drew (Below.refl _ _)⟩
    have k0:de C Q ae h (j+av.size) bo.heap.size w.drew:=aC.Z.drew.more (za _ _) (λ_ _=>rfl) (λb W ai=>ZK (aC.Z.vn b W ai) (za _ _))
    refine WG cG gh (di:=λ_=>False) (aC.ext k0 ag (za _ _)) aF aC.jT (Zi _) aC.Z.a7 ?_ (auD b3 _) Lz
    refine⟨df,be.size,zo _,aC.Z.a7,λ_ _ _ a=>a.elim,λ_ a=>a.elim,λp e _=>⟨λa=>a.elim,λa=>Zo⟩,λ_ _ a=>a.elim,λi ad bc=>by simp at bc,λp e _ a=>Zo,λeh _ a=>Zo, ?_, ?_, ?_⟩
    ·intro t ad bc
     rcases bc with ⟨Y,a,_⟩|⟨_,R,U⟩
     ·exact a.elim
     ·exact be.val t ad R U
    ·intro i _ aH
     have:=aC.Z.lt _ aH;omega
    ·intro i _ _
     cases cl:aa C h (j+i)with
     |none=>rfl
     |some W=>have:=aC.Z.vn _ W cl;omega
  ·simp at cD
end
end Go.bg

namespace Go.bg
open Go.RowKit (Below)
section
variable{C:aW}{Q c9 dK:c6}{ae du d4:Nat->Prop}{h T:S ak}{j ao bi:Nat}{w bV:World}{n aq:Nat}{av:Array Oper}
variable{bo:World}{bv:Nat}{bO:List Frame}{v:H}{al:hm}
variable{fn:Nat}{bb:List hy}{aD:Bool}{ro:Option Nat}{cs:List gC}{K:S H}{tmps:Array Value}{bq:List Item}{ap:List Frame}{bT aM:Nat}
def alr{D:List dN}(id:Nat)(a:lx C Q ae aq D bq)(bt:exitTo id D=none):Go.exitTo id bq=none:=by
 induction a with
 |nil=>rfl
 |cons R U al=>
  cases R<;>simp only[exitTo]at bt
  case inBlock tr=>
   rw[hB]at bt
   split at bt
   ·simp at bt
   ·rename_i F
    have:(tr==id)=false:=by simpa using F
    simp[Go.exitTo,this,al bt]
  all_goals simp[Go.exitTo,al bt]
def R7(aC:iO C bo bv bO fn aq bb aD ro cs h j Q ae w bT ap){b:Nat}{st hY:LoopState}{qu BF:Option Code}{gK aS kz:Nat}{c1:S H}{params:List Nat}{assign body:Code}{ge:Nat}
 (aK:C.a7<=b)(aH:ae b)(g8:aa C h b=some (.loop st qu gK aS kz c1 params assign body ge))(ay:∀c,BF=some c->F0 c):
 ∃hx,w.heap[(Q b).cE]? =some (.loop ⟨st,qu,gK,hx,params.toArray,assign,body,(Q ge).cE⟩)/\Og C gK kz/\(∀c,qu=some c->F0 c)/\
  iO C bo bv bO fn aq bb aD ro cs (bm C h b (some (.loop hY BF gK aS kz c1 params assign body ge))) j Q ae (w.putObj (Q b).cE (.loop ⟨hY,BF,gK,hx,params.toArray,assign,body,(Q ge).cE⟩)) bT ap:=by
 obtain⟨hx,gH,mG,rp,Gn,Bv,ss,Bw⟩:=aC.Z.obj b _ g8 aH
 obtain⟨bV,bZ,cw,c0⟩:=putObj aC.Z (cX:=bT) (o':= .loop ⟨hY,BF,gK,hx,params.toArray,assign,body,(Q ge).cE⟩) (mc:= .loop hY BF gK aS kz c1 params assign body ge) aK aH g8 ⟨Zs,Zs⟩ gH Zs
  (λbV sh=>⟨hx,sh,mG,rp,Gn,Bv,ay,Bw⟩) ⟨λ_ _ _ a=>(by cases a),λ_ _ _ a=>(by cases a)⟩
 rw[run_setObj_loop _ gH]at bZ
 simp only[Result.ok.injEq]at bZ
 obtain⟨_,rfl⟩:=bZ
 exact⟨hx,gH,Bw,ss,aC.ext cw c0 (Zi _)⟩
def V1(gh:nc C bo bv bO al){ad:H}{dn:Machine}(aC:iO C bo bv bO fn aq bb false ro cs h j Q ae w bT ap)(dI:cs≠[])(AH:ch ae ad)
 (ra:∀g iU,ap=g::iU->step C.P dn= .next (lone (g.finish (aN Q ad)) iU w))(a:sR al false cs ad h j=some v):Ends C bo bv bO v dn:=by
 cases cs with
 |nil=>exact absurd rfl dI
 |cons c rest=>
  obtain⟨gK,aS,kz,c1,vH,ge,mD,jd,k5⟩:=c
  obtain⟨ri,hx,hP,iU,rfl,bZ,cw,c0,ep,dG,dQ⟩:=aC.cs.inv
  refine .head (ra _ _ rfl) ?_
  cases mD with
  |run=>
   have cD:SB al vH ⟨gK,aS,kz,ge,jd,k5,rest⟩ ad c1 h j=some v:=a
   cases vH with
   |nil=>simp[SB]at cD
   |cons eJ D=>exact E0 gh ⟨aC.Z,aC.kR,aC.hL,ZA dG aC.jT,c0,ep,dQ⟩ bZ aC.jT AH cD
  |returning=>simp[sR]at a
  |panicking f5=>simp[sR]at a
def RW(gh:nc C bo bv bO al){todo:List dN}{iA:Option Code}(bH:(iA=none/\bq=[])\/(iA=some .ret/\∃D,bq= .code .ret::D)\/(∃id D,iA=some (.exit id)/\bq= .code (.exit id)::D/\Go.exitTo id D=none))
 (aC:iO C bo bv bO fn aq bb aD ro cs h j Q ae w bT ap)(be:ja Q ae n aq K tmps)
 (a:n7 iA al C todo ⟨fn,n,aq,bb,aD,ro,cs⟩ K h j=some v):Ends C bo bv bO v (lone (co Q fn bb aD ro tmps bq .run) ap w):=by
 unfold n7 at a
 cases ro with
 |some l=>
  simp only at a
  split at a
  ·rename_i st qu gK aS kz c1 params assign body ge g8
   simp only[eY,Zn,he]at a
   obtain⟨⟨⟨CO,axZ⟩,Qr⟩,a⟩:=a
   have Qr:aD=false:=by simpa using Qr
   subst Qr
   have aH:=aC.hK.ro l rfl
   have api:∀c,iA=some c->F0 c:=by
    intro c az
    subst az
    rcases bH with ⟨F,_⟩|⟨F,_⟩|⟨id,D,F,_⟩
    ·cases F
    ·cases F;exact .inl rfl
    ·cases F;exact .inr ⟨id,rfl⟩
   obtain⟨hx,gH,Bw,_,yh⟩:=R7 aC (hY:=bR iA.isNone .ready .done) (BF:=iA) (jb CO) aH g8 api
   have dI:cs≠[]:=λF=>by have:=(aC.bot F).2.2;cases this
   refine V1 (ad:= .bool iA.isNone) gh yh dI trivial (λg iU F=> ?_) a
   subst F
   refine avr bH ?_
   have:=run_endRound (P:=C.P) iA gH
   rw[this]
   cases iA<;>rfl
  ·simp at a
 |none=>
  simp only[eY]at a
  have df:B3 C bo bv bO .returning todo fn n aq bb aD none cs K h j Q ae w bT tmps bq ap:=⟨aC.Z,aC.kR,aC.hL,aC.jT,aC.hK,trivial,aC.bot,aC.cs,be⟩
  have bS:=gh _ _ _ _ _ _ _ _ _ _ _ _ v a.2 Q ae w bT tmps bq ap df
  rcases bH with ⟨rfl,rfl⟩|⟨rfl,D,rfl⟩|⟨id,D,rfl,rfl,_⟩
  ·exact .head avd bS
  ·exact .head avp bS
  ·simp[RE]at a
def atR(cG:Env C bo dK d4)(gh:nc C bo bv bO al){f:Operand}{params:Array Nat}{assign body:Code}{D:List dN}(aC:iO C bo bv bO fn aq bb aD ro cs h j Q ae w bT ap)(be:ja Q ae n aq K tmps)
 (e4:lC C aq (.rangeFunc f params assign body)=true)(aF:lx C Q ae aq D bq)(a:JP f params assign body al C D ⟨fn,n,aq,bb,aD,ro,cs⟩ K h j=some v):
 Ends C bo bv bO v (lone (co Q fn bb aD ro tmps (.code (.rangeFunc f params assign body)::bq) .run) ap w):=by
 simp only[lC,Zn]at e4
 obtain⟨ce,aaU,g8⟩:=e4
 unfold JP at a
 split at a
 ·rename_i g first fH Pz aL Ga akp Hx SE qT bt eX
  cases eX
  obtain⟨bB,cF⟩:=W0 aC.hL be ce bt
  have lM:∀(b:Nat) (ld:World),(resolve (kK tmps) {callee:= .value f,args:= #[.const (.func (.yield b) #[] #[])],argTypes:= #[]} 0).run C.P ld=
   .ok ⟨.fn (.func g) (bX Q fH).toArray,(bX Q first).toArray++ #[.func (.yield b) #[] #[]]⟩ ld:=by
   intro b ld
   have Pk:kK tmps (.const (.func (.yield b) #[] #[]))= .func (.yield b) #[] #[]:=rfl
   simp[resolve,bB,aN,mS,Deferred.ofValue,Pk]
  have aad:∀(b:Nat) (xw:c6) (mi:Nat->Prop) (aX:S ak) (DF:Nat) (ld:World) (sX:List gC) (wF:List Frame) (cX:Nat) (b5:Nat),(∀x,ae x->xw x=Q x)->(∀x,ae x->mi x)->mi b5->(xw b5).cE=b->
   de C xw mi aX DF bo.heap.size ld->Below bo.heap.size bo ld->rG C xw mi->cX<=DF->oh C xw mi aX bv bO cX sX wF->sX≠[]->nO al C g (first++[.func (.yield b5) [] []]++fH) false sX aX DF=some v->
   ∃args,(invoke (.fn (.func g) (bX Q fH).toArray) ((bX Q first).toArray++ #[.func (.yield b) #[] #[]])).run C.P ld= .ok (.enter g args) ld/\Ends C bo bv bO v (lone (Frame.enter C.P g args .normal) wF ld):=by
   intro b xw mi aX DF ld sX wF cX b5 dF gy hh ai sc nV L0 oJ hU dI a
   have aos:ew mi (first++[.func (.yield b5) [] []]++fH):=AE (AE (qY gy _ cF.2.1) ⟨⟨hh,trivial,trivial⟩,trivial⟩) (qY gy _ cF.2.2)
   refine⟨(bX xw (first++[.func (.yield b5) [] []]++fH)).toArray, ?_,K8 gh sc nV L0 oJ hU (λF=>absurd F dI) aos a⟩
   have Io:∃func c,C.P.funcs[g]? =some func/\func.body=some c:=by
    unfold nO at a
    split at a
    ·rename_i func qc
     split at a
     ·rename_i c az;exact⟨func,c,qc,az⟩
     ·simp at a
    ·simp at a
   obtain⟨func,c,qc,az⟩:=Io
   have aK:func.name≠ "runtime.NumGoroutine":=by simpa using cG.kc.num g func qc (by simp[az])
   have wL:(bX xw (first++[.func (.yield b5) [] []]++fH)).toArray=((bX Q first).toArray++ #[.func (.yield b) #[] #[]])++(bX Q fH).toArray:=by
    rw[Cg,Cg,xP dF cF.2.1,xP dF cF.2.2]
    simp[bX,aN,mS,ai]
   rw[wL]
   simp[invoke,callFunc,qc,aK,az]
  cases ro with
  |none=>
   simp only[l0]at a
   have n0:=rn aC.Z
   have sc:=aC.Z.alloc (b:=j) (ao:=j+1) (pl:=⟨w.heap.size,0,0⟩) (cR:= .deferred (some [])) (W:= .deferred (some [])) (T:=bm C h j (some (.deferred (some [])))) aC.Z.a7 (Yg _) (Ya _) n0 aC.ek rfl
    (by rw[fT _ aC.Z.a7,Zq rfl]) (λx ag=> .inl (by rw[fT _ aC.Z.a7,Zh ag])) ⟨by rw[World.alloc_heap_new];rfl,λl aB=>by cases aB;simp⟩ ⟨λ_ _ _ a=>(by cases a),λ_ _ _ a=>(by cases a)⟩
   have Dd:iq C j Q ae h bo.heap.size w (gk Q j ⟨w.heap.size,0,0⟩) (add ae j) (bm C h j (some (.deferred (some [])))) (w.alloc (.deferred (some []))):=
    ⟨qB n0,λ_ a=> .inl a,λe a=>a.elim .inl (λa=> .inr Zo),λx _ c2=>by rw[fT _ aC.Z.a7,Zh Zo],Below.alloc (Below.refl _ _) aC.ek _⟩
   have r9:C.a7<=j+1:=Nat.le_succ_of_le aC.Z.a7
   have aaO:=rn sc
   have XO:bo.heap.size<=(w.alloc (.deferred (some []))).heap.size:=by rw[World.size_alloc];have:=aC.ek;omega
   have aby:(gk Q j ⟨w.heap.size,0,0⟩ j)=⟨w.heap.size,0,0⟩:=lb ..
   have MM:=qB (Q:=gk Q j ⟨w.heap.size,0,0⟩) (pl:=⟨w.heap.size+1,0,0⟩) aaO
   have g4:=sc.alloc (b:=j+1) (ao:=j+2) (pl:=⟨w.heap.size+1,0,0⟩) (cR:= .loop .ready none fn n aq K params.toList assign body j) (W:= .loop {state:= .ready,pending:=none,fn,tmps,params,assign,body,defers:=w.heap.size})
    (T:=bm C (bm C h j (some (.deferred (some [])))) (j+1) (some (.loop .ready none fn n aq K params.toList assign body j))) r9 (Yg _) (Ya _) aaO XO (by rw[World.size_alloc])
    (by rw[fT _ r9,Zq rfl]) (λx ag=> .inl (by rw[fT _ r9,Zh ag]))
    ⟨tmps,by
     rw[show(⟨w.heap.size+1,0,0⟩:mj).cE=(w.alloc (.deferred (some []))).heap.size by rw[World.size_alloc],World.alloc_heap_new,MM j (.inr rfl),aby],
     (be.ac Dd.iD Dd.ju).ac MM (λ_ a=> .inl a), .inl (.inr rfl),aaU,g8,λc az=>(by cases az),aC.hK.fn⟩
    ⟨λ_ _ _ a=>(by cases a),λ_ _ _ a=>(by cases a)⟩
   have De:iq C (j+1) (gk Q j ⟨w.heap.size,0,0⟩) (add ae j) (bm C h j (some (.deferred (some [])))) bo.heap.size (w.alloc (.deferred (some []))) (gk (gk Q j ⟨w.heap.size,0,0⟩) (j+1) ⟨w.heap.size+1,0,0⟩) (add (add ae j) (j+1))
    (bm C (bm C h j (some (.deferred (some [])))) (j+1) (some (.loop .ready none fn n aq K params.toList assign body j))) ((w.alloc (.deferred (some []))).alloc (.loop {state:= .ready,pending:=none,fn,tmps,params,assign,body,defers:=w.heap.size})):=
    ⟨MM,λ_ a=> .inl a,λe a=>a.elim .inl (λa=> .inr Zo),λx _ c2=>by rw[fT _ r9,Zh Zo],Below.alloc (Below.refl _ _) XO _⟩
   have ag:=Dd.trans (Ya j) De
   have nl:=aC.ext g4 (ag.mono aC.jT) (ZA (Ya _) (Ya _))
   have aoq:v7 C (add (add ae j) (j+1)) fn aq (⟨.collected j,[]⟩::bb) none:=⟨λd aH=>by
    rcases Zt.1 aH with rfl|aH
    ·exact⟨.inl (.inr rfl),trivial⟩
    ·exact nl.hK.bb d aH,nl.hK.ro,nl.hK.fn⟩
   have IZ:ml C (gk (gk Q j ⟨w.heap.size,0,0⟩) (j+1) ⟨w.heap.size+1,0,0⟩) (add (add ae j) (j+1)) (bm C (bm C h j (some (.deferred (some [])))) (j+1) (some (.loop .ready none fn n aq K params.toList assign body j))) bT (j+2) n aq K tmps
    (.inRangeFunc (j+1)::D) (.inRangeFunc (w.heap.size+1)::bq):=by
    have:=ml.dy (bT:=bT) (aM:=j+2) (h:=bm C (bm C h j (some (.deferred (some [])))) (j+1) (some (.loop .ready none fn n aq K params.toList assign body j))) (aF.ac ag.iD ag.ju) (be.ac ag.iD ag.ju) (l:=j+1) (.inr rfl)
    rw[lb]at this
    exact this
   have oJ:bT<=j+2:=by have:=aC.jT;omega
   obtain⟨args,b3,b2⟩:=aad (w.heap.size+1) _ _ _ _ _ _ _ (j+2) (j+1) ag.iD ag.ju (.inr rfl) (by rw[lb]) g4 nl.kR nl.hL (Zi _)
    (.cons (bM:= .run) IZ trivial aoq aC.bot oJ nl.cs) Zs a
   refine .head (adU (run_enterLoop_outer fn tmps params assign body) (lM _ _) b3) ?_
   have uB:({co Q fn bb aD none tmps (.inRangeFunc (w.heap.size+1)::bq) .run with defers:=[{target:= .collected w.heap.size,args:= #[]}]++bb.map (lA Q)}:Frame)=
    co (gk (gk Q j ⟨w.heap.size,0,0⟩) (j+1) ⟨w.heap.size+1,0,0⟩) fn (⟨.collected j,[]⟩::bb) aD none tmps (.inRangeFunc (w.heap.size+1)::bq) .run:=by
    have F:bb.map (lA (gk (gk Q j ⟨w.heap.size,0,0⟩) (j+1) ⟨w.heap.size+1,0,0⟩))=bb.map (lA Q):=Yy λd aH=>OW ag.iD (aC.hK.bb d aH)
    have fp:lA (gk (gk Q j ⟨w.heap.size,0,0⟩) (j+1) ⟨w.heap.size+1,0,0⟩) ⟨.collected j,[]⟩={target:= .collected w.heap.size,args:= #[]}:=by
     simp only[lA,Cc,bX]
     rw[MM j (.inr rfl),aby]
    simp only[co,Yb,F,fp,List.cons_append,YF,YW]
   rw[uB]
   exact b2
  |some l=>
   simp only[l0]at a
   split at a
   ·rename_i st qu gK aS kz c1 ayM awK awP ge aB
    have aH:=aC.hK.ro l rfl
    obtain⟨hx,gH,mG,rp,Gn,Bv,ss,Bw⟩:=aC.Z.obj l _ aB aH
    have n0:=rn aC.Z
    have Rw:=qB (Q:=Q) (pl:=⟨w.heap.size,0,0⟩) n0
    have g4:=aC.Z.alloc (b:=j) (ao:=j+1) (pl:=⟨w.heap.size,0,0⟩) (cR:= .loop .ready none fn n aq K params.toList assign body ge) (W:= .loop {state:= .ready,pending:=none,fn,tmps,params,assign,body,defers:=(Q ge).cE})
     (T:=bm C h j (some (.loop .ready none fn n aq K params.toList assign body ge))) aC.Z.a7 (Yg _) (Ya _) n0 aC.ek rfl
     (by rw[fT _ aC.Z.a7,Zq rfl]) (λx ag=> .inl (by rw[fT _ aC.Z.a7,Zh ag]))
     ⟨tmps,by rw[World.alloc_heap_new,Rw ge rp],be.ac Rw (λ_ a=> .inl a), .inl rp,aaU,g8,λc az=>(by cases az),aC.hK.fn⟩
     ⟨λ_ _ _ a=>(by cases a),λ_ _ _ a=>(by cases a)⟩
    have ag:iq C j Q ae h bo.heap.size w (gk Q j ⟨w.heap.size,0,0⟩) (add ae j) (bm C h j (some (.loop .ready none fn n aq K params.toList assign body ge))) (w.alloc (.loop {state:= .ready,pending:=none,fn,tmps,params,assign,body,defers:=(Q ge).cE})):=
     ⟨Rw,λ_ a=> .inl a,λe a=>a.elim .inl (λa=> .inr Zo),λx _ c2=>by rw[fT _ aC.Z.a7,Zh Zo],Below.alloc (Below.refl _ _) aC.ek _⟩
    have nl:=aC.ext g4 (ag.mono aC.jT) (Ya _)
    have IZ:ml C (gk Q j ⟨w.heap.size,0,0⟩) (add ae j) (bm C h j (some (.loop .ready none fn n aq K params.toList assign body ge))) bT (j+1) n aq K tmps (.inRangeFunc j::D) (.inRangeFunc w.heap.size::bq):=by
     have:=ml.dy (bT:=bT) (aM:=j+1) (h:=bm C h j (some (.loop .ready none fn n aq K params.toList assign body ge))) (aF.ac ag.iD ag.ju) (be.ac ag.iD ag.ju) (l:=j) (.inr rfl)
     rw[lb]at this
     exact this
    have oJ:bT<=j+1:=by have:=aC.jT;omega
    obtain⟨args,b3,b2⟩:=aad w.heap.size _ _ _ _ _ _ _ (j+1) j ag.iD ag.ju (.inr rfl) (by rw[lb]) g4 nl.kR nl.hL (Zi _)
     (.cons (bM:= .run) IZ trivial nl.hK aC.bot oJ nl.cs) Zs a
    have aoh:(Instr.enterLoop fn tmps params assign body ((some l).map λl=>(Q l).cE)).run C.P w= .ok (w.heap.size,[]) (w.alloc (.loop {state:= .ready,pending:=none,fn,tmps,params,assign,body,defers:=(Q ge).cE})):=by
     unfold Instr.enterLoop
     simp only[ZS,Sem.run_bind,run_getLoop gH,run_newObj_alloc,Result.andThen,Sem.run_pure]
    refine .head (adU aoh (lM _ _) b3) ?_
    have uB:({co Q fn bb aD (some l) tmps (.inRangeFunc w.heap.size::bq) .run with defers:=[]++bb.map (lA Q)}:Frame)=co Q fn bb aD (some l) tmps (.inRangeFunc w.heap.size::bq) (gG Q .run):=rfl
    rw[uB, <-Gf ag.iD aC.hK]
    exact b2
   ·simp at a
 ·simp at a
def Wl(cG:Env C bo dK d4)(gh:nc C bo bv bO al)(aC:iO C bo bv bO fn aq bb aD ro cs h j Q ae w bT ap)(be:ja Q ae n aq K tmps):∀(c:Code) (D:List dN) (bq:List Item),lC C aq c=true->lx C Q ae aq D bq->
 ub c al C D ⟨fn,n,aq,bb,aD,ro,cs⟩ K h j=some v->Ends C bo bv bO v (lone (co Q fn bb aD ro tmps (.code c::bq) .run) ap w):=by
 intro c
 have go:∀D bq,lx C Q ae aq D bq->al .run D ⟨fn,n,aq,bb,aD,ro,cs⟩ K h j=some v->Ends C bo bv bO v (lone (co Q fn bb aD ro tmps bq .run) ap w):=
  λD bq aF a=>gh _ _ _ _ _ _ _ _ _ _ _ _ v a Q ae w bT tmps bq ap (aC.state (.plain aF be))
 induction c with
 |skip=>intro D bq _ aF a;exact .head avu (go D bq aF a)
 |region id av Aw=>intro D bq _ aF a;exact at0 cG gh aC aF be a
 |seq J b mz hr=>
  intro D bq e4 aF a
  simp only[lC,Zn]at e4
  exact .head avt (mz (.code b::D) (.code b::bq) e4.1 (.cons (.code e4.2) aF) a)
 |cond c J b mz hr=>
  intro D bq e4 aF a
  simp only[lC,Zn]at e4
  have cD:Hv c K (ub J al C D ⟨fn,n,aq,bb,aD,ro,cs⟩ K h j) (ub b al C D ⟨fn,n,aq,bb,aD,ro,cs⟩ K h j)=some v:=a
  simp only[Hv,oa]at cD
  split at cD
  ·rename_i ad bc
   obtain⟨bB,_⟩:=W0 aC.hL be e4.1 bc
   cases ad with
   |bool t=>
    refine .head (avb (t:=t) (by rw[bB];rfl)) ?_
    cases t with
    |true=>exact mz D bq e4.2.1 aF cD
    |false=>exact hr D bq e4.2.2 aF cD
   |_=>simp at cD
  ·simp at cD
 |block id b hr=>intro D bq e4 aF a;exact .head ava (hr (.inBlock id::D) (.inBlock id::bq) e4 (.cons .inBlock aF) a)
 |loop b hr=>intro D bq e4 aF a;exact .head avk (hr (.inLoop b::D) (.inLoop b::bq) e4 (.cons (.inLoop e4) aF) a)
 |rangeFunc f params assign body _ _=>intro D bq e4 aF a;exact atR cG gh aC be e4 aF a
 |exit id=>
  intro D bq _ aF a
  have cD:Az id al C D ⟨fn,n,aq,bb,aD,ro,cs⟩ K h j=some v:=a
  unfold Az at cD
  split at cD
  ·rename_i e1 bt
   obtain⟨hP,b3,b2⟩:=als id aF bt
   exact .head (avf b3) (go e1 hP b2 cD)
  ·rename_i bt
   exact RW gh (.inr (.inr ⟨id,bq,rfl,rfl,alr id aF bt⟩)) aC be cD
 |scope b hr=>intro D bq e4 aF a;exact .head avs (hr (.inScope b::D) (.inScope b::bq) e4 (.cons (.inScope e4) aF) a)
 |label l=>intro D bq _ aF a;exact .head avj (go D bq aF a)
 |goto l=>intro D bq _ _ a;exact absurd a (by simp[ub,DC])
 |ret=>intro D bq _ aF a;exact RW gh (.inr (.inl ⟨rfl,bq,rfl⟩)) aC be a
 |refuse s=>intro D bq _ _ a;exact absurd a (by simp[ub,DC])
def at8(aC:de C Q ae h j bi w)(be:ja Q ae n aq K tmps){b8:ResultVar->Sem Value}(h3:∀t,b8 (.tmp t)=pure (tmps.getD t Go.undef))(dc:∀J t,b8 (.cell J t)=do loadVar t (<-asAddr (tmps.getD J Go.undef))):
 ∀(l:List ResultVar) (bk:List H),yU aq l=true->xj C h K l=some bk->(l.mapM b8).run C.P w= .ok (bX Q bk) w/\ew ae bk:=by
 intro l
 induction l with
 |nil=>intro bk _ a;simp[xj]at a;subst a;exact⟨by simp[bX],trivial⟩
 |cons x l al=>
  intro bk e4 a
  cases x with
  |tmp t=>
   simp only[yU,Zn]at e4
   simp only[xj]at a
   split at a
   ·rename_i ad r bc Z
    simp at a;subst a
    obtain⟨R,U⟩:=be.val t ad e4.1 bc
    obtain⟨ar,aO⟩:=al r e4.2 Z
    refine⟨?_,U,aO⟩
    simp[Y3,h3,R,ar,bX]
   ·simp at a
  |cell J t=>
   simp only[yU,Zn]at e4
   simp only[xj]at a
   split at a
   ·rename_i p ay
    split at a
    ·rename_i ad r bc Z
     simp at a;subst a
     obtain⟨R,U⟩:=be.val J p e4.1 ay
     obtain⟨ar,aO⟩:=al r e4.2 Z
     obtain⟨bN,cv⟩:=VI aC U bc
     refine⟨?_,cv,aO⟩
     cases p with
     |ptr b W=>
      simp only[Instr.loadAt,Instr.sureAddr,aN,Sem.run_bind,Sem.run_pure,Result.andThen_ok]at bN
      simp[Y3,dc,R,aN,asAddr,bN,ar,bX]
     |_=>simp[lz,b6,am]at bc;split at bc<;>simp at bc
    ·simp at a
   ·simp at a
def asW(bk:List H):(if a:(bX Q bk).toArray.size=1 then(bX Q bk).toArray[0]else Value.tuple (bX Q bk).toArray)=aN Q (one bk):=by
 match bk with
 |[]=>simp[one,bX,aN]
 |[J]=>simp[one,bX]
 |J::b::r=>simp[one,bX,aN]
def asV{bk:List H}(a:ew ae bk):ch ae (one bk):=by
 match bk,a with
 |[],a=>exact a
 |[J],a=>exact a.1
 |J::b::r,a=>exact a
def iO.defs(aC:iO C bo bv bO fn aq bb aD ro cs h j Q ae w bT ap){ge:List hy}(a:∀d∈ge,wD ae d):iO C bo bv bO fn aq ge aD ro cs h j Q ae w bT ap:=
 ⟨aC.Z,aC.kR,aC.hL,aC.jT,⟨a,aC.hK.ro,aC.hK.fn⟩,aC.bot,aC.cs⟩
def iO.Ta{todo:List dN}{bM:kN}(IG:bM≠ .run)(b0:p5 ae bM)(aC:iO C bo bv bO fn aq bb aD ro cs h j Q ae w bT ap)(be:ja Q ae n aq K tmps):
 B3 C bo bv bO bM todo fn n aq bb aD ro cs K h j Q ae w bT tmps bq ap:=by
 cases bM with
 |run=>exact absurd rfl IG
 |returning=>exact⟨aC.Z,aC.kR,aC.hL,aC.jT,aC.hK,b0,aC.bot,aC.cs,be⟩
 |panicking f5=>exact⟨aC.Z,aC.kR,aC.hL,aC.jT,aC.hK,b0,aC.bot,aC.cs,be⟩
def Wz(cG:Env C bo dK d4)(gh:nc C bo bv bO al){d:hy}{ds:List hy}{bM:kN}{todo:List dN}(IG:bM≠ .run)(b0:p5 ae bM)(aC:iO C bo bv bO fn aq (d::ds) aD ro cs h j Q ae w bT ap)(be:ja Q ae n aq K tmps)
 (a:xn d ds bM todo al C ⟨fn,n,aq,[],aD,ro,cs⟩ K h j=some v):Ends C bo bv bO v (lone (co Q fn (d::ds) aD ro tmps bq (gG Q bM)) ap w):=by
 have L2:wD ae d:=aC.hK.bb d (Zw ..)
 have aap:∀d∈ds,wD ae d:=λlj aH=>aC.hK.bb lj (Zu _ aH)
 have σ:gG Q bM≠ .run:=by cases bM<;>simp[gG]at IG ⊢
 unfold xn at a
 split at a
 rename_i Pz aL Ga akp Hx SE qT eX
 cases eX
 split at a
 ·rename_i r cp
  split at a
  ·rename_i pp g8
   simp only[eY,he]at a
   obtain⟨CO,a⟩:=a
   have aH:ae r:=L2.1
   obtain⟨gH,mG⟩:=aC.Z.obj r _ g8 aH
   simp only[ZS]at gH
   obtain⟨bV,bZ,cw,c0⟩:=putObj aC.Z (cX:=bT) (o':= .deferred none) (mc:= .deferred none) (jb CO) aH g8 ⟨Zs,Zs⟩ gH Zs
    (λbV sh=>⟨by simpa using sh,λl aB=>by cases aB⟩) ⟨λ_ _ _ a=>(by cases a),λ_ _ _ a=>(by cases a)⟩
   have MD:(Instr.takeDeferred (Q r).cE).run C.P w= .ok (pp.map (lA Q)) bV:=by
    have F:bV=w.putObj (Q r).cE (.deferred none):=by
     have:(Go.setObj (Q r).cE (.deferred none)).run C.P w= .ok () (w.putObj (Q r).cE (.deferred none)):=by simp[Go.setObj,Sem.run,gH,World.putObj]
     rw[this]at bZ
     simp only[Result.ok.injEq]at bZ
     exact bZ.2.symm
    rw[F]
    exact run_takeDeferred gH
   refine .head (avv (du:=pp++ds) σ MD (by rw[Yv])) ?_
   have an4:∀d∈pp++ds,wD ae d:=λlj r3=>by
    rcases Zz.1 r3 with an|an
    ·exact mG pp rfl lj an
    ·exact aap lj an
   have yh:=(aC.defs an4).ext cw c0 (Zi _)
   exact gh _ _ _ _ _ _ _ _ _ _ _ _ v a Q ae bV bT tmps bq ap (yh.Ta IG b0 be)
  ·simp at a
 ·rename_i f fH args
  split at a
  ·rename_i g cp QI
   have l1:=abI (Q:=Q) (h:=h) (j:=j) (bi:=bo.heap.size) (w:=w) cG.kc L2.1.1 L2.1.2 L2.2 QI
   obtain⟨R,U⟩:=l1
   have ra:=step_defer (P:=C.P) (fr:=co Q fn (⟨.fn f fH,args⟩::ds) aD ro tmps bq (gG Q bM)) (cs:=ap) (w:=w) (d:=lA Q ⟨.fn f fH,args⟩) (ds:=ds.map (lA Q)) σ rfl rfl R
   refine .head ra ?_
   have aI:Ak C Q ae h bT j n aq K tmps bM todo bq:=by
    cases bM with
    |run=>exact absurd rfl IG
    |_=>exact be
   exact WQ (Ch:=true) gh aC.Z aC.kR aC.hL (Zi _) (.cons (bM:=bM) aI b0 ((aC.defs aap).hK) aC.bot aC.jT aC.cs) (λF=>by cases F) U a
  ·simp at a
def akz(Q:c6):∀(l:List rC),(l.map (sU Q)).dropWhile (!·.goexit)=[]:=by
 intro l
 induction l with
 |nil=>rfl
 |cons J l al=>simp[sU,al]
def auN(Q:c6)(f5:List rC):settle (gG Q (.panicking f5))=gG Q (xr f5):=by
 cases f5 with
 |nil=>rfl
 |cons p l=>
  obtain⟨v,r⟩:=p
  cases r with
  |false=>simp[gG,settle,xr,sU]
  |true=>simp[gG,settle,xr,sU,akz]
def av1{f5:List rC}(a:p5 ae (.panicking f5)):p5 ae (xr f5):=by
 unfold xr
 split
 ·trivial
 ·exact a
def av2(f5:List rC):xr f5≠ .run:=by
 unfold xr
 split<;>simp
def aud(cG:Env C bo dK d4)(gh:nc C bo bv bO al){todo:List dN}(aC:iO C bo bv bO fn aq bb aD ro cs h j Q ae w bT ap)(be:ja Q ae n aq K tmps)
 (a:J2 todo al C ⟨fn,n,aq,bb,aD,ro,cs⟩ K h j=some v):Ends C bo bv bO v (lone (co Q fn bb aD ro tmps bq .returning) ap w):=by
 unfold J2 at a
 cases bb with
 |cons d ds=>exact Wz (bM:= .returning) cG gh Zs trivial aC be a
 |nil=>
  simp only at a
  split at a
  ·rename_i f ce
   obtain⟨W3,qc,lM⟩:=aC.hK.fn
   rw[ce]at qc;cases qc
   split at a
   ·rename_i bk I4
    have n3:(results f tmps).run C.P w= .ok (aN Q (one bk)) w/\ew ae bk:=by
     unfold results
     rw[Sem.run_bind,Array.mapM_eq_mapM_toList,Sem.run_map]
     obtain⟨e0,fF⟩:=at8 aC.Z be (b8:=λx=>match x with| .tmp t=>pure (tmps.getD t Go.undef)| .cell J t=>do loadVar t (<-asAddr (tmps.getD J Go.undef))) (λ_=>rfl) (λ_ _=>rfl) _ _ lM I4
     refine⟨?_,fF⟩
     refine(congrArg (λr=>Result.andThen (Result.andThen r _) _) e0).trans ?_
     simp only[Result.andThen_ok,Sem.run_pure]
     rw[<-asW]
    obtain⟨n3,amP⟩:=n3
    cases aD with
    |false=>
     have Md:(co Q fn [] false ro tmps bq .returning).leaving C.P w (.returned (aN Q (one bk))):=⟨rfl,rfl,rfl,f,ce,n3⟩
     cases cs with
     |nil=>
      simp only[sR,jK,Zf]at a
      subst a
      obtain⟨cZ,dO,ei⟩:=aC.bot rfl
      have hU:=aC.cs
      cases hU with
      |nil=>exact⟨Q,w,_, .refl _ _,Md,cZ,aC.kR⟩
     |cons c rest=>
      refine V1 gh aC Zs (asV amP) (λg iU F=> ?_) a
      subst F
      exact step_leave_returned Md
    |true=>
     cases cs with
     |nil=>have:=(aC.bot rfl).2.1;cases this
     |cons c rest=>
      obtain⟨gK,aS,kz,c1,vH,ge,mD,jd,k5⟩:=c
      obtain⟨ri,hx,hP,iU,rfl,bZ,cw,c0,ep,dG,dQ⟩:=aC.cs.inv
      have ra:=step_going_returned (P:=C.P) (fr:=co Q fn [] true ro tmps bq .returning) (c:=co Q gK ge jd k5 hx hP (gG Q mD)) (cs:=iU) (w:=w) (v:=aN Q (one bk)) rfl ⟨rfl,rfl,f,ce,n3⟩
      refine .head ra ?_
      cases mD with
      |run=>simp[sR]at a
      |returning=>
       have cD:al .returning vH ⟨gK,aS,kz,ge,jd,k5,rest⟩ c1 h j=some v:=a
       exact gh _ _ _ _ _ _ _ _ _ _ _ _ v cD Q ae w ri hx hP iU ⟨aC.Z,aC.kR,aC.hL,ZA dG aC.jT,c0,trivial,ep,dQ,bZ⟩
      |panicking f5=>
       have cD:al (xr f5) vH ⟨gK,aS,kz,ge,jd,k5,rest⟩ c1 h j=some v:=a
       have F:({co Q gK ge jd k5 hx hP (gG Q (.panicking f5))with mode:=settle (co Q gK ge jd k5 hx hP (gG Q (.panicking f5))).mode}:Frame)=co Q gK ge jd k5 hx hP (gG Q (xr f5)):=by
        rw[show(co Q gK ge jd k5 hx hP (gG Q (.panicking f5))).mode=gG Q (.panicking f5) from rfl,auN]
        rfl
       rw[F]
       have ai:iO C bo bv bO gK kz ge jd k5 rest h j Q ae w ri iU:=⟨aC.Z,aC.kR,aC.hL,ZA dG aC.jT,c0,ep,dQ⟩
       exact gh _ _ _ _ _ _ _ _ _ _ _ _ v cD Q ae w ri hx hP iU (ai.Ta (av2 f5) (av1 cw) bZ)
   ·simp at a
  ·simp at a
def atO(Q:c6)(f5:List rC)(bM:kN):raised (gG Q bM) (f5.map (sU Q))=gG Q (DN f5 bM):=by
 cases bM<;>simp[gG,raised,DN]
def atH{f5:List rC}{bM:kN}(a:p5 ae (.panicking f5))(cD:p5 ae bM):p5 ae (DN f5 bM):=by
 cases bM with
 |panicking pG=>
  intro p ay
  rcases Zz.1 ay with an|an
  ·exact a p an
  ·exact cD p an
 |_=>exact a
def atd(cG:Env C bo dK d4)(gh:nc C bo bv bO al){todo:List dN}{f5:List rC}(b0:p5 ae (.panicking f5))(aC:iO C bo bv bO fn aq bb aD ro cs h j Q ae w bT ap)(be:ja Q ae n aq K tmps)
 (a:J1 f5 todo al C ⟨fn,n,aq,bb,aD,ro,cs⟩ K h j=some v):Ends C bo bv bO v (lone (co Q fn bb aD ro tmps bq (gG Q (.panicking f5))) ap w):=by
 unfold J1 at a
 cases bb with
 |cons d ds=>exact Wz (bM:= .panicking f5) cG gh Zs b0 aC be a
 |nil=>
  simp only at a
  cases cs with
  |nil=>simp at a
  |cons c rest=>
   obtain⟨gK,aS,kz,c1,vH,ge,mD,jd,k5⟩:=c
   obtain⟨ri,hx,hP,iU,rfl,bZ,cw,c0,ep,dG,dQ⟩:=aC.cs.inv
   obtain⟨f,ce,_⟩:=aC.hK.fn
   have ra:=step_going_panicked (P:=C.P) (fr:=co Q fn [] aD ro tmps bq (gG Q (.panicking f5))) (c:=co Q gK ge jd k5 hx hP (gG Q mD)) (cs:=iU) (w:=w) (chain:=f5.map (sU Q)) ⟨rfl,rfl,f,ce⟩
   refine .head ra ?_
   have F:({co Q gK ge jd k5 hx hP (gG Q mD)with mode:=raised (co Q gK ge jd k5 hx hP (gG Q mD)).mode (f5.map (sU Q))}:Frame)=co Q gK ge jd k5 hx hP (gG Q (DN f5 mD)):=by
    rw[show(co Q gK ge jd k5 hx hP (gG Q mD)).mode=gG Q mD from rfl,atO]
    rfl
   rw[F]
   have cD:al (DN f5 mD) vH ⟨gK,aS,kz,ge,jd,k5,rest⟩ (uf vH c1) h j=some v:=a
   have ai:iO C bo bv bO gK kz ge jd k5 rest h j Q ae w ri iU:=⟨aC.Z,aC.kR,aC.hL,ZA dG aC.jT,c0,ep,dQ⟩
   exact gh _ _ _ _ _ _ _ _ _ _ _ _ v cD Q ae w ri hx hP iU (ai.Ta (by cases mD<;>simp[DN]) (atH b0 cw) bZ.drop)
def adW(cG:Env C bo dK d4)(pA:nc C bo bv bO al):nc C bo bv bO λbM todo b8 K h j=>SZ al C bM todo b8 K h j:=by
 intro bM todo fn n aq bb aD ro cs K h j v cD Q ae w cX tmps bq ap df
 cases bM with
 |run=>
  obtain⟨aC,be⟩:=df.aji
  have U:adX todo al C ⟨fn,n,aq,bb,aD,ro,cs⟩ K h j=some v:=cD
  cases be with
  |plain aF w4=>
   cases aF with
   |nil=>
    have ar:n7 none al C [] ⟨fn,n,aq,bb,aD,ro,cs⟩ K h j=some v:=U
    exact RW pA (.inl ⟨rfl,rfl⟩) aC w4 ar
   |cons aM aF=>
    rename_i J x D bq
    have ar:abK J al C D ⟨fn,n,aq,bb,aD,ro,cs⟩ K h j=some v:=U
    have go:∀D bq,lx C Q ae aq D bq->al .run D ⟨fn,n,aq,bb,aD,ro,cs⟩ K h j=some v->Ends C bo bv bO v (lone (co Q fn bb aD ro tmps bq .run) ap w):=
     λD bq aF a=>pA _ _ _ _ _ _ _ _ _ _ _ _ v a Q ae w cX tmps bq ap (aC.state (.plain aF w4))
    cases aM with
    |code e4=>exact Wl cG pA aC w4 _ D bq e4 aF ar
    |inBlock=>exact .head avg (go D bq aF ar)
    |inLoop e4=>exact .head avh (Wl cG pA aC w4 _ _ _ e4 (.cons (.inLoop e4) aF) ar)
    |inScope e4=>exact .head avi (go D bq aF ar)
    |Cn aH=>
     rename_i l
     have aO:ER l al C D ⟨fn,n,aq,bb,aD,ro,cs⟩ K h j=some v:=ar
     unfold ER at aO
     split at aO
     ·rename_i st qu gK aS kz c1 params assign body ge g8
      have PQ:st≠ .busy->bR (kt C l) (je (bm C h l (some (.loop .exhausted qu gK aS kz c1 params assign body ge))) λh=>al .run ((qu.map dN.code).toList++D) ⟨fn,n,aq,bb,aD,ro,cs⟩ K h j) none=some v->
       Ends C bo bv bO v (lone (co Q fn bb aD ro tmps (.endRangeFunc (Q l).cE::bq) .run) ap w):=by
       intro apU bN
       simp only[eY,he]at bN
       obtain⟨CO,bN⟩:=bN
       have Q8:∀c,qu=some c->F0 c:=by
        obtain⟨_,_,_,_,_,_,ss,_⟩:=aC.Z.obj l _ g8 aH
        exact ss
       obtain⟨hx,gH,Bw,ss,yh⟩:=R7 aC (hY:= .exhausted) (BF:=qu) (jb CO) aH g8 Q8
       refine .head (ave (run_endLoop gH apU)) ?_
       refine pA _ _ _ _ _ _ _ _ _ _ _ _ v bN Q ae _ cX tmps _ ap (yh.state (.plain ?_ w4))
       cases qu with
       |none=>exact aF
       |some c=>
        have az:lC C aq c=true:=by
         rcases ss c rfl with rfl|⟨id,rfl⟩<;>rfl
        exact .cons (.code az) aF
      cases st with
      |busy=>simp at aO
      |ready=>exact PQ Zs aO
      |done=>exact PQ Zs aO
      |exhausted=>exact PQ Zs aO
     ·simp at aO
    |begin=>
     have aO:Hn al C D ⟨fn,n,aq,bb,aD,ro,cs⟩ K h j=some v:=ar
     unfold Hn at aO
     cases ro with
     |none=>simp at aO
     |some l=>
      simp only at aO
      split at aO
      ·rename_i qu gK aS kz c1 params assign body ge g8
       simp only[eY,he]at aO
       obtain⟨CO,aO⟩:=aO
       have aH:=aC.hK.ro l rfl
       have Q8:∀c,qu=some c->F0 c:=by
        obtain⟨_,_,_,_,_,_,ss,_⟩:=aC.Z.obj l _ g8 aH
        exact ss
       obtain⟨hx,gH,Bw,ss,yh⟩:=R7 aC (hY:= .busy) (BF:=qu) (jb CO) aH g8 Q8
       refine .head (au9 (run_beginRound gH rfl)) ?_
       exact pA _ _ _ _ _ _ _ _ _ _ _ _ v aO Q ae _ cX tmps bq ap (yh.state (.plain aF w4))
      ·simp at aO
  |seq aF aI=>exact adL cG pA _ _ _ _ _ _ _ _ _ _ aC aF aI U
  |drawn aF bN cv dP fq=>exact WG cG pA aC aF bN cv dP.dW dP fq U
 |returning=>
  have aC:iO C bo bv bO fn aq bb aD ro cs h j Q ae w cX ap:=⟨df.Z,df.kR,df.hL,df.jT,df.hK,df.bot,df.cs⟩
  exact aud (todo:=todo) cG pA aC df.todo cD
 |panicking f5=>
  have aC:iO C bo bv bO fn aq bb aD ro cs h j Q ae w cX ap:=⟨df.Z,df.kR,df.hL,df.jT,df.hK,df.bot,df.cs⟩
  exact atd (todo:=todo) cG pA df.mode aC df.todo cD
def auw(cG:Env C bo dK d4):∀n,nc C bo bv bO (run C n):=by
 intro n
 induction n with
 |zero=>intro bM todo fn n aq bb aD ro cs K h j v a;simp[run]at a
 |succ m pA=>exact adW cG pA
def aut(cG:Env C bo dK d4){m f:Nat}{args:List H}(hg:ew d4 args)(a:sD C m f args=some v):
 Calls C.P f (bX dK args).toArray bo λF bV=>(∃Q,F= .returned (aN Q v))/\Below bo.heap.size bo bV:=by
 intro qT
 have bS:Ends C bo f qT v (lone (Frame.enter C.P f (bX dK args).toArray .normal) qT bo):=
  K8 (auw cG m) cG.base (Below.refl _ _) cG.hL (Zi _) .nil (λ_=>rfl) hg a
 obtain⟨Q,bV,fr,R,U,ar,aO⟩:=bS
 exact⟨.returned (aN Q v),bV,fr,⟨⟨Q,rfl⟩,aO⟩,R,ar,U⟩
end
end Go.bg

namespace Go.bg
noncomputable section
open Go.RowKit (Below)
abbrev wb:=Option (List H×Nat×List (Nat×ak))
def Do(P:Program)(next:Nat->DataW Unit->Nat->wb):List Field->List (DataW Unit)->Nat->Nat->wb
 |[],[],_,n=>some ([],n,[])
 |f::jx,d::ds,off,n=>bR (Nat.beq f.offset off) (match next f.type d n with
  |some (l,aL,os)=>bR (Nat.beq l.length (P.cellsOf f.type)) (match Do P next jx ds (off+l.length) aL with
   |some (c5,a6,sx)=>some (l++c5,a6,os++sx)
   |none=>none) none
  |none=>none) none
 |_,_,_,_=>none
def F2(P:Program)(next:Nat->DataW Unit->Nat->wb)(F:Nat):List (DataW Unit)->Nat->wb
 |[],n=>some ([],n,[])
 |d::ds,n=>match next F d n with
  |some (l,aL,os)=>bR (Nat.beq l.length (P.cellsOf F)) (match F2 P next F ds aL with
   |some (c5,a6,sx)=>some (l++c5,a6,os++sx)
   |none=>none) none
  |none=>none
def Jh:Lit->Option H
 | .bool b=>some (.bool b)
 | .int D n=>some (.int D n)
 | .string s=>some (.str (s.map (·.toNat)))
 |_=>none
def RU(P:Program)(F:Nat)(l:List H):Option H:=match P.underlying F with
 |some (.struct _)=>some (.agg l)
 |some (.array _ _)=>some (.agg l)
 |some _=>(match l with|[v]=>some v|_=>none)
 |none=>none
def Nw(P:Program)(D:Nat):Bool:=match P.underlying D with|some .bool=>true|some (.int _)=>true|some .string=>true|_=>false
def Jm(P:Program)(next:Nat->DataW Unit->Nat->wb)(F:Nat):List (Lit×DataW Unit)->Nat->Option (List (H×H)×Nat×List (Nat×ak))
 |[],n=>some ([],n,[])
 |(key,d)::bF,n=>match Jh key,next F d n with
  |some F1,some (l,aL,os)=>(match RU P F l,Jm P next F bF aL with
   |some v,some (r,a6,sx)=>some ((F1,v)::r,a6,os++sx)
   |_,_=>none)
  |_,_=>none
def GG(l:List H):ak:= .cells (S.ofList l 0 .nil) l.length .own
def w9(P:Program):Nat->Nat->DataW Unit->Nat->wb
 |0,_,_,_=>none
 |m+1,t,d,n=>match P.underlying t,d with
  |some .bool, .lit (.bool b)=>some ([.bool b],n,[])
  |some (.int _), .lit (.int D i)=>some ([.int D i],n,[])
  |some .string, .lit (.string s)=>some ([.str (s.map (·.toNat))],n,[])
  |some (.pointer _), .nil=>some ([.cq],n,[])
  |some (.pointer F), .ptr d=>(match w9 P m F d (n+1)with
   |some (l,aL,os)=>bR (Nat.beq l.length (P.cellsOf F)&&Nat.blt 0 l.length) (some ([.ptr n 0],aL,(n,GG l)::os)) none
   |none=>none)
  |some (.slice _), .nil=>some ([.aT],n,[])
  |some (.slice F), .slice bF adR=>(match adR with
   |[]=>(match F2 P (w9 P m) F bF (n+1)with
    |some (l,aL,os)=>bR (Nat.blt 0 l.length) (some ([.slice n 0 bF.length bF.length],aL,(n,GG l)::os)) none
    |none=>none)
   |_::_=>none)
  |some (.struct jx), .agg ds=>(match Do P (w9 P m) jx.toList ds 0 n with
   |some (l,aL,os)=>bR (Nat.beq l.length (P.cellsOf t)) (some (l,aL,os)) none
   |none=>none)
  |some (.array _ F), .agg ds=>(match F2 P (w9 P m) F ds n with
   |some (l,aL,os)=>bR (Nat.beq l.length (P.cellsOf t)) (some (l,aL,os)) none
   |none=>none)
  |some (.interface _), .nil=>some ([.nilIface],n,[])
  |some (.map _ _), .nil=>some ([.lT],n,[])
  |some (.map D F), .map bF=>bR (Nw P D) (match Jm P (w9 P m) F bF (n+1)with
   |some (r,aL,os)=>some ([.map n],aL,(n, .look r)::os)
   |none=>none) none
  |_,_=>none
section
variable{C:aW}{P:Program}{w:World}
def rF(w:World)(dl:List MemPlace):Prop:=∀b off,MemPlace.cell b off∈dl->∃c t,w.heap[b]? =some (.cells c t (0,0))
def Ei(W:ak):Prop:=∀C ae,tS C ae W
def Lays(C:aW)(w:World)(n:Nat)(cs:List Value)(r:List H×Nat×List (Nat×ak)):Prop:=
 n<=r.2.1/\(∀x∈r.2.2,n<=x.1/\x.1<r.2.1/\Ei x.2)/\∃f:Nat->mj,∀Q ae,(∀b,n<=b->b<r.2.1->Q b=f b/\ae b)->cs=bX Q r.1/\ew ae r.1/\∀x∈r.2.2,jG C Q ae x.2 (Q x.1) w
def Lays.plain{n:Nat}{cs:List Value}{l:List H}(a:∀Q ae,cs=bX Q l/\ew ae l):Lays C w n cs (l,n,[]):=
 ⟨Zi _,Zs,λ_=>default,λQ ae _=>⟨(a Q ae).1,(a Q ae).2,Zs⟩⟩
def Lays.app{n aL a6:Nat}{qT O6:List Value}{eh c5:List H}{ac1 sx:List (Nat×ak)}(R:Lays C w n qT (eh,aL,ac1))(U:Lays C w aL O6 (c5,a6,sx)):Lays C w n (qT++O6) (eh++c5,a6,ac1++sx):=by
 obtain⟨bd,cg,eM,a3⟩:=R
 obtain⟨cZ,dO,e3,ei⟩:=U
 refine⟨ZA bd cZ, ?_,λb=>if b<aL then eM b else e3 b, ?_⟩
 ·intro x ag
  rcases Zz.1 ag with a|a
  ·obtain⟨cB,cu,ee⟩:=cg x a
   exact⟨cB,ZK cu cZ,ee⟩
  ·obtain⟨cB,cu,ee⟩:=dO x a
   exact⟨ZA bd cB,cu,ee⟩
 ·intro Q ae dF
  obtain⟨dk,dB,gF⟩:=a3 Q ae (λb R U=>by
   have E4:b<aL:=U
   have:=dF b R (ZK U cZ)
   simp only[Zq E4]at this
   exact this)
  obtain⟨cT,cJ,eT⟩:=ei Q ae (λb R U=>by
   have tc:¬b<aL:=zn.2 R
   have:=dF b (ZA bd R) U
   simp only[Zh tc]at this
   exact this)
  refine⟨by rw[Cg, <-dk, <-cT],AE dB cJ, ?_⟩
  intro x ag
  rcases Zz.1 ag with a|a
  ·exact gF x a
  ·exact eT x a
def Dt{α eR:Type}{f:α->Option eR}:∀{l:List α}{r:List eR},l.mapM f=some r->r.length=l.length/\∀(i:Nat) (J:α) (b:eR),l[i]? =some J->r[i]? =some b->f J=some b:=by
 intro l
 induction l with
 |nil=>intro r a;simp at a;subst a;simp
 |cons J l al=>
  intro r a
  simp only[Y3,Option.bind_eq_bind,ZV]at a
  obtain⟨b,ai,hH,Z,a⟩:=a
  simp at a;subst a
  obtain⟨R,U⟩:=al Z
  refine⟨by simp[R],λi fR dR aC jQ=> ?_⟩
  cases i with
  |zero=>simp at aC jQ;subst aC;subst jQ;exact ai
  |succ i=>exact U i fR dR (by simpa using aC) (by simpa using jQ)
def act{α eR:Type}{f:α->Option eR}{J:α}{l:List α}{r:List eR}(a:(J::l).mapM f=some r):∃b hH,r=b::hH/\f J=some b/\l.mapM f=some hH:=by
 simp only[Y3,Option.bind_eq_bind,ZV]at a
 obtain⟨b,ai,hH,Z,a⟩:=a
 simp at a;subst a
 exact⟨b,hH,rfl,ai,Z⟩
def rF.of{dl c3:List MemPlace}(a:rF w dl)(aI:∀x∈c3,x∈dl):rF w c3:=λb off ai=>a b off (aI _ ai)
def Kv(C:aW)(w:World)(next:Nat->DataW Unit->Nat->wb)(eE:TypeId->List Value->Option (DataW Unit×List MemPlace)):Prop:=
 ∀t d n r,next t d n=some r->∀cs dl,eE t cs=some (d,dl)->rF w dl->Lays C w n cs r
variable{next:Nat->DataW Unit->Nat->wb}{eE:TypeId->List Value->Option (DataW Unit×List MemPlace)}
def arw(iI:Kv C w next eE){cs:List Value}:∀(jx:List Field) (ds:List (DataW Unit)) (off n:Nat) (r:List H×Nat×List (Nat×ak)),Do P next jx ds off n=some r->
 ∀cm:List (DataW Unit×List MemPlace),(jx.mapM λf=>eE f.type ((cs.drop f.offset).take (P.cellsOf f.type)))=some cm->cm.map (·.1)=ds->rF w (cm.flatMap (·.2))->Lays C w n ((cs.drop off).take r.1.length) r:=by
 intro jx
 induction jx with
 |nil=>
  intro ds off n r a cm _ _ _
  cases ds with
  |nil=>simp[Do]at a;subst a;exact .plain λQ ae=>⟨by simp[bX],trivial⟩
  |cons d ds=>simp[Do]at a
 |cons f jx al=>
  intro ds off n r a cm ag aH ct
  cases ds with
  |nil=>simp[Do]at a
  |cons d ds=>
   simp only[Do,eY]at a
   obtain⟨Q2,a⟩:=a
   have Q2:=Zl Q2
   split at a
   ·rename_i l aL os Z
    simp only[eY]at a
    obtain⟨aB,a⟩:=a
    have aB:=Zl aB
    split at a
    ·rename_i c5 a6 sx g4
     simp at a;subst a
     obtain⟨e,nB,rfl,I,Rv⟩:=act ag
     simp at aH
     obtain⟨rfl,aH⟩:=aH
     have R:=iI _ _ _ _ Z _ e.2 (by rw[I]) (ct.of (by intro x ag;simp;exact .inl ag))
     have U:=al ds (off+l.length) aL _ g4 nB Rv aH (ct.of (by intro x ag;simp only[Y2,Zz];exact .inr ag))
     rw[Q2, <-aB]at R
     have:=R.app U
     simp only[ZP]
     rw[List.take_add,zj]
     exact this
    ·simp at a
   ·simp at a
def Xg(cs:List Value)(D:Nat):∀(m i0:Nat),(List.range' i0 m).flatMap (λi=>(cs.drop (i*D)).take D)=(cs.drop (i0*D)).take (m*D):=by
 intro m
 induction m with
 |zero=>intro i0;simp
 |succ m al=>
  intro i0
  rw[List.range'_succ,Y2,al,Z9 m 1 D,Nat.one_mul,Nat.add_comm (m*D) D,List.take_add,zj,Z9 i0 1 D,Nat.one_mul]
def acb(iI:Kv C w next eE){F:Nat}{g:Nat->List Value}:∀(ds:List (DataW Unit)) (i0 n:Nat) (r:List H×Nat×List (Nat×ak)),F2 P next F ds n=some r->
 ∀cm:List (DataW Unit×List MemPlace),((List.range' i0 ds.length).mapM λi=>eE F (g i))=some cm->cm.map (·.1)=ds->rF w (cm.flatMap (·.2))->Lays C w n ((List.range' i0 ds.length).flatMap g) r/\r.1.length=ds.length*P.cellsOf F:=by
 intro ds
 induction ds with
 |nil=>
  intro i0 n r a cm _ _ _
  simp[F2]at a;subst a
  exact⟨.plain λQ ae=>⟨by simp[bX],trivial⟩,Zs⟩
 |cons d ds al=>
  intro i0 n r a cm ag aH ct
  simp only[F2]at a
  split at a
  ·rename_i l aL os Z
   simp only[eY]at a
   obtain⟨aB,a⟩:=a
   have aB:=Zl aB
   split at a
   ·rename_i c5 a6 sx g4
    simp at a;subst a
    simp only[ZC,List.range'_succ]at ag
    obtain⟨e,nB,rfl,I,Rv⟩:=act ag
    simp at aH
    obtain⟨rfl,aH⟩:=aH
    have R:=iI _ _ _ _ Z _ e.2 (by rw[I]) (ct.of (by intro x ag;simp;exact .inl ag))
    obtain⟨U,ar⟩:=al (i0+1) aL _ g4 nB Rv aH (ct.of (by intro x ag;simp only[Y2,Zz];exact .inr ag))
    refine⟨?_, ?_⟩
    ·simp only[ZC,List.range'_succ,Y2]
     exact R.app U
    ·simp only[ZP,ZC,ar,aB,Nat.succ_mul]
     omega
   ·simp at a
  ·simp at a
end
end
end Go.bg

namespace Go.bg
noncomputable section
open Go.RowKit (Below)
section
variable{C:aW}{P:Program}{w:World}
def OZ{J:Addr}{v:Value}(a:w.cell? J=some v):J.spot=none/\∃cn ty tH,w.heap[J.block]? =some (.cells cn ty tH)/\cn[J.off]? =some v:=by
 unfold World.cell? at a
 split at a
 ·rename_i c ty tH ai
  split at a
  ·cases a
  ·rename_i aI
   refine⟨?_,c,ty,tH,ai,a⟩
   cases cl:J.spot with
   |none=>rfl
   |some x=>rw[cl]at aI;exact absurd rfl aI
 ·cases a
def OF(J:Addr)(Y:Nat):(J.add Y).block=J.block:=by unfold Addr.add;split<;>rfl
def VJ(J:Addr)(Y:Nat):(J.add Y).off=J.off+Y:=by unfold Addr.add;split<;>simp_all
def O1{J:Addr}{D:Nat}{g:List Value}{cn:Array Value}{ty:TypeId}{tH:Nat×Nat}(ai:w.heap[J.block]? =some (.cells cn ty tH))(a:w.cells? 0 J D=some g):g=(cn.toList.drop J.off).take D/\g.length=D:=by
 unfold World.cells? at a
 rw[Zq (zo _)]at a
 obtain⟨R,U⟩:=Dt a
 rw[List.length_range]at R
 have key:∀Y,Y<D->cn[J.off+Y]? =g[Y]? :=by
  intro Y bH
  have b0:g[Y]? =some g[Y]:=Ze Zo
  have:=U Y Y g[Y] (by simp[bH]) b0
  obtain⟨_,Ew,avW,ayQ,cB,cu⟩:=OZ this
  rw[OF,ai]at cB
  cases cB
  rw[VJ]at cu
  rw[cu,b0]
 refine⟨Y1 λY=> ?_,R⟩
 by_cases bH:Y<D
 ·rw[YM bH,YB, <-key Y bH];simp
 ·rw[Z2 Zo,Z2 (by simp;omega)]
def Sl(l:List H):Ei (GG l):=λ_ _=>⟨λ_ _ _ a=>(by cases a),λ_ _ _ a=>(by cases a;exact Gp)⟩
def asR(l:List (H×H)):Ei (.look l):=λ_ _=>⟨λ_ _ _ a=>(by cases a),λ_ _ _ a=>(by cases a)⟩
def SF{Q:c6}{ae:Nat->Prop}{l:List H}{pl:mj}{cn:Array Value}{ty:TypeId}(ai:w.heap[pl.cE]? =some (.cells cn ty (0,0)))(aB:(cn.toList.drop pl.ed).take l.length=bX Q l)(g:ew ae l)(ct:0<l.length):jG C Q ae (GG l) pl w:=by
 have fB:l.length<=cn.size-pl.ed:=by
  have:=congrArg List.length aB
  rw[jL]at this
  simp at this
  omega
 refine⟨cn,ty,0,0,ai,rfl,Zo,λi v bA=> ?_⟩
 rw[kC]at bA
 have aM:i<l.length:=(Zc.1 bA).1
 refine⟨?_,AF g bA⟩
 have:=congrArg (λx:List Value=>x[i]?) aB
 simp only[YM aM,YB,ZL,Ar,bA,ZS]at this
 exact this
def Lays.block{n aL:Nat}{os:List (Nat×ak)}{cs:List Value}{l:List H}{ad:H}{x:Value}{cR:ak}(pl:mj)(a:Lays C w (n+1) cs (l,aL,os))(bf:Ei cR)
 (g8:∀Q ae,Q n=pl->ae n->cs=bX Q l->ew ae l->jG C Q ae cR pl w/\x=aN Q ad/\ch ae ad):Lays C w n [x] ([ad],aL,(n,cR)::os):=by
 obtain⟨bd,cg,f,a3⟩:=a
 have bd:n+1<=aL:=bd
 refine⟨by simp only;omega, ?_,λb=>if b=n then pl else f b, ?_⟩
 ·intro e I
  rcases Zt.1 I with rfl|I
  ·exact⟨Zi _,by simp only;omega,bf⟩
  ·obtain⟨cB,cu,ee⟩:=cg e I
   exact⟨Zo,cu,ee⟩
 ·intro Q ae dF
  have aK:=dF n (Zi _) (by simp only;omega)
  simp only[ZD]at aK
  obtain⟨dk,dB,gF⟩:=a3 Q ae (λb R U=>by
   have:=dF b Zo U
   have dI:b≠n:=Zo
   simp only[Zh dI]at this
   exact this)
  obtain⟨e0,fF,hv⟩:=g8 Q ae aK.1 aK.2 dk dB
  refine⟨by simp[bX,fF],⟨hv,trivial⟩, ?_⟩
  intro e I
  rcases Zt.1 I with rfl|I
  ·simp only[aK.1];exact e0
  ·exact gF e I
def adc{α eR:Type}{f:α->eR}{J m:List eR}(a:J.Perm m):∀l:List α,l.map f=J->∃b5:List α,b5.Perm l/\b5.map f=m:=by
 induction a with
 |nil=>intro l a;simp at a;subst a;exact⟨[], .refl _,rfl⟩
 |cons x _ al=>
  intro l a
  cases l with
  |nil=>simp at a
  |cons e l=>
   simp at a
   obtain⟨b5,R,U⟩:=al l a.2
   exact⟨e::b5,R.cons e,by simp[a.1,U]⟩
 |swap x e fO=>
  intro l a
  cases l with
  |nil=>simp at a
  |cons p l=>
   cases l with
   |nil=>simp at a
   |cons an l=>
    simp at a
    obtain⟨rfl,rfl,rfl⟩:=a
    exact⟨an::p::l, .swap _ _ _,Zs⟩
 |trans _ _ Ry I7=>
  intro l a
  obtain⟨eh,R,U⟩:=Ry l a
  obtain⟨c5,ar,aO⟩:=I7 eh U
  exact⟨c5,ar.trans R,aO⟩
def insert_perm{ph:Type}(x:Lit×DataW ph):∀l,(DataW.insert x l).Perm (x::l):=by
 intro l
 induction l with
 |nil=>exact .refl _
 |cons e l al=>
  simp only[DataW.insert]
  split
  ·exact .refl _
  ·exact(al.cons e).trans (.swap _ _ _)
def sorted_perm{ph:Type}:∀l:List (Lit×DataW ph),(l.foldr DataW.insert []).Perm l:=by
 intro l
 induction l with
 |nil=>exact .refl _
 |cons x l al=>exact(insert_perm x _).trans (al.cons x)
def aq8{D:Nat}{v:Value}{key:Lit}{F1:H}(ay:Nw P D=true)(a:keyOf P D v=some key)(aF:Jh key=some F1)(Q:c6)(ae:Nat->Prop):v=aN Q F1/\ch ae F1:=by
 unfold Nw at ay
 unfold keyOf at a
 have F:mapKey P D v=some key:=by
  cases bc:P.underlying D with
  |none=>rw[bc]at ay;cases ay
  |some ad=>rw[bc]at a ay;cases ad<;>first|exact a|cases ay
 unfold mapKey at F
 split at F
 ·simp at F;subst F;simp[Jh]at aF;subst aF;exact⟨rfl,trivial⟩
 ·split at F
  ·rename_i an Sw n _ cl
   simp at F;subst F;simp[Jh]at aF;subst aF
   exact⟨by rw[cl.1];rfl,trivial⟩
  ·cases F
 ·split at F
  ·rename_i s _ _
   simp at F;subst F;simp[Jh]at aF;subst aF
   refine⟨by simp only[aN];rw[OT], ?_⟩
   intro x ag
   simp at ag
   obtain⟨b,_,rfl⟩:=ag
   exact b.toNat_lt
  ·cases F
 ·cases F
def awe{F:Nat}{v:Value}{l:List H}{ad:H}{Q:c6}{ae:Nat->Prop}(ce:v.formed P F=true)(bc:RU P F l=some ad)(az:v.cells.toList=bX Q l)(g:ew ae l):v=aN Q ad/\ch ae ad:=by
 unfold RU at bc
 unfold Value.formed at ce
 cases aH:P.underlying F with
 |none=>rw[aH]at bc;cases bc
 |some J7=>
  rw[aH]at bc ce
  have agg:(∃cs,v= .agg cs)->ad= .agg l->v=aN Q ad/\ch ae ad:=by
   rintro⟨cs,rfl⟩ rfl
   refine⟨?_,g⟩
   simp only[Value.cells]at az
   simp only[aN, <-az]
  have auT:v.cells= #[v]->(∃x,l=[x]/\ad=x)->v=aN Q ad/\ch ae ad:=by
   rintro R ⟨x,rfl,rfl⟩
   rw[R]at az
   simp[bX]at az
   exact⟨az,g.1⟩
  cases v<;>cases J7<;>simp only at ce bc<;>first
   |(cases ce;done)
   |(simp at bc;exact agg ⟨_,rfl⟩ bc.symm)
   |(
     split at bc
     ·simp at bc;exact auT rfl ⟨_,rfl,bc.symm⟩
     ·cases bc)
end
end
end Go.bg

namespace Go.bg
noncomputable section
open Go.RowKit (Below)
section
variable{C:aW}{P:Program}{w:World}
variable{next:Nat->DataW Unit->Nat->wb}{eE:TypeId->List Value->Option (DataW Unit×List MemPlace)}
def arv(iI:Kv C w next eE){D F:Nat}(ay:Nw P D=true):∀(bF:List (Lit×DataW Unit)) (n:Nat) (r:List (H×H)×Nat×List (Nat×ak)),Jm P next F bF n=some r->
 ∀jI:List (MapEntry×((Lit×DataW Unit)×List MemPlace)),jI.map (·.2.1)=bF->(∀br∈jI,keyOf P D br.1.key=some br.2.1.1/\br.1.val.formed P F=true/\eE F br.1.val.cells.toList=some (br.2.1.2,br.2.2)/\rF w br.2.2)->
 n<=r.2.1/\(∀x∈r.2.2,n<=x.1/\x.1<r.2.1/\Ei x.2)/\r.1.length=jI.length/\∃f:Nat->mj,∀Q ae,(∀b,n<=b->b<r.2.1->Q b=f b/\ae b)->
  jI.map (·.1)=(List.zipWith (λ(p:H×H) (br:MapEntry×((Lit×DataW Unit)×List MemPlace))=>(p.1,p.2,br.1.born)) r.1 jI).map (lF Q)/\(∀p∈r.1,ch ae p.1/\ch ae p.2)/\∀x∈r.2.2,jG C Q ae x.2 (Q x.1) w:=by
 intro bF
 induction bF with
 |nil=>
  intro n r a jI Fg _
  simp[Jm]at a;subst a
  simp at Fg;subst Fg
  exact⟨Zi _,Zs,rfl,λ_=>default,λQ ae _=>⟨rfl,Zs,Zs⟩⟩
 |cons J bF al=>
  obtain⟨key,d⟩:=J
  intro n r a jI Fg jP
  simp only[Jm]at a
  split at a
  ·rename_i F1 l aL os aoH aK
   split at a
   ·rename_i v jn a6 sx bA Z
    simp at a;subst a
    cases jI with
    |nil=>simp at Fg
    |cons br jI=>
     simp at Fg
     obtain⟨FO,FP⟩:=Fg
     obtain⟨b3,b2,cQ,d1⟩:=jP br (Zw ..)
     rw[FO]at b3 cQ
     obtain⟨bd,cg,eM,a3⟩:=iI _ _ _ _ aK _ _ cQ d1
     obtain⟨cZ,dO,fM,e3,ei⟩:=al aL _ Z jI FP (λbr ct=>jP br (Zu _ ct))
     have bd:n<=aL:=bd
     have cZ:aL<=a6:=cZ
     refine⟨ZA bd cZ, ?_,by simpa using fM,λb=>if b<aL then eM b else e3 b, ?_⟩
     ·intro x ag
      rcases Zz.1 ag with an|an
      ·obtain⟨cB,cu,ee⟩:=cg x an
       exact⟨cB,ZK cu cZ,ee⟩
      ·obtain⟨cB,cu,ee⟩:=dO x an
       exact⟨ZA bd cB,cu,ee⟩
     ·intro Q ae dF
      obtain⟨dk,dB,gF⟩:=a3 Q ae (λb R U=>by
       have E4:b<aL:=U
       have:=dF b R (ZK U cZ)
       simp only[Zq E4]at this
       exact this)
      obtain⟨cT,cJ,eT⟩:=ei Q ae (λb R U=>by
       have tc:¬b<aL:=zn.2 R
       have:=dF b (ZA bd R) U
       simp only[Zh tc]at this
       exact this)
      obtain⟨bZ,cw⟩:=aq8 ay b3 aoH Q ae
      obtain⟨Kd,aei⟩:=awe b2 bA dk dB
      refine⟨?_, ?_, ?_⟩
      ·simp only[Yb,List.zipWith_cons_cons,cT]
       congr 1
       obtain⟨⟨aze,azf,azd⟩,_⟩:=br
       simp only[lF]at bZ Kd ⊢
       rw[<-bZ, <-Kd]
      ·intro p ay
       rcases Zt.1 ay with rfl|ay
       ·exact⟨cw,aei⟩
       ·exact cJ p ay
      ·intro x ag
       rcases Zz.1 ag with an|an
       ·exact gF x an
       ·exact eT x an
   ·simp at a
  ·simp at a
def aeA{jI:List (MapEntry×((Lit×DataW Unit)×List MemPlace))}:∀(r:List (H×H)) (jI:List (MapEntry×((Lit×DataW Unit)×List MemPlace))),r.length=jI.length->
 (List.zipWith (λ(p:H×H) (br:MapEntry×((Lit×DataW Unit)×List MemPlace))=>(p.1,p.2,br.1.born)) r jI).map (λF=>(F.1,F.2.1))=r:=by
 intro r
 induction r with
 |nil=>intro jI _;simp
 |cons p r al=>
  intro jI a
  cases jI with
  |nil=>simp at a
  |cons br jI=>simp[al jI (by simpa using a)]
def ar3{α eR:Type}{f g:α->Option eR}:∀{l:List α},(∀x∈l,f x=g x)->l.mapM f=l.mapM g:=by
 intro l
 induction l with
 |nil=>intro _;rfl
 |cons J l al=>intro a;simp[Y3,a J Zs,al λx ag=>a x (by simp[ag])]
def alF{α eR:Type}{f g:α->List eR}:∀{l:List α},(∀x∈l,f x=g x)->l.flatMap f=l.flatMap g:=by
 intro l
 induction l with
 |nil=>intro _;rfl
 |cons J l al=>intro a;simp[Y2,a J Zs,al λx ag=>a x (by simp[ag])]
end
end
end Go.bg

namespace Go.bg
noncomputable section
open Go.RowKit (Below)
section
variable{C:aW}{P:Program}{w:World}
abbrev rd(P:Program)(w:World)(an:Nat):TypeId->List Value->Option (DataW Unit×List MemPlace):=DataW.trod (λ_=>()) P w 0 (λ_=>true) false an
def NE{J:Addr}{D:Nat}(a:0<D):MemPlace.cell J.block J.off∈MemPlace.row J D:=by
 unfold MemPlace.row
 exact ZW.2 ⟨0,by simp[a],Zs⟩
def acd:∀(m an:Nat),Kv C w (w9 P m) (rd P w an):=by
 intro m
 induction m with
 |zero=>intro an t d n r a;simp[w9]at a
 |succ m al=>
  intro an t d n r a cs dl Z ct
  cases an with
  |zero=>simp[rd,DataW.trod]at Z
  |succ an=>
   have I8:=al an
   simp only[w9]at a
   split at a
   ·
    rename_i b bc
    simp at a;subst a
    match cs with
    |[]=>simp[rd,DataW.trod,bc]at Z
    |_::_::_=>simp[rd,DataW.trod,bc]at Z
    |[c]=>
     cases c<;>simp[rd,DataW.trod,bc]at Z
     obtain⟨rfl,rfl⟩:=Z
     exact .plain λQ ae=>⟨rfl,trivial,trivial⟩
   ·
    rename_i e1 D i bc
    simp at a;subst a
    match cs with
    |[]=>simp[rd,DataW.trod,bc]at Z
    |_::_::_=>simp[rd,DataW.trod,bc]at Z
    |[c]=>
     cases c<;>simp[rd,DataW.trod,bc]at Z
     obtain⟨⟨rfl,_⟩,⟨rfl,rfl⟩,rfl⟩:=Z
     exact .plain λQ ae=>⟨rfl,trivial,trivial⟩
   ·
    rename_i s bc
    simp at a;subst a
    match cs with
    |[]=>simp[rd,DataW.trod,bc]at Z
    |_::_::_=>simp[rd,DataW.trod,bc]at Z
    |[c]=>
     cases c<;>simp[rd,DataW.trod,bc]at Z
     obtain⟨_,rfl,rfl⟩:=Z
     refine .plain λQ ae=>⟨by simp only[bX,aN];rw[OT], ?_,trivial⟩
     intro x ag
     simp at ag
     obtain⟨b,_,rfl⟩:=ag
     exact b.toNat_lt
   ·
    rename_i F bc
    simp at a;subst a
    match cs with
    |[]=>simp[rd,DataW.trod,bc]at Z
    |_::_::_=>simp[rd,DataW.trod,bc]at Z
    |[c]=>
     cases c<;>simp[rd,DataW.trod,bc]at Z
     rename_i J
     cases J with
     |none=>exact .plain λQ ae=>⟨rfl,trivial,trivial⟩
     |some J=>simp[ZV]at Z
   ·
    rename_i F d bc
    split at a
    ·rename_i l aL os aB
     simp only[eY,Zn,Zf]at a
     obtain⟨⟨R,U⟩,rfl⟩:=a
     have R:=Zl R
     have U:=lh U
     match cs with
     |[]=>simp[rd,DataW.trod,bc]at Z
     |_::_::_=>simp[rd,DataW.trod,bc]at Z
     |[c]=>
      cases c<;>simp[rd,DataW.trod,bc]at Z
      rename_i W
      cases W with
      |none=>simp at Z
      |some J=>
       simp only[ZV,Function.comp,Yn,YN,DataW.ptr.injEq]at Z
       obtain⟨c8,az,x,ag,rfl,rfl⟩:=Z
       obtain⟨cn,ty,ai⟩:=ct J.block J.off (Zz.2 (.inl (NE Zo)))
       obtain⟨b3,b2⟩:=O1 ai az
       have Da:J.spot=none:=by
        unfold World.cells? at az
        rw[Zq (zo _)]at az
        obtain⟨bZ,cw⟩:=Dt az
        have:=cw 0 0 c8[0] (by rw[List.getElem?_range Zo]) (Ze Zo)
        exact(OZ (show w.cell? J=some _ from this)).1
       have yw:=I8 _ _ _ _ aB c8 x.2 ag (ct.of λe I=>Zz.2 (.inr I))
       refine Lays.block ⟨J.block,J.off,0⟩ yw (Sl l) λQ ae dF gy hU b0=>⟨SF ai ?_ b0 U, ?_,gy⟩
       ·simp only
        rw[R, <-b3,hU]
       ·simp only[aN,dF]
        obtain⟨iP,ai9,cp⟩:=J
        have Da:cp=none:=Da
        subst Da
        rfl
    ·simp at a
   ·
    rename_i F bc
    simp at a;subst a
    match cs with
    |[]=>simp[rd,DataW.trod,bc]at Z
    |_::_::_=>simp[rd,DataW.trod,bc]at Z
    |[c]=>
     cases c<;>(try(simp[rd,DataW.trod,bc]at Z;done))
     rename_i J len cap
     cases J with
     |none=>
      simp only[rd,DataW.trod,bc]at Z
      split at Z<;>simp_all
      exact .plain λQ ae=>⟨rfl,trivial,trivial⟩
     |some J=>
      simp[rd,DataW.trod,bc,ZV]at Z
   ·
    rename_i F bF adR bc
    split at a
    ·split at a
     ·rename_i l aL os aB
      simp only[eY,Zf]at a
      obtain⟨U,rfl⟩:=a
      have U:=lh U
      match cs with
      |[]=>simp[rd,DataW.trod,bc]at Z
      |_::_::_=>simp[rd,DataW.trod,bc]at Z
      |[c]=>
       cases c<;>(try(simp[rd,DataW.trod,bc]at Z;done))
       rename_i W len cap
       cases W with
       |none=>
        simp only[rd,DataW.trod,bc]at Z
        split at Z<;>simp_all
       |some J=>
        simp only[rd,DataW.trod,bc]at Z
        split at Z
        ·rename_i mu
         simp only[ZV,Yn,YN,DataW.slice.injEq,ZD]at Z
         obtain⟨Pm,bt,rest,w2,⟨bB,cF⟩,rfl⟩:=Z
         have apC:rest=[]:=by simpa using cF
         subst apC
         obtain⟨bZ,_⟩:=Dt w2
         obtain⟨cw,c0⟩:=Dt bt
         simp at bZ cw
         have iJ:cap=len:=Zo
         subst iJ
         have fB:bF.length=cap:=by rw[<-bB];simp[cw]
         simp only[ZO,ZR,Yq]at ct
         obtain⟨iZ,kH⟩:=acb (C:=C) (w:=w) I8 (F:=F) (g:=λi=>(w.cells? 0 (J.add (i*P.cellsOf F)) (P.cellsOf F)).getD []) bF 0 (n+1) _ aB Pm
          (by
           rw[fB, <-List.range_eq_range']
           rw[<-bt]
           have jP:∀i∈List.range cap,(w.cells? 0 (J.add (i*P.cellsOf F)) (P.cellsOf F)).isSome=true:=by
            intro i aM
            have kX:i<cap:=by simpa using aM
            have:=c0 i i Pm[i] (by simp[kX]) (Ze Zo)
            simp only[ZV]at this
            obtain⟨d7,cB,_⟩:=this
            rw[cB];rfl
           exact ar3 λi aM=>by
            have:=jP i aM
            cases cl:w.cells? 0 (J.add (i*P.cellsOf F)) (P.cellsOf F)with
            |none=>rw[cl]at this;cases this
            |some d7=>simp)
          bB (ct.of λe I=>Zz.2 (.inr I))
         simp only at kH
         have Fy:0<cap*P.cellsOf F:=by rw[<-fB, <-kH];exact U
         obtain⟨cn,ty,ai⟩:=ct J.block J.off (Zz.2 (.inl (NE (by rw[cw];exact Fy))))
         have aF:0<P.cellsOf F:=Nat.pos_of_mul_pos_left Fy
         have wP:0<cap:=Nat.pos_of_mul_pos_right Fy
         have aa:∀i,i<cap->∃d7,w.cells? 0 (J.add (i*P.cellsOf F)) (P.cellsOf F)=some d7:=by
          intro i kX
          have:=c0 i i Pm[i] (by simp[kX]) (Ze Zo)
          simp only[ZV]at this
          obtain⟨d7,cB,_⟩:=this
          exact⟨d7,cB⟩
         have Da:J.spot=none:=by
          obtain⟨d7,cB⟩:=aa 0 wP
          have oI:=(O1 (J:=J.add (0*P.cellsOf F)) (by rw[OF];exact ai) cB).2
          unfold World.cells? at cB
          rw[Zq (zo _)]at cB
          obtain⟨_,cw⟩:=Dt cB
          have:=cw 0 0 d7[0] (by rw[List.getElem?_range Zo]) (Ze Zo)
          have cj:(J.add (0*P.cellsOf F)).add 0=J:=by simp[Addr.add]
          rw[cj]at this
          exact(OZ this).1
         have aon:(List.range' 0 bF.length).flatMap (λi=>(w.cells? 0 (J.add (i*P.cellsOf F)) (P.cellsOf F)).getD [])=(cn.toList.drop J.off).take (cap*P.cellsOf F):=by
          rw[fB]
          have:∀i∈List.range' 0 cap,(w.cells? 0 (J.add (i*P.cellsOf F)) (P.cellsOf F)).getD []=((cn.toList.drop J.off).drop (i*P.cellsOf F)).take (P.cellsOf F):=by
           intro i aM
           have kX:i<cap:=by simpa using aM
           obtain⟨d7,cB⟩:=aa i kX
           obtain⟨b3,_⟩:=O1 (J:=J.add (i*P.cellsOf F)) (by rw[OF];exact ai) cB
           rw[cB,zb,b3,VJ,zj]
          rw[alF this,Xg,zl,ZU]
         rw[aon]at iZ
         refine Lays.block ⟨J.block,J.off,0⟩ iZ (Sl l) λQ ae dF gy hU b0=>⟨SF ai ?_ b0 U, ?_,gy⟩
         ·simp only
          rw[kH,fB];exact hU
         ·simp only[aN,dF,fB]
          obtain⟨iP,ai9,cp⟩:=J
          have Da:cp=none:=Da
          subst Da
          rfl
        ·simp at Z
     ·simp at a
    ·simp at a
   ·
    rename_i jx ds bc
    split at a
    ·rename_i l aL os aB
     simp only[eY,Zf]at a
     obtain⟨R,rfl⟩:=a
     have R:=Zl R
     have df:rd P w (an+1) t cs=(if cs.length=P.cellsOf t then(jx.toList.mapM λf=>rd P w an f.type ((cs.drop f.offset).take (P.cellsOf f.type))).map λcm=>(.agg (cm.map (·.1)),cm.flatMap (·.2))else none):=by
      simp only[rd]
      rw[DataW.trod_step]
      unfold DataW.trodStep
      rw[bc]
     rw[df]at Z
     split at Z
     case isFalse=>cases Z
     rename_i fB
     simp only[Yn,YN,DataW.agg.injEq]at Z
     obtain⟨cm,ag,aH,rfl⟩:=Z
     have:=arw (C:=C) (w:=w) I8 (cs:=cs) jx.toList ds 0 n _ aB cm ag aH ct
     simp only[ZU]at this
     rw[Zy Zo]at this
     exact this
    ·simp at a
   ·
    rename_i D F ds bc
    split at a
    ·rename_i l aL os aB
     simp only[eY,Zf]at a
     obtain⟨R,rfl⟩:=a
     have R:=Zl R
     have df:rd P w (an+1) t cs=(if cs.length=P.cellsOf t then((List.range D).mapM λi=>rd P w an F ((cs.drop (i*P.cellsOf F)).take (P.cellsOf F))).map λcm=>(.agg (cm.map (·.1)),cm.flatMap (·.2))else none):=by
      simp only[rd]
      rw[DataW.trod_step]
      unfold DataW.trodStep
      rw[bc]
     rw[df]at Z
     split at Z
     case isFalse=>cases Z
     rename_i fB
     simp only[Yn,YN,DataW.agg.injEq]at Z
     obtain⟨cm,ag,aH,rfl⟩:=Z
     have h6:ds.length=D:=by
      have:=(Dt ag).1
      rw[<-aH];simpa using this
     obtain⟨iZ,kH⟩:=acb (C:=C) (w:=w) I8 (F:=F) (g:=λi=>(cs.drop (i*P.cellsOf F)).take (P.cellsOf F)) ds 0 n _ aB cm (by rw[h6, <-List.range_eq_range'];exact ag) aH ct
     rw[Xg,zl,ZU,Zy (by simp only at kH;omega)]at iZ
     exact iZ
    ·simp at a
   ·
    rename_i F bc
    simp at a;subst a
    match cs with
    |[]=>simp[rd,DataW.trod,bc]at Z
    |_::_::_=>simp[rd,DataW.trod,bc]at Z
    |[c]=>
     cases c<;>simp[rd,DataW.trod,bc]at Z
     all_goals first
      |exact .plain λQ ae=>⟨rfl,trivial,trivial⟩
      |(split at Z<;>simp_all)
   ·
    rename_i D F bc
    simp at a;subst a
    match cs with
    |[]=>simp[rd,DataW.trod,bc]at Z
    |_::_::_=>simp[rd,DataW.trod,bc]at Z
    |[c]=>
     cases c<;>simp[rd,DataW.trod,bc]at Z
     rename_i b
     cases b with
     |none=>exact .plain λQ ae=>⟨rfl,trivial,trivial⟩
     |some b=>
      simp only at Z
      split at Z
      ·split at Z
       ·simp only[ZV]at Z
        obtain⟨di,_,ar⟩:=Z
        split at ar<;>simp at ar
       ·cases Z
      ·cases Z
   ·
    rename_i D F bF bc
    simp only[eY]at a
    obtain⟨ay,a⟩:=a
    split at a
    ·rename_i e0 aL os aB
     simp at a;subst a
     match cs with
     |[]=>simp[rd,DataW.trod,bc]at Z
     |_::_::_=>simp[rd,DataW.trod,bc]at Z
     |[c]=>
      cases c<;>(try(simp[rd,DataW.trod,bc]at Z;done))
      rename_i b
      cases b with
      |none=>simp[rd,DataW.trod,bc]at Z
      |some b=>
       simp only[rd,DataW.trod,bc]at Z
       split at Z
       ·rename_i HK e6 ai
        split at Z
        ·simp only[ZV]at Z
         obtain⟨di,bS,Z⟩:=Z
         split at Z
         ·simp only[Zf,YN,DataW.map.injEq]at Z
          obtain⟨aI,rfl⟩:=Z
          obtain⟨bZ,cw⟩:=Dt bS
          have axC:di.length=HK.toList.length:=bZ
          have anC:(HK.toList.zip di).map (·.2.1)=di.map (·.1):=by
           have Pk:(λx:MapEntry×((Lit×DataW Unit)×List MemPlace)=>x.2.1)=(λe:(Lit×DataW Unit)×List MemPlace=>e.1)∘Prod.snd:=rfl
           rw[Pk, <-YG,List.map_snd_zip Zo]
          obtain⟨jI,ε,ζ⟩:=adc (sorted_perm (di.map (·.1))).symm (HK.toList.zip di) anC
          rw[aI]at ζ
          have jP:∀br∈jI,keyOf P D br.1.key=some br.2.1.1/\br.1.val.formed P F=true/\rd P w an F br.1.val.cells.toList=some (br.2.1.2,br.2.2)/\rF w br.2.2:=by
           intro br FO
           have FP:=ε.mem_iff.1 FO
           obtain⟨i,aM⟩:=ZX.1 FP
           rw[List.getElem?_zip_eq_some]at aM
           have:=cw i _ _ aM.1 aM.2
           simp only[ZV]at this
           obtain⟨key,cB,cu⟩:=this
           split at cu
           ·rename_i ce
            simp only[Yn]at cu
            obtain⟨e,ee,fV⟩:=cu
            rw[<-fV]
            refine⟨cB,ce,ee,ct.of λp ay=> ?_⟩
            refine Zu _ (List.mem_flatMap.2 ⟨br.2,Zj aM.2, ?_⟩)
            rw[<-fV];exact ay
           ·cases cu
          obtain⟨bd,cg,a0,f,a3⟩:=arv (C:=C) (w:=w) I8 ay bF (n+1) _ aB jI ζ jP
          have bd:n+1<=aL:=bd
          refine⟨by simp only;omega, ?_,λx=>if x=n then⟨b,0,0⟩else f x, ?_⟩
          ·intro e I
           rcases Zt.1 I with rfl|I
           ·exact⟨Zi _,by simp only;omega,asR _⟩
           ·obtain⟨cB,cu,ee⟩:=cg e I
            exact⟨Zo,cu,ee⟩
          ·intro Q ae dF
           have aK:=dF n (Zi _) (by simp only;omega)
           simp only[ZD]at aK
           obtain⟨dk,dB,gF⟩:=a3 Q ae (λx R U=>by
            have:=dF x Zo U
            have dI:x≠n:=Zo
            simp only[Zh dI]at this
            exact this)
           refine⟨by simp[bX,aN,aK.1],⟨aK.2,trivial⟩, ?_⟩
           intro e I
           rcases Zt.1 I with rfl|I
           ·simp only[aK.1]
            have aa3:(jI.map (·.1)).Perm HK.toList:=by
             have:=ε.map (·.1)
             rwa[List.map_fst_zip Zo]at this
            rw[dk]at aa3
            obtain⟨jN,fy,hu⟩:=adc aa3 _ rfl
            refine⟨HK,e6,jN,ai,hu.symm, ?_, ?_⟩
            ·have:=fy.map (λF=>(F.1,F.2.1))
             rwa[aeA (jI:=jI) _ jI a0]at this
            ·intro x ag
             have qj:=fy.mem_iff.1 ag
             have bp:(x.1,x.2.1)∈e0:=by
              have:=List.mem_map_of_mem (f:=λF:H×H×Nat=>(F.1,F.2.1)) qj
              rwa[aeA (jI:=jI) _ jI a0]at this
             exact dB _ bp
           ·exact gF e I
         ·simp at Z
        ·simp at Z
       ·simp at Z
    ·simp at a
   ·simp at a
end
end
end Go.bg

namespace Go.bg
noncomputable section
open Go.RowKit (Below)
def m8:List (Nat×ak)->S ak->S ak
 |[],K=>K
 |(b,W)::l,K=>m8 l (K.set b (some W))
section
variable{C:aW}{P:Program}{w:World}
def SM(b:Nat)(W:ak):∀(l:List (Nat×ak)) (K:S ak),(m8 l K).get b=some W->(b,W)∈l\/K.get b=some W:=by
 intro l
 induction l with
 |nil=>intro K a;exact .inr a
 |cons x l al=>
  obtain⟨dR,o'⟩:=x
  intro K a
  rcases al _ a with a|a
  ·exact .inl (Zu _ a)
  ·rw[S.j1]at a
   by_cases F:dR=b
   ·subst F;simp at a;subst a;exact .inl (Zw ..)
   ·simp[F]at a;exact .inr a
def ael{nm:String}{g:Nat}{cs:Array Value}(b0:P.globalNamed nm=some g)(a:w.var? P nm=some cs):∃ty tH,w.heap[g]? =some (.cells cs ty tH):=by
 unfold World.var? at a
 rw[b0]at a
 simp only[ZF]at a
 split at a
 ·rename_i c ty tH ai
  simp at a;subst a
  exact⟨ty,tH,ai⟩
 ·cases a
def Tu(C:aW)(w:World)(o1 n:Nat)(r:Nat×List (Nat×ak)):Prop:=
 n<=r.1/\(∀x∈r.2,(x.1<o1\/n<=x.1)/\(x.1<o1\/x.1<r.1)/\Ei x.2)/\
  ∃f:Nat->mj,∀Q ae,(∀b,n<=b->b<r.1->Q b=f b/\ae b)->(∀g,g<o1->Q g=⟨g,0,0⟩/\ae g)->∀x∈r.2,jG C Q ae x.2 (Q x.1) w
end
end
end Go.bg

namespace Go.bg
noncomputable section
open Go.RowKit (Below)
def xH:List Nat->Bool
 |[]=>true
 |x::s=>Nat.blt x 256&&xH s
def yF:List Nat->Nat->Nat->Int
 |[],_,_=> .negSucc 0
 |x::s,c,i=>bR (Nat.beq x c) (.ofNat i) (yF s c (i+1))
def xe(b8:Nat)(f:Nat)(args:List H):Option H:=
 bR (Nat.beq f b8) (match args with
  |[.str s, .int .u8 (.ofNat c)]=>bR (xH s&&Nat.blt c 256) (some (.int .i64 (yF s c 0))) none
  |_=>none) none
section
variable{C:aW}{P:Program}{w:World}
def OH:∀{s:List Nat},xH s=true->∀x∈s,x<256:=by
 intro s
 induction s with
 |nil=>intro _ x a;cases a
 |cons J s al=>
  intro a x ag
  simp only[xH,Zn]at a
  rcases Zt.1 ag with rfl|ag
  ·exact lh a.1
  ·exact al a.2 x ag
def aqG:∀(s:List Nat) (c i:Nat),(∀x∈s,x<256)->c<256->yF s c i=(if Lib.indexByte (s.map UInt8.ofNat) (UInt8.ofNat c)= -1 then -1 else Lib.indexByte (s.map UInt8.ofNat) (UInt8.ofNat c)+i):=by
 intro s
 induction s with
 |nil=>intro c i _ _;simp[yF,Lib.indexByte]
 |cons J s al=>
  intro c i aI az
  have aC:=aI J (Zw ..)
  have aM:=al c (i+1) (λx ag=>aI x (Zu _ ag)) az
  simp only[yF,Yb,Lib.indexByte,hB]
  by_cases F:J=c
  ·subst F;simp
  ·have dI:(UInt8.ofNat J==UInt8.ofNat c)=false:=by
    rw[beq_eq_false_iff_ne]
    intro an
    have:=congrArg UInt8.toNat an
    simp at this
    rw[YA aC,YA az]at this
    exact F this
   rw[Zh F,aM,dI]
   have AR:=Lib.indexByte_ge (s.map UInt8.ofNat) (UInt8.ofNat c)
   by_cases an:Lib.indexByte (s.map UInt8.ofNat) (UInt8.ofNat c)= -1
   ·simp[an]
   ·simp only[an,ZB]
    have:¬(Lib.indexByte (s.map UInt8.ofNat) (UInt8.ofNat c)+1= -1):=Zo
    simp[an,this]
    omega
def acX{b8 f:Nat}{args:List H}{v:H}(a:xe b8 f args=some v):f=b8/\∃s c,args=[.str s, .int .u8 (.ofNat c)]/\v= .int .i64 (yF s c 0)/\(∀x∈s,x<256)/\c<256:=by
 unfold xe at a
 rw[hB]at a
 split at a
 ·rename_i F
  split at a
  ·rename_i s c
   simp only[eY,Zn,Zf]at a
   exact⟨F,s,c,rfl,a.2.symm,OH a.1.1,lh a.1.2⟩
  ·simp at a
 ·simp at a
def as6{b8:Nat}{fn:Func}(ce:P.funcs[b8]? =some fn)(aK:(fn.name== "runtime.NumGoroutine")=false)(ai:fn.body=none)(R:Extern.findNext fn=none)(U:Extern.find fn=some Extern.BytealgIndexByte.indexByte)
 {f:Nat}{args:List H}{v:H}(a:xe b8 f args=some v)(Q:c6)(w:World):(callFunc f (bX Q args).toArray).run P w= .ok (.value (aN Q v)) w:=by
 obtain⟨rfl,s,c,rfl,rfl,aI,az⟩:=acX a
 have n3:=Lib.run_indexByteString (P:=P) (fX s) (Int.ofNat c) w
 have F:Lib.indexByte (fX s).data.toList (Int.ofNat c).toNat.toUInt8=yF s c 0:=by
  rw[aqG s c 0 aI az]
  have:(fX s).data.toList=s.map UInt8.ofNat:=by simp[fX]
  rw[this]
  have AR:=Lib.indexByte_ge (s.map UInt8.ofNat) (UInt8.ofNat c)
  show Lib.indexByte (s.map UInt8.ofNat) (UInt8.ofNat c)=_
  split
  ·rename_i an;exact an
  ·simp
 rw[F]at n3
 have hU:(bX Q [.str s, .int .u8 (.ofNat c)]).toArray= #[.string (fX s), .int .u8 (Int.ofNat c)]:=rfl
 rw[hU]
 have Mj:¬fn.name= "runtime.NumGoroutine":=by simpa using aK
 simp only[callFunc,Sem.run_bind]
 simp[ce,Mj,ai,R,U,aN]
 exact congrArg (λr=>Result.andThen r (λJ bV=>Result.ok (Next.value J) bV)) n3
end
end
end Go.bg

namespace Go.bg
noncomputable section
open Go.RowKit (Below)
mutual
def qv:H->Bool
 | .bool _=>true
 | .int _ _=>true
 | .str s=>xH s
 | .cq=>true
 | .aT=>true
 | .lT=>true
 | .nilFunc=>true
 | .nilIface=>true
 | .iface _ v=>qv v
 | .agg l=>BG l
 | .tuple l=>BG l
 |_=>false
def BG:List H->Bool
 |[]=>true
 |v::l=>qv v&&BG l
end
mutual
def Nx:∀v,qv v=true->ch (λ_=>False) v
 | .bool _,_=>trivial
 | .int _ _,_=>trivial
 | .str s,a=>OH (by simpa[qv]using a)
 | .cq,_=>trivial
 | .aT,_=>trivial
 | .lT,_=>trivial
 | .nilFunc,_=>trivial
 | .nilIface,_=>trivial
 | .iface _ v,a=>by
   have:=Nx v (by simpa[qv]using a)
   simpa[ch]using this
 | .agg l,a=>JL l (by simpa[qv]using a)
 | .tuple l,a=>JL l (by simpa[qv]using a)
 | .ptr _ _,a=>by simp[qv]at a
 | .slice ..,a=>by simp[qv]at a
 | .fu ..,a=>by simp[qv]at a
 | .map _,a=>by simp[qv]at a
 | .func ..,a=>by simp[qv]at a
def JL:∀l,BG l=true->ew (λ_=>False) l
 |[],_=>trivial
 |v::l,a=>by
  simp only[BG,Zn]at a
  exact⟨Nx v a.1,JL l a.2⟩
end
def ade{v:H}(a:qv v=true):(∀Q ip,aN Q v=aN ip v)/\∀ae,ch ae v:=
 ⟨λ_ _=>pX (λ_ a=>a.elim) (Nx v a),λ_=>oC (λ_ a=>a.elim) v (Nx v a)⟩
def Ss{l:List H}(a:BG l=true):(∀Q ip,bX Q l=bX ip l)/\∀ae,ew ae l:=
 ⟨λ_ _=>xP (λ_ a=>a.elim) (JL l a),λ_=>qY (λ_ a=>a.elim) l (JL l a)⟩
def adf{J b:H}(a:Nv J b=true):J=b:=by
 unfold Nv at a
 split at a
 ·simp only[ajH,YU]at a;rw[a]
 ·simp only[Zn,abW,Bc,Zg]at a;rw[a.1,a.2]
 ·rw[(Jy _ _).1 a]
 ·rfl
 ·rfl
 ·rfl
 ·cases a
def ats:∀{J b:List H},DM J b=true->J=b:=by
 intro J
 induction J with
 |nil=>intro b a;cases b<;>simp[DM]at a;rfl
 |cons x J al=>
  intro b a
  cases b with
  |nil=>simp[DM]at a
  |cons e b=>
   simp only[DM,Zn]at a
   rw[adf a.1,al a.2]
def Pa(x e:H):Bool:=match x,e with
 | .agg J, .agg b=>DM J b
 |x,e=>Nv x e
def akm{J b:H}(a:Pa J b=true):J=b:=by
 unfold Pa at a
 split at a
 ·rw[ats a]
 ·exact adf a
def EP:List H->List H->Bool
 |[],[]=>true
 |J::x,b::e=>Pa J b&&EP x e
 |_,_=>false
def akn:∀{J b:List H},EP J b=true->J=b:=by
 intro J
 induction J with
 |nil=>intro b a;cases b<;>simp[EP]at a;rfl
 |cons x J al=>
  intro b a
  cases b with
  |nil=>simp[EP]at a
  |cons e b=>
   simp only[EP,Zn]at a
   rw[akm a.1,al a.2]
def w8(f:Nat)(args:List H):List (Nat×List H×H)->Option H
 |[]=>none
 |(g,cp,v)::l=>bR (Nat.beq f g) (bR (EP args cp) (some v)<|w8 f args l) (w8 f args l)
def ab3{f:Nat}{args:List H}{v:H}:∀{l:List (Nat×List H×H)},w8 f args l=some v->(f,args,v)∈l:=by
 intro l
 induction l with
 |nil=>intro a;simp[w8]at a
 |cons x l al=>
  obtain⟨g,cp,ad⟩:=x
  intro a
  simp only[w8]at a
  rw[fo]at a
  split at a
  ·rename_i an
   rw[fo]at a
   split at a
   ·rename_i cu
    simp at a;subst a
    rw[Zl an,akn cu]
    exact Zw ..
   ·exact Zu _ (al a)
  ·exact Zu _ (al a)
def qt(W:Nat->List H->Option H)(l:List (Nat×List H×H))(f:Nat)(args:List H):Option H:=
 match w8 f args l with|some v=>some v|none=>W f args
def J6:List (Nat×List H×H)->Bool
 |[]=>true
 |x::l=>(BG x.2.1&&qv x.2.2)&&J6 l
def ad2:∀{l:List (Nat×List H×H)},J6 l=true->∀x∈l,BG x.2.1=true/\qv x.2.2=true:=by
 intro l
 induction l with
 |nil=>intro _ x a;cases a
 |cons J l al=>
  intro a x ag
  simp only[J6,Zn]at a
  rcases Zt.1 ag with rfl|ag
  ·exact a.1
  ·exact al a.2 x ag
section
variable{P:Program}{w:World}
def akR{al:hm}{C:aW}{f:Nat}{args:List H}{b:Bool}{cs:List gC}{h:S ak}{j:Nat}{v:H}(a:nO al C f args b cs h j=some v):∃fn c,C.P.funcs[f]? =some fn/\fn.body=some c:=by
 unfold nO at a
 split at a
 ·rename_i fn ce
  split at a
  ·rename_i c az;exact⟨fn,c,ce,az⟩
  ·simp at a
 ·simp at a
def acZ{G:S ak}{a7 o1:Nat}{W:Nat->List H->Option H}{dK:c6}{d4:Nat->Prop}{l:List (Nat×List H×H)}(cG:Env ⟨P,G,a7,W,o1⟩ w dK d4)(be:J6 l=true)
 (jP:∀x∈l,∃m,sD ⟨P,G,a7,W,o1⟩ m x.1 x.2.1=some x.2.2):Ol ⟨P,G,a7,qt W l,o1⟩ w:=by
 refine⟨λf args v bf=> ?_,λf args v bf Q mL ai=> ?_⟩
 ·have bf:qt W l f args=some v:=bf
  unfold qt at bf
  split at bf
  ·rename_i ad bc
   simp at bf;subst bf
   obtain⟨R,U⟩:=ad2 be _ (ab3 bc)
   exact⟨ade U,Ss R⟩
  ·exact cG.g6.val f args v bf
 ·have bf:qt W l f args=some v:=bf
  unfold qt at bf
  split at bf
  ·rename_i ad bc
   simp at bf;subst bf
   have bp:=ab3 bc
   obtain⟨R,U⟩:=ad2 be _ bp
   obtain⟨m,n3⟩:=jP _ bp
   obtain⟨fn,c,ce,az⟩:=akR n3
   right
   have aK:fn.name≠ "runtime.NumGoroutine":=by simpa using cG.kc.num f fn ce (by simp[az])
   refine⟨?_, ?_⟩
   ·have qc:P.funcs[f]? =some fn:=ce
    simp[callFunc,qc,aK,az]
   ·have aoi:=cG.later ai
    have:=aut aoi (f:=f) (args:=args) ((Ss R).2 d4) n3
    rw[(Ss R).1 Q dK]
    exact this.mono λF bV ⟨⟨ip,bt⟩,jQ⟩=>⟨by rw[bt,(ade U).1 ip Q],jQ⟩
  ·exact cG.g6.ok f args v bf Q mL ai
end
end
end Go.bg

namespace Go.bg
noncomputable section
open Go.RowKit (Below)
def Hm:List (String×Nat)->String->Option Nat
 |[],_=>none
 |(J,ad)::l,s=>bR (J==s) (some ad) (Hm l s)
def M1(P:Program)(nm:List (String×Nat))(t:Nat)(d:DataW Unit)(n:Nat):wb:=match P.underlying t,d with
 |some (.interface _), .iface s (.ptr lj)=>(match Hm nm s with
  |some ad=>(match P.underlying ad with
   |some (.pointer _)=>(match w9 P 39 ad (.ptr lj) n with
    |some ([x],aL,os)=>some ([.iface ad x],aL,os)
    |_=>none)
   |_=>none)
  |none=>none)
 |_,_=>w9 P 40 t d n
def gX(P:Program)(nm:List (String×Nat)):List (String×DataW Unit)->Nat->Nat×List (Nat×ak)
 |[],n=>(n,[])
 |(v,d)::r,n=>match P.globalNamed v with
  |some g=>(match P.globals[g]? with
   |some iw=>(match M1 P nm iw.type d n with
    |some (l,aL,os)=>bR (Nat.blt 0 l.length) (match gX P nm r aL with|(a6,sx)=>(a6,(g,GG l)::(os++sx))) (gX P nm r n)
    |none=>gX P nm r n)
   |none=>gX P nm r n)
  |none=>gX P nm r n
def Ag(P:Program)(nm:List (String×Nat)):Prop:=∀x∈nm,∀ad,P.typeName? 3 ad=some x.1->ad=x.2
section
variable{C:aW}{P:Program}{w:World}
def ajo{s:String}{ad:Nat}:∀{l:List (String×Nat)},Hm l s=some ad->(s,ad)∈l:=by
 intro l
 induction l with
 |nil=>intro a;simp[Hm]at a
 |cons x l al=>
  obtain⟨J,b⟩:=x
  intro a
  simp only[Hm]at a
  rw[fo]at a
  split at a
  ·rename_i an
   simp at a an;subst a;subst an
   exact Zw ..
  ·exact Zu _ (al a)
def arx{nm:List (String×Nat)}(iy:Ag P nm){t:Nat}{d:DataW Unit}{n:Nat}{r:List H×Nat×List (Nat×ak)}(a:M1 P nm t d n=some r){an:Nat}{cs:List Value}{dl:List MemPlace}(Z:rd P w an t cs=some (d,dl))(ct:rF w dl)
 (e4:∀ad v,cs=[.iface ad v]->Value.okWide P w .any 0 ad v):Lays C w n cs r:=by
 unfold M1 at a
 split at a
 ·rename_i ik s lj aM
  split at a
  ·rename_i ad bc
   split at a
   ·rename_i F ay
    split at a
    ·rename_i x aL os aB
     simp at a;subst a
     obtain⟨eM,sJ,v,rfl,aK,R⟩:=iface_of_trod aM Z
     obtain rfl:=iy _ (ajo bc) sJ aK
     obtain⟨e3,J,c8,Sw,bA,_,_,_⟩:=ptr_of_trod ay R
     have ok:=e4 _ _ rfl
     have yz:v= .pointer (some J):=by
      unfold Value.okWide at ok
      simp only[ay]at ok
      unfold Cell.okWide at ok
      cases v<;>simp[Value.cells,Cell.ok,ay]at ok bA
      subst bA
      rfl
     have f0:=acd (C:=C) (w:=w) 39 eM _ _ _ _ aB _ _ R ct
     obtain⟨bd,cg,f,a3⟩:=f0
     refine⟨bd,cg,f,λQ ae dF=> ?_⟩
     obtain⟨dk,dB,gF⟩:=a3 Q ae dF
     refine⟨?_,⟨dB.1,trivial⟩,gF⟩
     subst yz
     have F:Value.pointer (some J)=aN Q x:=by
      simp[Value.cells,bX]at dk
      exact dk
     simp only[bX,aN,F]
    ·simp at a
   ·simp at a
  ·simp at a
 ·exact acd (C:=C) (w:=w) 40 an _ _ _ _ a cs dl Z ct
def acc{nm:List (String×Nat)}(iy:Ag P nm){o1:Nat}:∀(laid:List (String×DataW Unit)) (n:Nat) (dl:List MemPlace),P.globals.size=o1->DataW.LaidVars P w laid dl->rF w dl->
 (∀b off,MemPlace.cell b off∈dl->∀ad v,w.cell? ⟨b,off,none⟩=some (.iface ad v)->Value.okWide P w .any 0 ad v)->Tu C w o1 n (gX P nm laid n):=by
 intro laid
 induction laid with
 |nil=>
  intro n dl _ _ _ _
  exact⟨Zi _,by simp[gX],λ_=>default,λQ ae _ _=>by simp[gX]⟩
 |cons J r al=>
  obtain⟨v0,d⟩:=J
  intro n dl IJ f0 ct aat
  obtain⟨g,t,cs,fuel,p,an,b0,be,bA,aH,Z,rfl⟩:=f0
  have abx:rF w an:=ct.of λe I=>Zz.2 (.inr I)
  have aau:∀b off,MemPlace.cell b off∈an->∀ad v,w.cell? ⟨b,off,none⟩=some (.iface ad v)->Value.okWide P w .any 0 ad v:=λb off ai=>aat b off (Zz.2 (.inr ai))
  have skip:gX P nm ((v0,d)::r) n=gX P nm r n->Tu C w o1 n (gX P nm ((v0,d)::r) n):=λF=>by rw[F];exact al n an IJ Z abx aau
  simp only[Yn]at be
  obtain⟨iw,L3,rfl⟩:=be
  have QG:g<o1:=by rw[<-IJ];exact(ZJ.1 L3).1
  have e4:∀ad v,cs.toList=[.iface ad v]->Value.okWide P w .any 0 ad v:=by
   intro ad v hU
   obtain⟨ty,tH,ai⟩:=ael b0 bA
   have eH:cs.size=1:=by have:=congrArg List.length hU;simpa using this
   refine aat g 0 (Zz.2 (.inl (Zz.2 (.inl (NE (J:=⟨g,0,none⟩) (D:=cs.size) Zo))))) ad v ?_
   have cj:cs[0]? =some (.iface ad v):=by rw[<-ZL,hU];rfl
   simp[World.cell?,ai,cj]
  cases aB:M1 P nm iw.type d n with
  |none=>exact skip (by simp[gX,b0,L3,aB])
  |some e0=>
   obtain⟨l,aL,os⟩:=e0
   by_cases Fy:0<l.length
   ·have bt:gX P nm ((v0,d)::r) n=((gX P nm r aL).1,(g,GG l)::(os++(gX P nm r aL).2)):=by
     have:Nat.blt 0 l.length=true:=by simp[Nat.blt];omega
     simp[gX,b0,L3,aB,this]
    obtain⟨bd,cg,eM,a3⟩:=arx (C:=C) (w:=w) iy aB (cs:=cs.toList) (dl:=p) aH (ct.of λe I=>Zz.2 (.inl (Zz.2 (.inr I)))) e4
    obtain⟨cZ,dO,e3,ei⟩:=al aL an IJ Z abx aau
    have bd:n<=aL:=bd
    rw[bt]
    refine⟨ZA bd cZ, ?_,λb=>if b<aL then eM b else e3 b, ?_⟩
    ·intro x ag
     rcases Zt.1 ag with rfl|ag
     ·exact⟨.inl QG, .inl QG,Sl l⟩
     ·rcases Zz.1 ag with an|an
      ·obtain⟨cB,cu,ee⟩:=cg x an
       exact⟨.inr cB, .inr (ZK cu cZ),ee⟩
      ·obtain⟨cB,cu,ee⟩:=dO x an
       exact⟨cB.imp id (λa=>ZA bd a),cu,ee⟩
    ·intro Q ae dF eK
     obtain⟨dk,dB,gF⟩:=a3 Q ae (λb R U=>by
      have E4:b<aL:=U
      have:=dF b R (ZK U cZ)
      simp only[Zq E4]at this
      exact this)
     have eT:=ei Q ae (λb R U=>by
      have tc:¬b<aL:=zn.2 R
      have:=dF b (ZA bd R) U
      simp only[Zh tc]at this
      exact this) eK
     intro x ag
     rcases Zt.1 ag with rfl|ag
     ·obtain⟨aqk,aw9⟩:=eK g QG
      obtain⟨ty,tH,ai⟩:=ael b0 bA
      have eH:cs.size=l.length:=by
       have:=congrArg List.length dk
       rw[jL]at this
       simpa using this
      obtain⟨fZ,hb,jQ⟩:=ct g 0 (Zz.2 (.inl (Zz.2 (.inl (NE (J:=⟨g,0,none⟩) (D:=cs.size) Zo)))))
      rw[ai]at jQ
      have apD:tH=(0,0):=by
       simp only[Zf,Obj.cells.injEq]at jQ
       exact jQ.2.2
      rw[apD]at ai
      simp only[aqk]
      refine SF (pl:=⟨g,0,0⟩) ai ?_ dB Fy
      simp only[ZU]
      rw[Zy (by simp;omega)]
      exact dk
     ·rcases Zz.1 ag with an|an
      ·exact gF x an
      ·exact eT x an
   ·exact skip (by
     have ln:l.length=0:=Zo
     have:Nat.blt 0 l.length=false:=by rw[ln];rfl
     simp[gX,b0,L3,aB,this])
def RT{nm:List (String×Nat)}(iy:Ag P nm){laid:List (String×DataW Unit)}{g6:Nat->List H->Option H}(a:laidMet P laid w):
 ∃Q ae,de ⟨P,m8 (gX P nm laid P.globals.size).2 .nil,(gX P nm laid P.globals.size).1,g6,P.globals.size⟩ Q ae .nil (gX P nm laid P.globals.size).1 w.heap.size w/\
  rG ⟨P,m8 (gX P nm laid P.globals.size).2 .nil,(gX P nm laid P.globals.size).1,g6,P.globals.size⟩ Q ae:=by
 obtain⟨dl,f0,_,ln⟩:=a
 have ct:rF w dl:=λb off ai=>(ln b off ai).1
 obtain⟨bd,cg,f,a3⟩:=acc (C:=⟨P,m8 (gX P nm laid P.globals.size).2 .nil,(gX P nm laid P.globals.size).1,g6,P.globals.size⟩) iy laid P.globals.size dl rfl f0 ct (λb off ai=>(ln b off ai).2)
 generalize aK:gX P nm laid P.globals.size=r at bd cg a3 ⊢
 obtain⟨a7,os⟩:=r
 simp only at bd cg a3 ⊢
 have Q1:∀b W,aa ⟨P,m8 os .nil,a7,g6,P.globals.size⟩ .nil b=some W->(b,W)∈os/\b<a7:=by
  intro b W bf
  unfold aa at bf
  rw[fo]at bf
  split at bf
  ·rename_i ai
   rcases SM b W os .nil bf with an|an
   ·exact⟨an,lh ai⟩
   ·simp at an
  ·simp at bf
 refine⟨λb=>if b<P.globals.size then⟨b,0,0⟩else f b,λb=>b<a7,⟨Zi _,λ_ a=>a,λb W bf=>(Q1 b W bf).2, ?_, ?_, ?_, ?_⟩, ?_⟩
 ·intro b W bf _
  have:=a3 (λb=>if b<P.globals.size then⟨b,0,0⟩else f b) (λb=>b<a7) (λb R U=>⟨by rw[Zh Zo],U⟩) (λg b0=>⟨by rw[Zq b0],Zo⟩) (b,W) (Q1 b W bf).1
  exact this
 ·intro b dR W o' _ _ d _ _ ai
  exact absurd d (zn.2 ai)
 ·intro b W ai _ d
  exact absurd d (zn.2 ai)
 ·intro b W bf _
  exact(cg (b,W) (Q1 b W bf).1).2.2 _ _
 ·intro g b0
  have b0:g<P.globals.size:=b0
  exact⟨Zo,by simp[b0],by simp[b0]⟩
def Env.arn{nm:List (String×Nat)}(iy:Ag P nm){laid:List (String×DataW Unit)}{b8:Nat}{fn:Func}(kc:xD P)(ce:P.funcs[b8]? =some fn)(aK:(fn.name== "runtime.NumGoroutine")=false)(ai:fn.body=none)(R:Extern.findNext fn=none)
 (U:Extern.find fn=some Extern.BytealgIndexByte.indexByte)(a:laidMet P laid w):
 ∃Q ae,Env ⟨P,m8 (gX P nm laid P.globals.size).2 .nil,(gX P nm laid P.globals.size).1,xe b8,P.globals.size⟩ w Q ae:=by
 obtain⟨Q,ae,ar,aO⟩:=RT (g6:=xe b8) iy a
 refine⟨Q,ae,kc,⟨λf args v bf=> ?_,λf args v bf Q w _=> .inl (as6 ce aK ai R U bf Q w)⟩,ar,aO⟩
 obtain⟨rfl,s,c,rfl,rfl,aI,az⟩:=acX bf
 exact⟨⟨λ_ _=>rfl,λ_=>trivial⟩,λ_ _=>rfl,λ_=>⟨aI,trivial,trivial⟩⟩
end
end
end Go.bg

