/- A part of the last text's proof; no condition of its own -/
import Derived.Test.YtpfajohmofnkfaaGreatDoorYd
import Derived.ChangeReads
import GoSem.ClaimJoined
import Derived.Lib.Bytealg
import Derived.LaidLaws
set_option maxHeartbeats 8000000
set_option linter.all false
namespace Go.bd
open Go.RowKit (Below)
section
variable{C:aL}{S dd dP:c9}{ad dC d4:Nat->Prop}{h T:K ag}{j an bh:Nat}{w b1:World}{n ao:Nat}{ar:Array Oper}
variable{bu:World}{bG:Nat}{bX:List Frame}{v:D}{al:hw}
variable{fn:Nat}{bc:List hI}{aJ:Bool}{ro:Option Nat}{cs:List gL}{H:K D}{tmps:Array Value}{bx:List Item}{ai:List Frame}{b0 aN:Nat}
def dq.more(V:dq C S ad h j bh w)(aE:j<=an)(gY:∀b,ad b->Y C T b=Y C h b)(c2:∀b U,Y C T b=some U->b<an):dq C S ad T an bh w:=by
 refine⟨ZB V.a2 aE,λb a=>ZP (V.lt b a) aE,c2,λb U a d=>V.obj b U (by rw[<-gY b d];exact a) d,λb dO U o' a cz d lI=>V.sep b dO U o' (by rw[<-gY b d];exact a) (by rw[<-gY dO lI];exact cz) d lI,λb U aj a d=>V.base b U aj (by rw[<-gY b d];exact a) d,λb U a d=>V.fv b U (by rw[<-gY b d];exact a) d⟩
def af0(dm:qd C n ao ar){k bV:qf}(az:k∈l6 C n ao ar)(hq:bV∈l6 C n ao ar)(a:k.x.i=bV.x.i):k=bV:=by
 obtain⟨F,aC⟩:=Z1.1 az
 obtain⟨b,aj⟩:=Z1.1 hq
 obtain⟨KC,n1⟩:=Zc.1 aC
 obtain⟨oO,ny⟩:=Zc.1 aj
 have ay:=Sd dm
 rw[YR]at ay
 rcases YV F b with c2|E|fO
 ·have:=ay F b KC oO c2
  rw[n1,ny]at this;omega
 ·subst E;rw[<-n1,ny]
 ·have:=ay b F oO KC fO
  rw[n1,ny]at this;omega
def ab1(cI:Env C bu dP d4)(gp:nS C bu bG bX al){q:List dR}{base eA:Nat}{aq:List (Nat×D)}{dp:Nat->Prop}{k:List Nat}(aC:jf C bu bG bX fn ao bc aJ ro cs h j S ad w b0 ai)
 (aD:lW C S ad ao q bx)(wd:b0<=base)(gn:base+ar.size<=j)(gP:C.a2<=base)(aH:rS C S ad h base n ao ar aq eA eA H tmps dp)(aF:xI ar dp k)
 (a:Ar al C ar base aq (Bl (l6 C n ao ar) eA ((gD C n ao ar).drop eA)) (lo ao ar.toList 0) q ⟨fn,n,ao,bc,aJ,ro,cs⟩ H h j=some v):Ends C bu bG bX v (lone (ct S fn bc aJ ro tmps (.inRegion ar k::bx) .run) ai w):=by
 obtain⟨s,rest,bF,cn,eU,iL⟩:=aAX (iB:=l6 C n ao ar) (q:=eA) (az:=(gD C n ao ar).drop eA)
 rw[bF]at a
 simp only[Ar]at a
 split at a
 ·simp at a
 ·rename_i hx T f6
  simp only[e1]at a
  obtain⟨Pb,a⟩:=a
  rw[cn]at f6
  rw[eU]at Pb
  have TP:∀x∈ui eA (l6 C n ao ar),eo aq x.i=none/\Y C h (base+x.i)=none/\n7 x.op=false:=by
   intro x af
   obtain⟨ei,I,J,rfl⟩:=B5.1 af
   have bD:eo aq ei.x.i=none:=by
    cases bD:eo aq ei.x.i with
    |none=>rfl
    |some ac=>
     exfalso
     rcases aH.keys _ ac bD with ⟨c4,b3,b7,cS⟩|⟨p,e,b3,b7,_⟩
     ·have:=af0 aH.st b3 I b7
      subst this;omega
     ·exact PI aH.st I b3 b7.symm
   obtain⟨_,_,cS,_⟩:=Nx I
   exact⟨bD,aH.free _ (Nw aH.st I) bD,cS⟩
  obtain⟨bR,cq,cP,d0,dU⟩:=aoK gP _ _ _ _ _ (anx (Sd aH.st)) TP f6
  have Uz:∀b,ad b->Y C T b=Y C h b:=by
   intro b aj
   by_cases ah:Y C T b=Y C h b
   ·exact ah
   ·obtain⟨x,af,E⟩:=d0 b ah
    obtain⟨ei,I,J,rfl⟩:=B5.1 af
    have bT:=aH.ids _ (Nw aH.st I) (E▸aj)
    have:=aH.u2 ei I bT
    omega
  have kb:dq C S ad T j bu.heap.size w:=aC.V.more (Zi _) Uz (λb U aj=>by
   by_cases ah:Y C T b=Y C h b
   ·exact aC.V.wN b U (by rw[<-ah];exact aj)
   ·obtain⟨x,af,E⟩:=d0 b ah
    obtain⟨ei,I,J,rfl⟩:=B5.1 af
    have:=Nw aH.st I
    omega)
  have af:iG C b0 S ad h bu.heap.size w S ad T w:=⟨λ_ _=>rfl,λ_ a=>a,λ_ a=> .inl a,λb _ c2=>by
   by_cases ah:Y C T b=Y C h b
   ·exact ah
   ·obtain⟨x,af,E⟩:=d0 b ah
    omega,Below.refl _ _⟩
  have AO:=aC.ext kb af (Zi _)
  have tk:rS C S ad T base n ao ar hx eA (eA+1) H tmps dp:=by
   refine⟨aH.st,aH.size,aH.PD,aH.dV,aH.closed,aH.yy,aH.done,λei I J=>Nat.lt_succ_of_lt (aH.u2 ei I J), ?_, ?_, ?_, ?_,aH.ids, ?_⟩
   ·intro i ac bb
    rcases cP i (by rw[bb];simp)with I|⟨x,I,J⟩
    ·cases bD:eo aq i with
     |none=>exact absurd bD I
     |some t7=>
      rcases aH.keys i t7 bD with ⟨ei,b3,b7,cS⟩|g
      ·exact .inl ⟨ei,b3,b7,Zo⟩
      ·exact .inr g
    ·obtain⟨ei,b3,b7,rfl⟩:=B5.1 I
     exact .inl ⟨ei,b3,J,Zo⟩
   ·intro p e z ay
    obtain⟨ac,bb⟩:=aH.wc p e z ay
    exact⟨ac,bR _ _ bb⟩
   ·intro ei I J
    by_cases ah:ei.b0=eA
    ·obtain⟨ac,b3,b7⟩:=dU ei.x (B5.2 ⟨ei,I,ah,rfl⟩)
     exact⟨ac,(b3 ad).key,λ_=>b3 ad⟩
    ·obtain⟨ac,b3,b7⟩:=aH.ahead ei I Zo
     refine⟨ac,bR _ _ b3,λbT=> ?_⟩
     obtain⟨_,kF,b,eh,fS,dT,eY⟩:=b7 bT
     refine⟨bR _ _ b3,kF,b,eh.trans bR,fS,dT,λaj=> ?_⟩
     obtain⟨h7,mW,aqr⟩:=eY aj
     refine⟨h7,λbp=> ?_,aqr⟩
     obtain⟨cY,SJ,x2⟩:=mW bp
     refine⟨cY,SJ, ?_⟩
     by_cases cw:Y C T (base+ei.x.i)=Y C h (base+ei.x.i)
     ·rw[cw];exact x2
     ·obtain⟨x,af,E⟩:=d0 _ cw
      obtain⟨c4,e6,fq,rfl⟩:=B5.1 af
      have:=af0 aH.st I e6 Zo
      subst this;omega
   ·intro t ac bb
    apply aH.Ea t ac
    rcases bb with ⟨W,bT,vZ,yo,bb⟩|bb
    ·left
     refine⟨W,bT,vZ,yo, ?_⟩
     have wc:∃t7,eo aq W=some t7:=by
      rcases ab0 aH.st W (aH.yy W bT)with ⟨ei,b3,b7⟩|⟨p,e,b3,b7⟩
      ·obtain⟨t7,cS,_⟩:=aH.ahead ei b3 (aH.u2 ei b3 (by rw[b7];exact bT))
       exact⟨t7,by rw[<-b7];exact cS⟩
      ·obtain⟨t7,cS⟩:=aH.wc p e b3 ((aH.done p e b3).1 (by rw[b7];exact bT))
       exact⟨t7,by rw[<-b7];exact cS⟩
     obtain⟨t7,uT⟩:=wc
     have:=bR _ _ uT
     rw[bb]at this
     cases this
     exact uT
    ·exact .inr bb
   ·intro i aN bD
    have au4:eo aq i=none:=by
     cases bL:eo aq i with
     |none=>rfl
     |some ac=>rw[bR _ _ bL]at bD;cases bD
    by_cases ah:Y C T (base+i)=Y C h (base+i)
    ·rw[ah];exact aH.free i aN au4
    ·obtain⟨x,af,E⟩:=d0 _ ah
     obtain⟨ac,b3,_⟩:=dU x af
     have:x.i=i:=Zo
     rw[<-this,(b3 ad).key]at bD
     cases bD
  refine axl cI gp wd gn gP (s:=s) (rest:=rest) ?_ a k S ad w tmps dp AO aD tk aF ?_
  ·cases bL:(gD C n ao ar).drop eA with
   |nil=>rw[bL]at iL;exact iL.1
   |cons e hq=>rw[bL]at iL;exact iL
  ·intro ei I J bT
   by_cases ah:ei.b0=eA
   ·obtain⟨ac,b3,b7⟩:=dU ei.x (B5.2 ⟨ei,I,ah,rfl⟩)
    exact⟨ac,(b3 ad).key,b7⟩
   ·obtain⟨ac,b3,b7⟩:=aH.ahead ei I Zo
    refine⟨ac,bR _ _ b3, ?_⟩
    obtain⟨_,kF,b,eh,fS,dT,eY⟩:=b7 bT
    by_cases HL:Ds ei.x.op=true
    ·have tn:eA<=ei.aN:=by
      obtain⟨p,e6,fq,k2,Bi⟩:=Nx I
      obtain⟨_,f1,fD,z3,z4,z5⟩:=Aq aH.st e6
      rw[Bi]
      refine ath _ _ _ (by rw[NT,Zn];exact aH.PD) λah e z c2=> ?_
      rw[NT,Zy]at z
      cases cr:(gD C n ao ar)[ah]? with
      |none=>rw[cr]at z;cases z
      |some bz=>
       rw[cr]at z;cases z
       cases aj:bit bz.1.m p.i with
       |false=>rfl
       |true=>
        exfalso
        have arN:=(aH.done ah bz cr).2 c2
        obtain⟨aEo,QP,QQ,aEW,aCc,aEX,WM⟩:=Aq aH.st (Nu (Zj cr)).1
        have:=JX aH.closed (Zj aCc) WM.oper (aH.closed _ _ WM.oper arN) _ aj
        simp only at fD
        rw[<-fD]at this
        exact bT this
     obtain⟨dO,eL,e7⟩:=aoL _ Pb ei.x (azc I Zo tn HL)
     refine⟨hx,T,dO,Sub.refl _,qe.refl _,eL,λaj _=> ?_⟩
     obtain⟨t7,hE,pa⟩:=e7 aj
     rw[bR _ _ b3]at pa
     cases pa
     exact hE
    ·have HL:Ds ei.x.op=false:=by simpa using HL
     refine⟨kF, .nil,b,eh.trans bR,afX _,fS,λaj pE=> ?_⟩
     exact(eY aj).2.2 pE HL .nil
def apP{q:List dR}(id:Nat)(a:lW C S ad ao q bx){e5:List dR}(bs:exitTo id q=some e5):∃h2,Go.exitTo id bx=some h2/\lW C S ad ao e5 h2:=by
 induction a with
 |nil=>simp[exitTo]at bs
 |cons I J al=>
  cases I<;>simp only[exitTo]at bs
  case inBlock uX=>
   rw[hK]at bs
   split at bs
   ·rename_i E
    simp at bs;subst bs
    exact⟨_,by simp[Go.exitTo,E],J⟩
   ·rename_i E
    obtain⟨h2,b3,b7⟩:=al bs
    have:(uX==id)=false:=by simpa using E
    exact⟨h2,by simp[Go.exitTo,this,b3],b7⟩
  all_goals
   obtain⟨h2,b3,b7⟩:=al bs
   exact⟨h2,by simp[Go.exitTo,b3],b7⟩
def acl(hW:sV C S ad){n:Nat}(a6:jw S ad n ao H tmps){x:Operand}{ac:D}(fY:Bo C ao [] x=true)(a:xZ H x=some ac):ld tmps x=aQ S ac/\ck ad ac:=by
 cases x with
 |tmp t=>
  simp only[Bo,anv]at fY
  obtain⟨I,J⟩:=a6.val t ac fY a
  exact⟨by simp[ld,I],J⟩
 |const c=>exact PX a
 |global g=>
  simp[xZ]at a;subst a
  simp only[Bo]at fY
  obtain⟨b3,b7,cS⟩:=hW g (lG fY)
  exact⟨by simp[ld,aQ,b7,cS],b3⟩
 |func f=>
  simp[xZ]at a;subst a
  exact⟨by simp[ld,aQ,nr,b2],trivial,trivial,trivial⟩
def pp.start{n:Nat}(a6:jw S ad n ao H tmps):pp S ad ao (λ_=>True) (is ar 0) [] H tmps:=by
 intro t ac _ a
 rw[MB]at a
 exact a6.val t ac a.1 a.2
def azj(cI:Env C bu dP d4)(gp:nS C bu bG bX al){q:List dR}{id:Nat}{Cf:Bool}(aC:jf C bu bG bX fn ao bc aJ ro cs h j S ad w b0 ai)(aD:lW C S ad ao q bx)(a6:jw S ad n ao H tmps)
 (a:ahp ar Cf al C q ⟨fn,n,ao,bc,aJ,ro,cs⟩ H h j=some v):Ends C bu bG bX v (lone (ct S fn bc aJ ro tmps (.code (.region id ar Cf)::bx) .run) ai w):=by
 cases Cf with
 |false=>
  have cz:VZ n ao ar al C q ⟨fn,n,ao,bc,aJ,ro,cs⟩ H h j=some v:=a
  simp only[VZ,o8]at cz
  split at cz
  ·rename_i r V
   obtain⟨rest,fin⟩:=r
   have Oa:Bx rest ⟨al,ar,fin,q,⟨fn,n,ao,bc,aJ,ro,cs⟩⟩ C H [] h j=some v:=cz
   unfold LS at V
   split at V
   ·rename_i dc ia
    simp at V
    obtain⟨rfl,rfl⟩:=V
    refine .head aAN ?_
    refine ahA cI gp dc [] h j S ad w tmps _ ai aC aD ⟨0,zo _, ?_,ia,rfl,pp.start a6,a6.size⟩ Oa
    rw[List.range_eq_range'];rfl
   ·simp at V
  ·simp at cz
 |true=>
  have cz:VY n ao ar al C q ⟨fn,n,ao,bc,aJ,ro,cs⟩ H h j=some v:=a
  simp only[VY,o8]at cz
  split at cz
  ·rename_i r V
   obtain⟨lB,fin⟩:=r
   have Oa:q6 j (λj=>Ar al C ar j [] lB fin q ⟨fn,n,ao,bc,aJ,ro,cs⟩ H h (j+ar.size))=some v:=cz
   rw[ms]at Oa
   unfold LR at V
   split at V
   ·simp at V
   ·rename_i dc ia
    simp only[e1,Zp,Zf]at V
    obtain⟨⟨⟨b3,b7⟩,cS⟩,eh⟩:=V
    have ko:xV C n ao ar=dc:=by unfold xV;rw[ia];rfl
    have dm:qd C n ao ar:=⟨by rw[ko];exact ia,b3,b7,by unfold gD;rw[ko];exact cS⟩
    have auQ:lB=Bl (l6 C n ao ar) 0 ((gD C n ao ar).drop 0)/\fin=lo ao ar.toList 0:=by
     have E:=eh
     cases E
     refine⟨?_,rfl⟩
     rw[ZZ]
     unfold l6 gD
     rw[ko];rfl
    obtain⟨rfl,rfl⟩:=auQ
    refine .head aAO ?_
    rw[cI.kx.mixed]
    have af:iG C b0 S ad h bu.heap.size w S ad h w.drew:=⟨λ_ _=>rfl,λ_ a=>a,λ_ a=> .inl a,λ_ _ _=>rfl,Below.drew (Below.refl _ _)⟩
    have kb:dq C S ad h (j+ar.size) bu.heap.size w.drew:=aC.V.drew.more (zd _ _) (λ_ _=>rfl) (λb U aj=>ZP (aC.V.wN b U aj) (zd _ _))
    refine ab1 cI gp (dp:=λ_=>False) (aC.ext kb af (zd _ _)) aD aC.kg (Zi _) aC.V.a2 ?_ (az2 b3 _) Oa
    refine⟨dm,a6.size,zo _,aC.V.a2,λ_ _ _ a=>a.elim,λ_ a=>a.elim,λp e _=>⟨λa=>a.elim,λa=>Zo⟩,λ_ _ a=>a.elim,λi ac bb=>by simp at bb,λp e _ a=>Zo,λei _ a=>Zo, ?_, ?_, ?_⟩
    ·intro t ac bb
     rcases bb with ⟨W,a,_⟩|⟨_,I,J⟩
     ·exact a.elim
     ·exact a6.val t ac I J
    ·intro i _ aH
     have:=aC.V.lt _ aH;omega
    ·intro i _ _
     cases bL:Y C h (j+i)with
     |none=>rfl
     |some U=>have:=aC.V.wN _ U bL;omega
  ·simp at cz
end
end Go.bd

namespace Go.bd
open Go.RowKit (Below)
section
variable{C:aL}{S dd dP:c9}{ad dC d4:Nat->Prop}{h T:K ag}{j an bh:Nat}{w b1:World}{n ao:Nat}{ar:Array Oper}
variable{bu:World}{bG:Nat}{bX:List Frame}{v:D}{al:hw}
variable{fn:Nat}{bc:List hI}{aJ:Bool}{ro:Option Nat}{cs:List gL}{H:K D}{tmps:Array Value}{bx:List Item}{ai:List Frame}{b0 aN:Nat}
def apO{q:List dR}(id:Nat)(a:lW C S ad ao q bx)(bs:exitTo id q=none):Go.exitTo id bx=none:=by
 induction a with
 |nil=>rfl
 |cons I J al=>
  cases I<;>simp only[exitTo]at bs
  case inBlock uX=>
   rw[hK]at bs
   split at bs
   ·simp at bs
   ·rename_i E
    have:(uX==id)=false:=by simpa using E
    simp[Go.exitTo,this,al bs]
  all_goals simp[Go.exitTo,al bs]
def Vq(aC:jf C bu bG bX fn ao bc aJ ro cs h j S ad w b0 ai){b:Nat}{st ii:LoopState}{jq Dn:Option Code}{gX aU k1:Nat}{c1:K D}{params:List Nat}{assign body:Code}{gl:Nat}
 (aE:C.a2<=b)(aH:ad b)(hP:Y C h b=some (.loop st jq gX aU k1 c1 params assign body gl))(ay:∀c,Dn=some c->H5 c):
 ∃hG,w.heap[(S b).cH]? =some (.loop ⟨st,jq,gX,hG,params.toArray,assign,body,(S gl).cH⟩)/\Re C gX k1/\(∀c,jq=some c->H5 c)/\
  jf C bu bG bX fn ao bc aJ ro cs (bn C h b (some (.loop ii Dn gX aU k1 c1 params assign body gl))) j S ad (w.putObj (S b).cH (.loop ⟨ii,Dn,gX,hG,params.toArray,assign,body,(S gl).cH⟩)) b0 ai:=by
 obtain⟨hG,gS,nb,sz,Iy,Dc,tN,Dd⟩:=aC.V.obj b _ hP aH
 obtain⟨b1,bR,cq,cP⟩:=putObj aC.V (di:=b0) (o':= .loop ⟨ii,Dn,gX,hG,params.toArray,assign,body,(S gl).cH⟩) (o7:= .loop ii Dn gX aU k1 c1 params assign body gl) aE aH hP ⟨Zs,Zs⟩ gS Zs
  (λb1 qB=>⟨hG,qB,nb,sz,Iy,Dc,ay,Dd⟩) ⟨λ_ _ _ a=>(by cases a),λ_ _ _ a=>(by cases a)⟩
 rw[run_setObj_loop _ gS]at bR
 simp only[Result.ok.injEq]at bR
 obtain⟨_,rfl⟩:=bR
 exact⟨hG,gS,Dd,tN,aC.ext cq cP (Zi _)⟩
def abm(gp:nS C bu bG bX al){ac:D}{dn:Machine}(aC:jf C bu bG bX fn ao bc false ro cs h j S ad w b0 ai)(c8:cs≠[])(Cq:ck ad ac)
 (sl:∀g jj,ai=g::jj->step C.P dn= .next (lone (g.finish (aQ S ac)) jj w))(a:uj al false cs ac h j=some v):Ends C bu bG bX v dn:=by
 cases cs with
 |nil=>exact absurd rfl c8
 |cons c rest=>
  obtain⟨gX,aU,k1,c1,w9,gl,m9,jy,ly⟩:=c
  obtain⟨ss,hG,h2,jj,rfl,bR,cq,cP,d0,dU,dy⟩:=aC.cs.inv
  refine .head (sl _ _ rfl) ?_
  cases m9 with
  |run=>
   have cz:V0 al w9 ⟨gX,aU,k1,gl,jy,ly,rest⟩ ac c1 h j=some v:=a
   cases w9 with
   |nil=>simp[V0]at cz
   |cons eI q=>exact G2 gp ⟨aC.V,aC.lk,aC.hW,ZB dU aC.kg,cP,d0,dy⟩ bR aC.kg Cq cz
  |returning=>simp[uj]at a
  |panicking f9=>simp[uj]at a
def Vf(gp:nS C bu bG bX al){todo:List dR}{iT:Option Code}(bK:(iT=none/\bx=[])\/(iT=some .ret/\∃q,bx= .code .ret::q)\/(∃id q,iT=some (.exit id)/\bx= .code (.exit id)::q/\Go.exitTo id q=none))
 (aC:jf C bu bG bX fn ao bc aJ ro cs h j S ad w b0 ai)(a6:jw S ad n ao H tmps)
 (a:o2 iT al C todo ⟨fn,n,ao,bc,aJ,ro,cs⟩ H h j=some v):Ends C bu bG bX v (lone (ct S fn bc aJ ro tmps bx .run) ai w):=by
 unfold o2 at a
 cases ro with
 |some k=>
  simp only at a
  split at a
  ·rename_i st jq gX aU k1 c1 params assign body gl hP
   simp only[e1,Zp,hk]at a
   obtain⟨⟨⟨EG,aDF⟩,TE⟩,a⟩:=a
   have TE:aJ=false:=by simpa using TE
   subst TE
   have aH:=aC.hV.ro k rfl
   have at5:∀c,iT=some c->H5 c:=by
    intro c aA
    subst aA
    rcases bK with ⟨E,_⟩|⟨E,_⟩|⟨id,q,E,_⟩
    ·cases E
    ·cases E;exact .inl rfl
    ·cases E;exact .inr ⟨id,rfl⟩
   obtain⟨hG,gS,Dd,_,AO⟩:=Vq aC (ii:=bY iT.isNone .ready .done) (Dn:=iT) (jx EG) aH hP at5
   have c8:cs≠[]:=λE=>by have:=(aC.bot E).2.2;cases this
   refine abm (ac:= .bool iT.isNone) gp AO c8 trivial (λg jj E=> ?_) a
   subst E
   refine aAR bK ?_
   have:=run_endRound (P:=C.P) iT gS
   rw[this]
   cases iT<;>rfl
  ·simp at a
 |none=>
  simp only[e1]at a
  have dm:DS C bu bG bX .returning todo fn n ao bc aJ none cs H h j S ad w b0 tmps bx ai:=⟨aC.V,aC.lk,aC.hW,aC.kg,aC.hV,trivial,aC.bot,aC.cs,a6⟩
  have bT:=gp _ _ _ _ _ _ _ _ _ _ _ _ v a.2 S ad w b0 tmps bx ai dm
  rcases bK with ⟨rfl,rfl⟩|⟨rfl,q,rfl⟩|⟨id,q,rfl,rfl,_⟩
  ·exact .head aAD bT
  ·exact .head aAP bT
  ·simp[UU]at a
def azb(cI:Env C bu dP d4)(gp:nS C bu bG bX al){f:Operand}{params:Array Nat}{assign body:Code}{q:List dR}(aC:jf C bu bG bX fn ao bc aJ ro cs h j S ad w b0 ai)(a6:jw S ad n ao H tmps)
 (fY:l4 C ao (.rangeFunc f params assign body)=true)(aD:lW C S ad ao q bx)(a:Ma f params assign body al C q ⟨fn,n,ao,bc,aJ,ro,cs⟩ H h j=some v):
 Ends C bu bG bX v (lone (ct S fn bc aJ ro tmps (.code (.rangeFunc f params assign body)::bx) .run) ai w):=by
 simp only[l4,Zp]at fY
 obtain⟨ch,aeF,hP⟩:=fY
 unfold Ma at a
 split at a
 ·rename_i g first fM SC aG Ik aoH JU V3 r2 bs e2
  cases e2
  obtain⟨bF,cn⟩:=acl aC.hW a6 ch bs
  have me:∀(b:Nat) (lf:World),(resolve (ld tmps) {callee:= .value f,args:= #[.const (.func (.yield b) #[] #[])],argTypes:= #[]} 0).run C.P lf=
   .ok ⟨.fn (.func g) (b2 S fM).toArray,(b2 S first).toArray++ #[.func (.yield b) #[] #[]]⟩ lf:=by
   intro b lf
   have Si:ld tmps (.const (.func (.yield b) #[] #[]))= .func (.yield b) #[] #[]:=rfl
   simp[resolve,bF,aQ,nr,Deferred.ofValue,Si]
  have adY:∀(b:Nat) (y2:c9) (mO:Nat->Prop) (aP:K ag) (Fv:Nat) (lf:World) (uq:List gL) (x7:List Frame) (di:Nat) (bV:Nat),(∀x,ad x->y2 x=S x)->(∀x,ad x->mO x)->mO bV->(y2 bV).cH=b->
   dq C y2 mO aP Fv bu.heap.size lf->Below bu.heap.size bu lf->sV C y2 mO->di<=Fv->pi C y2 mO aP bG bX di uq x7->uq≠[]->oH al C g (first++[.func (.yield bV) [] []]++fM) false uq aP Fv=some v->
   ∃args,(invoke (.fn (.func g) (b2 S fM).toArray) ((b2 S first).toArray++ #[.func (.yield b) #[] #[]])).run C.P lf= .ok (.enter g args) lf/\Ends C bu bG bX v (lone (Frame.enter C.P g args .normal) x7 lf):=by
   intro b y2 mO aP Fv lf uq x7 di bV dL gF hq aj tv oO OI oR ia c8 a
   have as9:ep mO (first++[.func (.yield bV) [] []]++fM):=Cn (Cn (r8 gF _ cn.2.1) ⟨⟨hq,trivial,trivial⟩,trivial⟩) (r8 gF _ cn.2.2)
   refine⟨(b2 y2 (first++[.func (.yield bV) [] []]++fM)).toArray, ?_,NH gp tv oO OI oR ia (λE=>absurd E c8) as9 a⟩
   have KJ:∃func c,C.P.funcs[g]? =some func/\func.body=some c:=by
    unfold oH at a
    split at a
    ·rename_i func rk
     split at a
     ·rename_i c aA;exact⟨func,c,rk,aA⟩
     ·simp at a
    ·simp at a
   obtain⟨func,c,rk,aA⟩:=KJ
   have aE:func.name≠ "runtime.NumGoroutine":=by simpa using cI.kx.num g func rk (by simp[aA])
   have yd:(b2 y2 (first++[.func (.yield bV) [] []]++fM)).toArray=((b2 S first).toArray++ #[.func (.yield b) #[] #[]])++(b2 S fM).toArray:=by
    rw[D6,D6,Al dL cn.2.1,Al dL cn.2.2]
    simp[b2,aQ,nr,aj]
   rw[yd]
   simp[invoke,callFunc,rk,aE,aA]
  cases ro with
  |none=>
   simp only[ms]at a
   have oT:=sy aC.V
   have tv:=aC.V.alloc (b:=j) (an:=j+1) (pl:=⟨w.heap.size,0,0⟩) (cY:= .deferred (some [])) (U:= .deferred (some [])) (T:=bn C h j (some (.deferred (some [])))) aC.V.a2 (Yq _) (Yf _) oT aC.er rfl
    (by rw[fX _ aC.V.a2,Zu rfl]) (λx af=> .inl (by rw[fX _ aC.V.a2,Zg af])) ⟨by rw[World.alloc_heap_new];rfl,λk az=>by cases az;simp⟩ ⟨λ_ _ _ a=>(by cases a),λ_ _ _ a=>(by cases a)⟩
   have CP:iG C j S ad h bu.heap.size w (gs S j ⟨w.heap.size,0,0⟩) (add ad j) (bn C h j (some (.deferred (some [])))) (w.alloc (.deferred (some []))):=
    ⟨rL oT,λ_ a=> .inl a,λe a=>a.elim .inl (λa=> .inr Zo),λx _ c2=>by rw[fX _ aC.V.a2,Zg Zo],Below.alloc (Below.refl _ _) aC.er _⟩
   have ts:C.a2<=j+1:=Nat.le_succ_of_le aC.V.a2
   have aeA:=sy tv
   have ade:bu.heap.size<=(w.alloc (.deferred (some []))).heap.size:=by rw[World.size_alloc];have:=aC.er;omega
   have afk:(gs S j ⟨w.heap.size,0,0⟩ j)=⟨w.heap.size,0,0⟩:=lE ..
   have Ps:=rL (S:=gs S j ⟨w.heap.size,0,0⟩) (pl:=⟨w.heap.size+1,0,0⟩) aeA
   have hg:=tv.alloc (b:=j+1) (an:=j+2) (pl:=⟨w.heap.size+1,0,0⟩) (cY:= .loop .ready none fn n ao H params.toList assign body j) (U:= .loop {state:= .ready,pending:=none,fn,tmps,params,assign,body,defers:=w.heap.size})
    (T:=bn C (bn C h j (some (.deferred (some [])))) (j+1) (some (.loop .ready none fn n ao H params.toList assign body j))) ts (Yq _) (Yf _) aeA ade (by rw[World.size_alloc])
    (by rw[fX _ ts,Zu rfl]) (λx af=> .inl (by rw[fX _ ts,Zg af]))
    ⟨tmps,by
     rw[show(⟨w.heap.size+1,0,0⟩:mR).cH=(w.alloc (.deferred (some []))).heap.size by rw[World.size_alloc],World.alloc_heap_new,Ps j (.inr rfl),afk],
     (a6.ab CP.iW CP.jP).ab Ps (λ_ a=> .inl a), .inl (.inr rfl),aeF,hP,λc aA=>(by cases aA),aC.hV.fn⟩
    ⟨λ_ _ _ a=>(by cases a),λ_ _ _ a=>(by cases a)⟩
   have E5:iG C (j+1) (gs S j ⟨w.heap.size,0,0⟩) (add ad j) (bn C h j (some (.deferred (some [])))) bu.heap.size (w.alloc (.deferred (some []))) (gs (gs S j ⟨w.heap.size,0,0⟩) (j+1) ⟨w.heap.size+1,0,0⟩) (add (add ad j) (j+1))
    (bn C (bn C h j (some (.deferred (some [])))) (j+1) (some (.loop .ready none fn n ao H params.toList assign body j))) ((w.alloc (.deferred (some []))).alloc (.loop {state:= .ready,pending:=none,fn,tmps,params,assign,body,defers:=w.heap.size})):=
    ⟨Ps,λ_ a=> .inl a,λe a=>a.elim .inl (λa=> .inr Zo),λx _ c2=>by rw[fX _ ts,Zg Zo],Below.alloc (Below.refl _ _) ade _⟩
   have af:=CP.trans (Yf j) E5
   have n1:=aC.ext hg (af.mono aC.kg) (ZB (Yf _) (Yf _))
   have as7:xB C (add (add ad j) (j+1)) fn ao (⟨.collected j,[]⟩::bc) none:=⟨λd aH=>by
    rcases Zr.1 aH with rfl|aH
    ·exact⟨.inl (.inr rfl),trivial⟩
    ·exact n1.hV.bc d aH,n1.hV.ro,n1.hV.fn⟩
   have Li:mT C (gs (gs S j ⟨w.heap.size,0,0⟩) (j+1) ⟨w.heap.size+1,0,0⟩) (add (add ad j) (j+1)) (bn C (bn C h j (some (.deferred (some [])))) (j+1) (some (.loop .ready none fn n ao H params.toList assign body j))) b0 (j+2) n ao H tmps
    (.inRangeFunc (j+1)::q) (.inRangeFunc (w.heap.size+1)::bx):=by
    have:=mT.cQ (b0:=b0) (aN:=j+2) (h:=bn C (bn C h j (some (.deferred (some [])))) (j+1) (some (.loop .ready none fn n ao H params.toList assign body j))) (aD.ab af.iW af.jP) (a6.ab af.iW af.jP) (k:=j+1) (.inr rfl)
    rw[lE]at this
    exact this
   have oR:b0<=j+2:=zq aC.kg
   obtain⟨args,b3,b7⟩:=adY (w.heap.size+1) _ _ _ _ _ _ _ (j+2) (j+1) af.iW af.jP (.inr rfl) (by rw[lE]) hg n1.lk n1.hW (Zi _)
    (.cons (bS:= .run) Li trivial as7 aC.bot oR n1.cs) Zs a
   refine .head (ahI (run_enterLoop_outer fn tmps params assign body) (me _ _) b3) ?_
   have qy:({ct S fn bc aJ none tmps (.inRangeFunc (w.heap.size+1)::bx) .run with defers:=[{target:= .collected w.heap.size,args:= #[]}]++bc.map (l2 S)}:Frame)=
    ct (gs (gs S j ⟨w.heap.size,0,0⟩) (j+1) ⟨w.heap.size+1,0,0⟩) fn (⟨.collected j,[]⟩::bc) aJ none tmps (.inRangeFunc (w.heap.size+1)::bx) .run:=by
    have E:bc.map (l2 (gs (gs S j ⟨w.heap.size,0,0⟩) (j+1) ⟨w.heap.size+1,0,0⟩))=bc.map (l2 S):=YF λd aH=>RT af.iW (aC.hV.bc d aH)
    have eU:l2 (gs (gs S j ⟨w.heap.size,0,0⟩) (j+1) ⟨w.heap.size+1,0,0⟩) ⟨.collected j,[]⟩={target:= .collected w.heap.size,args:= #[]}:=by
     simp only[l2,D3,b2]
     rw[Ps j (.inr rfl),afk]
    simp only[ct,ZL,E,eU,YC,Z8,Y1]
   rw[qy]
   exact b7
  |some k=>
   simp only[ms]at a
   split at a
   ·rename_i st jq gX aU k1 c1 aEr aCl aCp gl az
    have aH:=aC.hV.ro k rfl
    obtain⟨hG,gS,nb,sz,Iy,Dc,tN,Dd⟩:=aC.V.obj k _ az aH
    have oT:=sy aC.V
    have UN:=rL (S:=S) (pl:=⟨w.heap.size,0,0⟩) oT
    have hg:=aC.V.alloc (b:=j) (an:=j+1) (pl:=⟨w.heap.size,0,0⟩) (cY:= .loop .ready none fn n ao H params.toList assign body gl) (U:= .loop {state:= .ready,pending:=none,fn,tmps,params,assign,body,defers:=(S gl).cH})
     (T:=bn C h j (some (.loop .ready none fn n ao H params.toList assign body gl))) aC.V.a2 (Yq _) (Yf _) oT aC.er rfl
     (by rw[fX _ aC.V.a2,Zu rfl]) (λx af=> .inl (by rw[fX _ aC.V.a2,Zg af]))
     ⟨tmps,by rw[World.alloc_heap_new,UN gl sz],a6.ab UN (λ_ a=> .inl a), .inl sz,aeF,hP,λc aA=>(by cases aA),aC.hV.fn⟩
     ⟨λ_ _ _ a=>(by cases a),λ_ _ _ a=>(by cases a)⟩
    have af:iG C j S ad h bu.heap.size w (gs S j ⟨w.heap.size,0,0⟩) (add ad j) (bn C h j (some (.loop .ready none fn n ao H params.toList assign body gl))) (w.alloc (.loop {state:= .ready,pending:=none,fn,tmps,params,assign,body,defers:=(S gl).cH})):=
     ⟨UN,λ_ a=> .inl a,λe a=>a.elim .inl (λa=> .inr Zo),λx _ c2=>by rw[fX _ aC.V.a2,Zg Zo],Below.alloc (Below.refl _ _) aC.er _⟩
    have n1:=aC.ext hg (af.mono aC.kg) (Yf _)
    have Li:mT C (gs S j ⟨w.heap.size,0,0⟩) (add ad j) (bn C h j (some (.loop .ready none fn n ao H params.toList assign body gl))) b0 (j+1) n ao H tmps (.inRangeFunc j::q) (.inRangeFunc w.heap.size::bx):=by
     have:=mT.cQ (b0:=b0) (aN:=j+1) (h:=bn C h j (some (.loop .ready none fn n ao H params.toList assign body gl))) (aD.ab af.iW af.jP) (a6.ab af.iW af.jP) (k:=j) (.inr rfl)
     rw[lE]at this
     exact this
    have oR:b0<=j+1:=zq aC.kg
    obtain⟨args,b3,b7⟩:=adY w.heap.size _ _ _ _ _ _ _ (j+1) j af.iW af.jP (.inr rfl) (by rw[lE]) hg n1.lk n1.hW (Zi _)
     (.cons (bS:= .run) Li trivial n1.hV aC.bot oR n1.cs) Zs a
    have asW:(Instr.enterLoop fn tmps params assign body ((some k).map λk=>(S k).cH)).run C.P w= .ok (w.heap.size,[]) (w.alloc (.loop {state:= .ready,pending:=none,fn,tmps,params,assign,body,defers:=(S gl).cH})):=by
     unfold Instr.enterLoop
     simp only[ZU,Sem.run_bind,run_getLoop gS,run_newObj_alloc,Result.andThen,Sem.run_pure]
    refine .head (ahI asW (me _ _) b3) ?_
    have qy:({ct S fn bc aJ (some k) tmps (.inRangeFunc w.heap.size::bx) .run with defers:=[]++bc.map (l2 S)}:Frame)=ct S fn bc aJ (some k) tmps (.inRangeFunc w.heap.size::bx) (gN S .run):=rfl
    rw[qy, <-Ip af.iW aC.hV]
    exact b7
   ·simp at a
 ·simp at a
def abG(cI:Env C bu dP d4)(gp:nS C bu bG bX al)(aC:jf C bu bG bX fn ao bc aJ ro cs h j S ad w b0 ai)(a6:jw S ad n ao H tmps):∀(c:Code) (q:List dR) (bx:List Item),l4 C ao c=true->lW C S ad ao q bx->
 vB c al C q ⟨fn,n,ao,bc,aJ,ro,cs⟩ H h j=some v->Ends C bu bG bX v (lone (ct S fn bc aJ ro tmps (.code c::bx) .run) ai w):=by
 intro c
 have go:∀q bx,lW C S ad ao q bx->al .run q ⟨fn,n,ao,bc,aJ,ro,cs⟩ H h j=some v->Ends C bu bG bX v (lone (ct S fn bc aJ ro tmps bx .run) ai w):=
  λq bx aD a=>gp _ _ _ _ _ _ _ _ _ _ _ _ v a S ad w b0 tmps bx ai (aC.state (.plain aD a6))
 induction c with
 |skip=>intro q bx _ aD a;exact .head aAU (go q bx aD a)
 |region id ar Cf=>intro q bx _ aD a;exact azj cI gp aC aD a6 a
 |seq F b m2 hB=>
  intro q bx fY aD a
  simp only[l4,Zp]at fY
  exact .head aAT (m2 (.code b::q) (.code b::bx) fY.1 (.cons (.code fY.2) aD) a)
 |cond c F b m2 hB=>
  intro q bx fY aD a
  simp only[l4,Zp]at fY
  have cz:JS c H (vB F al C q ⟨fn,n,ao,bc,aJ,ro,cs⟩ H h j) (vB b al C q ⟨fn,n,ao,bc,aJ,ro,cs⟩ H h j)=some v:=a
  simp only[JS,o8]at cz
  split at cz
  ·rename_i ac bb
   obtain⟨bF,_⟩:=acl aC.hW a6 fY.1 bb
   cases ac with
   |bool t=>
    refine .head (aAB (t:=t) (by rw[bF];rfl)) ?_
    cases t with
    |true=>exact m2 q bx fY.2.1 aD cz
    |false=>exact hB q bx fY.2.2 aD cz
   |_=>simp at cz
  ·simp at cz
 |block id b hB=>intro q bx fY aD a;exact .head aAA (hB (.inBlock id::q) (.inBlock id::bx) fY (.cons .inBlock aD) a)
 |loop b hB=>intro q bx fY aD a;exact .head aAK (hB (.inLoop b::q) (.inLoop b::bx) fY (.cons (.inLoop fY) aD) a)
 |rangeFunc f params assign body _ _=>intro q bx fY aD a;exact azb cI gp aC a6 fY aD a
 |exit id=>
  intro q bx _ aD a
  have cz:Ci id al C q ⟨fn,n,ao,bc,aJ,ro,cs⟩ H h j=some v:=a
  unfold Ci at cz
  split at cz
  ·rename_i e5 bs
   obtain⟨h2,b3,b7⟩:=apP id aD bs
   exact .head (aAF b3) (go e5 h2 b7 cz)
  ·rename_i bs
   exact Vf gp (.inr (.inr ⟨id,bx,rfl,rfl,apO id aD bs⟩)) aC a6 cz
 |scope b hB=>intro q bx fY aD a;exact .head aAS (hB (.inScope b::q) (.inScope b::bx) fY (.cons (.inScope fY) aD) a)
 |label k=>intro q bx _ aD a;exact .head aAJ (go q bx aD a)
 |goto k=>intro q bx _ _ a;exact absurd a (by simp[vB,Ft])
 |ret=>intro q bx _ aD a;exact Vf gp (.inr (.inl ⟨rfl,bx,rfl⟩)) aC a6 a
 |refuse s=>intro q bx _ _ a;exact absurd a (by simp[vB,Ft])
def azs(aC:dq C S ad h j bh w)(a6:jw S ad n ao H tmps){ce:ResultVar->Sem Value}(il:∀t,ce (.tmp t)=pure (tmps.getD t Go.undef))(dl:∀F t,ce (.cell F t)=do loadVar t (<-asAddr (tmps.getD F Go.undef))):
 ∀(k:List ResultVar) (a8:List D),Bs ao k=true->yN C h H k=some a8->(k.mapM ce).run C.P w= .ok (b2 S a8) w/\ep ad a8:=by
 intro k
 induction k with
 |nil=>intro a8 _ a;simp[yN]at a;subst a;exact⟨by simp[b2],trivial⟩
 |cons x k al=>
  intro a8 fY a
  cases x with
  |tmp t=>
   simp only[Bs,Zp]at fY
   simp only[yN]at a
   split at a
   ·rename_i ac r bb V
    simp at a;subst a
    obtain⟨I,J⟩:=a6.val t ac fY.1 bb
    obtain⟨am,aB⟩:=al r fY.2 V
    refine⟨?_,J,aB⟩
    simp[Y5,il,I,am,b2]
   ·simp at a
  |cell F t=>
   simp only[Bs,Zp]at fY
   simp only[yN]at a
   split at a
   ·rename_i p ay
    split at a
    ·rename_i ac r bb V
     simp at a;subst a
     obtain⟨I,J⟩:=a6.val F p fY.1 ay
     obtain⟨am,aB⟩:=al r fY.2 V
     obtain⟨bk,b6⟩:=aa0 aC J bb
     refine⟨?_,b6,aB⟩
     cases p with
     |ptr b U=>
      simp only[Instr.loadAt,Instr.sureAddr,aQ,Sem.run_bind,Sem.run_pure,Result.andThen_ok]at bk
      simp[Y5,dl,I,aQ,asAddr,bk,am,b2]
     |_=>simp[l0,d8,aO]at bb;split at bb<;>simp at bb
    ·simp at a
   ·simp at a
def ayb(a8:List D):(if a:(b2 S a8).toArray.size=1 then(b2 S a8).toArray[0]else Value.tuple (b2 S a8).toArray)=aQ S (one a8):=by
 match a8 with
 |[]=>simp[one,b2,aQ]
 |[F]=>simp[one,b2]
 |F::b::r=>simp[one,b2,aQ]
def aya{a8:List D}(a:ep ad a8):ck ad (one a8):=by
 match a8,a with
 |[],a=>exact a
 |[F],a=>exact a.1
 |F::b::r,a=>exact a
def jf.defs(aC:jf C bu bG bX fn ao bc aJ ro cs h j S ad w b0 ai){gl:List hI}(a:∀d∈gl,x5 ad d):jf C bu bG bX fn ao gl aJ ro cs h j S ad w b0 ai:=
 ⟨aC.V,aC.lk,aC.hW,aC.kg,⟨a,aC.hV.ro,aC.hV.fn⟩,aC.bot,aC.cs⟩
def jf.WC{todo:List dR}{bS:lg}(K1:bS≠ .run)(bU:q8 ad bS)(aC:jf C bu bG bX fn ao bc aJ ro cs h j S ad w b0 ai)(a6:jw S ad n ao H tmps):
 DS C bu bG bX bS todo fn n ao bc aJ ro cs H h j S ad w b0 tmps bx ai:=by
 cases bS with
 |run=>exact absurd rfl K1
 |returning=>exact⟨aC.V,aC.lk,aC.hW,aC.kg,aC.hV,bU,aC.bot,aC.cs,a6⟩
 |panicking f9=>exact⟨aC.V,aC.lk,aC.hW,aC.kg,aC.hV,bU,aC.bot,aC.cs,a6⟩
def abU(cI:Env C bu dP d4)(gp:nS C bu bG bX al){d:hI}{ds:List hI}{bS:lg}{todo:List dR}(K1:bS≠ .run)(bU:q8 ad bS)(aC:jf C bu bG bX fn ao (d::ds) aJ ro cs h j S ad w b0 ai)(a6:jw S ad n ao H tmps)
 (a:yS d ds bS todo al C ⟨fn,n,ao,[],aJ,ro,cs⟩ H h j=some v):Ends C bu bG bX v (lone (ct S fn (d::ds) aJ ro tmps bx (gN S bS)) ai w):=by
 have OK:x5 ad d:=aC.hV.bc d (Zq ..)
 have aeb:∀d∈ds,x5 ad d:=λlI aH=>aC.hV.bc lI (Zt _ aH)
 have adQ:gN S bS≠ .run:=by cases bS<;>simp[gN]at K1 ⊢
 unfold yS at a
 split at a
 rename_i SC aG Ik aoH JU V3 r2 e2
 cases e2
 split at a
 ·rename_i r cv
  split at a
  ·rename_i qk hP
   simp only[e1,hk]at a
   obtain⟨EG,a⟩:=a
   have aH:ad r:=OK.1
   obtain⟨gS,nb⟩:=aC.V.obj r _ hP aH
   simp only[ZU]at gS
   obtain⟨b1,bR,cq,cP⟩:=putObj aC.V (di:=b0) (o':= .deferred none) (o7:= .deferred none) (jx EG) aH hP ⟨Zs,Zs⟩ gS Zs
    (λb1 qB=>⟨by simpa using qB,λk az=>by cases az⟩) ⟨λ_ _ _ a=>(by cases a),λ_ _ _ a=>(by cases a)⟩
   have Pk:(Instr.takeDeferred (S r).cH).run C.P w= .ok (qk.map (l2 S)) b1:=by
    have E:b1=w.putObj (S r).cH (.deferred none):=by
     have:(Go.setObj (S r).cH (.deferred none)).run C.P w= .ok () (w.putObj (S r).cH (.deferred none)):=by simp[Go.setObj,Sem.run,gS,World.putObj]
     rw[this]at bR
     simp only[Result.ok.injEq]at bR
     exact bR.2.symm
    rw[E]
    exact run_takeDeferred gS
   refine .head (aAV (dC:=qk++ds) adQ Pk (by rw[Yi])) ?_
   have asI:∀d∈qk++ds,x5 ad d:=λlI tk=>by
    rcases Zz.1 tk with ah|ah
    ·exact nb qk rfl lI ah
    ·exact aeb lI ah
   have AO:=(aC.defs asI).ext cq cP (Zi _)
   exact gp _ _ _ _ _ _ _ _ _ _ _ _ v a S ad b1 b0 tmps bx ai (AO.WC K1 bU a6)
  ·simp at a
 ·rename_i f fM args
  split at a
  ·rename_i g cv TX
   have mu:=aft (S:=S) (h:=h) (j:=j) (bh:=bu.heap.size) (w:=w) cI.kx OK.1.1 OK.1.2 OK.2 TX
   obtain⟨I,J⟩:=mu
   have sl:=step_defer (P:=C.P) (fr:=ct S fn (⟨.fn f fM,args⟩::ds) aJ ro tmps bx (gN S bS)) (cs:=ai) (w:=w) (d:=l2 S ⟨.fn f fM,args⟩) (ds:=ds.map (l2 S)) adQ rfl rfl I
   refine .head sl ?_
   have aF:B1 C S ad h b0 j n ao H tmps bS todo bx:=by
    cases bS with
    |run=>exact absurd rfl K1
    |_=>exact a6
   exact acb (D8:=true) gp aC.V aC.lk aC.hW (Zi _) (.cons (bS:=bS) aF bU ((aC.defs aeb).hV) aC.bot aC.kg aC.cs) (λE=>by cases E) J a
  ·simp at a
def aoS(S:c9):∀(k:List sK),(k.map (um S)).dropWhile (!·.goexit)=[]:=by
 intro k
 induction k with
 |nil=>rfl
 |cons F k al=>simp[um,al]
def aAb(S:c9)(f9:List sK):settle (gN S (.panicking f9))=gN S (yW f9):=by
 cases f9 with
 |nil=>rfl
 |cons p k=>
  obtain⟨v,r⟩:=p
  cases r with
  |false=>simp[gN,settle,yW,um]
  |true=>simp[gN,settle,yW,um,aoS]
def aBz{f9:List sK}(a:q8 ad (.panicking f9)):q8 ad (yW f9):=by
 unfold yW
 split
 ·trivial
 ·exact a
def aBA(f9:List sK):yW f9≠ .run:=by
 unfold yW
 split<;>simp
def azx(cI:Env C bu dP d4)(gp:nS C bu bG bX al){todo:List dR}(aC:jf C bu bG bX fn ao bc aJ ro cs h j S ad w b0 ai)(a6:jw S ad n ao H tmps)
 (a:Ml todo al C ⟨fn,n,ao,bc,aJ,ro,cs⟩ H h j=some v):Ends C bu bG bX v (lone (ct S fn bc aJ ro tmps bx .returning) ai w):=by
 unfold Ml at a
 cases bc with
 |cons d ds=>exact abU (bS:= .returning) cI gp Zs trivial aC a6 a
 |nil=>
  simp only at a
  split at a
  ·rename_i f ch
   obtain⟨acq,rk,me⟩:=aC.hV.fn
   rw[ch]at rk;cases rk
   split at a
   ·rename_i a8 pJ
    have oX:(results f tmps).run C.P w= .ok (aQ S (one a8)) w/\ep ad a8:=by
     unfold results
     rw[Sem.run_bind,Array.mapM_eq_mapM_toList,Sem.run_map]
     obtain⟨eL,e7⟩:=azs aC.V a6 (ce:=λx=>match x with| .tmp t=>pure (tmps.getD t Go.undef)| .cell F t=>do loadVar t (<-asAddr (tmps.getD F Go.undef))) (λ_=>rfl) (λ_ _=>rfl) _ _ me pJ
     refine⟨?_,e7⟩
     refine(congrArg (λr=>Result.andThen (Result.andThen r _) _) eL).trans ?_
     simp only[Result.andThen_ok,Sem.run_pure]
     rw[<-ayb]
    obtain⟨oX,arl⟩:=oX
    cases aJ with
    |false=>
     have OW:(ct S fn [] false ro tmps bx .returning).leaving C.P w (.returned (aQ S (one a8))):=⟨rfl,rfl,rfl,f,ch,oX⟩
     cases cs with
     |nil=>
      simp only[uj,j3,Zf]at a
      subst a
      obtain⟨bQ,cf,cM⟩:=aC.bot rfl
      have ia:=aC.cs
      cases ia with
      |nil=>exact⟨S,w,_, .refl _ _,OW,bQ,aC.lk⟩
     |cons c rest=>
      refine abm gp aC Zs (aya arl) (λg jj E=> ?_) a
      subst E
      exact step_leave_returned OW
    |true=>
     cases cs with
     |nil=>have:=(aC.bot rfl).2.1;cases this
     |cons c rest=>
      obtain⟨gX,aU,k1,c1,w9,gl,m9,jy,ly⟩:=c
      obtain⟨ss,hG,h2,jj,rfl,bR,cq,cP,d0,dU,dy⟩:=aC.cs.inv
      have sl:=step_going_returned (P:=C.P) (fr:=ct S fn [] true ro tmps bx .returning) (c:=ct S gX gl jy ly hG h2 (gN S m9)) (cs:=jj) (w:=w) (v:=aQ S (one a8)) rfl ⟨rfl,rfl,f,ch,oX⟩
      refine .head sl ?_
      cases m9 with
      |run=>simp[uj]at a
      |returning=>
       have cz:al .returning w9 ⟨gX,aU,k1,gl,jy,ly,rest⟩ c1 h j=some v:=a
       exact gp _ _ _ _ _ _ _ _ _ _ _ _ v cz S ad w ss hG h2 jj ⟨aC.V,aC.lk,aC.hW,ZB dU aC.kg,cP,trivial,d0,dy,bR⟩
      |panicking f9=>
       have cz:al (yW f9) w9 ⟨gX,aU,k1,gl,jy,ly,rest⟩ c1 h j=some v:=a
       have E:({ct S gX gl jy ly hG h2 (gN S (.panicking f9))with mode:=settle (ct S gX gl jy ly hG h2 (gN S (.panicking f9))).mode}:Frame)=ct S gX gl jy ly hG h2 (gN S (yW f9)):=by
        rw[show(ct S gX gl jy ly hG h2 (gN S (.panicking f9))).mode=gN S (.panicking f9) from rfl,aAb]
        rfl
       rw[E]
       have aj:jf C bu bG bX gX k1 gl jy ly rest h j S ad w ss jj:=⟨aC.V,aC.lk,aC.hW,ZB dU aC.kg,cP,d0,dy⟩
       exact gp _ _ _ _ _ _ _ _ _ _ _ _ v cz S ad w ss hG h2 jj (aj.WC (aBA f9) (aBz cq) bR)
   ·simp at a
  ·simp at a
def ay8(S:c9)(f9:List sK)(bS:lg):raised (gN S bS) (f9.map (um S))=gN S (FD f9 bS):=by
 cases bS<;>simp[gN,raised,FD]
def ayZ{f9:List sK}{bS:lg}(a:q8 ad (.panicking f9))(cz:q8 ad bS):q8 ad (FD f9 bS):=by
 cases bS with
 |panicking qI=>
  intro p ay
  rcases Zz.1 ay with ah|ah
  ·exact a p ah
  ·exact cz p ah
 |_=>exact a
def ayt(cI:Env C bu dP d4)(gp:nS C bu bG bX al){todo:List dR}{f9:List sK}(bU:q8 ad (.panicking f9))(aC:jf C bu bG bX fn ao bc aJ ro cs h j S ad w b0 ai)(a6:jw S ad n ao H tmps)
 (a:Mk f9 todo al C ⟨fn,n,ao,bc,aJ,ro,cs⟩ H h j=some v):Ends C bu bG bX v (lone (ct S fn bc aJ ro tmps bx (gN S (.panicking f9))) ai w):=by
 unfold Mk at a
 cases bc with
 |cons d ds=>exact abU (bS:= .panicking f9) cI gp Zs bU aC a6 a
 |nil=>
  simp only at a
  cases cs with
  |nil=>simp at a
  |cons c rest=>
   obtain⟨gX,aU,k1,c1,w9,gl,m9,jy,ly⟩:=c
   obtain⟨ss,hG,h2,jj,rfl,bR,cq,cP,d0,dU,dy⟩:=aC.cs.inv
   obtain⟨f,ch,_⟩:=aC.hV.fn
   have sl:=step_going_panicked (P:=C.P) (fr:=ct S fn [] aJ ro tmps bx (gN S (.panicking f9))) (c:=ct S gX gl jy ly hG h2 (gN S m9)) (cs:=jj) (w:=w) (chain:=f9.map (um S)) ⟨rfl,rfl,f,ch⟩
   refine .head sl ?_
   have E:({ct S gX gl jy ly hG h2 (gN S m9)with mode:=raised (ct S gX gl jy ly hG h2 (gN S m9)).mode (f9.map (um S))}:Frame)=ct S gX gl jy ly hG h2 (gN S (FD f9 m9)):=by
    rw[show(ct S gX gl jy ly hG h2 (gN S m9)).mode=gN S m9 from rfl,ay8]
    rfl
   rw[E]
   have cz:al (FD f9 m9) w9 ⟨gX,aU,k1,gl,jy,ly,rest⟩ (vG w9 c1) h j=some v:=a
   have aj:jf C bu bG bX gX k1 gl jy ly rest h j S ad w ss jj:=⟨aC.V,aC.lk,aC.hW,ZB dU aC.kg,cP,d0,dy⟩
   exact gp _ _ _ _ _ _ _ _ _ _ _ _ v cz S ad w ss hG h2 jj (aj.WC (by cases m9<;>simp[FD]) (ayZ bU cq) bR.drop)
def ahK(cI:Env C bu dP d4)(qC:nS C bu bG bX al):nS C bu bG bX λbS todo ce H h j=>Wn al C bS todo ce H h j:=by
 intro bS todo fn n ao bc aJ ro cs H h j v cz S ad w di tmps bx ai dm
 cases bS with
 |run=>
  obtain⟨aC,a6⟩:=dm.ans
  have J:ahL todo al C ⟨fn,n,ao,bc,aJ,ro,cs⟩ H h j=some v:=cz
  cases a6 with
  |plain aD yw=>
   cases aD with
   |nil=>
    have am:o2 none al C [] ⟨fn,n,ao,bc,aJ,ro,cs⟩ H h j=some v:=J
    exact Vf qC (.inl ⟨rfl,rfl⟩) aC yw am
   |cons aN aD=>
    rename_i F x q bx
    have am:afv F al C q ⟨fn,n,ao,bc,aJ,ro,cs⟩ H h j=some v:=J
    have go:∀q bx,lW C S ad ao q bx->al .run q ⟨fn,n,ao,bc,aJ,ro,cs⟩ H h j=some v->Ends C bu bG bX v (lone (ct S fn bc aJ ro tmps bx .run) ai w):=
     λq bx aD a=>qC _ _ _ _ _ _ _ _ _ _ _ _ v a S ad w di tmps bx ai (aC.state (.plain aD yw))
    cases aN with
    |code fY=>exact abG cI qC aC yw _ q bx fY aD am
    |inBlock=>exact .head aAG (go q bx aD am)
    |inLoop fY=>exact .head aAH (abG cI qC aC yw _ _ _ fY (.cons (.inLoop fY) aD) am)
    |inScope fY=>exact .head aAI (go q bx aD am)
    |Ee aH=>
     rename_i k
     have aB:GR k al C q ⟨fn,n,ao,bc,aJ,ro,cs⟩ H h j=some v:=am
     unfold GR at aB
     split at aB
     ·rename_i st jq gX aU k1 c1 params assign body gl hP
      have SV:st≠ .busy->bY (kH C k) (jz (bn C h k (some (.loop .exhausted jq gX aU k1 c1 params assign body gl))) λh=>al .run ((jq.map dR.code).toList++q) ⟨fn,n,ao,bc,aJ,ro,cs⟩ H h j) none=some v->
       Ends C bu bG bX v (lone (ct S fn bc aJ ro tmps (.endRangeFunc (S k).cH::bx) .run) ai w):=by
       intro auP bk
       simp only[e1,hk]at bk
       obtain⟨EG,bk⟩:=bk
       have Un:∀c,jq=some c->H5 c:=by
        obtain⟨_,_,_,_,_,_,tN,_⟩:=aC.V.obj k _ hP aH
        exact tN
       obtain⟨hG,gS,Dd,tN,AO⟩:=Vq aC (ii:= .exhausted) (Dn:=jq) (jx EG) aH hP Un
       refine .head (aAE (run_endLoop gS auP)) ?_
       refine qC _ _ _ _ _ _ _ _ _ _ _ _ v bk S ad _ di tmps _ ai (AO.state (.plain ?_ yw))
       cases jq with
       |none=>exact aD
       |some c=>
        have aA:l4 C ao c=true:=by
         rcases tN c rfl with rfl|⟨id,rfl⟩<;>rfl
        exact .cons (.code aA) aD
      cases st with
      |busy=>simp at aB
      |ready=>exact SV Zs aB
      |done=>exact SV Zs aB
      |exhausted=>exact SV Zs aB
     ·simp at aB
    |begin=>
     have aB:JJ al C q ⟨fn,n,ao,bc,aJ,ro,cs⟩ H h j=some v:=am
     unfold JJ at aB
     cases ro with
     |none=>simp at aB
     |some k=>
      simp only at aB
      split at aB
      ·rename_i jq gX aU k1 c1 params assign body gl hP
       simp only[e1,hk]at aB
       obtain⟨EG,aB⟩:=aB
       have aH:=aC.hV.ro k rfl
       have Un:∀c,jq=some c->H5 c:=by
        obtain⟨_,_,_,_,_,_,tN,_⟩:=aC.V.obj k _ hP aH
        exact tN
       obtain⟨hG,gS,Dd,tN,AO⟩:=Vq aC (ii:= .busy) (Dn:=jq) (jx EG) aH hP Un
       refine .head (aAz (run_beginRound gS rfl)) ?_
       exact qC _ _ _ _ _ _ _ _ _ _ _ _ v aB S ad _ di tmps bx ai (AO.state (.plain aD yw))
      ·simp at aB
  |seq aD aF=>exact ahA cI qC _ _ _ _ _ _ _ _ _ _ aC aD aF J
  |drawn aD bk b6 c5 eb=>exact ab1 cI qC aC aD bk b6 c5.dV c5 eb J
 |returning=>
  have aC:jf C bu bG bX fn ao bc aJ ro cs h j S ad w di ai:=⟨dm.V,dm.lk,dm.hW,dm.kg,dm.hV,dm.bot,dm.cs⟩
  exact azx (todo:=todo) cI qC aC dm.todo cz
 |panicking f9=>
  have aC:jf C bu bG bX fn ao bc aJ ro cs h j S ad w di ai:=⟨dm.V,dm.lk,dm.hW,dm.kg,dm.hV,dm.bot,dm.cs⟩
  exact ayt (todo:=todo) cI qC dm.mode aC dm.todo cz
def azU(cI:Env C bu dP d4):∀n,nS C bu bG bX (run C n):=by
 intro n
 induction n with
 |zero=>intro bS todo fn n ao bc aJ ro cs H h j v a;simp[run]at a
 |succ m qC=>exact ahK cI qC
def azR(cI:Env C bu dP d4){m f:Nat}{args:List D}(hN:ep d4 args)(a:tX C m f args=some v):
 Calls C.P f (b2 dP args).toArray bu λE b1=>(∃S,E= .returned (aQ S v))/\Below bu.heap.size bu b1:=by
 intro r2
 have bT:Ends C bu f r2 v (lone (Frame.enter C.P f (b2 dP args).toArray .normal) r2 bu):=
  NH (azU cI m) cI.base (Below.refl _ _) cI.hW (Zi _) .nil (λ_=>rfl) hN a
 obtain⟨S,b1,fr,I,J,am,aB⟩:=bT
 exact⟨.returned (aQ S v),b1,fr,⟨⟨S,rfl⟩,aB⟩,I,am,J⟩
end
end Go.bd

namespace Go.bd
noncomputable section
open Go.RowKit (Below)
abbrev xE:=Option (List D×Nat×List (Nat×ag))
def Ff(P:Program)(next:Nat->DataW Unit->Nat->xE):List Field->List (DataW Unit)->Nat->Nat->xE
 |[],[],_,n=>some ([],n,[])
 |f::jR,d::ds,off,n=>bY (Nat.beq f.offset off) (match next f.type d n with
  |some (k,aG,os)=>bY (Nat.beq k.length (P.cellsOf f.type)) (match Ff P next jR ds (off+k.length) aG with
   |some (c4,a1,tQ)=>some (k++c4,a1,os++tQ)
   |none=>none) none
  |none=>none) none
 |_,_,_,_=>none
def Ia(P:Program)(next:Nat->DataW Unit->Nat->xE)(E:Nat):List (DataW Unit)->Nat->xE
 |[],n=>some ([],n,[])
 |d::ds,n=>match next E d n with
  |some (k,aG,os)=>bY (Nat.beq k.length (P.cellsOf E)) (match Ia P next E ds aG with
   |some (c4,a1,tQ)=>some (k++c4,a1,os++tQ)
   |none=>none) none
  |none=>none
def LD:Lit->Option D
 | .bool b=>some (.bool b)
 | .int q n=>some (.int q n)
 | .string s=>some (.str (s.map (·.toNat)))
 |_=>none
def Vd(P:Program)(E:Nat)(k:List D):Option D:=match P.underlying E with
 |some (.struct _)=>some (.agg k)
 |some (.array _ _)=>some (.agg k)
 |some _=>(match k with|[v]=>some v|_=>none)
 |none=>none
def Qa(P:Program)(q:Nat):Bool:=match P.underlying q with|some .bool=>true|some (.int _)=>true|some .string=>true|_=>false
def LK(P:Program)(next:Nat->DataW Unit->Nat->xE)(E:Nat):List (Lit×DataW Unit)->Nat->Option (List (D×D)×Nat×List (Nat×ag))
 |[],n=>some ([],n,[])
 |(key,d)::bH,n=>match LD key,next E d n with
  |some H9,some (k,aG,os)=>(match Vd P E k,LK P next E bH aG with
   |some v,some (r,a1,tQ)=>some ((H9,v)::r,a1,os++tQ)
   |_,_=>none)
  |_,_=>none
def IS(k:List D):ag:= .cells (K.ofList k 0 .nil) k.length .own
def yD(P:Program):Nat->Nat->DataW Unit->Nat->xE
 |0,_,_,_=>none
 |m+1,t,d,n=>match P.underlying t,d with
  |some .bool, .lit (.bool b)=>some ([.bool b],n,[])
  |some (.int _), .lit (.int q i)=>some ([.int q i],n,[])
  |some .string, .lit (.string s)=>some ([.str (s.map (·.toNat))],n,[])
  |some (.pointer _), .nil=>some ([.cx],n,[])
  |some (.pointer E), .ptr d=>(match yD P m E d (n+1)with
   |some (k,aG,os)=>bY (Nat.beq k.length (P.cellsOf E)&&Nat.blt 0 k.length) (some ([.ptr n 0],aG,(n,IS k)::os)) none
   |none=>none)
  |some (.slice _), .nil=>some ([.aV],n,[])
  |some (.slice E), .slice bH ahF=>(match ahF with
   |[]=>(match Ia P (yD P m) E bH (n+1)with
    |some (k,aG,os)=>bY (Nat.blt 0 k.length) (some ([.slice n 0 bH.length bH.length],aG,(n,IS k)::os)) none
    |none=>none)
   |_::_=>none)
  |some (.struct jR), .agg ds=>(match Ff P (yD P m) jR.toList ds 0 n with
   |some (k,aG,os)=>bY (Nat.beq k.length (P.cellsOf t)) (some (k,aG,os)) none
   |none=>none)
  |some (.array _ E), .agg ds=>(match Ia P (yD P m) E ds n with
   |some (k,aG,os)=>bY (Nat.beq k.length (P.cellsOf t)) (some (k,aG,os)) none
   |none=>none)
  |some (.interface _), .nil=>some ([.nilIface],n,[])
  |some (.map _ _), .nil=>some ([.mi],n,[])
  |some (.map q E), .map bH=>bY (Qa P q) (match LK P (yD P m) E bH (n+1)with
   |some (r,aG,os)=>some ([.map n],aG,(n, .look r)::os)
   |none=>none) none
  |_,_=>none
section
variable{C:aL}{P:Program}{w:World}
def sU(w:World)(dr:List MemPlace):Prop:=∀b off,MemPlace.cell b off∈dr->∃c t,w.heap[b]? =some (.cells c t (0,0))
def Gg(U:ag):Prop:=∀C ad,xG C ad U
def Lays(C:aL)(w:World)(n:Nat)(cs:List Value)(r:List D×Nat×List (Nat×ag)):Prop:=
 n<=r.2.1/\(∀x∈r.2.2,n<=x.1/\x.1<r.2.1/\Gg x.2)/\∃f:Nat->mR,∀S ad,(∀b,n<=b->b<r.2.1->S b=f b/\ad b)->cs=b2 S r.1/\ep ad r.1/\∀x∈r.2.2,kk C S ad x.2 (S x.1) w
def Lays.plain{n:Nat}{cs:List Value}{k:List D}(a:∀S ad,cs=b2 S k/\ep ad k):Lays C w n cs (k,n,[]):=
 ⟨Zi _,Zs,λ_=>default,λS ad _=>⟨(a S ad).1,(a S ad).2,Zs⟩⟩
def Lays.app{n aG a1:Nat}{r2 R4:List Value}{ei c4:List D}{agN tQ:List (Nat×ag)}(I:Lays C w n r2 (ei,aG,agN))(J:Lays C w aG R4 (c4,a1,tQ)):Lays C w n (r2++R4) (ei++c4,a1,agN++tQ):=by
 obtain⟨ba,cj,eM,a3⟩:=I
 obtain⟨bQ,cf,eV,cM⟩:=J
 refine⟨ZB ba bQ, ?_,λb=>if b<aG then eM b else eV b, ?_⟩
 ·intro x af
  rcases Zz.1 af with a|a
  ·obtain⟨cG,cw,d9⟩:=cj x a
   exact⟨cG,ZP cw bQ,d9⟩
  ·obtain⟨cG,cw,d9⟩:=cf x a
   exact⟨ZB ba cG,cw,d9⟩
 ·intro S ad dL
  obtain⟨db,dx,gf⟩:=a3 S ad (λb I J=>by
   have AH:b<aG:=J
   have:=dL b I (ZP J bQ)
   simp only[Zu AH]at this
   exact this)
  obtain⟨cX,cF,eS⟩:=cM S ad (λb I J=>by
   have uF:¬b<aG:=zn.2 I
   have:=dL b (ZB ba I) J
   simp only[Zg uF]at this
   exact this)
  refine⟨by rw[D6, <-db, <-cX],Cn dx cF, ?_⟩
  intro x af
  rcases Zz.1 af with a|a
  ·exact gf x a
  ·exact eS x a
def Fj{α eD:Type}{f:α->Option eD}:∀{k:List α}{r:List eD},k.mapM f=some r->r.length=k.length/\∀(i:Nat) (F:α) (b:eD),k[i]? =some F->r[i]? =some b->f F=some b:=by
 intro k
 induction k with
 |nil=>intro r a;simp at a;subst a;simp
 |cons F k al=>
  intro r a
  simp only[Y5,Option.bind_eq_bind,Z0]at a
  obtain⟨b,aj,gb,V,a⟩:=a
  simp at a;subst a
  obtain⟨I,J⟩:=al V
  refine⟨by simp[I],λi fV dO aC jB=> ?_⟩
  cases i with
  |zero=>simp at aC jB;subst aC;subst jB;exact aj
  |succ i=>exact J i fV dO (by simpa using aC) (by simpa using jB)
def age{α eD:Type}{f:α->Option eD}{F:α}{k:List α}{r:List eD}(a:(F::k).mapM f=some r):∃b gb,r=b::gb/\f F=some b/\k.mapM f=some gb:=by
 simp only[Y5,Option.bind_eq_bind,Z0]at a
 obtain⟨b,aj,gb,V,a⟩:=a
 simp at a;subst a
 exact⟨b,gb,rfl,aj,V⟩
def sU.of{dr cN:List MemPlace}(a:sU w dr)(aF:∀x∈cN,x∈dr):sU w cN:=λb off aj=>a b off (aF _ aj)
def MZ(C:aL)(w:World)(next:Nat->DataW Unit->Nat->xE)(eE:TypeId->List Value->Option (DataW Unit×List MemPlace)):Prop:=
 ∀t d n r,next t d n=some r->∀cs dr,eE t cs=some (d,dr)->sU w dr->Lays C w n cs r
variable{next:Nat->DataW Unit->Nat->xE}{eE:TypeId->List Value->Option (DataW Unit×List MemPlace)}
def awC(gO:MZ C w next eE){cs:List Value}:∀(jR:List Field) (ds:List (DataW Unit)) (off n:Nat) (r:List D×Nat×List (Nat×ag)),Ff P next jR ds off n=some r->
 ∀cl:List (DataW Unit×List MemPlace),(jR.mapM λf=>eE f.type ((cs.drop f.offset).take (P.cellsOf f.type)))=some cl->cl.map (·.1)=ds->sU w (cl.flatMap (·.2))->Lays C w n ((cs.drop off).take r.1.length) r:=by
 intro jR
 induction jR with
 |nil=>
  intro ds off n r a cl _ _ _
  cases ds with
  |nil=>simp[Ff]at a;subst a;exact .plain λS ad=>⟨by simp[b2],trivial⟩
  |cons d ds=>simp[Ff]at a
 |cons f jR al=>
  intro ds off n r a cl af aH cr
  cases ds with
  |nil=>simp[Ff]at a
  |cons d ds=>
   simp only[Ff,e1]at a
   obtain⟨Uh,a⟩:=a
   have Uh:=Zl Uh
   split at a
   ·rename_i k aG os V
    simp only[e1]at a
    obtain⟨az,a⟩:=a
    have az:=Zl az
    split at a
    ·rename_i c4 a1 tQ hg
     simp at a;subst a
     obtain⟨e,oo,rfl,z,UL⟩:=age af
     simp at aH
     obtain⟨rfl,aH⟩:=aH
     have I:=gO _ _ _ _ V _ e.2 (by rw[z]) (cr.of (by intro x af;simp;exact .inl af))
     have J:=al ds (off+k.length) aG _ hg oo UL aH (cr.of (by intro x af;simp only[YM,Zz];exact .inr af))
     rw[Uh, <-az]at I
     have:=I.app J
     simp only[ZO]
     rw[List.take_add,zl]
     exact this
    ·simp at a
   ·simp at a
def acE(cs:List Value)(q:Nat):∀(m i0:Nat),(List.range' i0 m).flatMap (λi=>(cs.drop (i*q)).take q)=(cs.drop (i0*q)).take (m*q):=by
 intro m
 induction m with
 |zero=>intro i0;simp
 |succ m al=>
  intro i0
  rw[List.range'_succ,YM,al,Ye m 1 q,Nat.one_mul,Nat.add_comm (m*q) q,List.take_add,zl,Ye i0 1 q,Nat.one_mul]
def afT(gO:MZ C w next eE){E:Nat}{g:Nat->List Value}:∀(ds:List (DataW Unit)) (i0 n:Nat) (r:List D×Nat×List (Nat×ag)),Ia P next E ds n=some r->
 ∀cl:List (DataW Unit×List MemPlace),((List.range' i0 ds.length).mapM λi=>eE E (g i))=some cl->cl.map (·.1)=ds->sU w (cl.flatMap (·.2))->Lays C w n ((List.range' i0 ds.length).flatMap g) r/\r.1.length=ds.length*P.cellsOf E:=by
 intro ds
 induction ds with
 |nil=>
  intro i0 n r a cl _ _ _
  simp[Ia]at a;subst a
  exact⟨.plain λS ad=>⟨by simp[b2],trivial⟩,Zs⟩
 |cons d ds al=>
  intro i0 n r a cl af aH cr
  simp only[Ia]at a
  split at a
  ·rename_i k aG os V
   simp only[e1]at a
   obtain⟨az,a⟩:=a
   have az:=Zl az
   split at a
   ·rename_i c4 a1 tQ hg
    simp at a;subst a
    simp only[ZD,List.range'_succ]at af
    obtain⟨e,oo,rfl,z,UL⟩:=age af
    simp at aH
    obtain⟨rfl,aH⟩:=aH
    have I:=gO _ _ _ _ V _ e.2 (by rw[z]) (cr.of (by intro x af;simp;exact .inl af))
    obtain⟨J,am⟩:=al (i0+1) aG _ hg oo UL aH (cr.of (by intro x af;simp only[YM,Zz];exact .inr af))
    refine⟨?_, ?_⟩
    ·simp only[ZD,List.range'_succ,YM]
     exact I.app J
    ·simp only[ZO,ZD,am,az,Nat.succ_mul]
     omega
   ·simp at a
  ·simp at a
end
end
end Go.bd

namespace Go.bd
noncomputable section
open Go.RowKit (Below)
section
variable{C:aL}{P:Program}{w:World}
def RW{F:Addr}{v:Value}(a:w.cell? F=some v):F.spot=none/\∃cm ty vc,w.heap[F.block]? =some (.cells cm ty vc)/\cm[F.off]? =some v:=by
 unfold World.cell? at a
 split at a
 ·rename_i c ty vc aj
  split at a
  ·cases a
  ·rename_i aF
   refine⟨?_,c,ty,vc,aj,a⟩
   cases bL:F.spot with
   |none=>rfl
   |some x=>rw[bL]at aF;exact absurd rfl aF
 ·cases a
def RD(F:Addr)(W:Nat):(F.add W).block=F.block:=by unfold Addr.add;split<;>rfl
def aa1(F:Addr)(W:Nat):(F.add W).off=F.off+W:=by unfold Addr.add;split<;>simp_all
def RY{F:Addr}{q:Nat}{g:List Value}{cm:Array Value}{ty:TypeId}{vc:Nat×Nat}(aj:w.heap[F.block]? =some (.cells cm ty vc))(a:w.cells? 0 F q=some g):g=(cm.toList.drop F.off).take q/\g.length=q:=by
 unfold World.cells? at a
 rw[Zu (zo _)]at a
 obtain⟨I,J⟩:=Fj a
 rw[List.length_range]at I
 have key:∀W,W<q->cm[F.off+W]? =g[W]? :=by
  intro W bK
  have bU:g[W]? =some g[W]:=Ze Zo
  have:=J W W g[W] (by simp[bK]) bU
  obtain⟨_,Gw,QB,aEu,cG,cw⟩:=RW this
  rw[RD,aj]at cG
  cases cG
  rw[aa1]at cw
  rw[cw,bU]
 refine⟨YL λW=> ?_,I⟩
 by_cases bK:W<q
 ·rw[YW bK,YJ, <-key W bK];simp
 ·rw[ZQ Zo,ZQ (by simp;omega)]
def VI(k:List D):Gg (IS k):=λ_ _=>⟨λ_ _ _ a=>(by cases a),λ_ _ _ a=>(by cases a;exact Iz)⟩
def ax6(k:List (D×D)):Gg (.look k):=λ_ _=>⟨λ_ _ _ a=>(by cases a),λ_ _ _ a=>(by cases a)⟩
def V4{S:c9}{ad:Nat->Prop}{k:List D}{pl:mR}{cm:Array Value}{ty:TypeId}(aj:w.heap[pl.cH]? =some (.cells cm ty (0,0)))(az:(cm.toList.drop pl.ec).take k.length=b2 S k)(g:ep ad k)(cr:0<k.length):kk C S ad (IS k) pl w:=by
 have fI:k.length<=cm.size-pl.ec:=by
  have:=congrArg List.length az
  rw[j4]at this
  simp at this
  omega
 refine⟨cm,ty,0,0,aj,rfl,Zo,λi v bD=> ?_⟩
 rw[k4]at bD
 have aN:i<k.length:=(Zc.1 bD).1
 refine⟨?_,Co g bD⟩
 have:=congrArg (λx:List Value=>x[i]?) az
 simp only[YW aN,YJ,ZR,Cb,bD,ZU]at this
 exact this
def Lays.block{n aG:Nat}{os:List (Nat×ag)}{cs:List Value}{k:List D}{ac:D}{x:Value}{cY:ag}(pl:mR)(a:Lays C w (n+1) cs (k,aG,os))(bj:Gg cY)
 (hP:∀S ad,S n=pl->ad n->cs=b2 S k->ep ad k->kk C S ad cY pl w/\x=aQ S ac/\ck ad ac):Lays C w n [x] ([ac],aG,(n,cY)::os):=by
 obtain⟨ba,cj,f,a3⟩:=a
 have ba:n+1<=aG:=ba
 refine⟨by simp only;omega, ?_,λb=>if b=n then pl else f b, ?_⟩
 ·intro e z
  rcases Zr.1 z with rfl|z
  ·exact⟨Zi _,by simp only;omega,bj⟩
  ·obtain⟨cG,cw,d9⟩:=cj e z
   exact⟨Zo,cw,d9⟩
 ·intro S ad dL
  have aE:=dL n (Zi _) (by simp only;omega)
  simp only[ZC]at aE
  obtain⟨db,dx,gf⟩:=a3 S ad (λb I J=>by
   have:=dL b Zo J
   have c8:b≠n:=Zo
   simp only[Zg c8]at this
   exact this)
  obtain⟨eL,e7,hE⟩:=hP S ad aE.1 aE.2 db dx
  refine⟨by simp[b2,e7],⟨hE,trivial⟩, ?_⟩
  intro e z
  rcases Zr.1 z with rfl|z
  ·simp only[aE.1];exact eL
  ·exact gf e z
def agY{α eD:Type}{f:α->eD}{F m:List eD}(a:F.Perm m):∀k:List α,k.map f=F->∃bV:List α,bV.Perm k/\bV.map f=m:=by
 induction a with
 |nil=>intro k a;simp at a;subst a;exact⟨[], .refl _,rfl⟩
 |cons x _ al=>
  intro k a
  cases k with
  |nil=>simp at a
  |cons e k=>
   simp at a
   obtain⟨bV,I,J⟩:=al k a.2
   exact⟨e::bV,I.cons e,by simp[a.1,J]⟩
 |swap x e fT=>
  intro k a
  cases k with
  |nil=>simp at a
  |cons p k=>
   cases k with
   |nil=>simp at a
   |cons ah k=>
    simp at a
    obtain⟨rfl,rfl,rfl⟩:=a
    exact⟨ah::p::k, .swap _ _ _,Zs⟩
 |trans _ _ UO Lt=>
  intro k a
  obtain⟨ei,I,J⟩:=UO k a
  obtain⟨c4,am,aB⟩:=Lt ei J
  exact⟨c4,am.trans I,aB⟩
def insert_perm{sW:Type}(x:Lit×DataW sW):∀k,(DataW.insert x k).Perm (x::k):=by
 intro k
 induction k with
 |nil=>exact .refl _
 |cons e k al=>
  simp only[DataW.insert]
  split
  ·exact .refl _
  ·exact(al.cons e).trans (.swap _ _ _)
def sorted_perm{sW:Type}:∀k:List (Lit×DataW sW),(k.foldr DataW.insert []).Perm k:=by
 intro k
 induction k with
 |nil=>exact .refl _
 |cons x k al=>exact(insert_perm x _).trans (al.cons x)
def awh{q:Nat}{v:Value}{key:Lit}{H9:D}(ay:Qa P q=true)(a:keyOf P q v=some key)(aD:LD key=some H9)(S:c9)(ad:Nat->Prop):v=aQ S H9/\ck ad H9:=by
 unfold Qa at ay
 unfold keyOf at a
 have E:mapKey P q v=some key:=by
  cases bb:P.underlying q with
  |none=>rw[bb]at ay;cases ay
  |some ac=>rw[bb]at a ay;cases ac<;>first|exact a|cases ay
 unfold mapKey at E
 split at E
 ·simp at E;subst E;simp[LD]at aD;subst aD;exact⟨rfl,trivial⟩
 ·split at E
  ·rename_i ah VU n _ bL
   simp at E;subst E;simp[LD]at aD;subst aD
   exact⟨by rw[bL.1];rfl,trivial⟩
  ·cases E
 ·split at E
  ·rename_i s _ _
   simp at E;subst E;simp[LD]at aD;subst aD
   refine⟨by simp only[aQ];rw[RR], ?_⟩
   intro x af
   simp at af
   obtain⟨b,_,rfl⟩:=af
   exact b.toNat_lt
  ·cases E
 ·cases E
def aBM{E:Nat}{v:Value}{k:List D}{ac:D}{S:c9}{ad:Nat->Prop}(ch:v.formed P E=true)(bb:Vd P E k=some ac)(aA:v.cells.toList=b2 S k)(g:ep ad k):v=aQ S ac/\ck ad ac:=by
 unfold Vd at bb
 unfold Value.formed at ch
 cases aH:P.underlying E with
 |none=>rw[aH]at bb;cases bb
 |some Mq=>
  rw[aH]at bb ch
  have agg:(∃cs,v= .agg cs)->ac= .agg k->v=aQ S ac/\ck ad ac:=by
   rintro⟨cs,rfl⟩ rfl
   refine⟨?_,g⟩
   simp only[Value.cells]at aA
   simp only[aQ, <-aA]
  have aAh:v.cells= #[v]->(∃x,k=[x]/\ac=x)->v=aQ S ac/\ck ad ac:=by
   rintro I ⟨x,rfl,rfl⟩
   rw[I]at aA
   simp[b2]at aA
   exact⟨aA,g.1⟩
  cases v<;>cases Mq<;>simp only at ch bb<;>first
   |(cases ch;done)
   |(simp at bb;exact agg ⟨_,rfl⟩ bb.symm)
   |(
     split at bb
     ·simp at bb;exact aAh rfl ⟨_,rfl,bb.symm⟩
     ·cases bb)
end
end
end Go.bd

namespace Go.bd
noncomputable section
open Go.RowKit (Below)
section
variable{C:aL}{P:Program}{w:World}
variable{next:Nat->DataW Unit->Nat->xE}{eE:TypeId->List Value->Option (DataW Unit×List MemPlace)}
def awB(gO:MZ C w next eE){q E:Nat}(ay:Qa P q=true):∀(bH:List (Lit×DataW Unit)) (n:Nat) (r:List (D×D)×Nat×List (Nat×ag)),LK P next E bH n=some r->
 ∀ij:List (MapEntry×((Lit×DataW Unit)×List MemPlace)),ij.map (·.2.1)=bH->(∀bz∈ij,keyOf P q bz.1.key=some bz.2.1.1/\bz.1.val.formed P E=true/\eE E bz.1.val.cells.toList=some (bz.2.1.2,bz.2.2)/\sU w bz.2.2)->
 n<=r.2.1/\(∀x∈r.2.2,n<=x.1/\x.1<r.2.1/\Gg x.2)/\r.1.length=ij.length/\∃f:Nat->mR,∀S ad,(∀b,n<=b->b<r.2.1->S b=f b/\ad b)->
  ij.map (·.1)=(List.zipWith (λ(p:D×D) (bz:MapEntry×((Lit×DataW Unit)×List MemPlace))=>(p.1,p.2,bz.1.born)) r.1 ij).map (l7 S)/\(∀p∈r.1,ck ad p.1/\ck ad p.2)/\∀x∈r.2.2,kk C S ad x.2 (S x.1) w:=by
 intro bH
 induction bH with
 |nil=>
  intro n r a ij Hi _
  simp[LK]at a;subst a
  simp at Hi;subst Hi
  exact⟨Zi _,Zs,rfl,λ_=>default,λS ad _=>⟨rfl,Zs,Zs⟩⟩
 |cons F bH al=>
  obtain⟨key,d⟩:=F
  intro n r a ij Hi j7
  simp only[LK]at a
  split at a
  ·rename_i H9 k aG os atq aE
   split at a
   ·rename_i v jI a1 tQ bD V
    simp at a;subst a
    cases ij with
    |nil=>simp at Hi
    |cons bz ij=>
     simp at Hi
     obtain⟨HT,HU⟩:=Hi
     obtain⟨b3,b7,cS,eh⟩:=j7 bz (Zq ..)
     rw[HT]at b3 cS
     obtain⟨ba,cj,eM,a3⟩:=gO _ _ _ _ aE _ _ cS eh
     obtain⟨bQ,cf,bM,eV,cM⟩:=al aG _ V ij HU (λbz cr=>j7 bz (Zt _ cr))
     have ba:n<=aG:=ba
     have bQ:aG<=a1:=bQ
     refine⟨ZB ba bQ, ?_,by simpa using bM,λb=>if b<aG then eM b else eV b, ?_⟩
     ·intro x af
      rcases Zz.1 af with ah|ah
      ·obtain⟨cG,cw,d9⟩:=cj x ah
       exact⟨cG,ZP cw bQ,d9⟩
      ·obtain⟨cG,cw,d9⟩:=cf x ah
       exact⟨ZB ba cG,cw,d9⟩
     ·intro S ad dL
      obtain⟨db,dx,gf⟩:=a3 S ad (λb I J=>by
       have AH:b<aG:=J
       have:=dL b I (ZP J bQ)
       simp only[Zu AH]at this
       exact this)
      obtain⟨cX,cF,eS⟩:=cM S ad (λb I J=>by
       have uF:¬b<aG:=zn.2 I
       have:=dL b (ZB ba I) J
       simp only[Zg uF]at this
       exact this)
      obtain⟨bR,cq⟩:=awh ay b3 atq S ad
      obtain⟨Mv,ah8⟩:=aBM b7 bD db dx
      refine⟨?_, ?_, ?_⟩
      ·simp only[ZL,List.zipWith_cons_cons,cX]
       congr 1
       obtain⟨⟨aEZ,aE0,aEY⟩,_⟩:=bz
       simp only[l7]at bR Mv ⊢
       rw[<-bR, <-Mv]
      ·intro p ay
       rcases Zr.1 ay with rfl|ay
       ·exact⟨cq,ah8⟩
       ·exact cF p ay
      ·intro x af
       rcases Zz.1 af with ah|ah
       ·exact gf x ah
       ·exact eS x ah
   ·simp at a
  ·simp at a
def aiA{ij:List (MapEntry×((Lit×DataW Unit)×List MemPlace))}:∀(r:List (D×D)) (ij:List (MapEntry×((Lit×DataW Unit)×List MemPlace))),r.length=ij.length->
 (List.zipWith (λ(p:D×D) (bz:MapEntry×((Lit×DataW Unit)×List MemPlace))=>(p.1,p.2,bz.1.born)) r ij).map (λE=>(E.1,E.2.1))=r:=by
 intro r
 induction r with
 |nil=>intro ij _;simp
 |cons p r al=>
  intro ij a
  cases ij with
  |nil=>simp at a
  |cons bz ij=>simp[al ij (by simpa using a)]
def axe{α eD:Type}{f g:α->Option eD}:∀{k:List α},(∀x∈k,f x=g x)->k.mapM f=k.mapM g:=by
 intro k
 induction k with
 |nil=>intro _;rfl
 |cons F k al=>intro a;simp[Y5,a F Zs,al λx af=>a x (by simp[af])]
def ap6{α eD:Type}{f g:α->List eD}:∀{k:List α},(∀x∈k,f x=g x)->k.flatMap f=k.flatMap g:=by
 intro k
 induction k with
 |nil=>intro _;rfl
 |cons F k al=>intro a;simp[YM,a F Zs,al λx af=>a x (by simp[af])]
end
end
end Go.bd

namespace Go.bd
noncomputable section
open Go.RowKit (Below)
section
variable{C:aL}{P:Program}{w:World}
abbrev rd(P:Program)(w:World)(ah:Nat):TypeId->List Value->Option (DataW Unit×List MemPlace):=DataW.trod (λ_=>()) P w 0 (λ_=>true) false ah
def Qk{F:Addr}{q:Nat}(a:0<q):MemPlace.cell F.block F.off∈MemPlace.row F q:=by
 unfold MemPlace.row
 exact ZE.2 ⟨0,by simp[a],Zs⟩
def afV:∀(m ah:Nat),MZ C w (yD P m) (rd P w ah):=by
 intro m
 induction m with
 |zero=>intro ah t d n r a;simp[yD]at a
 |succ m al=>
  intro ah t d n r a cs dr V cr
  cases ah with
  |zero=>simp[rd,DataW.trod]at V
  |succ ah=>
   have Lu:=al ah
   simp only[yD]at a
   split at a
   ·
    rename_i b bb
    simp at a;subst a
    match cs with
    |[]=>simp[rd,DataW.trod,bb]at V
    |_::_::_=>simp[rd,DataW.trod,bb]at V
    |[c]=>
     cases c<;>simp[rd,DataW.trod,bb]at V
     obtain⟨rfl,rfl⟩:=V
     exact .plain λS ad=>⟨rfl,trivial,trivial⟩
   ·
    rename_i e5 q i bb
    simp at a;subst a
    match cs with
    |[]=>simp[rd,DataW.trod,bb]at V
    |_::_::_=>simp[rd,DataW.trod,bb]at V
    |[c]=>
     cases c<;>simp[rd,DataW.trod,bb]at V
     obtain⟨⟨rfl,_⟩,⟨rfl,rfl⟩,rfl⟩:=V
     exact .plain λS ad=>⟨rfl,trivial,trivial⟩
   ·
    rename_i s bb
    simp at a;subst a
    match cs with
    |[]=>simp[rd,DataW.trod,bb]at V
    |_::_::_=>simp[rd,DataW.trod,bb]at V
    |[c]=>
     cases c<;>simp[rd,DataW.trod,bb]at V
     obtain⟨_,rfl,rfl⟩:=V
     refine .plain λS ad=>⟨by simp only[b2,aQ];rw[RR], ?_,trivial⟩
     intro x af
     simp at af
     obtain⟨b,_,rfl⟩:=af
     exact b.toNat_lt
   ·
    rename_i E bb
    simp at a;subst a
    match cs with
    |[]=>simp[rd,DataW.trod,bb]at V
    |_::_::_=>simp[rd,DataW.trod,bb]at V
    |[c]=>
     cases c<;>simp[rd,DataW.trod,bb]at V
     rename_i F
     cases F with
     |none=>exact .plain λS ad=>⟨rfl,trivial,trivial⟩
     |some F=>simp[Z0]at V
   ·
    rename_i E d bb
    split at a
    ·rename_i k aG os az
     simp only[e1,Zp,Zf]at a
     obtain⟨⟨I,J⟩,rfl⟩:=a
     have I:=Zl I
     have J:=lG J
     match cs with
     |[]=>simp[rd,DataW.trod,bb]at V
     |_::_::_=>simp[rd,DataW.trod,bb]at V
     |[c]=>
      cases c<;>simp[rd,DataW.trod,bb]at V
      rename_i U
      cases U with
      |none=>simp at V
      |some F=>
       simp only[Z0,Function.comp,Yp,YP,DataW.ptr.injEq]at V
       obtain⟨dc,aA,x,af,rfl,rfl⟩:=V
       obtain⟨cm,ty,aj⟩:=cr F.block F.off (Zz.2 (.inl (Qk Zo)))
       obtain⟨b3,b7⟩:=RY aj aA
       have E2:F.spot=none:=by
        unfold World.cells? at aA
        rw[Zu (zo _)]at aA
        obtain⟨bR,cq⟩:=Fj aA
        have:=cq 0 0 dc[0] (by rw[List.getElem?_range Zo]) (Ze Zo)
        exact(RW (show w.cell? F=some _ from this)).1
       have A6:=Lu _ _ _ _ az dc x.2 af (cr.of λe z=>Zz.2 (.inr z))
       refine Lays.block ⟨F.block,F.off,0⟩ A6 (VI k) λS ad dL gF ia bU=>⟨V4 aj ?_ bU J, ?_,gF⟩
       ·simp only
        rw[I, <-b3,ia]
       ·simp only[aQ,dL]
        obtain⟨qX,anj,cv⟩:=F
        have E2:cv=none:=E2
        subst E2
        rfl
    ·simp at a
   ·
    rename_i E bb
    simp at a;subst a
    match cs with
    |[]=>simp[rd,DataW.trod,bb]at V
    |_::_::_=>simp[rd,DataW.trod,bb]at V
    |[c]=>
     cases c<;>(try(simp[rd,DataW.trod,bb]at V;done))
     rename_i F len cap
     cases F with
     |none=>
      simp only[rd,DataW.trod,bb]at V
      split at V<;>simp_all
      exact .plain λS ad=>⟨rfl,trivial,trivial⟩
     |some F=>
      simp[rd,DataW.trod,bb,Z0]at V
   ·
    rename_i E bH ahF bb
    split at a
    ·split at a
     ·rename_i k aG os az
      simp only[e1,Zf]at a
      obtain⟨J,rfl⟩:=a
      have J:=lG J
      match cs with
      |[]=>simp[rd,DataW.trod,bb]at V
      |_::_::_=>simp[rd,DataW.trod,bb]at V
      |[c]=>
       cases c<;>(try(simp[rd,DataW.trod,bb]at V;done))
       rename_i U len cap
       cases U with
       |none=>
        simp only[rd,DataW.trod,bb]at V
        split at V<;>simp_all
       |some F=>
        simp only[rd,DataW.trod,bb]at V
        split at V
        ·rename_i mY
         simp only[Z0,Yp,YP,DataW.slice.injEq,ZC]at V
         obtain⟨Sk,bs,rest,rq,⟨bF,cn⟩,rfl⟩:=V
         have auv:rest=[]:=by simpa using cn
         subst auv
         obtain⟨bR,_⟩:=Fj rq
         obtain⟨cq,cP⟩:=Fj bs
         simp at bR cq
         have iy:cap=len:=Zo
         subst iy
         have fI:bH.length=cap:=by rw[<-bF];simp[cq]
         simp only[ZT,ZW,Yx]at cr
         obtain⟨jr,k9⟩:=afT (C:=C) (w:=w) Lu (E:=E) (g:=λi=>(w.cells? 0 (F.add (i*P.cellsOf E)) (P.cellsOf E)).getD []) bH 0 (n+1) _ az Sk
          (by
           rw[fI, <-List.range_eq_range']
           rw[<-bs]
           have j7:∀i∈List.range cap,(w.cells? 0 (F.add (i*P.cellsOf E)) (P.cellsOf E)).isSome=true:=by
            intro i aN
            have lu:i<cap:=by simpa using aN
            have:=cP i i Sk[i] (by simp[lu]) (Ze Zo)
            simp only[Z0]at this
            obtain⟨d3,cG,_⟩:=this
            rw[cG];rfl
           exact axe λi aN=>by
            have:=j7 i aN
            cases bL:w.cells? 0 (F.add (i*P.cellsOf E)) (P.cellsOf E)with
            |none=>rw[bL]at this;cases this
            |some d3=>simp)
          bF (cr.of λe z=>Zz.2 (.inr z))
         simp only at k9
         have HC:0<cap*P.cellsOf E:=by rw[<-fI, <-k9];exact J
         obtain⟨cm,ty,aj⟩:=cr F.block F.off (Zz.2 (.inl (Qk (by rw[cq];exact HC))))
         have aD:0<P.cellsOf E:=Nat.pos_of_mul_pos_left HC
         have yh:0<cap:=Nat.pos_of_mul_pos_right HC
         have Y:∀i,i<cap->∃d3,w.cells? 0 (F.add (i*P.cellsOf E)) (P.cellsOf E)=some d3:=by
          intro i lu
          have:=cP i i Sk[i] (by simp[lu]) (Ze Zo)
          simp only[Z0]at this
          obtain⟨d3,cG,_⟩:=this
          exact⟨d3,cG⟩
         have E2:F.spot=none:=by
          obtain⟨d3,cG⟩:=Y 0 yh
          have pF:=(RY (F:=F.add (0*P.cellsOf E)) (by rw[RD];exact aj) cG).2
          unfold World.cells? at cG
          rw[Zu (zo _)]at cG
          obtain⟨_,cq⟩:=Fj cG
          have:=cq 0 0 d3[0] (by rw[List.getElem?_range Zo]) (Ze Zo)
          have aS:(F.add (0*P.cellsOf E)).add 0=F:=by simp[Addr.add]
          rw[aS]at this
          exact(RW this).1
         have as4:(List.range' 0 bH.length).flatMap (λi=>(w.cells? 0 (F.add (i*P.cellsOf E)) (P.cellsOf E)).getD [])=(cm.toList.drop F.off).take (cap*P.cellsOf E):=by
          rw[fI]
          have:∀i∈List.range' 0 cap,(w.cells? 0 (F.add (i*P.cellsOf E)) (P.cellsOf E)).getD []=((cm.toList.drop F.off).drop (i*P.cellsOf E)).take (P.cellsOf E):=by
           intro i aN
           have lu:i<cap:=by simpa using aN
           obtain⟨d3,cG⟩:=Y i lu
           obtain⟨b3,_⟩:=RY (F:=F.add (i*P.cellsOf E)) (by rw[RD];exact aj) cG
           rw[cG,YQ,b3,aa1,zl]
          rw[ap6 this,acE,ze,ZZ]
         rw[as4]at jr
         refine Lays.block ⟨F.block,F.off,0⟩ jr (VI k) λS ad dL gF ia bU=>⟨V4 aj ?_ bU J, ?_,gF⟩
         ·simp only
          rw[k9,fI];exact ia
         ·simp only[aQ,dL,fI]
          obtain⟨qX,anj,cv⟩:=F
          have E2:cv=none:=E2
          subst E2
          rfl
        ·simp at V
     ·simp at a
    ·simp at a
   ·
    rename_i jR ds bb
    split at a
    ·rename_i k aG os az
     simp only[e1,Zf]at a
     obtain⟨I,rfl⟩:=a
     have I:=Zl I
     have dm:rd P w (ah+1) t cs=(if cs.length=P.cellsOf t then(jR.toList.mapM λf=>rd P w ah f.type ((cs.drop f.offset).take (P.cellsOf f.type))).map λcl=>(.agg (cl.map (·.1)),cl.flatMap (·.2))else none):=by
      simp only[rd]
      rw[DataW.trod_step]
      unfold DataW.trodStep
      rw[bb]
     rw[dm]at V
     split at V
     case isFalse=>cases V
     rename_i fI
     simp only[Yp,YP,DataW.agg.injEq]at V
     obtain⟨cl,af,aH,rfl⟩:=V
     have:=awC (C:=C) (w:=w) Lu (cs:=cs) jR.toList ds 0 n _ az cl af aH cr
     simp only[ZZ]at this
     rw[Zx Zo]at this
     exact this
    ·simp at a
   ·
    rename_i q E ds bb
    split at a
    ·rename_i k aG os az
     simp only[e1,Zf]at a
     obtain⟨I,rfl⟩:=a
     have I:=Zl I
     have dm:rd P w (ah+1) t cs=(if cs.length=P.cellsOf t then((List.range q).mapM λi=>rd P w ah E ((cs.drop (i*P.cellsOf E)).take (P.cellsOf E))).map λcl=>(.agg (cl.map (·.1)),cl.flatMap (·.2))else none):=by
      simp only[rd]
      rw[DataW.trod_step]
      unfold DataW.trodStep
      rw[bb]
     rw[dm]at V
     split at V
     case isFalse=>cases V
     rename_i fI
     simp only[Yp,YP,DataW.agg.injEq]at V
     obtain⟨cl,af,aH,rfl⟩:=V
     have io:ds.length=q:=by
      have:=(Fj af).1
      rw[<-aH];simpa using this
     obtain⟨jr,k9⟩:=afT (C:=C) (w:=w) Lu (E:=E) (g:=λi=>(cs.drop (i*P.cellsOf E)).take (P.cellsOf E)) ds 0 n _ az cl (by rw[io, <-List.range_eq_range'];exact af) aH cr
     rw[acE,ze,ZZ,Zx (by simp only at k9;omega)]at jr
     exact jr
    ·simp at a
   ·
    rename_i E bb
    simp at a;subst a
    match cs with
    |[]=>simp[rd,DataW.trod,bb]at V
    |_::_::_=>simp[rd,DataW.trod,bb]at V
    |[c]=>
     cases c<;>simp[rd,DataW.trod,bb]at V
     all_goals first
      |exact .plain λS ad=>⟨rfl,trivial,trivial⟩
      |(split at V<;>simp_all)
   ·
    rename_i q E bb
    simp at a;subst a
    match cs with
    |[]=>simp[rd,DataW.trod,bb]at V
    |_::_::_=>simp[rd,DataW.trod,bb]at V
    |[c]=>
     cases c<;>simp[rd,DataW.trod,bb]at V
     rename_i b
     cases b with
     |none=>exact .plain λS ad=>⟨rfl,trivial,trivial⟩
     |some b=>
      simp only at V
      split at V
      ·split at V
       ·simp only[Z0]at V
        obtain⟨dp,_,am⟩:=V
        split at am<;>simp at am
       ·cases V
      ·cases V
   ·
    rename_i q E bH bb
    simp only[e1]at a
    obtain⟨ay,a⟩:=a
    split at a
    ·rename_i eL aG os az
     simp at a;subst a
     match cs with
     |[]=>simp[rd,DataW.trod,bb]at V
     |_::_::_=>simp[rd,DataW.trod,bb]at V
     |[c]=>
      cases c<;>(try(simp[rd,DataW.trod,bb]at V;done))
      rename_i b
      cases b with
      |none=>simp[rd,DataW.trod,bb]at V
      |some b=>
       simp only[rd,DataW.trod,bb]at V
       split at V
       ·rename_i J6 eR aj
        split at V
        ·simp only[Z0]at V
         obtain⟨dp,bT,V⟩:=V
         split at V
         ·simp only[Zf,YP,DataW.map.injEq]at V
          obtain⟨aF,rfl⟩:=V
          obtain⟨bR,cq⟩:=Fj bT
          have aDj:dp.length=J6.toList.length:=bR
          have asg:(J6.toList.zip dp).map (·.2.1)=dp.map (·.1):=by
           have Si:(λx:MapEntry×((Lit×DataW Unit)×List MemPlace)=>x.2.1)=(λe:(Lit×DataW Unit)×List MemPlace=>e.1)∘Prod.snd:=rfl
           rw[Si, <-Yy,List.map_snd_zip Zo]
          obtain⟨ij,adE,adF⟩:=agY (sorted_perm (dp.map (·.1))).symm (J6.toList.zip dp) asg
          rw[aF]at adF
          have j7:∀bz∈ij,keyOf P q bz.1.key=some bz.2.1.1/\bz.1.val.formed P E=true/\rd P w ah E bz.1.val.cells.toList=some (bz.2.1.2,bz.2.2)/\sU w bz.2.2:=by
           intro bz HT
           have HU:=adE.mem_iff.1 HT
           obtain⟨i,aN⟩:=Z1.1 HU
           rw[List.getElem?_zip_eq_some]at aN
           have:=cq i _ _ aN.1 aN.2
           simp only[Z0]at this
           obtain⟨key,cG,cw⟩:=this
           split at cw
           ·rename_i ch
            simp only[Yp]at cw
            obtain⟨e,d9,fQ⟩:=cw
            rw[<-fQ]
            refine⟨cG,ch,d9,cr.of λp ay=> ?_⟩
            refine Zt _ (List.mem_flatMap.2 ⟨bz.2,Zj aN.2, ?_⟩)
            rw[<-fQ];exact ay
           ·cases cw
          obtain⟨ba,cj,a0,f,a3⟩:=awB (C:=C) (w:=w) Lu ay bH (n+1) _ az ij adF j7
          have ba:n+1<=aG:=ba
          refine⟨by simp only;omega, ?_,λx=>if x=n then⟨b,0,0⟩else f x, ?_⟩
          ·intro e z
           rcases Zr.1 z with rfl|z
           ·exact⟨Zi _,by simp only;omega,ax6 _⟩
           ·obtain⟨cG,cw,d9⟩:=cj e z
            exact⟨Zo,cw,d9⟩
          ·intro S ad dL
           have aE:=dL n (Zi _) (by simp only;omega)
           simp only[ZC]at aE
           obtain⟨db,dx,gf⟩:=a3 S ad (λx I J=>by
            have:=dL x Zo J
            have c8:x≠n:=Zo
            simp only[Zg c8]at this
            exact this)
           refine⟨by simp[b2,aQ,aE.1],⟨aE.2,trivial⟩, ?_⟩
           intro e z
           rcases Zr.1 z with rfl|z
           ·simp only[aE.1]
            have aeP:(ij.map (·.1)).Perm J6.toList:=by
             have:=adE.map (·.1)
             rwa[List.map_fst_zip Zo]at this
            rw[db]at aeP
            obtain⟨j5,fG,hD⟩:=agY aeP _ rfl
            refine⟨J6,eR,j5,aj,hD.symm, ?_, ?_⟩
            ·have:=fG.map (λE=>(E.1,E.2.1))
             rwa[aiA (ij:=ij) _ ij a0]at this
            ·intro x af
             have pK:=fG.mem_iff.1 af
             have bp:(x.1,x.2.1)∈eL:=by
              have:=List.mem_map_of_mem (f:=λE:D×D×Nat=>(E.1,E.2.1)) pK
              rwa[aiA (ij:=ij) _ ij a0]at this
             exact dx _ bp
           ·exact gf e z
         ·simp at V
        ·simp at V
       ·simp at V
    ·simp at a
   ·simp at a
end
end
end Go.bd

namespace Go.bd
noncomputable section
open Go.RowKit (Below)
def nK:List (Nat×ag)->K ag->K ag
 |[],H=>H
 |(b,U)::k,H=>nK k (H.set b (some U))
section
variable{C:aL}{P:Program}{w:World}
def Wc(b:Nat)(U:ag):∀(k:List (Nat×ag)) (H:K ag),(nK k H).get b=some U->(b,U)∈k\/H.get b=some U:=by
 intro k
 induction k with
 |nil=>intro H a;exact .inr a
 |cons x k al=>
  obtain⟨dO,o'⟩:=x
  intro H a
  rcases al _ a with a|a
  ·exact .inl (Zt _ a)
  ·rw[K.kI]at a
   by_cases E:dO=b
   ·subst E;simp at a;subst a;exact .inl (Zq ..)
   ·simp[E]at a;exact .inr a
def aib{nm:String}{g:Nat}{cs:Array Value}(bU:P.globalNamed nm=some g)(a:w.var? P nm=some cs):∃ty vc,w.heap[g]? =some (.cells cs ty vc):=by
 unfold World.var? at a
 rw[bU]at a
 simp only[ZF]at a
 split at a
 ·rename_i c ty vc aj
  simp at a;subst a
  exact⟨ty,vc,aj⟩
 ·cases a
def W5(C:aL)(w:World)(p0 n:Nat)(r:Nat×List (Nat×ag)):Prop:=
 n<=r.1/\(∀x∈r.2,(x.1<p0\/n<=x.1)/\(x.1<p0\/x.1<r.1)/\Gg x.2)/\
  ∃f:Nat->mR,∀S ad,(∀b,n<=b->b<r.1->S b=f b/\ad b)->(∀g,g<p0->S g=⟨g,0,0⟩/\ad g)->∀x∈r.2,kk C S ad x.2 (S x.1) w
end
end
end Go.bd

namespace Go.bd
noncomputable section
open Go.RowKit (Below)
def Ae:List Nat->Bool
 |[]=>true
 |x::s=>Nat.blt x 256&&Ae s
def Be:List Nat->Nat->Nat->Int
 |[],_,_=> .negSucc 0
 |x::s,c,i=>bY (Nat.beq x c) (.ofNat i) (Be s c (i+1))
def yJ(ce:Nat)(f:Nat)(args:List D):Option D:=
 bY (Nat.beq f ce) (match args with
  |[.str s, .int .u8 (.ofNat c)]=>bY (Ae s&&Nat.blt c 256) (some (.int .i64 (Be s c 0))) none
  |_=>none) none
section
variable{C:aL}{P:Program}{w:World}
def RF:∀{s:List Nat},Ae s=true->∀x∈s,x<256:=by
 intro s
 induction s with
 |nil=>intro _ x a;cases a
 |cons F s al=>
  intro a x af
  simp only[Ae,Zp]at a
  rcases Zr.1 af with rfl|af
  ·exact lG a.1
  ·exact al a.2 x af
def avP:∀(s:List Nat) (c i:Nat),(∀x∈s,x<256)->c<256->Be s c i=(if Lib.indexByte (s.map UInt8.ofNat) (UInt8.ofNat c)= -1 then -1 else Lib.indexByte (s.map UInt8.ofNat) (UInt8.ofNat c)+i):=by
 intro s
 induction s with
 |nil=>intro c i _ _;simp[Be,Lib.indexByte]
 |cons F s al=>
  intro c i aF aA
  have aC:=aF F (Zq ..)
  have aN:=al c (i+1) (λx af=>aF x (Zt _ af)) aA
  simp only[Be,ZL,Lib.indexByte,hK]
  by_cases E:F=c
  ·subst E;simp
  ·have c8:(UInt8.ofNat F==UInt8.ofNat c)=false:=by
    rw[beq_eq_false_iff_ne]
    intro ah
    have:=congrArg UInt8.toNat ah
    simp at this
    rw[YH aC,YH aA]at this
    exact E this
   rw[Zg E,aN,c8]
   have CA:=Lib.indexByte_ge (s.map UInt8.ofNat) (UInt8.ofNat c)
   by_cases ah:Lib.indexByte (s.map UInt8.ofNat) (UInt8.ofNat c)= -1
   ·simp[ah]
   ·simp only[ah,ZA]
    have:¬(Lib.indexByte (s.map UInt8.ofNat) (UInt8.ofNat c)+1= -1):=Zo
    simp[ah,this]
    omega
def agJ{ce f:Nat}{args:List D}{v:D}(a:yJ ce f args=some v):f=ce/\∃s c,args=[.str s, .int .u8 (.ofNat c)]/\v= .int .i64 (Be s c 0)/\(∀x∈s,x<256)/\c<256:=by
 unfold yJ at a
 rw[hK]at a
 split at a
 ·rename_i E
  split at a
  ·rename_i s c
   simp only[e1,Zp,Zf]at a
   exact⟨E,s,c,rfl,a.2.symm,RF a.1.1,lG a.1.2⟩
  ·simp at a
 ·simp at a
def ayl{ce:Nat}{fn:Func}(ch:P.funcs[ce]? =some fn)(aE:(fn.name== "runtime.NumGoroutine")=false)(aj:fn.body=none)(I:Extern.findNext fn=none)(J:Extern.find fn=some Extern.BytealgIndexByte.indexByte)
 {f:Nat}{args:List D}{v:D}(a:yJ ce f args=some v)(S:c9)(w:World):(callFunc f (b2 S args).toArray).run P w= .ok (.value (aQ S v)) w:=by
 obtain⟨rfl,s,c,rfl,rfl,aF,aA⟩:=agJ a
 have oX:=Lib.run_indexByteString (P:=P) (f2 s) (Int.ofNat c) w
 have E:Lib.indexByte (f2 s).data.toList (Int.ofNat c).toNat.toUInt8=Be s c 0:=by
  rw[avP s c 0 aF aA]
  have:(f2 s).data.toList=s.map UInt8.ofNat:=by simp[f2]
  rw[this]
  have CA:=Lib.indexByte_ge (s.map UInt8.ofNat) (UInt8.ofNat c)
  show Lib.indexByte (s.map UInt8.ofNat) (UInt8.ofNat c)=_
  split
  ·rename_i ah;exact ah
  ·simp
 rw[E]at oX
 have ia:(b2 S [.str s, .int .u8 (.ofNat c)]).toArray= #[.string (f2 s), .int .u8 (Int.ofNat c)]:=rfl
 rw[ia]
 have O1:¬fn.name= "runtime.NumGoroutine":=by simpa using aE
 simp only[callFunc,Sem.run_bind]
 simp[ch,O1,aj,I,J,aQ]
 exact congrArg (λr=>Result.andThen r (λF b1=>Result.ok (Next.value F) b1)) oX
end
end
end Go.bd

namespace Go.bd
noncomputable section
open Go.RowKit (Below)
mutual
def rD:D->Bool
 | .bool _=>true
 | .int _ _=>true
 | .str s=>Ae s
 | .cx=>true
 | .aV=>true
 | .mi=>true
 | .nilFunc=>true
 | .nilIface=>true
 | .iface _ v=>rD v
 | .agg k=>Do k
 | .tuple k=>Do k
 |_=>false
def Do:List D->Bool
 |[]=>true
 |v::k=>rD v&&Do k
end
mutual
def Qb:∀v,rD v=true->ck (λ_=>False) v
 | .bool _,_=>trivial
 | .int _ _,_=>trivial
 | .str s,a=>RF (by simpa[rD]using a)
 | .cx,_=>trivial
 | .aV,_=>trivial
 | .mi,_=>trivial
 | .nilFunc,_=>trivial
 | .nilIface,_=>trivial
 | .iface _ v,a=>by
   have:=Qb v (by simpa[rD]using a)
   simpa[ck]using this
 | .agg k,a=>L7 k (by simpa[rD]using a)
 | .tuple k,a=>L7 k (by simpa[rD]using a)
 | .ptr _ _,a=>by simp[rD]at a
 | .slice ..,a=>by simp[rD]at a
 | .fl ..,a=>by simp[rD]at a
 | .map _,a=>by simp[rD]at a
 | .func ..,a=>by simp[rD]at a
def L7:∀k,Do k=true->ep (λ_=>False) k
 |[],_=>trivial
 |v::k,a=>by
  simp only[Do,Zp]at a
  exact⟨Qb v a.1,L7 k a.2⟩
end
def agZ{v:D}(a:rD v=true):(∀S iF,aQ S v=aQ iF v)/\∀ad,ck ad v:=
 ⟨λ_ _=>q0 (λ_ a=>a.elim) (Qb v a),λ_=>pz (λ_ a=>a.elim) v (Qb v a)⟩
def VP{k:List D}(a:Do k=true):(∀S iF,b2 S k=b2 iF k)/\∀ad,ep ad k:=
 ⟨λ_ _=>Al (λ_ a=>a.elim) (L7 k a),λ_=>r8 (λ_ a=>a.elim) k (L7 k a)⟩
def ag0{F b:D}(a:P9 F b=true):F=b:=by
 unfold P9 at a
 split at a
 ·simp only[anR,Y0]at a;rw[a]
 ·simp only[Zp,afG,CT,Zh]at a;rw[a.1,a.2]
 ·rw[(LW _ _).1 a]
 ·rfl
 ·rfl
 ·rfl
 ·cases a
def ayK:∀{F b:List D},FC F b=true->F=b:=by
 intro F
 induction F with
 |nil=>intro b a;cases b<;>simp[FC]at a;rfl
 |cons x F al=>
  intro b a
  cases b with
  |nil=>simp[FC]at a
  |cons e b=>
   simp only[FC,Zp]at a
   rw[ag0 a.1,al a.2]
def R9(x e:D):Bool:=match x,e with
 | .agg F, .agg b=>FC F b
 |x,e=>P9 x e
def aoE{F b:D}(a:R9 F b=true):F=b:=by
 unfold R9 at a
 split at a
 ·rw[ayK a]
 ·exact ag0 a
def GP:List D->List D->Bool
 |[],[]=>true
 |F::x,b::e=>R9 F b&&GP x e
 |_,_=>false
def aoF:∀{F b:List D},GP F b=true->F=b:=by
 intro F
 induction F with
 |nil=>intro b a;cases b<;>simp[GP]at a;rfl
 |cons x F al=>
  intro b a
  cases b with
  |nil=>simp[GP]at a
  |cons e b=>
   simp only[GP,Zp]at a
   rw[aoE a.1,al a.2]
def yC(f:Nat)(args:List D):List (Nat×List D×D)->Option D
 |[]=>none
 |(g,cv,v)::k=>bY (Nat.beq f g) (bY (GP args cv) (some v)<|yC f args k) (yC f args k)
def afN{f:Nat}{args:List D}{v:D}:∀{k:List (Nat×List D×D)},yC f args k=some v->(f,args,v)∈k:=by
 intro k
 induction k with
 |nil=>intro a;simp[yC]at a
 |cons x k al=>
  obtain⟨g,cv,ac⟩:=x
  intro a
  simp only[yC]at a
  rw[fA]at a
  split at a
  ·rename_i ah
   rw[fA]at a
   split at a
   ·rename_i cw
    simp at a;subst a
    rw[Zl ah,aoF cw]
    exact Zq ..
   ·exact Zt _ (al a)
  ·exact Zt _ (al a)
def rC(U:Nat->List D->Option D)(k:List (Nat×List D×D))(f:Nat)(args:List D):Option D:=
 match yC f args k with|some v=>some v|none=>U f args
def Mp:List (Nat×List D×D)->Bool
 |[]=>true
 |x::k=>(Do x.2.1&&rD x.2.2)&&Mp k
def ahR:∀{k:List (Nat×List D×D)},Mp k=true->∀x∈k,Do x.2.1=true/\rD x.2.2=true:=by
 intro k
 induction k with
 |nil=>intro _ x a;cases a
 |cons F k al=>
  intro a x af
  simp only[Mp,Zp]at a
  rcases Zr.1 af with rfl|af
  ·exact a.1
  ·exact al a.2 x af
section
variable{P:Program}{w:World}
def apc{al:hw}{C:aL}{f:Nat}{args:List D}{b:Bool}{cs:List gL}{h:K ag}{j:Nat}{v:D}(a:oH al C f args b cs h j=some v):∃fn c,C.P.funcs[f]? =some fn/\fn.body=some c:=by
 unfold oH at a
 split at a
 ·rename_i fn ch
  split at a
  ·rename_i c aA;exact⟨fn,c,ch,aA⟩
  ·simp at a
 ·simp at a
def agL{G:K ag}{a2 p0:Nat}{U:Nat->List D->Option D}{dP:c9}{d4:Nat->Prop}{k:List (Nat×List D×D)}(cI:Env ⟨P,G,a2,U,p0⟩ w dP d4)(a6:Mp k=true)
 (j7:∀x∈k,∃m,tX ⟨P,G,a2,U,p0⟩ m x.1 x.2.1=some x.2.2):Ri ⟨P,G,a2,rC U k,p0⟩ w:=by
 refine⟨λf args v bj=> ?_,λf args v bj S mM aj=> ?_⟩
 ·have bj:rC U k f args=some v:=bj
  unfold rC at bj
  split at bj
  ·rename_i ac bb
   simp at bj;subst bj
   obtain⟨I,J⟩:=ahR a6 _ (afN bb)
   exact⟨agZ J,VP I⟩
  ·exact cI.hh.val f args v bj
 ·have bj:rC U k f args=some v:=bj
  unfold rC at bj
  split at bj
  ·rename_i ac bb
   simp at bj;subst bj
   have bp:=afN bb
   obtain⟨I,J⟩:=ahR a6 _ bp
   obtain⟨m,oX⟩:=j7 _ bp
   obtain⟨fn,c,ch,aA⟩:=apc oX
   right
   have aE:fn.name≠ "runtime.NumGoroutine":=by simpa using cI.kx.num f fn ch (by simp[aA])
   refine⟨?_, ?_⟩
   ·have rk:P.funcs[f]? =some fn:=ch
    simp[callFunc,rk,aE,aA]
   ·have asX:=cI.later aj
    have:=azR asX (f:=f) (args:=args) ((VP I).2 d4) oX
    rw[(VP I).1 S dP]
    exact this.mono λE b1 ⟨⟨iF,bs⟩,jB⟩=>⟨by rw[bs,(agZ J).1 iF S],jB⟩
  ·exact cI.hh.ok f args v bj S mM aj
end
end
end Go.bd

namespace Go.bd
noncomputable section
open Go.RowKit (Below)
def JH:List (String×Nat)->String->Option Nat
 |[],_=>none
 |(F,ac)::k,s=>bY (F==s) (some ac) (JH k s)
def PG(P:Program)(nm:List (String×Nat))(t:Nat)(d:DataW Unit)(n:Nat):xE:=match P.underlying t,d with
 |some (.interface _), .iface s (.ptr lI)=>(match JH nm s with
  |some ac=>(match P.underlying ac with
   |some (.pointer _)=>(match yD P 39 ac (.ptr lI) n with
    |some ([x],aG,os)=>some ([.iface ac x],aG,os)
    |_=>none)
   |_=>none)
  |none=>none)
 |_,_=>yD P 40 t d n
def g7(P:Program)(nm:List (String×Nat)):List (String×DataW Unit)->Nat->Nat×List (Nat×ag)
 |[],n=>(n,[])
 |(v,d)::r,n=>match P.globalNamed v with
  |some g=>(match P.globals[g]? with
   |some iO=>(match PG P nm iO.type d n with
    |some (k,aG,os)=>bY (Nat.blt 0 k.length) (match g7 P nm r aG with|(a1,tQ)=>(a1,(g,IS k)::(os++tQ))) (g7 P nm r n)
    |none=>g7 P nm r n)
   |none=>g7 P nm r n)
  |none=>g7 P nm r n
def BW(P:Program)(nm:List (String×Nat)):Prop:=∀x∈nm,∀ac,P.typeName? 3 ac=some x.1->ac=x.2
section
variable{C:aL}{P:Program}{w:World}
def anw{s:String}{ac:Nat}:∀{k:List (String×Nat)},JH k s=some ac->(s,ac)∈k:=by
 intro k
 induction k with
 |nil=>intro a;simp[JH]at a
 |cons x k al=>
  obtain⟨F,b⟩:=x
  intro a
  simp only[JH]at a
  rw[fA]at a
  split at a
  ·rename_i ah
   simp at a ah;subst a;subst ah
   exact Zq ..
  ·exact Zt _ (al a)
def awD{nm:List (String×Nat)}(iR:BW P nm){t:Nat}{d:DataW Unit}{n:Nat}{r:List D×Nat×List (Nat×ag)}(a:PG P nm t d n=some r){ah:Nat}{cs:List Value}{dr:List MemPlace}(V:rd P w ah t cs=some (d,dr))(cr:sU w dr)
 (fY:∀ac v,cs=[.iface ac v]->Value.okWide P w .any 0 ac v):Lays C w n cs r:=by
 unfold PG at a
 split at a
 ·rename_i iC s lI aN
  split at a
  ·rename_i ac bb
   split at a
   ·rename_i E ay
    split at a
    ·rename_i x aG os az
     simp at a;subst a
     obtain⟨eM,t7,v,rfl,aE,I⟩:=iface_of_trod aN V
     obtain rfl:=iR _ (anw bb) t7 aE
     obtain⟨eV,F,dc,VU,bD,_,_,_⟩:=ptr_of_trod ay I
     have ok:=fY _ _ rfl
     have uU:v= .pointer (some F):=by
      unfold Value.okWide at ok
      simp only[ay]at ok
      unfold Cell.okWide at ok
      cases v<;>simp[Value.cells,Cell.ok,ay]at ok bD
      subst bD
      rfl
     have f6:=afV (C:=C) (w:=w) 39 eM _ _ _ _ az _ _ I cr
     obtain⟨ba,cj,f,a3⟩:=f6
     refine⟨ba,cj,f,λS ad dL=> ?_⟩
     obtain⟨db,dx,gf⟩:=a3 S ad dL
     refine⟨?_,⟨dx.1,trivial⟩,gf⟩
     subst uU
     have E:Value.pointer (some F)=aQ S x:=by
      simp[Value.cells,b2]at db
      exact db
     simp only[b2,aQ,E]
    ·simp at a
   ·simp at a
  ·simp at a
 ·exact afV (C:=C) (w:=w) 40 ah _ _ _ _ a cs dr V cr
def afU{nm:List (String×Nat)}(iR:BW P nm){p0:Nat}:∀(laid:List (String×DataW Unit)) (n:Nat) (dr:List MemPlace),P.globals.size=p0->DataW.LaidVars P w laid dr->sU w dr->
 (∀b off,MemPlace.cell b off∈dr->∀ac v,w.cell? ⟨b,off,none⟩=some (.iface ac v)->Value.okWide P w .any 0 ac v)->W5 C w p0 n (g7 P nm laid n):=by
 intro laid
 induction laid with
 |nil=>
  intro n dr _ _ _ _
  exact⟨Zi _,by simp[g7],λ_=>default,λS ad _ _=>by simp[g7]⟩
 |cons F r al=>
  obtain⟨v0,d⟩:=F
  intro n dr EQ f6 cr aef
  obtain⟨g,t,cs,fuel,p,ah,bU,a6,bD,aH,V,rfl⟩:=f6
  have afj:sU w ah:=cr.of λe z=>Zz.2 (.inr z)
  have aeg:∀b off,MemPlace.cell b off∈ah->∀ac v,w.cell? ⟨b,off,none⟩=some (.iface ac v)->Value.okWide P w .any 0 ac v:=λb off aj=>aef b off (Zz.2 (.inr aj))
  have skip:g7 P nm ((v0,d)::r) n=g7 P nm r n->W5 C w p0 n (g7 P nm ((v0,d)::r) n):=λE=>by rw[E];exact al n ah EQ V afj aeg
  simp only[Yp]at a6
  obtain⟨iO,OL,rfl⟩:=a6
  have TV:g<p0:=by rw[<-EQ];exact(ZN.1 OL).1
  have fY:∀ac v,cs.toList=[.iface ac v]->Value.okWide P w .any 0 ac v:=by
   intro ac v ia
   obtain⟨ty,vc,aj⟩:=aib bU bD
   have eO:cs.size=1:=by have:=congrArg List.length ia;simpa using this
   refine aef g 0 (Zz.2 (.inl (Zz.2 (.inl (Qk (F:=⟨g,0,none⟩) (q:=cs.size) Zo))))) ac v ?_
   have aS:cs[0]? =some (.iface ac v):=by rw[<-ZR,ia];rfl
   simp[World.cell?,aj,aS]
  cases az:PG P nm iO.type d n with
  |none=>exact skip (by simp[g7,bU,OL,az])
  |some eL=>
   obtain⟨k,aG,os⟩:=eL
   by_cases HC:0<k.length
   ·have bs:g7 P nm ((v0,d)::r) n=((g7 P nm r aG).1,(g,IS k)::(os++(g7 P nm r aG).2)):=by
     have:Nat.blt 0 k.length=true:=by simp[Nat.blt];omega
     simp[g7,bU,OL,az,this]
    obtain⟨ba,cj,eM,a3⟩:=awD (C:=C) (w:=w) iR az (cs:=cs.toList) (dr:=p) aH (cr.of λe z=>Zz.2 (.inl (Zz.2 (.inr z)))) fY
    obtain⟨bQ,cf,eV,cM⟩:=al aG ah EQ V afj aeg
    have ba:n<=aG:=ba
    rw[bs]
    refine⟨ZB ba bQ, ?_,λb=>if b<aG then eM b else eV b, ?_⟩
    ·intro x af
     rcases Zr.1 af with rfl|af
     ·exact⟨.inl TV, .inl TV,VI k⟩
     ·rcases Zz.1 af with ah|ah
      ·obtain⟨cG,cw,d9⟩:=cj x ah
       exact⟨.inr cG, .inr (ZP cw bQ),d9⟩
      ·obtain⟨cG,cw,d9⟩:=cf x ah
       exact⟨cG.imp id (λa=>ZB ba a),cw,d9⟩
    ·intro S ad dL eN
     obtain⟨db,dx,gf⟩:=a3 S ad (λb I J=>by
      have AH:b<aG:=J
      have:=dL b I (ZP J bQ)
      simp only[Zu AH]at this
      exact this)
     have eS:=cM S ad (λb I J=>by
      have uF:¬b<aG:=zn.2 I
      have:=dL b (ZB ba I) J
      simp only[Zg uF]at this
      exact this) eN
     intro x af
     rcases Zr.1 af with rfl|af
     ·obtain⟨avr,aCJ⟩:=eN g TV
      obtain⟨ty,vc,aj⟩:=aib bU bD
      have eO:cs.size=k.length:=by
       have:=congrArg List.length db
       rw[j4]at this
       simpa using this
      obtain⟨f5,ha,jB⟩:=cr g 0 (Zz.2 (.inl (Zz.2 (.inl (Qk (F:=⟨g,0,none⟩) (q:=cs.size) Zo)))))
      rw[aj]at jB
      have auw:vc=(0,0):=by
       simp only[Zf,Obj.cells.injEq]at jB
       exact jB.2.2
      rw[auw]at aj
      simp only[avr]
      refine V4 (pl:=⟨g,0,0⟩) aj ?_ dx HC
      simp only[ZZ]
      rw[Zx (by simp;omega)]
      exact db
     ·rcases Zz.1 af with ah|ah
      ·exact gf x ah
      ·exact eS x ah
   ·exact skip (by
     have lN:k.length=0:=Zo
     have:Nat.blt 0 k.length=false:=by rw[lN];rfl
     simp[g7,bU,OL,az,this])
def Vc{nm:List (String×Nat)}(iR:BW P nm){laid:List (String×DataW Unit)}{hh:Nat->List D->Option D}(a:laidMet P laid w):
 ∃S ad,dq ⟨P,nK (g7 P nm laid P.globals.size).2 .nil,(g7 P nm laid P.globals.size).1,hh,P.globals.size⟩ S ad .nil (g7 P nm laid P.globals.size).1 w.heap.size w/\
  sV ⟨P,nK (g7 P nm laid P.globals.size).2 .nil,(g7 P nm laid P.globals.size).1,hh,P.globals.size⟩ S ad:=by
 obtain⟨dr,f6,_,lN⟩:=a
 have cr:sU w dr:=λb off aj=>(lN b off aj).1
 obtain⟨ba,cj,f,a3⟩:=afU (C:=⟨P,nK (g7 P nm laid P.globals.size).2 .nil,(g7 P nm laid P.globals.size).1,hh,P.globals.size⟩) iR laid P.globals.size dr rfl f6 cr (λb off aj=>(lN b off aj).2)
 generalize aE:g7 P nm laid P.globals.size=r at ba cj a3 ⊢
 obtain⟨a2,os⟩:=r
 simp only at ba cj a3 ⊢
 have Ug:∀b U,Y ⟨P,nK os .nil,a2,hh,P.globals.size⟩ .nil b=some U->(b,U)∈os/\b<a2:=by
  intro b U bj
  unfold Y at bj
  rw[fA]at bj
  split at bj
  ·rename_i aj
   rcases Wc b U os .nil bj with ah|ah
   ·exact⟨ah,lG aj⟩
   ·simp at ah
  ·simp at bj
 refine⟨λb=>if b<P.globals.size then⟨b,0,0⟩else f b,λb=>b<a2,⟨Zi _,λ_ a=>a,λb U bj=>(Ug b U bj).2, ?_, ?_, ?_, ?_⟩, ?_⟩
 ·intro b U bj _
  have:=a3 (λb=>if b<P.globals.size then⟨b,0,0⟩else f b) (λb=>b<a2) (λb I J=>⟨by rw[Zg Zo],J⟩) (λg bU=>⟨by rw[Zu bU],Zo⟩) (b,U) (Ug b U bj).1
  exact this
 ·intro b dO U o' _ _ d _ _ aj
  exact absurd d (zn.2 aj)
 ·intro b U aj _ d
  exact absurd d (zn.2 aj)
 ·intro b U bj _
  exact(cj (b,U) (Ug b U bj).1).2.2 _ _
 ·intro g bU
  have bU:g<P.globals.size:=bU
  exact⟨Zo,by simp[bU],by simp[bU]⟩
def Env.awu{nm:List (String×Nat)}(iR:BW P nm){laid:List (String×DataW Unit)}{ce:Nat}{fn:Func}(kx:Aa P)(ch:P.funcs[ce]? =some fn)(aE:(fn.name== "runtime.NumGoroutine")=false)(aj:fn.body=none)(I:Extern.findNext fn=none)
 (J:Extern.find fn=some Extern.BytealgIndexByte.indexByte)(a:laidMet P laid w):
 ∃S ad,Env ⟨P,nK (g7 P nm laid P.globals.size).2 .nil,(g7 P nm laid P.globals.size).1,yJ ce,P.globals.size⟩ w S ad:=by
 obtain⟨S,ad,am,aB⟩:=Vc (hh:=yJ ce) iR a
 refine⟨S,ad,kx,⟨λf args v bj=> ?_,λf args v bj S w _=> .inl (ayl ch aE aj I J bj S w)⟩,am,aB⟩
 obtain⟨rfl,s,c,rfl,rfl,aF,aA⟩:=agJ bj
 exact⟨⟨λ_ _=>rfl,λ_=>trivial⟩,λ_ _=>rfl,λ_=>⟨aF,trivial,trivial⟩⟩
end
end
end Go.bd

