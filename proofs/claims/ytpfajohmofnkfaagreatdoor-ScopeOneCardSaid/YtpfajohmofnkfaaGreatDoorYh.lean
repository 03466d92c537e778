/- A part of the proof of the claim's last text: what it is used for is said there; no condition of its own. -/
import Derived.Test.YtpfajohmofnkfaaGreatDoorYg
import Derived.ChangeReads
import GoSem.ClaimJoined
set_option maxHeartbeats 8000000
set_option linter.unusedVariables false
set_option linter.unusedSimpArgs false
namespace Go.al
open Go.RowKit (Below)
section
variable{C:aX}{K c1 dB:cY}{Z di dU:Nat->Prop}{h V:U an}{k av bg:Nat}{w bz:World}{n ap:Nat}{aq:Array Oper}
variable{bk:World}{bt:Nat}{bJ:List Frame}{v:H}{ah:g4}
variable{fn:Nat}{a8:List hj}{aB:Bool}{ro:Option Nat}{cs:List gi}{J:U H}{tmps:Array Value}{bs:List Item}{aC:List Frame}{bP aN:Nat}
theorem cS.more(S:cS C K Z h k bg w)(aS:k<=av)(iw:∀b,Z b->ab C V b=ab C h b)(cR:∀b W,ab C V b=some W->b<av):cS C K Z V av bg w:=by
 refine⟨Zz S.bj aS,λb a=>ZI (S.lt b a) aS,cR,λb W a d=>S.obj b W (by rw[<-iw b d];exact a) d,λb ea W o' a cv d kS=>S.sep b ea W o' (by rw[<-iw b d];exact a) (by rw[<-iw ea kS];exact cv) d kS,λb W ai a d=>S.base b W ai (by rw[<-iw b d];exact a) d,λb W a d=>S.fb b W (by rw[<-iw b d];exact a) d⟩
theorem aax(cV:oB C n ap aq){l cd:oE}(aE:l∈lc C n ap aq)(gY:cd∈lc C n ap aq)(a:l.x.i=cd.x.i):l=cd:=by
 obtain⟨I,aG⟩:=ZW.1 aE
 obtain⟨b,ai⟩:=ZW.1 gY
 obtain⟨G0,mU⟩:=Zc.1 aG
 obtain⟨np,oT⟩:=Zc.1 ai
 have ax:=NU cV
 rw[YS]at ax
 rcases YY I b with cR|E|gA
 ·have:=ax I b G0 np cR
  rw[mU,oT]at this;omega
 ·subst E;rw[<-mU,oT]
 ·have:=ax b I np G0 gA
  rw[mU,oT]at this;omega
theorem Vf(cF:Env C bk dB dU)(fW:mM C bk bt bJ ah){B:List dy}{base dx:Nat}{ak:List (Nat×H)}{c7:Nat->Prop}{l:List Nat}(aG:iB C bk bt bJ fn ap a8 aB ro cs h k K Z w bP aC)
 (aP:k4 C K Z ap B bs)(BY:bP<=base)(fv:base+aq.size<=k)(gr:C.bj<=base)(aI:qc C K Z h base n ap aq ak dx dx J tmps c7)(aH:vk aq c7 l)
 (a:wY ah C aq base ak (xQ (lc C n ap aq) dx ((gc C n ap aq).drop dx)) (kA ap aq.toList 0) B ⟨fn,n,ap,a8,aB,ro,cs⟩ J h k=some v):Ends C bk bt bJ v (lone (cl K fn a8 aB ro tmps (.inRegion aq l::bs) .run) aC w):=by
 obtain⟨s,rest,bF,cB,fh,js⟩:=asQ (h6:=lc C n ap aq) (B:=dx) (aE:=(gc C n ap aq).drop dx)
 rw[bF]at a
 simp only[wY]at a
 split at a
 ·simp at a
 ·rename_i gI V gz
  simp only[d9]at a
  obtain⟨Lc,a⟩:=a
  rw[cB]at gz
  rw[fh]at Lc
  have Ph:∀x∈si dx (lc C n ap aq),d8 ak x.i=none/\ab C h (base+x.i)=none/\mZ x.op=false:=by
   intro x ag
   obtain⟨eh,M,R,rfl⟩:=yu.1 ag
   have bu:d8 ak eh.x.i=none:=by
    cases bu:d8 ak eh.x.i with
    |none=>rfl
    |some ad=>
     exfalso
     rcases aI.keys _ ad bu with ⟨c5,b9,b3,g3⟩|⟨p,j,b9,b3,_⟩
     ·have:=aax aI.st b9 M b3
      subst this;omega
     ·exact LB aI.st M b9 b3.symm
   obtain⟨_,_,g3,_⟩:=JM M
   exact⟨bu,aI.free _ (JL aI.st M) bu,g3⟩
  obtain⟨bN,cg,cH,eK,eR⟩:=ah2 gr _ _ _ _ _ (agX (NU aI.st)) Ph gz
  have PX:∀b,Z b->ab C V b=ab C h b:=by
   intro b ai
   by_cases ar:ab C V b=ab C h b
   ·exact ar
   ·obtain⟨x,ag,E⟩:=eK b ar
    obtain⟨eh,M,R,rfl⟩:=yu.1 ag
    have b7:=aI.ids _ (JL aI.st M) (E▸ai)
    have:=aI.sY eh M b7
    omega
  have lD:cS C K Z V k bk.heap.size w:=aG.S.more (Zj _) PX (λb W ai=>by
   by_cases ar:ab C V b=ab C h b
   ·exact aG.S.uG b W (by rw[<-ar];exact ai)
   ·obtain⟨x,ag,E⟩:=eK b ar
    obtain⟨eh,M,R,rfl⟩:=yu.1 ag
    have:=JL aI.st M
    omega)
  have ag:hS C bP K Z h bk.heap.size w K Z V w:=⟨λ_ _=>rfl,λ_ a=>a,λ_ a=> .inl a,λb _ cR=>by
   by_cases ar:ab C V b=ab C h b
   ·exact ar
   ·obtain⟨x,ag,E⟩:=eK b ar
    omega,Below.refl _ _⟩
  have xg:=aG.ext lD ag (Zj _)
  have rp:qc C K Z V base n ap aq gI dx (dx+1) J tmps c7:=by
   refine⟨aI.st,aI.size,aI.Lw,aI.dS,aI.closed,aI.v7,aI.done,λeh M R=>Nat.lt_succ_of_lt (aI.sY eh M R), ?_, ?_, ?_, ?_,aI.ids, ?_⟩
   ·intro i ad aZ
    rcases cH i (by rw[aZ];simp)with M|⟨x,M,R⟩
    ·cases bu:d8 ak i with
     |none=>exact absurd bu M
     |some r2=>
      rcases aI.keys i r2 bu with ⟨eh,b9,b3,g3⟩|g
      ·exact .inl ⟨eh,b9,b3,Zo⟩
      ·exact .inr g
    ·obtain⟨eh,b9,b3,rfl⟩:=yu.1 M
     exact .inl ⟨eh,b9,R,Zo⟩
   ·intro p j T ax
    obtain⟨ad,aZ⟩:=aI.t6 p j T ax
    exact⟨ad,bN _ _ aZ⟩
   ·intro eh M R
    by_cases ar:eh.bP=dx
    ·obtain⟨ad,b9,b3⟩:=eR eh.x (yu.2 ⟨eh,M,ar,rfl⟩)
     exact⟨ad,(b9 Z).key,λ_=>b9 Z⟩
    ·obtain⟨ad,b9,b3⟩:=aI.ahead eh M Zo
     refine⟨ad,bN _ _ b9,λb7=> ?_⟩
     obtain⟨_,jX,b,ec,g5,g6,g7⟩:=b3 b7
     refine⟨bN _ _ b9,jX,b,ec.trans bN,g5,g6,λai=> ?_⟩
     obtain⟨g8,jv,g10⟩:=g7 ai
     refine⟨g8,λbi=> ?_,g10⟩
     obtain⟨cJ,g11,g12⟩:=jv bi
     refine⟨cJ,g11, ?_⟩
     by_cases b1:ab C V (base+eh.x.i)=ab C h (base+eh.x.i)
     ·rw[b1];exact g12
     ·obtain⟨x,ag,E⟩:=eK _ b1
      obtain⟨c5,ee,fz,rfl⟩:=yu.1 ag
      have:=aax aI.st M ee Zo
      subst this;omega
   ·intro t ad aZ
    apply aI.Bq t ad
    rcases aZ with ⟨aa,b7,tU,vY,aZ⟩|aZ
    ·left
     refine⟨aa,b7,tU,vY, ?_⟩
     have t6:∃r2,d8 ak aa=some r2:=by
      rcases Ve aI.st aa (aI.v7 aa b7)with ⟨eh,b9,b3⟩|⟨p,j,b9,b3⟩
      ·obtain⟨r2,g3,_⟩:=aI.ahead eh b9 (aI.sY eh b9 (by rw[b3];exact b7))
       exact⟨r2,by rw[<-b3];exact g3⟩
      ·obtain⟨r2,g3⟩:=aI.t6 p j b9 ((aI.done p j b9).1 (by rw[b3];exact b7))
       exact⟨r2,by rw[<-b3];exact g3⟩
     obtain⟨r2,sP⟩:=t6
     have:=bN _ _ sP
     rw[aZ]at this
     cases this
     exact sP
    ·exact .inr aZ
   ·intro i aN bu
    have anq:d8 ak i=none:=by
     cases cf:d8 ak i with
     |none=>rfl
     |some ad=>rw[bN _ _ cf]at bu;cases bu
    by_cases ar:ab C V (base+i)=ab C h (base+i)
    ·rw[ar];exact aI.free i aN anq
    ·obtain⟨x,ag,E⟩:=eK _ ar
     obtain⟨ad,b9,_⟩:=eR x ag
     have:x.i=i:=Zo
     rw[<-this,(b9 Z).key]at bu
     cases bu
  refine apt cF fW BY fv gr (s:=s) (rest:=rest) ?_ a l K Z w tmps c7 xg aP rp aH ?_
  ·cases cf:(gc C n ap aq).drop dx with
   |nil=>rw[cf]at js;exact js.1
   |cons j gY=>rw[cf]at js;exact js
  ·intro eh M R b7
   by_cases ar:eh.bP=dx
   ·obtain⟨ad,b9,b3⟩:=eR eh.x (yu.2 ⟨eh,M,ar,rfl⟩)
    exact⟨ad,(b9 Z).key,b3⟩
   ·obtain⟨ad,b9,b3⟩:=aI.ahead eh M Zo
    refine⟨ad,bN _ _ b9, ?_⟩
    obtain⟨_,jX,b,ec,g5,g6,g7⟩:=b3 b7
    by_cases Em:AR eh.x.op=true
    ·have rt:dx<=eh.aN:=by
      obtain⟨p,ee,fz,ki,Cn⟩:=JM M
      obtain⟨_,fI,fs,z3,z4,z5⟩:=wX aI.st ee
      rw[Cn]
      refine alX _ _ _ (by rw[J6,Zu];exact aI.Lw) λar j T cR=> ?_
      rw[J6,Zv]at T
      cases cj:(gc C n ap aq)[ar]? with
      |none=>rw[cj]at T;cases T
      |some bl=>
       rw[cj]at T;cases T
       cases ai:e7 bl.1.m p.i with
       |false=>rfl
       |true=>
        exfalso
        have akK:=(aI.done ar bl cj).2 cR
        obtain⟨avV,MN,MO,awp,atT,awq,Sf⟩:=wX aI.st (JJ (Zp cj)).1
        have:=Gk aI.closed (Zp atT) Sf.oper (aI.closed _ _ Sf.oper akK) _ ai
        simp only at fs
        rw[<-fs]at this
        exact b7 this
     obtain⟨ea,eH,fk⟩:=ah3 _ Lc eh.x (are M Zo rt Em)
     refine⟨gI,V,ea,Sub.refl _,oD.refl _,eH,λai _=> ?_⟩
     obtain⟨r2,hh,nH⟩:=fk ai
     rw[bN _ _ b9]at nH
     cases nH
     exact hh
    ·have Em:AR eh.x.op=false:=by simpa using Em
     refine⟨jX, .nil,b,ec.trans bN,aau _,g5,λai pG=> ?_⟩
     exact(g7 ai).2.2 pG Em .nil
theorem aiY{B:List dy}(id:Nat)(a:k4 C K Z ap B bs){eA:List dy}(aW:exitTo id B=some eA):∃hD,Go.exitTo id bs=some hD/\k4 C K Z ap eA hD:=by
 induction a with
 |nil=>simp[exitTo]at aW
 |cons M R ah=>
  cases M<;>simp only[exitTo]at aW
  case inBlock sT=>
   rw[gX]at aW
   split at aW
   ·rename_i E
    simp at aW;subst aW
    exact⟨_,by simp[Go.exitTo,E],R⟩
   ·rename_i E
    obtain⟨hD,b9,b3⟩:=ah aW
    have:(sT==id)=false:=by simpa using E
    exact⟨hD,by simp[Go.exitTo,this,b9],b3⟩
  all_goals
   obtain⟨hD,b9,b3⟩:=ah aW
   exact⟨hD,by simp[Go.exitTo,b9],b3⟩
theorem Vr(hu:q1 C K Z){n:Nat}(aT:iR K Z n ap J tmps){x:Operand}{ad:H}(dg:xV C ap [] x=true)(a:vy J x=some ad):kq tmps x=aD K ad/\b0 Z ad:=by
 cases x with
 |tmp t=>
  simp only[xV,agV]at dg
  obtain⟨M,R⟩:=aT.val t ad dg a
  exact⟨by simp[kq,M],R⟩
 |const c=>exact LX a
 |global g=>
  simp[vy]at a;subst a
  simp only[xV]at dg
  obtain⟨b9,b3,g3⟩:=hu g (kd dg)
  exact⟨by simp[kq,aD,b3,g3],b9⟩
 |func f=>
  simp[vy]at a;subst a
  exact⟨by simp[kq,aD,mm,bI],trivial,trivial,trivial⟩
theorem nQ.start{n:Nat}(aT:iR K Z n ap J tmps):nQ K Z ap (λ_=>True) (h0 aq 0) [] J tmps:=by
 intro t ad _ a
 rw[IW]at a
 exact aT.val t ad a.1 a.2
theorem ark(cF:Env C bk dB dU)(fW:mM C bk bt bJ ah){B:List dy}{id:Nat}{yF:Bool}(aG:iB C bk bt bJ fn ap a8 aB ro cs h k K Z w bP aC)(aP:k4 C K Z ap B bs)(aT:iR K Z n ap J tmps)
 (a:abO aq yF ah C B ⟨fn,n,ap,a8,aB,ro,cs⟩ J h k=some v):Ends C bk bt bJ v (lone (cl K fn a8 aB ro tmps (.code (.region id aq yF)::bs) .run) aC w):=by
 cases yF with
 |false=>
  have cv:Rj n ap aq ah C B ⟨fn,n,ap,a8,aB,ro,cs⟩ J h k=some v:=a
  simp only[Rj,nD]at cv
  split at cv
  ·rename_i r S
   obtain⟨rest,fin⟩:=r
   have Ko:x3 rest ⟨ah,aq,fin,B,⟨fn,n,ap,a8,aB,ro,cs⟩⟩ C J [] h k=some v:=cv
   unfold If at S
   split at S
   ·rename_i cZ hM
    simp at S
    obtain⟨rfl,rfl⟩:=S
    refine .head asH ?_
    refine abX cF fW cZ [] h k K Z w tmps _ aC aG aP ⟨0,ze _, ?_,hM,rfl,nQ.start aT,aT.size⟩ Ko
    rw[List.range_eq_range'];rfl
   ·simp at S
  ·simp at cv
 |true=>
  have cv:Ri n ap aq ah C B ⟨fn,n,ap,a8,aB,ro,cs⟩ J h k=some v:=a
  simp only[Ri,nD]at cv
  split at cv
  ·rename_i r S
   obtain⟨kL,fin⟩:=r
   have Ko:pu k (λk=>wY ah C aq k [] kL fin B ⟨fn,n,ap,a8,aB,ro,cs⟩ J h (k+aq.size))=some v:=cv
   rw[li]at Ko
   unfold Ie at S
   split at S
   ·simp at S
   ·rename_i cZ hM
    simp only[d9,Zk,Ze]at S
    obtain⟨⟨⟨b9,b3⟩,g3⟩,ec⟩:=S
    have je:vu C n ap aq=cZ:=by unfold vu;rw[hM];rfl
    have cV:oB C n ap aq:=⟨by rw[je];exact hM,b9,b3,by unfold gc;rw[je];exact g3⟩
    have anh:kL=xQ (lc C n ap aq) 0 ((gc C n ap aq).drop 0)/\fin=kA ap aq.toList 0:=by
     have E:=ec
     cases E
     refine⟨?_,rfl⟩
     rw[Z2]
     unfold lc gc
     rw[je];rfl
    obtain⟨rfl,rfl⟩:=anh
    refine .head asI ?_
    rw[cF.j9.mixed]
    have ag:hS C bP K Z h bk.heap.size w K Z h w.drew:=⟨λ_ _=>rfl,λ_ a=>a,λ_ a=> .inl a,λ_ _ _=>rfl,Below.drew (Below.refl _ _)⟩
    have lD:cS C K Z h (k+aq.size) bk.heap.size w.drew:=aG.S.drew.more (zi _ _) (λ_ _=>rfl) (λb W ai=>ZI (aG.S.uG b W ai) (zi _ _))
    refine Vf cF fW (c7:=λ_=>False) (aG.ext lD ag (zi _ _)) aP aG.jE (Zj _) aG.S.bj ?_ (arT b9 _) Ko
    refine⟨cV,aT.size,ze _,aG.S.bj,λ_ _ _ a=>a.elim,λ_ a=>a.elim,λp j _=>⟨λa=>a.elim,λa=>Zo⟩,λ_ _ a=>a.elim,λi ad aZ=>by simp at aZ,λp j _ a=>Zo,λeh _ a=>Zo, ?_, ?_, ?_⟩
    ·intro t ad aZ
     rcases aZ with ⟨aa,a,_⟩|⟨_,M,R⟩
     ·exact a.elim
     ·exact aT.val t ad M R
    ·intro i _ aI
     have:=aG.S.lt _ aI;omega
    ·intro i _ _
     cases cf:ab C h (k+i)with
     |none=>rfl
     |some W=>have:=aG.S.uG _ W cf;omega
  ·simp at cv
end
end Go.al

namespace Go.al
open Go.RowKit (Below)
section
variable{C:aX}{K c1 dB:cY}{Z di dU:Nat->Prop}{h V:U an}{k av bg:Nat}{w bz:World}{n ap:Nat}{aq:Array Oper}
variable{bk:World}{bt:Nat}{bJ:List Frame}{v:H}{ah:g4}
variable{fn:Nat}{a8:List hj}{aB:Bool}{ro:Option Nat}{cs:List gi}{J:U H}{tmps:Array Value}{bs:List Item}{aC:List Frame}{bP aN:Nat}
theorem aiX{B:List dy}(id:Nat)(a:k4 C K Z ap B bs)(aW:exitTo id B=none):Go.exitTo id bs=none:=by
 induction a with
 |nil=>rfl
 |cons M R ah=>
  cases M<;>simp only[exitTo]at aW
  case inBlock sT=>
   rw[gX]at aW
   split at aW
   ·simp at aW
   ·rename_i E
    have:(sT==id)=false:=by simpa using E
    simp[Go.exitTo,this,ah aW]
  all_goals simp[Go.exitTo,ah aW]
theorem QK(aG:iB C bk bt bJ fn ap a8 aB ro cs h k K Z w bP aC){b:Nat}{st iz:LoopState}{p3 AL:Option Code}{gq aY kh:Nat}{cT:U H}{params:List Nat}{assign body:Code}{fU:Nat}
 (aS:C.bj<=b)(aI:Z b)(gC:ab C h b=some (.loop st p3 gq aY kh cT params assign body fU))(ax:∀c,AL=some c->ED c):
 ∃hi,w.heap[(K b).cq]? =some (.loop ⟨st,p3,gq,hi,params.toArray,assign,body,(K fU).cq⟩)/\MX C gq kh/\(∀c,p3=some c->ED c)/\
  iB C bk bt bJ fn ap a8 aB ro cs (bm C h b (some (.loop iz AL gq aY kh cT params assign body fU))) k K Z (w.putObj (K b).cq (.loop ⟨iz,AL,gq,hi,params.toArray,assign,body,(K fU).cq⟩)) bP aC:=by
 obtain⟨hi,he,md,s3,E2,AA,rQ,AB⟩:=aG.S.obj b _ gC aI
 obtain⟨bz,bN,cg,cH⟩:=putObj aG.S (cK:=bP) (o':= .loop ⟨iz,AL,gq,hi,params.toArray,assign,body,(K fU).cq⟩) (kY:= .loop iz AL gq aY kh cT params assign body fU) aS aI gC ⟨Zs,Zs⟩ he Zs
  (λbz pR=>⟨hi,pR,md,s3,E2,AA,ax,AB⟩) ⟨λ_ _ _ a=>(by cases a),λ_ _ _ a=>(by cases a)⟩
 rw[run_setObj_loop _ he]at bN
 simp only[Result.ok.injEq]at bN
 obtain⟨_,rfl⟩:=bN
 exact⟨hi,he,AB,rQ,aG.ext cg cH (Zj _)⟩
theorem UE(fW:mM C bk bt bJ ah){ad:H}{ca:Machine}(aG:iB C bk bt bJ fn ap a8 false ro cs h k K Z w bP aC)(dv:cs≠[])(yS:b0 Z ad)
 (qy:∀g iL,aC=g::iL->step C.P ca= .next (lone (g.finish (aD K ad)) iL w))(a:sj ah false cs ad h k=some v):Ends C bk bt bJ v ca:=by
 cases cs with
 |nil=>exact absurd rfl dv
 |cons c rest=>
  obtain⟨gq,aY,kh,cT,uT,fU,l8,iU,kJ⟩:=c
  obtain⟨qE,hi,hD,iL,rfl,bN,cg,cH,eK,eR,ed⟩:=aG.cs.inv
  refine .head (qy _ _ rfl) ?_
  cases l8 with
  |run=>
   have cv:Rk ah uT ⟨gq,aY,kh,fU,iU,kJ,rest⟩ ad cT h k=some v:=a
   cases uT with
   |nil=>simp[Rk]at cv
   |cons dY B=>exact DK fW ⟨aG.S,aG.kx,aG.hu,Zz eR aG.jE,cH,eK,ed⟩ bN aG.jE yS cv
  |returning=>simp[sj]at a
  |panicking fL=>simp[sj]at a
theorem QD(fW:mM C bk bt bJ ah){todo:List dy}{il:Option Code}(bK:(il=none/\bs=[])\/(il=some .ret/\∃B,bs= .code .ret::B)\/(∃id B,il=some (.exit id)/\bs= .code (.exit id)::B/\Go.exitTo id B=none))
 (aG:iB C bk bt bJ fn ap a8 aB ro cs h k K Z w bP aC)(aT:iR K Z n ap J tmps)
 (a:nC il ah C todo ⟨fn,n,ap,a8,aB,ro,cs⟩ J h k=some v):Ends C bk bt bJ v (lone (cl K fn a8 aB ro tmps bs .run) aC w):=by
 unfold nC at a
 cases ro with
 |some l=>
  simp only at a
  split at a
  ·rename_i st p3 gq aY kh cT params assign body fU gC
   simp only[d9,Zk,gK]at a
   obtain⟨⟨⟨BS,avg⟩,Ha⟩,a⟩:=a
   have Ha:aB=false:=by simpa using Ha
   subst Ha
   have aI:=aG.ht.ro l rfl
   have amD:∀c,il=some c->ED c:=by
    intro c ay
    subst ay
    rcases bK with ⟨E,_⟩|⟨E,_⟩|⟨id,B,E,_⟩
    ·cases E
    ·cases E;exact .inl rfl
    ·cases E;exact .inr ⟨id,rfl⟩
   obtain⟨hi,he,AB,_,xg⟩:=QK aG (iz:=bC il.isNone .ready .done) (AL:=il) (iT BS) aI gC amD
   have dv:cs≠[]:=λE=>by have:=(aG.bot E).2.2;cases this
   refine UE (ad:= .bool il.isNone) fW xg dv trivial (λg iL E=> ?_) a
   subst E
   refine asL bK ?_
   have:=run_endRound (P:=C.P) il he
   rw[this]
   cases il<;>rfl
  ·simp at a
 |none=>
  simp only[d9]at a
  have cV:Bb C bk bt bJ .returning todo fn n ap a8 aB none cs J h k K Z w bP tmps bs aC:=⟨aG.S,aG.kx,aG.hu,aG.jE,aG.ht,trivial,aG.bot,aG.cs,aT⟩
  have b7:=fW _ _ _ _ _ _ _ _ _ _ _ _ v a.2 K Z w bP tmps bs aC cV
  rcases bK with ⟨rfl,rfl⟩|⟨rfl,B,rfl⟩|⟨id,B,rfl,rfl,_⟩
  ·exact .head asx b7
  ·exact .head asJ b7
  ·simp[Ql]at a
theorem arc(cF:Env C bk dB dU)(fW:mM C bk bt bJ ah){f:Operand}{params:Array Nat}{assign body:Code}{B:List dy}(aG:iB C bk bt bJ fn ap a8 aB ro cs h k K Z w bP aC)(aT:iR K Z n ap J tmps)
 (dg:la C ap (.rangeFunc f params assign body)=true)(aP:k4 C K Z ap B bs)(a:Iy f params assign body ah C B ⟨fn,n,ap,a8,aB,ro,cs⟩ J h k=some v):
 Ends C bk bt bJ v (lone (cl K fn a8 aB ro tmps (.code (.rangeFunc f params assign body)::bs) .run) aC w):=by
 simp only[la,Zk]at dg
 obtain⟨b5,XC,gC⟩:=dg
 unfold Iy at a
 split at a
 ·rename_i g first fl Od aQ EQ ahZ Gi Ro qj aW e2
  cases e2
  obtain⟨bF,cB⟩:=Vr aG.hu aT b5 aW
  have n5:∀(b:Nat) (kr:World),(resolve (kq tmps) {callee:= .value f,args:= #[.const (.func (.yield b) #[] #[])],argTypes:= #[]} 0).run C.P kr=
   .ok ⟨.fn (.func g) (bI K fl).toArray,(bI K first).toArray++ #[.func (.yield b) #[] #[]]⟩ kr:=by
   intro b kr
   have NZ:kq tmps (.const (.func (.yield b) #[] #[]))= .func (.yield b) #[] #[]:=rfl
   simp[resolve,bF,aD,mm,Deferred.ofValue,NZ]
  have WW:∀(b:Nat) (yf:cY) (mh:Nat->Prop) (bb:U an) (CB:Nat) (kr:World) (so:List gi) (vC:List Frame) (cK:Nat) (cd:Nat),(∀x,Z x->yf x=K x)->(∀x,Z x->mh x)->mh cd->(yf cd).cq=b->
   cS C yf mh bb CB bk.heap.size kr->Below bk.heap.size bk kr->q1 C yf mh->cK<=CB->nM C yf mh bb bt bJ cK so vC->so≠[]->nj ah C g (first++[.func (.yield cd) [] []]++fl) false so bb CB=some v->
   ∃args,(invoke (.fn (.func g) (bI K fl).toArray) ((bI K first).toArray++ #[.func (.yield b) #[] #[]])).run C.P kr= .ok (.enter g args) kr/\Ends C bk bt bJ v (lone (Frame.enter C.P g args .normal) vC kr):=by
   intro b yf mh bb CB kr so vC cK cd dt f5 gY ai rD np KK qv hM dv a
   have alP:dW mh (first++[.func (.yield cd) [] []]++fl):=yP (yP (qp f5 _ cB.2.1) ⟨⟨gY,trivial,trivial⟩,trivial⟩) (qp f5 _ cB.2.2)
   refine⟨(bI yf (first++[.func (.yield cd) [] []]++fl)).toArray, ?_,JX fW rD np KK qv hM (λE=>absurd E dv) alP a⟩
   have G8:∃func c,C.P.funcs[g]? =some func/\func.body=some c:=by
    unfold nj at a
    split at a
    ·rename_i func pE
     split at a
     ·rename_i c ay;exact⟨func,c,pE,ay⟩
     ·simp at a
    ·simp at a
   obtain⟨func,c,pE,ay⟩:=G8
   have aS:func.name≠ "runtime.NumGoroutine":=by simpa using cF.j9.num g func pE (by simp[ay])
   have vI:(bI yf (first++[.func (.yield cd) [] []]++fl)).toArray=((bI K first).toArray++ #[.func (.yield b) #[] #[]])++(bI K fl).toArray:=by
    rw[Bn,Bn,wU dt cB.2.1,wU dt cB.2.2]
    simp[bI,aD,mm,ai]
   rw[vI]
   simp[invoke,callFunc,pE,aS,ay]
  cases ro with
  |none=>
   simp only[li]at a
   have nt:=qJ aG.S
   have rD:=aG.S.alloc (b:=k) (av:=k+1) (pl:=⟨w.heap.size,0,0⟩) (cJ:= .deferred (some [])) (W:= .deferred (some [])) (V:=bm C h k (some (.deferred (some [])))) aG.S.bj (YE _) (Yc _) nt aG.eP rfl
    (by rw[e3 _ aG.S.bj,Zr rfl]) (λx ag=> .inl (by rw[e3 _ aG.S.bj,Zg ag])) ⟨by rw[World.alloc_heap_new];rfl,λl aE=>by cases aE;simp⟩ ⟨λ_ _ _ a=>(by cases a),λ_ _ _ a=>(by cases a)⟩
   have HL:hS C k K Z h bk.heap.size w (f0 K k ⟨w.heap.size,0,0⟩) (add Z k) (bm C h k (some (.deferred (some [])))) (w.alloc (.deferred (some []))):=
    ⟨p8 nt,λ_ a=> .inl a,λj a=>a.elim .inl (λa=> .inr Zo),λx _ cR=>by rw[e3 _ aG.S.bj,Zg Zo],Below.alloc (Below.refl _ _) aG.eP _⟩
   have pJ:C.bj<=k+1:=Nat.le_succ_of_le aG.S.bj
   have Xx:=qJ rD
   have Wh:bk.heap.size<=(w.alloc (.deferred (some []))).heap.size:=by rw[World.size_alloc];have:=aG.eP;omega
   have ι:(f0 K k ⟨w.heap.size,0,0⟩ k)=⟨w.heap.size,0,0⟩:=kP ..
   have Lp:=p8 (K:=f0 K k ⟨w.heap.size,0,0⟩) (pl:=⟨w.heap.size+1,0,0⟩) Xx
   have ha:=rD.alloc (b:=k+1) (av:=k+2) (pl:=⟨w.heap.size+1,0,0⟩) (cJ:= .loop .ready none fn n ap J params.toList assign body k) (W:= .loop {state:= .ready,pending:=none,fn,tmps,params,assign,body,defers:=w.heap.size})
    (V:=bm C (bm C h k (some (.deferred (some [])))) (k+1) (some (.loop .ready none fn n ap J params.toList assign body k))) pJ (YE _) (Yc _) Xx Wh (by rw[World.size_alloc])
    (by rw[e3 _ pJ,Zr rfl]) (λx ag=> .inl (by rw[e3 _ pJ,Zg ag]))
    ⟨tmps,by
     rw[show(⟨w.heap.size+1,0,0⟩:lN).cq=(w.alloc (.deferred (some []))).heap.size by rw[World.size_alloc],World.alloc_heap_new,Lp k (.inr rfl),ι],
     (aT.af HL.hW HL.iH).af Lp (λ_ a=> .inl a), .inl (.inr rfl),XC,gC,λc ay=>(by cases ay),aG.ht.fn⟩
    ⟨λ_ _ _ a=>(by cases a),λ_ _ _ a=>(by cases a)⟩
   have Qc:hS C (k+1) (f0 K k ⟨w.heap.size,0,0⟩) (add Z k) (bm C h k (some (.deferred (some [])))) bk.heap.size (w.alloc (.deferred (some []))) (f0 (f0 K k ⟨w.heap.size,0,0⟩) (k+1) ⟨w.heap.size+1,0,0⟩) (add (add Z k) (k+1))
    (bm C (bm C h k (some (.deferred (some [])))) (k+1) (some (.loop .ready none fn n ap J params.toList assign body k))) ((w.alloc (.deferred (some []))).alloc (.loop {state:= .ready,pending:=none,fn,tmps,params,assign,body,defers:=w.heap.size})):=
    ⟨Lp,λ_ a=> .inl a,λj a=>a.elim .inl (λa=> .inr Zo),λx _ cR=>by rw[e3 _ pJ,Zg Zo],Below.alloc (Below.refl _ _) Wh _⟩
   have ag:=HL.trans (Yc k) Qc
   have mU:=aG.ext ha (ag.mono aG.jE) (Zz (Yc _) (Yc _))
   have alM:vf C (add (add Z k) (k+1)) fn ap (⟨.collected k,[]⟩::a8) none:=⟨λd aI=>by
    rcases Zl.1 aI with rfl|aI
    ·exact⟨.inl (.inr rfl),trivial⟩
    ·exact mU.ht.a8 d aI,mU.ht.ro,mU.ht.fn⟩
   have HF:lO C (f0 (f0 K k ⟨w.heap.size,0,0⟩) (k+1) ⟨w.heap.size+1,0,0⟩) (add (add Z k) (k+1)) (bm C (bm C h k (some (.deferred (some [])))) (k+1) (some (.loop .ready none fn n ap J params.toList assign body k))) bP (k+2) n ap J tmps
    (.inRangeFunc (k+1)::B) (.inRangeFunc (w.heap.size+1)::bs):=by
    have:=lO.ef (bP:=bP) (aN:=k+2) (h:=bm C (bm C h k (some (.deferred (some [])))) (k+1) (some (.loop .ready none fn n ap J params.toList assign body k))) (aP.af ag.hW ag.iH) (aT.af ag.hW ag.iH) (l:=k+1) (.inr rfl)
    rw[kP]at this
    exact this
   have qv:bP<=k+2:=by have:=aG.jE;omega
   obtain⟨args,b9,b3⟩:=WW (w.heap.size+1) _ _ _ _ _ _ _ (k+2) (k+1) ag.hW ag.iH (.inr rfl) (by rw[kP]) ha mU.kx mU.hu (Zj _)
    (.cons (bG:= .run) HF trivial alM aG.bot qv mU.cs) Zs a
   refine .head (ab4 (run_enterLoop_outer fn tmps params assign body) (n5 _ _) b9) ?_
   have tX:({cl K fn a8 aB none tmps (.inRangeFunc (w.heap.size+1)::bs) .run with defers:=[{target:= .collected w.heap.size,args:= #[]}]++a8.map (k7 K)}:Frame)=
    cl (f0 (f0 K k ⟨w.heap.size,0,0⟩) (k+1) ⟨w.heap.size+1,0,0⟩) fn (⟨.collected k,[]⟩::a8) aB none tmps (.inRangeFunc (w.heap.size+1)::bs) .run:=by
    have E:a8.map (k7 (f0 (f0 K k ⟨w.heap.size,0,0⟩) (k+1) ⟨w.heap.size+1,0,0⟩))=a8.map (k7 K):=YA λd aI=>NA ag.hW (aG.ht.a8 d aI)
    have fh:k7 (f0 (f0 K k ⟨w.heap.size,0,0⟩) (k+1) ⟨w.heap.size+1,0,0⟩) ⟨.collected k,[]⟩={target:= .collected w.heap.size,args:= #[]}:=by
     simp only[k7,Bj,bI]
     rw[Lp k (.inr rfl),ι]
    simp only[cl,Zy,E,fh,List.cons_append,YU,Y7]
   rw[tX]
   exact b3
  |some l=>
   simp only[li]at a
   split at a
   ·rename_i st p3 gq aY kh cT avY at1 at6 fU aE
    have aI:=aG.ht.ro l rfl
    obtain⟨hi,he,md,s3,E2,AA,rQ,AB⟩:=aG.S.obj l _ aE aI
    have nt:=qJ aG.S
    have Qh:=p8 (K:=K) (pl:=⟨w.heap.size,0,0⟩) nt
    have ha:=aG.S.alloc (b:=k) (av:=k+1) (pl:=⟨w.heap.size,0,0⟩) (cJ:= .loop .ready none fn n ap J params.toList assign body fU) (W:= .loop {state:= .ready,pending:=none,fn,tmps,params,assign,body,defers:=(K fU).cq})
     (V:=bm C h k (some (.loop .ready none fn n ap J params.toList assign body fU))) aG.S.bj (YE _) (Yc _) nt aG.eP rfl
     (by rw[e3 _ aG.S.bj,Zr rfl]) (λx ag=> .inl (by rw[e3 _ aG.S.bj,Zg ag]))
     ⟨tmps,by rw[World.alloc_heap_new,Qh fU s3],aT.af Qh (λ_ a=> .inl a), .inl s3,XC,gC,λc ay=>(by cases ay),aG.ht.fn⟩
     ⟨λ_ _ _ a=>(by cases a),λ_ _ _ a=>(by cases a)⟩
    have ag:hS C k K Z h bk.heap.size w (f0 K k ⟨w.heap.size,0,0⟩) (add Z k) (bm C h k (some (.loop .ready none fn n ap J params.toList assign body fU))) (w.alloc (.loop {state:= .ready,pending:=none,fn,tmps,params,assign,body,defers:=(K fU).cq})):=
     ⟨Qh,λ_ a=> .inl a,λj a=>a.elim .inl (λa=> .inr Zo),λx _ cR=>by rw[e3 _ aG.S.bj,Zg Zo],Below.alloc (Below.refl _ _) aG.eP _⟩
    have mU:=aG.ext ha (ag.mono aG.jE) (Yc _)
    have HF:lO C (f0 K k ⟨w.heap.size,0,0⟩) (add Z k) (bm C h k (some (.loop .ready none fn n ap J params.toList assign body fU))) bP (k+1) n ap J tmps (.inRangeFunc k::B) (.inRangeFunc w.heap.size::bs):=by
     have:=lO.ef (bP:=bP) (aN:=k+1) (h:=bm C h k (some (.loop .ready none fn n ap J params.toList assign body fU))) (aP.af ag.hW ag.iH) (aT.af ag.hW ag.iH) (l:=k) (.inr rfl)
     rw[kP]at this
     exact this
    have qv:bP<=k+1:=by have:=aG.jE;omega
    obtain⟨args,b9,b3⟩:=WW w.heap.size _ _ _ _ _ _ _ (k+1) k ag.hW ag.iH (.inr rfl) (by rw[kP]) ha mU.kx mU.hu (Zj _)
     (.cons (bG:= .run) HF trivial mU.ht aG.bot qv mU.cs) Zs a
    have alF:(Instr.enterLoop fn tmps params assign body ((some l).map λl=>(K l).cq)).run C.P w= .ok (w.heap.size,[]) (w.alloc (.loop {state:= .ready,pending:=none,fn,tmps,params,assign,body,defers:=(K fU).cq})):=by
     unfold Instr.enterLoop
     simp only[ZT,Sem.run_bind,run_getLoop he,run_newObj_alloc,Result.andThen,Sem.run_pure]
    refine .head (ab4 alF (n5 _ _) b9) ?_
    have tX:({cl K fn a8 aB (some l) tmps (.inRangeFunc w.heap.size::bs) .run with defers:=[]++a8.map (k7 K)}:Frame)=cl K fn a8 aB (some l) tmps (.inRangeFunc w.heap.size::bs) (gj K .run):=rfl
    rw[tX, <-EU ag.hW aG.ht]
    exact b3
   ·simp at a
 ·simp at a
theorem UW(cF:Env C bk dB dU)(fW:mM C bk bt bJ ah)(aG:iB C bk bt bJ fn ap a8 aB ro cs h k K Z w bP aC)(aT:iR K Z n ap J tmps):∀(c:Code) (B:List dy) (bs:List Item),la C ap c=true->k4 C K Z ap B bs->
 ts c ah C B ⟨fn,n,ap,a8,aB,ro,cs⟩ J h k=some v->Ends C bk bt bJ v (lone (cl K fn a8 aB ro tmps (.code c::bs) .run) aC w):=by
 intro c
 have go:∀B bs,k4 C K Z ap B bs->ah .run B ⟨fn,n,ap,a8,aB,ro,cs⟩ J h k=some v->Ends C bk bt bJ v (lone (cl K fn a8 aB ro tmps bs .run) aC w):=
  λB bs aP a=>fW _ _ _ _ _ _ _ _ _ _ _ _ v a K Z w bP tmps bs aC (aG.state (.plain aP aT))
 induction c with
 |skip=>intro B bs _ aP a;exact .head asO (go B bs aP a)
 |region id aq yF=>intro B bs _ aP a;exact ark cF fW aG aP aT a
 |seq I b l5 hb=>
  intro B bs dg aP a
  simp only[la,Zk]at dg
  exact .head asN (l5 (.code b::B) (.code b::bs) dg.1 (.cons (.code dg.2) aP) a)
 |cond c I b l5 hb=>
  intro B bs dg aP a
  simp only[la,Zk]at dg
  have cv:Gf c J (ts I ah C B ⟨fn,n,ap,a8,aB,ro,cs⟩ J h k) (ts b ah C B ⟨fn,n,ap,a8,aB,ro,cs⟩ J h k)=some v:=a
  simp only[Gf,nD]at cv
  split at cv
  ·rename_i ad aZ
   obtain⟨bF,_⟩:=Vr aG.hu aT dg.1 aZ
   cases ad with
   |bool t=>
    refine .head (asv (t:=t) (by rw[bF];rfl)) ?_
    cases t with
    |true=>exact l5 B bs dg.2.1 aP cv
    |false=>exact hb B bs dg.2.2 aP cv
   |_=>simp at cv
  ·simp at cv
 |block id b hb=>intro B bs dg aP a;exact .head asu (hb (.inBlock id::B) (.inBlock id::bs) dg (.cons .inBlock aP) a)
 |loop b hb=>intro B bs dg aP a;exact .head asE (hb (.inLoop b::B) (.inLoop b::bs) dg (.cons (.inLoop dg) aP) a)
 |rangeFunc f params assign body _ _=>intro B bs dg aP a;exact arc cF fW aG aT dg aP a
 |exit id=>
  intro B bs _ aP a
  have cv:yH id ah C B ⟨fn,n,ap,a8,aB,ro,cs⟩ J h k=some v:=a
  unfold yH at cv
  split at cv
  ·rename_i eA aW
   obtain⟨hD,b9,b3⟩:=aiY id aP aW
   exact .head (asz b9) (go eA hD b3 cv)
  ·rename_i aW
   exact QD fW (.inr (.inr ⟨id,bs,rfl,rfl,aiX id aP aW⟩)) aG aT cv
 |scope b hb=>intro B bs dg aP a;exact .head asM (hb (.inScope b::B) (.inScope b::bs) dg (.cons (.inScope dg) aP) a)
 |label l=>intro B bs _ aP a;exact .head asD (go B bs aP a)
 |goto l=>intro B bs _ _ a;exact absurd a (by simp[ts,Cz])
 |ret=>intro B bs _ aP a;exact QD fW (.inr (.inl ⟨rfl,bs,rfl⟩)) aG aT a
 |refuse s=>intro B bs _ _ a;exact absurd a (by simp[ts,Cz])
theorem ars(aG:cS C K Z h k bg w)(aT:iR K Z n ap J tmps){bS:ResultVar->Sem Value}(hl:∀t,bS (.tmp t)=pure (tmps.getD t Go.undef))(dl:∀I t,bS (.cell I t)=do loadVar t (<-asAddr (tmps.getD I Go.undef))):
 ∀(l:List ResultVar) (br:List H),xY ap l=true->wp C h J l=some br->(l.mapM bS).run C.P w= .ok (bI K br) w/\dW Z br:=by
 intro l
 induction l with
 |nil=>intro br _ a;simp[wp]at a;subst a;exact⟨by simp[bI],trivial⟩
 |cons x l ah=>
  intro br dg a
  cases x with
  |tmp t=>
   simp only[xY,Zk]at dg
   simp only[wp]at a
   split at a
   ·rename_i ad r aZ S
    simp at a;subst a
    obtain⟨M,R⟩:=aT.val t ad dg.1 aZ
    obtain⟨au,aM⟩:=ah r dg.2 S
    refine⟨?_,R,aM⟩
    simp[zc,hl,M,au,bI]
   ·simp at a
  |cell I t=>
   simp only[xY,Zk]at dg
   simp only[wp]at a
   split at a
   ·rename_i p ax
    split at a
    ·rename_i ad r aZ S
     simp at a;subst a
     obtain⟨M,R⟩:=aT.val I p dg.1 ax
     obtain⟨au,aM⟩:=ah r dg.2 S
     obtain⟨bA,cr⟩:=Uk aG R aZ
     refine⟨?_,cr,aM⟩
     cases p with
     |ptr b W=>
      simp only[Instr.loadAt,Instr.sureAddr,aD,Sem.run_bind,Sem.run_pure,Result.andThen_ok]at bA
      simp[zc,dl,M,aD,asAddr,bA,au,bI]
     |_=>simp[oH,cL,ao]at aZ;split at aZ<;>simp at aZ
    ·simp at a
   ·simp at a
theorem aqb(br:List H):(if a:(bI K br).toArray.size=1 then(bI K br).toArray[0]else Value.tuple (bI K br).toArray)=aD K (one br):=by
 match br with
 |[]=>simp[one,bI,aD]
 |[I]=>simp[one,bI]
 |I::b::r=>simp[one,bI,aD]
theorem aqa{br:List H}(a:dW Z br):b0 Z (one br):=by
 match br,a with
 |[],a=>exact a
 |[I],a=>exact a.1
 |I::b::r,a=>exact a
theorem iB.defs(aG:iB C bk bt bJ fn ap a8 aB ro cs h k K Z w bP aC){fU:List hj}(a:∀d∈fU,vA Z d):iB C bk bt bJ fn ap fU aB ro cs h k K Z w bP aC:=
 ⟨aG.S,aG.kx,aG.hu,aG.jE,⟨a,aG.ht.ro,aG.ht.fn⟩,aG.bot,aG.cs⟩
theorem iB.R5{todo:List dy}{bG:ks}(Ho:bG≠ .run)(bV:px Z bG)(aG:iB C bk bt bJ fn ap a8 aB ro cs h k K Z w bP aC)(aT:iR K Z n ap J tmps):
 Bb C bk bt bJ bG todo fn n ap a8 aB ro cs J h k K Z w bP tmps bs aC:=by
 cases bG with
 |run=>exact absurd rfl Ho
 |returning=>exact⟨aG.S,aG.kx,aG.hu,aG.jE,aG.ht,bV,aG.bot,aG.cs,aT⟩
 |panicking fL=>exact⟨aG.S,aG.kx,aG.hu,aG.jE,aG.ht,bV,aG.bot,aG.cs,aT⟩
theorem U9(cF:Env C bk dB dU)(fW:mM C bk bt bJ ah){d:hj}{ds:List hj}{bG:ks}{todo:List dy}(Ho:bG≠ .run)(bV:px Z bG)(aG:iB C bk bt bJ fn ap (d::ds) aB ro cs h k K Z w bP aC)(aT:iR K Z n ap J tmps)
 (a:wt d ds bG todo ah C ⟨fn,n,ap,[],aB,ro,cs⟩ J h k=some v):Ends C bk bt bJ v (lone (cl K fn (d::ds) aB ro tmps bs (gj K bG)) aC w):=by
 have KM:vA Z d:=aG.ht.a8 d (Zq ..)
 have W6:∀d∈ds,vA Z d:=λkS aI=>aG.ht.a8 kS (Zn _ aI)
 have WP:gj K bG≠ .run:=by cases bG<;>simp[gj]at Ho ⊢
 unfold wt at a
 split at a
 rename_i Od aQ EQ ahZ Gi Ro qj e2
 cases e2
 split at a
 ·rename_i r cm
  split at a
  ·rename_i oL gC
   simp only[d9,gK]at a
   obtain⟨BS,a⟩:=a
   have aI:Z r:=KM.1
   obtain⟨he,md⟩:=aG.S.obj r _ gC aI
   simp only[ZT]at he
   obtain⟨bz,bN,cg,cH⟩:=putObj aG.S (cK:=bP) (o':= .deferred none) (kY:= .deferred none) (iT BS) aI gC ⟨Zs,Zs⟩ he Zs
    (λbz pR=>⟨by simpa using pR,λl aE=>by cases aE⟩) ⟨λ_ _ _ a=>(by cases a),λ_ _ _ a=>(by cases a)⟩
   have Li:(Instr.takeDeferred (K r).cq).run C.P w= .ok (oL.map (k7 K)) bz:=by
    have E:bz=w.putObj (K r).cq (.deferred none):=by
     have:(Go.setObj (K r).cq (.deferred none)).run C.P w= .ok () (w.putObj (K r).cq (.deferred none)):=by simp[Go.setObj,Sem.run,he,World.putObj]
     rw[this]at bN
     simp only[Result.ok.injEq]at bN
     exact bN.2.symm
    rw[E]
    exact run_takeDeferred he
   refine .head (asP (di:=oL++ds) WP Li (by rw[Yv])) ?_
   have alt:∀d∈oL++ds,vA Z d:=λkS rp=>by
    rcases Zw.1 rp with ar|ar
    ·exact md oL rfl kS ar
    ·exact W6 kS ar
   have xg:=(aG.defs alt).ext cg cH (Zj _)
   exact fW _ _ _ _ _ _ _ _ _ _ _ _ v a K Z bz bP tmps bs aC (xg.R5 Ho bV aT)
  ·simp at a
 ·rename_i f fl args
  split at a
  ·rename_i g cm Pm
   have lA:=υ (K:=K) (h:=h) (k:=k) (bg:=bk.heap.size) (w:=w) cF.j9 KM.1.1 KM.1.2 KM.2 Pm
   obtain⟨M,R⟩:=lA
   have qy:=step_defer (P:=C.P) (fr:=cl K fn (⟨.fn f fl,args⟩::ds) aB ro tmps bs (gj K bG)) (cs:=aC) (w:=w) (d:=k7 K ⟨.fn f fl,args⟩) (ds:=ds.map (k7 K)) WP rfl rfl M
   refine .head qy ?_
   have aH:yq C K Z h bP k n ap J tmps bG todo bs:=by
    cases bG with
    |run=>exact absurd rfl Ho
    |_=>exact aT
   exact Vn (Bo:=true) fW aG.S aG.kx aG.hu (Zj _) (.cons (bG:=bG) aH bV ((aG.defs W6).ht) aG.bot aG.jE aG.cs) (λE=>by cases E) R a
  ·simp at a
theorem aia(K:cY):∀(l:List qX),(l.map (sl K)).dropWhile (!·.goexit)=[]:=by
 intro l
 induction l with
 |nil=>rfl
 |cons I l ah=>simp[sl,ah]
theorem ar4(K:cY)(fL:List qX):settle (gj K (.panicking fL))=gj K (wy fL):=by
 cases fL with
 |nil=>rfl
 |cons p l=>
  obtain⟨v,r⟩:=p
  cases r with
  |false=>simp[gj,settle,wy,sl]
  |true=>simp[gj,settle,wy,sl,aia]
theorem ate{fL:List qX}(a:px Z (.panicking fL)):px Z (wy fL):=by
 unfold wy
 split
 ·trivial
 ·exact a
theorem atf(fL:List qX):wy fL≠ .run:=by
 unfold wy
 split<;>simp
theorem arv(cF:Env C bk dB dU)(fW:mM C bk bt bJ ah){todo:List dy}(aG:iB C bk bt bJ fn ap a8 aB ro cs h k K Z w bP aC)(aT:iR K Z n ap J tmps)
 (a:II todo ah C ⟨fn,n,ap,a8,aB,ro,cs⟩ J h k=some v):Ends C bk bt bJ v (lone (cl K fn a8 aB ro tmps bs .returning) aC w):=by
 unfold II at a
 cases a8 with
 |cons d ds=>exact U9 (bG:= .returning) cF fW Zs trivial aG aT a
 |nil=>
  simp only at a
  split at a
  ·rename_i f b5
   obtain⟨Vt,pE,n5⟩:=aG.ht.fn
   rw[b5]at pE;cases pE
   split at a
   ·rename_i br HK
    have nu:(results f tmps).run C.P w= .ok (aD K (one br)) w/\dW Z br:=by
     unfold results
     rw[Sem.run_bind,Array.mapM_eq_mapM_toList,Sem.run_map]
     obtain⟨eH,fk⟩:=ars aG.S aT (bS:=λx=>match x with| .tmp t=>pure (tmps.getD t Go.undef)| .cell I t=>do loadVar t (<-asAddr (tmps.getD I Go.undef))) (λ_=>rfl) (λ_ _=>rfl) _ _ n5 HK
     refine⟨?_,fk⟩
     refine(congrArg (λr=>Result.andThen (Result.andThen r _) _) eH).trans ?_
     simp only[Result.andThen_ok,Sem.run_pure]
     rw[<-aqb]
    obtain⟨nu,akl⟩:=nu
    cases aB with
    |false=>
     have KY:(cl K fn [] false ro tmps bs .returning).leaving C.P w (.returned (aD K (one br))):=⟨rfl,rfl,rfl,f,b5,nu⟩
     cases cs with
     |nil=>
      simp only[sj,iF,Ze]at a
      subst a
      obtain⟨dr,eu,eI⟩:=aG.bot rfl
      have hM:=aG.cs
      cases hM with
      |nil=>exact⟨K,w,_, .refl _ _,KY,dr,aG.kx⟩
     |cons c rest=>
      refine UE fW aG Zs (aqa akl) (λg iL E=> ?_) a
      subst E
      exact step_leave_returned KY
    |true=>
     cases cs with
     |nil=>have:=(aG.bot rfl).2.1;cases this
     |cons c rest=>
      obtain⟨gq,aY,kh,cT,uT,fU,l8,iU,kJ⟩:=c
      obtain⟨qE,hi,hD,iL,rfl,bN,cg,cH,eK,eR,ed⟩:=aG.cs.inv
      have qy:=step_going_returned (P:=C.P) (fr:=cl K fn [] true ro tmps bs .returning) (c:=cl K gq fU iU kJ hi hD (gj K l8)) (cs:=iL) (w:=w) (v:=aD K (one br)) rfl ⟨rfl,rfl,f,b5,nu⟩
      refine .head qy ?_
      cases l8 with
      |run=>simp[sj]at a
      |returning=>
       have cv:ah .returning uT ⟨gq,aY,kh,fU,iU,kJ,rest⟩ cT h k=some v:=a
       exact fW _ _ _ _ _ _ _ _ _ _ _ _ v cv K Z w qE hi hD iL ⟨aG.S,aG.kx,aG.hu,Zz eR aG.jE,cH,trivial,eK,ed,bN⟩
      |panicking fL=>
       have cv:ah (wy fL) uT ⟨gq,aY,kh,fU,iU,kJ,rest⟩ cT h k=some v:=a
       have E:({cl K gq fU iU kJ hi hD (gj K (.panicking fL))with mode:=settle (cl K gq fU iU kJ hi hD (gj K (.panicking fL))).mode}:Frame)=cl K gq fU iU kJ hi hD (gj K (wy fL)):=by
        rw[show(cl K gq fU iU kJ hi hD (gj K (.panicking fL))).mode=gj K (.panicking fL) from rfl,ar4]
        rfl
       rw[E]
       have ai:iB C bk bt bJ gq kh fU iU kJ rest h k K Z w qE iL:=⟨aG.S,aG.kx,aG.hu,Zz eR aG.jE,cH,eK,ed⟩
       exact fW _ _ _ _ _ _ _ _ _ _ _ _ v cv K Z w qE hi hD iL (ai.R5 (atf fL) (ate cg) bN)
   ·simp at a
  ·simp at a
theorem aq9(K:cY)(fL:List qX)(bG:ks):raised (gj K bG) (fL.map (sl K))=gj K (CM fL bG):=by
 cases bG<;>simp[gj,raised,CM]
theorem aqX{fL:List qX}{bG:ks}(a:px Z (.panicking fL))(cv:px Z bG):px Z (CM fL bG):=by
 cases bG with
 |panicking lr=>
  intro p ax
  rcases Zw.1 ax with ar|ar
  ·exact a p ar
  ·exact cv p ar
 |_=>exact a
theorem aqt(cF:Env C bk dB dU)(fW:mM C bk bt bJ ah){todo:List dy}{fL:List qX}(bV:px Z (.panicking fL))(aG:iB C bk bt bJ fn ap a8 aB ro cs h k K Z w bP aC)(aT:iR K Z n ap J tmps)
 (a:IH fL todo ah C ⟨fn,n,ap,a8,aB,ro,cs⟩ J h k=some v):Ends C bk bt bJ v (lone (cl K fn a8 aB ro tmps bs (gj K (.panicking fL))) aC w):=by
 unfold IH at a
 cases a8 with
 |cons d ds=>exact U9 (bG:= .panicking fL) cF fW Zs bV aG aT a
 |nil=>
  simp only at a
  cases cs with
  |nil=>simp at a
  |cons c rest=>
   obtain⟨gq,aY,kh,cT,uT,fU,l8,iU,kJ⟩:=c
   obtain⟨qE,hi,hD,iL,rfl,bN,cg,cH,eK,eR,ed⟩:=aG.cs.inv
   obtain⟨f,b5,_⟩:=aG.ht.fn
   have qy:=step_going_panicked (P:=C.P) (fr:=cl K fn [] aB ro tmps bs (gj K (.panicking fL))) (c:=cl K gq fU iU kJ hi hD (gj K l8)) (cs:=iL) (w:=w) (chain:=fL.map (sl K)) ⟨rfl,rfl,f,b5⟩
   refine .head qy ?_
   have E:({cl K gq fU iU kJ hi hD (gj K l8)with mode:=raised (cl K gq fU iU kJ hi hD (gj K l8)).mode (fL.map (sl K))}:Frame)=cl K gq fU iU kJ hi hD (gj K (CM fL l8)):=by
    rw[show(cl K gq fU iU kJ hi hD (gj K l8)).mode=gj K l8 from rfl,aq9]
    rfl
   rw[E]
   have cv:ah (CM fL l8) uT ⟨gq,aY,kh,fU,iU,kJ,rest⟩ (tx uT cT) h k=some v:=a
   have ai:iB C bk bt bJ gq kh fU iU kJ rest h k K Z w qE iL:=⟨aG.S,aG.kx,aG.hu,Zz eR aG.jE,cH,eK,ed⟩
   exact fW _ _ _ _ _ _ _ _ _ _ _ _ v cv K Z w qE hi hD iL (ai.R5 (by cases l8<;>simp[CM]) (aqX bV cg) bN.drop)
theorem ab6(cF:Env C bk dB dU)(oZ:mM C bk bt bJ ah):mM C bk bt bJ λbG todo bS J h k=>RI ah C bG todo bS J h k:=by
 intro bG todo fn n ap a8 aB ro cs J h k v cv K Z w cK tmps bs aC cV
 cases bG with
 |run=>
  obtain⟨aG,aT⟩:=cV.agS
  have R:ab7 todo ah C ⟨fn,n,ap,a8,aB,ro,cs⟩ J h k=some v:=cv
  cases aT with
  |plain aP Ep=>
   cases aP with
   |nil=>
    have au:nC none ah C [] ⟨fn,n,ap,a8,aB,ro,cs⟩ J h k=some v:=R
    exact QD oZ (.inl ⟨rfl,rfl⟩) aG Ep au
   |cons aN aP=>
    rename_i I x B bs
    have au:χ I ah C B ⟨fn,n,ap,a8,aB,ro,cs⟩ J h k=some v:=R
    have go:∀B bs,k4 C K Z ap B bs->ah .run B ⟨fn,n,ap,a8,aB,ro,cs⟩ J h k=some v->Ends C bk bt bJ v (lone (cl K fn a8 aB ro tmps bs .run) aC w):=
     λB bs aP a=>oZ _ _ _ _ _ _ _ _ _ _ _ _ v a K Z w cK tmps bs aC (aG.state (.plain aP Ep))
    cases aN with
    |code dg=>exact UW cF oZ aG Ep _ B bs dg aP au
    |inBlock=>exact .head asA (go B bs aP au)
    |inLoop dg=>exact .head asB (UW cF oZ aG Ep _ _ _ dg (.cons (.inLoop dg) aP) au)
    |inScope dg=>exact .head asC (go B bs aP au)
    |Bt aI=>
     rename_i l
     have aM:DD l ah C B ⟨fn,n,ap,a8,aB,ro,cs⟩ J h k=some v:=au
     unfold DD at aM
     split at aM
     ·rename_i st p3 gq aY kh cT params assign body fU gC
      have Ow:st≠ .busy->bC (ke C l) (iV (bm C h l (some (.loop .exhausted p3 gq aY kh cT params assign body fU))) λh=>ah .run ((p3.map dy.code).toList++B) ⟨fn,n,ap,a8,aB,ro,cs⟩ J h k) none=some v->
       Ends C bk bt bJ v (lone (cl K fn a8 aB ro tmps (.endRangeFunc (K l).cq::bs) .run) aC w):=by
       intro HE bA
       simp only[d9,gK]at bA
       obtain⟨BS,bA⟩:=bA
       have PK:∀c,p3=some c->ED c:=by
        obtain⟨_,_,_,_,_,_,rQ,_⟩:=aG.S.obj l _ gC aI
        exact rQ
       obtain⟨hi,he,AB,rQ,xg⟩:=QK aG (iz:= .exhausted) (AL:=p3) (iT BS) aI gC PK
       refine .head (asy (run_endLoop he HE)) ?_
       refine oZ _ _ _ _ _ _ _ _ _ _ _ _ v bA K Z _ cK tmps _ aC (xg.state (.plain ?_ Ep))
       cases p3 with
       |none=>exact aP
       |some c=>
        have ay:la C ap c=true:=by
         rcases rQ c rfl with rfl|⟨id,rfl⟩<;>rfl
        exact .cons (.code ay) aP
      cases st with
      |busy=>simp at aM
      |ready=>exact Ow Zs aM
      |done=>exact Ow Zs aM
      |exhausted=>exact Ow Zs aM
     ·simp at aM
    |begin=>
     have aM:F6 ah C B ⟨fn,n,ap,a8,aB,ro,cs⟩ J h k=some v:=au
     unfold F6 at aM
     cases ro with
     |none=>simp at aM
     |some l=>
      simp only at aM
      split at aM
      ·rename_i p3 gq aY kh cT params assign body fU gC
       simp only[d9,gK]at aM
       obtain⟨BS,aM⟩:=aM
       have aI:=aG.ht.ro l rfl
       have PK:∀c,p3=some c->ED c:=by
        obtain⟨_,_,_,_,_,_,rQ,_⟩:=aG.S.obj l _ gC aI
        exact rQ
       obtain⟨hi,he,AB,rQ,xg⟩:=QK aG (iz:= .busy) (AL:=p3) (iT BS) aI gC PK
       refine .head (ast (run_beginRound he rfl)) ?_
       exact oZ _ _ _ _ _ _ _ _ _ _ _ _ v aM K Z _ cK tmps bs aC (xg.state (.plain aP Ep))
      ·simp at aM
  |seq aP aH=>exact abX cF oZ _ _ _ _ _ _ _ _ _ _ aG aP aH R
  |drawn aP bA cr dM fC=>exact Vf cF oZ aG aP bA cr dM.dS dM fC R
 |returning=>
  have aG:iB C bk bt bJ fn ap a8 aB ro cs h k K Z w cK aC:=⟨cV.S,cV.kx,cV.hu,cV.jE,cV.ht,cV.bot,cV.cs⟩
  exact arv (todo:=todo) cF oZ aG cV.todo cv
 |panicking fL=>
  have aG:iB C bk bt bJ fn ap a8 aB ro cs h k K Z w cK aC:=⟨cV.S,cV.kx,cV.hu,cV.jE,cV.ht,cV.bot,cV.cs⟩
  exact aqt (todo:=todo) cF oZ cV.mode aG cV.todo cv
theorem arL(cF:Env C bk dB dU):∀n,mM C bk bt bJ (run C n):=by
 intro n
 induction n with
 |zero=>intro bG todo fn n ap a8 aB ro cs J h k v a;simp[run]at a
 |succ m oZ=>exact ab6 cF oZ
theorem arI(cF:Env C bk dB dU){m f:Nat}{args:List H}(jb:dW dU args)(a:Mj C m f args=some v):
 Calls C.P f (bI dB args).toArray bk λE bz=>(∃K,E= .returned (aD K v))/\Below bk.heap.size bk bz:=by
 intro qj
 have b7:Ends C bk f qj v (lone (Frame.enter C.P f (bI dB args).toArray .normal) qj bk):=
  JX (arL cF m) cF.base (Below.refl _ _) cF.hu (Zj _) .nil (λ_=>rfl) jb a
 obtain⟨K,bz,fr,M,R,au,aM⟩:=b7
 exact⟨.returned (aD K v),bz,fr,⟨⟨K,rfl⟩,aM⟩,M,au,R⟩
end
end Go.al

namespace Go.al
noncomputable section
open Go.RowKit (Below)
abbrev vh:=Option (List H×Nat×List (Nat×an))
def Cl(P:Program)(next:Nat->DataW Unit->Nat->vh):List Field->List (DataW Unit)->Nat->Nat->vh
 |[],[],_,n=>some ([],n,[])
 |f::mo,d::ds,off,n=>bC (Nat.beq f.offset off) (match next f.type d n with
  |some (l,aQ,os)=>bC (Nat.beq l.length (P.cellsOf f.type)) (match Cl P next mo ds (off+l.length) aQ with
   |some (c5,bp,rT)=>some (l++c5,bp,os++rT)
   |none=>none) none
  |none=>none) none
 |_,_,_,_=>none
def EJ(P:Program)(next:Nat->DataW Unit->Nat->vh)(E:Nat):List (DataW Unit)->Nat->vh
 |[],n=>some ([],n,[])
 |d::ds,n=>match next E d n with
  |some (l,aQ,os)=>bC (Nat.beq l.length (P.cellsOf E)) (match EJ P next E ds aQ with
   |some (c5,bp,rT)=>some (l++c5,bp,os++rT)
   |none=>none) none
  |none=>none
def HY:Lit->Option H
 | .bool b=>some (.bool b)
 | .int B n=>some (.int B n)
 | .string s=>some (.str (s.map (·.toNat)))
 |_=>none
def QA(P:Program)(E:Nat)(l:List H):Option H:=match P.underlying E with
 |some (.struct _)=>some (.agg l)
 |some (.array _ _)=>some (.agg l)
 |some _=>(match l with|[v]=>some v|_=>none)
 |none=>none
def L8(P:Program)(B:Nat):Bool:=match P.underlying B with|some .bool=>true|some (.int _)=>true|some .string=>true|_=>false
def H4(P:Program)(next:Nat->DataW Unit->Nat->vh)(E:Nat):List (Lit×DataW Unit)->Nat->Option (List (H×H)×Nat×List (Nat×an))
 |[],n=>some ([],n,[])
 |(key,d)::a2,n=>match HY key,next E d n with
  |some EF,some (l,aQ,os)=>(match QA P E l,H4 P next E a2 aQ with
   |some v,some (r,bp,rT)=>some ((EF,v)::r,bp,os++rT)
   |_,_=>none)
  |_,_=>none
def Fi(l:List H):an:= .cells (U.ofList l 0 .nil) l.length .own
def wa(P:Program):Nat->Nat->DataW Unit->Nat->vh
 |0,_,_,_=>none
 |m+1,t,d,n=>match P.underlying t,d with
  |some .bool, .lit (.bool b)=>some ([.bool b],n,[])
  |some (.int _), .lit (.int B i)=>some ([.int B i],n,[])
  |some .string, .lit (.string s)=>some ([.str (s.map (·.toNat))],n,[])
  |some (.pointer _), .nil=>some ([.cI],n,[])
  |some (.pointer E), .ptr d=>(match wa P m E d (n+1)with
   |some (l,aQ,os)=>bC (Nat.beq l.length (P.cellsOf E)&&Nat.blt 0 l.length) (some ([.ptr n 0],aQ,(n,Fi l)::os)) none
   |none=>none)
  |some (.slice _), .nil=>some ([.aU],n,[])
  |some (.slice E), .slice a2 ab1=>(match ab1 with
   |[]=>(match EJ P (wa P m) E a2 (n+1)with
    |some (l,aQ,os)=>bC (Nat.blt 0 l.length) (some ([.slice n 0 a2.length a2.length],aQ,(n,Fi l)::os)) none
    |none=>none)
   |_::_=>none)
  |some (.struct mo), .agg ds=>(match Cl P (wa P m) mo.toList ds 0 n with
   |some (l,aQ,os)=>bC (Nat.beq l.length (P.cellsOf t)) (some (l,aQ,os)) none
   |none=>none)
  |some (.array _ E), .agg ds=>(match EJ P (wa P m) E ds n with
   |some (l,aQ,os)=>bC (Nat.beq l.length (P.cellsOf t)) (some (l,aQ,os)) none
   |none=>none)
  |some (.interface _), .nil=>some ([.nilIface],n,[])
  |some (.map _ _), .nil=>some ([.kH],n,[])
  |some (.map B E), .map a2=>bC (L8 P B) (match H4 P (wa P m) E a2 (n+1)with
   |some (r,aQ,os)=>some ([.map n],aQ,(n, .look r)::os)
   |none=>none) none
  |_,_=>none
section
variable{C:aX}{P:Program}{w:World}
def q0(w:World)(c8:List MemPlace):Prop:=∀b off,MemPlace.cell b off∈c8->∃c t,w.heap[b]? =some (.cells c t (0,0))
def Da(W:an):Prop:=∀C Z,tk C Z W
def Lays(C:aX)(w:World)(n:Nat)(cs:List Value)(r:List H×Nat×List (Nat×an)):Prop:=
 n<=r.2.1/\(∀x∈r.2.2,n<=x.1/\x.1<r.2.1/\Da x.2)/\∃f:Nat->lN,∀K Z,(∀b,n<=b->b<r.2.1->K b=f b/\Z b)->cs=bI K r.1/\dW Z r.1/\∀x∈r.2.2,jn C K Z x.2 (K x.1) w
theorem Lays.plain{n:Nat}{cs:List Value}{l:List H}(a:∀K Z,cs=bI K l/\dW Z l):Lays C w n cs (l,n,[]):=
 ⟨Zj _,Zs,λ_=>default,λK Z _=>⟨(a K Z).1,(a K Z).2,Zs⟩⟩
theorem Lays.app{n aQ bp:Nat}{qj NK:List Value}{eh c5:List H}{abh rT:List (Nat×an)}(M:Lays C w n qj (eh,aQ,abh))(R:Lays C w aQ NK (c5,bp,rT)):Lays C w n (qj++NK) (eh++c5,bp,abh++rT):=by
 obtain⟨be,b2,ez,a3⟩:=M
 obtain⟨dr,eu,eT,eI⟩:=R
 refine⟨Zz be dr, ?_,λb=>if b<aQ then ez b else eT b, ?_⟩
 ·intro x ag
  rcases Zw.1 ag with a|a
  ·obtain⟨cb,b1,dT⟩:=b2 x a
   exact⟨cb,ZI b1 dr,dT⟩
  ·obtain⟨cb,b1,dT⟩:=eu x a
   exact⟨Zz be cb,b1,dT⟩
 ·intro K Z dt
  obtain⟨dD,d2,gQ⟩:=a3 K Z (λb M R=>by
   have DO:b<aQ:=R
   have:=dt b M (ZI R dr)
   simp only[Zr DO]at this
   exact this)
  obtain⟨cQ,cG,eL⟩:=eI K Z (λb M R=>by
   have sF:¬b<aQ:=zu.2 M
   have:=dt b (Zz be M) R
   simp only[Zg sF]at this
   exact this)
  refine⟨by rw[Bn, <-dD, <-cQ],yP d2 cG, ?_⟩
  intro x ag
  rcases Zw.1 ag with a|a
  ·exact gQ x a
  ·exact eL x a
theorem Cp{α er:Type}{f:α->Option er}:∀{l:List α}{r:List er},l.mapM f=some r->r.length=l.length/\∀(i:Nat) (I:α) (b:er),l[i]? =some I->r[i]? =some b->f I=some b:=by
 intro l
 induction l with
 |nil=>intro r a;simp at a;subst a;simp
 |cons I l ah=>
  intro r a
  simp only[zc,Option.bind_eq_bind,ZV]at a
  obtain⟨b,ai,hq,S,a⟩:=a
  simp at a;subst a
  obtain⟨M,R⟩:=ah S
  refine⟨by simp[M],λi f2 ea aG hK=> ?_⟩
  cases i with
  |zero=>simp at aG hK;subst aG;subst hK;exact ai
  |succ i=>exact R i f2 ea (by simpa using aG) (by simpa using hK)
theorem aaL{α er:Type}{f:α->Option er}{I:α}{l:List α}{r:List er}(a:(I::l).mapM f=some r):∃b hq,r=b::hq/\f I=some b/\l.mapM f=some hq:=by
 simp only[zc,Option.bind_eq_bind,ZV]at a
 obtain⟨b,ai,hq,S,a⟩:=a
 simp at a;subst a
 exact⟨b,hq,rfl,ai,S⟩
theorem q0.of{c8 de:List MemPlace}(a:q0 w c8)(aH:∀x∈de,x∈c8):q0 w de:=λb off ai=>a b off (aH _ ai)
def I9(C:aX)(w:World)(next:Nat->DataW Unit->Nat->vh)(eS:TypeId->List Value->Option (DataW Unit×List MemPlace)):Prop:=
 ∀t d n r,next t d n=some r->∀cs c8,eS t cs=some (d,c8)->q0 w c8->Lays C w n cs r
variable{next:Nat->DataW Unit->Nat->vh}{eS:TypeId->List Value->Option (DataW Unit×List MemPlace)}
theorem aoJ(jz:I9 C w next eS){cs:List Value}:∀(mo:List Field) (ds:List (DataW Unit)) (off n:Nat) (r:List H×Nat×List (Nat×an)),Cl P next mo ds off n=some r->
 ∀ch:List (DataW Unit×List MemPlace),(mo.mapM λf=>eS f.type ((cs.drop f.offset).take (P.cellsOf f.type)))=some ch->ch.map (·.1)=ds->q0 w (ch.flatMap (·.2))->Lays C w n ((cs.drop off).take r.1.length) r:=by
 intro mo
 induction mo with
 |nil=>
  intro ds off n r a ch _ _ _
  cases ds with
  |nil=>simp[Cl]at a;subst a;exact .plain λK Z=>⟨by simp[bI],trivial⟩
  |cons d ds=>simp[Cl]at a
 |cons f mo ah=>
  intro ds off n r a ch ag aI cj
  cases ds with
  |nil=>simp[Cl]at a
  |cons d ds=>
   simp only[Cl,d9]at a
   obtain⟨PF,a⟩:=a
   have PF:=Zi PF
   split at a
   ·rename_i l aQ os S
    simp only[d9]at a
    obtain⟨aE,a⟩:=a
    have aE:=Zi aE
    split at a
    ·rename_i c5 bp rT ha
     simp at a;subst a
     obtain⟨j,pi,rfl,T,Qg⟩:=aaL ag
     simp at aI
     obtain⟨rfl,aI⟩:=aI
     have M:=jz _ _ _ _ S _ j.2 (by rw[T]) (cj.of (by intro x ag;simp;exact .inl ag))
     have R:=ah ds (off+l.length) aQ _ ha pi Qg aI (cj.of (by intro x ag;simp only[Yr,Zw];exact .inr ag))
     rw[PF, <-aE]at M
     have:=M.app R
     simp only[ZQ]
     rw[List.take_add,zs]
     exact this
    ·simp at a
   ·simp at a
theorem VM(cs:List Value)(B:Nat):∀(m i0:Nat),(List.range' i0 m).flatMap (λi=>(cs.drop (i*B)).take B)=(cs.drop (i0*B)).take (m*B):=by
 intro m
 induction m with
 |zero=>intro i0;simp
 |succ m ah=>
  intro i0
  rw[List.range'_succ,Yr,ah,Yb m 1 B,Nat.one_mul,Nat.add_comm (m*B) B,List.take_add,zs,Yb i0 1 B,Nat.one_mul]
theorem aaq(jz:I9 C w next eS){E:Nat}{g:Nat->List Value}:∀(ds:List (DataW Unit)) (i0 n:Nat) (r:List H×Nat×List (Nat×an)),EJ P next E ds n=some r->
 ∀ch:List (DataW Unit×List MemPlace),((List.range' i0 ds.length).mapM λi=>eS E (g i))=some ch->ch.map (·.1)=ds->q0 w (ch.flatMap (·.2))->Lays C w n ((List.range' i0 ds.length).flatMap g) r/\r.1.length=ds.length*P.cellsOf E:=by
 intro ds
 induction ds with
 |nil=>
  intro i0 n r a ch _ _ _
  simp[EJ]at a;subst a
  exact⟨.plain λK Z=>⟨by simp[bI],trivial⟩,Zs⟩
 |cons d ds ah=>
  intro i0 n r a ch ag aI cj
  simp only[EJ]at a
  split at a
  ·rename_i l aQ os S
   simp only[d9]at a
   obtain⟨aE,a⟩:=a
   have aE:=Zi aE
   split at a
   ·rename_i c5 bp rT ha
    simp at a;subst a
    simp only[ZC,List.range'_succ]at ag
    obtain⟨j,pi,rfl,T,Qg⟩:=aaL ag
    simp at aI
    obtain⟨rfl,aI⟩:=aI
    have M:=jz _ _ _ _ S _ j.2 (by rw[T]) (cj.of (by intro x ag;simp;exact .inl ag))
    obtain⟨R,au⟩:=ah (i0+1) aQ _ ha pi Qg aI (cj.of (by intro x ag;simp only[Yr,Zw];exact .inr ag))
    refine⟨?_, ?_⟩
    ·simp only[ZC,List.range'_succ,Yr]
     exact M.app R
    ·simp only[ZQ,ZC,au,aE,Nat.succ_mul]
     omega
   ·simp at a
  ·simp at a
end
end
end Go.al

namespace Go.al
noncomputable section
open Go.RowKit (Below)
section
variable{C:aX}{P:Program}{w:World}
theorem ND{I:Addr}{v:Value}(a:w.cell? I=some v):I.spot=none/\∃bU ty s7,w.heap[I.block]? =some (.cells bU ty s7)/\bU[I.off]? =some v:=by
 unfold World.cell? at a
 split at a
 ·rename_i c ty s7 ai
  split at a
  ·cases a
  ·rename_i aH
   refine⟨?_,c,ty,s7,ai,a⟩
   cases cf:I.spot with
   |none=>rfl
   |some x=>rw[cf]at aH;exact absurd rfl aH
 ·cases a
theorem Nh(I:Addr)(aa:Nat):(I.add aa).block=I.block:=by unfold Addr.add;split<;>rfl
theorem Ul(I:Addr)(aa:Nat):(I.add aa).off=I.off+aa:=by unfold Addr.add;split<;>simp_all
theorem NF{I:Addr}{B:Nat}{g:List Value}{bU:Array Value}{ty:TypeId}{s7:Nat×Nat}(ai:w.heap[I.block]? =some (.cells bU ty s7))(a:w.cells? 0 I B=some g):g=(bU.toList.drop I.off).take B/\g.length=B:=by
 unfold World.cells? at a
 rw[Zr (ze _)]at a
 obtain⟨M,R⟩:=Cp a
 rw[List.length_range]at M
 have key:∀aa,aa<B->bU[I.off+aa]? =g[aa]? :=by
  intro aa bK
  have bV:g[aa]? =some g[aa]:=Zf Zo
  have:=R aa aa g[aa] (by simp[bK]) bV
  obtain⟨_,yt,as6,av2,cb,b1⟩:=ND this
  rw[Nh,ai]at cb
  cases cb
  rw[Ul]at b1
  rw[b1,bV]
 refine⟨YV λaa=> ?_,M⟩
 by_cases bK:aa<B
 ·rw[YI bK,YF, <-key aa bK];simp
 ·rw[Z3 Zo,Z3 (by simp;omega)]
theorem Q4(l:List H):Da (Fi l):=λ_ _=>⟨λ_ _ _ a=>(by cases a),λ_ _ _ a=>(by cases a;exact E3)⟩
theorem ap9(l:List (H×H)):Da (.look l):=λ_ _=>⟨λ_ _ _ a=>(by cases a),λ_ _ _ a=>(by cases a)⟩
theorem Rp{K:cY}{Z:Nat->Prop}{l:List H}{pl:lN}{bU:Array Value}{ty:TypeId}(ai:w.heap[pl.cq]? =some (.cells bU ty (0,0)))(aE:(bU.toList.drop pl.dJ).take l.length=bI K l)(g:dW Z l)(cj:0<l.length):jn C K Z (Fi l) pl w:=by
 have fj:l.length<=bU.size-pl.dJ:=by
  have:=congrArg List.length aE
  rw[jr]at this
  simp at this
  omega
 refine⟨bU,ty,0,0,ai,rfl,Zo,λi v bu=> ?_⟩
 rw[kk]at bu
 have aN:i<l.length:=(Zc.1 bu).1
 refine⟨?_,yQ g bu⟩
 have:=congrArg (λx:List Value=>x[i]?) aE
 simp only[YI aN,YF,ZM,yA,bu,ZT]at this
 exact this
theorem Lays.block{n aQ:Nat}{os:List (Nat×an)}{cs:List Value}{l:List H}{ad:H}{x:Value}{cJ:an}(pl:lN)(a:Lays C w (n+1) cs (l,aQ,os))(bc:Da cJ)
 (gC:∀K Z,K n=pl->Z n->cs=bI K l->dW Z l->jn C K Z cJ pl w/\x=aD K ad/\b0 Z ad):Lays C w n [x] ([ad],aQ,(n,cJ)::os):=by
 obtain⟨be,b2,f,a3⟩:=a
 have be:n+1<=aQ:=be
 refine⟨by simp only;omega, ?_,λb=>if b=n then pl else f b, ?_⟩
 ·intro j T
  rcases Zl.1 T with rfl|T
  ·exact⟨Zj _,by simp only;omega,bc⟩
  ·obtain⟨cb,b1,dT⟩:=b2 j T
   exact⟨Zo,b1,dT⟩
 ·intro K Z dt
  have aS:=dt n (Zj _) (by simp only;omega)
  simp only[ZB]at aS
  obtain⟨dD,d2,gQ⟩:=a3 K Z (λb M R=>by
   have:=dt b Zo R
   have dv:b≠n:=Zo
   simp only[Zg dv]at this
   exact this)
  obtain⟨eH,fk,hh⟩:=gC K Z aS.1 aS.2 dD d2
  refine⟨by simp[bI,fk],⟨hh,trivial⟩, ?_⟩
  intro j T
  rcases Zl.1 T with rfl|T
  ·simp only[aS.1];exact eH
  ·exact gQ j T
theorem abr{α er:Type}{f:α->er}{I m:List er}(a:I.Perm m):∀l:List α,l.map f=I->∃cd:List α,cd.Perm l/\cd.map f=m:=by
 induction a with
 |nil=>intro l a;simp at a;subst a;exact⟨[], .refl _,rfl⟩
 |cons x _ ah=>
  intro l a
  cases l with
  |nil=>simp at a
  |cons j l=>
   simp at a
   obtain⟨cd,M,R⟩:=ah l a.2
   exact⟨j::cd,M.cons j,by simp[a.1,R]⟩
 |swap x j fx=>
  intro l a
  cases l with
  |nil=>simp at a
  |cons p l=>
   cases l with
   |nil=>simp at a
   |cons ar l=>
    simp at a
    obtain⟨rfl,rfl,rfl⟩:=a
    exact⟨ar::p::l, .swap _ _ _,Zs⟩
 |trans _ _ Qi HO=>
  intro l a
  obtain⟨eh,M,R⟩:=Qi l a
  obtain⟨c5,au,aM⟩:=HO eh R
  exact⟨c5,au.trans M,aM⟩
theorem insert_perm{oC:Type}(x:Lit×DataW oC):∀l,(DataW.insert x l).Perm (x::l):=by
 intro l
 induction l with
 |nil=>exact .refl _
 |cons j l ah=>
  simp only[DataW.insert]
  split
  ·exact .refl _
  ·exact(ah.cons j).trans (.swap _ _ _)
theorem sorted_perm{oC:Type}:∀l:List (Lit×DataW oC),(l.foldr DataW.insert []).Perm l:=by
 intro l
 induction l with
 |nil=>exact .refl _
 |cons x l ah=>exact(insert_perm x _).trans (ah.cons x)
theorem aol{B:Nat}{v:Value}{key:Lit}{EF:H}(ax:L8 P B=true)(a:keyOf P B v=some key)(aP:HY key=some EF)(K:cY)(Z:Nat->Prop):v=aD K EF/\b0 Z EF:=by
 unfold L8 at ax
 unfold keyOf at a
 have E:mapKey P B v=some key:=by
  cases aZ:P.underlying B with
  |none=>rw[aZ]at ax;cases ax
  |some ad=>rw[aZ]at a ax;cases ad<;>first|exact a|cases ax
 unfold mapKey at E
 split at E
 ·simp at E;subst E;simp[HY]at aP;subst aP;exact⟨rfl,trivial⟩
 ·split at E
  ·rename_i ar Fb n _ cf
   simp at E;subst E;simp[HY]at aP;subst aP
   exact⟨by rw[cf.1];rfl,trivial⟩
  ·cases E
 ·split at E
  ·rename_i s _ _
   simp at E;subst E;simp[HY]at aP;subst aP
   refine⟨by simp only[aD];rw[Nx], ?_⟩
   intro x ag
   simp at ag
   obtain⟨b,_,rfl⟩:=ag
   exact b.toNat_lt
  ·cases E
 ·cases E
theorem att{E:Nat}{v:Value}{l:List H}{ad:H}{K:cY}{Z:Nat->Prop}(b5:v.formed P E=true)(aZ:QA P E l=some ad)(ay:v.cells.toList=bI K l)(g:dW Z l):v=aD K ad/\b0 Z ad:=by
 unfold QA at aZ
 unfold Value.formed at b5
 cases aI:P.underlying E with
 |none=>rw[aI]at aZ;cases aZ
 |some asZ=>
  rw[aI]at aZ b5
  have agg:(∃cs,v= .agg cs)->ad= .agg l->v=aD K ad/\b0 Z ad:=by
   rintro⟨cs,rfl⟩ rfl
   refine⟨?_,g⟩
   simp only[Value.cells]at ay
   simp only[aD, <-ay]
  have asa:v.cells= #[v]->(∃x,l=[x]/\ad=x)->v=aD K ad/\b0 Z ad:=by
   rintro M ⟨x,rfl,rfl⟩
   rw[M]at ay
   simp[bI]at ay
   exact⟨ay,g.1⟩
  cases v<;>cases asZ<;>simp only at b5 aZ<;>first
   |(cases b5;done)
   |(simp at aZ;exact agg ⟨_,rfl⟩ aZ.symm)
   |(
     split at aZ
     ·simp at aZ;exact asa rfl ⟨_,rfl,aZ.symm⟩
     ·cases aZ)
end
end
end Go.al

namespace Go.al
noncomputable section
open Go.RowKit (Below)
section
variable{C:aX}{P:Program}{w:World}
variable{next:Nat->DataW Unit->Nat->vh}{eS:TypeId->List Value->Option (DataW Unit×List MemPlace)}
theorem aoI(jz:I9 C w next eS){B E:Nat}(ax:L8 P B=true):∀(a2:List (Lit×DataW Unit)) (n:Nat) (r:List (H×H)×Nat×List (Nat×an)),H4 P next E a2 n=some r->
 ∀jp:List (MapEntry×((Lit×DataW Unit)×List MemPlace)),jp.map (·.2.1)=a2->(∀bl∈jp,keyOf P B bl.1.key=some bl.2.1.1/\bl.1.val.formed P E=true/\eS E bl.1.val.cells.toList=some (bl.2.1.2,bl.2.2)/\q0 w bl.2.2)->
 n<=r.2.1/\(∀x∈r.2.2,n<=x.1/\x.1<r.2.1/\Da x.2)/\r.1.length=jp.length/\∃f:Nat->lN,∀K Z,(∀b,n<=b->b<r.2.1->K b=f b/\Z b)->
  jp.map (·.1)=(List.zipWith (λ(p:H×H) (bl:MapEntry×((Lit×DataW Unit)×List MemPlace))=>(p.1,p.2,bl.1.born)) r.1 jp).map (fo K)/\(∀p∈r.1,b0 Z p.1/\b0 Z p.2)/\∀x∈r.2.2,jn C K Z x.2 (K x.1) w:=by
 intro a2
 induction a2 with
 |nil=>
  intro n r a jp DV _
  simp[H4]at a;subst a
  simp at DV;subst DV
  exact⟨Zj _,Zs,rfl,λ_=>default,λK Z _=>⟨rfl,Zs,Zs⟩⟩
 |cons I a2 ah=>
  obtain⟨key,d⟩:=I
  intro n r a jp DV hm
  simp only[H4]at a
  split at a
  ·rename_i EF l aQ os al4 aS
   split at a
   ·rename_i v i1 bp rT bu S
    simp at a;subst a
    cases jp with
    |nil=>simp at DV
    |cons bl jp=>
     simp at DV
     obtain⟨Es,Et⟩:=DV
     obtain⟨b9,b3,g3,ec⟩:=hm bl (Zq ..)
     rw[Es]at b9 g3
     obtain⟨be,b2,ez,a3⟩:=jz _ _ _ _ aS _ _ g3 ec
     obtain⟨dr,eu,fK,eT,eI⟩:=ah aQ _ S jp Et (λbl cj=>hm bl (Zn _ cj))
     have be:n<=aQ:=be
     have dr:aQ<=bp:=dr
     refine⟨Zz be dr, ?_,by simpa using fK,λb=>if b<aQ then ez b else eT b, ?_⟩
     ·intro x ag
      rcases Zw.1 ag with ar|ar
      ·obtain⟨cb,b1,dT⟩:=b2 x ar
       exact⟨cb,ZI b1 dr,dT⟩
      ·obtain⟨cb,b1,dT⟩:=eu x ar
       exact⟨Zz be cb,b1,dT⟩
     ·intro K Z dt
      obtain⟨dD,d2,gQ⟩:=a3 K Z (λb M R=>by
       have DO:b<aQ:=R
       have:=dt b M (ZI R dr)
       simp only[Zr DO]at this
       exact this)
      obtain⟨cQ,cG,eL⟩:=eI K Z (λb M R=>by
       have sF:¬b<aQ:=zu.2 M
       have:=dt b (Zz be M) R
       simp only[Zg sF]at this
       exact this)
      obtain⟨bN,cg⟩:=aol ax b9 al4 K Z
      obtain⟨R6,act⟩:=att b3 bu dD d2
      refine⟨?_, ?_, ?_⟩
      ·simp only[Zy,List.zipWith_cons_cons,cQ]
       congr 1
       obtain⟨⟨aws,awt,awr⟩,_⟩:=bl
       simp only[fo]at bN R6 ⊢
       rw[<-bN, <-R6]
      ·intro p ax
       rcases Zl.1 ax with rfl|ax
       ·exact⟨cg,act⟩
       ·exact cG p ax
      ·intro x ag
       rcases Zw.1 ag with ar|ar
       ·exact gQ x ar
       ·exact eL x ar
   ·simp at a
  ·simp at a
theorem acP{jp:List (MapEntry×((Lit×DataW Unit)×List MemPlace))}:∀(r:List (H×H)) (jp:List (MapEntry×((Lit×DataW Unit)×List MemPlace))),r.length=jp.length->
 (List.zipWith (λ(p:H×H) (bl:MapEntry×((Lit×DataW Unit)×List MemPlace))=>(p.1,p.2,bl.1.born)) r jp).map (λE=>(E.1,E.2.1))=r:=by
 intro r
 induction r with
 |nil=>intro jp _;simp
 |cons p r ah=>
  intro jp a
  cases jp with
  |nil=>simp at a
  |cons bl jp=>simp[ah jp (by simpa using a)]
theorem apl{α er:Type}{f g:α->Option er}:∀{l:List α},(∀x∈l,f x=g x)->l.mapM f=l.mapM g:=by
 intro l
 induction l with
 |nil=>intro _;rfl
 |cons I l ah=>intro a;simp[zc,a I Zs,ah λx ag=>a x (by simp[ag])]
theorem ajk{α er:Type}{f g:α->List er}:∀{l:List α},(∀x∈l,f x=g x)->l.flatMap f=l.flatMap g:=by
 intro l
 induction l with
 |nil=>intro _;rfl
 |cons I l ah=>intro a;simp[Yr,a I Zs,ah λx ag=>a x (by simp[ag])]
end
end
end Go.al

