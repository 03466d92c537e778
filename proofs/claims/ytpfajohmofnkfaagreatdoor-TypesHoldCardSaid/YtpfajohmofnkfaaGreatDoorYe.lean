/- A part of the last text's proof; no condition of its own -/
import Derived.Test.YtpfajohmofnkfaaGreatDoorYd
import Derived.ChangeReads
import GoSem.ClaimJoined
import Derived.Lib.Bytealg
import Derived.LaidLaws
set_option maxHeartbeats 8000000
set_option linter.all false
namespace Go.bk
open Go.RowKit (Below)
section
variable{C:a2}{S dg dW:da}{af dE ec:Nat->Prop}{h U:V an}{j ar bm:Nat}{w bZ:World}{n av:Nat}{ax:Array Oper}
variable{bt:World}{bE:Nat}{bQ:List Frame}{v:J}{am:hE}
variable{fn:Nat}{bg:List hN}{aF:Bool}{ro:Option Nat}{cs:List gN}{M:V J}{tmps:Array Value}{bx:List Item}{aq:List Frame}{bU aN:Nat}
def dt.more(Z:dt C S af h j bm w)(aM:j<=ar)(iW:∀b,af b->ab C U b=ab C h b)(c4:∀b Y,ab C U b=some Y->b<ar):dt C S af U ar bm w:=by
 refine⟨Zz Z.ba aM,λb a=>ZL (Z.lt b a) aM,c4,λb Y a d=>Z.obj b Y (by rw[<-iW b d];exact a) d,λb dN Y o' a cz d lq=>Z.sep b dN Y o' (by rw[<-iW b d];exact a) (by rw[<-iW dN lq];exact cz) d lq,λb Y ai a d=>Z.base b Y ai (by rw[<-iW b d];exact a) d,λb Y a d=>Z.fz b Y (by rw[<-iW b d];exact a) d⟩
def adb(dp:pD C n av ax){l ci:pG}(aD:l∈lP C n av ax)(hy:ci∈lP C n av ax)(a:l.x.i=ci.x.i):l=ci:=by
 obtain⟨K,aE⟩:=ZY.1 aD
 obtain⟨b,ai⟩:=ZY.1 hy
 obtain⟨C3,mH⟩:=Zc.1 aE
 obtain⟨oa,lT⟩:=Zc.1 ai
 have aA:=PM dp
 rw[YM]at aA
 rcases YQ K b with c4|I|g1
 ·have:=aA K b C3 oa c4
  rw[mH,lT]at this;omega
 ·subst I;rw[<-mH,lT]
 ·have:=aA b K oa C3 g1
  rw[mH,lT]at this;omega
def Xz(cJ:Env C bt dW ec)(gq:nt C bt bE bQ am){F:List d0}{base eE:Nat}{aw:List (Nat×J)}{dr:Nat->Prop}{l:List Nat}(aE:i2 C bt bE bQ fn av bg aF ro cs h j S af w bU aq)
 (aL:lH C S af av F bx)(su:bU<=base)(gp:base+ax.size<=j)(gP:C.ba<=base)(aO:q3 C S af h base n av ax aw eE eE M tmps dr)(aI:wH ax dr l)
 (a:yp am C ax base aw (y9 (lP C n av ax) eE ((gH C n av ax).drop eE)) (kZ av ax.toList 0) F ⟨fn,n,av,bg,aF,ro,cs⟩ M h j=some v):Ends C bt bE bQ v (lone (ct S fn bg aF ro tmps (.inRegion ax l::bx) .run) aq w):=by
 obtain⟨s,rest,bH,cP,fH,jR⟩:=axU (iy:=lP C n av ax) (F:=eE) (aD:=(gH C n av ax).drop eE)
 rw[bH]at a
 simp only[yp]at a
 split at a
 ·simp at a
 ·rename_i hF U gn
  simp only[e5]at a
  obtain⟨MZ,a⟩:=a
  rw[cP]at gn
  rw[fH]at MZ
  have Ri:∀x∈tf eE (lP C n av ax),ez aw x.i=none/\ab C h (base+x.i)=none/\nH x.op=false:=by
   intro x ah
   obtain⟨en,T,W,rfl⟩:=AL.1 ah
   have bD:ez aw en.x.i=none:=by
    cases bD:ez aw en.x.i with
    |none=>rfl
    |some ae=>
     exfalso
     rcases aO.keys _ ae bD with ⟨c5,b5,cd,c0⟩|⟨p,e,b5,cd,_⟩
     ·have:=adb aO.st b5 T cd
      subst this;omega
     ·exact Np aO.st T b5 cd.symm
   obtain⟨_,_,c0,_⟩:=Lt T
   exact⟨bD,aO.free _ (Ls aO.st T) bD,c0⟩
  obtain⟨bY,cx,c7,d5,er⟩:=alP gP _ _ _ _ _ (akE (PM aO.st)) Ri gn
  have R1:∀b,af b->ab C U b=ab C h b:=by
   intro b ai
   by_cases ao:ab C U b=ab C h b
   ·exact ao
   ·obtain⟨x,ah,I⟩:=d5 b ao
    obtain⟨en,T,W,rfl⟩:=AL.1 ah
    have bX:=aO.ids _ (Ls aO.st T) (I▸ai)
    have:=aO.t6 en T bX
    omega
  have mn:dt C S af U j bt.heap.size w:=aE.Z.more (Zl _) R1 (λb Y ai=>by
   by_cases ao:ab C U b=ab C h b
   ·exact aE.Z.vO b Y (by rw[<-ao];exact ai)
   ·obtain⟨x,ah,I⟩:=d5 b ao
    obtain⟨en,T,W,rfl⟩:=AL.1 ah
    have:=Ls aO.st T
    omega)
  have ah:iD C bU S af h bt.heap.size w S af U w:=⟨λ_ _=>rfl,λ_ a=>a,λ_ a=> .inl a,λb _ c4=>by
   by_cases ao:ab C U b=ab C h b
   ·exact ao
   ·obtain⟨x,ah,I⟩:=d5 b ao
    omega,Below.refl _ _⟩
  have yF:=aE.ext mn ah (Zl _)
  have so:q3 C S af U base n av ax hF eE (eE+1) M tmps dr:=by
   refine⟨aO.st,aO.size,aO.Nk,aO.dl,aO.closed,aO.xv,aO.done,λen T W=>Nat.lt_succ_of_lt (aO.t6 en T W), ?_, ?_, ?_, ?_,aO.ids, ?_⟩
   ·intro i ae be
    rcases c7 i (by rw[be];simp)with T|⟨x,T,W⟩
    ·cases bD:ez aw i with
     |none=>exact absurd bD T
     |some rM=>
      rcases aO.keys i rM bD with ⟨en,b5,cd,c0⟩|g
      ·exact .inl ⟨en,b5,cd,Zo⟩
      ·exact .inr g
    ·obtain⟨en,b5,cd,rfl⟩:=AL.1 T
     exact .inl ⟨en,b5,W,Zo⟩
   ·intro p e H aA
    obtain⟨ae,be⟩:=aO.va p e H aA
    exact⟨ae,bY _ _ be⟩
   ·intro en T W
    by_cases ao:en.bU=eE
    ·obtain⟨ae,b5,cd⟩:=er en.x (AL.2 ⟨en,T,ao,rfl⟩)
     exact⟨ae,(b5 af).key,λ_=>b5 af⟩
    ·obtain⟨ae,b5,cd⟩:=aO.ahead en T Zo
     refine⟨ae,bY _ _ b5,λbX=> ?_⟩
     obtain⟨_,kq,b,el,fK,d8,eQ⟩:=cd bX
     refine⟨bY _ _ b5,kq,b,el.trans bY,fK,d8,λai=> ?_⟩
     obtain⟨h4,mG,anm⟩:=eQ ai
     refine⟨h4,λbs=> ?_,anm⟩
     obtain⟨cO,Qe,Qf⟩:=mG bs
     refine⟨cO,Qe, ?_⟩
     by_cases cC:ab C U (base+en.x.i)=ab C h (base+en.x.i)
     ·rw[cC];exact Qf
     ·obtain⟨x,ah,I⟩:=d5 _ cC
      obtain⟨c5,fc,f1,rfl⟩:=AL.1 ah
      have:=adb aO.st T fc Zo
      subst this;omega
   ·intro t ae be
    apply aO.CH t ae
    rcases be with ⟨aa,bX,u0,xl,be⟩|be
    ·left
     refine⟨aa,bX,u0,xl, ?_⟩
     have va:∃rM,ez aw aa=some rM:=by
      rcases Xy aO.st aa (aO.xv aa bX)with ⟨en,b5,cd⟩|⟨p,e,b5,cd⟩
      ·obtain⟨rM,c0,_⟩:=aO.ahead en b5 (aO.t6 en b5 (by rw[cd];exact bX))
       exact⟨rM,by rw[<-cd];exact c0⟩
      ·obtain⟨rM,c0⟩:=aO.va p e b5 ((aO.done p e b5).1 (by rw[cd];exact bX))
       exact⟨rM,by rw[<-cd];exact c0⟩
     obtain⟨rM,tS⟩:=va
     have:=bY _ _ tS
     rw[be]at this
     cases this
     exact tS
    ·exact .inr be
   ·intro i aN bD
    have ar3:ez aw i=none:=by
     cases b6:ez aw i with
     |none=>rfl
     |some ae=>rw[bY _ _ b6]at bD;cases bD
    by_cases ao:ab C U (base+i)=ab C h (base+i)
    ·rw[ao];exact aO.free i aN ar3
    ·obtain⟨x,ah,I⟩:=d5 _ ao
     obtain⟨ae,b5,_⟩:=er x ah
     have:x.i=i:=Zo
     rw[<-this,(b5 af).key]at bD
     cases bD
  refine auh cJ gq su gp gP (s:=s) (rest:=rest) ?_ a l S af w tmps dr yF aL so aI ?_
  ·cases b6:(gH C n av ax).drop eE with
   |nil=>rw[b6]at jR;exact jR.1
   |cons e hy=>rw[b6]at jR;exact jR
  ·intro en T W bX
   by_cases ao:en.bU=eE
   ·obtain⟨ae,b5,cd⟩:=er en.x (AL.2 ⟨en,T,ao,rfl⟩)
    exact⟨ae,(b5 af).key,cd⟩
   ·obtain⟨ae,b5,cd⟩:=aO.ahead en T Zo
    refine⟨ae,bY _ _ b5, ?_⟩
    obtain⟨_,kq,b,el,fK,d8,eQ⟩:=cd bX
    by_cases F7:Ca en.x.op=true
    ·have sr:eE<=en.aN:=by
      obtain⟨p,fc,f1,je,sN⟩:=Lt T
      obtain⟨_,f2,fF,z3,z4,z5⟩:=yo aO.st fc
      rw[sN]
      refine aqg _ _ _ (by rw[LQ,Zi];exact aO.Nk) λao e H c4=> ?_
      rw[LQ,Zt]at H
      cases cw:(gH C n av ax)[ao]? with
      |none=>rw[cw]at H;cases H
      |some bu=>
       rw[cw]at H;cases H
       cases ai:fB bu.1.m p.i with
       |false=>rfl
       |true=>
        exfalso
        have aoH:=(aO.done ao bu cw).2 c4
        obtain⟨aBj,Hm,Hn,Ua,ay1,aBL,Ub⟩:=yo aO.st (Lq (Zn cw)).1
        have:=H3 aO.closed (Zn ay1) Ub.oper (aO.closed _ _ Ub.oper aoH) _ ai
        simp only at fF
        rw[<-fF]at this
        exact bX this
     obtain⟨dN,eW,fv⟩:=alQ _ MZ en.x (awa T Zo sr F7)
     refine⟨hF,U,dN,Sub.refl _,pF.refl _,eW,λai _=> ?_⟩
     obtain⟨rM,hK,ow⟩:=fv ai
     rw[bY _ _ b5]at ow
     cases ow
     exact hK
    ·have F7:Ca en.x.op=false:=by simpa using F7
     refine⟨kq, .nil,b,el.trans bY,ac8 _,fK,λai o3=> ?_⟩
     exact(eQ ai).2.2 o3 F7 .nil
def amK{F:List d0}(id:Nat)(a:lH C S af av F bx){fa:List d0}(bA:exitTo id F=some fa):∃h2,Go.exitTo id bx=some h2/\lH C S af av fa h2:=by
 induction a with
 |nil=>simp[exitTo]at bA
 |cons T W am=>
  cases T<;>simp only[exitTo]at bA
  case inBlock tV=>
   rw[hO]at bA
   split at bA
   ·rename_i I
    simp at bA;subst bA
    exact⟨_,by simp[Go.exitTo,I],W⟩
   ·rename_i I
    obtain⟨h2,b5,cd⟩:=am bA
    have:(tV==id)=false:=by simpa using I
    exact⟨h2,by simp[Go.exitTo,this,b5],cd⟩
  all_goals
   obtain⟨h2,b5,cd⟩:=am bA
   exact⟨h2,by simp[Go.exitTo,b5],cd⟩
def XT(h0:rV C S af){n:Nat}(bb:jk S af n av M tmps){x:Operand}{ae:J}(fM:Ad C av [] x=true)(a:wU M x=some ae):kS tmps x=aS S ae/\cn af ae:=by
 cases x with
 |tmp t=>
  simp only[Ad,akC]at fM
  obtain⟨T,W⟩:=bb.val t ae fM a
  exact⟨by simp[kS,T],W⟩
 |const c=>exact NG a
 |global g=>
  simp[wU]at a;subst a
  simp only[Ad]at fM
  obtain⟨b5,cd,c0⟩:=h0 g (lo fM)
  exact⟨by simp[kS,aS,cd,c0],b5⟩
 |func f=>
  simp[wU]at a;subst a
  exact⟨by simp[kS,aS,m2,b2],trivial,trivial,trivial⟩
def oL.start{n:Nat}(bb:jk S af n av M tmps):oL S af av (λ_=>True) (ip ax 0) [] M tmps:=by
 intro t ae _ a
 rw[KN]at a
 exact bb.val t ae a.1 a.2
def awh(cJ:Env C bt dW ec)(gq:nt C bt bE bQ am){F:List d0}{id:Nat}{AU:Bool}(aE:i2 C bt bE bQ fn av bg aF ro cs h j S af w bU aq)(aL:lH C S af av F bx)(bb:jk S af n av M tmps)
 (a:aew ax AU am C F ⟨fn,n,av,bg,aF,ro,cs⟩ M h j=some v):Ends C bt bE bQ v (lone (ct S fn bg aF ro tmps (.code (.region id ax AU)::bx) .run) aq w):=by
 cases AU with
 |false=>
  have cz:Tm n av ax am C F ⟨fn,n,av,bg,aF,ro,cs⟩ M h j=some v:=a
  simp only[Tm,ot]at cz
  split at cz
  ·rename_i r Z
   obtain⟨rest,fin⟩:=r
   have L5:Aj rest ⟨am,ax,fin,F,⟨fn,n,av,bg,aF,ro,cs⟩⟩ C M [] h j=some v:=cz
   unfold J7 at Z
   split at Z
   ·rename_i de h6
    simp at Z
    obtain⟨rfl,rfl⟩:=Z
    refine .head axL ?_
    refine aeH cJ gq de [] h j S af w tmps _ aq aE aL ⟨0,zm _, ?_,h6,rfl,oL.start bb,bb.size⟩ L5
    rw[List.range_eq_range'];rfl
   ·simp at Z
  ·simp at cz
 |true=>
  have cz:Tl n av ax am C F ⟨fn,n,av,bg,aF,ro,cs⟩ M h j=some v:=a
  simp only[Tl,ot]at cz
  split at cz
  ·rename_i r Z
   obtain⟨li,fin⟩:=r
   have L5:qn j (λj=>yp am C ax j [] li fin F ⟨fn,n,av,bg,aF,ro,cs⟩ M h (j+ax.size))=some v:=cz
   rw[mg]at L5
   unfold J6 at Z
   split at Z
   ·simp at Z
   ·rename_i de h6
    simp only[e5,Zp,Zf]at Z
    obtain⟨⟨⟨b5,cd⟩,c0⟩,el⟩:=Z
    have kf:wQ C n av ax=de:=by unfold wQ;rw[h6];rfl
    have dp:pD C n av ax:=⟨by rw[kf];exact h6,b5,cd,by unfold gH;rw[kf];exact c0⟩
    have arO:li=y9 (lP C n av ax) 0 ((gH C n av ax).drop 0)/\fin=kZ av ax.toList 0:=by
     have I:=el
     cases I
     refine⟨?_,rfl⟩
     rw[ZZ]
     unfold lP gH
     rw[kf];rfl
    obtain⟨rfl,rfl⟩:=arO
    refine .head axM ?_
    rw[cJ.km.mixed]
    have ah:iD C bU S af h bt.heap.size w S af h w.drew:=⟨λ_ _=>rfl,λ_ a=>a,λ_ a=> .inl a,λ_ _ _=>rfl,Below.drew (Below.refl _ _)⟩
    have mn:dt C S af h (j+ax.size) bt.heap.size w.drew:=aE.Z.drew.more (zb _ _) (λ_ _=>rfl) (λb Y ai=>ZL (aE.Z.vO b Y ai) (zb _ _))
    refine Xz cJ gq (dr:=λ_=>False) (aE.ext mn ah (zb _ _)) aL aE.j2 (Zl _) aE.Z.ba ?_ (awZ b5 _) L5
    refine⟨dp,bb.size,zm _,aE.Z.ba,λ_ _ _ a=>a.elim,λ_ a=>a.elim,λp e _=>⟨λa=>a.elim,λa=>Zo⟩,λ_ _ a=>a.elim,λi ae be=>by simp at be,λp e _ a=>Zo,λen _ a=>Zo, ?_, ?_, ?_⟩
    ·intro t ae be
     rcases be with ⟨aa,a,_⟩|⟨_,T,W⟩
     ·exact a.elim
     ·exact bb.val t ae T W
    ·intro i _ aO
     have:=aE.Z.lt _ aO;omega
    ·intro i _ _
     cases b6:ab C h (j+i)with
     |none=>rfl
     |some Y=>have:=aE.Z.vO _ Y b6;omega
  ·simp at cz
end
end Go.bk

namespace Go.bk
open Go.RowKit (Below)
section
variable{C:a2}{S dg dW:da}{af dE ec:Nat->Prop}{h U:V an}{j ar bm:Nat}{w bZ:World}{n av:Nat}{ax:Array Oper}
variable{bt:World}{bE:Nat}{bQ:List Frame}{v:J}{am:hE}
variable{fn:Nat}{bg:List hN}{aF:Bool}{ro:Option Nat}{cs:List gN}{M:V J}{tmps:Array Value}{bx:List Item}{aq:List Frame}{bU aN:Nat}
def amJ{F:List d0}(id:Nat)(a:lH C S af av F bx)(bA:exitTo id F=none):Go.exitTo id bx=none:=by
 induction a with
 |nil=>rfl
 |cons T W am=>
  cases T<;>simp only[exitTo]at bA
  case inBlock tV=>
   rw[hO]at bA
   split at bA
   ·simp at bA
   ·rename_i I
    have:(tV==id)=false:=by simpa using I
    simp[Go.exitTo,this,am bA]
  all_goals simp[Go.exitTo,am bA]
def SQ(aE:i2 C bt bE bQ fn av bg aF ro cs h j S af w bU aq){b:Nat}{st i1:LoopState}{qS B5:Option Code}{gV aV kK:Nat}{c8:V J}{params:List Nat}{assign body:Code}{gk:Nat}
 (aM:C.ba<=b)(aO:af b)(gQ:ab C h b=some (.loop st qS gV aV kK c8 params assign body gk))(aA:∀c,B5=some c->Gt c):
 ∃hM,w.heap[(S b).cI]? =some (.loop ⟨st,qS,gV,hM,params.toArray,assign,body,(S gk).cI⟩)/\OL C gV kK/\(∀c,qS=some c->Gt c)/\
  i2 C bt bE bQ fn av bg aF ro cs (bo C h b (some (.loop i1 B5 gV aV kK c8 params assign body gk))) j S af (w.putObj (S b).cI (.loop ⟨i1,B5,gV,hM,params.toArray,assign,body,(S gk).cI⟩)) bU aq:=by
 obtain⟨hM,gz,kv,nf,GU,BU,sP,Ab⟩:=aE.Z.obj b _ gQ aO
 obtain⟨bZ,bY,cx,c7⟩:=putObj aE.Z (dk:=bU) (o':= .loop ⟨i1,B5,gV,hM,params.toArray,assign,body,(S gk).cI⟩) (oq:= .loop i1 B5 gV aV kK c8 params assign body gk) aM aO gQ ⟨Zs,Zs⟩ gz Zs
  (λbZ sD=>⟨hM,sD,kv,nf,GU,BU,aA,Ab⟩) ⟨λ_ _ _ a=>(by cases a),λ_ _ _ a=>(by cases a)⟩
 rw[run_setObj_loop _ gz]at bY
 simp only[Result.ok.injEq]at bY
 obtain⟨_,rfl⟩:=bY
 exact⟨hM,gz,Ab,sP,aE.ext cx c7 (Zl _)⟩
def WW(gq:nt C bt bE bQ am){ae:J}{dw:Machine}(aE:i2 C bt bE bQ fn av bg false ro cs h j S af w bU aq)(dT:cs≠[])(A6:cn af ae)
 (rv:∀g ja,aq=g::ja->step C.P dw= .next (lone (g.finish (aS S ae)) ja w))(a:tg am false cs ae h j=some v):Ends C bt bE bQ v dw:=by
 cases cs with
 |nil=>exact absurd rfl dT
 |cons c rest=>
  obtain⟨gV,aV,kK,c8,we,gk,mR,jn,lf⟩:=c
  obtain⟨rA,hM,h2,ja,rfl,bY,cx,c7,d5,er,dK⟩:=aE.cs.inv
  refine .head (rv _ _ rfl) ?_
  cases mR with
  |run=>
   have cz:Tn am we ⟨gV,aV,kK,gk,jn,lf,rest⟩ ae c8 h j=some v:=a
   cases we with
   |nil=>simp[Tn]at cz
   |cons eT F=>exact Fs gq ⟨aE.Z,aE.kW,aE.h0,Zz er aE.j2,c7,d5,dK⟩ bY aE.j2 A6 cz
  |returning=>simp[tg]at a
  |panicking gb=>simp[tg]at a
def SH(gq:nt C bt bE bQ am){todo:List d0}{iL:Option Code}(bL:(iL=none/\bx=[])\/(iL=some .ret/\∃F,bx= .code .ret::F)\/(∃id F,iL=some (.exit id)/\bx= .code (.exit id)::F/\Go.exitTo id F=none))
 (aE:i2 C bt bE bQ fn av bg aF ro cs h j S af w bU aq)(bb:jk S af n av M tmps)
 (a:ol iL am C todo ⟨fn,n,av,bg,aF,ro,cs⟩ M h j=some v):Ends C bt bE bQ v (lone (ct S fn bg aF ro tmps bx .run) aq w):=by
 unfold ol at a
 cases ro with
 |some l=>
  simp only at a
  split at a
  ·rename_i st qS gV aV kK c8 params assign body gk gQ
   simp only[e5,Zp,hw]at a
   obtain⟨⟨⟨Da,aAy⟩,Q9⟩,a⟩:=a
   have Q9:aF=false:=by simpa using Q9
   subst Q9
   have aO:=aE.hZ.ro l rfl
   have aq0:∀c,iL=some c->Gt c:=by
    intro c aB
    subst aB
    rcases bL with ⟨I,_⟩|⟨I,_⟩|⟨id,F,I,_⟩
    ·cases I
    ·cases I;exact .inl rfl
    ·cases I;exact .inr ⟨id,rfl⟩
   obtain⟨hM,gz,Ab,_,yF⟩:=SQ aE (i1:=bV iL.isNone .ready .done) (B5:=iL) (jm Da) aO gQ aq0
   have dT:cs≠[]:=λI=>by have:=(aE.bot I).2.2;cases this
   refine WW (ae:= .bool iL.isNone) gq yF dT trivial (λg ja I=> ?_) a
   subst I
   refine axP bL ?_
   have:=run_endRound (P:=C.P) iL gz
   rw[this]
   cases iL<;>rfl
  ·simp at a
 |none=>
  simp only[e5]at a
  have dp:Ct C bt bE bQ .returning todo fn n av bg aF none cs M h j S af w bU tmps bx aq:=⟨aE.Z,aE.kW,aE.h0,aE.j2,aE.hZ,trivial,aE.bot,aE.cs,bb⟩
  have bX:=gq _ _ _ _ _ _ _ _ _ _ _ _ v a.2 S af w bU tmps bx aq dp
  rcases bL with ⟨rfl,rfl⟩|⟨rfl,F,rfl⟩|⟨id,F,rfl,rfl,_⟩
  ·exact .head axB bX
  ·exact .head axN bX
  ·simp[Sm]at a
def av8(cJ:Env C bt dW ec)(gq:nt C bt bE bQ am){f:Operand}{params:Array Nat}{assign body:Code}{F:List d0}(aE:i2 C bt bE bQ fn av bg aF ro cs h j S af w bU aq)(bb:jk S af n av M tmps)
 (fM:lO C av (.rangeFunc f params assign body)=true)(aL:lH C S af av F bx)(a:Kp f params assign body am C F ⟨fn,n,av,bg,aF,ro,cs⟩ M h j=some v):
 Ends C bt bE bQ v (lone (ct S fn bg aF ro tmps (.code (.rangeFunc f params assign body)::bx) .run) aq w):=by
 simp only[lO,Zp]at fM
 obtain⟨b9,abM,gQ⟩:=fM
 unfold Kp at a
 split at a
 ·rename_i g first fO P7 aJ GG alM H0 Tq rg bA ff
  cases ff
  obtain⟨bH,cP⟩:=XT aE.h0 bb b9 bA
  have lW:∀(b:Nat) (np:World),(resolve (kS tmps) {callee:= .value f,args:= #[.const (.func (.yield b) #[] #[])],argTypes:= #[]} 0).run C.P np=
   .ok ⟨.fn (.func g) (b2 S fO).toArray,(b2 S first).toArray++ #[.func (.yield b) #[] #[]]⟩ np:=by
   intro b np
   have PR:kS tmps (.const (.func (.yield b) #[] #[]))= .func (.yield b) #[] #[]:=rfl
   simp[resolve,bH,aS,m2,Deferred.ofValue,PR]
  have aa5:∀(b:Nat) (x0:da) (mA:Nat->Prop) (a6:V an) (DZ:Nat) (np:World) (tn:List gN) (w1:List Frame) (dk:Nat) (ci:Nat),(∀x,af x->x0 x=S x)->(∀x,af x->mA x)->mA ci->(x0 ci).cI=b->
   dt C x0 mA a6 DZ bt.heap.size np->Below bt.heap.size bt np->rV C x0 mA->dk<=DZ->oD C x0 mA a6 bE bQ dk tn w1->tn≠[]->n5 am C g (first++[.func (.yield ci) [] []]++fO) false tn a6 DZ=some v->
   ∃args,(invoke (.fn (.func g) (b2 S fO).toArray) ((b2 S first).toArray++ #[.func (.yield b) #[] #[]])).run C.P np= .ok (.enter g args) np/\Ends C bt bE bQ v (lone (Frame.enter C.P g args .normal) w1 np):=by
   intro b x0 mA a6 DZ np tn w1 dk ci dS gI hy ai vj oa Mx pZ h6 dT a
   have ap7:eA mA (first++[.func (.yield ci) [] []]++fO):=A3 (A3 (rm gI _ cP.2.1) ⟨⟨hy,trivial,trivial⟩,trivial⟩) (rm gI _ cP.2.2)
   refine⟨(b2 x0 (first++[.func (.yield ci) [] []]++fO)).toArray, ?_,LD gq vj oa Mx pZ h6 (λI=>absurd I dT) ap7 a⟩
   have IU:∃func c,C.P.funcs[g]? =some func/\func.body=some c:=by
    unfold n5 at a
    split at a
    ·rename_i func qw
     split at a
     ·rename_i c aB;exact⟨func,c,qw,aB⟩
     ·simp at a
    ·simp at a
   obtain⟨func,c,qw,aB⟩:=IU
   have aM:func.name≠ "runtime.NumGoroutine":=by simpa using cJ.km.num g func qw (by simp[aB])
   have w8:(b2 x0 (first++[.func (.yield ci) [] []]++fO)).toArray=((b2 S first).toArray++ #[.func (.yield b) #[] #[]])++(b2 S fO).toArray:=by
    rw[CE,CE,yl dS cP.2.1,yl dS cP.2.2]
    simp[b2,aS,m2,ai]
   rw[w8]
   simp[invoke,callFunc,qw,aM,aB]
  cases ro with
  |none=>
   simp only[mg]at a
   have oc:=rF aE.Z
   have vj:=aE.Z.alloc (b:=j) (ar:=j+1) (pl:=⟨w.heap.size,0,0⟩) (cO:= .deferred (some [])) (Y:= .deferred (some [])) (U:=bo C h j (some (.deferred (some [])))) aE.Z.ba (Yq _) (Yb _) oc aE.eH rfl
    (by rw[fZ _ aE.Z.ba,Zr rfl]) (λx ah=> .inl (by rw[fZ _ aE.Z.ba,Zh ah])) ⟨by rw[World.alloc_heap_new];rfl,λl aD=>by cases aD;simp⟩ ⟨λ_ _ _ a=>(by cases a),λ_ _ _ a=>(by cases a)⟩
   have Bx:iD C j S af h bt.heap.size w (gu S j ⟨w.heap.size,0,0⟩) (add af j) (bo C h j (some (.deferred (some [])))) (w.alloc (.deferred (some []))):=
    ⟨qY oc,λ_ a=> .inl a,λe a=>a.elim .inl (λa=> .inr Zo),λx _ c4=>by rw[fZ _ aE.Z.ba,Zh Zo],Below.alloc (Below.refl _ _) aE.eH _⟩
   have sw:C.ba<=j+1:=Nat.le_succ_of_le aE.Z.ba
   have abG:=rF vj
   have aaj:bt.heap.size<=(w.alloc (.deferred (some []))).heap.size:=by rw[World.size_alloc];have:=aE.eH;omega
   have acr:(gu S j ⟨w.heap.size,0,0⟩ j)=⟨w.heap.size,0,0⟩:=ll ..
   have Nd:=qY (S:=gu S j ⟨w.heap.size,0,0⟩) (pl:=⟨w.heap.size+1,0,0⟩) abG
   have fN:=vj.alloc (b:=j+1) (ar:=j+2) (pl:=⟨w.heap.size+1,0,0⟩) (cO:= .loop .ready none fn n av M params.toList assign body j) (Y:= .loop {state:= .ready,pending:=none,fn,tmps,params,assign,body,defers:=w.heap.size})
    (U:=bo C (bo C h j (some (.deferred (some [])))) (j+1) (some (.loop .ready none fn n av M params.toList assign body j))) sw (Yq _) (Yb _) abG aaj (by rw[World.size_alloc])
    (by rw[fZ _ sw,Zr rfl]) (λx ah=> .inl (by rw[fZ _ sw,Zh ah]))
    ⟨tmps,by
     rw[show(⟨w.heap.size+1,0,0⟩:mB).cI=(w.alloc (.deferred (some []))).heap.size by rw[World.size_alloc],World.alloc_heap_new,Nd j (.inr rfl),acr],
     (bb.ad Bx.iP Bx.jA).ad Nd (λ_ a=> .inl a), .inl (.inr rfl),abM,gQ,λc aB=>(by cases aB),aE.hZ.fn⟩
    ⟨λ_ _ _ a=>(by cases a),λ_ _ _ a=>(by cases a)⟩
   have Dy:iD C (j+1) (gu S j ⟨w.heap.size,0,0⟩) (add af j) (bo C h j (some (.deferred (some [])))) bt.heap.size (w.alloc (.deferred (some []))) (gu (gu S j ⟨w.heap.size,0,0⟩) (j+1) ⟨w.heap.size+1,0,0⟩) (add (add af j) (j+1))
    (bo C (bo C h j (some (.deferred (some [])))) (j+1) (some (.loop .ready none fn n av M params.toList assign body j))) ((w.alloc (.deferred (some []))).alloc (.loop {state:= .ready,pending:=none,fn,tmps,params,assign,body,defers:=w.heap.size})):=
    ⟨Nd,λ_ a=> .inl a,λe a=>a.elim .inl (λa=> .inr Zo),λx _ c4=>by rw[fZ _ sw,Zh Zo],Below.alloc (Below.refl _ _) aaj _⟩
   have ah:=Bx.trans (Yb j) Dy
   have mH:=aE.ext fN (ah.mono aE.j2) (Zz (Yb _) (Yb _))
   have ap5:wB C (add (add af j) (j+1)) fn av (⟨.collected j,[]⟩::bg) none:=⟨λd aO=>by
    rcases Zq.1 aO with rfl|aO
    ·exact⟨.inl (.inr rfl),trivial⟩
    ·exact mH.hZ.bg d aO,mH.hZ.ro,mH.hZ.fn⟩
   have Jy:mC C (gu (gu S j ⟨w.heap.size,0,0⟩) (j+1) ⟨w.heap.size+1,0,0⟩) (add (add af j) (j+1)) (bo C (bo C h j (some (.deferred (some [])))) (j+1) (some (.loop .ready none fn n av M params.toList assign body j))) bU (j+2) n av M tmps
    (.inRangeFunc (j+1)::F) (.inRangeFunc (w.heap.size+1)::bx):=by
    have:=mC.cW (bU:=bU) (aN:=j+2) (h:=bo C (bo C h j (some (.deferred (some [])))) (j+1) (some (.loop .ready none fn n av M params.toList assign body j))) (aL.ad ah.iP ah.jA) (bb.ad ah.iP ah.jA) (l:=j+1) (.inr rfl)
    rw[ll]at this
    exact this
   have pZ:bU<=j+2:=zo aE.j2
   obtain⟨args,b5,cd⟩:=aa5 (w.heap.size+1) _ _ _ _ _ _ _ (j+2) (j+1) ah.iP ah.jA (.inr rfl) (by rw[ll]) fN mH.kW mH.h0 (Zl _)
    (.cons (bP:= .run) Jy trivial ap5 aE.bot pZ mH.cs) Zs a
   refine .head (aeQ (run_enterLoop_outer fn tmps params assign body) (lW _ _) b5) ?_
   have u3:({ct S fn bg aF none tmps (.inRangeFunc (w.heap.size+1)::bx) .run with defers:=[{target:= .collected w.heap.size,args:= #[]}]++bg.map (lM S)}:Frame)=
    ct (gu (gu S j ⟨w.heap.size,0,0⟩) (j+1) ⟨w.heap.size+1,0,0⟩) fn (⟨.collected j,[]⟩::bg) aF none tmps (.inRangeFunc (w.heap.size+1)::bx) .run:=by
    have I:bg.map (lM (gu (gu S j ⟨w.heap.size,0,0⟩) (j+1) ⟨w.heap.size+1,0,0⟩))=bg.map (lM S):=YC λd aO=>Ps ah.iP (aE.hZ.bg d aO)
    have fH:lM (gu (gu S j ⟨w.heap.size,0,0⟩) (j+1) ⟨w.heap.size+1,0,0⟩) ⟨.collected j,[]⟩={target:= .collected w.heap.size,args:= #[]}:=by
     simp only[lM,CD,b2]
     rw[Nd j (.inr rfl),acr]
    simp only[ct,ZR,I,fH,List.cons_append,YK,Y0]
   rw[u3]
   exact cd
  |some l=>
   simp only[mg]at a
   split at a
   ·rename_i st qS gV aV kK c8 aBm ay9 azg gk aD
    have aO:=aE.hZ.ro l rfl
    obtain⟨hM,gz,kv,nf,GU,BU,sP,Ab⟩:=aE.Z.obj l _ aD aO
    have oc:=rF aE.Z
    have Sh:=qY (S:=S) (pl:=⟨w.heap.size,0,0⟩) oc
    have fN:=aE.Z.alloc (b:=j) (ar:=j+1) (pl:=⟨w.heap.size,0,0⟩) (cO:= .loop .ready none fn n av M params.toList assign body gk) (Y:= .loop {state:= .ready,pending:=none,fn,tmps,params,assign,body,defers:=(S gk).cI})
     (U:=bo C h j (some (.loop .ready none fn n av M params.toList assign body gk))) aE.Z.ba (Yq _) (Yb _) oc aE.eH rfl
     (by rw[fZ _ aE.Z.ba,Zr rfl]) (λx ah=> .inl (by rw[fZ _ aE.Z.ba,Zh ah]))
     ⟨tmps,by rw[World.alloc_heap_new,Sh gk nf],bb.ad Sh (λ_ a=> .inl a), .inl nf,abM,gQ,λc aB=>(by cases aB),aE.hZ.fn⟩
     ⟨λ_ _ _ a=>(by cases a),λ_ _ _ a=>(by cases a)⟩
    have ah:iD C j S af h bt.heap.size w (gu S j ⟨w.heap.size,0,0⟩) (add af j) (bo C h j (some (.loop .ready none fn n av M params.toList assign body gk))) (w.alloc (.loop {state:= .ready,pending:=none,fn,tmps,params,assign,body,defers:=(S gk).cI})):=
     ⟨Sh,λ_ a=> .inl a,λe a=>a.elim .inl (λa=> .inr Zo),λx _ c4=>by rw[fZ _ aE.Z.ba,Zh Zo],Below.alloc (Below.refl _ _) aE.eH _⟩
    have mH:=aE.ext fN (ah.mono aE.j2) (Yb _)
    have Jy:mC C (gu S j ⟨w.heap.size,0,0⟩) (add af j) (bo C h j (some (.loop .ready none fn n av M params.toList assign body gk))) bU (j+1) n av M tmps (.inRangeFunc j::F) (.inRangeFunc w.heap.size::bx):=by
     have:=mC.cW (bU:=bU) (aN:=j+1) (h:=bo C h j (some (.loop .ready none fn n av M params.toList assign body gk))) (aL.ad ah.iP ah.jA) (bb.ad ah.iP ah.jA) (l:=j) (.inr rfl)
     rw[ll]at this
     exact this
    have pZ:bU<=j+1:=zo aE.j2
    obtain⟨args,b5,cd⟩:=aa5 w.heap.size _ _ _ _ _ _ _ (j+1) j ah.iP ah.jA (.inr rfl) (by rw[ll]) fN mH.kW mH.h0 (Zl _)
     (.cons (bP:= .run) Jy trivial mH.hZ aE.bot pZ mH.cs) Zs a
    have apW:(Instr.enterLoop fn tmps params assign body ((some l).map λl=>(S l).cI)).run C.P w= .ok (w.heap.size,[]) (w.alloc (.loop {state:= .ready,pending:=none,fn,tmps,params,assign,body,defers:=(S gk).cI})):=by
     unfold Instr.enterLoop
     simp only[ZV,Sem.run_bind,run_getLoop gz,run_newObj_alloc,Result.andThen,Sem.run_pure]
    refine .head (aeQ apW (lW _ _) b5) ?_
    have u3:({ct S fn bg aF (some l) tmps (.inRangeFunc w.heap.size::bx) .run with defers:=[]++bg.map (lM S)}:Frame)=ct S fn bg aF (some l) tmps (.inRangeFunc w.heap.size::bx) (gO S .run):=rfl
    rw[u3, <-GL ah.iP aE.hZ]
    exact cd
   ·simp at a
 ·simp at a
def Xe(cJ:Env C bt dW ec)(gq:nt C bt bE bQ am)(aE:i2 C bt bE bQ fn av bg aF ro cs h j S af w bU aq)(bb:jk S af n av M tmps):∀(c:Code) (F:List d0) (bx:List Item),lO C av c=true->lH C S af av F bx->
 uC c am C F ⟨fn,n,av,bg,aF,ro,cs⟩ M h j=some v->Ends C bt bE bQ v (lone (ct S fn bg aF ro tmps (.code c::bx) .run) aq w):=by
 intro c
 have go:∀F bx,lH C S af av F bx->am .run F ⟨fn,n,av,bg,aF,ro,cs⟩ M h j=some v->Ends C bt bE bQ v (lone (ct S fn bg aF ro tmps bx .run) aq w):=
  λF bx aL a=>gq _ _ _ _ _ _ _ _ _ _ _ _ v a S af w bU tmps bx aq (aE.state (.plain aL bb))
 induction c with
 |skip=>intro F bx _ aL a;exact .head axS (go F bx aL a)
 |region id ax AU=>intro F bx _ aL a;exact awh cJ gq aE aL bb a
 |seq K b mO hI=>
  intro F bx fM aL a
  simp only[lO,Zp]at fM
  exact .head axR (mO (.code b::F) (.code b::bx) fM.1 (.cons (.code fM.2) aL) a)
 |cond c K b mO hI=>
  intro F bx fM aL a
  simp only[lO,Zp]at fM
  have cz:HY c M (uC K am C F ⟨fn,n,av,bg,aF,ro,cs⟩ M h j) (uC b am C F ⟨fn,n,av,bg,aF,ro,cs⟩ M h j)=some v:=a
  simp only[HY,ot]at cz
  split at cz
  ·rename_i ae be
   obtain⟨bH,_⟩:=XT aE.h0 bb fM.1 be
   cases ae with
   |bool t=>
    refine .head (axz (t:=t) (by rw[bH];rfl)) ?_
    cases t with
    |true=>exact mO F bx fM.2.1 aL cz
    |false=>exact hI F bx fM.2.2 aL cz
   |_=>simp at cz
  ·simp at cz
 |block id b hI=>intro F bx fM aL a;exact .head axy (hI (.inBlock id::F) (.inBlock id::bx) fM (.cons .inBlock aL) a)
 |loop b hI=>intro F bx fM aL a;exact .head axI (hI (.inLoop b::F) (.inLoop b::bx) fM (.cons (.inLoop fM) aL) a)
 |rangeFunc f params assign body _ _=>intro F bx fM aL a;exact av8 cJ gq aE bb fM aL a
 |exit id=>
  intro F bx _ aL a
  have cz:AX id am C F ⟨fn,n,av,bg,aF,ro,cs⟩ M h j=some v:=a
  unfold AX at cz
  split at cz
  ·rename_i fa bA
   obtain⟨h2,b5,cd⟩:=amK id aL bA
   exact .head (axD b5) (go fa h2 cd cz)
  ·rename_i bA
   exact SH gq (.inr (.inr ⟨id,bx,rfl,rfl,amJ id aL bA⟩)) aE bb cz
 |scope b hI=>intro F bx fM aL a;exact .head axQ (hI (.inScope b::F) (.inScope b::bx) fM (.cons (.inScope fM) aL) a)
 |label l=>intro F bx _ aL a;exact .head axH (go F bx aL a)
 |goto l=>intro F bx _ _ a;exact absurd a (by simp[uC,DX])
 |ret=>intro F bx _ aL a;exact SH gq (.inr (.inl ⟨rfl,bx,rfl⟩)) aE bb a
 |refuse s=>intro F bx _ _ a;exact absurd a (by simp[uC,DX])
def awq(aE:dt C S af h j bm w)(bb:jk S af n av M tmps){ca:ResultVar->Sem Value}(ii:∀t,ca (.tmp t)=pure (tmps.getD t Go.undef))(dz:∀K t,ca (.cell K t)=do loadVar t (<-asAddr (tmps.getD K Go.undef))):
 ∀(l:List ResultVar) (bj:List J),Ag av l=true->xM C h M l=some bj->(l.mapM ca).run C.P w= .ok (b2 S bj) w/\eA af bj:=by
 intro l
 induction l with
 |nil=>intro bj _ a;simp[xM]at a;subst a;exact⟨by simp[b2],trivial⟩
 |cons x l am=>
  intro bj fM a
  cases x with
  |tmp t=>
   simp only[Ag,Zp]at fM
   simp only[xM]at a
   split at a
   ·rename_i ae r be Z
    simp at a;subst a
    obtain⟨T,W⟩:=bb.val t ae fM.1 be
    obtain⟨au,aP⟩:=am r fM.2 Z
    refine⟨?_,W,aP⟩
    simp[Y4,ii,T,au,b2]
   ·simp at a
  |cell K t=>
   simp only[Ag,Zp]at fM
   simp only[xM]at a
   split at a
   ·rename_i p aA
    split at a
    ·rename_i ae r be Z
     simp at a;subst a
     obtain⟨T,W⟩:=bb.val K p fM.1 aA
     obtain⟨au,aP⟩:=am r fM.2 Z
     obtain⟨bK,cr⟩:=WE aE W be
     refine⟨?_,cr,aP⟩
     cases p with
     |ptr b Y=>
      simp only[Instr.loadAt,Instr.sureAddr,aS,Sem.run_bind,Sem.run_pure,Result.andThen_ok]at bK
      simp[Y4,dz,T,aS,asAddr,bK,au,b2]
     |_=>simp[lK,bM,al]at be;split at be<;>simp at be
    ·simp at a
   ·simp at a
def au7(bj:List J):(if a:(b2 S bj).toArray.size=1 then(b2 S bj).toArray[0]else Value.tuple (b2 S bj).toArray)=aS S (one bj):=by
 match bj with
 |[]=>simp[one,b2,aS]
 |[K]=>simp[one,b2]
 |K::b::r=>simp[one,b2,aS]
def au6{bj:List J}(a:eA af bj):cn af (one bj):=by
 match bj,a with
 |[],a=>exact a
 |[K],a=>exact a.1
 |K::b::r,a=>exact a
def i2.defs(aE:i2 C bt bE bQ fn av bg aF ro cs h j S af w bU aq){gk:List hN}(a:∀d∈gk,wZ af d):i2 C bt bE bQ fn av gk aF ro cs h j S af w bU aq:=
 ⟨aE.Z,aE.kW,aE.h0,aE.j2,⟨a,aE.hZ.ro,aE.hZ.fn⟩,aE.bot,aE.cs⟩
def i2.T0{todo:List d0}{bP:kT}(Jg:bP≠ .run)(b0:qp af bP)(aE:i2 C bt bE bQ fn av bg aF ro cs h j S af w bU aq)(bb:jk S af n av M tmps):
 Ct C bt bE bQ bP todo fn n av bg aF ro cs M h j S af w bU tmps bx aq:=by
 cases bP with
 |run=>exact absurd rfl Jg
 |returning=>exact⟨aE.Z,aE.kW,aE.h0,aE.j2,aE.hZ,b0,aE.bot,aE.cs,bb⟩
 |panicking gb=>exact⟨aE.Z,aE.kW,aE.h0,aE.j2,aE.hZ,b0,aE.bot,aE.cs,bb⟩
def Xt(cJ:Env C bt dW ec)(gq:nt C bt bE bQ am){d:hN}{ds:List hN}{bP:kT}{todo:List d0}(Jg:bP≠ .run)(b0:qp af bP)(aE:i2 C bt bE bQ fn av (d::ds) aF ro cs h j S af w bU aq)(bb:jk S af n av M tmps)
 (a:xQ d ds bP todo am C ⟨fn,n,av,[],aF,ro,cs⟩ M h j=some v):Ends C bt bE bQ v (lone (ct S fn (d::ds) aF ro tmps bx (gO S bP)) aq w):=by
 have Mz:wZ af d:=aE.hZ.bg d (Zv ..)
 have abh:∀d∈ds,wZ af d:=λlq aO=>aE.hZ.bg lq (Zu _ aO)
 have aaX:gO S bP≠ .run:=by cases bP<;>simp[gO]at Jg ⊢
 unfold xQ at a
 split at a
 rename_i P7 aJ GG alM H0 Tq rg ff
 cases ff
 split at a
 ·rename_i r cv
  split at a
  ·rename_i pK gQ
   simp only[e5,hw]at a
   obtain⟨Da,a⟩:=a
   have aO:af r:=Mz.1
   obtain⟨gz,kv⟩:=aE.Z.obj r _ gQ aO
   simp only[ZV]at gz
   obtain⟨bZ,bY,cx,c7⟩:=putObj aE.Z (dk:=bU) (o':= .deferred none) (oq:= .deferred none) (jm Da) aO gQ ⟨Zs,Zs⟩ gz Zs
    (λbZ sD=>⟨by simpa using sD,λl aD=>by cases aD⟩) ⟨λ_ _ _ a=>(by cases a),λ_ _ _ a=>(by cases a)⟩
   have M5:(Instr.takeDeferred (S r).cI).run C.P w= .ok (pK.map (lM S)) bZ:=by
    have I:bZ=w.putObj (S r).cI (.deferred none):=by
     have:(Go.setObj (S r).cI (.deferred none)).run C.P w= .ok () (w.putObj (S r).cI (.deferred none)):=by simp[Go.setObj,Sem.run,gz,World.putObj]
     rw[this]at bY
     simp only[Result.ok.injEq]at bY
     exact bY.2.symm
    rw[I]
    exact run_takeDeferred gz
   refine .head (axT (dE:=pK++ds) aaX M5 (by rw[Yw])) ?_
   have apF:∀d∈pK++ds,wZ af d:=λlq so=>by
    rcases Zy.1 so with ao|ao
    ·exact kv pK rfl lq ao
    ·exact abh lq ao
   have yF:=(aE.defs apF).ext cx c7 (Zl _)
   exact gq _ _ _ _ _ _ _ _ _ _ _ _ v a S af bZ bU tmps bx aq (yF.T0 Jg b0 bb)
  ·simp at a
 ·rename_i f fO args
  split at a
  ·rename_i g cv Rp
   have mj:=acB (S:=S) (h:=h) (j:=j) (bm:=bt.heap.size) (w:=w) cJ.km Mz.1.1 Mz.1.2 Mz.2 Rp
   obtain⟨T,W⟩:=mj
   have rv:=step_defer (P:=C.P) (fr:=ct S fn (⟨.fn f fO,args⟩::ds) aF ro tmps bx (gO S bP)) (cs:=aq) (w:=w) (d:=lM S ⟨.fn f fO,args⟩) (ds:=ds.map (lM S)) aaX rfl rfl T
   refine .head rv ?_
   have aI:AG C S af h bU j n av M tmps bP todo bx:=by
    cases bP with
    |run=>exact absurd rfl Jg
    |_=>exact bb
   exact XI (CF:=true) gq aE.Z aE.kW aE.h0 (Zl _) (.cons (bP:=bP) aI b0 ((aE.defs abh).hZ) aE.bot aE.j2 aE.cs) (λI=>by cases I) W a
  ·simp at a
def alX(S:da):∀(l:List rS),(l.map (tj S)).dropWhile (!·.goexit)=[]:=by
 intro l
 induction l with
 |nil=>rfl
 |cons K l am=>simp[tj,am]
def aw9(S:da)(gb:List rS):settle (gO S (.panicking gb))=gO S (xW gb):=by
 cases gb with
 |nil=>rfl
 |cons p l=>
  obtain⟨v,r⟩:=p
  cases r with
  |false=>simp[gO,settle,xW,tj]
  |true=>simp[gO,settle,xW,tj,alX]
def ayo{gb:List rS}(a:qp af (.panicking gb)):qp af (xW gb):=by
 unfold xW
 split
 ·trivial
 ·exact a
def ayp(gb:List rS):xW gb≠ .run:=by
 unfold xW
 split<;>simp
def awv(cJ:Env C bt dW ec)(gq:nt C bt bE bQ am){todo:List d0}(aE:i2 C bt bE bQ fn av bg aF ro cs h j S af w bU aq)(bb:jk S af n av M tmps)
 (a:KA todo am C ⟨fn,n,av,bg,aF,ro,cs⟩ M h j=some v):Ends C bt bE bQ v (lone (ct S fn bg aF ro tmps bx .returning) aq w):=by
 unfold KA at a
 cases bg with
 |cons d ds=>exact Xt (bP:= .returning) cJ gq Zs trivial aE bb a
 |nil=>
  simp only at a
  split at a
  ·rename_i f b9
   obtain⟨XW,qw,lW⟩:=aE.hZ.fn
   rw[b9]at qw;cases qw
   split at a
   ·rename_i bj JE
    have oe:(results f tmps).run C.P w= .ok (aS S (one bj)) w/\eA af bj:=by
     unfold results
     rw[Sem.run_bind,Array.mapM_eq_mapM_toList,Sem.run_map]
     obtain⟨eW,fv⟩:=awq aE.Z bb (ca:=λx=>match x with| .tmp t=>pure (tmps.getD t Go.undef)| .cell K t=>do loadVar t (<-asAddr (tmps.getD K Go.undef))) (λ_=>rfl) (λ_ _=>rfl) _ _ lW JE
     refine⟨?_,fv⟩
     refine(congrArg (λr=>Result.andThen (Result.andThen r _) _) eW).trans ?_
     simp only[Result.andThen_ok,Sem.run_pure]
     rw[<-au7]
    obtain⟨oe,aoh⟩:=oe
    cases aF with
    |false=>
     have MI:(ct S fn [] false ro tmps bx .returning).leaving C.P w (.returned (aS S (one bj))):=⟨rfl,rfl,rfl,f,b9,oe⟩
     cases cs with
     |nil=>
      simp only[tg,jz,Zf]at a
      subst a
      obtain⟨cT,dL,et⟩:=aE.bot rfl
      have h6:=aE.cs
      cases h6 with
      |nil=>exact⟨S,w,_, .refl _ _,MI,cT,aE.kW⟩
     |cons c rest=>
      refine WW gq aE Zs (au6 aoh) (λg ja I=> ?_) a
      subst I
      exact step_leave_returned MI
    |true=>
     cases cs with
     |nil=>have:=(aE.bot rfl).2.1;cases this
     |cons c rest=>
      obtain⟨gV,aV,kK,c8,we,gk,mR,jn,lf⟩:=c
      obtain⟨rA,hM,h2,ja,rfl,bY,cx,c7,d5,er,dK⟩:=aE.cs.inv
      have rv:=step_going_returned (P:=C.P) (fr:=ct S fn [] true ro tmps bx .returning) (c:=ct S gV gk jn lf hM h2 (gO S mR)) (cs:=ja) (w:=w) (v:=aS S (one bj)) rfl ⟨rfl,rfl,f,b9,oe⟩
      refine .head rv ?_
      cases mR with
      |run=>simp[tg]at a
      |returning=>
       have cz:am .returning we ⟨gV,aV,kK,gk,jn,lf,rest⟩ c8 h j=some v:=a
       exact gq _ _ _ _ _ _ _ _ _ _ _ _ v cz S af w rA hM h2 ja ⟨aE.Z,aE.kW,aE.h0,Zz er aE.j2,c7,trivial,d5,dK,bY⟩
      |panicking gb=>
       have cz:am (xW gb) we ⟨gV,aV,kK,gk,jn,lf,rest⟩ c8 h j=some v:=a
       have I:({ct S gV gk jn lf hM h2 (gO S (.panicking gb))with mode:=settle (ct S gV gk jn lf hM h2 (gO S (.panicking gb))).mode}:Frame)=ct S gV gk jn lf hM h2 (gO S (xW gb)):=by
        rw[show(ct S gV gk jn lf hM h2 (gO S (.panicking gb))).mode=gO S (.panicking gb) from rfl,aw9]
        rfl
       rw[I]
       have ai:i2 C bt bE bQ gV kK gk jn lf rest h j S af w rA ja:=⟨aE.Z,aE.kW,aE.h0,Zz er aE.j2,c7,d5,dK⟩
       exact gq _ _ _ _ _ _ _ _ _ _ _ _ v cz S af w rA hM h2 ja (ai.T0 (ayp gb) (ayo cx) bY)
   ·simp at a
  ·simp at a
def av5(S:da)(gb:List rS)(bP:kT):raised (gO S bP) (gb.map (tj S))=gO S (D8 gb bP):=by
 cases bP<;>simp[gO,raised,D8]
def avW{gb:List rS}{bP:kT}(a:qp af (.panicking gb))(cz:qp af bP):qp af (D8 gb bP):=by
 cases bP with
 |panicking p6=>
  intro p aA
  rcases Zy.1 aA with ao|ao
  ·exact a p ao
  ·exact cz p ao
 |_=>exact a
def avp(cJ:Env C bt dW ec)(gq:nt C bt bE bQ am){todo:List d0}{gb:List rS}(b0:qp af (.panicking gb))(aE:i2 C bt bE bQ fn av bg aF ro cs h j S af w bU aq)(bb:jk S af n av M tmps)
 (a:Kz gb todo am C ⟨fn,n,av,bg,aF,ro,cs⟩ M h j=some v):Ends C bt bE bQ v (lone (ct S fn bg aF ro tmps bx (gO S (.panicking gb))) aq w):=by
 unfold Kz at a
 cases bg with
 |cons d ds=>exact Xt (bP:= .panicking gb) cJ gq Zs b0 aE bb a
 |nil=>
  simp only at a
  cases cs with
  |nil=>simp at a
  |cons c rest=>
   obtain⟨gV,aV,kK,c8,we,gk,mR,jn,lf⟩:=c
   obtain⟨rA,hM,h2,ja,rfl,bY,cx,c7,d5,er,dK⟩:=aE.cs.inv
   obtain⟨f,b9,_⟩:=aE.hZ.fn
   have rv:=step_going_panicked (P:=C.P) (fr:=ct S fn [] aF ro tmps bx (gO S (.panicking gb))) (c:=ct S gV gk jn lf hM h2 (gO S mR)) (cs:=ja) (w:=w) (chain:=gb.map (tj S)) ⟨rfl,rfl,f,b9⟩
   refine .head rv ?_
   have I:({ct S gV gk jn lf hM h2 (gO S mR)with mode:=raised (ct S gV gk jn lf hM h2 (gO S mR)).mode (gb.map (tj S))}:Frame)=ct S gV gk jn lf hM h2 (gO S (D8 gb mR)):=by
    rw[show(ct S gV gk jn lf hM h2 (gO S mR)).mode=gO S mR from rfl,av5]
    rfl
   rw[I]
   have cz:am (D8 gb mR) we ⟨gV,aV,kK,gk,jn,lf,rest⟩ (uH we c8) h j=some v:=a
   have ai:i2 C bt bE bQ gV kK gk jn lf rest h j S af w rA ja:=⟨aE.Z,aE.kW,aE.h0,Zz er aE.j2,c7,d5,dK⟩
   exact gq _ _ _ _ _ _ _ _ _ _ _ _ v cz S af w rA hM h2 ja (ai.T0 (by cases mR<;>simp[D8]) (avW b0 cx) bY.drop)
def aeS(cJ:Env C bt dW ec)(p2:nt C bt bE bQ am):nt C bt bE bQ λbP todo ca M h j=>TL am C bP todo ca M h j:=by
 intro bP todo fn n av bg aF ro cs M h j v cz S af w dk tmps bx aq dp
 cases bP with
 |run=>
  obtain⟨aE,bb⟩:=dp.akA
  have W:aeT todo am C ⟨fn,n,av,bg,aF,ro,cs⟩ M h j=some v:=cz
  cases bb with
  |plain aL xs=>
   cases aL with
   |nil=>
    have au:ol none am C [] ⟨fn,n,av,bg,aF,ro,cs⟩ M h j=some v:=W
    exact SH p2 (.inl ⟨rfl,rfl⟩) aE xs au
   |cons aN aL=>
    rename_i K x F bx
    have au:acD K am C F ⟨fn,n,av,bg,aF,ro,cs⟩ M h j=some v:=W
    have go:∀F bx,lH C S af av F bx->am .run F ⟨fn,n,av,bg,aF,ro,cs⟩ M h j=some v->Ends C bt bE bQ v (lone (ct S fn bg aF ro tmps bx .run) aq w):=
     λF bx aL a=>p2 _ _ _ _ _ _ _ _ _ _ _ _ v a S af w dk tmps bx aq (aE.state (.plain aL xs))
    cases aN with
    |code fM=>exact Xe cJ p2 aE xs _ F bx fM aL au
    |inBlock=>exact .head axE (go F bx aL au)
    |inLoop fM=>exact .head axF (Xe cJ p2 aE xs _ _ _ fM (.cons (.inLoop fM) aL) au)
    |inScope fM=>exact .head axG (go F bx aL au)
    |CL aO=>
     rename_i l
     have aP:Fh l am C F ⟨fn,n,av,bg,aF,ro,cs⟩ M h j=some v:=au
     unfold Fh at aP
     split at aP
     ·rename_i st qS gV aV kK c8 params assign body gk gQ
      have Qp:st≠ .busy->bV (kD C l) (jo (bo C h l (some (.loop .exhausted qS gV aV kK c8 params assign body gk))) λh=>am .run ((qS.map d0.code).toList++F) ⟨fn,n,av,bg,aF,ro,cs⟩ M h j) none=some v->
       Ends C bt bE bQ v (lone (ct S fn bg aF ro tmps (.endRangeFunc (S l).cI::bx) .run) aq w):=by
       intro arN bK
       simp only[e5,hw]at bK
       obtain⟨Da,bK⟩:=bK
       have RQ:∀c,qS=some c->Gt c:=by
        obtain⟨_,_,_,_,_,_,sP,_⟩:=aE.Z.obj l _ gQ aO
        exact sP
       obtain⟨hM,gz,Ab,sP,yF⟩:=SQ aE (i1:= .exhausted) (B5:=qS) (jm Da) aO gQ RQ
       refine .head (axC (run_endLoop gz arN)) ?_
       refine p2 _ _ _ _ _ _ _ _ _ _ _ _ v bK S af _ dk tmps _ aq (yF.state (.plain ?_ xs))
       cases qS with
       |none=>exact aL
       |some c=>
        have aB:lO C av c=true:=by
         rcases sP c rfl with rfl|⟨id,rfl⟩<;>rfl
        exact .cons (.code aB) aL
      cases st with
      |busy=>simp at aP
      |ready=>exact Qp Zs aP
      |done=>exact Qp Zs aP
      |exhausted=>exact Qp Zs aP
     ·simp at aP
    |begin=>
     have aP:HQ am C F ⟨fn,n,av,bg,aF,ro,cs⟩ M h j=some v:=au
     unfold HQ at aP
     cases ro with
     |none=>simp at aP
     |some l=>
      simp only at aP
      split at aP
      ·rename_i qS gV aV kK c8 params assign body gk gQ
       simp only[e5,hw]at aP
       obtain⟨Da,aP⟩:=aP
       have aO:=aE.hZ.ro l rfl
       have RQ:∀c,qS=some c->Gt c:=by
        obtain⟨_,_,_,_,_,_,sP,_⟩:=aE.Z.obj l _ gQ aO
        exact sP
       obtain⟨hM,gz,Ab,sP,yF⟩:=SQ aE (i1:= .busy) (B5:=qS) (jm Da) aO gQ RQ
       refine .head (axx (run_beginRound gz rfl)) ?_
       exact p2 _ _ _ _ _ _ _ _ _ _ _ _ v aP S af _ dk tmps bx aq (yF.state (.plain aL xs))
      ·simp at aP
  |seq aL aI=>exact aeH cJ p2 _ _ _ _ _ _ _ _ _ _ aE aL aI W
  |drawn aL bK cr dP fi=>exact Xz cJ p2 aE aL bK cr dP.dl dP fi W
 |returning=>
  have aE:i2 C bt bE bQ fn av bg aF ro cs h j S af w dk aq:=⟨dp.Z,dp.kW,dp.h0,dp.j2,dp.hZ,dp.bot,dp.cs⟩
  exact awv (todo:=todo) cJ p2 aE dp.todo cz
 |panicking gb=>
  have aE:i2 C bt bE bQ fn av bg aF ro cs h j S af w dk aq:=⟨dp.Z,dp.kW,dp.h0,dp.j2,dp.hZ,dp.bot,dp.cs⟩
  exact avp (todo:=todo) cJ p2 dp.mode aE dp.todo cz
def awS(cJ:Env C bt dW ec):∀n,nt C bt bE bQ (run C n):=by
 intro n
 induction n with
 |zero=>intro bP todo fn n av bg aF ro cs M h j v a;simp[run]at a
 |succ m p2=>exact aeS cJ p2
def awP(cJ:Env C bt dW ec){m f:Nat}{args:List J}(ha:eA ec args)(a:uh C m f args=some v):
 Calls C.P f (b2 dW args).toArray bt λI bZ=>(∃S,I= .returned (aS S v))/\Below bt.heap.size bt bZ:=by
 intro rg
 have bX:Ends C bt f rg v (lone (Frame.enter C.P f (b2 dW args).toArray .normal) rg bt):=
  LD (awS cJ m) cJ.base (Below.refl _ _) cJ.h0 (Zl _) .nil (λ_=>rfl) ha a
 obtain⟨S,bZ,fr,T,W,au,aP⟩:=bX
 exact⟨.returned (aS S v),bZ,fr,⟨⟨S,rfl⟩,aP⟩,T,au,W⟩
end
end Go.bk

namespace Go.bk
noncomputable section
open Go.RowKit (Below)
abbrev wD:=Option (List J×Nat×List (Nat×an))
def DJ(P:Program)(next:Nat->DataW Unit->Nat->wD):List Field->List (DataW Unit)->Nat->Nat->wD
 |[],[],_,n=>some ([],n,[])
 |f::jC,d::ds,off,n=>bV (Nat.beq f.offset off) (match next f.type d n with
  |some (l,aJ,os)=>bV (Nat.beq l.length (P.cellsOf f.type)) (match DJ P next jC ds (off+l.length) aJ with
   |some (c5,bc,sS)=>some (l++c5,bc,os++sS)
   |none=>none) none
  |none=>none) none
 |_,_,_,_=>none
def Gy(P:Program)(next:Nat->DataW Unit->Nat->wD)(I:Nat):List (DataW Unit)->Nat->wD
 |[],n=>some ([],n,[])
 |d::ds,n=>match next I d n with
  |some (l,aJ,os)=>bV (Nat.beq l.length (P.cellsOf I)) (match Gy P next I ds aJ with
   |some (c5,bc,sS)=>some (l++c5,bc,os++sS)
   |none=>none) none
  |none=>none
def JU:Lit->Option J
 | .bool b=>some (.bool b)
 | .int F n=>some (.int F n)
 | .string s=>some (.str (s.map (·.toNat)))
 |_=>none
def SF(P:Program)(I:Nat)(l:List J):Option J:=match P.underlying I with
 |some (.struct _)=>some (.agg l)
 |some (.array _ _)=>some (.agg l)
 |some _=>(match l with|[v]=>some v|_=>none)
 |none=>none
def NT(P:Program)(F:Nat):Bool:=match P.underlying F with|some .bool=>true|some (.int _)=>true|some .string=>true|_=>false
def JZ(P:Program)(next:Nat->DataW Unit->Nat->wD)(I:Nat):List (Lit×DataW Unit)->Nat->Option (List (J×J)×Nat×List (Nat×an))
 |[],n=>some ([],n,[])
 |(key,d)::b7,n=>match JU key,next I d n with
  |some Gx,some (l,aJ,os)=>(match SF P I l,JZ P next I b7 aJ with
   |some v,some (r,bc,sS)=>some ((Gx,v)::r,bc,os++sS)
   |_,_=>none)
  |_,_=>none
def Ha(l:List J):an:= .cells (V.ofList l 0 .nil) l.length .own
def xz(P:Program):Nat->Nat->DataW Unit->Nat->wD
 |0,_,_,_=>none
 |m+1,t,d,n=>match P.underlying t,d with
  |some .bool, .lit (.bool b)=>some ([.bool b],n,[])
  |some (.int _), .lit (.int F i)=>some ([.int F i],n,[])
  |some .string, .lit (.string s)=>some ([.str (s.map (·.toNat))],n,[])
  |some (.pointer _), .nil=>some ([.cy],n,[])
  |some (.pointer I), .ptr d=>(match xz P m I d (n+1)with
   |some (l,aJ,os)=>bV (Nat.beq l.length (P.cellsOf I)&&Nat.blt 0 l.length) (some ([.ptr n 0],aJ,(n,Ha l)::os)) none
   |none=>none)
  |some (.slice _), .nil=>some ([.aU],n,[])
  |some (.slice I), .slice b7 aeN=>(match aeN with
   |[]=>(match Gy P (xz P m) I b7 (n+1)with
    |some (l,aJ,os)=>bV (Nat.blt 0 l.length) (some ([.slice n 0 b7.length b7.length],aJ,(n,Ha l)::os)) none
    |none=>none)
   |_::_=>none)
  |some (.struct jC), .agg ds=>(match DJ P (xz P m) jC.toList ds 0 n with
   |some (l,aJ,os)=>bV (Nat.beq l.length (P.cellsOf t)) (some (l,aJ,os)) none
   |none=>none)
  |some (.array _ I), .agg ds=>(match Gy P (xz P m) I ds n with
   |some (l,aJ,os)=>bV (Nat.beq l.length (P.cellsOf t)) (some (l,aJ,os)) none
   |none=>none)
  |some (.interface _), .nil=>some ([.nilIface],n,[])
  |some (.map _ _), .nil=>some ([.l2],n,[])
  |some (.map F I), .map b7=>bV (NT P F) (match JZ P (xz P m) I b7 (n+1)with
   |some (r,aJ,os)=>some ([.map n],aJ,(n, .look r)::os)
   |none=>none) none
  |_,_=>none
section
variable{C:a2}{P:Program}{w:World}
def rU(w:World)(du:List MemPlace):Prop:=∀b off,MemPlace.cell b off∈du->∃c t,w.heap[b]? =some (.cells c t (0,0))
def EF(Y:an):Prop:=∀C af,wE C af Y
def Lays(C:a2)(w:World)(n:Nat)(cs:List Value)(r:List J×Nat×List (Nat×an)):Prop:=
 n<=r.2.1/\(∀x∈r.2.2,n<=x.1/\x.1<r.2.1/\EF x.2)/\∃f:Nat->mB,∀S af,(∀b,n<=b->b<r.2.1->S b=f b/\af b)->cs=b2 S r.1/\eA af r.1/\∀x∈r.2.2,j9 C S af x.2 (S x.1) w
def Lays.plain{n:Nat}{cs:List Value}{l:List J}(a:∀S af,cs=b2 S l/\eA af l):Lays C w n cs (l,n,[]):=
 ⟨Zl _,Zs,λ_=>default,λS af _=>⟨(a S af).1,(a S af).2,Zs⟩⟩
def Lays.app{n aJ bc:Nat}{rg PC:List Value}{en c5:List J}{adV sS:List (Nat×an)}(T:Lays C w n rg (en,aJ,adV))(W:Lays C w aJ PC (c5,bc,sS)):Lays C w n (rg++PC) (en++c5,bc,adV++sS):=by
 obtain⟨bf,ck,eS,a3⟩:=T
 obtain⟨cT,dL,e2,et⟩:=W
 refine⟨Zz bf cT, ?_,λb=>if b<aJ then eS b else e2 b, ?_⟩
 ·intro x ah
  rcases Zy.1 ah with a|a
  ·obtain⟨cL,cC,d6⟩:=ck x a
   exact⟨cL,ZL cC cT,d6⟩
  ·obtain⟨cL,cC,d6⟩:=dL x a
   exact⟨Zz bf cL,cC,d6⟩
 ·intro S af dS
  obtain⟨dy,dZ,hk⟩:=a3 S af (λb T W=>by
   have Fw:b<aJ:=W
   have:=dS b T (ZL W cT)
   simp only[Zr Fw]at this
   exact this)
  obtain⟨c3,cQ,eZ⟩:=et S af (λb T W=>by
   have tE:¬b<aJ:=zl.2 T
   have:=dS b (Zz bf T) W
   simp only[Zh tE]at this
   exact this)
  refine⟨by rw[CE, <-dy, <-c3],A3 dZ cQ, ?_⟩
  intro x ah
  rcases Zy.1 ah with a|a
  ·exact hk x a
  ·exact eZ x a
def DO{α eP:Type}{f:α->Option eP}:∀{l:List α}{r:List eP},l.mapM f=some r->r.length=l.length/\∀(i:Nat) (K:α) (b:eP),l[i]? =some K->r[i]? =some b->f K=some b:=by
 intro l
 induction l with
 |nil=>intro r a;simp at a;subst a;simp
 |cons K l am=>
  intro r a
  simp only[Y4,Option.bind_eq_bind,ZX]at a
  obtain⟨b,ai,hW,Z,a⟩:=a
  simp at a;subst a
  obtain⟨T,W⟩:=am Z
  refine⟨by simp[T],λi f3 dN aE jV=> ?_⟩
  cases i with
  |zero=>simp at aE jV;subst aE;subst jV;exact ai
  |succ i=>exact W i f3 dN (by simpa using aE) (by simpa using jV)
def adq{α eP:Type}{f:α->Option eP}{K:α}{l:List α}{r:List eP}(a:(K::l).mapM f=some r):∃b hW,r=b::hW/\f K=some b/\l.mapM f=some hW:=by
 simp only[Y4,Option.bind_eq_bind,ZX]at a
 obtain⟨b,ai,hW,Z,a⟩:=a
 simp at a;subst a
 exact⟨b,hW,rfl,ai,Z⟩
def rU.of{du c2:List MemPlace}(a:rU w du)(aI:∀x∈c2,x∈du):rU w c2:=λb off ai=>a b off (aI _ ai)
def K1(C:a2)(w:World)(next:Nat->DataW Unit->Nat->wD)(eY:TypeId->List Value->Option (DataW Unit×List MemPlace)):Prop:=
 ∀t d n r,next t d n=some r->∀cs du,eY t cs=some (d,du)->rU w du->Lays C w n cs r
variable{next:Nat->DataW Unit->Nat->wD}{eY:TypeId->List Value->Option (DataW Unit×List MemPlace)}
def atA(iV:K1 C w next eY){cs:List Value}:∀(jC:List Field) (ds:List (DataW Unit)) (off n:Nat) (r:List J×Nat×List (Nat×an)),DJ P next jC ds off n=some r->
 ∀cp:List (DataW Unit×List MemPlace),(jC.mapM λf=>eY f.type ((cs.drop f.offset).take (P.cellsOf f.type)))=some cp->cp.map (·.1)=ds->rU w (cp.flatMap (·.2))->Lays C w n ((cs.drop off).take r.1.length) r:=by
 intro jC
 induction jC with
 |nil=>
  intro ds off n r a cp _ _ _
  cases ds with
  |nil=>simp[DJ]at a;subst a;exact .plain λS af=>⟨by simp[b2],trivial⟩
  |cons d ds=>simp[DJ]at a
 |cons f jC am=>
  intro ds off n r a cp ah aO cw
  cases ds with
  |nil=>simp[DJ]at a
  |cons d ds=>
   simp only[DJ,e5]at a
   obtain⟨RK,a⟩:=a
   have RK:=Zj RK
   split at a
   ·rename_i l aJ os Z
    simp only[e5]at a
    obtain⟨aD,a⟩:=a
    have aD:=Zj aD
    split at a
    ·rename_i c5 bc sS fN
     simp at a;subst a
     obtain⟨e,nT,rfl,H,Sg⟩:=adq ah
     simp at aO
     obtain⟨rfl,aO⟩:=aO
     have T:=iV _ _ _ _ Z _ e.2 (by rw[H]) (cw.of (by intro x ah;simp;exact .inl ah))
     have W:=am ds (off+l.length) aJ _ fN nT Sg aO (cw.of (by intro x ah;simp only[YR,Zy];exact .inr ah))
     rw[RK, <-aD]at T
     have:=T.app W
     simp only[ZO]
     rw[List.take_add,zi]
     exact this
    ·simp at a
   ·simp at a
def X8(cs:List Value)(F:Nat):∀(m i0:Nat),(List.range' i0 m).flatMap (λi=>(cs.drop (i*F)).take F)=(cs.drop (i0*F)).take (m*F):=by
 intro m
 induction m with
 |zero=>intro i0;simp
 |succ m am=>
  intro i0
  rw[List.range'_succ,YR,am,Ya m 1 F,Nat.one_mul,Nat.add_comm (m*F) F,List.take_add,zi,Ya i0 1 F,Nat.one_mul]
def ac3(iV:K1 C w next eY){I:Nat}{g:Nat->List Value}:∀(ds:List (DataW Unit)) (i0 n:Nat) (r:List J×Nat×List (Nat×an)),Gy P next I ds n=some r->
 ∀cp:List (DataW Unit×List MemPlace),((List.range' i0 ds.length).mapM λi=>eY I (g i))=some cp->cp.map (·.1)=ds->rU w (cp.flatMap (·.2))->Lays C w n ((List.range' i0 ds.length).flatMap g) r/\r.1.length=ds.length*P.cellsOf I:=by
 intro ds
 induction ds with
 |nil=>
  intro i0 n r a cp _ _ _
  simp[Gy]at a;subst a
  exact⟨.plain λS af=>⟨by simp[b2],trivial⟩,Zs⟩
 |cons d ds am=>
  intro i0 n r a cp ah aO cw
  simp only[Gy]at a
  split at a
  ·rename_i l aJ os Z
   simp only[e5]at a
   obtain⟨aD,a⟩:=a
   have aD:=Zj aD
   split at a
   ·rename_i c5 bc sS fN
    simp at a;subst a
    simp only[ZC,List.range'_succ]at ah
    obtain⟨e,nT,rfl,H,Sg⟩:=adq ah
    simp at aO
    obtain⟨rfl,aO⟩:=aO
    have T:=iV _ _ _ _ Z _ e.2 (by rw[H]) (cw.of (by intro x ah;simp;exact .inl ah))
    obtain⟨W,au⟩:=am (i0+1) aJ _ fN nT Sg aO (cw.of (by intro x ah;simp only[YR,Zy];exact .inr ah))
    refine⟨?_, ?_⟩
    ·simp only[ZC,List.range'_succ,YR]
     exact T.app W
    ·simp only[ZO,ZC,au,aD,Nat.succ_mul]
     omega
   ·simp at a
  ·simp at a
end
end
end Go.bk

namespace Go.bk
noncomputable section
open Go.RowKit (Below)
section
variable{C:a2}{P:Program}{w:World}
def Pv{K:Addr}{v:Value}(a:w.cell? K=some v):K.spot=none/\∃cq ty uf,w.heap[K.block]? =some (.cells cq ty uf)/\cq[K.off]? =some v:=by
 unfold World.cell? at a
 split at a
 ·rename_i c ty uf ai
  split at a
  ·cases a
  ·rename_i aI
   refine⟨?_,c,ty,uf,ai,a⟩
   cases b6:K.spot with
   |none=>rfl
   |some x=>rw[b6]at aI;exact absurd rfl aI
 ·cases a
def Pb(K:Addr)(aa:Nat):(K.add aa).block=K.block:=by unfold Addr.add;split<;>rfl
def WF(K:Addr)(aa:Nat):(K.add aa).off=K.off+aa:=by unfold Addr.add;split<;>simp_all
def Px{K:Addr}{F:Nat}{g:List Value}{cq:Array Value}{ty:TypeId}{uf:Nat×Nat}(ai:w.heap[K.block]? =some (.cells cq ty uf))(a:w.cells? 0 K F=some g):g=(cq.toList.drop K.off).take F/\g.length=F:=by
 unfold World.cells? at a
 rw[Zr (zm _)]at a
 obtain⟨T,W⟩:=DO a
 rw[List.length_range]at T
 have key:∀aa,aa<F->cq[K.off+aa]? =g[aa]? :=by
  intro aa bL
  have b0:g[aa]? =some g[aa]:=Ze Zo
  have:=W aa aa g[aa] (by simp[bL]) b0
  obtain⟨_,ES,ayj,aBp,cL,cC⟩:=Pv this
  rw[Pb,ai]at cL
  cases cL
  rw[WF]at cC
  rw[cC,b0]
 refine⟨YN λaa=> ?_,T⟩
 by_cases bL:aa<F
 ·rw[YS bL,YG, <-key aa bL];simp
 ·rw[ZU Zo,ZU (by simp;omega)]
def S6(l:List J):EF (Ha l):=λ_ _=>⟨λ_ _ _ a=>(by cases a),λ_ _ _ a=>(by cases a;exact GV)⟩
def au2(l:List (J×J)):EF (.look l):=λ_ _=>⟨λ_ _ _ a=>(by cases a),λ_ _ _ a=>(by cases a)⟩
def Tr{S:da}{af:Nat->Prop}{l:List J}{pl:mB}{cq:Array Value}{ty:TypeId}(ai:w.heap[pl.cI]? =some (.cells cq ty (0,0)))(aD:(cq.toList.drop pl.ek).take l.length=b2 S l)(g:eA af l)(cw:0<l.length):j9 C S af (Ha l) pl w:=by
 have fL:l.length<=cq.size-pl.ek:=by
  have:=congrArg List.length aD
  rw[jQ]at this
  simp at this
  omega
 refine⟨cq,ty,0,0,ai,rfl,Zo,λi v bD=> ?_⟩
 rw[kM]at bD
 have aN:i<l.length:=(Zc.1 bD).1
 refine⟨?_,A4 g bD⟩
 have:=congrArg (λx:List Value=>x[i]?) aD
 simp only[YS aN,YG,ZM,AQ,bD,ZV]at this
 exact this
def Lays.block{n aJ:Nat}{os:List (Nat×an)}{cs:List Value}{l:List J}{ae:J}{x:Value}{cO:an}(pl:mB)(a:Lays C w (n+1) cs (l,aJ,os))(bl:EF cO)
 (gQ:∀S af,S n=pl->af n->cs=b2 S l->eA af l->j9 C S af cO pl w/\x=aS S ae/\cn af ae):Lays C w n [x] ([ae],aJ,(n,cO)::os):=by
 obtain⟨bf,ck,f,a3⟩:=a
 have bf:n+1<=aJ:=bf
 refine⟨by simp only;omega, ?_,λb=>if b=n then pl else f b, ?_⟩
 ·intro e H
  rcases Zq.1 H with rfl|H
  ·exact⟨Zl _,by simp only;omega,bl⟩
  ·obtain⟨cL,cC,d6⟩:=ck e H
   exact⟨Zo,cC,d6⟩
 ·intro S af dS
  have aM:=dS n (Zl _) (by simp only;omega)
  simp only[ZD]at aM
  obtain⟨dy,dZ,hk⟩:=a3 S af (λb T W=>by
   have:=dS b Zo W
   have dT:b≠n:=Zo
   simp only[Zh dT]at this
   exact this)
  obtain⟨eW,fv,hK⟩:=gQ S af aM.1 aM.2 dy dZ
  refine⟨by simp[b2,fv],⟨hK,trivial⟩, ?_⟩
  intro e H
  rcases Zq.1 H with rfl|H
  ·simp only[aM.1];exact eW
  ·exact hk e H
def ad7{α eP:Type}{f:α->eP}{K m:List eP}(a:K.Perm m):∀l:List α,l.map f=K->∃ci:List α,ci.Perm l/\ci.map f=m:=by
 induction a with
 |nil=>intro l a;simp at a;subst a;exact⟨[], .refl _,rfl⟩
 |cons x _ am=>
  intro l a
  cases l with
  |nil=>simp at a
  |cons e l=>
   simp at a
   obtain⟨ci,T,W⟩:=am l a.2
   exact⟨e::ci,T.cons e,by simp[a.1,W]⟩
 |swap x e fY=>
  intro l a
  cases l with
  |nil=>simp at a
  |cons p l=>
   cases l with
   |nil=>simp at a
   |cons ao l=>
    simp at a
    obtain⟨rfl,rfl,rfl⟩:=a
    exact⟨ao::p::l, .swap _ _ _,Zs⟩
 |trans _ _ Si JH=>
  intro l a
  obtain⟨en,T,W⟩:=Si l a
  obtain⟨c5,au,aP⟩:=JH en W
  exact⟨c5,au.trans T,aP⟩
def insert_perm{pE:Type}(x:Lit×DataW pE):∀l,(DataW.insert x l).Perm (x::l):=by
 intro l
 induction l with
 |nil=>exact .refl _
 |cons e l am=>
  simp only[DataW.insert]
  split
  ·exact .refl _
  ·exact(am.cons e).trans (.swap _ _ _)
def sorted_perm{pE:Type}:∀l:List (Lit×DataW pE),(l.foldr DataW.insert []).Perm l:=by
 intro l
 induction l with
 |nil=>exact .refl _
 |cons x l am=>exact(insert_perm x _).trans (am.cons x)
def as9{F:Nat}{v:Value}{key:Lit}{Gx:J}(aA:NT P F=true)(a:keyOf P F v=some key)(aL:JU key=some Gx)(S:da)(af:Nat->Prop):v=aS S Gx/\cn af Gx:=by
 unfold NT at aA
 unfold keyOf at a
 have I:mapKey P F v=some key:=by
  cases be:P.underlying F with
  |none=>rw[be]at aA;cases aA
  |some ae=>rw[be]at a aA;cases ae<;>first|exact a|cases aA
 unfold mapKey at I
 split at I
 ·simp at I;subst I;simp[JU]at aL;subst aL;exact⟨rfl,trivial⟩
 ·split at I
  ·rename_i ao Th n _ b6
   simp at I;subst I;simp[JU]at aL;subst aL
   exact⟨by rw[b6.1];rfl,trivial⟩
  ·cases I
 ·split at I
  ·rename_i s _ _
   simp at I;subst I;simp[JU]at aL;subst aL
   refine⟨by simp only[aS];rw[Pp], ?_⟩
   intro x ah
   simp at ah
   obtain⟨b,_,rfl⟩:=ah
   exact b.toNat_lt
  ·cases I
 ·cases I
def ayC{I:Nat}{v:Value}{l:List J}{ae:J}{S:da}{af:Nat->Prop}(b9:v.formed P I=true)(be:SF P I l=some ae)(aB:v.cells.toList=b2 S l)(g:eA af l):v=aS S ae/\cn af ae:=by
 unfold SF at be
 unfold Value.formed at b9
 cases aO:P.underlying I with
 |none=>rw[aO]at be;cases be
 |some KC=>
  rw[aO]at be b9
  have agg:(∃cs,v= .agg cs)->ae= .agg l->v=aS S ae/\cn af ae:=by
   rintro⟨cs,rfl⟩ rfl
   refine⟨?_,g⟩
   simp only[Value.cells]at aB
   simp only[aS, <-aB]
  have axf:v.cells= #[v]->(∃x,l=[x]/\ae=x)->v=aS S ae/\cn af ae:=by
   rintro T ⟨x,rfl,rfl⟩
   rw[T]at aB
   simp[b2]at aB
   exact⟨aB,g.1⟩
  cases v<;>cases KC<;>simp only at b9 be<;>first
   |(cases b9;done)
   |(simp at be;exact agg ⟨_,rfl⟩ be.symm)
   |(
     split at be
     ·simp at be;exact axf rfl ⟨_,rfl,be.symm⟩
     ·cases be)
end
end
end Go.bk

namespace Go.bk
noncomputable section
open Go.RowKit (Below)
section
variable{C:a2}{P:Program}{w:World}
variable{next:Nat->DataW Unit->Nat->wD}{eY:TypeId->List Value->Option (DataW Unit×List MemPlace)}
def atz(iV:K1 C w next eY){F I:Nat}(aA:NT P F=true):∀(b7:List (Lit×DataW Unit)) (n:Nat) (r:List (J×J)×Nat×List (Nat×an)),JZ P next I b7 n=some r->
 ∀hX:List (MapEntry×((Lit×DataW Unit)×List MemPlace)),hX.map (·.2.1)=b7->(∀bu∈hX,keyOf P F bu.1.key=some bu.2.1.1/\bu.1.val.formed P I=true/\eY I bu.1.val.cells.toList=some (bu.2.1.2,bu.2.2)/\rU w bu.2.2)->
 n<=r.2.1/\(∀x∈r.2.2,n<=x.1/\x.1<r.2.1/\EF x.2)/\r.1.length=hX.length/\∃f:Nat->mB,∀S af,(∀b,n<=b->b<r.2.1->S b=f b/\af b)->
  hX.map (·.1)=(List.zipWith (λ(p:J×J) (bu:MapEntry×((Lit×DataW Unit)×List MemPlace))=>(p.1,p.2,bu.1.born)) r.1 hX).map (lQ S)/\(∀p∈r.1,cn af p.1/\cn af p.2)/\∀x∈r.2.2,j9 C S af x.2 (S x.1) w:=by
 intro b7
 induction b7 with
 |nil=>
  intro n r a hX tH _
  simp[JZ]at a;subst a
  simp at tH;subst tH
  exact⟨Zl _,Zs,rfl,λ_=>default,λS af _=>⟨rfl,Zs,Zs⟩⟩
 |cons K b7 am=>
  obtain⟨key,d⟩:=K
  intro n r a hX tH k2
  simp only[JZ]at a
  split at a
  ·rename_i Gx l aJ os aqo aM
   split at a
   ·rename_i v jv bc sS bD Z
    simp at a;subst a
    cases hX with
    |nil=>simp at tH
    |cons bu hX=>
     simp at tH
     obtain⟨Gd,Ge⟩:=tH
     obtain⟨b5,cd,c0,el⟩:=k2 bu (Zv ..)
     rw[Gd]at b5 c0
     obtain⟨bf,ck,eS,a3⟩:=iV _ _ _ _ aM _ _ c0 el
     obtain⟨cT,dL,ei,e2,et⟩:=am aJ _ Z hX Ge (λbu cw=>k2 bu (Zu _ cw))
     have bf:n<=aJ:=bf
     have cT:aJ<=bc:=cT
     refine⟨Zz bf cT, ?_,by simpa using ei,λb=>if b<aJ then eS b else e2 b, ?_⟩
     ·intro x ah
      rcases Zy.1 ah with ao|ao
      ·obtain⟨cL,cC,d6⟩:=ck x ao
       exact⟨cL,ZL cC cT,d6⟩
      ·obtain⟨cL,cC,d6⟩:=dL x ao
       exact⟨Zz bf cL,cC,d6⟩
     ·intro S af dS
      obtain⟨dy,dZ,hk⟩:=a3 S af (λb T W=>by
       have Fw:b<aJ:=W
       have:=dS b T (ZL W cT)
       simp only[Zr Fw]at this
       exact this)
      obtain⟨c3,cQ,eZ⟩:=et S af (λb T W=>by
       have tE:¬b<aJ:=zl.2 T
       have:=dS b (Zz bf T) W
       simp only[Zh tE]at this
       exact this)
      obtain⟨bY,cx⟩:=as9 aA b5 aqo S af
      obtain⟨KI,afi⟩:=ayC cd bD dy dZ
      refine⟨?_, ?_, ?_⟩
      ·simp only[ZR,List.zipWith_cons_cons,c3]
       congr 1
       obtain⟨⟨aBN,aBO,aBM⟩,_⟩:=bu
       simp only[lQ]at bY KI ⊢
       rw[<-bY, <-KI]
      ·intro p aA
       rcases Zq.1 aA with rfl|aA
       ·exact⟨cx,afi⟩
       ·exact cQ p aA
      ·intro x ah
       rcases Zy.1 ah with ao|ao
       ·exact hk x ao
       ·exact eZ x ao
   ·simp at a
  ·simp at a
def afP{hX:List (MapEntry×((Lit×DataW Unit)×List MemPlace))}:∀(r:List (J×J)) (hX:List (MapEntry×((Lit×DataW Unit)×List MemPlace))),r.length=hX.length->
 (List.zipWith (λ(p:J×J) (bu:MapEntry×((Lit×DataW Unit)×List MemPlace))=>(p.1,p.2,bu.1.born)) r hX).map (λI=>(I.1,I.2.1))=r:=by
 intro r
 induction r with
 |nil=>intro hX _;simp
 |cons p r am=>
  intro hX a
  cases hX with
  |nil=>simp at a
  |cons bu hX=>simp[am hX (by simpa using a)]
def aub{α eP:Type}{f g:α->Option eP}:∀{l:List α},(∀x∈l,f x=g x)->l.mapM f=l.mapM g:=by
 intro l
 induction l with
 |nil=>intro _;rfl
 |cons K l am=>intro a;simp[Y4,a K Zs,am λx ah=>a x (by simp[ah])]
def am1{α eP:Type}{f g:α->List eP}:∀{l:List α},(∀x∈l,f x=g x)->l.flatMap f=l.flatMap g:=by
 intro l
 induction l with
 |nil=>intro _;rfl
 |cons K l am=>intro a;simp[YR,a K Zs,am λx ah=>a x (by simp[ah])]
end
end
end Go.bk

namespace Go.bk
noncomputable section
open Go.RowKit (Below)
section
variable{C:a2}{P:Program}{w:World}
abbrev rd(P:Program)(w:World)(ao:Nat):TypeId->List Value->Option (DataW Unit×List MemPlace):=DataW.trod (λ_=>()) P w 0 (λ_=>true) false ao
def N3{K:Addr}{F:Nat}(a:0<F):MemPlace.cell K.block K.off∈MemPlace.row K F:=by
 unfold MemPlace.row
 exact ZJ.2 ⟨0,by simp[a],Zs⟩
def ac5:∀(m ao:Nat),K1 C w (xz P m) (rd P w ao):=by
 intro m
 induction m with
 |zero=>intro ao t d n r a;simp[xz]at a
 |succ m am=>
  intro ao t d n r a cs du Z cw
  cases ao with
  |zero=>simp[rd,DataW.trod]at Z
  |succ ao=>
   have JI:=am ao
   simp only[xz]at a
   split at a
   ·
    rename_i b be
    simp at a;subst a
    match cs with
    |[]=>simp[rd,DataW.trod,be]at Z
    |_::_::_=>simp[rd,DataW.trod,be]at Z
    |[c]=>
     cases c<;>simp[rd,DataW.trod,be]at Z
     obtain⟨rfl,rfl⟩:=Z
     exact .plain λS af=>⟨rfl,trivial,trivial⟩
   ·
    rename_i fa F i be
    simp at a;subst a
    match cs with
    |[]=>simp[rd,DataW.trod,be]at Z
    |_::_::_=>simp[rd,DataW.trod,be]at Z
    |[c]=>
     cases c<;>simp[rd,DataW.trod,be]at Z
     obtain⟨⟨rfl,_⟩,⟨rfl,rfl⟩,rfl⟩:=Z
     exact .plain λS af=>⟨rfl,trivial,trivial⟩
   ·
    rename_i s be
    simp at a;subst a
    match cs with
    |[]=>simp[rd,DataW.trod,be]at Z
    |_::_::_=>simp[rd,DataW.trod,be]at Z
    |[c]=>
     cases c<;>simp[rd,DataW.trod,be]at Z
     obtain⟨_,rfl,rfl⟩:=Z
     refine .plain λS af=>⟨by simp only[b2,aS];rw[Pp], ?_,trivial⟩
     intro x ah
     simp at ah
     obtain⟨b,_,rfl⟩:=ah
     exact b.toNat_lt
   ·
    rename_i I be
    simp at a;subst a
    match cs with
    |[]=>simp[rd,DataW.trod,be]at Z
    |_::_::_=>simp[rd,DataW.trod,be]at Z
    |[c]=>
     cases c<;>simp[rd,DataW.trod,be]at Z
     rename_i K
     cases K with
     |none=>exact .plain λS af=>⟨rfl,trivial,trivial⟩
     |some K=>simp[ZX]at Z
   ·
    rename_i I d be
    split at a
    ·rename_i l aJ os aD
     simp only[e5,Zp,Zf]at a
     obtain⟨⟨T,W⟩,rfl⟩:=a
     have T:=Zj T
     have W:=lo W
     match cs with
     |[]=>simp[rd,DataW.trod,be]at Z
     |_::_::_=>simp[rd,DataW.trod,be]at Z
     |[c]=>
      cases c<;>simp[rd,DataW.trod,be]at Z
      rename_i Y
      cases Y with
      |none=>simp at Z
      |some K=>
       simp only[ZX,Function.comp,Yn,YT,DataW.ptr.injEq]at Z
       obtain⟨de,aB,x,ah,rfl,rfl⟩:=Z
       obtain⟨cq,ty,ai⟩:=cw K.block K.off (Zy.2 (.inl (N3 Zo)))
       obtain⟨b5,cd⟩:=Px ai aB
       have Dv:K.spot=none:=by
        unfold World.cells? at aB
        rw[Zr (zm _)]at aB
        obtain⟨bY,cx⟩:=DO aB
        have:=cx 0 0 de[0] (by rw[List.getElem?_range Zo]) (Ze Zo)
        exact(Pv (show w.cell? K=some _ from this)).1
       have yW:=JI _ _ _ _ aD de x.2 ah (cw.of λe H=>Zy.2 (.inr H))
       refine Lays.block ⟨K.block,K.off,0⟩ yW (S6 l) λS af dS gI h6 b0=>⟨Tr ai ?_ b0 W, ?_,gI⟩
       ·simp only
        rw[T, <-b5,h6]
       ·simp only[aS,dS]
        obtain⟨oN,akq,cv⟩:=K
        have Dv:cv=none:=Dv
        subst Dv
        rfl
    ·simp at a
   ·
    rename_i I be
    simp at a;subst a
    match cs with
    |[]=>simp[rd,DataW.trod,be]at Z
    |_::_::_=>simp[rd,DataW.trod,be]at Z
    |[c]=>
     cases c<;>(try(simp[rd,DataW.trod,be]at Z;done))
     rename_i K len cap
     cases K with
     |none=>
      simp only[rd,DataW.trod,be]at Z
      split at Z<;>simp_all
      exact .plain λS af=>⟨rfl,trivial,trivial⟩
     |some K=>
      simp[rd,DataW.trod,be,ZX]at Z
   ·
    rename_i I b7 aeN be
    split at a
    ·split at a
     ·rename_i l aJ os aD
      simp only[e5,Zf]at a
      obtain⟨W,rfl⟩:=a
      have W:=lo W
      match cs with
      |[]=>simp[rd,DataW.trod,be]at Z
      |_::_::_=>simp[rd,DataW.trod,be]at Z
      |[c]=>
       cases c<;>(try(simp[rd,DataW.trod,be]at Z;done))
       rename_i Y len cap
       cases Y with
       |none=>
        simp only[rd,DataW.trod,be]at Z
        split at Z<;>simp_all
       |some K=>
        simp only[rd,DataW.trod,be]at Z
        split at Z
        ·rename_i mI
         simp only[ZX,Yn,YT,DataW.slice.injEq,ZD]at Z
         obtain⟨PT,bA,rest,xr,⟨bH,cP⟩,rfl⟩:=Z
         have arr:rest=[]:=by simpa using cP
         subst arr
         obtain⟨bY,_⟩:=DO xr
         obtain⟨cx,c7⟩:=DO bA
         simp at bY cx
         have gW:cap=len:=Zo
         subst gW
         have fL:b7.length=cap:=by rw[<-bH];simp[cx]
         simp only[ZQ,ZT,Yx]at cw
         obtain⟨j5,kQ⟩:=ac3 (C:=C) (w:=w) JI (I:=I) (g:=λi=>(w.cells? 0 (K.add (i*P.cellsOf I)) (P.cellsOf I)).getD []) b7 0 (n+1) _ aD PT
          (by
           rw[fL, <-List.range_eq_range']
           rw[<-bA]
           have k2:∀i∈List.range cap,(w.cells? 0 (K.add (i*P.cellsOf I)) (P.cellsOf I)).isSome=true:=by
            intro i aN
            have k4:i<cap:=by simpa using aN
            have:=c7 i i PT[i] (by simp[k4]) (Ze Zo)
            simp only[ZX]at this
            obtain⟨ee,cL,_⟩:=this
            rw[cL];rfl
           exact aub λi aN=>by
            have:=k2 i aN
            cases b6:w.cells? 0 (K.add (i*P.cellsOf I)) (P.cellsOf I)with
            |none=>rw[b6]at this;cases this
            |some ee=>simp)
          bH (cw.of λe H=>Zy.2 (.inr H))
         simp only at kQ
         have F2:0<cap*P.cellsOf I:=by rw[<-fL, <-kQ];exact W
         obtain⟨cq,ty,ai⟩:=cw K.block K.off (Zy.2 (.inl (N3 (by rw[cx];exact F2))))
         have aL:0<P.cellsOf I:=Nat.pos_of_mul_pos_left F2
         have tK:0<cap:=Nat.pos_of_mul_pos_right F2
         have ab:∀i,i<cap->∃ee,w.cells? 0 (K.add (i*P.cellsOf I)) (P.cellsOf I)=some ee:=by
          intro i k4
          have:=c7 i i PT[i] (by simp[k4]) (Ze Zo)
          simp only[ZX]at this
          obtain⟨ee,cL,_⟩:=this
          exact⟨ee,cL⟩
         have Dv:K.spot=none:=by
          obtain⟨ee,cL⟩:=ab 0 tK
          have o4:=(Px (K:=K.add (0*P.cellsOf I)) (by rw[Pb];exact ai) cL).2
          unfold World.cells? at cL
          rw[Zr (zm _)]at cL
          obtain⟨_,cx⟩:=DO cL
          have:=cx 0 0 ee[0] (by rw[List.getElem?_range Zo]) (Ze Zo)
          have ch:(K.add (0*P.cellsOf I)).add 0=K:=by simp[Addr.add]
          rw[ch]at this
          exact(Pv this).1
         have ap2:(List.range' 0 b7.length).flatMap (λi=>(w.cells? 0 (K.add (i*P.cellsOf I)) (P.cellsOf I)).getD [])=(cq.toList.drop K.off).take (cap*P.cellsOf I):=by
          rw[fL]
          have:∀i∈List.range' 0 cap,(w.cells? 0 (K.add (i*P.cellsOf I)) (P.cellsOf I)).getD []=((cq.toList.drop K.off).drop (i*P.cellsOf I)).take (P.cellsOf I):=by
           intro i aN
           have k4:i<cap:=by simpa using aN
           obtain⟨ee,cL⟩:=ab i k4
           obtain⟨b5,_⟩:=Px (K:=K.add (i*P.cellsOf I)) (by rw[Pb];exact ai) cL
           rw[cL,Yy,b5,WF,zi]
          rw[am1 this,X8,zk,ZZ]
         rw[ap2]at j5
         refine Lays.block ⟨K.block,K.off,0⟩ j5 (S6 l) λS af dS gI h6 b0=>⟨Tr ai ?_ b0 W, ?_,gI⟩
         ·simp only
          rw[kQ,fL];exact h6
         ·simp only[aS,dS,fL]
          obtain⟨oN,akq,cv⟩:=K
          have Dv:cv=none:=Dv
          subst Dv
          rfl
        ·simp at Z
     ·simp at a
    ·simp at a
   ·
    rename_i jC ds be
    split at a
    ·rename_i l aJ os aD
     simp only[e5,Zf]at a
     obtain⟨T,rfl⟩:=a
     have T:=Zj T
     have dp:rd P w (ao+1) t cs=(if cs.length=P.cellsOf t then(jC.toList.mapM λf=>rd P w ao f.type ((cs.drop f.offset).take (P.cellsOf f.type))).map λcp=>(.agg (cp.map (·.1)),cp.flatMap (·.2))else none):=by
      simp only[rd]
      rw[DataW.trod_step]
      unfold DataW.trodStep
      rw[be]
     rw[dp]at Z
     split at Z
     case isFalse=>cases Z
     rename_i fL
     simp only[Yn,YT,DataW.agg.injEq]at Z
     obtain⟨cp,ah,aO,rfl⟩:=Z
     have:=atA (C:=C) (w:=w) JI (cs:=cs) jC.toList ds 0 n _ aD cp ah aO cw
     simp only[ZZ]at this
     rw[ZB Zo]at this
     exact this
    ·simp at a
   ·
    rename_i F I ds be
    split at a
    ·rename_i l aJ os aD
     simp only[e5,Zf]at a
     obtain⟨T,rfl⟩:=a
     have T:=Zj T
     have dp:rd P w (ao+1) t cs=(if cs.length=P.cellsOf t then((List.range F).mapM λi=>rd P w ao I ((cs.drop (i*P.cellsOf I)).take (P.cellsOf I))).map λcp=>(.agg (cp.map (·.1)),cp.flatMap (·.2))else none):=by
      simp only[rd]
      rw[DataW.trod_step]
      unfold DataW.trodStep
      rw[be]
     rw[dp]at Z
     split at Z
     case isFalse=>cases Z
     rename_i fL
     simp only[Yn,YT,DataW.agg.injEq]at Z
     obtain⟨cp,ah,aO,rfl⟩:=Z
     have jW:ds.length=F:=by
      have:=(DO ah).1
      rw[<-aO];simpa using this
     obtain⟨j5,kQ⟩:=ac3 (C:=C) (w:=w) JI (I:=I) (g:=λi=>(cs.drop (i*P.cellsOf I)).take (P.cellsOf I)) ds 0 n _ aD cp (by rw[jW, <-List.range_eq_range'];exact ah) aO cw
     rw[X8,zk,ZZ,ZB (by simp only at kQ;omega)]at j5
     exact j5
    ·simp at a
   ·
    rename_i I be
    simp at a;subst a
    match cs with
    |[]=>simp[rd,DataW.trod,be]at Z
    |_::_::_=>simp[rd,DataW.trod,be]at Z
    |[c]=>
     cases c<;>simp[rd,DataW.trod,be]at Z
     all_goals first
      |exact .plain λS af=>⟨rfl,trivial,trivial⟩
      |(split at Z<;>simp_all)
   ·
    rename_i F I be
    simp at a;subst a
    match cs with
    |[]=>simp[rd,DataW.trod,be]at Z
    |_::_::_=>simp[rd,DataW.trod,be]at Z
    |[c]=>
     cases c<;>simp[rd,DataW.trod,be]at Z
     rename_i b
     cases b with
     |none=>exact .plain λS af=>⟨rfl,trivial,trivial⟩
     |some b=>
      simp only at Z
      split at Z
      ·split at Z
       ·simp only[ZX]at Z
        obtain⟨dr,_,au⟩:=Z
        split at au<;>simp at au
       ·cases Z
      ·cases Z
   ·
    rename_i F I b7 be
    simp only[e5]at a
    obtain⟨aA,a⟩:=a
    split at a
    ·rename_i eW aJ os aD
     simp at a;subst a
     match cs with
     |[]=>simp[rd,DataW.trod,be]at Z
     |_::_::_=>simp[rd,DataW.trod,be]at Z
     |[c]=>
      cases c<;>(try(simp[rd,DataW.trod,be]at Z;done))
      rename_i b
      cases b with
      |none=>simp[rd,DataW.trod,be]at Z
      |some b=>
       simp only[rd,DataW.trod,be]at Z
       split at Z
       ·rename_i Ic fh ai
        split at Z
        ·simp only[ZX]at Z
         obtain⟨dr,bX,Z⟩:=Z
         split at Z
         ·simp only[Zf,YT,DataW.map.injEq]at Z
          obtain⟨aI,rfl⟩:=Z
          obtain⟨bY,cx⟩:=DO bX
          have aAc:dr.length=Ic.toList.length:=bY
          have apc:(Ic.toList.zip dr).map (·.2.1)=dr.map (·.1):=by
           have PR:(λx:MapEntry×((Lit×DataW Unit)×List MemPlace)=>x.2.1)=(λe:(Lit×DataW Unit)×List MemPlace=>e.1)∘Prod.snd:=rfl
           rw[PR, <-YA,List.map_snd_zip Zo]
          obtain⟨hX,aaM,aaN⟩:=ad7 (sorted_perm (dr.map (·.1))).symm (Ic.toList.zip dr) apc
          rw[aI]at aaN
          have k2:∀bu∈hX,keyOf P F bu.1.key=some bu.2.1.1/\bu.1.val.formed P I=true/\rd P w ao I bu.1.val.cells.toList=some (bu.2.1.2,bu.2.2)/\rU w bu.2.2:=by
           intro bu Gd
           have Ge:=aaM.mem_iff.1 Gd
           obtain⟨i,aN⟩:=ZY.1 Ge
           rw[List.getElem?_zip_eq_some]at aN
           have:=cx i _ _ aN.1 aN.2
           simp only[ZX]at this
           obtain⟨key,cL,cC⟩:=this
           split at cC
           ·rename_i b9
            simp only[Yn]at cC
            obtain⟨e,d6,fU⟩:=cC
            rw[<-fU]
            refine⟨cL,b9,d6,cw.of λp aA=> ?_⟩
            refine Zu _ (List.mem_flatMap.2 ⟨bu.2,Zn aN.2, ?_⟩)
            rw[<-fU];exact aA
           ·cases cC
          obtain⟨bf,ck,a0,f,a3⟩:=atz (C:=C) (w:=w) JI aA b7 (n+1) _ aD hX aaN k2
          have bf:n+1<=aJ:=bf
          refine⟨by simp only;omega, ?_,λx=>if x=n then⟨b,0,0⟩else f x, ?_⟩
          ·intro e H
           rcases Zq.1 H with rfl|H
           ·exact⟨Zl _,by simp only;omega,au2 _⟩
           ·obtain⟨cL,cC,d6⟩:=ck e H
            exact⟨Zo,cC,d6⟩
          ·intro S af dS
           have aM:=dS n (Zl _) (by simp only;omega)
           simp only[ZD]at aM
           obtain⟨dy,dZ,hk⟩:=a3 S af (λx T W=>by
            have:=dS x Zo W
            have dT:x≠n:=Zo
            simp only[Zh dT]at this
            exact this)
           refine⟨by simp[b2,aS,aM.1],⟨aM.2,trivial⟩, ?_⟩
           intro e H
           rcases Zq.1 H with rfl|H
           ·simp only[aM.1]
            have abV:(hX.map (·.1)).Perm Ic.toList:=by
             have:=aaM.map (·.1)
             rwa[List.map_fst_zip Zo]at this
            rw[dy]at abV
            obtain⟨me,fJ,hp⟩:=ad7 abV _ rfl
            refine⟨Ic,fh,me,ai,hp.symm, ?_, ?_⟩
            ·have:=fJ.map (λI=>(I.1,I.2.1))
             rwa[afP (hX:=hX) _ hX a0]at this
            ·intro x ah
             have qF:=fJ.mem_iff.1 ah
             have bs:(x.1,x.2.1)∈eW:=by
              have:=List.mem_map_of_mem (f:=λI:J×J×Nat=>(I.1,I.2.1)) qF
              rwa[afP (hX:=hX) _ hX a0]at this
             exact dZ _ bs
           ·exact hk e H
         ·simp at Z
        ·simp at Z
       ·simp at Z
    ·simp at a
   ·simp at a
end
end
end Go.bk

namespace Go.bk
noncomputable section
open Go.RowKit (Below)
def nl:List (Nat×an)->V an->V an
 |[],M=>M
 |(b,Y)::l,M=>nl l (M.set b (some Y))
section
variable{C:a2}{P:Program}{w:World}
def Ty(b:Nat)(Y:an):∀(l:List (Nat×an)) (M:V an),(nl l M).get b=some Y->(b,Y)∈l\/M.get b=some Y:=by
 intro l
 induction l with
 |nil=>intro M a;exact .inr a
 |cons x l am=>
  obtain⟨dN,o'⟩:=x
  intro M a
  rcases am _ a with a|a
  ·exact .inl (Zu _ a)
  ·rw[V.kc]at a
   by_cases I:dN=b
   ·subst I;simp at a;subst a;exact .inl (Zv ..)
   ·simp[I]at a;exact .inr a
def afl{nm:String}{g:Nat}{cs:Array Value}(b0:P.globalNamed nm=some g)(a:w.var? P nm=some cs):∃ty uf,w.heap[g]? =some (.cells cs ty uf):=by
 unfold World.var? at a
 rw[b0]at a
 simp only[ZE]at a
 split at a
 ·rename_i c ty uf ai
  simp at a;subst a
  exact⟨ty,uf,ai⟩
 ·cases a
def Uk(C:a2)(w:World)(nL n:Nat)(r:Nat×List (Nat×an)):Prop:=
 n<=r.1/\(∀x∈r.2,(x.1<nL\/n<=x.1)/\(x.1<nL\/x.1<r.1)/\EF x.2)/\
  ∃f:Nat->mB,∀S af,(∀b,n<=b->b<r.1->S b=f b/\af b)->(∀g,g<nL->S g=⟨g,0,0⟩/\af g)->∀x∈r.2,j9 C S af x.2 (S x.1) w
end
end
end Go.bk

namespace Go.bk
noncomputable section
open Go.RowKit (Below)
def yc:List Nat->Bool
 |[]=>true
 |x::s=>Nat.blt x 256&&yc s
def y4:List Nat->Nat->Nat->Int
 |[],_,_=> .negSucc 0
 |x::s,c,i=>bV (Nat.beq x c) (.ofNat i) (y4 s c (i+1))
def xG(ca:Nat)(f:Nat)(args:List J):Option J:=
 bV (Nat.beq f ca) (match args with
  |[.str s, .int .u8 (.ofNat c)]=>bV (yc s&&Nat.blt c 256) (some (.int .i64 (y4 s c 0))) none
  |_=>none) none
section
variable{C:a2}{P:Program}{w:World}
def Pd:∀{s:List Nat},yc s=true->∀x∈s,x<256:=by
 intro s
 induction s with
 |nil=>intro _ x a;cases a
 |cons K s am=>
  intro a x ah
  simp only[yc,Zp]at a
  rcases Zq.1 ah with rfl|ah
  ·exact lo a.1
  ·exact am a.2 x ah
def asG:∀(s:List Nat) (c i:Nat),(∀x∈s,x<256)->c<256->y4 s c i=(if Lib.indexByte (s.map UInt8.ofNat) (UInt8.ofNat c)= -1 then -1 else Lib.indexByte (s.map UInt8.ofNat) (UInt8.ofNat c)+i):=by
 intro s
 induction s with
 |nil=>intro c i _ _;simp[y4,Lib.indexByte]
 |cons K s am=>
  intro c i aI aB
  have aE:=aI K (Zv ..)
  have aN:=am c (i+1) (λx ah=>aI x (Zu _ ah)) aB
  simp only[y4,ZR,Lib.indexByte,hO]
  by_cases I:K=c
  ·subst I;simp
  ·have dT:(UInt8.ofNat K==UInt8.ofNat c)=false:=by
    rw[beq_eq_false_iff_ne]
    intro ao
    have:=congrArg UInt8.toNat ao
    simp at this
    rw[YF aE,YF aB]at this
    exact I this
   rw[Zh I,aN,dT]
   have Be:=Lib.indexByte_ge (s.map UInt8.ofNat) (UInt8.ofNat c)
   by_cases ao:Lib.indexByte (s.map UInt8.ofNat) (UInt8.ofNat c)= -1
   ·simp[ao]
   ·simp only[ao,ZA]
    have:¬(Lib.indexByte (s.map UInt8.ofNat) (UInt8.ofNat c)+1= -1):=Zo
    simp[ao,this]
    omega
def adR{ca f:Nat}{args:List J}{v:J}(a:xG ca f args=some v):f=ca/\∃s c,args=[.str s, .int .u8 (.ofNat c)]/\v= .int .i64 (y4 s c 0)/\(∀x∈s,x<256)/\c<256:=by
 unfold xG at a
 rw[hO]at a
 split at a
 ·rename_i I
  split at a
  ·rename_i s c
   simp only[e5,Zp,Zf]at a
   exact⟨I,s,c,rfl,a.2.symm,Pd a.1.1,lo a.1.2⟩
  ·simp at a
 ·simp at a
def avh{ca:Nat}{fn:Func}(b9:P.funcs[ca]? =some fn)(aM:(fn.name== "runtime.NumGoroutine")=false)(ai:fn.body=none)(T:Extern.findNext fn=none)(W:Extern.find fn=some Extern.BytealgIndexByte.indexByte)
 {f:Nat}{args:List J}{v:J}(a:xG ca f args=some v)(S:da)(w:World):(callFunc f (b2 S args).toArray).run P w= .ok (.value (aS S v)) w:=by
 obtain⟨rfl,s,c,rfl,rfl,aI,aB⟩:=adR a
 have oe:=Lib.run_indexByteString (P:=P) (f4 s) (Int.ofNat c) w
 have I:Lib.indexByte (f4 s).data.toList (Int.ofNat c).toNat.toUInt8=y4 s c 0:=by
  rw[asG s c 0 aI aB]
  have:(f4 s).data.toList=s.map UInt8.ofNat:=by simp[f4]
  rw[this]
  have Be:=Lib.indexByte_ge (s.map UInt8.ofNat) (UInt8.ofNat c)
  show Lib.indexByte (s.map UInt8.ofNat) (UInt8.ofNat c)=_
  split
  ·rename_i ao;exact ao
  ·simp
 rw[I]at oe
 have h6:(b2 S [.str s, .int .u8 (.ofNat c)]).toArray= #[.string (f4 s), .int .u8 (Int.ofNat c)]:=rfl
 rw[h6]
 have MO:¬fn.name= "runtime.NumGoroutine":=by simpa using aM
 simp only[callFunc,Sem.run_bind]
 simp[b9,MO,ai,T,W,aS]
 exact congrArg (λr=>Result.andThen r (λK bZ=>Result.ok (Next.value K) bZ)) oe
end
end
end Go.bk

namespace Go.bk
noncomputable section
open Go.RowKit (Below)
mutual
def qT:J->Bool
 | .bool _=>true
 | .int _ _=>true
 | .str s=>yc s
 | .cy=>true
 | .aU=>true
 | .l2=>true
 | .nilFunc=>true
 | .nilIface=>true
 | .iface _ v=>qT v
 | .agg l=>B6 l
 | .tuple l=>B6 l
 |_=>false
def B6:List J->Bool
 |[]=>true
 |v::l=>qT v&&B6 l
end
mutual
def NU:∀v,qT v=true->cn (λ_=>False) v
 | .bool _,_=>trivial
 | .int _ _,_=>trivial
 | .str s,a=>Pd (by simpa[qT]using a)
 | .cy,_=>trivial
 | .aU,_=>trivial
 | .l2,_=>trivial
 | .nilFunc,_=>trivial
 | .nilIface,_=>trivial
 | .iface _ v,a=>by
   have:=NU v (by simpa[qT]using a)
   simpa[cn]using this
 | .agg l,a=>Km l (by simpa[qT]using a)
 | .tuple l,a=>Km l (by simpa[qT]using a)
 | .ptr _ _,a=>by simp[qT]at a
 | .slice ..,a=>by simp[qT]at a
 | .fm ..,a=>by simp[qT]at a
 | .map _,a=>by simp[qT]at a
 | .func ..,a=>by simp[qT]at a
def Km:∀l,B6 l=true->eA (λ_=>False) l
 |[],_=>trivial
 |v::l,a=>by
  simp only[B6,Zp]at a
  exact⟨NU v a.1,Km l a.2⟩
end
def ad8{v:J}(a:qT v=true):(∀S iC,aS S v=aS iC v)/\∀af,cn af v:=
 ⟨λ_ _=>qi (λ_ a=>a.elim) (NU v a),λ_=>oV (λ_ a=>a.elim) v (NU v a)⟩
def Td{l:List J}(a:B6 l=true):(∀S iC,b2 S l=b2 iC l)/\∀af,eA af l:=
 ⟨λ_ _=>yl (λ_ a=>a.elim) (Km l a),λ_=>rm (λ_ a=>a.elim) l (Km l a)⟩
def ad9{K b:J}(a:NS K b=true):K=b:=by
 unfold NS at a
 split at a
 ·simp only[akX,YZ]at a;rw[a]
 ·simp only[Zp,acS,Gh,Zg]at a;rw[a.1,a.2]
 ·rw[(Ka _ _).1 a]
 ·rfl
 ·rfl
 ·rfl
 ·cases a
def avF:∀{K b:List J},D7 K b=true->K=b:=by
 intro K
 induction K with
 |nil=>intro b a;cases b<;>simp[D7]at a;rfl
 |cons x K am=>
  intro b a
  cases b with
  |nil=>simp[D7]at a
  |cons e b=>
   simp only[D7,Zp]at a
   rw[ad9 a.1,am a.2]
def PI(x e:J):Bool:=match x,e with
 | .agg K, .agg b=>D7 K b
 |x,e=>NS x e
def alK{K b:J}(a:PI K b=true):K=b:=by
 unfold PI at a
 split at a
 ·rw[avF a]
 ·exact ad9 a
def Ff:List J->List J->Bool
 |[],[]=>true
 |K::x,b::e=>PI K b&&Ff x e
 |_,_=>false
def alL:∀{K b:List J},Ff K b=true->K=b:=by
 intro K
 induction K with
 |nil=>intro b a;cases b<;>simp[Ff]at a;rfl
 |cons x K am=>
  intro b a
  cases b with
  |nil=>simp[Ff]at a
  |cons e b=>
   simp only[Ff,Zp]at a
   rw[alK a.1,am a.2]
def xy(f:Nat)(args:List J):List (Nat×List J×J)->Option J
 |[]=>none
 |(g,cv,v)::l=>bV (Nat.beq f g) (bV (Ff args cv) (some v)<|xy f args l) (xy f args l)
def acX{f:Nat}{args:List J}{v:J}:∀{l:List (Nat×List J×J)},xy f args l=some v->(f,args,v)∈l:=by
 intro l
 induction l with
 |nil=>intro a;simp[xy]at a
 |cons x l am=>
  obtain⟨g,cv,ae⟩:=x
  intro a
  simp only[xy]at a
  rw[fG]at a
  split at a
  ·rename_i ao
   rw[fG]at a
   split at a
   ·rename_i cC
    simp at a;subst a
    rw[Zj ao,alL cC]
    exact Zv ..
   ·exact Zu _ (am a)
  ·exact Zu _ (am a)
def qR(Y:Nat->List J->Option J)(l:List (Nat×List J×J))(f:Nat)(args:List J):Option J:=
 match xy f args l with|some v=>some v|none=>Y f args
def KB:List (Nat×List J×J)->Bool
 |[]=>true
 |x::l=>(B6 x.2.1&&qT x.2.2)&&KB l
def aeZ:∀{l:List (Nat×List J×J)},KB l=true->∀x∈l,B6 x.2.1=true/\qT x.2.2=true:=by
 intro l
 induction l with
 |nil=>intro _ x a;cases a
 |cons K l am=>
  intro a x ah
  simp only[KB,Zp]at a
  rcases Zq.1 ah with rfl|ah
  ·exact a.1
  ·exact am a.2 x ah
section
variable{P:Program}{w:World}
def ame{am:hE}{C:a2}{f:Nat}{args:List J}{b:Bool}{cs:List gN}{h:V an}{j:Nat}{v:J}(a:n5 am C f args b cs h j=some v):∃fn c,C.P.funcs[f]? =some fn/\fn.body=some c:=by
 unfold n5 at a
 split at a
 ·rename_i fn b9
  split at a
  ·rename_i c aB;exact⟨fn,c,b9,aB⟩
  ·simp at a
 ·simp at a
def adT{G:V an}{ba nL:Nat}{Y:Nat->List J->Option J}{dW:da}{ec:Nat->Prop}{l:List (Nat×List J×J)}(cJ:Env ⟨P,G,ba,Y,nL⟩ w dW ec)(bb:KB l=true)
 (k2:∀x∈l,∃m,uh ⟨P,G,ba,Y,nL⟩ m x.1 x.2.1=some x.2.2):OQ ⟨P,G,ba,qR Y l,nL⟩ w:=by
 refine⟨λf args v bl=> ?_,λf args v bl S py ai=> ?_⟩
 ·have bl:qR Y l f args=some v:=bl
  unfold qR at bl
  split at bl
  ·rename_i ae be
   simp at bl;subst bl
   obtain⟨T,W⟩:=aeZ bb _ (acX be)
   exact⟨ad8 W,Td T⟩
  ·exact cJ.hf.val f args v bl
 ·have bl:qR Y l f args=some v:=bl
  unfold qR at bl
  split at bl
  ·rename_i ae be
   simp at bl;subst bl
   have bs:=acX be
   obtain⟨T,W⟩:=aeZ bb _ bs
   obtain⟨m,oe⟩:=k2 _ bs
   obtain⟨fn,c,b9,aB⟩:=ame oe
   right
   have aM:fn.name≠ "runtime.NumGoroutine":=by simpa using cJ.km.num f fn b9 (by simp[aB])
   refine⟨?_, ?_⟩
   ·have qw:P.funcs[f]? =some fn:=b9
    simp[callFunc,qw,aM,aB]
   ·have apX:=cJ.later ai
    have:=awP apX (f:=f) (args:=args) ((Td T).2 ec) oe
    rw[(Td T).1 S dW]
    exact this.mono λI bZ ⟨⟨iC,bA⟩,jV⟩=>⟨by rw[bA,(ad8 W).1 iC S],jV⟩
  ·exact cJ.hf.ok f args v bl S py ai
end
end
end Go.bk

namespace Go.bk
noncomputable section
open Go.RowKit (Below)
def HP:List (String×Nat)->String->Option Nat
 |[],_=>none
 |(K,ae)::l,s=>bV (K==s) (some ae) (HP l s)
def Nn(P:Program)(nm:List (String×Nat))(t:Nat)(d:DataW Unit)(n:Nat):wD:=match P.underlying t,d with
 |some (.interface _), .iface s (.ptr lq)=>(match HP nm s with
  |some ae=>(match P.underlying ae with
   |some (.pointer _)=>(match xz P 39 ae (.ptr lq) n with
    |some ([x],aJ,os)=>some ([.iface ae x],aJ,os)
    |_=>none)
   |_=>none)
  |none=>none)
 |_,_=>xz P 40 t d n
def g3(P:Program)(nm:List (String×Nat)):List (String×DataW Unit)->Nat->Nat×List (Nat×an)
 |[],n=>(n,[])
 |(v,d)::r,n=>match P.globalNamed v with
  |some g=>(match P.globals[g]? with
   |some iI=>(match Nn P nm iI.type d n with
    |some (l,aJ,os)=>bV (Nat.blt 0 l.length) (match g3 P nm r aJ with|(bc,sS)=>(bc,(g,Ha l)::(os++sS))) (g3 P nm r n)
    |none=>g3 P nm r n)
   |none=>g3 P nm r n)
  |none=>g3 P nm r n
def AC(P:Program)(nm:List (String×Nat)):Prop:=∀x∈nm,∀ae,P.typeName? 3 ae=some x.1->ae=x.2
section
variable{C:a2}{P:Program}{w:World}
def akD{s:String}{ae:Nat}:∀{l:List (String×Nat)},HP l s=some ae->(s,ae)∈l:=by
 intro l
 induction l with
 |nil=>intro a;simp[HP]at a
 |cons x l am=>
  obtain⟨K,b⟩:=x
  intro a
  simp only[HP]at a
  rw[fG]at a
  split at a
  ·rename_i ao
   simp at a ao;subst a;subst ao
   exact Zv ..
  ·exact Zu _ (am a)
def atB{nm:List (String×Nat)}(h8:AC P nm){t:Nat}{d:DataW Unit}{n:Nat}{r:List J×Nat×List (Nat×an)}(a:Nn P nm t d n=some r){ao:Nat}{cs:List Value}{du:List MemPlace}(Z:rd P w ao t cs=some (d,du))(cw:rU w du)
 (fM:∀ae v,cs=[.iface ae v]->Value.okWide P w .any 0 ae v):Lays C w n cs r:=by
 unfold Nn at a
 split at a
 ·rename_i iz s lq aN
  split at a
  ·rename_i ae be
   split at a
   ·rename_i I aA
    split at a
    ·rename_i x aJ os aD
     simp at a;subst a
     obtain⟨eS,rM,v,rfl,aM,T⟩:=iface_of_trod aN Z
     obtain rfl:=h8 _ (akD be) rM aM
     obtain⟨e2,K,de,Th,bD,_,_,_⟩:=ptr_of_trod aA T
     have ok:=fM _ _ rfl
     have qD:v= .pointer (some K):=by
      unfold Value.okWide at ok
      simp only[aA]at ok
      unfold Cell.okWide at ok
      cases v<;>simp[Value.cells,Cell.ok,aA]at ok bD
      subst bD
      rfl
     have gn:=ac5 (C:=C) (w:=w) 39 eS _ _ _ _ aD _ _ T cw
     obtain⟨bf,ck,f,a3⟩:=gn
     refine⟨bf,ck,f,λS af dS=> ?_⟩
     obtain⟨dy,dZ,hk⟩:=a3 S af dS
     refine⟨?_,⟨dZ.1,trivial⟩,hk⟩
     subst qD
     have I:Value.pointer (some K)=aS S x:=by
      simp[Value.cells,b2]at dy
      exact dy
     simp only[b2,aS,I]
    ·simp at a
   ·simp at a
  ·simp at a
 ·exact ac5 (C:=C) (w:=w) 40 ao _ _ _ _ a cs du Z cw
def ac4{nm:List (String×Nat)}(h8:AC P nm){nL:Nat}:∀(laid:List (String×DataW Unit)) (n:Nat) (du:List MemPlace),P.globals.size=nL->DataW.LaidVars P w laid du->rU w du->
 (∀b off,MemPlace.cell b off∈du->∀ae v,w.cell? ⟨b,off,none⟩=some (.iface ae v)->Value.okWide P w .any 0 ae v)->Uk C w nL n (g3 P nm laid n):=by
 intro laid
 induction laid with
 |nil=>
  intro n du _ _ _ _
  exact⟨Zl _,by simp[g3],λ_=>default,λS af _ _=>by simp[g3]⟩
 |cons K r am=>
  obtain⟨v0,d⟩:=K
  intro n du Dg gn cw abn
  obtain⟨g,t,cs,fuel,p,ao,b0,bb,bD,aO,Z,rfl⟩:=gn
  have acq:rU w ao:=cw.of λe H=>Zy.2 (.inr H)
  have abo:∀b off,MemPlace.cell b off∈ao->∀ae v,w.cell? ⟨b,off,none⟩=some (.iface ae v)->Value.okWide P w .any 0 ae v:=λb off ai=>abn b off (Zy.2 (.inr ai))
  have skip:g3 P nm ((v0,d)::r) n=g3 P nm r n->Uk C w nL n (g3 P nm ((v0,d)::r) n):=λI=>by rw[I];exact am n ao Dg Z acq abo
  simp only[Yn]at bb
  obtain⟨iI,I6,rfl⟩:=bb
  have Rn:g<nL:=by rw[<-Dg];exact(ZK.1 I6).1
  have fM:∀ae v,cs.toList=[.iface ae v]->Value.okWide P w .any 0 ae v:=by
   intro ae v h6
   obtain⟨ty,uf,ai⟩:=afl b0 bD
   have eX:cs.size=1:=by have:=congrArg List.length h6;simpa using this
   refine abn g 0 (Zy.2 (.inl (Zy.2 (.inl (N3 (K:=⟨g,0,none⟩) (F:=cs.size) Zo))))) ae v ?_
   have ch:cs[0]? =some (.iface ae v):=by rw[<-ZM,h6];rfl
   simp[World.cell?,ai,ch]
  cases aD:Nn P nm iI.type d n with
  |none=>exact skip (by simp[g3,b0,I6,aD])
  |some eW=>
   obtain⟨l,aJ,os⟩:=eW
   by_cases F2:0<l.length
   ·have bA:g3 P nm ((v0,d)::r) n=((g3 P nm r aJ).1,(g,Ha l)::(os++(g3 P nm r aJ).2)):=by
     have:Nat.blt 0 l.length=true:=by simp[Nat.blt];omega
     simp[g3,b0,I6,aD,this]
    obtain⟨bf,ck,eS,a3⟩:=atB (C:=C) (w:=w) h8 aD (cs:=cs.toList) (du:=p) aO (cw.of λe H=>Zy.2 (.inl (Zy.2 (.inr H)))) fM
    obtain⟨cT,dL,e2,et⟩:=am aJ ao Dg Z acq abo
    have bf:n<=aJ:=bf
    rw[bA]
    refine⟨Zz bf cT, ?_,λb=>if b<aJ then eS b else e2 b, ?_⟩
    ·intro x ah
     rcases Zq.1 ah with rfl|ah
     ·exact⟨.inl Rn, .inl Rn,S6 l⟩
     ·rcases Zy.1 ah with ao|ao
      ·obtain⟨cL,cC,d6⟩:=ck x ao
       exact⟨.inr cL, .inr (ZL cC cT),d6⟩
      ·obtain⟨cL,cC,d6⟩:=dL x ao
       exact⟨cL.imp id (λa=>Zz bf a),cC,d6⟩
    ·intro S af dS e3
     obtain⟨dy,dZ,hk⟩:=a3 S af (λb T W=>by
      have Fw:b<aJ:=W
      have:=dS b T (ZL W cT)
      simp only[Zr Fw]at this
      exact this)
     have eZ:=et S af (λb T W=>by
      have tE:¬b<aJ:=zl.2 T
      have:=dS b (Zz bf T) W
      simp only[Zh tE]at this
      exact this) e3
     intro x ah
     rcases Zq.1 ah with rfl|ah
     ·obtain⟨asj,azy⟩:=e3 g Rn
      obtain⟨ty,uf,ai⟩:=afl b0 bD
      have eX:cs.size=l.length:=by
       have:=congrArg List.length dy
       rw[jQ]at this
       simpa using this
      obtain⟨f9,hr,jV⟩:=cw g 0 (Zy.2 (.inl (Zy.2 (.inl (N3 (K:=⟨g,0,none⟩) (F:=cs.size) Zo)))))
      rw[ai]at jV
      have ars:uf=(0,0):=by
       simp only[Zf,Obj.cells.injEq]at jV
       exact jV.2.2
      rw[ars]at ai
      simp only[asj]
      refine Tr (pl:=⟨g,0,0⟩) ai ?_ dZ F2
      simp only[ZZ]
      rw[ZB (by simp;omega)]
      exact dy
     ·rcases Zy.1 ah with ao|ao
      ·exact hk x ao
      ·exact eZ x ao
   ·exact skip (by
     have lx:l.length=0:=Zo
     have:Nat.blt 0 l.length=false:=by rw[lx];rfl
     simp[g3,b0,I6,aD,this])
def SE{nm:List (String×Nat)}(h8:AC P nm){laid:List (String×DataW Unit)}{hf:Nat->List J->Option J}(a:laidMet P laid w):
 ∃S af,dt ⟨P,nl (g3 P nm laid P.globals.size).2 .nil,(g3 P nm laid P.globals.size).1,hf,P.globals.size⟩ S af .nil (g3 P nm laid P.globals.size).1 w.heap.size w/\
  rV ⟨P,nl (g3 P nm laid P.globals.size).2 .nil,(g3 P nm laid P.globals.size).1,hf,P.globals.size⟩ S af:=by
 obtain⟨du,gn,_,lx⟩:=a
 have cw:rU w du:=λb off ai=>(lx b off ai).1
 obtain⟨bf,ck,f,a3⟩:=ac4 (C:=⟨P,nl (g3 P nm laid P.globals.size).2 .nil,(g3 P nm laid P.globals.size).1,hf,P.globals.size⟩) h8 laid P.globals.size du rfl gn cw (λb off ai=>(lx b off ai).2)
 generalize aM:g3 P nm laid P.globals.size=r at bf ck a3 ⊢
 obtain⟨ba,os⟩:=r
 simp only at bf ck a3 ⊢
 have RJ:∀b Y,ab ⟨P,nl os .nil,ba,hf,P.globals.size⟩ .nil b=some Y->(b,Y)∈os/\b<ba:=by
  intro b Y bl
  unfold ab at bl
  rw[fG]at bl
  split at bl
  ·rename_i ai
   rcases Ty b Y os .nil bl with ao|ao
   ·exact⟨ao,lo ai⟩
   ·simp at ao
  ·simp at bl
 refine⟨λb=>if b<P.globals.size then⟨b,0,0⟩else f b,λb=>b<ba,⟨Zl _,λ_ a=>a,λb Y bl=>(RJ b Y bl).2, ?_, ?_, ?_, ?_⟩, ?_⟩
 ·intro b Y bl _
  have:=a3 (λb=>if b<P.globals.size then⟨b,0,0⟩else f b) (λb=>b<ba) (λb T W=>⟨by rw[Zh Zo],W⟩) (λg b0=>⟨by rw[Zr b0],Zo⟩) (b,Y) (RJ b Y bl).1
  exact this
 ·intro b dN Y o' _ _ d _ _ ai
  exact absurd d (zl.2 ai)
 ·intro b Y ai _ d
  exact absurd d (zl.2 ai)
 ·intro b Y bl _
  exact(ck (b,Y) (RJ b Y bl).1).2.2 _ _
 ·intro g b0
  have b0:g<P.globals.size:=b0
  exact⟨Zo,by simp[b0],by simp[b0]⟩
def Env.ats{nm:List (String×Nat)}(h8:AC P nm){laid:List (String×DataW Unit)}{ca:Nat}{fn:Func}(km:x7 P)(b9:P.funcs[ca]? =some fn)(aM:(fn.name== "runtime.NumGoroutine")=false)(ai:fn.body=none)(T:Extern.findNext fn=none)
 (W:Extern.find fn=some Extern.BytealgIndexByte.indexByte)(a:laidMet P laid w):
 ∃S af,Env ⟨P,nl (g3 P nm laid P.globals.size).2 .nil,(g3 P nm laid P.globals.size).1,xG ca,P.globals.size⟩ w S af:=by
 obtain⟨S,af,au,aP⟩:=SE (hf:=xG ca) h8 a
 refine⟨S,af,km,⟨λf args v bl=> ?_,λf args v bl S w _=> .inl (avh b9 aM ai T W bl S w)⟩,au,aP⟩
 obtain⟨rfl,s,c,rfl,rfl,aI,aB⟩:=adR bl
 exact⟨⟨λ_ _=>rfl,λ_=>trivial⟩,λ_ _=>rfl,λ_=>⟨aI,trivial,trivial⟩⟩
end
end
end Go.bk

