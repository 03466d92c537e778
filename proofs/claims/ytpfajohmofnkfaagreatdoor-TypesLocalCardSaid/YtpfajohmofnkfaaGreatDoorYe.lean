/- A part of the last text's proof; no condition of its own -/
import Derived.Test.YtpfajohmofnkfaaGreatDoorYd
import Derived.ChangeReads
import GoSem.ClaimJoined
import Derived.Lib.Bytealg
import Derived.LaidLaws
set_option maxHeartbeats 8000000
set_option linter.all false
namespace Go.bi
open Go.RowKit (Below)
section
variable{C:aZ}{R db dR:c6}{af dB d3:Nat->Prop}{h T:V an}{j au bj:Nat}{w bW:World}{n av:Nat}{ax:Array Oper}
variable{br:World}{bz:Nat}{bO:List Frame}{v:F}{ak:hp}
variable{fn:Nat}{bd:List hA}{aG:Bool}{ro:Option Nat}{cs:List gH}{M:V F}{tmps:Array Value}{bv:List Item}{aq:List Frame}{bS aJ:Nat}
def dl.more(Z:dl C R af h j bj w)(aL:j<=au)(iJ:∀b,af b->ab C T b=ab C h b)(c1:∀b Y,ab C T b=some Y->b<au):dl C R af T au bj w:=by
 refine⟨Zz Z.a8 aL,λb a=>ZR (Z.lt b a) aL,c1,λb Y a d=>Z.obj b Y (by rw[<-iJ b d];exact a) d,λb dP Y o' a cy d k6=>Z.sep b dP Y o' (by rw[<-iJ b d];exact a) (by rw[<-iJ dP k6];exact cy) d k6,λb Y aj a d=>Z.base b Y aj (by rw[<-iJ b d];exact a) d,λb Y a d=>Z.fm b Y (by rw[<-iJ b d];exact a) d⟩
def ac3(di:pi C n av ax){l b8:pk}(aC:l∈lv C n av ax)(hk:b8∈lv C n av ax)(a:l.x.i=b8.x.i):l=b8:=by
 obtain⟨K,aE⟩:=Z1.1 aC
 obtain⟨b,aj⟩:=Z1.1 hk
 obtain⟨Ii,ng⟩:=Zb.1 aE
 obtain⟨nQ,nh⟩:=Zb.1 aj
 have az:=Pw di
 rw[YR]at az
 rcases YU K b with c1|J|gK
 ·have:=az K b Ii nQ c1
  rw[ng,nh]at this;omega
 ·subst J;rw[<-ng,nh]
 ·have:=az b K nQ Ii gK
  rw[ng,nh]at this;omega
def Xm(cG:Env C br dR d3)(gk:m6 C br bz bO ak){B:List dV}{base eE:Nat}{aw:List (Nat×F)}{dk:Nat->Prop}{l:List Nat}(aE:iS C br bz bO fn av bd aG ro cs h j R af w bS aq)
 (aN:lm C R af av B bv)(uE:bS<=base)(f1:base+ax.size<=j)(gU:C.a8<=base)(aM:qK C R af h base n av ax aw eE eE M tmps dk)(aD:v8 ax dk l)
 (a:xZ ak C ax base aw (yN (lv C n av ax) eE ((gz C n av ax).drop eE)) (kL av ax.toList 0) B ⟨fn,n,av,bd,aG,ro,cs⟩ M h j=some v):Ends C br bz bO v (lone (cr R fn bd aG ro tmps (.inRegion ax l::bv) .run) aq w):=by
 obtain⟨s,rest,bD,cF,fx,jh⟩:=axF (ig:=lv C n av ax) (B:=eE) (aC:=(gz C n av ax).drop eE)
 rw[bD]at a
 simp only[xZ]at a
 split at a
 ·simp at a
 ·rename_i hr T gr
  simp only[e0]at a
  obtain⟨MD,a⟩:=a
  rw[cF]at gr
  rw[fx]at MD
  have Q5:∀x∈sQ eE (lv C n av ax),ep aw x.i=none/\ab C h (base+x.i)=none/\nr x.op=false:=by
   intro x ah
   obtain⟨eg,Q,U,rfl⟩:=An.1 ah
   have bB:ep aw eg.x.i=none:=by
    cases bB:ep aw eg.x.i with
    |none=>rfl
    |some ae=>
     exfalso
     rcases aM.keys _ ae bB with ⟨c5,b4,b7,cN⟩|⟨p,e,b4,b7,_⟩
     ·have:=ac3 aM.st b4 Q b7
      subst this;omega
     ·exact M7 aM.st Q b4 b7.symm
   obtain⟨_,_,cN,_⟩:=KW Q
   exact⟨bB,aM.free _ (KV aM.st Q) bB,cN⟩
  obtain⟨bV,cw,c4,ec,eU⟩:=alE gU _ _ _ _ _ (aku (Pw aM.st)) Q5 gr
  have RO:∀b,af b->ab C T b=ab C h b:=by
   intro b aj
   by_cases am:ab C T b=ab C h b
   ·exact am
   ·obtain⟨x,ah,J⟩:=ec b am
    obtain⟨eg,Q,U,rfl⟩:=An.1 ah
    have bT:=aM.ids _ (KV aM.st Q) (J▸aj)
    have:=aM.tv eg Q bT
    omega
  have kq:dl C R af T j br.heap.size w:=aE.Z.more (Zi _) RO (λb Y aj=>by
   by_cases am:ab C T b=ab C h b
   ·exact aE.Z.vl b Y (by rw[<-am];exact aj)
   ·obtain⟨x,ah,J⟩:=ec b am
    obtain⟨eg,Q,U,rfl⟩:=An.1 ah
    have:=KV aM.st Q
    omega)
  have ah:il C bS R af h br.heap.size w R af T w:=⟨λ_ _=>rfl,λ_ a=>a,λ_ a=> .inl a,λb _ c1=>by
   by_cases am:ab C T b=ab C h b
   ·exact am
   ·obtain⟨x,ah,J⟩:=ec b am
    omega,Below.refl _ _⟩
  have yk:=aE.ext kq ah (Zi _)
  have r2:qK C R af T base n av ax hr eE (eE+1) M tmps dk:=by
   refine⟨aM.st,aM.size,aM.M3,aM.c9,aM.closed,aM.w4,aM.done,λeg Q U=>Nat.lt_succ_of_lt (aM.tv eg Q U), ?_, ?_, ?_, ?_,aM.ids, ?_⟩
   ·intro i ae be
    rcases c4 i (by rw[be];simp)with Q|⟨x,Q,U⟩
    ·cases bB:ep aw i with
     |none=>exact absurd bB Q
     |some sI=>
      rcases aM.keys i sI bB with ⟨eg,b4,b7,cN⟩|g
      ·exact .inl ⟨eg,b4,b7,Zo⟩
      ·exact .inr g
    ·obtain⟨eg,b4,b7,rfl⟩:=An.1 Q
     exact .inl ⟨eg,b4,U,Zo⟩
   ·intro p e H az
    obtain⟨ae,be⟩:=aM.uD p e H az
    exact⟨ae,bV _ _ be⟩
   ·intro eg Q U
    by_cases am:eg.bS=eE
    ·obtain⟨ae,b4,b7⟩:=eU eg.x (An.2 ⟨eg,Q,am,rfl⟩)
     exact⟨ae,(b4 af).key,λ_=>b4 af⟩
    ·obtain⟨ae,b4,b7⟩:=aM.ahead eg Q Zo
     refine⟨ae,bV _ _ b4,λbT=> ?_⟩
     obtain⟨_,kb,b,ej,fY,dY,e1⟩:=b7 bT
     refine⟨bV _ _ b4,kb,b,ej.trans bV,fY,dY,λaj=> ?_⟩
     obtain⟨ir,nc,am6⟩:=e1 aj
     refine⟨ir,λbp=> ?_,am6⟩
     obtain⟨cT,PZ,P1⟩:=nc bp
     refine⟨cT,PZ, ?_⟩
     by_cases cp:ab C T (base+eg.x.i)=ab C h (base+eg.x.i)
     ·rw[cp];exact P1
     ·obtain⟨x,ah,J⟩:=ec _ cp
      obtain⟨c5,e8,fQ,rfl⟩:=An.1 ah
      have:=ac3 aM.st Q e8 Zo
      subst this;omega
   ·intro t ae be
    apply aM.Ci t ae
    rcases be with ⟨aa,bT,uw,wS,be⟩|be
    ·left
     refine⟨aa,bT,uw,wS, ?_⟩
     have uD:∃sI,ep aw aa=some sI:=by
      rcases Xl aM.st aa (aM.w4 aa bT)with ⟨eg,b4,b7⟩|⟨p,e,b4,b7⟩
      ·obtain⟨sI,cN,_⟩:=aM.ahead eg b4 (aM.tv eg b4 (by rw[b7];exact bT))
       exact⟨sI,by rw[<-b7];exact cN⟩
      ·obtain⟨sI,cN⟩:=aM.uD p e b4 ((aM.done p e b4).1 (by rw[b7];exact bT))
       exact⟨sI,by rw[<-b7];exact cN⟩
     obtain⟨sI,tm⟩:=uD
     have:=bV _ _ tm
     rw[be]at this
     cases this
     exact tm
    ·exact .inr be
   ·intro i aJ bB
    have arS:ep aw i=none:=by
     cases b1:ep aw i with
     |none=>rfl
     |some ae=>rw[bV _ _ b1]at bB;cases bB
    by_cases am:ab C T (base+i)=ab C h (base+i)
    ·rw[am];exact aM.free i aJ arS
    ·obtain⟨x,ah,J⟩:=ec _ am
     obtain⟨ae,b4,_⟩:=eU x ah
     have:x.i=i:=Zo
     rw[<-this,(b4 af).key]at bB
     cases bB
  refine at0 cG gk uE f1 gU (s:=s) (rest:=rest) ?_ a l R af w tmps dk yk aN r2 aD ?_
  ·cases b1:(gz C n av ax).drop eE with
   |nil=>rw[b1]at jh;exact jh.1
   |cons e hk=>rw[b1]at jh;exact jh
  ·intro eg Q U bT
   by_cases am:eg.bS=eE
   ·obtain⟨ae,b4,b7⟩:=eU eg.x (An.2 ⟨eg,Q,am,rfl⟩)
    exact⟨ae,(b4 af).key,b7⟩
   ·obtain⟨ae,b4,b7⟩:=aM.ahead eg Q Zo
    refine⟨ae,bV _ _ b4, ?_⟩
    obtain⟨_,kb,b,ej,fY,dY,e1⟩:=b7 bT
    by_cases FE:BH eg.x.op=true
    ·have r5:eE<=eg.aJ:=by
      obtain⟨p,e8,fQ,kt,SE⟩:=KW Q
      obtain⟨_,fW,fv,z3,z4,z5⟩:=xY aM.st e8
      rw[SE]
      refine ap0 _ _ _ (by rw[Lj,Zn];exact aM.M3) λam e H c1=> ?_
      rw[Lj,Zx]at H
      cases cv:(gz C n av ax)[am]? with
      |none=>rw[cv]at H;cases H
      |some bt=>
       rw[cv]at H;cases H
       cases aj:fq bt.1.m p.i with
       |false=>rfl
       |true=>
        exfalso
        have aol:=(aM.done am bt cv).2 c1
        obtain⟨aBj,Oh,Oi,aBS,ayO,aBT,TV⟩:=xY aM.st (KT (Zl cv)).1
        have:=Hw aM.closed (Zl ayO) TV.oper (aM.closed _ _ TV.oper aol) _ aj
        simp only at fv
        rw[<-fv]at this
        exact bT this
     obtain⟨dP,eW,e5⟩:=alF _ MD eg.x (avT Q Zo r5 FE)
     refine⟨hr,T,dP,Sub.refl _,pj.refl _,eW,λaj _=> ?_⟩
     obtain⟨sI,hy,og⟩:=e5 aj
     rw[bV _ _ b4]at og
     cases og
     exact hy
    ·have FE:BH eg.x.op=false:=by simpa using FE
     refine⟨kb, .nil,b,ej.trans bV,ac0 _,fY,λaj oL=> ?_⟩
     exact(e1 aj).2.2 oL FE .nil
def amz{B:List dV}(id:Nat)(a:lm C R af av B bv){e4:List dV}(bx:exitTo id B=some e4):∃hP,Go.exitTo id bv=some hP/\lm C R af av e4 hP:=by
 induction a with
 |nil=>simp[exitTo]at bx
 |cons Q U ak=>
  cases Q<;>simp only[exitTo]at bx
  case inBlock tq=>
   rw[hD]at bx
   split at bx
   ·rename_i J
    simp at bx;subst bx
    exact⟨_,by simp[Go.exitTo,J],U⟩
   ·rename_i J
    obtain⟨hP,b4,b7⟩:=ak bx
    have:(tq==id)=false:=by simpa using J
    exact⟨hP,by simp[Go.exitTo,this,b4],b7⟩
  all_goals
   obtain⟨hP,b4,b7⟩:=ak bx
   exact⟨hP,by simp[Go.exitTo,b4],b7⟩
def XF(hK:rB C R af){n:Nat}(bc:je R af n av M tmps){x:Operand}{ae:F}(fS:yP C av [] x=true)(a:wp M x=some ae):kC tmps x=aQ R ae/\cj af ae:=by
 cases x with
 |tmp t=>
  simp only[yP,aks]at fS
  obtain⟨Q,U⟩:=bc.val t ae fS a
  exact⟨by simp[kC,Q],U⟩
 |const c=>exact Np a
 |global g=>
  simp[wp]at a;subst a
  simp only[yP]at fS
  obtain⟨b4,b7,cN⟩:=hK g (k4 fS)
  exact⟨by simp[kC,aQ,b7,cN],b4⟩
 |func f=>
  simp[wp]at a;subst a
  exact⟨by simp[kC,aQ,mM,bY],trivial,trivial,trivial⟩
def ou.start{n:Nat}(bc:je R af n av M tmps):ou R af av (λ_=>True) (h8 ax 0) [] M tmps:=by
 intro t ae _ a
 rw[Kh]at a
 exact bc.val t ae a.1 a.2
def av0(cG:Env C br dR d3)(gk:m6 C br bz bO ak){B:List dV}{id:Nat}{Aw:Bool}(aE:iS C br bz bO fn av bd aG ro cs h j R af w bS aq)(aN:lm C R af av B bv)(bc:je R af n av M tmps)
 (a:aem ax Aw ak C B ⟨fn,n,av,bd,aG,ro,cs⟩ M h j=some v):Ends C br bz bO v (lone (cr R fn bd aG ro tmps (.code (.region id ax Aw)::bv) .run) aq w):=by
 cases Aw with
 |false=>
  have cy:S9 n av ax ak C B ⟨fn,n,av,bd,aG,ro,cs⟩ M h j=some v:=a
  simp only[S9,od]at cy
  split at cy
  ·rename_i r Z
   obtain⟨rest,fin⟩:=r
   have Lz:yV rest ⟨ak,ax,fin,B,⟨fn,n,av,bd,aG,ro,cs⟩⟩ C M [] h j=some v:=cy
   unfold Jv at Z
   split at Z
   ·rename_i c8 hT
    simp at Z
    obtain⟨rfl,rfl⟩:=Z
    refine .head axv ?_
    refine aez cG gk c8 [] h j R af w tmps _ aq aE aN ⟨0,zr _, ?_,hT,rfl,ou.start bc,bc.size⟩ Lz
    rw[List.range_eq_range'];rfl
   ·simp at Z
  ·simp at cy
 |true=>
  have cy:S8 n av ax ak C B ⟨fn,n,av,bd,aG,ro,cs⟩ M h j=some v:=a
  simp only[S8,od]at cy
  split at cy
  ·rename_i r Z
   obtain⟨kY,fin⟩:=r
   have Lz:p9 j (λj=>xZ ak C ax j [] kY fin B ⟨fn,n,av,bd,aG,ro,cs⟩ M h (j+ax.size))=some v:=cy
   rw[lS]at Lz
   unfold Ju at Z
   split at Z
   ·simp at Z
   ·rename_i c8 hT
    simp only[e0,Zp,Zf]at Z
    obtain⟨⟨⟨b4,b7⟩,cN⟩,ej⟩:=Z
    have jZ:wl C n av ax=c8:=by unfold wl;rw[hT];rfl
    have di:pi C n av ax:=⟨by rw[jZ];exact hT,b4,b7,by unfold gz;rw[jZ];exact cN⟩
    have arA:kY=yN (lv C n av ax) 0 ((gz C n av ax).drop 0)/\fin=kL av ax.toList 0:=by
     have J:=ej
     cases J
     refine⟨?_,rfl⟩
     rw[Z2]
     unfold lv gz
     rw[jZ];rfl
    obtain⟨rfl,rfl⟩:=arA
    refine .head axw ?_
    rw[cG.j5.mixed]
    have ah:il C bS R af h br.heap.size w R af h w.drew:=⟨λ_ _=>rfl,λ_ a=>a,λ_ a=> .inl a,λ_ _ _=>rfl,Below.drew (Below.refl _ _)⟩
    have kq:dl C R af h (j+ax.size) br.heap.size w.drew:=aE.Z.drew.more (zc _ _) (λ_ _=>rfl) (λb Y aj=>ZR (aE.Z.vl b Y aj) (zc _ _))
    refine Xm cG gk (dk:=λ_=>False) (aE.ext kq ah (zc _ _)) aN aE.jO (Zi _) aE.Z.a8 ?_ (awH b4 _) Lz
    refine⟨di,bc.size,zr _,aE.Z.a8,λ_ _ _ a=>a.elim,λ_ a=>a.elim,λp e _=>⟨λa=>a.elim,λa=>Zo⟩,λ_ _ a=>a.elim,λi ae be=>by simp at be,λp e _ a=>Zo,λeg _ a=>Zo, ?_, ?_, ?_⟩
    ·intro t ae be
     rcases be with ⟨aa,a,_⟩|⟨_,Q,U⟩
     ·exact a.elim
     ·exact bc.val t ae Q U
    ·intro i _ aM
     have:=aE.Z.lt _ aM;omega
    ·intro i _ _
     cases b1:ab C h (j+i)with
     |none=>rfl
     |some Y=>have:=aE.Z.vl _ Y b1;omega
  ·simp at cy
end
end Go.bi

namespace Go.bi
open Go.RowKit (Below)
section
variable{C:aZ}{R db dR:c6}{af dB d3:Nat->Prop}{h T:V an}{j au bj:Nat}{w bW:World}{n av:Nat}{ax:Array Oper}
variable{br:World}{bz:Nat}{bO:List Frame}{v:F}{ak:hp}
variable{fn:Nat}{bd:List hA}{aG:Bool}{ro:Option Nat}{cs:List gH}{M:V F}{tmps:Array Value}{bv:List Item}{aq:List Frame}{bS aJ:Nat}
def amy{B:List dV}(id:Nat)(a:lm C R af av B bv)(bx:exitTo id B=none):Go.exitTo id bv=none:=by
 induction a with
 |nil=>rfl
 |cons Q U ak=>
  cases Q<;>simp only[exitTo]at bx
  case inBlock tq=>
   rw[hD]at bx
   split at bx
   ·simp at bx
   ·rename_i J
    have:(tq==id)=false:=by simpa using J
    simp[Go.exitTo,this,ak bx]
  all_goals simp[Go.exitTo,ak bx]
def SB(aE:iS C br bz bO fn av bd aG ro cs h j R af w bS aq){b:Nat}{st iR:LoopState}{qA BD:Option Code}{gT aV ks:Nat}{cZ:V F}{params:List Nat}{assign body:Code}{gi:Nat}
 (aL:C.a8<=b)(aM:af b)(hF:ab C h b=some (.loop st qA gT aV ks cZ params assign body gi))(az:∀c,BD=some c->FW c):
 ∃hz,w.heap[(R b).cE]? =some (.loop ⟨st,qA,gT,hz,params.toArray,assign,body,(R gi).cE⟩)/\Ov C gT ks/\(∀c,qA=some c->FW c)/\
  iS C br bz bO fn av bd aG ro cs (bn C h b (some (.loop iR BD gT aV ks cZ params assign body gi))) j R af (w.putObj (R b).cE (.loop ⟨iR,BD,gT,hz,params.toArray,assign,body,(R gi).cE⟩)) bS aq:=by
 obtain⟨hz,gN,my,rn,Gl,Bs,sq,Bt⟩:=aE.Z.obj b _ hF aM
 obtain⟨bW,bV,cw,c4⟩:=putObj aE.Z (de:=bS) (o':= .loop ⟨iR,BD,gT,hz,params.toArray,assign,body,(R gi).cE⟩) (ob:= .loop iR BD gT aV ks cZ params assign body gi) aL aM hF ⟨Zs,Zs⟩ gN Zs
  (λbW sh=>⟨hz,sh,my,rn,Gl,Bs,az,Bt⟩) ⟨λ_ _ _ a=>(by cases a),λ_ _ _ a=>(by cases a)⟩
 rw[run_setObj_loop _ gN]at bV
 simp only[Result.ok.injEq]at bV
 obtain⟨_,rfl⟩:=bV
 exact⟨hz,gN,Bt,sq,aE.ext cw c4 (Zi _)⟩
def WF(gk:m6 C br bz bO ak){ae:F}{dm:Machine}(aE:iS C br bz bO fn av bd false ro cs h j R af w bS aq)(dD:cs≠[])(AH:cj af ae)
 (q9:∀g i1,aq=g::i1->step C.P dm= .next (lone (g.finish (aQ R ae)) i1 w))(a:sR ak false cs ae h j=some v):Ends C br bz bO v dm:=by
 cases cs with
 |nil=>exact absurd rfl dD
 |cons c rest=>
  obtain⟨gT,aV,ks,cZ,vD,gi,mw,jg,kV⟩:=c
  obtain⟨re,hz,hP,i1,rfl,bV,cw,c4,ec,eU,dK⟩:=aE.cs.inv
  refine .head (q9 _ _ rfl) ?_
  cases mw with
  |run=>
   have cy:Tb ak vD ⟨gT,aV,ks,gi,jg,kV,rest⟩ ae cZ h j=some v:=a
   cases vD with
   |nil=>simp[Tb]at cy
   |cons eI B=>exact EW gk ⟨aE.Z,aE.kI,aE.hK,Zz eU aE.jO,c4,ec,dK⟩ bV aE.jO AH cy
  |returning=>simp[sR]at a
  |panicking f4=>simp[sR]at a
def Sp(gk:m6 C br bz bO ak){todo:List dV}{ix:Option Code}(bG:(ix=none/\bv=[])\/(ix=some .ret/\∃B,bv= .code .ret::B)\/(∃id B,ix=some (.exit id)/\bv= .code (.exit id)::B/\Go.exitTo id B=none))
 (aE:iS C br bz bO fn av bd aG ro cs h j R af w bS aq)(bc:je R af n av M tmps)
 (a:n6 ix ak C todo ⟨fn,n,av,bd,aG,ro,cs⟩ M h j=some v):Ends C br bz bO v (lone (cr R fn bd aG ro tmps bv .run) aq w):=by
 unfold n6 at a
 cases ro with
 |some l=>
  simp only at a
  split at a
  ·rename_i st qA gT aV ks cZ params assign body gi hF
   simp only[e0,Zp,g8]at a
   obtain⟨⟨⟨CK,aAz⟩,QX⟩,a⟩:=a
   have QX:aG=false:=by simpa using QX
   subst QX
   have aM:=aE.hJ.ro l rfl
   have aqP:∀c,ix=some c->FW c:=by
    intro c aB
    subst aB
    rcases bG with ⟨J,_⟩|⟨J,_⟩|⟨id,B,J,_⟩
    ·cases J
    ·cases J;exact .inl rfl
    ·cases J;exact .inr ⟨id,rfl⟩
   obtain⟨hz,gN,Bt,_,yk⟩:=SB aE (iR:=bP ix.isNone .ready .done) (BD:=ix) (jf CK) aM hF aqP
   have dD:cs≠[]:=λJ=>by have:=(aE.bot J).2.2;cases this
   refine WF (ae:= .bool ix.isNone) gk yk dD trivial (λg i1 J=> ?_) a
   subst J
   refine axz bG ?_
   have:=run_endRound (P:=C.P) ix gN
   rw[this]
   cases ix<;>rfl
  ·simp at a
 |none=>
  simp only[e0]at a
  have di:B0 C br bz bO .returning todo fn n av bd aG none cs M h j R af w bS tmps bv aq:=⟨aE.Z,aE.kI,aE.hK,aE.jO,aE.hJ,trivial,aE.bot,aE.cs,bc⟩
  have bT:=gk _ _ _ _ _ _ _ _ _ _ _ _ v a.2 R af w bS tmps bv aq di
  rcases bG with ⟨rfl,rfl⟩|⟨rfl,B,rfl⟩|⟨id,B,rfl,rfl,_⟩
  ·exact .head axl bT
  ·exact .head axx bT
  ·simp[R6]at a
def avS(cG:Env C br dR d3)(gk:m6 C br bz bO ak){f:Operand}{params:Array Nat}{assign body:Code}{B:List dV}(aE:iS C br bz bO fn av bd aG ro cs h j R af w bS aq)(bc:je R af n av M tmps)
 (fS:lu C av (.rangeFunc f params assign body)=true)(aN:lm C R af av B bv)(a:JQ f params assign body ak C B ⟨fn,n,av,bd,aG,ro,cs⟩ M h j=some v):
 Ends C br bz bO v (lone (cr R fn bd aG ro tmps (.code (.rangeFunc f params assign body)::bv) .run) aq w):=by
 simp only[lu,Zp]at fS
 obtain⟨ch,abF,hF⟩:=fS
 unfold JQ at a
 split at a
 ·rename_i g first fH PS aO F8 alC Ht Te qT bx e3
  cases e3
  obtain⟨bD,cF⟩:=XF aE.hK bc ch bx
  have lD:∀(b:Nat) (mE:World),(resolve (kC tmps) {callee:= .value f,args:= #[.const (.func (.yield b) #[] #[])],argTypes:= #[]} 0).run C.P mE=
   .ok ⟨.fn (.func g) (bY R fH).toArray,(bY R first).toArray++ #[.func (.yield b) #[] #[]]⟩ mE:=by
   intro b mE
   have PB:kC tmps (.const (.func (.yield b) #[] #[]))= .func (.yield b) #[] #[]:=rfl
   simp[resolve,bD,aQ,mM,Deferred.ofValue,PB]
  have aaW:∀(b:Nat) (xA:c6) (mb:Nat->Prop) (a2:V an) (DC:Nat) (mE:World) (sX:List gH) (ww:List Frame) (de:Nat) (b8:Nat),(∀x,af x->xA x=R x)->(∀x,af x->mb x)->mb b8->(xA b8).cE=b->
   dl C xA mb a2 DC br.heap.size mE->Below br.heap.size br mE->rB C xA mb->de<=DC->oo C xA mb a2 bz bO de sX ww->sX≠[]->nM ak C g (first++[.func (.yield b8) [] []]++fH) false sX a2 DC=some v->
   ∃args,(invoke (.fn (.func g) (bY R fH).toArray) ((bY R first).toArray++ #[.func (.yield b) #[] #[]])).run C.P mE= .ok (.enter g args) mE/\Ends C br bz bO v (lone (Frame.enter C.P g args .normal) ww mE):=by
   intro b xA mb a2 DC mE sX ww de b8 dJ gB hk aj q8 nQ L8 pH hT dD a
   have Q8:es mb (first++[.func (.yield b8) [] []]++fH):=AE (AE (qZ gB _ cF.2.1) ⟨⟨hk,trivial,trivial⟩,trivial⟩) (qZ gB _ cF.2.2)
   refine⟨(bY xA (first++[.func (.yield b8) [] []]++fH)).toArray, ?_,K6 gk q8 nQ L8 pH hT (λJ=>absurd J dD) Q8 a⟩
   have Ip:∃func c,C.P.funcs[g]? =some func/\func.body=some c:=by
    unfold nM at a
    split at a
    ·rename_i func qj
     split at a
     ·rename_i c aB;exact⟨func,c,qj,aB⟩
     ·simp at a
    ·simp at a
   obtain⟨func,c,qj,aB⟩:=Ip
   have aL:func.name≠ "runtime.NumGoroutine":=by simpa using cG.j5.num g func qj (by simp[aB])
   have wC:(bY xA (first++[.func (.yield b8) [] []]++fH)).toArray=((bY R first).toArray++ #[.func (.yield b) #[] #[]])++(bY R fH).toArray:=by
    rw[Cd,Cd,xT dJ cF.2.1,xT dJ cF.2.2]
    simp[bY,aQ,mM,aj]
   rw[wC]
   simp[invoke,callFunc,qj,aL,aB]
  cases ro with
  |none=>
   simp only[lS]at a
   have nV:=rl aE.Z
   have q8:=aE.Z.alloc (b:=j) (au:=j+1) (pl:=⟨w.heap.size,0,0⟩) (cT:= .deferred (some [])) (Y:= .deferred (some [])) (T:=bn C h j (some (.deferred (some [])))) aE.Z.a8 (YA _) (Yf _) nV aE.ew rfl
    (by rw[fR _ aE.Z.a8,Zq rfl]) (λx ah=> .inl (by rw[fR _ aE.Z.a8,Zg ah])) ⟨by rw[World.alloc_heap_new];rfl,λl aC=>by cases aC;simp⟩ ⟨λ_ _ _ a=>(by cases a),λ_ _ _ a=>(by cases a)⟩
   have A7:il C j R af h br.heap.size w (gn R j ⟨w.heap.size,0,0⟩) (add af j) (bn C h j (some (.deferred (some [])))) (w.alloc (.deferred (some []))):=
    ⟨qF nV,λ_ a=> .inl a,λe a=>a.elim .inl (λa=> .inr Zo),λx _ c1=>by rw[fR _ aE.Z.a8,Zg Zo],Below.alloc (Below.refl _ _) aE.ew _⟩
   have r9:C.a8<=j+1:=Nat.le_succ_of_le aE.Z.a8
   have aby:=rl q8
   have χ:br.heap.size<=(w.alloc (.deferred (some []))).heap.size:=by rw[World.size_alloc];have:=aE.ew;omega
   have acn:(gn R j ⟨w.heap.size,0,0⟩ j)=⟨w.heap.size,0,0⟩:=k1 ..
   have MS:=qF (R:=gn R j ⟨w.heap.size,0,0⟩) (pl:=⟨w.heap.size+1,0,0⟩) aby
   have gL:=q8.alloc (b:=j+1) (au:=j+2) (pl:=⟨w.heap.size+1,0,0⟩) (cT:= .loop .ready none fn n av M params.toList assign body j) (Y:= .loop {state:= .ready,pending:=none,fn,tmps,params,assign,body,defers:=w.heap.size})
    (T:=bn C (bn C h j (some (.deferred (some [])))) (j+1) (some (.loop .ready none fn n av M params.toList assign body j))) r9 (YA _) (Yf _) aby χ (by rw[World.size_alloc])
    (by rw[fR _ r9,Zq rfl]) (λx ah=> .inl (by rw[fR _ r9,Zg ah]))
    ⟨tmps,by
     rw[show(⟨w.heap.size+1,0,0⟩:mc).cE=(w.alloc (.deferred (some []))).heap.size by rw[World.size_alloc],World.alloc_heap_new,MS j (.inr rfl),acn],
     (bc.ad A7.iA A7.jt).ad MS (λ_ a=> .inl a), .inl (.inr rfl),abF,hF,λc aB=>(by cases aB),aE.hJ.fn⟩
    ⟨λ_ _ _ a=>(by cases a),λ_ _ _ a=>(by cases a)⟩
   have Dd:il C (j+1) (gn R j ⟨w.heap.size,0,0⟩) (add af j) (bn C h j (some (.deferred (some [])))) br.heap.size (w.alloc (.deferred (some []))) (gn (gn R j ⟨w.heap.size,0,0⟩) (j+1) ⟨w.heap.size+1,0,0⟩) (add (add af j) (j+1))
    (bn C (bn C h j (some (.deferred (some [])))) (j+1) (some (.loop .ready none fn n av M params.toList assign body j))) ((w.alloc (.deferred (some []))).alloc (.loop {state:= .ready,pending:=none,fn,tmps,params,assign,body,defers:=w.heap.size})):=
    ⟨MS,λ_ a=> .inl a,λe a=>a.elim .inl (λa=> .inr Zo),λx _ c1=>by rw[fR _ r9,Zg Zo],Below.alloc (Below.refl _ _) χ _⟩
   have ah:=A7.trans (Yf j) Dd
   have ng:=aE.ext gL (ah.mono aE.jO) (Zz (Yf _) (Yf _))
   have apQ:vY C (add (add af j) (j+1)) fn av (⟨.collected j,[]⟩::bd) none:=⟨λd aM=>by
    rcases Zt.1 aM with rfl|aM
    ·exact⟨.inl (.inr rfl),trivial⟩
    ·exact ng.hJ.bd d aM,ng.hJ.ro,ng.hJ.fn⟩
   have IW:md C (gn (gn R j ⟨w.heap.size,0,0⟩) (j+1) ⟨w.heap.size+1,0,0⟩) (add (add af j) (j+1)) (bn C (bn C h j (some (.deferred (some [])))) (j+1) (some (.loop .ready none fn n av M params.toList assign body j))) bS (j+2) n av M tmps
    (.inRangeFunc (j+1)::B) (.inRangeFunc (w.heap.size+1)::bv):=by
    have:=md.da (bS:=bS) (aJ:=j+2) (h:=bn C (bn C h j (some (.deferred (some [])))) (j+1) (some (.loop .ready none fn n av M params.toList assign body j))) (aN.ad ah.iA ah.jt) (bc.ad ah.iA ah.jt) (l:=j+1) (.inr rfl)
    rw[k1]at this
    exact this
   have pH:bS<=j+2:=zt aE.jO
   obtain⟨args,b4,b7⟩:=aaW (w.heap.size+1) _ _ _ _ _ _ _ (j+2) (j+1) ah.iA ah.jt (.inr rfl) (by rw[k1]) gL ng.kI ng.hK (Zi _)
    (.cons (bN:= .run) IW trivial apQ aE.bot pH ng.cs) Zs a
   refine .head (aeI (run_enterLoop_outer fn tmps params assign body) (lD _ _) b4) ?_
   have pG:({cr R fn bd aG none tmps (.inRangeFunc (w.heap.size+1)::bv) .run with defers:=[{target:= .collected w.heap.size,args:= #[]}]++bd.map (lr R)}:Frame)=
    cr (gn (gn R j ⟨w.heap.size,0,0⟩) (j+1) ⟨w.heap.size+1,0,0⟩) fn (⟨.collected j,[]⟩::bd) aG none tmps (.inRangeFunc (w.heap.size+1)::bv) .run:=by
    have J:bd.map (lr (gn (gn R j ⟨w.heap.size,0,0⟩) (j+1) ⟨w.heap.size+1,0,0⟩))=bd.map (lr R):=YE λd aM=>Pc ah.iA (aE.hJ.bd d aM)
    have fx:lr (gn (gn R j ⟨w.heap.size,0,0⟩) (j+1) ⟨w.heap.size+1,0,0⟩) ⟨.collected j,[]⟩={target:= .collected w.heap.size,args:= #[]}:=by
     simp only[lr,Cb,bY]
     rw[MS j (.inr rfl),acn]
    simp only[cr,ZK,J,fx,YO,YH,Y3]
   rw[pG]
   exact b7
  |some l=>
   simp only[lS]at a
   split at a
   ·rename_i st qA gT aV ks cZ aBm ayZ ay8 gi aC
    have aM:=aE.hJ.ro l rfl
    obtain⟨hz,gN,my,rn,Gl,Bs,sq,Bt⟩:=aE.Z.obj l _ aC aM
    have nV:=rl aE.Z
    have R0:=qF (R:=R) (pl:=⟨w.heap.size,0,0⟩) nV
    have gL:=aE.Z.alloc (b:=j) (au:=j+1) (pl:=⟨w.heap.size,0,0⟩) (cT:= .loop .ready none fn n av M params.toList assign body gi) (Y:= .loop {state:= .ready,pending:=none,fn,tmps,params,assign,body,defers:=(R gi).cE})
     (T:=bn C h j (some (.loop .ready none fn n av M params.toList assign body gi))) aE.Z.a8 (YA _) (Yf _) nV aE.ew rfl
     (by rw[fR _ aE.Z.a8,Zq rfl]) (λx ah=> .inl (by rw[fR _ aE.Z.a8,Zg ah]))
     ⟨tmps,by rw[World.alloc_heap_new,R0 gi rn],bc.ad R0 (λ_ a=> .inl a), .inl rn,abF,hF,λc aB=>(by cases aB),aE.hJ.fn⟩
     ⟨λ_ _ _ a=>(by cases a),λ_ _ _ a=>(by cases a)⟩
    have ah:il C j R af h br.heap.size w (gn R j ⟨w.heap.size,0,0⟩) (add af j) (bn C h j (some (.loop .ready none fn n av M params.toList assign body gi))) (w.alloc (.loop {state:= .ready,pending:=none,fn,tmps,params,assign,body,defers:=(R gi).cE})):=
     ⟨R0,λ_ a=> .inl a,λe a=>a.elim .inl (λa=> .inr Zo),λx _ c1=>by rw[fR _ aE.Z.a8,Zg Zo],Below.alloc (Below.refl _ _) aE.ew _⟩
    have ng:=aE.ext gL (ah.mono aE.jO) (Yf _)
    have IW:md C (gn R j ⟨w.heap.size,0,0⟩) (add af j) (bn C h j (some (.loop .ready none fn n av M params.toList assign body gi))) bS (j+1) n av M tmps (.inRangeFunc j::B) (.inRangeFunc w.heap.size::bv):=by
     have:=md.da (bS:=bS) (aJ:=j+1) (h:=bn C h j (some (.loop .ready none fn n av M params.toList assign body gi))) (aN.ad ah.iA ah.jt) (bc.ad ah.iA ah.jt) (l:=j) (.inr rfl)
     rw[k1]at this
     exact this
    have pH:bS<=j+1:=zt aE.jO
    obtain⟨args,b4,b7⟩:=aaW w.heap.size _ _ _ _ _ _ _ (j+1) j ah.iA ah.jt (.inr rfl) (by rw[k1]) gL ng.kI ng.hK (Zi _)
     (.cons (bN:= .run) IW trivial ng.hJ aE.bot pH ng.cs) Zs a
    have apI:(Instr.enterLoop fn tmps params assign body ((some l).map λl=>(R l).cE)).run C.P w= .ok (w.heap.size,[]) (w.alloc (.loop {state:= .ready,pending:=none,fn,tmps,params,assign,body,defers:=(R gi).cE})):=by
     unfold Instr.enterLoop
     simp only[ZV,Sem.run_bind,run_getLoop gN,run_newObj_alloc,Result.andThen,Sem.run_pure]
    refine .head (aeI apI (lD _ _) b4) ?_
    have pG:({cr R fn bd aG (some l) tmps (.inRangeFunc w.heap.size::bv) .run with defers:=[]++bd.map (lr R)}:Frame)=cr R fn bd aG (some l) tmps (.inRangeFunc w.heap.size::bv) (gJ R .run):=rfl
    rw[pG, <-Gd ah.iA aE.hJ]
    exact b7
   ·simp at a
 ·simp at a
def W0(cG:Env C br dR d3)(gk:m6 C br bz bO ak)(aE:iS C br bz bO fn av bd aG ro cs h j R af w bS aq)(bc:je R af n av M tmps):∀(c:Code) (B:List dV) (bv:List Item),lu C av c=true->lm C R af av B bv->
 t8 c ak C B ⟨fn,n,av,bd,aG,ro,cs⟩ M h j=some v->Ends C br bz bO v (lone (cr R fn bd aG ro tmps (.code c::bv) .run) aq w):=by
 intro c
 have go:∀B bv,lm C R af av B bv->ak .run B ⟨fn,n,av,bd,aG,ro,cs⟩ M h j=some v->Ends C br bz bO v (lone (cr R fn bd aG ro tmps bv .run) aq w):=
  λB bv aN a=>gk _ _ _ _ _ _ _ _ _ _ _ _ v a R af w bS tmps bv aq (aE.state (.plain aN bc))
 induction c with
 |skip=>intro B bv _ aN a;exact .head axC (go B bv aN a)
 |region id ax Aw=>intro B bv _ aN a;exact av0 cG gk aE aN bc a
 |seq K b ms hu=>
  intro B bv fS aN a
  simp only[lu,Zp]at fS
  exact .head axB (ms (.code b::B) (.code b::bv) fS.1 (.cons (.code fS.2) aN) a)
 |cond c K b ms hu=>
  intro B bv fS aN a
  simp only[lu,Zp]at fS
  have cy:Hr c M (t8 K ak C B ⟨fn,n,av,bd,aG,ro,cs⟩ M h j) (t8 b ak C B ⟨fn,n,av,bd,aG,ro,cs⟩ M h j)=some v:=a
  simp only[Hr,od]at cy
  split at cy
  ·rename_i ae be
   obtain⟨bD,_⟩:=XF aE.hK bc fS.1 be
   cases ae with
   |bool t=>
    refine .head (axj (t:=t) (by rw[bD];rfl)) ?_
    cases t with
    |true=>exact ms B bv fS.2.1 aN cy
    |false=>exact hu B bv fS.2.2 aN cy
   |_=>simp at cy
  ·simp at cy
 |block id b hu=>intro B bv fS aN a;exact .head axi (hu (.inBlock id::B) (.inBlock id::bv) fS (.cons .inBlock aN) a)
 |loop b hu=>intro B bv fS aN a;exact .head axs (hu (.inLoop b::B) (.inLoop b::bv) fS (.cons (.inLoop fS) aN) a)
 |rangeFunc f params assign body _ _=>intro B bv fS aN a;exact avS cG gk aE bc fS aN a
 |exit id=>
  intro B bv _ aN a
  have cy:Az id ak C B ⟨fn,n,av,bd,aG,ro,cs⟩ M h j=some v:=a
  unfold Az at cy
  split at cy
  ·rename_i e4 bx
   obtain⟨hP,b4,b7⟩:=amz id aN bx
   exact .head (axn b4) (go e4 hP b7 cy)
  ·rename_i bx
   exact Sp gk (.inr (.inr ⟨id,bv,rfl,rfl,amy id aN bx⟩)) aE bc cy
 |scope b hu=>intro B bv fS aN a;exact .head axA (hu (.inScope b::B) (.inScope b::bv) fS (.cons (.inScope fS) aN) a)
 |label l=>intro B bv _ aN a;exact .head axr (go B bv aN a)
 |goto l=>intro B bv _ _ a;exact absurd a (by simp[t8,DA])
 |ret=>intro B bv _ aN a;exact Sp gk (.inr (.inl ⟨rfl,bv,rfl⟩)) aE bc a
 |refuse s=>intro B bv _ _ a;exact absurd a (by simp[t8,DA])
def av9(aE:dl C R af h j bj w)(bc:je R af n av M tmps){cd:ResultVar->Sem Value}(h2:∀t,cd (.tmp t)=pure (tmps.getD t Go.undef))(du:∀K t,cd (.cell K t)=do loadVar t (<-asAddr (tmps.getD K Go.undef))):
 ∀(l:List ResultVar) (bo:List F),yS av l=true->xm C h M l=some bo->(l.mapM cd).run C.P w= .ok (bY R bo) w/\es af bo:=by
 intro l
 induction l with
 |nil=>intro bo _ a;simp[xm]at a;subst a;exact⟨by simp[bY],trivial⟩
 |cons x l ak=>
  intro bo fS a
  cases x with
  |tmp t=>
   simp only[yS,Zp]at fS
   simp only[xm]at a
   split at a
   ·rename_i ae r be Z
    simp at a;subst a
    obtain⟨Q,U⟩:=bc.val t ae fS.1 be
    obtain⟨ar,aK⟩:=ak r fS.2 Z
    refine⟨?_,U,aK⟩
    simp[Y7,h2,Q,ar,bY]
   ·simp at a
  |cell K t=>
   simp only[yS,Zp]at fS
   simp only[xm]at a
   split at a
   ·rename_i p az
    split at a
    ·rename_i ae r be Z
     simp at a;subst a
     obtain⟨Q,U⟩:=bc.val K p fS.1 az
     obtain⟨ar,aK⟩:=ak r fS.2 Z
     obtain⟨bH,cu⟩:=Wm aE U be
     refine⟨?_,cu,aK⟩
     cases p with
     |ptr b Y=>
      simp only[Instr.loadAt,Instr.sureAddr,aQ,Sem.run_bind,Sem.run_pure,Result.andThen_ok]at bH
      simp[Y7,du,Q,aQ,asAddr,bH,ar,bY]
     |_=>simp[lp,cg,ao]at be;split at be<;>simp at be
    ·simp at a
   ·simp at a
def auT(bo:List F):(if a:(bY R bo).toArray.size=1 then(bY R bo).toArray[0]else Value.tuple (bY R bo).toArray)=aQ R (one bo):=by
 match bo with
 |[]=>simp[one,bY,aQ]
 |[K]=>simp[one,bY]
 |K::b::r=>simp[one,bY,aQ]
def auS{bo:List F}(a:es af bo):cj af (one bo):=by
 match bo,a with
 |[],a=>exact a
 |[K],a=>exact a.1
 |K::b::r,a=>exact a
def iS.defs(aE:iS C br bz bO fn av bd aG ro cs h j R af w bS aq){gi:List hA}(a:∀d∈gi,wu af d):iS C br bz bO fn av gi aG ro cs h j R af w bS aq:=
 ⟨aE.Z,aE.kI,aE.hK,aE.jO,⟨a,aE.hJ.ro,aE.hJ.fn⟩,aE.bot,aE.cs⟩
def iS.TO{todo:List dV}{bN:kD}(IH:bN≠ .run)(b5:qb af bN)(aE:iS C br bz bO fn av bd aG ro cs h j R af w bS aq)(bc:je R af n av M tmps):
 B0 C br bz bO bN todo fn n av bd aG ro cs M h j R af w bS tmps bv aq:=by
 cases bN with
 |run=>exact absurd rfl IH
 |returning=>exact⟨aE.Z,aE.kI,aE.hK,aE.jO,aE.hJ,b5,aE.bot,aE.cs,bc⟩
 |panicking f4=>exact⟨aE.Z,aE.kI,aE.hK,aE.jO,aE.hJ,b5,aE.bot,aE.cs,bc⟩
def Xg(cG:Env C br dR d3)(gk:m6 C br bz bO ak){d:hA}{ds:List hA}{bN:kD}{todo:List dV}(IH:bN≠ .run)(b5:qb af bN)(aE:iS C br bz bO fn av (d::ds) aG ro cs h j R af w bS aq)(bc:je R af n av M tmps)
 (a:xr d ds bN todo ak C ⟨fn,n,av,[],aG,ro,cs⟩ M h j=some v):Ends C br bz bO v (lone (cr R fn (d::ds) aG ro tmps bv (gJ R bN)) aq w):=by
 have L9:wu af d:=aE.hJ.bd d (Zu ..)
 have aa9:∀d∈ds,wu af d:=λk6 aM=>aE.hJ.bd k6 (Zr _ aM)
 have aaN:gJ R bN≠ .run:=by cases bN<;>simp[gJ]at IH ⊢
 unfold xr at a
 split at a
 rename_i PS aO F8 alC Ht Te qT e3
 cases e3
 split at a
 ·rename_i r ct
  split at a
  ·rename_i pr hF
   simp only[e0,g8]at a
   obtain⟨CK,a⟩:=a
   have aM:af r:=L9.1
   obtain⟨gN,my⟩:=aE.Z.obj r _ hF aM
   simp only[ZV]at gN
   obtain⟨bW,bV,cw,c4⟩:=putObj aE.Z (de:=bS) (o':= .deferred none) (ob:= .deferred none) (jf CK) aM hF ⟨Zs,Zs⟩ gN Zs
    (λbW sh=>⟨by simpa using sh,λl aC=>by cases aC⟩) ⟨λ_ _ _ a=>(by cases a),λ_ _ _ a=>(by cases a)⟩
   have MJ:(Instr.takeDeferred (R r).cE).run C.P w= .ok (pr.map (lr R)) bW:=by
    have J:bW=w.putObj (R r).cE (.deferred none):=by
     have:(Go.setObj (R r).cE (.deferred none)).run C.P w= .ok () (w.putObj (R r).cE (.deferred none)):=by simp[Go.setObj,Sem.run,gN,World.putObj]
     rw[this]at bV
     simp only[Result.ok.injEq]at bV
     exact bV.2.symm
    rw[J]
    exact run_takeDeferred gN
   refine .head (axD (dB:=pr++ds) aaN MJ (by rw[Yy])) ?_
   have apr:∀d∈pr++ds,wu af d:=λk6 r2=>by
    rcases Zy.1 r2 with am|am
    ·exact my pr rfl k6 am
    ·exact aa9 k6 am
   have yk:=(aE.defs apr).ext cw c4 (Zi _)
   exact gk _ _ _ _ _ _ _ _ _ _ _ _ v a R af bW bS tmps bv aq (yk.TO IH b5 bc)
  ·simp at a
 ·rename_i f fH args
  split at a
  ·rename_i g ct Re
   have lT:=acx (R:=R) (h:=h) (j:=j) (bj:=br.heap.size) (w:=w) cG.j5 L9.1.1 L9.1.2 L9.2 Re
   obtain⟨Q,U⟩:=lT
   have q9:=step_defer (P:=C.P) (fr:=cr R fn (⟨.fn f fH,args⟩::ds) aG ro tmps bv (gJ R bN)) (cs:=aq) (w:=w) (d:=lr R ⟨.fn f fH,args⟩) (ds:=ds.map (lr R)) aaN rfl rfl Q
   refine .head q9 ?_
   have aD:Aj C R af h bS j n av M tmps bN todo bv:=by
    cases bN with
    |run=>exact absurd rfl IH
    |_=>exact bc
   exact Xv (Cf:=true) gk aE.Z aE.kI aE.hK (Zi _) (.cons (bN:=bN) aD b5 ((aE.defs aa9).hJ) aE.bot aE.jO aE.cs) (λJ=>by cases J) U a
  ·simp at a
def alM(R:c6):∀(l:List ry),(l.map (sU R)).dropWhile (!·.goexit)=[]:=by
 intro l
 induction l with
 |nil=>rfl
 |cons K l ak=>simp[sU,ak]
def awQ(R:c6)(f4:List ry):settle (gJ R (.panicking f4))=gJ R (xw f4):=by
 cases f4 with
 |nil=>rfl
 |cons p l=>
  obtain⟨v,r⟩:=p
  cases r with
  |false=>simp[gJ,settle,xw,sU]
  |true=>simp[gJ,settle,xw,sU,alM]
def aya{f4:List ry}(a:qb af (.panicking f4)):qb af (xw f4):=by
 unfold xw
 split
 ·trivial
 ·exact a
def ayb(f4:List ry):xw f4≠ .run:=by
 unfold xw
 split<;>simp
def awe(cG:Env C br dR d3)(gk:m6 C br bz bO ak){todo:List dV}(aE:iS C br bz bO fn av bd aG ro cs h j R af w bS aq)(bc:je R af n av M tmps)
 (a:J2 todo ak C ⟨fn,n,av,bd,aG,ro,cs⟩ M h j=some v):Ends C br bz bO v (lone (cr R fn bd aG ro tmps bv .returning) aq w):=by
 unfold J2 at a
 cases bd with
 |cons d ds=>exact Xg (bN:= .returning) cG gk Zs trivial aE bc a
 |nil=>
  simp only at a
  split at a
  ·rename_i f ch
   obtain⟨XI,qj,lD⟩:=aE.hJ.fn
   rw[ch]at qj;cases qj
   split at a
   ·rename_i bo I2
    have nZ:(results f tmps).run C.P w= .ok (aQ R (one bo)) w/\es af bo:=by
     unfold results
     rw[Sem.run_bind,Array.mapM_eq_mapM_toList,Sem.run_map]
     obtain⟨eW,e5⟩:=av9 aE.Z bc (cd:=λx=>match x with| .tmp t=>pure (tmps.getD t Go.undef)| .cell K t=>do loadVar t (<-asAddr (tmps.getD K Go.undef))) (λ_=>rfl) (λ_ _=>rfl) _ _ lD I2
     refine⟨?_,e5⟩
     refine(congrArg (λr=>Result.andThen (Result.andThen r _) _) eW).trans ?_
     simp only[Result.andThen_ok,Sem.run_pure]
     rw[<-auT]
    obtain⟨nZ,anX⟩:=nZ
    cases aG with
    |false=>
     have Ml:(cr R fn [] false ro tmps bv .returning).leaving C.P w (.returned (aQ R (one bo))):=⟨rfl,rfl,rfl,f,ch,nZ⟩
     cases cs with
     |nil=>
      simp only[sR,jF,Zf]at a
      subst a
      obtain⟨c0,dL,ef⟩:=aE.bot rfl
      have hT:=aE.cs
      cases hT with
      |nil=>exact⟨R,w,_, .refl _ _,Ml,c0,aE.kI⟩
     |cons c rest=>
      refine WF gk aE Zs (auS anX) (λg i1 J=> ?_) a
      subst J
      exact step_leave_returned Ml
    |true=>
     cases cs with
     |nil=>have:=(aE.bot rfl).2.1;cases this
     |cons c rest=>
      obtain⟨gT,aV,ks,cZ,vD,gi,mw,jg,kV⟩:=c
      obtain⟨re,hz,hP,i1,rfl,bV,cw,c4,ec,eU,dK⟩:=aE.cs.inv
      have q9:=step_going_returned (P:=C.P) (fr:=cr R fn [] true ro tmps bv .returning) (c:=cr R gT gi jg kV hz hP (gJ R mw)) (cs:=i1) (w:=w) (v:=aQ R (one bo)) rfl ⟨rfl,rfl,f,ch,nZ⟩
      refine .head q9 ?_
      cases mw with
      |run=>simp[sR]at a
      |returning=>
       have cy:ak .returning vD ⟨gT,aV,ks,gi,jg,kV,rest⟩ cZ h j=some v:=a
       exact gk _ _ _ _ _ _ _ _ _ _ _ _ v cy R af w re hz hP i1 ⟨aE.Z,aE.kI,aE.hK,Zz eU aE.jO,c4,trivial,ec,dK,bV⟩
      |panicking f4=>
       have cy:ak (xw f4) vD ⟨gT,aV,ks,gi,jg,kV,rest⟩ cZ h j=some v:=a
       have J:({cr R gT gi jg kV hz hP (gJ R (.panicking f4))with mode:=settle (cr R gT gi jg kV hz hP (gJ R (.panicking f4))).mode}:Frame)=cr R gT gi jg kV hz hP (gJ R (xw f4)):=by
        rw[show(cr R gT gi jg kV hz hP (gJ R (.panicking f4))).mode=gJ R (.panicking f4) from rfl,awQ]
        rfl
       rw[J]
       have aj:iS C br bz bO gT ks gi jg kV rest h j R af w re i1:=⟨aE.Z,aE.kI,aE.hK,Zz eU aE.jO,c4,ec,dK⟩
       exact gk _ _ _ _ _ _ _ _ _ _ _ _ v cy R af w re hz hP i1 (aj.TO (ayb f4) (aya cw) bV)
   ·simp at a
  ·simp at a
def avP(R:c6)(f4:List ry)(bN:kD):raised (gJ R bN) (f4.map (sU R))=gJ R (DK f4 bN):=by
 cases bN<;>simp[gJ,raised,DK]
def avH{f4:List ry}{bN:kD}(a:qb af (.panicking f4))(cy:qb af bN):qb af (DK f4 bN):=by
 cases bN with
 |panicking pO=>
  intro p az
  rcases Zy.1 az with am|am
  ·exact a p am
  ·exact cy p am
 |_=>exact a
def avb(cG:Env C br dR d3)(gk:m6 C br bz bO ak){todo:List dV}{f4:List ry}(b5:qb af (.panicking f4))(aE:iS C br bz bO fn av bd aG ro cs h j R af w bS aq)(bc:je R af n av M tmps)
 (a:J1 f4 todo ak C ⟨fn,n,av,bd,aG,ro,cs⟩ M h j=some v):Ends C br bz bO v (lone (cr R fn bd aG ro tmps bv (gJ R (.panicking f4))) aq w):=by
 unfold J1 at a
 cases bd with
 |cons d ds=>exact Xg (bN:= .panicking f4) cG gk Zs b5 aE bc a
 |nil=>
  simp only at a
  cases cs with
  |nil=>simp at a
  |cons c rest=>
   obtain⟨gT,aV,ks,cZ,vD,gi,mw,jg,kV⟩:=c
   obtain⟨re,hz,hP,i1,rfl,bV,cw,c4,ec,eU,dK⟩:=aE.cs.inv
   obtain⟨f,ch,_⟩:=aE.hJ.fn
   have q9:=step_going_panicked (P:=C.P) (fr:=cr R fn [] aG ro tmps bv (gJ R (.panicking f4))) (c:=cr R gT gi jg kV hz hP (gJ R mw)) (cs:=i1) (w:=w) (chain:=f4.map (sU R)) ⟨rfl,rfl,f,ch⟩
   refine .head q9 ?_
   have J:({cr R gT gi jg kV hz hP (gJ R mw)with mode:=raised (cr R gT gi jg kV hz hP (gJ R mw)).mode (f4.map (sU R))}:Frame)=cr R gT gi jg kV hz hP (gJ R (DK f4 mw)):=by
    rw[show(cr R gT gi jg kV hz hP (gJ R mw)).mode=gJ R mw from rfl,avP]
    rfl
   rw[J]
   have cy:ak (DK f4 mw) vD ⟨gT,aV,ks,gi,jg,kV,rest⟩ (ud vD cZ) h j=some v:=a
   have aj:iS C br bz bO gT ks gi jg kV rest h j R af w re i1:=⟨aE.Z,aE.kI,aE.hK,Zz eU aE.jO,c4,ec,dK⟩
   exact gk _ _ _ _ _ _ _ _ _ _ _ _ v cy R af w re hz hP i1 (aj.TO (by cases mw<;>simp[DK]) (avH b5 cw) bV.drop)
def aeK(cG:Env C br dR d3)(pJ:m6 C br bz bO ak):m6 C br bz bO λbN todo cd M h j=>TA ak C bN todo cd M h j:=by
 intro bN todo fn n av bd aG ro cs M h j v cy R af w de tmps bv aq di
 cases bN with
 |run=>
  obtain⟨aE,bc⟩:=di.akq
  have U:aeL todo ak C ⟨fn,n,av,bd,aG,ro,cs⟩ M h j=some v:=cy
  cases bc with
  |plain aN w1=>
   cases aN with
   |nil=>
    have ar:n6 none ak C [] ⟨fn,n,av,bd,aG,ro,cs⟩ M h j=some v:=U
    exact Sp pJ (.inl ⟨rfl,rfl⟩) aE w1 ar
   |cons aJ aN=>
    rename_i K x B bv
    have ar:acz K ak C B ⟨fn,n,av,bd,aG,ro,cs⟩ M h j=some v:=U
    have go:∀B bv,lm C R af av B bv->ak .run B ⟨fn,n,av,bd,aG,ro,cs⟩ M h j=some v->Ends C br bz bO v (lone (cr R fn bd aG ro tmps bv .run) aq w):=
     λB bv aN a=>pJ _ _ _ _ _ _ _ _ _ _ _ _ v a R af w de tmps bv aq (aE.state (.plain aN w1))
    cases aJ with
    |code fS=>exact W0 cG pJ aE w1 _ B bv fS aN ar
    |inBlock=>exact .head axo (go B bv aN ar)
    |inLoop fS=>exact .head axp (W0 cG pJ aE w1 _ _ _ fS (.cons (.inLoop fS) aN) ar)
    |inScope fS=>exact .head axq (go B bv aN ar)
    |Cm aM=>
     rename_i l
     have aK:EP l ak C B ⟨fn,n,av,bd,aG,ro,cs⟩ M h j=some v:=ar
     unfold EP at aK
     split at aK
     ·rename_i st qA gT aV ks cZ params assign body gi hF
      have Qb:st≠ .busy->bP (jV C l) (jj (bn C h l (some (.loop .exhausted qA gT aV ks cZ params assign body gi))) λh=>ak .run ((qA.map dV.code).toList++B) ⟨fn,n,av,bd,aG,ro,cs⟩ M h j) none=some v->
       Ends C br bz bO v (lone (cr R fn bd aG ro tmps (.endRangeFunc (R l).cE::bv) .run) aq w):=by
       intro arz bH
       simp only[e0,g8]at bH
       obtain⟨CK,bH⟩:=bH
       have RC:∀c,qA=some c->FW c:=by
        obtain⟨_,_,_,_,_,_,sq,_⟩:=aE.Z.obj l _ hF aM
        exact sq
       obtain⟨hz,gN,Bt,sq,yk⟩:=SB aE (iR:= .exhausted) (BD:=qA) (jf CK) aM hF RC
       refine .head (axm (run_endLoop gN arz)) ?_
       refine pJ _ _ _ _ _ _ _ _ _ _ _ _ v bH R af _ de tmps _ aq (yk.state (.plain ?_ w1))
       cases qA with
       |none=>exact aN
       |some c=>
        have aB:lu C av c=true:=by
         rcases sq c rfl with rfl|⟨id,rfl⟩<;>rfl
        exact .cons (.code aB) aN
      cases st with
      |busy=>simp at aK
      |ready=>exact Qb Zs aK
      |done=>exact Qb Zs aK
      |exhausted=>exact Qb Zs aK
     ·simp at aK
    |begin=>
     have aK:Hi ak C B ⟨fn,n,av,bd,aG,ro,cs⟩ M h j=some v:=ar
     unfold Hi at aK
     cases ro with
     |none=>simp at aK
     |some l=>
      simp only at aK
      split at aK
      ·rename_i qA gT aV ks cZ params assign body gi hF
       simp only[e0,g8]at aK
       obtain⟨CK,aK⟩:=aK
       have aM:=aE.hJ.ro l rfl
       have RC:∀c,qA=some c->FW c:=by
        obtain⟨_,_,_,_,_,_,sq,_⟩:=aE.Z.obj l _ hF aM
        exact sq
       obtain⟨hz,gN,Bt,sq,yk⟩:=SB aE (iR:= .busy) (BD:=qA) (jf CK) aM hF RC
       refine .head (axh (run_beginRound gN rfl)) ?_
       exact pJ _ _ _ _ _ _ _ _ _ _ _ _ v aK R af _ de tmps bv aq (yk.state (.plain aN w1))
      ·simp at aK
  |seq aN aD=>exact aez cG pJ _ _ _ _ _ _ _ _ _ _ aE aN aD U
  |drawn aN bH cu dM fs=>exact Xm cG pJ aE aN bH cu dM.c9 dM fs U
 |returning=>
  have aE:iS C br bz bO fn av bd aG ro cs h j R af w de aq:=⟨di.Z,di.kI,di.hK,di.jO,di.hJ,di.bot,di.cs⟩
  exact awe (todo:=todo) cG pJ aE di.todo cy
 |panicking f4=>
  have aE:iS C br bz bO fn av bd aG ro cs h j R af w de aq:=⟨di.Z,di.kI,di.hK,di.jO,di.hJ,di.bot,di.cs⟩
  exact avb (todo:=todo) cG pJ di.mode aE di.todo cy
def awA(cG:Env C br dR d3):∀n,m6 C br bz bO (run C n):=by
 intro n
 induction n with
 |zero=>intro bN todo fn n av bd aG ro cs M h j v a;simp[run]at a
 |succ m pJ=>exact aeK cG pJ
def awx(cG:Env C br dR d3){m f:Nat}{args:List F}(h0:es d3 args)(a:tE C m f args=some v):
 Calls C.P f (bY dR args).toArray br λJ bW=>(∃R,J= .returned (aQ R v))/\Below br.heap.size br bW:=by
 intro qT
 have bT:Ends C br f qT v (lone (Frame.enter C.P f (bY dR args).toArray .normal) qT br):=
  K6 (awA cG m) cG.base (Below.refl _ _) cG.hK (Zi _) .nil (λ_=>rfl) h0 a
 obtain⟨R,bW,fr,Q,U,ar,aK⟩:=bT
 exact⟨.returned (aQ R v),bW,fr,⟨⟨R,rfl⟩,aK⟩,Q,ar,U⟩
end
end Go.bi

namespace Go.bi
noncomputable section
open Go.RowKit (Below)
abbrev v2:=Option (List F×Nat×List (Nat×an))
def Dm(P:Program)(next:Nat->DataW Unit->Nat->v2):List Field->List (DataW Unit)->Nat->Nat->v2
 |[],[],_,n=>some ([],n,[])
 |f::jv,d::ds,off,n=>bP (Nat.beq f.offset off) (match next f.type d n with
  |some (l,aO,os)=>bP (Nat.beq l.length (P.cellsOf f.type)) (match Dm P next jv ds (off+l.length) aO with
   |some (c5,bg,sv)=>some (l++c5,bg,os++sv)
   |none=>none) none
  |none=>none) none
 |_,_,_,_=>none
def F0(P:Program)(next:Nat->DataW Unit->Nat->v2)(J:Nat):List (DataW Unit)->Nat->v2
 |[],n=>some ([],n,[])
 |d::ds,n=>match next J d n with
  |some (l,aO,os)=>bP (Nat.beq l.length (P.cellsOf J)) (match F0 P next J ds aO with
   |some (c5,bg,sv)=>some (l++c5,bg,os++sv)
   |none=>none) none
  |none=>none
def Jg:Lit->Option F
 | .bool b=>some (.bool b)
 | .int B n=>some (.int B n)
 | .string s=>some (.str (s.map (·.toNat)))
 |_=>none
def Sn(P:Program)(J:Nat)(l:List F):Option F:=match P.underlying J with
 |some (.struct _)=>some (.agg l)
 |some (.array _ _)=>some (.agg l)
 |some _=>(match l with|[v]=>some v|_=>none)
 |none=>none
def ND(P:Program)(B:Nat):Bool:=match P.underlying B with|some .bool=>true|some (.int _)=>true|some .string=>true|_=>false
def Jl(P:Program)(next:Nat->DataW Unit->Nat->v2)(J:Nat):List (Lit×DataW Unit)->Nat->Option (List (F×F)×Nat×List (Nat×an))
 |[],n=>some ([],n,[])
 |(key,d)::cb,n=>match Jg key,next J d n with
  |some FZ,some (l,aO,os)=>(match Sn P J l,Jl P next J cb aO with
   |some v,some (r,bg,sv)=>some ((FZ,v)::r,bg,os++sv)
   |_,_=>none)
  |_,_=>none
def GD(l:List F):an:= .cells (V.ofList l 0 .nil) l.length .own
def w9(P:Program):Nat->Nat->DataW Unit->Nat->v2
 |0,_,_,_=>none
 |m+1,t,d,n=>match P.underlying t,d with
  |some .bool, .lit (.bool b)=>some ([.bool b],n,[])
  |some (.int _), .lit (.int B i)=>some ([.int B i],n,[])
  |some .string, .lit (.string s)=>some ([.str (s.map (·.toNat))],n,[])
  |some (.pointer _), .nil=>some ([.cz],n,[])
  |some (.pointer J), .ptr d=>(match w9 P m J d (n+1)with
   |some (l,aO,os)=>bP (Nat.beq l.length (P.cellsOf J)&&Nat.blt 0 l.length) (some ([.ptr n 0],aO,(n,GD l)::os)) none
   |none=>none)
  |some (.slice _), .nil=>some ([.aP],n,[])
  |some (.slice J), .slice cb aeF=>(match aeF with
   |[]=>(match F0 P (w9 P m) J cb (n+1)with
    |some (l,aO,os)=>bP (Nat.blt 0 l.length) (some ([.slice n 0 cb.length cb.length],aO,(n,GD l)::os)) none
    |none=>none)
   |_::_=>none)
  |some (.struct jv), .agg ds=>(match Dm P (w9 P m) jv.toList ds 0 n with
   |some (l,aO,os)=>bP (Nat.beq l.length (P.cellsOf t)) (some (l,aO,os)) none
   |none=>none)
  |some (.array _ J), .agg ds=>(match F0 P (w9 P m) J ds n with
   |some (l,aO,os)=>bP (Nat.beq l.length (P.cellsOf t)) (some (l,aO,os)) none
   |none=>none)
  |some (.interface _), .nil=>some ([.nilIface],n,[])
  |some (.map _ _), .nil=>some ([.lf],n,[])
  |some (.map B J), .map cb=>bP (ND P B) (match Jl P (w9 P m) J cb (n+1)with
   |some (r,aO,os)=>some ([.map n],aO,(n, .look r)::os)
   |none=>none) none
  |_,_=>none
section
variable{C:aZ}{P:Program}{w:World}
def rA(w:World)(dq:List MemPlace):Prop:=∀b off,MemPlace.cell b off∈dq->∃c t,w.heap[b]? =some (.cells c t (0,0))
def Ee(Y:an):Prop:=∀C af,v6 C af Y
def Lays(C:aZ)(w:World)(n:Nat)(cs:List Value)(r:List F×Nat×List (Nat×an)):Prop:=
 n<=r.2.1/\(∀x∈r.2.2,n<=x.1/\x.1<r.2.1/\Ee x.2)/\∃f:Nat->mc,∀R af,(∀b,n<=b->b<r.2.1->R b=f b/\af b)->cs=bY R r.1/\es af r.1/\∀x∈r.2.2,jT C R af x.2 (R x.1) w
def Lays.plain{n:Nat}{cs:List Value}{l:List F}(a:∀R af,cs=bY R l/\es af l):Lays C w n cs (l,n,[]):=
 ⟨Zi _,Zs,λ_=>default,λR af _=>⟨(a R af).1,(a R af).2,Zs⟩⟩
def Lays.app{n aO bg:Nat}{qT Pn:List Value}{eg c5:List F}{adP sv:List (Nat×an)}(Q:Lays C w n qT (eg,aO,adP))(U:Lays C w aO Pn (c5,bg,sv)):Lays C w n (qT++Pn) (eg++c5,bg,adP++sv):=by
 obtain⟨bh,cl,eM,a3⟩:=Q
 obtain⟨c0,dL,eZ,ef⟩:=U
 refine⟨Zz bh c0, ?_,λb=>if b<aO then eM b else eZ b, ?_⟩
 ·intro x ah
  rcases Zy.1 ah with a|a
  ·obtain⟨cD,cp,dF⟩:=cl x a
   exact⟨cD,ZR cp c0,dF⟩
  ·obtain⟨cD,cp,dF⟩:=dL x a
   exact⟨Zz bh cD,cp,dF⟩
 ·intro R af dJ
  obtain⟨dt,dG,hd⟩:=a3 R af (λb Q U=>by
   have E0:b<aO:=U
   have:=dJ b Q (ZR U c0)
   simp only[Zq E0]at this
   exact this)
  obtain⟨cX,cP,eQ⟩:=ef R af (λb Q U=>by
   have tc:¬b<aO:=zq.2 Q
   have:=dJ b (Zz bh Q) U
   simp only[Zg tc]at this
   exact this)
  refine⟨by rw[Cd, <-dt, <-cX],AE dG cP, ?_⟩
  intro x ah
  rcases Zy.1 ah with a|a
  ·exact hd x a
  ·exact eQ x a
def Dq{α eO:Type}{f:α->Option eO}:∀{l:List α}{r:List eO},l.mapM f=some r->r.length=l.length/\∀(i:Nat) (K:α) (b:eO),l[i]? =some K->r[i]? =some b->f K=some b:=by
 intro l
 induction l with
 |nil=>intro r a;simp at a;subst a;simp
 |cons K l ak=>
  intro r a
  simp only[Y7,Option.bind_eq_bind,Z0]at a
  obtain⟨b,aj,gO,Z,a⟩:=a
  simp at a;subst a
  obtain⟨Q,U⟩:=ak Z
  refine⟨by simp[Q],λi fN dP aE jI=> ?_⟩
  cases i with
  |zero=>simp at aE jI;subst aE;subst jI;exact aj
  |succ i=>exact U i fN dP (by simpa using aE) (by simpa using jI)
def adg{α eO:Type}{f:α->Option eO}{K:α}{l:List α}{r:List eO}(a:(K::l).mapM f=some r):∃b gO,r=b::gO/\f K=some b/\l.mapM f=some gO:=by
 simp only[Y7,Option.bind_eq_bind,Z0]at a
 obtain⟨b,aj,gO,Z,a⟩:=a
 simp at a;subst a
 exact⟨b,gO,rfl,aj,Z⟩
def rA.of{dq cR:List MemPlace}(a:rA w dq)(aD:∀x∈cR,x∈dq):rA w cR:=λb off aj=>a b off (aD _ aj)
def Ku(C:aZ)(w:World)(next:Nat->DataW Unit->Nat->v2)(eo:TypeId->List Value->Option (DataW Unit×List MemPlace)):Prop:=
 ∀t d n r,next t d n=some r->∀cs dq,eo t cs=some (d,dq)->rA w dq->Lays C w n cs r
variable{next:Nat->DataW Unit->Nat->v2}{eo:TypeId->List Value->Option (DataW Unit×List MemPlace)}
def ati(iI:Ku C w next eo){cs:List Value}:∀(jv:List Field) (ds:List (DataW Unit)) (off n:Nat) (r:List F×Nat×List (Nat×an)),Dm P next jv ds off n=some r->
 ∀cn:List (DataW Unit×List MemPlace),(jv.mapM λf=>eo f.type ((cs.drop f.offset).take (P.cellsOf f.type)))=some cn->cn.map (·.1)=ds->rA w (cn.flatMap (·.2))->Lays C w n ((cs.drop off).take r.1.length) r:=by
 intro jv
 induction jv with
 |nil=>
  intro ds off n r a cn _ _ _
  cases ds with
  |nil=>simp[Dm]at a;subst a;exact .plain λR af=>⟨by simp[bY],trivial⟩
  |cons d ds=>simp[Dm]at a
 |cons f jv ak=>
  intro ds off n r a cn ah aM cv
  cases ds with
  |nil=>simp[Dm]at a
  |cons d ds=>
   simp only[Dm,e0]at a
   obtain⟨Rx,a⟩:=a
   have Rx:=Zj Rx
   split at a
   ·rename_i l aO os Z
    simp only[e0]at a
    obtain⟨aC,a⟩:=a
    have aC:=Zj aC
    split at a
    ·rename_i c5 bg sv gL
     simp at a;subst a
     obtain⟨e,nA,rfl,H,RZ⟩:=adg ah
     simp at aM
     obtain⟨rfl,aM⟩:=aM
     have Q:=iI _ _ _ _ Z _ e.2 (by rw[H]) (cv.of (by intro x ah;simp;exact .inl ah))
     have U:=ak ds (off+l.length) aO _ gL nA RZ aM (cv.of (by intro x ah;simp only[Yu,Zy];exact .inr ah))
     rw[Rx, <-aC]at Q
     have:=Q.app U
     simp only[ZM]
     rw[List.take_add,zn]
     exact this
    ·simp at a
   ·simp at a
def XU(cs:List Value)(B:Nat):∀(m i0:Nat),(List.range' i0 m).flatMap (λi=>(cs.drop (i*B)).take B)=(cs.drop (i0*B)).take (m*B):=by
 intro m
 induction m with
 |zero=>intro i0;simp
 |succ m ak=>
  intro i0
  rw[List.range'_succ,Yu,ak,Ye m 1 B,Nat.one_mul,Nat.add_comm (m*B) B,List.take_add,zn,Ye i0 1 B,Nat.one_mul]
def acV(iI:Ku C w next eo){J:Nat}{g:Nat->List Value}:∀(ds:List (DataW Unit)) (i0 n:Nat) (r:List F×Nat×List (Nat×an)),F0 P next J ds n=some r->
 ∀cn:List (DataW Unit×List MemPlace),((List.range' i0 ds.length).mapM λi=>eo J (g i))=some cn->cn.map (·.1)=ds->rA w (cn.flatMap (·.2))->Lays C w n ((List.range' i0 ds.length).flatMap g) r/\r.1.length=ds.length*P.cellsOf J:=by
 intro ds
 induction ds with
 |nil=>
  intro i0 n r a cn _ _ _
  simp[F0]at a;subst a
  exact⟨.plain λR af=>⟨by simp[bY],trivial⟩,Zs⟩
 |cons d ds ak=>
  intro i0 n r a cn ah aM cv
  simp only[F0]at a
  split at a
  ·rename_i l aO os Z
   simp only[e0]at a
   obtain⟨aC,a⟩:=a
   have aC:=Zj aC
   split at a
   ·rename_i c5 bg sv gL
    simp at a;subst a
    simp only[ZB,List.range'_succ]at ah
    obtain⟨e,nA,rfl,H,RZ⟩:=adg ah
    simp at aM
    obtain⟨rfl,aM⟩:=aM
    have Q:=iI _ _ _ _ Z _ e.2 (by rw[H]) (cv.of (by intro x ah;simp;exact .inl ah))
    obtain⟨U,ar⟩:=ak (i0+1) aO _ gL nA RZ aM (cv.of (by intro x ah;simp only[Yu,Zy];exact .inr ah))
    refine⟨?_, ?_⟩
    ·simp only[ZB,List.range'_succ,Yu]
     exact Q.app U
    ·simp only[ZM,ZB,ar,aC,zm]
     omega
   ·simp at a
  ·simp at a
end
end
end Go.bi

namespace Go.bi
noncomputable section
open Go.RowKit (Below)
section
variable{C:aZ}{P:Program}{w:World}
def Pf{K:Addr}{v:Value}(a:w.cell? K=some v):K.spot=none/\∃co ty tD,w.heap[K.block]? =some (.cells co ty tD)/\co[K.off]? =some v:=by
 unfold World.cell? at a
 split at a
 ·rename_i c ty tD aj
  split at a
  ·cases a
  ·rename_i aD
   refine⟨?_,c,ty,tD,aj,a⟩
   cases b1:K.spot with
   |none=>rfl
   |some x=>rw[b1]at aD;exact absurd rfl aD
 ·cases a
def OU(K:Addr)(aa:Nat):(K.add aa).block=K.block:=by unfold Addr.add;split<;>rfl
def Wn(K:Addr)(aa:Nat):(K.add aa).off=K.off+aa:=by unfold Addr.add;split<;>simp_all
def Ph{K:Addr}{B:Nat}{g:List Value}{co:Array Value}{ty:TypeId}{tD:Nat×Nat}(aj:w.heap[K.block]? =some (.cells co ty tD))(a:w.cells? 0 K B=some g):g=(co.toList.drop K.off).take B/\g.length=B:=by
 unfold World.cells? at a
 rw[Zq (zr _)]at a
 obtain⟨Q,U⟩:=Dq a
 rw[List.length_range]at Q
 have key:∀aa,aa<B->co[K.off+aa]? =g[aa]? :=by
  intro aa bG
  have b5:g[aa]? =some g[aa]:=Ze Zo
  have:=U aa aa g[aa] (by simp[bG]) b5
  obtain⟨_,Et,ax4,aBp,cD,cp⟩:=Pf this
  rw[OU,aj]at cD
  cases cD
  rw[Wn]at cp
  rw[cp,b5]
 refine⟨Ys λaa=> ?_,Q⟩
 by_cases bG:aa<B
 ·rw[YV bG,YJ, <-key aa bG];simp
 ·rw[ZG Zo,ZG (by simp;omega)]
def SQ(l:List F):Ee (GD l):=λ_ _=>⟨λ_ _ _ a=>(by cases a),λ_ _ _ a=>(by cases a;exact Gm)⟩
def auO(l:List (F×F)):Ee (.look l):=λ_ _=>⟨λ_ _ _ a=>(by cases a),λ_ _ _ a=>(by cases a)⟩
def Tg{R:c6}{af:Nat->Prop}{l:List F}{pl:mc}{co:Array Value}{ty:TypeId}(aj:w.heap[pl.cE]? =some (.cells co ty (0,0)))(aC:(co.toList.drop pl.eb).take l.length=bY R l)(g:es af l)(cv:0<l.length):jT C R af (GD l) pl w:=by
 have fD:l.length<=co.size-pl.eb:=by
  have:=congrArg List.length aC
  rw[jG]at this
  simp at this
  omega
 refine⟨co,ty,0,0,aj,rfl,Zo,λi v bB=> ?_⟩
 rw[kw]at bB
 have aJ:i<l.length:=(Zb.1 bB).1
 refine⟨?_,AF g bB⟩
 have:=congrArg (λx:List Value=>x[i]?) aC
 simp only[YV aJ,YJ,ZS,At,bB,ZV]at this
 exact this
def Lays.block{n aO:Nat}{os:List (Nat×an)}{cs:List Value}{l:List F}{ae:F}{x:Value}{cT:an}(pl:mc)(a:Lays C w (n+1) cs (l,aO,os))(bl:Ee cT)
 (hF:∀R af,R n=pl->af n->cs=bY R l->es af l->jT C R af cT pl w/\x=aQ R ae/\cj af ae):Lays C w n [x] ([ae],aO,(n,cT)::os):=by
 obtain⟨bh,cl,f,a3⟩:=a
 have bh:n+1<=aO:=bh
 refine⟨by simp only;omega, ?_,λb=>if b=n then pl else f b, ?_⟩
 ·intro e H
  rcases Zt.1 H with rfl|H
  ·exact⟨Zi _,by simp only;omega,bl⟩
  ·obtain⟨cD,cp,dF⟩:=cl e H
   exact⟨Zo,cp,dF⟩
 ·intro R af dJ
  have aL:=dJ n (Zi _) (by simp only;omega)
  simp only[ZD]at aL
  obtain⟨dt,dG,hd⟩:=a3 R af (λb Q U=>by
   have:=dJ b Zo U
   have dD:b≠n:=Zo
   simp only[Zg dD]at this
   exact this)
  obtain⟨eW,e5,hy⟩:=hF R af aL.1 aL.2 dt dG
  refine⟨by simp[bY,e5],⟨hy,trivial⟩, ?_⟩
  intro e H
  rcases Zt.1 H with rfl|H
  ·simp only[aL.1];exact eW
  ·exact hd e H
def adZ{α eO:Type}{f:α->eO}{K m:List eO}(a:K.Perm m):∀l:List α,l.map f=K->∃b8:List α,b8.Perm l/\b8.map f=m:=by
 induction a with
 |nil=>intro l a;simp at a;subst a;exact⟨[], .refl _,rfl⟩
 |cons x _ ak=>
  intro l a
  cases l with
  |nil=>simp at a
  |cons e l=>
   simp at a
   obtain⟨b8,Q,U⟩:=ak l a.2
   exact⟨e::b8,Q.cons e,by simp[a.1,U]⟩
 |swap x e fP=>
  intro l a
  cases l with
  |nil=>simp at a
  |cons p l=>
   cases l with
   |nil=>simp at a
   |cons am l=>
    simp at a
    obtain⟨rfl,rfl,rfl⟩:=a
    exact⟨am::p::l, .swap _ _ _,Zs⟩
 |trans _ _ R1 I5=>
  intro l a
  obtain⟨eg,Q,U⟩:=R1 l a
  obtain⟨c5,ar,aK⟩:=I5 eg U
  exact⟨c5,ar.trans Q,aK⟩
def insert_perm{rD:Type}(x:Lit×DataW rD):∀l,(DataW.insert x l).Perm (x::l):=by
 intro l
 induction l with
 |nil=>exact .refl _
 |cons e l ak=>
  simp only[DataW.insert]
  split
  ·exact .refl _
  ·exact(ak.cons e).trans (.swap _ _ _)
def sorted_perm{rD:Type}:∀l:List (Lit×DataW rD),(l.foldr DataW.insert []).Perm l:=by
 intro l
 induction l with
 |nil=>exact .refl _
 |cons x l ak=>exact(insert_perm x _).trans (ak.cons x)
def asV{B:Nat}{v:Value}{key:Lit}{FZ:F}(az:ND P B=true)(a:keyOf P B v=some key)(aN:Jg key=some FZ)(R:c6)(af:Nat->Prop):v=aQ R FZ/\cj af FZ:=by
 unfold ND at az
 unfold keyOf at a
 have J:mapKey P B v=some key:=by
  cases be:P.underlying B with
  |none=>rw[be]at az;cases az
  |some ae=>rw[be]at a az;cases ae<;>first|exact a|cases az
 unfold mapKey at J
 split at J
 ·simp at J;subst J;simp[Jg]at aN;subst aN;exact⟨rfl,trivial⟩
 ·split at J
  ·rename_i am S2 n _ b1
   simp at J;subst J;simp[Jg]at aN;subst aN
   exact⟨by rw[b1.1];rfl,trivial⟩
  ·cases J
 ·split at J
  ·rename_i s _ _
   simp at J;subst J;simp[Jg]at aN;subst aN
   refine⟨by simp only[aQ];rw[O9], ?_⟩
   intro x ah
   simp at ah
   obtain⟨b,_,rfl⟩:=ah
   exact b.toNat_lt
  ·cases J
 ·cases J
def ayo{J:Nat}{v:Value}{l:List F}{ae:F}{R:c6}{af:Nat->Prop}(ch:v.formed P J=true)(be:Sn P J l=some ae)(aB:v.cells.toList=bY R l)(g:es af l):v=aQ R ae/\cj af ae:=by
 unfold Sn at be
 unfold Value.formed at ch
 cases aM:P.underlying J with
 |none=>rw[aM]at be;cases be
 |some J6=>
  rw[aM]at be ch
  have agg:(∃cs,v= .agg cs)->ae= .agg l->v=aQ R ae/\cj af ae:=by
   rintro⟨cs,rfl⟩ rfl
   refine⟨?_,g⟩
   simp only[Value.cells]at aB
   simp only[aQ, <-aB]
  have awX:v.cells= #[v]->(∃x,l=[x]/\ae=x)->v=aQ R ae/\cj af ae:=by
   rintro Q ⟨x,rfl,rfl⟩
   rw[Q]at aB
   simp[bY]at aB
   exact⟨aB,g.1⟩
  cases v<;>cases J6<;>simp only at ch be<;>first
   |(cases ch;done)
   |(simp at be;exact agg ⟨_,rfl⟩ be.symm)
   |(
     split at be
     ·simp at be;exact awX rfl ⟨_,rfl,be.symm⟩
     ·cases be)
end
end
end Go.bi

namespace Go.bi
noncomputable section
open Go.RowKit (Below)
section
variable{C:aZ}{P:Program}{w:World}
variable{next:Nat->DataW Unit->Nat->v2}{eo:TypeId->List Value->Option (DataW Unit×List MemPlace)}
def ath(iI:Ku C w next eo){B J:Nat}(az:ND P B=true):∀(cb:List (Lit×DataW Unit)) (n:Nat) (r:List (F×F)×Nat×List (Nat×an)),Jl P next J cb n=some r->
 ∀iT:List (MapEntry×((Lit×DataW Unit)×List MemPlace)),iT.map (·.2.1)=cb->(∀bt∈iT,keyOf P B bt.1.key=some bt.2.1.1/\bt.1.val.formed P J=true/\eo J bt.1.val.cells.toList=some (bt.2.1.2,bt.2.2)/\rA w bt.2.2)->
 n<=r.2.1/\(∀x∈r.2.2,n<=x.1/\x.1<r.2.1/\Ee x.2)/\r.1.length=iT.length/\∃f:Nat->mc,∀R af,(∀b,n<=b->b<r.2.1->R b=f b/\af b)->
  iT.map (·.1)=(List.zipWith (λ(p:F×F) (bt:MapEntry×((Lit×DataW Unit)×List MemPlace))=>(p.1,p.2,bt.1.born)) r.1 iT).map (lx R)/\(∀p∈r.1,cj af p.1/\cj af p.2)/\∀x∈r.2.2,jT C R af x.2 (R x.1) w:=by
 intro cb
 induction cb with
 |nil=>
  intro n r a iT Fb _
  simp[Jl]at a;subst a
  simp at Fb;subst Fb
  exact⟨Zi _,Zs,rfl,λ_=>default,λR af _=>⟨rfl,Zs,Zs⟩⟩
 |cons K cb ak=>
  obtain⟨key,d⟩:=K
  intro n r a iT Fb kO
  simp only[Jl]at a
  split at a
  ·rename_i FZ l aO os ap9 aL
   split at a
   ·rename_i v jp bg sv bB Z
    simp at a;subst a
    cases iT with
    |nil=>simp at Fb
    |cons bt iT=>
     simp at Fb
     obtain⟨FK,FL⟩:=Fb
     obtain⟨b4,b7,cN,ej⟩:=kO bt (Zu ..)
     rw[FK]at b4 cN
     obtain⟨bh,cl,eM,a3⟩:=iI _ _ _ _ aL _ _ cN ej
     obtain⟨c0,dL,fB,eZ,ef⟩:=ak aO _ Z iT FL (λbt cv=>kO bt (Zr _ cv))
     have bh:n<=aO:=bh
     have c0:aO<=bg:=c0
     refine⟨Zz bh c0, ?_,by simpa using fB,λb=>if b<aO then eM b else eZ b, ?_⟩
     ·intro x ah
      rcases Zy.1 ah with am|am
      ·obtain⟨cD,cp,dF⟩:=cl x am
       exact⟨cD,ZR cp c0,dF⟩
      ·obtain⟨cD,cp,dF⟩:=dL x am
       exact⟨Zz bh cD,cp,dF⟩
     ·intro R af dJ
      obtain⟨dt,dG,hd⟩:=a3 R af (λb Q U=>by
       have E0:b<aO:=U
       have:=dJ b Q (ZR U c0)
       simp only[Zq E0]at this
       exact this)
      obtain⟨cX,cP,eQ⟩:=ef R af (λb Q U=>by
       have tc:¬b<aO:=zq.2 Q
       have:=dJ b (Zz bh Q) U
       simp only[Zg tc]at this
       exact this)
      obtain⟨bV,cw⟩:=asV az b4 ap9 R af
      obtain⟨Kb,ae9⟩:=ayo b7 bB dt dG
      refine⟨?_, ?_, ?_⟩
      ·simp only[ZK,List.zipWith_cons_cons,cX]
       congr 1
       obtain⟨⟨aBV,aBW,aBU⟩,_⟩:=bt
       simp only[lx]at bV Kb ⊢
       rw[<-bV, <-Kb]
      ·intro p az
       rcases Zt.1 az with rfl|az
       ·exact⟨cw,ae9⟩
       ·exact cP p az
      ·intro x ah
       rcases Zy.1 ah with am|am
       ·exact hd x am
       ·exact eQ x am
   ·simp at a
  ·simp at a
def afK{iT:List (MapEntry×((Lit×DataW Unit)×List MemPlace))}:∀(r:List (F×F)) (iT:List (MapEntry×((Lit×DataW Unit)×List MemPlace))),r.length=iT.length->
 (List.zipWith (λ(p:F×F) (bt:MapEntry×((Lit×DataW Unit)×List MemPlace))=>(p.1,p.2,bt.1.born)) r iT).map (λJ=>(J.1,J.2.1))=r:=by
 intro r
 induction r with
 |nil=>intro iT _;simp
 |cons p r ak=>
  intro iT a
  cases iT with
  |nil=>simp at a
  |cons bt iT=>simp[ak iT (by simpa using a)]
def atT{α eO:Type}{f g:α->Option eO}:∀{l:List α},(∀x∈l,f x=g x)->l.mapM f=l.mapM g:=by
 intro l
 induction l with
 |nil=>intro _;rfl
 |cons K l ak=>intro a;simp[Y7,a K Zs,ak λx ah=>a x (by simp[ah])]
def amN{α eO:Type}{f g:α->List eO}:∀{l:List α},(∀x∈l,f x=g x)->l.flatMap f=l.flatMap g:=by
 intro l
 induction l with
 |nil=>intro _;rfl
 |cons K l ak=>intro a;simp[Yu,a K Zs,ak λx ah=>a x (by simp[ah])]
end
end
end Go.bi

namespace Go.bi
noncomputable section
open Go.RowKit (Below)
section
variable{C:aZ}{P:Program}{w:World}
abbrev rd(P:Program)(w:World)(am:Nat):TypeId->List Value->Option (DataW Unit×List MemPlace):=DataW.trod (λ_=>()) P w 0 (λ_=>true) false am
def NN{K:Addr}{B:Nat}(a:0<B):MemPlace.cell K.block K.off∈MemPlace.row K B:=by
 unfold MemPlace.row
 exact ZT.2 ⟨0,by simp[a],Zs⟩
def acX:∀(m am:Nat),Ku C w (w9 P m) (rd P w am):=by
 intro m
 induction m with
 |zero=>intro am t d n r a;simp[w9]at a
 |succ m ak=>
  intro am t d n r a cs dq Z cv
  cases am with
  |zero=>simp[rd,DataW.trod]at Z
  |succ am=>
   have I6:=ak am
   simp only[w9]at a
   split at a
   ·
    rename_i b be
    simp at a;subst a
    match cs with
    |[]=>simp[rd,DataW.trod,be]at Z
    |_::_::_=>simp[rd,DataW.trod,be]at Z
    |[c]=>
     cases c<;>simp[rd,DataW.trod,be]at Z
     obtain⟨rfl,rfl⟩:=Z
     exact .plain λR af=>⟨rfl,trivial,trivial⟩
   ·
    rename_i e4 B i be
    simp at a;subst a
    match cs with
    |[]=>simp[rd,DataW.trod,be]at Z
    |_::_::_=>simp[rd,DataW.trod,be]at Z
    |[c]=>
     cases c<;>simp[rd,DataW.trod,be]at Z
     obtain⟨⟨rfl,_⟩,⟨rfl,rfl⟩,rfl⟩:=Z
     exact .plain λR af=>⟨rfl,trivial,trivial⟩
   ·
    rename_i s be
    simp at a;subst a
    match cs with
    |[]=>simp[rd,DataW.trod,be]at Z
    |_::_::_=>simp[rd,DataW.trod,be]at Z
    |[c]=>
     cases c<;>simp[rd,DataW.trod,be]at Z
     obtain⟨_,rfl,rfl⟩:=Z
     refine .plain λR af=>⟨by simp only[bY,aQ];rw[O9], ?_,trivial⟩
     intro x ah
     simp at ah
     obtain⟨b,_,rfl⟩:=ah
     exact b.toNat_lt
   ·
    rename_i J be
    simp at a;subst a
    match cs with
    |[]=>simp[rd,DataW.trod,be]at Z
    |_::_::_=>simp[rd,DataW.trod,be]at Z
    |[c]=>
     cases c<;>simp[rd,DataW.trod,be]at Z
     rename_i K
     cases K with
     |none=>exact .plain λR af=>⟨rfl,trivial,trivial⟩
     |some K=>simp[Z0]at Z
   ·
    rename_i J d be
    split at a
    ·rename_i l aO os aC
     simp only[e0,Zp,Zf]at a
     obtain⟨⟨Q,U⟩,rfl⟩:=a
     have Q:=Zj Q
     have U:=k4 U
     match cs with
     |[]=>simp[rd,DataW.trod,be]at Z
     |_::_::_=>simp[rd,DataW.trod,be]at Z
     |[c]=>
      cases c<;>simp[rd,DataW.trod,be]at Z
      rename_i Y
      cases Y with
      |none=>simp at Z
      |some K=>
       simp only[Z0,Function.comp,Yn,YL,DataW.ptr.injEq]at Z
       obtain⟨c8,aB,x,ah,rfl,rfl⟩:=Z
       obtain⟨co,ty,aj⟩:=cv K.block K.off (Zy.2 (.inl (NN Zo)))
       obtain⟨b4,b7⟩:=Ph aj aB
       have C9:K.spot=none:=by
        unfold World.cells? at aB
        rw[Zq (zr _)]at aB
        obtain⟨bV,cw⟩:=Dq aB
        have:=cw 0 0 c8[0] (by rw[List.getElem?_range Zo]) (Ze Zo)
        exact(Pf (show w.cell? K=some _ from this)).1
       have yB:=I6 _ _ _ _ aC c8 x.2 ah (cv.of λe H=>Zy.2 (.inr H))
       refine Lays.block ⟨K.block,K.off,0⟩ yB (SQ l) λR af dJ gB hT b5=>⟨Tg aj ?_ b5 U, ?_,gB⟩
       ·simp only
        rw[Q, <-b4,hT]
       ·simp only[aQ,dJ]
        obtain⟨p2,aki,ct⟩:=K
        have C9:ct=none:=C9
        subst C9
        rfl
    ·simp at a
   ·
    rename_i J be
    simp at a;subst a
    match cs with
    |[]=>simp[rd,DataW.trod,be]at Z
    |_::_::_=>simp[rd,DataW.trod,be]at Z
    |[c]=>
     cases c<;>(try(simp[rd,DataW.trod,be]at Z;done))
     rename_i K len cap
     cases K with
     |none=>
      simp only[rd,DataW.trod,be]at Z
      split at Z<;>simp_all
      exact .plain λR af=>⟨rfl,trivial,trivial⟩
     |some K=>
      simp[rd,DataW.trod,be,Z0]at Z
   ·
    rename_i J cb aeF be
    split at a
    ·split at a
     ·rename_i l aO os aC
      simp only[e0,Zf]at a
      obtain⟨U,rfl⟩:=a
      have U:=k4 U
      match cs with
      |[]=>simp[rd,DataW.trod,be]at Z
      |_::_::_=>simp[rd,DataW.trod,be]at Z
      |[c]=>
       cases c<;>(try(simp[rd,DataW.trod,be]at Z;done))
       rename_i Y len cap
       cases Y with
       |none=>
        simp only[rd,DataW.trod,be]at Z
        split at Z<;>simp_all
       |some K=>
        simp only[rd,DataW.trod,be]at Z
        split at Z
        ·rename_i ml
         simp only[Z0,Yn,YL,DataW.slice.injEq,ZD]at Z
         obtain⟨PD,bx,rest,w0,⟨bD,cF⟩,rfl⟩:=Z
         have are:rest=[]:=by simpa using cF
         subst are
         obtain⟨bV,_⟩:=Dq w0
         obtain⟨cw,c4⟩:=Dq bx
         simp at bV cw
         have ib:cap=len:=Zo
         subst ib
         have fD:cb.length=cap:=by rw[<-bD];simp[cw]
         simp only[ZU,ZY,Yz]at cv
         obtain⟨jQ,kA⟩:=acV (C:=C) (w:=w) I6 (J:=J) (g:=λi=>(w.cells? 0 (K.add (i*P.cellsOf J)) (P.cellsOf J)).getD []) cb 0 (n+1) _ aC PD
          (by
           rw[fD, <-List.range_eq_range']
           rw[<-bx]
           have kO:∀i∈List.range cap,(w.cells? 0 (K.add (i*P.cellsOf J)) (P.cellsOf J)).isSome=true:=by
            intro i aJ
            have kP:i<cap:=by simpa using aJ
            have:=c4 i i PD[i] (by simp[kP]) (Ze Zo)
            simp only[Z0]at this
            obtain⟨d7,cD,_⟩:=this
            rw[cD];rfl
           exact atT λi aJ=>by
            have:=kO i aJ
            cases b1:w.cells? 0 (K.add (i*P.cellsOf J)) (P.cellsOf J)with
            |none=>rw[b1]at this;cases this
            |some d7=>simp)
          bD (cv.of λe H=>Zy.2 (.inr H))
         simp only at kA
         have Fw:0<cap*P.cellsOf J:=by rw[<-fD, <-kA];exact U
         obtain⟨co,ty,aj⟩:=cv K.block K.off (Zy.2 (.inl (NN (by rw[cw];exact Fw))))
         have aN:0<P.cellsOf J:=Nat.pos_of_mul_pos_left Fw
         have wG:0<cap:=Nat.pos_of_mul_pos_right Fw
         have ab:∀i,i<cap->∃d7,w.cells? 0 (K.add (i*P.cellsOf J)) (P.cellsOf J)=some d7:=by
          intro i kP
          have:=c4 i i PD[i] (by simp[kP]) (Ze Zo)
          simp only[Z0]at this
          obtain⟨d7,cD,_⟩:=this
          exact⟨d7,cD⟩
         have C9:K.spot=none:=by
          obtain⟨d7,cD⟩:=ab 0 wG
          have mQ:=(Ph (K:=K.add (0*P.cellsOf J)) (by rw[OU];exact aj) cD).2
          unfold World.cells? at cD
          rw[Zq (zr _)]at cD
          obtain⟨_,cw⟩:=Dq cD
          have:=cw 0 0 d7[0] (by rw[List.getElem?_range Zo]) (Ze Zo)
          have b6:(K.add (0*P.cellsOf J)).add 0=K:=by simp[Addr.add]
          rw[b6]at this
          exact(Pf this).1
         have apN:(List.range' 0 cb.length).flatMap (λi=>(w.cells? 0 (K.add (i*P.cellsOf J)) (P.cellsOf J)).getD [])=(co.toList.drop K.off).take (cap*P.cellsOf J):=by
          rw[fD]
          have:∀i∈List.range' 0 cap,(w.cells? 0 (K.add (i*P.cellsOf J)) (P.cellsOf J)).getD []=((co.toList.drop K.off).drop (i*P.cellsOf J)).take (P.cellsOf J):=by
           intro i aJ
           have kP:i<cap:=by simpa using aJ
           obtain⟨d7,cD⟩:=ab i kP
           obtain⟨b4,_⟩:=Ph (K:=K.add (i*P.cellsOf J)) (by rw[OU];exact aj) cD
           rw[cD,YP,b4,Wn,zn]
          rw[amN this,XU,zd,Z2]
         rw[apN]at jQ
         refine Lays.block ⟨K.block,K.off,0⟩ jQ (SQ l) λR af dJ gB hT b5=>⟨Tg aj ?_ b5 U, ?_,gB⟩
         ·simp only
          rw[kA,fD];exact hT
         ·simp only[aQ,dJ,fD]
          obtain⟨p2,aki,ct⟩:=K
          have C9:ct=none:=C9
          subst C9
          rfl
        ·simp at Z
     ·simp at a
    ·simp at a
   ·
    rename_i jv ds be
    split at a
    ·rename_i l aO os aC
     simp only[e0,Zf]at a
     obtain⟨Q,rfl⟩:=a
     have Q:=Zj Q
     have di:rd P w (am+1) t cs=(if cs.length=P.cellsOf t then(jv.toList.mapM λf=>rd P w am f.type ((cs.drop f.offset).take (P.cellsOf f.type))).map λcn=>(.agg (cn.map (·.1)),cn.flatMap (·.2))else none):=by
      simp only[rd]
      rw[DataW.trod_step]
      unfold DataW.trodStep
      rw[be]
     rw[di]at Z
     split at Z
     case isFalse=>cases Z
     rename_i fD
     simp only[Yn,YL,DataW.agg.injEq]at Z
     obtain⟨cn,ah,aM,rfl⟩:=Z
     have:=ati (C:=C) (w:=w) I6 (cs:=cs) jv.toList ds 0 n _ aC cn ah aM cv
     simp only[Z2]at this
     rw[ZC Zo]at this
     exact this
    ·simp at a
   ·
    rename_i B J ds be
    split at a
    ·rename_i l aO os aC
     simp only[e0,Zf]at a
     obtain⟨Q,rfl⟩:=a
     have Q:=Zj Q
     have di:rd P w (am+1) t cs=(if cs.length=P.cellsOf t then((List.range B).mapM λi=>rd P w am J ((cs.drop (i*P.cellsOf J)).take (P.cellsOf J))).map λcn=>(.agg (cn.map (·.1)),cn.flatMap (·.2))else none):=by
      simp only[rd]
      rw[DataW.trod_step]
      unfold DataW.trodStep
      rw[be]
     rw[di]at Z
     split at Z
     case isFalse=>cases Z
     rename_i fD
     simp only[Yn,YL,DataW.agg.injEq]at Z
     obtain⟨cn,ah,aM,rfl⟩:=Z
     have jJ:ds.length=B:=by
      have:=(Dq ah).1
      rw[<-aM];simpa using this
     obtain⟨jQ,kA⟩:=acV (C:=C) (w:=w) I6 (J:=J) (g:=λi=>(cs.drop (i*P.cellsOf J)).take (P.cellsOf J)) ds 0 n _ aC cn (by rw[jJ, <-List.range_eq_range'];exact ah) aM cv
     rw[XU,zd,Z2,ZC (by simp only at kA;omega)]at jQ
     exact jQ
    ·simp at a
   ·
    rename_i J be
    simp at a;subst a
    match cs with
    |[]=>simp[rd,DataW.trod,be]at Z
    |_::_::_=>simp[rd,DataW.trod,be]at Z
    |[c]=>
     cases c<;>simp[rd,DataW.trod,be]at Z
     all_goals first
      |exact .plain λR af=>⟨rfl,trivial,trivial⟩
      |(split at Z<;>simp_all)
   ·
    rename_i B J be
    simp at a;subst a
    match cs with
    |[]=>simp[rd,DataW.trod,be]at Z
    |_::_::_=>simp[rd,DataW.trod,be]at Z
    |[c]=>
     cases c<;>simp[rd,DataW.trod,be]at Z
     rename_i b
     cases b with
     |none=>exact .plain λR af=>⟨rfl,trivial,trivial⟩
     |some b=>
      simp only at Z
      split at Z
      ·split at Z
       ·simp only[Z0]at Z
        obtain⟨dk,_,ar⟩:=Z
        split at ar<;>simp at ar
       ·cases Z
      ·cases Z
   ·
    rename_i B J cb be
    simp only[e0]at a
    obtain⟨az,a⟩:=a
    split at a
    ·rename_i eW aO os aC
     simp at a;subst a
     match cs with
     |[]=>simp[rd,DataW.trod,be]at Z
     |_::_::_=>simp[rd,DataW.trod,be]at Z
     |[c]=>
      cases c<;>(try(simp[rd,DataW.trod,be]at Z;done))
      rename_i b
      cases b with
      |none=>simp[rd,DataW.trod,be]at Z
      |some b=>
       simp only[rd,DataW.trod,be]at Z
       split at Z
       ·rename_i HG eX aj
        split at Z
        ·simp only[Z0]at Z
         obtain⟨dk,bT,Z⟩:=Z
         split at Z
         ·simp only[Zf,YL,DataW.map.injEq]at Z
          obtain⟨aD,rfl⟩:=Z
          obtain⟨bV,cw⟩:=Dq bT
          have aAf:dk.length=HG.toList.length:=bV
          have aoV:(HG.toList.zip dk).map (·.2.1)=dk.map (·.1):=by
           have PB:(λx:MapEntry×((Lit×DataW Unit)×List MemPlace)=>x.2.1)=(λe:(Lit×DataW Unit)×List MemPlace=>e.1)∘Prod.snd:=rfl
           rw[PB, <-YK,List.map_snd_zip Zo]
          obtain⟨iT,aaC,aaD⟩:=adZ (sorted_perm (dk.map (·.1))).symm (HG.toList.zip dk) aoV
          rw[aD]at aaD
          have kO:∀bt∈iT,keyOf P B bt.1.key=some bt.2.1.1/\bt.1.val.formed P J=true/\rd P w am J bt.1.val.cells.toList=some (bt.2.1.2,bt.2.2)/\rA w bt.2.2:=by
           intro bt FK
           have FL:=aaC.mem_iff.1 FK
           obtain⟨i,aJ⟩:=Z1.1 FL
           rw[List.getElem?_zip_eq_some]at aJ
           have:=cw i _ _ aJ.1 aJ.2
           simp only[Z0]at this
           obtain⟨key,cD,cp⟩:=this
           split at cp
           ·rename_i ch
            simp only[Yn]at cp
            obtain⟨e,dF,fL⟩:=cp
            rw[<-fL]
            refine⟨cD,ch,dF,cv.of λp az=> ?_⟩
            refine Zr _ (List.mem_flatMap.2 ⟨bt.2,Zl aJ.2, ?_⟩)
            rw[<-fL];exact az
           ·cases cp
          obtain⟨bh,cl,a0,f,a3⟩:=ath (C:=C) (w:=w) I6 az cb (n+1) _ aC iT aaD kO
          have bh:n+1<=aO:=bh
          refine⟨by simp only;omega, ?_,λx=>if x=n then⟨b,0,0⟩else f x, ?_⟩
          ·intro e H
           rcases Zt.1 H with rfl|H
           ·exact⟨Zi _,by simp only;omega,auO _⟩
           ·obtain⟨cD,cp,dF⟩:=cl e H
            exact⟨Zo,cp,dF⟩
          ·intro R af dJ
           have aL:=dJ n (Zi _) (by simp only;omega)
           simp only[ZD]at aL
           obtain⟨dt,dG,hd⟩:=a3 R af (λx Q U=>by
            have:=dJ x Zo U
            have dD:x≠n:=Zo
            simp only[Zg dD]at this
            exact this)
           refine⟨by simp[bY,aQ,aL.1],⟨aL.2,trivial⟩, ?_⟩
           intro e H
           rcases Zt.1 H with rfl|H
           ·simp only[aL.1]
            have abQ:(iT.map (·.1)).Perm HG.toList:=by
             have:=aaC.map (·.1)
             rwa[List.map_fst_zip Zo]at this
            rw[dt]at abQ
            obtain⟨lR,fA,hx⟩:=adZ abQ _ rfl
            refine⟨HG,eX,lR,aj,hx.symm, ?_, ?_⟩
            ·have:=fA.map (λJ=>(J.1,J.2.1))
             rwa[afK (iT:=iT) _ iT a0]at this
            ·intro x ah
             have qq:=fA.mem_iff.1 ah
             have bp:(x.1,x.2.1)∈eW:=by
              have:=List.mem_map_of_mem (f:=λJ:F×F×Nat=>(J.1,J.2.1)) qq
              rwa[afK (iT:=iT) _ iT a0]at this
             exact dG _ bp
           ·exact hd e H
         ·simp at Z
        ·simp at Z
       ·simp at Z
    ·simp at a
   ·simp at a
end
end
end Go.bi

namespace Go.bi
noncomputable section
open Go.RowKit (Below)
def m1:List (Nat×an)->V an->V an
 |[],M=>M
 |(b,Y)::l,M=>m1 l (M.set b (some Y))
section
variable{C:aZ}{P:Program}{w:World}
def To(b:Nat)(Y:an):∀(l:List (Nat×an)) (M:V an),(m1 l M).get b=some Y->(b,Y)∈l\/M.get b=some Y:=by
 intro l
 induction l with
 |nil=>intro M a;exact .inr a
 |cons x l ak=>
  obtain⟨dP,o'⟩:=x
  intro M a
  rcases ak _ a with a|a
  ·exact .inl (Zr _ a)
  ·rw[V.kc]at a
   by_cases J:dP=b
   ·subst J;simp at a;subst a;exact .inl (Zu ..)
   ·simp[J]at a;exact .inr a
def afc{nm:String}{g:Nat}{cs:Array Value}(b5:P.globalNamed nm=some g)(a:w.var? P nm=some cs):∃ty tD,w.heap[g]? =some (.cells cs ty tD):=by
 unfold World.var? at a
 rw[b5]at a
 simp only[ZF]at a
 split at a
 ·rename_i c ty tD aj
  simp at a;subst a
  exact⟨ty,tD,aj⟩
 ·cases a
def T3(C:aZ)(w:World)(o2 n:Nat)(r:Nat×List (Nat×an)):Prop:=
 n<=r.1/\(∀x∈r.2,(x.1<o2\/n<=x.1)/\(x.1<o2\/x.1<r.1)/\Ee x.2)/\
  ∃f:Nat->mc,∀R af,(∀b,n<=b->b<r.1->R b=f b/\af b)->(∀g,g<o2->R g=⟨g,0,0⟩/\af g)->∀x∈r.2,jT C R af x.2 (R x.1) w
end
end
end Go.bi

namespace Go.bi
noncomputable section
open Go.RowKit (Below)
def xL:List Nat->Bool
 |[]=>true
 |x::s=>Nat.blt x 256&&xL s
def yJ:List Nat->Nat->Nat->Int
 |[],_,_=> .negSucc 0
 |x::s,c,i=>bP (Nat.beq x c) (.ofNat i) (yJ s c (i+1))
def xh(cd:Nat)(f:Nat)(args:List F):Option F:=
 bP (Nat.beq f cd) (match args with
  |[.str s, .int .u8 (.ofNat c)]=>bP (xL s&&Nat.blt c 256) (some (.int .i64 (yJ s c 0))) none
  |_=>none) none
section
variable{C:aZ}{P:Program}{w:World}
def OW:∀{s:List Nat},xL s=true->∀x∈s,x<256:=by
 intro s
 induction s with
 |nil=>intro _ x a;cases a
 |cons K s ak=>
  intro a x ah
  simp only[xL,Zp]at a
  rcases Zt.1 ah with rfl|ah
  ·exact k4 a.1
  ·exact ak a.2 x ah
def ass:∀(s:List Nat) (c i:Nat),(∀x∈s,x<256)->c<256->yJ s c i=(if Lib.indexByte (s.map UInt8.ofNat) (UInt8.ofNat c)= -1 then -1 else Lib.indexByte (s.map UInt8.ofNat) (UInt8.ofNat c)+i):=by
 intro s
 induction s with
 |nil=>intro c i _ _;simp[yJ,Lib.indexByte]
 |cons K s ak=>
  intro c i aD aB
  have aE:=aD K (Zu ..)
  have aJ:=ak c (i+1) (λx ah=>aD x (Zr _ ah)) aB
  simp only[yJ,ZK,Lib.indexByte,hD]
  by_cases J:K=c
  ·subst J;simp
  ·have dD:(UInt8.ofNat K==UInt8.ofNat c)=false:=by
    rw[beq_eq_false_iff_ne]
    intro am
    have:=congrArg UInt8.toNat am
    simp at this
    rw[YI aE,YI aB]at this
    exact J this
   rw[Zg J,aJ,dD]
   have wO:=Lib.indexByte_ge (s.map UInt8.ofNat) (UInt8.ofNat c)
   by_cases am:Lib.indexByte (s.map UInt8.ofNat) (UInt8.ofNat c)= -1
   ·simp[am]
   ·simp only[am,ZA]
    have:¬(Lib.indexByte (s.map UInt8.ofNat) (UInt8.ofNat c)+1= -1):=Zo
    simp[am,this]
    omega
def adL{cd f:Nat}{args:List F}{v:F}(a:xh cd f args=some v):f=cd/\∃s c,args=[.str s, .int .u8 (.ofNat c)]/\v= .int .i64 (yJ s c 0)/\(∀x∈s,x<256)/\c<256:=by
 unfold xh at a
 rw[hD]at a
 split at a
 ·rename_i J
  split at a
  ·rename_i s c
   simp only[e0,Zp,Zf]at a
   exact⟨J,s,c,rfl,a.2.symm,OW a.1.1,k4 a.1.2⟩
  ·simp at a
 ·simp at a
def au3{cd:Nat}{fn:Func}(ch:P.funcs[cd]? =some fn)(aL:(fn.name== "runtime.NumGoroutine")=false)(aj:fn.body=none)(Q:Extern.findNext fn=none)(U:Extern.find fn=some Extern.BytealgIndexByte.indexByte)
 {f:Nat}{args:List F}{v:F}(a:xh cd f args=some v)(R:c6)(w:World):(callFunc f (bY R args).toArray).run P w= .ok (.value (aQ R v)) w:=by
 obtain⟨rfl,s,c,rfl,rfl,aD,aB⟩:=adL a
 have nZ:=Lib.run_indexByteString (P:=P) (fX s) (Int.ofNat c) w
 have J:Lib.indexByte (fX s).data.toList (Int.ofNat c).toNat.toUInt8=yJ s c 0:=by
  rw[ass s c 0 aD aB]
  have:(fX s).data.toList=s.map UInt8.ofNat:=by simp[fX]
  rw[this]
  have wO:=Lib.indexByte_ge (s.map UInt8.ofNat) (UInt8.ofNat c)
  show Lib.indexByte (s.map UInt8.ofNat) (UInt8.ofNat c)=_
  split
  ·rename_i am;exact am
  ·simp
 rw[J]at nZ
 have hT:(bY R [.str s, .int .u8 (.ofNat c)]).toArray= #[.string (fX s), .int .u8 (Int.ofNat c)]:=rfl
 rw[hT]
 have Mq:¬fn.name= "runtime.NumGoroutine":=by simpa using aL
 simp only[callFunc,Sem.run_bind]
 simp[ch,Mq,aj,Q,U,aQ]
 exact congrArg (λr=>Result.andThen r (λK bW=>Result.ok (Next.value K) bW)) nZ
end
end
end Go.bi

namespace Go.bi
noncomputable section
open Go.RowKit (Below)
mutual
def qB:F->Bool
 | .bool _=>true
 | .int _ _=>true
 | .str s=>xL s
 | .cz=>true
 | .aP=>true
 | .lf=>true
 | .nilFunc=>true
 | .nilIface=>true
 | .iface _ v=>qB v
 | .agg l=>BE l
 | .tuple l=>BE l
 |_=>false
def BE:List F->Bool
 |[]=>true
 |v::l=>qB v&&BE l
end
mutual
def NE:∀v,qB v=true->cj (λ_=>False) v
 | .bool _,_=>trivial
 | .int _ _,_=>trivial
 | .str s,a=>OW (by simpa[qB]using a)
 | .cz,_=>trivial
 | .aP,_=>trivial
 | .lf,_=>trivial
 | .nilFunc,_=>trivial
 | .nilIface,_=>trivial
 | .iface _ v,a=>by
   have:=NE v (by simpa[qB]using a)
   simpa[cj]using this
 | .agg l,a=>JJ l (by simpa[qB]using a)
 | .tuple l,a=>JJ l (by simpa[qB]using a)
 | .ptr _ _,a=>by simp[qB]at a
 | .slice ..,a=>by simp[qB]at a
 | .en ..,a=>by simp[qB]at a
 | .map _,a=>by simp[qB]at a
 | .func ..,a=>by simp[qB]at a
def JJ:∀l,BE l=true->es (λ_=>False) l
 |[],_=>trivial
 |v::l,a=>by
  simp only[BE,Zp]at a
  exact⟨NE v a.1,JJ l a.2⟩
end
def ad0{v:F}(a:qB v=true):(∀R ik,aQ R v=aQ ik v)/\∀af,cj af v:=
 ⟨λ_ _=>p4 (λ_ a=>a.elim) (NE v a),λ_=>oE (λ_ a=>a.elim) v (NE v a)⟩
def SY{l:List F}(a:BE l=true):(∀R ik,bY R l=bY ik l)/\∀af,es af l:=
 ⟨λ_ _=>xT (λ_ a=>a.elim) (JJ l a),λ_=>qZ (λ_ a=>a.elim) l (JJ l a)⟩
def ad1{K b:F}(a:NC K b=true):K=b:=by
 unfold NC at a
 split at a
 ·simp only[akN,Y0]at a;rw[a]
 ·simp only[Zp,acK,FO,Zh]at a;rw[a.1,a.2]
 ·rw[(Jy _ _).1 a]
 ·rfl
 ·rfl
 ·rfl
 ·cases a
def avs:∀{K b:List F},DJ K b=true->K=b:=by
 intro K
 induction K with
 |nil=>intro b a;cases b<;>simp[DJ]at a;rfl
 |cons x K ak=>
  intro b a
  cases b with
  |nil=>simp[DJ]at a
  |cons e b=>
   simp only[DJ,Zp]at a
   rw[ad1 a.1,ak a.2]
def Ps(x e:F):Bool:=match x,e with
 | .agg K, .agg b=>DJ K b
 |x,e=>NC x e
def alA{K b:F}(a:Ps K b=true):K=b:=by
 unfold Ps at a
 split at a
 ·rw[avs a]
 ·exact ad1 a
def EN:List F->List F->Bool
 |[],[]=>true
 |K::x,b::e=>Ps K b&&EN x e
 |_,_=>false
def alB:∀{K b:List F},EN K b=true->K=b:=by
 intro K
 induction K with
 |nil=>intro b a;cases b<;>simp[EN]at a;rfl
 |cons x K ak=>
  intro b a
  cases b with
  |nil=>simp[EN]at a
  |cons e b=>
   simp only[EN,Zp]at a
   rw[alA a.1,ak a.2]
def w8(f:Nat)(args:List F):List (Nat×List F×F)->Option F
 |[]=>none
 |(g,ct,v)::l=>bP (Nat.beq f g) (bP (EN args ct) (some v)<|w8 f args l) (w8 f args l)
def acP{f:Nat}{args:List F}{v:F}:∀{l:List (Nat×List F×F)},w8 f args l=some v->(f,args,v)∈l:=by
 intro l
 induction l with
 |nil=>intro a;simp[w8]at a
 |cons x l ak=>
  obtain⟨g,ct,ae⟩:=x
  intro a
  simp only[w8]at a
  rw[fw]at a
  split at a
  ·rename_i am
   rw[fw]at a
   split at a
   ·rename_i cp
    simp at a;subst a
    rw[Zj am,alB cp]
    exact Zu ..
   ·exact Zr _ (ak a)
  ·exact Zr _ (ak a)
def qz(Y:Nat->List F->Option F)(l:List (Nat×List F×F))(f:Nat)(args:List F):Option F:=
 match w8 f args l with|some v=>some v|none=>Y f args
def J5:List (Nat×List F×F)->Bool
 |[]=>true
 |x::l=>(BE x.2.1&&qB x.2.2)&&J5 l
def aeS:∀{l:List (Nat×List F×F)},J5 l=true->∀x∈l,BE x.2.1=true/\qB x.2.2=true:=by
 intro l
 induction l with
 |nil=>intro _ x a;cases a
 |cons K l ak=>
  intro a x ah
  simp only[J5,Zp]at a
  rcases Zt.1 ah with rfl|ah
  ·exact a.1
  ·exact ak a.2 x ah
section
variable{P:Program}{w:World}
def al3{ak:hp}{C:aZ}{f:Nat}{args:List F}{b:Bool}{cs:List gH}{h:V an}{j:Nat}{v:F}(a:nM ak C f args b cs h j=some v):∃fn c,C.P.funcs[f]? =some fn/\fn.body=some c:=by
 unfold nM at a
 split at a
 ·rename_i fn ch
  split at a
  ·rename_i c aB;exact⟨fn,c,ch,aB⟩
  ·simp at a
 ·simp at a
def adN{G:V an}{a8 o2:Nat}{Y:Nat->List F->Option F}{dR:c6}{d3:Nat->Prop}{l:List (Nat×List F×F)}(cG:Env ⟨P,G,a8,Y,o2⟩ w dR d3)(bc:J5 l=true)
 (kO:∀x∈l,∃m,tE ⟨P,G,a8,Y,o2⟩ m x.1 x.2.1=some x.2.2):OA ⟨P,G,a8,qz Y l,o2⟩ w:=by
 refine⟨λf args v bl=> ?_,λf args v bl R pe aj=> ?_⟩
 ·have bl:qz Y l f args=some v:=bl
  unfold qz at bl
  split at bl
  ·rename_i ae be
   simp at bl;subst bl
   obtain⟨Q,U⟩:=aeS bc _ (acP be)
   exact⟨ad0 U,SY Q⟩
  ·exact cG.hc.val f args v bl
 ·have bl:qz Y l f args=some v:=bl
  unfold qz at bl
  split at bl
  ·rename_i ae be
   simp at bl;subst bl
   have bp:=acP be
   obtain⟨Q,U⟩:=aeS bc _ bp
   obtain⟨m,nZ⟩:=kO _ bp
   obtain⟨fn,c,ch,aB⟩:=al3 nZ
   right
   have aL:fn.name≠ "runtime.NumGoroutine":=by simpa using cG.j5.num f fn ch (by simp[aB])
   refine⟨?_, ?_⟩
   ·have qj:P.funcs[f]? =some fn:=ch
    simp[callFunc,qj,aL,aB]
   ·have apJ:=cG.later aj
    have:=awx apJ (f:=f) (args:=args) ((SY Q).2 d3) nZ
    rw[(SY Q).1 R dR]
    exact this.mono λJ bW ⟨⟨ik,bx⟩,jI⟩=>⟨by rw[bx,(ad0 U).1 ik R],jI⟩
  ·exact cG.hc.ok f args v bl R pe aj
end
end
end Go.bi

namespace Go.bi
noncomputable section
open Go.RowKit (Below)
def Hh:List (String×Nat)->String->Option Nat
 |[],_=>none
 |(K,ae)::l,s=>bP (K==s) (some ae) (Hh l s)
def M5(P:Program)(nm:List (String×Nat))(t:Nat)(d:DataW Unit)(n:Nat):v2:=match P.underlying t,d with
 |some (.interface _), .iface s (.ptr k6)=>(match Hh nm s with
  |some ae=>(match P.underlying ae with
   |some (.pointer _)=>(match w9 P 39 ae (.ptr k6) n with
    |some ([x],aO,os)=>some ([.iface ae x],aO,os)
    |_=>none)
   |_=>none)
  |none=>none)
 |_,_=>w9 P 40 t d n
def g1(P:Program)(nm:List (String×Nat)):List (String×DataW Unit)->Nat->Nat×List (Nat×an)
 |[],n=>(n,[])
 |(v,d)::r,n=>match P.globalNamed v with
  |some g=>(match P.globals[g]? with
   |some is=>(match M5 P nm is.type d n with
    |some (l,aO,os)=>bP (Nat.blt 0 l.length) (match g1 P nm r aO with|(bg,sv)=>(bg,(g,GD l)::(os++sv))) (g1 P nm r n)
    |none=>g1 P nm r n)
   |none=>g1 P nm r n)
  |none=>g1 P nm r n
def Ae(P:Program)(nm:List (String×Nat)):Prop:=∀x∈nm,∀ae,P.typeName? 3 ae=some x.1->ae=x.2
section
variable{C:aZ}{P:Program}{w:World}
def akt{s:String}{ae:Nat}:∀{l:List (String×Nat)},Hh l s=some ae->(s,ae)∈l:=by
 intro l
 induction l with
 |nil=>intro a;simp[Hh]at a
 |cons x l ak=>
  obtain⟨K,b⟩:=x
  intro a
  simp only[Hh]at a
  rw[fw]at a
  split at a
  ·rename_i am
   simp at a am;subst a;subst am
   exact Zu ..
  ·exact Zr _ (ak a)
def atj{nm:List (String×Nat)}(iv:Ae P nm){t:Nat}{d:DataW Unit}{n:Nat}{r:List F×Nat×List (Nat×an)}(a:M5 P nm t d n=some r){am:Nat}{cs:List Value}{dq:List MemPlace}(Z:rd P w am t cs=some (d,dq))(cv:rA w dq)
 (fS:∀ae v,cs=[.iface ae v]->Value.okWide P w .any 0 ae v):Lays C w n cs r:=by
 unfold M5 at a
 split at a
 ·rename_i ih s k6 aJ
  split at a
  ·rename_i ae be
   split at a
   ·rename_i J az
    split at a
    ·rename_i x aO os aC
     simp at a;subst a
     obtain⟨eM,sI,v,rfl,aL,Q⟩:=iface_of_trod aJ Z
     obtain rfl:=iv _ (akt be) sI aL
     obtain⟨eZ,K,c8,S2,bB,_,_,_⟩:=ptr_of_trod az Q
     have ok:=fS _ _ rfl
     have tn:v= .pointer (some K):=by
      unfold Value.okWide at ok
      simp only[az]at ok
      unfold Cell.okWide at ok
      cases v<;>simp[Value.cells,Cell.ok,az]at ok bB
      subst bB
      rfl
     have gr:=acX (C:=C) (w:=w) 39 eM _ _ _ _ aC _ _ Q cv
     obtain⟨bh,cl,f,a3⟩:=gr
     refine⟨bh,cl,f,λR af dJ=> ?_⟩
     obtain⟨dt,dG,hd⟩:=a3 R af dJ
     refine⟨?_,⟨dG.1,trivial⟩,hd⟩
     subst tn
     have J:Value.pointer (some K)=aQ R x:=by
      simp[Value.cells,bY]at dt
      exact dt
     simp only[bY,aQ,J]
    ·simp at a
   ·simp at a
  ·simp at a
 ·exact acX (C:=C) (w:=w) 40 am _ _ _ _ a cs dq Z cv
def acW{nm:List (String×Nat)}(iv:Ae P nm){o2:Nat}:∀(laid:List (String×DataW Unit)) (n:Nat) (dq:List MemPlace),P.globals.size=o2->DataW.LaidVars P w laid dq->rA w dq->
 (∀b off,MemPlace.cell b off∈dq->∀ae v,w.cell? ⟨b,off,none⟩=some (.iface ae v)->Value.okWide P w .any 0 ae v)->T3 C w o2 n (g1 P nm laid n):=by
 intro laid
 induction laid with
 |nil=>
  intro n dq _ _ _ _
  exact⟨Zi _,by simp[g1],λ_=>default,λR af _ _=>by simp[g1]⟩
 |cons K r ak=>
  obtain⟨v0,d⟩:=K
  intro n dq CU gr cv abc
  obtain⟨g,t,cs,fuel,p,am,b5,bc,bB,aM,Z,rfl⟩:=gr
  have acm:rA w am:=cv.of λe H=>Zy.2 (.inr H)
  have abd:∀b off,MemPlace.cell b off∈am->∀ae v,w.cell? ⟨b,off,none⟩=some (.iface ae v)->Value.okWide P w .any 0 ae v:=λb off aj=>abc b off (Zy.2 (.inr aj))
  have skip:g1 P nm ((v0,d)::r) n=g1 P nm r n->T3 C w o2 n (g1 P nm ((v0,d)::r) n):=λJ=>by rw[J];exact ak n am CU Z acm abd
  simp only[Yn]at bc
  obtain⟨is,Ma,rfl⟩:=bc
  have Rc:g<o2:=by rw[<-CU];exact(ZQ.1 Ma).1
  have fS:∀ae v,cs.toList=[.iface ae v]->Value.okWide P w .any 0 ae v:=by
   intro ae v hT
   obtain⟨ty,tD,aj⟩:=afc b5 bB
   have eN:cs.size=1:=by have:=congrArg List.length hT;simpa using this
   refine abc g 0 (Zy.2 (.inl (Zy.2 (.inl (NN (K:=⟨g,0,none⟩) (B:=cs.size) Zo))))) ae v ?_
   have b6:cs[0]? =some (.iface ae v):=by rw[<-ZS,hT];rfl
   simp[World.cell?,aj,b6]
  cases aC:M5 P nm is.type d n with
  |none=>exact skip (by simp[g1,b5,Ma,aC])
  |some eW=>
   obtain⟨l,aO,os⟩:=eW
   by_cases Fw:0<l.length
   ·have bx:g1 P nm ((v0,d)::r) n=((g1 P nm r aO).1,(g,GD l)::(os++(g1 P nm r aO).2)):=by
     have:Nat.blt 0 l.length=true:=by simp[Nat.blt];omega
     simp[g1,b5,Ma,aC,this]
    obtain⟨bh,cl,eM,a3⟩:=atj (C:=C) (w:=w) iv aC (cs:=cs.toList) (dq:=p) aM (cv.of λe H=>Zy.2 (.inl (Zy.2 (.inr H)))) fS
    obtain⟨c0,dL,eZ,ef⟩:=ak aO am CU Z acm abd
    have bh:n<=aO:=bh
    rw[bx]
    refine⟨Zz bh c0, ?_,λb=>if b<aO then eM b else eZ b, ?_⟩
    ·intro x ah
     rcases Zt.1 ah with rfl|ah
     ·exact⟨.inl Rc, .inl Rc,SQ l⟩
     ·rcases Zy.1 ah with am|am
      ·obtain⟨cD,cp,dF⟩:=cl x am
       exact⟨.inr cD, .inr (ZR cp c0),dF⟩
      ·obtain⟨cD,cp,dF⟩:=dL x am
       exact⟨cD.imp id (λa=>Zz bh a),cp,dF⟩
    ·intro R af dJ eS
     obtain⟨dt,dG,hd⟩:=a3 R af (λb Q U=>by
      have E0:b<aO:=U
      have:=dJ b Q (ZR U c0)
      simp only[Zq E0]at this
      exact this)
     have eQ:=ef R af (λb Q U=>by
      have tc:¬b<aO:=zq.2 Q
      have:=dJ b (Zz bh Q) U
      simp only[Zg tc]at this
      exact this) eS
     intro x ah
     rcases Zt.1 ah with rfl|ah
     ·obtain⟨ar7,azt⟩:=eS g Rc
      obtain⟨ty,tD,aj⟩:=afc b5 bB
      have eN:cs.size=l.length:=by
       have:=congrArg List.length dt
       rw[jG]at this
       simpa using this
      obtain⟨f0,e2,jI⟩:=cv g 0 (Zy.2 (.inl (Zy.2 (.inl (NN (K:=⟨g,0,none⟩) (B:=cs.size) Zo)))))
      rw[aj]at jI
      have arf:tD=(0,0):=by
       simp only[Zf,Obj.cells.injEq]at jI
       exact jI.2.2
      rw[arf]at aj
      simp only[ar7]
      refine Tg (pl:=⟨g,0,0⟩) aj ?_ dG Fw
      simp only[Z2]
      rw[ZC (by simp;omega)]
      exact dt
     ·rcases Zy.1 ah with am|am
      ·exact hd x am
      ·exact eQ x am
   ·exact skip (by
     have k9:l.length=0:=Zo
     have:Nat.blt 0 l.length=false:=by rw[k9];rfl
     simp[g1,b5,Ma,aC,this])
def Sm{nm:List (String×Nat)}(iv:Ae P nm){laid:List (String×DataW Unit)}{hc:Nat->List F->Option F}(a:laidMet P laid w):
 ∃R af,dl ⟨P,m1 (g1 P nm laid P.globals.size).2 .nil,(g1 P nm laid P.globals.size).1,hc,P.globals.size⟩ R af .nil (g1 P nm laid P.globals.size).1 w.heap.size w/\
  rB ⟨P,m1 (g1 P nm laid P.globals.size).2 .nil,(g1 P nm laid P.globals.size).1,hc,P.globals.size⟩ R af:=by
 obtain⟨dq,gr,_,k9⟩:=a
 have cv:rA w dq:=λb off aj=>(k9 b off aj).1
 obtain⟨bh,cl,f,a3⟩:=acW (C:=⟨P,m1 (g1 P nm laid P.globals.size).2 .nil,(g1 P nm laid P.globals.size).1,hc,P.globals.size⟩) iv laid P.globals.size dq rfl gr cv (λb off aj=>(k9 b off aj).2)
 generalize aL:g1 P nm laid P.globals.size=r at bh cl a3 ⊢
 obtain⟨a8,os⟩:=r
 simp only at bh cl a3 ⊢
 have Rw:∀b Y,ab ⟨P,m1 os .nil,a8,hc,P.globals.size⟩ .nil b=some Y->(b,Y)∈os/\b<a8:=by
  intro b Y bl
  unfold ab at bl
  rw[fw]at bl
  split at bl
  ·rename_i aj
   rcases To b Y os .nil bl with am|am
   ·exact⟨am,k4 aj⟩
   ·simp at am
  ·simp at bl
 refine⟨λb=>if b<P.globals.size then⟨b,0,0⟩else f b,λb=>b<a8,⟨Zi _,λ_ a=>a,λb Y bl=>(Rw b Y bl).2, ?_, ?_, ?_, ?_⟩, ?_⟩
 ·intro b Y bl _
  have:=a3 (λb=>if b<P.globals.size then⟨b,0,0⟩else f b) (λb=>b<a8) (λb Q U=>⟨by rw[Zg Zo],U⟩) (λg b5=>⟨by rw[Zq b5],Zo⟩) (b,Y) (Rw b Y bl).1
  exact this
 ·intro b dP Y o' _ _ d _ _ aj
  exact absurd d (zq.2 aj)
 ·intro b Y aj _ d
  exact absurd d (zq.2 aj)
 ·intro b Y bl _
  exact(cl (b,Y) (Rw b Y bl).1).2.2 _ _
 ·intro g b5
  have b5:g<P.globals.size:=b5
  exact⟨Zo,by simp[b5],by simp[b5]⟩
def Env.ata{nm:List (String×Nat)}(iv:Ae P nm){laid:List (String×DataW Unit)}{cd:Nat}{fn:Func}(j5:xG P)(ch:P.funcs[cd]? =some fn)(aL:(fn.name== "runtime.NumGoroutine")=false)(aj:fn.body=none)(Q:Extern.findNext fn=none)
 (U:Extern.find fn=some Extern.BytealgIndexByte.indexByte)(a:laidMet P laid w):
 ∃R af,Env ⟨P,m1 (g1 P nm laid P.globals.size).2 .nil,(g1 P nm laid P.globals.size).1,xh cd,P.globals.size⟩ w R af:=by
 obtain⟨R,af,ar,aK⟩:=Sm (hc:=xh cd) iv a
 refine⟨R,af,j5,⟨λf args v bl=> ?_,λf args v bl R w _=> .inl (au3 ch aL aj Q U bl R w)⟩,ar,aK⟩
 obtain⟨rfl,s,c,rfl,rfl,aD,aB⟩:=adL bl
 exact⟨⟨λ_ _=>rfl,λ_=>trivial⟩,λ_ _=>rfl,λ_=>⟨aD,trivial,trivial⟩⟩
end
end
end Go.bi

