/- A part of the proof of the claim's last text: what it is used for is said there; no condition of its own. -/
import Derived.Test.YtpfajohmofnkfaaGreatDoorYh
import Derived.Lib.Bytealg
import Derived.LaidLaws
set_option maxHeartbeats 8000000
set_option linter.unusedVariables false
set_option linter.unusedSimpArgs false
namespace Go.al
noncomputable section
open Go.RowKit (Below)
section
variable{C:aX}{P:Program}{w:World}
abbrev rd(P:Program)(w:World)(ar:Nat):TypeId->List Value->Option (DataW Unit×List MemPlace):=DataW.trod (λ_=>()) P w 0 (λ_=>true) false ar
theorem Mi{I:Addr}{B:Nat}(a:0<B):MemPlace.cell I.block I.off∈MemPlace.row I B:=by
 unfold MemPlace.row
 exact ZD.2 ⟨0,by simp[a],Zs⟩
theorem aas:∀(m ar:Nat),I9 C w (wa P m) (rd P w ar):=by
 intro m
 induction m with
 |zero=>intro ar t d n r a;simp[wa]at a
 |succ m ah=>
  intro ar t d n r a cs c8 S cj
  cases ar with
  |zero=>simp[rd,DataW.trod]at S
  |succ ar=>
   have HP:=ah ar
   simp only[wa]at a
   split at a
   ·
    rename_i b aZ
    simp at a;subst a
    match cs with
    |[]=>simp[rd,DataW.trod,aZ]at S
    |_::_::_=>simp[rd,DataW.trod,aZ]at S
    |[c]=>
     cases c<;>simp[rd,DataW.trod,aZ]at S
     obtain⟨rfl,rfl⟩:=S
     exact .plain λK Z=>⟨rfl,trivial,trivial⟩
   ·
    rename_i eA B i aZ
    simp at a;subst a
    match cs with
    |[]=>simp[rd,DataW.trod,aZ]at S
    |_::_::_=>simp[rd,DataW.trod,aZ]at S
    |[c]=>
     cases c<;>simp[rd,DataW.trod,aZ]at S
     obtain⟨⟨rfl,_⟩,⟨rfl,rfl⟩,rfl⟩:=S
     exact .plain λK Z=>⟨rfl,trivial,trivial⟩
   ·
    rename_i s aZ
    simp at a;subst a
    match cs with
    |[]=>simp[rd,DataW.trod,aZ]at S
    |_::_::_=>simp[rd,DataW.trod,aZ]at S
    |[c]=>
     cases c<;>simp[rd,DataW.trod,aZ]at S
     obtain⟨_,rfl,rfl⟩:=S
     refine .plain λK Z=>⟨by simp only[bI,aD];rw[Nx], ?_,trivial⟩
     intro x ag
     simp at ag
     obtain⟨b,_,rfl⟩:=ag
     exact b.toNat_lt
   ·
    rename_i E aZ
    simp at a;subst a
    match cs with
    |[]=>simp[rd,DataW.trod,aZ]at S
    |_::_::_=>simp[rd,DataW.trod,aZ]at S
    |[c]=>
     cases c<;>simp[rd,DataW.trod,aZ]at S
     rename_i I
     cases I with
     |none=>exact .plain λK Z=>⟨rfl,trivial,trivial⟩
     |some I=>simp[ZV]at S
   ·
    rename_i E d aZ
    split at a
    ·rename_i l aQ os aE
     simp only[d9,Zk,Ze]at a
     obtain⟨⟨M,R⟩,rfl⟩:=a
     have M:=Zi M
     have R:=kd R
     match cs with
     |[]=>simp[rd,DataW.trod,aZ]at S
     |_::_::_=>simp[rd,DataW.trod,aZ]at S
     |[c]=>
      cases c<;>simp[rd,DataW.trod,aZ]at S
      rename_i W
      cases W with
      |none=>simp at S
      |some I=>
       simp only[ZV,Function.comp,Z0,YJ,DataW.ptr.injEq]at S
       obtain⟨cZ,ay,x,ag,rfl,rfl⟩:=S
       obtain⟨bU,ty,ai⟩:=cj I.block I.off (Zw.2 (.inl (Mi Zo)))
       obtain⟨b9,b3⟩:=NF ai ay
       have Cd:I.spot=none:=by
        unfold World.cells? at ay
        rw[Zr (ze _)]at ay
        obtain⟨bN,cg⟩:=Cp ay
        have:=cg 0 0 cZ[0] (by rw[List.getElem?_range Zo]) (Zf Zo)
        exact(ND (show w.cell? I=some _ from this)).1
       have xB:=HP _ _ _ _ aE cZ x.2 ag (cj.of λj T=>Zw.2 (.inr T))
       refine Lays.block ⟨I.block,I.off,0⟩ xB (Q4 l) λK Z dt f5 hM bV=>⟨Rp ai ?_ bV R, ?_,f5⟩
       ·simp only
        rw[M, <-b9,hM]
       ·simp only[aD,dt]
        obtain⟨pn,agJ,cm⟩:=I
        have Cd:cm=none:=Cd
        subst Cd
        rfl
    ·simp at a
   ·
    rename_i E aZ
    simp at a;subst a
    match cs with
    |[]=>simp[rd,DataW.trod,aZ]at S
    |_::_::_=>simp[rd,DataW.trod,aZ]at S
    |[c]=>
     cases c<;>(try(simp[rd,DataW.trod,aZ]at S;done))
     rename_i I len cap
     cases I with
     |none=>
      simp only[rd,DataW.trod,aZ]at S
      split at S<;>simp_all
      exact .plain λK Z=>⟨rfl,trivial,trivial⟩
     |some I=>
      simp[rd,DataW.trod,aZ,ZV]at S
   ·
    rename_i E a2 ab1 aZ
    split at a
    ·split at a
     ·rename_i l aQ os aE
      simp only[d9,Ze]at a
      obtain⟨R,rfl⟩:=a
      have R:=kd R
      match cs with
      |[]=>simp[rd,DataW.trod,aZ]at S
      |_::_::_=>simp[rd,DataW.trod,aZ]at S
      |[c]=>
       cases c<;>(try(simp[rd,DataW.trod,aZ]at S;done))
       rename_i W len cap
       cases W with
       |none=>
        simp only[rd,DataW.trod,aZ]at S
        split at S<;>simp_all
       |some I=>
        simp only[rd,DataW.trod,aZ]at S
        split at S
        ·rename_i l0
         simp only[ZV,Z0,YJ,DataW.slice.injEq,ZB]at S
         obtain⟨N2,aW,rest,B8,⟨bF,cB⟩,rfl⟩:=S
         have amX:rest=[]:=by simpa using cB
         subst amX
         obtain⟨bN,_⟩:=Cp B8
         obtain⟨cg,cH⟩:=Cp aW
         simp at bN cg
         have j4:cap=len:=Zo
         subst j4
         have fj:a2.length=cap:=by rw[<-bF];simp[cg]
         simp only[ZR,ZS,YC]at cj
         obtain⟨iN,kZ⟩:=aaq (C:=C) (w:=w) HP (E:=E) (g:=λi=>(w.cells? 0 (I.add (i*P.cellsOf E)) (P.cellsOf E)).getD []) a2 0 (n+1) _ aE N2
          (by
           rw[fj, <-List.range_eq_range']
           rw[<-aW]
           have hm:∀i∈List.range cap,(w.cells? 0 (I.add (i*P.cellsOf E)) (P.cellsOf E)).isSome=true:=by
            intro i aN
            have kB:i<cap:=by simpa using aN
            have:=cH i i N2[i] (by simp[kB]) (Zf Zo)
            simp only[ZV]at this
            obtain⟨d1,cb,_⟩:=this
            rw[cb];rfl
           exact apl λi aN=>by
            have:=hm i aN
            cases cf:w.cells? 0 (I.add (i*P.cellsOf E)) (P.cellsOf E)with
            |none=>rw[cf]at this;cases this
            |some d1=>simp)
          bF (cj.of λj T=>Zw.2 (.inr T))
         simp only at kZ
         have Eh:0<cap*P.cellsOf E:=by rw[<-fj, <-kZ];exact R
         obtain⟨bU,ty,ai⟩:=cj I.block I.off (Zw.2 (.inl (Mi (by rw[cg];exact Eh))))
         have aP:0<P.cellsOf E:=Nat.pos_of_mul_pos_left Eh
         have vN:0<cap:=Nat.pos_of_mul_pos_right Eh
         have ab:∀i,i<cap->∃d1,w.cells? 0 (I.add (i*P.cellsOf E)) (P.cellsOf E)=some d1:=by
          intro i kB
          have:=cH i i N2[i] (by simp[kB]) (Zf Zo)
          simp only[ZV]at this
          obtain⟨d1,cb,_⟩:=this
          exact⟨d1,cb⟩
         have Cd:I.spot=none:=by
          obtain⟨d1,cb⟩:=ab 0 vN
          have n3:=(NF (I:=I.add (0*P.cellsOf E)) (by rw[Nh];exact ai) cb).2
          unfold World.cells? at cb
          rw[Zr (ze _)]at cb
          obtain⟨_,cg⟩:=Cp cb
          have:=cg 0 0 d1[0] (by rw[List.getElem?_range Zo]) (Zf Zo)
          have ci:(I.add (0*P.cellsOf E)).add 0=I:=by simp[Addr.add]
          rw[ci]at this
          exact(ND this).1
         have alJ:(List.range' 0 a2.length).flatMap (λi=>(w.cells? 0 (I.add (i*P.cellsOf E)) (P.cellsOf E)).getD [])=(bU.toList.drop I.off).take (cap*P.cellsOf E):=by
          rw[fj]
          have:∀i∈List.range' 0 cap,(w.cells? 0 (I.add (i*P.cellsOf E)) (P.cellsOf E)).getD []=((bU.toList.drop I.off).drop (i*P.cellsOf E)).take (P.cellsOf E):=by
           intro i aN
           have kB:i<cap:=by simpa using aN
           obtain⟨d1,cb⟩:=ab i kB
           obtain⟨b9,_⟩:=NF (I:=I.add (i*P.cellsOf E)) (by rw[Nh];exact ai) cb
           rw[cb,Yw,b9,Ul,zs]
          rw[ajk this,VM,zj,Z2]
         rw[alJ]at iN
         refine Lays.block ⟨I.block,I.off,0⟩ iN (Q4 l) λK Z dt f5 hM bV=>⟨Rp ai ?_ bV R, ?_,f5⟩
         ·simp only
          rw[kZ,fj];exact hM
         ·simp only[aD,dt,fj]
          obtain⟨pn,agJ,cm⟩:=I
          have Cd:cm=none:=Cd
          subst Cd
          rfl
        ·simp at S
     ·simp at a
    ·simp at a
   ·
    rename_i mo ds aZ
    split at a
    ·rename_i l aQ os aE
     simp only[d9,Ze]at a
     obtain⟨M,rfl⟩:=a
     have M:=Zi M
     have cV:rd P w (ar+1) t cs=(if cs.length=P.cellsOf t then(mo.toList.mapM λf=>rd P w ar f.type ((cs.drop f.offset).take (P.cellsOf f.type))).map λch=>(.agg (ch.map (·.1)),ch.flatMap (·.2))else none):=by
      simp only[rd]
      rw[DataW.trod_step]
      unfold DataW.trodStep
      rw[aZ]
     rw[cV]at S
     split at S
     case isFalse=>cases S
     rename_i fj
     simp only[Z0,YJ,DataW.agg.injEq]at S
     obtain⟨ch,ag,aI,rfl⟩:=S
     have:=aoJ (C:=C) (w:=w) HP (cs:=cs) mo.toList ds 0 n _ aE ch ag aI cj
     simp only[Z2]at this
     rw[ZN Zo]at this
     exact this
    ·simp at a
   ·
    rename_i B E ds aZ
    split at a
    ·rename_i l aQ os aE
     simp only[d9,Ze]at a
     obtain⟨M,rfl⟩:=a
     have M:=Zi M
     have cV:rd P w (ar+1) t cs=(if cs.length=P.cellsOf t then((List.range B).mapM λi=>rd P w ar E ((cs.drop (i*P.cellsOf E)).take (P.cellsOf E))).map λch=>(.agg (ch.map (·.1)),ch.flatMap (·.2))else none):=by
      simp only[rd]
      rw[DataW.trod_step]
      unfold DataW.trodStep
      rw[aZ]
     rw[cV]at S
     split at S
     case isFalse=>cases S
     rename_i fj
     simp only[Z0,YJ,DataW.agg.injEq]at S
     obtain⟨ch,ag,aI,rfl⟩:=S
     have jA:ds.length=B:=by
      have:=(Cp ag).1
      rw[<-aI];simpa using this
     obtain⟨iN,kZ⟩:=aaq (C:=C) (w:=w) HP (E:=E) (g:=λi=>(cs.drop (i*P.cellsOf E)).take (P.cellsOf E)) ds 0 n _ aE ch (by rw[jA, <-List.range_eq_range'];exact ag) aI cj
     rw[VM,zj,Z2,ZN (by simp only at kZ;omega)]at iN
     exact iN
    ·simp at a
   ·
    rename_i E aZ
    simp at a;subst a
    match cs with
    |[]=>simp[rd,DataW.trod,aZ]at S
    |_::_::_=>simp[rd,DataW.trod,aZ]at S
    |[c]=>
     cases c<;>simp[rd,DataW.trod,aZ]at S
     all_goals first
      |exact .plain λK Z=>⟨rfl,trivial,trivial⟩
      |(split at S<;>simp_all)
   ·
    rename_i B E aZ
    simp at a;subst a
    match cs with
    |[]=>simp[rd,DataW.trod,aZ]at S
    |_::_::_=>simp[rd,DataW.trod,aZ]at S
    |[c]=>
     cases c<;>simp[rd,DataW.trod,aZ]at S
     rename_i b
     cases b with
     |none=>exact .plain λK Z=>⟨rfl,trivial,trivial⟩
     |some b=>
      simp only at S
      split at S
      ·split at S
       ·simp only[ZV]at S
        obtain⟨c7,_,au⟩:=S
        split at au<;>simp at au
       ·cases S
      ·cases S
   ·
    rename_i B E a2 aZ
    simp only[d9]at a
    obtain⟨ax,a⟩:=a
    split at a
    ·rename_i eH aQ os aE
     simp at a;subst a
     match cs with
     |[]=>simp[rd,DataW.trod,aZ]at S
     |_::_::_=>simp[rd,DataW.trod,aZ]at S
     |[c]=>
      cases c<;>(try(simp[rd,DataW.trod,aZ]at S;done))
      rename_i b
      cases b with
      |none=>simp[rd,DataW.trod,aZ]at S
      |some b=>
       simp only[rd,DataW.trod,aZ]at S
       split at S
       ·rename_i Gu cw ai
        split at S
        ·simp only[ZV]at S
         obtain⟨c7,b7,S⟩:=S
         split at S
         ·simp only[Ze,YJ,DataW.map.injEq]at S
          obtain⟨aH,rfl⟩:=S
          obtain⟨bN,cg⟩:=Cp b7
          have auT:c7.length=Gu.toList.length:=bN
          have ak5:(Gu.toList.zip c7).map (·.2.1)=c7.map (·.1):=by
           have NZ:(λx:MapEntry×((Lit×DataW Unit)×List MemPlace)=>x.2.1)=(λj:(Lit×DataW Unit)×List MemPlace=>j.1)∘Prod.snd:=rfl
           rw[NZ, <-YG,List.map_snd_zip Zo]
          obtain⟨jp,WD,WE⟩:=abr (sorted_perm (c7.map (·.1))).symm (Gu.toList.zip c7) ak5
          rw[aH]at WE
          have hm:∀bl∈jp,keyOf P B bl.1.key=some bl.2.1.1/\bl.1.val.formed P E=true/\rd P w ar E bl.1.val.cells.toList=some (bl.2.1.2,bl.2.2)/\q0 w bl.2.2:=by
           intro bl Es
           have Et:=WD.mem_iff.1 Es
           obtain⟨i,aN⟩:=ZW.1 Et
           rw[List.getElem?_zip_eq_some]at aN
           have:=cg i _ _ aN.1 aN.2
           simp only[ZV]at this
           obtain⟨key,cb,b1⟩:=this
           split at b1
           ·rename_i b5
            simp only[Z0]at b1
            obtain⟨j,dT,fc⟩:=b1
            rw[<-fc]
            refine⟨cb,b5,dT,cj.of λp ax=> ?_⟩
            refine Zn _ (List.mem_flatMap.2 ⟨bl.2,Zp aN.2, ?_⟩)
            rw[<-fc];exact ax
           ·cases b1
          obtain⟨be,b2,a0,f,a3⟩:=aoI (C:=C) (w:=w) HP ax a2 (n+1) _ aE jp WE hm
          have be:n+1<=aQ:=be
          refine⟨by simp only;omega, ?_,λx=>if x=n then⟨b,0,0⟩else f x, ?_⟩
          ·intro j T
           rcases Zl.1 T with rfl|T
           ·exact⟨Zj _,by simp only;omega,ap9 _⟩
           ·obtain⟨cb,b1,dT⟩:=b2 j T
            exact⟨Zo,b1,dT⟩
          ·intro K Z dt
           have aS:=dt n (Zj _) (by simp only;omega)
           simp only[ZB]at aS
           obtain⟨dD,d2,gQ⟩:=a3 K Z (λx M R=>by
            have:=dt x Zo R
            have dv:x≠n:=Zo
            simp only[Zg dv]at this
            exact this)
           refine⟨by simp[bI,aD,aS.1],⟨aS.2,trivial⟩, ?_⟩
           intro j T
           rcases Zl.1 T with rfl|T
           ·simp only[aS.1]
            have XO:(jp.map (·.1)).Perm Gu.toList:=by
             have:=WD.map (·.1)
             rwa[List.map_fst_zip Zo]at this
            rw[dD]at XO
            obtain⟨jt,fe,hg⟩:=abr XO _ rfl
            refine⟨Gu,cw,jt,ai,hg.symm, ?_, ?_⟩
            ·have:=fe.map (λE=>(E.1,E.2.1))
             rwa[acP (jp:=jp) _ jp a0]at this
            ·intro x ag
             have pS:=fe.mem_iff.1 ag
             have bi:(x.1,x.2.1)∈eH:=by
              have:=YP (f:=λE:H×H×Nat=>(E.1,E.2.1)) pS
              rwa[acP (jp:=jp) _ jp a0]at this
             exact d2 _ bi
           ·exact gQ j T
         ·simp at S
        ·simp at S
       ·simp at S
    ·simp at a
   ·simp at a
end
end
end Go.al

namespace Go.al
noncomputable section
open Go.RowKit (Below)
def oo:List (Nat×an)->U an->U an
 |[],J=>J
 |(b,W)::l,J=>oo l (J.set b (some W))
section
variable{C:aX}{P:Program}{w:World}
theorem Rw(b:Nat)(W:an):∀(l:List (Nat×an)) (J:U an),(oo l J).get b=some W->(b,W)∈l\/J.get b=some W:=by
 intro l
 induction l with
 |nil=>intro J a;exact .inr a
 |cons x l ah=>
  obtain⟨ea,o'⟩:=x
  intro J a
  rcases ah _ a with a|a
  ·exact .inl (Zn _ a)
  ·rw[U.kf]at a
   by_cases E:ea=b
   ·subst E;simp at a;subst a;exact .inl (Zq ..)
   ·simp[E]at a;exact .inr a
theorem acw{nm:String}{g:Nat}{cs:Array Value}(bV:P.globalNamed nm=some g)(a:w.var? P nm=some cs):∃ty s7,w.heap[g]? =some (.cells cs ty s7):=by
 unfold World.var? at a
 rw[bV]at a
 simp only[ZE]at a
 split at a
 ·rename_i c ty s7 ai
  simp at a;subst a
  exact⟨ty,s7,ai⟩
 ·cases a
def Sp(C:aX)(w:World)(oh n:Nat)(r:Nat×List (Nat×an)):Prop:=
 n<=r.1/\(∀x∈r.2,(x.1<oh\/n<=x.1)/\(x.1<oh\/x.1<r.1)/\Da x.2)/\
  ∃f:Nat->lN,∀K Z,(∀b,n<=b->b<r.1->K b=f b/\Z b)->(∀g,g<oh->K g=⟨g,0,0⟩/\Z g)->∀x∈r.2,jn C K Z x.2 (K x.1) w
end
end
end Go.al

namespace Go.al
noncomputable section
open Go.RowKit (Below)
def wM:List Nat->Bool
 |[]=>true
 |x::s=>Nat.blt x 256&&wM s
def xJ:List Nat->Nat->Nat->Int
 |[],_,_=> .negSucc 0
 |x::s,c,i=>bC (Nat.beq x c) (.ofNat i) (xJ s c (i+1))
def wj(bS:Nat)(f:Nat)(args:List H):Option H:=
 bC (Nat.beq f bS) (match args with
  |[.str s, .int .u8 (.ofNat c)]=>bC (wM s&&Nat.blt c 256) (some (.int .i64 (xJ s c 0))) none
  |_=>none) none
section
variable{C:aX}{P:Program}{w:World}
theorem Nj:∀{s:List Nat},wM s=true->∀x∈s,x<256:=by
 intro s
 induction s with
 |nil=>intro _ x a;cases a
 |cons I s ah=>
  intro a x ag
  simp only[wM,Zk]at a
  rcases Zl.1 ag with rfl|ag
  ·exact kd a.1
  ·exact ah a.2 x ag
theorem an2:∀(s:List Nat) (c i:Nat),(∀x∈s,x<256)->c<256->xJ s c i=(if Lib.indexByte (s.map UInt8.ofNat) (UInt8.ofNat c)= -1 then -1 else Lib.indexByte (s.map UInt8.ofNat) (UInt8.ofNat c)+i):=by
 intro s
 induction s with
 |nil=>intro c i _ _;simp[xJ,Lib.indexByte]
 |cons I s ah=>
  intro c i aH ay
  have aG:=aH I (Zq ..)
  have aN:=ah c (i+1) (λx ag=>aH x (Zn _ ag)) ay
  simp only[xJ,Zy,Lib.indexByte,gX]
  by_cases E:I=c
  ·subst E;simp
  ·have dv:(UInt8.ofNat I==UInt8.ofNat c)=false:=by
    rw[zl]
    intro ar
    have:=congrArg UInt8.toNat ar
    simp at this
    rw[YD aG,YD ay]at this
    exact E this
   rw[Zg E,aN,dv]
   have y0:=Lib.indexByte_ge (s.map UInt8.ofNat) (UInt8.ofNat c)
   by_cases ar:Lib.indexByte (s.map UInt8.ofNat) (UInt8.ofNat c)= -1
   ·simp[ar]
   ·simp only[ar,Zx]
    have:¬(Lib.indexByte (s.map UInt8.ofNat) (UInt8.ofNat c)+1= -1):=Zo
    simp[ar,this]
    omega
theorem abf{bS f:Nat}{args:List H}{v:H}(a:wj bS f args=some v):f=bS/\∃s c,args=[.str s, .int .u8 (.ofNat c)]/\v= .int .i64 (xJ s c 0)/\(∀x∈s,x<256)/\c<256:=by
 unfold wj at a
 rw[gX]at a
 split at a
 ·rename_i E
  split at a
  ·rename_i s c
   simp only[d9,Zk,Ze]at a
   exact⟨E,s,c,rfl,a.2.symm,Nj a.1.1,kd a.1.2⟩
  ·simp at a
 ·simp at a
theorem aqj{bS:Nat}{fn:Func}(b5:P.funcs[bS]? =some fn)(aS:(fn.name== "runtime.NumGoroutine")=false)(ai:fn.body=none)(M:Extern.findNext fn=none)(R:Extern.find fn=some Extern.BytealgIndexByte.indexByte)
 {f:Nat}{args:List H}{v:H}(a:wj bS f args=some v)(K:cY)(w:World):(callFunc f (bI K args).toArray).run P w= .ok (.value (aD K v)) w:=by
 obtain⟨rfl,s,c,rfl,rfl,aH,ay⟩:=abf a
 have nu:=Lib.run_indexByteString (P:=P) (fd s) (Int.ofNat c) w
 have E:Lib.indexByte (fd s).data.toList (Int.ofNat c).toNat.toUInt8=xJ s c 0:=by
  rw[an2 s c 0 aH ay]
  have:(fd s).data.toList=s.map UInt8.ofNat:=by simp[fd]
  rw[this]
  have y0:=Lib.indexByte_ge (s.map UInt8.ofNat) (UInt8.ofNat c)
  show Lib.indexByte (s.map UInt8.ofNat) (UInt8.ofNat c)=_
  split
  ·rename_i ar;exact ar
  ·simp
 rw[E]at nu
 have hM:(bI K [.str s, .int .u8 (.ofNat c)]).toArray= #[.string (fd s), .int .u8 (Int.ofNat c)]:=rfl
 rw[hM]
 have K3:¬fn.name= "runtime.NumGoroutine":=by simpa using aS
 simp only[callFunc,Sem.run_bind]
 simp[b5,K3,ai,M,R,aD]
 exact congrArg (λr=>Result.andThen r (λI bz=>Result.ok (Next.value I) bz)) nu
end
end
end Go.al

namespace Go.al
noncomputable section
open Go.RowKit (Below)
mutual
def p4:H->Bool
 | .bool _=>true
 | .int _ _=>true
 | .str s=>wM s
 | .cI=>true
 | .aU=>true
 | .kH=>true
 | .nilFunc=>true
 | .nilIface=>true
 | .iface _ v=>p4 v
 | .agg l=>AM l
 | .tuple l=>AM l
 |_=>false
def AM:List H->Bool
 |[]=>true
 |v::l=>p4 v&&AM l
end
mutual
theorem L9:∀v,p4 v=true->b0 (λ_=>False) v
 | .bool _,_=>trivial
 | .int _ _,_=>trivial
 | .str s,a=>Nj (by simpa[p4]using a)
 | .cI,_=>trivial
 | .aU,_=>trivial
 | .kH,_=>trivial
 | .nilFunc,_=>trivial
 | .nilIface,_=>trivial
 | .iface _ v,a=>by
   have:=L9 v (by simpa[p4]using a)
   simpa[b0]using this
 | .agg l,a=>Iu l (by simpa[p4]using a)
 | .tuple l,a=>Iu l (by simpa[p4]using a)
 | .ptr _ _,a=>by simp[p4]at a
 | .slice ..,a=>by simp[p4]at a
 | .e5 ..,a=>by simp[p4]at a
 | .map _,a=>by simp[p4]at a
 | .func ..,a=>by simp[p4]at a
theorem Iu:∀l,AM l=true->dW (λ_=>False) l
 |[],_=>trivial
 |v::l,a=>by
  simp only[AM,Zk]at a
  exact⟨L9 v a.1,Iu l a.2⟩
end
theorem abs{v:H}(a:p4 v=true):(∀K ia,aD K v=aD ia v)/\∀Z,b0 Z v:=
 ⟨λ_ _=>pp (λ_ a=>a.elim) (L9 v a),λ_=>nW (λ_ a=>a.elim) v (L9 v a)⟩
theorem Rb{l:List H}(a:AM l=true):(∀K ia,bI K l=bI ia l)/\∀Z,dW Z l:=
 ⟨λ_ _=>wU (λ_ a=>a.elim) (Iu l a),λ_=>qp (λ_ a=>a.elim) l (Iu l a)⟩
theorem abt{I b:H}(a:L7 I b=true):I=b:=by
 unfold L7 at a
 split at a
 ·simp only[ahg,YZ]at a;rw[a]
 ·simp only[Zk,aah,HQ,Zh]at a;rw[a.1,a.2]
 ·rw[(Ii _ _).1 a]
 ·rfl
 ·rfl
 ·rfl
 ·cases a
theorem aqJ:∀{I b:List H},CK I b=true->I=b:=by
 intro I
 induction I with
 |nil=>intro b a;cases b<;>simp[CK]at a;rfl
 |cons x I ah=>
  intro b a
  cases b with
  |nil=>simp[CK]at a
  |cons j b=>
   simp only[CK,Zk]at a
   rw[abt a.1,ah a.2]
def NQ(x j:H):Bool:=match x,j with
 | .agg I, .agg b=>CK I b
 |x,j=>L7 x j
theorem ahV{I b:H}(a:NQ I b=true):I=b:=by
 unfold NQ at a
 split at a
 ·rw[aqJ a]
 ·exact abt a
def DA:List H->List H->Bool
 |[],[]=>true
 |I::x,b::j=>NQ I b&&DA x j
 |_,_=>false
theorem ahW:∀{I b:List H},DA I b=true->I=b:=by
 intro I
 induction I with
 |nil=>intro b a;cases b<;>simp[DA]at a;rfl
 |cons x I ah=>
  intro b a
  cases b with
  |nil=>simp[DA]at a
  |cons j b=>
   simp only[DA,Zk]at a
   rw[ahV a.1,ah a.2]
def xN(f:Nat)(args:List H):List (Nat×List H×H)->Option H
 |[]=>none
 |(g,cm,v)::l=>bC (Nat.beq f g) (bC (DA args cm) (some v)<|xN f args l) (xN f args l)
theorem aal{f:Nat}{args:List H}{v:H}:∀{l:List (Nat×List H×H)},xN f args l=some v->(f,args,v)∈l:=by
 intro l
 induction l with
 |nil=>intro a;simp[xN]at a
 |cons x l ah=>
  obtain⟨g,cm,ad⟩:=x
  intro a
  simp only[xN]at a
  rw[fB]at a
  split at a
  ·rename_i ar
   rw[fB]at a
   split at a
   ·rename_i b1
    simp at a;subst a
    rw[Zi ar,ahW b1]
    exact Zq ..
   ·exact Zn _ (ah a)
  ·exact Zn _ (ah a)
def wk(W:Nat->List H->Option H)(l:List (Nat×List H×H))(f:Nat)(args:List H):Option H:=
 match xN f args l with|some v=>some v|none=>W f args
def Mw:List (Nat×List H×H)->Bool
 |[]=>true
 |x::l=>(AM x.2.1&&p4 x.2.2)&&Mw l
theorem ace:∀{l:List (Nat×List H×H)},Mw l=true->∀x∈l,AM x.2.1=true/\p4 x.2.2=true:=by
 intro l
 induction l with
 |nil=>intro _ x a;cases a
 |cons I l ah=>
  intro a x ag
  simp only[Mw,Zk]at a
  rcases Zl.1 ag with rfl|ag
  ·exact a.1
  ·exact ah a.2 x ag
section
variable{P:Program}{w:World}
theorem ais{ah:g4}{C:aX}{f:Nat}{args:List H}{b:Bool}{cs:List gi}{h:U an}{k:Nat}{v:H}(a:nj ah C f args b cs h k=some v):∃fn c,C.P.funcs[f]? =some fn/\fn.body=some c:=by
 unfold nj at a
 split at a
 ·rename_i fn b5
  split at a
  ·rename_i c ay;exact⟨fn,c,b5,ay⟩
  ·simp at a
 ·simp at a
theorem aqk{G:U an}{bj oh:Nat}{W:Nat->List H->Option H}{dB:cY}{dU:Nat->Prop}{l:List (Nat×List H×H)}(cF:Env ⟨P,G,bj,W,oh⟩ w dB dU)(aT:Mw l=true)
 (hm:∀x∈l,∃m,Mj ⟨P,G,bj,W,oh⟩ m x.1 x.2.1=some x.2.2):M2 ⟨P,G,bj,wk W l,oh⟩ w:=by
 refine⟨λf args v bc=> ?_,λf args v bc K r4 ai=> ?_⟩
 ·have bc:wk W l f args=some v:=bc
  unfold wk at bc
  split at bc
  ·rename_i ad aZ
   simp at bc;subst bc
   obtain⟨M,R⟩:=ace aT _ (aal aZ)
   exact⟨abs R,Rb M⟩
  ·exact cF.hf.val f args v bc
 ·have bc:wk W l f args=some v:=bc
  unfold wk at bc
  split at bc
  ·rename_i ad aZ
   simp at bc;subst bc
   have bi:=aal aZ
   obtain⟨M,R⟩:=ace aT _ bi
   obtain⟨m,nu⟩:=hm _ bi
   obtain⟨fn,c,b5,ay⟩:=ais nu
   right
   have aS:fn.name≠ "runtime.NumGoroutine":=by simpa using cF.j9.num f fn b5 (by simp[ay])
   refine⟨?_, ?_⟩
   ·have pE:P.funcs[f]? =some fn:=b5
    simp[callFunc,pE,aS,ay]
   ·have alG:=cF.later ai
    have:=arI alG (f:=f) (args:=args) ((Rb M).2 dU) nu
    rw[(Rb M).1 K dB]
    exact this.mono λE bz ⟨⟨ia,aW⟩,hK⟩=>⟨by rw[aW,(abs R).1 ia K],hK⟩
  ·exact cF.hf.ok f args v bc K r4 ai
end
end
end Go.al

namespace Go.al
noncomputable section
open Go.RowKit (Below)
def F5:List (String×Nat)->String->Option Nat
 |[],_=>none
 |(I,ad)::l,s=>bC (I==s) (some ad) (F5 l s)
def Lz(P:Program)(nm:List (String×Nat))(t:Nat)(d:DataW Unit)(n:Nat):vh:=match P.underlying t,d with
 |some (.interface _), .iface s (.ptr kS)=>(match F5 nm s with
  |some ad=>(match P.underlying ad with
   |some (.pointer _)=>(match wa P 39 ad (.ptr kS) n with
    |some ([x],aQ,os)=>some ([.iface ad x],aQ,os)
    |_=>none)
   |_=>none)
  |none=>none)
 |_,_=>wa P 40 t d n
def hy(P:Program)(nm:List (String×Nat)):List (String×DataW Unit)->Nat->Nat×List (Nat×an)
 |[],n=>(n,[])
 |(v,d)::r,n=>match P.globalNamed v with
  |some g=>(match P.globals[g]? with
   |some ig=>(match Lz P nm ig.type d n with
    |some (l,aQ,os)=>bC (Nat.blt 0 l.length) (match hy P nm r aQ with|(bp,rT)=>(bp,(g,Fi l)::(os++rT))) (hy P nm r n)
    |none=>hy P nm r n)
   |none=>hy P nm r n)
  |none=>hy P nm r n
def A5(P:Program)(nm:List (String×Nat)):Prop:=∀x∈nm,∀ad,P.typeName? 3 ad=some x.1->ad=x.2
section
variable{C:aX}{P:Program}{w:World}
theorem agW{s:String}{ad:Nat}:∀{l:List (String×Nat)},F5 l s=some ad->(s,ad)∈l:=by
 intro l
 induction l with
 |nil=>intro a;simp[F5]at a
 |cons x l ah=>
  obtain⟨I,b⟩:=x
  intro a
  simp only[F5]at a
  rw[fB]at a
  split at a
  ·rename_i ar
   simp at a ar;subst a;subst ar
   exact Zq ..
  ·exact Zn _ (ah a)
theorem aoK{nm:List (String×Nat)}(jg:A5 P nm){t:Nat}{d:DataW Unit}{n:Nat}{r:List H×Nat×List (Nat×an)}(a:Lz P nm t d n=some r){ar:Nat}{cs:List Value}{c8:List MemPlace}(S:rd P w ar t cs=some (d,c8))(cj:q0 w c8)
 (dg:∀ad v,cs=[.iface ad v]->Value.okWide P w .any 0 ad v):Lays C w n cs r:=by
 unfold Lz at a
 split at a
 ·rename_i h7 s kS aN
  split at a
  ·rename_i ad aZ
   split at a
   ·rename_i E ax
    split at a
    ·rename_i x aQ os aE
     simp at a;subst a
     obtain⟨ez,r2,v,rfl,aS,M⟩:=iface_of_trod aN S
     obtain rfl:=jg _ (agW aZ) r2 aS
     obtain⟨eT,I,cZ,Fb,bu,_,_,_⟩:=ptr_of_trod ax M
     have ok:=dg _ _ rfl
     have xD:v= .pointer (some I):=by
      unfold Value.okWide at ok
      simp only[ax]at ok
      unfold Cell.okWide at ok
      cases v<;>simp[Value.cells,Cell.ok,ax]at ok bu
      subst bu
      rfl
     have gz:=aas (C:=C) (w:=w) 39 ez _ _ _ _ aE _ _ M cj
     obtain⟨be,b2,f,a3⟩:=gz
     refine⟨be,b2,f,λK Z dt=> ?_⟩
     obtain⟨dD,d2,gQ⟩:=a3 K Z dt
     refine⟨?_,⟨d2.1,trivial⟩,gQ⟩
     subst xD
     have E:Value.pointer (some I)=aD K x:=by
      simp[Value.cells,bI]at dD
      exact dD
     simp only[bI,aD,E]
    ·simp at a
   ·simp at a
  ·simp at a
 ·exact aas (C:=C) (w:=w) 40 ar _ _ _ _ a cs c8 S cj
theorem aar{nm:List (String×Nat)}(jg:A5 P nm){oh:Nat}:∀(laid:List (String×DataW Unit)) (n:Nat) (c8:List MemPlace),P.globals.size=oh->DataW.LaidVars P w laid c8->q0 w c8->
 (∀b off,MemPlace.cell b off∈c8->∀ad v,w.cell? ⟨b,off,none⟩=some (.iface ad v)->Value.okWide P w .any 0 ad v)->Sp C w oh n (hy P nm laid n):=by
 intro laid
 induction laid with
 |nil=>
  intro n c8 _ _ _ _
  exact⟨Zj _,by simp[hy],λ_=>default,λK Z _ _=>by simp[hy]⟩
 |cons I r ah=>
  obtain⟨v0,d⟩:=I
  intro n c8 Hq gz cj Xb
  obtain⟨g,t,cs,fuel,p,ar,bV,aT,bu,aI,S,rfl⟩:=gz
  have θ:q0 w ar:=cj.of λj T=>Zw.2 (.inr T)
  have Xc:∀b off,MemPlace.cell b off∈ar->∀ad v,w.cell? ⟨b,off,none⟩=some (.iface ad v)->Value.okWide P w .any 0 ad v:=λb off ai=>Xb b off (Zw.2 (.inr ai))
  have skip:hy P nm ((v0,d)::r) n=hy P nm r n->Sp C w oh n (hy P nm ((v0,d)::r) n):=λE=>by rw[E];exact ah n ar Hq S θ Xc
  simp only[Z0]at aT
  obtain⟨ig,KN,rfl⟩:=aT
  have Pk:g<oh:=by rw[<-Hq];exact(ZK.1 KN).1
  have dg:∀ad v,cs.toList=[.iface ad v]->Value.okWide P w .any 0 ad v:=by
   intro ad v hM
   obtain⟨ty,s7,ai⟩:=acw bV bu
   have eg:cs.size=1:=by have:=congrArg List.length hM;simpa using this
   refine Xb g 0 (Zw.2 (.inl (Zw.2 (.inl (Mi (I:=⟨g,0,none⟩) (B:=cs.size) Zo))))) ad v ?_
   have ci:cs[0]? =some (.iface ad v):=by rw[<-ZM,hM];rfl
   simp[World.cell?,ai,ci]
  cases aE:Lz P nm ig.type d n with
  |none=>exact skip (by simp[hy,bV,KN,aE])
  |some eH=>
   obtain⟨l,aQ,os⟩:=eH
   by_cases Eh:0<l.length
   ·have aW:hy P nm ((v0,d)::r) n=((hy P nm r aQ).1,(g,Fi l)::(os++(hy P nm r aQ).2)):=by
     have:Nat.blt 0 l.length=true:=by simp[Nat.blt];omega
     simp[hy,bV,KN,aE,this]
    obtain⟨be,b2,ez,a3⟩:=aoK (C:=C) (w:=w) jg aE (cs:=cs.toList) (c8:=p) aI (cj.of λj T=>Zw.2 (.inl (Zw.2 (.inr T)))) dg
    obtain⟨dr,eu,eT,eI⟩:=ah aQ ar Hq S θ Xc
    have be:n<=aQ:=be
    rw[aW]
    refine⟨Zz be dr, ?_,λb=>if b<aQ then ez b else eT b, ?_⟩
    ·intro x ag
     rcases Zl.1 ag with rfl|ag
     ·exact⟨.inl Pk, .inl Pk,Q4 l⟩
     ·rcases Zw.1 ag with ar|ar
      ·obtain⟨cb,b1,dT⟩:=b2 x ar
       exact⟨.inr cb, .inr (ZI b1 dr),dT⟩
      ·obtain⟨cb,b1,dT⟩:=eu x ar
       exact⟨cb.imp id (λa=>Zz be a),b1,dT⟩
    ·intro K Z dt eJ
     obtain⟨dD,d2,gQ⟩:=a3 K Z (λb M R=>by
      have DO:b<aQ:=R
      have:=dt b M (ZI R dr)
      simp only[Zr DO]at this
      exact this)
     have eL:=eI K Z (λb M R=>by
      have sF:¬b<aQ:=zu.2 M
      have:=dt b (Zz be M) R
      simp only[Zg sF]at this
      exact this) eJ
     intro x ag
     rcases Zl.1 ag with rfl|ag
     ·obtain⟨anI,aum⟩:=eJ g Pk
      obtain⟨ty,s7,ai⟩:=acw bV bu
      have eg:cs.size=l.length:=by
       have:=congrArg List.length dD
       rw[jr]at this
       simpa using this
      obtain⟨gx,gV,hK⟩:=cj g 0 (Zw.2 (.inl (Zw.2 (.inl (Mi (I:=⟨g,0,none⟩) (B:=cs.size) Zo)))))
      rw[ai]at hK
      have amY:s7=(0,0):=by
       simp only[Ze,Obj.cells.injEq]at hK
       exact hK.2.2
      rw[amY]at ai
      simp only[anI]
      refine Rp (pl:=⟨g,0,0⟩) ai ?_ d2 Eh
      simp only[Z2]
      rw[ZN (by simp;omega)]
      exact dD
     ·rcases Zw.1 ag with ar|ar
      ·exact gQ x ar
      ·exact eL x ar
   ·exact skip (by
     have kV:l.length=0:=Zo
     have:Nat.blt 0 l.length=false:=by rw[kV];rfl
     simp[hy,bV,KN,aE,this])
theorem aam{nm:List (String×Nat)}(jg:A5 P nm){laid:List (String×DataW Unit)}{hf:Nat->List H->Option H}(a:laidMet P laid w):
 ∃K Z,cS ⟨P,oo (hy P nm laid P.globals.size).2 .nil,(hy P nm laid P.globals.size).1,hf,P.globals.size⟩ K Z .nil (hy P nm laid P.globals.size).1 w.heap.size w/\
  q1 ⟨P,oo (hy P nm laid P.globals.size).2 .nil,(hy P nm laid P.globals.size).1,hf,P.globals.size⟩ K Z:=by
 obtain⟨c8,gz,_,kV⟩:=a
 have cj:q0 w c8:=λb off ai=>(kV b off ai).1
 obtain⟨be,b2,f,a3⟩:=aar (C:=⟨P,oo (hy P nm laid P.globals.size).2 .nil,(hy P nm laid P.globals.size).1,hf,P.globals.size⟩) jg laid P.globals.size c8 rfl gz cj (λb off ai=>(kV b off ai).2)
 generalize aS:hy P nm laid P.globals.size=r at be b2 a3 ⊢
 obtain⟨bj,os⟩:=r
 simp only at be b2 a3 ⊢
 have PE:∀b W,ab ⟨P,oo os .nil,bj,hf,P.globals.size⟩ .nil b=some W->(b,W)∈os/\b<bj:=by
  intro b W bc
  unfold ab at bc
  rw[fB]at bc
  split at bc
  ·rename_i ai
   rcases Rw b W os .nil bc with ar|ar
   ·exact⟨ar,kd ai⟩
   ·simp at ar
  ·simp at bc
 refine⟨λb=>if b<P.globals.size then⟨b,0,0⟩else f b,λb=>b<bj,⟨Zj _,λ_ a=>a,λb W bc=>(PE b W bc).2, ?_, ?_, ?_, ?_⟩, ?_⟩
 ·intro b W bc _
  have:=a3 (λb=>if b<P.globals.size then⟨b,0,0⟩else f b) (λb=>b<bj) (λb M R=>⟨by rw[Zg Zo],R⟩) (λg bV=>⟨by rw[Zr bV],Zo⟩) (b,W) (PE b W bc).1
  exact this
 ·intro b ea W o' _ _ d _ _ ai
  exact absurd d (zu.2 ai)
 ·intro b W ai _ d
  exact absurd d (zu.2 ai)
 ·intro b W bc _
  exact(b2 (b,W) (PE b W bc).1).2.2 _ _
 ·intro g bV
  have bV:g<P.globals.size:=bV
  exact⟨Zo,by simp[bV],by simp[bV]⟩
theorem Env.aoA{nm:List (String×Nat)}(jg:A5 P nm){laid:List (String×DataW Unit)}{bS:Nat}{fn:Func}(j9:wI P)(b5:P.funcs[bS]? =some fn)(aS:(fn.name== "runtime.NumGoroutine")=false)(ai:fn.body=none)(M:Extern.findNext fn=none)
 (R:Extern.find fn=some Extern.BytealgIndexByte.indexByte)(a:laidMet P laid w):
 ∃K Z,Env ⟨P,oo (hy P nm laid P.globals.size).2 .nil,(hy P nm laid P.globals.size).1,wj bS,P.globals.size⟩ w K Z:=by
 obtain⟨K,Z,au,aM⟩:=aam (hf:=wj bS) jg a
 refine⟨K,Z,j9,⟨λf args v bc=> ?_,λf args v bc K w _=> .inl (aqj b5 aS ai M R bc K w)⟩,au,aM⟩
 obtain⟨rfl,s,c,rfl,rfl,aH,ay⟩:=abf bc
 exact⟨⟨λ_ _=>rfl,λ_=>trivial⟩,λ_ _=>rfl,λ_=>⟨aH,trivial,trivial⟩⟩
end
end
end Go.al

namespace Go.al
noncomputable section
open Go.RowKit (Below)
def wi(bS:Nat)(W:Nat->List H->Option H)(f:Nat)(args:List H):Option H:=
 bC (Nat.beq f bS) (match args with
  |[.str s]=>bC (wM s&&Nat.ble s.length 281474976710656) (some (.str s)) none
  |_=>none) (W f args)
section
variable{P:Program}{w:World}
theorem abe{bS f:Nat}{W:Nat->List H->Option H}{args:List H}{v:H}(a:wi bS W f args=some v):
 (f=bS/\∃s,args=[.str s]/\v= .str s/\(∀x∈s,x<256)/\s.length<=281474976710656)\/W f args=some v:=by
 unfold wi at a
 rw[gX]at a
 split at a
 ·rename_i E
  split at a
  ·rename_i s
   simp only[d9,Zk,Ze]at a
   exact .inl ⟨E,s,rfl,a.2.symm,Nj a.1.1,iT a.1.2⟩
  ·simp at a
 ·exact .inr a
theorem Env.aoz{nm:List (String×Nat)}(jg:A5 P nm){laid:List (String×DataW Unit)}{W:Nat->List H->Option H}{bS:Nat}{fn:Func}{c:Code}(b5:P.funcs[bS]? =some fn)(aS:(fn.name== "runtime.NumGoroutine")=false)(ai:fn.body=some c)
 (akB:∀(s:ByteArray) (w:World),s.size<=281474976710656->Calls P bS #[.string s] w λE bz=>E= .returned (.string s)/\Below w.heap.size w bz)(a:laidMet P laid w){dB:cY}{dU:Nat->Prop}
 (cF:Env ⟨P,oo (hy P nm laid P.globals.size).2 .nil,(hy P nm laid P.globals.size).1,W,P.globals.size⟩ w dB dU):
 ∃K Z,Env ⟨P,oo (hy P nm laid P.globals.size).2 .nil,(hy P nm laid P.globals.size).1,wi bS W,P.globals.size⟩ w K Z:=by
 obtain⟨K,Z,au,aM⟩:=aam (hf:=wi bS W) jg a
 refine⟨K,Z,cF.j9,⟨λf args v bc=> ?_,λf args v bc K r4 oT=> ?_⟩,au,aM⟩
 ·rcases abe bc with ⟨rfl,s,rfl,rfl,aH,_⟩|bc
  ·exact⟨⟨λ_ _=>rfl,λ_=>aH⟩,λ_ _=>rfl,λ_=>⟨aH,trivial⟩⟩
  ·exact cF.hf.val f args v bc
 ·rcases abe bc with ⟨rfl,s,rfl,rfl,aH,aE⟩|bc
  ·right
   have K3:¬fn.name= "runtime.NumGoroutine":=by simpa using aS
   refine⟨by simp[callFunc,b5,K3,ai], ?_⟩
   have:=akB (fd s) r4 (by simpa[fd,ByteArray.size]using aE)
   exact this
  ·exact cF.hf.ok f args v bc K r4 oT
end
end
end Go.al

namespace Go.al
noncomputable section
open Go.RowKit (Below)
def Mo(C:aX):List (Nat×an)->U an->U an
 |[],J=>J
 |(b,W)::l,J=>Mo C l (bm C J b (some W))
def pick(C:aX)(h:U an):List Nat->List (Nat×an)
 |[]=>[]
 |b::l=>match ab C h b with|some W=>(b,W)::pick C h l|none=>pick C h l
def Vl(C:aX):List Nat->Bool
 |[]=>true
 |b::l=>ke C b&&Vl C l
def aoj(C:aX)(L:List Nat)(h:U an):U an:=Mo C (pick C h L) .nil
def aqI(todo:List dy):Bool:=match todo with| .drawn .. ::_=>false|_=>true
def aa6:List gi->Bool
 |[]=>true
 |c::l=>(match c with|⟨_,_,_,_,todo,_,_,_,_⟩=>(match todo with| .yb .. ::_=>false|_=>true))&&aa6 l
def VV(C:aX)(L:List Nat)(b:g4):g4:=λbG todo bS J h k=>match bS with
 |⟨fn,n,ap,a8,aB,ro,cs⟩=>bC (aqI todo&&aa6 cs&&Vl C L) (b bG todo ⟨fn,n,ap,a8,aB,ro,cs⟩ J (aoj C L h) k) none
section
variable{C:aX}{K dB:cY}{Z dU:Nat->Prop}{h V:U an}{k bg:Nat}{w:World}
variable{bk:World}{bt:Nat}{bJ:List Frame}{v:H}{b:g4}
def na(C:aX)(bk:World)(bt:Nat)(bJ:List Frame)(bG:ks)(todo:List dy)(bS:h1)(J:U H)(h:U an)(k:Nat)(v:H):Prop:=
 ∀K Z w cK tmps bs aC,Bb C bk bt bJ bG todo bS.fn bS.n bS.ap bS.a8 bS.aB bS.ro bS.cs J h k K Z w cK tmps bs aC->Ends C bk bt bJ v (lone (cl K bS.fn bS.a8 bS.aB bS.ro tmps bs (gj K bG)) aC w)
open Classical in
def only(xP:ks)(R1:List dy)(es:h1)(vm:U H)(bb:U an)(CB:Nat)(v:H):g4:=λbG todo bS J h k=>
 if bG=xP/\todo=R1/\bS=es/\J=vm/\h=bb/\k=CB then some v else none
end
end
end Go.al

namespace Go.al
noncomputable section
open Go.RowKit (Below)
def low(Z:Nat->Prop)(N:Nat)(b:Nat):Prop:=Z b/\b<N
section
variable{Z:Nat->Prop}{N:Nat}
end
end
end Go.al

namespace Go.al
noncomputable section
open Go.RowKit (Below)
section
variable{C:aX}{K dB:cY}{Z dU:Nat->Prop}{h V:U an}{k bg N:Nat}{w:World}
variable{bk:World}{bt g:Nat}{bJ:List Frame}{v:H}{b:g4}
open Classical in
def fu(C:aX)(bk:World)(bt:Nat)(bJ:List Frame)(v:H):g4:=λbG todo bS J h k=>if na C bk bt bJ bG todo bS J h k v then some v else none
theorem Up:mM C bk bt bJ (fu C bk bt bJ v):=by
 intro bG todo fn n ap a8 aB ro cs J h k ad aZ K Z w cK tmps bs aC cV
 unfold fu at aZ
 split at aZ
 ·rename_i a
  simp at aZ;subst aZ
  exact a K Z w cK tmps bs aC cV
 ·cases aZ
theorem hU{bG:ks}{todo:List dy}{bS:h1}{J:U H}(a:na C bk bt bJ bG todo bS J h k v):fu C bk bt bJ v bG todo bS J h k=some v:=by
 unfold fu
 rw[Zr a]
theorem ajp{dY:dy}{B:List dy}{bS:h1}{J:U H}(aH:H.same 30 v v=true):∀l:List (H×U an),l≠[]->(∀ad V,(ad,V)∈l->∃hc,nV dY ad=some hc/\na C bk bt bJ .run (hc::B) bS J V k v)->
 w5 (fu C bk bt bJ v) dY B bS J k l=some v:=by
 intro l
 induction l with
 |nil=>intro a;exact absurd rfl a
 |cons p l mz=>
  obtain⟨ad,V⟩:=p
  intro _ hm
  obtain⟨hc,M,R⟩:=hm ad V (Zq ..)
  cases l with
  |nil=>simp only[w5,M];exact hU R
  |cons ar l=>
   have ah:=mz Zs (λad V a=>hm ad V (Zn _ a))
   simp only[w5,M,hU R]
   rw[ah]
   simp only[aH,eB]
end
end
end Go.al

