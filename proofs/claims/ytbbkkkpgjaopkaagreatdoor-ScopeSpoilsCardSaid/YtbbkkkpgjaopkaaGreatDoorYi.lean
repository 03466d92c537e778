/- Part of the proof of the last text; no conditions -/
import Derived.Test.YtbbkkkpgjaopkaaGreatDoorYh
import Derived.Lib.Bytealg
import Derived.LaidLaws
set_option maxHeartbeats 8000000
set_option linter.all false
namespace Go.bs
noncomputable section
open Go.RowKit (Below)
section
variable{C:aT}{P:Program}{w:World}
abbrev rd(P:Program)(w:World)(ai:Nat):TypeId->List Value->Option (DataW Unit×List MemPlace):=DataW.trod (λ_=>()) P w 0 (λ_=>true) false ai
def NF{E:Addr}{q:Nat}(a:0<q):MemPlace.cell E.block E.off∈MemPlace.row E q:=by
 unfold MemPlace.row
 exact ZC.2 ⟨0,by simp[a],Zs⟩
def acc:∀(m ai:Nat),Kx C w (we P m) (rd P w ai):=by
 intro m
 induction m with
 |zero=>intro ai t d n r a;simp[we]at a
 |succ m aj=>
  intro ai t d n r a cs da V cf
  cases ai with
  |zero=>simp[rd,DataW.trod]at V
  |succ ai=>
   have I6:=aj ai
   simp only[we]at a
   split at a
   ·
    rename_i b a6
    simp at a;subst a
    match cs with
    |[]=>simp[rd,DataW.trod,a6]at V
    |_::_::_=>simp[rd,DataW.trod,a6]at V
    |[c]=>
     cases c<;>simp[rd,DataW.trod,a6]at V
     obtain⟨rfl,rfl⟩:=V
     exact .plain λJ aa=>⟨rfl,trivial,trivial⟩
   ·
    rename_i ey q i a6
    simp at a;subst a
    match cs with
    |[]=>simp[rd,DataW.trod,a6]at V
    |_::_::_=>simp[rd,DataW.trod,a6]at V
    |[c]=>
     cases c<;>simp[rd,DataW.trod,a6]at V
     obtain⟨⟨rfl,_⟩,⟨rfl,rfl⟩,rfl⟩:=V
     exact .plain λJ aa=>⟨rfl,trivial,trivial⟩
   ·
    rename_i s a6
    simp at a;subst a
    match cs with
    |[]=>simp[rd,DataW.trod,a6]at V
    |_::_::_=>simp[rd,DataW.trod,a6]at V
    |[c]=>
     cases c<;>simp[rd,DataW.trod,a6]at V
     obtain⟨_,rfl,rfl⟩:=V
     refine .plain λJ aa=>⟨by simp only[bO,aO];rw[Pb], ?_,trivial⟩
     intro x af
     simp at af
     obtain⟨b,_,rfl⟩:=af
     exact b.toNat_lt
   ·
    rename_i D a6
    simp at a;subst a
    match cs with
    |[]=>simp[rd,DataW.trod,a6]at V
    |_::_::_=>simp[rd,DataW.trod,a6]at V
    |[c]=>
     cases c<;>simp[rd,DataW.trod,a6]at V
     rename_i E
     cases E with
     |none=>exact .plain λJ aa=>⟨rfl,trivial,trivial⟩
     |some E=>simp[Z2]at V
   ·
    rename_i D d a6
    split at a
    ·rename_i k aM os aB
     simp only[eF,Zq,Zc]at a
     obtain⟨⟨H,K⟩,rfl⟩:=a
     have H:=Zl H
     have K:=j4 K
     match cs with
     |[]=>simp[rd,DataW.trod,a6]at V
     |_::_::_=>simp[rd,DataW.trod,a6]at V
     |[c]=>
      cases c<;>simp[rd,DataW.trod,a6]at V
      rename_i W
      cases W with
      |none=>simp at V
      |some E=>
       simp only[Z2,Function.comp,Yk,YO,DataW.ptr.injEq]at V
       obtain⟨cZ,aA,x,af,rfl,rfl⟩:=V
       obtain⟨cd,ty,al⟩:=cf E.block E.off (Zw.2 (.inl (NF Zo)))
       obtain⟨g1,b5⟩:=Pn al aA
       have Du:E.spot=none:=by
        unfold World.cells? at aA
        rw[Zu (zi _)]at aA
        obtain⟨bS,ck⟩:=DN aA
        have:=ck 0 0 cZ[0] (by rw[List.getElem?_range Zo]) (Zf Zo)
        exact(Pk (show w.cell? E=some _ from this)).1
       have o4:=I6 _ _ _ _ aB cZ x.2 af (cf.of λe B=>Zw.2 (.inr B))
       refine Lays.block ⟨E.block,E.off,0⟩ o4 (SM k) λJ aa dz gf hZ bw=>⟨Tb al ?_ bw K, ?_,gf⟩
       ·simp only
        rw[H, <-g1,hZ]
       ·simp only[aO,dz]
        obtain⟨qd,aiS,ca⟩:=E
        have Du:ca=none:=Du
        subst Du
        rfl
    ·simp at a
   ·
    rename_i D a6
    simp at a;subst a
    match cs with
    |[]=>simp[rd,DataW.trod,a6]at V
    |_::_::_=>simp[rd,DataW.trod,a6]at V
    |[c]=>
     cases c<;>(try(simp[rd,DataW.trod,a6]at V;done))
     rename_i E len cap
     cases E with
     |none=>
      simp only[rd,DataW.trod,a6]at V
      split at V<;>simp_all
      exact .plain λJ aa=>⟨rfl,trivial,trivial⟩
     |some E=>
      simp[rd,DataW.trod,a6,Z2]at V
   ·
    rename_i D ci ad6 a6
    split at a
    ·split at a
     ·rename_i k aM os aB
      simp only[eF,Zc]at a
      obtain⟨K,rfl⟩:=a
      have K:=j4 K
      match cs with
      |[]=>simp[rd,DataW.trod,a6]at V
      |_::_::_=>simp[rd,DataW.trod,a6]at V
      |[c]=>
       cases c<;>(try(simp[rd,DataW.trod,a6]at V;done))
       rename_i W len cap
       cases W with
       |none=>
        simp only[rd,DataW.trod,a6]at V
        split at V<;>simp_all
       |some E=>
        simp only[rd,DataW.trod,a6]at V
        split at V
        ·rename_i mD
         simp only[Z2,Yk,YO,DataW.slice.injEq,ZE]at V
         obtain⟨PK,bt,rest,Ds,⟨bB,cp⟩,rfl⟩:=V
         have apm:rest=[]:=by simpa using cp
         subst apm
         obtain⟨bS,_⟩:=DN Ds
         obtain⟨ck,cM⟩:=DN bt
         simp at bS ck
         have kv:cap=len:=Zo
         subst kv
         have eO:ci.length=cap:=by rw[<-bB];simp[ck]
         simp only[ZY,Z5,Yn]at cf
         obtain⟨kH,lF⟩:=aca (C:=C) (w:=w) I6 (D:=D) (g:=λi=>(w.cells? 0 (E.add (i*P.cellsOf D)) (P.cellsOf D)).getD []) ci 0 (n+1) _ aB PK
          (by
           rw[eO, <-List.range_eq_range']
           rw[<-bt]
           have hA:∀i∈List.range cap,(w.cells? 0 (E.add (i*P.cellsOf D)) (P.cellsOf D)).isSome=true:=by
            intro i aF
            have lg:i<cap:=by simpa using aF
            have:=cM i i PK[i] (by simp[lg]) (Zf Zo)
            simp only[Z2]at this
            obtain⟨d9,cF,_⟩:=this
            rw[cF];rfl
           exact ar1 λi aF=>by
            have:=hA i aF
            cases bG:w.cells? 0 (E.add (i*P.cellsOf D)) (P.cellsOf D)with
            |none=>rw[bG]at this;cases this
            |some d9=>simp)
          bB (cf.of λe B=>Zw.2 (.inr B))
         simp only at lF
         have AJ:0<cap*P.cellsOf D:=by rw[<-eO, <-lF];exact K
         obtain⟨cd,ty,al⟩:=cf E.block E.off (Zw.2 (.inl (NF (by rw[ck];exact AJ))))
         have aG:0<P.cellsOf D:=Nat.pos_of_mul_pos_left AJ
         have pJ:0<cap:=Nat.pos_of_mul_pos_right AJ
         have Z:∀i,i<cap->∃d9,w.cells? 0 (E.add (i*P.cellsOf D)) (P.cellsOf D)=some d9:=by
          intro i lg
          have:=cM i i PK[i] (by simp[lg]) (Zf Zo)
          simp only[Z2]at this
          obtain⟨d9,cF,_⟩:=this
          exact⟨d9,cF⟩
         have Du:E.spot=none:=by
          obtain⟨d9,cF⟩:=Z 0 pJ
          have m9:=(Pn (E:=E.add (0*P.cellsOf D)) (by rw[OY];exact al) cF).2
          unfold World.cells? at cF
          rw[Zu (zi _)]at cF
          obtain⟨_,ck⟩:=DN cF
          have:=ck 0 0 d9[0] (by rw[List.getElem?_range Zo]) (Zf Zo)
          have bi:(E.add (0*P.cellsOf D)).add 0=E:=by simp[Addr.add]
          rw[bi]at this
          exact(Pk this).1
         have an1:(List.range' 0 ci.length).flatMap (λi=>(w.cells? 0 (E.add (i*P.cellsOf D)) (P.cellsOf D)).getD [])=(cd.toList.drop E.off).take (cap*P.cellsOf D):=by
          rw[eO]
          have:∀i∈List.range' 0 cap,(w.cells? 0 (E.add (i*P.cellsOf D)) (P.cellsOf D)).getD []=((cd.toList.drop E.off).drop (i*P.cellsOf D)).take (P.cellsOf D):=by
           intro i aF
           have lg:i<cap:=by simpa using aF
           obtain⟨d9,cF⟩:=Z i lg
           obtain⟨g1,_⟩:=Pn (E:=E.add (i*P.cellsOf D)) (by rw[OY];exact al) cF
           rw[cF,YM,g1,V4,zw]
          rw[alg this,Xs,Y1,Z9]
         rw[an1]at kH
         refine Lays.block ⟨E.block,E.off,0⟩ kH (SM k) λJ aa dz gf hZ bw=>⟨Tb al ?_ bw K, ?_,gf⟩
         ·simp only
          rw[lF,eO];exact hZ
         ·simp only[aO,dz,eO]
          obtain⟨qd,aiS,ca⟩:=E
          have Du:ca=none:=Du
          subst Du
          rfl
        ·simp at V
     ·simp at a
    ·simp at a
   ·
    rename_i j6 ds a6
    split at a
    ·rename_i k aM os aB
     simp only[eF,Zc]at a
     obtain⟨H,rfl⟩:=a
     have H:=Zl H
     have cI:rd P w (ai+1) t cs=(if cs.length=P.cellsOf t then(j6.toList.mapM λf=>rd P w ai f.type ((cs.drop f.offset).take (P.cellsOf f.type))).map λxs=>(.agg (xs.map (·.1)),xs.flatMap (·.2))else none):=by
      simp only[rd]
      rw[DataW.trod_step]
      unfold DataW.trodStep
      rw[a6]
     rw[cI]at V
     split at V
     case isFalse=>cases V
     rename_i eO
     simp only[Yk,YO,DataW.agg.injEq]at V
     obtain⟨xs,af,aH,rfl⟩:=V
     have:=arh (C:=C) (w:=w) I6 (cs:=cs) j6.toList ds 0 n _ aB xs af aH cf
     simp only[Z9]at this
     rw[ZQ Zo]at this
     exact this
    ·simp at a
   ·
    rename_i q D ds a6
    split at a
    ·rename_i k aM os aB
     simp only[eF,Zc]at a
     obtain⟨H,rfl⟩:=a
     have H:=Zl H
     have cI:rd P w (ai+1) t cs=(if cs.length=P.cellsOf t then((List.range q).mapM λi=>rd P w ai D ((cs.drop (i*P.cellsOf D)).take (P.cellsOf D))).map λxs=>(.agg (xs.map (·.1)),xs.flatMap (·.2))else none):=by
      simp only[rd]
      rw[DataW.trod_step]
      unfold DataW.trodStep
      rw[a6]
     rw[cI]at V
     split at V
     case isFalse=>cases V
     rename_i eO
     simp only[Yk,YO,DataW.agg.injEq]at V
     obtain⟨xs,af,aH,rfl⟩:=V
     have jU:ds.length=q:=by
      have:=(DN af).1
      rw[<-aH];simpa using this
     obtain⟨kH,lF⟩:=aca (C:=C) (w:=w) I6 (D:=D) (g:=λi=>(cs.drop (i*P.cellsOf D)).take (P.cellsOf D)) ds 0 n _ aB xs (by rw[jU, <-List.range_eq_range'];exact af) aH cf
     rw[Xs,Y1,Z9,ZQ (by simp only at lF;omega)]at kH
     exact kH
    ·simp at a
   ·
    rename_i D a6
    simp at a;subst a
    match cs with
    |[]=>simp[rd,DataW.trod,a6]at V
    |_::_::_=>simp[rd,DataW.trod,a6]at V
    |[c]=>
     cases c<;>simp[rd,DataW.trod,a6]at V
     all_goals first
      |exact .plain λJ aa=>⟨rfl,trivial,trivial⟩
      |(split at V<;>simp_all)
   ·
    rename_i q D a6
    simp at a;subst a
    match cs with
    |[]=>simp[rd,DataW.trod,a6]at V
    |_::_::_=>simp[rd,DataW.trod,a6]at V
    |[c]=>
     cases c<;>simp[rd,DataW.trod,a6]at V
     rename_i b
     cases b with
     |none=>exact .plain λJ aa=>⟨rfl,trivial,trivial⟩
     |some b=>
      simp only at V
      split at V
      ·split at V
       ·simp only[Z2]at V
        obtain⟨db,_,am⟩:=V
        split at am<;>simp at am
       ·cases V
      ·cases V
   ·
    rename_i q D ci a6
    simp only[eF]at a
    obtain⟨ay,a⟩:=a
    split at a
    ·rename_i eA aM os aB
     simp at a;subst a
     match cs with
     |[]=>simp[rd,DataW.trod,a6]at V
     |_::_::_=>simp[rd,DataW.trod,a6]at V
     |[c]=>
      cases c<;>(try(simp[rd,DataW.trod,a6]at V;done))
      rename_i b
      cases b with
      |none=>simp[rd,DataW.trod,a6]at V
      |some b=>
       simp only[rd,DataW.trod,a6]at V
       split at V
       ·rename_i HK fL al
        split at V
        ·simp only[Z2]at V
         obtain⟨db,bP,V⟩:=V
         split at V
         ·simp only[Zc,YO,DataW.map.injEq]at V
          obtain⟨aE,rfl⟩:=V
          obtain⟨bS,ck⟩:=DN bP
          have axx:db.length=HK.toList.length:=bS
          have anb:(HK.toList.zip db).map (·.2.1)=db.map (·.1):=by
           have EZ:(λx:MapEntry×((Lit×DataW Unit)×List MemPlace)=>x.2.1)=(λe:(Lit×DataW Unit)×List MemPlace=>e.1)∘Prod.snd:=rfl
           rw[EZ, <-YB,List.map_snd_zip Zo]
          obtain⟨ek,θ,ι⟩:=ado (sorted_perm (db.map (·.1))).symm (HK.toList.zip db) anb
          rw[aE]at ι
          have hA:∀bo∈ek,keyOf P q bo.1.key=some bo.2.1.1/\bo.1.val.formed P D=true/\rd P w ai D bo.1.val.cells.toList=some (bo.2.1.2,bo.2.2)/\rM w bo.2.2:=by
           intro bo FT
           have FU:=θ.mem_iff.1 FT
           obtain⟨i,aF⟩:=Z3.1 FU
           rw[List.getElem?_zip_eq_some]at aF
           have:=ck i _ _ aF.1 aF.2
           simp only[Z2]at this
           obtain⟨key,cF,cH⟩:=this
           split at cH
           ·rename_i bW
            simp only[Yk]at cH
            obtain⟨e,d7,fU⟩:=cH
            rw[<-fU]
            refine⟨cF,bW,d7,cf.of λp ay=> ?_⟩
            refine Zn _ (zp.2 ⟨bo.2,Zh aF.2, ?_⟩)
            rw[<-fU];exact ay
           ·cases cH
          obtain⟨a7,b2,a0,f,a3⟩:=arf (C:=C) (w:=w) I6 ay ci (n+1) _ aB ek ι hA
          have a7:n+1<=aM:=a7
          refine⟨by simp only;omega, ?_,λx=>if x=n then⟨b,0,0⟩else f x, ?_⟩
          ·intro e B
           rcases Zr.1 B with rfl|B
           ·exact⟨Zj _,by simp only;omega,asV _⟩
           ·obtain⟨cF,cH,d7⟩:=b2 e B
            exact⟨Zo,cH,d7⟩
          ·intro J aa dz
           have aI:=dz n (Zj _) (by simp only;omega)
           simp only[ZE]at aI
           obtain⟨dl,dx,gD⟩:=a3 J aa (λx H K=>by
            have:=dz x Zo K
            have cE:x≠n:=Zo
            simp only[Zg cE]at this
            exact this)
           refine⟨by simp[bO,aO,aI.1],⟨aI.2,trivial⟩, ?_⟩
           intro e B
           rcases Zr.1 B with rfl|B
           ·simp only[aI.1]
            have aa5:(ek.map (·.1)).Perm HK.toList:=by
             have:=θ.map (·.1)
             rwa[List.map_fst_zip Zo]at this
            rw[dl]at aa5
            obtain⟨me,e3,g9⟩:=ado aa5 _ rfl
            refine⟨HK,fL,me,al,g9.symm, ?_, ?_⟩
            ·have:=e3.map (λD=>(D.1,D.2.1))
             rwa[aeV (ek:=ek) _ ek a0]at this
            ·intro x af
             have qB:=e3.mem_iff.1 af
             have bc:(x.1,x.2.1)∈eA:=by
              have:=List.mem_map_of_mem (f:=λD:y×y×Nat=>(D.1,D.2.1)) qB
              rwa[aeV (ek:=ek) _ ek a0]at this
             exact dx _ bc
           ·exact gD e B
         ·simp at V
        ·simp at V
       ·simp at V
    ·simp at a
   ·simp at a
end
end
noncomputable section
open Go.RowKit (Below)
def nj:List (Nat×ak)->M ak->M ak
 |[],I=>I
 |(b,W)::k,I=>nj k (I.set b (some W))
section
variable{C:aT}{P:Program}{w:World}
def Ti(b:Nat)(W:ak):∀(k:List (Nat×ak)) (I:M ak),(nj k I).get b=some W->(b,W)∈k\/I.get b=some W:=by
 intro k
 induction k with
 |nil=>intro I a;exact .inr a
 |cons x k aj=>
  obtain⟨cQ,o'⟩:=x
  intro I a
  rcases aj _ a with a|a
  ·exact .inl (Zn _ a)
  ·rw[M.j7]at a
   by_cases D:cQ=b
   ·subst D;simp at a;subst a;exact .inl (Zt ..)
   ·simp[D]at a;exact .inr a
def aeB{nm:String}{g:Nat}{cs:Array Value}(bw:P.globalNamed nm=some g)(a:w.var? P nm=some cs):∃ty tT,w.heap[g]? =some (.cells cs ty tT):=by
 unfold World.var? at a
 rw[bw]at a
 simp only[ZM]at a
 split at a
 ·rename_i c ty tT al
  simp at a;subst a
  exact⟨ty,tT,al⟩
 ·cases a
def T3(C:aT)(w:World)(pg n:Nat)(r:Nat×List (Nat×ak)):Prop:=
 n<=r.1/\(∀x∈r.2,(x.1<pg\/n<=x.1)/\(x.1<pg\/x.1<r.1)/\Ev x.2)/\
  ∃f:Nat->mz,∀J aa,(∀b,n<=b->b<r.1->J b=f b/\aa b)->(∀g,g<pg->J g=⟨g,0,0⟩/\aa g)->∀x∈r.2,j3 C J aa x.2 (J x.1) w
end
end
noncomputable section
open Go.RowKit (Below)
def w1:List Nat->Bool
 |[]=>true
 |x::s=>Nat.blt x 256&&w1 s
def x2:List Nat->Nat->Nat->Int
 |[],_,_=> .negSucc 0
 |x::s,c,i=>bH (Nat.beq x c) (.ofNat i) (x2 s c (i+1))
def wq(bX:Nat)(f:Nat)(args:List y):Option y:=
 bH (Nat.beq f bX) (match args with
  |[.str s, .int .u8 (.ofNat c)]=>bH (w1 s&&Nat.blt c 256) (some (.int .i64 (x2 s c 0))) none
  |_=>none) none
section
variable{C:aT}{P:Program}{w:World}
def OZ:∀{s:List Nat},w1 s=true->∀x∈s,x<256:=by
 intro s
 induction s with
 |nil=>intro _ x a;cases a
 |cons E s aj=>
  intro a x af
  simp only[w1,Zq]at a
  rcases Zr.1 af with rfl|af
  ·exact j4 a.1
  ·exact aj a.2 x af
def aqx:∀(s:List Nat) (c i:Nat),(∀x∈s,x<256)->c<256->x2 s c i=(if Lib.indexByte (s.map UInt8.ofNat) (UInt8.ofNat c)= -1 then -1 else Lib.indexByte (s.map UInt8.ofNat) (UInt8.ofNat c)+i):=by
 intro s
 induction s with
 |nil=>intro c i _ _;simp[x2,Lib.indexByte]
 |cons E s aj=>
  intro c i aE aA
  have aD:=aE E (Zt ..)
  have aF:=aj c (i+1) (λx af=>aE x (Zn _ af)) aA
  simp only[x2,ZJ,Lib.indexByte,hn]
  by_cases D:E=c
  ·subst D;simp
  ·have cE:(UInt8.ofNat E==UInt8.ofNat c)=false:=by
    rw[beq_eq_false_iff_ne]
    intro ai
    have:=congrArg UInt8.toNat ai
    simp at this
    rw[Yv aD,Yv aA]at this
    exact D this
   rw[Zg D,aF,cE]
   have vW:=Lib.indexByte_ge (s.map UInt8.ofNat) (UInt8.ofNat c)
   by_cases ai:Lib.indexByte (s.map UInt8.ofNat) (UInt8.ofNat c)= -1
   ·simp[ai]
   ·simp only[ai,ZD]
    have:¬(Lib.indexByte (s.map UInt8.ofNat) (UInt8.ofNat c)+1= -1):=Zo
    simp[ai,this]
    omega
def ac7{bX f:Nat}{args:List y}{v:y}(a:wq bX f args=some v):f=bX/\∃s c,args=[.str s, .int .u8 (.ofNat c)]/\v= .int .i64 (x2 s c 0)/\(∀x∈s,x<256)/\c<256:=by
 unfold wq at a
 rw[hn]at a
 split at a
 ·rename_i D
  split at a
  ·rename_i s c
   simp only[eF,Zq,Zc]at a
   exact⟨D,s,c,rfl,a.2.symm,OZ a.1.1,j4 a.1.2⟩
  ·simp at a
 ·simp at a
def as5{bX:Nat}{fn:Func}(bW:P.funcs[bX]? =some fn)(aI:(fn.name== "runtime.NumGoroutine")=false)(al:fn.body=none)(H:Extern.findNext fn=none)(K:Extern.find fn=some Extern.BytealgIndexByte.indexByte)
 {f:Nat}{args:List y}{v:y}(a:wq bX f args=some v)(J:cU)(w:World):(callFunc f (bO J args).toArray).run P w= .ok (.value (aO J v)) w:=by
 obtain⟨rfl,s,c,rfl,rfl,aE,aA⟩:=ac7 a
 have mJ:=Lib.run_indexByteString (P:=P) (bytesOf s) (Int.ofNat c) w
 have D:Lib.indexByte (bytesOf s).data.toList (Int.ofNat c).toNat.toUInt8=x2 s c 0:=by
  rw[aqx s c 0 aE aA]
  have:(bytesOf s).data.toList=s.map UInt8.ofNat:=by simp[bytesOf]
  rw[this]
  have vW:=Lib.indexByte_ge (s.map UInt8.ofNat) (UInt8.ofNat c)
  show Lib.indexByte (s.map UInt8.ofNat) (UInt8.ofNat c)=_
  split
  ·rename_i ai;exact ai
  ·simp
 rw[D]at mJ
 have hZ:(bO J [.str s, .int .u8 (.ofNat c)]).toArray= #[.string (bytesOf s), .int .u8 (Int.ofNat c)]:=rfl
 rw[hZ]
 have v2:¬fn.name= "runtime.NumGoroutine":=by simpa using aI
 simp only[callFunc,Sem.run_bind]
 simp[bW,v2,al,H,K,aO]
 exact congrArg (λr=>Result.andThen r (λE w'=>Result.ok (Next.value E) w')) mJ
end
end
noncomputable section
open Go.RowKit (Below)
mutual
def p0:y->Bool
 | .bool _=>true
 | .int _ _=>true
 | .str s=>w1 s
 | .cN=>true
 | .aW=>true
 | .ms=>true
 | .nilFunc=>true
 | .nilIface=>true
 | .iface _ v=>p0 v
 | .agg k=>BD k
 | .tuple k=>BD k
 |_=>false
def BD:List y->Bool
 |[]=>true
 |v::k=>p0 v&&BD k
end
mutual
def Nv:∀v,p0 v=true->b7 (λ_=>False) v
 | .bool _,_=>trivial
 | .int _ _,_=>trivial
 | .str s,a=>OZ (by simpa[p0]using a)
 | .cN,_=>trivial
 | .aW,_=>trivial
 | .ms,_=>trivial
 | .nilFunc,_=>trivial
 | .nilIface,_=>trivial
 | .iface _ v,a=>by
   have:=Nv v (by simpa[p0]using a)
   simpa[b7]using this
 | .agg k,a=>JF k (by simpa[p0]using a)
 | .tuple k,a=>JF k (by simpa[p0]using a)
 | .ptr _ _,a=>by simp[p0]at a
 | .slice ..,a=>by simp[p0]at a
 | .ej ..,a=>by simp[p0]at a
 | .wA ..,a=>by simp[p0]at a
 | .map _,a=>by simp[p0]at a
 | .func ..,a=>by simp[p0]at a
def JF:∀k,BD k=true->ea (λ_=>False) k
 |[],_=>trivial
 |v::k,a=>by
  simp only[BD,Zq]at a
  exact⟨Nv v a.1,JF k a.2⟩
end
def adp{v:y}(a:p0 v=true):(∀J ir,aO J v=aO ir v)/\∀aa,b7 aa v:=
 ⟨λ_ _=>qe (λ_ a=>a.elim) (Nv v a),λ_=>oP (λ_ a=>a.elim) v (Nv v a)⟩
def SV{k:List y}(a:BD k=true):(∀J ir,bO J k=bO ir k)/\∀aa,ea aa k:=
 ⟨λ_ _=>xd (λ_ a=>a.elim) (JF k a),λ_=>q2 (λ_ a=>a.elim) k (JF k a)⟩
def adq{E b:y}(a:Nt E b=true):E=b:=by
 unfold Nt at a
 split at a
 ·simp only[ajm,Y2]at a;rw[a]
 ·simp only[Zq,abZ,FX,Zi]at a;rw[a.1,a.2]
 ·rw[(Jw _ _).1 a]
 ·rfl
 ·rfl
 ·rfl
 ·cases a
def atr:∀{E b:List y},D5 E b=true->E=b:=by
 intro E
 induction E with
 |nil=>intro b a;cases b<;>simp[D5]at a;rfl
 |cons x E aj=>
  intro b a
  cases b with
  |nil=>simp[D5]at a
  |cons e b=>
   simp only[D5,Zq]at a
   rw[adq a.1,aj a.2]
def Pz(x e:y):Bool:=match x,e with
 | .agg E, .agg b=>D5 E b
 |x,e=>Nt x e
def aj3{E b:y}(a:Pz E b=true):E=b:=by
 unfold Pz at a
 split at a
 ·rw[atr a]
 ·exact adq a
def EW:List y->List y->Bool
 |[],[]=>true
 |E::x,b::e=>Pz E b&&EW x e
 |_,_=>false
def aj4:∀{E b:List y},EW E b=true->E=b:=by
 intro E
 induction E with
 |nil=>intro b a;cases b<;>simp[EW]at a;rfl
 |cons x E aj=>
  intro b a
  cases b with
  |nil=>simp[EW]at a
  |cons e b=>
   simp only[EW,Zq]at a
   rw[aj3 a.1,aj a.2]
def wd(f:Nat)(args:List y):List (Nat×List y×y)->Option y
 |[]=>none
 |(g,ca,v)::k=>bH (Nat.beq f g) (bH (EW args ca) (some v)<|wd f args k) (wd f args k)
def ab4{f:Nat}{args:List y}{v:y}:∀{k:List (Nat×List y×y)},wd f args k=some v->(f,args,v)∈k:=by
 intro k
 induction k with
 |nil=>intro a;simp[wd]at a
 |cons x k aj=>
  obtain⟨g,ca,ab⟩:=x
  intro a
  simp only[wd]at a
  rw[eQ]at a
  split at a
  ·rename_i ai
   rw[eQ]at a
   split at a
   ·rename_i cH
    simp at a;subst a
    rw[Zl ai,aj4 cH]
    exact Zt ..
   ·exact Zn _ (aj a)
  ·exact Zn _ (aj a)
def qG(W:Nat->List y->Option y)(k:List (Nat×List y×y))(f:Nat)(args:List y):Option y:=
 match wd f args k with|some v=>some v|none=>W f args
def J0:List (Nat×List y×y)->Bool
 |[]=>true
 |x::k=>(BD x.2.1&&p0 x.2.2)&&J0 k
def aej:∀{k:List (Nat×List y×y)},J0 k=true->∀x∈k,BD x.2.1=true/\p0 x.2.2=true:=by
 intro k
 induction k with
 |nil=>intro _ x a;cases a
 |cons E k aj=>
  intro a x af
  simp only[J0,Zq]at a
  rcases Zr.1 af with rfl|af
  ·exact a.1
  ·exact aj a.2 x af
section
variable{P:Program}{w:World}
def akx{aj:hl}{C:aT}{f:Nat}{args:List y}{b:Bool}{cs:List gB}{h:M ak}{j:Nat}{v:y}(a:n4 aj C f args b cs h j=some v):∃fn c,C.P.funcs[f]? =some fn/\fn.body=some c:=by
 unfold n4 at a
 split at a
 ·rename_i fn bW
  split at a
  ·rename_i c aA;exact⟨fn,c,bW,aA⟩
  ·simp at a
 ·simp at a
def ac9{G:M ak}{aY pg:Nat}{W:Nat->List y->Option y}{dB:cU}{dR:Nat->Prop}{k:List (Nat×List y×y)}(cz:Env ⟨P,G,aY,W,pg⟩ w dB dR)(a8:J0 k=true)
 (hA:∀x∈k,∃m,ym ⟨P,G,aY,W,pg⟩ m x.1 x.2.1=some x.2.2):OB ⟨P,G,aY,qG W k,pg⟩ w:=by
 refine⟨λf args v bd=> ?_,λf args v bd J ox al=> ?_⟩
 ·have bd:qG W k f args=some v:=bd
  unfold qG at bd
  split at bd
  ·rename_i ab a6
   simp at bd;subst bd
   obtain⟨H,K⟩:=aej a8 _ (ab4 a6)
   exact⟨adp K,SV H⟩
  ·exact cz.g4.val f args v bd
 ·have bd:qG W k f args=some v:=bd
  unfold qG at bd
  split at bd
  ·rename_i ab a6
   simp at bd;subst bd
   have bc:=ab4 a6
   obtain⟨H,K⟩:=aej a8 _ bc
   obtain⟨m,mJ⟩:=hA _ bc
   obtain⟨fn,c,bW,aA⟩:=akx mJ
   right
   have aI:fn.name≠ "runtime.NumGoroutine":=by simpa using cz.kg.num f fn bW (by simp[aA])
   refine⟨?_, ?_⟩
   ·have qt:P.funcs[f]? =some fn:=bW
    simp[callFunc,qt,aI,aA]
   ·have anV:=cz.later al
    have:=aun anV (f:=f) (args:=args) ((SV H).2 dR) mJ
    rw[(SV H).1 J dB]
    exact this.mono λD w' ⟨⟨ir,bt⟩,jp⟩=>⟨by rw[bt,(adp K).1 ir J],jp⟩
  ·exact cz.g4.ok f args v bd J ox al
end
end
noncomputable section
open Go.RowKit (Below)
def Hn:List (String×Nat)->String->Option Nat
 |[],_=>none
 |(E,ab)::k,s=>bH (E==s) (some ab) (Hn k s)
def MP(P:Program)(nm:List (String×Nat))(t:Nat)(d:DataW Unit)(n:Nat):vn:=match P.underlying t,d with
 |some (.interface _), .iface s (.ptr lx)=>(match Hn nm s with
  |some ab=>(match P.underlying ab with
   |some (.pointer _)=>(match we P 39 ab (.ptr lx) n with
    |some ([x],aM,os)=>some ([.iface ab x],aM,os)
    |_=>none)
   |_=>none)
  |none=>none)
 |_,_=>we P 40 t d n
def gU(P:Program)(nm:List (String×Nat)):List (String×DataW Unit)->Nat->Nat×List (Nat×ak)
 |[],n=>(n,[])
 |(v,d)::r,n=>match P.globalNamed v with
  |some g=>(match P.globals[g]? with
   |some iB=>(match MP P nm iB.type d n with
    |some (k,aM,os)=>bH (Nat.blt 0 k.length) (match gU P nm r aM with|(be,sF)=>(be,(g,Gv k)::(os++sF))) (gU P nm r n)
    |none=>gU P nm r n)
   |none=>gU P nm r n)
  |none=>gU P nm r n
def yJ(P:Program)(nm:List (String×Nat)):Prop:=∀x∈nm,∀ab,P.typeName? 3 ab=some x.1->ab=x.2
section
variable{C:aT}{P:Program}{w:World}
def ai4{s:String}{ab:Nat}:∀{k:List (String×Nat)},Hn k s=some ab->(s,ab)∈k:=by
 intro k
 induction k with
 |nil=>intro a;simp[Hn]at a
 |cons x k aj=>
  obtain⟨E,b⟩:=x
  intro a
  simp only[Hn]at a
  rw[eQ]at a
  split at a
  ·rename_i ai
   simp at a ai;subst a;subst ai
   exact Zt ..
  ·exact Zn _ (aj a)
def ari{nm:List (String×Nat)}(gy:yJ P nm){t:Nat}{d:DataW Unit}{n:Nat}{r:List y×Nat×List (Nat×ak)}(a:MP P nm t d n=some r){ai:Nat}{cs:List Value}{da:List MemPlace}(V:rd P w ai t cs=some (d,da))(cf:rM w da)
 (dE:∀ab v,cs=[.iface ab v]->Value.okWide P w .any 0 ab v):Lays C w n cs r:=by
 unfold MP at a
 split at a
 ·rename_i im s lx aF
  split at a
  ·rename_i ab a6
   split at a
   ·rename_i D ay
    split at a
    ·rename_i x aM os aB
     simp at a;subst a
     obtain⟨ef,sN,v,rfl,aI,H⟩:=iface_of_trod aF V
     obtain rfl:=gy _ (ai4 a6) sN aI
     obtain⟨eX,E,cZ,p2,bu,_,_,_⟩:=ptr_of_trod ay H
     have ok:=dE _ _ rfl
     have xU:v= .pointer (some E):=by
      unfold Value.okWide at ok
      simp only[ay]at ok
      unfold Cell.okWide at ok
      cases v<;>simp[Value.cells,Cell.ok,ay]at ok bu
      subst bu
      rfl
     have dY:=acc (C:=C) (w:=w) 39 ef _ _ _ _ aB _ _ H cf
     obtain⟨a7,b2,f,a3⟩:=dY
     refine⟨a7,b2,f,λJ aa dz=> ?_⟩
     obtain⟨dl,dx,gD⟩:=a3 J aa dz
     refine⟨?_,⟨dx.1,trivial⟩,gD⟩
     subst xU
     have D:Value.pointer (some E)=aO J x:=by
      simp[Value.cells,bO]at dl
      exact dl
     simp only[bO,aO,D]
    ·simp at a
   ·simp at a
  ·simp at a
 ·exact acc (C:=C) (w:=w) 40 ai _ _ _ _ a cs da V cf
def acb{nm:List (String×Nat)}(gy:yJ P nm){pg:Nat}:∀(laid:List (String×DataW Unit)) (n:Nat) (da:List MemPlace),P.globals.size=pg->DataW.LaidVars P w laid da->rM w da->
 (∀b off,MemPlace.cell b off∈da->∀ab v,w.cell? ⟨b,off,none⟩=some (.iface ab v)->Value.okWide P w .any 0 ab v)->T3 C w pg n (gU P nm laid n):=by
 intro laid
 induction laid with
 |nil=>
  intro n da _ _ _ _
  exact⟨Zj _,by simp[gU],λ_=>default,λJ aa _ _=>by simp[gU]⟩
 |cons E r aj=>
  obtain⟨v0,d⟩:=E
  intro n da IF dY cf aax
  obtain⟨g,t,cs,fuel,p,ai,bw,a8,bu,aH,V,rfl⟩:=dY
  have aby:rM w ai:=cf.of λe B=>Zw.2 (.inr B)
  have aay:∀b off,MemPlace.cell b off∈ai->∀ab v,w.cell? ⟨b,off,none⟩=some (.iface ab v)->Value.okWide P w .any 0 ab v:=λb off al=>aax b off (Zw.2 (.inr al))
  have skip:gU P nm ((v0,d)::r) n=gU P nm r n->T3 C w pg n (gU P nm ((v0,d)::r) n):=λD=>by rw[D];exact aj n ai IF V aby aay
  simp only[Yk]at a8
  obtain⟨iB,vX,rfl⟩:=a8
  have Ra:g<pg:=by rw[<-IF];exact(ZS.1 vX).1
  have dE:∀ab v,cs.toList=[.iface ab v]->Value.okWide P w .any 0 ab v:=by
   intro ab v hZ
   obtain⟨ty,tT,al⟩:=aeB bw bu
   have eh:cs.size=1:=by have:=congrArg List.length hZ;simpa using this
   refine aax g 0 (Zw.2 (.inl (Zw.2 (.inl (NF (E:=⟨g,0,none⟩) (q:=cs.size) Zo))))) ab v ?_
   have bi:cs[0]? =some (.iface ab v):=by rw[<-ZO,hZ];rfl
   simp[World.cell?,al,bi]
  cases aB:MP P nm iB.type d n with
  |none=>exact skip (by simp[gU,bw,vX,aB])
  |some eA=>
   obtain⟨k,aM,os⟩:=eA
   by_cases AJ:0<k.length
   ·have bt:gU P nm ((v0,d)::r) n=((gU P nm r aM).1,(g,Gv k)::(os++(gU P nm r aM).2)):=by
     have:Nat.blt 0 k.length=true:=by simp[Nat.blt];omega
     simp[gU,bw,vX,aB,this]
    obtain⟨a7,b2,ef,a3⟩:=ari (C:=C) (w:=w) gy aB (cs:=cs.toList) (da:=p) aH (cf.of λe B=>Zw.2 (.inl (Zw.2 (.inr B)))) dE
    obtain⟨b4,cr,eX,cS⟩:=aj aM ai IF V aby aay
    have a7:n<=aM:=a7
    rw[bt]
    refine⟨ZB a7 b4, ?_,λb=>if b<aM then ef b else eX b, ?_⟩
    ·intro x af
     rcases Zr.1 af with rfl|af
     ·exact⟨.inl Ra, .inl Ra,SM k⟩
     ·rcases Zw.1 af with ai|ai
      ·obtain⟨cF,cH,d7⟩:=b2 x ai
       exact⟨.inr cF, .inr (ZT cH b4),d7⟩
      ·obtain⟨cF,cH,d7⟩:=cr x ai
       exact⟨cF.imp id (λa=>ZB a7 a),cH,d7⟩
    ·intro J aa dz c2
     obtain⟨dl,dx,gD⟩:=a3 J aa (λb H K=>by
      have Fc:b<aM:=K
      have:=dz b H (ZT K b4)
      simp only[Zu Fc]at this
      exact this)
     have dI:=cS J aa (λb H K=>by
      have q5:¬b<aM:=zz.2 H
      have:=dz b (ZB a7 H) K
      simp only[Zg q5]at this
      exact this) c2
     intro x af
     rcases Zr.1 af with rfl|af
     ·obtain⟨aqd,aw0⟩:=c2 g Ra
      obtain⟨ty,tT,al⟩:=aeB bw bu
      have eh:cs.size=k.length:=by
       have:=congrArg List.length dl
       rw[jR]at this
       simpa using this
      obtain⟨gC,ga,jp⟩:=cf g 0 (Zw.2 (.inl (Zw.2 (.inl (NF (E:=⟨g,0,none⟩) (q:=cs.size) Zo)))))
      rw[al]at jp
      have apn:tT=(0,0):=by
       simp only[Zc,Obj.cells.injEq]at jp
       exact jp.2.2
      rw[apn]at al
      simp only[aqd]
      refine Tb (pl:=⟨g,0,0⟩) al ?_ dx AJ
      simp only[Z9]
      rw[ZQ Zx]
      exact dl
     ·rcases Zw.1 af with ai|ai
      ·exact gD x ai
      ·exact dI x ai
   ·exact skip (by
     have lz:k.length=0:=Zo
     have:Nat.blt 0 k.length=false:=by rw[lz];rfl
     simp[gU,bw,vX,aB,this])
def Sp{nm:List (String×Nat)}(gy:yJ P nm){laid:List (String×DataW Unit)}{g4:Nat->List y->Option y}(a:laidMet P laid w):
 ∃J aa,c9 ⟨P,nj (gU P nm laid P.globals.size).2 .nil,(gU P nm laid P.globals.size).1,g4,P.globals.size⟩ J aa .nil (gU P nm laid P.globals.size).1 w.heap.size w/\
  rN ⟨P,nj (gU P nm laid P.globals.size).2 .nil,(gU P nm laid P.globals.size).1,g4,P.globals.size⟩ J aa:=by
 obtain⟨da,dY,_,lz⟩:=a
 have cf:rM w da:=λb off al=>(lz b off al).1
 obtain⟨a7,b2,f,a3⟩:=acb (C:=⟨P,nj (gU P nm laid P.globals.size).2 .nil,(gU P nm laid P.globals.size).1,g4,P.globals.size⟩) gy laid P.globals.size da rfl dY cf (λb off al=>(lz b off al).2)
 generalize aI:gU P nm laid P.globals.size=r at a7 b2 a3 ⊢
 obtain⟨aY,os⟩:=r
 simp only at a7 b2 a3 ⊢
 have Rw:∀b W,Z ⟨P,nj os .nil,aY,g4,P.globals.size⟩ .nil b=some W->(b,W)∈os/\b<aY:=by
  intro b W bd
  unfold Z at bd
  rw[eQ]at bd
  split at bd
  ·rename_i al
   rcases Ti b W os .nil bd with ai|ai
   ·exact⟨ai,j4 al⟩
   ·simp at ai
  ·simp at bd
 refine⟨λb=>if b<P.globals.size then⟨b,0,0⟩else f b,λb=>b<aY,⟨Zj _,λ_ a=>a,λb W bd=>(Rw b W bd).2, ?_, ?_, ?_, ?_⟩, ?_⟩
 ·intro b W bd _
  have:=a3 (λb=>if b<P.globals.size then⟨b,0,0⟩else f b) (λb=>b<aY) (λb H K=>⟨by rw[Zg Zo],K⟩) (λg bw=>⟨by rw[Zu bw],Zo⟩) (b,W) (Rw b W bd).1
  exact this
 ·intro b cQ W o' _ _ d _ _ al
  exact absurd d (zz.2 al)
 ·intro b W al _ d
  exact absurd d (zz.2 al)
 ·intro b W bd _
  exact(b2 (b,W) (Rw b W bd).1).2.2 _ _
 ·intro g bw
  have bw:g<P.globals.size:=bw
  exact⟨Zo,by simp[bw],by simp[bw]⟩
def Env.aq8{nm:List (String×Nat)}(gy:yJ P nm){laid:List (String×DataW Unit)}{bX:Nat}{fn:Func}(kg:wV P)(v1:G2 P w)(bW:P.funcs[bX]? =some fn)(aI:(fn.name== "runtime.NumGoroutine")=false)(al:fn.body=none)(H:Extern.findNext fn=none)
 (K:Extern.find fn=some Extern.BytealgIndexByte.indexByte)(a:laidMet P laid w):
 ∃J aa,Env ⟨P,nj (gU P nm laid P.globals.size).2 .nil,(gU P nm laid P.globals.size).1,wq bX,P.globals.size⟩ w J aa:=by
 obtain⟨J,aa,am,aC⟩:=Sp (g4:=wq bX) gy a
 refine⟨J,aa,kg,⟨λf args v bd=> ?_,λf args v bd J w _=> .inl (as5 bW aI al H K bd J w)⟩,am,aC,v1⟩
 obtain⟨rfl,s,c,rfl,rfl,aE,aA⟩:=ac7 bd
 exact⟨⟨λ_ _=>rfl,λ_=>trivial⟩,λ_ _=>rfl,λ_=>⟨aE,trivial,trivial⟩⟩
end
end
noncomputable section
open Go.RowKit (Below)
def wp(bX:Nat)(W:Nat->List y->Option y)(f:Nat)(args:List y):Option y:=
 bH (Nat.beq f bX) (match args with
  |[.str s]=>bH (w1 s&&Nat.ble s.length 281474976710656) (some (.str s)) none
  |_=>none) (W f args)
section
variable{P:Program}{w:World}
def ac6{bX f:Nat}{W:Nat->List y->Option y}{args:List y}{v:y}(a:wp bX W f args=some v):
 (f=bX/\∃s,args=[.str s]/\v= .str s/\(∀x∈s,x<256)/\s.length<=281474976710656)\/W f args=some v:=by
 unfold wp at a
 rw[hn]at a
 split at a
 ·rename_i D
  split at a
  ·rename_i s
   simp only[eF,Zq,Zc]at a
   exact .inl ⟨D,s,rfl,a.2.symm,OZ a.1.1,h4 a.1.2⟩
  ·simp at a
 ·exact .inr a
def Env.aq7{nm:List (String×Nat)}(gy:yJ P nm){laid:List (String×DataW Unit)}{W:Nat->List y->Option y}{bX:Nat}{fn:Func}{c:Code}(bW:P.funcs[bX]? =some fn)(aI:(fn.name== "runtime.NumGoroutine")=false)(al:fn.body=some c)
 (amJ:∀(s:ByteArray) (w:World),s.size<=281474976710656->Calls P bX #[.string s] w λD w'=>D= .returned (.string s)/\Below w.heap.size w w')(a:laidMet P laid w){dB:cU}{dR:Nat->Prop}
 (cz:Env ⟨P,nj (gU P nm laid P.globals.size).2 .nil,(gU P nm laid P.globals.size).1,W,P.globals.size⟩ w dB dR):
 ∃J aa,Env ⟨P,nj (gU P nm laid P.globals.size).2 .nil,(gU P nm laid P.globals.size).1,wp bX W,P.globals.size⟩ w J aa:=by
 obtain⟨J,aa,am,aC⟩:=Sp (g4:=wp bX W) gy a
 refine⟨J,aa,cz.kg,⟨λf args v bd=> ?_,λf args v bd J ox mC=> ?_⟩,am,aC,cz.mem⟩
 ·rcases ac6 bd with ⟨rfl,s,rfl,rfl,aE,_⟩|bd
  ·exact⟨⟨λ_ _=>rfl,λ_=>aE⟩,λ_ _=>rfl,λ_=>⟨aE,trivial⟩⟩
  ·exact cz.g4.val f args v bd
 ·rcases ac6 bd with ⟨rfl,s,rfl,rfl,aE,aB⟩|bd
  ·right
   have v2:¬fn.name= "runtime.NumGoroutine":=by simpa using aI
   refine⟨by simp[callFunc,bW,v2,al], ?_⟩
   have:=amJ (bytesOf s) ox (by simpa[bytesOf,ByteArray.size]using aB)
   exact this
  ·exact cz.g4.ok f args v bd J ox mC
end
end
noncomputable section
open Go.RowKit (Below)
def ad2(C:aT):List (Nat×ak)->M ak->M ak
 |[],I=>I
 |(b,W)::k,I=>ad2 C k (bl C I b (some W))
def pick(C:aT)(h:M ak):List Nat->List (Nat×ak)
 |[]=>[]
 |b::k=>match Z C h b with|some W=>(b,W)::pick C h k|none=>pick C h k
def W3(C:aT):List Nat->Bool
 |[]=>true
 |b::k=>j5 C b&&W3 C k
def aqM(C:aT)(L:List Nat)(h:M ak):M ak:=ad2 C (pick C h L) .nil
def atq(todo:List dG):Bool:=match todo with| .drawn .. ::_=>false|_=>true
def acX:List gB->Bool
 |[]=>true
 |c::k=>(match c with|⟨_,_,_,_,todo,_,_,_,_⟩=>(match todo with| .yu .. ::_=>false|_=>true))&&acX k
def XB(C:aT)(L:List Nat)(b:hl):hl:=λbK todo bX I h j=>match bX with
 |⟨fn,n,ao,bb,aR,ro,cs⟩=>bH (atq todo&&acX cs&&W3 C L) (b bK todo ⟨fn,n,ao,bb,aR,ro,cs⟩ I (aqM C L h) j) none
section
variable{C:aT}{J dB:cU}{aa dR:Nat->Prop}{h R:M ak}{j bj:Nat}{w:World}
variable{aZ:World}{bA:Nat}{bM:List Frame}{v:y}{b:hl}
def nV(C:aT)(aZ:World)(bA:Nat)(bM:List Frame)(bK:k4)(todo:List dG)(bX:ia)(I:M y)(h:M ak)(j:Nat)(v:y):Prop:=
 ∀J aa w c5 tmps bq an,Cm C aZ bA bM bK todo bX.fn bX.n bX.ao bX.bb bX.aR bX.ro bX.cs I h j J aa w c5 tmps bq an->Ends C aZ bA bM v (lone (cj J bX.fn bX.bb bX.aR bX.ro tmps bq (gE J bK)) an w)
open Classical in
def only(x9:k4)(TH:List dG)(k7:ia)(qV:M y)(aX:M ak)(DY:Nat)(v:y):hl:=λbK todo bX I h j=>
 if bK=x9/\todo=TH/\bX=k7/\I=qV/\h=aX/\j=DY then some v else none
end
end
noncomputable section
open Go.RowKit (Below)
def low(aa:Nat->Prop)(N:Nat)(b:Nat):Prop:=aa b/\b<N
section
variable{aa:Nat->Prop}{N:Nat}
end
end
noncomputable section
open Go.RowKit (Below)
section
variable{C:aT}{J dB:cU}{aa dR:Nat->Prop}{h R:M ak}{j bj N:Nat}{w:World}
variable{aZ:World}{bA g:Nat}{bM:List Frame}{v:y}{b:hl}
open Classical in
def fD(C:aT)(aZ:World)(bA:Nat)(bM:List Frame)(v:y):hl:=λbK todo bX I h j=>if nV C aZ bA bM bK todo bX I h j v then some v else none
def V7:nt C aZ bA bM (fD C aZ bA bM v):=by
 intro bK todo fn n ao bb aR ro cs I h j ab a6 J aa w c5 tmps bq an cI
 unfold fD at a6
 split at a6
 ·rename_i a
  simp at a6;subst a6
  exact a J aa w c5 tmps bq an cI
 ·cases a6
def h3{bK:k4}{todo:List dG}{bX:ia}{I:M y}(a:nV C aZ bA bM bK todo bX I h j v):fD C aZ bA bM v bK todo bX I h j=some v:=by
 unfold fD
 rw[Zu a]
def alq{ew:dG}{q:List dG}{bX:ia}{I:M y}(aE:y.same 30 v v=true):∀k:List (y×M ak),k≠[]->(∀ab R,(ab,R)∈k->∃ht,oN ew ab=some ht/\nV C aZ bA bM .run (ht::q) bX I R j v)->
 xp (fD C aZ bA bM v) ew q bX I j k=some v:=by
 intro k
 induction k with
 |nil=>intro a;exact absurd rfl a
 |cons p k nb=>
  obtain⟨ab,R⟩:=p
  intro _ hA
  obtain⟨ht,H,K⟩:=hA ab R (Zt ..)
  cases k with
  |nil=>simp only[xp,H];exact h3 K
  |cons ai k=>
   have aj:=nb Zs (λab R a=>hA ab R (Zn _ a))
   simp only[xp,H,h3 K]
   rw[aj]
   simp only[aE,eW]
end
end
end Go.bs

