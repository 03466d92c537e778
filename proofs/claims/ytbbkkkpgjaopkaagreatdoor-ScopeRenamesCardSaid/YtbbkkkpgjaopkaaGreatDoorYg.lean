/- Part of the proof of the last text; no conditions -/
import Derived.Test.YtbbkkkpgjaopkaaGreatDoorYf
import Derived.Lib.Bytealg
import Derived.LaidLaws
set_option maxHeartbeats 8000000
set_option linter.all false
namespace Go.bp
noncomputable section
open Go.RowKit (Below)
section
variable{C:aM}{P:Program}{w:World}
abbrev rd(P:Program)(w:World)(al:Nat):TypeId->List Value->Option (DataW Unit×List MemPlace):=DataW.trod (λ_=>()) P w 0 (λ_=>true) false al
def MV{D:Addr}{o:Nat}(a:0<o):MemPlace.cell D.block D.off∈MemPlace.row D o:=by
 unfold MemPlace.row
 exact ZK.2 ⟨0,by simp[a],Zs⟩
def abN:∀(m al:Nat),JS C w (vA P m) (rd P w al):=by
 intro m
 induction m with
 |zero=>intro al t d n r a;simp[vA]at a
 |succ m ah=>
  intro al t d n r a cs db U ce
  cases al with
  |zero=>simp[rd,DataW.trod]at U
  |succ al=>
   have Ir:=ah al
   simp only[vA]at a
   split at a
   ·
    rename_i b aU
    simp at a;subst a
    match cs with
    |[]=>simp[rd,DataW.trod,aU]at U
    |_::_::_=>simp[rd,DataW.trod,aU]at U
    |[c]=>
     cases c<;>simp[rd,DataW.trod,aU]at U
     obtain⟨rfl,rfl⟩:=U
     exact .plain λJ Y=>⟨rfl,trivial,trivial⟩
   ·
    rename_i eE o i aU
    simp at a;subst a
    match cs with
    |[]=>simp[rd,DataW.trod,aU]at U
    |_::_::_=>simp[rd,DataW.trod,aU]at U
    |[c]=>
     cases c<;>simp[rd,DataW.trod,aU]at U
     obtain⟨⟨rfl,_⟩,⟨rfl,rfl⟩,rfl⟩:=U
     exact .plain λJ Y=>⟨rfl,trivial,trivial⟩
   ·
    rename_i s aU
    simp at a;subst a
    match cs with
    |[]=>simp[rd,DataW.trod,aU]at U
    |_::_::_=>simp[rd,DataW.trod,aU]at U
    |[c]=>
     cases c<;>simp[rd,DataW.trod,aU]at U
     obtain⟨_,rfl,rfl⟩:=U
     refine .plain λJ Y=>⟨by simp only[bP,aJ];rw[Of], ?_,trivial⟩
     intro x af
     simp at af
     obtain⟨b,_,rfl⟩:=af
     exact b.toNat_lt
   ·
    rename_i B aU
    simp at a;subst a
    match cs with
    |[]=>simp[rd,DataW.trod,aU]at U
    |_::_::_=>simp[rd,DataW.trod,aU]at U
    |[c]=>
     cases c<;>simp[rd,DataW.trod,aU]at U
     rename_i D
     cases D with
     |none=>exact .plain λJ Y=>⟨rfl,trivial,trivial⟩
     |some D=>simp[ZV]at U
   ·
    rename_i B d aU
    split at a
    ·rename_i k aP os az
     simp only[ey,Zn,Ze]at a
     obtain⟨⟨I,M⟩,rfl⟩:=a
     have I:=Zj I
     have M:=kX M
     match cs with
     |[]=>simp[rd,DataW.trod,aU]at U
     |_::_::_=>simp[rd,DataW.trod,aU]at U
     |[c]=>
      cases c<;>simp[rd,DataW.trod,aU]at U
      rename_i V
      cases V with
      |none=>simp at U
      |some D=>
       simp only[ZV,Function.comp,Yf,YK,DataW.ptr.injEq]at U
       obtain⟨cU,ay,x,af,rfl,rfl⟩:=U
       obtain⟨b7,ty,aj⟩:=ce D.block D.off (Zy.2 (.inl (MV Zo)))
       obtain⟨cb,b5⟩:=Oo aj ay
       have B2:D.spot=none:=by
        unfold World.cells? at ay
        rw[Zp (zu _)]at ay
        obtain⟨bM,cq⟩:=Cq ay
        have:=cq 0 0 cU[0] (by rw[List.getElem?_range Zo]) (Zf Zo)
        exact(Om (show w.cell? D=some _ from this)).1
       have xf:=Ir _ _ _ _ az cU x.2 af (ce.of λe F=>Zy.2 (.inr F))
       refine Lays.block ⟨D.block,D.off,0⟩ xf (R2 k) λJ Y dt f1 hA bX=>⟨Ss aj ?_ bX M, ?_,f1⟩
       ·simp only
        rw[I, <-cb,hA]
       ·simp only[aJ,dt]
        obtain⟨pQ,aic,cf⟩:=D
        have B2:cf=none:=B2
        subst B2
        rfl
    ·simp at a
   ·
    rename_i B aU
    simp at a;subst a
    match cs with
    |[]=>simp[rd,DataW.trod,aU]at U
    |_::_::_=>simp[rd,DataW.trod,aU]at U
    |[c]=>
     cases c<;>(try(simp[rd,DataW.trod,aU]at U;done))
     rename_i D len cap
     cases D with
     |none=>
      simp only[rd,DataW.trod,aU]at U
      split at U<;>simp_all
      exact .plain λJ Y=>⟨rfl,trivial,trivial⟩
     |some D=>
      simp[rd,DataW.trod,aU,ZV]at U
   ·
    rename_i B b3 adq aU
    split at a
    ·split at a
     ·rename_i k aP os az
      simp only[ey,Ze]at a
      obtain⟨M,rfl⟩:=a
      have M:=kX M
      match cs with
      |[]=>simp[rd,DataW.trod,aU]at U
      |_::_::_=>simp[rd,DataW.trod,aU]at U
      |[c]=>
       cases c<;>(try(simp[rd,DataW.trod,aU]at U;done))
       rename_i V len cap
       cases V with
       |none=>
        simp only[rd,DataW.trod,aU]at U
        split at U<;>simp_all
       |some D=>
        simp only[rd,DataW.trod,aU]at U
        split at U
        ·rename_i lY
         simp only[ZV,Yf,YK,DataW.slice.injEq,ZE]at U
         obtain⟨OQ,bl,rest,BZ,⟨bA,cg⟩,rfl⟩:=U
         have aoC:rest=[]:=by simpa using cg
         subst aoC
         obtain⟨bM,_⟩:=Cq BZ
         obtain⟨cq,df⟩:=Cq bl
         simp at bM cq
         have j1:cap=len:=Zo
         subst j1
         have eD:b3.length=cap:=by rw[<-bA];simp[cq]
         simp only[ZY,ZS,Z4]at ce
         obtain⟨iX,k5⟩:=abL (C:=C) (w:=w) Ir (B:=B) (g:=λi=>(w.cells? 0 (D.add (i*P.cellsOf B)) (P.cellsOf B)).getD []) b3 0 (n+1) _ az OQ
          (by
           rw[eD, <-List.range_eq_range']
           rw[<-bl]
           have kK:∀i∈List.range cap,(w.cells? 0 (D.add (i*P.cellsOf B)) (P.cellsOf B)).isSome=true:=by
            intro i aE
            have j2:i<cap:=by simpa using aE
            have:=df i i OQ[i] (by simp[j2]) (Zf Zo)
            simp only[ZV]at this
            obtain⟨dV,cH,_⟩:=this
            rw[cH];rfl
           exact arf λi aE=>by
            have:=kK i aE
            cases bJ:w.cells? 0 (D.add (i*P.cellsOf B)) (P.cellsOf B)with
            |none=>rw[bJ]at this;cases this
            |some dV=>simp)
          bA (ce.of λe F=>Zy.2 (.inr F))
         simp only at k5
         have EQ:0<cap*P.cellsOf B:=by rw[<-eD, <-k5];exact M
         obtain⟨b7,ty,aj⟩:=ce D.block D.off (Zy.2 (.inl (MV (by rw[cq];exact EQ))))
         have aG:0<P.cellsOf B:=Nat.pos_of_mul_pos_left EQ
         have BF:0<cap:=Nat.pos_of_mul_pos_right EQ
         have Z:∀i,i<cap->∃dV,w.cells? 0 (D.add (i*P.cellsOf B)) (P.cellsOf B)=some dV:=by
          intro i j2
          have:=df i i OQ[i] (by simp[j2]) (Zf Zo)
          simp only[ZV]at this
          obtain⟨dV,cH,_⟩:=this
          exact⟨dV,cH⟩
         have B2:D.spot=none:=by
          obtain⟨dV,cH⟩:=Z 0 BF
          have oB:=(Oo (D:=D.add (0*P.cellsOf B)) (by rw[N1];exact aj) cH).2
          unfold World.cells? at cH
          rw[Zp (zu _)]at cH
          obtain⟨_,cq⟩:=Cq cH
          have:=cq 0 0 dV[0] (by rw[List.getElem?_range Zo]) (Zf Zo)
          have a2:(D.add (0*P.cellsOf B)).add 0=D:=by simp[Addr.add]
          rw[a2]at this
          exact(Om this).1
         have am6:(List.range' 0 b3.length).flatMap (λi=>(w.cells? 0 (D.add (i*P.cellsOf B)) (P.cellsOf B)).getD [])=(b7.toList.drop D.off).take (cap*P.cellsOf B):=by
          rw[eD]
          have:∀i∈List.range' 0 cap,(w.cells? 0 (D.add (i*P.cellsOf B)) (P.cellsOf B)).getD []=((b7.toList.drop D.off).drop (i*P.cellsOf B)).take (P.cellsOf B):=by
           intro i aE
           have j2:i<cap:=by simpa using aE
           obtain⟨dV,cH⟩:=Z i j2
           obtain⟨cb,_⟩:=Oo (D:=D.add (i*P.cellsOf B)) (by rw[N1];exact aj) cH
           rw[cH,YL,cb,Vo,zp]
          rw[akF this,WP,zr,Ya]
         rw[am6]at iX
         refine Lays.block ⟨D.block,D.off,0⟩ iX (R2 k) λJ Y dt f1 hA bX=>⟨Ss aj ?_ bX M, ?_,f1⟩
         ·simp only
          rw[k5,eD];exact hA
         ·simp only[aJ,dt,eD]
          obtain⟨pQ,aic,cf⟩:=D
          have B2:cf=none:=B2
          subst B2
          rfl
        ·simp at U
     ·simp at a
    ·simp at a
   ·
    rename_i jE ds aU
    split at a
    ·rename_i k aP os az
     simp only[ey,Ze]at a
     obtain⟨I,rfl⟩:=a
     have I:=Zj I
     have cK:rd P w (al+1) t cs=(if cs.length=P.cellsOf t then(jE.toList.mapM λf=>rd P w al f.type ((cs.drop f.offset).take (P.cellsOf f.type))).map λb9=>(.agg (b9.map (·.1)),b9.flatMap (·.2))else none):=by
      simp only[rd]
      rw[DataW.trod_step]
      unfold DataW.trodStep
      rw[aU]
     rw[cK]at U
     split at U
     case isFalse=>cases U
     rename_i eD
     simp only[Yf,YK,DataW.agg.injEq]at U
     obtain⟨b9,af,aI,rfl⟩:=U
     have:=aqt (C:=C) (w:=w) Ir (cs:=cs) jE.toList ds 0 n _ az b9 af aI ce
     simp only[Ya]at this
     rw[ZB Zo]at this
     exact this
    ·simp at a
   ·
    rename_i o B ds aU
    split at a
    ·rename_i k aP os az
     simp only[ey,Ze]at a
     obtain⟨I,rfl⟩:=a
     have I:=Zj I
     have cK:rd P w (al+1) t cs=(if cs.length=P.cellsOf t then((List.range o).mapM λi=>rd P w al B ((cs.drop (i*P.cellsOf B)).take (P.cellsOf B))).map λb9=>(.agg (b9.map (·.1)),b9.flatMap (·.2))else none):=by
      simp only[rd]
      rw[DataW.trod_step]
      unfold DataW.trodStep
      rw[aU]
     rw[cK]at U
     split at U
     case isFalse=>cases U
     rename_i eD
     simp only[Yf,YK,DataW.agg.injEq]at U
     obtain⟨b9,af,aI,rfl⟩:=U
     have js:ds.length=o:=by
      have:=(Cq af).1
      rw[<-aI];simpa using this
     obtain⟨iX,k5⟩:=abL (C:=C) (w:=w) Ir (B:=B) (g:=λi=>(cs.drop (i*P.cellsOf B)).take (P.cellsOf B)) ds 0 n _ az b9 (by rw[js, <-List.range_eq_range'];exact af) aI ce
     rw[WP,zr,Ya,ZB (by simp only at k5;omega)]at iX
     exact iX
    ·simp at a
   ·
    rename_i B aU
    simp at a;subst a
    match cs with
    |[]=>simp[rd,DataW.trod,aU]at U
    |_::_::_=>simp[rd,DataW.trod,aU]at U
    |[c]=>
     cases c<;>simp[rd,DataW.trod,aU]at U
     all_goals first
      |exact .plain λJ Y=>⟨rfl,trivial,trivial⟩
      |(split at U<;>simp_all)
   ·
    rename_i o B aU
    simp at a;subst a
    match cs with
    |[]=>simp[rd,DataW.trod,aU]at U
    |_::_::_=>simp[rd,DataW.trod,aU]at U
    |[c]=>
     cases c<;>simp[rd,DataW.trod,aU]at U
     rename_i b
     cases b with
     |none=>exact .plain λJ Y=>⟨rfl,trivial,trivial⟩
     |some b=>
      simp only at U
      split at U
      ·split at U
       ·simp only[ZV]at U
        obtain⟨c8,_,ak⟩:=U
        split at ak<;>simp at ak
       ·cases U
      ·cases U
   ·
    rename_i o B b3 aU
    simp only[ey]at a
    obtain⟨av,a⟩:=a
    split at a
    ·rename_i eX aP os az
     simp at a;subst a
     match cs with
     |[]=>simp[rd,DataW.trod,aU]at U
     |_::_::_=>simp[rd,DataW.trod,aU]at U
     |[c]=>
      cases c<;>(try(simp[rd,DataW.trod,aU]at U;done))
      rename_i b
      cases b with
      |none=>simp[rd,DataW.trod,aU]at U
      |some b=>
       simp only[rd,DataW.trod,aU]at U
       split at U
       ·rename_i G1 fF aj
        split at U
        ·simp only[ZV]at U
         obtain⟨c8,bZ,U⟩:=U
         split at U
         ·simp only[Ze,YK,DataW.map.injEq]at U
          obtain⟨aD,rfl⟩:=U
          obtain⟨bM,cq⟩:=Cq bZ
          have awO:c8.length=G1.toList.length:=bM
          have amr:(G1.toList.zip c8).map (·.2.1)=c8.map (·.1):=by
           have ON:(λx:MapEntry×((Lit×DataW Unit)×List MemPlace)=>x.2.1)=(λe:(Lit×DataW Unit)×List MemPlace=>e.1)∘Prod.snd:=rfl
           rw[ON, <-Yk,List.map_snd_zip Zo]
          obtain⟨ef,XB,XC⟩:=acL (sorted_perm (c8.map (·.1))).symm (G1.toList.zip c8) amr
          rw[aD]at XC
          have kK:∀br∈ef,keyOf P o br.1.key=some br.2.1.1/\br.1.val.formed P B=true/\rd P w al B br.1.val.cells.toList=some (br.2.1.2,br.2.2)/\rb w br.2.2:=by
           intro br E3
           have E4:=XB.mem_iff.1 E3
           obtain⟨i,aE⟩:=ZW.1 E4
           rw[List.getElem?_zip_eq_some]at aE
           have:=cq i _ _ aE.1 aE.2
           simp only[ZV]at this
           obtain⟨key,cH,cB⟩:=this
           split at cB
           ·rename_i ch
            simp only[Yf]at cB
            obtain⟨e,dN,fx⟩:=cB
            rw[<-fx]
            refine⟨cH,ch,dN,ce.of λp av=> ?_⟩
            refine Zt _ (List.mem_flatMap.2 ⟨br.2,Zl aE.2, ?_⟩)
            rw[<-fx];exact av
           ·cases cB
          obtain⟨bm,ct,a0,f,a3⟩:=aqs (C:=C) (w:=w) Ir av b3 (n+1) _ az ef XC kK
          have bm:n+1<=aP:=bm
          refine⟨by simp only;omega, ?_,λx=>if x=n then⟨b,0,0⟩else f x, ?_⟩
          ·intro e F
           rcases Zq.1 F with rfl|F
           ·exact⟨Zi _,by simp only;omega,ar6 _⟩
           ·obtain⟨cH,cB,dN⟩:=ct e F
            exact⟨Zo,cB,dN⟩
          ·intro J Y dt
           have aL:=dt n (Zi _) (by simp only;omega)
           simp only[ZE]at aL
           obtain⟨dv,dK,gM⟩:=a3 J Y (λx I M=>by
            have:=dt x Zo M
            have c5:x≠n:=Zo
            simp only[Zg c5]at this
            exact this)
           refine⟨by simp[bP,aJ,aL.1],⟨aL.2,trivial⟩, ?_⟩
           intro e F
           rcases Zq.1 F with rfl|F
           ·simp only[aL.1]
            have aaC:(ef.map (·.1)).Perm G1.toList:=by
             have:=XB.map (·.1)
             rwa[List.map_fst_zip Zo]at this
            rw[dv]at aaC
            obtain⟨lF,fg,hc⟩:=acL aaC _ rfl
            refine⟨G1,fF,lF,aj,hc.symm, ?_, ?_⟩
            ·have:=fg.map (λB=>(B.1,B.2.1))
             rwa[aek (ef:=ef) _ ef a0]at this
            ·intro x af
             have qe:=fg.mem_iff.1 af
             have aX:(x.1,x.2.1)∈eX:=by
              have:=List.mem_map_of_mem (f:=λB:z×z×Nat=>(B.1,B.2.1)) qe
              rwa[aek (ef:=ef) _ ef a0]at this
             exact dK _ aX
           ·exact gM e F
         ·simp at U
        ·simp at U
       ·simp at U
    ·simp at a
   ·simp at a
end
end
noncomputable section
open Go.RowKit (Below)
def mH:List (Nat×ag)->R ag->R ag
 |[],H=>H
 |(b,V)::k,H=>mH k (H.set b (some V))
section
variable{C:aM}{P:Program}{w:World}
def SA(b:Nat)(V:ag):∀(k:List (Nat×ag)) (H:R ag),(mH k H).get b=some V->(b,V)∈k\/H.get b=some V:=by
 intro k
 induction k with
 |nil=>intro H a;exact .inr a
 |cons x k ah=>
  obtain⟨dT,o'⟩:=x
  intro H a
  rcases ah _ a with a|a
  ·exact .inl (Zt _ a)
  ·rw[R.jF]at a
   by_cases B:dT=b
   ·subst B;simp at a;subst a;exact .inl (Zv ..)
   ·simp[B]at a;exact .inr a
def adU{nm:String}{g:Nat}{cs:Array Value}(bX:P.globalNamed nm=some g)(a:w.var? P nm=some cs):∃ty tb,w.heap[g]? =some (.cells cs ty tb):=by
 unfold World.var? at a
 rw[bX]at a
 simp only[ZU]at a
 split at a
 ·rename_i c ty tb aj
  simp at a;subst a
  exact⟨ty,tb,aj⟩
 ·cases a
def Tp(C:aM)(w:World)(oS n:Nat)(r:Nat×List (Nat×ag)):Prop:=
 n<=r.1/\(∀x∈r.2,(x.1<oS\/n<=x.1)/\(x.1<oS\/x.1<r.1)/\DC x.2)/\
  ∃f:Nat->lU,∀J Y,(∀b,n<=b->b<r.1->J b=f b/\Y b)->(∀g,g<oS->J g=⟨g,0,0⟩/\Y g)->∀x∈r.2,jC C J Y x.2 (J x.1) w
end
end
noncomputable section
open Go.RowKit (Below)
def wn:List Nat->Bool
 |[]=>true
 |x::s=>Nat.blt x 256&&wn s
def xm:List Nat->Nat->Nat->Int
 |[],_,_=> .negSucc 0
 |x::s,c,i=>bK (Nat.beq x c) (.ofNat i) (xm s c (i+1))
def vL(bR:Nat)(f:Nat)(args:List z):Option z:=
 bK (Nat.beq f bR) (match args with
  |[.str s, .int .u8 (.ofNat c)]=>bK (wn s&&Nat.blt c 256) (some (.int .i64 (xm s c 0))) none
  |_=>none) none
section
variable{C:aM}{P:Program}{w:World}
def N3:∀{s:List Nat},wn s=true->∀x∈s,x<256:=by
 intro s
 induction s with
 |nil=>intro _ x a;cases a
 |cons D s ah=>
  intro a x af
  simp only[wn,Zn]at a
  rcases Zq.1 af with rfl|af
  ·exact kX a.1
  ·exact ah a.2 x af
def apP:∀(s:List Nat) (c i:Nat),(∀x∈s,x<256)->c<256->xm s c i=(if Lib.indexByte (s.map UInt8.ofNat) (UInt8.ofNat c)= -1 then -1 else Lib.indexByte (s.map UInt8.ofNat) (UInt8.ofNat c)+i):=by
 intro s
 induction s with
 |nil=>intro c i _ _;simp[xm,Lib.indexByte]
 |cons D s ah=>
  intro c i aD ay
  have aC:=aD D (Zv ..)
  have aE:=ah c (i+1) (λx af=>aD x (Zt _ af)) ay
  simp only[xm,ZC,Lib.indexByte,hw]
  by_cases B:D=c
  ·subst B;simp
  ·have c5:(UInt8.ofNat D==UInt8.ofNat c)=false:=by
    rw[beq_eq_false_iff_ne]
    intro al
    have:=congrArg UInt8.toNat al
    simp at this
    rw[YE aC,YE ay]at this
    exact B this
   rw[Zg B,aE,c5]
   have yM:=Lib.indexByte_ge (s.map UInt8.ofNat) (UInt8.ofNat c)
   by_cases al:Lib.indexByte (s.map UInt8.ofNat) (UInt8.ofNat c)= -1
   ·simp[al]
   ·simp only[al,ZD]
    have:¬(Lib.indexByte (s.map UInt8.ofNat) (UInt8.ofNat c)+1= -1):=Zo
    simp[al,this]
    omega
def acw{bR f:Nat}{args:List z}{v:z}(a:vL bR f args=some v):f=bR/\∃s c,args=[.str s, .int .u8 (.ofNat c)]/\v= .int .i64 (xm s c 0)/\(∀x∈s,x<256)/\c<256:=by
 unfold vL at a
 rw[hw]at a
 split at a
 ·rename_i B
  split at a
  ·rename_i s c
   simp only[ey,Zn,Ze]at a
   exact⟨B,s,c,rfl,a.2.symm,N3 a.1.1,kX a.1.2⟩
  ·simp at a
 ·simp at a
def asg{bR:Nat}{fn:Func}(ch:P.funcs[bR]? =some fn)(aL:(fn.name== "runtime.NumGoroutine")=false)(aj:fn.body=none)(I:Extern.findNext fn=none)(M:Extern.find fn=some Extern.BytealgIndexByte.indexByte)
 {f:Nat}{args:List z}{v:z}(a:vL bR f args=some v)(J:cQ)(w:World):(callFunc f (bP J args).toArray).run P w= .ok (.value (aJ J v)) w:=by
 obtain⟨rfl,s,c,rfl,rfl,aD,ay⟩:=acw a
 have nO:=Lib.run_indexByteString (P:=P) (fC s) (Int.ofNat c) w
 have B:Lib.indexByte (fC s).data.toList (Int.ofNat c).toNat.toUInt8=xm s c 0:=by
  rw[apP s c 0 aD ay]
  have:(fC s).data.toList=s.map UInt8.ofNat:=by simp[fC]
  rw[this]
  have yM:=Lib.indexByte_ge (s.map UInt8.ofNat) (UInt8.ofNat c)
  show Lib.indexByte (s.map UInt8.ofNat) (UInt8.ofNat c)=_
  split
  ·rename_i al;exact al
  ·simp
 rw[B]at nO
 have hA:(bP J [.str s, .int .u8 (.ofNat c)]).toArray= #[.string (fC s), .int .u8 (Int.ofNat c)]:=rfl
 rw[hA]
 have Lx:¬fn.name= "runtime.NumGoroutine":=by simpa using aL
 simp only[callFunc,Sem.run_bind]
 simp[ch,Lx,aj,I,M,aJ]
 exact congrArg (λr=>Result.andThen r (λD bO=>Result.ok (Next.value D) bO)) nO
end
end
noncomputable section
open Go.RowKit (Below)
mutual
def qn:z->Bool
 | .bool _=>true
 | .int _ _=>true
 | .str s=>wn s
 | .cM=>true
 | .aV=>true
 | .lM=>true
 | .nilFunc=>true
 | .nilIface=>true
 | .iface _ v=>qn v
 | .agg k=>AB k
 | .tuple k=>AB k
 |_=>false
def AB:List z->Bool
 |[]=>true
 |v::k=>qn v&&AB k
end
mutual
def MI:∀v,qn v=true->b2 (λ_=>False) v
 | .bool _,_=>trivial
 | .int _ _,_=>trivial
 | .str s,a=>N3 (by simpa[qn]using a)
 | .cM,_=>trivial
 | .aV,_=>trivial
 | .lM,_=>trivial
 | .nilFunc,_=>trivial
 | .nilIface,_=>trivial
 | .iface _ v,a=>by
   have:=MI v (by simpa[qn]using a)
   simpa[b2]using this
 | .agg k,a=>I6 k (by simpa[qn]using a)
 | .tuple k,a=>I6 k (by simpa[qn]using a)
 | .ptr _ _,a=>by simp[qn]at a
 | .slice ..,a=>by simp[qn]at a
 | .fh ..,a=>by simp[qn]at a
 | .map _,a=>by simp[qn]at a
 | .func ..,a=>by simp[qn]at a
def I6:∀k,AB k=true->d2 (λ_=>False) k
 |[],_=>trivial
 |v::k,a=>by
  simp only[AB,Zn]at a
  exact⟨MI v a.1,I6 k a.2⟩
end
def acM{v:z}(a:qn v=true):(∀J hY,aJ J v=aJ hY v)/\∀Y,b2 Y v:=
 ⟨λ_ _=>pR (λ_ a=>a.elim) (MI v a),λ_=>ou (λ_ a=>a.elim) v (MI v a)⟩
def Sa{k:List z}(a:AB k=true):(∀J hY,bP J k=bP hY k)/\∀Y,d2 Y k:=
 ⟨λ_ _=>wx (λ_ a=>a.elim) (I6 k a),λ_=>qF (λ_ a=>a.elim) k (I6 k a)⟩
def acN{D b:z}(a:MG D b=true):D=b:=by
 unfold MG at a
 split at a
 ·simp only[aiK,Y1]at a;rw[a]
 ·simp only[Zn,abC,xj,Zh]at a;rw[a.1,a.2]
 ·rw[(IV _ _).1 a]
 ·rfl
 ·rfl
 ·rfl
 ·cases a
def asF:∀{D b:List z},CL D b=true->D=b:=by
 intro D
 induction D with
 |nil=>intro b a;cases b<;>simp[CL]at a;rfl
 |cons x D ah=>
  intro b a
  cases b with
  |nil=>simp[CL]at a
  |cons e b=>
   simp only[CL,Zn]at a
   rw[acN a.1,ah a.2]
def OE(x e:z):Bool:=match x,e with
 | .agg D, .agg b=>CL D b
 |x,e=>MG x e
def ajq{D b:z}(a:OE D b=true):D=b:=by
 unfold OE at a
 split at a
 ·rw[asF a]
 ·exact acN a
def D3:List z->List z->Bool
 |[],[]=>true
 |D::x,b::e=>OE D b&&D3 x e
 |_,_=>false
def ajr:∀{D b:List z},D3 D b=true->D=b:=by
 intro D
 induction D with
 |nil=>intro b a;cases b<;>simp[D3]at a;rfl
 |cons x D ah=>
  intro b a
  cases b with
  |nil=>simp[D3]at a
  |cons e b=>
   simp only[D3,Zn]at a
   rw[ajq a.1,ah a.2]
def vz(f:Nat)(args:List z):List (Nat×List z×z)->Option z
 |[]=>none
 |(g,cf,v)::k=>bK (Nat.beq f g) (bK (D3 args cf) (some v)<|vz f args k) (vz f args k)
def abG{f:Nat}{args:List z}{v:z}:∀{k:List (Nat×List z×z)},vz f args k=some v->(f,args,v)∈k:=by
 intro k
 induction k with
 |nil=>intro a;simp[vz]at a
 |cons x k ah=>
  obtain⟨g,cf,aa⟩:=x
  intro a
  simp only[vz]at a
  rw[eU]at a
  split at a
  ·rename_i al
   rw[eU]at a
   split at a
   ·rename_i cB
    simp at a;subst a
    rw[Zj al,ajr cB]
    exact Zv ..
   ·exact Zt _ (ah a)
  ·exact Zt _ (ah a)
def qk(V:Nat->List z->Option z)(k:List (Nat×List z×z))(f:Nat)(args:List z):Option z:=
 match vz f args k with|some v=>some v|none=>V f args
def Jq:List (Nat×List z×z)->Bool
 |[]=>true
 |x::k=>(AB x.2.1&&qn x.2.2)&&Jq k
def adB:∀{k:List (Nat×List z×z)},Jq k=true->∀x∈k,AB x.2.1=true/\qn x.2.2=true:=by
 intro k
 induction k with
 |nil=>intro _ x a;cases a
 |cons D k ah=>
  intro a x af
  simp only[Jq,Zn]at a
  rcases Zq.1 af with rfl|af
  ·exact a.1
  ·exact ah a.2 x af
section
variable{P:Program}{w:World}
def ajV{ah:g5}{C:aM}{f:Nat}{args:List z}{b:Bool}{cs:List gh}{h:R ag}{j:Nat}{v:z}(a:nD ah C f args b cs h j=some v):∃fn c,C.P.funcs[f]? =some fn/\fn.body=some c:=by
 unfold nD at a
 split at a
 ·rename_i fn ch
  split at a
  ·rename_i c ay;exact⟨fn,c,ch,ay⟩
  ·simp at a
 ·simp at a
def acy{G:R ag}{a6 oS:Nat}{V:Nat->List z->Option z}{dx:cQ}{dE:Nat->Prop}{k:List (Nat×List z×z)}(cA:Env ⟨P,G,a6,V,oS⟩ w dx dE)(aZ:Jq k=true)
 (kK:∀x∈k,∃m,xE ⟨P,G,a6,V,oS⟩ m x.1 x.2.1=some x.2.2):NL ⟨P,G,a6,qk V k,oS⟩ w:=by
 refine⟨λf args v bb=> ?_,λf args v bb J pJ aj=> ?_⟩
 ·have bb:qk V k f args=some v:=bb
  unfold qk at bb
  split at bb
  ·rename_i aa aU
   simp at bb;subst bb
   obtain⟨I,M⟩:=adB aZ _ (abG aU)
   exact⟨acM M,Sa I⟩
  ·exact cA.gS.val f args v bb
 ·have bb:qk V k f args=some v:=bb
  unfold qk at bb
  split at bb
  ·rename_i aa aU
   simp at bb;subst bb
   have aX:=abG aU
   obtain⟨I,M⟩:=adB aZ _ aX
   obtain⟨m,nO⟩:=kK _ aX
   obtain⟨fn,c,ch,ay⟩:=ajV nO
   right
   have aL:fn.name≠ "runtime.NumGoroutine":=by simpa using cA.jM.num f fn ch (by simp[ay])
   refine⟨?_, ?_⟩
   ·have p3:P.funcs[f]? =some fn:=ch
    simp[callFunc,p3,aL,ay]
   ·have am1:=cA.later aj
    have:=atO am1 (f:=f) (args:=args) ((Sa I).2 dE) nO
    rw[(Sa I).1 J dx]
    exact this.mono λB bO ⟨⟨hY,bl⟩,jb⟩=>⟨by rw[bl,(acM M).1 hY J],jb⟩
  ·exact cA.gS.ok f args v bb J pJ aj
end
end
noncomputable section
open Go.RowKit (Below)
def GA:List (String×Nat)->String->Option Nat
 |[],_=>none
 |(D,aa)::k,s=>bK (D==s) (some aa) (GA k s)
def Mc(P:Program)(nm:List (String×Nat))(t:Nat)(d:DataW Unit)(n:Nat):uJ:=match P.underlying t,d with
 |some (.interface _), .iface s (.ptr kZ)=>(match GA nm s with
  |some aa=>(match P.underlying aa with
   |some (.pointer _)=>(match vA P 39 aa (.ptr kZ) n with
    |some ([x],aP,os)=>some ([.iface aa x],aP,os)
    |_=>none)
   |_=>none)
  |none=>none)
 |_,_=>vA P 40 t d n
def gF(P:Program)(nm:List (String×Nat)):List (String×DataW Unit)->Nat->Nat×List (Nat×ag)
 |[],n=>(n,[])
 |(v,d)::r,n=>match P.globalNamed v with
  |some g=>(match P.globals[g]? with
   |some h6=>(match Mc P nm h6.type d n with
    |some (k,aP,os)=>bK (Nat.blt 0 k.length) (match gF P nm r aP with|(bk,r5)=>(bk,(g,FK k)::(os++r5))) (gF P nm r n)
    |none=>gF P nm r n)
   |none=>gF P nm r n)
  |none=>gF P nm r n
def x3(P:Program)(nm:List (String×Nat)):Prop:=∀x∈nm,∀aa,P.typeName? 3 aa=some x.1->aa=x.2
section
variable{C:aM}{P:Program}{w:World}
def aip{s:String}{aa:Nat}:∀{k:List (String×Nat)},GA k s=some aa->(s,aa)∈k:=by
 intro k
 induction k with
 |nil=>intro a;simp[GA]at a
 |cons x k ah=>
  obtain⟨D,b⟩:=x
  intro a
  simp only[GA]at a
  rw[eU]at a
  split at a
  ·rename_i al
   simp at a al;subst a;subst al
   exact Zv ..
  ·exact Zt _ (ah a)
def aqu{nm:List (String×Nat)}(jv:x3 P nm){t:Nat}{d:DataW Unit}{n:Nat}{r:List z×Nat×List (Nat×ag)}(a:Mc P nm t d n=some r){al:Nat}{cs:List Value}{db:List MemPlace}(U:rd P w al t cs=some (d,db))(ce:rb w db)
 (fs:∀aa v,cs=[.iface aa v]->Value.okWide P w .any 0 aa v):Lays C w n cs r:=by
 unfold Mc at a
 split at a
 ·rename_i hW s kZ aE
  split at a
  ·rename_i aa aU
   split at a
   ·rename_i B av
    split at a
    ·rename_i x aP os az
     simp at a;subst a
     obtain⟨ez,sc,v,rfl,aL,I⟩:=iface_of_trod aE U
     obtain rfl:=jv _ (aip aU) sc aL
     obtain⟨e5,D,cU,mb,bt,_,_,_⟩:=ptr_of_trod av I
     have ok:=fs _ _ rfl
     have xh:v= .pointer (some D):=by
      unfold Value.okWide at ok
      simp only[av]at ok
      unfold Cell.okWide at ok
      cases v<;>simp[Value.cells,Cell.ok,av]at ok bt
      subst bt
      rfl
     have gj:=abN (C:=C) (w:=w) 39 ez _ _ _ _ az _ _ I ce
     obtain⟨bm,ct,f,a3⟩:=gj
     refine⟨bm,ct,f,λJ Y dt=> ?_⟩
     obtain⟨dv,dK,gM⟩:=a3 J Y dt
     refine⟨?_,⟨dK.1,trivial⟩,gM⟩
     subst xh
     have B:Value.pointer (some D)=aJ J x:=by
      simp[Value.cells,bP]at dv
      exact dv
     simp only[bP,aJ,B]
    ·simp at a
   ·simp at a
  ·simp at a
 ·exact abN (C:=C) (w:=w) 40 al _ _ _ _ a cs db U ce
def abM{nm:List (String×Nat)}(jv:x3 P nm){oS:Nat}:∀(laid:List (String×DataW Unit)) (n:Nat) (db:List MemPlace),P.globals.size=oS->DataW.LaidVars P w laid db->rb w db->
 (∀b off,MemPlace.cell b off∈db->∀aa v,w.cell? ⟨b,off,none⟩=some (.iface aa v)->Value.okWide P w .any 0 aa v)->Tp C w oS n (gF P nm laid n):=by
 intro laid
 induction laid with
 |nil=>
  intro n db _ _ _ _
  exact⟨Zi _,by simp[gF],λ_=>default,λJ Y _ _=>by simp[gF]⟩
 |cons D r ah=>
  obtain⟨v0,d⟩:=D
  intro n db H5 gj ce μ
  obtain⟨g,t,cs,fuel,p,al,bX,aZ,bt,aI,U,rfl⟩:=gj
  have aa9:rb w al:=ce.of λe F=>Zy.2 (.inr F)
  have ν:∀b off,MemPlace.cell b off∈al->∀aa v,w.cell? ⟨b,off,none⟩=some (.iface aa v)->Value.okWide P w .any 0 aa v:=λb off aj=>μ b off (Zy.2 (.inr aj))
  have skip:gF P nm ((v0,d)::r) n=gF P nm r n->Tp C w oS n (gF P nm ((v0,d)::r) n):=λB=>by rw[B];exact ah n al H5 U aa9 ν
  simp only[Yf]at aZ
  obtain⟨h6,Lh,rfl⟩:=aZ
  have Qe:g<oS:=by rw[<-H5];exact(ZM.1 Lh).1
  have fs:∀aa v,cs.toList=[.iface aa v]->Value.okWide P w .any 0 aa v:=by
   intro aa v hA
   obtain⟨ty,tb,aj⟩:=adU bX bt
   have d9:cs.size=1:=by have:=congrArg List.length hA;simpa using this
   refine μ g 0 (Zy.2 (.inl (Zy.2 (.inl (MV (D:=⟨g,0,none⟩) (o:=cs.size) Zo))))) aa v ?_
   have a2:cs[0]? =some (.iface aa v):=by rw[<-ZO,hA];rfl
   simp[World.cell?,aj,a2]
  cases az:Mc P nm h6.type d n with
  |none=>exact skip (by simp[gF,bX,Lh,az])
  |some eX=>
   obtain⟨k,aP,os⟩:=eX
   by_cases EQ:0<k.length
   ·have bl:gF P nm ((v0,d)::r) n=((gF P nm r aP).1,(g,FK k)::(os++(gF P nm r aP).2)):=by
     have:Nat.blt 0 k.length=true:=by simp[Nat.blt];omega
     simp[gF,bX,Lh,az,this]
    obtain⟨bm,ct,ez,a3⟩:=aqu (C:=C) (w:=w) jv az (cs:=cs.toList) (db:=p) aI (ce.of λe F=>Zy.2 (.inl (Zy.2 (.inr F)))) fs
    obtain⟨b0,cy,e5,cT⟩:=ah aP al H5 U aa9 ν
    have bm:n<=aP:=bm
    rw[bl]
    refine⟨ZA bm b0, ?_,λb=>if b<aP then ez b else e5 b, ?_⟩
    ·intro x af
     rcases Zq.1 af with rfl|af
     ·exact⟨.inl Qe, .inl Qe,R2 k⟩
     ·rcases Zy.1 af with al|al
      ·obtain⟨cH,cB,dN⟩:=ct x al
       exact⟨.inr cH, .inr (ZN cB b0),dN⟩
      ·obtain⟨cH,cB,dN⟩:=cy x al
       exact⟨cH.imp id (λa=>ZA bm a),cB,dN⟩
    ·intro J Y dt eo
     obtain⟨dv,dK,gM⟩:=a3 J Y (λb I M=>by
      have Em:b<aP:=M
      have:=dt b I (ZN M b0)
      simp only[Zp Em]at this
      exact this)
     have eI:=cT J Y (λb I M=>by
      have sE:¬b<aP:=zt.2 I
      have:=dt b (ZA bm I) M
      simp only[Zg sE]at this
      exact this) eo
     intro x af
     rcases Zq.1 af with rfl|af
     ·obtain⟨apv,awo⟩:=eo g Qe
      obtain⟨ty,tb,aj⟩:=adU bX bt
      have d9:cs.size=k.length:=by
       have:=congrArg List.length dv
       rw[jo]at this
       simpa using this
      obtain⟨gA,dC,jb⟩:=ce g 0 (Zy.2 (.inl (Zy.2 (.inl (MV (D:=⟨g,0,none⟩) (o:=cs.size) Zo)))))
      rw[aj]at jb
      have aoD:tb=(0,0):=by
       simp only[Ze,Obj.cells.injEq]at jb
       exact jb.2.2
      rw[aoD]at aj
      simp only[apv]
      refine Ss (pl:=⟨g,0,0⟩) aj ?_ dK EQ
      simp only[Ya]
      rw[ZB Zx]
      exact dv
     ·rcases Zy.1 af with al|al
      ·exact gM x al
      ·exact eI x al
   ·exact skip (by
     have k1:k.length=0:=Zo
     have:Nat.blt 0 k.length=false:=by rw[k1];rfl
     simp[gF,bX,Lh,az,this])
def RA{nm:List (String×Nat)}(jv:x3 P nm){laid:List (String×DataW Unit)}{gS:Nat->List z->Option z}(a:laidMet P laid w):
 ∃J Y,c9 ⟨P,mH (gF P nm laid P.globals.size).2 .nil,(gF P nm laid P.globals.size).1,gS,P.globals.size⟩ J Y .nil (gF P nm laid P.globals.size).1 w.heap.size w/\
  re ⟨P,mH (gF P nm laid P.globals.size).2 .nil,(gF P nm laid P.globals.size).1,gS,P.globals.size⟩ J Y:=by
 obtain⟨db,gj,_,k1⟩:=a
 have ce:rb w db:=λb off aj=>(k1 b off aj).1
 obtain⟨bm,ct,f,a3⟩:=abM (C:=⟨P,mH (gF P nm laid P.globals.size).2 .nil,(gF P nm laid P.globals.size).1,gS,P.globals.size⟩) jv laid P.globals.size db rfl gj ce (λb off aj=>(k1 b off aj).2)
 generalize aL:gF P nm laid P.globals.size=r at bm ct a3 ⊢
 obtain⟨a6,os⟩:=r
 simp only at bm ct a3 ⊢
 have QB:∀b V,Z ⟨P,mH os .nil,a6,gS,P.globals.size⟩ .nil b=some V->(b,V)∈os/\b<a6:=by
  intro b V bb
  unfold Z at bb
  rw[eU]at bb
  split at bb
  ·rename_i aj
   rcases SA b V os .nil bb with al|al
   ·exact⟨al,kX aj⟩
   ·simp at al
  ·simp at bb
 refine⟨λb=>if b<P.globals.size then⟨b,0,0⟩else f b,λb=>b<a6,⟨Zi _,λ_ a=>a,λb V bb=>(QB b V bb).2, ?_, ?_, ?_, ?_⟩, ?_⟩
 ·intro b V bb _
  have:=a3 (λb=>if b<P.globals.size then⟨b,0,0⟩else f b) (λb=>b<a6) (λb I M=>⟨by rw[Zg Zo],M⟩) (λg bX=>⟨by rw[Zp bX],Zo⟩) (b,V) (QB b V bb).1
  exact this
 ·intro b dT V o' _ _ d _ _ aj
  exact absurd d (zt.2 aj)
 ·intro b V aj _ d
  exact absurd d (zt.2 aj)
 ·intro b V bb _
  exact(ct (b,V) (QB b V bb).1).2.2 _ _
 ·intro g bX
  have bX:g<P.globals.size:=bX
  exact⟨Zo,by simp[bX],by simp[bX]⟩
def Env.aql{nm:List (String×Nat)}(jv:x3 P nm){laid:List (String×DataW Unit)}{bR:Nat}{fn:Func}(jM:wg P)(ch:P.funcs[bR]? =some fn)(aL:(fn.name== "runtime.NumGoroutine")=false)(aj:fn.body=none)(I:Extern.findNext fn=none)
 (M:Extern.find fn=some Extern.BytealgIndexByte.indexByte)(a:laidMet P laid w):
 ∃J Y,Env ⟨P,mH (gF P nm laid P.globals.size).2 .nil,(gF P nm laid P.globals.size).1,vL bR,P.globals.size⟩ w J Y:=by
 obtain⟨J,Y,ak,aA⟩:=RA (gS:=vL bR) jv a
 refine⟨J,Y,jM,⟨λf args v bb=> ?_,λf args v bb J w _=> .inl (asg ch aL aj I M bb J w)⟩,ak,aA⟩
 obtain⟨rfl,s,c,rfl,rfl,aD,ay⟩:=acw bb
 exact⟨⟨λ_ _=>rfl,λ_=>trivial⟩,λ_ _=>rfl,λ_=>⟨aD,trivial,trivial⟩⟩
end
end
noncomputable section
open Go.RowKit (Below)
def vK(bR:Nat)(V:Nat->List z->Option z)(f:Nat)(args:List z):Option z:=
 bK (Nat.beq f bR) (match args with
  |[.str s]=>bK (wn s&&Nat.ble s.length 281474976710656) (some (.str s)) none
  |_=>none) (V f args)
section
variable{P:Program}{w:World}
def acv{bR f:Nat}{V:Nat->List z->Option z}{args:List z}{v:z}(a:vK bR V f args=some v):
 (f=bR/\∃s,args=[.str s]/\v= .str s/\(∀x∈s,x<256)/\s.length<=281474976710656)\/V f args=some v:=by
 unfold vK at a
 rw[hw]at a
 split at a
 ·rename_i B
  split at a
  ·rename_i s
   simp only[ey,Zn,Ze]at a
   exact .inl ⟨B,s,rfl,a.2.symm,N3 a.1.1,iN a.1.2⟩
  ·simp at a
 ·exact .inr a
def Env.aqk{nm:List (String×Nat)}(jv:x3 P nm){laid:List (String×DataW Unit)}{V:Nat->List z->Option z}{bR:Nat}{fn:Func}{c:Code}(ch:P.funcs[bR]? =some fn)(aL:(fn.name== "runtime.NumGoroutine")=false)(aj:fn.body=some c)
 (alZ:∀(s:ByteArray) (w:World),s.size<=281474976710656->Calls P bR #[.string s] w λB bO=>B= .returned (.string s)/\Below w.heap.size w bO)(a:laidMet P laid w){dx:cQ}{dE:Nat->Prop}
 (cA:Env ⟨P,mH (gF P nm laid P.globals.size).2 .nil,(gF P nm laid P.globals.size).1,V,P.globals.size⟩ w dx dE):
 ∃J Y,Env ⟨P,mH (gF P nm laid P.globals.size).2 .nil,(gF P nm laid P.globals.size).1,vK bR V,P.globals.size⟩ w J Y:=by
 obtain⟨J,Y,ak,aA⟩:=RA (gS:=vK bR V) jv a
 refine⟨J,Y,cA.jM,⟨λf args v bb=> ?_,λf args v bb J pJ m3=> ?_⟩,ak,aA⟩
 ·rcases acv bb with ⟨rfl,s,rfl,rfl,aD,_⟩|bb
  ·exact⟨⟨λ_ _=>rfl,λ_=>aD⟩,λ_ _=>rfl,λ_=>⟨aD,trivial⟩⟩
  ·exact cA.gS.val f args v bb
 ·rcases acv bb with ⟨rfl,s,rfl,rfl,aD,az⟩|bb
  ·right
   have Lx:¬fn.name= "runtime.NumGoroutine":=by simpa using aL
   refine⟨by simp[callFunc,ch,Lx,aj], ?_⟩
   have:=alZ (fC s) pJ (by simpa[fC,ByteArray.size]using az)
   exact this
  ·exact cA.gS.ok f args v bb J pJ m3
end
end
noncomputable section
open Go.RowKit (Below)
def adl(C:aM):List (Nat×ag)->R ag->R ag
 |[],H=>H
 |(b,V)::k,H=>adl C k (bn C H b (some V))
def pick(C:aM)(h:R ag):List Nat->List (Nat×ag)
 |[]=>[]
 |b::k=>match Z C h b with|some V=>(b,V)::pick C h k|none=>pick C h k
def Wp(C:aM):List Nat->Bool
 |[]=>true
 |b::k=>iB C b&&Wp C k
def ap4(C:aM)(L:List Nat)(h:R ag):R ag:=adl C (pick C h L) .nil
def asE(todo:List dy):Bool:=match todo with| .drawn .. ::_=>false|_=>true
def acp:List gh->Bool
 |[]=>true
 |c::k=>(match c with|⟨_,_,_,_,todo,_,_,_,_⟩=>(match todo with| .xP .. ::_=>false|_=>true))&&acp k
def WX(C:aM)(L:List Nat)(b:g5):g5:=λbG todo bR H h j=>match bR with
 |⟨fn,n,am,aW,aH,ro,cs⟩=>bK (asE todo&&acp cs&&Wp C L) (b bG todo ⟨fn,n,am,aW,aH,ro,cs⟩ H (ap4 C L h) j) none
section
variable{C:aM}{J dx:cQ}{Y dE:Nat->Prop}{h S:R ag}{j bd:Nat}{w:World}
variable{bi:World}{bz:Nat}{bH:List Frame}{v:z}{b:g5}
def ns(C:aM)(bi:World)(bz:Nat)(bH:List Frame)(bG:ku)(todo:List dy)(bR:hR)(H:R z)(h:R ag)(j:Nat)(v:z):Prop:=
 ∀J Y w c0 tmps bo ax,A2 C bi bz bH bG todo bR.fn bR.n bR.am bR.aW bR.aH bR.ro bR.cs H h j J Y w c0 tmps bo ax->Ends C bi bz bH v (lone (cd J bR.fn bR.aW bR.aH bR.ro tmps bo (gi J bG)) ax w)
open Classical in
def only(xr:ku)(S2:List dy)(kw:hR)(qz:R z)(a1:R ag)(CE:Nat)(v:z):g5:=λbG todo bR H h j=>
 if bG=xr/\todo=S2/\bR=kw/\H=qz/\h=a1/\j=CE then some v else none
end
end
noncomputable section
open Go.RowKit (Below)
def low(Y:Nat->Prop)(N:Nat)(b:Nat):Prop:=Y b/\b<N
section
variable{Y:Nat->Prop}{N:Nat}
end
end
noncomputable section
open Go.RowKit (Below)
section
variable{C:aM}{J dx:cQ}{Y dE:Nat->Prop}{h S:R ag}{j bd N:Nat}{w:World}
variable{bi:World}{bz g:Nat}{bH:List Frame}{v:z}{b:g5}
open Classical in
def fv(C:aM)(bi:World)(bz:Nat)(bH:List Frame)(v:z):g5:=λbG todo bR H h j=>if ns C bi bz bH bG todo bR H h j v then some v else none
def Vr:mQ C bi bz bH (fv C bi bz bH v):=by
 intro bG todo fn n am aW aH ro cs H h j aa aU J Y w c0 tmps bo ax cK
 unfold fv at aU
 split at aU
 ·rename_i a
  simp at aU;subst aU
  exact a J Y w c0 tmps bo ax cK
 ·cases aU
def hJ{bG:ku}{todo:List dy}{bR:hR}{H:R z}(a:ns C bi bz bH bG todo bR H h j v):fv C bi bz bH v bG todo bR H h j=some v:=by
 unfold fv
 rw[Zp a]
def akK{ej:dy}{o:List dy}{bR:hR}{H:R z}(aD:z.same 30 v v=true):∀k:List (z×R ag),k≠[]->(∀aa S,(aa,S)∈k->∃hb,oo ej aa=some hb/\ns C bi bz bH .run (hb::o) bR H S j v)->
 wJ (fv C bi bz bH v) ej o bR H j k=some v:=by
 intro k
 induction k with
 |nil=>intro a;exact absurd rfl a
 |cons p k lI=>
  obtain⟨aa,S⟩:=p
  intro _ kK
  obtain⟨hb,I,M⟩:=kK aa S (Zv ..)
  cases k with
  |nil=>simp only[wJ,I];exact hJ M
  |cons al k=>
   have ah:=lI Zs (λaa S a=>kK aa S (Zt _ a))
   simp only[wJ,I,hJ M]
   rw[ah]
   simp only[aD,fj]
end
end
noncomputable section
open Go.RowKit (Below)
abbrev bN:=z->R ag->Nat->Prop
abbrev Za0:=aM->z->R ag->Nat->bN->bN->Prop
abbrev Za1:=aM->z->z->R ag->Nat->bN->bN->Prop
abbrev Za2:=aM->z->z->z->R ag->Nat->bN->bN->Prop
abbrev Za3:=aM->z->z->z->z->R ag->Nat->bN->bN->Prop
abbrev Za4:=aM->z->z->z->z->z->R ag->Nat->bN->bN->Prop
abbrev zK:bN:=λ_ _ _=>False
structure da where
 g:Nat->Option z
 aW:List he:=[]
 rc:Bool:=false
instance:CoeFun da (λ_=>Nat->Option z):=⟨da.g⟩
def ac(H:da)(d:Nat)(v:z):da:=⟨λn=>bK (Nat.beq d n) (some v) (H.g n),H.aW,H.rc⟩
def hx(k:List Nat)(H:da):da:=⟨λn=>bK (r0 n k) none (H.g n),H.aW,H.rc⟩
def AC(H:da)(d:he):da:=⟨H.g,d::H.aW,H.rc⟩
def SD(H:da):da:=⟨H.g,H.aW,true⟩
abbrev fE:=da->R ag->Nat->Prop
abbrev si:=da->bN
structure tn where
 rd:Bool
 aW:Bool
 j5:Option (Option z)
def ca{α:Type}(V:Option α)(ai:α->Prop):Prop:=Option.rec (motive:=λ_=>Prop) False (λD=>ai D) V
def ase{α:Type}{V:Option α}{ai:α->Prop}{D:α}(a:V=some D)(o:ai D):ca V ai:=by subst a;exact o
def r4{α:Type}{V:Option α}{ai:α->Prop}:ca V ai↔∃D,V=some D/\ai D:=by
 cases V with
 |none=>simp[ca]
 |some D=>simp[ca]
structure ar{α:Type}(V:Option α)(ai:α->Prop):Prop where
 out:ca V ai
def asf{α:Type}(V:Option α)(ai:α->Prop):ar V ai=ca V ai:=propext ⟨λa=>a.out,λa=>⟨a⟩⟩
def gm{α:Type}{V:Option α}{ai:α->Prop}{D:α}(a:V=some D)(o:ai D):ar V ai:=⟨ase a o⟩
def kn{α:Type}{V:Option α}{ai:α->Prop}:ar V ai↔∃D,V=some D/\ai D:=by rw[asf];exact r4
def aiJ(v:z)(D b:Prop):Prop:=z.rec (motive_1:=λ_=>Prop) (motive_2:=λ_=>Prop)
 (λt=>(t=true->D)/\(t=false->b)) (λ_ _=>False) (λ_=>False) (λ_ _=>False) False (λ_ _ _ _=>False) (λ_ _ _ _=>False) False (λ_=>False) False
 (λ_ _ _ _ _=>False) False (λ_ _ _=>False) False (λ_ _=>False) (λ_ _=>False) False (λ_ _ _ _=>False) v
structure a8(v:z)(D b:Prop):Prop where
 out:aiJ v D b
def VK{v:z}{D b:Prop}(a:a8 v D b):∃t,v= .bool t/\(t=true->D)/\(t=false->b):=by
 have a:=a.out
 cases v with
 |bool t=>exact⟨t,rfl,a⟩
 |_=>exact a.elim
def alF(k9:Bool)(v:z)(D b:Prop):Prop:=z.rec (motive_1:=λ_=>Prop) (motive_2:=λ_=>Prop)
 (λt=>(t=k9->D)/\(t=(!k9)->b)) (λ_ _=>b) (λ_=>b) (λ_ _=>b) b (λ_ _ _ _=>b) (λ_ _ _ _=>b) b (λ_=>b) b
 (λ_ _ _ _ _=>b) b (λ_ _ _=>b) b (λ_ _=>b) (λ_ _=>b) b (λ_ _ _ _=>b) v
structure im(k9:Bool)(v:z)(D b:Prop):Prop where
 out:alF k9 v D b
structure oN(du:bN)(body:bN->Prop):Prop where
 out:body du
def apW(du:bN)(body:bN->Prop):oN du body=body du:=propext ⟨λa=>a.out,λa=>⟨a⟩⟩
structure bw(du:fE)(body:fE->Prop):Prop where
 out:body du
structure c3(du:z->Prop)(body:(z->Prop)->Prop):Prop where
 out:body du
structure uj(du:z->R ag->Prop)(body:(z->R ag->Prop)->Prop):Prop where
 out:body du
def apU(du:z->R ag->Prop)(body:(z->R ag->Prop)->Prop):uj du body=body du:=propext ⟨λa=>a.out,λa=>⟨a⟩⟩
structure L6(du:Prop)(body:Prop->Prop):Prop where
 out:body du
def apV(du:Prop)(body:Prop->Prop):L6 du body=body du:=propext ⟨λa=>a.out,λa=>⟨a⟩⟩
def jK{du:fE}{body:fE->Prop}(rf:fE)(I:∀W:fE,(∀H h j,rf H h j->W H h j)->body W)(M:∀H h j,rf H h j->du H h j):bw du body:=⟨I du M⟩
structure ff(n:Nat)(ai:Nat->Prop):Prop where
 out:ai n
structure g1(C:aM)(h:R ag)(j:Nat)(v:z)(cE:ag)(ai:bN):Prop where
 out:ai v (bn C h j (some cE)) (j+1)
structure l7(C:aM)(h:R ag)(b:Nat)(v:z)(cE:ag)(ai:z->R ag->Prop):Prop where
 out:ai v (bn C h b (some cE))
structure ws(C:aM)(h:R ag)(b:Nat)(D:z)(ai:z->R ag->Prop):Prop where
 out:ai (.ptr b 0) (bn C h b (some (.cells (R.ofList D.cells 0 .nil) D.cells.length .own)))
structure jW(C:aM)(h:R ag)(j:Nat)(D:z)(ai:bN):Prop where
 out:ai (.ptr j 0) (bn C h j (some (.cells (R.ofList D.cells 0 .nil) D.cells.length .own))) (j+1)
section
variable(C:aM)(bi:World)(bz:Nat)(bH:List Frame)(v:z)
def NA(cs:List gh):bN:=λaa h j=>sn (fv C bi bz bH v) false cs aa h j=some v
def JR(cs:List gh):bN:=λaa h j=>match cs with
 |c::rest=>ac5 (fv C bi bz bH v) c rest [⟨aa,false⟩] h j=some v
 |[]=>False
end
def tk(C:aM)(f:Nat)(args:List z)(h:R ag)(j:Nat)(bh c7:bN):Prop:=
 ∀(bi:World) (dx:cQ) (dE:Nat->Prop) (_:Env C bi dx dE) (bz:Nat) (bH:List Frame) (v:z) (_:z.same 30 v v=true) (cs:List gh),
  (∀aa S aq,bh aa S aq->NA C bi bz bH v cs aa S aq)->(∀aa S aq,c7 aa S aq->JR C bi bz bH v cs aa S aq)->
  nD (fv C bi bz bH v) C f args false cs h j=some v
def tk.mono{C:aM}{f:Nat}{args:List z}{h:R ag}{j:Nat}{bh c7 qy Gp:bN}(a:tk C f args h j bh c7)(fU:∀aa h j,bh aa h j->qy aa h j)(io:∀aa h j,c7 aa h j->Gp aa h j):
 tk C f args h j qy Gp:=
 λbi dx dE cA bz bH v aD cs I M=>a bi dx dE cA bz bH v aD cs (λaa h j al=>I aa h j (fU aa h j al)) (λaa h j al=>M aa h j (io aa h j al))
def MU(ah:g5)(C:aM)(k:Nat)(args:List z)(cs:List gh)(h:R ag)(j:Nat):dG:=match Z C h k with
 |some (.loop _ _ fn n am cN params assign body _)=>(match vT n params args cN with
  |some cN=>ah .run [.code assign, .beginRound, .code body] ⟨fn,n,am,[],false,some k,cs⟩ cN h j
  |none=>none)
 |_=>none
def x6(C:aM)(k:Nat)(args:List z)(h:R ag)(j:Nat)(bh c7:bN):Prop:=
 ∀(bi:World) (dx:cQ) (dE:Nat->Prop) (_:Env C bi dx dE) (bz:Nat) (bH:List Frame) (v:z) (_:z.same 30 v v=true) (cs:List gh),
  (∀aa S aq,bh aa S aq->NA C bi bz bH v cs aa S aq)->(∀aa S aq,c7 aa S aq->JR C bi bz bH v cs aa S aq)->
  MU (fv C bi bz bH v) C k args cs h j=some v
def x6.mono{C:aM}{k:Nat}{args:List z}{h:R ag}{j:Nat}{bh c7 qy Gp:bN}(a:x6 C k args h j bh c7)(fU:∀aa h j,bh aa h j->qy aa h j)(io:∀aa h j,c7 aa h j->Gp aa h j):
 x6 C k args h j qy Gp:=
 λbi dx dE cA bz bH v aD cs I M=>a bi dx dE cA bz bH v aD cs (λaa h j al=>I aa h j (fU aa h j al)) (λaa h j al=>M aa h j (io aa h j al))
def Tm(C:aM)(f:Nat)(args:List z)(j5:Option z)(h:R ag)(j:Nat)(bh:Bool->R ag->Nat->Prop):Prop:=
 ∀(bi:World) (dx:cQ) (dE:Nat->Prop) (_:Env C bi dx dE) (bz:Nat) (bH:List Frame) (v:z) (_:z.same 30 v v=true) (fn n am:Nat) (H:R z) (todo:List dy) (ds:List he) (aH:Bool) (ro:Option Nat) (cs:List gh),
  (∀b S aq,bh b S aq->fv C bi bz bH v (match j5,b with|none,_=> .returning|some _,true=> .returning|some aa,false=> .panicking [⟨aa,false⟩]) todo ⟨fn,n,am,ds,aH,ro,cs⟩ H S aq=some v)->
  nD (fv C bi bz bH v) C f args true (⟨fn,n,am,H,todo,ds,(match j5 with|none=> .returning|some aa=> .panicking [⟨aa,false⟩]),aH,ro⟩::cs) h j=some v
structure a7(C:aM)(f:Nat)(args:List z)(h:R ag)(j:Nat)(ai aw:bN):Prop where
 out:(∃aa,C.gS f args=some aa/\ai aa h j)\/(C.gS f args=none/\(∃fn c,C.P.funcs[f]? =some fn/\fn.body=some c)/\tk C f args h j ai aw)
structure ht(V:Option dI)(h:R ag)(j:Nat)(ai:bN):Prop where
 out:match V with
 |some (.val v)=>ai v h j
 |some (.fl v S aq)=>ai v S aq
 |_=>False
def atk(V:Option dI)(h:R ag)(j:Nat)(ai:bN):ht V h j ai=(match V with
 |some (.val v)=>ai v h j
 |some (.fl v S aq)=>ai v S aq
 |_=>False):=propext ⟨λa=>a.out,λa=>⟨a⟩⟩
def atl{V:Option dI}{h:R ag}{j:Nat}{ai:bN}{v:z}(a:V=some (.val v))(o:ai v h j):ht V h j ai:=by subst a;exact⟨o⟩
def mc{V:Option dI}{h S:R ag}{j aq:Nat}{ai:bN}{v:z}(a:V=some (.fl v S aq))(o:ai v S aq):ht V h j ai:=by subst a;exact⟨o⟩
structure Eb(V:Option dI)(h:R ag)(j:Nat)(ai:bN):Prop where
 out:match V with
 |some (.val v)=>ai v h j
 |some (.fl v S aq)=>ai v S aq
 |some (.fork k)=>k≠[]/\∀aa S,(aa,S)∈k->ai aa S j
 |_=>False
def akM(V:Option dI)(h:R ag)(j:Nat)(ai:bN):Eb V h j ai=(match V with
 |some (.val v)=>ai v h j
 |some (.fl v S aq)=>ai v S aq
 |some (.fork k)=>k≠[]/\∀aa S,(aa,S)∈k->ai aa S j
 |_=>False):=propext ⟨λa=>a.out,λa=>⟨a⟩⟩
def A6(C:aM)(rd:Bool)(V:Option dI)(h:R ag)(j:Nat)(ai aw:bN):Prop:=match V with
 |some (.val v)=>ai v h j
 |some (.fl v S aq)=>ai v S aq
 |some (.enter f args)=>tk C f args h j ai aw
 |some (.round k args)=>x6 C k args h j ai aw
 |some (.known _ _ v)=>ai v h j
 |some (.panic v)=>bK rd False (aw v h j)
 |some (.fork k)=>k≠[]/\∀aa S,(aa,S)∈k->ai aa S j
 |_=>False
def i7(x:jR)(an:List (Nat×z))(H:da)(ai:z->Prop):Prop:=
 jR.rec (motive:=λ_=>Prop) (λW=>ca (d1 an W) ai) (λn=>ca (H n) ai) (λD=>ai D) x
def KE(an:List (Nat×z))(H:da)(k:List jR):(List z->Prop)->Prop:=
 List.rec (motive:=λ_=>(List z->Prop)->Prop) (λai=>ai []) (λx _ ah ai=>i7 x an H λD=>ah λr=>ai (D::r)) k
def ek(bT:List (Nat×Nat))(an:List (Nat×z))(H:da)(V:Operand)(ai:z->Prop):Prop:=match V with
 | .tmp t=>(match d1 bT t with|some W=>ca (d1 an W) ai|none=>ca (H t) ai)
 | .const v=>ca (CF v) ai
 | .global g=>ai (.ptr g 0)
 | .func f=>ai (.func (.func f) [] [])
def r3(bT:List (Nat×Nat))(an:List (Nat×z))(H:da)(k:List Operand):(List z->Prop)->Prop:=
 List.rec (motive:=λ_=>(List z->Prop)->Prop) (λai=>ai []) (λx _ ah ai=>ek bT an H x λD=>ah λr=>ai (D::r)) k
def Az(bT:List (Nat×Nat))(an:List (Nat×z))(H:da)(k:List (Nat×Operand)):(List (Nat×z)->Prop)->Prop:=
 List.rec (motive:=λ_=>(List (Nat×z)->Prop)->Prop) (λai=>ai []) (λx _ ah ai=>ek bT an H x.2 λD=>ah λr=>ai ((x.1,D)::r)) k
def MB(bT:List (Nat×Nat))(an:List (Nat×z))(H:da)(V:Option Operand)(ai:Option z->Prop):Prop:=match V with
 |none=>ai none
 |some x=>ek bT an H x λD=>ai (some D)
def j3:Operand:= .global 0
def gH:Operand:= .global 1
def l9:Operand:= .global 2
def j4(D:z):Operand->Option z:=λ_=>some D
def two(D b:z):Operand->Option z:=λV=>match V with| .global 0=>some D|_=>some b
def adG(D b c:z):Operand->Option z:=λV=>match V with| .global 0=>some D| .global 1=>some b|_=>some c
def E9(n aO:Nat)(D i:z):Option z:=match nh i with|some i=>JB n aO D i|none=>none
def hr(aO:Nat)(D i:z):Option z:=match nh i with|some i=>AN aO D i|none=>none
def WF(C:aM)(t f:Nat)(D:z):Option z:=ID C t j3 f .nil (j4 D)
def V4(C:aM)(h:R ag)(s d:Nat)(D:z):Option z:=IC C s d j3 h (j4 D)
def abg(C:aM)(t:Nat)(D:z):Option z:=IE C t j3 .nil (j4 D)
def Vy(C:aM)(t:Nat)(ok:Bool)(D:z):Option z:=IB C j3 t ok .nil (j4 D)
def Wt(C:aM)(h:R ag)(D:z):Option z:=Ru C j3 h (j4 D)
def rm(C:aM)(h:R ag)(b:Builtin)(cS:List TypeId)(bj:List z):Option z:=match b,bj with
 | .len,[x]=>(match cS with|t::_=>J0 C h t x|_=>none)
 | .cap,[x]=>(match cS with|t::_=>JX C t x|_=>none)
 | .max,x::k=>oe true x k
 | .min,x::k=>oe false x k
 |_,_=>none
def fc(C:aM)(h:R ag)(s:Nat)(D v:z):Option (R ag):=match D with
 | .ptr b V=>bK (Nat.beq v.cells.length s&&Nat.blt 0 s) (og C h b V v.cells) none
 |_=>none
def Ew(C:aM)(h:R ag)(j:Nat)(b:Builtin)(cS:List TypeId)(bj:List z):Option dI:=match b,bj with
 | .append,[s,x]=>(match cS with
   |st::hX::_=>(match C.P.underlying hX with
    |some (.int _)=>(match nh x with|some n=>JY C h j st s n|none=>none)
    |some (.slice _)=>DK C h j st s x
    |some .string=>DK C h j st s x
    |_=>none)
   |_=>none)
 |_,_=>none
structure mx(C:aM)(lX:z)(cf:List z)(h:R ag)(j:Nat)(ai aw:bN):Prop where
 out:match lX with
 | .func fn first fm=>(match fn with| .func f=>a7 C f ((first++cf)++fm) h j ai aw| .yield k=>x6 C k (first++cf) h j ai aw|_=>False)
 |_=>False
def M1(C:aM)(t len:Nat)(db:List (Nat×z))(b:Nat):Option (z×ag):=match C.P.underlying t with
 |some (.slice dU)=>(match iK C dU,se C dU with
  |some s,some br=>bK (Nat.ble (len*s) 16777216&&Nat.beq br.cells.length s) ((match yu (λi=>some (i*s,s)) (kp len br.cells) db with
    |some cs=>some (z.slice b 0 len len,ag.cells (R.ofList cs 0 .nil) cs.length .own)
    |none=>none))<|none
  |_,_=>none)
 |_=>none
structure xx(aw:bN)(D:z)(h:R ag)(j:Nat):Prop where
 out:match D with| .iface t v=>aw (.iface t v) h j|_=>False
def asq(aw:bN)(D:z)(h:R ag)(j:Nat):xx aw D h j=(match D with| .iface t v=>aw (.iface t v) h j|_=>False):=propext ⟨λa=>a.out,λa=>⟨a⟩⟩
structure ab9(C:aM)(rd:Bool)(hF:z)(name:String)(cf:List z)(h:R ag)(j:Nat)(ai aw:bN):Prop where
 out:match hF with
 | .iface t v=>A6 C rd (DL C h t v name cf) h j ai aw
 |_=>False
def arl(C:aM)(rd:Bool)(hF:z)(name:String)(cf:List z)(h:R ag)(j:Nat)(ai aw:bN):ab9 C rd hF name cf h j ai aw=(match hF with
 | .iface t v=>A6 C rd (DL C h t v name cf) h j ai aw
 |_=>False):=propext ⟨λa=>a.out,λa=>⟨a⟩⟩
def abQ(bT:List (Nat×Nat))(V:Op):aM->R ag->List (Nat×z)->da->(z->Prop)->Prop:=match V with
 | .build t jy=>λC _ an H ai=>Az bT an H jy.toList λdb=>ar (JW C t db) ai
 | .binOp op t x e _=>λC h an H ai=>ek bT an H x λD=>ek bT an H e λb=>ar (dc C h op t (qg x||qg e) D b) ai
 | .unOp op _ x=>λ_ _ an H ai=>ek bT an H x λD=>ar (g7 op D) ai
 | .convert s d x=>λC h an H ai=>ek bT an H x λD=>ar (V4 C h s d D) ai
 | .makeInterface t x=>λC _ an H ai=>ek bT an H x λD=>ar (abg C t D) ai
 | .makeFunc fn first fm=>λ_ _ an H ai=>(match fn with
   | .func f=>r3 bT an H first.toList λD=>r3 bT an H fm.toList λb=>ai (.func (.func f) D b)
   |_=>False)
 | .slice t x bL aE gR=>λC h an H ai=>ek bT an H x λD=>MB bT an H bL λk=>MB bT an H aE λa=>MB bT an H gR λm=>ar (J2 C h t D k a m) ai
 | .field t x f=>λC _ an H ai=>ek bT an H x λD=>ar (WF C t f D) ai
 | .index t x i=>λC _ an H ai=>ek bT an H x λD=>ek bT an H i λb=>ar (JZ C t D b) ai
 | .lookup t m o ok=>λC h an H ai=>ek bT an H m λD=>ek bT an H o λb=>ar (J1 C h t D b ok) ai
 | .typeAssert x _ t ok=>λC _ an H ai=>ek bT an H x λD=>ar (Vy C t ok D) ai
 | .entry ej=>λC h an H ai=>ek bT an H ej λD=>ar (Wt C h D) ai
 | .call c=>λC h an H ai=>(match c with
   |⟨.builtin b,args,cS⟩=>r3 bT an H args.toList λbj=>ar (rm C h b cS.toList bj) ai
   |_=>False)
 |_=>λ_ _ _ _ _=>False
def Fh(op:jl):aM->R ag->List (Nat×z)->da->(z->Prop)->Prop:=match op with
 | .Cu x=>λ_ _ an H ai=>i7 x an H ai
 | .pick c D b=>λ_ _ an H ai=>i7 c an H λc=>c3 ai λai=>a8 c (i7 D an H ai) (i7 b an H ai)
 | .fA D=>λC h an H ai=>i7 D an H λD=>ar (aR C h D) ai
 | .Af n D=>λC h an H ai=>i7 D an H λD=>ar (d0 C h n D) ai
 | .off d x=>λ_ _ an H ai=>i7 x an H λD=>ar (hI d D) ai
 | .y6 n aO x i=>λ_ _ an H ai=>i7 x an H λD=>i7 i an H λi=>ar (E9 n aO D i) ai
 | .y7 aO x i=>λ_ _ an H ai=>i7 x an H λD=>i7 i an H λi=>ar (hr aO D i) ai
 | .CA x=>λ_ _ an H ai=>i7 x an H λD=>ar (mh D) ai
 | .Ip op x e=>λ_ _ an H ai=>i7 x an H λD=>i7 e an H λb=>ar (bg op D b) ai
 | .ext i x=>λ_ _ an H ai=>i7 x an H λD=>ar (q2 i D) ai
 | .hC bT V=>abQ bT V
 |_=>λ_ _ _ _ _=>False
def ab1(op:jl):aM->R ag->Nat->List (Nat×z)->da->bN->Prop:=match op with
 | .make bT V=>(match V with
   | .alloc t=>λC h b _ _ ai=>ar (Cp C t (j4 undef) b) λr=>g1 C h b r.1 r.2 ai
   | .box _ x=>λC h b an H ai=>ek bT an H x λD=>jW C h b D ai
   | .buildSlice t len jy=>λC h b an H ai=>Az bT an H jy.toList λdb=>ar (M1 C t len db b) λr=>g1 C h b r.1 r.2 ai
   | .makeMap _ none=>λC h b _ _ ai=>g1 C h b (.map b) (.map [] 0) ai
   |_=>λ_ _ _ _ _ _=>False)
 |_=>λ_ _ _ _ _ _=>False
def RP(op:jl):aM->R ag->Nat->List (Nat×z)->da->(z->R ag->Prop)->Prop:=match op with
 | .make bT V=>(match V with
   | .alloc t=>λC h b _ _ ai=>ar (Cp C t (j4 undef) b) λr=>l7 C h b r.1 r.2 ai
   | .box _ x=>λC h b an H ai=>ek bT an H x λD=>ws C h b D ai
   | .buildSlice t len jy=>λC h b an H ai=>Az bT an H jy.toList λdb=>ar (M1 C t len db b) λr=>l7 C h b r.1 r.2 ai
   | .makeMap _ none=>λC h b _ _ ai=>l7 C h b (.map b) (.map [] 0) ai
   |_=>λ_ _ _ _ _ _=>False)
 |_=>λ_ _ _ _ _ _=>False
def P9(rd:Bool)(op:jl):aM->R ag->Nat->List (Nat×z)->da->bN->bN->Prop:=match op with
 | .st n D v=>λC h j an H ai _=>i7 D an H λD=>i7 v an H λv=>ar (fc C h n D v) λh=>ai undef h j
 | .call f args=>λC h j an H ai aw=>KE an H args λcf=>a7 C f cf h j ai aw
 | .e2 bT V=>(match V with
   | .mapUpdate t m o x=>λC h j an H ai _=>ek bT an H m λD=>ek bT an H o λb=>ek bT an H x λc=>ht (Gu C h j t D b c) h j ai
   | .insert t m o x=>λC h j an H ai _=>ek bT an H m λD=>ek bT an H o λb=>ek bT an H x λc=>ht (Gu C h j t D b c) h j ai
   | .mapEntry t m o=>λC h j an H ai _=>ek bT an H m λD=>ek bT an H o λb=>ht (Hs C t j3 gH h j (two D b)) h j ai
   | .entryStore _ m s x=>λC h j an H ai _=>ek bT an H m λD=>ek bT an H s λb=>ek bT an H x λc=>ht (Hl C j3 gH l9 h j (adG D b c)) h j ai
   | .makeSlice t k c=>λC h j an H ai _=>ek bT an H k λD=>ek bT an H c λb=>ht (Hr C t j3 gH h j (two D b)) h j ai
   | .makeMap t (some r)=>λC h j an H ai _=>ek bT an H r λD=>ht (Hq C t j3 h j (j4 D)) h j ai
   | .convert s d x=>λC h j an H ai _=>ek bT an H x λD=>ht (Hy C s d j3 h j (j4 D)) h j ai
   | .range t x=>λC h j an H ai _=>ek bT an H x λD=>ht (Hw C t j3 h j (j4 D)) h j ai
   | .next ej xl=>λC h j an H ai _=>ek bT an H ej λD=>Eb (va C j3 xl h j (j4 D)) h j ai
   | .panic x=>λ_ h j an H _ aw=>bK rd False (ek bT an H x λD=>xx aw D h j)
   | .call c=>λC h j an H ai aw=>(match c with
     |⟨.value f,args,_⟩=>ek bT an H f λlX=>r3 bT an H args.toList λcf=>mx C lX cf h j ai aw
     |⟨.builtin b,args,cS⟩=>r3 bT an H args.toList λbj=>ht (Ew C h j b cS.toList bj) h j ai
     |⟨.invoke r name,args,_⟩=>ek bT an H r λhF=>r3 bT an H args.toList λcf=>ab9 C rd hF name cf h j ai aw)
   |_=>λ_ _ _ _ _ _ _=>False)
 |_=>λ_ _ _ _ _ _ _=>False
def R5(rd:Bool)(op:jl)(C:aM)(h:R ag)(j:Nat)(an:List (Nat×z))(H:da)(ai aw:bN):Prop:=match l3 op with
 | .hC=>Fh op C h an H λv=>ai v h j
 | .make=>ab1 op C h j an H ai
 | .e2=>P9 rd op C h j an H ai aw
inductive Spec where
 |no
 |defer (bT:List (Nat×Nat)) (f:Operand) (args:List Operand)
 |recover
def C0(op:jl):Spec:=match op with
 | .e2 bT V=>(match V with
   | .defer c=>(match c with|⟨.value f,args,_⟩=> .defer bT f args.toList|_=> .no)
   | .call c=>(match c with|⟨.builtin b,args,_⟩=>(match b,args.toList with| .recover,[]=> .recover|_,_=> .no)|_=> .no)
   |_=> .no)
 |_=> .no
def Kl(lX:z)(cf:List z)(H:da)(ai:da->Prop):Prop:=match lX with
 | .func fn first fm=>ai (AC H ⟨.fn fn fm,first++cf⟩)
 |_=>False
def Jb(j5:Option (Option z))(H:da)(ai:z->da->Prop):Prop:=match j5 with
 |none=>False
 |some none=>ai .nilIface H
 |some (some aa)=>bK H.rc (ai .nilIface H) (ai aa (SD H))
def Nd(g:Option (Nat×Bool))(an:List (Nat×z))(D b:Prop):Prop:=match g with
 |none=>D
 |some (W,k9)=>ca (d1 an W) λv=>im k9 v D b
def Ng(g:Option (Nat×Bool))(an:List (Nat×z))(oU:bN->Prop)(du:bN)(h:R ag)(j:Nat):Prop:=match g with
 |none=>oU du
 |some (W,k9)=>oN du λai=>ca (d1 an W) λv=>im k9 v (oU ai) (ai undef h j)
def q1(g:Option (Nat×Bool))(an:List (Nat×z))(oU:(z->R ag->Prop)->Prop)(du:z->R ag->Prop)(h:R ag):Prop:=match g with
 |none=>oU du
 |some (W,k9)=>uj du λai=>ca (d1 an W) λv=>im k9 v (oU ai) (ai undef h)
def S9(g:Option (Nat×Bool))(an:List (Nat×z))(oU:Prop->Prop)(du:Prop):Prop:=match g with
 |none=>oU du
 |some (W,k9)=>L6 du λai=>ca (d1 an W) λv=>im k9 v (oU ai) ai
def ad2(g:Option (Nat×Bool))(an:List (Nat×z))(oU:bN->Prop)(du:bN)(h:R ag)(j:Nat):Ng g an oU du h j=Nd g an (oU du) (du undef h j):=by
 cases g with
 |none=>rfl
 |some p=>exact apW _ _
def avD(g:Option (Nat×Bool))(an:List (Nat×z))(oU:(z->R ag->Prop)->Prop)(du:z->R ag->Prop)(h:R ag):q1 g an oU du h=Nd g an (oU du) (du undef h):=by
 cases g with
 |none=>rfl
 |some p=>exact apU _ _
def avE(g:Option (Nat×Bool))(an:List (Nat×z))(oU:Prop->Prop)(du:Prop):S9 g an oU du=Nd g an (oU du) du:=by
 cases g with
 |none=>rfl
 |some p=>exact apV _ _
def G6(k:List (Nat×Nat)):List (Nat×z)->da->(da->Prop)->Prop:=
 List.rec (motive:=λ_=>List (Nat×z)->da->(da->Prop)->Prop) (λ_ H ai=>ai H)
  (λp _ ah an H ai=>ca (d1 an p.1) λv=>ah an (ac H p.2 v) ai) k
def AH(C:aM)(bG:tn)(fin:List (Nat×Nat))(ai:fE)(aw:si)(rest:List e4):List (Nat×z)->da->R ag->Nat->Prop:=
 List.rec (motive:=λ_=>List (Nat×z)->da->R ag->Nat->Prop) (λan H h j=>G6 fin an H λH=>ai H h j)
  (λx _ ah an H h j=>match C0 x.op with
   | .no=>Ng x.g an (λai=>R5 bG.rd x.op C h j an H ai (aw H)) (λv h j=>ah ((x.i,v)::an) H h j) h j
   | .defer bT f args=>bK (x.g.isNone&&bG.aW) (ek bT an H f λlX=>r3 bT an H args λcf=>Kl lX cf H λH=>ah ((x.i,undef)::an) H h j) False
   | .recover=>bK (x.g.isNone&& !bG.rd) (Jb bG.j5 H λv H=>ah ((x.i,v)::an) H h j) False) rest
def Mf(C:aM)(base:Nat)(H:da)(k:List e4):List (Nat×z)->R ag->(List (Nat×z)->R ag->Prop)->Prop:=
 List.rec (motive:=λ_=>List (Nat×z)->R ag->(List (Nat×z)->R ag->Prop)->Prop) (λan h ai=>ai an h)
  (λx _ ah an h ai=>q1 x.g an (λW=>match l3 x.op with
   | .make=>RP x.op C h (base+x.i) an H W
   |_=>Fh x.op C h an H λv=>W v h) (λv h=>ah ((x.i,v)::an) h ai) h) k
structure hG(x:z)(V:Option z)(ai:Prop):Prop where
 out:ca V λaa=>z.same 30 x aa=true/\ai
def Sh(C:aM)(H:da)(an:List (Nat×z))(h:R ag)(k:List e4):Prop->Prop:=
 List.rec (motive:=λ_=>Prop->Prop) (λai=>ai) (λx _ ah ai=>S9 x.g an (λal=>Fh x.op C h an H λv=>hG v (d1 an x.i) al) (ah ai)) k
def OJ(C:aM)(rd:Bool)(base:Nat)(fin:List (Nat×Nat))(H:da)(ai:fE)(aw:bN)(kT:List uN):List (Nat×z)->R ag->Nat->Prop:=
 List.rec (motive:=λ_=>List (Nat×z)->R ag->Nat->Prop) (λ_ _ _=>False)
  (λs _ ah an h j=>Mf C base H s.sZ an h λan h=>Sh C H an h s.Sg (match s.e2 with
   |none=>G6 fin an H λH=>ai H h j
   |some a=>Ng a.g an (λai=>P9 rd a.op C h j an H ai aw) (λv h j=>ah ((a.i,v)::an) h j) h j)) kT
structure fQ(body:fE->fE)(H:da)(h:R ag)(j:Nat):Prop where
 out:∃rf:Nat->fE,(∃m,rf m H h j)/\∀m H h j,rf m H h j->body (λH h j=>∃eH,eH<m/\rf eH H h j) H h j
def Bn(id:Nat)(ai:fE)(B:Nat->fE):Nat->fE:=λsS=>bK (Nat.beq id sS) ai (B sS)
def OS(V:Operand)(H:da)(ai:z->Prop):Prop:=ek [] [] H V ai
def atf(C:aM)(n am:Nat)(bG:tn)(aw:si)(ao:Array Oper)(yq:Bool)(ai:fE):fE:=λH h j=>Bool.rec (motive:=λ_=>Prop)
 (ca (IR C n ao am) λr=>AH C bG r.fin ai (λH=>aw (hx (dstsOf ao.toList) H)) r.rest [] H h j)
 (ca (IQ C n ao am) λr=>ff (j+ao.size) λaq=>OJ C bG.rd j r.fin H ai (aw (hx (dstsOf ao.toList) H)) r.kT [] h aq) yq
def FM(n:Nat):List Nat->List z->da->(da->Prop)->Prop
 |[],[],H,ai=>ai H
 |p::db,D::cf,H,ai=>bK (Nat.blt p n) (FM n db cf (ac H p D) ai) False
 |_,_,_,_=>False
structure aiE(C:aM)(k:Nat)(mk:LoopState->Option Code->ag)(h:R ag)(o:Prop):Prop where
 here:Z C h k=some (mk .ready none)
 go:o
structure KA(C:aM)(k:Nat)(mk:LoopState->Option Code->ag)(st:LoopState)(p:Option Code)(b:Bool)(ai:bN)(h:R ag)(j:Nat):Prop where
 here:∃adr us,Z C h k=some (mk adr us)
 go:ai (.bool b) (bn C h k (some (mk st p))) j
abbrev JN:=tn->si->fE->(Nat->fE)->fE->fE
def Al:tn:=⟨true,false,none⟩
def r9(C:aM)(A bd:JN)(k:Nat)(mk:LoopState->Option Code->ag)(ai aw:bN):fE:=λH h j=>
 A Al (λ_=>aw) (λH h j=>aiE C k mk h (bd Al (λ_=>aw) (λ_ h j=>KA C k mk .ready none true ai h j) (λid _ h j=>KA C k mk .done (some (.exit id)) false ai h j)
   (λ_ h j=>KA C k mk .done (some .ret) false ai h j) H (bn C h k (some (mk .busy none))) j)) (λ_ _ _ _=>False) (λ_ _ _=>False) H h j
def acK(p:Option Code)(ai:fE)(B:Nat->fE)(r:fE):fE:=match p with
 |none=>ai
 |some c=>(match c with| .exit id=>B id| .ret=>r|_=>λ_ _ _=>False)
def uo(H:da)(j:Nat):da:=AC H ⟨.collected j,[]⟩
structure CP(C:aM)(n:Nat)(lX:z)(params:List Nat)(c7:Nat->(LoopState->Option Code->ag)->bN->bN->fE)(ai:fE)(B:Nat->fE)(r:fE)(aw:si)(H:da)(h:R ag)(j:Nat):Prop where
 low:C.a6<=j
 out:match lX with
  | .func fn first fm=>(match fn with
    | .func g=>∀mk:LoopState->Option Code->ag,
       (∀args S aq j9 d5,Z C S (j+1)=some (mk .ready none)->FM n params args H (λqz=>c7 (j+1) mk j9 d5 qz S aq)->x6 C (j+1) args S aq j9 d5)->
       tk C g (first++[.func (.yield (j+1)) [] []]++fm) (bn C (bn C h j (some (.deferred (some [])))) (j+1) (some (mk .ready none))) (j+2)
        (λ_ S aq=>∃st p,st≠ .busy/\Z C S (j+1)=some (mk st p)/\acK p ai B r (uo H j) (bn C S (j+1) (some (mk .exhausted p))) aq)
        (aw (uo H j))
    |_=>False)
  |_=>False
def uT(C:aM)(n am:Nat)(c:Code):JN:=
 Code.rec (motive:=λ_=>JN)
  (λ_ _ ai _ _=>ai)
  (λ_ ao d bG aw ai _ _=>atf C n am bG aw ao d ai)
  (λ_ _ l2 ha bG aw ai B r=>l2 bG aw (ha bG aw ai B r) B r)
  (λc _ _ l2 ha bG aw ai B r H h j=>OS c H λv=>bw ai λai=>a8 v (l2 bG aw ai B r H h j) (ha bG aw ai B r H h j))
  (λid _ ha bG aw ai B r H h j=>bw ai λai=>ha bG aw ai (Bn id ai B) r H h j)
  (λ_ ha bG aw _ B r=>fQ λN2=>ha bG aw N2 B r)
  (λf params _ _ l2 ha bG aw ai B r H h j=>bK bG.aW (OS f H λlX=>CP C n lX params.toList (r9 C l2 ha) ai B r aw H h j) False)
  (λid _ _ _ B _=>B id)
  (λ_ ha bG aw ai B r=>ha bG aw ai B r)
  (λ_ _ _ ai _ _=>ai)
  (λ_ _ _ _ _ _ _ _ _=>False)
  (λ_ _ _ _ r=>r)
  (λ_ _ _ _ _ _ _ _ _=>False) c
def qo(C:aM)(h:R ag)(H:da)(k:List ResultVar):(List z->Prop)->Prop:=
 List.rec (motive:=λ_=>(List z->Prop)->Prop) (λai=>ai [])
  (λx _ ah ai=>ResultVar.rec (motive:=λ_=>Prop) (λt=>ca (H t) λv=>ah λr=>ai (v::r)) (λD t=>ca (H D) λp=>ar (pb C h t p) λv=>ah λr=>ai (v::r)) x) k
def cY(k:List z):da:=⟨λn=>qX k n,[],false⟩
structure yo(C:aM)(fn:Fn)(cf:List z)(j5:Option z)(h:R ag)(j:Nat)(bh:Bool->R ag->Nat->Prop):Prop where
 out:match fn with
  | .func f=>C.gS f cf=none/\(∃fn c,C.P.funcs[f]? =some fn/\fn.body=some c)/\Tm C f cf j5 h j bh
  |_=>False
structure Mu(C:aM)(r:Nat)(h:R ag)(o:Prop):Prop where
 low:C.a6<=r
 here:Z C h r=some (.deferred (some []))
 go:o
def oW(C:aM)(Jg:List ResultVar)(bh:bN)(H:da)(ds:List he):R ag->Nat->Prop:=
 List.rec (motive:=λ_=>R ag->Nat->Prop) (λh j=>qo C h H Jg λbj=>bh (one bj) h j)
  (λd _ ah h j=>match d.target with
   | .collected r=>Mu C r h (ah (bn C h r (some (.deferred none))) j)
   | .fn fn cap=>yo C fn (d.args++cap) none h j λ_ h j=>ah h j) ds
def vN(C:aM)(Jg:List ResultVar)(bh c7:bN)(H:da)(aa:z):List he->R ag->Nat->Prop
 |[],h,j=>c7 aa h j
 |d::ds,h,j=>match d.target with
   | .collected r=>Mu C r h (vN C Jg bh c7 H aa ds (bn C h r (some (.deferred none))) j)
   | .fn fn cap=>yo C fn (d.args++cap) (some aa) h j λb h j=>bK b (oW C Jg bh H ds h j) (vN C Jg bh c7 H aa ds h j)
def Fm:tn:=⟨false,false,none⟩
def xr:tn:=⟨false,true,none⟩
def Bs(C:aM)(f:Nat)(args:List z)(h:R ag)(j:Nat)(bh c7:bN):Prop:=match C.P.funcs[f]? with
 |some fn=>(match fn.body with
  |some c=>uT C fn.ntmps (Nat.lor (jL c) (nj fn.results.toList)) c xr (λH aa h j=>vN C fn.results.toList bh c7 H aa H.aW h j) (λH h j=>oW C fn.results.toList bh H H.aW h j) (λ_ _ _ _=>False)
    (λH h j=>oW C fn.results.toList bh H H.aW h j) (cY args) h j
  |none=>False)
 |none=>False
def D9(C:aM)(f:Nat)(args:List z)(j5:Option z)(h:R ag)(j:Nat)(bh:Bool->R ag->Nat->Prop):Prop:=match C.P.funcs[f]? with
 |some fn=>(match fn.body with
  |some c=>uT C fn.ntmps (Nat.lor (jL c) (nj fn.results.toList)) c ⟨false,false,some j5⟩ (λ_ _ _ _=>False) (λH h j=>qo C h H fn.results.toList λ_=>bh H.rc h j) (λ_ _ _ _=>False)
    (λH h j=>qo C h H fn.results.toList λ_=>bh H.rc h j) (cY args) h j
  |none=>False)
 |none=>False
def dr(C:aM)(f:Nat)(args:List z)(h:R ag)(j:Nat)(bh c7:bN):Prop:=match C.P.funcs[f]? with
 |some fn=>(match fn.body with
  |some c=>uT C fn.ntmps (Nat.lor (jL c) (nj fn.results.toList)) c Fm (λ_=>c7) (λH h j=>qo C h H fn.results.toList λbj=>bh (one bj) h j) (λ_ _ _ _=>False)
    (λH h j=>qo C h H fn.results.toList λbj=>bh (one bj) h j) (cY args) h j
  |none=>False)
 |none=>False
def dd(C:aM)(f dM:Nat):Bool:=match C.P.funcs[f]? with
 |some fn=>(match fn.body with
  |some c=>Nat.ble dM fn.ntmps&&li C (Nat.lor (jL c) (nj fn.results.toList)) c&&xB (Nat.lor (jL c) (nj fn.results.toList)) fn.results.toList
  |none=>false)
 |none=>false
end
end Go.bp

