/- A part of the proof of the claim's last text: what it is used for is said there; no condition of its own. -/
import Derived.Test.YtpfajohmofnkfaaGreatDoorYb
import Derived.Laws.RangeString
set_option maxHeartbeats 8000000
set_option linter.all false
namespace Go.bg
open Go.RowKit (Below)
section
variable{P:Program}{w bV:World}{dg:Array TypeId}{ty st io eg:TypeId}{i:TypeInfo}{dq:TypeDesc}{base:Option Addr}{gP k7 n:Nat}{X br:Value}{pG new:Array Value}
def Oa(P:Program)(w:World)(dq:TypeDesc)(X:Value)(i:TypeInfo):Prop:=
 ((dq= .string\/∃F,dq= .slice F)/\(Builtin.lenOf X).run P w= .ok 0 w/\(Builtin.firstCells i.size 0 X).run P w= .ok #[] w)\/((∃an,dq= .int an)/\∃D,X= .int D 0)
def OI(cj:dg[0]? =some st)(R:dg[1]? =some io)(df:P.underlying st=some (.slice eg))(hF:P.underlying io=some dq)(aM:P.info? eg=some i)
 (bQ:Oa P w dq X i)(aK:gP<=k7):(Builtin.append_ dg ty #[.slice base gP k7,X]).run P w= .ok (.slice base gP k7) w:=by
 rcases bQ with ⟨im,hk,jr⟩|⟨⟨an,rfl⟩,D,rfl⟩
 ·rcases im with rfl|⟨_,rfl⟩<;>cases base<;>simp[Builtin.append_,cj,R,run_underlying df,run_underlying hF,sizeOf,typeInfo,aM,hk,aK,jr,storeCells]
 ·have bP:IntKind.i64.wrap 0=0:=by decide
  have ay:¬((2:Int)^48<0):=by decide
  cases base<;>simp[Builtin.append_,cj,R,run_underlying df,run_underlying hF,sizeOf,typeInfo,aM,asInt,asIntOf,bP,ay,aK,storeCells]
end
section
variable{C:aW}{Q c9:c6}{ae du:Nat->Prop}{h T:S ak}{j ao bi:Nat}{w bV:World}
def aje{dq:TypeDesc}{X br:Value}{i:TypeInfo}(a:xx C.P w dq X i br 0 (bX Q []).toArray):Oa C.P w dq X i:=by
 rcases a with ⟨im,hk,jr,_⟩|⟨_,_,_,_,kh,_⟩
 ·exact .inl ⟨im,hk,jr⟩
 ·simp at kh
def amH{b W len bl n:Nat}(Z:de C Q ae h j bi w)(ai:ae b)(a:xm C h b=some n)(aI:0<bl)(aB:W+len*bl<=n):len<=((Q b).room-W)/bl:=by
 have:=adP Z ai a
 rw[YZ aI]
 omega
def VR(Z:de C Q ae h j bi w){dg:Array TypeId}{ty st io eg:TypeId}{i:TypeInfo}{dq:TypeDesc}{s:H}{X:Value}{res:ea}
 (cj:dg[0]? =some st)(R:dg[1]? =some io)(df:C.P.underlying st=some (.slice eg))(hF:C.P.underlying io=some dq)(aM:C.P.info? eg=some i)(eH:0<i.size)
 (bQ:Oa C.P w dq X i)(ap:ch ae s)(a:Ev C h i.size s=some res):∃v,res= .val v/\ch ae v/\(Builtin.append_ dg ty #[aN Q s,X]).run C.P w= .ok (aN Q v) w:=by
 unfold Ev at a
 split at a
 ·simp at a;subst a
  exact⟨_,rfl,trivial,by simp only[aN];exact OI cj R df hF aM bQ (Zi _)⟩
 ·simp only[eY,Zf]at a
  obtain⟨aB,rfl⟩:=a
  exact⟨_,rfl,ap,by simp only[aN];exact OI cj R df hF aM bQ (jb aB)⟩
 ·simp only[eY]at a
  obtain⟨bt,a⟩:=a
  have bt:=Zl bt
  subst bt
  split at a
  ·rename_i n aK
   simp only[eY,Zf]at a
   obtain⟨aB,rfl⟩:=a
   exact⟨_,rfl,ap,by simp only[aN];exact OI cj R df hF aM bQ (amH Z ap aK eH (jb aB))⟩
  ·simp at a
 ·simp at a
def Kp(C:aW)(Q:c6)(ae:Nat->Prop)(h:S ak)(j bi:Nat)(w:World)(s:Sem Value)(res:ea):Prop:=
 ∃v T ao,res= .fv v T ao/\∃c9 du bV,s.run C.P w= .ok (aN c9 v) bV/\ch du v/\de C c9 du T ao bi bV/\iq C j Q ae h bi w c9 du T bV/\j<=ao
def rn(Z:de C Q ae h j bi w):¬ae j:=λa=>by have:=Z.lt j a;omega
def ajC(ek:bi<=w.heap.size)(W:Obj):Below bi w (w.drew.alloc W):=(Below.drew (Below.refl bi w)).trans (Below.alloc (Below.refl bi w.drew) ek W)
def Pr(Z:de C Q ae h j bi w){pl:mj}(ek:bi<=w.heap.size)(W:Obj)(hS:∀x,x≠j->¬ae x->aa C T x=aa C h x):iq C j Q ae h bi w (gk Q j pl) (add ae j) T (w.drew.alloc W):=
 ⟨qB (rn Z),λ_ a=> .inl a,λx a=>a.elim .inl (λa=> .inr Zo),λx ag aB=>hS x Zo ag,ajC ek W⟩
def XI{l:List H}{rest:Array Value}{cap bl:Nat}(g:ew ae l)(aK:¬ae j)(aB:l.length+rest.size=cap*bl)(eg:TypeId)(iw:List Nat):
 jG C (gk Q j ⟨w.heap.size,0,cap*bl⟩) (add ae j) (.cells (S.ofList l 0 .nil) l.length (.grow iw)) ⟨w.heap.size,0,cap*bl⟩ (w.drew.alloc (.cells ((bX Q l).toArray++rest) eg)):=by
 have dF:=qB (Q:=Q) (pl:=⟨w.heap.size,0,cap*bl⟩) aK
 refine⟨_,eg,0,0,uz w.drew _,⟨.inl rfl,by simp only;omega, ?_⟩, ?_,λi v bA=> ?_⟩
 ·simp only[YK,Ys,jL];omega
 ·simp only[YK,Ys,jL];omega
 ·rw[kC]at bA
  have fh:=AF g bA
  have c2:i<l.length:=(Zc.1 bA).1
  refine⟨?_,oC (λ_ a=> .inl a) v fh⟩
  rw[pX dF fh,ZM,Yx (by simpa[jL]using c2)]
  simp[Ar,bA]
def aey(zero:Array Value)(n:Nat):(Builtin.zeroCells zero n).size=n*zero.size:=by simp[Builtin.zeroCells]
section
variable{dg:Array TypeId}{ty st io eg:TypeId}{i:TypeInfo}{dq:TypeDesc}{X br:Value}{n:Nat}{l:List H}
def XG(Z:de C Q ae h j bi w)(ek:bi<=w.heap.size){s:H}{base:Option Addr}{gP k7:Nat}{bT:List H}(tq:br.cells.size=i.size)
 (cj:dg[0]? =some st)(R:dg[1]? =some io)(df:C.P.underlying st=some (.slice eg))(hF:C.P.underlying io=some dq)(aM:C.P.info? eg=some i)(ct:i.zero=some br)(eH:0<i.size)(nq:i.bytes<=65536)
 (bQ:xx C.P w dq X i br n (bX Q l).toArray)(iw:ew ae l)(aB:l.length=n*i.size)(PO:ew ae bT)(nZ:bT.length=gP*i.size)(aK:¬(gP+n<=k7))(aI:aN Q s= .slice base gP k7)
 (bf:(Builtin.firstCells i.size gP (.slice base gP k7)).run C.P w.drew= .ok (bX Q bT).toArray w.drew)(wY:gP+n<=1048576){aX:S ak}(p6:List Nat)
 (en:aa C aX j=some (.cells (S.ofList (bT++l) 0 .nil) (bT++l).length (.grow p6)))(dE:de C Q ae T j bi w)(fd:∀x,x≠j->aa C aX x=aa C T x\/aa C aX x=none)
 (fi:∀x,x≠j->¬ae x->aa C aX x=aa C h x)(aar:∀x∈p6,ae x/\C.a7<=x):
 ∃c9 du bV,(Builtin.append_ dg ty #[aN Q s,X]).run C.P w= .ok (aN c9 (.fu j 0 (gP+n) i.size)) bV/\ch du (.fu j 0 (gP+n) i.size)/\de C c9 du aX (j+1) bi bV/\iq C j Q ae h bi w c9 du aX bV:=by
 obtain⟨cap,az,n3⟩:=VS (ty:=ty) cj R df hF aM ct bQ aK nq wY bf
 have fB:(bT++l).length=(gP+n)*i.size:=by rw[ZP,nZ,aB,Z9]
 have MB:(bT++l).length+(Builtin.zeroCells br.cells (cap-(gP+n))).size=cap*i.size:=by
  rw[aey,tq,fB, <-Z9]
  congr 1;omega
 have F:(bX Q bT).toArray++(bX Q l).toArray=(bX Q (bT++l)).toArray:=by rw[Cg];simp
 rw[F]at n3
 have In:=XI (C:=C) (Q:=Q) (w:=w) (AE PO iw) (rn Z) MB eg p6
 refine⟨gk Q j ⟨w.heap.size,0,cap*i.size⟩,add ae j,w.drew.alloc (.cells ((bX Q (bT++l)).toArray++Builtin.zeroCells br.cells (cap-(gP+n))) eg), ?_, .inr rfl, ?_, ?_⟩
 ·rw[aI,n3]
  simp only[aN,lb,ZM,Y9]
  rw[Nat.mul_div_cancel _ eH]
 ·exact dE.drew.alloc Z.a7 (Yg _) (Ya _) (rn Z) ek rfl en fd In ⟨λc aS b5 a=>(by cases a;exact λx ag=>⟨.inl (aar x ag).1,(aar x ag).2⟩),λc aS st a=>(by cases a;exact Gp)⟩
 ·exact Pr Z ek _ fi
def XF{n bl:Nat}{res:ea}(a:s7 C h j n bl l=some res):n<=1048576/\res= .fv (.fu j 0 n bl) (bm C h j (some (.cells (S.ofList l 0 .nil) l.length (.grow [])))) (j+1):=by
 unfold s7 m2 at a
 simp only[l0,he,eY,Zf]at a
 exact⟨jb a.1,a.2.symm⟩
def alE{b W len cap bl:Nat}{fO:List H}(Z:de C Q ae h j bi w)(ai:ae b)(a:mT C h b W (len*bl)=some fO):
 (Builtin.firstCells bl len (.slice (some ⟨(Q b).cE,(Q b).ed+W,none⟩) len cap)).run C.P w.drew= .ok (bX Q fO).toArray w.drew/\ew ae fO:=by
 obtain⟨R,U⟩:=EI Z.drew ai a
 exact⟨by simp[Builtin.firstCells,R],U⟩
def avH{cn:Array Value}{ed W p:Nat}{c:S H}{fO l:List H}{D:Nat}(ay:p=ed+W+fO.length)(ce:p+l.length<=cn.size)(j0:ew ae fO)(iw:ew ae l)
 (cj:∀Y v,fO[Y]? =some v->cn[ed+W+Y]? =some (aN Q v)):
 ∀Y v,(fO++l)[Y]? =some v->(kI cn p (bX Q l))[ed+W+Y]? =some (aN Q v)/\ch ae v:=by
 intro Y v bA
 rw[SN _ _ _ _ (by rw[jL];exact ce),jL]
 by_cases bH:Y<fO.length
 ·rw[Z3 bH]at bA
  rw[Zh Zo]
  exact⟨cj Y v bA,AF j0 bA⟩
 ·rw[ZT Zo]at bA
  have c2:Y-fO.length<l.length:=(Zc.1 bA).1
  rw[Zq Zo,Ar,show ed+W+Y-p=Y-fO.length by omega,bA]
  exact⟨rfl,AF iw bA⟩
section
variable{dg:Array TypeId}{ty st io eg:TypeId}{i:TypeInfo}{dq:TypeDesc}{X br:Value}{n:Nat}{l:List H}
def ajd(Z:de C Q ae h j bi w)(ek:bi<=w.heap.size)(tq:br.cells.size=i.size){b W len:Nat}{res:ea}
 (cj:dg[0]? =some st)(R:dg[1]? =some io)(df:C.P.underlying st=some (.slice eg))(hF:C.P.underlying io=some dq)(aM:C.P.info? eg=some i)(ct:i.zero=some br)(eH:0<i.size)(nq:i.bytes<=65536)
 (bQ:xx C.P w dq X i br n (bX Q l).toArray)(iw:ew ae l)(aB:l.length=n*i.size)(aH:ae b)(gL:0<n)(a:Hk C h j b W len i.size n l=some res):
 Kp C Q ae h j bi w (Builtin.append_ dg ty #[aN Q (.fu b W len i.size),X]) res:=by
 unfold Hk at a
 split at a
 ·rename_i c size fk bf
  simp only[eY]at a
  obtain⟨Iq,a⟩:=a
  have ai:C.a7<=b:=jb Iq
  obtain⟨cn,dJ,bT,uE,bd,cg,a3,a4⟩:=Z.obj b _ bf aH
  obtain⟨Fm,apE,aom⟩:=cg
  have AN:=Z.base b _ ai bf aH
  have Fu:=(Z.fk b _ bf aH).1 _ _ _ rfl
  have r2:=(Z.fk b _ bf aH).2 _ _ _ rfl
  have CW:b≠j:=λF=>by have:=Z.lt b aH;omega
  have n0:=rn Z
  rw[fo]at a
  split at a
  ·
   rename_i aak
   have aak:W+(len+n)*i.size<=size:=jb aak
   split at a
   ·rename_i T bP
    simp at a;subst a
    obtain⟨bV,bZ,cw,c0⟩:=OE Z (cX:=j) aH iw bP
    have mu:len+n<=((Q b).room-W)/i.size:=by
     rw[YZ eH];omega
    refine⟨_,_,_,rfl,Q,ae,bV, ?_,aH,cw,c0,Zi _⟩
    simp only[aN]
    refine KH cj R df hF aM ct bQ mu ?_
    rw[qQ,ZN]
    exact bZ
   ·simp at a
  ·simp only[eY,Zn]at a
   obtain⟨⟨wY,qg⟩,a⟩:=a
   have wY:=jb wY
   have wZ:∀v∈bX Q l,v.oneCell'=true:=acV qg
   have fB:(len+n)*i.size=len*i.size+n*i.size:=Z9 ..
   rw[fo]at a
   split at a
   ·
    rename_i CQ
    simp only[Zn]at CQ
    have bB:W+len*i.size=size:=Zl CQ.1
    have cF:W=0:=Zl CQ.2
    subst cF
    have bB:len*i.size=size:=Zo
    simp only[he,m2,l0,Zf]at a
    subst a
    have sd:=Z.aue ai aH bf
    by_cases mu:len+n<=((Q b).room-0)/i.size
    ·
     have apF:(len+n)*i.size<=(Q b).room:=by
      have:=(YZ eH).1 mu;omega
     have apT:=SH C.P (Q b).cE ((Q b).ed+size) dJ bT uE (bX Q l) 0 cn w bd (Fm.imp (λF=>Y6 F.symm) id) (by rw[jL];omega)
     ·have Rn:=apT wZ
      have sh:∀D,D≠(Q b).cE->(w.setRow (Q b).cE (kI cn ((Q b).ed+size+0) (bX Q l))).heap[D]? =w.heap[D]? :=λD aF=>setRow_other w _ D _ aF
      have fC:=setRow_heap w (Q b).cE cn (kI cn ((Q b).ed+size+0) (bX Q l)) dJ (bT,uE) bd
      have dF:=qB (Q:=Q) (pl:=Q b) n0
      have CX:jG C (gk Q j (Q b)) (add ae j) (.cells (dT c size l) (size+l.length) (.grow (b::fk))) (Q b) (w.setRow (Q b).cE (kI cn ((Q b).ed+size+0) (bX Q l))):=by
       refine⟨_,dJ,bT,uE,fC,⟨by rw[xk];exact Fm,Zo,by rw[xk];exact aom⟩,by rw[xk];omega,λY v bA=> ?_⟩
       obtain⟨b3,b2⟩:=aex (Q:=Q) (ae:=ae) (c:=c) (cn:=cn) (ed:=(Q b).ed) (W:=size) (n:=size+l.length) iw Zo Zo a4 Y v bA
       exact⟨by rw[pX dF b2];exact b3,oC (λ_ a=> .inl a) v b2⟩
      have Re:=sd.share (j:=j) (bV:=w.setRow (Q b).cE (kI cn ((Q b).ed+size+0) (bX Q l))) (pl:=Q b) (cR:= .cells (dT c size l) (size+l.length) (.grow (b::fk))) AN rfl sh CX
       ⟨λfZ aS b5 a=>(by
        cases a
        intro x ag
        rcases Zt.1 ag with rfl|ag
        ·exact⟨.inl aH,ai⟩
        ·exact⟨.inl (Fu x ag).1,(Fu x ag).2⟩),
        λfZ aS hY a=>(by cases a;exact N2 (Zi _) λY v bA=>ZK (r2 Y v bA) (za _ _))⟩
       (λx dh ag dq tp=>by
        have abT:∀fZ aS,dh= .cells fZ aS .jV->aS<=size->(Q x).ed=(Q b).ed->jG C Q ae dh (Q x) (w.setRow (Q b).cE (kI cn ((Q b).ed+size+0) (bX Q l))):=by
         intro fZ aS F Mj lN
         subst F
         have c2:=(sd.fk x _ ag dq).2 _ _ _ rfl
         obtain⟨Ew,avW,ri,kX,cZ,dO,ei,h2⟩:=sd.obj x _ ag dq
         rw[tp,bd]at cZ
         cases cZ
         refine⟨_,dJ,bT,uE,by rw[tp];exact fC,by rw[xk];exact dO,by rw[xk];exact ei,λY v bA=> ?_⟩
         obtain⟨b3,b2⟩:=h2 Y v bA
         have:=c2 Y v bA
         refine⟨?_,b2⟩
         rw[SN _ _ _ _ (by rw[jL];omega),Zh Zo]
         exact b3
        by_cases F:x=b
        ·subst F
         rw[fT _ ai,Zq rfl]at ag;cases ag
         exact⟨abT c size rfl (Zi _) rfl, .inr (.inl ⟨_,_,_,_,_,rfl,rfl,Zs,Zo⟩), .inr (.inr ⟨_,_,_,_,_,rfl,rfl,Zs,Zo⟩),rfl⟩
        ·rw[fT _ ai,Zh F]at ag
         obtain⟨lm,qi⟩:=Z.sep b x _ dh bf ag aH dq (λan=>F an.symm) ai tp.symm
         rcases lm with ⟨_,_,_,_,an,_⟩|⟨_,_,b5,fZ,aS,an,rfl,bp,gr⟩|⟨_,_,_,_,_,_,an,_⟩
         ·cases an
         ·cases an
          refine⟨abT fZ aS rfl gr qi.symm, .inr (.inl ⟨_,_,_,_,_,rfl,rfl,Zu _ bp,Zo⟩), .inr (.inr ⟨_,_,_,_,_,rfl,rfl,Zu _ bp,Zo⟩),qi⟩
         ·cases an)
      refine⟨_,_,_,rfl,gk Q j (Q b),add ae j,_, ?_, .inr rfl,Re,⟨dF,λ_ a=> .inl a,λx a=>a.elim .inl (λa=> .inr Zo),λx ag c2=> ?_,ON AN _ _⟩,Ya _⟩
      ·simp only[aN,lb]
       rw[ZR]
       refine KH cj R df hF aM ct bQ mu ?_
       rw[qQ,bB]
       exact Rn
      ·have tp:x≠b:=λF=>ag (by rw[F];exact aH)
       rw[fT _ Z.a7,Zh Zo,fT _ ai,Zh tp]
    ·
     have Q3:(Builtin.firstCells i.size len (.slice (some ⟨(Q b).cE,(Q b).ed+0,none⟩) len (((Q b).room-0)/i.size))).run C.P w.drew= .ok ((cn.toList.drop (Q b).ed).take size).toArray w.drew:=by
      have oI:=run_loadCells_list (P:=C.P) w.drew ⟨(Q b).cE,(Q b).ed+0,none⟩ ((cn.toList.drop (Q b).ed).take size) (λY v bA=>by
       rw[qQ]
       have bH:Y<size:=by
        have:=(Zc.1 bA).1
        simp at this;omega
       rw[YM bH,YB]at bA
       have aiF:w.drew.heap[(Q b).cE]? =some (.cells cn dJ (bT,uE)):=bd
       simp only[World.cell?,aiF]
       simpa[ZL]using bA)
      have uK:((cn.toList.drop (Q b).ed).take size).length=size:=by simp;omega
      rw[uK]at oI
      simp only[Builtin.firstCells,bB]
      exact oI
     obtain⟨cap,az,n3⟩:=VS (ty:=ty) cj R df hF aM ct bQ mu nq wY Q3
     have uK:((cn.toList.drop (Q b).ed).take size).length=size:=by simp;omega
     have MB:size+l.length+(Builtin.zeroCells br.cells (cap-(len+n))).size=cap*i.size:=by
      rw[aey,tq,aB, <-bB, <-Z9, <-Z9]
      congr 1;omega
     have dF:=qB (Q:=Q) (pl:=⟨w.heap.size,0,cap*i.size⟩) n0
     have CX:jG C (gk Q j ⟨w.heap.size,0,cap*i.size⟩) (add ae j) (.cells (dT c size l) (size+l.length) (.grow (b::fk))) ⟨w.heap.size,0,cap*i.size⟩
      (w.drew.alloc (.cells (((cn.toList.drop (Q b).ed).take size).toArray++(bX Q l).toArray++Builtin.zeroCells br.cells (cap-(len+n))) eg)):=by
      refine⟨_,eg,0,0,uz w.drew _,⟨.inl rfl,by simp only;omega, ?_⟩, ?_,λY v bA=> ?_⟩
      ·simp only[YK,Ys,jL,uK];omega
      ·simp only[YK,Ys,jL,uK];omega
      ·rw[Ti,S.Lp]at bA
       simp only[ZM]
       split at bA
       ·rename_i bH
        have fh:=AF iw bA
        refine⟨?_,oC (λ_ a=> .inl a) v fh⟩
        rw[pX dF fh,Yx (by simp only[YK,Ys,jL,uK];omega),Array.getElem?_append_right (by simp only[Ys,uK];omega)]
        simp only[Ys,uK,List.getElem?_toArray,Ar,bA,ZS]
       ·have bH:=r2 Y v bA
        obtain⟨b3,b2⟩:=a4 Y v bA
        refine⟨?_,oC (λ_ a=> .inl a) v b2⟩
        rw[pX dF b2,Yx (by simp only[YK,Ys,jL,uK];omega),Yx (by simp only[Ys,uK];omega)]
        rw[List.getElem?_toArray,YM bH,YB,ZL]
        exact b3
     have en:aa C (bm C (bm C h b (some (.cells c size .jV))) j (some (.cells (dT c size l) (size+l.length) (.grow (b::fk))))) j=some (.cells (dT c size l) (size+l.length) (.grow (b::fk))):=by
      rw[fT _ Z.a7,Zq rfl]
     refine⟨_,_,_,rfl,gk Q j ⟨w.heap.size,0,cap*i.size⟩,add ae j,_, ?_, .inr rfl,sd.drew.alloc Z.a7 (Yg _) (Ya _) n0 ek rfl en (λx ag=> .inl ?_) CX ?_,Pr Z ek _ (λx ag Rs=> ?_),Ya _⟩
     ·simp only[aN,lb,ZM,Y9]
      simp only[ZR,Y9]at n3 ⊢
      rw[n3,Nat.mul_div_cancel _ eH]
     ·rw[fT _ Z.a7,Zh ag]
     ·exact⟨λfZ aS b5 a=>(by
           cases a
           intro x ag
           rcases Zt.1 ag with rfl|ag
           ·exact⟨.inl aH,ai⟩
           ·exact⟨.inl (Fu x ag).1,(Fu x ag).2⟩),
       λfZ aS hY a=>(by cases a;exact N2 (Zi _) λY v bA=>ZK (r2 Y v bA) (za _ _))⟩
     ·have tp:x≠b:=λF=>Rs (by rw[F];exact aH)
      rw[fT _ Z.a7,Zh ag,fT _ ai,Zh tp]
   ·
    split at a
    ·rename_i fO oI
     simp only[m2,l0,he,Zf]at a
     subst a
     have aaI:fO.length=len*i.size:=ace oI
     have iJ:cellsOf C h b=some c:=by simp[cellsOf,bf]
     have QM:∀x,x≠b->aa C (bm C (pD C fk h) b none) x=if x∈fk then none else aa C h x:=λx ag=>by
      rw[fT _ ai,Zh ag,aaq _ _ _ λe I=>(Fu e I).2]
     have aaB:aa C (bm C (pD C fk h) b none) b=none:=by rw[fT _ ai,Zq rfl]
     have aai:de C Q ae (bm C (pD C fk h) b none) j bi w:=Z.W5 λx=>by
      by_cases F:x=b
      ·subst F;exact .inr aaB
      ·rw[QM x F];split
       ·exact .inr rfl
       ·exact .inl rfl
     have Ma:∀x,¬ae x->aa C (bm C (pD C fk h) b none) x=aa C h x:=λx ag=>by
      have tp:x≠b:=λF=>ag (by rw[F];exact aH)
      rw[QM x tp,Zh λbp=>ag (Fu x bp).1]
     have oL:aa C (bm C (bm C (pD C fk h) b none) j (some (.cells (S.ofList (fO++l) 0 .nil) (fO++l).length (.grow [])))) j=some (.cells (S.ofList (fO++l) 0 .nil) (fO++l).length (.grow [])):=by
      rw[fT _ Z.a7,Zq rfl]
     have jA:∀x,x≠j->aa C (bm C (bm C (pD C fk h) b none) j (some (.cells (S.ofList (fO++l) 0 .nil) (fO++l).length (.grow [])))) x=aa C (bm C (pD C fk h) b none) x:=λx ag=>by
      rw[fT _ Z.a7,Zh ag]
     obtain⟨L0,L1⟩:=KP Z aH iJ oI
     by_cases mu:len+n<=((Q b).room-W)/i.size
     ·
      have Fy:0<(len+n)*i.size:=Nat.mul_pos Zo eH
      have apF:W+(len+n)*i.size<=(Q b).room:=by
       have ar:=(YZ eH).1 mu
       omega
      have Rn:=SH C.P (Q b).cE ((Q b).ed+(W+len*i.size)) dJ bT uE (bX Q l) 0 cn w bd (Fm.imp (λF=>Y6 F.symm) id) (by rw[jL];omega) wZ
      have sh:∀D,D≠(Q b).cE->(w.setRow (Q b).cE (kI cn ((Q b).ed+(W+len*i.size)+0) (bX Q l))).heap[D]? =w.heap[D]? :=λD aF=>setRow_other w _ D _ aF
      have fC:=setRow_heap w (Q b).cE cn (kI cn ((Q b).ed+(W+len*i.size)+0) (bX Q l)) dJ (bT,uE) bd
      have dF:=qB (Q:=Q) (pl:=⟨(Q b).cE,(Q b).ed+W,(Q b).room-W⟩) n0
      have axB:(fO++l).length=(len+n)*i.size:=by rw[ZP,aaI,aB,Z9]
      have CX:jG C (gk Q j ⟨(Q b).cE,(Q b).ed+W,(Q b).room-W⟩) (add ae j) (.cells (S.ofList (fO++l) 0 .nil) (fO++l).length (.grow [])) ⟨(Q b).cE,(Q b).ed+W,(Q b).room-W⟩ (w.setRow (Q b).cE (kI cn ((Q b).ed+(W+len*i.size)+0) (bX Q l))):=by
       refine⟨_,dJ,bT,uE,fC,⟨by rw[xk];exact Fm,by simp only;omega,by rw[xk];simp only;omega⟩,by rw[xk];simp only;omega,λY v bA=> ?_⟩
       rw[kC]at bA
       obtain⟨b3,b2⟩:=avH (Q:=Q) (ae:=ae) (cn:=cn) (ed:=(Q b).ed) (W:=W) (p:=(Q b).ed+(W+len*i.size)+0) (c:=c) (D:=0) Zo Zo L1 iw (λY v bA=>by
        have uF:Y<len*i.size:=by have:=(Zc.1 bA).1;omega
        have:=(S.PN _ _ _ _ oI).2 Y uF
        rw[bA]at this
        have:=(a4 _ _ this).1
        rw[<-ZN]at this
        exact this) Y v bA
       exact⟨by rw[pX dF b2];exact b3,oC (λ_ a=> .inl a) v b2⟩
      have Re:=aai.share (bV:=w.setRow (Q b).cE (kI cn ((Q b).ed+(W+len*i.size)+0) (bX Q l))) (pl:=⟨(Q b).cE,(Q b).ed+W,(Q b).room-W⟩) (cR:= .cells (S.ofList (fO++l) 0 .nil) (fO++l).length (.grow [])) AN rfl sh CX
       ⟨λfZ aS b5 a=>(by cases a;simp),λfZ aS hY a=>(by cases a;exact Gp)⟩
       (λx dh ag dq tp=>by
        exfalso
        by_cases F:x=b
        ·subst F;rw[aaB]at ag;cases ag
        ·rw[QM x F]at ag
         split at ag
         ·cases ag
         ·rename_i QX
          rcases(Z.sep b x _ dh bf ag aH dq (λan=>F an.symm) ai tp.symm).1 with ⟨_,_,_,_,an,_⟩|⟨_,_,b5,fZ,aS,an,_,bp,_⟩|⟨_,_,_,_,_,_,an,_⟩
          ·cases an
          ·cases an;exact QX bp
          ·cases an)
      refine⟨_,_,_,rfl,gk Q j ⟨(Q b).cE,(Q b).ed+W,(Q b).room-W⟩,add ae j,_, ?_, .inr rfl,Re,⟨dF,λ_ a=> .inl a,λx a=>a.elim .inl (λa=> .inr Zo),λx ag c2=> ?_,ON AN _ _⟩,Ya _⟩
      ·simp only[aN,lb,ZR,Y9]
       refine KH cj R df hF aM ct bQ mu ?_
       rw[qQ,ZN]
       exact Rn
      ·rw[fT _ Z.a7,Zh Zo,Ma x ag]
     ·have aol:(Builtin.firstCells i.size len (.slice (some ⟨(Q b).cE,(Q b).ed+W,none⟩) len (((Q b).room-W)/i.size))).run C.P w.drew= .ok (bX Q fO).toArray w.drew:=by
       obtain⟨QB,_⟩:=KP Z.drew aH iJ oI
       simp[Builtin.firstCells,QB]
      obtain⟨c9,du,bV,e0,fF,hv,oc⟩:=XG (ty:=ty) Z ek (s:= .fu b W len i.size) (bT:=fO) tq cj R df hF aM ct eH nq bQ iw aB L1 aaI mu rfl aol wY []
       oL aai (λx ag=> .inl (jA x ag)) (λx ag Rs=>by rw[jA x ag,Ma x Rs]) Zs
      exact⟨_,_,_,rfl,c9,du,bV,e0,fF,hv,oc,Ya _⟩
    ·simp at a
 ·simp at a
end
end
end
end Go.bg

namespace Go.bg
open Go.RowKit (Below)
section
variable{C:aW}{Q c9:c6}{ae du:Nat->Prop}{h T:S ak}{j ao bi:Nat}{w bV:World}
section
variable{dg:Array TypeId}{ty st io eg:TypeId}{i:TypeInfo}{dq:TypeDesc}{X br:Value}{n:Nat}{l:List H}
def XH(Z:de C Q ae h j bi w)(ek:bi<=w.heap.size){s:H}{base:Option Addr}{gP k7:Nat}{bT:List H}{res:ea}(tq:br.cells.size=i.size)
 (cj:dg[0]? =some st)(R:dg[1]? =some io)(df:C.P.underlying st=some (.slice eg))(hF:C.P.underlying io=some dq)(aM:C.P.info? eg=some i)(ct:i.zero=some br)(eH:0<i.size)(nq:i.bytes<=65536)
 (bQ:xx C.P w dq X i br n (bX Q l).toArray)(iw:ew ae l)(aB:l.length=n*i.size)(PO:ew ae bT)(nZ:bT.length=gP*i.size)(aK:¬(gP+n<=k7))(aI:aN Q s= .slice base gP k7)
 (bf:(Builtin.firstCells i.size gP (.slice base gP k7)).run C.P w.drew= .ok (bX Q bT).toArray w.drew)(a:s7 C h j (gP+n) i.size (bT++l)=some res):
 Kp C Q ae h j bi w (Builtin.append_ dg ty #[aN Q s,X]) res:=by
 obtain⟨wY,rfl⟩:=XF a
 obtain⟨c9,du,bV,e0,fF,hv,oc⟩:=XG (ty:=ty) Z ek (T:=h) tq cj R df hF aM ct eH nq bQ iw aB PO nZ aK aI bf wY (aX:=bm C h j (some (.cells (S.ofList (bT++l) 0 .nil) (bT++l).length (.grow [])))) []
  (by rw[fT _ Z.a7,Zq rfl]) Z (λx ag=> .inl (by rw[fT _ Z.a7,Zh ag])) (λx ag _=>by rw[fT _ Z.a7,Zh ag]) Zs
 exact⟨_,_,_,rfl,c9,du,bV,e0,fF,hv,oc,Ya _⟩
def VQ(Z:de C Q ae h j bi w)(ek:bi<=w.heap.size)(tq:br.cells.size=i.size){s:H}{res:ea}
 (cj:dg[0]? =some st)(R:dg[1]? =some io)(df:C.P.underlying st=some (.slice eg))(hF:C.P.underlying io=some dq)(aM:C.P.info? eg=some i)(ct:i.zero=some br)(eH:0<i.size)(nq:i.bytes<=65536)
 (bQ:xx C.P w dq X i br n (bX Q l).toArray)(iw:ew ae l)(aB:l.length=n*i.size)(ap:ch ae s)(gL:0<n)(a:xI C h j i.size n l s=some res):
 Kp C Q ae h j bi w (Builtin.append_ dg ty #[aN Q s,X]) res:=by
 unfold xI at a
 split at a
 ·refine XH (gP:=0) (k7:=0) (bT:=[]) (base:=none) Z ek tq cj R df hF aM ct eH nq bQ iw aB trivial Zs Zo rfl ?_ (by simpa using a)
  simp[Builtin.firstCells,bX]
 ·rename_i b W len cap
  rw[fo]at a
  split at a
  ·rename_i mu
   have mu:=jb mu
   split at a
   ·rename_i T bP
    simp at a;subst a
    obtain⟨bV,bZ,cw,c0⟩:=OE Z (cX:=j) ap iw bP
    refine⟨_,_,_,rfl,Q,ae,bV, ?_,ap,cw,c0,Zi _⟩
    simp only[aN]
    refine KH cj R df hF aM ct bQ mu ?_
    rw[qQ,ZN]
    exact bZ
   ·simp at a
  ·rename_i mu
   have mu:¬(len+n<=cap):=λan=>mu (by simpa using an)
   split at a
   ·rename_i fO oI
    obtain⟨bZ,cw⟩:=alE (bl:=i.size) (cap:=cap) Z ap oI
    exact XH Z ek tq cj R df hF aM ct eH nq bQ iw aB cw (O0 oI) mu rfl bZ a
   ·simp at a
 ·rename_i b W len xo
  simp only[eY]at a
  obtain⟨bt,a⟩:=a
  have bt:=Zl bt
  subst bt
  exact ajd Z ek tq cj R df hF aM ct eH nq bQ iw aB ap gL a
 ·simp at a
end
def N9(C:aW)(Q:c6)(ae:Nat->Prop)(h:S ak)(j bi:Nat)(w:World)(s:Sem Value)(res:ea):Prop:=
 Kp C Q ae h j bi w s res\/∃v,res= .val v/\ch ae v/\s.run C.P w= .ok (aN Q v) w
def VD(Z:de C Q ae h j bi w)(ek:bi<=w.heap.size){dg:Array TypeId}{ty st io:TypeId}{dq:TypeDesc}{s x:H}{res:ea}
 (cj:dg[0]? =some st)(R:dg[1]? =some io)(hF:C.P.underlying io=some dq)(uy:dq= .string\/∃F,dq= .slice F)(ap:ch ae s)(fx:ch ae x)(a:Ep C h j st s x=some res):
 N9 C Q ae h j bi w (Builtin.append_ dg ty #[aN Q s,aN Q x]) res:=by
 unfold Ep at a
 split at a
 ·rename_i eg df
  split at a
  ·rename_i i aM
   split at a
   ·rename_i n l j8
    simp only[eY,Zn]at a
    obtain⟨⟨⟨eH,nq⟩,MK⟩,a⟩:=a
    have eH:=lh eH
    have nq:=jb nq
    obtain⟨br,ct,tq⟩:∃br,i.zero=some br/\br.cells.size=i.size:=by
     unfold aez at MK
     split at MK
     ·rename_i br ct
      exact⟨br,ct,Zl MK⟩
     ·simp at MK
    obtain⟨bQ,iw,aB⟩:=au6 (br:=br) Z fx uy j8
    rw[hB]at a
    split at a
    ·rename_i aK
     subst aK
     have:l=[]:=List.length_eq_zero_iff.1 (by rw[aB];simp)
     subst this
     obtain⟨v,e0,fF,hv⟩:=VR (ty:=ty) Z cj R df hF aM eH (aje bQ) ap a
     exact .inr ⟨v,e0,fF,hv⟩
    ·exact .inl (VQ Z ek tq cj R df hF aM ct eH nq bQ iw aB ap Zo a)
   ·simp at a
  ·simp at a
 ·simp at a
def aiN(Z:de C Q ae h j bi w)(ek:bi<=w.heap.size){dg:Array TypeId}{ty st io:TypeId}{an:IntKind}{s x:H}{n:Nat}{res:ea}
 (cj:dg[0]? =some st)(R:dg[1]? =some io)(hF:C.P.underlying io=some (.int an))(ap:ch ae s)(ag:m1 x=some n)(a:KB C h j st s n=some res):
 N9 C Q ae h j bi w (Builtin.append_ dg ty #[aN Q s,aN Q x]) res:=by
 obtain⟨D,rfl⟩:=Dw ag
 unfold KB at a
 split at a
 ·rename_i eg df
  split at a
  ·rename_i i br aM ln
   simp only[eY,Zn]at a
   obtain⟨⟨⟨⟨eH,nq⟩,FQ⟩,CW⟩,a⟩:=a
   have eH:=lh eH
   have nq:=jb nq
   have CW:=jb CW
   have FQ:br.cells.length=i.size:=Zl FQ
   have ct:i.zero=some (aN Q br)/\ch ae br:=by
    unfold sM at ln
    rw[aM]at ln
    simp only at ln
    split at ln
    ·rename_i ad bc
     obtain⟨F,g⟩:=Ni (Q:=Q) (ae:=ae) ln
     exact⟨by rw[bc,F],g⟩
    ·simp at ln
   rw[hB]at a
   split at a
   ·rename_i aK
    subst aK
    obtain⟨v,e0,fF,hv⟩:=VR (ty:=ty) Z cj R df hF aM eH (.inr ⟨⟨an,rfl⟩,D,rfl⟩) ap a
    exact .inr ⟨v,e0,fF,hv⟩
   ·rename_i aK
    have bQ:xx C.P w (.int an) (aN Q (.int D (Int.ofNat n))) i (aN Q br) n (bX Q (kF n br.cells)).toArray:=
     .inr ⟨⟨an,rfl⟩,⟨D,rfl⟩,CW,nq,by have:=Nat.mul_pos (Nat.pos_of_ne_zero aK) eH;omega,(awE Q br n).symm⟩
    exact .inl (VQ Z ek (by rw[t8];simp[jL,FQ]) cj R df hF aM ct.1 eH nq bQ (PR (ua ct.2) n) (by rw[DR,FQ]) ap Zo a)
  ·simp at a
 ·simp at a
end
end Go.bg

namespace Go.bg
open Go.RowKit (Below)
section
variable{C:aW}{Q c9:c6}{ae du:Nat->Prop}{h T:S ak}{j ao bi:Nat}{w bV:World}
def mN(C:aW)(Q:c6)(ae:Nat->Prop)(h:S ak)(j bi:Nat)(w:World)(s:Sem Value)(v:H)(T:S ak)(ao:Nat):Prop:=
 ∃c9 du bV,s.run C.P w= .ok (aN c9 v) bV/\ch du v/\de C c9 du T ao bi bV/\iq C j Q ae h bi w c9 du T bV/\j<=ao
def mN.done{s:Sem Value}{v:H}(a:mN C Q ae h j bi w s v T ao):Ac C Q ae h j bi w (do pure (.value (<-s))) v T ao:=by
 obtain⟨c9,du,bV,R,U,ar,aO,bN⟩:=a
 exact⟨c9,du,bV, .value (aN c9 v),by simp[R], .inl rfl,U,ar,aO,bN⟩
def mN.same(Z:de C Q ae h j bi w){s:Sem Value}{v:H}(a:s.run C.P w= .ok (aN Q v) w)(g:ch ae v):mN C Q ae h j bi w s v h j:=
 ⟨Q,ae,w,a,g,Z, .refl,Zi _⟩
def JA(Z:de C Q ae h j bi w)(ek:bi<=w.heap.size){s:Sem Value}{v:H}{cR:ak}{W:Obj}(aI:s.run C.P w= .ok (aN (gk Q j ⟨w.heap.size,0,0⟩) v) (w.alloc W))(fh:ch (add ae j) v)
 (bf:jG C (gk Q j ⟨w.heap.size,0,0⟩) (add ae j) cR ⟨w.heap.size,0,0⟩ (w.alloc W))(q8:tS C (add ae j) cR):mN C Q ae h j bi w s v (bm C h j (some cR)) (j+1):=by
 have ai:=Z.a7
 refine⟨_,_,_,aI,fh,Z.alloc ai (Yg _) (Ya _) (rn Z) ek rfl (by rw[fT _ ai,Zq rfl]) (λx ag=> .inl (by rw[fT _ ai,Zh ag])) bf q8, ?_,Ya _⟩
 exact⟨qB (rn Z),λ_ a=> .inl a,λx a=>a.elim .inl (λa=> .inr Zo),λx ag aB=>by rw[fT _ ai,Zh Zo],Below.alloc (Below.refl bi w) ek W⟩
def Jz{W:ak}{D:Nat->H}{res:ea}(a:m2 C h j W D=some res):res= .fv (D j) (bm C h j (some W)) (j+1):=by
 unfold m2 at a
 simp only[l0,he,Zf]at a
 exact a.symm
def ayE(Z:de C Q ae h j bi w){t:Nat}{m D:Operand}{aw:Operand->Value}{ez:Operand->Option H}{res:ea}(cx:i7 Q ae aw ez [m,D])(a:Ic C t m D h j ez=some res):
 ∃v T,res= .fv v T j/\mN C Q ae h j bi w (Instr.mapEntry t (aw m) (aw D)) v T j:=by
 simp[Ic]at a
def aw1(Z:de C Q ae h j bi w){t:Nat}{m s x:Operand}{aw:Operand->Value}{ez:Operand->Option H}{res:ea}(cx:i7 Q ae aw ez [m,s,x])(a:H4 C m s x h j ez=some res):
 ∃T bV,res= .fv undef T j/\(Instr.entryStore t (aw m) (aw s) (aw x)).run C.P w= .ok () bV/\de C Q ae T j bi bV/\iq C j Q ae h bi w Q ae T bV:=by
 simp[H4]at a
def ar1(Z:de C Q ae h j bi w)(ek:bi<=w.heap.size){t:Nat}{l c:Operand}{aw:Operand->Value}{ez:Operand->Option H}{res:ea}(cx:i7 Q ae aw ez [l,c])(a:Ib C t l c h j ez=some res):
 ∃v T ao,res= .fv v T ao/\mN C Q ae h j bi w (Instr.makeSlice t (aw l) (aw c)) v T ao:=by
 unfold Ib at a
 split at a
 ·rename_i eg ayB pW bc aB az
  obtain⟨s1,_⟩:=cx l Zs _ aB
  obtain⟨akM,_⟩:=cx c Zs _ az
  rw[s1,akM]
  split at a
  ·rename_i R4 li i br ec wR aM ct
   obtain⟨cB,rfl⟩:=Dw ec
   obtain⟨cu,rfl⟩:=Dw wR
   simp only[eY,Zn]at a
   obtain⟨⟨⟨⟨⟨R,U⟩,ar⟩,aO⟩,bN⟩,a⟩:=a
   have R:=jb R
   have U:=jb U
   have ar:=jb ar
   have aO:=lh aO
   have bN:br.cells.length=i.size:=Zl bN
   have:=Jz a;subst this
   obtain⟨fW,fw⟩:=DT ct Q ae w
   refine⟨_,_,_,rfl,JA Z ek (W:= .cells (bX Q (kF li br.cells)).toArray eg) ?_ (.inr rfl) ?_ ⟨λ_ _ _ a=>(by cases a),λ_ _ _ a=>(by cases a;rw[<-bN, <-DR];exact Gp)⟩⟩
   ·have ld:=wrap_small (n:=R4) Zo
    have mL:=wrap_small U
    have nV:¬((281474976710656:Int)<(i.bytes:Int)*(li:Int)):=by
     rw[Int.mul_comm];exact OU U ar
    have wP:¬((li:Int)<0):=Zo
    have oI:¬((R4:Int)<0):=Zo
    have QN:¬((li:Int)<(R4:Int)):=Zo
    have FB:=adz Q br.cells i.size li bN (if li*i.size=0 then #[]else(aN Q br).cells) (λdI=>by rw[Zh dI,t8])
    by_cases ln:li*i.size=0
    ·rw[Zq ln]at FB
     rw[<-FB]
     simp[Instr.makeSlice,run_underlying bc,aN,asInt,asIntOf,typeInfo,aM,ld,mL,nV,wP,oI,QN,sizeOf,ln,newRow,lb]
    ·rw[Zh ln]at FB
     rw[<-FB]
     simp[Instr.makeSlice,run_underlying bc,aN,asInt,asIntOf,typeInfo,aM,ld,mL,nV,wP,oI,QN,sizeOf,ln,newRow,lb,fW]
   ·have g:=PR (ua fw) li
    have:=KO (C:=C) (Q:=gk Q j ⟨w.heap.size,0,0⟩) (ae:=add ae j) (qY (λ_ a=> .inl a) _ g) eg 0 w
    rw[xP (qB (rn Z)) g,DR,bN]at this
    exact this
  ·simp at a
 ·simp at a
def arZ(Z:de C Q ae h j bi w)(ek:bi<=w.heap.size){t:Nat}{r:Operand}{aw:Operand->Value}{ez:Operand->Option H}{res:ea}(cx:i7 Q ae aw ez [r])(a:Ia C t r h j ez=some res):
 ∃v T ao,res= .fv v T ao/\mN C Q ae h j bi w (Instr.makeMap t (some (aw r))) v T ao:=by
 unfold Ia at a
 split at a
 ·rename_i jC Ax an n bc ag
  obtain⟨F,_⟩:=cx r Zs _ ag
  have:=Jz a;subst this
  refine⟨_,_,_,rfl,JA Z ek (W:= .map #[] 0) ?_ (.inr rfl) ⟨#[],uz _ _,rfl,Zs⟩ ⟨λ_ _ _ a=>(by cases a),λ_ _ _ a=>(by cases a)⟩⟩
  simp[Instr.makeMap,run_underlying bc,F,aN,asInt,asIntOf,lb]
 ·simp at a
def atQ(Z:de C Q ae h j bi w)(ek:bi<=w.heap.size){t:Nat}{x:Operand}{aw:Operand->Value}{ez:Operand->Option H}{res:ea}(cx:i7 Q ae aw ez [x])(a:Ie C t x h j ez=some res):
 ∃v T ao,res= .fv v T ao/\mN C Q ae h j bi w (Instr.range t (aw x)) v T ao:=by
 have dF:=qB (Q:=Q) (pl:=⟨w.heap.size,0,0⟩) (rn Z)
 unfold Ie at a
 split at a
 ·rename_i s bc ag
  obtain⟨F,g⟩:=cx x Zs _ ag
  have:=Jz a;subst this
  refine⟨_,_,_,rfl,JA Z ek (W:= .stringIter (fX s) 0) ?_ (.inr rfl) ⟨rfl,uz _ _,g⟩ ⟨λ_ _ _ a=>(by cases a),λ_ _ _ a=>(by cases a)⟩⟩
  simp[Instr.range,run_underlying bc,F,aN,lb]
 ·rename_i jC Ax bc ag
  obtain⟨F,g⟩:=cx x Zs _ ag
  have:=Jz a;subst this
  refine⟨_,_,_,rfl,JA Z ek (W:= .mapIter none 0 #[] 0) ?_ (.inr rfl) ⟨rfl,uz _ _,Zs⟩ ⟨λ_ _ _ a=>(by cases a),λ_ _ _ a=>(by cases a)⟩⟩
  simp[Instr.range,run_underlying bc,F,aN,lb]
 ·rename_i jC Ax r bc ag
  obtain⟨F,g⟩:=cx x Zs _ ag
  split at a
  ·rename_i bF e6 bf
   have:=Jz a;subst this
   obtain⟨cn,bd,cg,a3,a4⟩:=Js Z g bf
   refine⟨_,_,_,rfl,JA Z ek (W:= .mapIter (some (Q r).cE) e6 #[] e6) ?_ (.inr rfl) ⟨rfl, ?_,λb ai=>by cases ai;exact .inl g⟩ ⟨λ_ _ _ a=>(by cases a),λ_ _ _ a=>(by cases a)⟩⟩
   ·simp[Instr.range,run_underlying bc,F,aN,lb,bd]
   ·rw[uz];simp only[ZS,dF r g]
  ·simp at a
 ·simp at a
end
end Go.bg

namespace Go.bg
open Go.RowKit (Below)
section
variable{C:aW}{Q c9:c6}{ae du:Nat->Prop}{h T:S ak}{j ao bi:Nat}{w bV:World}
def Sc(n:Nat):∀l,n8 n l=l.contains n:=by
 intro l
 induction l with
 |nil=>rfl
 |cons J l al=>simp only[n8,List.contains_cons,al];congr 1;rw[Yf,YU];exact⟨Zl,λa=>by rw[a];exact Y7 _⟩
def Ok(C:aW)(Q:c6)(ae:Nat->Prop)(h:S ak)(j bi:Nat)(w:World)(s:Sem Value)(res:ea):Prop:=match res with
 | .val v=>mN C Q ae h j bi w s v h j
 | .fv v T ao=>mN C Q ae h j bi w s v T ao
 | .fork l=>∃v T,(v,T)∈l/\mN C Q ae h j bi w s v T j
 |_=>False
def de.ayP(Z:de C Q ae h j bi w){b:Nat}{cR mc:ak}(ai:C.a7<=b)(aH:ae b)(g8:aa C h b=some cR)(aC:GY cR)(hS:aa C T b=some mc)(CH:∀x,x≠b->aa C T x=aa C h x)(bf:jG C Q ae mc (Q b) w)(q8:tS C ae mc):de C Q ae T j bi w:=
 Z.put ai aH g8 hS (λx ag=> .inl (CH x ag)) (λ_ _=>rfl) (λx dh dI ag dq eX=>by rw[CH x dI]at ag;exact Z.alone ai aH g8 aC x dh dI ag dq eX) bf q8
def ast(Z:de C Q ae h j bi w){eJ:Operand}{yE:Bool}{ty:TypeId}{aw:Operand->Value}{ez:Operand->Option H}{res:ea}(cx:i7 Q ae aw ez [eJ])(a:wK C eJ yE h j ez=some res):
 Ok C Q ae h j bi w (Instr.next (aw eJ) yE ty) res:=by
 unfold wK at a
 split at a
 ·rename_i r ag
  obtain⟨F,mV⟩:=cx eJ Zs _ ag
  simp only[eY]at a
  obtain⟨Iq,a⟩:=a
  have ai:C.a7<=r:=jb Iq
  rw[F]
  split at a
  ·rename_i s pos bf
   obtain⟨lN,R,U⟩:=Z.obj r _ bf mV
   have aa:(getObj (Q r).cE).run C.P w= .ok (.stringIter (fX s) pos) w:=by simp[getObj,Sem.run,R]
   have eH:(fX s).size=s.length:=by simp[fX,ByteArray.size]
   rw[fo]at a
   split at a
   ·rename_i ay
    have ay:=lh ay
    rw[pE]at a
    split at a
    ·rename_i c az
     simp only[eY]at a
     obtain⟨Qn,a⟩:=a
     have Qn:=lh Qn
     obtain⟨rfl,_⟩:=SO a
     obtain⟨bV,bZ,cw,c0⟩:=putObj Z (cX:=j) (mc:= .od s (pos+1)) (o':= .stringIter (fX s) (pos+1)) ai mV bf ⟨Zs,Zs⟩ R Zs (λbV sh=>⟨lN,sh,U⟩) ⟨λ_ _ _ a=>(by cases a),λ_ _ _ a=>(by cases a)⟩
     refine⟨Q,ae,bV, ?_,⟨trivial,trivial,trivial,trivial⟩,cw,c0,Zi _⟩
     have c2:pos<(fX s).size:=by rw[eH];exact ay
     have ο:((fX s)[pos]'c2).toNat=c:=by
      show((fX s).data[pos]).toNat=c
      have aI:s[pos]=c:=by
       rw[Ze ay]at az
       exact Yu az
      simp[fX,aI];omega
     have LY:=decode_ascii (fX s) pos c2 (by rw[ο];exact Qn)
     rw[ο]at LY
     simp[Instr.next,aN,bX,lN,aa,eH,ay,LY,bZ,goInt]
    ·simp at a
   ·rename_i ay
    have ay:¬pos<s.length:=λan=>ay (by simp[Nat.blt];omega)
    simp at a;subst a
    refine mN.same Z ?_ ⟨trivial,trivial⟩
    simp[Instr.next,aN,bX,lN,aa,eH,ay]
  ·rename_i vy seen adY bf
   obtain⟨lN,R,U⟩:=Z.obj r _ bf mV
   have aa:(getObj (Q r).cE).run C.P w= .ok (.mapIter none vy seen.toArray adY) w:=by simp[getObj,Sem.run,R]
   simp at a;subst a
   refine mN.same Z ?_ ⟨trivial,trivial⟩
   simp[Instr.next,aN,bX,lN,aa]
  ·simp at a
 ·simp at a
end
end Go.bg

namespace Go.bg
open Go.RowKit (Below)
section
variable{C:aW}{Q c9:c6}{ae du:Nat->Prop}{h T:S ak}{j ao bi:Nat}{w bV:World}
def alT(w:World)(cn:Array Value)(F:TypeId)(n:Nat):(w.alloc (.cells cn F)).freeze ⟨w.heap.size,n,none⟩ 1=w.alloc (.cells cn F (n,n+1)):=by
 unfold World.freeze
 rw[Zh Zd]
 show({w with heap:=(w.heap.push (.cells cn F)).modify w.heap.size _}:World)={w with heap:=w.heap.push (.cells cn F (n,n+1))}
 congr 1
 apply Array.ext_getElem?
 intro D
 rw[YY,Array.getElem?_push,Array.getElem?_push]
 by_cases aF:w.heap.size=D
 ·subst aF;simp
 ·rw[Zh aF,Zh (λF=>aF F.symm),Zh (λF=>aF F.symm)]
def alS{p:Nat}{cn:Array Value}{ty:TypeId}{bT aM:Nat}(a:w.heap[p]? =some (.cells cn ty (bT,aM)))(n:Nat):
 (w.freeze ⟨p,n,none⟩ 1).heap[p]? =some (.cells cn ty (if bT==aM then(n,n+1)else(min bT n,max aM (n+1))))/\(∀D,D≠p->(w.freeze ⟨p,n,none⟩ 1).heap[D]? =w.heap[D]?):=by
 unfold World.freeze
 rw[Zh Zd]
 constructor
 ·simp only[YY,ZD,a,ZS]
 ·intro D aF
  simp only[YY]
  rw[Zh (λF=>aF F.symm)]
def avy(Z:de C Q ae h j bi w)(ek:bi<=w.heap.size){s d:Nat}{x:Operand}{aw:Operand->Value}{ez:Operand->Option H}{res:ea}(cx:i7 Q ae aw ez [x])(a:Ig C s d x h j ez=some res):
 Ok C Q ae h j bi w (convert s d (aw x)) res:=by
 unfold Ig at a
 split at a
 ·rename_i F l aI aH ag
  obtain⟨ex,g⟩:=cx x Zs _ ag
  split at a
  ·rename_i bt
   obtain⟨gr,rfl⟩:=XF a
   rw[ex]
   have eH:(fX l).size=l.length:=by simp[fX,ByteArray.size]
   have ayb:(fX l).data.size=l.length:=by simp[fX]
   have az:=adZ Q l g
   have amh:ew ae (l.map λn=>H.int .u8 (Int.ofNat n)):=by
    rw[ul];intro v bA;obtain⟨e,_,rfl⟩:=ZW.1 bA;trivial
   obtain⟨cap,mu,AP⟩:∃cap,l.length<=cap/\(choose (.appendCap l.length 0 F)).run C.P w= .ok cap w.drew:=
    ⟨l.length+(w.tape w.drawn (.appendCap l.length 0 F))%(2^63-l.length),Zo,by simp[Question.forced,Question.cut]⟩
   have MB:(l.map λn=>H.int .u8 (Int.ofNat n)).length+(Array.replicate (cap-l.length) (Value.int .u8 0)).size=cap*1:=by simp;omega
   have In:=XI (C:=C) (Q:=Q) (w:=w) (j:=j) amh (rn Z) MB F []
   have CX:jG C (gk Q j ⟨w.heap.size,0,cap*1⟩) (add ae j) (.cells (S.ofList (l.map λn=>H.int .u8 (Int.ofNat n)) 0 .nil) (l.map λn=>H.int .u8 (Int.ofNat n)).length (.grow [])) ⟨w.heap.size,0,cap*1⟩
    (w.drew.alloc (.cells ((bX Q (l.map λn=>H.int .u8 (Int.ofNat n))).toArray++Array.replicate (cap-l.length) (Value.int .u8 0)) F (cap,cap+1))):=by
    obtain⟨cn,ty,bT,aM,cZ,dO,ei,h2⟩:=In
    have VY:=uz w.drew (.cells ((bX Q (l.map λn=>H.int .u8 (Int.ofNat n))).toArray++Array.replicate (cap-l.length) (Value.int .u8 0)) F)
    have apX:w.drew.heap.size=w.heap.size:=rfl
    rw[apX]at VY
    rw[VY]at cZ
    cases cZ
    refine⟨_,F,cap,cap+1,uz w.drew _,⟨.inr ?_,dO.2.1,dO.2.2⟩,ei,h2⟩
    simp[jL];omega
   refine⟨gk Q j ⟨w.heap.size,0,cap*1⟩,add ae j,_, ?_, .inr rfl,Z.drew.alloc Z.a7 (Yg _) (Ya _) (rn Z) ek rfl (by rw[fT _ Z.a7,Zq rfl]) (λx ag=> .inl (by rw[fT _ Z.a7,Zh ag])) CX
    ⟨λ_ _ _ a=>(by cases a;simp),λ_ _ _ a=>(by cases a;exact Gp)⟩,Pr Z ek _ (λx ag _=>by rw[fT _ Z.a7,Zh ag]),Ya _⟩
   have apO:((bX Q (l.map λn=>H.int .u8 (Int.ofNat n))).toArray++Array.replicate (cap-l.length) (Value.int .u8 0)).size=cap:=by simp[jL];omega
   have uB:=alT w.drew ((bX Q (l.map λn=>H.int .u8 (Int.ofNat n))).toArray++Array.replicate (cap-l.length) (Value.int .u8 0)) F cap
   have QH:w.drew.heap.size=w.heap.size:=rfl
   rw[QH]at uB
   have Rl:(w.drew.alloc (.cells ((bX Q (l.map λn=>H.int .u8 (Int.ofNat n))).toArray++Array.replicate (cap-l.length) (Value.int .u8 0)) F)).shape? w.heap.size=some (F,cap):=by
    have:=uz w.drew (.cells ((bX Q (l.map λn=>H.int .u8 (Int.ofNat n))).toArray++Array.replicate (cap-l.length) (Value.int .u8 0)) F)
    rw[QH]at this
    simp only[World.shape?,this,apO]
   simp only[convert,Sem.run_bind,run_underlying aI,run_underlying aH,run_underlying bt,Result.andThen_ok,aN,Conv.stringToBytes,eH,AP,az,newRow,run_newObj_alloc,QH,Sem.run_pure,markStringish,run_shape,Rl,run_freeze,uB,
    lb,ZM,Y9,Yj,Nat.div_one]
  ·simp at a
 ·rename_i s1 F b W len cap aI aH ag
  obtain⟨ex,g⟩:=cx x Zs _ ag
  split at a
  ·rename_i bt
   simp only[eY,Zn]at a
   obtain⟨⟨Rk,Iq⟩,a⟩:=a
   have Rk:s=d:=Zl Rk
   subst Rk
   have ai:C.a7<=b:=jb Iq
   rw[ex]
   have fin:∀(c:S H) (n:Nat) (st:nE),aa C h b=some (.cells c n st)->(st= .own\/st= .marked)->∀T,aa C T b=some (.cells c n .marked)->(∀x,x≠b->aa C T x=aa C h x)->
    mN C Q ae h j bi w (convert s s (aN Q (.slice b W len cap))) (.slice b W len cap) T j:=by
    intro c n st bf df T en dE
    obtain⟨cn,ty,bT,aM,bd,cg,a3,a4⟩:=Z.obj b _ bf g
    have l2:GY (.cells c n st):=by rcases df with rfl|rfl<;>exact⟨Zs,Zs⟩
    have Fm:bT=aM\/cn.size<=bT:=by rcases df with rfl|rfl;exact .inl cg;exact cg
    obtain⟨eM,e3⟩:=alS bd cn.size
    have AN:=Z.base b _ ai bf g
    have II:∃ri kX,(if bT==aM then(cn.size,cn.size+1)else(min bT cn.size,max aM (cn.size+1)))=(ri,kX)/\cn.size<=ri:=by
     by_cases an:bT=aM
     ·exact⟨_,_,by rw[Zq (by simpa using an)],Zi _⟩
     ·refine⟨_,_,by rw[Zh (by simpa using an)], ?_⟩
      have:=Fm.resolve_left an
      omega
    obtain⟨ri,kX,bB,cF⟩:=II
    rw[bB]at eM
    refine⟨Q,ae,w.freeze ⟨(Q b).cE,cn.size,none⟩ 1, ?_,g,Z.put ai g bf en (λx ag=> .inl (dE x ag)) (λD aF=>e3 D aF) ?_ ⟨cn,ty,ri,kX,eM, .inr cF,a3,a4⟩ ⟨λ_ _ _ a=>(by cases a),λ_ _ _ a=>(by cases a;exact(Z.fk b _ bf g).2 _ _ _ rfl)⟩, ?_,Zi _⟩
    ·have Rl:w.shape? (Q b).cE=some (ty,cn.size):=SG bd
     have anN:(s==s)=true:=by simp
     simp only[convert,Sem.run_bind,run_underlying aI,Result.andThen_ok,aN]
     rw[aI]at aH
     cases aH
     simp only[anN,run_underlying bt,Sem.run_bind,Result.andThen_ok,markStringish,run_shape,Rl,run_freeze,Sem.run_pure]
    ·intro x dh dI ag dq eX
     rw[dE x dI]at ag
     exact Z.alone ai g bf l2 x dh dI ag dq eX
    ·refine⟨λ_ _=>rfl,λ_ a=>a,λ_ a=> .inl a,λx ag _=>dE x (λF=>ag (by rw[F];exact g)), ?_⟩
     refine⟨?_, ?_, ?_, ?_,λD aF=>e3 D Zo⟩<;>simp[World.freeze]
   split at a
   ·rename_i c n bf
    simp only[he,Zf]at a
    subst a
    exact fin c n .own bf (.inl rfl) _ (by rw[fT _ ai,Zq rfl]) (λx ag=>by rw[fT _ ai,Zh ag])
   ·rename_i c n bf
    simp only[Zf]at a
    subst a
    exact fin c n .marked bf (.inr rfl) h bf (λ_ _=>rfl)
   ·simp at a
  ·simp at a
 ·simp at a
end
end Go.bg

namespace Go.bg
open Go.RowKit (Below)
def ir(C:aW)(Q:c6)(ae:Nat->Prop)(h:S ak)(j bi:Nat)(w:World)(s:Sem Next)(res:ea):Prop:=match res with
 | .val v=>Ac C Q ae h j bi w s v h j
 | .fv v T ao=>Ac C Q ae h j bi w s v T ao
 | .fork l=>∃v T,(v,T)∈l/\Ac C Q ae h j bi w s v T j
 | .enter f args=>s.run C.P w= .ok (.enter f (bX Q args).toArray) w/\ew ae args
 | .known f args v=>C.g6 f args=some v/\s.run C.P w=(callFunc f (bX Q args).toArray).run C.P w/\ew ae args
 | .round l args=>s.run C.P w=(Instr.yield (Q l).cE (bX Q args).toArray).run C.P w/\ew ae args/\ae l
 | .defer d=>s.run C.P w= .ok (.defer (lA Q d)) w/\wD ae d
 | .recover=>s.run C.P w= .ok .recover w
 | .panic v=>s.run C.P w= .halt (.panic (aN Q v)) w/\ch ae v
section
variable{C:aW}{Q c9:c6}{ae du:Nat->Prop}{h T:S ak}{j ao bi:Nat}{w bV:World}
def ir.one{s:Sem Value}{res:ea}(a:Ok C Q ae h j bi w s res):ir C Q ae h j bi w (do pure (.value (<-s))) res:=by
 cases res with
 |val v=>exact mN.done a
 |fv v T ao=>exact mN.done a
 |fork l=>obtain⟨v,T,R,U⟩:=a;exact⟨v,T,R,U.done⟩
 |_=>exact a.elim
def ir.fv{s:Sem Value}{res:ea}(a:∃v T ao,res= .fv v T ao/\mN C Q ae h j bi w s v T ao):ir C Q ae h j bi w (do pure (.value (<-s))) res:=by
 obtain⟨v,T,ao,rfl,a⟩:=a
 exact a.done
def ir.app(Z:de C Q ae h j bi w){s:Sem Value}{res:ea}(a:N9 C Q ae h j bi w s res):ir C Q ae h j bi w (do pure (.value (<-s))) res:=by
 rcases a with ⟨v,T,ao,rfl,c9,du,bV,R,U,ar,aO,bN⟩|⟨v,rfl,R,U⟩
 ·exact mN.done ⟨c9,du,bV,R,U,ar,aO,bN⟩
 ·exact mN.done (.same Z U R)
def ir.unit{s:Sem Unit}{res:ea}(a:∃T bV,res= .fv undef T j/\s.run C.P w= .ok () bV/\de C Q ae T j bi bV/\iq C j Q ae h bi w Q ae T bV):
 ir C Q ae h j bi w (do s;pure .skip) res:=by
 obtain⟨T,bV,rfl,R,U,ar⟩:=a
 exact⟨Q,ae,bV, .skip,by simp[R], .inr ⟨rfl,rfl⟩,by trivial,U,ar,Zi _⟩
def ir.congr{s fs:Sem Next}{res:ea}(a:s.run C.P w=fs.run C.P w)(D:ir C Q ae h j bi w fs res):ir C Q ae h j bi w s res:=by
 cases res<;>simp only[ir,Ac]at D ⊢ <;>rw[a]<;>exact D
def OY(kc:xD C.P){f:Nat}{args:List H}{res:ea}(g:ew ae args)(a:rN C f args=some res):ir C Q ae h j bi w (callFunc f (bX Q args).toArray) res:=by
 unfold rN at a
 split at a
 ·rename_i v bA
  simp at a;subst a
  exact⟨bA,rfl,g⟩
 ·split at a
  ·rename_i fn ce
   split at a
   ·rename_i c ai
    simp at a;subst a
    refine⟨?_,g⟩
    have aK:fn.name≠ "runtime.NumGoroutine":=by simpa using kc.num f fn ce (by simp[ai])
    simp[callFunc,ce,aK,ai]
   ·simp at a
  ·simp at a
def abI(kc:xD C.P){fn:Fn}{fH args:List H}{res:ea}(amp:Lr ae fn)(Lm:ew ae fH)(hg:ew ae args)(a:Al C fn fH args=some res):
 ir C Q ae h j bi w (invoke (.fn (mS Q fn) (bX Q fH).toArray) (bX Q args).toArray) res:=by
 unfold Al at a
 split at a
 ·rename_i f
  have F:invoke (.fn (mS Q (.func f)) (bX Q fH).toArray) (bX Q args).toArray=callFunc f (bX Q (args++fH)).toArray:=by
   simp[invoke,mS,Cg]
  rw[F]
  exact OY kc (AE hg Lm) a
 ·rename_i l
  simp at a;subst a
  exact⟨rfl,hg,amp⟩
 ·simp at a
def ar9(Z:de C Q ae h j bi w)(kc:xD C.P){t:Nat}{v:H}{name:String}{args:List H}{res:ea}(fh:ch ae v)(hg:ew ae args)(a:Er C h t v name args=some res):
 ir C Q ae h j bi w (callMethod (.iface t (aN Q v)) name (bX Q args).toArray) res:=by
 obtain⟨D,aF⟩:∃D,C.P.types.size+Made.depth=D+1:=⟨C.P.types.size+99,rfl⟩
 have go:∀(f:Nat) (x:H),ch ae x->(method (D+1) t (aN Q v) name).run C.P w= .ok (f,aN Q x) w->rN C f (x::args)=some res->ir C Q ae h j bi w (callMethod (.iface t (aN Q v)) name (bX Q args).toArray) res:=by
  intro f x fx bp az
  refine(OY (Q:=Q) (h:=h) (j:=j) (bi:=bi) (w:=w) kc (args:=x::args) (show ch ae x/\ew ae args from⟨fx,hg⟩) az).congr ?_
  simp[callMethod,aF,bp,bX]
 unfold Er at a
 split at a
 ·rename_i i aM
  split at a
  ·rename_i m bp
   simp only[eY]at a
   obtain⟨ay,a⟩:=a
   have Fw:m.path.toList=[]:=by simpa using ay
   split at a
   ·rename_i f F ce bc
    refine go f v fh ?_ a
    simp[method,typeInfo,aM,bp,Fw,follow,ce,receiverAt,run_underlying bc,Place.get]
   ·rename_i f F ce bc
    split at a
    ·rename_i x ag
     obtain⟨R,U⟩:=VI Z fh ag
     refine go f x U ?_ a
     cases v with
     |ptr b W=>
      simp only[Instr.loadAt,Instr.sureAddr,aN,Sem.run_bind,Sem.run_pure,Result.andThen_ok]at R
      have apS:∀(io:TypeId) (J:Addr) (nm:String),Builtin.ssaWrapNilChk_ #[io] io #[.pointer (some J),strVal "",strVal nm]=pure (.pointer (some J)):=λ_ _ _=>rfl
      have n2:m.path= #[]:=by simpa using ay
      simp[method,typeInfo,aM,bp,n2,follow,ce,receiverAt,run_underlying bc,Place.get,aN,apS,asAddr,R]
     |_=>simp[lz,b6,am]at ag;split at ag<;>simp at ag
    ·simp at a
   ·rename_i f d aK ce bc
    refine go f v fh ?_ a
    cases d<;>first
     |exact(aK _ rfl).elim
     |simp[method,typeInfo,aM,bp,Fw,follow,ce,receiverAt,run_underlying bc,Place.get]
   ·simp at a
  ·simp at a
 ·simp at a
def ajO(Z:de C Q ae h j bi w)(ek:bi<=w.heap.size)(kc:xD C.P){b:Builtin}{args:Array Operand}{dg:Array TypeId}{ty:TypeId}{aj8:Array Bool}{aw:Operand->Value}{ez:Operand->Option H}{res:ea}
 (cx:i7 Q ae aw ez args.toList)(a:HX C b args dg h j ez=some res):ir C Q ae h j bi w (builtin b dg ty aj8 (args.map aw)) res:=by
 have Ey:∀{t:Nat}{rest:List Nat},dg.toList=t::rest->dg[0]? =some t:=λaC=>by rw[<-ZL,aC];rfl
 have OL:∀{t ad:Nat}{rest:List Nat},dg.toList=t::ad::rest->dg[1]? =some ad:=λaC=>by rw[<-ZL,aC];rfl
 unfold HX at a
 split at a
 ·rename_i s x ag
  obtain⟨bd,cg⟩:=wk cx ag
  rw[bd]
  split at a
  ·rename_i st io rest aC
   split at a
   ·rename_i an hF
    split at a
    ·rename_i n aK
     exact ir.app Z (aiN (ty:=ty) Z ek (Ey aC) (OL aC) hF cg.1 aK a)
    ·simp at a
   ·rename_i F hF
    exact ir.app Z (VD (ty:=ty) Z ek (Ey aC) (OL aC) hF (.inr ⟨F,rfl⟩) cg.1 cg.2.1 a)
   ·rename_i hF
    exact ir.app Z (VD (ty:=ty) Z ek (Ey aC) (OL aC) hF (.inl rfl) cg.1 cg.2.1 a)
   ·simp at a
  ·simp at a
 ·rename_i ag
  simp at a;subst a
  exact rfl
 ·simp at a
def aiO(Z:de C Q ae h j bi w)(ek:bi<=w.heap.size)(kc:xD C.P){oper:Oper}{aw:Operand->Value}{ez:Operand->Option H}{res:ea}(cx:i7 Q ae aw ez oper.op.operands.toList)
 (a:nd oper.op C h j ez=some res):ir C Q ae h j bi w (execOp aw oper) res:=by
 obtain⟨dst,op,type,pos,after,guard⟩:=oper
 have acz:∀t m D x,i7 Q ae aw ez [m,D,x]->Fc C t m D x h j ez=some res->ir C Q ae h j bi w (do Instr.mapUpdate t (aw m) (aw D) (aw x);pure .skip) res:=by
  intro t m D x cx a
  unfold Fc at a
  split at a
  ·rename_i J b c aC ai az
   obtain⟨bB,b3⟩:=cx m Zs J aC
   obtain⟨cF,b2⟩:=cx D Zs b ai
   obtain⟨fp,cQ⟩:=cx x Zs c az
   obtain⟨T,bV,R,U,ar,aO⟩:=aiU Z b3 b2 cQ a
   rw[bB,cF,fp]
   exact ir.unit ⟨T,bV,R,U,ar,aO⟩
  ·simp at a
 cases op<;>simp only[nd]at a<;>(try(cases a;done))<;>simp only[execOp]<;>simp only[Op.operands]at cx
 case mapUpdate t m D x=>exact acz t m D x (by simpa using cx) a
 case insert t m D x=>exact acz t m D x (by simpa using cx) a
 case makeSlice t l c=>exact ir.fv (ar1 Z ek (by simpa using cx) a)
 case makeMap t r=>
  cases r with
  |none=>simp at a
  |some r=>exact ir.fv (arZ Z ek (by simpa using cx) a)
 case convert s d x=>exact ir.one (avy Z ek (by simpa using cx) a)
 case range t x=>exact ir.fv (atQ Z ek (by simpa using cx) a)
 case next eJ s=>exact ir.one (ast Z (by simpa using cx) a)
 case panic x=>
  unfold Qg at a
  split at a
  ·rename_i t v ag
   simp at a;subst a
   obtain⟨F,g⟩:=cx x Zs _ ag
   refine⟨?_,g⟩
   simp[Instr.panic,F,aN]
  ·simp at a
 case defer c=>
  unfold P0 at a
  split at a
  ·rename_i f args dg
   split at a
   ·rename_i fn first fH cp ce has
    simp at a;subst a
    simp only[Call.operands]at cx
    obtain⟨F,g⟩:=cx f Zs _ ce
    obtain⟨bd,cg⟩:=wk (cx.mono (by simp;intro x ag;exact .inr ag)) has
    refine⟨?_,⟨g.1,g.2.2⟩,AE g.2.1 cg⟩
    simp[resolve,F,aN,Deferred.ofValue,bd,lA,Cc,Cg]
   ·simp at a
  ·simp at a
 case call c=>
  unfold Cz at a
  split at a
  ·rename_i f args dg
   split at a
   ·rename_i fn first fH cp ce has
    simp only[Call.operands]at cx
    obtain⟨F,g⟩:=cx f Zs _ ce
    obtain⟨bd,cg⟩:=wk (cx.mono (by simp;intro x ag;exact .inr ag)) has
    refine(abI (Q:=Q) (h:=h) (j:=j) (bi:=bi) (w:=w) kc g.1 g.2.2 (AE g.2.1 cg) a).congr ?_
    simp[resolve,F,aN,Deferred.ofValue,bd,Cg]
   ·simp at a
  ·rename_i b args dg
   simp only[Call.operands]at cx
   show ir C Q ae h j bi w (builtin b dg type _ (args.map aw)) res
   exact ajO Z ek kc (cx.mono Zs) a
  ·rename_i r name args dg
   split at a
   ·rename_i t v cp FC has
    simp only[Call.operands]at cx
    obtain⟨F,g⟩:=cx r Zs _ FC
    obtain⟨bd,cg⟩:=wk (cx.mono (by simp;intro x ag;exact .inr ag)) has
    refine(ar9 (v:=v) Z kc g cg a).congr ?_
    simp[resolve,F,aN,invoke,bd]
   ·simp at a
end
end Go.bg

namespace Go.bg
noncomputable section
abbrev d6:=Option H
structure h9 where
 fn:Nat
 n:Nat
 aq:Nat
 bb:List hy
 aD:Bool
 ro:Option Nat
 cs:List gC
abbrev hm:=kN->List dN->h9->S H->S ak->Nat->d6
def og(g:Option (Nat×Bool))(au:List (Nat×H)):Option Bool:=
 match g with
 |none=>some true
 |some (Y,lu)=>(match et au Y with
  |some v=>(match v with| .bool b=>some (b==lu)|_=>some false)
  |none=>none)
def nw(f:H->H->Bool):List H->List H->Bool
 |[],[]=>true
 |J::l,b::m=>f J b&&nw f l m
 |_,_=>false
def H.same:Nat->H->H->Bool
 |0,_,_=>false
 |d+1,x,e=>match x,e with
  | .bool J, .bool b=>J==b
  | .int D J, .int e1 b=>decide (D=e1)&&decide (J=b)
  | .str J, .str b=>mE J b
  | .ptr J b, .ptr fR dR=>Nat.beq J fR&&Nat.beq b dR
  | .cq, .cq=>true
  | .slice J b c F, .slice fR dR fZ ib=>Nat.beq J fR&&Nat.beq b dR&&Nat.beq c fZ&&Nat.beq F ib
  | .fu J b c F, .fu fR dR fZ ib=>Nat.beq J fR&&Nat.beq b dR&&Nat.beq c fZ&&Nat.beq F ib
  | .aT, .aT=>true
  | .map J, .map b=>Nat.beq J b
  | .lT, .lT=>true
  | .func f J b, .func W3 fR dR=>decide (f=W3)&&nw (H.same d) J fR&&nw (H.same d) b dR
  | .nilFunc, .nilFunc=>true
  | .iface t v, .iface hb hI=>Nat.beq t hb&&H.same d v hI
  | .nilIface, .nilIface=>true
  | .agg J, .agg b=>nw (H.same d) J b
  | .tuple J, .tuple b=>nw (H.same d) J b
  |_,_=>false
def wr(C:aW)(base:Nat)(K:S H):List fg->List (Nat×H)->S ak->Option (List (Nat×H)×S ak)
 |[],au,h=>some (au,h)
 |x::l,au,h=>(match og x.g au with
  |none=>none
  |some false=>wr C base K l ((x.i,undef)::au) h
  |some true=>(match mA x.op with
   | .make=>(match nQ x.op C (base+x.i) au K with
     |some (v,cR)=>je (bm C h (base+x.i) (some cR)) λh=>wr C base K l ((x.i,v)::au) h
     |none=>none)
   |_=>(match gJ x.op C h au K with
    |some v=>wr C base K l ((x.i,v)::au) h
    |none=>none)))
def Ck(C:aW)(K:S H)(au:List (Nat×H))(h:S ak):List fg->Bool
 |[]=>true
 |x::l=>(match og x.g au with
  |none=>false
  |some false=>Ck C K au h l
  |some true=>(match gJ x.op C h au K,et au x.i with
   |some v,some ad=>H.same 30 v ad&&Ck C K au h l
   |_,_=>false))
def x0(au:List (Nat×H)):List (Nat×Nat)->S H->Option (S H)
 |[],K=>some K
 |(i,d)::l,K=>(match et au i with|some v=>je (K.set d (some v)) λK=>x0 au l K|none=>none)
def exitTo(id:Nat):List dN->Option (List dN)
 |[]=>none
 | .inBlock tr::D=>bR (Nat.beq tr id) (some D)<|exitTo id D
 |_::D=>exitTo id D
def iY{α:Type}(W:Option α)(D:α->d6):d6:=Option.rec (motive:=λ_=>d6) none (λJ=>D J) W
def Hl(l:List (Nat×H)):Nat->(H->d6)->d6:=
 List.rec (motive:=λ_=>Nat->(H->d6)->d6) (λ_ _=>none)
  (λp _ al Y D=>Prod.rec (motive:=λ_=>d6) (λJ b=>Bool.rec (motive:=λ_=>d6) (al Y D) (D b) (Nat.beq J Y)) p) l
def Ln(t:S H):Nat->(H->d6)->d6:=
 S.rec (motive:=λ_=>Nat->(H->d6)->d6) (λ_ _=>none)
  (λv _ _ iw p6 i D=>Nat.rec (motive:=λ_=>d6) (Option.rec (motive:=λ_=>d6) none (λJ=>D J) v)
   (λY _=>Bool.rec (motive:=λ_=>d6) (p6 (Nat.div Y 2) D) (iw (Nat.div Y 2) D) (Nat.beq (Nat.mod Y 2) 0)) i) t
def xX(x:ki):List (Nat×H)->S H->(H->d6)->d6:=
 ki.rec (motive:=λ_=>List (Nat×H)->S H->(H->d6)->d6) (λY au _ D=>Hl au Y D) (λn _ K D=>Ln K n D) (λJ _ _ D=>D J) x
def aeq(g:Option (Nat×Bool)):List (Nat×H)->d6->d6->d6:=
 Option.rec (motive:=λ_=>List (Nat×H)->d6->d6->d6) (λ_ J _=>J)
  (λp au J b=>iY (og (some p) au) λw=>Bool.rec (motive:=λ_=>d6) b J w) g
def HO(l:List (Nat×Nat)):List (Nat×H)->S H->(S H->d6)->d6:=
 List.rec (motive:=λ_=>List (Nat×H)->S H->(S H->d6)->d6) (λ_ K D=>D K)
  (λp _ al au K D=>Prod.rec (motive:=λ_=>d6) (λi d=>Hl au i λv=>je (S.set K d (some v)) λK=>al au K D) p) l
def DY(eJ:dN)(D:List dN)(b8:h9)(K:S H):List gC:=
 h9.rec (motive:=λ_=>List gC) (λfn n aq bb aD ro cs=>⟨fn,n,aq,K,eJ::D,bb, .run,aD,ro⟩::cs) b8
def nO(al:hm)(C:aW)(f:Nat)(args:List H)(deferred:Bool)(cs:List gC)(h:S ak)(j:Nat):d6:=
 match C.P.funcs[f]? with
 |some fn=>(match fn.body with
  |some c=>p3 (Nat.lor (kb c) (nx fn.results.toList)) λaq=>bR (Nat.ble args.length fn.ntmps&&lC C aq c&&yU aq fn.results.toList) (al .run [.code c] ⟨f,fn.ntmps,aq,[],deferred,none,cs⟩ (S.ofList args 0 .nil) h j)<|none
  |none=>none)
 |none=>none
def xl(n:Nat):List Nat->List H->S H->Option (S H)
 |[],[],K=>some K
 |p::dl,J::cp,K=>bR (Nat.blt p n) (xl n dl cp (K.set p (some J)))<|none
 |_,_,_=>none
def oA(eJ:dN)(v:H):Option dN:=match eJ with
 | .sL av au a rest fin=>some (.GH av ((a,v)::au) rest fin)
 | .y6 av base au a k9 fin=>some (.drawn av base ((a,v)::au) k9 fin)
 | .inRangeFunc l=>some (.endRangeFunc l)
 |_=>none
def SB(al:hm)(todo:List dN)(b8:h9)(v:H)(K:S H)(h:S ak)(j:Nat):d6:=
 match todo with
 |[]=>none
 |eJ::D=>(match oA eJ v with|some hs=>al .run (hs::D) b8 K h j|none=>none)
def wt:List Nat->S H->S H
 |[],K=>K
 |d::l,K=>wt l (K.set d none)
def uf(todo:List dN)(K:S H):S H:=match todo with
 | .sL av _ _ _ _::_=>wt (dstsOf av.toList) K
 | .y6 av _ _ _ _ _::_=>wt (dstsOf av.toList) K
 |_=>K
def DN(chain:List rC)(bM:kN):kN:=match bM with
 | .panicking pG=> .panicking (chain++pG)
 |_=> .panicking chain
def adx(al:hm)(c:gC)(cs:List gC)(chain:List rC)(h:S ak)(j:Nat):d6:=
 match c with
 |⟨fn,n,aq,K,todo,bb,bM,aD,ro⟩=>al (DN chain bM) todo ⟨fn,n,aq,bb,aD,ro,cs⟩ (uf todo K) h j
def BQ(aD:Bool)(cs:List gC):Option (H×List gC):=
 bR (aD) ((match cs with
  |c::rest=>(match c with
   |⟨fn,n,aq,K,todo,bb,bM,jd,ro⟩=>(match bM with
    | .panicking (⟨v,false⟩::BA)=>some (v,⟨fn,n,aq,K,todo,bb, .panicking (⟨v,true⟩::BA),jd,ro⟩::rest)
    |_=>some (.nilIface,cs)))
  |[]=>none))<|some (.nilIface,cs)
def x4(al:hm)(eJ:dN)(D:List dN)(b8:h9)(K:S H)(j:Nat):List (H×S ak)->d6
 |[]=>none
 |[(v,h)]=>(match oA eJ v with|some hs=>al .run (hs::D) b8 K h j|none=>none)
 |(v,h)::l=>(match oA eJ v with
  |some hs=>(match al .run (hs::D) b8 K h j,x4 al eJ D b8 K j l with
   |some J,some b=>bR (H.same 30 J b) (some J) none
   |_,_=>none)
  |none=>none)
def nI(r:ea)(al:hm)(C:aW)(eJ:dN)(D:List dN)(b8:h9)(K:S H)(h:S ak)(j:Nat):d6:=
 match r with
 | .val v=>(match oA eJ v with|some hs=>al .run (hs::D) b8 K h j|none=>none)
 | .fv v h j=>(match oA eJ v with|some hs=>al .run (hs::D) b8 K h j|none=>none)
 | .enter f args=>nO al C f args false (DY eJ D b8 K) h j
 | .known _ _ v=>(match oA eJ v with|some hs=>al .run (hs::D) b8 K h j|none=>none)
 | .round l args=>(match aa C h l with
   |some (.loop _ _ fn n aq c1 params assign body _)=>(match xl n params args c1 with
    |some c1=>al .run [.code assign, .beginRound, .code body] ⟨fn,n,aq,[],false,some l,DY eJ D b8 K⟩ c1 h j
    |none=>none)
   |_=>none)
 | .defer d=>(match b8 with
   |⟨fn,n,aq,bb,aD,ro,cs⟩=>(match ro with
    |none=>(match oA eJ undef with|some hs=>al .run (hs::D) ⟨fn,n,aq,d::bb,aD,none,cs⟩ K h j|none=>none)
    |some _=>none))
 | .recover=>(match b8 with
   |⟨fn,n,aq,bb,aD,ro,cs⟩=>(match ro with
    |none=>(match BQ aD cs with
     |some (v,c8)=>(match oA eJ v with|some hs=>al .run (hs::D) ⟨fn,n,aq,bb,aD,none,c8⟩ K h j|none=>none)
     |none=>none)
    |some _=>none))
 | .panic v=>(match b8 with
   |⟨fn,n,aq,bb,aD,ro,cs⟩=>(match ro with
    |none=>al (.panicking [⟨v,false⟩]) (eJ::D) ⟨fn,n,aq,bb,aD,none,cs⟩ (uf (eJ::D) K) h j
    |some _=>none))
 | .fork l=>x4 al eJ D b8 K j l
def Sn(op:jF):aW->S ak->Nat->List (Nat×H)->S H->(H->S ak->Nat->d6)->(ea->d6)->d6:=
 match op with
 | .Dv x=>λ_ h j au K ah _=>xX x au K λv=>ah v h j
 | .pick c J b=>λ_ h j au K ah _=>iY (gJ (.pick c J b) ⟨default, .nil,0,λ_ _=>none,0⟩ h au K) λv=>ah v h j
 | .fU J=>λC h j au K ah _=>xX J au K λJ=>iY (am C h J) λv=>ah v h j
 | .Bl n J=>λC h j au K ah _=>xX J au K λJ=>iY (b6 C h n J) λv=>ah v h j
 | .off d x=>λ_ h j au K ah _=>xX x au K λJ=>iY (aZ d J) λv=>ah v h j
 | .Be n bl x i=>λC h j au K ah _=>iY (gJ (.Be n bl x i) C h au K) λv=>ah v h j
 | .Bf bl x i=>λC h j au K ah _=>iY (gJ (.Bf bl x i) C h au K) λv=>ah v h j
 | .DB x=>λ_ h j au K ah _=>xX x au K λJ=>iY (cf J) λv=>ah v h j
 | .I6 op x e=>λ_ h j au K ah _=>xX x au K λJ=>xX e au K λb=>iY (aA op J b) λv=>ah v h j
 | .ext i x=>λ_ h j au K ah _=>xX x au K λJ=>iY (cN i J) λv=>ah v h j
 | .hX b1 W=>λC h j au K ah _=>iY (gJ (.hX b1 W) C h au K) λv=>ah v h j
 | .make b1 W=>λC h j au K _ p0=>iY (M5 (.make b1 W) C h j au K) p0
 | .st n J v=>λC h j au K _ p0=>iY (hJ (.st n J v) C h j au K) p0
 | .call f args=>λC h j au K _ p0=>iY (hJ (.call f args) C h j au K) p0
 | .fe b1 W=>λC h j au K _ p0=>iY (hJ (.fe b1 W) C h j au K) p0
structure gv where
 al:hm
 av:Array Oper
 fin:List (Nat×Nat)
 D:List dN
 b8:h9
def alm(X:gv)(C:aW)(K:S H)(au:List (Nat×H))(i:Nat)(rest:List fg)(r:ea)(h:S ak)(j:Nat):d6:=
 match X with|⟨al,av,fin,D,b8⟩=>nI r al C (.sL av au i rest fin) D b8 K h j
abbrev ST:=gv->aW->S H->List (Nat×H)->S ak->Nat->d6
def atI(mZ:ST)(X:gv)(C:aW)(K:S H)(au:List (Nat×H))(i:Nat)(v:H)(h:S ak)(j:Nat):d6:=mZ X C K ((i,v)::au) h j
def aoe(mZ:ST)(X:gv)(C:aW)(K:S H)(au:List (Nat×H))(i:Nat)(rest:List fg)(h:S ak)(j:Nat)(r:ea):d6:=
 match r with
 | .val v=>mZ X C K ((i,v)::au) h j
 | .fv v h j=>mZ X C K ((i,v)::au) h j
 |r=>alm X C K au i rest r h j
def HJ(X:gv)(_:aW)(K:S H)(au:List (Nat×H))(h:S ak)(j:Nat):d6:=
 gv.rec (motive:=λ_=>d6) (λal _ fin D b8=>HO fin au K λK=>al .run D b8 K h j) X
def DJ(i:Nat)(g:Option (Nat×Bool))(op:jF)(rest:List fg)(mZ:ST)(X:gv)(C:aW)(K:S H)(au:List (Nat×H))(h:S ak)(j:Nat):d6:=
 aeq g au (Sn op C h j au K (atI mZ X C K au i) (aoe mZ X C K au i rest h j)) (mZ X C K ((i,undef)::au) h j)
def yY(rest:List fg):ST:=
 List.rec (motive:=λ_=>ST) HJ (λx rest mZ=>fg.rec (motive:=λ_=>ST) (λi g op=>DJ i g op rest mZ) x) rest
def xV(al:hm)(C:aW)(av:Array Oper)(base:Nat)(au:List (Nat×H))(k9:List wg)(fin:List (Nat×Nat))(D:List dN)(b8:h9)(K:S H)(h:S ak)(j:Nat):d6:=
 match k9 with
 |[]=>none
 |s::rest=>(match wr C base K s.tx au h with
  |none=>none
  |some (au,h)=>bR (Ck C K au h s.Sx) ((match s.fe with
    |none=>HO fin au K λK=>al .run D b8 K h j
    |some a=>(match og a.g au with
     |none=>none
     |some w=>bR (w) ((match hJ a.op C h j au K with
       |some r=>nI r al C (.y6 av base au a.i rest fin) D b8 K h j
       |none=>none))<|al .run (.drawn av base ((a.i,undef)::au) rest fin::D) b8 K h j)))<|none)
def xr(f5:List rC):kN:=match f5 with|⟨_,true⟩::_=> .returning|_=> .panicking f5
def sR(al:hm)(aD:Bool)(cs:List gC)(v:H)(h:S ak)(j:Nat):d6:=
 match cs with
 |c::rest=>(match c with
  |⟨fn,n,aq,K,todo,bb,bM,jd,ro⟩=>(match bM with
   | .run=>bR aD none (SB al todo ⟨fn,n,aq,bb,jd,ro,rest⟩ v K h j)
   | .returning=>bR aD (al .returning todo ⟨fn,n,aq,bb,jd,ro,rest⟩ K h j) none
   | .panicking f5=>bR aD (al (xr f5) todo ⟨fn,n,aq,bb,jd,ro,rest⟩ K h j) none))
 |[]=>bR aD none (some v)
def RE(iA:Option Code):Bool:=match iA with|none=>true|some .ret=>true|_=>false
def ada(iA:Option Code):Bool:=match iA with|none=>true|some .ret=>true|some (.exit _)=>true|_=>false
def n7(iA:Option Code)(al:hm)(C:aW)(todo:List dN)(b8:h9)(K:S H)(h:S ak)(j:Nat):d6:=
 match b8 with
 |⟨fn,n,aq,bb,aD,ro,cs⟩=>(match ro with
  |none=>bR (RE iA) (al .returning todo ⟨fn,n,aq,bb,aD,none,cs⟩ K h j)<|none
  |some l=>(match aa C h l with
   |some (.loop _ _ fn n aq K params assign body defers)=>
    bR ((kt C l&&ada iA)&& !aD) (je (bm C h l (some (.loop (bR iA.isNone .ready .done) iA fn n aq K params assign body defers))) λh=>sR al aD cs (.bool iA.isNone) h j)<|none
   |_=>none))
def xj(C:aW)(h:S ak)(K:S H):List ResultVar->Option (List H)
 |[]=>some []
 | .tmp t::l=>(match K.get t,xj C h K l with|some v,some r=>some (v::r)|_,_=>none)
 | .cell J t::l=>(match K.get J with
   |some p=>(match lz C h t p,xj C h K l with|some v,some r=>some (v::r)|_,_=>none)
   |none=>none)
def wx(K:S H)(W:Operand):Option H:=match W with
 | .tmp t=>K.get t
 | .const v=>DG v
 | .global g=>some (.ptr g 0)
 | .func f=>some (.func (.func f) [] [])
def JP(f:Operand)(params:Array Nat)(assign body:Code)(al:hm)(C:aW)(D:List dN)(b8:h9)(K:S H)(h:S ak)(j:Nat):d6:=
 match wx K f,b8 with
 |some (.func (.func g) first fH),⟨fn,n,aq,bb,aD,ro,cs⟩=>
  (
   match ro with
   |none=>p3 j λj=>
    nO al C g (first++[.func (.yield (j+1)) [] []]++fH) false (⟨fn,n,aq,K, .inRangeFunc (j+1)::D,⟨.collected j,[]⟩::bb, .run,aD,none⟩::cs)
     (bm C (bm C h j (some (.deferred (some [])))) (j+1) (some (.loop .ready none fn n aq K params.toList assign body j))) (j+2)
   |some l=>(match aa C h l with
    |some (.loop _ _ _ _ _ _ _ _ _ defers)=>p3 j λj=>
     nO al C g (first++[.func (.yield j) [] []]++fH) false (⟨fn,n,aq,K, .inRangeFunc j::D,bb, .run,aD,some l⟩::cs)
      (bm C h j (some (.loop .ready none fn n aq K params.toList assign body defers))) (j+1)
    |_=>none))
 |_,_=>none
def Az(id:Nat)(al:hm)(C:aW)(D:List dN)(b8:h9)(K:S H)(h:S ak)(j:Nat):d6:=
 match exitTo id D with
 |some e1=>al .run e1 b8 K h j
 |none=>n7 (some (.exit id)) al C (.code (.exit id)::D) b8 K h j
def Hv(c:Operand)(K:S H)(J b:d6):d6:=iY (wx K c) λv=>match v with
 | .bool t=>Bool.rec (motive:=λ_=>d6) b J t
 |_=>none
def SA(n aq:Nat)(av:Array Oper)(al:hm)(C:aW)(D:List dN)(b8:h9)(K:S H)(h:S ak)(j:Nat):d6:=
 iY (Jv C n av aq) λr=>Od.rec (motive:=λ_=>d6) (λrest fin=>yY rest ⟨al,av,fin,D,b8⟩ C K [] h j) r
def Sz(n aq:Nat)(av:Array Oper)(al:hm)(C:aW)(D:List dN)(b8:h9)(K:S H)(h:S ak)(j:Nat):d6:=
 iY (Ju C n av aq) λr=>Oc.rec (motive:=λ_=>d6) (λk9 fin=>p3 j λj=>xV al C av j [] k9 fin D b8 K h (j+av.size)) r
def adA(av:Array Oper)(Aw:Bool)(al:hm)(C:aW)(D:List dN)(b8:h9)(K:S H)(h:S ak)(j:Nat):d6:=
 h9.rec (motive:=λ_=>d6) (λfn n aq bb aD ro cs=>Bool.rec (motive:=λ_=>d6)
  (SA n aq av al C D ⟨fn,n,aq,bb,aD,ro,cs⟩ K h j) (Sz n aq av al C D ⟨fn,n,aq,bb,aD,ro,cs⟩ K h j) Aw) b8
abbrev Aa:=hm->aW->List dN->h9->S H->S ak->Nat->d6
def Lq:Aa:=λal _ D b8 K h j=>al .run D b8 K h j
def DC:Aa:=λ_ _ _ _ _ _ _=>none
def ub(c:Code):Aa:=
 Code.rec (motive:=λ_=>Aa) Lq
  (λ_ av d=>adA av d)
  (λ_ b mz _ al C D=>mz al C (.code b::D))
  (λc _ _ mz hr al C D b8 K h j=>Hv c K (mz al C D b8 K h j) (hr al C D b8 K h j))
  (λid _ hr al C D=>hr al C (.inBlock id::D))
  (λb hr al C D=>hr al C (.inLoop b::D))
  (λf params assign body _ _=>JP f params assign body)
  (λid=>Az id)
  (λb hr al C D=>hr al C (.inScope b::D))
  (λ_=>Lq)
  (λ_=>DC)
  (λal C D=>n7 (some .ret) al C (.code .ret::D))
  (λ_=>DC) c
def ER(l:Nat):Aa:=λal C D b8 K h j=>match aa C h l with
 |some (.loop state pending gK aS kz c1 params assign body defers)=>
  (
   match state with
   | .busy=>none
   |_=>bR (kt C l) (je (bm C h l (some (.loop .exhausted pending gK aS kz c1 params assign body defers))) λh=>al .run ((pending.map dN.code).toList++D) b8 K h j)<|none)
 |_=>none
def Hn:Aa:=λal C D b8 K h j=>match b8 with
 |⟨fn,n,aq,bb,aD,ro,cs⟩=>match ro with
  |some l=>(match aa C h l with
   |some (.loop .ready pending gK aS kz c1 params assign body defers)=>
    bR (kt C l) (je (bm C h l (some (.loop .busy pending gK aS kz c1 params assign body defers))) λh=>al .run D ⟨fn,n,aq,bb,aD,some l,cs⟩ K h j)<|none
   |_=>none)
  |none=>none
def abK(eJ:dN):Aa:=
 dN.rec (motive:=λ_=>Aa) (λc=>ub c) (λ_=>Lq) (λb al C D=>ub b al C (.inLoop b::D)) (λ_=>Lq)
  (λav au rest fin al C D b8 K h j=>yY rest ⟨al,av,fin,D,b8⟩ C K au h j)
  (λav base au k9 fin al C D b8 K h j=>xV al C av base au k9 fin D b8 K h j)
  (λ_ _ _ _ _=>DC) (λ_ _ _ _ _ _=>DC) (λ_=>DC) (λl=>ER l) Hn eJ
def adX(todo:List dN)(al:hm)(C:aW)(b8:h9)(K:S H)(h:S ak)(j:Nat):d6:=
 List.rec (motive:=λ_=>d6) (n7 none al C [] b8 K h j) (λeJ D _=>abK eJ al C D b8 K h j) todo
def xn(d:hy)(ds:List hy)(bM:kN)(todo:List dN)(al:hm)(C:aW)(b8:h9)(K:S H)(h:S ak)(j:Nat):d6:=
 match b8 with
 |⟨fn,n,aq,_,aD,ro,cs⟩=>(match d with
  |⟨.collected r,_⟩=>(match aa C h r with
   |some (.deferred (some pp))=>bR (kt C r) (je (bm C h r (some (.deferred none))) λh=>al bM todo ⟨fn,n,aq,pp++ds,aD,ro,cs⟩ K h j)<|none
   |_=>none)
  |⟨.fn f fH,args⟩=>(match Al C f fH args with
   |some (.enter f cp)=>nO al C f cp true (⟨fn,n,aq,K,todo,ds,bM,aD,ro⟩::cs) h j
   |_=>none))
def one(bk:List H):H:=match bk with|[v]=>v|bk=> .tuple bk
def J2(todo:List dN)(al:hm)(C:aW)(b8:h9)(K:S H)(h:S ak)(j:Nat):d6:=
 match b8 with
 |⟨fn,n,aq,bb,aD,ro,cs⟩=>match bb with
  |d::ds=>xn d ds .returning todo al C ⟨fn,n,aq,[],aD,ro,cs⟩ K h j
  |[]=>(match C.P.funcs[fn]? with
   |some f=>(match xj C h K f.results.toList with
    |some bk=>sR al aD cs (one bk) h j
    |none=>none)
   |none=>none)
def J1(chain:List rC)(todo:List dN)(al:hm)(C:aW)(b8:h9)(K:S H)(h:S ak)(j:Nat):d6:=
 match b8 with
 |⟨fn,n,aq,bb,aD,ro,cs⟩=>match bb with
  |d::ds=>xn d ds (.panicking chain) todo al C ⟨fn,n,aq,[],aD,ro,cs⟩ K h j
  |[]=>(match cs with
   |c::rest=>adx al c rest chain h j
   |[]=>none)
def SZ(al:hm)(C:aW)(bM:kN)(todo:List dN)(b8:h9)(K:S H)(h:S ak)(j:Nat):d6:=
 kN.rec (motive:=λ_=>d6) (adX todo al C b8 K h j) (J2 todo al C b8 K h j) (λf5=>J1 f5 todo al C b8 K h j) bM
def run(C:aW)(n:Nat):hm:=
 Nat.rec (motive:=λ_=>hm) (λ_ _ _ _ _ _=>none) (λ_ al bM todo b8 K h j=>SZ al C bM todo b8 K h j) n
def sD(C:aW)(n:Nat)(f:Nat)(args:List H):d6:=nO (run C n) C f args false [] .nil C.a7
end
end Go.bg

namespace Go.bg
open Go.RowKit (Below)
section
variable{C:aW}{Q c9:c6}{ae du:Nat->Prop}{h T:S ak}{j ao bi:Nat}{w bV:World}
def aac(Z:de C Q ae h j bi w)(ek:bi<=w.heap.size)(kc:xD C.P){oper:Oper}{aw:Operand->Value}{ej:List (Nat×Nat)}{au:List (Nat×H)}{K:S H}{c:jF}{res:ea}
 (cx:i7 Q ae aw (iT ej au K) oper.op.operands.toList)(az:lB C ej oper.op=some c)(a:hJ c C h j au K=some res):ir C Q ae h j bi w (execOp aw oper) res:=by
 have rest:∀W,oper.op=W->c= .fe ej W->ir C Q ae h j bi w (execOp aw oper) res:=by
  intro W bf CK
  subst CK;subst bf
  exact aiO Z ek kc cx a
 have yL:∀W,c= .hX ej W->ir C Q ae h j bi w (execOp aw oper) res:=by intro W F;subst F;simp[hJ]at a
 have acO:∀W,c= .make ej W->ir C Q ae h j bi w (execOp aw oper) res:=by intro W F;subst F;simp[hJ]at a
 obtain⟨dst,op,type,pos,after,guard⟩:=oper
 cases op<;>simp only[lB]at az<;>simp only[Op.operands]at cx
 case store t J x=>
  split at az
  ·rename_i fR iE s aC ag aI
   simp at az;subst az
   simp only[hJ,nh aC,nh ag]at a
   split at a
   ·rename_i ad bc
    split at a
    ·rename_i v bA
     obtain⟨bB,b3⟩:=cx J Zs ad bc
     obtain⟨cF,b2⟩:=cx x Zs v bA
     obtain⟨T,rfl,aH⟩:=avx Z aI b3 b2 a
     simp only[execOp,bB,cF]
     exact aH _ (λbV sh=>by simp[sh])
    ·simp at a
   ·simp at a
  ·simp at az
 case call sW=>
  obtain⟨callee,args,dg⟩:=sW
  cases callee with
  |builtin b=>
   cases b<;>simp[lB]at az<;>first
    |exact rest _ rfl az.symm
    |exact yL _ az.symm
  |value f=>
   cases f with
   |func g=>
    simp only at az
    split at az
    ·rename_i cp has
     simp at az;subst az
     simp only[hJ]at a
     split at a
     ·rename_i bk I4
      simp only[Call.operands]at cx
      obtain⟨eh,c5⟩:=alq au K has I4
      have aqj:i7 Q ae aw (iT ej au K) args.toList:=cx.mono (by simp;intro x ag;exact .inr ag)
      obtain⟨fb,ff⟩:=acu aqj eh c5
      obtain⟨eM,_⟩:=cx (.func g) Zs (.func (.func g) [] []) rfl
      refine(OY (Q:=Q) (h:=h) (j:=j) (bi:=bi) (w:=w) kc ff a).congr ?_
      have F:args.map aw=(bX Q bk).toArray:=by apply YT;simp[fb]
      simp[execOp,resolve,eM,aN,mS,bX,Deferred.ofValue,invoke,F]
     ·simp at a
    ·simp at az
   |tmp t=>simp at az;exact rest _ rfl az.symm
   |const v=>simp at az;exact rest _ rfl az.symm
   |global g=>simp at az;exact rest _ rfl az.symm
  |invoke r m=>simp[lB]at az;exact rest _ rfl az.symm
 case convert s d x=>
  rw[fo]at az
  split at az
  ·simp at az;exact rest _ rfl az.symm
  ·simp at az;exact yL _ az.symm
 case makeMap t r=>cases r<;>simp[lB]at az<;>first|exact rest _ rfl az.symm|exact acO _ az.symm
 case binOp op t x e GX=>
  rw[fo]at az
  split at az
  ·split at az
   ·simp at az;subst az;simp[hJ]at a
   ·simp at az
  ·simp at az;exact yL _ az.symm
 case fieldAddr s x f=>
  split at az
  ·rw[pE]at az
   split at az
   ·split at az
    ·simp only[EK,Zf]at az
     obtain⟨_,rfl⟩:=az
     simp[hJ]at a
    ·simp at az
   ·simp at az
  ·simp at az
 case indexAddr t x i=>
  split at az
  ·split at az
   ·simp at az;subst az;simp[hJ]at a
   ·simp at az
  ·split at az
   ·simp at az;subst az;simp[hJ]at a
   ·simp at az
  ·simp at az
 all_goals first
  |(simp at az;first|exact rest _ rfl az.symm|exact yL _ az.symm|exact acO _ az.symm)
  |(split at az<;>first
    |(simp at az;subst az;simp[hJ]at a;done)
    |(simp at az;done))
def M6{oper:Oper}{ej:List (Nat×Nat)}{c:jF}(az:lB C ej oper.op=some c){b:Nat}{au:List (Nat×H)}{K:S H}{r:H×ak}(a:nQ c C b au K=some r):pU oper.op C (iT ej au K) b=some r:=by
 have rest:∀W,oper.op=W->c= .make ej W->pU oper.op C (iT ej au K) b=some r:=by
  intro W bf CK
  subst CK;subst bf
  exact a
 have yL:∀W,c= .hX ej W->pU oper.op C (iT ej au K) b=some r:=by intro W F;subst F;simp[nQ]at a
 have Bu:∀W,c= .fe ej W->pU oper.op C (iT ej au K) b=some r:=by intro W F;subst F;simp[nQ]at a
 obtain⟨dst,op,type,pos,after,guard⟩:=oper
 cases op<;>simp only[lB]at az
 case call sW=>
  obtain⟨callee,args,dg⟩:=sW
  cases callee with
  |builtin b=>cases b<;>simp[lB]at az<;>first|exact Bu _ az.symm|exact yL _ az.symm
  |value f=>
   cases f with
   |func g=>
    simp[lB]at az
    split at az
    ·simp at az;subst az;simp[nQ]at a
    ·simp at az
   |tmp t=>simp[lB]at az;exact Bu _ az.symm
   |const v=>simp[lB]at az;exact Bu _ az.symm
   |global g=>simp[lB]at az;exact Bu _ az.symm
  |invoke r m=>simp[lB]at az;exact Bu _ az.symm
 case convert s d x=>
  rw[fo]at az
  split at az
  ·simp at az;exact Bu _ az.symm
  ·simp at az;exact yL _ az.symm
 case makeMap t r=>cases r<;>simp[lB]at az<;>first|exact rest _ rfl az.symm|exact Bu _ az.symm
 case binOp op t x e GX=>
  rw[fo]at az
  split at az
  ·split at az
   ·simp at az;subst az;simp[nQ]at a
   ·simp at az
  ·simp at az;exact yL _ az.symm
 case fieldAddr s x f=>
  split at az
  ·rw[pE]at az
   split at az
   ·split at az
    ·simp only[EK,Zf]at az
     obtain⟨_,rfl⟩:=az
     simp[nQ]at a
    ·simp at az
   ·simp at az
  ·simp at az
 case indexAddr t x i=>
  split at az
  ·split at az
   ·simp at az;subst az;simp[nQ]at a
   ·simp at az
  ·split at az
   ·simp at az;subst az;simp[nQ]at a
   ·simp at az
  ·simp at az
 all_goals first
  |(simp at az;first|exact rest _ rfl az.symm|exact yL _ az.symm|exact Bu _ az.symm)
  |(split at az<;>first
    |(simp at az;subst az;simp[nQ]at a;done)
    |(simp at az;done))
def oa{α:Type}(W:Option α)(D:α->d6):iY W D=match W with|some J=>D J|none=>none:=by cases W<;>rfl
def VW(l:List (Nat×H))(Y:Nat)(D:H->d6):Hl l Y D=iY (et l Y) D:=by
 induction l with
 |nil=>rfl
 |cons p l al=>
  obtain⟨J,b⟩:=p
  show(Bool.rec (motive:=λ_=>d6) (Hl l Y D) (D b) (Nat.beq J Y))=iY (bR (Nat.beq J Y) (some b) (et l Y)) D
  rw[al]
  cases Nat.beq J Y<;>rfl
def amn(t:S H):∀(i:Nat) (D:H->d6),Ln t i D=iY (t.get i) D:=by
 induction t with
 |nil=>intro i D;rfl
 |node v l r mZ FR=>
  intro i D
  cases i with
  |zero=>cases v<;>rfl
  |succ Y=>
   show(Bool.rec (motive:=λ_=>d6) (Ln r (Nat.div Y 2) D) (Ln l (Nat.div Y 2) D) (Nat.beq (Nat.mod Y 2) 0))=iY (bR (Nat.beq (Nat.mod Y 2) 0) (l.get (Nat.div Y 2)) (r.get (Nat.div Y 2))) D
   rw[mZ,FR]
   cases Nat.beq (Nat.mod Y 2) 0<;>rfl
def aln(x:ki)(au:List (Nat×H))(K:S H)(D:H->d6):xX x au K D=iY (kS x au K) D:=by
 cases x with
 |v Y=>exact VW au Y D
 |t n=>exact amn K n D
 |c J=>rfl
def Ld:∀(l:List (Nat×Nat)) (au:List (Nat×H)) (K:S H) (D:S H->d6),HO l au K D=iY (x0 au l K) D:=by
 intro l
 induction l with
 |nil=>intro au K D;rfl
 |cons p l al=>
  intro au K D
  obtain⟨i,d⟩:=p
  show Hl au i (λv=>je (S.set K d (some v)) λK=>HO l au K D)=_
  rw[VW]
  simp only[x0]
  cases et au i with
  |none=>rfl
  |some v=>simp only[he];exact al _ _ _
def NX(g:Option (Nat×Bool))(au:List (Nat×H))(J b:d6):aeq g au J b=iY (og g au) λw=>if w=true then J else b:=by
 cases g with
 |none=>simp[oa,og];rfl
 |some p=>
  show iY (og (some p) au) (λw=>Bool.rec (motive:=λ_=>d6) b J w)=_
  congr 1
  funext w
  cases w<;>rfl
def Nq(op:jF)(h:S ak)(j:Nat)(au:List (Nat×H))(K:S H)(ah:H->S ak->Nat->d6)(p0:ea->d6):
 Sn op C h j au K ah p0=match mA op with
  | .hX=>iY (gJ op C h au K) λv=>ah v h j
  | .make=>iY (M5 op C h j au K) p0
  | .fe=>iY (hJ op C h j au K) p0:=by
 cases op<;>simp only[Sn,mA,aln,gJ,oa]<;>(try rfl)
 all_goals(split<;>first|rfl|(split<;>simp_all))
end
end Go.bg

namespace Go.bg
open Go.RowKit (Below)
def vL:List Oper->Nat->List (Nat×Nat)->List (Nat×Nat)
 |[],_,ej=>ej
 |W::l,i,ej=>vL l (i+1) (xG W i ej)
def h8(av:Array Oper)(i:Nat):List (Nat×Nat):=vL (av.toList.take i) 0 []
def awu(J:List Oper):∀(b:List Oper) (i:Nat) (ej:List (Nat×Nat)),vL (J++b) i ej=vL b (i+J.length) (vL J i ej):=by
 induction J with
 |nil=>intro b i ej;rfl
 |cons W J al=>
  intro b i ej
  simp only[List.cons_append,vL,al,ZC]
  congr 1;omega
def Ki{av:Array Oper}{i:Nat}{W:Oper}(a:av[i]? =some W):h8 av (i+1)=xG W i (h8 av i):=by
 have aB:av.toList[i]? =some W:=by rw[ZL];exact a
 have c2:i<av.toList.length:=(Zc.1 aB).1
 unfold h8
 rw[ZY,aB,awu]
 have:(av.toList.take i).length=i:=by simp at c2 ⊢;omega
 rw[this]
 simp[vL]
def Kj(av:Array Oper):h8 av 0=[]:=rfl
def rT(av:Array Oper)(Y:Nat):Option Nat:=(av[Y]?).bind (·.dst)
def HE{av:Array Oper}{i:Nat}{W:Oper}(a:av[i]? =some W):rT av i=W.dst:=by simp[rT,a]
def ai3{W:Oper}{i Y:Nat}{ej:List (Nat×Nat)}:wu Y (xG W i ej)=if i=Y/\W.dst.isSome then W.dst else wu Y ej:=by
 unfold xG
 split
 ·rename_i d aH
  simp only[wu,hB,aH]
  by_cases F:i=Y<;>simp[F]
 ·rename_i aH
  simp[aH]
def Et{W:Oper}{i t:Nat}{ej:List (Nat×Nat)}:et (xG W i ej) t=if W.dst=some t then some i else et ej t:=by
 unfold xG
 split
 ·rename_i d aH
  rw[qS,aH]
  by_cases F:d=t<;>simp[F]
 ·rename_i aH
  simp[aH]
def Kk(av:Array Oper):∀i,i<=av.size->(∀Y t,wu Y (h8 av i)=some t->rT av Y=some t)/\
 (∀t Y,et (h8 av i) t=some Y->Y<i/\rT av Y=some t/\∀D,Y<D->D<i->rT av D≠some t)/\(∀t,et (h8 av i) t=none->∀D,D<i->rT av D≠some t):=by
 intro i
 induction i with
 |zero=>intro _;rw[Kj];exact⟨λY t a=>by simp[wu]at a,λt Y a=>by simp at a,λt _ D aF=>Zo⟩
 |succ i al=>
  intro aM
  obtain⟨R,U,ar⟩:=al Zo
  have bf:av[i]? =some av[i]:=Array.getElem?_eq_getElem Zo
  rw[Ki bf]
  have aH:=HE bf
  refine⟨λY t a=> ?_,λt Y a=> ?_,λt a D aF=> ?_⟩
  ·rw[ai3]at a
   split at a
   ·rename_i F;rw[<-F.1,aH];exact a
   ·exact R Y t a
  ·rw[Et]at a
   split at a
   ·rename_i F
    cases a
    exact⟨Zo,by rw[aH];exact F,λD kY jh=>Zo⟩
   ·rename_i F
    obtain⟨bZ,cw,c0⟩:=U t Y a
    refine⟨Zo,cw,λD kY jh=> ?_⟩
    by_cases an:D=i
    ·subst an;rw[aH];exact F
    ·exact c0 D kY Zo
  ·rw[Et]at a
   split at a
   ·cases a
   ·rename_i F
    by_cases an:D=i
    ·subst an;rw[aH];exact F
    ·exact ar t a D Zo
section
variable{C:aW}{Q c9:c6}{ae du:Nat->Prop}{h T:S ak}{j ao bi:Nat}{w bV:World}
def kK(tmps:Array Value):Operand->Value
 | .tmp t=>tmps.getD t Go.undef
 | .const v=>v
 | .global g=> .pointer (some ⟨g,0,none⟩)
 | .func f=> .func (.func f) #[] #[]
def HL(fr:Frame):fr.eval=kK fr.tmps:=by funext x;cases x<;>rfl
def ot(Q:c6)(ae:Nat->Prop)(aq:Nat)(X:Nat->Prop)(ej:List (Nat×Nat))(au:List (Nat×H))(K:S H)(tmps:Array Value):Prop:=
 ∀t v,X t->(match et ej t with|some Y=>et au Y=some v|none=>bit aq t=true/\K.get t=some v)->tmps[t]? =some (aN Q v)/\ch ae v
def rG(C:aW)(Q:c6)(ae:Nat->Prop):Prop:=∀g,g<C.o1->ae g/\(Q g).cE=g/\(Q g).ed=0
def asP{aq:Nat}{ej:List (Nat×Nat)}:∀{l:List Operand},DI C aq ej l=true->∀x∈l,yO C aq ej x=true:=by
 intro l
 induction l with
 |nil=>intro _ x a;simp at a
 |cons J l al=>
  intro a x ag
  simp only[DI,Zn]at a
  rcases Zt.1 ag with rfl|ag
  ·exact a.1
  ·exact al a.2 x ag
def WY{aq:Nat}{X:Nat->Prop}{ej:List (Nat×Nat)}{au:List (Nat×H)}{K:S H}{tmps:Array Value}(bA:ot Q ae aq X ej au K tmps){l:List Operand}(bQ:∀t,Operand.tmp t∈l->X t)(bf:DI C aq ej l=true)
 (eK:rG C Q ae):i7 Q ae (kK tmps) (iT ej au K) l:=by
 intro x ag v a
 have e4:=asP bf x ag
 cases x with
 |tmp t=>
  have:=bA t v (bQ t ag) (by
   simp only[iT]at a
   simp only[yO]at e4
   split at a
   ·rename_i Y bH;rw[bH];exact a
   ·rename_i bH;rw[bH]at e4 ⊢;exact⟨e4,a⟩)
  exact⟨by simp[kK,this.1],this.2⟩
 |const c=>exact Ni a
 |global g=>
  simp[iT]at a;subst a
  simp only[yO]at e4
  obtain⟨b3,b2,cQ⟩:=eK g (lh e4)
  exact⟨by simp[kK,aN,b2,cQ],b3⟩
 |func f=>
  simp[iT]at a;subst a
  exact⟨by simp[kK,aN,mS,bX],trivial,trivial,trivial⟩
end
end Go.bg

namespace Go.bg
def Ao(m i:Nat):bit m i=m.testBit i:=by
 unfold bit
 rw[Nat.testBit_eq_decide_div_mod_eq,Yf,Zg]
 exact⟨Zl,λa=>by rw[show Nat.mod (Nat.div m (Nat.pow 2 i)) 2=1 from a];rfl⟩
def KK(i:Nat):bit 0 i=false:=by rw[Ao];simp
def EA(J b i:Nat):bit (Nat.lor J b) i=(bit J i||bit b i):=by
 rw[Ao,Ao,Ao];exact Nat.testBit_or J b i
def KJ(t i:Nat):bit (Nat.pow 2 t) i=decide (t=i):=by
 rw[Ao];exact Nat.testBit_two_pow
def ajE(J b i:Nat):bit (Nat.land J b) i=(bit J i&&bit b i):=by
 rw[Ao,Ao,Ao];exact Nat.testBit_and J b i
def asZ{W:Operand}{m t:Nat}:bit (Gr W m) t=true↔W= .tmp t\/bit m t=true:=by
 cases W with
 |tmp ad=>
  show bit (Nat.lor m (Nat.pow 2 ad)) t=true↔_
  rw[EA,KJ]
  simp[or_comm]
 |_=>simp[Gr]
def as1{t:Nat}:∀{l:List Operand},bit (Gs l) t=true↔Operand.tmp t∈l:=by
 intro l
 induction l with
 |nil=>simp[Gs,KK]
 |cons J l al=>
  show bit (Gr J (Gs l)) t=true↔_
  rw[asZ,al]
  simp[eq_comm]
def akE{W:Oper}{t:Nat}:bit (HD W) t=true↔W.dst=some t:=by
 unfold HD
 cases W.dst with
 |none=>simp[KK]
 |some d=>
  show bit (Nat.pow 2 d) t=true↔_
  rw[KJ]
  simp
structure Kq(C:aW)(n aq:Nat)(av:Array Oper)(x:fg)(W:Oper):Prop where
 oper:av[x.i]? =some W
 g:Hr (h8 av x.i) W.guard=some x.g
 op:lB C (h8 av x.i) W.op=some x.op
 dst:∀d,W.dst=some d->d<n
 reads:DI C aq (h8 av x.i) W.op.operands.toList=true
def OX{C:aW}{n aq i:Nat}{W:Oper}{l:List Oper}{ej:List (Nat×Nat)}{cs:List fg}(a:rS C n aq (W::l) i ej=some cs):
 ∃g op r,Hr ej W.guard=some g/\lB C ej W.op=some op/\K0 n W=true/\DI C aq ej W.op.operands.toList=true/\rS C n aq l (i+1) (xG W i ej)=some r/\cs=⟨i,g,op⟩::r:=by
 simp only[rS,l0]at a
 split at a
 ·rename_i g op b0 C1
  simp only[eY,Zn]at a
  obtain⟨⟨R,U⟩,a⟩:=a
  split at a
  ·rename_i r Z
   simp at a
   exact⟨g,op,r,b0,C1,R,U,Z,a.symm⟩
  ·simp at a
 ·simp at a
def WJ{n:Nat}{W:Oper}(a:K0 n W=true):∀d,W.dst=some d->d<n:=by
 intro d aH
 unfold K0 at a
 rw[aH]at a
 exact lh a
def Pg{av:Array Oper}{i:Nat}{W:Oper}{l:List Oper}(a:av.toList.drop i=W::l):av[i]? =some W/\av.toList.drop (i+1)=l/\i<av.size:=by
 have R:(av.toList.drop i)[0]? =some W:=by rw[a];rfl
 rw[YB,ZL]at R
 refine⟨by simpa using R, ?_, ?_⟩
 ·have:(av.toList.drop i).drop 1=l:=by rw[a];rfl
  rw[zj]at this
  exact this
 ·exact(ZJ.1 (by simpa using R)).1
def ajT{C:aW}{n aq:Nat}{av:Array Oper}:∀(l:List Oper) (i:Nat) (cs:List fg),av.toList.drop i=l->rS C n aq l i (h8 av i)=some cs->
 cs.length=l.length/\∀Y x,cs[Y]? =some x->x.i=i+Y/\∃W,Kq C n aq av x W:=by
 intro l
 induction l with
 |nil=>intro i cs _ a;simp[rS]at a;subst a;simp
 |cons W l al=>
  intro i cs aH a
  obtain⟨g,op,r,R,U,ar,aO,bN,rfl⟩:=OX a
  obtain⟨cT,cJ,eT⟩:=Pg aH
  rw[<-Ki cT]at bN
  obtain⟨bZ,cw⟩:=al (i+1) r cJ bN
  refine⟨by simp[bZ],λY x ag=> ?_⟩
  cases Y with
  |zero=>simp at ag;subst ag;exact⟨rfl,W,cT,R,U,WJ ar,aO⟩
  |succ Y=>
   simp at ag
   obtain⟨F,bt⟩:=cw Y x ag
   exact⟨Zo,bt⟩
def akN{ik:List (Nat×Nat)}:∀(l:List Edge) (J:Nat),bit (l.foldr (Cm ik) 0) J=true->∃F∈l,Region.binds .any F=true/\(J=F.on\/∃gj,et ik F.on=some gj/\bit gj J=true):=by
 intro l
 induction l with
 |nil=>intro J a;simp[KK]at a
 |cons F l al=>
  intro J a
  simp only[List.foldr_cons]at a
  have pG:bit (l.foldr (Cm ik) 0) J=true->∃ib∈F::l,Region.binds .any ib=true/\(J=ib.on\/∃gj,et ik ib.on=some gj/\bit gj J=true):=λa=>by
   obtain⟨ib,R,U⟩:=al J a
   exact⟨ib,Zu _ R,U⟩
  unfold Cm at a
  rw[fo]at a
  split at a
  ·exact pG a
  ·rw[fo]at a
   split at a
   ·rename_i ai
    split at a
    ·rename_i D aF
     rw[EA,EA,KJ]at a
     simp only[YV,Zg]at a
     rcases a with (a|a)|a
     ·exact pG a
     ·exact⟨F,Zw ..,ai, .inr ⟨D,aF,a⟩⟩
     ·exact⟨F,Zw ..,ai, .inl a.symm⟩
    ·exact pG a
   ·exact pG a
structure Ej(av:Array Oper)(p:gd)(W:Oper):Prop where
 oper:av[p.i]? =some W
 r:p.r=Nat.lor (Gs W.op.operands.toList) (Lx (h8 av p.i) W.guard)
 w:p.w=HD W
def acx{av:Array Oper}:∀(l:List Oper) (i:Nat) (ik:List (Nat×Nat)),av.toList.drop i=l->(∀Y m,et ik Y=some m->Y<i)->
 (Bs l i (h8 av i) ik).length=l.length/\(∀Y p,(Bs l i (h8 av i) ik)[Y]? =some p->p.i=i+Y/\∃W,Ej av p W)/\
 ∀(bs:Nat->Nat->Prop),(∀Y m,et ik Y=some m->bs Y m)->(∀Y W m,av[Y]? =some W->i<=Y->(∀J,bit m J=true->∃F∈W.after.toList,Region.binds .any F=true/\(J=F.on\/∃gj,bs F.on gj/\bit gj J=true))->bs Y m)->
  ∀p∈Bs l i (h8 av i) ik,bs p.i p.m:=by
 intro l
 induction l with
 |nil=>intro i ik _ _;simp[Bs]
 |cons W l al=>
  intro i ik aH q7
  obtain⟨cT,cJ,eT⟩:=Pg aH
  simp only[Bs,l0]
  rw[<-Ki cT]
  have aoW:∀Y m,et ((i,W.after.toList.foldr (Cm ik) 0)::ik) Y=some m->Y<i+1:=by
   intro Y m a
   rw[qS]at a
   split at a
   ·omega
   ·have:=q7 Y m a;omega
  obtain⟨bZ,cw,c0⟩:=al (i+1) ((i,W.after.toList.foldr (Cm ik) 0)::ik) cJ aoW
  refine⟨by simp only[ZC,bZ],λY p ay=> ?_,λbs gq ra p ay=> ?_⟩
  ·cases Y with
   |zero=>simp only[ZQ,Zf]at ay;subst ay;exact⟨rfl,W,cT,rfl,rfl⟩
   |succ Y=>
    simp only[ZI]at ay
    obtain⟨F,bt⟩:=cw Y p ay
    exact⟨Zo,bt⟩
  ·have aM:bs i (W.after.toList.foldr (Cm ik) 0):=by
    refine ra i W _ cT (Zi _) λJ aC=> ?_
    obtain⟨F,R,U,ar⟩:=akN _ J aC
    refine⟨F,R,U,ar.imp id ?_⟩
    rintro⟨gj,aO,bN⟩
    exact⟨gj,gq _ _ aO,bN⟩
   rcases Zt.1 ay with rfl|ay
   ·exact aM
   ·refine c0 bs (λY m a=> ?_) (λY W m R U ar=>ra Y W m R Zo ar) p ay
    rw[qS]at a
    split at a
    ·rename_i F;subst F;cases a;exact aM
    ·exact gq Y m a
def asQ{J:gd}:∀{l:List gd},Nn J l=true->∀b∈l,Nk J b=true:=by
 intro l
 induction l with
 |nil=>intro _ b a;simp at a
 |cons c l al=>
  intro a b ai
  simp only[Nn,Zn]at a
  rcases Zt.1 ai with rfl|ai
  ·exact a.1
  ·exact al a.2 b ai
def asO:∀{l:List gd},JF l=true->∀(Y i:Nat) J b,Y<i->l[Y]? =some J->l[i]? =some b->Nk J b=true:=by
 intro l
 induction l with
 |nil=>intro _ Y i J b _ a;simp at a
 |cons c l al=>
  intro a Y i J b aaz aC ai
  simp only[JF,Zn]at a
  obtain⟨i,rfl⟩:∃D,i=D+1:=⟨i-1,Zo⟩
  simp at ai
  cases Y with
  |zero=>simp at aC;subst aC;exact asQ a.1 b (Zj ai)
  |succ Y=>simp at aC;exact al a.2 Y i J b Zo aC ai
def asL:∀{l:List Oper}{i:Nat},DH l i=true->∀Y W,l[Y]? =some W->∀F∈W.after.toList,Region.binds .any F=true->F.on<i+Y:=by
 intro l
 induction l with
 |nil=>intro i _ Y W a;simp at a
 |cons J l al=>
  intro i a Y W bf F bt ai
  simp only[DH,Zn]at a
  cases Y with
  |zero=>
   simp at bf;subst bf
   have:=YQ.1 a.1 F bt
   simp only[ai,Yi,Bool.false_or]at this
   have:=lh this
   omega
  |succ Y=>
   simp at bf
   have:=al a.2 Y W bf F bt ai
   omega
def aod:∀{l:List gd},It l=true->∀(p:Nat) J b,l[p]? =some J->l[p+1]? =some b->bit b.m J.i=true:=by
 intro l
 induction l with
 |nil=>intro _ p J b a;simp at a
 |cons c l al=>
  intro a p J b aC ai
  simp only[It,Zn]at a
  cases p with
  |zero=>
   simp at aC ai;subst aC
   cases l with
   |nil=>simp at ai
   |cons d l=>simp at ai;subst ai;exact a.1
  |succ p=>simp at aC ai;exact al a.2 p J b aC (by simpa using ai)
def aoc:∀(dl:List gd) (cs:List fg),Fk dl cs=(dl.zip cs).filter λx=>nt x.2.op:=by
 intro dl
 induction dl with
 |nil=>intro cs;rfl
 |cons p dl al=>
  intro cs
  cases cs with
  |nil=>rfl
  |cons c cs=>
   simp only[Fk,List.zip_cons_cons,List.filter_cons,fo,al]
def arJ(aI:List gd):∀(dl:List gd) (cs:List fg),F6 aI dl cs=((dl.zip cs).filter λx=> !nt x.2.op).map λx=>⟨x.2,uc x.1.m aI,AS x.1.i aI⟩:=by
 intro dl
 induction dl with
 |nil=>intro cs;rfl
 |cons p dl al=>
  intro cs
  cases cs with
  |nil=>rfl
  |cons c cs=>
   simp only[F6,List.zip_cons_cons,List.filter_cons,fo,al]
   cases nt c.op<;>simp
def Li:∀l:List (gd×fg),p4 l=l.map (·.1):=by
 intro l
 induction l with
 |nil=>rfl
 |cons J l al=>simp[p4,al]
def akb(m:Nat):∀(aI:List gd) (D:Nat),(∀p a,aI[p]? =some a->D<=p->bit m a.i=false)->uc m aI<=D:=by
 intro aI
 induction aI with
 |nil=>intro D _;simp[uc]
 |cons a aI al=>
  intro D aF
  simp only[uc,fo]
  cases D with
  |zero=>
   have:=aF 0 a rfl (Zi _)
   rw[this]
   have:=al 0 (λp cD ay _=>aF (p+1) cD (by simpa using ay) Zo)
   simpa using this
  |succ D=>
   have:=al D (λp cD ay gr=>aF (p+1) cD (by simpa using ay) Zo)
   split<;>omega
def aoz(i:Nat):∀(aI:List gd) (D:Nat),D<=aI.length->(∀p a,aI[p]? =some a->p<D->bit a.m i=false)->D<=AS i aI:=by
 intro aI
 induction aI with
 |nil=>intro D aF _;simp at aF;omega
 |cons a aI al=>
  intro D AU aF
  cases D with
  |zero=>omega
  |succ D=>
   have cj:=aF 0 a rfl Zo
   simp only[AS,cj,jK]
   have:=al D (by simpa using AU) (λp cD ay c2=>aF (p+1) cD (by simpa using ay) Zo)
   omega
end Go.bg

