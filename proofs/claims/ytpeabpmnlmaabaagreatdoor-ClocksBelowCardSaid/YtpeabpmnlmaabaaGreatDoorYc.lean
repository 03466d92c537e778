/- Part of the proof of the last text; no conditions -/
import Derived.Test.YtpeabpmnlmaabaaGreatDoorYb
import Derived.Laws.RangeString
set_option maxHeartbeats 8000000
set_option linter.all false
namespace Go.bd
open Go.RowKit (Below)
section
variable{C:aK}{T de:db}{ad dG:Nat->Prop}{h S':Q af}{j an bo:Nat}{w b1:World}
section
variable{di:Array TypeId}{ty st iU ek:TypeId}{i:TypeInfo}{dO:TypeDesc}{X bm:Value}{n:Nat}{l:List D}
def aew(Y:dn C T ad h j bo w)(ey:bo<=w.heap.size){s:D}{base:Option Addr}{hh lR:Nat}{bL:List D}{res:ee}(u5:bm.cells.size=i.size)
 (aX:di[0]? =some st)(M:di[1]? =some iU)(dd:C.P.underlying st=some (.slice ek))(h9:C.P.underlying iU=some dO)(aG:C.P.info? ek=some i)(ch:i.zero=some bm)(eT:0<i.size)(ou:i.bytes<=65536)
 (bV:yQ C.P w dO X i bm n (b4 T l).toArray)(i7:ew ad l)(aC:l.length=n*i.size)(TR:ew ad bL)(ow:bL.length=hh*i.size)(aE:¬(hh+n<=lR))(aD:aQ T s= .slice base hh lR)
 (bf:(Builtin.firstCells i.size hh (.slice base hh lR)).run C.P w.drew= .ok (b4 T bL).toArray w.drew)(a:uT C h j (hh+n) i.size (bL++l)=some res):
 Nz C T ad h j bo w (Builtin.append_ di ty #[aQ T s,X]) res:=by
 obtain⟨yb,rfl⟩:=aeu a
 obtain⟨de,dG,b1,fd,fX,hZ,po⟩:=aev (ty:=ty) Y ey (S':=h) u5 aX M dd h9 aG ch eT ou bV i7 aC TR ow aE aD bf yb (aI:=bj C h j (some (.cells (Q.ofList (bL++l) 0 .nil) (bL++l).length (.grow [])))) []
  (by rw[ga _ Y.a2,Zr rfl]) Y (λx ae=> .inl (by rw[ga _ Y.a2,Zh ae])) (λx ae _=>by rw[ga _ Y.a2,Zh ae]) Zs
 exact⟨_,_,_,rfl,de,dG,b1,fd,fX,hZ,po,Z9 _⟩
def acu(Y:dn C T ad h j bo w)(ey:bo<=w.heap.size)(u5:bm.cells.size=i.size){s:D}{res:ee}
 (aX:di[0]? =some st)(M:di[1]? =some iU)(dd:C.P.underlying st=some (.slice ek))(h9:C.P.underlying iU=some dO)(aG:C.P.info? ek=some i)(ch:i.zero=some bm)(eT:0<i.size)(ou:i.bytes<=65536)
 (bV:yQ C.P w dO X i bm n (b4 T l).toArray)(i7:ew ad l)(aC:l.length=n*i.size)(am:cm ad s)(he:0<n)(a:y2 C h j i.size n l s=some res):
 Nz C T ad h j bo w (Builtin.append_ di ty #[aQ T s,X]) res:=by
 unfold y2 at a
 split at a
 ·refine aew (hh:=0) (lR:=0) (bL:=[]) (base:=none) Y ey u5 aX M dd h9 aG ch eT ou bV i7 aC trivial Zs Zo rfl ?_ (by simpa using a)
  simp[Builtin.firstCells,b4]
 ·rename_i b W len cap
  rw[fN]at a
  split at a
  ·rename_i nh
   have nh:=jR nh
   split at a
   ·rename_i S' bs
    simp at a;subst a
    obtain⟨b1,bQ,ct,c1⟩:=Sn Y (dh:=j) am i7 bs
    refine⟨_,_,_,rfl,T,ad,b1, ?_,am,ct,c1,Zj _⟩
    simp only[aQ]
    refine NR aX M dd h9 aG ch bV nh ?_
    rw[sl,ZK]
    exact bQ
   ·simp at a
  ·rename_i nh
   have nh:¬(len+n<=cap):=λaj=>nh (by simpa using aj)
   split at a
   ·rename_i fy ni
    obtain⟨bQ,ct⟩:=asl (bt:=i.size) (cap:=cap) Y am ni
    exact aew Y ey u5 aX M dd h9 aG ch eT ou bV i7 aC ct (SU ni) nh rfl bQ a
   ·simp at a
 ·rename_i b W len yE
  simp only[e7]at a
  obtain⟨bC,a⟩:=a
  have bC:=Zn bC
  subst bC
  exact apF Y ey u5 aX M dd h9 aG ch eT ou bV i7 aC am he a
 ·simp at a
end
def RS(C:aK)(T:db)(ad:Nat->Prop)(h:Q af)(j bo:Nat)(w:World)(s:Sem Value)(res:ee):Prop:=
 Nz C T ad h j bo w s res\/∃v,res= .val v/\cm ad v/\s.run C.P w= .ok (aQ T v) w
def acc(Y:dn C T ad h j bo w)(ey:bo<=w.heap.size){di:Array TypeId}{ty st iU:TypeId}{dO:TypeDesc}{s x:D}{res:ee}
 (aX:di[0]? =some st)(M:di[1]? =some iU)(h9:C.P.underlying iU=some dO)(x5:dO= .string\/∃E,dO= .slice E)(am:cm ad s)(ff:cm ad x)(a:He C h j st s x=some res):
 RS C T ad h j bo w (Builtin.append_ di ty #[aQ T s,aQ T x]) res:=by
 unfold He at a
 split at a
 ·rename_i ek dd
  split at a
  ·rename_i i aG
   split at a
   ·rename_i n l kH
    simp only[e7,Zp]at a
    obtain⟨⟨⟨eT,ou⟩,P3⟩,a⟩:=a
    have eT:=l1 eT
    have ou:=jR ou
    obtain⟨bm,ch,u5⟩:∃bm,i.zero=some bm/\bm.cells.size=i.size:=by
     unfold akz at P3
     split at P3
     ·rename_i bm ch
      exact⟨bm,ch,Zn P3⟩
     ·simp at P3
    obtain⟨bV,i7,aC⟩:=aCJ (bm:=bm) Y ff x5 kH
    rw[h4]at a
    split at a
    ·rename_i aE
     subst aE
     have:l=[]:=List.length_eq_zero_iff.1 (by rw[aC];simp)
     subst this
     obtain⟨v,fd,fX,hZ⟩:=acv (ty:=ty) Y aX M dd h9 aG eT (apG bV) am a
     exact .inr ⟨v,fd,fX,hZ⟩
    ·exact .inl (acu Y ey u5 aX M dd h9 aG ch eT ou bV i7 aC am Zo a)
   ·simp at a
  ·simp at a
 ·simp at a
def ape(Y:dn C T ad h j bo w)(ey:bo<=w.heap.size){di:Array TypeId}{ty st iU:TypeId}{aj:IntKind}{s x:D}{n:Nat}{res:ee}
 (aX:di[0]? =some st)(M:di[1]? =some iU)(h9:C.P.underlying iU=some (.int aj))(am:cm ad s)(ae:nV x=some n)(a:NM C h j st s n=some res):
 RS C T ad h j bo w (Builtin.append_ di ty #[aQ T s,aQ T x]) res:=by
 obtain⟨z,rfl⟩:=FT ae
 unfold NM at a
 split at a
 ·rename_i ek dd
  split at a
  ·rename_i i bm aG l7
   simp only[e7,Zp]at a
   obtain⟨⟨⟨⟨eT,ou⟩,II⟩,Cu⟩,a⟩:=a
   have eT:=l1 eT
   have ou:=jR ou
   have Cu:=jR Cu
   have II:bm.cells.length=i.size:=Zn II
   have ch:i.zero=some (aQ T bm)/\cm ad bm:=by
    unfold uz at l7
    rw[aG]at l7
    simp only at l7
    split at l7
    ·rename_i ac bg
     obtain⟨E,g⟩:=QF (T:=T) (ad:=ad) l7
     exact⟨by rw[bg,E],g⟩
    ·simp at l7
   rw[h4]at a
   split at a
   ·rename_i aE
    subst aE
    obtain⟨v,fd,fX,hZ⟩:=acv (ty:=ty) Y aX M dd h9 aG eT (.inr ⟨⟨aj,rfl⟩,z,rfl⟩) am a
    exact .inr ⟨v,fd,fX,hZ⟩
   ·rename_i aE
    have bV:yQ C.P w (.int aj) (aQ T (.int z (Int.ofNat n))) i (aQ T bm) n (b4 T (lr n bm.cells)).toArray:=
     .inr ⟨⟨aj,rfl⟩,⟨z,rfl⟩,Cu,ou,zs (Nat.mul_pos (Nat.pos_of_ne_zero aE) eT),(aEx T bm n).symm⟩
    exact .inl (acu Y ey (by rw[vL];simp[ki,II]) aX M dd h9 aG ch.1 eT ou bV (TU (vM ch.2) n) (by rw[Gj,II]) am Zo a)
  ·simp at a
 ·simp at a
end
section
variable{C:aK}{T de:db}{ad dG:Nat->Prop}{h S':Q af}{j an bo:Nat}{w b1:World}
def nC(C:aK)(T:db)(ad:Nat->Prop)(h:Q af)(j bo:Nat)(w:World)(s:Sem Value)(v:D)(S':Q af)(an:Nat):Prop:=
 ∃de dG b1,s.run C.P w= .ok (aQ de v) b1/\cm dG v/\dn C de dG S' an bo b1/\iW C j T ad h bo w de dG S' b1/\j<=an
def nC.done{s:Sem Value}{v:D}(a:nC C T ad h j bo w s v S' an):BC C T ad h j bo w (do pure (.value (<-s))) v S' an:=by
 obtain⟨de,dG,b1,M,R,ak,aA,bv⟩:=a
 exact⟨de,dG,b1, .value (aQ de v),by simp[M], .inl rfl,R,ak,aA,bv⟩
def nC.same(Y:dn C T ad h j bo w){s:Sem Value}{v:D}(a:s.run C.P w= .ok (aQ T v) w)(g:cm ad v):nC C T ad h j bo w s v h j:=
 ⟨T,ad,w,a,g,Y, .refl,Zj _⟩
def MB(Y:dn C T ad h j bo w)(ey:bo<=w.heap.size){s:Sem Value}{v:D}{cU:af}{W:Obj}(aD:s.run C.P w= .ok (aQ (gP T j ⟨w.heap.size,0,0⟩) v) (w.alloc W))(fD:cm (add ad j) v)
 (bf:kA C (gP T j ⟨w.heap.size,0,0⟩) (add ad j) cU ⟨w.heap.size,0,0⟩ (w.alloc W))(sH:xl C (add ad j) cU):nC C T ad h j bo w s v (bj C h j (some cU)) (j+1):=by
 have ag:=Y.a2
 refine⟨_,_,_,aD,fD,Y.alloc ag (Yi _) (Z9 _) (sX Y) ey rfl (by rw[ga _ ag,Zr rfl]) (λx ae=> .inl (by rw[ga _ ag,Zh ae])) bf sH, ?_,Z9 _⟩
 exact⟨r0 (sX Y),λ_ a=> .inl a,λx a=>a.elim .inl (λa=> .inr Zo),λx ae aC=>by rw[ga _ ag,Zh Zo],Below.alloc (Below.refl bo w) ey W⟩
def MA{W:af}{z:Nat->D}{res:ee}(a:nW C h j W z=some res):res= .fv (z j) (bj C h j (some W)) (j+1):=by
 unfold nW at a
 simp only[mM,hE,Zf]at a
 exact a.symm
def aGC(Y:dn C T ad h j bo w){t:Nat}{m z:Operand}{av:Operand->Value}{eE:Operand->Option D}{res:ee}(cC:jP T ad av eE [m,z])(a:K9 C t m z h j eE=some res):
 ∃v S',res= .fv v S' j/\nC C T ad h j bo w (Instr.mapEntry t (av m) (av z)) v S' j:=by
 simp[K9]at a
def aER(Y:dn C T ad h j bo w){t:Nat}{m s x:Operand}{av:Operand->Value}{eE:Operand->Option D}{res:ee}(cC:jP T ad av eE [m,s,x])(a:K1 C m s x h j eE=some res):
 ∃S' b1,res= .fv undef S' j/\(Instr.entryStore t (av m) (av s) (av x)).run C.P w= .ok () b1/\dn C T ad S' j bo b1/\iW C j T ad h bo w T ad S' b1:=by
 simp[K1]at a
def azk(Y:dn C T ad h j bo w)(ey:bo<=w.heap.size){t:Nat}{l c:Operand}{av:Operand->Value}{eE:Operand->Option D}{res:ee}(cC:jP T ad av eE [l,c])(a:K8 C t l c h j eE=some res):
 ∃v S' an,res= .fv v S' an/\nC C T ad h j bo w (Instr.makeSlice t (av l) (av c)) v S' an:=by
 unfold K8 at a
 split at a
 ·rename_i ek ahG o1 bg aC ax
  obtain⟨uL,_⟩:=cC l Zs _ aC
  obtain⟨art,_⟩:=cC c Zs _ ax
  rw[uL,art]
  split at a
  ·rename_i WE l2 i bm d0 x3 aG ch
   obtain⟨cN,rfl⟩:=FT d0
   obtain⟨cA,rfl⟩:=FT x3
   simp only[e7,Zp]at a
   obtain⟨⟨⟨⟨⟨M,R⟩,ak⟩,aA⟩,bv⟩,a⟩:=a
   have M:=jR M
   have R:=jR R
   have ak:=jR ak
   have aA:=l1 aA
   have bv:bm.cells.length=i.size:=Zn bv
   have:=MA a;subst this
   obtain⟨f5,fK⟩:=Gl ch T ad w
   refine⟨_,_,_,rfl,MB Y ey (W:= .cells (b4 T (lr l2 bm.cells)).toArray ek) ?_ (.inr rfl) ?_ ⟨λ_ _ _ a=>(by cases a),λ_ _ _ a=>(by cases a;rw[<-bv, <-Gj];exact Jb)⟩⟩
   ·have n6:=wrap_small (n:=WE) Zo
    have q6:=wrap_small R
    have ng:¬((281474976710656:Int)<(i.bytes:Int)*(l2:Int)):=by
     rw[Int.mul_comm];exact SJ R ak
    have tH:¬((l2:Int)<0):=Zo
    have ni:¬((WE:Int)<0):=Zo
    have Vb:¬((l2:Int)<(WE:Int)):=Zo
    have Ix:=aje T bm.cells i.size l2 bv (if l2*i.size=0 then #[]else(aQ T bm).cells) (λdQ=>by rw[Zh dQ,vL])
    by_cases l7:l2*i.size=0
    ·rw[Zr l7]at Ix
     rw[<-Ix]
     simp[Instr.makeSlice,run_underlying bg,aQ,asInt,asIntOf,typeInfo,aG,n6,q6,ng,tH,ni,Vb,sizeOf,l7,newRow,lV]
    ·rw[Zh l7]at Ix
     rw[<-Ix]
     simp[Instr.makeSlice,run_underlying bg,aQ,asInt,asIntOf,typeInfo,aG,n6,q6,ng,tH,ni,Vb,sizeOf,l7,newRow,lV,f5]
   ·have g:=TU (vM fK) l2
    have:=N1 (C:=C) (T:=gP T j ⟨w.heap.size,0,0⟩) (ad:=add ad j) (sv (λ_ a=> .inl a) _ g) ek 0 w
    rw[y9 (r0 (sX Y)) g,Gj,bv]at this
    exact this
  ·simp at a
 ·simp at a
def azi(Y:dn C T ad h j bo w)(ey:bo<=w.heap.size){t:Nat}{r:Operand}{av:Operand->Value}{eE:Operand->Option D}{res:ee}(cC:jP T ad av eE [r])(a:K7 C t r h j eE=some res):
 ∃v S' an,res= .fv v S' an/\nC C T ad h j bo w (Instr.makeMap t (some (av r))) v S' an:=by
 unfold K7 at a
 split at a
 ·rename_i j8 B1 aj n bg ae
  obtain⟨E,_⟩:=cC r Zs _ ae
  have:=MA a;subst this
  refine⟨_,_,_,rfl,MB Y ey (W:= .map #[] 0) ?_ (.inr rfl) ⟨#[],wk _ _,rfl,Zs⟩ ⟨λ_ _ _ a=>(by cases a),λ_ _ _ a=>(by cases a)⟩⟩
  simp[Instr.makeMap,run_underlying bg,E,aQ,asInt,asIntOf,lV]
 ·simp at a
def aBp(Y:dn C T ad h j bo w)(ey:bo<=w.heap.size){t:Nat}{x:Operand}{av:Operand->Value}{eE:Operand->Option D}{res:ee}(cC:jP T ad av eE [x])(a:La C t x h j eE=some res):
 ∃v S' an,res= .fv v S' an/\nC C T ad h j bo w (Instr.range t (av x)) v S' an:=by
 have dR:=r0 (T:=T) (pl:=⟨w.heap.size,0,0⟩) (sX Y)
 unfold La at a
 split at a
 ·rename_i s bg ae
  obtain⟨E,g⟩:=cC x Zs _ ae
  have:=MA a;subst this
  refine⟨_,_,_,rfl,MB Y ey (W:= .stringIter (gg s) 0) ?_ (.inr rfl) ⟨rfl,wk _ _,g⟩ ⟨λ_ _ _ a=>(by cases a),λ_ _ _ a=>(by cases a)⟩⟩
  simp[Instr.range,run_underlying bg,E,aQ,lV]
 ·rename_i j8 B1 bg ae
  obtain⟨E,g⟩:=cC x Zs _ ae
  have:=MA a;subst this
  refine⟨_,_,_,rfl,MB Y ey (W:= .mapIter none 0 #[] 0) ?_ (.inr rfl) ⟨rfl,wk _ _,Zs⟩ ⟨λ_ _ _ a=>(by cases a),λ_ _ _ a=>(by cases a)⟩⟩
  simp[Instr.range,run_underlying bg,E,aQ,lV]
 ·rename_i j8 B1 r bg ae
  obtain⟨E,g⟩:=cC x Zs _ ae
  split at a
  ·rename_i cb fe bf
   have:=MA a;subst this
   obtain⟨cp,bb,b5,a3,a4⟩:=Mu Y g bf
   refine⟨_,_,_,rfl,MB Y ey (W:= .mapIter (some (T r).cL) fe #[] fe) ?_ (.inr rfl) ⟨rfl, ?_,λb ag=>by cases ag;exact .inl g⟩ ⟨λ_ _ _ a=>(by cases a),λ_ _ _ a=>(by cases a)⟩⟩
   ·simp[Instr.range,run_underlying bg,E,aQ,lV,bb]
   ·rw[wk];simp only[ZT,dR r g]
  ·simp at a
 ·simp at a
end
section
variable{C:aK}{T de:db}{ad dG:Nat->Prop}{h S':Q af}{j an bo:Nat}{w b1:World}
def aia(n:Nat):∀l,rN n l=l.contains n:=by
 intro l
 induction l with
 |nil=>rfl
 |cons H l ai=>simp only[rN,List.contains_cons,ai];congr 1;rw[Ya,Y2];exact⟨Zn,λa=>by rw[a];exact ze _⟩
def R3(C:aK)(T:db)(ad:Nat->Prop)(h:Q af)(j bo:Nat)(w:World)(s:Sem Value)(res:ee):Prop:=match res with
 | .val v=>nC C T ad h j bo w s v h j
 | .fv v S' an=>nC C T ad h j bo w s v S' an
 | .fork l=>∃v S',(v,S')∈l/\nC C T ad h j bo w s v S' j
 |_=>False
def azK(Y:dn C T ad h j bo w){eP:Operand}{AU:Bool}{ty:TypeId}{av:Operand->Value}{eE:Operand->Option D}{res:ee}(cC:jP T ad av eE [eP])(a:xW C eP AU h j eE=some res):
 R3 C T ad h j bo w (Instr.next (av eP) AU ty) res:=by
 unfold xW at a
 split at a
 ·rename_i r ae
  obtain⟨E,nM⟩:=cC eP Zs _ ae
  simp only[e7]at a
  obtain⟨Lk,a⟩:=a
  have ag:C.a2<=r:=jR Lk
  rw[E]
  split at a
  ·rename_i s pos bf
   obtain⟨my,M,R⟩:=Y.obj r _ bf nM
   have U:(getObj (T r).cL).run C.P w= .ok (.stringIter (gg s) pos) w:=by simp[getObj,Sem.run,M]
   have eT:(gg s).size=s.length:=by simp[gg,ByteArray.size]
   rw[fN]at a
   split at a
   ·rename_i aw
    have aw:=l1 aw
    rw[qT]at a
    split at a
    ·rename_i c ax
     simp only[e7]at a
     obtain⟨UE,a⟩:=a
     have UE:=l1 UE
     obtain⟨rfl,_⟩:=Xy a
     obtain⟨b1,bQ,ct,c1⟩:=putObj Y (dh:=j) (pk:= .pp s (pos+1)) (o':= .stringIter (gg s) (pos+1)) ag nM bf ⟨Zs,Zs⟩ M Zs (λb1 t2=>⟨my,t2,R⟩) ⟨λ_ _ _ a=>(by cases a),λ_ _ _ a=>(by cases a)⟩
     refine⟨T,ad,b1, ?_,⟨trivial,trivial,trivial,trivial⟩,ct,c1,Zj _⟩
     have cZ:pos<(gg s).size:=by rw[eT];exact aw
     have afg:((gg s)[pos]'cZ).toNat=c:=by
      show((gg s).data[pos]).toNat=c
      have aD:s[pos]=c:=by
       rw[Ze aw]at ax
       exact Ys ax
      simp[gg,aD];omega
     have Pe:=decode_ascii (gg s) pos cZ (by rw[afg];exact UE)
     rw[afg]at Pe
     simp[Instr.next,aQ,b4,my,U,eT,aw,Pe,bQ,goInt]
    ·simp at a
   ·rename_i aw
    have aw:¬pos<s.length:=λaj=>aw (by simp[Nat.blt];omega)
    simp at a;subst a
    refine nC.same Y ?_ ⟨trivial,trivial⟩
    simp[Instr.next,aQ,b4,my,U,eT,aw]
  ·rename_i wX seen ajE bf
   obtain⟨my,M,R⟩:=Y.obj r _ bf nM
   have U:(getObj (T r).cL).run C.P w= .ok (.mapIter none wX seen.toArray ajE) w:=by simp[getObj,Sem.run,M]
   simp at a;subst a
   refine nC.same Y ?_ ⟨trivial,trivial⟩
   simp[Instr.next,aQ,b4,my,U]
  ·simp at a
 ·simp at a
end
section
variable{C:aK}{T de:db}{ad dG:Nat->Prop}{h S':Q af}{j an bo:Nat}{w b1:World}
def asC(w:World)(cp:Array Value)(E:TypeId)(n:Nat):(w.alloc (.cells cp E)).freeze ⟨w.heap.size,n,none⟩ 1=w.alloc (.cells cp E (n,n+1)):=by
 unfold World.freeze
 rw[Zh Zd]
 show({w with heap:=(w.heap.push (.cells cp E)).modify w.heap.size _}:World)={w with heap:=w.heap.push (.cells cp E (n,n+1))}
 congr 1
 apply Array.ext_getElem?
 intro z
 rw[Y6,Array.getElem?_push,Array.getElem?_push]
 by_cases aJ:w.heap.size=z
 ·subst aJ;simp
 ·rw[Zh aJ,Zh (λE=>aJ E.symm),Zh (λE=>aJ E.symm)]
def asB{p:Nat}{cp:Array Value}{ty:TypeId}{bL aG:Nat}(a:w.heap[p]? =some (.cells cp ty (bL,aG)))(n:Nat):
 (w.freeze ⟨p,n,none⟩ 1).heap[p]? =some (.cells cp ty (if bL==aG then(n,n+1)else(min bL n,max aG (n+1))))/\(∀z,z≠p->(w.freeze ⟨p,n,none⟩ 1).heap[z]? =w.heap[z]?):=by
 unfold World.freeze
 rw[Zh Zd]
 constructor
 ·simp only[Y6,ZE,a,ZT]
 ·intro z aJ
  simp only[Y6]
  rw[Zh (λE=>aJ E.symm)]
def aDe(Y:dn C T ad h j bo w)(ey:bo<=w.heap.size){s d:Nat}{x:Operand}{av:Operand->Value}{eE:Operand->Option D}{res:ee}(cC:jP T ad av eE [x])(a:Lc C s d x h j eE=some res):
 R3 C T ad h j bo w (convert s d (av x)) res:=by
 unfold Lc at a
 split at a
 ·rename_i E l aD aF ae
  obtain⟨ex,g⟩:=cC x Zs _ ae
  split at a
  ·rename_i bC
   obtain⟨gn,rfl⟩:=aeu a
   rw[ex]
   have eT:(gg l).size=l.length:=by simp[gg,ByteArray.size]
   have aF9:(gg l).data.size=l.length:=by simp[gg]
   have ax:=ajF T l g
   have as5:ew ad (l.map λn=>D.int .u8 (Int.ofNat n)):=by
    rw[vY];intro v bB;obtain⟨e,_,rfl⟩:=ZI.1 bB;trivial
   obtain⟨cap,nh,u0⟩:∃cap,l.length<=cap/\(choose (.appendCap l.length 0 E)).run C.P w= .ok cap w.drew:=
    ⟨l.length+(w.tape w.drawn (.appendCap l.length 0 E))%(2^63-l.length),Zo,by simp[Question.forced,Question.cut]⟩
   have PV:(l.map λn=>D.int .u8 (Int.ofNat n)).length+(Array.replicate (cap-l.length) (Value.int .u8 0)).size=cap*1:=by simp;omega
   have Lh:=aex (C:=C) (T:=T) (w:=w) (j:=j) as5 (sX Y) PV E []
   have E4:kA C (gP T j ⟨w.heap.size,0,cap*1⟩) (add ad j) (.cells (Q.ofList (l.map λn=>D.int .u8 (Int.ofNat n)) 0 .nil) (l.map λn=>D.int .u8 (Int.ofNat n)).length (.grow [])) ⟨w.heap.size,0,cap*1⟩
    (w.drew.alloc (.cells ((b4 T (l.map λn=>D.int .u8 (Int.ofNat n))).toArray++Array.replicate (cap-l.length) (Value.int .u8 0)) E (cap,cap+1))):=by
    obtain⟨cp,ty,bL,aG,bY,co,cY,fM⟩:=Lh
    have acB:=wk w.drew (.cells ((b4 T (l.map λn=>D.int .u8 (Int.ofNat n))).toArray++Array.replicate (cap-l.length) (Value.int .u8 0)) E)
    have awR:w.drew.heap.size=w.heap.size:=rfl
    rw[awR]at acB
    rw[acB]at bY
    cases bY
    refine⟨_,E,cap,cap+1,wk w.drew _,⟨.inr ?_,co.2.1,co.2.2⟩,cY,fM⟩
    simp[ki];omega
   refine⟨gP T j ⟨w.heap.size,0,cap*1⟩,add ad j,_, ?_, .inr rfl,Y.drew.alloc Y.a2 (Yi _) (Z9 _) (sX Y) ey rfl (by rw[ga _ Y.a2,Zr rfl]) (λx ae=> .inl (by rw[ga _ Y.a2,Zh ae])) E4
    ⟨λ_ _ _ a=>(by cases a;simp),λ_ _ _ a=>(by cases a;exact Jb)⟩,Tr Y ey _ (λx ae _=>by rw[ga _ Y.a2,Zh ae]),Z9 _⟩
   have awI:((b4 T (l.map λn=>D.int .u8 (Int.ofNat n))).toArray++Array.replicate (cap-l.length) (Value.int .u8 0)).size=cap:=by simp[ki];omega
   have qJ:=asC w.drew ((b4 T (l.map λn=>D.int .u8 (Int.ofNat n))).toArray++Array.replicate (cap-l.length) (Value.int .u8 0)) E cap
   have U3:w.drew.heap.size=w.heap.size:=rfl
   rw[U3]at qJ
   have VQ:(w.drew.alloc (.cells ((b4 T (l.map λn=>D.int .u8 (Int.ofNat n))).toArray++Array.replicate (cap-l.length) (Value.int .u8 0)) E)).shape? w.heap.size=some (E,cap):=by
    have:=wk w.drew (.cells ((b4 T (l.map λn=>D.int .u8 (Int.ofNat n))).toArray++Array.replicate (cap-l.length) (Value.int .u8 0)) E)
    rw[U3]at this
    simp only[World.shape?,this,awI]
   simp only[convert,Sem.run_bind,run_underlying aD,run_underlying aF,run_underlying bC,Result.andThen_ok,aQ,Conv.stringToBytes,eT,u0,ax,newRow,run_newObj_alloc,U3,Sem.run_pure,markStringish,run_shape,VQ,run_freeze,qJ,
    lV,ZV,YJ,Z1,Nat.div_one]
  ·simp at a
 ·rename_i uL E b W len cap aD aF ae
  obtain⟨ex,g⟩:=cC x Zs _ ae
  split at a
  ·rename_i bC
   simp only[e7,Zp]at a
   obtain⟨⟨VP,Lk⟩,a⟩:=a
   have VP:s=d:=Zn VP
   subst VP
   have ag:C.a2<=b:=jR Lk
   rw[ex]
   have fin:∀(c:Q D) (n:Nat) (st:oU),U C h b=some (.cells c n st)->(st= .own\/st= .marked)->∀S',U C S' b=some (.cells c n .marked)->(∀x,x≠b->U C S' x=U C h x)->
    nC C T ad h j bo w (convert s s (aQ T (.slice b W len cap))) (.slice b W len cap) S' j:=by
    intro c n st bf dd S' c6 d3
    obtain⟨cp,ty,bL,aG,bb,b5,a3,a4⟩:=Y.obj b _ bf g
    have nf:Nx (.cells c n st):=by rcases dd with rfl|rfl<;>exact⟨Zs,Zs⟩
    have Ig:bL=aG\/cp.size<=bL:=by rcases dd with rfl|rfl;exact .inl b5;exact b5
    obtain⟨eR,fk⟩:=asB bb cp.size
    have wc:=Y.base b _ ag bf g
    have LD:∃sQ lJ,(if bL==aG then(cp.size,cp.size+1)else(min bL cp.size,max aG (cp.size+1)))=(sQ,lJ)/\cp.size<=sQ:=by
     by_cases aj:bL=aG
     ·exact⟨_,_,by rw[Zr (by simpa using aj)],Zj _⟩
     ·refine⟨_,_,by rw[Zh (by simpa using aj)], ?_⟩
      have:=Ig.resolve_left aj
      omega
    obtain⟨sQ,lJ,bz,cF⟩:=LD
    rw[bz]at eR
    refine⟨T,ad,w.freeze ⟨(T b).cL,cp.size,none⟩ 1, ?_,g,Y.put ag g bf c6 (λx ae=> .inl (d3 x ae)) (λz aJ=>fk z aJ) ?_ ⟨cp,ty,sQ,lJ,eR, .inr cF,a3,a4⟩ ⟨λ_ _ _ a=>(by cases a),λ_ _ _ a=>(by cases a;exact(Y.fp b _ bf g).2 _ _ _ rfl)⟩, ?_,Zj _⟩
    ·have VQ:w.shape? (T b).cL=some (ty,cp.size):=Xq bb
     have auz:(s==s)=true:=by simp
     simp only[convert,Sem.run_bind,run_underlying aD,Result.andThen_ok,aQ]
     rw[aD]at aF
     cases aF
     simp only[auz,run_underlying bC,Sem.run_bind,Result.andThen_ok,markStringish,run_shape,VQ,run_freeze,Sem.run_pure]
    ·intro x du dQ ae dO e8
     rw[d3 x dQ]at ae
     exact Y.alone ag g bf nf x du dQ ae dO e8
    ·refine⟨λ_ _=>rfl,λ_ a=>a,λ_ a=> .inl a,λx ae _=>d3 x (λE=>ae (by rw[E];exact g)), ?_⟩
     refine⟨?_, ?_, ?_, ?_,λz aJ=>fk z Zo⟩<;>simp[World.freeze]
   split at a
   ·rename_i c n bf
    simp only[hE,Zf]at a
    subst a
    exact fin c n .own bf (.inl rfl) _ (by rw[ga _ ag,Zr rfl]) (λx ae=>by rw[ga _ ag,Zh ae])
   ·rename_i c n bf
    simp only[Zf]at a
    subst a
    exact fin c n .marked bf (.inr rfl) h bf (λ_ _=>rfl)
   ·simp at a
  ·simp at a
 ·simp at a
end
def iX(C:aK)(T:db)(ad:Nat->Prop)(h:Q af)(j bo:Nat)(w:World)(s:Sem Next)(res:ee):Prop:=match res with
 | .val v=>BC C T ad h j bo w s v h j
 | .fv v S' an=>BC C T ad h j bo w s v S' an
 | .fork l=>∃v S',(v,S')∈l/\BC C T ad h j bo w s v S' j
 | .enter f args=>s.run C.P w= .ok (.enter f (b4 T args).toArray) w/\ew ad args
 | .known f args v=>C.hB f args=some v/\s.run C.P w=(callFunc f (b4 T args).toArray).run C.P w/\ew ad args
 | .round l args=>s.run C.P w=(Instr.yield (T l).cL (b4 T args).toArray).run C.P w/\ew ad args/\ad l
 | .defer d=>s.run C.P w= .ok (.defer (mm T d)) w/\xP ad d
 | .recover=>s.run C.P w= .ok .recover w
 | .panic v=>s.run C.P w= .halt (.panic (aQ T v)) w/\cm ad v
section
variable{C:aK}{T de:db}{ad dG:Nat->Prop}{h S':Q af}{j an bo:Nat}{w b1:World}
def iX.one{s:Sem Value}{res:ee}(a:R3 C T ad h j bo w s res):iX C T ad h j bo w (do pure (.value (<-s))) res:=by
 cases res with
 |val v=>exact nC.done a
 |fv v S' an=>exact nC.done a
 |fork l=>obtain⟨v,S',M,R⟩:=a;exact⟨v,S',M,R.done⟩
 |_=>exact a.elim
def iX.fv{s:Sem Value}{res:ee}(a:∃v S' an,res= .fv v S' an/\nC C T ad h j bo w s v S' an):iX C T ad h j bo w (do pure (.value (<-s))) res:=by
 obtain⟨v,S',an,rfl,a⟩:=a
 exact a.done
def iX.app(Y:dn C T ad h j bo w){s:Sem Value}{res:ee}(a:RS C T ad h j bo w s res):iX C T ad h j bo w (do pure (.value (<-s))) res:=by
 rcases a with ⟨v,S',an,rfl,de,dG,b1,M,R,ak,aA,bv⟩|⟨v,rfl,M,R⟩
 ·exact nC.done ⟨de,dG,b1,M,R,ak,aA,bv⟩
 ·exact nC.done (.same Y R M)
def iX.unit{s:Sem Unit}{res:ee}(a:∃S' b1,res= .fv undef S' j/\s.run C.P w= .ok () b1/\dn C T ad S' j bo b1/\iW C j T ad h bo w T ad S' b1):
 iX C T ad h j bo w (do s;pure .skip) res:=by
 obtain⟨S',b1,rfl,M,R,ak⟩:=a
 exact⟨T,ad,b1, .skip,by simp[M], .inr ⟨rfl,rfl⟩,by trivial,R,ak,Zj _⟩
def iX.congr{s eJ:Sem Next}{res:ee}(a:s.run C.P w=eJ.run C.P w)(z:iX C T ad h j bo w eJ res):iX C T ad h j bo w s res:=by
 cases res<;>simp only[iX,BC]at z ⊢ <;>rw[a]<;>exact z
def SP(kN:yV C.P){f:Nat}{args:List D}{res:ee}(g:ew ad args)(a:tp C f args=some res):iX C T ad h j bo w (callFunc f (b4 T args).toArray) res:=by
 unfold tp at a
 split at a
 ·rename_i v bB
  simp at a;subst a
  exact⟨bB,rfl,g⟩
 ·split at a
  ·rename_i fn b7
   split at a
   ·rename_i c ag
    simp at a;subst a
    refine⟨?_,g⟩
    have aE:fn.name≠ "runtime.NumGoroutine":=by simpa using kN.num f fn b7 (by simp[ag])
    simp[callFunc,b7,aE,ag]
   ·simp at a
  ·simp at a
def ahg(kN:yV C.P){fn:Fn}{fY args:List D}{res:ee}(vW:OE ad fn)(kl:ew ad fY)(f1:ew ad args)(a:BM C fn fY args=some res):
 iX C T ad h j bo w (invoke (.fn (nK T fn) (b4 T fY).toArray) (b4 T args).toArray) res:=by
 unfold BM at a
 split at a
 ·rename_i f
  have E:invoke (.fn (nK T (.func f)) (b4 T fY).toArray) (b4 T args).toArray=callFunc f (b4 T (args++fY)).toArray:=by
   simp[invoke,nK,Eg]
  rw[E]
  exact SP kN (Ca f1 kl) a
 ·rename_i l
  simp at a;subst a
  exact⟨rfl,f1,vW⟩
 ·simp at a
def azr(Y:dn C T ad h j bo w)(kN:yV C.P){t:Nat}{v:D}{name:String}{args:List D}{res:ee}(fD:cm ad v)(f1:ew ad args)(a:Hf C h t v name args=some res):
 iX C T ad h j bo w (callMethod (.iface t (aQ T v)) name (b4 T args).toArray) res:=by
 obtain⟨z,aJ⟩:∃z,C.P.types.size+Made.depth=z+1:=⟨C.P.types.size+99,rfl⟩
 have go:∀(f:Nat) (x:D),cm ad x->(method (z+1) t (aQ T v) name).run C.P w= .ok (f,aQ T x) w->tp C f (x::args)=some res->iX C T ad h j bo w (callMethod (.iface t (aQ T v)) name (b4 T args).toArray) res:=by
  intro f x ff bp ax
  refine(SP (T:=T) (h:=h) (j:=j) (bo:=bo) (w:=w) kN (args:=x::args) (show cm ad x/\ew ad args from⟨ff,f1⟩) ax).congr ?_
  simp[callMethod,aJ,bp,b4]
 unfold Hf at a
 split at a
 ·rename_i i aG
  split at a
  ·rename_i m bp
   simp only[e7]at a
   obtain⟨aw,a⟩:=a
   have It:m.path.toList=[]:=by simpa using aw
   split at a
   ·rename_i f E b7 bg
    refine go f v fD ?_ a
    simp[method,typeInfo,aG,bp,It,follow,b7,receiverAt,run_underlying bg,Place.get]
   ·rename_i f E b7 bg
    split at a
    ·rename_i x ae
     obtain⟨M,R⟩:=ach Y fD ae
     refine go f x R ?_ a
     cases v with
     |ptr b W=>
      simp only[Instr.loadAt,Instr.sureAddr,aQ,Sem.run_bind,Sem.run_pure,Result.andThen_ok]at M
      have awN:∀(iU:TypeId) (H:Addr) (nm:String),Builtin.ssaWrapNilChk_ #[iU] iU #[.pointer (some H),strVal "",strVal nm]=pure (.pointer (some H)):=λ_ _ _=>rfl
      have pe:m.path= #[]:=by simpa using aw
      simp[method,typeInfo,aG,bp,pe,follow,b7,receiverAt,run_underlying bg,Place.get,aQ,awN,asAddr,M]
     |_=>simp[mj,cG,aP]at ae;split at ae<;>simp at ae
    ·simp at a
   ·rename_i f d aE b7 bg
    refine go f v fD ?_ a
    cases d<;>first
     |exact(aE _ rfl).elim
     |simp[method,typeInfo,aG,bp,It,follow,b7,receiverAt,run_underlying bg,Place.get]
   ·simp at a
  ·simp at a
 ·simp at a
def aqh(Y:dn C T ad h j bo w)(ey:bo<=w.heap.size)(kN:yV C.P){b:Builtin}{args:Array Operand}{di:Array TypeId}{ty:TypeId}{aqO:Array Bool}{av:Operand->Value}{eE:Operand->Option D}{res:ee}
 (cC:jP T ad av eE args.toList)(a:KW C b args di h j eE=some res):iX C T ad h j bo w (builtin b di ty aqO (args.map av)) res:=by
 have Hl:∀{t:Nat}{rest:List Nat},di.toList=t::rest->di[0]? =some t:=λaz=>by rw[<-ZO,az];rfl
 have Sx:∀{t ac:Nat}{rest:List Nat},di.toList=t::ac::rest->di[1]? =some ac:=λaz=>by rw[<-ZO,az];rfl
 unfold KW at a
 split at a
 ·rename_i s x ae
  obtain⟨bb,b5⟩:=xt cC ae
  rw[bb]
  split at a
  ·rename_i st iU rest az
   split at a
   ·rename_i aj h9
    split at a
    ·rename_i n aE
     exact iX.app Y (ape (ty:=ty) Y ey (Hl az) (Sx az) h9 b5.1 aE a)
    ·simp at a
   ·rename_i E h9
    exact iX.app Y (acc (ty:=ty) Y ey (Hl az) (Sx az) h9 (.inr ⟨E,rfl⟩) b5.1 b5.2.1 a)
   ·rename_i h9
    exact iX.app Y (acc (ty:=ty) Y ey (Hl az) (Sx az) h9 (.inl rfl) b5.1 b5.2.1 a)
   ·simp at a
  ·simp at a
 ·rename_i ae
  simp at a;subst a
  exact rfl
 ·simp at a
def apf(Y:dn C T ad h j bo w)(ey:bo<=w.heap.size)(kN:yV C.P){oper:Oper}{av:Operand->Value}{eE:Operand->Option D}{res:ee}(cC:jP T ad av eE oper.op.operands.toList)
 (a:od oper.op C h j eE=some res):iX C T ad h j bo w (execOp av oper) res:=by
 obtain⟨dst,op,type,pos,after,guard⟩:=oper
 have aie:∀t m z x,jP T ad av eE [m,z,x]->H2 C t m z x h j eE=some res->iX C T ad h j bo w (do Instr.mapUpdate t (av m) (av z) (av x);pure .skip) res:=by
  intro t m z x cC a
  unfold H2 at a
  split at a
  ·rename_i H b c az ag ax
   obtain⟨bz,bI⟩:=cC m Zs H az
   obtain⟨cF,bN⟩:=cC z Zs b ag
   obtain⟨f0,cH⟩:=cC x Zs c ax
   obtain⟨S',b1,M,R,ak,aA⟩:=apl Y bI bN cH a
   rw[bz,cF,f0]
   exact iX.unit ⟨S',b1,M,R,ak,aA⟩
  ·simp at a
 cases op<;>simp only[od]at a<;>(try(cases a;done))<;>simp only[execOp]<;>simp only[Op.operands]at cC
 case mapUpdate t m z x=>exact aie t m z x (by simpa using cC) a
 case insert t m z x=>exact aie t m z x (by simpa using cC) a
 case makeSlice t l c=>exact iX.fv (azk Y ey (by simpa using cC) a)
 case makeMap t r=>
  cases r with
  |none=>simp at a
  |some r=>exact iX.fv (azi Y ey (by simpa using cC) a)
 case convert s d x=>exact iX.one (aDe Y ey (by simpa using cC) a)
 case range t x=>exact iX.fv (aBp Y ey (by simpa using cC) a)
 case next eP s=>exact iX.one (azK Y (by simpa using cC) a)
 case panic x=>
  unfold Uu at a
  split at a
  ·rename_i t v ae
   simp at a;subst a
   obtain⟨E,g⟩:=cC x Zs _ ae
   refine⟨?_,g⟩
   simp[Instr.panic,E,aQ]
  ·simp at a
 case defer c=>
  unfold T6 at a
  split at a
  ·rename_i f args di
   split at a
   ·rename_i fn first fY cu b7 has
    simp at a;subst a
    simp only[Call.operands]at cC
    obtain⟨E,g⟩:=cC f Zs _ b7
    obtain⟨bb,b5⟩:=xt (cC.mono (by simp;intro x ae;exact .inr ae)) has
    refine⟨?_,⟨g.1,g.2.2⟩,Ca g.2.1 b5⟩
    simp[resolve,E,aQ,Deferred.ofValue,bb,mm,Ee,Eg]
   ·simp at a
  ·simp at a
 case call c=>
  unfold EF at a
  split at a
  ·rename_i f args di
   split at a
   ·rename_i fn first fY cu b7 has
    simp only[Call.operands]at cC
    obtain⟨E,g⟩:=cC f Zs _ b7
    obtain⟨bb,b5⟩:=xt (cC.mono (by simp;intro x ae;exact .inr ae)) has
    refine(ahg (T:=T) (h:=h) (j:=j) (bo:=bo) (w:=w) kN g.1 g.2.2 (Ca g.2.1 b5) a).congr ?_
    simp[resolve,E,aQ,Deferred.ofValue,bb,Eg]
   ·simp at a
  ·rename_i b args di
   simp only[Call.operands]at cC
   show iX C T ad h j bo w (builtin b di type _ (args.map av)) res
   exact aqh Y ey kN (cC.mono Zs) a
  ·rename_i r name args di
   split at a
   ·rename_i t v cu AJ has
    simp only[Call.operands]at cC
    obtain⟨E,g⟩:=cC r Zs _ AJ
    obtain⟨bb,b5⟩:=xt (cC.mono (by simp;intro x ae;exact .inr ae)) has
    refine(azr (v:=v) Y kN g b5 a).congr ?_
    simp[resolve,E,aQ,invoke,bb]
   ·simp at a
end
noncomputable section
abbrev ef:=Option D
structure iK where
 fn:Nat
 n:Nat
 ao:Nat
 bh:List h3
 ay:Bool
 ro:Option Nat
 cs:List g4
abbrev hP:=lw->List d1->iK->Q D->Q af->Nat->ef
def ps(g:Option (Nat×Bool))(aq:List (Nat×D)):Option Bool:=
 match g with
 |none=>some true
 |some (S,mc)=>(match ev aq S with
  |some v=>(match v with| .bool b=>some (b==mc)|_=>some false)
  |none=>none)
def lO(f:D->D->Bool):List D->List D->Bool
 |[],[]=>true
 |H::l,b::m=>f H b&&lO f l m
 |_,_=>false
def D.same:Nat->D->D->Bool
 |0,_,_=>false
 |d+1,x,e=>match x,e with
  | .bool H, .bool b=>H==b
  | .int z H, .int eY b=>decide (z=eY)&&decide (H=b)
  | .str H, .str b=>mX H b
  | .ptr H b, .ptr fL dM=>Nat.beq H fL&&Nat.beq b dM
  | .cJ, .cJ=>true
  | .slice H b c E, .slice fL dM fS iM=>Nat.beq H fL&&Nat.beq b dM&&Nat.beq c fS&&Nat.beq E iM
  | .fj H b c E, .fj fL dM fS iM=>Nat.beq H fL&&Nat.beq b dM&&Nat.beq c fS&&Nat.beq E iM
  | .aV, .aV=>true
  | .map H, .map b=>Nat.beq H b
  | .mF, .mF=>true
  | .func f H b, .func adM fL dM=>decide (f=adM)&&lO (D.same d) H fL&&lO (D.same d) b dM
  | .nilFunc, .nilFunc=>true
  | .iface t v, .iface hp hr=>Nat.beq t hp&&D.same d v hr
  | .nilIface, .nilIface=>true
  | .agg H, .agg b=>lO (D.same d) H b
  | .tuple H, .tuple b=>lO (D.same d) H b
  |_,_=>false
def xE(C:aK)(base:Nat)(I:Q D):List fz->List (Nat×D)->Q af->Option (List (Nat×D)×Q af)
 |[],aq,h=>some (aq,h)
 |x::l,aq,h=>(match ps x.g aq with
  |none=>none
  |some false=>xE C base I l ((x.i,undef)::aq) h
  |some true=>(match np x.op with
   | .make=>(match o5 x.op C (base+x.i) aq I with
     |some (v,cU)=>jU (bj C h (base+x.i) (some cU)) λh=>xE C base I l ((x.i,v)::aq) h
     |none=>none)
   |_=>(match hc x.op C h aq I with
    |some v=>xE C base I l ((x.i,v)::aq) h
    |none=>none)))
def En(C:aK)(I:Q D)(aq:List (Nat×D))(h:Q af):List fz->Bool
 |[]=>true
 |x::l=>(match ps x.g aq with
  |none=>false
  |some false=>En C I aq h l
  |some true=>(match hc x.op C h aq I,ev aq x.i with
   |some v,some ac=>D.same 30 v ac&&En C I aq h l
   |_,_=>false))
def Ai(aq:List (Nat×D)):List (Nat×Nat)->Q D->Option (Q D)
 |[],I=>some I
 |(i,d)::l,I=>(match ev aq i with|some v=>jU (I.set d (some v)) λI=>Ai aq l I|none=>none)
def exitTo(id:Nat):List d1->Option (List d1)
 |[]=>none
 | .inBlock u6::z=>bW (Nat.beq u6 id) (some z)<|exitTo id z
 |_::z=>exitTo id z
def jN{α:Type}(W:Option α)(z:α->ef):ef:=Option.rec (motive:=λ_=>ef) none (λH=>z H) W
def Kg(l:List (Nat×D)):Nat->(D->ef)->ef:=
 List.rec (motive:=λ_=>Nat->(D->ef)->ef) (λ_ _=>none)
  (λp _ ai S z=>Prod.rec (motive:=λ_=>ef) (λH b=>Bool.rec (motive:=λ_=>ef) (ai S z) (z b) (Nat.beq H S)) p) l
def OB(t:Q D):Nat->(D->ef)->ef:=
 Q.rec (motive:=λ_=>Nat->(D->ef)->ef) (λ_ _=>none)
  (λv _ _ i7 rp i z=>Nat.rec (motive:=λ_=>ef) (Option.rec (motive:=λ_=>ef) none (λH=>z H) v)
   (λS _=>Bool.rec (motive:=λ_=>ef) (rp (Nat.div S 2) z) (i7 (Nat.div S 2) z) (Nat.beq (Nat.mod S 2) 0)) i) t
def Af(x:kT):List (Nat×D)->Q D->(D->ef)->ef:=
 kT.rec (motive:=λ_=>List (Nat×D)->Q D->(D->ef)->ef) (λS aq _ z=>Kg aq S z) (λn _ I z=>OB I n z) (λH _ _ z=>z H) x
def akd(g:Option (Nat×Bool)):List (Nat×D)->ef->ef->ef:=
 Option.rec (motive:=λ_=>List (Nat×D)->ef->ef->ef) (λ_ H _=>H)
  (λp aq H b=>jN (ps (some p) aq) λw=>Bool.rec (motive:=λ_=>ef) b H w) g
def KK(l:List (Nat×Nat)):List (Nat×D)->Q D->(Q D->ef)->ef:=
 List.rec (motive:=λ_=>List (Nat×D)->Q D->(Q D->ef)->ef) (λ_ I z=>z I)
  (λp _ ai aq I z=>Prod.rec (motive:=λ_=>ef) (λi d=>Kg aq i λv=>jU (Q.set I d (some v)) λI=>ai aq I z) p) l
def Gv(eP:d1)(z:List d1)(ca:iK)(I:Q D):List g4:=
 iK.rec (motive:=λ_=>List g4) (λfn n ao bh ay ro cs=>⟨fn,n,ao,I,eP::z,bh, .run,ay,ro⟩::cs) ca
def o3(ai:hP)(C:aK)(f:Nat)(args:List D)(deferred:Bool)(cs:List g4)(h:Q af)(j:Nat):ef:=
 match C.P.funcs[f]? with
 |some fn=>(match fn.body with
  |some c=>rl (Nat.lor (kK c) (oH fn.results.toList)) λao=>bW (Nat.ble args.length fn.ntmps&&mo C ao c&&A8 ao fn.results.toList) (ai .run [.code c] ⟨f,fn.ntmps,ao,[],deferred,none,cs⟩ (Q.ofList args 0 .nil) h j)<|none
  |none=>none)
 |none=>none
def yA(n:Nat):List Nat->List D->Q D->Option (Q D)
 |[],[],I=>some I
 |p::dq,H::cu,I=>bW (Nat.blt p n) (yA n dq cu (I.set p (some H)))<|none
 |_,_,_=>none
def pM(eP:d1)(v:D):Option d1:=match eP with
 | .ux ar aq a rest fin=>some (.Jt ar ((a,v)::aq) rest fin)
 | .Bn ar base aq a lS fin=>some (.drawn ar base ((a,v)::aq) lS fin)
 | .inRangeFunc l=>some (.endRangeFunc l)
 |_=>none
def Xl(ai:hP)(todo:List d1)(ca:iK)(v:D)(I:Q D)(h:Q af)(j:Nat):ef:=
 match todo with
 |[]=>none
 |eP::z=>(match pM eP v with|some hX=>ai .run (hX::z) ca I h j|none=>none)
def xG:List Nat->Q D->Q D
 |[],I=>I
 |d::l,I=>xG l (I.set d none)
def vR(todo:List d1)(I:Q D):Q D:=match todo with
 | .ux ar _ _ _ _::_=>xG (dstsOf ar.toList) I
 | .Bn ar _ _ _ _ _::_=>xG (dstsOf ar.toList) I
 |_=>I
def Gd(chain:List s8)(bR:lw):lw:=match bR with
 | .panicking qU=> .panicking (chain++qU)
 |_=> .panicking chain
def ajc(ai:hP)(c:g4)(cs:List g4)(chain:List s8)(h:Q af)(j:Nat):ef:=
 match c with
 |⟨fn,n,ao,I,todo,bh,bR,ay,ro⟩=>ai (Gd chain bR) todo ⟨fn,n,ao,bh,ay,ro,cs⟩ (vR todo I) h j
def Dy(ay:Bool)(cs:List g4):Option (D×List g4):=
 bW (ay) ((match cs with
  |c::rest=>(match c with
   |⟨fn,n,ao,I,todo,bh,bR,jS,ro⟩=>(match bR with
    | .panicking (⟨v,false⟩::Dj)=>some (v,⟨fn,n,ao,I,todo,bh, .panicking (⟨v,true⟩::Dj),jS,ro⟩::rest)
    |_=>some (.nilIface,cs)))
  |[]=>none))<|some (.nilIface,cs)
def Al(ai:hP)(eP:d1)(z:List d1)(ca:iK)(I:Q D)(j:Nat):List (D×Q af)->ef
 |[]=>none
 |[(v,h)]=>(match pM eP v with|some hX=>ai .run (hX::z) ca I h j|none=>none)
 |(v,h)::l=>(match pM eP v with
  |some hX=>(match ai .run (hX::z) ca I h j,Al ai eP z ca I j l with
   |some H,some b=>bW (D.same 30 H b) (some H) none
   |_,_=>none)
  |none=>none)
def oY(r:ee)(ai:hP)(C:aK)(eP:d1)(z:List d1)(ca:iK)(I:Q D)(h:Q af)(j:Nat):ef:=
 match r with
 | .val v=>(match pM eP v with|some hX=>ai .run (hX::z) ca I h j|none=>none)
 | .fv v h j=>(match pM eP v with|some hX=>ai .run (hX::z) ca I h j|none=>none)
 | .enter f args=>o3 ai C f args false (Gv eP z ca I) h j
 | .known _ _ v=>(match pM eP v with|some hX=>ai .run (hX::z) ca I h j|none=>none)
 | .round l args=>(match U C h l with
   |some (.loop _ _ fn n ao c4 params assign body _)=>(match yA n params args c4 with
    |some c4=>ai .run [.code assign, .beginRound, .code body] ⟨fn,n,ao,[],false,some l,Gv eP z ca I⟩ c4 h j
    |none=>none)
   |_=>none)
 | .defer d=>(match ca with
   |⟨fn,n,ao,bh,ay,ro,cs⟩=>(match ro with
    |none=>(match pM eP undef with|some hX=>ai .run (hX::z) ⟨fn,n,ao,d::bh,ay,none,cs⟩ I h j|none=>none)
    |some _=>none))
 | .recover=>(match ca with
   |⟨fn,n,ao,bh,ay,ro,cs⟩=>(match ro with
    |none=>(match Dy ay cs with
     |some (v,dc)=>(match pM eP v with|some hX=>ai .run (hX::z) ⟨fn,n,ao,bh,ay,none,dc⟩ I h j|none=>none)
     |none=>none)
    |some _=>none))
 | .panic v=>(match ca with
   |⟨fn,n,ao,bh,ay,ro,cs⟩=>(match ro with
    |none=>ai (.panicking [⟨v,false⟩]) (eP::z) ⟨fn,n,ao,bh,ay,none,cs⟩ (vR (eP::z) I) h j
    |some _=>none))
 | .fork l=>Al ai eP z ca I j l
def W2(op:ke):aK->Q af->Nat->List (Nat×D)->Q D->(D->Q af->Nat->ef)->(ee->ef)->ef:=
 match op with
 | .FS x=>λ_ h j aq I ah _=>Af x aq I λv=>ah v h j
 | .pick c H b=>λ_ h j aq I ah _=>jN (hc (.pick c H b) ⟨default, .nil,0,λ_ _=>none,0⟩ h aq I) λv=>ah v h j
 | .eV H=>λC h j aq I ah _=>Af H aq I λH=>jN (aP C h H) λv=>ah v h j
 | .CY n H=>λC h j aq I ah _=>Af H aq I λH=>jN (cG C h n H) λv=>ah v h j
 | .off d x=>λ_ h j aq I ah _=>Af x aq I λH=>jN (gr d H) λv=>ah v h j
 | .CP n bt x i=>λC h j aq I ah _=>jN (hc (.CP n bt x i) C h aq I) λv=>ah v h j
 | .CQ bt x i=>λC h j aq I ah _=>jN (hc (.CQ bt x i) C h aq I) λv=>ah v h j
 | .FX x=>λ_ h j aq I ah _=>Af x aq I λH=>jN (s5 H) λv=>ah v h j
 | .L4 op x e=>λ_ h j aq I ah _=>Af x aq I λH=>Af e aq I λb=>jN (bn op H b) λv=>ah v h j
 | .ext i x=>λ_ h j aq I ah _=>Af x aq I λH=>jN (n8 i H) λv=>ah v h j
 | .ix b8 W=>λC h j aq I ah _=>jN (hc (.ix b8 W) C h aq I) λv=>ah v h j
 | .make b8 W=>λC h j aq I _ rj=>jN (Qr (.make b8 W) C h j aq I) rj
 | .st n H v=>λC h j aq I _ rj=>jN (ie (.st n H v) C h j aq I) rj
 | .call f args=>λC h j aq I _ rj=>jN (ie (.call f args) C h j aq I) rj
 | .fw b8 W=>λC h j aq I _ rj=>jN (ie (.fw b8 W) C h j aq I) rj
structure gX where
 ai:hP
 ar:Array Oper
 fin:List (Nat×Nat)
 z:List d1
 ca:iK
def ar0(X:gX)(C:aK)(I:Q D)(aq:List (Nat×D))(i:Nat)(rest:List fz)(r:ee)(h:Q af)(j:Nat):ef:=
 match X with|⟨ai,ar,fin,z,ca⟩=>oY r ai C (.ux ar aq i rest fin) z ca I h j
abbrev ST:=gX->aK->Q D->List (Nat×D)->Q af->Nat->ef
def aBg(mT:ST)(X:gX)(C:aK)(I:Q D)(aq:List (Nat×D))(i:Nat)(v:D)(h:Q af)(j:Nat):ef:=mT X C I ((i,v)::aq) h j
def au1(mT:ST)(X:gX)(C:aK)(I:Q D)(aq:List (Nat×D))(i:Nat)(rest:List fz)(h:Q af)(j:Nat)(r:ee):ef:=
 match r with
 | .val v=>mT X C I ((i,v)::aq) h j
 | .fv v h j=>mT X C I ((i,v)::aq) h j
 |r=>ar0 X C I aq i rest r h j
def KE(X:gX)(_:aK)(I:Q D)(aq:List (Nat×D))(h:Q af)(j:Nat):ef:=
 gX.rec (motive:=λ_=>ef) (λai _ fin z ca=>KK fin aq I λI=>ai .run z ca I h j) X
def F7(i:Nat)(g:Option (Nat×Bool))(op:ke)(rest:List fz)(mT:ST)(X:gX)(C:aK)(I:Q D)(aq:List (Nat×D))(h:Q af)(j:Nat):ef:=
 akd g aq (W2 op C h j aq I (aBg mT X C I aq i) (au1 mT X C I aq i rest h j)) (mT X C I ((i,undef)::aq) h j)
def Bd(rest:List fz):ST:=
 List.rec (motive:=λ_=>ST) KE (λx rest mT=>fz.rec (motive:=λ_=>ST) (λi g op=>F7 i g op rest mT) x) rest
def Ae(ai:hP)(C:aK)(ar:Array Oper)(base:Nat)(aq:List (Nat×D))(lS:List xo)(fin:List (Nat×Nat))(z:List d1)(ca:iK)(I:Q D)(h:Q af)(j:Nat):ef:=
 match lS with
 |[]=>none
 |s::rest=>(match xE C base I s.vc aq h with
  |none=>none
  |some (aq,h)=>bW (En C I aq h s.Xe) ((match s.fw with
    |none=>KK fin aq I λI=>ai .run z ca I h j
    |some a=>(match ps a.g aq with
     |none=>none
     |some w=>bW (w) ((match ie a.op C h j aq I with
       |some r=>oY r ai C (.Bn ar base aq a.i rest fin) z ca I h j
       |none=>none))<|ai .run (.drawn ar base ((a.i,undef)::aq) rest fin::z) ca I h j)))<|none)
def yH(fC:List s8):lw:=match fC with|⟨_,true⟩::_=> .returning|_=> .panicking fC
def uD(ai:hP)(ay:Bool)(cs:List g4)(v:D)(h:Q af)(j:Nat):ef:=
 match cs with
 |c::rest=>(match c with
  |⟨fn,n,ao,I,todo,bh,bR,jS,ro⟩=>(match bR with
   | .run=>bW ay none (Xl ai todo ⟨fn,n,ao,bh,jS,ro,rest⟩ v I h j)
   | .returning=>bW ay (ai .returning todo ⟨fn,n,ao,bh,jS,ro,rest⟩ I h j) none
   | .panicking fC=>bW ay (ai (yH fC) todo ⟨fn,n,ao,bh,jS,ro,rest⟩ I h j) none))
 |[]=>bW ay none (some v)
def Wa(jd:Option Code):Bool:=match jd with|none=>true|some .ret=>true|_=>false
def aiQ(jd:Option Code):Bool:=match jd with|none=>true|some .ret=>true|some (.exit _)=>true|_=>false
def pj(jd:Option Code)(ai:hP)(C:aK)(todo:List d1)(ca:iK)(I:Q D)(h:Q af)(j:Nat):ef:=
 match ca with
 |⟨fn,n,ao,bh,ay,ro,cs⟩=>(match ro with
  |none=>bW (Wa jd) (ai .returning todo ⟨fn,n,ao,bh,ay,none,cs⟩ I h j)<|none
  |some l=>(match U C h l with
   |some (.loop _ _ fn n ao I params assign body defers)=>
    bW ((kV C l&&aiQ jd)&& !ay) (jU (bj C h l (some (.loop (bW jd.isNone .ready .done) jd fn n ao I params assign body defers))) λh=>uD ai ay cs (.bool jd.isNone) h j)<|none
   |_=>none))
def yx(C:aK)(h:Q af)(I:Q D):List ResultVar->Option (List D)
 |[]=>some []
 | .tmp t::l=>(match I.get t,yx C h I l with|some v,some r=>some (v::r)|_,_=>none)
 | .cell H t::l=>(match I.get H with
   |some p=>(match mj C h t p,yx C h I l with|some v,some r=>some (v::r)|_,_=>none)
   |none=>none)
def xL(I:Q D)(W:Operand):Option D:=match W with
 | .tmp t=>I.get t
 | .const v=>F4 v
 | .global g=>some (.ptr g 0)
 | .func f=>some (.func (.func f) [] [])
def MQ(f:Operand)(params:Array Nat)(assign body:Code)(ai:hP)(C:aK)(z:List d1)(ca:iK)(I:Q D)(h:Q af)(j:Nat):ef:=
 match xL I f,ca with
 |some (.func (.func g) first fY),⟨fn,n,ao,bh,ay,ro,cs⟩=>
  (
   match ro with
   |none=>rl j λj=>
    o3 ai C g (first++[.func (.yield (j+1)) [] []]++fY) false (⟨fn,n,ao,I, .inRangeFunc (j+1)::z,⟨.collected j,[]⟩::bh, .run,ay,none⟩::cs)
     (bj C (bj C h j (some (.deferred (some [])))) (j+1) (some (.loop .ready none fn n ao I params.toList assign body j))) (j+2)
   |some l=>(match U C h l with
    |some (.loop _ _ _ _ _ _ _ _ _ defers)=>rl j λj=>
     o3 ai C g (first++[.func (.yield j) [] []]++fY) false (⟨fn,n,ao,I, .inRangeFunc j::z,bh, .run,ay,some l⟩::cs)
      (bj C h j (some (.loop .ready none fn n ao I params.toList assign body defers))) (j+1)
    |_=>none))
 |_,_=>none
def B3(id:Nat)(ai:hP)(C:aK)(z:List d1)(ca:iK)(I:Q D)(h:Q af)(j:Nat):ef:=
 match exitTo id z with
 |some eY=>ai .run eY ca I h j
 |none=>pj (some (.exit id)) ai C (.code (.exit id)::z) ca I h j
def Kr(c:Operand)(I:Q D)(H b:ef):ef:=jN (xL I c) λv=>match v with
 | .bool t=>Bool.rec (motive:=λ_=>ef) b H t
 |_=>none
def Xh(n ao:Nat)(ar:Array Oper)(ai:hP)(C:aK)(z:List d1)(ca:iK)(I:Q D)(h:Q af)(j:Nat):ef:=
 jN (Mx C n ar ao) λr=>RW.rec (motive:=λ_=>ef) (λrest fin=>Bd rest ⟨ai,ar,fin,z,ca⟩ C I [] h j) r
def Xg(n ao:Nat)(ar:Array Oper)(ai:hP)(C:aK)(z:List d1)(ca:iK)(I:Q D)(h:Q af)(j:Nat):ef:=
 jN (Mw C n ar ao) λr=>RV.rec (motive:=λ_=>ef) (λlS fin=>rl j λj=>Ae ai C ar j [] lS fin z ca I h (j+ar.size)) r
def ajf(ar:Array Oper)(B0:Bool)(ai:hP)(C:aK)(z:List d1)(ca:iK)(I:Q D)(h:Q af)(j:Nat):ef:=
 iK.rec (motive:=λ_=>ef) (λfn n ao bh ay ro cs=>Bool.rec (motive:=λ_=>ef)
  (Xh n ao ar ai C z ⟨fn,n,ao,bh,ay,ro,cs⟩ I h j) (Xg n ao ar ai C z ⟨fn,n,ao,bh,ay,ro,cs⟩ I h j) B0) ca
abbrev BA:=hP->aK->List d1->iK->Q D->Q af->Nat->ef
def OD:BA:=λai _ z ca I h j=>ai .run z ca I h j
def FY:BA:=λ_ _ _ _ _ _ _=>none
def vN(c:Code):BA:=
 Code.rec (motive:=λ_=>BA) OD
  (λ_ ar d=>ajf ar d)
  (λ_ b mA _ ai C z=>mA ai C (.code b::z))
  (λc _ _ mA hW ai C z ca I h j=>Kr c I (mA ai C z ca I h j) (hW ai C z ca I h j))
  (λid _ hW ai C z=>hW ai C (.inBlock id::z))
  (λb hW ai C z=>hW ai C (.inLoop b::z))
  (λf params assign body _ _=>MQ f params assign body)
  (λid=>B3 id)
  (λb hW ai C z=>hW ai C (.inScope b::z))
  (λ_=>OD)
  (λ_=>FY)
  (λai C z=>pj (some .ret) ai C (.code .ret::z))
  (λ_=>FY) c
def HD(l:Nat):BA:=λai C z ca I h j=>match U C h l with
 |some (.loop state pending hd aN ln c4 params assign body defers)=>
  (
   match state with
   | .busy=>none
   |_=>bW (kV C l) (jU (bj C h l (some (.loop .exhausted pending hd aN ln c4 params assign body defers))) λh=>ai .run ((pending.map d1.code).toList++z) ca I h j)<|none)
 |_=>none
def Ki:BA:=λai C z ca I h j=>match ca with
 |⟨fn,n,ao,bh,ay,ro,cs⟩=>match ro with
  |some l=>(match U C h l with
   |some (.loop .ready pending hd aN ln c4 params assign body defers)=>
    bW (kV C l) (jU (bj C h l (some (.loop .busy pending hd aN ln c4 params assign body defers))) λh=>ai .run z ⟨fn,n,ao,bh,ay,some l,cs⟩ I h j)<|none
   |_=>none)
  |none=>none
def ahi(eP:d1):BA:=
 d1.rec (motive:=λ_=>BA) (λc=>vN c) (λ_=>OD) (λb ai C z=>vN b ai C (.inLoop b::z)) (λ_=>OD)
  (λar aq rest fin ai C z ca I h j=>Bd rest ⟨ai,ar,fin,z,ca⟩ C I aq h j)
  (λar base aq lS fin ai C z ca I h j=>Ae ai C ar base aq lS fin z ca I h j)
  (λ_ _ _ _ _=>FY) (λ_ _ _ _ _ _=>FY) (λ_=>FY) (λl=>HD l) Ki eP
def ajD(todo:List d1)(ai:hP)(C:aK)(ca:iK)(I:Q D)(h:Q af)(j:Nat):ef:=
 List.rec (motive:=λ_=>ef) (pj none ai C [] ca I h j) (λeP z _=>ahi eP ai C z ca I h j) todo
def yD(d:h3)(ds:List h3)(bR:lw)(todo:List d1)(ai:hP)(C:aK)(ca:iK)(I:Q D)(h:Q af)(j:Nat):ef:=
 match ca with
 |⟨fn,n,ao,_,ay,ro,cs⟩=>(match d with
  |⟨.collected r,_⟩=>(match U C h r with
   |some (.deferred (some qu))=>bW (kV C r) (jU (bj C h r (some (.deferred none))) λh=>ai bR todo ⟨fn,n,ao,qu++ds,ay,ro,cs⟩ I h j)<|none
   |_=>none)
  |⟨.fn f fY,args⟩=>(match BM C f fY args with
   |some (.enter f cu)=>o3 ai C f cu true (⟨fn,n,ao,I,todo,ds,bR,ay,ro⟩::cs) h j
   |_=>none))
def one(br:List D):D:=match br with|[v]=>v|br=> .tuple br
def M2(todo:List d1)(ai:hP)(C:aK)(ca:iK)(I:Q D)(h:Q af)(j:Nat):ef:=
 match ca with
 |⟨fn,n,ao,bh,ay,ro,cs⟩=>match bh with
  |d::ds=>yD d ds .returning todo ai C ⟨fn,n,ao,[],ay,ro,cs⟩ I h j
  |[]=>(match C.P.funcs[fn]? with
   |some f=>(match yx C h I f.results.toList with
    |some br=>uD ai ay cs (one br) h j
    |none=>none)
   |none=>none)
def M1(chain:List s8)(todo:List d1)(ai:hP)(C:aK)(ca:iK)(I:Q D)(h:Q af)(j:Nat):ef:=
 match ca with
 |⟨fn,n,ao,bh,ay,ro,cs⟩=>match bh with
  |d::ds=>yD d ds (.panicking chain) todo ai C ⟨fn,n,ao,[],ay,ro,cs⟩ I h j
  |[]=>(match cs with
   |c::rest=>ajc ai c rest chain h j
   |[]=>none)
def XH(ai:hP)(C:aK)(bR:lw)(todo:List d1)(ca:iK)(I:Q D)(h:Q af)(j:Nat):ef:=
 lw.rec (motive:=λ_=>ef) (ajD todo ai C ca I h j) (M2 todo ai C ca I h j) (λfC=>M1 fC todo ai C ca I h j) bR
def run(C:aK)(n:Nat):hP:=
 Nat.rec (motive:=λ_=>hP) (λ_ _ _ _ _ _=>none) (λ_ ai bR todo ca I h j=>XH ai C bR todo ca I h j) n
def Bb(C:aK)(n:Nat)(f:Nat)(args:List D):ef:=o3 (run C n) C f args false [] .nil C.a2
end
section
variable{C:aK}{T de:db}{ad dG:Nat->Prop}{h S':Q af}{j an bo:Nat}{w b1:World}
def afr(Y:dn C T ad h j bo w)(ey:bo<=w.heap.size)(kN:yV C.P){oper:Oper}{av:Operand->Value}{ep:List (Nat×Nat)}{aq:List (Nat×D)}{I:Q D}{c:ke}{res:ee}
 (cC:jP T ad av (jE ep aq I) oper.op.operands.toList)(ax:mn C ep oper.op=some c)(a:ie c C h j aq I=some res):iX C T ad h j bo w (execOp av oper) res:=by
 have rest:∀W,oper.op=W->c= .fw ep W->iX C T ad h j bo w (execOp av oper) res:=by
  intro W bf ER
  subst ER;subst bf
  exact apf Y ey kN cC a
 have A3:∀W,c= .ix ep W->iX C T ad h j bo w (execOp av oper) res:=by intro W E;subst E;simp[ie]at a
 have aiu:∀W,c= .make ep W->iX C T ad h j bo w (execOp av oper) res:=by intro W E;subst E;simp[ie]at a
 obtain⟨dst,op,type,pos,after,guard⟩:=oper
 cases op<;>simp only[mn]at ax<;>simp only[Op.operands]at cC
 case store t H x=>
  split at ax
  ·rename_i fL jh s az ae aD
   simp at ax;subst ax
   simp only[ie,oi az,oi ae]at a
   split at a
   ·rename_i ac bg
    split at a
    ·rename_i v bB
     obtain⟨bz,bI⟩:=cC H Zs ac bg
     obtain⟨cF,bN⟩:=cC x Zs v bB
     obtain⟨S',rfl,aF⟩:=aDd Y aD bI bN a
     simp only[execOp,bz,cF]
     exact aF _ (λb1 t2=>by simp[t2])
    ·simp at a
   ·simp at a
  ·simp at ax
 case call tu=>
  obtain⟨callee,args,di⟩:=tu
  cases callee with
  |builtin b=>
   cases b<;>simp[mn]at ax<;>first
    |exact rest _ rfl ax.symm
    |exact A3 _ ax.symm
  |value f=>
   cases f with
   |func g=>
    simp only at ax
    split at ax
    ·rename_i cu has
     simp at ax;subst ax
     simp only[ie]at a
     split at a
     ·rename_i br L2
      simp only[Call.operands]at cC
      obtain⟨eo,cR⟩:=ar4 aq I has L2
      have axm:jP T ad av (jE ep aq I) args.toList:=cC.mono (by simp;intro x ae;exact .inr ae)
      obtain⟨fu,gj⟩:=ah8 axm eo cR
      obtain⟨eR,_⟩:=cC (.func g) Zs (.func (.func g) [] []) rfl
      refine(SP (T:=T) (h:=h) (j:=j) (bo:=bo) (w:=w) kN gj a).congr ?_
      have E:args.map av=(b4 T br).toArray:=by apply Y1;simp[fu]
      simp[execOp,resolve,eR,aQ,nK,b4,Deferred.ofValue,invoke,E]
     ·simp at a
    ·simp at ax
   |tmp t=>simp at ax;exact rest _ rfl ax.symm
   |const v=>simp at ax;exact rest _ rfl ax.symm
   |global g=>simp at ax;exact rest _ rfl ax.symm
  |invoke r m=>simp[mn]at ax;exact rest _ rfl ax.symm
 case convert s d x=>
  rw[fN]at ax
  split at ax
  ·simp at ax;exact rest _ rfl ax.symm
  ·simp at ax;exact A3 _ ax.symm
 case makeMap t r=>cases r<;>simp[mn]at ax<;>first|exact rest _ rfl ax.symm|exact aiu _ ax.symm
 case binOp op t x e JI=>
  rw[fN]at ax
  split at ax
  ·split at ax
   ·simp at ax;subst ax;simp[ie]at a
   ·simp at ax
  ·simp at ax;exact A3 _ ax.symm
 case fieldAddr s x f=>
  split at ax
  ·rw[qT]at ax
   split at ax
   ·split at ax
    ·simp only[Hw,Zf]at ax
     obtain⟨_,rfl⟩:=ax
     simp[ie]at a
    ·simp at ax
   ·simp at ax
  ·simp at ax
 case indexAddr t x i=>
  split at ax
  ·split at ax
   ·simp at ax;subst ax;simp[ie]at a
   ·simp at ax
  ·split at ax
   ·simp at ax;subst ax;simp[ie]at a
   ·simp at ax
  ·simp at ax
 all_goals first
  |(simp at ax;first|exact rest _ rfl ax.symm|exact A3 _ ax.symm|exact aiu _ ax.symm)
  |(split at ax<;>first
    |(simp at ax;subst ax;simp[ie]at a;done)
    |(simp at ax;done))
def Qs{oper:Oper}{ep:List (Nat×Nat)}{c:ke}(ax:mn C ep oper.op=some c){b:Nat}{aq:List (Nat×D)}{I:Q D}{r:D×af}(a:o5 c C b aq I=some r):q9 oper.op C (jE ep aq I) b=some r:=by
 have rest:∀W,oper.op=W->c= .make ep W->q9 oper.op C (jE ep aq I) b=some r:=by
  intro W bf ER
  subst ER;subst bf
  exact a
 have A3:∀W,c= .ix ep W->q9 oper.op C (jE ep aq I) b=some r:=by intro W E;subst E;simp[o5]at a
 have Dc:∀W,c= .fw ep W->q9 oper.op C (jE ep aq I) b=some r:=by intro W E;subst E;simp[o5]at a
 obtain⟨dst,op,type,pos,after,guard⟩:=oper
 cases op<;>simp only[mn]at ax
 case call tu=>
  obtain⟨callee,args,di⟩:=tu
  cases callee with
  |builtin b=>cases b<;>simp[mn]at ax<;>first|exact Dc _ ax.symm|exact A3 _ ax.symm
  |value f=>
   cases f with
   |func g=>
    simp[mn]at ax
    split at ax
    ·simp at ax;subst ax;simp[o5]at a
    ·simp at ax
   |tmp t=>simp[mn]at ax;exact Dc _ ax.symm
   |const v=>simp[mn]at ax;exact Dc _ ax.symm
   |global g=>simp[mn]at ax;exact Dc _ ax.symm
  |invoke r m=>simp[mn]at ax;exact Dc _ ax.symm
 case convert s d x=>
  rw[fN]at ax
  split at ax
  ·simp at ax;exact Dc _ ax.symm
  ·simp at ax;exact A3 _ ax.symm
 case makeMap t r=>cases r<;>simp[mn]at ax<;>first|exact rest _ rfl ax.symm|exact Dc _ ax.symm
 case binOp op t x e JI=>
  rw[fN]at ax
  split at ax
  ·split at ax
   ·simp at ax;subst ax;simp[o5]at a
   ·simp at ax
  ·simp at ax;exact A3 _ ax.symm
 case fieldAddr s x f=>
  split at ax
  ·rw[qT]at ax
   split at ax
   ·split at ax
    ·simp only[Hw,Zf]at ax
     obtain⟨_,rfl⟩:=ax
     simp[o5]at a
    ·simp at ax
   ·simp at ax
  ·simp at ax
 case indexAddr t x i=>
  split at ax
  ·split at ax
   ·simp at ax;subst ax;simp[o5]at a
   ·simp at ax
  ·split at ax
   ·simp at ax;subst ax;simp[o5]at a
   ·simp at ax
  ·simp at ax
 all_goals first
  |(simp at ax;first|exact rest _ rfl ax.symm|exact A3 _ ax.symm|exact Dc _ ax.symm)
  |(split at ax<;>first
    |(simp at ax;subst ax;simp[o5]at a;done)
    |(simp at ax;done))
def pm{α:Type}(W:Option α)(z:α->ef):jN W z=match W with|some H=>z H|none=>none:=by cases W<;>rfl
def acz(l:List (Nat×D))(S:Nat)(z:D->ef):Kg l S z=jN (ev l S) z:=by
 induction l with
 |nil=>rfl
 |cons p l ai=>
  obtain⟨H,b⟩:=p
  show(Bool.rec (motive:=λ_=>ef) (Kg l S z) (z b) (Nat.beq H S))=jN (bW (Nat.beq H S) (some b) (ev l S)) z
  rw[ai]
  cases Nat.beq H S<;>rfl
def atb(t:Q D):∀(i:Nat) (z:D->ef),OB t i z=jN (t.get i) z:=by
 induction t with
 |nil=>intro i z;rfl
 |node v l r mT IJ=>
  intro i z
  cases i with
  |zero=>cases v<;>rfl
  |succ S=>
   show(Bool.rec (motive:=λ_=>ef) (OB r (Nat.div S 2) z) (OB l (Nat.div S 2) z) (Nat.beq (Nat.mod S 2) 0))=jN (bW (Nat.beq (Nat.mod S 2) 0) (l.get (Nat.div S 2)) (r.get (Nat.div S 2))) z
   rw[mT,IJ]
   cases Nat.beq (Nat.mod S 2) 0<;>rfl
def ar1(x:kT)(aq:List (Nat×D))(I:Q D)(z:D->ef):Af x aq I z=jN (lF x aq I) z:=by
 cases x with
 |v S=>exact acz aq S z
 |t n=>exact atb I n z
 |c H=>rfl
def Ot:∀(l:List (Nat×Nat)) (aq:List (Nat×D)) (I:Q D) (z:Q D->ef),KK l aq I z=jN (Ai aq l I) z:=by
 intro l
 induction l with
 |nil=>intro aq I z;rfl
 |cons p l ai=>
  intro aq I z
  obtain⟨i,d⟩:=p
  show Kg aq i (λv=>jU (Q.set I d (some v)) λI=>KK l aq I z)=_
  rw[acz]
  simp only[Ai]
  cases ev aq i with
  |none=>rfl
  |some v=>simp only[hE];exact ai _ _ _
def Ru(g:Option (Nat×Bool))(aq:List (Nat×D))(H b:ef):akd g aq H b=jN (ps g aq) λw=>if w=true then H else b:=by
 cases g with
 |none=>simp[pm,ps];rfl
 |some p=>
  show jN (ps (some p) aq) (λw=>Bool.rec (motive:=λ_=>ef) b H w)=_
  congr 1
  funext w
  cases w<;>rfl
def QN(op:ke)(h:Q af)(j:Nat)(aq:List (Nat×D))(I:Q D)(ah:D->Q af->Nat->ef)(rj:ee->ef):
 W2 op C h j aq I ah rj=match np op with
  | .ix=>jN (hc op C h aq I) λv=>ah v h j
  | .make=>jN (Qr op C h j aq I) rj
  | .fw=>jN (ie op C h j aq I) rj:=by
 cases op<;>simp only[W2,np,ar1,hc,pm]<;>(try rfl)
 all_goals(split<;>first|rfl|(split<;>simp_all))
end
def w9:List Oper->Nat->List (Nat×Nat)->List (Nat×Nat)
 |[],_,ep=>ep
 |W::l,i,ep=>w9 l (i+1) (y0 W i ep)
def iJ(ar:Array Oper)(i:Nat):List (Nat×Nat):=w9 (ar.toList.take i) 0 []
def aEj(H:List Oper):∀(b:List Oper) (i:Nat) (ep:List (Nat×Nat)),w9 (H++b) i ep=w9 b (i+H.length) (w9 H i ep):=by
 induction H with
 |nil=>intro b i ep;rfl
 |cons W H ai=>
  intro b i ep
  simp only[YP,w9,ai,ZF]
  congr 1;omega
def Nl{ar:Array Oper}{i:Nat}{W:Oper}(a:ar[i]? =some W):iJ ar (i+1)=y0 W i (iJ ar i):=by
 have aC:ar.toList[i]? =some W:=by rw[ZO];exact a
 have cZ:i<ar.toList.length:=(Zc.1 aC).1
 unfold iJ
 rw[ZQ,aC,aEj]
 have:(ar.toList.take i).length=i:=by simp at cZ ⊢;omega
 rw[this]
 simp[w9]
def Nn(ar:Array Oper):iJ ar 0=[]:=rfl
def tw(ar:Array Oper)(S:Nat):Option Nat:=(ar[S]?).bind (·.dst)
def Kz{ar:Array Oper}{i:Nat}{W:Oper}(a:ar[i]? =some W):tw ar i=W.dst:=by simp[tw,a]
def apx{W:Oper}{i S:Nat}{ep:List (Nat×Nat)}:xH S (y0 W i ep)=if i=S/\W.dst.isSome then W.dst else xH S ep:=by
 unfold y0
 split
 ·rename_i d aF
  simp only[xH,h4,aF]
  by_cases E:i=S<;>simp[E]
 ·rename_i aF
  simp[aF]
def Hh{W:Oper}{i t:Nat}{ep:List (Nat×Nat)}:ev (y0 W i ep) t=if W.dst=some t then some i else ev ep t:=by
 unfold y0
 split
 ·rename_i d aF
  rw[sm,aF]
  by_cases E:d=t<;>simp[E]
 ·rename_i aF
  simp[aF]
def No(ar:Array Oper):∀i,i<=ar.size->(∀S t,xH S (iJ ar i)=some t->tw ar S=some t)/\
 (∀t S,ev (iJ ar i) t=some S->S<i/\tw ar S=some t/\∀z,S<z->z<i->tw ar z≠some t)/\(∀t,ev (iJ ar i) t=none->∀z,z<i->tw ar z≠some t):=by
 intro i
 induction i with
 |zero=>intro _;rw[Nn];exact⟨λS t a=>by simp[xH]at a,λt S a=>by simp at a,λt _ z aJ=>Zo⟩
 |succ i ai=>
  intro aG
  obtain⟨M,R,ak⟩:=ai Zo
  have bf:ar[i]? =some ar[i]:=Array.getElem?_eq_getElem Zo
  rw[Nl bf]
  have aF:=Kz bf
  refine⟨λS t a=> ?_,λt S a=> ?_,λt a z aJ=> ?_⟩
  ·rw[apx]at a
   split at a
   ·rename_i E;rw[<-E.1,aF];exact a
   ·exact M S t a
  ·rw[Hh]at a
   split at a
   ·rename_i E
    cases a
    exact⟨Zo,by rw[aF];exact E,λz lK iu=>Zo⟩
   ·rename_i E
    obtain⟨bQ,ct,c1⟩:=R t S a
    refine⟨Zo,ct,λz lK iu=> ?_⟩
    by_cases aj:z=i
    ·subst aj;rw[aF];exact E
    ·exact c1 z lK Zo
  ·rw[Hh]at a
   split at a
   ·cases a
   ·rename_i E
    by_cases aj:z=i
    ·subst aj;rw[aF];exact E
    ·exact ak t a z Zo
section
variable{C:aK}{T de:db}{ad dG:Nat->Prop}{h S':Q af}{j an bo:Nat}{w b1:World}
def lv(tmps:Array Value):Operand->Value
 | .tmp t=>tmps.getD t Go.undef
 | .const v=>v
 | .global g=> .pointer (some ⟨g,0,none⟩)
 | .func f=> .func (.func f) #[] #[]
def KH(fr:Frame):fr.eval=lv fr.tmps:=by funext x;cases x<;>rfl
def pB(T:db)(ad:Nat->Prop)(ao:Nat)(X:Nat->Prop)(ep:List (Nat×Nat))(aq:List (Nat×D))(I:Q D)(tmps:Array Value):Prop:=
 ∀t v,X t->(match ev ep t with|some S=>ev aq S=some v|none=>fG ao t=true/\I.get t=some v)->tmps[t]? =some (aQ T v)/\cm ad v
def th(C:aK)(T:db)(ad:Nat->Prop):Prop:=∀g,g<C.jM->ad g/\(T g).cL=g/\(T g).ei=0
def aAg{ao:Nat}{ep:List (Nat×Nat)}:∀{l:List Operand},F6 C ao ep l=true->∀x∈l,A5 C ao ep x=true:=by
 intro l
 induction l with
 |nil=>intro _ x a;simp at a
 |cons H l ai=>
  intro a x ae
  simp only[F6,Zp]at a
  rcases Zt.1 ae with rfl|ae
  ·exact a.1
  ·exact ai a.2 x ae
def adH{ao:Nat}{X:Nat->Prop}{ep:List (Nat×Nat)}{aq:List (Nat×D)}{I:Q D}{tmps:Array Value}(bB:pB T ad ao X ep aq I tmps){l:List Operand}(bV:∀t,Operand.tmp t∈l->X t)(bf:F6 C ao ep l=true)
 (d6:th C T ad):jP T ad (lv tmps) (jE ep aq I) l:=by
 intro x ae v a
 have fs:=aAg bf x ae
 cases x with
 |tmp t=>
  have:=bB t v (bV t ae) (by
   simp only[jE]at a
   simp only[A5]at fs
   split at a
   ·rename_i S bE;rw[bE];exact a
   ·rename_i bE;rw[bE]at fs ⊢;exact⟨fs,a⟩)
  exact⟨by simp[lv,this.1],this.2⟩
 |const c=>exact QF a
 |global g=>
  simp[jE]at a;subst a
  simp only[A5]at fs
  obtain⟨bI,bN,cH⟩:=d6 g (l1 fs)
  exact⟨by simp[lv,aQ,bN,cH],bI⟩
 |func f=>
  simp[jE]at a;subst a
  exact⟨by simp[lv,aQ,nK,b4],trivial,trivial,trivial⟩
end
def BQ(m i:Nat):fG m i=m.testBit i:=by
 unfold fG
 rw[Nat.testBit_eq_decide_div_mod_eq,Ya,Zg]
 exact⟨Zn,λa=>by rw[show Nat.mod (Nat.div m (Nat.pow 2 i)) 2=1 from a];rfl⟩
def NU(i:Nat):fG 0 i=false:=by rw[BQ];simp
def Hn(H b i:Nat):fG (Nat.lor H b) i=(fG H i||fG b i):=by
 rw[BQ,BQ,BQ];exact Nat.testBit_or H b i
def NT(t i:Nat):fG (Nat.pow 2 t) i=decide (t=i):=by
 rw[BQ];exact Nat.testBit_two_pow
def ap6(H b i:Nat):fG (Nat.land H b) i=(fG H i&&fG b i):=by
 rw[BQ,BQ,BQ];exact Nat.testBit_and H b i
def aAr{W:Operand}{m t:Nat}:fG (Jd W m) t=true↔W= .tmp t\/fG m t=true:=by
 cases W with
 |tmp ac=>
  show fG (Nat.lor m (Nat.pow 2 ac)) t=true↔_
  rw[Hn,NT]
  simp[or_comm]
 |_=>simp[Jd]
def aAt{t:Nat}:∀{l:List Operand},fG (Je l) t=true↔Operand.tmp t∈l:=by
 intro l
 induction l with
 |nil=>simp[Je,NU]
 |cons H l ai=>
  show fG (Jd H (Je l)) t=true↔_
  rw[aAr,ai]
  simp[eq_comm]
def ark{W:Oper}{t:Nat}:fG (Ky W) t=true↔W.dst=some t:=by
 unfold Ky
 cases W.dst with
 |none=>simp[NU]
 |some d=>
  show fG (Nat.pow 2 d) t=true↔_
  rw[NT]
  simp
structure NA(C:aK)(n ao:Nat)(ar:Array Oper)(x:fz)(W:Oper):Prop where
 oper:ar[x.i]? =some W
 g:Km (iJ ar x.i) W.guard=some x.g
 op:mn C (iJ ar x.i) W.op=some x.op
 dst:∀d,W.dst=some d->d<n
 reads:F6 C ao (iJ ar x.i) W.op.operands.toList=true
def SM{C:aK}{n ao i:Nat}{W:Oper}{l:List Oper}{ep:List (Nat×Nat)}{cs:List fz}(a:tt C n ao (W::l) i ep=some cs):
 ∃g op r,Km ep W.guard=some g/\mn C ep W.op=some op/\Oe n W=true/\F6 C ao ep W.op.operands.toList=true/\tt C n ao l (i+1) (y0 W i ep)=some r/\cs=⟨i,g,op⟩::r:=by
 simp only[tt,mM]at a
 split at a
 ·rename_i g op b2 E7
  simp only[e7,Zp]at a
  obtain⟨⟨M,R⟩,a⟩:=a
  split at a
  ·rename_i r Y
   simp at a
   exact⟨g,op,r,b2,E7,M,R,Y,a.symm⟩
  ·simp at a
 ·simp at a
def adq{n:Nat}{W:Oper}(a:Oe n W=true):∀d,W.dst=some d->d<n:=by
 intro d aF
 unfold Oe at a
 rw[aF]at a
 exact l1 a
def Tf{ar:Array Oper}{i:Nat}{W:Oper}{l:List Oper}(a:ar.toList.drop i=W::l):ar[i]? =some W/\ar.toList.drop (i+1)=l/\i<ar.size:=by
 have M:(ar.toList.drop i)[0]? =some W:=by rw[a];rfl
 rw[YH,ZO]at M
 refine⟨by simpa using M, ?_, ?_⟩
 ·have:(ar.toList.drop i).drop 1=l:=by rw[a];rfl
  rw[zl]at this
  exact this
 ·exact(ZM.1 (by simpa using M)).1
def aqm{C:aK}{n ao:Nat}{ar:Array Oper}:∀(l:List Oper) (i:Nat) (cs:List fz),ar.toList.drop i=l->tt C n ao l i (iJ ar i)=some cs->
 cs.length=l.length/\∀S x,cs[S]? =some x->x.i=i+S/\∃W,NA C n ao ar x W:=by
 intro l
 induction l with
 |nil=>intro i cs _ a;simp[tt]at a;subst a;simp
 |cons W l ai=>
  intro i cs aF a
  obtain⟨g,op,r,M,R,ak,aA,bv,rfl⟩:=SM a
  obtain⟨cT,cy,e1⟩:=Tf aF
  rw[<-Nl cT]at bv
  obtain⟨bQ,ct⟩:=ai (i+1) r cy bv
  refine⟨by simp[bQ],λS x ae=> ?_⟩
  cases S with
  |zero=>simp at ae;subst ae;exact⟨rfl,W,cT,M,R,adq ak,aA⟩
  |succ S=>
   simp at ae
   obtain⟨E,bC⟩:=ct S x ae
   exact⟨Zo,bC⟩
def aru{iT:List (Nat×Nat)}:∀(l:List Edge) (H:Nat),fG (l.foldr (Er iT) 0) H=true->∃E∈l,Region.binds .any E=true/\(H=E.on\/∃gN,ev iT E.on=some gN/\fG gN H=true):=by
 intro l
 induction l with
 |nil=>intro H a;simp[NU]at a
 |cons E l ai=>
  intro H a
  simp only[List.foldr_cons]at a
  have qU:fG (l.foldr (Er iT) 0) H=true->∃iM∈E::l,Region.binds .any iM=true/\(H=iM.on\/∃gN,ev iT iM.on=some gN/\fG gN H=true):=λa=>by
   obtain⟨iM,M,R⟩:=ai H a
   exact⟨iM,Zw _ M,R⟩
  unfold Er at a
  rw[fN]at a
  split at a
  ·exact qU a
  ·rw[fN]at a
   split at a
   ·rename_i ag
    split at a
    ·rename_i z aJ
     rw[Hn,Hn,NT]at a
     simp only[Y4,Zg]at a
     rcases a with (a|a)|a
     ·exact qU a
     ·exact⟨E,Zv ..,ag, .inr ⟨z,aJ,a⟩⟩
     ·exact⟨E,Zv ..,ag, .inl a.symm⟩
    ·exact qU a
   ·exact qU a
structure G6(ar:Array Oper)(p:gI)(W:Oper):Prop where
 oper:ar[p.i]? =some W
 r:p.r=Nat.lor (Je W.op.operands.toList) (OK (iJ ar p.i) W.guard)
 w:p.w=Ky W
def aic{ar:Array Oper}:∀(l:List Oper) (i:Nat) (iT:List (Nat×Nat)),ar.toList.drop i=l->(∀S m,ev iT S=some m->S<i)->
 (Da l i (iJ ar i) iT).length=l.length/\(∀S p,(Da l i (iJ ar i) iT)[S]? =some p->p.i=i+S/\∃W,G6 ar p W)/\
 ∀(bu:Nat->Nat->Prop),(∀S m,ev iT S=some m->bu S m)->(∀S W m,ar[S]? =some W->i<=S->(∀H,fG m H=true->∃E∈W.after.toList,Region.binds .any E=true/\(H=E.on\/∃gN,bu E.on gN/\fG gN H=true))->bu S m)->
  ∀p∈Da l i (iJ ar i) iT,bu p.i p.m:=by
 intro l
 induction l with
 |nil=>intro i iT _ _;simp[Da]
 |cons W l ai=>
  intro i iT aF sF
  obtain⟨cT,cy,e1⟩:=Tf aF
  simp only[Da,mM]
  rw[<-Nl cT]
  have avP:∀S m,ev ((i,W.after.toList.foldr (Er iT) 0)::iT) S=some m->S<i+1:=by
   intro S m a
   rw[sm]at a
   split at a
   ·omega
   ·have:=sF S m a;omega
  obtain⟨bQ,ct,c1⟩:=ai (i+1) ((i,W.after.toList.foldr (Er iT) 0)::iT) cy avP
  refine⟨by simp only[ZF,bQ],λS p aw=> ?_,λbu gE qM p aw=> ?_⟩
  ·cases S with
   |zero=>simp only[Yd,Zf]at aw;subst aw;exact⟨rfl,W,cT,rfl,rfl⟩
   |succ S=>
    simp only[Z3]at aw
    obtain⟨E,bC⟩:=ct S p aw
    exact⟨Zo,bC⟩
  ·have aG:bu i (W.after.toList.foldr (Er iT) 0):=by
    refine qM i W _ cT (Zj _) λH az=> ?_
    obtain⟨E,M,R,ak⟩:=aru _ H az
    refine⟨E,M,R,ak.imp id ?_⟩
    rintro⟨gN,aA,bv⟩
    exact⟨gN,gE _ _ aA,bv⟩
   rcases Zt.1 aw with rfl|aw
   ·exact aG
   ·refine c1 bu (λS m a=> ?_) (λS W m M R ak=>qM S W m M Zo ak) p aw
    rw[sm]at a
    split at a
    ·rename_i E;subst E;cases a;exact aG
    ·exact gE S m a
def aAh{H:gI}:∀{l:List gI},QL H l=true->∀b∈l,QJ H b=true:=by
 intro l
 induction l with
 |nil=>intro _ b a;simp at a
 |cons c l ai=>
  intro a b ag
  simp only[QL,Zp]at a
  rcases Zt.1 ag with rfl|ag
  ·exact a.1
  ·exact ai a.2 b ag
def aAf:∀{l:List gI},MG l=true->∀(S i:Nat) H b,S<i->l[S]? =some H->l[i]? =some b->QJ H b=true:=by
 intro l
 induction l with
 |nil=>intro _ S i H b _ a;simp at a
 |cons c l ai=>
  intro a S i H b afP az ag
  simp only[MG,Zp]at a
  obtain⟨i,rfl⟩:∃z,i=z+1:=⟨i-1,Zo⟩
  simp at ag
  cases S with
  |zero=>simp at az;subst az;exact aAh a.1 b (Zl ag)
  |succ S=>simp at az;exact ai a.2 S i H b Zo az ag
def aAc:∀{l:List Oper}{i:Nat},F5 l i=true->∀S W,l[S]? =some W->∀E∈W.after.toList,Region.binds .any E=true->E.on<i+S:=by
 intro l
 induction l with
 |nil=>intro i _ S W a;simp at a
 |cons H l ai=>
  intro i a S W bf E bC ag
  simp only[F5,Zp]at a
  cases S with
  |zero=>
   simp at bf;subst bf
   have:=Yw.1 a.1 E bC
   simp only[ag,Yq,Bool.false_or]at this
   have:=l1 this
   omega
  |succ S=>
   simp at bf
   have:=ai a.2 S W bf E bC ag
   omega
def au0:∀{l:List gI},Lm l=true->∀(p:Nat) H b,l[p]? =some H->l[p+1]? =some b->fG b.m H.i=true:=by
 intro l
 induction l with
 |nil=>intro _ p H b a;simp at a
 |cons c l ai=>
  intro a p H b az ag
  simp only[Lm,Zp]at a
  cases p with
  |zero=>
   simp at az ag;subst az
   cases l with
   |nil=>simp at ag
   |cons d l=>simp at ag;subst ag;exact a.1
  |succ p=>simp at az ag;exact ai a.2 p H b az (by simpa using ag)
def auZ:∀(dq:List gI) (cs:List fz),Ic dq cs=(dq.zip cs).filter λx=>oA x.2.op:=by
 intro dq
 induction dq with
 |nil=>intro cs;rfl
 |cons p dq ai=>
  intro cs
  cases cs with
  |nil=>rfl
  |cons c cs=>
   simp only[Ic,List.zip_cons_cons,List.filter_cons,fN,ai]
def ayU(aD:List gI):∀(dq:List gI) (cs:List fz),IW aD dq cs=((dq.zip cs).filter λx=> !oA x.2.op).map λx=>⟨x.2,vO x.1.m aD,Cr x.1.i aD⟩:=by
 intro dq
 induction dq with
 |nil=>intro cs;rfl
 |cons p dq ai=>
  intro cs
  cases cs with
  |nil=>rfl
  |cons c cs=>
   simp only[IW,List.zip_cons_cons,List.filter_cons,fN,ai]
   cases oA c.op<;>simp
def Oz:∀l:List (gI×fz),rm l=l.map (·.1):=by
 intro l
 induction l with
 |nil=>rfl
 |cons H l ai=>simp[rm,ai]
def aqS(m:Nat):∀(aD:List gI) (z:Nat),(∀p a,aD[p]? =some a->z<=p->fG m a.i=false)->vO m aD<=z:=by
 intro aD
 induction aD with
 |nil=>intro z _;simp[vO]
 |cons a aD ai=>
  intro z aJ
  simp only[vO,fN]
  cases z with
  |zero=>
   have:=aJ 0 a rfl (Zj _)
   rw[this]
   have:=ai 0 (λp cz aw _=>aJ (p+1) cz (by simpa using aw) Zo)
   simpa using this
  |succ z=>
   have:=ai z (λp cz aw gn=>aJ (p+1) cz (by simpa using aw) Zo)
   split<;>omega
def avn(i:Nat):∀(aD:List gI) (z:Nat),z<=aD.length->(∀p a,aD[p]? =some a->p<z->fG a.m i=false)->z<=Cr i aD:=by
 intro aD
 induction aD with
 |nil=>intro z aJ _;simp at aJ;omega
 |cons a aD ai=>
  intro z Cs aJ
  cases z with
  |zero=>omega
  |succ z=>
   have aX:=aJ 0 a rfl Zo
   simp only[Cr,aX,lD]
   have:=ai z (by simpa using Cs) (λp cz aw cZ=>aJ (p+1) cz (by simpa using aw) Zo)
   omega
def qX(tmps:Array Value)(dst:Option Nat)(v:Value):Array Value:=match dst with|some d=>tmps.setIfInBounds d v|none=>tmps
def QX(tmps:Array Value)(dst:Option Nat)(v:Value):(qX tmps dst v).size=tmps.size:=by cases dst<;>simp[qX]
def ai4(tmps:Array Value)(dst:Option Nat)(v:Value)(t:Nat)(a:∀d,dst=some d->d<tmps.size):(qX tmps dst v)[t]? =if dst=some t then some v else tmps[t]? :=by
 cases dst with
 |none=>simp[qX]
 |some d=>
  have:=a d rfl
  simp only[qX,Zf,Array.getElem?_setIfInBounds]
  by_cases E:d=t
  ·subst E;simp[this]
  ·simp[E]
def Sub(aq hQ:List (Nat×D)):Prop:=∀S ac,ev aq S=some ac->ev hQ S=some ac
def Sub.refl(aq:List (Nat×D)):Sub aq aq:=λ_ _ a=>a
def Sub.trans{H b c:List (Nat×D)}(a:Sub H b)(z:Sub b c):Sub H c:=λS ac bE=>z S ac (a S ac bE)
def Sub.cons{aq:List (Nat×D)}{i:Nat}{v:D}(a:ev aq i=none):Sub aq ((i,v)::aq):=λS ac bE=>by
 rw[sm,Zh]
 ·exact bE
 ·intro E;subst E;rw[a]at bE;cases bE
def qp(C:aK)(h S':Q af):Prop:=∀x,U C h x=U C S' x\/U C h x=none
inductive xm(ar:Array Oper):(Nat->Prop)->List Nat->Prop
 |nil {dm}:(∀i,i<ar.size->dm i)->xm ar dm []
 |cons {dm i W l}:ar[i]? =some W->¬dm i->(∀E∈W.after.toList,Region.binds .any E=true->dm E.on)->xm ar (add dm i) l->xm ar dm (i::l)
noncomputable def xF(C:aK)(n ao:Nat)(ar:Array Oper):List fz:=(tt C n ao ar.toList 0 []).getD []
noncomputable def pI(ar:Array Oper):List gI:=Da ar.toList 0 [] []
noncomputable def gZ(C:aK)(n ao:Nat)(ar:Array Oper):List (gI×fz):=Ic (pI ar) (xF C n ao ar)
noncomputable def mq(C:aK)(n ao:Nat)(ar:Array Oper):List qq:=IW (rm (gZ C n ao ar)) (pI ar) (xF C n ao ar)
structure qo(C:aK)(n ao:Nat)(ar:Array Oper):Prop where
 aqD:tt C n ao ar.toList 0 []=some (xF C n ao ar)
 aEQ:F5 ar.toList 0=true
 aAH:MG (pI ar)=true
 chain:Lm (rm (gZ C n ao ar))=true
section
variable{C:aK}{n ao:Nat}{ar:Array Oper}
def Tc(a:qo C n ao ar):(xF C n ao ar).length=ar.size/\∀S x,(xF C n ao ar)[S]? =some x->x.i=S/\∃W,NA C n ao ar x W:=by
 have aX:=a.aqD
 have:=aqm (ar:=ar) ar.toList 0 _ Zs (by rw[Nn];exact aX)
 exact⟨by simpa using this.1,λS x ae=>by simpa using this.2 S x ae⟩
def Kv(ar:Array Oper):(pI ar).length=ar.size/\(∀S p,(pI ar)[S]? =some p->p.i=S/\∃W,G6 ar p W):=by
 have:=aic (ar:=ar) ar.toList 0 [] Zs Zs
 rw[Nn]at this
 exact⟨by unfold pI;simpa using this.1,λS p aw=>by simpa using this.2.1 S p aw⟩
noncomputable def sq(C:aK)(n ao:Nat)(ar:Array Oper):List (gI×fz):=(pI ar).zip (xF C n ao ar)
def Ac(a:qo C n ao ar)(i:Nat)(aG:i<ar.size):∃p x W,(sq C n ao ar)[i]? =some (p,x)/\(pI ar)[i]? =some p/\p.i=i/\x.i=i/\NA C n ao ar x W/\G6 ar p W:=by
 obtain⟨bb,b5⟩:=Tc a
 obtain⟨bY,co⟩:=Kv ar
 have ae:(xF C n ao ar)[i]? =some ((xF C n ao ar)[i]'Zo):=Ze _
 have aw:(pI ar)[i]? =some ((pI ar)[i]'Zo):=Ze _
 obtain⟨cX,W,dN⟩:=b5 _ _ ae
 obtain⟨cT,o',cy⟩:=co _ _ aw
 have:o'=W:=by
  have bz:=dN.oper;have cF:=cy.oper
  rw[cX]at bz;rw[cT]at cF
  rw[bz]at cF;exact(Ys cF).symm
 subst this
 refine⟨_,_,o', ?_,aw,cT,cX,dN,cy⟩
 unfold sq
 rw[List.getElem?_zip_eq_some]
 exact⟨aw,ae⟩
def Ad(a:qo C n ao ar){e:gI×fz}(B:e∈sq C n ao ar):∃W,e.1.i<ar.size/\e.2.i=e.1.i/\(sq C n ao ar)[e.1.i]? =some e/\(pI ar)[e.1.i]? =some e.1/\NA C n ao ar e.2 W/\G6 ar e.1 W:=by
 obtain⟨S,bE⟩:=ZZ.1 B
 have fg:(sq C n ao ar).length=ar.size:=by
  unfold sq
  rw[List.length_zip,(Tc a).1,(Kv ar).1,Nat.min_self]
 have cZ:S<ar.size:=zs (Zc.1 bE).1
 obtain⟨p,x,W,M,R,ak,aA,bv,b9⟩:=Ac a S cZ
 rw[bE]at M
 cases M
 refine⟨W,by simp only;omega,by simp only;omega, ?_, ?_,bv,b9⟩
 ·simp only[ak];exact bE
 ·simp only[ak];exact R
def N7:gZ C n ao ar=(sq C n ao ar).filter λ(x:gI×fz)=>oA x.2.op:=auZ _ _
def N9:mq C n ao ar=((sq C n ao ar).filter λ(x:gI×fz)=> !oA x.2.op).map λ(x:gI×fz)=>⟨x.2,vO x.1.m (rm (gZ C n ao ar)),Cr x.1.i (rm (gZ C n ao ar))⟩:=ayU _ _ _
def Ob{l:qq}(aC:l∈mq C n ao ar):∃p,(p,l.x)∈sq C n ao ar/\oA l.x.op=false/\l.bL=vO p.m (rm (gZ C n ao ar))/\l.aG=Cr p.i (rm (gZ C n ao ar)):=by
 rw[N9]at aC
 obtain⟨e,B,rfl⟩:=ZI.1 aC
 obtain⟨M,R⟩:=YM.1 B
 exact⟨e.1,M,by simpa using R,rfl,rfl⟩
def N8{e:gI×fz}(B:e∈gZ C n ao ar):e∈sq C n ao ar/\oA e.2.op=true:=by
 rw[N7]at B
 exact YM.1 B
def adn(a:qo C n ao ar)(i:Nat)(aG:i<ar.size):(∃l∈mq C n ao ar,l.x.i=i)\/(∃(p:Nat) (e:gI×fz),(gZ C n ao ar)[p]? =some e/\e.1.i=i):=by
 obtain⟨p,x,W,M,R,ak,aA,bv,b9⟩:=Ac a i aG
 have bp:=Zl M
 cases gx:oA x.op with
 |true=>
  refine .inr ?_
  have:(p,x)∈gZ C n ao ar:=by rw[N7];exact YM.2 ⟨bp,gx⟩
  obtain⟨aj,b0⟩:=ZZ.1 this
  exact⟨aj,_,b0,ak⟩
 |false=>
  refine .inl ⟨_,by rw[N9];exact ZI.2 ⟨(p,x),YM.2 ⟨bp,by simp[gx]⟩,rfl⟩,aA⟩
def adm(a:qo C n ao ar):(sq C n ao ar).Pairwise λH b=>H.1.i<b.1.i:=by
 rw[YR]
 intro i S aG bE Pm
 have fg:(sq C n ao ar).length=ar.size:=by
  unfold sq
  rw[List.length_zip,(Tc a).1,(Kv ar).1,Nat.min_self]
 obtain⟨p,x,W,M,R,ak,_⟩:=Ac a i Zo
 obtain⟨aGI,jh,o',uU,HT,aEW,_⟩:=Ac a S Zo
 rw[Ze aG]at M
 rw[Ze bE]at uU
 rw[Ys M,Ys uU]
 simp only;omega
def adl(a:qo C n ao ar){p aj:Nat}{e bm:gI×fz}(aw:(gZ C n ao ar)[p]? =some e)(b0:(gZ C n ao ar)[aj]? =some bm)(bC:e.1.i=bm.1.i):p=aj:=by
 have LL:(gZ C n ao ar).Pairwise λH b=>H.1.i<b.1.i:=by rw[N7];exact(adm a).filter _
 rw[YR]at LL
 obtain⟨M,R⟩:=Zc.1 aw
 obtain⟨ak,aA⟩:=Zc.1 b0
 rcases YV p aj with cZ|rfl|hk
 ·have:=LL p aj M ak cZ
  rw[R,aA]at this;omega
 ·rfl
 ·have:=LL aj p ak M hk
  rw[R,aA]at this;omega
def Td(a:qo C n ao ar):(mq C n ao ar).Pairwise λH b=>H.x.i<b.x.i:=by
 rw[N9,List.pairwise_map]
 have M:((sq C n ao ar).filter λ(x:gI×fz)=> !oA x.2.op).Pairwise λH b=>H.1.i<b.1.i:=(adm a).filter _
 refine M.imp_of_mem λ{H b} az ag cZ=> ?_
 obtain⟨_,_,bz,_⟩:=Ad a (YM.1 az).1
 obtain⟨_,_,cF,_⟩:=Ad a (YM.1 ag).1
 show H.2.i<b.2.i
 rw[bz,cF];exact cZ
def Oa(a:qo C n ao ar){l:qq}(aC:l∈mq C n ao ar):l.x.i<ar.size:=by
 obtain⟨p,aw,_⟩:=Ob aC
 obtain⟨_,M,R,_⟩:=Ad a aw
 simp only at M R;omega
def ara(a:qo C n ao ar){e:gI×fz}(B:e∈gZ C n ao ar):e.1.i<ar.size/\e.2.i=e.1.i:=by
 obtain⟨_,M,R,_⟩:=Ad a (N8 B).1
 exact⟨M,R⟩
def DQ(ar:Array Oper)(dm:Nat->Prop):Prop:=∀i W,ar[i]? =some W->dm i->∀E∈W.after.toList,Region.binds .any E=true->dm E.on
def Kw{dm:Nat->Prop}(bU:DQ ar dm){p:gI}(aw:p∈pI ar){W:Oper}(bf:ar[p.i]? =some W)
 (mw:∀E∈W.after.toList,Region.binds .any E=true->dm E.on):∀H,fG p.m H=true->dm H:=by
 have key:=(aic (ar:=ar) ar.toList 0 [] Zs Zs).2.2 (λi m=>(∀W,ar[i]? =some W->∀E∈W.after.toList,Region.binds .any E=true->dm E.on)->∀H,fG m H=true->dm H) Zs
  (λS W m bE _ bp mw H az=>by
   obtain⟨E,M,R,ak⟩:=bp H az
   have bC:=mw W bE E M R
   rcases ak with rfl|⟨gN,aA,bv⟩
   ·exact bC
   ·exact aA (λo' Iq iM auT km=>bU E.on o' Iq bC iM auT km) H bv)
 rw[Nn]at key
 exact key p aw (λo' Iq=>by rw[bf]at Iq;cases Iq;exact mw)
end
structure Nw(C:aK)(ad:Nat->Prop)(h:Q af)(base:Nat)(aq:List (Nat×D))(I:Q D)(x:fz)(ac:D):Prop where
 key:ev aq x.i=some ac
 ok:∃kU b,Sub kU aq/\ps x.g kU=some b/\(b=false->ac=undef)/\(b=true->(oA x.op=false)/\
  (np x.op= .make->∃cU,o5 x.op C (base+x.i) kU I=some (ac,cU)/\U C h (base+x.i)=some cU)/\
  (np x.op= .ix->Dt x.op=false->∀jB,hc x.op C jB kU I=some ac))
def JY(C:aK)(h:Q af)(aq:List (Nat×D))(I:Q D)(x:fz)(ac:D):Prop:=
 ∃kU jB b,Sub kU aq/\qp C jB h/\ps x.g kU=some b/\(b=true->np x.op= .ix->hc x.op C jB kU I=some ac)
def BB(T:db)(ad:Nat->Prop)(ao:Nat)(ar:Array Oper)(dm:Nat->Prop)(aq:List (Nat×D))(I:Q D)(tmps:Array Value):Prop:=
 ∀t v,((∃S,dm S/\tw ar S=some t/\(∀pZ,dm pZ->tw ar pZ=some t->pZ<=S)/\ev aq S=some v)\/((∀S,dm S->tw ar S≠some t)/\fG ao t=true/\I.get t=some v))->
  tmps[t]? =some (aQ T v)/\cm ad v
structure sb(C:aK)(T:db)(ad:Nat->Prop)(h:Q af)(base n ao:Nat)(ar:Array Oper)(aq:List (Nat×D))(z m:Nat)(I:Q D)(tmps:Array Value)(dm:Nat->Prop):Prop where
 st:qo C n ao ar
 size:tmps.size=n
 Qk:z<=(gZ C n ao ar).length
 dW:C.a2<=base
 closed:DQ ar dm
 yh:∀i,dm i->i<ar.size
 done:∀p a,(gZ C n ao ar)[p]? =some a->(dm a.1.i↔p<z)
 vc:∀l∈mq C n ao ar,dm l.x.i->l.bL<m
 keys:∀i ac,ev aq i=some ac->(∃l∈mq C n ao ar,l.x.i=i/\l.bL<m)\/(∃p a,(gZ C n ao ar)[p]? =some a/\a.1.i=i/\p<z)
 wr:∀p a,(gZ C n ao ar)[p]? =some a->p<z->∃ac,ev aq a.1.i=some ac
 ahead:∀l∈mq C n ao ar,l.bL<m->∃ac,ev aq l.x.i=some ac/\(¬dm l.x.i->Nw C ad h base aq I l.x ac)
 Em:BB T ad ao ar dm aq I tmps
 ids:∀i,i<ar.size->ad (base+i)->dm i
 free:∀i,i<ar.size->ev aq i=none->U C h (base+i)=none
section
variable{C:aK}{T de:db}{ad dG:Nat->Prop}{h S':Q af}{j an bo:Nat}{w b1:World}
def pB.aa{ao:Nat}{X:Nat->Prop}{ep:List (Nat×Nat)}{aq:List (Nat×D)}{I:Q D}{tmps:Array Value}(dR:∀b,ad b->de b=T b)(fU:∀b,ad b->dG b)(a:pB T ad ao X ep aq I tmps):pB de dG ao X ep aq I tmps:=
 λt v ae bB=>by
  obtain⟨M,R⟩:=a t v ae bB
  exact⟨by rw[M,rg dR R],pO fU v R⟩
def BB.aa{ao:Nat}{ar:Array Oper}{dm:Nat->Prop}{aq:List (Nat×D)}{I:Q D}{tmps:Array Value}(dR:∀b,ad b->de b=T b)(fU:∀b,ad b->dG b)(a:BB T ad ao ar dm aq I tmps):BB de dG ao ar dm aq I tmps:=
 λt v bB=>by
  obtain⟨M,R⟩:=a t v bB
  exact⟨by rw[M,rg dR R],pO fU v R⟩
def th.aa(dR:∀b,ad b->de b=T b)(fU:∀b,ad b->dG b)(a:th C T ad):th C de dG:=λg b2=>by
 obtain⟨M,R,ak⟩:=a g b2
 exact⟨fU g M,by rw[dR g M];exact R,by rw[dR g M];exact ak⟩
def sb.aa{dh base n ao z m:Nat}{ar:Array Oper}{aq:List (Nat×D)}{I:Q D}{tmps:Array Value}{dm:Nat->Prop}(ae:iW C dh T ad h bo w de dG S' b1)(aC:base+ar.size<=dh)
 (a:sb C T ad h base n ao ar aq z m I tmps dm):sb C de dG S' base n ao ar aq z m I tmps dm:=by
 have Ii:∀i,i<ar.size->dG (base+i)->dm i:=λi aG aF=>(ae.new _ aF).elim (a.ids i aG) (λaj=>Zo)
 refine⟨a.st,a.size,a.Qk,a.dW,a.closed,a.yh,a.done,a.vc,a.keys,a.wr, ?_,a.Em.aa ae.jg ae.j2,Ii, ?_⟩
 ·intro l hK ow
  obtain⟨ac,M,R⟩:=a.ahead l hK ow
  refine⟨ac,M,λbU=> ?_⟩
  obtain⟨ak,kU,b,aA,bv,b9,dl⟩:=R bU
  refine⟨ak,kU,b,aA,bv,b9,λag=> ?_⟩
  obtain⟨eI,hT,kX⟩:=dl ag
  refine⟨eI,λaJ=> ?_,kX⟩
  obtain⟨cU,qB,v6⟩:=hT aJ
  refine⟨cU,qB, ?_⟩
  have cZ:=Oa a.st hK
  rw[ae.aa _ (λaF=>bU (a.ids _ cZ aF)) Zo]
  exact v6
 ·intro i aG bB
  rw[ae.aa _ ?_ Zo]
  ·exact a.free i aG bB
  ·intro aF
   have bU:=a.ids i aG aF
   rcases adn a.st i aG with ⟨l,pT,mQ⟩|⟨p,e,aw,B⟩
   ·obtain⟨ac,bg,_⟩:=a.ahead l pT (a.vc l pT (by rw[mQ];exact bU))
    rw[mQ,bB]at bg;cases bg
   ·obtain⟨ac,bg⟩:=a.wr p e aw ((a.done p e aw).1 (by rw[B];exact bU))
    rw[B,bB]at bg;cases bg
end
section
variable{C:aK}{T de:db}{ad dG:Nat->Prop}{h S':Q af}{j an bo:Nat}{w b1:World}{n ao:Nat}{ar:Array Oper}
def ahH{H b t:Nat}(M:fG H t=true)(R:fG b t=true):Nat.beq (Nat.land H b) 0=false:=by
 cases a:Nat.beq (Nat.land H b) 0 with
 |false=>rfl
 |true=>
  have E:=Zn a
  have:=ap6 H b t
  rw[E,NU,M,R]at this
  cases this
def QV{p:gI}{W:Oper}(a:G6 ar p W){t:Nat}(aF:W.dst=some t):fG p.w t=true:=by rw[a.w];exact ark.2 aF
def aA8{p:gI}{W:Oper}(a:G6 ar p W){t:Nat}(Y:Operand.tmp t∈W.op.operands.toList):fG p.r t=true:=by
 rw[a.r,Hn,aAt.2 Y];rfl
def S0(a:qo C n ao ar){i S:Nat}{p aj:gI}(Pm:i<S)(aw:(pI ar)[i]? =some p)(b0:(pI ar)[S]? =some aj){t:Nat}
 (ax:(fG p.w t=true/\(fG aj.r t=true\/fG aj.w t=true))\/(fG aj.w t=true/\fG p.r t=true)):fG aj.m i=true:=by
 have:=aAf a.aAH i S p aj Pm aw b0
 have LK:p.i=i:=((Kv ar).2 i p aw).1
 unfold QJ at this
 rw[LK]at this
 rcases ax with ⟨M,R⟩|⟨M,R⟩
 ·have ak:fG (Nat.lor aj.r aj.w) t=true:=by rw[Hn];rcases R with R|R<;>simp[R]
  rw[ahH M ak]at this
  simpa using this
 ·rw[ahH M R]at this
  simpa using this
def Qu{i:Nat}{p:gI}(aw:(pI ar)[i]? =some p):p∈pI ar:=Zl aw
def arb(dd:qo C n ao ar){dm:Nat->Prop}{aq:List (Nat×D)}{I:Q D}{tmps:Array Value}(hx:DQ ar dm)(sC:∀i,dm i->i<ar.size)(aF:BB T ad ao ar dm aq I tmps)
 {i:Nat}{p:gI}{W:Oper}(aw:(pI ar)[i]? =some p)(bf:ar[i]? =some W)(rC:¬dm i)(mw:∀E∈W.after.toList,Region.binds .any E=true->dm E.on):
 pB T ad ao (λt=>fG p.r t=true) (iJ ar i) aq I tmps:=by
 have aG:i<ar.size:=(ZM.1 bf).1
 obtain⟨_,fk,f3⟩:=No ar i (zm aG)
 have LK:p.i=i:=((Kv ar).2 i p aw).1
 have PA:=Kw hx (Qu aw) (by rw[LK];exact bf) mw
 have ahK:∀t S,fG p.r t=true->i<S->dm S->tw ar S=some t->False:=by
  intro t S Y Pm bU tM
  obtain⟨aj,x,A4,_,b0,ye,_,ae,AH⟩:=Ac dd S (sC S bU)
  have AG:ar[S]? =some A4:=by rw[<-ye];exact AH.oper
  have bs:=QV AH (t:=t) (by rw[<-Kz AG];exact tM)
  have ag:=S0 dd Pm aw b0 (.inr ⟨bs,Y⟩)
  have:=Kw hx (Qu b0) (by rw[ye];exact AG) (hx S A4 AG bU) i ag
  exact rC this
 intro t v bV bB
 apply aF t v
 split at bB
 ·rename_i S bE
  obtain⟨bI,bN,cH⟩:=fk t S bE
  left
  have avu:S<ar.size:=Zo
  obtain⟨aj,x,A4,_,b0,ye,_,ae,AH⟩:=Ac dd S avu
  have AG:ar[S]? =some A4:=by rw[<-ye];exact AH.oper
  have bs:=QV AH (t:=t) (by rw[<-Kz AG];exact bN)
  have ag:=S0 dd bI b0 aw (.inl ⟨bs, .inl bV⟩)
  refine⟨S,PA S ag,bN,λpZ EG tK=> ?_,bB⟩
  rcases YV pZ i with M|M|M
  ·rcases zf S pZ with R|R
   ·exact absurd tK (cH pZ R M)
   ·exact R
  ·exact absurd (M▸EG) rC
  ·exact(ahK t pZ bV M EG tK).elim
 ·rename_i bE
  right
  refine⟨λS bU tM=> ?_,bB.1,bB.2⟩
  rcases YV S i with M|M|M
  ·exact f3 t bE S M tM
  ·exact rC (M▸bU)
  ·exact ahK t S bV M bU tM
def BB.put(dd:qo C n ao ar){dm:Nat->Prop}{aq hQ:List (Nat×D)}{I:Q D}{tmps:Array Value}(hx:DQ ar dm)(sC:∀i,dm i->i<ar.size)(aF:BB T ad ao ar dm aq I tmps)(eT:tmps.size=n)
 {i:Nat}{W:Oper}{v:D}(bf:ar[i]? =some W)(rC:¬dm i)(Uz:∀S,dm S->∀ac,ev hQ S=some ac->ev aq S=some ac)(auo:ev hQ i=some v)(pR:∀d,W.dst=some d->d<n)(fD:cm ad v):
 BB T ad ao ar (add dm i) hQ I (qX tmps W.dst (aQ T v)):=by
 have aG:i<ar.size:=(ZM.1 bf).1
 have UM:=Kz bf
 have Iw:∀t,(qX tmps W.dst (aQ T v))[t]? =if W.dst=some t then some (aQ T v)else tmps[t]? :=λt=>ai4 _ _ _ _ (by rw[eT];exact pR)
 intro t ac a
 rw[Iw]
 by_cases Ib:W.dst=some t
 ·rw[Zr Ib]
  rcases a with ⟨S,bU,tM,x9,bg⟩|⟨M,_⟩
  ·
   have afP:S=i:=by
    rcases bU with bU|bU
    ·have gn:=x9 i (.inr rfl) (by rw[UM];exact Ib)
     rcases zf i S with cZ|Cq
     ·exfalso
      obtain⟨p,x,aAb,_,aw,LK,_,_,E9⟩:=Ac dd i aG
      obtain⟨aj,jh,A4,_,b0,ye,_,_,AH⟩:=Ac dd S (sC S bU)
      have AG:ar[S]? =some A4:=by rw[<-ye];exact AH.oper
      have av0:aAb=W:=by
       have:=E9.oper
       rw[LK,bf]at this
       exact(Ys this).symm
      subst av0
      have ag:=S0 dd cZ aw b0 (.inl ⟨QV E9 Ib, .inr (QV AH (by rw[<-Kz AG];exact tM))⟩)
      exact rC (Kw hx (Qu b0) (by rw[ye];exact AG) (hx S A4 AG bU) i ag)
     ·omega
    ·exact bU
   subst afP
   rw[auo]at bg
   cases bg
   exact⟨rfl,fD⟩
  ·exact absurd (by rw[UM];exact Ib) (M i (.inr rfl))
 ·rw[Zh Ib]
  apply aF t ac
  rcases a with ⟨S,bU,tM,x9,bg⟩|⟨M,R⟩
  ·left
   have EG:dm S:=bU.resolve_right λE=>Ib (by rw[<-UM, <-E];exact tM)
   exact⟨S,EG,tM,λpZ Lu tK=>x9 pZ (.inl Lu) tK,Uz S EG ac bg⟩
  ·right
   exact⟨λS bE=>M S (.inl bE),R⟩
def DQ.add{dm:Nat->Prop}(hx:DQ ar dm){i:Nat}{W:Oper}(bf:ar[i]? =some W)(mw:∀E∈W.after.toList,Region.binds .any E=true->dm E.on):DQ ar (add dm i):=by
 intro S A4 bE bU E bC ag
 rcases bU with bU|bU
 ·exact .inl (hx S A4 bE bU E bC ag)
 ·subst bU
  rw[bf]at bE;cases bE
  exact .inl (mw E bC ag)
def Qp(dd:qo C n ao ar){l:qq}(aC:l∈mq C n ao ar){p:Nat}{e:gI×fz}(aw:(gZ C n ao ar)[p]? =some e):l.x.i≠e.1.i:=by
 intro E
 obtain⟨aj,M,R,_⟩:=Ob aC
 obtain⟨ak,aA⟩:=N8 (Zl aw)
 obtain⟨_,_,bN,cH,_⟩:=Ad dd M
 obtain⟨_,_,ct,c1,_⟩:=Ad dd ak
 simp only at bN cH
 rw[<-bN,E,c1]at cH
 cases cH
 rw[R]at aA;cases aA
def sb.fw{base ej:Nat}{aq:List (Nat×D)}{I:Q D}{tmps:Array Value}{dm:Nat->Prop}(a:sb C T ad h base n ao ar aq ej (ej+1) I tmps dm){e:gI×fz}(B:(gZ C n ao ar)[ej]? =some e)
 {W:Oper}(bf:ar[e.1.i]? =some W)(rC:¬dm e.1.i)(mw:∀E∈W.after.toList,Region.binds .any E=true->dm E.on){v:D}(fD:cm ad v)(pR:∀d,W.dst=some d->d<n):
 sb C T ad h base n ao ar ((e.1.i,v)::aq) (ej+1) (ej+1) I (qX tmps W.dst (aQ T v)) (add dm e.1.i):=by
 have UW:ev aq e.1.i=none:=by
  cases bB:ev aq e.1.i with
  |none=>rfl
  |some ac=>
   exfalso
   rcases a.keys _ ac bB with ⟨l,M,R,_⟩|⟨p,bm,M,R,ak⟩
   ·exact Qp a.st M B R
   ·have:=adl a.st M B R;omega
 have AL:Sub aq ((e.1.i,v)::aq):=Sub.cons UW
 have aG:e.1.i<ar.size:=(ZM.1 bf).1
 refine⟨a.st,by rw[QX];exact a.size,zs (Zc.1 B).1,a.dW,a.closed.add bf mw, ?_, ?_, ?_, ?_, ?_, ?_, ?_, ?_, ?_⟩
 ·rintro i (bU|bU)
  ·exact a.yh i bU
  ·omega
 ·intro p bm ch
  constructor
  ·rintro(bU|bU)
   ·have:=(a.done p bm ch).1 bU;omega
   ·have:=adl a.st ch B bU;omega
  ·intro aw
   rcases zf p ej with cZ|Cq
   ·exact .inl ((a.done p bm ch).2 cZ)
   ·have:p=ej:=Zo
    subst this
    rw[B]at ch;cases ch
    exact .inr rfl
 ·rintro l aC (bU|bU)
  ·exact a.vc l aC bU
  ·exact(Qp a.st aC B bU).elim
 ·intro i ac bg
  rw[sm]at bg
  split at bg
  ·rename_i E
   exact .inr ⟨ej,e,B,E,Zo⟩
  ·rcases a.keys i ac bg with M|⟨p,bm,M,R,ak⟩
   ·exact .inl M
   ·exact .inr ⟨p,bm,M,R,Zo⟩
 ·intro p bm ch aw
  rw[sm]
  split
  ·exact⟨v,rfl⟩
  ·rename_i dQ
   have:p≠ej:=λE=>by subst E;rw[B]at ch;cases ch;exact dQ rfl
   exact a.wr p bm ch Zo
 ·intro l aC ow
  obtain⟨ac,M,R⟩:=a.ahead l aC ow
  refine⟨ac,AL _ _ M,λbU=> ?_⟩
  obtain⟨_,kU,b,aA,bv⟩:=R (λaj=>bU (.inl aj))
  exact⟨AL _ _ M,kU,b,aA.trans AL,bv⟩
 ·refine a.Em.put a.st a.closed a.yh a.size bf rC ?_ (by rw[sm,Zr rfl]) pR fD
  intro S bU ac bg
  rw[sm,Zh]at bg
  ·exact bg
  ·intro E;subst E;exact rC bU
 ·intro i lJ aF
  exact .inl (a.ids i lJ aF)
 ·intro i lJ bB
  rw[sm]at bB
  split at bB
  ·cases bB
  ·exact a.free i lJ bB
def sb.ix{base ej m:Nat}{aq:List (Nat×D)}{I:Q D}{tmps:Array Value}{dm:Nat->Prop}(a:sb C T ad h base n ao ar aq ej m I tmps dm){l:qq}(aC:l∈mq C n ao ar)(ow:l.bL<m)
 {W:Oper}(bf:ar[l.x.i]? =some W)(rC:¬dm l.x.i)(mw:∀E∈W.after.toList,Region.binds .any E=true->dm E.on){v:D}(bB:ev aq l.x.i=some v)
 (dR:∀b,ad b->de b=T b)(fU:∀b,ad b->dG b)(atR:∀b,dG b->ad b\/b=base+l.x.i)(fD:cm dG v)(pR:∀d,W.dst=some d->d<n):
 sb C de dG h base n ao ar aq ej m I (qX tmps W.dst (aQ de v)) (add dm l.x.i):=by
 have aG:l.x.i<ar.size:=(ZM.1 bf).1
 refine⟨a.st,by rw[QX];exact a.size,a.Qk,a.dW,a.closed.add bf mw, ?_, ?_, ?_,a.keys,a.wr, ?_, ?_, ?_,a.free⟩
 ·rintro i (bU|bU)
  ·exact a.yh i bU
  ·omega
 ·intro p bm ch
  constructor
  ·rintro(bU|bU)
   ·exact(a.done p bm ch).1 bU
   ·exact(Qp a.st aC ch bU.symm).elim
  ·intro aw
   exact .inl ((a.done p bm ch).2 aw)
 ·rintro ce hK (bU|bU)
  ·exact a.vc ce hK bU
  ·have:=(Td a.st)
   by_cases aj:ce=l
   ·rw[aj];exact ow
   ·exfalso
    obtain⟨H,az⟩:=ZZ.1 hK
    obtain⟨b,ag⟩:=ZZ.1 aC
    obtain⟨Ld,oo⟩:=Zc.1 az
    obtain⟨ng,l4⟩:=Zc.1 ag
    rw[YR]at this
    rcases YV H b with cZ|E|hk
    ·have:=this H b Ld ng cZ
     rw[oo,l4]at this;omega
    ·subst E
     rw[oo]at l4;exact aj l4
    ·have:=this b H ng Ld hk
     rw[oo,l4]at this;omega
 ·intro ce hK avB
  obtain⟨ac,M,R⟩:=a.ahead ce hK avB
  refine⟨ac,M,λbU=> ?_⟩
  obtain⟨ak,kU,b,aA,bv,b9,dl⟩:=R (λaj=>bU (.inl aj))
  exact⟨ak,kU,b,aA,bv,b9,dl⟩
 ·exact(a.Em.aa dR fU).put a.st a.closed a.yh a.size bf rC (λ_ _ _ aj=>aj) bB pR fD
 ·intro i lJ aF
  rcases atR _ aF with aF|aF
  ·exact .inl (a.ids i lJ aF)
  ·exact .inr Zo
end
def uF(T:db)(p:s8):PanicEntry:={v:=aQ T p.v,recovered:=p.recovered}
def g7(T:db):lw->FrameMode
 | .run=> .run
 | .returning=> .returning
 | .panicking fC=> .panicking (fC.map (uF T))
def rn(ad:Nat->Prop):lw->Prop
 | .panicking fC=>∀p∈fC,cm ad p.v
 |_=>True
inductive DT(C:aK)(T:db)(ad:Nat->Prop)(ao:Nat):d1->Item->Prop
 |code {c:Code}:mo C ao c=true->DT C T ad ao (.code c) (.code c)
 |inBlock {id:Nat}:DT C T ad ao (.inBlock id) (.inBlock id)
 |inLoop {b:Code}:mo C ao b=true->DT C T ad ao (.inLoop b) (.inLoop b)
 |inScope {b:Code}:mo C ao b=true->DT C T ad ao (.inScope b) (.inScope b)
 |Es {l:Nat}:ad l->DT C T ad ao (.endRangeFunc l) (.endRangeFunc (T l).cL)
 |begin:DT C T ad ao .beginRound .beginRound
inductive mg(C:aK)(T:db)(ad:Nat->Prop)(ao:Nat):List d1->List Item->Prop
 |nil:mg C T ad ao [] []
 |cons {H x z bw}:DT C T ad ao H x->mg C T ad ao z bw->mg C T ad ao (H::z) (x::bw)
def Se(C:aK)(T:db)(ad:Nat->Prop)(n ao:Nat)(ar:Array Oper)(aq:List (Nat×D))(rest:List fz)(fin:List (Nat×Nat))(I:Q D)(tmps:Array Value)(l:List Nat):Prop:=
 ∃i,i<=ar.size/\l=List.range' i (ar.size-i)/\tt C n ao (ar.toList.drop i) i (iJ ar i)=some rest/\fin=lG ao ar.toList 0/\pB T ad ao (λ_=>True) (iJ ar i) aq I tmps/\tmps.size=n
def aoY(C:aK)(T:db)(ad:Nat->Prop)(n ao:Nat)(ar:Array Oper)(aq:List (Nat×D))(a:Nat)(rest:List fz)(fin:List (Nat×Nat))(I:Q D)(tmps:Array Value)(l:List Nat):Prop:=
 ∃W,ar[a]? =some W/\(∀d,W.dst=some d->d<n)/\l=List.range' (a+1) (ar.size-(a+1))/\tt C n ao (ar.toList.drop (a+1)) (a+1) (iJ ar (a+1))=some rest/\fin=lG ao ar.toList 0/\
  pB T ad ao (λ_=>True) (iJ ar a) aq I tmps/\tmps.size=n
inductive D4(C:aK)(T:db)(ad:Nat->Prop)(h:Q af)(dh j n ao:Nat)(I:Q D)(tmps:Array Value):List d1->List Item->Prop
 |plain {z bw}:mg C T ad ao z bw->jQ T ad n ao I tmps->D4 C T ad h dh j n ao I tmps z bw
 |seq {ar aq rest fin l z bw}:mg C T ad ao z bw->Se C T ad n ao ar aq rest fin I tmps l->D4 C T ad h dh j n ao I tmps (.Jt ar aq rest fin::z) (.inRegion ar l::bw)
 |drawn {ar base aq l z bw dm ej}:mg C T ad ao z bw->dh<=base->base+ar.size<=j->sb C T ad h base n ao ar aq ej ej I tmps dm->xm ar dm l->
   D4 C T ad h dh j n ao I tmps (.drawn ar base aq (A1 (mq C n ao ar) ej ((gZ C n ao ar).drop ej)) (lG ao ar.toList 0)::z) (.inRegion ar l::bw)
inductive m9(C:aK)(T:db)(ad:Nat->Prop)(h:Q af)(bL aG n ao:Nat)(I:Q D)(tmps:Array Value):List d1->List Item->Prop
 |seq {ar aq a rest fin l z bw}:mg C T ad ao z bw->aoY C T ad n ao ar aq a rest fin I tmps l->m9 C T ad h bL aG n ao I tmps (.ux ar aq a rest fin::z) (.inRegion ar (a::l)::bw)
 |drawn {ar base aq l z bw dm ej e W}:mg C T ad ao z bw->bL<=base->base+ar.size<=aG->sb C T ad h base n ao ar aq ej (ej+1) I tmps dm->(gZ C n ao ar)[ej]? =some e->
   ar[e.1.i]? =some W->¬dm e.1.i->(∀E∈W.after.toList,Region.binds .any E=true->dm E.on)->xm ar (add dm e.1.i) l->
   m9 C T ad h bL aG n ao I tmps (.Bn ar base aq e.1.i (A1 (mq C n ao ar) (ej+1) ((gZ C n ao ar).drop (ej+1))) (lG ao ar.toList 0)::z) (.inRegion ar (e.1.i::l)::bw)
 |dr {l z bw}:mg C T ad ao z bw->jQ T ad n ao I tmps->ad l->m9 C T ad h bL aG n ao I tmps (.inRangeFunc l::z) (.inRangeFunc (T l).cL::bw)
def BK(C:aK)(T:db)(ad:Nat->Prop)(h:Q af)(bL aG n ao:Nat)(I:Q D)(tmps:Array Value)(bR:lw)(todo:List d1)(bw:List Item):Prop:=match bR with
 | .run=>m9 C T ad h bL aG n ao I tmps todo bw
 |_=>jQ T ad n ao I tmps
def cr(T:db)(fn:Nat)(bh:List h3)(ay:Bool)(ro:Option Nat)(tmps:Array Value)(bw:List Item)(mode:FrameMode):Frame:=
 {fn,tmps,todo:=bw,defers:=bh.map (mm T),mode,kind:=if ay then .deferred else .normal,roundOf:=ro.map λl=>(T l).cL}
structure xg(C:aK)(ad:Nat->Prop)(fn ao:Nat)(bh:List h3)(ro:Option Nat):Prop where
 bh:∀d∈bh,xP ad d
 ro:∀l,ro=some l->ad l
 fn:RZ C fn ao
inductive pu(C:aK)(T:db)(ad:Nat->Prop)(h:Q af)(bF:Nat)(bT:List Frame):Nat->List g4->List Frame->Prop
 |nil {dh}:pu C T ad h bF bT dh [] bT
 |cons {bL dh fn n ao I todo bh bR ay ro cs tmps bw am}:BK C T ad h bL dh n ao I tmps bR todo bw->rn ad bR->xg C ad fn ao bh ro->(cs=[]->fn=bF/\ay=false/\ro=none)->bL<=dh->pu C T ad h bF bT bL cs am->
   pu C T ad h bF bT dh (⟨fn,n,ao,I,todo,bh,bR,ay,ro⟩::cs) (cr T fn bh ay ro tmps bw (g7 T bR)::am)
section
variable{C:aK}{T de:db}{ad dG:Nat->Prop}{h S':Q af}{j an bo:Nat}{w b1:World}{n ao:Nat}{ar:Array Oper}
def mg.aa{z:List d1}{bw:List Item}(dR:∀b,ad b->de b=T b)(fU:∀b,ad b->dG b)(a:mg C T ad ao z bw):mg C de dG ao z bw:=by
 induction a with
 |nil=>exact .nil
 |cons M _ ai=>
  refine .cons ?_ ai
  cases M with
  |code a=>exact .code a
  |inBlock=>exact .inBlock
  |inLoop a=>exact .inLoop a
  |inScope a=>exact .inScope a
  |Es a=>rw[<-dR _ a];exact .Es (fU _ a)
  |begin=>exact .begin
def m9.aa{bL dh:Nat}{I:Q D}{tmps:Array Value}{z:List d1}{bw:List Item}(ae:iW C dh T ad h bo w de dG S' b1)(a:m9 C T ad h bL dh n ao I tmps z bw):m9 C de dG S' bL dh n ao I tmps z bw:=by
 cases a with
 |seq M R=>
  obtain⟨W,bb,b5,a3,a4,a5,hR,io⟩:=R
  exact .seq (M.aa ae.jg ae.j2) ⟨W,bb,b5,a3,a4,a5,hR.aa ae.jg ae.j2,io⟩
 |drawn M R ak aA bv b9 dl eI hT=>exact .drawn (M.aa ae.jg ae.j2) R ak (aA.aa ae ak) bv b9 dl eI hT
 |dr M R ak=>rw[<-ae.jg _ ak];exact .dr (M.aa ae.jg ae.j2) (R.aa ae.jg ae.j2) (ae.j2 _ ak)
def BK.aa{bL dh:Nat}{I:Q D}{tmps:Array Value}{bR:lw}{z:List d1}{bw:List Item}(ae:iW C dh T ad h bo w de dG S' b1)(a:BK C T ad h bL dh n ao I tmps bR z bw):BK C de dG S' bL dh n ao I tmps bR z bw:=by
 cases bR with
 |run=>exact m9.aa ae a
 |returning=>exact jQ.aa ae.jg ae.j2 a
 |panicking fC=>exact jQ.aa ae.jg ae.j2 a
def xg.aa{fn:Nat}{bh:List h3}{ro:Option Nat}(fU:∀b,ad b->dG b)(a:xg C ad fn ao bh ro):xg C dG fn ao bh ro:=
 ⟨λd aF=>aen fU (a.bh d aF),λl aC=>fU l (a.ro l aC),a.fn⟩
def I2{fn:Nat}{bh:List h3}{ay:Bool}{ro:Option Nat}{tmps:Array Value}{bw:List Item}{mode:FrameMode}(dR:∀b,ad b->de b=T b)(a:xg C ad fn ao bh ro):cr de fn bh ay ro tmps bw mode=cr T fn bh ay ro tmps bw mode:=by
 unfold cr
 congr 1
 ·exact YA λd aF=>SL dR (a.bh d aF)
 ·cases ro with
  |none=>rfl
  |some l=>simp only[ZT,dR l (a.ro l rfl)]
def aqn{bR:lw}(dR:∀b,ad b->de b=T b)(a:rn ad bR):g7 de bR=g7 T bR:=by
 cases bR with
 |panicking fC=>
  simp only[g7]
  congr 1
  exact YA λp aw=>by simp only[uF,rg dR (a p aw)]
 |_=>rfl
def atk{bR:lw}(fU:∀b,ad b->dG b)(a:rn ad bR):rn dG bR:=by
 cases bR with
 |panicking fC=>exact λp aw=>pO fU _ (a p aw)
 |_=>trivial
def iW.mono{dh Mq:Nat}(a:iW C dh T ad h bo w de dG S' b1)(aC:Mq<=dh):iW C Mq T ad h bo w de dG S' b1:=
 ⟨a.jg,a.j2,λb ag=>(a.new b ag).imp id (λaj=>Zo),λb ag cZ=>a.aa b ag Zo,a.below⟩
def pu.aa{bF:Nat}{bT:List Frame}{dh:Nat}{cs:List g4}{am:List Frame}(a:pu C T ad h bF bT dh cs am)(ae:iW C dh T ad h bo w de dG S' b1):pu C de dG S' bF bT dh cs am:=by
 induction a with
 |nil=>exact .nil
 |cons M bp R aA bv b9 ai=>
  rw[<-I2 (T:=T) (de:=de) ae.jg R, <-aqn ae.jg bp]
  exact .cons (M.aa ae) (atk ae.j2 bp) (R.aa ae.j2) aA bv (ai (ae.mono bv))
def Oc(t:Nat):∀(l:List Nat) (I:Q D),(xG l I).get t=if t∈l then none else I.get t:=by
 intro l
 induction l with
 |nil=>intro I;simp[xG]
 |cons d l ai=>
  intro I
  simp only[xG,ai,Q.kW,Zt]
  by_cases a:t∈l
  ·simp[a]
  ·by_cases E:d=t
   ·subst E;simp
   ·have:¬t=d:=λaj=>E aj.symm
    simp[a,E,this]
def jQ.drop{I:Q D}{tmps:Array Value}(a:jQ T ad n ao I tmps)(l:List Nat):jQ T ad n ao (xG l I) tmps:=by
 refine⟨a.size,λt v ag bB=> ?_⟩
 rw[Oc]at bB
 split at bB
 ·cases bB
 ·exact a.val t v ag bB
def adr{l:List Oper}{W:Oper}{d:Nat}(bf:W∈l)(aF:W.dst=some d):d∈dstsOf l:=by
 induction l with
 |nil=>cases bf
 |cons H l ai=>
  simp only[dstsOf]
  rcases Zt.1 bf with rfl|bf
  ·rw[aF];exact Zv ..
  ·split
   ·exact Zw _ (ai bf)
   ·exact ai bf
def m9.drop{bL dh:Nat}{I:Q D}{tmps:Array Value}{z:List d1}{bw:List Item}(a:m9 C T ad h bL dh n ao I tmps z bw):jQ T ad n ao (vR z I) tmps:=by
 cases a with
 |seq M R=>
  rename_i ar aq a rest fin l z bw
  obtain⟨W,bb,b5,a3,a4,a5,hR,io⟩:=R
  refine⟨io,λt v ag bB=> ?_⟩
  simp only[vR]at bB
  rw[Oc]at bB
  split at bB
  ·cases bB
  ·rename_i aE
   have aG:a<ar.size:=(ZM.1 bb).1
   obtain⟨_,fk,_⟩:=No ar a (zm aG)
   apply hR t v trivial
   cases bE:ev (iJ ar a) t with
   |some S=>
    exfalso
    obtain⟨bI,bN,_⟩:=fk t S bE
    unfold tw at bN
    cases bf:ar[S]? with
    |none=>rw[bf]at bN;cases bN
    |some o'=>
     rw[bf]at bN
     exact aE (adr (by rw[Array.mem_toList_iff];exact Y8 bf) bN)
   |none=>exact⟨ag,bB⟩
 |drawn M R ak aA bv b9 dl eI hT=>
  rename_i ar base aq l z bw dm ej e W
  refine⟨aA.size,λt v ag bB=> ?_⟩
  simp only[vR]at bB
  rw[Oc]at bB
  split at bB
  ·cases bB
  ·rename_i aE
   apply aA.Em t v
   right
   refine⟨λS bU aF=> ?_,ag,bB⟩
   unfold tw at aF
   cases bf:ar[S]? with
   |none=>rw[bf]at aF;cases aF
   |some o'=>
    rw[bf]at aF
    exact aE (adr (by rw[Array.mem_toList_iff];exact Y8 bf) aF)
 |dr M R ak=>exact R
def BK.drop{bL dh:Nat}{I:Q D}{tmps:Array Value}{bR:lw}{z:List d1}{bw:List Item}(a:BK C T ad h bL dh n ao I tmps bR z bw):jQ T ad n ao (vR z I) tmps:=by
 cases bR with
 |run=>exact m9.drop a
 |_=>
  have cz:jQ T ad n ao I tmps:=a
  unfold vR
  split<;>first|exact cz.drop _|exact cz
def pB.put{I:Q D}{aq:List (Nat×D)}{tmps:Array Value}{i:Nat}{W:Oper}{v:D}(bf:ar[i]? =some W)(bB:pB T ad ao (λ_=>True) (iJ ar i) aq I tmps)(aF:∀d,W.dst=some d->d<tmps.size)(fD:cm ad v):
 pB T ad ao (λ_=>True) (iJ ar (i+1)) ((i,v)::aq) I (qX tmps W.dst (aQ T v)):=by
 have aG:i<ar.size:=(ZM.1 bf).1
 obtain⟨_,fk,_⟩:=No ar i (zm aG)
 intro t ac _ a
 rw[ai4 _ _ _ _ aF]
 rw[Nl bf,Hh]at a
 split at a
 ·rename_i S bE
  split at bE
  ·rename_i E
   cases bE
   rw[sm,Zr rfl]at a
   cases a
   rw[Zr E]
   exact⟨rfl,fD⟩
  ·rename_i E
   rw[Zh E]
   have:=(fk t S bE).1
   rw[sm,Zh Zo]at a
   exact bB t ac trivial (by rw[bE];exact a)
 ·rename_i bE
  split at bE
  ·cases bE
  ·rename_i E
   rw[Zh E]
   exact bB t ac trivial (by rw[bE];exact a)
def Ov{g:Frame}{a:Nat}{l:List Nat}{bw:List Item}{W:Oper}(b2:g.todo= .inRegion ar (a::l)::bw)(bf:ar[a]? =some W)(v:Value):
 g.finish v={g with tmps:=qX g.tmps W.dst v,todo:= .inRegion ar l::bw}:=by
 unfold Frame.finish
 rw[b2]
 simp only[bf,ZL]
 cases W.dst<;>rfl
def asb{bL dh j n ao fn:Nat}{I:Q D}{tmps:Array Value}{todo:List d1}{bw:List Item}{bh:List h3}{ay:Bool}{ro:Option Nat}{mode:FrameMode}{v:D}(a:m9 C T ad h bL dh n ao I tmps todo bw)(aC:dh<=j)(fD:cm ad v):
 ∃eP z hX h1 im,todo=eP::z/\pM eP v=some hX/\(cr T fn bh ay ro tmps bw mode).finish (aQ T v)=cr T fn bh ay ro h1 im mode/\D4 C T ad h bL j n ao I h1 (hX::z) im:=by
 cases a with
 |seq M R=>
  rename_i ar aq a rest fin l z bw
  obtain⟨W,bb,b5,a3,a4,a5,hR,io⟩:=R
  have cZ:a<ar.size:=(ZM.1 bb).1
  refine⟨_,z, .Jt ar ((a,v)::aq) rest fin,qX tmps W.dst (aQ T v), .inRegion ar l::bw,rfl,rfl, ?_, .seq M ⟨a+1,Zo,a3,a4,a5,hR.put bb (by rw[io];exact b5) fD,by rw[QX];exact io⟩⟩
  rw[Ov (g:=cr T fn bh ay ro tmps _ mode) rfl bb];rfl
 |drawn M R ak aA bv b9 dl eI hT=>
  rename_i ar base aq l z bw dm ej e W
  have B:=Zl bv
  have pR:∀d,W.dst=some d->d<n:=by
   obtain⟨o',bI,bN,cH,dg,fT,dZ⟩:=Ad aA.st (N8 B).1
   have:o'=W:=by
    have:=dZ.oper
    rw[b9]at this
    exact(Ys this).symm
   subst this
   exact fT.dst
  refine⟨_,z, .drawn ar base ((e.1.i,v)::aq) _ _,qX tmps W.dst (aQ T v), .inRegion ar l::bw,rfl,rfl, ?_, .drawn M R (ZB ak aC) (aA.fw bv b9 dl eI fD pR) hT⟩
  rw[Ov (g:=cr T fn bh ay ro tmps _ mode) rfl b9];rfl
 |dr M R ak=>
  rename_i l z bw
  exact⟨_,z, .endRangeFunc l,tmps, .endRangeFunc (T l).cL::bw,rfl,rfl,rfl, .plain (.cons (.Es ak) M) R⟩
def Ry{I:Q D}{aq kU:List (Nat×D)}{tmps:Array Value}{X:Nat->Prop}{i:Nat}{W:Oper}{g:Option (Nat×Bool)}{b:Bool}(aG:i<=ar.size)(b2:Km (iJ ar i) W.guard=some g)(bB:pB T ad ao X (iJ ar i) aq I tmps)
 (bV:∀S b t,W.guard=some (S,b)->xH S (iJ ar i)=some t->X t)(aD:Sub kU aq)(a:ps g kU=some b):Region.wanted W (yielded ar tmps)=b:=by
 obtain⟨eR,_,_⟩:=No ar i aG
 unfold Km at b2
 unfold Region.wanted
 split at b2
 ·rename_i avh
  simp at b2;subst b2
  simp[ps]at a
  rw[avh, <-a]
 ·rename_i S mc wo
  rw[wo]
  split at b2
  ·rename_i t be
   split at b2
   ·rename_i pZ bE
    rw[h4]at b2
    split at b2
    ·rename_i E
     subst E
     simp at b2;subst b2
     simp only[ps]at a
     split at a
     ·rename_i ac bg
      have:=bB t ac (bV S mc t wo be) (by rw[bE];exact aD _ _ bg)
      have B:yielded ar tmps S=(match aQ T ac with| .bool b=>some b|_=>none):=by
       unfold yielded
       have aF:=eR S t be
       unfold tw at aF
       rw[aF]
       simp only[ZL,this.1]
       cases aQ T ac<;>rfl
      simp only[B]
      cases ac<;>simp[aQ]at a ⊢ <;>first|(rw[<-a])|exact a|(subst a;rfl)|skip
      all_goals simp_all
     ·simp at a
    ·simp at b2
   ·simp at b2
  ·simp at b2
end
end Go.bd

