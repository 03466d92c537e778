/- Part of the proof of the last text; no conditions -/
import Derived.Test.YtpeabpmnlmaabaaGreatDoorYb
import Derived.Laws.RangeString
set_option maxHeartbeats 8000000
set_option linter.all false
namespace Go.ba
open Go.RowKit (Below)
section
variable{C:aL}{S da:c6}{ad dE:Nat->Prop}{h S':R af}{j am bm:Nat}{w b0:World}
section
variable{dg:Array TypeId}{ty st iW ei:TypeId}{i:TypeInfo}{dM:TypeDesc}{X bu:Value}{n:Nat}{k:List D}
def adN(Y:dn C S ad h j bm w)(ez:bm<=w.heap.size){s:D}{base:Option Addr}{g7 lF:Nat}{bG:List D}{res:eb}(uU:bu.cells.size=i.size)
 (aY:dg[0]? =some st)(J:dg[1]? =some iW)(dj:C.P.underlying st=some (.slice ei))(h6:C.P.underlying iW=some dM)(aN:C.P.info? ei=some i)(cm:i.zero=some bu)(eN:0<i.size)(oi:i.bytes<=65536)
 (bU:yl C.P w dM X i bu n (b2 S k).toArray)(iB:eu ad k)(az:k.length=n*i.size)(Tq:eu ad bG)(oo:bG.length=g7*i.size)(aF:¬(g7+n<=lF))(aD:aO S s= .slice base g7 lF)
 (bh:(Builtin.firstCells i.size g7 (.slice base g7 lF)).run C.P w.drew= .ok (b2 S bG).toArray w.drew)(a:uG C h j (g7+n) i.size (bG++k)=some res):
 M6 C S ad h j bm w (Builtin.append_ dg ty #[aO S s,X]) res:=by
 obtain⟨xB,rfl⟩:=adL a
 obtain⟨da,dE,b0,e8,fR,hY,pj⟩:=adM (ty:=ty) Y ez (S':=h) uU aY J dj h6 aN cm eN oi bU iB az Tq oo aF aD bh xB (aK:=bi C h j (some (.cells (R.ofList (bG++k) 0 .nil) (bG++k).length (.grow [])))) []
  (by rw[ge _ Y.a6,Zp rfl]) Y (λx ae=> .inl (by rw[ge _ Y.a6,Zh ae])) (λx ae _=>by rw[ge _ Y.a6,Zh ae]) Zs
 exact⟨_,_,_,rfl,da,dE,b0,e8,fR,hY,pj,Z8 _⟩
def abQ(Y:dn C S ad h j bm w)(ez:bm<=w.heap.size)(uU:bu.cells.size=i.size){s:D}{res:eb}
 (aY:dg[0]? =some st)(J:dg[1]? =some iW)(dj:C.P.underlying st=some (.slice ei))(h6:C.P.underlying iW=some dM)(aN:C.P.info? ei=some i)(cm:i.zero=some bu)(eN:0<i.size)(oi:i.bytes<=65536)
 (bU:yl C.P w dM X i bu n (b2 S k).toArray)(iB:eu ad k)(az:k.length=n*i.size)(an:cj ad s)(g6:0<n)(a:yy C h j i.size n k s=some res):
 M6 C S ad h j bm w (Builtin.append_ dg ty #[aO S s,X]) res:=by
 unfold yy at a
 split at a
 ·refine adN (g7:=0) (lF:=0) (bG:=[]) (base:=none) Y ez uU aY J dj h6 aN cm eN oi bU iB az trivial Zs Zo rfl ?_ (by simpa using a)
  simp[Builtin.firstCells,b2]
 ·rename_i b V len cap
  rw[fF]at a
  split at a
  ·rename_i nc
   have nc:=jQ nc
   split at a
   ·rename_i S' bw
    simp at a;subst a
    obtain⟨b0,bW,cq,cS⟩:=RZ Y (df:=j) an iB bw
    refine⟨_,_,_,rfl,S,ad,b0, ?_,an,cq,cS,Zj _⟩
    simp only[aO]
    refine Nr aY J dj h6 aN cm bU nc ?_
    rw[r3,ZJ]
    exact bW
   ·simp at a
  ·rename_i nc
   have nc:¬(len+n<=cap):=λaj=>nc (by simpa using aj)
   split at a
   ·rename_i eZ om
    obtain⟨bW,cq⟩:=arf (bs:=i.size) (cap:=cap) Y an om
    exact adN Y ez uU aY J dj h6 aN cm eN oi bU iB az cq (Ss om) nc rfl bW a
   ·simp at a
 ·rename_i b V len x5
  simp only[e5]at a
  obtain⟨bz,a⟩:=a
  have bz:=Zl bz
  subst bz
  exact aoD Y ez uU aY J dj h6 aN cm eN oi bU iB az an g6 a
 ·simp at a
end
def Ru(C:aL)(S:c6)(ad:Nat->Prop)(h:R af)(j bm:Nat)(w:World)(s:Sem Value)(res:eb):Prop:=
 M6 C S ad h j bm w s res\/∃v,res= .val v/\cj ad v/\s.run C.P w= .ok (aO S v) w
def abD(Y:dn C S ad h j bm w)(ez:bm<=w.heap.size){dg:Array TypeId}{ty st iW:TypeId}{dM:TypeDesc}{s x:D}{res:eb}
 (aY:dg[0]? =some st)(J:dg[1]? =some iW)(h6:C.P.underlying iW=some dM)(xv:dM= .string\/∃E,dM= .slice E)(an:cj ad s)(fG:cj ad x)(a:Gt C h j st s x=some res):
 Ru C S ad h j bm w (Builtin.append_ dg ty #[aO S s,aO S x]) res:=by
 unfold Gt at a
 split at a
 ·rename_i ei dj
  split at a
  ·rename_i i aN
   split at a
   ·rename_i n k kA
    simp only[e5,Zq]at a
    obtain⟨⟨⟨eN,oi⟩,PO⟩,a⟩:=a
    have eN:=lS eN
    have oi:=jQ oi
    obtain⟨bu,cm,uU⟩:∃bu,i.zero=some bu/\bu.cells.size=i.size:=by
     unfold ajz at PO
     split at PO
     ·rename_i bu cm
      exact⟨bu,cm,Zl PO⟩
     ·simp at PO
    obtain⟨bU,iB,az⟩:=aBI (bu:=bu) Y fG xv kA
    rw[h1]at a
    split at a
    ·rename_i aF
     subst aF
     have:k=[]:=List.length_eq_zero_iff.1 (by rw[az];simp)
     subst this
     obtain⟨v,e8,fR,hY⟩:=abR (ty:=ty) Y aY J dj h6 aN eN (aoE bU) an a
     exact .inr ⟨v,e8,fR,hY⟩
    ·exact .inl (abQ Y ez uU aY J dj h6 aN cm eN oi bU iB az an Zo a)
   ·simp at a
  ·simp at a
 ·simp at a
def aoc(Y:dn C S ad h j bm w)(ez:bm<=w.heap.size){dg:Array TypeId}{ty st iW:TypeId}{aj:IntKind}{s x:D}{n:Nat}{res:eb}
 (aY:dg[0]? =some st)(J:dg[1]? =some iW)(h6:C.P.underlying iW=some (.int aj))(an:cj ad s)(ae:nP x=some n)(a:Nl C h j st s n=some res):
 Ru C S ad h j bm w (Builtin.append_ dg ty #[aO S s,aO S x]) res:=by
 obtain⟨y,rfl⟩:=E9 ae
 unfold Nl at a
 split at a
 ·rename_i ei dj
  split at a
  ·rename_i i bu aN lZ
   simp only[e5,Zq]at a
   obtain⟨⟨⟨⟨eN,oi⟩,H0⟩,B7⟩,a⟩:=a
   have eN:=lS eN
   have oi:=jQ oi
   have B7:=jQ B7
   have H0:bu.cells.length=i.size:=Zl H0
   have cm:i.zero=some (aO S bu)/\cj ad bu:=by
    unfold ui at lZ
    rw[aN]at lZ
    simp only at lZ
    split at lZ
    ·rename_i ac bc
     obtain⟨E,g⟩:=Qn (S:=S) (ad:=ad) lZ
     exact⟨by rw[bc,E],g⟩
    ·simp at lZ
   rw[h1]at a
   split at a
   ·rename_i aF
    subst aF
    obtain⟨v,e8,fR,hY⟩:=abR (ty:=ty) Y aY J dj h6 aN eN (.inr ⟨⟨aj,rfl⟩,y,rfl⟩) an a
    exact .inr ⟨v,e8,fR,hY⟩
   ·rename_i aF
    have bU:yl C.P w (.int aj) (aO S (.int y (Int.ofNat n))) i (aO S bu) n (b2 S (lh n bu.cells)).toArray:=
     .inr ⟨⟨aj,rfl⟩,⟨y,rfl⟩,B7,oi,zq (Nat.mul_pos (Nat.pos_of_ne_zero aF) eN),(aDn S bu n).symm⟩
    exact .inl (abQ Y ez (by rw[vt];simp[kd,H0]) aY J dj h6 aN cm.1 eN oi bU (Tt (vu cm.2) n) (by rw[Fy,H0]) an Zo a)
  ·simp at a
 ·simp at a
end
section
variable{C:aL}{S da:c6}{ad dE:Nat->Prop}{h S':R af}{j am bm:Nat}{w b0:World}
def ny(C:aL)(S:c6)(ad:Nat->Prop)(h:R af)(j bm:Nat)(w:World)(s:Sem Value)(v:D)(S':R af)(am:Nat):Prop:=
 ∃da dE b0,s.run C.P w= .ok (aO da v) b0/\cj dE v/\dn C da dE S' am bm b0/\iZ C j S ad h bm w da dE S' b0/\j<=am
def ny.done{s:Sem Value}{v:D}(a:ny C S ad h j bm w s v S' am):Bc C S ad h j bm w (do pure (.value (<-s))) v S' am:=by
 obtain⟨da,dE,b0,J,Q,ak,ay,bt⟩:=a
 exact⟨da,dE,b0, .value (aO da v),by simp[J], .inl rfl,Q,ak,ay,bt⟩
def ny.same(Y:dn C S ad h j bm w){s:Sem Value}{v:D}(a:s.run C.P w= .ok (aO S v) w)(g:cj ad v):ny C S ad h j bm w s v h j:=
 ⟨S,ad,w,a,g,Y, .refl,Zj _⟩
def Mc(Y:dn C S ad h j bm w)(ez:bm<=w.heap.size){s:Sem Value}{v:D}{cV:af}{V:Obj}(aD:s.run C.P w= .ok (aO (gI S j ⟨w.heap.size,0,0⟩) v) (w.alloc V))(fx:cj (add ad j) v)
 (bh:kr C (gI S j ⟨w.heap.size,0,0⟩) (add ad j) cV ⟨w.heap.size,0,0⟩ (w.alloc V))(sl:wO C (add ad j) cV):ny C S ad h j bm w s v (bi C h j (some cV)) (j+1):=by
 have ag:=Y.a6
 refine⟨_,_,_,aD,fx,Y.alloc ag (Yh _) (Z8 _) (sD Y) ez rfl (by rw[ge _ ag,Zp rfl]) (λx ae=> .inl (by rw[ge _ ag,Zh ae])) bh sl, ?_,Z8 _⟩
 exact⟨rO (sD Y),λ_ a=> .inl a,λx a=>a.elim .inl (λa=> .inr Zo),λx ae az=>by rw[ge _ ag,Zh Zo],Below.alloc (Below.refl bm w) ez V⟩
def Mb{V:af}{y:Nat->D}{res:eb}(a:nQ C h j V y=some res):res= .fq (y j) (bi C h j (some V)) (j+1):=by
 unfold nQ at a
 simp only[mE,hv,Zf]at a
 exact a.symm
def aFp(Y:dn C S ad h j bm w){t:Nat}{m y:Operand}{av:Operand->Value}{eE:Operand->Option D}{res:eb}(cD:jN S ad av eE [m,y])(a:Kz C t m y h j eE=some res):
 ∃v S',res= .fq v S' j/\ny C S ad h j bm w (Instr.mapEntry t (av m) (av y)) v S' j:=by
 simp[Kz]at a
def aDI(Y:dn C S ad h j bm w){t:Nat}{m s x:Operand}{av:Operand->Value}{eE:Operand->Option D}{res:eb}(cD:jN S ad av eE [m,s,x])(a:Ks C m s x h j eE=some res):
 ∃S' b0,res= .fq undef S' j/\(Instr.entryStore t (av m) (av s) (av x)).run C.P w= .ok () b0/\dn C S ad S' j bm b0/\iZ C j S ad h bm w S ad S' b0:=by
 simp[Ks]at a
def ayc(Y:dn C S ad h j bm w)(ez:bm<=w.heap.size){t:Nat}{k c:Operand}{av:Operand->Value}{eE:Operand->Option D}{res:eb}(cD:jN S ad av eE [k,c])(a:Ky C t k c h j eE=some res):
 ∃v S' am,res= .fq v S' am/\ny C S ad h j bm w (Instr.makeSlice t (av k) (av c)) v S' am:=by
 unfold Ky at a
 split at a
 ·rename_i ei aFl vs bc az ax
  obtain⟨ux,_⟩:=cD k Zs _ az
  obtain⟨aqo,_⟩:=cD c Zs _ ax
  rw[ux,aqo]
  split at a
  ·rename_i V5 lT i bu d2 xt aN cm
   obtain⟨cN,rfl⟩:=E9 d2
   obtain⟨cB,rfl⟩:=E9 xt
   simp only[e5,Zq]at a
   obtain⟨⟨⟨⟨⟨J,Q⟩,ak⟩,ay⟩,bt⟩,a⟩:=a
   have J:=jQ J
   have Q:=jQ Q
   have ak:=jQ ak
   have ay:=lS ay
   have bt:bu.cells.length=i.size:=Zl bt
   have:=Mb a;subst this
   obtain⟨f1,fD⟩:=FB cm S ad w
   refine⟨_,_,_,rfl,Mc Y ez (V:= .cells (b2 S (lh lT bu.cells)).toArray ei) ?_ (.inr rfl) ?_ ⟨λ_ _ _ a=>(by cases a),λ_ _ _ a=>(by cases a;rw[<-bt, <-Fy];exact It)⟩⟩
   ·have n2:=wrap_small (n:=V5) Zo
    have qZ:=wrap_small Q
    have o4:¬((281474976710656:Int)<(i.bytes:Int)*(lT:Int)):=by
     rw[Int.mul_comm];exact Sk Q ak
    have tp:¬((lT:Int)<0):=Zo
    have om:¬((V5:Int)<0):=Zo
    have UB:¬((lT:Int)<(V5:Int)):=Zo
    have HP:=aij S bu.cells i.size lT bt (if lT*i.size=0 then #[]else(aO S bu).cells) (λdS=>by rw[Zh dS,vt])
    by_cases lZ:lT*i.size=0
    ·rw[Zp lZ]at HP
     rw[<-HP]
     simp[Instr.makeSlice,run_underlying bc,aO,asInt,asIntOf,typeInfo,aN,n2,qZ,o4,tp,om,UB,sizeOf,lZ,newRow,lK]
    ·rw[Zh lZ]at HP
     rw[<-HP]
     simp[Instr.makeSlice,run_underlying bc,aO,asInt,asIntOf,typeInfo,aN,n2,qZ,o4,tp,om,UB,sizeOf,lZ,newRow,lK,f1]
   ·have g:=Tt (vu fD) lT
    have:=NC (C:=C) (S:=gI S j ⟨w.heap.size,0,0⟩) (ad:=add ad j) (sc (λ_ a=> .inl a) _ g) ei 0 w
    rw[yF (rO (sD Y)) g,Fy,bt]at this
    exact this
  ·simp at a
 ·simp at a
def aya(Y:dn C S ad h j bm w)(ez:bm<=w.heap.size){t:Nat}{r:Operand}{av:Operand->Value}{eE:Operand->Option D}{res:eb}(cD:jN S ad av eE [r])(a:Kx C t r h j eE=some res):
 ∃v S' am,res= .fq v S' am/\ny C S ad h j bm w (Instr.makeMap t (some (av r))) v S' am:=by
 unfold Kx at a
 split at a
 ·rename_i j6 BD aj n bc ae
  obtain⟨E,_⟩:=cD r Zs _ ae
  have:=Mb a;subst this
  refine⟨_,_,_,rfl,Mc Y ez (V:= .map #[] 0) ?_ (.inr rfl) ⟨#[],vR _ _,rfl,Zs⟩ ⟨λ_ _ _ a=>(by cases a),λ_ _ _ a=>(by cases a)⟩⟩
  simp[Instr.makeMap,run_underlying bc,E,aO,asInt,asIntOf,lK]
 ·simp at a
def aAm(Y:dn C S ad h j bm w)(ez:bm<=w.heap.size){t:Nat}{x:Operand}{av:Operand->Value}{eE:Operand->Option D}{res:eb}(cD:jN S ad av eE [x])(a:KA C t x h j eE=some res):
 ∃v S' am,res= .fq v S' am/\ny C S ad h j bm w (Instr.range t (av x)) v S' am:=by
 have dP:=rO (S:=S) (pl:=⟨w.heap.size,0,0⟩) (sD Y)
 unfold KA at a
 split at a
 ·rename_i s bc ae
  obtain⟨E,g⟩:=cD x Zs _ ae
  have:=Mb a;subst this
  refine⟨_,_,_,rfl,Mc Y ez (V:= .stringIter (gj s) 0) ?_ (.inr rfl) ⟨rfl,vR _ _,g⟩ ⟨λ_ _ _ a=>(by cases a),λ_ _ _ a=>(by cases a)⟩⟩
  simp[Instr.range,run_underlying bc,E,aO,lK]
 ·rename_i j6 BD bc ae
  obtain⟨E,g⟩:=cD x Zs _ ae
  have:=Mb a;subst this
  refine⟨_,_,_,rfl,Mc Y ez (V:= .mapIter none 0 #[] 0) ?_ (.inr rfl) ⟨rfl,vR _ _,Zs⟩ ⟨λ_ _ _ a=>(by cases a),λ_ _ _ a=>(by cases a)⟩⟩
  simp[Instr.range,run_underlying bc,E,aO,lK]
 ·rename_i j6 BD r bc ae
  obtain⟨E,g⟩:=cD x Zs _ ae
  split at a
  ·rename_i ca fa bh
   have:=Mb a;subst this
   obtain⟨co,a7,b6,a3,a4⟩:=L4 Y g bh
   refine⟨_,_,_,rfl,Mc Y ez (V:= .mapIter (some (S r).cJ) fa #[] fa) ?_ (.inr rfl) ⟨rfl, ?_,λb ag=>by cases ag;exact .inl g⟩ ⟨λ_ _ _ a=>(by cases a),λ_ _ _ a=>(by cases a)⟩⟩
   ·simp[Instr.range,run_underlying bc,E,aO,lK,a7]
   ·rw[vR];simp only[ZR,dP r g]
  ·simp at a
 ·simp at a
end
section
variable{C:aL}{S da:c6}{ad dE:Nat->Prop}{h S':R af}{j am bm:Nat}{w b0:World}
def ahd(n:Nat):∀k,rB n k=k.contains n:=by
 intro k
 induction k with
 |nil=>rfl
 |cons F k ai=>simp only[rB,List.contains_cons,ai];congr 1;rw[Ya,YZ];exact⟨Zl,λa=>by rw[a];exact zb _⟩
def RF(C:aL)(S:c6)(ad:Nat->Prop)(h:R af)(j bm:Nat)(w:World)(s:Sem Value)(res:eb):Prop:=match res with
 | .val v=>ny C S ad h j bm w s v h j
 | .fq v S' am=>ny C S ad h j bm w s v S' am
 | .fork k=>∃v S',(v,S')∈k/\ny C S ad h j bm w s v S' j
 |_=>False
def ayD(Y:dn C S ad h j bm w){eO:Operand}{Aw:Bool}{ty:TypeId}{av:Operand->Value}{eE:Operand->Option D}{res:eb}(cD:jN S ad av eE [eO])(a:xn C eO Aw h j eE=some res):
 RF C S ad h j bm w (Instr.next (av eO) Aw ty) res:=by
 unfold xn at a
 split at a
 ·rename_i r ae
  obtain⟨E,mg⟩:=cD eO Zs _ ae
  simp only[e5]at a
  obtain⟨KP,a⟩:=a
  have ag:C.a6<=r:=jQ KP
  rw[E]
  split at a
  ·rename_i s pos bh
   obtain⟨mm,J,Q⟩:=Y.obj r _ bh mg
   have U:(getObj (S r).cJ).run C.P w= .ok (.stringIter (gj s) pos) w:=by simp[getObj,Sem.run,J]
   have eN:(gj s).size=s.length:=by simp[gj,ByteArray.size]
   rw[fF]at a
   split at a
   ·rename_i aw
    have aw:=lS aw
    rw[qL]at a
    split at a
    ·rename_i c ax
     simp only[e5]at a
     obtain⟨T8,a⟩:=a
     have T8:=lS T8
     obtain⟨rfl,_⟩:=W0 a
     obtain⟨b0,bW,cq,cS⟩:=putObj Y (df:=j) (pg:= .pm s (pos+1)) (o':= .stringIter (gj s) (pos+1)) ag mg bh ⟨Zs,Zs⟩ J Zs (λb0 tI=>⟨mm,tI,Q⟩) ⟨λ_ _ _ a=>(by cases a),λ_ _ _ a=>(by cases a)⟩
     refine⟨S,ad,b0, ?_,⟨trivial,trivial,trivial,trivial⟩,cq,cS,Zj _⟩
     have c2:pos<(gj s).size:=by rw[eN];exact aw
     have aex:((gj s)[pos]'c2).toNat=c:=by
      show((gj s).data[pos]).toNat=c
      have aD:s[pos]=c:=by
       rw[Ze aw]at ax
       exact Yu ax
      simp[gj,aD];omega
     have OW:=decode_ascii (gj s) pos c2 (by rw[aex];exact T8)
     rw[aex]at OW
     simp[Instr.next,aO,b2,mm,U,eN,aw,OW,bW,goInt]
    ·simp at a
   ·rename_i aw
    have aw:¬pos<s.length:=λaj=>aw (by simp[Nat.blt];omega)
    simp at a;subst a
    refine ny.same Y ?_ ⟨trivial,trivial⟩
    simp[Instr.next,aO,b2,mm,U,eN,aw]
  ·rename_i wx seen aiJ bh
   obtain⟨mm,J,Q⟩:=Y.obj r _ bh mg
   have U:(getObj (S r).cJ).run C.P w= .ok (.mapIter none wx seen.toArray aiJ) w:=by simp[getObj,Sem.run,J]
   simp at a;subst a
   refine ny.same Y ?_ ⟨trivial,trivial⟩
   simp[Instr.next,aO,b2,mm,U]
  ·simp at a
 ·simp at a
end
section
variable{C:aL}{S da:c6}{ad dE:Nat->Prop}{h S':R af}{j am bm:Nat}{w b0:World}
def arw(w:World)(co:Array Value)(E:TypeId)(n:Nat):(w.alloc (.cells co E)).freeze ⟨w.heap.size,n,none⟩ 1=w.alloc (.cells co E (n,n+1)):=by
 unfold World.freeze
 rw[Zh Zd]
 show({w with heap:=(w.heap.push (.cells co E)).modify w.heap.size _}:World)={w with heap:=w.heap.push (.cells co E (n,n+1))}
 congr 1
 apply Array.ext_getElem?
 intro y
 rw[Y2,Array.getElem?_push,Array.getElem?_push]
 by_cases aH:w.heap.size=y
 ·subst aH;simp
 ·rw[Zh aH,Zh (λE=>aH E.symm),Zh (λE=>aH E.symm)]
def arv{p:Nat}{co:Array Value}{ty:TypeId}{bG aN:Nat}(a:w.heap[p]? =some (.cells co ty (bG,aN)))(n:Nat):
 (w.freeze ⟨p,n,none⟩ 1).heap[p]? =some (.cells co ty (if bG==aN then(n,n+1)else(min bG n,max aN (n+1))))/\(∀y,y≠p->(w.freeze ⟨p,n,none⟩ 1).heap[y]? =w.heap[y]?):=by
 unfold World.freeze
 rw[Zh Zd]
 constructor
 ·simp only[Y2,ZE,a,ZR]
 ·intro y aH
  simp only[Y2]
  rw[Zh (λE=>aH E.symm)]
def aCc(Y:dn C S ad h j bm w)(ez:bm<=w.heap.size){s d:Nat}{x:Operand}{av:Operand->Value}{eE:Operand->Option D}{res:eb}(cD:jN S ad av eE [x])(a:KC C s d x h j eE=some res):
 RF C S ad h j bm w (convert s d (av x)) res:=by
 unfold KC at a
 split at a
 ·rename_i E k aD aE ae
  obtain⟨ex,g⟩:=cD x Zs _ ae
  split at a
  ·rename_i bz
   obtain⟨f4,rfl⟩:=adL a
   rw[ex]
   have eN:(gj k).size=k.length:=by simp[gj,ByteArray.size]
   have aEX:(gj k).data.size=k.length:=by simp[gj]
   have ax:=aiK S k g
   have arX:eu ad (k.map λn=>D.int .u8 (Int.ofNat n)):=by
    rw[vB];intro v bv;obtain⟨e,_,rfl⟩:=ZG.1 bv;trivial
   obtain⟨cap,nc,uL⟩:∃cap,k.length<=cap/\(choose (.appendCap k.length 0 E)).run C.P w= .ok cap w.drew:=
    ⟨k.length+(w.tape w.drawn (.appendCap k.length 0 E))%(2^63-k.length),Zo,by simp[Question.forced,Question.cut]⟩
   have PD:(k.map λn=>D.int .u8 (Int.ofNat n)).length+(Array.replicate (cap-k.length) (Value.int .u8 0)).size=cap*1:=by simp;omega
   have KL:=adO (C:=C) (S:=S) (w:=w) (j:=j) arX (sD Y) PD E []
   have Ah:kr C (gI S j ⟨w.heap.size,0,cap*1⟩) (add ad j) (.cells (R.ofList (k.map λn=>D.int .u8 (Int.ofNat n)) 0 .nil) (k.map λn=>D.int .u8 (Int.ofNat n)).length (.grow [])) ⟨w.heap.size,0,cap*1⟩
    (w.drew.alloc (.cells ((b2 S (k.map λn=>D.int .u8 (Int.ofNat n))).toArray++Array.replicate (cap-k.length) (Value.int .u8 0)) E (cap,cap+1))):=by
    obtain⟨co,ty,bG,aN,bZ,cu,c0,fE⟩:=KL
    have abX:=vR w.drew (.cells ((b2 S (k.map λn=>D.int .u8 (Int.ofNat n))).toArray++Array.replicate (cap-k.length) (Value.int .u8 0)) E)
    have avO:w.drew.heap.size=w.heap.size:=rfl
    rw[avO]at abX
    rw[abX]at bZ
    cases bZ
    refine⟨_,E,cap,cap+1,vR w.drew _,⟨.inr ?_,cu.2.1,cu.2.2⟩,c0,fE⟩
    simp[kd];omega
   refine⟨gI S j ⟨w.heap.size,0,cap*1⟩,add ad j,_, ?_, .inr rfl,Y.drew.alloc Y.a6 (Yh _) (Z8 _) (sD Y) ez rfl (by rw[ge _ Y.a6,Zp rfl]) (λx ae=> .inl (by rw[ge _ Y.a6,Zh ae])) Ah
    ⟨λ_ _ _ a=>(by cases a;simp),λ_ _ _ a=>(by cases a;exact It)⟩,SZ Y ez _ (λx ae _=>by rw[ge _ Y.a6,Zh ae]),Z8 _⟩
   have avE:((b2 S (k.map λn=>D.int .u8 (Int.ofNat n))).toArray++Array.replicate (cap-k.length) (Value.int .u8 0)).size=cap:=by simp[kd];omega
   have qA:=arw w.drew ((b2 S (k.map λn=>D.int .u8 (Int.ofNat n))).toArray++Array.replicate (cap-k.length) (Value.int .u8 0)) E cap
   have Uu:w.drew.heap.size=w.heap.size:=rfl
   rw[Uu]at qA
   have Vd:(w.drew.alloc (.cells ((b2 S (k.map λn=>D.int .u8 (Int.ofNat n))).toArray++Array.replicate (cap-k.length) (Value.int .u8 0)) E)).shape? w.heap.size=some (E,cap):=by
    have:=vR w.drew (.cells ((b2 S (k.map λn=>D.int .u8 (Int.ofNat n))).toArray++Array.replicate (cap-k.length) (Value.int .u8 0)) E)
    rw[Uu]at this
    simp only[World.shape?,this,avE]
   simp only[convert,Sem.run_bind,run_underlying aD,run_underlying aE,run_underlying bz,Result.andThen_ok,aO,Conv.stringToBytes,eN,uL,ax,newRow,run_newObj_alloc,Uu,Sem.run_pure,markStringish,run_shape,Vd,run_freeze,qA,
    lK,ZS,YL,Z5,Nat.div_one]
  ·simp at a
 ·rename_i ux E b V len cap aD aE ae
  obtain⟨ex,g⟩:=cD x Zs _ ae
  split at a
  ·rename_i bz
   simp only[e5,Zq]at a
   obtain⟨⟨Vc,KP⟩,a⟩:=a
   have Vc:s=d:=Zl Vc
   subst Vc
   have ag:C.a6<=b:=jQ KP
   rw[ex]
   have fin:∀(c:R D) (n:Nat) (st:oP),U C h b=some (.cells c n st)->(st= .own\/st= .marked)->∀S',U C S' b=some (.cells c n .marked)->(∀x,x≠b->U C S' x=U C h x)->
    ny C S ad h j bm w (convert s s (aO S (.slice b V len cap))) (.slice b V len cap) S' j:=by
    intro c n st bh dj S' de dO
    obtain⟨co,ty,bG,aN,a7,b6,a3,a4⟩:=Y.obj b _ bh g
    have nb:M4 (.cells c n st):=by rcases dj with rfl|rfl<;>exact⟨Zs,Zs⟩
    have Hw:bG=aN\/co.size<=bG:=by rcases dj with rfl|rfl;exact .inl b6;exact b6
    obtain⟨eQ,fd⟩:=arv a7 co.size
    have B0:=Y.base b _ ag bh g
    have La:∃sw lz,(if bG==aN then(co.size,co.size+1)else(min bG co.size,max aN (co.size+1)))=(sw,lz)/\co.size<=sw:=by
     by_cases aj:bG=aN
     ·exact⟨_,_,by rw[Zp (by simpa using aj)],Zj _⟩
     ·refine⟨_,_,by rw[Zh (by simpa using aj)], ?_⟩
      have:=Hw.resolve_left aj
      omega
    obtain⟨sw,lz,bD,cG⟩:=La
    rw[bD]at eQ
    refine⟨S,ad,w.freeze ⟨(S b).cJ,co.size,none⟩ 1, ?_,g,Y.put ag g bh de (λx ae=> .inl (dO x ae)) (λy aH=>fd y aH) ?_ ⟨co,ty,sw,lz,eQ, .inr cG,a3,a4⟩ ⟨λ_ _ _ a=>(by cases a),λ_ _ _ a=>(by cases a;exact(Y.fz b _ bh g).2 _ _ _ rfl)⟩, ?_,Zj _⟩
    ·have Vd:w.shape? (S b).cJ=some (ty,co.size):=WS a7
     have ats:(s==s)=true:=by simp
     simp only[convert,Sem.run_bind,run_underlying aD,Result.andThen_ok,aO]
     rw[aD]at aE
     cases aE
     simp only[ats,run_underlying bz,Sem.run_bind,Result.andThen_ok,markStringish,run_shape,Vd,run_freeze,Sem.run_pure]
    ·intro x dq dS ae dM e6
     rw[dO x dS]at ae
     exact Y.alone ag g bh nb x dq dS ae dM e6
    ·refine⟨λ_ _=>rfl,λ_ a=>a,λ_ a=> .inl a,λx ae _=>dO x (λE=>ae (by rw[E];exact g)), ?_⟩
     refine⟨?_, ?_, ?_, ?_,λy aH=>fd y Zo⟩<;>simp[World.freeze]
   split at a
   ·rename_i c n bh
    simp only[hv,Zf]at a
    subst a
    exact fin c n .own bh (.inl rfl) _ (by rw[ge _ ag,Zp rfl]) (λx ae=>by rw[ge _ ag,Zh ae])
   ·rename_i c n bh
    simp only[Zf]at a
    subst a
    exact fin c n .marked bh (.inr rfl) h bh (λ_ _=>rfl)
   ·simp at a
  ·simp at a
 ·simp at a
end
def i1(C:aL)(S:c6)(ad:Nat->Prop)(h:R af)(j bm:Nat)(w:World)(s:Sem Next)(res:eb):Prop:=match res with
 | .val v=>Bc C S ad h j bm w s v h j
 | .fq v S' am=>Bc C S ad h j bm w s v S' am
 | .fork k=>∃v S',(v,S')∈k/\Bc C S ad h j bm w s v S' j
 | .enter f args=>s.run C.P w= .ok (.enter f (b2 S args).toArray) w/\eu ad args
 | .known f args v=>C.hu f args=some v/\s.run C.P w=(callFunc f (b2 S args).toArray).run C.P w/\eu ad args
 | .round k args=>s.run C.P w=(Instr.yield (S k).cJ (b2 S args).toArray).run C.P w/\eu ad args/\ad k
 | .defer d=>s.run C.P w= .ok (.defer (ma S d)) w/\xf ad d
 | .recover=>s.run C.P w= .ok .recover w
 | .panic v=>s.run C.P w= .halt (.panic (aO S v)) w/\cj ad v
section
variable{C:aL}{S da:c6}{ad dE:Nat->Prop}{h S':R af}{j am bm:Nat}{w b0:World}
def i1.one{s:Sem Value}{res:eb}(a:RF C S ad h j bm w s res):i1 C S ad h j bm w (do pure (.value (<-s))) res:=by
 cases res with
 |val v=>exact ny.done a
 |fq v S' am=>exact ny.done a
 |fork k=>obtain⟨v,S',J,Q⟩:=a;exact⟨v,S',J,Q.done⟩
 |_=>exact a.elim
def i1.fq{s:Sem Value}{res:eb}(a:∃v S' am,res= .fq v S' am/\ny C S ad h j bm w s v S' am):i1 C S ad h j bm w (do pure (.value (<-s))) res:=by
 obtain⟨v,S',am,rfl,a⟩:=a
 exact a.done
def i1.app(Y:dn C S ad h j bm w){s:Sem Value}{res:eb}(a:Ru C S ad h j bm w s res):i1 C S ad h j bm w (do pure (.value (<-s))) res:=by
 rcases a with ⟨v,S',am,rfl,da,dE,b0,J,Q,ak,ay,bt⟩|⟨v,rfl,J,Q⟩
 ·exact ny.done ⟨da,dE,b0,J,Q,ak,ay,bt⟩
 ·exact ny.done (.same Y Q J)
def i1.unit{s:Sem Unit}{res:eb}(a:∃S' b0,res= .fq undef S' j/\s.run C.P w= .ok () b0/\dn C S ad S' j bm b0/\iZ C j S ad h bm w S ad S' b0):
 i1 C S ad h j bm w (do s;pure .skip) res:=by
 obtain⟨S',b0,rfl,J,Q,ak⟩:=a
 exact⟨S,ad,b0, .skip,by simp[J], .inr ⟨rfl,rfl⟩,by trivial,Q,ak,Zj _⟩
def i1.congr{s eX:Sem Next}{res:eb}(a:s.run C.P w=eX.run C.P w)(y:i1 C S ad h j bm w eX res):i1 C S ad h j bm w s res:=by
 cases res<;>simp only[i1,Bc]at y ⊢ <;>rw[a]<;>exact y
def Sp(kE:yr C.P){f:Nat}{args:List D}{res:eb}(g:eu ad args)(a:s7 C f args=some res):i1 C S ad h j bm w (callFunc f (b2 S args).toArray) res:=by
 unfold s7 at a
 split at a
 ·rename_i v bv
  simp at a;subst a
  exact⟨bv,rfl,g⟩
 ·split at a
  ·rename_i fn cb
   split at a
   ·rename_i c ag
    simp at a;subst a
    refine⟨?_,g⟩
    have aF:fn.name≠ "runtime.NumGoroutine":=by simpa using kE.num f fn cb (by simp[ag])
    simp[callFunc,cb,aF,ag]
   ·simp at a
  ·simp at a
def agl(kE:yr C.P){fn:Fn}{fT args:List D}{res:eb}(G5:Of ad fn)(ii:eu ad fT)(gc:eu ad args)(a:Bo C fn fT args=some res):
 i1 C S ad h j bm w (invoke (.fn (nF S fn) (b2 S fT).toArray) (b2 S args).toArray) res:=by
 unfold Bo at a
 split at a
 ·rename_i f
  have E:invoke (.fn (nF S (.func f)) (b2 S fT).toArray) (b2 S args).toArray=callFunc f (b2 S (args++fT)).toArray:=by
   simp[invoke,nF,DI]
  rw[E]
  exact Sp kE (BM gc ii) a
 ·rename_i k
  simp at a;subst a
  exact⟨rfl,gc,G5⟩
 ·simp at a
def ayj(Y:dn C S ad h j bm w)(kE:yr C.P){t:Nat}{v:D}{name:String}{args:List D}{res:eb}(fx:cj ad v)(gc:eu ad args)(a:Gu C h t v name args=some res):
 i1 C S ad h j bm w (callMethod (.iface t (aO S v)) name (b2 S args).toArray) res:=by
 obtain⟨y,aH⟩:∃y,C.P.types.size+Made.depth=y+1:=⟨C.P.types.size+99,rfl⟩
 have go:∀(f:Nat) (x:D),cj ad x->(method (y+1) t (aO S v) name).run C.P w= .ok (f,aO S x) w->s7 C f (x::args)=some res->i1 C S ad h j bm w (callMethod (.iface t (aO S v)) name (b2 S args).toArray) res:=by
  intro f x fG bo ax
  refine(Sp (S:=S) (h:=h) (j:=j) (bm:=bm) (w:=w) kE (args:=x::args) (show cj ad x/\eu ad args from⟨fG,gc⟩) ax).congr ?_
  simp[callMethod,aH,bo,b2]
 unfold Gu at a
 split at a
 ·rename_i i aN
  split at a
  ·rename_i m bo
   simp only[e5]at a
   obtain⟨aw,a⟩:=a
   have HK:m.path.toList=[]:=by simpa using aw
   split at a
   ·rename_i f E cb bc
    refine go f v fx ?_ a
    simp[method,typeInfo,aN,bo,HK,follow,cb,receiverAt,run_underlying bc,Place.get]
   ·rename_i f E cb bc
    split at a
    ·rename_i x ae
     obtain⟨J,Q⟩:=abI Y fx ae
     refine go f x Q ?_ a
     cases v with
     |ptr b V=>
      simp only[Instr.loadAt,Instr.sureAddr,aO,Sem.run_bind,Sem.run_pure,Result.andThen_ok]at J
      have avJ:∀(iW:TypeId) (F:Addr) (nm:String),Builtin.ssaWrapNilChk_ #[iW] iW #[.pointer (some F),strVal "",strVal nm]=pure (.pointer (some F)):=λ_ _ _=>rfl
      have o9:m.path= #[]:=by simpa using aw
      simp[method,typeInfo,aN,bo,o9,follow,cb,receiverAt,run_underlying bc,Place.get,aO,avJ,asAddr,J]
     |_=>simp[l8,cZ,aI]at ae;split at ae<;>simp at ae
    ·simp at a
   ·rename_i f d aF cb bc
    refine go f v fx ?_ a
    cases d<;>first
     |exact(aF _ rfl).elim
     |simp[method,typeInfo,aN,bo,HK,follow,cb,receiverAt,run_underlying bc,Place.get]
   ·simp at a
  ·simp at a
 ·simp at a
def apc(Y:dn C S ad h j bm w)(ez:bm<=w.heap.size)(kE:yr C.P){b:Builtin}{args:Array Operand}{dg:Array TypeId}{ty:TypeId}{apJ:Array Bool}{av:Operand->Value}{eE:Operand->Option D}{res:eb}
 (cD:jN S ad av eE args.toList)(a:Kl C b args dg h j eE=some res):i1 C S ad h j bm w (builtin b dg ty apJ (args.map av)) res:=by
 have GA:∀{t:Nat}{rest:List Nat},dg.toList=t::rest->dg[0]? =some t:=λaA=>by rw[<-ZO,aA];rfl
 have R8:∀{t ac:Nat}{rest:List Nat},dg.toList=t::ac::rest->dg[1]? =some ac:=λaA=>by rw[<-ZO,aA];rfl
 unfold Kl at a
 split at a
 ·rename_i s x ae
  obtain⟨a7,b6⟩:=wW cD ae
  rw[a7]
  split at a
  ·rename_i st iW rest aA
   split at a
   ·rename_i aj h6
    split at a
    ·rename_i n aF
     exact i1.app Y (aoc (ty:=ty) Y ez (GA aA) (R8 aA) h6 b6.1 aF a)
    ·simp at a
   ·rename_i E h6
    exact i1.app Y (abD (ty:=ty) Y ez (GA aA) (R8 aA) h6 (.inr ⟨E,rfl⟩) b6.1 b6.2.1 a)
   ·rename_i h6
    exact i1.app Y (abD (ty:=ty) Y ez (GA aA) (R8 aA) h6 (.inl rfl) b6.1 b6.2.1 a)
   ·simp at a
  ·simp at a
 ·rename_i ae
  simp at a;subst a
  exact rfl
 ·simp at a
def aod(Y:dn C S ad h j bm w)(ez:bm<=w.heap.size)(kE:yr C.P){oper:Oper}{av:Operand->Value}{eE:Operand->Option D}{res:eb}(cD:jN S ad av eE oper.op.operands.toList)
 (a:n8 oper.op C h j eE=some res):i1 C S ad h j bm w (execOp av oper) res:=by
 obtain⟨dst,op,type,pos,after,guard⟩:=oper
 have ahh:∀t m y x,jN S ad av eE [m,y,x]->Hm C t m y x h j eE=some res->i1 C S ad h j bm w (do Instr.mapUpdate t (av m) (av y) (av x);pure .skip) res:=by
  intro t m y x cD a
  unfold Hm at a
  split at a
  ·rename_i F b c aA ag ax
   obtain⟨bD,bK⟩:=cD m Zs F aA
   obtain⟨cG,b1⟩:=cD y Zs b ag
   obtain⟨fV,cM⟩:=cD x Zs c ax
   obtain⟨S',b0,J,Q,ak,ay⟩:=aoj Y bK b1 cM a
   rw[bD,cG,fV]
   exact i1.unit ⟨S',b0,J,Q,ak,ay⟩
  ·simp at a
 cases op<;>simp only[n8]at a<;>(try(cases a;done))<;>simp only[execOp]<;>simp only[Op.operands]at cD
 case mapUpdate t m y x=>exact ahh t m y x (by simpa using cD) a
 case insert t m y x=>exact ahh t m y x (by simpa using cD) a
 case makeSlice t k c=>exact i1.fq (ayc Y ez (by simpa using cD) a)
 case makeMap t r=>
  cases r with
  |none=>simp at a
  |some r=>exact i1.fq (aya Y ez (by simpa using cD) a)
 case convert s d x=>exact i1.one (aCc Y ez (by simpa using cD) a)
 case range t x=>exact i1.fq (aAm Y ez (by simpa using cD) a)
 case next eO s=>exact i1.one (ayD Y (by simpa using cD) a)
 case panic x=>
  unfold TX at a
  split at a
  ·rename_i t v ae
   simp at a;subst a
   obtain⟨E,g⟩:=cD x Zs _ ae
   refine⟨?_,g⟩
   simp[Instr.panic,E,aO]
  ·simp at a
 case defer c=>
  unfold TG at a
  split at a
  ·rename_i f args dg
   split at a
   ·rename_i fn first fT cp cb has
    simp at a;subst a
    simp only[Call.operands]at cD
    obtain⟨E,g⟩:=cD f Zs _ cb
    obtain⟨a7,b6⟩:=wW (cD.mono (by simp;intro x ae;exact .inr ae)) has
    refine⟨?_,⟨g.1,g.2.2⟩,BM g.2.1 b6⟩
    simp[resolve,E,aO,Deferred.ofValue,a7,ma,DG,DI]
   ·simp at a
  ·simp at a
 case call c=>
  unfold D4 at a
  split at a
  ·rename_i f args dg
   split at a
   ·rename_i fn first fT cp cb has
    simp only[Call.operands]at cD
    obtain⟨E,g⟩:=cD f Zs _ cb
    obtain⟨a7,b6⟩:=wW (cD.mono (by simp;intro x ae;exact .inr ae)) has
    refine(agl (S:=S) (h:=h) (j:=j) (bm:=bm) (w:=w) kE g.1 g.2.2 (BM g.2.1 b6) a).congr ?_
    simp[resolve,E,aO,Deferred.ofValue,a7,DI]
   ·simp at a
  ·rename_i b args dg
   simp only[Call.operands]at cD
   show i1 C S ad h j bm w (builtin b dg type _ (args.map av)) res
   exact apc Y ez kE (cD.mono Zs) a
  ·rename_i r name args dg
   split at a
   ·rename_i t v cp Am has
    simp only[Call.operands]at cD
    obtain⟨E,g⟩:=cD r Zs _ Am
    obtain⟨a7,b6⟩:=wW (cD.mono (by simp;intro x ae;exact .inr ae)) has
    refine(ayj (v:=v) Y kE g b6 a).congr ?_
    simp[resolve,E,aO,invoke,a7]
   ·simp at a
end
noncomputable section
abbrev ec:=Option D
structure iL where
 fn:Nat
 n:Nat
 ao:Nat
 bd:List h0
 aB:Bool
 ro:Option Nat
 cs:List gY
abbrev hP:=ll->List dV->iL->R D->R af->Nat->ec
def pp(g:Option (Nat×Bool))(ap:List (Nat×D)):Option Bool:=
 match g with
 |none=>some true
 |some (T,l4)=>(match es ap T with
  |some v=>(match v with| .bool b=>some (b==l4)|_=>some false)
  |none=>none)
def nO(f:D->D->Bool):List D->List D->Bool
 |[],[]=>true
 |F::k,b::m=>f F b&&nO f k m
 |_,_=>false
def D.same:Nat->D->D->Bool
 |0,_,_=>false
 |d+1,x,e=>match x,e with
  | .bool F, .bool b=>F==b
  | .int y F, .int e2 b=>decide (y=e2)&&decide (F=b)
  | .str F, .str b=>mP F b
  | .ptr F b, .ptr fu dK=>Nat.beq F fu&&Nat.beq b dK
  | .cF, .cF=>true
  | .slice F b c E, .slice fu dK f9 iM=>Nat.beq F fu&&Nat.beq b dK&&Nat.beq c f9&&Nat.beq E iM
  | .fc F b c E, .fc fu dK f9 iM=>Nat.beq F fu&&Nat.beq b dK&&Nat.beq c f9&&Nat.beq E iM
  | .aT, .aT=>true
  | .map F, .map b=>Nat.beq F b
  | .mv, .mv=>true
  | .func f F b, .func ac2 fu dK=>decide (f=ac2)&&nO (D.same d) F fu&&nO (D.same d) b dK
  | .nilFunc, .nilFunc=>true
  | .iface t v, .iface hh hj=>Nat.beq t hh&&D.same d v hj
  | .nilIface, .nilIface=>true
  | .agg F, .agg b=>nO (D.same d) F b
  | .tuple F, .tuple b=>nO (D.same d) F b
  |_,_=>false
def w6(C:aL)(base:Nat)(H:R D):List fs->List (Nat×D)->R af->Option (List (Nat×D)×R af)
 |[],ap,h=>some (ap,h)
 |x::k,ap,h=>(match pp x.g ap with
  |none=>none
  |some false=>w6 C base H k ((x.i,undef)::ap) h
  |some true=>(match nn x.op with
   | .make=>(match o0 x.op C (base+x.i) ap H with
     |some (v,cV)=>jS (bi C h (base+x.i) (some cV)) λh=>w6 C base H k ((x.i,v)::ap) h
     |none=>none)
   |_=>(match g4 x.op C h ap H with
    |some v=>w6 C base H k ((x.i,v)::ap) h
    |none=>none)))
def DP(C:aL)(H:R D)(ap:List (Nat×D))(h:R af):List fs->Bool
 |[]=>true
 |x::k=>(match pp x.g ap with
  |none=>false
  |some false=>DP C H ap h k
  |some true=>(match g4 x.op C h ap H,es ap x.i with
   |some v,some ac=>D.same 30 v ac&&DP C H ap h k
   |_,_=>false))
def yO(ap:List (Nat×D)):List (Nat×Nat)->R D->Option (R D)
 |[],H=>some H
 |(i,d)::k,H=>(match es ap i with|some v=>jS (H.set d (some v)) λH=>yO ap k H|none=>none)
def exitTo(id:Nat):List dV->Option (List dV)
 |[]=>none
 | .inBlock uW::y=>bV (Nat.beq uW id) (some y)<|exitTo id y
 |_::y=>exitTo id y
def jK{α:Type}(V:Option α)(y:α->ec):ec:=Option.rec (motive:=λ_=>ec) none (λF=>y F) V
def JD(k:List (Nat×D)):Nat->(D->ec)->ec:=
 List.rec (motive:=λ_=>Nat->(D->ec)->ec) (λ_ _=>none)
  (λp _ ai T y=>Prod.rec (motive:=λ_=>ec) (λF b=>Bool.rec (motive:=λ_=>ec) (ai T y) (y b) (Nat.beq F T)) p) k
def Oc(t:R D):Nat->(D->ec)->ec:=
 R.rec (motive:=λ_=>Nat->(D->ec)->ec) (λ_ _=>none)
  (λv _ _ iB ri i y=>Nat.rec (motive:=λ_=>ec) (Option.rec (motive:=λ_=>ec) none (λF=>y F) v)
   (λT _=>Bool.rec (motive:=λ_=>ec) (ri (Nat.div T 2) y) (iB (Nat.div T 2) y) (Nat.beq (Nat.mod T 2) 0)) i) t
def yM(x:kJ):List (Nat×D)->R D->(D->ec)->ec:=
 kJ.rec (motive:=λ_=>List (Nat×D)->R D->(D->ec)->ec) (λT ap _ y=>JD ap T y) (λn _ H y=>Oc H n y) (λF _ _ y=>y F) x
def aji(g:Option (Nat×Bool)):List (Nat×D)->ec->ec->ec:=
 Option.rec (motive:=λ_=>List (Nat×D)->ec->ec->ec) (λ_ F _=>F)
  (λp ap F b=>jK (pp (some p) ap) λw=>Bool.rec (motive:=λ_=>ec) b F w) g
def J9(k:List (Nat×Nat)):List (Nat×D)->R D->(R D->ec)->ec:=
 List.rec (motive:=λ_=>List (Nat×D)->R D->(R D->ec)->ec) (λ_ H y=>y H)
  (λp _ ai ap H y=>Prod.rec (motive:=λ_=>ec) (λi d=>JD ap i λv=>jS (R.set H d (some v)) λH=>ai ap H y) p) k
def FK(eO:dV)(y:List dV)(b9:iL)(H:R D):List gY:=
 iL.rec (motive:=λ_=>List gY) (λfn n ao bd aB ro cs=>⟨fn,n,ao,H,eO::y,bd, .run,aB,ro⟩::cs) b9
def oY(ai:hP)(C:aL)(f:Nat)(args:List D)(deferred:Bool)(cs:List gY)(h:R af)(j:Nat):ec:=
 match C.P.funcs[f]? with
 |some fn=>(match fn.body with
  |some c=>rf (Nat.lor (kC c) (oD fn.results.toList)) λao=>bV (Nat.ble args.length fn.ntmps&&mc C ao c&&AO ao fn.results.toList) (ai .run [.code c] ⟨f,fn.ntmps,ao,[],deferred,none,cs⟩ (R.ofList args 0 .nil) h j)<|none
  |none=>none)
 |none=>none
def x0(n:Nat):List Nat->List D->R D->Option (R D)
 |[],[],H=>some H
 |p::dp,F::cp,H=>bV (Nat.blt p n) (x0 n dp cp (H.set p (some F)))<|none
 |_,_,_=>none
def pH(eO:dV)(v:D):Option dV:=match eO with
 | .uf aq ap a rest fin=>some (.IL aq ((a,v)::ap) rest fin)
 | .AY aq base ap a lH fin=>some (.drawn aq base ((a,v)::ap) lH fin)
 | .inRangeFunc k=>some (.endRangeFunc k)
 |_=>none
def WN(ai:hP)(todo:List dV)(b9:iL)(v:D)(H:R D)(h:R af)(j:Nat):ec:=
 match todo with
 |[]=>none
 |eO::y=>(match pH eO v with|some hW=>ai .run (hW::y) b9 H h j|none=>none)
def w8:List Nat->R D->R D
 |[],H=>H
 |d::k,H=>w8 k (H.set d none)
def vx(todo:List dV)(H:R D):R D:=match todo with
 | .uf aq _ _ _ _::_=>w8 (dstsOf aq.toList) H
 | .AY aq _ _ _ _ _::_=>w8 (dstsOf aq.toList) H
 |_=>H
def Fu(chain:List sR)(bR:ll):ll:=match bR with
 | .panicking qM=> .panicking (chain++qM)
 |_=> .panicking chain
def aih(ai:hP)(c:gY)(cs:List gY)(chain:List sR)(h:R af)(j:Nat):ec:=
 match c with
 |⟨fn,n,ao,H,todo,bd,bR,aB,ro⟩=>ai (Fu chain bR) todo ⟨fn,n,ao,bd,aB,ro,cs⟩ (vx todo H) h j
def C4(aB:Bool)(cs:List gY):Option (D×List gY):=
 bV (aB) ((match cs with
  |c::rest=>(match c with
   |⟨fn,n,ao,H,todo,bd,bR,jR,ro⟩=>(match bR with
    | .panicking (⟨v,false⟩::CQ)=>some (v,⟨fn,n,ao,H,todo,bd, .panicking (⟨v,true⟩::CQ),jR,ro⟩::rest)
    |_=>some (.nilIface,cs)))
  |[]=>none))<|some (.nilIface,cs)
def yR(ai:hP)(eO:dV)(y:List dV)(b9:iL)(H:R D)(j:Nat):List (D×R af)->ec
 |[]=>none
 |[(v,h)]=>(match pH eO v with|some hW=>ai .run (hW::y) b9 H h j|none=>none)
 |(v,h)::k=>(match pH eO v with
  |some hW=>(match ai .run (hW::y) b9 H h j,yR ai eO y b9 H j k with
   |some F,some b=>bV (D.same 30 F b) (some F) none
   |_,_=>none)
  |none=>none)
def oT(r:eb)(ai:hP)(C:aL)(eO:dV)(y:List dV)(b9:iL)(H:R D)(h:R af)(j:Nat):ec:=
 match r with
 | .val v=>(match pH eO v with|some hW=>ai .run (hW::y) b9 H h j|none=>none)
 | .fq v h j=>(match pH eO v with|some hW=>ai .run (hW::y) b9 H h j|none=>none)
 | .enter f args=>oY ai C f args false (FK eO y b9 H) h j
 | .known _ _ v=>(match pH eO v with|some hW=>ai .run (hW::y) b9 H h j|none=>none)
 | .round k args=>(match U C h k with
   |some (.loop _ _ fn n ao c3 params assign body _)=>(match x0 n params args c3 with
    |some c3=>ai .run [.code assign, .beginRound, .code body] ⟨fn,n,ao,[],false,some k,FK eO y b9 H⟩ c3 h j
    |none=>none)
   |_=>none)
 | .defer d=>(match b9 with
   |⟨fn,n,ao,bd,aB,ro,cs⟩=>(match ro with
    |none=>(match pH eO undef with|some hW=>ai .run (hW::y) ⟨fn,n,ao,d::bd,aB,none,cs⟩ H h j|none=>none)
    |some _=>none))
 | .recover=>(match b9 with
   |⟨fn,n,ao,bd,aB,ro,cs⟩=>(match ro with
    |none=>(match C4 aB cs with
     |some (v,c9)=>(match pH eO v with|some hW=>ai .run (hW::y) ⟨fn,n,ao,bd,aB,none,c9⟩ H h j|none=>none)
     |none=>none)
    |some _=>none))
 | .panic v=>(match b9 with
   |⟨fn,n,ao,bd,aB,ro,cs⟩=>(match ro with
    |none=>ai (.panicking [⟨v,false⟩]) (eO::y) ⟨fn,n,ao,bd,aB,none,cs⟩ (vx (eO::y) H) h j
    |some _=>none))
 | .fork k=>yR ai eO y b9 H j k
def Wv(op:j9):aL->R af->Nat->List (Nat×D)->R D->(D->R af->Nat->ec)->(eb->ec)->ec:=
 match op with
 | .E8 x=>λ_ h j ap H ah _=>yM x ap H λv=>ah v h j
 | .pick c F b=>λ_ h j ap H ah _=>jK (g4 (.pick c F b) ⟨default, .nil,0,λ_ _=>none,0⟩ h ap H) λv=>ah v h j
 | .ep F=>λC h j ap H ah _=>yM F ap H λF=>jK (aI C h F) λv=>ah v h j
 | .Cw n F=>λC h j ap H ah _=>yM F ap H λF=>jK (cZ C h n F) λv=>ah v h j
 | .off d x=>λ_ h j ap H ah _=>yM x ap H λF=>jK (hk d F) λv=>ah v h j
 | .Cn n bs x i=>λC h j ap H ah _=>jK (g4 (.Cn n bs x i) C h ap H) λv=>ah v h j
 | .Co bs x i=>λC h j ap H ah _=>jK (g4 (.Co bs x i) C h ap H) λv=>ah v h j
 | .Fe x=>λ_ h j ap H ah _=>yM x ap H λF=>jK (sO F) λv=>ah v h j
 | .LA op x e=>λ_ h j ap H ah _=>yM x ap H λF=>yM e ap H λb=>jK (bl op F b) λv=>ah v h j
 | .ext i x=>λ_ h j ap H ah _=>yM x ap H λF=>jK (n3 i F) λv=>ah v h j
 | .iu b5 V=>λC h j ap H ah _=>jK (g4 (.iu b5 V) C h ap H) λv=>ah v h j
 | .make b5 V=>λC h j ap H _ rb=>jK (Qa (.make b5 V) C h j ap H) rb
 | .st n F v=>λC h j ap H _ rb=>jK (ie (.st n F v) C h j ap H) rb
 | .call f args=>λC h j ap H _ rb=>jK (ie (.call f args) C h j ap H) rb
 | .fo b5 V=>λC h j ap H _ rb=>jK (ie (.fo b5 V) C h j ap H) rb
structure gP where
 ai:hP
 aq:Array Oper
 fin:List (Nat×Nat)
 y:List dV
 b9:iL
def aqV(X:gP)(C:aL)(H:R D)(ap:List (Nat×D))(i:Nat)(rest:List fs)(r:eb)(h:R af)(j:Nat):ec:=
 match X with|⟨ai,aq,fin,y,b9⟩=>oT r ai C (.uf aq ap i rest fin) y b9 H h j
abbrev ST:=gP->aL->R D->List (Nat×D)->R af->Nat->ec
def aAc(nL:ST)(X:gP)(C:aL)(H:R D)(ap:List (Nat×D))(i:Nat)(v:D)(h:R af)(j:Nat):ec:=nL X C H ((i,v)::ap) h j
def atX(nL:ST)(X:gP)(C:aL)(H:R D)(ap:List (Nat×D))(i:Nat)(rest:List fs)(h:R af)(j:Nat)(r:eb):ec:=
 match r with
 | .val v=>nL X C H ((i,v)::ap) h j
 | .fq v h j=>nL X C H ((i,v)::ap) h j
 |r=>aqV X C H ap i rest r h j
def J2(X:gP)(_:aL)(H:R D)(ap:List (Nat×D))(h:R af)(j:Nat):ec:=
 gP.rec (motive:=λ_=>ec) (λai _ fin y b9=>J9 fin ap H λH=>ai .run y b9 H h j) X
def Fo(i:Nat)(g:Option (Nat×Bool))(op:j9)(rest:List fs)(nL:ST)(X:gP)(C:aL)(H:R D)(ap:List (Nat×D))(h:R af)(j:Nat):ec:=
 aji g ap (Wv op C h j ap H (aAc nL X C H ap i) (atX nL X C H ap i rest h j)) (nL X C H ((i,undef)::ap) h j)
def AS(rest:List fs):ST:=
 List.rec (motive:=λ_=>ST) J2 (λx rest nL=>fs.rec (motive:=λ_=>ST) (λi g op=>Fo i g op rest nL) x) rest
def yK(ai:hP)(C:aL)(aq:Array Oper)(base:Nat)(ap:List (Nat×D))(lH:List wR)(fin:List (Nat×Nat))(y:List dV)(b9:iL)(H:R D)(h:R af)(j:Nat):ec:=
 match lH with
 |[]=>none
 |s::rest=>(match w6 C base H s.uZ ap h with
  |none=>none
  |some (ap,h)=>bV (DP C H ap h s.WG) ((match s.fo with
    |none=>J9 fin ap H λH=>ai .run y b9 H h j
    |some a=>(match pp a.g ap with
     |none=>none
     |some w=>bV (w) ((match ie a.op C h j ap H with
       |some r=>oT r ai C (.AY aq base ap a.i rest fin) y b9 H h j
       |none=>none))<|ai .run (.drawn aq base ((a.i,undef)::ap) rest fin::y) b9 H h j)))<|none)
def x9(fw:List sR):ll:=match fw with|⟨_,true⟩::_=> .returning|_=> .panicking fw
def up(ai:hP)(aB:Bool)(cs:List gY)(v:D)(h:R af)(j:Nat):ec:=
 match cs with
 |c::rest=>(match c with
  |⟨fn,n,ao,H,todo,bd,bR,jR,ro⟩=>(match bR with
   | .run=>bV aB none (WN ai todo ⟨fn,n,ao,bd,jR,ro,rest⟩ v H h j)
   | .returning=>bV aB (ai .returning todo ⟨fn,n,ao,bd,jR,ro,rest⟩ H h j) none
   | .panicking fw=>bV aB (ai (x9 fw) todo ⟨fn,n,ao,bd,jR,ro,rest⟩ H h j) none))
 |[]=>bV aB none (some v)
def VB(jj:Option Code):Bool:=match jj with|none=>true|some .ret=>true|_=>false
def ahT(jj:Option Code):Bool:=match jj with|none=>true|some .ret=>true|some (.exit _)=>true|_=>false
def pe(jj:Option Code)(ai:hP)(C:aL)(todo:List dV)(b9:iL)(H:R D)(h:R af)(j:Nat):ec:=
 match b9 with
 |⟨fn,n,ao,bd,aB,ro,cs⟩=>(match ro with
  |none=>bV (VB jj) (ai .returning todo ⟨fn,n,ao,bd,aB,none,cs⟩ H h j)<|none
  |some k=>(match U C h k with
   |some (.loop _ _ fn n ao H params assign body defers)=>
    bV ((kM C k&&ahT jj)&& !aB) (jS (bi C h k (some (.loop (bV jj.isNone .ready .done) jj fn n ao H params assign body defers))) λh=>up ai aB cs (.bool jj.isNone) h j)<|none
   |_=>none))
def xX(C:aL)(h:R af)(H:R D):List ResultVar->Option (List D)
 |[]=>some []
 | .tmp t::k=>(match H.get t,xX C h H k with|some v,some r=>some (v::r)|_,_=>none)
 | .cell F t::k=>(match H.get F with
   |some p=>(match l8 C h t p,xX C h H k with|some v,some r=>some (v::r)|_,_=>none)
   |none=>none)
def xc(H:R D)(V:Operand):Option D:=match V with
 | .tmp t=>H.get t
 | .const v=>Fk v
 | .global g=>some (.ptr g 0)
 | .func f=>some (.func (.func f) [] [])
def Mp(f:Operand)(params:Array Nat)(assign body:Code)(ai:hP)(C:aL)(y:List dV)(b9:iL)(H:R D)(h:R af)(j:Nat):ec:=
 match xc H f,b9 with
 |some (.func (.func g) first fT),⟨fn,n,ao,bd,aB,ro,cs⟩=>
  (
   match ro with
   |none=>rf j λj=>
    oY ai C g (first++[.func (.yield (j+1)) [] []]++fT) false (⟨fn,n,ao,H, .inRangeFunc (j+1)::y,⟨.collected j,[]⟩::bd, .run,aB,none⟩::cs)
     (bi C (bi C h j (some (.deferred (some [])))) (j+1) (some (.loop .ready none fn n ao H params.toList assign body j))) (j+2)
   |some k=>(match U C h k with
    |some (.loop _ _ _ _ _ _ _ _ _ defers)=>rf j λj=>
     oY ai C g (first++[.func (.yield j) [] []]++fT) false (⟨fn,n,ao,H, .inRangeFunc j::y,bd, .run,aB,some k⟩::cs)
      (bi C h j (some (.loop .ready none fn n ao H params.toList assign body defers))) (j+1)
    |_=>none))
 |_,_=>none
def BF(id:Nat)(ai:hP)(C:aL)(y:List dV)(b9:iL)(H:R D)(h:R af)(j:Nat):ec:=
 match exitTo id y with
 |some e2=>ai .run e2 b9 H h j
 |none=>pe (some (.exit id)) ai C (.code (.exit id)::y) b9 H h j
def JO(c:Operand)(H:R D)(F b:ec):ec:=jK (xc H c) λv=>match v with
 | .bool t=>Bool.rec (motive:=λ_=>ec) b F t
 |_=>none
def WJ(n ao:Nat)(aq:Array Oper)(ai:hP)(C:aL)(y:List dV)(b9:iL)(H:R D)(h:R af)(j:Nat):ec:=
 jK (L7 C n aq ao) λr=>Ry.rec (motive:=λ_=>ec) (λrest fin=>AS rest ⟨ai,aq,fin,y,b9⟩ C H [] h j) r
def WI(n ao:Nat)(aq:Array Oper)(ai:hP)(C:aL)(y:List dV)(b9:iL)(H:R D)(h:R af)(j:Nat):ec:=
 jK (L6 C n aq ao) λr=>Rx.rec (motive:=λ_=>ec) (λlH fin=>rf j λj=>yK ai C aq j [] lH fin y b9 H h (j+aq.size)) r
def aik(aq:Array Oper)(BC:Bool)(ai:hP)(C:aL)(y:List dV)(b9:iL)(H:R D)(h:R af)(j:Nat):ec:=
 iL.rec (motive:=λ_=>ec) (λfn n ao bd aB ro cs=>Bool.rec (motive:=λ_=>ec)
  (WJ n ao aq ai C y ⟨fn,n,ao,bd,aB,ro,cs⟩ H h j) (WI n ao aq ai C y ⟨fn,n,ao,bd,aB,ro,cs⟩ H h j) BC) b9
abbrev Ba:=hP->aL->List dV->iL->R D->R af->Nat->ec
def Oe:Ba:=λai _ y b9 H h j=>ai .run y b9 H h j
def Ff:Ba:=λ_ _ _ _ _ _ _=>none
def vv(c:Code):Ba:=
 Code.rec (motive:=λ_=>Ba) Oe
  (λ_ aq d=>aik aq d)
  (λ_ b nj _ ai C y=>nj ai C (.code b::y))
  (λc _ _ nj hV ai C y b9 H h j=>JO c H (nj ai C y b9 H h j) (hV ai C y b9 H h j))
  (λid _ hV ai C y=>hV ai C (.inBlock id::y))
  (λb hV ai C y=>hV ai C (.inLoop b::y))
  (λf params assign body _ _=>Mp f params assign body)
  (λid=>BF id)
  (λb hV ai C y=>hV ai C (.inScope b::y))
  (λ_=>Oe)
  (λ_=>Ff)
  (λai C y=>pe (some .ret) ai C (.code .ret::y))
  (λ_=>Ff) c
def GW(k:Nat):Ba:=λai C y b9 H h j=>match U C h k with
 |some (.loop state pending g5 aP la c3 params assign body defers)=>
  (
   match state with
   | .busy=>none
   |_=>bV (kM C k) (jS (bi C h k (some (.loop .exhausted pending g5 aP la c3 params assign body defers))) λh=>ai .run ((pending.map dV.code).toList++y) b9 H h j)<|none)
 |_=>none
def JF:Ba:=λai C y b9 H h j=>match b9 with
 |⟨fn,n,ao,bd,aB,ro,cs⟩=>match ro with
  |some k=>(match U C h k with
   |some (.loop .ready pending g5 aP la c3 params assign body defers)=>
    bV (kM C k) (jS (bi C h k (some (.loop .busy pending g5 aP la c3 params assign body defers))) λh=>ai .run y ⟨fn,n,ao,bd,aB,some k,cs⟩ H h j)<|none
   |_=>none)
  |none=>none
def agn(eO:dV):Ba:=
 dV.rec (motive:=λ_=>Ba) (λc=>vv c) (λ_=>Oe) (λb ai C y=>vv b ai C (.inLoop b::y)) (λ_=>Oe)
  (λaq ap rest fin ai C y b9 H h j=>AS rest ⟨ai,aq,fin,y,b9⟩ C H ap h j)
  (λaq base ap lH fin ai C y b9 H h j=>yK ai C aq base ap lH fin y b9 H h j)
  (λ_ _ _ _ _=>Ff) (λ_ _ _ _ _ _=>Ff) (λ_=>Ff) (λk=>GW k) JF eO
def aiI(todo:List dV)(ai:hP)(C:aL)(b9:iL)(H:R D)(h:R af)(j:Nat):ec:=
 List.rec (motive:=λ_=>ec) (pe none ai C [] b9 H h j) (λeO y _=>agn eO ai C y b9 H h j) todo
def x4(d:h0)(ds:List h0)(bR:ll)(todo:List dV)(ai:hP)(C:aL)(b9:iL)(H:R D)(h:R af)(j:Nat):ec:=
 match b9 with
 |⟨fn,n,ao,_,aB,ro,cs⟩=>(match d with
  |⟨.collected r,_⟩=>(match U C h r with
   |some (.deferred (some ql))=>bV (kM C r) (jS (bi C h r (some (.deferred none))) λh=>ai bR todo ⟨fn,n,ao,ql++ds,aB,ro,cs⟩ H h j)<|none
   |_=>none)
  |⟨.fn f fT,args⟩=>(match Bo C f fT args with
   |some (.enter f cp)=>oY ai C f cp true (⟨fn,n,ao,H,todo,ds,bR,aB,ro⟩::cs) h j
   |_=>none))
def one(br:List D):D:=match br with|[v]=>v|br=> .tuple br
def MC(todo:List dV)(ai:hP)(C:aL)(b9:iL)(H:R D)(h:R af)(j:Nat):ec:=
 match b9 with
 |⟨fn,n,ao,bd,aB,ro,cs⟩=>match bd with
  |d::ds=>x4 d ds .returning todo ai C ⟨fn,n,ao,[],aB,ro,cs⟩ H h j
  |[]=>(match C.P.funcs[fn]? with
   |some f=>(match xX C h H f.results.toList with
    |some br=>up ai aB cs (one br) h j
    |none=>none)
   |none=>none)
def MB(chain:List sR)(todo:List dV)(ai:hP)(C:aL)(b9:iL)(H:R D)(h:R af)(j:Nat):ec:=
 match b9 with
 |⟨fn,n,ao,bd,aB,ro,cs⟩=>match bd with
  |d::ds=>x4 d ds (.panicking chain) todo ai C ⟨fn,n,ao,[],aB,ro,cs⟩ H h j
  |[]=>(match cs with
   |c::rest=>aih ai c rest chain h j
   |[]=>none)
def Xa(ai:hP)(C:aL)(bR:ll)(todo:List dV)(b9:iL)(H:R D)(h:R af)(j:Nat):ec:=
 ll.rec (motive:=λ_=>ec) (aiI todo ai C b9 H h j) (MC todo ai C b9 H h j) (λfw=>MB fw todo ai C b9 H h j) bR
def run(C:aL)(n:Nat):hP:=
 Nat.rec (motive:=λ_=>hP) (λ_ _ _ _ _ _=>none) (λ_ ai bR todo b9 H h j=>Xa ai C bR todo b9 H h j) n
def AQ(C:aL)(n:Nat)(f:Nat)(args:List D):ec:=oY (run C n) C f args false [] .nil C.a6
end
section
variable{C:aL}{S da:c6}{ad dE:Nat->Prop}{h S':R af}{j am bm:Nat}{w b0:World}
def aeG(Y:dn C S ad h j bm w)(ez:bm<=w.heap.size)(kE:yr C.P){oper:Oper}{av:Operand->Value}{el:List (Nat×Nat)}{ap:List (Nat×D)}{H:R D}{c:j9}{res:eb}
 (cD:jN S ad av (jD el ap H) oper.op.operands.toList)(ax:mb C el oper.op=some c)(a:ie c C h j ap H=some res):i1 C S ad h j bm w (execOp av oper) res:=by
 have rest:∀V,oper.op=V->c= .fo el V->i1 C S ad h j bm w (execOp av oper) res:=by
  intro V bh Ed
  subst Ed;subst bh
  exact aod Y ez kE cD a
 have AI:∀V,c= .iu el V->i1 C S ad h j bm w (execOp av oper) res:=by intro V E;subst E;simp[ie]at a
 have ahy:∀V,c= .make el V->i1 C S ad h j bm w (execOp av oper) res:=by intro V E;subst E;simp[ie]at a
 obtain⟨dst,op,type,pos,after,guard⟩:=oper
 cases op<;>simp only[mb]at ax<;>simp only[Op.operands]at cD
 case store t F x=>
  split at ax
  ·rename_i fu jl s aA ae aD
   simp at ax;subst ax
   simp only[ie,oc aA,oc ae]at a
   split at a
   ·rename_i ac bc
    split at a
    ·rename_i v bv
     obtain⟨bD,bK⟩:=cD F Zs ac bc
     obtain⟨cG,b1⟩:=cD x Zs v bv
     obtain⟨S',rfl,aE⟩:=aCb Y aD bK b1 a
     simp only[execOp,bD,cG]
     exact aE _ (λb0 tI=>by simp[tI])
    ·simp at a
   ·simp at a
  ·simp at ax
 case call r6=>
  obtain⟨callee,args,dg⟩:=r6
  cases callee with
  |builtin b=>
   cases b<;>simp[mb]at ax<;>first
    |exact rest _ rfl ax.symm
    |exact AI _ ax.symm
  |value f=>
   cases f with
   |func g=>
    simp only at ax
    split at ax
    ·rename_i cp has
     simp at ax;subst ax
     simp only[ie]at a
     split at a
     ·rename_i br Lx
      simp only[Call.operands]at cD
      obtain⟨c7,cr⟩:=aqZ ap H has Lx
      have awg:jN S ad av (jD el ap H) args.toList:=cD.mono (by simp;intro x ae;exact .inr ae)
      obtain⟨fk,gl⟩:=ahb awg c7 cr
      obtain⟨eQ,_⟩:=cD (.func g) Zs (.func (.func g) [] []) rfl
      refine(Sp (S:=S) (h:=h) (j:=j) (bm:=bm) (w:=w) kE gl a).congr ?_
      have E:args.map av=(b2 S br).toArray:=by apply YY;simp[fk]
      simp[execOp,resolve,eQ,aO,nF,b2,Deferred.ofValue,invoke,E]
     ·simp at a
    ·simp at ax
   |tmp t=>simp at ax;exact rest _ rfl ax.symm
   |const v=>simp at ax;exact rest _ rfl ax.symm
   |global g=>simp at ax;exact rest _ rfl ax.symm
  |invoke r m=>simp[mb]at ax;exact rest _ rfl ax.symm
 case convert s d x=>
  rw[fF]at ax
  split at ax
  ·simp at ax;exact rest _ rfl ax.symm
  ·simp at ax;exact AI _ ax.symm
 case makeMap t r=>cases r<;>simp[mb]at ax<;>first|exact rest _ rfl ax.symm|exact ahy _ ax.symm
 case binOp op t x e I0=>
  rw[fF]at ax
  split at ax
  ·split at ax
   ·simp at ax;subst ax;simp[ie]at a
   ·simp at ax
  ·simp at ax;exact AI _ ax.symm
 case fieldAddr s x f=>
  split at ax
  ·rw[qL]at ax
   split at ax
   ·split at ax
    ·simp only[GO,Zf]at ax
     obtain⟨_,rfl⟩:=ax
     simp[ie]at a
    ·simp at ax
   ·simp at ax
  ·simp at ax
 case indexAddr t x i=>
  split at ax
  ·split at ax
   ·simp at ax;subst ax;simp[ie]at a
   ·simp at ax
  ·split at ax
   ·simp at ax;subst ax;simp[ie]at a
   ·simp at ax
  ·simp at ax
 all_goals first
  |(simp at ax;first|exact rest _ rfl ax.symm|exact AI _ ax.symm|exact ahy _ ax.symm)
  |(split at ax<;>first
    |(simp at ax;subst ax;simp[ie]at a;done)
    |(simp at ax;done))
def Qb{oper:Oper}{el:List (Nat×Nat)}{c:j9}(ax:mb C el oper.op=some c){b:Nat}{ap:List (Nat×D)}{H:R D}{r:D×af}(a:o0 c C b ap H=some r):q4 oper.op C (jD el ap H) b=some r:=by
 have rest:∀V,oper.op=V->c= .make el V->q4 oper.op C (jD el ap H) b=some r:=by
  intro V bh Ed
  subst Ed;subst bh
  exact a
 have AI:∀V,c= .iu el V->q4 oper.op C (jD el ap H) b=some r:=by intro V E;subst E;simp[o0]at a
 have CJ:∀V,c= .fo el V->q4 oper.op C (jD el ap H) b=some r:=by intro V E;subst E;simp[o0]at a
 obtain⟨dst,op,type,pos,after,guard⟩:=oper
 cases op<;>simp only[mb]at ax
 case call r6=>
  obtain⟨callee,args,dg⟩:=r6
  cases callee with
  |builtin b=>cases b<;>simp[mb]at ax<;>first|exact CJ _ ax.symm|exact AI _ ax.symm
  |value f=>
   cases f with
   |func g=>
    simp[mb]at ax
    split at ax
    ·simp at ax;subst ax;simp[o0]at a
    ·simp at ax
   |tmp t=>simp[mb]at ax;exact CJ _ ax.symm
   |const v=>simp[mb]at ax;exact CJ _ ax.symm
   |global g=>simp[mb]at ax;exact CJ _ ax.symm
  |invoke r m=>simp[mb]at ax;exact CJ _ ax.symm
 case convert s d x=>
  rw[fF]at ax
  split at ax
  ·simp at ax;exact CJ _ ax.symm
  ·simp at ax;exact AI _ ax.symm
 case makeMap t r=>cases r<;>simp[mb]at ax<;>first|exact rest _ rfl ax.symm|exact CJ _ ax.symm
 case binOp op t x e I0=>
  rw[fF]at ax
  split at ax
  ·split at ax
   ·simp at ax;subst ax;simp[o0]at a
   ·simp at ax
  ·simp at ax;exact AI _ ax.symm
 case fieldAddr s x f=>
  split at ax
  ·rw[qL]at ax
   split at ax
   ·split at ax
    ·simp only[GO,Zf]at ax
     obtain⟨_,rfl⟩:=ax
     simp[o0]at a
    ·simp at ax
   ·simp at ax
  ·simp at ax
 case indexAddr t x i=>
  split at ax
  ·split at ax
   ·simp at ax;subst ax;simp[o0]at a
   ·simp at ax
  ·split at ax
   ·simp at ax;subst ax;simp[o0]at a
   ·simp at ax
  ·simp at ax
 all_goals first
  |(simp at ax;first|exact rest _ rfl ax.symm|exact AI _ ax.symm|exact CJ _ ax.symm)
  |(split at ax<;>first
    |(simp at ax;subst ax;simp[o0]at a;done)
    |(simp at ax;done))
def ph{α:Type}(V:Option α)(y:α->ec):jK V y=match V with|some F=>y F|none=>none:=by cases V<;>rfl
def abV(k:List (Nat×D))(T:Nat)(y:D->ec):JD k T y=jK (es k T) y:=by
 induction k with
 |nil=>rfl
 |cons p k ai=>
  obtain⟨F,b⟩:=p
  show(Bool.rec (motive:=λ_=>ec) (JD k T y) (y b) (Nat.beq F T))=jK (bV (Nat.beq F T) (some b) (es k T)) y
  rw[ai]
  cases Nat.beq F T<;>rfl
def ar3(t:R D):∀(i:Nat) (y:D->ec),Oc t i y=jK (t.get i) y:=by
 induction t with
 |nil=>intro i y;rfl
 |node v k r nL H1=>
  intro i y
  cases i with
  |zero=>cases v<;>rfl
  |succ T=>
   show(Bool.rec (motive:=λ_=>ec) (Oc r (Nat.div T 2) y) (Oc k (Nat.div T 2) y) (Nat.beq (Nat.mod T 2) 0))=jK (bV (Nat.beq (Nat.mod T 2) 0) (k.get (Nat.div T 2)) (r.get (Nat.div T 2))) y
   rw[nL,H1]
   cases Nat.beq (Nat.mod T 2) 0<;>rfl
def aqW(x:kJ)(ap:List (Nat×D))(H:R D)(y:D->ec):yM x ap H y=jK (lw x ap H) y:=by
 cases x with
 |v T=>exact abV ap T y
 |t n=>exact ar3 H n y
 |c F=>rfl
def N3:∀(k:List (Nat×Nat)) (ap:List (Nat×D)) (H:R D) (y:R D->ec),J9 k ap H y=jK (yO ap k H) y:=by
 intro k
 induction k with
 |nil=>intro ap H y;rfl
 |cons p k ai=>
  intro ap H y
  obtain⟨i,d⟩:=p
  show JD ap i (λv=>jS (R.set H d (some v)) λH=>J9 k ap H y)=_
  rw[abV]
  simp only[yO]
  cases es ap i with
  |none=>rfl
  |some v=>simp only[hv];exact ai _ _ _
def Q6(g:Option (Nat×Bool))(ap:List (Nat×D))(F b:ec):aji g ap F b=jK (pp g ap) λw=>if w=true then F else b:=by
 cases g with
 |none=>simp[ph,pp];rfl
 |some p=>
  show jK (pp (some p) ap) (λw=>Bool.rec (motive:=λ_=>ec) b F w)=_
  congr 1
  funext w
  cases w<;>rfl
def Qu(op:j9)(h:R af)(j:Nat)(ap:List (Nat×D))(H:R D)(ah:D->R af->Nat->ec)(rb:eb->ec):
 Wv op C h j ap H ah rb=match nn op with
  | .iu=>jK (g4 op C h ap H) λv=>ah v h j
  | .make=>jK (Qa op C h j ap H) rb
  | .fo=>jK (ie op C h j ap H) rb:=by
 cases op<;>simp only[Wv,nn,aqW,g4,ph]<;>(try rfl)
 all_goals(split<;>first|rfl|(split<;>simp_all))
end
def wF:List Oper->Nat->List (Nat×Nat)->List (Nat×Nat)
 |[],_,el=>el
 |V::k,i,el=>wF k (i+1) (yw V i el)
def iK(aq:Array Oper)(i:Nat):List (Nat×Nat):=wF (aq.toList.take i) 0 []
def aDe(F:List Oper):∀(b:List Oper) (i:Nat) (el:List (Nat×Nat)),wF (F++b) i el=wF b (i+F.length) (wF F i el):=by
 induction F with
 |nil=>intro b i el;rfl
 |cons V F ai=>
  intro b i el
  simp only[YF,wF,ai,ZF]
  congr 1;omega
def MU{aq:Array Oper}{i:Nat}{V:Oper}(a:aq[i]? =some V):iK aq (i+1)=yw V i (iK aq i):=by
 have az:aq.toList[i]? =some V:=by rw[ZO];exact a
 have c2:i<aq.toList.length:=(Zb.1 az).1
 unfold iK
 rw[ZU,az,aDe]
 have:(aq.toList.take i).length=i:=by simp at c2 ⊢;omega
 rw[this]
 simp[wF]
def MV(aq:Array Oper):iK aq 0=[]:=rfl
def te(aq:Array Oper)(T:Nat):Option Nat:=(aq[T]?).bind (·.dst)
def JX{aq:Array Oper}{i:Nat}{V:Oper}(a:aq[i]? =some V):te aq i=V.dst:=by simp[te,a]
def aos{V:Oper}{i T:Nat}{el:List (Nat×Nat)}:w9 T (yw V i el)=if i=T/\V.dst.isSome then V.dst else w9 T el:=by
 unfold yw
 split
 ·rename_i d aE
  simp only[w9,h1,aE]
  by_cases E:i=T<;>simp[E]
 ·rename_i aE
  simp[aE]
def Gw{V:Oper}{i t:Nat}{el:List (Nat×Nat)}:es (yw V i el) t=if V.dst=some t then some i else es el t:=by
 unfold yw
 split
 ·rename_i d aE
  rw[r4,aE]
  by_cases E:d=t<;>simp[E]
 ·rename_i aE
  simp[aE]
def MW(aq:Array Oper):∀i,i<=aq.size->(∀T t,w9 T (iK aq i)=some t->te aq T=some t)/\
 (∀t T,es (iK aq i) t=some T->T<i/\te aq T=some t/\∀y,T<y->y<i->te aq y≠some t)/\(∀t,es (iK aq i) t=none->∀y,y<i->te aq y≠some t):=by
 intro i
 induction i with
 |zero=>intro _;rw[MV];exact⟨λT t a=>by simp[w9]at a,λt T a=>by simp at a,λt _ y aH=>Zo⟩
 |succ i ai=>
  intro aN
  obtain⟨J,Q,ak⟩:=ai Zo
  have bh:aq[i]? =some aq[i]:=Array.getElem?_eq_getElem Zo
  rw[MU bh]
  have aE:=JX bh
  refine⟨λT t a=> ?_,λt T a=> ?_,λt a y aH=> ?_⟩
  ·rw[aos]at a
   split at a
   ·rename_i E;rw[<-E.1,aE];exact a
   ·exact J T t a
  ·rw[Gw]at a
   split at a
   ·rename_i E
    cases a
    exact⟨Zo,by rw[aE];exact E,λy lA iR=>Zo⟩
   ·rename_i E
    obtain⟨bW,cq,cS⟩:=Q t T a
    refine⟨Zo,cq,λy lA iR=> ?_⟩
    by_cases aj:y=i
    ·subst aj;rw[aE];exact E
    ·exact cS y lA Zo
  ·rw[Gw]at a
   split at a
   ·cases a
   ·rename_i E
    by_cases aj:y=i
    ·subst aj;rw[aE];exact E
    ·exact ak t a y Zo
section
variable{C:aL}{S da:c6}{ad dE:Nat->Prop}{h S':R af}{j am bm:Nat}{w b0:World}
def lk(tmps:Array Value):Operand->Value
 | .tmp t=>tmps.getD t Go.undef
 | .const v=>v
 | .global g=> .pointer (some ⟨g,0,none⟩)
 | .func f=> .func (.func f) #[] #[]
def J5(fr:Frame):fr.eval=lk fr.tmps:=by funext x;cases x<;>rfl
def pz(S:c6)(ad:Nat->Prop)(ao:Nat)(X:Nat->Prop)(el:List (Nat×Nat))(ap:List (Nat×D))(H:R D)(tmps:Array Value):Prop:=
 ∀t v,X t->(match es el t with|some T=>es ap T=some v|none=>fB ao t=true/\H.get t=some v)->tmps[t]? =some (aO S v)/\cj ad v
def sZ(C:aL)(S:c6)(ad:Nat->Prop):Prop:=∀g,g<C.pf->ad g/\(S g).cJ=g/\(S g).eh=0
def ay9{ao:Nat}{el:List (Nat×Nat)}:∀{k:List Operand},Fm C ao el k=true->∀x∈k,AK C ao el x=true:=by
 intro k
 induction k with
 |nil=>intro _ x a;simp at a
 |cons F k ai=>
  intro a x ae
  simp only[Fm,Zq]at a
  rcases Zt.1 ae with rfl|ae
  ·exact a.1
  ·exact ai a.2 x ae
def acX{ao:Nat}{X:Nat->Prop}{el:List (Nat×Nat)}{ap:List (Nat×D)}{H:R D}{tmps:Array Value}(bv:pz S ad ao X el ap H tmps){k:List Operand}(bU:∀t,Operand.tmp t∈k->X t)(bh:Fm C ao el k=true)
 (d7:sZ C S ad):jN S ad (lk tmps) (jD el ap H) k:=by
 intro x ae v a
 have gf:=ay9 bh x ae
 cases x with
 |tmp t=>
  have:=bv t v (bU t ae) (by
   simp only[jD]at a
   simp only[AK]at gf
   split at a
   ·rename_i T bJ;rw[bJ];exact a
   ·rename_i bJ;rw[bJ]at gf ⊢;exact⟨gf,a⟩)
  exact⟨by simp[lk,this.1],this.2⟩
 |const c=>exact Qn a
 |global g=>
  simp[jD]at a;subst a
  simp only[AK]at gf
  obtain⟨bK,b1,cM⟩:=d7 g (lS gf)
  exact⟨by simp[lk,aO,b1,cM],bK⟩
 |func f=>
  simp[jD]at a;subst a
  exact⟨by simp[lk,aO,nF,b2],trivial,trivial,trivial⟩
end
def Bs(m i:Nat):fB m i=m.testBit i:=by
 unfold fB
 rw[Nat.testBit_eq_decide_div_mod_eq,Ya,Zg]
 exact⟨Zl,λa=>by rw[show Nat.mod (Nat.div m (Nat.pow 2 i)) 2=1 from a];rfl⟩
def Nv(i:Nat):fB 0 i=false:=by rw[Bs];simp
def GC(F b i:Nat):fB (Nat.lor F b) i=(fB F i||fB b i):=by
 rw[Bs,Bs,Bs];exact Nat.testBit_or F b i
def Nu(t i:Nat):fB (Nat.pow 2 t) i=decide (t=i):=by
 rw[Bs];exact Nat.testBit_two_pow
def ao4(F b i:Nat):fB (Nat.land F b) i=(fB F i&&fB b i):=by
 rw[Bs,Bs,Bs];exact Nat.testBit_and F b i
def azk{V:Operand}{m t:Nat}:fB (Iv V m) t=true↔V= .tmp t\/fB m t=true:=by
 cases V with
 |tmp ac=>
  show fB (Nat.lor m (Nat.pow 2 ac)) t=true↔_
  rw[GC,Nu]
  simp[or_comm]
 |_=>simp[Iv]
def azm{t:Nat}:∀{k:List Operand},fB (Iw k) t=true↔Operand.tmp t∈k:=by
 intro k
 induction k with
 |nil=>simp[Iw,Nv]
 |cons F k ai=>
  show fB (Iv F (Iw k)) t=true↔_
  rw[azk,ai]
  simp[eq_comm]
def aqf{V:Oper}{t:Nat}:fB (JW V) t=true↔V.dst=some t:=by
 unfold JW
 cases V.dst with
 |none=>simp[Nv]
 |some d=>
  show fB (Nat.pow 2 d) t=true↔_
  rw[Nu]
  simp
structure M7(C:aL)(n ao:Nat)(aq:Array Oper)(x:fs)(V:Oper):Prop where
 oper:aq[x.i]? =some V
 g:JI (iK aq x.i) V.guard=some x.g
 op:mb C (iK aq x.i) V.op=some x.op
 dst:∀d,V.dst=some d->d<n
 reads:Fm C ao (iK aq x.i) V.op.operands.toList=true
def Sm{C:aL}{n ao i:Nat}{V:Oper}{k:List Oper}{el:List (Nat×Nat)}{cs:List fs}(a:tc C n ao (V::k) i el=some cs):
 ∃g op r,JI el V.guard=some g/\mb C el V.op=some op/\NR n V=true/\Fm C ao el V.op.operands.toList=true/\tc C n ao k (i+1) (yw V i el)=some r/\cs=⟨i,g,op⟩::r:=by
 simp only[tc,mE]at a
 split at a
 ·rename_i g op bP Er
  simp only[e5,Zq]at a
  obtain⟨⟨J,Q⟩,a⟩:=a
  split at a
  ·rename_i r Y
   simp at a
   exact⟨g,op,r,bP,Er,J,Q,Y,a.symm⟩
  ·simp at a
 ·simp at a
def acI{n:Nat}{V:Oper}(a:NR n V=true):∀d,V.dst=some d->d<n:=by
 intro d aE
 unfold NR at a
 rw[aE]at a
 exact lS a
def SL{aq:Array Oper}{i:Nat}{V:Oper}{k:List Oper}(a:aq.toList.drop i=V::k):aq[i]? =some V/\aq.toList.drop (i+1)=k/\i<aq.size:=by
 have J:(aq.toList.drop i)[0]? =some V:=by rw[a];rfl
 rw[YE,ZO]at J
 refine⟨by simpa using J, ?_, ?_⟩
 ·have:(aq.toList.drop i).drop 1=k:=by rw[a];rfl
  rw[zj]at this
  exact this
 ·exact(ZM.1 (by simpa using J)).1
def aph{C:aL}{n ao:Nat}{aq:Array Oper}:∀(k:List Oper) (i:Nat) (cs:List fs),aq.toList.drop i=k->tc C n ao k i (iK aq i)=some cs->
 cs.length=k.length/\∀T x,cs[T]? =some x->x.i=i+T/\∃V,M7 C n ao aq x V:=by
 intro k
 induction k with
 |nil=>intro i cs _ a;simp[tc]at a;subst a;simp
 |cons V k ai=>
  intro i cs aE a
  obtain⟨g,op,r,J,Q,ak,ay,bt,rfl⟩:=Sm a
  obtain⟨c1,cH,eY⟩:=SL aE
  rw[<-MU c1]at bt
  obtain⟨bW,cq⟩:=ai (i+1) r cH bt
  refine⟨by simp[bW],λT x ae=> ?_⟩
  cases T with
  |zero=>simp at ae;subst ae;exact⟨rfl,V,c1,J,Q,acI ak,ay⟩
  |succ T=>
   simp at ae
   obtain⟨E,bz⟩:=cq T x ae
   exact⟨Zo,bz⟩
def aqp{iV:List (Nat×Nat)}:∀(k:List Edge) (F:Nat),fB (k.foldr (DR iV) 0) F=true->∃E∈k,Region.binds .any E=true/\(F=E.on\/∃gH,es iV E.on=some gH/\fB gH F=true):=by
 intro k
 induction k with
 |nil=>intro F a;simp[Nv]at a
 |cons E k ai=>
  intro F a
  simp only[List.foldr_cons]at a
  have qM:fB (k.foldr (DR iV) 0) F=true->∃iM∈E::k,Region.binds .any iM=true/\(F=iM.on\/∃gH,es iV iM.on=some gH/\fB gH F=true):=λa=>by
   obtain⟨iM,J,Q⟩:=ai F a
   exact⟨iM,Zu _ J,Q⟩
  unfold DR at a
  rw[fF]at a
  split at a
  ·exact qM a
  ·rw[fF]at a
   split at a
   ·rename_i ag
    split at a
    ·rename_i y aH
     rw[GC,GC,Nu]at a
     simp only[zg,Zg]at a
     rcases a with (a|a)|a
     ·exact qM a
     ·exact⟨E,Zv ..,ag, .inr ⟨y,aH,a⟩⟩
     ·exact⟨E,Zv ..,ag, .inl a.symm⟩
    ·exact qM a
   ·exact qM a
structure Gl(aq:Array Oper)(p:gD)(V:Oper):Prop where
 oper:aq[p.i]? =some V
 r:p.r=Nat.lor (Iw V.op.operands.toList) (Om (iK aq p.i) V.guard)
 w:p.w=JW V
def ahf{aq:Array Oper}:∀(k:List Oper) (i:Nat) (iV:List (Nat×Nat)),aq.toList.drop i=k->(∀T m,es iV T=some m->T<i)->
 (CH k i (iK aq i) iV).length=k.length/\(∀T p,(CH k i (iK aq i) iV)[T]? =some p->p.i=i+T/\∃V,Gl aq p V)/\
 ∀(bg:Nat->Nat->Prop),(∀T m,es iV T=some m->bg T m)->(∀T V m,aq[T]? =some V->i<=T->(∀F,fB m F=true->∃E∈V.after.toList,Region.binds .any E=true/\(F=E.on\/∃gH,bg E.on gH/\fB gH F=true))->bg T m)->
  ∀p∈CH k i (iK aq i) iV,bg p.i p.m:=by
 intro k
 induction k with
 |nil=>intro i iV _ _;simp[CH]
 |cons V k ai=>
  intro i iV aE pR
  obtain⟨c1,cH,eY⟩:=SL aE
  simp only[CH,mE]
  rw[<-MU c1]
  have auP:∀T m,es ((i,V.after.toList.foldr (DR iV) 0)::iV) T=some m->T<i+1:=by
   intro T m a
   rw[r4]at a
   split at a
   ·omega
   ·have:=pR T m a;omega
  obtain⟨bW,cq,cS⟩:=ai (i+1) ((i,V.after.toList.foldr (DR iV) 0)::iV) cH auP
  refine⟨by simp only[ZF,bW],λT p aw=> ?_,λbg gz qF p aw=> ?_⟩
  ·cases T with
   |zero=>simp only[Yc,Zf]at aw;subst aw;exact⟨rfl,V,c1,rfl,rfl⟩
   |succ T=>
    simp only[Z1]at aw
    obtain⟨E,bz⟩:=cq T p aw
    exact⟨Zo,bz⟩
  ·have aN:bg i (V.after.toList.foldr (DR iV) 0):=by
    refine qF i V _ c1 (Zj _) λF aA=> ?_
    obtain⟨E,J,Q,ak⟩:=aqp _ F aA
    refine⟨E,J,Q,ak.imp id ?_⟩
    rintro⟨gH,ay,bt⟩
    exact⟨gH,gz _ _ ay,bt⟩
   rcases Zt.1 aw with rfl|aw
   ·exact aN
   ·refine cS bg (λT m a=> ?_) (λT V m J Q ak=>qF T V m J Zo ak) p aw
    rw[r4]at a
    split at a
    ·rename_i E;subst E;cases a;exact aN
    ·exact gz T m a
def aza{F:gD}:∀{k:List gD},Qs F k=true->∀b∈k,Qq F b=true:=by
 intro k
 induction k with
 |nil=>intro _ b a;simp at a
 |cons c k ai=>
  intro a b ag
  simp only[Qs,Zq]at a
  rcases Zt.1 ag with rfl|ag
  ·exact a.1
  ·exact ai a.2 b ag
def ay8:∀{k:List gD},Mg k=true->∀(T i:Nat) F b,T<i->k[T]? =some F->k[i]? =some b->Qq F b=true:=by
 intro k
 induction k with
 |nil=>intro _ T i F b _ a;simp at a
 |cons c k ai=>
  intro a T i F b ae2 aA ag
  simp only[Mg,Zq]at a
  obtain⟨i,rfl⟩:∃y,i=y+1:=⟨i-1,Zo⟩
  simp at ag
  cases T with
  |zero=>simp at aA;subst aA;exact aza a.1 b (Zn ag)
  |succ T=>simp at aA;exact ai a.2 T i F b Zo aA ag
def ay5:∀{k:List Oper}{i:Nat},Fl k i=true->∀T V,k[T]? =some V->∀E∈V.after.toList,Region.binds .any E=true->E.on<i+T:=by
 intro k
 induction k with
 |nil=>intro i _ T V a;simp at a
 |cons F k ai=>
  intro i a T V bh E bz ag
  simp only[Fl,Zq]at a
  cases T with
  |zero=>
   simp at bh;subst bh
   have:=List.all_eq_true.1 a.1 E bz
   simp only[ag,Ys,Bool.false_or]at this
   have:=lS this
   omega
  |succ T=>
   simp at bh
   have:=ai a.2 T V bh E bz ag
   omega
def atW:∀{k:List gD},KR k=true->∀(p:Nat) F b,k[p]? =some F->k[p+1]? =some b->fB b.m F.i=true:=by
 intro k
 induction k with
 |nil=>intro _ p F b a;simp at a
 |cons c k ai=>
  intro a p F b aA ag
  simp only[KR,Zq]at a
  cases p with
  |zero=>
   simp at aA ag;subst aA
   cases k with
   |nil=>simp at ag
   |cons d k=>simp at ag;subst ag;exact a.1
  |succ p=>simp at aA ag;exact ai a.2 p F b aA (by simpa using ag)
def atV:∀(dp:List gD) (cs:List fs),Hu dp cs=(dp.zip cs).filter λx=>ou x.2.op:=by
 intro dp
 induction dp with
 |nil=>intro cs;rfl
 |cons p dp ai=>
  intro cs
  cases cs with
  |nil=>rfl
  |cons c cs=>
   simp only[Hu,List.zip_cons_cons,List.filter_cons,fF,ai]
def axP(aD:List gD):∀(dp:List gD) (cs:List fs),Ic aD dp cs=((dp.zip cs).filter λx=> !ou x.2.op).map λx=>⟨x.2,vw x.1.m aD,B5 x.1.i aD⟩:=by
 intro dp
 induction dp with
 |nil=>intro cs;rfl
 |cons p dp ai=>
  intro cs
  cases cs with
  |nil=>rfl
  |cons c cs=>
   simp only[Ic,List.zip_cons_cons,List.filter_cons,fF,ai]
   cases ou c.op<;>simp
def N9:∀k:List (gD×fs),rg k=k.map (·.1):=by
 intro k
 induction k with
 |nil=>rfl
 |cons F k ai=>simp[rg,ai]
def apN(m:Nat):∀(aD:List gD) (y:Nat),(∀p a,aD[p]? =some a->y<=p->fB m a.i=false)->vw m aD<=y:=by
 intro aD
 induction aD with
 |nil=>intro y _;simp[vw]
 |cons a aD ai=>
  intro y aH
  simp only[vw,fF]
  cases y with
  |zero=>
   have:=aH 0 a rfl (Zj _)
   rw[this]
   have:=ai 0 (λp cy aw _=>aH (p+1) cy (by simpa using aw) Zo)
   simpa using this
  |succ y=>
   have:=ai y (λp cy aw f4=>aH (p+1) cy (by simpa using aw) Zo)
   split<;>omega
def auk(i:Nat):∀(aD:List gD) (y:Nat),y<=aD.length->(∀p a,aD[p]? =some a->p<y->fB a.m i=false)->y<=B5 i aD:=by
 intro aD
 induction aD with
 |nil=>intro y aH _;simp at aH;omega
 |cons a aD ai=>
  intro y Ac aH
  cases y with
  |zero=>omega
  |succ y=>
   have aY:=aH 0 a rfl Zo
   simp only[B5,aY,ls]
   have:=ai y (by simpa using Ac) (λp cy aw c2=>aH (p+1) cy (by simpa using aw) Zo)
   omega
def qP(tmps:Array Value)(dst:Option Nat)(v:Value):Array Value:=match dst with|some d=>tmps.setIfInBounds d v|none=>tmps
def QE(tmps:Array Value)(dst:Option Nat)(v:Value):(qP tmps dst v).size=tmps.size:=by cases dst<;>simp[qP]
def aia(tmps:Array Value)(dst:Option Nat)(v:Value)(t:Nat)(a:∀d,dst=some d->d<tmps.size):(qP tmps dst v)[t]? =if dst=some t then some v else tmps[t]? :=by
 cases dst with
 |none=>simp[qP]
 |some d=>
  have:=a d rfl
  simp only[qP,Zf,Array.getElem?_setIfInBounds]
  by_cases E:d=t
  ·subst E;simp[this]
  ·simp[E]
def Sub(ap hQ:List (Nat×D)):Prop:=∀T ac,es ap T=some ac->es hQ T=some ac
def Sub.refl(ap:List (Nat×D)):Sub ap ap:=λ_ _ a=>a
def Sub.trans{F b c:List (Nat×D)}(a:Sub F b)(y:Sub b c):Sub F c:=λT ac bJ=>y T ac (a T ac bJ)
def Sub.cons{ap:List (Nat×D)}{i:Nat}{v:D}(a:es ap i=none):Sub ap ((i,v)::ap):=λT ac bJ=>by
 rw[r4,Zh]
 ·exact bJ
 ·intro E;subst E;rw[a]at bJ;cases bJ
def qg(C:aL)(h S':R af):Prop:=∀x,U C h x=U C S' x\/U C h x=none
inductive wP(aq:Array Oper):(Nat->Prop)->List Nat->Prop
 |nil {dm}:(∀i,i<aq.size->dm i)->wP aq dm []
 |cons {dm i V k}:aq[i]? =some V->¬dm i->(∀E∈V.after.toList,Region.binds .any E=true->dm E.on)->wP aq (add dm i) k->wP aq dm (i::k)
noncomputable def w7(C:aL)(n ao:Nat)(aq:Array Oper):List fs:=(tc C n ao aq.toList 0 []).getD []
noncomputable def pD(aq:Array Oper):List gD:=CH aq.toList 0 [] []
noncomputable def gR(C:aL)(n ao:Nat)(aq:Array Oper):List (gD×fs):=Hu (pD aq) (w7 C n ao aq)
noncomputable def md(C:aL)(n ao:Nat)(aq:Array Oper):List qh:=Ic (rg (gR C n ao aq)) (pD aq) (w7 C n ao aq)
structure qf(C:aL)(n ao:Nat)(aq:Array Oper):Prop where
 apy:tc C n ao aq.toList 0 []=some (w7 C n ao aq)
 aDH:Fl aq.toList 0=true
 azA:Mg (pD aq)=true
 chain:KR (rg (gR C n ao aq))=true
section
variable{C:aL}{n ao:Nat}{aq:Array Oper}
def SI(a:qf C n ao aq):(w7 C n ao aq).length=aq.size/\∀T x,(w7 C n ao aq)[T]? =some x->x.i=T/\∃V,M7 C n ao aq x V:=by
 have aY:=a.apy
 have:=aph (aq:=aq) aq.toList 0 _ Zs (by rw[MV];exact aY)
 exact⟨by simpa using this.1,λT x ae=>by simpa using this.2 T x ae⟩
def JT(aq:Array Oper):(pD aq).length=aq.size/\(∀T p,(pD aq)[T]? =some p->p.i=T/\∃V,Gl aq p V):=by
 have:=ahf (aq:=aq) aq.toList 0 [] Zs Zs
 rw[MV]at this
 exact⟨by unfold pD;simpa using this.1,λT p aw=>by simpa using this.2.1 T p aw⟩
noncomputable def r8(C:aL)(n ao:Nat)(aq:Array Oper):List (gD×fs):=(pD aq).zip (w7 C n ao aq)
def yI(a:qf C n ao aq)(i:Nat)(aN:i<aq.size):∃p x V,(r8 C n ao aq)[i]? =some (p,x)/\(pD aq)[i]? =some p/\p.i=i/\x.i=i/\M7 C n ao aq x V/\Gl aq p V:=by
 obtain⟨a7,b6⟩:=SI a
 obtain⟨bZ,cu⟩:=JT aq
 have ae:(w7 C n ao aq)[i]? =some ((w7 C n ao aq)[i]'Zo):=Ze _
 have aw:(pD aq)[i]? =some ((pD aq)[i]'Zo):=Ze _
 obtain⟨cX,V,dI⟩:=b6 _ _ ae
 obtain⟨c1,o',cH⟩:=cu _ _ aw
 have:o'=V:=by
  have bD:=dI.oper;have cG:=cH.oper
  rw[cX]at bD;rw[c1]at cG
  rw[bD]at cG;exact(Yu cG).symm
 subst this
 refine⟨_,_,o', ?_,aw,c1,cX,dI,cH⟩
 unfold r8
 rw[List.getElem?_zip_eq_some]
 exact⟨aw,ae⟩
def yJ(a:qf C n ao aq){e:gD×fs}(B:e∈r8 C n ao aq):∃V,e.1.i<aq.size/\e.2.i=e.1.i/\(r8 C n ao aq)[e.1.i]? =some e/\(pD aq)[e.1.i]? =some e.1/\M7 C n ao aq e.2 V/\Gl aq e.1 V:=by
 obtain⟨T,bJ⟩:=ZY.1 B
 have eT:(r8 C n ao aq).length=aq.size:=by
  unfold r8
  rw[List.length_zip,(SI a).1,(JT aq).1,Nat.min_self]
 have c2:T<aq.size:=zq (Zb.1 bJ).1
 obtain⟨p,x,V,J,Q,ak,ay,bt,b4⟩:=yI a T c2
 rw[bJ]at J
 cases J
 refine⟨V,by simp only;omega,by simp only;omega, ?_, ?_,bt,b4⟩
 ·simp only[ak];exact bJ
 ·simp only[ak];exact Q
def NK:gR C n ao aq=(r8 C n ao aq).filter λ(x:gD×fs)=>ou x.2.op:=atV _ _
def NM:md C n ao aq=((r8 C n ao aq).filter λ(x:gD×fs)=> !ou x.2.op).map λ(x:gD×fs)=>⟨x.2,vw x.1.m (rg (gR C n ao aq)),B5 x.1.i (rg (gR C n ao aq))⟩:=axP _ _ _
def NO{k:qh}(az:k∈md C n ao aq):∃p,(p,k.x)∈r8 C n ao aq/\ou k.x.op=false/\k.bG=vw p.m (rg (gR C n ao aq))/\k.aN=B5 p.i (rg (gR C n ao aq)):=by
 rw[NM]at az
 obtain⟨e,B,rfl⟩:=ZG.1 az
 obtain⟨J,Q⟩:=YJ.1 B
 exact⟨e.1,J,by simpa using Q,rfl,rfl⟩
def NL{e:gD×fs}(B:e∈gR C n ao aq):e∈r8 C n ao aq/\ou e.2.op=true:=by
 rw[NK]at B
 exact YJ.1 B
def acF(a:qf C n ao aq)(i:Nat)(aN:i<aq.size):(∃k∈md C n ao aq,k.x.i=i)\/(∃(p:Nat) (e:gD×fs),(gR C n ao aq)[p]? =some e/\e.1.i=i):=by
 obtain⟨p,x,V,J,Q,ak,ay,bt,b4⟩:=yI a i aN
 have bo:=Zn J
 cases gU:ou x.op with
 |true=>
  refine .inr ?_
  have:(p,x)∈gR C n ao aq:=by rw[NK];exact YJ.2 ⟨bo,gU⟩
  obtain⟨aj,b3⟩:=ZY.1 this
  exact⟨aj,_,b3,ak⟩
 |false=>
  refine .inl ⟨_,by rw[NM];exact ZG.2 ⟨(p,x),YJ.2 ⟨bo,by simp[gU]⟩,rfl⟩,ay⟩
def acE(a:qf C n ao aq):(r8 C n ao aq).Pairwise λF b=>F.1.i<b.1.i:=by
 rw[YM]
 intro i T aN bJ O6
 have eT:(r8 C n ao aq).length=aq.size:=by
  unfold r8
  rw[List.length_zip,(SI a).1,(JT aq).1,Nat.min_self]
 obtain⟨p,x,V,J,Q,ak,_⟩:=yI a i Zo
 obtain⟨aFw,jl,o',uH,Hd,aDN,_⟩:=yI a T Zo
 rw[Ze aN]at J
 rw[Ze bJ]at uH
 rw[Yu J,Yu uH]
 simp only;omega
def acD(a:qf C n ao aq){p aj:Nat}{e bu:gD×fs}(aw:(gR C n ao aq)[p]? =some e)(b3:(gR C n ao aq)[aj]? =some bu)(bz:e.1.i=bu.1.i):p=aj:=by
 have Lg:(gR C n ao aq).Pairwise λF b=>F.1.i<b.1.i:=by rw[NK];exact(acE a).filter _
 rw[YM]at Lg
 obtain⟨J,Q⟩:=Zb.1 aw
 obtain⟨ak,ay⟩:=Zb.1 b3
 rcases YQ p aj with c2|rfl|hd
 ·have:=Lg p aj J ak c2
  rw[Q,ay]at this;omega
 ·rfl
 ·have:=Lg aj p ak J hd
  rw[Q,ay]at this;omega
def SJ(a:qf C n ao aq):(md C n ao aq).Pairwise λF b=>F.x.i<b.x.i:=by
 rw[NM,List.pairwise_map]
 have J:((r8 C n ao aq).filter λ(x:gD×fs)=> !ou x.2.op).Pairwise λF b=>F.1.i<b.1.i:=(acE a).filter _
 refine J.imp_of_mem λ{F b} aA ag c2=> ?_
 obtain⟨_,_,bD,_⟩:=yJ a (YJ.1 aA).1
 obtain⟨_,_,cG,_⟩:=yJ a (YJ.1 ag).1
 show F.2.i<b.2.i
 rw[bD,cG];exact c2
def NN(a:qf C n ao aq){k:qh}(az:k∈md C n ao aq):k.x.i<aq.size:=by
 obtain⟨p,aw,_⟩:=NO az
 obtain⟨_,J,Q,_⟩:=yJ a aw
 simp only at J Q;omega
def ap6(a:qf C n ao aq){e:gD×fs}(B:e∈gR C n ao aq):e.1.i<aq.size/\e.2.i=e.1.i:=by
 obtain⟨_,J,Q,_⟩:=yJ a (NL B).1
 exact⟨J,Q⟩
def Dj(aq:Array Oper)(dm:Nat->Prop):Prop:=∀i V,aq[i]? =some V->dm i->∀E∈V.after.toList,Region.binds .any E=true->dm E.on
def JU{dm:Nat->Prop}(bT:Dj aq dm){p:gD}(aw:p∈pD aq){V:Oper}(bh:aq[p.i]? =some V)
 (mi:∀E∈V.after.toList,Region.binds .any E=true->dm E.on):∀F,fB p.m F=true->dm F:=by
 have key:=(ahf (aq:=aq) aq.toList 0 [] Zs Zs).2.2 (λi m=>(∀V,aq[i]? =some V->∀E∈V.after.toList,Region.binds .any E=true->dm E.on)->∀F,fB m F=true->dm F) Zs
  (λT V m bJ _ bo mi F aA=>by
   obtain⟨E,J,Q,ak⟩:=bo F aA
   have bz:=mi V bJ E J Q
   rcases ak with rfl|⟨gH,ay,bt⟩
   ·exact bz
   ·exact ay (λo' HH iM atP kg=>bT E.on o' HH bz iM atP kg) F bt)
 rw[MV]at key
 exact key p aw (λo' HH=>by rw[bh]at HH;cases HH;exact mi)
end
structure M3(C:aL)(ad:Nat->Prop)(h:R af)(base:Nat)(ap:List (Nat×D))(H:R D)(x:fs)(ac:D):Prop where
 key:es ap x.i=some ac
 ok:∃kK b,Sub kK ap/\pp x.g kK=some b/\(b=false->ac=undef)/\(b=true->(ou x.op=false)/\
  (nn x.op= .make->∃cV,o0 x.op C (base+x.i) kK H=some (ac,cV)/\U C h (base+x.i)=some cV)/\
  (nn x.op= .iu->CY x.op=false->∀k1,g4 x.op C k1 kK H=some ac))
def Jm(C:aL)(h:R af)(ap:List (Nat×D))(H:R D)(x:fs)(ac:D):Prop:=
 ∃kK k1 b,Sub kK ap/\qg C k1 h/\pp x.g kK=some b/\(b=true->nn x.op= .iu->g4 x.op C k1 kK H=some ac)
def Bb(S:c6)(ad:Nat->Prop)(ao:Nat)(aq:Array Oper)(dm:Nat->Prop)(ap:List (Nat×D))(H:R D)(tmps:Array Value):Prop:=
 ∀t v,((∃T,dm T/\te aq T=some t/\(∀pW,dm pW->te aq pW=some t->pW<=T)/\es ap T=some v)\/((∀T,dm T->te aq T≠some t)/\fB ao t=true/\H.get t=some v))->
  tmps[t]? =some (aO S v)/\cj ad v
structure rV(C:aL)(S:c6)(ad:Nat->Prop)(h:R af)(base n ao:Nat)(aq:Array Oper)(ap:List (Nat×D))(y m:Nat)(H:R D)(tmps:Array Value)(dm:Nat->Prop):Prop where
 st:qf C n ao aq
 size:tmps.size=n
 P1:y<=(gR C n ao aq).length
 dX:C.a6<=base
 closed:Dj aq dm
 xH:∀i,dm i->i<aq.size
 done:∀p a,(gR C n ao aq)[p]? =some a->(dm a.1.i↔p<y)
 uZ:∀k∈md C n ao aq,dm k.x.i->k.bG<m
 keys:∀i ac,es ap i=some ac->(∃k∈md C n ao aq,k.x.i=i/\k.bG<m)\/(∃p a,(gR C n ao aq)[p]? =some a/\a.1.i=i/\p<y)
 vW:∀p a,(gR C n ao aq)[p]? =some a->p<y->∃ac,es ap a.1.i=some ac
 ahead:∀k∈md C n ao aq,k.bG<m->∃ac,es ap k.x.i=some ac/\(¬dm k.x.i->M3 C ad h base ap H k.x ac)
 DN:Bb S ad ao aq dm ap H tmps
 ids:∀i,i<aq.size->ad (base+i)->dm i
 free:∀i,i<aq.size->es ap i=none->U C h (base+i)=none
section
variable{C:aL}{S da:c6}{ad dE:Nat->Prop}{h S':R af}{j am bm:Nat}{w b0:World}
def pz.aa{ao:Nat}{X:Nat->Prop}{el:List (Nat×Nat)}{ap:List (Nat×D)}{H:R D}{tmps:Array Value}(dP:∀b,ad b->da b=S b)(fX:∀b,ad b->dE b)(a:pz S ad ao X el ap H tmps):pz da dE ao X el ap H tmps:=
 λt v ae bv=>by
  obtain⟨J,Q⟩:=a t v ae bv
  exact⟨by rw[J,q8 dP Q],pJ fX v Q⟩
def Bb.aa{ao:Nat}{aq:Array Oper}{dm:Nat->Prop}{ap:List (Nat×D)}{H:R D}{tmps:Array Value}(dP:∀b,ad b->da b=S b)(fX:∀b,ad b->dE b)(a:Bb S ad ao aq dm ap H tmps):Bb da dE ao aq dm ap H tmps:=
 λt v bv=>by
  obtain⟨J,Q⟩:=a t v bv
  exact⟨by rw[J,q8 dP Q],pJ fX v Q⟩
def sZ.aa(dP:∀b,ad b->da b=S b)(fX:∀b,ad b->dE b)(a:sZ C S ad):sZ C da dE:=λg bP=>by
 obtain⟨J,Q,ak⟩:=a g bP
 exact⟨fX g J,by rw[dP g J];exact Q,by rw[dP g J];exact ak⟩
def rV.aa{df base n ao y m:Nat}{aq:Array Oper}{ap:List (Nat×D)}{H:R D}{tmps:Array Value}{dm:Nat->Prop}(ae:iZ C df S ad h bm w da dE S' b0)(az:base+aq.size<=df)
 (a:rV C S ad h base n ao aq ap y m H tmps dm):rV C da dE S' base n ao aq ap y m H tmps dm:=by
 have Hy:∀i,i<aq.size->dE (base+i)->dm i:=λi aN aE=>(ae.new _ aE).elim (a.ids i aN) (λaj=>Zo)
 refine⟨a.st,a.size,a.P1,a.dX,a.closed,a.xH,a.done,a.uZ,a.keys,a.vW, ?_,a.DN.aa ae.jk ae.j0,Hy, ?_⟩
 ·intro k hI oo
  obtain⟨ac,J,Q⟩:=a.ahead k hI oo
  refine⟨ac,J,λbT=> ?_⟩
  obtain⟨ak,kK,b,ay,bt,b4,dh⟩:=Q bT
  refine⟨ak,kK,b,ay,bt,b4,λag=> ?_⟩
  obtain⟨eI,hG,kx⟩:=dh ag
  refine⟨eI,λaH=> ?_,kx⟩
  obtain⟨cV,qt,vF⟩:=hG aH
  refine⟨cV,qt, ?_⟩
  have c2:=NN a.st hI
  rw[ae.aa _ (λaE=>bT (a.ids _ c2 aE)) Zo]
  exact vF
 ·intro i aN bv
  rw[ae.aa _ ?_ Zo]
  ·exact a.free i aN bv
  ·intro aE
   have bT:=a.ids i aN aE
   rcases acF a.st i aN with ⟨k,qB,mJ⟩|⟨p,e,aw,B⟩
   ·obtain⟨ac,bc,_⟩:=a.ahead k qB (a.uZ k qB (by rw[mJ];exact bT))
    rw[mJ,bv]at bc;cases bc
   ·obtain⟨ac,bc⟩:=a.vW p e aw ((a.done p e aw).1 (by rw[B];exact bT))
    rw[B,bv]at bc;cases bc
end
section
variable{C:aL}{S da:c6}{ad dE:Nat->Prop}{h S':R af}{j am bm:Nat}{w b0:World}{n ao:Nat}{aq:Array Oper}
def agJ{F b t:Nat}(J:fB F t=true)(Q:fB b t=true):Nat.beq (Nat.land F b) 0=false:=by
 cases a:Nat.beq (Nat.land F b) 0 with
 |false=>rfl
 |true=>
  have E:=Zl a
  have:=ao4 F b t
  rw[E,Nv,J,Q]at this
  cases this
def QC{p:gD}{V:Oper}(a:Gl aq p V){t:Nat}(aE:V.dst=some t):fB p.w t=true:=by rw[a.w];exact aqf.2 aE
def az3{p:gD}{V:Oper}(a:Gl aq p V){t:Nat}(Y:Operand.tmp t∈V.op.operands.toList):fB p.r t=true:=by
 rw[a.r,GC,azm.2 Y];rfl
def Sy(a:qf C n ao aq){i T:Nat}{p aj:gD}(O6:i<T)(aw:(pD aq)[i]? =some p)(b3:(pD aq)[T]? =some aj){t:Nat}
 (ax:(fB p.w t=true/\(fB aj.r t=true\/fB aj.w t=true))\/(fB aj.w t=true/\fB p.r t=true)):fB aj.m i=true:=by
 have:=ay8 a.azA i T p aj O6 aw b3
 have Lf:p.i=i:=((JT aq).2 i p aw).1
 unfold Qq at this
 rw[Lf]at this
 rcases ax with ⟨J,Q⟩|⟨J,Q⟩
 ·have ak:fB (Nat.lor aj.r aj.w) t=true:=by rw[GC];rcases Q with Q|Q<;>simp[Q]
  rw[agJ J ak]at this
  simpa using this
 ·rw[agJ J Q]at this
  simpa using this
def Qd{i:Nat}{p:gD}(aw:(pD aq)[i]? =some p):p∈pD aq:=Zn aw
def ap7(dj:qf C n ao aq){dm:Nat->Prop}{ap:List (Nat×D)}{H:R D}{tmps:Array Value}(g1:Dj aq dm)(ol:∀i,dm i->i<aq.size)(aE:Bb S ad ao aq dm ap H tmps)
 {i:Nat}{p:gD}{V:Oper}(aw:(pD aq)[i]? =some p)(bh:aq[i]? =some V)(rr:¬dm i)(mi:∀E∈V.after.toList,Region.binds .any E=true->dm E.on):
 pz S ad ao (λt=>fB p.r t=true) (iK aq i) ap H tmps:=by
 have aN:i<aq.size:=(ZM.1 bh).1
 obtain⟨_,fd,kw⟩:=MW aq i (zk aN)
 have Lf:p.i=i:=((JT aq).2 i p aw).1
 have Ph:=JU g1 (Qd aw) (by rw[Lf];exact bh) mi
 have agM:∀t T,fB p.r t=true->i<T->dm T->te aq T=some t->False:=by
  intro t T Y O6 bT vP
  obtain⟨aj,x,AJ,_,b3,xE,_,ae,Ak⟩:=yI dj T (ol T bT)
  have Ai:aq[T]? =some AJ:=by rw[<-xE];exact Ak.oper
  have bw:=QC Ak (t:=t) (by rw[<-JX Ai];exact vP)
  have ag:=Sy dj O6 aw b3 (.inr ⟨bw,Y⟩)
  have:=JU g1 (Qd b3) (by rw[xE];exact Ai) (g1 T AJ Ai bT) i ag
  exact rr this
 intro t v bU bv
 apply aE t v
 split at bv
 ·rename_i T bJ
  obtain⟨bK,b1,cM⟩:=fd t T bJ
  left
  have aut:T<aq.size:=Zo
  obtain⟨aj,x,AJ,_,b3,xE,_,ae,Ak⟩:=yI dj T aut
  have Ai:aq[T]? =some AJ:=by rw[<-xE];exact Ak.oper
  have bw:=QC Ak (t:=t) (by rw[<-JX Ai];exact b1)
  have ag:=Sy dj bK b3 aw (.inl ⟨bw, .inl bU⟩)
  refine⟨T,Ph T ag,b1,λpW D5 tr=> ?_,bv⟩
  rcases YQ pW i with J|J|J
  ·rcases zc T pW with Q|Q
   ·exact absurd tr (cM pW Q J)
   ·exact Q
  ·exact absurd (J▸D5) rr
  ·exact(agM t pW bU J D5 tr).elim
 ·rename_i bJ
  right
  refine⟨λT bT vP=> ?_,bv.1,bv.2⟩
  rcases YQ T i with J|J|J
  ·exact kw t bJ T J vP
  ·exact rr (J▸bT)
  ·exact agM t T bU J bT vP
def Bb.put(dj:qf C n ao aq){dm:Nat->Prop}{ap hQ:List (Nat×D)}{H:R D}{tmps:Array Value}(g1:Dj aq dm)(ol:∀i,dm i->i<aq.size)(aE:Bb S ad ao aq dm ap H tmps)(eN:tmps.size=n)
 {i:Nat}{V:Oper}{v:D}(bh:aq[i]? =some V)(rr:¬dm i)(T3:∀T,dm T->∀ac,es hQ T=some ac->es ap T=some ac)(atg:es hQ i=some v)(pO:∀d,V.dst=some d->d<n)(fx:cj ad v):
 Bb S ad ao aq (add dm i) hQ H (qP tmps V.dst (aO S v)):=by
 have aN:i<aq.size:=(ZM.1 bh).1
 have Uf:=JX bh
 have HO:∀t,(qP tmps V.dst (aO S v))[t]? =if V.dst=some t then some (aO S v)else tmps[t]? :=λt=>aia _ _ _ _ (by rw[eN];exact pO)
 intro t ac a
 rw[HO]
 by_cases Ht:V.dst=some t
 ·rw[Zp Ht]
  rcases a with ⟨T,bT,vP,xz,bc⟩|⟨J,_⟩
  ·
   have ae2:T=i:=by
    rcases bT with bT|bT
    ·have f4:=xz i (.inr rfl) (by rw[Uf];exact Ht)
     rcases zc i T with c2|B4
     ·exfalso
      obtain⟨p,x,ay4,_,aw,Lf,_,_,Et⟩:=yI dj i aN
      obtain⟨aj,jl,AJ,_,b3,xE,_,_,Ak⟩:=yI dj T (ol T bT)
      have Ai:aq[T]? =some AJ:=by rw[<-xE];exact Ak.oper
      have auX:ay4=V:=by
       have:=Et.oper
       rw[Lf,bh]at this
       exact(Yu this).symm
      subst auX
      have ag:=Sy dj c2 aw b3 (.inl ⟨QC Et Ht, .inr (QC Ak (by rw[<-JX Ai];exact vP))⟩)
      exact rr (JU g1 (Qd b3) (by rw[xE];exact Ai) (g1 T AJ Ai bT) i ag)
     ·omega
    ·exact bT
   subst ae2
   rw[atg]at bc
   cases bc
   exact⟨rfl,fx⟩
  ·exact absurd (by rw[Uf];exact Ht) (J i (.inr rfl))
 ·rw[Zh Ht]
  apply aE t ac
  rcases a with ⟨T,bT,vP,xz,bc⟩|⟨J,Q⟩
  ·left
   have D5:dm T:=bT.resolve_right λE=>Ht (by rw[<-Uf, <-E];exact vP)
   exact⟨T,D5,vP,λpW K0 tr=>xz pW (.inl K0) tr,T3 T D5 ac bc⟩
  ·right
   exact⟨λT bJ=>J T (.inl bJ),Q⟩
def Dj.add{dm:Nat->Prop}(g1:Dj aq dm){i:Nat}{V:Oper}(bh:aq[i]? =some V)(mi:∀E∈V.after.toList,Region.binds .any E=true->dm E.on):Dj aq (add dm i):=by
 intro T AJ bJ bT E bz ag
 rcases bT with bT|bT
 ·exact .inl (g1 T AJ bJ bT E bz ag)
 ·subst bT
  rw[bh]at bJ;cases bJ
  exact .inl (mi E bz ag)
def P7(dj:qf C n ao aq){k:qh}(az:k∈md C n ao aq){p:Nat}{e:gD×fs}(aw:(gR C n ao aq)[p]? =some e):k.x.i≠e.1.i:=by
 intro E
 obtain⟨aj,J,Q,_⟩:=NO az
 obtain⟨ak,ay⟩:=NL (Zn aw)
 obtain⟨_,_,b1,cM,_⟩:=yJ dj J
 obtain⟨_,_,cq,cS,_⟩:=yJ dj ak
 simp only at b1 cM
 rw[<-b1,E,cS]at cM
 cases cM
 rw[Q]at ay;cases ay
def rV.fo{base ev:Nat}{ap:List (Nat×D)}{H:R D}{tmps:Array Value}{dm:Nat->Prop}(a:rV C S ad h base n ao aq ap ev (ev+1) H tmps dm){e:gD×fs}(B:(gR C n ao aq)[ev]? =some e)
 {V:Oper}(bh:aq[e.1.i]? =some V)(rr:¬dm e.1.i)(mi:∀E∈V.after.toList,Region.binds .any E=true->dm E.on){v:D}(fx:cj ad v)(pO:∀d,V.dst=some d->d<n):
 rV C S ad h base n ao aq ((e.1.i,v)::ap) (ev+1) (ev+1) H (qP tmps V.dst (aO S v)) (add dm e.1.i):=by
 have Uo:es ap e.1.i=none:=by
  cases bv:es ap e.1.i with
  |none=>rfl
  |some ac=>
   exfalso
   rcases a.keys _ ac bv with ⟨k,J,Q,_⟩|⟨p,bu,J,Q,ak⟩
   ·exact P7 a.st J B Q
   ·have:=acD a.st J B Q;omega
 have Ao:Sub ap ((e.1.i,v)::ap):=Sub.cons Uo
 have aN:e.1.i<aq.size:=(ZM.1 bh).1
 refine⟨a.st,by rw[QE];exact a.size,zq (Zb.1 B).1,a.dX,a.closed.add bh mi, ?_, ?_, ?_, ?_, ?_, ?_, ?_, ?_, ?_⟩
 ·rintro i (bT|bT)
  ·exact a.xH i bT
  ·omega
 ·intro p bu cm
  constructor
  ·rintro(bT|bT)
   ·have:=(a.done p bu cm).1 bT;omega
   ·have:=acD a.st cm B bT;omega
  ·intro aw
   rcases zc p ev with c2|B4
   ·exact .inl ((a.done p bu cm).2 c2)
   ·have:p=ev:=Zo
    subst this
    rw[B]at cm;cases cm
    exact .inr rfl
 ·rintro k az (bT|bT)
  ·exact a.uZ k az bT
  ·exact(P7 a.st az B bT).elim
 ·intro i ac bc
  rw[r4]at bc
  split at bc
  ·rename_i E
   exact .inr ⟨ev,e,B,E,Zo⟩
  ·rcases a.keys i ac bc with J|⟨p,bu,J,Q,ak⟩
   ·exact .inl J
   ·exact .inr ⟨p,bu,J,Q,Zo⟩
 ·intro p bu cm aw
  rw[r4]
  split
  ·exact⟨v,rfl⟩
  ·rename_i dS
   have:p≠ev:=λE=>by subst E;rw[B]at cm;cases cm;exact dS rfl
   exact a.vW p bu cm Zo
 ·intro k az oo
  obtain⟨ac,J,Q⟩:=a.ahead k az oo
  refine⟨ac,Ao _ _ J,λbT=> ?_⟩
  obtain⟨_,kK,b,ay,bt⟩:=Q (λaj=>bT (.inl aj))
  exact⟨Ao _ _ J,kK,b,ay.trans Ao,bt⟩
 ·refine a.DN.put a.st a.closed a.xH a.size bh rr ?_ (by rw[r4,Zp rfl]) pO fx
  intro T bT ac bc
  rw[r4,Zh]at bc
  ·exact bc
  ·intro E;subst E;exact rr bT
 ·intro i lz aE
  exact .inl (a.ids i lz aE)
 ·intro i lz bv
  rw[r4]at bv
  split at bv
  ·cases bv
  ·exact a.free i lz bv
def rV.iu{base ev m:Nat}{ap:List (Nat×D)}{H:R D}{tmps:Array Value}{dm:Nat->Prop}(a:rV C S ad h base n ao aq ap ev m H tmps dm){k:qh}(az:k∈md C n ao aq)(oo:k.bG<m)
 {V:Oper}(bh:aq[k.x.i]? =some V)(rr:¬dm k.x.i)(mi:∀E∈V.after.toList,Region.binds .any E=true->dm E.on){v:D}(bv:es ap k.x.i=some v)
 (dP:∀b,ad b->da b=S b)(fX:∀b,ad b->dE b)(asJ:∀b,dE b->ad b\/b=base+k.x.i)(fx:cj dE v)(pO:∀d,V.dst=some d->d<n):
 rV C da dE h base n ao aq ap ev m H (qP tmps V.dst (aO da v)) (add dm k.x.i):=by
 have aN:k.x.i<aq.size:=(ZM.1 bh).1
 refine⟨a.st,by rw[QE];exact a.size,a.P1,a.dX,a.closed.add bh mi, ?_, ?_, ?_,a.keys,a.vW, ?_, ?_, ?_,a.free⟩
 ·rintro i (bT|bT)
  ·exact a.xH i bT
  ·omega
 ·intro p bu cm
  constructor
  ·rintro(bT|bT)
   ·exact(a.done p bu cm).1 bT
   ·exact(P7 a.st az cm bT.symm).elim
  ·intro aw
   exact .inl ((a.done p bu cm).2 aw)
 ·rintro bM hI (bT|bT)
  ·exact a.uZ bM hI bT
  ·have:=(SJ a.st)
   by_cases aj:bM=k
   ·rw[aj];exact oo
   ·exfalso
    obtain⟨F,aA⟩:=ZY.1 hI
    obtain⟨b,ag⟩:=ZY.1 az
    obtain⟨KD,og⟩:=Zb.1 aA
    obtain⟨o4,lX⟩:=Zb.1 ag
    rw[YM]at this
    rcases YQ F b with c2|E|hd
    ·have:=this F b KD o4 c2
     rw[og,lX]at this;omega
    ·subst E
     rw[og]at lX;exact aj lX
    ·have:=this b F o4 KD hd
     rw[og,lX]at this;omega
 ·intro bM hI auA
  obtain⟨ac,J,Q⟩:=a.ahead bM hI auA
  refine⟨ac,J,λbT=> ?_⟩
  obtain⟨ak,kK,b,ay,bt,b4,dh⟩:=Q (λaj=>bT (.inl aj))
  exact⟨ak,kK,b,ay,bt,b4,dh⟩
 ·exact(a.DN.aa dP fX).put a.st a.closed a.xH a.size bh rr (λ_ _ _ aj=>aj) bv pO fx
 ·intro i lz aE
  rcases asJ _ aE with aE|aE
  ·exact .inl (a.ids i lz aE)
  ·exact .inr Zo
end
def ur(S:c6)(p:sR):PanicEntry:={v:=aO S p.v,recovered:=p.recovered}
def g0(S:c6):ll->FrameMode
 | .run=> .run
 | .returning=> .returning
 | .panicking fw=> .panicking (fw.map (ur S))
def rh(ad:Nat->Prop):ll->Prop
 | .panicking fw=>∀p∈fw,cj ad p.v
 |_=>True
inductive Dm(C:aL)(S:c6)(ad:Nat->Prop)(ao:Nat):dV->Item->Prop
 |code {c:Code}:mc C ao c=true->Dm C S ad ao (.code c) (.code c)
 |inBlock {id:Nat}:Dm C S ad ao (.inBlock id) (.inBlock id)
 |inLoop {b:Code}:mc C ao b=true->Dm C S ad ao (.inLoop b) (.inLoop b)
 |inScope {b:Code}:mc C ao b=true->Dm C S ad ao (.inScope b) (.inScope b)
 |DS {k:Nat}:ad k->Dm C S ad ao (.endRangeFunc k) (.endRangeFunc (S k).cJ)
 |begin:Dm C S ad ao .beginRound .beginRound
inductive l7(C:aL)(S:c6)(ad:Nat->Prop)(ao:Nat):List dV->List Item->Prop
 |nil:l7 C S ad ao [] []
 |cons {F x y bx}:Dm C S ad ao F x->l7 C S ad ao y bx->l7 C S ad ao (F::y) (x::bx)
def RQ(C:aL)(S:c6)(ad:Nat->Prop)(n ao:Nat)(aq:Array Oper)(ap:List (Nat×D))(rest:List fs)(fin:List (Nat×Nat))(H:R D)(tmps:Array Value)(k:List Nat):Prop:=
 ∃i,i<=aq.size/\k=List.range' i (aq.size-i)/\tc C n ao (aq.toList.drop i) i (iK aq i)=some rest/\fin=lx ao aq.toList 0/\pz S ad ao (λ_=>True) (iK aq i) ap H tmps/\tmps.size=n
def anX(C:aL)(S:c6)(ad:Nat->Prop)(n ao:Nat)(aq:Array Oper)(ap:List (Nat×D))(a:Nat)(rest:List fs)(fin:List (Nat×Nat))(H:R D)(tmps:Array Value)(k:List Nat):Prop:=
 ∃V,aq[a]? =some V/\(∀d,V.dst=some d->d<n)/\k=List.range' (a+1) (aq.size-(a+1))/\tc C n ao (aq.toList.drop (a+1)) (a+1) (iK aq (a+1))=some rest/\fin=lx ao aq.toList 0/\
  pz S ad ao (λ_=>True) (iK aq a) ap H tmps/\tmps.size=n
inductive Dw(C:aL)(S:c6)(ad:Nat->Prop)(h:R af)(df j n ao:Nat)(H:R D)(tmps:Array Value):List dV->List Item->Prop
 |plain {y bx}:l7 C S ad ao y bx->jO S ad n ao H tmps->Dw C S ad h df j n ao H tmps y bx
 |seq {aq ap rest fin k y bx}:l7 C S ad ao y bx->RQ C S ad n ao aq ap rest fin H tmps k->Dw C S ad h df j n ao H tmps (.IL aq ap rest fin::y) (.inRegion aq k::bx)
 |drawn {aq base ap k y bx dm ev}:l7 C S ad ao y bx->df<=base->base+aq.size<=j->rV C S ad h base n ao aq ap ev ev H tmps dm->wP aq dm k->
   Dw C S ad h df j n ao H tmps (.drawn aq base ap (AG (md C n ao aq) ev ((gR C n ao aq).drop ev)) (lx ao aq.toList 0)::y) (.inRegion aq k::bx)
inductive m6(C:aL)(S:c6)(ad:Nat->Prop)(h:R af)(bG aN n ao:Nat)(H:R D)(tmps:Array Value):List dV->List Item->Prop
 |seq {aq ap a rest fin k y bx}:l7 C S ad ao y bx->anX C S ad n ao aq ap a rest fin H tmps k->m6 C S ad h bG aN n ao H tmps (.uf aq ap a rest fin::y) (.inRegion aq (a::k)::bx)
 |drawn {aq base ap k y bx dm ev e V}:l7 C S ad ao y bx->bG<=base->base+aq.size<=aN->rV C S ad h base n ao aq ap ev (ev+1) H tmps dm->(gR C n ao aq)[ev]? =some e->
   aq[e.1.i]? =some V->¬dm e.1.i->(∀E∈V.after.toList,Region.binds .any E=true->dm E.on)->wP aq (add dm e.1.i) k->
   m6 C S ad h bG aN n ao H tmps (.AY aq base ap e.1.i (AG (md C n ao aq) (ev+1) ((gR C n ao aq).drop (ev+1))) (lx ao aq.toList 0)::y) (.inRegion aq (e.1.i::k)::bx)
 |dx {k y bx}:l7 C S ad ao y bx->jO S ad n ao H tmps->ad k->m6 C S ad h bG aN n ao H tmps (.inRangeFunc k::y) (.inRangeFunc (S k).cJ::bx)
def Bm(C:aL)(S:c6)(ad:Nat->Prop)(h:R af)(bG aN n ao:Nat)(H:R D)(tmps:Array Value)(bR:ll)(todo:List dV)(bx:List Item):Prop:=match bR with
 | .run=>m6 C S ad h bG aN n ao H tmps todo bx
 |_=>jO S ad n ao H tmps
def ct(S:c6)(fn:Nat)(bd:List h0)(aB:Bool)(ro:Option Nat)(tmps:Array Value)(bx:List Item)(mode:FrameMode):Frame:=
 {fn,tmps,todo:=bx,defers:=bd.map (ma S),mode,kind:=if aB then .deferred else .normal,roundOf:=ro.map λk=>(S k).cJ}
structure wJ(C:aL)(ad:Nat->Prop)(fn ao:Nat)(bd:List h0)(ro:Option Nat):Prop where
 bd:∀d∈bd,xf ad d
 ro:∀k,ro=some k->ad k
 fn:RB C fn ao
inductive pt(C:aL)(S:c6)(ad:Nat->Prop)(h:R af)(bE:Nat)(bS:List Frame):Nat->List gY->List Frame->Prop
 |nil {df}:pt C S ad h bE bS df [] bS
 |cons {bG df fn n ao H todo bd bR aB ro cs tmps bx an}:Bm C S ad h bG df n ao H tmps bR todo bx->rh ad bR->wJ C ad fn ao bd ro->(cs=[]->fn=bE/\aB=false/\ro=none)->bG<=df->pt C S ad h bE bS bG cs an->
   pt C S ad h bE bS df (⟨fn,n,ao,H,todo,bd,bR,aB,ro⟩::cs) (ct S fn bd aB ro tmps bx (g0 S bR)::an)
section
variable{C:aL}{S da:c6}{ad dE:Nat->Prop}{h S':R af}{j am bm:Nat}{w b0:World}{n ao:Nat}{aq:Array Oper}
def l7.aa{y:List dV}{bx:List Item}(dP:∀b,ad b->da b=S b)(fX:∀b,ad b->dE b)(a:l7 C S ad ao y bx):l7 C da dE ao y bx:=by
 induction a with
 |nil=>exact .nil
 |cons J _ ai=>
  refine .cons ?_ ai
  cases J with
  |code a=>exact .code a
  |inBlock=>exact .inBlock
  |inLoop a=>exact .inLoop a
  |inScope a=>exact .inScope a
  |DS a=>rw[<-dP _ a];exact .DS (fX _ a)
  |begin=>exact .begin
def m6.aa{bG df:Nat}{H:R D}{tmps:Array Value}{y:List dV}{bx:List Item}(ae:iZ C df S ad h bm w da dE S' b0)(a:m6 C S ad h bG df n ao H tmps y bx):m6 C da dE S' bG df n ao H tmps y bx:=by
 cases a with
 |seq J Q=>
  obtain⟨V,a7,b6,a3,a4,a5,hE,ib⟩:=Q
  exact .seq (J.aa ae.jk ae.j0) ⟨V,a7,b6,a3,a4,a5,hE.aa ae.jk ae.j0,ib⟩
 |drawn J Q ak ay bt b4 dh eI hG=>exact .drawn (J.aa ae.jk ae.j0) Q ak (ay.aa ae ak) bt b4 dh eI hG
 |dx J Q ak=>rw[<-ae.jk _ ak];exact .dx (J.aa ae.jk ae.j0) (Q.aa ae.jk ae.j0) (ae.j0 _ ak)
def Bm.aa{bG df:Nat}{H:R D}{tmps:Array Value}{bR:ll}{y:List dV}{bx:List Item}(ae:iZ C df S ad h bm w da dE S' b0)(a:Bm C S ad h bG df n ao H tmps bR y bx):Bm C da dE S' bG df n ao H tmps bR y bx:=by
 cases bR with
 |run=>exact m6.aa ae a
 |returning=>exact jO.aa ae.jk ae.j0 a
 |panicking fw=>exact jO.aa ae.jk ae.j0 a
def wJ.aa{fn:Nat}{bd:List h0}{ro:Option Nat}(fX:∀b,ad b->dE b)(a:wJ C ad fn ao bd ro):wJ C dE fn ao bd ro:=
 ⟨λd aE=>adD fX (a.bd d aE),λk az=>fX k (a.ro k az),a.fn⟩
def Ik{fn:Nat}{bd:List h0}{aB:Bool}{ro:Option Nat}{tmps:Array Value}{bx:List Item}{mode:FrameMode}(dP:∀b,ad b->da b=S b)(a:wJ C ad fn ao bd ro):ct da fn bd aB ro tmps bx mode=ct S fn bd aB ro tmps bx mode:=by
 unfold ct
 congr 1
 ·exact Yz λd aE=>Sl dP (a.bd d aE)
 ·cases ro with
  |none=>rfl
  |some k=>simp only[ZR,dP k (a.ro k rfl)]
def api{bR:ll}(dP:∀b,ad b->da b=S b)(a:rh ad bR):g0 da bR=g0 S bR:=by
 cases bR with
 |panicking fw=>
  simp only[g0]
  congr 1
  exact Yz λp aw=>by simp only[ur,q8 dP (a p aw)]
 |_=>rfl
def asc{bR:ll}(fX:∀b,ad b->dE b)(a:rh ad bR):rh dE bR:=by
 cases bR with
 |panicking fw=>exact λp aw=>pJ fX _ (a p aw)
 |_=>trivial
def iZ.mono{df LZ:Nat}(a:iZ C df S ad h bm w da dE S' b0)(az:LZ<=df):iZ C LZ S ad h bm w da dE S' b0:=
 ⟨a.jk,a.j0,λb ag=>(a.new b ag).imp id (λaj=>Zo),λb ag c2=>a.aa b ag Zo,a.below⟩
def pt.aa{bE:Nat}{bS:List Frame}{df:Nat}{cs:List gY}{an:List Frame}(a:pt C S ad h bE bS df cs an)(ae:iZ C df S ad h bm w da dE S' b0):pt C da dE S' bE bS df cs an:=by
 induction a with
 |nil=>exact .nil
 |cons J bo Q ay bt b4 ai=>
  rw[<-Ik (S:=S) (da:=da) ae.jk Q, <-api ae.jk bo]
  exact .cons (J.aa ae) (asc ae.j0 bo) (Q.aa ae.j0) ay bt (ai (ae.mono bt))
def NP(t:Nat):∀(k:List Nat) (H:R D),(w8 k H).get t=if t∈k then none else H.get t:=by
 intro k
 induction k with
 |nil=>intro H;simp[w8]
 |cons d k ai=>
  intro H
  simp only[w8,ai,R.kN,Zt]
  by_cases a:t∈k
  ·simp[a]
  ·by_cases E:d=t
   ·subst E;simp
   ·have:¬t=d:=λaj=>E aj.symm
    simp[a,E,this]
def jO.drop{H:R D}{tmps:Array Value}(a:jO S ad n ao H tmps)(k:List Nat):jO S ad n ao (w8 k H) tmps:=by
 refine⟨a.size,λt v ag bv=> ?_⟩
 rw[NP]at bv
 split at bv
 ·cases bv
 ·exact a.val t v ag bv
def acJ{k:List Oper}{V:Oper}{d:Nat}(bh:V∈k)(aE:V.dst=some d):d∈dstsOf k:=by
 induction k with
 |nil=>cases bh
 |cons F k ai=>
  simp only[dstsOf]
  rcases Zt.1 bh with rfl|bh
  ·rw[aE];exact Zv ..
  ·split
   ·exact Zu _ (ai bh)
   ·exact ai bh
def m6.drop{bG df:Nat}{H:R D}{tmps:Array Value}{y:List dV}{bx:List Item}(a:m6 C S ad h bG df n ao H tmps y bx):jO S ad n ao (vx y H) tmps:=by
 cases a with
 |seq J Q=>
  rename_i aq ap a rest fin k y bx
  obtain⟨V,a7,b6,a3,a4,a5,hE,ib⟩:=Q
  refine⟨ib,λt v ag bv=> ?_⟩
  simp only[vx]at bv
  rw[NP]at bv
  split at bv
  ·cases bv
  ·rename_i aF
   have aN:a<aq.size:=(ZM.1 a7).1
   obtain⟨_,fd,_⟩:=MW aq a (zk aN)
   apply hE t v trivial
   cases bJ:es (iK aq a) t with
   |some T=>
    exfalso
    obtain⟨bK,b1,_⟩:=fd t T bJ
    unfold te at b1
    cases bh:aq[T]? with
    |none=>rw[bh]at b1;cases b1
    |some o'=>
     rw[bh]at b1
     exact aF (acJ (by rw[Array.mem_toList_iff];exact Y4 bh) b1)
   |none=>exact⟨ag,bv⟩
 |drawn J Q ak ay bt b4 dh eI hG=>
  rename_i aq base ap k y bx dm ev e V
  refine⟨ay.size,λt v ag bv=> ?_⟩
  simp only[vx]at bv
  rw[NP]at bv
  split at bv
  ·cases bv
  ·rename_i aF
   apply ay.DN t v
   right
   refine⟨λT bT aE=> ?_,ag,bv⟩
   unfold te at aE
   cases bh:aq[T]? with
   |none=>rw[bh]at aE;cases aE
   |some o'=>
    rw[bh]at aE
    exact aF (acJ (by rw[Array.mem_toList_iff];exact Y4 bh) aE)
 |dx J Q ak=>exact Q
def Bm.drop{bG df:Nat}{H:R D}{tmps:Array Value}{bR:ll}{y:List dV}{bx:List Item}(a:Bm C S ad h bG df n ao H tmps bR y bx):jO S ad n ao (vx y H) tmps:=by
 cases bR with
 |run=>exact m6.drop a
 |_=>
  have cy:jO S ad n ao H tmps:=a
  unfold vx
  split<;>first|exact cy.drop _|exact cy
def pz.put{H:R D}{ap:List (Nat×D)}{tmps:Array Value}{i:Nat}{V:Oper}{v:D}(bh:aq[i]? =some V)(bv:pz S ad ao (λ_=>True) (iK aq i) ap H tmps)(aE:∀d,V.dst=some d->d<tmps.size)(fx:cj ad v):
 pz S ad ao (λ_=>True) (iK aq (i+1)) ((i,v)::ap) H (qP tmps V.dst (aO S v)):=by
 have aN:i<aq.size:=(ZM.1 bh).1
 obtain⟨_,fd,_⟩:=MW aq i (zk aN)
 intro t ac _ a
 rw[aia _ _ _ _ aE]
 rw[MU bh,Gw]at a
 split at a
 ·rename_i T bJ
  split at bJ
  ·rename_i E
   cases bJ
   rw[r4,Zp rfl]at a
   cases a
   rw[Zp E]
   exact⟨rfl,fx⟩
  ·rename_i E
   rw[Zh E]
   have:=(fd t T bJ).1
   rw[r4,Zh Zo]at a
   exact bv t ac trivial (by rw[bJ];exact a)
 ·rename_i bJ
  split at bJ
  ·cases bJ
  ·rename_i E
   rw[Zh E]
   exact bv t ac trivial (by rw[bJ];exact a)
def N5{g:Frame}{a:Nat}{k:List Nat}{bx:List Item}{V:Oper}(bP:g.todo= .inRegion aq (a::k)::bx)(bh:aq[a]? =some V)(v:Value):
 g.finish v={g with tmps:=qP g.tmps V.dst v,todo:= .inRegion aq k::bx}:=by
 unfold Frame.finish
 rw[bP]
 simp only[bh,ZL]
 cases V.dst<;>rfl
def aq6{bG df j n ao fn:Nat}{H:R D}{tmps:Array Value}{todo:List dV}{bx:List Item}{bd:List h0}{aB:Bool}{ro:Option Nat}{mode:FrameMode}{v:D}(a:m6 C S ad h bG df n ao H tmps todo bx)(az:df<=j)(fx:cj ad v):
 ∃eO y hW hZ iq,todo=eO::y/\pH eO v=some hW/\(ct S fn bd aB ro tmps bx mode).finish (aO S v)=ct S fn bd aB ro hZ iq mode/\Dw C S ad h bG j n ao H hZ (hW::y) iq:=by
 cases a with
 |seq J Q=>
  rename_i aq ap a rest fin k y bx
  obtain⟨V,a7,b6,a3,a4,a5,hE,ib⟩:=Q
  have c2:a<aq.size:=(ZM.1 a7).1
  refine⟨_,y, .IL aq ((a,v)::ap) rest fin,qP tmps V.dst (aO S v), .inRegion aq k::bx,rfl,rfl, ?_, .seq J ⟨a+1,Zo,a3,a4,a5,hE.put a7 (by rw[ib];exact b6) fx,by rw[QE];exact ib⟩⟩
  rw[N5 (g:=ct S fn bd aB ro tmps _ mode) rfl a7];rfl
 |drawn J Q ak ay bt b4 dh eI hG=>
  rename_i aq base ap k y bx dm ev e V
  have B:=Zn bt
  have pO:∀d,V.dst=some d->d<n:=by
   obtain⟨o',bK,b1,cM,dF,fj,d0⟩:=yJ ay.st (NL B).1
   have:o'=V:=by
    have:=d0.oper
    rw[b4]at this
    exact(Yu this).symm
   subst this
   exact fj.dst
  refine⟨_,y, .drawn aq base ((e.1.i,v)::ap) _ _,qP tmps V.dst (aO S v), .inRegion aq k::bx,rfl,rfl, ?_, .drawn J Q (ZA ak az) (ay.fo bt b4 dh eI fx pO) hG⟩
  rw[N5 (g:=ct S fn bd aB ro tmps _ mode) rfl b4];rfl
 |dx J Q ak=>
  rename_i k y bx
  exact⟨_,y, .endRangeFunc k,tmps, .endRangeFunc (S k).cJ::bx,rfl,rfl,rfl, .plain (.cons (.DS ak) J) Q⟩
def Ra{H:R D}{ap kK:List (Nat×D)}{tmps:Array Value}{X:Nat->Prop}{i:Nat}{V:Oper}{g:Option (Nat×Bool)}{b:Bool}(aN:i<=aq.size)(bP:JI (iK aq i) V.guard=some g)(bv:pz S ad ao X (iK aq i) ap H tmps)
 (bU:∀T b t,V.guard=some (T,b)->w9 T (iK aq i)=some t->X t)(aD:Sub kK ap)(a:pp g kK=some b):Region.wanted V (yielded aq tmps)=b:=by
 obtain⟨eQ,_,_⟩:=MW aq i aN
 unfold JI at bP
 unfold Region.wanted
 split at bP
 ·rename_i aue
  simp at bP;subst bP
  simp[pp]at a
  rw[aue, <-a]
 ·rename_i T l4 vT
  rw[vT]
  split at bP
  ·rename_i t a8
   split at bP
   ·rename_i pW bJ
    rw[h1]at bP
    split at bP
    ·rename_i E
     subst E
     simp at bP;subst bP
     simp only[pp]at a
     split at a
     ·rename_i ac bc
      have:=bv t ac (bU T l4 t vT a8) (by rw[bJ];exact aD _ _ bc)
      have B:yielded aq tmps T=(match aO S ac with| .bool b=>some b|_=>none):=by
       unfold yielded
       have aE:=eQ T t a8
       unfold te at aE
       rw[aE]
       simp only[ZL,this.1]
       cases aO S ac<;>rfl
      simp only[B]
      cases ac<;>simp[aO]at a ⊢ <;>first|(rw[<-a])|exact a|(subst a;rfl)|skip
      all_goals simp_all
     ·simp at a
    ·simp at bP
   ·simp at bP
  ·simp at bP
end
end Go.ba

