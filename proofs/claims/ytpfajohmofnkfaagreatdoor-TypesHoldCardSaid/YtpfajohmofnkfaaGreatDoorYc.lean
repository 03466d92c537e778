/- A part of the last text's proof; no condition of its own -/
import Derived.Test.YtpfajohmofnkfaaGreatDoorYb
import Derived.Laws.RangeString
set_option maxHeartbeats 8000000
set_option linter.all false
namespace Go.bk
open Go.RowKit (Below)
section
variable{P:Program}{w bZ:World}{dm:Array TypeId}{ty st iB ep:TypeId}{i:TypeInfo}{dO:TypeDesc}{base:Option Addr}{gY lg n:Nat}{X bu:Value}{p6 new:Array Value}
def OF(P:Program)(w:World)(dO:TypeDesc)(X:Value)(i:TypeInfo):Prop:=
 ((dO= .string\/∃I,dO= .slice I)/\(Builtin.lenOf X).run P w= .ok 0 w/\(Builtin.firstCells i.size 0 X).run P w= .ok #[] w)\/((∃ao,dO= .int ao)/\∃F,X= .int F 0)
def Pe(ch:dm[0]? =some st)(T:dm[1]? =some iB)(dp:P.underlying st=some (.slice ep))(hT:P.underlying iB=some dO)(aN:P.info? ep=some i)
 (bW:OF P w dO X i)(aM:gY<=lg):(Builtin.append_ dm ty #[.slice base gY lg,X]).run P w= .ok (.slice base gY lg) w:=by
 rcases bW with ⟨gS,hs,ht⟩|⟨⟨ao,rfl⟩,F,rfl⟩
 ·rcases gS with rfl|⟨_,rfl⟩<;>cases base<;>simp[Builtin.append_,ch,T,run_underlying dp,run_underlying hT,sizeOf,typeInfo,aN,hs,aM,ht,storeCells]
 ·have bI:IntKind.i64.wrap 0=0:=by decide
  have aA:¬((2:Int)^48<0):=by decide
  cases base<;>simp[Builtin.append_,ch,T,run_underlying dp,run_underlying hT,sizeOf,typeInfo,aN,asInt,asIntOf,bI,aA,aM,storeCells]
end
section
variable{C:a2}{S dg:da}{af dE:Nat->Prop}{h U:V an}{j ar bm:Nat}{w bZ:World}
def akv{dO:TypeDesc}{X bu:Value}{i:TypeInfo}(a:x1 C.P w dO X i bu 0 (b2 S []).toArray):OF C.P w dO X i:=by
 rcases a with ⟨gS,hs,ht,_⟩|⟨_,_,_,_,kB,_⟩
 ·exact .inl ⟨gS,hs,ht⟩
 ·simp at kB
def an9{b Y len br n:Nat}(Z:dt C S af h j bm w)(ai:af b)(a:xP C h b=some n)(aI:0<br)(aD:Y+len*br<=n):len<=((S b).room-Y)/br:=by
 have:=aeL Z ai a
 rw[Y2 aI]
 omega
def WM(Z:dt C S af h j bm w){dm:Array TypeId}{ty st iB ep:TypeId}{i:TypeInfo}{dO:TypeDesc}{s:J}{X:Value}{res:eg}
 (ch:dm[0]? =some st)(T:dm[1]? =some iB)(dp:C.P.underlying st=some (.slice ep))(hT:C.P.underlying iB=some dO)(aN:C.P.info? ep=some i)(eX:0<i.size)
 (bW:OF C.P w dO X i)(aq:cn af s)(a:ER C h i.size s=some res):∃v,res= .val v/\cn af v/\(Builtin.append_ dm ty #[aS S s,X]).run C.P w= .ok (aS S v) w:=by
 unfold ER at a
 split at a
 ·simp at a;subst a
  exact⟨_,rfl,trivial,by simp only[aS];exact Pe ch T dp hT aN bW (Zl _)⟩
 ·simp only[e5,Zf]at a
  obtain⟨aD,rfl⟩:=a
  exact⟨_,rfl,aq,by simp only[aS];exact Pe ch T dp hT aN bW (jm aD)⟩
 ·simp only[e5]at a
  obtain⟨bA,a⟩:=a
  have bA:=Zj bA
  subst bA
  split at a
  ·rename_i n aM
   simp only[e5,Zf]at a
   obtain⟨aD,rfl⟩:=a
   exact⟨_,rfl,aq,by simp only[aS];exact Pe ch T dp hT aN bW (an9 Z aq aM eX (jm aD))⟩
  ·simp at a
 ·simp at a
def KV(C:a2)(S:da)(af:Nat->Prop)(h:V an)(j bm:Nat)(w:World)(s:Sem Value)(res:eg):Prop:=
 ∃v U ar,res= .fE v U ar/\∃dg dE bZ,s.run C.P w= .ok (aS dg v) bZ/\cn dE v/\dt C dg dE U ar bm bZ/\iD C j S af h bm w dg dE U bZ/\j<=ar
def rF(Z:dt C S af h j bm w):¬af j:=λa=>zo (Z.lt j a)
def akS(eH:bm<=w.heap.size)(Y:Obj):Below bm w (w.drew.alloc Y):=(Below.drew (Below.refl bm w)).trans (Below.alloc (Below.refl bm w.drew) eH Y)
def PZ(Z:dt C S af h j bm w){pl:mB}(eH:bm<=w.heap.size)(Y:Obj)(iW:∀x,x≠j->¬af x->ab C U x=ab C h x):iD C j S af h bm w (gu S j pl) (add af j) U (w.drew.alloc Y):=
 ⟨qY (rF Z),λ_ a=> .inl a,λx a=>a.elim .inl (λa=> .inr Zo),λx ah aD=>iW x Zo ah,akS eH Y⟩
def aad{l:List J}{rest:Array Value}{cap br:Nat}(g:eA af l)(aM:¬af j)(aD:l.length+rest.size=cap*br)(ep:TypeId)(iI:List Nat):
 j9 C (gu S j ⟨w.heap.size,0,cap*br⟩) (add af j) (.cells (V.ofList l 0 .nil) l.length (.grow iI)) ⟨w.heap.size,0,cap*br⟩ (w.drew.alloc (.cells ((b2 S l).toArray++rest) ep)):=by
 have dS:=qY (S:=S) (pl:=⟨w.heap.size,0,cap*br⟩) aM
 refine⟨_,ep,0,0,u1 w.drew _,⟨.inl rfl,by simp only;omega, ?_⟩, ?_,λi v bD=> ?_⟩
 ·simp only[YP,Ys,jQ];omega
 ·simp only[YP,Ys,jQ];omega
 ·rw[kM]at bD
  have fy:=A4 g bD
  have c4:i<l.length:=(Zc.1 bD).1
  refine⟨?_,oV (λ_ a=> .inl a) v fy⟩
  rw[qi dS fy,ZP,YB (by simpa[jQ]using c4)]
  simp[AQ,bD]
def afN(zero:Array Value)(n:Nat):(Builtin.zeroCells zero n).size=n*zero.size:=by simp[Builtin.zeroCells]
section
variable{dm:Array TypeId}{ty st iB ep:TypeId}{i:TypeInfo}{dO:TypeDesc}{X bu:Value}{n:Nat}{l:List J}
def aab(Z:dt C S af h j bm w)(eH:bm<=w.heap.size){s:J}{base:Option Addr}{gY lg:Nat}{bU:List J}(tU:bu.cells.size=i.size)
 (ch:dm[0]? =some st)(T:dm[1]? =some iB)(dp:C.P.underlying st=some (.slice ep))(hT:C.P.underlying iB=some dO)(aN:C.P.info? ep=some i)(cw:i.zero=some bu)(eX:0<i.size)(nB:i.bytes<=65536)
 (bW:x1 C.P w dO X i bu n (b2 S l).toArray)(iI:eA af l)(aD:l.length=n*i.size)(Qn:eA af bU)(lu:bU.length=gY*i.size)(aM:¬(gY+n<=lg))(aI:aS S s= .slice base gY lg)
 (bl:(Builtin.firstCells i.size gY (.slice base gY lg)).run C.P w.drew= .ok (b2 S bU).toArray w.drew)(xn:gY+n<=1048576){a6:V an}(qq:List Nat)
 (ea:ab C a6 j=some (.cells (V.ofList (bU++l) 0 .nil) (bU++l).length (.grow qq)))(d2:dt C S af U j bm w)(fl:∀x,x≠j->ab C a6 x=ab C U x\/ab C a6 x=none)
 (eB:∀x,x≠j->¬af x->ab C a6 x=ab C h x)(abl:∀x∈qq,af x/\C.ba<=x):
 ∃dg dE bZ,(Builtin.append_ dm ty #[aS S s,X]).run C.P w= .ok (aS dg (.fm j 0 (gY+n) i.size)) bZ/\cn dE (.fm j 0 (gY+n) i.size)/\dt C dg dE a6 (j+1) bm bZ/\iD C j S af h bm w dg dE a6 bZ:=by
 obtain⟨cap,aB,oe⟩:=WN (ty:=ty) ch T dp hT aN cw bW aM nB xn bl
 have fL:(bU++l).length=(gY+n)*i.size:=by rw[ZO,lu,aD,Ya]
 have M3:(bU++l).length+(Builtin.zeroCells bu.cells (cap-(gY+n))).size=cap*i.size:=by
  rw[afN,tU,fL, <-Ya]
  congr 1;omega
 have I:(b2 S bU).toArray++(b2 S l).toArray=(b2 S (bU++l)).toArray:=by rw[CE];simp
 rw[I]at oe
 have IT:=aad (C:=C) (S:=S) (w:=w) (A3 Qn iI) (rF Z) M3 ep qq
 refine⟨gu S j ⟨w.heap.size,0,cap*i.size⟩,add af j,w.drew.alloc (.cells ((b2 S (bU++l)).toArray++Builtin.zeroCells bu.cells (cap-(gY+n))) ep), ?_, .inr rfl, ?_, ?_⟩
 ·rw[aI,oe]
  simp only[aS,ll,ZP,za]
  rw[Nat.mul_div_cancel _ eX]
 ·exact d2.drew.alloc Z.ba (Yq _) (Yb _) (rF Z) eH rfl ea fl IT ⟨λc aV ci a=>(by cases a;exact λx ah=>⟨.inl (abl x ah).1,(abl x ah).2⟩),λc aV st a=>(by cases a;exact GV)⟩
 ·exact PZ Z eH _ eB
def aaa{n br:Nat}{res:eg}(a:tz C h j n br l=some res):n<=1048576/\res= .fE (.fm j 0 n br) (bo C h j (some (.cells (V.ofList l 0 .nil) l.length (.grow [])))) (j+1):=by
 unfold tz nd at a
 simp only[mg,hw,e5,Zf]at a
 exact⟨jm a.1,a.2.symm⟩
def am0{b Y len cap br:Nat}{fY:List J}(Z:dt C S af h j bm w)(ai:af b)(a:m3 C h b Y (len*br)=some fY):
 (Builtin.firstCells br len (.slice (some ⟨(S b).cI,(S b).ek+Y,none⟩) len cap)).run C.P w.drew= .ok (b2 S fY).toArray w.drew/\eA af fY:=by
 obtain⟨T,W⟩:=E6 Z.drew ai a
 exact⟨by simp[Builtin.firstCells,T],W⟩
def ax4{cq:Array Value}{ek Y p:Nat}{c:V J}{fY l:List J}{F:Nat}(aA:p=ek+Y+fY.length)(b9:p+l.length<=cq.size)(kb:eA af fY)(iI:eA af l)
 (ch:∀aa v,fY[aa]? =some v->cq[ek+Y+aa]? =some (aS S v)):
 ∀aa v,(fY++l)[aa]? =some v->(kR cq p (b2 S l))[ek+Y+aa]? =some (aS S v)/\cn af v:=by
 intro aa v bD
 rw[Tz _ _ _ _ (by rw[jQ];exact b9),jQ]
 by_cases bL:aa<fY.length
 ·rw[Z4 bL]at bD
  rw[Zh Zo]
  exact⟨ch aa v bD,A4 kb bD⟩
 ·rw[ZW Zo]at bD
  have c4:aa-fY.length<l.length:=(Zc.1 bD).1
  rw[Zr Zo,AQ,show ek+Y+aa-p=aa-fY.length by omega,bD]
  exact⟨rfl,A4 iI bD⟩
section
variable{dm:Array TypeId}{ty st iB ep:TypeId}{i:TypeInfo}{dO:TypeDesc}{X bu:Value}{n:Nat}{l:List J}
def aku(Z:dt C S af h j bm w)(eH:bm<=w.heap.size)(tU:bu.cells.size=i.size){b Y len:Nat}{res:eg}
 (ch:dm[0]? =some st)(T:dm[1]? =some iB)(dp:C.P.underlying st=some (.slice ep))(hT:C.P.underlying iB=some dO)(aN:C.P.info? ep=some i)(cw:i.zero=some bu)(eX:0<i.size)(nB:i.bytes<=65536)
 (bW:x1 C.P w dO X i bu n (b2 S l).toArray)(iI:eA af l)(aD:l.length=n*i.size)(aO:af b)(gP:0<n)(a:HN C h j b Y len i.size n l=some res):
 KV C S af h j bm w (Builtin.append_ dm ty #[aS S (.fm b Y len i.size),X]) res:=by
 unfold HN at a
 split at a
 ·rename_i c size fz bl
  simp only[e5]at a
  obtain⟨IY,a⟩:=a
  have ai:C.ba<=b:=jm IY
  obtain⟨cq,dU,bU,u6,bf,ck,a3,a4⟩:=Z.obj b _ bl aO
  obtain⟨FN,aru,ap1⟩:=ck
  have Bb:=Z.base b _ ai bl aO
  have FY:=(Z.fz b _ bl aO).1 _ _ _ rfl
  have sn:=(Z.fz b _ bl aO).2 _ _ _ rfl
  have FV:b≠j:=λI=>zo (Z.lt b aO)
  have oc:=rF Z
  rw[fG]at a
  split at a
  ·
   rename_i abc
   have abc:Y+(len+n)*i.size<=size:=jm abc
   split at a
   ·rename_i U bI
    simp at a;subst a
    obtain⟨bZ,bY,cx,c7⟩:=Pa Z (dk:=j) aO iI bI
    have mI:len+n<=((S b).room-Y)/i.size:=by
     rw[Y2 eX];omega
    refine⟨_,_,_,rfl,S,af,bZ, ?_,aO,cx,c7,Zl _⟩
    simp only[aS]
    refine Ld ch T dp hT aN cw bW mI ?_
    rw[rb,ZN]
    exact bY
   ·simp at a
  ·simp only[e5,Zp]at a
   obtain⟨⟨xn,qA⟩,a⟩:=a
   have xn:=jm xn
   have xo:∀v∈b2 S l,v.oneCell'=true:=adP qA
   have fL:(len+n)*i.size=len*i.size+n*i.size:=Ya ..
   rw[fG]at a
   split at a
   ·
    rename_i Dc
    simp only[Zp]at Dc
    have bH:Y+len*i.size=size:=Zj Dc.1
    have cP:Y=0:=Zj Dc.2
    subst cP
    have bH:len*i.size=size:=Zo
    simp only[hw,nd,mg,Zf]at a
    subst a
    have sA:=Z.aww ai aO bl
    by_cases mI:len+n<=((S b).room-0)/i.size
    ·
     have arv:(len+n)*i.size<=(S b).room:=by
      have:=(Y2 eX).1 mI;omega
     have arM:=Tt C.P (S b).cI ((S b).ek+size) dU bU u6 (b2 S l) 0 cq w bf (FN.imp (λI=>Y7 I.symm) id) (by rw[jQ];omega)
     ·have R5:=arM xo
      have sD:∀F,F≠(S b).cI->(w.setRow (S b).cI (kR cq ((S b).ek+size+0) (b2 S l))).heap[F]? =w.heap[F]? :=λF aL=>setRow_other w _ F _ aL
      have ft:=setRow_heap w (S b).cI cq (kR cq ((S b).ek+size+0) (b2 S l)) dU (bU,u6) bf
      have dS:=qY (S:=S) (pl:=S b) oc
      have Df:j9 C (gu S j (S b)) (add af j) (.cells (d3 c size l) (size+l.length) (.grow (b::fz))) (S b) (w.setRow (S b).cI (kR cq ((S b).ek+size+0) (b2 S l))):=by
       refine⟨_,dU,bU,u6,ft,⟨by rw[xN];exact FN,Zo,by rw[xN];exact ap1⟩,by rw[xN];omega,λaa v bD=> ?_⟩
       obtain⟨b5,cd⟩:=afA (S:=S) (af:=af) (c:=c) (cq:=cq) (ek:=(S b).ek) (Y:=size) (n:=size+l.length) iI Zo Zo a4 aa v bD
       exact⟨by rw[qi dS cd];exact b5,oV (λ_ a=> .inl a) v cd⟩
      have RX:=sA.share (j:=j) (bZ:=w.setRow (S b).cI (kR cq ((S b).ek+size+0) (b2 S l))) (pl:=S b) (cO:= .cells (d3 c size l) (size+l.length) (.grow (b::fz))) Bb rfl sD Df
       ⟨λf9 aV ci a=>(by
        cases a
        intro x ah
        rcases Zq.1 ah with rfl|ah
        ·exact⟨.inl aO,ai⟩
        ·exact⟨.inl (FY x ah).1,(FY x ah).2⟩),
        λf9 aV i1 a=>(by cases a;exact Oz (Zl _) λaa v bD=>ZL (sn aa v bD) (zb _ _))⟩
       (λx dv ah dO tT=>by
        have acP:∀f9 aV,dv= .cells f9 aV .j6->aV<=size->(S x).ek=(S b).ek->j9 C S af dv (S x) (w.setRow (S b).cI (kR cq ((S b).ek+size+0) (b2 S l))):=by
         intro f9 aV I MO lX
         subst I
         have c4:=(sA.fz x _ ah dO).2 _ _ _ rfl
         obtain⟨ES,ayj,rA,k4,cT,dL,et,ig⟩:=sA.obj x _ ah dO
         rw[tT,bf]at cT
         cases cT
         refine⟨_,dU,bU,u6,by rw[tT];exact ft,by rw[xN];exact dL,by rw[xN];exact et,λaa v bD=> ?_⟩
         obtain⟨b5,cd⟩:=ig aa v bD
         have:=c4 aa v bD
         refine⟨?_,cd⟩
         rw[Tz _ _ _ _ (by rw[jQ];omega),Zh Zo]
         exact b5
        by_cases I:x=b
        ·subst I
         rw[fZ _ ai,Zr rfl]at ah;cases ah
         exact⟨acP c size rfl (Zl _) rfl, .inr (.inl ⟨_,_,_,_,_,rfl,rfl,Zs,Zo⟩), .inr (.inr ⟨_,_,_,_,_,rfl,rfl,Zs,Zo⟩),rfl⟩
        ·rw[fZ _ ai,Zh I]at ah
         obtain⟨k8,p1⟩:=Z.sep b x _ dv bl ah aO dO (λao=>I ao.symm) ai tT.symm
         rcases k8 with ⟨_,_,_,_,ao,_⟩|⟨_,_,ci,f9,aV,ao,rfl,bs,gE⟩|⟨_,_,_,_,_,_,ao,_⟩
         ·cases ao
         ·cases ao
          refine⟨acP f9 aV rfl gE p1.symm, .inr (.inl ⟨_,_,_,_,_,rfl,rfl,Zu _ bs,Zo⟩), .inr (.inr ⟨_,_,_,_,_,rfl,rfl,Zu _ bs,Zo⟩),p1⟩
         ·cases ao)
      refine⟨_,_,_,rfl,gu S j (S b),add af j,_, ?_, .inr rfl,RX,⟨dS,λ_ a=> .inl a,λx a=>a.elim .inl (λa=> .inr Zo),λx ah c4=> ?_,Pj Bb _ _⟩,Yb _⟩
      ·simp only[aS,ll]
       rw[ZT]
       refine Ld ch T dp hT aN cw bW mI ?_
       rw[rb,bH]
       exact R5
      ·have tT:x≠b:=λI=>ah (by rw[I];exact aO)
       rw[fZ _ Z.ba,Zh Zo,fZ _ ai,Zh tT]
    ·
     have RL:(Builtin.firstCells i.size len (.slice (some ⟨(S b).cI,(S b).ek+0,none⟩) len (((S b).room-0)/i.size))).run C.P w.drew= .ok ((cq.toList.drop (S b).ek).take size).toArray w.drew:=by
      have o4:=run_loadCells_list (P:=C.P) w.drew ⟨(S b).cI,(S b).ek+0,none⟩ ((cq.toList.drop (S b).ek).take size) (λaa v bD=>by
       rw[rb]
       have bL:aa<size:=by
        have:=(Zc.1 bD).1
        simp at this;omega
       rw[YS bL,YG]at bD
       have ajV:w.drew.heap[(S b).cI]? =some (.cells cq dU (bU,u6)):=bf
       simp only[World.cell?,ajV]
       simpa[ZM]using bD)
      have vc:((cq.toList.drop (S b).ek).take size).length=size:=by simp;omega
      rw[vc]at o4
      simp only[Builtin.firstCells,bH]
      exact o4
     obtain⟨cap,aB,oe⟩:=WN (ty:=ty) ch T dp hT aN cw bW mI nB xn RL
     have vc:((cq.toList.drop (S b).ek).take size).length=size:=by simp;omega
     have M3:size+l.length+(Builtin.zeroCells bu.cells (cap-(len+n))).size=cap*i.size:=by
      rw[afN,tU,aD, <-bH, <-Ya, <-Ya]
      congr 1;omega
     have dS:=qY (S:=S) (pl:=⟨w.heap.size,0,cap*i.size⟩) oc
     have Df:j9 C (gu S j ⟨w.heap.size,0,cap*i.size⟩) (add af j) (.cells (d3 c size l) (size+l.length) (.grow (b::fz))) ⟨w.heap.size,0,cap*i.size⟩
      (w.drew.alloc (.cells (((cq.toList.drop (S b).ek).take size).toArray++(b2 S l).toArray++Builtin.zeroCells bu.cells (cap-(len+n))) ep)):=by
      refine⟨_,ep,0,0,u1 w.drew _,⟨.inl rfl,by simp only;omega, ?_⟩, ?_,λaa v bD=> ?_⟩
      ·simp only[YP,Ys,jQ,vc];omega
      ·simp only[YP,Ys,jQ,vc];omega
      ·rw[T9,V.LV]at bD
       simp only[ZP]
       split at bD
       ·rename_i bL
        have fy:=A4 iI bD
        refine⟨?_,oV (λ_ a=> .inl a) v fy⟩
        rw[qi dS fy,YB (by simp only[YP,Ys,jQ,vc];omega),Array.getElem?_append_right (by simp only[Ys,vc];omega)]
        simp only[Ys,vc,List.getElem?_toArray,AQ,bD,ZV]
       ·have bL:=sn aa v bD
        obtain⟨b5,cd⟩:=a4 aa v bD
        refine⟨?_,oV (λ_ a=> .inl a) v cd⟩
        rw[qi dS cd,YB (by simp only[YP,Ys,jQ,vc];omega),YB (by simp only[Ys,vc];omega)]
        rw[List.getElem?_toArray,YS bL,YG,ZM]
        exact b5
     have ea:ab C (bo C (bo C h b (some (.cells c size .j6))) j (some (.cells (d3 c size l) (size+l.length) (.grow (b::fz))))) j=some (.cells (d3 c size l) (size+l.length) (.grow (b::fz))):=by
      rw[fZ _ Z.ba,Zr rfl]
     refine⟨_,_,_,rfl,gu S j ⟨w.heap.size,0,cap*i.size⟩,add af j,_, ?_, .inr rfl,sA.drew.alloc Z.ba (Yq _) (Yb _) oc eH rfl ea (λx ah=> .inl ?_) Df ?_,PZ Z eH _ (λx ah Sc=> ?_),Yb _⟩
     ·simp only[aS,ll,ZP,za]
      simp only[ZT,za]at oe ⊢
      rw[oe,Nat.mul_div_cancel _ eX]
     ·rw[fZ _ Z.ba,Zh ah]
     ·exact⟨λf9 aV ci a=>(by
           cases a
           intro x ah
           rcases Zq.1 ah with rfl|ah
           ·exact⟨.inl aO,ai⟩
           ·exact⟨.inl (FY x ah).1,(FY x ah).2⟩),
       λf9 aV i1 a=>(by cases a;exact Oz (Zl _) λaa v bD=>ZL (sn aa v bD) (zb _ _))⟩
     ·have tT:x≠b:=λI=>Sc (by rw[I];exact aO)
      rw[fZ _ Z.ba,Zh ah,fZ _ ai,Zh tT]
   ·
    split at a
    ·rename_i fY o4
     simp only[nd,mg,hw,Zf]at a
     subst a
     have abA:fY.length=len*i.size:=ac7 o4
     have gW:cellsOf C h b=some c:=by simp[cellsOf,bl]
     have Rt:∀x,x≠b->ab C (bo C (p4 C fz h) b none) x=if x∈fz then none else ab C h x:=λx ah=>by
      rw[fZ _ ai,Zh ah,abi _ _ _ λe H=>(FY e H).2]
     have abu:ab C (bo C (p4 C fz h) b none) b=none:=by rw[fZ _ ai,Zr rfl]
     have aba:dt C S af (bo C (p4 C fz h) b none) j bm w:=Z.XY λx=>by
      by_cases I:x=b
      ·subst I;exact .inr abu
      ·rw[Rt x I];split
       ·exact .inr rfl
       ·exact .inl rfl
     have MF:∀x,¬af x->ab C (bo C (p4 C fz h) b none) x=ab C h x:=λx ah=>by
      have tT:x≠b:=λI=>ah (by rw[I];exact aO)
      rw[Rt x tT,Zh λbs=>ah (FY x bs).1]
     have o6:ab C (bo C (bo C (p4 C fz h) b none) j (some (.cells (V.ofList (fY++l) 0 .nil) (fY++l).length (.grow [])))) j=some (.cells (V.ofList (fY++l) 0 .nil) (fY++l).length (.grow [])):=by
      rw[fZ _ Z.ba,Zr rfl]
     have jE:∀x,x≠j->ab C (bo C (bo C (p4 C fz h) b none) j (some (.cells (V.ofList (fY++l) 0 .nil) (fY++l).length (.grow [])))) x=ab C (bo C (p4 C fz h) b none) x:=λx ah=>by
      rw[fZ _ Z.ba,Zh ah]
     obtain⟨Mx,My⟩:=Ll Z aO gW o4
     by_cases mI:len+n<=((S b).room-Y)/i.size
     ·
      have F2:0<(len+n)*i.size:=Nat.mul_pos Zo eX
      have arv:Y+(len+n)*i.size<=(S b).room:=by
       have au:=(Y2 eX).1 mI
       omega
      have R5:=Tt C.P (S b).cI ((S b).ek+(Y+len*i.size)) dU bU u6 (b2 S l) 0 cq w bf (FN.imp (λI=>Y7 I.symm) id) (by rw[jQ];omega) xo
      have sD:∀F,F≠(S b).cI->(w.setRow (S b).cI (kR cq ((S b).ek+(Y+len*i.size)+0) (b2 S l))).heap[F]? =w.heap[F]? :=λF aL=>setRow_other w _ F _ aL
      have ft:=setRow_heap w (S b).cI cq (kR cq ((S b).ek+(Y+len*i.size)+0) (b2 S l)) dU (bU,u6) bf
      have dS:=qY (S:=S) (pl:=⟨(S b).cI,(S b).ek+Y,(S b).room-Y⟩) oc
      have aAb:(fY++l).length=(len+n)*i.size:=by rw[ZO,abA,aD,Ya]
      have Df:j9 C (gu S j ⟨(S b).cI,(S b).ek+Y,(S b).room-Y⟩) (add af j) (.cells (V.ofList (fY++l) 0 .nil) (fY++l).length (.grow [])) ⟨(S b).cI,(S b).ek+Y,(S b).room-Y⟩ (w.setRow (S b).cI (kR cq ((S b).ek+(Y+len*i.size)+0) (b2 S l))):=by
       refine⟨_,dU,bU,u6,ft,⟨by rw[xN];exact FN,by simp only;omega,by rw[xN];simp only;omega⟩,by rw[xN];simp only;omega,λaa v bD=> ?_⟩
       rw[kM]at bD
       obtain⟨b5,cd⟩:=ax4 (S:=S) (af:=af) (cq:=cq) (ek:=(S b).ek) (Y:=Y) (p:=(S b).ek+(Y+len*i.size)+0) (c:=c) (F:=0) Zo Zo My iI (λaa v bD=>by
        have u7:aa<len*i.size:=zo (Zc.1 bD).1
        have:=(V.Qm _ _ _ _ o4).2 aa u7
        rw[bD]at this
        have:=(a4 _ _ this).1
        rw[<-ZN]at this
        exact this) aa v bD
       exact⟨by rw[qi dS cd];exact b5,oV (λ_ a=> .inl a) v cd⟩
      have RX:=aba.share (bZ:=w.setRow (S b).cI (kR cq ((S b).ek+(Y+len*i.size)+0) (b2 S l))) (pl:=⟨(S b).cI,(S b).ek+Y,(S b).room-Y⟩) (cO:= .cells (V.ofList (fY++l) 0 .nil) (fY++l).length (.grow [])) Bb rfl sD Df
       ⟨λf9 aV ci a=>(by cases a;simp),λf9 aV i1 a=>(by cases a;exact GV)⟩
       (λx dv ah dO tT=>by
        exfalso
        by_cases I:x=b
        ·subst I;rw[abu]at ah;cases ah
        ·rw[Rt x I]at ah
         split at ah
         ·cases ah
         ·rename_i RF
          rcases(Z.sep b x _ dv bl ah aO dO (λao=>I ao.symm) ai tT.symm).1 with ⟨_,_,_,_,ao,_⟩|⟨_,_,ci,f9,aV,ao,_,bs,_⟩|⟨_,_,_,_,_,_,ao,_⟩
          ·cases ao
          ·cases ao;exact RF bs
          ·cases ao)
      refine⟨_,_,_,rfl,gu S j ⟨(S b).cI,(S b).ek+Y,(S b).room-Y⟩,add af j,_, ?_, .inr rfl,RX,⟨dS,λ_ a=> .inl a,λx a=>a.elim .inl (λa=> .inr Zo),λx ah c4=> ?_,Pj Bb _ _⟩,Yb _⟩
      ·simp only[aS,ll,ZT,za]
       refine Ld ch T dp hT aN cw bW mI ?_
       rw[rb,ZN]
       exact R5
      ·rw[fZ _ Z.ba,Zh Zo,MF x ah]
     ·have ap0:(Builtin.firstCells i.size len (.slice (some ⟨(S b).cI,(S b).ek+Y,none⟩) len (((S b).room-Y)/i.size))).run C.P w.drew= .ok (b2 S fY).toArray w.drew:=by
       obtain⟨Rj,_⟩:=Ll Z.drew aO gW o4
       simp[Builtin.firstCells,Rj]
      obtain⟨dg,dE,bZ,eW,fv,hK,ow⟩:=aab (ty:=ty) Z eH (s:= .fm b Y len i.size) (bU:=fY) tU ch T dp hT aN cw eX nB bW iI aD My abA mI rfl ap0 xn []
       o6 aba (λx ah=> .inl (jE x ah)) (λx ah Sc=>by rw[jE x ah,MF x Sc]) Zs
      exact⟨_,_,_,rfl,dg,dE,bZ,eW,fv,hK,ow,Yb _⟩
    ·simp at a
 ·simp at a
end
end
end
end Go.bk

namespace Go.bk
open Go.RowKit (Below)
section
variable{C:a2}{S dg:da}{af dE:Nat->Prop}{h U:V an}{j ar bm:Nat}{w bZ:World}
section
variable{dm:Array TypeId}{ty st iB ep:TypeId}{i:TypeInfo}{dO:TypeDesc}{X bu:Value}{n:Nat}{l:List J}
def aac(Z:dt C S af h j bm w)(eH:bm<=w.heap.size){s:J}{base:Option Addr}{gY lg:Nat}{bU:List J}{res:eg}(tU:bu.cells.size=i.size)
 (ch:dm[0]? =some st)(T:dm[1]? =some iB)(dp:C.P.underlying st=some (.slice ep))(hT:C.P.underlying iB=some dO)(aN:C.P.info? ep=some i)(cw:i.zero=some bu)(eX:0<i.size)(nB:i.bytes<=65536)
 (bW:x1 C.P w dO X i bu n (b2 S l).toArray)(iI:eA af l)(aD:l.length=n*i.size)(Qn:eA af bU)(lu:bU.length=gY*i.size)(aM:¬(gY+n<=lg))(aI:aS S s= .slice base gY lg)
 (bl:(Builtin.firstCells i.size gY (.slice base gY lg)).run C.P w.drew= .ok (b2 S bU).toArray w.drew)(a:tz C h j (gY+n) i.size (bU++l)=some res):
 KV C S af h j bm w (Builtin.append_ dm ty #[aS S s,X]) res:=by
 obtain⟨xn,rfl⟩:=aaa a
 obtain⟨dg,dE,bZ,eW,fv,hK,ow⟩:=aab (ty:=ty) Z eH (U:=h) tU ch T dp hT aN cw eX nB bW iI aD Qn lu aM aI bl xn (a6:=bo C h j (some (.cells (V.ofList (bU++l) 0 .nil) (bU++l).length (.grow [])))) []
  (by rw[fZ _ Z.ba,Zr rfl]) Z (λx ah=> .inl (by rw[fZ _ Z.ba,Zh ah])) (λx ah _=>by rw[fZ _ Z.ba,Zh ah]) Zs
 exact⟨_,_,_,rfl,dg,dE,bZ,eW,fv,hK,ow,Yb _⟩
def WL(Z:dt C S af h j bm w)(eH:bm<=w.heap.size)(tU:bu.cells.size=i.size){s:J}{res:eg}
 (ch:dm[0]? =some st)(T:dm[1]? =some iB)(dp:C.P.underlying st=some (.slice ep))(hT:C.P.underlying iB=some dO)(aN:C.P.info? ep=some i)(cw:i.zero=some bu)(eX:0<i.size)(nB:i.bytes<=65536)
 (bW:x1 C.P w dO X i bu n (b2 S l).toArray)(iI:eA af l)(aD:l.length=n*i.size)(aq:cn af s)(gP:0<n)(a:yd C h j i.size n l s=some res):
 KV C S af h j bm w (Builtin.append_ dm ty #[aS S s,X]) res:=by
 unfold yd at a
 split at a
 ·refine aac (gY:=0) (lg:=0) (bU:=[]) (base:=none) Z eH tU ch T dp hT aN cw eX nB bW iI aD trivial Zs Zo rfl ?_ (by simpa using a)
  simp[Builtin.firstCells,b2]
 ·rename_i b Y len cap
  rw[fG]at a
  split at a
  ·rename_i mI
   have mI:=jm mI
   split at a
   ·rename_i U bI
    simp at a;subst a
    obtain⟨bZ,bY,cx,c7⟩:=Pa Z (dk:=j) aq iI bI
    refine⟨_,_,_,rfl,S,af,bZ, ?_,aq,cx,c7,Zl _⟩
    simp only[aS]
    refine Ld ch T dp hT aN cw bW mI ?_
    rw[rb,ZN]
    exact bY
   ·simp at a
  ·rename_i mI
   have mI:¬(len+n<=cap):=λao=>mI (by simpa using ao)
   split at a
   ·rename_i fY o4
    obtain⟨bY,cx⟩:=am0 (br:=i.size) (cap:=cap) Z aq o4
    exact aac Z eH tU ch T dp hT aN cw eX nB bW iI aD cx (Pw o4) mI rfl bY a
   ·simp at a
 ·rename_i b Y len xR
  simp only[e5]at a
  obtain⟨bA,a⟩:=a
  have bA:=Zj bA
  subst bA
  exact aku Z eH tU ch T dp hT aN cw eX nB bW iI aD aq gP a
 ·simp at a
end
def OE(C:a2)(S:da)(af:Nat->Prop)(h:V an)(j bm:Nat)(w:World)(s:Sem Value)(res:eg):Prop:=
 KV C S af h j bm w s res\/∃v,res= .val v/\cn af v/\s.run C.P w= .ok (aS S v) w
def Wz(Z:dt C S af h j bm w)(eH:bm<=w.heap.size){dm:Array TypeId}{ty st iB:TypeId}{dO:TypeDesc}{s x:J}{res:eg}
 (ch:dm[0]? =some st)(T:dm[1]? =some iB)(hT:C.P.underlying iB=some dO)(xg:dO= .string\/∃I,dO= .slice I)(aq:cn af s)(fI:cn af x)(a:EM C h j st s x=some res):
 OE C S af h j bm w (Builtin.append_ dm ty #[aS S s,aS S x]) res:=by
 unfold EM at a
 split at a
 ·rename_i ep dp
  split at a
  ·rename_i i aN
   split at a
   ·rename_i n l ki
    simp only[e5,Zp]at a
    obtain⟨⟨⟨eX,nB⟩,Nb⟩,a⟩:=a
    have eX:=lo eX
    have nB:=jm nB
    obtain⟨bu,cw,tU⟩:∃bu,i.zero=some bu/\bu.cells.size=i.size:=by
     unfold afO at Nb
     split at Nb
     ·rename_i bu cw
      exact⟨bu,cw,Zj Nb⟩
     ·simp at Nb
    obtain⟨bW,iI,aD⟩:=axu (bu:=bu) Z fI xg ki
    rw[hO]at a
    split at a
    ·rename_i aM
     subst aM
     have:l=[]:=List.length_eq_zero_iff.1 (by rw[aD];simp)
     subst this
     obtain⟨v,eW,fv,hK⟩:=WM (ty:=ty) Z ch T dp hT aN eX (akv bW) aq a
     exact .inr ⟨v,eW,fv,hK⟩
    ·exact .inl (WL Z eH tU ch T dp hT aN cw eX nB bW iI aD aq Zo a)
   ·simp at a
  ·simp at a
 ·simp at a
def aj3(Z:dt C S af h j bm w)(eH:bm<=w.heap.size){dm:Array TypeId}{ty st iB:TypeId}{ao:IntKind}{s x:J}{n:Nat}{res:eg}
 (ch:dm[0]? =some st)(T:dm[1]? =some iB)(hT:C.P.underlying iB=some (.int ao))(aq:cn af s)(ah:nc x=some n)(a:K8 C h j st s n=some res):
 OE C S af h j bm w (Builtin.append_ dm ty #[aS S s,aS S x]) res:=by
 obtain⟨F,rfl⟩:=DR ah
 unfold K8 at a
 split at a
 ·rename_i ep dp
  split at a
  ·rename_i i bu aN lx
   simp only[e5,Zp]at a
   obtain⟨⟨⟨⟨eX,nB⟩,Gf⟩,FV⟩,a⟩:=a
   have eX:=lo eX
   have nB:=jm nB
   have FV:=jm FV
   have Gf:bu.cells.length=i.size:=Zj Gf
   have cw:i.zero=some (aS S bu)/\cn af bu:=by
    unfold s8 at lx
    rw[aN]at lx
    simp only at lx
    split at lx
    ·rename_i ae be
     obtain⟨I,g⟩:=NG (S:=S) (af:=af) lx
     exact⟨by rw[be,I],g⟩
    ·simp at lx
   rw[hO]at a
   split at a
   ·rename_i aM
    subst aM
    obtain⟨v,eW,fv,hK⟩:=WM (ty:=ty) Z ch T dp hT aN eX (.inr ⟨⟨ao,rfl⟩,F,rfl⟩) aq a
    exact .inr ⟨v,eW,fv,hK⟩
   ·rename_i aM
    have bW:x1 C.P w (.int ao) (aS S (.int F (Int.ofNat n))) i (aS S bu) n (b2 S (kP n bu.cells)).toArray:=
     .inr ⟨⟨ao,rfl⟩,⟨F,rfl⟩,FV,nB,zo (Nat.mul_pos (Nat.pos_of_ne_zero aM) eX),(ay3 S bu n).symm⟩
    exact .inl (WL Z eH (by rw[uz];simp[jQ,Gf]) ch T dp hT aN cw.1 eX nB bW (Qq (uA cw.2) n) (by rw[Ed,Gf]) aq Zo a)
  ·simp at a
 ·simp at a
end
end Go.bk

namespace Go.bk
open Go.RowKit (Below)
section
variable{C:a2}{S dg:da}{af dE:Nat->Prop}{h U:V an}{j ar bm:Nat}{w bZ:World}
def mZ(C:a2)(S:da)(af:Nat->Prop)(h:V an)(j bm:Nat)(w:World)(s:Sem Value)(v:J)(U:V an)(ar:Nat):Prop:=
 ∃dg dE bZ,s.run C.P w= .ok (aS dg v) bZ/\cn dE v/\dt C dg dE U ar bm bZ/\iD C j S af h bm w dg dE U bZ/\j<=ar
def mZ.done{s:Sem Value}{v:J}(a:mZ C S af h j bm w s v U ar):Ay C S af h j bm w (do pure (.value (<-s))) v U ar:=by
 obtain⟨dg,dE,bZ,T,W,au,aP,bK⟩:=a
 exact⟨dg,dE,bZ, .value (aS dg v),by simp[T], .inl rfl,W,au,aP,bK⟩
def mZ.same(Z:dt C S af h j bm w){s:Sem Value}{v:J}(a:s.run C.P w= .ok (aS S v) w)(g:cn af v):mZ C S af h j bm w s v h j:=
 ⟨S,af,w,a,g,Z, .refl,Zl _⟩
def Kc(Z:dt C S af h j bm w)(eH:bm<=w.heap.size){s:Sem Value}{v:J}{cO:an}{Y:Obj}(aI:s.run C.P w= .ok (aS (gu S j ⟨w.heap.size,0,0⟩) v) (w.alloc Y))(fy:cn (add af j) v)
 (bl:j9 C (gu S j ⟨w.heap.size,0,0⟩) (add af j) cO ⟨w.heap.size,0,0⟩ (w.alloc Y))(tP:wE C (add af j) cO):mZ C S af h j bm w s v (bo C h j (some cO)) (j+1):=by
 have ai:=Z.ba
 refine⟨_,_,_,aI,fy,Z.alloc ai (Yq _) (Yb _) (rF Z) eH rfl (by rw[fZ _ ai,Zr rfl]) (λx ah=> .inl (by rw[fZ _ ai,Zh ah])) bl tP, ?_,Yb _⟩
 exact⟨qY (rF Z),λ_ a=> .inl a,λx a=>a.elim .inl (λa=> .inr Zo),λx ah aD=>by rw[fZ _ ai,Zh Zo],Below.alloc (Below.refl bm w) eH Y⟩
def Kb{Y:an}{F:Nat->J}{res:eg}(a:nd C h j Y F=some res):res= .fE (F j) (bo C h j (some Y)) (j+1):=by
 unfold nd at a
 simp only[mg,hw,Zf]at a
 exact a.symm
def aBc(Z:dt C S af h j bm w){t:Nat}{m F:Operand}{ay:Operand->Value}{eG:Operand->Option J}{res:eg}(cA:jj S af ay eG [m,F])(a:II C t m F h j eG=some res):
 ∃v U,res= .fE v U j/\mZ C S af h j bm w (Instr.mapEntry t (ay m) (ay F)) v U j:=by
 simp[II]at a
def azq(Z:dt C S af h j bm w){t:Nat}{m s x:Operand}{ay:Operand->Value}{eG:Operand->Option J}{res:eg}(cA:jj S af ay eG [m,s,x])(a:IA C m s x h j eG=some res):
 ∃U bZ,res= .fE undef U j/\(Instr.entryStore t (ay m) (ay s) (ay x)).run C.P w= .ok () bZ/\dt C S af U j bm bZ/\iD C j S af h bm w S af U bZ:=by
 simp[IA]at a
def at9(Z:dt C S af h j bm w)(eH:bm<=w.heap.size){t:Nat}{l c:Operand}{ay:Operand->Value}{eG:Operand->Option J}{res:eg}(cA:jj S af ay eG [l,c])(a:IH C t l c h j eG=some res):
 ∃v U ar,res= .fE v U ar/\mZ C S af h j bm w (Instr.makeSlice t (ay l) (ay c)) v U ar:=by
 unfold IH at a
 split at a
 ·rename_i ep aA9 tk be aD aB
  obtain⟨tq,_⟩:=cA l Zs _ aD
  obtain⟨ama,_⟩:=cA c Zs _ aB
  rw[tq,ama]
  split at a
  ·rename_i SN lp i bu ew xe aN cw
   obtain⟨cL,rfl⟩:=DR ew
   obtain⟨cC,rfl⟩:=DR xe
   simp only[e5,Zp]at a
   obtain⟨⟨⟨⟨⟨T,W⟩,au⟩,aP⟩,bK⟩,a⟩:=a
   have T:=jm T
   have W:=jm W
   have au:=jm au
   have aP:=lo aP
   have bK:bu.cells.length=i.size:=Zj bK
   have:=Kb a;subst this
   obtain⟨f2,fF⟩:=Eg cw S af w
   refine⟨_,_,_,rfl,Kc Z eH (Y:= .cells (b2 S (kP lp bu.cells)).toArray ep) ?_ (.inr rfl) ?_ ⟨λ_ _ _ a=>(by cases a),λ_ _ _ a=>(by cases a;rw[<-bK, <-Ed];exact GV)⟩⟩
   ·have np:=wrap_small (n:=SN) Zo
    have py:=wrap_small W
    have oa:¬((281474976710656:Int)<(i.bytes:Int)*(lp:Int)):=by
     rw[Int.mul_comm];exact Pq W au
    have tK:¬((lp:Int)<0):=Zo
    have o4:¬((SN:Int)<0):=Zo
    have Rv:¬((lp:Int)<(SN:Int)):=Zo
    have F5:=aeu S bu.cells i.size lp bK (if lp*i.size=0 then #[]else(aS S bu).cells) (λdT=>by rw[Zh dT,uz])
    by_cases lx:lp*i.size=0
    ·rw[Zr lx]at F5
     rw[<-F5]
     simp[Instr.makeSlice,run_underlying be,aS,asInt,asIntOf,typeInfo,aN,np,py,oa,tK,o4,Rv,sizeOf,lx,newRow,ll]
    ·rw[Zh lx]at F5
     rw[<-F5]
     simp[Instr.makeSlice,run_underlying be,aS,asInt,asIntOf,typeInfo,aN,np,py,oa,tK,o4,Rv,sizeOf,lx,newRow,ll,f2]
   ·have g:=Qq (uA fF) lp
    have:=Lk (C:=C) (S:=gu S j ⟨w.heap.size,0,0⟩) (af:=add af j) (rm (λ_ a=> .inl a) _ g) ep 0 w
    rw[yl (qY (rF Z)) g,Ed,bK]at this
    exact this
  ·simp at a
 ·simp at a
def at7(Z:dt C S af h j bm w)(eH:bm<=w.heap.size){t:Nat}{r:Operand}{ay:Operand->Value}{eG:Operand->Option J}{res:eg}(cA:jj S af ay eG [r])(a:IG C t r h j eG=some res):
 ∃v U ar,res= .fE v U ar/\mZ C S af h j bm w (Instr.makeMap t (some (ay r))) v U ar:=by
 unfold IG at a
 split at a
 ·rename_i jH AV ao n be ah
  obtain⟨I,_⟩:=cA r Zs _ ah
  have:=Kb a;subst this
  refine⟨_,_,_,rfl,Kc Z eH (Y:= .map #[] 0) ?_ (.inr rfl) ⟨#[],u1 _ _,rfl,Zs⟩ ⟨λ_ _ _ a=>(by cases a),λ_ _ _ a=>(by cases a)⟩⟩
  simp[Instr.makeMap,run_underlying be,I,aS,asInt,asIntOf,ll]
 ·simp at a
def av7(Z:dt C S af h j bm w)(eH:bm<=w.heap.size){t:Nat}{x:Operand}{ay:Operand->Value}{eG:Operand->Option J}{res:eg}(cA:jj S af ay eG [x])(a:IK C t x h j eG=some res):
 ∃v U ar,res= .fE v U ar/\mZ C S af h j bm w (Instr.range t (ay x)) v U ar:=by
 have dS:=qY (S:=S) (pl:=⟨w.heap.size,0,0⟩) (rF Z)
 unfold IK at a
 split at a
 ·rename_i s be ah
  obtain⟨I,g⟩:=cA x Zs _ ah
  have:=Kb a;subst this
  refine⟨_,_,_,rfl,Kc Z eH (Y:= .stringIter (f4 s) 0) ?_ (.inr rfl) ⟨rfl,u1 _ _,g⟩ ⟨λ_ _ _ a=>(by cases a),λ_ _ _ a=>(by cases a)⟩⟩
  simp[Instr.range,run_underlying be,I,aS,ll]
 ·rename_i jH AV be ah
  obtain⟨I,g⟩:=cA x Zs _ ah
  have:=Kb a;subst this
  refine⟨_,_,_,rfl,Kc Z eH (Y:= .mapIter none 0 #[] 0) ?_ (.inr rfl) ⟨rfl,u1 _ _,Zs⟩ ⟨λ_ _ _ a=>(by cases a),λ_ _ _ a=>(by cases a)⟩⟩
  simp[Instr.range,run_underlying be,I,aS,ll]
 ·rename_i jH AV r be ah
  obtain⟨I,g⟩:=cA x Zs _ ah
  split at a
  ·rename_i b7 fh bl
   have:=Kb a;subst this
   obtain⟨cq,bf,ck,a3,a4⟩:=J4 Z g bl
   refine⟨_,_,_,rfl,Kc Z eH (Y:= .mapIter (some (S r).cI) fh #[] fh) ?_ (.inr rfl) ⟨rfl, ?_,λb ai=>by cases ai;exact .inl g⟩ ⟨λ_ _ _ a=>(by cases a),λ_ _ _ a=>(by cases a)⟩⟩
   ·simp[Instr.range,run_underlying be,I,aS,ll,bf]
   ·rw[u1];simp only[ZV,dS r g]
  ·simp at a
 ·simp at a
end
end Go.bk

namespace Go.bk
open Go.RowKit (Below)
section
variable{C:a2}{S dg:da}{af dE:Nat->Prop}{h U:V an}{j ar bm:Nat}{w bZ:World}
def SV(n:Nat):∀l,om n l=l.contains n:=by
 intro l
 induction l with
 |nil=>rfl
 |cons K l am=>simp only[om,List.contains_cons,am];congr 1;rw[Yf,YZ];exact⟨Zj,λa=>by rw[a];exact Y8 _⟩
def OP(C:a2)(S:da)(af:Nat->Prop)(h:V an)(j bm:Nat)(w:World)(s:Sem Value)(res:eg):Prop:=match res with
 | .val v=>mZ C S af h j bm w s v h j
 | .fE v U ar=>mZ C S af h j bm w s v U ar
 | .fork l=>∃v U,(v,U)∈l/\mZ C S af h j bm w s v U j
 |_=>False
def auy(Z:dt C S af h j bm w){eT:Operand}{y3:Bool}{ty:TypeId}{ay:Operand->Value}{eG:Operand->Option J}{res:eg}(cA:jj S af ay eG [eT])(a:w7 C eT y3 h j eG=some res):
 OP C S af h j bm w (Instr.next (ay eT) y3 ty) res:=by
 unfold w7 at a
 split at a
 ·rename_i r ah
  obtain⟨I,mh⟩:=cA eT Zs _ ah
  simp only[e5]at a
  obtain⟨IY,a⟩:=a
  have ai:C.ba<=r:=jm IY
  rw[I]
  split at a
  ·rename_i s pos bl
   obtain⟨lX,T,W⟩:=Z.obj r _ bl mh
   have ab:(getObj (S r).cI).run C.P w= .ok (.stringIter (f4 s) pos) w:=by simp[getObj,Sem.run,T]
   have eX:(f4 s).size=s.length:=by simp[f4,ByteArray.size]
   rw[fG]at a
   split at a
   ·rename_i aA
    have aA:=lo aA
    rw[pn]at a
    split at a
    ·rename_i c aB
     simp only[e5]at a
     obtain⟨Q2,a⟩:=a
     have Q2:=lo Q2
     obtain⟨rfl,_⟩:=TA a
     obtain⟨bZ,bY,cx,c7⟩:=putObj Z (dk:=j) (oq:= .ox s (pos+1)) (o':= .stringIter (f4 s) (pos+1)) ai mh bl ⟨Zs,Zs⟩ T Zs (λbZ sD=>⟨lX,sD,W⟩) ⟨λ_ _ _ a=>(by cases a),λ_ _ _ a=>(by cases a)⟩
     refine⟨S,af,bZ, ?_,⟨trivial,trivial,trivial,trivial⟩,cx,c7,Zl _⟩
     have c4:pos<(f4 s).size:=by rw[eX];exact aA
     have aaU:((f4 s)[pos]'c4).toNat=c:=by
      show((f4 s).data[pos]).toNat=c
      have aI:s[pos]=c:=by
       rw[Ze aA]at aB
       exact Yv aB
      simp[f4,aI];omega
     have Mv:=decode_ascii (f4 s) pos c4 (by rw[aaU];exact Q2)
     rw[aaU]at Mv
     simp[Instr.next,aS,b2,lX,ab,eX,aA,Mv,bY,goInt]
    ·simp at a
   ·rename_i aA
    have aA:¬pos<s.length:=λao=>aA (by simp[Nat.blt];omega)
    simp at a;subst a
    refine mZ.same Z ?_ ⟨trivial,trivial⟩
    simp[Instr.next,aS,b2,lX,ab,eX,aA]
  ·rename_i vZ seen aeU bl
   obtain⟨lX,T,W⟩:=Z.obj r _ bl mh
   have ab:(getObj (S r).cI).run C.P w= .ok (.mapIter none vZ seen.toArray aeU) w:=by simp[getObj,Sem.run,T]
   simp at a;subst a
   refine mZ.same Z ?_ ⟨trivial,trivial⟩
   simp[Instr.next,aS,b2,lX,ab]
  ·simp at a
 ·simp at a
end
end Go.bk

namespace Go.bk
open Go.RowKit (Below)
section
variable{C:a2}{S dg:da}{af dE:Nat->Prop}{h U:V an}{j ar bm:Nat}{w bZ:World}
def anh(w:World)(cq:Array Value)(I:TypeId)(n:Nat):(w.alloc (.cells cq I)).freeze ⟨w.heap.size,n,none⟩ 1=w.alloc (.cells cq I (n,n+1)):=by
 unfold World.freeze
 rw[Zh Zd]
 show({w with heap:=(w.heap.push (.cells cq I)).modify w.heap.size _}:World)={w with heap:=w.heap.push (.cells cq I (n,n+1))}
 congr 1
 apply Array.ext_getElem?
 intro F
 rw[Y1,Array.getElem?_push,Array.getElem?_push]
 by_cases aL:w.heap.size=F
 ·subst aL;simp
 ·rw[Zh aL,Zh (λI=>aL I.symm),Zh (λI=>aL I.symm)]
def ang{p:Nat}{cq:Array Value}{ty:TypeId}{bU aN:Nat}(a:w.heap[p]? =some (.cells cq ty (bU,aN)))(n:Nat):
 (w.freeze ⟨p,n,none⟩ 1).heap[p]? =some (.cells cq ty (if bU==aN then(n,n+1)else(min bU n,max aN (n+1))))/\(∀F,F≠p->(w.freeze ⟨p,n,none⟩ 1).heap[F]? =w.heap[F]?):=by
 unfold World.freeze
 rw[Zh Zd]
 constructor
 ·simp only[Y1,ZD,a,ZV]
 ·intro F aL
  simp only[Y1]
  rw[Zh (λI=>aL I.symm)]
def axW(Z:dt C S af h j bm w)(eH:bm<=w.heap.size){s d:Nat}{x:Operand}{ay:Operand->Value}{eG:Operand->Option J}{res:eg}(cA:jj S af ay eG [x])(a:IM C s d x h j eG=some res):
 OP C S af h j bm w (convert s d (ay x)) res:=by
 unfold IM at a
 split at a
 ·rename_i I l aI aO ah
  obtain⟨ex,g⟩:=cA x Zs _ ah
  split at a
  ·rename_i bA
   obtain⟨gE,rfl⟩:=aaa a
   rw[ex]
   have eX:(f4 l).size=l.length:=by simp[f4,ByteArray.size]
   have aAL:(f4 l).data.size=l.length:=by simp[f4]
   have aB:=aeV S l g
   have anJ:eA af (l.map λn=>J.int .u8 (Int.ofNat n)):=by
    rw[uN];intro v bD;obtain⟨e,_,rfl⟩:=ZJ.1 bD;trivial
   obtain⟨cap,mI,Bd⟩:∃cap,l.length<=cap/\(choose (.appendCap l.length 0 I)).run C.P w= .ok cap w.drew:=
    ⟨l.length+(w.tape w.drawn (.appendCap l.length 0 I))%(2^63-l.length),Zo,by simp[Question.forced,Question.cut]⟩
   have M3:(l.map λn=>J.int .u8 (Int.ofNat n)).length+(Array.replicate (cap-l.length) (Value.int .u8 0)).size=cap*1:=by simp;omega
   have IT:=aad (C:=C) (S:=S) (w:=w) (j:=j) anJ (rF Z) M3 I []
   have Df:j9 C (gu S j ⟨w.heap.size,0,cap*1⟩) (add af j) (.cells (V.ofList (l.map λn=>J.int .u8 (Int.ofNat n)) 0 .nil) (l.map λn=>J.int .u8 (Int.ofNat n)).length (.grow [])) ⟨w.heap.size,0,cap*1⟩
    (w.drew.alloc (.cells ((b2 S (l.map λn=>J.int .u8 (Int.ofNat n))).toArray++Array.replicate (cap-l.length) (Value.int .u8 0)) I (cap,cap+1))):=by
    obtain⟨cq,ty,bU,aN,cT,dL,et,ig⟩:=IT
    have WT:=u1 w.drew (.cells ((b2 S (l.map λn=>J.int .u8 (Int.ofNat n))).toArray++Array.replicate (cap-l.length) (Value.int .u8 0)) I)
    have arQ:w.drew.heap.size=w.heap.size:=rfl
    rw[arQ]at WT
    rw[WT]at cT
    cases cT
    refine⟨_,I,cap,cap+1,u1 w.drew _,⟨.inr ?_,dL.2.1,dL.2.2⟩,et,ig⟩
    simp[jQ];omega
   refine⟨gu S j ⟨w.heap.size,0,cap*1⟩,add af j,_, ?_, .inr rfl,Z.drew.alloc Z.ba (Yq _) (Yb _) (rF Z) eH rfl (by rw[fZ _ Z.ba,Zr rfl]) (λx ah=> .inl (by rw[fZ _ Z.ba,Zh ah])) Df
    ⟨λ_ _ _ a=>(by cases a;simp),λ_ _ _ a=>(by cases a;exact GV)⟩,PZ Z eH _ (λx ah _=>by rw[fZ _ Z.ba,Zh ah]),Yb _⟩
   have arG:((b2 S (l.map λn=>J.int .u8 (Int.ofNat n))).toArray++Array.replicate (cap-l.length) (Value.int .u8 0)).size=cap:=by simp[jQ];omega
   have u3:=anh w.drew ((b2 S (l.map λn=>J.int .u8 (Int.ofNat n))).toArray++Array.replicate (cap-l.length) (Value.int .u8 0)) I cap
   have Ro:w.drew.heap.size=w.heap.size:=rfl
   rw[Ro]at u3
   have R3:(w.drew.alloc (.cells ((b2 S (l.map λn=>J.int .u8 (Int.ofNat n))).toArray++Array.replicate (cap-l.length) (Value.int .u8 0)) I)).shape? w.heap.size=some (I,cap):=by
    have:=u1 w.drew (.cells ((b2 S (l.map λn=>J.int .u8 (Int.ofNat n))).toArray++Array.replicate (cap-l.length) (Value.int .u8 0)) I)
    rw[Ro]at this
    simp only[World.shape?,this,arG]
   simp only[convert,Sem.run_bind,run_underlying aI,run_underlying aO,run_underlying bA,Result.andThen_ok,aS,Conv.stringToBytes,eX,Bd,aB,newRow,run_newObj_alloc,Ro,Sem.run_pure,markStringish,run_shape,R3,run_freeze,u3,
    ll,ZP,za,Yh,Nat.div_one]
  ·simp at a
 ·rename_i tq I b Y len cap aI aO ah
  obtain⟨ex,g⟩:=cA x Zs _ ah
  split at a
  ·rename_i bA
   simp only[e5,Zp]at a
   obtain⟨⟨R2,IY⟩,a⟩:=a
   have R2:s=d:=Zj R2
   subst R2
   have ai:C.ba<=b:=jm IY
   rw[ex]
   have fin:∀(c:V J) (n:Nat) (st:nW),ab C h b=some (.cells c n st)->(st= .own\/st= .marked)->∀U,ab C U b=some (.cells c n .marked)->(∀x,x≠b->ab C U x=ab C h x)->
    mZ C S af h j bm w (convert s s (aS S (.slice b Y len cap))) (.slice b Y len cap) U j:=by
    intro c n st bl dp U ea d2
    obtain⟨cq,ty,bU,aN,bf,ck,a3,a4⟩:=Z.obj b _ bl g
    have jp:KT (.cells c n st):=by rcases dp with rfl|rfl<;>exact⟨Zs,Zs⟩
    have FN:bU=aN\/cq.size<=bU:=by rcases dp with rfl|rfl;exact .inl ck;exact ck
    obtain⟨eS,e2⟩:=ang bf cq.size
    have Bb:=Z.base b _ ai bl g
    have Jj:∃rA k4,(if bU==aN then(cq.size,cq.size+1)else(min bU cq.size,max aN (cq.size+1)))=(rA,k4)/\cq.size<=rA:=by
     by_cases ao:bU=aN
     ·exact⟨_,_,by rw[Zr (by simpa using ao)],Zl _⟩
     ·refine⟨_,_,by rw[Zh (by simpa using ao)], ?_⟩
      have:=FN.resolve_left ao
      omega
    obtain⟨rA,k4,bH,cP⟩:=Jj
    rw[bH]at eS
    refine⟨S,af,w.freeze ⟨(S b).cI,cq.size,none⟩ 1, ?_,g,Z.put ai g bl ea (λx ah=> .inl (d2 x ah)) (λF aL=>e2 F aL) ?_ ⟨cq,ty,rA,k4,eS, .inr cP,a3,a4⟩ ⟨λ_ _ _ a=>(by cases a),λ_ _ _ a=>(by cases a;exact(Z.fz b _ bl g).2 _ _ _ rfl)⟩, ?_,Zl _⟩
    ·have R3:w.shape? (S b).cI=some (ty,cq.size):=Ts bf
     have apr:(s==s)=true:=by simp
     simp only[convert,Sem.run_bind,run_underlying aI,Result.andThen_ok,aS]
     rw[aI]at aO
     cases aO
     simp only[apr,run_underlying bA,Sem.run_bind,Result.andThen_ok,markStringish,run_shape,R3,run_freeze,Sem.run_pure]
    ·intro x dv dT ah dO ff
     rw[d2 x dT]at ah
     exact Z.alone ai g bl jp x dv dT ah dO ff
    ·refine⟨λ_ _=>rfl,λ_ a=>a,λ_ a=> .inl a,λx ah _=>d2 x (λI=>ah (by rw[I];exact g)), ?_⟩
     refine⟨?_, ?_, ?_, ?_,λF aL=>e2 F Zo⟩<;>simp[World.freeze]
   split at a
   ·rename_i c n bl
    simp only[hw,Zf]at a
    subst a
    exact fin c n .own bl (.inl rfl) _ (by rw[fZ _ ai,Zr rfl]) (λx ah=>by rw[fZ _ ai,Zh ah])
   ·rename_i c n bl
    simp only[Zf]at a
    subst a
    exact fin c n .marked bl (.inr rfl) h bl (λ_ _=>rfl)
   ·simp at a
  ·simp at a
 ·simp at a
end
end Go.bk

namespace Go.bk
open Go.RowKit (Below)
def iE(C:a2)(S:da)(af:Nat->Prop)(h:V an)(j bm:Nat)(w:World)(s:Sem Next)(res:eg):Prop:=match res with
 | .val v=>Ay C S af h j bm w s v h j
 | .fE v U ar=>Ay C S af h j bm w s v U ar
 | .fork l=>∃v U,(v,U)∈l/\Ay C S af h j bm w s v U j
 | .enter f args=>s.run C.P w= .ok (.enter f (b2 S args).toArray) w/\eA af args
 | .known f args v=>C.hf f args=some v/\s.run C.P w=(callFunc f (b2 S args).toArray).run C.P w/\eA af args
 | .round l args=>s.run C.P w=(Instr.yield (S l).cI (b2 S args).toArray).run C.P w/\eA af args/\af l
 | .defer d=>s.run C.P w= .ok (.defer (lM S d)) w/\wZ af d
 | .recover=>s.run C.P w= .ok .recover w
 | .panic v=>s.run C.P w= .halt (.panic (aS S v)) w/\cn af v
section
variable{C:a2}{S dg:da}{af dE:Nat->Prop}{h U:V an}{j ar bm:Nat}{w bZ:World}
def iE.one{s:Sem Value}{res:eg}(a:OP C S af h j bm w s res):iE C S af h j bm w (do pure (.value (<-s))) res:=by
 cases res with
 |val v=>exact mZ.done a
 |fE v U ar=>exact mZ.done a
 |fork l=>obtain⟨v,U,T,W⟩:=a;exact⟨v,U,T,W.done⟩
 |_=>exact a.elim
def iE.fE{s:Sem Value}{res:eg}(a:∃v U ar,res= .fE v U ar/\mZ C S af h j bm w s v U ar):iE C S af h j bm w (do pure (.value (<-s))) res:=by
 obtain⟨v,U,ar,rfl,a⟩:=a
 exact a.done
def iE.app(Z:dt C S af h j bm w){s:Sem Value}{res:eg}(a:OE C S af h j bm w s res):iE C S af h j bm w (do pure (.value (<-s))) res:=by
 rcases a with ⟨v,U,ar,rfl,dg,dE,bZ,T,W,au,aP,bK⟩|⟨v,rfl,T,W⟩
 ·exact mZ.done ⟨dg,dE,bZ,T,W,au,aP,bK⟩
 ·exact mZ.done (.same Z W T)
def iE.unit{s:Sem Unit}{res:eg}(a:∃U bZ,res= .fE undef U j/\s.run C.P w= .ok () bZ/\dt C S af U j bm bZ/\iD C j S af h bm w S af U bZ):
 iE C S af h j bm w (do s;pure .skip) res:=by
 obtain⟨U,bZ,rfl,T,W,au⟩:=a
 exact⟨S,af,bZ, .skip,by simp[T], .inr ⟨rfl,rfl⟩,by trivial,W,au,Zl _⟩
def iE.congr{s fg:Sem Next}{res:eg}(a:s.run C.P w=fg.run C.P w)(F:iE C S af h j bm w fg res):iE C S af h j bm w s res:=by
 cases res<;>simp only[iE,Ay]at F ⊢ <;>rw[a]<;>exact F
def Pu(km:x7 C.P){f:Nat}{args:List J}{res:eg}(g:eA af args)(a:r4 C f args=some res):iE C S af h j bm w (callFunc f (b2 S args).toArray) res:=by
 unfold r4 at a
 split at a
 ·rename_i v bD
  simp at a;subst a
  exact⟨bD,rfl,g⟩
 ·split at a
  ·rename_i fn b9
   split at a
   ·rename_i c ai
    simp at a;subst a
    refine⟨?_,g⟩
    have aM:fn.name≠ "runtime.NumGoroutine":=by simpa using km.num f fn b9 (by simp[ai])
    simp[callFunc,b9,aM,ai]
   ·simp at a
  ·simp at a
def acB(km:x7 C.P){fn:Fn}{fO args:List J}{res:eg}(anS:LX af fn)(tt:eA af fO)(ha:eA af args)(a:AJ C fn fO args=some res):
 iE C S af h j bm w (invoke (.fn (m2 S fn) (b2 S fO).toArray) (b2 S args).toArray) res:=by
 unfold AJ at a
 split at a
 ·rename_i f
  have I:invoke (.fn (m2 S (.func f)) (b2 S fO).toArray) (b2 S args).toArray=callFunc f (b2 S (args++fO)).toArray:=by
   simp[invoke,m2,CE]
  rw[I]
  exact Pu km (A3 ha tt) a
 ·rename_i l
  simp at a;subst a
  exact⟨rfl,ha,anS⟩
 ·simp at a
def aug(Z:dt C S af h j bm w)(km:x7 C.P){t:Nat}{v:J}{name:String}{args:List J}{res:eg}(fy:cn af v)(ha:eA af args)(a:EN C h t v name args=some res):
 iE C S af h j bm w (callMethod (.iface t (aS S v)) name (b2 S args).toArray) res:=by
 obtain⟨F,aL⟩:∃F,C.P.types.size+Made.depth=F+1:=⟨C.P.types.size+99,rfl⟩
 have go:∀(f:Nat) (x:J),cn af x->(method (F+1) t (aS S v) name).run C.P w= .ok (f,aS S x) w->r4 C f (x::args)=some res->iE C S af h j bm w (callMethod (.iface t (aS S v)) name (b2 S args).toArray) res:=by
  intro f x fI bs aB
  refine(Pu (S:=S) (h:=h) (j:=j) (bm:=bm) (w:=w) km (args:=x::args) (show cn af x/\eA af args from⟨fI,ha⟩) aB).congr ?_
  simp[callMethod,aL,bs,b2]
 unfold EN at a
 split at a
 ·rename_i i aN
  split at a
  ·rename_i m bs
   simp only[e5]at a
   obtain⟨aA,a⟩:=a
   have F0:m.path.toList=[]:=by simpa using aA
   split at a
   ·rename_i f I b9 be
    refine go f v fy ?_ a
    simp[method,typeInfo,aN,bs,F0,follow,b9,receiverAt,run_underlying be,Place.get]
   ·rename_i f I b9 be
    split at a
    ·rename_i x ah
     obtain⟨T,W⟩:=WE Z fy ah
     refine go f x W ?_ a
     cases v with
     |ptr b Y=>
      simp only[Instr.loadAt,Instr.sureAddr,aS,Sem.run_bind,Sem.run_pure,Result.andThen_ok]at T
      have arL:∀(iB:TypeId) (K:Addr) (nm:String),Builtin.ssaWrapNilChk_ #[iB] iB #[.pointer (some K),strVal "",strVal nm]=pure (.pointer (some K)):=λ_ _ _=>rfl
      have od:m.path= #[]:=by simpa using aA
      simp[method,typeInfo,aN,bs,od,follow,b9,receiverAt,run_underlying be,Place.get,aS,arL,asAddr,T]
     |_=>simp[lK,bM,al]at ah;split at ah<;>simp at ah
    ·simp at a
   ·rename_i f d aM b9 be
    refine go f v fy ?_ a
    cases d<;>first
     |exact(aM _ rfl).elim
     |simp[method,typeInfo,aN,bs,F0,follow,b9,receiverAt,run_underlying be,Place.get]
   ·simp at a
  ·simp at a
 ·simp at a
def ak1(Z:dt C S af h j bm w)(eH:bm<=w.heap.size)(km:x7 C.P){b:Builtin}{args:Array Operand}{dm:Array TypeId}{ty:TypeId}{alu:Array Bool}{ay:Operand->Value}{eG:Operand->Option J}{res:eg}
 (cA:jj S af ay eG args.toList)(a:It C b args dm h j eG=some res):iE C S af h j bm w (builtin b dm ty alu (args.map ay)) res:=by
 have EU:∀{t:Nat}{rest:List Nat},dm.toList=t::rest->dm[0]? =some t:=λaE=>by rw[<-ZM,aE];rfl
 have Ph:∀{t ae:Nat}{rest:List Nat},dm.toList=t::ae::rest->dm[1]? =some ae:=λaE=>by rw[<-ZM,aE];rfl
 unfold It at a
 split at a
 ·rename_i s x ah
  obtain⟨bf,ck⟩:=wK cA ah
  rw[bf]
  split at a
  ·rename_i st iB rest aE
   split at a
   ·rename_i ao hT
    split at a
    ·rename_i n aM
     exact iE.app Z (aj3 (ty:=ty) Z eH (EU aE) (Ph aE) hT ck.1 aM a)
    ·simp at a
   ·rename_i I hT
    exact iE.app Z (Wz (ty:=ty) Z eH (EU aE) (Ph aE) hT (.inr ⟨I,rfl⟩) ck.1 ck.2.1 a)
   ·rename_i hT
    exact iE.app Z (Wz (ty:=ty) Z eH (EU aE) (Ph aE) hT (.inl rfl) ck.1 ck.2.1 a)
   ·simp at a
  ·simp at a
 ·rename_i ah
  simp at a;subst a
  exact rfl
 ·simp at a
def aj4(Z:dt C S af h j bm w)(eH:bm<=w.heap.size)(km:x7 C.P){oper:Oper}{ay:Operand->Value}{eG:Operand->Option J}{res:eg}(cA:jj S af ay eG oper.op.operands.toList)
 (a:nu oper.op C h j eG=some res):iE C S af h j bm w (execOp ay oper) res:=by
 obtain⟨dst,op,type,pos,after,guard⟩:=oper
 have adw:∀t m F x,jj S af ay eG [m,F,x]->FE C t m F x h j eG=some res->iE C S af h j bm w (do Instr.mapUpdate t (ay m) (ay F) (ay x);pure .skip) res:=by
  intro t m F x cA a
  unfold FE at a
  split at a
  ·rename_i K b c aE ai aB
   obtain⟨bH,b5⟩:=cA m Zs K aE
   obtain⟨cP,cd⟩:=cA F Zs b ai
   obtain⟨fH,c0⟩:=cA x Zs c aB
   obtain⟨U,bZ,T,W,au,aP⟩:=aka Z b5 cd c0 a
   rw[bH,cP,fH]
   exact iE.unit ⟨U,bZ,T,W,au,aP⟩
  ·simp at a
 cases op<;>simp only[nu]at a<;>(try(cases a;done))<;>simp only[execOp]<;>simp only[Op.operands]at cA
 case mapUpdate t m F x=>exact adw t m F x (by simpa using cA) a
 case insert t m F x=>exact adw t m F x (by simpa using cA) a
 case makeSlice t l c=>exact iE.fE (at9 Z eH (by simpa using cA) a)
 case makeMap t r=>
  cases r with
  |none=>simp at a
  |some r=>exact iE.fE (at7 Z eH (by simpa using cA) a)
 case convert s d x=>exact iE.one (axW Z eH (by simpa using cA) a)
 case range t x=>exact iE.fE (av7 Z eH (by simpa using cA) a)
 case next eT s=>exact iE.one (auy Z (by simpa using cA) a)
 case panic x=>
  unfold QQ at a
  split at a
  ·rename_i t v ah
   simp at a;subst a
   obtain⟨I,g⟩:=cA x Zs _ ah
   refine⟨?_,g⟩
   simp[Instr.panic,I,aS]
  ·simp at a
 case defer c=>
  unfold QB at a
  split at a
  ·rename_i f args dm
   split at a
   ·rename_i fn first fO cv b9 has
    simp at a;subst a
    simp only[Call.operands]at cA
    obtain⟨I,g⟩:=cA f Zs _ b9
    obtain⟨bf,ck⟩:=wK (cA.mono (by simp;intro x ah;exact .inr ah)) has
    refine⟨?_,⟨g.1,g.2.2⟩,A3 g.2.1 ck⟩
    simp[resolve,I,aS,Deferred.ofValue,bf,lM,CD,CE]
   ·simp at a
  ·simp at a
 case call c=>
  unfold CW at a
  split at a
  ·rename_i f args dm
   split at a
   ·rename_i fn first fO cv b9 has
    simp only[Call.operands]at cA
    obtain⟨I,g⟩:=cA f Zs _ b9
    obtain⟨bf,ck⟩:=wK (cA.mono (by simp;intro x ah;exact .inr ah)) has
    refine(acB (S:=S) (h:=h) (j:=j) (bm:=bm) (w:=w) km g.1 g.2.2 (A3 g.2.1 ck) a).congr ?_
    simp[resolve,I,aS,Deferred.ofValue,bf,CE]
   ·simp at a
  ·rename_i b args dm
   simp only[Call.operands]at cA
   show iE C S af h j bm w (builtin b dm type _ (args.map ay)) res
   exact ak1 Z eH km (cA.mono Zs) a
  ·rename_i r name args dm
   split at a
   ·rename_i t v cv Bn has
    simp only[Call.operands]at cA
    obtain⟨I,g⟩:=cA r Zs _ Bn
    obtain⟨bf,ck⟩:=wK (cA.mono (by simp;intro x ah;exact .inr ah)) has
    refine(aug (v:=v) Z km g ck a).congr ?_
    simp[resolve,I,aS,invoke,bf]
   ·simp at a
end
end Go.bk

namespace Go.bk
noncomputable section
abbrev ed:=Option J
structure iq where
 fn:Nat
 n:Nat
 av:Nat
 bg:List hN
 aF:Bool
 ro:Option Nat
 cs:List gN
abbrev hE:=kT->List d0->iq->V J->V an->Nat->ed
def oC(g:Option (Nat×Bool))(aw:List (Nat×J)):Option Bool:=
 match g with
 |none=>some true
 |some (aa,lF)=>(match ez aw aa with
  |some v=>(match v with| .bool b=>some (b==lF)|_=>some false)
  |none=>none)
def nK(f:J->J->Bool):List J->List J->Bool
 |[],[]=>true
 |K::l,b::m=>f K b&&nK f l m
 |_,_=>false
def J.same:Nat->J->J->Bool
 |0,_,_=>false
 |d+1,x,e=>match x,e with
  | .bool K, .bool b=>K==b
  | .int F K, .int fa b=>decide (F=fa)&&decide (K=b)
  | .str K, .str b=>mS K b
  | .ptr K b, .ptr f3 dN=>Nat.beq K f3&&Nat.beq b dN
  | .cy, .cy=>true
  | .slice K b c I, .slice f3 dN f9 it=>Nat.beq K f3&&Nat.beq b dN&&Nat.beq c f9&&Nat.beq I it
  | .fm K b c I, .fm f3 dN f9 it=>Nat.beq K f3&&Nat.beq b dN&&Nat.beq c f9&&Nat.beq I it
  | .aU, .aU=>true
  | .map K, .map b=>Nat.beq K b
  | .l2, .l2=>true
  | .func f K b, .func XW f3 dN=>decide (f=XW)&&nK (J.same d) K f3&&nK (J.same d) b dN
  | .nilFunc, .nilFunc=>true
  | .iface t v, .iface hr g7=>Nat.beq t hr&&J.same d v g7
  | .nilIface, .nilIface=>true
  | .agg K, .agg b=>nK (J.same d) K b
  | .tuple K, .tuple b=>nK (J.same d) K b
  |_,_=>false
def wP(C:a2)(base:Nat)(M:V J):List fx->List (Nat×J)->V an->Option (List (Nat×J)×V an)
 |[],aw,h=>some (aw,h)
 |x::l,aw,h=>(match oC x.g aw with
  |none=>none
  |some false=>wP C base M l ((x.i,undef)::aw) h
  |some true=>(match mP x.op with
   | .make=>(match n7 x.op C (base+x.i) aw M with
     |some (v,cO)=>jo (bo C h (base+x.i) (some cO)) λh=>wP C base M l ((x.i,v)::aw) h
     |none=>none)
   |_=>(match gU x.op C h aw M with
    |some v=>wP C base M l ((x.i,v)::aw) h
    |none=>none)))
def CI(C:a2)(M:V J)(aw:List (Nat×J))(h:V an):List fx->Bool
 |[]=>true
 |x::l=>(match oC x.g aw with
  |none=>false
  |some false=>CI C M aw h l
  |some true=>(match gU x.op C h aw M,ez aw x.i with
   |some v,some ae=>J.same 30 v ae&&CI C M aw h l
   |_,_=>false))
def ys(aw:List (Nat×J)):List (Nat×Nat)->V J->Option (V J)
 |[],M=>some M
 |(i,d)::l,M=>(match ez aw i with|some v=>jo (M.set d (some v)) λM=>ys aw l M|none=>none)
def exitTo(id:Nat):List d0->Option (List d0)
 |[]=>none
 | .inBlock tV::F=>bV (Nat.beq tV id) (some F)<|exitTo id F
 |_::F=>exitTo id F
def jh{α:Type}(Y:Option α)(F:α->ed):ed:=Option.rec (motive:=λ_=>ed) none (λK=>F K) Y
def HO(l:List (Nat×J)):Nat->(J->ed)->ed:=
 List.rec (motive:=λ_=>Nat->(J->ed)->ed) (λ_ _=>none)
  (λp _ am aa F=>Prod.rec (motive:=λ_=>ed) (λK b=>Bool.rec (motive:=λ_=>ed) (am aa F) (F b) (Nat.beq K aa)) p) l
def LU(t:V J):Nat->(J->ed)->ed:=
 V.rec (motive:=λ_=>Nat->(J->ed)->ed) (λ_ _=>none)
  (λv _ _ iI qq i F=>Nat.rec (motive:=λ_=>ed) (Option.rec (motive:=λ_=>ed) none (λK=>F K) v)
   (λaa _=>Bool.rec (motive:=λ_=>ed) (qq (Nat.div aa 2) F) (iI (Nat.div aa 2) F) (Nat.beq (Nat.mod aa 2) 0)) i) t
def yq(x:kp):List (Nat×J)->V J->(J->ed)->ed:=
 kp.rec (motive:=λ_=>List (Nat×J)->V J->(J->ed)->ed) (λaa aw _ F=>HO aw aa F) (λn _ M F=>LU M n F) (λK _ _ F=>F K) x
def afr(g:Option (Nat×Bool)):List (Nat×J)->ed->ed->ed:=
 Option.rec (motive:=λ_=>List (Nat×J)->ed->ed->ed) (λ_ K _=>K)
  (λp aw K b=>jh (oC (some p) aw) λw=>Bool.rec (motive:=λ_=>ed) b K w) g
def Ih(l:List (Nat×Nat)):List (Nat×J)->V J->(V J->ed)->ed:=
 List.rec (motive:=λ_=>List (Nat×J)->V J->(V J->ed)->ed) (λ_ M F=>F M)
  (λp _ am aw M F=>Prod.rec (motive:=λ_=>ed) (λi d=>HO aw i λv=>jo (V.set M d (some v)) λM=>am aw M F) p) l
def El(eT:d0)(F:List d0)(ca:iq)(M:V J):List gN:=
 iq.rec (motive:=λ_=>List gN) (λfn n av bg aF ro cs=>⟨fn,n,av,M,eT::F,bg, .run,aF,ro⟩::cs) ca
def n5(am:hE)(C:a2)(f:Nat)(args:List J)(deferred:Bool)(cs:List gN)(h:V an)(j:Nat):ed:=
 match C.P.funcs[f]? with
 |some fn=>(match fn.body with
  |some c=>qn (Nat.lor (kl c) (nO fn.results.toList)) λav=>bV (Nat.ble args.length fn.ntmps&&lO C av c&&Ag av fn.results.toList) (am .run [.code c] ⟨f,fn.ntmps,av,[],deferred,none,cs⟩ (V.ofList args 0 .nil) h j)<|none
  |none=>none)
 |none=>none
def xO(n:Nat):List Nat->List J->V J->Option (V J)
 |[],[],M=>some M
 |p::du,K::cv,M=>bV (Nat.blt p n) (xO n du cv (M.set p (some K)))<|none
 |_,_,_=>none
def oT(eT:d0)(v:J):Option d0:=match eT with
 | .s6 ax aw a rest fin=>some (.Hb ax ((a,v)::aw) rest fin)
 | .As ax base aw a li fin=>some (.drawn ax base ((a,v)::aw) li fin)
 | .inRangeFunc l=>some (.endRangeFunc l)
 |_=>none
def Tn(am:hE)(todo:List d0)(ca:iq)(v:J)(M:V J)(h:V an)(j:Nat):ed:=
 match todo with
 |[]=>none
 |eT::F=>(match oT eT v with|some hJ=>am .run (hJ::F) ca M h j|none=>none)
def wR:List Nat->V J->V J
 |[],M=>M
 |d::l,M=>wR l (M.set d none)
def uH(todo:List d0)(M:V J):V J:=match todo with
 | .s6 ax _ _ _ _::_=>wR (dstsOf ax.toList) M
 | .As ax _ _ _ _ _::_=>wR (dstsOf ax.toList) M
 |_=>M
def D8(chain:List rS)(bP:kT):kT:=match bP with
 | .panicking p6=> .panicking (chain++p6)
 |_=> .panicking chain
def aes(am:hE)(c:gN)(cs:List gN)(chain:List rS)(h:V an)(j:Nat):ed:=
 match c with
 |⟨fn,n,av,M,todo,bg,bP,aF,ro⟩=>am (D8 chain bP) todo ⟨fn,n,av,bg,aF,ro,cs⟩ (uH todo M) h j
def Ch(aF:Bool)(cs:List gN):Option (J×List gN):=
 bV (aF) ((match cs with
  |c::rest=>(match c with
   |⟨fn,n,av,M,todo,bg,bP,jn,ro⟩=>(match bP with
    | .panicking (⟨v,false⟩::BY)=>some (v,⟨fn,n,av,M,todo,bg, .panicking (⟨v,true⟩::BY),jn,ro⟩::rest)
    |_=>some (.nilIface,cs)))
  |[]=>none))<|some (.nilIface,cs)
def yu(am:hE)(eT:d0)(F:List d0)(ca:iq)(M:V J)(j:Nat):List (J×V an)->ed
 |[]=>none
 |[(v,h)]=>(match oT eT v with|some hJ=>am .run (hJ::F) ca M h j|none=>none)
 |(v,h)::l=>(match oT eT v with
  |some hJ=>(match am .run (hJ::F) ca M h j,yu am eT F ca M j l with
   |some K,some b=>bV (J.same 30 K b) (some K) none
   |_,_=>none)
  |none=>none)
def nZ(r:eg)(am:hE)(C:a2)(eT:d0)(F:List d0)(ca:iq)(M:V J)(h:V an)(j:Nat):ed:=
 match r with
 | .val v=>(match oT eT v with|some hJ=>am .run (hJ::F) ca M h j|none=>none)
 | .fE v h j=>(match oT eT v with|some hJ=>am .run (hJ::F) ca M h j|none=>none)
 | .enter f args=>n5 am C f args false (El eT F ca M) h j
 | .known _ _ v=>(match oT eT v with|some hJ=>am .run (hJ::F) ca M h j|none=>none)
 | .round l args=>(match ab C h l with
   |some (.loop _ _ fn n av c8 params assign body _)=>(match xO n params args c8 with
    |some c8=>am .run [.code assign, .beginRound, .code body] ⟨fn,n,av,[],false,some l,El eT F ca M⟩ c8 h j
    |none=>none)
   |_=>none)
 | .defer d=>(match ca with
   |⟨fn,n,av,bg,aF,ro,cs⟩=>(match ro with
    |none=>(match oT eT undef with|some hJ=>am .run (hJ::F) ⟨fn,n,av,d::bg,aF,none,cs⟩ M h j|none=>none)
    |some _=>none))
 | .recover=>(match ca with
   |⟨fn,n,av,bg,aF,ro,cs⟩=>(match ro with
    |none=>(match Ch aF cs with
     |some (v,de)=>(match oT eT v with|some hJ=>am .run (hJ::F) ⟨fn,n,av,bg,aF,none,de⟩ M h j|none=>none)
     |none=>none)
    |some _=>none))
 | .panic v=>(match ca with
   |⟨fn,n,av,bg,aF,ro,cs⟩=>(match ro with
    |none=>am (.panicking [⟨v,false⟩]) (eT::F) ⟨fn,n,av,bg,aF,none,cs⟩ (uH (eT::F) M) h j
    |some _=>none))
 | .fork l=>yu am eT F ca M j l
def S8(op:jM):a2->V an->Nat->List (Nat×J)->V J->(J->V an->Nat->ed)->(eg->ed)->ed:=
 match op with
 | .DQ x=>λ_ h j aw M ak _=>yq x aw M λv=>ak v h j
 | .pick c K b=>λ_ h j aw M ak _=>jh (gU (.pick c K b) ⟨default, .nil,0,λ_ _=>none,0⟩ h aw M) λv=>ak v h j
 | .f0 K=>λC h j aw M ak _=>yq K aw M λK=>jh (al C h K) λv=>ak v h j
 | .BK n K=>λC h j aw M ak _=>yq K aw M λK=>jh (bM C h n K) λv=>ak v h j
 | .off d x=>λ_ h j aw M ak _=>yq x aw M λK=>jh (a1 d K) λv=>ak v h j
 | .BC n br x i=>λC h j aw M ak _=>jh (gU (.BC n br x i) C h aw M) λv=>ak v h j
 | .BD br x i=>λC h j aw M ak _=>jh (gU (.BD br x i) C h aw M) λv=>ak v h j
 | .DW x=>λ_ h j aw M ak _=>yq x aw M λK=>jh (cl K) λv=>ak v h j
 | .JG op x e=>λ_ h j aw M ak _=>yq x aw M λK=>yq e aw M λb=>jh (aC op K b) λv=>ak v h j
 | .ext i x=>λ_ h j aw M ak _=>yq x aw M λK=>jh (cK i K) λv=>ak v h j
 | .ia b3 Y=>λC h j aw M ak _=>jh (gU (.ia b3 Y) C h aw M) λv=>ak v h j
 | .make b3 Y=>λC h j aw M _ ql=>jh (Ns (.make b3 Y) C h j aw M) ql
 | .st n K v=>λC h j aw M _ ql=>jh (hY (.st n K v) C h j aw M) ql
 | .call f args=>λC h j aw M _ ql=>jh (hY (.call f args) C h j aw M) ql
 | .fs b3 Y=>λC h j aw M _ ql=>jh (hY (.fs b3 Y) C h j aw M) ql
structure gF where
 am:hE
 ax:Array Oper
 fin:List (Nat×Nat)
 F:List d0
 ca:iq
def amE(X:gF)(C:a2)(M:V J)(aw:List (Nat×J))(i:Nat)(rest:List fx)(r:eg)(h:V an)(j:Nat):ed:=
 match X with|⟨am,ax,fin,F,ca⟩=>nZ r am C (.s6 ax aw i rest fin) F ca M h j
abbrev ST:=gF->a2->V J->List (Nat×J)->V an->Nat->ed
def avX(na:ST)(X:gF)(C:a2)(M:V J)(aw:List (Nat×J))(i:Nat)(v:J)(h:V an)(j:Nat):ed:=na X C M ((i,v)::aw) h j
def apS(na:ST)(X:gF)(C:a2)(M:V J)(aw:List (Nat×J))(i:Nat)(rest:List fx)(h:V an)(j:Nat)(r:eg):ed:=
 match r with
 | .val v=>na X C M ((i,v)::aw) h j
 | .fE v h j=>na X C M ((i,v)::aw) h j
 |r=>amE X C M aw i rest r h j
def Ib(X:gF)(_:a2)(M:V J)(aw:List (Nat×J))(h:V an)(j:Nat):ed:=
 gF.rec (motive:=λ_=>ed) (λam _ fin F ca=>Ih fin aw M λM=>am .run F ca M h j) X
def D3(i:Nat)(g:Option (Nat×Bool))(op:jM)(rest:List fx)(na:ST)(X:gF)(C:a2)(M:V J)(aw:List (Nat×J))(h:V an)(j:Nat):ed:=
 afr g aw (S8 op C h j aw M (avX na X C M aw i) (apS na X C M aw i rest h j)) (na X C M ((i,undef)::aw) h j)
def Aj(rest:List fx):ST:=
 List.rec (motive:=λ_=>ST) Ib (λx rest na=>fx.rec (motive:=λ_=>ST) (λi g op=>D3 i g op rest na) x) rest
def yp(am:hE)(C:a2)(ax:Array Oper)(base:Nat)(aw:List (Nat×J))(li:List wI)(fin:List (Nat×Nat))(F:List d0)(ca:iq)(M:V J)(h:V an)(j:Nat):ed:=
 match li with
 |[]=>none
 |s::rest=>(match wP C base M s.t6 aw h with
  |none=>none
  |some (aw,h)=>bV (CI C M aw h s.Tj) ((match s.fs with
    |none=>Ih fin aw M λM=>am .run F ca M h j
    |some a=>(match oC a.g aw with
     |none=>none
     |some w=>bV (w) ((match hY a.op C h j aw M with
       |some r=>nZ r am C (.As ax base aw a.i rest fin) F ca M h j
       |none=>none))<|am .run (.drawn ax base ((a.i,undef)::aw) rest fin::F) ca M h j)))<|none)
def xW(gb:List rS):kT:=match gb with|⟨_,true⟩::_=> .returning|_=> .panicking gb
def tg(am:hE)(aF:Bool)(cs:List gN)(v:J)(h:V an)(j:Nat):ed:=
 match cs with
 |c::rest=>(match c with
  |⟨fn,n,av,M,todo,bg,bP,jn,ro⟩=>(match bP with
   | .run=>bV aF none (Tn am todo ⟨fn,n,av,bg,jn,ro,rest⟩ v M h j)
   | .returning=>bV aF (am .returning todo ⟨fn,n,av,bg,jn,ro,rest⟩ M h j) none
   | .panicking gb=>bV aF (am (xW gb) todo ⟨fn,n,av,bg,jn,ro,rest⟩ M h j) none))
 |[]=>bV aF none (some v)
def Sm(iL:Option Code):Bool:=match iL with|none=>true|some .ret=>true|_=>false
def ad5(iL:Option Code):Bool:=match iL with|none=>true|some .ret=>true|some (.exit _)=>true|_=>false
def ol(iL:Option Code)(am:hE)(C:a2)(todo:List d0)(ca:iq)(M:V J)(h:V an)(j:Nat):ed:=
 match ca with
 |⟨fn,n,av,bg,aF,ro,cs⟩=>(match ro with
  |none=>bV (Sm iL) (am .returning todo ⟨fn,n,av,bg,aF,none,cs⟩ M h j)<|none
  |some l=>(match ab C h l with
   |some (.loop _ _ fn n av M params assign body defers)=>
    bV ((kD C l&&ad5 iL)&& !aF) (jo (bo C h l (some (.loop (bV iL.isNone .ready .done) iL fn n av M params assign body defers))) λh=>tg am aF cs (.bool iL.isNone) h j)<|none
   |_=>none))
def xM(C:a2)(h:V an)(M:V J):List ResultVar->Option (List J)
 |[]=>some []
 | .tmp t::l=>(match M.get t,xM C h M l with|some v,some r=>some (v::r)|_,_=>none)
 | .cell K t::l=>(match M.get K with
   |some p=>(match lK C h t p,xM C h M l with|some v,some r=>some (v::r)|_,_=>none)
   |none=>none)
def wU(M:V J)(Y:Operand):Option J:=match Y with
 | .tmp t=>M.get t
 | .const v=>D0 v
 | .global g=>some (.ptr g 0)
 | .func f=>some (.func (.func f) [] [])
def Kp(f:Operand)(params:Array Nat)(assign body:Code)(am:hE)(C:a2)(F:List d0)(ca:iq)(M:V J)(h:V an)(j:Nat):ed:=
 match wU M f,ca with
 |some (.func (.func g) first fO),⟨fn,n,av,bg,aF,ro,cs⟩=>
  (
   match ro with
   |none=>qn j λj=>
    n5 am C g (first++[.func (.yield (j+1)) [] []]++fO) false (⟨fn,n,av,M, .inRangeFunc (j+1)::F,⟨.collected j,[]⟩::bg, .run,aF,none⟩::cs)
     (bo C (bo C h j (some (.deferred (some [])))) (j+1) (some (.loop .ready none fn n av M params.toList assign body j))) (j+2)
   |some l=>(match ab C h l with
    |some (.loop _ _ _ _ _ _ _ _ _ defers)=>qn j λj=>
     n5 am C g (first++[.func (.yield j) [] []]++fO) false (⟨fn,n,av,M, .inRangeFunc j::F,bg, .run,aF,some l⟩::cs)
      (bo C h j (some (.loop .ready none fn n av M params.toList assign body defers))) (j+1)
    |_=>none))
 |_,_=>none
def AX(id:Nat)(am:hE)(C:a2)(F:List d0)(ca:iq)(M:V J)(h:V an)(j:Nat):ed:=
 match exitTo id F with
 |some fa=>am .run fa ca M h j
 |none=>ol (some (.exit id)) am C (.code (.exit id)::F) ca M h j
def HY(c:Operand)(M:V J)(K b:ed):ed:=jh (wU M c) λv=>match v with
 | .bool t=>Bool.rec (motive:=λ_=>ed) b K t
 |_=>none
def Tm(n av:Nat)(ax:Array Oper)(am:hE)(C:a2)(F:List d0)(ca:iq)(M:V J)(h:V an)(j:Nat):ed:=
 jh (J7 C n ax av) λr=>OI.rec (motive:=λ_=>ed) (λrest fin=>Aj rest ⟨am,ax,fin,F,ca⟩ C M [] h j) r
def Tl(n av:Nat)(ax:Array Oper)(am:hE)(C:a2)(F:List d0)(ca:iq)(M:V J)(h:V an)(j:Nat):ed:=
 jh (J6 C n ax av) λr=>OH.rec (motive:=λ_=>ed) (λli fin=>qn j λj=>yp am C ax j [] li fin F ca M h (j+ax.size)) r
def aew(ax:Array Oper)(AU:Bool)(am:hE)(C:a2)(F:List d0)(ca:iq)(M:V J)(h:V an)(j:Nat):ed:=
 iq.rec (motive:=λ_=>ed) (λfn n av bg aF ro cs=>Bool.rec (motive:=λ_=>ed)
  (Tm n av ax am C F ⟨fn,n,av,bg,aF,ro,cs⟩ M h j) (Tl n av ax am C F ⟨fn,n,av,bg,aF,ro,cs⟩ M h j) AU) ca
abbrev Aw:=hE->a2->List d0->iq->V J->V an->Nat->ed
def LW:Aw:=λam _ F ca M h j=>am .run F ca M h j
def DX:Aw:=λ_ _ _ _ _ _ _=>none
def uC(c:Code):Aw:=
 Code.rec (motive:=λ_=>Aw) LW
  (λ_ ax d=>aew ax d)
  (λ_ b mO _ am C F=>mO am C (.code b::F))
  (λc _ _ mO hI am C F ca M h j=>HY c M (mO am C F ca M h j) (hI am C F ca M h j))
  (λid _ hI am C F=>hI am C (.inBlock id::F))
  (λb hI am C F=>hI am C (.inLoop b::F))
  (λf params assign body _ _=>Kp f params assign body)
  (λid=>AX id)
  (λb hI am C F=>hI am C (.inScope b::F))
  (λ_=>LW)
  (λ_=>DX)
  (λam C F=>ol (some .ret) am C (.code .ret::F))
  (λ_=>DX) c
def Fh(l:Nat):Aw:=λam C F ca M h j=>match ab C h l with
 |some (.loop state pending gV aV kK c8 params assign body defers)=>
  (
   match state with
   | .busy=>none
   |_=>bV (kD C l) (jo (bo C h l (some (.loop .exhausted pending gV aV kK c8 params assign body defers))) λh=>am .run ((pending.map d0.code).toList++F) ca M h j)<|none)
 |_=>none
def HQ:Aw:=λam C F ca M h j=>match ca with
 |⟨fn,n,av,bg,aF,ro,cs⟩=>match ro with
  |some l=>(match ab C h l with
   |some (.loop .ready pending gV aV kK c8 params assign body defers)=>
    bV (kD C l) (jo (bo C h l (some (.loop .busy pending gV aV kK c8 params assign body defers))) λh=>am .run F ⟨fn,n,av,bg,aF,some l,cs⟩ M h j)<|none
   |_=>none)
  |none=>none
def acD(eT:d0):Aw:=
 d0.rec (motive:=λ_=>Aw) (λc=>uC c) (λ_=>LW) (λb am C F=>uC b am C (.inLoop b::F)) (λ_=>LW)
  (λax aw rest fin am C F ca M h j=>Aj rest ⟨am,ax,fin,F,ca⟩ C M aw h j)
  (λax base aw li fin am C F ca M h j=>yp am C ax base aw li fin F ca M h j)
  (λ_ _ _ _ _=>DX) (λ_ _ _ _ _ _=>DX) (λ_=>DX) (λl=>Fh l) HQ eT
def aeT(todo:List d0)(am:hE)(C:a2)(ca:iq)(M:V J)(h:V an)(j:Nat):ed:=
 List.rec (motive:=λ_=>ed) (ol none am C [] ca M h j) (λeT F _=>acD eT am C F ca M h j) todo
def xQ(d:hN)(ds:List hN)(bP:kT)(todo:List d0)(am:hE)(C:a2)(ca:iq)(M:V J)(h:V an)(j:Nat):ed:=
 match ca with
 |⟨fn,n,av,_,aF,ro,cs⟩=>(match d with
  |⟨.collected r,_⟩=>(match ab C h r with
   |some (.deferred (some pK))=>bV (kD C r) (jo (bo C h r (some (.deferred none))) λh=>am bP todo ⟨fn,n,av,pK++ds,aF,ro,cs⟩ M h j)<|none
   |_=>none)
  |⟨.fn f fO,args⟩=>(match AJ C f fO args with
   |some (.enter f cv)=>n5 am C f cv true (⟨fn,n,av,M,todo,ds,bP,aF,ro⟩::cs) h j
   |_=>none))
def one(bj:List J):J:=match bj with|[v]=>v|bj=> .tuple bj
def KA(todo:List d0)(am:hE)(C:a2)(ca:iq)(M:V J)(h:V an)(j:Nat):ed:=
 match ca with
 |⟨fn,n,av,bg,aF,ro,cs⟩=>match bg with
  |d::ds=>xQ d ds .returning todo am C ⟨fn,n,av,[],aF,ro,cs⟩ M h j
  |[]=>(match C.P.funcs[fn]? with
   |some f=>(match xM C h M f.results.toList with
    |some bj=>tg am aF cs (one bj) h j
    |none=>none)
   |none=>none)
def Kz(chain:List rS)(todo:List d0)(am:hE)(C:a2)(ca:iq)(M:V J)(h:V an)(j:Nat):ed:=
 match ca with
 |⟨fn,n,av,bg,aF,ro,cs⟩=>match bg with
  |d::ds=>xQ d ds (.panicking chain) todo am C ⟨fn,n,av,[],aF,ro,cs⟩ M h j
  |[]=>(match cs with
   |c::rest=>aes am c rest chain h j
   |[]=>none)
def TL(am:hE)(C:a2)(bP:kT)(todo:List d0)(ca:iq)(M:V J)(h:V an)(j:Nat):ed:=
 kT.rec (motive:=λ_=>ed) (aeT todo am C ca M h j) (KA todo am C ca M h j) (λgb=>Kz gb todo am C ca M h j) bP
def run(C:a2)(n:Nat):hE:=
 Nat.rec (motive:=λ_=>hE) (λ_ _ _ _ _ _=>none) (λ_ am bP todo ca M h j=>TL am C bP todo ca M h j) n
def uh(C:a2)(n:Nat)(f:Nat)(args:List J):ed:=n5 (run C n) C f args false [] .nil C.ba
end
end Go.bk

namespace Go.bk
open Go.RowKit (Below)
section
variable{C:a2}{S dg:da}{af dE:Nat->Prop}{h U:V an}{j ar bm:Nat}{w bZ:World}
def aa4(Z:dt C S af h j bm w)(eH:bm<=w.heap.size)(km:x7 C.P){oper:Oper}{ay:Operand->Value}{es:List (Nat×Nat)}{aw:List (Nat×J)}{M:V J}{c:jM}{res:eg}
 (cA:jj S af ay (i7 es aw M) oper.op.operands.toList)(aB:lN C es oper.op=some c)(a:hY c C h j aw M=some res):iE C S af h j bm w (execOp ay oper) res:=by
 have rest:∀Y,oper.op=Y->c= .fs es Y->iE C S af h j bm w (execOp ay oper) res:=by
  intro Y bl C6
  subst C6;subst bl
  exact aj4 Z eH km cA a
 have Aa:∀Y,c= .ia es Y->iE C S af h j bm w (execOp ay oper) res:=by intro Y I;subst I;simp[hY]at a
 have adK:∀Y,c= .make es Y->iE C S af h j bm w (execOp ay oper) res:=by intro Y I;subst I;simp[hY]at a
 obtain⟨dst,op,type,pos,after,guard⟩:=oper
 cases op<;>simp only[lN]at aB<;>simp only[Op.operands]at cA
 case store t K x=>
  split at aB
  ·rename_i f3 iQ s aE ah aI
   simp at aB;subst aB
   simp only[hY,nw aE,nw ah]at a
   split at a
   ·rename_i ae be
    split at a
    ·rename_i v bD
     obtain⟨bH,b5⟩:=cA K Zs ae be
     obtain⟨cP,cd⟩:=cA x Zs v bD
     obtain⟨U,rfl,aO⟩:=axV Z aI b5 cd a
     simp only[execOp,bH,cP]
     exact aO _ (λbZ sD=>by simp[sD])
    ·simp at a
   ·simp at a
  ·simp at aB
 case call tm=>
  obtain⟨callee,args,dm⟩:=tm
  cases callee with
  |builtin b=>
   cases b<;>simp[lN]at aB<;>first
    |exact rest _ rfl aB.symm
    |exact Aa _ aB.symm
  |value f=>
   cases f with
   |func g=>
    simp only at aB
    split at aB
    ·rename_i cv has
     simp at aB;subst aB
     simp only[hY]at a
     split at a
     ·rename_i bj JE
      simp only[Call.operands]at cA
      obtain⟨en,c5⟩:=amI aw M has JE
      have asi:jj S af ay (i7 es aw M) args.toList:=cA.mono (by simp;intro x ah;exact .inr ah)
      obtain⟨fc,f1⟩:=adr asi en c5
      obtain⟨eS,_⟩:=cA (.func g) Zs (.func (.func g) [] []) rfl
      refine(Pu (S:=S) (h:=h) (j:=j) (bm:=bm) (w:=w) km f1 a).congr ?_
      have I:args.map ay=(b2 S bj).toArray:=by apply YY;simp[fc]
      simp[execOp,resolve,eS,aS,m2,b2,Deferred.ofValue,invoke,I]
     ·simp at a
    ·simp at aB
   |tmp t=>simp at aB;exact rest _ rfl aB.symm
   |const v=>simp at aB;exact rest _ rfl aB.symm
   |global g=>simp at aB;exact rest _ rfl aB.symm
  |invoke r m=>simp[lN]at aB;exact rest _ rfl aB.symm
 case convert s d x=>
  rw[fG]at aB
  split at aB
  ·simp at aB;exact rest _ rfl aB.symm
  ·simp at aB;exact Aa _ aB.symm
 case makeMap t r=>cases r<;>simp[lN]at aB<;>first|exact rest _ rfl aB.symm|exact adK _ aB.symm
 case binOp op t x e Ho=>
  rw[fG]at aB
  split at aB
  ·split at aB
   ·simp at aB;subst aB;simp[hY]at a
   ·simp at aB
  ·simp at aB;exact Aa _ aB.symm
 case fieldAddr s x f=>
  split at aB
  ·rw[pn]at aB
   split at aB
   ·split at aB
    ·simp only[E9,Zf]at aB
     obtain⟨_,rfl⟩:=aB
     simp[hY]at a
    ·simp at aB
   ·simp at aB
  ·simp at aB
 case indexAddr t x i=>
  split at aB
  ·split at aB
   ·simp at aB;subst aB;simp[hY]at a
   ·simp at aB
  ·split at aB
   ·simp at aB;subst aB;simp[hY]at a
   ·simp at aB
  ·simp at aB
 all_goals first
  |(simp at aB;first|exact rest _ rfl aB.symm|exact Aa _ aB.symm|exact adK _ aB.symm)
  |(split at aB<;>first
    |(simp at aB;subst aB;simp[hY]at a;done)
    |(simp at aB;done))
def Nt{oper:Oper}{es:List (Nat×Nat)}{c:jM}(aB:lN C es oper.op=some c){b:Nat}{aw:List (Nat×J)}{M:V J}{r:J×an}(a:n7 c C b aw M=some r):qh oper.op C (i7 es aw M) b=some r:=by
 have rest:∀Y,oper.op=Y->c= .make es Y->qh oper.op C (i7 es aw M) b=some r:=by
  intro Y bl C6
  subst C6;subst bl
  exact a
 have Aa:∀Y,c= .ia es Y->qh oper.op C (i7 es aw M) b=some r:=by intro Y I;subst I;simp[n7]at a
 have BT:∀Y,c= .fs es Y->qh oper.op C (i7 es aw M) b=some r:=by intro Y I;subst I;simp[n7]at a
 obtain⟨dst,op,type,pos,after,guard⟩:=oper
 cases op<;>simp only[lN]at aB
 case call tm=>
  obtain⟨callee,args,dm⟩:=tm
  cases callee with
  |builtin b=>cases b<;>simp[lN]at aB<;>first|exact BT _ aB.symm|exact Aa _ aB.symm
  |value f=>
   cases f with
   |func g=>
    simp[lN]at aB
    split at aB
    ·simp at aB;subst aB;simp[n7]at a
    ·simp at aB
   |tmp t=>simp[lN]at aB;exact BT _ aB.symm
   |const v=>simp[lN]at aB;exact BT _ aB.symm
   |global g=>simp[lN]at aB;exact BT _ aB.symm
  |invoke r m=>simp[lN]at aB;exact BT _ aB.symm
 case convert s d x=>
  rw[fG]at aB
  split at aB
  ·simp at aB;exact BT _ aB.symm
  ·simp at aB;exact Aa _ aB.symm
 case makeMap t r=>cases r<;>simp[lN]at aB<;>first|exact rest _ rfl aB.symm|exact BT _ aB.symm
 case binOp op t x e Ho=>
  rw[fG]at aB
  split at aB
  ·split at aB
   ·simp at aB;subst aB;simp[n7]at a
   ·simp at aB
  ·simp at aB;exact Aa _ aB.symm
 case fieldAddr s x f=>
  split at aB
  ·rw[pn]at aB
   split at aB
   ·split at aB
    ·simp only[E9,Zf]at aB
     obtain⟨_,rfl⟩:=aB
     simp[n7]at a
    ·simp at aB
   ·simp at aB
  ·simp at aB
 case indexAddr t x i=>
  split at aB
  ·split at aB
   ·simp at aB;subst aB;simp[n7]at a
   ·simp at aB
  ·split at aB
   ·simp at aB;subst aB;simp[n7]at a
   ·simp at aB
  ·simp at aB
 all_goals first
  |(simp at aB;first|exact rest _ rfl aB.symm|exact Aa _ aB.symm|exact BT _ aB.symm)
  |(split at aB<;>first
    |(simp at aB;subst aB;simp[n7]at a;done)
    |(simp at aB;done))
def ot{α:Type}(Y:Option α)(F:α->ed):jh Y F=match Y with|some K=>F K|none=>none:=by cases Y<;>rfl
def WR(l:List (Nat×J))(aa:Nat)(F:J->ed):HO l aa F=jh (ez l aa) F:=by
 induction l with
 |nil=>rfl
 |cons p l am=>
  obtain⟨K,b⟩:=p
  show(Bool.rec (motive:=λ_=>ed) (HO l aa F) (F b) (Nat.beq K aa))=jh (bV (Nat.beq K aa) (some b) (ez l aa)) F
  rw[am]
  cases Nat.beq K aa<;>rfl
def anQ(t:V J):∀(i:Nat) (F:J->ed),LU t i F=jh (t.get i) F:=by
 induction t with
 |nil=>intro i F;rfl
 |node v l r na Gg=>
  intro i F
  cases i with
  |zero=>cases v<;>rfl
  |succ aa=>
   show(Bool.rec (motive:=λ_=>ed) (LU r (Nat.div aa 2) F) (LU l (Nat.div aa 2) F) (Nat.beq (Nat.mod aa 2) 0))=jh (bV (Nat.beq (Nat.mod aa 2) 0) (l.get (Nat.div aa 2)) (r.get (Nat.div aa 2))) F
   rw[na,Gg]
   cases Nat.beq (Nat.mod aa 2) 0<;>rfl
def amF(x:kp)(aw:List (Nat×J))(M:V J)(F:J->ed):yq x aw M F=jh (kY x aw M) F:=by
 cases x with
 |v aa=>exact WR aw aa F
 |t n=>exact anQ M n F
 |c K=>rfl
def LJ:∀(l:List (Nat×Nat)) (aw:List (Nat×J)) (M:V J) (F:V J->ed),Ih l aw M F=jh (ys aw l M) F:=by
 intro l
 induction l with
 |nil=>intro aw M F;rfl
 |cons p l am=>
  intro aw M F
  obtain⟨i,d⟩:=p
  show HO aw i (λv=>jo (V.set M d (some v)) λM=>Ih l aw M F)=_
  rw[WR]
  simp only[ys]
  cases ez aw i with
  |none=>rfl
  |some v=>simp only[hw];exact am _ _ _
def Ou(g:Option (Nat×Bool))(aw:List (Nat×J))(K b:ed):afr g aw K b=jh (oC g aw) λw=>if w=true then K else b:=by
 cases g with
 |none=>simp[ot,oC];rfl
 |some p=>
  show jh (oC (some p) aw) (λw=>Bool.rec (motive:=λ_=>ed) b K w)=_
  congr 1
  funext w
  cases w<;>rfl
def NM(op:jM)(h:V an)(j:Nat)(aw:List (Nat×J))(M:V J)(ak:J->V an->Nat->ed)(ql:eg->ed):
 S8 op C h j aw M ak ql=match mP op with
  | .ia=>jh (gU op C h aw M) λv=>ak v h j
  | .make=>jh (Ns op C h j aw M) ql
  | .fs=>jh (hY op C h j aw M) ql:=by
 cases op<;>simp only[S8,mP,amF,gU,ot]<;>(try rfl)
 all_goals(split<;>first|rfl|(split<;>simp_all))
end
end Go.bk

namespace Go.bk
open Go.RowKit (Below)
def wj:List Oper->Nat->List (Nat×Nat)->List (Nat×Nat)
 |[],_,es=>es
 |Y::l,i,es=>wj l (i+1) (yb Y i es)
def ip(ax:Array Oper)(i:Nat):List (Nat×Nat):=wj (ax.toList.take i) 0 []
def ayR(K:List Oper):∀(b:List Oper) (i:Nat) (es:List (Nat×Nat)),wj (K++b) i es=wj b (i+K.length) (wj K i es):=by
 induction K with
 |nil=>intro b i es;rfl
 |cons Y K am=>
  intro b i es
  simp only[List.cons_append,wj,am,ZC]
  congr 1;omega
def KM{ax:Array Oper}{i:Nat}{Y:Oper}(a:ax[i]? =some Y):ip ax (i+1)=yb Y i (ip ax i):=by
 have aD:ax.toList[i]? =some Y:=by rw[ZM];exact a
 have c4:i<ax.toList.length:=(Zc.1 aD).1
 unfold ip
 rw[Z0,aD,ayR]
 have:(ax.toList.take i).length=i:=by simp at c4 ⊢;omega
 rw[this]
 simp[wj]
def KN(ax:Array Oper):ip ax 0=[]:=rfl
def sb(ax:Array Oper)(aa:Nat):Option Nat:=(ax[aa]?).bind (·.dst)
def H6{ax:Array Oper}{i:Nat}{Y:Oper}(a:ax[i]? =some Y):sb ax i=Y.dst:=by simp[sb,a]
def akj{Y:Oper}{i aa:Nat}{es:List (Nat×Nat)}:wS aa (yb Y i es)=if i=aa/\Y.dst.isSome then Y.dst else wS aa es:=by
 unfold yb
 split
 ·rename_i d aO
  simp only[wS,hO,aO]
  by_cases I:i=aa<;>simp[I]
 ·rename_i aO
  simp[aO]
def EP{Y:Oper}{i t:Nat}{es:List (Nat×Nat)}:ez (yb Y i es) t=if Y.dst=some t then some i else ez es t:=by
 unfold yb
 split
 ·rename_i d aO
  rw[rf,aO]
  by_cases I:d=t<;>simp[I]
 ·rename_i aO
  simp[aO]
def KO(ax:Array Oper):∀i,i<=ax.size->(∀aa t,wS aa (ip ax i)=some t->sb ax aa=some t)/\
 (∀t aa,ez (ip ax i) t=some aa->aa<i/\sb ax aa=some t/\∀F,aa<F->F<i->sb ax F≠some t)/\(∀t,ez (ip ax i) t=none->∀F,F<i->sb ax F≠some t):=by
 intro i
 induction i with
 |zero=>intro _;rw[KN];exact⟨λaa t a=>by simp[wS]at a,λt aa a=>by simp at a,λt _ F aL=>Zo⟩
 |succ i am=>
  intro aN
  obtain⟨T,W,au⟩:=am Zo
  have bl:ax[i]? =some ax[i]:=Array.getElem?_eq_getElem Zo
  rw[KM bl]
  have aO:=H6 bl
  refine⟨λaa t a=> ?_,λt aa a=> ?_,λt a F aL=> ?_⟩
  ·rw[akj]at a
   split at a
   ·rename_i I;rw[<-I.1,aO];exact a
   ·exact T aa t a
  ·rw[EP]at a
   split at a
   ·rename_i I
    cases a
    exact⟨Zo,by rw[aO];exact I,λF k5 iX=>Zo⟩
   ·rename_i I
    obtain⟨bY,cx,c7⟩:=W t aa a
    refine⟨Zo,cx,λF k5 iX=> ?_⟩
    by_cases ao:F=i
    ·subst ao;rw[aO];exact I
    ·exact c7 F k5 Zo
  ·rw[EP]at a
   split at a
   ·cases a
   ·rename_i I
    by_cases ao:F=i
    ·subst ao;rw[aO];exact I
    ·exact au t a F Zo
section
variable{C:a2}{S dg:da}{af dE:Nat->Prop}{h U:V an}{j ar bm:Nat}{w bZ:World}
def kS(tmps:Array Value):Operand->Value
 | .tmp t=>tmps.getD t Go.undef
 | .const v=>v
 | .global g=> .pointer (some ⟨g,0,none⟩)
 | .func f=> .func (.func f) #[] #[]
def Ie(fr:Frame):fr.eval=kS fr.tmps:=by funext x;cases x<;>rfl
def oL(S:da)(af:Nat->Prop)(av:Nat)(X:Nat->Prop)(es:List (Nat×Nat))(aw:List (Nat×J))(M:V J)(tmps:Array Value):Prop:=
 ∀t v,X t->(match ez es t with|some aa=>ez aw aa=some v|none=>fB av t=true/\M.get t=some v)->tmps[t]? =some (aS S v)/\cn af v
def rV(C:a2)(S:da)(af:Nat->Prop):Prop:=∀g,g<C.nL->af g/\(S g).cI=g/\(S g).ek=0
def au0{av:Nat}{es:List (Nat×Nat)}:∀{l:List Operand},D2 C av es l=true->∀x∈l,Ad C av es x=true:=by
 intro l
 induction l with
 |nil=>intro _ x a;simp at a
 |cons K l am=>
  intro a x ah
  simp only[D2,Zp]at a
  rcases Zq.1 ah with rfl|ah
  ·exact a.1
  ·exact am a.2 x ah
def XR{av:Nat}{X:Nat->Prop}{es:List (Nat×Nat)}{aw:List (Nat×J)}{M:V J}{tmps:Array Value}(bD:oL S af av X es aw M tmps){l:List Operand}(bW:∀t,Operand.tmp t∈l->X t)(bl:D2 C av es l=true)
 (e3:rV C S af):jj S af (kS tmps) (i7 es aw M) l:=by
 intro x ah v a
 have fM:=au0 bl x ah
 cases x with
 |tmp t=>
  have:=bD t v (bW t ah) (by
   simp only[i7]at a
   simp only[Ad]at fM
   split at a
   ·rename_i aa bL;rw[bL];exact a
   ·rename_i bL;rw[bL]at fM ⊢;exact⟨fM,a⟩)
  exact⟨by simp[kS,this.1],this.2⟩
 |const c=>exact NG a
 |global g=>
  simp[i7]at a;subst a
  simp only[Ad]at fM
  obtain⟨b5,cd,c0⟩:=e3 g (lo fM)
  exact⟨by simp[kS,aS,cd,c0],b5⟩
 |func f=>
  simp[i7]at a;subst a
  exact⟨by simp[kS,aS,m2,b2],trivial,trivial,trivial⟩
end
end Go.bk

namespace Go.bk
def AM(m i:Nat):fB m i=m.testBit i:=by
 unfold fB
 rw[Nat.testBit_eq_decide_div_mod_eq,Yf,Zg]
 exact⟨Zj,λa=>by rw[show Nat.mod (Nat.div m (Nat.pow 2 i)) 2=1 from a];rfl⟩
def Lg(i:Nat):fB 0 i=false:=by rw[AM];simp
def EW(K b i:Nat):fB (Nat.lor K b) i=(fB K i||fB b i):=by
 rw[AM,AM,AM];exact Nat.testBit_or K b i
def Lf(t i:Nat):fB (Nat.pow 2 t) i=decide (t=i):=by
 rw[AM];exact Nat.testBit_two_pow
def akU(K b i:Nat):fB (Nat.land K b) i=(fB K i&&fB b i):=by
 rw[AM,AM,AM];exact Nat.testBit_and K b i
def avb{Y:Operand}{m t:Nat}:fB (GX Y m) t=true↔Y= .tmp t\/fB m t=true:=by
 cases Y with
 |tmp ae=>
  show fB (Nat.lor m (Nat.pow 2 ae)) t=true↔_
  rw[EW,Lf]
  simp[or_comm]
 |_=>simp[GX]
def avc{t:Nat}:∀{l:List Operand},fB (GY l) t=true↔Operand.tmp t∈l:=by
 intro l
 induction l with
 |nil=>simp[GY,Lg]
 |cons K l am=>
  show fB (GX K (GY l)) t=true↔_
  rw[avb,am]
  simp[eq_comm]
def al2{Y:Oper}{t:Nat}:fB (H5 Y) t=true↔Y.dst=some t:=by
 unfold H5
 cases Y.dst with
 |none=>simp[Lg]
 |some d=>
  show fB (Nat.pow 2 d) t=true↔_
  rw[Lf]
  simp
structure KW(C:a2)(n av:Nat)(ax:Array Oper)(x:fx)(Y:Oper):Prop where
 oper:ax[x.i]? =some Y
 g:HU (ip ax x.i) Y.guard=some x.g
 op:lN C (ip ax x.i) Y.op=some x.op
 dst:∀d,Y.dst=some d->d<n
 reads:D2 C av (ip ax x.i) Y.op.operands.toList=true
def Pt{C:a2}{n av i:Nat}{Y:Oper}{l:List Oper}{es:List (Nat×Nat)}{cs:List fx}(a:r8 C n av (Y::l) i es=some cs):
 ∃g op r,HU es Y.guard=some g/\lN C es Y.op=some op/\Lv n Y=true/\D2 C av es Y.op.operands.toList=true/\r8 C n av l (i+1) (yb Y i es)=some r/\cs=⟨i,g,op⟩::r:=by
 simp only[r8,mg]at a
 split at a
 ·rename_i g op b0 Dj
  simp only[e5,Zp]at a
  obtain⟨⟨T,W⟩,a⟩:=a
  split at a
  ·rename_i r Z
   simp at a
   exact⟨g,op,r,b0,Dj,T,W,Z,a.symm⟩
  ·simp at a
 ·simp at a
def XC{n:Nat}{Y:Oper}(a:Lv n Y=true):∀d,Y.dst=some d->d<n:=by
 intro d aO
 unfold Lv at a
 rw[aO]at a
 exact lo a
def PO{ax:Array Oper}{i:Nat}{Y:Oper}{l:List Oper}(a:ax.toList.drop i=Y::l):ax[i]? =some Y/\ax.toList.drop (i+1)=l/\i<ax.size:=by
 have T:(ax.toList.drop i)[0]? =some Y:=by rw[a];rfl
 rw[YG,ZM]at T
 refine⟨by simpa using T, ?_, ?_⟩
 ·have:(ax.toList.drop i).drop 1=l:=by rw[a];rfl
  rw[zi]at this
  exact this
 ·exact(ZK.1 (by simpa using T)).1
def ak7{C:a2}{n av:Nat}{ax:Array Oper}:∀(l:List Oper) (i:Nat) (cs:List fx),ax.toList.drop i=l->r8 C n av l i (ip ax i)=some cs->
 cs.length=l.length/\∀aa x,cs[aa]? =some x->x.i=i+aa/\∃Y,KW C n av ax x Y:=by
 intro l
 induction l with
 |nil=>intro i cs _ a;simp[r8]at a;subst a;simp
 |cons Y l am=>
  intro i cs aO a
  obtain⟨g,op,r,T,W,au,aP,bK,rfl⟩:=Pt a
  obtain⟨c3,cQ,eZ⟩:=PO aO
  rw[<-KM c3]at bK
  obtain⟨bY,cx⟩:=am (i+1) r cQ bK
  refine⟨by simp[bY],λaa x ah=> ?_⟩
  cases aa with
  |zero=>simp at ah;subst ah;exact⟨rfl,Y,c3,T,W,XC au,aP⟩
  |succ aa=>
   simp at ah
   obtain⟨I,bA⟩:=cx aa x ah
   exact⟨Zo,bA⟩
def amb{iz:List (Nat×Nat)}:∀(l:List Edge) (K:Nat),fB (l.foldr (CK iz) 0) K=true->∃I∈l,Region.binds .any I=true/\(K=I.on\/∃gr,ez iz I.on=some gr/\fB gr K=true):=by
 intro l
 induction l with
 |nil=>intro K a;simp[Lg]at a
 |cons I l am=>
  intro K a
  simp only[List.foldr_cons]at a
  have p6:fB (l.foldr (CK iz) 0) K=true->∃it∈I::l,Region.binds .any it=true/\(K=it.on\/∃gr,ez iz it.on=some gr/\fB gr K=true):=λa=>by
   obtain⟨it,T,W⟩:=am K a
   exact⟨it,Zu _ T,W⟩
  unfold CK at a
  rw[fG]at a
  split at a
  ·exact p6 a
  ·rw[fG]at a
   split at a
   ·rename_i ai
    split at a
    ·rename_i F aL
     rw[EW,EW,Lf]at a
     simp only[zf,Zg]at a
     rcases a with (a|a)|a
     ·exact p6 a
     ·exact⟨I,Zv ..,ai, .inr ⟨F,aL,a⟩⟩
     ·exact⟨I,Zv ..,ai, .inl a.symm⟩
    ·exact p6 a
   ·exact p6 a
structure EG(ax:Array Oper)(p:gj)(Y:Oper):Prop where
 oper:ax[p.i]? =some Y
 r:p.r=Nat.lor (GY Y.op.operands.toList) (L3 (ip ax p.i) Y.guard)
 w:p.w=H5 Y
def adu{ax:Array Oper}:∀(l:List Oper) (i:Nat) (iz:List (Nat×Nat)),ax.toList.drop i=l->(∀aa m,ez iz aa=some m->aa<i)->
 (BR l i (ip ax i) iz).length=l.length/\(∀aa p,(BR l i (ip ax i) iz)[aa]? =some p->p.i=i+aa/\∃Y,EG ax p Y)/\
 ∀(bv:Nat->Nat->Prop),(∀aa m,ez iz aa=some m->bv aa m)->(∀aa Y m,ax[aa]? =some Y->i<=aa->(∀K,fB m K=true->∃I∈Y.after.toList,Region.binds .any I=true/\(K=I.on\/∃gr,bv I.on gr/\fB gr K=true))->bv aa m)->
  ∀p∈BR l i (ip ax i) iz,bv p.i p.m:=by
 intro l
 induction l with
 |nil=>intro i iz _ _;simp[BR]
 |cons Y l am=>
  intro i iz aO p0
  obtain⟨c3,cQ,eZ⟩:=PO aO
  simp only[BR,mg]
  rw[<-KM c3]
  have aqC:∀aa m,ez ((i,Y.after.toList.foldr (CK iz) 0)::iz) aa=some m->aa<i+1:=by
   intro aa m a
   rw[rf]at a
   split at a
   ·omega
   ·have:=p0 aa m a;omega
  obtain⟨bY,cx,c7⟩:=am (i+1) ((i,Y.after.toList.foldr (CK iz) 0)::iz) cQ aqC
  refine⟨by simp only[ZC,bY],λaa p aA=> ?_,λbv gD rv p aA=> ?_⟩
  ·cases aa with
   |zero=>simp only[ZS,Zf]at aA;subst aA;exact⟨rfl,Y,c3,rfl,rfl⟩
   |succ aa=>
    simp only[ZI]at aA
    obtain⟨I,bA⟩:=cx aa p aA
    exact⟨Zo,bA⟩
  ·have aN:bv i (Y.after.toList.foldr (CK iz) 0):=by
    refine rv i Y _ c3 (Zl _) λK aE=> ?_
    obtain⟨I,T,W,au⟩:=amb _ K aE
    refine⟨I,T,W,au.imp id ?_⟩
    rintro⟨gr,aP,bK⟩
    exact⟨gr,gD _ _ aP,bK⟩
   rcases Zq.1 aA with rfl|aA
   ·exact aN
   ·refine c7 bv (λaa m a=> ?_) (λaa Y m T W au=>rv aa Y m T Zo au) p aA
    rw[rf]at a
    split at a
    ·rename_i I;subst I;cases a;exact aN
    ·exact gD aa m a
def au1{K:gj}:∀{l:List gj},NK K l=true->∀b∈l,NI K b=true:=by
 intro l
 induction l with
 |nil=>intro _ b a;simp at a
 |cons c l am=>
  intro a b ai
  simp only[NK,Zp]at a
  rcases Zq.1 ai with rfl|ai
  ·exact a.1
  ·exact am a.2 b ai
def auZ:∀{l:List gj},Ki l=true->∀(aa i:Nat) K b,aa<i->l[aa]? =some K->l[i]? =some b->NI K b=true:=by
 intro l
 induction l with
 |nil=>intro _ aa i K b _ a;simp at a
 |cons c l am=>
  intro a aa i K b abs aE ai
  simp only[Ki,Zp]at a
  obtain⟨i,rfl⟩:∃F,i=F+1:=⟨i-1,Zo⟩
  simp at ai
  cases aa with
  |zero=>simp at aE;subst aE;exact au1 a.1 b (Zn ai)
  |succ aa=>simp at aE;exact am a.2 aa i K b Zo aE ai
def auW:∀{l:List Oper}{i:Nat},D1 l i=true->∀aa Y,l[aa]? =some Y->∀I∈Y.after.toList,Region.binds .any I=true->I.on<i+aa:=by
 intro l
 induction l with
 |nil=>intro i _ aa Y a;simp at a
 |cons K l am=>
  intro i a aa Y bl I bA ai
  simp only[D1,Zp]at a
  cases aa with
  |zero=>
   simp at bl;subst bl
   have:=List.all_eq_true.1 a.1 I bA
   simp only[ai,Yi,Bool.false_or]at this
   have:=lo this
   omega
  |succ aa=>
   simp at bl
   have:=am a.2 aa Y bl I bA ai
   omega
def apR:∀{l:List gj},I2 l=true->∀(p:Nat) K b,l[p]? =some K->l[p+1]? =some b->fB b.m K.i=true:=by
 intro l
 induction l with
 |nil=>intro _ p K b a;simp at a
 |cons c l am=>
  intro a p K b aE ai
  simp only[I2,Zp]at a
  cases p with
  |zero=>
   simp at aE ai;subst aE
   cases l with
   |nil=>simp at ai
   |cons d l=>simp at ai;subst ai;exact a.1
  |succ p=>simp at aE ai;exact am a.2 p K b aE (by simpa using ai)
def apQ:∀(du:List gj) (cs:List fx),FL du cs=(du.zip cs).filter λx=>nH x.2.op:=by
 intro du
 induction du with
 |nil=>intro cs;rfl
 |cons p du am=>
  intro cs
  cases cs with
  |nil=>rfl
  |cons c cs=>
   simp only[FL,List.zip_cons_cons,List.filter_cons,fG,am]
def atN(aI:List gj):∀(du:List gj) (cs:List fx),GC aI du cs=((du.zip cs).filter λx=> !nH x.2.op).map λx=>⟨x.2,uD x.1.m aI,Bf x.1.i aI⟩:=by
 intro du
 induction du with
 |nil=>intro cs;rfl
 |cons p du am=>
  intro cs
  cases cs with
  |nil=>rfl
  |cons c cs=>
   simp only[GC,List.zip_cons_cons,List.filter_cons,fG,am]
   cases nH c.op<;>simp
def LQ:∀l:List (gj×fx),qo l=l.map (·.1):=by
 intro l
 induction l with
 |nil=>rfl
 |cons K l am=>simp[qo,am]
def alz(m:Nat):∀(aI:List gj) (F:Nat),(∀p a,aI[p]? =some a->F<=p->fB m a.i=false)->uD m aI<=F:=by
 intro aI
 induction aI with
 |nil=>intro F _;simp[uD]
 |cons a aI am=>
  intro F aL
  simp only[uD,fG]
  cases F with
  |zero=>
   have:=aL 0 a rfl (Zl _)
   rw[this]
   have:=am 0 (λp cz aA _=>aL (p+1) cz (by simpa using aA) Zo)
   simpa using this
  |succ F=>
   have:=am F (λp cz aA gE=>aL (p+1) cz (by simpa using aA) Zo)
   split<;>omega
def aqg(i:Nat):∀(aI:List gj) (F:Nat),F<=aI.length->(∀p a,aI[p]? =some a->p<F->fB a.m i=false)->F<=Bf i aI:=by
 intro aI
 induction aI with
 |nil=>intro F aL _;simp at aL;omega
 |cons a aI am=>
  intro F xk aL
  cases F with
  |zero=>omega
  |succ F=>
   have ch:=aL 0 a rfl Zo
   simp only[Bf,ch,jz]
   have:=am F (by simpa using xk) (λp cz aA c4=>aL (p+1) cz (by simpa using aA) Zo)
   omega
end Go.bk

