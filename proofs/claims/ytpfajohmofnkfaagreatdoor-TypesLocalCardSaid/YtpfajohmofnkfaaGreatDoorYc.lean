/- A part of the last text's proof; no condition of its own -/
import Derived.Test.YtpfajohmofnkfaaGreatDoorYb
import Derived.Laws.RangeString
set_option maxHeartbeats 8000000
set_option linter.all false
namespace Go.bi
open Go.RowKit (Below)
section
variable{P:Program}{w bW:World}{dg:Array TypeId}{ty st ij ee:TypeId}{i:TypeInfo}{dE:TypeDesc}{base:Option Addr}{gW kW n:Nat}{X bt:Value}{pO new:Array Value}
def Ol(P:Program)(w:World)(dE:TypeDesc)(X:Value)(i:TypeInfo):Prop:=
 ((dE= .string\/∃J,dE= .slice J)/\(Builtin.lenOf X).run P w= .ok 0 w/\(Builtin.firstCells i.size 0 X).run P w= .ok #[] w)\/((∃am,dE= .int am)/\∃B,X= .int B 0)
def OX(b6:dg[0]? =some st)(Q:dg[1]? =some ij)(di:P.underlying st=some (.slice ee))(hH:P.underlying ij=some dE)(aJ:P.info? ee=some i)
 (bQ:Ol P w dE X i)(aL:gW<=kW):(Builtin.append_ dg ty #[.slice base gW kW,X]).run P w= .ok (.slice base gW kW) w:=by
 rcases bQ with ⟨jc,hO,j9⟩|⟨⟨am,rfl⟩,B,rfl⟩
 ·rcases jc with rfl|⟨_,rfl⟩<;>cases base<;>simp[Builtin.append_,b6,Q,run_underlying di,run_underlying hH,sizeOf,typeInfo,aJ,hO,aL,j9,storeCells]
 ·have bJ:IntKind.i64.wrap 0=0:=by decide
  have az:¬((2:Int)^48<0):=by decide
  cases base<;>simp[Builtin.append_,b6,Q,run_underlying di,run_underlying hH,sizeOf,typeInfo,aJ,asInt,asIntOf,bJ,az,aL,storeCells]
end
section
variable{C:aZ}{R db:c6}{af dB:Nat->Prop}{h T:V an}{j au bj:Nat}{w bW:World}
def akm{dE:TypeDesc}{X bt:Value}{i:TypeInfo}(a:xB C.P w dE X i bt 0 (bY R []).toArray):Ol C.P w dE X i:=by
 rcases a with ⟨jc,hO,j9,_⟩|⟨_,_,_,_,k2,_⟩
 ·exact .inl ⟨jc,hO,j9⟩
 ·simp at k2
def anP{b Y len a1 n:Nat}(Z:dl C R af h j bj w)(aj:af b)(a:xq C h b=some n)(aD:0<a1)(aC:Y+len*a1<=n):len<=((R b).room-Y)/a1:=by
 have:=aeD Z aj a
 rw[Y5 aD]
 omega
def Wv(Z:dl C R af h j bj w){dg:Array TypeId}{ty st ij ee:TypeId}{i:TypeInfo}{dE:TypeDesc}{s:F}{X:Value}{res:d4}
 (b6:dg[0]? =some st)(Q:dg[1]? =some ij)(di:C.P.underlying st=some (.slice ee))(hH:C.P.underlying ij=some dE)(aJ:C.P.info? ee=some i)(eN:0<i.size)
 (bQ:Ol C.P w dE X i)(aq:cj af s)(a:Es C h i.size s=some res):∃v,res= .val v/\cj af v/\(Builtin.append_ dg ty #[aQ R s,X]).run C.P w= .ok (aQ R v) w:=by
 unfold Es at a
 split at a
 ·simp at a;subst a
  exact⟨_,rfl,trivial,by simp only[aQ];exact OX b6 Q di hH aJ bQ (Zi _)⟩
 ·simp only[e0,Zf]at a
  obtain⟨aC,rfl⟩:=a
  exact⟨_,rfl,aq,by simp only[aQ];exact OX b6 Q di hH aJ bQ (jf aC)⟩
 ·simp only[e0]at a
  obtain⟨bx,a⟩:=a
  have bx:=Zj bx
  subst bx
  split at a
  ·rename_i n aL
   simp only[e0,Zf]at a
   obtain⟨aC,rfl⟩:=a
   exact⟨_,rfl,aq,by simp only[aQ];exact OX b6 Q di hH aJ bQ (anP Z aq aL eN (jf aC))⟩
  ·simp at a
 ·simp at a
def Ko(C:aZ)(R:c6)(af:Nat->Prop)(h:V an)(j bj:Nat)(w:World)(s:Sem Value)(res:d4):Prop:=
 ∃v T au,res= .fh v T au/\∃db dB bW,s.run C.P w= .ok (aQ db v) bW/\cj dB v/\dl C db dB T au bj bW/\il C j R af h bj w db dB T bW/\j<=au
def rl(Z:dl C R af h j bj w):¬af j:=λa=>zt (Z.lt j a)
def akI(ew:bj<=w.heap.size)(Y:Obj):Below bj w (w.drew.alloc Y):=(Below.drew (Below.refl bj w)).trans (Below.alloc (Below.refl bj w.drew) ew Y)
def PK(Z:dl C R af h j bj w){pl:mc}(ew:bj<=w.heap.size)(Y:Obj)(iJ:∀x,x≠j->¬af x->ab C T x=ab C h x):il C j R af h bj w (gn R j pl) (add af j) T (w.drew.alloc Y):=
 ⟨qF (rl Z),λ_ a=> .inl a,λx a=>a.elim .inl (λa=> .inr Zo),λx ah aC=>iJ x Zo ah,akI ew Y⟩
def π{l:List F}{rest:Array Value}{cap a1:Nat}(g:es af l)(aL:¬af j)(aC:l.length+rest.size=cap*a1)(ee:TypeId)(is:List Nat):
 jT C (gn R j ⟨w.heap.size,0,cap*a1⟩) (add af j) (.cells (V.ofList l 0 .nil) l.length (.grow is)) ⟨w.heap.size,0,cap*a1⟩ (w.drew.alloc (.cells ((bY R l).toArray++rest) ee)):=by
 have dJ:=qF (R:=R) (pl:=⟨w.heap.size,0,cap*a1⟩) aL
 refine⟨_,ee,0,0,ux w.drew _,⟨.inl rfl,by simp only;omega, ?_⟩, ?_,λi v bB=> ?_⟩
 ·simp only[YT,Yt,jG];omega
 ·simp only[YT,Yt,jG];omega
 ·rw[kw]at bB
  have fk:=AF g bB
  have c1:i<l.length:=(Zb.1 bB).1
  refine⟨?_,oE (λ_ a=> .inl a) v fk⟩
  rw[p4 dJ fk,ZI,YD (by simpa[jG]using c1)]
  simp[At,bB]
def afI(zero:Array Value)(n:Nat):(Builtin.zeroCells zero n).size=n*zero.size:=by simp[Builtin.zeroCells]
section
variable{dg:Array TypeId}{ty st ij ee:TypeId}{i:TypeInfo}{dE:TypeDesc}{X bt:Value}{n:Nat}{l:List F}
def ξ(Z:dl C R af h j bj w)(ew:bj<=w.heap.size){s:F}{base:Option Addr}{gW kW:Nat}{bS:List F}(tp:bt.cells.size=i.size)
 (b6:dg[0]? =some st)(Q:dg[1]? =some ij)(di:C.P.underlying st=some (.slice ee))(hH:C.P.underlying ij=some dE)(aJ:C.P.info? ee=some i)(cv:i.zero=some bt)(eN:0<i.size)(nj:i.bytes<=65536)
 (bQ:xB C.P w dE X i bt n (bY R l).toArray)(is:es af l)(aC:l.length=n*i.size)(P9:es af bS)(nU:bS.length=gW*i.size)(aL:¬(gW+n<=kW))(aD:aQ R s= .slice base gW kW)
 (bl:(Builtin.firstCells i.size gW (.slice base gW kW)).run C.P w.drew= .ok (bY R bS).toArray w.drew)(wU:gW+n<=1048576){a2:V an}(qc:List Nat)
 (et:ab C a2 j=some (.cells (V.ofList (bS++l) 0 .nil) (bS++l).length (.grow qc)))(dI:dl C R af T j bj w)(fC:∀x,x≠j->ab C a2 x=ab C T x\/ab C a2 x=none)
 (fl:∀x,x≠j->¬af x->ab C a2 x=ab C h x)(Mb:∀x∈qc,af x/\C.a8<=x):
 ∃db dB bW,(Builtin.append_ dg ty #[aQ R s,X]).run C.P w= .ok (aQ db (.en j 0 (gW+n) i.size)) bW/\cj dB (.en j 0 (gW+n) i.size)/\dl C db dB a2 (j+1) bj bW/\il C j R af h bj w db dB a2 bW:=by
 obtain⟨cap,aB,nZ⟩:=Ww (ty:=ty) b6 Q di hH aJ cv bQ aL nj wU bl
 have fD:(bS++l).length=(gW+n)*i.size:=by rw[ZM,nU,aC,Ye]
 have MH:(bS++l).length+(Builtin.zeroCells bt.cells (cap-(gW+n))).size=cap*i.size:=by
  rw[afI,tp,fD, <-Ye]
  congr 1;omega
 have J:(bY R bS).toArray++(bY R l).toArray=(bY R (bS++l)).toArray:=by rw[Cd];simp
 rw[J]at nZ
 have Io:=π (C:=C) (R:=R) (w:=w) (AE P9 is) (rl Z) MH ee qc
 refine⟨gn R j ⟨w.heap.size,0,cap*i.size⟩,add af j,w.drew.alloc (.cells ((bY R (bS++l)).toArray++Builtin.zeroCells bt.cells (cap-(gW+n))) ee), ?_, .inr rfl, ?_, ?_⟩
 ·rw[aD,nZ]
  simp only[aQ,k1,ZI,Y2]
  rw[Nat.mul_div_cancel _ eN]
 ·exact dI.drew.alloc Z.a8 (YA _) (Yf _) (rl Z) ew rfl et fC Io ⟨λc aV b8 a=>(by cases a;exact λx ah=>⟨.inl (Mb x ah).1,(Mb x ah).2⟩),λc aV st a=>(by cases a;exact Gm)⟩
 ·exact PK Z ew _ fl
def ν{n a1:Nat}{res:d4}(a:s7 C h j n a1 l=some res):n<=1048576/\res= .fh (.en j 0 n a1) (bn C h j (some (.cells (V.ofList l 0 .nil) l.length (.grow [])))) (j+1):=by
 unfold s7 mV at a
 simp only[lS,g8,e0,Zf]at a
 exact⟨jf a.1,a.2.symm⟩
def amM{b Y len cap a1:Nat}{fP:List F}(Z:dl C R af h j bj w)(aj:af b)(a:mN C h b Y (len*a1)=some fP):
 (Builtin.firstCells a1 len (.slice (some ⟨(R b).cE,(R b).eb+Y,none⟩) len cap)).run C.P w.drew= .ok (bY R fP).toArray w.drew/\es af fP:=by
 obtain⟨Q,U⟩:=EG Z.drew aj a
 exact⟨by simp[Builtin.firstCells,Q],U⟩
def axP{co:Array Value}{eb Y p:Nat}{c:V F}{fP l:List F}{B:Nat}(az:p=eb+Y+fP.length)(ch:p+l.length<=co.size)(iY:es af fP)(is:es af l)
 (b6:∀aa v,fP[aa]? =some v->co[eb+Y+aa]? =some (aQ R v)):
 ∀aa v,(fP++l)[aa]? =some v->(kB co p (bY R l))[eb+Y+aa]? =some (aQ R v)/\cj af v:=by
 intro aa v bB
 rw[Tp _ _ _ _ (by rw[jG];exact ch),jG]
 by_cases bG:aa<fP.length
 ·rw[ZO bG]at bB
  rw[Zg Zo]
  exact⟨b6 aa v bB,AF iY bB⟩
 ·rw[ZE Zo]at bB
  have c1:aa-fP.length<l.length:=(Zb.1 bB).1
  rw[Zq Zo,At,show eb+Y+aa-p=aa-fP.length by omega,bB]
  exact⟨rfl,AF is bB⟩
section
variable{dg:Array TypeId}{ty st ij ee:TypeId}{i:TypeInfo}{dE:TypeDesc}{X bt:Value}{n:Nat}{l:List F}
def akl(Z:dl C R af h j bj w)(ew:bj<=w.heap.size)(tp:bt.cells.size=i.size){b Y len:Nat}{res:d4}
 (b6:dg[0]? =some st)(Q:dg[1]? =some ij)(di:C.P.underlying st=some (.slice ee))(hH:C.P.underlying ij=some dE)(aJ:C.P.info? ee=some i)(cv:i.zero=some bt)(eN:0<i.size)(nj:i.bytes<=65536)
 (bQ:xB C.P w dE X i bt n (bY R l).toArray)(is:es af l)(aC:l.length=n*i.size)(aM:af b)(gU:0<n)(a:Hf C h j b Y len i.size n l=some res):
 Ko C R af h j bj w (Builtin.append_ dg ty #[aQ R (.en b Y len i.size),X]) res:=by
 unfold Hf at a
 split at a
 ·rename_i c size fm bl
  simp only[e0]at a
  obtain⟨Ir,a⟩:=a
  have aj:C.a8<=b:=jf Ir
  obtain⟨co,dN,bS,uA,bh,cl,a3,a4⟩:=Z.obj b _ bl aM
  obtain⟨Fk,ari,apM⟩:=cl
  have AQ:=Z.base b _ aj bl aM
  have Fs:=(Z.fm b _ bl aM).1 _ _ _ rfl
  have r1:=(Z.fm b _ bl aM).2 _ _ _ rfl
  have yv:b≠j:=λJ=>zt (Z.lt b aM)
  have nV:=rl Z
  rw[fw]at a
  split at a
  ·
   rename_i aa4
   have aa4:Y+(len+n)*i.size<=size:=jf aa4
   split at a
   ·rename_i T bJ
    simp at a;subst a
    obtain⟨bW,bV,cw,c4⟩:=OT Z (de:=j) aM is bJ
    have ml:len+n<=((R b).room-Y)/i.size:=by
     rw[Y5 eN];omega
    refine⟨_,_,_,rfl,R,af,bW, ?_,aM,cw,c4,Zi _⟩
    simp only[aQ]
    refine KF b6 Q di hH aJ cv bQ ml ?_
    rw[qR,ZJ]
    exact bV
   ·simp at a
  ·simp only[e0,Zp]at a
   obtain⟨⟨wU,nX⟩,a⟩:=a
   have wU:=jf wU
   have wV:∀v∈bY R l,v.oneCell'=true:=adI nX
   have fD:(len+n)*i.size=len*i.size+n*i.size:=Ye ..
   rw[fw]at a
   split at a
   ·
    rename_i wM
    simp only[Zp]at wM
    have bD:Y+len*i.size=size:=Zj wM.1
    have cF:Y=0:=Zj wM.2
    subst cF
    have bD:len*i.size=size:=Zo
    simp only[g8,mV,lS,Zf]at a
    subst a
    have sc:=Z.awf aj aM bl
    by_cases ml:len+n<=((R b).room-0)/i.size
    ·
     have arj:(len+n)*i.size<=(R b).room:=by
      have:=(Y5 eN).1 ml;omega
     have ary:=Ti C.P (R b).cE ((R b).eb+size) dN bS uA (bY R l) 0 co w bh (Fk.imp (λJ=>za J.symm) id) (by rw[jG];omega)
     ·have RS:=ary wV
      have sh:∀B,B≠(R b).cE->(w.setRow (R b).cE (kB co ((R b).eb+size+0) (bY R l))).heap[B]? =w.heap[B]? :=λB aN=>setRow_other w _ B _ aN
      have ft:=setRow_heap w (R b).cE co (kB co ((R b).eb+size+0) (bY R l)) dN (bS,uA) bh
      have dJ:=qF (R:=R) (pl:=R b) nV
      have CT:jT C (gn R j (R b)) (add af j) (.cells (dQ c size l) (size+l.length) (.grow (b::fm))) (R b) (w.setRow (R b).cE (kB co ((R b).eb+size+0) (bY R l))):=by
       refine⟨_,dN,bS,uA,ft,⟨by rw[xo];exact Fk,Zo,by rw[xo];exact apM⟩,by rw[xo];omega,λaa v bB=> ?_⟩
       obtain⟨b4,b7⟩:=afu (R:=R) (af:=af) (c:=c) (co:=co) (eb:=(R b).eb) (Y:=size) (n:=size+l.length) is Zo Zo a4 aa v bB
       exact⟨by rw[p4 dJ b7];exact b4,oE (λ_ a=> .inl a) v b7⟩
      have RI:=sc.share (j:=j) (bW:=w.setRow (R b).cE (kB co ((R b).eb+size+0) (bY R l))) (pl:=R b) (cT:= .cells (dQ c size l) (size+l.length) (.grow (b::fm))) AQ rfl sh CT
       ⟨λf0 aV b8 a=>(by
        cases a
        intro x ah
        rcases Zt.1 ah with rfl|ah
        ·exact⟨.inl aM,aj⟩
        ·exact⟨.inl (Fs x ah).1,(Fs x ah).2⟩),
        λf0 aV iR a=>(by cases a;exact Od (Zi _) λaa v bB=>ZR (r1 aa v bB) (zc _ _))⟩
       (λx dr ah dE to=>by
        have acH:∀f0 aV,dr= .cells f0 aV .jR->aV<=size->(R x).eb=(R b).eb->jT C R af dr (R x) (w.setRow (R b).cE (kB co ((R b).eb+size+0) (bY R l))):=by
         intro f0 aV J Mq lE
         subst J
         have c1:=(sc.fm x _ ah dE).2 _ _ _ rfl
         obtain⟨Et,ax4,re,kP,c0,dL,ef,hQ⟩:=sc.obj x _ ah dE
         rw[to,bh]at c0
         cases c0
         refine⟨_,dN,bS,uA,by rw[to];exact ft,by rw[xo];exact dL,by rw[xo];exact ef,λaa v bB=> ?_⟩
         obtain⟨b4,b7⟩:=hQ aa v bB
         have:=c1 aa v bB
         refine⟨?_,b7⟩
         rw[Tp _ _ _ _ (by rw[jG];omega),Zg Zo]
         exact b4
        by_cases J:x=b
        ·subst J
         rw[fR _ aj,Zq rfl]at ah;cases ah
         exact⟨acH c size rfl (Zi _) rfl, .inr (.inl ⟨_,_,_,_,_,rfl,rfl,Zs,Zo⟩), .inr (.inr ⟨_,_,_,_,_,rfl,rfl,Zs,Zo⟩),rfl⟩
        ·rw[fR _ aj,Zg J]at ah
         obtain⟨k8,qp⟩:=Z.sep b x _ dr bl ah aM dE (λam=>J am.symm) aj to.symm
         rcases k8 with ⟨_,_,_,_,am,_⟩|⟨_,_,b8,f0,aV,am,rfl,bp,gl⟩|⟨_,_,_,_,_,_,am,_⟩
         ·cases am
         ·cases am
          refine⟨acH f0 aV rfl gl qp.symm, .inr (.inl ⟨_,_,_,_,_,rfl,rfl,Zr _ bp,Zo⟩), .inr (.inr ⟨_,_,_,_,_,rfl,rfl,Zr _ bp,Zo⟩),qp⟩
         ·cases am)
      refine⟨_,_,_,rfl,gn R j (R b),add af j,_, ?_, .inr rfl,RI,⟨dJ,λ_ a=> .inl a,λx a=>a.elim .inl (λa=> .inr Zo),λx ah c1=> ?_,O3 AQ _ _⟩,Yf _⟩
      ·simp only[aQ,k1]
       rw[ZY]
       refine KF b6 Q di hH aJ cv bQ ml ?_
       rw[qR,bD]
       exact RS
      ·have to:x≠b:=λJ=>ah (by rw[J];exact aM)
       rw[fR _ Z.a8,Zg Zo,fR _ aj,Zg to]
    ·
     have CX:(Builtin.firstCells i.size len (.slice (some ⟨(R b).cE,(R b).eb+0,none⟩) len (((R b).room-0)/i.size))).run C.P w.drew= .ok ((co.toList.drop (R b).eb).take size).toArray w.drew:=by
      have mQ:=run_loadCells_list (P:=C.P) w.drew ⟨(R b).cE,(R b).eb+0,none⟩ ((co.toList.drop (R b).eb).take size) (λaa v bB=>by
       rw[qR]
       have bG:aa<size:=by
        have:=(Zb.1 bB).1
        simp at this;omega
       rw[YV bG,YJ]at bB
       have ajM:w.drew.heap[(R b).cE]? =some (.cells co dN (bS,uA)):=bh
       simp only[World.cell?,ajM]
       simpa[ZS]using bB)
      have uG:((co.toList.drop (R b).eb).take size).length=size:=by simp;omega
      rw[uG]at mQ
      simp only[Builtin.firstCells,bD]
      exact mQ
     obtain⟨cap,aB,nZ⟩:=Ww (ty:=ty) b6 Q di hH aJ cv bQ ml nj wU CX
     have uG:((co.toList.drop (R b).eb).take size).length=size:=by simp;omega
     have MH:size+l.length+(Builtin.zeroCells bt.cells (cap-(len+n))).size=cap*i.size:=by
      rw[afI,tp,aC, <-bD, <-Ye, <-Ye]
      congr 1;omega
     have dJ:=qF (R:=R) (pl:=⟨w.heap.size,0,cap*i.size⟩) nV
     have CT:jT C (gn R j ⟨w.heap.size,0,cap*i.size⟩) (add af j) (.cells (dQ c size l) (size+l.length) (.grow (b::fm))) ⟨w.heap.size,0,cap*i.size⟩
      (w.drew.alloc (.cells (((co.toList.drop (R b).eb).take size).toArray++(bY R l).toArray++Builtin.zeroCells bt.cells (cap-(len+n))) ee)):=by
      refine⟨_,ee,0,0,ux w.drew _,⟨.inl rfl,by simp only;omega, ?_⟩, ?_,λaa v bB=> ?_⟩
      ·simp only[YT,Yt,jG,uG];omega
      ·simp only[YT,Yt,jG,uG];omega
      ·rw[TU,V.Lp]at bB
       simp only[ZI]
       split at bB
       ·rename_i bG
        have fk:=AF is bB
        refine⟨?_,oE (λ_ a=> .inl a) v fk⟩
        rw[p4 dJ fk,YD (by simp only[YT,Yt,jG,uG];omega),Array.getElem?_append_right (by simp only[Yt,uG];omega)]
        simp only[Yt,uG,List.getElem?_toArray,At,bB,ZV]
       ·have bG:=r1 aa v bB
        obtain⟨b4,b7⟩:=a4 aa v bB
        refine⟨?_,oE (λ_ a=> .inl a) v b7⟩
        rw[p4 dJ b7,YD (by simp only[YT,Yt,jG,uG];omega),YD (by simp only[Yt,uG];omega)]
        rw[List.getElem?_toArray,YV bG,YJ,ZS]
        exact b4
     have et:ab C (bn C (bn C h b (some (.cells c size .jR))) j (some (.cells (dQ c size l) (size+l.length) (.grow (b::fm))))) j=some (.cells (dQ c size l) (size+l.length) (.grow (b::fm))):=by
      rw[fR _ Z.a8,Zq rfl]
     refine⟨_,_,_,rfl,gn R j ⟨w.heap.size,0,cap*i.size⟩,add af j,_, ?_, .inr rfl,sc.drew.alloc Z.a8 (YA _) (Yf _) nV ew rfl et (λx ah=> .inl ?_) CT ?_,PK Z ew _ (λx ah RW=> ?_),Yf _⟩
     ·simp only[aQ,k1,ZI,Y2]
      simp only[ZY,Y2]at nZ ⊢
      rw[nZ,Nat.mul_div_cancel _ eN]
     ·rw[fR _ Z.a8,Zg ah]
     ·exact⟨λf0 aV b8 a=>(by
           cases a
           intro x ah
           rcases Zt.1 ah with rfl|ah
           ·exact⟨.inl aM,aj⟩
           ·exact⟨.inl (Fs x ah).1,(Fs x ah).2⟩),
       λf0 aV iR a=>(by cases a;exact Od (Zi _) λaa v bB=>ZR (r1 aa v bB) (zc _ _))⟩
     ·have to:x≠b:=λJ=>RW (by rw[J];exact aM)
      rw[fR _ Z.a8,Zg ah,fR _ aj,Zg to]
   ·
    split at a
    ·rename_i fP mQ
     simp only[mV,lS,g8,Zf]at a
     subst a
     have abs:fP.length=len*i.size:=acZ mQ
     have ib:cellsOf C h b=some c:=by simp[cellsOf,bl]
     have Rh:∀x,x≠b->ab C (bn C (oU C fm h) b none) x=if x∈fm then none else ab C h x:=λx ah=>by
      rw[fR _ aj,Zg ah,aba _ _ _ λe H=>(Fs e H).2]
     have abl:ab C (bn C (oU C fm h) b none) b=none:=by rw[fR _ aj,Zq rfl]
     have aa2:dl C R af (bn C (oU C fm h) b none) j bj w:=Z.XK λx=>by
      by_cases J:x=b
      ·subst J;exact .inr abl
      ·rw[Rh x J];split
       ·exact .inr rfl
       ·exact .inl rfl
     have Mi:∀x,¬af x->ab C (bn C (oU C fm h) b none) x=ab C h x:=λx ah=>by
      have to:x≠b:=λJ=>ah (by rw[J];exact aM)
      rw[Rh x to,Zg λbp=>ah (Fs x bp).1]
     have nq:ab C (bn C (bn C (oU C fm h) b none) j (some (.cells (V.ofList (fP++l) 0 .nil) (fP++l).length (.grow [])))) j=some (.cells (V.ofList (fP++l) 0 .nil) (fP++l).length (.grow [])):=by
      rw[fR _ Z.a8,Zq rfl]
     have jx:∀x,x≠j->ab C (bn C (bn C (oU C fm h) b none) j (some (.cells (V.ofList (fP++l) 0 .nil) (fP++l).length (.grow [])))) x=ab C (bn C (oU C fm h) b none) x:=λx ah=>by
      rw[fR _ Z.a8,Zg ah]
     obtain⟨L8,wN⟩:=KN Z aM ib mQ
     by_cases ml:len+n<=((R b).room-Y)/i.size
     ·
      have Fw:0<(len+n)*i.size:=Nat.mul_pos Zo eN
      have arj:Y+(len+n)*i.size<=(R b).room:=by
       have ar:=(Y5 eN).1 ml
       omega
      have RS:=Ti C.P (R b).cE ((R b).eb+(Y+len*i.size)) dN bS uA (bY R l) 0 co w bh (Fk.imp (λJ=>za J.symm) id) (by rw[jG];omega) wV
      have sh:∀B,B≠(R b).cE->(w.setRow (R b).cE (kB co ((R b).eb+(Y+len*i.size)+0) (bY R l))).heap[B]? =w.heap[B]? :=λB aN=>setRow_other w _ B _ aN
      have ft:=setRow_heap w (R b).cE co (kB co ((R b).eb+(Y+len*i.size)+0) (bY R l)) dN (bS,uA) bh
      have dJ:=qF (R:=R) (pl:=⟨(R b).cE,(R b).eb+Y,(R b).room-Y⟩) nV
      have aAe:(fP++l).length=(len+n)*i.size:=by rw[ZM,abs,aC,Ye]
      have CT:jT C (gn R j ⟨(R b).cE,(R b).eb+Y,(R b).room-Y⟩) (add af j) (.cells (V.ofList (fP++l) 0 .nil) (fP++l).length (.grow [])) ⟨(R b).cE,(R b).eb+Y,(R b).room-Y⟩ (w.setRow (R b).cE (kB co ((R b).eb+(Y+len*i.size)+0) (bY R l))):=by
       refine⟨_,dN,bS,uA,ft,⟨by rw[xo];exact Fk,by simp only;omega,by rw[xo];simp only;omega⟩,by rw[xo];simp only;omega,λaa v bB=> ?_⟩
       rw[kw]at bB
       obtain⟨b4,b7⟩:=axP (R:=R) (af:=af) (co:=co) (eb:=(R b).eb) (Y:=Y) (p:=(R b).eb+(Y+len*i.size)+0) (c:=c) (B:=0) Zo Zo wN is (λaa v bB=>by
        have uB:aa<len*i.size:=zt (Zb.1 bB).1
        have:=(V.P8 _ _ _ _ mQ).2 aa uB
        rw[bB]at this
        have:=(a4 _ _ this).1
        rw[<-ZJ]at this
        exact this) aa v bB
       exact⟨by rw[p4 dJ b7];exact b4,oE (λ_ a=> .inl a) v b7⟩
      have RI:=aa2.share (bW:=w.setRow (R b).cE (kB co ((R b).eb+(Y+len*i.size)+0) (bY R l))) (pl:=⟨(R b).cE,(R b).eb+Y,(R b).room-Y⟩) (cT:= .cells (V.ofList (fP++l) 0 .nil) (fP++l).length (.grow [])) AQ rfl sh CT
       ⟨λf0 aV b8 a=>(by cases a;simp),λf0 aV iR a=>(by cases a;exact Gm)⟩
       (λx dr ah dE to=>by
        exfalso
        by_cases J:x=b
        ·subst J;rw[abl]at ah;cases ah
        ·rw[Rh x J]at ah
         split at ah
         ·cases ah
         ·rename_i Rs
          rcases(Z.sep b x _ dr bl ah aM dE (λam=>J am.symm) aj to.symm).1 with ⟨_,_,_,_,am,_⟩|⟨_,_,b8,f0,aV,am,_,bp,_⟩|⟨_,_,_,_,_,_,am,_⟩
          ·cases am
          ·cases am;exact Rs bp
          ·cases am)
      refine⟨_,_,_,rfl,gn R j ⟨(R b).cE,(R b).eb+Y,(R b).room-Y⟩,add af j,_, ?_, .inr rfl,RI,⟨dJ,λ_ a=> .inl a,λx a=>a.elim .inl (λa=> .inr Zo),λx ah c1=> ?_,O3 AQ _ _⟩,Yf _⟩
      ·simp only[aQ,k1,ZY,Y2]
       refine KF b6 Q di hH aJ cv bQ ml ?_
       rw[qR,ZJ]
       exact RS
      ·rw[fR _ Z.a8,Zg Zo,Mi x ah]
     ·have Iv:(Builtin.firstCells i.size len (.slice (some ⟨(R b).cE,(R b).eb+Y,none⟩) len (((R b).room-Y)/i.size))).run C.P w.drew= .ok (bY R fP).toArray w.drew:=by
       obtain⟨Q6,_⟩:=KN Z.drew aM ib mQ
       simp[Builtin.firstCells,Q6]
      obtain⟨db,dB,bW,eW,e5,hy,og⟩:=ξ (ty:=ty) Z ew (s:= .en b Y len i.size) (bS:=fP) tp b6 Q di hH aJ cv eN nj bQ is aC wN abs ml rfl Iv wU []
       nq aa2 (λx ah=> .inl (jx x ah)) (λx ah RW=>by rw[jx x ah,Mi x RW]) Zs
      exact⟨_,_,_,rfl,db,dB,bW,eW,e5,hy,og,Yf _⟩
    ·simp at a
 ·simp at a
end
end
end
end Go.bi

namespace Go.bi
open Go.RowKit (Below)
section
variable{C:aZ}{R db:c6}{af dB:Nat->Prop}{h T:V an}{j au bj:Nat}{w bW:World}
section
variable{dg:Array TypeId}{ty st ij ee:TypeId}{i:TypeInfo}{dE:TypeDesc}{X bt:Value}{n:Nat}{l:List F}
def ο(Z:dl C R af h j bj w)(ew:bj<=w.heap.size){s:F}{base:Option Addr}{gW kW:Nat}{bS:List F}{res:d4}(tp:bt.cells.size=i.size)
 (b6:dg[0]? =some st)(Q:dg[1]? =some ij)(di:C.P.underlying st=some (.slice ee))(hH:C.P.underlying ij=some dE)(aJ:C.P.info? ee=some i)(cv:i.zero=some bt)(eN:0<i.size)(nj:i.bytes<=65536)
 (bQ:xB C.P w dE X i bt n (bY R l).toArray)(is:es af l)(aC:l.length=n*i.size)(P9:es af bS)(nU:bS.length=gW*i.size)(aL:¬(gW+n<=kW))(aD:aQ R s= .slice base gW kW)
 (bl:(Builtin.firstCells i.size gW (.slice base gW kW)).run C.P w.drew= .ok (bY R bS).toArray w.drew)(a:s7 C h j (gW+n) i.size (bS++l)=some res):
 Ko C R af h j bj w (Builtin.append_ dg ty #[aQ R s,X]) res:=by
 obtain⟨wU,rfl⟩:=ν a
 obtain⟨db,dB,bW,eW,e5,hy,og⟩:=ξ (ty:=ty) Z ew (T:=h) tp b6 Q di hH aJ cv eN nj bQ is aC P9 nU aL aD bl wU (a2:=bn C h j (some (.cells (V.ofList (bS++l) 0 .nil) (bS++l).length (.grow [])))) []
  (by rw[fR _ Z.a8,Zq rfl]) Z (λx ah=> .inl (by rw[fR _ Z.a8,Zg ah])) (λx ah _=>by rw[fR _ Z.a8,Zg ah]) Zs
 exact⟨_,_,_,rfl,db,dB,bW,eW,e5,hy,og,Yf _⟩
def Wu(Z:dl C R af h j bj w)(ew:bj<=w.heap.size)(tp:bt.cells.size=i.size){s:F}{res:d4}
 (b6:dg[0]? =some st)(Q:dg[1]? =some ij)(di:C.P.underlying st=some (.slice ee))(hH:C.P.underlying ij=some dE)(aJ:C.P.info? ee=some i)(cv:i.zero=some bt)(eN:0<i.size)(nj:i.bytes<=65536)
 (bQ:xB C.P w dE X i bt n (bY R l).toArray)(is:es af l)(aC:l.length=n*i.size)(aq:cj af s)(gU:0<n)(a:xM C h j i.size n l s=some res):
 Ko C R af h j bj w (Builtin.append_ dg ty #[aQ R s,X]) res:=by
 unfold xM at a
 split at a
 ·refine ο (gW:=0) (kW:=0) (bS:=[]) (base:=none) Z ew tp b6 Q di hH aJ cv eN nj bQ is aC trivial Zs Zo rfl ?_ (by simpa using a)
  simp[Builtin.firstCells,bY]
 ·rename_i b Y len cap
  rw[fw]at a
  split at a
  ·rename_i ml
   have ml:=jf ml
   split at a
   ·rename_i T bJ
    simp at a;subst a
    obtain⟨bW,bV,cw,c4⟩:=OT Z (de:=j) aq is bJ
    refine⟨_,_,_,rfl,R,af,bW, ?_,aq,cw,c4,Zi _⟩
    simp only[aQ]
    refine KF b6 Q di hH aJ cv bQ ml ?_
    rw[qR,ZJ]
    exact bV
   ·simp at a
  ·rename_i ml
   have ml:¬(len+n<=cap):=λam=>ml (by simpa using am)
   split at a
   ·rename_i fP mQ
    obtain⟨bV,cw⟩:=amM (a1:=i.size) (cap:=cap) Z aq mQ
    exact ο Z ew tp b6 Q di hH aJ cv eN nj bQ is aC cw (Pg mQ) ml rfl bV a
   ·simp at a
 ·rename_i b Y len xs
  simp only[e0]at a
  obtain⟨bx,a⟩:=a
  have bx:=Zj bx
  subst bx
  exact akl Z ew tp b6 Q di hH aJ cv eN nj bQ is aC aq gU a
 ·simp at a
end
def Ok(C:aZ)(R:c6)(af:Nat->Prop)(h:V an)(j bj:Nat)(w:World)(s:Sem Value)(res:d4):Prop:=
 Ko C R af h j bj w s res\/∃v,res= .val v/\cj af v/\s.run C.P w= .ok (aQ R v) w
def Wh(Z:dl C R af h j bj w)(ew:bj<=w.heap.size){dg:Array TypeId}{ty st ij:TypeId}{dE:TypeDesc}{s x:F}{res:d4}
 (b6:dg[0]? =some st)(Q:dg[1]? =some ij)(hH:C.P.underlying ij=some dE)(wK:dE= .string\/∃J,dE= .slice J)(aq:cj af s)(fy:cj af x)(a:Em C h j st s x=some res):
 Ok C R af h j bj w (Builtin.append_ dg ty #[aQ R s,aQ R x]) res:=by
 unfold Em at a
 split at a
 ·rename_i ee di
  split at a
  ·rename_i i aJ
   split at a
   ·rename_i n l j1
    simp only[e0,Zp]at a
    obtain⟨⟨⟨eN,nj⟩,MQ⟩,a⟩:=a
    have eN:=k4 eN
    have nj:=jf nj
    obtain⟨bt,cv,tp⟩:∃bt,i.zero=some bt/\bt.cells.size=i.size:=by
     unfold afJ at MQ
     split at MQ
     ·rename_i bt cv
      exact⟨bt,cv,Zj MQ⟩
     ·simp at MQ
    obtain⟨bQ,is,aC⟩:=axe (bt:=bt) Z fy wK j1
    rw[hD]at a
    split at a
    ·rename_i aL
     subst aL
     have:l=[]:=List.length_eq_zero_iff.1 (by rw[aC];simp)
     subst this
     obtain⟨v,eW,e5,hy⟩:=Wv (ty:=ty) Z b6 Q di hH aJ eN (akm bQ) aq a
     exact .inr ⟨v,eW,e5,hy⟩
    ·exact .inl (Wu Z ew tp b6 Q di hH aJ cv eN nj bQ is aC aq Zo a)
   ·simp at a
  ·simp at a
 ·simp at a
def ajV(Z:dl C R af h j bj w)(ew:bj<=w.heap.size){dg:Array TypeId}{ty st ij:TypeId}{am:IntKind}{s x:F}{n:Nat}{res:d4}
 (b6:dg[0]? =some st)(Q:dg[1]? =some ij)(hH:C.P.underlying ij=some (.int am))(aq:cj af s)(ah:mU x=some n)(a:KA C h j st s n=some res):
 Ok C R af h j bj w (Builtin.append_ dg ty #[aQ R s,aQ R x]) res:=by
 obtain⟨B,rfl⟩:=Dt ah
 unfold KA at a
 split at a
 ·rename_i ee di
  split at a
  ·rename_i i bt aJ k9
   simp only[e0,Zp]at a
   obtain⟨⟨⟨⟨eN,nj⟩,FM⟩,yv⟩,a⟩:=a
   have eN:=k4 eN
   have nj:=jf nj
   have yv:=jf yv
   have FM:bt.cells.length=i.size:=Zj FM
   have cv:i.zero=some (aQ R bt)/\cj af bt:=by
    unfold sL at k9
    rw[aJ]at k9
    simp only at k9
    split at k9
    ·rename_i ae be
     obtain⟨J,g⟩:=Np (R:=R) (af:=af) k9
     exact⟨by rw[be,J],g⟩
    ·simp at k9
   rw[hD]at a
   split at a
   ·rename_i aL
    subst aL
    obtain⟨v,eW,e5,hy⟩:=Wv (ty:=ty) Z b6 Q di hH aJ eN (.inr ⟨⟨am,rfl⟩,B,rfl⟩) aq a
    exact .inr ⟨v,eW,e5,hy⟩
   ·rename_i aL
    have bQ:xB C.P w (.int am) (aQ R (.int B (Int.ofNat n))) i (aQ R bt) n (bY R (kz n bt.cells)).toArray:=
     .inr ⟨⟨am,rfl⟩,⟨B,rfl⟩,yv,nj,zt (Nat.mul_pos (Nat.pos_of_ne_zero aL) eN),(ayQ R bt n).symm⟩
    exact .inl (Wu Z ew (by rw[t2];simp[jG,FM]) b6 Q di hH aJ cv.1 eN nj bQ (Qc (t6 cv.2) n) (by rw[DO,FM]) aq Zo a)
  ·simp at a
 ·simp at a
end
end Go.bi

namespace Go.bi
open Go.RowKit (Below)
section
variable{C:aZ}{R db:c6}{af dB:Nat->Prop}{h T:V an}{j au bj:Nat}{w bW:World}
def mG(C:aZ)(R:c6)(af:Nat->Prop)(h:V an)(j bj:Nat)(w:World)(s:Sem Value)(v:F)(T:V an)(au:Nat):Prop:=
 ∃db dB bW,s.run C.P w= .ok (aQ db v) bW/\cj dB v/\dl C db dB T au bj bW/\il C j R af h bj w db dB T bW/\j<=au
def mG.done{s:Sem Value}{v:F}(a:mG C R af h j bj w s v T au):Aa C R af h j bj w (do pure (.value (<-s))) v T au:=by
 obtain⟨db,dB,bW,Q,U,ar,aK,bH⟩:=a
 exact⟨db,dB,bW, .value (aQ db v),by simp[Q], .inl rfl,U,ar,aK,bH⟩
def mG.same(Z:dl C R af h j bj w){s:Sem Value}{v:F}(a:s.run C.P w= .ok (aQ R v) w)(g:cj af v):mG C R af h j bj w s v h j:=
 ⟨R,af,w,a,g,Z, .refl,Zi _⟩
def JA(Z:dl C R af h j bj w)(ew:bj<=w.heap.size){s:Sem Value}{v:F}{cT:an}{Y:Obj}(aD:s.run C.P w= .ok (aQ (gn R j ⟨w.heap.size,0,0⟩) v) (w.alloc Y))(fk:cj (add af j) v)
 (bl:jT C (gn R j ⟨w.heap.size,0,0⟩) (add af j) cT ⟨w.heap.size,0,0⟩ (w.alloc Y))(tk:v6 C (add af j) cT):mG C R af h j bj w s v (bn C h j (some cT)) (j+1):=by
 have aj:=Z.a8
 refine⟨_,_,_,aD,fk,Z.alloc aj (YA _) (Yf _) (rl Z) ew rfl (by rw[fR _ aj,Zq rfl]) (λx ah=> .inl (by rw[fR _ aj,Zg ah])) bl tk, ?_,Yf _⟩
 exact⟨qF (rl Z),λ_ a=> .inl a,λx a=>a.elim .inl (λa=> .inr Zo),λx ah aC=>by rw[fR _ aj,Zg Zo],Below.alloc (Below.refl bj w) ew Y⟩
def Jz{Y:an}{B:Nat->F}{res:d4}(a:mV C h j Y B=some res):res= .fh (B j) (bn C h j (some Y)) (j+1):=by
 unfold mV at a
 simp only[lS,g8,Zf]at a
 exact a.symm
def aBd(Z:dl C R af h j bj w){t:Nat}{m B:Operand}{ay:Operand->Value}{eA:Operand->Option F}{res:d4}(cA:jd R af ay eA [m,B])(a:Ia C t m B h j eA=some res):
 ∃v T,res= .fh v T j/\mG C R af h j bj w (Instr.mapEntry t (ay m) (ay B)) v T j:=by
 simp[Ia]at a
def azl(Z:dl C R af h j bj w){t:Nat}{m s x:Operand}{ay:Operand->Value}{eA:Operand->Option F}{res:d4}(cA:jd R af ay eA [m,s,x])(a:H2 C m s x h j eA=some res):
 ∃T bW,res= .fh undef T j/\(Instr.entryStore t (ay m) (ay s) (ay x)).run C.P w= .ok () bW/\dl C R af T j bj bW/\il C j R af h bj w R af T bW:=by
 simp[H2]at a
def atR(Z:dl C R af h j bj w)(ew:bj<=w.heap.size){t:Nat}{l c:Operand}{ay:Operand->Value}{eA:Operand->Option F}{res:d4}(cA:jd R af ay eA [l,c])(a:H9 C t l c h j eA=some res):
 ∃v T au,res= .fh v T au/\mG C R af h j bj w (Instr.makeSlice t (ay l) (ay c)) v T au:=by
 unfold H9 at a
 split at a
 ·rename_i ee aA9 xS be aC aB
  obtain⟨s1,_⟩:=cA l Zs _ aC
  obtain⟨alZ,_⟩:=cA c Zs _ aB
  rw[s1,alZ]
  split at a
  ·rename_i Sy k5 i bt eD wI aJ cv
   obtain⟨cD,rfl⟩:=Dt eD
   obtain⟨cp,rfl⟩:=Dt wI
   simp only[e0,Zp]at a
   obtain⟨⟨⟨⟨⟨Q,U⟩,ar⟩,aK⟩,bH⟩,a⟩:=a
   have Q:=jf Q
   have U:=jf U
   have ar:=jf ar
   have aK:=k4 aK
   have bH:bt.cells.length=i.size:=Zj bH
   have:=Jz a;subst this
   obtain⟨fW,fv⟩:=DQ cv R af w
   refine⟨_,_,_,rfl,JA Z ew (Y:= .cells (bY R (kz k5 bt.cells)).toArray ee) ?_ (.inr rfl) ?_ ⟨λ_ _ _ a=>(by cases a),λ_ _ _ a=>(by cases a;rw[<-bH, <-DO];exact Gm)⟩⟩
   ·have mE:=wrap_small (n:=Sy) Zo
    have pe:=wrap_small U
    have nQ:¬((281474976710656:Int)<(i.bytes:Int)*(k5:Int)):=by
     rw[Int.mul_comm];exact Pa U ar
    have wG:¬((k5:Int)<0):=Zo
    have mQ:¬((Sy:Int)<0):=Zo
    have Ri:¬((k5:Int)<(Sy:Int)):=Zo
    have Fz:=ael R bt.cells i.size k5 bH (if k5*i.size=0 then #[]else(aQ R bt).cells) (λdD=>by rw[Zg dD,t2])
    by_cases k9:k5*i.size=0
    ·rw[Zq k9]at Fz
     rw[<-Fz]
     simp[Instr.makeSlice,run_underlying be,aQ,asInt,asIntOf,typeInfo,aJ,mE,pe,nQ,wG,mQ,Ri,sizeOf,k9,newRow,k1]
    ·rw[Zg k9]at Fz
     rw[<-Fz]
     simp[Instr.makeSlice,run_underlying be,aQ,asInt,asIntOf,typeInfo,aJ,mE,pe,nQ,wG,mQ,Ri,sizeOf,k9,newRow,k1,fW]
   ·have g:=Qc (t6 fv) k5
    have:=KM (C:=C) (R:=gn R j ⟨w.heap.size,0,0⟩) (af:=add af j) (qZ (λ_ a=> .inl a) _ g) ee 0 w
    rw[xT (qF (rl Z)) g,DO,bH]at this
    exact this
  ·simp at a
 ·simp at a
def atP(Z:dl C R af h j bj w)(ew:bj<=w.heap.size){t:Nat}{r:Operand}{ay:Operand->Value}{eA:Operand->Option F}{res:d4}(cA:jd R af ay eA [r])(a:H8 C t r h j eA=some res):
 ∃v T au,res= .fh v T au/\mG C R af h j bj w (Instr.makeMap t (some (ay r))) v T au:=by
 unfold H8 at a
 split at a
 ·rename_i jA Ax am n be ah
  obtain⟨J,_⟩:=cA r Zs _ ah
  have:=Jz a;subst this
  refine⟨_,_,_,rfl,JA Z ew (Y:= .map #[] 0) ?_ (.inr rfl) ⟨#[],ux _ _,rfl,Zs⟩ ⟨λ_ _ _ a=>(by cases a),λ_ _ _ a=>(by cases a)⟩⟩
  simp[Instr.makeMap,run_underlying be,J,aQ,asInt,asIntOf,k1]
 ·simp at a
def avR(Z:dl C R af h j bj w)(ew:bj<=w.heap.size){t:Nat}{x:Operand}{ay:Operand->Value}{eA:Operand->Option F}{res:d4}(cA:jd R af ay eA [x])(a:Ic C t x h j eA=some res):
 ∃v T au,res= .fh v T au/\mG C R af h j bj w (Instr.range t (ay x)) v T au:=by
 have dJ:=qF (R:=R) (pl:=⟨w.heap.size,0,0⟩) (rl Z)
 unfold Ic at a
 split at a
 ·rename_i s be ah
  obtain⟨J,g⟩:=cA x Zs _ ah
  have:=Jz a;subst this
  refine⟨_,_,_,rfl,JA Z ew (Y:= .stringIter (fX s) 0) ?_ (.inr rfl) ⟨rfl,ux _ _,g⟩ ⟨λ_ _ _ a=>(by cases a),λ_ _ _ a=>(by cases a)⟩⟩
  simp[Instr.range,run_underlying be,J,aQ,k1]
 ·rename_i jA Ax be ah
  obtain⟨J,g⟩:=cA x Zs _ ah
  have:=Jz a;subst this
  refine⟨_,_,_,rfl,JA Z ew (Y:= .mapIter none 0 #[] 0) ?_ (.inr rfl) ⟨rfl,ux _ _,Zs⟩ ⟨λ_ _ _ a=>(by cases a),λ_ _ _ a=>(by cases a)⟩⟩
  simp[Instr.range,run_underlying be,J,aQ,k1]
 ·rename_i jA Ax r be ah
  obtain⟨J,g⟩:=cA x Zs _ ah
  split at a
  ·rename_i cb eX bl
   have:=Jz a;subst this
   obtain⟨co,bh,cl,a3,a4⟩:=Js Z g bl
   refine⟨_,_,_,rfl,JA Z ew (Y:= .mapIter (some (R r).cE) eX #[] eX) ?_ (.inr rfl) ⟨rfl, ?_,λb aj=>by cases aj;exact .inl g⟩ ⟨λ_ _ _ a=>(by cases a),λ_ _ _ a=>(by cases a)⟩⟩
   ·simp[Instr.range,run_underlying be,J,aQ,k1,bh]
   ·rw[ux];simp only[ZV,dJ r g]
  ·simp at a
 ·simp at a
end
end Go.bi

namespace Go.bi
open Go.RowKit (Below)
section
variable{C:aZ}{R db:c6}{af dB:Nat->Prop}{h T:V an}{j au bj:Nat}{w bW:World}
def SH(n:Nat):∀l,oa n l=l.contains n:=by
 intro l
 induction l with
 |nil=>rfl
 |cons K l ak=>simp only[oa,List.contains_cons,ak];congr 1;rw[Yg,Y0];exact⟨Zj,λa=>by rw[a];exact zb _⟩
def Oz(C:aZ)(R:c6)(af:Nat->Prop)(h:V an)(j bj:Nat)(w:World)(s:Sem Value)(res:d4):Prop:=match res with
 | .val v=>mG C R af h j bj w s v h j
 | .fh v T au=>mG C R af h j bj w s v T au
 | .fork l=>∃v T,(v,T)∈l/\mG C R af h j bj w s v T j
 |_=>False
def auj(Z:dl C R af h j bj w){eI:Operand}{yI:Bool}{ty:TypeId}{ay:Operand->Value}{eA:Operand->Option F}{res:d4}(cA:jd R af ay eA [eI])(a:wB C eI yI h j eA=some res):
 Oz C R af h j bj w (Instr.next (ay eI) yI ty) res:=by
 unfold wB at a
 split at a
 ·rename_i r ah
  obtain⟨J,mO⟩:=cA eI Zs _ ah
  simp only[e0]at a
  obtain⟨Ir,a⟩:=a
  have aj:C.a8<=r:=jf Ir
  rw[J]
  split at a
  ·rename_i s pos bl
   obtain⟨lE,Q,U⟩:=Z.obj r _ bl mO
   have ab:(getObj (R r).cE).run C.P w= .ok (.stringIter (fX s) pos) w:=by simp[getObj,Sem.run,Q]
   have eN:(fX s).size=s.length:=by simp[fX,ByteArray.size]
   rw[fw]at a
   split at a
   ·rename_i az
    have az:=k4 az
    rw[pL]at a
    split at a
    ·rename_i c aB
     simp only[e0]at a
     obtain⟨QR,a⟩:=a
     have QR:=k4 QR
     obtain⟨rfl,_⟩:=Tq a
     obtain⟨bW,bV,cw,c4⟩:=putObj Z (de:=j) (ob:= .oh s (pos+1)) (o':= .stringIter (fX s) (pos+1)) aj mO bl ⟨Zs,Zs⟩ Q Zs (λbW sh=>⟨lE,sh,U⟩) ⟨λ_ _ _ a=>(by cases a),λ_ _ _ a=>(by cases a)⟩
     refine⟨R,af,bW, ?_,⟨trivial,trivial,trivial,trivial⟩,cw,c4,Zi _⟩
     have c1:pos<(fX s).size:=by rw[eN];exact az
     have aaK:((fX s)[pos]'c1).toNat=c:=by
      show((fX s).data[pos]).toNat=c
      have aD:s[pos]=c:=by
       rw[Ze az]at aB
       exact Yx aB
      simp[fX,aD];omega
     have L4:=decode_ascii (fX s) pos c1 (by rw[aaK];exact QR)
     rw[aaK]at L4
     simp[Instr.next,aQ,bY,lE,ab,eN,az,L4,bV,goInt]
    ·simp at a
   ·rename_i az
    have az:¬pos<s.length:=λam=>az (by simp[Nat.blt];omega)
    simp at a;subst a
    refine mG.same Z ?_ ⟨trivial,trivial⟩
    simp[Instr.next,aQ,bY,lE,ab,eN,az]
  ·rename_i vw seen aeM bl
   obtain⟨lE,Q,U⟩:=Z.obj r _ bl mO
   have ab:(getObj (R r).cE).run C.P w= .ok (.mapIter none vw seen.toArray aeM) w:=by simp[getObj,Sem.run,Q]
   simp at a;subst a
   refine mG.same Z ?_ ⟨trivial,trivial⟩
   simp[Instr.next,aQ,bY,lE,ab]
  ·simp at a
 ·simp at a
end
end Go.bi

namespace Go.bi
open Go.RowKit (Below)
section
variable{C:aZ}{R db:c6}{af dB:Nat->Prop}{h T:V an}{j au bj:Nat}{w bW:World}
def am1(w:World)(co:Array Value)(J:TypeId)(n:Nat):(w.alloc (.cells co J)).freeze ⟨w.heap.size,n,none⟩ 1=w.alloc (.cells co J (n,n+1)):=by
 unfold World.freeze
 rw[Zg Zd]
 show({w with heap:=(w.heap.push (.cells co J)).modify w.heap.size _}:World)={w with heap:=w.heap.push (.cells co J (n,n+1))}
 congr 1
 apply Array.ext_getElem?
 intro B
 rw[Y4,Array.getElem?_push,Array.getElem?_push]
 by_cases aN:w.heap.size=B
 ·subst aN;simp
 ·rw[Zg aN,Zg (λJ=>aN J.symm),Zg (λJ=>aN J.symm)]
def am0{p:Nat}{co:Array Value}{ty:TypeId}{bS aJ:Nat}(a:w.heap[p]? =some (.cells co ty (bS,aJ)))(n:Nat):
 (w.freeze ⟨p,n,none⟩ 1).heap[p]? =some (.cells co ty (if bS==aJ then(n,n+1)else(min bS n,max aJ (n+1))))/\(∀B,B≠p->(w.freeze ⟨p,n,none⟩ 1).heap[B]? =w.heap[B]?):=by
 unfold World.freeze
 rw[Zg Zd]
 constructor
 ·simp only[Y4,ZD,a,ZV]
 ·intro B aN
  simp only[Y4]
  rw[Zg (λJ=>aN J.symm)]
def axH(Z:dl C R af h j bj w)(ew:bj<=w.heap.size){s d:Nat}{x:Operand}{ay:Operand->Value}{eA:Operand->Option F}{res:d4}(cA:jd R af ay eA [x])(a:Ig C s d x h j eA=some res):
 Oz C R af h j bj w (convert s d (ay x)) res:=by
 unfold Ig at a
 split at a
 ·rename_i J l aD aM ah
  obtain⟨ex,g⟩:=cA x Zs _ ah
  split at a
  ·rename_i bx
   obtain⟨gl,rfl⟩:=ν a
   rw[ex]
   have eN:(fX l).size=l.length:=by simp[fX,ByteArray.size]
   have aAN:(fX l).data.size=l.length:=by simp[fX]
   have aB:=aeO R l g
   have anq:es af (l.map λn=>F.int .u8 (Int.ofNat n)):=by
    rw[uk];intro v bB;obtain⟨e,_,rfl⟩:=ZT.1 bB;trivial
   obtain⟨cap,ml,AS⟩:∃cap,l.length<=cap/\(choose (.appendCap l.length 0 J)).run C.P w= .ok cap w.drew:=
    ⟨l.length+(w.tape w.drawn (.appendCap l.length 0 J))%(2^63-l.length),Zo,by simp[Question.forced,Question.cut]⟩
   have MH:(l.map λn=>F.int .u8 (Int.ofNat n)).length+(Array.replicate (cap-l.length) (Value.int .u8 0)).size=cap*1:=by simp;omega
   have Io:=π (C:=C) (R:=R) (w:=w) (j:=j) anq (rl Z) MH J []
   have CT:jT C (gn R j ⟨w.heap.size,0,cap*1⟩) (add af j) (.cells (V.ofList (l.map λn=>F.int .u8 (Int.ofNat n)) 0 .nil) (l.map λn=>F.int .u8 (Int.ofNat n)).length (.grow [])) ⟨w.heap.size,0,cap*1⟩
    (w.drew.alloc (.cells ((bY R (l.map λn=>F.int .u8 (Int.ofNat n))).toArray++Array.replicate (cap-l.length) (Value.int .u8 0)) J (cap,cap+1))):=by
    obtain⟨co,ty,bS,aJ,c0,dL,ef,hQ⟩:=Io
    have O2:=ux w.drew (.cells ((bY R (l.map λn=>F.int .u8 (Int.ofNat n))).toArray++Array.replicate (cap-l.length) (Value.int .u8 0)) J)
    have arD:w.drew.heap.size=w.heap.size:=rfl
    rw[arD]at O2
    rw[O2]at c0
    cases c0
    refine⟨_,J,cap,cap+1,ux w.drew _,⟨.inr ?_,dL.2.1,dL.2.2⟩,ef,hQ⟩
    simp[jG];omega
   refine⟨gn R j ⟨w.heap.size,0,cap*1⟩,add af j,_, ?_, .inr rfl,Z.drew.alloc Z.a8 (YA _) (Yf _) (rl Z) ew rfl (by rw[fR _ Z.a8,Zq rfl]) (λx ah=> .inl (by rw[fR _ Z.a8,Zg ah])) CT
    ⟨λ_ _ _ a=>(by cases a;simp),λ_ _ _ a=>(by cases a;exact Gm)⟩,PK Z ew _ (λx ah _=>by rw[fR _ Z.a8,Zg ah]),Yf _⟩
   have ars:((bY R (l.map λn=>F.int .u8 (Int.ofNat n))).toArray++Array.replicate (cap-l.length) (Value.int .u8 0)).size=cap:=by simp[jG];omega
   have pG:=am1 w.drew ((bY R (l.map λn=>F.int .u8 (Int.ofNat n))).toArray++Array.replicate (cap-l.length) (Value.int .u8 0)) J cap
   have Rd:w.drew.heap.size=w.heap.size:=rfl
   rw[Rd]at pG
   have RQ:(w.drew.alloc (.cells ((bY R (l.map λn=>F.int .u8 (Int.ofNat n))).toArray++Array.replicate (cap-l.length) (Value.int .u8 0)) J)).shape? w.heap.size=some (J,cap):=by
    have:=ux w.drew (.cells ((bY R (l.map λn=>F.int .u8 (Int.ofNat n))).toArray++Array.replicate (cap-l.length) (Value.int .u8 0)) J)
    rw[Rd]at this
    simp only[World.shape?,this,ars]
   simp only[convert,Sem.run_bind,run_underlying aD,run_underlying aM,run_underlying bx,Result.andThen_ok,aQ,Conv.stringToBytes,eN,AS,aB,newRow,run_newObj_alloc,Rd,Sem.run_pure,markStringish,run_shape,RQ,run_freeze,pG,
    k1,ZI,Y2,Yj,Nat.div_one]
  ·simp at a
 ·rename_i s1 J b Y len cap aD aM ah
  obtain⟨ex,g⟩:=cA x Zs _ ah
  split at a
  ·rename_i bx
   simp only[e0,Zp]at a
   obtain⟨⟨RP,Ir⟩,a⟩:=a
   have RP:s=d:=Zj RP
   subst RP
   have aj:C.a8<=b:=jf Ir
   rw[ex]
   have fin:∀(c:V F) (n:Nat) (st:nF),ab C h b=some (.cells c n st)->(st= .own\/st= .marked)->∀T,ab C T b=some (.cells c n .marked)->(∀x,x≠b->ab C T x=ab C h x)->
    mG C R af h j bj w (convert s s (aQ R (.slice b Y len cap))) (.slice b Y len cap) T j:=by
    intro c n st bl di T et dI
    obtain⟨co,ty,bS,aJ,bh,cl,a3,a4⟩:=Z.obj b _ bl g
    have mj:Km (.cells c n st):=by rcases di with rfl|rfl<;>exact⟨Zs,Zs⟩
    have Fk:bS=aJ\/co.size<=bS:=by rcases di with rfl|rfl;exact .inl cl;exact cl
    obtain⟨eM,eZ⟩:=am0 bh co.size
    have AQ:=Z.base b _ aj bl g
    have IJ:∃re kP,(if bS==aJ then(co.size,co.size+1)else(min bS co.size,max aJ (co.size+1)))=(re,kP)/\co.size<=re:=by
     by_cases am:bS=aJ
     ·exact⟨_,_,by rw[Zq (by simpa using am)],Zi _⟩
     ·refine⟨_,_,by rw[Zg (by simpa using am)], ?_⟩
      have:=Fk.resolve_left am
      omega
    obtain⟨re,kP,bD,cF⟩:=IJ
    rw[bD]at eM
    refine⟨R,af,w.freeze ⟨(R b).cE,co.size,none⟩ 1, ?_,g,Z.put aj g bl et (λx ah=> .inl (dI x ah)) (λB aN=>eZ B aN) ?_ ⟨co,ty,re,kP,eM, .inr cF,a3,a4⟩ ⟨λ_ _ _ a=>(by cases a),λ_ _ _ a=>(by cases a;exact(Z.fm b _ bl g).2 _ _ _ rfl)⟩, ?_,Zi _⟩
    ·have RQ:w.shape? (R b).cE=some (ty,co.size):=Th bh
     have ao7:(s==s)=true:=by simp
     simp only[convert,Sem.run_bind,run_underlying aD,Result.andThen_ok,aQ]
     rw[aD]at aM
     cases aM
     simp only[ao7,run_underlying bx,Sem.run_bind,Result.andThen_ok,markStringish,run_shape,RQ,run_freeze,Sem.run_pure]
    ·intro x dr dD ah dE e3
     rw[dI x dD]at ah
     exact Z.alone aj g bl mj x dr dD ah dE e3
    ·refine⟨λ_ _=>rfl,λ_ a=>a,λ_ a=> .inl a,λx ah _=>dI x (λJ=>ah (by rw[J];exact g)), ?_⟩
     refine⟨?_, ?_, ?_, ?_,λB aN=>eZ B Zo⟩<;>simp[World.freeze]
   split at a
   ·rename_i c n bl
    simp only[g8,Zf]at a
    subst a
    exact fin c n .own bl (.inl rfl) _ (by rw[fR _ aj,Zq rfl]) (λx ah=>by rw[fR _ aj,Zg ah])
   ·rename_i c n bl
    simp only[Zf]at a
    subst a
    exact fin c n .marked bl (.inr rfl) h bl (λ_ _=>rfl)
   ·simp at a
  ·simp at a
 ·simp at a
end
end Go.bi

namespace Go.bi
open Go.RowKit (Below)
def im(C:aZ)(R:c6)(af:Nat->Prop)(h:V an)(j bj:Nat)(w:World)(s:Sem Next)(res:d4):Prop:=match res with
 | .val v=>Aa C R af h j bj w s v h j
 | .fh v T au=>Aa C R af h j bj w s v T au
 | .fork l=>∃v T,(v,T)∈l/\Aa C R af h j bj w s v T j
 | .enter f args=>s.run C.P w= .ok (.enter f (bY R args).toArray) w/\es af args
 | .known f args v=>C.hc f args=some v/\s.run C.P w=(callFunc f (bY R args).toArray).run C.P w/\es af args
 | .round l args=>s.run C.P w=(Instr.yield (R l).cE (bY R args).toArray).run C.P w/\es af args/\af l
 | .defer d=>s.run C.P w= .ok (.defer (lr R d)) w/\wu af d
 | .recover=>s.run C.P w= .ok .recover w
 | .panic v=>s.run C.P w= .halt (.panic (aQ R v)) w/\cj af v
section
variable{C:aZ}{R db:c6}{af dB:Nat->Prop}{h T:V an}{j au bj:Nat}{w bW:World}
def im.one{s:Sem Value}{res:d4}(a:Oz C R af h j bj w s res):im C R af h j bj w (do pure (.value (<-s))) res:=by
 cases res with
 |val v=>exact mG.done a
 |fh v T au=>exact mG.done a
 |fork l=>obtain⟨v,T,Q,U⟩:=a;exact⟨v,T,Q,U.done⟩
 |_=>exact a.elim
def im.fh{s:Sem Value}{res:d4}(a:∃v T au,res= .fh v T au/\mG C R af h j bj w s v T au):im C R af h j bj w (do pure (.value (<-s))) res:=by
 obtain⟨v,T,au,rfl,a⟩:=a
 exact a.done
def im.app(Z:dl C R af h j bj w){s:Sem Value}{res:d4}(a:Ok C R af h j bj w s res):im C R af h j bj w (do pure (.value (<-s))) res:=by
 rcases a with ⟨v,T,au,rfl,db,dB,bW,Q,U,ar,aK,bH⟩|⟨v,rfl,Q,U⟩
 ·exact mG.done ⟨db,dB,bW,Q,U,ar,aK,bH⟩
 ·exact mG.done (.same Z U Q)
def im.unit{s:Sem Unit}{res:d4}(a:∃T bW,res= .fh undef T j/\s.run C.P w= .ok () bW/\dl C R af T j bj bW/\il C j R af h bj w R af T bW):
 im C R af h j bj w (do s;pure .skip) res:=by
 obtain⟨T,bW,rfl,Q,U,ar⟩:=a
 exact⟨R,af,bW, .skip,by simp[Q], .inr ⟨rfl,rfl⟩,by trivial,U,ar,Zi _⟩
def im.congr{s fo:Sem Next}{res:d4}(a:s.run C.P w=fo.run C.P w)(B:im C R af h j bj w fo res):im C R af h j bj w s res:=by
 cases res<;>simp only[im,Aa]at B ⊢ <;>rw[a]<;>exact B
def Pe(j5:xG C.P){f:Nat}{args:List F}{res:d4}(g:es af args)(a:rK C f args=some res):im C R af h j bj w (callFunc f (bY R args).toArray) res:=by
 unfold rK at a
 split at a
 ·rename_i v bB
  simp at a;subst a
  exact⟨bB,rfl,g⟩
 ·split at a
  ·rename_i fn ch
   split at a
   ·rename_i c aj
    simp at a;subst a
    refine⟨?_,g⟩
    have aL:fn.name≠ "runtime.NumGoroutine":=by simpa using j5.num f fn ch (by simp[aj])
    simp[callFunc,ch,aL,aj]
   ·simp at a
  ·simp at a
def acx(j5:xG C.P){fn:Fn}{fH args:List F}{res:d4}(anz:Lr af fn)(Lm:es af fH)(h0:es af args)(a:Al C fn fH args=some res):
 im C R af h j bj w (invoke (.fn (mM R fn) (bY R fH).toArray) (bY R args).toArray) res:=by
 unfold Al at a
 split at a
 ·rename_i f
  have J:invoke (.fn (mM R (.func f)) (bY R fH).toArray) (bY R args).toArray=callFunc f (bY R (args++fH)).toArray:=by
   simp[invoke,mM,Cd]
  rw[J]
  exact Pe j5 (AE h0 Lm) a
 ·rename_i l
  simp at a;subst a
  exact⟨rfl,h0,anz⟩
 ·simp at a
def atZ(Z:dl C R af h j bj w)(j5:xG C.P){t:Nat}{v:F}{name:String}{args:List F}{res:d4}(fk:cj af v)(h0:es af args)(a:En C h t v name args=some res):
 im C R af h j bj w (callMethod (.iface t (aQ R v)) name (bY R args).toArray) res:=by
 obtain⟨B,aN⟩:∃B,C.P.types.size+Made.depth=B+1:=⟨C.P.types.size+99,rfl⟩
 have go:∀(f:Nat) (x:F),cj af x->(method (B+1) t (aQ R v) name).run C.P w= .ok (f,aQ R x) w->rK C f (x::args)=some res->im C R af h j bj w (callMethod (.iface t (aQ R v)) name (bY R args).toArray) res:=by
  intro f x fy bp aB
  refine(Pe (R:=R) (h:=h) (j:=j) (bj:=bj) (w:=w) j5 (args:=x::args) (show cj af x/\es af args from⟨fy,h0⟩) aB).congr ?_
  simp[callMethod,aN,bp,bY]
 unfold En at a
 split at a
 ·rename_i i aJ
  split at a
  ·rename_i m bp
   simp only[e0]at a
   obtain⟨az,a⟩:=a
   have Fu:m.path.toList=[]:=by simpa using az
   split at a
   ·rename_i f J ch be
    refine go f v fk ?_ a
    simp[method,typeInfo,aJ,bp,Fu,follow,ch,receiverAt,run_underlying be,Place.get]
   ·rename_i f J ch be
    split at a
    ·rename_i x ah
     obtain⟨Q,U⟩:=Wm Z fk ah
     refine go f x U ?_ a
     cases v with
     |ptr b Y=>
      simp only[Instr.loadAt,Instr.sureAddr,aQ,Sem.run_bind,Sem.run_pure,Result.andThen_ok]at Q
      have arx:∀(ij:TypeId) (K:Addr) (nm:String),Builtin.ssaWrapNilChk_ #[ij] ij #[.pointer (some K),strVal "",strVal nm]=pure (.pointer (some K)):=λ_ _ _=>rfl
      have nY:m.path= #[]:=by simpa using az
      simp[method,typeInfo,aJ,bp,nY,follow,ch,receiverAt,run_underlying be,Place.get,aQ,arx,asAddr,Q]
     |_=>simp[lp,cg,ao]at ah;split at ah<;>simp at ah
    ·simp at a
   ·rename_i f d aL ch be
    refine go f v fk ?_ a
    cases d<;>first
     |exact(aL _ rfl).elim
     |simp[method,typeInfo,aJ,bp,Fu,follow,ch,receiverAt,run_underlying be,Place.get]
   ·simp at a
  ·simp at a
 ·simp at a
def akR(Z:dl C R af h j bj w)(ew:bj<=w.heap.size)(j5:xG C.P){b:Builtin}{args:Array Operand}{dg:Array TypeId}{ty:TypeId}{alo:Array Bool}{ay:Operand->Value}{eA:Operand->Option F}{res:d4}
 (cA:jd R af ay eA args.toList)(a:HW C b args dg h j eA=some res):im C R af h j bj w (builtin b dg ty alo (args.map ay)) res:=by
 have Ev:∀{t:Nat}{rest:List Nat},dg.toList=t::rest->dg[0]? =some t:=λaE=>by rw[<-ZS,aE];rfl
 have O0:∀{t ae:Nat}{rest:List Nat},dg.toList=t::ae::rest->dg[1]? =some ae:=λaE=>by rw[<-ZS,aE];rfl
 unfold HW at a
 split at a
 ·rename_i s x ah
  obtain⟨bh,cl⟩:=wb cA ah
  rw[bh]
  split at a
  ·rename_i st ij rest aE
   split at a
   ·rename_i am hH
    split at a
    ·rename_i n aL
     exact im.app Z (ajV (ty:=ty) Z ew (Ev aE) (O0 aE) hH cl.1 aL a)
    ·simp at a
   ·rename_i J hH
    exact im.app Z (Wh (ty:=ty) Z ew (Ev aE) (O0 aE) hH (.inr ⟨J,rfl⟩) cl.1 cl.2.1 a)
   ·rename_i hH
    exact im.app Z (Wh (ty:=ty) Z ew (Ev aE) (O0 aE) hH (.inl rfl) cl.1 cl.2.1 a)
   ·simp at a
  ·simp at a
 ·rename_i ah
  simp at a;subst a
  exact rfl
 ·simp at a
def ajW(Z:dl C R af h j bj w)(ew:bj<=w.heap.size)(j5:xG C.P){oper:Oper}{ay:Operand->Value}{eA:Operand->Option F}{res:d4}(cA:jd R af ay eA oper.op.operands.toList)
 (a:m7 oper.op C h j eA=some res):im C R af h j bj w (execOp ay oper) res:=by
 obtain⟨dst,op,type,pos,after,guard⟩:=oper
 have adm:∀t m B x,jd R af ay eA [m,B,x]->E9 C t m B x h j eA=some res->im C R af h j bj w (do Instr.mapUpdate t (ay m) (ay B) (ay x);pure .skip) res:=by
  intro t m B x cA a
  unfold E9 at a
  split at a
  ·rename_i K b c aE aj aB
   obtain⟨bD,b4⟩:=cA m Zs K aE
   obtain⟨cF,b7⟩:=cA B Zs b aj
   obtain⟨fx,cN⟩:=cA x Zs c aB
   obtain⟨T,bW,Q,U,ar,aK⟩:=aj2 Z b4 b7 cN a
   rw[bD,cF,fx]
   exact im.unit ⟨T,bW,Q,U,ar,aK⟩
  ·simp at a
 cases op<;>simp only[m7]at a<;>(try(cases a;done))<;>simp only[execOp]<;>simp only[Op.operands]at cA
 case mapUpdate t m B x=>exact adm t m B x (by simpa using cA) a
 case insert t m B x=>exact adm t m B x (by simpa using cA) a
 case makeSlice t l c=>exact im.fh (atR Z ew (by simpa using cA) a)
 case makeMap t r=>
  cases r with
  |none=>simp at a
  |some r=>exact im.fh (atP Z ew (by simpa using cA) a)
 case convert s d x=>exact im.one (axH Z ew (by simpa using cA) a)
 case range t x=>exact im.fh (avR Z ew (by simpa using cA) a)
 case next eI s=>exact im.one (auj Z (by simpa using cA) a)
 case panic x=>
  unfold QD at a
  split at a
  ·rename_i t v ah
   simp at a;subst a
   obtain⟨J,g⟩:=cA x Zs _ ah
   refine⟨?_,g⟩
   simp[Instr.panic,J,aQ]
  ·simp at a
 case defer c=>
  unfold Qm at a
  split at a
  ·rename_i f args dg
   split at a
   ·rename_i fn first fH ct ch has
    simp at a;subst a
    simp only[Call.operands]at cA
    obtain⟨J,g⟩:=cA f Zs _ ch
    obtain⟨bh,cl⟩:=wb (cA.mono (by simp;intro x ah;exact .inr ah)) has
    refine⟨?_,⟨g.1,g.2.2⟩,AE g.2.1 cl⟩
    simp[resolve,J,aQ,Deferred.ofValue,bh,lr,Cb,Cd]
   ·simp at a
  ·simp at a
 case call c=>
  unfold Cx at a
  split at a
  ·rename_i f args dg
   split at a
   ·rename_i fn first fH ct ch has
    simp only[Call.operands]at cA
    obtain⟨J,g⟩:=cA f Zs _ ch
    obtain⟨bh,cl⟩:=wb (cA.mono (by simp;intro x ah;exact .inr ah)) has
    refine(acx (R:=R) (h:=h) (j:=j) (bj:=bj) (w:=w) j5 g.1 g.2.2 (AE g.2.1 cl) a).congr ?_
    simp[resolve,J,aQ,Deferred.ofValue,bh,Cd]
   ·simp at a
  ·rename_i b args dg
   simp only[Call.operands]at cA
   show im C R af h j bj w (builtin b dg type _ (args.map ay)) res
   exact akR Z ew j5 (cA.mono Zs) a
  ·rename_i r name args dg
   split at a
   ·rename_i t v ct FA has
    simp only[Call.operands]at cA
    obtain⟨J,g⟩:=cA r Zs _ FA
    obtain⟨bh,cl⟩:=wb (cA.mono (by simp;intro x ah;exact .inr ah)) has
    refine(atZ (v:=v) Z j5 g cl a).congr ?_
    simp[resolve,J,aQ,invoke,bh]
   ·simp at a
end
end Go.bi

namespace Go.bi
noncomputable section
abbrev d5:=Option F
structure h9 where
 fn:Nat
 n:Nat
 av:Nat
 bd:List hA
 aG:Bool
 ro:Option Nat
 cs:List gH
abbrev hp:=kD->List dV->h9->V F->V an->Nat->d5
def om(g:Option (Nat×Bool))(aw:List (Nat×F)):Option Bool:=
 match g with
 |none=>some true
 |some (aa,lk)=>(match ep aw aa with
  |some v=>(match v with| .bool b=>some (b==lk)|_=>some false)
  |none=>none)
def n9(f:F->F->Bool):List F->List F->Bool
 |[],[]=>true
 |K::l,b::m=>f K b&&n9 f l m
 |_,_=>false
def F.same:Nat->F->F->Bool
 |0,_,_=>false
 |d+1,x,e=>match x,e with
  | .bool K, .bool b=>K==b
  | .int B K, .int e4 b=>decide (B=e4)&&decide (K=b)
  | .str K, .str b=>mx K b
  | .ptr K b, .ptr fN dP=>Nat.beq K fN&&Nat.beq b dP
  | .cz, .cz=>true
  | .slice K b c J, .slice fN dP f0 ia=>Nat.beq K fN&&Nat.beq b dP&&Nat.beq c f0&&Nat.beq J ia
  | .en K b c J, .en fN dP f0 ia=>Nat.beq K fN&&Nat.beq b dP&&Nat.beq c f0&&Nat.beq J ia
  | .aP, .aP=>true
  | .map K, .map b=>Nat.beq K b
  | .lf, .lf=>true
  | .func f K b, .func XI fN dP=>decide (f=XI)&&n9 (F.same d) K fN&&n9 (F.same d) b dP
  | .nilFunc, .nilFunc=>true
  | .iface t v, .iface e2 f9=>Nat.beq t e2&&F.same d v f9
  | .nilIface, .nilIface=>true
  | .agg K, .agg b=>n9 (F.same d) K b
  | .tuple K, .tuple b=>n9 (F.same d) K b
  |_,_=>false
def wk(C:aZ)(base:Nat)(M:V F):List fi->List (Nat×F)->V an->Option (List (Nat×F)×V an)
 |[],aw,h=>some (aw,h)
 |x::l,aw,h=>(match om x.g aw with
  |none=>none
  |some false=>wk C base M l ((x.i,undef)::aw) h
  |some true=>(match mu x.op with
   | .make=>(match nO x.op C (base+x.i) aw M with
     |some (v,cT)=>jj (bn C h (base+x.i) (some cT)) λh=>wk C base M l ((x.i,v)::aw) h
     |none=>none)
   |_=>(match gS x.op C h aw M with
    |some v=>wk C base M l ((x.i,v)::aw) h
    |none=>none)))
def Cj(C:aZ)(M:V F)(aw:List (Nat×F))(h:V an):List fi->Bool
 |[]=>true
 |x::l=>(match om x.g aw with
  |none=>false
  |some false=>Cj C M aw h l
  |some true=>(match gS x.op C h aw M,ep aw x.i with
   |some v,some ae=>F.same 30 v ae&&Cj C M aw h l
   |_,_=>false))
def x4(aw:List (Nat×F)):List (Nat×Nat)->V F->Option (V F)
 |[],M=>some M
 |(i,d)::l,M=>(match ep aw i with|some v=>jj (M.set d (some v)) λM=>x4 aw l M|none=>none)
def exitTo(id:Nat):List dV->Option (List dV)
 |[]=>none
 | .inBlock tq::B=>bP (Nat.beq tq id) (some B)<|exitTo id B
 |_::B=>exitTo id B
def ja{α:Type}(Y:Option α)(B:α->d5):d5:=Option.rec (motive:=λ_=>d5) none (λK=>B K) Y
def Hg(l:List (Nat×F)):Nat->(F->d5)->d5:=
 List.rec (motive:=λ_=>Nat->(F->d5)->d5) (λ_ _=>none)
  (λp _ ak aa B=>Prod.rec (motive:=λ_=>d5) (λK b=>Bool.rec (motive:=λ_=>d5) (ak aa B) (B b) (Nat.beq K aa)) p) l
def Ln(t:V F):Nat->(F->d5)->d5:=
 V.rec (motive:=λ_=>Nat->(F->d5)->d5) (λ_ _=>none)
  (λv _ _ is qc i B=>Nat.rec (motive:=λ_=>d5) (Option.rec (motive:=λ_=>d5) none (λK=>B K) v)
   (λaa _=>Bool.rec (motive:=λ_=>d5) (qc (Nat.div aa 2) B) (is (Nat.div aa 2) B) (Nat.beq (Nat.mod aa 2) 0)) i) t
def x1(x:ka):List (Nat×F)->V F->(F->d5)->d5:=
 ka.rec (motive:=λ_=>List (Nat×F)->V F->(F->d5)->d5) (λaa aw _ B=>Hg aw aa B) (λn _ M B=>Ln M n B) (λK _ _ B=>B K) x
def afj(g:Option (Nat×Bool)):List (Nat×F)->d5->d5->d5:=
 Option.rec (motive:=λ_=>List (Nat×F)->d5->d5->d5) (λ_ K _=>K)
  (λp aw K b=>ja (om (some p) aw) λw=>Bool.rec (motive:=λ_=>d5) b K w) g
def HK(l:List (Nat×Nat)):List (Nat×F)->V F->(V F->d5)->d5:=
 List.rec (motive:=λ_=>List (Nat×F)->V F->(V F->d5)->d5) (λ_ M B=>B M)
  (λp _ ak aw M B=>Prod.rec (motive:=λ_=>d5) (λi d=>Hg aw i λv=>jj (V.set M d (some v)) λM=>ak aw M B) p) l
def DV(eI:dV)(B:List dV)(cd:h9)(M:V F):List gH:=
 h9.rec (motive:=λ_=>List gH) (λfn n av bd aG ro cs=>⟨fn,n,av,M,eI::B,bd, .run,aG,ro⟩::cs) cd
def nM(ak:hp)(C:aZ)(f:Nat)(args:List F)(deferred:Bool)(cs:List gH)(h:V an)(j:Nat):d5:=
 match C.P.funcs[f]? with
 |some fn=>(match fn.body with
  |some c=>p9 (Nat.lor (j4 c) (nv fn.results.toList)) λav=>bP (Nat.ble args.length fn.ntmps&&lu C av c&&yS av fn.results.toList) (ak .run [.code c] ⟨f,fn.ntmps,av,[],deferred,none,cs⟩ (V.ofList args 0 .nil) h j)<|none
  |none=>none)
 |none=>none
def xp(n:Nat):List Nat->List F->V F->Option (V F)
 |[],[],M=>some M
 |p::dq,K::ct,M=>bP (Nat.blt p n) (xp n dq ct (M.set p (some K)))<|none
 |_,_,_=>none
def oC(eI:dV)(v:F):Option dV:=match eI with
 | .sJ ax aw a rest fin=>some (.GG ax ((a,v)::aw) rest fin)
 | .y4 ax base aw a kY fin=>some (.drawn ax base ((a,v)::aw) kY fin)
 | .inRangeFunc l=>some (.endRangeFunc l)
 |_=>none
def Tb(ak:hp)(todo:List dV)(cd:h9)(v:F)(M:V F)(h:V an)(j:Nat):d5:=
 match todo with
 |[]=>none
 |eI::B=>(match oC eI v with|some hv=>ak .run (hv::B) cd M h j|none=>none)
def wm:List Nat->V F->V F
 |[],M=>M
 |d::l,M=>wm l (M.set d none)
def ud(todo:List dV)(M:V F):V F:=match todo with
 | .sJ ax _ _ _ _::_=>wm (dstsOf ax.toList) M
 | .y4 ax _ _ _ _ _::_=>wm (dstsOf ax.toList) M
 |_=>M
def DK(chain:List ry)(bN:kD):kD:=match bN with
 | .panicking pO=> .panicking (chain++pO)
 |_=> .panicking chain
def aej(ak:hp)(c:gH)(cs:List gH)(chain:List ry)(h:V an)(j:Nat):d5:=
 match c with
 |⟨fn,n,av,M,todo,bd,bN,aG,ro⟩=>ak (DK chain bN) todo ⟨fn,n,av,bd,aG,ro,cs⟩ (ud todo M) h j
def BN(aG:Bool)(cs:List gH):Option (F×List gH):=
 bP (aG) ((match cs with
  |c::rest=>(match c with
   |⟨fn,n,av,M,todo,bd,bN,jg,ro⟩=>(match bN with
    | .panicking (⟨v,false⟩::Bx)=>some (v,⟨fn,n,av,M,todo,bd, .panicking (⟨v,true⟩::Bx),jg,ro⟩::rest)
    |_=>some (.nilIface,cs)))
  |[]=>none))<|some (.nilIface,cs)
def x7(ak:hp)(eI:dV)(B:List dV)(cd:h9)(M:V F)(j:Nat):List (F×V an)->d5
 |[]=>none
 |[(v,h)]=>(match oC eI v with|some hv=>ak .run (hv::B) cd M h j|none=>none)
 |(v,h)::l=>(match oC eI v with
  |some hv=>(match ak .run (hv::B) cd M h j,x7 ak eI B cd M j l with
   |some K,some b=>bP (F.same 30 K b) (some K) none
   |_,_=>none)
  |none=>none)
def nI(r:d4)(ak:hp)(C:aZ)(eI:dV)(B:List dV)(cd:h9)(M:V F)(h:V an)(j:Nat):d5:=
 match r with
 | .val v=>(match oC eI v with|some hv=>ak .run (hv::B) cd M h j|none=>none)
 | .fh v h j=>(match oC eI v with|some hv=>ak .run (hv::B) cd M h j|none=>none)
 | .enter f args=>nM ak C f args false (DV eI B cd M) h j
 | .known _ _ v=>(match oC eI v with|some hv=>ak .run (hv::B) cd M h j|none=>none)
 | .round l args=>(match ab C h l with
   |some (.loop _ _ fn n av cZ params assign body _)=>(match xp n params args cZ with
    |some cZ=>ak .run [.code assign, .beginRound, .code body] ⟨fn,n,av,[],false,some l,DV eI B cd M⟩ cZ h j
    |none=>none)
   |_=>none)
 | .defer d=>(match cd with
   |⟨fn,n,av,bd,aG,ro,cs⟩=>(match ro with
    |none=>(match oC eI undef with|some hv=>ak .run (hv::B) ⟨fn,n,av,d::bd,aG,none,cs⟩ M h j|none=>none)
    |some _=>none))
 | .recover=>(match cd with
   |⟨fn,n,av,bd,aG,ro,cs⟩=>(match ro with
    |none=>(match BN aG cs with
     |some (v,c8)=>(match oC eI v with|some hv=>ak .run (hv::B) ⟨fn,n,av,bd,aG,none,c8⟩ M h j|none=>none)
     |none=>none)
    |some _=>none))
 | .panic v=>(match cd with
   |⟨fn,n,av,bd,aG,ro,cs⟩=>(match ro with
    |none=>ak (.panicking [⟨v,false⟩]) (eI::B) ⟨fn,n,av,bd,aG,none,cs⟩ (ud (eI::B) M) h j
    |some _=>none))
 | .fork l=>x7 ak eI B cd M j l
def SS(op:jC):aZ->V an->Nat->List (Nat×F)->V F->(F->V an->Nat->d5)->(d4->d5)->d5:=
 match op with
 | .Ds x=>λ_ h j aw M ai _=>x1 x aw M λv=>ai v h j
 | .pick c K b=>λ_ h j aw M ai _=>ja (gS (.pick c K b) ⟨default, .nil,0,λ_ _=>none,0⟩ h aw M) λv=>ai v h j
 | .fT K=>λC h j aw M ai _=>x1 K aw M λK=>ja (ao C h K) λv=>ai v h j
 | .Bi n K=>λC h j aw M ai _=>x1 K aw M λK=>ja (cg C h n K) λv=>ai v h j
 | .off d x=>λ_ h j aw M ai _=>x1 x aw M λK=>ja (ba d K) λv=>ai v h j
 | .Bb n a1 x i=>λC h j aw M ai _=>ja (gS (.Bb n a1 x i) C h aw M) λv=>ai v h j
 | .Bc a1 x i=>λC h j aw M ai _=>ja (gS (.Bc a1 x i) C h aw M) λv=>ai v h j
 | .Dz x=>λ_ h j aw M ai _=>x1 x aw M λK=>ja (cm K) λv=>ai v h j
 | .I4 op x e=>λ_ h j aw M ai _=>x1 x aw M λK=>x1 e aw M λb=>ja (aF op K b) λv=>ai v h j
 | .ext i x=>λ_ h j aw M ai _=>x1 x aw M λK=>ja (cM i K) λv=>ai v h j
 | .hV b3 Y=>λC h j aw M ai _=>ja (gS (.hV b3 Y) C h aw M) λv=>ai v h j
 | .make b3 Y=>λC h j aw M _ p8=>ja (M9 (.make b3 Y) C h j aw M) p8
 | .st n K v=>λC h j aw M _ p8=>ja (hI (.st n K v) C h j aw M) p8
 | .call f args=>λC h j aw M _ p8=>ja (hI (.call f args) C h j aw M) p8
 | .ff b3 Y=>λC h j aw M _ p8=>ja (hI (.ff b3 Y) C h j aw M) p8
structure gy where
 ak:hp
 ax:Array Oper
 fin:List (Nat×Nat)
 B:List dV
 cd:h9
def amt(X:gy)(C:aZ)(M:V F)(aw:List (Nat×F))(i:Nat)(rest:List fi)(r:d4)(h:V an)(j:Nat):d5:=
 match X with|⟨ak,ax,fin,B,cd⟩=>nI r ak C (.sJ ax aw i rest fin) B cd M h j
abbrev ST:=gy->aZ->V F->List (Nat×F)->V an->Nat->d5
def avI(mS:ST)(X:gy)(C:aZ)(M:V F)(aw:List (Nat×F))(i:Nat)(v:F)(h:V an)(j:Nat):d5:=mS X C M ((i,v)::aw) h j
def apC(mS:ST)(X:gy)(C:aZ)(M:V F)(aw:List (Nat×F))(i:Nat)(rest:List fi)(h:V an)(j:Nat)(r:d4):d5:=
 match r with
 | .val v=>mS X C M ((i,v)::aw) h j
 | .fh v h j=>mS X C M ((i,v)::aw) h j
 |r=>amt X C M aw i rest r h j
def HF(X:gy)(_:aZ)(M:V F)(aw:List (Nat×F))(h:V an)(j:Nat):d5:=
 gy.rec (motive:=λ_=>d5) (λak _ fin B cd=>HK fin aw M λM=>ak .run B cd M h j) X
def DG(i:Nat)(g:Option (Nat×Bool))(op:jC)(rest:List fi)(mS:ST)(X:gy)(C:aZ)(M:V F)(aw:List (Nat×F))(h:V an)(j:Nat):d5:=
 afj g aw (SS op C h j aw M (avI mS X C M aw i) (apC mS X C M aw i rest h j)) (mS X C M ((i,undef)::aw) h j)
def yV(rest:List fi):ST:=
 List.rec (motive:=λ_=>ST) HF (λx rest mS=>fi.rec (motive:=λ_=>ST) (λi g op=>DG i g op rest mS) x) rest
def xZ(ak:hp)(C:aZ)(ax:Array Oper)(base:Nat)(aw:List (Nat×F))(kY:List wa)(fin:List (Nat×Nat))(B:List dV)(cd:h9)(M:V F)(h:V an)(j:Nat):d5:=
 match kY with
 |[]=>none
 |s::rest=>(match wk C base M s.tv aw h with
  |none=>none
  |some (aw,h)=>bP (Cj C M aw h s.S6) ((match s.ff with
    |none=>HK fin aw M λM=>ak .run B cd M h j
    |some a=>(match om a.g aw with
     |none=>none
     |some w=>bP (w) ((match hI a.op C h j aw M with
       |some r=>nI r ak C (.y4 ax base aw a.i rest fin) B cd M h j
       |none=>none))<|ak .run (.drawn ax base ((a.i,undef)::aw) rest fin::B) cd M h j)))<|none)
def xw(f4:List ry):kD:=match f4 with|⟨_,true⟩::_=> .returning|_=> .panicking f4
def sR(ak:hp)(aG:Bool)(cs:List gH)(v:F)(h:V an)(j:Nat):d5:=
 match cs with
 |c::rest=>(match c with
  |⟨fn,n,av,M,todo,bd,bN,jg,ro⟩=>(match bN with
   | .run=>bP aG none (Tb ak todo ⟨fn,n,av,bd,jg,ro,rest⟩ v M h j)
   | .returning=>bP aG (ak .returning todo ⟨fn,n,av,bd,jg,ro,rest⟩ M h j) none
   | .panicking f4=>bP aG (ak (xw f4) todo ⟨fn,n,av,bd,jg,ro,rest⟩ M h j) none))
 |[]=>bP aG none (some v)
def R6(ix:Option Code):Bool:=match ix with|none=>true|some .ret=>true|_=>false
def adX(ix:Option Code):Bool:=match ix with|none=>true|some .ret=>true|some (.exit _)=>true|_=>false
def n6(ix:Option Code)(ak:hp)(C:aZ)(todo:List dV)(cd:h9)(M:V F)(h:V an)(j:Nat):d5:=
 match cd with
 |⟨fn,n,av,bd,aG,ro,cs⟩=>(match ro with
  |none=>bP (R6 ix) (ak .returning todo ⟨fn,n,av,bd,aG,none,cs⟩ M h j)<|none
  |some l=>(match ab C h l with
   |some (.loop _ _ fn n av M params assign body defers)=>
    bP ((jV C l&&adX ix)&& !aG) (jj (bn C h l (some (.loop (bP ix.isNone .ready .done) ix fn n av M params assign body defers))) λh=>sR ak aG cs (.bool ix.isNone) h j)<|none
   |_=>none))
def xm(C:aZ)(h:V an)(M:V F):List ResultVar->Option (List F)
 |[]=>some []
 | .tmp t::l=>(match M.get t,xm C h M l with|some v,some r=>some (v::r)|_,_=>none)
 | .cell K t::l=>(match M.get K with
   |some p=>(match lp C h t p,xm C h M l with|some v,some r=>some (v::r)|_,_=>none)
   |none=>none)
def wp(M:V F)(Y:Operand):Option F:=match Y with
 | .tmp t=>M.get t
 | .const v=>DD v
 | .global g=>some (.ptr g 0)
 | .func f=>some (.func (.func f) [] [])
def JQ(f:Operand)(params:Array Nat)(assign body:Code)(ak:hp)(C:aZ)(B:List dV)(cd:h9)(M:V F)(h:V an)(j:Nat):d5:=
 match wp M f,cd with
 |some (.func (.func g) first fH),⟨fn,n,av,bd,aG,ro,cs⟩=>
  (
   match ro with
   |none=>p9 j λj=>
    nM ak C g (first++[.func (.yield (j+1)) [] []]++fH) false (⟨fn,n,av,M, .inRangeFunc (j+1)::B,⟨.collected j,[]⟩::bd, .run,aG,none⟩::cs)
     (bn C (bn C h j (some (.deferred (some [])))) (j+1) (some (.loop .ready none fn n av M params.toList assign body j))) (j+2)
   |some l=>(match ab C h l with
    |some (.loop _ _ _ _ _ _ _ _ _ defers)=>p9 j λj=>
     nM ak C g (first++[.func (.yield j) [] []]++fH) false (⟨fn,n,av,M, .inRangeFunc j::B,bd, .run,aG,some l⟩::cs)
      (bn C h j (some (.loop .ready none fn n av M params.toList assign body defers))) (j+1)
    |_=>none))
 |_,_=>none
def Az(id:Nat)(ak:hp)(C:aZ)(B:List dV)(cd:h9)(M:V F)(h:V an)(j:Nat):d5:=
 match exitTo id B with
 |some e4=>ak .run e4 cd M h j
 |none=>n6 (some (.exit id)) ak C (.code (.exit id)::B) cd M h j
def Hr(c:Operand)(M:V F)(K b:d5):d5:=ja (wp M c) λv=>match v with
 | .bool t=>Bool.rec (motive:=λ_=>d5) b K t
 |_=>none
def S9(n av:Nat)(ax:Array Oper)(ak:hp)(C:aZ)(B:List dV)(cd:h9)(M:V F)(h:V an)(j:Nat):d5:=
 ja (Jv C n ax av) λr=>Oo.rec (motive:=λ_=>d5) (λrest fin=>yV rest ⟨ak,ax,fin,B,cd⟩ C M [] h j) r
def S8(n av:Nat)(ax:Array Oper)(ak:hp)(C:aZ)(B:List dV)(cd:h9)(M:V F)(h:V an)(j:Nat):d5:=
 ja (Ju C n ax av) λr=>On.rec (motive:=λ_=>d5) (λkY fin=>p9 j λj=>xZ ak C ax j [] kY fin B cd M h (j+ax.size)) r
def aem(ax:Array Oper)(Aw:Bool)(ak:hp)(C:aZ)(B:List dV)(cd:h9)(M:V F)(h:V an)(j:Nat):d5:=
 h9.rec (motive:=λ_=>d5) (λfn n av bd aG ro cs=>Bool.rec (motive:=λ_=>d5)
  (S9 n av ax ak C B ⟨fn,n,av,bd,aG,ro,cs⟩ M h j) (S8 n av ax ak C B ⟨fn,n,av,bd,aG,ro,cs⟩ M h j) Aw) cd
abbrev y8:=hp->aZ->List dV->h9->V F->V an->Nat->d5
def Lq:y8:=λak _ B cd M h j=>ak .run B cd M h j
def DA:y8:=λ_ _ _ _ _ _ _=>none
def t8(c:Code):y8:=
 Code.rec (motive:=λ_=>y8) Lq
  (λ_ ax d=>aem ax d)
  (λ_ b ms _ ak C B=>ms ak C (.code b::B))
  (λc _ _ ms hu ak C B cd M h j=>Hr c M (ms ak C B cd M h j) (hu ak C B cd M h j))
  (λid _ hu ak C B=>hu ak C (.inBlock id::B))
  (λb hu ak C B=>hu ak C (.inLoop b::B))
  (λf params assign body _ _=>JQ f params assign body)
  (λid=>Az id)
  (λb hu ak C B=>hu ak C (.inScope b::B))
  (λ_=>Lq)
  (λ_=>DA)
  (λak C B=>n6 (some .ret) ak C (.code .ret::B))
  (λ_=>DA) c
def EP(l:Nat):y8:=λak C B cd M h j=>match ab C h l with
 |some (.loop state pending gT aV ks cZ params assign body defers)=>
  (
   match state with
   | .busy=>none
   |_=>bP (jV C l) (jj (bn C h l (some (.loop .exhausted pending gT aV ks cZ params assign body defers))) λh=>ak .run ((pending.map dV.code).toList++B) cd M h j)<|none)
 |_=>none
def Hi:y8:=λak C B cd M h j=>match cd with
 |⟨fn,n,av,bd,aG,ro,cs⟩=>match ro with
  |some l=>(match ab C h l with
   |some (.loop .ready pending gT aV ks cZ params assign body defers)=>
    bP (jV C l) (jj (bn C h l (some (.loop .busy pending gT aV ks cZ params assign body defers))) λh=>ak .run B ⟨fn,n,av,bd,aG,some l,cs⟩ M h j)<|none
   |_=>none)
  |none=>none
def acz(eI:dV):y8:=
 dV.rec (motive:=λ_=>y8) (λc=>t8 c) (λ_=>Lq) (λb ak C B=>t8 b ak C (.inLoop b::B)) (λ_=>Lq)
  (λax aw rest fin ak C B cd M h j=>yV rest ⟨ak,ax,fin,B,cd⟩ C M aw h j)
  (λax base aw kY fin ak C B cd M h j=>xZ ak C ax base aw kY fin B cd M h j)
  (λ_ _ _ _ _=>DA) (λ_ _ _ _ _ _=>DA) (λ_=>DA) (λl=>EP l) Hi eI
def aeL(todo:List dV)(ak:hp)(C:aZ)(cd:h9)(M:V F)(h:V an)(j:Nat):d5:=
 List.rec (motive:=λ_=>d5) (n6 none ak C [] cd M h j) (λeI B _=>acz eI ak C B cd M h j) todo
def xr(d:hA)(ds:List hA)(bN:kD)(todo:List dV)(ak:hp)(C:aZ)(cd:h9)(M:V F)(h:V an)(j:Nat):d5:=
 match cd with
 |⟨fn,n,av,_,aG,ro,cs⟩=>(match d with
  |⟨.collected r,_⟩=>(match ab C h r with
   |some (.deferred (some pr))=>bP (jV C r) (jj (bn C h r (some (.deferred none))) λh=>ak bN todo ⟨fn,n,av,pr++ds,aG,ro,cs⟩ M h j)<|none
   |_=>none)
  |⟨.fn f fH,args⟩=>(match Al C f fH args with
   |some (.enter f ct)=>nM ak C f ct true (⟨fn,n,av,M,todo,ds,bN,aG,ro⟩::cs) h j
   |_=>none))
def one(bo:List F):F:=match bo with|[v]=>v|bo=> .tuple bo
def J2(todo:List dV)(ak:hp)(C:aZ)(cd:h9)(M:V F)(h:V an)(j:Nat):d5:=
 match cd with
 |⟨fn,n,av,bd,aG,ro,cs⟩=>match bd with
  |d::ds=>xr d ds .returning todo ak C ⟨fn,n,av,[],aG,ro,cs⟩ M h j
  |[]=>(match C.P.funcs[fn]? with
   |some f=>(match xm C h M f.results.toList with
    |some bo=>sR ak aG cs (one bo) h j
    |none=>none)
   |none=>none)
def J1(chain:List ry)(todo:List dV)(ak:hp)(C:aZ)(cd:h9)(M:V F)(h:V an)(j:Nat):d5:=
 match cd with
 |⟨fn,n,av,bd,aG,ro,cs⟩=>match bd with
  |d::ds=>xr d ds (.panicking chain) todo ak C ⟨fn,n,av,[],aG,ro,cs⟩ M h j
  |[]=>(match cs with
   |c::rest=>aej ak c rest chain h j
   |[]=>none)
def TA(ak:hp)(C:aZ)(bN:kD)(todo:List dV)(cd:h9)(M:V F)(h:V an)(j:Nat):d5:=
 kD.rec (motive:=λ_=>d5) (aeL todo ak C cd M h j) (J2 todo ak C cd M h j) (λf4=>J1 f4 todo ak C cd M h j) bN
def run(C:aZ)(n:Nat):hp:=
 Nat.rec (motive:=λ_=>hp) (λ_ _ _ _ _ _=>none) (λ_ ak bN todo cd M h j=>TA ak C bN todo cd M h j) n
def tE(C:aZ)(n:Nat)(f:Nat)(args:List F):d5:=nM (run C n) C f args false [] .nil C.a8
end
end Go.bi

namespace Go.bi
open Go.RowKit (Below)
section
variable{C:aZ}{R db:c6}{af dB:Nat->Prop}{h T:V an}{j au bj:Nat}{w bW:World}
def aaU(Z:dl C R af h j bj w)(ew:bj<=w.heap.size)(j5:xG C.P){oper:Oper}{ay:Operand->Value}{eh:List (Nat×Nat)}{aw:List (Nat×F)}{M:V F}{c:jC}{res:d4}
 (cA:jd R af ay (iX eh aw M) oper.op.operands.toList)(aB:ls C eh oper.op=some c)(a:hI c C h j aw M=some res):im C R af h j bj w (execOp ay oper) res:=by
 have rest:∀Y,oper.op=Y->c= .ff eh Y->im C R af h j bj w (execOp ay oper) res:=by
  intro Y bl CG
  subst CG;subst bl
  exact ajW Z ew j5 cA a
 have yO:∀Y,c= .hV eh Y->im C R af h j bj w (execOp ay oper) res:=by intro Y J;subst J;simp[hI]at a
 have adB:∀Y,c= .make eh Y->im C R af h j bj w (execOp ay oper) res:=by intro Y J;subst J;simp[hI]at a
 obtain⟨dst,op,type,pos,after,guard⟩:=oper
 cases op<;>simp only[ls]at aB<;>simp only[Op.operands]at cA
 case store t K x=>
  split at aB
  ·rename_i fN iC s aE ah aD
   simp at aB;subst aB
   simp only[hI,na aE,na ah]at a
   split at a
   ·rename_i ae be
    split at a
    ·rename_i v bB
     obtain⟨bD,b4⟩:=cA K Zs ae be
     obtain⟨cF,b7⟩:=cA x Zs v bB
     obtain⟨T,rfl,aM⟩:=axG Z aD b4 b7 a
     simp only[execOp,bD,cF]
     exact aM _ (λbW sh=>by simp[sh])
    ·simp at a
   ·simp at a
  ·simp at aB
 case call rP=>
  obtain⟨callee,args,dg⟩:=rP
  cases callee with
  |builtin b=>
   cases b<;>simp[ls]at aB<;>first
    |exact rest _ rfl aB.symm
    |exact yO _ aB.symm
  |value f=>
   cases f with
   |func g=>
    simp only at aB
    split at aB
    ·rename_i ct has
     simp at aB;subst aB
     simp only[hI]at a
     split at a
     ·rename_i bo I2
      simp only[Call.operands]at cA
      obtain⟨eg,c5⟩:=amx aw M has I2
      have ar6:jd R af ay (iX eh aw M) args.toList:=cA.mono (by simp;intro x ah;exact .inr ah)
      obtain⟨e8,fQ⟩:=adh ar6 eg c5
      obtain⟨eM,_⟩:=cA (.func g) Zs (.func (.func g) [] []) rfl
      refine(Pe (R:=R) (h:=h) (j:=j) (bj:=bj) (w:=w) j5 fQ a).congr ?_
      have J:args.map ay=(bY R bo).toArray:=by apply YZ;simp[e8]
      simp[execOp,resolve,eM,aQ,mM,bY,Deferred.ofValue,invoke,J]
     ·simp at a
    ·simp at aB
   |tmp t=>simp at aB;exact rest _ rfl aB.symm
   |const v=>simp at aB;exact rest _ rfl aB.symm
   |global g=>simp at aB;exact rest _ rfl aB.symm
  |invoke r m=>simp[ls]at aB;exact rest _ rfl aB.symm
 case convert s d x=>
  rw[fw]at aB
  split at aB
  ·simp at aB;exact rest _ rfl aB.symm
  ·simp at aB;exact yO _ aB.symm
 case makeMap t r=>cases r<;>simp[ls]at aB<;>first|exact rest _ rfl aB.symm|exact adB _ aB.symm
 case binOp op t x e GU=>
  rw[fw]at aB
  split at aB
  ·split at aB
   ·simp at aB;subst aB;simp[hI]at a
   ·simp at aB
  ·simp at aB;exact yO _ aB.symm
 case fieldAddr s x f=>
  split at aB
  ·rw[pL]at aB
   split at aB
   ·split at aB
    ·simp only[EJ,Zf]at aB
     obtain⟨_,rfl⟩:=aB
     simp[hI]at a
    ·simp at aB
   ·simp at aB
  ·simp at aB
 case indexAddr t x i=>
  split at aB
  ·split at aB
   ·simp at aB;subst aB;simp[hI]at a
   ·simp at aB
  ·split at aB
   ·simp at aB;subst aB;simp[hI]at a
   ·simp at aB
  ·simp at aB
 all_goals first
  |(simp at aB;first|exact rest _ rfl aB.symm|exact yO _ aB.symm|exact adB _ aB.symm)
  |(split at aB<;>first
    |(simp at aB;subst aB;simp[hI]at a;done)
    |(simp at aB;done))
def Na{oper:Oper}{eh:List (Nat×Nat)}{c:jC}(aB:ls C eh oper.op=some c){b:Nat}{aw:List (Nat×F)}{M:V F}{r:F×an}(a:nO c C b aw M=some r):p1 oper.op C (iX eh aw M) b=some r:=by
 have rest:∀Y,oper.op=Y->c= .make eh Y->p1 oper.op C (iX eh aw M) b=some r:=by
  intro Y bl CG
  subst CG;subst bl
  exact a
 have yO:∀Y,c= .hV eh Y->p1 oper.op C (iX eh aw M) b=some r:=by intro Y J;subst J;simp[nO]at a
 have Br:∀Y,c= .ff eh Y->p1 oper.op C (iX eh aw M) b=some r:=by intro Y J;subst J;simp[nO]at a
 obtain⟨dst,op,type,pos,after,guard⟩:=oper
 cases op<;>simp only[ls]at aB
 case call rP=>
  obtain⟨callee,args,dg⟩:=rP
  cases callee with
  |builtin b=>cases b<;>simp[ls]at aB<;>first|exact Br _ aB.symm|exact yO _ aB.symm
  |value f=>
   cases f with
   |func g=>
    simp[ls]at aB
    split at aB
    ·simp at aB;subst aB;simp[nO]at a
    ·simp at aB
   |tmp t=>simp[ls]at aB;exact Br _ aB.symm
   |const v=>simp[ls]at aB;exact Br _ aB.symm
   |global g=>simp[ls]at aB;exact Br _ aB.symm
  |invoke r m=>simp[ls]at aB;exact Br _ aB.symm
 case convert s d x=>
  rw[fw]at aB
  split at aB
  ·simp at aB;exact Br _ aB.symm
  ·simp at aB;exact yO _ aB.symm
 case makeMap t r=>cases r<;>simp[ls]at aB<;>first|exact rest _ rfl aB.symm|exact Br _ aB.symm
 case binOp op t x e GU=>
  rw[fw]at aB
  split at aB
  ·split at aB
   ·simp at aB;subst aB;simp[nO]at a
   ·simp at aB
  ·simp at aB;exact yO _ aB.symm
 case fieldAddr s x f=>
  split at aB
  ·rw[pL]at aB
   split at aB
   ·split at aB
    ·simp only[EJ,Zf]at aB
     obtain⟨_,rfl⟩:=aB
     simp[nO]at a
    ·simp at aB
   ·simp at aB
  ·simp at aB
 case indexAddr t x i=>
  split at aB
  ·split at aB
   ·simp at aB;subst aB;simp[nO]at a
   ·simp at aB
  ·split at aB
   ·simp at aB;subst aB;simp[nO]at a
   ·simp at aB
  ·simp at aB
 all_goals first
  |(simp at aB;first|exact rest _ rfl aB.symm|exact yO _ aB.symm|exact Br _ aB.symm)
  |(split at aB<;>first
    |(simp at aB;subst aB;simp[nO]at a;done)
    |(simp at aB;done))
def od{α:Type}(Y:Option α)(B:α->d5):ja Y B=match Y with|some K=>B K|none=>none:=by cases Y<;>rfl
def WA(l:List (Nat×F))(aa:Nat)(B:F->d5):Hg l aa B=ja (ep l aa) B:=by
 induction l with
 |nil=>rfl
 |cons p l ak=>
  obtain⟨K,b⟩:=p
  show(Bool.rec (motive:=λ_=>d5) (Hg l aa B) (B b) (Nat.beq K aa))=ja (bP (Nat.beq K aa) (some b) (ep l aa)) B
  rw[ak]
  cases Nat.beq K aa<;>rfl
def anw(t:V F):∀(i:Nat) (B:F->d5),Ln t i B=ja (t.get i) B:=by
 induction t with
 |nil=>intro i B;rfl
 |node v l r mS FN=>
  intro i B
  cases i with
  |zero=>cases v<;>rfl
  |succ aa=>
   show(Bool.rec (motive:=λ_=>d5) (Ln r (Nat.div aa 2) B) (Ln l (Nat.div aa 2) B) (Nat.beq (Nat.mod aa 2) 0))=ja (bP (Nat.beq (Nat.mod aa 2) 0) (l.get (Nat.div aa 2)) (r.get (Nat.div aa 2))) B
   rw[mS,FN]
   cases Nat.beq (Nat.mod aa 2) 0<;>rfl
def amu(x:ka)(aw:List (Nat×F))(M:V F)(B:F->d5):x1 x aw M B=ja (kK x aw M) B:=by
 cases x with
 |v aa=>exact WA aw aa B
 |t n=>exact anw M n B
 |c K=>rfl
def Lb:∀(l:List (Nat×Nat)) (aw:List (Nat×F)) (M:V F) (B:V F->d5),HK l aw M B=ja (x4 aw l M) B:=by
 intro l
 induction l with
 |nil=>intro aw M B;rfl
 |cons p l ak=>
  intro aw M B
  obtain⟨i,d⟩:=p
  show Hg aw i (λv=>jj (V.set M d (some v)) λM=>HK l aw M B)=_
  rw[WA]
  simp only[x4]
  cases ep aw i with
  |none=>rfl
  |some v=>simp only[g8];exact ak _ _ _
def N8(g:Option (Nat×Bool))(aw:List (Nat×F))(K b:d5):afj g aw K b=ja (om g aw) λw=>if w=true then K else b:=by
 cases g with
 |none=>simp[od,om];rfl
 |some p=>
  show ja (om (some p) aw) (λw=>Bool.rec (motive:=λ_=>d5) b K w)=_
  congr 1
  funext w
  cases w<;>rfl
def Nw(op:jC)(h:V an)(j:Nat)(aw:List (Nat×F))(M:V F)(ai:F->V an->Nat->d5)(p8:d4->d5):
 SS op C h j aw M ai p8=match mu op with
  | .hV=>ja (gS op C h aw M) λv=>ai v h j
  | .make=>ja (M9 op C h j aw M) p8
  | .ff=>ja (hI op C h j aw M) p8:=by
 cases op<;>simp only[SS,mu,amu,gS,od]<;>(try rfl)
 all_goals(split<;>first|rfl|(split<;>simp_all))
end
end Go.bi

namespace Go.bi
open Go.RowKit (Below)
def vG:List Oper->Nat->List (Nat×Nat)->List (Nat×Nat)
 |[],_,eh=>eh
 |Y::l,i,eh=>vG l (i+1) (xK Y i eh)
def h8(ax:Array Oper)(i:Nat):List (Nat×Nat):=vG (ax.toList.take i) 0 []
def ayG(K:List Oper):∀(b:List Oper) (i:Nat) (eh:List (Nat×Nat)),vG (K++b) i eh=vG b (i+K.length) (vG K i eh):=by
 induction K with
 |nil=>intro b i eh;rfl
 |cons Y K ak=>
  intro b i eh
  simp only[YO,vG,ak,ZB]
  congr 1;omega
def Kg{ax:Array Oper}{i:Nat}{Y:Oper}(a:ax[i]? =some Y):h8 ax (i+1)=xK Y i (h8 ax i):=by
 have aC:ax.toList[i]? =some Y:=by rw[ZS];exact a
 have c1:i<ax.toList.length:=(Zb.1 aC).1
 unfold h8
 rw[Z5,aC,ayG]
 have:(ax.toList.take i).length=i:=by simp at c1 ⊢;omega
 rw[this]
 simp[vG]
def Kh(ax:Array Oper):h8 ax 0=[]:=rfl
def rQ(ax:Array Oper)(aa:Nat):Option Nat:=(ax[aa]?).bind (·.dst)
def Hz{ax:Array Oper}{i:Nat}{Y:Oper}(a:ax[i]? =some Y):rQ ax i=Y.dst:=by simp[rQ,a]
def akb{Y:Oper}{i aa:Nat}{eh:List (Nat×Nat)}:wn aa (xK Y i eh)=if i=aa/\Y.dst.isSome then Y.dst else wn aa eh:=by
 unfold xK
 split
 ·rename_i d aM
  simp only[wn,hD,aM]
  by_cases J:i=aa<;>simp[J]
 ·rename_i aM
  simp[aM]
def Ep{Y:Oper}{i t:Nat}{eh:List (Nat×Nat)}:ep (xK Y i eh) t=if Y.dst=some t then some i else ep eh t:=by
 unfold xK
 split
 ·rename_i d aM
  rw[qS,aM]
  by_cases J:d=t<;>simp[J]
 ·rename_i aM
  simp[aM]
def Ki(ax:Array Oper):∀i,i<=ax.size->(∀aa t,wn aa (h8 ax i)=some t->rQ ax aa=some t)/\
 (∀t aa,ep (h8 ax i) t=some aa->aa<i/\rQ ax aa=some t/\∀B,aa<B->B<i->rQ ax B≠some t)/\(∀t,ep (h8 ax i) t=none->∀B,B<i->rQ ax B≠some t):=by
 intro i
 induction i with
 |zero=>intro _;rw[Kh];exact⟨λaa t a=>by simp[wn]at a,λt aa a=>by simp at a,λt _ B aN=>Zo⟩
 |succ i ak=>
  intro aJ
  obtain⟨Q,U,ar⟩:=ak Zo
  have bl:ax[i]? =some ax[i]:=Array.getElem?_eq_getElem Zo
  rw[Kg bl]
  have aM:=Hz bl
  refine⟨λaa t a=> ?_,λt aa a=> ?_,λt a B aN=> ?_⟩
  ·rw[akb]at a
   split at a
   ·rename_i J;rw[<-J.1,aM];exact a
   ·exact Q aa t a
  ·rw[Ep]at a
   split at a
   ·rename_i J
    cases a
    exact⟨Zo,by rw[aM];exact J,λB kQ h4=>Zo⟩
   ·rename_i J
    obtain⟨bV,cw,c4⟩:=U t aa a
    refine⟨Zo,cw,λB kQ h4=> ?_⟩
    by_cases am:B=i
    ·subst am;rw[aM];exact J
    ·exact c4 B kQ Zo
  ·rw[Ep]at a
   split at a
   ·cases a
   ·rename_i J
    by_cases am:B=i
    ·subst am;rw[aM];exact J
    ·exact ar t a B Zo
section
variable{C:aZ}{R db:c6}{af dB:Nat->Prop}{h T:V an}{j au bj:Nat}{w bW:World}
def kC(tmps:Array Value):Operand->Value
 | .tmp t=>tmps.getD t Go.undef
 | .const v=>v
 | .global g=> .pointer (some ⟨g,0,none⟩)
 | .func f=> .func (.func f) #[] #[]
def HH(fr:Frame):fr.eval=kC fr.tmps:=by funext x;cases x<;>rfl
def ou(R:c6)(af:Nat->Prop)(av:Nat)(X:Nat->Prop)(eh:List (Nat×Nat))(aw:List (Nat×F))(M:V F)(tmps:Array Value):Prop:=
 ∀t v,X t->(match ep eh t with|some aa=>ep aw aa=some v|none=>fq av t=true/\M.get t=some v)->tmps[t]? =some (aQ R v)/\cj af v
def rB(C:aZ)(R:c6)(af:Nat->Prop):Prop:=∀g,g<C.o2->af g/\(R g).cE=g/\(R g).eb=0
def auM{av:Nat}{eh:List (Nat×Nat)}:∀{l:List Operand},DF C av eh l=true->∀x∈l,yP C av eh x=true:=by
 intro l
 induction l with
 |nil=>intro _ x a;simp at a
 |cons K l ak=>
  intro a x ah
  simp only[DF,Zp]at a
  rcases Zt.1 ah with rfl|ah
  ·exact a.1
  ·exact ak a.2 x ah
def XD{av:Nat}{X:Nat->Prop}{eh:List (Nat×Nat)}{aw:List (Nat×F)}{M:V F}{tmps:Array Value}(bB:ou R af av X eh aw M tmps){l:List Operand}(bQ:∀t,Operand.tmp t∈l->X t)(bl:DF C av eh l=true)
 (eS:rB C R af):jd R af (kC tmps) (iX eh aw M) l:=by
 intro x ah v a
 have fS:=auM bl x ah
 cases x with
 |tmp t=>
  have:=bB t v (bQ t ah) (by
   simp only[iX]at a
   simp only[yP]at fS
   split at a
   ·rename_i aa bG;rw[bG];exact a
   ·rename_i bG;rw[bG]at fS ⊢;exact⟨fS,a⟩)
  exact⟨by simp[kC,this.1],this.2⟩
 |const c=>exact Np a
 |global g=>
  simp[iX]at a;subst a
  simp only[yP]at fS
  obtain⟨b4,b7,cN⟩:=eS g (k4 fS)
  exact⟨by simp[kC,aQ,b7,cN],b4⟩
 |func f=>
  simp[iX]at a;subst a
  exact⟨by simp[kC,aQ,mM,bY],trivial,trivial,trivial⟩
end
end Go.bi

namespace Go.bi
def Ao(m i:Nat):fq m i=m.testBit i:=by
 unfold fq
 rw[Nat.testBit_eq_decide_div_mod_eq,Yg,Zh]
 exact⟨Zj,λa=>by rw[show Nat.mod (Nat.div m (Nat.pow 2 i)) 2=1 from a];rfl⟩
def KI(i:Nat):fq 0 i=false:=by rw[Ao];simp
def Ex(K b i:Nat):fq (Nat.lor K b) i=(fq K i||fq b i):=by
 rw[Ao,Ao,Ao];exact Nat.testBit_or K b i
def KH(t i:Nat):fq (Nat.pow 2 t) i=decide (t=i):=by
 rw[Ao];exact Nat.testBit_two_pow
def akK(K b i:Nat):fq (Nat.land K b) i=(fq K i&&fq b i):=by
 rw[Ao,Ao,Ao];exact Nat.testBit_and K b i
def auX{Y:Operand}{m t:Nat}:fq (Gp Y m) t=true↔Y= .tmp t\/fq m t=true:=by
 cases Y with
 |tmp ae=>
  show fq (Nat.lor m (Nat.pow 2 ae)) t=true↔_
  rw[Ex,KH]
  simp[or_comm]
 |_=>simp[Gp]
def auY{t:Nat}:∀{l:List Operand},fq (Gq l) t=true↔Operand.tmp t∈l:=by
 intro l
 induction l with
 |nil=>simp[Gq,KI]
 |cons K l ak=>
  show fq (Gp K (Gq l)) t=true↔_
  rw[auX,ak]
  simp[eq_comm]
def alR{Y:Oper}{t:Nat}:fq (Hy Y) t=true↔Y.dst=some t:=by
 unfold Hy
 cases Y.dst with
 |none=>simp[KI]
 |some d=>
  show fq (Nat.pow 2 d) t=true↔_
  rw[KH]
  simp
structure Kp(C:aZ)(n av:Nat)(ax:Array Oper)(x:fi)(Y:Oper):Prop where
 oper:ax[x.i]? =some Y
 g:Hm (h8 ax x.i) Y.guard=some x.g
 op:ls C (h8 ax x.i) Y.op=some x.op
 dst:∀d,Y.dst=some d->d<n
 reads:DF C av (h8 ax x.i) Y.op.operands.toList=true
def Pd{C:aZ}{n av i:Nat}{Y:Oper}{l:List Oper}{eh:List (Nat×Nat)}{cs:List fi}(a:rO C n av (Y::l) i eh=some cs):
 ∃g op r,Hm eh Y.guard=some g/\ls C eh Y.op=some op/\KY n Y=true/\DF C av eh Y.op.operands.toList=true/\rO C n av l (i+1) (xK Y i eh)=some r/\cs=⟨i,g,op⟩::r:=by
 simp only[rO,lS]at a
 split at a
 ·rename_i g op b5 CY
  simp only[e0,Zp]at a
  obtain⟨⟨Q,U⟩,a⟩:=a
  split at a
  ·rename_i r Z
   simp at a
   exact⟨g,op,r,b5,CY,Q,U,Z,a.symm⟩
  ·simp at a
 ·simp at a
def Xp{n:Nat}{Y:Oper}(a:KY n Y=true):∀d,Y.dst=some d->d<n:=by
 intro d aM
 unfold KY at a
 rw[aM]at a
 exact k4 a
def Py{ax:Array Oper}{i:Nat}{Y:Oper}{l:List Oper}(a:ax.toList.drop i=Y::l):ax[i]? =some Y/\ax.toList.drop (i+1)=l/\i<ax.size:=by
 have Q:(ax.toList.drop i)[0]? =some Y:=by rw[a];rfl
 rw[YJ,ZS]at Q
 refine⟨by simpa using Q, ?_, ?_⟩
 ·have:(ax.toList.drop i).drop 1=l:=by rw[a];rfl
  rw[zn]at this
  exact this
 ·exact(ZQ.1 (by simpa using Q)).1
def akW{C:aZ}{n av:Nat}{ax:Array Oper}:∀(l:List Oper) (i:Nat) (cs:List fi),ax.toList.drop i=l->rO C n av l i (h8 ax i)=some cs->
 cs.length=l.length/\∀aa x,cs[aa]? =some x->x.i=i+aa/\∃Y,Kp C n av ax x Y:=by
 intro l
 induction l with
 |nil=>intro i cs _ a;simp[rO]at a;subst a;simp
 |cons Y l ak=>
  intro i cs aM a
  obtain⟨g,op,r,Q,U,ar,aK,bH,rfl⟩:=Pd a
  obtain⟨cX,cP,eQ⟩:=Py aM
  rw[<-Kg cX]at bH
  obtain⟨bV,cw⟩:=ak (i+1) r cP bH
  refine⟨by simp[bV],λaa x ah=> ?_⟩
  cases aa with
  |zero=>simp at ah;subst ah;exact⟨rfl,Y,cX,Q,U,Xp ar,aK⟩
  |succ aa=>
   simp at ah
   obtain⟨J,bx⟩:=cw aa x ah
   exact⟨Zo,bx⟩
def al0{ih:List (Nat×Nat)}:∀(l:List Edge) (K:Nat),fq (l.foldr (Cl ih) 0) K=true->∃J∈l,Region.binds .any J=true/\(K=J.on\/∃gm,ep ih J.on=some gm/\fq gm K=true):=by
 intro l
 induction l with
 |nil=>intro K a;simp[KI]at a
 |cons J l ak=>
  intro K a
  simp only[List.foldr_cons]at a
  have pO:fq (l.foldr (Cl ih) 0) K=true->∃ia∈J::l,Region.binds .any ia=true/\(K=ia.on\/∃gm,ep ih ia.on=some gm/\fq gm K=true):=λa=>by
   obtain⟨ia,Q,U⟩:=ak K a
   exact⟨ia,Zr _ Q,U⟩
  unfold Cl at a
  rw[fw]at a
  split at a
  ·exact pO a
  ·rw[fw]at a
   split at a
   ·rename_i aj
    split at a
    ·rename_i B aN
     rw[Ex,Ex,KH]at a
     simp only[zj,Zh]at a
     rcases a with (a|a)|a
     ·exact pO a
     ·exact⟨J,Zu ..,aj, .inr ⟨B,aN,a⟩⟩
     ·exact⟨J,Zu ..,aj, .inl a.symm⟩
    ·exact pO a
   ·exact pO a
structure Eg(ax:Array Oper)(p:gh)(Y:Oper):Prop where
 oper:ax[p.i]? =some Y
 r:p.r=Nat.lor (Gq Y.op.operands.toList) (Lx (h8 ax p.i) Y.guard)
 w:p.w=Hy Y
def adk{ax:Array Oper}:∀(l:List Oper) (i:Nat) (ih:List (Nat×Nat)),ax.toList.drop i=l->(∀aa m,ep ih aa=some m->aa<i)->
 (Bp l i (h8 ax i) ih).length=l.length/\(∀aa p,(Bp l i (h8 ax i) ih)[aa]? =some p->p.i=i+aa/\∃Y,Eg ax p Y)/\
 ∀(bu:Nat->Nat->Prop),(∀aa m,ep ih aa=some m->bu aa m)->(∀aa Y m,ax[aa]? =some Y->i<=aa->(∀K,fq m K=true->∃J∈Y.after.toList,Region.binds .any J=true/\(K=J.on\/∃gm,bu J.on gm/\fq gm K=true))->bu aa m)->
  ∀p∈Bp l i (h8 ax i) ih,bu p.i p.m:=by
 intro l
 induction l with
 |nil=>intro i ih _ _;simp[Bp]
 |cons Y l ak=>
  intro i ih aM q6
  obtain⟨cX,cP,eQ⟩:=Py aM
  simp only[Bp,lS]
  rw[<-Kg cX]
  have aqq:∀aa m,ep ((i,Y.after.toList.foldr (Cl ih) 0)::ih) aa=some m->aa<i+1:=by
   intro aa m a
   rw[qS]at a
   split at a
   ·omega
   ·have:=q6 aa m a;omega
  obtain⟨bV,cw,c4⟩:=ak (i+1) ((i,Y.after.toList.foldr (Cl ih) 0)::ih) cP aqq
  refine⟨by simp only[ZB,bV],λaa p az=> ?_,λbu fZ q9 p az=> ?_⟩
  ·cases aa with
   |zero=>simp only[ZX,Zf]at az;subst az;exact⟨rfl,Y,cX,rfl,rfl⟩
   |succ aa=>
    simp only[ZP]at az
    obtain⟨J,bx⟩:=cw aa p az
    exact⟨Zo,bx⟩
  ·have aJ:bu i (Y.after.toList.foldr (Cl ih) 0):=by
    refine q9 i Y _ cX (Zi _) λK aE=> ?_
    obtain⟨J,Q,U,ar⟩:=al0 _ K aE
    refine⟨J,Q,U,ar.imp id ?_⟩
    rintro⟨gm,aK,bH⟩
    exact⟨gm,fZ _ _ aK,bH⟩
   rcases Zt.1 az with rfl|az
   ·exact aJ
   ·refine c4 bu (λaa m a=> ?_) (λaa Y m Q U ar=>q9 aa Y m Q Zo ar) p az
    rw[qS]at a
    split at a
    ·rename_i J;subst J;cases a;exact aJ
    ·exact fZ aa m a
def auN{K:gh}:∀{l:List gh},Nu K l=true->∀b∈l,Nr K b=true:=by
 intro l
 induction l with
 |nil=>intro _ b a;simp at a
 |cons c l ak=>
  intro a b aj
  simp only[Nu,Zp]at a
  rcases Zt.1 aj with rfl|aj
  ·exact a.1
  ·exact ak a.2 b aj
def auL:∀{l:List gh},JE l=true->∀(aa i:Nat) K b,aa<i->l[aa]? =some K->l[i]? =some b->Nr K b=true:=by
 intro l
 induction l with
 |nil=>intro _ aa i K b _ a;simp at a
 |cons c l ak=>
  intro a aa i K b abi aE aj
  simp only[JE,Zp]at a
  obtain⟨i,rfl⟩:∃B,i=B+1:=⟨i-1,Zo⟩
  simp at aj
  cases aa with
  |zero=>simp at aE;subst aE;exact auN a.1 b (Zl aj)
  |succ aa=>simp at aE;exact ak a.2 aa i K b Zo aE aj
def auI:∀{l:List Oper}{i:Nat},DE l i=true->∀aa Y,l[aa]? =some Y->∀J∈Y.after.toList,Region.binds .any J=true->J.on<i+aa:=by
 intro l
 induction l with
 |nil=>intro i _ aa Y a;simp at a
 |cons K l ak=>
  intro i a aa Y bl J bx aj
  simp only[DE,Zp]at a
  cases aa with
  |zero=>
   simp at bl;subst bl
   have:=List.all_eq_true.1 a.1 J bx
   simp only[aj,Yi,Bool.false_or]at this
   have:=k4 this
   omega
  |succ aa=>
   simp at bl
   have:=ak a.2 aa Y bl J bx aj
   omega
def apB:∀{l:List gh},Iu l=true->∀(p:Nat) K b,l[p]? =some K->l[p+1]? =some b->fq b.m K.i=true:=by
 intro l
 induction l with
 |nil=>intro _ p K b a;simp at a
 |cons c l ak=>
  intro a p K b aE aj
  simp only[Iu,Zp]at a
  cases p with
  |zero=>
   simp at aE aj;subst aE
   cases l with
   |nil=>simp at aj
   |cons d l=>simp at aj;subst aj;exact a.1
  |succ p=>simp at aE aj;exact ak a.2 p K b aE (by simpa using aj)
def apA:∀(dq:List gh) (cs:List fi),Fh dq cs=(dq.zip cs).filter λx=>nr x.2.op:=by
 intro dq
 induction dq with
 |nil=>intro cs;rfl
 |cons p dq ak=>
  intro cs
  cases cs with
  |nil=>rfl
  |cons c cs=>
   simp only[Fh,List.zip_cons_cons,List.filter_cons,fw,ak]
def atu(aD:List gh):∀(dq:List gh) (cs:List fi),F4 aD dq cs=((dq.zip cs).filter λx=> !nr x.2.op).map λx=>⟨x.2,ua x.1.m aD,AU x.1.i aD⟩:=by
 intro dq
 induction dq with
 |nil=>intro cs;rfl
 |cons p dq ak=>
  intro cs
  cases cs with
  |nil=>rfl
  |cons c cs=>
   simp only[F4,List.zip_cons_cons,List.filter_cons,fw,ak]
   cases nr c.op<;>simp
def Lj:∀l:List (gh×fi),qa l=l.map (·.1):=by
 intro l
 induction l with
 |nil=>rfl
 |cons K l ak=>simp[qa,ak]
def alr(m:Nat):∀(aD:List gh) (B:Nat),(∀p a,aD[p]? =some a->B<=p->fq m a.i=false)->ua m aD<=B:=by
 intro aD
 induction aD with
 |nil=>intro B _;simp[ua]
 |cons a aD ak=>
  intro B aN
  simp only[ua,fw]
  cases B with
  |zero=>
   have:=aN 0 a rfl (Zi _)
   rw[this]
   have:=ak 0 (λp cy az _=>aN (p+1) cy (by simpa using az) Zo)
   simpa using this
  |succ B=>
   have:=ak B (λp cy az gl=>aN (p+1) cy (by simpa using az) Zo)
   split<;>omega
def ap0(i:Nat):∀(aD:List gh) (B:Nat),B<=aD.length->(∀p a,aD[p]? =some a->p<B->fq a.m i=false)->B<=AU i aD:=by
 intro aD
 induction aD with
 |nil=>intro B aN _;simp at aN;omega
 |cons a aD ak=>
  intro B r7 aN
  cases B with
  |zero=>omega
  |succ B=>
   have b6:=aN 0 a rfl Zo
   simp only[AU,b6,jF]
   have:=ak B (by simpa using r7) (λp cy az c1=>aN (p+1) cy (by simpa using az) Zo)
   omega
end Go.bi

