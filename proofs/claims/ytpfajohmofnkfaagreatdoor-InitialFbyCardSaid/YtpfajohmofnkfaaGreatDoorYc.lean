/- A part of the last text's proof; no condition of its own -/
import Derived.Test.YtpfajohmofnkfaaGreatDoorYb
import Derived.Laws.RangeString
set_option maxHeartbeats 8000000
set_option linter.all false
namespace Go.bd
open Go.RowKit (Below)
section
variable{P:Program}{w b1:World}{c7:Array TypeId}{ty st iE eg:TypeId}{i:TypeInfo}{dE:TypeDesc}{base:Option Addr}{g1 lz n:Nat}{X bz:Value}{qI new:Array Value}
def Q8(P:Program)(w:World)(dE:TypeDesc)(X:Value)(i:TypeInfo):Prop:=
 ((dE= .string\/∃E,dE= .slice E)/\(Builtin.lenOf X).run P w= .ok 0 w/\(Builtin.firstCells i.size 0 X).run P w= .ok #[] w)\/((∃ah,dE= .int ah)/\∃q,X= .int q 0)
def RG(aS:c7[0]? =some st)(I:c7[1]? =some iE)(dm:P.underlying st=some (.slice eg))(hR:P.underlying iE=some dE)(aN:P.info? eg=some i)
 (bZ:Q8 P w dE X i)(aE:g1<=lz):(Builtin.append_ c7 ty #[.slice base g1 lz,X]).run P w= .ok (.slice base g1 lz) w:=by
 rcases bZ with ⟨ju,h0,kA⟩|⟨⟨ah,rfl⟩,q,rfl⟩
 ·rcases ju with rfl|⟨_,rfl⟩<;>cases base<;>simp[Builtin.append_,aS,I,run_underlying dm,run_underlying hR,sizeOf,typeInfo,aN,h0,aE,kA,storeCells]
 ·have bt:IntKind.i64.wrap 0=0:=by decide
  have ay:¬((2:Int)^48<0):=by decide
  cases base<;>simp[Builtin.append_,aS,I,run_underlying dm,run_underlying hR,sizeOf,typeInfo,aN,asInt,asIntOf,bt,ay,aE,storeCells]
end
section
variable{C:aL}{S dd:c9}{ad dC:Nat->Prop}{h T:K ag}{j an bh:Nat}{w b1:World}
def ano{dE:TypeDesc}{X bz:Value}{i:TypeInfo}(a:y5 C.P w dE X i bz 0 (b2 S []).toArray):Q8 C.P w dE X i:=by
 rcases a with ⟨ju,h0,kA,_⟩|⟨_,_,_,_,lF,_⟩
 ·exact .inl ⟨ju,h0,kA⟩
 ·simp at lF
def arb{b U len bl n:Nat}(V:dq C S ad h j bh w)(aj:ad b)(a:yR C h b=some n)(aF:0<bl)(az:U+len*bl<=n):len<=((S b).room-U)/bl:=by
 have:=ahE V aj a
 rw[Y3 aF]
 omega
def aa8(V:dq C S ad h j bh w){c7:Array TypeId}{ty st iE eg:TypeId}{i:TypeInfo}{dE:TypeDesc}{s:D}{X:Value}{res:d6}
 (aS:c7[0]? =some st)(I:c7[1]? =some iE)(dm:C.P.underlying st=some (.slice eg))(hR:C.P.underlying iE=some dE)(aN:C.P.info? eg=some i)(eO:0<i.size)
 (bZ:Q8 C.P w dE X i)(ai:ck ad s)(a:Gv C h i.size s=some res):∃v,res= .val v/\ck ad v/\(Builtin.append_ c7 ty #[aQ S s,X]).run C.P w= .ok (aQ S v) w:=by
 unfold Gv at a
 split at a
 ·simp at a;subst a
  exact⟨_,rfl,trivial,by simp only[aQ];exact RG aS I dm hR aN bZ (Zi _)⟩
 ·simp only[e1,Zf]at a
  obtain⟨az,rfl⟩:=a
  exact⟨_,rfl,ai,by simp only[aQ];exact RG aS I dm hR aN bZ (jx az)⟩
 ·simp only[e1]at a
  obtain⟨bs,a⟩:=a
  have bs:=Zl bs
  subst bs
  split at a
  ·rename_i n aE
   simp only[e1,Zf]at a
   obtain⟨az,rfl⟩:=a
   exact⟨_,rfl,ai,by simp only[aQ];exact RG aS I dm hR aN bZ (arb V ai aE eO (jx az))⟩
  ·simp at a
 ·simp at a
def MQ(C:aL)(S:c9)(ad:Nat->Prop)(h:K ag)(j bh:Nat)(w:World)(s:Sem Value)(res:d6):Prop:=
 ∃v T an,res= .fs v T an/\∃dd dC b1,s.run C.P w= .ok (aQ dd v) b1/\ck dC v/\dq C dd dC T an bh b1/\iG C j S ad h bh w dd dC T b1/\j<=an
def sy(V:dq C S ad h j bh w):¬ad j:=λa=>zq (V.lt j a)
def anM(er:bh<=w.heap.size)(U:Obj):Below bh w (w.drew.alloc U):=(Below.drew (Below.refl bh w)).trans (Below.alloc (Below.refl bh w.drew) er U)
def Sr(V:dq C S ad h j bh w){pl:mR}(er:bh<=w.heap.size)(U:Obj)(gY:∀x,x≠j->¬ad x->Y C T x=Y C h x):iG C j S ad h bh w (gs S j pl) (add ad j) T (w.drew.alloc U):=
 ⟨rL (sy V),λ_ a=> .inl a,λx a=>a.elim .inl (λa=> .inr Zo),λx af az=>gY x Zo af,anM er U⟩
def ac6{k:List D}{rest:Array Value}{cap bl:Nat}(g:ep ad k)(aE:¬ad j)(az:k.length+rest.size=cap*bl)(eg:TypeId)(iO:List Nat):
 kk C (gs S j ⟨w.heap.size,0,cap*bl⟩) (add ad j) (.cells (K.ofList k 0 .nil) k.length (.grow iO)) ⟨w.heap.size,0,cap*bl⟩ (w.drew.alloc (.cells ((b2 S k).toArray++rest) eg)):=by
 have dL:=rL (S:=S) (pl:=⟨w.heap.size,0,cap*bl⟩) aE
 refine⟨_,eg,0,0,v2 w.drew _,⟨.inl rfl,by simp only;omega, ?_⟩, ?_,λi v bD=> ?_⟩
 ·simp only[YU,YA,j4];omega
 ·simp only[YU,YA,j4];omega
 ·rw[k4]at bD
  have fu:=Co g bD
  have c2:i<k.length:=(Zc.1 bD).1
  refine⟨?_,pz (λ_ a=> .inl a) v fu⟩
  rw[q0 dL fu,ZS,YE (by simpa[j4]using c2)]
  simp[Cb,bD]
def aiy(zero:Array Value)(n:Nat):(Builtin.zeroCells zero n).size=n*zero.size:=by simp[Builtin.zeroCells]
section
variable{c7:Array TypeId}{ty st iE eg:TypeId}{i:TypeInfo}{dE:TypeDesc}{X bz:Value}{n:Nat}{k:List D}
def ac4(V:dq C S ad h j bh w)(er:bh<=w.heap.size){s:D}{base:Option Addr}{g1 lz:Nat}{b0:List D}(uW:bz.cells.size=i.size)
 (aS:c7[0]? =some st)(I:c7[1]? =some iE)(dm:C.P.underlying st=some (.slice eg))(hR:C.P.underlying iE=some dE)(aN:C.P.info? eg=some i)(cr:i.zero=some bz)(eO:0<i.size)(n3:i.bytes<=65536)
 (bZ:y5 C.P w dE X i bz n (b2 S k).toArray)(iO:ep ad k)(az:k.length=n*i.size)(SS:ep ad b0)(oS:b0.length=g1*i.size)(aE:¬(g1+n<=lz))(aF:aQ S s= .slice base g1 lz)
 (bj:(Builtin.firstCells i.size g1 (.slice base g1 lz)).run C.P w.drew= .ok (b2 S b0).toArray w.drew)(yq:g1+n<=1048576){aP:K ag}(q9:List Nat)
 (dZ:Y C aP j=some (.cells (K.ofList (b0++k) 0 .nil) (b0++k).length (.grow q9)))(dI:dq C S ad T j bh w)(e9:∀x,x≠j->Y C aP x=Y C T x\/Y C aP x=none)
 (eH:∀x,x≠j->¬ad x->Y C aP x=Y C h x)(aed:∀x∈q9,ad x/\C.a2<=x):
 ∃dd dC b1,(Builtin.append_ c7 ty #[aQ S s,X]).run C.P w= .ok (aQ dd (.fl j 0 (g1+n) i.size)) b1/\ck dC (.fl j 0 (g1+n) i.size)/\dq C dd dC aP (j+1) bh b1/\iG C j S ad h bh w dd dC aP b1:=by
 obtain⟨cap,aA,oX⟩:=aa9 (ty:=ty) aS I dm hR aN cr bZ aE n3 yq bj
 have fI:(b0++k).length=(g1+n)*i.size:=by rw[ZO,oS,az,Ye]
 have Ph:(b0++k).length+(Builtin.zeroCells bz.cells (cap-(g1+n))).size=cap*i.size:=by
  rw[aiy,uW,fI, <-Ye]
  congr 1;omega
 have E:(b2 S b0).toArray++(b2 S k).toArray=(b2 S (b0++k)).toArray:=by rw[D6];simp
 rw[E]at oX
 have KI:=ac6 (C:=C) (S:=S) (w:=w) (Cn SS iO) (sy V) Ph eg q9
 refine⟨gs S j ⟨w.heap.size,0,cap*i.size⟩,add ad j,w.drew.alloc (.cells ((b2 S (b0++k)).toArray++Builtin.zeroCells bz.cells (cap-(g1+n))) eg), ?_, .inr rfl, ?_, ?_⟩
 ·rw[aF,oX]
  simp only[aQ,lE,ZS,zc]
  rw[Nat.mul_div_cancel _ eO]
 ·exact dI.drew.alloc V.a2 (Yq _) (Yf _) (sy V) er rfl dZ e9 KI ⟨λc aU bV a=>(by cases a;exact λx af=>⟨.inl (aed x af).1,(aed x af).2⟩),λc aU st a=>(by cases a;exact Iz)⟩
 ·exact Sr V er _ eH
def ac3{n bl:Nat}{res:d6}(a:uA C h j n bl k=some res):n<=1048576/\res= .fs (.fl j 0 n bl) (bn C h j (some (.cells (K.ofList k 0 .nil) k.length (.grow [])))) (j+1):=by
 unfold uA nE at a
 simp only[ms,hk,e1,Zf]at a
 exact⟨jx a.1,a.2.symm⟩
def ap5{b U len cap bl:Nat}{fT:List D}(V:dq C S ad h j bh w)(aj:ad b)(a:ns C h b U (len*bl)=some fT):
 (Builtin.firstCells bl len (.slice (some ⟨(S b).cH,(S b).ec+U,none⟩) len cap)).run C.P w.drew= .ok (b2 S fT).toArray w.drew/\ep ad fT:=by
 obtain⟨I,J⟩:=GI V.drew aj a
 exact⟨by simp[Builtin.firstCells,I],J⟩
def aBd{cm:Array Value}{ec U p:Nat}{c:K D}{fT k:List D}{q:Nat}(ay:p=ec+U+fT.length)(ch:p+k.length<=cm.size)(h6:ep ad fT)(iO:ep ad k)
 (aS:∀W v,fT[W]? =some v->cm[ec+U+W]? =some (aQ S v)):
 ∀W v,(fT++k)[W]? =some v->(la cm p (b2 S k))[ec+U+W]? =some (aQ S v)/\ck ad v:=by
 intro W v bD
 rw[Wd _ _ _ _ (by rw[j4];exact ch),j4]
 by_cases bK:W<fT.length
 ·rw[Z5 bK]at bD
  rw[Zg Zo]
  exact⟨aS W v bD,Co h6 bD⟩
 ·rw[ZX Zo]at bD
  have c2:W-fT.length<k.length:=(Zc.1 bD).1
  rw[Zu Zo,Cb,show ec+U+W-p=W-fT.length by omega,bD]
  exact⟨rfl,Co iO bD⟩
section
variable{c7:Array TypeId}{ty st iE eg:TypeId}{i:TypeInfo}{dE:TypeDesc}{X bz:Value}{n:Nat}{k:List D}
def ann(V:dq C S ad h j bh w)(er:bh<=w.heap.size)(uW:bz.cells.size=i.size){b U len:Nat}{res:d6}
 (aS:c7[0]? =some st)(I:c7[1]? =some iE)(dm:C.P.underlying st=some (.slice eg))(hR:C.P.underlying iE=some dE)(aN:C.P.info? eg=some i)(cr:i.zero=some bz)(eO:0<i.size)(n3:i.bytes<=65536)
 (bZ:y5 C.P w dE X i bz n (b2 S k).toArray)(iO:ep ad k)(az:k.length=n*i.size)(aH:ad b)(gP:0<n)(a:JF C h j b U len i.size n k=some res):
 MQ C S ad h j bh w (Builtin.append_ c7 ty #[aQ S (.fl b U len i.size),X]) res:=by
 unfold JF at a
 split at a
 ·rename_i c size fv bj
  simp only[e1]at a
  obtain⟨KL,a⟩:=a
  have aj:C.a2<=b:=jx KL
  obtain⟨cm,dH,b0,wa,ba,cj,a3,a4⟩:=V.obj b _ bj aH
  obtain⟨Hp,aux,as0⟩:=cj
  have Cw:=V.base b _ aj bj aH
  have Hy:=(V.fv b _ bj aH).1 _ _ _ rfl
  have tj:=(V.fv b _ bj aH).2 _ _ _ rfl
  have yp:b≠j:=λE=>zq (V.lt b aH)
  have oT:=sy V
  rw[fA]at a
  split at a
  ·
   rename_i ad6
   have ad6:U+(len+n)*i.size<=size:=jx ad6
   split at a
   ·rename_i T bt
    simp at a;subst a
    obtain⟨b1,bR,cq,cP⟩:=RC V (di:=j) aH iO bt
    have mY:len+n<=((S b).room-U)/i.size:=by
     rw[Y3 eO];omega
    refine⟨_,_,_,rfl,S,ad,b1, ?_,aH,cq,cP,Zi _⟩
    simp only[aQ]
    refine Nc aS I dm hR aN cr bZ mY ?_
    rw[rZ,ZJ]
    exact bR
   ·simp at a
  ·simp only[e1,Zp]at a
   obtain⟨⟨yq,rn⟩,a⟩:=a
   have yq:=jx yq
   have ys:∀v∈b2 S k,v.oneCell'=true:=agG rn
   have fI:(len+n)*i.size=len*i.size+n*i.size:=Ye ..
   rw[fA]at a
   split at a
   ·
    rename_i EI
    simp only[Zp]at EI
    have bF:U+len*i.size=size:=Zl EI.1
    have cn:U=0:=Zl EI.2
    subst cn
    have bF:len*i.size=size:=Zo
    simp only[hk,nE,ms,Zf]at a
    subst a
    have tw:=V.azy aj aH bj
    by_cases mY:len+n<=((S b).room-0)/i.size
    ·
     have auy:(len+n)*i.size<=(S b).room:=by
      have:=(Y3 eO).1 mY;omega
     have auO:=V6 C.P (S b).cH ((S b).ec+size) dH b0 wa (b2 S k) 0 cm w ba (Hp.imp (λE=>Y9 E.symm) id) (by rw[j4];omega)
     ·have UD:=auO ys
      have qB:∀q,q≠(S b).cH->(w.setRow (S b).cH (la cm ((S b).ec+size+0) (b2 S k))).heap[q]? =w.heap[q]? :=λq aD=>setRow_other w _ q _ aD
      have e3:=setRow_heap w (S b).cH cm (la cm ((S b).ec+size+0) (b2 S k)) dH (b0,wa) ba
      have dL:=rL (S:=S) (pl:=S b) oT
      have EP:kk C (gs S j (S b)) (add ad j) (.cells (dN c size k) (size+k.length) (.grow (b::fv))) (S b) (w.setRow (S b).cH (la cm ((S b).ec+size+0) (b2 S k))):=by
       refine⟨_,dH,b0,wa,e3,⟨by rw[yP];exact Hp,Zo,by rw[yP];exact as0⟩,by rw[yP];omega,λW v bD=> ?_⟩
       obtain⟨b3,b7⟩:=aiq (S:=S) (ad:=ad) (c:=c) (cm:=cm) (ec:=(S b).ec) (U:=size) (n:=size+k.length) iO Zo Zo a4 W v bD
       exact⟨by rw[q0 dL b7];exact b3,pz (λ_ a=> .inl a) v b7⟩
      have Uu:=tw.share (j:=j) (b1:=w.setRow (S b).cH (la cm ((S b).ec+size+0) (b2 S k))) (pl:=S b) (cY:= .cells (dN c size k) (size+k.length) (.grow (b::fv))) Cw rfl qB EP
       ⟨λf5 aU bV a=>(by
        cases a
        intro x af
        rcases Zr.1 af with rfl|af
        ·exact⟨.inl aH,aj⟩
        ·exact⟨.inl (Hy x af).1,(Hy x af).2⟩),
        λf5 aU ii a=>(by cases a;exact QL (Zi _) λW v bD=>ZP (tj W v bD) (zd _ _))⟩
       (λx dt af dE uV=>by
        have afD:∀f5 aU,dt= .cells f5 aU .ki->aU<=size->(S x).ec=(S b).ec->kk C S ad dt (S x) (w.setRow (S b).cH (la cm ((S b).ec+size+0) (b2 S k))):=by
         intro f5 aU E O1 mf
         subst E
         have c2:=(tw.fv x _ af dE).2 _ _ _ rfl
         obtain⟨Gw,QB,ss,lu,bQ,cf,cM,ew⟩:=tw.obj x _ af dE
         rw[uV,ba]at bQ
         cases bQ
         refine⟨_,dH,b0,wa,by rw[uV];exact e3,by rw[yP];exact cf,by rw[yP];exact cM,λW v bD=> ?_⟩
         obtain⟨b3,b7⟩:=ew W v bD
         have:=c2 W v bD
         refine⟨?_,b7⟩
         rw[Wd _ _ _ _ (by rw[j4];omega),Zg Zo]
         exact b3
        by_cases E:x=b
        ·subst E
         rw[fX _ aj,Zu rfl]at af;cases af
         exact⟨afD c size rfl (Zi _) rfl, .inr (.inl ⟨_,_,_,_,_,rfl,rfl,Zs,Zo⟩), .inr (.inr ⟨_,_,_,_,_,rfl,rfl,Zs,Zo⟩),rfl⟩
        ·rw[fX _ aj,Zg E]at af
         obtain⟨lL,rr⟩:=V.sep b x _ dt bj af aH dE (λah=>E ah.symm) aj uV.symm
         rcases lL with ⟨_,_,_,_,ah,_⟩|⟨_,_,bV,f5,aU,ah,rfl,bp,gq⟩|⟨_,_,_,_,_,_,ah,_⟩
         ·cases ah
         ·cases ah
          refine⟨afD f5 aU rfl gq rr.symm, .inr (.inl ⟨_,_,_,_,_,rfl,rfl,Zt _ bp,Zo⟩), .inr (.inr ⟨_,_,_,_,_,rfl,rfl,Zt _ bp,Zo⟩),rr⟩
         ·cases ah)
      refine⟨_,_,_,rfl,gs S j (S b),add ad j,_, ?_, .inr rfl,Uu,⟨dL,λ_ a=> .inl a,λx a=>a.elim .inl (λa=> .inr Zo),λx af c2=> ?_,RL Cw _ _⟩,Yf _⟩
      ·simp only[aQ,lE]
       rw[ZW]
       refine Nc aS I dm hR aN cr bZ mY ?_
       rw[rZ,bF]
       exact UD
      ·have uV:x≠b:=λE=>af (by rw[E];exact aH)
       rw[fX _ V.a2,Zg Zo,fX _ aj,Zg uV]
    ·
     have Ui:(Builtin.firstCells i.size len (.slice (some ⟨(S b).cH,(S b).ec+0,none⟩) len (((S b).room-0)/i.size))).run C.P w.drew= .ok ((cm.toList.drop (S b).ec).take size).toArray w.drew:=by
      have pF:=run_loadCells_list (P:=C.P) w.drew ⟨(S b).cH,(S b).ec+0,none⟩ ((cm.toList.drop (S b).ec).take size) (λW v bD=>by
       rw[rZ]
       have bK:W<size:=by
        have:=(Zc.1 bD).1
        simp at this;omega
       rw[YW bK,YJ]at bD
       have amN:w.drew.heap[(S b).cH]? =some (.cells cm dH (b0,wa)):=ba
       simp only[World.cell?,amN]
       simpa[ZR]using bD)
      have we:((cm.toList.drop (S b).ec).take size).length=size:=by simp;omega
      rw[we]at pF
      simp only[Builtin.firstCells,bF]
      exact pF
     obtain⟨cap,aA,oX⟩:=aa9 (ty:=ty) aS I dm hR aN cr bZ mY n3 yq Ui
     have we:((cm.toList.drop (S b).ec).take size).length=size:=by simp;omega
     have Ph:size+k.length+(Builtin.zeroCells bz.cells (cap-(len+n))).size=cap*i.size:=by
      rw[aiy,uW,az, <-bF, <-Ye, <-Ye]
      congr 1;omega
     have dL:=rL (S:=S) (pl:=⟨w.heap.size,0,cap*i.size⟩) oT
     have EP:kk C (gs S j ⟨w.heap.size,0,cap*i.size⟩) (add ad j) (.cells (dN c size k) (size+k.length) (.grow (b::fv))) ⟨w.heap.size,0,cap*i.size⟩
      (w.drew.alloc (.cells (((cm.toList.drop (S b).ec).take size).toArray++(b2 S k).toArray++Builtin.zeroCells bz.cells (cap-(len+n))) eg)):=by
      refine⟨_,eg,0,0,v2 w.drew _,⟨.inl rfl,by simp only;omega, ?_⟩, ?_,λW v bD=> ?_⟩
      ·simp only[YU,YA,j4,we];omega
      ·simp only[YU,YA,j4,we];omega
      ·rw[WL,K.N0]at bD
       simp only[ZS]
       split at bD
       ·rename_i bK
        have fu:=Co iO bD
        refine⟨?_,pz (λ_ a=> .inl a) v fu⟩
        rw[q0 dL fu,YE (by simp only[YU,YA,j4,we];omega),Array.getElem?_append_right (by simp only[YA,we];omega)]
        simp only[YA,we,List.getElem?_toArray,Cb,bD,ZU]
       ·have bK:=tj W v bD
        obtain⟨b3,b7⟩:=a4 W v bD
        refine⟨?_,pz (λ_ a=> .inl a) v b7⟩
        rw[q0 dL b7,YE (by simp only[YU,YA,j4,we];omega),YE (by simp only[YA,we];omega)]
        rw[List.getElem?_toArray,YW bK,YJ,ZR]
        exact b3
     have dZ:Y C (bn C (bn C h b (some (.cells c size .ki))) j (some (.cells (dN c size k) (size+k.length) (.grow (b::fv))))) j=some (.cells (dN c size k) (size+k.length) (.grow (b::fv))):=by
      rw[fX _ V.a2,Zu rfl]
     refine⟨_,_,_,rfl,gs S j ⟨w.heap.size,0,cap*i.size⟩,add ad j,_, ?_, .inr rfl,tw.drew.alloc V.a2 (Yq _) (Yf _) oT er rfl dZ (λx af=> .inl ?_) EP ?_,Sr V er _ (λx af UJ=> ?_),Yf _⟩
     ·simp only[aQ,lE,ZS,zc]
      simp only[ZW,zc]at oX ⊢
      rw[oX,Nat.mul_div_cancel _ eO]
     ·rw[fX _ V.a2,Zg af]
     ·exact⟨λf5 aU bV a=>(by
           cases a
           intro x af
           rcases Zr.1 af with rfl|af
           ·exact⟨.inl aH,aj⟩
           ·exact⟨.inl (Hy x af).1,(Hy x af).2⟩),
       λf5 aU ii a=>(by cases a;exact QL (Zi _) λW v bD=>ZP (tj W v bD) (zd _ _))⟩
     ·have uV:x≠b:=λE=>UJ (by rw[E];exact aH)
      rw[fX _ V.a2,Zg af,fX _ aj,Zg uV]
   ·
    split at a
    ·rename_i fT pF
     simp only[nE,ms,hk,Zf]at a
     subst a
     have aeu:fT.length=len*i.size:=afW pF
     have iy:cellsOf C h b=some c:=by simp[cellsOf,bj]
     have T0:∀x,x≠b->Y C (bn C (qE C fv h) b none) x=if x∈fv then none else Y C h x:=λx af=>by
      rw[fX _ aj,Zg af,aec _ _ _ λe z=>(Hy e z).2]
     have aeo:Y C (bn C (qE C fv h) b none) b=none:=by rw[fX _ aj,Zu rfl]
     have ad4:dq C S ad (bn C (qE C fv h) b none) j bh w:=V.acu λx=>by
      by_cases E:x=b
      ·subst E;exact .inr aeo
      ·rw[T0 x E];split
       ·exact .inr rfl
       ·exact .inl rfl
     have OS:∀x,¬ad x->Y C (bn C (qE C fv h) b none) x=Y C h x:=λx af=>by
      have uV:x≠b:=λE=>af (by rw[E];exact aH)
      rw[T0 x uV,Zg λbp=>af (Hy x bp).1]
     have pH:Y C (bn C (bn C (qE C fv h) b none) j (some (.cells (K.ofList (fT++k) 0 .nil) (fT++k).length (.grow [])))) j=some (.cells (K.ofList (fT++k) 0 .nil) (fT++k).length (.grow [])):=by
      rw[fX _ V.a2,Zu rfl]
     have jU:∀x,x≠j->Y C (bn C (bn C (qE C fv h) b none) j (some (.cells (K.ofList (fT++k) 0 .nil) (fT++k).length (.grow [])))) x=Y C (bn C (qE C fv h) b none) x:=λx af=>by
      rw[fX _ V.a2,Zg af]
     obtain⟨OI,OJ⟩:=No V aH iy pF
     by_cases mY:len+n<=((S b).room-U)/i.size
     ·
      have HC:0<(len+n)*i.size:=Nat.mul_pos Zo eO
      have auy:U+(len+n)*i.size<=(S b).room:=by
       have am:=(Y3 eO).1 mY
       omega
      have UD:=V6 C.P (S b).cH ((S b).ec+(U+len*i.size)) dH b0 wa (b2 S k) 0 cm w ba (Hp.imp (λE=>Y9 E.symm) id) (by rw[j4];omega) ys
      have qB:∀q,q≠(S b).cH->(w.setRow (S b).cH (la cm ((S b).ec+(U+len*i.size)+0) (b2 S k))).heap[q]? =w.heap[q]? :=λq aD=>setRow_other w _ q _ aD
      have e3:=setRow_heap w (S b).cH cm (la cm ((S b).ec+(U+len*i.size)+0) (b2 S k)) dH (b0,wa) ba
      have dL:=rL (S:=S) (pl:=⟨(S b).cH,(S b).ec+U,(S b).room-U⟩) oT
      have aDi:(fT++k).length=(len+n)*i.size:=by rw[ZO,aeu,az,Ye]
      have EP:kk C (gs S j ⟨(S b).cH,(S b).ec+U,(S b).room-U⟩) (add ad j) (.cells (K.ofList (fT++k) 0 .nil) (fT++k).length (.grow [])) ⟨(S b).cH,(S b).ec+U,(S b).room-U⟩ (w.setRow (S b).cH (la cm ((S b).ec+(U+len*i.size)+0) (b2 S k))):=by
       refine⟨_,dH,b0,wa,e3,⟨by rw[yP];exact Hp,by simp only;omega,by rw[yP];simp only;omega⟩,by rw[yP];simp only;omega,λW v bD=> ?_⟩
       rw[k4]at bD
       obtain⟨b3,b7⟩:=aBd (S:=S) (ad:=ad) (cm:=cm) (ec:=(S b).ec) (U:=U) (p:=(S b).ec+(U+len*i.size)+0) (c:=c) (q:=0) Zo Zo OJ iO (λW v bD=>by
        have uO:W<len*i.size:=zq (Zc.1 bD).1
        have:=(K.SR _ _ _ _ pF).2 W uO
        rw[bD]at this
        have:=(a4 _ _ this).1
        rw[<-ZJ]at this
        exact this) W v bD
       exact⟨by rw[q0 dL b7];exact b3,pz (λ_ a=> .inl a) v b7⟩
      have Uu:=ad4.share (b1:=w.setRow (S b).cH (la cm ((S b).ec+(U+len*i.size)+0) (b2 S k))) (pl:=⟨(S b).cH,(S b).ec+U,(S b).room-U⟩) (cY:= .cells (K.ofList (fT++k) 0 .nil) (fT++k).length (.grow [])) Cw rfl qB EP
       ⟨λf5 aU bV a=>(by cases a;simp),λf5 aU ii a=>(by cases a;exact Iz)⟩
       (λx dt af dE uV=>by
        exfalso
        by_cases E:x=b
        ·subst E;rw[aeo]at af;cases af
        ·rw[T0 x E]at af
         split at af
         ·cases af
         ·rename_i Uc
          rcases(V.sep b x _ dt bj af aH dE (λah=>E ah.symm) aj uV.symm).1 with ⟨_,_,_,_,ah,_⟩|⟨_,_,bV,f5,aU,ah,_,bp,_⟩|⟨_,_,_,_,_,_,ah,_⟩
          ·cases ah
          ·cases ah;exact Uc bp
          ·cases ah)
      refine⟨_,_,_,rfl,gs S j ⟨(S b).cH,(S b).ec+U,(S b).room-U⟩,add ad j,_, ?_, .inr rfl,Uu,⟨dL,λ_ a=> .inl a,λx a=>a.elim .inl (λa=> .inr Zo),λx af c2=> ?_,RL Cw _ _⟩,Yf _⟩
      ·simp only[aQ,lE,ZW,zc]
       refine Nc aS I dm hR aN cr bZ mY ?_
       rw[rZ,ZJ]
       exact UD
      ·rw[fX _ V.a2,Zg Zo,OS x af]
     ·have KQ:(Builtin.firstCells i.size len (.slice (some ⟨(S b).cH,(S b).ec+U,none⟩) len (((S b).room-U)/i.size))).run C.P w.drew= .ok (b2 S fT).toArray w.drew:=by
       obtain⟨TQ,_⟩:=No V.drew aH iy pF
       simp[Builtin.firstCells,TQ]
      obtain⟨dd,dC,b1,eL,e7,hE,pa⟩:=ac4 (ty:=ty) V er (s:= .fl b U len i.size) (b0:=fT) uW aS I dm hR aN cr eO n3 bZ iO az OJ aeu mY rfl KQ yq []
       pH ad4 (λx af=> .inl (jU x af)) (λx af UJ=>by rw[jU x af,OS x UJ]) Zs
      exact⟨_,_,_,rfl,dd,dC,b1,eL,e7,hE,pa,Yf _⟩
    ·simp at a
 ·simp at a
end
end
end
end Go.bd

namespace Go.bd
open Go.RowKit (Below)
section
variable{C:aL}{S dd:c9}{ad dC:Nat->Prop}{h T:K ag}{j an bh:Nat}{w b1:World}
section
variable{c7:Array TypeId}{ty st iE eg:TypeId}{i:TypeInfo}{dE:TypeDesc}{X bz:Value}{n:Nat}{k:List D}
def ac5(V:dq C S ad h j bh w)(er:bh<=w.heap.size){s:D}{base:Option Addr}{g1 lz:Nat}{b0:List D}{res:d6}(uW:bz.cells.size=i.size)
 (aS:c7[0]? =some st)(I:c7[1]? =some iE)(dm:C.P.underlying st=some (.slice eg))(hR:C.P.underlying iE=some dE)(aN:C.P.info? eg=some i)(cr:i.zero=some bz)(eO:0<i.size)(n3:i.bytes<=65536)
 (bZ:y5 C.P w dE X i bz n (b2 S k).toArray)(iO:ep ad k)(az:k.length=n*i.size)(SS:ep ad b0)(oS:b0.length=g1*i.size)(aE:¬(g1+n<=lz))(aF:aQ S s= .slice base g1 lz)
 (bj:(Builtin.firstCells i.size g1 (.slice base g1 lz)).run C.P w.drew= .ok (b2 S b0).toArray w.drew)(a:uA C h j (g1+n) i.size (b0++k)=some res):
 MQ C S ad h j bh w (Builtin.append_ c7 ty #[aQ S s,X]) res:=by
 obtain⟨yq,rfl⟩:=ac3 a
 obtain⟨dd,dC,b1,eL,e7,hE,pa⟩:=ac4 (ty:=ty) V er (T:=h) uW aS I dm hR aN cr eO n3 bZ iO az SS oS aE aF bj yq (aP:=bn C h j (some (.cells (K.ofList (b0++k) 0 .nil) (b0++k).length (.grow [])))) []
  (by rw[fX _ V.a2,Zu rfl]) V (λx af=> .inl (by rw[fX _ V.a2,Zg af])) (λx af _=>by rw[fX _ V.a2,Zg af]) Zs
 exact⟨_,_,_,rfl,dd,dC,b1,eL,e7,hE,pa,Yf _⟩
def aa7(V:dq C S ad h j bh w)(er:bh<=w.heap.size)(uW:bz.cells.size=i.size){s:D}{res:d6}
 (aS:c7[0]? =some st)(I:c7[1]? =some iE)(dm:C.P.underlying st=some (.slice eg))(hR:C.P.underlying iE=some dE)(aN:C.P.info? eg=some i)(cr:i.zero=some bz)(eO:0<i.size)(n3:i.bytes<=65536)
 (bZ:y5 C.P w dE X i bz n (b2 S k).toArray)(iO:ep ad k)(az:k.length=n*i.size)(ai:ck ad s)(gP:0<n)(a:Af C h j i.size n k s=some res):
 MQ C S ad h j bh w (Builtin.append_ c7 ty #[aQ S s,X]) res:=by
 unfold Af at a
 split at a
 ·refine ac5 (g1:=0) (lz:=0) (b0:=[]) (base:=none) V er uW aS I dm hR aN cr eO n3 bZ iO az trivial Zs Zo rfl ?_ (by simpa using a)
  simp[Builtin.firstCells,b2]
 ·rename_i b U len cap
  rw[fA]at a
  split at a
  ·rename_i mY
   have mY:=jx mY
   split at a
   ·rename_i T bt
    simp at a;subst a
    obtain⟨b1,bR,cq,cP⟩:=RC V (di:=j) ai iO bt
    refine⟨_,_,_,rfl,S,ad,b1, ?_,ai,cq,cP,Zi _⟩
    simp only[aQ]
    refine Nc aS I dm hR aN cr bZ mY ?_
    rw[rZ,ZJ]
    exact bR
   ·simp at a
  ·rename_i mY
   have mY:¬(len+n<=cap):=λah=>mY (by simpa using ah)
   split at a
   ·rename_i fT pF
    obtain⟨bR,cq⟩:=ap5 (bl:=i.size) (cap:=cap) V ai pF
    exact ac5 V er uW aS I dm hR aN cr eO n3 bZ iO az cq (RX pF) mY rfl bR a
   ·simp at a
 ·rename_i b U len yT
  simp only[e1]at a
  obtain⟨bs,a⟩:=a
  have bs:=Zl bs
  subst bs
  exact ann V er uW aS I dm hR aN cr eO n3 bZ iO az ai gP a
 ·simp at a
end
def Q7(C:aL)(S:c9)(ad:Nat->Prop)(h:K ag)(j bh:Nat)(w:World)(s:Sem Value)(res:d6):Prop:=
 MQ C S ad h j bh w s res\/∃v,res= .val v/\ck ad v/\s.run C.P w= .ok (aQ S v) w
def aaV(V:dq C S ad h j bh w)(er:bh<=w.heap.size){c7:Array TypeId}{ty st iE:TypeId}{dE:TypeDesc}{s x:D}{res:d6}
 (aS:c7[0]? =some st)(I:c7[1]? =some iE)(hR:C.P.underlying iE=some dE)(v1:dE= .string\/∃E,dE= .slice E)(ai:ck ad s)(fE:ck ad x)(a:Gp C h j st s x=some res):
 Q7 C S ad h j bh w (Builtin.append_ c7 ty #[aQ S s,aQ S x]) res:=by
 unfold Gp at a
 split at a
 ·rename_i eg dm
  split at a
  ·rename_i i aN
   split at a
   ·rename_i n k ks
    simp only[e1,Zp]at a
    obtain⟨⟨⟨eO,n3⟩,Pq⟩,a⟩:=a
    have eO:=lG eO
    have n3:=jx n3
    obtain⟨bz,cr,uW⟩:∃bz,i.zero=some bz/\bz.cells.size=i.size:=by
     unfold aiz at Pq
     split at Pq
     ·rename_i bz cr
      exact⟨bz,cr,Zl Pq⟩
     ·simp at Pq
    obtain⟨bZ,iO,az⟩:=aAw (bz:=bz) V fE v1 ks
    rw[hK]at a
    split at a
    ·rename_i aE
     subst aE
     have:k=[]:=List.length_eq_zero_iff.1 (by rw[az];simp)
     subst this
     obtain⟨v,eL,e7,hE⟩:=aa8 (ty:=ty) V aS I dm hR aN eO (ano bZ) ai a
     exact .inr ⟨v,eL,e7,hE⟩
    ·exact .inl (aa7 V er uW aS I dm hR aN cr eO n3 bZ iO az ai Zo a)
   ·simp at a
  ·simp at a
 ·simp at a
def amV(V:dq C S ad h j bh w)(er:bh<=w.heap.size){c7:Array TypeId}{ty st iE:TypeId}{ah:IntKind}{s x:D}{n:Nat}{res:d6}
 (aS:c7[0]? =some st)(I:c7[1]? =some iE)(hR:C.P.underlying iE=some (.int ah))(ai:ck ad s)(af:nD x=some n)(a:M7 C h j st s n=some res):
 Q7 C S ad h j bh w (Builtin.append_ c7 ty #[aQ S s,aQ S x]) res:=by
 obtain⟨q,rfl⟩:=Fm af
 unfold M7 at a
 split at a
 ·rename_i eg dm
  split at a
  ·rename_i i bz aN lN
   simp only[e1,Zp]at a
   obtain⟨⟨⟨⟨eO,n3⟩,HV⟩,yp⟩,a⟩:=a
   have eO:=lG eO
   have n3:=jx n3
   have yp:=jx yp
   have HV:bz.cells.length=i.size:=Zl HV
   have cr:i.zero=some (aQ S bz)/\ck ad bz:=by
    unfold ub at lN
    rw[aN]at lN
    simp only at lN
    split at lN
    ·rename_i ac bb
     obtain⟨E,g⟩:=PX (S:=S) (ad:=ad) lN
     exact⟨by rw[bb,E],g⟩
    ·simp at lN
   rw[hK]at a
   split at a
   ·rename_i aE
    subst aE
    obtain⟨v,eL,e7,hE⟩:=aa8 (ty:=ty) V aS I dm hR aN eO (.inr ⟨⟨ah,rfl⟩,q,rfl⟩) ai a
    exact .inr ⟨v,eL,e7,hE⟩
   ·rename_i aE
    have bZ:y5 C.P w (.int ah) (aQ S (.int q (Int.ofNat n))) i (aQ S bz) n (b2 S (k7 n bz.cells)).toArray:=
     .inr ⟨⟨ah,rfl⟩,⟨q,rfl⟩,yp,n3,zq (Nat.mul_pos (Nat.pos_of_ne_zero aE) eO),(aCf S bz n).symm⟩
    exact .inl (aa7 V er (by rw[vz];simp[j4,HV]) aS I dm hR aN cr.1 eO n3 bZ (SW (vA cr.2) n) (by rw[FI,HV]) ai Zo a)
  ·simp at a
 ·simp at a
end
end Go.bd

namespace Go.bd
open Go.RowKit (Below)
section
variable{C:aL}{S dd:c9}{ad dC:Nat->Prop}{h T:K ag}{j an bh:Nat}{w b1:World}
def nl(C:aL)(S:c9)(ad:Nat->Prop)(h:K ag)(j bh:Nat)(w:World)(s:Sem Value)(v:D)(T:K ag)(an:Nat):Prop:=
 ∃dd dC b1,s.run C.P w= .ok (aQ dd v) b1/\ck dC v/\dq C dd dC T an bh b1/\iG C j S ad h bh w dd dC T b1/\j<=an
def nl.done{s:Sem Value}{v:D}(a:nl C S ad h j bh w s v T an):BS C S ad h j bh w (do pure (.value (<-s))) v T an:=by
 obtain⟨dd,dC,b1,I,J,am,aB,bk⟩:=a
 exact⟨dd,dC,b1, .value (aQ dd v),by simp[I], .inl rfl,J,am,aB,bk⟩
def nl.same(V:dq C S ad h j bh w){s:Sem Value}{v:D}(a:s.run C.P w= .ok (aQ S v) w)(g:ck ad v):nl C S ad h j bh w s v h j:=
 ⟨S,ad,w,a,g,V, .refl,Zi _⟩
def LY(V:dq C S ad h j bh w)(er:bh<=w.heap.size){s:Sem Value}{v:D}{cY:ag}{U:Obj}(aF:s.run C.P w= .ok (aQ (gs S j ⟨w.heap.size,0,0⟩) v) (w.alloc U))(fu:ck (add ad j) v)
 (bj:kk C (gs S j ⟨w.heap.size,0,0⟩) (add ad j) cY ⟨w.heap.size,0,0⟩ (w.alloc U))(uQ:xG C (add ad j) cY):nl C S ad h j bh w s v (bn C h j (some cY)) (j+1):=by
 have aj:=V.a2
 refine⟨_,_,_,aF,fu,V.alloc aj (Yq _) (Yf _) (sy V) er rfl (by rw[fX _ aj,Zu rfl]) (λx af=> .inl (by rw[fX _ aj,Zg af])) bj uQ, ?_,Yf _⟩
 exact⟨rL (sy V),λ_ a=> .inl a,λx a=>a.elim .inl (λa=> .inr Zo),λx af az=>by rw[fX _ aj,Zg Zo],Below.alloc (Below.refl bh w) er U⟩
def LX{U:ag}{q:Nat->D}{res:d6}(a:nE C h j U q=some res):res= .fs (q j) (bn C h j (some U)) (j+1):=by
 unfold nE at a
 simp only[ms,hk,Zf]at a
 exact a.symm
def aEj(V:dq C S ad h j bh w){t:Nat}{m q:Operand}{av:Operand->Value}{ev:Operand->Option D}{res:d6}(cC:jv S ad av ev [m,q])(a:Ky C t m q h j ev=some res):
 ∃v T,res= .fs v T j/\nl C S ad h j bh w (Instr.mapEntry t (av m) (av q)) v T j:=by
 simp[Ky]at a
def aCB(V:dq C S ad h j bh w){t:Nat}{m s x:Operand}{av:Operand->Value}{ev:Operand->Option D}{res:d6}(cC:jv S ad av ev [m,s,x])(a:Kq C m s x h j ev=some res):
 ∃T b1,res= .fs undef T j/\(Instr.entryStore t (av m) (av s) (av x)).run C.P w= .ok () b1/\dq C S ad T j bh b1/\iG C j S ad h bh w S ad T b1:=by
 simp[Kq]at a
def axc(V:dq C S ad h j bh w)(er:bh<=w.heap.size){t:Nat}{k c:Operand}{av:Operand->Value}{ev:Operand->Option D}{res:d6}(cC:jv S ad av ev [k,c])(a:Kx C t k c h j ev=some res):
 ∃v T an,res= .fs v T an/\nl C S ad h j bh w (Instr.makeSlice t (av k) (av c)) v T an:=by
 unfold Kx at a
 split at a
 ·rename_i eg aEg vy bb az aA
  obtain⟨uu,_⟩:=cC k Zs _ az
  obtain⟨ao7,_⟩:=cC c Zs _ aA
  rw[uu,ao7]
  split at a
  ·rename_i Vn lH i bz d5 yj aN cr
   obtain⟨cG,rfl⟩:=Fm d5
   obtain⟨cw,rfl⟩:=Fm yj
   simp only[e1,Zp]at a
   obtain⟨⟨⟨⟨⟨I,J⟩,am⟩,aB⟩,bk⟩,a⟩:=a
   have I:=jx I
   have J:=jx J
   have am:=jx am
   have aB:=lG aB
   have bk:bz.cells.length=i.size:=Zl bk
   have:=LX a;subst this
   obtain⟨f1,fD⟩:=FJ cr S ad w
   refine⟨_,_,_,rfl,LY V er (U:= .cells (b2 S (k7 lH bz.cells)).toArray eg) ?_ (.inr rfl) ?_ ⟨λ_ _ _ a=>(by cases a),λ_ _ _ a=>(by cases a;rw[<-bk, <-FI];exact Iz)⟩⟩
   ·have lf:=wrap_small (n:=Vn) Zo
    have mM:=wrap_small J
    have oO:¬((281474976710656:Int)<(i.bytes:Int)*(lH:Int)):=by
     rw[Int.mul_comm];exact RS J am
    have yh:¬((lH:Int)<0):=Zo
    have pF:¬((Vn:Int)<0):=Zo
    have T1:¬((lH:Int)<(Vn:Int)):=Zo
    have HG:=ahm S bz.cells i.size lH bk (if lH*i.size=0 then #[]else(aQ S bz).cells) (λc8=>by rw[Zg c8,vz])
    by_cases lN:lH*i.size=0
    ·rw[Zu lN]at HG
     rw[<-HG]
     simp[Instr.makeSlice,run_underlying bb,aQ,asInt,asIntOf,typeInfo,aN,lf,mM,oO,yh,pF,T1,sizeOf,lN,newRow,lE]
    ·rw[Zg lN]at HG
     rw[<-HG]
     simp[Instr.makeSlice,run_underlying bb,aQ,asInt,asIntOf,typeInfo,aN,lf,mM,oO,yh,pF,T1,sizeOf,lN,newRow,lE,f1]
   ·have g:=SW (vA fD) lH
    have:=Nn (C:=C) (S:=gs S j ⟨w.heap.size,0,0⟩) (ad:=add ad j) (r8 (λ_ a=> .inl a) _ g) eg 0 w
    rw[Al (rL (sy V)) g,FI,bk]at this
    exact this
  ·simp at a
 ·simp at a
def axa(V:dq C S ad h j bh w)(er:bh<=w.heap.size){t:Nat}{r:Operand}{av:Operand->Value}{ev:Operand->Option D}{res:d6}(cC:jv S ad av ev [r])(a:Kw C t r h j ev=some res):
 ∃v T an,res= .fs v T an/\nl C S ad h j bh w (Instr.makeMap t (some (av r))) v T an:=by
 unfold Kw at a
 split at a
 ·rename_i jV Cg ah n bb af
  obtain⟨E,_⟩:=cC r Zs _ af
  have:=LX a;subst this
  refine⟨_,_,_,rfl,LY V er (U:= .map #[] 0) ?_ (.inr rfl) ⟨#[],v2 _ _,rfl,Zs⟩ ⟨λ_ _ _ a=>(by cases a),λ_ _ _ a=>(by cases a)⟩⟩
  simp[Instr.makeMap,run_underlying bb,E,aQ,asInt,asIntOf,lE]
 ·simp at a
def aza(V:dq C S ad h j bh w)(er:bh<=w.heap.size){t:Nat}{x:Operand}{av:Operand->Value}{ev:Operand->Option D}{res:d6}(cC:jv S ad av ev [x])(a:Kz C t x h j ev=some res):
 ∃v T an,res= .fs v T an/\nl C S ad h j bh w (Instr.range t (av x)) v T an:=by
 have dL:=rL (S:=S) (pl:=⟨w.heap.size,0,0⟩) (sy V)
 unfold Kz at a
 split at a
 ·rename_i s bb af
  obtain⟨E,g⟩:=cC x Zs _ af
  have:=LX a;subst this
  refine⟨_,_,_,rfl,LY V er (U:= .stringIter (f2 s) 0) ?_ (.inr rfl) ⟨rfl,v2 _ _,g⟩ ⟨λ_ _ _ a=>(by cases a),λ_ _ _ a=>(by cases a)⟩⟩
  simp[Instr.range,run_underlying bb,E,aQ,lE]
 ·rename_i jV Cg bb af
  obtain⟨E,g⟩:=cC x Zs _ af
  have:=LX a;subst this
  refine⟨_,_,_,rfl,LY V er (U:= .mapIter none 0 #[] 0) ?_ (.inr rfl) ⟨rfl,v2 _ _,Zs⟩ ⟨λ_ _ _ a=>(by cases a),λ_ _ _ a=>(by cases a)⟩⟩
  simp[Instr.range,run_underlying bb,E,aQ,lE]
 ·rename_i jV Cg r bb af
  obtain⟨E,g⟩:=cC x Zs _ af
  split at a
  ·rename_i bH eR bj
   have:=LX a;subst this
   obtain⟨cm,ba,cj,a3,a4⟩:=LP V g bj
   refine⟨_,_,_,rfl,LY V er (U:= .mapIter (some (S r).cH) eR #[] eR) ?_ (.inr rfl) ⟨rfl, ?_,λb aj=>by cases aj;exact .inl g⟩ ⟨λ_ _ _ a=>(by cases a),λ_ _ _ a=>(by cases a)⟩⟩
   ·simp[Instr.range,run_underlying bb,E,aQ,lE,ba]
   ·rw[v2];simp only[ZU,dL r g]
  ·simp at a
 ·simp at a
end
end Go.bd

namespace Go.bd
open Go.RowKit (Below)
section
variable{C:aL}{S dd:c9}{ad dC:Nat->Prop}{h T:K ag}{j an bh:Nat}{w b1:World}
def Vy(n:Nat):∀k,o5 n k=k.contains n:=by
 intro k
 induction k with
 |nil=>rfl
 |cons F k al=>simp only[o5,List.contains_cons,al];congr 1;rw[Yh,Y0];exact⟨Zl,λa=>by rw[a];exact za _⟩
def Rh(C:aL)(S:c9)(ad:Nat->Prop)(h:K ag)(j bh:Nat)(w:World)(s:Sem Value)(res:d6):Prop:=match res with
 | .val v=>nl C S ad h j bh w s v h j
 | .fs v T an=>nl C S ad h j bh w s v T an
 | .fork k=>∃v T,(v,T)∈k/\nl C S ad h j bh w s v T j
 |_=>False
def axD(V:dq C S ad h j bh w){eI:Operand}{Bd:Bool}{ty:TypeId}{av:Operand->Value}{ev:Operand->Option D}{res:d6}(cC:jv S ad av ev [eI])(a:yc C eI Bd h j ev=some res):
 Rh C S ad h j bh w (Instr.next (av eI) Bd ty) res:=by
 unfold yc at a
 split at a
 ·rename_i r af
  obtain⟨E,nw⟩:=cC eI Zs _ af
  simp only[e1]at a
  obtain⟨KL,a⟩:=a
  have aj:C.a2<=r:=jx KL
  rw[E]
  split at a
  ·rename_i s pos bj
   obtain⟨mf,I,J⟩:=V.obj r _ bj nw
   have Y:(getObj (S r).cH).run C.P w= .ok (.stringIter (f2 s) pos) w:=by simp[getObj,Sem.run,I]
   have eO:(f2 s).size=s.length:=by simp[f2,ByteArray.size]
   rw[fA]at a
   split at a
   ·rename_i ay
    have ay:=lG ay
    rw[qG]at a
    split at a
    ·rename_i c aA
     simp only[e1]at a
     obtain⟨Ty,a⟩:=a
     have Ty:=lG Ty
     obtain⟨rfl,_⟩:=We a
     obtain⟨b1,bR,cq,cP⟩:=putObj V (di:=j) (o7:= .pb s (pos+1)) (o':= .stringIter (f2 s) (pos+1)) aj nw bj ⟨Zs,Zs⟩ I Zs (λb1 qB=>⟨mf,qB,J⟩) ⟨λ_ _ _ a=>(by cases a),λ_ _ _ a=>(by cases a)⟩
     refine⟨S,ad,b1, ?_,⟨trivial,trivial,trivial,trivial⟩,cq,cP,Zi _⟩
     have c2:pos<(f2 s).size:=by rw[eO];exact ay
     have adN:((f2 s)[pos]'c2).toNat=c:=by
      show((f2 s).data[pos]).toNat=c
      have aF:s[pos]=c:=by
       rw[Ze ay]at aA
       exact YB aA
      simp[f2,aF];omega
     have OF:=decode_ascii (f2 s) pos c2 (by rw[adN];exact Ty)
     rw[adN]at OF
     simp[Instr.next,aQ,b2,mf,Y,eO,ay,OF,bR,goInt]
    ·simp at a
   ·rename_i ay
    have ay:¬pos<s.length:=λah=>ay (by simp[Nat.blt];omega)
    simp at a;subst a
    refine nl.same V ?_ ⟨trivial,trivial⟩
    simp[Instr.next,aQ,b2,mf,Y,eO,ay]
  ·rename_i wY seen ahM bj
   obtain⟨mf,I,J⟩:=V.obj r _ bj nw
   have Y:(getObj (S r).cH).run C.P w= .ok (.mapIter none wY seen.toArray ahM) w:=by simp[getObj,Sem.run,I]
   simp at a;subst a
   refine nl.same V ?_ ⟨trivial,trivial⟩
   simp[Instr.next,aQ,b2,mf,Y]
  ·simp at a
 ·simp at a
end
end Go.bd

namespace Go.bd
open Go.RowKit (Below)
section
variable{C:aL}{S dd:c9}{ad dC:Nat->Prop}{h T:K ag}{j an bh:Nat}{w b1:World}
def aqm(w:World)(cm:Array Value)(E:TypeId)(n:Nat):(w.alloc (.cells cm E)).freeze ⟨w.heap.size,n,none⟩ 1=w.alloc (.cells cm E (n,n+1)):=by
 unfold World.freeze
 rw[Zg Zd]
 show({w with heap:=(w.heap.push (.cells cm E)).modify w.heap.size _}:World)={w with heap:=w.heap.push (.cells cm E (n,n+1))}
 congr 1
 apply Array.ext_getElem?
 intro q
 rw[Y2,Array.getElem?_push,Array.getElem?_push]
 by_cases aD:w.heap.size=q
 ·subst aD;simp
 ·rw[Zg aD,Zg (λE=>aD E.symm),Zg (λE=>aD E.symm)]
def aql{p:Nat}{cm:Array Value}{ty:TypeId}{b0 aN:Nat}(a:w.heap[p]? =some (.cells cm ty (b0,aN)))(n:Nat):
 (w.freeze ⟨p,n,none⟩ 1).heap[p]? =some (.cells cm ty (if b0==aN then(n,n+1)else(min b0 n,max aN (n+1))))/\(∀q,q≠p->(w.freeze ⟨p,n,none⟩ 1).heap[q]? =w.heap[q]?):=by
 unfold World.freeze
 rw[Zg Zd]
 constructor
 ·simp only[Y2,ZC,a,ZU]
 ·intro q aD
  simp only[Y2]
  rw[Zg (λE=>aD E.symm)]
def aA0(V:dq C S ad h j bh w)(er:bh<=w.heap.size){s d:Nat}{x:Operand}{av:Operand->Value}{ev:Operand->Option D}{res:d6}(cC:jv S ad av ev [x])(a:KB C s d x h j ev=some res):
 Rh C S ad h j bh w (convert s d (av x)) res:=by
 unfold KB at a
 split at a
 ·rename_i E k aF aH af
  obtain⟨ex,g⟩:=cC x Zs _ af
  split at a
  ·rename_i bs
   obtain⟨gq,rfl⟩:=ac3 a
   rw[ex]
   have eO:(f2 k).size=k.length:=by simp[f2,ByteArray.size]
   have aDR:(f2 k).data.size=k.length:=by simp[f2]
   have aA:=ahN S k g
   have aqJ:ep ad (k.map λn=>D.int .u8 (Int.ofNat n)):=by
    rw[vN];intro v bD;obtain⟨e,_,rfl⟩:=ZE.1 bD;trivial
   obtain⟨cap,mY,Cy⟩:∃cap,k.length<=cap/\(choose (.appendCap k.length 0 E)).run C.P w= .ok cap w.drew:=
    ⟨k.length+(w.tape w.drawn (.appendCap k.length 0 E))%(2^63-k.length),Zo,by simp[Question.forced,Question.cut]⟩
   have Ph:(k.map λn=>D.int .u8 (Int.ofNat n)).length+(Array.replicate (cap-k.length) (Value.int .u8 0)).size=cap*1:=by simp;omega
   have KI:=ac6 (C:=C) (S:=S) (w:=w) (j:=j) aqJ (sy V) Ph E []
   have EP:kk C (gs S j ⟨w.heap.size,0,cap*1⟩) (add ad j) (.cells (K.ofList (k.map λn=>D.int .u8 (Int.ofNat n)) 0 .nil) (k.map λn=>D.int .u8 (Int.ofNat n)).length (.grow [])) ⟨w.heap.size,0,cap*1⟩
    (w.drew.alloc (.cells ((b2 S (k.map λn=>D.int .u8 (Int.ofNat n))).toArray++Array.replicate (cap-k.length) (Value.int .u8 0)) E (cap,cap+1))):=by
    obtain⟨cm,ty,b0,aN,bQ,cf,cM,ew⟩:=KI
    have abj:=v2 w.drew (.cells ((b2 S (k.map λn=>D.int .u8 (Int.ofNat n))).toArray++Array.replicate (cap-k.length) (Value.int .u8 0)) E)
    have auS:w.drew.heap.size=w.heap.size:=rfl
    rw[auS]at abj
    rw[abj]at bQ
    cases bQ
    refine⟨_,E,cap,cap+1,v2 w.drew _,⟨.inr ?_,cf.2.1,cf.2.2⟩,cM,ew⟩
    simp[j4];omega
   refine⟨gs S j ⟨w.heap.size,0,cap*1⟩,add ad j,_, ?_, .inr rfl,V.drew.alloc V.a2 (Yq _) (Yf _) (sy V) er rfl (by rw[fX _ V.a2,Zu rfl]) (λx af=> .inl (by rw[fX _ V.a2,Zg af])) EP
    ⟨λ_ _ _ a=>(by cases a;simp),λ_ _ _ a=>(by cases a;exact Iz)⟩,Sr V er _ (λx af _=>by rw[fX _ V.a2,Zg af]),Yf _⟩
   have auJ:((b2 S (k.map λn=>D.int .u8 (Int.ofNat n))).toArray++Array.replicate (cap-k.length) (Value.int .u8 0)).size=cap:=by simp[j4];omega
   have qy:=aqm w.drew ((b2 S (k.map λn=>D.int .u8 (Int.ofNat n))).toArray++Array.replicate (cap-k.length) (Value.int .u8 0)) E cap
   have TW:w.drew.heap.size=w.heap.size:=rfl
   rw[TW]at qy
   have UB:(w.drew.alloc (.cells ((b2 S (k.map λn=>D.int .u8 (Int.ofNat n))).toArray++Array.replicate (cap-k.length) (Value.int .u8 0)) E)).shape? w.heap.size=some (E,cap):=by
    have:=v2 w.drew (.cells ((b2 S (k.map λn=>D.int .u8 (Int.ofNat n))).toArray++Array.replicate (cap-k.length) (Value.int .u8 0)) E)
    rw[TW]at this
    simp only[World.shape?,this,auJ]
   simp only[convert,Sem.run_bind,run_underlying aF,run_underlying aH,run_underlying bs,Result.andThen_ok,aQ,Conv.stringToBytes,eO,Cy,aA,newRow,run_newObj_alloc,TW,Sem.run_pure,markStringish,run_shape,UB,run_freeze,qy,
    lE,ZS,zc,Yl,Nat.div_one]
  ·simp at a
 ·rename_i uu E b U len cap aF aH af
  obtain⟨ex,g⟩:=cC x Zs _ af
  split at a
  ·rename_i bs
   simp only[e1,Zp]at a
   obtain⟨⟨UA,KL⟩,a⟩:=a
   have UA:s=d:=Zl UA
   subst UA
   have aj:C.a2<=b:=jx KL
   rw[ex]
   have fin:∀(c:K D) (n:Nat) (st:ox),Y C h b=some (.cells c n st)->(st= .own\/st= .marked)->∀T,Y C T b=some (.cells c n .marked)->(∀x,x≠b->Y C T x=Y C h x)->
    nl C S ad h j bh w (convert s s (aQ S (.slice b U len cap))) (.slice b U len cap) T j:=by
    intro c n st bj dm T dZ dI
    obtain⟨cm,ty,b0,aN,ba,cj,a3,a4⟩:=V.obj b _ bj g
    have kJ:MO (.cells c n st):=by rcases dm with rfl|rfl<;>exact⟨Zs,Zs⟩
    have Hp:b0=aN\/cm.size<=b0:=by rcases dm with rfl|rfl;exact .inl cj;exact cj
    obtain⟨eM,eV⟩:=aql ba cm.size
    have Cw:=V.base b _ aj bj g
    have K3:∃ss lu,(if b0==aN then(cm.size,cm.size+1)else(min b0 cm.size,max aN (cm.size+1)))=(ss,lu)/\cm.size<=ss:=by
     by_cases ah:b0=aN
     ·exact⟨_,_,by rw[Zu (by simpa using ah)],Zi _⟩
     ·refine⟨_,_,by rw[Zg (by simpa using ah)], ?_⟩
      have:=Hp.resolve_left ah
      omega
    obtain⟨ss,lu,bF,cn⟩:=K3
    rw[bF]at eM
    refine⟨S,ad,w.freeze ⟨(S b).cH,cm.size,none⟩ 1, ?_,g,V.put aj g bj dZ (λx af=> .inl (dI x af)) (λq aD=>eV q aD) ?_ ⟨cm,ty,ss,lu,eM, .inr cn,a3,a4⟩ ⟨λ_ _ _ a=>(by cases a),λ_ _ _ a=>(by cases a;exact(V.fv b _ bj g).2 _ _ _ rfl)⟩, ?_,Zi _⟩
    ·have UB:w.shape? (S b).cH=some (ty,cm.size):=V5 ba
     have ass:(s==s)=true:=by simp
     simp only[convert,Sem.run_bind,run_underlying aF,Result.andThen_ok,aQ]
     rw[aF]at aH
     cases aH
     simp only[ass,run_underlying bs,Sem.run_bind,Result.andThen_ok,markStringish,run_shape,UB,run_freeze,Sem.run_pure]
    ·intro x dt c8 af dE e2
     rw[dI x c8]at af
     exact V.alone aj g bj kJ x dt c8 af dE e2
    ·refine⟨λ_ _=>rfl,λ_ a=>a,λ_ a=> .inl a,λx af _=>dI x (λE=>af (by rw[E];exact g)), ?_⟩
     refine⟨?_, ?_, ?_, ?_,λq aD=>eV q Zo⟩<;>simp[World.freeze]
   split at a
   ·rename_i c n bj
    simp only[hk,Zf]at a
    subst a
    exact fin c n .own bj (.inl rfl) _ (by rw[fX _ aj,Zu rfl]) (λx af=>by rw[fX _ aj,Zg af])
   ·rename_i c n bj
    simp only[Zf]at a
    subst a
    exact fin c n .marked bj (.inr rfl) h bj (λ_ _=>rfl)
   ·simp at a
  ·simp at a
 ·simp at a
end
end Go.bd

namespace Go.bd
open Go.RowKit (Below)
def iH(C:aL)(S:c9)(ad:Nat->Prop)(h:K ag)(j bh:Nat)(w:World)(s:Sem Next)(res:d6):Prop:=match res with
 | .val v=>BS C S ad h j bh w s v h j
 | .fs v T an=>BS C S ad h j bh w s v T an
 | .fork k=>∃v T,(v,T)∈k/\BS C S ad h j bh w s v T j
 | .enter f args=>s.run C.P w= .ok (.enter f (b2 S args).toArray) w/\ep ad args
 | .known f args v=>C.hh f args=some v/\s.run C.P w=(callFunc f (b2 S args).toArray).run C.P w/\ep ad args
 | .round k args=>s.run C.P w=(Instr.yield (S k).cH (b2 S args).toArray).run C.P w/\ep ad args/\ad k
 | .defer d=>s.run C.P w= .ok (.defer (l2 S d)) w/\x5 ad d
 | .recover=>s.run C.P w= .ok .recover w
 | .panic v=>s.run C.P w= .halt (.panic (aQ S v)) w/\ck ad v
section
variable{C:aL}{S dd:c9}{ad dC:Nat->Prop}{h T:K ag}{j an bh:Nat}{w b1:World}
def iH.one{s:Sem Value}{res:d6}(a:Rh C S ad h j bh w s res):iH C S ad h j bh w (do pure (.value (<-s))) res:=by
 cases res with
 |val v=>exact nl.done a
 |fs v T an=>exact nl.done a
 |fork k=>obtain⟨v,T,I,J⟩:=a;exact⟨v,T,I,J.done⟩
 |_=>exact a.elim
def iH.fs{s:Sem Value}{res:d6}(a:∃v T an,res= .fs v T an/\nl C S ad h j bh w s v T an):iH C S ad h j bh w (do pure (.value (<-s))) res:=by
 obtain⟨v,T,an,rfl,a⟩:=a
 exact a.done
def iH.app(V:dq C S ad h j bh w){s:Sem Value}{res:d6}(a:Q7 C S ad h j bh w s res):iH C S ad h j bh w (do pure (.value (<-s))) res:=by
 rcases a with ⟨v,T,an,rfl,dd,dC,b1,I,J,am,aB,bk⟩|⟨v,rfl,I,J⟩
 ·exact nl.done ⟨dd,dC,b1,I,J,am,aB,bk⟩
 ·exact nl.done (.same V J I)
def iH.unit{s:Sem Unit}{res:d6}(a:∃T b1,res= .fs undef T j/\s.run C.P w= .ok () b1/\dq C S ad T j bh b1/\iG C j S ad h bh w S ad T b1):
 iH C S ad h j bh w (do s;pure .skip) res:=by
 obtain⟨T,b1,rfl,I,J,am⟩:=a
 exact⟨S,ad,b1, .skip,by simp[I], .inr ⟨rfl,rfl⟩,by trivial,J,am,Zi _⟩
def iH.congr{s fk:Sem Next}{res:d6}(a:s.run C.P w=fk.run C.P w)(q:iH C S ad h j bh w fk res):iH C S ad h j bh w s res:=by
 cases res<;>simp only[iH,BS]at q ⊢ <;>rw[a]<;>exact q
def RV(kx:Aa C.P){f:Nat}{args:List D}{res:d6}(g:ep ad args)(a:s3 C f args=some res):iH C S ad h j bh w (callFunc f (b2 S args).toArray) res:=by
 unfold s3 at a
 split at a
 ·rename_i v bD
  simp at a;subst a
  exact⟨bD,rfl,g⟩
 ·split at a
  ·rename_i fn ch
   split at a
   ·rename_i c aj
    simp at a;subst a
    refine⟨?_,g⟩
    have aE:fn.name≠ "runtime.NumGoroutine":=by simpa using kx.num f fn ch (by simp[aj])
    simp[callFunc,ch,aE,aj]
   ·simp at a
  ·simp at a
def aft(kx:Aa C.P){fn:Fn}{fM args:List D}{res:d6}(aqR:N2 ad fn)(NX:ep ad fM)(hN:ep ad args)(a:B3 C fn fM args=some res):
 iH C S ad h j bh w (invoke (.fn (nr S fn) (b2 S fM).toArray) (b2 S args).toArray) res:=by
 unfold B3 at a
 split at a
 ·rename_i f
  have E:invoke (.fn (nr S (.func f)) (b2 S fM).toArray) (b2 S args).toArray=callFunc f (b2 S (args++fM)).toArray:=by
   simp[invoke,nr,D6]
  rw[E]
  exact RV kx (Cn hN NX) a
 ·rename_i k
  simp at a;subst a
  exact⟨rfl,hN,aqR⟩
 ·simp at a
def axk(V:dq C S ad h j bh w)(kx:Aa C.P){t:Nat}{v:D}{name:String}{args:List D}{res:d6}(fu:ck ad v)(hN:ep ad args)(a:Gq C h t v name args=some res):
 iH C S ad h j bh w (callMethod (.iface t (aQ S v)) name (b2 S args).toArray) res:=by
 obtain⟨q,aD⟩:∃q,C.P.types.size+Made.depth=q+1:=⟨C.P.types.size+99,rfl⟩
 have go:∀(f:Nat) (x:D),ck ad x->(method (q+1) t (aQ S v) name).run C.P w= .ok (f,aQ S x) w->s3 C f (x::args)=some res->iH C S ad h j bh w (callMethod (.iface t (aQ S v)) name (b2 S args).toArray) res:=by
  intro f x fE bp aA
  refine(RV (S:=S) (h:=h) (j:=j) (bh:=bh) (w:=w) kx (args:=x::args) (show ck ad x/\ep ad args from⟨fE,hN⟩) aA).congr ?_
  simp[callMethod,aD,bp,b2]
 unfold Gq at a
 split at a
 ·rename_i i aN
  split at a
  ·rename_i m bp
   simp only[e1]at a
   obtain⟨ay,a⟩:=a
   have HA:m.path.toList=[]:=by simpa using ay
   split at a
   ·rename_i f E ch bb
    refine go f v fu ?_ a
    simp[method,typeInfo,aN,bp,HA,follow,ch,receiverAt,run_underlying bb,Place.get]
   ·rename_i f E ch bb
    split at a
    ·rename_i x af
     obtain⟨I,J⟩:=aa0 V fu af
     refine go f x J ?_ a
     cases v with
     |ptr b U=>
      simp only[Instr.loadAt,Instr.sureAddr,aQ,Sem.run_bind,Sem.run_pure,Result.andThen_ok]at I
      have auN:∀(iE:TypeId) (F:Addr) (nm:String),Builtin.ssaWrapNilChk_ #[iE] iE #[.pointer (some F),strVal "",strVal nm]=pure (.pointer (some F)):=λ_ _ _=>rfl
      have oV:m.path= #[]:=by simpa using ay
      simp[method,typeInfo,aN,bp,oV,follow,ch,receiverAt,run_underlying bb,Place.get,aQ,auN,asAddr,I]
     |_=>simp[l0,d8,aO]at af;split at af<;>simp at af
    ·simp at a
   ·rename_i f d aE ch bb
    refine go f v fu ?_ a
    cases d<;>first
     |exact(aE _ rfl).elim
     |simp[method,typeInfo,aN,bp,HA,follow,ch,receiverAt,run_underlying bb,Place.get]
   ·simp at a
  ·simp at a
 ·simp at a
def anW(V:dq C S ad h j bh w)(er:bh<=w.heap.size)(kx:Aa C.P){b:Builtin}{args:Array Operand}{c7:Array TypeId}{ty:TypeId}{aos:Array Bool}{av:Operand->Value}{ev:Operand->Option D}{res:d6}
 (cC:jv S ad av ev args.toList)(a:Kk C b args c7 h j ev=some res):iH C S ad h j bh w (builtin b c7 ty aos (args.map av)) res:=by
 have Gy:∀{t:Nat}{rest:List Nat},c7.toList=t::rest->c7[0]? =some t:=λaC=>by rw[<-ZR,aC];rfl
 have RK:∀{t ac:Nat}{rest:List Nat},c7.toList=t::ac::rest->c7[1]? =some ac:=λaC=>by rw[<-ZR,aC];rfl
 unfold Kk at a
 split at a
 ·rename_i s x af
  obtain⟨ba,cj⟩:=xL cC af
  rw[ba]
  split at a
  ·rename_i st iE rest aC
   split at a
   ·rename_i ah hR
    split at a
    ·rename_i n aE
     exact iH.app V (amV (ty:=ty) V er (Gy aC) (RK aC) hR cj.1 aE a)
    ·simp at a
   ·rename_i E hR
    exact iH.app V (aaV (ty:=ty) V er (Gy aC) (RK aC) hR (.inr ⟨E,rfl⟩) cj.1 cj.2.1 a)
   ·rename_i hR
    exact iH.app V (aaV (ty:=ty) V er (Gy aC) (RK aC) hR (.inl rfl) cj.1 cj.2.1 a)
   ·simp at a
  ·simp at a
 ·rename_i af
  simp at a;subst a
  exact rfl
 ·simp at a
def amW(V:dq C S ad h j bh w)(er:bh<=w.heap.size)(kx:Aa C.P){oper:Oper}{av:Operand->Value}{ev:Operand->Option D}{res:d6}(cC:jv S ad av ev oper.op.operands.toList)
 (a:nT oper.op C h j ev=some res):iH C S ad h j bh w (execOp av oper) res:=by
 obtain⟨dst,op,type,pos,after,guard⟩:=oper
 have agl:∀t m q x,jv S ad av ev [m,q,x]->Hg C t m q x h j ev=some res->iH C S ad h j bh w (do Instr.mapUpdate t (av m) (av q) (av x);pure .skip) res:=by
  intro t m q x cC a
  unfold Hg at a
  split at a
  ·rename_i F b c aC aj aA
   obtain⟨bF,b3⟩:=cC m Zs F aC
   obtain⟨cn,b7⟩:=cC q Zs b aj
   obtain⟨eU,cS⟩:=cC x Zs c aA
   obtain⟨T,b1,I,J,am,aB⟩:=am2 V b3 b7 cS a
   rw[bF,cn,eU]
   exact iH.unit ⟨T,b1,I,J,am,aB⟩
  ·simp at a
 cases op<;>simp only[nT]at a<;>(try(cases a;done))<;>simp only[execOp]<;>simp only[Op.operands]at cC
 case mapUpdate t m q x=>exact agl t m q x (by simpa using cC) a
 case insert t m q x=>exact agl t m q x (by simpa using cC) a
 case makeSlice t k c=>exact iH.fs (axc V er (by simpa using cC) a)
 case makeMap t r=>
  cases r with
  |none=>simp at a
  |some r=>exact iH.fs (axa V er (by simpa using cC) a)
 case convert s d x=>exact iH.one (aA0 V er (by simpa using cC) a)
 case range t x=>exact iH.fs (aza V er (by simpa using cC) a)
 case next eI s=>exact iH.one (axD V (by simpa using cC) a)
 case panic x=>
  unfold Tn at a
  split at a
  ·rename_i t v af
   simp at a;subst a
   obtain⟨E,g⟩:=cC x Zs _ af
   refine⟨?_,g⟩
   simp[Instr.panic,E,aQ]
  ·simp at a
 case defer c=>
  unfold S6 at a
  split at a
  ·rename_i f args c7
   split at a
   ·rename_i fn first fM cv ch has
    simp at a;subst a
    simp only[Call.operands]at cC
    obtain⟨E,g⟩:=cC f Zs _ ch
    obtain⟨ba,cj⟩:=xL (cC.mono (by simp;intro x af;exact .inr af)) has
    refine⟨?_,⟨g.1,g.2.2⟩,Cn g.2.1 cj⟩
    simp[resolve,E,aQ,Deferred.ofValue,ba,l2,D3,D6]
   ·simp at a
  ·simp at a
 case call c=>
  unfold Et at a
  split at a
  ·rename_i f args c7
   split at a
   ·rename_i fn first fM cv ch has
    simp only[Call.operands]at cC
    obtain⟨E,g⟩:=cC f Zs _ ch
    obtain⟨ba,cj⟩:=xL (cC.mono (by simp;intro x af;exact .inr af)) has
    refine(aft (S:=S) (h:=h) (j:=j) (bh:=bh) (w:=w) kx g.1 g.2.2 (Cn g.2.1 cj) a).congr ?_
    simp[resolve,E,aQ,Deferred.ofValue,ba,D6]
   ·simp at a
  ·rename_i b args c7
   simp only[Call.operands]at cC
   show iH C S ad h j bh w (builtin b c7 type _ (args.map av)) res
   exact anW V er kx (cC.mono Zs) a
  ·rename_i r name args c7
   split at a
   ·rename_i t v cv HH has
    simp only[Call.operands]at cC
    obtain⟨E,g⟩:=cC r Zs _ HH
    obtain⟨ba,cj⟩:=xL (cC.mono (by simp;intro x af;exact .inr af)) has
    refine(axk (v:=v) V kx g cj a).congr ?_
    simp[resolve,E,aQ,invoke,ba]
   ·simp at a
end
end Go.bd

namespace Go.bd
noncomputable section
abbrev d7:=Option D
structure iu where
 fn:Nat
 n:Nat
 ao:Nat
 bc:List hI
 aJ:Bool
 ro:Option Nat
 cs:List gL
abbrev hw:=lg->List dR->iu->K D->K ag->Nat->d7
def pf(g:Option (Nat×Bool))(aq:List (Nat×D)):Option Bool:=
 match g with
 |none=>some true
 |some (W,lT)=>(match eo aq W with
  |some v=>(match v with| .bool b=>some (b==lT)|_=>some false)
  |none=>none)
def o3(f:D->D->Bool):List D->List D->Bool
 |[],[]=>true
 |F::k,b::m=>f F b&&o3 f k m
 |_,_=>false
def D.same:Nat->D->D->Bool
 |0,_,_=>false
 |d+1,x,e=>match x,e with
  | .bool F, .bool b=>F==b
  | .int q F, .int e5 b=>decide (q=e5)&&decide (F=b)
  | .str F, .str b=>na F b
  | .ptr F b, .ptr fV dO=>Nat.beq F fV&&Nat.beq b dO
  | .cx, .cx=>true
  | .slice F b c E, .slice fV dO f5 iw=>Nat.beq F fV&&Nat.beq b dO&&Nat.beq c f5&&Nat.beq E iw
  | .fl F b c E, .fl fV dO f5 iw=>Nat.beq F fV&&Nat.beq b dO&&Nat.beq c f5&&Nat.beq E iw
  | .aV, .aV=>true
  | .map F, .map b=>Nat.beq F b
  | .mi, .mi=>true
  | .func f F b, .func acq fV dO=>decide (f=acq)&&o3 (D.same d) F fV&&o3 (D.same d) b dO
  | .nilFunc, .nilFunc=>true
  | .iface t v, .iface ha gK=>Nat.beq t ha&&D.same d v gK
  | .nilIface, .nilIface=>true
  | .agg F, .agg b=>o3 (D.same d) F b
  | .tuple F, .tuple b=>o3 (D.same d) F b
  |_,_=>false
def xU(C:aL)(base:Nat)(H:K D):List ft->List (Nat×D)->K ag->Option (List (Nat×D)×K ag)
 |[],aq,h=>some (aq,h)
 |x::k,aq,h=>(match pf x.g aq with
  |none=>none
  |some false=>xU C base H k ((x.i,undef)::aq) h
  |some true=>(match m6 x.op with
   | .make=>(match oJ x.op C (base+x.i) aq H with
     |some (v,cY)=>jz (bn C h (base+x.i) (some cY)) λh=>xU C base H k ((x.i,v)::aq) h
     |none=>none)
   |_=>(match gW x.op C h aq H with
    |some v=>xU C base H k ((x.i,v)::aq) h
    |none=>none)))
def Eb(C:aL)(H:K D)(aq:List (Nat×D))(h:K ag):List ft->Bool
 |[]=>true
 |x::k=>(match pf x.g aq with
  |none=>false
  |some false=>Eb C H aq h k
  |some true=>(match gW x.op C h aq H,eo aq x.i with
   |some v,some ac=>D.same 30 v ac&&Eb C H aq h k
   |_,_=>false))
def Aw(aq:List (Nat×D)):List (Nat×Nat)->K D->Option (K D)
 |[],H=>some H
 |(i,d)::k,H=>(match eo aq i with|some v=>jz (H.set d (some v)) λH=>Aw aq k H|none=>none)
def exitTo(id:Nat):List dR->Option (List dR)
 |[]=>none
 | .inBlock uX::q=>bY (Nat.beq uX id) (some q)<|exitTo id q
 |_::q=>exitTo id q
def jp{α:Type}(U:Option α)(q:α->d7):d7:=Option.rec (motive:=λ_=>d7) none (λF=>q F) U
def JG(k:List (Nat×D)):Nat->(D->d7)->d7:=
 List.rec (motive:=λ_=>Nat->(D->d7)->d7) (λ_ _=>none)
  (λp _ al W q=>Prod.rec (motive:=λ_=>d7) (λF b=>Bool.rec (motive:=λ_=>d7) (al W q) (q b) (Nat.beq F W)) p) k
def NY(t:K D):Nat->(D->d7)->d7:=
 K.rec (motive:=λ_=>Nat->(D->d7)->d7) (λ_ _=>none)
  (λv _ _ iO q9 i q=>Nat.rec (motive:=λ_=>d7) (Option.rec (motive:=λ_=>d7) none (λF=>q F) v)
   (λW _=>Bool.rec (motive:=λ_=>d7) (q9 (Nat.div W 2) q) (iO (Nat.div W 2) q) (Nat.beq (Nat.mod W 2) 0)) i) t
def At(x:kC):List (Nat×D)->K D->(D->d7)->d7:=
 kC.rec (motive:=λ_=>List (Nat×D)->K D->(D->d7)->d7) (λW aq _ q=>JG aq W q) (λn _ H q=>NY H n q) (λF _ _ q=>q F) x
def aif(g:Option (Nat×Bool)):List (Nat×D)->d7->d7->d7:=
 Option.rec (motive:=λ_=>List (Nat×D)->d7->d7->d7) (λ_ F _=>F)
  (λp aq F b=>jp (pf (some p) aq) λw=>Bool.rec (motive:=λ_=>d7) b F w) g
def Kc(k:List (Nat×Nat)):List (Nat×D)->K D->(K D->d7)->d7:=
 List.rec (motive:=λ_=>List (Nat×D)->K D->(K D->d7)->d7) (λ_ H q=>q H)
  (λp _ al aq H q=>Prod.rec (motive:=λ_=>d7) (λi d=>JG aq i λv=>jz (K.set H d (some v)) λH=>al aq H q) p) k
def FO(eI:dR)(q:List dR)(ce:iu)(H:K D):List gL:=
 iu.rec (motive:=λ_=>List gL) (λfn n ao bc aJ ro cs=>⟨fn,n,ao,H,eI::q,bc, .run,aJ,ro⟩::cs) ce
def oH(al:hw)(C:aL)(f:Nat)(args:List D)(deferred:Bool)(cs:List gL)(h:K ag)(j:Nat):d7:=
 match C.P.funcs[f]? with
 |some fn=>(match fn.body with
  |some c=>q6 (Nat.lor (kv c) (oh fn.results.toList)) λao=>bY (Nat.ble args.length fn.ntmps&&l4 C ao c&&Bs ao fn.results.toList) (al .run [.code c] ⟨f,fn.ntmps,ao,[],deferred,none,cs⟩ (K.ofList args 0 .nil) h j)<|none
  |none=>none)
 |none=>none
def yQ(n:Nat):List Nat->List D->K D->Option (K D)
 |[],[],H=>some H
 |p::dr,F::cv,H=>bY (Nat.blt p n) (yQ n dr cv (H.set p (some F)))<|none
 |_,_,_=>none
def px(eI:dR)(v:D):Option dR:=match eI with
 | .t8 ar aq a rest fin=>some (.IU ar ((a,v)::aq) rest fin)
 | .BG ar base aq a lB fin=>some (.drawn ar base ((a,v)::aq) lB fin)
 | .inRangeFunc k=>some (.endRangeFunc k)
 |_=>none
def V0(al:hw)(todo:List dR)(ce:iu)(v:D)(H:K D)(h:K ag)(j:Nat):d7:=
 match todo with
 |[]=>none
 |eI::q=>(match px eI v with|some hC=>al .run (hC::q) ce H h j|none=>none)
def xW:List Nat->K D->K D
 |[],H=>H
 |d::k,H=>xW k (H.set d none)
def vG(todo:List dR)(H:K D):K D:=match todo with
 | .t8 ar _ _ _ _::_=>xW (dstsOf ar.toList) H
 | .BG ar _ _ _ _ _::_=>xW (dstsOf ar.toList) H
 |_=>H
def FD(chain:List sK)(bS:lg):lg:=match bS with
 | .panicking qI=> .panicking (chain++qI)
 |_=> .panicking chain
def ahk(al:hw)(c:gL)(cs:List gL)(chain:List sK)(h:K ag)(j:Nat):d7:=
 match c with
 |⟨fn,n,ao,H,todo,bc,bS,aJ,ro⟩=>al (FD chain bS) todo ⟨fn,n,ao,bc,aJ,ro,cs⟩ (vG todo H) h j
def Dx(aJ:Bool)(cs:List gL):Option (D×List gL):=
 bY (aJ) ((match cs with
  |c::rest=>(match c with
   |⟨fn,n,ao,H,todo,bc,bS,jy,ro⟩=>(match bS with
    | .panicking (⟨v,false⟩::Dh)=>some (v,⟨fn,n,ao,H,todo,bc, .panicking (⟨v,true⟩::Dh),jy,ro⟩::rest)
    |_=>some (.nilIface,cs)))
  |[]=>none))<|some (.nilIface,cs)
def AA(al:hw)(eI:dR)(q:List dR)(ce:iu)(H:K D)(j:Nat):List (D×K ag)->d7
 |[]=>none
 |[(v,h)]=>(match px eI v with|some hC=>al .run (hC::q) ce H h j|none=>none)
 |(v,h)::k=>(match px eI v with
  |some hC=>(match al .run (hC::q) ce H h j,AA al eI q ce H j k with
   |some F,some b=>bY (D.same 30 F b) (some F) none
   |_,_=>none)
  |none=>none)
def oA(r:d6)(al:hw)(C:aL)(eI:dR)(q:List dR)(ce:iu)(H:K D)(h:K ag)(j:Nat):d7:=
 match r with
 | .val v=>(match px eI v with|some hC=>al .run (hC::q) ce H h j|none=>none)
 | .fs v h j=>(match px eI v with|some hC=>al .run (hC::q) ce H h j|none=>none)
 | .enter f args=>oH al C f args false (FO eI q ce H) h j
 | .known _ _ v=>(match px eI v with|some hC=>al .run (hC::q) ce H h j|none=>none)
 | .round k args=>(match Y C h k with
   |some (.loop _ _ fn n ao c1 params assign body _)=>(match yQ n params args c1 with
    |some c1=>al .run [.code assign, .beginRound, .code body] ⟨fn,n,ao,[],false,some k,FO eI q ce H⟩ c1 h j
    |none=>none)
   |_=>none)
 | .defer d=>(match ce with
   |⟨fn,n,ao,bc,aJ,ro,cs⟩=>(match ro with
    |none=>(match px eI undef with|some hC=>al .run (hC::q) ⟨fn,n,ao,d::bc,aJ,none,cs⟩ H h j|none=>none)
    |some _=>none))
 | .recover=>(match ce with
   |⟨fn,n,ao,bc,aJ,ro,cs⟩=>(match ro with
    |none=>(match Dx aJ cs with
     |some (v,dc)=>(match px eI v with|some hC=>al .run (hC::q) ⟨fn,n,ao,bc,aJ,none,dc⟩ H h j|none=>none)
     |none=>none)
    |some _=>none))
 | .panic v=>(match ce with
   |⟨fn,n,ao,bc,aJ,ro,cs⟩=>(match ro with
    |none=>al (.panicking [⟨v,false⟩]) (eI::q) ⟨fn,n,ao,bc,aJ,none,cs⟩ (vG (eI::q) H) h j
    |some _=>none))
 | .fork k=>AA al eI q ce H j k
def VK(op:jZ):aL->K ag->Nat->List (Nat×D)->K D->(D->K ag->Nat->d7)->(d6->d7)->d7:=
 match op with
 | .Fl x=>λ_ h j aq H ak _=>At x aq H λv=>ak v h j
 | .pick c F b=>λ_ h j aq H ak _=>jp (gW (.pick c F b) ⟨default, .nil,0,λ_ _=>none,0⟩ h aq H) λv=>ak v h j
 | .fZ F=>λC h j aq H ak _=>At F aq H λF=>jp (aO C h F) λv=>ak v h j
 | .C2 n F=>λC h j aq H ak _=>At F aq H λF=>jp (d8 C h n F) λv=>ak v h j
 | .off d x=>λ_ h j aq H ak _=>At x aq H λF=>jp (hv d F) λv=>ak v h j
 | .CV n bl x i=>λC h j aq H ak _=>jp (gW (.CV n bl x i) C h aq H) λv=>ak v h j
 | .CW bl x i=>λC h j aq H ak _=>jp (gW (.CW bl x i) C h aq H) λv=>ak v h j
 | .Fs x=>λ_ h j aq H ak _=>At x aq H λF=>jp (rN F) λv=>ak v h j
 | .Ls op x e=>λ_ h j aq H ak _=>At x aq H λF=>At e aq H λb=>jp (bq op F b) λv=>ak v h j
 | .ext i x=>λ_ h j aq H ak _=>At x aq H λF=>jp (pg i F) λv=>ak v h j
 | .ig b8 U=>λC h j aq H ak _=>jp (gW (.ig b8 U) C h aq H) λv=>ak v h j
 | .make b8 U=>λC h j aq H _ q4=>jp (PK (.make b8 U) C h j aq H) q4
 | .st n F v=>λC h j aq H _ q4=>jp (hU (.st n F v) C h j aq H) q4
 | .call f args=>λC h j aq H _ q4=>jp (hU (.call f args) C h j aq H) q4
 | .fp b8 U=>λC h j aq H _ q4=>jp (hU (.fp b8 U) C h j aq H) q4
structure gA where
 al:hw
 ar:Array Oper
 fin:List (Nat×Nat)
 q:List dR
 ce:iu
def apJ(X:gA)(C:aL)(H:K D)(aq:List (Nat×D))(i:Nat)(rest:List ft)(r:d6)(h:K ag)(j:Nat):d7:=
 match X with|⟨al,ar,fin,q,ce⟩=>oA r al C (.t8 ar aq i rest fin) q ce H h j
abbrev ST:=gA->aL->K D->List (Nat×D)->K ag->Nat->d7
def ay0(mB:ST)(X:gA)(C:aL)(H:K D)(aq:List (Nat×D))(i:Nat)(v:D)(h:K ag)(j:Nat):d7:=mB X C H ((i,v)::aq) h j
def asS(mB:ST)(X:gA)(C:aL)(H:K D)(aq:List (Nat×D))(i:Nat)(rest:List ft)(h:K ag)(j:Nat)(r:d6):d7:=
 match r with
 | .val v=>mB X C H ((i,v)::aq) h j
 | .fs v h j=>mB X C H ((i,v)::aq) h j
 |r=>apJ X C H aq i rest r h j
def J5(X:gA)(_:aL)(H:K D)(aq:List (Nat×D))(h:K ag)(j:Nat):d7:=
 gA.rec (motive:=λ_=>d7) (λal _ fin q ce=>Kc fin aq H λH=>al .run q ce H h j) X
def Fz(i:Nat)(g:Option (Nat×Bool))(op:jZ)(rest:List ft)(mB:ST)(X:gA)(C:aL)(H:K D)(aq:List (Nat×D))(h:K ag)(j:Nat):d7:=
 aif g aq (VK op C h j aq H (ay0 mB X C H aq i) (asS mB X C H aq i rest h j)) (mB X C H ((i,undef)::aq) h j)
def Bx(rest:List ft):ST:=
 List.rec (motive:=λ_=>ST) J5 (λx rest mB=>ft.rec (motive:=λ_=>ST) (λi g op=>Fz i g op rest mB) x) rest
def Ar(al:hw)(C:aL)(ar:Array Oper)(base:Nat)(aq:List (Nat×D))(lB:List xJ)(fin:List (Nat×Nat))(q:List dR)(ce:iu)(H:K D)(h:K ag)(j:Nat):d7:=
 match lB with
 |[]=>none
 |s::rest=>(match xU C base H s.u2 aq h with
  |none=>none
  |some (aq,h)=>bY (Eb C H aq h s.VW) ((match s.fp with
    |none=>Kc fin aq H λH=>al .run q ce H h j
    |some a=>(match pf a.g aq with
     |none=>none
     |some w=>bY (w) ((match hU a.op C h j aq H with
       |some r=>oA r al C (.BG ar base aq a.i rest fin) q ce H h j
       |none=>none))<|al .run (.drawn ar base ((a.i,undef)::aq) rest fin::q) ce H h j)))<|none)
def yW(f9:List sK):lg:=match f9 with|⟨_,true⟩::_=> .returning|_=> .panicking f9
def uj(al:hw)(aJ:Bool)(cs:List gL)(v:D)(h:K ag)(j:Nat):d7:=
 match cs with
 |c::rest=>(match c with
  |⟨fn,n,ao,H,todo,bc,bS,jy,ro⟩=>(match bS with
   | .run=>bY aJ none (V0 al todo ⟨fn,n,ao,bc,jy,ro,rest⟩ v H h j)
   | .returning=>bY aJ (al .returning todo ⟨fn,n,ao,bc,jy,ro,rest⟩ H h j) none
   | .panicking f9=>bY aJ (al (yW f9) todo ⟨fn,n,ao,bc,jy,ro,rest⟩ H h j) none))
 |[]=>bY aJ none (some v)
def UU(iT:Option Code):Bool:=match iT with|none=>true|some .ret=>true|_=>false
def agV(iT:Option Code):Bool:=match iT with|none=>true|some .ret=>true|some (.exit _)=>true|_=>false
def o2(iT:Option Code)(al:hw)(C:aL)(todo:List dR)(ce:iu)(H:K D)(h:K ag)(j:Nat):d7:=
 match ce with
 |⟨fn,n,ao,bc,aJ,ro,cs⟩=>(match ro with
  |none=>bY (UU iT) (al .returning todo ⟨fn,n,ao,bc,aJ,none,cs⟩ H h j)<|none
  |some k=>(match Y C h k with
   |some (.loop _ _ fn n ao H params assign body defers)=>
    bY ((kH C k&&agV iT)&& !aJ) (jz (bn C h k (some (.loop (bY iT.isNone .ready .done) iT fn n ao H params assign body defers))) λh=>uj al aJ cs (.bool iT.isNone) h j)<|none
   |_=>none))
def yN(C:aL)(h:K ag)(H:K D):List ResultVar->Option (List D)
 |[]=>some []
 | .tmp t::k=>(match H.get t,yN C h H k with|some v,some r=>some (v::r)|_,_=>none)
 | .cell F t::k=>(match H.get F with
   |some p=>(match l0 C h t p,yN C h H k with|some v,some r=>some (v::r)|_,_=>none)
   |none=>none)
def xZ(H:K D)(U:Operand):Option D:=match U with
 | .tmp t=>H.get t
 | .const v=>Fw v
 | .global g=>some (.ptr g 0)
 | .func f=>some (.func (.func f) [] [])
def Ma(f:Operand)(params:Array Nat)(assign body:Code)(al:hw)(C:aL)(q:List dR)(ce:iu)(H:K D)(h:K ag)(j:Nat):d7:=
 match xZ H f,ce with
 |some (.func (.func g) first fM),⟨fn,n,ao,bc,aJ,ro,cs⟩=>
  (
   match ro with
   |none=>q6 j λj=>
    oH al C g (first++[.func (.yield (j+1)) [] []]++fM) false (⟨fn,n,ao,H, .inRangeFunc (j+1)::q,⟨.collected j,[]⟩::bc, .run,aJ,none⟩::cs)
     (bn C (bn C h j (some (.deferred (some [])))) (j+1) (some (.loop .ready none fn n ao H params.toList assign body j))) (j+2)
   |some k=>(match Y C h k with
    |some (.loop _ _ _ _ _ _ _ _ _ defers)=>q6 j λj=>
     oH al C g (first++[.func (.yield j) [] []]++fM) false (⟨fn,n,ao,H, .inRangeFunc j::q,bc, .run,aJ,some k⟩::cs)
      (bn C h j (some (.loop .ready none fn n ao H params.toList assign body defers))) (j+1)
    |_=>none))
 |_,_=>none
def Ci(id:Nat)(al:hw)(C:aL)(q:List dR)(ce:iu)(H:K D)(h:K ag)(j:Nat):d7:=
 match exitTo id q with
 |some e5=>al .run e5 ce H h j
 |none=>o2 (some (.exit id)) al C (.code (.exit id)::q) ce H h j
def JS(c:Operand)(H:K D)(F b:d7):d7:=jp (xZ H c) λv=>match v with
 | .bool t=>Bool.rec (motive:=λ_=>d7) b F t
 |_=>none
def VZ(n ao:Nat)(ar:Array Oper)(al:hw)(C:aL)(q:List dR)(ce:iu)(H:K D)(h:K ag)(j:Nat):d7:=
 jp (LS C n ar ao) λr=>Rb.rec (motive:=λ_=>d7) (λrest fin=>Bx rest ⟨al,ar,fin,q,ce⟩ C H [] h j) r
def VY(n ao:Nat)(ar:Array Oper)(al:hw)(C:aL)(q:List dR)(ce:iu)(H:K D)(h:K ag)(j:Nat):d7:=
 jp (LR C n ar ao) λr=>Ra.rec (motive:=λ_=>d7) (λlB fin=>q6 j λj=>Ar al C ar j [] lB fin q ce H h (j+ar.size)) r
def ahp(ar:Array Oper)(Cf:Bool)(al:hw)(C:aL)(q:List dR)(ce:iu)(H:K D)(h:K ag)(j:Nat):d7:=
 iu.rec (motive:=λ_=>d7) (λfn n ao bc aJ ro cs=>Bool.rec (motive:=λ_=>d7)
  (VZ n ao ar al C q ⟨fn,n,ao,bc,aJ,ro,cs⟩ H h j) (VY n ao ar al C q ⟨fn,n,ao,bc,aJ,ro,cs⟩ H h j) Cf) ce
abbrev BQ:=hw->aL->List dR->iu->K D->K ag->Nat->d7
def N1:BQ:=λal _ q ce H h j=>al .run q ce H h j
def Ft:BQ:=λ_ _ _ _ _ _ _=>none
def vB(c:Code):BQ:=
 Code.rec (motive:=λ_=>BQ) N1
  (λ_ ar d=>ahp ar d)
  (λ_ b m2 _ al C q=>m2 al C (.code b::q))
  (λc _ _ m2 hB al C q ce H h j=>JS c H (m2 al C q ce H h j) (hB al C q ce H h j))
  (λid _ hB al C q=>hB al C (.inBlock id::q))
  (λb hB al C q=>hB al C (.inLoop b::q))
  (λf params assign body _ _=>Ma f params assign body)
  (λid=>Ci id)
  (λb hB al C q=>hB al C (.inScope b::q))
  (λ_=>N1)
  (λ_=>Ft)
  (λal C q=>o2 (some .ret) al C (.code .ret::q))
  (λ_=>Ft) c
def GR(k:Nat):BQ:=λal C q ce H h j=>match Y C h k with
 |some (.loop state pending gX aU k1 c1 params assign body defers)=>
  (
   match state with
   | .busy=>none
   |_=>bY (kH C k) (jz (bn C h k (some (.loop .exhausted pending gX aU k1 c1 params assign body defers))) λh=>al .run ((pending.map dR.code).toList++q) ce H h j)<|none)
 |_=>none
def JJ:BQ:=λal C q ce H h j=>match ce with
 |⟨fn,n,ao,bc,aJ,ro,cs⟩=>match ro with
  |some k=>(match Y C h k with
   |some (.loop .ready pending gX aU k1 c1 params assign body defers)=>
    bY (kH C k) (jz (bn C h k (some (.loop .busy pending gX aU k1 c1 params assign body defers))) λh=>al .run q ⟨fn,n,ao,bc,aJ,some k,cs⟩ H h j)<|none
   |_=>none)
  |none=>none
def afv(eI:dR):BQ:=
 dR.rec (motive:=λ_=>BQ) (λc=>vB c) (λ_=>N1) (λb al C q=>vB b al C (.inLoop b::q)) (λ_=>N1)
  (λar aq rest fin al C q ce H h j=>Bx rest ⟨al,ar,fin,q,ce⟩ C H aq h j)
  (λar base aq lB fin al C q ce H h j=>Ar al C ar base aq lB fin q ce H h j)
  (λ_ _ _ _ _=>Ft) (λ_ _ _ _ _ _=>Ft) (λ_=>Ft) (λk=>GR k) JJ eI
def ahL(todo:List dR)(al:hw)(C:aL)(ce:iu)(H:K D)(h:K ag)(j:Nat):d7:=
 List.rec (motive:=λ_=>d7) (o2 none al C [] ce H h j) (λeI q _=>afv eI al C q ce H h j) todo
def yS(d:hI)(ds:List hI)(bS:lg)(todo:List dR)(al:hw)(C:aL)(ce:iu)(H:K D)(h:K ag)(j:Nat):d7:=
 match ce with
 |⟨fn,n,ao,_,aJ,ro,cs⟩=>(match d with
  |⟨.collected r,_⟩=>(match Y C h r with
   |some (.deferred (some qk))=>bY (kH C r) (jz (bn C h r (some (.deferred none))) λh=>al bS todo ⟨fn,n,ao,qk++ds,aJ,ro,cs⟩ H h j)<|none
   |_=>none)
  |⟨.fn f fM,args⟩=>(match B3 C f fM args with
   |some (.enter f cv)=>oH al C f cv true (⟨fn,n,ao,H,todo,ds,bS,aJ,ro⟩::cs) h j
   |_=>none))
def one(a8:List D):D:=match a8 with|[v]=>v|a8=> .tuple a8
def Ml(todo:List dR)(al:hw)(C:aL)(ce:iu)(H:K D)(h:K ag)(j:Nat):d7:=
 match ce with
 |⟨fn,n,ao,bc,aJ,ro,cs⟩=>match bc with
  |d::ds=>yS d ds .returning todo al C ⟨fn,n,ao,[],aJ,ro,cs⟩ H h j
  |[]=>(match C.P.funcs[fn]? with
   |some f=>(match yN C h H f.results.toList with
    |some a8=>uj al aJ cs (one a8) h j
    |none=>none)
   |none=>none)
def Mk(chain:List sK)(todo:List dR)(al:hw)(C:aL)(ce:iu)(H:K D)(h:K ag)(j:Nat):d7:=
 match ce with
 |⟨fn,n,ao,bc,aJ,ro,cs⟩=>match bc with
  |d::ds=>yS d ds (.panicking chain) todo al C ⟨fn,n,ao,[],aJ,ro,cs⟩ H h j
  |[]=>(match cs with
   |c::rest=>ahk al c rest chain h j
   |[]=>none)
def Wn(al:hw)(C:aL)(bS:lg)(todo:List dR)(ce:iu)(H:K D)(h:K ag)(j:Nat):d7:=
 lg.rec (motive:=λ_=>d7) (ahL todo al C ce H h j) (Ml todo al C ce H h j) (λf9=>Mk f9 todo al C ce H h j) bS
def run(C:aL)(n:Nat):hw:=
 Nat.rec (motive:=λ_=>hw) (λ_ _ _ _ _ _=>none) (λ_ al bS todo ce H h j=>Wn al C bS todo ce H h j) n
def tX(C:aL)(n:Nat)(f:Nat)(args:List D):d7:=oH (run C n) C f args false [] .nil C.a2
end
end Go.bd

namespace Go.bd
open Go.RowKit (Below)
section
variable{C:aL}{S dd:c9}{ad dC:Nat->Prop}{h T:K ag}{j an bh:Nat}{w b1:World}
def adX(V:dq C S ad h j bh w)(er:bh<=w.heap.size)(kx:Aa C.P){oper:Oper}{av:Operand->Value}{ek:List (Nat×Nat)}{aq:List (Nat×D)}{H:K D}{c:jZ}{res:d6}
 (cC:jv S ad av (ji ek aq H) oper.op.operands.toList)(aA:l3 C ek oper.op=some c)(a:hU c C h j aq H=some res):iH C S ad h j bh w (execOp av oper) res:=by
 have rest:∀U,oper.op=U->c= .fp ek U->iH C S ad h j bh w (execOp av oper) res:=by
  intro U bj EC
  subst EC;subst bj
  exact amW V er kx cC a
 have Bm:∀U,c= .ig ek U->iH C S ad h j bh w (execOp av oper) res:=by intro U E;subst E;simp[hU]at a
 have agA:∀U,c= .make ek U->iH C S ad h j bh w (execOp av oper) res:=by intro U E;subst E;simp[hU]at a
 obtain⟨dst,op,type,pos,after,guard⟩:=oper
 cases op<;>simp only[l3]at aA<;>simp only[Op.operands]at cC
 case store t F x=>
  split at aA
  ·rename_i fV f0 s aC af aF
   simp at aA;subst aA
   simp only[hU,nY aC,nY af]at a
   split at a
   ·rename_i ac bb
    split at a
    ·rename_i v bD
     obtain⟨bF,b3⟩:=cC F Zs ac bb
     obtain⟨cn,b7⟩:=cC x Zs v bD
     obtain⟨T,rfl,aH⟩:=aAZ V aF b3 b7 a
     simp only[execOp,bF,cn]
     exact aH _ (λb1 qB=>by simp[qB])
    ·simp at a
   ·simp at a
  ·simp at aA
 case call s9=>
  obtain⟨callee,args,c7⟩:=s9
  cases callee with
  |builtin b=>
   cases b<;>simp[l3]at aA<;>first
    |exact rest _ rfl aA.symm
    |exact Bm _ aA.symm
  |value f=>
   cases f with
   |func g=>
    simp only at aA
    split at aA
    ·rename_i cv has
     simp at aA;subst aA
     simp only[hU]at a
     split at a
     ·rename_i a8 pJ
      simp only[Call.operands]at cC
      obtain⟨ei,c4⟩:=apN aq H has pJ
      have avq:jv S ad av (ji ek aq H) args.toList:=cC.mono (by simp;intro x af;exact .inr af)
      obtain⟨e6,fq⟩:=agf avq ei c4
      obtain⟨eM,_⟩:=cC (.func g) Zs (.func (.func g) [] []) rfl
      refine(RV (S:=S) (h:=h) (j:=j) (bh:=bh) (w:=w) kx fq a).congr ?_
      have E:args.map av=(b2 S a8).toArray:=by apply YZ;simp[e6]
      simp[execOp,resolve,eM,aQ,nr,b2,Deferred.ofValue,invoke,E]
     ·simp at a
    ·simp at aA
   |tmp t=>simp at aA;exact rest _ rfl aA.symm
   |const v=>simp at aA;exact rest _ rfl aA.symm
   |global g=>simp at aA;exact rest _ rfl aA.symm
  |invoke r m=>simp[l3]at aA;exact rest _ rfl aA.symm
 case convert s d x=>
  rw[fA]at aA
  split at aA
  ·simp at aA;exact rest _ rfl aA.symm
  ·simp at aA;exact Bm _ aA.symm
 case makeMap t r=>cases r<;>simp[l3]at aA<;>first|exact rest _ rfl aA.symm|exact agA _ aA.symm
 case binOp op t x e I9=>
  rw[fA]at aA
  split at aA
  ·split at aA
   ·simp at aA;subst aA;simp[hU]at a
   ·simp at aA
  ·simp at aA;exact Bm _ aA.symm
 case fieldAddr s x f=>
  split at aA
  ·rw[qG]at aA
   split at aA
   ·split at aA
    ·simp only[GK,Zf]at aA
     obtain⟨_,rfl⟩:=aA
     simp[hU]at a
    ·simp at aA
   ·simp at aA
  ·simp at aA
 case indexAddr t x i=>
  split at aA
  ·split at aA
   ·simp at aA;subst aA;simp[hU]at a
   ·simp at aA
  ·split at aA
   ·simp at aA;subst aA;simp[hU]at a
   ·simp at aA
  ·simp at aA
 all_goals first
  |(simp at aA;first|exact rest _ rfl aA.symm|exact Bm _ aA.symm|exact agA _ aA.symm)
  |(split at aA<;>first
    |(simp at aA;subst aA;simp[hU]at a;done)
    |(simp at aA;done))
def PL{oper:Oper}{ek:List (Nat×Nat)}{c:jZ}(aA:l3 C ek oper.op=some c){b:Nat}{aq:List (Nat×D)}{H:K D}{r:D×ag}(a:oJ c C b aq H=some r):qW oper.op C (ji ek aq H) b=some r:=by
 have rest:∀U,oper.op=U->c= .make ek U->qW oper.op C (ji ek aq H) b=some r:=by
  intro U bj EC
  subst EC;subst bj
  exact a
 have Bm:∀U,c= .ig ek U->qW oper.op C (ji ek aq H) b=some r:=by intro U E;subst E;simp[oJ]at a
 have Db:∀U,c= .fp ek U->qW oper.op C (ji ek aq H) b=some r:=by intro U E;subst E;simp[oJ]at a
 obtain⟨dst,op,type,pos,after,guard⟩:=oper
 cases op<;>simp only[l3]at aA
 case call s9=>
  obtain⟨callee,args,c7⟩:=s9
  cases callee with
  |builtin b=>cases b<;>simp[l3]at aA<;>first|exact Db _ aA.symm|exact Bm _ aA.symm
  |value f=>
   cases f with
   |func g=>
    simp[l3]at aA
    split at aA
    ·simp at aA;subst aA;simp[oJ]at a
    ·simp at aA
   |tmp t=>simp[l3]at aA;exact Db _ aA.symm
   |const v=>simp[l3]at aA;exact Db _ aA.symm
   |global g=>simp[l3]at aA;exact Db _ aA.symm
  |invoke r m=>simp[l3]at aA;exact Db _ aA.symm
 case convert s d x=>
  rw[fA]at aA
  split at aA
  ·simp at aA;exact Db _ aA.symm
  ·simp at aA;exact Bm _ aA.symm
 case makeMap t r=>cases r<;>simp[l3]at aA<;>first|exact rest _ rfl aA.symm|exact Db _ aA.symm
 case binOp op t x e I9=>
  rw[fA]at aA
  split at aA
  ·split at aA
   ·simp at aA;subst aA;simp[oJ]at a
   ·simp at aA
  ·simp at aA;exact Bm _ aA.symm
 case fieldAddr s x f=>
  split at aA
  ·rw[qG]at aA
   split at aA
   ·split at aA
    ·simp only[GK,Zf]at aA
     obtain⟨_,rfl⟩:=aA
     simp[oJ]at a
    ·simp at aA
   ·simp at aA
  ·simp at aA
 case indexAddr t x i=>
  split at aA
  ·split at aA
   ·simp at aA;subst aA;simp[oJ]at a
   ·simp at aA
  ·split at aA
   ·simp at aA;subst aA;simp[oJ]at a
   ·simp at aA
  ·simp at aA
 all_goals first
  |(simp at aA;first|exact rest _ rfl aA.symm|exact Bm _ aA.symm|exact Db _ aA.symm)
  |(split at aA<;>first
    |(simp at aA;subst aA;simp[oJ]at a;done)
    |(simp at aA;done))
def o8{α:Type}(U:Option α)(q:α->d7):jp U q=match U with|some F=>q F|none=>none:=by cases U<;>rfl
def abg(k:List (Nat×D))(W:Nat)(q:D->d7):JG k W q=jp (eo k W) q:=by
 induction k with
 |nil=>rfl
 |cons p k al=>
  obtain⟨F,b⟩:=p
  show(Bool.rec (motive:=λ_=>d7) (JG k W q) (q b) (Nat.beq F W))=jp (bY (Nat.beq F W) (some b) (eo k W)) q
  rw[al]
  cases Nat.beq F W<;>rfl
def aqP(t:K D):∀(i:Nat) (q:D->d7),NY t i q=jp (t.get i) q:=by
 induction t with
 |nil=>intro i q;rfl
 |node v k r mB HW=>
  intro i q
  cases i with
  |zero=>cases v<;>rfl
  |succ W=>
   show(Bool.rec (motive:=λ_=>d7) (NY r (Nat.div W 2) q) (NY k (Nat.div W 2) q) (Nat.beq (Nat.mod W 2) 0))=jp (bY (Nat.beq (Nat.mod W 2) 0) (k.get (Nat.div W 2)) (r.get (Nat.div W 2))) q
   rw[mB,HW]
   cases Nat.beq (Nat.mod W 2) 0<;>rfl
def apK(x:kC)(aq:List (Nat×D))(H:K D)(q:D->d7):At x aq H q=jp (lm x aq H) q:=by
 cases x with
 |v W=>exact abg aq W q
 |t n=>exact aqP H n q
 |c F=>rfl
def NN:∀(k:List (Nat×Nat)) (aq:List (Nat×D)) (H:K D) (q:K D->d7),Kc k aq H q=jp (Aw aq k H) q:=by
 intro k
 induction k with
 |nil=>intro aq H q;rfl
 |cons p k al=>
  intro aq H q
  obtain⟨i,d⟩:=p
  show JG aq i (λv=>jz (K.set H d (some v)) λH=>Kc k aq H q)=_
  rw[abg]
  simp only[Aw]
  cases eo aq i with
  |none=>rfl
  |some v=>simp only[hk];exact al _ _ _
def QF(g:Option (Nat×Bool))(aq:List (Nat×D))(F b:d7):aif g aq F b=jp (pf g aq) λw=>if w=true then F else b:=by
 cases g with
 |none=>simp[o8,pf];rfl
 |some p=>
  show jp (pf (some p) aq) (λw=>Bool.rec (motive:=λ_=>d7) b F w)=_
  congr 1
  funext w
  cases w<;>rfl
def P5(op:jZ)(h:K ag)(j:Nat)(aq:List (Nat×D))(H:K D)(ak:D->K ag->Nat->d7)(q4:d6->d7):
 VK op C h j aq H ak q4=match m6 op with
  | .ig=>jp (gW op C h aq H) λv=>ak v h j
  | .make=>jp (PK op C h j aq H) q4
  | .fp=>jp (hU op C h j aq H) q4:=by
 cases op<;>simp only[VK,m6,apK,gW,o8]<;>(try rfl)
 all_goals(split<;>first|rfl|(split<;>simp_all))
end
end Go.bd

namespace Go.bd
open Go.RowKit (Below)
def xe:List Oper->Nat->List (Nat×Nat)->List (Nat×Nat)
 |[],_,ek=>ek
 |U::k,i,ek=>xe k (i+1) (Ad U i ek)
def is(ar:Array Oper)(i:Nat):List (Nat×Nat):=xe (ar.toList.take i) 0 []
def aB4(F:List Oper):∀(b:List Oper) (i:Nat) (ek:List (Nat×Nat)),xe (F++b) i ek=xe b (i+F.length) (xe F i ek):=by
 induction F with
 |nil=>intro b i ek;rfl
 |cons U F al=>
  intro b i ek
  simp only[YC,xe,al,ZD]
  congr 1;omega
def MA{ar:Array Oper}{i:Nat}{U:Oper}(a:ar[i]? =some U):is ar (i+1)=Ad U i (is ar i):=by
 have az:ar.toList[i]? =some U:=by rw[ZR];exact a
 have c2:i<ar.toList.length:=(Zc.1 az).1
 unfold is
 rw[ZY,az,aB4]
 have:(ar.toList.take i).length=i:=by simp at c2 ⊢;omega
 rw[this]
 simp[xe]
def MB(ar:Array Oper):is ar 0=[]:=rfl
def ta(ar:Array Oper)(W:Nat):Option Nat:=(ar[W]?).bind (·.dst)
def J0{ar:Array Oper}{i:Nat}{U:Oper}(a:ar[i]? =some U):ta ar i=U.dst:=by simp[ta,a]
def anb{U:Oper}{i W:Nat}{ek:List (Nat×Nat)}:xX W (Ad U i ek)=if i=W/\U.dst.isSome then U.dst else xX W ek:=by
 unfold Ad
 split
 ·rename_i d aH
  simp only[xX,hK,aH]
  by_cases E:i=W<;>simp[E]
 ·rename_i aH
  simp[aH]
def Gs{U:Oper}{i t:Nat}{ek:List (Nat×Nat)}:eo (Ad U i ek) t=if U.dst=some t then some i else eo ek t:=by
 unfold Ad
 split
 ·rename_i d aH
  rw[r1,aH]
  by_cases E:d=t<;>simp[E]
 ·rename_i aH
  simp[aH]
def MC(ar:Array Oper):∀i,i<=ar.size->(∀W t,xX W (is ar i)=some t->ta ar W=some t)/\
 (∀t W,eo (is ar i) t=some W->W<i/\ta ar W=some t/\∀q,W<q->q<i->ta ar q≠some t)/\(∀t,eo (is ar i) t=none->∀q,q<i->ta ar q≠some t):=by
 intro i
 induction i with
 |zero=>intro _;rw[MB];exact⟨λW t a=>by simp[xX]at a,λt W a=>by simp at a,λt _ q aD=>Zo⟩
 |succ i al=>
  intro aN
  obtain⟨I,J,am⟩:=al Zo
  have bj:ar[i]? =some ar[i]:=Array.getElem?_eq_getElem Zo
  rw[MA bj]
  have aH:=J0 bj
  refine⟨λW t a=> ?_,λt W a=> ?_,λt a q aD=> ?_⟩
  ·rw[anb]at a
   split at a
   ·rename_i E;rw[<-E.1,aH];exact a
   ·exact I W t a
  ·rw[Gs]at a
   split at a
   ·rename_i E
    cases a
    exact⟨Zo,by rw[aH];exact E,λq kq i6=>Zo⟩
   ·rename_i E
    obtain⟨bR,cq,cP⟩:=J t W a
    refine⟨Zo,cq,λq kq i6=> ?_⟩
    by_cases ah:q=i
    ·subst ah;rw[aH];exact E
    ·exact cP q kq Zo
  ·rw[Gs]at a
   split at a
   ·cases a
   ·rename_i E
    by_cases ah:q=i
    ·subst ah;rw[aH];exact E
    ·exact am t a q Zo
section
variable{C:aL}{S dd:c9}{ad dC:Nat->Prop}{h T:K ag}{j an bh:Nat}{w b1:World}
def ld(tmps:Array Value):Operand->Value
 | .tmp t=>tmps.getD t Go.undef
 | .const v=>v
 | .global g=> .pointer (some ⟨g,0,none⟩)
 | .func f=> .func (.func f) #[] #[]
def J7(fr:Frame):fr.eval=ld fr.tmps:=by funext x;cases x<;>rfl
def pp(S:c9)(ad:Nat->Prop)(ao:Nat)(X:Nat->Prop)(ek:List (Nat×Nat))(aq:List (Nat×D))(H:K D)(tmps:Array Value):Prop:=
 ∀t v,X t->(match eo ek t with|some W=>eo aq W=some v|none=>bit ao t=true/\H.get t=some v)->tmps[t]? =some (aQ S v)/\ck ad v
def sV(C:aL)(S:c9)(ad:Nat->Prop):Prop:=∀g,g<C.p0->ad g/\(S g).cH=g/\(S g).ec=0
def ax4{ao:Nat}{ek:List (Nat×Nat)}:∀{k:List Operand},Fy C ao ek k=true->∀x∈k,Bo C ao ek x=true:=by
 intro k
 induction k with
 |nil=>intro _ x a;simp at a
 |cons F k al=>
  intro a x af
  simp only[Fy,Zp]at a
  rcases Zr.1 af with rfl|af
  ·exact a.1
  ·exact al a.2 x af
def acj{ao:Nat}{X:Nat->Prop}{ek:List (Nat×Nat)}{aq:List (Nat×D)}{H:K D}{tmps:Array Value}(bD:pp S ad ao X ek aq H tmps){k:List Operand}(bZ:∀t,Operand.tmp t∈k->X t)(bj:Fy C ao ek k=true)
 (eN:sV C S ad):jv S ad (ld tmps) (ji ek aq H) k:=by
 intro x af v a
 have fY:=ax4 bj x af
 cases x with
 |tmp t=>
  have:=bD t v (bZ t af) (by
   simp only[ji]at a
   simp only[Bo]at fY
   split at a
   ·rename_i W bK;rw[bK];exact a
   ·rename_i bK;rw[bK]at fY ⊢;exact⟨fY,a⟩)
  exact⟨by simp[ld,this.1],this.2⟩
 |const c=>exact PX a
 |global g=>
  simp[ji]at a;subst a
  simp only[Bo]at fY
  obtain⟨b3,b7,cS⟩:=eN g (lG fY)
  exact⟨by simp[ld,aQ,b7,cS],b3⟩
 |func f=>
  simp[ji]at a;subst a
  exact⟨by simp[ld,aQ,nr,b2],trivial,trivial,trivial⟩
end
end Go.bd

namespace Go.bd
def B7(m i:Nat):bit m i=m.testBit i:=by
 unfold bit
 rw[Nat.testBit_eq_decide_div_mod_eq,Yh,Zh]
 exact⟨Zl,λa=>by rw[show Nat.mod (Nat.div m (Nat.pow 2 i)) 2=1 from a];rfl⟩
def Ni(i:Nat):bit 0 i=false:=by rw[B7];simp
def GA(F b i:Nat):bit (Nat.lor F b) i=(bit F i||bit b i):=by
 rw[B7,B7,B7];exact Nat.testBit_or F b i
def Nh(t i:Nat):bit (Nat.pow 2 t) i=decide (t=i):=by
 rw[B7];exact Nat.testBit_two_pow
def anO(F b i:Nat):bit (Nat.land F b) i=(bit F i&&bit b i):=by
 rw[B7,B7,B7];exact Nat.testBit_and F b i
def ayf{U:Operand}{m t:Nat}:bit (IB U m) t=true↔U= .tmp t\/bit m t=true:=by
 cases U with
 |tmp ac=>
  show bit (Nat.lor m (Nat.pow 2 ac)) t=true↔_
  rw[GA,Nh]
  simp[or_comm]
 |_=>simp[IB]
def ayg{t:Nat}:∀{k:List Operand},bit (IC k) t=true↔Operand.tmp t∈k:=by
 intro k
 induction k with
 |nil=>simp[IC,Ni]
 |cons F k al=>
  show bit (IB F (IC k)) t=true↔_
  rw[ayf,al]
  simp[eq_comm]
def aoX{U:Oper}{t:Nat}:bit (JZ U) t=true↔U.dst=some t:=by
 unfold JZ
 cases U.dst with
 |none=>simp[Ni]
 |some d=>
  show bit (Nat.pow 2 d) t=true↔_
  rw[Nh]
  simp
structure MR(C:aL)(n ao:Nat)(ar:Array Oper)(x:ft)(U:Oper):Prop where
 oper:ar[x.i]? =some U
 g:JO (is ar x.i) U.guard=some x.g
 op:l3 C (is ar x.i) U.op=some x.op
 dst:∀d,U.dst=some d->d<n
 reads:Fy C ao (is ar x.i) U.op.operands.toList=true
def RU{C:aL}{n ao i:Nat}{U:Oper}{k:List Oper}{ek:List (Nat×Nat)}{cs:List ft}(a:s8 C n ao (U::k) i ek=some cs):
 ∃g op r,JO ek U.guard=some g/\l3 C ek U.op=some op/\Nz n U=true/\Fy C ao ek U.op.operands.toList=true/\s8 C n ao k (i+1) (Ad U i ek)=some r/\cs=⟨i,g,op⟩::r:=by
 simp only[s8,ms]at a
 split at a
 ·rename_i g op bU ET
  simp only[e1,Zp]at a
  obtain⟨⟨I,J⟩,a⟩:=a
  split at a
  ·rename_i r V
   simp at a
   exact⟨g,op,r,bU,ET,I,J,V,a.symm⟩
  ·simp at a
 ·simp at a
def ab4{n:Nat}{U:Oper}(a:Nz n U=true):∀d,U.dst=some d->d<n:=by
 intro d aH
 unfold Nz at a
 rw[aH]at a
 exact lG a
def Sf{ar:Array Oper}{i:Nat}{U:Oper}{k:List Oper}(a:ar.toList.drop i=U::k):ar[i]? =some U/\ar.toList.drop (i+1)=k/\i<ar.size:=by
 have I:(ar.toList.drop i)[0]? =some U:=by rw[a];rfl
 rw[YJ,ZR]at I
 refine⟨by simpa using I, ?_, ?_⟩
 ·have:(ar.toList.drop i).drop 1=k:=by rw[a];rfl
  rw[zl]at this
  exact this
 ·exact(ZN.1 (by simpa using I)).1
def an1{C:aL}{n ao:Nat}{ar:Array Oper}:∀(k:List Oper) (i:Nat) (cs:List ft),ar.toList.drop i=k->s8 C n ao k i (is ar i)=some cs->
 cs.length=k.length/\∀W x,cs[W]? =some x->x.i=i+W/\∃U,MR C n ao ar x U:=by
 intro k
 induction k with
 |nil=>intro i cs _ a;simp[s8]at a;subst a;simp
 |cons U k al=>
  intro i cs aH a
  obtain⟨g,op,r,I,J,am,aB,bk,rfl⟩:=RU a
  obtain⟨cX,cF,eS⟩:=Sf aH
  rw[<-MA cX]at bk
  obtain⟨bR,cq⟩:=al (i+1) r cF bk
  refine⟨by simp[bR],λW x af=> ?_⟩
  cases W with
  |zero=>simp at af;subst af;exact⟨rfl,U,cX,I,J,ab4 am,aB⟩
  |succ W=>
   simp at af
   obtain⟨E,bs⟩:=cq W x af
   exact⟨Zo,bs⟩
def ao8{iC:List (Nat×Nat)}:∀(k:List Edge) (F:Nat),bit (k.foldr (Ed iC) 0) F=true->∃E∈k,Region.binds .any E=true/\(F=E.on\/∃gr,eo iC E.on=some gr/\bit gr F=true):=by
 intro k
 induction k with
 |nil=>intro F a;simp[Ni]at a
 |cons E k al=>
  intro F a
  simp only[List.foldr_cons]at a
  have qI:bit (k.foldr (Ed iC) 0) F=true->∃iw∈E::k,Region.binds .any iw=true/\(F=iw.on\/∃gr,eo iC iw.on=some gr/\bit gr F=true):=λa=>by
   obtain⟨iw,I,J⟩:=al F a
   exact⟨iw,Zt _ I,J⟩
  unfold Ed at a
  rw[fA]at a
  split at a
  ·exact qI a
  ·rw[fA]at a
   split at a
   ·rename_i aj
    split at a
    ·rename_i q aD
     rw[GA,GA,Nh]at a
     simp only[zi,Zh]at a
     rcases a with (a|a)|a
     ·exact qI a
     ·exact⟨E,Zq ..,aj, .inr ⟨q,aD,a⟩⟩
     ·exact⟨E,Zq ..,aj, .inl a.symm⟩
    ·exact qI a
   ·exact qI a
structure Gh(ar:Array Oper)(p:gk)(U:Oper):Prop where
 oper:ar[p.i]? =some U
 r:p.r=Nat.lor (IC U.op.operands.toList) (N8 (is ar p.i) U.guard)
 w:p.w=JZ U
def agj{ar:Array Oper}:∀(k:List Oper) (i:Nat) (iC:List (Nat×Nat)),ar.toList.drop i=k->(∀W m,eo iC W=some m->W<i)->
 (C9 k i (is ar i) iC).length=k.length/\(∀W p,(C9 k i (is ar i) iC)[W]? =some p->p.i=i+W/\∃U,Gh ar p U)/\
 ∀(bm:Nat->Nat->Prop),(∀W m,eo iC W=some m->bm W m)->(∀W U m,ar[W]? =some U->i<=W->(∀F,bit m F=true->∃E∈U.after.toList,Region.binds .any E=true/\(F=E.on\/∃gr,bm E.on gr/\bit gr F=true))->bm W m)->
  ∀p∈C9 k i (is ar i) iC,bm p.i p.m:=by
 intro k
 induction k with
 |nil=>intro i iC _ _;simp[C9]
 |cons U k al=>
  intro i iC aH sh
  obtain⟨cX,cF,eS⟩:=Sf aH
  simp only[C9,ms]
  rw[<-MA cX]
  have atI:∀W m,eo ((i,U.after.toList.foldr (Ed iC) 0)::iC) W=some m->W<i+1:=by
   intro W m a
   rw[r1]at a
   split at a
   ·omega
   ·have:=sh W m a;omega
  obtain⟨bR,cq,cP⟩:=al (i+1) ((i,U.after.toList.foldr (Ed iC) 0)::iC) cF atI
  refine⟨by simp only[ZD,bR],λW p ay=> ?_,λbm fj sl p ay=> ?_⟩
  ·cases W with
   |zero=>simp only[ZV,Zf]at ay;subst ay;exact⟨rfl,U,cX,rfl,rfl⟩
   |succ W=>
    simp only[ZM]at ay
    obtain⟨E,bs⟩:=cq W p ay
    exact⟨Zo,bs⟩
  ·have aN:bm i (U.after.toList.foldr (Ed iC) 0):=by
    refine sl i U _ cX (Zi _) λF aC=> ?_
    obtain⟨E,I,J,am⟩:=ao8 _ F aC
    refine⟨E,I,J,am.imp id ?_⟩
    rintro⟨gr,aB,bk⟩
    exact⟨gr,fj _ _ aB,bk⟩
   rcases Zr.1 ay with rfl|ay
   ·exact aN
   ·refine cP bm (λW m a=> ?_) (λW U m I J am=>sl W U m I Zo am) p ay
    rw[r1]at a
    split at a
    ·rename_i E;subst E;cases a;exact aN
    ·exact fj W m a
def ax5{F:gk}:∀{k:List gk},P3 F k=true->∀b∈k,PZ F b=true:=by
 intro k
 induction k with
 |nil=>intro _ b a;simp at a
 |cons c k al=>
  intro a b aj
  simp only[P3,Zp]at a
  rcases Zr.1 aj with rfl|aj
  ·exact a.1
  ·exact al a.2 b aj
def ax3:∀{k:List gk},L2 k=true->∀(W i:Nat) F b,W<i->k[W]? =some F->k[i]? =some b->PZ F b=true:=by
 intro k
 induction k with
 |nil=>intro _ W i F b _ a;simp at a
 |cons c k al=>
  intro a W i F b ael aC aj
  simp only[L2,Zp]at a
  obtain⟨i,rfl⟩:∃q,i=q+1:=⟨i-1,Zo⟩
  simp at aj
  cases W with
  |zero=>simp at aC;subst aC;exact ax5 a.1 b (Zj aj)
  |succ W=>simp at aC;exact al a.2 W i F b Zo aC aj
def ax0:∀{k:List Oper}{i:Nat},Fx k i=true->∀W U,k[W]? =some U->∀E∈U.after.toList,Region.binds .any E=true->E.on<i+W:=by
 intro k
 induction k with
 |nil=>intro i _ W U a;simp at a
 |cons F k al=>
  intro i a W U bj E bs aj
  simp only[Fx,Zp]at a
  cases W with
  |zero=>
   simp at bj;subst bj
   have:=YI.1 a.1 E bs
   simp only[aj,Yk,Bool.false_or]at this
   have:=lG this
   omega
  |succ W=>
   simp at bj
   have:=al a.2 W U bj E bs aj
   omega
def asR:∀{k:List gk},KO k=true->∀(p:Nat) F b,k[p]? =some F->k[p+1]? =some b->bit b.m F.i=true:=by
 intro k
 induction k with
 |nil=>intro _ p F b a;simp at a
 |cons c k al=>
  intro a p F b aC aj
  simp only[KO,Zp]at a
  cases p with
  |zero=>
   simp at aC aj;subst aC
   cases k with
   |nil=>simp at aj
   |cons d k=>simp at aj;subst aj;exact a.1
  |succ p=>simp at aC aj;exact al a.2 p F b aC (by simpa using aj)
def asQ:∀(dr:List gk) (cs:List ft),Hn dr cs=(dr.zip cs).filter λx=>n7 x.2.op:=by
 intro dr
 induction dr with
 |nil=>intro cs;rfl
 |cons p dr al=>
  intro cs
  cases cs with
  |nil=>rfl
  |cons c cs=>
   simp only[Hn,List.zip_cons_cons,List.filter_cons,fA,al]
def awP(aF:List gk):∀(dr:List gk) (cs:List ft),Ig aF dr cs=((dr.zip cs).filter λx=> !n7 x.2.op).map λx=>⟨x.2,vC x.1.m aF,CB x.1.i aF⟩:=by
 intro dr
 induction dr with
 |nil=>intro cs;rfl
 |cons p dr al=>
  intro cs
  cases cs with
  |nil=>rfl
  |cons c cs=>
   simp only[Ig,List.zip_cons_cons,List.filter_cons,fA,al]
   cases n7 c.op<;>simp
def NT:∀k:List (gk×ft),q7 k=k.map (·.1):=by
 intro k
 induction k with
 |nil=>rfl
 |cons F k al=>simp[q7,al]
def aov(m:Nat):∀(aF:List gk) (q:Nat),(∀p a,aF[p]? =some a->q<=p->bit m a.i=false)->vC m aF<=q:=by
 intro aF
 induction aF with
 |nil=>intro q _;simp[vC]
 |cons a aF al=>
  intro q aD
  simp only[vC,fA]
  cases q with
  |zero=>
   have:=aD 0 a rfl (Zi _)
   rw[this]
   have:=al 0 (λp cz ay _=>aD (p+1) cz (by simpa using ay) Zo)
   simpa using this
  |succ q=>
   have:=al q (λp cz ay gq=>aD (p+1) cz (by simpa using ay) Zo)
   split<;>omega
def ath(i:Nat):∀(aF:List gk) (q:Nat),q<=aF.length->(∀p a,aF[p]? =some a->p<q->bit a.m i=false)->q<=CB i aF:=by
 intro aF
 induction aF with
 |nil=>intro q aD _;simp at aD;omega
 |cons a aF al=>
  intro q CD aD
  cases q with
  |zero=>omega
  |succ q=>
   have aS:=aD 0 a rfl Zo
   simp only[CB,aS,j3]
   have:=al q (by simpa using CD) (λp cz ay c2=>aD (p+1) cz (by simpa using ay) Zo)
   omega
end Go.bd

