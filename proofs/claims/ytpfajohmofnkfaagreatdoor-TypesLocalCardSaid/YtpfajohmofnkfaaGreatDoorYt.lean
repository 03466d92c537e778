/- A part of the last text's proof; no condition of its own -/
import Derived.Test.YtpfajohmofnkfaaGreatDoorYs
import Derived.LaidByTextLater
import Derived.LaidSub
import Derived.LaidOnce
import Derived.Test.YtpfajohmofnkfaaGreatDoorCards
import Derived.LaidMore
import Derived.OpenShut
import Derived.Stop.Joined
import Derived.SevenTiedAt
import Derived.Carry
import Derived.Deep.Slices
set_option maxHeartbeats 8000000
set_option linter.all false
namespace Go.Proofs.YtpfajohmofnkfaaGreatDoor
open Go.ChangeShapes Go.WideShapes Go.ChangeAt Go.RowKit
def Tryz.own:ownKnob Tryz.prog.godebug=none:=Zk
def Tryz.laid:laidOutB Tryz.prog=true:=Zk
def auf:(Tryz.prog.funcs.toList.all λfn=> !fn.body.isSome|| !(fn.name== "runtime.NumGoroutine"))=true:=Zk
def at2:Tryz.prog.follows .mixedOrders=true:=Zk
def j5:Go.bi.xG Tryz.prog:=by
 refine⟨at2,λf fn ch aj=> ?_⟩
 have bp:fn∈Tryz.prog.funcs.toList:=Array.mem_toList_iff.2 (Y6 ch)
 have a:=List.all_eq_true.1 auf fn bp
 rw[aj]at a
 simpa using a
def Nn:Go.bi.Ae Tryz.prog nm:=by
 intro x ah ae be
 have ah:x=((Tryz.prog.typeName? 3 304).getD "",304):=by simpa[nm]using ah
 subst ah
 exact typeName_ptr_named (nm:= "errors.errorString") Zk Zk Zd ae (be.trans Zk)
def asw:Extern.findNext Tryz.f223=none:=Zk
def asv:Extern.find Tryz.f223=some Extern.BytealgIndexByte.indexByte:=Zk
noncomputable def rF:Nat->List Go.bi.F->Option Go.bi.F:=Go.bi.qz (Go.bi.xg 240 (Go.bi.xh 223)) [(30,[], .bool true)]
def au8{α eO:Type}{p am:α×eO}{K:α}(J:am=p)(a:am.1=K):p=(K,am.2):=by
 subst J;cases am;cases a;rfl
def atM:Go.bi.g1 Tryz.prog nm Rows.typesLocalRow.laid Tryz.prog.globals.size=(22,av.2):=au8 (am:=av) rfl F8
def atf:(Go.bi.g1 Tryz.prog nm Rows.typesLocalRow.laid Tryz.prog.globals.size).1=22:=by
 have a:=F8
 unfold av at a
 exact a
def atg:Go.bi.m1 (Go.bi.g1 Tryz.prog nm Rows.typesLocalRow.laid Tryz.prog.globals.size).2 .nil=fk:=by
 unfold fk av
 rfl
def Dk{f:Nat}{args:List Go.bi.F}{v:Go.bi.F}{Y:Nat->List Go.bi.F->Option Go.bi.F}{m:Nat}(a:Go.bi.tE ⟨Tryz.prog,fk,22,Y,Tryz.prog.globals.size⟩ m f args=some v):∃m,Go.bi.tE ⟨Tryz.prog,Go.bi.m1 (Go.bi.g1 Tryz.prog nm Rows.typesLocalRow.laid Tryz.prog.globals.size).2 .nil,(Go.bi.g1 Tryz.prog nm Rows.typesLocalRow.laid Tryz.prog.globals.size).1,Y,Tryz.prog.globals.size⟩ m f args=some v:=by
 rw[atf,atg]
 exact⟨m,a⟩
def adO(f:Nat)(args:List Go.bi.F)(v:Go.bi.F)(a:rF f args=some v):Go.bi.qz gN [(30,[], .bool true)] f args=some v:=by
 unfold rF at a
 unfold Go.bi.qz at a ⊢
 cases aN:Go.bi.w8 f args [(30,[],Go.bi.F.bool true)]with
 |some ae=>rw[aN]at a;exact a
 |none=>
  rw[aN]at a
  simp only at a ⊢
  unfold gN Go.bi.Nx
  by_cases ch:f=75
  ·subst ch
   unfold Go.bi.xg Go.bi.xh at a
   simp[Go.bi.hD]at a
  ·have:Go.bi.oa f [75]=false:=by
    simp[Go.bi.oa]
    cases J:f.beq 75 with
    |false=>rfl
    |true=>exact absurd (Zj J) ch
   rw[this]
   exact a
def au4{w:World}(a:laidMet Tryz.prog Rows.typesLocalRow.laid w)(C:Go.bi.aZ)(bC:C.P=Tryz.prog)(bl:C.hc=rF):Go.bi.OA C w:=by
 obtain⟨aBX,ayS,al5⟩:=Go.bi.Env.ata Nn j5 Tryz.func223 Zk Zk asw asv a
 obtain⟨dR,d3,al4⟩:=Go.bi.Env.as9 Nn Tryz.func240 Zk rfl Tryz.stringslite_Clone a al5
 obtain⟨xA,mb,PE⟩:=Go.bi.Env.atb Nn (jv:=[75]) (l:=qO) a al4 rfl (λx ah=>by
  unfold qO at ah
  simp only[Zt,ZL,Yr]at ah
  rcases ah with rfl|rfl|rfl|rfl|rfl|rfl
  ·exact Dk axW
  ·exact Dk axX
  ·exact Dk axY
  ·exact Dk axZ
  ·exact Dk ax0
  ·exact Dk ax1)
 have bc:=Go.bi.adN (l:=[(30,[], .bool true)]) PE rfl (λx ah=>by
  rw[List.mem_singleton]at ah
  subst ah
  exact Dk axQ)
 obtain⟨P,G,a8,hc,o2⟩:=C
 have aoJ:P=Tryz.prog:=bC
 have Fr:hc=rF:=bl
 subst aoJ Fr
 exact⟨λf args v bB=>bc.val f args v (adO f args v bB),λf args v bB=>bc.ok f args v (adO f args v bB)⟩
open Go.bi
def akd:∀{s:List Nat},(∀c∈s,c<256)->xL s=true:=by
 intro s
 induction s with
 |nil=>intro _;rfl
 |cons K s ak=>
  intro a
  have Q:=a K (Zu ..)
  have bD:Nat.blt K 256=true:=by simp[Nat.blt];omega
  simp only[xL,bD,ak (λc aB=>a c (Zr _ aB)),Ya]
def asu:∀c<256,(decide (0<=yJ [32,9,10,13] c 0)==I9 c)=true:=by decide+kernel
def adM{X:ck}(aA:X.O=rF):iE X:=by
 refine⟨⟨λf l ch=> ?_⟩,λc aB=> ?_,λs aD aC=> ?_⟩
 ·rw[aA]
  have Q:¬f=30/\¬f=240/\¬f=223:=by
   refine⟨λJ=> ?_,λJ=> ?_,λJ=> ?_⟩<;>(subst J;cases ch)
  unfold rF qz
  simp only[w8,hD,Q.1,ZA]
  unfold xg xh
  simp only[hD,Q.2.1,Q.2.2,ZA]
 ·refine⟨yJ [32,9,10,13] c 0, ?_, ?_⟩
  ·rw[aA]
   have bD:xL [32,9,10,13]=true:=rfl
   have cF:Nat.blt c 256=true:=by simp[Nat.blt];omega
   show rF 223 [.str [32,9,10,13], .int .u8 (.ofNat c)]=_
   unfold rF qz
   simp only[w8,hD]
   unfold xg xh
   simp[hD,bD,cF]
  ·have:=asu c aB
   rw[Y0]at this
   rw[<-this];simp
 ·rw[aA]
  have bD:=akd aD
  have cF:Nat.ble s.length 281474976710656=true:=kJ Zo
  unfold rF qz
  simp only[w8,hD]
  unfold xg
  simp[hD,bD,cF]
def akV:∀{s:List Nat},(∀c∈s,c<256)->xR (s.map λc:Nat=>F.int .u8 (c:Int))=some s:=by
 intro s
 induction s with
 |nil=>intro _;rfl
 |cons K s ak=>
  intro a
  have Q:=a K (Zu ..)
  have U:=ak (λc aB=>a c (Zr _ aB))
  show(match xR (s.map λc:Nat=>F.int .u8 (c:Int))with|some r=>some (K%256::r)|none=>none)=_
  rw[U,YI Q]
def awI(w:World)(pB:laidMet Tryz.prog Rows.typesLocalRow.laid w){v0:Value}{cn:List Nat}(ah:∀c∈cn,c<256)(b6:D8 w v0 1 (cn.map λc:Nat=>F.int .u8 (c:Int))):
 Calls Tryz.prog 8 #[v0] w λJ bW=>J= .returned (.bool true)/\Below w.heap.size w bW:=by
 obtain⟨R,af,a0,Z,hK,h0,aB,t0⟩:=atc Nn (hc:=rF) pB atM b6
 generalize aC:(cn.map λc:Nat=>F.int .u8 (c:Int))=l at*
 have AV:l.length=cn.length:=by rw[<-aC,Zn]
 let X:ck:=⟨xf l fk 22,23,rF⟩
 have cG:Env X w R af:=⟨j5,au4 pB X rfl rfl,Z,hK⟩
 have bQ:qP X:=⟨rfl,λb aj=>by
  show(xf l fk 22).get b=_
  unfold xf
  split
  ·rw[V.kc,Zg Zo]
  ·rfl⟩
 have aL:(o X).a8<=23:=Zi _
 have II:(min (cn.length:Int) 3000)=((min cn.length 3000:Nat):Int):=Zo
 have uD:∃bh,dX a0=some (.int .i64 (cn.length:Int))/\sD X .nil 1 a0 none (some (.int .i64 (min (cn.length:Int) 3000))) none=some bh/\dX bh=some (.int .i64 ((cn.take 3000).length:Int))/\∀T aV,bq X .nil 23 T aV->Au X T bh=some (.str (cn.take 3000)):=by
  rw[II]
  rcases t0 with ⟨rfl,a⟩|⟨len,cap,rfl,Q,U,ar⟩
  ·have A8:cn=[]:=ZW (by rw[<-AV,a];rfl)
   subst A8
   exact⟨.aP,rfl,rfl,rfl,λ_ _ _=>rfl⟩
  ·rw[Yj,AV]at U
   subst U
   have bp:min cn.length 3000<=cn.length:=Nat.min_le_left _ _
   refine⟨.slice 22 0 (min cn.length 3000) cap,oX .., ?_, ?_,λT aV bT=> ?_⟩
   ·generalize min cn.length 3000=am at bp
    have tc:Nat.ble am cap=true:=kJ Zo
    have key:lQ cn.length cap none (some (.int .i64 (am:Int))) none=some (0,am,cap):=by
     simp only[lQ,oW,rg,tc,fw,ZD]
    simp only[sD,key]
    simp[fw]
   ·rw[oX,ze,Nat.min_comm]
   ·show(
     match (match (F.slice 22 0 (min cn.length 3000) cap)with| .str s=>some (F.str s)|_=>none)with|some v=>some v|none=>Eo X T (.slice 22 0 (min cn.length 3000) cap))=_
    simp only[Eo]
    have aph:mN X T 22 0 (min cn.length 3000)=some ((cn.take 3000).map λc:Nat=>F.int .u8 (c:Int)):=by
     by_cases cv:cn.length=0
     ·have A8:cn=[]:=ZW cv
      subst A8
      simp only[mN]
      cases aB:cellsOf X T 22 with
      |none=>simp
      |some c=>simp[β]
     ·have aj:ab X T 22=some (.cells (V.ofList l 0 .nil) l.length .jR):=by
       rw[bT.ad 22 Zd]
       exact ar (by rw[AV];omega)
      simp only[mN,cellsOf,aj]
      rw[X9 (mT l) _ _ (by rw[AV];omega), <-aC,Z2, <-List.map_take,Nat.min_comm]
      congr 2
      rw[List.take_eq_take_iff]
      simp
    rw[aph]
    simp only[akV (λc aB=>ah c (Y9 aB))]
 obtain⟨bh,bV,cw,c4,ec⟩:=uD
 have api:=atd (X:=X) (h:= .nil) (j:=23) (adM rfl) (ann bQ) (ani bQ) (anj bQ) (anl bQ) (ang bQ) (show rF 30 []=some (.bool true) by unfold rF qz;rfl) aL bV (by rw[ze];omega) (λc aB=>ah c (Y9 aB)) cw c4 ec
 have fS:tO X 8 [a0] .nil 23 (λae _ _=>ae= .bool true) (λ_ _ _=>False):=by
  refine(WT (show(o X).hc 8 [a0]=none from(adM (X:=X) rfl).none 8 [a0] rfl) api).mono (λae _ _ a=> ?_) (λ_ _ _ a=>a)
  rw[a.1]
 have a:=akY cG (v:= .bool true) rfl h0 fS
 rw[aB]at a
 refine a.mono λJ bW ⟨⟨db,bx⟩,aj⟩=>⟨?_,aj⟩
 rw[bx];rfl
end Go.Proofs.YtpfajohmofnkfaaGreatDoor

namespace Go.Proofs.YtpfajohmofnkfaaGreatDoor
open Go.ChangeShapes Go.WideShapes Go.ChangeAt Go.RowKit
def ak2{bA:World}{cE off B:Nat}{co:Array Value}{ty:TypeId}{fr:Nat×Nat}(aj:bA.heap[cE]? =some (.cells co ty fr)):bA.cell? ((⟨cE,off,none⟩:Addr).add B)=co[off+B]? :=by
 unfold Addr.add World.cell?
 by_cases a:B=0
 ·subst a;simp[aj]
 ·simp[a,aj]
set_option maxRecDepth 100000 in
def aw4{bA:World}{base t J:Nat}{K:Addr}{len cap:Nat}(bc:Tryz.prog.underlying t=some (.slice J))(bB:Value.okWide Tryz.prog bA .any base t (.slice (some K) len cap)):K.spot=none/\∃co ty fr,bA.heap[K.block]? =some (.cells co ty fr):=by
 simp only[Value.okWide,bc,Cell.okWide,Cell.ok,World.has]at bB
 obtain⟨_,_,_,Q,row,cells,U,_⟩:=bB
 refine⟨Q, ?_⟩
 unfold World.shape? at U
 split at U
 ·rename_i c s1 fr aj;exact⟨c,s1,fr,aj⟩
 ·cases U
open Go.bi Go.Deep in
def ako{w:World}{cE off len cap:Nat}{co:Array Value}{ty:TypeId}{fr:Nat×Nat}(aC:len<=cap){l:List F}(uO:l.length=len)(az:T5 l)
 (aj:w.heap[cE]? =some (.cells co ty fr))(aB:∀(i:Nat) v,l[i]? =some v->co[off+i]? =some (aQ (λ_=>default) v)):D8 w (.slice (some ⟨cE,off,none⟩) len cap) 1 l:=by
 refine .inr ⟨cE,off,len,cap,co,ty,fr,rfl,aC,Zo,az,λa=>⟨aj, ?_,aB⟩⟩
 have Q:=aB (l.length-1) _ (Ze Zo)
 have U:off+(l.length-1)<co.size:=by
  rcases Y1 (off+(l.length-1)) co.size with a|a
  ·exact a
  ·rw[Array.getElem?_eq_none a]at Q;cases Q
 omega
open Go.bi Go.Deep in
set_option maxRecDepth 100000 in
def akn{rD:Type}{enc:TypeId×Value->rD}{bA:World}{base:Nat}{v:Value}{d:DataW rD}{dq:List MemPlace}(bB:Value.okWide Tryz.prog bA .any base 22 v)(a:DataW.Trod enc Tryz.prog bA 0 (λ_=>true) true 22 v d dq):
 ∃cn:List Nat,(∀c∈cn,c<256)/\D8 bA v 1 (cn.map λc:Nat=>F.int .u8 (c:Int)):=by
 have bc:Tryz.prog.underlying 22=some (.slice 5):=Zk
 have aB:Tryz.prog.cellsOf 5=1:=Zk
 have be:Tryz.prog.underlying 5=some (.int .u8):=Zk
 obtain⟨K,len,cap,rfl⟩:=okWide_slice bc bB
 obtain⟨fuel,ch⟩:=a
 rcases open_slice1 bc aB ch with ⟨hT,_⟩|⟨fN,aBa,KL,m,n,aw,ayR,mc,hT,_,aC,_,bp,_,ah⟩
 ·simp[Value.cells]at hT
  obtain⟨rfl,rfl,rfl⟩:=hT
  exact⟨[],Zs, .inl ⟨rfl,rfl⟩⟩
 ·simp[Value.cells]at hT
  obtain⟨rfl,rfl,rfl⟩:=hT
  simp only[ZD]at bp
  subst bp
  obtain⟨A2,co,ty,fr,aj⟩:=aw4 bc bB
  obtain⟨cE,off,spot⟩:=fN
  simp only at A2 aj
  subst A2
  obtain⟨f,aa3⟩:=choose_lt (α:=Nat) (n:=len) (p:=λi x=>x<256/\co[off+i]? =some (.int .u8 (x:Int))) (λi aJ=>by
   obtain⟨Q,U⟩:=ah i Zo
   obtain⟨B,g,_,bJ⟩:=DataW.trod_int be U
   simp at g
   rw[ak2 aj,g]at Q
   have IB:IntKind.u8.min<=B/\B<=IntKind.u8.max:=by simpa[Lit.wf]using bJ
   have II:IntKind.u8.min=0:=rfl
   have wS:IntKind.u8.max=255:=rfl
   have aN:0<=B/\B<256:=by rw[II,wS]at IB;omega
   obtain⟨x,rfl⟩:=Yl aN.1
   exact⟨x,Zo,Q⟩)
  refine⟨(List.range len).map f,λc aB=> ?_,ako (ty:=ty) (fr:=fr) (co:=co) aC Zs ?_ aj ?_⟩
  ·obtain⟨i,aJ,rfl⟩:=ZT.1 aB
   exact(aa3 i (List.mem_range.1 aJ)).1
  ·intro v bB
   obtain⟨r,_,rfl⟩:=ZT.1 bB
   exact⟨λ_ _=>rfl,λ_=>trivial⟩
  ·intro i v aJ
   have jk:=(Zb.1 aJ).1
   simp at jk
   simp[jk]at aJ
   subst aJ
   exact(aa3 i jk).2
end Go.Proofs.YtpfajohmofnkfaaGreatDoor

