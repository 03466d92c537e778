/- Part of the proof of the last text; no conditions -/
import Derived.Test.YtendhgofocgngaaGreatDoorYA
import Derived.LaidByTextLater
import Derived.LaidSub
import Derived.LaidOnce
import Derived.Test.YtendhgofocgngaaGreatDoorCards
import Derived.LaidMore
import Derived.OpenShut
import Derived.Stop.Joined
import Derived.SevenTiedAt
import Derived.Carry
import Derived.Deep.Slices
import Derived.Shelf.Lays
import Derived.Shelf.Sort.Plain
import Derived.Shelf.Slices.In.SortNone
set_option maxHeartbeats 8000000
set_option linter.all false
namespace Go.Proofs.YtendhgofocgngaaGreatDoor
open Go.ChangeShapes Go.WideShapes Go.ChangeAt Go.RowKit
def Tryz.own:ownKnob Tryz.prog.godebug=none:=Zk
def Tryz.laid:laidOutB Tryz.prog=true:=Zk
def avR:(Tryz.prog.funcs.toList.all λfn=> !fn.body.isSome|| !(fn.name== "runtime.NumGoroutine"))=true:=Zk
def avF:Tryz.prog.follows .mixedOrders=true:=Zk
def kk:Go.bn.xt Tryz.prog:=by
 refine⟨avF,λf fn b8 ah=> ?_⟩
 have aZ:fn∈Tryz.prog.funcs.toList:=Array.mem_toList_iff.2 (zh b8)
 have a:=zk.1 avR fn aZ
 rw[ah]at a
 simpa using a
def OB:Go.bn.Ao Tryz.prog nm:=by
 intro x af ac aX
 have af:x=((Tryz.prog.typeName? 3 231).getD "",231):=by simpa[nm]using af
 subst af
 exact typeName_ptr_named (nm:= "errors.errorString") Zk Zk Zd ac (aX.trans Zk)
def aub:Extern.findNext Tryz.f119=none:=Zk
def aua:Extern.find Tryz.f119=some Extern.BytealgIndexByte.indexByte:=Zk
noncomputable def r1:Nat->List Go.bn.z->Option Go.bn.z:=Go.bn.qy (Go.bn.wX 143 (Go.bn.wY 119)) [(5,[], .bool true)]
def awI{α en:Type}{p al:α×en}{E:α}(B:al=p)(a:al.1=E):p=(E,al.2):=by
 subst B;cases al;cases a;rfl
def avl:Go.bn.gX Tryz.prog nm Rows.causePreRow.laid Tryz.prog.globals.size=(22,am.2):=awI (al:=am) rfl G6
def auM:(Go.bn.gX Tryz.prog nm Rows.causePreRow.laid Tryz.prog.globals.size).1=22:=by
 have a:=G6
 unfold am at a
 exact a
def auN:Go.bn.ni (Go.bn.gX Tryz.prog nm Rows.causePreRow.laid Tryz.prog.globals.size).2 .nil=fo:=by
 unfold fo am
 rfl
def Od{f:Nat}{args:List Go.bn.z}{v:Go.bn.z}{U:Nat->List Go.bn.z->Option Go.bn.z}{m:Nat}(a:Go.bn.yX ⟨Tryz.prog,fo,22,U,Tryz.prog.globals.size⟩ m f args=some v):∃m,Go.bn.yX ⟨Tryz.prog,Go.bn.ni (Go.bn.gX Tryz.prog nm Rows.causePreRow.laid Tryz.prog.globals.size).2 .nil,(Go.bn.gX Tryz.prog nm Rows.causePreRow.laid Tryz.prog.globals.size).1,U,Tryz.prog.globals.size⟩ m f args=some v:=by
 rw[auM,auN]
 exact⟨m,a⟩
def afy(f:Nat)(args:List Go.bn.z)(v:Go.bn.z)(a:r1 f args=some v):Go.bn.qy gZ [(5,[], .bool true)] f args=some v:=by
 unfold r1 at a
 unfold Go.bn.qy at a ⊢
 cases aC:Go.bn.wN f args [(5,[],Go.bn.z.bool true)]with
 |some ac=>rw[aC]at a;exact a
 |none=>
  rw[aC]at a
  simp only at a ⊢
  unfold gZ Go.bn.OL
  by_cases b8:f=20
  ·subst b8
   unfold Go.bn.wX Go.bn.wY at a
   simp[Go.bn.hl]at a
  ·have:Go.bn.oz f [20]=false:=by
    simp[Go.bn.oz]
    cases B:f.beq 20 with
    |false=>rfl
    |true=>exact absurd (Zj B) b8
   rw[this]
   exact a
def awE{w:World}(wC:Go.bn.HU Tryz.prog w)(a:laidMet Tryz.prog Rows.causePreRow.laid w)(C:Go.bn.aK)(bW:C.P=Tryz.prog)(aS:C.g7=r1):Go.bn.PY C w:=by
 obtain⟨aDu,aAr,anE⟩:=Go.bn.Env.auH OB kk wC Tryz.func119 Zk Zk aub aua a
 obtain⟨dD,dQ,anD⟩:=Go.bn.Env.auG OB Tryz.func143 Zk rfl Tryz.stringslite_Clone a anE
 obtain⟨xj,mn,Q7⟩:=Go.bn.Env.auI OB (kg:=[20]) (k:=qM) a anD rfl (λx af=>by
  unfold qM at af
  simp only[Zr,ZL,Yx]at af
  rcases af with rfl|rfl|rfl
  ·exact Od azz
  ·exact Od azA
  ·exact Od azB)
 have bh:=Go.bn.afx (k:=[(5,[], .bool true)]) Q7 rfl (λx af=>by
  rw[YB]at af
  subst af
  exact Od azu)
 obtain⟨P,G,bf,g7,pf⟩:=C
 have aqe:P=Tryz.prog:=bW
 have Gv:g7=r1:=aS
 subst aqe Gv
 exact⟨λf args v bo=>bh.val f args v (afy f args v bo),λf args v bo=>bh.ok f args v (afy f args v bo)⟩
open Go.bn
def alo:∀{s:List Nat},(∀c∈s,c<256)->xy s=true:=by
 intro s
 induction s with
 |nil=>intro _;rfl
 |cons E s ag=>
  intro a
  have H:=a E (Zu ..)
  have bw:Nat.blt E 256=true:=by simp[Nat.blt];omega
  simp only[xy,bw,ag (λc ax=>a c (Zt _ ax)),Ye]
def at9:∀c<256,(decide (0<=yE [32,9,10,13] c 0)==Kb c)=true:=by decide+kernel
def afw{X:co}(az:X.O=r1):jd X:=by
 refine⟨⟨λf k b8=> ?_⟩,λc ax=> ?_,λs aD aw=> ?_⟩
 ·rw[az]
  have H:¬f=5/\¬f=143/\¬f=119:=by
   refine⟨λB=> ?_,λB=> ?_,λB=> ?_⟩<;>(subst B;cases b8)
  unfold r1 qy
  simp only[wN,hl,H.1,ZA]
  unfold wX wY
  simp only[hl,H.2.1,H.2.2,ZA]
 ·refine⟨yE [32,9,10,13] c 0, ?_, ?_⟩
  ·rw[az]
   have bw:xy [32,9,10,13]=true:=rfl
   have b3:Nat.blt c 256=true:=by simp[Nat.blt];omega
   show r1 119 [.str [32,9,10,13], .int .u8 (.ofNat c)]=_
   unfold r1 qy
   simp only[wN,hl]
   unfold wX wY
   simp[hl,bw,b3]
  ·have:=at9 c ax
   rw[Y8]at this
   rw[<-this];simp
 ·rw[az]
  have bw:=alo aD
  have b3:Nat.ble s.length 281474976710656=true:=jg Zo
  unfold r1 qy
  simp only[wN,hl]
  unfold wX
  simp[hl,bw,b3]
def amg:∀{s:List Nat},(∀c∈s,c<256)->xE (s.map λc:Nat=>z.int .u8 (c:Int))=some s:=by
 intro s
 induction s with
 |nil=>intro _;rfl
 |cons E s ag=>
  intro a
  have H:=a E (Zu ..)
  have K:=ag (λc ax=>a c (Zt _ ax))
  show(match xE (s.map λc:Nat=>z.int .u8 (c:Int))with|some r=>some (E%256::r)|none=>none)=_
  rw[K,YI H]
def ayh(w:World)(wC:HU Tryz.prog w)(uG:laidMet Tryz.prog Rows.causePreRow.laid w){v0:Value}{ci:List Nat}{ip:Nat}(Tw:ip<256)(af:∀c∈ci,c<256)(a8:Fi w v0 1 (ci.map λc:Nat=>z.int .u8 (c:Int))):
 Calls Tryz.prog 3 #[v0, .int .u8 (ip:Int)] w λB bE=>B= .returned (.bool true)/\Below w.heap.size w bE:=by
 obtain⟨J,Y,a0,V,hS,iY,ax,t0⟩:=auJ OB (g7:=r1) uG avl a8
 generalize aw:(ci.map λc:Nat=>z.int .u8 (c:Int))=k at*
 have Bd:k.length=ci.length:=by rw[<-aw,Zl]
 let X:co:=⟨wW k fo 22,23,r1⟩
 have cB:Env X w J Y:=⟨kk,awE wC uG X rfl rfl,V,hS,wC⟩
 have bT:r7 X:=⟨rfl,λb ah=>by
  show(wW k fo 22).get b=_
  unfold wW
  split
  ·rw[S.kw,Zg Zo]
  ·rfl⟩
 have aM:(q X).bf<=23:=Zh _
 have qm:(min (ci.length:Int) 5000)=((min ci.length 5000:Nat):Int):=Zo
 have uU:∃bd,eT a0=some (.int .i64 (ci.length:Int))/\(∀R,nl X R 1 a0 none (some (.int .i64 (min (ci.length:Int) 5000))) none=some bd)/\eT bd=some (.int .i64 ((ci.take 5000).length:Int))/\∀R aP,bG X .nil 23 R aP->AM X R bd=some (.str (ci.take 5000)):=by
  rw[qm]
  rcases t0 with ⟨rfl,a⟩|⟨len,cap,rfl,H,K,ak⟩
  ·have pH:ci=[]:=Z5 (by rw[<-Bd,a];rfl)
   subst pH
   exact⟨.a2,rfl,λ_=>rfl,rfl,λ_ _ _=>rfl⟩
  ·rw[ZP,Bd]at K
   subst K
   have aZ:min ci.length 5000<=ci.length:=Nat.min_le_left _ _
   refine⟨.slice 22 0 (min ci.length 5000) cap,sJ ..,λR=> ?_, ?_,λR aP cd=> ?_⟩
   ·generalize min ci.length 5000=al at aZ
    have q0:Nat.ble al cap=true:=jg Zo
    have key:ms ci.length cap none (some (.int .i64 (al:Int))) none=some (0,al,cap):=by
     simp only[ms,ow,pL,q0,eR,ZC]
    simp only[nl,key]
    simp[eR]
   ·rw[sJ,YM,Nat.min_comm]
   ·show(
     match (match (z.slice 22 0 (min ci.length 5000) cap)with| .str s=>some (z.str s)|_=>none)with|some v=>some v|none=>Fw X R (.slice 22 0 (min ci.length 5000) cap))=_
    simp only[Fw]
    have aqG:kt X R 22 0 (min ci.length 5000)=some ((ci.take 5000).map λc:Nat=>z.int .u8 (c:Int)):=by
     by_cases ce:ci.length=0
     ·have pH:ci=[]:=Z5 ce
      subst pH
      simp only[kt]
      cases ax:cellsOf X R 22 with
      |none=>simp
      |some c=>simp[abj]
     ·have ah:Z X R 22=some (.cells (S.ofList k 0 .nil) k.length .jO):=by
       rw[cd.ad 22 Zd]
       exact ak (by rw[Bd];omega)
      simp only[kt,cellsOf,ah]
      rw[abi (mF k) _ _ (by rw[Bd];omega), <-aw,Yg, <-List.map_take,Nat.min_comm]
      congr 2
      rw[List.take_eq_take_iff]
      simp
    rw[aqG]
    simp only[amg (λc ax=>af c (YC ax))]
 obtain⟨bd,bJ,b2,cF,fb⟩:=uU
 have aqH:=auK (X:=X) (h:= .nil) (j:=23) (afw rfl) (ao3 bT) (aoY bT) (aoZ bT) (ao1 bT) (show r1 5 []=some (.bool true) by unfold r1 qy;rfl) Tw aM bJ (by rw[YM];omega) (λc ax=>af c (YC ax)) (b2 _) cF fb
 have fj:ud X 3 [a0, .int .u8 (ip:Int)] .nil 23 (λac _ _=>ac= .bool true) (λ_ _ _=>False):=by
  refine(τ (show(q X).g7 3 [a0, .int .u8 (ip:Int)]=none from(afw (X:=X) rfl).none 3 [a0, .int .u8 (ip:Int)] rfl) aqH).mono (λac _ _ a=> ?_) (λ_ _ _ a=>a)
  rw[a.1]
 have a:=amk cB (v:= .bool true) rfl (args:=[a0, .int .u8 (ip:Int)]) ⟨iY.1,trivial,trivial⟩ fj
 rw[show bK J [a0, .int .u8 (ip:Int)]=[v0, .int .u8 (ip:Int)] from by
  have x9:aF J a0=v0:=by simpa[bK]using ax
  simp[bK,aF,x9]]at a
 refine a.mono λB bE ⟨⟨c6,a7⟩,ah⟩=>⟨?_,ah⟩
 rw[a7];rfl
end Go.Proofs.YtendhgofocgngaaGreatDoor

namespace Go.Proofs.YtendhgofocgngaaGreatDoor
open Go.ChangeShapes Go.WideShapes Go.ChangeAt Go.RowKit
def amm{bv:World}{cr off o:Nat}{bU:Array Value}{ty:TypeId}{fr:Nat×Nat}(ah:bv.heap[cr]? =some (.cells bU ty fr)):bv.cell? ((⟨cr,off,none⟩:Addr).add o)=bU[off+o]? :=by
 unfold Addr.add World.cell?
 by_cases a:o=0
 ·subst a;simp[ah]
 ·simp[a,ah]
set_option maxRecDepth 100000 in
def ayF{bv:World}{base t B:Nat}{E:Addr}{len cap:Nat}(bh:Tryz.prog.underlying t=some (.slice B))(bo:Value.okWide Tryz.prog bv .any base t (.slice (some E) len cap)):E.spot=none/\∃bU ty fr,bv.heap[E.block]? =some (.cells bU ty fr):=by
 simp only[Value.okWide,bh,Cell.okWide,Cell.ok,World.has]at bo
 obtain⟨_,_,_,H,row,cells,K,_⟩:=bo
 refine⟨H, ?_⟩
 unfold World.shape? at K
 split at K
 ·rename_i c th fr ah;exact⟨c,th,fr,ah⟩
 ·cases K
open Go.bn Go.Deep in
def alC{w:World}{cr off len cap:Nat}{bU:Array Value}{ty:TypeId}{fr:Nat×Nat}(aw:len<=cap){k:List z}(NQ:k.length=len)(av:VR k)
 (ah:w.heap[cr]? =some (.cells bU ty fr))(ax:∀(i:Nat) v,k[i]? =some v->bU[off+i]? =some (aF (λ_=>default) v)):Fi w (.slice (some ⟨cr,off,none⟩) len cap) 1 k:=by
 refine .inr ⟨cr,off,len,cap,bU,ty,fr,rfl,aw,Zo,av,λa=>⟨ah, ?_,ax⟩⟩
 have H:=ax (k.length-1) _ (Ze Zo)
 have K:off+(k.length-1)<bU.size:=by
  rcases zd (off+(k.length-1)) bU.size with a|a
  ·exact a
  ·rw[Array.getElem?_eq_none a]at H;cases H
 omega
open Go.bn Go.Deep in
set_option maxRecDepth 100000 in
def alB{nu:Type}{enc:TypeId×Value->nu}{bv:World}{base:Nat}{v:Value}{d:DataW nu}{df:List MemPlace}(bo:Value.okWide Tryz.prog bv .any base 22 v)(a:DataW.Trod enc Tryz.prog bv 0 (λ_=>true) true 22 v d df):
 ∃ci:List Nat,(∀c∈ci,c<256)/\Fi bv v 1 (ci.map λc:Nat=>z.int .u8 (c:Int)):=by
 have bh:Tryz.prog.underlying 22=some (.slice 5):=Zk
 have ax:Tryz.prog.cellsOf 5=1:=Zk
 have aX:Tryz.prog.underlying 5=some (.int .u8):=Zk
 obtain⟨E,len,cap,rfl⟩:=okWide_slice bh bo
 obtain⟨fuel,b8⟩:=a
 rcases open_slice1 bh ax b8 with ⟨hJ,_⟩|⟨fu,aCG,L3,m,n,an,aAq,mq,hJ,_,aw,_,aZ,_,af⟩
 ·simp[Value.cells]at hJ
  obtain⟨rfl,rfl,rfl⟩:=hJ
  exact⟨[],Zs, .inl ⟨rfl,rfl⟩⟩
 ·simp[Value.cells]at hJ
  obtain⟨rfl,rfl,rfl⟩:=hJ
  simp only[ZC]at aZ
  subst aZ
  obtain⟨Bk,bU,ty,fr,ah⟩:=ayF bh bo
  obtain⟨cr,off,spot⟩:=fu
  simp only at Bk ah
  subst Bk
  obtain⟨f,acr⟩:=choose_lt (α:=Nat) (n:=len) (p:=λi x=>x<256/\bU[off+i]? =some (.int .u8 (x:Int))) (λi aA=>by
   obtain⟨H,K⟩:=af i Zo
   obtain⟨o,g,_,bF⟩:=DataW.trod_int aX K
   simp at g
   rw[amm ah,g]at H
   have Jo:IntKind.u8.min<=o/\o<=IntKind.u8.max:=by simpa[Lit.wf]using bF
   have qm:IntKind.u8.min=0:=rfl
   have tA:IntKind.u8.max=255:=rfl
   have aC:0<=o/\o<256:=by rw[qm,tA]at Jo;omega
   obtain⟨x,rfl⟩:=Yd aC.1
   exact⟨x,Zo,H⟩)
  refine⟨(List.range len).map f,λc ax=> ?_,alC (ty:=ty) (fr:=fr) (bU:=bU) aw Zs ?_ ah ?_⟩
  ·obtain⟨i,aA,rfl⟩:=ZB.1 ax
   exact(acr i (List.mem_range.1 aA)).1
  ·intro v bo
   obtain⟨r,_,rfl⟩:=ZB.1 bo
   exact⟨λ_ _=>rfl,λ_=>trivial⟩
  ·intro i v aA
   have jx:=(Zb.1 aA).1
   simp at jx
   simp[jx]at aA
   subst aA
   exact(acr i jx).2
set_option maxRecDepth 100000 in
def alD{nu:Type}{enc:TypeId×Value->nu}{bv:World}{base:Nat}{v:Value}{d:DataW nu}{df:List MemPlace}(bo:Value.okWide Tryz.prog bv .any base 5 v)(a:DataW.Trod enc Tryz.prog bv 0 (λ_=>true) true 5 v d df):
 ∃ip:Nat,ip<256/\v= .int .u8 (ip:Int):=by
 have aX:Tryz.prog.underlying 5=some (.int .u8):=Zk
 obtain⟨fuel,b8⟩:=a
 obtain⟨o,g,_,bF⟩:=DataW.trod_int aX b8
 have Jo:IntKind.u8.min<=o/\o<=IntKind.u8.max:=by simpa[Lit.wf]using bF
 have qm:IntKind.u8.min=0:=rfl
 have tA:IntKind.u8.max=255:=rfl
 have aC:0<=o/\o<256:=by rw[qm,tA]at Jo;omega
 obtain⟨x,rfl⟩:=Yd aC.1
 refine⟨x,Zo, ?_⟩
 cases v with
 |agg cs=>simp[Value.okWide,aX,Cell.okWide,Cell.ok]at bo
 |_=>simpa[Value.cells]using g
end Go.Proofs.YtendhgofocgngaaGreatDoor

namespace Go.Proofs
open Go.Shelf
def Tryz.auR:Go.Shelf.Ren:=⟨fun|189=>27|125=>49|257=>48|128=>87|129=>88|294=>78|295=>79|296=>80|297=>81|298=>82|299=>83|216=>84|300=>85|301=>86|328=>113|329=>114|330=>115|331=>116|332=>117|215=>118|343=>142|n=>n,fun|28=>44|3=>3|46=>113|0=>0|51=>153|53=>50|4=>4|183=>146|182=>145|131=>88|5=>5|9=>9|218=>178|222=>182|228=>209|229=>210|n=>n,fun|n=>n⟩
def Tryz.aeH:Go.Proofs.Lays.n189 Tryz.prog Tryz.auR:={
 mixed:=Zk
 f125:=Tryz.func49.trans (congrArg some Zk)
 f128:=Tryz.func87.trans (congrArg some Zk)
 f129:=Tryz.func88.trans (congrArg some Zk)
 f189:=Tryz.func27.trans (congrArg some Zk)
 f215:=Tryz.func118.trans (congrArg some Zk)
 f216:=Tryz.func84.trans (congrArg some Zk)
 f257:=Tryz.func48.trans (congrArg some Zk)
 f294:=Tryz.func78.trans (congrArg some Zk)
 f295:=Tryz.func79.trans (congrArg some Zk)
 f296:=Tryz.func80.trans (congrArg some Zk)
 f297:=Tryz.func81.trans (congrArg some Zk)
 f298:=Tryz.func82.trans (congrArg some Zk)
 f299:=Tryz.func83.trans (congrArg some Zk)
 f300:=Tryz.func85.trans (congrArg some Zk)
 f301:=Tryz.func86.trans (congrArg some Zk)
 f328:=Tryz.func113.trans (congrArg some Zk)
 f329:=Tryz.func114.trans (congrArg some Zk)
 f330:=Tryz.func115.trans (congrArg some Zk)
 f331:=Tryz.func116.trans (congrArg some Zk)
 f332:=Tryz.func117.trans (congrArg some Zk)
 f343:=Tryz.func142.trans (congrArg some Zk)
 t0:=Tryz.underlying0
 a0:=Tryz.isAgg0
 z0:=Tryz.sizeOf0
 v0:=Tryz.zeroValue0
 t3:=Tryz.underlying3
 a3:=Tryz.isAgg3
 z3:=Tryz.sizeOf3
 v3:=Tryz.zeroValue3
 t4:=Tryz.underlying4
 a4:=Tryz.isAgg4
 z4:=Tryz.sizeOf4
 v4:=Tryz.zeroValue4
 t5:=Tryz.underlying5
 a5:=Tryz.isAgg5
 z5:=Tryz.sizeOf5
 v5:=Tryz.zeroValue5
 t9:=Tryz.underlying9
 a9:=Tryz.isAgg9
 z9:=Tryz.sizeOf9
 v9:=Tryz.zeroValue9
 t28:=Tryz.underlying44
 a28:=Tryz.isAgg44
 z28:=Tryz.sizeOf44
 v28:=Tryz.zeroValue44
 t46:=Tryz.underlying113
 a46:=Tryz.isAgg113
 z46:=Tryz.sizeOf113
 v46:=Tryz.zeroValue113
 t51:=Tryz.underlying153
 a51:=Tryz.isAgg153
 z51:=Tryz.sizeOf153
 v51:=Tryz.zeroValue153
 t53:=Tryz.underlying50
 a53:=Tryz.isAgg50
 z53:=Tryz.sizeOf50
 v53:=Tryz.zeroValue50
 t131:=Tryz.underlying88
 a131:=Tryz.isAgg88
 z131:=Tryz.sizeOf88
 v131:=Tryz.zeroValue88
 t182:=Tryz.underlying145
 a182:=Tryz.isAgg145
 z182:=Tryz.sizeOf145
 v182:=Tryz.zeroValue145
 t183:=Tryz.underlying146
 a183:=Tryz.isAgg146
 z183:=Tryz.sizeOf146
 v183:=Tryz.zeroValue146
 t218:=Tryz.underlying178
 a218:=Tryz.isAgg178
 z218:=Tryz.sizeOf178
 v218:=Tryz.zeroValue178
 t222:=Tryz.underlying182
 a222:=Tryz.isAgg182
 z222:=Tryz.sizeOf182
 v222:=Tryz.zeroValue182
 t228:=Tryz.underlying209
 a228:=Tryz.isAgg209
 z228:=Tryz.sizeOf209
 v228:=Tryz.zeroValue209
 t229:=Tryz.underlying210
 a229:=Tryz.isAgg210
 z229:=Tryz.sizeOf210
 v229:=Tryz.zeroValue210}
end Go.Proofs

namespace Go.bn
def atW(x:Int):∀(cO b9:List Int),(∀b∈cO,b<x)->(∀b,b9.head?=some b->x<=b)->DG x (cO++b9)=cO++x::b9:=by
 intro cO
 induction cO with
 |nil=>
  intro b9 _ a
  cases b9 with
  |nil=>rfl
  |cons b b9=>
   have:=a b rfl
   rw[Yn,DG,eR,rj,Zg (by simp;omega)];rfl
 |cons E cO ag=>
  intro b9 H K
  have:=H E (Zu ..)
  rw[zb,DG,eR,rj,Zq (by simp;omega),ag b9 (λb ah=>H b (Zt _ ah)) K];rfl
def ayL:∀bH:List Int,(bH.mergeSort λx e=>decide (x<=e))=ib bH:=by
 intro bH
 induction bH with
 |nil=>simp[ib]
 |cons E k ag=>
  have bh:∀E b c:Int,decide (E<=b)=true->decide (b<=c)=true->decide (E<=c)=true:=by intro E b c H K;simp at H K ⊢;omega
  have GI:∀E b:Int,(decide (E<=b)||decide (b<=E))=true:=by intro E b;simp;omega
  obtain⟨cO,b9,H,K,ak⟩:=List.mergeSort_cons bh GI E k
  have aD:=List.pairwise_mergeSort bh GI (E::k)
  rw[H]at aD
  rw[H,ib, <-ag,K,atW E cO b9 (λb ah=>by have:=ak b ah;simp at this;omega)]
  intro b ah
  have aZ:b∈b9:=List.mem_of_mem_head? ah
  have:=(zr.1 (List.pairwise_append.1 aD).2.1).1 b aZ
  simpa using this
end Go.bn
namespace Go.Proofs.YtendhgofocgngaaGreatDoor
open Go.bn
def ayQ:(Tryz.prog.funcs.toList.zipIdx.all λp=> !(p.1.name== "slices.Sort[[]int,int]")||Nat.beq p.2 27)=true:=Zk
def aaI{P:Program}{bZ:Nat}{fn:Func}{c:Code}{args:Array Value}{w:World}(b8:P.funcs[bZ]? =some fn)(aM:(fn.name== "runtime.NumGoroutine")=false)(ah:fn.body=some c):(callFunc bZ args).run P w= .ok (.enter bZ args) w:=by
 have Gt:¬fn.name= "runtime.NumGoroutine":=by simpa using aM
 simp[callFunc,b8,Gt,ah]
def avz(bl:World):HU Tryz.prog bl:=by
 intro f fn b8 gf w ah
 have B:f=27:=by
  have aZ:(fn,f)∈Tryz.prog.funcs.toList.zipIdx:=by
   rw[List.mem_zipIdx_iff_getElem?,ZM];exact b8
  have:=zk.1 ayQ _ aZ
  simpa[gf]using this
 subst B
 have Su:=Ym (Tryz.func27.symm.trans b8)
 subst Su
 refine⟨⟨aaI Tryz.func27 Zk rfl,Calls.mono (show Calls Tryz.prog 27 _ w _ from Any.slices_Sort_int_none Tryz.aeH none 0 w) λB bE ⟨a7,bF⟩=>⟨a7,by subst bF;exact⟨rfl,rfl,rfl,Zh _,λ_ _=>rfl⟩⟩⟩,λg off c bU t bC aA bH bS acv dW ce aw=> ?_⟩
 have Gj:g<w.heap.size:=by
  rcases zd g w.heap.size with al|al
  ·exact al
  ·rw[Array.getElem?_eq_none al]at bS;cases bS
 have ap6:Go.Sort.Holds (Value.int .i64) w g off bH.toArray:=by
  intro W bx
  have bx:W<bH.length:=by simpa using bx
  refine⟨?_, ?_⟩
  ·have:=ce W _ (Ze bx)
   simp only[World.cell?,bS]
   rw[this]
   simp[bx]
  ·simp only[World.frozen?,bS]
   rcases acv with a|a
   ·simp;omega
   ·simp;omega
 refine⟨aaI Tryz.func27 Zk rfl,Calls.mono (show Calls Tryz.prog 27 _ w _ from Any.slices_Sort_int Tryz.aeH g off c bH w ap6 Gj Zo) λB bE ⟨a7,n,os,bF⟩=>⟨a7, ?_⟩⟩
 subst bF
 rw[ayL]
 have g5:(ib bH).length=bH.length:=ED bH
 have ya:Go.Sort.putCells (Value.int .i64) off (ib bH).toArray bU=jF bU off ((ib bH).map λaG=> .int .i64 aG):=by
  apply Array.ext_getElem?
  intro i
  rw[O9 _ _ _ _ (by rw[Zl,g5];exact dW),Zl]
  unfold Go.Sort.putCells
  rw[Array.getElem?_mapIdx]
  by_cases aA:off<=i/\i<off+(ib bH).length
  ·rw[Zq aA,YY Zo]
   simp only[ZK,Yf]
   rw[Zq aA,Zv,Ze Zo]
   simp[show i-off<(ib bH).length by omega]
  ·rw[Zg aA]
   cases aA5:bU[i]? with
   |none=>rfl
   |some x=>simp only[ZK,Yf];rw[Zg aA]
 have Sy:∀o:Nat,(Go.Sort.putRow (Value.int .i64) (Go.Sort.ahead w n) g off (ib bH).toArray).heap[o]? =(w.setRow g (jF bU off ((ib bH).map λaG=> .int .i64 aG))).heap[o]? :=by
  intro o
  unfold Go.Sort.putRow Go.Sort.mapBlock World.setRow Go.Sort.ahead
  simp only[YX]
  by_cases aC:g=o
  ·subst aC
   simp only[ZC,bS,ZK,Go.Sort.onCells,ya]
  ·simp[aC]
 have adG:(Go.Sort.putRow (Value.int .i64) (Go.Sort.ahead w n) g off (ib bH).toArray).heap.size=(w.setRow g (jF bU off ((ib bH).map λaG=> .int .i64 aG))).heap.size:=by
  unfold Go.Sort.putRow Go.Sort.mapBlock World.setRow Go.Sort.ahead
  simp
 refine⟨rfl,rfl,rfl, ?_,λo aC=> ?_⟩
 ·unfold Go.Sort.grow
  simp only[YP]
  omega
 ·unfold Go.Sort.grow
  show((Go.Sort.putRow (Value.int .i64) (Go.Sort.ahead w n) g off (ib bH).toArray).heap++os)[o]? =_
  rw[Yu Zo]
  exact Sy o
end Go.Proofs.YtendhgofocgngaaGreatDoor

