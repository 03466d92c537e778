/- Part of the proof of the last text; no conditions -/
import Derived.Test.YtpeabpmnlmaabaaGreatDoorYq
import Derived.LaidByTextLater
import Derived.LaidSub
import Derived.LaidOnce
import Derived.Test.YtpeabpmnlmaabaaGreatDoorCards
import Derived.LaidMore
import Derived.OpenShut
import Derived.Stop.Joined
import Derived.SevenTiedAt
import Derived.Carry
import Derived.Deep.Slices
set_option maxHeartbeats 8000000
set_option linter.all false
namespace Go.Proofs.YtpeabpmnlmaabaaGreatDoor
open Go.ChangeShapes Go.WideShapes Go.ChangeAt Go.RowKit
def Tryz.own:ownKnob Tryz.prog.godebug=none:=Zk
def Tryz.laid:laidOutB Tryz.prog=true:=Zk
def ayA:(Tryz.prog.funcs.toList.all λfn=> !fn.body.isSome|| !(fn.name== "runtime.NumGoroutine"))=true:=Zk
def ayn:Tryz.prog.follows .mixedOrders=true:=Zk
def kE:Go.ba.yr Tryz.prog:=by
 refine⟨ayn,λf fn cb ag=> ?_⟩
 have bo:fn∈Tryz.prog.funcs.toList:=Array.mem_toList_iff.2 (Y4 cb)
 have a:=List.all_eq_true.1 ayA fn bo
 rw[ag]at a
 simpa using a
def Ql:Go.ba.Bg Tryz.prog nm:=by
 intro x ae ac bc
 have ae:x=((Tryz.prog.typeName? 3 206).getD "",206):=by simpa[nm]using ae
 subst ae
 exact typeName_ptr_named (nm:= "errors.errorString") Zk Zk Zd ac (bc.trans Zk)
def awI:Extern.findNext Tryz.f108=none:=Zk
def awH:Extern.find Tryz.f108=some Extern.BytealgIndexByte.indexByte:=Zk
noncomputable def s2:Nat->List Go.ba.D->Option Go.ba.D:=Go.ba.rD (Go.ba.xS 129 (Go.ba.xT 108)) [(7,[], .bool true)]
def azz{α eJ:Type}{p aj:α×eJ}{F:α}(E:aj=p)(a:aj.1=F):p=(F,aj.2):=by
 subst E;cases aj;cases a;rfl
def ax4:Go.ba.hf Tryz.prog nm Rows.clocksChainsRow.laid Tryz.prog.globals.size=(22,ao.2):=azz (aj:=ao) rfl Ih
def axt:(Go.ba.hf Tryz.prog nm Rows.clocksChainsRow.laid Tryz.prog.globals.size).1=22:=by
 have a:=Ih
 unfold ao at a
 exact a
def axu:Go.ba.nX (Go.ba.hf Tryz.prog nm Rows.clocksChainsRow.laid Tryz.prog.globals.size).2 .nil=fx:=by
 unfold fx ao
 rfl
def PY{f:Nat}{args:List Go.ba.D}{v:Go.ba.D}{V:Nat->List Go.ba.D->Option Go.ba.D}{m:Nat}(a:Go.ba.AQ ⟨Tryz.prog,fx,22,V,Tryz.prog.globals.size⟩ m f args=some v):∃m,Go.ba.AQ ⟨Tryz.prog,Go.ba.nX (Go.ba.hf Tryz.prog nm Rows.clocksChainsRow.laid Tryz.prog.globals.size).2 .nil,(Go.ba.hf Tryz.prog nm Rows.clocksChainsRow.laid Tryz.prog.globals.size).1,V,Tryz.prog.globals.size⟩ m f args=some v:=by
 rw[axt,axu]
 exact⟨m,a⟩
def ahK(f:Nat)(args:List Go.ba.D)(v:Go.ba.D)(a:s2 f args=some v):Go.ba.rD g2 [(7,[], .bool true)] f args=some v:=by
 unfold s2 at a
 unfold Go.ba.rD at a ⊢
 cases aH:Go.ba.xL f args [(7,[],Go.ba.D.bool true)]with
 |some ac=>rw[aH]at a;exact a
 |none=>
  rw[aH]at a
  simp only at a ⊢
  unfold g2 Go.ba.Qv
  by_cases cb:f=26
  ·subst cb
   unfold Go.ba.xS Go.ba.xT at a
   simp[Go.ba.h1]at a
  ·have:Go.ba.rB f [26]=false:=by
    simp[Go.ba.rB]
    cases E:f.beq 26 with
    |false=>rfl
    |true=>exact absurd (Zl E) cb
   rw[this]
   exact a
def azs{w:World}(a:laidMet Tryz.prog Rows.clocksChainsRow.laid w)(C:Go.ba.aL)(bq:C.P=Tryz.prog)(bh:C.hu=s2):Go.ba.RG C w:=by
 obtain⟨aGc,aDp,aqu⟩:=Go.ba.Env.axn Ql kE Tryz.func108 Zk Zk awI awH a
 obtain⟨dU,d5,aqt⟩:=Go.ba.Env.axm Ql Tryz.func129 Zk rfl Tryz.stringslite_Clone a aqu
 obtain⟨yf,m3,SU⟩:=Go.ba.Env.axo Ql (jE:=[26]) (k:=r0) a aqt rfl (λx ae=>by
  unfold r0 at ae
  simp only[Zt,ZI,Ym]at ae
  rcases ae with rfl|rfl|rfl
  ·exact PY aCv
  ·exact PY aCw
  ·exact PY aCx)
 have a8:=Go.ba.ahJ (k:=[(7,[], .bool true)]) SU rfl (λx ae=>by
  rw[List.mem_singleton]at ae
  subst ae
  exact PY aCp)
 obtain⟨P,G,a6,hu,pf⟩:=C
 have atb:P=Tryz.prog:=bq
 have HH:hu=s2:=bh
 subst atb HH
 exact⟨λf args v bv=>a8.val f args v (ahK f args v bv),λf args v bv=>a8.ok f args v (ahK f args v bv)⟩
open Go.ba
def aot:∀{s:List Nat},(∀c∈s,c<256)->yx s=true:=by
 intro s
 induction s with
 |nil=>intro _;rfl
 |cons F s ai=>
  intro a
  have J:=a F (Zv ..)
  have bD:Nat.blt F 256=true:=by simp[Nat.blt];omega
  simp only[yx,bD,ai (λc ax=>a c (Zu _ ax)),Yo]
def awG:∀c<256,(decide (0<=Ax [32,9,10,13] c 0)==LH c)=true:=by decide+kernel
def ahI{X:ch}(au:X.O=s2):i2 X:=by
 refine⟨⟨λf k cb=> ?_⟩,λc ax=> ?_,λs aD az=> ?_⟩
 ·rw[au]
  have J:¬f=7/\¬f=129/\¬f=108:=by
   refine⟨λE=> ?_,λE=> ?_,λE=> ?_⟩<;>(subst E;cases cb)
  unfold s2 rD
  simp only[xL,h1,J.1,ZC]
  unfold xS xT
  simp only[h1,J.2.1,J.2.2,ZC]
 ·refine⟨Ax [32,9,10,13] c 0, ?_, ?_⟩
  ·rw[au]
   have bD:yx [32,9,10,13]=true:=rfl
   have cG:Nat.blt c 256=true:=by simp[Nat.blt];omega
   show s2 108 [.str [32,9,10,13], .int .u8 (.ofNat c)]=_
   unfold s2 rD
   simp only[xL,h1]
   unfold xS xT
   simp[h1,bD,cG]
  ·have:=awG c ax
   rw[YZ]at this
   rw[<-this];simp
 ·rw[au]
  have bD:=aot aD
  have cG:Nat.ble s.length 281474976710656=true:=lr Zo
  unfold s2 rD
  simp only[xL,h1]
  unfold xS
  simp[h1,bD,cG]
def apg:∀{s:List Nat},(∀c∈s,c<256)->yE (s.map λc:Nat=>D.int .u8 (c:Int))=some s:=by
 intro s
 induction s with
 |nil=>intro _;rfl
 |cons F s ai=>
  intro a
  have J:=a F (Zv ..)
  have Q:=ai (λc ax=>a c (Zu _ ax))
  show(match yE (s.map λc:Nat=>D.int .u8 (c:Int))with|some r=>some (F%256::r)|none=>none)=_
  rw[Q,YC J]
def aBb(w:World)(qv:laidMet Tryz.prog Rows.clocksChainsRow.laid w){v0:Value}{ci:List Nat}(ae:∀c∈ci,c<256)(aY:Gd w v0 1 (ci.map λc:Nat=>D.int .u8 (c:Int))):
 Calls Tryz.prog 5 #[v0] w λE b0=>E= .returned (.bool true)/\Below w.heap.size w b0:=by
 obtain⟨S,ad,a0,Y,ij,gc,ax,t0⟩:=axp Ql (hu:=s2) qv ax4 aY
 generalize az:(ci.map λc:Nat=>D.int .u8 (c:Int))=k at*
 have B6:k.length=ci.length:=by rw[<-az,Zi]
 let X:ch:=⟨xR k fx 22,23,s2⟩
 have cK:Env X w S ad:=⟨kE,azs qv X rfl rfl,Y,ij⟩
 have bU:r1 X:=⟨rfl,λb ag=>by
  show(xR k fx 22).get b=_
  unfold xR
  split
  ·rw[R.kN,Zh Zo]
  ·rfl⟩
 have aF:(o X).a6<=23:=Zj _
 have K9:(min (ci.length:Int) 5000)=((min ci.length 5000:Nat):Int):=Zo
 have vW:∃a7,gC a0=some (.int .i64 (ci.length:Int))/\uc X .nil 1 a0 none (some (.int .i64 (min (ci.length:Int) 5000))) none=some a7/\gC a7=some (.int .i64 ((ci.take 5000).length:Int))/\∀S' aP,bf X .nil 23 S' aP->By X S' a7=some (.str (ci.take 5000)):=by
  rw[K9]
  rcases t0 with ⟨rfl,a⟩|⟨len,cap,rfl,J,Q,ak⟩
  ·have Cl:ci=[]:=Z9 (by rw[<-B6,a];rfl)
   subst Cl
   exact⟨.aT,rfl,rfl,rfl,λ_ _ _=>rfl⟩
  ·rw[Z5,B6]at Q
   subst Q
   have bo:min ci.length 5000<=ci.length:=Nat.min_le_left _ _
   refine⟨.slice 22 0 (min ci.length 5000) cap,tN .., ?_, ?_,λS' aP bT=> ?_⟩
   ·generalize min ci.length 5000=aj at bo
    have uH:Nat.ble aj cap=true:=lr Zo
    have key:my ci.length cap none (some (.int .i64 (aj:Int))) none=some (0,aj,cap):=by
     simp only[my,pZ,sz,uH,fF,ZE]
    simp only[uc,key]
    simp[fF]
   ·rw[tN,zf,Nat.min_comm]
   ·show(
     match (match (D.slice 22 0 (min ci.length 5000) cap)with| .str s=>some (D.str s)|_=>none)with|some v=>some v|none=>Gv X S' (.slice 22 0 (min ci.length 5000) cap))=_
    simp only[Gv]
    have atD:nG X S' 22 0 (min ci.length 5000)=some ((ci.take 5000).map λc:Nat=>D.int .u8 (c:Int)):=by
     by_cases cm:ci.length=0
     ·have Cl:ci=[]:=Z9 cm
      subst Cl
      simp only[nG]
      cases ax:cellsOf X S' 22 with
      |none=>simp
      |some c=>simp[adB]
     ·have ag:U X S' 22=some (.cells (R.ofList k 0 .nil) k.length .kq):=by
       rw[bT.aa 22 Zd]
       exact ak (by rw[B6];omega)
      simp only[nG,cellsOf,ag]
      rw[adA (nk k) _ _ (by rw[B6];omega), <-az,Yb, <-List.map_take,Nat.min_comm]
      congr 2
      rw[List.take_eq_take_iff]
      simp
    rw[atD]
    simp only[apg (λc ax=>ae c (Y9 ax))]
 obtain⟨a7,bW,cq,cS,d1⟩:=vW
 have atE:=axr (X:=X) (h:= .nil) (j:=23) (ahI rfl) (arR bU) (arM bU) (arN bU) (arP bU) (arJ bU) (show s2 7 []=some (.bool true) by unfold s2 rD;rfl) aF bW (by rw[zf];omega) (λc ax=>ae c (Y9 ax)) cq cS d1
 have gf:vi X 5 [a0] .nil 23 (λac _ _=>ac= .bool true) (λ_ _ _=>False):=by
  refine(acc (show(o X).hu 5 [a0]=none from(ahI (X:=X) rfl).none 5 [a0] rfl) atE).mono (λac _ _ a=> ?_) (λ_ _ _ a=>a)
  rw[a.1]
 have a:=apj cK (v:= .bool true) rfl gc gf
 rw[ax]at a
 refine a.mono λE b0 ⟨⟨da,bz⟩,ag⟩=>⟨?_,ag⟩
 rw[bz];rfl
def apn{bF:World}{cJ off y:Nat}{co:Array Value}{ty:TypeId}{fr:Nat×Nat}(ag:bF.heap[cJ]? =some (.cells co ty fr)):bF.cell? ((⟨cJ,off,none⟩:Addr).add y)=co[off+y]? :=by
 unfold Addr.add World.cell?
 by_cases a:y=0
 ·subst a;simp[ag]
 ·simp[a,ag]
set_option maxRecDepth 100000 in
def aBy{bF:World}{base t E:Nat}{F:Addr}{len cap:Nat}(a8:Tryz.prog.underlying t=some (.slice E))(bv:Value.okWide Tryz.prog bF .any base t (.slice (some F) len cap)):F.spot=none/\∃co ty fr,bF.heap[F.block]? =some (.cells co ty fr):=by
 simp only[Value.okWide,a8,Cell.okWide,Cell.ok,World.has]at bv
 obtain⟨_,_,_,J,row,cells,Q,_⟩:=bv
 refine⟨J, ?_⟩
 unfold World.shape? at Q
 split at Q
 ·rename_i c ux fr ag;exact⟨c,ux,fr,ag⟩
 ·cases Q
open Go.ba Go.Deep in
def aoG{w:World}{cJ off len cap:Nat}{co:Array Value}{ty:TypeId}{fr:Nat×Nat}(az:len<=cap){k:List D}(Pz:k.length=len)(aw:XG k)
 (ag:w.heap[cJ]? =some (.cells co ty fr))(ax:∀(i:Nat) v,k[i]? =some v->co[off+i]? =some (aO (λ_=>default) v)):Gd w (.slice (some ⟨cJ,off,none⟩) len cap) 1 k:=by
 refine .inr ⟨cJ,off,len,cap,co,ty,fr,rfl,az,Zo,aw,λa=>⟨ag, ?_,ax⟩⟩
 have J:=ax (k.length-1) _ (Ze Zo)
 have Q:off+(k.length-1)<co.size:=by
  rcases zc (off+(k.length-1)) co.size with a|a
  ·exact a
  ·rw[Array.getElem?_eq_none a]at J;cases J
 omega
open Go.ba Go.Deep in
set_option maxRecDepth 100000 in
def aoF{s0:Type}{enc:TypeId×Value->s0}{bF:World}{base:Nat}{v:Value}{d:DataW s0}{dp:List MemPlace}(bv:Value.okWide Tryz.prog bF .any base 22 v)(a:DataW.Trod enc Tryz.prog bF 0 (λ_=>true) true 22 v d dp):
 ∃ci:List Nat,(∀c∈ci,c<256)/\Gd bF v 1 (ci.map λc:Nat=>D.int .u8 (c:Int)):=by
 have a8:Tryz.prog.underlying 22=some (.slice 5):=Zk
 have ax:Tryz.prog.cellsOf 5=1:=Zk
 have bc:Tryz.prog.underlying 5=some (.int .u8):=Zk
 obtain⟨F,len,cap,rfl⟩:=okWide_slice a8 bv
 obtain⟨fuel,cb⟩:=a
 rcases open_slice1 a8 ax cb with ⟨is,_⟩|⟨fu,aFm,NA,m,n,ap,aDo,m4,is,_,az,_,bo,_,ae⟩
 ·simp[Value.cells]at is
  obtain⟨rfl,rfl,rfl⟩:=is
  exact⟨[],Zs, .inl ⟨rfl,rfl⟩⟩
 ·simp[Value.cells]at is
  obtain⟨rfl,rfl,rfl⟩:=is
  simp only[ZE]at bo
  subst bo
  obtain⟨Cg,co,ty,fr,ag⟩:=aBy a8 bv
  obtain⟨cJ,off,spot⟩:=fu
  simp only at Cg ag
  subst Cg
  obtain⟨f,aeN⟩:=choose_lt (α:=Nat) (n:=len) (p:=λi x=>x<256/\co[off+i]? =some (.int .u8 (x:Int))) (λi aN=>by
   obtain⟨J,Q⟩:=ae i Zo
   obtain⟨y,g,_,bw⟩:=DataW.trod_int bc Q
   simp at g
   rw[apn ag,g]at J
   have Uy:IntKind.u8.min<=y/\y<=IntKind.u8.max:=by simpa[Lit.wf]using bw
   have K9:IntKind.u8.min=0:=rfl
   have xz:IntKind.u8.max=255:=rfl
   have aH:0<=y/\y<256:=by rw[K9,xz]at Uy;omega
   obtain⟨x,rfl⟩:=Yd aH.1
   exact⟨x,Zo,J⟩)
  refine⟨(List.range len).map f,λc ax=> ?_,aoG (ty:=ty) (fr:=fr) (co:=co) az Zs ?_ ag ?_⟩
  ·obtain⟨i,aN,rfl⟩:=ZG.1 ax
   exact(aeN i (List.mem_range.1 aN)).1
  ·intro v bv
   obtain⟨r,_,rfl⟩:=ZG.1 bv
   exact⟨λ_ _=>rfl,λ_=>trivial⟩
  ·intro i v aN
   have k6:=(Zb.1 aN).1
   simp at k6
   simp[k6]at aN
   subst aN
   exact(aeN i k6).2
end Go.Proofs.YtpeabpmnlmaabaaGreatDoor

