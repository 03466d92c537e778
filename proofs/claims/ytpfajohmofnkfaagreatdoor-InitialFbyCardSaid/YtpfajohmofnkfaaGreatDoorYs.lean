/- A part of the last text's proof; no condition of its own -/
import Derived.Test.YtpfajohmofnkfaaGreatDoorYr
import Derived.LaidByTextLater
import Derived.LaidSub
import Derived.LaidOnce
import Derived.Test.YtpfajohmofnkfaaGreatDoorCards
import Derived.LaidMore
import Derived.OpenShut
import Derived.Stop.Joined
import Derived.SevenTiedAt
import Derived.Carry
import Derived.Deep.Slices
set_option maxHeartbeats 8000000
set_option linter.all false
namespace Go.Proofs.YtpfajohmofnkfaaGreatDoor
open Go.ChangeShapes Go.WideShapes Go.ChangeAt Go.RowKit
def Tryz.own:ownKnob Tryz.prog.godebug=none:=Zk
def Tryz.laid:laidOutB Tryz.prog=true:=Zk
def axy:(Tryz.prog.funcs.toList.all λfn=> !fn.body.isSome|| !(fn.name== "runtime.NumGoroutine"))=true:=Zk
def axn:Tryz.prog.follows .mixedOrders=true:=Zk
def kx:Go.bd.Aa Tryz.prog:=by
 refine⟨axn,λf fn ch aj=> ?_⟩
 have bp:fn∈Tryz.prog.funcs.toList:=Array.mem_toList_iff.2 (Y4 ch)
 have a:=YI.1 axy fn bp
 rw[aj]at a
 simpa using a
def PU:Go.bd.BW Tryz.prog nm:=by
 intro x af ac bb
 have af:x=((Tryz.prog.typeName? 3 304).getD "",304):=by simpa[nm]using af
 subst af
 exact typeName_ptr_named (nm:= "errors.errorString") Zk Zk Zd ac (bb.trans Zk)
def avT:Extern.findNext Tryz.f223=none:=Zk
def avS:Extern.find Tryz.f223=some Extern.BytealgIndexByte.indexByte:=Zk
noncomputable def sX:Nat->List Go.bd.D->Option Go.bd.D:=Go.bd.rC (Go.bd.yI 240 (Go.bd.yJ 223)) [(50,[], .bool true)]
def ayq{α eD:Type}{p ah:α×eD}{F:α}(E:ah=p)(a:ah.1=F):p=(F,ah.2):=by
 subst E;cases ah;cases a;rfl
def aw6:Go.bd.g7 Tryz.prog nm Rows.initialFbyRow.laid Tryz.prog.globals.size=(22,ao.2):=ayq (ah:=ao) rfl Ik
def awz:(Go.bd.g7 Tryz.prog nm Rows.initialFbyRow.laid Tryz.prog.globals.size).1=22:=by
 have a:=Ik
 unfold ao at a
 exact a
def awA:Go.bd.nK (Go.bd.g7 Tryz.prog nm Rows.initialFbyRow.laid Tryz.prog.globals.size).2 .nil=fu:=by
 unfold fu ao
 rfl
def C0{f:Nat}{args:List Go.bd.D}{v:Go.bd.D}{U:Nat->List Go.bd.D->Option Go.bd.D}{m:Nat}(a:Go.bd.tX ⟨Tryz.prog,fu,22,U,Tryz.prog.globals.size⟩ m f args=some v):∃m,Go.bd.tX ⟨Tryz.prog,Go.bd.nK (Go.bd.g7 Tryz.prog nm Rows.initialFbyRow.laid Tryz.prog.globals.size).2 .nil,(Go.bd.g7 Tryz.prog nm Rows.initialFbyRow.laid Tryz.prog.globals.size).1,U,Tryz.prog.globals.size⟩ m f args=some v:=by
 rw[awz,awA]
 exact⟨m,a⟩
def agM(f:Nat)(args:List Go.bd.D)(v:Go.bd.D)(a:sX f args=some v):Go.bd.rC gS [(50,[], .bool true)] f args=some v:=by
 unfold sX at a
 unfold Go.bd.rC at a ⊢
 cases aD:Go.bd.yC f args [(50,[],Go.bd.D.bool true)]with
 |some ac=>rw[aD]at a;exact a
 |none=>
  rw[aD]at a
  simp only at a ⊢
  unfold gS Go.bd.P6
  by_cases ch:f=101
  ·subst ch
   unfold Go.bd.yI Go.bd.yJ at a
   simp[Go.bd.hK]at a
  ·have:Go.bd.o5 f [101]=false:=by
    simp[Go.bd.o5]
    cases E:f.beq 101 with
    |false=>rfl
    |true=>exact absurd (Zl E) ch
   rw[this]
   exact a
def aym{w:World}(a:laidMet Tryz.prog Rows.initialFbyRow.laid w)(C:Go.bd.aL)(bE:C.P=Tryz.prog)(bj:C.hh=sX):Go.bd.Ri C w:=by
 obtain⟨aE1,aCh,ape⟩:=Go.bd.Env.awu PU kx Tryz.func223 Zk Zk avT avS a
 obtain⟨dP,d4,apd⟩:=Go.bd.Env.awt PU Tryz.func240 Zk rfl Tryz.stringslite_Clone a ape
 obtain⟨y2,mO,Sl⟩:=Go.bd.Env.awv PU (jR:=[101]) (k:=rW) a apd rfl (λx af=>by
  unfold rW at af
  simp only[Zr,ZK,Yz]at af
  rcases af with rfl|rfl|rfl|rfl|rfl|rfl|rfl
  ·exact C0 aBl
  ·exact C0 aBm
  ·exact C0 aBn
  ·exact C0 aBo
  ·exact C0 aBp
  ·exact C0 aBq
  ·exact C0 aBr)
 have a6:=Go.bd.agL (k:=[(50,[], .bool true)]) Sl rfl (λx af=>by
  rw[Yu]at af
  subst af
  exact C0 aBe)
 obtain⟨P,G,a2,hh,p0⟩:=C
 have ar5:P=Tryz.prog:=bE
 have Hx:hh=sX:=bj
 subst ar5 Hx
 exact⟨λf args v bD=>a6.val f args v (agM f args v bD),λf args v bD=>a6.ok f args v (agM f args v bD)⟩
open Go.bd
def ane:∀{s:List Nat},(∀c∈s,c<256)->Ae s=true:=by
 intro s
 induction s with
 |nil=>intro _;rfl
 |cons F s al=>
  intro a
  have I:=a F (Zq ..)
  have bF:Nat.blt F 256=true:=by simp[Nat.blt];omega
  simp only[Ae,bF,al (λc aA=>a c (Zt _ aA)),Yg]
def avR:∀c<256,(decide (0<=Be [32,9,10,13] c 0)==Lx c)=true:=by decide+kernel
def agK{X:cb}(aw:X.O=sX):iI X:=by
 refine⟨⟨λf k ch=> ?_⟩,λc aA=> ?_,λs aF az=> ?_⟩
 ·rw[aw]
  have I:¬f=50/\¬f=240/\¬f=223:=by
   refine⟨λE=> ?_,λE=> ?_,λE=> ?_⟩<;>(subst E;cases ch)
  unfold sX rC
  simp only[yC,hK,I.1,ZA]
  unfold yI yJ
  simp only[hK,I.2.1,I.2.2,ZA]
 ·refine⟨Be [32,9,10,13] c 0, ?_, ?_⟩
  ·rw[aw]
   have bF:Ae [32,9,10,13]=true:=rfl
   have cn:Nat.blt c 256=true:=by simp[Nat.blt];omega
   show sX 223 [.str [32,9,10,13], .int .u8 (.ofNat c)]=_
   unfold sX rC
   simp only[yC,hK]
   unfold yI yJ
   simp[hK,bF,cn]
  ·have:=avR c aA
   rw[Y0]at this
   rw[<-this];simp
 ·rw[aw]
  have bF:=ane aF
  have cn:Nat.ble s.length 281474976710656=true:=ll Zo
  unfold sX rC
  simp only[yC,hK]
  unfold yI
  simp[hK,bF,cn]
def an0:∀{s:List Nat},(∀c∈s,c<256)->Aj (s.map λc:Nat=>D.int .u8 (c:Int))=some s:=by
 intro s
 induction s with
 |nil=>intro _;rfl
 |cons F s al=>
  intro a
  have I:=a F (Zq ..)
  have J:=al (λc aA=>a c (Zt _ aA))
  show(match Aj (s.map λc:Nat=>D.int .u8 (c:Int))with|some r=>some (F%256::r)|none=>none)=_
  rw[J,YH I]
def az3(w:World)(oN:laidMet Tryz.prog Rows.initialFbyRow.laid w){v0:Value}{cl:List Nat}(af:∀c∈cl,c<256)(aS:Gc w v0 1 (cl.map λc:Nat=>D.int .u8 (c:Int))):
 Calls Tryz.prog 11 #[v0] w λE b1=>E= .returned (.bool true)/\Below w.heap.size w b1:=by
 obtain⟨S,ad,a0,V,hW,hN,aA,t0⟩:=aww PU (hh:=sX) oN aw6 aS
 generalize az:(cl.map λc:Nat=>D.int .u8 (c:Int))=k at*
 have CF:k.length=cl.length:=by rw[<-az,Zn]
 let X:cb:=⟨yH k fu 22,23,sX⟩
 have cI:Env X w S ad:=⟨kx,aym oN X rfl rfl,V,hW⟩
 have bZ:rX X:=⟨rfl,λb aj=>by
  show(yH k fu 22).get b=_
  unfold yH
  split
  ·rw[K.kI,Zg Zo]
  ·rfl⟩
 have aE:(o X).a2<=23:=Zi _
 have K2:(min (cl.length:Int) 2000)=((min cl.length 2000:Nat):Int):=Zo
 have wc:∃ba,gy a0=some (.int .i64 (cl.length:Int))/\tZ X .nil 1 a0 none (some (.int .i64 (min (cl.length:Int) 2000))) none=some ba/\gy ba=some (.int .i64 ((cl.take 2000).length:Int))/\∀T aU,bo X .nil 23 T aU->Cc X T ba=some (.str (cl.take 2000)):=by
  rw[K2]
  rcases t0 with ⟨rfl,a⟩|⟨len,cap,rfl,I,J,am⟩
  ·have CQ:cl=[]:=Z4 (by rw[<-CF,a];rfl)
   subst CQ
   exact⟨.aV,rfl,rfl,rfl,λ_ _ _=>rfl⟩
  ·rw[Yl,CF]at J
   subst J
   have bp:min cl.length 2000<=cl.length:=Nat.min_le_left _ _
   refine⟨.slice 22 0 (min cl.length 2000) cap,pT .., ?_, ?_,λT aU bT=> ?_⟩
   ·generalize min cl.length 2000=ah at bp
    have uF:Nat.ble ah cap=true:=ll Zo
    have key:mr cl.length cap none (some (.int .i64 (ah:Int))) none=some (0,ah,cap):=by
     simp only[mr,pS,sv,uF,fA,ZC]
    simp only[tZ,key]
    simp[fA]
   ·rw[pT,zf,Nat.min_comm]
   ·show(
     match (match (D.slice 22 0 (min cl.length 2000) cap)with| .str s=>some (D.str s)|_=>none)with|some v=>some v|none=>Gr X T (.slice 22 0 (min cl.length 2000) cap))=_
    simp only[Gr]
    have asD:ns X T 22 0 (min cl.length 2000)=some ((cl.take 2000).map λc:Nat=>D.int .u8 (c:Int)):=by
     by_cases cr:cl.length=0
     ·have CQ:cl=[]:=Z4 cr
      subst CQ
      simp only[ns]
      cases aA:cellsOf X T 22 with
      |none=>simp
      |some c=>simp[acU]
     ·have aj:Y X T 22=some (.cells (K.ofList k 0 .nil) k.length .ki):=by
       rw[bT.ab 22 Zd]
       exact am (by rw[CF];omega)
      simp only[ns,cellsOf,aj]
      rw[acT (n8 k) _ _ (by rw[CF];omega), <-az,ZZ, <-List.map_take,Nat.min_comm]
      congr 2
      rw[List.take_eq_take_iff]
      simp
    rw[asD]
    simp only[an0 (λc aA=>af c (Y7 aA))]
 obtain⟨ba,bR,cq,cP,d0⟩:=wc
 have TA:=awx (X:=X) (h:= .nil) (j:=23) (agK rfl) (aqG bZ) (aqB bZ) (aqC bZ) (aqE bZ) (aqz bZ) (show sX 50 []=some (.bool true) by unfold sX rC;rfl) aE bR (by rw[zf];omega) (λc aA=>af c (Y7 aA)) cq cP d0
 have fY:vm X 11 [a0] .nil 23 (λac _ _=>ac= .bool true) (λ_ _ _=>False):=by
  refine(abA (show(o X).hh 11 [a0]=none from(agK (X:=X) rfl).none 11 [a0] rfl) TA).mono (λac _ _ a=> ?_) (λ_ _ _ a=>a)
  rw[a.1]
 have a:=an3 cI (v:= .bool true) rfl hN fY
 rw[aA]at a
 refine a.mono λE b1 ⟨⟨dd,bs⟩,aj⟩=>⟨?_,aj⟩
 rw[bs];rfl
end Go.Proofs.YtpfajohmofnkfaaGreatDoor

namespace Go.Proofs.YtpfajohmofnkfaaGreatDoor
open Go.ChangeShapes Go.WideShapes Go.ChangeAt Go.RowKit
def an7{bA:World}{cH off q:Nat}{cm:Array Value}{ty:TypeId}{fr:Nat×Nat}(aj:bA.heap[cH]? =some (.cells cm ty fr)):bA.cell? ((⟨cH,off,none⟩:Addr).add q)=cm[off+q]? :=by
 unfold Addr.add World.cell?
 by_cases a:q=0
 ·subst a;simp[aj]
 ·simp[a,aj]
set_option maxRecDepth 100000 in
def aAn{bA:World}{base t E:Nat}{F:Addr}{len cap:Nat}(a6:Tryz.prog.underlying t=some (.slice E))(bD:Value.okWide Tryz.prog bA .any base t (.slice (some F) len cap)):F.spot=none/\∃cm ty fr,bA.heap[F.block]? =some (.cells cm ty fr):=by
 simp only[Value.okWide,a6,Cell.okWide,Cell.ok,World.has]at bD
 obtain⟨_,_,_,I,row,cells,J,_⟩:=bD
 refine⟨I, ?_⟩
 unfold World.shape? at J
 split at J
 ·rename_i c uu fr aj;exact⟨c,uu,fr,aj⟩
 ·cases J
open Go.bd Go.Deep in
def anq{w:World}{cH off len cap:Nat}{cm:Array Value}{ty:TypeId}{fr:Nat×Nat}(az:len<=cap){k:List D}(HI:k.length=len)(ay:W7 k)
 (aj:w.heap[cH]? =some (.cells cm ty fr))(aA:∀(i:Nat) v,k[i]? =some v->cm[off+i]? =some (aQ (λ_=>default) v)):Gc w (.slice (some ⟨cH,off,none⟩) len cap) 1 k:=by
 refine .inr ⟨cH,off,len,cap,cm,ty,fr,rfl,az,Zo,ay,λa=>⟨aj, ?_,aA⟩⟩
 have I:=aA (k.length-1) _ (Ze Zo)
 have J:off+(k.length-1)<cm.size:=by
  rcases zb (off+(k.length-1)) cm.size with a|a
  ·exact a
  ·rw[Array.getElem?_eq_none a]at I;cases I
 omega
open Go.bd Go.Deep in
set_option maxRecDepth 100000 in
def anp{sW:Type}{enc:TypeId×Value->sW}{bA:World}{base:Nat}{v:Value}{d:DataW sW}{dr:List MemPlace}(bD:Value.okWide Tryz.prog bA .any base 22 v)(a:DataW.Trod enc Tryz.prog bA 0 (λ_=>true) true 22 v d dr):
 ∃cl:List Nat,(∀c∈cl,c<256)/\Gc bA v 1 (cl.map λc:Nat=>D.int .u8 (c:Int)):=by
 have a6:Tryz.prog.underlying 22=some (.slice 5):=Zk
 have aA:Tryz.prog.cellsOf 5=1:=Zk
 have bb:Tryz.prog.underlying 5=some (.int .u8):=Zk
 obtain⟨F,len,cap,rfl⟩:=okWide_slice a6 bD
 obtain⟨fuel,ch⟩:=a
 rcases open_slice1 a6 aA ch with ⟨ia,_⟩|⟨fV,aEh,Nl,m,n,aq,aCg,mR,ia,_,az,_,bp,_,af⟩
 ·simp[Value.cells]at ia
  obtain⟨rfl,rfl,rfl⟩:=ia
  exact⟨[],Zs, .inl ⟨rfl,rfl⟩⟩
 ·simp[Value.cells]at ia
  obtain⟨rfl,rfl,rfl⟩:=ia
  simp only[ZC]at bp
  subst bp
  obtain⟨CM,cm,ty,fr,aj⟩:=aAn a6 bD
  obtain⟨cH,off,spot⟩:=fV
  simp only at CM aj
  subst CM
  obtain⟨f,ad5⟩:=choose_lt (α:=Nat) (n:=len) (p:=λi x=>x<256/\cm[off+i]? =some (.int .u8 (x:Int))) (λi aN=>by
   obtain⟨I,J⟩:=af i Zo
   obtain⟨q,g,_,bt⟩:=DataW.trod_int bb J
   simp at g
   rw[an7 aj,g]at I
   have Ht:IntKind.u8.min<=q/\q<=IntKind.u8.max:=by simpa[Lit.wf]using bt
   have K2:IntKind.u8.min=0:=rfl
   have yo:IntKind.u8.max=255:=rfl
   have aD:0<=q/\q<256:=by rw[K2,yo]at Ht;omega
   obtain⟨x,rfl⟩:=Yn aD.1
   exact⟨x,Zo,I⟩)
  refine⟨(List.range len).map f,λc aA=> ?_,anq (ty:=ty) (fr:=fr) (cm:=cm) az Zs ?_ aj ?_⟩
  ·obtain⟨i,aN,rfl⟩:=ZE.1 aA
   exact(ad5 i (List.mem_range.1 aN)).1
  ·intro v bD
   obtain⟨r,_,rfl⟩:=ZE.1 bD
   exact⟨λ_ _=>rfl,λ_=>trivial⟩
  ·intro i v aN
   have lK:=(Zc.1 aN).1
   simp at lK
   simp[lK]at aN
   subst aN
   exact(ad5 i lK).2
end Go.Proofs.YtpfajohmofnkfaaGreatDoor

