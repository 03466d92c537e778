/- A part of it -/
import Derived.Test.YtpfajohmofnkfaaGreatDoorYs
import Derived.LaidByTextLater
import Derived.LaidSub
import Derived.LaidOnce
import Derived.Test.YtpfajohmofnkfaaGreatDoorCards
import Derived.LaidMore
import Derived.OpenShut
import Derived.Stop.Joined
import Derived.SevenTiedAt
import Derived.Carry
import Derived.Deep.Slices
set_option maxHeartbeats 8000000
set_option linter.all false
namespace Go.Proofs.YtpfajohmofnkfaaGreatDoor
open Go.ChangeShapes Go.WideShapes Go.ChangeAt Go.RowKit
def Tryz.own:ownKnob Tryz.prog.godebug=none:=Zk
def Tryz.laid:laidOutB Tryz.prog=true:=Zk
def aso:(Tryz.prog.funcs.toList.all λfn=> !fn.body.isSome|| !(fn.name== "runtime.NumGoroutine"))=true:=Zk
def asc:Tryz.prog.follows .mixedOrders=true:=Zk
def kc:bg.xD Tryz.prog:=by
 refine⟨asc,λf fn ce ai=> ?_⟩
 have bp:fn∈Tryz.prog.funcs.toList:=Array.mem_toList_iff.2 (Y0 ce)
 have a:=YQ.1 aso fn bp
 rw[ai]at a
 simpa using a
def Ng:bg.Ag Tryz.prog nm:=by
 intro x ag ad bc
 have ag:x=((Tryz.prog.typeName? 3 304).getD "",304):=by simpa[nm]using ag
 subst ag
 exact typeName_ptr_named (nm:= "errors.errorString") Zk Zk Zd ad (bc.trans Zk)
def aqK:Extern.findNext Tryz.f223=none:=Zk
def aqJ:Extern.find Tryz.f223=some Extern.BytealgIndexByte.indexByte:=Zk
noncomputable def rH:Nat->List bg.H->Option bg.H:=bg.qt (bg.xd 240 (bg.xe 223)) [(50,[], .bool true)]
def ata{α eR:Type}{p an:α×eR}{J:α}(F:an=p)(a:an.1=J):p=(J,an.2):=by
 subst F;cases an;cases a;rfl
def arW:bg.gX Tryz.prog nm Rows.initialKnownRow.laid Tryz.prog.globals.size=(22,aq.2):=ata (an:=aq) rfl Ga
def art:(bg.gX Tryz.prog nm Rows.initialKnownRow.laid Tryz.prog.globals.size).1=22:=by
 have a:=Ga
 unfold aq at a
 exact a
def aru:bg.m8 (bg.gX Tryz.prog nm Rows.initialKnownRow.laid Tryz.prog.globals.size).2 .nil=fh:=by
 unfold fh aq
 rfl
def Bj{f:Nat}{args:List bg.H}{v:bg.H}{W:Nat->List bg.H->Option bg.H}{m:Nat}(a:bg.sD ⟨Tryz.prog,fh,22,W,Tryz.prog.globals.size⟩ m f args=some v):∃m,bg.sD ⟨Tryz.prog,bg.m8 (bg.gX Tryz.prog nm Rows.initialKnownRow.laid Tryz.prog.globals.size).2 .nil,(bg.gX Tryz.prog nm Rows.initialKnownRow.laid Tryz.prog.globals.size).1,W,Tryz.prog.globals.size⟩ m f args=some v:=by
 rw[art,aru]
 exact⟨m,a⟩
def ac0(f:Nat)(args:List bg.H)(v:bg.H)(a:rH f args=some v):bg.qt gH [(50,[], .bool true)] f args=some v:=by
 unfold rH at a
 unfold bg.qt at a ⊢
 cases aF:bg.w8 f args [(50,[],bg.H.bool true)]with
 |some ad=>rw[aF]at a;exact a
 |none=>
  rw[aF]at a
  simp only at a ⊢
  unfold gH bg.Nr
  by_cases ce:f=101
  ·subst ce
   unfold bg.xd bg.xe at a
   simp[bg.hB]at a
  ·have:bg.n8 f [101]=false:=by
    simp[bg.n8]
    cases F:f.beq 101 with
    |false=>rfl
    |true=>exact absurd (Zl F) ce
   rw[this]
   exact a
def as7{w:World}(a:laidMet Tryz.prog Rows.initialKnownRow.laid w)(C:bg.aW)(bu:C.P=Tryz.prog)(bf:C.g6=rH):bg.Ol C w:=by
 obtain⟨azg,awG,akT⟩:=bg.Env.arn Ng kc Tryz.func223 Zk Zk aqK aqJ a
 obtain⟨dK,d4,akS⟩:=bg.Env.arm Ng Tryz.func240 Zk rfl Tryz.stringslite_Clone a akT
 obtain⟨xw,mi,Pn⟩:=bg.Env.aro Ng (jx:=[101]) (l:=qN) a akS rfl (λx ag=>by
  unfold qN at ag
  simp only[Zt,ZH,Yr]at ag
  rcases ag with rfl|rfl|rfl|rfl|rfl|rfl|rfl
  ·exact Bj avN
  ·exact Bj avO
  ·exact Bj avP
  ·exact Bj avQ
  ·exact Bj avR
  ·exact Bj avS
  ·exact Bj avT)
 have be:=bg.acZ (l:=[(50,[], .bool true)]) Pn rfl (λx ag=>by
  rw[List.mem_singleton]at ag
  subst ag
  exact Bj avI)
 obtain⟨P,G,a7,g6,o1⟩:=C
 have ans:P=Tryz.prog:=bu
 have Ft:g6=rH:=bf
 subst ans Ft
 exact⟨λf args v bA=>be.val f args v (ac0 f args v bA),λf args v bA=>be.ok f args v (ac0 f args v bA)⟩
open Go.bg
def ai4:∀{s:List Nat},(∀c∈s,c<256)->xH s=true:=by
 intro s
 induction s with
 |nil=>intro _;rfl
 |cons J s al=>
  intro a
  have R:=a J (Zw ..)
  have bB:Nat.blt J 256=true:=by simp[Nat.blt];omega
  simp only[xH,bB,al (λc az=>a c (Zu _ az)),Yc]
def aqI:∀c<256,(decide (0<=yF [32,9,10,13] c 0)==Jb c)=true:=by decide+kernel
def acY{X:ck}(ax:X.O=rH):is X:=by
 refine⟨⟨λf l ce=> ?_⟩,λc az=> ?_,λs aI aB=> ?_⟩
 ·rw[ax]
  have R:¬f=50/\¬f=240/\¬f=223:=by
   refine⟨λF=> ?_,λF=> ?_,λF=> ?_⟩<;>(subst F;cases ce)
  unfold rH qt
  simp only[w8,hB,R.1,ZB]
  unfold xd xe
  simp only[hB,R.2.1,R.2.2,ZB]
 ·refine⟨yF [32,9,10,13] c 0, ?_, ?_⟩
  ·rw[ax]
   have bB:xH [32,9,10,13]=true:=rfl
   have cF:Nat.blt c 256=true:=by simp[Nat.blt];omega
   show rH 223 [.str [32,9,10,13], .int .u8 (.ofNat c)]=_
   unfold rH qt
   simp only[w8,hB]
   unfold xd xe
   simp[hB,bB,cF]
  ·have:=aqI c az
   rw[YU]at this
   rw[<-this];simp
 ·rw[ax]
  have bB:=ai4 aI
  have cF:Nat.ble s.length 281474976710656=true:=lg Zo
  unfold rH qt
  simp only[w8,hB]
  unfold xd
  simp[hB,bB,cF]
def ajS:∀{s:List Nat},(∀c∈s,c<256)->xN (s.map λc:Nat=>H.int .u8 (c:Int))=some s:=by
 intro s
 induction s with
 |nil=>intro _;rfl
 |cons J s al=>
  intro a
  have R:=a J (Zw ..)
  have U:=al (λc az=>a c (Zu _ az))
  show(match xN (s.map λc:Nat=>H.int .u8 (c:Int))with|some r=>some (J%256::r)|none=>none)=_
  rw[U,YA R]
def auE(w:World)(q0:laidMet Tryz.prog Rows.initialKnownRow.laid w){v0:Value}{cm:List Nat}(ag:∀c∈cm,c<256)(cj:Eb w v0 1 (cm.map λc:Nat=>H.int .u8 (c:Int))):
 Calls Tryz.prog 10 #[v0] w λF bV=>F= .returned (.bool true)/\Below w.heap.size w bV:=by
 obtain⟨Q,ae,a0,Z,hL,hg,az,t0⟩:=arp Ng (g6:=rH) q0 arW cj
 generalize aB:(cm.map λc:Nat=>H.int .u8 (c:Int))=l at*
 have AV:l.length=cm.length:=by rw[<-aB,Zp]
 let X:ck:=⟨xc l fh 22,23,rH⟩
 have cG:Env X w Q ae:=⟨kc,as7 q0 X rfl rfl,Z,hL⟩
 have bQ:qO X:=⟨rfl,λb ai=>by
  show(xc l fh 22).get b=_
  unfold xc
  split
  ·rw[S.j1,Zh Zo]
  ·rfl⟩
 have aK:(q X).a7<=23:=Zi _
 have IH:(min (cm.length:Int) 2000)=((min cm.length 2000:Nat):Int):=Zo
 have uH:∃bd,d8 a0=some (.int .i64 (cm.length:Int))/\sG X .nil 1 a0 none (some (.int .i64 (min (cm.length:Int) 2000))) none=some bd/\d8 bd=some (.int .i64 ((cm.take 2000).length:Int))/\∀T aS,bj X .nil 23 T aS->As X T bd=some (.str (cm.take 2000)):=by
  rw[IH]
  rcases t0 with ⟨rfl,a⟩|⟨len,cap,rfl,R,U,ar⟩
  ·have A9:cm=[]:=Yt (by rw[<-AV,a];rfl)
   subst A9
   exact⟨.aT,rfl,rfl,rfl,λ_ _ _=>rfl⟩
  ·rw[Yj,AV]at U
   subst U
   have bp:min cm.length 2000<=cm.length:=Nat.min_le_left _ _
   refine⟨.slice 22 0 (min cm.length 2000) cap,oW .., ?_, ?_,λT aS bS=> ?_⟩
   ·generalize min cm.length 2000=an at bp
    have tc:Nat.ble an cap=true:=lg Zo
    have key:lY cm.length cap none (some (.int .i64 (an:Int))) none=some (0,an,cap):=by
     simp only[lY,oV,rk,tc,fo,ZD]
    simp only[sG,key]
    simp[fo]
   ·rw[oW,zc,Nat.min_comm]
   ·show(
     match (match (H.slice 22 0 (min cm.length 2000) cap)with| .str s=>some (H.str s)|_=>none)with|some v=>some v|none=>Es X T (.slice 22 0 (min cm.length 2000) cap))=_
    simp only[Es]
    have anY:mT X T 22 0 (min cm.length 2000)=some ((cm.take 2000).map λc:Nat=>H.int .u8 (c:Int)):=by
     by_cases ct:cm.length=0
     ·have A9:cm=[]:=Yt ct
      subst A9
      simp only[mT]
      cases az:cellsOf X T 22 with
      |none=>simp
      |some c=>simp[Xw]
     ·have ai:aa X T 22=some (.cells (S.ofList l 0 .nil) l.length .jV):=by
       rw[bS.ac 22 Zd]
       exact ar (by rw[AV];omega)
      simp only[mT,cellsOf,ai]
      rw[Xv (n4 l) _ _ (by rw[AV];omega), <-aB,ZU, <-List.map_take,Nat.min_comm]
      congr 2
      rw[List.take_eq_take_iff]
      simp
    rw[anY]
    simp only[ajS (λc az=>ag c (Y5 az))]
 obtain⟨bd,bZ,cw,c0,ep⟩:=uH
 have anZ:=arq (X:=X) (h:= .nil) (j:=23) (acY rfl) (ame bQ) (al9 bQ) (ama bQ) (amc bQ) (al7 bQ) (show rH 50 []=some (.bool true) by unfold rH qt;rfl) aK bZ (by rw[zc];omega) (λc az=>ag c (Y5 az)) cw c0 ep
 have e4:tP X 10 [a0] .nil 23 (λad _ _=>ad= .bool true) (λ_ _ _=>False):=by
  refine(Wg (show(q X).g6 10 [a0]=none from(acY (X:=X) rfl).none 10 [a0] rfl) anZ).mono (λad _ _ a=> ?_) (λ_ _ _ a=>a)
  rw[a.1,arr]
 have a:=ajV cG (v:= .bool true) rfl hg e4
 rw[az]at a
 refine a.mono λF bV ⟨⟨c9,bt⟩,ai⟩=>⟨?_,ai⟩
 rw[bt];rfl
def ajY{bD:World}{cE off D:Nat}{cn:Array Value}{ty:TypeId}{fr:Nat×Nat}(ai:bD.heap[cE]? =some (.cells cn ty fr)):bD.cell? ((⟨cE,off,none⟩:Addr).add D)=cn[off+D]? :=by
 unfold Addr.add World.cell?
 by_cases a:D=0
 ·subst a;simp[ai]
 ·simp[a,ai]
set_option maxRecDepth 100000 in
def auY{bD:World}{base t F:Nat}{J:Addr}{len cap:Nat}(be:Tryz.prog.underlying t=some (.slice F))(bA:Value.okWide Tryz.prog bD .any base t (.slice (some J) len cap)):J.spot=none/\∃cn ty fr,bD.heap[J.block]? =some (.cells cn ty fr):=by
 simp only[Value.okWide,be,Cell.okWide,Cell.ok,World.has]at bA
 obtain⟨_,_,_,R,row,cells,U,_⟩:=bA
 refine⟨R, ?_⟩
 unfold World.shape? at U
 split at U
 ·rename_i c s1 fr ai;exact⟨c,s1,fr,ai⟩
 ·cases U
open Go.bg Go.Deep in
def ajg{w:World}{cE off len cap:Nat}{cn:Array Value}{ty:TypeId}{fr:Nat×Nat}(aB:len<=cap){l:List H}(Mw:l.length=len)(ay:Tw l)
 (ai:w.heap[cE]? =some (.cells cn ty fr))(az:∀(i:Nat) v,l[i]? =some v->cn[off+i]? =some (aN (λ_=>default) v)):Eb w (.slice (some ⟨cE,off,none⟩) len cap) 1 l:=by
 refine .inr ⟨cE,off,len,cap,cn,ty,fr,rfl,aB,Zo,ay,λa=>⟨ai, ?_,az⟩⟩
 have R:=az (l.length-1) _ (Ze Zo)
 have U:off+(l.length-1)<cn.size:=by
  rcases Y8 (off+(l.length-1)) cn.size with a|a
  ·exact a
  ·rw[Array.getElem?_eq_none a]at R;cases R
 omega
open Go.bg Go.Deep in
set_option maxRecDepth 100000 in
def ajf{ph:Type}{enc:TypeId×Value->ph}{bD:World}{base:Nat}{v:Value}{d:DataW ph}{dl:List MemPlace}(bA:Value.okWide Tryz.prog bD .any base 22 v)(a:DataW.Trod enc Tryz.prog bD 0 (λ_=>true) true 22 v d dl):
 ∃cm:List Nat,(∀c∈cm,c<256)/\Eb bD v 1 (cm.map λc:Nat=>H.int .u8 (c:Int)):=by
 have be:Tryz.prog.underlying 22=some (.slice 5):=Zk
 have az:Tryz.prog.cellsOf 5=1:=Zk
 have bc:Tryz.prog.underlying 5=some (.int .u8):=Zk
 obtain⟨J,len,cap,rfl⟩:=okWide_slice be bA
 obtain⟨fuel,ce⟩:=a
 rcases open_slice1 be az ce with ⟨hU,_⟩|⟨fR,ayC,KN,m,n,au,awF,mj,hU,_,aB,_,bp,_,ag⟩
 ·simp[Value.cells]at hU
  obtain⟨rfl,rfl,rfl⟩:=hU
  exact⟨[],Zs, .inl ⟨rfl,rfl⟩⟩
 ·simp[Value.cells]at hU
  obtain⟨rfl,rfl,rfl⟩:=hU
  simp only[ZD]at bp
  subst bp
  obtain⟨A6,cn,ty,fr,ai⟩:=auY be bA
  obtain⟨cE,off,spot⟩:=fR
  simp only at A6 ai
  subst A6
  obtain⟨f,aaj⟩:=choose_lt (α:=Nat) (n:=len) (p:=λi x=>x<256/\cn[off+i]? =some (.int .u8 (x:Int))) (λi aM=>by
   obtain⟨R,U⟩:=ag i Zo
   obtain⟨D,g,_,bP⟩:=DataW.trod_int bc U
   simp at g
   rw[ajY ai,g]at R
   have QK:IntKind.u8.min<=D/\D<=IntKind.u8.max:=by simpa[Lit.wf]using bP
   have IH:IntKind.u8.min=0:=rfl
   have wW:IntKind.u8.max=255:=rfl
   have aF:0<=D/\D<256:=by rw[IH,wW]at QK;omega
   obtain⟨x,rfl⟩:=Yl aF.1
   exact⟨x,Zo,R⟩)
  refine⟨(List.range len).map f,λc az=> ?_,ajg (ty:=ty) (fr:=fr) (cn:=cn) aB Zs ?_ ai ?_⟩
  ·obtain⟨i,aM,rfl⟩:=ZW.1 az
   exact(aaj i (List.mem_range.1 aM)).1
  ·intro v bA
   obtain⟨r,_,rfl⟩:=ZW.1 bA
   exact⟨λ_ _=>rfl,λ_=>trivial⟩
  ·intro i v aM
   have lk:=(Zc.1 aM).1
   simp at lk
   simp[lk]at aM
   subst aM
   exact(aaj i lk).2
end Go.Proofs.YtpfajohmofnkfaaGreatDoor

