/- A part of the last text's proof; no condition of its own -/
import Derived.Test.YtpfajohmofnkfaaGreatDoorYs
import Derived.LaidByTextLater
import Derived.LaidSub
import Derived.LaidOnce
import Derived.Test.YtpfajohmofnkfaaGreatDoorCards
import Derived.LaidMore
import Derived.OpenShut
import Derived.Stop.Joined
import Derived.SevenTiedAt
import Derived.Carry
import Derived.Deep.Slices
set_option maxHeartbeats 8000000
set_option linter.all false
namespace Go.Proofs.YtpfajohmofnkfaaGreatDoor
open Go.ChangeShapes Go.WideShapes Go.ChangeAt Go.RowKit
def Tryz.own:ownKnob Tryz.prog.godebug=none:=Zk
def Tryz.laid:laidOutB Tryz.prog=true:=Zk
def aut:(Tryz.prog.funcs.toList.all λfn=> !fn.body.isSome|| !(fn.name== "runtime.NumGoroutine"))=true:=Zk
def auj:Tryz.prog.follows .mixedOrders=true:=Zk
def km:Go.bk.x7 Tryz.prog:=by
 refine⟨auj,λf fn b9 ai=> ?_⟩
 have bs:fn∈Tryz.prog.funcs.toList:=Array.mem_toList_iff.2 (Y3 b9)
 have a:=List.all_eq_true.1 aut fn bs
 rw[ai]at a
 simpa using a
def ND:Go.bk.AC Tryz.prog nm:=by
 intro x ah ae be
 have ah:x=((Tryz.prog.typeName? 3 304).getD "",304):=by simpa[nm]using ah
 subst ah
 exact typeName_ptr_named (nm:= "errors.errorString") Zk Zk Zd ae (be.trans Zk)
def asK:Extern.findNext Tryz.f223=none:=Zk
def asJ:Extern.find Tryz.f223=some Extern.BytealgIndexByte.indexByte:=Zk
noncomputable def rX:Nat->List Go.bk.J->Option Go.bk.J:=Go.bk.qR (Go.bk.xF 240 (Go.bk.xG 223)) [(30,[], .bool true)]
def avm{α eP:Type}{p ao:α×eP}{K:α}(I:ao=p)(a:ao.1=K):p=(K,ao.2):=by
 subst I;cases ao;cases a;rfl
def at4:Go.bk.g3 Tryz.prog nm Rows.typesHoldRow.laid Tryz.prog.globals.size=(22,av.2):=avm (ao:=av) rfl GG
def atx:(Go.bk.g3 Tryz.prog nm Rows.typesHoldRow.laid Tryz.prog.globals.size).1=22:=by
 have a:=GG
 unfold av at a
 exact a
def aty:Go.bk.nl (Go.bk.g3 Tryz.prog nm Rows.typesHoldRow.laid Tryz.prog.globals.size).2 .nil=fy:=by
 unfold fy av
 rfl
def DH{f:Nat}{args:List Go.bk.J}{v:Go.bk.J}{Y:Nat->List Go.bk.J->Option Go.bk.J}{m:Nat}(a:Go.bk.uh ⟨Tryz.prog,fy,22,Y,Tryz.prog.globals.size⟩ m f args=some v):∃m,Go.bk.uh ⟨Tryz.prog,Go.bk.nl (Go.bk.g3 Tryz.prog nm Rows.typesHoldRow.laid Tryz.prog.globals.size).2 .nil,(Go.bk.g3 Tryz.prog nm Rows.typesHoldRow.laid Tryz.prog.globals.size).1,Y,Tryz.prog.globals.size⟩ m f args=some v:=by
 rw[atx,aty]
 exact⟨m,a⟩
def adU(f:Nat)(args:List Go.bk.J)(v:Go.bk.J)(a:rX f args=some v):Go.bk.qR gz [(30,[], .bool true)] f args=some v:=by
 unfold rX at a
 unfold Go.bk.qR at a ⊢
 cases aL:Go.bk.xy f args [(30,[],Go.bk.J.bool true)]with
 |some ae=>rw[aL]at a;exact a
 |none=>
  rw[aL]at a
  simp only at a ⊢
  unfold gz Go.bk.NO
  by_cases b9:f=75
  ·subst b9
   unfold Go.bk.xF Go.bk.xG at a
   simp[Go.bk.hO]at a
  ·have:Go.bk.om f [75]=false:=by
    simp[Go.bk.om]
    cases I:f.beq 75 with
    |false=>rfl
    |true=>exact absurd (Zj I) b9
   rw[this]
   exact a
def avi{w:World}(a:laidMet Tryz.prog Rows.typesHoldRow.laid w)(C:Go.bk.a2)(bB:C.P=Tryz.prog)(bl:C.hf=rX):Go.bk.OQ C w:=by
 obtain⟨aBP,ay5,amg⟩:=Go.bk.Env.ats ND km Tryz.func223 Zk Zk asK asJ a
 obtain⟨dW,ec,amf⟩:=Go.bk.Env.atr ND Tryz.func240 Zk rfl Tryz.stringslite_Clone a amg
 obtain⟨x0,mA,PU⟩:=Go.bk.Env.att ND (jC:=[75]) (l:=q8) a amf rfl (λx ah=>by
  unfold q8 at ah
  simp only[Zq,ZG,Yr]at ah
  rcases ah with rfl|rfl|rfl|rfl|rfl|rfl
  ·exact DH ayb
  ·exact DH ayc
  ·exact DH ayd
  ·exact DH aye
  ·exact DH ayf
  ·exact DH ayg)
 have bb:=Go.bk.adT (l:=[(30,[], .bool true)]) PU rfl (λx ah=>by
  rw[List.mem_singleton]at ah
  subst ah
  exact DH ax5)
 obtain⟨P,G,ba,hf,nL⟩:=C
 have ao0:P=Tryz.prog:=bB
 have FX:hf=rX:=bl
 subst ao0 FX
 exact⟨λf args v bD=>bb.val f args v (adU f args v bD),λf args v bD=>bb.ok f args v (adU f args v bD)⟩
open Go.bk
def akl:∀{s:List Nat},(∀c∈s,c<256)->yc s=true:=by
 intro s
 induction s with
 |nil=>intro _;rfl
 |cons K s am=>
  intro a
  have T:=a K (Zv ..)
  have bH:Nat.blt K 256=true:=by simp[Nat.blt];omega
  simp only[yc,bH,am (λc aB=>a c (Zu _ aB)),Yd]
def asI:∀c<256,(decide (0<=y4 [32,9,10,13] c 0)==JL c)=true:=by decide+kernel
def adS{X:co}(az:X.O=rX):iS X:=by
 refine⟨⟨λf l b9=> ?_⟩,λc aB=> ?_,λs aI aD=> ?_⟩
 ·rw[az]
  have T:¬f=30/\¬f=240/\¬f=223:=by
   refine⟨λI=> ?_,λI=> ?_,λI=> ?_⟩<;>(subst I;cases b9)
  unfold rX qR
  simp only[xy,hO,T.1,ZA]
  unfold xF xG
  simp only[hO,T.2.1,T.2.2,ZA]
 ·refine⟨y4 [32,9,10,13] c 0, ?_, ?_⟩
  ·rw[az]
   have bH:yc [32,9,10,13]=true:=rfl
   have cP:Nat.blt c 256=true:=by simp[Nat.blt];omega
   show rX 223 [.str [32,9,10,13], .int .u8 (.ofNat c)]=_
   unfold rX qR
   simp only[xy,hO]
   unfold xF xG
   simp[hO,bH,cP]
  ·have:=asI c aB
   rw[YZ]at this
   rw[<-this];simp
 ·rw[az]
  have bH:=akl aI
  have cP:Nat.ble s.length 281474976710656=true:=ln Zo
  unfold rX qR
  simp only[xy,hO]
  unfold xF
  simp[hO,bH,cP]
def ak6:∀{s:List Nat},(∀c∈s,c<256)->yi (s.map λc:Nat=>J.int .u8 (c:Int))=some s:=by
 intro s
 induction s with
 |nil=>intro _;rfl
 |cons K s am=>
  intro a
  have T:=a K (Zv ..)
  have W:=am (λc aB=>a c (Zu _ aB))
  show(match yi (s.map λc:Nat=>J.int .u8 (c:Int))with|some r=>some (K%256::r)|none=>none)=_
  rw[W,YF T]
def aw0(w:World)(n9:laidMet Tryz.prog Rows.typesHoldRow.laid w){v0:Value}{cp:List Nat}(ah:∀c∈cp,c<256)(ch:EA w v0 1 (cp.map λc:Nat=>J.int .u8 (c:Int))):
 Calls Tryz.prog 6 #[v0] w λI bZ=>I= .returned (.bool true)/\Below w.heap.size w bZ:=by
 obtain⟨S,af,a0,Z,h0,ha,aB,t0⟩:=atu ND (hf:=rX) n9 at4 ch
 generalize aD:(cp.map λc:Nat=>J.int .u8 (c:Int))=l at*
 have Bh:l.length=cp.length:=by rw[<-aD,Zi]
 let X:co:=⟨xE l fy 22,23,rX⟩
 have cJ:Env X w S af:=⟨km,avi n9 X rfl rfl,Z,h0⟩
 have bW:q9 X:=⟨rfl,λb ai=>by
  show(xE l fy 22).get b=_
  unfold xE
  split
  ·rw[V.kc,Zh Zo]
  ·rfl⟩
 have aM:(q X).ba<=23:=Zl _
 have Ji:(min (cp.length:Int) 3000)=((min cp.length 3000:Nat):Int):=Zo
 have va:∃bf,dI a0=some (.int .i64 (cp.length:Int))/\s1 X .nil 1 a0 none (some (.int .i64 (min (cp.length:Int) 3000))) none=some bf/\dI bf=some (.int .i64 ((cp.take 3000).length:Int))/\∀U aV,bh X .nil 23 U aV->AR X U bf=some (.str (cp.take 3000)):=by
  rw[Ji]
  rcases t0 with ⟨rfl,a⟩|⟨len,cap,rfl,T,W,au⟩
  ·have By:cp=[]:=Yc (by rw[<-Bh,a];rfl)
   subst By
   exact⟨.aU,rfl,rfl,rfl,λ_ _ _=>rfl⟩
  ·rw[Yh,Bh]at W
   subst W
   have bs:min cp.length 3000<=cp.length:=Nat.min_le_left _ _
   refine⟨.slice 22 0 (min cp.length 3000) cap,ph .., ?_, ?_,λU aV bX=> ?_⟩
   ·generalize min cp.length 3000=ao at bs
    have tE:Nat.ble ao cap=true:=ln Zo
    have key:mb cp.length cap none (some (.int .i64 (ao:Int))) none=some (0,ao,cap):=by
     simp only[mb,pg,qO,tE,fG,ZD]
    simp only[s1,key]
    simp[fG]
   ·rw[ph,YW,Nat.min_comm]
   ·show(
     match (match (J.slice 22 0 (min cp.length 3000) cap)with| .str s=>some (J.str s)|_=>none)with|some v=>some v|none=>EO X U (.slice 22 0 (min cp.length 3000) cap))=_
    simp only[EO]
    have apB:m3 X U 22 0 (min cp.length 3000)=some ((cp.take 3000).map λc:Nat=>J.int .u8 (c:Int)):=by
     by_cases cw:cp.length=0
     ·have By:cp=[]:=Yc cw
      subst By
      simp only[m3]
      cases aB:cellsOf X U 22 with
      |none=>simp
      |some c=>simp[π]
     ·have ai:ab X U 22=some (.cells (V.ofList l 0 .nil) l.length .j6):=by
       rw[bX.ad 22 Zd]
       exact au (by rw[Bh];omega)
      simp only[m3,cellsOf,ai]
      rw[ο (og l) _ _ (by rw[Bh];omega), <-aD,ZZ, <-List.map_take,Nat.min_comm]
      congr 2
      rw[List.take_eq_take_iff]
      simp
    rw[apB]
    simp only[ak6 (λc aB=>ah c (Y6 aB))]
 obtain⟨bf,bY,cx,c7,d5⟩:=va
 have apC:=atv (X:=X) (h:= .nil) (j:=23) (adS rfl) (anD bW) (anx bW) (anz bW) (anB bW) (anv bW) (show rX 30 []=some (.bool true) by unfold rX qR;rfl) aM bY (by rw[YW];omega) (λc aB=>ah c (Y6 aB)) cx c7 d5
 have fM:uo X 6 [a0] .nil 23 (λae _ _=>ae= .bool true) (λ_ _ _=>False):=by
  refine(Xa (show(q X).hf 6 [a0]=none from(adS (X:=X) rfl).none 6 [a0] rfl) apC).mono (λae _ _ a=> ?_) (λ_ _ _ a=>a)
  rw[a.1]
 have a:=ak9 cJ (v:= .bool true) rfl ha fM
 rw[aB]at a
 refine a.mono λI bZ ⟨⟨dg,bA⟩,ai⟩=>⟨?_,ai⟩
 rw[bA];rfl
end Go.Proofs.YtpfajohmofnkfaaGreatDoor

namespace Go.Proofs.YtpfajohmofnkfaaGreatDoor
open Go.ChangeShapes Go.WideShapes Go.ChangeAt Go.RowKit
def ald{bn:World}{cI off F:Nat}{cq:Array Value}{ty:TypeId}{fr:Nat×Nat}(ai:bn.heap[cI]? =some (.cells cq ty fr)):bn.cell? ((⟨cI,off,none⟩:Addr).add F)=cq[off+F]? :=by
 unfold Addr.add World.cell?
 by_cases a:F=0
 ·subst a;simp[ai]
 ·simp[a,ai]
set_option maxRecDepth 100000 in
def axl{bn:World}{base t I:Nat}{K:Addr}{len cap:Nat}(bb:Tryz.prog.underlying t=some (.slice I))(bD:Value.okWide Tryz.prog bn .any base t (.slice (some K) len cap)):K.spot=none/\∃cq ty fr,bn.heap[K.block]? =some (.cells cq ty fr):=by
 simp only[Value.okWide,bb,Cell.okWide,Cell.ok,World.has]at bD
 obtain⟨_,_,_,T,row,cells,W,_⟩:=bD
 refine⟨T, ?_⟩
 unfold World.shape? at W
 split at W
 ·rename_i c tq fr ai;exact⟨c,tq,fr,ai⟩
 ·cases W
open Go.bk Go.Deep in
def akx{w:World}{cI off len cap:Nat}{cq:Array Value}{ty:TypeId}{fr:Nat×Nat}(aD:len<=cap){l:List J}(Dq:l.length=len)(aA:Um l)
 (ai:w.heap[cI]? =some (.cells cq ty fr))(aB:∀(i:Nat) v,l[i]? =some v->cq[off+i]? =some (aS (λ_=>default) v)):EA w (.slice (some ⟨cI,off,none⟩) len cap) 1 l:=by
 refine .inr ⟨cI,off,len,cap,cq,ty,fr,rfl,aD,Zo,aA,λa=>⟨ai, ?_,aB⟩⟩
 have T:=aB (l.length-1) _ (Ze Zo)
 have W:off+(l.length-1)<cq.size:=by
  rcases Y9 (off+(l.length-1)) cq.size with a|a
  ·exact a
  ·rw[Array.getElem?_eq_none a]at T;cases T
 omega
open Go.bk Go.Deep in
set_option maxRecDepth 100000 in
def akw{pE:Type}{enc:TypeId×Value->pE}{bn:World}{base:Nat}{v:Value}{d:DataW pE}{du:List MemPlace}(bD:Value.okWide Tryz.prog bn .any base 22 v)(a:DataW.Trod enc Tryz.prog bn 0 (λ_=>true) true 22 v d du):
 ∃cp:List Nat,(∀c∈cp,c<256)/\EA bn v 1 (cp.map λc:Nat=>J.int .u8 (c:Int)):=by
 have bb:Tryz.prog.underlying 22=some (.slice 5):=Zk
 have aB:Tryz.prog.cellsOf 5=1:=Zk
 have be:Tryz.prog.underlying 5=some (.int .u8):=Zk
 obtain⟨K,len,cap,rfl⟩:=okWide_slice bb bD
 obtain⟨fuel,b9⟩:=a
 rcases open_slice1 bb aB b9 with ⟨h6,_⟩|⟨f3,aBa,Lj,m,n,aw,ay4,mB,h6,_,aD,_,bs,_,ah⟩
 ·simp[Value.cells]at h6
  obtain⟨rfl,rfl,rfl⟩:=h6
  exact⟨[],Zs, .inl ⟨rfl,rfl⟩⟩
 ·simp[Value.cells]at h6
  obtain⟨rfl,rfl,rfl⟩:=h6
  simp only[ZD]at bs
  subst bs
  obtain⟨Bs,cq,ty,fr,ai⟩:=axl bb bD
  obtain⟨cI,off,spot⟩:=f3
  simp only at Bs ai
  subst Bs
  obtain⟨f,abb⟩:=choose_lt (α:=Nat) (n:=len) (p:=λi x=>x<256/\cq[off+i]? =some (.int .u8 (x:Int))) (λi aN=>by
   obtain⟨T,W⟩:=ah i Zo
   obtain⟨F,g,_,bI⟩:=DataW.trod_int be W
   simp at g
   rw[ald ai,g]at T
   have Rr:IntKind.u8.min<=F/\F<=IntKind.u8.max:=by simpa[Lit.wf]using bI
   have Ji:IntKind.u8.min=0:=rfl
   have xl:IntKind.u8.max=255:=rfl
   have aL:0<=F/\F<256:=by rw[Ji,xl]at Rr;omega
   obtain⟨x,rfl⟩:=Yl aL.1
   exact⟨x,Zo,T⟩)
  refine⟨(List.range len).map f,λc aB=> ?_,akx (ty:=ty) (fr:=fr) (cq:=cq) aD Zs ?_ ai ?_⟩
  ·obtain⟨i,aN,rfl⟩:=ZJ.1 aB
   exact(abb i (List.mem_range.1 aN)).1
  ·intro v bD
   obtain⟨r,_,rfl⟩:=ZJ.1 bD
   exact⟨λ_ _=>rfl,λ_=>trivial⟩
  ·intro i v aN
   have ls:=(Zc.1 aN).1
   simp at ls
   simp[ls]at aN
   subst aN
   exact(abb i ls).2
end Go.Proofs.YtpfajohmofnkfaaGreatDoor

