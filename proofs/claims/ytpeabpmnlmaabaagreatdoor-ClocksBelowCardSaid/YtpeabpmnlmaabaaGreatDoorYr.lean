/- Part of the proof of the last text; no conditions -/
import Derived.Test.YtpeabpmnlmaabaaGreatDoorYq
import Derived.LaidByTextLater
import Derived.LaidSub
import Derived.LaidOnce
import Derived.Test.YtpeabpmnlmaabaaGreatDoorCards
import Derived.LaidMore
import Derived.OpenShut
import Derived.Stop.Joined
import Derived.SevenTiedAt
import Derived.Carry
import Derived.Deep.Slices
set_option maxHeartbeats 8000000
set_option linter.all false
namespace Go.Proofs.YtpeabpmnlmaabaaGreatDoor
open Go.ChangeShapes Go.WideShapes Go.ChangeAt Go.RowKit
def Tryz.own:ownKnob Tryz.prog.godebug=none:=Zk
def Tryz.laid:laidOutB Tryz.prog=true:=Zk
def azH:(Tryz.prog.funcs.toList.all λfn=> !fn.body.isSome|| !(fn.name== "runtime.NumGoroutine"))=true:=Zk
def azv:Tryz.prog.follows .mixedOrders=true:=Zk
def kN:Go.bd.yV Tryz.prog:=by
 refine⟨azv,λf fn b7 ag=> ?_⟩
 have bp:fn∈Tryz.prog.funcs.toList:=Array.mem_toList_iff.2 (Y8 b7)
 have a:=Yw.1 azH fn bp
 rw[ag]at a
 simpa using a
def QC:Go.bd.BG Tryz.prog nm:=by
 intro x ae ac bg
 have ae:x=((Tryz.prog.typeName? 3 206).getD "",206):=by simpa[nm]using ae
 subst ae
 exact typeName_ptr_named (nm:= "errors.errorString") Zk Zk Zd ac (bg.trans Zk)
def axO:Extern.findNext Tryz.f108=none:=Zk
def axN:Extern.find Tryz.f108=some Extern.BytealgIndexByte.indexByte:=Zk
noncomputable def tk:Nat->List Go.bd.D->Option Go.bd.D:=Go.bd.rO (Go.bd.yt 129 (Go.bd.yu 108)) [(7,[], .bool true)]
def aAG{α eZ:Type}{p aj:α×eZ}{H:α}(E:aj=p)(a:aj.1=H):p=(H,aj.2):=by
 subst E;cases aj;cases a;rfl
def azc:Go.bd.hm Tryz.prog nm Rows.clocksBelowRow.laid Tryz.prog.globals.size=(22,ao.2):=aAG (aj:=ao) rfl C6
def ayB:(Go.bd.hm Tryz.prog nm Rows.clocksBelowRow.laid Tryz.prog.globals.size).1=22:=by
 have a:=C6
 unfold ao at a
 exact a
def ayC:Go.bd.n2 (Go.bd.hm Tryz.prog nm Rows.clocksBelowRow.laid Tryz.prog.globals.size).2 .nil=fD:=by
 unfold fD ao
 rfl
def Qg{f:Nat}{args:List Go.bd.D}{v:Go.bd.D}{W:Nat->List Go.bd.D->Option Go.bd.D}{m:Nat}(a:Go.bd.Bb ⟨Tryz.prog,fD,22,W,Tryz.prog.globals.size⟩ m f args=some v):∃m,Go.bd.Bb ⟨Tryz.prog,Go.bd.n2 (Go.bd.hm Tryz.prog nm Rows.clocksBelowRow.laid Tryz.prog.globals.size).2 .nil,(Go.bd.hm Tryz.prog nm Rows.clocksBelowRow.laid Tryz.prog.globals.size).1,W,Tryz.prog.globals.size⟩ m f args=some v:=by
 rw[ayB,ayC]
 exact⟨m,a⟩
def aiH(f:Nat)(args:List Go.bd.D)(v:Go.bd.D)(a:tk f args=some v):Go.bd.rO g9 [(7,[], .bool true)] f args=some v:=by
 unfold tk at a
 unfold Go.bd.rO at a ⊢
 cases aJ:Go.bd.yk f args [(7,[],Go.bd.D.bool true)]with
 |some ac=>rw[aJ]at a;exact a
 |none=>
  rw[aJ]at a
  simp only at a ⊢
  unfold g9 Go.bd.QO
  by_cases b7:f=26
  ·subst b7
   unfold Go.bd.yt Go.bd.yu at a
   simp[Go.bd.h4]at a
  ·have:Go.bd.rN f [26]=false:=by
    simp[Go.bd.rN]
    cases E:f.beq 26 with
    |false=>rfl
    |true=>exact absurd (Zn E) b7
   rw[this]
   exact a
def aAz{w:World}(a:laidMet Tryz.prog Rows.clocksBelowRow.laid w)(C:Go.bd.aK)(bq:C.P=Tryz.prog)(bf:C.hB=tk):Go.bd.R4 C w:=by
 obtain⟨aHm,aEz,arz⟩:=Go.bd.Env.ayv QC kN Tryz.func108 Zk Zk axO axN a
 obtain⟨dY,ed,ary⟩:=Go.bd.Env.ayu QC Tryz.func129 Zk rfl Tryz.stringslite_Clone a arz
 obtain⟨yO,m7,Tm⟩:=Go.bd.Env.ayw QC (jF:=[26]) (l:=si) a ary rfl (λx ae=>by
  unfold si at ae
  simp only[Zt,ZJ,Ym]at ae
  rcases ae with rfl|rfl|rfl
  ·exact Qg aDy
  ·exact Qg aDz
  ·exact Qg aDA)
 have be:=Go.bd.aiG (l:=[(7,[], .bool true)]) Tm rfl (λx ae=>by
  rw[List.mem_singleton]at ae
  subst ae
  exact Qg aDs)
 obtain⟨P,G,a2,hB,jM⟩:=C
 have auj:P=Tryz.prog:=bq
 have Iq:hB=tk:=bf
 subst auj Iq
 exact⟨λf args v bB=>be.val f args v (aiH f args v bB),λf args v bB=>be.ok f args v (aiH f args v bB)⟩
open Go.bd
def apz:∀{s:List Nat},(∀c∈s,c<256)->y1 s=true:=by
 intro s
 induction s with
 |nil=>intro _;rfl
 |cons H s ai=>
  intro a
  have M:=a H (Zv ..)
  have bz:Nat.blt H 256=true:=by simp[Nat.blt];omega
  simp only[y1,bz,ai (λc ax=>a c (Zw _ ax)),Yn]
def axM:∀c<256,(decide (0<=AV [32,9,10,13] c 0)==Mb c)=true:=by decide+kernel
def aiF{X:cl}(au:X.O=tk):iY X:=by
 refine⟨⟨λf l b7=> ?_⟩,λc ax=> ?_,λs aD aC=> ?_⟩
 ·rw[au]
  have M:¬f=7/\¬f=129/\¬f=108:=by
   refine⟨λE=> ?_,λE=> ?_,λE=> ?_⟩<;>(subst E;cases b7)
  unfold tk rO
  simp only[yk,h4,M.1,ZD]
  unfold yt yu
  simp only[h4,M.2.1,M.2.2,ZD]
 ·refine⟨AV [32,9,10,13] c 0, ?_, ?_⟩
  ·rw[au]
   have bz:y1 [32,9,10,13]=true:=rfl
   have cF:Nat.blt c 256=true:=by simp[Nat.blt];omega
   show tk 108 [.str [32,9,10,13], .int .u8 (.ofNat c)]=_
   unfold tk rO
   simp only[yk,h4]
   unfold yt yu
   simp[h4,bz,cF]
  ·have:=axM c ax
   rw[Y2]at this
   rw[<-this];simp
 ·rw[au]
  have bz:=apz aD
  have cF:Nat.ble s.length 281474976710656=true:=lC Zo
  unfold tk rO
  simp only[yk,h4]
  unfold yt
  simp[h4,bz,cF]
def aql:∀{s:List Nat},(∀c∈s,c<256)->y8 (s.map λc:Nat=>D.int .u8 (c:Int))=some s:=by
 intro s
 induction s with
 |nil=>intro _;rfl
 |cons H s ai=>
  intro a
  have M:=a H (Zv ..)
  have R:=ai (λc ax=>a c (Zw _ ax))
  show(match y8 (s.map λc:Nat=>D.int .u8 (c:Int))with|some r=>some (H%256::r)|none=>none)=_
  rw[R,YF M]
def aCb(w:World)(sy:laidMet Tryz.prog Rows.clocksBelowRow.laid w){v0:Value}{cn:List Nat}(ae:∀c∈cn,c<256)(aX:GZ w v0 1 (cn.map λc:Nat=>D.int .u8 (c:Int))):
 Calls Tryz.prog 3 #[v0] w λE b1=>E= .returned (.bool true)/\Below w.heap.size w b1:=by
 obtain⟨T,ad,a0,Y,gv,f1,ax,t0⟩:=ayx QC (hB:=tk) sy azc aX
 generalize aC:(cn.map λc:Nat=>D.int .u8 (c:Int))=l at*
 have Ct:l.length=cn.length:=by rw[<-aC,Zi]
 let X:cl:=⟨ys l fD 22,23,tk⟩
 have cM:Env X w T ad:=⟨kN,aAz sy X rfl rfl,Y,gv⟩
 have bV:sj X:=⟨rfl,λb ag=>by
  show(ys l fD 22).get b=_
  unfold ys
  split
  ·rw[Q.kW,Zh Zo]
  ·rfl⟩
 have aE:(o X).a2<=23:=Zj _
 have LC:(min (cn.length:Int) 5000)=((min cn.length 5000:Nat):Int):=Zo
 have wr:∃bb,gz a0=some (.int .i64 (cn.length:Int))/\ur X .nil 1 a0 none (some (.int .i64 (min (cn.length:Int) 5000))) none=some bb/\gz bb=some (.int .i64 ((cn.take 5000).length:Int))/\∀S' aN,ba X .nil 23 S' aN->BX X S' bb=some (.str (cn.take 5000)):=by
  rw[LC]
  rcases t0 with ⟨rfl,a⟩|⟨len,cap,rfl,M,R,ak⟩
  ·have CM:cn=[]:=ZU (by rw[<-Ct,a];rfl)
   subst CM
   exact⟨.aV,rfl,rfl,rfl,λ_ _ _=>rfl⟩
  ·rw[Z1,Ct]at R
   subst R
   have bp:min cn.length 5000<=cn.length:=Nat.min_le_left _ _
   refine⟨.slice 22 0 (min cn.length 5000) cap,ub .., ?_, ?_,λS' aN bU=> ?_⟩
   ·generalize min cn.length 5000=aj at bp
    have uU:Nat.ble aj cap=true:=lC Zo
    have key:mH cn.length cap none (some (.int .i64 (aj:Int))) none=some (0,aj,cap):=by
     simp only[mH,p3,sT,uU,fN,ZE]
    simp only[ur,key]
    simp[fN]
   ·rw[ub,YZ,Nat.min_comm]
   ·show(
     match (match (D.slice 22 0 (min cn.length 5000) cap)with| .str s=>some (D.str s)|_=>none)with|some v=>some v|none=>Hg X S' (.slice 22 0 (min cn.length 5000) cap))=_
    simp only[Hg]
    have UG:nL X S' 22 0 (min cn.length 5000)=some ((cn.take 5000).map λc:Nat=>D.int .u8 (c:Int)):=by
     by_cases ch:cn.length=0
     ·have CM:cn=[]:=ZU ch
      subst CM
      simp only[nL]
      cases ax:cellsOf X S' 22 with
      |none=>simp
      |some c=>simp[ael]
     ·have ag:U X S' 22=some (.cells (Q.ofList l 0 .nil) l.length .kw):=by
       rw[bU.aa 22 Zd]
       exact ak (by rw[Ct];omega)
      simp only[nL,cellsOf,ag]
      rw[aek (l8 l) _ _ (by rw[Ct];omega), <-aC,Yb, <-List.map_take,Nat.min_comm]
      congr 2
      rw[List.take_eq_take_iff]
      simp
    rw[UG]
    simp only[aql (λc ax=>ae c (zc ax))]
 obtain⟨bb,bQ,ct,c1,dJ⟩:=wr
 have auK:=ayz (X:=X) (h:= .nil) (j:=23) (aiF rfl) (asY bV) (asT bV) (asU bV) (asW bV) (asQ bV) (show tk 7 []=some (.bool true) by unfold tk rO;rfl) aE bQ (by rw[YZ];omega) (λc ax=>ae c (zc ax)) ct c1 dJ
 have fs:vB X 3 [a0] .nil 23 (λac _ _=>ac= .bool true) (λ_ _ _=>False):=by
  refine(acT (show(o X).hB 3 [a0]=none from(aiF (X:=X) rfl).none 3 [a0] rfl) auK).mono (λac _ _ a=> ?_) (λ_ _ _ a=>a)
  rw[a.1]
 have a:=aqo cM (v:= .bool true) rfl f1 fs
 rw[ax]at a
 refine a.mono λE b1 ⟨⟨de,bC⟩,ag⟩=>⟨?_,ag⟩
 rw[bC];rfl
def aqs{bG:World}{cL off z:Nat}{cp:Array Value}{ty:TypeId}{fr:Nat×Nat}(ag:bG.heap[cL]? =some (.cells cp ty fr)):bG.cell? ((⟨cL,off,none⟩:Addr).add z)=cp[off+z]? :=by
 unfold Addr.add World.cell?
 by_cases a:z=0
 ·subst a;simp[ag]
 ·simp[a,ag]
set_option maxRecDepth 100000 in
def aCz{bG:World}{base t E:Nat}{H:Addr}{len cap:Nat}(be:Tryz.prog.underlying t=some (.slice E))(bB:Value.okWide Tryz.prog bG .any base t (.slice (some H) len cap)):H.spot=none/\∃cp ty fr,bG.heap[H.block]? =some (.cells cp ty fr):=by
 simp only[Value.okWide,be,Cell.okWide,Cell.ok,World.has]at bB
 obtain⟨_,_,_,M,row,cells,R,_⟩:=bB
 refine⟨M, ?_⟩
 unfold World.shape? at R
 split at R
 ·rename_i c uL fr ag;exact⟨c,uL,fr,ag⟩
 ·cases R
open Go.bd Go.Deep in
def apI{w:World}{cL off len cap:Nat}{cp:Array Value}{ty:TypeId}{fr:Nat×Nat}(aC:len<=cap){l:List D}(PQ:l.length=len)(aw:ζ l)
 (ag:w.heap[cL]? =some (.cells cp ty fr))(ax:∀(i:Nat) v,l[i]? =some v->cp[off+i]? =some (aQ (λ_=>default) v)):GZ w (.slice (some ⟨cL,off,none⟩) len cap) 1 l:=by
 refine .inr ⟨cL,off,len,cap,cp,ty,fr,rfl,aC,Zo,aw,λa=>⟨ag, ?_,ax⟩⟩
 have M:=ax (l.length-1) _ (Ze Zo)
 have R:off+(l.length-1)<cp.size:=by
  rcases zf (off+(l.length-1)) cp.size with a|a
  ·exact a
  ·rw[Array.getElem?_eq_none a]at M;cases M
 omega
open Go.bd Go.Deep in
set_option maxRecDepth 100000 in
def apH{ti:Type}{enc:TypeId×Value->ti}{bG:World}{base:Nat}{v:Value}{d:DataW ti}{dq:List MemPlace}(bB:Value.okWide Tryz.prog bG .any base 22 v)(a:DataW.Trod enc Tryz.prog bG 0 (λ_=>true) true 22 v d dq):
 ∃cn:List Nat,(∀c∈cn,c<256)/\GZ bG v 1 (cn.map λc:Nat=>D.int .u8 (c:Int)):=by
 have be:Tryz.prog.underlying 22=some (.slice 5):=Zk
 have ax:Tryz.prog.cellsOf 5=1:=Zk
 have bg:Tryz.prog.underlying 5=some (.int .u8):=Zk
 obtain⟨H,len,cap,rfl⟩:=okWide_slice be bB
 obtain⟨fuel,b7⟩:=a
 rcases open_slice1 be ax b7 with ⟨it,_⟩|⟨fL,aGz,NZ,m,n,aq,aEy,m8,it,_,aC,_,bp,_,ae⟩
 ·simp[Value.cells]at it
  obtain⟨rfl,rfl,rfl⟩:=it
  exact⟨[],Zs, .inl ⟨rfl,rfl⟩⟩
 ·simp[Value.cells]at it
  obtain⟨rfl,rfl,rfl⟩:=it
  simp only[ZE]at bp
  subst bp
  obtain⟨CF,cp,ty,fr,ag⟩:=aCz be bB
  obtain⟨cL,off,spot⟩:=fL
  simp only at CF ag
  subst CF
  obtain⟨f,afy⟩:=choose_lt (α:=Nat) (n:=len) (p:=λi x=>x<256/\cp[off+i]? =some (.int .u8 (x:Int))) (λi aG=>by
   obtain⟨M,R⟩:=ae i Zo
   obtain⟨z,g,_,bs⟩:=DataW.trod_int bg R
   simp at g
   rw[aqs ag,g]at M
   have U8:IntKind.u8.min<=z/\z<=IntKind.u8.max:=by simpa[Lit.wf]using bs
   have LC:IntKind.u8.min=0:=rfl
   have x9:IntKind.u8.max=255:=rfl
   have aJ:0<=z/\z<256:=by rw[LC,x9]at U8;omega
   obtain⟨x,rfl⟩:=Ye aJ.1
   exact⟨x,Zo,M⟩)
  refine⟨(List.range len).map f,λc ax=> ?_,apI (ty:=ty) (fr:=fr) (cp:=cp) aC Zs ?_ ag ?_⟩
  ·obtain⟨i,aG,rfl⟩:=ZI.1 ax
   exact(afy i (List.mem_range.1 aG)).1
  ·intro v bB
   obtain⟨r,_,rfl⟩:=ZI.1 bB
   exact⟨λ_ _=>rfl,λ_=>trivial⟩
  ·intro i v aG
   have l5:=(Zc.1 aG).1
   simp at l5
   simp[l5]at aG
   subst aG
   exact(afy i l5).2
end Go.Proofs.YtpeabpmnlmaabaaGreatDoor

