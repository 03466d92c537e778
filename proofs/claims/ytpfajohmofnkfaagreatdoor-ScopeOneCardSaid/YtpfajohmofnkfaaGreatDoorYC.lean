/- A part of the proof of the claim's last text: what it is used for is said there; no condition of its own. -/
import Derived.Test.YtpfajohmofnkfaaGreatDoorYB
import Derived.Test.YtpfajohmofnkfaaGreatDoorTie
import Derived.Test.YtpfajohmofnkfaaGreatDoorCards
import Derived.LaidMore
import Derived.OpenShut
import Derived.Stop.Joined
import Derived.SevenTiedAt
import Derived.Carry
import Derived.Deep.Slices
set_option maxHeartbeats 8000000
set_option linter.unusedVariables false
set_option linter.unusedSimpArgs false
namespace Go.Proofs.YtpfajohmofnkfaaGreatDoor
open Go.ChangeShapes Go.WideShapes Go.ChangeAt Go.RowKit
theorem Tryz.own:ownKnob Tryz.prog.godebug=none:=by kernel_rfl
theorem Tryz.laid:laidOutB Tryz.prog=true:=by kernel_rfl
theorem apF:(Tryz.prog.funcs.toList.all λfn=> !fn.body.isSome|| !(fn.name== "runtime.NumGoroutine"))=true:=by kernel_rfl
theorem apv:Tryz.prog.follows .mixedOrders=true:=by kernel_rfl
theorem j9:Go.al.wI Tryz.prog:=by
 refine⟨apv,λf fn b5 ai=> ?_⟩
 have bi:fn∈Tryz.prog.funcs.toList:=Array.mem_toList_iff.2 (za b5)
 have a:=List.all_eq_true.1 apF fn bi
 rw[ai]at a
 simpa using a
theorem QY:Go.al.A5 Tryz.prog nm:=by
 intro x ag ad aZ
 have ag:x=((Tryz.prog.typeName? 3 304).getD "",304):=by simpa[nm]using ag
 subst ag
 exact typeName_ptr_named (nm:= "errors.errorString") (by kernel_rfl) (by kernel_rfl) Zd ad (aZ.trans (by kernel_rfl))
theorem an6:Extern.findNext Tryz.f223=none:=by kernel_rfl
theorem an5:Extern.find Tryz.f223=some Extern.BytealgIndexByte.indexByte:=by kernel_rfl
noncomputable def tj:Nat->List Go.al.H->Option Go.al.H:=Go.al.wk (Go.al.wi 240 (Go.al.wj 223)) [(16,[], .bool true)]
theorem aqr{α er:Type}{p ar:α×er}{I:α}(E:ar=p)(a:ar.1=I):p=(I,ar.2):=by
 subst E;cases ar;cases a;rfl
theorem apd:Go.al.hy Tryz.prog nm Rows.scopeOneRow.laid Tryz.prog.globals.size=(22,ap.2):=aqr (ar:=ap) rfl EQ
theorem aoG:(Go.al.hy Tryz.prog nm Rows.scopeOneRow.laid Tryz.prog.globals.size).1=22:=by
 have a:=EQ
 unfold ap at a
 exact a
theorem aoH:Go.al.oo (Go.al.hy Tryz.prog nm Rows.scopeOneRow.laid Tryz.prog.globals.size).2 .nil=fi:=by
 unfold fi ap
 rfl
theorem aql{w:World}(a:laidMet Tryz.prog Rows.scopeOneRow.laid w)(C:Go.al.aX)(co:C.P=Tryz.prog)(bc:C.hf=tj):Go.al.M2 C w:=by
 obtain⟨awu,atW,aix⟩:=Go.al.Env.aoA QY j9 Tryz.func223 (by kernel_rfl) (by kernel_rfl) an6 an5 a
 obtain⟨dB,dU,aiv⟩:=Go.al.Env.aoz QY Tryz.func240 (by kernel_rfl) rfl Tryz.stringslite_Clone a aix
 have aT:=Go.al.aqk (l:=[(16,[], .bool true)]) aiv rfl (λx ag=>by
  rw[List.mem_singleton]at ag
  subst ag
  have key:Go.al.Mj ⟨Tryz.prog,Go.al.oo (Go.al.hy Tryz.prog nm Rows.scopeOneRow.laid Tryz.prog.globals.size).2 .nil,(Go.al.hy Tryz.prog nm Rows.scopeOneRow.laid Tryz.prog.globals.size).1,Go.al.wi 240 (Go.al.wj 223),Tryz.prog.globals.size⟩ 1000000 16 []=some (.bool true):=by
   rw[aoG,aoH]
   have a:=as0
   unfold UV at a
   exact a
  exact⟨_,key⟩)
 obtain⟨P,G,bj,hf,oh⟩:=C
 have ak1:P=Tryz.prog:=co
 have Ec:hf=tj:=bc
 subst ak1 Ec
 exact⟨aT.val,aT.ok⟩
open Go.al
theorem agD:∀{s:List Nat},(∀c∈s,c<256)->wM s=true:=by
 intro s
 induction s with
 |nil=>intro _;rfl
 |cons I s ah=>
  intro a
  have M:=a I (Zq ..)
  have bF:Nat.blt I 256=true:=by simp[Nat.blt];omega
  simp only[wM,bF,ah (λc ay=>a c (Zn _ ay)),Z7]
theorem an4:∀c<256,(decide (0<=xJ [32,9,10,13] c 0)==HU c)=true:=by decide+kernel
theorem abg{X:cD}(aA:X.O=tj):iD X:=by
 refine⟨⟨λf l b5=> ?_⟩,λc ay=> ?_,λs aH aE=> ?_⟩
 ·rw[aA]
  have M:¬f=16/\¬f=240/\¬f=223:=by
   refine⟨λE=> ?_,λE=> ?_,λE=> ?_⟩<;>(subst E;cases b5)
  unfold tj wk
  simp only[xN,gX,M.1,Zx]
  unfold wi wj
  simp only[gX,M.2.1,M.2.2,Zx]
 ·refine⟨xJ [32,9,10,13] c 0, ?_, ?_⟩
  ·rw[aA]
   have bF:wM [32,9,10,13]=true:=rfl
   have cB:Nat.blt c 256=true:=by simp[Nat.blt];omega
   show tj 223 [.str [32,9,10,13], .int .u8 (.ofNat c)]=_
   unfold tj wk
   simp only[xN,gX]
   unfold wi wj
   simp[gX,bF,cB]
  ·have:=an4 c ay
   rw[YZ]at this
   rw[<-this];simp
 ·rw[aA]
  have bF:=agD aH
  have cB:Nat.ble s.length 281474976710656=true:=ml Zo
  unfold tj wk
  simp only[xN,gX]
  unfold wi
  simp[gX,bF,cB]
theorem ahr:∀{s:List Nat},(∀c∈s,c<256)->wS (s.map λc:Nat=>H.int .u8 (c:Int))=some s:=by
 intro s
 induction s with
 |nil=>intro _;rfl
 |cons I s ah=>
  intro a
  have M:=a I (Zq ..)
  have R:=ah (λc ay=>a c (Zn _ ay))
  show(match wS (s.map λc:Nat=>H.int .u8 (c:Int))with|some r=>some (I%256::r)|none=>none)=_
  rw[R,YD M]
theorem arU(w:World)(nn:laidMet Tryz.prog Rows.scopeOneRow.laid w){v0:Value}{ch:List Nat}(ag:∀c∈ch,c<256)(ci:C8 w v0 1 (ch.map λc:Nat=>H.int .u8 (c:Int))):
 Calls Tryz.prog 3 #[v0] w λE bz=>E= .returned (.bool true)/\Below w.heap.size w bz:=by
 obtain⟨K,Z,a0,S,hu,jb,ay,t0⟩:=aoB QY (hf:=tj) nn apd ci
 generalize aE:(ch.map λc:Nat=>H.int .u8 (c:Int))=l at*
 have y3:l.length=ch.length:=by rw[<-aE,Zu]
 let X:cD:=⟨wh l fi 22,23,tj⟩
 have cF:Env X w K Z:=⟨j9,aql nn X rfl rfl,S,hu⟩
 have bO:q5 X:=⟨rfl,λb ai=>by
  show(wh l fi 22).get b=_
  unfold wh
  split
  ·rw[U.kf,Zg Zo]
  ·rfl⟩
 have aS:(y X).bj<=23:=Zj _
 have vZ:(min (ch.length:Int) 5000)=((min ch.length 5000:Nat):Int):=Zo
 have t6:∃be,eF a0=some (.int .i64 (ch.length:Int))/\x7 X .nil 1 a0 none (some (.int .i64 (min (ch.length:Int) 5000))) none=some be/\eF be=some (.int .i64 ((ch.take 5000).length:Int))/\∀V aY,bB X .nil 23 V aY->yB X V be=some (.str (ch.take 5000)):=by
  rw[vZ]
  rcases t0 with ⟨rfl,a⟩|⟨len,cap,rfl,M,R,au⟩
  ·have Ag:ch=[]:=Ys (by rw[<-y3,a];rfl)
   subst Ag
   exact⟨.aU,rfl,rfl,rfl,λ_ _ _=>rfl⟩
  ·rw[Yd,y3]at R
   subst R
   have bi:min ch.length 5000<=ch.length:=Nat.min_le_left _ _
   refine⟨.slice 22 0 (min ch.length 5000) cap,o3 .., ?_, ?_,λV aY b7=> ?_⟩
   ·generalize min ch.length 5000=ar at bi
    have sF:Nat.ble ar cap=true:=ml Zo
    have key:nd ch.length cap none (some (.int .i64 (ar:Int))) none=some (0,ar,cap):=by
     simp only[nd,pZ,p2,sF,fB,ZB]
    simp only[x7,key]
    simp[fB]
   ·rw[o3,List.length_take,Nat.min_comm]
   ·show(
     match (match (H.slice 22 0 (min ch.length 5000) cap)with| .str s=>some (H.str s)|_=>none)with|some v=>some v|none=>Dk X V (.slice 22 0 (min ch.length 5000) cap))=_
    simp only[Dk]
    have alo:k9 X V 22 0 (min ch.length 5000)=some ((ch.take 5000).map λc:Nat=>H.int .u8 (c:Int)):=by
     by_cases cj:ch.length=0
     ·have Ag:ch=[]:=Ys cj
      subst Ag
      simp only[k9]
      cases ay:cellsOf X V 22 with
      |none=>simp
      |some c=>simp[V0]
     ·have ai:ab X V 22=some (.cells (U.ofList l 0 .nil) l.length .jJ):=by
       rw[b7.af 22 Zd]
       exact au (by rw[y3];omega)
      simp only[k9,cellsOf,ai]
      rw[VZ (o1 l) _ _ (by rw[y3];omega), <-aE,Z2, <-List.map_take,Nat.min_comm]
      congr 2
      rw[List.take_eq_take_iff]
      simp
    rw[alo]
    simp only[ahr (λc ay=>ag c (YL ay))]
 obtain⟨be,bN,cg,cH,eK⟩:=t6
 have alp:=aoE (X:=X) (h:= .nil) (k:=23) (abg rfl) (ajP bO) (ajK bO) (ajL bO) (ajN bO) (show tj 16 []=some (.bool true) by unfold tj wk;rfl) aS bN (by rw[List.length_take];omega) (λc ay=>ag c (YL ay)) cg cH eK
 have dg:th X 3 [a0] .nil 23 (λad _ _=>ad= .bool true) (λ_ _ _=>False):=by
  refine(US (show(y X).hf 3 [a0]=none from(abg (X:=X) rfl).none 3 [a0] rfl) alp).mono (λad _ _ a=> ?_) (λ_ _ _ a=>a)
  rw[a.1,aoD]
 have a:=ahu cF (v:= .bool true) rfl jb dg
 rw[ay]at a
 refine a.mono λE bz ⟨⟨c1,aW⟩,ai⟩=>⟨?_,ai⟩
 rw[aW];rfl
end Go.Proofs.YtpfajohmofnkfaaGreatDoor

namespace Go.Proofs.YtpfajohmofnkfaaGreatDoor
open Go.ChangeShapes Go.WideShapes Go.ChangeAt Go.RowKit
theorem ahw{bD:World}{cq off B:Nat}{bU:Array Value}{ty:TypeId}{fr:Nat×Nat}(ai:bD.heap[cq]? =some (.cells bU ty fr)):bD.cell? ((⟨cq,off,none⟩:Addr).add B)=bU[off+B]? :=by
 unfold Addr.add World.cell?
 by_cases a:B=0
 ·subst a;simp[ai]
 ·simp[a,ai]
set_option maxRecDepth 100000 in
theorem ash{bD:World}{base t E:Nat}{I:Addr}{len cap:Nat}(aT:Tryz.prog.underlying t=some (.slice E))(bu:Value.okWide Tryz.prog bD .any base t (.slice (some I) len cap)):I.spot=none/\∃bU ty fr,bD.heap[I.block]? =some (.cells bU ty fr):=by
 simp only[Value.okWide,aT,Cell.okWide,Cell.ok,World.has]at bu
 obtain⟨_,_,_,M,row,cells,R,_⟩:=bu
 refine⟨M, ?_⟩
 unfold World.shape? at R
 split at R
 ·rename_i c ss fr ai;exact⟨c,ss,fr,ai⟩
 ·cases R
open Go.al Go.Deep in
theorem agQ{w:World}{cq off len cap:Nat}{bU:Array Value}{ty:TypeId}{fr:Nat×Nat}(aE:len<=cap){l:List H}(Ld:l.length=len)(ax:Sr l)
 (ai:w.heap[cq]? =some (.cells bU ty fr))(ay:∀(i:Nat) v,l[i]? =some v->bU[off+i]? =some (aD (λ_=>default) v)):C8 w (.slice (some ⟨cq,off,none⟩) len cap) 1 l:=by
 refine .inr ⟨cq,off,len,cap,bU,ty,fr,rfl,aE,Zo,ax,λa=>⟨ai, ?_,ay⟩⟩
 have M:=ay (l.length-1) _ (Zf Zo)
 have R:off+(l.length-1)<bU.size:=by
  rcases zh (off+(l.length-1)) bU.size with a|a
  ·exact a
  ·rw[Array.getElem?_eq_none a]at M;cases M
 omega
open Go.al Go.Deep in
set_option maxRecDepth 100000 in
theorem agP{oC:Type}{enc:TypeId×Value->oC}{bD:World}{base:Nat}{v:Value}{d:DataW oC}{c8:List MemPlace}(bu:Value.okWide Tryz.prog bD .any base 22 v)(a:DataW.Trod enc Tryz.prog bD 0 (λ_=>true) true 22 v d c8):
 ∃ch:List Nat,(∀c∈ch,c<256)/\C8 bD v 1 (ch.map λc:Nat=>H.int .u8 (c:Int)):=by
 have aT:Tryz.prog.underlying 22=some (.slice 5):=by kernel_rfl
 have ay:Tryz.prog.cellsOf 5=1:=by kernel_rfl
 have aZ:Tryz.prog.underlying 5=some (.int .u8):=by kernel_rfl
 obtain⟨I,len,cap,rfl⟩:=okWide_slice aT bu
 obtain⟨fuel,b5⟩:=a
 rcases open_slice1 aT ay b5 with ⟨hM,_⟩|⟨f2,avO,JA,m,n,ak,atV,lN,hM,_,aE,_,bi,_,ag⟩
 ·simp[Value.cells]at hM
  obtain⟨rfl,rfl,rfl⟩:=hM
  exact⟨[],Zs, .inl ⟨rfl,rfl⟩⟩
 ·simp[Value.cells]at hM
  obtain⟨rfl,rfl,rfl⟩:=hM
  simp only[ZB]at bi
  subst bi
  obtain⟨Ad,bU,ty,fr,ai⟩:=ash aT bu
  obtain⟨cq,off,spot⟩:=f2
  simp only at Ad ai
  subst Ad
  obtain⟨f,KJ⟩:=choose_lt (α:=Nat) (n:=len) (p:=λi x=>x<256/\bU[off+i]? =some (.int .u8 (x:Int))) (λi aN=>by
   obtain⟨M,R⟩:=ag i Zo
   obtain⟨B,g,_,bL⟩:=DataW.trod_int aZ R
   simp at g
   rw[ahw ai,g]at M
   have vU:IntKind.u8.min<=B/\B<=IntKind.u8.max:=by simpa[Lit.wf]using bL
   have vZ:IntKind.u8.min=0:=rfl
   have vY:IntKind.u8.max=255:=rfl
   have aP:0<=B/\B<256:=by rw[vZ,vY]at vU;omega
   obtain⟨x,rfl⟩:=Yk aP.1
   exact⟨x,Zo,M⟩)
  refine⟨(List.range len).map f,λc ay=> ?_,agQ (ty:=ty) (fr:=fr) (bU:=bU) aE Zs ?_ ai ?_⟩
  ·obtain⟨i,aN,rfl⟩:=ZD.1 ay
   exact(KJ i (List.mem_range.1 aN)).1
  ·intro v bu
   obtain⟨r,_,rfl⟩:=ZD.1 bu
   exact⟨λ_ _=>rfl,λ_=>trivial⟩
  ·intro i v aN
   have ll:=(Zc.1 aN).1
   simp at ll
   simp[ll]at aN
   subst aN
   exact(KJ i ll).2
end Go.Proofs.YtpfajohmofnkfaaGreatDoor

