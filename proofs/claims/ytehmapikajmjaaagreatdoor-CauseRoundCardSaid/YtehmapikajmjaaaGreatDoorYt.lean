/- Part of the proof of the last text; no conditions -/
import Derived.Test.YtehmapikajmjaaaGreatDoorYs
import Derived.LaidByTextLater
import Derived.LaidSub
import Derived.LaidOnce
import Derived.Test.YtehmapikajmjaaaGreatDoorCards
import Derived.LaidMore
import Derived.OpenShut
import Derived.Stop.Joined
import Derived.SevenTiedAt
import Derived.Carry
import Derived.Deep.Slices
import Derived.Shelf.Lays
import Derived.Shelf.Sort.Plain
import Derived.Shelf.Slices.In.SortNone
set_option maxHeartbeats 8000000
set_option linter.all false
namespace Go.Proofs.YtehmapikajmjaaaGreatDoor
open Go.ChangeShapes Go.WideShapes Go.ChangeAt Go.RowKit
def Tryz.own:ownKnob Tryz.prog.godebug=none:=Zk
def Tryz.laid:laidOutB Tryz.prog=true:=Zk
def Ti:(Tryz.prog.funcs.toList.all λfn=> !fn.body.isSome|| !(fn.name== "runtime.NumGoroutine"))=true:=Zk
def S9:Tryz.prog.follows .mixedOrders=true:=Zk
def ge:Go.aF.nx Tryz.prog:=by refine⟨S9,λf fn a W=> ?_⟩;have b:fn∈Tryz.prog.funcs.toList:=Array.mem_toList_iff.2 (zl a);have h:=zr.1 Ti fn b;rw[W]at h;simpa using h
def xb:Go.aF.oD Tryz.prog nm:=by
 intro x a R b;have a:x=((Tryz.prog.typeName? 3 236).getD "",236):=by simpa[nm]using a
 subst a;exact typeName_ptr_named (nm:= "errors.errorString") Zk Zk Zd R (b.trans Zk)
def RN:Extern.findNext Tryz.f128=none:=Zk
def RM:Extern.find Tryz.f128=some Extern.BytealgIndexByte.indexByte:=Zk
noncomputable def kW:Nat->List Go.aF.z->Option Go.aF.z:=Go.aF.j8 (Go.aF.n3 150 (Go.aF.n4 128)) [(6,[],.bool true)]
def σ{α cr:Type}{p V:α×cr}{a:α}(e:V=p)(h:V.1=a):p=(a,V.2):=by subst e;cases V;cases h;rfl
def SK:Go.aF.ei Tryz.prog nm Rows.causeRoundRow.laid Tryz.prog.globals.size=(22,ac.2):=σ (V:=ac) rfl s2
def Sf:(Go.aF.ei Tryz.prog nm Rows.causeRoundRow.laid Tryz.prog.globals.size).1=22:=by have h:=s2;unfold ac at h;exact h
def Sg:Go.aF.hX (Go.aF.ei Tryz.prog nm Rows.causeRoundRow.laid Tryz.prog.globals.size).2 .nil=dj:=by unfold dj ac;rfl
def wR{f:Nat}{args:List Go.aF.z}{v:Go.aF.z}{I:Nat->List Go.aF.z->Option Go.aF.z}{m:Nat}(h:Go.aF.n9 ⟨Tryz.prog,dj,22,I,Tryz.prog.globals.size⟩ m f args=some v):∃m,Go.aF.n9 ⟨Tryz.prog,Go.aF.hX (Go.aF.ei Tryz.prog nm Rows.causeRoundRow.laid Tryz.prog.globals.size).2 .nil,(Go.aF.ei Tryz.prog nm Rows.causeRoundRow.laid Tryz.prog.globals.size).1,I,Tryz.prog.globals.size⟩ m f args=some v:=by rw[Sf,Sg];exact⟨m,h⟩
def HA(f:Nat)(args:List Go.aF.z)(v:Go.aF.z)(h:kW f args=some v):Go.aF.j8 dH [(6,[],.bool true)] f args=some v:=by
 unfold kW at h;unfold Go.aF.j8 at h ⊢;cases b:Go.aF.m6 f args [(6,[],Go.aF.z.bool true)]with
 |some R=>rw[b]at h;exact h|none=>
  rw[b]at h;simp only at h ⊢;unfold dH Go.aF.Bu;by_cases a:f=22
  ·subst a;unfold Go.aF.n3 Go.aF.n4 at h;simp[Go.aF.ee]at h
  ·have:Go.aF.gN f [22]=false:=by simp[Go.aF.gN];cases e:f.beq 22 with|false=>rfl|true=>exact absurd (Zn e) a
   rw[this];exact h
def ο{w:World}(j:Go.aF.tF Tryz.prog w)(h:laidMet Tryz.prog Rows.causeRoundRow.laid w)(C:Go.aF.al)(aV:C.P=Tryz.prog)(k:C.eC=kW):Go.aF.yq C w:=by
 obtain⟨s,p,g⟩:=Go.aF.Env.R9 xb ge j Tryz.func128 Zk Zk RN RM h;obtain⟨cv,cw,d⟩:=Go.aF.Env.R8 xb Tryz.func150 Zk rfl Tryz.stringslite_Clone h g;obtain⟨r,n,e⟩:=Go.aF.Env.Sa xb (f0:=[22]) (l:=kn) h d rfl (λx a=>by
  unfold kn at a;simp only[Zq,ZR,Yy]at a;rcases a with rfl|rfl|rfl
  ·exact wR acL
  ·exact wR acM
  ·exact wR acN)
 have c:=Go.aF.Hz (l:=[(6,[],.bool true)]) e rfl (λx a=>by
  rw[ZB]at a;subst a;exact wR acF)
 obtain⟨P,G,aB,eC,i2⟩:=C;have i:P=Tryz.prog:=aV;have m:eC=kW:=k;subst i m;exact⟨λf args v b=>c.val f args v (HA f args v b),λf args v b=>c.ok f args v (HA f args v b)⟩
open Go.aF
def NT:∀{s:List Nat},(∀c∈s,c<256)->nB s=true:=by
 intro s;induction s with
 |nil=>intro _;rfl|cons a s U=>
  intro h;have e:=h a (Zr ..);have b:Nat.blt a 256=true:=by simp[Nat.blt];omega
  simp only[nB,b,U (λc d=>h c (Zw _ d)),ZZ]
def RL:∀c<256,(decide (0<=nV [32,9,10,13] c 0)==uB c)=true:=by decide+kernel
def Hy{X:bi}(g:X.O=kW):e5 X:=by
 refine⟨⟨λf l i=> ?_⟩,λc h=> ?_,λs j k=> ?_⟩
 ·rw[g];have d:¬f=6/\¬f=150/\¬f=128:=by refine⟨λe=> ?_,λe=> ?_,λe=> ?_⟩<;>(subst e;cases i)
  unfold kW j8;simp only[m6,ee,d.1,ZJ];unfold n3 n4;simp only[ee,d.2.1,d.2.2,ZJ]
 ·refine⟨nV [32,9,10,13] c 0, ?_, ?_⟩
  ·rw[g];have a:nB [32,9,10,13]=true:=rfl;have b:Nat.blt c 256=true:=(by simp[Nat.blt];omega);show kW 128 [.str [32,9,10,13],.int .u8 (.ofNat c)]=_;unfold kW j8;simp only[m6,ee];unfold n3 n4;simp[ee,a,b]
  ·have:=RL c h;rw[zz]at this;rw[<-this];simp
 ·rw[g];have a:=NT j;have b:Nat.ble s.length 281474976710656=true:=de Zo;unfold kW j8;simp only[m6,ee];unfold n3;simp[ee,a,b]
def Ou:∀{s:List Nat},(∀c∈s,c<256)->nG (s.map λc:Nat=>z.int .u8 (c:Int))=some s:=by intro s;induction s with|nil=>intro _;rfl|cons a s U=>intro h;have b:=h a (Zr ..);have d:=U (λc e=>h c (Zw _ e));show(match nG (s.map λc:Nat=>z.int .u8 (c:Int))with|some r=>some (a%256::r)|none=>none)=_;rw[d,zc b]
def abv(w:World)(n:tF Tryz.prog w)(k:laidMet Tryz.prog Rows.causeRoundRow.laid w){v0:Value}{a:List Nat}(p:∀c∈a,c<256)(A:r5 w v0 1 (a.map λc:Nat=>z.int .u8 (c:Int))):
 Calls Tryz.prog 3 #[v0] w λe a2=>e=.returned (.bool true)/\Below w.heap.size w a2:=by
 obtain⟨F,Q,a0,K,eK,x,d,t0⟩:=Sb xb (eC:=kW) k SK A;generalize m:(a.map λc:Nat=>z.int .u8 (c:Int))=l at*;have g:l.length=a.length:=by rw[<-m,Zj]
 let X:bi:=⟨na l dj 22,23,kW⟩;have t:Env X w F Q:=⟨ge,ο n k X rfl rfl,K,eK,n⟩;have f:kp X:=⟨rfl,λb W=>by
  show(na l dj 22).get b=_;unfold na;split
  ·rw[E.e0,Zi Zo]
  ·rfl⟩
 have T2:(y X).aB<=23:=Zg _;have T1:(min (a.length:Int) 5000)=((min a.length 5000:Nat):Int):=Zo;have mg:∃aL,c0 a0=some (.int .i64 (a.length:Int))/\fw X .nil 1 a0 none (some (.int .i64 (min (a.length:Int) 5000))) none=some aL/\c0 aL=some (.int .i64 ((a.take 5000).length:Int))/\∀D r,aU X .nil 23 D r->oV X D aL=some (.str (a.take 5000)):=by
  rw[T1];rcases t0 with ⟨rfl,h⟩|⟨len,cap,rfl,T7,j,G⟩
  ·have i:a=[]:=ZS (by rw[<-g,h];rfl);subst i;exact⟨.ax,rfl,rfl,rfl,λ_ _ _=>rfl⟩
  ·rw[ZF,g]at j;subst j;have T0:min a.length 5000<=a.length:=Nat.min_le_left _ _;refine⟨.slice 22 0 (min a.length 5000) cap,kB .., ?_, ?_,λD r L=> ?_⟩
   ·generalize min a.length 5000=V at T0;have C:Nat.ble V cap=true:=de Zo;have key:fW a.length cap none (some (.int .i64 (V:Int))) none=some (0,V,cap):=(by simp only[fW,ho,hV,C,cY,ZL]);simp only[fw,key];simp[cY]
   ·rw[kB,YI,Nat.min_comm]
   ·show(
     match (match (z.slice 22 0 (min a.length 5000) cap)with| .str s=>some (z.str s)|_=>none)with|some v=>some v|none=>sk X D (.slice 22 0 (min a.length 5000) cap))=_
    simp only[sk];have N:gq X D 22 0 (min a.length 5000)=some ((a.take 5000).map λc:Nat=>z.int .u8 (c:Int)):=by
     by_cases T4:a.length=0
     ·have i:a=[]:=ZS T4;subst i;simp only[gq];cases d:cellsOf X D 22 with|none=>simp|some c=>simp[F7]
     ·have W:H X D 22=some (.cells (E.ofList l 0 .nil) l.length .fG):=by rw[L.M 22 Zd];exact G (by rw[g];omega)
      simp only[gq,cellsOf,W];rw[F6 (gv l) _ _ (by rw[g];omega), <-m,Yk, <-List.map_take,Nat.min_comm];congr 2;rw[List.take_eq_take_iff];simp
    rw[N];simp only[Ou (λc d=>p c (zo d))]
 obtain⟨aL,a7,bl,T5,T6⟩:=mg;have O:=Sd (X:=X) (q:=.nil) (u:=23) (Hy rfl) (QH f) (QC f) (QD f) (QF f) (Qz f) (show kW 6 []=some (.bool true) by unfold kW j8;rfl) T2 a7 (by rw[YI];omega) (λc d=>p c (zo d)) bl T5 T6;have T3:l0 X 3 [a0] .nil 23 (λR _ _=>R=.bool true) zX:=by refine(E8 (show(y X).eC 3 [a0]=none from(Hy (X:=X) rfl).none 3 [a0] rfl) O).mono (λR _ _ h=> ?_) (λ_ _ _ h=>h);rw[h.1]
 have h:=Ox t (v:=.bool true) rfl x T3;rw[d]at h;refine h.mono λe a2 ⟨⟨bY,P⟩,W⟩=>⟨?_,W⟩;rw[P];rfl
def OB{aZ:World}{bA off k:Nat}{bj:Array Value}{ty:TypeId}{fr:Nat×Nat}(W:aZ.heap[bA]? =some (.cells bj ty fr)):aZ.cell? ((⟨bA,off,none⟩:Addr).add k)=bj[off+k]? :=by
 unfold Addr.add World.cell?;by_cases h:k=0
 ·subst h;simp[W]
 ·simp[h,W]
set_option maxRecDepth 100000 in
def abT{aZ:World}{base t e:Nat}{a:Addr}{len cap:Nat}(h:Tryz.prog.underlying t=some (.slice e))(d:Value.okWide Tryz.prog aZ .any base t (.slice (some a) len cap)):a.spot=none/\∃bj ty fr,aZ.heap[a.block]? =some (.cells bj ty fr):=by
 simp only[Value.okWide,h,Cell.okWide,Cell.ok,World.has]at d;obtain⟨_,_,_,g,row,cells,b,_⟩:=d;refine⟨g, ?_⟩;unfold World.shape? at b;split at b
 ·rename_i c f fr W;exact⟨c,f,fr,W⟩
 ·cases b
open Go.aF Go.Deep in
def N8{w:World}{bA off len cap:Nat}{bj:Array Value}{ty:TypeId}{fr:Nat×Nat}(c:len<=cap){l:List z}(f:l.length=len)(d:Ck l)
 (W:w.heap[bA]? =some (.cells bj ty fr))(b:∀(i:Nat) v,l[i]? =some v->bj[off+i]? =some (aq (λ_=>default) v)):r5 w (.slice (some ⟨bA,off,none⟩) len cap) 1 l:=by
 refine .inr ⟨bA,off,len,cap,bj,ty,fr,rfl,c,Zo,d,λh=>⟨W, ?_,b⟩⟩;have a:=b (l.length-1) _ (Zb Zo);have e:off+(l.length-1)<bj.size:=by
  rcases zt (off+(l.length-1)) bj.size with h|h
  ·exact h
  ·rw[Array.getElem?_eq_none h]at a;cases a
 omega
open Go.aF Go.Deep in
set_option maxRecDepth 100000 in
def N7{t:Type}{enc:TypeId×Value->t}{aZ:World}{base:Nat}{v:Value}{d:DataW t}{b4:List MemPlace}(e:Value.okWide Tryz.prog aZ .any base 22 v)(h:DataW.Trod enc Tryz.prog aZ 0 (λ_=>true) true 22 v d b4):
 ∃L:List Nat,(∀c∈L,c<256)/\r5 aZ v 1 (L.map λc:Nat=>z.int .u8 (c:Int)):=by
 have s:Tryz.prog.underlying 22=some (.slice 5):=Zk;have j:Tryz.prog.cellsOf 5=1:=Zk;have T4:Tryz.prog.underlying 5=some (.int .u8):=Zk;obtain⟨a,len,cap,rfl⟩:=okWide_slice s e;obtain⟨fuel,P⟩:=h;rcases open_slice1 s j P with ⟨b,_⟩|⟨N,T9,T8,m,n,ad,T7,hv,b,_,T1,_,C,_,T6⟩
 ·simp[Value.cells]at b;obtain⟨rfl,rfl,rfl⟩:=b;exact⟨[],Zs,.inl ⟨rfl,rfl⟩⟩
 ·simp[Value.cells]at b;obtain⟨rfl,rfl,rfl⟩:=b;simp only[ZL]at C;subst C;obtain⟨G,bj,ty,fr,W⟩:=abT s e;obtain⟨bA,off,spot⟩:=N;simp only at G W;subst G;obtain⟨f,A⟩:=choose_lt (α:=Nat) (n:=len) (p:=λi x=>x<256/\bj[off+i]? =some (.int .u8 (x:Int))) (λi ag=>by
   obtain⟨w,O⟩:=T6 i Zo;obtain⟨k,g,_,T5⟩:=DataW.trod_int T4 O;simp at g;rw[OB W,g]at w;have T0:IntKind.u8.min<=k/\k<=IntKind.u8.max:=(by simpa[Lit.wf]using T5);have T3:IntKind.u8.min=0:=rfl;have T2:IntKind.u8.max=255:=rfl;have X:0<=k/\k<256:=(by rw[T3,T2]at T0;omega);obtain⟨x,rfl⟩:=Yl X.1;exact⟨x,Zo,w⟩)
  refine⟨(List.range len).map f,λc j=> ?_,N8 (ty:=ty) (fr:=fr) (bj:=bj) T1 Zs ?_ W ?_⟩
  ·obtain⟨i,ag,rfl⟩:=ZC.1 j;exact(A i (List.mem_range.1 ag)).1
  ·intro v e;obtain⟨r,_,rfl⟩:=ZC.1 e;exact⟨λ_ _=>rfl,λ_=>trivial⟩
  ·intro i v ag;have l:=(Ze.1 ag).1;simp at l;simp[l]at ag;subst ag;exact(A i l).2
end Go.Proofs.YtehmapikajmjaaaGreatDoor
namespace Go.Proofs
open Go.Shelf
def Tryz.Sk:Go.Shelf.Ren:=⟨fun|189=>27|125=>50|257=>49|128=>86|129=>87|294=>77|295=>78|296=>79|297=>80|298=>81|299=>82|216=>83|300=>84|301=>85|328=>109|329=>110|330=>111|331=>112|332=>113|215=>114|343=>139|n=>n,fun|28=>39|3=>3|46=>123|0=>0|51=>166|53=>97|4=>4|183=>159|182=>158|131=>87|5=>5|9=>9|218=>190|222=>194|228=>212|229=>213|n=>n,fun|n=>n⟩
def Tryz.Gz:Go.Proofs.Lays.n189 Tryz.prog Tryz.Sk:={
 mixed:=Zk
 f125:=Tryz.func50.trans (congrArg some Zk)
 f128:=Tryz.func86.trans (congrArg some Zk)
 f129:=Tryz.func87.trans (congrArg some Zk)
 f189:=Tryz.func27.trans (congrArg some Zk)
 f215:=Tryz.func114.trans (congrArg some Zk)
 f216:=Tryz.func83.trans (congrArg some Zk)
 f257:=Tryz.func49.trans (congrArg some Zk)
 f294:=Tryz.func77.trans (congrArg some Zk)
 f295:=Tryz.func78.trans (congrArg some Zk)
 f296:=Tryz.func79.trans (congrArg some Zk)
 f297:=Tryz.func80.trans (congrArg some Zk)
 f298:=Tryz.func81.trans (congrArg some Zk)
 f299:=Tryz.func82.trans (congrArg some Zk)
 f300:=Tryz.func84.trans (congrArg some Zk)
 f301:=Tryz.func85.trans (congrArg some Zk)
 f328:=Tryz.func109.trans (congrArg some Zk)
 f329:=Tryz.func110.trans (congrArg some Zk)
 f330:=Tryz.func111.trans (congrArg some Zk)
 f331:=Tryz.func112.trans (congrArg some Zk)
 f332:=Tryz.func113.trans (congrArg some Zk)
 f343:=Tryz.func139.trans (congrArg some Zk)
 t0:=Tryz.underlying0
 a0:=Tryz.isAgg0
 z0:=Tryz.sizeOf0
 v0:=Tryz.zeroValue0
 t3:=Tryz.underlying3
 a3:=Tryz.isAgg3
 z3:=Tryz.sizeOf3
 v3:=Tryz.zeroValue3
 t4:=Tryz.underlying4
 a4:=Tryz.isAgg4
 z4:=Tryz.sizeOf4
 v4:=Tryz.zeroValue4
 t5:=Tryz.underlying5
 a5:=Tryz.isAgg5
 z5:=Tryz.sizeOf5
 v5:=Tryz.zeroValue5
 t9:=Tryz.underlying9
 a9:=Tryz.isAgg9
 z9:=Tryz.sizeOf9
 v9:=Tryz.zeroValue9
 t28:=Tryz.underlying39
 a28:=Tryz.isAgg39
 z28:=Tryz.sizeOf39
 v28:=Tryz.zeroValue39
 t46:=Tryz.underlying123
 a46:=Tryz.isAgg123
 z46:=Tryz.sizeOf123
 v46:=Tryz.zeroValue123
 t51:=Tryz.underlying166
 a51:=Tryz.isAgg166
 z51:=Tryz.sizeOf166
 v51:=Tryz.zeroValue166
 t53:=Tryz.underlying97
 a53:=Tryz.isAgg97
 z53:=Tryz.sizeOf97
 v53:=Tryz.zeroValue97
 t131:=Tryz.underlying87
 a131:=Tryz.isAgg87
 z131:=Tryz.sizeOf87
 v131:=Tryz.zeroValue87
 t182:=Tryz.underlying158
 a182:=Tryz.isAgg158
 z182:=Tryz.sizeOf158
 v182:=Tryz.zeroValue158
 t183:=Tryz.underlying159
 a183:=Tryz.isAgg159
 z183:=Tryz.sizeOf159
 v183:=Tryz.zeroValue159
 t218:=Tryz.underlying190
 a218:=Tryz.isAgg190
 z218:=Tryz.sizeOf190
 v218:=Tryz.zeroValue190
 t222:=Tryz.underlying194
 a222:=Tryz.isAgg194
 z222:=Tryz.sizeOf194
 v222:=Tryz.zeroValue194
 t228:=Tryz.underlying212
 a228:=Tryz.isAgg212
 z228:=Tryz.sizeOf212
 v228:=Tryz.zeroValue212
 t229:=Tryz.underlying213
 a229:=Tryz.isAgg213
 z229:=Tryz.sizeOf213
 v229:=Tryz.zeroValue213}
end Go.Proofs
namespace Go.aF
def Rw(x:Int):∀(bw c:List Int),(∀b∈bw,b<x)->(∀b,c.head?=some b->x<=b)->k8 x (bw++c)=bw++x::c:=by
 intro bw;induction bw with
 |nil=>
  intro c _ h;cases c with
  |nil=>rfl|cons b c=>have:=h b rfl;rw[Yq,k8,cY,la,Zi Zx];rfl
 |cons a bw U=>intro c d e;have:=d a (Zr ..);rw[Yw,k8,cY,la,Zv Zx,U c (λb W=>d b (Zw _ W)) e];rfl
def abX:∀ao:List Int,(ao.mergeSort λx o=>decide (x<=o))=d0 ao:=by
 intro ao;induction ao with
 |nil=>simp[d0]|cons a l U=>
  have g:∀a b c:Int,decide (a<=b)=true->decide (b<=c)=true->decide (a<=c)=true:=by intro a b c d e;simp at d e ⊢;omega
  have h:∀a b:Int,(decide (a<=b)||decide (b<=a))=true:=by intro a b;simp;omega
  obtain⟨bw,i,d,e,j⟩:=List.mergeSort_cons g h a l;have f:=List.pairwise_mergeSort g h (a::l);rw[d]at f;rw[d,d0, <-U,e,Rw a bw i (λb W=>by have:=j b W;simp at this;omega)];intro b W;have k:b∈i:=List.mem_of_mem_head? W;have:=(Yc.1 (zp.1 f).2.1).1 b k;simpa using this
end Go.aF
namespace Go.Proofs.YtehmapikajmjaaaGreatDoor
open Go.aF
def ab3:(Tryz.prog.funcs.toList.zipIdx.all λp=> !(p.1.name== "slices.Sort[[]int,int]")||Nat.beq p.2 27)=true:=Zk
def FD{P:Program}{bm:Nat}{fn:Func}{c:Code}{args:Array Value}{w:World}(a:P.funcs[bm]? =some fn)(b:(fn.name== "runtime.NumGoroutine")=false)(W:fn.body=some c):(callFunc bm args).run P w=.ok (.enter bm args) w:=by
 have d:¬fn.name= "runtime.NumGoroutine":=by simpa using b
 simp[callFunc,a,d,W]
def S3(aS:World):tF Tryz.prog aS:=by
 intro f fn p N w W;have e:f=27:=by
  have L:(fn,f)∈Tryz.prog.funcs.toList.zipIdx:=by rw[List.mem_zipIdx_iff_getElem?,Z2];exact p
  have:=zr.1 ab3 _ L;simpa[N]using this
 subst e;have v:=Y6 (Tryz.func27.symm.trans p);subst v;refine⟨⟨FD Tryz.func27 Zk rfl,Calls.mono (show Calls Tryz.prog 27 _ w _ from Any.slices_Sort_int_none Tryz.Gz none 0 w) λe a2 ⟨d,m⟩=>⟨d,by subst m;exact⟨rfl,rfl,rfl,Zg _,λ_ _=>rfl⟩⟩⟩,λg off c bj t aT ag ao a A P X T1=> ?_⟩;have C:g<w.heap.size:=by
  rcases zt g w.heap.size with V|V
  ·exact V
  ·rw[Array.getElem?_eq_none V]at a;cases a
 have r:Go.Sort.Holds (Value.int .i64) w g off ao.toArray:=by
  intro j b;have b:j<ao.length:=by simpa using b
  refine⟨?_, ?_⟩
  ·have:=X j _ (Zb b);simp only[World.cell?,a];rw[this];simp[b]
  ·simp only[World.frozen?,a];rcases A with h|h
   ·simp;omega
   ·simp;omega
 refine⟨FD Tryz.func27 Zk rfl,Calls.mono (show Calls Tryz.prog 27 _ w _ from Any.slices_Sort_int Tryz.Gz g off c ao w r C Zo) λe a2 ⟨d,n,os,m⟩=>⟨d, ?_⟩⟩;subst m;rw[abX];have O:(d0 ao).length=ao.length:=rz ao;have s:Go.Sort.putCells (Value.int .i64) off (d0 ao).toArray bj=fP bj off ((d0 ao).map λaj=> .int .i64 aj):=by
  apply Array.ext_getElem?;intro i;rw[xG _ _ _ _ (by rw[Zj,O];exact P),Zj];unfold Go.Sort.putCells;rw[Array.getElem?_mapIdx];by_cases ag:off<=i/\i<off+(d0 ao).length
  ·rw[Zv ag,Y3 Zo];simp only[ZX,Yi];rw[Zv ag,Zt,Zb Zo];simp[show i-off<(d0 ao).length by omega]
  ·rw[Zi ag];cases T0:bj[i]? with|none=>rfl|some x=>simp only[ZX,Yi];rw[Zi ag]
 have G:∀k:Nat,(Go.Sort.putRow (Value.int .i64) (Go.Sort.ahead w n) g off (d0 ao).toArray).heap[k]? =(w.setRow g (fP bj off ((d0 ao).map λaj=> .int .i64 aj))).heap[k]? :=by
  intro k;unfold Go.Sort.putRow Go.Sort.mapBlock World.setRow Go.Sort.ahead;simp only[Array.getElem?_modify];by_cases l:g=k
  ·subst l;simp only[ZL,a,ZX,Go.Sort.onCells,s]
  ·simp[l]
 have T2:(Go.Sort.putRow (Value.int .i64) (Go.Sort.ahead w n) g off (d0 ao).toArray).heap.size=(w.setRow g (fP bj off ((d0 ao).map λaj=> .int .i64 aj))).heap.size:=by unfold Go.Sort.putRow Go.Sort.mapBlock World.setRow Go.Sort.ahead;simp
 refine⟨rfl,rfl,rfl, ?_,λk l=> ?_⟩
 ·unfold Go.Sort.grow;simp only[YQ];omega
 ·unfold Go.Sort.grow;show((Go.Sort.putRow (Value.int .i64) (Go.Sort.ahead w n) g off (d0 ao).toArray).heap++os)[k]? =_;rw[Yu Zo];exact G k
end Go.Proofs.YtehmapikajmjaaaGreatDoor
