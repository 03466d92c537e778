/- Part of the last text; no conditions -/
import Derived.Test.YtehmapikajmjaaaGreatDoorYt
import Derived.LaidByTextLater
import Derived.LaidSub
import Derived.LaidOnce
import Derived.Test.YtehmapikajmjaaaGreatDoorCards
import Derived.LaidMore
import Derived.OpenShut
import Derived.Stop.Joined
import Derived.SevenTiedAt
import Derived.Carry
import Derived.Deep.Slices
import Derived.Shelf.Lays
import Derived.Shelf.Sort.Plain
import Derived.Shelf.Slices.In.SortNone
set_option maxHeartbeats 8000000
set_option linter.all false
namespace Go.Proofs.YtehmapikajmjaaaGreatDoor
open Go.ChangeShapes Go.WideShapes Go.ChangeAt Go.RowKit
def Tryz.own:ownKnob Tryz.prog.godebug=none:=Zk
def Tryz.laid:laidOutB Tryz.prog=true:=Zk
def Tg:(Tryz.prog.funcs.toList.all λfn=> !fn.body.isSome|| !(fn.name== "runtime.NumGoroutine"))=true:=Zk
def S7:Tryz.prog.follows .mixedOrders=true:=Zk
def f8:Go.aC.nD Tryz.prog:=by refine⟨S7,λf fn a T=> ?_⟩;have b:fn∈Tryz.prog.funcs.toList:=Array.mem_toList_iff.2 (zl a);have e:=zt.1 Tg fn b;rw[T]at e;simpa using e
def w0:Go.aC.oJ Tryz.prog nm:=by
 intro x a M b;have a:x=((Tryz.prog.typeName? 3 236).getD "",236):=by simpa[nm]using a
 subst a;exact typeName_ptr_named (nm:= "errors.errorString") Zk Zk Zd M (b.trans Zk)
def RM:Extern.findNext Tryz.f128=none:=Zk
def RL:Extern.find Tryz.f128=some Extern.BytealgIndexByte.indexByte:=Zk
noncomputable def kW:Nat->List Go.aC.y->Option Go.aC.y:=Go.aC.j3 (Go.aC.ob 150 (Go.aC.oc 128)) [(6,[],.bool true)]
def ο{α cz:Type}{p V:α×cz}{a:α}(u:V=p)(e:V.1=a):p=(a,V.2):=by subst u;cases V;cases e;rfl
def SJ:Go.aC.eg Tryz.prog nm Rows.causeOrderRow.laid Tryz.prog.globals.size=(22,ac.2):=ο (V:=ac) rfl sX
def Sd:(Go.aC.eg Tryz.prog nm Rows.causeOrderRow.laid Tryz.prog.globals.size).1=22:=by have e:=sX;unfold ac at e;exact e
def Se:Go.aC.hX (Go.aC.eg Tryz.prog nm Rows.causeOrderRow.laid Tryz.prog.globals.size).2 .nil=dg:=by unfold dg ac;rfl
def wF{f:Nat}{args:List Go.aC.y}{v:Go.aC.y}{J:Nat->List Go.aC.y->Option Go.aC.y}{m:Nat}(e:Go.aC.oj ⟨Tryz.prog,dg,22,J,Tryz.prog.globals.size⟩ m f args=some v):∃m,Go.aC.oj ⟨Tryz.prog,Go.aC.hX (Go.aC.eg Tryz.prog nm Rows.causeOrderRow.laid Tryz.prog.globals.size).2 .nil,(Go.aC.eg Tryz.prog nm Rows.causeOrderRow.laid Tryz.prog.globals.size).1,J,Tryz.prog.globals.size⟩ m f args=some v:=by rw[Sd,Se];exact⟨m,e⟩
def Hu(f:Nat)(args:List Go.aC.y)(v:Go.aC.y)(e:kW f args=some v):Go.aC.j3 dI [(6,[],.bool true)] f args=some v:=by
 unfold kW at e;unfold Go.aC.j3 at e ⊢;cases b:Go.aC.m7 f args [(6,[],Go.aC.y.bool true)]with
 |some M=>rw[b]at e;exact e|none=>
  rw[b]at e;simp only at e ⊢;unfold dI Go.aC.Bd;by_cases a:f=22
  ·subst a;unfold Go.aC.ob Go.aC.oc at e;simp[Go.aC.er]at e
  ·have:Go.aC.gH f [22]=false:=by simp[Go.aC.gH];cases u:f.beq 22 with|false=>rfl|true=>exact absurd (Zr u) a
   rw[this];exact e
def ι{w:World}(n:Go.aC.tD Tryz.prog w)(e:laidMet Tryz.prog Rows.causeOrderRow.laid w)(C:Go.aC.ai)(aU:C.P=Tryz.prog)(p:C.ez=kW):Go.aC.ya C w:=by
 obtain⟨L,t,i⟩:=Go.aC.Env.R7 w0 f8 n Tryz.func128 Zk Zk RM RL e;obtain⟨cn,co,d⟩:=Go.aC.Env.R6 w0 Tryz.func150 Zk rfl Tryz.stringslite_Clone e i;obtain⟨A,s,g⟩:=Go.aC.Env.R8 w0 (fR:=[22]) (l:=iu) e d rfl (λx a=>by
  unfold iu at a;simp only[Zq,ZS,YB]at a;rcases a with rfl|rfl|rfl
  ·exact wF acz
  ·exact wF acA
  ·exact wF acB)
 have c:=Go.aC.Ht (l:=[(6,[],.bool true)]) g rfl (λx a=>by
  rw[ZC]at a;subst a;exact wF acu)
 obtain⟨P,G,aD,ez,i6⟩:=C;have m:P=Tryz.prog:=aU;have r:ez=kW:=p;subst m r;exact⟨λf args v b=>c.val f args v (Hu f args v b),λf args v b=>c.ok f args v (Hu f args v b)⟩
open Go.aC
def NV:∀{s:List Nat},(∀c∈s,c<256)->nI s=true:=by
 intro s;induction s with
 |nil=>intro _;rfl|cons a s U=>
  intro e;have f:=e a (Zp ..);have b:Nat.blt a 256=true:=by simp[Nat.blt];omega
  simp only[nI,b,U (λc d=>e c (Zw _ d)),Z1]
def RK:∀c<256,(decide (0<=n2 [32,9,10,13] c 0)==ux c)=true:=by decide+kernel
def Hs{X:bf}(g:X.O=kW):e2 X:=by
 refine⟨⟨λf l m=> ?_⟩,λc i=> ?_,λs n p=> ?_⟩
 ·rw[g];have d:¬f=6/\¬f=150/\¬f=128:=by refine⟨λu=> ?_,λu=> ?_,λu=> ?_⟩<;>(subst u;cases m)
  unfold kW j3;simp only[m7,er,d.1,ZJ];unfold ob oc;simp only[er,d.2.1,d.2.2,ZJ]
 ·refine⟨n2 [32,9,10,13] c 0, ?_, ?_⟩
  ·rw[g];have a:nI [32,9,10,13]=true:=rfl;have b:Nat.blt c 256=true:=(by simp[Nat.blt];omega);show kW 128 [.str [32,9,10,13],.int .u8 (.ofNat c)]=_;unfold kW j3;simp only[m7,er];unfold ob oc;simp[er,a,b]
  ·have:=RK c i;rw[zz]at this;rw[<-this];simp
 ·rw[g];have a:=NV n;have b:Nat.ble s.length 281474976710656=true:=ds Zo;unfold kW j3;simp only[m7,er];unfold ob;simp[er,a,b]
def Ou:∀{s:List Nat},(∀c∈s,c<256)->nN (s.map λc:Nat=>y.int .u8 (c:Int))=some s:=by intro s;induction s with|nil=>intro _;rfl|cons a s U=>intro e;have b:=e a (Zp ..);have d:=U (λc f=>e c (Zw _ f));show(match nN (s.map λc:Nat=>y.int .u8 (c:Int))with|some r=>some (a%256::r)|none=>none)=_;rw[d,zb b]
def abn(w:World)(r:tD Tryz.prog w)(n:laidMet Tryz.prog Rows.causeOrderRow.laid w){v0:Value}{a:List Nat}(t:∀c∈a,c<256)(G:r2 w v0 1 (a.map λc:Nat=>y.int .u8 (c:Int))):
 Calls Tryz.prog 4 #[v0] w λu a6=>u=.returned (.bool true)/\Below w.heap.size w a6:=by
 obtain⟨D,Q,a0,I,ec,C,d,t0⟩:=R9 w0 (ez:=kW) n SJ G;generalize p:(a.map λc:Nat=>y.int .u8 (c:Int))=l at*;have g:l.length=a.length:=by rw[<-p,Zj]
 let X:bf:=⟨nb l dg 22,23,kW⟩;have A:Env X w D Q:=⟨f8,ι r n X rfl rfl,I,ec,r⟩;have f:kn X:=⟨rfl,λb T=>by
  show(nb l dg 22).get b=_;unfold nb;split
  ·rw[B.eX,Zi Zo]
  ·rfl⟩
 have T4:(o X).aD<=23:=Zg _;have T3:(min (a.length:Int) 5000)=((min a.length 5000:Nat):Int):=Zo;have mg:∃aL,c2 a0=some (.int .i64 (a.length:Int))/\fY X .nil 1 a0 none (some (.int .i64 (min (a.length:Int) 5000))) none=some aL/\c2 aL=some (.int .i64 ((a.take 5000).length:Int))/\∀S' x,aT X .nil 23 S' x->oZ X S' aL=some (.str (a.take 5000)):=by
  rw[T3];rcases t0 with ⟨rfl,e⟩|⟨len,cap,rfl,T9,m,N⟩
  ·have i:a=[]:=ZY (by rw[<-g,e];rfl);subst i;exact⟨.au,rfl,rfl,rfl,λ_ _ _=>rfl⟩
  ·rw[ZF,g]at m;subst m;have T2:min a.length 5000<=a.length:=Nat.min_le_left _ _;refine⟨.slice 22 0 (min a.length 5000) cap,kz .., ?_, ?_,λS' x O=> ?_⟩
   ·generalize min a.length 5000=V at T2;have L:Nat.ble V cap=true:=ds Zo;have key:gd a.length cap none (some (.int .i64 (V:Int))) none=some (0,V,cap):=(by simp only[gd,hA,hU,L,c3,ZK]);simp only[fY,key];simp[c3]
   ·rw[kz,YM,Nat.min_comm]
   ·show(
     match (match (y.slice 22 0 (min a.length 5000) cap)with| .str s=>some (y.str s)|_=>none)with|some v=>some v|none=>si X S' (.slice 22 0 (min a.length 5000) cap))=_
    simp only[si];have P:gj X S' 22 0 (min a.length 5000)=some ((a.take 5000).map λc:Nat=>y.int .u8 (c:Int)):=by
     by_cases T6:a.length=0
     ·have i:a=[]:=ZY T6;subst i;simp only[gj];cases d:cellsOf X S' 22 with|none=>simp|some c=>simp[FY]
     ·have T:F X S' 22=some (.cells (B.ofList l 0 .nil) l.length .fD):=by rw[O.K 22 Zd];exact N (by rw[g];omega)
      simp only[gj,cellsOf,T];rw[FX (fS l) _ _ (by rw[g];omega), <-p,Ym, <-List.map_take,Nat.min_comm];congr 2;rw[List.take_eq_take_iff];simp
    rw[P];simp only[Ou (λc d=>t c (Y6 d))]
 obtain⟨aL,a7,bl,T7,T8⟩:=mg;have T0:=Sb (X:=X) (j:=.nil) (k:=23) (Hs rfl) (QF f) (QA f) (QB f) (QD f) (Qx f) (show kW 6 []=some (.bool true) by unfold kW j3;rfl) T4 a7 (by rw[YM];omega) (λc d=>t c (Y6 d)) bl T7 T8;have T5:lT X 4 [a0] .nil 23 (λM _ _=>M=.bool true) zW:=by refine(EU (show(o X).ez 4 [a0]=none from(Hs (X:=X) rfl).none 4 [a0] rfl) T0).mono (λM _ _ e=> ?_) (λ_ _ _ e=>e);rw[e.1]
 have e:=Ox A (v:=.bool true) rfl C T5;rw[d]at e;refine e.mono λu a6 ⟨⟨bZ,T1⟩,T⟩=>⟨?_,T⟩;rw[T1];rfl
def OB{a1:World}{bx off q:Nat}{bg:Array Value}{ty:TypeId}{fr:Nat×Nat}(T:a1.heap[bx]? =some (.cells bg ty fr)):a1.cell? ((⟨bx,off,none⟩:Addr).add q)=bg[off+q]? :=by
 unfold Addr.add World.cell?;by_cases e:q=0
 ·subst e;simp[T]
 ·simp[e,T]
set_option maxRecDepth 100000 in
def abK{a1:World}{base t u:Nat}{a:Addr}{len cap:Nat}(i:Tryz.prog.underlying t=some (.slice u))(d:Value.okWide Tryz.prog a1 .any base t (.slice (some a) len cap)):a.spot=none/\∃bg ty fr,a1.heap[a.block]? =some (.cells bg ty fr):=by
 simp only[Value.okWide,i,Cell.okWide,Cell.ok,World.has]at d;obtain⟨_,_,_,g,row,cells,b,_⟩:=d;refine⟨g, ?_⟩;unfold World.shape? at b;split at b
 ·rename_i c f fr T;exact⟨c,f,fr,T⟩
 ·cases b
open Go.aC Go.Deep in
def N9{w:World}{bx off len cap:Nat}{bg:Array Value}{ty:TypeId}{fr:Nat×Nat}(c:len<=cap){l:List y}(g:l.length=len)(d:B3 l)
 (T:w.heap[bx]? =some (.cells bg ty fr))(b:∀(i:Nat) v,l[i]? =some v->bg[off+i]? =some (aq (λ_=>default) v)):r2 w (.slice (some ⟨bx,off,none⟩) len cap) 1 l:=by
 refine .inr ⟨bx,off,len,cap,bg,ty,fr,rfl,c,Zo,d,λe=>⟨T, ?_,b⟩⟩;have a:=b (l.length-1) _ (Zb Zo);have f:off+(l.length-1)<bg.size:=by
  rcases zg (off+(l.length-1)) bg.size with e|e
  ·exact e
  ·rw[Array.getElem?_eq_none e]at a;cases a
 omega
open Go.aC Go.Deep in
set_option maxRecDepth 100000 in
def N8{A:Type}{enc:TypeId×Value->A}{a1:World}{base:Nat}{v:Value}{d:DataW A}{b2:List MemPlace}(l:Value.okWide Tryz.prog a1 .any base 22 v)(e:DataW.Trod enc Tryz.prog a1 0 (λ_=>true) true 22 v d b2):
 ∃O:List Nat,(∀c∈O,c<256)/\r2 a1 v 1 (O.map λc:Nat=>y.int .u8 (c:Int)):=by
 have w:Tryz.prog.underlying 22=some (.slice 5):=Zk;have s:Tryz.prog.cellsOf 5=1:=Zk;have T6:Tryz.prog.underlying 5=some (.int .u8):=Zk;obtain⟨a,len,cap,rfl⟩:=okWide_slice w l;obtain⟨fuel,T0⟩:=e;rcases open_slice1 w s T0 with ⟨b,_⟩|⟨P,TZ,TY,m,n,ad,T9,hq,b,_,T3,_,L,_,T8⟩
 ·simp[Value.cells]at b;obtain⟨rfl,rfl,rfl⟩:=b;exact⟨[],Zs,.inl ⟨rfl,rfl⟩⟩
 ·simp[Value.cells]at b;obtain⟨rfl,rfl,rfl⟩:=b;simp only[ZK]at L;subst L;obtain⟨N,bg,ty,fr,T⟩:=abK w l;obtain⟨bx,off,spot⟩:=P;simp only at N T;subst N;obtain⟨f,G⟩:=choose_lt (α:=Nat) (n:=len) (p:=λi x=>x<256/\bg[off+i]? =some (.int .u8 (x:Int))) (λi af=>by
   obtain⟨C,X⟩:=T8 i Zo;obtain⟨q,g,_,T7⟩:=DataW.trod_int T6 X;simp at g;rw[OB T,g]at C;have T2:IntKind.u8.min<=q/\q<=IntKind.u8.max:=(by simpa[Lit.wf]using T7);have T5:IntKind.u8.min=0:=rfl;have T4:IntKind.u8.max=255:=rfl;have T1:0<=q/\q<256:=(by rw[T5,T4]at T2;omega);obtain⟨x,rfl⟩:=Yn T1.1;exact⟨x,Zo,C⟩)
  refine⟨(List.range len).map f,λc s=> ?_,N9 (ty:=ty) (fr:=fr) (bg:=bg) T3 Zs ?_ T ?_⟩
  ·obtain⟨i,af,rfl⟩:=ZB.1 s;exact(G i (List.mem_range.1 af)).1
  ·intro v l;obtain⟨r,_,rfl⟩:=ZB.1 l;exact⟨λ_ _=>rfl,λ_=>trivial⟩
  ·intro i v af;have t:=(Ze.1 af).1;simp at t;simp[t]at af;subst af;exact(G i t).2
end Go.Proofs.YtehmapikajmjaaaGreatDoor
namespace Go.Proofs
open Go.Shelf
def Tryz.Si:Go.Shelf.Ren:=⟨fun|189=>27|125=>50|257=>49|128=>86|129=>87|294=>77|295=>78|296=>79|297=>80|298=>81|299=>82|216=>83|300=>84|301=>85|328=>109|329=>110|330=>111|331=>112|332=>113|215=>114|343=>139|n=>n,fun|28=>39|3=>3|46=>123|0=>0|51=>166|53=>97|4=>4|183=>159|182=>158|131=>87|5=>5|9=>9|218=>190|222=>194|228=>212|229=>213|n=>n,fun|n=>n⟩
def Tryz.Gr:Go.Proofs.Lays.n189 Tryz.prog Tryz.Si:={
 mixed:=Zk
 f125:=Tryz.func50.trans (congrArg some Zk)
 f128:=Tryz.func86.trans (congrArg some Zk)
 f129:=Tryz.func87.trans (congrArg some Zk)
 f189:=Tryz.func27.trans (congrArg some Zk)
 f215:=Tryz.func114.trans (congrArg some Zk)
 f216:=Tryz.func83.trans (congrArg some Zk)
 f257:=Tryz.func49.trans (congrArg some Zk)
 f294:=Tryz.func77.trans (congrArg some Zk)
 f295:=Tryz.func78.trans (congrArg some Zk)
 f296:=Tryz.func79.trans (congrArg some Zk)
 f297:=Tryz.func80.trans (congrArg some Zk)
 f298:=Tryz.func81.trans (congrArg some Zk)
 f299:=Tryz.func82.trans (congrArg some Zk)
 f300:=Tryz.func84.trans (congrArg some Zk)
 f301:=Tryz.func85.trans (congrArg some Zk)
 f328:=Tryz.func109.trans (congrArg some Zk)
 f329:=Tryz.func110.trans (congrArg some Zk)
 f330:=Tryz.func111.trans (congrArg some Zk)
 f331:=Tryz.func112.trans (congrArg some Zk)
 f332:=Tryz.func113.trans (congrArg some Zk)
 f343:=Tryz.func139.trans (congrArg some Zk)
 t0:=Tryz.underlying0
 a0:=Tryz.isAgg0
 z0:=Tryz.sizeOf0
 v0:=Tryz.zeroValue0
 t3:=Tryz.underlying3
 a3:=Tryz.isAgg3
 z3:=Tryz.sizeOf3
 v3:=Tryz.zeroValue3
 t4:=Tryz.underlying4
 a4:=Tryz.isAgg4
 z4:=Tryz.sizeOf4
 v4:=Tryz.zeroValue4
 t5:=Tryz.underlying5
 a5:=Tryz.isAgg5
 z5:=Tryz.sizeOf5
 v5:=Tryz.zeroValue5
 t9:=Tryz.underlying9
 a9:=Tryz.isAgg9
 z9:=Tryz.sizeOf9
 v9:=Tryz.zeroValue9
 t28:=Tryz.underlying39
 a28:=Tryz.isAgg39
 z28:=Tryz.sizeOf39
 v28:=Tryz.zeroValue39
 t46:=Tryz.underlying123
 a46:=Tryz.isAgg123
 z46:=Tryz.sizeOf123
 v46:=Tryz.zeroValue123
 t51:=Tryz.underlying166
 a51:=Tryz.isAgg166
 z51:=Tryz.sizeOf166
 v51:=Tryz.zeroValue166
 t53:=Tryz.underlying97
 a53:=Tryz.isAgg97
 z53:=Tryz.sizeOf97
 v53:=Tryz.zeroValue97
 t131:=Tryz.underlying87
 a131:=Tryz.isAgg87
 z131:=Tryz.sizeOf87
 v131:=Tryz.zeroValue87
 t182:=Tryz.underlying158
 a182:=Tryz.isAgg158
 z182:=Tryz.sizeOf158
 v182:=Tryz.zeroValue158
 t183:=Tryz.underlying159
 a183:=Tryz.isAgg159
 z183:=Tryz.sizeOf159
 v183:=Tryz.zeroValue159
 t218:=Tryz.underlying190
 a218:=Tryz.isAgg190
 z218:=Tryz.sizeOf190
 v218:=Tryz.zeroValue190
 t222:=Tryz.underlying194
 a222:=Tryz.isAgg194
 z222:=Tryz.sizeOf194
 v222:=Tryz.zeroValue194
 t228:=Tryz.underlying212
 a228:=Tryz.isAgg212
 z228:=Tryz.sizeOf212
 v228:=Tryz.zeroValue212
 t229:=Tryz.underlying213
 a229:=Tryz.isAgg213
 z229:=Tryz.sizeOf213
 v229:=Tryz.zeroValue213}
end Go.Proofs
namespace Go.aC
def Rv(x:Int):∀(bG c:List Int),(∀b∈bG,b<x)->(∀b,c.head?=some b->x<=b)->k5 x (bG++c)=bG++x::c:=by
 intro bG;induction bG with
 |nil=>
  intro c _ e;cases c with
  |nil=>rfl|cons b c=>have:=e b rfl;rw[Yz,k5,c3,k6,Zi Zx];rfl
 |cons a bG U=>intro c d f;have:=d a (Zp ..);rw[YA,k5,c3,k6,Zu Zx,U c (λb T=>d b (Zw _ T)) f];rfl
def abO:∀aE:List Int,(aE.mergeSort λx h=>decide (x<=h))=d0 aE:=by
 intro aE;induction aE with
 |nil=>simp[d0]|cons a l U=>
  have i:∀a b c:Int,decide (a<=b)=true->decide (b<=c)=true->decide (a<=c)=true:=by intro a b c d f;simp at d f ⊢;omega
  have m:∀a b:Int,(decide (a<=b)||decide (b<=a))=true:=by intro a b;simp;omega
  obtain⟨bG,n,d,f,p⟩:=List.mergeSort_cons i m a l;have g:=List.pairwise_mergeSort i m (a::l);rw[d]at g;rw[d,d0, <-U,f,Rv a bG n (λb T=>by have:=p b T;simp at this;omega)];intro b T;have r:b∈n:=List.mem_of_mem_head? T;have:=(Yy.1 (List.pairwise_append.1 g).2.1).1 b r;simpa using this
end Go.aC
namespace Go.Proofs.YtehmapikajmjaaaGreatDoor
open Go.aC
def abU:(Tryz.prog.funcs.toList.zipIdx.all λp=> !(p.1.name== "slices.Sort[[]int,int]")||Nat.beq p.2 27)=true:=Zk
def Fq{P:Program}{bj:Nat}{fn:Func}{c:Code}{args:Array Value}{w:World}(a:P.funcs[bj]? =some fn)(b:(fn.name== "runtime.NumGoroutine")=false)(T:fn.body=some c):(callFunc bj args).run P w=.ok (.enter bj args) w:=by
 have d:¬fn.name= "runtime.NumGoroutine":=by simpa using b
 simp[callFunc,a,d,T]
def S1(aS:World):tD Tryz.prog aS:=by
 intro f fn p N w T;have u:f=27:=by
  have L:(fn,f)∈Tryz.prog.funcs.toList.zipIdx:=by rw[List.mem_zipIdx_iff_getElem?,Z5];exact p
  have:=zt.1 abU _ L;simpa[N]using this
 subst u;have v:=YF (Tryz.func27.symm.trans p);subst v;refine⟨⟨Fq Tryz.func27 Zk rfl,Calls.mono (show Calls Tryz.prog 27 _ w _ from Any.slices_Sort_int_none Tryz.Gr none 0 w) λu a6 ⟨d,m⟩=>⟨d,by subst m;exact⟨rfl,rfl,rfl,Zg _,λ_ _=>rfl⟩⟩⟩,λg off c bg t aW af aE a A P X T1=> ?_⟩;have C:g<w.heap.size:=by
  rcases zg g w.heap.size with V|V
  ·exact V
  ·rw[Array.getElem?_eq_none V]at a;cases a
 have r:Go.Sort.Holds (Value.int .i64) w g off aE.toArray:=by
  intro E b;have b:E<aE.length:=by simpa using b
  refine⟨?_, ?_⟩
  ·have:=X E _ (Zb b);simp only[World.cell?,a];rw[this];simp[b]
  ·simp only[World.frozen?,a];rcases A with e|e
   ·simp;omega
   ·simp;omega
 refine⟨Fq Tryz.func27 Zk rfl,Calls.mono (show Calls Tryz.prog 27 _ w _ from Any.slices_Sort_int Tryz.Gr g off c aE w r C Zo) λu a6 ⟨d,n,os,m⟩=>⟨d, ?_⟩⟩;subst m;rw[abO];have O:(d0 aE).length=aE.length:=rB aE;have s:Go.Sort.putCells (Value.int .i64) off (d0 aE).toArray bg=fK bg off ((d0 aE).map λaw=> .int .i64 aw):=by
  apply Array.ext_getElem?;intro i;rw[xv _ _ _ _ (by rw[Zj,O];exact P),Zj];unfold Go.Sort.putCells;rw[Array.getElem?_mapIdx];by_cases af:off<=i/\i<off+(d0 aE).length
  ·rw[Zu af,Y2 Zo];simp only[ZZ,Yh];rw[Zu af,Zn,Zb Zo];simp[show i-off<(d0 aE).length by omega]
  ·rw[Zi af];cases T0:bg[i]? with|none=>rfl|some x=>simp only[ZZ,Yh];rw[Zi af]
 have G:∀q:Nat,(Go.Sort.putRow (Value.int .i64) (Go.Sort.ahead w n) g off (d0 aE).toArray).heap[q]? =(w.setRow g (fK bg off ((d0 aE).map λaw=> .int .i64 aw))).heap[q]? :=by
  intro q;unfold Go.Sort.putRow Go.Sort.mapBlock World.setRow Go.Sort.ahead;simp only[Array.getElem?_modify];by_cases l:g=q
  ·subst l;simp only[ZK,a,ZZ,Go.Sort.onCells,s]
  ·simp[l]
 have T2:(Go.Sort.putRow (Value.int .i64) (Go.Sort.ahead w n) g off (d0 aE).toArray).heap.size=(w.setRow g (fK bg off ((d0 aE).map λaw=> .int .i64 aw))).heap.size:=by unfold Go.Sort.putRow Go.Sort.mapBlock World.setRow Go.Sort.ahead;simp
 refine⟨rfl,rfl,rfl, ?_,λq l=> ?_⟩
 ·unfold Go.Sort.grow;simp only[YV];omega
 ·unfold Go.Sort.grow;show((Go.Sort.putRow (Value.int .i64) (Go.Sort.ahead w n) g off (d0 aE).toArray).heap++os)[q]? =_;rw[Yx Zo];exact G q
end Go.Proofs.YtehmapikajmjaaaGreatDoor
