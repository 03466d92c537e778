/- Part of the proof of the last text; no conditions -/
import Derived.Test.YtmipngjbcdamjaaGreatDoorYt
import Derived.LaidByTextLater
import Derived.LaidSub
import Derived.LaidOnce
import Derived.Test.YtmipngjbcdamjaaGreatDoorCards
import Derived.LaidMore
import Derived.OpenShut
import Derived.Stop.Joined
import Derived.SevenTiedAt
import Derived.Carry
import Derived.Deep.Slices
set_option maxHeartbeats 8000000
set_option linter.all false
namespace Go.Proofs.YtmipngjbcdamjaaGreatDoor
open Go.ChangeShapes Go.WideShapes Go.ChangeAt Go.RowKit
def Tryz.own:ownKnob Tryz.prog.godebug=none:=Zk
def Tryz.laid:laidOutB Tryz.prog=true:=Zk
def Ir:(Tryz.prog.funcs.toList.all λfn=> !fn.body.isSome|| !(fn.name== "runtime.NumGoroutine"))=true:=Zk
def Ih:Tryz.prog.follows .mixedOrders=true:=Zk
def eQ:Go.S.kD Tryz.prog:=by
 refine⟨Ih,λf fn a ab=> ?_⟩
 have b:fn∈Tryz.prog.funcs.toList:=Array.mem_toList_iff.2 (Y8 a)
 have e:=Yy.1 Ir fn b
 rw[ab]at e
 simpa using e
def r4:Go.S.lW Tryz.prog nm:=by
 intro x a N b
 have a:x=((Tryz.prog.typeName? 3 269).getD "",269):=by simpa[nm]using a
 subst a
 exact typeName_ptr_named (nm:= "errors.errorString") Zk Zk Zd N (b.trans Zk)
def G1:Extern.findNext Tryz.f175=none:=Zk
def G0:Extern.find Tryz.f175=some Extern.BytealgIndexByte.indexByte:=Zk
def IY{α b:Type}{p L:α×b}{a:α}(l:L=p)(e:L.1=a):p=(a,L.2):=by
 subst l;cases L;cases e;rfl
def HT:Go.S.dr Tryz.prog nm Rows.initialMadeRow.laid Tryz.prog.globals.size=(22,ac.2):=IY (L:=ac) rfl rX
def Ht:(Go.S.dr Tryz.prog nm Rows.initialMadeRow.laid Tryz.prog.globals.size).1=22:=by
 have e:=rX
 unfold ac at e
 exact e
def Hu:Go.S.gc (Go.S.dr Tryz.prog nm Rows.initialMadeRow.laid Tryz.prog.globals.size).2 .nil=dH:=by
 unfold dH ac
 rfl
def mv{f:Nat}{args:List Go.S.y}{v:Go.S.y}{D:Nat->List Go.S.y->Option Go.S.y}{m:Nat}(e:Go.S.gP ⟨Tryz.prog,dH,22,D,Tryz.prog.globals.size⟩ m f args=some v):∃m,Go.S.gP ⟨Tryz.prog,Go.S.gc (Go.S.dr Tryz.prog nm Rows.initialMadeRow.laid Tryz.prog.globals.size).2 .nil,(Go.S.dr Tryz.prog nm Rows.initialMadeRow.laid Tryz.prog.globals.size).1,D,Tryz.prog.globals.size⟩ m f args=some v:=by
 rw[Ht,Hu]
 exact⟨m,e⟩
def y5(f:Nat)(args:List Go.S.y)(v:Go.S.y)(e:hh f args=some v):Go.S.hu eP fI f args=some v:=by
 unfold hh Go.S.hu at e
 unfold Go.S.hu
 cases a:Go.S.ju f args fI with
 |some N=>rw[a]at e;exact e
 |none=>rw[a]at e;cases e
def IV{w:World}(e:laidMet Tryz.prog Rows.initialMadeRow.laid w)(C:Go.S.aC)(m:C.P=Tryz.prog)(p:C.dy=hh):Go.S.sV C w:=by
 obtain⟨O,t,i⟩:=Go.S.Env.Ho r4 eQ Tryz.func175 Zk Zk G1 G0 e
 obtain⟨bY,b8,d⟩:=Go.S.Env.Hn r4 Tryz.func173 Zk rfl Tryz.stringslite_Clone e i
 obtain⟨z,s,g⟩:=Go.S.Env.Hp r4 (eL:=[37]) (k:=iN) e d rfl (λx a=>by
  unfold iN at a
  simp only[Zz,List.not_mem_nil,or_false]at a
  rcases a with rfl|rfl|rfl|rfl|rfl|rfl|rfl
  ·exact mv K9
  ·exact mv La
  ·exact mv Lb
  ·exact mv Lc
  ·exact mv Ld
  ·exact mv Le
  ·exact mv Lf)
 have c:=Go.S.y4 (k:=fI) g Zk (λx a=>mv (DL x a))
 obtain⟨P,G,aP,dy,cL⟩:=C
 have n:P=Tryz.prog:=m
 have r:dy=hh:=p
 subst n r
 exact⟨λf args v b=>c.val f args v (y5 f args v b),λf args v b=>c.ok f args v (y5 f args v b)⟩
open Go.S
def y3{X:bU}(a:X.O=hh):dU X:=⟨⟨λf k c=>by rw[a];exact Bo f k c⟩,λs b=>by rw[a];exact H9 b,λs b=>by rw[a];exact JR b⟩
def HU(w:World)(m:laidMet Tryz.prog Rows.initialMadeRow.laid w){v0:Value}{a:List Nat}{d:Nat}(T4:d<256)(T3:∀c∈a,c<65536)(s:n6 w v0 1 (a.map λc:Nat=>y.int .u16 (c:Int))):
 Calls Tryz.prog 4 #[v0, .int .u8 (d:Int)] w λl aM=>l= .returned (.bool true)/\Below w.heap.size w aM:=by
 obtain⟨A,F,a0,M,dS,r,G,t0⟩:=Hq r4 (dy:=hh) m HT s
 generalize au:(a.map λc:Nat=>y.int .u16 (c:Int))=k at*
 have g:k.length=a.length:=by rw[<-au,Zn]
 let X:bU:=⟨km k dH 22,23,hh⟩
 have p:Env X w A F:=⟨eQ,IV m X rfl rfl,M,dS⟩
 have z:oe X:=⟨rfl,λb ab=>by
  show(km k dH 22).get b=_
  unfold km
  split
  ·rw[I.gn,Zj Zo]
  ·rfl⟩
 have T1:(u X).aP<=23:=Zp _
 have T0:(min (a.length:Int) 400)=((min a.length 400:Nat):Int):=Zo
 have jq:∃aH,bL a0=some (.int .i64 (a.length:Int))/\(∀E,il X E 1 a0 none (some (.int .i64 (min (a.length:Int) 400))) none=some aH)/\bL aH=some (.int .i64 ((min a.length 400:Nat):Int))/\sU X aH (min a.length 400):=by
  rw[T0]
  rcases t0 with ⟨rfl,e⟩|⟨len,cap,rfl,T8,i,x⟩
  ·have T5:a=[]:=Yc (by rw[<-g,e];rfl)
   subst T5
   exact⟨.az,rfl,λ_=>rfl,rfl,λH f=>by simp at f⟩
  ·rw[ZV,g]at i
   subst i
   have Z:min a.length 400<=a.length:=Nat.min_le_left _ _
   refine⟨.slice 22 0 (min a.length 400) cap,hP ..,λE=> ?_,hP ..,λH f=> ?_⟩
   ·generalize min a.length 400=L at Z
    have t:Nat.ble L cap=true:=gk Zo
    have key:gW a.length cap none (some (.int .i64 (L:Int))) none=some (0,L,cap):=by
     simp only[gW,hq,mD,t,cN,ZP]
    simp only[il,key]
    simp[cN]
   ·have n:H<a.length:=Zo
    refine⟨.ptr 22 (0+H*1),a[H],mu .i64 f,λE=> ?_,T3 _ (List.getElem_mem n)⟩
    have ab:J X .nil 22=some (.cells (I.ofList k 0 .nil) k.length .eC):=x (by rw[g];omega)
    have C:J X E 22=some (.cells (I.ofList k 0 .nil) k.length .eC):=by
     rw[<-ab];unfold Go.S.J;rw[show Nat.blt 22 (u X).aP=true from rfl,cS,cS]
    rw[ba C,fG, <-au,Zw,ZE,ZV,Ze n]
    rfl
 obtain⟨aH,bf,bo,T6,T7⟩:=jq
 have P:=Hr (X:=X) (h:= .nil) (j:=23) (y3 rfl) (Gl z) (show hh 14 []=some (.bool true) from K5) T1 bf bo T6 Zo T7 T4
 have T2:jb X 4 [a0, .int .u8 (d:Int)] .nil 23 (λN _ _=>N= .bool true) zG:=by
  refine(xd (show(u X).dy 4 [a0, .int .u8 (d:Int)]=none from(y3 (X:=X) rfl).none 4 [a0, .int .u8 (d:Int)] rfl) P).mono (λN _ _ e=> ?_) (λ_ _ _ e=>e)
  rw[e.1]
 have e:=ED p (v:= .bool true) rfl (args:=[a0, .int .u8 (d:Int)]) ⟨r.1,trivial,trivial⟩ T2
 rw[show aU A [a0, .int .u8 (d:Int)]=[v0, .int .u8 (d:Int)] from by
  have O:ai A a0=v0:=by simpa[aU]using G
  simp[aU,ai,O]]at e
 refine e.mono λl aM ⟨⟨bF,Y⟩,ab⟩=>⟨?_,ab⟩
 rw[Y];rfl
def EF{a:World}{bc off o:Nat}{a7:Array Value}{ty:TypeId}{fr:Nat×Nat}(ab:a.heap[bc]? =some (.cells a7 ty fr)):a.cell? ((⟨bc,off,none⟩:Addr).add o)=a7[off+o]? :=by
 unfold Addr.add World.cell?
 by_cases e:o=0
 ·subst e;simp[ab]
 ·simp[e,ab]
set_option maxRecDepth 100000 in
def Kp{d:World}{base t l:Nat}{a:Addr}{len cap:Nat}(m:Tryz.prog.underlying t=some (.slice l))(f:Value.okWide Tryz.prog d .any base t (.slice (some a) len cap)):a.spot=none/\∃a7 ty fr,d.heap[a.block]? =some (.cells a7 ty fr):=by
 simp only[Value.okWide,m,Cell.okWide,Cell.ok,World.has]at f
 obtain⟨_,_,_,i,row,cells,b,_⟩:=f
 refine⟨i, ?_⟩
 unfold World.shape? at b
 split at b
 ·rename_i c g fr ab;exact⟨c,g,fr,ab⟩
 ·cases b
open Go.S Go.Deep in
def Ec{w:World}{bc off len cap:Nat}{a7:Array Value}{ty:TypeId}{fr:Nat×Nat}(au:len<=cap){k:List y}(f:k.length=len)(c:vs k)
 (ab:w.heap[bc]? =some (.cells a7 ty fr))(b:∀(i:Nat) v,k[i]? =some v->a7[off+i]? =some (ai (λ_=>default) v)):n6 w (.slice (some ⟨bc,off,none⟩) len cap) 1 k:=by
 refine .inr ⟨bc,off,len,cap,a7,ty,fr,rfl,au,Zo,c,λe=>⟨ab, ?_,b⟩⟩
 have a:=b (k.length-1) _ (Ze Zo)
 have d:off+(k.length-1)<a7.size:=by
  rcases zg (off+(k.length-1)) a7.size with e|e
  ·exact e
  ·rw[Array.getElem?_eq_none e]at a;cases a
 omega
open Go.S Go.Deep in
set_option maxRecDepth 100000 in
def Ed{G:Type}{enc:TypeId×Value->G}{t:World}{base:Nat}{v:Value}{d:DataW G}{bH:List MemPlace}(s:Value.okWide Tryz.prog t .any base 22 v)(e:DataW.Trod enc Tryz.prog t 0 (λ_=>true) true 22 v d bH):
 ∃Z:List Nat,(∀c∈Z,c<65536)/\n6 t v 1 (Z.map λc:Nat=>y.int .u16 (c:Int)):=by
 have C:Tryz.prog.underlying 22=some (.slice 103):=Zk
 have w:Tryz.prog.cellsOf 103=1:=Zk
 have T7:Tryz.prog.underlying 103=some (.int .u16):=Zk
 obtain⟨a,len,cap,rfl⟩:=okWide_slice C s
 obtain⟨fuel,T2⟩:=e
 rcases open_slice1 C w T2 with ⟨b,_⟩|⟨T0,U0,TZ,m,n,aa,TY,fU,b,_,au,_,X,_,T9⟩
 ·simp[Value.cells]at b
  obtain⟨rfl,rfl,rfl⟩:=b
  exact⟨[],Zs, .inl ⟨rfl,rfl⟩⟩
 ·simp[Value.cells]at b
  obtain⟨rfl,rfl,rfl⟩:=b
  simp only[ZP]at X
  subst X
  obtain⟨Y,a7,ty,fr,ab⟩:=Kp C s
  obtain⟨bc,off,spot⟩:=T0
  simp only at Y ab
  subst Y
  obtain⟨f,P⟩:=choose_lt (α:=Nat) (n:=len) (p:=λi x=>x<65536/\a7[off+i]? =some (.int .u16 (x:Int))) (λi ak=>by
   obtain⟨O,T1⟩:=T9 i Zo
   obtain⟨o,g,_,T8⟩:=DataW.trod_int T7 T1
   simp at g
   rw[EF ab,g]at O
   have T4:IntKind.u16.min<=o/\o<=IntKind.u16.max:=by simpa[Lit.wf]using T8
   have T6:IntKind.u16.min=0:=rfl
   have T5:IntKind.u16.max=65535:=rfl
   have T3:0<=o/\o<65536:=by rw[T6,T5]at T4;omega
   obtain⟨x,rfl⟩:=Int.eq_ofNat_of_zero_le T3.1
   exact⟨x,Zo,O⟩)
  refine⟨(List.range len).map f,λc w=> ?_,Ec (ty:=ty) (fr:=fr) (a7:=a7) au Zs ?_ ab ?_⟩
  ·obtain⟨i,ak,rfl⟩:=ZB.1 w
   exact(P i (List.mem_range.1 ak)).1
  ·intro v s
   obtain⟨r,_,rfl⟩:=ZB.1 s
   exact⟨λ_ _=>rfl,λ_=>trivial⟩
  ·intro i v ak
   have z:=(Zf.1 ak).1
   simp at z
   simp[z]at ak
   subst ak
   exact(P i z).2
set_option maxRecDepth 100000 in
def Ee{a:Type}{enc:TypeId×Value->a}{b:World}{base:Nat}{v:Value}{d:DataW a}{bH:List MemPlace}(s:Value.okWide Tryz.prog b .any base 5 v)(e:DataW.Trod enc Tryz.prog b 0 (λ_=>true) true 5 v d bH):∃f:Nat,f<256/\v= .int .u8 (f:Int):=by
 have c:Tryz.prog.underlying 5=some (.int .u8):=Zk
 obtain⟨fuel,i⟩:=e
 obtain⟨o,g,_,t⟩:=DataW.trod_int c i
 have n:IntKind.u8.min<=o/\o<=IntKind.u8.max:=by simpa[Lit.wf]using t
 have r:IntKind.u8.min=0:=rfl
 have p:IntKind.u8.max=255:=rfl
 have m:0<=o/\o<256:=by rw[r,p]at n;omega
 obtain⟨x,rfl⟩:=Int.eq_ofNat_of_zero_le m.1
 refine⟨x,Zo, ?_⟩
 simp only[Value.okWide,c,Cell.okWide]at s
 cases v<;>simp_all [Cell.ok,Value.cells]
end Go.Proofs.YtmipngjbcdamjaaGreatDoor

