/- Part of the proof of the last text; no conditions -/
import Derived.Test.YtmipngjbcdamjaaGreatDoorYt
import Derived.LaidByTextLater
import Derived.LaidSub
import Derived.LaidOnce
import Derived.Test.YtmipngjbcdamjaaGreatDoorCards
import Derived.LaidMore
import Derived.OpenShut
import Derived.Stop.Joined
import Derived.SevenTiedAt
import Derived.Carry
import Derived.Deep.Slices
set_option maxHeartbeats 8000000
set_option linter.all false
namespace Go.Proofs.YtmipngjbcdamjaaGreatDoor
open Go.ChangeShapes Go.WideShapes Go.ChangeAt Go.RowKit
def Tryz.own:ownKnob Tryz.prog.godebug=none:=Zk
def Tryz.laid:laidOutB Tryz.prog=true:=Zk
def Iu:(Tryz.prog.funcs.toList.all λfn=> !fn.body.isSome|| !(fn.name== "runtime.NumGoroutine"))=true:=Zk
def Ik:Tryz.prog.follows .mixedOrders=true:=Zk
def eO:Go.Q.kB Tryz.prog:=by
 refine⟨Ik,λf fn a Y=> ?_⟩
 have b:fn∈Tryz.prog.funcs.toList:=Array.mem_toList_iff.2 (Y8 a)
 have e:=Yy.1 Iu fn b
 rw[Y]at e
 simpa using e
def r5:Go.Q.lU Tryz.prog nm:=by
 intro x a L b
 have a:x=((Tryz.prog.typeName? 3 269).getD "",269):=by simpa[nm]using a
 subst a
 exact typeName_ptr_named (nm:= "errors.errorString") Zk Zk Zd L (b.trans Zk)
def G2:Extern.findNext Tryz.f175=none:=Zk
def G1:Extern.find Tryz.f175=some Extern.BytealgIndexByte.indexByte:=Zk
def I3{α b:Type}{p J:α×b}{a:α}(j:J=p)(e:J.1=a):p=(a,J.2):=by
 subst j;cases J;cases e;rfl
def HW:Go.Q.dq Tryz.prog nm Rows.typesMadeRow.laid Tryz.prog.globals.size=(22,aa.2):=I3 (J:=aa) rfl rY
def Hu:(Go.Q.dq Tryz.prog nm Rows.typesMadeRow.laid Tryz.prog.globals.size).1=22:=by
 have e:=rY
 unfold aa at e
 exact e
def Hv:Go.Q.f9 (Go.Q.dq Tryz.prog nm Rows.typesMadeRow.laid Tryz.prog.globals.size).2 .nil=dC:=by
 unfold dC aa
 rfl
def nt{f:Nat}{args:List Go.Q.q}{v:Go.Q.q}{A:Nat->List Go.Q.q->Option Go.Q.q}{m:Nat}(e:Go.Q.g5 ⟨Tryz.prog,dC,22,A,Tryz.prog.globals.size⟩ m f args=some v):∃m,Go.Q.g5 ⟨Tryz.prog,Go.Q.f9 (Go.Q.dq Tryz.prog nm Rows.typesMadeRow.laid Tryz.prog.globals.size).2 .nil,(Go.Q.dq Tryz.prog nm Rows.typesMadeRow.laid Tryz.prog.globals.size).1,A,Tryz.prog.globals.size⟩ m f args=some v:=by
 rw[Hu,Hv]
 exact⟨m,e⟩
def y6(f:Nat)(args:List Go.Q.q)(v:Go.Q.q)(e:he f args=some v):Go.Q.hr eN fF f args=some v:=by
 unfold he Go.Q.hr at e
 unfold Go.Q.hr
 cases a:Go.Q.js f args fF with
 |some L=>rw[a]at e;exact e
 |none=>rw[a]at e;cases e
def I0{w:World}(e:laidMet Tryz.prog Rows.typesMadeRow.laid w)(C:Go.Q.ax)(m:C.P=Tryz.prog)(p:C.dv=he):Go.Q.sU C w:=by
 obtain⟨O,t,i⟩:=Go.Q.Env.Hp r5 eO Tryz.func175 Zk Zk G2 G1 e
 obtain⟨bV,b6,d⟩:=Go.Q.Env.Ho r5 Tryz.func173 Zk rfl Tryz.stringslite_Clone e i
 obtain⟨z,s,g⟩:=Go.Q.Env.Hq r5 (eJ:=[29]) (h:=iL) e d rfl (λx a=>by
  unfold iL at a
  simp only[Zz,List.not_mem_nil,or_false]at a
  rcases a with rfl|rfl|rfl|rfl|rfl|rfl
  ·exact nt La
  ·exact nt Lb
  ·exact nt Lc
  ·exact nt Ld
  ·exact nt Le
  ·exact nt Lf)
 have c:=Go.Q.y5 (h:=fF) g Zk (λx a=>nt (DP x a))
 obtain⟨P,G,aN,dv,cI⟩:=C
 have n:P=Tryz.prog:=m
 have r:dv=he:=p
 subst n r
 exact⟨λf args v b=>c.val f args v (y6 f args v b),λf args v b=>c.ok f args v (y6 f args v b)⟩
open Go.Q
def y4{X:bQ}(a:X.O=he):dR X:=⟨⟨λf h c=>by rw[a];exact Bs f h c⟩,λs b=>by rw[a];exact Ic b,λs b=>by rw[a];exact JS b⟩
def HX(w:World)(m:laidMet Tryz.prog Rows.typesMadeRow.laid w){v0:Value}{a:List Nat}{d:Nat}(T5:d<256)(T4:∀c∈a,c<65536)(s:n3 w v0 1 (a.map λc:Nat=>q.int .u16 (c:Int))):
 Calls Tryz.prog 3 #[v0, .int .u8 (d:Int)] w λj aK=>j= .returned (.bool true)/\Below w.heap.size w aK:=by
 obtain⟨u,D,a0,K,dP,r,G,t0⟩:=Hr r5 (dv:=he) m HW s
 generalize ap:(a.map λc:Nat=>q.int .u16 (c:Int))=h at*
 have g:h.length=a.length:=by rw[<-ap,Zn]
 let X:bQ:=⟨kk h dC 22,23,he⟩
 have p:Env X w u D:=⟨eO,I0 m X rfl rfl,K,dP⟩
 have z:ob X:=⟨rfl,λb Y=>by
  show(kk h dC 22).get b=_
  unfold kk
  split
  ·rw[F.gj,Zj Zo]
  ·rfl⟩
 have T2:(o X).aN<=23:=Zp _
 have T1:(min (a.length:Int) 400)=((min a.length 400:Nat):Int):=Zo
 have jo:∃aE,bK a0=some (.int .i64 (a.length:Int))/\(∀B,ii X B 1 a0 none (some (.int .i64 (min (a.length:Int) 400))) none=some aE)/\bK aE=some (.int .i64 ((min a.length 400:Nat):Int))/\sT X aE (min a.length 400):=by
  rw[T1]
  rcases t0 with ⟨rfl,e⟩|⟨len,cap,rfl,T9,i,x⟩
  ·have T6:a=[]:=Yc (by rw[<-g,e];rfl)
   subst T6
   exact⟨.aw,rfl,λ_=>rfl,rfl,λE f=>by simp at f⟩
  ·rw[ZV,g]at i
   subst i
   have T0:min a.length 400<=a.length:=Nat.min_le_left _ _
   refine⟨.slice 22 0 (min a.length 400) cap,hK ..,λB=> ?_,hK ..,λE f=> ?_⟩
   ·generalize min a.length 400=J at T0
    have t:Nat.ble J cap=true:=gg Zo
    have key:gT a.length cap none (some (.int .i64 (J:Int))) none=some (0,J,cap):=by
     simp only[gT,hn,mz,t,cK,ZP]
    simp only[ii,key]
    simp[cK]
   ·have n:E<a.length:=Zo
    refine⟨.ptr 22 (0+E*1),a[E],mq .i64 f,λB=> ?_,T4 _ (List.getElem_mem n)⟩
    have Y:H X .nil 22=some (.cells (F.ofList h 0 .nil) h.length .eA):=x (by rw[g];omega)
    have C:H X B 22=some (.cells (F.ofList h 0 .nil) h.length .eA):=by
     rw[<-Y];unfold Go.Q.H;rw[show Nat.blt 22 (o X).aN=true from rfl,cO,cO]
    rw[aZ C,fD, <-ap,Zw,ZE,ZV,Ze n]
    rfl
 obtain⟨aE,bc,bl,T7,T8⟩:=jo
 have P:=Hs (X:=X) (S:= .nil) (nx:=23) (y4 rfl) (Gn z) (show he 10 []=some (.bool true) from K6) T2 bc bl T7 Zo T8 T5
 have T3:i7 X 3 [a0, .int .u8 (d:Int)] .nil 23 (λL _ _=>L= .bool true) zG:=by
  refine(xc (show(o X).dv 3 [a0, .int .u8 (d:Int)]=none from(y4 (X:=X) rfl).none 3 [a0, .int .u8 (d:Int)] rfl) P).mono (λL _ _ e=> ?_) (λ_ _ _ e=>e)
  rw[e.1]
 have e:=EG p (v:= .bool true) rfl (args:=[a0, .int .u8 (d:Int)]) ⟨r.1,trivial,trivial⟩ T3
 rw[show aR u [a0, .int .u8 (d:Int)]=[v0, .int .u8 (d:Int)] from by
  have O:af u a0=v0:=by simpa[aR]using G
  simp[aR,af,O]]at e
 refine e.mono λj aK ⟨⟨bD,Z⟩,Y⟩=>⟨?_,Y⟩
 rw[Z];rfl
def EI{a:World}{a8 off k:Nat}{a2:Array Value}{ty:TypeId}{fr:Nat×Nat}(Y:a.heap[a8]? =some (.cells a2 ty fr)):a.cell? ((⟨a8,off,none⟩:Addr).add k)=a2[off+k]? :=by
 unfold Addr.add World.cell?
 by_cases e:k=0
 ·subst e;simp[Y]
 ·simp[e,Y]
set_option maxRecDepth 100000 in
def Kq{d:World}{base t j:Nat}{a:Addr}{len cap:Nat}(m:Tryz.prog.underlying t=some (.slice j))(f:Value.okWide Tryz.prog d .any base t (.slice (some a) len cap)):a.spot=none/\∃a2 ty fr,d.heap[a.block]? =some (.cells a2 ty fr):=by
 simp only[Value.okWide,m,Cell.okWide,Cell.ok,World.has]at f
 obtain⟨_,_,_,i,row,cells,b,_⟩:=f
 refine⟨i, ?_⟩
 unfold World.shape? at b
 split at b
 ·rename_i c g fr Y;exact⟨c,g,fr,Y⟩
 ·cases b
open Go.Q Go.Deep in
def Ef{w:World}{a8 off len cap:Nat}{a2:Array Value}{ty:TypeId}{fr:Nat×Nat}(ap:len<=cap){h:List q}(f:h.length=len)(c:vr h)
 (Y:w.heap[a8]? =some (.cells a2 ty fr))(b:∀(i:Nat) v,h[i]? =some v->a2[off+i]? =some (af (λ_=>default) v)):n3 w (.slice (some ⟨a8,off,none⟩) len cap) 1 h:=by
 refine .inr ⟨a8,off,len,cap,a2,ty,fr,rfl,ap,Zo,c,λe=>⟨Y, ?_,b⟩⟩
 have a:=b (h.length-1) _ (Ze Zo)
 have d:off+(h.length-1)<a2.size:=by
  rcases zg (off+(h.length-1)) a2.size with e|e
  ·exact e
  ·rw[Array.getElem?_eq_none e]at a;cases a
 omega
open Go.Q Go.Deep in
set_option maxRecDepth 100000 in
def Eg{G:Type}{enc:TypeId×Value->G}{t:World}{base:Nat}{v:Value}{d:DataW G}{bE:List MemPlace}(s:Value.okWide Tryz.prog t .any base 22 v)(e:DataW.Trod enc Tryz.prog t 0 (λ_=>true) true 22 v d bE):
 ∃Z:List Nat,(∀c∈Z,c<65536)/\n3 t v 1 (Z.map λc:Nat=>q.int .u16 (c:Int)):=by
 have C:Tryz.prog.underlying 22=some (.slice 103):=Zk
 have w:Tryz.prog.cellsOf 103=1:=Zk
 have T7:Tryz.prog.underlying 103=some (.int .u16):=Zk
 obtain⟨a,len,cap,rfl⟩:=okWide_slice C s
 obtain⟨fuel,T2⟩:=e
 rcases open_slice1 C w T2 with ⟨b,_⟩|⟨T0,U0,TZ,m,n,V,TY,fS,b,_,ap,_,S,_,T9⟩
 ·simp[Value.cells]at b
  obtain⟨rfl,rfl,rfl⟩:=b
  exact⟨[],Zs, .inl ⟨rfl,rfl⟩⟩
 ·simp[Value.cells]at b
  obtain⟨rfl,rfl,rfl⟩:=b
  simp only[ZP]at S
  subst S
  obtain⟨X,a2,ty,fr,Y⟩:=Kq C s
  obtain⟨a8,off,spot⟩:=T0
  simp only at X Y
  subst X
  obtain⟨f,P⟩:=choose_lt (α:=Nat) (n:=len) (p:=λi x=>x<65536/\a2[off+i]? =some (.int .u16 (x:Int))) (λi ai=>by
   obtain⟨O,T1⟩:=T9 i Zo
   obtain⟨k,g,_,T8⟩:=DataW.trod_int T7 T1
   simp at g
   rw[EI Y,g]at O
   have T4:IntKind.u16.min<=k/\k<=IntKind.u16.max:=by simpa[Lit.wf]using T8
   have T6:IntKind.u16.min=0:=rfl
   have T5:IntKind.u16.max=65535:=rfl
   have T3:0<=k/\k<65536:=by rw[T6,T5]at T4;omega
   obtain⟨x,rfl⟩:=Int.eq_ofNat_of_zero_le T3.1
   exact⟨x,Zo,O⟩)
  refine⟨(List.range len).map f,λc w=> ?_,Ef (ty:=ty) (fr:=fr) (a2:=a2) ap Zs ?_ Y ?_⟩
  ·obtain⟨i,ai,rfl⟩:=ZB.1 w
   exact(P i (List.mem_range.1 ai)).1
  ·intro v s
   obtain⟨r,_,rfl⟩:=ZB.1 s
   exact⟨λ_ _=>rfl,λ_=>trivial⟩
  ·intro i v ai
   have z:=(Zf.1 ai).1
   simp at z
   simp[z]at ai
   subst ai
   exact(P i z).2
set_option maxRecDepth 100000 in
def Eh{a:Type}{enc:TypeId×Value->a}{b:World}{base:Nat}{v:Value}{d:DataW a}{bE:List MemPlace}(s:Value.okWide Tryz.prog b .any base 5 v)(e:DataW.Trod enc Tryz.prog b 0 (λ_=>true) true 5 v d bE):∃f:Nat,f<256/\v= .int .u8 (f:Int):=by
 have c:Tryz.prog.underlying 5=some (.int .u8):=Zk
 obtain⟨fuel,i⟩:=e
 obtain⟨k,g,_,t⟩:=DataW.trod_int c i
 have n:IntKind.u8.min<=k/\k<=IntKind.u8.max:=by simpa[Lit.wf]using t
 have r:IntKind.u8.min=0:=rfl
 have p:IntKind.u8.max=255:=rfl
 have m:0<=k/\k<256:=by rw[r,p]at n;omega
 obtain⟨x,rfl⟩:=Int.eq_ofNat_of_zero_le m.1
 refine⟨x,Zo, ?_⟩
 simp only[Value.okWide,c,Cell.okWide]at s
 cases v<;>simp_all [Cell.ok,Value.cells]
end Go.Proofs.YtmipngjbcdamjaaGreatDoor

