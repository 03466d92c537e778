/- Part of the proof of the last text; no conditions -/
import Derived.Test.YtbbkkkpgjaopkaaGreatDoorYB
import Derived.LaidByTextLater
import Derived.LaidSub
import Derived.LaidOnce
import Derived.Test.YtbbkkkpgjaopkaaGreatDoorCards
import Derived.LaidMore
import Derived.OpenShut
import Derived.Stop.Joined
import Derived.SevenTiedAt
import Derived.Carry
import Derived.Deep.Slices
import Derived.Shelf.Bytes.SlIndexWhole
import Derived.Lib.IndexMore
import Derived.Lib.Bytes
set_option maxHeartbeats 8000000
set_option linter.all false
namespace Go.Proofs.YtbbkkkpgjaopkaaGreatDoor
open Go.ChangeShapes Go.WideShapes Go.ChangeAt Go.RowKit
def Tryz.own:ownKnob Tryz.prog.godebug=none:=Zk
def Tryz.laid:laidOutB Tryz.prog=true:=Zk
def aso:(Tryz.prog.funcs.toList.all λfn=> !fn.body.isSome|| !(fn.name== "runtime.NumGoroutine"))=true:=Zk
def asc:Tryz.prog.follows .mixedOrders=true:=Zk
def kg:Go.bs.wV Tryz.prog:=by
 refine⟨asc,λf fn bW al=> ?_⟩
 have bc:fn∈Tryz.prog.funcs.toList:=Array.mem_toList_iff.2 (zg bW)
 have a:=zm.1 aso fn bc
 rw[al]at a
 simpa using a
def Nb:Go.bs.yJ Tryz.prog nm:=by
 intro x af ab a6
 have af:x=((Tryz.prog.typeName? 3 176).getD "",176):=by simpa[nm]using af
 subst af
 exact typeName_ptr_named (nm:= "errors.errorString") Zk Zk Zd ab (a6.trans Zk)
def aqB:Extern.findNext Tryz.f99=none:=Zk
def aqA:Extern.find Tryz.f99=some Extern.BytealgIndexByte.indexByte:=Zk
noncomputable def rS:Nat->List Go.bs.y->Option Go.bs.y:=Go.bs.qG (Go.bs.wp 114 (Go.bs.wq 99)) [(6,[], .bool true)]
def ata{α eH:Type}{p ai:α×eH}{E:α}(D:ai=p)(a:ai.1=E):p=(E,ai.2):=by
 subst D;cases ai;cases a;rfl
def arS:Go.bs.gU Tryz.prog nm Rows.scopeSpoilsRow.laid Tryz.prog.globals.size=(21,ao.2):=ata (ai:=ao) rfl Gb
def ard:(Go.bs.gU Tryz.prog nm Rows.scopeSpoilsRow.laid Tryz.prog.globals.size).1=21:=by
 have a:=Gb
 unfold ao at a
 exact a
def are:Go.bs.nj (Go.bs.gU Tryz.prog nm Rows.scopeSpoilsRow.laid Tryz.prog.globals.size).2 .nil=fk:=by
 unfold fk ao
 rfl
def MM{f:Nat}{args:List Go.bs.y}{v:Go.bs.y}{W:Nat->List Go.bs.y->Option Go.bs.y}{m:Nat}(a:Go.bs.ym ⟨Tryz.prog,fk,21,W,Tryz.prog.globals.size⟩ m f args=some v):∃m,Go.bs.ym ⟨Tryz.prog,Go.bs.nj (Go.bs.gU Tryz.prog nm Rows.scopeSpoilsRow.laid Tryz.prog.globals.size).2 .nil,(Go.bs.gU Tryz.prog nm Rows.scopeSpoilsRow.laid Tryz.prog.globals.size).1,W,Tryz.prog.globals.size⟩ m f args=some v:=by
 rw[ard,are]
 exact⟨m,a⟩
def ada(f:Nat)(args:List Go.bs.y)(v:Go.bs.y)(a:rS f args=some v):Go.bs.qG gO [(6,[], .bool true)] f args=some v:=by
 unfold rS at a
 unfold Go.bs.qG at a ⊢
 cases aG:Go.bs.wd f args [(6,[],Go.bs.y.bool true)]with
 |some ab=>rw[aG]at a;exact a
 |none=>
  rw[aG]at a
  simp only at a ⊢
  unfold gO Go.bs.Np
  by_cases bW:f=21
  ·subst bW
   unfold Go.bs.wp Go.bs.wq at a
   simp[Go.bs.hn]at a
  ·have:Go.bs.sx f [21]=false:=by
    simp[Go.bs.sx]
    cases D:f.beq 21 with
    |false=>rfl
    |true=>exact absurd (Zl D) bW
   rw[this]
   exact a
def as6{w:World}(v1:Go.bs.G2 Tryz.prog w)(a:laidMet Tryz.prog Rows.scopeSpoilsRow.laid w)(C:Go.bs.aT)(bI:C.P=Tryz.prog)(bd:C.g4=rS):Go.bs.OB C w:=by
 obtain⟨aze,awE,akA⟩:=Go.bs.Env.aq8 Nb kg v1 Tryz.func99 Zk Zk aqB aqA a
 obtain⟨dB,dR,akz⟩:=Go.bs.Env.aq7 Nb Tryz.func114 Zk rfl Tryz.stringslite_Clone a akA
 obtain⟨wM,my,PL⟩:=Go.bs.Env.aq9 Nb (j6:=[21]) (k:=qV) a akz rfl (λx af=>by
  unfold qV at af
  simp only[Zr,ZN,Yw]at af
  rcases af with rfl|rfl|rfl
  ·exact MM avJ
  ·exact MM avK
  ·exact MM avL)
 have a8:=Go.bs.ac9 (k:=[(6,[], .bool true)]) PL rfl (λx af=>by
  rw[zu]at af
  subst af
  exact MM avC)
 obtain⟨P,G,aY,g4,pg⟩:=C
 have am4:P=Tryz.prog:=bI
 have FE:g4=rS:=bd
 subst am4 FE
 exact⟨λf args v bu=>a8.val f args v (ada f args v bu),λf args v bu=>a8.ok f args v (ada f args v bu)⟩
open Go.bs
def aiK:∀{s:List Nat},(∀c∈s,c<256)->w1 s=true:=by
 intro s
 induction s with
 |nil=>intro _;rfl
 |cons E s aj=>
  intro a
  have H:=a E (Zt ..)
  have bB:Nat.blt E 256=true:=by simp[Nat.blt];omega
  simp only[w1,bB,aj (λc aA=>a c (Zn _ aA)),YA]
def aqz:∀c<256,(decide (0<=x2 [32,9,10,13] c 0)==I8 c)=true:=by decide+kernel
def ac8{X:cl}(az:X.O=rS):f5 X:=by
 refine⟨⟨λf k bW=> ?_⟩,λc aA=> ?_,λs aE aB=> ?_⟩
 ·rw[az]
  have H:¬f=6/\¬f=114/\¬f=99:=by
   refine⟨λD=> ?_,λD=> ?_,λD=> ?_⟩<;>(subst D;cases bW)
  unfold rS qG
  simp only[wd,hn,H.1,ZD]
  unfold wp wq
  simp only[hn,H.2.1,H.2.2,ZD]
 ·refine⟨x2 [32,9,10,13] c 0, ?_, ?_⟩
  ·rw[az]
   have bB:w1 [32,9,10,13]=true:=rfl
   have cp:Nat.blt c 256=true:=by simp[Nat.blt];omega
   show rS 99 [.str [32,9,10,13], .int .u8 (.ofNat c)]=_
   unfold rS qG
   simp only[wd,hn]
   unfold wp wq
   simp[hn,bB,cp]
  ·have:=aqz c aA
   rw[Y2]at this
   rw[<-this];simp
 ·rw[az]
  have bB:=aiK aE
  have cp:Nat.ble s.length 281474976710656=true:=jP Zo
  unfold rS qG
  simp only[wd,hn]
  unfold wp
  simp[hn,bB,cp]
def aju:∀{s:List Nat},(∀c∈s,c<256)->w9 (s.map λc:Nat=>y.int .u8 (c:Int))=some s:=by
 intro s
 induction s with
 |nil=>intro _;rfl
 |cons E s aj=>
  intro a
  have H:=a E (Zt ..)
  have K:=aj (λc aA=>a c (Zn _ aA))
  show(match w9 (s.map λc:Nat=>y.int .u8 (c:Int))with|some r=>some (E%256::r)|none=>none)=_
  rw[K,Yv H]
def aux(w:World)(v1:G2 Tryz.prog w)(Fl:laidMet Tryz.prog Rows.scopeSpoilsRow.laid w){v0:Value}{xs:List Nat}{hb fX:Nat}(RX:hb<256)(xX:fX<256)(af:∀c∈xs,c<256)(bi:Eu w v0 1 (xs.map λc:Nat=>y.int .u8 (c:Int))):
 Calls Tryz.prog 4 #[v0, .agg #[.int .u8 (hb:Int), .int .u8 (fX:Int)]] w λD w'=>D= .returned (.bool true)/\Below w.heap.size w w':=by
 obtain⟨J,aa,a0,V,hM,iQ,aA,t0⟩:=ara Nb (g4:=rS) Fl arS bi
 generalize aB:(xs.map λc:Nat=>y.int .u8 (c:Int))=k at*
 have AF:k.length=xs.length:=by rw[<-aB,Zp]
 let X:cl:=⟨wo k fk 21,22,rS⟩
 have cz:Env X w J aa:=⟨kg,as6 v1 Fl X rfl rfl,V,hM,v1⟩
 have bN:rX X:=⟨rfl,λb al=>by
  show(wo k fk 21).get b=_
  unfold wo
  split
  ·rw[M.j7,Zg Zo]
  ·rfl⟩
 have aI:(o X).aY<=22:=Zj _
 have Df:(min (xs.length:Int) 5000)=((min xs.length 5000:Nat):Int):=Zo
 have uF:∃a7,fM a0=some (.int .i64 (xs.length:Int))/\(∀R,nN X R 1 a0 none (some (.int .i64 (min (xs.length:Int) 5000))) none=some a7)/\fM a7=some (.int .i64 ((xs.take 5000).length:Int))/\(∀R aS,bp X .nil 22 R aS->s9 X R a7=some (.str (xs.take 5000)))/\(xs.take 5000≠[]->∀R aS e (t:List Nat),bp X .nil 22 R aS->sZ X R e=some t->0<t.length->t.length<=1048576->Cp X R [a7,e]=some (.bool (oT t (xs.take 5000))))/\a0.cells=[a0]/\a7.cells=[a7]/\l3 a7=true:=by
  rw[Df]
  rcases t0 with ⟨rfl,a⟩|⟨len,cap,rfl,H,K,am⟩
  ·have AQ:xs=[]:=Yb (by rw[<-AF,a];rfl)
   subst AQ
   exact⟨.aW,rfl,λ_=>rfl,rfl,λ_ _ _=>rfl,λa=>absurd rfl a,rfl,rfl,rfl⟩
  ·rw[Yp,AF]at K
   subst K
   have bc:min xs.length 5000<=xs.length:=Nat.min_le_left _ _
   have υ:∀R aS,bp X .nil 22 R aS->ix X R 21 0 (min xs.length 5000)=some ((xs.take 5000).map λc:Nat=>y.int .u8 (c:Int)):=by
    intro R aS bP
    by_cases cf:xs.length=0
    ·have AQ:xs=[]:=Yb cf
     subst AQ
     simp only[ix]
     cases aA:cellsOf X R 21 with
     |none=>simp
     |some c=>simp[XF]
    ·have al:Z X R 21=some (.cells (M.ofList k 0 .nil) k.length .j1):=by
      rw[bP.ad 21 Zd]
      exact am (by rw[AF];omega)
     simp only[ix,cellsOf,al]
     rw[xr (lk k) _ _ (by rw[AF];omega), <-aB,Z9, <-List.map_take,Nat.min_comm]
     congr 2
     rw[List.take_eq_take_iff]
     simp
   refine⟨.slice 21 0 (min xs.length 5000) cap,rk ..,λR=> ?_, ?_,λR aS bP=> ?_,λcE R aS e ab bP B IV IW=> ?_,rfl,rfl,rfl⟩
   ·generalize min xs.length 5000=ai at bc
    have q5:Nat.ble ai cap=true:=jP Zo
    have key:md xs.length cap none (some (.int .i64 (ai:Int))) none=some (0,ai,cap):=by
     simp only[md,nK,sy,q5,eQ,ZE]
    simp only[nN,key]
    simp[eQ]
   ·rw[rk,YF,Nat.min_comm]
   ·show(match (match (y.slice 21 0 (min xs.length 5000) cap)with| .str s=>some (y.str s)|_=>none)with|some v=>some v|none=>EG X R (.slice 21 0 (min xs.length 5000) cap))=_
    simp only[EG]
    rw[υ R aS bP]
    simp only[aju (λc aA=>af c (Yr aA))]
   ·have hB:sZ X R (.slice 21 0 (min xs.length 5000) cap)=some (xs.take 5000):=by
     simp only[sZ,υ R aS bP]
     exact Wz _ (λc aA=>af c (Yr aA))
    have ay:0<min xs.length 5000:=by
     have:=ZH.2 cE
     rw[YF]at this;omega
    have anD:(Nat.ble (min xs.length 5000) cap&&Nat.blt 0 (min xs.length 5000)&&Nat.ble (min xs.length 5000) 1048576&&Nat.blt 0 ab.length&&Nat.ble ab.length 1048576)=true:=by
     simp only[Zq]
     exact⟨⟨⟨⟨jP Zo,by simp[Nat.blt];omega⟩,jP Zo⟩,by simp[Nat.blt];omega⟩,jP IW⟩
    show(match sZ X R (.slice 21 0 (min xs.length 5000) cap),sZ X R e with
     |some x,some t=>bH (Nat.ble (min xs.length 5000) cap&&Nat.blt 0 (min xs.length 5000)&&Nat.ble (min xs.length 5000) 1048576&&Nat.blt 0 t.length&&Nat.ble t.length 1048576) (m3 (oT t x)) none
     |_,_=>none)=_
    rw[hB,B]
    show bH (Nat.ble (min xs.length 5000) cap&&Nat.blt 0 (min xs.length 5000)&&Nat.ble (min xs.length 5000) 1048576&&Nat.blt 0 ab.length&&Nat.ble ab.length 1048576) (m3 (oT ab (xs.take 5000))) none=_
    rw[anD,eW]
    cases oT ab (xs.take 5000)<;>rfl
 obtain⟨a7,bS,ck,cM,eL,eM,dS,e1,fS⟩:=uF
 have QQ:=arb (X:=X) (h:= .nil) (j:=22) (ac8 rfl) (alX bN) (alS bN) (alT bN) (alV bN) (show rS 6 []=some (.bool true) by unfold rS qG;rfl) RX xX aI bS (by rw[YF];omega) (λc aA=>af c (Yr aA)) (λR _ _=>ck R) cM eL eM dS e1 fS
 have dE:ua X 4 [a0, .agg [.int .u8 (hb:Int), .int .u8 (fX:Int)]] .nil 22 (λab _ _=>ab= .bool true) (λ_ _ _=>False):=by
  refine(WC (show(o X).g4 4 [a0, .agg [.int .u8 (hb:Int), .int .u8 (fX:Int)]]=none from(ac8 (X:=X) rfl).none 4 [a0, .agg [.int .u8 (hb:Int), .int .u8 (fX:Int)]] rfl) QQ).mono (λab _ _ a=> ?_) (λ_ _ _ a=>a)
  rw[a.1]
 have a:=ajx cz (v:= .bool true) rfl (args:=[a0, .agg [.int .u8 (hb:Int), .int .u8 (fX:Int)]]) ⟨iQ.1,⟨trivial,trivial,trivial⟩,trivial⟩ dE
 rw[show bO J [a0, .agg [.int .u8 (hb:Int), .int .u8 (fX:Int)]]=[v0, .agg #[.int .u8 (hb:Int), .int .u8 (fX:Int)]] from by
  have pJ:aO J a0=v0:=by simpa[bO]using aA
  simp[bO,aO,pJ]]at a
 refine a.mono λD w' ⟨⟨c0,bt⟩,al⟩=>⟨?_,al⟩
 rw[bt];rfl
def ajz{bv:World}{cA off q:Nat}{cd:Array Value}{ty:TypeId}{fr:Nat×Nat}(al:bv.heap[cA]? =some (.cells cd ty fr)):bv.cell? ((⟨cA,off,none⟩:Addr).add q)=cd[off+q]? :=by
 unfold Addr.add World.cell?
 by_cases a:q=0
 ·subst a;simp[al]
 ·simp[a,al]
set_option maxRecDepth 100000 in
def auT{bv:World}{base t D:Nat}{E:Addr}{len cap:Nat}(a8:Tryz.prog.underlying t=some (.slice D))(bu:Value.okWide Tryz.prog bv .any base t (.slice (some E) len cap)):E.spot=none/\∃cd ty fr,bv.heap[E.block]? =some (.cells cd ty fr):=by
 simp only[Value.okWide,a8,Cell.okWide,Cell.ok,World.has]at bu
 obtain⟨_,_,_,H,row,cells,K,_⟩:=bu
 refine⟨H, ?_⟩
 unfold World.shape? at K
 split at K
 ·rename_i c tb fr al;exact⟨c,tb,fr,al⟩
 ·cases K
open Go.bs Go.Deep in
def aiX{w:World}{cA off len cap:Nat}{cd:Array Value}{ty:TypeId}{fr:Nat×Nat}(aB:len<=cap){k:List y}(uQ:k.length=len)(ay:T5 k)
 (al:w.heap[cA]? =some (.cells cd ty fr))(aA:∀(i:Nat) v,k[i]? =some v->cd[off+i]? =some (aO (λ_=>default) v)):Eu w (.slice (some ⟨cA,off,none⟩) len cap) 1 k:=by
 refine .inr ⟨cA,off,len,cap,cd,ty,fr,rfl,aB,Zo,ay,λa=>⟨al, ?_,aA⟩⟩
 have H:=aA (k.length-1) _ (Zf Zo)
 have K:off+(k.length-1)<cd.size:=by
  rcases Y8 (off+(k.length-1)) cd.size with a|a
  ·exact a
  ·rw[Array.getElem?_eq_none a]at H;cases H
 omega
open Go.bs Go.Deep in
set_option maxRecDepth 100000 in
def aiW{mc:Type}{enc:TypeId×Value->mc}{bv:World}{base:Nat}{v:Value}{d:DataW mc}{da:List MemPlace}(bu:Value.okWide Tryz.prog bv .any base 22 v)(a:DataW.Trod enc Tryz.prog bv 0 (λ_=>true) true 22 v d da):
 ∃xs:List Nat,(∀c∈xs,c<256)/\Eu bv v 1 (xs.map λc:Nat=>y.int .u8 (c:Int)):=by
 have a8:Tryz.prog.underlying 22=some (.slice 5):=Zk
 have aA:Tryz.prog.cellsOf 5=1:=Zk
 have a6:Tryz.prog.underlying 5=some (.int .u8):=Zk
 obtain⟨E,len,cap,rfl⟩:=okWide_slice a8 bu
 obtain⟨fuel,bW⟩:=a
 rcases open_slice1 a8 aA bW with ⟨hZ,_⟩|⟨gd,MQ,Cy,m,n,aq,awD,mz,hZ,_,aB,_,bc,_,af⟩
 ·simp[Value.cells]at hZ
  obtain⟨rfl,rfl,rfl⟩:=hZ
  exact⟨[],Zs, .inl ⟨rfl,rfl⟩⟩
 ·simp[Value.cells]at hZ
  obtain⟨rfl,rfl,rfl⟩:=hZ
  simp only[ZE]at bc
  subst bc
  obtain⟨nG,cd,ty,fr,al⟩:=auT a8 bu
  obtain⟨cA,off,spot⟩:=gd
  simp only at nG al
  subst nG
  obtain⟨f,aam⟩:=choose_lt (α:=Nat) (n:=len) (p:=λi x=>x<256/\cd[off+i]? =some (.int .u8 (x:Int))) (λi aF=>by
   obtain⟨H,K⟩:=af i Zo
   obtain⟨q,g,_,br⟩:=DataW.trod_int a6 K
   simp at g
   rw[ajz al,g]at H
   have C9:IntKind.u8.min<=q/\q<=IntKind.u8.max:=by simpa[Lit.wf]using br
   have Df:IntKind.u8.min=0:=rfl
   have tr:IntKind.u8.max=255:=rfl
   have aG:0<=q/\q<256:=by rw[Df,tr]at C9;omega
   obtain⟨x,rfl⟩:=Yc aG.1
   exact⟨x,Zo,H⟩)
  refine⟨(List.range len).map f,λc aA=> ?_,aiX (ty:=ty) (fr:=fr) (cd:=cd) aB Zs ?_ al ?_⟩
  ·obtain⟨i,aF,rfl⟩:=ZC.1 aA
   exact(aam i (List.mem_range.1 aF)).1
  ·intro v bu
   obtain⟨r,_,rfl⟩:=ZC.1 bu
   exact⟨λ_ _=>rfl,λ_=>trivial⟩
  ·intro i v aF
   have jC:=(Zb.1 aF).1
   simp at jC
   simp[jC]at aF
   subst aF
   exact(aam i jC).2
set_option maxRecDepth 100000 in
def aiY{mc:Type}{enc:TypeId×Value->mc}{bv:World}{base:Nat}{v:Value}{d:DataW mc}{da:List MemPlace}(bu:Value.okWide Tryz.prog bv .any base 45 v)(a:DataW.Trod enc Tryz.prog bv 0 (λ_=>true) true 45 v d da):
 ∃hb fX:Nat,hb<256/\fX<256/\v= .agg #[.int .u8 (hb:Int), .int .u8 (fX:Int)]:=by
 have a8:Tryz.prog.underlying 45=some (.array 2 5):=Zk
 have aA:Tryz.prog.cellsOf 5=1:=Zk
 have a6:Tryz.prog.underlying 5=some (.int .u8):=Zk
 have aE:Tryz.prog.cellsOf 45=2:=Zk
 obtain⟨cs,rfl,eh⟩:∃cs:Array Value,v= .agg cs/\cs.size=2:=by
  simp only[Value.okWide,a8]at bu
  obtain⟨cs,H,K,_⟩:=bu
  exact⟨cs,H,by rw[K,aE]⟩
 obtain⟨fuel,bW⟩:=a
 obtain⟨xs,m,_,_,_,aB,af⟩:=DataW.trod_array a8 bW
 obtain⟨E,b,rfl⟩:∃E b,cs= #[E,b]:=by
  obtain⟨k⟩:=cs
  match k,eh with
  |[E,b],_=>exact⟨E,b,rfl⟩
 have key:∀(i:Nat) (c:Value),i<2->(#[E,b]:Array Value)[i]? =some c->∃x:Nat,x<256/\c= .int .u8 (x:Int):=by
  intro i c aF LU
  have K:=af i aF
  rw[aA,Zf Zo]at K
  obtain⟨q,g,_,br⟩:=DataW.trod_int a6 K
  have g:c= .int .u8 q:=by
   match i,aF with
   |0,_=>simp[Value.cells]at g LU;rw[<-LU];exact g
   |1,_=>simp[Value.cells]at g LU;rw[<-LU];exact g
  have C9:IntKind.u8.min<=q/\q<=IntKind.u8.max:=by simpa[Lit.wf]using br
  have Df:IntKind.u8.min=0:=rfl
  have tr:IntKind.u8.max=255:=rfl
  have aG:0<=q/\q<256:=by rw[Df,tr]at C9;omega
  obtain⟨x,rfl⟩:=Yc aG.1
  exact⟨x,Zo,g⟩
 obtain⟨hb,bi,PH⟩:=key 0 E Zo rfl
 obtain⟨fX,H,bB⟩:=key 1 b Zo rfl
 exact⟨hb,fX,bi,H,by rw[PH,bB]⟩
end Go.Proofs.YtbbkkkpgjaopkaaGreatDoor

namespace Go.Proofs
open Go.Shelf
def Tryz.ace:Go.Shelf.Ren:=⟨fun|186=>11|185=>28|187=>45|115=>46|253=>47|224=>48|254=>49|255=>77|291=>78|n=>n,fun|37=>22|4=>4|3=>3|0=>0|5=>5|46=>109|9=>9|146=>137|51=>136|n=>n,fun|1=>0|n=>n⟩
def Tryz.acd:Go.Proofs.LaysM.n186 Tryz.prog Tryz.ace:={
 mixed:=Zk
 f115:=Tryz.func46.trans (congrArg some Zk)
 f185:=Tryz.func28.trans (congrArg some Zk)
 f186:=Tryz.func11.trans (congrArg some Zk)
 f187:=Tryz.func45.trans (congrArg some Zk)
 f224:=Tryz.func48.trans (congrArg some Zk)
 f253:=Tryz.func47.trans (congrArg some Zk)
 f254:=Tryz.func49.trans (congrArg some Zk)
 f255:=Tryz.func77.trans (congrArg some Zk)
 f291:=Tryz.func78.trans (congrArg some Zk)
 t0:=Tryz.underlying0
 a0:=Tryz.isAgg0
 z0:=Tryz.sizeOf0
 v0:=Tryz.zeroValue0
 t3:=Tryz.underlying3
 a3:=Tryz.isAgg3
 z3:=Tryz.sizeOf3
 v3:=Tryz.zeroValue3
 t4:=Tryz.underlying4
 a4:=Tryz.isAgg4
 z4:=Tryz.sizeOf4
 v4:=Tryz.zeroValue4
 t5:=Tryz.underlying5
 a5:=Tryz.isAgg5
 z5:=Tryz.sizeOf5
 v5:=Tryz.zeroValue5
 t9:=Tryz.underlying9
 a9:=Tryz.isAgg9
 z9:=Tryz.sizeOf9
 v9:=Tryz.zeroValue9
 t37:=Tryz.underlying22
 a37:=Tryz.isAgg22
 z37:=Tryz.sizeOf22
 v37:=Tryz.zeroValue22
 t46:=Tryz.underlying109
 a46:=Tryz.isAgg109
 z46:=Tryz.sizeOf109
 v46:=Tryz.zeroValue109
 t51:=Tryz.underlying136
 a51:=Tryz.isAgg136
 z51:=Tryz.sizeOf136
 v51:=Tryz.zeroValue136
 t146:=Tryz.underlying137
 a146:=Tryz.isAgg137
 z146:=Tryz.sizeOf137
 v146:=Tryz.zeroValue137
 g1:=Zk
 i0:=Zk
 i3:=Zk
 i4:=Zk
 i5:=Zk
 i9:=Zk
 i37:=Zk
 i46:=Zk
 i51:=Zk
 i146:=Zk
 m1:=Zk
 s1_3:=λw a=>Go.Proofs.cell_of_shapedOpen_int (zero:= #[.int .i64 0]) (t:=3) a (zy Zk) Zk rfl Zk Zk Tryz.underlying3}
end Go.Proofs

namespace Go.bs
def aqs:∀(fJ xs:List Nat),(∀x∈xs,x<256)->(∀e∈fJ,e<256)->(fJ.map UInt8.ofNat).isPrefixOf (xs.map UInt8.ofNat)=tR fJ xs:=by
 intro fJ
 induction fJ with
 |nil=>intro xs _ _;simp[tR]
 |cons E fJ aj=>
  intro xs af B
  cases xs with
  |nil=>simp[tR,List.isPrefixOf]
  |cons b xs=>
   have aD:=B E (Zt ..)
   have al:=af b (Zt ..)
   have D:(UInt8.ofNat E==UInt8.ofNat b)=Nat.beq E b:=by
    rw[Z7,Y2,Nat.beq_eq]
    constructor
    ·intro a
     have:=congrArg UInt8.toNat a
     simpa[UInt8.toNat_ofNat',Yv aD,Yv al]using this
    ·intro a;rw[a]
   rw[ZJ,ZJ,List.isPrefixOf_cons₂,D,aj xs (λx a=>af x (Zn _ a)) (λe a=>B e (Zn _ a))]
   rfl
def ary(fJ:List Nat)(B:∀e∈fJ,e<256):∀xs:List Nat,(∀x∈xs,x<256)->decide (0<=Lib.index (xs.map UInt8.ofNat) (fJ.map UInt8.ofNat))=oT fJ xs:=by
 intro xs
 induction xs with
 |nil=>
  intro _
  cases fJ with
  |nil=>rfl
  |cons E fJ=>simp[Lib.index,oT,tR]
 |cons b xs aj=>
  intro af
  have aj:=aj λx a=>af x (Zn _ a)
  have ay:=aqs fJ (b::xs) af B
  rw[ZJ]at ay ⊢
  rw[Lib.index,ay,oT, <-aj]
  have vW:=Lib.index_ge (xs.map UInt8.ofNat) (fJ.map UInt8.ofNat)
  cases tR fJ (b::xs)with
  |true=>simp
  |false=>
   simp only[Zv,ZD,Bool.false_or]
   apply decide_eq_decide.2
   generalize Lib.index (xs.map UInt8.ofNat) (fJ.map UInt8.ofNat)=i at vW
   by_cases a:i= -1
   ·subst a;simp
   ·rw[Zg (by simpa using a)];omega
def arx{fJ xs:List Nat}(af:∀x∈xs,x<256)(B:∀e∈fJ,e<256):Lib.contains (Lib.bytesOf (xs.map λn:Nat=>(n:Int))) (Lib.bytesOf (fJ.map λn:Nat=>(n:Int)))=oT fJ xs:=by
 have D:∀k:List Nat,Lib.bytesOf (k.map λn:Nat=>(n:Int))=k.map UInt8.ofNat:=λk=>by simp[Lib.bytesOf,Function.comp_def]
 rw[D,D,Lib.contains]
 exact ary fJ B xs af
end Go.bs

namespace Go.Proofs.YtbbkkkpgjaopkaaGreatDoor
open Go.bs
def ank:(Tryz.prog.funcs.toList.zipIdx.all λp=> !(p.1.name== "bytes.Contains")||Nat.beq p.2 11)=true:=Zk
def ajA{w:World}{E:Addr}{v:Value}(a:w.cell? E=some v):E.block<w.heap.size:=by
 rcases Y8 E.block w.heap.size with ai|ai
 ·exact ai
 ·unfold World.cell? at a;simp[Array.getElem?_eq_none ai]at a
def aky{P:Program}{bX:Nat}{fn:Func}{c:Code}{args:Array Value}{w:World}(bW:P.funcs[bX]? =some fn)(aI:(fn.name== "runtime.NumGoroutine")=false)(al:fn.body=some c):(callFunc bX args).run P w= .ok (.enter bX args) w:=by
 have v2:¬fn.name= "runtime.NumGoroutine":=by simpa using aI
 simp[callFunc,bW,v2,al]
def ar7{aZ:World}(bi:aZ.ShapedOpen Tryz.prog):G2 Tryz.prog aZ:=by
 intro f fn bW gy w a7 b2 dl dx xs fJ al af B H K aA axG axH _
 have D:f=11:=by
  have bc:(fn,f)∈Tryz.prog.funcs.toList.zipIdx:=by
   rw[List.mem_zipIdx_iff_getElem?,ZO];exact bW
  have:=zm.1 ank _ bc
  simpa[gy]using this
 subst D
 have Iv:=Ym (Tryz.func11.symm.trans bW)
 subst Iv
 obtain⟨m,bc⟩:=Tryz.acd.s1_3 aZ bi
 have aoJ:w.cell? ⟨Tryz.ace.g 1,0,none⟩=some (.int .i64 m):=by
  rw[al.cell (ajA bc)];exact bc
 have lV:∀(E:Addr) (k:List Nat),(∀i x,k[i]? =some x->w.cell? (E.add i)=some (.int .u8 (Int.ofNat x)))->∀i,i<k.length->w.cell? (E.add i)=some (.int .u8 ((k.map λn:Nat=>(n:Int)).getD i 0)):=λE k a i aF=>by
  rw[a i _ (Zf aF)]
  simp[List.getD,aF]
 have V:∀k:List Nat,(∀x∈k,x<256)->∀x∈k.map (λn:Nat=>(n:Int)),0<=x/\x<256:=λk a x af=>by
  obtain⟨n,aI,rfl⟩:=ZC.1 af
  have:=a n aI
  constructor<;>omega
 have QQ:=Any.bytes_Contains_at {Tryz.acd with} a7 b2 xs.length dl fJ.length dx (xs.map λn:Nat=>(n:Int)) (fJ.map λn:Nat=>(n:Int)) m w Zs Zs (V xs af) (V fJ B) (lV a7 xs H) (lV b2 fJ K) aA Zo Zo aoJ
 refine⟨aky Tryz.func11 Zk rfl,Calls.mono (show Calls Tryz.prog 11 _ w _ from QQ) λD w' ⟨bt,ai,bG⟩=>⟨?_, ?_⟩⟩
 ·rw[bt,arx af B]
 ·subst bG;exact⟨rfl,rfl,rfl,Zj _,λ_ _=>rfl⟩
end Go.Proofs.YtbbkkkpgjaopkaaGreatDoor

