/- Part of the proof of the last text; no conditions -/
import Derived.Test.YtbbkkkpgjaopkaaGreatDoorYu
import Derived.LaidByTextLater
import Derived.LaidSub
import Derived.LaidOnce
import Derived.Test.YtbbkkkpgjaopkaaGreatDoorCards
import Derived.LaidMore
import Derived.OpenShut
import Derived.Stop.Joined
import Derived.SevenTiedAt
import Derived.Carry
import Derived.Deep.Slices
set_option maxHeartbeats 8000000
set_option linter.all false
namespace Go.Proofs.YtbbkkkpgjaopkaaGreatDoor
open Go.ChangeShapes Go.WideShapes Go.ChangeAt Go.RowKit
def Tryz.own:ownKnob Tryz.prog.godebug=none:=Zk
def Tryz.laid:laidOutB Tryz.prog=true:=Zk
def arw:(Tryz.prog.funcs.toList.all λfn=> !fn.body.isSome|| !(fn.name== "runtime.NumGoroutine"))=true:=Zk
def arp:Tryz.prog.follows .mixedOrders=true:=Zk
def jM:Go.bp.wg Tryz.prog:=by
 refine⟨arp,λf fn ch aj=> ?_⟩
 have aX:fn∈Tryz.prog.funcs.toList:=Array.mem_toList_iff.2 (Y8 ch)
 have a:=YG.1 arw fn aX
 rw[aj]at a
 simpa using a
def Mt:Go.bp.x3 Tryz.prog nm:=by
 intro x af aa aU
 have af:x=((Tryz.prog.typeName? 3 176).getD "",176):=by simpa[nm]using af
 subst af
 exact typeName_ptr_named (nm:= "errors.errorString") Zk Zk Zd aa (aU.trans Zk)
def apT:Extern.findNext Tryz.f99=none:=Zk
def apS:Extern.find Tryz.f99=some Extern.BytealgIndexByte.indexByte:=Zk
noncomputable def rg:Nat->List Go.bp.z->Option Go.bp.z:=Go.bp.qk (Go.bp.vK 114 (Go.bp.vL 99)) [(6,[], .bool true)]
def asn{α d8:Type}{p al:α×d8}{D:α}(B:al=p)(a:al.1=D):p=(D,al.2):=by
 subst B;cases al;cases a;rfl
def aq6:Go.bp.gF Tryz.prog nm Rows.scopeRenamesRow.laid Tryz.prog.globals.size=(21,am.2):=asn (al:=am) rfl Fl
def aqq:(Go.bp.gF Tryz.prog nm Rows.scopeRenamesRow.laid Tryz.prog.globals.size).1=21:=by
 have a:=Fl
 unfold am at a
 exact a
def aqr:Go.bp.mH (Go.bp.gF Tryz.prog nm Rows.scopeRenamesRow.laid Tryz.prog.globals.size).2 .nil=e9:=by
 unfold e9 am
 rfl
def L9{f:Nat}{args:List Go.bp.z}{v:Go.bp.z}{V:Nat->List Go.bp.z->Option Go.bp.z}{m:Nat}(a:Go.bp.xE ⟨Tryz.prog,e9,21,V,Tryz.prog.globals.size⟩ m f args=some v):∃m,Go.bp.xE ⟨Tryz.prog,Go.bp.mH (Go.bp.gF Tryz.prog nm Rows.scopeRenamesRow.laid Tryz.prog.globals.size).2 .nil,(Go.bp.gF Tryz.prog nm Rows.scopeRenamesRow.laid Tryz.prog.globals.size).1,V,Tryz.prog.globals.size⟩ m f args=some v:=by
 rw[aqq,aqr]
 exact⟨m,a⟩
def acz(f:Nat)(args:List Go.bp.z)(v:Go.bp.z)(a:rg f args=some v):Go.bp.qk gH [(6,[], .bool true)] f args=some v:=by
 unfold rg at a
 unfold Go.bp.qk at a ⊢
 cases aG:Go.bp.vz f args [(6,[],Go.bp.z.bool true)]with
 |some aa=>rw[aG]at a;exact a
 |none=>
  rw[aG]at a
  simp only at a ⊢
  unfold gH Go.bp.MD
  by_cases ch:f=21
  ·subst ch
   unfold Go.bp.vK Go.bp.vL at a
   simp[Go.bp.hw]at a
  ·have:Go.bp.r0 f [21]=false:=by
    simp[Go.bp.r0]
    cases B:f.beq 21 with
    |false=>rfl
    |true=>exact absurd (Zj B) ch
   rw[this]
   exact a
def ash{w:World}(a:laidMet Tryz.prog Rows.scopeRenamesRow.laid w)(C:Go.bp.aM)(b1:C.P=Tryz.prog)(bb:C.gS=rg):Go.bp.NL C w:=by
 obtain⟨ayt,avY,ajX⟩:=Go.bp.Env.aql Mt jM Tryz.func99 Zk Zk apT apS a
 obtain⟨dx,dE,ajW⟩:=Go.bp.Env.aqk Mt Tryz.func114 Zk rfl Tryz.stringslite_Clone a ajX
 obtain⟨v7,lS,OR⟩:=Go.bp.Env.aqm Mt (jE:=[21]) (k:=qz) a ajW rfl (λx af=>by
  unfold qz at af
  simp only[Zq,ZJ,Yn]at af
  rcases af with rfl|rfl|rfl
  ·exact L9 avb
  ·exact L9 avc
  ·exact L9 avd)
 have aZ:=Go.bp.acy (k:=[(6,[], .bool true)]) OR rfl (λx af=>by
  rw[List.mem_singleton]at af
  subst af
  exact L9 au6)
 obtain⟨P,G,a6,gS,oS⟩:=C
 have Ht:P=Tryz.prog:=b1
 have EK:gS=rg:=bb
 subst Ht EK
 exact⟨λf args v bt=>aZ.val f args v (acz f args v bt),λf args v bt=>aZ.ok f args v (acz f args v bt)⟩
open Go.bp
def ah7:∀{s:List Nat},(∀c∈s,c<256)->wn s=true:=by
 intro s
 induction s with
 |nil=>intro _;rfl
 |cons D s ah=>
  intro a
  have I:=a D (Zv ..)
  have bA:Nat.blt D 256=true:=by simp[Nat.blt];omega
  simp only[wn,bA,ah (λc ay=>a c (Zt _ ay)),Yu]
def apR:∀c<256,(decide (0<=xm [32,9,10,13] c 0)==It c)=true:=by decide+kernel
def acx{X:cn}(aB:X.O=rg):ix X:=by
 refine⟨⟨λf k ch=> ?_⟩,λc ay=> ?_,λs aD az=> ?_⟩
 ·rw[aB]
  have I:¬f=6/\¬f=114/\¬f=99:=by
   refine⟨λB=> ?_,λB=> ?_,λB=> ?_⟩<;>(subst B;cases ch)
  unfold rg qk
  simp only[vz,hw,I.1,ZD]
  unfold vK vL
  simp only[hw,I.2.1,I.2.2,ZD]
 ·refine⟨xm [32,9,10,13] c 0, ?_, ?_⟩
  ·rw[aB]
   have bA:wn [32,9,10,13]=true:=rfl
   have cg:Nat.blt c 256=true:=by simp[Nat.blt];omega
   show rg 99 [.str [32,9,10,13], .int .u8 (.ofNat c)]=_
   unfold rg qk
   simp only[vz,hw]
   unfold vK vL
   simp[hw,bA,cg]
  ·have:=apR c ay
   rw[Y1]at this
   rw[<-this];simp
 ·rw[aB]
  have bA:=ah7 aD
  have cg:Nat.ble s.length 281474976710656=true:=jV Zo
  unfold rg qk
  simp only[vz,hw]
  unfold vK
  simp[hw,bA,cg]
def aiT:∀{s:List Nat},(∀c∈s,c<256)->wu (s.map λc:Nat=>z.int .u8 (c:Int))=some s:=by
 intro s
 induction s with
 |nil=>intro _;rfl
 |cons D s ah=>
  intro a
  have I:=a D (Zv ..)
  have M:=ah (λc ay=>a c (Zt _ ay))
  show(match wu (s.map λc:Nat=>z.int .u8 (c:Int))with|some r=>some (D%256::r)|none=>none)=_
  rw[M,YE I]
def at0(w:World)(yG:laidMet Tryz.prog Rows.scopeRenamesRow.laid w){v0:Value}{b9:List Nat}(af:∀c∈b9,c<256)(a2:DA w v0 1 (b9.map λc:Nat=>z.int .u8 (c:Int))):
 Calls Tryz.prog 3 #[v0] w λB bO=>B= .returned (.bool true)/\Below w.heap.size w bO:=by
 obtain⟨J,Y,a0,U,hp,ja,ay,t0⟩:=aqn Mt (gS:=rg) yG aq6 a2
 generalize az:(b9.map λc:Nat=>z.int .u8 (c:Int))=k at*
 have sL:k.length=b9.length:=by rw[<-az,Zr]
 let X:cn:=⟨vJ k e9 21,22,rg⟩
 have cA:Env X w J Y:=⟨jM,ash yG X rfl rfl,U,hp⟩
 have bI:rk X:=⟨rfl,λb aj=>by
  show(vJ k e9 21).get b=_
  unfold vJ
  split
  ·rw[R.jF,Zg Zo]
  ·rfl⟩
 have aL:(q X).a6<=22:=Zi _
 have H3:(min (b9.length:Int) 5000)=((min b9.length 5000:Nat):Int):=Zo
 have t7:∃bm,gl a0=some (.int .i64 (b9.length:Int))/\xK X .nil 1 a0 none (some (.int .i64 (min (b9.length:Int) 5000))) none=some bm/\gl bm=some (.int .i64 ((b9.take 5000).length:Int))/\∀S aQ,bD X .nil 22 S aQ->ym X S bm=some (.str (b9.take 5000)):=by
  rw[H3]
  rcases t0 with ⟨rfl,a⟩|⟨len,cap,rfl,I,M,ak⟩
  ·have y3:b9=[]:=Yd (by rw[<-sL,a];rfl)
   subst y3
   exact⟨.aV,rfl,rfl,rfl,λ_ _ _=>rfl⟩
  ·rw[Yc,sL]at M
   subst M
   have aX:min b9.length 5000<=b9.length:=Nat.min_le_left _ _
   refine⟨.slice 21 0 (min b9.length 5000) cap,sY .., ?_, ?_,λS aQ bZ=> ?_⟩
   ·generalize min b9.length 5000=al at aX
    have sE:Nat.ble al cap=true:=jV Zo
    have key:nw b9.length cap none (some (.int .i64 (al:Int))) none=some (0,al,cap):=by
     simp only[nw,qh,qT,sE,eU,ZE]
    simp only[xK,key]
    simp[eU]
   ·rw[sY,Ym,Nat.min_comm]
   ·show(
     match (match (z.slice 21 0 (min b9.length 5000) cap)with| .str s=>some (z.str s)|_=>none)with|some v=>some v|none=>DM X S (.slice 21 0 (min b9.length 5000) cap))=_
    simp only[DM]
    have amK:mo X S 21 0 (min b9.length 5000)=some ((b9.take 5000).map λc:Nat=>z.int .u8 (c:Int)):=by
     by_cases ce:b9.length=0
     ·have y3:b9=[]:=Yd ce
      subst y3
      simp only[mo]
      cases ay:cellsOf X S 21 with
      |none=>simp
      |some c=>simp[W2]
     ·have aj:Z X S 21=some (.cells (R.ofList k 0 .nil) k.length .jA):=by
       rw[bZ.ad 21 Zd]
       exact ak (by rw[sL];omega)
      simp only[mo,cellsOf,aj]
      rw[W1 (pt k) _ _ (by rw[sL];omega), <-az,Ya, <-List.map_take,Nat.min_comm]
      congr 2
      rw[List.take_eq_take_iff]
      simp
    rw[amK]
    simp only[aiT (λc ay=>af c (zc ay))]
 obtain⟨bm,bM,cq,df,fb⟩:=t7
 have amL:=aqo (X:=X) (h:= .nil) (j:=22) (acx rfl) (ald bI) (ak8 bI) (ak9 bI) (alb bI) (show rg 6 []=some (.bool true) by unfold rg qk;rfl) aL bM (by rw[Ym];omega) (λc ay=>af c (zc ay)) cq df fb
 have fs:tk X 3 [a0] .nil 22 (λaa _ _=>aa= .bool true) zK:=by
  refine(VT (show(q X).gS 3 [a0]=none from(acx (X:=X) rfl).none 3 [a0] rfl) amL).mono (λaa _ _ a=> ?_) (λ_ _ _ a=>a)
  rw[a.1]
 have a:=aiX cA (v:= .bool true) rfl ja fs
 rw[ay]at a
 refine a.mono λB bO ⟨⟨cX,bl⟩,aj⟩=>⟨?_,aj⟩
 rw[bl];rfl
def ai0{bu:World}{cz off o:Nat}{b7:Array Value}{ty:TypeId}{fr:Nat×Nat}(aj:bu.heap[cz]? =some (.cells b7 ty fr)):bu.cell? ((⟨cz,off,none⟩:Addr).add o)=b7[off+o]? :=by
 unfold Addr.add World.cell?
 by_cases a:o=0
 ·subst a;simp[aj]
 ·simp[a,aj]
set_option maxRecDepth 100000 in
def aul{bu:World}{base t B:Nat}{D:Addr}{len cap:Nat}(aZ:Tryz.prog.underlying t=some (.slice B))(bt:Value.okWide Tryz.prog bu .any base t (.slice (some D) len cap)):D.spot=none/\∃b7 ty fr,bu.heap[D.block]? =some (.cells b7 ty fr):=by
 simp only[Value.okWide,aZ,Cell.okWide,Cell.ok,World.has]at bt
 obtain⟨_,_,_,I,row,cells,M,_⟩:=bt
 refine⟨I, ?_⟩
 unfold World.shape? at M
 split at M
 ·rename_i c sw fr aj;exact⟨c,sw,fr,aj⟩
 ·cases M
open Go.bp Go.Deep in
def aij{w:World}{cz off len cap:Nat}{b7:Array Value}{ty:TypeId}{fr:Nat×Nat}(az:len<=cap){k:List z}(rP:k.length=len)(av:Tr k)
 (aj:w.heap[cz]? =some (.cells b7 ty fr))(ay:∀(i:Nat) v,k[i]? =some v->b7[off+i]? =some (aJ (λ_=>default) v)):DA w (.slice (some ⟨cz,off,none⟩) len cap) 1 k:=by
 refine .inr ⟨cz,off,len,cap,b7,ty,fr,rfl,az,Zo,av,λa=>⟨aj, ?_,ay⟩⟩
 have I:=ay (k.length-1) _ (Zf Zo)
 have M:off+(k.length-1)<b7.size:=by
  rcases ze (off+(k.length-1)) b7.size with a|a
  ·exact a
  ·rw[Array.getElem?_eq_none a]at I;cases I
 omega
open Go.bp Go.Deep in
set_option maxRecDepth 100000 in
def aii{o8:Type}{enc:TypeId×Value->o8}{bu:World}{base:Nat}{v:Value}{d:DataW o8}{db:List MemPlace}(bt:Value.okWide Tryz.prog bu .any base 22 v)(a:DataW.Trod enc Tryz.prog bu 0 (λ_=>true) true 22 v d db):
 ∃b9:List Nat,(∀c∈b9,c<256)/\DA bu v 1 (b9.map λc:Nat=>z.int .u8 (c:Int)):=by
 have aZ:Tryz.prog.underlying 22=some (.slice 5):=Zk
 have ay:Tryz.prog.cellsOf 5=1:=Zk
 have aU:Tryz.prog.underlying 5=some (.int .u8):=Zk
 obtain⟨D,len,cap,rfl⟩:=okWide_slice aZ bt
 obtain⟨fuel,ch⟩:=a
 rcases open_slice1 aZ ay ch with ⟨hA,_⟩|⟨fK,axO,Kg,m,n,an,avX,lU,hA,_,az,_,aX,_,af⟩
 ·simp[Value.cells]at hA
  obtain⟨rfl,rfl,rfl⟩:=hA
  exact⟨[],Zs, .inl ⟨rfl,rfl⟩⟩
 ·simp[Value.cells]at hA
  obtain⟨rfl,rfl,rfl⟩:=hA
  simp only[ZE]at aX
  subst aX
  obtain⟨y0,b7,ty,fr,aj⟩:=aul aZ bt
  obtain⟨cz,off,spot⟩:=fK
  simp only at y0 aj
  subst y0
  obtain⟨f,X3⟩:=choose_lt (α:=Nat) (n:=len) (p:=λi x=>x<256/\b7[off+i]? =some (.int .u8 (x:Int))) (λi aE=>by
   obtain⟨I,M⟩:=af i Zo
   obtain⟨o,g,_,bQ⟩:=DataW.trod_int aU M
   simp at g
   rw[ai0 aj,g]at I
   have Qk:IntKind.u8.min<=o/\o<=IntKind.u8.max:=by simpa[Lit.wf]using bQ
   have H3:IntKind.u8.min=0:=rfl
   have vo:IntKind.u8.max=255:=rfl
   have aG:0<=o/\o<256:=by rw[H3,vo]at Qk;omega
   obtain⟨x,rfl⟩:=Yb aG.1
   exact⟨x,Zo,I⟩)
  refine⟨(List.range len).map f,λc ay=> ?_,aij (ty:=ty) (fr:=fr) (b7:=b7) az Zs ?_ aj ?_⟩
  ·obtain⟨i,aE,rfl⟩:=ZK.1 ay
   exact(X3 i (List.mem_range.1 aE)).1
  ·intro v bt
   obtain⟨r,_,rfl⟩:=ZK.1 bt
   exact⟨λ_ _=>rfl,λ_=>trivial⟩
  ·intro i v aE
   have jt:=(Zb.1 aE).1
   simp at jt
   simp[jt]at aE
   subst aE
   exact(X3 i jt).2
end Go.Proofs.YtbbkkkpgjaopkaaGreatDoor

