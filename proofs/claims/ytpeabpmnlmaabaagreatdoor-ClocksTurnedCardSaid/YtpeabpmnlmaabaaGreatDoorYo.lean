/- Part of the proof of the last text; no conditions -/
import Derived.Test.YtpeabpmnlmaabaaGreatDoorYn
import Derived.LaidByTextLater
import Derived.LaidSub
import Derived.LaidOnce
import Derived.Test.YtpeabpmnlmaabaaGreatDoorCards
import Derived.LaidMore
import Derived.OpenShut
import Derived.Stop.Joined
import Derived.SevenTiedAt
import Derived.Carry
import Derived.Deep.Slices
set_option maxHeartbeats 8000000
set_option linter.all false
namespace Go.Proofs.YtpeabpmnlmaabaaGreatDoor
open Go.ChangeShapes Go.WideShapes Go.ChangeAt Go.RowKit
def Tryz.own:ownKnob Tryz.prog.godebug=none:=Zk
def Tryz.laid:laidOutB Tryz.prog=true:=Zk
def az2:(Tryz.prog.funcs.toList.all λfn=> !fn.body.isSome|| !(fn.name== "runtime.NumGoroutine"))=true:=Zk
def azK:Tryz.prog.follows .mixedOrders=true:=Zk
def k0:Go.bg.yS Tryz.prog:=by
 refine⟨azK,λf fn b4 aj=> ?_⟩
 have bn:fn∈Tryz.prog.funcs.toList:=Array.mem_toList_iff.2 (Y9 b4)
 have a:=Ym.1 az2 fn bn
 rw[aj]at a
 simpa using a
def Qn:Go.bg.BK Tryz.prog nm:=by
 intro x af ac bc
 have af:x=((Tryz.prog.typeName? 3 206).getD "",206):=by simpa[nm]using af
 subst af
 exact typeName_ptr_named (nm:= "errors.errorString") Zk Zk Zd ac (bc.trans Zk)
def ax7:Extern.findNext Tryz.f108=none:=Zk
def ax6:Extern.find Tryz.f108=some Extern.BytealgIndexByte.indexByte:=Zk
noncomputable def tk:Nat->List Go.bg.E->Option Go.bg.E:=Go.bg.rV (Go.bg.yl 129 (Go.bg.ym 108)) [(7,[], .bool true)]
def aBd{α eU:Type}{p ak:α×eU}{F:α}(D:ak=p)(a:ak.1=F):p=(F,ak.2):=by
 subst D;cases ak;cases a;rfl
def azu:Go.bg.ho Tryz.prog nm Rows.clocksTurnedRow.laid Tryz.prog.globals.size=(22,aq.2):=aBd (ak:=aq) rfl IT
def ayR:(Go.bg.ho Tryz.prog nm Rows.clocksTurnedRow.laid Tryz.prog.globals.size).1=22:=by
 have a:=IT
 unfold aq at a
 exact a
def ayS:Go.bg.ob (Go.bg.ho Tryz.prog nm Rows.clocksTurnedRow.laid Tryz.prog.globals.size).2 .nil=fM:=by
 unfold fM aq
 rfl
def P1{f:Nat}{args:List Go.bg.E}{v:Go.bg.E}{T:Nat->List Go.bg.E->Option Go.bg.E}{m:Nat}(a:Go.bg.Bl ⟨Tryz.prog,fM,22,T,Tryz.prog.globals.size⟩ m f args=some v):∃m,Go.bg.Bl ⟨Tryz.prog,Go.bg.ob (Go.bg.ho Tryz.prog nm Rows.clocksTurnedRow.laid Tryz.prog.globals.size).2 .nil,(Go.bg.ho Tryz.prog nm Rows.clocksTurnedRow.laid Tryz.prog.globals.size).1,T,Tryz.prog.globals.size⟩ m f args=some v:=by
 rw[ayR,ayS]
 exact⟨m,a⟩
def aiw(f:Nat)(args:List Go.bg.E)(v:Go.bg.E)(a:tk f args=some v):Go.bg.rV hc [(7,[], .bool true)] f args=some v:=by
 unfold tk at a
 unfold Go.bg.rV at a ⊢
 cases aH:Go.bg.yc f args [(7,[],Go.bg.E.bool true)]with
 |some ac=>rw[aH]at a;exact a
 |none=>
  rw[aH]at a
  simp only at a ⊢
  unfold hc Go.bg.Qx
  by_cases b4:f=26
  ·subst b4
   unfold Go.bg.yl Go.bg.ym at a
   simp[Go.bg.ia]at a
  ·have:Go.bg.rS f [26]=false:=by
    simp[Go.bg.rS]
    cases D:f.beq 26 with
    |false=>rfl
    |true=>exact absurd (Zn D) b4
   rw[this]
   exact a
def aA5{w:World}(a:laidMet Tryz.prog Rows.clocksTurnedRow.laid w)(C:Go.bg.aN)(bs:C.P=Tryz.prog)(bi:C.hz=tk):Go.bg.RJ C w:=by
 obtain⟨aHZ,aFp,ary⟩:=Go.bg.Env.ayL Qn k0 Tryz.func108 Zk Zk ax7 ax6 a
 obtain⟨dY,ea,arx⟩:=Go.bg.Env.ayK Qn Tryz.func129 Zk rfl Tryz.stringslite_Clone a ary
 obtain⟨yJ,nd,S3⟩:=Go.bg.Env.ayM Qn (jN:=[26]) (k:=sj) a arx rfl (λx af=>by
  unfold sj at af
  simp only[Zu,ZK,Yq]at af
  rcases af with rfl|rfl|rfl
  ·exact P1 aEb
  ·exact P1 aEc
  ·exact P1 aEd)
 have ba:=Go.bg.aiv (k:=[(7,[], .bool true)]) S3 rfl (λx af=>by
  rw[List.mem_singleton]at af
  subst af
  exact P1 aD5)
 obtain⟨P,G,a8,hz,qh⟩:=C
 have aum:P=Tryz.prog:=bs
 have Ik:hz=tk:=bi
 subst aum Ik
 exact⟨λf args v bD=>ba.val f args v (aiw f args v bD),λf args v bD=>ba.ok f args v (aiw f args v bD)⟩
open Go.bg
def apr:∀{s:List Nat},(∀c∈s,c<256)->yY s=true:=by
 intro s
 induction s with
 |nil=>intro _;rfl
 |cons F s ah=>
  intro a
  have H:=a F (Zv ..)
  have bC:Nat.blt F 256=true:=by simp[Nat.blt];omega
  simp only[yY,bC,ah (λc aA=>a c (Zt _ aA)),Ys]
def ax5:∀c<256,(decide (0<=A3 [32,9,10,13] c 0)==L4 c)=true:=by decide+kernel
def aiu{X:ca}(aw:X.O=tk):jd X:=by
 refine⟨⟨λf k b4=> ?_⟩,λc aA=> ?_,λs aC az=> ?_⟩
 ·rw[aw]
  have H:¬f=7/\¬f=129/\¬f=108:=by
   refine⟨λD=> ?_,λD=> ?_,λD=> ?_⟩<;>(subst D;cases b4)
  unfold tk rV
  simp only[yc,ia,H.1,ZB]
  unfold yl ym
  simp only[ia,H.2.1,H.2.2,ZB]
 ·refine⟨A3 [32,9,10,13] c 0, ?_, ?_⟩
  ·rw[aw]
   have bC:yY [32,9,10,13]=true:=rfl
   have cu:Nat.blt c 256=true:=by simp[Nat.blt];omega
   show tk 108 [.str [32,9,10,13], .int .u8 (.ofNat c)]=_
   unfold tk rV
   simp only[yc,ia]
   unfold yl ym
   simp[ia,bC,cu]
  ·have:=ax5 c aA
   rw[Y3]at this
   rw[<-this];simp
 ·rw[aw]
  have bC:=apr aC
  have cu:Nat.ble s.length 281474976710656=true:=j3 Zo
  unfold tk rV
  simp only[yc,ia]
  unfold yl
  simp[ia,bC,cu]
def aqi:∀{s:List Nat},(∀c∈s,c<256)->y6 (s.map λc:Nat=>E.int .u8 (c:Int))=some s:=by
 intro s
 induction s with
 |nil=>intro _;rfl
 |cons F s ah=>
  intro a
  have H:=a F (Zv ..)
  have M:=ah (λc aA=>a c (Zt _ aA))
  show(match y6 (s.map λc:Nat=>E.int .u8 (c:Int))with|some r=>some (F%256::r)|none=>none)=_
  rw[M,YH H]
def aCN(w:World)(sB:laidMet Tryz.prog Rows.clocksTurnedRow.laid w){v0:Value}{ck:List Nat}{kr im:Nat}(VC:kr<256)(vb:im<256)(af:∀c∈ck,c<256)(aK:GQ w v0 1 (ck.map λc:Nat=>E.int .u8 (c:Int))):
 Calls Tryz.prog 4 #[v0, .agg #[.int .u8 (kr:Int), .int .u8 (im:Int)]] w λD b5=>D= .returned (.bool true)/\Below w.heap.size w b5:=by
 obtain⟨U,ae,a0,Y,ir,hm,aA,t0⟩:=ayN Qn (hz:=tk) sB azu aK
 generalize az:(ck.map λc:Nat=>E.int .u8 (c:Int))=k at*
 have u6:k.length=ck.length:=by rw[<-az,Zi]
 let X:ca:=⟨yk k fM 22,23,tk⟩
 have cP:Env X w U ae:=⟨k0,aA5 sB X rfl rfl,Y,ir⟩
 have bZ:sk X:=⟨rfl,λb aj=>by
  show(yk k fM 22).get b=_
  unfold yk
  split
  ·rw[S.jP,Zg Zo]
  ·rfl⟩
 have aF:(o X).a8<=23:=Zj _
 have EU:(min (ck.length:Int) 5000)=((min ck.length 5000:Nat):Int):=Zo
 have wq:∃bf,gr a0=some (.int .i64 (ck.length:Int))/\(∀R,uv X R 1 a0 none (some (.int .i64 (min (ck.length:Int) 5000))) none=some bf)/\gr bf=some (.int .i64 ((ck.take 5000).length:Int))/\∀R aS,br X .nil 23 R aS->B5 X R bf=some (.str (ck.take 5000)):=by
  rw[EU]
  rcases t0 with ⟨rfl,a⟩|⟨len,cap,rfl,H,M,al⟩
  ·have CO:ck=[]:=ZN (by rw[<-u6,a];rfl)
   subst CO
   exact⟨.aY,rfl,λ_=>rfl,rfl,λ_ _ _=>rfl⟩
  ·rw[Z4,u6]at M
   subst M
   have bn:min ck.length 5000<=ck.length:=Nat.min_le_left _ _
   refine⟨.slice 22 0 (min ck.length 5000) cap,ug ..,λR=> ?_, ?_,λR aS bY=> ?_⟩
   ·generalize min ck.length 5000=ak at bn
    have uZ:Nat.ble ak cap=true:=j3 Zo
    have key:mR ck.length cap none (some (.int .i64 (ak:Int))) none=some (0,ak,cap):=by
     simp only[mR,qd,rT,uZ,fw,ZG]
    simp only[uv,key]
    simp[fw]
   ·rw[ug,Yz,Nat.min_comm]
   ·show(
     match (match (E.slice 22 0 (min ck.length 5000) cap)with| .str s=>some (E.str s)|_=>none)with|some v=>some v|none=>Ha X R (.slice 22 0 (min ck.length 5000) cap))=_
    simp only[Ha]
    have auN:nT X R 22 0 (min ck.length 5000)=some ((ck.take 5000).map λc:Nat=>E.int .u8 (c:Int)):=by
     by_cases cx:ck.length=0
     ·have CO:ck=[]:=ZN cx
      subst CO
      simp only[nT]
      cases aA:cellsOf X R 22 with
      |none=>simp
      |some c=>simp[aeg]
     ·have aj:W X R 22=some (.cells (S.ofList k 0 .nil) k.length .kJ):=by
       rw[bY.ab 22 Zd]
       exact al (by rw[u6];omega)
      simp only[nT,cellsOf,aj]
      rw[aef (nu k) _ _ (by rw[u6];omega), <-az,Yg, <-List.map_take,Nat.min_comm]
      congr 2
      rw[List.take_eq_take_iff]
      simp
    rw[auN]
    simp only[aqi (λc aA=>af c (zc aA))]
 obtain⟨bf,bR,cm,cX,d4⟩:=wq
 have auO:=ayP (X:=X) (h:= .nil) (j:=23) (aiu rfl) (as4 bZ) (asZ bZ) (as0 bZ) (as2 bZ) (asW bZ) (show tk 7 []=some (.bool true) by unfold tk rV;rfl) VC vb aF bR (by rw[Yz];omega) (λc aA=>af c (zc aA)) cm cX d4
 have f6:vE X 4 [a0, .agg [.int .u8 (kr:Int), .int .u8 (im:Int)]] .nil 23 (λac _ _=>ac= .bool true) zL:=by
  refine(acN (show(o X).hz 4 [a0, .agg [.int .u8 (kr:Int), .int .u8 (im:Int)]]=none from(aiu (X:=X) rfl).none 4 [a0, .agg [.int .u8 (kr:Int), .int .u8 (im:Int)]] rfl) auO).mono (λac _ _ a=> ?_) (λ_ _ _ a=>a)
  rw[a.1]
 have a:=aql cP (v:= .bool true) rfl (args:=[a0, .agg [.int .u8 (kr:Int), .int .u8 (im:Int)]]) ⟨hm.1,⟨trivial,trivial,trivial⟩,trivial⟩ f6
 rw[show b3 U [a0, .agg [.int .u8 (kr:Int), .int .u8 (im:Int)]]=[v0, .agg #[.int .u8 (kr:Int), .int .u8 (im:Int)]] from by
  have tN:aT U a0=v0:=by simpa[b3]using aA
  simp[b3,aT,tN]]at a
 refine a.mono λD b5 ⟨⟨dh,bA⟩,aj⟩=>⟨?_,aj⟩
 rw[bA];rfl
def aqq{bu:World}{cO off u:Nat}{ct:Array Value}{ty:TypeId}{fr:Nat×Nat}(aj:bu.heap[cO]? =some (.cells ct ty fr)):bu.cell? ((⟨cO,off,none⟩:Addr).add u)=ct[off+u]? :=by
 unfold Addr.add World.cell?
 by_cases a:u=0
 ·subst a;simp[aj]
 ·simp[a,aj]
set_option maxRecDepth 100000 in
def aDb{bu:World}{base t D:Nat}{F:Addr}{len cap:Nat}(ba:Tryz.prog.underlying t=some (.slice D))(bD:Value.okWide Tryz.prog bu .any base t (.slice (some F) len cap)):F.spot=none/\∃ct ty fr,bu.heap[F.block]? =some (.cells ct ty fr):=by
 simp only[Value.okWide,ba,Cell.okWide,Cell.ok,World.has]at bD
 obtain⟨_,_,_,H,row,cells,M,_⟩:=bD
 refine⟨H, ?_⟩
 unfold World.shape? at M
 split at M
 ·rename_i c uR fr aj;exact⟨c,uR,fr,aj⟩
 ·cases M
open Go.bg Go.Deep in
def apD{w:World}{cO off len cap:Nat}{ct:Array Value}{ty:TypeId}{fr:Nat×Nat}(az:len<=cap){k:List E}(E2:k.length=len)(ay:X4 k)
 (aj:w.heap[cO]? =some (.cells ct ty fr))(aA:∀(i:Nat) v,k[i]? =some v->ct[off+i]? =some (aT (λ_=>default) v)):GQ w (.slice (some ⟨cO,off,none⟩) len cap) 1 k:=by
 refine .inr ⟨cO,off,len,cap,ct,ty,fr,rfl,az,Zo,ay,λa=>⟨aj, ?_,aA⟩⟩
 have H:=aA (k.length-1) _ (Ze Zo)
 have M:off+(k.length-1)<ct.size:=by
  rcases zg (off+(k.length-1)) ct.size with a|a
  ·exact a
  ·rw[Array.getElem?_eq_none a]at H;cases H
 omega
open Go.bg Go.Deep in
set_option maxRecDepth 100000 in
def apC{qz:Type}{enc:TypeId×Value->qz}{bu:World}{base:Nat}{v:Value}{d:DataW qz}{dm:List MemPlace}(bD:Value.okWide Tryz.prog bu .any base 22 v)(a:DataW.Trod enc Tryz.prog bu 0 (λ_=>true) true 22 v d dm):
 ∃ck:List Nat,(∀c∈ck,c<256)/\GQ bu v 1 (ck.map λc:Nat=>E.int .u8 (c:Int)):=by
 have ba:Tryz.prog.underlying 22=some (.slice 5):=Zk
 have aA:Tryz.prog.cellsOf 5=1:=Zk
 have bc:Tryz.prog.underlying 5=some (.int .u8):=Zk
 obtain⟨F,len,cap,rfl⟩:=okWide_slice ba bD
 obtain⟨fuel,b4⟩:=a
 rcases open_slice1 ba aA b4 with ⟨iz,_⟩|⟨fB,aHk,NN,m,n,au,aFo,nf,iz,_,az,_,bn,_,af⟩
 ·simp[Value.cells]at iz
  obtain⟨rfl,rfl,rfl⟩:=iz
  exact⟨[],Zs, .inl ⟨rfl,rfl⟩⟩
 ·simp[Value.cells]at iz
  obtain⟨rfl,rfl,rfl⟩:=iz
  simp only[ZG]at bn
  subst bn
  obtain⟨CI,ct,ty,fr,aj⟩:=aDb ba bD
  obtain⟨cO,off,spot⟩:=fB
  simp only at CI aj
  subst CI
  obtain⟨f,afp⟩:=choose_lt (α:=Nat) (n:=len) (p:=λi x=>x<256/\ct[off+i]? =some (.int .u8 (x:Int))) (λi aG=>by
   obtain⟨H,M⟩:=af i Zo
   obtain⟨u,g,_,bb⟩:=DataW.trod_int bc M
   simp at g
   rw[aqq aj,g]at H
   have AI:IntKind.u8.min<=u/\u<=IntKind.u8.max:=by simpa[Lit.wf]using bb
   have EU:IntKind.u8.min=0:=rfl
   have u7:IntKind.u8.max=255:=rfl
   have aH:0<=u/\u<256:=by rw[EU,u7]at AI;omega
   obtain⟨x,rfl⟩:=Ye aH.1
   exact⟨x,Zo,H⟩)
  refine⟨(List.range len).map f,λc aA=> ?_,apD (ty:=ty) (fr:=fr) (ct:=ct) az Zs ?_ aj ?_⟩
  ·obtain⟨i,aG,rfl⟩:=ZE.1 aA
   exact(afp i (List.mem_range.1 aG)).1
  ·intro v bD
   obtain⟨r,_,rfl⟩:=ZE.1 bD
   exact⟨λ_ _=>rfl,λ_=>trivial⟩
  ·intro i v aG
   have k9:=(Zb.1 aG).1
   simp at k9
   simp[k9]at aG
   subst aG
   exact(afp i k9).2
set_option maxRecDepth 100000 in
def apE{qz:Type}{enc:TypeId×Value->qz}{bu:World}{base:Nat}{v:Value}{d:DataW qz}{dm:List MemPlace}(bD:Value.okWide Tryz.prog bu .any base 65 v)(a:DataW.Trod enc Tryz.prog bu 0 (λ_=>true) true 65 v d dm):
 ∃kr im:Nat,kr<256/\im<256/\v= .agg #[.int .u8 (kr:Int), .int .u8 (im:Int)]:=by
 have ba:Tryz.prog.underlying 65=some (.array 2 5):=Zk
 have aA:Tryz.prog.cellsOf 5=1:=Zk
 have bc:Tryz.prog.underlying 5=some (.int .u8):=Zk
 have aC:Tryz.prog.cellsOf 65=2:=Zk
 obtain⟨cs,rfl,eA⟩:∃cs:Array Value,v= .agg cs/\cs.size=2:=by
  simp only[Value.okWide,ba]at bD
  obtain⟨cs,H,M,_⟩:=bD
  exact⟨cs,H,by rw[M,aC]⟩
 obtain⟨fuel,b4⟩:=a
 obtain⟨ck,m,_,_,_,az,af⟩:=DataW.trod_array ba b4
 obtain⟨F,b,rfl⟩:∃F b,cs= #[F,b]:=by
  obtain⟨k⟩:=cs
  match k,eA with
  |[F,b],_=>exact⟨F,b,rfl⟩
 have key:∀(i:Nat) (c:Value),i<2->(#[F,b]:Array Value)[i]? =some c->∃x:Nat,x<256/\c= .int .u8 (x:Int):=by
  intro i c aG OY
  have M:=af i aG
  rw[aA,Ze Zo]at M
  obtain⟨u,g,_,bb⟩:=DataW.trod_int bc M
  have g:c= .int .u8 u:=by
   match i,aG with
   |0,_=>simp[Value.cells]at g OY;rw[<-OY];exact g
   |1,_=>simp[Value.cells]at g OY;rw[<-OY];exact g
  have AI:IntKind.u8.min<=u/\u<=IntKind.u8.max:=by simpa[Lit.wf]using bb
  have EU:IntKind.u8.min=0:=rfl
  have u7:IntKind.u8.max=255:=rfl
  have aH:0<=u/\u<256:=by rw[EU,u7]at AI;omega
  obtain⟨x,rfl⟩:=Ye aH.1
  exact⟨x,Zo,g⟩
 obtain⟨kr,aK,pP⟩:=key 0 F Zo rfl
 obtain⟨im,H,bC⟩:=key 1 b Zo rfl
 exact⟨kr,im,aK,H,by rw[pP,bC]⟩
end Go.Proofs.YtpeabpmnlmaabaaGreatDoor

