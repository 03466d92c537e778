/- Part of the proof of the last text; no conditions -/
import Derived.Test.YtpeabpmnlmaabaaGreatDoorYo
import Derived.Test.YtpeabpmnlmaabaaGreatDoorRows
import Derived.ProofKit
set_option maxHeartbeats 8000000
set_option linter.all false
namespace Go.ba
noncomputable section
open Go.RowKit (Below)
def XG(k:List D):Prop:=∀v∈k,(∀S iX,aO S v=aO iX v)/\∀ad,cj ad v
def Gd(w:World)(v:Value)(bs:Nat)(k:List D):Prop:=
 (v= .slice none 0 0/\k=[])\/∃cJ off len cap co ty fr,v= .slice (some ⟨cJ,off,none⟩) len cap/\len<=cap/\k.length=len*bs/\XG k/\
  (0<k.length->w.heap[cJ]? =some (.cells co ty fr)/\off+k.length<=co.size/\∀i x,k[i]? =some x->co[off+i]? =some (aO (λ_=>default) x))
def ajG(C:aL)(F:D)(b bs:Nat)(k:List D):Prop:=
 (F= .aT/\k=[])\/∃len cap,F= .slice b 0 len cap/\len<=cap/\k.length=len*bs/\(0<k.length->U C .nil b=some (.cells (R.ofList k 0 .nil) k.length .kq))
def xR(k:List D)(G:R af)(b:Nat):R af:=if 0<k.length then G.set b (some (.cells (R.ofList k 0 .nil) k.length .kq))else G
def Gd.pl{w:World}{v:Value}{bs:Nat}{k:List D}(a:Gd w v bs k)(b:Nat):∃(F:D) (pl:m4),(∀S:c6,S b=pl->aO S F=v)/\(∀ad:Nat->Prop,ad b->cj ad F)/\
 ((F= .aT/\k=[])\/∃len cap,F= .slice b 0 len cap/\len<=cap/\k.length=len*bs)/\(0<k.length->∀C S ad,kr C S ad (.cells (R.ofList k 0 .nil) k.length .kq) pl w):=by
 rcases a with ⟨rfl,rfl⟩|⟨cJ,off,len,cap,co,ty,fr,rfl,J,Q,ak,ay⟩
 ·exact⟨.aT,default,λ_ _=>rfl,λ_ _=>trivial, .inl ⟨rfl,rfl⟩,λa=>by simp at a⟩
 ·refine⟨.slice b 0 len cap,⟨cJ,off,k.length⟩,λS dP=>by simp[aO,dP],λad d=>d, .inr ⟨len,cap,rfl,J,Q⟩,λa C S ad=> ?_⟩
  obtain⟨bW,cq,cS⟩:=ay a
  obtain⟨bG,aN⟩:=fr
  refine⟨co,ty,bG,aN,bW,⟨trivial,Zj _,cq⟩,cq,λi x ae=> ?_⟩
  rw[mR]at ae
  have bo:=ak x (Zn ae)
  exact⟨by rw[bo.1 S (λ_=>default)];exact cS i x ae,bo.2 ad⟩
section
variable{P:Program}{w:World}
def axp{nm:List (String×Nat)}(jg:Bg P nm){laid:List (String×DataW Unit)}{hu:Nat->List D->Option D}(a:laidMet P laid w){a6:Nat}{os:List (Nat×af)}(az:hf P nm laid P.globals.size=(a6,os)){v0:Value}{p4:Nat}{eZ:List D}(aY:Gd w v0 p4 eZ):
 ∃S ad a0,dn ⟨P,xR eZ (nX os .nil) a6,a6+1,hu,P.globals.size⟩ S ad .nil (a6+1) w.heap.size w/\sZ ⟨P,xR eZ (nX os .nil) a6,a6+1,hu,P.globals.size⟩ S ad/\eu ad [a0]/\b2 S [a0]=[v0]/\
  ajG ⟨P,xR eZ (nX os .nil) a6,a6+1,hu,P.globals.size⟩ a0 a6 p4 eZ:=by
 obtain⟨a0,Iz,dH,jb,t0,kT⟩:=aY.pl a6
 obtain⟨dp,gT,_,lZ⟩:=a
 have cm:sY w dp:=λb off ag=>(lZ b off ag).1
 obtain⟨a7,b6,f,a3⟩:=agO (C:=⟨P,xR eZ (nX os .nil) a6,a6+1,hu,P.globals.size⟩) jg laid P.globals.size dp rfl gT cm (λb off ag=>(lZ b off ag).2)
 rw[az]at a7 b6 a3
 simp only at a7 b6 a3
 have d7:∀b V,U ⟨P,xR eZ (nX os .nil) a6,a6+1,hu,P.globals.size⟩ .nil b=some V->((b,V)∈os/\b<a6)\/(b=a6/\0<eZ.length/\V= .cells (R.ofList eZ 0 .nil) eZ.length .kq):=by
  intro b V bh
  unfold U at bh
  rw[fF]at bh
  split at bh
  ·rename_i ag
   have ag:=lS ag
   unfold xR at bh
   split at bh
   ·rename_i aw
    rw[R.kN]at bh
    split at bh
    ·rename_i E;cases bh;exact .inr ⟨E.symm▸rfl,aw,rfl⟩
    ·rcases WY b V os .nil bh with aj|aj
     ·exact .inl ⟨aj,by have cB:b<P.globals.size\/b<a6:=(b6 (b,V) aj).2.1;have:P.globals.size<=a6:=a7;omega⟩
     ·simp at aj
   ·rcases WY b V os .nil bh with aj|aj
    ·exact .inl ⟨aj,by have cB:b<P.globals.size\/b<a6:=(b6 (b,V) aj).2.1;have:P.globals.size<=a6:=a7;omega⟩
    ·simp at aj
  ·simp at bh
 refine⟨λb=>if b<P.globals.size then⟨b,0,0⟩else if b=a6 then Iz else f b,λb=>b<a6+1,a0,⟨Zj _,λ_ a=>a,λb V bh=> ?_, ?_, ?_, ?_, ?_⟩, ?_, ?_, ?_, ?_⟩
 ·rcases d7 b V bh with a|a
  ·omega
  ·omega
 ·intro b V bh _
  rcases d7 b V bh with a|⟨rfl,aw,rfl⟩
  ·exact a3 (λb=>if b<P.globals.size then⟨b,0,0⟩else if b=a6 then Iz else f b) (λb=>b<a6+1) (λb J Q=>⟨by rw[Zh Zo,Zh Zo],Zo⟩) (λg bP=>⟨by rw[Zp bP],by have:P.globals.size<=a6:=a7;omega⟩) (b,V) a.1
  ·show kr _ _ _ _ (if b<P.globals.size then(⟨b,0,0⟩:m4)else if b=b then Iz else f b) w
   rw[Zh (by have:P.globals.size<=b:=a7;omega),Zp rfl]
   exact kT aw _ _ _
 ·intro b dK V o' _ _ d _ _ ag
  exact absurd d (zm.2 ag)
 ·intro b V ag _ d
  exact absurd d (zm.2 ag)
 ·intro b V bh _
  rcases d7 b V bh with a|⟨rfl,aw,rfl⟩
  ·exact(b6 (b,V) a.1).2.2 _ _
  ·refine⟨λc n k az=>(by cases az),λc n st ax i v bv=> ?_⟩
   cases ax
   rw[mR]at bv
   exact(Zb.1 bv).1
 ·intro g bP
  have bP:g<P.globals.size:=bP
  exact⟨Zo,by simp[bP],by simp[bP]⟩
 ·exact⟨jb _ Zo,trivial⟩
 ·simp only[b2]
  rw[dH _ (by rw[Zh Zo,Zp rfl])]
 ·rcases t0 with a|⟨len,cap,cN,cB,ea⟩
  ·exact .inl a
  ·refine .inr ⟨len,cap,cN,cB,ea,λa=> ?_⟩
   unfold U xR
   have:Nat.blt a6 (a6+1)=true:=by simp[Nat.blt]
   rw[this,ff,Zp a,R.kN,Zp rfl]
end
end
end Go.ba

namespace Go.Proofs.YtpeabpmnlmaabaaGreatDoor
open Go.ba Go.aQ
noncomputable section
def nm:List (String×Nat):=[((Tryz.prog.typeName? 3 206).getD "",206)]
def ao:Nat×List (Nat×af):=hf Tryz.prog nm Rows.clocksChainsRow.laid Tryz.prog.globals.size
def Ih:ao.1=22:=Zk
def fx:R af:=nX ao.2 .nil
def asr:fx.get 0=zu [.str [45,62], .str [60,60], .str [62,62], .str [60,61], .str [62,61], .str [60,62], .str [40], .str [41], .str [44], .str [59], .str [58], .str [61], .str [60], .str [62], .str [43], .str [45], .str [42]] 17:=Zk
def Hc:fx.get 3=zu [.slice 14 0 18 18] 1:=Zk
def vD:fx.get 1=zu [.map 16] 1:=Zk
def D2:fx.get 2=zu [.bool true, .bool false, .int .i64 1] 3:=Zk
def On:fx.get 7=zu [.map 15] 1:=Zk
def Kj:fx.get 5=zu [.iface 206 (.ptr 13 0)] 1:=Zk
def xi:fx.get 6=zu [.iface 206 (.ptr 12 0)] 1:=Zk
def yX:fx.get 8=zu [.slice 17 0 2 2, .slice 18 0 1 1, .slice 19 0 6 6, .slice 20 0 2 2, .slice 21 0 1 1] 5:=Zk
def ass:fx.get 14=zu [.str [110,111,100,101], .str [114,101,116,117,114,110,115], .str [118,97,114], .str [108,101,116], .str [116,101,108], .str [119,104,101,110], .str [110,111,116], .str [111,114], .str [120,111,114], .str [97,110,100], .str [112,114,101], .str [102,98,121], .str [105,102], .str [116,104,101,110], .str [101,108,115,101], .str [109,101,114,103,101], .str [116,114,117,101], .str [102,97,108,115,101]] 18:=Zk
def asu:fx.get 16=some (.look [(.str [97,110,100], .bool true),(.str [101,108,115,101], .bool true),(.str [102,97,108,115,101], .bool true),(.str [102,98,121], .bool true),(.str [105,102], .bool true),(.str [108,101,116], .bool true),(.str [109,101,114,103,101], .bool true),(.str [110,111,100,101], .bool true),(.str [110,111,116], .bool true),(.str [111,114], .bool true),(.str [112,114,101], .bool true),(.str [114,101,116,117,114,110,115], .bool true),(.str [116,101,108], .bool true),(.str [116,104,101,110], .bool true),(.str [116,114,117,101], .bool true),(.str [118,97,114], .bool true),(.str [119,104,101,110], .bool true),(.str [120,111,114], .bool true)]):=Zk
structure r1(X:ch):Prop where
 a6:X.a6=23
 get:∀b,b<22->X.G.get b=fx.get b
section
variable{X:ch}{h:R af}
def r1.U(a:r1 X){b:Nat}(ag:b<22):U X h b=fx.get b:=by
 have E:Nat.blt b (o X).a6=true:=by
  show Nat.blt b X.a6=true
  rw[a.a6];simp[Nat.blt];omega
 unfold Go.ba.U
 rw[E,ff]
 exact a.get b ag
def r1.xN(a:r1 X){b n:Nat}(ag:b<22){c:R D}{st:oP}(bP:fx.get b=some (.cells c n st))(V:Nat):aI X h (.ptr b V)=c.get V:=bp (by rw[a.U ag];exact bP) V
def arJ(a:r1 X):Dl X:=λh=>by
 rw[wj,a.U Zd,D2]
 rfl
def arK(a:r1 X):l6 X:=⟨⟨13,λh=>by rw[a.xN Zd Kj];rfl⟩,⟨12,λh=>by rw[a.xN Zd xi];rfl⟩⟩
def arQ(a:r1 X):RC X:=⟨λh=>by
 rw[wj,a.U Zd,asr]
 rfl⟩
def ax0(w:aX):∀L:List (aX×D),(L.map Prod.fst).Nodup->p0 X h 9 (.str w) (L.map λE=>(D.str E.1,E.2))=some ((L.find? λE=>decide (E.1=w)).map Prod.snd):=by
 intro L
 induction L with
 |nil=>intro _;rfl
 |cons E L ai=>
  intro aF
  rw[ZP,zi]at aF
  simp only[ZP,p0,ai aF.2,acS,AH,zh]
  by_cases a:E.1=w
  ·have cy:w=E.1:=a.symm
   have lY:L.find? (λE=>decide (E.1=w))=none:=by
    rw[Y0]
    intro x ae b3
    have:x.1=w:=by simpa using b3
    exact aF.1 (by rw[a, <-this];exact List.mem_map_of_mem ae)
   simp[a,lY]
  ·have cy:¬w=E.1:=λaj=>a aj.symm
   simp[a,cy]
noncomputable def tY:List aX:=[[97,110,100],[101,108,115,101],[102,97,108,115,101],[102,98,121],[105,102],[108,101,116],[109,101,114,103,101],[110,111,100,101],[110,111,116],[111,114],[112,114,101],[114,101,116,117,114,110,115],[116,101,108],[116,104,101,110],[116,114,117,101],[118,97,114],[119,104,101,110],[120,111,114]]
def ail(s:aX):s∈tY↔s∈wu:=by
 constructor
 ·intro a
  have:∀w∈tY,w∈wu:=by decide
  exact this s a
 ·intro a
  have:∀w∈wu,w∈tY:=by decide
  exact this s a
def aAy:((tY.map λs=>(s,D.bool true)).map λE:aX×D=>(D.str E.1,E.2))=[(.str [97,110,100], .bool true),(.str [101,108,115,101], .bool true),(.str [102,97,108,115,101], .bool true),(.str [102,98,121], .bool true),(.str [105,102], .bool true),(.str [108,101,116], .bool true),(.str [109,101,114,103,101], .bool true),(.str [110,111,100,101], .bool true),(.str [110,111,116], .bool true),(.str [111,114], .bool true),(.str [112,114,101], .bool true),(.str [114,101,116,117,114,110,115], .bool true),(.str [116,101,108], .bool true),(.str [116,104,101,110], .bool true),(.str [116,114,117,101], .bool true),(.str [118,97,114], .bool true),(.str [119,104,101,110], .bool true),(.str [120,111,114], .bool true)]:=rfl
def arO(a:r1 X):Na X:=⟨.map 16,λh=>⟨by rw[a.xN Zd vD];rfl,λs=>by
 have bD:U X h 16=_:=(a.U Zd).trans asu
 rw[<-aAy]at bD
 have Ag:((tY.map λs=>(s,D.bool true)).map Prod.fst).Nodup:=by decide
 simp only[mN,bD,Qr,ff,ax0 s _ Ag]
 have cb:((tY.map λs=>(s,D.bool true)).find? λE=>decide (E.1=s)).map Prod.snd=if s∈tY then some (D.bool true)else none:=by
  by_cases aD:s∈tY
  ·rw[Zp aD]
   generalize tY=L at aD
   induction L with
   |nil=>cases aD
   |cons F L ai=>
    rw[ZP,zh]
    by_cases aA:F=s
    ·simp[aA]
    ·simp only[aA,Yl]
     exact ai ((Zt.1 aD).resolve_left (λE=>aA E.symm))
  ·rw[Zh aD]
   have:(tY.map λs=>(s,D.bool true)).find? (λE=>decide (E.1=s))=none:=by
    rw[Y0]
    intro x ae b3
    obtain⟨e,B,rfl⟩:=ZG.1 ae
    have:e=s:=by simpa using b3
    exact aD (this▸B)
   rw[this];rfl
 rw[cb]
 have:decide (s∈wu)=decide (s∈tY):=by
  by_cases aD:s∈tY
  ·simp[aD,(ail s).1 aD]
  ·have:¬s∈wu:=λaj=>aD ((ail s).2 aj)
   simp[aD,this]
 rw[this]
 by_cases aD:s∈tY
 ·simp[aD,If]
 ·simp[aD,If]⟩⟩
def IF{P:Nat->Prop}{b y bs n:Nat}{bL:List (List D)}{st:oP}(a:r1 X)(ag:b<22)(bP:fx.get b=some (.cells (R.ofList bL.flatten 0 .nil) n st))(aF:n=y*bs)(aH:bL.length=y)(Y:∀r∈bL,r.length=bs)(bo:y<=300000)(bq:P b):dL X h P b (.slice b 0 y y) bs bL:=
 IE (st:=st) (by rw[a.U ag,bP,aF]) aH Y bo bq
def arN(a:r1 X):rW X:=⟨by rw[a.a6];decide,λh=>⟨14, .slice 14 0 18 18,by rw[a.xN Zd Hc];rfl,IF a Zd ass rfl rfl Zd Zd (by rw[a.a6];decide)⟩⟩
def asw:fx.get 17=zu ((aq 0).map λV=>[D.str V.1, .int .i64 V.2]).flatten 4:=Zk
def asx:fx.get 18=zu ((aq 1).map λV=>[D.str V.1, .int .i64 V.2]).flatten 2:=Zk
def asy:fx.get 19=zu ((aq 2).map λV=>[D.str V.1, .int .i64 V.2]).flatten 12:=Zk
def asz:fx.get 20=zu ((aq 3).map λV=>[D.str V.1, .int .i64 V.2]).flatten 4:=Zk
def asA:fx.get 21=zu ((aq 4).map λV=>[D.str V.1, .int .i64 V.2]).flatten 2:=Zk
def MT(y:Nat):∀r∈(aq y).map λV=>[D.str V.1, .int .i64 V.2],r.length=2:=by
 intro r Y
 obtain⟨V,_,rfl⟩:=ZG.1 Y
 rfl
set_option maxRecDepth 20000 in
def arM(a:r1 X):wK X:=⟨by rw[a.a6];decide,λh y aH=>by
 have bq:∀b,b<22->b<X.a6:=λb ag=>by rw[a.a6];omega
 match y,aH with
 |0,_=>exact⟨17, .slice 17 0 2 2,by rw[a.xN Zd yX];rfl,IF (P:=λe=>e<X.a6) (b:=17) (bL:=(aq 0).map λV=>[D.str V.1, .int .i64 V.2]) a Zd asw rfl rfl (MT 0) Zd (bq 17 Zd)⟩
 |1,_=>exact⟨18, .slice 18 0 1 1,by rw[a.xN Zd yX];rfl,IF (P:=λe=>e<X.a6) (b:=18) (bL:=(aq 1).map λV=>[D.str V.1, .int .i64 V.2]) a Zd asx rfl rfl (MT 1) Zd (bq 18 Zd)⟩
 |2,_=>exact⟨19, .slice 19 0 6 6,by rw[a.xN Zd yX];rfl,IF (P:=λe=>e<X.a6) (b:=19) (bL:=(aq 2).map λV=>[D.str V.1, .int .i64 V.2]) a Zd asy rfl rfl (MT 2) Zd (bq 19 Zd)⟩
 |3,_=>exact⟨20, .slice 20 0 2 2,by rw[a.xN Zd yX];rfl,IF (P:=λe=>e<X.a6) (b:=20) (bL:=(aq 3).map λV=>[D.str V.1, .int .i64 V.2]) a Zd asz rfl rfl (MT 3) Zd (bq 20 Zd)⟩
 |4,_=>exact⟨21, .slice 21 0 1 1,by rw[a.xN Zd yX];rfl,IF (P:=λe=>e<X.a6) (b:=21) (bL:=(aq 4).map λV=>[D.str V.1, .int .i64 V.2]) a Zd asA rfl rfl (MT 4) Zd (bq 21 Zd)⟩⟩
def aqH(F b:Int):jC X h 20 3 (.int .i64 F) (.int .i64 b)=some (xI F b):=Zk
def ay7(F:Int):nD X 20 3 (.int .i64 F)=true:=Zk
def axZ(w:Int):∀L:List (Int×D),(L.map Prod.fst).Nodup->p0 X h 3 (.int .i64 w) (L.map λE=>(D.int .i64 E.1,E.2))=some ((L.find? λE=>decide (E.1=w)).map Prod.snd):=by
 intro L
 induction L with
 |nil=>intro _;rfl
 |cons E L ai=>
  intro aF
  rw[ZP,zi]at aF
  simp only[ZP,p0,ai aF.2,aqH,H2,zh]
  by_cases a:E.1=w
  ·have lY:L.find? (λE=>decide (E.1=w))=none:=by
    rw[Y0]
    intro x ae b3
    have:x.1=w:=by simpa using b3
    exact aF.1 (by rw[a, <-this];exact List.mem_map_of_mem ae)
   simp[a,lY]
  ·have cy:¬w=E.1:=λaj=>a aj.symm
   simp[a,cy]
noncomputable def IP:List (Int×(Int×Bool×Bool×Bool)):=[1,2,3,4,5,6,19,20,23,24,25,26].map λy:Int=>(y,(u4 y).getD (0,false,false,false))
def ast:fx.get 15=some (.look ((IP.map λE=>(E.1,D.agg (qR E.2))).map λE=>(D.int .i64 E.1,E.2))):=Zk
def aBp(y:Int):(IP.find? λE=>decide (E.1=y)).map Prod.snd=u4 y:=by
 by_cases aH:y=1\/y=2\/y=3\/y=4\/y=5\/y=6\/y=19\/y=20\/y=23\/y=24\/y=25\/y=26
 ·rcases aH with rfl|rfl|rfl|rfl|rfl|rfl|rfl|rfl|rfl|rfl|rfl|rfl<;>decide
 ·have J:u4 y=none:=by
   unfold u4
   rw[Zh Zo,Zh Zo,Zh Zo,Zh Zo,Zh Zo,Zh Zo,Zh Zo,Zh Zo,Zh Zo]
  rw[J]
  have:IP.find? (λE=>decide (E.1=y))=none:=by
   rw[Y0]
   intro x ae b3
   have PM:x.1=y:=by simpa using b3
   obtain⟨e,B,rfl⟩:=ZG.1 ae
   simp only at PM
   subst PM
   simp only[Zt,ZI,Ym]at B
   exact aH B
  rw[this];rfl
def arP(a:r1 X):wL X:=⟨λh=>⟨.map 15,by rw[a.xN Zd On];rfl,λy=>by
 have bD:U X h 15=_:=(a.U Zd).trans ast
 have Ag:((IP.map λE=>(E.1,D.agg (qR E.2))).map Prod.fst).Nodup:=by decide
 simp only[mN,bD,ay7,ff,axZ y _ Ag]
 have cb:((IP.map λE=>(E.1,D.agg (qR E.2))).find? λE=>decide (E.1=y)).map Prod.snd=(u4 y).map λs=>D.agg (qR s):=by
  rw[<-aBp y,List.find?_map]
  have:((λE:Int×D=>decide (E.1=y))∘λE:Int×(Int×Bool×Bool×Bool)=>(E.1,D.agg (qR E.2)))=λE=>decide (E.1=y):=rfl
  rw[this]
  cases IP.find? (λE=>decide (E.1=y))<;>rfl
 rw[cb]
 cases u4 y with
 |none=>rfl
 |some s=>rfl⟩⟩
def arR(a:r1 X):Jj X:=⟨arK a,arO a,arQ a⟩
end
end
end Go.Proofs.YtpeabpmnlmaabaaGreatDoor

