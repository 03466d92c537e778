/- Part of the proof of the last text; no conditions -/
import Derived.Test.YtbbkkkpgjaopkaaGreatDoorYs
import Derived.Test.YtbbkkkpgjaopkaaGreatDoorRows
import Derived.ProofKit
set_option maxHeartbeats 8000000
set_option linter.all false
namespace Go.Proofs.YtbbkkkpgjaopkaaGreatDoor
open Go.bp Go.aS
noncomputable section
def nm:List (String×Nat):=[((Tryz.prog.typeName? 3 176).getD "",176)]
def am:Nat×List (Nat×ag):=gF Tryz.prog nm Rows.scopeRenamesRow.laid Tryz.prog.globals.size
def Fl:am.1=21:=Zk
def e9:R ag:=mH am.2 .nil
def alH:e9.get 1=zC [.str [45,62], .str [60,60], .str [62,62], .str [60,61], .str [62,61], .str [60,62], .str [40], .str [41], .str [44], .str [59], .str [58], .str [61], .str [60], .str [62], .str [43], .str [45], .str [42]] 17:=Zk
def El:e9.get 3=zC [.slice 13 0 18 18] 1:=Zk
def tK:e9.get 2=zC [.map 15] 1:=Zk
def KU:e9.get 4=zC [.map 14] 1:=Zk
def Hf:e9.get 5=zC [.iface 176 (.ptr 12 0)] 1:=Zk
def u6:e9.get 6=zC [.iface 176 (.ptr 11 0)] 1:=Zk
def wN:e9.get 7=zC [.slice 16 0 2 2, .slice 17 0 1 1, .slice 18 0 6 6, .slice 19 0 2 2, .slice 20 0 1 1] 5:=Zk
def alI:e9.get 13=zC [.str [110,111,100,101], .str [114,101,116,117,114,110,115], .str [118,97,114], .str [108,101,116], .str [116,101,108], .str [119,104,101,110], .str [110,111,116], .str [111,114], .str [120,111,114], .str [97,110,100], .str [112,114,101], .str [102,98,121], .str [105,102], .str [116,104,101,110], .str [101,108,115,101], .str [109,101,114,103,101], .str [116,114,117,101], .str [102,97,108,115,101]] 18:=Zk
def alK:e9.get 15=some (.look [(.str [97,110,100], .bool true),(.str [101,108,115,101], .bool true),(.str [102,97,108,115,101], .bool true),(.str [102,98,121], .bool true),(.str [105,102], .bool true),(.str [108,101,116], .bool true),(.str [109,101,114,103,101], .bool true),(.str [110,111,100,101], .bool true),(.str [110,111,116], .bool true),(.str [111,114], .bool true),(.str [112,114,101], .bool true),(.str [114,101,116,117,114,110,115], .bool true),(.str [116,101,108], .bool true),(.str [116,104,101,110], .bool true),(.str [116,114,117,101], .bool true),(.str [118,97,114], .bool true),(.str [119,104,101,110], .bool true),(.str [120,111,114], .bool true)]):=Zk
structure rk(X:cn):Prop where
 a6:X.a6=22
 get:∀b,b<21->X.G.get b=e9.get b
section
variable{X:cn}{h:R ag}
def rk.Z(a:rk X){b:Nat}(aj:b<21):Z X h b=e9.get b:=by
 have B:Nat.blt b (q X).a6=true:=by
  show Nat.blt b X.a6=true
  rw[a.a6];simp[Nat.blt];omega
 unfold Go.bp.Z
 rw[B,fj]
 exact a.get b aj
def rk.rX(a:rk X){b n:Nat}(aj:b<21){c:R z}{st:nt}(bX:e9.get b=some (.cells c n st))(V:Nat):aR X h (.ptr b V)=c.get V:=bS (by rw[a.Z aj];exact bX) V
def ak6(a:rk X):lT X:=⟨⟨12,λh=>by rw[a.rX Zd Hf];rfl⟩,⟨11,λh=>by rw[a.rX Zd u6];rfl⟩⟩
def alc(a:rk X):NG X:=⟨λh=>by
 rw[IG,a.Z Zd,alH]
 rfl⟩
def aqW(w:bc):∀L:List (bc×z),(L.map Prod.fst).Nodup->oR X h 9 (.str w) (L.map λB=>(z.str B.1,B.2))=some ((L.find? λB=>decide (B.1=w)).map Prod.snd):=by
 intro L
 induction L with
 |nil=>intro _;rfl
 |cons B L ah=>
  intro aL
  rw[ZC,List.nodup_cons]at aL
  simp only[ZC,oR,ah aL.2,Ww,Cx,zm]
  by_cases a:B.1=w
  ·have cu:w=B.1:=a.symm
   have Qx:L.find? (λB=>decide (B.1=w))=none:=by
    rw[zn]
    intro x af bJ
    have:x.1=w:=by simpa using bJ
    exact aL.1 (by rw[a, <-this];exact List.mem_map_of_mem af)
   simp[a,Qx]
  ·have cu:¬w=B.1:=λal=>a al.symm
   simp[a,cu]
noncomputable def r8:List bc:=[[97,110,100],[101,108,115,101],[102,97,108,115,101],[102,98,121],[105,102],[108,101,116],[109,101,114,103,101],[110,111,100,101],[110,111,116],[111,114],[112,114,101],[114,101,116,117,114,110,115],[116,101,108],[116,104,101,110],[116,114,117,101],[118,97,114],[119,104,101,110],[120,111,114]]
def ada(s:bc):s∈r8↔s∈ta:=by
 constructor
 ·intro a
  have:∀w∈r8,w∈ta:=by decide
  exact this s a
 ·intro a
  have:∀w∈ta,w∈r8:=by decide
  exact this s a
def atj:((r8.map λs=>(s,z.bool true)).map λB:bc×z=>(z.str B.1,B.2))=[(.str [97,110,100], .bool true),(.str [101,108,115,101], .bool true),(.str [102,97,108,115,101], .bool true),(.str [102,98,121], .bool true),(.str [105,102], .bool true),(.str [108,101,116], .bool true),(.str [109,101,114,103,101], .bool true),(.str [110,111,100,101], .bool true),(.str [110,111,116], .bool true),(.str [111,114], .bool true),(.str [112,114,101], .bool true),(.str [114,101,116,117,114,110,115], .bool true),(.str [116,101,108], .bool true),(.str [116,104,101,110], .bool true),(.str [116,114,117,101], .bool true),(.str [118,97,114], .bool true),(.str [119,104,101,110], .bool true),(.str [120,111,114], .bool true)]:=rfl
def ala(a:rk X):JP X:=⟨.map 15,λh=>⟨by rw[a.rX Zd tK];rfl,λs=>by
 have bA:Z X h 15=_:=(a.Z Zd).trans alK
 rw[<-atj]at bA
 have Ly:((r8.map λs=>(s,z.bool true)).map Prod.fst).Nodup:=by decide
 simp only[my,bA,Mz,fj,aqW s _ Ly]
 have ch:((r8.map λs=>(s,z.bool true)).find? λB=>decide (B.1=s)).map Prod.snd=if s∈r8 then some (z.bool true)else none:=by
  by_cases aD:s∈r8
  ·rw[Zp aD]
   generalize r8=L at aD
   induction L with
   |nil=>cases aD
   |cons D L ah=>
    rw[ZC,zm]
    by_cases aC:D=s
    ·simp[aC]
    ·simp only[aC,Yl]
     exact ah ((Zq.1 aD).resolve_left (λB=>aC B.symm))
  ·rw[Zg aD]
   have:(r8.map λs=>(s,z.bool true)).find? (λB=>decide (B.1=s))=none:=by
    rw[zn]
    intro x af bJ
    obtain⟨e,F,rfl⟩:=ZK.1 af
    have:e=s:=by simpa using bJ
    exact aD (this▸F)
   rw[this];rfl
 rw[ch]
 have:decide (s∈ta)=decide (s∈r8):=by
  by_cases aD:s∈r8
  ·simp[aD,(ada s).1 aD]
  ·have:¬s∈ta:=λal=>aD ((ada s).2 al)
   simp[aD,this]
 rw[this]
 by_cases aD:s∈r8
 ·simp[aD,Fk]
 ·simp[aD,Fk]⟩⟩
def FG{P:Nat->Prop}{b o aO n:Nat}{ba:List (List z)}{st:nt}(a:rk X)(aj:b<21)(bX:e9.get b=some (.cells (R.ofList ba.flatten 0 .nil) n st))(aL:n=o*aO)(aG:ba.length=o)(U:∀r∈ba,r.length=aO)(aX:o<=300000)(b1:P b):ee X h P b (.slice b 0 o o) aO ba:=
 MQ (st:=st) (by rw[a.Z aj,bX,aL]) aG U aX b1
def ak9(a:rk X):sg X:=⟨by rw[a.a6];decide,λh=>⟨13, .slice 13 0 18 18,by rw[a.rX Zd El];rfl,FG a Zd alI rfl rfl Zd Zd (by rw[a.a6];decide)⟩⟩
def alM:e9.get 16=zC ((ao 0).map λV=>[z.str V.1, .int .i64 V.2]).flatten 4:=Zk
def alN:e9.get 17=zC ((ao 1).map λV=>[z.str V.1, .int .i64 V.2]).flatten 2:=Zk
def alO:e9.get 18=zC ((ao 2).map λV=>[z.str V.1, .int .i64 V.2]).flatten 12:=Zk
def alP:e9.get 19=zC ((ao 3).map λV=>[z.str V.1, .int .i64 V.2]).flatten 4:=Zk
def alQ:e9.get 20=zC ((ao 4).map λV=>[z.str V.1, .int .i64 V.2]).flatten 2:=Zk
def Jw(o:Nat):∀r∈(ao o).map λV=>[z.str V.1, .int .i64 V.2],r.length=2:=by
 intro r U
 obtain⟨V,_,rfl⟩:=ZK.1 U
 rfl
set_option maxRecDepth 20000 in
def ak8(a:rk X):uI X:=⟨by rw[a.a6];decide,λh o aG=>by
 have b1:∀b,b<21->b<X.a6:=λb aj=>by rw[a.a6];omega
 match o,aG with
 |0,_=>exact⟨16, .slice 16 0 2 2,by rw[a.rX Zd wN];rfl,FG (P:=λe=>e<X.a6) (b:=16) (ba:=(ao 0).map λV=>[z.str V.1, .int .i64 V.2]) a Zd alM rfl rfl (Jw 0) Zd (b1 16 Zd)⟩
 |1,_=>exact⟨17, .slice 17 0 1 1,by rw[a.rX Zd wN];rfl,FG (P:=λe=>e<X.a6) (b:=17) (ba:=(ao 1).map λV=>[z.str V.1, .int .i64 V.2]) a Zd alN rfl rfl (Jw 1) Zd (b1 17 Zd)⟩
 |2,_=>exact⟨18, .slice 18 0 6 6,by rw[a.rX Zd wN];rfl,FG (P:=λe=>e<X.a6) (b:=18) (ba:=(ao 2).map λV=>[z.str V.1, .int .i64 V.2]) a Zd alO rfl rfl (Jw 2) Zd (b1 18 Zd)⟩
 |3,_=>exact⟨19, .slice 19 0 2 2,by rw[a.rX Zd wN];rfl,FG (P:=λe=>e<X.a6) (b:=19) (ba:=(ao 3).map λV=>[z.str V.1, .int .i64 V.2]) a Zd alP rfl rfl (Jw 3) Zd (b1 19 Zd)⟩
 |4,_=>exact⟨20, .slice 20 0 1 1,by rw[a.rX Zd wN];rfl,FG (P:=λe=>e<X.a6) (b:=20) (ba:=(ao 4).map λV=>[z.str V.1, .int .i64 V.2]) a Zd alQ rfl rfl (Jw 4) Zd (b1 20 Zd)⟩⟩
def aj8(D b:Int):lE X h 20 3 (.int .i64 D) (.int .i64 b)=some (sT D b):=Zk
def ar2(D:Int):mS X 20 3 (.int .i64 D)=true:=Zk
def aqV(w:Int):∀L:List (Int×z),(L.map Prod.fst).Nodup->oR X h 3 (.int .i64 w) (L.map λB=>(z.int .i64 B.1,B.2))=some ((L.find? λB=>decide (B.1=w)).map Prod.snd):=by
 intro L
 induction L with
 |nil=>intro _;rfl
 |cons B L ah=>
  intro aL
  rw[ZC,List.nodup_cons]at aL
  simp only[ZC,oR,ah aL.2,aj8,xj,zm]
  by_cases a:B.1=w
  ·have Qx:L.find? (λB=>decide (B.1=w))=none:=by
    rw[zn]
    intro x af bJ
    have:x.1=w:=by simpa using bJ
    exact aL.1 (by rw[a, <-this];exact List.mem_map_of_mem af)
   simp[a,Qx]
  ·have cu:¬w=B.1:=λal=>a al.symm
   simp[a,cu]
noncomputable def FN:List (Int×(Int×Bool×Bool×Bool)):=[1,2,3,4,5,6,19,20,23,24,25,26].map λo:Int=>(o,(tc o).getD (0,false,false,false))
def alJ:e9.get 14=some (.look ((FN.map λB=>(B.1,z.agg (pC B.2))).map λB=>(z.int .i64 B.1,B.2))):=Zk
def aud(o:Int):(FN.find? λB=>decide (B.1=o)).map Prod.snd=tc o:=by
 by_cases aG:o=1\/o=2\/o=3\/o=4\/o=5\/o=6\/o=19\/o=20\/o=23\/o=24\/o=25\/o=26
 ·rcases aG with rfl|rfl|rfl|rfl|rfl|rfl|rfl|rfl|rfl|rfl|rfl|rfl<;>decide
 ·have I:tc o=none:=by
   unfold tc
   rw[Zg Zo,Zg Zo,Zg Zo,Zg Zo,Zg Zo,Zg Zo,Zg Zo,Zg Zo,Zg Zo]
  rw[I]
  have:FN.find? (λB=>decide (B.1=o))=none:=by
   rw[zn]
   intro x af bJ
   have LZ:x.1=o:=by simpa using bJ
   obtain⟨e,F,rfl⟩:=ZK.1 af
   simp only at LZ
   subst LZ
   simp only[Zq,ZJ,Yn]at F
   exact aG F
  rw[this];rfl
def alb(a:rk X):x0 X:=⟨λh=>⟨.map 14,by rw[a.rX Zd KU];rfl,λo=>by
 have bA:Z X h 14=_:=(a.Z Zd).trans alJ
 have Ly:((FN.map λB=>(B.1,z.agg (pC B.2))).map Prod.fst).Nodup:=by decide
 simp only[my,bA,ar2,fj,aqV o _ Ly]
 have ch:((FN.map λB=>(B.1,z.agg (pC B.2))).find? λB=>decide (B.1=o)).map Prod.snd=(tc o).map λs=>z.agg (pC s):=by
  rw[<-aud o,List.find?_map]
  have:((λB:Int×z=>decide (B.1=o))∘λB:Int×(Int×Bool×Bool×Bool)=>(B.1,z.agg (pC B.2)))=λB=>decide (B.1=o):=rfl
  rw[this]
  cases FN.find? (λB=>decide (B.1=o))<;>rfl
 rw[ch]
 cases tc o with
 |none=>rfl
 |some s=>rfl⟩⟩
def ald(a:rk X):Gj X:=⟨ak6 a,ala a,alc a⟩
end
end
end Go.Proofs.YtbbkkkpgjaopkaaGreatDoor

