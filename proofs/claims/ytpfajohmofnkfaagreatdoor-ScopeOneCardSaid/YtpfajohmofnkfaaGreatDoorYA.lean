/- A part of the proof of the claim's last text: what it is used for is said there; no condition of its own. -/
import Derived.Test.YtpfajohmofnkfaaGreatDoorYz
import Derived.Test.YtpfajohmofnkfaaGreatDoorRows
import Derived.ProofKit
set_option maxHeartbeats 8000000
set_option linter.unusedVariables false
set_option linter.unusedSimpArgs false
namespace Go.Proofs.YtpfajohmofnkfaaGreatDoor
open Go.al Go.bh
noncomputable section
def nm:List (String×Nat):=[((Tryz.prog.typeName? 3 304).getD "",304)]
def ap:Nat×List (Nat×an):=hy Tryz.prog nm Rows.scopeOneRow.laid Tryz.prog.globals.size
theorem EQ:ap.1=22:=by kernel_rfl
def fi:U an:=oo ap.2 .nil
theorem akh:fi.get 1=some (.cells (U.ofList [.str [45,62], .str [60,60], .str [62,62], .str [60,61], .str [62,61], .str [60,62], .str [40], .str [41], .str [44], .str [59], .str [58], .str [61], .str [60], .str [62], .str [43], .str [45], .str [42]] 0 .nil) 17 .own):=by kernel_rfl
theorem DN:fi.get 2=some (.cells (U.ofList [.slice 14 0 18 18] 0 .nil) 1 .own):=by kernel_rfl
theorem tJ:fi.get 3=some (.cells (U.ofList [.map 16] 0 .nil) 1 .own):=by kernel_rfl
theorem Kn:fi.get 5=some (.cells (U.ofList [.map 15] 0 .nil) 1 .own):=by kernel_rfl
theorem GI:fi.get 6=some (.cells (U.ofList [.iface 304 (.ptr 13 0)] 0 .nil) 1 .own):=by kernel_rfl
theorem vD:fi.get 7=some (.cells (U.ofList [.iface 304 (.ptr 12 0)] 0 .nil) 1 .own):=by kernel_rfl
theorem xa:fi.get 9=some (.cells (U.ofList [.slice 17 0 2 2, .slice 18 0 1 1, .slice 19 0 6 6, .slice 20 0 2 2, .slice 21 0 1 1] 0 .nil) 5 .own):=by kernel_rfl
theorem aki:fi.get 14=some (.cells (U.ofList [.str [110,111,100,101], .str [114,101,116,117,114,110,115], .str [118,97,114], .str [108,101,116], .str [116,101,108], .str [119,104,101,110], .str [110,111,116], .str [111,114], .str [120,111,114], .str [97,110,100], .str [112,114,101], .str [102,98,121], .str [105,102], .str [116,104,101,110], .str [101,108,115,101], .str [109,101,114,103,101], .str [116,114,117,101], .str [102,97,108,115,101]] 0 .nil) 18 .own):=by kernel_rfl
theorem akk:fi.get 16=some (.look [(.str [97,110,100], .bool true),(.str [101,108,115,101], .bool true),(.str [102,97,108,115,101], .bool true),(.str [102,98,121], .bool true),(.str [105,102], .bool true),(.str [108,101,116], .bool true),(.str [109,101,114,103,101], .bool true),(.str [110,111,100,101], .bool true),(.str [110,111,116], .bool true),(.str [111,114], .bool true),(.str [112,114,101], .bool true),(.str [114,101,116,117,114,110,115], .bool true),(.str [116,101,108], .bool true),(.str [116,104,101,110], .bool true),(.str [116,114,117,101], .bool true),(.str [118,97,114], .bool true),(.str [119,104,101,110], .bool true),(.str [120,111,114], .bool true)]):=by kernel_rfl
structure q5(X:cD):Prop where
 bj:X.bj=23
 get:∀b,b<22->X.G.get b=fi.get b
section
variable{X:cD}{h:U an}
theorem q5.ab(a:q5 X){b:Nat}(ai:b<22):ab X h b=fi.get b:=by
 have E:Nat.blt b (y X).bj=true:=by
  show Nat.blt b X.bj=true
  rw[a.bj];simp[Nat.blt];omega
 unfold Go.al.ab
 rw[E,eB]
 exact a.get b ai
theorem q5.m1(a:q5 X){b n:Nat}(ai:b<22){c:U H}{st:oG}(bV:fi.get b=some (.cells c n st))(W:Nat):ao X h (.ptr b W)=c.get W:=bW (by rw[a.ab ai];exact bV) W
theorem ajJ(a:q5 X):lL X:=⟨⟨13,λh=>by rw[a.m1 Zd GI];rfl⟩,⟨12,λh=>by rw[a.m1 Zd vD];rfl⟩⟩
theorem ajO(a:q5 X):MY X:=⟨λh=>by
 rw[QB,a.ab Zd,akh]
 rfl⟩
theorem ao7(w:a1):∀L:List (a1×H),(L.map Prod.fst).Nodup->oe X h 9 (.str w) (L.map λE=>(H.str E.1,E.2))=some ((L.find? λE=>decide (E.1=w)).map Prod.snd):=by
 intro L
 induction L with
 |nil=>intro _;rfl
 |cons E L ah=>
  intro aS
  rw[Zy,YO]at aS
  simp only[Zy,oe,ah aS.2,Vo,Ct,YT]
  by_cases a:E.1=w
  ·have cv:w=E.1:=a.symm
   have PB:L.find? (λE=>decide (E.1=w))=none:=by
    rw[zq]
    intro x ag cf
    have:x.1=w:=by simpa using cf
    exact aS.1 (by rw[a, <-this];exact YP ag)
   simp[a,PB]
  ·have cv:¬w=E.1:=λar=>a ar.symm
   simp[a,cv]
noncomputable def rX:List a1:=[[97,110,100],[101,108,115,101],[102,97,108,115,101],[102,98,121],[105,102],[108,101,116],[109,101,114,103,101],[110,111,100,101],[110,111,116],[111,114],[112,114,101],[114,101,116,117,114,110,115],[116,101,108],[116,104,101,110],[116,114,117,101],[118,97,114],[119,104,101,110],[120,111,114]]
theorem abP(s:a1):s∈rX↔s∈uK:=by
 constructor
 ·intro a
  have:∀w∈rX,w∈uK:=by decide
  exact this s a
 ·intro a
  have:∀w∈uK,w∈rX:=by decide
  exact this s a
theorem arm:((rX.map λs=>(s,H.bool true)).map λE:a1×H=>(H.str E.1,E.2))=[(.str [97,110,100], .bool true),(.str [101,108,115,101], .bool true),(.str [102,97,108,115,101], .bool true),(.str [102,98,121], .bool true),(.str [105,102], .bool true),(.str [108,101,116], .bool true),(.str [109,101,114,103,101], .bool true),(.str [110,111,100,101], .bool true),(.str [110,111,116], .bool true),(.str [111,114], .bool true),(.str [112,114,101], .bool true),(.str [114,101,116,117,114,110,115], .bool true),(.str [116,101,108], .bool true),(.str [116,104,101,110], .bool true),(.str [116,114,117,101], .bool true),(.str [118,97,114], .bool true),(.str [119,104,101,110], .bool true),(.str [120,111,114], .bool true)]:=rfl
theorem ajM(a:q5 X):I7 X:=⟨.map 16,λh=>⟨by rw[a.m1 Zd tJ];rfl,λs=>by
 have bF:ab X h 16=_:=(a.ab Zd).trans akk
 rw[<-arm]at bF
 have ub:((rX.map λs=>(s,H.bool true)).map Prod.fst).Nodup:=by decide
 simp only[iZ,bF,E4,eB,ao7 s _ ub]
 have b5:((rX.map λs=>(s,H.bool true)).find? λE=>decide (E.1=s)).map Prod.snd=if s∈rX then some (H.bool true)else none:=by
  by_cases aH:s∈rX
  ·rw[Zr aH]
   generalize rX=L at aH
   induction L with
   |nil=>cases aH
   |cons I L ah=>
    rw[Zy,YT]
    by_cases aG:I=s
    ·simp[aG]
    ·simp only[aG,Yf]
     exact ah ((Zl.1 aH).resolve_left (λE=>aG E.symm))
  ·rw[Zg aH]
   have:(rX.map λs=>(s,H.bool true)).find? (λE=>decide (E.1=s))=none:=by
    rw[zq]
    intro x ag cf
    obtain⟨j,T,rfl⟩:=ZD.1 ag
    have:j=s:=by simpa using cf
    exact aH (this▸T)
   rw[this];rfl
 rw[b5]
 have:decide (s∈uK)=decide (s∈rX):=by
  by_cases aH:s∈rX
  ·simp[aH,(abP s).1 aH]
  ·have:¬s∈uK:=λar=>aH ((abP s).2 ar)
   simp[aH,this]
 rw[this]
 by_cases aH:s∈rX
 ·simp[aH,EP]
 ·simp[aH,EP]⟩⟩
theorem Fe{P:Nat->Prop}{b B bd n:Nat}{b6:List (List H)}{st:oG}(a:q5 X)(ai:b<22)(bV:fi.get b=some (.cells (U.ofList b6.flatten 0 .nil) n st))(aS:n=B*bd)(aP:b6.length=B)(S:∀r∈b6,r.length=bd)(bi:B<=300000)(co:P b):ej X h P b (.slice b 0 B B) bd b6:=
 Me (st:=st) (by rw[a.ab ai,bV,aS]) aP S bi co
theorem ajL(a:q5 X):r9 X:=⟨by rw[a.bj];decide,λh=>⟨14, .slice 14 0 18 18,by rw[a.m1 Zd DN];rfl,Fe a Zd aki rfl rfl Zd Zd (by rw[a.bj];decide)⟩⟩
theorem akm:fi.get 17=some (.cells (U.ofList ((aq 0).map λW=>[H.str W.1, .int .i64 W.2]).flatten 0 .nil) 4 .own):=by kernel_rfl
theorem akn:fi.get 18=some (.cells (U.ofList ((aq 1).map λW=>[H.str W.1, .int .i64 W.2]).flatten 0 .nil) 2 .own):=by kernel_rfl
theorem ako:fi.get 19=some (.cells (U.ofList ((aq 2).map λW=>[H.str W.1, .int .i64 W.2]).flatten 0 .nil) 12 .own):=by kernel_rfl
theorem akp:fi.get 20=some (.cells (U.ofList ((aq 3).map λW=>[H.str W.1, .int .i64 W.2]).flatten 0 .nil) 4 .own):=by kernel_rfl
theorem akq:fi.get 21=some (.cells (U.ofList ((aq 4).map λW=>[H.str W.1, .int .i64 W.2]).flatten 0 .nil) 2 .own):=by kernel_rfl
theorem IU(B:Nat):∀r∈(aq B).map λW=>[H.str W.1, .int .i64 W.2],r.length=2:=by
 intro r S
 obtain⟨W,_,rfl⟩:=ZD.1 S
 rfl
set_option maxRecDepth 20000 in
theorem ajK(a:q5 X):vg X:=⟨by rw[a.bj];decide,λh B aP=>by
 have co:∀b,b<22->b<X.bj:=λb ai=>by rw[a.bj];omega
 match B,aP with
 |0,_=>exact⟨17, .slice 17 0 2 2,by rw[a.m1 Zd xa];rfl,Fe (P:=λj=>j<X.bj) (b:=17) (b6:=(aq 0).map λW=>[H.str W.1, .int .i64 W.2]) a Zd akm rfl rfl (IU 0) Zd (co 17 Zd)⟩
 |1,_=>exact⟨18, .slice 18 0 1 1,by rw[a.m1 Zd xa];rfl,Fe (P:=λj=>j<X.bj) (b:=18) (b6:=(aq 1).map λW=>[H.str W.1, .int .i64 W.2]) a Zd akn rfl rfl (IU 1) Zd (co 18 Zd)⟩
 |2,_=>exact⟨19, .slice 19 0 6 6,by rw[a.m1 Zd xa];rfl,Fe (P:=λj=>j<X.bj) (b:=19) (b6:=(aq 2).map λW=>[H.str W.1, .int .i64 W.2]) a Zd ako rfl rfl (IU 2) Zd (co 19 Zd)⟩
 |3,_=>exact⟨20, .slice 20 0 2 2,by rw[a.m1 Zd xa];rfl,Fe (P:=λj=>j<X.bj) (b:=20) (b6:=(aq 3).map λW=>[H.str W.1, .int .i64 W.2]) a Zd akp rfl rfl (IU 3) Zd (co 20 Zd)⟩
 |4,_=>exact⟨21, .slice 21 0 1 1,by rw[a.m1 Zd xa];rfl,Fe (P:=λj=>j<X.bj) (b:=21) (b6:=(aq 4).map λW=>[H.str W.1, .int .i64 W.2]) a Zd akq rfl rfl (IU 4) Zd (co 21 Zd)⟩⟩
theorem aiG(I b:Int):mN X h 20 3 (.int .i64 I) (.int .i64 b)=some (xG I b):=by kernel_rfl
theorem ap3(I:Int):lP X 20 3 (.int .i64 I)=true:=by kernel_rfl
theorem ao6(w:Int):∀L:List (Int×H),(L.map Prod.fst).Nodup->oe X h 3 (.int .i64 w) (L.map λE=>(H.int .i64 E.1,E.2))=some ((L.find? λE=>decide (E.1=w)).map Prod.snd):=by
 intro L
 induction L with
 |nil=>intro _;rfl
 |cons E L ah=>
  intro aS
  rw[Zy,YO]at aS
  simp only[Zy,oe,ah aS.2,aiG,HQ,YT]
  by_cases a:E.1=w
  ·have PB:L.find? (λE=>decide (E.1=w))=none:=by
    rw[zq]
    intro x ag cf
    have:x.1=w:=by simpa using cf
    exact aS.1 (by rw[a, <-this];exact YP ag)
   simp[a,PB]
  ·have cv:¬w=E.1:=λar=>a ar.symm
   simp[a,cv]
noncomputable def Fo:List (Int×(Int×Bool×Bool×Bool)):=[1,2,3,4,5,6,19,20,23,24,25,26].map λB:Int=>(B,(s8 B).getD (0,false,false,false))
theorem akj:fi.get 15=some (.look ((Fo.map λE=>(E.1,H.agg (pb E.2))).map λE=>(H.int .i64 E.1,E.2))):=by kernel_rfl
theorem ar8(B:Int):(Fo.find? λE=>decide (E.1=B)).map Prod.snd=s8 B:=by
 by_cases aP:B=1\/B=2\/B=3\/B=4\/B=5\/B=6\/B=19\/B=20\/B=23\/B=24\/B=25\/B=26
 ·rcases aP with rfl|rfl|rfl|rfl|rfl|rfl|rfl|rfl|rfl|rfl|rfl|rfl<;>decide
 ·have M:s8 B=none:=by
   unfold s8
   rw[Zg Zo,Zg Zo,Zg Zo,Zg Zo,Zg Zo,Zg Zo,Zg Zo,Zg Zo,Zg Zo]
  rw[M]
  have:Fo.find? (λE=>decide (E.1=B))=none:=by
   rw[zq]
   intro x ag cf
   have Er:x.1=B:=by simpa using cf
   obtain⟨j,T,rfl⟩:=ZD.1 ag
   simp only at Er
   subst Er
   simp only[Zl,ZJ,Yt]at T
   exact aP T
  rw[this];rfl
theorem ajN(a:q5 X):yk X:=⟨λh=>⟨.map 15,by rw[a.m1 Zd Kn];rfl,λB=>by
 have bF:ab X h 15=_:=(a.ab Zd).trans akj
 have ub:((Fo.map λE=>(E.1,H.agg (pb E.2))).map Prod.fst).Nodup:=by decide
 simp only[iZ,bF,ap3,eB,ao6 B _ ub]
 have b5:((Fo.map λE=>(E.1,H.agg (pb E.2))).find? λE=>decide (E.1=B)).map Prod.snd=(s8 B).map λs=>H.agg (pb s):=by
  rw[<-ar8 B,List.find?_map]
  have:((λE:Int×H=>decide (E.1=B))∘λE:Int×(Int×Bool×Bool×Bool)=>(E.1,H.agg (pb E.2)))=λE=>decide (E.1=B):=rfl
  rw[this]
  cases Fo.find? (λE=>decide (E.1=B))<;>rfl
 rw[b5]
 cases s8 B with
 |none=>rfl
 |some s=>rfl⟩⟩
theorem ajP(a:q5 X):FG X:=⟨ajJ a,ajM a,ajO a⟩
end
end
end Go.Proofs.YtpfajohmofnkfaaGreatDoor

