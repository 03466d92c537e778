/- A part of the proof of the claim's last text: what it is used for is said there; no condition of its own. -/
import Derived.Test.YtpfajohmofnkfaaGreatDoorYm
set_option maxHeartbeats 8000000
set_option linter.unusedVariables false
set_option linter.unusedSimpArgs false
namespace Go.Proofs.YtpfajohmofnkfaaGreatDoor
open Go.al Go.bh
noncomputable section
def bZ(t:Tok):List H:=[.int .i64 t.kind, .str t.text, .int .i64 t.at_, .int .u64 t.n, .bool t.ty.b, .bool t.ty.s, .int .i64 t.ty.w]
def oh:Nat:=3
def aoo(f:Nat):Bool:=l9 f [16,30,50,55,240,125,180,223]
structure d7(X:cD):Prop where
 none:∀f l,aoo f=false->X.O f l=none
structure bh(X:cD)(h:U an)(aF bE:Nat)(aR:List Tok)(i:Nat):Prop where
 at_:∃c ap,ab X h aF=some (.cells c 2 .own)/\c.get 0=some ap/\c.get 1=some (.int .i64 (i:Int))/\ej X h (λj=>j=bE) bE ap 7 (aR.map bZ)
 ne:aF≠bE
theorem bh.af{X:cD}{h V:U an}{aF bE:Nat}{aR:List Tok}{i:Nat}(a:bh X h aF bE aR i)(bN:ab X V aF=ab X h aF)(cg:ab X V bE=ab X h bE):bh X V aF bE aR i:=by
 obtain⟨c,ap,M,R,au,aM⟩:=a.at_
 exact⟨⟨c,ap,by rw[bN];exact M,R,au,aM.af λj T=>by subst T;exact cg⟩,a.ne⟩
theorem jD{C:aX}{h:U an}{b n W:Nat}{c:U H}{st:oG}{v:H}(a:ab C h b=some (.cells c n st))(bu:c.get W=some v):ao C h (.ptr b W)=some v:=by rw[c4,a];exact bu
section
variable{X:cD}{h V:U an}{k av aF bE:Nat}{aR:List Tok}{i:Nat}
theorem qI(aA:d7 X)(aS:(y X).bj<=k)(ax:bh X h aF bE aR i)(jN:aF<k)(jd:bE<k){t:Tok}(aT:aR[i]? =some t):
 a6 X 116 [.ptr aF 0] h k (λad V av=>ad= .agg (bZ t)/\bB X h k V av) (λ_ _ _=>False):=by
 refine dj (adf X) (aA.none _ _ rfl) ?_
 rw[adg]
 unfold Sy
 obtain⟨c,ap,M,R,au,aM⟩:=ax.at_
 have v8:=jD M R
 have bN:=jD M au
 have aN:i<(aR.map bZ).length:=by rw[Zu];exact(Zc.1 aT).1
 have eG:=aM.ik i aN
 have fN:cL X (bm X h k (some (.cells (U.ofList [.int .i64 0, .str [], .int .i64 0, .int .u64 0, .bool false, .bool false, .int .i64 0] 0 .nil) 7 .own))) 7 (.ptr bE (i*7))=some (.agg (bZ t)):=by
  have:=(aM.af (V:=bm X h k (some (.cells (U.ofList [.int .i64 0, .str [], .int .i64 0, .int .u64 0, .bool false, .bool false, .int .i64 0] 0 .nil) 7 .own))) (λj T=>by subst T;exact aK aS Zo)).row Zd (i:=i) (r:=bZ t) (by rw[Zv,aT];rfl)
  exact this
 refine gd @v8 @bN @eG @fN bZ.eq_1 ⟨?_⟩
 exact⟨rfl,dR⟩
def r1:List H:=[.int .i64 0, .str [], .int .i64 0, .int .u64 0, .bool false, .bool false, .int .i64 0]
theorem bh.on(ax:bh X h aF bE aR i){aa:Nat}{c:U H}(M:ab X V aF=some (.cells c 2 .own))(ci:∀d1 st,ab X h aF=some (.cells d1 2 st)->c=d1.set 1 (some (.int .i64 (aa:Int))))(cg:ab X V bE=ab X h bE):bh X V aF bE aR aa:=by
 obtain⟨d1,ap,be,b2,a3,a4⟩:=ax.at_
 have:=ci d1 _ be
 subst this
 refine⟨⟨_,ap,M, ?_, ?_,a4.af λj T=>by subst T;exact cg⟩,ax.ne⟩
 ·rw[U.kf,Zg Zd];exact b2
 ·rw[U.kf,Zr rfl]
theorem Gw(aA:d7 X)(aS:(y X).bj<=k)(t:Tok)(aw:bY)(a:∀V av,bB X h k V av->aw (.iface 26 (.agg [.int .i64 21, .int .i64 t.at_])) V av):
 a6 X 206 [.agg (bZ t)] h k (λ_ _ _=>False) aw:=by
 refine dj (aeX X) (aA.none _ _ rfl) ?_
 rw[aeY]
 unfold Tv bZ
 refine c0 ⟨?_⟩
 exact⟨a _ _ dR⟩
theorem ach(aA:d7 X)(aS:(y X).bj<=k)(ax:bh X h aF bE aR i)(hL:(y X).bj<=aF)(jN:aF<k)(jd:bE<k)(bi:aR.length<=300000){t:Tok}(aT:aR[i]? =some t){s:a1}(aH:hA t s=true):
 a6 X 174 [.ptr aF 0, .str s] h k (λad V av=>ad= .tuple [.agg (bZ t), .bool true]/\bh X V aF bE aR (i+1)/\cu X [aF] h k V av) (λ_ _ _=>False):=by
 refine dj (S3 X) (aA.none _ _ rfl) ?_
 rw[S4]
 unfold M3
 refine qh ?_
 have ll:=(Zc.1 aT).1
 have b8:bB X h k (bm X h k (some (.cells (U.ofList r1 0 .nil) 7 .own))) (k+1):=bB.fresh aS _
 have d3:bh X (bm X h k (some (.cells (U.ofList r1 0 .nil) 7 .own))) aF bE aR i:=ax.af (b8.af _ jN) (b8.af _ jd)
 refine(qI aA Zo d3 Zo Zo aT).mono ?_ (λ_ _ _ a=>a)
 rintro ad aV bp ⟨rfl,ct⟩
 have fX:=ct.le
 have R:ab X aV k=some (.cells (U.ofList r1 0 .nil) 7 .own):=by rw[ct.af _ Zo];exact bq aS
 have fV:cu X [aF] h k aV bp:=cu.of ((bB.fresh aS _).trans ct)
 have dh:bh X aV aF bE aR i:=d3.af (ct.af _ Zo) (ct.af _ Zo)
 obtain⟨c,ap,be,b2,a3,a4⟩:=dh.at_
 have aP:=fV.af
 simp only[hA,Zk,YN,Zh]at aH
 obtain⟨pG,rfl⟩:=aH
 have bN:=jD be a3
 have bF:aL .add (.int .i64 (i:Int)) (.int .i64 1)=some (.int .i64 ((i+1:Nat):Int)):=by rw[eQ Zo Zo];rfl
 have fh:decide (t.text≠t.text)=false:=by simp
 unfold r1 at R
 have fin:∀(jW:U an) (av:Nat),ab X jW aF=some (.cells (d0 c 1 [.int .i64 ((i+1:Nat):Int)]) 2 .own)->cu X [aF] h k jW av->ab X jW bE=ab X aV bE->bh X jW aF bE aR (i+1)/\cu X [aF] h k jW av:=λjW av M R au=>
  ⟨dh.on M (λd1 st a=>by rw[be]at a;cases a;exact r7 ..) au,R⟩
 have dv:=ax.ne
 rcases pG with jO|jO
 ·have cQ:decide (t.kind≠2)=false:=by simp[jO]
  refine e0 bZ.eq_1 @cQ @fh @bN @bF @be @R ⟨?_⟩
  refine⟨rfl,fin _ _ ?_ ?_ ?_⟩
  ·simp(disch:=omega) only[aK,bq];rfl
  ·exact⟨Zo,λb ai bO=>by have:=aP b ai bO;simp only[Zl,ZJ,Y0,Yt,ZG,Z8]at bO;simp(disch:=omega) only[aK];exact this⟩
  ·simp(disch:=omega) only[aK]
 ·have cQ:decide (t.kind≠2)=true:=by simp[jO]
  have cG:decide (t.kind≠6)=false:=by simp[jO]
  refine e0 bZ.eq_1 @cQ @cG @fh @bN @bF (Za @be @R) ⟨?_⟩
  refine⟨rfl,fin _ _ ?_ ?_ ?_⟩
  ·simp(disch:=omega) only[aK,bq];rfl
  ·exact⟨Zo,λb ai bO=>by have:=aP b ai bO;simp only[Zl,ZJ,Y0,Yt,ZG,Z8]at bO;simp(disch:=omega) only[aK];exact this⟩
  ·simp(disch:=omega) only[aK]
theorem acg(aA:d7 X)(aS:(y X).bj<=k)(ax:bh X h aF bE aR i)(hL:(y X).bj<=aF)(jN:aF<k)(jd:bE<k){t:Tok}(aT:aR[i]? =some t){s:a1}(aH:hA t s=false):
 a6 X 174 [.ptr aF 0, .str s] h k (λad V av=>ad= .tuple [.agg r1, .bool false]/\bh X V aF bE aR i/\cu X [aF] h k V av) (λ_ _ _=>False):=by
 refine dj (S3 X) (aA.none _ _ rfl) ?_
 rw[S4]
 unfold M3
 refine qh ?_
 have b8:bB X h k (bm X h k (some (.cells (U.ofList r1 0 .nil) 7 .own))) (k+1):=bB.fresh aS _
 have d3:bh X (bm X h k (some (.cells (U.ofList r1 0 .nil) 7 .own))) aF bE aR i:=ax.af (b8.af _ jN) (b8.af _ jd)
 refine(qI aA Zo d3 Zo Zo aT).mono ?_ (λ_ _ _ a=>a)
 rintro ad aV bp ⟨rfl,ct⟩
 have fX:=ct.le
 have R:ab X aV k=some (.cells (U.ofList r1 0 .nil) 7 .own):=by rw[ct.af _ Zo];exact bq aS
 have fV:cu X [aF] h k aV bp:=cu.of ((bB.fresh aS _).trans ct)
 have dh:bh X aV aF bE aR i:=d3.af (ct.af _ Zo) (ct.af _ Zo)
 have aP:=fV.af
 unfold r1 at R
 have fin:∀(jW:U an) (av:Nat),ab X jW aF=ab X aV aF->cu X [aF] h k jW av->ab X jW bE=ab X aV bE->bh X jW aF bE aR i/\cu X [aF] h k jW av:=λjW av M R au=>
  ⟨dh.af M au,R⟩
 simp only[hA,Bool.and_eq_false_iff,Bool.or_eq_false_iff,Zb]at aH
 by_cases jO:t.kind=2
 ·have aH:t.text≠s:=by rcases aH with a|a;exact absurd jO a.1;exact a
  have cQ:decide (t.kind≠2)=false:=by simp[jO]
  have fh:decide (t.text≠s)=true:=by simpa using aH
  refine hk bZ.eq_1 @cQ @fh @R ⟨?_⟩
  refine⟨rfl,fin _ _ ?_ ?_ ?_⟩
  ·simp(disch:=omega) only[aK]
  ·exact⟨Zo,λb ai bO=>by have:=aP b ai bO;simp only[Zl,ZJ,Y0,Yt,ZG,Z8]at bO;simp(disch:=omega) only[aK];exact this⟩
  ·simp(disch:=omega) only[aK]
 ·have cQ:decide (t.kind≠2)=true:=by simp[jO]
  by_cases nq:t.kind=6
  ·have aH:t.text≠s:=by rcases aH with a|a;exact absurd nq a.2;exact a
   have cG:decide (t.kind≠6)=false:=by simp[nq]
   have fh:decide (t.text≠s)=true:=by simpa using aH
   refine gd bZ.eq_1 @cQ @cG @fh @R ⟨?_⟩
   refine⟨rfl,fin _ _ ?_ ?_ ?_⟩
   ·simp(disch:=omega) only[aK]
   ·exact⟨Zo,λb ai bO=>by have:=aP b ai bO;simp only[Zl,ZJ,Y0,Yt,ZG,Z8]at bO;simp(disch:=omega) only[aK];exact this⟩
   ·simp(disch:=omega) only[aK]
  ·have cG:decide (t.kind≠6)=true:=by simp[nq]
   refine hk bZ.eq_1 @cQ @cG @R ⟨?_⟩
   refine⟨rfl,fin _ _ ?_ ?_ ?_⟩
   ·simp(disch:=omega) only[aK]
   ·exact⟨Zo,λb ai bO=>by have:=aP b ai bO;simp only[Zl,ZJ,Y0,Yt,ZG,Z8]at bO;simp(disch:=omega) only[aK];exact this⟩
   ·simp(disch:=omega) only[aK]
theorem AD(aA:d7 X)(aS:(y X).bj<=k)(ax:bh X h aF bE aR i)(hL:(y X).bj<=aF)(jN:aF<k)(jd:bE<k)(bi:aR.length<=300000){t:Tok}(aT:aR[i]? =some t)(B:Int):
 a6 X 173 [.ptr aF 0, .int .i64 B] h k (λad V av=>t.kind=B/\ad= .agg (bZ t)/\bh X V aF bE aR (i+1)/\cu X [aF] h k V av)
  (λad V av=>t.kind≠B/\ad= .iface 26 (.agg [.int .i64 21, .int .i64 t.at_])/\cu X [aF] h k V av):=by
 refine dj (ad9 X) (aA.none _ _ rfl) ?_
 rw[aea]
 unfold S2
 refine qh ?_
 have ll:=(Zc.1 aT).1
 have b8:bB X h k (bm X h k (some (.cells (U.ofList r1 0 .nil) 7 .own))) (k+1):=bB.fresh aS _
 have d3:bh X (bm X h k (some (.cells (U.ofList r1 0 .nil) 7 .own))) aF bE aR i:=ax.af (b8.af _ jN) (b8.af _ jd)
 refine(qI aA Zo d3 Zo Zo aT).Zm ?_
 rintro ad aV bp ⟨rfl,ct⟩
 have fX:=ct.le
 have R:ab X aV k=some (.cells (U.ofList r1 0 .nil) 7 .own):=by rw[ct.af _ Zo];exact bq aS
 have fV:cu X [aF] h k aV bp:=cu.of ((bB.fresh aS _).trans ct)
 have dh:bh X aV aF bE aR i:=d3.af (ct.af _ Zo) (ct.af _ Zo)
 obtain⟨c,ap,be,b2,a3,a4⟩:=dh.at_
 have aP:=fV.af
 have bN:=jD be a3
 have bF:aL .add (.int .i64 (i:Int)) (.int .i64 1)=some (.int .i64 ((i+1:Nat):Int)):=by rw[eQ Zo Zo];rfl
 unfold r1 at R
 have dv:=ax.ne
 by_cases pH:t.kind=B
 ·have cQ:decide (t.kind≠B)=false:=by simp[pH]
  refine iJ bZ.eq_1 @cQ @bN @bF @be @R ⟨?_⟩
  refine⟨pH,rfl,dh.on (c:=d0 c 1 [.int .i64 ((i+1:Nat):Int)]) ?_ (λd1 st a=>by rw[be]at a;cases a;exact r7 ..) ?_, ?_⟩
  ·simp(disch:=omega) only[aK,bq];rfl
  ·simp(disch:=omega) only[aK]
  ·exact⟨Zo,λb ai bO=>by have:=aP b ai bO;simp only[Zl,ZJ,Y0,Yt,ZG,Z8]at bO;simp(disch:=omega) only[aK];exact this⟩
 ·have cQ:decide (t.kind≠B)=true:=by simp[pH]
  refine e8 bZ.eq_1 @cQ @R ⟨?_⟩
  refine(Gw aA Zo t _ ?_).mono (λ_ _ _ a=>a.elim) (λ_ _ _ a=>a)
  intro V av b7
  have Hj:=b7.le
  refine⟨pH,rfl,Zo,λb ai bO=> ?_⟩
  have:=aP b ai bO
  simp only[Zl,ZJ,Y0,Yt,ZG,Z8]at bO
  rw[b7.af b Zo]
  simp(disch:=omega) only[aK];exact this
end
end
end Go.Proofs.YtpfajohmofnkfaaGreatDoor

namespace Go.Proofs.YtpfajohmofnkfaaGreatDoor
open Go.al Go.bh
noncomputable section
section
variable{X:cD}{h V:U an}{k av aF bE:Nat}{aR:List Tok}{i:Nat}
def gG:Tok:=⟨0,[],0,0,dA⟩
def qU:List a1->Tok->List Tok->fR Tok
 |[],x,l=>ok x l
 |s::mI,_,l=>andThen (ei s l) λj l=>qU mI j l
theorem fm{aR:List Tok}{i:Nat}{x:Tok}{l:List Tok}(a:aR.drop i=x::l):aR[i]? =some x/\aR.drop (i+1)=l:=by
 constructor
 ·have:=congrArg (λl=>l[0]?) a
  simpa using this
 ·rw[<-zs,a];rfl
def hX(mI:List a1):List (List H):=mI.map λs=>[.str s]
theorem acG(aA:d7 X)(aS:(y X).bj<=k)(ax:bh X h aF bE aR i)(hL:(y X).bj<=aF)(jN:aF<k)(jd:bE<k)(bi:aR.length<=300000){bx:H}{cN:Nat}{mI:List a1}(xl:cN<k)(PY:cN≠aF)(aH:ej X h (λj=>j=cN) cN bx 1 (hX mI))
 {r:Except Int (Tok×List Tok)}(S:qU mI gG (aR.drop i)=some r):
 a6 X 172 [.ptr aF 0,bx] h k (λad V av=>∃x cy,r= .ok (x,aR.drop cy)/\ad= .agg (bZ x)/\bh X V aF bE aR cy/\cu X [aF] h k V av)
  (λad V av=>∃I,r= .error I/\ad= .iface 26 (.agg [.int .i64 21, .int .i64 I])/\cu X [aF] h k V av):=by
 refine dj (ad7 X) (aA.none _ _ rfl) ?_
 rw[ad8]
 unfold S1
 have fj:=aH.len
 have dv:=ax.ne
 have ua:=aH.many
 simp only[hX,Zu]at ua
 refine qh ?_
 refine qh ?_
 have OM:bB X h k (bm X (bm X h k (some (.cells (U.ofList (bZ gG) 0 .nil) 7 .own))) (k+1) (some (.cells (U.ofList (bZ gG) 0 .nil) 7 .own))) (k+1+1):=dR
 have Iw:ab X (bm X (bm X h k (some (.cells (U.ofList (bZ gG) 0 .nil) 7 .own))) (k+1) (some (.cells (U.ofList (bZ gG) 0 .nil) 7 .own))) k=some (.cells (U.ofList (bZ gG) 0 .nil) 7 .own):=by simp(disch:=omega) only[aK,bq]
 have cb:ab X (bm X (bm X h k (some (.cells (U.ofList (bZ gG) 0 .nil) 7 .own))) (k+1) (some (.cells (U.ofList (bZ gG) 0 .nil) 7 .own))) (k+1)=some (.cells (U.ofList (bZ gG) 0 .nil) 7 .own):=bq Zo
 refine rg @fj ⟨?_⟩
 refine j6 (λJ V n=>∃x cy,r= .ok (x,aR.drop cy)/\J.g 5=some (.ptr (k+1) 0)/\J.g 4=some (.ptr k 0)/\k+1<n/\ab X V (k+1)=some (.cells (U.ofList (bZ x) 0 .nil) 7 .own)/\ab X V k=some (.cells (U.ofList (bZ gG) 0 .nil) 7 .own)/\bh X V aF bE aR cy/\cu X [aF] h k V n) (λaa bK=> ?_) ?_
 ·refine f8 (λm J V n=>∃B cy x,m=mI.length-B/\B<=mI.length/\J.g 0=some (.ptr aF 0)/\J.g 9=some bx/\J.g 10=some (.int .i64 (mI.length:Int))/\J.g 11=some (.int .i64 (B:Int))/\J.g 5=some (.ptr (k+1) 0)/\J.g 4=some (.ptr k 0)/\k+1<n
   /\ab X V (k+1)=some (.cells (U.ofList (bZ x) 0 .nil) 7 .own)/\ab X V k=some (.cells (U.ofList (bZ gG) 0 .nil) 7 .own)/\bh X V aF bE aR cy/\cu X [aF] h k V n/\qU (mI.drop B) x (aR.drop cy)=some r)
   mI.length ⟨0,i,gG,Zo,Zo, ?_, ?_, ?_, ?_, ?_, ?_,Zo,cb,Iw,ax.af (OM.af _ jN) (OM.af _ jd),cu.of OM,S⟩ ?_
  ·exact bv
  ·exact bv
  ·refine yN ⟨?_⟩
   simp[hX]
  ·refine yN ⟨?_⟩
   rfl
  ·exact bv
  ·exact bv
  rintro m J aV n ⟨B,cy,x,rfl,aP,t0,t9,pc,ta,t5,t4,cR,b9,jK,dh,fV,bL⟩
  refine dc @pc @ta ⟨?_⟩
  refine Ds (λD8=> ?_) (λD8=> ?_)
  ·have D8:B<mI.length:=Zo
   have je:mI.drop B=mI[B]::mI.drop (B+1):=ZA D8
   rw[je]at bL
   have eG:=aH.ik B (by simp[hX];exact D8)
   have XX:ao X aV (.ptr cN (B*1))=some (.str mI[B]):=by
    have:=(aH.af (V:=aV) λj T=>by subst T;exact fV.af _ xl (by simp;exact PY)).cell B [.str mI[B]] 0 (.str mI[B]) (by simp[hX]) rfl
    rwa[ZS]at this
   refine gd @t9 @ta @eG @XX @t0 ⟨?_⟩
   generalize mI[B]=s at bL XX
   cases aI:aR.drop cy with
   |nil=>rw[aI]at bL;simp[qU,ei,andThen]at bL
   |cons j l=>
    obtain⟨T,aE⟩:=fm aI
    rw[aI]at bL
    simp only[qU,ei]at bL
    cases B9:hA j s with
    |true=>
     rw[B9]at bL
     simp only[ZB,andThen,ok]at bL
     refine(ach aA (by have:=fV.le;omega) dh hL Zo Zo bi T B9).Zm ?_
     rintro ad bo bw ⟨rfl,gg,en⟩
     have jf:=en.le
     have Ok:ab X bo (k+1)=some (.cells (U.ofList (bZ x) 0 .nil) 7 .own):=by rw[en.af _ Zo (by simp;omega)];exact b9
     have ajx:ab X bo k=some (.cells (U.ofList (bZ gG) 0 .nil) 7 .own):=by rw[en.af _ Zo (by simp;omega)];exact jK
     refine e8 @t5 @Ok @ta ⟨?_⟩
     have bF:aL .add (.int .i64 (B:Int)) (.int .i64 1)=some (.int .i64 ((B+1:Nat):Int)):=by rw[eQ Zo Zo];rfl
     refine cx @bF ⟨?_⟩
     refine⟨_, ?_,B+1,cy+1,j,rfl,Zo,bn t0,bn t9,bn pc,bv,bn t5,bn t4,Zo,bq Zo,by simp(disch:=omega) only[aK];exact ajx,gg.af (by simp(disch:=omega) only[aK]) (by simp(disch:=omega) only[aK]), ?_, ?_⟩
     ·omega
     ·have n1:=(fV.trans en).af
      exact⟨by have:=fV.le;omega,λb ai bO=>by rw[<-n1 b ai bO];simp(disch:=omega) only[aK]⟩
     ·rw[aE];exact bL
    |false=>
     rw[B9]at bL
     simp only[Zt,Zx,andThen,bad,Ze]at bL
     subst bL
     refine(acg aA (by have:=fV.le;omega) dh hL Zo Zo T B9).Zm ?_
     rintro ad bo bw ⟨rfl,gg,en⟩
     have jf:=en.le
     have Ok:ab X bo (k+1)=some (.cells (U.ofList (bZ x) 0 .nil) 7 .own):=by rw[en.af _ Zo (by simp;omega)];exact b9
     refine e8 @t5 @Ok @t0 ⟨?_⟩
     refine(qI aA (by have:=fV.le;omega) (gg.af (by simp(disch:=omega) only[aK]) (by simp(disch:=omega) only[aK])) Zo Zo T).Zm ?_
     rintro ad bX dd ⟨rfl,dN⟩
     have jC:=dN.le
     refine(Gw aA (by have:=fV.le;omega) j _ ?_).mono (λ_ _ _ a=>a.elim) (λ_ _ _ a=>a)
     intro b4 cA dX
     have iW:=dX.le
     have n1:=(fV.trans en).af
     refine⟨_,rfl,rfl,by have:=fV.le;omega,λb ai bO=> ?_⟩
     rw[dX.af b Zo,dN.af b Zo, <-n1 b ai bO]
     simp(disch:=omega) only[aK]
  ·have pH:B=mI.length:=Zo
   subst pH
   rw[List.drop_length]at bL
   simp only[qU,ok,Ze]at bL
   subst bL
   refine c0 ⟨?_⟩
   exact bK _ _ _ ⟨x,cy,rfl,bn t5,bn t4,cR,b9,jK,dh,fV⟩
 ·rintro J aV n ⟨x,cy,ag,t5,t4,cR,b9,jK,dh,fV⟩
  unfold bZ at b9
  unfold bZ gG dA at jK
  refine gd @t5 @t4 @b9 @jK (bW b9) ⟨?_⟩
  refine⟨x,cy,ag,rfl,dh.af (by simp(disch:=omega) only[aK]) (by simp(disch:=omega) only[aK]), ?_⟩
  exact⟨by have:=fV.le;omega,λb ai bO=>by rw[<-fV.af b ai bO];simp(disch:=omega) only[aK]⟩
end
end
end Go.Proofs.YtpfajohmofnkfaaGreatDoor

namespace Go.Proofs.YtpfajohmofnkfaaGreatDoor
open Go.al Go.bh
noncomputable section
structure ib(X:cD)(h:U an)(k aF bE:Nat)(aR:List Tok)(i:Nat):Prop where
 bj:(y X).bj<=k
 fK:(y X).bj<=aF
 g0:aF<k
 gF:bE<k
 many:aR.length<=300000
 par:bh X h aF bE aR i
theorem ib.go{X:cD}{h V:U an}{k av aF bE i cy:Nat}{aR:List Tok}(a:ib X h k aF bE aR i)(ax:bh X V aF bE aR cy)(aS:k<=av):ib X V av aF bE aR cy:=
 ⟨Zz a.bj aS,a.fK,ZI a.g0 aS,ZI a.gF aS,a.many,ax⟩
def ef(I b:Nat):Nat->Prop:=λj=>I<=j/\j<b
def w1(B I:Int):H:= .iface 26 (.agg [.int .i64 B, .int .i64 I])
def jo(X:cD)(aF bE:Nat)(aR:List Tok)(h:U an)(k:Nat)(r:Except Int (bM×List Tok)):bY:=λad V av=>
 ∃E cy,r= .ok (E,aR.drop cy)/\cP X V (ef k av) E ad/\bh X V aF bE aR cy/\cu X [aF] h k V av
def it{α:Type}(X:cD)(aF:Nat)(h:U an)(k:Nat)(r:Except Int α):bY:=λad V av=>
 ∃I,r= .error I/\ad=w1 21 I/\cu X [aF] h k V av
def vg(X:cD):Prop:=9<X.bj/\∀h B,B<5->∃b bx,ao X h (.ptr 9 B)=some bx/\ej X h (λj=>j<X.bj) b bx 2 ((aq B).map λW=>[.str W.1, .int .i64 W.2])
section
variable{X:cD}{h V bb aV:U an}{k av aQ bp aF bE:Nat}{aR:List Tok}{i:Nat}
theorem it.of{α er:Type}{ft:U an}{aa9:Nat}{r:Except Int α}{hq:Except Int er}{ad:H}(a:it X aF bb aQ r ad V av)(fV:cu X [aF] ft aa9 bb aQ)(S:∀I,r= .error I->hq= .error I):it X aF ft aa9 hq ad V av:=by
 obtain⟨I,M,R,au⟩:=a
 exact⟨I,S I M,R,fV.trans au⟩
theorem cP.fr{I b:Nat}{E:bM}{v:H}(a:cP X h (ef I b) E v)(fV:cu X [aF] h aQ V av)(ai:b<=aQ)(ax:aF<I){f2 ea:Nat}(M:f2<=I)(R:b<=ea):cP X V (ef f2 ea) E v:=
 cP.lift (λj T=>⟨Zz M T.1,ZI T.2 R⟩) _ _ (cP.af (λj T=>fV.af j (by have:=T.2;omega) (by simp;have:=T.1;omega)) _ _ a)
theorem cP.ex{I b:Nat}{E:bM}{v:H}(a:cP X h (ef I b) E v)(B:∀j,I<=j->j<b->ab X V j=ab X h j){f2 ea:Nat}(M:f2<=I)(R:b<=ea):cP X V (ef f2 ea) E v:=
 cP.lift (λj T=>⟨Zz M T.1,ZI T.2 R⟩) _ _ (cP.af (λj T=>B j T.1 T.2) _ _ a)
theorem p7{er:Type}{s:a1}{l:List Tok}{f:Option Tok->List Tok->fR er}{r:Except Int (er×List Tok)}(a:hZ s l f=some r):∃x cd,l=x::cd/\((hA x s=true/\f (some x) cd=some r)\/(hA x s=false/\f none l=some r)):=by
 unfold hZ lw at a
 cases l with
 |nil=>cases a
 |cons x cd=>
  refine⟨x,cd,rfl, ?_⟩
  simp only[]at a
  cases aH:hA x s with
  |true=>rw[aH]at a;exact .inl ⟨rfl,a⟩
  |false=>rw[aH]at a;exact .inr ⟨rfl,a⟩
theorem f4{α er:Type}{x:fR α}{f:α->List Tok->fR er}{r:Except Int (er×List Tok)}(a:andThen x f=some r):(∃I,x=some (.error I)/\r= .error I)\/∃I l,x=some (.ok (I,l))/\f I l=some r:=by
 unfold andThen at a
 split at a
 ·cases a
 ·injection a with a;exact .inl ⟨_,rfl,a.symm⟩
 ·exact .inr ⟨_,_,rfl,a⟩
theorem m7(aA:d7 X)(ax:ib X h k aF bE aR i){x:Tok}{l:List Tok}(aI:aR.drop i=x::l)(s:a1):
 a6 X 174 [.ptr aF 0, .str s] h k (λad V av=>ad= .tuple [.agg (bZ (if hA x s then x else gG)), .bool (hA x s)]/\bh X V aF bE aR (if hA x s then i+1 else i)/\cu X [aF] h k V av) (λ_ _ _=>False):=by
 obtain⟨M,R⟩:=fm aI
 cases aH:hA x s with
 |true=>simp only[ZB];exact ach aA ax.bj ax.par ax.fK ax.g0 ax.gF ax.many M aH
 |false=>simp only[Zt,Zx];exact acg aA ax.bj ax.par ax.fK ax.g0 ax.gF M aH
structure qb(X:cD)(aF bE:Nat)(aR:List Tok)(n:Nat):Prop where
 level:∀h k i (B:Nat) r,B<=5->ib X h k aF bE aR i->Go.bh.level n B (aR.drop i)=some r->a6 X 243 [.ptr aF 0, .int .i64 (B:Int)] h k (jo X aF bE aR h k r) (it X aF h k r)
 shift:∀h k i r,ib X h k aF bE aR i->Go.bh.shift n (aR.drop i)=some r->a6 X 251 [.ptr aF 0] h k (jo X aF bE aR h k r) (it X aF h k r)
 s5:∀h k i r,ib X h k aF bE aR i->Go.bh.wn n (aR.drop i)=some r->a6 X 258 [.ptr aF 0] h k (jo X aF bE aR h k r) (it X aF h k r)
 part:∀h k i r,ib X h k aF bE aR i->Go.bh.part n (aR.drop i)=some r->a6 X 261 [.ptr aF 0] h k (jo X aF bE aR h k r) (it X aF h k r)
 lh:∀h k i r,ib X h k aF bE aR i->Go.bh.lh n (aR.drop i)=some r->a6 X 232 [.ptr aF 0] h k (jo X aF bE aR h k r) (it X aF h k r)
 arrow:∀h k i r,ib X h k aF bE aR i->Go.bh.arrow n (aR.drop i)=some r->a6 X 208 [.ptr aF 0] h k (jo X aF bE aR h k r) (it X aF h k r)
 list:∀h k i r,ib X h k aF bE aR i->Go.bh.list n (aR.drop i)=some r->a6 X 262 [.ptr aF 0] h k (λad V av=>∃a2 cy br cN,r= .ok (a2,aR.drop cy)/\ej X V (ef k av) cN ad 1 (br.map λv=>[v])/\dq X V (λj=>ef k av j/\j≠cN) a2 br/\bh X V aF bE aR cy/\cu X [aF] h k V av) (it X aF h k r)
theorem eZ{C:aX}{f:Nat}{wO:List H}{aj aw:bY}{h:U an}{k:Nat}(P:U an->Prop)(co:P h)(a:∀bo,P bo->a6 C f wO bo k aj aw):a6 C f wO h k aj aw:=a h co
theorem qL(B:IntKind)(x:Int):H.same 30 (.int B x) (.int B x)=true:=by
 simp only[H.same,HQ];cases B<;>simp[lE]
theorem bh.ex(a:bh X h aF bE aR i)(B:bB X h k V av)(M:aF<k)(R:bE<k):bh X V aF bE aR i:=a.af (B.af _ M) (B.af _ R)
theorem agT(aA:d7 X){n:Nat}(ah:∀m,m<n->qb X aF bE aR m):∀h k i r,ib X h k aF bE aR i->Go.bh.arrow n (aR.drop i)=some r->a6 X 208 [.ptr aF 0] h k (jo X aF bE aR h k r) (it X aF h k r):=by
 intro h k i r ax S
 cases n with
 |zero=>simp[Go.bh.arrow]at S
 |succ n=>
 refine dj (ae1 X) (aA.none _ _ rfl) ?_
 rw[ae2]
 unfold Tx
 have gr:=ax.bj
 have jN:=ax.g0
 have hL:=ax.fK
 unfold Go.bh.arrow at S
 rcases f4 S with ⟨I,M,rfl⟩|⟨left,eh,M,S⟩
 ·exact((ah n Zo).lh h k i _ ax M).mono (λad V av a=>by obtain⟨E,cy,a,_⟩:=a;cases a) (λad V av a=>a)
 refine((ah n Zo).lh h k i _ ax M).mono ?_ (λad V av a=>by obtain⟨I,a,_⟩:=a;cases a)
 rintro uU bb aQ ⟨E,rI,aW,b8,d3,hl⟩
 cases aW
 have jB:=hl.le
 have me:=ax.go d3 jB
 obtain⟨x,cd,aI,ag⟩:=p7 S
 refine(m7 aA me aI _).Zm ?_
 rintro Fx aV bp ⟨rfl,dh,dl⟩
 have gZ:=dl.le
 rcases ag with ⟨aH,S⟩|⟨aH,S⟩
 ·rw[aH]at dh ⊢
  simp only[ZB]at dh ⊢
  rw[<-(fm aI).2]at S
  refine cx bZ.eq_1 ⟨?_⟩
  refine eZ (λbo=>bB X aV bp bo (bp+1+9)/\ab X bo bp=some (.cells (U.ofList (bZ x) 0 .nil) 7 .own)) ⟨dR,bq Zo⟩ ?_
  rintro bo ⟨cE,g3⟩
  rcases f4 S with ⟨I,R,rfl⟩|⟨right,c5,R,S⟩
  ·refine((ah n Zo).arrow bo _ _ _ (me.go (dh.ex cE Zo (by have:=me.gF;omega)) Zo) R).mono (λad V av a=>by obtain⟨E,cy,a,_⟩:=a;cases a) (λad V av a=>a.of (hl.trans (dl.trans (cu.of cE))) (λ_ a=>a))
  refine((ah n Zo).arrow bo _ _ _ (me.go (dh.ex cE Zo (by have:=me.gF;omega)) Zo) R).mono ?_ (λad V av a=>by obtain⟨I,a,_⟩:=a;cases a)
  rintro v4 bX dd ⟨js,i4,sK,dN,gT,eD⟩
  cases sK
  have jC:=eD.le
  simp only[ok,Ze]at S
  subst S
  have ec:ab X bX bp=some (.cells (U.ofList (bZ x) 0 .nil) 7 .own):=by rw[eD.af _ Zo (by simp;omega)];exact g3
  obtain⟨cb,rfl,hN,_⟩:=b8.ptr
  obtain⟨fc,rfl,pM,_⟩:=dN.ptr
  have hN:=hN.1
  refine dc (bW ec) bZ.eq_1 ⟨?_⟩
  refine jH (qL _ _) ?_
  refine⟨_,i4,rfl,cP.lit (iz:= .own) (cN:=bp+1+5) (br:=[.ptr cb 0, .ptr fc 0]) (bq Zo) ⟨Zo,Zo⟩ ?_ ⟨Zo,Zo⟩ rfl Zo Zo (dq.two (cP.af (λj T=> ?_) _ _ b8) (cP.af (λj T=> ?_) _ _ dN) (λj T=> ?_) (λj T=> ?_)), ?_, ?_⟩
  ·simp(disch:=omega) only[aK,bq]<;>rfl
  ·have M:=T.1;have R:=T.2
   simp(disch:=omega) only[aK]
   rw[eD.af j Zo (by simp;omega),cE.af j Zo,dl.af j Zo (by simp;omega)]
  ·have M:=T.1;have R:=T.2
   simp(disch:=omega) only[aK]
  ·simp only[ef]at T ⊢;omega
  ·simp only[ef]at T ⊢;omega
  ·exact gT.af (by simp(disch:=omega) only[aK]) (by have:=me.gF;simp(disch:=omega) only[aK])
  ·exact⟨Zo,λb ai bO=>by
    rw[<-((hl.trans (dl.trans (cu.of cE))).trans eD).af b ai bO]
    simp(disch:=omega) only[aK]⟩
 ·rw[aH]at dh ⊢
  simp only[Zt,Zx]at dh ⊢
  simp only[ok,Ze]at S
  subst S
  refine dc bZ.eq_1 gG.eq_1 ⟨?_⟩
  refine⟨left,rI,rfl,cP.ex b8 (λj M R=> ?_) (Zj _) Zo,dh.af (by simp(disch:=omega) only[aK]) (by have:=me.gF;simp(disch:=omega) only[aK]), ?_⟩
  ·simp(disch:=omega) only[aK]
   exact dl.af j Zo (by simp;omega)
  ·exact⟨Zo,λb ai bO=>by rw[<-(hl.trans dl).af b ai bO];simp(disch:=omega) only[aK]⟩
end
end
end Go.Proofs.YtpfajohmofnkfaaGreatDoor

namespace Go.Proofs.YtpfajohmofnkfaaGreatDoor
open Go.al Go.bh
noncomputable section
section
variable{X:cD}{h V bb aV:U an}{k av aQ bp aF bE:Nat}{aR:List Tok}{i:Nat}
theorem ai4(aA:d7 X){n:Nat}(ah:∀m,m<n->qb X aF bE aR m):∀h k i r,ib X h k aF bE aR i->Go.bh.lh n (aR.drop i)=some r->a6 X 232 [.ptr aF 0] h k (jo X aF bE aR h k r) (it X aF h k r):=by
 intro h k i r ax S
 cases n with
 |zero=>simp[Go.bh.lh]at S
 |succ n=>
 refine dj (afp X) (aA.none _ _ rfl) ?_
 rw[afq]
 unfold TI
 have gr:=ax.bj
 have jN:=ax.g0
 have hL:=ax.fK
 unfold Go.bh.lh at S
 rcases f4 S with ⟨I,M,rfl⟩|⟨left,eh,M,S⟩
 ·exact((ah n Zo).level h k i 0 _ Zo ax M).mono (λad V av a=>by obtain⟨E,cy,a,_⟩:=a;cases a) (λad V av a=>a)
 refine((ah n Zo).level h k i 0 _ Zo ax M).mono ?_ (λad V av a=>by obtain⟨I,a,_⟩:=a;cases a)
 rintro uU bb aQ ⟨E,rI,aW,b8,d3,hl⟩
 cases aW
 have jB:=hl.le
 have me:=ax.go d3 jB
 obtain⟨x,cd,aI,ag⟩:=p7 S
 refine(m7 aA me aI _).Zm ?_
 rintro Fx aV bp ⟨rfl,dh,dl⟩
 have gZ:=dl.le
 have jd:=me.gF
 rcases ag with ⟨aH,S⟩|⟨aH,S⟩
 ·rw[aH]at dh ⊢
  simp only[ZB]at dh ⊢
  rw[<-(fm aI).2]at S
  simp only[]at S
  obtain⟨cb,bx,cN,br,rfl,hN,v8,bN,cg,cH,eK,eR,ed,gl,im,nv,HK⟩:=b8.open
  have hN:=hN
  obtain⟨avh,avi⟩:=hN
  have d1:ao X aV (.ptr cb 0)=some (.int .i64 left.kind):=by rw[dl.fy _ _ Zo (by simp;omega)];exact v8
  have Dv:ao X aV (.ptr cb 8)=some bx:=by rw[dl.fy _ _ Zo (by simp;omega)];exact im
  have b0:sZ left=some true->∀(J:dw) (bo:U an) (bw:Nat),J.g 4=some (.ptr bp 0)->J.g 3=some (.ptr cb 0)->J.g 0=some (.ptr aF 0)->bB X aV bp bo bw->bp<bw->ab X bo bp=some (.cells (U.ofList (bZ x) 0 .nil) 7 .own)->
   fD (bw+9) λapA=>am (J.g 4) λasW=>D (bf 2 asW) λacu=>D (ao X bo acu) λacv=>am (J.g 3) λwv=>am (J.g 0) λasX=>a6 X 232 [asX] bo apA (λatn af6 apB=>D (fE 2 [.cI, .cI] [(0,1,wv),(1,1,atn)] (bw+5)) λabI=>kG X af6 (bw+5) abI.1 abI.2 λato af7=>D (ey [(.int .i64 0),(.int .i64 0),(.str []),(.bool false),(.bool false),(.bool false),(.int .i64 0),(.int .u64 0), .aU] [(0,1,(.int .i64 21)),(1,1,acv),(8,1,ato)]) λatp=>wQ X af7 (bw+7) atp λatq T7=>D (ao X T7 acu) λatr=>h8 atr (some acv) (jo X aF bE aR h k r atq T7 apB)) (it X aF h k r):=by
   intro Pu J bo bw t4 t3 t0 cE cR g3
   rw[Pu]at S
   simp only[]at S
   refine gd @t4 @t3 @t0 (bW g3) bZ.eq_1 ⟨?_⟩
   rcases f4 S with ⟨I,R,rfl⟩|⟨right,c5,R,S⟩
   ·refine((ah n Zo).lh bo _ _ _ (me.go (dh.ex cE Zo Zo) Zo) R).mono (λad V av a=>by obtain⟨E,cy,a,_⟩:=a;cases a) (λad V av a=>a.of (hl.trans (dl.trans (cu.of (cE.more Zo)))) (λ_ a=>a))
   refine((ah n Zo).lh bo _ _ _ (me.go (dh.ex cE Zo Zo) Zo) R).mono ?_ (λad V av a=>by obtain⟨I,a,_⟩:=a;cases a)
   rintro v4 bX dd ⟨js,i4,sK,dN,gT,eD⟩
   cases sK
   have jC:=eD.le
   simp only[ok,Ze]at S
   subst S
   have ec:ab X bX bp=some (.cells (U.ofList (bZ x) 0 .nil) 7 .own):=by rw[eD.af _ Zo (by simp;omega)];exact g3
   obtain⟨fc,rfl,pM,_⟩:=dN.ptr
   refine dc (bW ec) bZ.eq_1 ⟨?_⟩
   refine jH (qL _ _) ?_
   refine⟨_,i4,rfl,cP.lit (iz:= .own) (cN:=bw+5) (br:=[.ptr cb 0, .ptr fc 0]) (bq Zo) ⟨Zo,Zo⟩ ?_ ⟨Zo,Zo⟩ rfl Zo Zo (dq.two (cP.af (λj T=> ?_) _ _ b8) (cP.af (λj T=> ?_) _ _ dN) (λj T=> ?_) (λj T=> ?_)), ?_, ?_⟩
   ·simp(disch:=omega) only[aK,bq]<;>rfl
   ·have M:=T.1;have R:=T.2
    simp(disch:=omega) only[aK]
    rw[eD.af j Zo (by simp;omega),cE.af j Zo,dl.af j Zo (by simp;omega)]
   ·have M:=T.1;have R:=T.2
    simp(disch:=omega) only[aK]
   ·simp only[ef]at T ⊢;omega
   ·simp only[ef]at T ⊢;omega
   ·exact gT.af (by simp(disch:=omega) only[aK]) (by simp(disch:=omega) only[aK])
   ·exact⟨Zo,λb ai bO=>by
     rw[<-((hl.trans (dl.trans (cu.of (cE.more (by omega:bw<=bw+9))))).trans eD).af b ai bO]
     simp(disch:=omega) only[aK]⟩
  have Vu:sZ left=some false->∀(bo:U an) (bw:Nat) (aj:bY),bB X aV bp bo bw->a6 X 206 [.agg (bZ x)] bo bw aj (it X aF h k r):=by
   intro Pu bo bw aj cE
   rw[Pu]at S
   simp only[bad,Ze]at S
   subst S
   refine(Gw aA (by have:=cE.le;omega) x _ ?_).mono (λ_ _ _ a=>a.elim) (λ_ _ _ a=>a)
   intro V av b7
   exact⟨_,rfl,rfl,hl.trans (dl.trans (cu.of (cE.trans b7)))⟩
  by_cases mu:left.kind=1
  ·have cQ:decide (left.kind≠1)=false:=by simp[mu]
   refine gS bZ.eq_1 @d1 @cQ ⟨?_⟩
   refine gh ?_
   refine gS bZ.eq_1 @d1 @cQ ⟨?_⟩
   refine gh ?_
   refine oI ?_
   exact b0 (by simp[sZ,mu]) _ _ _ (bv) (bv) (bv) dR Zo (bq Zo)
  ·have cQ:decide (left.kind≠1)=true:=by simp[mu]
   by_cases f6:left.kind=4
   ·have ic:decide (left.kind≠4)=false:=by simp[f6]
    cases vI:left.args with
    |nil=>
     simp[sZ,f6,vI]at S
    |cons I wO=>
     obtain⟨v,bu,akJ⟩:=HK.get 0 I (by rw[vI];rfl)
     obtain⟨he,md,s3⟩:=nv.one bu
     have he:fp 1 bx (.int .i64 0)=some (.ptr cN 0):=he
     obtain⟨s6,rfl,Hy,ji⟩:=akJ.ptr
     obtain⟨avj,avk⟩:=Hy
     obtain⟨avS,avT⟩:=s3
     have Jy:ao X aV (.ptr cN 0)=some (.ptr s6 0):=by rw[dl.fy _ _ Zo (by simp;omega)];exact md
     have Gb:ao X aV (.ptr s6 0)=some (.int .i64 I.kind):=by rw[dl.fy _ _ Zo (by simp;omega)];exact ji
     by_cases aG:I.kind=1
     ·have fM:decide (I.kind≠1)=false:=by simp[aG]
      refine gS bZ.eq_1 @d1 (Za @cQ (Za @ic (Za @Dv (Za @he (Za @Jy (Za @Gb @fM)))))) ⟨?_⟩
      refine gh ?_
      refine gS bZ.eq_1 @d1 (Za @cQ (Za @ic (Za @Dv (Za @he (Za @Jy (Za @Gb @fM)))))) ⟨?_⟩
      refine gh ?_
      refine oI ?_
      exact b0 (by simp[sZ,f6,vI,aG]) _ _ _ (bv) (bv) (bv) dR Zo (bq Zo)
     ·have fM:decide (I.kind≠1)=true:=by simp[aG]
      refine gS bZ.eq_1 @d1 (Za @cQ (Za @ic (Za @Dv (Za @he (Za @Jy (Za @Gb @fM)))))) ⟨?_⟩
      refine gh ?_
      refine gS bZ.eq_1 @d1 (Za @cQ (Za @ic (Za @Dv (Za @he (Za @Jy (Za @Gb @fM)))))) ⟨?_⟩
      refine gh ?_
      refine oJ ?_
      refine cx bZ.eq_1 ⟨?_⟩
      exact Vu (by simp[sZ,f6,vI,aG]) _ _ _ dR
   ·have ic:decide (left.kind≠4)=true:=by simp[f6]
    refine gS bZ.eq_1 @d1 (Za @cQ @ic) ⟨?_⟩
    refine gh ?_
    refine gS bZ.eq_1 @d1 (Za @cQ @ic) ⟨?_⟩
    refine gh ?_
    refine oJ ?_
    refine cx bZ.eq_1 ⟨?_⟩
    exact Vu (by simp[sZ,mu,f6]) _ _ _ dR
 ·rw[aH]at dh ⊢
  simp only[Zt,Zx]at dh ⊢
  simp only[ok,Ze]at S
  subst S
  refine dc bZ.eq_1 gG.eq_1 ⟨?_⟩
  refine⟨left,rI,rfl,cP.ex b8 (λj M R=> ?_) (Zj _) Zo,dh.af (by simp(disch:=omega) only[aK]) (by simp(disch:=omega) only[aK]), ?_⟩
  ·simp(disch:=omega) only[aK]
   exact dl.af j Zo (by simp;omega)
  ·exact⟨Zo,λb ai bO=>by rw[<-(hl.trans dl).af b ai bO];simp(disch:=omega) only[aK]⟩
end
end
end Go.Proofs.YtpfajohmofnkfaaGreatDoor

namespace Go.Proofs.YtpfajohmofnkfaaGreatDoor
open Go.al Go.bh
noncomputable section
section
variable{X:cD}{h V bb aV:U an}{k av aQ bp aF bE:Nat}{aR:List Tok}{i:Nat}
def acW(X:cD)(aF bE:Nat)(aR:List Tok)(h:U an)(k:Nat)(r:Option bM×List Tok):bY:=λad V av=>∃cy,r.2=aR.drop cy/\bh X V aF bE aR cy/\cu X [aF] h k V av/\
 match r.1 with
 |none=>ad= .tuple [.cI, .bool false]
 |some E=>∃b B I,E= .mk B I [] false dA 0 []/\ad= .tuple [.ptr b 0, .bool true]/\k<=b/\b<av/\ab X V b=some (.cells (U.ofList (gJ B I [] false dA 0 .aU) 0 .nil) 9 .own)
theorem ahc(aA:d7 X)(eJ:vg X){B:Nat}(aP:B<5)(ax:ib X h k aF bE aR i){r:Option bM×List Tok}(S:nS (aq B) (aR.drop i)=some r):
 a6 X 252 [.ptr aF 0, .int .i64 (B:Int)] h k (acW X aF bE aR h k r) (λ_ _ _=>False):=by
 refine dj (afD X) (aA.none _ _ rfl) ?_
 rw[afE]
 unfold TP
 have gr:=ax.bj
 have jN:=ax.g0
 have hL:=ax.fK
 have jd:=ax.gF
 obtain⟨akO,eJ⟩:=eJ
 obtain⟨b,bx,nv,dp⟩:=eJ h B aP
 have eG:Ey 5 1 (.ptr 9 0) (.int .i64 (B:Int))=some (.ptr 9 B):=by
  simp[Ey,p2,IY,fB,aP]
 have fj:=dp.len
 rw[Zu]at fj
 have ua:=dp.many
 rw[Zu]at ua
 refine gS @eG @nv @fj ⟨?_⟩
 refine gh ?_
 refine f8 (λm J V n=>∃aa,m=(aq B).length-aa/\aa<=(aq B).length/\J.g 0=some (.ptr aF 0)/\J.g 12=some bx/\J.g 13=some (.int .i64 ((aq B).length:Int))/\J.g 14=some (.int .i64 (aa:Int))/\bh X V aF bE aR i/\cu X [aF] h k V n/\nS ((aq B).drop aa) (aR.drop i)=some r)
  (aq B).length ⟨0,Zo,Zo,bv,bv,bv,gL,ax.par,cu.refl _ _ _,S⟩ ?_
 rintro m J aV n ⟨aa,rfl,bK,t0,AT,lv,nK,dh,fV,ai⟩
 have fX:=fV.le
 have fq:=ax.go dh fX
 refine Ka @lv @nK ⟨?_⟩
 refine gh ?_
 refine Ds (λcR=> ?_) (λcR=> ?_)
 ·have cR:aa<(aq B).length:=Zo
  have je:(aq B).drop aa=(aq B)[aa]::(aq B).drop (aa+1):=ZA cR
  rw[je]at ai
  have Xf:=dp.ik aa (by simpa using cR)
  have fN:=((eJ aV B aP).choose_spec)
  obtain⟨eu,asd,uf,HA⟩:=eJ aV B aP
  have PX:asd=bx:=by
   have E:ao X aV (.ptr 9 B)=ao X h (.ptr 9 B):=by
    rw[c4,c4]
    have:∀h:U an,ab X h 9=X.G.get 9:=λh=>by
     have ald:Nat.blt 9 (y X).bj=true:=by simp[Nat.blt];exact akO
     simp only[ab,ald,eB];rfl
    rw[this,this]
   rw[E,nv]at uf
   exact(Yi uf).symm
  subst PX
  have Xf:=HA.ik aa (by simpa using cR)
  have fN:=λbo (a:∀j,j<X.bj->ab X bo j=ab X aV j)=>(HA.af (V:=bo) a).row Zd (i:=aa) (r:=[.str (aq B)[aa].1, .int .i64 (aq B)[aa].2]) (by rw[Zv,Zf cR];rfl)
  have fN:=fN aV (λ_ _=>rfl)
  generalize (aq B)[aa]=W at ai fN je
  obtain⟨s,eE⟩:=W
  simp only[nS]at ai
  refine gd @AT @nK @Xf @fN @t0 ⟨?_⟩
  refine eZ (λbo=>bB X aV n bo (n+1)/\ab X bo n=some (.cells (U.ofList [.str s, .int .i64 eE] 0 .nil) 2 .own)) ⟨dR,bq Zo⟩ ?_
  rintro bo ⟨cE,g3⟩
  cases aI:aR.drop i with
  |nil=>rw[aI]at ai;simp[lw]at ai
  |cons x l=>
   rw[aI]at ai
   refine(m7 aA (fq.go (dh.ex cE Zo Zo) Zo) aI s).Zm ?_
   rintro ad bX dd ⟨rfl,gT,eD⟩
   have jC:=eD.le
   have ec:ab X bX n=some (.cells (U.ofList [.str s, .int .i64 eE] 0 .nil) 2 .own):=by rw[eD.af _ Zo (by simp;omega)];exact g3
   have tN:=fV.trans ((cu.of cE).trans eD)
   cases aH:hA x s with
   |true=>
    rw[aH]at gT
    simp only[lw,aH,ZB]at ai gT ⊢
    simp only[Ze]at ai
    subst ai
    refine dc bZ.eq_1 (bW ec) ⟨?_⟩
    refine⟨i+1,(fm aI).2.symm,gT.af (by simp(disch:=omega) only[aK]) (by simp(disch:=omega) only[aK]), ?_,dd+1,eE,x.at_,rfl,rfl,Zo,Zo, ?_⟩
    ·exact⟨Zo,λb ai bO=>by rw[<-tN.af b ai bO];simp(disch:=omega) only[aK]⟩
    ·simp(disch:=omega) only[aK,bq]<;>rfl
   |false=>
    rw[aH]at gT
    simp only[lw,aH,Zt,Zx]at ai gT ⊢
    have bF:aL .add (.int .i64 (aa:Int)) (.int .i64 1)=some (.int .i64 ((aa+1:Nat):Int)):=by rw[eQ Zo Zo];rfl
    refine hk bZ.eq_1 gG.eq_1 @nK @bF ⟨?_⟩
    refine⟨_, ?_,aa+1,rfl,Zo,bn t0,bn AT,bn lv,bv,gT.af (by simp(disch:=omega) only[aK]) (by simp(disch:=omega) only[aK]), ?_,ai⟩
    ·omega
    ·exact⟨Zo,λb ai bO=>by rw[<-tN.af b ai bO];simp(disch:=omega) only[aK]⟩
 ·have bK:aa=(aq B).length:=Zo
  subst bK
  rw[List.drop_length]at ai
  simp only[nS,Ze]at ai
  subst ai
  refine c0 ⟨?_⟩
  exact⟨i,rfl,dh,fV,rfl⟩
end
end
end Go.Proofs.YtpfajohmofnkfaaGreatDoor

namespace Go.Proofs.YtpfajohmofnkfaaGreatDoor
open Go.al Go.bh
noncomputable section
section
variable{X:cD}{h V bb aV:U an}{k av aQ bp aF bE:Nat}{aR:List Tok}{i:Nat}
theorem aoS(aA:d7 X)(eJ:vg X){n:Nat}(ah:∀m,m<n->qb X aF bE aR m):∀h k i (B:Nat) r,B<=5->ib X h k aF bE aR i->Go.bh.level n B (aR.drop i)=some r->a6 X 243 [.ptr aF 0, .int .i64 (B:Int)] h k (jo X aF bE aR h k r) (it X aF h k r):=by
 intro h k i B r aP ax S
 cases n with
 |zero=>simp[Go.bh.level]at S
 |succ n=>
 refine dj (afx X) (aA.none _ _ rfl) ?_
 rw[afy]
 unfold TM
 have gr:=ax.bj
 have jN:=ax.g0
 have hL:=ax.fK
 have jd:=ax.gF
 unfold Go.bh.level at S
 by_cases n2:B=5
 ·subst n2
  rw[Zr rfl]at S
  have cQ:decide (((5:Nat):Int)=5)=true:=rfl
  refine cx @cQ ⟨?_⟩
  exact(ah n Zo).shift h k i r ax S
 ·rw[Zg n2]at S
  have cQ:decide ((B:Int)=5)=false:=by simp;omega
  have bF:aL .add (.int .i64 (B:Int)) (.int .i64 1)=some (.int .i64 ((B+1:Nat):Int)):=by rw[eQ Zo Zo];rfl
  refine dc @cQ @bF ⟨?_⟩
  rcases f4 S with ⟨I,M,rfl⟩|⟨left,eh,M,S⟩
  ·exact((ah n Zo).level h k i (B+1) _ Zo ax M).mono (λad V av a=>by obtain⟨E,cy,a,_⟩:=a;cases a) (λad V av a=>a)
  refine((ah n Zo).level h k i (B+1) _ Zo ax M).mono ?_ (λad V av a=>by obtain⟨I,a,_⟩:=a;cases a)
  rintro uU bb aQ ⟨E,rI,aW,b8,d3,hl⟩
  cases aW
  have jB:=hl.le
  refine gh ?_
  refine f8 (λm J V aY=>∃left v cy,m<=n/\J.g 0=some (.ptr aF 0)/\J.g 1=some (.int .i64 (B:Int))/\J.g 5=some v/\cP X V (ef k aY) left v/\bh X V aF bE aR cy/\cu X [aF] h k V aY/\oc m B left (aR.drop cy)=some r)
   n ⟨left,uU,rI,Zj _,bv,bv,bv,b8,d3,hl,S⟩ ?_
  clear b8 d3 hl M S
  rintro m J aV bp ⟨left,v,jh,bi,t0,t1,t5,ct,dh,dl,S⟩
  cases m with
  |zero=>simp[oc]at S
  |succ m=>
  unfold oc at S
  have gZ:=dl.le
  have fq:=ax.go dh gZ
  refine gh ?_
  refine dc @t0 @t1 ⟨?_⟩
  cases ai:nS (aq B) (aR.drop jh)with
  |none=>rw[ai]at S;cases S
  |some wo=>
  rw[ai]at S
  refine(ahc aA eJ Zo fq ai).Zm ?_
  rintro C5 bo bw ⟨i3,sJ,gg,en,aZ⟩
  have jf:=en.le
  obtain⟨ro,av3⟩:=wo
  simp only[]at sJ
  subst sJ
  cases ro with
  |none=>
   simp only[]at aZ S
   subst aZ
   simp only[ok,Ze]at S
   subst S
   refine cx @t5 ⟨?_⟩
   exact⟨left,i3,rfl,cP.fr ct en Zo Zo (Zj _) Zo,gg,dl.trans en⟩
  |some E=>
   simp only[]at aZ S
   obtain⟨b,eE,I,rfl,rfl,np,oT,g3⟩:=aZ
   refine hk @t0 @t1 @t5 @bF ⟨?_⟩
   rcases f4 S with ⟨f2,aM,rfl⟩|⟨right,gE,aM,S⟩
   ·refine((ah m Zo).level bo bw i3 (B+1) _ Zo (fq.go gg jf) aM).mono (λad V av a=>by obtain⟨E,cy,a,_⟩:=a;cases a) (λad V av a=>a.of (dl.trans en) (λ_ a=>a))
   refine((ah m Zo).level bo bw i3 (B+1) _ Zo (fq.go gg jf) aM).mono ?_ (λad V av a=>by obtain⟨I,a,_⟩:=a;cases a)
   rintro v4 bX dd ⟨js,i4,sK,dN,gT,eD⟩
   cases sK
   have jC:=eD.le
   have ec:ab X bX b=some (.cells (U.ofList (gJ eE I [] false dA 0 .aU) 0 .nil) 9 .own):=by rw[eD.af _ Zo (by simp;omega)];exact g3
   obtain⟨b1,rfl,mw,_⟩:=ct.ptr
   obtain⟨fc,rfl,pM,_⟩:=dN.ptr
   refine e8 @t5 @ec @t1 ⟨?_⟩
   have fin:∀gb,gb=bm X (bm X bX dd (some (.cells (U.ofList [.ptr b1 0, .ptr fc 0] 0 .nil) 2 .own))) b (some (.cells (U.ofList (gJ eE I [] false dA 0 (.slice dd 0 2 2)) 0 .nil) 9 .own))->cP X gb (ef k (dd+1)) (two (.mk eE I [] false dA 0 []) left right) (.ptr b 0)/\bh X gb aF bE aR i4/\cu X [aF] h k gb (dd+1):=by
    rintro gb rfl
    refine⟨cP.lit (iz:= .own) (cN:=dd) (br:=[.ptr b1 0, .ptr fc 0]) (bq Zo) ⟨Zo,Zo⟩ ?_ ⟨Zo,Zo⟩ rfl Zo Zo (dq.two (cP.af (λj T=> ?_) _ _ ct) (cP.af (λj T=> ?_) _ _ dN) (λj T=> ?_) (λj T=> ?_)), ?_, ?_⟩
    ·simp(disch:=omega) only[aK,bq]
    ·have M:=T.1;have R:=T.2
     simp(disch:=omega) only[aK]
     rw[eD.af j Zo (by simp;omega),en.af j Zo (by simp;omega)]
    ·have M:=T.1;have R:=T.2
     simp(disch:=omega) only[aK]
    ·simp only[ef]at T ⊢;omega
    ·simp only[ef]at T ⊢;omega
    ·exact gT.af (by simp(disch:=omega) only[aK]) (by simp(disch:=omega) only[aK])
    ·exact⟨Zo,λj T bO=>by
      rw[<-((dl.trans en).trans eD).af j T bO]
      simp(disch:=omega) only[aK]⟩
   obtain⟨ez,eT,f3⟩:=fin (bm X (bm X bX dd (some (.cells (U.ofList [.ptr b1 0, .ptr fc 0] 0 .nil) 2 .own))) b (some (.cells (d0 (U.ofList (gJ eE I [] false dA 0 .aU) 0 .nil) 8 (H.slice dd 0 2 2).cells) 9 .own))) rfl
   refine Ds (λR=> ?_) (λR=> ?_)
   ·have jO:B=2:=Zo
    rw[Zr jO]at S
    simp only[ok,Ze]at S
    subst S
    exact⟨_,i4,rfl,ez,eT,f3⟩
   ·rw[Zg Zo]at S
    exact⟨m,Zo,_, .ptr b 0,i4,Zo,bn t0,bn t1,bv,ez,eT,f3,S⟩
end
end
end Go.Proofs.YtpfajohmofnkfaaGreatDoor

namespace Go.Proofs.YtpfajohmofnkfaaGreatDoor
open Go.al Go.bh
noncomputable section
section
variable{X:cD}{h V bb aV:U an}{k av aQ bp aF bE:Nat}{aR:List Tok}{i:Nat}
theorem ar7(aA:d7 X){n:Nat}(ah:∀m,m<n->qb X aF bE aR m):∀h k i r,ib X h k aF bE aR i->Go.bh.shift n (aR.drop i)=some r->a6 X 251 [.ptr aF 0] h k (jo X aF bE aR h k r) (it X aF h k r):=by
 intro h k i r ax S
 cases n with
 |zero=>simp[Go.bh.shift]at S
 |succ n=>
 refine dj (afB X) (aA.none _ _ rfl) ?_
 rw[afC]
 unfold TO
 have gr:=ax.bj
 have jN:=ax.g0
 have hL:=ax.fK
 have jd:=ax.gF
 unfold Go.bh.shift at S
 rcases f4 S with ⟨I,M,rfl⟩|⟨left,eh,M,S⟩
 ·exact((ah n Zo).s5 h k i _ ax M).mono (λad V av a=>by obtain⟨E,cy,a,_⟩:=a;cases a) (λad V av a=>a)
 refine((ah n Zo).s5 h k i _ ax M).mono ?_ (λad V av a=>by obtain⟨I,a,_⟩:=a;cases a)
 rintro uU bb aQ ⟨E,rI,aW,b8,d3,hl⟩
 cases aW
 have jB:=hl.le
 refine gh ?_
 refine f8 (λm J V aY=>∃left v cy,J.g 0=some (.ptr aF 0)/\J.g 3=some v/\cP X V (ef k aY) left v/\bh X V aF bE aR cy/\cu X [aF] h k V aY/\oq m left (aR.drop cy)=some r)
  n ⟨left,uU,rI,bv,bv,b8,d3,hl,S⟩ ?_
 clear b8 d3 hl M S jB
 rintro m J aV bp ⟨left,v,jh,t0,t3,ct,dh,dl,S⟩
 cases m with
 |zero=>simp[oq]at S
 |succ m=>
 unfold oq at S
 have gZ:=dl.le
 have fq:=ax.go dh gZ
 refine gh ?_
 obtain⟨b1,rfl,mw,_⟩:=ct.ptr
 have mw:=mw.2
 refine cx @t0 ⟨?_⟩
 obtain⟨x,cd,aI,ag⟩:=p7 S
 refine(m7 aA fq aI _).Zm ?_
 rintro C5 bo bw ⟨rfl,gg,en⟩
 have jf:=en.le
 have qr:=aI
 refine rg bZ.eq_1 ⟨?_⟩
 refine j6 (λcT V aY=>∃HT eE x cy dS,cT.g 0=some (.ptr aF 0)/\cT.g 3=some (.ptr b1 0)/\cT.g 4=some (.int .i64 eE)/\cT.g 5=some (.ptr dS 0)/\cT.g 6=some (.bool HT)/\ab X V dS=some (.cells (U.ofList (bZ x) 0 .nil) 7 .own)/\bp<=dS/\dS<aY/\cP X V (ef k bp) left (.ptr b1 0)/\bh X V aF bE aR cy/\cu X [aF] h k V aY/\bp<=aY/\
  (HT=true->ot m eE x left (aR.drop cy)=some r)/\(HT=false->r= .ok (left,aR.drop cy))) (λaa bK=> ?_) ?_
 ·have g3:∀h,ab X (bm X (bm X h bw (some (.cells (U.ofList (bZ gG) 0 .nil) 7 .own))) bw (some (.cells (d0 (U.ofList (bZ gG) 0 .nil) 0 (bZ x)) 7 .own))) bw=some (.cells (U.ofList (bZ x) 0 .nil) 7 .own):=λh=>bq Zo
  rcases ag with ⟨aH,S⟩|⟨aH,S⟩
  ·rw[aH]at gg ⊢
   simp only[ZB]at gg ⊢
   refine c0 ⟨?_⟩
   refine bK _ _ _ ⟨true,19,x,jh+1,bw,bn t0,bn t3,bv,bv,bv,bq Zo,Zo,Zo, ?_,gg.af (by simp(disch:=omega) only[aK]) (by simp(disch:=omega) only[aK]), ?_,Zo,λ_=>by rw[(fm qr).2];exact S,λa=>by cases a⟩
   ·refine cP.ex ct (λj M R=> ?_) (Zj _) (Zj _)
    simp(disch:=omega) only[aK]
    exact en.af j Zo (by simp;omega)
   ·exact⟨Zo,λj T bO=>by rw[<-(dl.trans en).af j T bO];simp(disch:=omega) only[aK]⟩
  ·rw[aH]at gg ⊢
   simp only[Zt,Zx]at gg ⊢
   simp only[]at S
   refine cx @t0 ⟨?_⟩
   refine eZ (λbX=>bB X bo bw bX (bw+1)/\ab X bX bw=some (.cells (U.ofList (bZ gG) 0 .nil) 7 .own)) ⟨dR,bq Zo⟩ ?_
   rintro bX ⟨dN,ec⟩
   have kn:=fq.go (gg.ex dN Zo Zo) (by omega:bp<=bw+1)
   obtain⟨j,gs,nZ,anA⟩:=p7 S
   refine(m7 aA kn nZ _).Zm ?_
   rintro Fz b4 cA ⟨rfl,gU,dO⟩
   have iW:=dO.le
   have g5:ab X b4 bw=some (.cells (U.ofList (bZ gG) 0 .nil) 7 .own):=by rw[dO.af _ Zo (by simp;omega)];exact ec
   have dx:∀j,j<bp->j≠aF->ab X b4 j=ab X aV j:=λj M R=>by
    rw[dO.af j Zo (by simpa using R),dN.af j Zo,en.af j Zo (by simpa using R)]
   have ev:=((dl.trans en).trans (cu.of dN)).trans dO
   unfold bZ gG dA at g5
   rcases anA with ⟨PV,S⟩|⟨PV,S⟩
   ·rw[PV]at gU ⊢
    simp only[ZB]at gU ⊢
    refine dc bZ.eq_1 @g5 ⟨?_⟩
    refine bK _ _ _ ⟨true,20,j,jh+1,bw,bn t0,bn t3,bv,bv,bv,bq Zo,Zo,Zo, ?_,gU.af (by simp(disch:=omega) only[aK]) (by simp(disch:=omega) only[aK]), ?_,Zo,λ_=>by rw[(fm nZ).2];exact S,λa=>by cases a⟩
    ·refine cP.ex ct (λj M R=> ?_) (Zj _) (Zj _)
     simp(disch:=omega) only[aK]
     exact dx j R Zo
    ·exact⟨Zo,λj T bO=>by rw[<-ev.af j T bO];simp(disch:=omega) only[aK]⟩
   ·rw[PV]at gU ⊢
    simp only[Zt,Zx]at gU ⊢
    simp only[ok,Ze]at S
    refine hk bZ.eq_1 gG.eq_1 dA.eq_1 @g5 ⟨?_⟩
    refine bK _ _ _ ⟨false,20,gG,jh,bw,bn t0,bn t3,bv,bv,bv,bq Zo,Zo,Zo, ?_,gU.af (by simp(disch:=omega) only[aK]) (by simp(disch:=omega) only[aK]), ?_,Zo,λa=>(by cases a),λ_=>S.symm⟩
    ·refine cP.ex ct (λj M R=> ?_) (Zj _) (Zj _)
     simp(disch:=omega) only[aK]
     exact dx j R Zo
    ·exact⟨Zo,λj T bO=>by rw[<-ev.af j T bO];simp(disch:=omega) only[aK]⟩
 ·clear ct gg en ag S aI qr dh fq
  rintro atZ ck eo ⟨HT,eE,x,hP,dS,t0,t3,t4,t5,gN,g6,ava,avb,eU,g9,ev,rB,T,pL⟩
  cases HT with
  |false=>
   have S:=pL rfl
   subst S
   refine dc @gN @t3 ⟨?_⟩
   exact⟨left,hP,rfl,cP.lift (λj T=>⟨T.1,by have:=T.2;omega⟩) _ _ eU,g9,ev⟩
  |true=>
   have S:=T rfl
   cases m with
   |zero=>simp[ot]at S
   |succ m=>
   unfold ot at S
   have lG:=ax.go g9 (by omega:k<=eo)
   refine dc @gN @t0 ⟨?_⟩
   cases aI:aR.drop hP with
   |nil=>rw[aI]at S;simp[io,andThen]at S
   |cons j l=>
   rw[aI]at S
   simp only[io]at S
   refine(AD aA lG.bj lG.par lG.fK lG.g0 lG.gF lG.many (fm aI).1 4).mono ?_ ?_
   ·rintro acq cC ew ⟨aP,rfl,hn,eV⟩
    have oX:=eV.le
    rw[Zr aP]at S
    simp only[andThen,ok]at S
    have g7:ab X cC dS=some (.cells (U.ofList (bZ x) 0 .nil) 7 .own):=by rw[eV.af _ Zo (by simp;omega)];exact g6
    have e9:=cP.ex (V:=cC) eU (λj M R=>eV.af j Zo (by simp;omega)) (Zj _) (Zj _)
    have tN:=ev.trans eV
    refine rg bZ.eq_1 ⟨?_⟩
    refine gh ?_
    refine Ds (λO1=> ?_) (λO1=> ?_)
    ·rw[Zr O1]at S
     simp only[bad,Ze]at S
     subst S
     refine cx bZ.eq_1 ⟨?_⟩
     refine(Gw aA Zo j _ ?_).mono (λ_ _ _ a=>a.elim) (λ_ _ _ a=>a)
     intro V av b7
     exact⟨_,rfl,rfl,tN.trans (cu.of (bB.trans dR b7))⟩
    ·rw[Zg O1]at S
     refine gd bZ.eq_1 @t4 @t5 @t3 (bW g7) ⟨?_⟩
     refine⟨m,Zo,_, .ptr (ew+1+1) 0,hP+1,bn t0,bv,cP.lit (B:=1) (cap:=1) (n:=j.n) (kind:=eE) (at_:=x.at_) (name:=[]) (no:=false) (ty:=dA) (b:=ew+1+1) (iz:= .own) (cN:=ew+1) (br:=[.ptr b1 0]) (bq (b:=ew+1+1) Zo) ⟨Zo,Zo⟩ ?_ ⟨Zo,Zo⟩ rfl Zo Zo (dq.one (cP.af (λj T=> ?_) _ _ e9) (λj T=> ?_)), ?_, ?_,by rw[(fm aI).2];exact S⟩
     ·simp(disch:=omega) only[aK,bq]<;>rfl
     ·have M:=T.1;have R:=T.2
      simp(disch:=omega) only[aK]
     ·simp only[ef]at T ⊢;omega
     ·exact hn.af (by simp(disch:=omega) only[aK]) (by simp(disch:=omega) only[aK])
     ·exact⟨Zo,λj T bO=>by
       rw[<-tN.af j T bO]
       simp(disch:=omega) only[aK]⟩
   ·rintro acq cC ew ⟨aP,rfl,eV⟩
    rw[Zg aP]at S
    simp only[andThen,bad,Ze]at S
    subst S
    exact⟨_,rfl,rfl,ev.trans eV⟩
end
end
end Go.Proofs.YtpfajohmofnkfaaGreatDoor

namespace Go.Proofs.YtpfajohmofnkfaaGreatDoor
open Go.al Go.bh
noncomputable section
section
variable{X:cD}{h V bb aV:U an}{k av aQ bp aF bE:Nat}{aR:List Tok}{i:Nat}
theorem an1{n bd aa:Nat}{cs:List H}(B:IntKind)(a:aa<n):pV true n bd (.agg cs) (.int B (aa:Int))=some (.agg ((cs.drop (aa*bd)).take bd)):=by
 simp[pV,p2,fB,a]
def Ra:List H:=[.str [110,111,116], .int .i64 3, .str [45], .int .i64 4, .str [112,114,101], .int .i64 5]
theorem aqL{aa:Nat}(a:aa<3):∃s B,xX.drop aa=(s,B)::xX.drop (aa+1)/\(Ra.drop (aa*2)).take 2=[.str s, .int .i64 B]:=by
 match aa,a with
 |0,_=>exact⟨_,_,rfl,rfl⟩
 |1,_=>exact⟨_,_,rfl,rfl⟩
 |2,_=>exact⟨_,_,rfl,rfl⟩
theorem aqS(aA:d7 X){n:Nat}(ah:∀m,m<n->qb X aF bE aR m):∀h k i r,ib X h k aF bE aR i->Go.bh.wn n (aR.drop i)=some r->a6 X 258 [.ptr aF 0] h k (jo X aF bE aR h k r) (it X aF h k r):=by
 intro h k i r ax S
 cases n with
 |zero=>simp[Go.bh.wn]at S
 |succ n=>
 refine dj (afF X) (aA.none _ _ rfl) ?_
 rw[afG]
 unfold TQ
 have gr:=ax.bj
 have jN:=ax.g0
 have hL:=ax.fK
 have jd:=ax.gF
 unfold Go.bh.wn at S
 cases ai:nS xX (aR.drop i)with
 |none=>rw[ai]at S;cases S
 |some wo=>
 rw[ai]at S
 refine w6 ⟨?_⟩
 refine j6 (λJ V aY=>J.g 0=some (.ptr aF 0)/\bh X V aF bE aR i/\cu X [aF] h k V aY/\wo=(none,aR.drop i)) (λaa bK=> ?_) ?_
 ·refine f8 (λm J V aY=>∃aa,m=3-aa/\aa<=3/\J.g 0=some (.ptr aF 0)/\J.g 15=some (.agg Ra)/\J.g 16=some (.int .i64 (aa:Int))/\bh X V aF bE aR i/\cu X [aF] h k V aY/\nS (xX.drop aa) (aR.drop i)=some wo)
   3 ⟨0,rfl,Zo,bv,gL,gL,ax.par,cu.refl _ _ _,ai⟩ ?_
  rintro m J aV bp ⟨aa,rfl,KT,t0,C0,RQ,dh,dl,ai⟩
  have gZ:=dl.le
  have fq:=ax.go dh gZ
  refine rg @RQ ⟨?_⟩
  refine gh ?_
  refine Ds (λcR=> ?_) (λcR=> ?_)
  ·have cR:aa<3:=Zo
   obtain⟨s,eE,je,fN⟩:=aqL cR
   rw[je]at ai
   simp only[nS]at ai
   have Xe:=an1 (n:=3) (bd:=2) (cs:=Ra) .i64 cR
   rw[fN]at Xe
   refine hk @C0 @RQ @Xe @t0 ⟨?_⟩
   refine eZ (λbo=>bB X aV bp bo (bp+1)/\ab X bo bp=some (.cells (U.ofList [.str s, .int .i64 eE] 0 .nil) 2 .own)) ⟨dR,bq Zo⟩ ?_
   rintro bo ⟨cE,g3⟩
   cases aI:aR.drop i with
   |nil=>rw[aI]at ai;simp[lw]at ai
   |cons x l=>
   rw[aI]at ai
   refine(m7 aA (fq.go (dh.ex cE Zo Zo) Zo) aI s).Zm ?_
   rintro ad bX dd ⟨rfl,gT,eD⟩
   have jC:=eD.le
   have ec:ab X bX bp=some (.cells (U.ofList [.str s, .int .i64 eE] 0 .nil) 2 .own):=by rw[eD.af _ Zo (by simp;omega)];exact g3
   have tN:=dl.trans ((cu.of cE).trans eD)
   cases aH:hA x s with
   |true=>
    rw[aH]at gT
    simp only[lw,aH,ZB]at ai gT ⊢
    simp only[Ze]at ai
    subst ai
    simp only[]at S
    refine e8 bZ.eq_1 (bW ec) @t0 ⟨?_⟩
    refine eZ (λb4=>bB X bX dd b4 (dd+1+10)/\ab X b4 dd=some (.cells (U.ofList (bZ x) 0 .nil) 7 .own)) ⟨dR,bq Zo⟩ ?_
    rintro b4 ⟨dX,g5⟩
    have nG:=fq.go (gT.ex dX Zo Zo) (by omega:bp<=dd+1+10)
    have dO:=tN.trans (cu.of dX)
    rw[<-(fm aI).2]at S
    rcases f4 S with ⟨I,cr,rfl⟩|⟨sr,kX,cr,S⟩
    ·exact((ah n Zo).s5 b4 _ _ _ nG cr).mono (λad V av a=>by obtain⟨E,cy,a,_⟩:=a;cases a) (λad V av a=>a.of dO (λ_ a=>a))
    refine((ah n Zo).s5 b4 _ _ _ nG cr).mono ?_ (λad V av a=>by obtain⟨I,a,_⟩:=a;cases a)
    rintro td ck eo ⟨aue,hP,Pd,eU,g9,ev⟩
    cases Pd
    have rB:=ev.le
    simp only[ok,Ze]at S
    subst S
    obtain⟨AO,rfl,Hx,_⟩:=eU.ptr
    have g6:ab X ck dd=some (.cells (U.ofList (bZ x) 0 .nil) 7 .own):=by rw[ev.af _ Zo (by simp;omega)];exact g5
    have VT:ab X ck bp=some (.cells (U.ofList [.str s, .int .i64 eE] 0 .nil) 2 .own):=by rw[ev.af _ Zo (by simp;omega),dX.af _ Zo];exact ec
    refine e8 (bW g6) (bW VT) bZ.eq_1 ⟨?_⟩
    refine jH (qL _ _) ?_
    refine e8 (bW g6) (bW VT) bZ.eq_1 ⟨?_⟩
    refine jH (qL _ _) ?_
    refine⟨_,hP,rfl,cP.lit (B:=1) (cap:=1) (n:=0) (kind:=eE) (at_:=x.at_) (name:=[]) (no:=false) (ty:=dA) (b:=dd+1+8) (iz:= .own) (cN:=dd+1+6) (br:=[.ptr AO 0]) (bq (b:=dd+1+8) Zo) ⟨Zo,Zo⟩ ?_ ⟨Zo,Zo⟩ rfl Zo Zo (dq.one (cP.af (λj T=> ?_) _ _ eU) (λj T=> ?_)), ?_, ?_⟩
    ·simp(disch:=omega) only[aK,bq]<;>rfl
    ·have M:=T.1;have R:=T.2
     simp(disch:=omega) only[aK]
    ·simp only[ef]at T ⊢;omega
    ·exact g9.af (by simp(disch:=omega) only[aK]) (by simp(disch:=omega) only[aK])
    ·exact⟨Zo,λj T bO=>by
      rw[<-(dO.trans ev).af j T bO]
      simp(disch:=omega) only[aK]⟩
   |false=>
    rw[aH]at gT
    simp only[lw,aH,Zt,Zx]at ai gT ⊢
    have bF:aL .add (.int .i64 (aa:Int)) (.int .i64 1)=some (.int .i64 ((aa+1:Nat):Int)):=by rw[eQ Zo Zo];rfl
    refine hk bZ.eq_1 gG.eq_1 @RQ @bF ⟨?_⟩
    refine⟨_, ?_,aa+1,rfl,Zo,bn t0,bn C0,bv,gT.af (by simp(disch:=omega) only[aK]) (by simp(disch:=omega) only[aK]), ?_,ai⟩
    ·omega
    ·exact⟨Zo,λb ai bO=>by rw[<-tN.af b ai bO];simp(disch:=omega) only[aK]⟩
  ·have bK:aa=3:=Zo
   subst bK
   simp only[xX,Z6,Z2,nS,Ze]at ai
   refine c0 ⟨?_⟩
   exact bK _ _ _ ⟨bn t0,dh,dl,ai.symm⟩
 ·clear ai
  rintro nb ft bj ⟨t0,XH,Kq,rfl⟩
  simp only[]at S
  have Hk:=Kq.le
  have Rc:=ax.go XH Hk
  refine cx @t0 ⟨?_⟩
  rcases f4 S with ⟨I,M,rfl⟩|⟨left,eh,M,S⟩
  ·exact((ah n Zo).part ft bj i _ Rc M).mono (λad V av a=>by obtain⟨E,cy,a,_⟩:=a;cases a) (λad V av a=>a.of Kq (λ_ a=>a))
  refine((ah n Zo).part ft bj i _ Rc M).mono ?_ (λad V av a=>by obtain⟨I,a,_⟩:=a;cases a)
  rintro uU bb aQ ⟨E,rI,aW,b8,d3,hl⟩
  cases aW
  have jB:=hl.le
  refine gh ?_
  refine f8 (λm J V aY=>∃left v cy,J.g 0=some (.ptr aF 0)/\J.g 7=some v/\cP X V (ef k aY) left v/\bh X V aF bE aR cy/\cu X [aF] h k V aY/\mK m left (aR.drop cy)=some r)
   n ⟨left,uU,rI,bn t0,bv,cP.lift (λj T=>⟨by have:=T.1;omega,T.2⟩) _ _ b8,d3,Kq.trans hl,S⟩ ?_
  clear b8 d3 hl M S jB t0 XH Kq Hk Rc
  rintro m J aV bp ⟨left,v,jh,t0,hY,ct,dh,dl,S⟩
  cases m with
  |zero=>simp[mK]at S
  |succ m=>
  unfold mK at S
  have gZ:=dl.le
  have fq:=ax.go dh gZ
  refine gh ?_
  obtain⟨b1,rfl,mw,_⟩:=ct.ptr
  have mw:=mw.2
  refine cx @t0 ⟨?_⟩
  obtain⟨x,cd,aI,ag⟩:=p7 S
  refine(m7 aA fq aI _).Zm ?_
  rintro C5 bo bw ⟨rfl,gg,en⟩
  have jf:=en.le
  have Wt:=dl.trans en
  have cE:=cP.ex (V:=bo) ct (λj M R=>en.af j Zo (by simp;omega)) (Zj _) (Zj _)
  rcases ag with ⟨aH,S⟩|⟨aH,S⟩
  ·rw[aH]at gg ⊢
   simp only[ZB]at gg ⊢
   rw[<-(fm aI).2]at S
   simp only[]at S
   refine dc bZ.eq_1 @t0 ⟨?_⟩
   refine eZ (λb4=>bB X bo bw b4 (bw+1)/\ab X b4 bw=some (.cells (U.ofList (bZ x) 0 .nil) 7 .own)) ⟨dR,bq Zo⟩ ?_
   rintro b4 ⟨dX,g5⟩
   have nG:=fq.go (gg.ex dX Zo Zo) (by omega:bp<=bw+1)
   obtain⟨j,kX,G9,HM⟩:=p7 S
   refine(m7 aA nG G9 _).Zm ?_
   rintro acp ck eo ⟨rfl,g9,ev⟩
   have rB:=ev.le
   have g6:ab X ck bw=some (.cells (U.ofList (bZ x) 0 .nil) 7 .own):=by rw[ev.af _ Zo (by simp;omega)];exact g5
   have tM:=(Wt.trans (cu.of dX)).trans ev
   have eU:=cP.ex (V:=ck) cE (λj M R=>by rw[ev.af j Zo (by simp;omega),dX.af j Zo]) (Zj _) (Zj _)
   have mY:andThen (io 1 (aR.drop (if hA j [110,111,116]then jh+1+1 else jh+1))) (λc l=>mK m (.mk 6 x.at_ c.text (hA j [110,111,116]) dA 0 [left]) l)=some r:=by
    rcases HM with ⟨PW,mY⟩|⟨PW,mY⟩
    ·simp only[PW,ZB];rw[(fm G9).2];exact mY
    ·simp only[PW,Zt,Zx];exact mY
   clear S HM
   generalize (if hA j [110,111,116]then jh+1+1 else jh+1)=hP at mY g9
   generalize (if hA j [110,111,116]then j else gG)=Sf
   generalize hA j [110,111,116]=no at mY
   refine hk bZ.eq_1 (bW g6) @t0 @hY ⟨?_⟩
   refine eZ (λcC=>bB X ck eo cC (eo+1+11)/\ab X cC (eo+1+7)=some (.cells (U.ofList [.ptr b1 0] 0 .nil) 1 .own)) ⟨dR,bq Zo⟩ ?_
   rintro cC ⟨e9,g7⟩
   have mD:=fq.go (g9.ex e9 Zo Zo) (by omega:bp<=eo+1+11)
   cases rq:aR.drop hP with
   |nil=>rw[rq]at mY;simp[io,andThen]at mY
   |cons c lF=>
   rw[rq]at mY
   simp only[io]at mY
   refine(AD aA mD.bj mD.par mD.fK mD.g0 mD.gF mD.many (fm rq).1 1).mono ?_ ?_
   ·rintro u8 dQ fa ⟨aP,rfl,v2,gy⟩
    have vV:=gy.le
    rw[Zr aP]at mY
    simp only[andThen,ok]at mY
    have g8:ab X dQ bw=some (.cells (U.ofList (bZ x) 0 .nil) 7 .own):=by rw[gy.af _ Zo (by simp;omega),e9.af _ Zo];exact g6
    have ajI:ab X dQ (eo+1+7)=some (.cells (U.ofList [.ptr b1 0] 0 .nil) 1 .own):=by rw[gy.af _ Zo (by simp;omega)];exact g7
    refine dc bZ.eq_1 (bW g8) ⟨?_⟩
    refine jH (qL _ _) ?_
    refine⟨m,Zo,_, .ptr (eo+1+9) 0,hP+1,bn t0,bv,cP.lit (B:=1) (cap:=1) (n:=0) (kind:=6) (at_:=x.at_) (name:=c.text) (no:=no) (ty:=dA) (b:=eo+1+9) (iz:= .own) (cN:=eo+1+7) (br:=[.ptr b1 0]) (bq (b:=eo+1+9) Zo) ⟨Zo,Zo⟩ ?_ ⟨Zo,Zo⟩ rfl Zo Zo (dq.one (cP.af (λj T=> ?_) _ _ eU) (λj T=> ?_)), ?_, ?_,by rw[(fm rq).2];exact mY⟩
    ·simp(disch:=omega) only[aK];exact ajI
    ·have M:=T.1;have R:=T.2
     simp(disch:=omega) only[aK]
     rw[gy.af j Zo (by simp;omega),e9.af j Zo]
    ·simp only[ef]at T ⊢;omega
    ·exact v2.af (by simp(disch:=omega) only[aK]) (by simp(disch:=omega) only[aK])
    ·exact⟨Zo,λj T bO=>by
      rw[<-((tM.trans (cu.of e9)).trans gy).af j T bO]
      simp(disch:=omega) only[aK]⟩
   ·rintro u8 dQ fa ⟨aP,rfl,gy⟩
    rw[Zg aP]at mY
    simp only[andThen,bad,Ze]at mY
    subst mY
    exact⟨_,rfl,rfl,(tM.trans (cu.of e9)).trans gy⟩
  ·rw[aH]at gg ⊢
   simp only[Zt,Zx]at gg ⊢
   simp only[ok,Ze]at S
   subst S
   refine e8 bZ.eq_1 gG.eq_1 @hY ⟨?_⟩
   refine⟨left,jh,rfl,cP.ex cE (λj M R=> ?_) (Zj _) Zo,gg.af (by simp(disch:=omega) only[aK]) (by simp(disch:=omega) only[aK]), ?_⟩
   ·simp(disch:=omega) only[aK]
   ·exact⟨Zo,λb ai bO=>by rw[<-Wt.af b ai bO];simp(disch:=omega) only[aK]⟩
end
end
end Go.Proofs.YtpfajohmofnkfaaGreatDoor

