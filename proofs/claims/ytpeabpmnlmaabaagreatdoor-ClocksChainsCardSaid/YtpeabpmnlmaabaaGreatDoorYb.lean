/- Part of the proof of the last text; no conditions -/
import Derived.Test.YtpeabpmnlmaabaaGreatDoorYa
import Derived.MapKept
import Derived.Laws.NewFold
import Derived.Laws.CopyRow
set_option maxHeartbeats 8000000
set_option linter.all false
namespace Go.ba
open Go.RowKit (Below)
section
variable{C:aL}{S:c6}{ad:Nat->Prop}{h:R af}{j bm:Nat}{w:World}
def aoa{s d:Nat}{x v:D}(ae:cj ad x)(a:RX C s d x=some v):(convert s d (aO S x)).run C.P w= .ok (aO S v) w/\cj ad v:=by
 unfold RX at a
 split at a
 ·rename_i lL y ev n ED Lw
  simp at a;subst a
  simp[convert,run_underlying ED,run_underlying Lw,Conv.intToInt,aO,cj]
 ·rename_i lL s ED Lw
  simp at a;subst a
  refine⟨?_,ae⟩
  simp[convert,run_underlying ED,run_underlying Lw,aO]
 ·simp at a
def apf:∀{k:List D}{s:List Nat},yE k=some s->∃mQ:List Nat,k=mQ.map (λn=>D.int .u8 (Int.ofNat n))/\s=mQ.map (·%256):=by
 intro k
 induction k with
 |nil=>intro s a;simp[yE]at a;subst a;exact⟨[],rfl,rfl⟩
 |cons F k ai=>
  intro s a
  unfold yE at a
  split at a
  ·rename_i gU;simp at gU
  ·rename_i n bM e6
   simp only[YI]at e6
   obtain⟨rfl,rfl⟩:=e6
   split at a
   ·rename_i r Y
    simp at a;subst a
    obtain⟨mQ,J,Q⟩:=ai Y
    exact⟨n::mQ,by simp[J],by simp[Q]⟩
   ·simp at a
  ·simp at a
def arl(mQ:List Nat):∀r:ByteArray,(mQ.map Int.ofNat).foldl (λr (n:Int)=>r.push (UInt8.ofNat n.toNat)) r=⟨r.data++(mQ.map UInt8.ofNat).toArray⟩:=by
 induction mQ with
 |nil=>intro r;simp
 |cons n mQ ai=>
  intro r
  simp only[ZP,Z0,ai]
  congr 1
  apply YY
  simp[ByteArray.push]
def GM(Y:dn C S ad h j bm w){b V n:Nat}{k:List D}(ag:ad b)(a:nG C h b V n=some k):
 (loadCells ⟨(S b).cJ,(S b).eh+V,none⟩ n).run C.P w= .ok (b2 S k).toArray w/\eu ad k:=by
 unfold nG at a
 split at a
 ·rename_i c ax;exact ND Y ag ax a
 ·simp only[e5,Zf]at a
  obtain⟨J,rfl⟩:=a
  have:n=0:=Zl J
  subst this
  refine⟨?_,trivial⟩
  have az:=run_loadCells_list (P:=C.P) w ⟨(S b).cJ,(S b).eh+V,none⟩ [] (λT v bv=>by simp at bv)
  simpa[b2]using az
def aiV(Y:dn C S ad h j bm w){b V n cap:Nat}{k:List D}{s:List Nat}(ag:ad b)(a:nG C h b V n=some k)(aD:yE k=some s):
 (Conv.bytesToString (.slice (some ⟨(S b).cJ,(S b).eh+V,none⟩) n cap)).run C.P w= .ok (aO S (.str s)) w/\cj ad (.str s):=by
 obtain⟨J,_⟩:=GM Y ag a
 obtain⟨mQ,rfl,rfl⟩:=apf aD
 have Q:=run_bytesToString (P:=C.P) w ⟨(S b).cJ,(S b).eh+V,none⟩ n cap (mQ.map Int.ofNat) (by
  rw[J];congr 2
  rw[qn,YH,YH];rfl)
 constructor
 ·rw[Q,arl]
  congr 2
  simp only[gj,YH]
  congr 1
  apply YY
  simp
  intro F _
  exact UInt8.toNat_inj.1 Zs
 ·simp only[cj]
  intro x ae
  obtain⟨e,_,rfl⟩:=ZG.1 ae
  exact Nat.mod_lt _ Zd
def aop(Y:dn C S ad h j bm w){x v:D}(ae:cj ad x)(a:Gv C h x=some v):(Conv.bytesToString (aO S x)).run C.P w= .ok (aO S v) w/\cj ad v/\∃F k c,aO S x= .slice F k c:=by
 unfold Gv at a
 split at a
 ·simp at a;subst a;exact⟨rfl,by simp[cj],_,_,_,rfl⟩
 ·split at a
  ·rename_i k az
   split at a
   ·rename_i s aD
    simp at a;subst a
    obtain⟨J,Q⟩:=aiV Y ae az aD
    exact⟨J,Q,_,_,_,rfl⟩
   ·simp at a
  ·simp at a
 ·split at a
  ·rename_i k az
   split at a
   ·rename_i s aD
    simp at a;subst a
    obtain⟨J,Q⟩:=aiV Y ae az aD
    exact⟨J,Q,_,_,_,rfl⟩
   ·simp at a
  ·simp at a
 ·simp at a
def axj(Y:dn C S ad h j bm w){s d:Nat}{x:Operand}{av:Operand->Value}{eE:Operand->Option D}{v:D}(cD:jN S ad av eE [x])
 (a:LR C s d x h eE=some v):(convert s d (av x)).run C.P w= .ok (aO S v) w/\cj ad v:=by
 unfold LR at a
 split at a
 ·rename_i F aA
  obtain⟨E,g⟩:=cD x Zs F aA
  rw[E]
  split at a
  ·rename_i ac bc
   simp at a;subst a
   exact aoa g bc
  ·split at a
   ·rename_i ux ED Lw
    split at a
    ·rename_i bz
     obtain⟨J,Q,fu,k,c,ak⟩:=aop Y g a
     refine⟨?_,Q⟩
     rw[ak]at J ⊢
     rw[run_convert_bytes_string w s d ux fu k c ED bz Lw]
     exact J
    ·simp at a
   ·simp at a
 ·simp at a
def E3{V:Option D}{m d r:Nat}(a:pZ V m d=some r):(V=none/\r=d)\/∃y,V=some (.int y (Int.ofNat r))/\r<=m:=by
 unfold pZ at a
 split at a
 ·rename_i v
  split at a
  ·rename_i n aF
   simp only[e5,Zf]at a
   obtain⟨J,rfl⟩:=a
   obtain⟨y,rfl⟩:=E9 aF
   exact .inr ⟨y,rfl,jQ J⟩
  ·simp at a
 ·simp at a;exact .inl ⟨rfl,a.symm⟩
def run_sliceBound{P:Program}{y:IntKind}{n e:Nat}{code:BoundsCode}(a:n<=e):(Instr.sliceBound (.int y (Int.ofNat n)) e code).run P w= .ok n w:=by
 have J:(0:Int)<=Int.ofNat n/\Int.ofNat n<=(e:Int):=⟨Int.natCast_nonneg n,Int.ofNat_le.2 a⟩
 simp only[Instr.sliceBound,asIntOf,Sem.run_bind,Sem.run_pure,Result.andThen_ok]
 rw[Zp J]
 rfl
def JH{H3:Bool}{len cap NA:Nat}{bG aN ht:Option D}{k a m:Nat}(ax:cap<=NA)(ag:my len cap bG aN ht=some (k,a,m)):
 (Instr.sliceBounds H3 len NA (bG.map (aO S)) (aN.map (aO S)) (ht.map (aO S))).run C.P w= .ok (k,a,if ht.isSome then m else NA) w/\k<=a/\(ht=none->m=cap)/\m<=cap/\(a<=m\/a=len):=by
 unfold my at ag
 split at ag
 ·simp at ag
 ·rename_i gH bo
  split at ag
  ·simp at ag
  ·rename_i cy gU
   split at ag
   ·simp at ag
   ·rename_i bM az
    simp at ag
    obtain⟨rfl,rfl,rfl⟩:=ag
    have K4:bM<=cy:=by
     rcases E3 az with ⟨_,rfl⟩|⟨y,_,f4⟩
     ·exact YN _
     ·exact f4
    cases ht with
    |none=>
     have v1:gH=cap:=by simpa[pZ]using bo.symm
     subst v1
     have O4:pZ aN gH len=some cy:=by cases aN<;>exact gU
     refine⟨?_,K4,λ_=>rfl,Zj _,(E3 O4).elim (λa=> .inr a.2) (λ⟨_,_,a⟩=> .inl a)⟩
     rcases E3 O4 with ⟨rfl,rfl⟩|⟨y,rfl,f4⟩<;>rcases E3 az with ⟨rfl,rfl⟩|⟨cq,rfl,fC⟩
     ·simp[Instr.sliceBounds]
     ·simp only[Instr.sliceBounds,Y1,ZR,aO,Sem.run_bind,Sem.run_pure,Result.andThen_ok,run_sliceBound fC,ZZ,Zy,ZC]
     ·simp only[Instr.sliceBounds,Y1,ZR,aO,Sem.run_bind,Sem.run_pure,Result.andThen_ok,run_sliceBound (ZA f4 ax),ZZ,Zy,ZC]
     ·simp only[Instr.sliceBounds,Y1,ZR,aO,Sem.run_bind,Sem.run_pure,Result.andThen_ok,run_sliceBound (ZA f4 ax),run_sliceBound fC,ZZ,Zy,ZC]
    |some ays=>
     rcases E3 bo with ⟨aY,_⟩|⟨y,aY,f4⟩
     ·cases aY
     ·cases aY
      cases aN with
      |none=>simp at gU
      |some bv=>
       have O4:pZ (some bv) gH len=some cy:=gU
       rcases E3 O4 with ⟨aY,_⟩|⟨e2,aY,K3⟩
       ·cases aY
       ·cases aY
        refine⟨?_,K4,(λa=>by cases a),f4, .inl K3⟩
        rcases E3 az with ⟨rfl,rfl⟩|⟨cq,rfl,fC⟩
        ·simp only[Instr.sliceBounds,Y1,ZR,aO,Sem.run_bind,Sem.run_pure,Result.andThen_ok,run_sliceBound (ZA f4 ax),run_sliceBound K3,Z4,ZE]
        ·simp only[Instr.sliceBounds,ZR,aO,Sem.run_bind,Sem.run_pure,Result.andThen_ok,run_sliceBound (ZA f4 ax),run_sliceBound K3,run_sliceBound fC,Z4,ZE]
end
section
variable{C:aL}{S:c6}{ad:Nat->Prop}{h:R af}{j bm:Nat}{w:World}
def apB(m k V bs:Nat):bV (Nat.beq m k) V (V+k*bs)=if m=k then V else V+k*bs:=h1 _ _ _ _
def aiz(Y:dn C S ad h j bm w){b n:Nat}(ag:ad b)(a:x3 C h b=some n):n<=(S b).room:=by
 unfold x3 at a
 split at a
 ·rename_i c m fz bh
  simp at a;subst a
  obtain⟨co,ty,bG,aN,_,Q,_,_⟩:=Y.obj b _ bh ag
  exact Q.2.1
 ·rename_i c m bh
  simp at a;subst a
  obtain⟨co,ty,bG,aN,_,Q,_,_⟩:=Y.obj b _ bh ag
  exact Q.2.1
 ·simp at a
def W4{b V k a m bs:Nat}:Value.slice (some (if m=k then(⟨(S b).cJ,(S b).eh+V,none⟩:Addr)else(⟨(S b).cJ,(S b).eh+V,none⟩:Addr).add (k*bs))) (a-k) (m-k)
 =aO S (.slice b (bV (Nat.beq m k) V (V+k*bs)) (a-k) (m-k)):=by
 rw[apB]
 simp only[aO,r3]
 split
 ·rfl
 ·rw[ZJ]
def aon(Y:dn C S ad h j bm w){t:Nat}{x v:D}{bG aN ht:Option D}(ae:cj ad x)(a:Nq C h t x bG aN ht=some v):
 (Instr.sliceAt t (aO S x) (bG.map (aO S)) (aN.map (aO S)) (ht.map (aO S))).run C.P w= .ok (aO S v) w/\cj ad v:=by
 unfold Nq at a
 split at a
 ·rename_i s bc
  cases ht with
  |some _=>simp at a
  |none=>
   simp only at a
   split at a
   ·rename_i k cy m ag
    simp at a;subst a
    obtain⟨J,Q,_⟩:=JH (C:=C) (S:=S) (w:=w) (H3:=false) (Zj _) ag
    have eN:(gj s).size=s.length:=by simp[gj,ByteArray.size]
    constructor
    ·simp only[Y1,ZZ,Zy,ZC]at J
     simp[Instr.sliceAt,run_underlying bc,Instr.slice,aO,eN,J]
     apply ByteArray.ext
     rw[ByteArray.data_extract]
     apply YY
     simp[gj,List.map_take,List.map_drop,List.take_drop]
    ·simp only[cj]at ae ⊢
     intro bu cm
     exact ae bu (Y8 (Y9 cm))
   ·simp at a
 ·rename_i ei b V len cap bc
  split at a
  ·rename_i k cy m bs ag eN
   simp at a;subst a
   obtain⟨J,Q,ak,_⟩:=JH (C:=C) (S:=S) (w:=w) (H3:=true) (Zj cap) ag
   have bo:(if ht.isSome=true then m else cap)=m:=by cases ht with
    |none=>simp[ak rfl]
    |some _=>rfl
   rw[bo]at J
   refine⟨?_,ae⟩
   have:=W4 (S:=S) (b:=b) (V:=V) (k:=k) (a:=cy) (m:=m) (bs:=bs)
   simp only[Instr.sliceAt,Sem.run_bind,run_underlying bc,Result.andThen_ok,Instr.slice,aO,J,p3 eN,Sem.run_pure]
   rw[<-aO, <-this]
   split<;>rfl
  ·simp at a
 ·rename_i ei bc
  split at a
  ·rename_i r bs ag eN
   obtain⟨k,cy,m⟩:=r
   simp at a;subst a
   obtain⟨J,Q,ak,ay,bt⟩:=JH (C:=C) (S:=S) (w:=w) (H3:=true) (Zj 0) ag
   have bo:m=0:=Zo
   have gU:cy=0:=Zo
   have az:k=0:=Zo
   subst bo;subst gU;subst az
   refine⟨?_,trivial⟩
   have uH:(Instr.sliceBounds true 0 0 (bG.map (aO S)) (aN.map (aO S)) (ht.map (aO S))).run C.P w= .ok (0,0,0) w:=by rw[J];split<;>rfl
   simp[Instr.sliceAt,run_underlying bc,Instr.slice,aO,uH,p3 eN]
  ·simp at a
 ·rename_i ei b V len bs bc
  split at a
  ·rename_i x5 n eN aF
   simp only[e5,Zq]at a
   obtain⟨⟨k8,pS⟩,a⟩:=a
   have k8:bs=x5:=Zl k8
   subst k8
   have pS:0<bs:=lS pS
   have avs:=aiz Y ae aF
   have nc:(n-V)/bs<=((S b).room-V)/bs:=Nat.div_le_div_right Zo
   split at a
   ·rename_i k cy m ag
    obtain⟨J,Q,ak,_⟩:=JH (C:=C) (S:=S) (w:=w) (H3:=true) nc ag
    cases ht with
    |some ays=>
     simp at a;subst a
     refine⟨?_,ae⟩
     have:=W4 (S:=S) (b:=b) (V:=V) (k:=k) (a:=cy) (m:=m) (bs:=bs)
     simp only[Z4,ZE]at J
     simp only[Instr.sliceAt,Sem.run_bind,run_underlying bc,Result.andThen_ok,Instr.slice,aO,J,p3 eN,Sem.run_pure]
     rw[<-aO, <-this]
     split<;>rfl
    |none=>
     simp only[e5,Zf,zg]at a
     obtain⟨az,rfl⟩:=a
     refine⟨?_,ae⟩
     simp only[ZZ,Zy,ZC]at J
     simp only[Instr.sliceAt,Sem.run_bind,run_underlying bc,Result.andThen_ok,Instr.slice,aO,J,p3 eN,Sem.run_pure]
     have cG:((S b).room-(V+k*bs))/bs=((S b).room-V)/bs-k:=by
      rw[<-Nat.sub_sub,zn k bs,Nat.sub_mul_div]
     rw[cG]
     congr 1
     congr 1
     rcases az with az|az
     ·have az:=lS az
      rw[Zh Zo,ZR,r3,ZJ]
     ·have az:k=0:=Zl az
      subst az
      split<;>simp[r3]
   ·simp at a
  ·simp at a
 ·rename_i n ei b V bc
  split at a
  ·rename_i k cy m bs ag eN
   simp at a;subst a
   obtain⟨J,Q,ak,_⟩:=JH (C:=C) (S:=S) (w:=w) (H3:=false) (Zj n) ag
   have bo:(if ht.isSome=true then m else n)=m:=by cases ht with
    |none=>simp[ak rfl]
    |some _=>rfl
   rw[bo]at J
   refine⟨?_,ae⟩
   have:=W4 (S:=S) (b:=b) (V:=V) (k:=k) (a:=cy) (m:=m) (bs:=bs)
   simp only[Instr.sliceAt,Sem.run_bind,run_underlying bc,Result.andThen_ok,Instr.sureAddr,aO,J,p3 eN,Sem.run_pure]
   rw[<-aO, <-this]
  ·simp at a
 ·simp at a
end
section
variable{C:aL}{S:c6}{ad:Nat->Prop}{h:R af}{j bm:Nat}{w:World}
def aA0{α:Type}{P:Program}(f:α->PUnit->Sem (ForInStep PUnit)):∀(k:List α),(∀F∈k,(f F ⟨⟩).run P w= .ok (.yield ⟨⟩) w)->(forIn k PUnit.unit f).run P w= .ok ⟨⟩ w:=by
 intro k
 induction k with
 |nil=>intro _;simp[Sem.run_pure]
 |cons F k ai=>intro a;simp[List.forIn_cons,a F Zs,ai λb ag=>a b (by simp[ag])]
def abF{E:Bool}:∀(n m t:Nat) (v:D),n<=m->cj ad v->nD C n t v=true->(Instr.checkKey E m t (aO S v)).run C.P w= .ok () w:=by
 intro n
 induction n with
 |zero=>intro m t v _ _ a;simp[nD]at a
 |succ n ai=>
  intro m t v bo bv a
  obtain⟨m,rfl⟩:∃y,m=y+1:=⟨m-1,Zo⟩
  unfold nD at a
  split at a
  ·rename_i iV d x bc
   split at a
   ·rename_i i aN
    simp only[Zq]at a
    have:=ai m d x Zo bv a.2
    simp[Instr.checkKey,run_underlying bc,aO,typeInfo,aN,a.1,this]
   ·simp at a
  ·rename_i bc;simp[Instr.checkKey,run_underlying bc,aO]
  ·simp at a
  ·rename_i kf cs bc
   simp only[Instr.checkKey,Sem.run_bind,run_underlying bc,Result.andThen_ok,aO]
   rw[<-Array.forIn_toList]
   refine(congrArg (λr=>Result.andThen r _) (aA0 _ _ ?_)).trans rfl
   intro f cb
   have:=List.all_eq_true.1 a f cb
   simp only[zg,YZ]at this
   by_cases aF:f.name= "_"
   ·simp[aF]
   ·rcases this with J|J
    ·exact absurd J aF
    ·split at J
     ·rename_i p aw
      obtain⟨fK,hX⟩:=Jy (S:=S) (w:=w) bv aw
      simp[aF,fK,ai m f.type p Zo hX J]
     ·simp at J
  ·simp at a
  ·simp at a
  ·rename_i d aM aR bn bc cf dv d8
   simp only[Instr.checkKey,Sem.run_bind,run_underlying bc,Result.andThen_ok]
   cases d<;>first
    |exact(aM _ rfl).elim
    |exact(aR _ rfl).elim
    |exact(bn _ _ rfl).elim
    |rfl
  ·simp at a
def aco{x:D}{y:IntKind}{F:Int}(a:aO S x= .int y F):x= .int y F:=by
 cases x<;>simp[aO]at a
 obtain⟨rfl,rfl⟩:=a;rfl
def acm{x:D}{F:Bool}(a:aO S x= .bool F):x= .bool F:=by
 cases x<;>simp[aO]at a
 subst a;rfl
def acp{x:D}{F:ByteArray}(a:aO S x= .string F):∃s,x= .str s/\F=gj s:=by
 cases x<;>simp[aO]at a
 exact⟨_,rfl,a.symm⟩
def ab9(F b:ByteArray):(F==b)=(F.toList==b.toList):=by
 show(F.data==b.data)=_
 rw[Ya,YZ,YZ,ByteArray.toList_eq,ByteArray.toList_eq]
 exact⟨λa=>by rw[a],λa=>Array.toList_inj.1 a⟩
def aiu{d t:Nat}{eV:TypeDesc}{x e:D}{r h7:Bool}(bc:C.P.underlying t=some eV)(fG:cj ad x)(vE:cj ad e)
 (a:jC C h d t x e=some r)(cy:Instr.sameNow eV (aO S x) (aO S e)=some h7):r=h7:=by
 cases d with
 |zero=>simp[jC]at a
 |succ d=>
  unfold Instr.sameNow at cy
  split at cy
  ·rename_i ev y F e2 b ae B
   rw[aco ae,aco B]at a
   simp[jC,bc]at a
   split at cy
   ·simp at cy;rw[<-cy, <-a.2];rfl
   ·simp at cy
  ·rename_i F b ae B
   obtain⟨s,rfl,rfl⟩:=acp ae
   obtain⟨eX,rfl,rfl⟩:=acp B
   simp[jC,bc]at a
   simp at cy
   rw[<-cy, <-a,ab9,Xb fG vE]
  ·rename_i F b ae B
   rw[acm ae,acm B]at a
   simp[jC,bc]at a
   simp at cy;rw[<-cy, <-a]
  ·simp at cy
def vr(S:c6)(r:Option (Nat×D)):Option (Nat×Value):=r.map λx=>(x.1,aO S x.2)
def arb{t:Nat}{eV:TypeDesc}{y:D}(bc:C.P.underlying t=some eV)(o2:cj ad y):∀(ca:List (D×D×Nat)) (i:Nat) (r:Option (Nat×D)) (h7:Option (Nat×Value)),
 (∀E∈ca,cj ad E.1/\cj ad E.2.1)->findKey C h t y ca i=some r->Instr.findNow eV (aO S y) (ca.map (mf S)) i=some h7->h7=vr S r:=by
 intro ca
 induction ca with
 |nil=>intro i r h7 _ a cy;simp[findKey]at a;simp[Instr.findNow]at cy;subst a;subst cy;rfl
 |cons E ca ai=>
  intro i r h7 bP a cy
  obtain⟨e2,v,b⟩:=E
  simp only[findKey]at a
  simp only[ZP,Instr.findNow,mf]at cy
  split at a
  ·rename_i bz
   simp at a;subst a
   split at cy
   ·simp at cy;rw[<-cy];rfl
   ·rename_i aD
    have:=aiu bc o2 (bP (e2,v,b) (Zv ..)).1 bz aD
    simp at this
   ·simp at cy
  ·rename_i bz
   split at cy
   ·rename_i aD
    have:=aiu bc o2 (bP (e2,v,b) (Zv ..)).1 bz aD
    simp at this
   ·exact ai _ _ _ (λE bz=>bP E (by simp[bz])) a cy
   ·simp at cy
  ·simp at a
def aq9(Y:dn C S ad h j bm w){t:Nat}{y:D}(o2:cj ad y):∀(ca:List (D×D×Nat)) (i:Nat) (r:Option (Nat×D)),
 (∀E∈ca,cj ad E.1/\cj ad E.2.1)->findKey C h t y ca i=some r->(Instr.findAsking t (aO S y) (ca.map (mf S)) i).run C.P w= .ok (vr S r) w:=by
 intro ca
 induction ca with
 |nil=>intro i r _ a;simp[findKey]at a;subst a;simp[Instr.findAsking,vr]
 |cons E ca ai=>
  intro i r bP a
  obtain⟨e2,v,b⟩:=E
  simp only[findKey]at a
  have bo:20<=Op.maxDepth:=by decide
  split at a
  ·rename_i bz
   simp at a;subst a
   have:=RY Y 20 _ t y e2 true bo o2 (bP (e2,v,b) (Zv ..)).1 bz
   simp[Instr.findAsking,Op.equal,mf,this,vr]
  ·rename_i bz
   have:=RY Y 20 _ t y e2 false bo o2 (bP (e2,v,b) (Zv ..)).1 bz
   simp[Instr.findAsking,Op.equal,mf,this]
   exact ai _ _ (λE bz=>bP E (by simp[bz])) a
  ·simp at a
def S4(Y:dn C S ad h j bm w){t:Nat}{eV:TypeDesc}{y:D}{ca:List (D×D×Nat)}{r:Option (Nat×D)}(bc:C.P.underlying t=some eV)(o2:cj ad y)
 (bP:∀E∈ca,cj ad E.1/\cj ad E.2.1)(a:findKey C h t y ca 0=some r):(Instr.findKey t (aO S y) (ca.map (mf S))).run C.P w= .ok (vr S r) w:=by
 simp only[Instr.findKey,Sem.run_bind,run_underlying bc,Result.andThen_ok]
 split
 ·rename_i h7 cy
  rw[arb bc o2 ca 0 r h7 bP a cy];rfl
 ·exact aq9 Y o2 ca 0 r bP a
def ada{t:Nat}{y:D}:∀(ca:List (D×D×Nat)) (i T:Nat) (v:D),findKey C h t y ca i=some (some (T,v))->i<=T/\∃E,ca[T-i]? =some E/\E.2.1=v:=by
 intro ca
 induction ca with
 |nil=>intro i T v a;simp[findKey]at a
 |cons E ca ai=>
  intro i T v a
  obtain⟨e2,hj,b⟩:=E
  simp only[findKey]at a
  split at a
  ·simp at a
   obtain⟨rfl,rfl⟩:=a
   exact⟨Zj _,(e2,hj,b),Zs,rfl⟩
  ·obtain⟨J,E,Q,ak⟩:=ai _ _ _ a
   refine⟨Zo,E, ?_,ak⟩
   rw[show T-i=(T-(i+1))+1 by omega]
   simpa using Q
  ·simp at a
def agy{t d:Nat}{y:D}(a:nD C d t y=true):∃eV,C.P.underlying t=some eV:=by
 cases d with
 |zero=>simp[nD]at a
 |succ d=>
  cases bc:C.P.underlying t with
  |none=>simp[nD,bc]at a
  |some eV=>exact⟨eV,rfl⟩
def L4(Y:dn C S ad h j bm w){r:Nat}{ca:List (D×D×Nat)}{fa:Nat}(aE:ad r)(a:U C h r=some (.map ca fa)):
 ∃co,(getObj (S r).cJ).run C.P w= .ok (.map co fa) w/\w.heap[(S r).cJ]? =some (.map co fa)/\co.toList=ca.map (mf S)/\∀E∈ca,cj ad E.1/\cj ad E.2.1:=by
 obtain⟨co,J,Q,ak⟩:=Y.obj r _ a aE
 exact⟨co,MapKept.run_getObj_map J,J,Q,ak⟩
def ag0{t:Nat}{y:D}{F b:List (D×D)}(a:F.Perm b):∀r,p0 C h t y F=some r->p0 C h t y b=some r:=by
 induction a with
 |nil=>exact λ_ a=>a
 |cons x _ ai=>
  obtain⟨e2,v⟩:=x
  intro r a
  simp only[p0]at a ⊢
  split at a
  ·rename_i Y bz
   rw[ai _ Y,bz];simpa using a
  ·rename_i Y bz
   rw[ai _ Y,bz];simpa using a
  ·cases a
 |swap x e k=>
  obtain⟨axd,Q4⟩:=x
  obtain⟨tL,Q5⟩:=e
  intro r a
  simp only[p0]at a ⊢
  cases az:p0 C h t y k with
  |none=>simp[az]at a
  |some jX=>
   simp only[az]at a
   cases ae:jC C h 20 t y axd with
   |none=>rw[ae]at a;cases jX<;>simp at a
   |some ab8=>
    cases B:jC C h 20 t y tL with
    |none=>
     rw[ae,B]at a
     cases ab8<;>cases jX<;>simp at a
    |some ape=>
     rw[ae,B]at a
     cases ab8<;>cases ape<;>cases jX<;>simp at a ⊢ <;>exact a
 |trans _ _ Vs LB=>exact λr a=>LB r (Vs r a)
def agZ{t:Nat}{y:D}:∀(ca:List (D×D×Nat)) (i:Nat) (r:Option D),p0 C h t y (ca.map λE=>(E.1,E.2.1))=some r->∃h7,findKey C h t y ca i=some h7/\h7.map (·.2)=r:=by
 intro ca
 induction ca with
 |nil=>intro i r a;simp[p0]at a;subst a;exact⟨none,rfl,rfl⟩
 |cons E ca ai=>
  obtain⟨e2,hj,b⟩:=E
  intro i r a
  simp only[ZP,p0]at a
  simp only[findKey]
  split at a
  ·rename_i jX Y bz
   simp at a;subst a
   rw[bz]
   exact ai (i+1) _ Y
  ·rename_i Y bz
   simp at a;subst a
   rw[bz]
   exact⟨some (i,hj),rfl,rfl⟩
  ·cases a
def aoi(Y:dn C S ad h j bm w){t:Nat}{m y v:D}{ok:Bool}(vA:cj ad m)(o2:cj ad y)(a:Np C h t m y ok=some v):
 (Instr.lookup t (aO S m) (aO S y) ok).run C.P w= .ok (aO S v) w/\cj ad v:=by
 unfold Np at a
 split at a
 ·rename_i j6 BD bc
  have key:∀(ca:List (D×D×Nat)) (co:Array MapEntry) (r:Option (Nat×D)),co.toList=ca.map (mf S)->(∀E∈ca,cj ad E.1/\cj ad E.2.1)->nD C 20 j6 y=true->findKey C h j6 y ca 0=some r->
   (match r with|none=>(match ui C BD with|some bu=>some (bV ok (.tuple [bu, .bool false]) bu)|none=>none)|some (_,v)=>some (bV ok (.tuple [v, .bool true]) v))=some v->
   (do
    Instr.checkKey co.isEmpty 10000 j6 (aO S y)
    let(v,V)<-match<-Instr.findKey j6 (aO S y) co.toList with
     |some (_,v)=>pure (v,true)
     |none=>pure (<-zeroValue BD,false)
    pure (if ok then .tuple #[v, .bool V]else v):Sem Value).run C.P w= .ok (aO S v) w/\cj ad v:=by
   intro ca co r aA bP aH cb bv
   obtain⟨eV,K1⟩:=agy aH
   have J:=abF (C:=C) (S:=S) (ad:=ad) (w:=w) (E:=co.isEmpty) 20 10000 j6 y Zd o2 aH
   have Q:=S4 Y K1 o2 bP cb
   rw[aA]
   cases r with
   |none=>
    simp only at bv
    split at bv
    ·rename_i bu cm
     obtain⟨f1,fD⟩:=FB cm S ad w
     simp at bv;subst bv
     cases ok
     ·exact⟨by simp[J,Q,vr,f1],fD⟩
     ·exact⟨by simp[J,Q,vr,f1,aO,b2],⟨fD,trivial,trivial⟩⟩
    ·simp at bv
   |some p=>
    obtain⟨T,ac⟩:=p
    simp at bv;subst bv
    obtain⟨_,E,bz,rfl⟩:=ada ca 0 T ac cb
    have aeU:=(bP E (Zn bz)).2
    cases ok
    ·exact⟨by simp[J,Q,vr],aeU⟩
    ·exact⟨by simp[J,Q,vr,aO,b2],⟨aeU,trivial,trivial⟩⟩
  split at a
  ·simp at a
  ·rename_i bo
   split at bo
   ·simp only[e5,Zf]at bo
    have:=key [] #[] none rfl Zs bo.1 (by simp[findKey]) a
    refine⟨?_,this.2⟩
    rw[<-this.1]
    simp only[Instr.lookup,Sem.run_bind,run_underlying bc,Result.andThen_ok,aO,Sem.run_pure]
    rfl
   ·rename_i r
    split at bo
    ·rename_i ca fa bh
     simp only[e5]at bo
     obtain⟨co,J,_,Q,ak⟩:=L4 Y vA bh
     have:=key ca co none Q ak bo.1 bo.2 a
     refine⟨?_,this.2⟩
     rw[<-this.1]
     simp only[Instr.lookup,Sem.run_bind,run_underlying bc,Result.andThen_ok,aO,Sem.run_pure,J]
     rfl
    ·rename_i ca bh
     simp only[e5]at bo
     obtain⟨co,fa,mC,J,Q,ay,ak⟩:=Y.obj r _ bh vA
     have bq:p0 C h j6 y ca=some none:=by
      have:=bo.2
      unfold If at this
      split at this<;>simp at this
      all_goals(rename_i aj;first|(rw[aj,this.2])|exact aj|(rw[aj];simp[this]))
     obtain⟨h7,eQ,fd⟩:=agZ mC 0 _ (ag0 ay.symm _ bq)
     cases h7 with
     |none=>
      have:=key mC co none Q ak bo.1 eQ a
      refine⟨?_,this.2⟩
      rw[<-this.1]
      simp only[Instr.lookup,Sem.run_bind,run_underlying bc,Result.andThen_ok,aO,Sem.run_pure,MapKept.run_getObj_map J]
      rfl
     |some p=>
      obtain⟨fK,hX⟩:=p
      simp at fd
    ·simp at bo
   ·simp at bo
  ·rename_i T ac bo
   split at bo
   ·simp only[e5]at bo
    simp at bo
   ·rename_i r
    split at bo
    ·rename_i ca fa bh
     simp only[e5]at bo
     obtain⟨co,J,_,Q,ak⟩:=L4 Y vA bh
     have:=key ca co (some (T,ac)) Q ak bo.1 bo.2 a
     refine⟨?_,this.2⟩
     rw[<-this.1]
     simp only[Instr.lookup,Sem.run_bind,run_underlying bc,Result.andThen_ok,aO,Sem.run_pure,J]
     rfl
    ·rename_i ca bh
     simp only[e5]at bo
     obtain⟨co,fa,mC,J,Q,ay,ak⟩:=Y.obj r _ bh vA
     have bq:p0 C h j6 y ca=some (some ac):=by
      have:=bo.2
      unfold If at this
      split at this<;>simp at this
      all_goals(rename_i aj;first|(rw[aj,this.2])|exact aj|(rw[aj];simp[this]))
     obtain⟨h7,eQ,fd⟩:=agZ mC 0 _ (ag0 ay.symm _ bq)
     cases h7 with
     |none=>
      simp at fd
     |some p=>
      obtain⟨fK,hX⟩:=p
      simp at fd
      subst fd
      have:=key mC co (some (fK,hX)) Q ak bo.1 eQ a
      refine⟨?_,this.2⟩
      rw[<-this.1]
      simp only[Instr.lookup,Sem.run_bind,run_underlying bc,Result.andThen_ok,aO,Sem.run_pure,MapKept.run_getObj_map J]
      rfl
    ·simp at bo
   ·simp at bo
 ·simp at a
end
section
variable{C:aL}{S:c6}{ad:Nat->Prop}{h:R af}{j bm:Nat}{w:World}
def axk{t f:Nat}{x:Operand}{av:Operand->Value}{eE:Operand->Option D}{v:D}(cD:jN S ad av eE [x])
 (a:LS C t x f h eE=some v):(Instr.field t (av x) f).run C.P w= .ok (aO S v) w/\cj ad v:=by
 unfold LS at a
 split at a
 ·rename_i kf cs bc ae
  obtain⟨E,g⟩:=cD x Zs _ ae
  rw[E]
  rw[qL]at a
  split at a
  ·rename_i tg cb
   have rp:kf[f]? =some tg:=by rw[<-cb];simp
   obtain⟨J,Q⟩:=Jy (S:=S) (w:=w) g a
   refine⟨?_,Q⟩
   simp[Instr.field,run_underlying bc,rp,asAgg,aO,J]
  ·simp at a
 ·simp at a
def axl{t:Nat}{x:Operand}{av:Operand->Value}{eE:Operand->Option D}{v:D}(cD:jN S ad av eE [x])
 (a:LU C t x h eE=some v):(Instr.makeInterface t (av x)).run C.P w= .ok (aO S v) w/\cj ad v:=by
 unfold LU at a
 split at a
 ·simp at a
 ·rename_i d ac aF bc ae
  obtain⟨E,g⟩:=cD x Zs _ ae
  simp at a;subst a
  refine⟨?_,g⟩
  rw[E]
  cases d<;>first|exact(aF _ rfl).elim|simp[Instr.makeInterface,run_underlying bc,aO]
 ·simp at a
def axh{x:Operand}{t vo:Nat}{ok:Bool}{av:Operand->Value}{eE:Operand->Option D}{v:D}(cD:jN S ad av eE [x])
 (a:LQ C x vo ok h eE=some v):(Instr.typeAssert (av x) t vo ok).run C.P w= .ok (aO S v) w/\cj ad v:=by
 unfold LQ at a
 split at a
 ·simp at a
 ·rename_i d aF bc ae
  obtain⟨E,g⟩:=cD x Zs _ ae
  rw[E]
  simp only[e5]at a
  obtain⟨rfl,a⟩:=a
  split at a
  ·rename_i bu cm
   simp at a;subst a
   obtain⟨f1,fD⟩:=FB cm S ad w
   refine⟨?_,fD,trivial,trivial⟩
   cases d<;>first|exact(aF _ rfl).elim|simp[Instr.typeAssert,run_underlying bc,aO,b2,f1]
  ·simp at a
 ·rename_i d hh ac aF bc ae
  obtain⟨E,g⟩:=cD x Zs _ ae
  rw[E]
  rw[h1]at a
  split at a
  ·rename_i bz
   subst bz
   simp at a
   cases ok
   ·simp at a;subst a
    refine⟨?_,g⟩
    cases d<;>first|exact(aF _ rfl).elim|simp[Instr.typeAssert,run_underlying bc,aO]
   ·simp at a;subst a
    refine⟨?_,g,trivial,trivial⟩
    cases d<;>first|exact(aF _ rfl).elim|simp[Instr.typeAssert,run_underlying bc,aO,b2]
  ·rename_i bz
   simp only[e5]at a
   obtain⟨rfl,a⟩:=a
   split at a
   ·rename_i bu cm
    simp at a;subst a
    obtain⟨f1,fD⟩:=FB cm S ad w
    refine⟨?_,fD,trivial,trivial⟩
    cases d<;>first|exact(aF _ rfl).elim|simp[Instr.typeAssert,run_underlying bc,aO,b2,f1,bz]
   ·simp at a
 ·simp at a
def aog(Y:dn C S ad h j bm w){t:Nat}{dg:Array TypeId}{ty:TypeId}{x v:D}{rest:List TypeId}(aA:dg.toList=t::rest)(fG:cj ad x)(a:No C h t x=some v):
 (Builtin.len_ dg ty #[aO S x]).run C.P w= .ok (aO S v) w/\cj ad v:=by
 have vI:dg[0]? =some t:=by rw[<-ZO,aA];rfl
 unfold No at a
 split at a<;>(try simp only[agj]at a)
 ·rename_i s bc
  simp at a;subst a
  refine⟨?_,trivial⟩
  have aD:(gj s).size=s.length:=by simp[gj,ByteArray.size]
  simp[Builtin.len_,vI,run_underlying bc,aO,goInt,aD]
 ·rename_i n ux bc
  simp at a;subst a
  refine⟨?_,trivial⟩
  simp[Builtin.len_,vI,run_underlying bc,goInt]
  simp[aO]
 ·rename_i co bc
  split at a
  ·rename_i n ux Vi
   simp at a;subst a
   refine⟨?_,trivial⟩
   simp[Builtin.len_,vI,run_underlying bc,run_underlying Vi,goInt]
   simp[aO]
  ·simp at a
 ·rename_i bc
  simp at a;subst a
  refine⟨?_,trivial⟩
  simp[Builtin.len_,vI,run_underlying bc,aO,goInt]
 ·rename_i bc
  simp at a;subst a
  refine⟨?_,trivial⟩
  simp[Builtin.len_,vI,run_underlying bc,aO,goInt]
 ·rename_i bc
  simp at a;subst a
  refine⟨?_,trivial⟩
  simp[Builtin.len_,vI,run_underlying bc,aO,goInt]
 ·rename_i bc
  simp at a;subst a
  refine⟨?_,trivial⟩
  simp[Builtin.len_,vI,run_underlying bc,aO,goInt]
 ·rename_i r bc
  split at a
  ·rename_i ca fa bh
   simp at a;subst a
   obtain⟨co,J,Q,ak,ay⟩:=L4 Y fG bh
   refine⟨?_,trivial⟩
   have:co.size=ca.length:=by rw[<-Array.length_toList,ak,Zi]
   simp[Builtin.len_,vI,run_underlying bc,aO,goInt,J,this]
  ·simp at a
 ·simp at a
def an9{t:Nat}{dg:Array TypeId}{ty:TypeId}{x v:D}{rest:List TypeId}(aA:dg.toList=t::rest)(a:Nk C t x=some v):
 (Builtin.cap_ dg ty #[aO S x]).run C.P w= .ok (aO S v) w/\cj ad v:=by
 have vI:dg[0]? =some t:=by rw[<-ZO,aA];rfl
 unfold Nk at a
 split at a<;>(try simp only[agj]at a)
 ·rename_i bc
  simp at a;subst a
  refine⟨?_,trivial⟩
  simp[Builtin.cap_,vI,run_underlying bc,aO,goInt]
 ·rename_i bc
  simp at a;subst a
  refine⟨?_,trivial⟩
  simp[Builtin.cap_,vI,run_underlying bc,aO,goInt]
 ·simp at a
def aok:∀(k:List D) (x v:D),pA true x k=some v->((b2 S k).foldlM Builtin.max2 (aO S x)).run C.P w= .ok (aO S v) w/\(cj ad x->cj ad v):=by
 intro k
 induction k with
 |nil=>intro x v a;cases x<;>simp[pA]at a<;>subst a<;>simp[b2]
 |cons e k ai=>
  intro x v a
  unfold pA at a
  split at a
  ·rename_i aY;simp at aY
  ·rename_i y F e2 b bM e6
   simp only[YI]at e6
   obtain⟨rfl,rfl⟩:=e6
   obtain⟨J,Q⟩:=ai _ _ a
   refine⟨?_,λ_=>Q trivial⟩
   simp only[b2,List.foldlM_cons,Sem.run_bind,aO,Builtin.max2,Sem.run_pure,Result.andThen_ok]
   simp only[ff,uX,fF,Zg,aO]at J
   exact J
  ·simp at a
def aol:∀(k:List D) (x v:D),pA false x k=some v->((b2 S k).foldlM Builtin.min2 (aO S x)).run C.P w= .ok (aO S v) w/\(cj ad x->cj ad v):=by
 intro k
 induction k with
 |nil=>intro x v a;cases x<;>simp[pA]at a<;>subst a<;>simp[b2]
 |cons e k ai=>
  intro x v a
  unfold pA at a
  split at a
  ·rename_i aY;simp at aY
  ·rename_i y F e2 b bM e6
   simp only[YI]at e6
   obtain⟨rfl,rfl⟩:=e6
   obtain⟨J,Q⟩:=ai _ _ a
   refine⟨?_,λ_=>Q trivial⟩
   simp only[b2,List.foldlM_cons,Sem.run_bind,aO,Builtin.min2,Sem.run_pure,Result.andThen_ok]
   simp only[ls,uX,fF,Zg,aO]at J
   exact J
  ·simp at a
end
section
variable{C:aL}{S:c6}{ad:Nat->Prop}{h:R af}{j bm:Nat}{w:World}
def jN.mono{av:Operand->Value}{eE:Operand->Option D}{k bM:List Operand}(a:jN S ad av eE k)(aD:∀x∈bM,x∈k):jN S ad av eE bM:=λx ae v bv=>a x (aD x ae) v bv
def SY{av:Operand->Value}{eE:Operand->Option D}{V:Option Operand}{r:Option D}(cD:jN S ad av eE V.toList)(a:CS eE V=some r):V.map av=r.map (aO S):=by
 cases V with
 |none=>simp[CS]at a;subst a;rfl
 |some x=>
  simp only[CS]at a
  split at a
  ·rename_i v bv
   simp at a;subst a
   simp[(cD x Zs v bv).1]
  ·simp at a
def aoh(Y:dn C S ad h j bm w){oper:Oper}{av:Operand->Value}{eE:Operand->Option D}{v:D}(cD:jN S ad av eE oper.op.operands.toList)
 (a:oS oper.op C h eE=some v):M5 S ad C.P w (execOp av oper) v:=by
 obtain⟨dst,op,type,pos,after,guard⟩:=oper
 cases op<;>simp only[oS]at a<;>(try(cases a;done))<;>simp only[execOp]<;>simp only[Op.operands]at cD
 case build t kp=>
  refine oU ?_
  unfold VL at a
  split at a
  ·rename_i dp U0
   obtain⟨J,Q⟩:=acY (by simpa using cD) U0
   have:=an8 (S:=S) (w:=w) Q a
   rw[<-J]at this
   have E:(kp.map λx=>(x.1,av x.2))=(kp.toList.map λx=>(x.1,av x.2)).toArray:=by apply YY;simp
   rw[E];exact this
  ·simp at a
 case binOp op t x e I0=>exact oU (axi Y (by simpa using cD) a)
 case unOp op t x=>
  refine oU ?_
  unfold VT at a
  split at a
  ·rename_i F aA
   rw[(cD x Zs F aA).1]
   exact aoq a
  ·simp at a
 case convert s d x=>exact oU (axj Y (by simpa using cD) a)
 case makeInterface t x=>exact oU (axl (by simpa using cD) a)
 case makeFunc fn first fT=>
  refine oU ?_
  unfold VP at a
  split at a
  ·rename_i F b aA ag
   split at a
   ·simp at a;subst a
    obtain⟨a7,b6⟩:=wW (cD.mono (by simp;intro x ae;exact .inl ae)) aA
    obtain⟨bZ,cu⟩:=wW (cD.mono (by simp;intro x ae;exact .inr ae)) ag
    refine⟨?_,trivial,b6,cu⟩
    simp[Instr.makeFunc,a7,bZ,aO,nF]
   ·simp at a
  ·simp at a
 case slice t x bG aN ht=>
  refine oU ?_
  unfold VS at a
  split at a
  ·rename_i F k cy m aA az gU bo
   have J:=cD x Zs F aA
   have Q:=SY (cD.mono (by simp;intro x ae;exact .inr (.inl ae))) az
   have ak:=SY (cD.mono (by simp;intro x ae;exact .inr (.inr (.inl ae)))) gU
   have ay:=SY (cD.mono (by simp;intro x ae;exact .inr (.inr (.inr ae)))) bo
   rw[J.1,Q,ak,ay]
   exact aon Y J.2 a
  ·simp at a
 case field t x f=>exact oU (axk (by simpa using cD) a)
 case index t x i=>
  refine oU ?_
  unfold VQ at a
  split at a
  ·rename_i F b aA ag
   have J:=cD x Zs F aA
   rw[J.1,(cD i Zs b ag).1]
   exact aoe J.2 a
  ·simp at a
 case lookup t m y ok=>
  refine oU ?_
  unfold VR at a
  split at a
  ·rename_i F b aA ag
   have J:=cD m Zs F aA
   have Q:=cD y Zs b ag
   rw[J.1,Q.1]
   exact aoi Y J.2 Q.2 a
  ·simp at a
 case typeAssert x t vo ok=>exact oU (axh (by simpa using cD) a)
 case call c=>
  unfold VN at a
  split at a
  ·rename_i b args dg
   simp only[Call.operands]at cD
   have PP:jN S ad av eE args.toList:=cD.mono Zs
   unfold VM at a
   split at a
   ·rename_i x ae
    obtain⟨a7,b6⟩:=wW PP ae
    split at a
    ·rename_i t rest aA
     obtain⟨J,Q⟩:=aog (ty:=type) Y aA b6.1 a
     refine⟨?_,Q⟩
     simp[resolve,invoke,builtin,a7,b2,J]
    ·simp at a
   ·rename_i x ae
    obtain⟨a7,b6⟩:=wW PP ae
    split at a
    ·rename_i t rest aA
     obtain⟨J,Q⟩:=an9 (S:=S) (ad:=ad) (w:=w) (ty:=type) aA a
     refine⟨?_,Q⟩
     simp[resolve,invoke,builtin,a7,b2,J]
    ·simp at a
   ·rename_i x k ae
    obtain⟨a7,b6⟩:=wW PP ae
    obtain⟨J,Q⟩:=aok (C:=C) (S:=S) (ad:=ad) (w:=w) k x v a
    refine⟨?_,Q b6.1⟩
    simp[resolve,invoke,builtin,Builtin.max_,a7,b2,J]
   ·rename_i x k ae
    obtain⟨a7,b6⟩:=wW PP ae
    obtain⟨J,Q⟩:=aol (C:=C) (S:=S) (ad:=ad) (w:=w) k x v a
    refine⟨?_,Q b6.1⟩
    simp[resolve,invoke,builtin,Builtin.min_,a7,b2,J]
   ·simp at a
  ·simp at a
def agW(Y:dn C S ad h j bm w){oper:Oper}{av:Operand->Value}{el:List (Nat×Nat)}{ap:List (Nat×D)}{H:R D}{c:j9}{v:D}
 (cD:jN S ad av (jD el ap H) oper.op.operands.toList)(ax:mb C el oper.op=some c)(a:g4 c C h ap H=some v):M5 S ad C.P w (execOp av oper) v:=by
 have rest:∀V,oper.op=V->c= .iu el V->M5 S ad C.P w (execOp av oper) v:=by
  intro V bh Ed
  subst Ed;subst bh
  exact aoh Y cD a
 obtain⟨dst,op,type,pos,after,guard⟩:=oper
 cases op<;>simp only[mb]at ax<;>simp only[Op.operands]at cD
 case move x=>
  split at ax
  ·rename_i jl ae
   simp at ax;subst ax
   simp only[g4,oc ae]at a
   obtain⟨J,Q⟩:=cD x Zs v a
   exact⟨by simp[execOp,J],Q⟩
  ·simp at ax
 case assign x=>
  split at ax
  ·rename_i jl ae
   simp at ax;subst ax
   simp only[g4,oc ae]at a
   obtain⟨J,Q⟩:=cD x Zs v a
   exact⟨by simp[execOp,J],Q⟩
  ·simp at ax
 case pick f9 F b=>
  split at ax
  ·rename_i aDz fu dK Hr aA ag
   simp at ax;subst ax
   simp only[g4,oc Hr]at a
   split at a
   ·rename_i ac bc
    obtain⟨J,Q⟩:=cD f9 Zs ac bc
    unfold Re at a
    split at a
    ·rename_i t
     rw[oc aA,oc ag]at a
     simp only[execOp,J,aO]
     cases t
     ·obtain⟨ak,ay⟩:=cD b Zs v (by simpa using a)
      exact⟨by simp[asBool,ak],ay⟩
     ·obtain⟨ak,ay⟩:=cD F Zs v (by simpa using a)
      exact⟨by simp[asBool,ak],ay⟩
    ·simp at a
   ·simp at a
  ·simp at ax
 case load t F=>
  split at ax
  ·rename_i fu s aA J Q
   simp at ax;subst ax
   simp only[g4,oc aA]at a
   split at a
   ·rename_i ac bc
    obtain⟨ak,ay⟩:=cD F Zs ac bc
    simp only[execOp,ak]
    exact oU (abH Y J Q ay a)
   ·simp at a
  ·rename_i fu aA J
   simp at ax;subst ax
   simp only[g4,oc aA]at a
   split at a
   ·rename_i ac bc
    obtain⟨ak,ay⟩:=cD F Zs ac bc
    simp only[execOp,ak]
    exact oU (abG Y J ay a)
   ·simp at a
  ·simp at ax
 case fieldAddr s x f=>
  split at ax
  ·rename_i kf jl bc ae
   rw[qL]at ax
   split at ax
   ·rename_i tg cb
    split at ax
    ·rename_i bu cm
     simp only[GO]at ax
     obtain⟨lZ,ax⟩:=ax
     simp at ax;subst ax
     simp only[g4,oc ae]at a
     split at a
     ·rename_i ac sp
      obtain⟨ak,ay⟩:=cD x Zs ac sp
      simp only[execOp,ak]
      exact oU (aq5 bc cb cm (by intro E;subst E;simp at lZ) ay a)
     ·simp at a
    ·simp at ax
   ·simp at ax
  ·simp at ax
 case indexAddr t x i=>
  split at ax
  ·rename_i n ei jl cA bc ae aN
   split at ax
   ·rename_i bs cm
    simp at ax;subst ax
    simp only[g4,oc ae,oc aN]at a
    split at a
    ·rename_i ac sp
     split at a
     ·rename_i T bJ
      split at a
      ·rename_i aP aF
       obtain⟨y,rfl⟩:=E9 aF
       obtain⟨ak,ay⟩:=cD x Zs ac sp
       obtain⟨bt,b4⟩:=cD i Zs _ bJ
       simp only[execOp,ak,bt,aO]
       exact oU (awC bc cm ay a)
      ·simp at a
     ·simp at a
    ·simp at a
   ·simp at ax
  ·rename_i ei jl cA bc ae aN
   split at ax
   ·rename_i bs cm
    simp at ax;subst ax
    simp only[g4,oc ae,oc aN]at a
    split at a
    ·rename_i ac sp
     split at a
     ·rename_i T bJ
      split at a
      ·rename_i aP aF
       obtain⟨y,rfl⟩:=E9 aF
       obtain⟨ak,ay⟩:=cD x Zs ac sp
       obtain⟨bt,b4⟩:=cD i Zs _ bJ
       simp only[execOp,ak,bt,aO]
       exact oU (awF bc cm ay a)
      ·simp at a
     ·simp at a
    ·simp at a
   ·simp at ax
  ·simp at ax
 case nilCheck x=>
  split at ax
  ·rename_i jl ae
   simp at ax;subst ax
   simp only[g4,oc ae]at a
   split at a
   ·rename_i ac bc
    obtain⟨ak,ay⟩:=cD x Zs ac bc
    obtain⟨rfl,bt⟩:=aDk (C:=C) (S:=S) (w:=w) ay a
    exact⟨bt _ av x rfl ak,ay⟩
   ·simp at a
  ·simp at ax
 case binOp op t x e I0=>
  rw[fF]at ax
  split at ax
  ·split at ax
   ·rename_i jl aF6 ae B
    simp at ax;subst ax
    simp only[g4,oc ae,oc B]at a
    split at a
    ·rename_i F aA
     split at a
     ·rename_i b ag
      obtain⟨J,Q⟩:=cD x Zs F aA
      obtain⟨ak,ay⟩:=cD e Zs b ag
      obtain⟨bt,b4,y,i,e2,T,rfl,rfl⟩:=abE (C:=C) (S:=S) (ad:=ad) (w:=w) t a
      simp only[execOp,J,ak]
      refine oU ⟨?_,b4⟩
      rw[Sem.run_bind,NZ (by simp[GZ])]
      exact bt
     ·simp at a
    ·simp at a
   ·simp at ax
  ·simp at ax;exact rest _ rfl ax.symm
 case extract x i=>
  split at ax
  ·rename_i jl ae
   simp at ax;subst ax
   simp only[g4,oc ae]at a
   split at a
   ·rename_i ac bc
    obtain⟨ak,ay⟩:=cD x Zs ac bc
    simp only[execOp,ak]
    exact oU (aDj ay a)
   ·simp at a
  ·simp at ax
 case convert s d x=>
  rw[fF]at ax
  split at ax
  ·simp at ax;subst ax;simp[g4]at a
  ·simp at ax;exact rest _ rfl ax.symm
 case store t F x=>
  split at ax
  ·simp at ax;subst ax;simp[g4]at a
  ·simp at ax
 case makeMap t r=>cases r<;>simp[mb]at ax<;>subst ax<;>simp[g4]at a
 case call r6=>
  obtain⟨callee,args,dg⟩:=r6
  cases callee with
  |builtin b=>
   cases b<;>simp[mb]at ax<;>first
    |exact rest _ rfl ax.symm
    |(subst ax;simp[g4]at a)
  |value f=>
   cases f<;>simp[mb]at ax
   all_goals first
    |(subst ax;simp[g4]at a;done)
    |(
      split at ax
      ·simp at ax;subst ax;simp[g4]at a
      ·simp at ax)
  |invoke r m=>simp[mb]at ax;subst ax;simp[g4]at a
 all_goals(simp at ax;first|exact rest _ rfl ax.symm|(subst ax;simp[g4]at a))
end
def ge{C:aL}{h:R af}{b:Nat}(V:Option af)(ag:C.a6<=b)(x:Nat):U C (bi C h b V) x=if x=b then V else U C h x:=by
 unfold U bi
 rw[fF,fF]
 by_cases ae:Nat.blt x C.a6=true
 ·have:=lS ae
  rw[Zp ae,Zp ae,Zh Zo]
 ·have rv:C.a6<=x:=by
   rcases zc x C.a6 with a|a
   ·exact absurd (by simp[Nat.blt];omega) ae
   ·exact a
  rw[Zh ae,Zh ae,R.kN]
  show(if b-C.a6=x-C.a6 then V else h.get (x-C.a6))=_
  by_cases E:x=b
  ·rw[Zp Zo,Zp E]
  ·rw[Zh Zo,Zh E];rfl
def aeS{C:aL}:∀(k:List Nat) (h:R af) (x:Nat),(∀b∈k,C.a6<=b)->U C (qJ C k h) x=if x∈k then none else U C h x:=by
 intro k
 induction k with
 |nil=>intro h x _;simp[qJ]
 |cons b k ai=>
  intro h x a
  simp only[qJ]
  rw[ai _ _ (λc ax=>a c (by simp[ax])),ge _ (a b Zs)]
  by_cases ae:x∈k
  ·simp[ae]
  ·by_cases E:x=b
   ·simp[E]
   ·simp[ae,E]
def gI(S:c6)(b:Nat)(pl:m4):c6:=λx=>if x=b then pl else S x
def add(ad:Nat->Prop)(b:Nat):Nat->Prop:=λx=>ad x\/x=b
structure iZ(C:aL)(df:Nat)(S:c6)(ad:Nat->Prop)(h:R af)(bm:Nat)(w:World)(da:c6)(dE:Nat->Prop)(S':R af)(b0:World):Prop where
 jk:∀b,ad b->da b=S b
 j0:∀b,ad b->dE b
 new:∀b,dE b->ad b\/df<=b
 aa:∀b,¬ad b->b<df->U C S' b=U C h b
 below:Below bm w b0
def iZ.refl{C:aL}{df:Nat}{S:c6}{ad:Nat->Prop}{h:R af}{bm:Nat}{w:World}:iZ C df S ad h bm w S ad h w:=
 ⟨λ_ _=>rfl,λ_ a=>a,λ_ a=> .inl a,λ_ _ _=>rfl, .refl _ _⟩
def iZ.trans{C:aL}{df LZ:Nat}{S da ajB:c6}{ad dE XA:Nat->Prop}{h S' abu:R af}{bm:Nat}{w b0 ajb:World}(a:iZ C df S ad h bm w da dE S' b0)(az:df<=LZ)
 (y:iZ C LZ da dE S' bm b0 ajB XA abu ajb):iZ C df S ad h bm w ajB XA abu ajb:=
 ⟨λb ag=>(y.jk b (a.j0 b ag)).trans (a.jk b ag),λb ag=>y.j0 b (a.j0 b ag),
  λb ag=>(y.new b ag).elim (λag=>a.new b ag) (λag=> .inr Zo),
  λb ag hI=>by
   have aF:¬dE b:=λaE=>(a.new b aE).elim ag (λaj=>Zo)
   rw[y.aa b aF Zo,a.aa b ag hI],
  a.below.trans y.below⟩
section
variable{C:aL}{S da:c6}{ad dE:Nat->Prop}{h S':R af}{j am bm:Nat}{w b0:World}
def q8(dP:∀b,ad b->da b=S b){v:D}(g:cj ad v):aO da v=aO S v:=Sx dP v g
def yF(dP:∀b,ad b->da b=S b){k:List D}(g:eu ad k):b2 da k=b2 S k:=GQ dP k g
def jO.aa{n ao:Nat}{H:R D}{tmps:Array Value}(dP:∀b,ad b->da b=S b)(fX:∀b,ad b->dE b)(a:jO S ad n ao H tmps):jO da dE n ao H tmps:=
 ⟨a.size,λt v az bv=>by
  obtain⟨J,Q⟩:=a.val t v az bv
  exact⟨by rw[J,q8 dP Q],pJ fX v Q⟩⟩
def Sl(dP:∀b,ad b->da b=S b){d:h0}(g:xf ad d):ma da d=ma S d:=by
 obtain⟨t,cp⟩:=d
 obtain⟨bK,b1⟩:=g
 simp only[ma,yF dP b1]
 congr 1
 cases t with
 |fn fn cs=>
  obtain⟨J,Q⟩:=bK
  have E:nF da fn=nF S fn:=by
   cases fn<;>simp only[nF]
   rw[dP _ J]
  simp only[DG,E,yF dP Q]
 |collected r=>simp only[DG,dP r bK]
def adD(fX:∀b,ad b->dE b){d:h0}(g:xf ad d):xf dE d:=by
 obtain⟨t,cp⟩:=d
 refine⟨?_,sc fX _ g.2⟩
 cases t with
 |fn fn cs=>exact⟨by cases fn<;>first|exact fX _ g.1.1|exact g.1.1,sc fX _ g.1.2⟩
 |collected r=>exact fX _ g.1
def kr.aa{V:af}{pl:m4}(dP:∀b,ad b->da b=S b)(fX:∀b,ad b->dE b)(bw:b0.heap[pl.cJ]? =w.heap[pl.cJ]?)(a:kr C S ad V pl w):kr C da dE V pl b0:=by
 cases V with
 |cells c n st=>
  obtain⟨co,ty,bG,aN,J,Q,ak,ay⟩:=a
  refine⟨co,ty,bG,aN,by rw[bw,J],Q,ak,λi v bv=> ?_⟩
  obtain⟨bt,b4⟩:=ay i v bv
  exact⟨by rw[bt,q8 dP b4],pJ fX v b4⟩
 |map ca fa=>
  obtain⟨co,J,Q,ak⟩:=a
  refine⟨co,by rw[bw,J], ?_,λE bz=>⟨pJ fX _ (ak E bz).1,pJ fX _ (ak E bz).2⟩⟩
  rw[Q]
  apply Yz
  intro E bz
  simp only[mf,q8 dP (ak E bz).1,q8 dP (ak E bz).2]
 |look ca=>
  obtain⟨co,fa,mC,J,Q,ay,ak⟩:=a
  refine⟨co,fa,mC,by rw[bw,J], ?_,ay,λE bz=>⟨pJ fX _ (ak E bz).1,pJ fX _ (ak E bz).2⟩⟩
  rw[Q]
  apply Yz
  intro E bz
  simp only[mf,q8 dP (ak E bz).1,q8 dP (ak E bz).2]
 |pm s pos=>exact⟨a.1,by rw[bw,a.2.1],a.2.2⟩
 |AF m wx seen st=>
  obtain⟨aY,J,Q⟩:=a
  refine⟨aY, ?_,λb ag=>fX b (Q b ag)⟩
  rw[bw,J]
  cases m with
  |none=>rfl
  |some m=>simp only[ZR,dP m (Q m rfl)]
 |Ij m wx n cO st gQ=>
  obtain⟨aY,J,seen,Q,ak⟩:=a
  exact⟨aY,fX m J,seen,by rw[bw,Q,dP m J],ak⟩
 |loop state pending fn n ao H params assign body bd=>
  obtain⟨tmps,J,Q,ak,ay⟩:=a
  exact⟨tmps,by rw[bw,J,dP bd ak],Q.aa dP fX,fX _ ak,ay⟩
 |deferred ql=>
  obtain⟨J,Q⟩:=a
  refine⟨?_,λk az d aE=>adD fX (Q k az d aE)⟩
  rw[bw,J]
  cases ql with
  |none=>rfl
  |some k=>
   simp only[ZR]
   congr 3
   exact Yz λd aE=>(Sl dP (Q k rfl d aE)).symm
def kr.lt{V:af}{pl:m4}(a:kr C S ad V pl w):pl.cJ<w.heap.size:=by
 have:∃x,w.heap[pl.cJ]? =some x:=by
  cases V with
  |cells c n st=>obtain⟨co,ty,bG,aN,J,_⟩:=a;exact⟨_,J⟩
  |map ca fa=>obtain⟨co,J,_⟩:=a;exact⟨_,J⟩
  |look ca=>obtain⟨co,fa,mC,J,_⟩:=a;exact⟨_,J⟩
  |pm s pos=>exact⟨_,a.2.1⟩
  |AF m wx seen st=>exact⟨_,a.2.1⟩
  |Ij m wx n cO st gQ=>obtain⟨_,_,seen,J,_⟩:=a;exact⟨_,J⟩
  |loop state pending fn n ao H params assign body bd=>obtain⟨tmps,J,_⟩:=a;exact⟨_,J⟩
  |deferred ql=>exact⟨_,a.1⟩
 obtain⟨x,ae⟩:=this
 exact(ZM.1 ae).1
def dn.alloc(Y:dn C S ad h j bm w){b:Nat}{pl:m4}{cV:af}{V:Obj}(ag:C.a6<=b)(c2:b<am)(auW:j<=am)(aF:¬ad b)(ez:bm<=w.heap.size)(tC:pl.cJ=w.heap.size)
 (iP:U C S' b=some cV)(OJ:∀x,x≠b->U C S' x=U C h x\/U C S' x=none)(bh:kr C (gI S b pl) (add ad b) cV pl (w.alloc V))(sl:wO C (add ad b) cV):
 dn C (gI S b pl) (add ad b) S' am bm (w.alloc V):=by
 have dP:∀x,ad x->gI S b pl x=S x:=λx ae=>by
  unfold gI;rw[Zh];intro E;subst E;exact aF ae
 have kg:gI S b pl b=pl:=by unfold gI;rw[Zp rfl]
 have UT:∀y,y<w.heap.size->(w.alloc V).heap[y]? =w.heap[y]? :=λy aH=>Below.heap_alloc _ _ _ aH
 have key:∀x dq,U C S' x=some dq->add ad b x->x≠b->U C h x=some dq/\ad x/\(S x).cJ<w.heap.size:=by
  intro x dq ae aE dS
  have tr:ad x:=aE.resolve_right dS
  rcases OJ x dS with a|a
  ·have:U C h x=some dq:=by rw[<-a,ae]
   exact⟨this,tr,(Y.obj x dq this tr).lt⟩
  ·rw[a]at ae;cases ae
 refine⟨ZA Y.a6 auW, ?_, ?_, ?_, ?_, ?_, ?_⟩
 ·intro x ae
  rcases ae with ae|ae
  ·have:=Y.lt x ae;omega
  ·omega
 ·intro x dq ae
  by_cases E:x=b
  ·omega
  ·rcases OJ x E with a|a
   ·have:=Y.wq x dq (by rw[<-a,ae]);omega
   ·rw[a]at ae;cases ae
 ·intro x dq ae aE
  by_cases E:x=b
  ·subst E
   rw[iP]at ae;cases ae
   rw[kg];exact bh
  ·obtain⟨J,Q,ak⟩:=key x dq ae aE E
   rw[dP x Q]
   exact(Y.obj x dq J Q).aa dP (λ_ a=> .inl a) (UT _ ak)
 ·intro x e dq qO ae B dM pE dS mn e6
  by_cases E:x=b
  ·subst E
   by_cases cG:e=x
   ·exact absurd cG.symm dS
   ·obtain⟨J,Q,ak⟩:=key e qO B pE cG
    rw[kg,dP e Q]at e6
    omega
  ·obtain⟨J,Q,ak⟩:=key x dq ae dM E
   by_cases cG:e=b
   ·subst cG
    rw[kg,dP x Q]at e6
    omega
   ·obtain⟨ay,bt,b4⟩:=key e qO B pE cG
    rw[dP x Q,dP e bt]at e6 ⊢
    exact Y.sep x e dq qO J ay Q bt dS mn e6
 ·intro x dq mn ae aE
  by_cases E:x=b
  ·subst E;rw[kg];omega
  ·obtain⟨J,Q,ak⟩:=key x dq ae aE E
   rw[dP x Q]
   exact Y.base x dq mn J Q
 ·intro x dq ae aE
  by_cases E:x=b
  ·subst E;rw[iP]at ae;cases ae;exact sl
  ·obtain⟨J,Q,ak⟩:=key x dq ae aE E
   refine⟨λc n k az e B=> ?_,(Y.fz x dq J Q).2⟩
   obtain⟨bK,b1⟩:=(Y.fz x dq J Q).1 c n k az e B
   exact⟨.inl bK,b1⟩
def dn.ac4(Y:dn C S ad h j bm w)(iP:∀x,U C S' x=U C h x\/U C S' x=none):dn C S ad S' j bm w:=by
 have key:∀x dq,U C S' x=some dq->U C h x=some dq:=by
  intro x dq ae
  rcases iP x with a|a
  ·rw[<-a,ae]
  ·rw[a]at ae;cases ae
 exact⟨Y.a6,Y.lt,λx dq ae=>Y.wq x dq (key x dq ae),λx dq ae aE=>Y.obj x dq (key x dq ae) aE,
  λx e dq qO ae B dM pE dS mn e6=>Y.sep x e dq qO (key x dq ae) (key e qO B) dM pE dS mn e6,λx dq mn ae aE=>Y.base x dq mn (key x dq ae) aE,λx dq ae aE=>Y.fz x dq (key x dq ae) aE⟩
def dn.put(Y:dn C S ad h j bm w){b:Nat}{cV pg:af}(ag:C.a6<=b)(aE:ad b)(h4:U C h b=some cV)(iP:U C S' b=some pg)
 (OJ:∀x,x≠b->U C S' x=U C h x\/U C S' x=none)(bw:∀y,y≠(S b).cJ->b0.heap[y]? =w.heap[y]?)
 (mm:∀x dq,x≠b->U C S' x=some dq->ad x->(S x).cJ=(S b).cJ->False)(bh:kr C S ad pg (S b) b0)(sl:wO C ad pg):dn C S ad S' j bm b0:=by
 have key:∀x dq,x≠b->U C S' x=some dq->U C h x=some dq:=by
  intro x dq dS ae
  rcases OJ x dS with a|a
  ·rw[<-a,ae]
  ·rw[a]at ae;cases ae
 refine⟨Y.a6,Y.lt, ?_, ?_, ?_, ?_, ?_⟩
 ·intro x dq ae
  by_cases E:x=b
  ·subst E;exact Y.lt x aE
  ·exact Y.wq x dq (key x dq E ae)
 ·intro x dq ae dM
  by_cases E:x=b
  ·subst E;rw[iP]at ae;cases ae;exact bh
  ·exact(Y.obj x dq (key x dq E ae) dM).aa (λ_ _=>rfl) (λ_ a=>a) (bw _ λaj=>mm x dq E ae dM aj)
 ·intro x e dq qO ae B dM pE dS mn e6
  by_cases E:x=b
  ·subst E
   exact(mm e qO (λaj=>dS aj.symm) B pE e6.symm).elim
  ·by_cases cG:e=b
   ·subst cG;exact(mm x dq E ae dM e6).elim
   ·exact Y.sep x e dq qO (key x dq E ae) (key e qO cG B) dM pE dS mn e6
 ·intro x dq mn ae dM
  by_cases E:x=b
  ·subst E;exact Y.base x cV mn h4 aE
  ·exact Y.base x dq mn (key x dq E ae) dM
 ·intro x dq ae dM
  by_cases E:x=b
  ·subst E;rw[iP]at ae;cases ae;exact sl
  ·exact Y.fz x dq (key x dq E ae) dM
def M4(V:af):Prop:=(∀c n,V≠ .cells c n .kq)/\(∀c n k,V≠ .cells c n (.grow k))
def dn.alone(Y:dn C S ad h j bm w){b:Nat}{cV:af}(ag:C.a6<=b)(aE:ad b)(h4:U C h b=some cV)(aA:M4 cV):
 ∀x dq,x≠b->U C h x=some dq->ad x->(S x).cJ=(S b).cJ->False:=by
 intro x dq dS ae dM e6
 rcases(Y.sep b x cV dq h4 ae aE dM (λaj=>dS aj.symm) ag e6.symm).1 with ⟨c,n,_,_,aj,_⟩|⟨c,n,k,_,_,aj,_⟩|⟨_,_,_,c,n,_,aj,_⟩
 ·exact aA.1 _ _ aj
 ·exact aA.2 _ _ _ aj
 ·exact aA.1 _ _ aj
end
section
variable{C:aL}{S da:c6}{ad dE:Nat->Prop}{h S':R af}{j am bm:Nat}{w b0:World}
def vR(w:World)(V:Obj):(w.alloc V).heap[w.heap.size]? =some V:=by
 show(w.heap.push V)[w.heap.size]? =_
 simp
def lK(S:c6)(b:Nat)(pl:m4):gI S b pl b=pl:=by unfold gI;rw[Zp rfl]
def rO{b:Nat}{pl:m4}(aF:¬ad b):∀x,ad x->gI S b pl x=S x:=λx ae=>by
 unfold gI;rw[Zh];intro E;subst E;exact aF ae
def kd(S:c6)(k:List D):(b2 S k).length=k.length:=by rw[qn,Zi]
def Bx(S:c6)(k:List D)(i:Nat):(b2 S k)[i]? =(k[i]?).map (aO S):=by rw[qn,Zw]
def DI(S:c6)(F b:List D):b2 S (F++b)=b2 S F++b2 S b:=by simp[qn]
def BM{F b:List D}(aA:eu ad F)(ag:eu ad b):eu ad (F++b):=by
 rw[vB]at*
 intro v bv
 rcases Zz.1 bv with a|a
 ·exact aA v a
 ·exact ag v a
def BN{k:List D}(a:eu ad k){i:Nat}{v:D}(bv:k[i]? =some v):cj ad v:=(vB ad k).1 a v (Zn bv)
def mR(k:List D)(i:Nat):(R.ofList k 0 .nil).get i=k[i]? :=by
 rw[R.Od]
 split
 ·simp
 ·rename_i a
  have:k.length<=i:=Zo
  rw[Z2 this];rfl
def NC{k:List D}(g:eu ad k)(ty:TypeId)(r:Nat)(w:World):kr C S ad (.cells (R.ofList k 0 .nil) k.length .own) ⟨w.heap.size,0,r⟩ (w.alloc (.cells (b2 S k).toArray ty)):=by
 refine⟨_,ty,0,0,vR _ _,rfl,by simp[kd],λi v bv=> ?_⟩
 rw[mR]at bv
 refine⟨?_,BN g bv⟩
 simp only[ZS,List.getElem?_toArray,Bx,bv,ZR]
def Fy(n:Nat)(bu:List D):(lh n bu).length=n*bu.length:=by
 induction n with
 |zero=>simp[lh]
 |succ n ai=>simp[lh,ai,Nat.succ_mul,Nat.add_comm]
def aAx(bu:List D):∀(n i:Nat),i<n*bu.length->(lh n bu)[i]? =bu[i%bu.length]? :=by
 intro n
 induction n with
 |zero=>intro i a;omega
 |succ n ai=>
  intro i a
  simp only[lh]
  rw[Nat.succ_mul]at a
  by_cases aN:i<bu.length
  ·rw[ZW aN,YC aN]
  ·rw[ZT Zo,ai _ Zo]
   congr 1
   exact(Nat.mod_eq_sub_mod Zo).symm
def Tt{bu:List D}(a:eu ad bu):∀n,eu ad (lh n bu):=by
 intro n
 induction n with
 |zero=>trivial
 |succ n ai=>exact BM a ai
def aii(S:c6)(bu:List D)(n:Nat):((Array.range (n*bu.length)).map λi=>(b2 S bu).toArray[i%bu.length]!)=(b2 S (lh n bu)).toArray:=by
 apply YY
 rw[Array.toList_map,Array.toList_range]
 show _=b2 S (lh n bu)
 apply Y5
 intro i
 rw[Zw,Bx]
 by_cases aN:i<n*bu.length
 ·rw[List.getElem?_range aN,aAx bu n i aN]
  have cm:0<bu.length:=by
   rcases Nat.eq_zero_or_pos bu.length with a|a
   ·rw[a]at aN;omega
   ·exact a
  have bo:i%bu.length<bu.length:=Nat.mod_lt _ cm
  simp only[ZR]
  rw[Ze bo]
  simp only[ZR,Zf]
  rw[getElem!_pos _ _ (by simpa[kd]using bo)]
  simp[qn]
 ·have J:(List.range (n*bu.length))[i]? =none:=Z2 Zx
  have Q:(lh n bu)[i]? =none:=Z2 (by rw[Fy];omega)
  rw[J,Q];rfl
def aij(S:c6)(bu:List D)(s n:Nat)(cm:bu.length=s)(zero:Array Value)(aY:n*s≠0->zero=(b2 S bu).toArray):
 ((Array.range (n*s)).map (zero[·%zero.size]!))=(b2 S (lh n bu)).toArray:=by
 subst cm
 by_cases a:n*bu.length=0
 ·have J:lh n bu=[]:=List.length_eq_zero_iff.1 (by rw[Fy];exact a)
  rw[a,J];simp[b2]
 ·rw[aY a, <-aii]
  simp[kd]
def ag8{oper:Oper}{av:Operand->Value}{eE:Operand->Option D}{b:Nat}{v:D}{cV:af}(aF:¬ad b)(cD:jN S ad av eE oper.op.operands.toList)
 (a:q4 oper.op C eE b=some (v,cV)):∃V,(execOp av oper).run C.P w= .ok (.value (aO (gI S b ⟨w.heap.size,0,0⟩) v)) (w.alloc V)/\cj (add ad b) v/\
  kr C (gI S b ⟨w.heap.size,0,0⟩) (add ad b) cV ⟨w.heap.size,0,0⟩ (w.alloc V):=by
 have dP:=rO (S:=S) (pl:=⟨w.heap.size,0,0⟩) aF
 have fX:∀x,ad x->add ad b x:=λ_ a=> .inl a
 obtain⟨dst,op,type,pos,after,guard⟩:=oper
 cases op<;>simp only[q4]at a<;>(try(cases a;done))<;>simp only[execOp]<;>simp only[Op.operands]at cD
 case alloc t=>
  unfold E5 at a
  split at a
  ·rename_i bu cm
   simp at a;obtain⟨rfl,rfl⟩:=a
   obtain⟨f1,fD⟩:=FB cm S ad w
   refine⟨.cells (b2 S bu.cells).toArray t, ?_, .inr rfl, ?_⟩
   ·simp[Instr.alloc,f1,newVar,newRow,vt,aO,lK]
   ·have:=NC (C:=C) (S:=gI S b ⟨w.heap.size,0,0⟩) (ad:=add ad b) (sc fX _ (vu fD)) t 0 w
    rw[yF dP (vu fD)]at this
    exact this
  ·simp at a
 case box t x=>
  unfold L2 at a
  split at a
  ·rename_i ac bc
   simp at a;obtain⟨rfl,rfl⟩:=a
   obtain⟨J,Q⟩:=cD x Zs ac bc
   refine⟨.cells (b2 S ac.cells).toArray t, ?_, .inr rfl, ?_⟩
   ·simp[Instr.box,newVar,newRow,J,vt,aO,lK]
   ·have:=NC (C:=C) (S:=gI S b ⟨w.heap.size,0,0⟩) (ad:=add ad b) (sc fX _ (vu Q)) t 0 w
    rw[yF dP (vu Q)]at this
    exact this
  ·simp at a
 case buildSlice t len kp=>
  unfold L3 at a
  split at a
  ·rename_i ei dp bc U0
   split at a
   ·rename_i s bu aD cm
    simp only[e5,Zq]at a
    obtain⟨⟨J,Q⟩,a⟩:=a
    have J:len*s<=16777216:=jQ J
    have Q:bu.cells.length=s:=Zl Q
    split at a
    ·rename_i cs is
     simp at a;obtain⟨rfl,rfl⟩:=a
     obtain⟨f1,fD⟩:=FB cm S ad w
     obtain⟨fK,hX⟩:=acY (by simpa using cD) U0
     obtain⟨eQ,fd⟩:=S1 (S:=S) (Mk:=λi=>some (i*s,s)) (λ_ _ a=>a) dp (lh len bu.cells) cs (Tt (vu fD) len) hX is
     refine⟨.cells (b2 S cs).toArray ei, ?_, .inr rfl, ?_⟩
     ·have E:(kp.map λx=>(x.1,av x.2)).toList=dp.map λx=>(x.1,aO S x.2):=by rw[<-fK];simp
      have hd:¬(len*s>2^24):=by
       have:(2:Nat)^24=16777216:=by decide
       omega
      have cb:Instr.fill (λi=>some (i*s,s)) ((Array.range (len*s)).map ((if len*s=0 then #[]else(aO S bu).cells)[·%(if len*s=0 then #[]else(aO S bu).cells).size]!)) (kp.map λx=>(x.1,av x.2)).toList=some (b2 S cs).toArray:=by
       rw[aij S bu.cells s len Q _ (λdS=>by rw[Zh dS,vt]),E]
       exact eQ
      simp only[Instr.buildSlice,Sem.run_bind,run_underlying bc,Result.andThen_ok,p3 aD]
      rw[Zh hd]
      by_cases aY:len*s=0
      ·rw[Zp aY]at cb
       simp only[Zp aY,Sem.run_bind,Sem.run_pure,Result.andThen_ok,cb]
       simp[newRow,aO,lK]
      ·simp only[Zh aY]at cb
       simp only[Zh aY,Sem.run_bind,Sem.run_pure,Result.andThen_ok,f1,cb]
       simp[newRow,aO,lK]
     ·have:=NC (C:=C) (S:=gI S b ⟨w.heap.size,0,0⟩) (ad:=add ad b) (sc fX _ fd) ei 0 w
      rw[yF dP fd]at this
      exact this
    ·simp at a
   ·simp at a
  ·simp at a
 case makeMap t r=>
  cases r with
  |some r=>simp[q4]at a
  |none=>
   simp[q4]at a;obtain⟨rfl,rfl⟩:=a
   refine⟨.map #[] 0, ?_, .inr rfl, ?_⟩
   ·simp[Instr.makeMap,aO,lK]
   ·exact⟨#[],vR _ _,rfl,Zs⟩
end
section
variable{C:aL}{S da:c6}{ad dE:Nat->Prop}{h S':R af}{j am bm:Nat}{w b0:World}
def li:Array Value->Nat->List Value->Array Value
 |c,_,[]=>c
 |c,V,v::k=>li (c.setIfInBounds V v) (V+1) k
def xZ:∀(k:List Value) (c:Array Value) (V:Nat),(li c V k).size=c.size:=by
 intro k
 induction k with
 |nil=>intro c V;rfl
 |cons v k ai=>intro c V;simp[li,ai]
def WZ:∀(k:List Value) (c:Array Value) (V i:Nat),V+k.length<=c.size->(li c V k)[i]? =if V<=i/\i<V+k.length then k[i-V]? else c[i]? :=by
 intro k
 induction k with
 |nil=>intro c V i _;rw[Zh (by simp only[Z3];omega)];rfl
 |cons v k ai=>
  intro c V i a
  simp only[ZF]at a
  simp only[li]
  rw[ai _ _ _ Zx]
  by_cases E:i=V
  ·subst E
   rw[Zh Zo,Zp Zs]
   have c2:i<c.size:=Zo
   simp[c2]
  ·by_cases aj:V+1<=i/\i<V+1+k.length
   ·rw[Zp aj,Zp Zx,show i-V=(i-(V+1))+1 by omega,Z1]
   ·rw[Zh aj,Zh (by simp only[ZF];omega),Array.getElem?_setIfInBounds_ne (λa=>E a.symm)]
def WT(P:Program)(g V:Nat)(t:TypeId)(bG aN:Nat):∀(br:List Value) (i:Nat) (gQ:Array Value) (w:World),w.heap[g]? =some (.cells gQ t (bG,aN))->(aN<=bG\/gQ.size<=bG)->
 V+i+br.length<=gQ.size->(∀v∈br,v.oneCell'=true)->(storeCells ⟨g,V,none⟩ br i).run P w= .ok () (w.setRow g (li gQ (V+i) br)):=by
 intro br
 induction br with
 |nil=>
  intro i gQ w bP _ _ _
  simp only[storeCells,li]
  rw[setRow_self w g gQ t _ bP];rfl
 |cons v br ai=>
  intro i gQ w bP cb az J
  simp only[ZF]at az
  have c2:V+i<gQ.size:=Zo
  have KF:(⟨g,V,none⟩:Addr).add i=⟨g,V+i,none⟩:=r3 _ _ _
  have o5:w.cell? ⟨g,V+i,none⟩=some gQ[V+i]:=by simp[World.cell?,bP,c2]
  have aub:w.frozen? ⟨g,V+i,none⟩=false:=by
   simp only[World.frozen?,bP,Bool.and_eq_false_iff,Zc]
   omega
  have dj:(store ((⟨g,V,none⟩:Addr).add i) v).run P w= .ok () (w.setRow g (gQ.setIfInBounds (V+i) v)):=by
   rw[KF,run_store P w _ v _ (J v Zs),o5]
   simp[aub,setCell_eq_setRow w g (V+i) gQ t _ v bP]
  have:=ai (i+1) (gQ.setIfInBounds (V+i) v) (w.setRow g (gQ.setIfInBounds (V+i) v)) (setRow_heap w g gQ _ t _ bP) (by simpa using cb) Zx (λx ae=>J x (by simp[ae]))
  simp only[storeCells,Sem.run_bind,dj,Result.andThen_ok,this,setRow_setRow,li]
  rfl
def Sb{p:Nat}(ez:bm<=p)(cs:Array Value)(w:World):Below bm w (w.setRow p cs):=
 ⟨rfl,rfl,rfl,by simp[World.setRow],λy aH=>setRow_other w p y cs Zo⟩
def ahE:∀{br:List D},ju br=true->∀v∈b2 S br,v.oneCell'=true:=by
 intro br
 induction br with
 |nil=>intro _ v bv;simp[b2]at bv
 |cons F k ai=>
  intro a v bv
  simp only[ju,Zq]at a
  simp only[b2,Zt]at bv
  rcases bv with rfl|bv
  ·cases F<;>simp[qN]at a<;>rfl
  ·exact ai a.2 v bv
def aju{c:R D}{co:Array Value}{eh V n:Nat}{br:List D}(bP:eu ad br)(bh:V+br.length<=n)(aF:eh+n<=co.size)
 (a:∀i v,c.get i=some v->co[eh+i]? =some (aO S v)/\cj ad v):
 ∀i v,(dT c V br).get i=some v->(li co (eh+V) (b2 S br))[eh+i]? =some (aO S v)/\cj ad v:=by
 intro i v bv
 rw[Xv,R.Od]at bv
 rw[WZ _ _ _ _ (by rw[kd];omega),kd]
 split at bv
 ·rename_i aN
  rw[Zp Zo,Bx,show eh+i-(eh+V)=i-V by omega,bv]
  exact⟨rfl,BN bP bv⟩
 ·rename_i aN
  rw[Zh Zo]
  exact a i v bv
def Rb{c:R D}{V n:Nat}{br:List D}(bh:V+br.length<=n)(a:∀i v,c.get i=some v->i<n):∀i v,(dT c V br).get i=some v->i<n:=by
 intro i v bv
 rw[Xv,R.Od]at bv
 split at bv
 ·omega
 ·exact a i v bv
def It{k:List D}:∀i v,(R.ofList k 0 .nil).get i=some v->i<k.length:=by
 intro i v bv
 rw[mR]at bv
 exact(Zb.1 bv).1
def RZ(Y:dn C S ad h j bm w){df b V:Nat}{br:List D}(aE:ad b)(bP:eu ad br)(a:wU C h b V br=some S'):
 ∃b0,(storeCells ⟨(S b).cJ,(S b).eh+V,none⟩ (b2 S br)).run C.P w= .ok () b0/\dn C S ad S' j bm b0/\iZ C df S ad h bm w S ad S' b0:=by
 unfold wU at a
 split at a
 ·rename_i c n st bh
  simp only[e5,Zq]at a
  obtain⟨⟨⟨J,Q⟩,ak⟩,a⟩:=a
  have J:V+br.length<=n:=jQ J
  have ag:C.a6<=b:=jQ Q
  obtain⟨co,ty,bG,aN,a7,b6,a3,a4⟩:=Y.obj b _ bh aE
  have kz:st≠ .kq:=λE=>(by subst E;simp at a)
  refine⟨w.setRow (S b).cJ (li co ((S b).eh+V) (b2 S br)), ?_, ?_⟩
  ·exact WT C.P _ _ ty bG aN (b2 S br) 0 co w a7 (b6.free kz) (by rw[kd];omega) (ahE ak)
  have fb:=setRow_heap w (S b).cJ co (li co ((S b).eh+V) (b2 S br)) ty (bG,aN) a7
  have B0:=Y.base b _ ag bh aE
  have KJ:Below bm w (w.setRow (S b).cJ (li co ((S b).eh+V) (b2 S br))):=Sb B0 _ _
  have afv:∀y,y≠(S b).cJ->(w.setRow (S b).cJ (li co ((S b).eh+V) (b2 S br))).heap[y]? =w.heap[y]? :=λy aH=>setRow_other w _ y _ aH
  have fin:∀jx,Gp jx n (S b) co.size bG aN->kr C S ad (.cells (dT c V br) n jx) (S b) (w.setRow (S b).cJ (li co ((S b).eh+V) (b2 S br))):=by
   intro jx dj
   refine⟨_,ty,bG,aN,fb,by rw[xZ];exact dj,by rw[xZ];exact a3,aju bP J a3 a4⟩
  have plain:∀jx,M4 (.cells c n st)->Gp jx n (S b) co.size bG aN->(∀k,jx≠ .grow k)->S'=bi C h b (some (.cells (dT c V br) n jx))->
   dn C S ad S' j bm (w.setRow (S b).cJ (li co ((S b).eh+V) (b2 S br)))/\iZ C df S ad h bm w S ad S' (w.setRow (S b).cJ (li co ((S b).eh+V) (b2 S br))):=by
   intro jx nb dj Lb iP
   subst iP
   have nK:U C (bi C h b (some (.cells (dT c V br) n jx))) b=some (.cells (dT c V br) n jx):=by rw[ge _ ag,Zp rfl]
   have j3:∀x,x≠b->U C (bi C h b (some (.cells (dT c V br) n jx))) x=U C h x:=λx ae=>by rw[ge _ ag,Zh ae]
   refine⟨Y.put ag aE bh nK (λx ae=> .inl (j3 x ae)) afv ?_ (fin jx dj) ⟨λf9 aP k az=>(by cases az;exact absurd rfl (Lb _)),λf9 aP aBJ az=>(by cases az;exact Rb J ((Y.fz b _ bh aE).2 _ _ _ rfl))⟩, ?_⟩
   ·intro x dq dS ae dM e6
    rw[j3 x dS]at ae
    exact Y.alone ag aE bh nb x dq dS ae dM e6
   ·exact⟨λ_ _=>rfl,λ_ a=>a,λ_ a=> .inl a,λx ae _=>j3 x (λE=>ae (E▸aE)),KJ⟩
  cases st with
  |own=>
   simp only[hv,Zf]at a
   exact plain .own ⟨Zs,Zs⟩ b6 Zs a.symm
  |marked=>
   simp only[hv,Zf]at a
   exact plain .marked ⟨Zs,Zs⟩ b6 Zs a.symm
  |grow fz=>
   simp only[hv,Zf]at a
   have sl:=(Y.fz b _ bh aE).1 _ _ _ rfl
   subst a
   have nK:U C (bi C (qJ C fz h) b (some (.cells (dT c V br) n (.grow [])))) b=some (.cells (dT c V br) n (.grow [])):=by rw[ge _ ag,Zp rfl]
   have j3:∀x,x≠b->U C (bi C (qJ C fz h) b (some (.cells (dT c V br) n (.grow [])))) x=if x∈fz then none else U C h x:=λx ae=>by
    rw[ge _ ag,Zh ae,aeS _ _ _ λe B=>(sl e B).2]
   refine⟨Y.put ag aE bh nK (λx ae=> ?_) afv ?_ (fin (.grow []) b6) ⟨λf9 aP k az=>(by cases az;simp),λf9 aP aBJ az=>(by cases az;exact Rb J ((Y.fz b _ bh aE).2 _ _ _ rfl))⟩, ?_⟩
   ·rw[j3 x ae];split
    ·exact .inr rfl
    ·exact .inl rfl
   ·intro x dq dS ae dM e6
    rw[j3 x dS]at ae
    split at ae
    ·cases ae
    ·rename_i UL
     rcases(Y.sep b x _ dq bh ae aE dM (λaj=>dS aj.symm) ag e6.symm).1 with ⟨_,_,_,_,aj,_⟩|⟨_,_,k,_,_,aj,_,az,_⟩|⟨_,_,_,_,_,_,aj,_⟩
     ·cases aj
     ·cases aj;exact UL az
     ·cases aj
   ·exact⟨λ_ _=>rfl,λ_ a=>a,λ_ a=> .inl a,λx ae _=>by
     rw[j3 x (λE=>ae (E▸aE)),Zh (λbo=>ae (sl x bo).1)],KJ⟩
  |kq=>simp at a
 ·simp at a
end
def Bc(C:aL)(S:c6)(ad:Nat->Prop)(h:R af)(j bm:Nat)(w:World)(s:Sem Next)(v:D)(S':R af)(am:Nat):Prop:=
 ∃da dE b0 n,s.run C.P w= .ok n b0/\(n= .value (aO da v)\/(n= .skip/\v=undef))/\cj dE v/\dn C da dE S' am bm b0/\iZ C j S ad h bm w da dE S' b0/\j<=am
section
variable{C:aL}{S da:c6}{ad dE:Nat->Prop}{h S':R af}{j am bm:Nat}{w b0:World}
def putObj(Y:dn C S ad h j bm w){df b:Nat}{cV pg:af}{kT o':Obj}(ag:C.a6<=b)(aE:ad b)(h4:U C h b=some cV)(aA:M4 cV)(aY:w.heap[(S b).cJ]? =some kT)
 (Pk:∀c E f,kT≠ .cells c E f)(bh:∀b0:World,b0.heap[(S b).cJ]? =some o'->kr C S ad pg (S b) b0)(sl:wO C ad pg):
 ∃b0,(Go.setObj (S b).cJ o').run C.P w= .ok () b0/\dn C S ad (bi C h b (some pg)) j bm b0/\iZ C df S ad h bm w S ad (bi C h b (some pg)) b0:=by
 have pb:(Go.setObj (S b).cJ o').run C.P w= .ok () {w with heap:=w.heap.setIfInBounds (S b).cJ o'}:=by
  cases kT<;>first
   |exact absurd rfl (Pk _ _ _)
   |simp[Go.setObj,Sem.run,aY]
 obtain⟨bW,cq⟩:=MapKept.heap_set (o':=o') aY
 have nK:U C (bi C h b (some pg)) b=some pg:=by rw[ge _ ag,Zp rfl]
 have j3:∀x,x≠b->U C (bi C h b (some pg)) x=U C h x:=λx ae=>by rw[ge _ ag,Zh ae]
 have B0:=Y.base b _ ag h4 aE
 refine⟨_,pb,Y.put ag aE h4 nK (λx ae=> .inl (j3 x ae)) (λy aH=>cq y aH) ?_ (bh _ bW) sl, ?_⟩
 ·intro x dq dS ae dM e6
  rw[j3 x dS]at ae
  exact Y.alone ag aE h4 aA x dq dS ae dM e6
 ·exact⟨λ_ _=>rfl,λ_ a=>a,λ_ a=> .inl a,λx ae _=>j3 x (λE=>ae (E▸aE)),rfl,rfl,rfl,Zs,λy aH=>cq y Zo⟩
def W0{r:Nat}{V:af}{v:D}{res:eb}(a:setObj C h j r V v=some res):res= .fq v (bi C h r (some V)) j/\C.a6<=r:=by
 unfold setObj at a
 simp only[hv,e5,Zf]at a
 exact⟨a.2.symm,jQ a.1⟩
def ah9(Y:dn C S ad h j bm w){df r:Nat}{ca mC:List (D×D×Nat)}{fa JM:Nat}{Gy:Array MapEntry}(ag:C.a6<=r)(aE:ad r)(bh:U C h r=some (.map ca fa))
 (aA:Gy.toList=mC.map (mf S))(bP:∀E∈mC,cj ad E.1/\cj ad E.2.1):
 ∃b0,(Go.setObj (S r).cJ (.map Gy JM)).run C.P w= .ok () b0/\dn C S ad (bi C h r (some (.map mC JM))) j bm b0/\iZ C df S ad h bm w S ad (bi C h r (some (.map mC JM))) b0:=by
 obtain⟨co,J,_,_⟩:=Y.obj r _ bh aE
 exact putObj Y ag aE bh ⟨Zs,Zs⟩ J Zs (λb0 tI=>⟨Gy,tI,aA,bP⟩) ⟨λ_ _ _ a=>(by cases a),λ_ _ _ a=>(by cases a)⟩
def aCb(Y:dn C S ad h j bm w){s:Nat}{t:TypeId}{F v:D}{res:eb}(aD:jL C t=some s)(gc:cj ad F)(fx:cj ad v)(a:QU C h j s F v=some res):
 ∃S',res= .fq undef S' j/\∀ac:Sem Next,(∀b0,(Instr.storeAt t (aO S F) (aO S v)).run C.P w= .ok () b0->ac.run C.P w= .ok .skip b0)->Bc C S ad h j bm w ac undef S' j:=by
 unfold QU at a
 split at a
 ·rename_i b V
  simp only[e5,Zq]at a
  obtain⟨⟨J,Q⟩,a⟩:=a
  have J:v.cells.length=s:=Zl J
  split at a
  ·rename_i S' iP
   simp at a
   obtain⟨b0,bW,cq,cS⟩:=RZ Y (df:=j) gc (vu fx) iP
   refine⟨S',a.symm,λac bc=>⟨S,ad,b0, .skip,bc b0 ?_, .inr ⟨rfl,rfl⟩,by trivial,cq,cS,Zj _⟩⟩
   have eN:(aO S v).cells.size=s:=by rw[vt];simp[kd,J]
   simp only[Instr.storeAt,Instr.sureAddr,aO,Sem.run_bind,Sem.run_pure,Result.andThen_ok,storeVar,p3 aD,eN,ne_eq,not_true_eq_false,ZC]
   simp only[vt]
   exact bW
  ·simp at a
 ·simp at a
def aw4:∀(n:Nat),(∀(m:Nat) (x e:D),n<=m->cj ad x->cj ad e->ox n x e=true->Instr.sameBits m (aO S x) (aO S e)=true)/\
 ∀(m:Nat) (F b:List D),n<=m->eu ad F->eu ad b->ox.Cu n F b=true->(b2 S F).length=(b2 S b).length/\((b2 S F).zip (b2 S b)).all (λ(x,e)=>Instr.sameBits m x e)=true:=by
 intro n
 induction n with
 |zero=>
  refine⟨λm x e _ _ _ a=>by simp[ox]at a, ?_⟩
  intro m F
  induction F with
  |nil=>intro b _ _ _ a;cases b<;>simp[ox.Cu]at a<;>simp[b2]
  |cons x F _=>intro b _ _ _ a;cases b<;>simp[ox.Cu,ox]at a
 |succ n ai=>
  have one:∀(m:Nat) (x e:D),n+1<=m->cj ad x->cj ad e->ox (n+1) x e=true->Instr.sameBits m (aO S x) (aO S e)=true:=by
   intro m x e bo fG vE a
   obtain⟨m,rfl⟩:∃y,m=y+1:=⟨m-1,Zo⟩
   unfold ox at a
   split at a<;>(try(cases a;done))
   ·simpa[aO,Instr.sameBits]using a
   ·simp at a;obtain⟨rfl,rfl⟩:=a;simp[aO,Instr.sameBits]
   ·rename_i F b
    have:=(Ma _ _).1 a
    subst this
    simp only[aO,Instr.sameBits]
    rw[ab9];simp
   ·rename_i b V dK o'
    simp only[Zq]at a
    have J:b=dK:=Zl a.1
    have Q:V=o':=Zl a.2
    subst J;subst Q
    simp[aO,Instr.sameBits]
   ·simp[aO,Instr.sameBits]
   ·simp[aO,Instr.sameBits]
   ·rename_i t v hh hj
    simp only[Zq]at a
    have J:t=hh:=Zl a.1
    subst J
    simp[aO,Instr.sameBits,ai.1 m v hj Zo fG vE a.2]
   ·rename_i F b
    obtain⟨bW,cq⟩:=ai.2 m F b Zo fG vE a
    simp only[aO,Instr.sameBits,Zq,YZ]
    exact⟨by simpa using bW,by simpa using cq⟩
  refine⟨one, ?_⟩
  intro m F
  induction F with
  |nil=>intro b _ _ _ a;cases b<;>simp[ox.Cu]at a<;>simp[b2]
  |cons x F nj=>
   intro b bo gc lV a
   cases b with
   |nil=>simp[ox.Cu]at a
   |cons e b=>
    simp only[ox.Cu,Zq]at a
    obtain⟨bW,cq⟩:=nj b bo gc.2 lV.2 a.2
    simp only[b2,ZF,List.zip_cons_cons,List.all_cons,Zq]
    exact⟨Zo,one m x e bo gc.1 lV.1 a.1,cq⟩
def aw5{qM new:D}(go:cj ad qM)(xe:cj ad new)(a:ox 20 qM new=true):(Instr.keyThatStays (aO S qM) (aO S new)).run C.P w= .ok (aO S new) w:=by
 simp[Instr.keyThatStays,(aw4 (S:=S) (ad:=ad) 20).1 10000 qM new Zd go xe a]
def acQ{co:Array MapEntry}{ca:List (D×D×Nat)}{i:Nat}{E:D×D×Nat}(aA:co.toList=ca.map (mf S))(a:ca[i]? =some E):co[i]? =some (mf S E):=by
 rw[<-ZO,aA,Zw,a];rfl
def ayo{co:Array MapEntry}{ca:List (D×D×Nat)}{i:Nat}{E iM:D×D×Nat}(f:MapEntry->MapEntry)(aA:co.toList=ca.map (mf S))(a:ca[i]? =some E)
 (cb:f (mf S E)=mf S iM):(co.modify i f).toList=(ca.set i iM).map (mf S):=by
 apply Y5
 intro T
 rw[ZO,Y2,Zw,List.getElem?_set]
 have c2:i<ca.length:=(Zb.1 a).1
 by_cases E:i=T
 ·subst E
  rw[Zp rfl,Zp rfl,Zp c2,acQ aA a]
  simp[cb]
 ·rw[Zh E,Zh E, <-ZO,aA,Zw]
def asg{ca:List (D×D×Nat)}{i:Nat}{iM:D×D×Nat}(bP:∀E∈ca,cj ad E.1/\cj ad E.2.1)(bz:cj ad iM.1/\cj ad iM.2.1):∀E∈ca.set i iM,cj ad E.1/\cj ad E.2.1:=by
 intro E a
 rcases List.mem_or_eq_of_mem_set a with a|a
 ·exact bP E a
 ·rw[a];exact bz
def aoj(Y:dn C S ad h j bm w){t:Nat}{m y v:D}{res:eb}(vA:cj ad m)(o2:cj ad y)(fx:cj ad v)(a:Jx C h j t m y v=some res):
 ∃S' b0,res= .fq undef S' j/\(Instr.mapUpdate t (aO S m) (aO S y) (aO S v)).run C.P w= .ok () b0/\dn C S ad S' j bm b0/\iZ C j S ad h bm w S ad S' b0:=by
 unfold Jx at a
 split at a
 ·rename_i j6 BD r bc
  split at a
  ·rename_i ca fa bh
   simp only[e5]at a
   obtain⟨aH,a⟩:=a
   obtain⟨eV,K1⟩:=agy aH
   obtain⟨co,a7,b6,a3,a4⟩:=L4 Y vA bh
   have J:=abF (C:=C) (S:=S) (ad:=ad) (w:=w) (E:=false) 20 10000 j6 y Zd o2 aH
   split at a
   ·rename_i i ac cb
    have Q:=S4 Y K1 o2 a4 cb
    obtain⟨_,E,bz,rfl⟩:=ada ca 0 i ac cb
    simp only[YL]at bz
    rw[qL,bz]at a
    obtain⟨e2,hj,born⟩:=E
    simp only[e5]at a
    obtain⟨ae6,a⟩:=a
    obtain⟨rfl,ag⟩:=W0 a
    have bP:=a4 _ (Zn bz)
    obtain⟨b0,bW,cq,cS⟩:=ah9 Y (df:=j) ag vA bh (JM:=fa) (mC:=ca.set i (y,v,born)) (ayo (λE=>{E with key:=aO S y,val:=aO S v}) a3 bz rfl) (asg a4 ⟨o2,fx⟩)
    refine⟨_,b0,rfl, ?_,cq,cS⟩
    simp[Instr.mapUpdate,run_underlying bc,aO,a7,J,a3,Q,vr,acQ a3 bz,mf,aw5 bP.1 o2 ae6,bW]
   ·rename_i cb
    have Q:=S4 Y K1 o2 a4 cb
    obtain⟨rfl,ag⟩:=W0 a
    obtain⟨b0,bW,cq,cS⟩:=ah9 Y (df:=j) ag vA bh (JM:=fa+1) (mC:=ca++[(y,v,fa)]) (Gy:=co.push {key:=aO S y,val:=aO S v,born:=fa}) (by simp[a3,mf])
     (λE bz=>(Zz.1 bz).elim (a4 E) (λbz=>by simp at bz;subst bz;exact⟨o2,fx⟩))
    refine⟨_,b0,rfl, ?_,cq,cS⟩
    simp[Instr.mapUpdate,run_underlying bc,aO,a7,J,a3,Q,vr,bW]
   ·simp at a
  ·simp at a
 ·simp at a
end
def asl(sB dr:Nat)(qv:sB+(sB+768)/4<=dr):∀(r c:Nat),c<=dr->Builtin.growBy sB r c<=dr:=by
 intro r
 induction r with
 |zero=>intro c a;exact a
 |succ r ai=>
  intro c a
  simp only[Builtin.growBy]
  split
  ·exact a
  ·exact ai _ Zo
def nextslicecap_le{sB CP:Nat}(a:CP<sB):Builtin.nextslicecap sB CP<=2*sB+200:=by
 unfold Builtin.nextslicecap
 split
 ·omega
 ·split
  ·omega
  ·exact asl sB _ Zo 4 CP Zo
def aAT{sB CP bytes:Nat}(a:CP<sB)(aF:sB<=1048576)(ag:bytes<=65536):¬(Builtin.nextslicecap sB CP*bytes>2^48):=by
 have J:=nextslicecap_le a
 have Q:Builtin.nextslicecap sB CP*bytes<=(2*1048576+200)*65536:=Nat.mul_le_mul Zo ag
 have ak:(2:Nat)^48=281474976710656:=by decide
 omega
def wrap_small{n:Nat}(aF:n<=1048576):IntKind.i64.wrap (n:Int)=n:=by
 rw[<-ajs]
 simp only[oJ,fF,Zg]
 have J:(n:Int)%18446744073709551616=n:=YO Zo Zo
 rw[J,Zp Zo]
def Sk{n b:Nat}(J:n<=1048576)(Q:b<=65536):¬((281474976710656:Int)<(n:Int)*(b:Int)):=by
 have ak:n*b<=1048576*65536:=Nat.mul_le_mul J Q
 have:((n*b:Nat):Int)<=((1048576*65536:Nat):Int):=Int.ofNat_le.2 ak
 rw[Int.natCast_mul]at this
 omega
def yl(P:Program)(w:World)(dM:TypeDesc)(X:Value)(i:TypeInfo)(bu:Value)(n:Nat)(new:Array Value):Prop:=
 ((dM= .string\/∃E,dM= .slice E)/\(Builtin.lenOf X).run P w= .ok n w/\(Builtin.firstCells i.size n X).run P w= .ok new w/\(Builtin.firstCells i.size n X).run P w.drew= .ok new w.drew)\/
 ((∃aj,dM= .int aj)/\(∃y,X= .int y (Int.ofNat n))/\n<=1048576/\i.bytes<=65536/\n*i.size≠0/\new=Builtin.zeroCells bu.cells n)
section
variable{P:Program}{w b0:World}{dg:Array TypeId}{ty st iW ei:TypeId}{i:TypeInfo}{dM:TypeDesc}{base:Option Addr}{g7 lF n:Nat}{X bu:Value}{qM new:Array Value}
def Nr{F:Addr}(aY:dg[0]? =some st)(J:dg[1]? =some iW)(dj:P.underlying st=some (.slice ei))(h6:P.underlying iW=some dM)(aN:P.info? ei=some i)(cm:i.zero=some bu)
 (bU:yl P w dM X i bu n new)(aF:g7+n<=lF)(aD:(storeCells (F.add (g7*i.size)) new.toList).run P w= .ok () b0):
 (Builtin.append_ dg ty #[.slice (some F) g7 lF,X]).run P w= .ok (.slice (some F) (g7+n) lF) b0:=by
 have aqh:(#[Value.slice (some F) g7 lF,X]:Array Value)[0]? =some (.slice (some F) g7 lF):=rfl
 have bD:(#[Value.slice (some F) g7 lF,X]:Array Value)[1]? =some X:=rfl
 clear aqh bD
 rcases bU with ⟨jM,io,kH,_⟩|⟨⟨aj,rfl⟩,⟨y,rfl⟩,io,kH,lN,rfl⟩
 ·rcases jM with rfl|⟨_,rfl⟩<;>simp[Builtin.append_,aY,J,run_underlying dj,run_underlying h6,sizeOf,typeInfo,aN,io,aF,kH,aD]
 ·have mJ:=Sk io kH
  have az:¬((n:Int)<0):=Zo
  have bw:=wrap_small io
  simp[Builtin.append_,aY,J,run_underlying dj,run_underlying h6,sizeOf,typeInfo,aN,asInt,asIntOf,bw,mJ,az,aF,lN,zeroValue,cm,aD]
def abS(aY:dg[0]? =some st)(J:dg[1]? =some iW)(dj:P.underlying st=some (.slice ei))(h6:P.underlying iW=some dM)(aN:P.info? ei=some i)(cm:i.zero=some bu)
 (bU:yl P w dM X i bu n new)(aF:¬(g7+n<=lF))(ag:i.bytes<=65536)(xB:g7+n<=1048576)(bh:(Builtin.firstCells i.size g7 (.slice base g7 lF)).run P w.drew= .ok qM w.drew):
 ∃cap,g7+n<=cap/\(Builtin.append_ dg ty #[.slice base g7 lF,X]).run P w=
  .ok (.slice (some ⟨w.heap.size,0,none⟩) (g7+n) cap) (w.drew.alloc (.cells (qM++new++Builtin.zeroCells bu.cells (cap-(g7+n))) ei)):=by
 have Y:=aAT (sB:=g7+n) (CP:=lF) Zo xB ag
 have mL:¬(281474976710656<Builtin.nextslicecap (g7+n) lF*i.bytes):=by
  have ak:(2:Nat)^48=281474976710656:=by decide
  omega
 have bo:¬((9223372036854775807:Int)<(g7:Int)+(n:Int)):=Zo
 refine⟨g7+n+(w.tape w.drawn (.appendCap (g7+n) lF ei))%(2^63-(g7+n)),Zo, ?_⟩
 have eN:w.drew.heap.size=w.heap.size:=rfl
 have xz:IntKind.i64.max=9223372036854775807:=by decide
 rcases bU with ⟨jM,io,kH,lN⟩|⟨⟨aj,rfl⟩,⟨y,rfl⟩,io,kH,lN,rfl⟩
 ·rcases jM with rfl|⟨_,rfl⟩<;>
   simp[Builtin.append_,aY,J,run_underlying dj,run_underlying h6,sizeOf,typeInfo,aN,io,aF,lN,zeroValue,cm,xz,bo,mL,Question.forced,Question.cut,bh,newRow,eN]
 ·have mJ:=Sk io kH
  have az:¬((n:Int)<0):=Zo
  have bw:=wrap_small io
  simp[Builtin.append_,aY,J,run_underlying dj,run_underlying h6,sizeOf,typeInfo,aN,asInt,asIntOf,bw,mJ,az,aF,lN,zeroValue,cm,xz,bo,mL,Question.forced,Question.cut,bh,newRow,eN]
end
structure yr(P:Program):Prop where
 mixed:P.follows .mixedOrders=true
 num:∀(f:Nat) fn,P.funcs[f]? =some fn->fn.body.isSome=true->(fn.name== "runtime.NumGoroutine")=false
section
variable{C:aL}{S da:c6}{ad dE:Nat->Prop}{h S':R af}{j am bm:Nat}{w b0:World}
def dn.same(Y:dn C S ad h j bm w)(bw:b0.heap=w.heap):dn C S ad h j bm b0:=
 ⟨Y.a6,Y.lt,Y.wq,λb V a d=>(Y.obj b V a d).aa (λ_ _=>rfl) (λ_ a=>a) (by rw[bw]),Y.sep,Y.base,Y.fz⟩
def dn.drew(Y:dn C S ad h j bm w):dn C S ad h j bm w.drew:=Y.same rfl
def dn.aAJ(Y:dn C S ad h j bm w){b:Nat}{c:R D}{n:Nat}{fz:List Nat}(ag:C.a6<=b)(aE:ad b)(h4:U C h b=some (.cells c n (.grow fz))):
 dn C S ad (bi C h b (some (.cells c n .kq))) j bm w:=by
 have nK:U C (bi C h b (some (.cells c n .kq))) b=some (.cells c n .kq):=by rw[ge _ ag,Zp rfl]
 have j3:∀x,x≠b->U C (bi C h b (some (.cells c n .kq))) x=U C h x:=λx ae=>by rw[ge _ ag,Zh ae]
 refine⟨Y.a6,Y.lt, ?_, ?_, ?_, ?_, ?_⟩
 ·intro x dq ae
  by_cases E:x=b
  ·subst E;exact Y.lt x aE
  ·exact Y.wq x dq (by rw[<-j3 x E,ae])
 ·intro x dq ae dM
  by_cases E:x=b
  ·subst E
   rw[nK]at ae;cases ae
   obtain⟨co,ty,bG,aN,J,Q,ak,ay⟩:=Y.obj x _ h4 aE
   exact⟨co,ty,bG,aN,J,⟨trivial,Q.2⟩,ak,ay⟩
  ·exact Y.obj x dq (by rw[<-j3 x E,ae]) dM
 ·intro x e dq qO ae B dM pE dS mn e6
  by_cases E:x=b
  ·subst E
   rw[nK]at ae;cases ae
   rw[j3 e λaj=>dS aj.symm]at B
   obtain⟨J,Q⟩:=Y.sep x e _ qO h4 B dM pE dS mn e6
   refine⟨?_,Q⟩
   rcases J with ⟨_,_,_,_,aj,_⟩|⟨_,_,k,f9,aP,aj,cB,az⟩|⟨_,_,_,_,_,_,aj,_⟩
   ·cases aj
   ·exact .inl ⟨c,n,f9,aP,rfl,cB⟩
   ·cases aj
  ·rw[j3 x E]at ae
   by_cases cG:e=b
   ·subst cG
    rw[nK]at B;cases B
    obtain⟨J,Q⟩:=Y.sep x e dq _ ae h4 dM pE dS mn e6
    refine⟨?_,Q⟩
    rcases J with ⟨_,_,_,_,_,aj⟩|⟨_,_,k,f9,aP,_,aj,az⟩|⟨f9,aP,_,_,_,aj,cB,_⟩
    ·cases aj
    ·cases aj
    ·exact .inl ⟨f9,aP,c,n,cB,rfl⟩
   ·rw[j3 e cG]at B
    exact Y.sep x e dq qO ae B dM pE dS mn e6
 ·intro x dq mn ae dM
  by_cases E:x=b
  ·subst E;exact Y.base x _ mn h4 aE
  ·exact Y.base x dq mn (by rw[<-j3 x E,ae]) dM
 ·intro x dq ae dM
  by_cases E:x=b
  ·subst E
   rw[nK]at ae;cases ae
   have:=(Y.fz x _ h4 aE).2 _ _ _ rfl
   exact⟨λ_ _ _ a=>(by cases a),λ_ _ _ a=>(by cases a;exact this)⟩
  ·exact Y.fz x dq (by rw[<-j3 x E,ae]) dM
def dn.share(Y:dn C S ad h j bm w){cJ:Nat}{pl:m4}{cV:af}(ez:bm<=cJ)(tC:pl.cJ=cJ)(bw:∀y,y≠cJ->b0.heap[y]? =w.heap[y]?)
 (bh:kr C (gI S j pl) (add ad j) cV pl b0)(sl:wO C (add ad j) cV)
 (ae:∀x dq,U C h x=some dq->ad x->(S x).cJ=cJ->kr C S ad dq (S x) b0/\RR cV dq j x/\RR dq cV x j/\pl.eh=(S x).eh):
 dn C (gI S j pl) (add ad j) (bi C h j (some cV)) (j+1) bm b0:=by
 have ag:=Y.a6
 have aF:¬ad j:=λa=>zq (Y.lt j a)
 have dP:=rO (S:=S) (pl:=pl) aF
 have nK:U C (bi C h j (some cV)) j=some cV:=by rw[ge _ ag,Zp rfl]
 have j3:∀x,x≠j->U C (bi C h j (some cV)) x=U C h x:=λx ae=>by rw[ge _ ag,Zh ae]
 have aB:∀x,add ad j x->x≠j->ad x:=λx a dS=>a.resolve_right dS
 refine⟨Zo, ?_, ?_, ?_, ?_, ?_, ?_⟩
 ·intro x a
  rcases a with a|a
  ·have:=Y.lt x a;omega
  ·omega
 ·intro x dq a
  by_cases E:x=j
  ·omega
  ·have:=Y.wq x dq (by rw[<-j3 x E,a]);omega
 ·intro x dq a dM
  by_cases E:x=j
  ·subst E;rw[nK]at a;cases a;rw[lK];exact bh
  ·rw[j3 x E]at a
   have dM:=aB x dM E
   rw[dP x dM]
   by_cases aj:(S x).cJ=cJ
   ·exact(ae x dq a dM aj).1.aa dP (λ_ a=> .inl a) rfl
   ·exact(Y.obj x dq a dM).aa dP (λ_ a=> .inl a) (bw _ aj)
 ·intro x e dq qO J Q dM pE dS mn e6
  by_cases E:x=j
  ·subst E
   rw[nK]at J;cases J
   have B:e≠x:=λaj=>dS aj.symm
   rw[j3 e B]at Q
   have pE:=aB e pE B
   rw[lK,dP e pE]at e6 ⊢
   obtain⟨_,b1,_,dF⟩:=ae e qO Q pE (by rw[<-e6,tC])
   exact⟨b1,dF⟩
  ·rw[j3 x E]at J
   have NS:=aB x dM E
   by_cases cG:e=j
   ·subst cG
    rw[nK]at Q;cases Q
    rw[lK,dP x NS]at e6 ⊢
    obtain⟨_,_,cM,dF⟩:=ae x dq J NS (by rw[e6,tC])
    exact⟨cM,dF.symm⟩
   ·rw[j3 e cG]at Q
    have acK:=aB e pE cG
    rw[dP x NS,dP e acK]at e6 ⊢
    exact Y.sep x e dq qO J Q NS acK dS mn e6
 ·intro x dq mn a dM
  by_cases E:x=j
  ·subst E;rw[lK,tC];exact ez
  ·rw[j3 x E]at a
   have dM:=aB x dM E
   rw[dP x dM]
   exact Y.base x dq mn a dM
 ·intro x dq a dM
  by_cases E:x=j
  ·subst E;rw[nK]at a;cases a;exact sl
  ·rw[j3 x E]at a
   have dM:=aB x dM E
   refine⟨λc n k az e B=> ?_,(Y.fz x dq a dM).2⟩
   obtain⟨bK,b1⟩:=(Y.fz x dq a dM).1 c n k az e B
   exact⟨.inl bK,b1⟩
def agR{c:R D}{V n:Nat}{k:List D}(a:c.k3 V n=some k):k.length=n:=(R.Tp _ _ _ _ a).1
def Ss{b V n:Nat}{k:List D}(a:nG C h b V n=some k):k.length=n:=by
 unfold nG at a
 split at a
 ·exact agR a
 ·simp only[e5,Zf]at a
  have:n=0:=Zl a.1
  rw[<-a.2,this];rfl
def aDn(S:c6)(bu:D)(n:Nat):Builtin.zeroCells (aO S bu).cells n=(b2 S (lh n bu.cells)).toArray:=by
 rw[vt, <-aii]
 simp[Builtin.zeroCells,kd]
def aiK(S:c6)(s:List Nat)(aD:∀x∈s,x<256):((gj s).data.map λb=>Value.int .u8 b.toNat)=(b2 S (s.map λn=>D.int .u8 (Int.ofNat n))).toArray:=by
 apply YY
 simp only[gj,qn,YH]
 simp only[List.map_toArray,YH]
 apply Yz
 intro x ae
 simp[aO,YC (aD x ae)]
def aBI(Y:dn C S ad h j bm w){x:D}{i:TypeInfo}{bu:Value}{dM:TypeDesc}{n:Nat}{k:List D}(fG:cj ad x)(xv:dM= .string\/∃E,dM= .slice E)(a:lG C h i.size x=some (n,k)):
 yl C.P w dM (aO S x) i bu n (b2 S k).toArray/\eu ad k/\k.length=n*i.size:=by
 unfold lG at a
 split at a
 ·simp at a;obtain⟨rfl,rfl⟩:=a
  refine⟨.inl ⟨xv, ?_, ?_, ?_⟩,trivial,Zs⟩<;>simp[aO,Builtin.lenOf,Builtin.firstCells,b2]
 ·rename_i b V len cap
  split at a
  ·rename_i bM az
   simp at a;obtain⟨rfl,rfl⟩:=a
   obtain⟨J,Q⟩:=GM Y fG az
   obtain⟨ak,_⟩:=GM Y.drew fG az
   refine⟨.inl ⟨xv, ?_, ?_, ?_⟩,Q,Ss az⟩<;>simp[aO,Builtin.lenOf,Builtin.firstCells,J,ak]
  ·simp at a
 ·rename_i b V len cap
  split at a
  ·rename_i bM az
   simp at a;obtain⟨rfl,rfl⟩:=a
   obtain⟨J,Q⟩:=GM Y fG az
   obtain⟨ak,_⟩:=GM Y.drew fG az
   refine⟨.inl ⟨xv, ?_, ?_, ?_⟩,Q,Ss az⟩<;>simp[aO,Builtin.lenOf,Builtin.firstCells,J,ak]
  ·simp at a
 ·rename_i s
  simp only[e5]at a
  obtain⟨J,a⟩:=a
  have J:i.size=1:=Zl J
  simp at a;obtain⟨rfl,rfl⟩:=a
  have eN:(gj s).size=s.length:=by simp[gj,ByteArray.size]
  have bz:(gj s).extract 0 s.length=gj s:=by
   rw[<-eN];exact ByteArray.extract_zero_size
  have ax:=aiK S s fG
  refine⟨.inl ⟨xv, ?_, ?_, ?_⟩, ?_,by simp[J]⟩
  ·simp[aO,Builtin.lenOf,eN]
  ·simp only[aO,Builtin.firstCells,bz,Sem.run_pure];rw[ax];simp
  ·simp only[aO,Builtin.firstCells,bz,Sem.run_pure];rw[ax];simp
  ·rw[vB]
   intro v bv
   obtain⟨e,_,rfl⟩:=ZG.1 bv
   trivial
 ·simp at a
end
section
variable{P:Program}{w b0:World}{dg:Array TypeId}{ty st iW ei:TypeId}{i:TypeInfo}{dM:TypeDesc}{base:Option Addr}{g7 lF n:Nat}{X bu:Value}{qM new:Array Value}
def Rv(P:Program)(w:World)(dM:TypeDesc)(X:Value)(i:TypeInfo):Prop:=
 ((dM= .string\/∃E,dM= .slice E)/\(Builtin.lenOf X).run P w= .ok 0 w/\(Builtin.firstCells i.size 0 X).run P w= .ok #[] w)\/((∃aj,dM= .int aj)/\∃y,X= .int y 0)
def R5(aY:dg[0]? =some st)(J:dg[1]? =some iW)(dj:P.underlying st=some (.slice ei))(h6:P.underlying iW=some dM)(aN:P.info? ei=some i)
 (bU:Rv P w dM X i)(aF:g7<=lF):(Builtin.append_ dg ty #[.slice base g7 lF,X]).run P w= .ok (.slice base g7 lF) w:=by
 rcases bU with ⟨jM,io,kH⟩|⟨⟨aj,rfl⟩,y,rfl⟩
 ·rcases jM with rfl|⟨_,rfl⟩<;>cases base<;>simp[Builtin.append_,aY,J,run_underlying dj,run_underlying h6,sizeOf,typeInfo,aN,io,aF,kH,storeCells]
 ·have bw:IntKind.i64.wrap 0=0:=by decide
  have aw:¬((2:Int)^48<0):=by decide
  cases base<;>simp[Builtin.append_,aY,J,run_underlying dj,run_underlying h6,sizeOf,typeInfo,aN,asInt,asIntOf,bw,aw,aF,storeCells]
end
section
variable{C:aL}{S da:c6}{ad dE:Nat->Prop}{h S':R af}{j am bm:Nat}{w b0:World}
def aoE{dM:TypeDesc}{X bu:Value}{i:TypeInfo}(a:yl C.P w dM X i bu 0 (b2 S []).toArray):Rv C.P w dM X i:=by
 rcases a with ⟨jM,io,kH,_⟩|⟨_,_,_,_,lN,_⟩
 ·exact .inl ⟨jM,io,kH⟩
 ·simp at lN
def asn{b V len bs n:Nat}(Y:dn C S ad h j bm w)(ag:ad b)(a:x3 C h b=some n)(aD:0<bs)(az:V+len*bs<=n):len<=((S b).room-V)/bs:=by
 have:=aiz Y ag a
 rw[Y3 aD]
 omega
def abR(Y:dn C S ad h j bm w){dg:Array TypeId}{ty st iW ei:TypeId}{i:TypeInfo}{dM:TypeDesc}{s:D}{X:Value}{res:eb}
 (aY:dg[0]? =some st)(J:dg[1]? =some iW)(dj:C.P.underlying st=some (.slice ei))(h6:C.P.underlying iW=some dM)(aN:C.P.info? ei=some i)(eN:0<i.size)
 (bU:Rv C.P w dM X i)(an:cj ad s)(a:Gx C h i.size s=some res):∃v,res= .val v/\cj ad v/\(Builtin.append_ dg ty #[aO S s,X]).run C.P w= .ok (aO S v) w:=by
 unfold Gx at a
 split at a
 ·simp at a;subst a
  exact⟨_,rfl,trivial,by simp only[aO];exact R5 aY J dj h6 aN bU (Zj _)⟩
 ·simp only[e5,Zf]at a
  obtain⟨az,rfl⟩:=a
  exact⟨_,rfl,an,by simp only[aO];exact R5 aY J dj h6 aN bU (jQ az)⟩
 ·simp only[e5]at a
  obtain⟨bz,a⟩:=a
  have bz:=Zl bz
  subst bz
  split at a
  ·rename_i n aF
   simp only[e5,Zf]at a
   obtain⟨az,rfl⟩:=a
   exact⟨_,rfl,an,by simp only[aO];exact R5 aY J dj h6 aN bU (asn Y an aF eN (jQ az))⟩
  ·simp at a
 ·simp at a
def M6(C:aL)(S:c6)(ad:Nat->Prop)(h:R af)(j bm:Nat)(w:World)(s:Sem Value)(res:eb):Prop:=
 ∃v S' am,res= .fq v S' am/\∃da dE b0,s.run C.P w= .ok (aO da v) b0/\cj dE v/\dn C da dE S' am bm b0/\iZ C j S ad h bm w da dE S' b0/\j<=am
def sD(Y:dn C S ad h j bm w):¬ad j:=λa=>zq (Y.lt j a)
def ao2(ez:bm<=w.heap.size)(V:Obj):Below bm w (w.drew.alloc V):=(Below.drew (Below.refl bm w)).trans (Below.alloc (Below.refl bm w.drew) ez V)
def SZ(Y:dn C S ad h j bm w){pl:m4}(ez:bm<=w.heap.size)(V:Obj)(iP:∀x,x≠j->¬ad x->U C S' x=U C h x):iZ C j S ad h bm w (gI S j pl) (add ad j) S' (w.drew.alloc V):=
 ⟨rO (sD Y),λ_ a=> .inl a,λx a=>a.elim .inl (λa=> .inr Zo),λx ae az=>iP x Zo ae,ao2 ez V⟩
def adO{k:List D}{rest:Array Value}{cap bs:Nat}(g:eu ad k)(aF:¬ad j)(az:k.length+rest.size=cap*bs)(ei:TypeId)(iB:List Nat):
 kr C (gI S j ⟨w.heap.size,0,cap*bs⟩) (add ad j) (.cells (R.ofList k 0 .nil) k.length (.grow iB)) ⟨w.heap.size,0,cap*bs⟩ (w.drew.alloc (.cells ((b2 S k).toArray++rest) ei)):=by
 have dP:=rO (S:=S) (pl:=⟨w.heap.size,0,cap*bs⟩) aF
 refine⟨_,ei,0,0,vR w.drew _,⟨.inl rfl,by simp only;omega, ?_⟩, ?_,λi v bv=> ?_⟩
 ·simp only[YP,Yr,kd];omega
 ·simp only[YP,Yr,kd];omega
 ·rw[mR]at bv
  have fx:=BN g bv
  have c2:i<k.length:=(Zb.1 bv).1
  refine⟨?_,pJ (λ_ a=> .inl a) v fx⟩
  rw[q8 dP fx,ZS,Yy (by simpa[kd]using c2)]
  simp[Bx,bv]
def ajy(zero:Array Value)(n:Nat):(Builtin.zeroCells zero n).size=n*zero.size:=by simp[Builtin.zeroCells]
section
variable{dg:Array TypeId}{ty st iW ei:TypeId}{i:TypeInfo}{dM:TypeDesc}{X bu:Value}{n:Nat}{k:List D}
def adM(Y:dn C S ad h j bm w)(ez:bm<=w.heap.size){s:D}{base:Option Addr}{g7 lF:Nat}{bG:List D}(uU:bu.cells.size=i.size)
 (aY:dg[0]? =some st)(J:dg[1]? =some iW)(dj:C.P.underlying st=some (.slice ei))(h6:C.P.underlying iW=some dM)(aN:C.P.info? ei=some i)(cm:i.zero=some bu)(eN:0<i.size)(oi:i.bytes<=65536)
 (bU:yl C.P w dM X i bu n (b2 S k).toArray)(iB:eu ad k)(az:k.length=n*i.size)(Tq:eu ad bG)(oo:bG.length=g7*i.size)(aF:¬(g7+n<=lF))(aD:aO S s= .slice base g7 lF)
 (bh:(Builtin.firstCells i.size g7 (.slice base g7 lF)).run C.P w.drew= .ok (b2 S bG).toArray w.drew)(xB:g7+n<=1048576){aK:R af}(ri:List Nat)
 (de:U C aK j=some (.cells (R.ofList (bG++k) 0 .nil) (bG++k).length (.grow ri)))(dO:dn C S ad S' j bm w)(e0:∀x,x≠j->U C aK x=U C S' x\/U C aK x=none)
 (e1:∀x,x≠j->¬ad x->U C aK x=U C h x)(aeT:∀x∈ri,ad x/\C.a6<=x):
 ∃da dE b0,(Builtin.append_ dg ty #[aO S s,X]).run C.P w= .ok (aO da (.fc j 0 (g7+n) i.size)) b0/\cj dE (.fc j 0 (g7+n) i.size)/\dn C da dE aK (j+1) bm b0/\iZ C j S ad h bm w da dE aK b0:=by
 obtain⟨cap,ax,pb⟩:=abS (ty:=ty) aY J dj h6 aN cm bU aF oi xB bh
 have eT:(bG++k).length=(g7+n)*i.size:=by rw[ZK,oo,az,Z7]
 have PD:(bG++k).length+(Builtin.zeroCells bu.cells (cap-(g7+n))).size=cap*i.size:=by
  rw[ajy,uU,eT, <-Z7]
  congr 1;omega
 have E:(b2 S bG).toArray++(b2 S k).toArray=(b2 S (bG++k)).toArray:=by rw[DI];simp
 rw[E]at pb
 have KL:=adO (C:=C) (S:=S) (w:=w) (BM Tq iB) (sD Y) PD ei ri
 refine⟨gI S j ⟨w.heap.size,0,cap*i.size⟩,add ad j,w.drew.alloc (.cells ((b2 S (bG++k)).toArray++Builtin.zeroCells bu.cells (cap-(g7+n))) ei), ?_, .inr rfl, ?_, ?_⟩
 ·rw[aD,pb]
  simp only[aO,lK,ZS,YL]
  rw[Nat.mul_div_cancel _ eN]
 ·exact dO.drew.alloc Y.a6 (Yh _) (Z8 _) (sD Y) ez rfl de e0 KL ⟨λc aP bM a=>(by cases a;exact λx ae=>⟨.inl (aeT x ae).1,(aeT x ae).2⟩),λc aP st a=>(by cases a;exact It)⟩
 ·exact SZ Y ez _ e1
def adL{n bs:Nat}{res:eb}(a:uG C h j n bs k=some res):n<=1048576/\res= .fq (.fc j 0 n bs) (bi C h j (some (.cells (R.ofList k 0 .nil) k.length (.grow [])))) (j+1):=by
 unfold uG nQ at a
 simp only[mE,hv,e5,Zf]at a
 exact⟨jQ a.1,a.2.symm⟩
def arf{b V len cap bs:Nat}{eZ:List D}(Y:dn C S ad h j bm w)(ag:ad b)(a:nG C h b V (len*bs)=some eZ):
 (Builtin.firstCells bs len (.slice (some ⟨(S b).cJ,(S b).eh+V,none⟩) len cap)).run C.P w.drew= .ok (b2 S eZ).toArray w.drew/\eu ad eZ:=by
 obtain⟨J,Q⟩:=GM Y.drew ag a
 exact⟨by simp[Builtin.firstCells,J],Q⟩
def aCo{co:Array Value}{eh V p:Nat}{c:R D}{eZ k:List D}{y:Nat}(aw:p=eh+V+eZ.length)(cb:p+k.length<=co.size)(jb:eu ad eZ)(iB:eu ad k)
 (aY:∀T v,eZ[T]? =some v->co[eh+V+T]? =some (aO S v)):
 ∀T v,(eZ++k)[T]? =some v->(li co p (b2 S k))[eh+V+T]? =some (aO S v)/\cj ad v:=by
 intro T v bv
 rw[WZ _ _ _ _ (by rw[kd];exact cb),kd]
 by_cases bJ:T<eZ.length
 ·rw[ZW bJ]at bv
  rw[Zh Zo]
  exact⟨aY T v bv,BN jb bv⟩
 ·rw[ZT Zo]at bv
  have c2:T-eZ.length<k.length:=(Zb.1 bv).1
  rw[Zp Zo,Bx,show eh+V+T-p=T-eZ.length by omega,bv]
  exact⟨rfl,BN iB bv⟩
section
variable{dg:Array TypeId}{ty st iW ei:TypeId}{i:TypeInfo}{dM:TypeDesc}{X bu:Value}{n:Nat}{k:List D}
def aoD(Y:dn C S ad h j bm w)(ez:bm<=w.heap.size)(uU:bu.cells.size=i.size){b V len:Nat}{res:eb}
 (aY:dg[0]? =some st)(J:dg[1]? =some iW)(dj:C.P.underlying st=some (.slice ei))(h6:C.P.underlying iW=some dM)(aN:C.P.info? ei=some i)(cm:i.zero=some bu)(eN:0<i.size)(oi:i.bytes<=65536)
 (bU:yl C.P w dM X i bu n (b2 S k).toArray)(iB:eu ad k)(az:k.length=n*i.size)(aE:ad b)(g6:0<n)(a:JC C h j b V len i.size n k=some res):
 M6 C S ad h j bm w (Builtin.append_ dg ty #[aO S (.fc b V len i.size),X]) res:=by
 unfold JC at a
 split at a
 ·rename_i c size fz bh
  simp only[e5]at a
  obtain⟨KP,a⟩:=a
  have ag:C.a6<=b:=jQ KP
  obtain⟨co,dQ,bG,tw,a7,b6,a3,a4⟩:=Y.obj b _ bh aE
  obtain⟨Hw,avs,OY⟩:=b6
  have B0:=Y.base b _ ag bh aE
  have HI:=(Y.fz b _ bh aE).1 _ _ _ rfl
  have o5:=(Y.fz b _ bh aE).2 _ _ _ rfl
  have B7:b≠j:=λE=>zq (Y.lt b aE)
  have o8:=sD Y
  rw[fF]at a
  split at a
  ·
   rename_i aeO
   have aeO:V+(len+n)*i.size<=size:=jQ aeO
   split at a
   ·rename_i S' bw
    simp at a;subst a
    obtain⟨b0,bW,cq,cS⟩:=RZ Y (df:=j) aE iB bw
    have nc:len+n<=((S b).room-V)/i.size:=by
     rw[Y3 eN];omega
    refine⟨_,_,_,rfl,S,ad,b0, ?_,aE,cq,cS,Zj _⟩
    simp only[aO]
    refine Nr aY J dj h6 aN cm bU nc ?_
    rw[r3,ZJ]
    exact bW
   ·simp at a
  ·simp only[e5,Zq]at a
   obtain⟨⟨xB,rs⟩,a⟩:=a
   have xB:=jQ xB
   have xC:∀v∈b2 S k,v.oneCell'=true:=ahE rs
   have eT:(len+n)*i.size=len*i.size+n*i.size:=Z7 ..
   rw[fF]at a
   split at a
   ·
    rename_i Ei
    simp only[Zq]at Ei
    have bD:V+len*i.size=size:=Zl Ei.1
    have cG:V=0:=Zl Ei.2
    subst cG
    have bD:len*i.size=size:=Zo
    simp only[hv,nQ,mE,Zf]at a
    subst a
    have tE:=Y.aAJ ag aE bh
    by_cases nc:len+n<=((S b).room-0)/i.size
    ·
     have avt:(len+n)*i.size<=(S b).room:=by
      have:=(Y3 eN).1 nc;omega
     have avK:=WT C.P (S b).cJ ((S b).eh+size) dQ bG tw (b2 S k) 0 co w a7 (Hw.imp (λE=>za E.symm) id) (by rw[kd];omega)
     ·have Ve:=avK xC
      have tI:∀y,y≠(S b).cJ->(w.setRow (S b).cJ (li co ((S b).eh+size+0) (b2 S k))).heap[y]? =w.heap[y]? :=λy aH=>setRow_other w _ y _ aH
      have fb:=setRow_heap w (S b).cJ co (li co ((S b).eh+size+0) (b2 S k)) dQ (bG,tw) a7
      have dP:=rO (S:=S) (pl:=S b) o8
      have Ah:kr C (gI S j (S b)) (add ad j) (.cells (dT c size k) (size+k.length) (.grow (b::fz))) (S b) (w.setRow (S b).cJ (li co ((S b).eh+size+0) (b2 S k))):=by
       refine⟨_,dQ,bG,tw,fb,⟨by rw[xZ];exact Hw,Zo,by rw[xZ];exact OY⟩,by rw[xZ];omega,λT v bv=> ?_⟩
       obtain⟨bK,b1⟩:=aju (S:=S) (ad:=ad) (c:=c) (co:=co) (eh:=(S b).eh) (V:=size) (n:=size+k.length) iB Zo Zo a4 T v bv
       exact⟨by rw[q8 dP b1];exact bK,pJ (λ_ a=> .inl a) v b1⟩
      have U6:=tE.share (j:=j) (b0:=w.setRow (S b).cJ (li co ((S b).eh+size+0) (b2 S k))) (pl:=S b) (cV:= .cells (dT c size k) (size+k.length) (.grow (b::fz))) B0 rfl tI Ah
       ⟨λf9 aP bM a=>(by
        cases a
        intro x ae
        rcases Zt.1 ae with rfl|ae
        ·exact⟨.inl aE,ag⟩
        ·exact⟨.inl (HI x ae).1,(HI x ae).2⟩),
        λf9 aP jx a=>(by cases a;exact Rb (Zj _) λT v bv=>ZN (o5 T v bv) (zd _ _))⟩
       (λx dq ae dM uT=>by
        have agx:∀f9 aP,dq= .cells f9 aP .kq->aP<=size->(S x).eh=(S b).eh->kr C S ad dq (S x) (w.setRow (S b).cJ (li co ((S b).eh+size+0) (b2 S k))):=by
         intro f9 aP E Pj mm
         subst E
         have c2:=(tE.fz x _ ae dM).2 _ _ _ rfl
         obtain⟨Gy,aCA,sw,lz,bZ,cu,c0,fE⟩:=tE.obj x _ ae dM
         rw[uT,a7]at bZ
         cases bZ
         refine⟨_,dQ,bG,tw,by rw[uT];exact fb,by rw[xZ];exact cu,by rw[xZ];exact c0,λT v bv=> ?_⟩
         obtain⟨bK,b1⟩:=fE T v bv
         have:=c2 T v bv
         refine⟨?_,b1⟩
         rw[WZ _ _ _ _ (by rw[kd];omega),Zh Zo]
         exact bK
        by_cases E:x=b
        ·subst E
         rw[ge _ ag,Zp rfl]at ae;cases ae
         exact⟨agx c size rfl (Zj _) rfl, .inr (.inl ⟨_,_,_,_,_,rfl,rfl,Zs,Zo⟩), .inr (.inr ⟨_,_,_,_,_,rfl,rfl,Zs,Zo⟩),rfl⟩
        ·rw[ge _ ag,Zh E]at ae
         obtain⟨k8,pS⟩:=Y.sep b x _ dq bh ae aE dM (λaj=>E aj.symm) ag uT.symm
         rcases k8 with ⟨_,_,_,_,aj,_⟩|⟨_,_,bM,f9,aP,aj,rfl,bo,f4⟩|⟨_,_,_,_,_,_,aj,_⟩
         ·cases aj
         ·cases aj
          refine⟨agx f9 aP rfl f4 pS.symm, .inr (.inl ⟨_,_,_,_,_,rfl,rfl,Zu _ bo,Zo⟩), .inr (.inr ⟨_,_,_,_,_,rfl,rfl,Zu _ bo,Zo⟩),pS⟩
         ·cases aj)
      refine⟨_,_,_,rfl,gI S j (S b),add ad j,_, ?_, .inr rfl,U6,⟨dP,λ_ a=> .inl a,λx a=>a.elim .inl (λa=> .inr Zo),λx ae c2=> ?_,Sb B0 _ _⟩,Z8 _⟩
      ·simp only[aO,lK]
       rw[ZX]
       refine Nr aY J dj h6 aN cm bU nc ?_
       rw[r3,bD]
       exact Ve
      ·have uT:x≠b:=λE=>ae (by rw[E];exact aE)
       rw[ge _ Y.a6,Zh Zo,ge _ ag,Zh uT]
    ·
     have UT:(Builtin.firstCells i.size len (.slice (some ⟨(S b).cJ,(S b).eh+0,none⟩) len (((S b).room-0)/i.size))).run C.P w.drew= .ok ((co.toList.drop (S b).eh).take size).toArray w.drew:=by
      have om:=run_loadCells_list (P:=C.P) w.drew ⟨(S b).cJ,(S b).eh+0,none⟩ ((co.toList.drop (S b).eh).take size) (λT v bv=>by
       rw[r3]
       have bJ:T<size:=by
        have:=(Zb.1 bv).1
        simp at this;omega
       rw[YS bJ,YE]at bv
       have an4:w.drew.heap[(S b).cJ]? =some (.cells co dQ (bG,tw)):=a7
       simp only[World.cell?,an4]
       simpa[ZO]using bv)
      have vZ:((co.toList.drop (S b).eh).take size).length=size:=by simp;omega
      rw[vZ]at om
      simp only[Builtin.firstCells,bD]
      exact om
     obtain⟨cap,ax,pb⟩:=abS (ty:=ty) aY J dj h6 aN cm bU nc oi xB UT
     have vZ:((co.toList.drop (S b).eh).take size).length=size:=by simp;omega
     have PD:size+k.length+(Builtin.zeroCells bu.cells (cap-(len+n))).size=cap*i.size:=by
      rw[ajy,uU,az, <-bD, <-Z7, <-Z7]
      congr 1;omega
     have dP:=rO (S:=S) (pl:=⟨w.heap.size,0,cap*i.size⟩) o8
     have Ah:kr C (gI S j ⟨w.heap.size,0,cap*i.size⟩) (add ad j) (.cells (dT c size k) (size+k.length) (.grow (b::fz))) ⟨w.heap.size,0,cap*i.size⟩
      (w.drew.alloc (.cells (((co.toList.drop (S b).eh).take size).toArray++(b2 S k).toArray++Builtin.zeroCells bu.cells (cap-(len+n))) ei)):=by
      refine⟨_,ei,0,0,vR w.drew _,⟨.inl rfl,by simp only;omega, ?_⟩, ?_,λT v bv=> ?_⟩
      ·simp only[YP,Yr,kd,vZ];omega
      ·simp only[YP,Yr,kd,vZ];omega
      ·rw[Xv,R.Od]at bv
       simp only[ZS]
       split at bv
       ·rename_i bJ
        have fx:=BN iB bv
        refine⟨?_,pJ (λ_ a=> .inl a) v fx⟩
        rw[q8 dP fx,Yy (by simp only[YP,Yr,kd,vZ];omega),Array.getElem?_append_right (by simp only[Yr,vZ];omega)]
        simp only[Yr,vZ,List.getElem?_toArray,Bx,bv,ZR]
       ·have bJ:=o5 T v bv
        obtain⟨bK,b1⟩:=a4 T v bv
        refine⟨?_,pJ (λ_ a=> .inl a) v b1⟩
        rw[q8 dP b1,Yy (by simp only[YP,Yr,kd,vZ];omega),Yy (by simp only[Yr,vZ];omega)]
        rw[List.getElem?_toArray,YS bJ,YE,ZO]
        exact bK
     have de:U C (bi C (bi C h b (some (.cells c size .kq))) j (some (.cells (dT c size k) (size+k.length) (.grow (b::fz))))) j=some (.cells (dT c size k) (size+k.length) (.grow (b::fz))):=by
      rw[ge _ Y.a6,Zp rfl]
     refine⟨_,_,_,rfl,gI S j ⟨w.heap.size,0,cap*i.size⟩,add ad j,_, ?_, .inr rfl,tE.drew.alloc Y.a6 (Yh _) (Z8 _) o8 ez rfl de (λx ae=> .inl ?_) Ah ?_,SZ Y ez _ (λx ae Vm=> ?_),Z8 _⟩
     ·simp only[aO,lK,ZS,YL]
      simp only[ZX,YL]at pb ⊢
      rw[pb,Nat.mul_div_cancel _ eN]
     ·rw[ge _ Y.a6,Zh ae]
     ·exact⟨λf9 aP bM a=>(by
           cases a
           intro x ae
           rcases Zt.1 ae with rfl|ae
           ·exact⟨.inl aE,ag⟩
           ·exact⟨.inl (HI x ae).1,(HI x ae).2⟩),
       λf9 aP jx a=>(by cases a;exact Rb (Zj _) λT v bv=>ZN (o5 T v bv) (zd _ _))⟩
     ·have uT:x≠b:=λE=>Vm (by rw[E];exact aE)
      rw[ge _ Y.a6,Zh ae,ge _ ag,Zh uT]
   ·
    split at a
    ·rename_i eZ om
     simp only[nQ,mE,hv,Zf]at a
     subst a
     have afd:eZ.length=len*i.size:=agR om
     have g1:cellsOf C h b=some c:=by simp[cellsOf,bh]
     have UA:∀x,x≠b->U C (bi C (qJ C fz h) b none) x=if x∈fz then none else U C h x:=λx ae=>by
      rw[ge _ ag,Zh ae,aeS _ _ _ λe B=>(HI e B).2]
     have ae5:U C (bi C (qJ C fz h) b none) b=none:=by rw[ge _ ag,Zp rfl]
     have aeM:dn C S ad (bi C (qJ C fz h) b none) j bm w:=Y.ac4 λx=>by
      by_cases E:x=b
      ·subst E;exact .inr ae5
      ·rw[UA x E];split
       ·exact .inr rfl
       ·exact .inl rfl
     have Pa:∀x,¬ad x->U C (bi C (qJ C fz h) b none) x=U C h x:=λx ae=>by
      have uT:x≠b:=λE=>ae (by rw[E];exact aE)
      rw[UA x uT,Zh λbo=>ae (HI x bo).1]
     have nK:U C (bi C (bi C (qJ C fz h) b none) j (some (.cells (R.ofList (eZ++k) 0 .nil) (eZ++k).length (.grow [])))) j=some (.cells (R.ofList (eZ++k) 0 .nil) (eZ++k).length (.grow [])):=by
      rw[ge _ Y.a6,Zp rfl]
     have j3:∀x,x≠j->U C (bi C (bi C (qJ C fz h) b none) j (some (.cells (R.ofList (eZ++k) 0 .nil) (eZ++k).length (.grow [])))) x=U C (bi C (qJ C fz h) b none) x:=λx ae=>by
      rw[ge _ Y.a6,Zh ae]
     obtain⟨OZ,O0⟩:=ND Y aE g1 om
     by_cases nc:len+n<=((S b).room-V)/i.size
     ·
      have HN:0<(len+n)*i.size:=Nat.mul_pos Zo eN
      have avt:V+(len+n)*i.size<=(S b).room:=by
       have ak:=(Y3 eN).1 nc
       omega
      have Ve:=WT C.P (S b).cJ ((S b).eh+(V+len*i.size)) dQ bG tw (b2 S k) 0 co w a7 (Hw.imp (λE=>za E.symm) id) (by rw[kd];omega) xC
      have tI:∀y,y≠(S b).cJ->(w.setRow (S b).cJ (li co ((S b).eh+(V+len*i.size)+0) (b2 S k))).heap[y]? =w.heap[y]? :=λy aH=>setRow_other w _ y _ aH
      have fb:=setRow_heap w (S b).cJ co (li co ((S b).eh+(V+len*i.size)+0) (b2 S k)) dQ (bG,tw) a7
      have dP:=rO (S:=S) (pl:=⟨(S b).cJ,(S b).eh+V,(S b).room-V⟩) o8
      have aEo:(eZ++k).length=(len+n)*i.size:=by rw[ZK,afd,az,Z7]
      have Ah:kr C (gI S j ⟨(S b).cJ,(S b).eh+V,(S b).room-V⟩) (add ad j) (.cells (R.ofList (eZ++k) 0 .nil) (eZ++k).length (.grow [])) ⟨(S b).cJ,(S b).eh+V,(S b).room-V⟩ (w.setRow (S b).cJ (li co ((S b).eh+(V+len*i.size)+0) (b2 S k))):=by
       refine⟨_,dQ,bG,tw,fb,⟨by rw[xZ];exact Hw,by simp only;omega,by rw[xZ];simp only;omega⟩,by rw[xZ];simp only;omega,λT v bv=> ?_⟩
       rw[mR]at bv
       obtain⟨bK,b1⟩:=aCo (S:=S) (ad:=ad) (co:=co) (eh:=(S b).eh) (V:=V) (p:=(S b).eh+(V+len*i.size)+0) (c:=c) (y:=0) Zo Zo O0 iB (λT v bv=>by
        have vU:T<len*i.size:=zq (Zb.1 bv).1
        have:=(R.Tp _ _ _ _ om).2 T vU
        rw[bv]at this
        have:=(a4 _ _ this).1
        rw[<-ZJ]at this
        exact this) T v bv
       exact⟨by rw[q8 dP b1];exact bK,pJ (λ_ a=> .inl a) v b1⟩
      have U6:=aeM.share (b0:=w.setRow (S b).cJ (li co ((S b).eh+(V+len*i.size)+0) (b2 S k))) (pl:=⟨(S b).cJ,(S b).eh+V,(S b).room-V⟩) (cV:= .cells (R.ofList (eZ++k) 0 .nil) (eZ++k).length (.grow [])) B0 rfl tI Ah
       ⟨λf9 aP bM a=>(by cases a;simp),λf9 aP jx a=>(by cases a;exact It)⟩
       (λx dq ae dM uT=>by
        exfalso
        by_cases E:x=b
        ·subst E;rw[ae5]at ae;cases ae
        ·rw[UA x E]at ae
         split at ae
         ·cases ae
         ·rename_i UL
          rcases(Y.sep b x _ dq bh ae aE dM (λaj=>E aj.symm) ag uT.symm).1 with ⟨_,_,_,_,aj,_⟩|⟨_,_,bM,f9,aP,aj,_,bo,_⟩|⟨_,_,_,_,_,_,aj,_⟩
          ·cases aj
          ·cases aj;exact UL bo
          ·cases aj)
      refine⟨_,_,_,rfl,gI S j ⟨(S b).cJ,(S b).eh+V,(S b).room-V⟩,add ad j,_, ?_, .inr rfl,U6,⟨dP,λ_ a=> .inl a,λx a=>a.elim .inl (λa=> .inr Zo),λx ae c2=> ?_,Sb B0 _ _⟩,Z8 _⟩
      ·simp only[aO,lK,ZX,YL]
       refine Nr aY J dj h6 aN cm bU nc ?_
       rw[r3,ZJ]
       exact Ve
      ·rw[ge _ Y.a6,Zh Zo,Pa x ae]
     ·have KU:(Builtin.firstCells i.size len (.slice (some ⟨(S b).cJ,(S b).eh+V,none⟩) len (((S b).room-V)/i.size))).run C.P w.drew= .ok (b2 S eZ).toArray w.drew:=by
       obtain⟨Up,_⟩:=ND Y.drew aE g1 om
       simp[Builtin.firstCells,Up]
      obtain⟨da,dE,b0,e8,fR,hY,pj⟩:=adM (ty:=ty) Y ez (s:= .fc b V len i.size) (bG:=eZ) uU aY J dj h6 aN cm eN oi bU iB az O0 afd nc rfl KU xB []
       nK aeM (λx ae=> .inl (j3 x ae)) (λx ae Vm=>by rw[j3 x ae,Pa x Vm]) Zs
      exact⟨_,_,_,rfl,da,dE,b0,e8,fR,hY,pj,Z8 _⟩
    ·simp at a
 ·simp at a
end
end
end
end Go.ba

