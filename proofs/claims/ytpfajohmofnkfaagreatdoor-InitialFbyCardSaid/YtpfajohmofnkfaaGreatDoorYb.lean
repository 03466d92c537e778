/- A part of the last text's proof; no condition of its own -/
import Derived.Test.YtpfajohmofnkfaaGreatDoorYa
import Derived.Laws.BytesString
import Derived.MapKept
import Derived.Laws.NewFold
import Derived.Laws.CopyRow
set_option maxHeartbeats 8000000
set_option linter.all false
namespace Go.bd
open Go.RowKit (Below)
section
variable{C:aL}{S:c9}{ad:Nat->Prop}{h:K ag}{j bh:Nat}{w:World}
def binOp_eql{t:TypeId}{X c3:Value}(I:∀q F e5 b,¬(X= .int q F/\c3= .int e5 b))(J:∀F b,¬(X= .string F/\c3= .string b))
 (am:∀q F,X≠ .float q F)(aB:∀q F b,X≠ .complex q F b):binOp .eql t X c3=(do pure (.bool (<-Op.equal t X c3)))/\binOp .neq t X c3=(do pure (.bool (!(<-Op.equal t X c3)))):=by
 constructor
 ·unfold binOp
  split
  all_goals first
   |rfl
   |exact absurd ⟨rfl,rfl⟩ (I _ _ _ _)
   |exact absurd ⟨rfl,rfl⟩ (J _ _)
   |exact absurd rfl (am _ _)
   |exact absurd rfl (aB _ _ _)
   |simp_all
 ·unfold binOp
  split
  all_goals first
   |rfl
   |exact absurd ⟨rfl,rfl⟩ (I _ _ _ _)
   |exact absurd ⟨rfl,rfl⟩ (J _ _)
   |exact absurd rfl (am _ _)
   |exact absurd rfl (aB _ _ _)
   |simp_all
def abI(S:c9)(v:D):(∀q F,aQ S v≠ .float q F)/\∀q F b,aQ S v≠ .complex q F b:=by
 cases v<;>simp[aQ]
def apr{m:Nat}{t:TypeId}{iC:Array (String×TypeId)}(bb:C.P.underlying t=some (.interface iC))(bs:iC.isEmpty=true):(Op.eqGuardIn (m+1) t .nilIface .nilIface).run C.P w= .ok false w:=by
 simp[Op.eqGuardIn,run_underlying bb,bs]
def aps{op:BinOp}{t:TypeId}{x e:Operand}{X c3:Value}(a:(rt x||rt e)=true)(J:∀c d,¬(X= .agg c/\c3= .agg d)):
 (eqGuard op t x e X c3).run C.P w= .ok () w:=by
 cases op<;>first|rfl|(cases x<;>cases e<;>first|(simp[rt]at a;done)|(cases X<;>cases c3<;>first|rfl|exact absurd ⟨rfl,rfl⟩ (J _ _)))
def apt{op:BinOp}{t:TypeId}{x e:Operand}{iC:Array (String×TypeId)}(bb:C.P.underlying t=some (.interface iC))(bs:iC.isEmpty=true):
 (eqGuard op t x e .nilIface .nilIface).run C.P w= .ok () w:=by
 have key:=apr (C:=C) (w:=w) (m:=9999) bb bs
 have I:Op.maxDepth=9999+1:=rfl
 cases op<;>first|rfl|(cases x<;>cases e<;>first|rfl|(simp[eqGuard,I,key];done))
def apu{op:BinOp}{t:TypeId}{x e:Operand}(a:(rt x||rt e||(match C.P.underlying t with|some (.interface iC)=>iC.isEmpty|_=>false))=true):
 (eqGuard op t x e .nilIface .nilIface).run C.P w= .ok () w:=by
 by_cases aA:(rt x||rt e)=true
 ·exact aps aA Zs
 ·have aA:(rt x||rt e)=false:=by simpa using aA
  rw[aA,Bool.false_or]at a
  split at a
  ·rename_i iC bb
   exact apt bb a
  ·simp at a
def apv{op:BinOp}{t:TypeId}{x e:Operand}{X c3:Value}(I:¬(X= .nilIface/\c3= .nilIface))(J:∀c d,¬(X= .agg c/\c3= .agg d)):
 (eqGuard op t x e X c3).run C.P w= .ok () w:=by
 cases op<;>first|rfl|(cases X<;>cases c3<;>first|rfl|exact absurd ⟨rfl,rfl⟩ I|exact absurd ⟨rfl,rfl⟩ (J _ _))
def NI{op:BinOp}{t:TypeId}{x e:Operand}{F b:D}(a:GU C t (rt x||rt e) F b=true):
 (eqGuard op t x e (aQ S F) (aQ S b)).run C.P w= .ok () w:=by
 unfold GU at a
 split at a
 ·exact apu a
 ·simp only[aQ]
  exact run_eqGuard_agg w op t x e _ _ (by simpa using a)
 ·rename_i aG a1
  refine apv ?_ ?_
  ·rintro⟨I,J⟩
   cases F<;>simp[aQ]at I
   cases b<;>simp[aQ]at J
   exact aG rfl rfl
  ·rintro c d ⟨I,J⟩
   cases F<;>simp[aQ]at I
   cases b<;>simp[aQ]at J
   exact a1 _ _ rfl rfl
def am7{op:BinOp}{x e:List Nat}{v:D}(af:∀F∈x,F<256)(z:∀F∈e,F<256)(a:B4 op x e=some v):
 (Op.stringOp op (f2 x) (f2 e)).run C.P w= .ok (aQ S v) w/\ck ad v:=by
 have bF:=Wo af z
 have cn:Op.bytesLess (f2 x).toList (f2 e).toList=Da x e:=by rw[Nj,Nj];exact ahO af z
 cases op<;>simp only[B4,xO,e1,Zf]at a<;>
  first
  |(
    obtain⟨I,rfl⟩:=a
    constructor
    ·have aF:(f2 x).size=x.length:=by simp[f2,ByteArray.size]
     have tx:(f2 e).size=e.length:=by simp[f2,ByteArray.size]
     have gq:=jx I
     simp only[Op.stringOp,aF,tx]
     rw[Zg (by simp[IntKind.max,IntKind.signed,IntKind.bits];omega)]
     simp only[Sem.run_pure,aQ]
     congr 2
     apply ByteArray.ext
     simp[f2]
    ·simp only[ck]
     intro bz cr
     rcases Zz.1 cr with a|a
     ·exact af bz a
     ·exact z bz a)
  |(subst a;exact⟨by simp only[Op.stringOp,bF,cn,Sem.run_pure,aQ],trivial⟩)
  |(simp at a)
def awp(V:dq C S ad h j bh w){op:BinOp}{t:Nat}{x e:Operand}{av:Operand->Value}{ev:Operand->Option D}{v:D}(cC:jv S ad av ev [x,e])
 (a:PF C op t x e h ev=some v):(do eqGuard op t x e (av x) (av e);binOp op t (av x) (av e):Sem Value).run C.P w= .ok (aQ S v) w/\ck ad v:=by
 unfold PF at a
 split at a
 ·rename_i F b aC aj
  obtain⟨ao3,hN⟩:=cC x Zs F aC
  obtain⟨cR,py⟩:=cC e Zs b aj
  rw[ao3,cR]
  unfold dw at a
  split at a
  ·rename_i q i e5 W
   obtain⟨I,J,_⟩:=aaW (C:=C) (S:=S) (ad:=ad) (w:=w) t a
   refine⟨?_,J⟩
   rw[Sem.run_bind,NI (by simp[GU])]
   exact I
  ·rename_i s fk
   obtain⟨I,J⟩:=am7 (C:=C) (S:=S) (ad:=ad) (w:=w) hN py a
   refine⟨?_,J⟩
   rw[Sem.run_bind,NI (by simp[GU])]
   simp only[Result.andThen_ok,aQ,binOp]
   exact I
  ·rename_i axF mj
   simp only[e1]at a
   obtain⟨fY,a⟩:=a
   have bL:∀r,kl C h 50 t F b=some r->(Op.equal t (aQ S F) (aQ S b)).run C.P w= .ok r w:=λr kb=>RB V 50 _ t F b r Zd hN py kb
   have oO:∀q bz e5 ME,¬(aQ S F= .int q bz/\aQ S b= .int e5 ME):=by
    intro q bz e5 ME ⟨I,J⟩
    cases F<;>simp[aQ]at I
    cases b<;>simp[aQ]at J
    exact axF _ _ _ _ rfl rfl
   have ny:∀bz ME,¬(aQ S F= .string bz/\aQ S b= .string ME):=by
    intro bz ME ⟨I,J⟩
    cases F<;>simp[aQ]at I
    cases b<;>simp[aQ]at J
    exact mj _ _ rfl rfl
   obtain⟨cG,cw⟩:=binOp_eql (t:=t) oO ny (abI S F).1 (abI S F).2
   rw[Sem.run_bind,NI fY]
   split at a
   ·split at a
    ·rename_i r kb
     simp at a;subst a
     exact⟨by simp[cG,bL r kb,aQ],trivial⟩
    ·simp at a
   ·split at a
    ·rename_i r kb
     simp at a;subst a
     exact⟨by simp[cw,bL r kb,aQ],trivial⟩
    ·simp at a
   ·simp at a
 ·simp at a
end
end Go.bd

namespace Go.bd
open Go.RowKit (Below)
section
variable{C:aL}{S:c9}{ad:Nat->Prop}{h:K ag}{j bh:Nat}{w:World}
def amT{s d:Nat}{x v:D}(af:ck ad x)(a:RA C s d x=some v):(convert s d (aQ S x)).run C.P w= .ok (aQ S v) w/\ck ad v:=by
 unfold RA at a
 split at a
 ·rename_i ni q eA n E3 Ln
  simp at a;subst a
  simp[convert,run_underlying E3,run_underlying Ln,Conv.intToInt,aQ,ck]
 ·rename_i ni s E3 Ln
  simp at a;subst a
  refine⟨?_,af⟩
  simp[convert,run_underlying E3,run_underlying Ln,aQ]
 ·simp at a
def anZ:∀{k:List D}{s:List Nat},Aj k=some s->∃mj:List Nat,k=mj.map (λn=>D.int .u8 (Int.ofNat n))/\s=mj.map (·%256):=by
 intro k
 induction k with
 |nil=>intro s a;simp[Aj]at a;subst a;exact⟨[],rfl,rfl⟩
 |cons F k al=>
  intro s a
  unfold Aj at a
  split at a
  ·rename_i gH;simp at gH
  ·rename_i n bV e2
   simp only[Yw]at e2
   obtain⟨rfl,rfl⟩:=e2
   split at a
   ·rename_i r V
    simp at a;subst a
    obtain⟨mj,I,J⟩:=al V
    exact⟨n::mj,by simp[I],by simp[J]⟩
   ·simp at a
  ·simp at a
def aqb(mj:List Nat):∀r:ByteArray,(mj.map Int.ofNat).foldl (λr (n:Int)=>r.push (UInt8.ofNat n.toNat)) r=⟨r.data++(mj.map UInt8.ofNat).toArray⟩:=by
 induction mj with
 |nil=>intro r;simp
 |cons n mj al=>
  intro r
  simp only[ZL,Z7,al]
  congr 1
  apply YZ
  simp[ByteArray.push]
def GI(V:dq C S ad h j bh w){b U n:Nat}{k:List D}(aj:ad b)(a:ns C h b U n=some k):
 (loadCells ⟨(S b).cH,(S b).ec+U,none⟩ n).run C.P w= .ok (b2 S k).toArray w/\ep ad k:=by
 unfold ns at a
 split at a
 ·rename_i c aA;exact No V aj aA a
 ·simp only[e1,Zf]at a
  obtain⟨I,rfl⟩:=a
  have:n=0:=Zl I
  subst this
  refine⟨?_,trivial⟩
  have az:=run_loadCells_list (P:=C.P) w ⟨(S b).cH,(S b).ec+U,none⟩ [] (λW v bD=>by simp at bD)
  simpa[b2]using az
def ahX(V:dq C S ad h j bh w){b U n cap:Nat}{k:List D}{s:List Nat}(aj:ad b)(a:ns C h b U n=some k)(aF:Aj k=some s):
 (Conv.bytesToString (.slice (some ⟨(S b).cH,(S b).ec+U,none⟩) n cap)).run C.P w= .ok (aQ S (.str s)) w/\ck ad (.str s):=by
 obtain⟨I,_⟩:=GI V aj a
 obtain⟨mj,rfl,rfl⟩:=anZ aF
 have J:=run_bytesToString (P:=C.P) w ⟨(S b).cH,(S b).ec+U,none⟩ n cap (mj.map Int.ofNat) (by
  rw[I];congr 2
  rw[ql,Yy,Yy];rfl)
 constructor
 ·rw[J,aqb]
  congr 2
  simp only[f2,Yy]
  congr 1
  apply YZ
  simp
  intro F _
  exact UInt8.toNat_inj.1 Zs
 ·simp only[ck]
  intro x af
  obtain⟨e,_,rfl⟩:=ZE.1 af
  exact Nat.mod_lt _ Zd
def am8(V:dq C S ad h j bh w){x v:D}(af:ck ad x)(a:Gr C h x=some v):(Conv.bytesToString (aQ S x)).run C.P w= .ok (aQ S v) w/\ck ad v/\∃F k c,aQ S x= .slice F k c:=by
 unfold Gr at a
 split at a
 ·simp at a;subst a;exact⟨rfl,by simp[ck],_,_,_,rfl⟩
 ·split at a
  ·rename_i k az
   split at a
   ·rename_i s aF
    simp at a;subst a
    obtain⟨I,J⟩:=ahX V af az aF
    exact⟨I,J,_,_,_,rfl⟩
   ·simp at a
  ·simp at a
 ·split at a
  ·rename_i k az
   split at a
   ·rename_i s aF
    simp at a;subst a
    obtain⟨I,J⟩:=ahX V af az aF
    exact⟨I,J,_,_,_,rfl⟩
   ·simp at a
  ·simp at a
 ·simp at a
def awq(V:dq C S ad h j bh w){s d:Nat}{x:Operand}{av:Operand->Value}{ev:Operand->Option D}{v:D}(cC:jv S ad av ev [x])
 (a:LH C s d x h ev=some v):(convert s d (av x)).run C.P w= .ok (aQ S v) w/\ck ad v:=by
 unfold LH at a
 split at a
 ·rename_i F aC
  obtain⟨E,g⟩:=cC x Zs F aC
  rw[E]
  split at a
  ·rename_i ac bb
   simp at a;subst a
   exact amT g bb
  ·split at a
   ·rename_i uu E3 Ln
    split at a
    ·rename_i bs
     obtain⟨I,J,fV,k,c,am⟩:=am8 V g a
     refine⟨?_,J⟩
     rw[am]at I ⊢
     rw[run_convert_bytes_string w s d uu fV k c E3 bs Ln]
     exact I
    ·simp at a
   ·simp at a
 ·simp at a
def Fg{U:Option D}{m d r:Nat}(a:pS U m d=some r):(U=none/\r=d)\/∃q,U=some (.int q (Int.ofNat r))/\r<=m:=by
 unfold pS at a
 split at a
 ·rename_i v
  split at a
  ·rename_i n aE
   simp only[e1,Zf]at a
   obtain⟨I,rfl⟩:=a
   obtain⟨q,rfl⟩:=Fm aE
   exact .inr ⟨q,rfl,jx I⟩
  ·simp at a
 ·simp at a;exact .inl ⟨rfl,a.symm⟩
def run_sliceBound{P:Program}{q:IntKind}{n e:Nat}{code:BoundsCode}(a:n<=e):(Instr.sliceBound (.int q (Int.ofNat n)) e code).run P w= .ok n w:=by
 have I:(0:Int)<=Int.ofNat n/\Int.ofNat n<=(e:Int):=⟨Int.natCast_nonneg n,Int.ofNat_le.2 a⟩
 simp only[Instr.sliceBound,asIntOf,Sem.run_bind,Sem.run_pure,Result.andThen_ok]
 rw[Zu I]
 rfl
def JM{HX:Bool}{len cap Nl:Nat}{b0 aN g0:Option D}{k a m:Nat}(aA:cap<=Nl)(aj:mr len cap b0 aN g0=some (k,a,m)):
 (Instr.sliceBounds HX len Nl (b0.map (aQ S)) (aN.map (aQ S)) (g0.map (aQ S))).run C.P w= .ok (k,a,if g0.isSome then m else Nl) w/\k<=a/\(g0=none->m=cap)/\m<=cap/\(a<=m\/a=len):=by
 unfold mr at aj
 split at aj
 ·simp at aj
 ·rename_i gr bp
  split at aj
  ·simp at aj
  ·rename_i cz gH
   split at aj
   ·simp at aj
   ·rename_i bV az
    simp at aj
    obtain⟨rfl,rfl,rfl⟩:=aj
    have KY:bV<=cz:=by
     rcases Fg az with ⟨_,rfl⟩|⟨q,_,gq⟩
     ·exact zo _
     ·exact gq
    cases g0 with
    |none=>
     have tr:gr=cap:=by simpa[pS]using bp.symm
     subst tr
     have ON:pS aN gr len=some cz:=by cases aN<;>exact gH
     refine⟨?_,KY,λ_=>rfl,Zi _,(Fg ON).elim (λa=> .inr a.2) (λ⟨_,_,a⟩=> .inl a)⟩
     rcases Fg ON with ⟨rfl,rfl⟩|⟨q,rfl,gq⟩<;>rcases Fg az with ⟨rfl,rfl⟩|⟨cq,rfl,f7⟩
     ·simp[Instr.sliceBounds]
     ·simp only[Instr.sliceBounds,Y1,ZU,aQ,Sem.run_bind,Sem.run_pure,Result.andThen_ok,run_sliceBound f7,Z2,Zw,ZA]
     ·simp only[Instr.sliceBounds,Y1,ZU,aQ,Sem.run_bind,Sem.run_pure,Result.andThen_ok,run_sliceBound (ZB gq aA),Z2,Zw,ZA]
     ·simp only[Instr.sliceBounds,Y1,ZU,aQ,Sem.run_bind,Sem.run_pure,Result.andThen_ok,run_sliceBound (ZB gq aA),run_sliceBound f7,Z2,Zw,ZA]
    |some axs=>
     rcases Fg bp with ⟨aS,_⟩|⟨q,aS,gq⟩
     ·cases aS
     ·cases aS
      cases aN with
      |none=>simp at gH
      |some bD=>
       have ON:pS (some bD) gr len=some cz:=gH
       rcases Fg ON with ⟨aS,_⟩|⟨e5,aS,KX⟩
       ·cases aS
       ·cases aS
        refine⟨?_,KY,(λa=>by cases a),gq, .inl KX⟩
        rcases Fg az with ⟨rfl,rfl⟩|⟨cq,rfl,f7⟩
        ·simp only[Instr.sliceBounds,Y1,ZU,aQ,Sem.run_bind,Sem.run_pure,Result.andThen_ok,run_sliceBound (ZB gq aA),run_sliceBound KX,Z9,ZC]
        ·simp only[Instr.sliceBounds,ZU,aQ,Sem.run_bind,Sem.run_pure,Result.andThen_ok,run_sliceBound (ZB gq aA),run_sliceBound KX,run_sliceBound f7,Z9,ZC]
end
end Go.bd

namespace Go.bd
open Go.RowKit (Below)
section
variable{C:aL}{S:c9}{ad:Nat->Prop}{h:K ag}{j bh:Nat}{w:World}
def aok(m k U bl:Nat):bY (Nat.beq m k) U (U+k*bl)=if m=k then U else U+k*bl:=hK _ _ _ _
def ahE(V:dq C S ad h j bh w){b n:Nat}(aj:ad b)(a:yR C h b=some n):n<=(S b).room:=by
 unfold yR at a
 split at a
 ·rename_i c m fv bj
  simp at a;subst a
  obtain⟨cm,ty,b0,aN,_,J,_,_⟩:=V.obj b _ bj aj
  exact J.2.1
 ·rename_i c m bj
  simp at a;subst a
  obtain⟨cm,ty,b0,aN,_,J,_,_⟩:=V.obj b _ bj aj
  exact J.2.1
 ·simp at a
def Wh{b U k a m bl:Nat}:Value.slice (some (if m=k then(⟨(S b).cH,(S b).ec+U,none⟩:Addr)else(⟨(S b).cH,(S b).ec+U,none⟩:Addr).add (k*bl))) (a-k) (m-k)
 =aQ S (.slice b (bY (Nat.beq m k) U (U+k*bl)) (a-k) (m-k)):=by
 rw[aok]
 simp only[aQ,rZ]
 split
 ·rfl
 ·rw[ZJ]
def am6(V:dq C S ad h j bh w){t:Nat}{x v:D}{b0 aN g0:Option D}(af:ck ad x)(a:Nb C h t x b0 aN g0=some v):
 (Instr.sliceAt t (aQ S x) (b0.map (aQ S)) (aN.map (aQ S)) (g0.map (aQ S))).run C.P w= .ok (aQ S v) w/\ck ad v:=by
 unfold Nb at a
 split at a
 ·rename_i s bb
  cases g0 with
  |some _=>simp at a
  |none=>
   simp only at a
   split at a
   ·rename_i k cz m aj
    simp at a;subst a
    obtain⟨I,J,_⟩:=JM (C:=C) (S:=S) (w:=w) (HX:=false) (Zi _) aj
    have eO:(f2 s).size=s.length:=by simp[f2,ByteArray.size]
    constructor
    ·simp only[Y1,Z2,Zw,ZA]at I
     simp[Instr.sliceAt,run_underlying bb,Instr.slice,aQ,eO,I]
     apply ByteArray.ext
     rw[ByteArray.data_extract]
     apply YZ
     simp[f2,List.map_take,List.map_drop,List.take_drop]
    ·simp only[ck]at af ⊢
     intro bz cr
     exact af bz (Y6 (Y7 cr))
   ·simp at a
 ·rename_i eg b U len cap bb
  split at a
  ·rename_i k cz m bl aj eO
   simp at a;subst a
   obtain⟨I,J,am,_⟩:=JM (C:=C) (S:=S) (w:=w) (HX:=true) (Zi cap) aj
   have bp:(if g0.isSome=true then m else cap)=m:=by cases g0 with
    |none=>simp[am rfl]
    |some _=>rfl
   rw[bp]at I
   refine⟨?_,af⟩
   have:=Wh (S:=S) (b:=b) (U:=U) (k:=k) (a:=cz) (m:=m) (bl:=bl)
   simp only[Instr.sliceAt,Sem.run_bind,run_underlying bb,Result.andThen_ok,Instr.slice,aQ,I,p3 eO,Sem.run_pure]
   rw[<-aQ, <-this]
   split<;>rfl
  ·simp at a
 ·rename_i eg bb
  split at a
  ·rename_i r bl aj eO
   obtain⟨k,cz,m⟩:=r
   simp at a;subst a
   obtain⟨I,J,am,aB,bk⟩:=JM (C:=C) (S:=S) (w:=w) (HX:=true) (Zi 0) aj
   have bp:m=0:=Zo
   have gH:cz=0:=Zo
   have az:k=0:=Zo
   subst bp;subst gH;subst az
   refine⟨?_,trivial⟩
   have uF:(Instr.sliceBounds true 0 0 (b0.map (aQ S)) (aN.map (aQ S)) (g0.map (aQ S))).run C.P w= .ok (0,0,0) w:=by rw[I];split<;>rfl
   simp[Instr.sliceAt,run_underlying bb,Instr.slice,aQ,uF,p3 eO]
  ·simp at a
 ·rename_i eg b U len bl bb
  split at a
  ·rename_i yT n eO aE
   simp only[e1,Zp]at a
   obtain⟨⟨lL,rr⟩,a⟩:=a
   have lL:bl=yT:=Zl lL
   subst lL
   have rr:0<bl:=lG rr
   have aux:=ahE V af aE
   have mY:(n-U)/bl<=((S b).room-U)/bl:=Nat.div_le_div_right Zo
   split at a
   ·rename_i k cz m aj
    obtain⟨I,J,am,_⟩:=JM (C:=C) (S:=S) (w:=w) (HX:=true) mY aj
    cases g0 with
    |some axs=>
     simp at a;subst a
     refine⟨?_,af⟩
     have:=Wh (S:=S) (b:=b) (U:=U) (k:=k) (a:=cz) (m:=m) (bl:=bl)
     simp only[Z9,ZC]at I
     simp only[Instr.sliceAt,Sem.run_bind,run_underlying bb,Result.andThen_ok,Instr.slice,aQ,I,p3 eO,Sem.run_pure]
     rw[<-aQ, <-this]
     split<;>rfl
    |none=>
     simp only[e1,Zf,zi]at a
     obtain⟨az,rfl⟩:=a
     refine⟨?_,af⟩
     simp only[Z2,Zw,ZA]at I
     simp only[Instr.sliceAt,Sem.run_bind,run_underlying bb,Result.andThen_ok,Instr.slice,aQ,I,p3 eO,Sem.run_pure]
     have cn:((S b).room-(U+k*bl))/bl=((S b).room-U)/bl-k:=by
      rw[<-Nat.sub_sub,zp k bl,Nat.sub_mul_div]
     rw[cn]
     congr 1
     congr 1
     rcases az with az|az
     ·have az:=lG az
      rw[Zg Zo,ZU,rZ,ZJ]
     ·have az:k=0:=Zl az
      subst az
      split<;>simp[rZ]
   ·simp at a
  ·simp at a
 ·rename_i n eg b U bb
  split at a
  ·rename_i k cz m bl aj eO
   simp at a;subst a
   obtain⟨I,J,am,_⟩:=JM (C:=C) (S:=S) (w:=w) (HX:=false) (Zi n) aj
   have bp:(if g0.isSome=true then m else n)=m:=by cases g0 with
    |none=>simp[am rfl]
    |some _=>rfl
   rw[bp]at I
   refine⟨?_,af⟩
   have:=Wh (S:=S) (b:=b) (U:=U) (k:=k) (a:=cz) (m:=m) (bl:=bl)
   simp only[Instr.sliceAt,Sem.run_bind,run_underlying bb,Result.andThen_ok,Instr.sureAddr,aQ,I,p3 eO,Sem.run_pure]
   rw[<-aQ, <-this]
  ·simp at a
 ·simp at a
end
end Go.bd

namespace Go.bd
open Go.RowKit (Below)
section
variable{C:aL}{S:c9}{ad:Nat->Prop}{h:K ag}{j bh:Nat}{w:World}
def azS{α:Type}{P:Program}(f:α->PUnit->Sem (ForInStep PUnit)):∀(k:List α),(∀F∈k,(f F ⟨⟩).run P w= .ok (.yield ⟨⟩) w)->(forIn k PUnit.unit f).run P w= .ok ⟨⟩ w:=by
 intro k
 induction k with
 |nil=>intro _;simp[Sem.run_pure]
 |cons F k al=>intro a;simp[List.forIn_cons,a F Zs,al λb aj=>a b (by simp[aj])]
def aaX{E:Bool}:∀(n m t:Nat) (v:D),n<=m->ck ad v->np C n t v=true->(Instr.checkKey E m t (aQ S v)).run C.P w= .ok () w:=by
 intro n
 induction n with
 |zero=>intro m t v _ _ a;simp[np]at a
 |succ n al=>
  intro m t v bp bD a
  obtain⟨m,rfl⟩:∃q,m=q+1:=⟨m-1,Zo⟩
  unfold np at a
  split at a
  ·rename_i iC d x bb
   split at a
   ·rename_i i aN
    simp only[Zp]at a
    have:=al m d x Zo bD a.2
    simp[Instr.checkKey,run_underlying bb,aQ,typeInfo,aN,a.1,this]
   ·simp at a
  ·rename_i bb;simp[Instr.checkKey,run_underlying bb,aQ]
  ·simp at a
  ·rename_i j6 cs bb
   simp only[Instr.checkKey,Sem.run_bind,run_underlying bb,Result.andThen_ok,aQ]
   rw[<-Array.forIn_toList]
   refine(congrArg (λr=>Result.andThen r _) (azS _ _ ?_)).trans rfl
   intro f ch
   have:=YI.1 a f ch
   simp only[zi,Y0]at this
   by_cases aE:f.name= "_"
   ·simp[aE]
   ·rcases this with I|I
    ·exact absurd I aE
    ·split at I
     ·rename_i p ay
      obtain⟨fG,hD⟩:=JD (S:=S) (w:=w) bD ay
      simp[aE,fG,al m f.type p Zo hD I]
     ·simp at I
  ·simp at a
  ·simp at a
  ·rename_i d aG a1 bf bb b4 eB ef
   simp only[Instr.checkKey,Sem.run_bind,run_underlying bb,Result.andThen_ok]
   cases d<;>first
    |exact(aG _ rfl).elim
    |exact(a1 _ rfl).elim
    |exact(bf _ _ rfl).elim
    |rfl
  ·simp at a
def abJ{x:D}{q:IntKind}{F:Int}(a:aQ S x= .int q F):x= .int q F:=by
 cases x<;>simp[aQ]at a
 obtain⟨rfl,rfl⟩:=a;rfl
def abH{x:D}{F:Bool}(a:aQ S x= .bool F):x= .bool F:=by
 cases x<;>simp[aQ]at a
 subst a;rfl
def abK{x:D}{F:ByteArray}(a:aQ S x= .string F):∃s,x= .str s/\F=f2 s:=by
 cases x<;>simp[aQ]at a
 exact⟨_,rfl,a.symm⟩
def abx(F b:ByteArray):(F==b)=(F.toList==b.toList):=by
 show(F.data==b.data)=_
 rw[Yh,Y0,Y0,ByteArray.toList_eq,ByteArray.toList_eq]
 exact⟨λa=>by rw[a],λa=>Array.toList_inj.1 a⟩
def ahy{d t:Nat}{ff:TypeDesc}{x e:D}{r gb:Bool}(bb:C.P.underlying t=some ff)(fE:ck ad x)(vQ:ck ad e)
 (a:kl C h d t x e=some r)(cz:Instr.sameNow ff (aQ S x) (aQ S e)=some gb):r=gb:=by
 cases d with
 |zero=>simp[kl]at a
 |succ d=>
  unfold Instr.sameNow at cz
  split at cz
  ·rename_i eA q F e5 b af z
   rw[abJ af,abJ z]at a
   simp[kl,bb]at a
   split at cz
   ·simp at cz;rw[<-cz, <-a.2];rfl
   ·simp at cz
  ·rename_i F b af z
   obtain⟨s,rfl,rfl⟩:=abK af
   obtain⟨fk,rfl,rfl⟩:=abK z
   simp[kl,bb]at a
   simp at cz
   rw[<-cz, <-a,abx,Wo fE vQ]
  ·rename_i F b af z
   rw[abH af,abH z]at a
   simp[kl,bb]at a
   simp at cz;rw[<-cz, <-a]
  ·simp at cz
def vx(S:c9)(r:Option (Nat×D)):Option (Nat×Value):=r.map λx=>(x.1,aQ S x.2)
def ap3{t:Nat}{ff:TypeDesc}{q:D}(bb:C.P.underlying t=some ff)(oK:ck ad q):∀(bH:List (D×D×Nat)) (i:Nat) (r:Option (Nat×D)) (gb:Option (Nat×Value)),
 (∀E∈bH,ck ad E.1/\ck ad E.2.1)->findKey C h t q bH i=some r->Instr.findNow ff (aQ S q) (bH.map (l7 S)) i=some gb->gb=vx S r:=by
 intro bH
 induction bH with
 |nil=>intro i r gb _ a cz;simp[findKey]at a;simp[Instr.findNow]at cz;subst a;subst cz;rfl
 |cons E bH al=>
  intro i r gb bU a cz
  obtain⟨e5,v,b⟩:=E
  simp only[findKey]at a
  simp only[ZL,Instr.findNow,l7]at cz
  split at a
  ·rename_i bs
   simp at a;subst a
   split at cz
   ·simp at cz;rw[<-cz];rfl
   ·rename_i aF
    have:=ahy bb oK (bU (e5,v,b) (Zq ..)).1 bs aF
    simp at this
   ·simp at cz
  ·rename_i bs
   split at cz
   ·rename_i aF
    have:=ahy bb oK (bU (e5,v,b) (Zq ..)).1 bs aF
    simp at this
   ·exact al _ _ _ (λE bs=>bU E (by simp[bs])) a cz
   ·simp at cz
  ·simp at a
def ap0(V:dq C S ad h j bh w){t:Nat}{q:D}(oK:ck ad q):∀(bH:List (D×D×Nat)) (i:Nat) (r:Option (Nat×D)),
 (∀E∈bH,ck ad E.1/\ck ad E.2.1)->findKey C h t q bH i=some r->(Instr.findAsking t (aQ S q) (bH.map (l7 S)) i).run C.P w= .ok (vx S r) w:=by
 intro bH
 induction bH with
 |nil=>intro i r _ a;simp[findKey]at a;subst a;simp[Instr.findAsking,vx]
 |cons E bH al=>
  intro i r bU a
  obtain⟨e5,v,b⟩:=E
  simp only[findKey]at a
  have bp:20<=Op.maxDepth:=by decide
  split at a
  ·rename_i bs
   simp at a;subst a
   have:=RB V 20 _ t q e5 true bp oK (bU (e5,v,b) (Zq ..)).1 bs
   simp[Instr.findAsking,Op.equal,l7,this,vx]
  ·rename_i bs
   have:=RB V 20 _ t q e5 false bp oK (bU (e5,v,b) (Zq ..)).1 bs
   simp[Instr.findAsking,Op.equal,l7,this]
   exact al _ _ (λE bs=>bU E (by simp[bs])) a
  ·simp at a
def Sx(V:dq C S ad h j bh w){t:Nat}{ff:TypeDesc}{q:D}{bH:List (D×D×Nat)}{r:Option (Nat×D)}(bb:C.P.underlying t=some ff)(oK:ck ad q)
 (bU:∀E∈bH,ck ad E.1/\ck ad E.2.1)(a:findKey C h t q bH 0=some r):(Instr.findKey t (aQ S q) (bH.map (l7 S))).run C.P w= .ok (vx S r) w:=by
 simp only[Instr.findKey,Sem.run_bind,run_underlying bb,Result.andThen_ok]
 split
 ·rename_i gb cz
  rw[ap3 bb oK bH 0 r gb bU a cz];rfl
 ·exact ap0 V oK bH 0 r bU a
def acA{t:Nat}{q:D}:∀(bH:List (D×D×Nat)) (i W:Nat) (v:D),findKey C h t q bH i=some (some (W,v))->i<=W/\∃E,bH[W-i]? =some E/\E.2.1=v:=by
 intro bH
 induction bH with
 |nil=>intro i W v a;simp[findKey]at a
 |cons E bH al=>
  intro i W v a
  obtain⟨e5,gK,b⟩:=E
  simp only[findKey]at a
  split at a
  ·simp at a
   obtain⟨rfl,rfl⟩:=a
   exact⟨Zi _,(e5,gK,b),Zs,rfl⟩
  ·obtain⟨I,E,J,am⟩:=al _ _ _ a
   refine⟨Zo,E, ?_,am⟩
   rw[show W-i=(W-(i+1))+1 by omega]
   simpa using J
  ·simp at a
def afE{t d:Nat}{q:D}(a:np C d t q=true):∃ff,C.P.underlying t=some ff:=by
 cases d with
 |zero=>simp[np]at a
 |succ d=>
  cases bb:C.P.underlying t with
  |none=>simp[np,bb]at a
  |some ff=>exact⟨ff,rfl⟩
def LP(V:dq C S ad h j bh w){r:Nat}{bH:List (D×D×Nat)}{eR:Nat}(aH:ad r)(a:Y C h r=some (.map bH eR)):
 ∃cm,(getObj (S r).cH).run C.P w= .ok (.map cm eR) w/\w.heap[(S r).cH]? =some (.map cm eR)/\cm.toList=bH.map (l7 S)/\∀E∈bH,ck ad E.1/\ck ad E.2.1:=by
 obtain⟨cm,I,J,am⟩:=V.obj r _ a aH
 exact⟨cm,MapKept.run_getObj_map I,I,J,am⟩
def af4{t:Nat}{q:D}{F b:List (D×D)}(a:F.Perm b):∀r,pX C h t q F=some r->pX C h t q b=some r:=by
 induction a with
 |nil=>exact λ_ a=>a
 |cons x _ al=>
  obtain⟨e5,v⟩:=x
  intro r a
  simp only[pX]at a ⊢
  split at a
  ·rename_i V bs
   rw[al _ V,bs];simpa using a
  ·rename_i V bs
   rw[al _ V,bs];simpa using a
  ·cases a
 |swap x e k=>
  obtain⟨awn,QD⟩:=x
  obtain⟨tG,QE⟩:=e
  intro r a
  simp only[pX]at a ⊢
  cases az:pX C h t q k with
  |none=>simp[az]at a
  |some jI=>
   simp only[az]at a
   cases af:kl C h 20 t q awn with
   |none=>rw[af]at a;cases jI<;>simp at a
   |some abw=>
    cases z:kl C h 20 t q tG with
    |none=>
     rw[af,z]at a
     cases abw<;>cases jI<;>simp at a
    |some anY=>
     rw[af,z]at a
     cases abw<;>cases anY<;>cases jI<;>simp at a ⊢ <;>exact a
 |trans _ _ UO Lt=>exact λr a=>Lt r (UO r a)
def af3{t:Nat}{q:D}:∀(bH:List (D×D×Nat)) (i:Nat) (r:Option D),pX C h t q (bH.map λE=>(E.1,E.2.1))=some r->∃gb,findKey C h t q bH i=some gb/\gb.map (·.2)=r:=by
 intro bH
 induction bH with
 |nil=>intro i r a;simp[pX]at a;subst a;exact⟨none,rfl,rfl⟩
 |cons E bH al=>
  obtain⟨e5,gK,b⟩:=E
  intro i r a
  simp only[ZL,pX]at a
  simp only[findKey]
  split at a
  ·rename_i jI V bs
   simp at a;subst a
   rw[bs]
   exact al (i+1) _ V
  ·rename_i V bs
   simp at a;subst a
   rw[bs]
   exact⟨some (i,gK),rfl,rfl⟩
  ·cases a
def am1(V:dq C S ad h j bh w){t:Nat}{m q v:D}{ok:Bool}(vM:ck ad m)(oK:ck ad q)(a:Na C h t m q ok=some v):
 (Instr.lookup t (aQ S m) (aQ S q) ok).run C.P w= .ok (aQ S v) w/\ck ad v:=by
 unfold Na at a
 split at a
 ·rename_i jV Cg bb
  have key:∀(bH:List (D×D×Nat)) (cm:Array MapEntry) (r:Option (Nat×D)),cm.toList=bH.map (l7 S)->(∀E∈bH,ck ad E.1/\ck ad E.2.1)->np C 20 jV q=true->findKey C h jV q bH 0=some r->
   (match r with|none=>(match ub C Cg with|some bz=>some (bY ok (.tuple [bz, .bool false]) bz)|none=>none)|some (_,v)=>some (bY ok (.tuple [v, .bool true]) v))=some v->
   (do
    Instr.checkKey cm.isEmpty 10000 jV (aQ S q)
    let(v,U)<-match<-Instr.findKey jV (aQ S q) cm.toList with
     |some (_,v)=>pure (v,true)
     |none=>pure (<-zeroValue Cg,false)
    pure (if ok then .tuple #[v, .bool U]else v):Sem Value).run C.P w= .ok (aQ S v) w/\ck ad v:=by
   intro bH cm r aC bU aD ch bD
   obtain⟨ff,OR⟩:=afE aD
   have I:=aaX (C:=C) (S:=S) (ad:=ad) (w:=w) (E:=cm.isEmpty) 20 10000 jV q Zd oK aD
   have J:=Sx V OR oK bU ch
   rw[aC]
   cases r with
   |none=>
    simp only at bD
    split at bD
    ·rename_i bz cr
     obtain⟨f1,fD⟩:=FJ cr S ad w
     simp at bD;subst bD
     cases ok
     ·exact⟨by simp[I,J,vx,f1],fD⟩
     ·exact⟨by simp[I,J,vx,f1,aQ,b2],⟨fD,trivial,trivial⟩⟩
    ·simp at bD
   |some p=>
    obtain⟨W,ac⟩:=p
    simp at bD;subst bD
    obtain⟨_,E,bs,rfl⟩:=acA bH 0 W ac ch
    have aee:=(bU E (Zj bs)).2
    cases ok
    ·exact⟨by simp[I,J,vx],aee⟩
    ·exact⟨by simp[I,J,vx,aQ,b2],⟨aee,trivial,trivial⟩⟩
  split at a
  ·simp at a
  ·rename_i bp
   split at bp
   ·simp only[e1,Zf]at bp
    have:=key [] #[] none rfl Zs bp.1 (by simp[findKey]) a
    refine⟨?_,this.2⟩
    rw[<-this.1]
    simp only[Instr.lookup,Sem.run_bind,run_underlying bb,Result.andThen_ok,aQ,Sem.run_pure]
    rfl
   ·rename_i r
    split at bp
    ·rename_i bH eR bj
     simp only[e1]at bp
     obtain⟨cm,I,_,J,am⟩:=LP V vM bj
     have:=key bH cm none J am bp.1 bp.2 a
     refine⟨?_,this.2⟩
     rw[<-this.1]
     simp only[Instr.lookup,Sem.run_bind,run_underlying bb,Result.andThen_ok,aQ,Sem.run_pure,I]
     rfl
    ·rename_i bH bj
     simp only[e1]at bp
     obtain⟨cm,eR,j5,I,J,aB,am⟩:=V.obj r _ bj vM
     have bE:pX C h jV q bH=some none:=by
      have:=bp.2
      unfold Ii at this
      split at this<;>simp at this
      all_goals(rename_i ah;first|(rw[ah,this.2])|exact ah|(rw[ah];simp[this]))
     obtain⟨gb,eM,eV⟩:=af3 j5 0 _ (af4 aB.symm _ bE)
     cases gb with
     |none=>
      have:=key j5 cm none J am bp.1 eM a
      refine⟨?_,this.2⟩
      rw[<-this.1]
      simp only[Instr.lookup,Sem.run_bind,run_underlying bb,Result.andThen_ok,aQ,Sem.run_pure,MapKept.run_getObj_map I]
      rfl
     |some p=>
      obtain⟨fG,hD⟩:=p
      simp at eV
    ·simp at bp
   ·simp at bp
  ·rename_i W ac bp
   split at bp
   ·simp only[e1]at bp
    simp at bp
   ·rename_i r
    split at bp
    ·rename_i bH eR bj
     simp only[e1]at bp
     obtain⟨cm,I,_,J,am⟩:=LP V vM bj
     have:=key bH cm (some (W,ac)) J am bp.1 bp.2 a
     refine⟨?_,this.2⟩
     rw[<-this.1]
     simp only[Instr.lookup,Sem.run_bind,run_underlying bb,Result.andThen_ok,aQ,Sem.run_pure,I]
     rfl
    ·rename_i bH bj
     simp only[e1]at bp
     obtain⟨cm,eR,j5,I,J,aB,am⟩:=V.obj r _ bj vM
     have bE:pX C h jV q bH=some (some ac):=by
      have:=bp.2
      unfold Ii at this
      split at this<;>simp at this
      all_goals(rename_i ah;first|(rw[ah,this.2])|exact ah|(rw[ah];simp[this]))
     obtain⟨gb,eM,eV⟩:=af3 j5 0 _ (af4 aB.symm _ bE)
     cases gb with
     |none=>
      simp at eV
     |some p=>
      obtain⟨fG,hD⟩:=p
      simp at eV
      subst eV
      have:=key j5 cm (some (fG,hD)) J am bp.1 eM a
      refine⟨?_,this.2⟩
      rw[<-this.1]
      simp only[Instr.lookup,Sem.run_bind,run_underlying bb,Result.andThen_ok,aQ,Sem.run_pure,MapKept.run_getObj_map I]
      rfl
    ·simp at bp
   ·simp at bp
 ·simp at a
end
end Go.bd

namespace Go.bd
open Go.RowKit (Below)
section
variable{C:aL}{S:c9}{ad:Nat->Prop}{h:K ag}{j bh:Nat}{w:World}
def awr{t f:Nat}{x:Operand}{av:Operand->Value}{ev:Operand->Option D}{v:D}(cC:jv S ad av ev [x])
 (a:LI C t x f h ev=some v):(Instr.field t (av x) f).run C.P w= .ok (aQ S v) w/\ck ad v:=by
 unfold LI at a
 split at a
 ·rename_i j6 cs bb af
  obtain⟨E,g⟩:=cC x Zs _ af
  rw[E]
  rw[qG]at a
  split at a
  ·rename_i td ch
   have rk:j6[f]? =some td:=by rw[<-ch];simp
   obtain⟨I,J⟩:=JD (S:=S) (w:=w) g a
   refine⟨?_,J⟩
   simp[Instr.field,run_underlying bb,rk,asAgg,aQ,I]
  ·simp at a
 ·simp at a
def aws{t:Nat}{x:Operand}{av:Operand->Value}{ev:Operand->Option D}{v:D}(cC:jv S ad av ev [x])
 (a:LJ C t x h ev=some v):(Instr.makeInterface t (av x)).run C.P w= .ok (aQ S v) w/\ck ad v:=by
 unfold LJ at a
 split at a
 ·simp at a
 ·rename_i d ac aE bb af
  obtain⟨E,g⟩:=cC x Zs _ af
  simp at a;subst a
  refine⟨?_,g⟩
  rw[E]
  cases d<;>first|exact(aE _ rfl).elim|simp[Instr.makeInterface,run_underlying bb,aQ]
 ·simp at a
def awo{x:Operand}{t vv:Nat}{ok:Bool}{av:Operand->Value}{ev:Operand->Option D}{v:D}(cC:jv S ad av ev [x])
 (a:LG C x vv ok h ev=some v):(Instr.typeAssert (av x) t vv ok).run C.P w= .ok (aQ S v) w/\ck ad v:=by
 unfold LG at a
 split at a
 ·simp at a
 ·rename_i d aE bb af
  obtain⟨E,g⟩:=cC x Zs _ af
  rw[E]
  simp only[e1]at a
  obtain⟨rfl,a⟩:=a
  split at a
  ·rename_i bz cr
   simp at a;subst a
   obtain⟨f1,fD⟩:=FJ cr S ad w
   refine⟨?_,fD,trivial,trivial⟩
   cases d<;>first|exact(aE _ rfl).elim|simp[Instr.typeAssert,run_underlying bb,aQ,b2,f1]
  ·simp at a
 ·rename_i d ha ac aE bb af
  obtain⟨E,g⟩:=cC x Zs _ af
  rw[E]
  rw[hK]at a
  split at a
  ·rename_i bs
   subst bs
   simp at a
   cases ok
   ·simp at a;subst a
    refine⟨?_,g⟩
    cases d<;>first|exact(aE _ rfl).elim|simp[Instr.typeAssert,run_underlying bb,aQ]
   ·simp at a;subst a
    refine⟨?_,g,trivial,trivial⟩
    cases d<;>first|exact(aE _ rfl).elim|simp[Instr.typeAssert,run_underlying bb,aQ,b2]
  ·rename_i bs
   simp only[e1]at a
   obtain⟨rfl,a⟩:=a
   split at a
   ·rename_i bz cr
    simp at a;subst a
    obtain⟨f1,fD⟩:=FJ cr S ad w
    refine⟨?_,fD,trivial,trivial⟩
    cases d<;>first|exact(aE _ rfl).elim|simp[Instr.typeAssert,run_underlying bb,aQ,b2,f1,bs]
   ·simp at a
 ·simp at a
def amZ(V:dq C S ad h j bh w){t:Nat}{c7:Array TypeId}{ty:TypeId}{x v:D}{rest:List TypeId}(aC:c7.toList=t::rest)(fE:ck ad x)(a:M9 C h t x=some v):
 (Builtin.len_ c7 ty #[aQ S x]).run C.P w= .ok (aQ S v) w/\ck ad v:=by
 have vU:c7[0]? =some t:=by rw[<-ZR,aC];rfl
 unfold M9 at a
 split at a<;>(try simp only[afr]at a)
 ·rename_i s bb
  simp at a;subst a
  refine⟨?_,trivial⟩
  have aF:(f2 s).size=s.length:=by simp[f2,ByteArray.size]
  simp[Builtin.len_,vU,run_underlying bb,aQ,goInt,aF]
 ·rename_i n uu bb
  simp at a;subst a
  refine⟨?_,trivial⟩
  simp[Builtin.len_,vU,run_underlying bb,goInt]
  simp[aQ]
 ·rename_i cm bb
  split at a
  ·rename_i n uu UH
   simp at a;subst a
   refine⟨?_,trivial⟩
   simp[Builtin.len_,vU,run_underlying bb,run_underlying UH,goInt]
   simp[aQ]
  ·simp at a
 ·rename_i bb
  simp at a;subst a
  refine⟨?_,trivial⟩
  simp[Builtin.len_,vU,run_underlying bb,aQ,goInt]
 ·rename_i bb
  simp at a;subst a
  refine⟨?_,trivial⟩
  simp[Builtin.len_,vU,run_underlying bb,aQ,goInt]
 ·rename_i bb
  simp at a;subst a
  refine⟨?_,trivial⟩
  simp[Builtin.len_,vU,run_underlying bb,aQ,goInt]
 ·rename_i bb
  simp at a;subst a
  refine⟨?_,trivial⟩
  simp[Builtin.len_,vU,run_underlying bb,aQ,goInt]
 ·rename_i r bb
  split at a
  ·rename_i bH eR bj
   simp at a;subst a
   obtain⟨cm,I,J,am,aB⟩:=LP V fE bj
   refine⟨?_,trivial⟩
   have:cm.size=bH.length:=by rw[<-Array.length_toList,am,Zn]
   simp[Builtin.len_,vU,run_underlying bb,aQ,goInt,I,this]
  ·simp at a
 ·simp at a
def amS{t:Nat}{c7:Array TypeId}{ty:TypeId}{x v:D}{rest:List TypeId}(aC:c7.toList=t::rest)(a:M6 C t x=some v):
 (Builtin.cap_ c7 ty #[aQ S x]).run C.P w= .ok (aQ S v) w/\ck ad v:=by
 have vU:c7[0]? =some t:=by rw[<-ZR,aC];rfl
 unfold M6 at a
 split at a<;>(try simp only[afr]at a)
 ·rename_i bb
  simp at a;subst a
  refine⟨?_,trivial⟩
  simp[Builtin.cap_,vU,run_underlying bb,aQ,goInt]
 ·rename_i bb
  simp at a;subst a
  refine⟨?_,trivial⟩
  simp[Builtin.cap_,vU,run_underlying bb,aQ,goInt]
 ·simp at a
def am3:∀(k:List D) (x v:D),nU true x k=some v->((b2 S k).foldlM Builtin.max2 (aQ S x)).run C.P w= .ok (aQ S v) w/\(ck ad x->ck ad v):=by
 intro k
 induction k with
 |nil=>intro x v a;cases x<;>simp[nU]at a<;>subst a<;>simp[b2]
 |cons e k al=>
  intro x v a
  unfold nU at a
  split at a
  ·rename_i aS;simp at aS
  ·rename_i q F e5 b bV e2
   simp only[Yw]at e2
   obtain⟨rfl,rfl⟩:=e2
   obtain⟨I,J⟩:=al _ _ a
   refine⟨?_,λ_=>J trivial⟩
   simp only[b2,List.foldlM_cons,Sem.run_bind,aQ,Builtin.max2,Sem.run_pure,Result.andThen_ok]
   simp only[eX,tF,fA,Zh,aQ]at I
   exact I
  ·simp at a
def am4:∀(k:List D) (x v:D),nU false x k=some v->((b2 S k).foldlM Builtin.min2 (aQ S x)).run C.P w= .ok (aQ S v) w/\(ck ad x->ck ad v):=by
 intro k
 induction k with
 |nil=>intro x v a;cases x<;>simp[nU]at a<;>subst a<;>simp[b2]
 |cons e k al=>
  intro x v a
  unfold nU at a
  split at a
  ·rename_i aS;simp at aS
  ·rename_i q F e5 b bV e2
   simp only[Yw]at e2
   obtain⟨rfl,rfl⟩:=e2
   obtain⟨I,J⟩:=al _ _ a
   refine⟨?_,λ_=>J trivial⟩
   simp only[b2,List.foldlM_cons,Sem.run_bind,aQ,Builtin.min2,Sem.run_pure,Result.andThen_ok]
   simp only[j3,tF,fA,Zh,aQ]at I
   exact I
  ·simp at a
end
end Go.bd

namespace Go.bd
open Go.RowKit (Below)
section
variable{C:aL}{S:c9}{ad:Nat->Prop}{h:K ag}{j bh:Nat}{w:World}
def jv.mono{av:Operand->Value}{ev:Operand->Option D}{k bV:List Operand}(a:jv S ad av ev k)(aF:∀x∈bV,x∈k):jv S ad av ev bV:=λx af v bD=>a x (aF x af) v bD
def So{av:Operand->Value}{ev:Operand->Option D}{U:Option Operand}{r:Option D}(cC:jv S ad av ev U.toList)(a:Dj ev U=some r):U.map av=r.map (aQ S):=by
 cases U with
 |none=>simp[Dj]at a;subst a;rfl
 |some x=>
  simp only[Dj]at a
  split at a
  ·rename_i v bD
   simp at a;subst a
   simp[(cC x Zs v bD).1]
  ·simp at a
def am0(V:dq C S ad h j bh w){oper:Oper}{av:Operand->Value}{ev:Operand->Option D}{v:D}(cC:jv S ad av ev oper.op.operands.toList)
 (a:oz oper.op C h ev=some v):MP S ad C.P w (execOp av oper) v:=by
 obtain⟨dst,op,type,pos,after,guard⟩:=oper
 cases op<;>simp only[oz]at a<;>(try(cases a;done))<;>simp only[execOp]<;>simp only[Op.operands]at cC
 case build t kh=>
  refine oB ?_
  unfold U3 at a
  split at a
  ·rename_i dr Uo
   obtain⟨I,J⟩:=ack (by simpa using cC) Uo
   have:=amR (S:=S) (w:=w) J a
   rw[<-I]at this
   have E:(kh.map λx=>(x.1,av x.2))=(kh.toList.map λx=>(x.1,av x.2)).toArray:=by apply YZ;simp
   rw[E];exact this
  ·simp at a
 case binOp op t x e I9=>exact oB (awp V (by simpa using cC) a)
 case unOp op t x=>
  refine oB ?_
  unfold Vb at a
  split at a
  ·rename_i F aC
   rw[(cC x Zs F aC).1]
   exact am9 a
  ·simp at a
 case convert s d x=>exact oB (awq V (by simpa using cC) a)
 case makeInterface t x=>exact oB (aws (by simpa using cC) a)
 case makeFunc fn first fM=>
  refine oB ?_
  unfold U7 at a
  split at a
  ·rename_i F b aC aj
   split at a
   ·simp at a;subst a
    obtain⟨ba,cj⟩:=xL (cC.mono (by simp;intro x af;exact .inl af)) aC
    obtain⟨bQ,cf⟩:=xL (cC.mono (by simp;intro x af;exact .inr af)) aj
    refine⟨?_,trivial,cj,cf⟩
    simp[Instr.makeFunc,ba,bQ,aQ,nr]
   ·simp at a
  ·simp at a
 case slice t x b0 aN g0=>
  refine oB ?_
  unfold Va at a
  split at a
  ·rename_i F k cz m aC az gH bp
   have I:=cC x Zs F aC
   have J:=So (cC.mono (by simp;intro x af;exact .inr (.inl af))) az
   have am:=So (cC.mono (by simp;intro x af;exact .inr (.inr (.inl af)))) gH
   have aB:=So (cC.mono (by simp;intro x af;exact .inr (.inr (.inr af)))) bp
   rw[I.1,J,am,aB]
   exact am6 V I.2 a
  ·simp at a
 case field t x f=>exact oB (awr (by simpa using cC) a)
 case index t x i=>
  refine oB ?_
  unfold U8 at a
  split at a
  ·rename_i F b aC aj
   have I:=cC x Zs F aC
   rw[I.1,(cC i Zs b aj).1]
   exact amX I.2 a
  ·simp at a
 case lookup t m q ok=>
  refine oB ?_
  unfold U9 at a
  split at a
  ·rename_i F b aC aj
   have I:=cC m Zs F aC
   have J:=cC q Zs b aj
   rw[I.1,J.1]
   exact am1 V I.2 J.2 a
  ·simp at a
 case typeAssert x t vv ok=>exact oB (awo (by simpa using cC) a)
 case call c=>
  unfold U5 at a
  split at a
  ·rename_i b args c7
   simp only[Call.operands]at cC
   have Pr:jv S ad av ev args.toList:=cC.mono Zs
   unfold U4 at a
   split at a
   ·rename_i x af
    obtain⟨ba,cj⟩:=xL Pr af
    split at a
    ·rename_i t rest aC
     obtain⟨I,J⟩:=amZ (ty:=type) V aC cj.1 a
     refine⟨?_,J⟩
     simp[resolve,invoke,builtin,ba,b2,I]
    ·simp at a
   ·rename_i x af
    obtain⟨ba,cj⟩:=xL Pr af
    split at a
    ·rename_i t rest aC
     obtain⟨I,J⟩:=amS (S:=S) (ad:=ad) (w:=w) (ty:=type) aC a
     refine⟨?_,J⟩
     simp[resolve,invoke,builtin,ba,b2,I]
    ·simp at a
   ·rename_i x k af
    obtain⟨ba,cj⟩:=xL Pr af
    obtain⟨I,J⟩:=am3 (C:=C) (S:=S) (ad:=ad) (w:=w) k x v a
    refine⟨?_,J cj.1⟩
    simp[resolve,invoke,builtin,Builtin.max_,ba,b2,I]
   ·rename_i x k af
    obtain⟨ba,cj⟩:=xL Pr af
    obtain⟨I,J⟩:=am4 (C:=C) (S:=S) (ad:=ad) (w:=w) k x v a
    refine⟨?_,J cj.1⟩
    simp[resolve,invoke,builtin,Builtin.min_,ba,b2,I]
   ·simp at a
  ·simp at a
def afZ(V:dq C S ad h j bh w){oper:Oper}{av:Operand->Value}{ek:List (Nat×Nat)}{aq:List (Nat×D)}{H:K D}{c:jZ}{v:D}
 (cC:jv S ad av (ji ek aq H) oper.op.operands.toList)(aA:l3 C ek oper.op=some c)(a:gW c C h aq H=some v):MP S ad C.P w (execOp av oper) v:=by
 have rest:∀U,oper.op=U->c= .ig ek U->MP S ad C.P w (execOp av oper) v:=by
  intro U bj EC
  subst EC;subst bj
  exact am0 V cC a
 obtain⟨dst,op,type,pos,after,guard⟩:=oper
 cases op<;>simp only[l3]at aA<;>simp only[Op.operands]at cC
 case move x=>
  split at aA
  ·rename_i f0 af
   simp at aA;subst aA
   simp only[gW,nY af]at a
   obtain⟨I,J⟩:=cC x Zs v a
   exact⟨by simp[execOp,I],J⟩
  ·simp at aA
 case assign x=>
  split at aA
  ·rename_i f0 af
   simp at aA;subst aA
   simp only[gW,nY af]at a
   obtain⟨I,J⟩:=cC x Zs v a
   exact⟨by simp[execOp,I],J⟩
  ·simp at aA
 case pick f5 F b=>
  split at aA
  ·rename_i aCt fV dO TC aC aj
   simp at aA;subst aA
   simp only[gW,nY TC]at a
   split at a
   ·rename_i ac bb
    obtain⟨I,J⟩:=cC f5 Zs ac bb
    unfold QO at a
    split at a
    ·rename_i t
     rw[nY aC,nY aj]at a
     simp only[execOp,I,aQ]
     cases t
     ·obtain⟨am,aB⟩:=cC b Zs v (by simpa using a)
      exact⟨by simp[asBool,am],aB⟩
     ·obtain⟨am,aB⟩:=cC F Zs v (by simpa using a)
      exact⟨by simp[asBool,am],aB⟩
    ·simp at a
   ·simp at a
  ·simp at aA
 case load t F=>
  split at aA
  ·rename_i fV s aC I J
   simp at aA;subst aA
   simp only[gW,nY aC]at a
   split at a
   ·rename_i ac bb
    obtain⟨am,aB⟩:=cC F Zs ac bb
    simp only[execOp,am]
    exact oB (aaZ V I J aB a)
   ·simp at a
  ·rename_i fV aC I
   simp at aA;subst aA
   simp only[gW,nY aC]at a
   split at a
   ·rename_i ac bb
    obtain⟨am,aB⟩:=cC F Zs ac bb
    simp only[execOp,am]
    exact oB (aaY V I aB a)
   ·simp at a
  ·simp at aA
 case fieldAddr s x f=>
  split at aA
  ·rename_i j6 f0 bb af
   rw[qG]at aA
   split at aA
   ·rename_i td ch
    split at aA
    ·rename_i bz cr
     simp only[GK]at aA
     obtain⟨lN,aA⟩:=aA
     simp at aA;subst aA
     simp only[gW,nY af]at a
     split at a
     ·rename_i ac uT
      obtain⟨am,aB⟩:=cC x Zs ac uT
      simp only[execOp,am]
      exact oB (apW bb ch cr (by intro E;subst E;simp at lN) aB a)
     ·simp at a
    ·simp at aA
   ·simp at aA
  ·simp at aA
 case indexAddr t x i=>
  split at aA
  ·rename_i n eg f0 cD bb af aN
   split at aA
   ·rename_i bl cr
    simp at aA;subst aA
    simp only[gW,nY af,nY aN]at a
    split at a
    ·rename_i ac uT
     split at a
     ·rename_i W bK
      split at a
      ·rename_i aU aE
       obtain⟨q,rfl⟩:=Fm aE
       obtain⟨am,aB⟩:=cC x Zs ac uT
       obtain⟨bk,b6⟩:=cC i Zs _ bK
       simp only[execOp,am,bk,aQ]
       exact oB (avN bb cr aB a)
      ·simp at a
     ·simp at a
    ·simp at a
   ·simp at aA
  ·rename_i eg f0 cD bb af aN
   split at aA
   ·rename_i bl cr
    simp at aA;subst aA
    simp only[gW,nY af,nY aN]at a
    split at a
    ·rename_i ac uT
     split at a
     ·rename_i W bK
      split at a
      ·rename_i aU aE
       obtain⟨q,rfl⟩:=Fm aE
       obtain⟨am,aB⟩:=cC x Zs ac uT
       obtain⟨bk,b6⟩:=cC i Zs _ bK
       simp only[execOp,am,bk,aQ]
       exact oB (avQ bb cr aB a)
      ·simp at a
     ·simp at a
    ·simp at a
   ·simp at aA
  ·simp at aA
 case nilCheck x=>
  split at aA
  ·rename_i f0 af
   simp at aA;subst aA
   simp only[gW,nY af]at a
   split at a
   ·rename_i ac bb
    obtain⟨am,aB⟩:=cC x Zs ac bb
    obtain⟨rfl,bk⟩:=aCb (C:=C) (S:=S) (w:=w) aB a
    exact⟨bk _ av x rfl am,aB⟩
   ·simp at a
  ·simp at aA
 case binOp op t x e I9=>
  rw[fA]at aA
  split at aA
  ·split at aA
   ·rename_i f0 aEV af z
    simp at aA;subst aA
    simp only[gW,nY af,nY z]at a
    split at a
    ·rename_i F aC
     split at a
     ·rename_i b aj
      obtain⟨I,J⟩:=cC x Zs F aC
      obtain⟨am,aB⟩:=cC e Zs b aj
      obtain⟨bk,b6,q,i,e5,W,rfl,rfl⟩:=aaW (C:=C) (S:=S) (ad:=ad) (w:=w) t a
      simp only[execOp,I,am]
      refine oB ⟨?_,b6⟩
      rw[Sem.run_bind,NI (by simp[GU])]
      exact bk
     ·simp at a
    ·simp at a
   ·simp at aA
  ·simp at aA;exact rest _ rfl aA.symm
 case extract x i=>
  split at aA
  ·rename_i f0 af
   simp at aA;subst aA
   simp only[gW,nY af]at a
   split at a
   ·rename_i ac bb
    obtain⟨am,aB⟩:=cC x Zs ac bb
    simp only[execOp,am]
    exact oB (aCa aB a)
   ·simp at a
  ·simp at aA
 case convert s d x=>
  rw[fA]at aA
  split at aA
  ·simp at aA;subst aA;simp[gW]at a
  ·simp at aA;exact rest _ rfl aA.symm
 case store t F x=>
  split at aA
  ·simp at aA;subst aA;simp[gW]at a
  ·simp at aA
 case makeMap t r=>cases r<;>simp[l3]at aA<;>subst aA<;>simp[gW]at a
 case call s9=>
  obtain⟨callee,args,c7⟩:=s9
  cases callee with
  |builtin b=>
   cases b<;>simp[l3]at aA<;>first
    |exact rest _ rfl aA.symm
    |(subst aA;simp[gW]at a)
  |value f=>
   cases f<;>simp[l3]at aA
   all_goals first
    |(subst aA;simp[gW]at a;done)
    |(
      split at aA
      ·simp at aA;subst aA;simp[gW]at a
      ·simp at aA)
  |invoke r m=>simp[l3]at aA;subst aA;simp[gW]at a
 all_goals(simp at aA;first|exact rest _ rfl aA.symm|(subst aA;simp[gW]at a))
end
end Go.bd

namespace Go.bd
open Go.RowKit (Below)
def fX{C:aL}{h:K ag}{b:Nat}(U:Option ag)(aj:C.a2<=b)(x:Nat):Y C (bn C h b U) x=if x=b then U else Y C h x:=by
 unfold Y bn
 rw[fA,fA]
 by_cases af:Nat.blt x C.a2=true
 ·have:=lG af
  rw[Zu af,Zu af,Zg Zo]
 ·have pK:C.a2<=x:=by
   rcases zb x C.a2 with a|a
   ·exact absurd (by simp[Nat.blt];omega) af
   ·exact a
  rw[Zg af,Zg af,K.kI]
  show(if b-C.a2=x-C.a2 then U else h.get (x-C.a2))=_
  by_cases E:x=b
  ·rw[Zu Zo,Zu E]
  ·rw[Zg Zo,Zg E];rfl
def aec{C:aL}:∀(k:List Nat) (h:K ag) (x:Nat),(∀b∈k,C.a2<=b)->Y C (qE C k h) x=if x∈k then none else Y C h x:=by
 intro k
 induction k with
 |nil=>intro h x _;simp[qE]
 |cons b k al=>
  intro h x a
  simp only[qE]
  rw[al _ _ (λc aA=>a c (by simp[aA])),fX _ (a b Zs)]
  by_cases af:x∈k
  ·simp[af]
  ·by_cases E:x=b
   ·simp[E]
   ·simp[af,E]
def gs(S:c9)(b:Nat)(pl:mR):c9:=λx=>if x=b then pl else S x
def add(ad:Nat->Prop)(b:Nat):Nat->Prop:=λx=>ad x\/x=b
structure iG(C:aL)(di:Nat)(S:c9)(ad:Nat->Prop)(h:K ag)(bh:Nat)(w:World)(dd:c9)(dC:Nat->Prop)(T:K ag)(b1:World):Prop where
 iW:∀b,ad b->dd b=S b
 jP:∀b,ad b->dC b
 new:∀b,dC b->ad b\/di<=b
 ab:∀b,¬ad b->b<di->Y C T b=Y C h b
 below:Below bh w b1
def iG.refl{C:aL}{di:Nat}{S:c9}{ad:Nat->Prop}{h:K ag}{bh:Nat}{w:World}:iG C di S ad h bh w S ad h w:=
 ⟨λ_ _=>rfl,λ_ a=>a,λ_ a=> .inl a,λ_ _ _=>rfl, .refl _ _⟩
def iG.trans{C:aL}{di LM:Nat}{S dd aiB:c9}{ad dC WX:Nat->Prop}{h T aaK:K ag}{bh:Nat}{w b1 aic:World}(a:iG C di S ad h bh w dd dC T b1)(az:di<=LM)
 (q:iG C LM dd dC T bh b1 aiB WX aaK aic):iG C di S ad h bh w aiB WX aaK aic:=
 ⟨λb aj=>(q.iW b (a.jP b aj)).trans (a.iW b aj),λb aj=>q.jP b (a.jP b aj),
  λb aj=>(q.new b aj).elim (λaj=>a.new b aj) (λaj=> .inr Zo),
  λb aj hq=>by
   have aE:¬dC b:=λaH=>(a.new b aH).elim aj (λah=>Zo)
   rw[q.ab b aE Zo,a.ab b aj hq],
  a.below.trans q.below⟩
section
variable{C:aL}{S dd:c9}{ad dC:Nat->Prop}{h T:K ag}{j an bh:Nat}{w b1:World}
def q0(dL:∀b,ad b->dd b=S b){v:D}(g:ck ad v):aQ dd v=aQ S v:=R1 dL v g
def Al(dL:∀b,ad b->dd b=S b){k:List D}(g:ep ad k):b2 dd k=b2 S k:=GM dL k g
def jw.ab{n ao:Nat}{H:K D}{tmps:Array Value}(dL:∀b,ad b->dd b=S b)(gF:∀b,ad b->dC b)(a:jw S ad n ao H tmps):jw dd dC n ao H tmps:=
 ⟨a.size,λt v az bD=>by
  obtain⟨I,J⟩:=a.val t v az bD
  exact⟨by rw[I,q0 dL J],pz gF v J⟩⟩
def RT(dL:∀b,ad b->dd b=S b){d:hI}(g:x5 ad d):l2 dd d=l2 S d:=by
 obtain⟨t,cv⟩:=d
 obtain⟨b3,b7⟩:=g
 simp only[l2,Al dL b7]
 congr 1
 cases t with
 |fn fn cs=>
  obtain⟨I,J⟩:=b3
  have E:nr dd fn=nr S fn:=by
   cases fn<;>simp only[nr]
   rw[dL _ I]
  simp only[D3,E,Al dL J]
 |collected r=>simp only[D3,dL r b3]
def acW(gF:∀b,ad b->dC b){d:hI}(g:x5 ad d):x5 dC d:=by
 obtain⟨t,cv⟩:=d
 refine⟨?_,r8 gF _ g.2⟩
 cases t with
 |fn fn cs=>exact⟨by cases fn<;>first|exact gF _ g.1.1|exact g.1.1,r8 gF _ g.1.2⟩
 |collected r=>exact gF _ g.1
def kk.ab{U:ag}{pl:mR}(dL:∀b,ad b->dd b=S b)(gF:∀b,ad b->dC b)(bt:b1.heap[pl.cH]? =w.heap[pl.cH]?)(a:kk C S ad U pl w):kk C dd dC U pl b1:=by
 cases U with
 |cells c n st=>
  obtain⟨cm,ty,b0,aN,I,J,am,aB⟩:=a
  refine⟨cm,ty,b0,aN,by rw[bt,I],J,am,λi v bD=> ?_⟩
  obtain⟨bk,b6⟩:=aB i v bD
  exact⟨by rw[bk,q0 dL b6],pz gF v b6⟩
 |map bH eR=>
  obtain⟨cm,I,J,am⟩:=a
  refine⟨cm,by rw[bt,I], ?_,λE bs=>⟨pz gF _ (am E bs).1,pz gF _ (am E bs).2⟩⟩
  rw[J]
  apply YF
  intro E bs
  simp only[l7,q0 dL (am E bs).1,q0 dL (am E bs).2]
 |look bH=>
  obtain⟨cm,eR,j5,I,J,aB,am⟩:=a
  refine⟨cm,eR,j5,by rw[bt,I], ?_,aB,λE bs=>⟨pz gF _ (am E bs).1,pz gF _ (am E bs).2⟩⟩
  rw[J]
  apply YF
  intro E bs
  simp only[l7,q0 dL (am E bs).1,q0 dL (am E bs).2]
 |pb s pos=>exact⟨a.1,by rw[bt,a.2.1],a.2.2⟩
 |Bk m wY seen st=>
  obtain⟨aS,I,J⟩:=a
  refine⟨aS, ?_,λb aj=>gF b (J b aj)⟩
  rw[bt,I]
  cases m with
  |none=>rfl
  |some m=>simp only[ZU,dL m (J m rfl)]
 |Im m wY n cp st nV=>
  obtain⟨aS,I,seen,J,am⟩:=a
  exact⟨aS,gF m I,seen,by rw[bt,J,dL m I],am⟩
 |loop state pending fn n ao H params assign body bc=>
  obtain⟨tmps,I,J,am,aB⟩:=a
  exact⟨tmps,by rw[bt,I,dL bc am],J.ab dL gF,gF _ am,aB⟩
 |deferred qk=>
  obtain⟨I,J⟩:=a
  refine⟨?_,λk az d aH=>acW gF (J k az d aH)⟩
  rw[bt,I]
  cases qk with
  |none=>rfl
  |some k=>
   simp only[ZU]
   congr 3
   exact YF λd aH=>(RT dL (J k rfl d aH)).symm
def kk.lt{U:ag}{pl:mR}(a:kk C S ad U pl w):pl.cH<w.heap.size:=by
 have:∃x,w.heap[pl.cH]? =some x:=by
  cases U with
  |cells c n st=>obtain⟨cm,ty,b0,aN,I,_⟩:=a;exact⟨_,I⟩
  |map bH eR=>obtain⟨cm,I,_⟩:=a;exact⟨_,I⟩
  |look bH=>obtain⟨cm,eR,j5,I,_⟩:=a;exact⟨_,I⟩
  |pb s pos=>exact⟨_,a.2.1⟩
  |Bk m wY seen st=>exact⟨_,a.2.1⟩
  |Im m wY n cp st nV=>obtain⟨_,_,seen,I,_⟩:=a;exact⟨_,I⟩
  |loop state pending fn n ao H params assign body bc=>obtain⟨tmps,I,_⟩:=a;exact⟨_,I⟩
  |deferred qk=>exact⟨_,a.1⟩
 obtain⟨x,af⟩:=this
 exact(ZN.1 af).1
def dq.alloc(V:dq C S ad h j bh w){b:Nat}{pl:mR}{cY:ag}{U:Obj}(aj:C.a2<=b)(c2:b<an)(aeE:j<=an)(aE:¬ad b)(er:bh<=w.heap.size)(oW:pl.cH=w.heap.size)
 (gY:Y C T b=some cY)(Ot:∀x,x≠b->Y C T x=Y C h x\/Y C T x=none)(bj:kk C (gs S b pl) (add ad b) cY pl (w.alloc U))(uQ:xG C (add ad b) cY):
 dq C (gs S b pl) (add ad b) T an bh (w.alloc U):=by
 have dL:∀x,ad x->gs S b pl x=S x:=λx af=>by
  unfold gs;rw[Zg];intro E;subst E;exact aE af
 have jB:gs S b pl b=pl:=by unfold gs;rw[Zu rfl]
 have Ui:∀q,q<w.heap.size->(w.alloc U).heap[q]? =w.heap[q]? :=λq aD=>Below.heap_alloc _ _ _ aD
 have key:∀x dt,Y C T x=some dt->add ad b x->x≠b->Y C h x=some dt/\ad x/\(S x).cH<w.heap.size:=by
  intro x dt af aH c8
  have tk:ad x:=aH.resolve_right c8
  rcases Ot x c8 with a|a
  ·have:Y C h x=some dt:=by rw[<-a,af]
   exact⟨this,tk,(V.obj x dt this tk).lt⟩
  ·rw[a]at af;cases af
 refine⟨ZB V.a2 aeE, ?_, ?_, ?_, ?_, ?_, ?_⟩
 ·intro x af
  rcases af with af|af
  ·have:=V.lt x af;omega
  ·omega
 ·intro x dt af
  by_cases E:x=b
  ·omega
  ·rcases Ot x E with a|a
   ·have:=V.wN x dt (by rw[<-a,af]);omega
   ·rw[a]at af;cases af
 ·intro x dt af aH
  by_cases E:x=b
  ·subst E
   rw[gY]at af;cases af
   rw[jB];exact bj
  ·obtain⟨I,J,am⟩:=key x dt af aH E
   rw[dL x J]
   exact(V.obj x dt I J).ab dL (λ_ a=> .inl a) (Ui _ am)
 ·intro x e dt qK af z dE pu c8 kY e2
  by_cases E:x=b
  ·subst E
   by_cases cn:e=x
   ·exact absurd cn.symm c8
   ·obtain⟨I,J,am⟩:=key e qK z pu cn
    rw[jB,dL e J]at e2
    omega
  ·obtain⟨I,J,am⟩:=key x dt af dE E
   by_cases cn:e=b
   ·subst cn
    rw[jB,dL x J]at e2
    omega
   ·obtain⟨aB,bk,b6⟩:=key e qK z pu cn
    rw[dL x J,dL e bk]at e2 ⊢
    exact V.sep x e dt qK I aB J bk c8 kY e2
 ·intro x dt kY af aH
  by_cases E:x=b
  ·subst E;rw[jB];omega
  ·obtain⟨I,J,am⟩:=key x dt af aH E
   rw[dL x J]
   exact V.base x dt kY I J
 ·intro x dt af aH
  by_cases E:x=b
  ·subst E;rw[gY]at af;cases af;exact uQ
  ·obtain⟨I,J,am⟩:=key x dt af aH E
   refine⟨λc n k az e z=> ?_,(V.fv x dt I J).2⟩
   obtain⟨b3,b7⟩:=(V.fv x dt I J).1 c n k az e z
   exact⟨.inl b3,b7⟩
def dq.acu(V:dq C S ad h j bh w)(gY:∀x,Y C T x=Y C h x\/Y C T x=none):dq C S ad T j bh w:=by
 have key:∀x dt,Y C T x=some dt->Y C h x=some dt:=by
  intro x dt af
  rcases gY x with a|a
  ·rw[<-a,af]
  ·rw[a]at af;cases af
 exact⟨V.a2,V.lt,λx dt af=>V.wN x dt (key x dt af),λx dt af aH=>V.obj x dt (key x dt af) aH,
  λx e dt qK af z dE pu c8 kY e2=>V.sep x e dt qK (key x dt af) (key e qK z) dE pu c8 kY e2,λx dt kY af aH=>V.base x dt kY (key x dt af) aH,λx dt af aH=>V.fv x dt (key x dt af) aH⟩
def dq.put(V:dq C S ad h j bh w){b:Nat}{cY o7:ag}(aj:C.a2<=b)(aH:ad b)(hP:Y C h b=some cY)(gY:Y C T b=some o7)
 (Ot:∀x,x≠b->Y C T x=Y C h x\/Y C T x=none)(bt:∀q,q≠(S b).cH->b1.heap[q]? =w.heap[q]?)
 (mf:∀x dt,x≠b->Y C T x=some dt->ad x->(S x).cH=(S b).cH->False)(bj:kk C S ad o7 (S b) b1)(uQ:xG C ad o7):dq C S ad T j bh b1:=by
 have key:∀x dt,x≠b->Y C T x=some dt->Y C h x=some dt:=by
  intro x dt c8 af
  rcases Ot x c8 with a|a
  ·rw[<-a,af]
  ·rw[a]at af;cases af
 refine⟨V.a2,V.lt, ?_, ?_, ?_, ?_, ?_⟩
 ·intro x dt af
  by_cases E:x=b
  ·subst E;exact V.lt x aH
  ·exact V.wN x dt (key x dt E af)
 ·intro x dt af dE
  by_cases E:x=b
  ·subst E;rw[gY]at af;cases af;exact bj
  ·exact(V.obj x dt (key x dt E af) dE).ab (λ_ _=>rfl) (λ_ a=>a) (bt _ λah=>mf x dt E af dE ah)
 ·intro x e dt qK af z dE pu c8 kY e2
  by_cases E:x=b
  ·subst E
   exact(mf e qK (λah=>c8 ah.symm) z pu e2.symm).elim
  ·by_cases cn:e=b
   ·subst cn;exact(mf x dt E af dE e2).elim
   ·exact V.sep x e dt qK (key x dt E af) (key e qK cn z) dE pu c8 kY e2
 ·intro x dt kY af dE
  by_cases E:x=b
  ·subst E;exact V.base x cY kY hP aH
  ·exact V.base x dt kY (key x dt E af) dE
 ·intro x dt af dE
  by_cases E:x=b
  ·subst E;rw[gY]at af;cases af;exact uQ
  ·exact V.fv x dt (key x dt E af) dE
def MO(U:ag):Prop:=(∀c n,U≠ .cells c n .ki)/\(∀c n k,U≠ .cells c n (.grow k))
def dq.alone(V:dq C S ad h j bh w){b:Nat}{cY:ag}(aj:C.a2<=b)(aH:ad b)(hP:Y C h b=some cY)(aC:MO cY):
 ∀x dt,x≠b->Y C h x=some dt->ad x->(S x).cH=(S b).cH->False:=by
 intro x dt c8 af dE e2
 rcases(V.sep b x cY dt hP af aH dE (λah=>c8 ah.symm) aj e2.symm).1 with ⟨c,n,_,_,ah,_⟩|⟨c,n,k,_,_,ah,_⟩|⟨_,_,_,c,n,_,ah,_⟩
 ·exact aC.1 _ _ ah
 ·exact aC.2 _ _ _ ah
 ·exact aC.1 _ _ ah
end
end Go.bd

namespace Go.bd
open Go.RowKit (Below)
section
variable{C:aL}{S dd:c9}{ad dC:Nat->Prop}{h T:K ag}{j an bh:Nat}{w b1:World}
def v2(w:World)(U:Obj):(w.alloc U).heap[w.heap.size]? =some U:=by
 show(w.heap.push U)[w.heap.size]? =_
 simp
def lE(S:c9)(b:Nat)(pl:mR):gs S b pl b=pl:=by unfold gs;rw[Zu rfl]
def rL{b:Nat}{pl:mR}(aE:¬ad b):∀x,ad x->gs S b pl x=S x:=λx af=>by
 unfold gs;rw[Zg];intro E;subst E;exact aE af
def j4(S:c9)(k:List D):(b2 S k).length=k.length:=by rw[ql,Zn]
def Cb(S:c9)(k:List D)(i:Nat):(b2 S k)[i]? =(k[i]?).map (aQ S):=by rw[ql,Zy]
def D6(S:c9)(F b:List D):b2 S (F++b)=b2 S F++b2 S b:=by simp[ql]
def Cn{F b:List D}(aC:ep ad F)(aj:ep ad b):ep ad (F++b):=by
 rw[vN]at*
 intro v bD
 rcases Zz.1 bD with a|a
 ·exact aC v a
 ·exact aj v a
def Co{k:List D}(a:ep ad k){i:Nat}{v:D}(bD:k[i]? =some v):ck ad v:=(vN ad k).1 a v (Zj bD)
def k4(k:List D)(i:Nat):(K.ofList k 0 .nil).get i=k[i]? :=by
 rw[K.N0]
 split
 ·simp
 ·rename_i a
  have:k.length<=i:=Zo
  rw[ZQ this];rfl
def Nn{k:List D}(g:ep ad k)(ty:TypeId)(r:Nat)(w:World):kk C S ad (.cells (K.ofList k 0 .nil) k.length .own) ⟨w.heap.size,0,r⟩ (w.alloc (.cells (b2 S k).toArray ty)):=by
 refine⟨_,ty,0,0,v2 _ _,rfl,by simp[j4],λi v bD=> ?_⟩
 rw[k4]at bD
 refine⟨?_,Co g bD⟩
 simp only[ZS,List.getElem?_toArray,Cb,bD,ZU]
def FI(n:Nat)(bz:List D):(k7 n bz).length=n*bz.length:=by
 induction n with
 |zero=>simp[k7]
 |succ n al=>simp[k7,al,Nat.succ_mul,Nat.add_comm]
def azk(bz:List D):∀(n i:Nat),i<n*bz.length->(k7 n bz)[i]? =bz[i%bz.length]? :=by
 intro n
 induction n with
 |zero=>intro i a;omega
 |succ n al=>
  intro i a
  simp only[k7]
  rw[Nat.succ_mul]at a
  by_cases aN:i<bz.length
  ·rw[Z5 aN,YH aN]
  ·rw[ZX Zo,al _ Zo]
   congr 1
   exact(Nat.mod_eq_sub_mod Zo).symm
def SW{bz:List D}(a:ep ad bz):∀n,ep ad (k7 n bz):=by
 intro n
 induction n with
 |zero=>trivial
 |succ n al=>exact Cn a al
def ahl(S:c9)(bz:List D)(n:Nat):((Array.range (n*bz.length)).map λi=>(b2 S bz).toArray[i%bz.length]!)=(b2 S (k7 n bz)).toArray:=by
 apply YZ
 rw[Array.toList_map,Array.toList_range]
 show _=b2 S (k7 n bz)
 apply YL
 intro i
 rw[Zy,Cb]
 by_cases aN:i<n*bz.length
 ·rw[List.getElem?_range aN,azk bz n i aN]
  have cr:0<bz.length:=by
   rcases Nat.eq_zero_or_pos bz.length with a|a
   ·rw[a]at aN;omega
   ·exact a
  have bp:i%bz.length<bz.length:=Nat.mod_lt _ cr
  simp only[ZU]
  rw[Ze bp]
  simp only[ZU,Zf]
  rw[getElem!_pos _ _ (by simpa[j4]using bp)]
  simp[ql]
 ·have I:(List.range (n*bz.length))[i]? =none:=ZQ (by simp;omega)
  have J:(k7 n bz)[i]? =none:=ZQ (by rw[FI];omega)
  rw[I,J];rfl
def ahm(S:c9)(bz:List D)(s n:Nat)(cr:bz.length=s)(zero:Array Value)(aS:n*s≠0->zero=(b2 S bz).toArray):
 ((Array.range (n*s)).map (zero[·%zero.size]!))=(b2 S (k7 n bz)).toArray:=by
 subst cr
 by_cases a:n*bz.length=0
 ·have I:k7 n bz=[]:=List.length_eq_zero_iff.1 (by rw[FI];exact a)
  rw[a,I];simp[b2]
 ·rw[aS a, <-ahl]
  simp[j4]
def agc{oper:Oper}{av:Operand->Value}{ev:Operand->Option D}{b:Nat}{v:D}{cY:ag}(aE:¬ad b)(cC:jv S ad av ev oper.op.operands.toList)
 (a:qW oper.op C ev b=some (v,cY)):∃U,(execOp av oper).run C.P w= .ok (.value (aQ (gs S b ⟨w.heap.size,0,0⟩) v)) (w.alloc U)/\ck (add ad b) v/\
  kk C (gs S b ⟨w.heap.size,0,0⟩) (add ad b) cY ⟨w.heap.size,0,0⟩ (w.alloc U):=by
 have dL:=rL (S:=S) (pl:=⟨w.heap.size,0,0⟩) aE
 have gF:∀x,ad x->add ad b x:=λ_ a=> .inl a
 obtain⟨dst,op,type,pos,after,guard⟩:=oper
 cases op<;>simp only[qW]at a<;>(try(cases a;done))<;>simp only[execOp]<;>simp only[Op.operands]at cC
 case alloc t=>
  unfold Fi at a
  split at a
  ·rename_i bz cr
   simp at a;obtain⟨rfl,rfl⟩:=a
   obtain⟨f1,fD⟩:=FJ cr S ad w
   refine⟨.cells (b2 S bz.cells).toArray t, ?_, .inr rfl, ?_⟩
   ·simp[Instr.alloc,f1,newVar,newRow,vz,aQ,lE]
   ·have:=Nn (C:=C) (S:=gs S b ⟨w.heap.size,0,0⟩) (ad:=add ad b) (r8 gF _ (vA fD)) t 0 w
    rw[Al dL (vA fD)]at this
    exact this
  ·simp at a
 case box t x=>
  unfold LN at a
  split at a
  ·rename_i ac bb
   simp at a;obtain⟨rfl,rfl⟩:=a
   obtain⟨I,J⟩:=cC x Zs ac bb
   refine⟨.cells (b2 S ac.cells).toArray t, ?_, .inr rfl, ?_⟩
   ·simp[Instr.box,newVar,newRow,I,vz,aQ,lE]
   ·have:=Nn (C:=C) (S:=gs S b ⟨w.heap.size,0,0⟩) (ad:=add ad b) (r8 gF _ (vA J)) t 0 w
    rw[Al dL (vA J)]at this
    exact this
  ·simp at a
 case buildSlice t len kh=>
  unfold LO at a
  split at a
  ·rename_i eg dr bb Uo
   split at a
   ·rename_i s bz aF cr
    simp only[e1,Zp]at a
    obtain⟨⟨I,J⟩,a⟩:=a
    have I:len*s<=16777216:=jx I
    have J:bz.cells.length=s:=Zl J
    split at a
    ·rename_i cs ia
     simp at a;obtain⟨rfl,rfl⟩:=a
     obtain⟨f1,fD⟩:=FJ cr S ad w
     obtain⟨fG,hD⟩:=ack (by simpa using cC) Uo
     obtain⟨eM,eV⟩:=Sv (S:=S) (L6:=λi=>some (i*s,s)) (λ_ _ a=>a) dr (k7 len bz.cells) cs (SW (vA fD) len) hD ia
     refine⟨.cells (b2 S cs).toArray eg, ?_, .inr rfl, ?_⟩
     ·have E:(kh.map λx=>(x.1,av x.2)).toList=dr.map λx=>(x.1,aQ S x.2):=by rw[<-fG];simp
      have fO:¬(len*s>2^24):=by
       have:(2:Nat)^24=16777216:=by decide
       omega
      have ch:Instr.fill (λi=>some (i*s,s)) ((Array.range (len*s)).map ((if len*s=0 then #[]else(aQ S bz).cells)[·%(if len*s=0 then #[]else(aQ S bz).cells).size]!)) (kh.map λx=>(x.1,av x.2)).toList=some (b2 S cs).toArray:=by
       rw[ahm S bz.cells s len J _ (λc8=>by rw[Zg c8,vz]),E]
       exact eM
      simp only[Instr.buildSlice,Sem.run_bind,run_underlying bb,Result.andThen_ok,p3 aF]
      rw[Zg fO]
      by_cases aS:len*s=0
      ·rw[Zu aS]at ch
       simp only[Zu aS,Sem.run_bind,Sem.run_pure,Result.andThen_ok,ch]
       simp[newRow,aQ,lE]
      ·simp only[Zg aS]at ch
       simp only[Zg aS,Sem.run_bind,Sem.run_pure,Result.andThen_ok,f1,ch]
       simp[newRow,aQ,lE]
     ·have:=Nn (C:=C) (S:=gs S b ⟨w.heap.size,0,0⟩) (ad:=add ad b) (r8 gF _ eV) eg 0 w
      rw[Al dL eV]at this
      exact this
    ·simp at a
   ·simp at a
  ·simp at a
 case makeMap t r=>
  cases r with
  |some r=>simp[qW]at a
  |none=>
   simp[qW]at a;obtain⟨rfl,rfl⟩:=a
   refine⟨.map #[] 0, ?_, .inr rfl, ?_⟩
   ·simp[Instr.makeMap,aQ,lE]
   ·exact⟨#[],v2 _ _,rfl,Zs⟩
end
end Go.bd

namespace Go.bd
open Go.RowKit (Below)
section
variable{C:aL}{S dd:c9}{ad dC:Nat->Prop}{h T:K ag}{j an bh:Nat}{w b1:World}
def la:Array Value->Nat->List Value->Array Value
 |c,_,[]=>c
 |c,U,v::k=>la (c.setIfInBounds U v) (U+1) k
def yP:∀(k:List Value) (c:Array Value) (U:Nat),(la c U k).size=c.size:=by
 intro k
 induction k with
 |nil=>intro c U;rfl
 |cons v k al=>intro c U;simp[la,al]
def Wd:∀(k:List Value) (c:Array Value) (U i:Nat),U+k.length<=c.size->(la c U k)[i]? =if U<=i/\i<U+k.length then k[i-U]? else c[i]? :=by
 intro k
 induction k with
 |nil=>intro c U i _;rw[Zg (by simp only[ZT];omega)];rfl
 |cons v k al=>
  intro c U i a
  simp only[ZD]at a
  simp only[la]
  rw[al _ _ _ (by simp;omega)]
  by_cases E:i=U
  ·subst E
   rw[Zg Zo,Zu Zs]
   have c2:i<c.size:=Zo
   simp[c2]
  ·by_cases ah:U+1<=i/\i<U+1+k.length
   ·rw[Zu ah,Zu (by simp;omega),show i-U=(i-(U+1))+1 by omega,ZM]
   ·rw[Zg ah,Zg (by simp only[ZD];omega),Array.getElem?_setIfInBounds_ne (λa=>E a.symm)]
def V6(P:Program)(g U:Nat)(t:TypeId)(b0 aN:Nat):∀(a8:List Value) (i:Nat) (nV:Array Value) (w:World),w.heap[g]? =some (.cells nV t (b0,aN))->(aN<=b0\/nV.size<=b0)->
 U+i+a8.length<=nV.size->(∀v∈a8,v.oneCell'=true)->(storeCells ⟨g,U,none⟩ a8 i).run P w= .ok () (w.setRow g (la nV (U+i) a8)):=by
 intro a8
 induction a8 with
 |nil=>
  intro i nV w bU _ _ _
  simp only[storeCells,la]
  rw[setRow_self w g nV t _ bU];rfl
 |cons v a8 al=>
  intro i nV w bU ch az I
  simp only[ZD]at az
  have c2:U+i<nV.size:=Zo
  have KD:(⟨g,U,none⟩:Addr).add i=⟨g,U+i,none⟩:=rZ _ _ _
  have tj:w.cell? ⟨g,U+i,none⟩=some nV[U+i]:=by simp[World.cell?,bU,c2]
  have as8:w.frozen? ⟨g,U+i,none⟩=false:=by
   simp only[World.frozen?,bU,Bool.and_eq_false_iff,Zb]
   omega
  have dm:(store ((⟨g,U,none⟩:Addr).add i) v).run P w= .ok () (w.setRow g (nV.setIfInBounds (U+i) v)):=by
   rw[KD,run_store P w _ v _ (I v Zs),tj]
   simp[as8,setCell_eq_setRow w g (U+i) nV t _ v bU]
  have:=al (i+1) (nV.setIfInBounds (U+i) v) (w.setRow g (nV.setIfInBounds (U+i) v)) (setRow_heap w g nV _ t _ bU) (by simpa using ch) (by simp;omega) (λx af=>I x (by simp[af]))
  simp only[storeCells,Sem.run_bind,dm,Result.andThen_ok,this,setRow_setRow,la]
  rfl
def RL{p:Nat}(er:bh<=p)(cs:Array Value)(w:World):Below bh w (w.setRow p cs):=
 ⟨rfl,rfl,rfl,by simp[World.setRow],λq aD=>setRow_other w p q cs Zo⟩
def agG:∀{a8:List D},jH a8=true->∀v∈b2 S a8,v.oneCell'=true:=by
 intro a8
 induction a8 with
 |nil=>intro _ v bD;simp[b2]at bD
 |cons F k al=>
  intro a v bD
  simp only[jH,Zp]at a
  simp only[b2,Zr]at bD
  rcases bD with rfl|bD
  ·cases F<;>simp[qJ]at a<;>rfl
  ·exact al a.2 v bD
def aiq{c:K D}{cm:Array Value}{ec U n:Nat}{a8:List D}(bU:ep ad a8)(bj:U+a8.length<=n)(aE:ec+n<=cm.size)
 (a:∀i v,c.get i=some v->cm[ec+i]? =some (aQ S v)/\ck ad v):
 ∀i v,(dN c U a8).get i=some v->(la cm (ec+U) (b2 S a8))[ec+i]? =some (aQ S v)/\ck ad v:=by
 intro i v bD
 rw[WL,K.N0]at bD
 rw[Wd _ _ _ _ (by rw[j4];omega),j4]
 split at bD
 ·rename_i aN
  rw[Zu Zo,Cb,show ec+i-(ec+U)=i-U by omega,bD]
  exact⟨rfl,Co bU bD⟩
 ·rename_i aN
  rw[Zg Zo]
  exact a i v bD
def QL{c:K D}{U n:Nat}{a8:List D}(bj:U+a8.length<=n)(a:∀i v,c.get i=some v->i<n):∀i v,(dN c U a8).get i=some v->i<n:=by
 intro i v bD
 rw[WL,K.N0]at bD
 split at bD
 ·omega
 ·exact a i v bD
def Iz{k:List D}:∀i v,(K.ofList k 0 .nil).get i=some v->i<k.length:=by
 intro i v bD
 rw[k4]at bD
 exact(Zc.1 bD).1
def RC(V:dq C S ad h j bh w){di b U:Nat}{a8:List D}(aH:ad b)(bU:ep ad a8)(a:xK C h b U a8=some T):
 ∃b1,(storeCells ⟨(S b).cH,(S b).ec+U,none⟩ (b2 S a8)).run C.P w= .ok () b1/\dq C S ad T j bh b1/\iG C di S ad h bh w S ad T b1:=by
 unfold xK at a
 split at a
 ·rename_i c n st bj
  simp only[e1,Zp]at a
  obtain⟨⟨⟨I,J⟩,am⟩,a⟩:=a
  have I:U+a8.length<=n:=jx I
  have aj:C.a2<=b:=jx J
  obtain⟨cm,ty,b0,aN,ba,cj,a3,a4⟩:=V.obj b _ bj aH
  have kK:st≠ .ki:=λE=>(by subst E;simp at a)
  refine⟨w.setRow (S b).cH (la cm ((S b).ec+U) (b2 S a8)), ?_, ?_⟩
  ·exact V6 C.P _ _ ty b0 aN (b2 S a8) 0 cm w ba (cj.free kK) (by rw[j4];omega) (agG am)
  have e3:=setRow_heap w (S b).cH cm (la cm ((S b).ec+U) (b2 S a8)) ty (b0,aN) ba
  have Cw:=V.base b _ aj bj aH
  have KF:Below bh w (w.setRow (S b).cH (la cm ((S b).ec+U) (b2 S a8))):=RL Cw _ _
  have aeG:∀q,q≠(S b).cH->(w.setRow (S b).cH (la cm ((S b).ec+U) (b2 S a8))).heap[q]? =w.heap[q]? :=λq aD=>setRow_other w _ q _ aD
  have fin:∀ii,Gl ii n (S b) cm.size b0 aN->kk C S ad (.cells (dN c U a8) n ii) (S b) (w.setRow (S b).cH (la cm ((S b).ec+U) (b2 S a8))):=by
   intro ii dm
   refine⟨_,ty,b0,aN,e3,by rw[yP];exact dm,by rw[yP];exact a3,aiq bU I a3 a4⟩
  have plain:∀ii,MO (.cells c n st)->Gl ii n (S b) cm.size b0 aN->(∀k,ii≠ .grow k)->T=bn C h b (some (.cells (dN c U a8) n ii))->
   dq C S ad T j bh (w.setRow (S b).cH (la cm ((S b).ec+U) (b2 S a8)))/\iG C di S ad h bh w S ad T (w.setRow (S b).cH (la cm ((S b).ec+U) (b2 S a8))):=by
   intro ii kJ dm EQ gY
   subst gY
   have pH:Y C (bn C h b (some (.cells (dN c U a8) n ii))) b=some (.cells (dN c U a8) n ii):=by rw[fX _ aj,Zu rfl]
   have jU:∀x,x≠b->Y C (bn C h b (some (.cells (dN c U a8) n ii))) x=Y C h x:=λx af=>by rw[fX _ aj,Zg af]
   refine⟨V.put aj aH bj pH (λx af=> .inl (jU x af)) aeG ?_ (fin ii dm) ⟨λf5 aU k az=>(by cases az;exact absurd rfl (EQ _)),λf5 aU aAx az=>(by cases az;exact QL I ((V.fv b _ bj aH).2 _ _ _ rfl))⟩, ?_⟩
   ·intro x dt c8 af dE e2
    rw[jU x c8]at af
    exact V.alone aj aH bj kJ x dt c8 af dE e2
   ·exact⟨λ_ _=>rfl,λ_ a=>a,λ_ a=> .inl a,λx af _=>jU x (λE=>af (E▸aH)),KF⟩
  cases st with
  |own=>
   simp only[hk,Zf]at a
   exact plain .own ⟨Zs,Zs⟩ cj Zs a.symm
  |marked=>
   simp only[hk,Zf]at a
   exact plain .marked ⟨Zs,Zs⟩ cj Zs a.symm
  |grow fv=>
   simp only[hk,Zf]at a
   have uQ:=(V.fv b _ bj aH).1 _ _ _ rfl
   subst a
   have pH:Y C (bn C (qE C fv h) b (some (.cells (dN c U a8) n (.grow [])))) b=some (.cells (dN c U a8) n (.grow [])):=by rw[fX _ aj,Zu rfl]
   have jU:∀x,x≠b->Y C (bn C (qE C fv h) b (some (.cells (dN c U a8) n (.grow [])))) x=if x∈fv then none else Y C h x:=λx af=>by
    rw[fX _ aj,Zg af,aec _ _ _ λe z=>(uQ e z).2]
   refine⟨V.put aj aH bj pH (λx af=> ?_) aeG ?_ (fin (.grow []) cj) ⟨λf5 aU k az=>(by cases az;simp),λf5 aU aAx az=>(by cases az;exact QL I ((V.fv b _ bj aH).2 _ _ _ rfl))⟩, ?_⟩
   ·rw[jU x af];split
    ·exact .inr rfl
    ·exact .inl rfl
   ·intro x dt c8 af dE e2
    rw[jU x c8]at af
    split at af
    ·cases af
    ·rename_i Uc
     rcases(V.sep b x _ dt bj af aH dE (λah=>c8 ah.symm) aj e2.symm).1 with ⟨_,_,_,_,ah,_⟩|⟨_,_,k,_,_,ah,_,az,_⟩|⟨_,_,_,_,_,_,ah,_⟩
     ·cases ah
     ·cases ah;exact Uc az
     ·cases ah
   ·exact⟨λ_ _=>rfl,λ_ a=>a,λ_ a=> .inl a,λx af _=>by
     rw[jU x (λE=>af (E▸aH)),Zg (λbp=>af (uQ x bp).1)],KF⟩
  |ki=>simp at a
 ·simp at a
end
end Go.bd

namespace Go.bd
open Go.RowKit (Below)
def BS(C:aL)(S:c9)(ad:Nat->Prop)(h:K ag)(j bh:Nat)(w:World)(s:Sem Next)(v:D)(T:K ag)(an:Nat):Prop:=
 ∃dd dC b1 n,s.run C.P w= .ok n b1/\(n= .value (aQ dd v)\/(n= .skip/\v=undef))/\ck dC v/\dq C dd dC T an bh b1/\iG C j S ad h bh w dd dC T b1/\j<=an
section
variable{C:aL}{S dd:c9}{ad dC:Nat->Prop}{h T:K ag}{j an bh:Nat}{w b1:World}
def putObj(V:dq C S ad h j bh w){di b:Nat}{cY o7:ag}{kw o':Obj}(aj:C.a2<=b)(aH:ad b)(hP:Y C h b=some cY)(aC:MO cY)(aS:w.heap[(S b).cH]? =some kw)
 (O2:∀c E f,kw≠ .cells c E f)(bj:∀b1:World,b1.heap[(S b).cH]? =some o'->kk C S ad o7 (S b) b1)(uQ:xG C ad o7):
 ∃b1,(Go.setObj (S b).cH o').run C.P w= .ok () b1/\dq C S ad (bn C h b (some o7)) j bh b1/\iG C di S ad h bh w S ad (bn C h b (some o7)) b1:=by
 have oX:(Go.setObj (S b).cH o').run C.P w= .ok () {w with heap:=w.heap.setIfInBounds (S b).cH o'}:=by
  cases kw<;>first
   |exact absurd rfl (O2 _ _ _)
   |simp[Go.setObj,Sem.run,aS]
 obtain⟨bR,cq⟩:=MapKept.heap_set (o':=o') aS
 have pH:Y C (bn C h b (some o7)) b=some o7:=by rw[fX _ aj,Zu rfl]
 have jU:∀x,x≠b->Y C (bn C h b (some o7)) x=Y C h x:=λx af=>by rw[fX _ aj,Zg af]
 have Cw:=V.base b _ aj hP aH
 refine⟨_,oX,V.put aj aH hP pH (λx af=> .inl (jU x af)) (λq aD=>cq q aD) ?_ (bj _ bR) uQ, ?_⟩
 ·intro x dt c8 af dE e2
  rw[jU x c8]at af
  exact V.alone aj aH hP aC x dt c8 af dE e2
 ·exact⟨λ_ _=>rfl,λ_ a=>a,λ_ a=> .inl a,λx af _=>jU x (λE=>af (E▸aH)),rfl,rfl,rfl,Zs,λq aD=>cq q Zo⟩
def We{r:Nat}{U:ag}{v:D}{res:d6}(a:setObj C h j r U v=some res):res= .fs v (bn C h r (some U)) j/\C.a2<=r:=by
 unfold setObj at a
 simp only[hk,e1,Zf]at a
 exact⟨a.2.symm,jx a.1⟩
def ahb(V:dq C S ad h j bh w){di r:Nat}{bH j5:List (D×D×Nat)}{eR JQ:Nat}{Gw:Array MapEntry}(aj:C.a2<=r)(aH:ad r)(bj:Y C h r=some (.map bH eR))
 (aC:Gw.toList=j5.map (l7 S))(bU:∀E∈j5,ck ad E.1/\ck ad E.2.1):
 ∃b1,(Go.setObj (S r).cH (.map Gw JQ)).run C.P w= .ok () b1/\dq C S ad (bn C h r (some (.map j5 JQ))) j bh b1/\iG C di S ad h bh w S ad (bn C h r (some (.map j5 JQ))) b1:=by
 obtain⟨cm,I,_,_⟩:=V.obj r _ bj aH
 exact putObj V aj aH bj ⟨Zs,Zs⟩ I Zs (λb1 qB=>⟨Gw,qB,aC,bU⟩) ⟨λ_ _ _ a=>(by cases a),λ_ _ _ a=>(by cases a)⟩
def aAZ(V:dq C S ad h j bh w){s:Nat}{t:TypeId}{F v:D}{res:d6}(aF:js C t=some s)(hN:ck ad F)(fu:ck ad v)(a:Qv C h j s F v=some res):
 ∃T,res= .fs undef T j/\∀ac:Sem Next,(∀b1,(Instr.storeAt t (aQ S F) (aQ S v)).run C.P w= .ok () b1->ac.run C.P w= .ok .skip b1)->BS C S ad h j bh w ac undef T j:=by
 unfold Qv at a
 split at a
 ·rename_i b U
  simp only[e1,Zp]at a
  obtain⟨⟨I,J⟩,a⟩:=a
  have I:v.cells.length=s:=Zl I
  split at a
  ·rename_i T gY
   simp at a
   obtain⟨b1,bR,cq,cP⟩:=RC V (di:=j) hN (vA fu) gY
   refine⟨T,a.symm,λac bb=>⟨S,ad,b1, .skip,bb b1 ?_, .inr ⟨rfl,rfl⟩,by trivial,cq,cP,Zi _⟩⟩
   have eO:(aQ S v).cells.size=s:=by rw[vz];simp[j4,I]
   simp only[Instr.storeAt,Instr.sureAddr,aQ,Sem.run_bind,Sem.run_pure,Result.andThen_ok,storeVar,p3 aF,eO,ne_eq,not_true_eq_false,ZA]
   simp only[vz]
   exact bR
  ·simp at a
 ·simp at a
def awf:∀(n:Nat),(∀(m:Nat) (x e:D),n<=m->ck ad x->ck ad e->ob n x e=true->Instr.sameBits m (aQ S x) (aQ S e)=true)/\
 ∀(m:Nat) (F b:List D),n<=m->ep ad F->ep ad b->ob.C1 n F b=true->(b2 S F).length=(b2 S b).length/\((b2 S F).zip (b2 S b)).all (λ(x,e)=>Instr.sameBits m x e)=true:=by
 intro n
 induction n with
 |zero=>
  refine⟨λm x e _ _ _ a=>by simp[ob]at a, ?_⟩
  intro m F
  induction F with
  |nil=>intro b _ _ _ a;cases b<;>simp[ob.C1]at a<;>simp[b2]
  |cons x F _=>intro b _ _ _ a;cases b<;>simp[ob.C1,ob]at a
 |succ n al=>
  have one:∀(m:Nat) (x e:D),n+1<=m->ck ad x->ck ad e->ob (n+1) x e=true->Instr.sameBits m (aQ S x) (aQ S e)=true:=by
   intro m x e bp fE vQ a
   obtain⟨m,rfl⟩:∃q,m=q+1:=⟨m-1,Zo⟩
   unfold ob at a
   split at a<;>(try(cases a;done))
   ·simpa[aQ,Instr.sameBits]using a
   ·simp at a;obtain⟨rfl,rfl⟩:=a;simp[aQ,Instr.sameBits]
   ·rename_i F b
    have:=(LW _ _).1 a
    subst this
    simp only[aQ,Instr.sameBits]
    rw[abx];simp
   ·rename_i b U dO o'
    simp only[Zp]at a
    have I:b=dO:=Zl a.1
    have J:U=o':=Zl a.2
    subst I;subst J
    simp[aQ,Instr.sameBits]
   ·simp[aQ,Instr.sameBits]
   ·simp[aQ,Instr.sameBits]
   ·rename_i t v ha gK
    simp only[Zp]at a
    have I:t=ha:=Zl a.1
    subst I
    simp[aQ,Instr.sameBits,al.1 m v gK Zo fE vQ a.2]
   ·rename_i F b
    obtain⟨bR,cq⟩:=al.2 m F b Zo fE vQ a
    simp only[aQ,Instr.sameBits,Zp,Y0]
    exact⟨by simpa using bR,by simpa using cq⟩
  refine⟨one, ?_⟩
  intro m F
  induction F with
  |nil=>intro b _ _ _ a;cases b<;>simp[ob.C1]at a<;>simp[b2]
  |cons x F m2=>
   intro b bp hN py a
   cases b with
   |nil=>simp[ob.C1]at a
   |cons e b=>
    simp only[ob.C1,Zp]at a
    obtain⟨bR,cq⟩:=m2 b bp hN.2 py.2 a.2
    simp only[b2,ZD,List.zip_cons_cons,List.all_cons,Zp]
    exact⟨Zo,one m x e bp hN.1 py.1 a.1,cq⟩
def awg{qI new:D}(go:ck ad qI)(x4:ck ad new)(a:ob 20 qI new=true):(Instr.keyThatStays (aQ S qI) (aQ S new)).run C.P w= .ok (aQ S new) w:=by
 simp[Instr.keyThatStays,(awf (S:=S) (ad:=ad) 20).1 10000 qI new Zd go x4 a]
def acd{cm:Array MapEntry}{bH:List (D×D×Nat)}{i:Nat}{E:D×D×Nat}(aC:cm.toList=bH.map (l7 S))(a:bH[i]? =some E):cm[i]? =some (l7 S E):=by
 rw[<-ZR,aC,Zy,a];rfl
def axo{cm:Array MapEntry}{bH:List (D×D×Nat)}{i:Nat}{E iw:D×D×Nat}(f:MapEntry->MapEntry)(aC:cm.toList=bH.map (l7 S))(a:bH[i]? =some E)
 (ch:f (l7 S E)=l7 S iw):(cm.modify i f).toList=(bH.set i iw).map (l7 S):=by
 apply YL
 intro W
 rw[ZR,Y2,Zy,List.getElem?_set]
 have c2:i<bH.length:=(Zc.1 a).1
 by_cases E:i=W
 ·subst E
  rw[Zu rfl,Zu rfl,Zu c2,acd aC a]
  simp[ch]
 ·rw[Zg E,Zg E, <-ZR,aC,Zy]
def aq2{bH:List (D×D×Nat)}{i:Nat}{iw:D×D×Nat}(bU:∀E∈bH,ck ad E.1/\ck ad E.2.1)(bs:ck ad iw.1/\ck ad iw.2.1):∀E∈bH.set i iw,ck ad E.1/\ck ad E.2.1:=by
 intro E a
 rcases List.mem_or_eq_of_mem_set a with a|a
 ·exact bU E a
 ·rw[a];exact bs
def am2(V:dq C S ad h j bh w){t:Nat}{m q v:D}{res:d6}(vM:ck ad m)(oK:ck ad q)(fu:ck ad v)(a:JC C h j t m q v=some res):
 ∃T b1,res= .fs undef T j/\(Instr.mapUpdate t (aQ S m) (aQ S q) (aQ S v)).run C.P w= .ok () b1/\dq C S ad T j bh b1/\iG C j S ad h bh w S ad T b1:=by
 unfold JC at a
 split at a
 ·rename_i jV Cg r bb
  split at a
  ·rename_i bH eR bj
   simp only[e1]at a
   obtain⟨aD,a⟩:=a
   obtain⟨ff,OR⟩:=afE aD
   obtain⟨cm,ba,cj,a3,a4⟩:=LP V vM bj
   have I:=aaX (C:=C) (S:=S) (ad:=ad) (w:=w) (E:=false) 20 10000 jV q Zd oK aD
   split at a
   ·rename_i i ac ch
    have J:=Sx V OR oK a4 ch
    obtain⟨_,E,bs,rfl⟩:=acA bH 0 i ac ch
    simp only[zc]at bs
    rw[qG,bs]at a
    obtain⟨e5,gK,born⟩:=E
    simp only[e1]at a
    obtain⟨aep,a⟩:=a
    obtain⟨rfl,aj⟩:=We a
    have bU:=a4 _ (Zj bs)
    obtain⟨b1,bR,cq,cP⟩:=ahb V (di:=j) aj vM bj (JQ:=eR) (j5:=bH.set i (q,v,born)) (axo (λE=>{E with key:=aQ S q,val:=aQ S v}) a3 bs rfl) (aq2 a4 ⟨oK,fu⟩)
    refine⟨_,b1,rfl, ?_,cq,cP⟩
    simp[Instr.mapUpdate,run_underlying bb,aQ,ba,I,a3,J,vx,acd a3 bs,l7,awg bU.1 oK aep,bR]
   ·rename_i ch
    have J:=Sx V OR oK a4 ch
    obtain⟨rfl,aj⟩:=We a
    obtain⟨b1,bR,cq,cP⟩:=ahb V (di:=j) aj vM bj (JQ:=eR+1) (j5:=bH++[(q,v,eR)]) (Gw:=cm.push {key:=aQ S q,val:=aQ S v,born:=eR}) (by simp[a3,l7])
     (λE bs=>(Zz.1 bs).elim (a4 E) (λbs=>by simp at bs;subst bs;exact⟨oK,fu⟩))
    refine⟨_,b1,rfl, ?_,cq,cP⟩
    simp[Instr.mapUpdate,run_underlying bb,aQ,ba,I,a3,J,vx,bR]
   ·simp at a
  ·simp at a
 ·simp at a
end
end Go.bd

namespace Go.bd
open Go.RowKit (Below)
def aq9(sw dn:Nat)(oN:sw+(sw+768)/4<=dn):∀(r c:Nat),c<=dn->Builtin.growBy sw r c<=dn:=by
 intro r
 induction r with
 |zero=>intro c a;exact a
 |succ r al=>
  intro c a
  simp only[Builtin.growBy]
  split
  ·exact a
  ·exact al _ Zo
def nextslicecap_le{sw Dg:Nat}(a:Dg<sw):Builtin.nextslicecap sw Dg<=2*sw+200:=by
 unfold Builtin.nextslicecap
 split
 ·omega
 ·split
  ·omega
  ·exact aq9 sw _ Zo 4 Dg Zo
def azH{sw Dg bytes:Nat}(a:Dg<sw)(aE:sw<=1048576)(aj:bytes<=65536):¬(Builtin.nextslicecap sw Dg*bytes>2^48):=by
 have I:=nextslicecap_le a
 have J:Builtin.nextslicecap sw Dg*bytes<=(2*1048576+200)*65536:=Nat.mul_le_mul Zo aj
 have am:(2:Nat)^48=281474976710656:=by decide
 omega
def wrap_small{n:Nat}(aE:n<=1048576):IntKind.i64.wrap (n:Int)=n:=by
 rw[<-aio]
 simp only[p9,fA,Zh]
 have I:(n:Int)%18446744073709551616=n:=YT Zo Zo
 rw[I,Zu Zo]
def RS{n b:Nat}(I:n<=1048576)(J:b<=65536):¬((281474976710656:Int)<(n:Int)*(b:Int)):=by
 have am:n*b<=1048576*65536:=Nat.mul_le_mul I J
 have:((n*b:Nat):Int)<=((1048576*65536:Nat):Int):=Int.ofNat_le.2 am
 rw[Int.natCast_mul]at this
 omega
def y5(P:Program)(w:World)(dE:TypeDesc)(X:Value)(i:TypeInfo)(bz:Value)(n:Nat)(new:Array Value):Prop:=
 ((dE= .string\/∃E,dE= .slice E)/\(Builtin.lenOf X).run P w= .ok n w/\(Builtin.firstCells i.size n X).run P w= .ok new w/\(Builtin.firstCells i.size n X).run P w.drew= .ok new w.drew)\/
 ((∃ah,dE= .int ah)/\(∃q,X= .int q (Int.ofNat n))/\n<=1048576/\i.bytes<=65536/\n*i.size≠0/\new=Builtin.zeroCells bz.cells n)
section
variable{P:Program}{w b1:World}{c7:Array TypeId}{ty st iE eg:TypeId}{i:TypeInfo}{dE:TypeDesc}{base:Option Addr}{g1 lz n:Nat}{X bz:Value}{qI new:Array Value}
def Nc{F:Addr}(aS:c7[0]? =some st)(I:c7[1]? =some iE)(dm:P.underlying st=some (.slice eg))(hR:P.underlying iE=some dE)(aN:P.info? eg=some i)(cr:i.zero=some bz)
 (bZ:y5 P w dE X i bz n new)(aE:g1+n<=lz)(aF:(storeCells (F.add (g1*i.size)) new.toList).run P w= .ok () b1):
 (Builtin.append_ c7 ty #[.slice (some F) g1 lz,X]).run P w= .ok (.slice (some F) (g1+n) lz) b1:=by
 have aoY:(#[Value.slice (some F) g1 lz,X]:Array Value)[0]? =some (.slice (some F) g1 lz):=rfl
 have bF:(#[Value.slice (some F) g1 lz,X]:Array Value)[1]? =some X:=rfl
 clear aoY bF
 rcases bZ with ⟨ju,h0,kA,_⟩|⟨⟨ah,rfl⟩,⟨q,rfl⟩,h0,kA,lF,rfl⟩
 ·rcases ju with rfl|⟨_,rfl⟩<;>simp[Builtin.append_,aS,I,run_underlying dm,run_underlying hR,sizeOf,typeInfo,aN,h0,aE,kA,aF]
 ·have n4:=RS h0 kA
  have az:¬((n:Int)<0):=Zo
  have bt:=wrap_small h0
  simp[Builtin.append_,aS,I,run_underlying dm,run_underlying hR,sizeOf,typeInfo,aN,asInt,asIntOf,bt,n4,az,aE,lF,zeroValue,cr,aF]
def aa9(aS:c7[0]? =some st)(I:c7[1]? =some iE)(dm:P.underlying st=some (.slice eg))(hR:P.underlying iE=some dE)(aN:P.info? eg=some i)(cr:i.zero=some bz)
 (bZ:y5 P w dE X i bz n new)(aE:¬(g1+n<=lz))(aj:i.bytes<=65536)(yq:g1+n<=1048576)(bj:(Builtin.firstCells i.size g1 (.slice base g1 lz)).run P w.drew= .ok qI w.drew):
 ∃cap,g1+n<=cap/\(Builtin.append_ c7 ty #[.slice base g1 lz,X]).run P w=
  .ok (.slice (some ⟨w.heap.size,0,none⟩) (g1+n) cap) (w.drew.alloc (.cells (qI++new++Builtin.zeroCells bz.cells (cap-(g1+n))) eg)):=by
 have V:=azH (sw:=g1+n) (Dg:=lz) Zo yq aj
 have kb:¬(281474976710656<Builtin.nextslicecap (g1+n) lz*i.bytes):=by
  have am:(2:Nat)^48=281474976710656:=by decide
  omega
 have bp:¬((9223372036854775807:Int)<(g1:Int)+(n:Int)):=Zo
 refine⟨g1+n+(w.tape w.drawn (.appendCap (g1+n) lz eg))%(2^63-(g1+n)),Zo, ?_⟩
 have eO:w.drew.heap.size=w.heap.size:=rfl
 have yo:IntKind.i64.max=9223372036854775807:=by decide
 rcases bZ with ⟨ju,h0,kA,lF⟩|⟨⟨ah,rfl⟩,⟨q,rfl⟩,h0,kA,lF,rfl⟩
 ·rcases ju with rfl|⟨_,rfl⟩<;>
   simp[Builtin.append_,aS,I,run_underlying dm,run_underlying hR,sizeOf,typeInfo,aN,h0,aE,lF,zeroValue,cr,yo,bp,kb,Question.forced,Question.cut,bj,newRow,eO]
 ·have n4:=RS h0 kA
  have az:¬((n:Int)<0):=Zo
  have bt:=wrap_small h0
  simp[Builtin.append_,aS,I,run_underlying dm,run_underlying hR,sizeOf,typeInfo,aN,asInt,asIntOf,bt,n4,az,aE,lF,zeroValue,cr,yo,bp,kb,Question.forced,Question.cut,bj,newRow,eO]
end
end Go.bd

namespace Go.bd
open Go.RowKit (Below)
structure Aa(P:Program):Prop where
 mixed:P.follows .mixedOrders=true
 num:∀(f:Nat) fn,P.funcs[f]? =some fn->fn.body.isSome=true->(fn.name== "runtime.NumGoroutine")=false
section
variable{C:aL}{S dd:c9}{ad dC:Nat->Prop}{h T:K ag}{j an bh:Nat}{w b1:World}
def dq.same(V:dq C S ad h j bh w)(bt:b1.heap=w.heap):dq C S ad h j bh b1:=
 ⟨V.a2,V.lt,V.wN,λb U a d=>(V.obj b U a d).ab (λ_ _=>rfl) (λ_ a=>a) (by rw[bt]),V.sep,V.base,V.fv⟩
def dq.drew(V:dq C S ad h j bh w):dq C S ad h j bh w.drew:=V.same rfl
def dq.azy(V:dq C S ad h j bh w){b:Nat}{c:K D}{n:Nat}{fv:List Nat}(aj:C.a2<=b)(aH:ad b)(hP:Y C h b=some (.cells c n (.grow fv))):
 dq C S ad (bn C h b (some (.cells c n .ki))) j bh w:=by
 have pH:Y C (bn C h b (some (.cells c n .ki))) b=some (.cells c n .ki):=by rw[fX _ aj,Zu rfl]
 have jU:∀x,x≠b->Y C (bn C h b (some (.cells c n .ki))) x=Y C h x:=λx af=>by rw[fX _ aj,Zg af]
 refine⟨V.a2,V.lt, ?_, ?_, ?_, ?_, ?_⟩
 ·intro x dt af
  by_cases E:x=b
  ·subst E;exact V.lt x aH
  ·exact V.wN x dt (by rw[<-jU x E,af])
 ·intro x dt af dE
  by_cases E:x=b
  ·subst E
   rw[pH]at af;cases af
   obtain⟨cm,ty,b0,aN,I,J,am,aB⟩:=V.obj x _ hP aH
   exact⟨cm,ty,b0,aN,I,⟨trivial,J.2⟩,am,aB⟩
  ·exact V.obj x dt (by rw[<-jU x E,af]) dE
 ·intro x e dt qK af z dE pu c8 kY e2
  by_cases E:x=b
  ·subst E
   rw[pH]at af;cases af
   rw[jU e λah=>c8 ah.symm]at z
   obtain⟨I,J⟩:=V.sep x e _ qK hP z dE pu c8 kY e2
   refine⟨?_,J⟩
   rcases I with ⟨_,_,_,_,ah,_⟩|⟨_,_,k,f5,aU,ah,cw,az⟩|⟨_,_,_,_,_,_,ah,_⟩
   ·cases ah
   ·exact .inl ⟨c,n,f5,aU,rfl,cw⟩
   ·cases ah
  ·rw[jU x E]at af
   by_cases cn:e=b
   ·subst cn
    rw[pH]at z;cases z
    obtain⟨I,J⟩:=V.sep x e dt _ af hP dE pu c8 kY e2
    refine⟨?_,J⟩
    rcases I with ⟨_,_,_,_,_,ah⟩|⟨_,_,k,f5,aU,_,ah,az⟩|⟨f5,aU,_,_,_,ah,cw,_⟩
    ·cases ah
    ·cases ah
    ·exact .inl ⟨f5,aU,c,n,cw,rfl⟩
   ·rw[jU e cn]at z
    exact V.sep x e dt qK af z dE pu c8 kY e2
 ·intro x dt kY af dE
  by_cases E:x=b
  ·subst E;exact V.base x _ kY hP aH
  ·exact V.base x dt kY (by rw[<-jU x E,af]) dE
 ·intro x dt af dE
  by_cases E:x=b
  ·subst E
   rw[pH]at af;cases af
   have:=(V.fv x _ hP aH).2 _ _ _ rfl
   exact⟨λ_ _ _ a=>(by cases a),λ_ _ _ a=>(by cases a;exact this)⟩
  ·exact V.fv x dt (by rw[<-jU x E,af]) dE
def dq.share(V:dq C S ad h j bh w){cH:Nat}{pl:mR}{cY:ag}(er:bh<=cH)(oW:pl.cH=cH)(bt:∀q,q≠cH->b1.heap[q]? =w.heap[q]?)
 (bj:kk C (gs S j pl) (add ad j) cY pl b1)(uQ:xG C (add ad j) cY)
 (af:∀x dt,Y C h x=some dt->ad x->(S x).cH=cH->kk C S ad dt (S x) b1/\Rv cY dt j x/\Rv dt cY x j/\pl.ec=(S x).ec):
 dq C (gs S j pl) (add ad j) (bn C h j (some cY)) (j+1) bh b1:=by
 have aj:=V.a2
 have aE:¬ad j:=λa=>zq (V.lt j a)
 have dL:=rL (S:=S) (pl:=pl) aE
 have pH:Y C (bn C h j (some cY)) j=some cY:=by rw[fX _ aj,Zu rfl]
 have jU:∀x,x≠j->Y C (bn C h j (some cY)) x=Y C h x:=λx af=>by rw[fX _ aj,Zg af]
 have aJ:∀x,add ad j x->x≠j->ad x:=λx a c8=>a.resolve_right c8
 refine⟨Zo, ?_, ?_, ?_, ?_, ?_, ?_⟩
 ·intro x a
  rcases a with a|a
  ·have:=V.lt x a;omega
  ·omega
 ·intro x dt a
  by_cases E:x=j
  ·omega
  ·have:=V.wN x dt (by rw[<-jU x E,a]);omega
 ·intro x dt a dE
  by_cases E:x=j
  ·subst E;rw[pH]at a;cases a;rw[lE];exact bj
  ·rw[jU x E]at a
   have dE:=aJ x dE E
   rw[dL x dE]
   by_cases ah:(S x).cH=cH
   ·exact(af x dt a dE ah).1.ab dL (λ_ a=> .inl a) rfl
   ·exact(V.obj x dt a dE).ab dL (λ_ a=> .inl a) (bt _ ah)
 ·intro x e dt qK I J dE pu c8 kY e2
  by_cases E:x=j
  ·subst E
   rw[pH]at I;cases I
   have z:e≠x:=λah=>c8 ah.symm
   rw[jU e z]at J
   have pu:=aJ e pu z
   rw[lE,dL e pu]at e2 ⊢
   obtain⟨_,b7,_,eh⟩:=af e qK J pu (by rw[<-e2,oW])
   exact⟨b7,eh⟩
  ·rw[jU x E]at I
   have NA:=aJ x dE E
   by_cases cn:e=j
   ·subst cn
    rw[pH]at J;cases J
    rw[lE,dL x NA]at e2 ⊢
    obtain⟨_,_,cS,eh⟩:=af x dt I NA (by rw[e2,oW])
    exact⟨cS,eh.symm⟩
   ·rw[jU e cn]at J
    have ab6:=aJ e pu cn
    rw[dL x NA,dL e ab6]at e2 ⊢
    exact V.sep x e dt qK I J NA ab6 c8 kY e2
 ·intro x dt kY a dE
  by_cases E:x=j
  ·subst E;rw[lE,oW];exact er
  ·rw[jU x E]at a
   have dE:=aJ x dE E
   rw[dL x dE]
   exact V.base x dt kY a dE
 ·intro x dt a dE
  by_cases E:x=j
  ·subst E;rw[pH]at a;cases a;exact uQ
  ·rw[jU x E]at a
   have dE:=aJ x dE E
   refine⟨λc n k az e z=> ?_,(V.fv x dt a dE).2⟩
   obtain⟨b3,b7⟩:=(V.fv x dt a dE).1 c n k az e z
   exact⟨.inl b3,b7⟩
def afW{c:K D}{U n:Nat}{k:List D}(a:c.kU U n=some k):k.length=n:=(K.SR _ _ _ _ a).1
def RX{b U n:Nat}{k:List D}(a:ns C h b U n=some k):k.length=n:=by
 unfold ns at a
 split at a
 ·exact afW a
 ·simp only[e1,Zf]at a
  have:n=0:=Zl a.1
  rw[<-a.2,this];rfl
def aCf(S:c9)(bz:D)(n:Nat):Builtin.zeroCells (aQ S bz).cells n=(b2 S (k7 n bz.cells)).toArray:=by
 rw[vz, <-ahl]
 simp[Builtin.zeroCells,j4]
def ahN(S:c9)(s:List Nat)(aF:∀x∈s,x<256):((f2 s).data.map λb=>Value.int .u8 b.toNat)=(b2 S (s.map λn=>D.int .u8 (Int.ofNat n))).toArray:=by
 apply YZ
 simp only[f2,ql,Yy]
 simp only[List.map_toArray,Yy]
 apply YF
 intro x af
 simp[aQ,YH (aF x af)]
def aAw(V:dq C S ad h j bh w){x:D}{i:TypeInfo}{bz:Value}{dE:TypeDesc}{n:Nat}{k:List D}(fE:ck ad x)(v1:dE= .string\/∃E,dE= .slice E)(a:lA C h i.size x=some (n,k)):
 y5 C.P w dE (aQ S x) i bz n (b2 S k).toArray/\ep ad k/\k.length=n*i.size:=by
 unfold lA at a
 split at a
 ·simp at a;obtain⟨rfl,rfl⟩:=a
  refine⟨.inl ⟨v1, ?_, ?_, ?_⟩,trivial,Zs⟩<;>simp[aQ,Builtin.lenOf,Builtin.firstCells,b2]
 ·rename_i b U len cap
  split at a
  ·rename_i bV az
   simp at a;obtain⟨rfl,rfl⟩:=a
   obtain⟨I,J⟩:=GI V fE az
   obtain⟨am,_⟩:=GI V.drew fE az
   refine⟨.inl ⟨v1, ?_, ?_, ?_⟩,J,RX az⟩<;>simp[aQ,Builtin.lenOf,Builtin.firstCells,I,am]
  ·simp at a
 ·rename_i b U len cap
  split at a
  ·rename_i bV az
   simp at a;obtain⟨rfl,rfl⟩:=a
   obtain⟨I,J⟩:=GI V fE az
   obtain⟨am,_⟩:=GI V.drew fE az
   refine⟨.inl ⟨v1, ?_, ?_, ?_⟩,J,RX az⟩<;>simp[aQ,Builtin.lenOf,Builtin.firstCells,I,am]
  ·simp at a
 ·rename_i s
  simp only[e1]at a
  obtain⟨I,a⟩:=a
  have I:i.size=1:=Zl I
  simp at a;obtain⟨rfl,rfl⟩:=a
  have eO:(f2 s).size=s.length:=by simp[f2,ByteArray.size]
  have bs:(f2 s).extract 0 s.length=f2 s:=by
   rw[<-eO];exact ByteArray.extract_zero_size
  have aA:=ahN S s fE
  refine⟨.inl ⟨v1, ?_, ?_, ?_⟩, ?_,by simp[I]⟩
  ·simp[aQ,Builtin.lenOf,eO]
  ·simp only[aQ,Builtin.firstCells,bs,Sem.run_pure];rw[aA];simp
  ·simp only[aQ,Builtin.firstCells,bs,Sem.run_pure];rw[aA];simp
  ·rw[vN]
   intro v bD
   obtain⟨e,_,rfl⟩:=ZE.1 bD
   trivial
 ·simp at a
end
end Go.bd

