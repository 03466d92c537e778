/- A part of the last text's proof; no condition of its own -/
import Derived.Test.YtpfajohmofnkfaaGreatDoorYa
import Derived.Laws.BytesString
import Derived.MapKept
import Derived.Laws.NewFold
import Derived.Laws.CopyRow
set_option maxHeartbeats 8000000
set_option linter.all false
namespace Go.bi
open Go.RowKit (Below)
section
variable{C:aZ}{R:c6}{af:Nat->Prop}{h:V an}{j bj:Nat}{w:World}
def binOp_eql{t:TypeId}{X d6:Value}(Q:∀B K e4 b,¬(X= .int B K/\d6= .int e4 b))(U:∀K b,¬(X= .string K/\d6= .string b))
 (ar:∀B K,X≠ .float B K)(aK:∀B K b,X≠ .complex B K b):binOp .eql t X d6=(do pure (.bool (<-Op.equal t X d6)))/\binOp .neq t X d6=(do pure (.bool (!(<-Op.equal t X d6)))):=by
 constructor
 ·unfold binOp
  split
  all_goals first
   |rfl
   |exact absurd ⟨rfl,rfl⟩ (Q _ _ _ _)
   |exact absurd ⟨rfl,rfl⟩ (U _ _)
   |exact absurd rfl (ar _ _)
   |exact absurd rfl (aK _ _ _)
   |simp_all
 ·unfold binOp
  split
  all_goals first
   |rfl
   |exact absurd ⟨rfl,rfl⟩ (Q _ _ _ _)
   |exact absurd ⟨rfl,rfl⟩ (U _ _)
   |exact absurd rfl (ar _ _)
   |exact absurd rfl (aK _ _ _)
   |simp_all
def W2(R:c6)(v:F):(∀B K,aQ R v≠ .float B K)/\∀B K b,aQ R v≠ .complex B K b:=by
 cases v<;>simp[aQ]
def amb{m:Nat}{t:TypeId}{ih:Array (String×TypeId)}(be:C.P.underlying t=some (.interface ih))(bx:ih.isEmpty=true):(Op.eqGuardIn (m+1) t .nilIface .nilIface).run C.P w= .ok false w:=by
 simp[Op.eqGuardIn,run_underlying be,bx]
def amc{op:BinOp}{t:TypeId}{x e:Operand}{X d6:Value}(a:(qt x||qt e)=true)(U:∀c d,¬(X= .agg c/\d6= .agg d)):
 (eqGuard op t x e X d6).run C.P w= .ok () w:=by
 cases op<;>first|rfl|(cases x<;>cases e<;>first|(simp[qt]at a;done)|(cases X<;>cases d6<;>first|rfl|exact absurd ⟨rfl,rfl⟩ (U _ _)))
def amd{op:BinOp}{t:TypeId}{x e:Operand}{ih:Array (String×TypeId)}(be:C.P.underlying t=some (.interface ih))(bx:ih.isEmpty=true):
 (eqGuard op t x e .nilIface .nilIface).run C.P w= .ok () w:=by
 have key:=amb (C:=C) (w:=w) (m:=9999) be bx
 have Q:Op.maxDepth=9999+1:=rfl
 cases op<;>first|rfl|(cases x<;>cases e<;>first|rfl|(simp[eqGuard,Q,key];done))
def ame{op:BinOp}{t:TypeId}{x e:Operand}(a:(qt x||qt e||(match C.P.underlying t with|some (.interface ih)=>ih.isEmpty|_=>false))=true):
 (eqGuard op t x e .nilIface .nilIface).run C.P w= .ok () w:=by
 by_cases aB:(qt x||qt e)=true
 ·exact amc aB Zs
 ·have aB:(qt x||qt e)=false:=by simpa using aB
  rw[aB,Bool.false_or]at a
  split at a
  ·rename_i ih be
   exact amd be a
  ·simp at a
def amf{op:BinOp}{t:TypeId}{x e:Operand}{X d6:Value}(Q:¬(X= .nilIface/\d6= .nilIface))(U:∀c d,¬(X= .agg c/\d6= .agg d)):
 (eqGuard op t x e X d6).run C.P w= .ok () w:=by
 cases op<;>first|rfl|(cases X<;>cases d6<;>first|rfl|exact absurd ⟨rfl,rfl⟩ Q|exact absurd ⟨rfl,rfl⟩ (U _ _))
def K7{op:BinOp}{t:TypeId}{x e:Operand}{K b:F}(a:ER C t (qt x||qt e) K b=true):
 (eqGuard op t x e (aQ R K) (aQ R b)).run C.P w= .ok () w:=by
 unfold ER at a
 split at a
 ·exact ame a
 ·simp only[aQ]
  exact run_eqGuard_agg w op t x e _ _ (by simpa using a)
 ·rename_i aO bg
  refine amf ?_ ?_
  ·rintro⟨Q,U⟩
   cases K<;>simp[aQ]at Q
   cases b<;>simp[aQ]at U
   exact aO rfl rfl
  ·rintro c d ⟨Q,U⟩
   cases K<;>simp[aQ]at Q
   cases b<;>simp[aQ]at U
   exact bg _ _ rfl rfl
def aj7{op:BinOp}{x e:List Nat}{v:F}(ah:∀K∈x,K<256)(H:∀K∈e,K<256)(a:Am op x e=some v):
 (Op.stringOp op (fX x) (fX e)).run C.P w= .ok (aQ R v) w/\cj af v:=by
 have bD:=TB ah H
 have cF:Op.bytesLess (fX x).toList (fX e).toList=Bq x e:=by rw[KJ,KJ];exact aeP ah H
 cases op<;>simp only[Am,wd,e0,Zf]at a<;>
  first
  |(
    obtain⟨Q,rfl⟩:=a
    constructor
    ·have aD:(fX x).size=x.length:=by simp[fX,ByteArray.size]
     have pI:(fX e).size=e.length:=by simp[fX,ByteArray.size]
     have gl:=jf Q
     simp only[Op.stringOp,aD,pI]
     rw[Zg (by simp[IntKind.max,IntKind.signed,IntKind.bits];omega)]
     simp only[Sem.run_pure,aQ]
     congr 2
     apply ByteArray.ext
     simp[fX]
    ·simp only[cj]
     intro bt cv
     rcases Zy.1 cv with a|a
     ·exact ah bt a
     ·exact H bt a)
  |(subst a;exact⟨by simp only[Op.stringOp,bD,cF,Sem.run_pure,aQ],trivial⟩)
  |(simp at a)
def as5(Z:dl C R af h j bj w){op:BinOp}{t:Nat}{x e:Operand}{ay:Operand->Value}{eA:Operand->Option F}{v:F}(cA:jd R af ay eA [x,e])
 (a:M4 C op t x e h eA=some v):(do eqGuard op t x e (ay x) (ay e);binOp op t (ay x) (ay e):Sem Value).run C.P w= .ok (aQ R v) w/\cj af v:=by
 unfold M4 at a
 split at a
 ·rename_i K b aE aj
  obtain⟨alW,h0⟩:=cA x Zs K aE
  obtain⟨d1,oD⟩:=cA e Zs b aj
  rw[alW,d1]
  unfold dn at a
  split at a
  ·rename_i B i e4 aa
   obtain⟨Q,U,_⟩:=Wi (C:=C) (R:=R) (af:=af) (w:=w) t a
   refine⟨?_,U⟩
   rw[Sem.run_bind,K7 (by simp[ER])]
   exact Q
  ·rename_i s fo
   obtain⟨Q,U⟩:=aj7 (C:=C) (R:=R) (af:=af) (w:=w) h0 oD a
   refine⟨?_,U⟩
   rw[Sem.run_bind,K7 (by simp[ER])]
   simp only[Result.andThen_ok,aQ,binOp]
   exact Q
  ·rename_i Nk l1
   simp only[e0]at a
   obtain⟨fS,a⟩:=a
   have b1:∀r,kl C h 50 t K b=some r->(Op.equal t (aQ R K) (aQ R b)).run C.P w= .ok r w:=λr kq=>OS Z 50 _ t K b r Zd h0 oD kq
   have nQ:∀B bt e4 Kk,¬(aQ R K= .int B bt/\aQ R b= .int e4 Kk):=by
    intro B bt e4 Kk ⟨Q,U⟩
    cases K<;>simp[aQ]at Q
    cases b<;>simp[aQ]at U
    exact Nk _ _ _ _ rfl rfl
   have nh:∀bt Kk,¬(aQ R K= .string bt/\aQ R b= .string Kk):=by
    intro bt Kk ⟨Q,U⟩
    cases K<;>simp[aQ]at Q
    cases b<;>simp[aQ]at U
    exact l1 _ _ rfl rfl
   obtain⟨cD,cp⟩:=binOp_eql (t:=t) nQ nh (W2 R K).1 (W2 R K).2
   rw[Sem.run_bind,K7 fS]
   split at a
   ·split at a
    ·rename_i r kq
     simp at a;subst a
     exact⟨by simp[cD,b1 r kq,aQ],trivial⟩
    ·simp at a
   ·split at a
    ·rename_i r kq
     simp at a;subst a
     exact⟨by simp[cp,b1 r kq,aQ],trivial⟩
    ·simp at a
   ·simp at a
 ·simp at a
end
end Go.bi

namespace Go.bi
open Go.RowKit (Below)
section
variable{C:aZ}{R:c6}{af:Nat->Prop}{h:V an}{j bj:Nat}{w:World}
def ajT{s d:Nat}{x v:F}(ah:cj af x)(a:OR C s d x=some v):(convert s d (aQ R x)).run C.P w= .ok (aQ R v) w/\cj af v:=by
 unfold OR at a
 split at a
 ·rename_i mD B eE n yE I1
  simp at a;subst a
  simp[convert,run_underlying yE,run_underlying I1,Conv.intToInt,aQ,cj]
 ·rename_i mD s yE I1
  simp at a;subst a
  refine⟨?_,ah⟩
  simp[convert,run_underlying yE,run_underlying I1,aQ]
 ·simp at a
def akU:∀{l:List F}{s:List Nat},xR l=some s->∃l1:List Nat,l=l1.map (λn=>F.int .u8 (Int.ofNat n))/\s=l1.map (·%256):=by
 intro l
 induction l with
 |nil=>intro s a;simp[xR]at a;subst a;exact⟨[],rfl,rfl⟩
 |cons K l ak=>
  intro s a
  unfold xR at a
  split at a
  ·rename_i gD;simp at gD
  ·rename_i n b8 e3
   simp only[Yw]at e3
   obtain⟨rfl,rfl⟩:=e3
   split at a
   ·rename_i r Z
    simp at a;subst a
    obtain⟨l1,Q,U⟩:=ak Z
    exact⟨n::l1,by simp[Q],by simp[U]⟩
   ·simp at a
  ·simp at a
def amQ(l1:List Nat):∀r:ByteArray,(l1.map Int.ofNat).foldl (λr (n:Int)=>r.push (UInt8.ofNat n.toNat)) r=⟨r.data++(l1.map UInt8.ofNat).toArray⟩:=by
 induction l1 with
 |nil=>intro r;simp
 |cons n l1 ak=>
  intro r
  simp only[ZK,Yo,ak]
  congr 1
  apply YZ
  simp[ByteArray.push]
def EG(Z:dl C R af h j bj w){b Y n:Nat}{l:List F}(aj:af b)(a:mN C h b Y n=some l):
 (loadCells ⟨(R b).cE,(R b).eb+Y,none⟩ n).run C.P w= .ok (bY R l).toArray w/\es af l:=by
 unfold mN at a
 split at a
 ·rename_i c aB;exact KN Z aj aB a
 ·simp only[e0,Zf]at a
  obtain⟨Q,rfl⟩:=a
  have:n=0:=Zj Q
  subst this
  refine⟨?_,trivial⟩
  have aC:=run_loadCells_list (P:=C.P) w ⟨(R b).cE,(R b).eb+Y,none⟩ [] (λaa v bB=>by simp at bB)
  simpa[bY]using aC
def aeY(Z:dl C R af h j bj w){b Y n cap:Nat}{l:List F}{s:List Nat}(aj:af b)(a:mN C h b Y n=some l)(aD:xR l=some s):
 (Conv.bytesToString (.slice (some ⟨(R b).cE,(R b).eb+Y,none⟩) n cap)).run C.P w= .ok (aQ R (.str s)) w/\cj af (.str s):=by
 obtain⟨Q,_⟩:=EG Z aj a
 obtain⟨l1,rfl,rfl⟩:=akU aD
 have U:=run_bytesToString (P:=C.P) w ⟨(R b).cE,(R b).eb+Y,none⟩ n cap (l1.map Int.ofNat) (by
  rw[Q];congr 2
  rw[pt,YK,YK];rfl)
 constructor
 ·rw[U,amQ]
  congr 2
  simp only[fX,YK]
  congr 1
  apply YZ
  simp
  intro K _
  exact UInt8.toNat_inj.1 Zs
 ·simp only[cj]
  intro x ah
  obtain⟨e,_,rfl⟩:=ZT.1 ah
  exact Nat.mod_lt _ Zd
def aj8(Z:dl C R af h j bj w){x v:F}(ah:cj af x)(a:Eo C h x=some v):(Conv.bytesToString (aQ R x)).run C.P w= .ok (aQ R v) w/\cj af v/\∃K l c,aQ R x= .slice K l c:=by
 unfold Eo at a
 split at a
 ·simp at a;subst a;exact⟨rfl,by simp[cj],_,_,_,rfl⟩
 ·split at a
  ·rename_i l aC
   split at a
   ·rename_i s aD
    simp at a;subst a
    obtain⟨Q,U⟩:=aeY Z ah aC aD
    exact⟨Q,U,_,_,_,rfl⟩
   ·simp at a
  ·simp at a
 ·split at a
  ·rename_i l aC
   split at a
   ·rename_i s aD
    simp at a;subst a
    obtain⟨Q,U⟩:=aeY Z ah aC aD
    exact⟨Q,U,_,_,_,rfl⟩
   ·simp at a
  ·simp at a
 ·simp at a
def as6(Z:dl C R af h j bj w){s d:Nat}{x:Operand}{ay:Operand->Value}{eA:Operand->Option F}{v:F}(cA:jd R af ay eA [x])
 (a:Ji C s d x h eA=some v):(convert s d (ay x)).run C.P w= .ok (aQ R v) w/\cj af v:=by
 unfold Ji at a
 split at a
 ·rename_i K aE
  obtain⟨J,g⟩:=cA x Zs K aE
  rw[J]
  split at a
  ·rename_i ae be
   simp at a;subst a
   exact ajT g be
  ·split at a
   ·rename_i s1 yE I1
    split at a
    ·rename_i bx
     obtain⟨Q,U,fN,l,c,ar⟩:=aj8 Z g a
     refine⟨?_,U⟩
     rw[ar]at Q ⊢
     rw[run_convert_bytes_string w s d s1 fN l c yE bx I1]
     exact Q
    ·simp at a
   ·simp at a
 ·simp at a
def Dn{Y:Option F}{m d r:Nat}(a:oW Y m d=some r):(Y=none/\r=d)\/∃B,Y=some (.int B (Int.ofNat r))/\r<=m:=by
 unfold oW at a
 split at a
 ·rename_i v
  split at a
  ·rename_i n aL
   simp only[e0,Zf]at a
   obtain⟨Q,rfl⟩:=a
   obtain⟨B,rfl⟩:=Dt aL
   exact .inr ⟨B,rfl,jf Q⟩
  ·simp at a
 ·simp at a;exact .inl ⟨rfl,a.symm⟩
def run_sliceBound{P:Program}{B:IntKind}{n e:Nat}{code:BoundsCode}(a:n<=e):(Instr.sliceBound (.int B (Int.ofNat n)) e code).run P w= .ok n w:=by
 have Q:(0:Int)<=Int.ofNat n/\Int.ofNat n<=(e:Int):=⟨Int.natCast_nonneg n,Int.ofNat_le.2 a⟩
 simp only[Instr.sliceBound,asIntOf,Sem.run_bind,Sem.run_pure,Result.andThen_ok]
 rw[Zq Q]
 rfl
def Hl{FP:Bool}{len cap KL:Nat}{bS aJ hb:Option F}{l a m:Nat}(aB:cap<=KL)(aj:lQ len cap bS aJ hb=some (l,a,m)):
 (Instr.sliceBounds FP len KL (bS.map (aQ R)) (aJ.map (aQ R)) (hb.map (aQ R))).run C.P w= .ok (l,a,if hb.isSome then m else KL) w/\l<=a/\(hb=none->m=cap)/\m<=cap/\(a<=m\/a=len):=by
 unfold lQ at aj
 split at aj
 ·simp at aj
 ·rename_i gm bp
  split at aj
  ·simp at aj
  ·rename_i cy gD
   split at aj
   ·simp at aj
   ·rename_i b8 aC
    simp at aj
    obtain⟨rfl,rfl,rfl⟩:=aj
    have IE:b8<=cy:=by
     rcases Dn aC with ⟨_,rfl⟩|⟨B,_,gl⟩
     ·exact zr _
     ·exact gl
    cases hb with
    |none=>
     have uH:gm=cap:=by simpa[oW]using bp.symm
     subst uH
     have Md:oW aJ gm len=some cy:=by cases aJ<;>exact gD
     refine⟨?_,IE,λ_=>rfl,Zi _,(Dn Md).elim (λa=> .inr a.2) (λ⟨_,_,a⟩=> .inl a)⟩
     rcases Dn Md with ⟨rfl,rfl⟩|⟨B,rfl,gl⟩<;>rcases Dn aC with ⟨rfl,rfl⟩|⟨cw,rfl,ge⟩
     ·simp[Instr.sliceBounds]
     ·simp only[Instr.sliceBounds,Y3,ZV,aQ,Sem.run_bind,Sem.run_pure,Result.andThen_ok,run_sliceBound ge,Z3,Zw,ZA]
     ·simp only[Instr.sliceBounds,Y3,ZV,aQ,Sem.run_bind,Sem.run_pure,Result.andThen_ok,run_sliceBound (Zz gl aB),Z3,Zw,ZA]
     ·simp only[Instr.sliceBounds,Y3,ZV,aQ,Sem.run_bind,Sem.run_pure,Result.andThen_ok,run_sliceBound (Zz gl aB),run_sliceBound ge,Z3,Zw,ZA]
    |some at7=>
     rcases Dn bp with ⟨b6,_⟩|⟨B,b6,gl⟩
     ·cases b6
     ·cases b6
      cases aJ with
      |none=>simp at gD
      |some bB=>
       have Md:oW (some bB) gm len=some cy:=gD
       rcases Dn Md with ⟨b6,_⟩|⟨e4,b6,ID⟩
       ·cases b6
       ·cases b6
        refine⟨?_,IE,(λa=>by cases a),gl, .inl ID⟩
        rcases Dn aC with ⟨rfl,rfl⟩|⟨cw,rfl,ge⟩
        ·simp only[Instr.sliceBounds,Y3,ZV,aQ,Sem.run_bind,Sem.run_pure,Result.andThen_ok,run_sliceBound (Zz gl aB),run_sliceBound ID,Yc,ZD]
        ·simp only[Instr.sliceBounds,ZV,aQ,Sem.run_bind,Sem.run_pure,Result.andThen_ok,run_sliceBound (Zz gl aB),run_sliceBound ID,run_sliceBound ge,Yc,ZD]
end
end Go.bi

namespace Go.bi
open Go.RowKit (Below)
section
variable{C:aZ}{R:c6}{af:Nat->Prop}{h:V an}{j bj:Nat}{w:World}
def ale(m l Y a1:Nat):bP (Nat.beq m l) Y (Y+l*a1)=if m=l then Y else Y+l*a1:=hD _ _ _ _
def aeD(Z:dl C R af h j bj w){b n:Nat}(aj:af b)(a:xq C h b=some n):n<=(R b).room:=by
 unfold xq at a
 split at a
 ·rename_i c m fm bl
  simp at a;subst a
  obtain⟨co,ty,bS,aJ,_,U,_,_⟩:=Z.obj b _ bl aj
  exact U.2.1
 ·rename_i c m bl
  simp at a;subst a
  obtain⟨co,ty,bS,aJ,_,U,_,_⟩:=Z.obj b _ bl aj
  exact U.2.1
 ·simp at a
def Tu{b Y l a m a1:Nat}:Value.slice (some (if m=l then(⟨(R b).cE,(R b).eb+Y,none⟩:Addr)else(⟨(R b).cE,(R b).eb+Y,none⟩:Addr).add (l*a1))) (a-l) (m-l)
 =aQ R (.slice b (bP (Nat.beq m l) Y (Y+l*a1)) (a-l) (m-l)):=by
 rw[ale]
 simp only[aQ,qR]
 split
 ·rfl
 ·rw[ZJ]
def aj6(Z:dl C R af h j bj w){t:Nat}{x v:F}{bS aJ hb:Option F}(ah:cj af x)(a:KE C h t x bS aJ hb=some v):
 (Instr.sliceAt t (aQ R x) (bS.map (aQ R)) (aJ.map (aQ R)) (hb.map (aQ R))).run C.P w= .ok (aQ R v) w/\cj af v:=by
 unfold KE at a
 split at a
 ·rename_i s be
  cases hb with
  |some _=>simp at a
  |none=>
   simp only at a
   split at a
   ·rename_i l cy m aj
    simp at a;subst a
    obtain⟨Q,U,_⟩:=Hl (C:=C) (R:=R) (w:=w) (FP:=false) (Zi _) aj
    have eN:(fX s).size=s.length:=by simp[fX,ByteArray.size]
    constructor
    ·simp only[Y3,Z3,Zw,ZA]at Q
     simp[Instr.sliceAt,run_underlying be,Instr.slice,aQ,eN,Q]
     apply ByteArray.ext
     rw[ByteArray.data_extract]
     apply YZ
     simp[fX,List.map_take,List.map_drop,List.take_drop]
    ·simp only[cj]at ah ⊢
     intro bt cv
     exact ah bt (Y8 (Y9 cv))
   ·simp at a
 ·rename_i ee b Y len cap be
  split at a
  ·rename_i l cy m a1 aj eN
   simp at a;subst a
   obtain⟨Q,U,ar,_⟩:=Hl (C:=C) (R:=R) (w:=w) (FP:=true) (Zi cap) aj
   have bp:(if hb.isSome=true then m else cap)=m:=by cases hb with
    |none=>simp[ar rfl]
    |some _=>rfl
   rw[bp]at Q
   refine⟨?_,ah⟩
   have:=Tu (R:=R) (b:=b) (Y:=Y) (l:=l) (a:=cy) (m:=m) (a1:=a1)
   simp only[Instr.sliceAt,Sem.run_bind,run_underlying be,Result.andThen_ok,Instr.slice,aQ,Q,o6 eN,Sem.run_pure]
   rw[<-aQ, <-this]
   split<;>rfl
  ·simp at a
 ·rename_i ee be
  split at a
  ·rename_i r a1 aj eN
   obtain⟨l,cy,m⟩:=r
   simp at a;subst a
   obtain⟨Q,U,ar,aK,bH⟩:=Hl (C:=C) (R:=R) (w:=w) (FP:=true) (Zi 0) aj
   have bp:m=0:=Zo
   have gD:cy=0:=Zo
   have aC:l=0:=Zo
   subst bp;subst gD;subst aC
   refine⟨?_,trivial⟩
   have tc:(Instr.sliceBounds true 0 0 (bS.map (aQ R)) (aJ.map (aQ R)) (hb.map (aQ R))).run C.P w= .ok (0,0,0) w:=by rw[Q];split<;>rfl
   simp[Instr.sliceAt,run_underlying be,Instr.slice,aQ,tc,o6 eN]
  ·simp at a
 ·rename_i ee b Y len a1 be
  split at a
  ·rename_i xs n eN aL
   simp only[e0,Zp]at a
   obtain⟨⟨k8,qp⟩,a⟩:=a
   have k8:a1=xs:=Zj k8
   subst k8
   have qp:0<a1:=k4 qp
   have ari:=aeD Z ah aL
   have ml:(n-Y)/a1<=((R b).room-Y)/a1:=Nat.div_le_div_right Zo
   split at a
   ·rename_i l cy m aj
    obtain⟨Q,U,ar,_⟩:=Hl (C:=C) (R:=R) (w:=w) (FP:=true) ml aj
    cases hb with
    |some at7=>
     simp at a;subst a
     refine⟨?_,ah⟩
     have:=Tu (R:=R) (b:=b) (Y:=Y) (l:=l) (a:=cy) (m:=m) (a1:=a1)
     simp only[Yc,ZD]at Q
     simp only[Instr.sliceAt,Sem.run_bind,run_underlying be,Result.andThen_ok,Instr.slice,aQ,Q,o6 eN,Sem.run_pure]
     rw[<-aQ, <-this]
     split<;>rfl
    |none=>
     simp only[e0,Zf,zj]at a
     obtain⟨aC,rfl⟩:=a
     refine⟨?_,ah⟩
     simp only[Z3,Zw,ZA]at Q
     simp only[Instr.sliceAt,Sem.run_bind,run_underlying be,Result.andThen_ok,Instr.slice,aQ,Q,o6 eN,Sem.run_pure]
     have cF:((R b).room-(Y+l*a1))/a1=((R b).room-Y)/a1-l:=by
      rw[<-Nat.sub_sub,zs l a1,Nat.sub_mul_div]
     rw[cF]
     congr 1
     congr 1
     rcases aC with aC|aC
     ·have aC:=k4 aC
      rw[Zg Zo,ZV,qR,ZJ]
     ·have aC:l=0:=Zj aC
      subst aC
      split<;>simp[qR]
   ·simp at a
  ·simp at a
 ·rename_i n ee b Y be
  split at a
  ·rename_i l cy m a1 aj eN
   simp at a;subst a
   obtain⟨Q,U,ar,_⟩:=Hl (C:=C) (R:=R) (w:=w) (FP:=false) (Zi n) aj
   have bp:(if hb.isSome=true then m else n)=m:=by cases hb with
    |none=>simp[ar rfl]
    |some _=>rfl
   rw[bp]at Q
   refine⟨?_,ah⟩
   have:=Tu (R:=R) (b:=b) (Y:=Y) (l:=l) (a:=cy) (m:=m) (a1:=a1)
   simp only[Instr.sliceAt,Sem.run_bind,run_underlying be,Result.andThen_ok,Instr.sureAddr,aQ,Q,o6 eN,Sem.run_pure]
   rw[<-aQ, <-this]
  ·simp at a
 ·simp at a
end
end Go.bi

namespace Go.bi
open Go.RowKit (Below)
section
variable{C:aZ}{R:c6}{af:Nat->Prop}{h:V an}{j bj:Nat}{w:World}
def awy{α:Type}{P:Program}(f:α->PUnit->Sem (ForInStep PUnit)):∀(l:List α),(∀K∈l,(f K ⟨⟩).run P w= .ok (.yield ⟨⟩) w)->(forIn l PUnit.unit f).run P w= .ok ⟨⟩ w:=by
 intro l
 induction l with
 |nil=>intro _;simp[Sem.run_pure]
 |cons K l ak=>intro a;simp[List.forIn_cons,a K Zs,ak λb aj=>a b (by simp[aj])]
def Wj{J:Bool}:∀(n m t:Nat) (v:F),n<=m->cj af v->mL C n t v=true->(Instr.checkKey J m t (aQ R v)).run C.P w= .ok () w:=by
 intro n
 induction n with
 |zero=>intro m t v _ _ a;simp[mL]at a
 |succ n ak=>
  intro m t v bp bB a
  obtain⟨m,rfl⟩:∃B,m=B+1:=⟨m-1,Zo⟩
  unfold mL at a
  split at a
  ·rename_i ih d x be
   split at a
   ·rename_i i aJ
    simp only[Zp]at a
    have:=ak m d x Zo bB a.2
    simp[Instr.checkKey,run_underlying be,aQ,typeInfo,aJ,a.1,this]
   ·simp at a
  ·rename_i be;simp[Instr.checkKey,run_underlying be,aQ]
  ·simp at a
  ·rename_i jH cs be
   simp only[Instr.checkKey,Sem.run_bind,run_underlying be,Result.andThen_ok,aQ]
   rw[<-Array.forIn_toList]
   refine(congrArg (λr=>Result.andThen r _) (awy _ _ ?_)).trans rfl
   intro f ch
   have:=List.all_eq_true.1 a f ch
   simp only[zj,Y0]at this
   by_cases aL:f.name= "_"
   ·simp[aL]
   ·rcases this with Q|Q
    ·exact absurd Q aL
    ·split at Q
     ·rename_i p az
      obtain⟨fA,hx⟩:=Hc (R:=R) (w:=w) bB az
      simp[aL,fA,ak m f.type p Zo hx Q]
     ·simp at Q
  ·simp at a
  ·simp at a
  ·rename_i d aO bg bs be b2 eK eu
   simp only[Instr.checkKey,Sem.run_bind,run_underlying be,Result.andThen_ok]
   cases d<;>first
    |exact(aO _ rfl).elim
    |exact(bg _ rfl).elim
    |exact(bs _ _ rfl).elim
    |rfl
  ·simp at a
def W3{x:F}{B:IntKind}{K:Int}(a:aQ R x= .int B K):x= .int B K:=by
 cases x<;>simp[aQ]at a
 obtain⟨rfl,rfl⟩:=a;rfl
def W1{x:F}{K:Bool}(a:aQ R x= .bool K):x= .bool K:=by
 cases x<;>simp[aQ]at a
 subst a;rfl
def W4{x:F}{K:ByteArray}(a:aQ R x= .string K):∃s,x= .str s/\K=fX s:=by
 cases x<;>simp[aQ]at a
 exact⟨_,rfl,a.symm⟩
def WQ(K b:ByteArray):(K==b)=(K.toList==b.toList):=by
 show(K.data==b.data)=_
 rw[Yg,Y0,Y0,ByteArray.toList_eq,ByteArray.toList_eq]
 exact⟨λa=>by rw[a],λa=>Array.toList_inj.1 a⟩
def aey{d t:Nat}{fb:TypeDesc}{x e:F}{r gO:Bool}(be:C.P.underlying t=some fb)(fy:cj af x)(un:cj af e)
 (a:kl C h d t x e=some r)(cy:Instr.sameNow fb (aQ R x) (aQ R e)=some gO):r=gO:=by
 cases d with
 |zero=>simp[kl]at a
 |succ d=>
  unfold Instr.sameNow at cy
  split at cy
  ·rename_i eE B K e4 b ah H
   rw[W3 ah,W3 H]at a
   simp[kl,be]at a
   split at cy
   ·simp at cy;rw[<-cy, <-a.2];rfl
   ·simp at cy
  ·rename_i K b ah H
   obtain⟨s,rfl,rfl⟩:=W4 ah
   obtain⟨fo,rfl,rfl⟩:=W4 H
   simp[kl,be]at a
   simp at cy
   rw[<-cy, <-a,WQ,TB fy un]
  ·rename_i K b ah H
   rw[W1 ah,W1 H]at a
   simp[kl,be]at a
   simp at cy;rw[<-cy, <-a]
  ·simp at cy
def tZ(R:c6)(r:Option (Nat×F)):Option (Nat×Value):=r.map λx=>(x.1,aQ R x.2)
def amK{t:Nat}{fb:TypeDesc}{B:F}(be:C.P.underlying t=some fb)(nP:cj af B):∀(cb:List (F×F×Nat)) (i:Nat) (r:Option (Nat×F)) (gO:Option (Nat×Value)),
 (∀J∈cb,cj af J.1/\cj af J.2.1)->findKey C h t B cb i=some r->Instr.findNow fb (aQ R B) (cb.map (lx R)) i=some gO->gO=tZ R r:=by
 intro cb
 induction cb with
 |nil=>intro i r gO _ a cy;simp[findKey]at a;simp[Instr.findNow]at cy;subst a;subst cy;rfl
 |cons J cb ak=>
  intro i r gO b5 a cy
  obtain⟨e4,v,b⟩:=J
  simp only[findKey]at a
  simp only[ZK,Instr.findNow,lx]at cy
  split at a
  ·rename_i bx
   simp at a;subst a
   split at cy
   ·simp at cy;rw[<-cy];rfl
   ·rename_i aD
    have:=aey be nP (b5 (e4,v,b) (Zu ..)).1 bx aD
    simp at this
   ·simp at cy
  ·rename_i bx
   split at cy
   ·rename_i aD
    have:=aey be nP (b5 (e4,v,b) (Zu ..)).1 bx aD
    simp at this
   ·exact ak _ _ _ (λJ bx=>b5 J (by simp[bx])) a cy
   ·simp at cy
  ·simp at a
def amH(Z:dl C R af h j bj w){t:Nat}{B:F}(nP:cj af B):∀(cb:List (F×F×Nat)) (i:Nat) (r:Option (Nat×F)),
 (∀J∈cb,cj af J.1/\cj af J.2.1)->findKey C h t B cb i=some r->(Instr.findAsking t (aQ R B) (cb.map (lx R)) i).run C.P w= .ok (tZ R r) w:=by
 intro cb
 induction cb with
 |nil=>intro i r _ a;simp[findKey]at a;subst a;simp[Instr.findAsking,tZ]
 |cons J cb ak=>
  intro i r b5 a
  obtain⟨e4,v,b⟩:=J
  simp only[findKey]at a
  have bp:20<=Op.maxDepth:=by decide
  split at a
  ·rename_i bx
   simp at a;subst a
   have:=OS Z 20 _ t B e4 true bp nP (b5 (e4,v,b) (Zu ..)).1 bx
   simp[Instr.findAsking,Op.equal,lx,this,tZ]
  ·rename_i bx
   have:=OS Z 20 _ t B e4 false bp nP (b5 (e4,v,b) (Zu ..)).1 bx
   simp[Instr.findAsking,Op.equal,lx,this]
   exact ak _ _ (λJ bx=>b5 J (by simp[bx])) a
  ·simp at a
def PO(Z:dl C R af h j bj w){t:Nat}{fb:TypeDesc}{B:F}{cb:List (F×F×Nat)}{r:Option (Nat×F)}(be:C.P.underlying t=some fb)(nP:cj af B)
 (b5:∀J∈cb,cj af J.1/\cj af J.2.1)(a:findKey C h t B cb 0=some r):(Instr.findKey t (aQ R B) (cb.map (lx R))).run C.P w= .ok (tZ R r) w:=by
 simp only[Instr.findKey,Sem.run_bind,run_underlying be,Result.andThen_ok]
 split
 ·rename_i gO cy
  rw[amK be nP cb 0 r gO b5 a cy];rfl
 ·exact amH Z nP cb 0 r b5 a
def XQ{t:Nat}{B:F}:∀(cb:List (F×F×Nat)) (i aa:Nat) (v:F),findKey C h t B cb i=some (some (aa,v))->i<=aa/\∃J,cb[aa-i]? =some J/\J.2.1=v:=by
 intro cb
 induction cb with
 |nil=>intro i aa v a;simp[findKey]at a
 |cons J cb ak=>
  intro i aa v a
  obtain⟨e4,f9,b⟩:=J
  simp only[findKey]at a
  split at a
  ·simp at a
   obtain⟨rfl,rfl⟩:=a
   exact⟨Zi _,(e4,f9,b),Zs,rfl⟩
  ·obtain⟨Q,J,U,ar⟩:=ak _ _ _ a
   refine⟨Zo,J, ?_,ar⟩
   rw[show aa-i=(aa-(i+1))+1 by omega]
   simpa using U
  ·simp at a
def acI{t d:Nat}{B:F}(a:mL C d t B=true):∃fb,C.P.underlying t=some fb:=by
 cases d with
 |zero=>simp[mL]at a
 |succ d=>
  cases be:C.P.underlying t with
  |none=>simp[mL,be]at a
  |some fb=>exact⟨fb,rfl⟩
def Js(Z:dl C R af h j bj w){r:Nat}{cb:List (F×F×Nat)}{eX:Nat}(aM:af r)(a:ab C h r=some (.map cb eX)):
 ∃co,(getObj (R r).cE).run C.P w= .ok (.map co eX) w/\w.heap[(R r).cE]? =some (.map co eX)/\co.toList=cb.map (lx R)/\∀J∈cb,cj af J.1/\cj af J.2.1:=by
 obtain⟨co,Q,U,ar⟩:=Z.obj r _ a aM
 exact⟨co,MapKept.run_getObj_map Q,Q,U,ar⟩
def ac7{t:Nat}{B:F}{K b:List (F×F)}(a:K.Perm b):∀r,o1 C h t B K=some r->o1 C h t B b=some r:=by
 induction a with
 |nil=>exact λ_ a=>a
 |cons x _ ak=>
  obtain⟨e4,v⟩:=x
  intro r a
  simp only[o1]at a ⊢
  split at a
  ·rename_i Z bx
   rw[ak _ Z,bx];simpa using a
  ·rename_i Z bx
   rw[ak _ Z,bx];simpa using a
  ·cases a
 |swap x e l=>
  obtain⟨as2,N6⟩:=x
  obtain⟨sl,N7⟩:=e
  intro r a
  simp only[o1]at a ⊢
  cases aC:o1 C h t B l with
  |none=>simp[aC]at a
  |some jp=>
   simp only[aC]at a
   cases ah:kl C h 20 t B as2 with
   |none=>rw[ah]at a;cases jp<;>simp at a
   |some WP=>
    cases H:kl C h 20 t B sl with
    |none=>
     rw[ah,H]at a
     cases WP<;>cases jp<;>simp at a
    |some akT=>
     rw[ah,H]at a
     cases WP<;>cases akT<;>cases jp<;>simp at a ⊢ <;>exact a
 |trans _ _ R1 I5=>exact λr a=>I5 r (R1 r a)
def ac6{t:Nat}{B:F}:∀(cb:List (F×F×Nat)) (i:Nat) (r:Option F),o1 C h t B (cb.map λJ=>(J.1,J.2.1))=some r->∃gO,findKey C h t B cb i=some gO/\gO.map (·.2)=r:=by
 intro cb
 induction cb with
 |nil=>intro i r a;simp[o1]at a;subst a;exact⟨none,rfl,rfl⟩
 |cons J cb ak=>
  obtain⟨e4,f9,b⟩:=J
  intro i r a
  simp only[ZK,o1]at a
  simp only[findKey]
  split at a
  ·rename_i jp Z bx
   simp at a;subst a
   rw[bx]
   exact ak (i+1) _ Z
  ·rename_i Z bx
   simp at a;subst a
   rw[bx]
   exact⟨some (i,f9),rfl,rfl⟩
  ·cases a
def aj1(Z:dl C R af h j bj w){t:Nat}{m B v:F}{ok:Bool}(uj:cj af m)(nP:cj af B)(a:KD C h t m B ok=some v):
 (Instr.lookup t (aQ R m) (aQ R B) ok).run C.P w= .ok (aQ R v) w/\cj af v:=by
 unfold KD at a
 split at a
 ·rename_i jA Ax be
  have key:∀(cb:List (F×F×Nat)) (co:Array MapEntry) (r:Option (Nat×F)),co.toList=cb.map (lx R)->(∀J∈cb,cj af J.1/\cj af J.2.1)->mL C 20 jA B=true->findKey C h jA B cb 0=some r->
   (match r with|none=>(match sL C Ax with|some bt=>some (bP ok (.tuple [bt, .bool false]) bt)|none=>none)|some (_,v)=>some (bP ok (.tuple [v, .bool true]) v))=some v->
   (do
    Instr.checkKey co.isEmpty 10000 jA (aQ R B)
    let(v,Y)<-match<-Instr.findKey jA (aQ R B) co.toList with
     |some (_,v)=>pure (v,true)
     |none=>pure (<-zeroValue Ax,false)
    pure (if ok then .tuple #[v, .bool Y]else v):Sem Value).run C.P w= .ok (aQ R v) w/\cj af v:=by
   intro cb co r aE b5 aN ch bB
   obtain⟨fb,Mh⟩:=acI aN
   have Q:=Wj (C:=C) (R:=R) (af:=af) (w:=w) (J:=co.isEmpty) 20 10000 jA B Zd nP aN
   have U:=PO Z Mh nP b5 ch
   rw[aE]
   cases r with
   |none=>
    simp only at bB
    split at bB
    ·rename_i bt cv
     obtain⟨fW,fv⟩:=DQ cv R af w
     simp at bB;subst bB
     cases ok
     ·exact⟨by simp[Q,U,tZ,fW],fv⟩
     ·exact⟨by simp[Q,U,tZ,fW,aQ,bY],⟨fv,trivial,trivial⟩⟩
    ·simp at bB
   |some p=>
    obtain⟨aa,ae⟩:=p
    simp at bB;subst bB
    obtain⟨_,J,bx,rfl⟩:=XQ cb 0 aa ae ch
    have abb:=(b5 J (Zl bx)).2
    cases ok
    ·exact⟨by simp[Q,U,tZ],abb⟩
    ·exact⟨by simp[Q,U,tZ,aQ,bY],⟨abb,trivial,trivial⟩⟩
  split at a
  ·simp at a
  ·rename_i bp
   split at bp
   ·simp only[e0,Zf]at bp
    have:=key [] #[] none rfl Zs bp.1 (by simp[findKey]) a
    refine⟨?_,this.2⟩
    rw[<-this.1]
    simp only[Instr.lookup,Sem.run_bind,run_underlying be,Result.andThen_ok,aQ,Sem.run_pure]
    rfl
   ·rename_i r
    split at bp
    ·rename_i cb eX bl
     simp only[e0]at bp
     obtain⟨co,Q,_,U,ar⟩:=Js Z uj bl
     have:=key cb co none U ar bp.1 bp.2 a
     refine⟨?_,this.2⟩
     rw[<-this.1]
     simp only[Instr.lookup,Sem.run_bind,run_underlying be,Result.andThen_ok,aQ,Sem.run_pure,Q]
     rfl
    ·rename_i cb bl
     simp only[e0]at bp
     obtain⟨co,eX,lR,Q,U,aK,ar⟩:=Z.obj r _ bl uj
     have bC:o1 C h jA B cb=some none:=by
      have:=bp.2
      unfold F6 at this
      split at this<;>simp at this
      all_goals(rename_i am;first|(rw[am,this.2])|exact am|(rw[am];simp[this]))
     obtain⟨gO,eM,eZ⟩:=ac6 lR 0 _ (ac7 aK.symm _ bC)
     cases gO with
     |none=>
      have:=key lR co none U ar bp.1 eM a
      refine⟨?_,this.2⟩
      rw[<-this.1]
      simp only[Instr.lookup,Sem.run_bind,run_underlying be,Result.andThen_ok,aQ,Sem.run_pure,MapKept.run_getObj_map Q]
      rfl
     |some p=>
      obtain⟨fA,hx⟩:=p
      simp at eZ
    ·simp at bp
   ·simp at bp
  ·rename_i aa ae bp
   split at bp
   ·simp only[e0]at bp
    simp at bp
   ·rename_i r
    split at bp
    ·rename_i cb eX bl
     simp only[e0]at bp
     obtain⟨co,Q,_,U,ar⟩:=Js Z uj bl
     have:=key cb co (some (aa,ae)) U ar bp.1 bp.2 a
     refine⟨?_,this.2⟩
     rw[<-this.1]
     simp only[Instr.lookup,Sem.run_bind,run_underlying be,Result.andThen_ok,aQ,Sem.run_pure,Q]
     rfl
    ·rename_i cb bl
     simp only[e0]at bp
     obtain⟨co,eX,lR,Q,U,aK,ar⟩:=Z.obj r _ bl uj
     have bC:o1 C h jA B cb=some (some ae):=by
      have:=bp.2
      unfold F6 at this
      split at this<;>simp at this
      all_goals(rename_i am;first|(rw[am,this.2])|exact am|(rw[am];simp[this]))
     obtain⟨gO,eM,eZ⟩:=ac6 lR 0 _ (ac7 aK.symm _ bC)
     cases gO with
     |none=>
      simp at eZ
     |some p=>
      obtain⟨fA,hx⟩:=p
      simp at eZ
      subst eZ
      have:=key lR co (some (fA,hx)) U ar bp.1 eM a
      refine⟨?_,this.2⟩
      rw[<-this.1]
      simp only[Instr.lookup,Sem.run_bind,run_underlying be,Result.andThen_ok,aQ,Sem.run_pure,MapKept.run_getObj_map Q]
      rfl
    ·simp at bp
   ·simp at bp
 ·simp at a
end
end Go.bi

namespace Go.bi
open Go.RowKit (Below)
section
variable{C:aZ}{R:c6}{af:Nat->Prop}{h:V an}{j bj:Nat}{w:World}
def as7{t f:Nat}{x:Operand}{ay:Operand->Value}{eA:Operand->Option F}{v:F}(cA:jd R af ay eA [x])
 (a:Jj C t x f h eA=some v):(Instr.field t (ay x) f).run C.P w= .ok (aQ R v) w/\cj af v:=by
 unfold Jj at a
 split at a
 ·rename_i jH cs be ah
  obtain⟨J,g⟩:=cA x Zs _ ah
  rw[J]
  rw[pL]at a
  split at a
  ·rename_i rS ch
   have qj:jH[f]? =some rS:=by rw[<-ch];simp
   obtain⟨Q,U⟩:=Hc (R:=R) (w:=w) g a
   refine⟨?_,U⟩
   simp[Instr.field,run_underlying be,qj,asAgg,aQ,Q]
  ·simp at a
 ·simp at a
def as8{t:Nat}{x:Operand}{ay:Operand->Value}{eA:Operand->Option F}{v:F}(cA:jd R af ay eA [x])
 (a:Jk C t x h eA=some v):(Instr.makeInterface t (ay x)).run C.P w= .ok (aQ R v) w/\cj af v:=by
 unfold Jk at a
 split at a
 ·simp at a
 ·rename_i d ae aL be ah
  obtain⟨J,g⟩:=cA x Zs _ ah
  simp at a;subst a
  refine⟨?_,g⟩
  rw[J]
  cases d<;>first|exact(aL _ rfl).elim|simp[Instr.makeInterface,run_underlying be,aQ]
 ·simp at a
def as4{x:Operand}{t tX:Nat}{ok:Bool}{ay:Operand->Value}{eA:Operand->Option F}{v:F}(cA:jd R af ay eA [x])
 (a:Jh C x tX ok h eA=some v):(Instr.typeAssert (ay x) t tX ok).run C.P w= .ok (aQ R v) w/\cj af v:=by
 unfold Jh at a
 split at a
 ·simp at a
 ·rename_i d aL be ah
  obtain⟨J,g⟩:=cA x Zs _ ah
  rw[J]
  simp only[e0]at a
  obtain⟨rfl,a⟩:=a
  split at a
  ·rename_i bt cv
   simp at a;subst a
   obtain⟨fW,fv⟩:=DQ cv R af w
   refine⟨?_,fv,trivial,trivial⟩
   cases d<;>first|exact(aL _ rfl).elim|simp[Instr.typeAssert,run_underlying be,aQ,bY,fW]
  ·simp at a
 ·rename_i d e2 ae aL be ah
  obtain⟨J,g⟩:=cA x Zs _ ah
  rw[J]
  rw[hD]at a
  split at a
  ·rename_i bx
   subst bx
   simp at a
   cases ok
   ·simp at a;subst a
    refine⟨?_,g⟩
    cases d<;>first|exact(aL _ rfl).elim|simp[Instr.typeAssert,run_underlying be,aQ]
   ·simp at a;subst a
    refine⟨?_,g,trivial,trivial⟩
    cases d<;>first|exact(aL _ rfl).elim|simp[Instr.typeAssert,run_underlying be,aQ,bY]
  ·rename_i bx
   simp only[e0]at a
   obtain⟨rfl,a⟩:=a
   split at a
   ·rename_i bt cv
    simp at a;subst a
    obtain⟨fW,fv⟩:=DQ cv R af w
    refine⟨?_,fv,trivial,trivial⟩
    cases d<;>first|exact(aL _ rfl).elim|simp[Instr.typeAssert,run_underlying be,aQ,bY,fW,bx]
   ·simp at a
 ·simp at a
def ajZ(Z:dl C R af h j bj w){t:Nat}{dg:Array TypeId}{ty:TypeId}{x v:F}{rest:List TypeId}(aE:dg.toList=t::rest)(fy:cj af x)(a:KC C h t x=some v):
 (Builtin.len_ dg ty #[aQ R x]).run C.P w= .ok (aQ R v) w/\cj af v:=by
 have uq:dg[0]? =some t:=by rw[<-ZS,aE];rfl
 unfold KC at a
 split at a<;>(try simp only[acv]at a)
 ·rename_i s be
  simp at a;subst a
  refine⟨?_,trivial⟩
  have aD:(fX s).size=s.length:=by simp[fX,ByteArray.size]
  simp[Builtin.len_,uq,run_underlying be,aQ,goInt,aD]
 ·rename_i n s1 be
  simp at a;subst a
  refine⟨?_,trivial⟩
  simp[Builtin.len_,uq,run_underlying be,goInt]
  simp[aQ]
 ·rename_i co be
  split at a
  ·rename_i n s1 Db
   simp at a;subst a
   refine⟨?_,trivial⟩
   simp[Builtin.len_,uq,run_underlying be,run_underlying Db,goInt]
   simp[aQ]
  ·simp at a
 ·rename_i be
  simp at a;subst a
  refine⟨?_,trivial⟩
  simp[Builtin.len_,uq,run_underlying be,aQ,goInt]
 ·rename_i be
  simp at a;subst a
  refine⟨?_,trivial⟩
  simp[Builtin.len_,uq,run_underlying be,aQ,goInt]
 ·rename_i be
  simp at a;subst a
  refine⟨?_,trivial⟩
  simp[Builtin.len_,uq,run_underlying be,aQ,goInt]
 ·rename_i be
  simp at a;subst a
  refine⟨?_,trivial⟩
  simp[Builtin.len_,uq,run_underlying be,aQ,goInt]
 ·rename_i r be
  split at a
  ·rename_i cb eX bl
   simp at a;subst a
   obtain⟨co,Q,U,ar,aK⟩:=Js Z fy bl
   refine⟨?_,trivial⟩
   have:co.size=cb.length:=by rw[<-Array.length_toList,ar,Zn]
   simp[Builtin.len_,uq,run_underlying be,aQ,goInt,Q,this]
  ·simp at a
 ·simp at a
def ajS{t:Nat}{dg:Array TypeId}{ty:TypeId}{x v:F}{rest:List TypeId}(aE:dg.toList=t::rest)(a:Kz C t x=some v):
 (Builtin.cap_ dg ty #[aQ R x]).run C.P w= .ok (aQ R v) w/\cj af v:=by
 have uq:dg[0]? =some t:=by rw[<-ZS,aE];rfl
 unfold Kz at a
 split at a<;>(try simp only[acv]at a)
 ·rename_i be
  simp at a;subst a
  refine⟨?_,trivial⟩
  simp[Builtin.cap_,uq,run_underlying be,aQ,goInt]
 ·rename_i be
  simp at a;subst a
  refine⟨?_,trivial⟩
  simp[Builtin.cap_,uq,run_underlying be,aQ,goInt]
 ·simp at a
def aj3:∀(l:List F) (x v:F),ov true x l=some v->((bY R l).foldlM Builtin.max2 (aQ R x)).run C.P w= .ok (aQ R v) w/\(cj af x->cj af v):=by
 intro l
 induction l with
 |nil=>intro x v a;cases x<;>simp[ov]at a<;>subst a<;>simp[bY]
 |cons e l ak=>
  intro x v a
  unfold ov at a
  split at a
  ·rename_i b6;simp at b6
  ·rename_i B K e4 b b8 e3
   simp only[Yw]at e3
   obtain⟨rfl,rfl⟩:=e3
   obtain⟨Q,U⟩:=ak _ _ a
   refine⟨?_,λ_=>U trivial⟩
   simp only[bY,List.foldlM_cons,Sem.run_bind,aQ,Builtin.max2,Sem.run_pure,Result.andThen_ok]
   simp only[eP,tr,fw,Zh,aQ]at Q
   exact Q
  ·simp at a
def aj4:∀(l:List F) (x v:F),ov false x l=some v->((bY R l).foldlM Builtin.min2 (aQ R x)).run C.P w= .ok (aQ R v) w/\(cj af x->cj af v):=by
 intro l
 induction l with
 |nil=>intro x v a;cases x<;>simp[ov]at a<;>subst a<;>simp[bY]
 |cons e l ak=>
  intro x v a
  unfold ov at a
  split at a
  ·rename_i b6;simp at b6
  ·rename_i B K e4 b b8 e3
   simp only[Yw]at e3
   obtain⟨rfl,rfl⟩:=e3
   obtain⟨Q,U⟩:=ak _ _ a
   refine⟨?_,λ_=>U trivial⟩
   simp only[bY,List.foldlM_cons,Sem.run_bind,aQ,Builtin.min2,Sem.run_pure,Result.andThen_ok]
   simp only[jF,tr,fw,Zh,aQ]at Q
   exact Q
  ·simp at a
end
end Go.bi

namespace Go.bi
open Go.RowKit (Below)
section
variable{C:aZ}{R:c6}{af:Nat->Prop}{h:V an}{j bj:Nat}{w:World}
def jd.mono{ay:Operand->Value}{eA:Operand->Option F}{l b8:List Operand}(a:jd R af ay eA l)(aD:∀x∈b8,x∈l):jd R af ay eA b8:=λx ah v bB=>a x (aD x ah) v bB
def PI{ay:Operand->Value}{eA:Operand->Option F}{Y:Option Operand}{r:Option F}(cA:jd R af ay eA Y.toList)(a:Bz eA Y=some r):Y.map ay=r.map (aQ R):=by
 cases Y with
 |none=>simp[Bz]at a;subst a;rfl
 |some x=>
  simp only[Bz]at a
  split at a
  ·rename_i v bB
   simp at a;subst a
   simp[(cA x Zs v bB).1]
  ·simp at a
def aj0(Z:dl C R af h j bj w){oper:Oper}{ay:Operand->Value}{eA:Operand->Option F}{v:F}(cA:jd R af ay eA oper.op.operands.toList)
 (a:nH oper.op C h eA=some v):Kn R af C.P w (execOp ay oper) v:=by
 obtain⟨dst,op,type,pos,after,guard⟩:=oper
 cases op<;>simp only[nH]at a<;>(try(cases a;done))<;>simp only[execOp]<;>simp only[Op.operands]at cA
 case build t jP=>
  refine nJ ?_
  unfold Sd at a
  split at a
  ·rename_i dq RD
   obtain⟨Q,U⟩:=XE (by simpa using cA) RD
   have:=ajR (R:=R) (w:=w) U a
   rw[<-Q]at this
   have J:(jP.map λx=>(x.1,ay x.2))=(jP.toList.map λx=>(x.1,ay x.2)).toArray:=by apply YZ;simp
   rw[J];exact this
  ·simp at a
 case binOp op t x e GU=>exact nJ (as5 Z (by simpa using cA) a)
 case unOp op t x=>
  refine nJ ?_
  unfold Sl at a
  split at a
  ·rename_i K aE
   rw[(cA x Zs K aE).1]
   exact aj9 a
  ·simp at a
 case convert s d x=>exact nJ (as6 Z (by simpa using cA) a)
 case makeInterface t x=>exact nJ (as8 (by simpa using cA) a)
 case makeFunc fn first fH=>
  refine nJ ?_
  unfold Sh at a
  split at a
  ·rename_i K b aE aj
   split at a
   ·simp at a;subst a
    obtain⟨bh,cl⟩:=wb (cA.mono (by simp;intro x ah;exact .inl ah)) aE
    obtain⟨c0,dL⟩:=wb (cA.mono (by simp;intro x ah;exact .inr ah)) aj
    refine⟨?_,trivial,cl,dL⟩
    simp[Instr.makeFunc,bh,c0,aQ,mM]
   ·simp at a
  ·simp at a
 case slice t x bS aJ hb=>
  refine nJ ?_
  unfold Sk at a
  split at a
  ·rename_i K l cy m aE aC gD bp
   have Q:=cA x Zs K aE
   have U:=PI (cA.mono (by simp;intro x ah;exact .inr (.inl ah))) aC
   have ar:=PI (cA.mono (by simp;intro x ah;exact .inr (.inr (.inl ah)))) gD
   have aK:=PI (cA.mono (by simp;intro x ah;exact .inr (.inr (.inr ah)))) bp
   rw[Q.1,U,ar,aK]
   exact aj6 Z Q.2 a
  ·simp at a
 case field t x f=>exact nJ (as7 (by simpa using cA) a)
 case index t x i=>
  refine nJ ?_
  unfold Si at a
  split at a
  ·rename_i K b aE aj
   have Q:=cA x Zs K aE
   rw[Q.1,(cA i Zs b aj).1]
   exact ajX Q.2 a
  ·simp at a
 case lookup t m B ok=>
  refine nJ ?_
  unfold Sj at a
  split at a
  ·rename_i K b aE aj
   have Q:=cA m Zs K aE
   have U:=cA B Zs b aj
   rw[Q.1,U.1]
   exact aj1 Z Q.2 U.2 a
  ·simp at a
 case typeAssert x t tX ok=>exact nJ (as4 (by simpa using cA) a)
 case call c=>
  unfold Sf at a
  split at a
  ·rename_i b args dg
   simp only[Call.operands]at cA
   have MR:jd R af ay eA args.toList:=cA.mono Zs
   unfold Se at a
   split at a
   ·rename_i x ah
    obtain⟨bh,cl⟩:=wb MR ah
    split at a
    ·rename_i t rest aE
     obtain⟨Q,U⟩:=ajZ (ty:=type) Z aE cl.1 a
     refine⟨?_,U⟩
     simp[resolve,invoke,builtin,bh,bY,Q]
    ·simp at a
   ·rename_i x ah
    obtain⟨bh,cl⟩:=wb MR ah
    split at a
    ·rename_i t rest aE
     obtain⟨Q,U⟩:=ajS (R:=R) (af:=af) (w:=w) (ty:=type) aE a
     refine⟨?_,U⟩
     simp[resolve,invoke,builtin,bh,bY,Q]
    ·simp at a
   ·rename_i x l ah
    obtain⟨bh,cl⟩:=wb MR ah
    obtain⟨Q,U⟩:=aj3 (C:=C) (R:=R) (af:=af) (w:=w) l x v a
    refine⟨?_,U cl.1⟩
    simp[resolve,invoke,builtin,Builtin.max_,bh,bY,Q]
   ·rename_i x l ah
    obtain⟨bh,cl⟩:=wb MR ah
    obtain⟨Q,U⟩:=aj4 (C:=C) (R:=R) (af:=af) (w:=w) l x v a
    refine⟨?_,U cl.1⟩
    simp[resolve,invoke,builtin,Builtin.min_,bh,bY,Q]
   ·simp at a
  ·simp at a
def ac2(Z:dl C R af h j bj w){oper:Oper}{ay:Operand->Value}{eh:List (Nat×Nat)}{aw:List (Nat×F)}{M:V F}{c:jC}{v:F}
 (cA:jd R af ay (iX eh aw M) oper.op.operands.toList)(aB:ls C eh oper.op=some c)(a:gS c C h aw M=some v):Kn R af C.P w (execOp ay oper) v:=by
 have rest:∀Y,oper.op=Y->c= .hV eh Y->Kn R af C.P w (execOp ay oper) v:=by
  intro Y bl CG
  subst CG;subst bl
  exact aj0 Z cA a
 obtain⟨dst,op,type,pos,after,guard⟩:=oper
 cases op<;>simp only[ls]at aB<;>simp only[Op.operands]at cA
 case move x=>
  split at aB
  ·rename_i iC ah
   simp at aB;subst aB
   simp only[gS,na ah]at a
   obtain⟨Q,U⟩:=cA x Zs v a
   exact⟨by simp[execOp,Q],U⟩
  ·simp at aB
 case assign x=>
  split at aB
  ·rename_i iC ah
   simp at aB;subst aB
   simp only[gS,na ah]at a
   obtain⟨Q,U⟩:=cA x Zs v a
   exact⟨by simp[execOp,Q],U⟩
  ·simp at aB
 case pick f0 K b=>
  split at aB
  ·rename_i azd fN dP QU aE aj
   simp at aB;subst aB
   simp only[gS,na QU]at a
   split at a
   ·rename_i ae be
    obtain⟨Q,U⟩:=cA f0 Zs ae be
    unfold Og at a
    split at a
    ·rename_i t
     rw[na aE,na aj]at a
     simp only[execOp,Q,aQ]
     cases t
     ·obtain⟨ar,aK⟩:=cA b Zs v (by simpa using a)
      exact⟨by simp[asBool,ar],aK⟩
     ·obtain⟨ar,aK⟩:=cA K Zs v (by simpa using a)
      exact⟨by simp[asBool,ar],aK⟩
    ·simp at a
   ·simp at a
  ·simp at aB
 case load t K=>
  split at aB
  ·rename_i fN s aE Q U
   simp at aB;subst aB
   simp only[gS,na aE]at a
   split at a
   ·rename_i ae be
    obtain⟨ar,aK⟩:=cA K Zs ae be
    simp only[execOp,ar]
    exact nJ (Wl Z Q U aK a)
   ·simp at a
  ·rename_i fN aE Q
   simp at aB;subst aB
   simp only[gS,na aE]at a
   split at a
   ·rename_i ae be
    obtain⟨ar,aK⟩:=cA K Zs ae be
    simp only[execOp,ar]
    exact nJ (Wk Z Q aK a)
   ·simp at a
  ·simp at aB
 case fieldAddr s x f=>
  split at aB
  ·rename_i jH iC be ah
   rw[pL]at aB
   split at aB
   ·rename_i rS ch
    split at aB
    ·rename_i bt cv
     simp only[EJ]at aB
     obtain⟨k9,aB⟩:=aB
     simp at aB;subst aB
     simp only[gS,na ah]at a
     split at a
     ·rename_i ae tm
      obtain⟨ar,aK⟩:=cA x Zs ae tm
      simp only[execOp,ar]
      exact nJ (amD be ch cv (by intro J;subst J;simp at k9) aK a)
     ·simp at a
    ·simp at aB
   ·simp at aB
  ·simp at aB
 case indexAddr t x i=>
  split at aB
  ·rename_i n ee iC cB be ah aJ
   split at aB
   ·rename_i a1 cv
    simp at aB;subst aB
    simp only[gS,na ah,na aJ]at a
    split at a
    ·rename_i ae tm
     split at a
     ·rename_i aa bG
      split at a
      ·rename_i aV aL
       obtain⟨B,rfl⟩:=Dt aL
       obtain⟨ar,aK⟩:=cA x Zs ae tm
       obtain⟨bH,cu⟩:=cA i Zs _ bG
       simp only[execOp,ar,bH,aQ]
       exact nJ (asq be cv aK a)
      ·simp at a
     ·simp at a
    ·simp at a
   ·simp at aB
  ·rename_i ee iC cB be ah aJ
   split at aB
   ·rename_i a1 cv
    simp at aB;subst aB
    simp only[gS,na ah,na aJ]at a
    split at a
    ·rename_i ae tm
     split at a
     ·rename_i aa bG
      split at a
      ·rename_i aV aL
       obtain⟨B,rfl⟩:=Dt aL
       obtain⟨ar,aK⟩:=cA x Zs ae tm
       obtain⟨bH,cu⟩:=cA i Zs _ bG
       simp only[execOp,ar,bH,aQ]
       exact nJ (ast be cv aK a)
      ·simp at a
     ·simp at a
    ·simp at a
   ·simp at aB
  ·simp at aB
 case nilCheck x=>
  split at aB
  ·rename_i iC ah
   simp at aB;subst aB
   simp only[gS,na ah]at a
   split at a
   ·rename_i ae be
    obtain⟨ar,aK⟩:=cA x Zs ae be
    obtain⟨rfl,bH⟩:=ayM (C:=C) (R:=R) (w:=w) aK a
    exact⟨bH _ ay x rfl ar,aK⟩
   ·simp at a
  ·simp at aB
 case binOp op t x e GU=>
  rw[fw]at aB
  split at aB
  ·split at aB
   ·rename_i iC aBR ah H
    simp at aB;subst aB
    simp only[gS,na ah,na H]at a
    split at a
    ·rename_i K aE
     split at a
     ·rename_i b aj
      obtain⟨Q,U⟩:=cA x Zs K aE
      obtain⟨ar,aK⟩:=cA e Zs b aj
      obtain⟨bH,cu,B,i,e4,aa,rfl,rfl⟩:=Wi (C:=C) (R:=R) (af:=af) (w:=w) t a
      simp only[execOp,Q,ar]
      refine nJ ⟨?_,cu⟩
      rw[Sem.run_bind,K7 (by simp[ER])]
      exact bH
     ·simp at a
    ·simp at a
   ·simp at aB
  ·simp at aB;exact rest _ rfl aB.symm
 case extract x i=>
  split at aB
  ·rename_i iC ah
   simp at aB;subst aB
   simp only[gS,na ah]at a
   split at a
   ·rename_i ae be
    obtain⟨ar,aK⟩:=cA x Zs ae be
    simp only[execOp,ar]
    exact nJ (ayL aK a)
   ·simp at a
  ·simp at aB
 case convert s d x=>
  rw[fw]at aB
  split at aB
  ·simp at aB;subst aB;simp[gS]at a
  ·simp at aB;exact rest _ rfl aB.symm
 case store t K x=>
  split at aB
  ·simp at aB;subst aB;simp[gS]at a
  ·simp at aB
 case makeMap t r=>cases r<;>simp[ls]at aB<;>subst aB<;>simp[gS]at a
 case call rP=>
  obtain⟨callee,args,dg⟩:=rP
  cases callee with
  |builtin b=>
   cases b<;>simp[ls]at aB<;>first
    |exact rest _ rfl aB.symm
    |(subst aB;simp[gS]at a)
  |value f=>
   cases f<;>simp[ls]at aB
   all_goals first
    |(subst aB;simp[gS]at a;done)
    |(
      split at aB
      ·simp at aB;subst aB;simp[gS]at a
      ·simp at aB)
  |invoke r m=>simp[ls]at aB;subst aB;simp[gS]at a
 all_goals(simp at aB;first|exact rest _ rfl aB.symm|(subst aB;simp[gS]at a))
end
end Go.bi

namespace Go.bi
open Go.RowKit (Below)
def fR{C:aZ}{h:V an}{b:Nat}(Y:Option an)(aj:C.a8<=b)(x:Nat):ab C (bn C h b Y) x=if x=b then Y else ab C h x:=by
 unfold ab bn
 rw[fw,fw]
 by_cases ah:Nat.blt x C.a8=true
 ·have:=k4 ah
  rw[Zq ah,Zq ah,Zg Zo]
 ·have qq:C.a8<=x:=by
   rcases Y1 x C.a8 with a|a
   ·exact absurd (by simp[Nat.blt];omega) ah
   ·exact a
  rw[Zg ah,Zg ah,V.kc]
  show(if b-C.a8=x-C.a8 then Y else h.get (x-C.a8))=_
  by_cases J:x=b
  ·rw[Zq Zo,Zq J]
  ·rw[Zg Zo,Zg J];rfl
def aba{C:aZ}:∀(l:List Nat) (h:V an) (x:Nat),(∀b∈l,C.a8<=b)->ab C (oU C l h) x=if x∈l then none else ab C h x:=by
 intro l
 induction l with
 |nil=>intro h x _;simp[oU]
 |cons b l ak=>
  intro h x a
  simp only[oU]
  rw[ak _ _ (λc aB=>a c (by simp[aB])),fR _ (a b Zs)]
  by_cases ah:x∈l
  ·simp[ah]
  ·by_cases J:x=b
   ·simp[J]
   ·simp[ah,J]
def gn(R:c6)(b:Nat)(pl:mc):c6:=λx=>if x=b then pl else R x
def add(af:Nat->Prop)(b:Nat):Nat->Prop:=λx=>af x\/x=b
structure il(C:aZ)(de:Nat)(R:c6)(af:Nat->Prop)(h:V an)(bj:Nat)(w:World)(db:c6)(dB:Nat->Prop)(T:V an)(bW:World):Prop where
 iA:∀b,af b->db b=R b
 jt:∀b,af b->dB b
 new:∀b,dB b->af b\/de<=b
 ad:∀b,¬af b->b<de->ab C T b=ab C h b
 below:Below bj w bW
def il.refl{C:aZ}{de:Nat}{R:c6}{af:Nat->Prop}{h:V an}{bj:Nat}{w:World}:il C de R af h bj w R af h w:=
 ⟨λ_ _=>rfl,λ_ a=>a,λ_ a=> .inl a,λ_ _ _=>rfl, .refl _ _⟩
def il.trans{C:aZ}{de Jo:Nat}{R db afL:c6}{af dB TZ:Nat->Prop}{h T V2:V an}{bj:Nat}{w bW afe:World}(a:il C de R af h bj w db dB T bW)(aC:de<=Jo)
 (B:il C Jo db dB T bj bW afL TZ V2 afe):il C de R af h bj w afL TZ V2 afe:=
 ⟨λb aj=>(B.iA b (a.jt b aj)).trans (a.iA b aj),λb aj=>B.jt b (a.jt b aj),
  λb aj=>(B.new b aj).elim (λaj=>a.new b aj) (λaj=> .inr Zo),
  λb aj hk=>by
   have aL:¬dB b:=λaM=>(a.new b aM).elim aj (λam=>Zo)
   rw[B.ad b aL Zo,a.ad b aj hk],
  a.below.trans B.below⟩
section
variable{C:aZ}{R db:c6}{af dB:Nat->Prop}{h T:V an}{j au bj:Nat}{w bW:World}
def p4(dJ:∀b,af b->db b=R b){v:F}(g:cj af v):aQ db v=aQ R v:=Pk dJ v g
def xT(dJ:∀b,af b->db b=R b){l:List F}(g:es af l):bY db l=bY R l:=EL dJ l g
def je.ad{n av:Nat}{M:V F}{tmps:Array Value}(dJ:∀b,af b->db b=R b)(gB:∀b,af b->dB b)(a:je R af n av M tmps):je db dB n av M tmps:=
 ⟨a.size,λt v aC bB=>by
  obtain⟨Q,U⟩:=a.val t v aC bB
  exact⟨by rw[Q,p4 dJ U],oE gB v U⟩⟩
def Pc(dJ:∀b,af b->db b=R b){d:hA}(g:wu af d):lr db d=lr R d:=by
 obtain⟨t,ct⟩:=d
 obtain⟨b4,b7⟩:=g
 simp only[lr,xT dJ b7]
 congr 1
 cases t with
 |fn fn cs=>
  obtain⟨Q,U⟩:=b4
  have J:mM db fn=mM R fn:=by
   cases fn<;>simp only[mM]
   rw[dJ _ Q]
  simp only[Cb,J,xT dJ U]
 |collected r=>simp only[Cb,dJ r b4]
def ε(gB:∀b,af b->dB b){d:hA}(g:wu af d):wu dB d:=by
 obtain⟨t,ct⟩:=d
 refine⟨?_,qZ gB _ g.2⟩
 cases t with
 |fn fn cs=>exact⟨by cases fn<;>first|exact gB _ g.1.1|exact g.1.1,qZ gB _ g.1.2⟩
 |collected r=>exact gB _ g.1
def jT.ad{Y:an}{pl:mc}(dJ:∀b,af b->db b=R b)(gB:∀b,af b->dB b)(bJ:bW.heap[pl.cE]? =w.heap[pl.cE]?)(a:jT C R af Y pl w):jT C db dB Y pl bW:=by
 cases Y with
 |cells c n st=>
  obtain⟨co,ty,bS,aJ,Q,U,ar,aK⟩:=a
  refine⟨co,ty,bS,aJ,by rw[bJ,Q],U,ar,λi v bB=> ?_⟩
  obtain⟨bH,cu⟩:=aK i v bB
  exact⟨by rw[bH,p4 dJ cu],oE gB v cu⟩
 |map cb eX=>
  obtain⟨co,Q,U,ar⟩:=a
  refine⟨co,by rw[bJ,Q], ?_,λJ bx=>⟨oE gB _ (ar J bx).1,oE gB _ (ar J bx).2⟩⟩
  rw[U]
  apply YE
  intro J bx
  simp only[lx,p4 dJ (ar J bx).1,p4 dJ (ar J bx).2]
 |look cb=>
  obtain⟨co,eX,lR,Q,U,aK,ar⟩:=a
  refine⟨co,eX,lR,by rw[bJ,Q], ?_,aK,λJ bx=>⟨oE gB _ (ar J bx).1,oE gB _ (ar J bx).2⟩⟩
  rw[U]
  apply YE
  intro J bx
  simp only[lx,p4 dJ (ar J bx).1,p4 dJ (ar J bx).2]
 |oh s pos=>exact⟨a.1,by rw[bJ,a.2.1],a.2.2⟩
 |yM m vw seen st=>
  obtain⟨b6,Q,U⟩:=a
  refine⟨b6, ?_,λb aj=>gB b (U b aj)⟩
  rw[bJ,Q]
  cases m with
  |none=>rfl
  |some m=>simp only[ZV,dJ m (U m rfl)]
 |Ga m vw n cH st m9=>
  obtain⟨b6,Q,seen,U,ar⟩:=a
  exact⟨b6,gB m Q,seen,by rw[bJ,U,dJ m Q],ar⟩
 |loop state pending fn n av M params assign body bd=>
  obtain⟨tmps,Q,U,ar,aK⟩:=a
  exact⟨tmps,by rw[bJ,Q,dJ bd ar],U.ad dJ gB,gB _ ar,aK⟩
 |deferred pr=>
  obtain⟨Q,U⟩:=a
  refine⟨?_,λl aC d aM=>ε gB (U l aC d aM)⟩
  rw[bJ,Q]
  cases pr with
  |none=>rfl
  |some l=>
   simp only[ZV]
   congr 3
   exact YE λd aM=>(Pc dJ (U l rfl d aM)).symm
def jT.lt{Y:an}{pl:mc}(a:jT C R af Y pl w):pl.cE<w.heap.size:=by
 have:∃x,w.heap[pl.cE]? =some x:=by
  cases Y with
  |cells c n st=>obtain⟨co,ty,bS,aJ,Q,_⟩:=a;exact⟨_,Q⟩
  |map cb eX=>obtain⟨co,Q,_⟩:=a;exact⟨_,Q⟩
  |look cb=>obtain⟨co,eX,lR,Q,_⟩:=a;exact⟨_,Q⟩
  |oh s pos=>exact⟨_,a.2.1⟩
  |yM m vw seen st=>exact⟨_,a.2.1⟩
  |Ga m vw n cH st m9=>obtain⟨_,_,seen,Q,_⟩:=a;exact⟨_,Q⟩
  |loop state pending fn n av M params assign body bd=>obtain⟨tmps,Q,_⟩:=a;exact⟨_,Q⟩
  |deferred pr=>exact⟨_,a.1⟩
 obtain⟨x,ah⟩:=this
 exact(ZQ.1 ah).1
def dl.alloc(Z:dl C R af h j bj w){b:Nat}{pl:mc}{cT:an}{Y:Obj}(aj:C.a8<=b)(c1:b<au)(abE:j<=au)(aL:¬af b)(ew:bj<=w.heap.size)(sa:pl.cE=w.heap.size)
 (iJ:ab C T b=some cT)(LQ:∀x,x≠b->ab C T x=ab C h x\/ab C T x=none)(bl:jT C (gn R b pl) (add af b) cT pl (w.alloc Y))(tk:v6 C (add af b) cT):
 dl C (gn R b pl) (add af b) T au bj (w.alloc Y):=by
 have dJ:∀x,af x->gn R b pl x=R x:=λx ah=>by
  unfold gn;rw[Zg];intro J;subst J;exact aL ah
 have jI:gn R b pl b=pl:=by unfold gn;rw[Zq rfl]
 have CX:∀B,B<w.heap.size->(w.alloc Y).heap[B]? =w.heap[B]? :=λB aN=>Below.heap_alloc _ _ _ aN
 have key:∀x dr,ab C T x=some dr->add af b x->x≠b->ab C h x=some dr/\af x/\(R x).cE<w.heap.size:=by
  intro x dr ah aM dD
  have r2:af x:=aM.resolve_right dD
  rcases LQ x dD with a|a
  ·have:ab C h x=some dr:=by rw[<-a,ah]
   exact⟨this,r2,(Z.obj x dr this r2).lt⟩
  ·rw[a]at ah;cases ah
 refine⟨Zz Z.a8 abE, ?_, ?_, ?_, ?_, ?_, ?_⟩
 ·intro x ah
  rcases ah with ah|ah
  ·have:=Z.lt x ah;omega
  ·omega
 ·intro x dr ah
  by_cases J:x=b
  ·omega
  ·rcases LQ x J with a|a
   ·have:=Z.vl x dr (by rw[<-a,ah]);omega
   ·rw[a]at ah;cases ah
 ·intro x dr ah aM
  by_cases J:x=b
  ·subst J
   rw[iJ]at ah;cases ah
   rw[jI];exact bl
  ·obtain⟨Q,U,ar⟩:=key x dr ah aM J
   rw[dJ x U]
   exact(Z.obj x dr Q U).ad dJ (λ_ a=> .inl a) (CX _ ar)
 ·intro x e dr pP ah H dE oz dD lF e3
  by_cases J:x=b
  ·subst J
   by_cases cF:e=x
   ·exact absurd cF.symm dD
   ·obtain⟨Q,U,ar⟩:=key e pP H oz cF
    rw[jI,dJ e U]at e3
    omega
  ·obtain⟨Q,U,ar⟩:=key x dr ah dE J
   by_cases cF:e=b
   ·subst cF
    rw[jI,dJ x U]at e3
    omega
   ·obtain⟨aK,bH,cu⟩:=key e pP H oz cF
    rw[dJ x U,dJ e bH]at e3 ⊢
    exact Z.sep x e dr pP Q aK U bH dD lF e3
 ·intro x dr lF ah aM
  by_cases J:x=b
  ·subst J;rw[jI];omega
  ·obtain⟨Q,U,ar⟩:=key x dr ah aM J
   rw[dJ x U]
   exact Z.base x dr lF Q U
 ·intro x dr ah aM
  by_cases J:x=b
  ·subst J;rw[iJ]at ah;cases ah;exact tk
  ·obtain⟨Q,U,ar⟩:=key x dr ah aM J
   refine⟨λc n l aC e H=> ?_,(Z.fm x dr Q U).2⟩
   obtain⟨b4,b7⟩:=(Z.fm x dr Q U).1 c n l aC e H
   exact⟨.inl b4,b7⟩
def dl.XK(Z:dl C R af h j bj w)(iJ:∀x,ab C T x=ab C h x\/ab C T x=none):dl C R af T j bj w:=by
 have key:∀x dr,ab C T x=some dr->ab C h x=some dr:=by
  intro x dr ah
  rcases iJ x with a|a
  ·rw[<-a,ah]
  ·rw[a]at ah;cases ah
 exact⟨Z.a8,Z.lt,λx dr ah=>Z.vl x dr (key x dr ah),λx dr ah aM=>Z.obj x dr (key x dr ah) aM,
  λx e dr pP ah H dE oz dD lF e3=>Z.sep x e dr pP (key x dr ah) (key e pP H) dE oz dD lF e3,λx dr lF ah aM=>Z.base x dr lF (key x dr ah) aM,λx dr ah aM=>Z.fm x dr (key x dr ah) aM⟩
def dl.put(Z:dl C R af h j bj w){b:Nat}{cT ob:an}(aj:C.a8<=b)(aM:af b)(hF:ab C h b=some cT)(iJ:ab C T b=some ob)
 (LQ:∀x,x≠b->ab C T x=ab C h x\/ab C T x=none)(bJ:∀B,B≠(R b).cE->bW.heap[B]? =w.heap[B]?)
 (lE:∀x dr,x≠b->ab C T x=some dr->af x->(R x).cE=(R b).cE->False)(bl:jT C R af ob (R b) bW)(tk:v6 C af ob):dl C R af T j bj bW:=by
 have key:∀x dr,x≠b->ab C T x=some dr->ab C h x=some dr:=by
  intro x dr dD ah
  rcases LQ x dD with a|a
  ·rw[<-a,ah]
  ·rw[a]at ah;cases ah
 refine⟨Z.a8,Z.lt, ?_, ?_, ?_, ?_, ?_⟩
 ·intro x dr ah
  by_cases J:x=b
  ·subst J;exact Z.lt x aM
  ·exact Z.vl x dr (key x dr J ah)
 ·intro x dr ah dE
  by_cases J:x=b
  ·subst J;rw[iJ]at ah;cases ah;exact bl
  ·exact(Z.obj x dr (key x dr J ah) dE).ad (λ_ _=>rfl) (λ_ a=>a) (bJ _ λam=>lE x dr J ah dE am)
 ·intro x e dr pP ah H dE oz dD lF e3
  by_cases J:x=b
  ·subst J
   exact(lE e pP (λam=>dD am.symm) H oz e3.symm).elim
  ·by_cases cF:e=b
   ·subst cF;exact(lE x dr J ah dE e3).elim
   ·exact Z.sep x e dr pP (key x dr J ah) (key e pP cF H) dE oz dD lF e3
 ·intro x dr lF ah dE
  by_cases J:x=b
  ·subst J;exact Z.base x cT lF hF aM
  ·exact Z.base x dr lF (key x dr J ah) dE
 ·intro x dr ah dE
  by_cases J:x=b
  ·subst J;rw[iJ]at ah;cases ah;exact tk
  ·exact Z.fm x dr (key x dr J ah) dE
def Km(Y:an):Prop:=(∀c n,Y≠ .cells c n .jR)/\(∀c n l,Y≠ .cells c n (.grow l))
def dl.alone(Z:dl C R af h j bj w){b:Nat}{cT:an}(aj:C.a8<=b)(aM:af b)(hF:ab C h b=some cT)(aE:Km cT):
 ∀x dr,x≠b->ab C h x=some dr->af x->(R x).cE=(R b).cE->False:=by
 intro x dr dD ah dE e3
 rcases(Z.sep b x cT dr hF ah aM dE (λam=>dD am.symm) aj e3.symm).1 with ⟨c,n,_,_,am,_⟩|⟨c,n,l,_,_,am,_⟩|⟨_,_,_,c,n,_,am,_⟩
 ·exact aE.1 _ _ am
 ·exact aE.2 _ _ _ am
 ·exact aE.1 _ _ am
end
end Go.bi

namespace Go.bi
open Go.RowKit (Below)
section
variable{C:aZ}{R db:c6}{af dB:Nat->Prop}{h T:V an}{j au bj:Nat}{w bW:World}
def ux(w:World)(Y:Obj):(w.alloc Y).heap[w.heap.size]? =some Y:=by
 show(w.heap.push Y)[w.heap.size]? =_
 simp
def k1(R:c6)(b:Nat)(pl:mc):gn R b pl b=pl:=by unfold gn;rw[Zq rfl]
def qF{b:Nat}{pl:mc}(aL:¬af b):∀x,af x->gn R b pl x=R x:=λx ah=>by
 unfold gn;rw[Zg];intro J;subst J;exact aL ah
def jG(R:c6)(l:List F):(bY R l).length=l.length:=by rw[pt,Zn]
def At(R:c6)(l:List F)(i:Nat):(bY R l)[i]? =(l[i]?).map (aQ R):=by rw[pt,Zx]
def Cd(R:c6)(K b:List F):bY R (K++b)=bY R K++bY R b:=by simp[pt]
def AE{K b:List F}(aE:es af K)(aj:es af b):es af (K++b):=by
 rw[uk]at*
 intro v bB
 rcases Zy.1 bB with a|a
 ·exact aE v a
 ·exact aj v a
def AF{l:List F}(a:es af l){i:Nat}{v:F}(bB:l[i]? =some v):cj af v:=(uk af l).1 a v (Zl bB)
def kw(l:List F)(i:Nat):(V.ofList l 0 .nil).get i=l[i]? :=by
 rw[V.Lp]
 split
 ·simp
 ·rename_i a
  have:l.length<=i:=Zo
  rw[ZG this];rfl
def KM{l:List F}(g:es af l)(ty:TypeId)(r:Nat)(w:World):jT C R af (.cells (V.ofList l 0 .nil) l.length .own) ⟨w.heap.size,0,r⟩ (w.alloc (.cells (bY R l).toArray ty)):=by
 refine⟨_,ty,0,0,ux _ _,rfl,by simp[jG],λi v bB=> ?_⟩
 rw[kw]at bB
 refine⟨?_,AF g bB⟩
 simp only[ZI,List.getElem?_toArray,At,bB,ZV]
def DO(n:Nat)(bt:List F):(kz n bt).length=n*bt.length:=by
 induction n with
 |zero=>simp[kz]
 |succ n ak=>simp[kz,ak,zm,Nat.add_comm]
def av1(bt:List F):∀(n i:Nat),i<n*bt.length->(kz n bt)[i]? =bt[i%bt.length]? :=by
 intro n
 induction n with
 |zero=>intro i a;omega
 |succ n ak=>
  intro i a
  simp only[kz]
  rw[zm]at a
  by_cases aJ:i<bt.length
  ·rw[ZO aJ,YI aJ]
  ·rw[ZE Zo,ak _ Zo]
   congr 1
   exact(Nat.mod_eq_sub_mod Zo).symm
def Qc{bt:List F}(a:es af bt):∀n,es af (kz n bt):=by
 intro n
 induction n with
 |zero=>trivial
 |succ n ak=>exact AE a ak
def aek(R:c6)(bt:List F)(n:Nat):((Array.range (n*bt.length)).map λi=>(bY R bt).toArray[i%bt.length]!)=(bY R (kz n bt)).toArray:=by
 apply YZ
 rw[Array.toList_map,Array.toList_range]
 show _=bY R (kz n bt)
 apply Ys
 intro i
 rw[Zx,At]
 by_cases aJ:i<n*bt.length
 ·rw[List.getElem?_range aJ,av1 bt n i aJ]
  have cv:0<bt.length:=by
   rcases Nat.eq_zero_or_pos bt.length with a|a
   ·rw[a]at aJ;omega
   ·exact a
  have bp:i%bt.length<bt.length:=Nat.mod_lt _ cv
  simp only[ZV]
  rw[Ze bp]
  simp only[ZV,Zf]
  rw[getElem!_pos _ _ (by simpa[jG]using bp)]
  simp[pt]
 ·have Q:(List.range (n*bt.length))[i]? =none:=ZG (by simp;omega)
  have U:(kz n bt)[i]? =none:=ZG (by rw[DO];omega)
  rw[Q,U];rfl
def ael(R:c6)(bt:List F)(s n:Nat)(cv:bt.length=s)(zero:Array Value)(b6:n*s≠0->zero=(bY R bt).toArray):
 ((Array.range (n*s)).map (zero[·%zero.size]!))=(bY R (kz n bt)).toArray:=by
 subst cv
 by_cases a:n*bt.length=0
 ·have Q:kz n bt=[]:=List.length_eq_zero_iff.1 (by rw[DO];exact a)
  rw[a,Q];simp[bY]
 ·rw[b6 a, <-aek]
  simp[jG]
def ade{oper:Oper}{ay:Operand->Value}{eA:Operand->Option F}{b:Nat}{v:F}{cT:an}(aL:¬af b)(cA:jd R af ay eA oper.op.operands.toList)
 (a:p1 oper.op C eA b=some (v,cT)):∃Y,(execOp ay oper).run C.P w= .ok (.value (aQ (gn R b ⟨w.heap.size,0,0⟩) v)) (w.alloc Y)/\cj (add af b) v/\
  jT C (gn R b ⟨w.heap.size,0,0⟩) (add af b) cT ⟨w.heap.size,0,0⟩ (w.alloc Y):=by
 have dJ:=qF (R:=R) (pl:=⟨w.heap.size,0,0⟩) aL
 have gB:∀x,af x->add af b x:=λ_ a=> .inl a
 obtain⟨dst,op,type,pos,after,guard⟩:=oper
 cases op<;>simp only[p1]at a<;>(try(cases a;done))<;>simp only[execOp]<;>simp only[Op.operands]at cA
 case alloc t=>
  unfold Dp at a
  split at a
  ·rename_i bt cv
   simp at a;obtain⟨rfl,rfl⟩:=a
   obtain⟨fW,fv⟩:=DQ cv R af w
   refine⟨.cells (bY R bt.cells).toArray t, ?_, .inr rfl, ?_⟩
   ·simp[Instr.alloc,fW,newVar,newRow,t2,aQ,k1]
   ·have:=KM (C:=C) (R:=gn R b ⟨w.heap.size,0,0⟩) (af:=add af b) (qZ gB _ (t6 fv)) t 0 w
    rw[xT dJ (t6 fv)]at this
    exact this
  ·simp at a
 case box t x=>
  unfold Jq at a
  split at a
  ·rename_i ae be
   simp at a;obtain⟨rfl,rfl⟩:=a
   obtain⟨Q,U⟩:=cA x Zs ae be
   refine⟨.cells (bY R ae.cells).toArray t, ?_, .inr rfl, ?_⟩
   ·simp[Instr.box,newVar,newRow,Q,t2,aQ,k1]
   ·have:=KM (C:=C) (R:=gn R b ⟨w.heap.size,0,0⟩) (af:=add af b) (qZ gB _ (t6 U)) t 0 w
    rw[xT dJ (t6 U)]at this
    exact this
  ·simp at a
 case buildSlice t len jP=>
  unfold Jr at a
  split at a
  ·rename_i ee dq be RD
   split at a
   ·rename_i s bt aD cv
    simp only[e0,Zp]at a
    obtain⟨⟨Q,U⟩,a⟩:=a
    have Q:len*s<=16777216:=jf Q
    have U:bt.cells.length=s:=Zj U
    split at a
    ·rename_i cs hT
     simp at a;obtain⟨rfl,rfl⟩:=a
     obtain⟨fW,fv⟩:=DQ cv R af w
     obtain⟨fA,hx⟩:=XE (by simpa using cA) RD
     obtain⟨eM,eZ⟩:=PM (R:=R) (JI:=λi=>some (i*s,s)) (λ_ _ a=>a) dq (kz len bt.cells) cs (Qc (t6 fv) len) hx hT
     refine⟨.cells (bY R cs).toArray ee, ?_, .inr rfl, ?_⟩
     ·have J:(jP.map λx=>(x.1,ay x.2)).toList=dq.map λx=>(x.1,aQ R x.2):=by rw[<-fA];simp
      have gK:¬(len*s>2^24):=by
       have:(2:Nat)^24=16777216:=by decide
       omega
      have ch:Instr.fill (λi=>some (i*s,s)) ((Array.range (len*s)).map ((if len*s=0 then #[]else(aQ R bt).cells)[·%(if len*s=0 then #[]else(aQ R bt).cells).size]!)) (jP.map λx=>(x.1,ay x.2)).toList=some (bY R cs).toArray:=by
       rw[ael R bt.cells s len U _ (λdD=>by rw[Zg dD,t2]),J]
       exact eM
      simp only[Instr.buildSlice,Sem.run_bind,run_underlying be,Result.andThen_ok,o6 aD]
      rw[Zg gK]
      by_cases b6:len*s=0
      ·rw[Zq b6]at ch
       simp only[Zq b6,Sem.run_bind,Sem.run_pure,Result.andThen_ok,ch]
       simp[newRow,aQ,k1]
      ·simp only[Zg b6]at ch
       simp only[Zg b6,Sem.run_bind,Sem.run_pure,Result.andThen_ok,fW,ch]
       simp[newRow,aQ,k1]
     ·have:=KM (C:=C) (R:=gn R b ⟨w.heap.size,0,0⟩) (af:=add af b) (qZ gB _ eZ) ee 0 w
      rw[xT dJ eZ]at this
      exact this
    ·simp at a
   ·simp at a
  ·simp at a
 case makeMap t r=>
  cases r with
  |some r=>simp[p1]at a
  |none=>
   simp[p1]at a;obtain⟨rfl,rfl⟩:=a
   refine⟨.map #[] 0, ?_, .inr rfl, ?_⟩
   ·simp[Instr.makeMap,aQ,k1]
   ·exact⟨#[],ux _ _,rfl,Zs⟩
end
end Go.bi

namespace Go.bi
open Go.RowKit (Below)
section
variable{C:aZ}{R db:c6}{af dB:Nat->Prop}{h T:V an}{j au bj:Nat}{w bW:World}
def kB:Array Value->Nat->List Value->Array Value
 |c,_,[]=>c
 |c,Y,v::l=>kB (c.setIfInBounds Y v) (Y+1) l
def xo:∀(l:List Value) (c:Array Value) (Y:Nat),(kB c Y l).size=c.size:=by
 intro l
 induction l with
 |nil=>intro c Y;rfl
 |cons v l ak=>intro c Y;simp[kB,ak]
def Tp:∀(l:List Value) (c:Array Value) (Y i:Nat),Y+l.length<=c.size->(kB c Y l)[i]? =if Y<=i/\i<Y+l.length then l[i-Y]? else c[i]? :=by
 intro l
 induction l with
 |nil=>intro c Y i _;rw[Zg (by simp only[ZU];omega)];rfl
 |cons v l ak=>
  intro c Y i a
  simp only[ZB]at a
  simp only[kB]
  rw[ak _ _ _ (by simp;omega)]
  by_cases J:i=Y
  ·subst J
   rw[Zg Zo,Zq Zs]
   have c1:i<c.size:=Zo
   simp[c1]
  ·by_cases am:Y+1<=i/\i<Y+1+l.length
   ·rw[Zq am,Zq (by simp;omega),show i-Y=(i-(Y+1))+1 by omega,ZP]
   ·rw[Zg am,Zg (by simp only[ZB];omega),Array.getElem?_setIfInBounds_ne (λa=>J a.symm)]
def Ti(P:Program)(g Y:Nat)(t:TypeId)(bS aJ:Nat):∀(bo:List Value) (i:Nat) (m9:Array Value) (w:World),w.heap[g]? =some (.cells m9 t (bS,aJ))->(aJ<=bS\/m9.size<=bS)->
 Y+i+bo.length<=m9.size->(∀v∈bo,v.oneCell'=true)->(storeCells ⟨g,Y,none⟩ bo i).run P w= .ok () (w.setRow g (kB m9 (Y+i) bo)):=by
 intro bo
 induction bo with
 |nil=>
  intro i m9 w b5 _ _ _
  simp only[storeCells,kB]
  rw[setRow_self w g m9 t _ b5];rfl
 |cons v bo ak=>
  intro i m9 w b5 ch aC Q
  simp only[ZB]at aC
  have c1:Y+i<m9.size:=Zo
  have Ij:(⟨g,Y,none⟩:Addr).add i=⟨g,Y+i,none⟩:=qR _ _ _
  have r1:w.cell? ⟨g,Y+i,none⟩=some m9[Y+i]:=by simp[World.cell?,b5,c1]
  have apR:w.frozen? ⟨g,Y+i,none⟩=false:=by
   simp only[World.frozen?,b5,Bool.and_eq_false_iff,Zc]
   omega
  have di:(store ((⟨g,Y,none⟩:Addr).add i) v).run P w= .ok () (w.setRow g (m9.setIfInBounds (Y+i) v)):=by
   rw[Ij,run_store P w _ v _ (Q v Zs),r1]
   simp[apR,setCell_eq_setRow w g (Y+i) m9 t _ v b5]
  have:=ak (i+1) (m9.setIfInBounds (Y+i) v) (w.setRow g (m9.setIfInBounds (Y+i) v)) (setRow_heap w g m9 _ t _ b5) (by simpa using ch) (by simp;omega) (λx ah=>Q x (by simp[ah]))
  simp only[storeCells,Sem.run_bind,di,Result.andThen_ok,this,setRow_setRow,kB]
  rfl
def O3{p:Nat}(ew:bj<=p)(cs:Array Value)(w:World):Below bj w (w.setRow p cs):=
 ⟨rfl,rfl,rfl,by simp[World.setRow],λB aN=>setRow_other w p B cs Zo⟩
def adI:∀{bo:List F},iz bo=true->∀v∈bY R bo,v.oneCell'=true:=by
 intro bo
 induction bo with
 |nil=>intro _ v bB;simp[bY]at bB
 |cons K l ak=>
  intro a v bB
  simp only[iz,Zp]at a
  simp only[bY,Zt]at bB
  rcases bB with rfl|bB
  ·cases K<;>simp[oc]at a<;>rfl
  ·exact ak a.2 v bB
def afu{c:V F}{co:Array Value}{eb Y n:Nat}{bo:List F}(b5:es af bo)(bl:Y+bo.length<=n)(aL:eb+n<=co.size)
 (a:∀i v,c.get i=some v->co[eb+i]? =some (aQ R v)/\cj af v):
 ∀i v,(dQ c Y bo).get i=some v->(kB co (eb+Y) (bY R bo))[eb+i]? =some (aQ R v)/\cj af v:=by
 intro i v bB
 rw[TU,V.Lp]at bB
 rw[Tp _ _ _ _ (by rw[jG];omega),jG]
 split at bB
 ·rename_i aJ
  rw[Zq Zo,At,show eb+i-(eb+Y)=i-Y by omega,bB]
  exact⟨rfl,AF b5 bB⟩
 ·rename_i aJ
  rw[Zg Zo]
  exact a i v bB
def Od{c:V F}{Y n:Nat}{bo:List F}(bl:Y+bo.length<=n)(a:∀i v,c.get i=some v->i<n):∀i v,(dQ c Y bo).get i=some v->i<n:=by
 intro i v bB
 rw[TU,V.Lp]at bB
 split at bB
 ·omega
 ·exact a i v bB
def Gm{l:List F}:∀i v,(V.ofList l 0 .nil).get i=some v->i<l.length:=by
 intro i v bB
 rw[kw]at bB
 exact(Zb.1 bB).1
def OT(Z:dl C R af h j bj w){de b Y:Nat}{bo:List F}(aM:af b)(b5:es af bo)(a:tU C h b Y bo=some T):
 ∃bW,(storeCells ⟨(R b).cE,(R b).eb+Y,none⟩ (bY R bo)).run C.P w= .ok () bW/\dl C R af T j bj bW/\il C de R af h bj w R af T bW:=by
 unfold tU at a
 split at a
 ·rename_i c n st bl
  simp only[e0,Zp]at a
  obtain⟨⟨⟨Q,U⟩,ar⟩,a⟩:=a
  have Q:Y+bo.length<=n:=jf Q
  have aj:C.a8<=b:=jf U
  obtain⟨co,ty,bS,aJ,bh,cl,a3,a4⟩:=Z.obj b _ bl aM
  have kS:st≠ .jR:=λJ=>(by subst J;simp at a)
  refine⟨w.setRow (R b).cE (kB co ((R b).eb+Y) (bY R bo)), ?_, ?_⟩
  ·exact Ti C.P _ _ ty bS aJ (bY R bo) 0 co w bh (cl.free kS) (by rw[jG];omega) (adI ar)
  have ft:=setRow_heap w (R b).cE co (kB co ((R b).eb+Y) (bY R bo)) ty (bS,aJ) bh
  have AQ:=Z.base b _ aj bl aM
  have Il:Below bj w (w.setRow (R b).cE (kB co ((R b).eb+Y) (bY R bo))):=O3 AQ _ _
  have abG:∀B,B≠(R b).cE->(w.setRow (R b).cE (kB co ((R b).eb+Y) (bY R bo))).heap[B]? =w.heap[B]? :=λB aN=>setRow_other w _ B _ aN
  have fin:∀iR,Ej iR n (R b) co.size bS aJ->jT C R af (.cells (dQ c Y bo) n iR) (R b) (w.setRow (R b).cE (kB co ((R b).eb+Y) (bY R bo))):=by
   intro iR di
   refine⟨_,ty,bS,aJ,ft,by rw[xo];exact di,by rw[xo];exact a3,afu b5 Q a3 a4⟩
  have plain:∀iR,Km (.cells c n st)->Ej iR n (R b) co.size bS aJ->(∀l,iR≠ .grow l)->T=bn C h b (some (.cells (dQ c Y bo) n iR))->
   dl C R af T j bj (w.setRow (R b).cE (kB co ((R b).eb+Y) (bY R bo)))/\il C de R af h bj w R af T (w.setRow (R b).cE (kB co ((R b).eb+Y) (bY R bo))):=by
   intro iR mj di CU iJ
   subst iJ
   have nq:ab C (bn C h b (some (.cells (dQ c Y bo) n iR))) b=some (.cells (dQ c Y bo) n iR):=by rw[fR _ aj,Zq rfl]
   have jx:∀x,x≠b->ab C (bn C h b (some (.cells (dQ c Y bo) n iR))) x=ab C h x:=λx ah=>by rw[fR _ aj,Zg ah]
   refine⟨Z.put aj aM bl nq (λx ah=> .inl (jx x ah)) abG ?_ (fin iR di) ⟨λf0 aV l aC=>(by cases aC;exact absurd rfl (CU _)),λf0 aV axf aC=>(by cases aC;exact Od Q ((Z.fm b _ bl aM).2 _ _ _ rfl))⟩, ?_⟩
   ·intro x dr dD ah dE e3
    rw[jx x dD]at ah
    exact Z.alone aj aM bl mj x dr dD ah dE e3
   ·exact⟨λ_ _=>rfl,λ_ a=>a,λ_ a=> .inl a,λx ah _=>jx x (λJ=>ah (J▸aM)),Il⟩
  cases st with
  |own=>
   simp only[g8,Zf]at a
   exact plain .own ⟨Zs,Zs⟩ cl Zs a.symm
  |marked=>
   simp only[g8,Zf]at a
   exact plain .marked ⟨Zs,Zs⟩ cl Zs a.symm
  |grow fm=>
   simp only[g8,Zf]at a
   have tk:=(Z.fm b _ bl aM).1 _ _ _ rfl
   subst a
   have nq:ab C (bn C (oU C fm h) b (some (.cells (dQ c Y bo) n (.grow [])))) b=some (.cells (dQ c Y bo) n (.grow [])):=by rw[fR _ aj,Zq rfl]
   have jx:∀x,x≠b->ab C (bn C (oU C fm h) b (some (.cells (dQ c Y bo) n (.grow [])))) x=if x∈fm then none else ab C h x:=λx ah=>by
    rw[fR _ aj,Zg ah,aba _ _ _ λe H=>(tk e H).2]
   refine⟨Z.put aj aM bl nq (λx ah=> ?_) abG ?_ (fin (.grow []) cl) ⟨λf0 aV l aC=>(by cases aC;simp),λf0 aV axf aC=>(by cases aC;exact Od Q ((Z.fm b _ bl aM).2 _ _ _ rfl))⟩, ?_⟩
   ·rw[jx x ah];split
    ·exact .inr rfl
    ·exact .inl rfl
   ·intro x dr dD ah dE e3
    rw[jx x dD]at ah
    split at ah
    ·cases ah
    ·rename_i Rs
     rcases(Z.sep b x _ dr bl ah aM dE (λam=>dD am.symm) aj e3.symm).1 with ⟨_,_,_,_,am,_⟩|⟨_,_,l,_,_,am,_,aC,_⟩|⟨_,_,_,_,_,_,am,_⟩
     ·cases am
     ·cases am;exact Rs aC
     ·cases am
   ·exact⟨λ_ _=>rfl,λ_ a=>a,λ_ a=> .inl a,λx ah _=>by
     rw[jx x (λJ=>ah (J▸aM)),Zg (λbp=>ah (tk x bp).1)],Il⟩
  |jR=>simp at a
 ·simp at a
end
end Go.bi

namespace Go.bi
open Go.RowKit (Below)
def Aa(C:aZ)(R:c6)(af:Nat->Prop)(h:V an)(j bj:Nat)(w:World)(s:Sem Next)(v:F)(T:V an)(au:Nat):Prop:=
 ∃db dB bW n,s.run C.P w= .ok n bW/\(n= .value (aQ db v)\/(n= .skip/\v=undef))/\cj dB v/\dl C db dB T au bj bW/\il C j R af h bj w db dB T bW/\j<=au
section
variable{C:aZ}{R db:c6}{af dB:Nat->Prop}{h T:V an}{j au bj:Nat}{w bW:World}
def putObj(Z:dl C R af h j bj w){de b:Nat}{cT ob:an}{kf o':Obj}(aj:C.a8<=b)(aM:af b)(hF:ab C h b=some cT)(aE:Km cT)(b6:w.heap[(R b).cE]? =some kf)
 (Mr:∀c J f,kf≠ .cells c J f)(bl:∀bW:World,bW.heap[(R b).cE]? =some o'->jT C R af ob (R b) bW)(tk:v6 C af ob):
 ∃bW,(Go.setObj (R b).cE o').run C.P w= .ok () bW/\dl C R af (bn C h b (some ob)) j bj bW/\il C de R af h bj w R af (bn C h b (some ob)) bW:=by
 have nZ:(Go.setObj (R b).cE o').run C.P w= .ok () {w with heap:=w.heap.setIfInBounds (R b).cE o'}:=by
  cases kf<;>first
   |exact absurd rfl (Mr _ _ _)
   |simp[Go.setObj,Sem.run,b6]
 obtain⟨bV,cw⟩:=MapKept.heap_set (o':=o') b6
 have nq:ab C (bn C h b (some ob)) b=some ob:=by rw[fR _ aj,Zq rfl]
 have jx:∀x,x≠b->ab C (bn C h b (some ob)) x=ab C h x:=λx ah=>by rw[fR _ aj,Zg ah]
 have AQ:=Z.base b _ aj hF aM
 refine⟨_,nZ,Z.put aj aM hF nq (λx ah=> .inl (jx x ah)) (λB aN=>cw B aN) ?_ (bl _ bV) tk, ?_⟩
 ·intro x dr dD ah dE e3
  rw[jx x dD]at ah
  exact Z.alone aj aM hF aE x dr dD ah dE e3
 ·exact⟨λ_ _=>rfl,λ_ a=>a,λ_ a=> .inl a,λx ah _=>jx x (λJ=>ah (J▸aM)),rfl,rfl,rfl,Zs,λB aN=>cw B Zo⟩
def Tq{r:Nat}{Y:an}{v:F}{res:d4}(a:setObj C h j r Y v=some res):res= .fh v (bn C h r (some Y)) j/\C.a8<=r:=by
 unfold setObj at a
 simp only[g8,e0,Zf]at a
 exact⟨a.2.symm,jf a.1⟩
def aea(Z:dl C R af h j bj w){de r:Nat}{cb lR:List (F×F×Nat)}{eX Ho:Nat}{Et:Array MapEntry}(aj:C.a8<=r)(aM:af r)(bl:ab C h r=some (.map cb eX))
 (aE:Et.toList=lR.map (lx R))(b5:∀J∈lR,cj af J.1/\cj af J.2.1):
 ∃bW,(Go.setObj (R r).cE (.map Et Ho)).run C.P w= .ok () bW/\dl C R af (bn C h r (some (.map lR Ho))) j bj bW/\il C de R af h bj w R af (bn C h r (some (.map lR Ho))) bW:=by
 obtain⟨co,Q,_,_⟩:=Z.obj r _ bl aM
 exact putObj Z aj aM bl ⟨Zs,Zs⟩ Q Zs (λbW sh=>⟨Et,sh,aE,b5⟩) ⟨λ_ _ _ a=>(by cases a),λ_ _ _ a=>(by cases a)⟩
def axG(Z:dl C R af h j bj w){s:Nat}{t:TypeId}{K v:F}{res:d4}(aD:jb C t=some s)(h0:cj af K)(fk:cj af v)(a:NY C h j s K v=some res):
 ∃T,res= .fh undef T j/\∀ae:Sem Next,(∀bW,(Instr.storeAt t (aQ R K) (aQ R v)).run C.P w= .ok () bW->ae.run C.P w= .ok .skip bW)->Aa C R af h j bj w ae undef T j:=by
 unfold NY at a
 split at a
 ·rename_i b Y
  simp only[e0,Zp]at a
  obtain⟨⟨Q,U⟩,a⟩:=a
  have Q:v.cells.length=s:=Zj Q
  split at a
  ·rename_i T iJ
   simp at a
   obtain⟨bW,bV,cw,c4⟩:=OT Z (de:=j) h0 (t6 fk) iJ
   refine⟨T,a.symm,λae be=>⟨R,af,bW, .skip,be bW ?_, .inr ⟨rfl,rfl⟩,by trivial,cw,c4,Zi _⟩⟩
   have eN:(aQ R v).cells.size=s:=by rw[t2];simp[jG,Q]
   simp only[Instr.storeAt,Instr.sureAddr,aQ,Sem.run_bind,Sem.run_pure,Result.andThen_ok,storeVar,o6 aD,eN,ne_eq,not_true_eq_false,ZA]
   simp only[t2]
   exact bV
  ·simp at a
 ·simp at a
def asT:∀(n:Nat),(∀(m:Nat) (x e:F),n<=m->cj af x->cj af e->ns n x e=true->Instr.sameBits m (aQ R x) (aQ R e)=true)/\
 ∀(m:Nat) (K b:List F),n<=m->es af K->es af b->ns.Bh n K b=true->(bY R K).length=(bY R b).length/\((bY R K).zip (bY R b)).all (λ(x,e)=>Instr.sameBits m x e)=true:=by
 intro n
 induction n with
 |zero=>
  refine⟨λm x e _ _ _ a=>by simp[ns]at a, ?_⟩
  intro m K
  induction K with
  |nil=>intro b _ _ _ a;cases b<;>simp[ns.Bh]at a<;>simp[bY]
  |cons x K _=>intro b _ _ _ a;cases b<;>simp[ns.Bh,ns]at a
 |succ n ak=>
  have one:∀(m:Nat) (x e:F),n+1<=m->cj af x->cj af e->ns (n+1) x e=true->Instr.sameBits m (aQ R x) (aQ R e)=true:=by
   intro m x e bp fy un a
   obtain⟨m,rfl⟩:∃B,m=B+1:=⟨m-1,Zo⟩
   unfold ns at a
   split at a<;>(try(cases a;done))
   ·simpa[aQ,Instr.sameBits]using a
   ·simp at a;obtain⟨rfl,rfl⟩:=a;simp[aQ,Instr.sameBits]
   ·rename_i K b
    have:=(Jy _ _).1 a
    subst this
    simp only[aQ,Instr.sameBits]
    rw[WQ];simp
   ·rename_i b Y dP o'
    simp only[Zp]at a
    have Q:b=dP:=Zj a.1
    have U:Y=o':=Zj a.2
    subst Q;subst U
    simp[aQ,Instr.sameBits]
   ·simp[aQ,Instr.sameBits]
   ·simp[aQ,Instr.sameBits]
   ·rename_i t v e2 f9
    simp only[Zp]at a
    have Q:t=e2:=Zj a.1
    subst Q
    simp[aQ,Instr.sameBits,ak.1 m v f9 Zo fy un a.2]
   ·rename_i K b
    obtain⟨bV,cw⟩:=ak.2 m K b Zo fy un a
    simp only[aQ,Instr.sameBits,Zp,Y0]
    exact⟨by simpa using bV,by simpa using cw⟩
  refine⟨one, ?_⟩
  intro m K
  induction K with
  |nil=>intro b _ _ _ a;cases b<;>simp[ns.Bh]at a<;>simp[bY]
  |cons x K ms=>
   intro b bp h0 oD a
   cases b with
   |nil=>simp[ns.Bh]at a
   |cons e b=>
    simp only[ns.Bh,Zp]at a
    obtain⟨bV,cw⟩:=ms b bp h0.2 oD.2 a.2
    simp only[bY,ZB,List.zip_cons_cons,List.all_cons,Zp]
    exact⟨Zo,one m x e bp h0.1 oD.1 a.1,cw⟩
def asU{pO new:F}(go:cj af pO)(wt:cj af new)(a:ns 20 pO new=true):(Instr.keyThatStays (aQ R pO) (aQ R new)).run C.P w= .ok (aQ R new) w:=by
 simp[Instr.keyThatStays,(asT (R:=R) (af:=af) 20).1 10000 pO new Zd go wt a]
def Xx{co:Array MapEntry}{cb:List (F×F×Nat)}{i:Nat}{J:F×F×Nat}(aE:co.toList=cb.map (lx R))(a:cb[i]? =some J):co[i]? =some (lx R J):=by
 rw[<-ZS,aE,Zx,a];rfl
def at3{co:Array MapEntry}{cb:List (F×F×Nat)}{i:Nat}{J ia:F×F×Nat}(f:MapEntry->MapEntry)(aE:co.toList=cb.map (lx R))(a:cb[i]? =some J)
 (ch:f (lx R J)=lx R ia):(co.modify i f).toList=(cb.set i ia).map (lx R):=by
 apply Ys
 intro aa
 rw[ZS,Y4,Zx,YC]
 have c1:i<cb.length:=(Zb.1 a).1
 by_cases J:i=aa
 ·subst J
  rw[Zq rfl,Zq rfl,Zq c1,Xx aE a]
  simp[ch]
 ·rw[Zg J,Zg J, <-ZS,aE,Zx]
def anJ{cb:List (F×F×Nat)}{i:Nat}{ia:F×F×Nat}(b5:∀J∈cb,cj af J.1/\cj af J.2.1)(bx:cj af ia.1/\cj af ia.2.1):∀J∈cb.set i ia,cj af J.1/\cj af J.2.1:=by
 intro J a
 rcases YQ a with a|a
 ·exact b5 J a
 ·rw[a];exact bx
def aj2(Z:dl C R af h j bj w){t:Nat}{m B v:F}{res:d4}(uj:cj af m)(nP:cj af B)(fk:cj af v)(a:Hb C h j t m B v=some res):
 ∃T bW,res= .fh undef T j/\(Instr.mapUpdate t (aQ R m) (aQ R B) (aQ R v)).run C.P w= .ok () bW/\dl C R af T j bj bW/\il C j R af h bj w R af T bW:=by
 unfold Hb at a
 split at a
 ·rename_i jA Ax r be
  split at a
  ·rename_i cb eX bl
   simp only[e0]at a
   obtain⟨aN,a⟩:=a
   obtain⟨fb,Mh⟩:=acI aN
   obtain⟨co,bh,cl,a3,a4⟩:=Js Z uj bl
   have Q:=Wj (C:=C) (R:=R) (af:=af) (w:=w) (J:=false) 20 10000 jA B Zd nP aN
   split at a
   ·rename_i i ae ch
    have U:=PO Z Mh nP a4 ch
    obtain⟨_,J,bx,rfl⟩:=XQ cb 0 i ae ch
    simp only[Y2]at bx
    rw[pL,bx]at a
    obtain⟨e4,f9,born⟩:=J
    simp only[e0]at a
    obtain⟨abm,a⟩:=a
    obtain⟨rfl,aj⟩:=Tq a
    have b5:=a4 _ (Zl bx)
    obtain⟨bW,bV,cw,c4⟩:=aea Z (de:=j) aj uj bl (Ho:=eX) (lR:=cb.set i (B,v,born)) (at3 (λJ=>{J with key:=aQ R B,val:=aQ R v}) a3 bx rfl) (anJ a4 ⟨nP,fk⟩)
    refine⟨_,bW,rfl, ?_,cw,c4⟩
    simp[Instr.mapUpdate,run_underlying be,aQ,bh,Q,a3,U,tZ,Xx a3 bx,lx,asU b5.1 nP abm,bV]
   ·rename_i ch
    have U:=PO Z Mh nP a4 ch
    obtain⟨rfl,aj⟩:=Tq a
    obtain⟨bW,bV,cw,c4⟩:=aea Z (de:=j) aj uj bl (Ho:=eX+1) (lR:=cb++[(B,v,eX)]) (Et:=co.push {key:=aQ R B,val:=aQ R v,born:=eX}) (by simp[a3,lx])
     (λJ bx=>(Zy.1 bx).elim (a4 J) (λbx=>by simp at bx;subst bx;exact⟨nP,fk⟩))
    refine⟨_,bW,rfl, ?_,cw,c4⟩
    simp[Instr.mapUpdate,run_underlying be,aQ,bh,Q,a3,U,tZ,bV]
   ·simp at a
  ·simp at a
 ·simp at a
end
end Go.bi

namespace Go.bi
open Go.RowKit (Below)
def anN(rh dm:Nat)(pB:rh+(rh+768)/4<=dm):∀(r c:Nat),c<=dm->Builtin.growBy rh r c<=dm:=by
 intro r
 induction r with
 |zero=>intro c a;exact a
 |succ r ak=>
  intro c a
  simp only[Builtin.growBy]
  split
  ·exact a
  ·exact ak _ Zo
def nextslicecap_le{rh Bw:Nat}(a:Bw<rh):Builtin.nextslicecap rh Bw<=2*rh+200:=by
 unfold Builtin.nextslicecap
 split
 ·omega
 ·split
  ·omega
  ·exact anN rh _ Zo 4 Bw Zo
def awp{rh Bw bytes:Nat}(a:Bw<rh)(aL:rh<=1048576)(aj:bytes<=65536):¬(Builtin.nextslicecap rh Bw*bytes>2^48):=by
 have Q:=nextslicecap_le a
 have U:Builtin.nextslicecap rh Bw*bytes<=(2*1048576+200)*65536:=Nat.mul_le_mul Zo aj
 have ar:(2:Nat)^48=281474976710656:=by decide
 omega
def wrap_small{n:Nat}(aL:n<=1048576):IntKind.i64.wrap (n:Int)=n:=by
 rw[<-afs]
 simp only[pg,fw,Zh]
 have Q:(n:Int)%18446744073709551616=n:=YS Zo Zo
 rw[Q,Zq Zo]
def Pa{n b:Nat}(Q:n<=1048576)(U:b<=65536):¬((281474976710656:Int)<(n:Int)*(b:Int)):=by
 have ar:n*b<=1048576*65536:=Nat.mul_le_mul Q U
 have:((n*b:Nat):Int)<=((1048576*65536:Nat):Int):=Int.ofNat_le.2 ar
 rw[Int.natCast_mul]at this
 omega
def xB(P:Program)(w:World)(dE:TypeDesc)(X:Value)(i:TypeInfo)(bt:Value)(n:Nat)(new:Array Value):Prop:=
 ((dE= .string\/∃J,dE= .slice J)/\(Builtin.lenOf X).run P w= .ok n w/\(Builtin.firstCells i.size n X).run P w= .ok new w/\(Builtin.firstCells i.size n X).run P w.drew= .ok new w.drew)\/
 ((∃am,dE= .int am)/\(∃B,X= .int B (Int.ofNat n))/\n<=1048576/\i.bytes<=65536/\n*i.size≠0/\new=Builtin.zeroCells bt.cells n)
section
variable{P:Program}{w bW:World}{dg:Array TypeId}{ty st ij ee:TypeId}{i:TypeInfo}{dE:TypeDesc}{base:Option Addr}{gW kW n:Nat}{X bt:Value}{pO new:Array Value}
def KF{K:Addr}(b6:dg[0]? =some st)(Q:dg[1]? =some ij)(di:P.underlying st=some (.slice ee))(hH:P.underlying ij=some dE)(aJ:P.info? ee=some i)(cv:i.zero=some bt)
 (bQ:xB P w dE X i bt n new)(aL:gW+n<=kW)(aD:(storeCells (K.add (gW*i.size)) new.toList).run P w= .ok () bW):
 (Builtin.append_ dg ty #[.slice (some K) gW kW,X]).run P w= .ok (.slice (some K) (gW+n) kW) bW:=by
 have HA:(#[Value.slice (some K) gW kW,X]:Array Value)[0]? =some (.slice (some K) gW kW):=rfl
 have bD:(#[Value.slice (some K) gW kW,X]:Array Value)[1]? =some X:=rfl
 clear HA bD
 rcases bQ with ⟨jc,hO,j9,_⟩|⟨⟨am,rfl⟩,⟨B,rfl⟩,hO,j9,k2,rfl⟩
 ·rcases jc with rfl|⟨_,rfl⟩<;>simp[Builtin.append_,b6,Q,run_underlying di,run_underlying hH,sizeOf,typeInfo,aJ,hO,aL,j9,aD]
 ·have nT:=Pa hO j9
  have aC:¬((n:Int)<0):=Zo
  have bJ:=wrap_small hO
  simp[Builtin.append_,b6,Q,run_underlying di,run_underlying hH,sizeOf,typeInfo,aJ,asInt,asIntOf,bJ,nT,aC,aL,k2,zeroValue,cv,aD]
def Ww(b6:dg[0]? =some st)(Q:dg[1]? =some ij)(di:P.underlying st=some (.slice ee))(hH:P.underlying ij=some dE)(aJ:P.info? ee=some i)(cv:i.zero=some bt)
 (bQ:xB P w dE X i bt n new)(aL:¬(gW+n<=kW))(aj:i.bytes<=65536)(wU:gW+n<=1048576)(bl:(Builtin.firstCells i.size gW (.slice base gW kW)).run P w.drew= .ok pO w.drew):
 ∃cap,gW+n<=cap/\(Builtin.append_ dg ty #[.slice base gW kW,X]).run P w=
  .ok (.slice (some ⟨w.heap.size,0,none⟩) (gW+n) cap) (w.drew.alloc (.cells (pO++new++Builtin.zeroCells bt.cells (cap-(gW+n))) ee)):=by
 have Z:=awp (rh:=gW+n) (Bw:=kW) Zo wU aj
 have kq:¬(281474976710656<Builtin.nextslicecap (gW+n) kW*i.bytes):=by
  have ar:(2:Nat)^48=281474976710656:=by decide
  omega
 have bp:¬((9223372036854775807:Int)<(gW:Int)+(n:Int)):=Zo
 refine⟨gW+n+(w.tape w.drawn (.appendCap (gW+n) kW ee))%(2^63-(gW+n)),Zo, ?_⟩
 have eN:w.drew.heap.size=w.heap.size:=rfl
 have wS:IntKind.i64.max=9223372036854775807:=by decide
 rcases bQ with ⟨jc,hO,j9,k2⟩|⟨⟨am,rfl⟩,⟨B,rfl⟩,hO,j9,k2,rfl⟩
 ·rcases jc with rfl|⟨_,rfl⟩<;>
   simp[Builtin.append_,b6,Q,run_underlying di,run_underlying hH,sizeOf,typeInfo,aJ,hO,aL,k2,zeroValue,cv,wS,bp,kq,Question.forced,Question.cut,bl,newRow,eN]
 ·have nT:=Pa hO j9
  have aC:¬((n:Int)<0):=Zo
  have bJ:=wrap_small hO
  simp[Builtin.append_,b6,Q,run_underlying di,run_underlying hH,sizeOf,typeInfo,aJ,asInt,asIntOf,bJ,nT,aC,aL,k2,zeroValue,cv,wS,bp,kq,Question.forced,Question.cut,bl,newRow,eN]
end
end Go.bi

namespace Go.bi
open Go.RowKit (Below)
structure xG(P:Program):Prop where
 mixed:P.follows .mixedOrders=true
 num:∀(f:Nat) fn,P.funcs[f]? =some fn->fn.body.isSome=true->(fn.name== "runtime.NumGoroutine")=false
section
variable{C:aZ}{R db:c6}{af dB:Nat->Prop}{h T:V an}{j au bj:Nat}{w bW:World}
def dl.same(Z:dl C R af h j bj w)(bJ:bW.heap=w.heap):dl C R af h j bj bW:=
 ⟨Z.a8,Z.lt,Z.vl,λb Y a d=>(Z.obj b Y a d).ad (λ_ _=>rfl) (λ_ a=>a) (by rw[bJ]),Z.sep,Z.base,Z.fm⟩
def dl.drew(Z:dl C R af h j bj w):dl C R af h j bj w.drew:=Z.same rfl
def dl.awf(Z:dl C R af h j bj w){b:Nat}{c:V F}{n:Nat}{fm:List Nat}(aj:C.a8<=b)(aM:af b)(hF:ab C h b=some (.cells c n (.grow fm))):
 dl C R af (bn C h b (some (.cells c n .jR))) j bj w:=by
 have nq:ab C (bn C h b (some (.cells c n .jR))) b=some (.cells c n .jR):=by rw[fR _ aj,Zq rfl]
 have jx:∀x,x≠b->ab C (bn C h b (some (.cells c n .jR))) x=ab C h x:=λx ah=>by rw[fR _ aj,Zg ah]
 refine⟨Z.a8,Z.lt, ?_, ?_, ?_, ?_, ?_⟩
 ·intro x dr ah
  by_cases J:x=b
  ·subst J;exact Z.lt x aM
  ·exact Z.vl x dr (by rw[<-jx x J,ah])
 ·intro x dr ah dE
  by_cases J:x=b
  ·subst J
   rw[nq]at ah;cases ah
   obtain⟨co,ty,bS,aJ,Q,U,ar,aK⟩:=Z.obj x _ hF aM
   exact⟨co,ty,bS,aJ,Q,⟨trivial,U.2⟩,ar,aK⟩
  ·exact Z.obj x dr (by rw[<-jx x J,ah]) dE
 ·intro x e dr pP ah H dE oz dD lF e3
  by_cases J:x=b
  ·subst J
   rw[nq]at ah;cases ah
   rw[jx e λam=>dD am.symm]at H
   obtain⟨Q,U⟩:=Z.sep x e _ pP hF H dE oz dD lF e3
   refine⟨?_,U⟩
   rcases Q with ⟨_,_,_,_,am,_⟩|⟨_,_,l,f0,aV,am,cp,aC⟩|⟨_,_,_,_,_,_,am,_⟩
   ·cases am
   ·exact .inl ⟨c,n,f0,aV,rfl,cp⟩
   ·cases am
  ·rw[jx x J]at ah
   by_cases cF:e=b
   ·subst cF
    rw[nq]at H;cases H
    obtain⟨Q,U⟩:=Z.sep x e dr _ ah hF dE oz dD lF e3
    refine⟨?_,U⟩
    rcases Q with ⟨_,_,_,_,_,am⟩|⟨_,_,l,f0,aV,_,am,aC⟩|⟨f0,aV,_,_,_,am,cp,_⟩
    ·cases am
    ·cases am
    ·exact .inl ⟨f0,aV,c,n,cp,rfl⟩
   ·rw[jx e cF]at H
    exact Z.sep x e dr pP ah H dE oz dD lF e3
 ·intro x dr lF ah dE
  by_cases J:x=b
  ·subst J;exact Z.base x _ lF hF aM
  ·exact Z.base x dr lF (by rw[<-jx x J,ah]) dE
 ·intro x dr ah dE
  by_cases J:x=b
  ·subst J
   rw[nq]at ah;cases ah
   have:=(Z.fm x _ hF aM).2 _ _ _ rfl
   exact⟨λ_ _ _ a=>(by cases a),λ_ _ _ a=>(by cases a;exact this)⟩
  ·exact Z.fm x dr (by rw[<-jx x J,ah]) dE
def dl.share(Z:dl C R af h j bj w){cE:Nat}{pl:mc}{cT:an}(ew:bj<=cE)(sa:pl.cE=cE)(bJ:∀B,B≠cE->bW.heap[B]? =w.heap[B]?)
 (bl:jT C (gn R j pl) (add af j) cT pl bW)(tk:v6 C (add af j) cT)
 (ah:∀x dr,ab C h x=some dr->af x->(R x).cE=cE->jT C R af dr (R x) bW/\OM cT dr j x/\OM dr cT x j/\pl.eb=(R x).eb):
 dl C (gn R j pl) (add af j) (bn C h j (some cT)) (j+1) bj bW:=by
 have aj:=Z.a8
 have aL:¬af j:=λa=>zt (Z.lt j a)
 have dJ:=qF (R:=R) (pl:=pl) aL
 have nq:ab C (bn C h j (some cT)) j=some cT:=by rw[fR _ aj,Zq rfl]
 have jx:∀x,x≠j->ab C (bn C h j (some cT)) x=ab C h x:=λx ah=>by rw[fR _ aj,Zg ah]
 have aG:∀x,add af j x->x≠j->af x:=λx a dD=>a.resolve_right dD
 refine⟨Zo, ?_, ?_, ?_, ?_, ?_, ?_⟩
 ·intro x a
  rcases a with a|a
  ·have:=Z.lt x a;omega
  ·omega
 ·intro x dr a
  by_cases J:x=j
  ·omega
  ·have:=Z.vl x dr (by rw[<-jx x J,a]);omega
 ·intro x dr a dE
  by_cases J:x=j
  ·subst J;rw[nq]at a;cases a;rw[k1];exact bl
  ·rw[jx x J]at a
   have dE:=aG x dE J
   rw[dJ x dE]
   by_cases am:(R x).cE=cE
   ·exact(ah x dr a dE am).1.ad dJ (λ_ a=> .inl a) rfl
   ·exact(Z.obj x dr a dE).ad dJ (λ_ a=> .inl a) (bJ _ am)
 ·intro x e dr pP Q U dE oz dD lF e3
  by_cases J:x=j
  ·subst J
   rw[nq]at Q;cases Q
   have H:e≠x:=λam=>dD am.symm
   rw[jx e H]at U
   have oz:=aG e oz H
   rw[k1,dJ e oz]at e3 ⊢
   obtain⟨_,b7,_,ej⟩:=ah e pP U oz (by rw[<-e3,sa])
   exact⟨b7,ej⟩
  ·rw[jx x J]at Q
   have KZ:=aG x dE J
   by_cases cF:e=j
   ·subst cF
    rw[nq]at U;cases U
    rw[k1,dJ x KZ]at e3 ⊢
    obtain⟨_,_,cN,ej⟩:=ah x dr Q KZ (by rw[e3,sa])
    exact⟨cN,ej.symm⟩
   ·rw[jx e cF]at U
    have Xr:=aG e oz cF
    rw[dJ x KZ,dJ e Xr]at e3 ⊢
    exact Z.sep x e dr pP Q U KZ Xr dD lF e3
 ·intro x dr lF a dE
  by_cases J:x=j
  ·subst J;rw[k1,sa];exact ew
  ·rw[jx x J]at a
   have dE:=aG x dE J
   rw[dJ x dE]
   exact Z.base x dr lF a dE
 ·intro x dr a dE
  by_cases J:x=j
  ·subst J;rw[nq]at a;cases a;exact tk
  ·rw[jx x J]at a
   have dE:=aG x dE J
   refine⟨λc n l aC e H=> ?_,(Z.fm x dr a dE).2⟩
   obtain⟨b4,b7⟩:=(Z.fm x dr a dE).1 c n l aC e H
   exact⟨.inl b4,b7⟩
def acZ{c:V F}{Y n:Nat}{l:List F}(a:c.km Y n=some l):l.length=n:=(V.P8 _ _ _ _ a).1
def Pg{b Y n:Nat}{l:List F}(a:mN C h b Y n=some l):l.length=n:=by
 unfold mN at a
 split at a
 ·exact acZ a
 ·simp only[e0,Zf]at a
  have:n=0:=Zj a.1
  rw[<-a.2,this];rfl
def ayQ(R:c6)(bt:F)(n:Nat):Builtin.zeroCells (aQ R bt).cells n=(bY R (kz n bt.cells)).toArray:=by
 rw[t2, <-aek]
 simp[Builtin.zeroCells,jG]
def aeO(R:c6)(s:List Nat)(aD:∀x∈s,x<256):((fX s).data.map λb=>Value.int .u8 b.toNat)=(bY R (s.map λn=>F.int .u8 (Int.ofNat n))).toArray:=by
 apply YZ
 simp only[fX,pt,YK]
 simp only[List.map_toArray,YK]
 apply YE
 intro x ah
 simp[aQ,YI (aD x ah)]
def axe(Z:dl C R af h j bj w){x:F}{i:TypeInfo}{bt:Value}{dE:TypeDesc}{n:Nat}{l:List F}(fy:cj af x)(wK:dE= .string\/∃J,dE= .slice J)(a:kX C h i.size x=some (n,l)):
 xB C.P w dE (aQ R x) i bt n (bY R l).toArray/\es af l/\l.length=n*i.size:=by
 unfold kX at a
 split at a
 ·simp at a;obtain⟨rfl,rfl⟩:=a
  refine⟨.inl ⟨wK, ?_, ?_, ?_⟩,trivial,Zs⟩<;>simp[aQ,Builtin.lenOf,Builtin.firstCells,bY]
 ·rename_i b Y len cap
  split at a
  ·rename_i b8 aC
   simp at a;obtain⟨rfl,rfl⟩:=a
   obtain⟨Q,U⟩:=EG Z fy aC
   obtain⟨ar,_⟩:=EG Z.drew fy aC
   refine⟨.inl ⟨wK, ?_, ?_, ?_⟩,U,Pg aC⟩<;>simp[aQ,Builtin.lenOf,Builtin.firstCells,Q,ar]
  ·simp at a
 ·rename_i b Y len cap
  split at a
  ·rename_i b8 aC
   simp at a;obtain⟨rfl,rfl⟩:=a
   obtain⟨Q,U⟩:=EG Z fy aC
   obtain⟨ar,_⟩:=EG Z.drew fy aC
   refine⟨.inl ⟨wK, ?_, ?_, ?_⟩,U,Pg aC⟩<;>simp[aQ,Builtin.lenOf,Builtin.firstCells,Q,ar]
  ·simp at a
 ·rename_i s
  simp only[e0]at a
  obtain⟨Q,a⟩:=a
  have Q:i.size=1:=Zj Q
  simp at a;obtain⟨rfl,rfl⟩:=a
  have eN:(fX s).size=s.length:=by simp[fX,ByteArray.size]
  have bx:(fX s).extract 0 s.length=fX s:=by
   rw[<-eN];exact ByteArray.extract_zero_size
  have aB:=aeO R s fy
  refine⟨.inl ⟨wK, ?_, ?_, ?_⟩, ?_,by simp[Q]⟩
  ·simp[aQ,Builtin.lenOf,eN]
  ·simp only[aQ,Builtin.firstCells,bx,Sem.run_pure];rw[aB];simp
  ·simp only[aQ,Builtin.firstCells,bx,Sem.run_pure];rw[aB];simp
  ·rw[uk]
   intro v bB
   obtain⟨e,_,rfl⟩:=ZT.1 bB
   trivial
 ·simp at a
end
end Go.bi

