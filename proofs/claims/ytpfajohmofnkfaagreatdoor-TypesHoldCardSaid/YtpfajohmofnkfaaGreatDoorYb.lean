/- A part of the last text's proof; no condition of its own -/
import Derived.Test.YtpfajohmofnkfaaGreatDoorYa
import Derived.Laws.BytesString
import Derived.MapKept
import Derived.Laws.NewFold
import Derived.Laws.CopyRow
set_option maxHeartbeats 8000000
set_option linter.all false
namespace Go.bk
open Go.RowKit (Below)
section
variable{C:a2}{S:da}{af:Nat->Prop}{h:V an}{j bm:Nat}{w:World}
def binOp_eql{t:TypeId}{X dq:Value}(T:∀F K fa b,¬(X= .int F K/\dq= .int fa b))(W:∀K b,¬(X= .string K/\dq= .string b))
 (au:∀F K,X≠ .float F K)(aP:∀F K b,X≠ .complex F K b):binOp .eql t X dq=(do pure (.bool (<-Op.equal t X dq)))/\binOp .neq t X dq=(do pure (.bool (!(<-Op.equal t X dq)))):=by
 constructor
 ·unfold binOp
  split
  all_goals first
   |rfl
   |exact absurd ⟨rfl,rfl⟩ (T _ _ _ _)
   |exact absurd ⟨rfl,rfl⟩ (W _ _)
   |exact absurd rfl (au _ _)
   |exact absurd rfl (aP _ _ _)
   |simp_all
 ·unfold binOp
  split
  all_goals first
   |rfl
   |exact absurd ⟨rfl,rfl⟩ (T _ _ _ _)
   |exact absurd ⟨rfl,rfl⟩ (W _ _)
   |exact absurd rfl (au _ _)
   |exact absurd rfl (aP _ _ _)
   |simp_all
def Xg(S:da)(v:J):(∀F K,aS S v≠ .float F K)/\∀F K b,aS S v≠ .complex F K b:=by
 cases v<;>simp[aS]
def amn{m:Nat}{t:TypeId}{iz:Array (String×TypeId)}(be:C.P.underlying t=some (.interface iz))(bA:iz.isEmpty=true):(Op.eqGuardIn (m+1) t .nilIface .nilIface).run C.P w= .ok false w:=by
 simp[Op.eqGuardIn,run_underlying be,bA]
def amo{op:BinOp}{t:TypeId}{x e:Operand}{X dq:Value}(a:(qH x||qH e)=true)(W:∀c d,¬(X= .agg c/\dq= .agg d)):
 (eqGuard op t x e X dq).run C.P w= .ok () w:=by
 cases op<;>first|rfl|(cases x<;>cases e<;>first|(simp[qH]at a;done)|(cases X<;>cases dq<;>first|rfl|exact absurd ⟨rfl,rfl⟩ (W _ _)))
def amp{op:BinOp}{t:TypeId}{x e:Operand}{iz:Array (String×TypeId)}(be:C.P.underlying t=some (.interface iz))(bA:iz.isEmpty=true):
 (eqGuard op t x e .nilIface .nilIface).run C.P w= .ok () w:=by
 have key:=amn (C:=C) (w:=w) (m:=9999) be bA
 have T:Op.maxDepth=9999+1:=rfl
 cases op<;>first|rfl|(cases x<;>cases e<;>first|rfl|(simp[eqGuard,T,key];done))
def amq{op:BinOp}{t:TypeId}{x e:Operand}(a:(qH x||qH e||(match C.P.underlying t with|some (.interface iz)=>iz.isEmpty|_=>false))=true):
 (eqGuard op t x e .nilIface .nilIface).run C.P w= .ok () w:=by
 by_cases aB:(qH x||qH e)=true
 ·exact amo aB Zs
 ·have aB:(qH x||qH e)=false:=by simpa using aB
  rw[aB,Bool.false_or]at a
  split at a
  ·rename_i iz be
   exact amp be a
  ·simp at a
def amr{op:BinOp}{t:TypeId}{x e:Operand}{X dq:Value}(T:¬(X= .nilIface/\dq= .nilIface))(W:∀c d,¬(X= .agg c/\dq= .agg d)):
 (eqGuard op t x e X dq).run C.P w= .ok () w:=by
 cases op<;>first|rfl|(cases X<;>cases dq<;>first|rfl|exact absurd ⟨rfl,rfl⟩ T|exact absurd ⟨rfl,rfl⟩ (W _ _))
def LF{op:BinOp}{t:TypeId}{x e:Operand}{K b:J}(a:Fj C t (qH x||qH e) K b=true):
 (eqGuard op t x e (aS S K) (aS S b)).run C.P w= .ok () w:=by
 unfold Fj at a
 split at a
 ·exact amq a
 ·simp only[aS]
  exact run_eqGuard_agg w op t x e _ _ (by simpa using a)
 ·rename_i aJ bc
  refine amr ?_ ?_
  ·rintro⟨T,W⟩
   cases K<;>simp[aS]at T
   cases b<;>simp[aS]at W
   exact aJ rfl rfl
  ·rintro c d ⟨T,W⟩
   cases K<;>simp[aS]at T
   cases b<;>simp[aS]at W
   exact bc _ _ rfl rfl
def akf{op:BinOp}{x e:List Nat}{v:J}(ah:∀K∈x,K<256)(H:∀K∈e,K<256)(a:AK op x e=some v):
 (Op.stringOp op (f4 x) (f4 e)).run C.P w= .ok (aS S v) w/\cn af v:=by
 have bH:=TM ah H
 have cP:Op.bytesLess (f4 x).toList (f4 e).toList=BS x e:=by rw[Li,Li];exact aeW ah H
 cases op<;>simp only[AK,wM,e5,Zf]at a<;>
  first
  |(
    obtain⟨T,rfl⟩:=a
    constructor
    ·have aI:(f4 x).size=x.length:=by simp[f4,ByteArray.size]
     have qC:(f4 e).size=e.length:=by simp[f4,ByteArray.size]
     have gE:=jm T
     simp only[Op.stringOp,aI,qC]
     rw[Zh (by simp[IntKind.max,IntKind.signed,IntKind.bits];omega)]
     simp only[Sem.run_pure,aS]
     congr 2
     apply ByteArray.ext
     simp[f4]
    ·simp only[cn]
     intro bu cw
     rcases Zy.1 cw with a|a
     ·exact ah bu a
     ·exact H bu a)
  |(subst a;exact⟨by simp only[Op.stringOp,bH,cP,Sem.run_pure,aS],trivial⟩)
  |(simp at a)
def atn(Z:dt C S af h j bm w){op:BinOp}{t:Nat}{x e:Operand}{ay:Operand->Value}{eG:Operand->Option J}{v:J}(cA:jj S af ay eG [x,e])
 (a:Nl C op t x e h eG=some v):(do eqGuard op t x e (ay x) (ay e);binOp op t (ay x) (ay e):Sem Value).run C.P w= .ok (aS S v) w/\cn af v:=by
 unfold Nl at a
 split at a
 ·rename_i K b aE ai
  obtain⟨al7,ha⟩:=cA x Zs K aE
  obtain⟨eo,oU⟩:=cA e Zs b ai
  rw[al7,eo]
  unfold dc at a
  split at a
  ·rename_i F i fa aa
   obtain⟨T,W,_⟩:=WA (C:=C) (S:=S) (af:=af) (w:=w) t a
   refine⟨?_,W⟩
   rw[Sem.run_bind,LF (by simp[Fj])]
   exact T
  ·rename_i s fg
   obtain⟨T,W⟩:=akf (C:=C) (S:=S) (af:=af) (w:=w) ha oU a
   refine⟨?_,W⟩
   rw[Sem.run_bind,LF (by simp[Fj])]
   simp only[Result.andThen_ok,aS,binOp]
   exact T
  ·rename_i auA ms
   simp only[e5]at a
   obtain⟨fM,a⟩:=a
   have b6:∀r,ks C h 50 t K b=some r->(Op.equal t (aS S K) (aS S b)).run C.P w= .ok r w:=λr mn=>O9 Z 50 _ t K b r Zd ha oU mn
   have oa:∀F bu fa KR,¬(aS S K= .int F bu/\aS S b= .int fa KR):=by
    intro F bu fa KR ⟨T,W⟩
    cases K<;>simp[aS]at T
    cases b<;>simp[aS]at W
    exact auA _ _ _ _ rfl rfl
   have lT:∀bu KR,¬(aS S K= .string bu/\aS S b= .string KR):=by
    intro bu KR ⟨T,W⟩
    cases K<;>simp[aS]at T
    cases b<;>simp[aS]at W
    exact ms _ _ rfl rfl
   obtain⟨cL,cC⟩:=binOp_eql (t:=t) oa lT (Xg S K).1 (Xg S K).2
   rw[Sem.run_bind,LF fM]
   split at a
   ·split at a
    ·rename_i r mn
     simp at a;subst a
     exact⟨by simp[cL,b6 r mn,aS],trivial⟩
    ·simp at a
   ·split at a
    ·rename_i r mn
     simp at a;subst a
     exact⟨by simp[cC,b6 r mn,aS],trivial⟩
    ·simp at a
   ·simp at a
 ·simp at a
end
end Go.bk

namespace Go.bk
open Go.RowKit (Below)
section
variable{C:a2}{S:da}{af:Nat->Prop}{h:V an}{j bm:Nat}{w:World}
def aj1{s d:Nat}{x v:J}(ah:cn af x)(a:O8 C s d x=some v):(convert s d (aS S x)).run C.P w= .ok (aS S v) w/\cn af v:=by
 unfold O8 at a
 split at a
 ·rename_i mW F eE n Dw JC
  simp at a;subst a
  simp[convert,run_underlying Dw,run_underlying JC,Conv.intToInt,aS,cn]
 ·rename_i mW s Dw JC
  simp at a;subst a
  refine⟨?_,ah⟩
  simp[convert,run_underlying Dw,run_underlying JC,aS]
 ·simp at a
def ak5:∀{l:List J}{s:List Nat},yi l=some s->∃ms:List Nat,l=ms.map (λn=>J.int .u8 (Int.ofNat n))/\s=ms.map (·%256):=by
 intro l
 induction l with
 |nil=>intro s a;simp[yi]at a;subst a;exact⟨[],rfl,rfl⟩
 |cons K l am=>
  intro s a
  unfold yi at a
  split at a
  ·rename_i gK;simp at gK
  ·rename_i n ci ff
   simp only[YI]at ff
   obtain⟨rfl,rfl⟩:=ff
   split at a
   ·rename_i r Z
    simp at a;subst a
    obtain⟨ms,T,W⟩:=am Z
    exact⟨n::ms,by simp[T],by simp[W]⟩
   ·simp at a
  ·simp at a
def am5(ms:List Nat):∀r:ByteArray,(ms.map Int.ofNat).foldl (λr (n:Int)=>r.push (UInt8.ofNat n.toNat)) r=⟨r.data++(ms.map UInt8.ofNat).toArray⟩:=by
 induction ms with
 |nil=>intro r;simp
 |cons n ms am=>
  intro r
  simp only[ZR,YE,am]
  congr 1
  apply YY
  simp[ByteArray.push]
def E6(Z:dt C S af h j bm w){b Y n:Nat}{l:List J}(ai:af b)(a:m3 C h b Y n=some l):
 (loadCells ⟨(S b).cI,(S b).ek+Y,none⟩ n).run C.P w= .ok (b2 S l).toArray w/\eA af l:=by
 unfold m3 at a
 split at a
 ·rename_i c aB;exact Ll Z ai aB a
 ·simp only[e5,Zf]at a
  obtain⟨T,rfl⟩:=a
  have:n=0:=Zj T
  subst this
  refine⟨?_,trivial⟩
  have aD:=run_loadCells_list (P:=C.P) w ⟨(S b).cI,(S b).ek+Y,none⟩ [] (λaa v bD=>by simp at bD)
  simpa[b2]using aD
def ae5(Z:dt C S af h j bm w){b Y n cap:Nat}{l:List J}{s:List Nat}(ai:af b)(a:m3 C h b Y n=some l)(aI:yi l=some s):
 (Conv.bytesToString (.slice (some ⟨(S b).cI,(S b).ek+Y,none⟩) n cap)).run C.P w= .ok (aS S (.str s)) w/\cn af (.str s):=by
 obtain⟨T,_⟩:=E6 Z ai a
 obtain⟨ms,rfl,rfl⟩:=ak5 aI
 have W:=run_bytesToString (P:=C.P) w ⟨(S b).cI,(S b).ek+Y,none⟩ n cap (ms.map Int.ofNat) (by
  rw[T];congr 2
  rw[pL,YA,YA];rfl)
 constructor
 ·rw[W,am5]
  congr 2
  simp only[f4,YA]
  congr 1
  apply YY
  simp
  intro K _
  exact UInt8.toNat_inj.1 Zs
 ·simp only[cn]
  intro x ah
  obtain⟨e,_,rfl⟩:=ZJ.1 ah
  exact Nat.mod_lt _ Zd
def akg(Z:dt C S af h j bm w){x v:J}(ah:cn af x)(a:EO C h x=some v):(Conv.bytesToString (aS S x)).run C.P w= .ok (aS S v) w/\cn af v/\∃K l c,aS S x= .slice K l c:=by
 unfold EO at a
 split at a
 ·simp at a;subst a;exact⟨rfl,by simp[cn],_,_,_,rfl⟩
 ·split at a
  ·rename_i l aD
   split at a
   ·rename_i s aI
    simp at a;subst a
    obtain⟨T,W⟩:=ae5 Z ah aD aI
    exact⟨T,W,_,_,_,rfl⟩
   ·simp at a
  ·simp at a
 ·split at a
  ·rename_i l aD
   split at a
   ·rename_i s aI
    simp at a;subst a
    obtain⟨T,W⟩:=ae5 Z ah aD aI
    exact⟨T,W,_,_,_,rfl⟩
   ·simp at a
  ·simp at a
 ·simp at a
def ato(Z:dt C S af h j bm w){s d:Nat}{x:Operand}{ay:Operand->Value}{eG:Operand->Option J}{v:J}(cA:jj S af ay eG [x])
 (a:JW C s d x h eG=some v):(convert s d (ay x)).run C.P w= .ok (aS S v) w/\cn af v:=by
 unfold JW at a
 split at a
 ·rename_i K aE
  obtain⟨I,g⟩:=cA x Zs K aE
  rw[I]
  split at a
  ·rename_i ae be
   simp at a;subst a
   exact aj1 g be
  ·split at a
   ·rename_i tq Dw JC
    split at a
    ·rename_i bA
     obtain⟨T,W,f3,l,c,au⟩:=akg Z g a
     refine⟨?_,W⟩
     rw[au]at T ⊢
     rw[run_convert_bytes_string w s d tq f3 l c Dw bA JC]
     exact T
    ·simp at a
   ·simp at a
 ·simp at a
def DK{Y:Option J}{m d r:Nat}(a:pg Y m d=some r):(Y=none/\r=d)\/∃F,Y=some (.int F (Int.ofNat r))/\r<=m:=by
 unfold pg at a
 split at a
 ·rename_i v
  split at a
  ·rename_i n aM
   simp only[e5,Zf]at a
   obtain⟨T,rfl⟩:=a
   obtain⟨F,rfl⟩:=DR aM
   exact .inr ⟨F,rfl,jm T⟩
  ·simp at a
 ·simp at a;exact .inl ⟨rfl,a.symm⟩
def run_sliceBound{P:Program}{F:IntKind}{n e:Nat}{code:BoundsCode}(a:n<=e):(Instr.sliceBound (.int F (Int.ofNat n)) e code).run P w= .ok n w:=by
 have T:(0:Int)<=Int.ofNat n/\Int.ofNat n<=(e:Int):=⟨Int.natCast_nonneg n,Int.ofNat_le.2 a⟩
 simp only[Instr.sliceBound,asIntOf,Sem.run_bind,Sem.run_pure,Result.andThen_ok]
 rw[Zr T]
 rfl
def HT{Gi:Bool}{len cap Lj:Nat}{bU aN he:Option J}{l a m:Nat}(aB:cap<=Lj)(ai:mb len cap bU aN he=some (l,a,m)):
 (Instr.sliceBounds Gi len Lj (bU.map (aS S)) (aN.map (aS S)) (he.map (aS S))).run C.P w= .ok (l,a,if he.isSome then m else Lj) w/\l<=a/\(he=none->m=cap)/\m<=cap/\(a<=m\/a=len):=by
 unfold mb at ai
 split at ai
 ·simp at ai
 ·rename_i gr bs
  split at ai
  ·simp at ai
  ·rename_i cz gK
   split at ai
   ·simp at ai
   ·rename_i ci aD
    simp at ai
    obtain⟨rfl,rfl,rfl⟩:=ai
    have Jc:ci<=cz:=by
     rcases DK aD with ⟨_,rfl⟩|⟨F,_,gE⟩
     ·exact zm _
     ·exact gE
    cases he with
    |none=>
     have ve:gr=cap:=by simpa[pg]using bs.symm
     subst ve
     have MB:pg aN gr len=some cz:=by cases aN<;>exact gK
     refine⟨?_,Jc,λ_=>rfl,Zl _,(DK MB).elim (λa=> .inr a.2) (λ⟨_,_,a⟩=> .inl a)⟩
     rcases DK MB with ⟨rfl,rfl⟩|⟨F,rfl,gE⟩<;>rcases DK aD with ⟨rfl,rfl⟩|⟨cx,rfl,f5⟩
     ·simp[Instr.sliceBounds]
     ·simp only[Instr.sliceBounds,Y0,ZV,aS,Sem.run_bind,Sem.run_pure,Result.andThen_ok,run_sliceBound f5,Z1,Zx,ZA]
     ·simp only[Instr.sliceBounds,Y0,ZV,aS,Sem.run_bind,Sem.run_pure,Result.andThen_ok,run_sliceBound (Zz gE aB),Z1,Zx,ZA]
     ·simp only[Instr.sliceBounds,Y0,ZV,aS,Sem.run_bind,Sem.run_pure,Result.andThen_ok,run_sliceBound (Zz gE aB),run_sliceBound f5,Z1,Zx,ZA]
    |some aun=>
     rcases DK bs with ⟨ch,_⟩|⟨F,ch,gE⟩
     ·cases ch
     ·cases ch
      cases aN with
      |none=>simp at gK
      |some bD=>
       have MB:pg (some bD) gr len=some cz:=gK
       rcases DK MB with ⟨ch,_⟩|⟨fa,ch,Jb⟩
       ·cases ch
       ·cases ch
        refine⟨?_,Jc,(λa=>by cases a),gE, .inl Jb⟩
        rcases DK aD with ⟨rfl,rfl⟩|⟨cx,rfl,f5⟩
        ·simp only[Instr.sliceBounds,Y0,ZV,aS,Sem.run_bind,Sem.run_pure,Result.andThen_ok,run_sliceBound (Zz gE aB),run_sliceBound Jb,Z3,ZD]
        ·simp only[Instr.sliceBounds,ZV,aS,Sem.run_bind,Sem.run_pure,Result.andThen_ok,run_sliceBound (Zz gE aB),run_sliceBound Jb,run_sliceBound f5,Z3,ZD]
end
end Go.bk

namespace Go.bk
open Go.RowKit (Below)
section
variable{C:a2}{S:da}{af:Nat->Prop}{h:V an}{j bm:Nat}{w:World}
def alq(m l Y br:Nat):bV (Nat.beq m l) Y (Y+l*br)=if m=l then Y else Y+l*br:=hO _ _ _ _
def aeL(Z:dt C S af h j bm w){b n:Nat}(ai:af b)(a:xP C h b=some n):n<=(S b).room:=by
 unfold xP at a
 split at a
 ·rename_i c m fz bl
  simp at a;subst a
  obtain⟨cq,ty,bU,aN,_,W,_,_⟩:=Z.obj b _ bl ai
  exact W.2.1
 ·rename_i c m bl
  simp at a;subst a
  obtain⟨cq,ty,bU,aN,_,W,_,_⟩:=Z.obj b _ bl ai
  exact W.2.1
 ·simp at a
def TE{b Y l a m br:Nat}:Value.slice (some (if m=l then(⟨(S b).cI,(S b).ek+Y,none⟩:Addr)else(⟨(S b).cI,(S b).ek+Y,none⟩:Addr).add (l*br))) (a-l) (m-l)
 =aS S (.slice b (bV (Nat.beq m l) Y (Y+l*br)) (a-l) (m-l)):=by
 rw[alq]
 simp only[aS,rb]
 split
 ·rfl
 ·rw[ZN]
def ake(Z:dt C S af h j bm w){t:Nat}{x v:J}{bU aN he:Option J}(ah:cn af x)(a:Lc C h t x bU aN he=some v):
 (Instr.sliceAt t (aS S x) (bU.map (aS S)) (aN.map (aS S)) (he.map (aS S))).run C.P w= .ok (aS S v) w/\cn af v:=by
 unfold Lc at a
 split at a
 ·rename_i s be
  cases he with
  |some _=>simp at a
  |none=>
   simp only at a
   split at a
   ·rename_i l cz m ai
    simp at a;subst a
    obtain⟨T,W,_⟩:=HT (C:=C) (S:=S) (w:=w) (Gi:=false) (Zl _) ai
    have eX:(f4 s).size=s.length:=by simp[f4,ByteArray.size]
    constructor
    ·simp only[Y0,Z1,Zx,ZA]at T
     simp[Instr.sliceAt,run_underlying be,Instr.slice,aS,eX,T]
     apply ByteArray.ext
     rw[ByteArray.data_extract]
     apply YY
     simp[f4,List.map_take,List.map_drop,List.take_drop]
    ·simp only[cn]at ah ⊢
     intro bu cw
     exact ah bu (Y5 (Y6 cw))
   ·simp at a
 ·rename_i ep b Y len cap be
  split at a
  ·rename_i l cz m br ai eX
   simp at a;subst a
   obtain⟨T,W,au,_⟩:=HT (C:=C) (S:=S) (w:=w) (Gi:=true) (Zl cap) ai
   have bs:(if he.isSome=true then m else cap)=m:=by cases he with
    |none=>simp[au rfl]
    |some _=>rfl
   rw[bs]at T
   refine⟨?_,ah⟩
   have:=TE (S:=S) (b:=b) (Y:=Y) (l:=l) (a:=cz) (m:=m) (br:=br)
   simp only[Instr.sliceAt,Sem.run_bind,run_underlying be,Result.andThen_ok,Instr.slice,aS,T,pr eX,Sem.run_pure]
   rw[<-aS, <-this]
   split<;>rfl
  ·simp at a
 ·rename_i ep be
  split at a
  ·rename_i r br ai eX
   obtain⟨l,cz,m⟩:=r
   simp at a;subst a
   obtain⟨T,W,au,aP,bK⟩:=HT (C:=C) (S:=S) (w:=w) (Gi:=true) (Zl 0) ai
   have bs:m=0:=Zo
   have gK:cz=0:=Zo
   have aD:l=0:=Zo
   subst bs;subst gK;subst aD
   refine⟨?_,trivial⟩
   have tE:(Instr.sliceBounds true 0 0 (bU.map (aS S)) (aN.map (aS S)) (he.map (aS S))).run C.P w= .ok (0,0,0) w:=by rw[T];split<;>rfl
   simp[Instr.sliceAt,run_underlying be,Instr.slice,aS,tE,pr eX]
  ·simp at a
 ·rename_i ep b Y len br be
  split at a
  ·rename_i xR n eX aM
   simp only[e5,Zp]at a
   obtain⟨⟨k8,p1⟩,a⟩:=a
   have k8:br=xR:=Zj k8
   subst k8
   have p1:0<br:=lo p1
   have aru:=aeL Z ah aM
   have mI:(n-Y)/br<=((S b).room-Y)/br:=Nat.div_le_div_right Zo
   split at a
   ·rename_i l cz m ai
    obtain⟨T,W,au,_⟩:=HT (C:=C) (S:=S) (w:=w) (Gi:=true) mI ai
    cases he with
    |some aun=>
     simp at a;subst a
     refine⟨?_,ah⟩
     have:=TE (S:=S) (b:=b) (Y:=Y) (l:=l) (a:=cz) (m:=m) (br:=br)
     simp only[Z3,ZD]at T
     simp only[Instr.sliceAt,Sem.run_bind,run_underlying be,Result.andThen_ok,Instr.slice,aS,T,pr eX,Sem.run_pure]
     rw[<-aS, <-this]
     split<;>rfl
    |none=>
     simp only[e5,Zf,zf]at a
     obtain⟨aD,rfl⟩:=a
     refine⟨?_,ah⟩
     simp only[Z1,Zx,ZA]at T
     simp only[Instr.sliceAt,Sem.run_bind,run_underlying be,Result.andThen_ok,Instr.slice,aS,T,pr eX,Sem.run_pure]
     have cP:((S b).room-(Y+l*br))/br=((S b).room-Y)/br-l:=by
      rw[<-Nat.sub_sub,zn l br,Nat.sub_mul_div]
     rw[cP]
     congr 1
     congr 1
     rcases aD with aD|aD
     ·have aD:=lo aD
      rw[Zh Zo,ZV,rb,ZN]
     ·have aD:l=0:=Zj aD
      subst aD
      split<;>simp[rb]
   ·simp at a
  ·simp at a
 ·rename_i n ep b Y be
  split at a
  ·rename_i l cz m br ai eX
   simp at a;subst a
   obtain⟨T,W,au,_⟩:=HT (C:=C) (S:=S) (w:=w) (Gi:=false) (Zl n) ai
   have bs:(if he.isSome=true then m else n)=m:=by cases he with
    |none=>simp[au rfl]
    |some _=>rfl
   rw[bs]at T
   refine⟨?_,ah⟩
   have:=TE (S:=S) (b:=b) (Y:=Y) (l:=l) (a:=cz) (m:=m) (br:=br)
   simp only[Instr.sliceAt,Sem.run_bind,run_underlying be,Result.andThen_ok,Instr.sureAddr,aS,T,pr eX,Sem.run_pure]
   rw[<-aS, <-this]
  ·simp at a
 ·simp at a
end
end Go.bk

namespace Go.bk
open Go.RowKit (Below)
section
variable{C:a2}{S:da}{af:Nat->Prop}{h:V an}{j bm:Nat}{w:World}
def awQ{α:Type}{P:Program}(f:α->PUnit->Sem (ForInStep PUnit)):∀(l:List α),(∀K∈l,(f K ⟨⟩).run P w= .ok (.yield ⟨⟩) w)->(forIn l PUnit.unit f).run P w= .ok ⟨⟩ w:=by
 intro l
 induction l with
 |nil=>intro _;simp[Sem.run_pure]
 |cons K l am=>intro a;simp[List.forIn_cons,a K Zs,am λb ai=>a b (by simp[ai])]
def WB{I:Bool}:∀(n m t:Nat) (v:J),n<=m->cn af v->m1 C n t v=true->(Instr.checkKey I m t (aS S v)).run C.P w= .ok () w:=by
 intro n
 induction n with
 |zero=>intro m t v _ _ a;simp[m1]at a
 |succ n am=>
  intro m t v bs bD a
  obtain⟨m,rfl⟩:∃F,m=F+1:=⟨m-1,Zo⟩
  unfold m1 at a
  split at a
  ·rename_i iz d x be
   split at a
   ·rename_i i aN
    simp only[Zp]at a
    have:=am m d x Zo bD a.2
    simp[Instr.checkKey,run_underlying be,aS,typeInfo,aN,a.1,this]
   ·simp at a
  ·rename_i be;simp[Instr.checkKey,run_underlying be,aS]
  ·simp at a
  ·rename_i jS cs be
   simp only[Instr.checkKey,Sem.run_bind,run_underlying be,Result.andThen_ok,aS]
   rw[<-Array.forIn_toList]
   refine(congrArg (λr=>Result.andThen r _) (awQ _ _ ?_)).trans rfl
   intro f b9
   have:=List.all_eq_true.1 a f b9
   simp only[zf,YZ]at this
   by_cases aM:f.name= "_"
   ·simp[aM]
   ·rcases this with T|T
    ·exact absurd T aM
    ·split at T
     ·rename_i p aA
      obtain⟨fJ,hp⟩:=HK (S:=S) (w:=w) bD aA
      simp[aM,fJ,am m f.type p Zo hp T]
     ·simp at T
  ·simp at a
  ·simp at a
  ·rename_i d aJ bc bd be cj dH e1
   simp only[Instr.checkKey,Sem.run_bind,run_underlying be,Result.andThen_ok]
   cases d<;>first
    |exact(aJ _ rfl).elim
    |exact(bc _ rfl).elim
    |exact(bd _ _ rfl).elim
    |rfl
  ·simp at a
def Xh{x:J}{F:IntKind}{K:Int}(a:aS S x= .int F K):x= .int F K:=by
 cases x<;>simp[aS]at a
 obtain⟨rfl,rfl⟩:=a;rfl
def Xf{x:J}{K:Bool}(a:aS S x= .bool K):x= .bool K:=by
 cases x<;>simp[aS]at a
 subst a;rfl
def Xi{x:J}{K:ByteArray}(a:aS S x= .string K):∃s,x= .str s/\K=f4 s:=by
 cases x<;>simp[aS]at a
 exact⟨_,rfl,a.symm⟩
def W7(K b:ByteArray):(K==b)=(K.toList==b.toList):=by
 show(K.data==b.data)=_
 rw[Yf,YZ,YZ,ByteArray.toList_eq,ByteArray.toList_eq]
 exact⟨λa=>by rw[a],λa=>Array.toList_inj.1 a⟩
def aeG{d t:Nat}{fb:TypeDesc}{x e:J}{r hW:Bool}(be:C.P.underlying t=some fb)(fI:cn af x)(uQ:cn af e)
 (a:ks C h d t x e=some r)(cz:Instr.sameNow fb (aS S x) (aS S e)=some hW):r=hW:=by
 cases d with
 |zero=>simp[ks]at a
 |succ d=>
  unfold Instr.sameNow at cz
  split at cz
  ·rename_i eE F K fa b ah H
   rw[Xh ah,Xh H]at a
   simp[ks,be]at a
   split at cz
   ·simp at cz;rw[<-cz, <-a.2];rfl
   ·simp at cz
  ·rename_i K b ah H
   obtain⟨s,rfl,rfl⟩:=Xi ah
   obtain⟨fg,rfl,rfl⟩:=Xi H
   simp[ks,be]at a
   simp at cz
   rw[<-cz, <-a,W7,TM fI uQ]
  ·rename_i K b ah H
   rw[Xf ah,Xf H]at a
   simp[ks,be]at a
   simp at cz;rw[<-cz, <-a]
  ·simp at cz
def uy(S:da)(r:Option (Nat×J)):Option (Nat×Value):=r.map λx=>(x.1,aS S x.2)
def amY{t:Nat}{fb:TypeDesc}{F:J}(be:C.P.underlying t=some fb)(n8:cn af F):∀(b7:List (J×J×Nat)) (i:Nat) (r:Option (Nat×J)) (hW:Option (Nat×Value)),
 (∀I∈b7,cn af I.1/\cn af I.2.1)->findKey C h t F b7 i=some r->Instr.findNow fb (aS S F) (b7.map (lQ S)) i=some hW->hW=uy S r:=by
 intro b7
 induction b7 with
 |nil=>intro i r hW _ a cz;simp[findKey]at a;simp[Instr.findNow]at cz;subst a;subst cz;rfl
 |cons I b7 am=>
  intro i r hW b0 a cz
  obtain⟨fa,v,b⟩:=I
  simp only[findKey]at a
  simp only[ZR,Instr.findNow,lQ]at cz
  split at a
  ·rename_i bA
   simp at a;subst a
   split at cz
   ·simp at cz;rw[<-cz];rfl
   ·rename_i aI
    have:=aeG be n8 (b0 (fa,v,b) (Zv ..)).1 bA aI
    simp at this
   ·simp at cz
  ·rename_i bA
   split at cz
   ·rename_i aI
    have:=aeG be n8 (b0 (fa,v,b) (Zv ..)).1 bA aI
    simp at this
   ·exact am _ _ _ (λI bA=>b0 I (by simp[bA])) a cz
   ·simp at cz
  ·simp at a
def amW(Z:dt C S af h j bm w){t:Nat}{F:J}(n8:cn af F):∀(b7:List (J×J×Nat)) (i:Nat) (r:Option (Nat×J)),
 (∀I∈b7,cn af I.1/\cn af I.2.1)->findKey C h t F b7 i=some r->(Instr.findAsking t (aS S F) (b7.map (lQ S)) i).run C.P w= .ok (uy S r) w:=by
 intro b7
 induction b7 with
 |nil=>intro i r _ a;simp[findKey]at a;subst a;simp[Instr.findAsking,uy]
 |cons I b7 am=>
  intro i r b0 a
  obtain⟨fa,v,b⟩:=I
  simp only[findKey]at a
  have bs:20<=Op.maxDepth:=by decide
  split at a
  ·rename_i bA
   simp at a;subst a
   have:=O9 Z 20 _ t F fa true bs n8 (b0 (fa,v,b) (Zv ..)).1 bA
   simp[Instr.findAsking,Op.equal,lQ,this,uy]
  ·rename_i bA
   have:=O9 Z 20 _ t F fa false bs n8 (b0 (fa,v,b) (Zv ..)).1 bA
   simp[Instr.findAsking,Op.equal,lQ,this]
   exact am _ _ (λI bA=>b0 I (by simp[bA])) a
  ·simp at a
def P3(Z:dt C S af h j bm w){t:Nat}{fb:TypeDesc}{F:J}{b7:List (J×J×Nat)}{r:Option (Nat×J)}(be:C.P.underlying t=some fb)(n8:cn af F)
 (b0:∀I∈b7,cn af I.1/\cn af I.2.1)(a:findKey C h t F b7 0=some r):(Instr.findKey t (aS S F) (b7.map (lQ S))).run C.P w= .ok (uy S r) w:=by
 simp only[Instr.findKey,Sem.run_bind,run_underlying be,Result.andThen_ok]
 split
 ·rename_i hW cz
  rw[amY be n8 b7 0 r hW b0 a cz];rfl
 ·exact amW Z n8 b7 0 r b0 a
def X4{t:Nat}{F:J}:∀(b7:List (J×J×Nat)) (i aa:Nat) (v:J),findKey C h t F b7 i=some (some (aa,v))->i<=aa/\∃I,b7[aa-i]? =some I/\I.2.1=v:=by
 intro b7
 induction b7 with
 |nil=>intro i aa v a;simp[findKey]at a
 |cons I b7 am=>
  intro i aa v a
  obtain⟨fa,g7,b⟩:=I
  simp only[findKey]at a
  split at a
  ·simp at a
   obtain⟨rfl,rfl⟩:=a
   exact⟨Zl _,(fa,g7,b),Zs,rfl⟩
  ·obtain⟨T,I,W,au⟩:=am _ _ _ a
   refine⟨Zo,I, ?_,au⟩
   rw[show aa-i=(aa-(i+1))+1 by omega]
   simpa using W
  ·simp at a
def acQ{t d:Nat}{F:J}(a:m1 C d t F=true):∃fb,C.P.underlying t=some fb:=by
 cases d with
 |zero=>simp[m1]at a
 |succ d=>
  cases be:C.P.underlying t with
  |none=>simp[m1,be]at a
  |some fb=>exact⟨fb,rfl⟩
def J4(Z:dt C S af h j bm w){r:Nat}{b7:List (J×J×Nat)}{fh:Nat}(aO:af r)(a:ab C h r=some (.map b7 fh)):
 ∃cq,(getObj (S r).cI).run C.P w= .ok (.map cq fh) w/\w.heap[(S r).cI]? =some (.map cq fh)/\cq.toList=b7.map (lQ S)/\∀I∈b7,cn af I.1/\cn af I.2.1:=by
 obtain⟨cq,T,W,au⟩:=Z.obj r _ a aO
 exact⟨cq,MapKept.run_getObj_map T,T,W,au⟩
def adg{t:Nat}{F:J}{K b:List (J×J)}(a:K.Perm b):∀r,pk C h t F K=some r->pk C h t F b=some r:=by
 induction a with
 |nil=>exact λ_ a=>a
 |cons x _ am=>
  obtain⟨fa,v⟩:=x
  intro r a
  simp only[pk]at a ⊢
  split at a
  ·rename_i Z bA
   rw[am _ Z,bA];simpa using a
  ·rename_i Z bA
   rw[am _ Z,bA];simpa using a
  ·cases a
 |swap x e l=>
  obtain⟨atf,Oo⟩:=x
  obtain⟨sH,Oq⟩:=e
  intro r a
  simp only[pk]at a ⊢
  cases aD:pk C h t F l with
  |none=>simp[aD]at a
  |some jv=>
   simp only[aD]at a
   cases ah:ks C h 20 t F atf with
   |none=>rw[ah]at a;cases jv<;>simp at a
   |some W6=>
    cases H:ks C h 20 t F sH with
    |none=>
     rw[ah,H]at a
     cases W6<;>cases jv<;>simp at a
    |some ak3=>
     rw[ah,H]at a
     cases W6<;>cases ak3<;>cases jv<;>simp at a ⊢ <;>exact a
 |trans _ _ Si JH=>exact λr a=>JH r (Si r a)
def adf{t:Nat}{F:J}:∀(b7:List (J×J×Nat)) (i:Nat) (r:Option J),pk C h t F (b7.map λI=>(I.1,I.2.1))=some r->∃hW,findKey C h t F b7 i=some hW/\hW.map (·.2)=r:=by
 intro b7
 induction b7 with
 |nil=>intro i r a;simp[pk]at a;subst a;exact⟨none,rfl,rfl⟩
 |cons I b7 am=>
  obtain⟨fa,g7,b⟩:=I
  intro i r a
  simp only[ZR,pk]at a
  simp only[findKey]
  split at a
  ·rename_i jv Z bA
   simp at a;subst a
   rw[bA]
   exact am (i+1) _ Z
  ·rename_i Z bA
   simp at a;subst a
   rw[bA]
   exact⟨some (i,g7),rfl,rfl⟩
  ·cases a
def aj9(Z:dt C S af h j bm w){t:Nat}{m F v:J}{ok:Bool}(wY:cn af m)(n8:cn af F)(a:Lb C h t m F ok=some v):
 (Instr.lookup t (aS S m) (aS S F) ok).run C.P w= .ok (aS S v) w/\cn af v:=by
 unfold Lb at a
 split at a
 ·rename_i jH AV be
  have key:∀(b7:List (J×J×Nat)) (cq:Array MapEntry) (r:Option (Nat×J)),cq.toList=b7.map (lQ S)->(∀I∈b7,cn af I.1/\cn af I.2.1)->m1 C 20 jH F=true->findKey C h jH F b7 0=some r->
   (match r with|none=>(match s8 C AV with|some bu=>some (bV ok (.tuple [bu, .bool false]) bu)|none=>none)|some (_,v)=>some (bV ok (.tuple [v, .bool true]) v))=some v->
   (do
    Instr.checkKey cq.isEmpty 10000 jH (aS S F)
    let(v,Y)<-match<-Instr.findKey jH (aS S F) cq.toList with
     |some (_,v)=>pure (v,true)
     |none=>pure (<-zeroValue AV,false)
    pure (if ok then .tuple #[v, .bool Y]else v):Sem Value).run C.P w= .ok (aS S v) w/\cn af v:=by
   intro b7 cq r aE b0 aL b9 bD
   obtain⟨fb,ME⟩:=acQ aL
   have T:=WB (C:=C) (S:=S) (af:=af) (w:=w) (I:=cq.isEmpty) 20 10000 jH F Zd n8 aL
   have W:=P3 Z ME n8 b0 b9
   rw[aE]
   cases r with
   |none=>
    simp only at bD
    split at bD
    ·rename_i bu cw
     obtain⟨f2,fF⟩:=Eg cw S af w
     simp at bD;subst bD
     cases ok
     ·exact⟨by simp[T,W,uy,f2],fF⟩
     ·exact⟨by simp[T,W,uy,f2,aS,b2],⟨fF,trivial,trivial⟩⟩
    ·simp at bD
   |some p=>
    obtain⟨aa,ae⟩:=p
    simp at bD;subst bD
    obtain⟨_,I,bA,rfl⟩:=X4 b7 0 aa ae b9
    have abm:=(b0 I (Zn bA)).2
    cases ok
    ·exact⟨by simp[T,W,uy],abm⟩
    ·exact⟨by simp[T,W,uy,aS,b2],⟨abm,trivial,trivial⟩⟩
  split at a
  ·simp at a
  ·rename_i bs
   split at bs
   ·simp only[e5,Zf]at bs
    have:=key [] #[] none rfl Zs bs.1 (by simp[findKey]) a
    refine⟨?_,this.2⟩
    rw[<-this.1]
    simp only[Instr.lookup,Sem.run_bind,run_underlying be,Result.andThen_ok,aS,Sem.run_pure]
    rfl
   ·rename_i r
    split at bs
    ·rename_i b7 fh bl
     simp only[e5]at bs
     obtain⟨cq,T,_,W,au⟩:=J4 Z wY bl
     have:=key b7 cq none W au bs.1 bs.2 a
     refine⟨?_,this.2⟩
     rw[<-this.1]
     simp only[Instr.lookup,Sem.run_bind,run_underlying be,Result.andThen_ok,aS,Sem.run_pure,T]
     rfl
    ·rename_i b7 bl
     simp only[e5]at bs
     obtain⟨cq,fh,me,T,W,aP,au⟩:=Z.obj r _ bl wY
     have bB:pk C h jH F b7=some none:=by
      have:=bs.2
      unfold GF at this
      split at this<;>simp at this
      all_goals(rename_i ao;first|(rw[ao,this.2])|exact ao|(rw[ao];simp[this]))
     obtain⟨hW,eS,e2⟩:=adf me 0 _ (adg aP.symm _ bB)
     cases hW with
     |none=>
      have:=key me cq none W au bs.1 eS a
      refine⟨?_,this.2⟩
      rw[<-this.1]
      simp only[Instr.lookup,Sem.run_bind,run_underlying be,Result.andThen_ok,aS,Sem.run_pure,MapKept.run_getObj_map T]
      rfl
     |some p=>
      obtain⟨fJ,hp⟩:=p
      simp at e2
    ·simp at bs
   ·simp at bs
  ·rename_i aa ae bs
   split at bs
   ·simp only[e5]at bs
    simp at bs
   ·rename_i r
    split at bs
    ·rename_i b7 fh bl
     simp only[e5]at bs
     obtain⟨cq,T,_,W,au⟩:=J4 Z wY bl
     have:=key b7 cq (some (aa,ae)) W au bs.1 bs.2 a
     refine⟨?_,this.2⟩
     rw[<-this.1]
     simp only[Instr.lookup,Sem.run_bind,run_underlying be,Result.andThen_ok,aS,Sem.run_pure,T]
     rfl
    ·rename_i b7 bl
     simp only[e5]at bs
     obtain⟨cq,fh,me,T,W,aP,au⟩:=Z.obj r _ bl wY
     have bB:pk C h jH F b7=some (some ae):=by
      have:=bs.2
      unfold GF at this
      split at this<;>simp at this
      all_goals(rename_i ao;first|(rw[ao,this.2])|exact ao|(rw[ao];simp[this]))
     obtain⟨hW,eS,e2⟩:=adf me 0 _ (adg aP.symm _ bB)
     cases hW with
     |none=>
      simp at e2
     |some p=>
      obtain⟨fJ,hp⟩:=p
      simp at e2
      subst e2
      have:=key me cq (some (fJ,hp)) W au bs.1 eS a
      refine⟨?_,this.2⟩
      rw[<-this.1]
      simp only[Instr.lookup,Sem.run_bind,run_underlying be,Result.andThen_ok,aS,Sem.run_pure,MapKept.run_getObj_map T]
      rfl
    ·simp at bs
   ·simp at bs
 ·simp at a
end
end Go.bk

namespace Go.bk
open Go.RowKit (Below)
section
variable{C:a2}{S:da}{af:Nat->Prop}{h:V an}{j bm:Nat}{w:World}
def atp{t f:Nat}{x:Operand}{ay:Operand->Value}{eG:Operand->Option J}{v:J}(cA:jj S af ay eG [x])
 (a:JX C t x f h eG=some v):(Instr.field t (ay x) f).run C.P w= .ok (aS S v) w/\cn af v:=by
 unfold JX at a
 split at a
 ·rename_i jS cs be ah
  obtain⟨I,g⟩:=cA x Zs _ ah
  rw[I]
  rw[pn]at a
  split at a
  ·rename_i se b9
   have qw:jS[f]? =some se:=by rw[<-b9];simp
   obtain⟨T,W⟩:=HK (S:=S) (w:=w) g a
   refine⟨?_,W⟩
   simp[Instr.field,run_underlying be,qw,asAgg,aS,T]
  ·simp at a
 ·simp at a
def atq{t:Nat}{x:Operand}{ay:Operand->Value}{eG:Operand->Option J}{v:J}(cA:jj S af ay eG [x])
 (a:JY C t x h eG=some v):(Instr.makeInterface t (ay x)).run C.P w= .ok (aS S v) w/\cn af v:=by
 unfold JY at a
 split at a
 ·simp at a
 ·rename_i d ae aM be ah
  obtain⟨I,g⟩:=cA x Zs _ ah
  simp at a;subst a
  refine⟨?_,g⟩
  rw[I]
  cases d<;>first|exact(aM _ rfl).elim|simp[Instr.makeInterface,run_underlying be,aS]
 ·simp at a
def atm{x:Operand}{t uw:Nat}{ok:Bool}{ay:Operand->Value}{eG:Operand->Option J}{v:J}(cA:jj S af ay eG [x])
 (a:JV C x uw ok h eG=some v):(Instr.typeAssert (ay x) t uw ok).run C.P w= .ok (aS S v) w/\cn af v:=by
 unfold JV at a
 split at a
 ·simp at a
 ·rename_i d aM be ah
  obtain⟨I,g⟩:=cA x Zs _ ah
  rw[I]
  simp only[e5]at a
  obtain⟨rfl,a⟩:=a
  split at a
  ·rename_i bu cw
   simp at a;subst a
   obtain⟨f2,fF⟩:=Eg cw S af w
   refine⟨?_,fF,trivial,trivial⟩
   cases d<;>first|exact(aM _ rfl).elim|simp[Instr.typeAssert,run_underlying be,aS,b2,f2]
  ·simp at a
 ·rename_i d hr ae aM be ah
  obtain⟨I,g⟩:=cA x Zs _ ah
  rw[I]
  rw[hO]at a
  split at a
  ·rename_i bA
   subst bA
   simp at a
   cases ok
   ·simp at a;subst a
    refine⟨?_,g⟩
    cases d<;>first|exact(aM _ rfl).elim|simp[Instr.typeAssert,run_underlying be,aS]
   ·simp at a;subst a
    refine⟨?_,g,trivial,trivial⟩
    cases d<;>first|exact(aM _ rfl).elim|simp[Instr.typeAssert,run_underlying be,aS,b2]
  ·rename_i bA
   simp only[e5]at a
   obtain⟨rfl,a⟩:=a
   split at a
   ·rename_i bu cw
    simp at a;subst a
    obtain⟨f2,fF⟩:=Eg cw S af w
    refine⟨?_,fF,trivial,trivial⟩
    cases d<;>first|exact(aM _ rfl).elim|simp[Instr.typeAssert,run_underlying be,aS,b2,f2,bA]
   ·simp at a
 ·simp at a
def aj7(Z:dt C S af h j bm w){t:Nat}{dm:Array TypeId}{ty:TypeId}{x v:J}{rest:List TypeId}(aE:dm.toList=t::rest)(fI:cn af x)(a:La C h t x=some v):
 (Builtin.len_ dm ty #[aS S x]).run C.P w= .ok (aS S v) w/\cn af v:=by
 have sl:dm[0]? =some t:=by rw[<-ZM,aE];rfl
 unfold La at a
 split at a<;>(try simp only[acz]at a)
 ·rename_i s be
  simp at a;subst a
  refine⟨?_,trivial⟩
  have aI:(f4 s).size=s.length:=by simp[f4,ByteArray.size]
  simp[Builtin.len_,sl,run_underlying be,aS,goInt,aI]
 ·rename_i n tq be
  simp at a;subst a
  refine⟨?_,trivial⟩
  simp[Builtin.len_,sl,run_underlying be,goInt]
  simp[aS]
 ·rename_i cq be
  split at a
  ·rename_i n tq R9
   simp at a;subst a
   refine⟨?_,trivial⟩
   simp[Builtin.len_,sl,run_underlying be,run_underlying R9,goInt]
   simp[aS]
  ·simp at a
 ·rename_i be
  simp at a;subst a
  refine⟨?_,trivial⟩
  simp[Builtin.len_,sl,run_underlying be,aS,goInt]
 ·rename_i be
  simp at a;subst a
  refine⟨?_,trivial⟩
  simp[Builtin.len_,sl,run_underlying be,aS,goInt]
 ·rename_i be
  simp at a;subst a
  refine⟨?_,trivial⟩
  simp[Builtin.len_,sl,run_underlying be,aS,goInt]
 ·rename_i be
  simp at a;subst a
  refine⟨?_,trivial⟩
  simp[Builtin.len_,sl,run_underlying be,aS,goInt]
 ·rename_i r be
  split at a
  ·rename_i b7 fh bl
   simp at a;subst a
   obtain⟨cq,T,W,au,aP⟩:=J4 Z fI bl
   refine⟨?_,trivial⟩
   have:cq.size=b7.length:=by rw[<-Array.length_toList,au,Zi]
   simp[Builtin.len_,sl,run_underlying be,aS,goInt,T,this]
  ·simp at a
 ·simp at a
def aj0{t:Nat}{dm:Array TypeId}{ty:TypeId}{x v:J}{rest:List TypeId}(aE:dm.toList=t::rest)(a:K7 C t x=some v):
 (Builtin.cap_ dm ty #[aS S x]).run C.P w= .ok (aS S v) w/\cn af v:=by
 have sl:dm[0]? =some t:=by rw[<-ZM,aE];rfl
 unfold K7 at a
 split at a<;>(try simp only[acz]at a)
 ·rename_i be
  simp at a;subst a
  refine⟨?_,trivial⟩
  simp[Builtin.cap_,sl,run_underlying be,aS,goInt]
 ·rename_i be
  simp at a;subst a
  refine⟨?_,trivial⟩
  simp[Builtin.cap_,sl,run_underlying be,aS,goInt]
 ·simp at a
def akb:∀(l:List J) (x v:J),oM true x l=some v->((b2 S l).foldlM Builtin.max2 (aS S x)).run C.P w= .ok (aS S v) w/\(cn af x->cn af v):=by
 intro l
 induction l with
 |nil=>intro x v a;cases x<;>simp[oM]at a<;>subst a<;>simp[b2]
 |cons e l am=>
  intro x v a
  unfold oM at a
  split at a
  ·rename_i ch;simp at ch
  ·rename_i F K fa b ci ff
   simp only[YI]at ff
   obtain⟨rfl,rfl⟩:=ff
   obtain⟨T,W⟩:=am _ _ a
   refine⟨?_,λ_=>W trivial⟩
   simp only[b2,List.foldlM_cons,Sem.run_bind,aS,Builtin.max2,Sem.run_pure,Result.andThen_ok]
   simp only[e6,tW,fG,Zg,aS]at T
   exact T
  ·simp at a
def akc:∀(l:List J) (x v:J),oM false x l=some v->((b2 S l).foldlM Builtin.min2 (aS S x)).run C.P w= .ok (aS S v) w/\(cn af x->cn af v):=by
 intro l
 induction l with
 |nil=>intro x v a;cases x<;>simp[oM]at a<;>subst a<;>simp[b2]
 |cons e l am=>
  intro x v a
  unfold oM at a
  split at a
  ·rename_i ch;simp at ch
  ·rename_i F K fa b ci ff
   simp only[YI]at ff
   obtain⟨rfl,rfl⟩:=ff
   obtain⟨T,W⟩:=am _ _ a
   refine⟨?_,λ_=>W trivial⟩
   simp only[b2,List.foldlM_cons,Sem.run_bind,aS,Builtin.min2,Sem.run_pure,Result.andThen_ok]
   simp only[jz,tW,fG,Zg,aS]at T
   exact T
  ·simp at a
end
end Go.bk

namespace Go.bk
open Go.RowKit (Below)
section
variable{C:a2}{S:da}{af:Nat->Prop}{h:V an}{j bm:Nat}{w:World}
def jj.mono{ay:Operand->Value}{eG:Operand->Option J}{l ci:List Operand}(a:jj S af ay eG l)(aI:∀x∈ci,x∈l):jj S af ay eG ci:=λx ah v bD=>a x (aI x ah) v bD
def PX{ay:Operand->Value}{eG:Operand->Option J}{Y:Option Operand}{r:Option J}(cA:jj S af ay eG Y.toList)(a:B0 eG Y=some r):Y.map ay=r.map (aS S):=by
 cases Y with
 |none=>simp[B0]at a;subst a;rfl
 |some x=>
  simp only[B0]at a
  split at a
  ·rename_i v bD
   simp at a;subst a
   simp[(cA x Zs v bD).1]
  ·simp at a
def aj8(Z:dt C S af h j bm w){oper:Oper}{ay:Operand->Value}{eG:Operand->Option J}{v:J}(cA:jj S af ay eG oper.op.operands.toList)
 (a:nY oper.op C h eG=some v):KU S af C.P w (execOp ay oper) v:=by
 obtain⟨dst,op,type,pos,after,guard⟩:=oper
 cases op<;>simp only[nY]at a<;>(try(cases a;done))<;>simp only[execOp]<;>simp only[Op.operands]at cA
 case build t j4=>
  refine n0 ?_
  unfold Sv at a
  split at a
  ·rename_i du RR
   obtain⟨T,W⟩:=XS (by simpa using cA) RR
   have:=ajZ (S:=S) (w:=w) W a
   rw[<-T]at this
   have I:(j4.map λx=>(x.1,ay x.2))=(j4.toList.map λx=>(x.1,ay x.2)).toArray:=by apply YY;simp
   rw[I];exact this
  ·simp at a
 case binOp op t x e Ho=>exact n0 (atn Z (by simpa using cA) a)
 case unOp op t x=>
  refine n0 ?_
  unfold SD at a
  split at a
  ·rename_i K aE
   rw[(cA x Zs K aE).1]
   exact akh a
  ·simp at a
 case convert s d x=>exact n0 (ato Z (by simpa using cA) a)
 case makeInterface t x=>exact n0 (atq (by simpa using cA) a)
 case makeFunc fn first fO=>
  refine n0 ?_
  unfold Sz at a
  split at a
  ·rename_i K b aE ai
   split at a
   ·simp at a;subst a
    obtain⟨bf,ck⟩:=wK (cA.mono (by simp;intro x ah;exact .inl ah)) aE
    obtain⟨cT,dL⟩:=wK (cA.mono (by simp;intro x ah;exact .inr ah)) ai
    refine⟨?_,trivial,ck,dL⟩
    simp[Instr.makeFunc,bf,cT,aS,m2]
   ·simp at a
  ·simp at a
 case slice t x bU aN he=>
  refine n0 ?_
  unfold SC at a
  split at a
  ·rename_i K l cz m aE aD gK bs
   have T:=cA x Zs K aE
   have W:=PX (cA.mono (by simp;intro x ah;exact .inr (.inl ah))) aD
   have au:=PX (cA.mono (by simp;intro x ah;exact .inr (.inr (.inl ah)))) gK
   have aP:=PX (cA.mono (by simp;intro x ah;exact .inr (.inr (.inr ah)))) bs
   rw[T.1,W,au,aP]
   exact ake Z T.2 a
  ·simp at a
 case field t x f=>exact n0 (atp (by simpa using cA) a)
 case index t x i=>
  refine n0 ?_
  unfold SA at a
  split at a
  ·rename_i K b aE ai
   have T:=cA x Zs K aE
   rw[T.1,(cA i Zs b ai).1]
   exact aj5 T.2 a
  ·simp at a
 case lookup t m F ok=>
  refine n0 ?_
  unfold SB at a
  split at a
  ·rename_i K b aE ai
   have T:=cA m Zs K aE
   have W:=cA F Zs b ai
   rw[T.1,W.1]
   exact aj9 Z T.2 W.2 a
  ·simp at a
 case typeAssert x t uw ok=>exact n0 (atm (by simpa using cA) a)
 case call c=>
  unfold Sx at a
  split at a
  ·rename_i b args dm
   simp only[Call.operands]at cA
   have Nc:jj S af ay eG args.toList:=cA.mono Zs
   unfold Sw at a
   split at a
   ·rename_i x ah
    obtain⟨bf,ck⟩:=wK Nc ah
    split at a
    ·rename_i t rest aE
     obtain⟨T,W⟩:=aj7 (ty:=type) Z aE ck.1 a
     refine⟨?_,W⟩
     simp[resolve,invoke,builtin,bf,b2,T]
    ·simp at a
   ·rename_i x ah
    obtain⟨bf,ck⟩:=wK Nc ah
    split at a
    ·rename_i t rest aE
     obtain⟨T,W⟩:=aj0 (S:=S) (af:=af) (w:=w) (ty:=type) aE a
     refine⟨?_,W⟩
     simp[resolve,invoke,builtin,bf,b2,T]
    ·simp at a
   ·rename_i x l ah
    obtain⟨bf,ck⟩:=wK Nc ah
    obtain⟨T,W⟩:=akb (C:=C) (S:=S) (af:=af) (w:=w) l x v a
    refine⟨?_,W ck.1⟩
    simp[resolve,invoke,builtin,Builtin.max_,bf,b2,T]
   ·rename_i x l ah
    obtain⟨bf,ck⟩:=wK Nc ah
    obtain⟨T,W⟩:=akc (C:=C) (S:=S) (af:=af) (w:=w) l x v a
    refine⟨?_,W ck.1⟩
    simp[resolve,invoke,builtin,Builtin.min_,bf,b2,T]
   ·simp at a
  ·simp at a
def ada(Z:dt C S af h j bm w){oper:Oper}{ay:Operand->Value}{es:List (Nat×Nat)}{aw:List (Nat×J)}{M:V J}{c:jM}{v:J}
 (cA:jj S af ay (i7 es aw M) oper.op.operands.toList)(aB:lN C es oper.op=some c)(a:gU c C h aw M=some v):KU S af C.P w (execOp ay oper) v:=by
 have rest:∀Y,oper.op=Y->c= .ia es Y->KU S af C.P w (execOp ay oper) v:=by
  intro Y bl C6
  subst C6;subst bl
  exact aj8 Z cA a
 obtain⟨dst,op,type,pos,after,guard⟩:=oper
 cases op<;>simp only[lN]at aB<;>simp only[Op.operands]at cA
 case move x=>
  split at aB
  ·rename_i iQ ah
   simp at aB;subst aB
   simp only[gU,nw ah]at a
   obtain⟨T,W⟩:=cA x Zs v a
   exact⟨by simp[execOp,T],W⟩
  ·simp at aB
 case assign x=>
  split at aB
  ·rename_i iQ ah
   simp at aB;subst aB
   simp only[gU,nw ah]at a
   obtain⟨T,W⟩:=cA x Zs v a
   exact⟨by simp[execOp,T],W⟩
  ·simp at aB
 case pick f9 K b=>
  split at aB
  ·rename_i azi f3 dN Q6 aE ai
   simp at aB;subst aB
   simp only[gU,nw Q6]at a
   split at a
   ·rename_i ae be
    obtain⟨T,W⟩:=cA f9 Zs ae be
    unfold OC at a
    split at a
    ·rename_i t
     rw[nw aE,nw ai]at a
     simp only[execOp,T,aS]
     cases t
     ·obtain⟨au,aP⟩:=cA b Zs v (by simpa using a)
      exact⟨by simp[asBool,au],aP⟩
     ·obtain⟨au,aP⟩:=cA K Zs v (by simpa using a)
      exact⟨by simp[asBool,au],aP⟩
    ·simp at a
   ·simp at a
  ·simp at aB
 case load t K=>
  split at aB
  ·rename_i f3 s aE T W
   simp at aB;subst aB
   simp only[gU,nw aE]at a
   split at a
   ·rename_i ae be
    obtain⟨au,aP⟩:=cA K Zs ae be
    simp only[execOp,au]
    exact n0 (WD Z T W aP a)
   ·simp at a
  ·rename_i f3 aE T
   simp at aB;subst aB
   simp only[gU,nw aE]at a
   split at a
   ·rename_i ae be
    obtain⟨au,aP⟩:=cA K Zs ae be
    simp only[execOp,au]
    exact n0 (WC Z T aP a)
   ·simp at a
  ·simp at aB
 case fieldAddr s x f=>
  split at aB
  ·rename_i jS iQ be ah
   rw[pn]at aB
   split at aB
   ·rename_i se b9
    split at aB
    ·rename_i bu cw
     simp only[E9]at aB
     obtain⟨lx,aB⟩:=aB
     simp at aB;subst aB
     simp only[gU,nw ah]at a
     split at a
     ·rename_i ae tS
      obtain⟨au,aP⟩:=cA x Zs ae tS
      simp only[execOp,au]
      exact n0 (amS be b9 cw (by intro I;subst I;simp at lx) aP a)
     ·simp at a
    ·simp at aB
   ·simp at aB
  ·simp at aB
 case indexAddr t x i=>
  split at aB
  ·rename_i n ep iQ cB be ah aN
   split at aB
   ·rename_i br cw
    simp at aB;subst aB
    simp only[gU,nw ah,nw aN]at a
    split at a
    ·rename_i ae tS
     split at a
     ·rename_i aa bL
      split at a
      ·rename_i aV aM
       obtain⟨F,rfl⟩:=DR aM
       obtain⟨au,aP⟩:=cA x Zs ae tS
       obtain⟨bK,cr⟩:=cA i Zs _ bL
       simp only[execOp,au,bK,aS]
       exact n0 (asE be cw aP a)
      ·simp at a
     ·simp at a
    ·simp at a
   ·simp at aB
  ·rename_i ep iQ cB be ah aN
   split at aB
   ·rename_i br cw
    simp at aB;subst aB
    simp only[gU,nw ah,nw aN]at a
    split at a
    ·rename_i ae tS
     split at a
     ·rename_i aa bL
      split at a
      ·rename_i aV aM
       obtain⟨F,rfl⟩:=DR aM
       obtain⟨au,aP⟩:=cA x Zs ae tS
       obtain⟨bK,cr⟩:=cA i Zs _ bL
       simp only[execOp,au,bK,aS]
       exact n0 (asH be cw aP a)
      ·simp at a
     ·simp at a
    ·simp at a
   ·simp at aB
  ·simp at aB
 case nilCheck x=>
  split at aB
  ·rename_i iQ ah
   simp at aB;subst aB
   simp only[gU,nw ah]at a
   split at a
   ·rename_i ae be
    obtain⟨au,aP⟩:=cA x Zs ae be
    obtain⟨rfl,bK⟩:=ayZ (C:=C) (S:=S) (w:=w) aP a
    exact⟨bK _ ay x rfl au,aP⟩
   ·simp at a
  ·simp at aB
 case binOp op t x e Ho=>
  rw[fG]at aB
  split at aB
  ·split at aB
   ·rename_i iQ aBK ah H
    simp at aB;subst aB
    simp only[gU,nw ah,nw H]at a
    split at a
    ·rename_i K aE
     split at a
     ·rename_i b ai
      obtain⟨T,W⟩:=cA x Zs K aE
      obtain⟨au,aP⟩:=cA e Zs b ai
      obtain⟨bK,cr,F,i,fa,aa,rfl,rfl⟩:=WA (C:=C) (S:=S) (af:=af) (w:=w) t a
      simp only[execOp,T,au]
      refine n0 ⟨?_,cr⟩
      rw[Sem.run_bind,LF (by simp[Fj])]
      exact bK
     ·simp at a
    ·simp at a
   ·simp at aB
  ·simp at aB;exact rest _ rfl aB.symm
 case extract x i=>
  split at aB
  ·rename_i iQ ah
   simp at aB;subst aB
   simp only[gU,nw ah]at a
   split at a
   ·rename_i ae be
    obtain⟨au,aP⟩:=cA x Zs ae be
    simp only[execOp,au]
    exact n0 (ayY aP a)
   ·simp at a
  ·simp at aB
 case convert s d x=>
  rw[fG]at aB
  split at aB
  ·simp at aB;subst aB;simp[gU]at a
  ·simp at aB;exact rest _ rfl aB.symm
 case store t K x=>
  split at aB
  ·simp at aB;subst aB;simp[gU]at a
  ·simp at aB
 case makeMap t r=>cases r<;>simp[lN]at aB<;>subst aB<;>simp[gU]at a
 case call tm=>
  obtain⟨callee,args,dm⟩:=tm
  cases callee with
  |builtin b=>
   cases b<;>simp[lN]at aB<;>first
    |exact rest _ rfl aB.symm
    |(subst aB;simp[gU]at a)
  |value f=>
   cases f<;>simp[lN]at aB
   all_goals first
    |(subst aB;simp[gU]at a;done)
    |(
      split at aB
      ·simp at aB;subst aB;simp[gU]at a
      ·simp at aB)
  |invoke r m=>simp[lN]at aB;subst aB;simp[gU]at a
 all_goals(simp at aB;first|exact rest _ rfl aB.symm|(subst aB;simp[gU]at a))
end
end Go.bk

namespace Go.bk
open Go.RowKit (Below)
def fZ{C:a2}{h:V an}{b:Nat}(Y:Option an)(ai:C.ba<=b)(x:Nat):ab C (bo C h b Y) x=if x=b then Y else ab C h x:=by
 unfold ab bo
 rw[fG,fG]
 by_cases ah:Nat.blt x C.ba=true
 ·have:=lo ah
  rw[Zr ah,Zr ah,Zh Zo]
 ·have qF:C.ba<=x:=by
   rcases Y9 x C.ba with a|a
   ·exact absurd (by simp[Nat.blt];omega) ah
   ·exact a
  rw[Zh ah,Zh ah,V.kc]
  show(if b-C.ba=x-C.ba then Y else h.get (x-C.ba))=_
  by_cases I:x=b
  ·rw[Zr Zo,Zr I]
  ·rw[Zh Zo,Zh I];rfl
def abi{C:a2}:∀(l:List Nat) (h:V an) (x:Nat),(∀b∈l,C.ba<=b)->ab C (p4 C l h) x=if x∈l then none else ab C h x:=by
 intro l
 induction l with
 |nil=>intro h x _;simp[p4]
 |cons b l am=>
  intro h x a
  simp only[p4]
  rw[am _ _ (λc aB=>a c (by simp[aB])),fZ _ (a b Zs)]
  by_cases ah:x∈l
  ·simp[ah]
  ·by_cases I:x=b
   ·simp[I]
   ·simp[ah,I]
def gu(S:da)(b:Nat)(pl:mB):da:=λx=>if x=b then pl else S x
def add(af:Nat->Prop)(b:Nat):Nat->Prop:=λx=>af x\/x=b
structure iD(C:a2)(dk:Nat)(S:da)(af:Nat->Prop)(h:V an)(bm:Nat)(w:World)(dg:da)(dE:Nat->Prop)(U:V an)(bZ:World):Prop where
 iP:∀b,af b->dg b=S b
 jA:∀b,af b->dE b
 new:∀b,dE b->af b\/dk<=b
 ad:∀b,¬af b->b<dk->ab C U b=ab C h b
 below:Below bm w bZ
def iD.refl{C:a2}{dk:Nat}{S:da}{af:Nat->Prop}{h:V an}{bm:Nat}{w:World}:iD C dk S af h bm w S af h w:=
 ⟨λ_ _=>rfl,λ_ a=>a,λ_ a=> .inl a,λ_ _ _=>rfl, .refl _ _⟩
def iD.trans{C:a2}{dk J0:Nat}{S dg afQ:da}{af dE Ug:Nat->Prop}{h U Wn:V an}{bm:Nat}{w bZ afn:World}(a:iD C dk S af h bm w dg dE U bZ)(aD:dk<=J0)
 (F:iD C J0 dg dE U bm bZ afQ Ug Wn afn):iD C dk S af h bm w afQ Ug Wn afn:=
 ⟨λb ai=>(F.iP b (a.jA b ai)).trans (a.iP b ai),λb ai=>F.jA b (a.jA b ai),
  λb ai=>(F.new b ai).elim (λai=>a.new b ai) (λai=> .inr Zo),
  λb ai hy=>by
   have aM:¬dE b:=λaO=>(a.new b aO).elim ai (λao=>Zo)
   rw[F.ad b aM Zo,a.ad b ai hy],
  a.below.trans F.below⟩
section
variable{C:a2}{S dg:da}{af dE:Nat->Prop}{h U:V an}{j ar bm:Nat}{w bZ:World}
def qi(dS:∀b,af b->dg b=S b){v:J}(g:cn af v):aS dg v=aS S v:=Pz dS v g
def yl(dS:∀b,af b->dg b=S b){l:List J}(g:eA af l):b2 dg l=b2 S l:=Fb dS l g
def jk.ad{n av:Nat}{M:V J}{tmps:Array Value}(dS:∀b,af b->dg b=S b)(gI:∀b,af b->dE b)(a:jk S af n av M tmps):jk dg dE n av M tmps:=
 ⟨a.size,λt v aD bD=>by
  obtain⟨T,W⟩:=a.val t v aD bD
  exact⟨by rw[T,qi dS W],oV gI v W⟩⟩
def Ps(dS:∀b,af b->dg b=S b){d:hN}(g:wZ af d):lM dg d=lM S d:=by
 obtain⟨t,cv⟩:=d
 obtain⟨b5,cd⟩:=g
 simp only[lM,yl dS cd]
 congr 1
 cases t with
 |fn fn cs=>
  obtain⟨T,W⟩:=b5
  have I:m2 dg fn=m2 S fn:=by
   cases fn<;>simp only[m2]
   rw[dS _ T]
  simp only[CD,I,yl dS W]
 |collected r=>simp only[CD,dS r b5]
def σ(gI:∀b,af b->dE b){d:hN}(g:wZ af d):wZ dE d:=by
 obtain⟨t,cv⟩:=d
 refine⟨?_,rm gI _ g.2⟩
 cases t with
 |fn fn cs=>exact⟨by cases fn<;>first|exact gI _ g.1.1|exact g.1.1,rm gI _ g.1.2⟩
 |collected r=>exact gI _ g.1
def j9.ad{Y:an}{pl:mB}(dS:∀b,af b->dg b=S b)(gI:∀b,af b->dE b)(bI:bZ.heap[pl.cI]? =w.heap[pl.cI]?)(a:j9 C S af Y pl w):j9 C dg dE Y pl bZ:=by
 cases Y with
 |cells c n st=>
  obtain⟨cq,ty,bU,aN,T,W,au,aP⟩:=a
  refine⟨cq,ty,bU,aN,by rw[bI,T],W,au,λi v bD=> ?_⟩
  obtain⟨bK,cr⟩:=aP i v bD
  exact⟨by rw[bK,qi dS cr],oV gI v cr⟩
 |map b7 fh=>
  obtain⟨cq,T,W,au⟩:=a
  refine⟨cq,by rw[bI,T], ?_,λI bA=>⟨oV gI _ (au I bA).1,oV gI _ (au I bA).2⟩⟩
  rw[W]
  apply YC
  intro I bA
  simp only[lQ,qi dS (au I bA).1,qi dS (au I bA).2]
 |look b7=>
  obtain⟨cq,fh,me,T,W,aP,au⟩:=a
  refine⟨cq,fh,me,by rw[bI,T], ?_,aP,λI bA=>⟨oV gI _ (au I bA).1,oV gI _ (au I bA).2⟩⟩
  rw[W]
  apply YC
  intro I bA
  simp only[lQ,qi dS (au I bA).1,qi dS (au I bA).2]
 |ox s pos=>exact⟨a.1,by rw[bI,a.2.1],a.2.2⟩
 |y8 m vZ seen st=>
  obtain⟨ch,T,W⟩:=a
  refine⟨ch, ?_,λb ai=>gI b (W b ai)⟩
  rw[bI,T]
  cases m with
  |none=>rfl
  |some m=>simp only[ZV,dS m (W m rfl)]
 |GI m vZ n cD st nv=>
  obtain⟨ch,T,seen,W,au⟩:=a
  exact⟨ch,gI m T,seen,by rw[bI,W,dS m T],au⟩
 |loop state pending fn n av M params assign body bg=>
  obtain⟨tmps,T,W,au,aP⟩:=a
  exact⟨tmps,by rw[bI,T,dS bg au],W.ad dS gI,gI _ au,aP⟩
 |deferred pK=>
  obtain⟨T,W⟩:=a
  refine⟨?_,λl aD d aO=>σ gI (W l aD d aO)⟩
  rw[bI,T]
  cases pK with
  |none=>rfl
  |some l=>
   simp only[ZV]
   congr 3
   exact YC λd aO=>(Ps dS (W l rfl d aO)).symm
def j9.lt{Y:an}{pl:mB}(a:j9 C S af Y pl w):pl.cI<w.heap.size:=by
 have:∃x,w.heap[pl.cI]? =some x:=by
  cases Y with
  |cells c n st=>obtain⟨cq,ty,bU,aN,T,_⟩:=a;exact⟨_,T⟩
  |map b7 fh=>obtain⟨cq,T,_⟩:=a;exact⟨_,T⟩
  |look b7=>obtain⟨cq,fh,me,T,_⟩:=a;exact⟨_,T⟩
  |ox s pos=>exact⟨_,a.2.1⟩
  |y8 m vZ seen st=>exact⟨_,a.2.1⟩
  |GI m vZ n cD st nv=>obtain⟨_,_,seen,T,_⟩:=a;exact⟨_,T⟩
  |loop state pending fn n av M params assign body bg=>obtain⟨tmps,T,_⟩:=a;exact⟨_,T⟩
  |deferred pK=>exact⟨_,a.1⟩
 obtain⟨x,ah⟩:=this
 exact(ZK.1 ah).1
def dt.alloc(Z:dt C S af h j bm w){b:Nat}{pl:mB}{cO:an}{Y:Obj}(ai:C.ba<=b)(c4:b<ar)(abL:j<=ar)(aM:¬af b)(eH:bm<=w.heap.size)(sy:pl.cI=w.heap.size)
 (iW:ab C U b=some cO)(Mj:∀x,x≠b->ab C U x=ab C h x\/ab C U x=none)(bl:j9 C (gu S b pl) (add af b) cO pl (w.alloc Y))(tP:wE C (add af b) cO):
 dt C (gu S b pl) (add af b) U ar bm (w.alloc Y):=by
 have dS:∀x,af x->gu S b pl x=S x:=λx ah=>by
  unfold gu;rw[Zh];intro I;subst I;exact aM ah
 have jV:gu S b pl b=pl:=by unfold gu;rw[Zr rfl]
 have RL:∀F,F<w.heap.size->(w.alloc Y).heap[F]? =w.heap[F]? :=λF aL=>Below.heap_alloc _ _ _ aL
 have key:∀x dv,ab C U x=some dv->add af b x->x≠b->ab C h x=some dv/\af x/\(S x).cI<w.heap.size:=by
  intro x dv ah aO dT
  have so:af x:=aO.resolve_right dT
  rcases Mj x dT with a|a
  ·have:ab C h x=some dv:=by rw[<-a,ah]
   exact⟨this,so,(Z.obj x dv this so).lt⟩
  ·rw[a]at ah;cases ah
 refine⟨Zz Z.ba abL, ?_, ?_, ?_, ?_, ?_, ?_⟩
 ·intro x ah
  rcases ah with ah|ah
  ·have:=Z.lt x ah;omega
  ·omega
 ·intro x dv ah
  by_cases I:x=b
  ·omega
  ·rcases Mj x I with a|a
   ·have:=Z.vO x dv (by rw[<-a,ah]);omega
   ·rw[a]at ah;cases ah
 ·intro x dv ah aO
  by_cases I:x=b
  ·subst I
   rw[iW]at ah;cases ah
   rw[jV];exact bl
  ·obtain⟨T,W,au⟩:=key x dv ah aO I
   rw[dS x W]
   exact(Z.obj x dv T W).ad dS (λ_ a=> .inl a) (RL _ au)
 ·intro x e dv ou ah H dO oR dT lZ ff
  by_cases I:x=b
  ·subst I
   by_cases cP:e=x
   ·exact absurd cP.symm dT
   ·obtain⟨T,W,au⟩:=key e ou H oR cP
    rw[jV,dS e W]at ff
    omega
  ·obtain⟨T,W,au⟩:=key x dv ah dO I
   by_cases cP:e=b
   ·subst cP
    rw[jV,dS x W]at ff
    omega
   ·obtain⟨aP,bK,cr⟩:=key e ou H oR cP
    rw[dS x W,dS e bK]at ff ⊢
    exact Z.sep x e dv ou T aP W bK dT lZ ff
 ·intro x dv lZ ah aO
  by_cases I:x=b
  ·subst I;rw[jV];omega
  ·obtain⟨T,W,au⟩:=key x dv ah aO I
   rw[dS x W]
   exact Z.base x dv lZ T W
 ·intro x dv ah aO
  by_cases I:x=b
  ·subst I;rw[iW]at ah;cases ah;exact tP
  ·obtain⟨T,W,au⟩:=key x dv ah aO I
   refine⟨λc n l aD e H=> ?_,(Z.fz x dv T W).2⟩
   obtain⟨b5,cd⟩:=(Z.fz x dv T W).1 c n l aD e H
   exact⟨.inl b5,cd⟩
def dt.XY(Z:dt C S af h j bm w)(iW:∀x,ab C U x=ab C h x\/ab C U x=none):dt C S af U j bm w:=by
 have key:∀x dv,ab C U x=some dv->ab C h x=some dv:=by
  intro x dv ah
  rcases iW x with a|a
  ·rw[<-a,ah]
  ·rw[a]at ah;cases ah
 exact⟨Z.ba,Z.lt,λx dv ah=>Z.vO x dv (key x dv ah),λx dv ah aO=>Z.obj x dv (key x dv ah) aO,
  λx e dv ou ah H dO oR dT lZ ff=>Z.sep x e dv ou (key x dv ah) (key e ou H) dO oR dT lZ ff,λx dv lZ ah aO=>Z.base x dv lZ (key x dv ah) aO,λx dv ah aO=>Z.fz x dv (key x dv ah) aO⟩
def dt.put(Z:dt C S af h j bm w){b:Nat}{cO oq:an}(ai:C.ba<=b)(aO:af b)(gQ:ab C h b=some cO)(iW:ab C U b=some oq)
 (Mj:∀x,x≠b->ab C U x=ab C h x\/ab C U x=none)(bI:∀F,F≠(S b).cI->bZ.heap[F]? =w.heap[F]?)
 (lX:∀x dv,x≠b->ab C U x=some dv->af x->(S x).cI=(S b).cI->False)(bl:j9 C S af oq (S b) bZ)(tP:wE C af oq):dt C S af U j bm bZ:=by
 have key:∀x dv,x≠b->ab C U x=some dv->ab C h x=some dv:=by
  intro x dv dT ah
  rcases Mj x dT with a|a
  ·rw[<-a,ah]
  ·rw[a]at ah;cases ah
 refine⟨Z.ba,Z.lt, ?_, ?_, ?_, ?_, ?_⟩
 ·intro x dv ah
  by_cases I:x=b
  ·subst I;exact Z.lt x aO
  ·exact Z.vO x dv (key x dv I ah)
 ·intro x dv ah dO
  by_cases I:x=b
  ·subst I;rw[iW]at ah;cases ah;exact bl
  ·exact(Z.obj x dv (key x dv I ah) dO).ad (λ_ _=>rfl) (λ_ a=>a) (bI _ λao=>lX x dv I ah dO ao)
 ·intro x e dv ou ah H dO oR dT lZ ff
  by_cases I:x=b
  ·subst I
   exact(lX e ou (λao=>dT ao.symm) H oR ff.symm).elim
  ·by_cases cP:e=b
   ·subst cP;exact(lX x dv I ah dO ff).elim
   ·exact Z.sep x e dv ou (key x dv I ah) (key e ou cP H) dO oR dT lZ ff
 ·intro x dv lZ ah dO
  by_cases I:x=b
  ·subst I;exact Z.base x cO lZ gQ aO
  ·exact Z.base x dv lZ (key x dv I ah) dO
 ·intro x dv ah dO
  by_cases I:x=b
  ·subst I;rw[iW]at ah;cases ah;exact tP
  ·exact Z.fz x dv (key x dv I ah) dO
def KT(Y:an):Prop:=(∀c n,Y≠ .cells c n .j6)/\(∀c n l,Y≠ .cells c n (.grow l))
def dt.alone(Z:dt C S af h j bm w){b:Nat}{cO:an}(ai:C.ba<=b)(aO:af b)(gQ:ab C h b=some cO)(aE:KT cO):
 ∀x dv,x≠b->ab C h x=some dv->af x->(S x).cI=(S b).cI->False:=by
 intro x dv dT ah dO ff
 rcases(Z.sep b x cO dv gQ ah aO dO (λao=>dT ao.symm) ai ff.symm).1 with ⟨c,n,_,_,ao,_⟩|⟨c,n,l,_,_,ao,_⟩|⟨_,_,_,c,n,_,ao,_⟩
 ·exact aE.1 _ _ ao
 ·exact aE.2 _ _ _ ao
 ·exact aE.1 _ _ ao
end
end Go.bk

namespace Go.bk
open Go.RowKit (Below)
section
variable{C:a2}{S dg:da}{af dE:Nat->Prop}{h U:V an}{j ar bm:Nat}{w bZ:World}
def u1(w:World)(Y:Obj):(w.alloc Y).heap[w.heap.size]? =some Y:=by
 show(w.heap.push Y)[w.heap.size]? =_
 simp
def ll(S:da)(b:Nat)(pl:mB):gu S b pl b=pl:=by unfold gu;rw[Zr rfl]
def qY{b:Nat}{pl:mB}(aM:¬af b):∀x,af x->gu S b pl x=S x:=λx ah=>by
 unfold gu;rw[Zh];intro I;subst I;exact aM ah
def jQ(S:da)(l:List J):(b2 S l).length=l.length:=by rw[pL,Zi]
def AQ(S:da)(l:List J)(i:Nat):(b2 S l)[i]? =(l[i]?).map (aS S):=by rw[pL,Zt]
def CE(S:da)(K b:List J):b2 S (K++b)=b2 S K++b2 S b:=by simp[pL]
def A3{K b:List J}(aE:eA af K)(ai:eA af b):eA af (K++b):=by
 rw[uN]at*
 intro v bD
 rcases Zy.1 bD with a|a
 ·exact aE v a
 ·exact ai v a
def A4{l:List J}(a:eA af l){i:Nat}{v:J}(bD:l[i]? =some v):cn af v:=(uN af l).1 a v (Zn bD)
def kM(l:List J)(i:Nat):(V.ofList l 0 .nil).get i=l[i]? :=by
 rw[V.LV]
 split
 ·simp
 ·rename_i a
  have:l.length<=i:=Zo
  rw[ZU this];rfl
def Lk{l:List J}(g:eA af l)(ty:TypeId)(r:Nat)(w:World):j9 C S af (.cells (V.ofList l 0 .nil) l.length .own) ⟨w.heap.size,0,r⟩ (w.alloc (.cells (b2 S l).toArray ty)):=by
 refine⟨_,ty,0,0,u1 _ _,rfl,by simp[jQ],λi v bD=> ?_⟩
 rw[kM]at bD
 refine⟨?_,A4 g bD⟩
 simp only[ZP,List.getElem?_toArray,AQ,bD,ZV]
def Ed(n:Nat)(bu:List J):(kP n bu).length=n*bu.length:=by
 induction n with
 |zero=>simp[kP]
 |succ n am=>simp[kP,am,Nat.succ_mul,Nat.add_comm]
def awi(bu:List J):∀(n i:Nat),i<n*bu.length->(kP n bu)[i]? =bu[i%bu.length]? :=by
 intro n
 induction n with
 |zero=>intro i a;omega
 |succ n am=>
  intro i a
  simp only[kP]
  rw[Nat.succ_mul]at a
  by_cases aN:i<bu.length
  ·rw[Z4 aN,YF aN]
  ·rw[ZW Zo,am _ Zo]
   congr 1
   exact(Nat.mod_eq_sub_mod Zo).symm
def Qq{bu:List J}(a:eA af bu):∀n,eA af (kP n bu):=by
 intro n
 induction n with
 |zero=>trivial
 |succ n am=>exact A3 a am
def aet(S:da)(bu:List J)(n:Nat):((Array.range (n*bu.length)).map λi=>(b2 S bu).toArray[i%bu.length]!)=(b2 S (kP n bu)).toArray:=by
 apply YY
 rw[Array.toList_map,Array.toList_range]
 show _=b2 S (kP n bu)
 apply YN
 intro i
 rw[Zt,AQ]
 by_cases aN:i<n*bu.length
 ·rw[List.getElem?_range aN,awi bu n i aN]
  have cw:0<bu.length:=by
   rcases Nat.eq_zero_or_pos bu.length with a|a
   ·rw[a]at aN;omega
   ·exact a
  have bs:i%bu.length<bu.length:=Nat.mod_lt _ cw
  simp only[ZV]
  rw[Ze bs]
  simp only[ZV,Zf]
  rw[getElem!_pos _ _ (by simpa[jQ]using bs)]
  simp[pL]
 ·have T:(List.range (n*bu.length))[i]? =none:=ZU (by simp;omega)
  have W:(kP n bu)[i]? =none:=ZU (by rw[Ed];omega)
  rw[T,W];rfl
def aeu(S:da)(bu:List J)(s n:Nat)(cw:bu.length=s)(zero:Array Value)(ch:n*s≠0->zero=(b2 S bu).toArray):
 ((Array.range (n*s)).map (zero[·%zero.size]!))=(b2 S (kP n bu)).toArray:=by
 subst cw
 by_cases a:n*bu.length=0
 ·have T:kP n bu=[]:=List.length_eq_zero_iff.1 (by rw[Ed];exact a)
  rw[a,T];simp[b2]
 ·rw[ch a, <-aet]
  simp[jQ]
def ado{oper:Oper}{ay:Operand->Value}{eG:Operand->Option J}{b:Nat}{v:J}{cO:an}(aM:¬af b)(cA:jj S af ay eG oper.op.operands.toList)
 (a:qh oper.op C eG b=some (v,cO)):∃Y,(execOp ay oper).run C.P w= .ok (.value (aS (gu S b ⟨w.heap.size,0,0⟩) v)) (w.alloc Y)/\cn (add af b) v/\
  j9 C (gu S b ⟨w.heap.size,0,0⟩) (add af b) cO ⟨w.heap.size,0,0⟩ (w.alloc Y):=by
 have dS:=qY (S:=S) (pl:=⟨w.heap.size,0,0⟩) aM
 have gI:∀x,af x->add af b x:=λ_ a=> .inl a
 obtain⟨dst,op,type,pos,after,guard⟩:=oper
 cases op<;>simp only[qh]at a<;>(try(cases a;done))<;>simp only[execOp]<;>simp only[Op.operands]at cA
 case alloc t=>
  unfold DN at a
  split at a
  ·rename_i bu cw
   simp at a;obtain⟨rfl,rfl⟩:=a
   obtain⟨f2,fF⟩:=Eg cw S af w
   refine⟨.cells (b2 S bu.cells).toArray t, ?_, .inr rfl, ?_⟩
   ·simp[Instr.alloc,f2,newVar,newRow,uz,aS,ll]
   ·have:=Lk (C:=C) (S:=gu S b ⟨w.heap.size,0,0⟩) (af:=add af b) (rm gI _ (uA fF)) t 0 w
    rw[yl dS (uA fF)]at this
    exact this
  ·simp at a
 case box t x=>
  unfold J1 at a
  split at a
  ·rename_i ae be
   simp at a;obtain⟨rfl,rfl⟩:=a
   obtain⟨T,W⟩:=cA x Zs ae be
   refine⟨.cells (b2 S ae.cells).toArray t, ?_, .inr rfl, ?_⟩
   ·simp[Instr.box,newVar,newRow,T,uz,aS,ll]
   ·have:=Lk (C:=C) (S:=gu S b ⟨w.heap.size,0,0⟩) (af:=add af b) (rm gI _ (uA W)) t 0 w
    rw[yl dS (uA W)]at this
    exact this
  ·simp at a
 case buildSlice t len j4=>
  unfold J2 at a
  split at a
  ·rename_i ep du be RR
   split at a
   ·rename_i s bu aI cw
    simp only[e5,Zp]at a
    obtain⟨⟨T,W⟩,a⟩:=a
    have T:len*s<=16777216:=jm T
    have W:bu.cells.length=s:=Zj W
    split at a
    ·rename_i cs h6
     simp at a;obtain⟨rfl,rfl⟩:=a
     obtain⟨f2,fF⟩:=Eg cw S af w
     obtain⟨fJ,hp⟩:=XS (by simpa using cA) RR
     obtain⟨eS,e2⟩:=P0 (S:=S) (Kl:=λi=>some (i*s,s)) (λ_ _ a=>a) du (kP len bu.cells) cs (Qq (uA fF) len) hp h6
     refine⟨.cells (b2 S cs).toArray ep, ?_, .inr rfl, ?_⟩
     ·have I:(j4.map λx=>(x.1,ay x.2)).toList=du.map λx=>(x.1,aS S x.2):=by rw[<-fJ];simp
      have g1:¬(len*s>2^24):=by
       have:(2:Nat)^24=16777216:=by decide
       omega
      have b9:Instr.fill (λi=>some (i*s,s)) ((Array.range (len*s)).map ((if len*s=0 then #[]else(aS S bu).cells)[·%(if len*s=0 then #[]else(aS S bu).cells).size]!)) (j4.map λx=>(x.1,ay x.2)).toList=some (b2 S cs).toArray:=by
       rw[aeu S bu.cells s len W _ (λdT=>by rw[Zh dT,uz]),I]
       exact eS
      simp only[Instr.buildSlice,Sem.run_bind,run_underlying be,Result.andThen_ok,pr aI]
      rw[Zh g1]
      by_cases ch:len*s=0
      ·rw[Zr ch]at b9
       simp only[Zr ch,Sem.run_bind,Sem.run_pure,Result.andThen_ok,b9]
       simp[newRow,aS,ll]
      ·simp only[Zh ch]at b9
       simp only[Zh ch,Sem.run_bind,Sem.run_pure,Result.andThen_ok,f2,b9]
       simp[newRow,aS,ll]
     ·have:=Lk (C:=C) (S:=gu S b ⟨w.heap.size,0,0⟩) (af:=add af b) (rm gI _ e2) ep 0 w
      rw[yl dS e2]at this
      exact this
    ·simp at a
   ·simp at a
  ·simp at a
 case makeMap t r=>
  cases r with
  |some r=>simp[qh]at a
  |none=>
   simp[qh]at a;obtain⟨rfl,rfl⟩:=a
   refine⟨.map #[] 0, ?_, .inr rfl, ?_⟩
   ·simp[Instr.makeMap,aS,ll]
   ·exact⟨#[],u1 _ _,rfl,Zs⟩
end
end Go.bk

namespace Go.bk
open Go.RowKit (Below)
section
variable{C:a2}{S dg:da}{af dE:Nat->Prop}{h U:V an}{j ar bm:Nat}{w bZ:World}
def kR:Array Value->Nat->List Value->Array Value
 |c,_,[]=>c
 |c,Y,v::l=>kR (c.setIfInBounds Y v) (Y+1) l
def xN:∀(l:List Value) (c:Array Value) (Y:Nat),(kR c Y l).size=c.size:=by
 intro l
 induction l with
 |nil=>intro c Y;rfl
 |cons v l am=>intro c Y;simp[kR,am]
def Tz:∀(l:List Value) (c:Array Value) (Y i:Nat),Y+l.length<=c.size->(kR c Y l)[i]? =if Y<=i/\i<Y+l.length then l[i-Y]? else c[i]? :=by
 intro l
 induction l with
 |nil=>intro c Y i _;rw[Zh (by simp only[ZQ];omega)];rfl
 |cons v l am=>
  intro c Y i a
  simp only[ZC]at a
  simp only[kR]
  rw[am _ _ _ (by simp;omega)]
  by_cases I:i=Y
  ·subst I
   rw[Zh Zo,Zr Zs]
   have c4:i<c.size:=Zo
   simp[c4]
  ·by_cases ao:Y+1<=i/\i<Y+1+l.length
   ·rw[Zr ao,Zr (by simp;omega),show i-Y=(i-(Y+1))+1 by omega,ZI]
   ·rw[Zh ao,Zh (by simp only[ZC];omega),Array.getElem?_setIfInBounds_ne (λa=>I a.symm)]
def Tt(P:Program)(g Y:Nat)(t:TypeId)(bU aN:Nat):∀(bj:List Value) (i:Nat) (nv:Array Value) (w:World),w.heap[g]? =some (.cells nv t (bU,aN))->(aN<=bU\/nv.size<=bU)->
 Y+i+bj.length<=nv.size->(∀v∈bj,v.oneCell'=true)->(storeCells ⟨g,Y,none⟩ bj i).run P w= .ok () (w.setRow g (kR nv (Y+i) bj)):=by
 intro bj
 induction bj with
 |nil=>
  intro i nv w b0 _ _ _
  simp only[storeCells,kR]
  rw[setRow_self w g nv t _ b0];rfl
 |cons v bj am=>
  intro i nv w b0 b9 aD T
  simp only[ZC]at aD
  have c4:Y+i<nv.size:=Zo
  have IN:(⟨g,Y,none⟩:Addr).add i=⟨g,Y+i,none⟩:=rb _ _ _
  have sn:w.cell? ⟨g,Y+i,none⟩=some nv[Y+i]:=by simp[World.cell?,b0,c4]
  have ap6:w.frozen? ⟨g,Y+i,none⟩=false:=by
   simp only[World.frozen?,b0,Bool.and_eq_false_iff,Zb]
   omega
  have dp:(store ((⟨g,Y,none⟩:Addr).add i) v).run P w= .ok () (w.setRow g (nv.setIfInBounds (Y+i) v)):=by
   rw[IN,run_store P w _ v _ (T v Zs),sn]
   simp[ap6,setCell_eq_setRow w g (Y+i) nv t _ v b0]
  have:=am (i+1) (nv.setIfInBounds (Y+i) v) (w.setRow g (nv.setIfInBounds (Y+i) v)) (setRow_heap w g nv _ t _ b0) (by simpa using b9) (by simp;omega) (λx ah=>T x (by simp[ah]))
  simp only[storeCells,Sem.run_bind,dp,Result.andThen_ok,this,setRow_setRow,kR]
  rfl
def Pj{p:Nat}(eH:bm<=p)(cs:Array Value)(w:World):Below bm w (w.setRow p cs):=
 ⟨rfl,rfl,rfl,by simp[World.setRow],λF aL=>setRow_other w p F cs Zo⟩
def adP:∀{bj:List J},jI bj=true->∀v∈b2 S bj,v.oneCell'=true:=by
 intro bj
 induction bj with
 |nil=>intro _ v bD;simp[b2]at bD
 |cons K l am=>
  intro a v bD
  simp only[jI,Zp]at a
  simp only[b2,Zq]at bD
  rcases bD with rfl|bD
  ·cases K<;>simp[p7]at a<;>rfl
  ·exact am a.2 v bD
def afA{c:V J}{cq:Array Value}{ek Y n:Nat}{bj:List J}(b0:eA af bj)(bl:Y+bj.length<=n)(aM:ek+n<=cq.size)
 (a:∀i v,c.get i=some v->cq[ek+i]? =some (aS S v)/\cn af v):
 ∀i v,(d3 c Y bj).get i=some v->(kR cq (ek+Y) (b2 S bj))[ek+i]? =some (aS S v)/\cn af v:=by
 intro i v bD
 rw[T9,V.LV]at bD
 rw[Tz _ _ _ _ (by rw[jQ];omega),jQ]
 split at bD
 ·rename_i aN
  rw[Zr Zo,AQ,show ek+i-(ek+Y)=i-Y by omega,bD]
  exact⟨rfl,A4 b0 bD⟩
 ·rename_i aN
  rw[Zh Zo]
  exact a i v bD
def Oz{c:V J}{Y n:Nat}{bj:List J}(bl:Y+bj.length<=n)(a:∀i v,c.get i=some v->i<n):∀i v,(d3 c Y bj).get i=some v->i<n:=by
 intro i v bD
 rw[T9,V.LV]at bD
 split at bD
 ·omega
 ·exact a i v bD
def GV{l:List J}:∀i v,(V.ofList l 0 .nil).get i=some v->i<l.length:=by
 intro i v bD
 rw[kM]at bD
 exact(Zc.1 bD).1
def Pa(Z:dt C S af h j bm w){dk b Y:Nat}{bj:List J}(aO:af b)(b0:eA af bj)(a:wJ C h b Y bj=some U):
 ∃bZ,(storeCells ⟨(S b).cI,(S b).ek+Y,none⟩ (b2 S bj)).run C.P w= .ok () bZ/\dt C S af U j bm bZ/\iD C dk S af h bm w S af U bZ:=by
 unfold wJ at a
 split at a
 ·rename_i c n st bl
  simp only[e5,Zp]at a
  obtain⟨⟨⟨T,W⟩,au⟩,a⟩:=a
  have T:Y+bj.length<=n:=jm T
  have ai:C.ba<=b:=jm W
  obtain⟨cq,ty,bU,aN,bf,ck,a3,a4⟩:=Z.obj b _ bl aO
  have k7:st≠ .j6:=λI=>(by subst I;simp at a)
  refine⟨w.setRow (S b).cI (kR cq ((S b).ek+Y) (b2 S bj)), ?_, ?_⟩
  ·exact Tt C.P _ _ ty bU aN (b2 S bj) 0 cq w bf (ck.free k7) (by rw[jQ];omega) (adP au)
  have ft:=setRow_heap w (S b).cI cq (kR cq ((S b).ek+Y) (b2 S bj)) ty (bU,aN) bf
  have Bb:=Z.base b _ ai bl aO
  have IQ:Below bm w (w.setRow (S b).cI (kR cq ((S b).ek+Y) (b2 S bj))):=Pj Bb _ _
  have abN:∀F,F≠(S b).cI->(w.setRow (S b).cI (kR cq ((S b).ek+Y) (b2 S bj))).heap[F]? =w.heap[F]? :=λF aL=>setRow_other w _ F _ aL
  have fin:∀i1,EK i1 n (S b) cq.size bU aN->j9 C S af (.cells (d3 c Y bj) n i1) (S b) (w.setRow (S b).cI (kR cq ((S b).ek+Y) (b2 S bj))):=by
   intro i1 dp
   refine⟨_,ty,bU,aN,ft,by rw[xN];exact dp,by rw[xN];exact a3,afA b0 T a3 a4⟩
  have plain:∀i1,KT (.cells c n st)->EK i1 n (S b) cq.size bU aN->(∀l,i1≠ .grow l)->U=bo C h b (some (.cells (d3 c Y bj) n i1))->
   dt C S af U j bm (w.setRow (S b).cI (kR cq ((S b).ek+Y) (b2 S bj)))/\iD C dk S af h bm w S af U (w.setRow (S b).cI (kR cq ((S b).ek+Y) (b2 S bj))):=by
   intro i1 jp dp Dg iW
   subst iW
   have o6:ab C (bo C h b (some (.cells (d3 c Y bj) n i1))) b=some (.cells (d3 c Y bj) n i1):=by rw[fZ _ ai,Zr rfl]
   have jE:∀x,x≠b->ab C (bo C h b (some (.cells (d3 c Y bj) n i1))) x=ab C h x:=λx ah=>by rw[fZ _ ai,Zh ah]
   refine⟨Z.put ai aO bl o6 (λx ah=> .inl (jE x ah)) abN ?_ (fin i1 dp) ⟨λf9 aV l aD=>(by cases aD;exact absurd rfl (Dg _)),λf9 aV axv aD=>(by cases aD;exact Oz T ((Z.fz b _ bl aO).2 _ _ _ rfl))⟩, ?_⟩
   ·intro x dv dT ah dO ff
    rw[jE x dT]at ah
    exact Z.alone ai aO bl jp x dv dT ah dO ff
   ·exact⟨λ_ _=>rfl,λ_ a=>a,λ_ a=> .inl a,λx ah _=>jE x (λI=>ah (I▸aO)),IQ⟩
  cases st with
  |own=>
   simp only[hw,Zf]at a
   exact plain .own ⟨Zs,Zs⟩ ck Zs a.symm
  |marked=>
   simp only[hw,Zf]at a
   exact plain .marked ⟨Zs,Zs⟩ ck Zs a.symm
  |grow fz=>
   simp only[hw,Zf]at a
   have tP:=(Z.fz b _ bl aO).1 _ _ _ rfl
   subst a
   have o6:ab C (bo C (p4 C fz h) b (some (.cells (d3 c Y bj) n (.grow [])))) b=some (.cells (d3 c Y bj) n (.grow [])):=by rw[fZ _ ai,Zr rfl]
   have jE:∀x,x≠b->ab C (bo C (p4 C fz h) b (some (.cells (d3 c Y bj) n (.grow [])))) x=if x∈fz then none else ab C h x:=λx ah=>by
    rw[fZ _ ai,Zh ah,abi _ _ _ λe H=>(tP e H).2]
   refine⟨Z.put ai aO bl o6 (λx ah=> ?_) abN ?_ (fin (.grow []) ck) ⟨λf9 aV l aD=>(by cases aD;simp),λf9 aV axv aD=>(by cases aD;exact Oz T ((Z.fz b _ bl aO).2 _ _ _ rfl))⟩, ?_⟩
   ·rw[jE x ah];split
    ·exact .inr rfl
    ·exact .inl rfl
   ·intro x dv dT ah dO ff
    rw[jE x dT]at ah
    split at ah
    ·cases ah
    ·rename_i RF
     rcases(Z.sep b x _ dv bl ah aO dO (λao=>dT ao.symm) ai ff.symm).1 with ⟨_,_,_,_,ao,_⟩|⟨_,_,l,_,_,ao,_,aD,_⟩|⟨_,_,_,_,_,_,ao,_⟩
     ·cases ao
     ·cases ao;exact RF aD
     ·cases ao
   ·exact⟨λ_ _=>rfl,λ_ a=>a,λ_ a=> .inl a,λx ah _=>by
     rw[jE x (λI=>ah (I▸aO)),Zh (λbs=>ah (tP x bs).1)],IQ⟩
  |j6=>simp at a
 ·simp at a
end
end Go.bk

namespace Go.bk
open Go.RowKit (Below)
def Ay(C:a2)(S:da)(af:Nat->Prop)(h:V an)(j bm:Nat)(w:World)(s:Sem Next)(v:J)(U:V an)(ar:Nat):Prop:=
 ∃dg dE bZ n,s.run C.P w= .ok n bZ/\(n= .value (aS dg v)\/(n= .skip/\v=undef))/\cn dE v/\dt C dg dE U ar bm bZ/\iD C j S af h bm w dg dE U bZ/\j<=ar
section
variable{C:a2}{S dg:da}{af dE:Nat->Prop}{h U:V an}{j ar bm:Nat}{w bZ:World}
def putObj(Z:dt C S af h j bm w){dk b:Nat}{cO oq:an}{iN o':Obj}(ai:C.ba<=b)(aO:af b)(gQ:ab C h b=some cO)(aE:KT cO)(ch:w.heap[(S b).cI]? =some iN)
 (MP:∀c I f,iN≠ .cells c I f)(bl:∀bZ:World,bZ.heap[(S b).cI]? =some o'->j9 C S af oq (S b) bZ)(tP:wE C af oq):
 ∃bZ,(Go.setObj (S b).cI o').run C.P w= .ok () bZ/\dt C S af (bo C h b (some oq)) j bm bZ/\iD C dk S af h bm w S af (bo C h b (some oq)) bZ:=by
 have oe:(Go.setObj (S b).cI o').run C.P w= .ok () {w with heap:=w.heap.setIfInBounds (S b).cI o'}:=by
  cases iN<;>first
   |exact absurd rfl (MP _ _ _)
   |simp[Go.setObj,Sem.run,ch]
 obtain⟨bY,cx⟩:=MapKept.heap_set (o':=o') ch
 have o6:ab C (bo C h b (some oq)) b=some oq:=by rw[fZ _ ai,Zr rfl]
 have jE:∀x,x≠b->ab C (bo C h b (some oq)) x=ab C h x:=λx ah=>by rw[fZ _ ai,Zh ah]
 have Bb:=Z.base b _ ai gQ aO
 refine⟨_,oe,Z.put ai aO gQ o6 (λx ah=> .inl (jE x ah)) (λF aL=>cx F aL) ?_ (bl _ bY) tP, ?_⟩
 ·intro x dv dT ah dO ff
  rw[jE x dT]at ah
  exact Z.alone ai aO gQ aE x dv dT ah dO ff
 ·exact⟨λ_ _=>rfl,λ_ a=>a,λ_ a=> .inl a,λx ah _=>jE x (λI=>ah (I▸aO)),rfl,rfl,rfl,Zs,λF aL=>cx F Zo⟩
def TA{r:Nat}{Y:an}{v:J}{res:eg}(a:setObj C h j r Y v=some res):res= .fE v (bo C h r (some Y)) j/\C.ba<=r:=by
 unfold setObj at a
 simp only[hw,e5,Zf]at a
 exact⟨a.2.symm,jm a.1⟩
def aek(Z:dt C S af h j bm w){dk r:Nat}{b7 me:List (J×J×Nat)}{fh HW:Nat}{ES:Array MapEntry}(ai:C.ba<=r)(aO:af r)(bl:ab C h r=some (.map b7 fh))
 (aE:ES.toList=me.map (lQ S))(b0:∀I∈me,cn af I.1/\cn af I.2.1):
 ∃bZ,(Go.setObj (S r).cI (.map ES HW)).run C.P w= .ok () bZ/\dt C S af (bo C h r (some (.map me HW))) j bm bZ/\iD C dk S af h bm w S af (bo C h r (some (.map me HW))) bZ:=by
 obtain⟨cq,T,_,_⟩:=Z.obj r _ bl aO
 exact putObj Z ai aO bl ⟨Zs,Zs⟩ T Zs (λbZ sD=>⟨ES,sD,aE,b0⟩) ⟨λ_ _ _ a=>(by cases a),λ_ _ _ a=>(by cases a)⟩
def axV(Z:dt C S af h j bm w){s:Nat}{t:TypeId}{K v:J}{res:eg}(aI:ji C t=some s)(ha:cn af K)(fy:cn af v)(a:Oc C h j s K v=some res):
 ∃U,res= .fE undef U j/\∀ae:Sem Next,(∀bZ,(Instr.storeAt t (aS S K) (aS S v)).run C.P w= .ok () bZ->ae.run C.P w= .ok .skip bZ)->Ay C S af h j bm w ae undef U j:=by
 unfold Oc at a
 split at a
 ·rename_i b Y
  simp only[e5,Zp]at a
  obtain⟨⟨T,W⟩,a⟩:=a
  have T:v.cells.length=s:=Zj T
  split at a
  ·rename_i U iW
   simp at a
   obtain⟨bZ,bY,cx,c7⟩:=Pa Z (dk:=j) ha (uA fy) iW
   refine⟨U,a.symm,λae be=>⟨S,af,bZ, .skip,be bZ ?_, .inr ⟨rfl,rfl⟩,by trivial,cx,c7,Zl _⟩⟩
   have eX:(aS S v).cells.size=s:=by rw[uz];simp[jQ,T]
   simp only[Instr.storeAt,Instr.sureAddr,aS,Sem.run_bind,Sem.run_pure,Result.andThen_ok,storeVar,pr aI,eX,ne_eq,not_true_eq_false,ZA]
   simp only[uz]
   exact bY
  ·simp at a
 ·simp at a
def as7:∀(n:Nat),(∀(m:Nat) (x e:J),n<=m->cn af x->cn af e->nJ n x e=true->Instr.sameBits m (aS S x) (aS S e)=true)/\
 ∀(m:Nat) (K b:List J),n<=m->eA af K->eA af b->nJ.BJ n K b=true->(b2 S K).length=(b2 S b).length/\((b2 S K).zip (b2 S b)).all (λ(x,e)=>Instr.sameBits m x e)=true:=by
 intro n
 induction n with
 |zero=>
  refine⟨λm x e _ _ _ a=>by simp[nJ]at a, ?_⟩
  intro m K
  induction K with
  |nil=>intro b _ _ _ a;cases b<;>simp[nJ.BJ]at a<;>simp[b2]
  |cons x K _=>intro b _ _ _ a;cases b<;>simp[nJ.BJ,nJ]at a
 |succ n am=>
  have one:∀(m:Nat) (x e:J),n+1<=m->cn af x->cn af e->nJ (n+1) x e=true->Instr.sameBits m (aS S x) (aS S e)=true:=by
   intro m x e bs fI uQ a
   obtain⟨m,rfl⟩:∃F,m=F+1:=⟨m-1,Zo⟩
   unfold nJ at a
   split at a<;>(try(cases a;done))
   ·simpa[aS,Instr.sameBits]using a
   ·simp at a;obtain⟨rfl,rfl⟩:=a;simp[aS,Instr.sameBits]
   ·rename_i K b
    have:=(Ka _ _).1 a
    subst this
    simp only[aS,Instr.sameBits]
    rw[W7];simp
   ·rename_i b Y dN o'
    simp only[Zp]at a
    have T:b=dN:=Zj a.1
    have W:Y=o':=Zj a.2
    subst T;subst W
    simp[aS,Instr.sameBits]
   ·simp[aS,Instr.sameBits]
   ·simp[aS,Instr.sameBits]
   ·rename_i t v hr g7
    simp only[Zp]at a
    have T:t=hr:=Zj a.1
    subst T
    simp[aS,Instr.sameBits,am.1 m v g7 Zo fI uQ a.2]
   ·rename_i K b
    obtain⟨bY,cx⟩:=am.2 m K b Zo fI uQ a
    simp only[aS,Instr.sameBits,Zp,YZ]
    exact⟨by simpa using bY,by simpa using cx⟩
  refine⟨one, ?_⟩
  intro m K
  induction K with
  |nil=>intro b _ _ _ a;cases b<;>simp[nJ.BJ]at a<;>simp[b2]
  |cons x K mO=>
   intro b bs ha oU a
   cases b with
   |nil=>simp[nJ.BJ]at a
   |cons e b=>
    simp only[nJ.BJ,Zp]at a
    obtain⟨bY,cx⟩:=mO b bs ha.2 oU.2 a.2
    simp only[b2,ZC,List.zip_cons_cons,List.all_cons,Zp]
    exact⟨Zo,one m x e bs ha.1 oU.1 a.1,cx⟩
def as8{p6 new:J}(go:cn af p6)(tv:cn af new)(a:nJ 20 p6 new=true):(Instr.keyThatStays (aS S p6) (aS S new)).run C.P w= .ok (aS S new) w:=by
 simp[Instr.keyThatStays,(as7 (S:=S) (af:=af) 20).1 10000 p6 new Zd go tv a]
def XK{cq:Array MapEntry}{b7:List (J×J×Nat)}{i:Nat}{I:J×J×Nat}(aE:cq.toList=b7.map (lQ S))(a:b7[i]? =some I):cq[i]? =some (lQ S I):=by
 rw[<-ZM,aE,Zt,a];rfl
def auk{cq:Array MapEntry}{b7:List (J×J×Nat)}{i:Nat}{I it:J×J×Nat}(f:MapEntry->MapEntry)(aE:cq.toList=b7.map (lQ S))(a:b7[i]? =some I)
 (b9:f (lQ S I)=lQ S it):(cq.modify i f).toList=(b7.set i it).map (lQ S):=by
 apply YN
 intro aa
 rw[ZM,Y1,Zt,List.getElem?_set]
 have c4:i<b7.length:=(Zc.1 a).1
 by_cases I:i=aa
 ·subst I
  rw[Zr rfl,Zr rfl,Zr c4,XK aE a]
  simp[b9]
 ·rw[Zh I,Zh I, <-ZM,aE,Zt]
def an3{b7:List (J×J×Nat)}{i:Nat}{it:J×J×Nat}(b0:∀I∈b7,cn af I.1/\cn af I.2.1)(bA:cn af it.1/\cn af it.2.1):∀I∈b7.set i it,cn af I.1/\cn af I.2.1:=by
 intro I a
 rcases List.mem_or_eq_of_mem_set a with a|a
 ·exact b0 I a
 ·rw[a];exact bA
def aka(Z:dt C S af h j bm w){t:Nat}{m F v:J}{res:eg}(wY:cn af m)(n8:cn af F)(fy:cn af v)(a:HJ C h j t m F v=some res):
 ∃U bZ,res= .fE undef U j/\(Instr.mapUpdate t (aS S m) (aS S F) (aS S v)).run C.P w= .ok () bZ/\dt C S af U j bm bZ/\iD C j S af h bm w S af U bZ:=by
 unfold HJ at a
 split at a
 ·rename_i jH AV r be
  split at a
  ·rename_i b7 fh bl
   simp only[e5]at a
   obtain⟨aL,a⟩:=a
   obtain⟨fb,ME⟩:=acQ aL
   obtain⟨cq,bf,ck,a3,a4⟩:=J4 Z wY bl
   have T:=WB (C:=C) (S:=S) (af:=af) (w:=w) (I:=false) 20 10000 jH F Zd n8 aL
   split at a
   ·rename_i i ae b9
    have W:=P3 Z ME n8 a4 b9
    obtain⟨_,I,bA,rfl⟩:=X4 b7 0 i ae b9
    simp only[za]at bA
    rw[pn,bA]at a
    obtain⟨fa,g7,born⟩:=I
    simp only[e5]at a
    obtain⟨abv,a⟩:=a
    obtain⟨rfl,ai⟩:=TA a
    have b0:=a4 _ (Zn bA)
    obtain⟨bZ,bY,cx,c7⟩:=aek Z (dk:=j) ai wY bl (HW:=fh) (me:=b7.set i (F,v,born)) (auk (λI=>{I with key:=aS S F,val:=aS S v}) a3 bA rfl) (an3 a4 ⟨n8,fy⟩)
    refine⟨_,bZ,rfl, ?_,cx,c7⟩
    simp[Instr.mapUpdate,run_underlying be,aS,bf,T,a3,W,uy,XK a3 bA,lQ,as8 b0.1 n8 abv,bY]
   ·rename_i b9
    have W:=P3 Z ME n8 a4 b9
    obtain⟨rfl,ai⟩:=TA a
    obtain⟨bZ,bY,cx,c7⟩:=aek Z (dk:=j) ai wY bl (HW:=fh+1) (me:=b7++[(F,v,fh)]) (ES:=cq.push {key:=aS S F,val:=aS S v,born:=fh}) (by simp[a3,lQ])
     (λI bA=>(Zy.1 bA).elim (a4 I) (λbA=>by simp at bA;subst bA;exact⟨n8,fy⟩))
    refine⟨_,bZ,rfl, ?_,cx,c7⟩
    simp[Instr.mapUpdate,run_underlying be,aS,bf,T,a3,W,uy,bY]
   ·simp at a
  ·simp at a
 ·simp at a
end
end Go.bk

namespace Go.bk
open Go.RowKit (Below)
def an7(rD dw:Nat)(n9:rD+(rD+768)/4<=dw):∀(r c:Nat),c<=dw->Builtin.growBy rD r c<=dw:=by
 intro r
 induction r with
 |zero=>intro c a;exact a
 |succ r am=>
  intro c a
  simp only[Builtin.growBy]
  split
  ·exact a
  ·exact am _ Zo
def nextslicecap_le{rD BX:Nat}(a:BX<rD):Builtin.nextslicecap rD BX<=2*rD+200:=by
 unfold Builtin.nextslicecap
 split
 ·omega
 ·split
  ·omega
  ·exact an7 rD _ Zo 4 BX Zo
def awG{rD BX bytes:Nat}(a:BX<rD)(aM:rD<=1048576)(ai:bytes<=65536):¬(Builtin.nextslicecap rD BX*bytes>2^48):=by
 have T:=nextslicecap_le a
 have W:Builtin.nextslicecap rD BX*bytes<=(2*1048576+200)*65536:=Nat.mul_le_mul Zo ai
 have au:(2:Nat)^48=281474976710656:=by decide
 omega
def wrap_small{n:Nat}(aM:n<=1048576):IntKind.i64.wrap (n:Int)=n:=by
 rw[<-afy]
 simp only[pA,fG,Zg]
 have T:(n:Int)%18446744073709551616=n:=YO Zo Zo
 rw[T,Zr Zo]
def Pq{n b:Nat}(T:n<=1048576)(W:b<=65536):¬((281474976710656:Int)<(n:Int)*(b:Int)):=by
 have au:n*b<=1048576*65536:=Nat.mul_le_mul T W
 have:((n*b:Nat):Int)<=((1048576*65536:Nat):Int):=Int.ofNat_le.2 au
 rw[Int.natCast_mul]at this
 omega
def x1(P:Program)(w:World)(dO:TypeDesc)(X:Value)(i:TypeInfo)(bu:Value)(n:Nat)(new:Array Value):Prop:=
 ((dO= .string\/∃I,dO= .slice I)/\(Builtin.lenOf X).run P w= .ok n w/\(Builtin.firstCells i.size n X).run P w= .ok new w/\(Builtin.firstCells i.size n X).run P w.drew= .ok new w.drew)\/
 ((∃ao,dO= .int ao)/\(∃F,X= .int F (Int.ofNat n))/\n<=1048576/\i.bytes<=65536/\n*i.size≠0/\new=Builtin.zeroCells bu.cells n)
section
variable{P:Program}{w bZ:World}{dm:Array TypeId}{ty st iB ep:TypeId}{i:TypeInfo}{dO:TypeDesc}{base:Option Addr}{gY lg n:Nat}{X bu:Value}{p6 new:Array Value}
def Ld{K:Addr}(ch:dm[0]? =some st)(T:dm[1]? =some iB)(dp:P.underlying st=some (.slice ep))(hT:P.underlying iB=some dO)(aN:P.info? ep=some i)(cw:i.zero=some bu)
 (bW:x1 P w dO X i bu n new)(aM:gY+n<=lg)(aI:(storeCells (K.add (gY*i.size)) new.toList).run P w= .ok () bZ):
 (Builtin.append_ dm ty #[.slice (some K) gY lg,X]).run P w= .ok (.slice (some K) (gY+n) lg) bZ:=by
 have al3:(#[Value.slice (some K) gY lg,X]:Array Value)[0]? =some (.slice (some K) gY lg):=rfl
 have bH:(#[Value.slice (some K) gY lg,X]:Array Value)[1]? =some X:=rfl
 clear al3 bH
 rcases bW with ⟨gS,hs,ht,_⟩|⟨⟨ao,rfl⟩,⟨F,rfl⟩,hs,ht,kB,rfl⟩
 ·rcases gS with rfl|⟨_,rfl⟩<;>simp[Builtin.append_,ch,T,run_underlying dp,run_underlying hT,sizeOf,typeInfo,aN,hs,aM,ht,aI]
 ·have mK:=Pq hs ht
  have aD:¬((n:Int)<0):=Zo
  have bI:=wrap_small hs
  simp[Builtin.append_,ch,T,run_underlying dp,run_underlying hT,sizeOf,typeInfo,aN,asInt,asIntOf,bI,mK,aD,aM,kB,zeroValue,cw,aI]
def WN(ch:dm[0]? =some st)(T:dm[1]? =some iB)(dp:P.underlying st=some (.slice ep))(hT:P.underlying iB=some dO)(aN:P.info? ep=some i)(cw:i.zero=some bu)
 (bW:x1 P w dO X i bu n new)(aM:¬(gY+n<=lg))(ai:i.bytes<=65536)(xn:gY+n<=1048576)(bl:(Builtin.firstCells i.size gY (.slice base gY lg)).run P w.drew= .ok p6 w.drew):
 ∃cap,gY+n<=cap/\(Builtin.append_ dm ty #[.slice base gY lg,X]).run P w=
  .ok (.slice (some ⟨w.heap.size,0,none⟩) (gY+n) cap) (w.drew.alloc (.cells (p6++new++Builtin.zeroCells bu.cells (cap-(gY+n))) ep)):=by
 have Z:=awG (rD:=gY+n) (BX:=lg) Zo xn ai
 have mn:¬(281474976710656<Builtin.nextslicecap (gY+n) lg*i.bytes):=by
  have au:(2:Nat)^48=281474976710656:=by decide
  omega
 have bs:¬((9223372036854775807:Int)<(gY:Int)+(n:Int)):=Zo
 refine⟨gY+n+(w.tape w.drawn (.appendCap (gY+n) lg ep))%(2^63-(gY+n)),Zo, ?_⟩
 have eX:w.drew.heap.size=w.heap.size:=rfl
 have xl:IntKind.i64.max=9223372036854775807:=by decide
 rcases bW with ⟨gS,hs,ht,kB⟩|⟨⟨ao,rfl⟩,⟨F,rfl⟩,hs,ht,kB,rfl⟩
 ·rcases gS with rfl|⟨_,rfl⟩<;>
   simp[Builtin.append_,ch,T,run_underlying dp,run_underlying hT,sizeOf,typeInfo,aN,hs,aM,kB,zeroValue,cw,xl,bs,mn,Question.forced,Question.cut,bl,newRow,eX]
 ·have mK:=Pq hs ht
  have aD:¬((n:Int)<0):=Zo
  have bI:=wrap_small hs
  simp[Builtin.append_,ch,T,run_underlying dp,run_underlying hT,sizeOf,typeInfo,aN,asInt,asIntOf,bI,mK,aD,aM,kB,zeroValue,cw,xl,bs,mn,Question.forced,Question.cut,bl,newRow,eX]
end
end Go.bk

namespace Go.bk
open Go.RowKit (Below)
structure x7(P:Program):Prop where
 mixed:P.follows .mixedOrders=true
 num:∀(f:Nat) fn,P.funcs[f]? =some fn->fn.body.isSome=true->(fn.name== "runtime.NumGoroutine")=false
section
variable{C:a2}{S dg:da}{af dE:Nat->Prop}{h U:V an}{j ar bm:Nat}{w bZ:World}
def dt.same(Z:dt C S af h j bm w)(bI:bZ.heap=w.heap):dt C S af h j bm bZ:=
 ⟨Z.ba,Z.lt,Z.vO,λb Y a d=>(Z.obj b Y a d).ad (λ_ _=>rfl) (λ_ a=>a) (by rw[bI]),Z.sep,Z.base,Z.fz⟩
def dt.drew(Z:dt C S af h j bm w):dt C S af h j bm w.drew:=Z.same rfl
def dt.aww(Z:dt C S af h j bm w){b:Nat}{c:V J}{n:Nat}{fz:List Nat}(ai:C.ba<=b)(aO:af b)(gQ:ab C h b=some (.cells c n (.grow fz))):
 dt C S af (bo C h b (some (.cells c n .j6))) j bm w:=by
 have o6:ab C (bo C h b (some (.cells c n .j6))) b=some (.cells c n .j6):=by rw[fZ _ ai,Zr rfl]
 have jE:∀x,x≠b->ab C (bo C h b (some (.cells c n .j6))) x=ab C h x:=λx ah=>by rw[fZ _ ai,Zh ah]
 refine⟨Z.ba,Z.lt, ?_, ?_, ?_, ?_, ?_⟩
 ·intro x dv ah
  by_cases I:x=b
  ·subst I;exact Z.lt x aO
  ·exact Z.vO x dv (by rw[<-jE x I,ah])
 ·intro x dv ah dO
  by_cases I:x=b
  ·subst I
   rw[o6]at ah;cases ah
   obtain⟨cq,ty,bU,aN,T,W,au,aP⟩:=Z.obj x _ gQ aO
   exact⟨cq,ty,bU,aN,T,⟨trivial,W.2⟩,au,aP⟩
  ·exact Z.obj x dv (by rw[<-jE x I,ah]) dO
 ·intro x e dv ou ah H dO oR dT lZ ff
  by_cases I:x=b
  ·subst I
   rw[o6]at ah;cases ah
   rw[jE e λao=>dT ao.symm]at H
   obtain⟨T,W⟩:=Z.sep x e _ ou gQ H dO oR dT lZ ff
   refine⟨?_,W⟩
   rcases T with ⟨_,_,_,_,ao,_⟩|⟨_,_,l,f9,aV,ao,cC,aD⟩|⟨_,_,_,_,_,_,ao,_⟩
   ·cases ao
   ·exact .inl ⟨c,n,f9,aV,rfl,cC⟩
   ·cases ao
  ·rw[jE x I]at ah
   by_cases cP:e=b
   ·subst cP
    rw[o6]at H;cases H
    obtain⟨T,W⟩:=Z.sep x e dv _ ah gQ dO oR dT lZ ff
    refine⟨?_,W⟩
    rcases T with ⟨_,_,_,_,_,ao⟩|⟨_,_,l,f9,aV,_,ao,aD⟩|⟨f9,aV,_,_,_,ao,cC,_⟩
    ·cases ao
    ·cases ao
    ·exact .inl ⟨f9,aV,c,n,cC,rfl⟩
   ·rw[jE e cP]at H
    exact Z.sep x e dv ou ah H dO oR dT lZ ff
 ·intro x dv lZ ah dO
  by_cases I:x=b
  ·subst I;exact Z.base x _ lZ gQ aO
  ·exact Z.base x dv lZ (by rw[<-jE x I,ah]) dO
 ·intro x dv ah dO
  by_cases I:x=b
  ·subst I
   rw[o6]at ah;cases ah
   have:=(Z.fz x _ gQ aO).2 _ _ _ rfl
   exact⟨λ_ _ _ a=>(by cases a),λ_ _ _ a=>(by cases a;exact this)⟩
  ·exact Z.fz x dv (by rw[<-jE x I,ah]) dO
def dt.share(Z:dt C S af h j bm w){cI:Nat}{pl:mB}{cO:an}(eH:bm<=cI)(sy:pl.cI=cI)(bI:∀F,F≠cI->bZ.heap[F]? =w.heap[F]?)
 (bl:j9 C (gu S j pl) (add af j) cO pl bZ)(tP:wE C (add af j) cO)
 (ah:∀x dv,ab C h x=some dv->af x->(S x).cI=cI->j9 C S af dv (S x) bZ/\O2 cO dv j x/\O2 dv cO x j/\pl.ek=(S x).ek):
 dt C (gu S j pl) (add af j) (bo C h j (some cO)) (j+1) bm bZ:=by
 have ai:=Z.ba
 have aM:¬af j:=λa=>zo (Z.lt j a)
 have dS:=qY (S:=S) (pl:=pl) aM
 have o6:ab C (bo C h j (some cO)) j=some cO:=by rw[fZ _ ai,Zr rfl]
 have jE:∀x,x≠j->ab C (bo C h j (some cO)) x=ab C h x:=λx ah=>by rw[fZ _ ai,Zh ah]
 have aF:∀x,add af j x->x≠j->af x:=λx a dT=>a.resolve_right dT
 refine⟨Zo, ?_, ?_, ?_, ?_, ?_, ?_⟩
 ·intro x a
  rcases a with a|a
  ·have:=Z.lt x a;omega
  ·omega
 ·intro x dv a
  by_cases I:x=j
  ·omega
  ·have:=Z.vO x dv (by rw[<-jE x I,a]);omega
 ·intro x dv a dO
  by_cases I:x=j
  ·subst I;rw[o6]at a;cases a;rw[ll];exact bl
  ·rw[jE x I]at a
   have dO:=aF x dO I
   rw[dS x dO]
   by_cases ao:(S x).cI=cI
   ·exact(ah x dv a dO ao).1.ad dS (λ_ a=> .inl a) rfl
   ·exact(Z.obj x dv a dO).ad dS (λ_ a=> .inl a) (bI _ ao)
 ·intro x e dv ou T W dO oR dT lZ ff
  by_cases I:x=j
  ·subst I
   rw[o6]at T;cases T
   have H:e≠x:=λao=>dT ao.symm
   rw[jE e H]at W
   have oR:=aF e oR H
   rw[ll,dS e oR]at ff ⊢
   obtain⟨_,cd,_,el⟩:=ah e ou W oR (by rw[<-ff,sy])
   exact⟨cd,el⟩
  ·rw[jE x I]at T
   have Lw:=aF x dO I
   by_cases cP:e=j
   ·subst cP
    rw[o6]at W;cases W
    rw[ll,dS x Lw]at ff ⊢
    obtain⟨_,_,c0,el⟩:=ah x dv T Lw (by rw[ff,sy])
    exact⟨c0,el.symm⟩
   ·rw[jE e cP]at W
    have XE:=aF e oR cP
    rw[dS x Lw,dS e XE]at ff ⊢
    exact Z.sep x e dv ou T W Lw XE dT lZ ff
 ·intro x dv lZ a dO
  by_cases I:x=j
  ·subst I;rw[ll,sy];exact eH
  ·rw[jE x I]at a
   have dO:=aF x dO I
   rw[dS x dO]
   exact Z.base x dv lZ a dO
 ·intro x dv a dO
  by_cases I:x=j
  ·subst I;rw[o6]at a;cases a;exact tP
  ·rw[jE x I]at a
   have dO:=aF x dO I
   refine⟨λc n l aD e H=> ?_,(Z.fz x dv a dO).2⟩
   obtain⟨b5,cd⟩:=(Z.fz x dv a dO).1 c n l aD e H
   exact⟨.inl b5,cd⟩
def ac7{c:V J}{Y n:Nat}{l:List J}(a:c.kE Y n=some l):l.length=n:=(V.Qm _ _ _ _ a).1
def Pw{b Y n:Nat}{l:List J}(a:m3 C h b Y n=some l):l.length=n:=by
 unfold m3 at a
 split at a
 ·exact ac7 a
 ·simp only[e5,Zf]at a
  have:n=0:=Zj a.1
  rw[<-a.2,this];rfl
def ay3(S:da)(bu:J)(n:Nat):Builtin.zeroCells (aS S bu).cells n=(b2 S (kP n bu.cells)).toArray:=by
 rw[uz, <-aet]
 simp[Builtin.zeroCells,jQ]
def aeV(S:da)(s:List Nat)(aI:∀x∈s,x<256):((f4 s).data.map λb=>Value.int .u8 b.toNat)=(b2 S (s.map λn=>J.int .u8 (Int.ofNat n))).toArray:=by
 apply YY
 simp only[f4,pL,YA]
 simp only[List.map_toArray,YA]
 apply YC
 intro x ah
 simp[aS,YF (aI x ah)]
def axu(Z:dt C S af h j bm w){x:J}{i:TypeInfo}{bu:Value}{dO:TypeDesc}{n:Nat}{l:List J}(fI:cn af x)(xg:dO= .string\/∃I,dO= .slice I)(a:lh C h i.size x=some (n,l)):
 x1 C.P w dO (aS S x) i bu n (b2 S l).toArray/\eA af l/\l.length=n*i.size:=by
 unfold lh at a
 split at a
 ·simp at a;obtain⟨rfl,rfl⟩:=a
  refine⟨.inl ⟨xg, ?_, ?_, ?_⟩,trivial,Zs⟩<;>simp[aS,Builtin.lenOf,Builtin.firstCells,b2]
 ·rename_i b Y len cap
  split at a
  ·rename_i ci aD
   simp at a;obtain⟨rfl,rfl⟩:=a
   obtain⟨T,W⟩:=E6 Z fI aD
   obtain⟨au,_⟩:=E6 Z.drew fI aD
   refine⟨.inl ⟨xg, ?_, ?_, ?_⟩,W,Pw aD⟩<;>simp[aS,Builtin.lenOf,Builtin.firstCells,T,au]
  ·simp at a
 ·rename_i b Y len cap
  split at a
  ·rename_i ci aD
   simp at a;obtain⟨rfl,rfl⟩:=a
   obtain⟨T,W⟩:=E6 Z fI aD
   obtain⟨au,_⟩:=E6 Z.drew fI aD
   refine⟨.inl ⟨xg, ?_, ?_, ?_⟩,W,Pw aD⟩<;>simp[aS,Builtin.lenOf,Builtin.firstCells,T,au]
  ·simp at a
 ·rename_i s
  simp only[e5]at a
  obtain⟨T,a⟩:=a
  have T:i.size=1:=Zj T
  simp at a;obtain⟨rfl,rfl⟩:=a
  have eX:(f4 s).size=s.length:=by simp[f4,ByteArray.size]
  have bA:(f4 s).extract 0 s.length=f4 s:=by
   rw[<-eX];exact ByteArray.extract_zero_size
  have aB:=aeV S s fI
  refine⟨.inl ⟨xg, ?_, ?_, ?_⟩, ?_,by simp[T]⟩
  ·simp[aS,Builtin.lenOf,eX]
  ·simp only[aS,Builtin.firstCells,bA,Sem.run_pure];rw[aB];simp
  ·simp only[aS,Builtin.firstCells,bA,Sem.run_pure];rw[aB];simp
  ·rw[uN]
   intro v bD
   obtain⟨e,_,rfl⟩:=ZJ.1 bD
   trivial
 ·simp at a
end
end Go.bk

