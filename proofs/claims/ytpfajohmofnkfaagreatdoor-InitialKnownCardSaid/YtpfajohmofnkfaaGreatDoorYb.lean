/- A part of the proof of the claim's last text: what it is used for is said there; no condition of its own. -/
import Derived.Test.YtpfajohmofnkfaaGreatDoorYa
import Derived.Laws.BytesString
import Derived.MapKept
import Derived.Laws.NewFold
import Derived.Laws.CopyRow
set_option maxHeartbeats 8000000
set_option linter.all false
namespace Go.bg
open Go.RowKit (Below)
section
variable{C:aW}{Q:c6}{ae:Nat->Prop}{h:S ak}{j bi:Nat}{w:World}
def binOp_eql{t:TypeId}{X eG:Value}(R:∀D J e1 b,¬(X= .int D J/\eG= .int e1 b))(U:∀J b,¬(X= .string J/\eG= .string b))
 (ar:∀D J,X≠ .float D J)(aO:∀D J b,X≠ .complex D J b):binOp .eql t X eG=(do pure (.bool (<-Op.equal t X eG)))/\binOp .neq t X eG=(do pure (.bool (!(<-Op.equal t X eG)))):=by
 constructor
 ·unfold binOp
  split
  all_goals first
   |rfl
   |exact absurd ⟨rfl,rfl⟩ (R _ _ _ _)
   |exact absurd ⟨rfl,rfl⟩ (U _ _)
   |exact absurd rfl (ar _ _)
   |exact absurd rfl (aO _ _ _)
   |simp_all
 ·unfold binOp
  split
  all_goals first
   |rfl
   |exact absurd ⟨rfl,rfl⟩ (R _ _ _ _)
   |exact absurd ⟨rfl,rfl⟩ (U _ _)
   |exact absurd rfl (ar _ _)
   |exact absurd rfl (aO _ _ _)
   |simp_all
def Wn(Q:c6)(v:H):(∀D J,aN Q v≠ .float D J)/\∀D J b,aN Q v≠ .complex D J b:=by
 cases v<;>simp[aN]
def ak4{m:Nat}{t:TypeId}{ik:Array (String×TypeId)}(bc:C.P.underlying t=some (.interface ik))(bt:ik.isEmpty=true):(Op.eqGuardIn (m+1) t .nilIface .nilIface).run C.P w= .ok false w:=by
 simp[Op.eqGuardIn,run_underlying bc,bt]
def ak5{op:BinOp}{t:TypeId}{x e:Operand}{X eG:Value}(a:(ql x||ql e)=true)(U:∀c d,¬(X= .agg c/\eG= .agg d)):
 (eqGuard op t x e X eG).run C.P w= .ok () w:=by
 cases op<;>first|rfl|(cases x<;>cases e<;>first|(simp[ql]at a;done)|(cases X<;>cases eG<;>first|rfl|exact absurd ⟨rfl,rfl⟩ (U _ _)))
def ak6{op:BinOp}{t:TypeId}{x e:Operand}{ik:Array (String×TypeId)}(bc:C.P.underlying t=some (.interface ik))(bt:ik.isEmpty=true):
 (eqGuard op t x e .nilIface .nilIface).run C.P w= .ok () w:=by
 have key:=ak4 (C:=C) (w:=w) (m:=9999) bc bt
 have R:Op.maxDepth=9999+1:=rfl
 cases op<;>first|rfl|(cases x<;>cases e<;>first|rfl|(simp[eqGuard,R,key];done))
def ak7{op:BinOp}{t:TypeId}{x e:Operand}(a:(ql x||ql e||(match C.P.underlying t with|some (.interface ik)=>ik.isEmpty|_=>false))=true):
 (eqGuard op t x e .nilIface .nilIface).run C.P w= .ok () w:=by
 by_cases az:(ql x||ql e)=true
 ·exact ak5 az Zs
 ·have az:(ql x||ql e)=false:=by simpa using az
  rw[az,Bool.false_or]at a
  split at a
  ·rename_i ik bc
   exact ak6 bc a
  ·simp at a
def ak8{op:BinOp}{t:TypeId}{x e:Operand}{X eG:Value}(R:¬(X= .nilIface/\eG= .nilIface))(U:∀c d,¬(X= .agg c/\eG= .agg d)):
 (eqGuard op t x e X eG).run C.P w= .ok () w:=by
 cases op<;>first|rfl|(cases X<;>cases eG<;>first|rfl|exact absurd ⟨rfl,rfl⟩ R|exact absurd ⟨rfl,rfl⟩ (U _ _))
def K9{op:BinOp}{t:TypeId}{x e:Operand}{J b:H}(a:ET C t (ql x||ql e) J b=true):
 (eqGuard op t x e (aN Q J) (aN Q b)).run C.P w= .ok () w:=by
 unfold ET at a
 split at a
 ·exact ak7 a
 ·simp only[aN]
  exact run_eqGuard_agg w op t x e _ _ (by simpa using a)
 ·rename_i aL a6
  refine ak8 ?_ ?_
  ·rintro⟨R,U⟩
   cases J<;>simp[aN]at R
   cases b<;>simp[aN]at U
   exact aL rfl rfl
  ·rintro c d ⟨R,U⟩
   cases J<;>simp[aN]at R
   cases b<;>simp[aN]at U
   exact a6 _ _ rfl rfl
def aiZ{op:BinOp}{x e:List Nat}{v:H}(ag:∀J∈x,J<256)(I:∀J∈e,J<256)(a:Am op x e=some v):
 (Op.stringOp op (fX x) (fX e)).run C.P w= .ok (aN Q v) w/\ch ae v:=by
 have bB:=S0 ag I
 have cF:Op.bytesLess (fX x).toList (fX e).toList=Bt x e:=by rw[KL,KL];exact ad0 ag I
 cases op<;>simp only[Am,wn,eY,Zf]at a<;>
  first
  |(
    obtain⟨R,rfl⟩:=a
    constructor
    ·have aI:(fX x).size=x.length:=by simp[fX,ByteArray.size]
     have yu:(fX e).size=e.length:=by simp[fX,ByteArray.size]
     have gr:=jb R
     simp only[Op.stringOp,aI,yu]
     rw[Zh (by simp[IntKind.max,IntKind.signed,IntKind.bits];omega)]
     simp only[Sem.run_pure,aN]
     congr 2
     apply ByteArray.ext
     simp[fX]
    ·simp only[ch]
     intro br ct
     rcases Zz.1 ct with a|a
     ·exact ag br a
     ·exact I br a)
  |(subst a;exact⟨by simp only[Op.stringOp,bB,cF,Sem.run_pure,aN],trivial⟩)
  |(simp at a)
def ari(Z:de C Q ae h j bi w){op:BinOp}{t:Nat}{x e:Operand}{aw:Operand->Value}{ez:Operand->Option H}{v:H}(cx:i7 Q ae aw ez [x,e])
 (a:MY C op t x e h ez=some v):(do eqGuard op t x e (aw x) (aw e);binOp op t (aw x) (aw e):Sem Value).run C.P w= .ok (aN Q v) w/\ch ae v:=by
 unfold MY at a
 split at a
 ·rename_i J b aC ai
  obtain⟨akK,hg⟩:=cx x Zs J aC
  obtain⟨fS,oB⟩:=cx e Zs b ai
  rw[akK,fS]
  unfold dj at a
  split at a
  ·rename_i D i e1 Y
   obtain⟨R,U,_⟩:=VE (C:=C) (Q:=Q) (ae:=ae) (w:=w) t a
   refine⟨?_,U⟩
   rw[Sem.run_bind,K9 (by simp[ET])]
   exact R
  ·rename_i s fs
   obtain⟨R,U⟩:=aiZ (C:=C) (Q:=Q) (ae:=ae) (w:=w) hg oB a
   refine⟨?_,U⟩
   rw[Sem.run_bind,K9 (by simp[ET])]
   simp only[Result.andThen_ok,aN,binOp]
   exact R
  ·rename_i asv mF
   simp only[eY]at a
   obtain⟨e4,a⟩:=a
   have cl:∀r,jX C h 50 t J b=some r->(Op.equal t (aN Q J) (aN Q b)).run C.P w= .ok r w:=λr k0=>OD Z 50 _ t J b r Zd hg oB k0
   have nV:∀D br e1 Km,¬(aN Q J= .int D br/\aN Q b= .int e1 Km):=by
    intro D br e1 Km ⟨R,U⟩
    cases J<;>simp[aN]at R
    cases b<;>simp[aN]at U
    exact asv _ _ _ _ rfl rfl
   have nn:∀br Km,¬(aN Q J= .string br/\aN Q b= .string Km):=by
    intro br Km ⟨R,U⟩
    cases J<;>simp[aN]at R
    cases b<;>simp[aN]at U
    exact mF _ _ rfl rfl
   obtain⟨cB,cu⟩:=binOp_eql (t:=t) nV nn (Wn Q J).1 (Wn Q J).2
   rw[Sem.run_bind,K9 e4]
   split at a
   ·split at a
    ·rename_i r k0
     simp at a;subst a
     exact⟨by simp[cB,cl r k0,aN],trivial⟩
    ·simp at a
   ·split at a
    ·rename_i r k0
     simp at a;subst a
     exact⟨by simp[cu,cl r k0,aN],trivial⟩
    ·simp at a
   ·simp at a
 ·simp at a
end
end Go.bg

namespace Go.bg
open Go.RowKit (Below)
section
variable{C:aW}{Q:c6}{ae:Nat->Prop}{h:S ak}{j bi:Nat}{w:World}
def aiL{s d:Nat}{x v:H}(ag:ch ae x)(a:OC C s d x=some v):(convert s d (aN Q x)).run C.P w= .ok (aN Q v) w/\ch ae v:=by
 unfold OC at a
 split at a
 ·rename_i pP D d0 n Db I3
  simp at a;subst a
  simp[convert,run_underlying Db,run_underlying I3,Conv.intToInt,aN,ch]
 ·rename_i pP s Db I3
  simp at a;subst a
  refine⟨?_,ag⟩
  simp[convert,run_underlying Db,run_underlying I3,aN]
 ·simp at a
def ajR:∀{l:List H}{s:List Nat},xN l=some s->∃mF:List Nat,l=mF.map (λn=>H.int .u8 (Int.ofNat n))/\s=mF.map (·%256):=by
 intro l
 induction l with
 |nil=>intro s a;simp[xN]at a;subst a;exact⟨[],rfl,rfl⟩
 |cons J l al=>
  intro s a
  unfold xN at a
  split at a
  ·rename_i gb;simp at gb
  ·rename_i n b5 eX
   simp only[YD]at eX
   obtain⟨rfl,rfl⟩:=eX
   split at a
   ·rename_i r Z
    simp at a;subst a
    obtain⟨mF,R,U⟩:=al Z
    exact⟨n::mF,by simp[R],by simp[U]⟩
   ·simp at a
  ·simp at a
def alI(mF:List Nat):∀r:ByteArray,(mF.map Int.ofNat).foldl (λr (n:Int)=>r.push (UInt8.ofNat n.toNat)) r=⟨r.data++(mF.map UInt8.ofNat).toArray⟩:=by
 induction mF with
 |nil=>intro r;simp
 |cons n mF al=>
  intro r
  simp only[Yb,List.foldl_cons,al]
  congr 1
  apply YT
  simp[ByteArray.push]
def EI(Z:de C Q ae h j bi w){b W n:Nat}{l:List H}(ai:ae b)(a:mT C h b W n=some l):
 (loadCells ⟨(Q b).cE,(Q b).ed+W,none⟩ n).run C.P w= .ok (bX Q l).toArray w/\ew ae l:=by
 unfold mT at a
 split at a
 ·rename_i c az;exact KP Z ai az a
 ·simp only[eY,Zf]at a
  obtain⟨R,rfl⟩:=a
  have:n=0:=Zl R
  subst this
  refine⟨?_,trivial⟩
  have aB:=run_loadCells_list (P:=C.P) w ⟨(Q b).cE,(Q b).ed+W,none⟩ [] (λY v bA=>by simp at bA)
  simpa[bX]using aB
def ad7(Z:de C Q ae h j bi w){b W n cap:Nat}{l:List H}{s:List Nat}(ai:ae b)(a:mT C h b W n=some l)(aI:xN l=some s):
 (Conv.bytesToString (.slice (some ⟨(Q b).cE,(Q b).ed+W,none⟩) n cap)).run C.P w= .ok (aN Q (.str s)) w/\ch ae (.str s):=by
 obtain⟨R,_⟩:=EI Z ai a
 obtain⟨mF,rfl,rfl⟩:=ajR aI
 have U:=run_bytesToString (P:=C.P) w ⟨(Q b).cE,(Q b).ed+W,none⟩ n cap (mF.map Int.ofNat) (by
  rw[R];congr 2
  rw[pq,YG,YG];rfl)
 constructor
 ·rw[U,alI]
  congr 2
  simp only[fX,YG]
  congr 1
  apply YT
  simp
  intro J _
  exact UInt8.toNat_inj.1 Zs
 ·simp only[ch]
  intro x ag
  obtain⟨e,_,rfl⟩:=ZW.1 ag
  exact Nat.mod_lt _ Zd
def ai0(Z:de C Q ae h j bi w){x v:H}(ag:ch ae x)(a:Es C h x=some v):(Conv.bytesToString (aN Q x)).run C.P w= .ok (aN Q v) w/\ch ae v/\∃J l c,aN Q x= .slice J l c:=by
 unfold Es at a
 split at a
 ·simp at a;subst a;exact⟨rfl,by simp[ch],_,_,_,rfl⟩
 ·split at a
  ·rename_i l aB
   split at a
   ·rename_i s aI
    simp at a;subst a
    obtain⟨R,U⟩:=ad7 Z ag aB aI
    exact⟨R,U,_,_,_,rfl⟩
   ·simp at a
  ·simp at a
 ·split at a
  ·rename_i l aB
   split at a
   ·rename_i s aI
    simp at a;subst a
    obtain⟨R,U⟩:=ad7 Z ag aB aI
    exact⟨R,U,_,_,_,rfl⟩
   ·simp at a
  ·simp at a
 ·simp at a
def arj(Z:de C Q ae h j bi w){s d:Nat}{x:Operand}{aw:Operand->Value}{ez:Operand->Option H}{v:H}(cx:i7 Q ae aw ez [x])
 (a:Jj C s d x h ez=some v):(convert s d (aw x)).run C.P w= .ok (aN Q v) w/\ch ae v:=by
 unfold Jj at a
 split at a
 ·rename_i J aC
  obtain⟨F,g⟩:=cx x Zs J aC
  rw[F]
  split at a
  ·rename_i ad bc
   simp at a;subst a
   exact aiL g bc
  ·split at a
   ·rename_i s1 Db I3
    split at a
    ·rename_i bt
     obtain⟨R,U,fR,l,c,ar⟩:=ai0 Z g a
     refine⟨?_,U⟩
     rw[ar]at R ⊢
     rw[run_convert_bytes_string w s d s1 fR l c Db bt I3]
     exact R
    ·simp at a
   ·simp at a
 ·simp at a
def Dp{W:Option H}{m d r:Nat}(a:oV W m d=some r):(W=none/\r=d)\/∃D,W=some (.int D (Int.ofNat r))/\r<=m:=by
 unfold oV at a
 split at a
 ·rename_i v
  split at a
  ·rename_i n aK
   simp only[eY,Zf]at a
   obtain⟨R,rfl⟩:=a
   obtain⟨D,rfl⟩:=Dw aK
   exact .inr ⟨D,rfl,jb R⟩
  ·simp at a
 ·simp at a;exact .inl ⟨rfl,a.symm⟩
def run_sliceBound{P:Program}{D:IntKind}{n e:Nat}{code:BoundsCode}(a:n<=e):(Instr.sliceBound (.int D (Int.ofNat n)) e code).run P w= .ok n w:=by
 have R:(0:Int)<=Int.ofNat n/\Int.ofNat n<=(e:Int):=⟨Int.natCast_nonneg n,Int.ofNat_le.2 a⟩
 simp only[Instr.sliceBound,asIntOf,Sem.run_bind,Sem.run_pure,Result.andThen_ok]
 rw[Zq R]
 rfl
def Hq{FS:Bool}{len cap KN:Nat}{bT aM gN:Option H}{l a m:Nat}(az:cap<=KN)(ai:lY len cap bT aM gN=some (l,a,m)):
 (Instr.sliceBounds FS len KN (bT.map (aN Q)) (aM.map (aN Q)) (gN.map (aN Q))).run C.P w= .ok (l,a,if gN.isSome then m else KN) w/\l<=a/\(gN=none->m=cap)/\m<=cap/\(a<=m\/a=len):=by
 unfold lY at ai
 split at ai
 ·simp at ai
 ·rename_i gj bp
  split at ai
  ·simp at ai
  ·rename_i cD gb
   split at ai
   ·simp at ai
   ·rename_i b5 aB
    simp at ai
    obtain⟨rfl,rfl,rfl⟩:=ai
    have IB:b5<=cD:=by
     rcases Dp aB with ⟨_,rfl⟩|⟨D,_,gr⟩
     ·exact zo _
     ·exact gr
    cases gN with
    |none=>
     have uL:gj=cap:=by simpa[oV]using bp.symm
     subst uL
     have L5:oV aM gj len=some cD:=by cases aM<;>exact gb
     refine⟨?_,IB,λ_=>rfl,Zi _,(Dp L5).elim (λa=> .inr a.2) (λ⟨_,_,a⟩=> .inl a)⟩
     rcases Dp L5 with ⟨rfl,rfl⟩|⟨D,rfl,gr⟩<;>rcases Dp aB with ⟨rfl,rfl⟩|⟨cw,rfl,f2⟩
     ·simp[Instr.sliceBounds]
     ·simp only[Instr.sliceBounds,YW,ZS,aN,Sem.run_bind,Sem.run_pure,Result.andThen_ok,run_sliceBound f2,ZZ,Zv,ZB]
     ·simp only[Instr.sliceBounds,YW,ZS,aN,Sem.run_bind,Sem.run_pure,Result.andThen_ok,run_sliceBound (ZA gr az),ZZ,Zv,ZB]
     ·simp only[Instr.sliceBounds,YW,ZS,aN,Sem.run_bind,Sem.run_pure,Result.andThen_ok,run_sliceBound (ZA gr az),run_sliceBound f2,ZZ,Zv,ZB]
    |some asg=>
     rcases Dp bp with ⟨cj,_⟩|⟨D,cj,gr⟩
     ·cases cj
     ·cases cj
      cases aM with
      |none=>simp at gb
      |some bA=>
       have L5:oV (some bA) gj len=some cD:=gb
       rcases Dp L5 with ⟨cj,_⟩|⟨e1,cj,IA⟩
       ·cases cj
       ·cases cj
        refine⟨?_,IB,(λa=>by cases a),gr, .inl IA⟩
        rcases Dp aB with ⟨rfl,rfl⟩|⟨cw,rfl,f2⟩
        ·simp only[Instr.sliceBounds,YW,ZS,aN,Sem.run_bind,Sem.run_pure,Result.andThen_ok,run_sliceBound (ZA gr az),run_sliceBound IA,Z5,ZD]
        ·simp only[Instr.sliceBounds,ZS,aN,Sem.run_bind,Sem.run_pure,Result.andThen_ok,run_sliceBound (ZA gr az),run_sliceBound IA,run_sliceBound f2,Z5,ZD]
end
end Go.bg

namespace Go.bg
open Go.RowKit (Below)
section
variable{C:aW}{Q:c6}{ae:Nat->Prop}{h:S ak}{j bi:Nat}{w:World}
def aj5(m l W bl:Nat):bR (Nat.beq m l) W (W+l*bl)=if m=l then W else W+l*bl:=hB _ _ _ _
def adP(Z:de C Q ae h j bi w){b n:Nat}(ai:ae b)(a:xm C h b=some n):n<=(Q b).room:=by
 unfold xm at a
 split at a
 ·rename_i c m fk bf
  simp at a;subst a
  obtain⟨cn,ty,bT,aM,_,U,_,_⟩:=Z.obj b _ bf ai
  exact U.2.1
 ·rename_i c m bf
  simp at a;subst a
  obtain⟨cn,ty,bT,aM,_,U,_,_⟩:=Z.obj b _ bf ai
  exact U.2.1
 ·simp at a
def SR{b W l a m bl:Nat}:Value.slice (some (if m=l then(⟨(Q b).cE,(Q b).ed+W,none⟩:Addr)else(⟨(Q b).cE,(Q b).ed+W,none⟩:Addr).add (l*bl))) (a-l) (m-l)
 =aN Q (.slice b (bR (Nat.beq m l) W (W+l*bl)) (a-l) (m-l)):=by
 rw[aj5]
 simp only[aN,qQ]
 split
 ·rfl
 ·rw[ZN]
def aiY(Z:de C Q ae h j bi w){t:Nat}{x v:H}{bT aM gN:Option H}(ag:ch ae x)(a:KF C h t x bT aM gN=some v):
 (Instr.sliceAt t (aN Q x) (bT.map (aN Q)) (aM.map (aN Q)) (gN.map (aN Q))).run C.P w= .ok (aN Q v) w/\ch ae v:=by
 unfold KF at a
 split at a
 ·rename_i s bc
  cases gN with
  |some _=>simp at a
  |none=>
   simp only at a
   split at a
   ·rename_i l cD m ai
    simp at a;subst a
    obtain⟨R,U,_⟩:=Hq (C:=C) (Q:=Q) (w:=w) (FS:=false) (Zi _) ai
    have eH:(fX s).size=s.length:=by simp[fX,ByteArray.size]
    constructor
    ·simp only[YW,ZZ,Zv,ZB]at R
     simp[Instr.sliceAt,run_underlying bc,Instr.slice,aN,eH,R]
     apply ByteArray.ext
     rw[ByteArray.data_extract]
     apply YT
     simp[fX,List.map_take,List.map_drop,List.take_drop]
    ·simp only[ch]at ag ⊢
     intro br ct
     exact ag br (Y4 (Y5 ct))
   ·simp at a
 ·rename_i eg b W len cap bc
  split at a
  ·rename_i l cD m bl ai eH
   simp at a;subst a
   obtain⟨R,U,ar,_⟩:=Hq (C:=C) (Q:=Q) (w:=w) (FS:=true) (Zi cap) ai
   have bp:(if gN.isSome=true then m else cap)=m:=by cases gN with
    |none=>simp[ar rfl]
    |some _=>rfl
   rw[bp]at R
   refine⟨?_,ag⟩
   have:=SR (Q:=Q) (b:=b) (W:=W) (l:=l) (a:=cD) (m:=m) (bl:=bl)
   simp only[Instr.sliceAt,Sem.run_bind,run_underlying bc,Result.andThen_ok,Instr.slice,aN,R,o5 eH,Sem.run_pure]
   rw[<-aN, <-this]
   split<;>rfl
  ·simp at a
 ·rename_i eg bc
  split at a
  ·rename_i r bl ai eH
   obtain⟨l,cD,m⟩:=r
   simp at a;subst a
   obtain⟨R,U,ar,aO,bN⟩:=Hq (C:=C) (Q:=Q) (w:=w) (FS:=true) (Zi 0) ai
   have bp:m=0:=Zo
   have gb:cD=0:=Zo
   have aB:l=0:=Zo
   subst bp;subst gb;subst aB
   refine⟨?_,trivial⟩
   have tc:(Instr.sliceBounds true 0 0 (bT.map (aN Q)) (aM.map (aN Q)) (gN.map (aN Q))).run C.P w= .ok (0,0,0) w:=by rw[R];split<;>rfl
   simp[Instr.sliceAt,run_underlying bc,Instr.slice,aN,tc,o5 eH]
  ·simp at a
 ·rename_i eg b W len bl bc
  split at a
  ·rename_i xo n eH aK
   simp only[eY,Zn]at a
   obtain⟨⟨lm,qi⟩,a⟩:=a
   have lm:bl=xo:=Zl lm
   subst lm
   have qi:0<bl:=lh qi
   have apE:=adP Z ag aK
   have mu:(n-W)/bl<=((Q b).room-W)/bl:=Nat.div_le_div_right Zo
   split at a
   ·rename_i l cD m ai
    obtain⟨R,U,ar,_⟩:=Hq (C:=C) (Q:=Q) (w:=w) (FS:=true) mu ai
    cases gN with
    |some asg=>
     simp at a;subst a
     refine⟨?_,ag⟩
     have:=SR (Q:=Q) (b:=b) (W:=W) (l:=l) (a:=cD) (m:=m) (bl:=bl)
     simp only[Z5,ZD]at R
     simp only[Instr.sliceAt,Sem.run_bind,run_underlying bc,Result.andThen_ok,Instr.slice,aN,R,o5 eH,Sem.run_pure]
     rw[<-aN, <-this]
     split<;>rfl
    |none=>
     simp only[eY,Zf,YV]at a
     obtain⟨aB,rfl⟩:=a
     refine⟨?_,ag⟩
     simp only[ZZ,Zv,ZB]at R
     simp only[Instr.sliceAt,Sem.run_bind,run_underlying bc,Result.andThen_ok,Instr.slice,aN,R,o5 eH,Sem.run_pure]
     have cF:((Q b).room-(W+l*bl))/bl=((Q b).room-W)/bl-l:=by
      rw[<-Nat.sub_sub,zp l bl,Nat.sub_mul_div]
     rw[cF]
     congr 1
     congr 1
     rcases aB with aB|aB
     ·have aB:=lh aB
      rw[Zh Zo,ZS,qQ,ZN]
     ·have aB:l=0:=Zl aB
      subst aB
      split<;>simp[qQ]
   ·simp at a
  ·simp at a
 ·rename_i n eg b W bc
  split at a
  ·rename_i l cD m bl ai eH
   simp at a;subst a
   obtain⟨R,U,ar,_⟩:=Hq (C:=C) (Q:=Q) (w:=w) (FS:=false) (Zi n) ai
   have bp:(if gN.isSome=true then m else n)=m:=by cases gN with
    |none=>simp[ar rfl]
    |some _=>rfl
   rw[bp]at R
   refine⟨?_,ag⟩
   have:=SR (Q:=Q) (b:=b) (W:=W) (l:=l) (a:=cD) (m:=m) (bl:=bl)
   simp only[Instr.sliceAt,Sem.run_bind,run_underlying bc,Result.andThen_ok,Instr.sureAddr,aN,R,o5 eH,Sem.run_pure]
   rw[<-aN, <-this]
  ·simp at a
 ·simp at a
end
end Go.bg

namespace Go.bg
open Go.RowKit (Below)
section
variable{C:aW}{Q:c6}{ae:Nat->Prop}{h:S ak}{j bi:Nat}{w:World}
def auu{α:Type}{P:Program}(f:α->PUnit->Sem (ForInStep PUnit)):∀(l:List α),(∀J∈l,(f J ⟨⟩).run P w= .ok (.yield ⟨⟩) w)->(forIn l PUnit.unit f).run P w= .ok ⟨⟩ w:=by
 intro l
 induction l with
 |nil=>intro _;simp[Sem.run_pure]
 |cons J l al=>intro a;simp[List.forIn_cons,a J Zs,al λb ai=>a b (by simp[ai])]
def VF{F:Bool}:∀(n m t:Nat) (v:H),n<=m->ch ae v->mR C n t v=true->(Instr.checkKey F m t (aN Q v)).run C.P w= .ok () w:=by
 intro n
 induction n with
 |zero=>intro m t v _ _ a;simp[mR]at a
 |succ n al=>
  intro m t v bp bA a
  obtain⟨m,rfl⟩:∃D,m=D+1:=⟨m-1,Zo⟩
  unfold mR at a
  split at a
  ·rename_i ik d x bc
   split at a
   ·rename_i i aM
    simp only[Zn]at a
    have:=al m d x Zo bA a.2
    simp[Instr.checkKey,run_underlying bc,aN,typeInfo,aM,a.1,this]
   ·simp at a
  ·rename_i bc;simp[Instr.checkKey,run_underlying bc,aN]
  ·simp at a
  ·rename_i jO cs bc
   simp only[Instr.checkKey,Sem.run_bind,run_underlying bc,Result.andThen_ok,aN]
   rw[<-Array.forIn_toList]
   refine(congrArg (λr=>Result.andThen r _) (auu _ _ ?_)).trans rfl
   intro f ce
   have:=YQ.1 a f ce
   simp only[YV,YU]at this
   by_cases aK:f.name= "_"
   ·simp[aK]
   ·rcases this with R|R
    ·exact absurd R aK
    ·split at R
     ·rename_i p ay
      obtain⟨fy,hu⟩:=Hh (Q:=Q) (w:=w) bA ay
      simp[aK,fy,al m f.type p Zo hu R]
     ·simp at R
  ·simp at a
  ·simp at a
  ·rename_i d aL a6 ba bc cb er d9
   simp only[Instr.checkKey,Sem.run_bind,run_underlying bc,Result.andThen_ok]
   cases d<;>first
    |exact(aL _ rfl).elim
    |exact(a6 _ rfl).elim
    |exact(ba _ _ rfl).elim
    |rfl
  ·simp at a
def Wo{x:H}{D:IntKind}{J:Int}(a:aN Q x= .int D J):x= .int D J:=by
 cases x<;>simp[aN]at a
 obtain⟨rfl,rfl⟩:=a;rfl
def Wm{x:H}{J:Bool}(a:aN Q x= .bool J):x= .bool J:=by
 cases x<;>simp[aN]at a
 subst a;rfl
def Wp{x:H}{J:ByteArray}(a:aN Q x= .string J):∃s,x= .str s/\J=fX s:=by
 cases x<;>simp[aN]at a
 exact⟨_,rfl,a.symm⟩
def Wd(J b:ByteArray):(J==b)=(J.toList==b.toList):=by
 show(J.data==b.data)=_
 rw[Yf,YU,YU,ByteArray.toList_eq,ByteArray.toList_eq]
 exact⟨λa=>by rw[a],λa=>Array.toList_inj.1 a⟩
def adK{d t:Nat}{e7:TypeDesc}{x e:H}{r hH:Bool}(bc:C.P.underlying t=some e7)(fx:ch ae x)(uo:ch ae e)
 (a:jX C h d t x e=some r)(cD:Instr.sameNow e7 (aN Q x) (aN Q e)=some hH):r=hH:=by
 cases d with
 |zero=>simp[jX]at a
 |succ d=>
  unfold Instr.sameNow at cD
  split at cD
  ·rename_i d0 D J e1 b ag I
   rw[Wo ag,Wo I]at a
   simp[jX,bc]at a
   split at cD
   ·simp at cD;rw[<-cD, <-a.2];rfl
   ·simp at cD
  ·rename_i J b ag I
   obtain⟨s,rfl,rfl⟩:=Wp ag
   obtain⟨fs,rfl,rfl⟩:=Wp I
   simp[jX,bc]at a
   simp at cD
   rw[<-cD, <-a,Wd,S0 fx uo]
  ·rename_i J b ag I
   rw[Wm ag,Wm I]at a
   simp[jX,bc]at a
   simp at cD;rw[<-cD, <-a]
  ·simp at cD
def t7(Q:c6)(r:Option (Nat×H)):Option (Nat×Value):=r.map λx=>(x.1,aN Q x.2)
def alC{t:Nat}{e7:TypeDesc}{D:H}(bc:C.P.underlying t=some e7)(nR:ch ae D):∀(bF:List (H×H×Nat)) (i:Nat) (r:Option (Nat×H)) (hH:Option (Nat×Value)),
 (∀F∈bF,ch ae F.1/\ch ae F.2.1)->findKey C h t D bF i=some r->Instr.findNow e7 (aN Q D) (bF.map (lF Q)) i=some hH->hH=t7 Q r:=by
 intro bF
 induction bF with
 |nil=>intro i r hH _ a cD;simp[findKey]at a;simp[Instr.findNow]at cD;subst a;subst cD;rfl
 |cons F bF al=>
  intro i r hH b0 a cD
  obtain⟨e1,v,b⟩:=F
  simp only[findKey]at a
  simp only[Yb,Instr.findNow,lF]at cD
  split at a
  ·rename_i bt
   simp at a;subst a
   split at cD
   ·simp at cD;rw[<-cD];rfl
   ·rename_i aI
    have:=adK bc nR (b0 (e1,v,b) (Zw ..)).1 bt aI
    simp at this
   ·simp at cD
  ·rename_i bt
   split at cD
   ·rename_i aI
    have:=adK bc nR (b0 (e1,v,b) (Zw ..)).1 bt aI
    simp at this
   ·exact al _ _ _ (λF bt=>b0 F (by simp[bt])) a cD
   ·simp at cD
  ·simp at a
def alA(Z:de C Q ae h j bi w){t:Nat}{D:H}(nR:ch ae D):∀(bF:List (H×H×Nat)) (i:Nat) (r:Option (Nat×H)),
 (∀F∈bF,ch ae F.1/\ch ae F.2.1)->findKey C h t D bF i=some r->(Instr.findAsking t (aN Q D) (bF.map (lF Q)) i).run C.P w= .ok (t7 Q r) w:=by
 intro bF
 induction bF with
 |nil=>intro i r _ a;simp[findKey]at a;subst a;simp[Instr.findAsking,t7]
 |cons F bF al=>
  intro i r b0 a
  obtain⟨e1,v,b⟩:=F
  simp only[findKey]at a
  have bp:20<=Op.maxDepth:=by decide
  split at a
  ·rename_i bt
   simp at a;subst a
   have:=OD Z 20 _ t D e1 true bp nR (b0 (e1,v,b) (Zw ..)).1 bt
   simp[Instr.findAsking,Op.equal,lF,this,t7]
  ·rename_i bt
   have:=OD Z 20 _ t D e1 false bp nR (b0 (e1,v,b) (Zw ..)).1 bt
   simp[Instr.findAsking,Op.equal,lF,this]
   exact al _ _ (λF bt=>b0 F (by simp[bt])) a
  ·simp at a
def Pv(Z:de C Q ae h j bi w){t:Nat}{e7:TypeDesc}{D:H}{bF:List (H×H×Nat)}{r:Option (Nat×H)}(bc:C.P.underlying t=some e7)(nR:ch ae D)
 (b0:∀F∈bF,ch ae F.1/\ch ae F.2.1)(a:findKey C h t D bF 0=some r):(Instr.findKey t (aN Q D) (bF.map (lF Q))).run C.P w= .ok (t7 Q r) w:=by
 simp only[Instr.findKey,Sem.run_bind,run_underlying bc,Result.andThen_ok]
 split
 ·rename_i hH cD
  rw[alC bc nR bF 0 r hH b0 a cD];rfl
 ·exact alA Z nR bF 0 r b0 a
def Xc{t:Nat}{D:H}:∀(bF:List (H×H×Nat)) (i Y:Nat) (v:H),findKey C h t D bF i=some (some (Y,v))->i<=Y/\∃F,bF[Y-i]? =some F/\F.2.1=v:=by
 intro bF
 induction bF with
 |nil=>intro i Y v a;simp[findKey]at a
 |cons F bF al=>
  intro i Y v a
  obtain⟨e1,hI,b⟩:=F
  simp only[findKey]at a
  split at a
  ·simp at a
   obtain⟨rfl,rfl⟩:=a
   exact⟨Zi _,(e1,hI,b),Zs,rfl⟩
  ·obtain⟨R,F,U,ar⟩:=al _ _ _ a
   refine⟨Zo,F, ?_,ar⟩
   rw[show Y-i=(Y-(i+1))+1 by omega]
   simpa using U
  ·simp at a
def abU{t d:Nat}{D:H}(a:mR C d t D=true):∃e7,C.P.underlying t=some e7:=by
 cases d with
 |zero=>simp[mR]at a
 |succ d=>
  cases bc:C.P.underlying t with
  |none=>simp[mR,bc]at a
  |some e7=>exact⟨e7,rfl⟩
def Js(Z:de C Q ae h j bi w){r:Nat}{bF:List (H×H×Nat)}{e6:Nat}(aH:ae r)(a:aa C h r=some (.map bF e6)):
 ∃cn,(getObj (Q r).cE).run C.P w= .ok (.map cn e6) w/\w.heap[(Q r).cE]? =some (.map cn e6)/\cn.toList=bF.map (lF Q)/\∀F∈bF,ch ae F.1/\ch ae F.2.1:=by
 obtain⟨cn,R,U,ar⟩:=Z.obj r _ a aH
 exact⟨cn,MapKept.run_getObj_map R,R,U,ar⟩
def acl{t:Nat}{D:H}{J b:List (H×H)}(a:J.Perm b):∀r,oZ C h t D J=some r->oZ C h t D b=some r:=by
 induction a with
 |nil=>exact λ_ a=>a
 |cons x _ al=>
  obtain⟨e1,v⟩:=x
  intro r a
  simp only[oZ]at a ⊢
  split at a
  ·rename_i Z bt
   rw[al _ Z,bt];simpa using a
  ·rename_i Z bt
   rw[al _ Z,bt];simpa using a
  ·cases a
 |swap x e l=>
  obtain⟨are,NV⟩:=x
  obtain⟨sm,NW⟩:=e
  intro r a
  simp only[oZ]at a ⊢
  cases aB:oZ C h t D l with
  |none=>simp[aB]at a
  |some jn=>
   simp only[aB]at a
   cases ag:jX C h 20 t D are with
   |none=>rw[ag]at a;cases jn<;>simp at a
   |some Wc=>
    cases I:jX C h 20 t D sm with
    |none=>
     rw[ag,I]at a
     cases Wc<;>cases jn<;>simp at a
    |some ajQ=>
     rw[ag,I]at a
     cases Wc<;>cases ajQ<;>cases jn<;>simp at a ⊢ <;>exact a
 |trans _ _ Ry I7=>exact λr a=>I7 r (Ry r a)
def ack{t:Nat}{D:H}:∀(bF:List (H×H×Nat)) (i:Nat) (r:Option H),oZ C h t D (bF.map λF=>(F.1,F.2.1))=some r->∃hH,findKey C h t D bF i=some hH/\hH.map (·.2)=r:=by
 intro bF
 induction bF with
 |nil=>intro i r a;simp[oZ]at a;subst a;exact⟨none,rfl,rfl⟩
 |cons F bF al=>
  obtain⟨e1,hI,b⟩:=F
  intro i r a
  simp only[Yb,oZ]at a
  simp only[findKey]
  split at a
  ·rename_i jn Z bt
   simp at a;subst a
   rw[bt]
   exact al (i+1) _ Z
  ·rename_i Z bt
   simp at a;subst a
   rw[bt]
   exact⟨some (i,hI),rfl,rfl⟩
  ·cases a
def aiT(Z:de C Q ae h j bi w){t:Nat}{m D v:H}{ok:Bool}(wB:ch ae m)(nR:ch ae D)(a:KE C h t m D ok=some v):
 (Instr.lookup t (aN Q m) (aN Q D) ok).run C.P w= .ok (aN Q v) w/\ch ae v:=by
 unfold KE at a
 split at a
 ·rename_i jC Ax bc
  have key:∀(bF:List (H×H×Nat)) (cn:Array MapEntry) (r:Option (Nat×H)),cn.toList=bF.map (lF Q)->(∀F∈bF,ch ae F.1/\ch ae F.2.1)->mR C 20 jC D=true->findKey C h jC D bF 0=some r->
   (match r with|none=>(match sM C Ax with|some br=>some (bR ok (.tuple [br, .bool false]) br)|none=>none)|some (_,v)=>some (bR ok (.tuple [v, .bool true]) v))=some v->
   (do
    Instr.checkKey cn.isEmpty 10000 jC (aN Q D)
    let(v,W)<-match<-Instr.findKey jC (aN Q D) cn.toList with
     |some (_,v)=>pure (v,true)
     |none=>pure (<-zeroValue Ax,false)
    pure (if ok then .tuple #[v, .bool W]else v):Sem Value).run C.P w= .ok (aN Q v) w/\ch ae v:=by
   intro bF cn r aC b0 aF ce bA
   obtain⟨e7,L9⟩:=abU aF
   have R:=VF (C:=C) (Q:=Q) (ae:=ae) (w:=w) (F:=cn.isEmpty) 20 10000 jC D Zd nR aF
   have U:=Pv Z L9 nR b0 ce
   rw[aC]
   cases r with
   |none=>
    simp only at bA
    split at bA
    ·rename_i br ct
     obtain⟨fW,fw⟩:=DT ct Q ae w
     simp at bA;subst bA
     cases ok
     ·exact⟨by simp[R,U,t7,fW],fw⟩
     ·exact⟨by simp[R,U,t7,fW,aN,bX],⟨fw,trivial,trivial⟩⟩
    ·simp at bA
   |some p=>
    obtain⟨Y,ad⟩:=p
    simp at bA;subst bA
    obtain⟨_,F,bt,rfl⟩:=Xc bF 0 Y ad ce
    have aas:=(b0 F (Zj bt)).2
    cases ok
    ·exact⟨by simp[R,U,t7],aas⟩
    ·exact⟨by simp[R,U,t7,aN,bX],⟨aas,trivial,trivial⟩⟩
  split at a
  ·simp at a
  ·rename_i bp
   split at bp
   ·simp only[eY,Zf]at bp
    have:=key [] #[] none rfl Zs bp.1 (by simp[findKey]) a
    refine⟨?_,this.2⟩
    rw[<-this.1]
    simp only[Instr.lookup,Sem.run_bind,run_underlying bc,Result.andThen_ok,aN,Sem.run_pure]
    rfl
   ·rename_i r
    split at bp
    ·rename_i bF e6 bf
     simp only[eY]at bp
     obtain⟨cn,R,_,U,ar⟩:=Js Z wB bf
     have:=key bF cn none U ar bp.1 bp.2 a
     refine⟨?_,this.2⟩
     rw[<-this.1]
     simp only[Instr.lookup,Sem.run_bind,run_underlying bc,Result.andThen_ok,aN,Sem.run_pure,R]
     rfl
    ·rename_i bF bf
     simp only[eY]at bp
     obtain⟨cn,e6,jN,R,U,aO,ar⟩:=Z.obj r _ bf wB
     have bu:oZ C h jC D bF=some none:=by
      have:=bp.2
      unfold F8 at this
      split at this<;>simp at this
      all_goals(rename_i an;first|(rw[an,this.2])|exact an|(rw[an];simp[this]))
     obtain⟨hH,eM,e3⟩:=ack jN 0 _ (acl aO.symm _ bu)
     cases hH with
     |none=>
      have:=key jN cn none U ar bp.1 eM a
      refine⟨?_,this.2⟩
      rw[<-this.1]
      simp only[Instr.lookup,Sem.run_bind,run_underlying bc,Result.andThen_ok,aN,Sem.run_pure,MapKept.run_getObj_map R]
      rfl
     |some p=>
      obtain⟨fy,hu⟩:=p
      simp at e3
    ·simp at bp
   ·simp at bp
  ·rename_i Y ad bp
   split at bp
   ·simp only[eY]at bp
    simp at bp
   ·rename_i r
    split at bp
    ·rename_i bF e6 bf
     simp only[eY]at bp
     obtain⟨cn,R,_,U,ar⟩:=Js Z wB bf
     have:=key bF cn (some (Y,ad)) U ar bp.1 bp.2 a
     refine⟨?_,this.2⟩
     rw[<-this.1]
     simp only[Instr.lookup,Sem.run_bind,run_underlying bc,Result.andThen_ok,aN,Sem.run_pure,R]
     rfl
    ·rename_i bF bf
     simp only[eY]at bp
     obtain⟨cn,e6,jN,R,U,aO,ar⟩:=Z.obj r _ bf wB
     have bu:oZ C h jC D bF=some (some ad):=by
      have:=bp.2
      unfold F8 at this
      split at this<;>simp at this
      all_goals(rename_i an;first|(rw[an,this.2])|exact an|(rw[an];simp[this]))
     obtain⟨hH,eM,e3⟩:=ack jN 0 _ (acl aO.symm _ bu)
     cases hH with
     |none=>
      simp at e3
     |some p=>
      obtain⟨fy,hu⟩:=p
      simp at e3
      subst e3
      have:=key jN cn (some (fy,hu)) U ar bp.1 eM a
      refine⟨?_,this.2⟩
      rw[<-this.1]
      simp only[Instr.lookup,Sem.run_bind,run_underlying bc,Result.andThen_ok,aN,Sem.run_pure,MapKept.run_getObj_map R]
      rfl
    ·simp at bp
   ·simp at bp
 ·simp at a
end
end Go.bg

namespace Go.bg
open Go.RowKit (Below)
section
variable{C:aW}{Q:c6}{ae:Nat->Prop}{h:S ak}{j bi:Nat}{w:World}
def ark{t f:Nat}{x:Operand}{aw:Operand->Value}{ez:Operand->Option H}{v:H}(cx:i7 Q ae aw ez [x])
 (a:Jk C t x f h ez=some v):(Instr.field t (aw x) f).run C.P w= .ok (aN Q v) w/\ch ae v:=by
 unfold Jk at a
 split at a
 ·rename_i jO cs bc ag
  obtain⟨F,g⟩:=cx x Zs _ ag
  rw[F]
  rw[pE]at a
  split at a
  ·rename_i rV ce
   have qc:jO[f]? =some rV:=by rw[<-ce];simp
   obtain⟨R,U⟩:=Hh (Q:=Q) (w:=w) g a
   refine⟨?_,U⟩
   simp[Instr.field,run_underlying bc,qc,asAgg,aN,R]
  ·simp at a
 ·simp at a
def arl{t:Nat}{x:Operand}{aw:Operand->Value}{ez:Operand->Option H}{v:H}(cx:i7 Q ae aw ez [x])
 (a:Jl C t x h ez=some v):(Instr.makeInterface t (aw x)).run C.P w= .ok (aN Q v) w/\ch ae v:=by
 unfold Jl at a
 split at a
 ·simp at a
 ·rename_i d ad aK bc ag
  obtain⟨F,g⟩:=cx x Zs _ ag
  simp at a;subst a
  refine⟨?_,g⟩
  rw[F]
  cases d<;>first|exact(aK _ rfl).elim|simp[Instr.makeInterface,run_underlying bc,aN]
 ·simp at a
def arh{x:Operand}{t t2:Nat}{ok:Bool}{aw:Operand->Value}{ez:Operand->Option H}{v:H}(cx:i7 Q ae aw ez [x])
 (a:Ji C x t2 ok h ez=some v):(Instr.typeAssert (aw x) t t2 ok).run C.P w= .ok (aN Q v) w/\ch ae v:=by
 unfold Ji at a
 split at a
 ·simp at a
 ·rename_i d aK bc ag
  obtain⟨F,g⟩:=cx x Zs _ ag
  rw[F]
  simp only[eY]at a
  obtain⟨rfl,a⟩:=a
  split at a
  ·rename_i br ct
   simp at a;subst a
   obtain⟨fW,fw⟩:=DT ct Q ae w
   refine⟨?_,fw,trivial,trivial⟩
   cases d<;>first|exact(aK _ rfl).elim|simp[Instr.typeAssert,run_underlying bc,aN,bX,fW]
  ·simp at a
 ·rename_i d hb ad aK bc ag
  obtain⟨F,g⟩:=cx x Zs _ ag
  rw[F]
  rw[hB]at a
  split at a
  ·rename_i bt
   subst bt
   simp at a
   cases ok
   ·simp at a;subst a
    refine⟨?_,g⟩
    cases d<;>first|exact(aK _ rfl).elim|simp[Instr.typeAssert,run_underlying bc,aN]
   ·simp at a;subst a
    refine⟨?_,g,trivial,trivial⟩
    cases d<;>first|exact(aK _ rfl).elim|simp[Instr.typeAssert,run_underlying bc,aN,bX]
  ·rename_i bt
   simp only[eY]at a
   obtain⟨rfl,a⟩:=a
   split at a
   ·rename_i br ct
    simp at a;subst a
    obtain⟨fW,fw⟩:=DT ct Q ae w
    refine⟨?_,fw,trivial,trivial⟩
    cases d<;>first|exact(aK _ rfl).elim|simp[Instr.typeAssert,run_underlying bc,aN,bX,fW,bt]
   ·simp at a
 ·simp at a
def aiR(Z:de C Q ae h j bi w){t:Nat}{dg:Array TypeId}{ty:TypeId}{x v:H}{rest:List TypeId}(aC:dg.toList=t::rest)(fx:ch ae x)(a:KD C h t x=some v):
 (Builtin.len_ dg ty #[aN Q x]).run C.P w= .ok (aN Q v) w/\ch ae v:=by
 have ur:dg[0]? =some t:=by rw[<-ZL,aC];rfl
 unfold KD at a
 split at a<;>(try simp only[abG]at a)
 ·rename_i s bc
  simp at a;subst a
  refine⟨?_,trivial⟩
  have aI:(fX s).size=s.length:=by simp[fX,ByteArray.size]
  simp[Builtin.len_,ur,run_underlying bc,aN,goInt,aI]
 ·rename_i n s1 bc
  simp at a;subst a
  refine⟨?_,trivial⟩
  simp[Builtin.len_,ur,run_underlying bc,goInt]
  simp[aN]
 ·rename_i cn bc
  split at a
  ·rename_i n s1 Rq
   simp at a;subst a
   refine⟨?_,trivial⟩
   simp[Builtin.len_,ur,run_underlying bc,run_underlying Rq,goInt]
   simp[aN]
  ·simp at a
 ·rename_i bc
  simp at a;subst a
  refine⟨?_,trivial⟩
  simp[Builtin.len_,ur,run_underlying bc,aN,goInt]
 ·rename_i bc
  simp at a;subst a
  refine⟨?_,trivial⟩
  simp[Builtin.len_,ur,run_underlying bc,aN,goInt]
 ·rename_i bc
  simp at a;subst a
  refine⟨?_,trivial⟩
  simp[Builtin.len_,ur,run_underlying bc,aN,goInt]
 ·rename_i bc
  simp at a;subst a
  refine⟨?_,trivial⟩
  simp[Builtin.len_,ur,run_underlying bc,aN,goInt]
 ·rename_i r bc
  split at a
  ·rename_i bF e6 bf
   simp at a;subst a
   obtain⟨cn,R,U,ar,aO⟩:=Js Z fx bf
   refine⟨?_,trivial⟩
   have:cn.size=bF.length:=by rw[<-Array.length_toList,ar,Zp]
   simp[Builtin.len_,ur,run_underlying bc,aN,goInt,R,this]
  ·simp at a
 ·simp at a
def aiK{t:Nat}{dg:Array TypeId}{ty:TypeId}{x v:H}{rest:List TypeId}(aC:dg.toList=t::rest)(a:KA C t x=some v):
 (Builtin.cap_ dg ty #[aN Q x]).run C.P w= .ok (aN Q v) w/\ch ae v:=by
 have ur:dg[0]? =some t:=by rw[<-ZL,aC];rfl
 unfold KA at a
 split at a<;>(try simp only[abG]at a)
 ·rename_i bc
  simp at a;subst a
  refine⟨?_,trivial⟩
  simp[Builtin.cap_,ur,run_underlying bc,aN,goInt]
 ·rename_i bc
  simp at a;subst a
  refine⟨?_,trivial⟩
  simp[Builtin.cap_,ur,run_underlying bc,aN,goInt]
 ·simp at a
def aiV:∀(l:List H) (x v:H),nf true x l=some v->((bX Q l).foldlM Builtin.max2 (aN Q x)).run C.P w= .ok (aN Q v) w/\(ch ae x->ch ae v):=by
 intro l
 induction l with
 |nil=>intro x v a;cases x<;>simp[nf]at a<;>subst a<;>simp[bX]
 |cons e l al=>
  intro x v a
  unfold nf at a
  split at a
  ·rename_i cj;simp at cj
  ·rename_i D J e1 b b5 eX
   simp only[YD]at eX
   obtain⟨rfl,rfl⟩:=eX
   obtain⟨R,U⟩:=al _ _ a
   refine⟨?_,λ_=>U trivial⟩
   simp only[bX,List.foldlM_cons,Sem.run_bind,aN,Builtin.max2,Sem.run_pure,Result.andThen_ok]
   simp only[e2,sj,fo,Zg,aN]at R
   exact R
  ·simp at a
def aiW:∀(l:List H) (x v:H),nf false x l=some v->((bX Q l).foldlM Builtin.min2 (aN Q x)).run C.P w= .ok (aN Q v) w/\(ch ae x->ch ae v):=by
 intro l
 induction l with
 |nil=>intro x v a;cases x<;>simp[nf]at a<;>subst a<;>simp[bX]
 |cons e l al=>
  intro x v a
  unfold nf at a
  split at a
  ·rename_i cj;simp at cj
  ·rename_i D J e1 b b5 eX
   simp only[YD]at eX
   obtain⟨rfl,rfl⟩:=eX
   obtain⟨R,U⟩:=al _ _ a
   refine⟨?_,λ_=>U trivial⟩
   simp only[bX,List.foldlM_cons,Sem.run_bind,aN,Builtin.min2,Sem.run_pure,Result.andThen_ok]
   simp only[jK,sj,fo,Zg,aN]at R
   exact R
  ·simp at a
end
end Go.bg

namespace Go.bg
open Go.RowKit (Below)
section
variable{C:aW}{Q:c6}{ae:Nat->Prop}{h:S ak}{j bi:Nat}{w:World}
def i7.mono{aw:Operand->Value}{ez:Operand->Option H}{l b5:List Operand}(a:i7 Q ae aw ez l)(aI:∀x∈b5,x∈l):i7 Q ae aw ez b5:=λx ag v bA=>a x (aI x ag) v bA
def Pq{aw:Operand->Value}{ez:Operand->Option H}{W:Option Operand}{r:Option H}(cx:i7 Q ae aw ez W.toList)(a:BC ez W=some r):W.map aw=r.map (aN Q):=by
 cases W with
 |none=>simp[BC]at a;subst a;rfl
 |some x=>
  simp only[BC]at a
  split at a
  ·rename_i v bA
   simp at a;subst a
   simp[(cx x Zs v bA).1]
  ·simp at a
def aiS(Z:de C Q ae h j bi w){oper:Oper}{aw:Operand->Value}{ez:Operand->Option H}{v:H}(cx:i7 Q ae aw ez oper.op.operands.toList)
 (a:nH oper.op C h ez=some v):Ko Q ae C.P w (execOp aw oper) v:=by
 obtain⟨dst,op,type,pos,after,guard⟩:=oper
 cases op<;>simp only[nH]at a<;>(try(cases a;done))<;>simp only[execOp]<;>simp only[Op.operands]at cx
 case build t jU=>
  refine nJ ?_
  unfold RK at a
  split at a
  ·rename_i dl Q9
   obtain⟨R,U⟩:=WZ (by simpa using cx) Q9
   have:=aiJ (Q:=Q) (w:=w) U a
   rw[<-R]at this
   have F:(jU.map λx=>(x.1,aw x.2))=(jU.toList.map λx=>(x.1,aw x.2)).toArray:=by apply YT;simp
   rw[F];exact this
  ·simp at a
 case binOp op t x e GX=>exact nJ (ari Z (by simpa using cx) a)
 case unOp op t x=>
  refine nJ ?_
  unfold RS at a
  split at a
  ·rename_i J aC
   rw[(cx x Zs J aC).1]
   exact ai1 a
  ·simp at a
 case convert s d x=>exact nJ (arj Z (by simpa using cx) a)
 case makeInterface t x=>exact nJ (arl (by simpa using cx) a)
 case makeFunc fn first fH=>
  refine nJ ?_
  unfold RO at a
  split at a
  ·rename_i J b aC ai
   split at a
   ·simp at a;subst a
    obtain⟨bd,cg⟩:=wk (cx.mono (by simp;intro x ag;exact .inl ag)) aC
    obtain⟨cZ,dO⟩:=wk (cx.mono (by simp;intro x ag;exact .inr ag)) ai
    refine⟨?_,trivial,cg,dO⟩
    simp[Instr.makeFunc,bd,cZ,aN,mS]
   ·simp at a
  ·simp at a
 case slice t x bT aM gN=>
  refine nJ ?_
  unfold RR at a
  split at a
  ·rename_i J l cD m aC aB gb bp
   have R:=cx x Zs J aC
   have U:=Pq (cx.mono (by simp;intro x ag;exact .inr (.inl ag))) aB
   have ar:=Pq (cx.mono (by simp;intro x ag;exact .inr (.inr (.inl ag)))) gb
   have aO:=Pq (cx.mono (by simp;intro x ag;exact .inr (.inr (.inr ag)))) bp
   rw[R.1,U,ar,aO]
   exact aiY Z R.2 a
  ·simp at a
 case field t x f=>exact nJ (ark (by simpa using cx) a)
 case index t x i=>
  refine nJ ?_
  unfold RP at a
  split at a
  ·rename_i J b aC ai
   have R:=cx x Zs J aC
   rw[R.1,(cx i Zs b ai).1]
   exact aiP R.2 a
  ·simp at a
 case lookup t m D ok=>
  refine nJ ?_
  unfold RQ at a
  split at a
  ·rename_i J b aC ai
   have R:=cx m Zs J aC
   have U:=cx D Zs b ai
   rw[R.1,U.1]
   exact aiT Z R.2 U.2 a
  ·simp at a
 case typeAssert x t t2 ok=>exact nJ (arh (by simpa using cx) a)
 case call c=>
  unfold RM at a
  split at a
  ·rename_i b args dg
   simp only[Call.operands]at cx
   have ML:i7 Q ae aw ez args.toList:=cx.mono Zs
   unfold RL at a
   split at a
   ·rename_i x ag
    obtain⟨bd,cg⟩:=wk ML ag
    split at a
    ·rename_i t rest aC
     obtain⟨R,U⟩:=aiR (ty:=type) Z aC cg.1 a
     refine⟨?_,U⟩
     simp[resolve,invoke,builtin,bd,bX,R]
    ·simp at a
   ·rename_i x ag
    obtain⟨bd,cg⟩:=wk ML ag
    split at a
    ·rename_i t rest aC
     obtain⟨R,U⟩:=aiK (Q:=Q) (ae:=ae) (w:=w) (ty:=type) aC a
     refine⟨?_,U⟩
     simp[resolve,invoke,builtin,bd,bX,R]
    ·simp at a
   ·rename_i x l ag
    obtain⟨bd,cg⟩:=wk ML ag
    obtain⟨R,U⟩:=aiV (C:=C) (Q:=Q) (ae:=ae) (w:=w) l x v a
    refine⟨?_,U cg.1⟩
    simp[resolve,invoke,builtin,Builtin.max_,bd,bX,R]
   ·rename_i x l ag
    obtain⟨bd,cg⟩:=wk ML ag
    obtain⟨R,U⟩:=aiW (C:=C) (Q:=Q) (ae:=ae) (w:=w) l x v a
    refine⟨?_,U cg.1⟩
    simp[resolve,invoke,builtin,Builtin.min_,bd,bX,R]
   ·simp at a
  ·simp at a
def ach(Z:de C Q ae h j bi w){oper:Oper}{aw:Operand->Value}{ej:List (Nat×Nat)}{au:List (Nat×H)}{K:S H}{c:jF}{v:H}
 (cx:i7 Q ae aw (iT ej au K) oper.op.operands.toList)(az:lB C ej oper.op=some c)(a:gJ c C h au K=some v):Ko Q ae C.P w (execOp aw oper) v:=by
 have rest:∀W,oper.op=W->c= .hX ej W->Ko Q ae C.P w (execOp aw oper) v:=by
  intro W bf CK
  subst CK;subst bf
  exact aiS Z cx a
 obtain⟨dst,op,type,pos,after,guard⟩:=oper
 cases op<;>simp only[lB]at az<;>simp only[Op.operands]at cx
 case move x=>
  split at az
  ·rename_i iE ag
   simp at az;subst az
   simp only[gJ,nh ag]at a
   obtain⟨R,U⟩:=cx x Zs v a
   exact⟨by simp[execOp,R],U⟩
  ·simp at az
 case assign x=>
  split at az
  ·rename_i iE ag
   simp at az;subst az
   simp only[gJ,nh ag]at a
   obtain⟨R,U⟩:=cx x Zs v a
   exact⟨by simp[execOp,R],U⟩
  ·simp at az
 case pick fZ J b=>
  split at az
  ·rename_i awR fR dR LV aC ai
   simp at az;subst az
   simp only[gJ,nh LV]at a
   split at a
   ·rename_i ad bc
    obtain⟨R,U⟩:=cx fZ Zs ad bc
    unfold N5 at a
    split at a
    ·rename_i t
     rw[nh aC,nh ai]at a
     simp only[execOp,R,aN]
     cases t
     ·obtain⟨ar,aO⟩:=cx b Zs v (by simpa using a)
      exact⟨by simp[asBool,ar],aO⟩
     ·obtain⟨ar,aO⟩:=cx J Zs v (by simpa using a)
      exact⟨by simp[asBool,ar],aO⟩
    ·simp at a
   ·simp at a
  ·simp at az
 case load t J=>
  split at az
  ·rename_i fR s aC R U
   simp at az;subst az
   simp only[gJ,nh aC]at a
   split at a
   ·rename_i ad bc
    obtain⟨ar,aO⟩:=cx J Zs ad bc
    simp only[execOp,ar]
    exact nJ (VH Z R U aO a)
   ·simp at a
  ·rename_i fR aC R
   simp at az;subst az
   simp only[gJ,nh aC]at a
   split at a
   ·rename_i ad bc
    obtain⟨ar,aO⟩:=cx J Zs ad bc
    simp only[execOp,ar]
    exact nJ (VG Z R aO a)
   ·simp at a
  ·simp at az
 case fieldAddr s x f=>
  split at az
  ·rename_i jO iE bc ag
   rw[pE]at az
   split at az
   ·rename_i rV ce
    split at az
    ·rename_i br ct
     simp only[EK]at az
     obtain⟨ln,az⟩:=az
     simp at az;subst az
     simp only[gJ,nh ag]at a
     split at a
     ·rename_i ad to
      obtain⟨ar,aO⟩:=cx x Zs ad to
      simp only[execOp,ar]
      exact nJ (alw bc ce ct (by intro F;subst F;simp at ln) aO a)
     ·simp at a
    ·simp at az
   ·simp at az
  ·simp at az
 case indexAddr t x i=>
  split at az
  ·rename_i n eg iE cy bc ag aM
   split at az
   ·rename_i bl ct
    simp at az;subst az
    simp only[gJ,nh ag,nh aM]at a
    split at a
    ·rename_i ad to
     split at a
     ·rename_i Y bH
      split at a
      ·rename_i aS aK
       obtain⟨D,rfl⟩:=Dw aK
       obtain⟨ar,aO⟩:=cx x Zs ad to
       obtain⟨bN,cv⟩:=cx i Zs _ bH
       simp only[execOp,ar,bN,aN]
       exact nJ (aqE bc ct aO a)
      ·simp at a
     ·simp at a
    ·simp at a
   ·simp at az
  ·rename_i eg iE cy bc ag aM
   split at az
   ·rename_i bl ct
    simp at az;subst az
    simp only[gJ,nh ag,nh aM]at a
    split at a
    ·rename_i ad to
     split at a
     ·rename_i Y bH
      split at a
      ·rename_i aS aK
       obtain⟨D,rfl⟩:=Dw aK
       obtain⟨ar,aO⟩:=cx x Zs ad to
       obtain⟨bN,cv⟩:=cx i Zs _ bH
       simp only[execOp,ar,bN,aN]
       exact nJ (aqH bc ct aO a)
      ·simp at a
     ·simp at a
    ·simp at a
   ·simp at az
  ·simp at az
 case nilCheck x=>
  split at az
  ·rename_i iE ag
   simp at az;subst az
   simp only[gJ,nh ag]at a
   split at a
   ·rename_i ad bc
    obtain⟨ar,aO⟩:=cx x Zs ad bc
    obtain⟨rfl,bN⟩:=awB (C:=C) (Q:=Q) (w:=w) aO a
    exact⟨bN _ aw x rfl ar,aO⟩
   ·simp at a
  ·simp at az
 case binOp op t x e GX=>
  rw[fo]at az
  split at az
  ·split at az
   ·rename_i iE aza ag I
    simp at az;subst az
    simp only[gJ,nh ag,nh I]at a
    split at a
    ·rename_i J aC
     split at a
     ·rename_i b ai
      obtain⟨R,U⟩:=cx x Zs J aC
      obtain⟨ar,aO⟩:=cx e Zs b ai
      obtain⟨bN,cv,D,i,e1,Y,rfl,rfl⟩:=VE (C:=C) (Q:=Q) (ae:=ae) (w:=w) t a
      simp only[execOp,R,ar]
      refine nJ ⟨?_,cv⟩
      rw[Sem.run_bind,K9 (by simp[ET])]
      exact bN
     ·simp at a
    ·simp at a
   ·simp at az
  ·simp at az;exact rest _ rfl az.symm
 case extract x i=>
  split at az
  ·rename_i iE ag
   simp at az;subst az
   simp only[gJ,nh ag]at a
   split at a
   ·rename_i ad bc
    obtain⟨ar,aO⟩:=cx x Zs ad bc
    simp only[execOp,ar]
    exact nJ (awA aO a)
   ·simp at a
  ·simp at az
 case convert s d x=>
  rw[fo]at az
  split at az
  ·simp at az;subst az;simp[gJ]at a
  ·simp at az;exact rest _ rfl az.symm
 case store t J x=>
  split at az
  ·simp at az;subst az;simp[gJ]at a
  ·simp at az
 case makeMap t r=>cases r<;>simp[lB]at az<;>subst az<;>simp[gJ]at a
 case call sW=>
  obtain⟨callee,args,dg⟩:=sW
  cases callee with
  |builtin b=>
   cases b<;>simp[lB]at az<;>first
    |exact rest _ rfl az.symm
    |(subst az;simp[gJ]at a)
  |value f=>
   cases f<;>simp[lB]at az
   all_goals first
    |(subst az;simp[gJ]at a;done)
    |(
      split at az
      ·simp at az;subst az;simp[gJ]at a
      ·simp at az)
  |invoke r m=>simp[lB]at az;subst az;simp[gJ]at a
 all_goals(simp at az;first|exact rest _ rfl az.symm|(subst az;simp[gJ]at a))
end
end Go.bg

namespace Go.bg
open Go.RowKit (Below)
def fT{C:aW}{h:S ak}{b:Nat}(W:Option ak)(ai:C.a7<=b)(x:Nat):aa C (bm C h b W) x=if x=b then W else aa C h x:=by
 unfold aa bm
 rw[fo,fo]
 by_cases ag:Nat.blt x C.a7=true
 ·have:=lh ag
  rw[Zq ag,Zq ag,Zh Zo]
 ·have qj:C.a7<=x:=by
   rcases Y8 x C.a7 with a|a
   ·exact absurd (by simp[Nat.blt];omega) ag
   ·exact a
  rw[Zh ag,Zh ag,S.j1]
  show(if b-C.a7=x-C.a7 then W else h.get (x-C.a7))=_
  by_cases F:x=b
  ·rw[Zq Zo,Zq F]
  ·rw[Zh Zo,Zh F];rfl
def aaq{C:aW}:∀(l:List Nat) (h:S ak) (x:Nat),(∀b∈l,C.a7<=b)->aa C (pD C l h) x=if x∈l then none else aa C h x:=by
 intro l
 induction l with
 |nil=>intro h x _;simp[pD]
 |cons b l al=>
  intro h x a
  simp only[pD]
  rw[al _ _ (λc az=>a c (by simp[az])),fT _ (a b Zs)]
  by_cases ag:x∈l
  ·simp[ag]
  ·by_cases F:x=b
   ·simp[F]
   ·simp[ag,F]
def gk(Q:c6)(b:Nat)(pl:mj):c6:=λx=>if x=b then pl else Q x
def add(ae:Nat->Prop)(b:Nat):Nat->Prop:=λx=>ae x\/x=b
structure iq(C:aW)(cX:Nat)(Q:c6)(ae:Nat->Prop)(h:S ak)(bi:Nat)(w:World)(c9:c6)(du:Nat->Prop)(T:S ak)(bV:World):Prop where
 iD:∀b,ae b->c9 b=Q b
 ju:∀b,ae b->du b
 new:∀b,du b->ae b\/cX<=b
 ac:∀b,¬ae b->b<cX->aa C T b=aa C h b
 below:Below bi w bV
def iq.refl{C:aW}{cX:Nat}{Q:c6}{ae:Nat->Prop}{h:S ak}{bi:Nat}{w:World}:iq C cX Q ae h bi w Q ae h w:=
 ⟨λ_ _=>rfl,λ_ a=>a,λ_ a=> .inl a,λ_ _ _=>rfl, .refl _ _⟩
def iq.trans{C:aW}{cX Jo:Nat}{Q c9 aeB:c6}{ae du To:Nat->Prop}{h T Vt:S ak}{bi:Nat}{w bV aem:World}(a:iq C cX Q ae h bi w c9 du T bV)(aB:cX<=Jo)
 (D:iq C Jo c9 du T bi bV aeB To Vt aem):iq C cX Q ae h bi w aeB To Vt aem:=
 ⟨λb ai=>(D.iD b (a.ju b ai)).trans (a.iD b ai),λb ai=>D.ju b (a.ju b ai),
  λb ai=>(D.new b ai).elim (λai=>a.new b ai) (λai=> .inr Zo),
  λb ai hh=>by
   have aK:¬du b:=λaH=>(a.new b aH).elim ai (λan=>Zo)
   rw[D.ac b aK Zo,a.ac b ai hh],
  a.below.trans D.below⟩
section
variable{C:aW}{Q c9:c6}{ae du:Nat->Prop}{h T:S ak}{j ao bi:Nat}{w bV:World}
def pX(dF:∀b,ae b->c9 b=Q b){v:H}(g:ch ae v):aN c9 v=aN Q v:=O3 dF v g
def xP(dF:∀b,ae b->c9 b=Q b){l:List H}(g:ew ae l):bX c9 l=bX Q l:=EL dF l g
def ja.ac{n aq:Nat}{K:S H}{tmps:Array Value}(dF:∀b,ae b->c9 b=Q b)(gy:∀b,ae b->du b)(a:ja Q ae n aq K tmps):ja c9 du n aq K tmps:=
 ⟨a.size,λt v aB bA=>by
  obtain⟨R,U⟩:=a.val t v aB bA
  exact⟨by rw[R,pX dF U],oC gy v U⟩⟩
def OW(dF:∀b,ae b->c9 b=Q b){d:hy}(g:wD ae d):lA c9 d=lA Q d:=by
 obtain⟨t,cp⟩:=d
 obtain⟨b3,b2⟩:=g
 simp only[lA,xP dF b2]
 congr 1
 cases t with
 |fn fn cs=>
  obtain⟨R,U⟩:=b3
  have F:mS c9 fn=mS Q fn:=by
   cases fn<;>simp only[mS]
   rw[dF _ R]
  simp only[Cc,F,xP dF U]
 |collected r=>simp only[Cc,dF r b3]
def Xy(gy:∀b,ae b->du b){d:hy}(g:wD ae d):wD du d:=by
 obtain⟨t,cp⟩:=d
 refine⟨?_,qY gy _ g.2⟩
 cases t with
 |fn fn cs=>exact⟨by cases fn<;>first|exact gy _ g.1.1|exact g.1.1,qY gy _ g.1.2⟩
 |collected r=>exact gy _ g.1
def jG.ac{W:ak}{pl:mj}(dF:∀b,ae b->c9 b=Q b)(gy:∀b,ae b->du b)(bP:bV.heap[pl.cE]? =w.heap[pl.cE]?)(a:jG C Q ae W pl w):jG C c9 du W pl bV:=by
 cases W with
 |cells c n st=>
  obtain⟨cn,ty,bT,aM,R,U,ar,aO⟩:=a
  refine⟨cn,ty,bT,aM,by rw[bP,R],U,ar,λi v bA=> ?_⟩
  obtain⟨bN,cv⟩:=aO i v bA
  exact⟨by rw[bN,pX dF cv],oC gy v cv⟩
 |map bF e6=>
  obtain⟨cn,R,U,ar⟩:=a
  refine⟨cn,by rw[bP,R], ?_,λF bt=>⟨oC gy _ (ar F bt).1,oC gy _ (ar F bt).2⟩⟩
  rw[U]
  apply Yy
  intro F bt
  simp only[lF,pX dF (ar F bt).1,pX dF (ar F bt).2]
 |look bF=>
  obtain⟨cn,e6,jN,R,U,aO,ar⟩:=a
  refine⟨cn,e6,jN,by rw[bP,R], ?_,aO,λF bt=>⟨oC gy _ (ar F bt).1,oC gy _ (ar F bt).2⟩⟩
  rw[U]
  apply Yy
  intro F bt
  simp only[lF,pX dF (ar F bt).1,pX dF (ar F bt).2]
 |od s pos=>exact⟨a.1,by rw[bP,a.2.1],a.2.2⟩
 |yJ m vy seen st=>
  obtain⟨cj,R,U⟩:=a
  refine⟨cj, ?_,λb ai=>gy b (U b ai)⟩
  rw[bP,R]
  cases m with
  |none=>rfl
  |some m=>simp only[ZS,dF m (U m rfl)]
 |Gc m vy n cL st ng=>
  obtain⟨cj,R,seen,U,ar⟩:=a
  exact⟨cj,gy m R,seen,by rw[bP,U,dF m R],ar⟩
 |loop state pending fn n aq K params assign body bb=>
  obtain⟨tmps,R,U,ar,aO⟩:=a
  exact⟨tmps,by rw[bP,R,dF bb ar],U.ac dF gy,gy _ ar,aO⟩
 |deferred pp=>
  obtain⟨R,U⟩:=a
  refine⟨?_,λl aB d aH=>Xy gy (U l aB d aH)⟩
  rw[bP,R]
  cases pp with
  |none=>rfl
  |some l=>
   simp only[ZS]
   congr 3
   exact Yy λd aH=>(OW dF (U l rfl d aH)).symm
def jG.lt{W:ak}{pl:mj}(a:jG C Q ae W pl w):pl.cE<w.heap.size:=by
 have:∃x,w.heap[pl.cE]? =some x:=by
  cases W with
  |cells c n st=>obtain⟨cn,ty,bT,aM,R,_⟩:=a;exact⟨_,R⟩
  |map bF e6=>obtain⟨cn,R,_⟩:=a;exact⟨_,R⟩
  |look bF=>obtain⟨cn,e6,jN,R,_⟩:=a;exact⟨_,R⟩
  |od s pos=>exact⟨_,a.2.1⟩
  |yJ m vy seen st=>exact⟨_,a.2.1⟩
  |Gc m vy n cL st ng=>obtain⟨_,_,seen,R,_⟩:=a;exact⟨_,R⟩
  |loop state pending fn n aq K params assign body bb=>obtain⟨tmps,R,_⟩:=a;exact⟨_,R⟩
  |deferred pp=>exact⟨_,a.1⟩
 obtain⟨x,ag⟩:=this
 exact(ZJ.1 ag).1
def de.alloc(Z:de C Q ae h j bi w){b:Nat}{pl:mj}{cR:ak}{W:Obj}(ai:C.a7<=b)(c2:b<ao)(ao4:j<=ao)(aK:¬ae b)(ek:bi<=w.heap.size)(sa:pl.cE=w.heap.size)
 (hS:aa C T b=some cR)(CH:∀x,x≠b->aa C T x=aa C h x\/aa C T x=none)(bf:jG C (gk Q b pl) (add ae b) cR pl (w.alloc W))(q8:tS C (add ae b) cR):
 de C (gk Q b pl) (add ae b) T ao bi (w.alloc W):=by
 have dF:∀x,ae x->gk Q b pl x=Q x:=λx ag=>by
  unfold gk;rw[Zh];intro F;subst F;exact aK ag
 have jQ:gk Q b pl b=pl:=by unfold gk;rw[Zq rfl]
 have Q3:∀D,D<w.heap.size->(w.alloc W).heap[D]? =w.heap[D]? :=λD aF=>Below.heap_alloc _ _ _ aF
 have key:∀x dh,aa C T x=some dh->add ae b x->x≠b->aa C h x=some dh/\ae x/\(Q x).cE<w.heap.size:=by
  intro x dh ag aH dI
  have r3:ae x:=aH.resolve_right dI
  rcases CH x dI with a|a
  ·have:aa C h x=some dh:=by rw[<-a,ag]
   exact⟨this,r3,(Z.obj x dh this r3).lt⟩
  ·rw[a]at ag;cases ag
 refine⟨ZA Z.a7 ao4, ?_, ?_, ?_, ?_, ?_, ?_⟩
 ·intro x ag
  rcases ag with ag|ag
  ·have:=Z.lt x ag;omega
  ·omega
 ·intro x dh ag
  by_cases F:x=b
  ·omega
  ·rcases CH x F with a|a
   ·have:=Z.vn x dh (by rw[<-a,ag]);omega
   ·rw[a]at ag;cases ag
 ·intro x dh ag aH
  by_cases F:x=b
  ·subst F
   rw[hS]at ag;cases ag
   rw[jQ];exact bf
  ·obtain⟨R,U,ar⟩:=key x dh ag aH F
   rw[dF x U]
   exact(Z.obj x dh R U).ac dF (λ_ a=> .inl a) (Q3 _ ar)
 ·intro x e dh pI ag I dq ow dI lO eX
  by_cases F:x=b
  ·subst F
   by_cases cF:e=x
   ·exact absurd cF.symm dI
   ·obtain⟨R,U,ar⟩:=key e pI I ow cF
    rw[jQ,dF e U]at eX
    omega
  ·obtain⟨R,U,ar⟩:=key x dh ag dq F
   by_cases cF:e=b
   ·subst cF
    rw[jQ,dF x U]at eX
    omega
   ·obtain⟨aO,bN,cv⟩:=key e pI I ow cF
    rw[dF x U,dF e bN]at eX ⊢
    exact Z.sep x e dh pI R aO U bN dI lO eX
 ·intro x dh lO ag aH
  by_cases F:x=b
  ·subst F;rw[jQ];omega
  ·obtain⟨R,U,ar⟩:=key x dh ag aH F
   rw[dF x U]
   exact Z.base x dh lO R U
 ·intro x dh ag aH
  by_cases F:x=b
  ·subst F;rw[hS]at ag;cases ag;exact q8
  ·obtain⟨R,U,ar⟩:=key x dh ag aH F
   refine⟨λc n l aB e I=> ?_,(Z.fk x dh R U).2⟩
   obtain⟨b3,b2⟩:=(Z.fk x dh R U).1 c n l aB e I
   exact⟨.inl b3,b2⟩
def de.W5(Z:de C Q ae h j bi w)(hS:∀x,aa C T x=aa C h x\/aa C T x=none):de C Q ae T j bi w:=by
 have key:∀x dh,aa C T x=some dh->aa C h x=some dh:=by
  intro x dh ag
  rcases hS x with a|a
  ·rw[<-a,ag]
  ·rw[a]at ag;cases ag
 exact⟨Z.a7,Z.lt,λx dh ag=>Z.vn x dh (key x dh ag),λx dh ag aH=>Z.obj x dh (key x dh ag) aH,
  λx e dh pI ag I dq ow dI lO eX=>Z.sep x e dh pI (key x dh ag) (key e pI I) dq ow dI lO eX,λx dh lO ag aH=>Z.base x dh lO (key x dh ag) aH,λx dh ag aH=>Z.fk x dh (key x dh ag) aH⟩
def de.put(Z:de C Q ae h j bi w){b:Nat}{cR mc:ak}(ai:C.a7<=b)(aH:ae b)(g8:aa C h b=some cR)(hS:aa C T b=some mc)
 (CH:∀x,x≠b->aa C T x=aa C h x\/aa C T x=none)(bP:∀D,D≠(Q b).cE->bV.heap[D]? =w.heap[D]?)
 (lN:∀x dh,x≠b->aa C T x=some dh->ae x->(Q x).cE=(Q b).cE->False)(bf:jG C Q ae mc (Q b) bV)(q8:tS C ae mc):de C Q ae T j bi bV:=by
 have key:∀x dh,x≠b->aa C T x=some dh->aa C h x=some dh:=by
  intro x dh dI ag
  rcases CH x dI with a|a
  ·rw[<-a,ag]
  ·rw[a]at ag;cases ag
 refine⟨Z.a7,Z.lt, ?_, ?_, ?_, ?_, ?_⟩
 ·intro x dh ag
  by_cases F:x=b
  ·subst F;exact Z.lt x aH
  ·exact Z.vn x dh (key x dh F ag)
 ·intro x dh ag dq
  by_cases F:x=b
  ·subst F;rw[hS]at ag;cases ag;exact bf
  ·exact(Z.obj x dh (key x dh F ag) dq).ac (λ_ _=>rfl) (λ_ a=>a) (bP _ λan=>lN x dh F ag dq an)
 ·intro x e dh pI ag I dq ow dI lO eX
  by_cases F:x=b
  ·subst F
   exact(lN e pI (λan=>dI an.symm) I ow eX.symm).elim
  ·by_cases cF:e=b
   ·subst cF;exact(lN x dh F ag dq eX).elim
   ·exact Z.sep x e dh pI (key x dh F ag) (key e pI cF I) dq ow dI lO eX
 ·intro x dh lO ag dq
  by_cases F:x=b
  ·subst F;exact Z.base x cR lO g8 aH
  ·exact Z.base x dh lO (key x dh F ag) dq
 ·intro x dh ag dq
  by_cases F:x=b
  ·subst F;rw[hS]at ag;cases ag;exact q8
  ·exact Z.fk x dh (key x dh F ag) dq
def GY(W:ak):Prop:=(∀c n,W≠ .cells c n .jV)/\(∀c n l,W≠ .cells c n (.grow l))
def de.alone(Z:de C Q ae h j bi w){b:Nat}{cR:ak}(ai:C.a7<=b)(aH:ae b)(g8:aa C h b=some cR)(aC:GY cR):
 ∀x dh,x≠b->aa C h x=some dh->ae x->(Q x).cE=(Q b).cE->False:=by
 intro x dh dI ag dq eX
 rcases(Z.sep b x cR dh g8 ag aH dq (λan=>dI an.symm) ai eX.symm).1 with ⟨c,n,_,_,an,_⟩|⟨c,n,l,_,_,an,_⟩|⟨_,_,_,c,n,_,an,_⟩
 ·exact aC.1 _ _ an
 ·exact aC.2 _ _ _ an
 ·exact aC.1 _ _ an
end
end Go.bg

namespace Go.bg
open Go.RowKit (Below)
section
variable{C:aW}{Q c9:c6}{ae du:Nat->Prop}{h T:S ak}{j ao bi:Nat}{w bV:World}
def uz(w:World)(W:Obj):(w.alloc W).heap[w.heap.size]? =some W:=by
 show(w.heap.push W)[w.heap.size]? =_
 simp
def lb(Q:c6)(b:Nat)(pl:mj):gk Q b pl b=pl:=by unfold gk;rw[Zq rfl]
def qB{b:Nat}{pl:mj}(aK:¬ae b):∀x,ae x->gk Q b pl x=Q x:=λx ag=>by
 unfold gk;rw[Zh];intro F;subst F;exact aK ag
def jL(Q:c6)(l:List H):(bX Q l).length=l.length:=by rw[pq,Zp]
def Ar(Q:c6)(l:List H)(i:Nat):(bX Q l)[i]? =(l[i]?).map (aN Q):=by rw[pq,Zx]
def Cg(Q:c6)(J b:List H):bX Q (J++b)=bX Q J++bX Q b:=by simp[pq]
def AE{J b:List H}(aC:ew ae J)(ai:ew ae b):ew ae (J++b):=by
 rw[ul]at*
 intro v bA
 rcases Zz.1 bA with a|a
 ·exact aC v a
 ·exact ai v a
def AF{l:List H}(a:ew ae l){i:Nat}{v:H}(bA:l[i]? =some v):ch ae v:=(ul ae l).1 a v (Zj bA)
def kC(l:List H)(i:Nat):(S.ofList l 0 .nil).get i=l[i]? :=by
 rw[S.Lp]
 split
 ·simp
 ·rename_i a
  have:l.length<=i:=Zo
  rw[Z2 this];rfl
def KO{l:List H}(g:ew ae l)(ty:TypeId)(r:Nat)(w:World):jG C Q ae (.cells (S.ofList l 0 .nil) l.length .own) ⟨w.heap.size,0,r⟩ (w.alloc (.cells (bX Q l).toArray ty)):=by
 refine⟨_,ty,0,0,uz _ _,rfl,by simp[jL],λi v bA=> ?_⟩
 rw[kC]at bA
 refine⟨?_,AF g bA⟩
 simp only[ZM,List.getElem?_toArray,Ar,bA,ZS]
def DR(n:Nat)(br:List H):(kF n br).length=n*br.length:=by
 induction n with
 |zero=>simp[kF]
 |succ n al=>simp[kF,al,Nat.succ_mul,Nat.add_comm]
def at1(br:List H):∀(n i:Nat),i<n*br.length->(kF n br)[i]? =br[i%br.length]? :=by
 intro n
 induction n with
 |zero=>intro i a;omega
 |succ n al=>
  intro i a
  simp only[kF]
  rw[Nat.succ_mul]at a
  by_cases aM:i<br.length
  ·rw[Z3 aM,YA aM]
  ·rw[ZT Zo,al _ Zo]
   congr 1
   exact(Nat.mod_eq_sub_mod Zo).symm
def PR{br:List H}(a:ew ae br):∀n,ew ae (kF n br):=by
 intro n
 induction n with
 |zero=>trivial
 |succ n al=>exact AE a al
def ady(Q:c6)(br:List H)(n:Nat):((Array.range (n*br.length)).map λi=>(bX Q br).toArray[i%br.length]!)=(bX Q (kF n br)).toArray:=by
 apply YT
 rw[Array.toList_map,Array.toList_range]
 show _=bX Q (kF n br)
 apply Y1
 intro i
 rw[Zx,Ar]
 by_cases aM:i<n*br.length
 ·rw[List.getElem?_range aM,at1 br n i aM]
  have ct:0<br.length:=by
   rcases Nat.eq_zero_or_pos br.length with a|a
   ·rw[a]at aM;omega
   ·exact a
  have bp:i%br.length<br.length:=Nat.mod_lt _ ct
  simp only[ZS]
  rw[Ze bp]
  simp only[ZS,Zf]
  rw[getElem!_pos _ _ (by simpa[jL]using bp)]
  simp[pq]
 ·have R:(List.range (n*br.length))[i]? =none:=Z2 (by simp;omega)
  have U:(kF n br)[i]? =none:=Z2 (by rw[DR];omega)
  rw[R,U];rfl
def adz(Q:c6)(br:List H)(s n:Nat)(ct:br.length=s)(zero:Array Value)(cj:n*s≠0->zero=(bX Q br).toArray):
 ((Array.range (n*s)).map (zero[·%zero.size]!))=(bX Q (kF n br)).toArray:=by
 subst ct
 by_cases a:n*br.length=0
 ·have R:kF n br=[]:=List.length_eq_zero_iff.1 (by rw[DR];exact a)
  rw[a,R];simp[bX]
 ·rw[cj a, <-ady]
  simp[jL]
def acr{oper:Oper}{aw:Operand->Value}{ez:Operand->Option H}{b:Nat}{v:H}{cR:ak}(aK:¬ae b)(cx:i7 Q ae aw ez oper.op.operands.toList)
 (a:pU oper.op C ez b=some (v,cR)):∃W,(execOp aw oper).run C.P w= .ok (.value (aN (gk Q b ⟨w.heap.size,0,0⟩) v)) (w.alloc W)/\ch (add ae b) v/\
  jG C (gk Q b ⟨w.heap.size,0,0⟩) (add ae b) cR ⟨w.heap.size,0,0⟩ (w.alloc W):=by
 have dF:=qB (Q:=Q) (pl:=⟨w.heap.size,0,0⟩) aK
 have gy:∀x,ae x->add ae b x:=λ_ a=> .inl a
 obtain⟨dst,op,type,pos,after,guard⟩:=oper
 cases op<;>simp only[pU]at a<;>(try(cases a;done))<;>simp only[execOp]<;>simp only[Op.operands]at cx
 case alloc t=>
  unfold Ds at a
  split at a
  ·rename_i br ct
   simp at a;obtain⟨rfl,rfl⟩:=a
   obtain⟨fW,fw⟩:=DT ct Q ae w
   refine⟨.cells (bX Q br.cells).toArray t, ?_, .inr rfl, ?_⟩
   ·simp[Instr.alloc,fW,newVar,newRow,t8,aN,lb]
   ·have:=KO (C:=C) (Q:=gk Q b ⟨w.heap.size,0,0⟩) (ae:=add ae b) (qY gy _ (ua fw)) t 0 w
    rw[xP dF (ua fw)]at this
    exact this
  ·simp at a
 case box t x=>
  unfold Jp at a
  split at a
  ·rename_i ad bc
   simp at a;obtain⟨rfl,rfl⟩:=a
   obtain⟨R,U⟩:=cx x Zs ad bc
   refine⟨.cells (bX Q ad.cells).toArray t, ?_, .inr rfl, ?_⟩
   ·simp[Instr.box,newVar,newRow,R,t8,aN,lb]
   ·have:=KO (C:=C) (Q:=gk Q b ⟨w.heap.size,0,0⟩) (ae:=add ae b) (qY gy _ (ua U)) t 0 w
    rw[xP dF (ua U)]at this
    exact this
  ·simp at a
 case buildSlice t len jU=>
  unfold Jq at a
  split at a
  ·rename_i eg dl bc Q9
   split at a
   ·rename_i s br aI ct
    simp only[eY,Zn]at a
    obtain⟨⟨R,U⟩,a⟩:=a
    have R:len*s<=16777216:=jb R
    have U:br.cells.length=s:=Zl U
    split at a
    ·rename_i cs hU
     simp at a;obtain⟨rfl,rfl⟩:=a
     obtain⟨fW,fw⟩:=DT ct Q ae w
     obtain⟨fy,hu⟩:=WZ (by simpa using cx) Q9
     obtain⟨eM,e3⟩:=Pt (Q:=Q) (JK:=λi=>some (i*s,s)) (λ_ _ a=>a) dl (kF len br.cells) cs (PR (ua fw) len) hu hU
     refine⟨.cells (bX Q cs).toArray eg, ?_, .inr rfl, ?_⟩
     ·have F:(jU.map λx=>(x.1,aw x.2)).toList=dl.map λx=>(x.1,aN Q x.2):=by rw[<-fy];simp
      have gU:¬(len*s>2^24):=by
       have:(2:Nat)^24=16777216:=by decide
       omega
      have ce:Instr.fill (λi=>some (i*s,s)) ((Array.range (len*s)).map ((if len*s=0 then #[]else(aN Q br).cells)[·%(if len*s=0 then #[]else(aN Q br).cells).size]!)) (jU.map λx=>(x.1,aw x.2)).toList=some (bX Q cs).toArray:=by
       rw[adz Q br.cells s len U _ (λdI=>by rw[Zh dI,t8]),F]
       exact eM
      simp only[Instr.buildSlice,Sem.run_bind,run_underlying bc,Result.andThen_ok,o5 aI]
      rw[Zh gU]
      by_cases cj:len*s=0
      ·rw[Zq cj]at ce
       simp only[Zq cj,Sem.run_bind,Sem.run_pure,Result.andThen_ok,ce]
       simp[newRow,aN,lb]
      ·simp only[Zh cj]at ce
       simp only[Zh cj,Sem.run_bind,Sem.run_pure,Result.andThen_ok,fW,ce]
       simp[newRow,aN,lb]
     ·have:=KO (C:=C) (Q:=gk Q b ⟨w.heap.size,0,0⟩) (ae:=add ae b) (qY gy _ e3) eg 0 w
      rw[xP dF e3]at this
      exact this
    ·simp at a
   ·simp at a
  ·simp at a
 case makeMap t r=>
  cases r with
  |some r=>simp[pU]at a
  |none=>
   simp[pU]at a;obtain⟨rfl,rfl⟩:=a
   refine⟨.map #[] 0, ?_, .inr rfl, ?_⟩
   ·simp[Instr.makeMap,aN,lb]
   ·exact⟨#[],uz _ _,rfl,Zs⟩
end
end Go.bg

namespace Go.bg
open Go.RowKit (Below)
section
variable{C:aW}{Q c9:c6}{ae du:Nat->Prop}{h T:S ak}{j ao bi:Nat}{w bV:World}
def kI:Array Value->Nat->List Value->Array Value
 |c,_,[]=>c
 |c,W,v::l=>kI (c.setIfInBounds W v) (W+1) l
def xk:∀(l:List Value) (c:Array Value) (W:Nat),(kI c W l).size=c.size:=by
 intro l
 induction l with
 |nil=>intro c W;rfl
 |cons v l al=>intro c W;simp[kI,al]
def SN:∀(l:List Value) (c:Array Value) (W i:Nat),W+l.length<=c.size->(kI c W l)[i]? =if W<=i/\i<W+l.length then l[i-W]? else c[i]? :=by
 intro l
 induction l with
 |nil=>intro c W i _;rw[Zh (by simp only[ZO];omega)];rfl
 |cons v l al=>
  intro c W i a
  simp only[ZC]at a
  simp only[kI]
  rw[al _ _ _ (by simp;omega)]
  by_cases F:i=W
  ·subst F
   rw[Zh Zo,Zq Zs]
   have c2:i<c.size:=Zo
   simp[c2]
  ·by_cases an:W+1<=i/\i<W+1+l.length
   ·rw[Zq an,Zq (by simp;omega),show i-W=(i-(W+1))+1 by omega,ZI]
   ·rw[Zh an,Zh (by simp only[ZC];omega),Array.getElem?_setIfInBounds_ne (λa=>F a.symm)]
def SH(P:Program)(g W:Nat)(t:TypeId)(bT aM:Nat):∀(bk:List Value) (i:Nat) (ng:Array Value) (w:World),w.heap[g]? =some (.cells ng t (bT,aM))->(aM<=bT\/ng.size<=bT)->
 W+i+bk.length<=ng.size->(∀v∈bk,v.oneCell'=true)->(storeCells ⟨g,W,none⟩ bk i).run P w= .ok () (w.setRow g (kI ng (W+i) bk)):=by
 intro bk
 induction bk with
 |nil=>
  intro i ng w b0 _ _ _
  simp only[storeCells,kI]
  rw[setRow_self w g ng t _ b0];rfl
 |cons v bk al=>
  intro i ng w b0 ce aB R
  simp only[ZC]at aB
  have c2:W+i<ng.size:=Zo
  have Ii:(⟨g,W,none⟩:Addr).add i=⟨g,W+i,none⟩:=qQ _ _ _
  have r2:w.cell? ⟨g,W+i,none⟩=some ng[W+i]:=by simp[World.cell?,b0,c2]
  have aor:w.frozen? ⟨g,W+i,none⟩=false:=by
   simp only[World.frozen?,b0,YX,Zb]
   omega
  have df:(store ((⟨g,W,none⟩:Addr).add i) v).run P w= .ok () (w.setRow g (ng.setIfInBounds (W+i) v)):=by
   rw[Ii,run_store P w _ v _ (R v Zs),r2]
   simp[aor,setCell_eq_setRow w g (W+i) ng t _ v b0]
  have:=al (i+1) (ng.setIfInBounds (W+i) v) (w.setRow g (ng.setIfInBounds (W+i) v)) (setRow_heap w g ng _ t _ b0) (by simpa using ce) (by simp;omega) (λx ag=>R x (by simp[ag]))
  simp only[storeCells,Sem.run_bind,df,Result.andThen_ok,this,setRow_setRow,kI]
  rfl
def ON{p:Nat}(ek:bi<=p)(cs:Array Value)(w:World):Below bi w (w.setRow p cs):=
 ⟨rfl,rfl,rfl,by simp[World.setRow],λD aF=>setRow_other w p D cs Zo⟩
def acV:∀{bk:List H},jD bk=true->∀v∈bX Q bk,v.oneCell'=true:=by
 intro bk
 induction bk with
 |nil=>intro _ v bA;simp[bX]at bA
 |cons J l al=>
  intro a v bA
  simp only[jD,Zn]at a
  simp only[bX,Zt]at bA
  rcases bA with rfl|bA
  ·cases J<;>simp[pH]at a<;>rfl
  ·exact al a.2 v bA
def aex{c:S H}{cn:Array Value}{ed W n:Nat}{bk:List H}(b0:ew ae bk)(bf:W+bk.length<=n)(aK:ed+n<=cn.size)
 (a:∀i v,c.get i=some v->cn[ed+i]? =some (aN Q v)/\ch ae v):
 ∀i v,(dT c W bk).get i=some v->(kI cn (ed+W) (bX Q bk))[ed+i]? =some (aN Q v)/\ch ae v:=by
 intro i v bA
 rw[Ti,S.Lp]at bA
 rw[SN _ _ _ _ (by rw[jL];omega),jL]
 split at bA
 ·rename_i aM
  rw[Zq Zo,Ar,show ed+i-(ed+W)=i-W by omega,bA]
  exact⟨rfl,AF b0 bA⟩
 ·rename_i aM
  rw[Zh Zo]
  exact a i v bA
def N2{c:S H}{W n:Nat}{bk:List H}(bf:W+bk.length<=n)(a:∀i v,c.get i=some v->i<n):∀i v,(dT c W bk).get i=some v->i<n:=by
 intro i v bA
 rw[Ti,S.Lp]at bA
 split at bA
 ·omega
 ·exact a i v bA
def Gp{l:List H}:∀i v,(S.ofList l 0 .nil).get i=some v->i<l.length:=by
 intro i v bA
 rw[kC]at bA
 exact(Zc.1 bA).1
def OE(Z:de C Q ae h j bi w){cX b W:Nat}{bk:List H}(aH:ae b)(b0:ew ae bk)(a:wi C h b W bk=some T):
 ∃bV,(storeCells ⟨(Q b).cE,(Q b).ed+W,none⟩ (bX Q bk)).run C.P w= .ok () bV/\de C Q ae T j bi bV/\iq C cX Q ae h bi w Q ae T bV:=by
 unfold wi at a
 split at a
 ·rename_i c n st bf
  simp only[eY,Zn]at a
  obtain⟨⟨⟨R,U⟩,ar⟩,a⟩:=a
  have R:W+bk.length<=n:=jb R
  have ai:C.a7<=b:=jb U
  obtain⟨cn,ty,bT,aM,bd,cg,a3,a4⟩:=Z.obj b _ bf aH
  have j6:st≠ .jV:=λF=>(by subst F;simp at a)
  refine⟨w.setRow (Q b).cE (kI cn ((Q b).ed+W) (bX Q bk)), ?_, ?_⟩
  ·exact SH C.P _ _ ty bT aM (bX Q bk) 0 cn w bd (cg.free j6) (by rw[jL];omega) (acV ar)
  have fC:=setRow_heap w (Q b).cE cn (kI cn ((Q b).ed+W) (bX Q bk)) ty (bT,aM) bd
  have AN:=Z.base b _ ai bf aH
  have Ik:Below bi w (w.setRow (Q b).cE (kI cn ((Q b).ed+W) (bX Q bk))):=ON AN _ _
  have aaV:∀D,D≠(Q b).cE->(w.setRow (Q b).cE (kI cn ((Q b).ed+W) (bX Q bk))).heap[D]? =w.heap[D]? :=λD aF=>setRow_other w _ D _ aF
  have fin:∀hY,Em hY n (Q b) cn.size bT aM->jG C Q ae (.cells (dT c W bk) n hY) (Q b) (w.setRow (Q b).cE (kI cn ((Q b).ed+W) (bX Q bk))):=by
   intro hY df
   refine⟨_,ty,bT,aM,fC,by rw[xk];exact df,by rw[xk];exact a3,aex b0 R a3 a4⟩
  have plain:∀hY,GY (.cells c n st)->Em hY n (Q b) cn.size bT aM->(∀l,hY≠ .grow l)->T=bm C h b (some (.cells (dT c W bk) n hY))->
   de C Q ae T j bi (w.setRow (Q b).cE (kI cn ((Q b).ed+W) (bX Q bk)))/\iq C cX Q ae h bi w Q ae T (w.setRow (Q b).cE (kI cn ((Q b).ed+W) (bX Q bk))):=by
   intro hY l2 df IJ hS
   subst hS
   have oL:aa C (bm C h b (some (.cells (dT c W bk) n hY))) b=some (.cells (dT c W bk) n hY):=by rw[fT _ ai,Zq rfl]
   have jA:∀x,x≠b->aa C (bm C h b (some (.cells (dT c W bk) n hY))) x=aa C h x:=λx ag=>by rw[fT _ ai,Zh ag]
   refine⟨Z.put ai aH bf oL (λx ag=> .inl (jA x ag)) aaV ?_ (fin hY df) ⟨λfZ aS l aB=>(by cases aB;exact absurd rfl (IJ _)),λfZ aS au7 aB=>(by cases aB;exact N2 R ((Z.fk b _ bf aH).2 _ _ _ rfl))⟩, ?_⟩
   ·intro x dh dI ag dq eX
    rw[jA x dI]at ag
    exact Z.alone ai aH bf l2 x dh dI ag dq eX
   ·exact⟨λ_ _=>rfl,λ_ a=>a,λ_ a=> .inl a,λx ag _=>jA x (λF=>ag (F▸aH)),Ik⟩
  cases st with
  |own=>
   simp only[he,Zf]at a
   exact plain .own ⟨Zs,Zs⟩ cg Zs a.symm
  |marked=>
   simp only[he,Zf]at a
   exact plain .marked ⟨Zs,Zs⟩ cg Zs a.symm
  |grow fk=>
   simp only[he,Zf]at a
   have q8:=(Z.fk b _ bf aH).1 _ _ _ rfl
   subst a
   have oL:aa C (bm C (pD C fk h) b (some (.cells (dT c W bk) n (.grow [])))) b=some (.cells (dT c W bk) n (.grow [])):=by rw[fT _ ai,Zq rfl]
   have jA:∀x,x≠b->aa C (bm C (pD C fk h) b (some (.cells (dT c W bk) n (.grow [])))) x=if x∈fk then none else aa C h x:=λx ag=>by
    rw[fT _ ai,Zh ag,aaq _ _ _ λe I=>(q8 e I).2]
   refine⟨Z.put ai aH bf oL (λx ag=> ?_) aaV ?_ (fin (.grow []) cg) ⟨λfZ aS l aB=>(by cases aB;simp),λfZ aS au7 aB=>(by cases aB;exact N2 R ((Z.fk b _ bf aH).2 _ _ _ rfl))⟩, ?_⟩
   ·rw[jA x ag];split
    ·exact .inr rfl
    ·exact .inl rfl
   ·intro x dh dI ag dq eX
    rw[jA x dI]at ag
    split at ag
    ·cases ag
    ·rename_i QX
     rcases(Z.sep b x _ dh bf ag aH dq (λan=>dI an.symm) ai eX.symm).1 with ⟨_,_,_,_,an,_⟩|⟨_,_,l,_,_,an,_,aB,_⟩|⟨_,_,_,_,_,_,an,_⟩
     ·cases an
     ·cases an;exact QX aB
     ·cases an
   ·exact⟨λ_ _=>rfl,λ_ a=>a,λ_ a=> .inl a,λx ag _=>by
     rw[jA x (λF=>ag (F▸aH)),Zh (λbp=>ag (q8 x bp).1)],Ik⟩
  |jV=>simp at a
 ·simp at a
end
end Go.bg

namespace Go.bg
open Go.RowKit (Below)
def Ac(C:aW)(Q:c6)(ae:Nat->Prop)(h:S ak)(j bi:Nat)(w:World)(s:Sem Next)(v:H)(T:S ak)(ao:Nat):Prop:=
 ∃c9 du bV n,s.run C.P w= .ok n bV/\(n= .value (aN c9 v)\/(n= .skip/\v=undef))/\ch du v/\de C c9 du T ao bi bV/\iq C j Q ae h bi w c9 du T bV/\j<=ao
section
variable{C:aW}{Q c9:c6}{ae du:Nat->Prop}{h T:S ak}{j ao bi:Nat}{w bV:World}
def putObj(Z:de C Q ae h j bi w){cX b:Nat}{cR mc:ak}{kn o':Obj}(ai:C.a7<=b)(aH:ae b)(g8:aa C h b=some cR)(aC:GY cR)(cj:w.heap[(Q b).cE]? =some kn)
 (Mk:∀c F f,kn≠ .cells c F f)(bf:∀bV:World,bV.heap[(Q b).cE]? =some o'->jG C Q ae mc (Q b) bV)(q8:tS C ae mc):
 ∃bV,(Go.setObj (Q b).cE o').run C.P w= .ok () bV/\de C Q ae (bm C h b (some mc)) j bi bV/\iq C cX Q ae h bi w Q ae (bm C h b (some mc)) bV:=by
 have n3:(Go.setObj (Q b).cE o').run C.P w= .ok () {w with heap:=w.heap.setIfInBounds (Q b).cE o'}:=by
  cases kn<;>first
   |exact absurd rfl (Mk _ _ _)
   |simp[Go.setObj,Sem.run,cj]
 obtain⟨bZ,cw⟩:=MapKept.heap_set (o':=o') cj
 have oL:aa C (bm C h b (some mc)) b=some mc:=by rw[fT _ ai,Zq rfl]
 have jA:∀x,x≠b->aa C (bm C h b (some mc)) x=aa C h x:=λx ag=>by rw[fT _ ai,Zh ag]
 have AN:=Z.base b _ ai g8 aH
 refine⟨_,n3,Z.put ai aH g8 oL (λx ag=> .inl (jA x ag)) (λD aF=>cw D aF) ?_ (bf _ bZ) q8, ?_⟩
 ·intro x dh dI ag dq eX
  rw[jA x dI]at ag
  exact Z.alone ai aH g8 aC x dh dI ag dq eX
 ·exact⟨λ_ _=>rfl,λ_ a=>a,λ_ a=> .inl a,λx ag _=>jA x (λF=>ag (F▸aH)),rfl,rfl,rfl,Zs,λD aF=>cw D Zo⟩
def SO{r:Nat}{W:ak}{v:H}{res:ea}(a:setObj C h j r W v=some res):res= .fv v (bm C h r (some W)) j/\C.a7<=r:=by
 unfold setObj at a
 simp only[he,eY,Zf]at a
 exact⟨a.2.symm,jb a.1⟩
def ado(Z:de C Q ae h j bi w){cX r:Nat}{bF jN:List (H×H×Nat)}{e6 Hu:Nat}{Ew:Array MapEntry}(ai:C.a7<=r)(aH:ae r)(bf:aa C h r=some (.map bF e6))
 (aC:Ew.toList=jN.map (lF Q))(b0:∀F∈jN,ch ae F.1/\ch ae F.2.1):
 ∃bV,(Go.setObj (Q r).cE (.map Ew Hu)).run C.P w= .ok () bV/\de C Q ae (bm C h r (some (.map jN Hu))) j bi bV/\iq C cX Q ae h bi w Q ae (bm C h r (some (.map jN Hu))) bV:=by
 obtain⟨cn,R,_,_⟩:=Z.obj r _ bf aH
 exact putObj Z ai aH bf ⟨Zs,Zs⟩ R Zs (λbV sh=>⟨Ew,sh,aC,b0⟩) ⟨λ_ _ _ a=>(by cases a),λ_ _ _ a=>(by cases a)⟩
def avx(Z:de C Q ae h j bi w){s:Nat}{t:TypeId}{J v:H}{res:ea}(aI:i1 C t=some s)(hg:ch ae J)(fh:ch ae v)(a:NN C h j s J v=some res):
 ∃T,res= .fv undef T j/\∀ad:Sem Next,(∀bV,(Instr.storeAt t (aN Q J) (aN Q v)).run C.P w= .ok () bV->ad.run C.P w= .ok .skip bV)->Ac C Q ae h j bi w ad undef T j:=by
 unfold NN at a
 split at a
 ·rename_i b W
  simp only[eY,Zn]at a
  obtain⟨⟨R,U⟩,a⟩:=a
  have R:v.cells.length=s:=Zl R
  split at a
  ·rename_i T hS
   simp at a
   obtain⟨bV,bZ,cw,c0⟩:=OE Z (cX:=j) hg (ua fh) hS
   refine⟨T,a.symm,λad bc=>⟨Q,ae,bV, .skip,bc bV ?_, .inr ⟨rfl,rfl⟩,by trivial,cw,c0,Zi _⟩⟩
   have eH:(aN Q v).cells.size=s:=by rw[t8];simp[jL,R]
   simp only[Instr.storeAt,Instr.sureAddr,aN,Sem.run_bind,Sem.run_pure,Result.andThen_ok,storeVar,o5 aI,eH,ne_eq,not_true_eq_false,ZB]
   simp only[t8]
   exact bZ
  ·simp at a
 ·simp at a
def aq6:∀(n:Nat),(∀(m:Nat) (x e:H),n<=m->ch ae x->ch ae e->nu n x e=true->Instr.sameBits m (aN Q x) (aN Q e)=true)/\
 ∀(m:Nat) (J b:List H),n<=m->ew ae J->ew ae b->nu.Bk n J b=true->(bX Q J).length=(bX Q b).length/\((bX Q J).zip (bX Q b)).all (λ(x,e)=>Instr.sameBits m x e)=true:=by
 intro n
 induction n with
 |zero=>
  refine⟨λm x e _ _ _ a=>by simp[nu]at a, ?_⟩
  intro m J
  induction J with
  |nil=>intro b _ _ _ a;cases b<;>simp[nu.Bk]at a<;>simp[bX]
  |cons x J _=>intro b _ _ _ a;cases b<;>simp[nu.Bk,nu]at a
 |succ n al=>
  have one:∀(m:Nat) (x e:H),n+1<=m->ch ae x->ch ae e->nu (n+1) x e=true->Instr.sameBits m (aN Q x) (aN Q e)=true:=by
   intro m x e bp fx uo a
   obtain⟨m,rfl⟩:∃D,m=D+1:=⟨m-1,Zo⟩
   unfold nu at a
   split at a<;>(try(cases a;done))
   ·simpa[aN,Instr.sameBits]using a
   ·simp at a;obtain⟨rfl,rfl⟩:=a;simp[aN,Instr.sameBits]
   ·rename_i J b
    have:=(Jy _ _).1 a
    subst this
    simp only[aN,Instr.sameBits]
    rw[Wd];simp
   ·rename_i b W dR o'
    simp only[Zn]at a
    have R:b=dR:=Zl a.1
    have U:W=o':=Zl a.2
    subst R;subst U
    simp[aN,Instr.sameBits]
   ·simp[aN,Instr.sameBits]
   ·simp[aN,Instr.sameBits]
   ·rename_i t v hb hI
    simp only[Zn]at a
    have R:t=hb:=Zl a.1
    subst R
    simp[aN,Instr.sameBits,al.1 m v hI Zo fx uo a.2]
   ·rename_i J b
    obtain⟨bZ,cw⟩:=al.2 m J b Zo fx uo a
    simp only[aN,Instr.sameBits,Zn,YU]
    exact⟨by simpa using bZ,by simpa using cw⟩
  refine⟨one, ?_⟩
  intro m J
  induction J with
  |nil=>intro b _ _ _ a;cases b<;>simp[nu.Bk]at a<;>simp[bX]
  |cons x J mz=>
   intro b bp hg oB a
   cases b with
   |nil=>simp[nu.Bk]at a
   |cons e b=>
    simp only[nu.Bk,Zn]at a
    obtain⟨bZ,cw⟩:=mz b bp hg.2 oB.2 a.2
    simp only[bX,ZC,List.zip_cons_cons,List.all_cons,Zn]
    exact⟨Zo,one m x e bp hg.1 oB.1 a.1,cw⟩
def aq7{pG new:H}(go:ch ae pG)(wC:ch ae new)(a:nu 20 pG new=true):(Instr.keyThatStays (aN Q pG) (aN Q new)).run C.P w= .ok (aN Q new) w:=by
 simp[Instr.keyThatStays,(aq6 (Q:=Q) (ae:=ae) 20).1 10000 pG new Zd go wC a]
def WS{cn:Array MapEntry}{bF:List (H×H×Nat)}{i:Nat}{F:H×H×Nat}(aC:cn.toList=bF.map (lF Q))(a:bF[i]? =some F):cn[i]? =some (lF Q F):=by
 rw[<-ZL,aC,Zx,a];rfl
def asd{cn:Array MapEntry}{bF:List (H×H×Nat)}{i:Nat}{F ib:H×H×Nat}(f:MapEntry->MapEntry)(aC:cn.toList=bF.map (lF Q))(a:bF[i]? =some F)
 (ce:f (lF Q F)=lF Q ib):(cn.modify i f).toList=(bF.set i ib).map (lF Q):=by
 apply Y1
 intro Y
 rw[ZL,YY,Zx,List.getElem?_set]
 have c2:i<bF.length:=(Zc.1 a).1
 by_cases F:i=Y
 ·subst F
  rw[Zq rfl,Zq rfl,Zq c2,WS aC a]
  simp[ce]
 ·rw[Zh F,Zh F, <-ZL,aC,Zx]
def amy{bF:List (H×H×Nat)}{i:Nat}{ib:H×H×Nat}(b0:∀F∈bF,ch ae F.1/\ch ae F.2.1)(bt:ch ae ib.1/\ch ae ib.2.1):∀F∈bF.set i ib,ch ae F.1/\ch ae F.2.1:=by
 intro F a
 rcases List.mem_or_eq_of_mem_set a with a|a
 ·exact b0 F a
 ·rw[a];exact bt
def aiU(Z:de C Q ae h j bi w){t:Nat}{m D v:H}{res:ea}(wB:ch ae m)(nR:ch ae D)(fh:ch ae v)(a:Hg C h j t m D v=some res):
 ∃T bV,res= .fv undef T j/\(Instr.mapUpdate t (aN Q m) (aN Q D) (aN Q v)).run C.P w= .ok () bV/\de C Q ae T j bi bV/\iq C j Q ae h bi w Q ae T bV:=by
 unfold Hg at a
 split at a
 ·rename_i jC Ax r bc
  split at a
  ·rename_i bF e6 bf
   simp only[eY]at a
   obtain⟨aF,a⟩:=a
   obtain⟨e7,L9⟩:=abU aF
   obtain⟨cn,bd,cg,a3,a4⟩:=Js Z wB bf
   have R:=VF (C:=C) (Q:=Q) (ae:=ae) (w:=w) (F:=false) 20 10000 jC D Zd nR aF
   split at a
   ·rename_i i ad ce
    have U:=Pv Z L9 nR a4 ce
    obtain⟨_,F,bt,rfl⟩:=Xc bF 0 i ad ce
    simp only[Y9]at bt
    rw[pE,bt]at a
    obtain⟨e1,hI,born⟩:=F
    simp only[eY]at a
    obtain⟨aaC,a⟩:=a
    obtain⟨rfl,ai⟩:=SO a
    have b0:=a4 _ (Zj bt)
    obtain⟨bV,bZ,cw,c0⟩:=ado Z (cX:=j) ai wB bf (Hu:=e6) (jN:=bF.set i (D,v,born)) (asd (λF=>{F with key:=aN Q D,val:=aN Q v}) a3 bt rfl) (amy a4 ⟨nR,fh⟩)
    refine⟨_,bV,rfl, ?_,cw,c0⟩
    simp[Instr.mapUpdate,run_underlying bc,aN,bd,R,a3,U,t7,WS a3 bt,lF,aq7 b0.1 nR aaC,bZ]
   ·rename_i ce
    have U:=Pv Z L9 nR a4 ce
    obtain⟨rfl,ai⟩:=SO a
    obtain⟨bV,bZ,cw,c0⟩:=ado Z (cX:=j) ai wB bf (Hu:=e6+1) (jN:=bF++[(D,v,e6)]) (Ew:=cn.push {key:=aN Q D,val:=aN Q v,born:=e6}) (by simp[a3,lF])
     (λF bt=>(Zz.1 bt).elim (a4 F) (λbt=>by simp at bt;subst bt;exact⟨nR,fh⟩))
    refine⟨_,bV,rfl, ?_,cw,c0⟩
    simp[Instr.mapUpdate,run_underlying bc,aN,bd,R,a3,U,t7,bZ]
   ·simp at a
  ·simp at a
 ·simp at a
end
end Go.bg

namespace Go.bg
open Go.RowKit (Below)
def amF(rl dn:Nat)(q0:rl+(rl+768)/4<=dn):∀(r c:Nat),c<=dn->Builtin.growBy rl r c<=dn:=by
 intro r
 induction r with
 |zero=>intro c a;exact a
 |succ r al=>
  intro c a
  simp only[Builtin.growBy]
  split
  ·exact a
  ·exact al _ Zo
def nextslicecap_le{rl Bz:Nat}(a:Bz<rl):Builtin.nextslicecap rl Bz<=2*rl+200:=by
 unfold Builtin.nextslicecap
 split
 ·omega
 ·split
  ·omega
  ·exact amF rl _ Zo 4 Bz Zo
def aum{rl Bz bytes:Nat}(a:Bz<rl)(aK:rl<=1048576)(ai:bytes<=65536):¬(Builtin.nextslicecap rl Bz*bytes>2^48):=by
 have R:=nextslicecap_le a
 have U:Builtin.nextslicecap rl Bz*bytes<=(2*1048576+200)*65536:=Nat.mul_le_mul Zo ai
 have ar:(2:Nat)^48=281474976710656:=by decide
 omega
def wrap_small{n:Nat}(aK:n<=1048576):IntKind.i64.wrap (n:Int)=n:=by
 rw[<-aev]
 simp only[pe,fo,Zg]
 have R:(n:Int)%18446744073709551616=n:=YJ Zo Zo
 rw[R,Zq Zo]
def OU{n b:Nat}(R:n<=1048576)(U:b<=65536):¬((281474976710656:Int)<(n:Int)*(b:Int)):=by
 have ar:n*b<=1048576*65536:=Nat.mul_le_mul R U
 have:((n*b:Nat):Int)<=((1048576*65536:Nat):Int):=Int.ofNat_le.2 ar
 rw[Int.natCast_mul]at this
 omega
def xx(P:Program)(w:World)(dq:TypeDesc)(X:Value)(i:TypeInfo)(br:Value)(n:Nat)(new:Array Value):Prop:=
 ((dq= .string\/∃F,dq= .slice F)/\(Builtin.lenOf X).run P w= .ok n w/\(Builtin.firstCells i.size n X).run P w= .ok new w/\(Builtin.firstCells i.size n X).run P w.drew= .ok new w.drew)\/
 ((∃an,dq= .int an)/\(∃D,X= .int D (Int.ofNat n))/\n<=1048576/\i.bytes<=65536/\n*i.size≠0/\new=Builtin.zeroCells br.cells n)
section
variable{P:Program}{w bV:World}{dg:Array TypeId}{ty st io eg:TypeId}{i:TypeInfo}{dq:TypeDesc}{base:Option Addr}{gP k7 n:Nat}{X br:Value}{pG new:Array Value}
def KH{J:Addr}(cj:dg[0]? =some st)(R:dg[1]? =some io)(df:P.underlying st=some (.slice eg))(hF:P.underlying io=some dq)(aM:P.info? eg=some i)(ct:i.zero=some br)
 (bQ:xx P w dq X i br n new)(aK:gP+n<=k7)(aI:(storeCells (J.add (gP*i.size)) new.toList).run P w= .ok () bV):
 (Builtin.append_ dg ty #[.slice (some J) gP k7,X]).run P w= .ok (.slice (some J) (gP+n) k7) bV:=by
 have akF:(#[Value.slice (some J) gP k7,X]:Array Value)[0]? =some (.slice (some J) gP k7):=rfl
 have bB:(#[Value.slice (some J) gP k7,X]:Array Value)[1]? =some X:=rfl
 clear akF bB
 rcases bQ with ⟨im,hk,jr,_⟩|⟨⟨an,rfl⟩,⟨D,rfl⟩,hk,jr,kh,rfl⟩
 ·rcases im with rfl|⟨_,rfl⟩<;>simp[Builtin.append_,cj,R,run_underlying df,run_underlying hF,sizeOf,typeInfo,aM,hk,aK,jr,aI]
 ·have lL:=OU hk jr
  have aB:¬((n:Int)<0):=Zo
  have bP:=wrap_small hk
  simp[Builtin.append_,cj,R,run_underlying df,run_underlying hF,sizeOf,typeInfo,aM,asInt,asIntOf,bP,lL,aB,aK,kh,zeroValue,ct,aI]
def VS(cj:dg[0]? =some st)(R:dg[1]? =some io)(df:P.underlying st=some (.slice eg))(hF:P.underlying io=some dq)(aM:P.info? eg=some i)(ct:i.zero=some br)
 (bQ:xx P w dq X i br n new)(aK:¬(gP+n<=k7))(ai:i.bytes<=65536)(wY:gP+n<=1048576)(bf:(Builtin.firstCells i.size gP (.slice base gP k7)).run P w.drew= .ok pG w.drew):
 ∃cap,gP+n<=cap/\(Builtin.append_ dg ty #[.slice base gP k7,X]).run P w=
  .ok (.slice (some ⟨w.heap.size,0,none⟩) (gP+n) cap) (w.drew.alloc (.cells (pG++new++Builtin.zeroCells br.cells (cap-(gP+n))) eg)):=by
 have Z:=aum (rl:=gP+n) (Bz:=k7) Zo wY ai
 have k0:¬(281474976710656<Builtin.nextslicecap (gP+n) k7*i.bytes):=by
  have ar:(2:Nat)^48=281474976710656:=by decide
  omega
 have bp:¬((9223372036854775807:Int)<(gP:Int)+(n:Int)):=Zo
 refine⟨gP+n+(w.tape w.drawn (.appendCap (gP+n) k7 eg))%(2^63-(gP+n)),Zo, ?_⟩
 have eH:w.drew.heap.size=w.heap.size:=rfl
 have wW:IntKind.i64.max=9223372036854775807:=by decide
 rcases bQ with ⟨im,hk,jr,kh⟩|⟨⟨an,rfl⟩,⟨D,rfl⟩,hk,jr,kh,rfl⟩
 ·rcases im with rfl|⟨_,rfl⟩<;>
   simp[Builtin.append_,cj,R,run_underlying df,run_underlying hF,sizeOf,typeInfo,aM,hk,aK,kh,zeroValue,ct,wW,bp,k0,Question.forced,Question.cut,bf,newRow,eH]
 ·have lL:=OU hk jr
  have aB:¬((n:Int)<0):=Zo
  have bP:=wrap_small hk
  simp[Builtin.append_,cj,R,run_underlying df,run_underlying hF,sizeOf,typeInfo,aM,asInt,asIntOf,bP,lL,aB,aK,kh,zeroValue,ct,wW,bp,k0,Question.forced,Question.cut,bf,newRow,eH]
end
end Go.bg

namespace Go.bg
open Go.RowKit (Below)
structure xD(P:Program):Prop where
 mixed:P.follows .mixedOrders=true
 num:∀(f:Nat) fn,P.funcs[f]? =some fn->fn.body.isSome=true->(fn.name== "runtime.NumGoroutine")=false
section
variable{C:aW}{Q c9:c6}{ae du:Nat->Prop}{h T:S ak}{j ao bi:Nat}{w bV:World}
def de.same(Z:de C Q ae h j bi w)(bP:bV.heap=w.heap):de C Q ae h j bi bV:=
 ⟨Z.a7,Z.lt,Z.vn,λb W a d=>(Z.obj b W a d).ac (λ_ _=>rfl) (λ_ a=>a) (by rw[bP]),Z.sep,Z.base,Z.fk⟩
def de.drew(Z:de C Q ae h j bi w):de C Q ae h j bi w.drew:=Z.same rfl
def de.aue(Z:de C Q ae h j bi w){b:Nat}{c:S H}{n:Nat}{fk:List Nat}(ai:C.a7<=b)(aH:ae b)(g8:aa C h b=some (.cells c n (.grow fk))):
 de C Q ae (bm C h b (some (.cells c n .jV))) j bi w:=by
 have oL:aa C (bm C h b (some (.cells c n .jV))) b=some (.cells c n .jV):=by rw[fT _ ai,Zq rfl]
 have jA:∀x,x≠b->aa C (bm C h b (some (.cells c n .jV))) x=aa C h x:=λx ag=>by rw[fT _ ai,Zh ag]
 refine⟨Z.a7,Z.lt, ?_, ?_, ?_, ?_, ?_⟩
 ·intro x dh ag
  by_cases F:x=b
  ·subst F;exact Z.lt x aH
  ·exact Z.vn x dh (by rw[<-jA x F,ag])
 ·intro x dh ag dq
  by_cases F:x=b
  ·subst F
   rw[oL]at ag;cases ag
   obtain⟨cn,ty,bT,aM,R,U,ar,aO⟩:=Z.obj x _ g8 aH
   exact⟨cn,ty,bT,aM,R,⟨trivial,U.2⟩,ar,aO⟩
  ·exact Z.obj x dh (by rw[<-jA x F,ag]) dq
 ·intro x e dh pI ag I dq ow dI lO eX
  by_cases F:x=b
  ·subst F
   rw[oL]at ag;cases ag
   rw[jA e λan=>dI an.symm]at I
   obtain⟨R,U⟩:=Z.sep x e _ pI g8 I dq ow dI lO eX
   refine⟨?_,U⟩
   rcases R with ⟨_,_,_,_,an,_⟩|⟨_,_,l,fZ,aS,an,cu,aB⟩|⟨_,_,_,_,_,_,an,_⟩
   ·cases an
   ·exact .inl ⟨c,n,fZ,aS,rfl,cu⟩
   ·cases an
  ·rw[jA x F]at ag
   by_cases cF:e=b
   ·subst cF
    rw[oL]at I;cases I
    obtain⟨R,U⟩:=Z.sep x e dh _ ag g8 dq ow dI lO eX
    refine⟨?_,U⟩
    rcases R with ⟨_,_,_,_,_,an⟩|⟨_,_,l,fZ,aS,_,an,aB⟩|⟨fZ,aS,_,_,_,an,cu,_⟩
    ·cases an
    ·cases an
    ·exact .inl ⟨fZ,aS,c,n,cu,rfl⟩
   ·rw[jA e cF]at I
    exact Z.sep x e dh pI ag I dq ow dI lO eX
 ·intro x dh lO ag dq
  by_cases F:x=b
  ·subst F;exact Z.base x _ lO g8 aH
  ·exact Z.base x dh lO (by rw[<-jA x F,ag]) dq
 ·intro x dh ag dq
  by_cases F:x=b
  ·subst F
   rw[oL]at ag;cases ag
   have:=(Z.fk x _ g8 aH).2 _ _ _ rfl
   exact⟨λ_ _ _ a=>(by cases a),λ_ _ _ a=>(by cases a;exact this)⟩
  ·exact Z.fk x dh (by rw[<-jA x F,ag]) dq
def de.share(Z:de C Q ae h j bi w){cE:Nat}{pl:mj}{cR:ak}(ek:bi<=cE)(sa:pl.cE=cE)(bP:∀D,D≠cE->bV.heap[D]? =w.heap[D]?)
 (bf:jG C (gk Q j pl) (add ae j) cR pl bV)(q8:tS C (add ae j) cR)
 (ag:∀x dh,aa C h x=some dh->ae x->(Q x).cE=cE->jG C Q ae dh (Q x) bV/\Ox cR dh j x/\Ox dh cR x j/\pl.ed=(Q x).ed):
 de C (gk Q j pl) (add ae j) (bm C h j (some cR)) (j+1) bi bV:=by
 have ai:=Z.a7
 have aK:¬ae j:=λa=>by have:=Z.lt j a;omega
 have dF:=qB (Q:=Q) (pl:=pl) aK
 have oL:aa C (bm C h j (some cR)) j=some cR:=by rw[fT _ ai,Zq rfl]
 have jA:∀x,x≠j->aa C (bm C h j (some cR)) x=aa C h x:=λx ag=>by rw[fT _ ai,Zh ag]
 have aD:∀x,add ae j x->x≠j->ae x:=λx a dI=>a.resolve_right dI
 refine⟨Zo, ?_, ?_, ?_, ?_, ?_, ?_⟩
 ·intro x a
  rcases a with a|a
  ·have:=Z.lt x a;omega
  ·omega
 ·intro x dh a
  by_cases F:x=j
  ·omega
  ·have:=Z.vn x dh (by rw[<-jA x F,a]);omega
 ·intro x dh a dq
  by_cases F:x=j
  ·subst F;rw[oL]at a;cases a;rw[lb];exact bf
  ·rw[jA x F]at a
   have dq:=aD x dq F
   rw[dF x dq]
   by_cases an:(Q x).cE=cE
   ·exact(ag x dh a dq an).1.ac dF (λ_ a=> .inl a) rfl
   ·exact(Z.obj x dh a dq).ac dF (λ_ a=> .inl a) (bP _ an)
 ·intro x e dh pI R U dq ow dI lO eX
  by_cases F:x=j
  ·subst F
   rw[oL]at R;cases R
   have I:e≠x:=λan=>dI an.symm
   rw[jA e I]at U
   have ow:=aD e ow I
   rw[lb,dF e ow]at eX ⊢
   obtain⟨_,b2,_,d1⟩:=ag e pI U ow (by rw[<-eX,sa])
   exact⟨b2,d1⟩
  ·rw[jA x F]at R
   have K1:=aD x dq F
   by_cases cF:e=j
   ·subst cF
    rw[oL]at U;cases U
    rw[lb,dF x K1]at eX ⊢
    obtain⟨_,_,cQ,d1⟩:=ag x dh R K1 (by rw[eX,sa])
    exact⟨cQ,d1.symm⟩
   ·rw[jA e cF]at U
    have WL:=aD e ow cF
    rw[dF x K1,dF e WL]at eX ⊢
    exact Z.sep x e dh pI R U K1 WL dI lO eX
 ·intro x dh lO a dq
  by_cases F:x=j
  ·subst F;rw[lb,sa];exact ek
  ·rw[jA x F]at a
   have dq:=aD x dq F
   rw[dF x dq]
   exact Z.base x dh lO a dq
 ·intro x dh a dq
  by_cases F:x=j
  ·subst F;rw[oL]at a;cases a;exact q8
  ·rw[jA x F]at a
   have dq:=aD x dq F
   refine⟨λc n l aB e I=> ?_,(Z.fk x dh a dq).2⟩
   obtain⟨b3,b2⟩:=(Z.fk x dh a dq).1 c n l aB e I
   exact⟨.inl b3,b2⟩
def ace{c:S H}{W n:Nat}{l:List H}(a:c.ku W n=some l):l.length=n:=(S.PN _ _ _ _ a).1
def O0{b W n:Nat}{l:List H}(a:mT C h b W n=some l):l.length=n:=by
 unfold mT at a
 split at a
 ·exact ace a
 ·simp only[eY,Zf]at a
  have:n=0:=Zl a.1
  rw[<-a.2,this];rfl
def awE(Q:c6)(br:H)(n:Nat):Builtin.zeroCells (aN Q br).cells n=(bX Q (kF n br.cells)).toArray:=by
 rw[t8, <-ady]
 simp[Builtin.zeroCells,jL]
def adZ(Q:c6)(s:List Nat)(aI:∀x∈s,x<256):((fX s).data.map λb=>Value.int .u8 b.toNat)=(bX Q (s.map λn=>H.int .u8 (Int.ofNat n))).toArray:=by
 apply YT
 simp only[fX,pq,YG]
 simp only[List.map_toArray,YG]
 apply Yy
 intro x ag
 simp[aN,YA (aI x ag)]
def au6(Z:de C Q ae h j bi w){x:H}{i:TypeInfo}{br:Value}{dq:TypeDesc}{n:Nat}{l:List H}(fx:ch ae x)(uy:dq= .string\/∃F,dq= .slice F)(a:k8 C h i.size x=some (n,l)):
 xx C.P w dq (aN Q x) i br n (bX Q l).toArray/\ew ae l/\l.length=n*i.size:=by
 unfold k8 at a
 split at a
 ·simp at a;obtain⟨rfl,rfl⟩:=a
  refine⟨.inl ⟨uy, ?_, ?_, ?_⟩,trivial,Zs⟩<;>simp[aN,Builtin.lenOf,Builtin.firstCells,bX]
 ·rename_i b W len cap
  split at a
  ·rename_i b5 aB
   simp at a;obtain⟨rfl,rfl⟩:=a
   obtain⟨R,U⟩:=EI Z fx aB
   obtain⟨ar,_⟩:=EI Z.drew fx aB
   refine⟨.inl ⟨uy, ?_, ?_, ?_⟩,U,O0 aB⟩<;>simp[aN,Builtin.lenOf,Builtin.firstCells,R,ar]
  ·simp at a
 ·rename_i b W len cap
  split at a
  ·rename_i b5 aB
   simp at a;obtain⟨rfl,rfl⟩:=a
   obtain⟨R,U⟩:=EI Z fx aB
   obtain⟨ar,_⟩:=EI Z.drew fx aB
   refine⟨.inl ⟨uy, ?_, ?_, ?_⟩,U,O0 aB⟩<;>simp[aN,Builtin.lenOf,Builtin.firstCells,R,ar]
  ·simp at a
 ·rename_i s
  simp only[eY]at a
  obtain⟨R,a⟩:=a
  have R:i.size=1:=Zl R
  simp at a;obtain⟨rfl,rfl⟩:=a
  have eH:(fX s).size=s.length:=by simp[fX,ByteArray.size]
  have bt:(fX s).extract 0 s.length=fX s:=by
   rw[<-eH];exact ByteArray.extract_zero_size
  have az:=adZ Q s fx
  refine⟨.inl ⟨uy, ?_, ?_, ?_⟩, ?_,by simp[R]⟩
  ·simp[aN,Builtin.lenOf,eH]
  ·simp only[aN,Builtin.firstCells,bt,Sem.run_pure];rw[az];simp
  ·simp only[aN,Builtin.firstCells,bt,Sem.run_pure];rw[az];simp
  ·rw[ul]
   intro v bA
   obtain⟨e,_,rfl⟩:=ZW.1 bA
   trivial
 ·simp at a
end
end Go.bg

