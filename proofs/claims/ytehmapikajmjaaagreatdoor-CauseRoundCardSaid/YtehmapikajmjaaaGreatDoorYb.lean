/- Part of the proof of the last text; no conditions -/
import Derived.Test.YtehmapikajmjaaaGreatDoorYa
import Derived.Laws.BytesString
import Derived.MapKept
import Derived.Laws.NewFold
import Derived.Laws.CopyRow
set_option maxHeartbeats 8000000
set_option linter.all false
namespace Go.aF
open Go.RowKit (Below)
section
variable{C:al}{F:bX}{Q:Nat->Prop}{q:E S}{u aO:Nat}{w:World}
def binOp_eql{t:TypeId}{X cX:Value}(c:∀k a g b,¬(X=.int k a/\cX=.int g b))(d:∀a b,¬(X=.string a/\cX=.string b))
 (e:∀k a,X≠ .float k a)(f:∀k a b,X≠ .complex k a b):binOp .eql t X cX=(do pure (.bool (<-Op.equal t X cX)))/\binOp .neq t X cX=(do pure (.bool (!(<-Op.equal t X cX)))):=by
 constructor
 ·unfold binOp;grind
 ·unfold binOp;split;all_goals first
   |rfl|exact absurd ⟨rfl,rfl⟩ (c _ _ _ _)|exact absurd ⟨rfl,rfl⟩ (d _ _)|exact absurd rfl (e _ _)|exact absurd rfl (f _ _ _)|simp_all
def Fi(F:bX)(v:z):(∀k a,aq F v≠ .float k a)/\∀k a b,aq F v≠ .complex k a b:=by cases v<;>simp[aq]
def PB{m:Nat}{t:TypeId}{a:Array (String×TypeId)}(c:C.P.underlying t=some (.interface a))(b:a.isEmpty=true):(Op.eqGuardIn (m+1) t .nilIface .nilIface).run C.P w=.ok false w:=by simp[Op.eqGuardIn,run_underlying c,b]
def PC{op:BinOp}{t:TypeId}{x o:Operand}{X cX:Value}(h:(j4 x||j4 o)=true)(a:∀c d,¬(X=.agg c/\cX=.agg d)):
 (eqGuard op t x o X cX).run C.P w=.ok () w:=by
 cases op<;>first|rfl|(cases x<;>cases o<;>first|(simp[j4]at h;done)|(cases X<;>cases cX<;>first|rfl|exact absurd ⟨rfl,rfl⟩ (a _ _)))
def PD{op:BinOp}{t:TypeId}{x o:Operand}{a:Array (String×TypeId)}(d:C.P.underlying t=some (.interface a))(c:a.isEmpty=true):
 (eqGuard op t x o .nilIface .nilIface).run C.P w=.ok () w:=by
 have key:=PB (w:=w) (m:=9999) d c;have b:Op.maxDepth=9999+1:=rfl;cases op<;>first|rfl|(cases x<;>cases o<;>first|rfl|(simp[eqGuard,b,key];done))
def PE{op:BinOp}{t:TypeId}{x o:Operand}(h:(j4 x||j4 o||(match C.P.underlying t with|some (.interface b)=>b.isEmpty|_=>false))=true):
 (eqGuard op t x o .nilIface .nilIface).run C.P w=.ok () w:=by
 by_cases a:(j4 x||j4 o)=true
 ·exact PC a Zs
 ·have a:(j4 x||j4 o)=false:=by grind
  rw[a]at h;split at h
  ·rename_i b c;exact PD c h
  ·grind
def PF{op:BinOp}{t:TypeId}{x o:Operand}{X cX:Value}(a:¬(X=.nilIface/\cX=.nilIface))(b:∀c d,¬(X=.agg c/\cX=.agg d)):
 (eqGuard op t x o X cX).run C.P w=.ok () w:=by
 cases op<;>first|rfl|(cases X<;>cases cX<;>first|rfl|exact absurd ⟨rfl,rfl⟩ a|exact absurd ⟨rfl,rfl⟩ (b _ _))
def wn{op:BinOp}{t:TypeId}{x o:Operand}{a b:z}(h:sB C t (j4 x||j4 o) a b=true):
 (eqGuard op t x o (aq F a) (aq F b)).run C.P w=.ok () w:=by
 unfold sB at h;split at h
 ·exact PE h
 ·simp only[aq];exact run_eqGuard_agg w op t x o _ _ (by simpa using h)
 ·rename_i ap aw;refine PF ?_ ?_
  ·rintro⟨e,f⟩;cases a<;>simp[aq]at e;cases b<;>simp[aq]at f;grind
  ·rintro c d ⟨e,f⟩;cases a<;>simp[aq]at e;cases b<;>simp[aq]at f;exact aw _ _ rfl rfl
def NO{op:BinOp}{x o:List Nat}{v:z}(b:∀a∈x,a<256)(c:∀a∈o,a<256)(h:oL op x o=some v):
 (Op.stringOp op (dz x) (dz o)).run C.P w=.ok (aq F v) w/\bs Q v:=by
 have d:=BW b c;have e:Op.bytesLess (dz x).toList (dz o).toList=ps x o:=by rw[v1,v1];exact Ik b c
 cases op<;>simp only[oL,yL,cO,Zh]at h<;>
  first
  |(
    obtain⟨f,rfl⟩:=h;constructor
    ·have j:(dz x).size=x.length:=by simp[dz,ByteArray.size]
     have k:(dz o).size=o.length:=by simp[dz,ByteArray.size]
     have i:=e7 f;simp only[Op.stringOp];rw[Zi (by simp[IntKind.max,IntKind.signed,IntKind.bits];omega)];simp only[Sem.run_pure];congr 2;apply ByteArray.ext;simp[dz]
    ·simp only[bs];intro aj g;rcases Zp.1 g with h|h
     ·exact b aj h
     ·exact c aj h)
  |(subst h;exact⟨by simp only[Op.stringOp,d,e,Sem.run_pure,aq],trivial⟩)|(simp at h)
def R3(K:bW C F Q q u aO w){op:BinOp}{t:Nat}{x o:Operand}{ab:Operand->Value}{A:Operand->Option z}{v:z}(p:fx F Q ab A [x,o])
 (h:wT C op t x o q A=some v):(do eqGuard op t x o (ab x) (ab o);binOp op t (ab x) (ab o):Sem Value).run C.P w=.ok (aq F v) w/\bs Q v:=by
 unfold wT at h;split at h
 ·rename_i a b N W;obtain⟨G,l⟩:=p x Zs a N;obtain⟨L,m⟩:=p o Zs b W;rw[G,L];unfold b7 at h;split at h
  ·rename_i k i g j;obtain⟨c,d,_⟩:=EC (C:=C) (F:=F) (Q:=Q) (w:=w) t h;refine⟨?_,d⟩;rw[Sem.run_bind,wn (by simp[sB])];exact c
  ·rename_i s T3;obtain⟨c,d⟩:=NO (C:=C) (F:=F) (Q:=Q) (w:=w) l m h;refine⟨?_,d⟩;rw[Sem.run_bind,wn (by simp[sB])];simp only[aq,binOp];exact c
  ·rename_i T0 ci;simp only[cO]at h;obtain⟨X,h⟩:=h;have n:∀r,gn C q 50 t a b=some r->(Op.equal t (aq F a) (aq F b)).run C.P w=.ok r w:=λr e=>yD K 50 _ t a b r Zd l m e;have O:∀k aj g f,¬(aq F a=.int k aj/\aq F b=.int g f):=(by intro k aj g f ⟨c,d⟩;cases a<;>simp[aq]at c;cases b<;>simp[aq]at d;exact T0 _ _ _ _ rfl rfl);have P:∀aj f,¬(aq F a=.string aj/\aq F b=.string f):=(by intro aj f ⟨c,d⟩;cases a<;>simp[aq]at c;cases b<;>simp[aq]at d;exact ci _ _ rfl rfl);obtain⟨T1,T2⟩:=binOp_eql (t:=t) O P (Fi F a).1 (Fi F a).2;rw[Sem.run_bind,wn X];split at h
   ·split at h
    ·rename_i r e;simp at h;subst h;exact⟨by simp[T1,n r e,aq],trivial⟩
    ·simp at h
   ·split at h
    ·rename_i r e;simp at h;subst h;exact⟨by simp[T2,n r e,aq],trivial⟩
    ·simp at h
   ·simp at h
 ·simp at h
def NA{s d:Nat}{x v:z}(c:bs Q x)(h:yC C s d x=some v):(convert s d (aq F x)).run C.P w=.ok (aq F v) w/\bs Q v:=by
 unfold yC at h;split at h
 ·rename_i c2 k e n b a;simp at h;subst h;simp[convert,run_underlying b,run_underlying a,Conv.intToInt,aq,bs]
 ·rename_i c2 s b a;simp at h;subst h;refine⟨?_,c⟩;simp[convert,run_underlying b,run_underlying a,aq]
 ·simp at h
def Ot:∀{l:List z}{s:List Nat},nG l=some s->∃ci:List Nat,l=ci.map (λn=>z.int .u8 (Int.ofNat n))/\s=ci.map (·%256):=by
 intro l;induction l with
 |nil=>intro s h;simp[nG]at h;subst h;exact⟨[],rfl,rfl⟩|cons a l U=>
  intro s h;unfold nG at h;split at h
  ·grind
  ·rename_i n e d;obtain⟨rfl,rfl⟩:=d;split at h
   ·rename_i r K;simp at h;subst h;obtain⟨ci,b,c⟩:=U K;exact⟨n::ci,by simp[b],by simp[c]⟩
   ·grind
  ·grind
def Ql(ci:List Nat):∀r:ByteArray,(ci.map Int.ofNat).foldl (λr (n:Int)=>r.push (UInt8.ofNat n.toNat)) r=⟨r.data++(ci.map UInt8.ofNat).toArray⟩:=by induction ci with|nil=>simp_all|cons n ci U=>simp_all
def sq(K:bW C F Q q u aO w){b I n:Nat}{l:List z}(W:Q b)(h:gq C q b I n=some l):
 (loadCells ⟨(F b).bA,(F b).cn+I,none⟩ n).run C.P w=.ok (bf F l).toArray w/\cz Q l:=by
 unfold gq at h;split at h
 ·rename_i c d;exact v6 K W d h
 ·simp only[cO,Zh]at h;obtain⟨a,rfl⟩:=h
  have:n=0:=Zn a
  subst this;refine⟨?_,trivial⟩;rfl
def Is(K:bW C F Q q u aO w){b I n cap:Nat}{l:List z}{s:List Nat}(W:Q b)(h:gq C q b I n=some l)(e:nG l=some s):
 (Conv.bytesToString (.slice (some ⟨(F b).bA,(F b).cn+I,none⟩) n cap)).run C.P w=.ok (aq F (.str s)) w/\bs Q (.str s):=by
 obtain⟨c,_⟩:=sq K W h;obtain⟨ci,rfl,rfl⟩:=Ot e;have d:=run_bytesToString w ⟨(F b).bA,(F b).cn+I,none⟩ n cap (ci.map Int.ofNat) (by
  rw[c];congr 2;rw[jo,Ya,Ya];rfl)
 constructor
 ·rw[d,Ql];congr 2;congr 1;simp;intro a _;exact UInt8.toNat_inj.1 Zs
 ·simp only[bs];grind
def NP(K:bW C F Q q u aO w){x v:z}(g:bs Q x)(h:sk C q x=some v):(Conv.bytesToString (aq F x)).run C.P w=.ok (aq F v) w/\bs Q v/\∃a l c,aq F x=.slice a l c:=by
 unfold sk at h;split at h
 ·simp at h;subst h;exact⟨rfl,by simp[bs],_,_,_,rfl⟩
 ·split at h
  ·rename_i l e;split at h
   ·rename_i s f;simp at h;subst h;obtain⟨b,d⟩:=Is K g e f;exact⟨b,d,_,_,_,rfl⟩
   ·grind
  ·grind
 ·split at h
  ·rename_i l e;split at h
   ·rename_i s f;simp at h;subst h;obtain⟨b,d⟩:=Is K g e f;exact⟨b,d,_,_,_,rfl⟩
   ·grind
  ·grind
 ·grind
def R4(K:bW C F Q q u aO w){s d:Nat}{x:Operand}{ab:Operand->Value}{b:Operand->Option z}{v:z}(G:fx F Q ab b [x])
 (h:uF C s d x q b=some v):(convert s d (ab x)).run C.P w=.ok (aq F v) w/\bs Q v:=by
 unfold uF at h;split at h
 ·rename_i a n;obtain⟨e,g⟩:=G x Zs a n;rw[e];split at h
  ·rename_i R r;simp at h;subst h;exact NA g r
  ·split at h
   ·rename_i i A t;split at h
    ·rename_i p;obtain⟨j,k,f,l,c,m⟩:=NP K g h;refine⟨?_,k⟩;rw[m]at j ⊢;rw[run_convert_bytes_string w s d i f l c A p t];grind
    ·grind
   ·grind
 ·grind
def qR{I:Option z}{m d r:Nat}(h:ho I m d=some r):(I=none/\r=d)\/∃k,I=some (.int k (Int.ofNat r))/\r<=m:=by
 unfold ho at h;split at h
 ·rename_i v;split at h
  ·rename_i n a;simp only[cO,Zh]at h;obtain⟨b,rfl⟩:=h;obtain⟨k,rfl⟩:=q1 a;simp_all
  ·grind
 ·grind
def run_sliceBound{P:Program}{k:IntKind}{n o:Nat}{code:BoundsCode}(h:n<=o):(Instr.sliceBound (.int k (Int.ofNat n)) o code).run P w=.ok n w:=by have a:(0:Int)<=Int.ofNat n/\Int.ofNat n<=(o:Int):=⟨Int.natCast_nonneg n,Int.ofNat_le.2 h⟩;simp only[Instr.sliceBound,asIntOf,Sem.run_bind,Sem.run_pure,Result.andThen_ok];simp_all
def tV{sP:Bool}{len cap g:Nat}{aT ag c:Option z}{l h m:Nat}(d:cap<=g)(W:fW len cap aT ag c=some (l,h,m)):
 (Instr.sliceBounds sP len g (aT.map (aq F)) (ag.map (aq F)) (c.map (aq F))).run C.P w=.ok (l,h,if c.isSome then m else g) w/\l<=h/\(c=none->m=cap)/\m<=cap/\(h<=m\/h=len):=by
 unfold fW at W;split at W
 ·grind
 ·rename_i t s;split at W
  ·grind
  ·rename_i p i;split at W
   ·grind
   ·rename_i x j;simp at W;obtain⟨rfl,rfl,rfl⟩:=W;have r:x<=p:=by
     rcases qR j with ⟨_,rfl⟩|⟨k,_,a⟩
     ·exact zB _
     ·exact a
    cases c with
    |none=>
     have v:t=cap:=(by simpa[ho]using s.symm);subst v;have e:ho ag t len=some p:=(by cases ag<;>exact i);refine⟨?_,r,λ_=>rfl,Zg _,(qR e).elim (λh=> .inr h.2) (λ⟨_,_,h⟩=> .inl h)⟩;rcases qR e with ⟨rfl,rfl⟩|⟨k,rfl,a⟩<;>rcases qR j with ⟨rfl,rfl⟩|⟨bl,rfl,f⟩
     ·simp[Instr.sliceBounds]
     ·simp only[Instr.sliceBounds,zh,ZX,aq,Sem.run_bind,Sem.run_pure,Result.andThen_ok,run_sliceBound f,Z3,ZA,ZJ]
     ·simp only[Instr.sliceBounds,zh,ZX,aq,Sem.run_bind,Sem.run_pure,Result.andThen_ok,run_sliceBound (ZE a d),Z3,ZA,ZJ]
     ·simp only[Instr.sliceBounds,zh,ZX,aq,Sem.run_bind,Sem.run_pure,Result.andThen_ok,run_sliceBound (ZE a d),run_sliceBound f,Z3,ZA,ZJ]
    |some L=>
     rcases qR s with ⟨b,_⟩|⟨k,b,a⟩
     ·cases b
     ·cases b;cases ag with
      |none=>simp at i|some A=>
       have e:=i;rcases qR e with ⟨b,_⟩|⟨G,b,n⟩
       ·cases b
       ·cases b;refine⟨?_,r,(λh=>by cases h),a,.inl n⟩;rcases qR j with ⟨rfl,rfl⟩|⟨bl,rfl,f⟩
        ·simp only[Instr.sliceBounds,zh,ZX,aq,Sem.run_bind,Sem.run_pure,Result.andThen_ok,run_sliceBound (ZE a d),run_sliceBound n,Z4,ZL]
        ·simp only[Instr.sliceBounds,ZX,aq,Sem.run_bind,Sem.run_pure,Result.andThen_ok,run_sliceBound (ZE a d),run_sliceBound n,run_sliceBound f,Z4,ZL]
def OO(m l I aN:Nat):ba (Nat.beq m l) I (I+l*aN)=if m=l then I else I+l*aN:=ee _ _ _ _
def Ia(K:bW C F Q q u aO w){b n:Nat}(W:Q b)(h:ii C q b=some n):n<=(F b).room:=by
 unfold ii at h;split at h
 ·rename_i c m b3 d;simp at h;subst h;obtain⟨bj,ty,aT,ag,_,a,_,_⟩:=K.obj b _ d W;exact a.2.1
 ·rename_i c m d;simp at h;subst h;obtain⟨bj,ty,aT,ag,_,a,_,_⟩:=K.obj b _ d W;exact a.2.1
 ·grind
def BQ{b I l h m aN:Nat}:Value.slice (some (if m=l then(⟨(F b).bA,(F b).cn+I,none⟩:Addr)else(⟨(F b).bA,(F b).cn+I,none⟩:Addr).add (l*aN))) (h-l) (m-l)
 =aq F (.slice b (ba (Nat.beq m l) I (I+l*aN)) (h-l) (m-l)):=by
 rw[OO];simp only[aq,jT];grind
def NN(K:bW C F Q q u aO w){t:Nat}{x v:z}{aT ag g:Option z}(i:bs Q x)(h:vR C q t x aT ag g=some v):
 (Instr.sliceAt t (aq F x) (aT.map (aq F)) (ag.map (aq F)) (g.map (aq F))).run C.P w=.ok (aq F v) w/\bs Q v:=by
 unfold vR at h;split at h
 ·rename_i s e;cases g with
  |some _=>simp at h|none=>
   simp only at h;split at h
   ·rename_i l f m W;simp at h;subst h;obtain⟨a,A,_⟩:=tV (C:=C) (F:=F) (w:=w) (sP:=false) (Zg _) W;have d:(dz s).size=s.length:=(by simp[dz,ByteArray.size]);constructor
    ·simp only[zh,Z3,ZA,ZJ]at a;simp[Instr.sliceAt,run_underlying e,Instr.slice,aq,d,a];apply ByteArray.ext;rw[ByteArray.data_extract];apply Array.ext';simp[dz,List.map_take,List.map_drop,List.take_drop]
    ·simp only[bs]at i ⊢;intro aj P;exact i aj (zn (zo P))
   ·simp at h
 ·rename_i ct b I len cap e;split at h
  ·rename_i l f m aN W d;simp at h;subst h;obtain⟨a,A,j,_⟩:=tV (C:=C) (F:=F) (w:=w) (sP:=true) (Zg cap) W;have p:(if g.isSome=true then m else cap)=m:=by cases g with|none=>simp[j rfl]|some _=>rfl
   rw[p]at a;refine⟨?_,i⟩;have:=BQ (F:=F) (b:=b) (I:=I) (l:=l) (h:=f) (m:=m) (aN:=aN);simp only[Instr.sliceAt,Sem.run_bind,run_underlying e,Result.andThen_ok,Instr.slice,aq,a,iG d,Sem.run_pure];rw[<-aq, <-this];split<;>rfl
  ·simp at h
 ·rename_i ct e;split at h
  ·rename_i r aN W d;obtain⟨l,f,m⟩:=r;simp at h;subst h;obtain⟨a,A,j,T0,T1⟩:=tV (C:=C) (F:=F) (w:=w) (sP:=true) (Zg 0) W;have p:m=0:=Zo;have k:f=0:=Zo;have c:l=0:=Zo;subst p;subst k;subst c;refine⟨?_,trivial⟩;have L:(Instr.sliceBounds true 0 0 (aT.map (aq F)) (ag.map (aq F)) (g.map (aq F))).run C.P w=.ok (0,0,0) w:=(by rw[a];split<;>rfl);simp[Instr.sliceAt,run_underlying e,Instr.slice,aq,L,iG d]
  ·simp at h
 ·rename_i ct b I len aN e;split at h
  ·rename_i X n d O;simp only[cO,Zu]at h;obtain⟨⟨gu,hB⟩,h⟩:=h;have gu:aN=X:=Zn gu;subst gu;have hB:0<aN:=hy hB;have T2:=Ia K i O;have N:(n-I)/aN<=((F b).room-I)/aN:=Nat.div_le_div_right Zo;split at h
   ·rename_i l f m W;obtain⟨a,A,j,_⟩:=tV (C:=C) (F:=F) (w:=w) (sP:=true) N W;cases g with
    |some T3=>simp at h;subst h;refine⟨?_,i⟩;have:=BQ (F:=F) (b:=b) (I:=I) (l:=l) (h:=f) (m:=m) (aN:=aN);simp only[Z4,ZL]at a;simp only[Instr.sliceAt,Sem.run_bind,run_underlying e,Result.andThen_ok,Instr.slice,aq,a,iG d,Sem.run_pure];rw[<-aq, <-this];split<;>rfl|none=>
     simp only[Z3,ZA,ZJ]at a;dsimp only at h;rw[cY]at h;split at h;rotate_left
     ·simp only[cO,Zh]at h;obtain⟨k,rfl⟩:=h;have k:f=l:=Zn k;subst k;refine⟨?_,i⟩;simp only[Instr.sliceAt,Sem.run_bind,run_underlying e,Result.andThen_ok,Instr.slice,aq,a,iG d,Sem.run_pure,Nat.sub_self];congr 1;congr 1;by_cases V:((F b).room-I)/aN=f
      ·simp[V]
      ·simp[V,jT,Ye]
     rename_i c;simp only[Y5]at c;cases h;refine⟨?_,i⟩;simp only[Instr.sliceAt,Sem.run_bind,run_underlying e,Result.andThen_ok,Instr.slice,aq,a,iG d,Sem.run_pure];have G:((F b).room-(I+l*aN))/aN=((F b).room-I)/aN-l:=(by rw[<-Nat.sub_sub,zD l aN,Nat.sub_mul_div]);rw[G];congr 1;congr 1;rcases c with c|c
     ·have c:=hy c;rw[Zi Zo,ZX,jT,Ye]
     ·have c:l=0:=Zn c;subst c;split<;>simp[jT]
   ·simp at h
  ·simp at h
 ·rename_i n ct b I e;split at h
  ·rename_i l f m aN W d;simp at h;subst h;obtain⟨a,A,j,_⟩:=tV (C:=C) (F:=F) (w:=w) (sP:=false) (Zg n) W;have p:(if g.isSome=true then m else n)=m:=by cases g with|none=>simp[j rfl]|some _=>rfl
   rw[p]at a;refine⟨?_,i⟩;have:=BQ (F:=F) (b:=b) (I:=I) (l:=l) (h:=f) (m:=m) (aN:=aN);simp only[Instr.sliceAt,Sem.run_bind,run_underlying e,Result.andThen_ok,Instr.sureAddr,aq,a,iG d,Sem.run_pure];rw[<-aq, <-this]
  ·simp at h
 ·simp at h
def abo{α:Type}{P:Program}(f:α->PUnit->Sem (ForInStep PUnit)):∀(l:List α),(∀a∈l,(f a ⟨⟩).run P w=.ok (.yield ⟨⟩) w)->(forIn l PUnit.unit f).run P w=.ok ⟨⟩ w:=by intro l;induction l with|nil=>simp_all|cons a l U=>simp_all
def yE{e:Bool}:∀(n m t:Nat) (v:z),n<=m->bs Q v->hj C n t v=true->(Instr.checkKey e m t (aq F v)).run C.P w=.ok () w:=by
 intro n;induction n with
 |zero=>intro m t v _ _ h;simp[hj]at h|succ n U=>
  intro m t v N g h;obtain⟨m,rfl⟩:∃k,m=k+1:=⟨m-1,Zo⟩;unfold hj at h;split at h
  ·rename_i O d x a;split at h
   ·rename_i i ag;simp only[Zu]at h;have:=U m d x Zo g h.2;simp[Instr.checkKey,run_underlying a,aq,typeInfo,ag,h.1,this]
   ·simp at h
  ·rename_i a;simp[Instr.checkKey,run_underlying a,aq]
  ·simp at h
  ·rename_i L cs a;simp only[Instr.checkKey,Sem.run_bind,run_underlying a,Result.andThen_ok,aq];rw[<-Array.forIn_toList];refine(congrArg (λr=>Result.andThen r _) (abo _ _ ?_)).trans rfl;intro f j;have:=zr.1 h f j;simp only[Y5,zz]at this;by_cases c:f.name= "_"
   ·simp[c]
   ·rcases this with b|b
    ·exact absurd b c
    ·split at b
     ·rename_i p l;obtain⟨A,G⟩:=tM (F:=F) (w:=w) g l;simp[c,A,U m f.type p Zo G b]
     ·simp at b
  ·simp at h
  ·simp at h
  ·rename_i d ap aw s a P X T0;simp only[Instr.checkKey,Sem.run_bind,run_underlying a,Result.andThen_ok];cases d<;>first
    |exact(ap _ rfl).elim|exact(aw _ rfl).elim|exact(s _ _ rfl).elim|rfl
  ·simp at h
def Fj{x:z}{k:IntKind}{a:Int}(h:aq F x=.int k a):x=.int k a:=by cases x<;>simp[aq]at h;grind
def Fh{x:z}{a:Bool}(h:aq F x=.bool a):x=.bool a:=by cases x<;>simp[aq]at h;grind
def Fk{x:z}{a:ByteArray}(h:aq F x=.string a):∃s,x=.str s/\a=dz s:=by cases x<;>simp[aq]at h;grind
def E6(a b:ByteArray):(a==b)=(a.toList==b.toList):=by show(a.data==b.data)=_;rw[Yh,zz,zz,ByteArray.toList_eq,ByteArray.toList_eq];simp_all
def H5{d t:Nat}{i:TypeDesc}{x o:z}{r j:Bool}(g:C.P.underlying t=some i)(l:bs Q x)(m:bs Q o)
 (h:gn C q d t x o=some r)(c:Instr.sameNow i (aq F x) (aq F o)=some j):r=j:=by
 cases d with
 |zero=>simp[gn]at h|succ d=>
  unfold Instr.sameNow at c;split at c
  ·rename_i p k a n b e f;rw[Fj e,Fj f]at h;simp[gn,g]at h;grind
  ·rename_i a b e f;obtain⟨s,rfl,rfl⟩:=Fk e;obtain⟨v,rfl,rfl⟩:=Fk f;simp[gn,g]at h;simp at c;rw[<-c, <-h,E6,BW l m]
  ·rename_i a b e f;rw[Fh e,Fh f]at h;simp[gn,g]at h;simp at c;rw[<-c, <-h]
  ·simp at c
def k1(F:bX)(r:Option (Nat×z)):Option (Nat×Value):=r.map λx=>(x.1,aq F x.2)
def Qe{t:Nat}{p:TypeDesc}{k:z}(m:C.P.underlying t=some p)(j:bs Q k):∀(c:List (z×z×Nat)) (i:Nat) (r:Option (Nat×z)) (d:Option (Nat×Value)),
 (∀e∈c,bs Q e.1/\bs Q e.2.1)->findKey C q t k c i=some r->Instr.findNow p (aq F k) (c.map (dP F)) i=some d->d=k1 F r:=by
 intro c;induction c with
 |nil=>intro i r d _ h a;simp[findKey]at h;simp[Instr.findNow]at a;subst h;subst a;rfl|cons e c U=>
  intro i r d l h a;obtain⟨n,v,b⟩:=e;simp only[findKey]at h;simp only[ZG,Instr.findNow]at a;split at h
  ·rename_i f;simp at h;subst h;split at a
   ·simp at a;rw[<-a];rfl
   ·rename_i g;have:=H5 m j (l (n,v,b) (Zr ..)).1 f g;grind
   ·grind
  ·rename_i f;split at a
   ·rename_i g;have:=H5 m j (l (n,v,b) (Zr ..)).1 f g;grind
   ·grind
   ·grind
  ·grind
def Qb(K:bW C F Q q u aO w){t:Nat}{k:z}(f:bs Q k):∀(a:List (z×z×Nat)) (i:Nat) (r:Option (Nat×z)),
 (∀e∈a,bs Q e.1/\bs Q e.2.1)->findKey C q t k a i=some r->(Instr.findAsking t (aq F k) (a.map (dP F)) i).run C.P w=.ok (k1 F r) w:=by
 intro a;induction a with
 |nil=>intro i r _ h;simp[findKey]at h;subst h;simp[Instr.findAsking,k1]|cons e a U=>
  intro i r g h;obtain⟨c,v,b⟩:=e;simp only[findKey]at h;have j:20<=Op.maxDepth:=by decide
  split at h
  ·rename_i d;simp at h;subst h;have:=yD K 20 _ t k c true j f (g (c,v,b) (Zr ..)).1 d;simp[Instr.findAsking,Op.equal,dP,this,k1]
  ·rename_i d;have:=yD K 20 _ t k c false j f (g (c,v,b) (Zr ..)).1 d;simp[Instr.findAsking,Op.equal,dP,this];grind
  ·grind
def uj(K:bW C F Q q u aO w){t:Nat}{g:TypeDesc}{k:z}{a:List (z×z×Nat)}{r:Option (Nat×z)}(d:C.P.underlying t=some g)(b:bs Q k)
 (c:∀e∈a,bs Q e.1/\bs Q e.2.1)(h:findKey C q t k a 0=some r):(Instr.findKey t (aq F k) (a.map (dP F))).run C.P w=.ok (k1 F r) w:=by
 simp only[Instr.findKey,Sem.run_bind,run_underlying d,Result.andThen_ok];split
 ·rename_i i f;rw[Qe d b a 0 r i c h f];rfl
 ·exact Qb K b a 0 r c h
def Al{t:Nat}{k:z}:∀(a:List (z×z×Nat)) (i j:Nat) (v:z),findKey C q t k a i=some (some (j,v))->i<=j/\∃e,a[j-i]? =some e/\e.2.1=v:=by
 intro a;induction a with
 |nil=>intro i j v h;simp[findKey]at h|cons e a U=>
  intro i j v h;obtain⟨c,d,b⟩:=e;simp only[findKey]at h;split at h
  ·simp_all
  ·grind
  ·grind
def AI{t d:Nat}{k:z}(h:hj C d t k=true):∃a,C.P.underlying t=some a:=by cases d with|zero=>simp[hj]at h|succ d=>cases b:C.P.underlying t with|none=>simp[hj,b]at h|some a=>grind
def m9(K:bW C F Q q u aO w){r:Nat}{a:List (z×z×Nat)}{bz:Nat}(ai:Q r)(h:H C q r=some (.map a bz)):
 ∃bj,(getObj (F r).bA).run C.P w=.ok (.map bj bz) w/\w.heap[(F r).bA]? =some (.map bj bz)/\bj.toList=a.map (dP F)/\∀e∈a,bs Q e.1/\bs Q e.2.1:=by
 obtain⟨bj,b,c,d⟩:=K.obj r _ h ai;exact⟨bj,MapKept.run_getObj_map b,b,c,d⟩
def GJ{t:Nat}{k:z}{a b:List (z×z)}(h:a.Perm b):∀r,jx C q t k a=some r->jx C q t k b=some r:=by
 induction h with
 |nil=>grind|cons x _ U=>intro r h;simp only[jx]at h ⊢;grind|swap x o l=>obtain⟨e,vh⟩:=x;obtain⟨f,g⟩:=o;intro r h;simp only[jx]at h ⊢;grind
 |trans _ _ c d=>grind
def GI{t:Nat}{k:z}:∀(a:List (z×z×Nat)) (i:Nat) (r:Option z),jx C q t k (a.map λe=>(e.1,e.2.1))=some r->∃c,findKey C q t k a i=some c/\c.map (·.2)=r:=by
 intro a;induction a with
 |nil=>intro i r h;simp[jx]at h;subst h;exact⟨none,rfl,rfl⟩|cons e a U=>
  obtain⟨d,f,b⟩:=e;intro i r h;simp only[ZG,jx]at h;simp only[findKey];split at h
  ·simp_all
  ·simp_all
  ·cases h
def NI(K:bW C F Q q u aO w){t:Nat}{m k v:z}{ok:Bool}(s:bs Q m)(N:bs Q k)(h:vQ C q t m k ok=some v):
 (Instr.lookup t (aq F m) (aq F k) ok).run C.P w=.ok (aq F v) w/\bs Q v:=by
 unfold vQ at h;split at h
 ·rename_i dY L n;have key:∀(b:List (z×z×Nat)) (bj:Array MapEntry) (r:Option (Nat×z)),bj.toList=b.map (dP F)->(∀e∈b,bs Q e.1/\bs Q e.2.1)->hj C 20 dY k=true->findKey C q dY k b 0=some r->
   (match r with|none=>(match kg C L with|some aj=>some (ba ok (.tuple [aj,.bool false]) aj)|none=>none)|some (_,v)=>some (ba ok (.tuple [v,.bool true]) v))=some v->
   (do
    Instr.checkKey bj.isEmpty 10000 dY (aq F k)
    let(v,I)<-match<-Instr.findKey dY (aq F k) bj.toList with
     |some (_,v)=>pure (v,true)|none=>pure (<-zeroValue L,false)
    pure (if ok then .tuple #[v,.bool I]else v):Sem Value).run C.P w=.ok (aq F v) w/\bs Q v:=by
   intro b bj r T5 P T0 O i;obtain⟨T9,T7⟩:=AI T0;have c:=yE (C:=C) (F:=F) (Q:=Q) (w:=w) (e:=bj.isEmpty) 20 10000 dY k Zd N T0;have d:=uj K T7 N P O;rw[T5];cases r with
   |none=>
    simp only at i;split at i
    ·rename_i aj T8;obtain⟨T3,T4⟩:=pF T8 F Q w;simp at i;subst i;cases ok
     ·exact⟨by simp[c,d,k1,T3],T4⟩
     ·exact⟨by simp[c,d,k1,T3,aq,bf],⟨T4,trivial,trivial⟩⟩
    ·simp at i
   |some p=>
    obtain⟨j,R⟩:=p;simp at i;subst i;obtain⟨_,e,T6,rfl⟩:=Al b 0 j R O;have X:=(P e (Zl T6)).2;cases ok
    ·exact⟨by simp[c,d,k1],X⟩
    ·exact⟨by simp[c,d,k1,aq,bf],⟨X,trivial,trivial⟩⟩
  split at h
  ·simp at h
  ·rename_i a;split at a
   ·simp only[cO]at a;have:=key [] #[] none rfl Zs a.1 (by simp[findKey]) h;refine⟨?_,this.2⟩;rw[<-this.1];simp only[Instr.lookup,Sem.run_bind,run_underlying n,Result.andThen_ok,aq];rfl
   ·rename_i r;split at a
    ·rename_i b bz g;simp only[cO]at a;obtain⟨bj,c,_,d,f⟩:=m9 K s g;have:=key b bj none d f a.1 a.2 h;refine⟨?_,this.2⟩;rw[<-this.1];simp only[Instr.lookup,Sem.run_bind,run_underlying n,Result.andThen_ok,aq,c];rfl
    ·rename_i b g;simp only[cO]at a;obtain⟨bj,bz,gW,c,d,A,f⟩:=K.obj r _ g s;have aV:jx C q dY k b=some none:=(by have:=a.2;unfold s0 at this;split at this<;>simp at this;all_goals(rename_i V;first|(rw[V])|exact V|(rw[V];simp)));obtain⟨G,x,l⟩:=GI gW 0 _ (GJ A.symm _ aV);cases G with|none=>have:=key gW bj none d f a.1 x h;refine⟨?_,this.2⟩;rw[<-this.1];simp only[Instr.lookup,Sem.run_bind,run_underlying n,Result.andThen_ok,aq,MapKept.run_getObj_map c];rfl|some p=>obtain⟨T1,T2⟩:=p;simp at l
    ·simp at a
   ·simp at a
  ·rename_i j R a;split at a
   ·simp only[cO]at a;simp at a
   ·rename_i r;split at a
    ·rename_i b bz g;simp only[cO]at a;obtain⟨bj,c,_,d,f⟩:=m9 K s g;have:=key b bj (some (j,R)) d f a.1 a.2 h;refine⟨?_,this.2⟩;rw[<-this.1];simp only[Instr.lookup,Sem.run_bind,run_underlying n,Result.andThen_ok,aq,c];rfl
    ·rename_i b g;simp only[cO]at a;obtain⟨bj,bz,gW,c,d,A,f⟩:=K.obj r _ g s;have aV:jx C q dY k b=some (some R):=(by have:=a.2;unfold s0 at this;split at this<;>simp at this;all_goals(rename_i V;first|(rw[this.2])|exact V|(rw[V];simp[this])));obtain⟨G,x,l⟩:=GI gW 0 _ (GJ A.symm _ aV);cases G with|none=>simp at l|some p=>obtain⟨T1,T2⟩:=p;simp at l;subst l;have:=key gW bj (some (T1,T2)) d f a.1 x h;refine⟨?_,this.2⟩;rw[<-this.1];simp only[Instr.lookup,Sem.run_bind,run_underlying n,Result.andThen_ok,aq,Sem.run_pure,MapKept.run_getObj_map c];rfl
    ·simp at a
   ·simp at a
 ·simp at h
def R6{t f:Nat}{x:Operand}{ab:Operand->Value}{a:Operand->Option z}{v:z}(m:fx F Q ab a [x])
 (h:uG C t x f q a=some v):(Instr.field t (ab x) f).run C.P w=.ok (aq F v) w/\bs Q v:=by
 unfold uG at h;split at h
 ·rename_i c cs k l;obtain⟨e,g⟩:=m x Zs _ l;rw[e];split at h
  ·rename_i b n;have j:c[f]? =some b:=(by simp_all);obtain⟨d,i⟩:=tM (F:=F) (w:=w) g h;refine⟨?_,i⟩;simp[Instr.field,run_underlying k,j,asAgg,aq,d]
  ·grind
 ·grind
def R7{t:Nat}{x:Operand}{ab:Operand->Value}{a:Operand->Option z}{v:z}(i:fx F Q ab a [x])
 (h:uH C t x q a=some v):(Instr.makeInterface t (ab x)).run C.P w=.ok (aq F v) w/\bs Q v:=by
 unfold uH at h;split at h
 ·grind
 ·rename_i d R b c f;obtain⟨e,g⟩:=i x Zs _ f;simp at h;subst h;refine⟨?_,g⟩;rw[e];cases d<;>first|exact(b _ rfl).elim|simp[Instr.makeInterface,run_underlying c,aq]
 ·grind
def R2{x:Operand}{t l:Nat}{ok:Bool}{ab:Operand->Value}{n:Operand->Option z}{v:z}(m:fx F Q ab n [x])
 (h:uE C x l ok q n=some v):(Instr.typeAssert (ab x) t l ok).run C.P w=.ok (aq F v) w/\bs Q v:=by
 unfold uE at h;split at h
 ·grind
 ·rename_i d a b f;obtain⟨e,g⟩:=m x Zs _ f;rw[e];simp only[cO]at h;obtain⟨rfl,h⟩:=h;split at h
  ·rename_i aj i;simp at h;subst h;obtain⟨j,k⟩:=pF i F Q w;refine⟨?_,k,trivial,trivial⟩;cases d<;>first|exact(a _ rfl).elim|simp[Instr.typeAssert,run_underlying b,aq,bf,j]
  ·simp at h
 ·rename_i d eu R a b f;obtain⟨e,g⟩:=m x Zs _ f;rw[e];rw[ee]at h;split at h
  ·rename_i c;subst c;simp at h;cases ok
   ·simp at h;subst h;refine⟨?_,g⟩;cases d<;>first|exact(a _ rfl).elim|simp[Instr.typeAssert,run_underlying b,aq]
   ·simp at h;subst h;refine⟨?_,g,trivial,trivial⟩;cases d<;>first|exact(a _ rfl).elim|simp[Instr.typeAssert,run_underlying b,aq,bf]
  ·rename_i c;simp only[cO]at h;obtain⟨rfl,h⟩:=h;split at h
   ·rename_i aj i;simp at h;subst h;obtain⟨j,k⟩:=pF i F Q w;refine⟨?_,k,trivial,trivial⟩;cases d<;>first|exact(a _ rfl).elim|simp[Instr.typeAssert,run_underlying b,aq,bf,j,c]
   ·simp at h
 ·simp at h
def Gv:∀(l:List Nat),uI l=l.getLast?:=by intro l;induction l with|nil=>rfl|cons a l U=>cases l with|nil=>rfl|cons b l=>assumption
def FV(b:Nat):∀(a:List (z×z×Nat)),(a.map (dP F)).find? (·.born==b)=(mb b a).map (dP F):=by
 intro a;induction a with
 |nil=>rfl|cons e a U=>
  simp only[ZG,mb,zi,dP,ee];by_cases h:e.2.2=b
  ·simp[h,dP]
  ·grind
def FW(b:Nat):∀(c:List (z×z×Nat)) e,mb b c=some e->e∈c:=by intro c;induction c with|nil=>intro e h;simp[mb]at h|cons a c U=>intro e h;simp only[mb,ee]at h;grind
def R5(K:bW C F Q q u aO w){i:Operand}{ab:Operand->Value}{X:Operand->Option z}{v:z}(T3:fx F Q ab X [i])
 (h:sU C i q X=some v):(Instr.entry (ab i)).run C.P w=.ok (aq F v) w/\bs Q v:=by
 unfold sU at h;split at h
 ·rename_i r T2;obtain⟨e,g⟩:=T3 i Zs _ T2;rw[e];split at h
  ·rename_i m P seen T4 A;split at h
   ·rename_i a d bz f x;simp only[cO]at h;obtain⟨c,h⟩:=h;have c:=Zn c;subst c;split at h
    ·rename_i k R b W;simp at h;subst h;obtain⟨G,p,T0⟩:=K.obj r _ A g;obtain⟨bj,L,_,N,O⟩:=m9 K (T0 m rfl) x;have t:bj.find? (λe=>e.born==a)=some (dP F (k,R,b)):=(by have:=FV (F:=F) a d;rw[<-N,W]at this;rw[<-Array.find?_toList];exact this);have s:seen.toArray.back?=some a:=(by rw[<-f,Gv];simp);have H:(getObj (F r).bA).run C.P w=.ok (.mapIter (some (F m).bA) P seen.toArray bz) w:=(by simp[getObj,Sem.run,p]);obtain⟨j,l⟩:=O _ (FW a d _ W);refine⟨?_,j,l,trivial⟩;simp[Instr.entry,aq,G,H,s,L,t,dP,bf]
    ·simp at h
   ·simp at h
  ·rename_i m P n bC T4 T5 A;split at h
   ·rename_i a d bz x;simp only[cO]at h;obtain⟨c,h⟩:=h;have c:=Zn c;subst c;split at h
    ·rename_i k R b W;simp at h;subst h;obtain⟨G,T1,seen,p,_,f⟩:=K.obj r _ A g;have f:=f a rfl;obtain⟨bj,L,_,N,O⟩:=m9 K T1 x;have t:bj.find? (λe=>e.born==a)=some (dP F (k,R,b)):=(by have:=FV (F:=F) a d;rw[<-N,W]at this;rw[<-Array.find?_toList];exact this);have s:seen.toArray.back?=some a:=(by rw[<-f,Gv];simp);have H:(getObj (F r).bA).run C.P w=.ok (.mapIter (some (F m).bA) P seen.toArray bz) w:=(by simp[getObj,Sem.run,p]);obtain⟨j,l⟩:=O _ (FW a d _ W);refine⟨?_,j,l,trivial⟩;simp[Instr.entry,aq,G,H,s,L,t,dP,bf]
    ·simp at h
   ·simp at h
  ·simp at h
 ·simp at h
def NG(K:bW C F Q q u aO w){t:Nat}{bM:Array TypeId}{ty:TypeId}{x v:z}{rest:List TypeId}(i:bM.toList=t::rest)(e:bs Q x)(h:vP C q t x=some v):
 (Builtin.len_ bM ty #[aq F x]).run C.P w=.ok (aq F v) w/\bs Q v:=by
 have b:bM[0]? =some t:=by rw[<-Z2,i];rfl
 unfold vP at h;split at h<;>(try simp only[Gl]at h)
 ·rename_i s a;simp at h;subst h;refine⟨?_,trivial⟩;have k:(dz s).size=s.length:=by simp[dz,ByteArray.size]
  simp[Builtin.len_,b,run_underlying a,aq,goInt,k]
 ·rename_i n c a;simp at h;subst h;refine⟨?_,trivial⟩;simp[Builtin.len_,b,run_underlying a,goInt];simp[aq]
 ·rename_i bj a;split at h
  ·rename_i n c l;simp at h;subst h;refine⟨?_,trivial⟩;simp[Builtin.len_,b,run_underlying a,run_underlying l,goInt];simp[aq]
  ·simp at h
 ·rename_i a;simp at h;subst h;refine⟨?_,trivial⟩;simp[Builtin.len_,b,run_underlying a,aq,goInt]
 ·rename_i a;simp at h;subst h;refine⟨?_,trivial⟩;simp[Builtin.len_,b,run_underlying a,aq,goInt]
 ·rename_i a;simp at h;subst h;refine⟨?_,trivial⟩;simp[Builtin.len_,b,run_underlying a,aq,goInt]
 ·rename_i a;simp at h;subst h;refine⟨?_,trivial⟩;simp[Builtin.len_,b,run_underlying a,aq,goInt]
 ·rename_i a;simp at h;subst h;refine⟨?_,trivial⟩;simp[Builtin.len_,b,run_underlying a,aq,goInt]
 ·rename_i r a;split at h
  ·rename_i d bz j;simp at h;subst h;obtain⟨bj,f,m,g,p⟩:=m9 K e j;refine⟨?_,trivial⟩
   have:bj.size=d.length:=by rw[<-Array.length_toList,g,Zj]
   simp[Builtin.len_,b,run_underlying a,aq,goInt,f,this]
  ·simp at h
 ·simp at h
def Nz{t:Nat}{bM:Array TypeId}{ty:TypeId}{x v:z}{rest:List TypeId}(c:bM.toList=t::rest)(h:vM C t x=some v):
 (Builtin.cap_ bM ty #[aq F x]).run C.P w=.ok (aq F v) w/\bs Q v:=by
 have b:bM[0]? =some t:=by rw[<-Z2,c];rfl
 unfold vM at h;split at h<;>(try simp only[Gl]at h)
 ·rename_i a;simp at h;subst h;refine⟨?_,trivial⟩;simp[Builtin.cap_,b,run_underlying a,aq,goInt]
 ·rename_i a;simp at h;subst h;refine⟨?_,trivial⟩;simp[Builtin.cap_,b,run_underlying a,aq,goInt]
 ·simp at h
def NK:∀(l:List z) (x v:z),h5 true x l=some v->((bf F l).foldlM Builtin.max2 (aq F x)).run C.P w=.ok (aq F v) w/\(bs Q x->bs Q v):=by
 intro l;induction l with
 |nil=>intro x v h;cases x<;>simp[h5]at h<;>subst h<;>simp[bf]|cons o l U=>
  intro x v h;unfold h5 at h;split at h
  ·grind
  ·rename_i k a f b g e;obtain⟨rfl,rfl⟩:=e;obtain⟨c,d⟩:=U _ _ h;refine⟨?_,λ_=>d trivial⟩;simp only[la,cY,Zf]at c;exact c
  ·simp at h
def NL:∀(l:List z) (x v:z),h5 false x l=some v->((bf F l).foldlM Builtin.min2 (aq F x)).run C.P w=.ok (aq F v) w/\(bs Q x->bs Q v):=by
 intro l;induction l with
 |nil=>intro x v h;cases x<;>simp[h5]at h<;>subst h<;>simp[bf]|cons o l U=>
  intro x v h;unfold h5 at h;split at h
  ·grind
  ·rename_i k a f b g e;obtain⟨rfl,rfl⟩:=e;obtain⟨c,d⟩:=U _ _ h;refine⟨?_,λ_=>d trivial⟩;simp only[la,cY,Zf]at c;exact c
  ·grind
def fx.mono{ab:Operand->Value}{b:Operand->Option z}{l a:List Operand}(h:fx F Q ab b l)(c:∀x∈a,x∈l):fx F Q ab b a:=λx e v d=>h x (c x e) v d
def Af{ab:Operand->Value}{a:Operand->Option z}{I:Option Operand}{r:Option z}(c:fx F Q ab a I.toList)(h:py a I=some r):I.map ab=r.map (aq F):=by
 cases I with
 |none=>simp[py]at h;subst h;rfl|some x=>
  simp only[py]at h;split at h
  ·rename_i v b;simp at h;subst h;simp[(c x Zs v b).1]
  ·grind
def NH(K:bW C F Q q u aO w){oper:Oper}{ab:Operand->Value}{G:Operand->Option z}{v:z}(g:fx F Q ab G oper.op.operands.toList)
 (h:iw oper.op C q G=some v):vA F Q C.P w (execOp ab oper) v:=by
 obtain⟨dst,op,type,pos,after,guard⟩:=oper;cases op<;>simp only[iw]at h<;>(try(cases h;done))<;>simp only[execOp]<;>simp only[Op.operands]at g;case build t L=>
  refine h6 ?_;unfold AL at h;split at h
  ·rename_i b4 T1;obtain⟨j,p⟩:=FM (by simpa using g) T1;have:=Ny (F:=F) (w:=w) p h;rw[<-j]at this;have e:(L.map λx=>(x.1,ab x.2))=(L.toList.map λx=>(x.1,ab x.2)).toArray:=by apply Array.ext';simp
   rw[e];exact this
  ·simp at h
 case binOp op t x o T7=>exact h6 (R3 K (by simpa using g) h)
 case unOp op t x=>
  refine h6 ?_;unfold AS at h;split at h
  ·rename_i a r;rw[(g x Zs a r).1];exact NQ h
  ·simp at h
 case convert s d x=>exact h6 (R4 K (by simpa using g) h)
 case makeInterface t x=>exact h6 (R7 (by simpa using g) h)
 case makeFunc fn first T3=>
  refine h6 ?_;unfold AO at h;split at h
  ·rename_i a b r W;split at h
   ·simp at h;subst h;obtain⟨aL,bt⟩:=lB (g.mono (by simp;intro x n;exact .inl n)) r;obtain⟨bc,bp⟩:=lB (g.mono (by simp;intro x n;exact .inr n)) W;refine⟨?_,trivial,bt,bp⟩;simp[Instr.makeFunc,aL,bc,aq,hQ]
   ·simp at h
  ·simp at h
 case slice t x aT ag T6=>
  refine h6 ?_;unfold AR at h;split at h
  ·rename_i a l T4 m r X P T0;have j:=g x Zs a r;have p:=Af (g.mono (by simp;intro x n;exact .inr (.inl n))) X;have N:=Af (g.mono (by simp;intro x n;exact .inr (.inr (.inl n)))) P;have O:=Af (g.mono (by simp;intro x n;exact .inr (.inr (.inr n)))) T0;rw[j.1,p,N,O];exact NN K j.2 h
  ·simp at h
 case field t x f=>exact h6 (R6 (by simpa using g) h)
 case index t x i=>
  refine h6 ?_;unfold AP at h;split at h
  ·rename_i a b r W;have j:=g x Zs a r;rw[j.1,(g i Zs b W).1];exact NE j.2 h
  ·simp at h
 case lookup t m k ok=>
  refine h6 ?_;unfold AQ at h;split at h
  ·rename_i a b r W;have j:=g m Zs a r;have p:=g k Zs b W;rw[j.1,p.1];exact NI K j.2 p.2 h
  ·simp at h
 case entry T5=>exact h6 (R5 K (by simpa using g) h)
 case typeAssert x t T2 ok=>exact h6 (R2 (by simpa using g) h)
 case call c=>
  unfold AN at h;split at h
  ·rename_i b args bM;simp only[Call.operands]at g;have A:fx F Q ab G args.toList:=g.mono Zs;unfold AM at h;split at h
   ·rename_i x n;obtain⟨aL,bt⟩:=lB A n;split at h
    ·rename_i t rest r;obtain⟨j,p⟩:=NG (ty:=type) K r bt.1 h;refine⟨?_,p⟩;simp[resolve,invoke,builtin,aL,bf,j]
    ·simp at h
   ·rename_i x n;obtain⟨aL,bt⟩:=lB A n;split at h
    ·rename_i t rest r;obtain⟨j,p⟩:=Nz (F:=F) (Q:=Q) (w:=w) (ty:=type) r h;refine⟨?_,p⟩;simp[resolve,invoke,builtin,aL,bf,j]
    ·simp at h
   ·rename_i x l n;obtain⟨aL,bt⟩:=lB A n;obtain⟨j,p⟩:=NK (C:=C) (F:=F) (Q:=Q) (w:=w) l x v h;refine⟨?_,p bt.1⟩;simp[resolve,invoke,builtin,Builtin.max_,aL,bf,j]
   ·rename_i x l n;obtain⟨aL,bt⟩:=lB A n;obtain⟨j,p⟩:=NL (C:=C) (F:=F) (Q:=Q) (w:=w) l x v h;refine⟨?_,p bt.1⟩;simp[resolve,invoke,builtin,Builtin.min_,aL,bf,j]
   ·simp at h
  ·simp at h
def GF(K:bW C F Q q u aO w){oper:Oper}{ab:Operand->Value}{wr:List (Nat×Nat)}{ad:List (Nat×z)}{B:E z}{c:fT}{v:z}
 (A:fx F Q ab (fA wr ad B) oper.op.operands.toList)(g:g6 C wr oper.op=some c)(h:d6 c C q ad B=some v):vA F Q C.P w (execOp ab oper) v:=by
 have rest:∀I,oper.op=I->c=.eP wr I->vA F Q C.P w (execOp ab oper) v:=by intro I U0 TY;subst TY;subst U0;exact NH K A h
 obtain⟨dst,op,type,pos,after,guard⟩:=oper;cases op<;>simp only[g6]at g<;>simp only[Op.operands]at A;case move x=>
  split at g
  ·rename_i T0 L;simp at g;subst g;simp only[d6,h7 L]at h;obtain⟨N,O⟩:=A x Zs v h;exact⟨by simp[execOp,N],O⟩
  ·simp at g
 case assign x=>
  split at g
  ·rename_i T0 L;simp at g;subst g;simp only[d6,h7 L]at h;obtain⟨N,O⟩:=A x Zs v h;exact⟨by simp[execOp,N],O⟩
  ·simp at g
 case pick T7 a b=>
  split at g
  ·rename_i U6 T6 U5 T9 X W;simp at g;subst g;simp only[d6,h7 T9]at h;split at h
   ·rename_i R G;obtain⟨N,O⟩:=A T7 Zs R G;unfold x1 at h;split at h
    ·rename_i t;rw[h7 X,h7 W]at h;simp only[execOp,N,aq];cases t
     ·obtain⟨l,p⟩:=A b Zs v (by simpa using h);exact⟨by simp[asBool,l],p⟩
     ·obtain⟨l,p⟩:=A a Zs v (by simpa using h);exact⟨by simp[asBool,l],p⟩
    ·simp at h
   ·simp at h
  ·simp at g
 case load t a=>
  split at g
  ·rename_i T6 s X N O;simp at g;subst g;simp only[d6,h7 X]at h;split at h
   ·rename_i R G;obtain⟨l,p⟩:=A a Zs R G;simp only[execOp,l];exact h6 (EE K N O p h)
   ·simp at h
  ·rename_i T6 X N;simp at g;subst g;simp only[d6,h7 X]at h;split at h
   ·rename_i R G;obtain⟨l,p⟩:=A a Zs R G;simp only[execOp,l];exact h6 (ED K N p h)
   ·simp at h
  ·simp at g
 case fieldAddr s x f=>
  split at g
  ·rename_i U8 T0 G L;rw[jz]at g;split at g
   ·rename_i U7 TZ;split at g
    ·rename_i aj T2;simp only[ss]at g;obtain⟨U2,g⟩:=g;simp at g;subst g;simp only[d6,h7 L]at h;split at h
     ·rename_i R T1;obtain⟨l,p⟩:=A x Zs R T1;simp only[execOp,l];exact h6 (P7 G TZ T2 (by intro e;subst e;simp at U2) p h)
     ·simp at h
    ·simp at g
   ·simp at g
  ·simp at g
 case indexAddr t x i=>
  split at g
  ·rename_i n ct T0 U3 G L ag;split at g
   ·rename_i aN T2;simp at g;subst g;simp only[d6,h7 L,h7 ag]at h;split at h
    ·rename_i R T1;split at h
     ·rename_i j T4;split at h
      ·rename_i U4 T5;obtain⟨k,rfl⟩:=q1 T5;obtain⟨l,p⟩:=A x Zs R T1;obtain⟨P,T3⟩:=A i Zs _ T4;simp only[execOp,l,P,aq];exact h6 (RH G T2 p h)
      ·simp at h
     ·simp at h
    ·simp at h
   ·simp at g
  ·rename_i ct T0 U3 G L ag;split at g
   ·rename_i aN T2;simp at g;subst g;simp only[d6,h7 L,h7 ag]at h;split at h
    ·rename_i R T1;split at h
     ·rename_i j T4;split at h
      ·rename_i U4 T5;obtain⟨k,rfl⟩:=q1 T5;obtain⟨l,p⟩:=A x Zs R T1;obtain⟨P,T3⟩:=A i Zs _ T4;simp only[execOp,l,P,aq];exact h6 (RK G T2 p h)
      ·simp at h
     ·simp at h
    ·simp at h
   ·simp at g
  ·simp at g
 case nilCheck x=>
  split at g
  ·rename_i T0 L;simp at g;subst g;simp only[d6,h7 L]at h;split at h
   ·rename_i R G;obtain⟨l,p⟩:=A x Zs R G;obtain⟨rfl,P⟩:=adq (C:=C) (F:=F) (w:=w) p h;exact⟨P _ ab x rfl l,p⟩
   ·simp at h
  ·simp at g
 case binOp op t x o UB=>
  rw[cY]at g;split at g
  ·split at g
   ·rename_i T0 UA L U1;simp at g;subst g;simp only[d6,h7 L,h7 U1]at h;split at h
    ·rename_i a X;split at h
     ·rename_i b W;obtain⟨N,O⟩:=A x Zs a X;obtain⟨l,p⟩:=A o Zs b W;obtain⟨P,T3,k,i,U9,j,rfl,rfl⟩:=EC (C:=C) (F:=F) (Q:=Q) (w:=w) t h;simp only[execOp,N,l];refine h6 ⟨?_,T3⟩;rw[Sem.run_bind,wn (by simp[sB])];exact P
     ·simp at h
    ·simp at h
   ·simp at g
  ·simp at g;exact rest _ rfl g.symm
 case extract x i=>
  split at g
  ·rename_i T0 L;simp at g;subst g;simp only[d6,h7 L]at h;split at h
   ·rename_i R G;obtain⟨l,p⟩:=A x Zs R G;simp only[execOp,l];exact h6 (adp p h)
   ·simp at h
  ·simp at g
 case convert s d x=>
  rw[cY]at g;split at g
  ·simp at g;subst g;simp[d6]at h
  ·simp at g;exact rest _ rfl g.symm
 case store t a x=>
  split at g
  ·simp at g;subst g;simp[d6]at h
  ·simp at g
 case makeMap t r=>cases r<;>simp[g6]at g<;>subst g<;>simp[d6]at h
 case call T8=>
  obtain⟨callee,args,bM⟩:=T8;cases callee with
  |builtin b=>
   cases b<;>simp[g6]at g<;>first
    |exact rest _ rfl g.symm|(subst g;simp[d6]at h)
  |value f=>
   cases f<;>simp[g6]at g;all_goals first
    |(subst g;simp[d6]at h;done)|(
      split at g
      ·simp at g;subst g;simp[d6]at h
      ·simp at g)
  |invoke r m=>simp[g6]at g;subst g;simp[d6]at h
 all_goals(simp at g;first|exact rest _ rfl g.symm|(subst g;simp[d6]at h))
def dm{C:al}{q:E S}{b:Nat}(I:Option S)(W:C.aB<=b)(x:Nat):H C (aH C q b I) x=if x=b then I else H C q x:=by
 unfold H aH;rw[cY,cY];by_cases a:Nat.blt x C.aB=true
 ·have:=hy a;grind
 ·have hR:C.aB<=x:=by simp_all
  rw[Zi a,Zi a,E.e0];grind
def Ay{C:al}:∀(l:List Nat) (q:E S) (x:Nat),(∀b∈l,C.aB<=b)->H C (fi C l q) x=if x∈l then none else H C q x:=by intro l;induction l with|nil=>intro q x _;simp[fi]|cons b l U=>intro q x h;simp only[fi];rw[U _ _ (λc a=>h c (by simp[a])),dm _ (h b Zs)];grind
def dR(F:bX)(b:Nat)(pl:hv):bX:=λx=>if x=b then pl else F x
def add(Q:Nat->Prop)(b:Nat):Nat->Prop:=λx=>Q x\/x=b
structure eH(C:al)(bQ:Nat)(F:bX)(Q:Nat->Prop)(q:E S)(aO:Nat)(w:World)(bY:bX)(b9:Nat->Prop)(D:E S)(a2:World):Prop where
 e2:∀b,Q b->bY b=F b
 fz:∀b,Q b->b9 b
 new:∀b,b9 b->Q b\/bQ<=b
 M:∀b,¬Q b->b<bQ->H C D b=H C q b
 below:Below aO w a2
def eH.refl{C:al}{bQ:Nat}{F:bX}{Q:Nat->Prop}{q:E S}{aO:Nat}{w:World}:eH C bQ F Q q aO w F Q q w:=
 ⟨λ_ _=>rfl,λ_ h=>h,λ_ h=> .inl h,λ_ _ _=>rfl,.refl _ _⟩
def eH.trans{C:al}{bQ d:Nat}{F bY f:bX}{Q b9 a:Nat->Prop}{q D c:E S}{aO:Nat}{w a2 e:World}(h:eH C bQ F Q q aO w bY b9 D a2)(j:bQ<=d)
 (k:eH C d bY b9 D aO a2 f a c e):eH C bQ F Q q aO w f a c e:=
 ⟨λb W=>(k.e2 b (h.fz b W)).trans (h.e2 b W),λb W=>k.fz b (h.fz b W),
  λb W=>(k.new b W).elim (λW=>h.new b W) (λW=> .inr Zo),
  λb W g=>by
   have i:=λai=>(h.new b ai).elim W (λV=>Zo);rw[k.M b i Zo,h.M b W g],
  h.below.trans k.below⟩
variable{bY:bX}{b9:Nat->Prop}{D:E S}{Z:Nat}{a2:World}
def jW(a:∀b,Q b->bY b=F b){v:z}(g:bs Q v):aq bY v=aq F v:=yZ a v g
def nJ(a:∀b,Q b->bY b=F b){l:List z}(g:cz Q l):bf bY l=bf F l:=su a l g
def fy.M{n ac:Nat}{B:E z}{tmps:Array Value}(g:∀b,Q b->bY b=F b)(d:∀b,Q b->b9 b)(h:fy F Q n ac B tmps):fy bY b9 n ac B tmps:=
 ⟨h.size,λt v e f=>by
  obtain⟨c,a⟩:=h.val t v e f;exact⟨by rw[c,jW g a],iV d v a⟩⟩
def yP(a:∀b,Q b->bY b=F b){d:eD}(g:o8 Q d):hm bY d=hm F d:=by
 obtain⟨t,j⟩:=d;obtain⟨c,f⟩:=g;simp only[hm,nJ a f];cases t with
 |fn fn cs=>
  obtain⟨h,i⟩:=c;have e:hQ bY fn=hQ F fn:=by cases fn<;>simp only[hQ];rw[a _ h]
  simp only[qd,e,nJ a i]
 |collected r=>simp only[qd,a r c]
def F8(a:∀b,Q b->b9 b){d:eD}(g:o8 Q d):o8 b9 d:=by obtain⟨t,c⟩:=d;refine⟨?_,kx a _ g.2⟩;cases t with|fn fn cs=>exact⟨by cases fn<;>first|exact a _ g.1.1|exact g.1.1,kx a _ g.1.2⟩|collected r=>exact a _ g.1
def f7.M{I:S}{pl:hv}(p:∀b,Q b->bY b=F b)(k:∀b,Q b->b9 b)(r:a2.heap[pl.bA]? =w.heap[pl.bA]?)(h:f7 C F Q I pl w):f7 C bY b9 I pl a2:=by
 cases I with
 |cells c n st=>obtain⟨bj,ty,aT,ag,g,f,a,t⟩:=h;refine⟨bj,ty,aT,ag,by rw[r,g],f,a,λi v P=> ?_⟩;obtain⟨N,A⟩:=t i v P;exact⟨by rw[N,jW p A],iV k v A⟩
 |map L bz=>obtain⟨bj,g,f,a⟩:=h;refine⟨bj,by rw[r,g], ?_,λe j=>⟨iV k _ (a e j).1,iV k _ (a e j).2⟩⟩;rw[f];apply Ys;intro e j;simp only[dP,jW p (a e j).1,jW p (a e j).2]
 |look L=>obtain⟨bj,bz,gW,g,f,t,a⟩:=h;refine⟨bj,bz,gW,by rw[r,g], ?_,t,λe j=>⟨iV k _ (a e j).1,iV k _ (a e j).2⟩⟩;rw[f];apply Ys;intro e j;simp only[dP,jW p (a e j).1,jW p (a e j).2]
 |iH s pos=>exact⟨h.1,by rw[r,h.2.1],h.2.2⟩|fD m X seen st=>
  obtain⟨x,g,f⟩:=h;refine⟨x, ?_,λb W=>k b (f b W)⟩;rw[r,g];cases m with
  |none=>rfl|some m=>simp only[ZX,p m (f m rfl)]
 |qZ m X n bC st T0=>obtain⟨x,g,seen,f,a⟩:=h;exact⟨x,k m g,seen,by rw[r,f,p m g],a⟩
 |loop state pending fn n ac B params assign body aP=>obtain⟨tmps,g,f,a,t⟩:=h;exact⟨tmps,by rw[r,g,p aP a],f.M p k,k _ a,t⟩
 |deferred G=>obtain⟨g,f⟩:=h;refine⟨?_,λl O d ai=>F8 k (f l O d ai)⟩;rw[r,g];cases G with|none=>rfl|some l=>simp only[ZX];congr 3;exact Ys λd ai=>(yP p (f l rfl d ai)).symm
def f7.lt{I:S}{pl:hv}(h:f7 C F Q I pl w):pl.bA<w.heap.size:=by
 have:∃x,w.heap[pl.bA]? =some x:=by
  cases I with
  |cells c n st=>obtain⟨bj,ty,aT,ag,a,_⟩:=h;exact⟨_,a⟩
  |map b bz=>obtain⟨bj,a,_⟩:=h;exact⟨_,a⟩
  |look b=>obtain⟨bj,bz,gW,a,_⟩:=h;exact⟨_,a⟩
  |iH s pos=>exact⟨_,h.2.1⟩|fD m d seen st=>exact⟨_,h.2.1⟩|qZ m d n bC st f=>obtain⟨_,_,seen,a,_⟩:=h;exact⟨_,a⟩
  |loop state pending fn n ac B params assign body aP=>obtain⟨tmps,a,_⟩:=h;exact⟨_,a⟩
  |deferred e=>exact⟨_,h.1⟩
 grind
def bW.alloc(K:bW C F Q q u aO w){b:Nat}{pl:hv}{bU:S}{I:Obj}(W:C.aB<=b)(TY:b<Z)(T5:u<=Z)(T4:¬Q b)(cx:aO<=w.heap.size)(TZ:pl.bA=w.heap.size)
 (N:H C D b=some bU)(O:∀x,x≠b->H C D x=H C q x\/H C D x=none)(T6:f7 C (dR F b pl) (add Q b) bU pl (w.alloc I))(T7:mH C (add Q b) bU):
 bW C (dR F b pl) (add Q b) D Z aO (w.alloc I):=by
 have i:∀x,Q x->dR F b pl x=F x:=λx a=>by unfold dR;rw[Zi];intro e;subst e;exact T4 a
 have r:dR F b pl b=pl:=by unfold dR;rw[Zv rfl]
 have T8:∀k,k<w.heap.size->(w.alloc I).heap[k]? =w.heap[k]? :=λk T2=>Below.heap_alloc _ _ _ T2;have key:∀x d,H C D x=some d->add Q b x->x≠b->H C q x=some d/\Q x/\(F x).bA<w.heap.size:=by
  intro x d a ai p;have P:=ai.resolve_right p;rcases O x p with h|h
  ·have:H C q x=some d:=by rw[<-h,a]
   exact⟨this,P,(K.obj x d this P).lt⟩
  ·grind
 refine⟨ZE K.aB T5, ?_, ?_, ?_, ?_, ?_, ?_⟩
 ·intro x a;rcases a with a|a
  ·have:=K.lt x a;omega
  ·omega
 ·intro x d a;by_cases e:x=b
  ·omega
  ·rcases O x e with h|h
   ·have:=K.mq x d (by rw[<-h,a]);omega
   ·rw[h]at a;cases a
 ·intro x d a ai;by_cases e:x=b
  ·subst e;rw[N]at a;cases a;rw[r];exact T6
  ·obtain⟨g,f,m⟩:=key x d a ai e;rw[i x f];exact(K.obj x d g f).M i (λ_ h=> .inl h) (T8 _ m)
 ·intro x o d A a t cb G p v s;by_cases e:x=b
  ·subst e;by_cases j:o=x
   ·exact absurd j.symm p
   ·obtain⟨g,f,m⟩:=key o A t G j;rw[r,i o f]at s;omega
  ·obtain⟨g,f,m⟩:=key x d a cb e;by_cases j:o=b
   ·subst j;rw[r,i x f]at s;omega
   ·obtain⟨T1,L,T9⟩:=key o A t G j;rw[i x f,i o L]at s ⊢;exact K.sep x o d A g T1 f L p v s
 ·intro x d v a ai;by_cases e:x=b
  ·subst e;rw[r];omega
  ·obtain⟨g,f,m⟩:=key x d a ai e;rw[i x f];exact K.base x d v g f
 ·intro x d a ai;by_cases e:x=b
  ·subst e;rw[N]at a;cases a;exact T7
  ·obtain⟨g,f,m⟩:=key x d a ai e;refine⟨λc n l T3 o t=> ?_,(K.b3 x d g f).2⟩;obtain⟨X,T0⟩:=(K.b3 x d g f).1 c n l T3 o t;exact⟨.inl X,T0⟩
def bW.Ah(K:bW C F Q q u aO w)(i:∀x,H C D x=H C q x\/H C D x=none):bW C F Q D u aO w:=by
 have key:∀x a,H C D x=some a->H C q x=some a:=by grind
 exact⟨K.aB,K.lt,λx a b=>K.mq x a (key x a b),λx a b ai=>K.obj x a (key x a b) ai,
  λx o a d b h cb e g c f=>K.sep x o a d (key x a b) (key o d h) cb e g c f,λx a c b ai=>K.base x a c (key x a b) ai,λx a b ai=>K.b3 x a (key x a b) ai⟩
def bW.put(K:bW C F Q q u aO w){b:Nat}{bU ic:S}(W:C.aB<=b)(ai:Q b)(n:H C q b=some bU)(j:H C D b=some ic)
 (v:∀x,x≠b->H C D x=H C q x\/H C D x=none)(s:∀k,k≠(F b).bA->a2.heap[k]? =w.heap[k]?)
 (r:∀x a,x≠b->H C D x=some a->Q x->(F x).bA=(F b).bA->False)(A:f7 C F Q ic (F b) a2)(p:mH C Q ic):bW C F Q D u aO a2:=by
 have key:∀x a,x≠b->H C D x=some a->H C q x=some a:=by grind
 refine⟨K.aB,K.lt, ?_, ?_, ?_, ?_, ?_⟩
 ·intro x a c;by_cases e:x=b
  ·subst e;exact K.lt x ai
  ·exact K.mq x a (key x a e c)
 ·intro x a c cb;by_cases e:x=b
  ·grind
  ·exact(K.obj x a (key x a e c) cb).M (λ_ _=>rfl) (λ_ h=>h) (s _ λV=>r x a e c cb V)
 ·intro x o a f c t cb g m d l;by_cases e:x=b
  ·grind
  ·by_cases i:o=b
   ·grind
   ·exact K.sep x o a f (key x a e c) (key o f i t) cb g m d l
 ·intro x a d c cb;by_cases e:x=b
  ·subst e;exact K.base x bU d n ai
  ·exact K.base x a d (key x a e c) cb
 ·intro x a c cb;by_cases e:x=b
  ·subst e;rw[j]at c;cases c;exact p
  ·exact K.b3 x a (key x a e c) cb
def vz(I:S):Prop:=(∀c n,I≠ .cells c n .fG)/\(∀c n l,I≠ .cells c n (.grow l))
def bW.alone(K:bW C F Q q u aO w){b:Nat}{bU:S}(W:C.aB<=b)(ai:Q b)(g:H C q b=some bU)(a:vz bU):
 ∀x d,x≠b->H C q x=some d->Q x->(F x).bA=(F b).bA->False:=by
 intro x d f h cb e;rcases(K.sep b x bU d g h ai cb (λV=>f V.symm) W e.symm).1 with ⟨c,n,_,_,V,_⟩|⟨c,n,l,_,_,V,_⟩|⟨_,_,_,c,n,_,V,_⟩
 ·exact a.1 _ _ V
 ·exact a.2 _ _ _ V
 ·exact a.1 _ _ V
def mf(w:World)(I:Obj):(w.alloc I).heap[w.heap.size]? =some I:=by show(w.heap.push I)[w.heap.size]? =_;simp
def gT(F:bX)(b:Nat)(pl:hv):dR F b pl b=pl:=by unfold dR;rw[Zv rfl]
def ke{b:Nat}{pl:hv}(a:¬Q b):∀x,Q x->dR F b pl x=F x:=λx c=>by unfold dR;rw[Zi];intro e;subst e;exact a c
def fI(F:bX)(l:List z):(bf F l).length=l.length:=by rw[jo,Zj]
def oU(F:bX)(l:List z)(i:Nat):(bf F l)[i]? =(l[i]?).map (aq F):=by rw[jo,Zt]
def qh(F:bX)(a b:List z):bf F (a++b)=bf F a++bf F b:=by simp[jo]
def o9{a b:List z}(c:cz Q a)(W:cz Q b):cz Q (a++b):=by rw[md]at*;grind
def pa{l:List z}(h:cz Q l){i:Nat}{v:z}(a:l[i]? =some v):bs Q v:=(md Q l).1 h v (Zl a)
def g0(l:List z)(i:Nat):(E.ofList l 0 .nil).get i=l[i]? :=by rw[E.wF];simp_all
def v2{l:List z}(g:cz Q l)(ty:TypeId)(r:Nat)(w:World):f7 C F Q (.cells (E.ofList l 0 .nil) l.length .own) ⟨w.heap.size,0,r⟩ (w.alloc (.cells (bf F l).toArray ty)):=by refine⟨_,ty,0,0,mf _ _,rfl,by simp[fI],λi v a=> ?_⟩;rw[g0]at a;refine⟨?_,pa g a⟩;simp only[ZK,zj,oU,a,ZX]
def ru(n:Nat)(aj:List z):(fj n aj).length=n*aj.length:=by induction n with|zero=>simp[fj]|succ n U=>simp[fj,U,Nat.succ_mul,Nat.add_comm]
def BD(aj:List z):∀(n i:Nat),i<n*aj.length->(fj n aj)[i]? =aj[i%aj.length]? :=by
 intro n;induction n with
 |zero=>grind|succ n U=>
  intro i h;simp only[fj];rw[Nat.succ_mul]at h;by_cases ag:i<aj.length
  ·rw[ZQ ag,zc ag]
  ·rw[ZW Zo,U _ Zo];congr 1;exact(Nat.mod_eq_sub_mod Zo).symm
def wI{aj:List z}(h:cz Q aj):∀n,cz Q (fj n aj):=by intro n;induction n with|zero=>trivial|succ n U=>exact o9 h U
def HV(F:bX)(aj:List z)(n:Nat):((Array.range (n*aj.length)).map λi=>(bf F aj).toArray[i%aj.length]!)=(bf F (fj n aj)).toArray:=by
 apply Array.ext';rw[Array.toList_map,Array.toList_range];apply Y7;intro i;rw[Zt,oU];by_cases ag:i<n*aj.length
 ·rw[List.getElem?_range ag,BD aj n i ag];have b:0<aj.length:=by grind
  have a:i%aj.length<aj.length:=Nat.mod_lt _ b;rw[Zb a];simp only[ZX];rw[getElem!_pos _ _ (by simpa[fI]using a)];simp[jo]
 ·have c:(List.range (n*aj.length))[i]? =none:=Yt Zx;have d:(fj n aj)[i]? =none:=Yt (by rw[ru];omega);grind
def HW(F:bX)(aj:List z)(s n:Nat)(c:aj.length=s)(zero:Array Value)(a:n*s≠0->zero=(bf F aj).toArray):
 ((Array.range (n*s)).map (zero[·%zero.size]!))=(bf F (fj n aj)).toArray:=by
 subst c;by_cases h:n*aj.length=0
 ·have b:=YP.1 (by rw[ru];exact h);rw[h,b];simp[bf]
 ·rw[a h, <-HV];simp[fI]
def GQ{oper:Oper}{ab:Operand->Value}{L:Operand->Option z}{b:Nat}{v:z}{bU:S}(P:¬Q b)(m:fx F Q ab L oper.op.operands.toList)
 (h:jS oper.op C L b=some (v,bU)):∃I,(execOp ab oper).run C.P w=.ok (.value (aq (dR F b ⟨w.heap.size,0,0⟩) v)) (w.alloc I)/\bs (add Q b) v/\
  f7 C (dR F b ⟨w.heap.size,0,0⟩) (add Q b) bU ⟨w.heap.size,0,0⟩ (w.alloc I):=by
 have n:=ke (F:=F) (pl:=⟨w.heap.size,0,0⟩) P;have j:∀x,Q x->add Q b x:=λ_ h=> .inl h;obtain⟨dst,op,type,pos,after,guard⟩:=oper;cases op<;>simp only[jS]at h<;>(try(cases h;done))<;>simp only[execOp]<;>simp only[Op.operands]at m;case alloc t=>
  unfold qV at h;split at h
  ·rename_i aj l;simp at h;obtain⟨rfl,rfl⟩:=h;obtain⟨p,g⟩:=pF l F Q w;refine⟨.cells (bf F aj.cells).toArray t, ?_,.inr rfl, ?_⟩
   ·simp[Instr.alloc,p,newVar,newRow,l6,aq,gT]
   ·have:=v2 (C:=C) (F:=dR F b ⟨w.heap.size,0,0⟩) (Q:=add Q b) (kx j _ (lF g)) t 0 w;rw[nJ n (lF g)]at this;exact this
  ·simp at h
 case box t x=>
  unfold uM at h;split at h
  ·rename_i R k;simp at h;obtain⟨rfl,rfl⟩:=h;obtain⟨d,a⟩:=m x Zs R k;refine⟨.cells (bf F R.cells).toArray t, ?_,.inr rfl, ?_⟩
   ·simp[Instr.box,newVar,newRow,d,l6,aq,gT]
   ·have:=v2 (C:=C) (F:=dR F b ⟨w.heap.size,0,0⟩) (Q:=add Q b) (kx j _ (lF a)) t 0 w;rw[nJ n (lF a)]at this;exact this
  ·simp at h
 case buildSlice t len G=>
  unfold uN at h;split at h
  ·rename_i ct b4 k T0;split at h
   ·rename_i s aj T1 l;simp only[cO,Zu]at h;obtain⟨⟨d,a⟩,h⟩:=h;have d:=e7 d;have a:=Zn a;split at h
    ·rename_i cs O;simp at h;obtain⟨rfl,rfl⟩:=h;obtain⟨p,g⟩:=pF l F Q w;obtain⟨T2,T3⟩:=FM (by simpa using m) T0;obtain⟨N,A⟩:=Ai (F:=F) (xm:=λi=>some (i*s,s)) (λ_ _ h=>h) b4 (fj len aj.cells) cs (wI (lF g) len) T3 O;refine⟨.cells (bf F cs).toArray ct, ?_,.inr rfl, ?_⟩
     ·have e:(G.map λx=>(x.1,ab x.2)).toList=b4.map λx=>(x.1,aq F x.2):=(by rw[<-T2];simp);have eL:¬(len*s>2^24):=by
       have:(2:Nat)^24=16777216:=by decide
       omega
      have f:Instr.fill (λi=>some (i*s,s)) ((Array.range (len*s)).map ((if len*s=0 then #[]else(aq F aj).cells)[·%(if len*s=0 then #[]else(aq F aj).cells).size]!)) (G.map λx=>(x.1,ab x.2)).toList=some (bf F cs).toArray:=(by rw[HW F aj.cells s len a _ (λX=>by rw[Zi X,l6]),e];exact N);simp only[Instr.buildSlice,Sem.run_bind,run_underlying k,Result.andThen_ok,iG T1];rw[Zi eL];by_cases c:len*s=0
      ·rw[Zv c]at f;simp only[Zv c,Sem.run_bind,Sem.run_pure,Result.andThen_ok,f];simp[newRow,aq,gT]
      ·simp only[Zi c]at f;simp only[Zi c,Sem.run_bind,Sem.run_pure,Result.andThen_ok,p,f];simp[newRow,aq,gT]
     ·have:=v2 (C:=C) (F:=dR F b ⟨w.heap.size,0,0⟩) (Q:=add Q b) (kx j _ A) ct 0 w;rw[nJ n A]at this;exact this
    ·simp at h
   ·simp at h
  ·simp at h
 case makeMap t r=>
  cases r with
  |some r=>simp[jS]at h|none=>
   simp[jS]at h;obtain⟨rfl,rfl⟩:=h;refine⟨.map #[] 0, ?_,.inr rfl, ?_⟩
   ·simp[Instr.makeMap,aq,gT]
   ·exact⟨#[],mf _ _,rfl,Zs⟩
def fP:Array Value->Nat->List Value->Array Value
 |c,_,[]=>c|c,I,v::l=>fP (c.setIfInBounds I v) (I+1) l
def ng:∀(l:List Value) (c:Array Value) (I:Nat),(fP c I l).size=c.size:=by intro l;induction l with|nil=>intro c I;rfl|cons v l U=>intro c I;simp[fP,U]
def xG:∀(l:List Value) (c:Array Value) (I i:Nat),I+l.length<=c.size->(fP c I l)[i]? =if I<=i/\i<I+l.length then l[i-I]? else c[i]? :=by intro l;induction l with|nil=>intro c I i _;rw[Zi (by simp only[ZT];omega)];rfl|cons v l U=>intro c I i h;simp only[ZI]at h;simp only[fP];grind
def xD(P:Program)(g I:Nat)(t:TypeId)(aT ag:Nat):∀(aG:List Value) (i:Nat) (a:Array Value) (w:World),w.heap[g]? =some (.cells a t (aT,ag))->(ag<=aT\/a.size<=aT)->
 I+i+aG.length<=a.size->(∀v∈aG,v.oneCell'=true)->(storeCells ⟨g,I,none⟩ aG i).run P w=.ok () (w.setRow g (fP a (I+i) aG)):=by
 intro aG;induction aG with
 |nil=>intro i a w b _ _ _;simp only[fP];rw[setRow_self w g a t _ b];rfl|cons v aG U=>
  intro i a w b f j c;simp only[ZI]at j;have d:(⟨g,I,none⟩:Addr).add i=⟨g,I+i,none⟩:=jT _ _ _;have e:w.cell? ⟨g,I+i,none⟩=some a[I+i]:=by simp[World.cell?,b]
  have h:w.frozen? ⟨g,I+i,none⟩=false:=by simp only[World.frozen?,b,Bool.and_eq_false_iff,Zc];omega
  have k:(store ((⟨g,I,none⟩:Addr).add i) v).run P w=.ok () (w.setRow g (a.setIfInBounds (I+i) v)):=by rw[d,run_store P w _ v _ (c v Zs),e];simp[h,setCell_eq_setRow w g (I+i) a t _ v b]
  have:=U (i+1) (a.setIfInBounds (I+i) v) (w.setRow g (a.setIfInBounds (I+i) v)) (setRow_heap w g a _ t _ b) (by simpa using f) Zx (λx l=>c x (by simp[l]));simp only[storeCells,Sem.run_bind,k,Result.andThen_ok,this,setRow_setRow];rfl
def yJ{p:Nat}(cx:aO<=p)(cs:Array Value)(w:World):Below aO w (w.setRow p cs):=
 ⟨rfl,rfl,rfl,Zs,λk a=>setRow_other w p k cs Zo⟩
def xh:∀{aG:List z},dU aG=true->∀v∈bf F aG,v.oneCell'=true:=by
 intro aG;induction aG with
 |nil=>intro _ v b;simp[bf]at b|cons a l U=>
  intro h v b;simp only[dU,Zu]at h;simp only[bf,Zq]at b;rcases b with rfl|b
  ·cases a<;>simp[hI]at h<;>rfl
  ·grind
def IY{c:E z}{bj:Array Value}{cn I n:Nat}{aG:List z}(b:cz Q aG)(e:I+aG.length<=n)(d:cn+n<=bj.size)
 (h:∀i v,c.get i=some v->bj[cn+i]? =some (aq F v)/\bs Q v):
 ∀i v,(cj c I aG).get i=some v->(fP bj (cn+I) (bf F aG))[cn+i]? =some (aq F v)/\bs Q v:=by
 intro i v a;rw[B9,E.wF]at a;rw[xG _ _ _ _ (by rw[fI];omega),fI];split at a
 ·rename_i ag;rw[Zv Zo,oU,show cn+i-(cn+I)=i-I by omega,a];exact⟨rfl,pa b a⟩
 ·grind
def xZ{c:E z}{I n:Nat}{aG:List z}(b:I+aG.length<=n)(h:∀i v,c.get i=some v->i<n):∀i v,(cj c I aG).get i=some v->i<n:=by intro i v a;rw[B9,E.wF]at a;grind
def s9{l:List z}:∀i v,(E.ofList l 0 .nil).get i=some v->i<l.length:=by intro i v a;rw[g0]at a;grind
def tP(K:bW C F Q q u aO w){bQ b I:Nat}{aG:List z}(ai:Q b)(T1:cz Q aG)(h:g5 C q b I aG=some D):
 ∃a2,(storeCells ⟨(F b).bA,(F b).cn+I,none⟩ (bf F aG)).run C.P w=.ok () a2/\bW C F Q D u aO a2/\eH C bQ F Q q aO w F Q D a2:=by
 unfold g5 at h;split at h
 ·rename_i c n st f;simp only[cO,Zu]at h;obtain⟨⟨⟨i,N⟩,O⟩,h⟩:=h;have i:=e7 i;have W:=e7 N;obtain⟨bj,ty,aT,ag,aL,bt,a3,a4⟩:=K.obj b _ f ai;have T6:st≠ .fG:=λe=>(by subst e;simp at h);refine⟨w.setRow (F b).bA (fP bj ((F b).cn+I) (bf F aG)), ?_, ?_⟩
  ·exact xD C.P _ _ ty aT ag (bf F aG) 0 bj w aL (bt.free T6) (by rw[fI];omega) (xh O)
  have T7:=setRow_heap w (F b).bA bj (fP bj ((F b).cn+I) (bf F aG)) ty (aT,ag) aL;have T0:=K.base b _ W f ai;have A:Below aO w (w.setRow (F b).bA (fP bj ((F b).cn+I) (bf F aG))):=yJ T0 _ _;have L:∀k,k≠(F b).bA->(w.setRow (F b).bA (fP bj ((F b).cn+I) (bf F aG))).heap[k]? =w.heap[k]? :=λk T2=>setRow_other w _ k _ T2;have fin:∀fF,sg fF n (F b) bj.size aT ag->f7 C F Q (.cells (cj c I aG) n fF) (F b) (w.setRow (F b).bA (fP bj ((F b).cn+I) (bf F aG))):=by intro fF s;refine⟨_,ty,aT,ag,T7,by rw[ng];exact s,by rw[ng];exact a3,IY T1 i a3 a4⟩
  have plain:∀fF,vz (.cells c n st)->sg fF n (F b) bj.size aT ag->(∀l,fF≠ .grow l)->D=aH C q b (some (.cells (cj c I aG) n fF))->
   bW C F Q D u aO (w.setRow (F b).bA (fP bj ((F b).cn+I) (bf F aG)))/\eH C bQ F Q q aO w F Q D (w.setRow (F b).bA (fP bj ((F b).cn+I) (bf F aG))):=by
   intro fF X s T4 P;subst P;have r:H C (aH C q b (some (.cells (cj c I aG) n fF))) b=some (.cells (cj c I aG) n fF):=(by rw[dm _ W,Zv rfl]);have g:∀x,x≠b->H C (aH C q b (some (.cells (cj c I aG) n fF))) x=H C q x:=λx a=>(by rw[dm _ W,Zi a]);refine⟨K.put W ai f r (λx a=> .inl (g x a)) L ?_ (fin fF s) ⟨λm t l d=>(by cases d;exact absurd rfl (T4 _)),λm t T9 d=>(by cases d;exact xZ i ((K.b3 b _ f ai).2 _ _ _ rfl))⟩, ?_⟩
   ·intro x v j a cb p;rw[g x j]at a;exact K.alone W ai f X x v j a cb p
   ·exact⟨λ_ _=>rfl,λ_ h=>h,λ_ h=> .inl h,λx a _=>g x (λe=>a (e▸ai)),A⟩
  cases st with
  |own=>simp only[du,Zh]at h;exact plain .own ⟨Zs,Zs⟩ bt Zs h.symm|marked=>simp only[du,Zh]at h;exact plain .marked ⟨Zs,Zs⟩ bt Zs h.symm|grow b3=>
   simp only[du,Zh]at h;have G:=(K.b3 b _ f ai).1 _ _ _ rfl;subst h;have r:H C (aH C (fi C b3 q) b (some (.cells (cj c I aG) n (.grow [])))) b=some (.cells (cj c I aG) n (.grow [])):=(by rw[dm _ W,Zv rfl]);have g:∀x,x≠b->H C (aH C (fi C b3 q) b (some (.cells (cj c I aG) n (.grow [])))) x=if x∈b3 then none else H C q x:=λx a=>(by rw[dm _ W,Zi a,Ay _ _ _ λo T8=>(G o T8).2]);refine⟨K.put W ai f r (λx a=> ?_) L ?_ (fin (.grow []) bt) ⟨λm t l d=>(by cases d;simp),λm t T9 d=>(by cases d;exact xZ i ((K.b3 b _ f ai).2 _ _ _ rfl))⟩, ?_⟩
   ·rw[g x a];split
    ·exact .inr rfl
    ·exact .inl rfl
   ·intro x v j a cb p;rw[g x j]at a;split at a
    ·cases a
    ·rename_i T5;rcases(K.sep b x _ v f a ai cb (λV=>j V.symm) W p.symm).1 with ⟨_,_,_,_,V,_⟩|⟨_,_,l,_,_,V,_,d,_⟩|⟨_,_,_,_,_,_,V,_⟩
     ·cases V
     ·cases V;exact T5 d
     ·cases V
   ·exact⟨λ_ _=>rfl,λ_ h=>h,λ_ h=> .inl h,λx a _=>by
     rw[g x (λe=>a (e▸ai)),Zi (λT3=>a (G x T3).1)],A⟩
  |fG=>simp at h
 ·simp at h
def oy(C:al)(F:bX)(Q:Nat->Prop)(q:E S)(u aO:Nat)(w:World)(s:Sem Next)(v:z)(D:E S)(Z:Nat):Prop:=
 ∃bY b9 a2 n,s.run C.P w=.ok n a2/\(n=.value (aq bY v)\/(n=.skip/\v=undef))/\bs b9 v/\bW C bY b9 D Z aO a2/\eH C u F Q q aO w bY b9 D a2/\u<=Z
def putObj(K:bW C F Q q u aO w){bQ b:Nat}{bU ic:S}{fO dG:Obj}(W:C.aB<=b)(ai:Q b)(g:H C q b=some bU)(m:vz bU)(i:w.heap[(F b).bA]? =some fO)
 (p:∀c e f,fO≠ .cells c e f)(r:∀a2:World,a2.heap[(F b).bA]? =some dG->f7 C F Q ic (F b) a2)(s:mH C Q ic):
 ∃a2,(Go.setObj (F b).bA dG).run C.P w=.ok () a2/\bW C F Q (aH C q b (some ic)) u aO a2/\eH C bQ F Q q aO w F Q (aH C q b (some ic)) a2:=by
 have t:(Go.setObj (F b).bA dG).run C.P w=.ok () {w with heap:=w.heap.setIfInBounds (F b).bA dG}:=by
  cases fO<;>first
   |exact absurd rfl (p _ _ _)|simp[Go.setObj,Sem.run,i]
 obtain⟨a7,bl⟩:=MapKept.heap_set i;have v:H C (aH C q b (some ic)) b=some ic:=by rw[dm _ W,Zv rfl]
 have d:∀x,x≠b->H C (aH C q b (some ic)) x=H C q x:=λx a=>by rw[dm _ W,Zi a]
 have G:=K.base b _ W g ai;refine⟨_,t,K.put W ai g v (λx a=> .inl (d x a)) (λk j=>bl k j) ?_ (r _ a7) s, ?_⟩
 ·intro x A l a cb n;rw[d x l]at a;exact K.alone W ai g m x A l a cb n
 ·exact⟨λ_ _=>rfl,λ_ h=>h,λ_ h=> .inl h,λx a _=>d x (λe=>a (e▸ai)),rfl,rfl,rfl,Zs,λk j=>bl k Zo⟩
def tn{r:Nat}{I:S}{v:z}{res:ck}(h:setObj C q u r I v=some res):res=.cJ v (aH C q r (some I)) u/\C.aB<=r:=by unfold setObj at h;simp only[du,cO,Zh]at h;exact⟨h.2.symm,e7 h.1⟩
def xs(K:bW C F Q q u aO w){bQ r:Nat}{b gW:List (z×z×Nat)}{bz nI:Nat}{qb:Array MapEntry}(W:C.aB<=r)(ai:Q r)(a:H C q r=some (.map b bz))
 (d:qb.toList=gW.map (dP F))(f:∀e∈gW,bs Q e.1/\bs Q e.2.1):
 ∃a2,(Go.setObj (F r).bA (.map qb nI)).run C.P w=.ok () a2/\bW C F Q (aH C q r (some (.map gW nI))) u aO a2/\eH C bQ F Q q aO w F Q (aH C q r (some (.map gW nI))) a2:=by
 obtain⟨bj,c,_,_⟩:=K.obj r _ a ai;exact putObj K W ai a ⟨Zs,Zs⟩ c Zs (λa2 g=>⟨qb,g,d,f⟩) ⟨λ_ _ _ h=>(by cases h),λ_ _ _ h=>(by cases h)⟩
def act(K:bW C F Q q u aO w){s:Nat}{t:TypeId}{a v:z}{res:ck}(f:fk C t=some s)(d:bs Q a)(dj:bs Q v)(h:xM C q u s a v=some res):
 ∃D,res=.cJ undef D u/\∀R:Sem Next,(∀a2,(Instr.storeAt t (aq F a) (aq F v)).run C.P w=.ok () a2->R.run C.P w=.ok .skip a2)->oy C F Q q u aO w R undef D u:=by
 unfold xM at h;split at h
 ·rename_i b I;simp only[cO,Zu]at h;obtain⟨⟨c,k⟩,h⟩:=h;have c:=Zn c;split at h
  ·rename_i D e;simp at h;obtain⟨a2,a7,bl,j⟩:=tP K d (lF dj) e;refine⟨D,h.symm,λR i=>⟨F,Q,a2,.skip,i a2 ?_,.inr ⟨rfl,rfl⟩,by trivial,bl,j,Zg _⟩⟩;have g:(aq F v).cells.size=s:=(by rw[l6];simp[fI,c]);simp only[Instr.storeAt,Instr.sureAddr,aq,Sem.run_bind,Result.andThen_ok,storeVar,iG f,g,ne_eq];simp only[l6];exact a7
  ·grind
 ·grind
def RV:∀(n:Nat),(∀(m:Nat) (x o:z),n<=m->bs Q x->bs Q o->hS n x o=true->Instr.sameBits m (aq F x) (aq F o)=true)/\
 ∀(m:Nat) (a b:List z),n<=m->cz Q a->cz Q b->hS.pf n a b=true->(bf F a).length=(bf F b).length/\((bf F a).zip (bf F b)).all (λ(x,o)=>Instr.sameBits m x o)=true:=by
 intro n;induction n with
 |zero=>
  refine⟨λm x o _ _ _ h=>by simp[hS]at h, ?_⟩;intro m a;induction a with
  |nil=>intro b _ _ _ h;cases b<;>simp[hS.pf]at h<;>simp[bf]|cons x a _=>intro b _ _ _ h;cases b<;>simp[hS.pf,hS]at h
 |succ n U=>
  have one:∀(m:Nat) (x o:z),n+1<=m->bs Q x->bs Q o->hS (n+1) x o=true->Instr.sameBits m (aq F x) (aq F o)=true:=by
   intro m x o d g i h;obtain⟨m,rfl⟩:∃k,m=k+1:=⟨m-1,Zo⟩;unfold hS at h;split at h<;>(try(cases h;done))
   ·simpa[aq,Instr.sameBits]using h
   ·simp at h;obtain⟨rfl,rfl⟩:=h;simp[aq,Instr.sameBits]
   ·rename_i a b;have:=(uV _ _).1 h;subst this;simp only[aq,Instr.sameBits];rw[E6];simp
   ·rename_i b I r dG;simp only[Zu]at h;have c:=Zn h.1;have j:=Zn h.2;subst c;subst j;simp[aq,Instr.sameBits]
   ·simp[aq,Instr.sameBits]
   ·simp[aq,Instr.sameBits]
   ·rename_i t v eu p;simp only[Zu]at h;have c:=Zn h.1;subst c;simp[aq,Instr.sameBits,U.1 m v p Zo g i h.2]
   ·rename_i a b;obtain⟨a7,bl⟩:=U.2 m a b Zo g i h;simp only[aq,Instr.sameBits,Zu];exact⟨by simpa using a7,by simpa using bl⟩
  refine⟨one, ?_⟩;intro m a;induction a with|nil=>intro b _ _ _ h;cases b<;>simp[hS.pf]at h<;>simp[bf]|cons x a l=>intro b d e f h;cases b with|nil=>simp[hS.pf]at h|cons o b=>simp only[hS.pf,Zu]at h;obtain⟨a7,bl⟩:=l b d e.2 f.2 h.2;simp only[bf,ZI,List.zip_cons_cons,List.all_cons,Zu];exact⟨Zo,one m x o d e.1 f.1 h.1,bl⟩
def RW{he new:z}(go:bs Q he)(a:bs Q new)(h:hS 20 he new=true):(Instr.keyThatStays (aq F he) (aq F new)).run C.P w=.ok (aq F new) w:=by simp[Instr.keyThatStays,(RV (Q:=Q) 20).1 10000 he new Zd go a h]
def Pv{bj:Array MapEntry}{a:List (z×z×Nat)}{i:Nat}{e:z×z×Nat}(b:bj.toList=a.map (dP F))(h:a[i]? =some e):bj[i]? =some (dP F e):=by rw[<-Z2,b,Zt,h];rfl
def Ta{bj:Array MapEntry}{a:List (z×z×Nat)}{i:Nat}{e b:z×z×Nat}(f:MapEntry->MapEntry)(c:bj.toList=a.map (dP F))(h:a[i]? =some e)
 (d:f (dP F e)=dP F b):(bj.modify i f).toList=(a.set i b).map (dP F):=by
 apply Y7;grind
def QO{b:List (z×z×Nat)}{i:Nat}{a:z×z×Nat}(d:∀e∈b,bs Q e.1/\bs Q e.2.1)(c:bs Q a.1/\bs Q a.2.1):∀e∈b.set i a,bs Q e.1/\bs Q e.2.1:=by grind
def NJ(K:bW C F Q q u aO w){t:Nat}{m k v:z}{res:ck}(f:bs Q m)(b:bs Q k)(dj:bs Q v)(h:tL C q u t m k v=some res):
 ∃D a2,res=.cJ undef D u/\(Instr.mapUpdate t (aq F m) (aq F k) (aq F v)).run C.P w=.ok () a2/\bW C F Q D u aO a2/\eH C u F Q q aO w F Q D a2:=by
 unfold tL at h;split at h
 ·rename_i dY L r x;split at h
  ·rename_i d bz j;simp only[cO]at h;obtain⟨p,h⟩:=h;obtain⟨O,s⟩:=AI p;obtain⟨bj,aL,bt,a3,a4⟩:=m9 K f j;have n:=yE (C:=C) (F:=F) (Q:=Q) (w:=w) (e:=false) 20 10000 dY k Zd b p;split at h
   ·rename_i i R c;have g:=uj K s b a4 c;obtain⟨_,e,a,rfl⟩:=Al d 0 i R c;simp only[zf]at a;rw[jz,a]at h;obtain⟨N,P,born⟩:=e;simp only[cO]at h;obtain⟨G,h⟩:=h;obtain⟨rfl,W⟩:=tn h;have A:=a4 _ (Zl a);obtain⟨a2,a7,bl,l⟩:=xs K (bQ:=u) W f j (nI:=bz) (gW:=d.set i (k,v,born)) (Ta (λe=>{e with key:=aq F k,val:=aq F v}) a3 a rfl) (QO a4 ⟨b,dj⟩);refine⟨_,a2,rfl, ?_,bl,l⟩;simp[Instr.mapUpdate,run_underlying x,aq,aL,n,a3,g,k1,Pv a3 a,dP,RW A.1 b G,a7]
   ·rename_i c;have g:=uj K s b a4 c;obtain⟨rfl,W⟩:=tn h;obtain⟨a2,a7,bl,l⟩:=xs K (bQ:=u) W f j (nI:=bz+1) (gW:=d++[(k,v,bz)]) (qb:=bj.push {key:=aq F k,val:=aq F v,born:=bz}) (by simp[a3,dP])
     (λe a=>(Zp.1 a).elim (a4 e) (λa=>by simp at a;subst a;exact⟨b,dj⟩))
    refine⟨_,a2,rfl, ?_,bl,l⟩;simp[Instr.mapUpdate,run_underlying x,aq,aL,n,a3,g,k1,a7]
   ·simp at h
  ·simp at h
 ·simp at h
def QS(li a6:Nat)(a:li+(li+768)/4<=a6):∀(r c:Nat),c<=a6->Builtin.growBy li r c<=a6:=by intro r;induction r with|zero=>intro c h;exact h|succ r U=>intro c h;simp only[Builtin.growBy];grind
def nextslicecap_le{li rg:Nat}(h:rg<li):Builtin.nextslicecap li rg<=2*li+200:=by
 unfold Builtin.nextslicecap;split
 ·omega
 ·split
  ·omega
  ·exact QS li _ Zo 4 rg Zo
def abf{li rg bytes:Nat}(h:rg<li)(c:li<=1048576)(W:bytes<=65536):¬(Builtin.nextslicecap li rg*bytes>2^48):=by have a:=nextslicecap_le h;have b:=Nat.mul_le_mul Zo W;omega
def wrap_small{n:Nat}(a:n<=1048576):IntKind.i64.wrap (n:Int)=n:=by rw[<-IW];simp only[iq,cY,Zf];grind
def yO{n b:Nat}(a:n<=1048576)(c:b<=65536):¬((281474976710656:Int)<(n:Int)*(b:Int)):=by have d:=Nat.mul_le_mul a c;grind
def lZ(P:Program)(w:World)(cb:TypeDesc)(X:Value)(i:TypeInfo)(aj:Value)(n:Nat)(new:Array Value):Prop:=
 ((cb=.string\/∃e,cb=.slice e)/\(Builtin.lenOf X).run P w=.ok n w/\(Builtin.firstCells i.size n X).run P w=.ok new w/\(Builtin.firstCells i.size n X).run P w.drew=.ok new w.drew)\/
 ((∃V,cb=.int V)/\(∃k,X=.int k (Int.ofNat n))/\n<=1048576/\i.bytes<=65536/\n*i.size≠0/\new=Builtin.zeroCells aj.cells n)
variable{P:Program}{bM:Array TypeId}{ty st eF ct:TypeId}{i:TypeInfo}{cb:TypeDesc}{base:Option Addr}{d2 gz n:Nat}{X aj:Value}{he new:Array Value}
def vT{a:Addr}(d:bM[0]? =some st)(e:bM[1]? =some eF)(h:P.underlying st=some (.slice ct))(j:P.underlying eF=some cb)(ag:P.info? ct=some i)(v:i.zero=some aj)
 (p:lZ P w cb X i aj n new)(f:d2+n<=gz)(g:(storeCells (a.add (d2*i.size)) new.toList).run P w=.ok () a2):
 (Builtin.append_ bM ty #[.slice (some a) d2 gz,X]).run P w=.ok (.slice (some a) (d2+n) gz) a2:=by
 have l:(#[Value.slice (some a) d2 gz,X]:Array Value)[0]? =some (.slice (some a) d2 gz):=rfl;have m:(#[Value.slice (some a) d2 gz,X]:Array Value)[1]? =some X:=rfl;clear l m;rcases p with ⟨x,b,c,_⟩|⟨⟨V,rfl⟩,⟨k,rfl⟩,b,c,A,rfl⟩
 ·rcases x with rfl|⟨_,rfl⟩<;>simp[Builtin.append_,d,e,run_underlying h,run_underlying j,sizeOf,typeInfo,ag,b,f,c,g]
 ·have s:=yO b c;have r:¬((n:Int)<0):=Zo;have t:=wrap_small b;simp[Builtin.append_,d,e,run_underlying h,run_underlying j,sizeOf,typeInfo,ag,asInt,asIntOf,t,s,r,f,A,zeroValue,v,g]
def ET(c:bM[0]? =some st)(d:bM[1]? =some eF)(l:P.underlying st=some (.slice ct))(p:P.underlying eF=some cb)(ag:P.info? ct=some i)(r:i.zero=some aj)
 (t:lZ P w cb X i aj n new)(g:¬(d2+n<=gz))(W:i.bytes<=65536)(A:d2+n<=1048576)(h:(Builtin.firstCells i.size d2 (.slice base d2 gz)).run P w.drew=.ok he w.drew):
 ∃cap,d2+n<=cap/\(Builtin.append_ bM ty #[.slice base d2 gz,X]).run P w=
  .ok (.slice (some ⟨w.heap.size,0,none⟩) (d2+n) cap) (w.drew.alloc (.cells (he++new++Builtin.zeroCells aj.cells (cap-(d2+n))) ct)):=by
 have K:=abf (li:=d2+n) (rg:=gz) Zo A W;have j:¬(281474976710656<Builtin.nextslicecap (d2+n) gz*i.bytes):=by
  have L:(2:Nat)^48=281474976710656:=by decide
  omega
 have e:¬((9223372036854775807:Int)<(d2:Int)+(n:Int)):=Zo;refine⟨d2+n+(w.tape w.drawn (.appendCap (d2+n) gz ct))%(2^63-(d2+n)),Zo, ?_⟩;have m:w.drew.heap.size=w.heap.size:=rfl;have f:IntKind.i64.max=9223372036854775807:=by decide
 rcases t with ⟨G,a,s,b⟩|⟨⟨V,rfl⟩,⟨k,rfl⟩,a,s,b,rfl⟩
 ·rcases G with rfl|⟨_,rfl⟩<;>
   simp[Builtin.append_,c,d,run_underlying l,run_underlying p,sizeOf,typeInfo,ag,a,g,b,zeroValue,r,f,e,j,Question.forced,Question.cut,h,newRow,m]
 ·have x:=yO a s;have v:¬((n:Int)<0):=Zo;have C:=wrap_small a;simp[Builtin.append_,c,d,run_underlying l,run_underlying p,sizeOf,typeInfo,ag,asInt,asIntOf,C,x,v,g,b,zeroValue,r,f,e,j,Question.forced,Question.cut,h,newRow,m]
structure nx(P:Program):Prop where
 mixed:P.follows .mixedOrders=true
 num:∀(f:Nat) fn,P.funcs[f]? =some fn->fn.body.isSome=true->(fn.name== "runtime.NumGoroutine")=false
def bW.same(K:bW C F Q q u aO w)(a:a2.heap=w.heap):bW C F Q q u aO a2:=
 ⟨K.aB,K.lt,K.mq,λb I h d=>(K.obj b I h d).M (λ_ _=>rfl) (λ_ h=>h) (by rw[a]),K.sep,K.base,K.b3⟩
def bW.drew(K:bW C F Q q u aO w):bW C F Q q u aO w.drew:=K.same rfl
def bW.aa6(K:bW C F Q q u aO w){b:Nat}{c:E z}{n:Nat}{b3:List Nat}(W:C.aB<=b)(ai:Q b)(m:H C q b=some (.cells c n (.grow b3))):
 bW C F Q (aH C q b (some (.cells c n .fG))) u aO w:=by
 have s:H C (aH C q b (some (.cells c n .fG))) b=some (.cells c n .fG):=by rw[dm _ W,Zv rfl]
 have f:∀x,x≠b->H C (aH C q b (some (.cells c n .fG))) x=H C q x:=λx a=>by rw[dm _ W,Zi a]
 refine⟨K.aB,K.lt, ?_, ?_, ?_, ?_, ?_⟩
 ·intro x d a;by_cases e:x=b
  ·subst e;exact K.lt x ai
  ·exact K.mq x d (by rw[<-f x e,a])
 ·intro x d a cb;by_cases e:x=b
  ·subst e;rw[s]at a;cases a;obtain⟨bj,ty,aT,ag,j,k,O,P⟩:=K.obj x _ m ai;exact⟨bj,ty,aT,ag,j,⟨trivial,k.2⟩,O,P⟩
  ·exact K.obj x d (by rw[<-f x e,a]) cb
 ·intro x o d N a i cb v r g A;by_cases e:x=b
  ·subst e;rw[s]at a;cases a;rw[f o λV=>r V.symm]at i;obtain⟨j,k⟩:=K.sep x o _ N m i cb v r g A;refine⟨?_,k⟩;rcases j with ⟨_,_,_,_,V,_⟩|⟨_,_,l,p,t,V,G,X⟩|⟨_,_,_,_,_,_,V,_⟩
   ·cases V
   ·exact .inl ⟨c,n,p,t,rfl,G⟩
   ·cases V
  ·rw[f x e]at a;by_cases L:o=b
   ·subst L;rw[s]at i;cases i;obtain⟨j,k⟩:=K.sep x o d _ a m cb v r g A;refine⟨?_,k⟩;rcases j with ⟨_,_,_,_,_,V⟩|⟨_,_,l,p,t,_,V,X⟩|⟨p,t,_,_,_,V,G,_⟩
    ·cases V
    ·cases V
    ·exact .inl ⟨p,t,c,n,G,rfl⟩
   ·rw[f o L]at i;exact K.sep x o d N a i cb v r g A
 ·intro x d g a cb;by_cases e:x=b
  ·subst e;exact K.base x _ g m ai
  ·exact K.base x d g (by rw[<-f x e,a]) cb
 ·intro x d a cb;by_cases e:x=b
  ·subst e;rw[s]at a;cases a;have:=(K.b3 x _ m ai).2 _ _ _ rfl;exact⟨λ_ _ _ h=>(by cases h),λ_ _ _ h=>(by cases h;exact this)⟩
  ·exact K.b3 x d (by rw[<-f x e,a]) cb
def bW.share(K:bW C F Q q u aO w){bA:Nat}{pl:hv}{bU:S}(cx:aO<=bA)(L:pl.bA=bA)(T5:∀k,k≠bA->a2.heap[k]? =w.heap[k]?)
 (T3:f7 C (dR F u pl) (add Q u) bU pl a2)(T4:mH C (add Q u) bU)
 (m:∀x a,H C q x=some a->Q x->(F x).bA=bA->f7 C F Q a (F x) a2/\yB bU a u x/\yB a bU x u/\pl.cn=(F x).cn):
 bW C (dR F u pl) (add Q u) (aH C q u (some bU)) (u+1) aO a2:=by
 have W:=K.aB;have T2:¬Q u:=λh=>zL (K.lt u h);have b:=ke (F:=F) (pl:=pl) T2;have s:H C (aH C q u (some bU)) u=some bU:=by rw[dm _ W,Zv rfl]
 have d:∀x,x≠u->H C (aH C q u (some bU)) x=H C q x:=λx m=>by rw[dm _ W,Zi m]
 have ar:∀x,add Q u x->x≠u->Q x:=λx h r=>h.resolve_right r;refine⟨Zo, ?_, ?_, ?_, ?_, ?_, ?_⟩
 ·intro x h;rcases h with h|h
  ·have:=K.lt x h;omega
  ·omega
 ·intro x a h;by_cases e:x=u
  ·omega
  ·have:=K.mq x a (by rw[<-d x e,h]);omega
 ·intro x a h cb;by_cases e:x=u
  ·subst e;rw[s]at h;cases h;rw[gT];exact T3
  ·rw[d x e]at h;have cb:=ar x cb e;rw[b x cb];by_cases V:(F x).bA=bA
   ·exact(m x a h cb V).1.M b (λ_ h=> .inl h) rfl
   ·exact(K.obj x a h cb).M b (λ_ h=> .inl h) (T5 _ V)
 ·intro x o a P j f cb i r N g;by_cases e:x=u
  ·subst e;rw[s]at j;cases j;have t:o≠x:=λV=>r V.symm;rw[d o t]at f;have i:=ar o i t;rw[gT,b o i]at g ⊢;obtain⟨_,A,_,G⟩:=m o P f i (by rw[<-g,L]);exact⟨A,G⟩
  ·rw[d x e]at j;have p:=ar x cb e;by_cases v:o=u
   ·subst v;rw[s]at f;cases f;rw[gT,b x p]at g ⊢;obtain⟨_,_,T0,G⟩:=m x a j p (by rw[g,L]);exact⟨T0,G.symm⟩
   ·rw[d o v]at f;have O:=ar o i v;rw[b x p,b o O]at g ⊢;exact K.sep x o a P j f p O r N g
 ·intro x a N h cb;by_cases e:x=u
  ·subst e;rw[gT,L];exact cx
  ·rw[d x e]at h;have cb:=ar x cb e;rw[b x cb];exact K.base x a N h cb
 ·intro x a h cb;by_cases e:x=u
  ·subst e;rw[s]at h;cases h;exact T4
  ·rw[d x e]at h;have cb:=ar x cb e;refine⟨λc n l T1 o t=> ?_,(K.b3 x a h cb).2⟩;obtain⟨X,A⟩:=(K.b3 x a h cb).1 c n l T1 o t;exact⟨.inl X,A⟩
def GB{c:E z}{I n:Nat}{l:List z}(h:c.gs I n=some l):l.length=n:=(E.wE _ _ _ _ h).1
def yU{b I n:Nat}{l:List z}(h:gq C q b I n=some l):l.length=n:=by
 unfold gq at h;split at h
 ·exact GB h
 ·simp_all
def I2(F:bX)(aj:z)(n:Nat):Builtin.zeroCells (aq F aj).cells n=(bf F (fj n aj.cells)).toArray:=by rw[l6, <-HV];simp[Builtin.zeroCells,fI]
def Ij(F:bX)(s:List Nat)(a:∀x∈s,x<256):((dz s).data.map λb=>Value.int .u8 b.toNat)=(bf F (s.map λn=>z.int .u8 (Int.ofNat n))).toArray:=by apply Array.ext';simp only[dz,jo];simp only[List.map_toArray,Ya];apply Ys;intro x c;simp[aq,zc (a x c)]
def ab2(K:bW C F Q q u aO w){x:z}{i:TypeInfo}{aj:Value}{cb:TypeDesc}{n:Nat}{l:List z}(d:bs Q x)(f:cb=.string\/∃e,cb=.slice e)(h:fQ C q i.size x=some (n,l)):
 lZ C.P w cb (aq F x) i aj n (bf F l).toArray/\cz Q l/\l.length=n*i.size:=by
 unfold fQ at h;split at h
 ·simp at h;obtain⟨rfl,rfl⟩:=h;refine⟨.inl ⟨f, ?_, ?_, ?_⟩,trivial,Zs⟩<;>simp[aq,Builtin.lenOf,Builtin.firstCells,bf]
 ·simp at h;obtain⟨rfl,rfl⟩:=h;refine⟨.inl ⟨f, ?_, ?_, ?_⟩,trivial,Zs⟩<;>simp[aq,Builtin.lenOf,Builtin.firstCells,bf,loadCells,loadCellsFrom]
 ·rename_i b I len cap;split at h
  ·rename_i t c;simp at h;obtain⟨rfl,rfl⟩:=h;obtain⟨a,g⟩:=sq K d c;obtain⟨j,_⟩:=sq K.drew d c;refine⟨.inl ⟨f, ?_, ?_, ?_⟩,g,yU c⟩<;>simp[aq,Builtin.lenOf,Builtin.firstCells,a,j]
  ·simp at h
 ·rename_i b I len cap;split at h
  ·rename_i t c;simp at h;obtain⟨rfl,rfl⟩:=h;obtain⟨a,g⟩:=sq K d c;obtain⟨j,_⟩:=sq K.drew d c;refine⟨.inl ⟨f, ?_, ?_, ?_⟩,g,yU c⟩<;>simp[aq,Builtin.lenOf,Builtin.firstCells,a,j]
  ·simp at h
 ·rename_i s;simp only[cO]at h;obtain⟨a,h⟩:=h;have a:i.size=1:=Zn a;simp at h;obtain⟨rfl,rfl⟩:=h;have p:(dz s).size=s.length:=by simp[dz,ByteArray.size]
  have m:(dz s).extract 0 s.length=dz s:=by rw[<-p];exact ByteArray.extract_zero_size
  have k:=Ij F s d;refine⟨.inl ⟨f, ?_, ?_, ?_⟩, ?_,by simp[a]⟩
  ·simp[aq,Builtin.lenOf,p]
  ·simp only[aq,Builtin.firstCells,m,Sem.run_pure];rw[k];simp
  ·simp only[aq,Builtin.firstCells,m,Sem.run_pure];rw[k];simp
  ·rw[md];intro v r;obtain⟨o,_,rfl⟩:=ZC.1 r;trivial
 ·simp at h
end
end Go.aF
