/- Part of the last text; no conditions -/
import Derived.Test.YtehmapikajmjaaaGreatDoorYa
import Derived.Laws.BytesString
import Derived.MapKept
import Derived.Laws.NewFold
import Derived.Laws.CopyRow
set_option maxHeartbeats 8000000
set_option linter.all false
namespace Go.aC
open Go.RowKit (Below)
section
variable{C:ai}{D:bT}{Q:Nat->Prop}{j:B R}{k aN:Nat}{w:World}
def binOp_eql{t:TypeId}{X cU:Value}(c:∀q a i b,¬(X=.int q a/\cU=.int i b))(d:∀a b,¬(X=.string a/\cU=.string b))
 (f:∀q a,X≠ .float q a)(g:∀q a b,X≠ .complex q a b):binOp .eql t X cU=(do pure (.bool (<-Op.equal t X cU)))/\binOp .neq t X cU=(do pure (.bool (!(<-Op.equal t X cU)))):=by
 constructor
 ·unfold binOp;grind
 ·unfold binOp;split;all_goals first
   |rfl|exact absurd ⟨rfl,rfl⟩ (c _ _ _ _)|exact absurd ⟨rfl,rfl⟩ (d _ _)|exact absurd rfl (f _ _)|exact absurd rfl (g _ _ _)|simp_all
def E4(D:bT)(v:y):(∀q a,aq D v≠ .float q a)/\∀q a b,aq D v≠ .complex q a b:=by cases v<;>simp[aq]
def PB{m:Nat}{t:TypeId}{a:Array (String×TypeId)}(c:C.P.underlying t=some (.interface a))(b:a.isEmpty=true):(Op.eqGuardIn (m+1) t .nilIface .nilIface).run C.P w=.ok false w:=by simp[Op.eqGuardIn,run_underlying c,b]
def PC{op:BinOp}{t:TypeId}{x h:Operand}{X cU:Value}(e:(j0 x||j0 h)=true)(a:∀c d,¬(X=.agg c/\cU=.agg d)):
 (eqGuard op t x h X cU).run C.P w=.ok () w:=by
 cases op<;>first|rfl|(cases x<;>cases h<;>first|(simp[j0]at e;done)|(cases X<;>cases cU<;>first|rfl|exact absurd ⟨rfl,rfl⟩ (a _ _)))
def PD{op:BinOp}{t:TypeId}{x h:Operand}{a:Array (String×TypeId)}(d:C.P.underlying t=some (.interface a))(c:a.isEmpty=true):
 (eqGuard op t x h .nilIface .nilIface).run C.P w=.ok () w:=by
 have key:=PB (w:=w) (m:=9999) d c;have b:Op.maxDepth=9999+1:=rfl;cases op<;>first|rfl|(cases x<;>cases h<;>first|rfl|(simp[eqGuard,b,key];done))
def PE{op:BinOp}{t:TypeId}{x h:Operand}(e:(j0 x||j0 h||(match C.P.underlying t with|some (.interface b)=>b.isEmpty|_=>false))=true):
 (eqGuard op t x h .nilIface .nilIface).run C.P w=.ok () w:=by
 by_cases a:(j0 x||j0 h)=true
 ·exact PC a Zs
 ·have a:(j0 x||j0 h)=false:=by grind
  rw[a]at e;split at e
  ·rename_i b c;exact PD c e
  ·grind
def PF{op:BinOp}{t:TypeId}{x h:Operand}{X cU:Value}(a:¬(X=.nilIface/\cU=.nilIface))(b:∀c d,¬(X=.agg c/\cU=.agg d)):
 (eqGuard op t x h X cU).run C.P w=.ok () w:=by
 cases op<;>first|rfl|(cases X<;>cases cU<;>first|rfl|exact absurd ⟨rfl,rfl⟩ a|exact absurd ⟨rfl,rfl⟩ (b _ _))
def wd{op:BinOp}{t:TypeId}{x h:Operand}{a b:y}(e:sw C t (j0 x||j0 h) a b=true):
 (eqGuard op t x h (aq D a) (aq D b)).run C.P w=.ok () w:=by
 unfold sw at e;split at e
 ·exact PE e
 ·simp only[aq];exact run_eqGuard_agg w op t x h _ _ (by simpa using e)
 ·rename_i ak ar;refine PF ?_ ?_
  ·rintro⟨f,g⟩;cases a<;>simp[aq]at f;cases b<;>simp[aq]at g;grind
  ·rintro c d ⟨f,g⟩;cases a<;>simp[aq]at f;cases b<;>simp[aq]at g;exact ar _ _ rfl rfl
def NQ{op:BinOp}{x h:List Nat}{v:y}(b:∀a∈x,a<256)(c:∀a∈h,a<256)(e:oP op x h=some v):
 (Op.stringOp op (dz x) (dz h)).run C.P w=.ok (aq D v) w/\bp Q v:=by
 have d:=BE b c;have f:Op.bytesLess (dz x).toList (dz h).toList=pw x h:=by rw[vR,vR];exact Ig b c
 cases op<;>simp only[oP,yx,cL,Zh]at e<;>
  first
  |(
    obtain⟨g,rfl⟩:=e;constructor
    ·have m:(dz x).size=x.length:=by simp[dz,ByteArray.size]
     have n:(dz h).size=h.length:=by simp[dz,ByteArray.size]
     have l:=fu g;simp only[Op.stringOp];rw[Zi (by simp[IntKind.max,IntKind.signed,IntKind.bits];omega)];simp only[Sem.run_pure];congr 2;apply ByteArray.ext;simp[dz]
    ·simp only[bp];intro aw i;rcases Zv.1 i with e|e
     ·exact b aw e
     ·exact c aw e)
  |(subst e;exact⟨by simp only[Op.stringOp,d,f,Sem.run_pure,aq],trivial⟩)|(simp at e)
def R1(I:bV C D Q j k aN w){op:BinOp}{t:Nat}{x h:Operand}{ab:Operand->Value}{G:Operand->Option y}{v:y}(A:fq D Q ab G [x,h])
 (e:wH C op t x h j G=some v):(do eqGuard op t x h (ab x) (ab h);binOp op t (ab x) (ab h):Sem Value).run C.P w=.ok (aq D v) w/\bp Q v:=by
 unfold wH at e;split at e
 ·rename_i a b O T;obtain⟨L,m⟩:=A x Zs a O;obtain⟨N,n⟩:=A h Zs b T;rw[L,N];unfold b0 at e;split at e
  ·rename_i q i l E;obtain⟨c,d,_⟩:=Ep (C:=C) (D:=D) (Q:=Q) (w:=w) t e;refine⟨?_,d⟩;rw[Sem.run_bind,wd (by simp[sw])];exact c
  ·rename_i s T4;obtain⟨c,d⟩:=NQ (C:=C) (D:=D) (Q:=Q) (w:=w) m n e;refine⟨?_,d⟩;rw[Sem.run_bind,wd (by simp[sw])];simp only[aq,binOp];exact c
  ·rename_i T1 cf;simp only[cL]at e;obtain⟨T0,e⟩:=e;have p:∀r,f3 C j 50 t a b=some r->(Op.equal t (aq D a) (aq D b)).run C.P w=.ok r w:=λr f=>yn I 50 _ t a b r Zd m n f;have P:∀q aw l g,¬(aq D a=.int q aw/\aq D b=.int l g):=(by intro q aw l g ⟨c,d⟩;cases a<;>simp[aq]at c;cases b<;>simp[aq]at d;exact T1 _ _ _ _ rfl rfl);have X:∀aw g,¬(aq D a=.string aw/\aq D b=.string g):=(by intro aw g ⟨c,d⟩;cases a<;>simp[aq]at c;cases b<;>simp[aq]at d;exact cf _ _ rfl rfl);obtain⟨T2,T3⟩:=binOp_eql (t:=t) P X (E4 D a).1 (E4 D a).2;rw[Sem.run_bind,wd T0];split at e
   ·split at e
    ·rename_i r f;simp at e;subst e;exact⟨by simp[T2,p r f,aq],trivial⟩
    ·simp at e
   ·split at e
    ·rename_i r f;simp at e;subst e;exact⟨by simp[T3,p r f,aq],trivial⟩
    ·simp at e
   ·simp at e
 ·simp at e
def NC{s d:Nat}{x v:y}(c:bp Q x)(e:ym C s d x=some v):(convert s d (aq D x)).run C.P w=.ok (aq D v) w/\bp Q v:=by
 unfold ym at e;split at e
 ·rename_i dA q f n b a;simp at e;subst e;simp[convert,run_underlying b,run_underlying a,Conv.intToInt,aq,bp]
 ·rename_i dA s b a;simp at e;subst e;refine⟨?_,c⟩;simp[convert,run_underlying b,run_underlying a,aq]
 ·simp at e
def Ot:∀{l:List y}{s:List Nat},nN l=some s->∃cf:List Nat,l=cf.map (λn=>y.int .u8 (Int.ofNat n))/\s=cf.map (·%256):=by
 intro l;induction l with
 |nil=>intro s e;simp[nN]at e;subst e;exact⟨[],rfl,rfl⟩|cons a l U=>
  intro s e;unfold nN at e;split at e
  ·grind
  ·rename_i n f d;obtain⟨rfl,rfl⟩:=d;split at e
   ·rename_i r I;simp at e;subst e;obtain⟨cf,b,c⟩:=U I;exact⟨n::cf,by simp[b],by simp[c]⟩
   ·grind
  ·grind
def Qk(cf:List Nat):∀r:ByteArray,(cf.map Int.ofNat).foldl (λr (n:Int)=>r.push (UInt8.ofNat n.toNat)) r=⟨r.data++(cf.map UInt8.ofNat).toArray⟩:=by induction cf with|nil=>simp_all|cons n cf U=>simp_all
def so(I:bV C D Q j k aN w){b J n:Nat}{l:List y}(T:Q b)(e:gj C j b J n=some l):
 (loadCells ⟨(D b).bx,(D b).cm+J,none⟩ n).run C.P w=.ok (bd D l).toArray w/\cu Q l:=by
 unfold gj at e;split at e
 ·rename_i c d;exact vT I T d e
 ·simp only[cL,Zh]at e;obtain⟨a,rfl⟩:=e;have:n=0:=Zr a;subst this;refine⟨?_,trivial⟩;rfl
def Ip(I:bV C D Q j k aN w){b J n cap:Nat}{l:List y}{s:List Nat}(T:Q b)(e:gj C j b J n=some l)(f:nN l=some s):
 (Conv.bytesToString (.slice (some ⟨(D b).bx,(D b).cm+J,none⟩) n cap)).run C.P w=.ok (aq D (.str s)) w/\bp Q (.str s):=by
 obtain⟨c,_⟩:=so I T e;obtain⟨cf,rfl,rfl⟩:=Ot f;have d:=run_bytesToString w ⟨(D b).bx,(D b).cm+J,none⟩ n cap (cf.map Int.ofNat) (by
  rw[c];congr 2;rw[jp,Z2,Z2];rfl)
 constructor
 ·rw[d,Qk];congr 2;congr 1;simp;intro a _;exact UInt8.toNat_inj.1 Zs
 ·simp only[bp];grind
def NR(I:bV C D Q j k aN w){x v:y}(i:bp Q x)(e:si C j x=some v):(Conv.bytesToString (aq D x)).run C.P w=.ok (aq D v) w/\bp Q v/\∃a l c,aq D x=.slice a l c:=by
 unfold si at e;split at e
 ·simp at e;subst e;exact⟨rfl,by simp[bp],_,_,_,rfl⟩
 ·split at e
  ·rename_i l f;split at e
   ·rename_i s g;simp at e;subst e;obtain⟨b,d⟩:=Ip I i f g;exact⟨b,d,_,_,_,rfl⟩
   ·grind
  ·grind
 ·split at e
  ·rename_i l f;split at e
   ·rename_i s g;simp at e;subst e;obtain⟨b,d⟩:=Ip I i f g;exact⟨b,d,_,_,_,rfl⟩
   ·grind
  ·grind
 ·grind
def R2(I:bV C D Q j k aN w){s d:Nat}{x:Operand}{ab:Operand->Value}{b:Operand->Option y}{v:y}(N:fq D Q ab b [x])
 (e:uC C s d x j b=some v):(convert s d (ab x)).run C.P w=.ok (aq D v) w/\bp Q v:=by
 unfold uC at e;split at e
 ·rename_i a r;obtain⟨u,g⟩:=N x Zs a r;rw[u];split at e
  ·rename_i M A;simp at e;subst e;exact NC g A
  ·split at e
   ·rename_i i L G;split at e
    ·rename_i t;obtain⟨m,n,f,l,c,p⟩:=NR I g e;refine⟨?_,n⟩;rw[p]at m ⊢;rw[run_convert_bytes_string w s d i f l c L t G];grind
    ·grind
   ·grind
 ·grind
def qW{J:Option y}{m d r:Nat}(e:hA J m d=some r):(J=none/\r=d)\/∃q,J=some (.int q (Int.ofNat r))/\r<=m:=by
 unfold hA at e;split at e
 ·rename_i v;split at e
  ·rename_i n a;simp only[cL,Zh]at e;obtain⟨b,rfl⟩:=e;obtain⟨q,rfl⟩:=q6 a;simp_all
  ·grind
 ·grind
def run_sliceBound{P:Program}{q:IntKind}{n h:Nat}{code:BoundsCode}(e:n<=h):(Instr.sliceBound (.int q (Int.ofNat n)) h code).run P w=.ok n w:=by have a:(0:Int)<=Int.ofNat n/\Int.ofNat n<=(h:Int):=⟨zA n,Int.ofNat_le.2 e⟩;simp only[Instr.sliceBound,asIntOf,Sem.run_bind,Sem.run_pure,Result.andThen_ok];simp_all
def tU{sK:Bool}{len cap i:Nat}{aW af c:Option y}{l e m:Nat}(d:cap<=i)(T:gd len cap aW af c=some (l,e,m)):
 (Instr.sliceBounds sK len i (aW.map (aq D)) (af.map (aq D)) (c.map (aq D))).run C.P w=.ok (l,e,if c.isSome then m else i) w/\l<=e/\(c=none->m=cap)/\m<=cap/\(e<=m\/e=len):=by
 unfold gd at T;split at T
 ·grind
 ·rename_i x v;split at T
  ·grind
  ·rename_i s n;split at T
   ·grind
   ·rename_i G p;simp at T;obtain⟨rfl,rfl,rfl⟩:=T;have t:G<=s:=by
     rcases qW p with ⟨_,rfl⟩|⟨q,_,a⟩
     ·exact Nat.zero_le _
     ·exact a
    cases c with
    |none=>
     have A:x=cap:=(by simpa[hA]using v.symm);subst A;have f:hA af x len=some s:=(by cases af<;>exact n);refine⟨?_,t,λ_=>rfl,Zg _,(qW f).elim (λe=> .inr e.2) (λ⟨_,_,e⟩=> .inl e)⟩;rcases qW f with ⟨rfl,rfl⟩|⟨q,rfl,a⟩<;>rcases qW p with ⟨rfl,rfl⟩|⟨bl,rfl,g⟩
     ·simp[Instr.sliceBounds]
     ·simp only[Instr.sliceBounds,zh,ZZ,aq,Sem.run_bind,Sem.run_pure,Result.andThen_ok,run_sliceBound g,Z6,ZA,ZJ]
     ·simp only[Instr.sliceBounds,zh,ZZ,aq,Sem.run_bind,Sem.run_pure,Result.andThen_ok,run_sliceBound (ZD a d),Z6,ZA,ZJ]
     ·simp only[Instr.sliceBounds,zh,ZZ,aq,Sem.run_bind,Sem.run_pure,Result.andThen_ok,run_sliceBound (ZD a d),run_sliceBound g,Z6,ZA,ZJ]
    |some O=>
     rcases qW v with ⟨b,_⟩|⟨q,b,a⟩
     ·cases b
     ·cases b;cases af with
      |none=>simp at n|some L=>
       have f:=n;rcases qW f with ⟨b,_⟩|⟨N,b,r⟩
       ·cases b
       ·cases b;refine⟨?_,t,(λe=>by cases e),a,.inl r⟩;rcases qW p with ⟨rfl,rfl⟩|⟨bl,rfl,g⟩
        ·simp only[Instr.sliceBounds,zh,ZZ,aq,Sem.run_bind,Sem.run_pure,Result.andThen_ok,run_sliceBound (ZD a d),run_sliceBound r,Z0,ZK]
        ·simp only[Instr.sliceBounds,ZZ,aq,Sem.run_bind,Sem.run_pure,Result.andThen_ok,run_sliceBound (ZD a d),run_sliceBound r,run_sliceBound g,Z0,ZK]
def OM(m l J aO:Nat):a8 (Nat.beq m l) J (J+l*aO)=if m=l then J else J+l*aO:=er _ _ _ _
def H6(I:bV C D Q j k aN w){b n:Nat}(T:Q b)(e:j9 C j b=some n):n<=(D b).room:=by
 unfold j9 at e;split at e
 ·rename_i c m cl d;simp at e;subst e;obtain⟨bg,ty,aW,af,_,a,_,_⟩:=I.obj b _ d T;exact a.2.1
 ·rename_i c m d;simp at e;subst e;obtain⟨bg,ty,aW,af,_,a,_,_⟩:=I.obj b _ d T;exact a.2.1
 ·grind
def By{b J l e m aO:Nat}:Value.slice (some (if m=l then(⟨(D b).bx,(D b).cm+J,none⟩:Addr)else(⟨(D b).bx,(D b).cm+J,none⟩:Addr).add (l*aO))) (e-l) (m-l)
 =aq D (.slice b (a8 (Nat.beq m l) J (J+l*aO)) (e-l) (m-l)):=by
 rw[OM];simp only[aq,ko];grind
def NP(I:bV C D Q j k aN w){t:Nat}{x v:y}{aW af g:Option y}(p:bp Q x)(e:vL C j t x aW af g=some v):
 (Instr.sliceAt t (aq D x) (aW.map (aq D)) (af.map (aq D)) (g.map (aq D))).run C.P w=.ok (aq D v) w/\bp Q v:=by
 unfold vL at e;split at e
 ·rename_i s f;cases g with
  |some _=>grind|none=>
   simp only at e;split at e
   ·rename_i l i m T;simp at e;subst e;obtain⟨a,L,_⟩:=tU (C:=C) (D:=D) (w:=w) (sK:=false) (Zg _) T;have d:(dz s).size=s.length:=(by simp[dz,ByteArray.size]);constructor
    ·simp only[zh,Z6,ZA]at a;simp[Instr.sliceAt,run_underlying f,Instr.slice,aq,d,a];apply ByteArray.ext;rw[ByteArray.data_extract];apply Array.ext';simp[dz,List.map_take,List.map_drop]
    ·simp only[bp]at p ⊢;intro aw T1;exact p aw (zq (Y6 T1))
   ·simp at e
 ·rename_i cp b J len cap f;split at e
  ·rename_i l i m aO T d;simp at e;subst e;obtain⟨a,L,A,_⟩:=tU (C:=C) (D:=D) (w:=w) (sK:=true) (Zg cap) T;have G:(if g.isSome=true then m else cap)=m:=by cases g with|none=>simp[A rfl]|some _=>rfl
   rw[G]at a;refine⟨?_,p⟩;have:=By (D:=D) (b:=b) (J:=J) (l:=l) (e:=i) (m:=m) (aO:=aO);simp only[Instr.sliceAt,Sem.run_bind,run_underlying f,Result.andThen_ok,Instr.slice,aq,a,ja d];rw[<-aq, <-this];split<;>rfl
  ·simp at e
 ·rename_i cp f;split at e
  ·rename_i r aO T d;obtain⟨l,i,m⟩:=r;simp at e;subst e;obtain⟨a,L,A,T2,T3⟩:=tU (C:=C) (D:=D) (w:=w) (sK:=true) (Zg 0) T;have G:m=0:=Zo;have X:i=0:=Zo;have c:l=0:=Zo;subst G;subst X;subst c;refine⟨?_,trivial⟩;have O:(Instr.sliceBounds true 0 0 (aW.map (aq D)) (af.map (aq D)) (g.map (aq D))).run C.P w=.ok (0,0,0) w:=(by rw[a];split<;>rfl);simp[Instr.sliceAt,run_underlying f,Instr.slice,aq,O,ja d]
  ·simp at e
 ·rename_i cp b J len aO f;split at e
  ·rename_i T6 n d T0;simp only[cL,Zt]at e;obtain⟨⟨gn,gp⟩,e⟩:=e;have gn:=Zr gn;subst gn;have gp:=ht gp;have T4:=H6 I p T0;have P:(n-J)/aO<=((D b).room-J)/aO:=Nat.div_le_div_right Zo;split at e
   ·rename_i l i m T;obtain⟨a,L,A,_⟩:=tU (C:=C) (D:=D) (w:=w) (sK:=true) P T;cases g with
    |some T5=>simp at e;subst e;refine⟨?_,p⟩;have:=By (D:=D) (b:=b) (J:=J) (l:=l) (e:=i) (m:=m) (aO:=aO);simp only[Z0,ZK]at a;simp only[Instr.sliceAt,Sem.run_bind,run_underlying f,Result.andThen_ok,Instr.slice,aq,a,ja d,Sem.run_pure];rw[<-aq, <-this];split<;>rfl|none=>
     simp only[cL,Zh,Y4]at e;obtain⟨c,rfl⟩:=e;refine⟨?_,p⟩;simp only[Z6,ZA,ZJ]at a;simp only[Instr.sliceAt,Sem.run_bind,run_underlying f,Result.andThen_ok,Instr.slice,aq,a,ja d,Sem.run_pure];have N:((D b).room-(J+l*aO))/aO=((D b).room-J)/aO-l:=(by rw[<-Nat.sub_sub,zH l aO,Nat.sub_mul_div]);rw[N];congr 1;congr 1;rcases c with c|c
     ·have c:=ht c;rw[Zi Zo,ZZ,ko,Yi]
     ·have c:=Zr c;subst c;split<;>simp[ko]
   ·simp at e
  ·simp at e
 ·rename_i n cp b J f;split at e
  ·rename_i l i m aO T d;simp at e;subst e;obtain⟨a,L,A,_⟩:=tU (C:=C) (D:=D) (w:=w) (sK:=false) (Zg n) T;have G:(if g.isSome=true then m else n)=m:=by cases g with|none=>simp[A rfl]|some _=>rfl
   rw[G]at a;refine⟨?_,p⟩;have:=By (D:=D) (b:=b) (J:=J) (l:=l) (e:=i) (m:=m) (aO:=aO);simp only[Instr.sliceAt,Sem.run_bind,run_underlying f,Result.andThen_ok,Instr.sureAddr,aq,a,ja d,Sem.run_pure];rw[<-aq, <-this]
  ·simp at e
 ·simp at e
def abg{α:Type}{P:Program}(f:α->PUnit->Sem (ForInStep PUnit)):∀(l:List α),(∀a∈l,(f a ⟨⟩).run P w=.ok (.yield ⟨⟩) w)->(forIn l PUnit.unit f).run P w=.ok ⟨⟩ w:=by intro l;induction l with|nil=>simp_all|cons a l U=>simp_all
def yo{u:Bool}:∀(n m t:Nat) (v:y),n<=m->bp Q v->ha C n t v=true->(Instr.checkKey u m t (aq D v)).run C.P w=.ok () w:=by
 intro n;induction n with
 |zero=>intro m t v _ _ e;simp[ha]at e|succ n U=>
  intro m t v O g e;obtain⟨m,rfl⟩:∃q,m=q+1:=⟨m-1,Zo⟩;unfold ha at e;split at e
  ·rename_i P d x a;split at e
   ·rename_i i af;simp only[Zt]at e;have:=U m d x Zo g e.2;simp[Instr.checkKey,run_underlying a,aq,typeInfo,af,e.1,this]
   ·simp at e
  ·rename_i a;simp[Instr.checkKey,run_underlying a,aq]
  ·simp at e
  ·rename_i N cs a;simp only[Instr.checkKey,Sem.run_bind,run_underlying a,Result.andThen_ok,aq];rw[<-Array.forIn_toList];refine(congrArg (λr=>Result.andThen r _) (abg _ _ ?_)).trans rfl;intro f l;have:=zt.1 e f l;simp only[Y4,zz]at this;by_cases c:f.name= "_"
   ·simp[c]
   ·rcases this with b|b
    ·exact absurd b c
    ·split at b
     ·rename_i p s;obtain⟨G,L⟩:=tK (D:=D) (w:=w) g s;simp[c,G,U m f.type p Zo L b]
     ·simp at b
  ·simp at e
  ·simp at e
  ·rename_i d ak ar A a X T0 T1;simp only[Instr.checkKey,Sem.run_bind,run_underlying a,Result.andThen_ok];cases d<;>first
    |exact(ak _ rfl).elim|exact(ar _ rfl).elim|exact(A _ _ rfl).elim|rfl
  ·simp at e
def E5{x:y}{q:IntKind}{a:Int}(e:aq D x=.int q a):x=.int q a:=by cases x<;>simp[aq]at e;grind
def E3{x:y}{a:Bool}(e:aq D x=.bool a):x=.bool a:=by cases x<;>simp[aq]at e;grind
def E6{x:y}{a:ByteArray}(e:aq D x=.string a):∃s,x=.str s/\a=dz s:=by cases x<;>simp[aq]at e;grind
def ES(a b:ByteArray):(a==b)=(a.toList==b.toList):=by show(a.data==b.data)=_;rw[Yg,zz,zz,ByteArray.toList_eq,ByteArray.toList_eq];simp_all
def H1{d t:Nat}{l:TypeDesc}{x h:y}{r m:Bool}(i:C.P.underlying t=some l)(n:bp Q x)(p:bp Q h)
 (e:f3 C j d t x h=some r)(c:Instr.sameNow l (aq D x) (aq D h)=some m):r=m:=by
 cases d with
 |zero=>simp[f3]at e|succ d=>
  unfold Instr.sameNow at c;split at c
  ·rename_i w q a v b f g;rw[E5 f,E5 g]at e;simp[f3,i]at e;grind
  ·rename_i a b f g;obtain⟨s,rfl,rfl⟩:=E6 f;obtain⟨A,rfl,rfl⟩:=E6 g;simp[f3,i]at e;simp at c;rw[<-c, <-e,ES,BE n p]
  ·rename_i a b f g;rw[E3 f,E3 g]at e;simp[f3,i]at e;simp at c;rw[<-c, <-e]
  ·simp at c
def k0(D:bT)(r:Option (Nat×y)):Option (Nat×Value):=r.map λx=>(x.1,aq D x.2)
def Qd{t:Nat}{s:TypeDesc}{q:y}(n:C.P.underlying t=some s)(l:bp Q q):∀(c:List (y×y×Nat)) (i:Nat) (r:Option (Nat×y)) (d:Option (Nat×Value)),
 (∀u∈c,bp Q u.1/\bp Q u.2.1)->findKey C j t q c i=some r->Instr.findNow s (aq D q) (c.map (dR D)) i=some d->d=k0 D r:=by
 intro c;induction c with
 |nil=>intro i r d _ e a;simp[findKey]at e;simp[Instr.findNow]at a;subst e;subst a;rfl|cons u c U=>
  intro i r d m e a;obtain⟨p,v,b⟩:=u;simp only[findKey]at e;simp only[ZH,Instr.findNow]at a;split at e
  ·rename_i f;simp at e;subst e;split at a
   ·simp at a;rw[<-a];rfl
   ·rename_i g;have:=H1 n l (m (p,v,b) (Zp ..)).1 f g;grind
   ·grind
  ·rename_i f;split at a
   ·rename_i g;have:=H1 n l (m (p,v,b) (Zp ..)).1 f g;grind
   ·grind
   ·grind
  ·grind
def Qa(I:bV C D Q j k aN w){t:Nat}{q:y}(f:bp Q q):∀(a:List (y×y×Nat)) (i:Nat) (r:Option (Nat×y)),
 (∀u∈a,bp Q u.1/\bp Q u.2.1)->findKey C j t q a i=some r->(Instr.findAsking t (aq D q) (a.map (dR D)) i).run C.P w=.ok (k0 D r) w:=by
 intro a;induction a with
 |nil=>intro i r _ e;simp[findKey]at e;subst e;simp[Instr.findAsking,k0]|cons u a U=>
  intro i r g e;obtain⟨c,v,b⟩:=u;simp only[findKey]at e;have l:20<=Op.maxDepth:=by decide
  split at e
  ·rename_i d;simp at e;subst e;have:=yn I 20 _ t q c true l f (g (c,v,b) (Zp ..)).1 d;simp[Instr.findAsking,Op.equal,dR,this,k0]
  ·rename_i d;have:=yn I 20 _ t q c false l f (g (c,v,b) (Zp ..)).1 d;simp[Instr.findAsking,Op.equal,dR,this];grind
  ·grind
def ui(I:bV C D Q j k aN w){t:Nat}{g:TypeDesc}{q:y}{a:List (y×y×Nat)}{r:Option (Nat×y)}(d:C.P.underlying t=some g)(b:bp Q q)
 (c:∀u∈a,bp Q u.1/\bp Q u.2.1)(e:findKey C j t q a 0=some r):(Instr.findKey t (aq D q) (a.map (dR D))).run C.P w=.ok (k0 D r) w:=by
 simp only[Instr.findKey,Sem.run_bind,run_underlying d,Result.andThen_ok];split
 ·rename_i i f;rw[Qd d b a 0 r i c e f];rfl
 ·exact Qa I b a 0 r c e
def y5{t:Nat}{q:y}:∀(a:List (y×y×Nat)) (i E:Nat) (v:y),findKey C j t q a i=some (some (E,v))->i<=E/\∃u,a[E-i]? =some u/\u.2.1=v:=by
 intro a;induction a with
 |nil=>intro i E v e;simp[findKey]at e|cons u a U=>
  intro i E v e;obtain⟨c,d,b⟩:=u;simp only[findKey]at e;split at e
  ·simp_all
  ·grind
  ·grind
def At{t d:Nat}{q:y}(e:ha C d t q=true):∃a,C.P.underlying t=some a:=by cases d with|zero=>simp[ha]at e|succ d=>cases b:C.P.underlying t with|none=>simp[ha,b]at e|some a=>grind
def na(I:bV C D Q j k aN w){r:Nat}{a:List (y×y×Nat)}{bq:Nat}(al:Q r)(e:F C j r=some (.map a bq)):
 ∃bg,(getObj (D r).bx).run C.P w=.ok (.map bg bq) w/\w.heap[(D r).bx]? =some (.map bg bq)/\bg.toList=a.map (dR D)/\∀u∈a,bp Q u.1/\bp Q u.2.1:=by
 obtain⟨bg,b,c,d⟩:=I.obj r _ e al;exact⟨bg,MapKept.run_getObj_map b,b,c,d⟩
def GA{t:Nat}{q:y}{a b:List (y×y)}(e:a.Perm b):∀r,jz C j t q a=some r->jz C j t q b=some r:=by
 induction e with
 |nil=>grind|cons x _ U=>intro r e;simp only[jz]at e ⊢;grind|swap x h l=>obtain⟨f,vc⟩:=x;obtain⟨g,i⟩:=h;intro r e;simp only[jz]at e ⊢;grind
 |trans _ _ c d=>grind
def Gz{t:Nat}{q:y}:∀(a:List (y×y×Nat)) (i:Nat) (r:Option y),jz C j t q (a.map λu=>(u.1,u.2.1))=some r->∃c,findKey C j t q a i=some c/\c.map (·.2)=r:=by
 intro a;induction a with
 |nil=>intro i r e;simp[jz]at e;subst e;exact⟨none,rfl,rfl⟩|cons u a U=>
  obtain⟨d,f,b⟩:=u;intro i r e;simp only[ZH,jz]at e;simp only[findKey];split at e
  ·simp_all
  ·simp_all
  ·cases e
def NK(I:bV C D Q j k aN w){t:Nat}{m q v:y}{ok:Bool}(s:bp Q m)(N:bp Q q)(e:vK C j t m q ok=some v):
 (Instr.lookup t (aq D m) (aq D q) ok).run C.P w=.ok (aq D v) w/\bp Q v:=by
 unfold vK at e;split at e
 ·rename_i dZ L n;have key:∀(b:List (y×y×Nat)) (bg:Array MapEntry) (r:Option (Nat×y)),bg.toList=b.map (dR D)->(∀u∈b,bp Q u.1/\bp Q u.2.1)->ha C 20 dZ q=true->findKey C j dZ q b 0=some r->
   (match r with|none=>(match kf C L with|some aw=>some (a8 ok (.tuple [aw,.bool false]) aw)|none=>none)|some (_,v)=>some (a8 ok (.tuple [v,.bool true]) v))=some v->
   (do
    Instr.checkKey bg.isEmpty 10000 dZ (aq D q)
    let(v,J)<-match<-Instr.findKey dZ (aq D q) bg.toList with
     |some (_,v)=>pure (v,true)|none=>pure (<-zeroValue L,false)
    pure (if ok then .tuple #[v,.bool J]else v):Sem Value).run C.P w=.ok (aq D v) w/\bp Q v:=by
   intro b bg r T5 P T0 O i;obtain⟨T9,T7⟩:=At T0;have c:=yo (C:=C) (D:=D) (Q:=Q) (w:=w) (u:=bg.isEmpty) 20 10000 dZ q Zd N T0;have d:=ui I T7 N P O;rw[T5];cases r with
   |none=>
    simp only at i;split at i
    ·rename_i aw T8;obtain⟨T3,T4⟩:=pF T8 D Q w;simp at i;subst i;cases ok
     ·exact⟨by simp[c,d,k0,T3],T4⟩
     ·exact⟨by simp[c,d,k0,T3,aq,bd],⟨T4,trivial,trivial⟩⟩
    ·simp at i
   |some p=>
    obtain⟨E,M⟩:=p;simp at i;subst i;obtain⟨_,u,T6,rfl⟩:=y5 b 0 E M O;have X:=(P u (Zl T6)).2;cases ok
    ·exact⟨by simp[c,d,k0],X⟩
    ·exact⟨by simp[c,d,k0,aq,bd],⟨X,trivial,trivial⟩⟩
  split at e
  ·simp at e
  ·rename_i a;split at a
   ·simp only[cL]at a;have:=key [] #[] none rfl Zs a.1 (by simp[findKey]) e;refine⟨?_,this.2⟩;rw[<-this.1];simp only[Instr.lookup,Sem.run_bind,run_underlying n,Result.andThen_ok,aq];rfl
   ·rename_i r;split at a
    ·rename_i b bq g;simp only[cL]at a;obtain⟨bg,c,_,d,f⟩:=na I s g;have:=key b bg none d f a.1 a.2 e;refine⟨?_,this.2⟩;rw[<-this.1];simp only[Instr.lookup,Sem.run_bind,run_underlying n,Result.andThen_ok,aq,c];rfl
    ·rename_i b g;simp only[cL]at a;obtain⟨bg,bq,gO,c,d,A,f⟩:=I.obj r _ g s;have aU:jz C j dZ q b=some none:=(by have:=a.2;unfold sV at this;split at this<;>simp at this;all_goals(rename_i V;first|(rw[V])|exact V|(rw[V];simp)));obtain⟨G,x,l⟩:=Gz gO 0 _ (GA A.symm _ aU);cases G with|none=>have:=key gO bg none d f a.1 x e;refine⟨?_,this.2⟩;rw[<-this.1];simp only[Instr.lookup,Sem.run_bind,run_underlying n,Result.andThen_ok,aq,MapKept.run_getObj_map c];rfl|some p=>obtain⟨T1,T2⟩:=p;simp at l
    ·simp at a
   ·simp at a
  ·rename_i E M a;split at a
   ·simp only[cL]at a;simp at a
   ·rename_i r;split at a
    ·rename_i b bq g;simp only[cL]at a;obtain⟨bg,c,_,d,f⟩:=na I s g;have:=key b bg (some (E,M)) d f a.1 a.2 e;refine⟨?_,this.2⟩;rw[<-this.1];simp only[Instr.lookup,Sem.run_bind,run_underlying n,Result.andThen_ok,aq,c];rfl
    ·rename_i b g;simp only[cL]at a;obtain⟨bg,bq,gO,c,d,A,f⟩:=I.obj r _ g s;have aU:jz C j dZ q b=some (some M):=(by have:=a.2;unfold sV at this;split at this<;>simp at this;all_goals(rename_i V;first|(rw[this.2])|exact V|(rw[V];simp[this])));obtain⟨G,x,l⟩:=Gz gO 0 _ (GA A.symm _ aU);cases G with|none=>simp at l|some p=>obtain⟨T1,T2⟩:=p;simp at l;subst l;have:=key gO bg (some (T1,T2)) d f a.1 x e;refine⟨?_,this.2⟩;rw[<-this.1];simp only[Instr.lookup,Sem.run_bind,run_underlying n,Result.andThen_ok,aq,Sem.run_pure,MapKept.run_getObj_map c];rfl
    ·simp at a
   ·simp at a
 ·simp at e
def R4{t f:Nat}{x:Operand}{ab:Operand->Value}{a:Operand->Option y}{v:y}(p:fq D Q ab a [x])
 (e:uD C t x f j a=some v):(Instr.field t (ab x) f).run C.P w=.ok (aq D v) w/\bp Q v:=by
 unfold uD at e;split at e
 ·rename_i c cs m n;obtain⟨u,g⟩:=p x Zs _ n;rw[u];split at e
  ·rename_i b r;have l:c[f]? =some b:=(by simp_all);obtain⟨d,i⟩:=tK (D:=D) (w:=w) g e;refine⟨?_,i⟩;simp[Instr.field,run_underlying m,l,asAgg,aq,d]
  ·grind
 ·grind
def R5{t:Nat}{x:Operand}{ab:Operand->Value}{a:Operand->Option y}{v:y}(i:fq D Q ab a [x])
 (e:uE C t x j a=some v):(Instr.makeInterface t (ab x)).run C.P w=.ok (aq D v) w/\bp Q v:=by
 unfold uE at e;split at e
 ·grind
 ·rename_i d M b c f;obtain⟨u,g⟩:=i x Zs _ f;simp at e;subst e;refine⟨?_,g⟩;rw[u];cases d<;>first|exact(b _ rfl).elim|simp[Instr.makeInterface,run_underlying c,aq]
 ·grind
def R0{x:Operand}{t n:Nat}{ok:Bool}{ab:Operand->Value}{r:Operand->Option y}{v:y}(p:fq D Q ab r [x])
 (e:uB C x n ok j r=some v):(Instr.typeAssert (ab x) t n ok).run C.P w=.ok (aq D v) w/\bp Q v:=by
 unfold uB at e;split at e
 ·grind
 ·rename_i d a b f;obtain⟨u,g⟩:=p x Zs _ f;rw[u];simp only[cL]at e;obtain⟨rfl,e⟩:=e;split at e
  ·rename_i aw i;simp at e;subst e;obtain⟨l,m⟩:=pF i D Q w;refine⟨?_,m,trivial,trivial⟩;cases d<;>first|exact(a _ rfl).elim|simp[Instr.typeAssert,run_underlying b,aq,bd,l]
  ·simp at e
 ·rename_i d es M a b f;obtain⟨u,g⟩:=p x Zs _ f;rw[u];rw[er]at e;split at e
  ·rename_i c;subst c;simp at e;cases ok
   ·simp at e;subst e;refine⟨?_,g⟩;cases d<;>first|exact(a _ rfl).elim|simp[Instr.typeAssert,run_underlying b,aq]
   ·simp at e;subst e;refine⟨?_,g,trivial,trivial⟩;cases d<;>first|exact(a _ rfl).elim|simp[Instr.typeAssert,run_underlying b,aq,bd]
  ·rename_i c;simp only[cL]at e;obtain⟨rfl,e⟩:=e;split at e
   ·rename_i aw i;simp at e;subst e;obtain⟨l,m⟩:=pF i D Q w;refine⟨?_,m,trivial,trivial⟩;cases d<;>first|exact(a _ rfl).elim|simp[Instr.typeAssert,run_underlying b,aq,bd,l,c]
   ·simp at e
 ·simp at e
def Gm:∀(l:List Nat),uF l=l.getLast?:=by intro l;induction l with|nil=>rfl|cons a l U=>cases l with|nil=>rfl|cons b l=>assumption
def FJ(b:Nat):∀(a:List (y×y×Nat)),(a.map (dR D)).find? (·.born==b)=(ma b a).map (dR D):=by
 intro a;induction a with
 |nil=>rfl|cons u a U=>
  simp only[ZH,ma,zi,dR,er];by_cases e:u.2.2=b
  ·simp[e,dR]
  ·grind
def FK(b:Nat):∀(c:List (y×y×Nat)) u,ma b c=some u->u∈c:=by intro c;induction c with|nil=>intro u e;simp[ma]at e|cons a c U=>intro u e;simp only[ma,er]at e;grind
def R3(I:bV C D Q j k aN w){i:Operand}{ab:Operand->Value}{T0:Operand->Option y}{v:y}(T4:fq D Q ab T0 [i])
 (e:sO C i j T0=some v):(Instr.entry (ab i)).run C.P w=.ok (aq D v) w/\bp Q v:=by
 unfold sO at e;split at e
 ·rename_i r T3;obtain⟨u,g⟩:=T4 i Zs _ T3;rw[u];split at e
  ·rename_i m X seen T5 G;split at e
   ·rename_i a d bq f A;simp only[cL]at e;obtain⟨c,e⟩:=e;have c:=Zr c;subst c;split at e
    ·rename_i q M b T;simp at e;subst e;obtain⟨L,s,T1⟩:=I.obj r _ G g;obtain⟨bg,N,_,O,P⟩:=na I (T1 m rfl) A;have x:bg.find? (λu=>u.born==a)=some (dR D (q,M,b)):=(by have:=FJ (D:=D) a d;rw[<-O,T]at this;rw[<-Array.find?_toList];exact this);have t:seen.toArray.back?=some a:=(by rw[<-f,Gm];simp);have F:(getObj (D r).bx).run C.P w=.ok (.mapIter (some (D m).bx) X seen.toArray bq) w:=(by simp[getObj,Sem.run,s]);obtain⟨l,p⟩:=P _ (FK a d _ T);refine⟨?_,l,p,trivial⟩;simp[Instr.entry,aq,L,F,t,N,x,dR,bd]
    ·simp at e
   ·simp at e
  ·rename_i m X n bz T5 T6 G;split at e
   ·rename_i a d bq A;simp only[cL]at e;obtain⟨c,e⟩:=e;have c:=Zr c;subst c;split at e
    ·rename_i q M b T;simp at e;subst e;obtain⟨L,T2,seen,s,_,f⟩:=I.obj r _ G g;have f:=f a rfl;obtain⟨bg,N,_,O,P⟩:=na I T2 A;have x:bg.find? (λu=>u.born==a)=some (dR D (q,M,b)):=(by have:=FJ (D:=D) a d;rw[<-O,T]at this;rw[<-Array.find?_toList];exact this);have t:seen.toArray.back?=some a:=(by rw[<-f,Gm];simp);have F:(getObj (D r).bx).run C.P w=.ok (.mapIter (some (D m).bx) X seen.toArray bq) w:=(by simp[getObj,Sem.run,s]);obtain⟨l,p⟩:=P _ (FK a d _ T);refine⟨?_,l,p,trivial⟩;simp[Instr.entry,aq,L,F,t,N,x,dR,bd]
    ·simp at e
   ·simp at e
  ·simp at e
 ·simp at e
def NI(I:bV C D Q j k aN w){t:Nat}{bN:Array TypeId}{ty:TypeId}{x v:y}{rest:List TypeId}(l:bN.toList=t::rest)(f:bp Q x)(e:vJ C j t x=some v):
 (Builtin.len_ bN ty #[aq D x]).run C.P w=.ok (aq D v) w/\bp Q v:=by
 have b:bN[0]? =some t:=by rw[<-Z5,l];rfl
 unfold vJ at e;split at e<;>(try simp only[Gd]at e)
 ·rename_i s a;simp at e;subst e;refine⟨?_,trivial⟩;have p:(dz s).size=s.length:=by simp[dz,ByteArray.size]
  simp[Builtin.len_,b,run_underlying a,aq,goInt,p]
 ·rename_i n c a;simp at e;subst e;refine⟨?_,trivial⟩;simp[Builtin.len_,b,run_underlying a,goInt];simp[aq]
 ·rename_i bg a;split at e
  ·rename_i n c A;simp at e;subst e;refine⟨?_,trivial⟩;simp[Builtin.len_,b,run_underlying a,run_underlying A,goInt];simp[aq]
  ·simp at e
 ·rename_i a;simp at e;subst e;refine⟨?_,trivial⟩;simp[Builtin.len_,b,run_underlying a,aq,goInt]
 ·rename_i a;simp at e;subst e;refine⟨?_,trivial⟩;simp[Builtin.len_,b,run_underlying a,aq,goInt]
 ·rename_i a;simp at e;subst e;refine⟨?_,trivial⟩;simp[Builtin.len_,b,run_underlying a,aq,goInt]
 ·rename_i a;simp at e;subst e;refine⟨?_,trivial⟩;simp[Builtin.len_,b,run_underlying a,aq,goInt]
 ·rename_i r a;split at e
  ·rename_i d bq m;simp at e;subst e;obtain⟨bg,g,G,i,L⟩:=na I f m;refine⟨?_,trivial⟩;have:bg.size=d.length:=(by rw[<-Array.length_toList,i,Zj]);simp[Builtin.len_,b,run_underlying a,aq,goInt,g,this]
  ·simp at e
 ·simp at e
def NB{t:Nat}{bN:Array TypeId}{ty:TypeId}{x v:y}{rest:List TypeId}(c:bN.toList=t::rest)(e:vG C t x=some v):
 (Builtin.cap_ bN ty #[aq D x]).run C.P w=.ok (aq D v) w/\bp Q v:=by
 have b:bN[0]? =some t:=by rw[<-Z5,c];rfl
 unfold vG at e;split at e<;>(try simp only[Gd]at e)
 ·rename_i a;simp at e;subst e;refine⟨?_,trivial⟩;simp[Builtin.cap_,b,run_underlying a,aq,goInt]
 ·rename_i a;simp at e;subst e;refine⟨?_,trivial⟩;simp[Builtin.cap_,b,run_underlying a,aq,goInt]
 ·simp at e
def NM:∀(l:List y) (x v:y),h2 true x l=some v->((bd D l).foldlM Builtin.max2 (aq D x)).run C.P w=.ok (aq D v) w/\(bp Q x->bp Q v):=by
 intro l;induction l with
 |nil=>intro x v e;cases x<;>simp[h2]at e<;>subst e<;>simp[bd]|cons h l U=>
  intro x v e;unfold h2 at e;split at e
  ·grind
  ·rename_i q a g b i f;obtain⟨rfl,rfl⟩:=f;obtain⟨c,d⟩:=U _ _ e;refine⟨?_,λ_=>d trivial⟩;simp only[k6,c3,Zf]at c;exact c
  ·simp at e
def NN:∀(l:List y) (x v:y),h2 false x l=some v->((bd D l).foldlM Builtin.min2 (aq D x)).run C.P w=.ok (aq D v) w/\(bp Q x->bp Q v):=by
 intro l;induction l with
 |nil=>intro x v e;cases x<;>simp[h2]at e<;>subst e<;>simp[bd]|cons h l U=>
  intro x v e;unfold h2 at e;split at e
  ·grind
  ·rename_i q a g b i f;obtain⟨rfl,rfl⟩:=f;obtain⟨c,d⟩:=U _ _ e;refine⟨?_,λ_=>d trivial⟩;simp only[k6,c3,Zf]at c;exact c
  ·grind
def fq.mono{ab:Operand->Value}{b:Operand->Option y}{l a:List Operand}(e:fq D Q ab b l)(c:∀x∈a,x∈l):fq D Q ab b a:=λx f v d=>e x (c x f) v d
def y0{ab:Operand->Value}{a:Operand->Option y}{J:Option Operand}{r:Option y}(c:fq D Q ab a J.toList)(e:pA a J=some r):J.map ab=r.map (aq D):=by
 cases J with
 |none=>simp[pA]at e;subst e;rfl|some x=>
  simp only[pA]at e;split at e
  ·rename_i v b;simp at e;subst e;simp[(c x Zs v b).1]
  ·grind
def NJ(I:bV C D Q j k aN w){oper:Oper}{ab:Operand->Value}{L:Operand->Option y}{v:y}(g:fq D Q ab L oper.op.operands.toList)
 (e:ix oper.op C j L=some v):vt D Q C.P w (execOp ab oper) v:=by
 obtain⟨dst,op,type,pos,after,guard⟩:=oper;cases op<;>simp only[ix]at e<;>(try(cases e;done))<;>simp only[execOp]<;>simp only[Op.operands]at g;case build t N=>
  refine h3 ?_;unfold Av at e;split at e
  ·rename_i b2 T2;obtain⟨n,r⟩:=Fz (by simpa using g) T2;have:=NA (D:=D) (w:=w) r e;rw[<-n]at this;have u:(N.map λx=>(x.1,ab x.2))=(N.toList.map λx=>(x.1,ab x.2)).toArray:=by apply Array.ext';simp
   rw[u];exact this
  ·simp at e
 case binOp op t x h T8=>exact h3 (R1 I (by simpa using g) e)
 case unOp op t x=>
  refine h3 ?_;unfold AC at e;split at e
  ·rename_i a A;rw[(g x Zs a A).1];exact NS e
  ·simp at e
 case convert s d x=>exact h3 (R2 I (by simpa using g) e)
 case makeInterface t x=>exact h3 (R5 (by simpa using g) e)
 case makeFunc fn first T4=>
  refine h3 ?_;unfold Ay at e;split at e
  ·rename_i a b A T;split at e
   ·simp at e;subst e;obtain⟨aL,bs⟩:=lx (g.mono (by simp;intro x p;exact .inl p)) A;obtain⟨bb,bn⟩:=lx (g.mono (by simp;intro x p;exact .inr p)) T;refine⟨?_,trivial,bs,bn⟩;simp[Instr.makeFunc,aL,bb,aq,hN]
   ·simp at e
  ·simp at e
 case slice t x aW af T7=>
  refine h3 ?_;unfold AB at e;split at e
  ·rename_i a l T5 m A T0 X T1;have n:=g x Zs a A;have r:=y0 (g.mono (by simp;intro x p;exact .inr (.inl p))) T0;have O:=y0 (g.mono (by simp;intro x p;exact .inr (.inr (.inl p)))) X;have P:=y0 (g.mono (by simp;intro x p;exact .inr (.inr (.inr p)))) T1;rw[n.1,r,O,P];exact NP I n.2 e
  ·simp at e
 case field t x f=>exact h3 (R4 (by simpa using g) e)
 case index t x i=>
  refine h3 ?_;unfold Az at e;split at e
  ·rename_i a b A T;have n:=g x Zs a A;rw[n.1,(g i Zs b T).1];exact NG n.2 e
  ·simp at e
 case lookup t m q ok=>
  refine h3 ?_;unfold AA at e;split at e
  ·rename_i a b A T;have n:=g m Zs a A;have r:=g q Zs b T;rw[n.1,r.1];exact NK I n.2 r.2 e
  ·simp at e
 case entry T6=>exact h3 (R3 I (by simpa using g) e)
 case typeAssert x t T3 ok=>exact h3 (R0 (by simpa using g) e)
 case call c=>
  unfold Ax at e;split at e
  ·rename_i b args bN;simp only[Call.operands]at g;have G:fq D Q ab L args.toList:=g.mono Zs;unfold Aw at e;split at e
   ·rename_i x p;obtain⟨aL,bs⟩:=lx G p;split at e
    ·rename_i t rest A;obtain⟨n,r⟩:=NI (ty:=type) I A bs.1 e;refine⟨?_,r⟩;simp[resolve,invoke,builtin,aL,bd,n]
    ·simp at e
   ·rename_i x p;obtain⟨aL,bs⟩:=lx G p;split at e
    ·rename_i t rest A;obtain⟨n,r⟩:=NB (D:=D) (Q:=Q) (w:=w) (ty:=type) A e;refine⟨?_,r⟩;simp[resolve,invoke,builtin,aL,bd,n]
    ·simp at e
   ·rename_i x l p;obtain⟨aL,bs⟩:=lx G p;obtain⟨n,r⟩:=NM (C:=C) (D:=D) (Q:=Q) (w:=w) l x v e;refine⟨?_,r bs.1⟩;simp[resolve,invoke,builtin,Builtin.max_,aL,bd,n]
   ·rename_i x l p;obtain⟨aL,bs⟩:=lx G p;obtain⟨n,r⟩:=NN (C:=C) (D:=D) (Q:=Q) (w:=w) l x v e;refine⟨?_,r bs.1⟩;simp[resolve,invoke,builtin,Builtin.min_,aL,bd,n]
   ·simp at e
  ·simp at e
def Gx(I:bV C D Q j k aN w){oper:Oper}{ab:Operand->Value}{wr:List (Nat×Nat)}{ad:List (Nat×y)}{z:B y}{c:fM}{v:y}
 (A:fq D Q ab (fw wr ad z) oper.op.operands.toList)(g:gY C wr oper.op=some c)(e:eb c C j ad z=some v):vt D Q C.P w (execOp ab oper) v:=by
 have rest:∀J,oper.op=J->c=.eP wr J->vt D Q C.P w (execOp ab oper) v:=by intro J U0 TY;subst TY;subst U0;exact NJ I A e
 obtain⟨dst,op,type,pos,after,guard⟩:=oper;cases op<;>simp only[gY]at g<;>simp only[Op.operands]at A;case move x=>
  split at g
  ·rename_i T0 L;simp at g;subst g;simp only[eb,h4 L]at e;obtain⟨N,O⟩:=A x Zs v e;exact⟨by simp[execOp,N],O⟩
  ·simp at g
 case assign x=>
  split at g
  ·rename_i T0 L;simp at g;subst g;simp only[eb,h4 L]at e;obtain⟨N,O⟩:=A x Zs v e;exact⟨by simp[execOp,N],O⟩
  ·simp at g
 case pick T7 a b=>
  split at g
  ·rename_i U6 T6 U5 T9 X T;simp at g;subst g;simp only[eb,h4 T9]at e;split at e
   ·rename_i M G;obtain⟨N,O⟩:=A T7 Zs M G;unfold xO at e;split at e
    ·rename_i t;rw[h4 X,h4 T]at e;simp only[execOp,N,aq];cases t
     ·obtain⟨l,p⟩:=A b Zs v (by simpa using e);exact⟨by simp[asBool,l],p⟩
     ·obtain⟨l,p⟩:=A a Zs v (by simpa using e);exact⟨by simp[asBool,l],p⟩
    ·simp at e
   ·simp at e
  ·simp at g
 case load t a=>
  split at g
  ·rename_i T6 s X N O;simp at g;subst g;simp only[eb,h4 X]at e;split at e
   ·rename_i M G;obtain⟨l,p⟩:=A a Zs M G;simp only[execOp,l];exact h3 (Es I N O p e)
   ·simp at e
  ·rename_i T6 X N;simp at g;subst g;simp only[eb,h4 X]at e;split at e
   ·rename_i M G;obtain⟨l,p⟩:=A a Zs M G;simp only[execOp,l];exact h3 (Er I N p e)
   ·simp at e
  ·simp at g
 case fieldAddr s x f=>
  split at g
  ·rename_i U8 T0 G L;rw[jB]at g;split at g
   ·rename_i U7 TZ;split at g
    ·rename_i aw T2;simp only[sp]at g;obtain⟨U2,g⟩:=g;simp at g;subst g;simp only[eb,h4 L]at e;split at e
     ·rename_i M T1;obtain⟨l,p⟩:=A x Zs M T1;simp only[execOp,l];exact h3 (P5 G TZ T2 (by intro u;subst u;simp at U2) p e)
     ·simp at e
    ·simp at g
   ·simp at g
  ·simp at g
 case indexAddr t x i=>
  split at g
  ·rename_i n cp T0 U3 G L af;split at g
   ·rename_i aO T2;simp at g;subst g;simp only[eb,h4 L,h4 af]at e;split at e
    ·rename_i M T1;split at e
     ·rename_i E T4;split at e
      ·rename_i U4 T5;obtain⟨q,rfl⟩:=q6 T5;obtain⟨l,p⟩:=A x Zs M T1;obtain⟨P,T3⟩:=A i Zs _ T4;simp only[execOp,l,P,aq];exact h3 (RG G T2 p e)
      ·simp at e
     ·simp at e
    ·simp at e
   ·simp at g
  ·rename_i cp T0 U3 G L af;split at g
   ·rename_i aO T2;simp at g;subst g;simp only[eb,h4 L,h4 af]at e;split at e
    ·rename_i M T1;split at e
     ·rename_i E T4;split at e
      ·rename_i U4 T5;obtain⟨q,rfl⟩:=q6 T5;obtain⟨l,p⟩:=A x Zs M T1;obtain⟨P,T3⟩:=A i Zs _ T4;simp only[execOp,l,P,aq];exact h3 (RJ G T2 p e)
      ·simp at e
     ·simp at e
    ·simp at e
   ·simp at g
  ·simp at g
 case nilCheck x=>
  split at g
  ·rename_i T0 L;simp at g;subst g;simp only[eb,h4 L]at e;split at e
   ·rename_i M G;obtain⟨l,p⟩:=A x Zs M G;obtain⟨rfl,P⟩:=ade (C:=C) (D:=D) (w:=w) p e;exact⟨P _ ab x rfl l,p⟩
   ·simp at e
  ·simp at g
 case binOp op t x h UB=>
  rw[c3]at g;split at g
  ·split at g
   ·rename_i T0 UA L U1;simp at g;subst g;simp only[eb,h4 L,h4 U1]at e;split at e
    ·rename_i a X;split at e
     ·rename_i b T;obtain⟨N,O⟩:=A x Zs a X;obtain⟨l,p⟩:=A h Zs b T;obtain⟨P,T3,q,i,U9,E,rfl,rfl⟩:=Ep (C:=C) (D:=D) (Q:=Q) (w:=w) t e;simp only[execOp,N,l];refine h3 ⟨?_,T3⟩;rw[Sem.run_bind,wd (by simp[sw])];exact P
     ·simp at e
    ·simp at e
   ·simp at g
  ·simp at g;exact rest _ rfl g.symm
 case extract x i=>
  split at g
  ·rename_i T0 L;simp at g;subst g;simp only[eb,h4 L]at e;split at e
   ·rename_i M G;obtain⟨l,p⟩:=A x Zs M G;simp only[execOp,l];exact h3 (adc p e)
   ·simp at e
  ·simp at g
 case convert s d x=>
  rw[c3]at g;split at g
  ·simp at g;subst g;simp[eb]at e
  ·simp at g;exact rest _ rfl g.symm
 case store t a x=>
  split at g
  ·simp at g;subst g;simp[eb]at e
  ·simp at g
 case makeMap t r=>cases r<;>simp[gY]at g<;>subst g<;>simp[eb]at e
 case call T8=>
  obtain⟨callee,args,bN⟩:=T8;cases callee with
  |builtin b=>
   cases b<;>simp[gY]at g<;>first
    |exact rest _ rfl g.symm|(subst g;simp[eb]at e)
  |value f=>
   cases f<;>simp[gY]at g;all_goals first
    |(subst g;simp[eb]at e;done)|(
      split at g
      ·simp at g;subst g;simp[eb]at e
      ·simp at g)
  |invoke r m=>simp[gY]at g;subst g;simp[eb]at e
 all_goals(simp at g;first|exact rest _ rfl g.symm|(subst g;simp[eb]at e))
def dt{C:ai}{j:B R}{b:Nat}(J:Option R)(T:C.aD<=b)(x:Nat):F C (aI C j b J) x=if x=b then J else F C j x:=by
 unfold F aI;rw[c3,c3];by_cases a:Nat.blt x C.aD=true
 ·have:=ht a;grind
 ·have jW:C.aD<=x:=by simp_all
  rw[Zi a,Zi a,B.eX];grind
def F6{C:ai}:∀(l:List Nat) (j:B R) (x:Nat),(∀b∈l,C.aD<=b)->F C (hy C l j) x=if x∈l then none else F C j x:=by intro l;induction l with|nil=>intro j x _;simp[hy]|cons b l U=>intro j x e;simp only[hy];rw[U _ _ (λc a=>e c (by simp[a])),dt _ (e b Zs)];grind
def dS(D:bT)(b:Nat)(pl:hq):bT:=λx=>if x=b then pl else D x
def add(Q:Nat->Prop)(b:Nat):Nat->Prop:=λx=>Q x\/x=b
structure eF(C:ai)(bP:Nat)(D:bT)(Q:Nat->Prop)(j:B R)(aN:Nat)(w:World)(bZ:bT)(b9:Nat->Prop)(S':B R)(a6:World):Prop where
 eZ:∀b,Q b->bZ b=D b
 fv:∀b,Q b->b9 b
 new:∀b,b9 b->Q b\/bP<=b
 K:∀b,¬Q b->b<bP->F C S' b=F C j b
 below:Below aN w a6
def eF.refl{C:ai}{bP:Nat}{D:bT}{Q:Nat->Prop}{j:B R}{aN:Nat}{w:World}:eF C bP D Q j aN w D Q j w:=
 ⟨λ_ _=>rfl,λ_ e=>e,λ_ e=> .inl e,λ_ _ _=>rfl,.refl _ _⟩
def eF.trans{C:ai}{bP d:Nat}{D bZ g:bT}{Q b9 a:Nat->Prop}{j S' c:B R}{aN:Nat}{w a6 f:World}(e:eF C bP D Q j aN w bZ b9 S' a6)(m:bP<=d)
 (q:eF C d bZ b9 S' aN a6 g a c f):eF C bP D Q j aN w g a c f:=
 ⟨λb T=>(q.eZ b (e.fv b T)).trans (e.eZ b T),λb T=>q.fv b (e.fv b T),
  λb T=>(q.new b T).elim (λT=>e.new b T) (λT=> .inr Zo),
  λb T i=>by
   have l:=λal=>(e.new b al).elim T (λV=>Zo);rw[q.K b l Zo,e.K b T i],
  e.below.trans q.below⟩
variable{bZ:bT}{b9:Nat->Prop}{S':B R}{W:Nat}{a6:World}
def jQ(a:∀b,Q b->bZ b=D b){v:y}(g:bp Q v):aq bZ v=aq D v:=yL a v g
def nQ(a:∀b,Q b->bZ b=D b){l:List y}(g:cu Q l):bd bZ l=bd D l:=sq a l g
def fs.K{n ac:Nat}{z:B y}{tmps:Array Value}(i:∀b,Q b->bZ b=D b)(d:∀b,Q b->b9 b)(e:fs D Q n ac z tmps):fs bZ b9 n ac z tmps:=
 ⟨e.size,λt v f g=>by
  obtain⟨c,a⟩:=e.val t v f g;exact⟨by rw[c,jQ i a],iV d v a⟩⟩
def yB(a:∀b,Q b->bZ b=D b){d:eA}(g:pb Q d):hc bZ d=hc D d:=by
 obtain⟨t,m⟩:=d;obtain⟨c,f⟩:=g;simp only[hc,nQ a f];cases t with
 |fn fn cs=>
  obtain⟨i,l⟩:=c;have u:hN bZ fn=hN D fn:=by cases fn<;>simp only[hN];rw[a _ i]
  simp only[qe,u,nQ a l]
 |collected r=>simp only[qe,a r c]
def FZ(a:∀b,Q b->b9 b){d:eA}(g:pb Q d):pb b9 d:=by obtain⟨t,c⟩:=d;refine⟨?_,kw a _ g.2⟩;cases t with|fn fn cs=>exact⟨by cases fn<;>first|exact a _ g.1.1|exact g.1.1,kw a _ g.1.2⟩|collected r=>exact a _ g.1
def f1.K{J:R}{pl:hq}(t:∀b,Q b->bZ b=D b)(r:∀b,Q b->b9 b)(x:a6.heap[pl.bx]? =w.heap[pl.bx]?)(e:f1 C D Q J pl w):f1 C bZ b9 J pl a6:=by
 cases J with
 |cells c n st=>obtain⟨bg,ty,aW,af,g,f,a,A⟩:=e;refine⟨bg,ty,aW,af,by rw[x,g],f,a,λi v T0=> ?_⟩;obtain⟨P,L⟩:=A i v T0;exact⟨by rw[P,jQ t L],iV r v L⟩
 |map O bq=>obtain⟨bg,g,f,a⟩:=e;refine⟨bg,by rw[x,g], ?_,λu p=>⟨iV r _ (a u p).1,iV r _ (a u p).2⟩⟩;rw[f];apply Yv;intro u p;simp only[dR,jQ t (a u p).1,jQ t (a u p).2]
 |look O=>obtain⟨bg,bq,gO,g,f,A,a⟩:=e;refine⟨bg,bq,gO,by rw[x,g], ?_,A,λu p=>⟨iV r _ (a u p).1,iV r _ (a u p).2⟩⟩;rw[f];apply Yv;intro u p;simp only[dR,jQ t (a u p).1,jQ t (a u p).2]
 |iI s pos=>exact⟨e.1,by rw[x,e.2.1],e.2.2⟩|e7 m T1 seen st=>
  obtain⟨G,g,f⟩:=e;refine⟨G, ?_,λb T=>r b (f b T)⟩;rw[x,g];cases m with
  |none=>rfl|some m=>simp only[ZZ,t m (f m rfl)]
 |q4 m T1 n bz st T2=>obtain⟨G,g,seen,f,a⟩:=e;exact⟨G,r m g,seen,by rw[x,f,t m g],a⟩
 |loop state pending fn n ac z params assign body aP=>obtain⟨tmps,g,f,a,A⟩:=e;exact⟨tmps,by rw[x,g,t aP a],f.K t r,r _ a,A⟩
 |deferred N=>obtain⟨g,f⟩:=e;refine⟨?_,λl X d al=>FZ r (f l X d al)⟩;rw[x,g];cases N with|none=>rfl|some l=>simp only[ZZ];congr 3;exact Yv λd al=>(yB t (f l rfl d al)).symm
def f1.lt{J:R}{pl:hq}(e:f1 C D Q J pl w):pl.bx<w.heap.size:=by
 have:∃x,w.heap[pl.bx]? =some x:=by
  cases J with
  |cells c n st=>obtain⟨bg,ty,aW,af,a,_⟩:=e;exact⟨_,a⟩
  |map b bq=>obtain⟨bg,a,_⟩:=e;exact⟨_,a⟩
  |look b=>obtain⟨bg,bq,gO,a,_⟩:=e;exact⟨_,a⟩
  |iI s pos=>exact⟨_,e.2.1⟩|e7 m d seen st=>exact⟨_,e.2.1⟩|q4 m d n bz st g=>obtain⟨_,_,seen,a,_⟩:=e;exact⟨_,a⟩
  |loop state pending fn n ac z params assign body aP=>obtain⟨tmps,a,_⟩:=e;exact⟨_,a⟩
  |deferred f=>exact⟨_,e.1⟩
 grind
def bV.alloc(I:bV C D Q j k aN w){b:Nat}{pl:hq}{bQ:R}{J:Obj}(T:C.aD<=b)(TZ:b<W)(T6:k<=W)(T5:¬Q b)(cB:aN<=w.heap.size)(U0:pl.bx=w.heap.size)
 (O:F C S' b=some bQ)(P:∀x,x≠b->F C S' x=F C j x\/F C S' x=none)(T7:f1 C (dS D b pl) (add Q b) bQ pl (w.alloc J))(T8:mJ C (add Q b) bQ):
 bV C (dS D b pl) (add Q b) S' W aN (w.alloc J):=by
 have i:∀x,Q x->dS D b pl x=D x:=λx a=>by unfold dS;rw[Zi];intro u;subst u;exact T5 a
 have s:dS D b pl b=pl:=by unfold dS;rw[Zu rfl]
 have T9:∀q,q<w.heap.size->(w.alloc J).heap[q]? =w.heap[q]? :=λq T3=>Below.heap_alloc _ _ _ T3;have key:∀x d,F C S' x=some d->add Q b x->x≠b->F C j x=some d/\Q x/\(D x).bx<w.heap.size:=by
  intro x d a al r;have X:=al.resolve_right r;rcases P x r with e|e
  ·have:F C j x=some d:=(by rw[<-e,a]);exact⟨this,X,(I.obj x d this X).lt⟩
  ·grind
 refine⟨ZD I.aD T6, ?_, ?_, ?_, ?_, ?_, ?_⟩
 ·intro x a;rcases a with a|a
  ·have:=I.lt x a;omega
  ·omega
 ·intro x d a;by_cases u:x=b
  ·omega
  ·rcases P x u with e|e
   ·have:=I.mq x d (by rw[<-e,a]);omega
   ·rw[e]at a;cases a
 ·intro x d a al;by_cases u:x=b
  ·subst u;rw[O]at a;cases a;rw[s];exact T7
  ·obtain⟨g,f,p⟩:=key x d a al u;rw[i x f];exact(I.obj x d g f).K i (λ_ e=> .inl e) (T9 _ p)
 ·intro x h d G a v ce L r A t;by_cases u:x=b
  ·subst u;by_cases m:h=x
   ·exact absurd m.symm r
   ·obtain⟨g,f,p⟩:=key h G v L m;rw[s,i h f]at t;omega
  ·obtain⟨g,f,p⟩:=key x d a ce u;by_cases m:h=b
   ·subst m;rw[s,i x f]at t;omega
   ·obtain⟨T2,N,TY⟩:=key h G v L m;rw[i x f,i h N]at t ⊢;exact I.sep x h d G g T2 f N r A t
 ·intro x d A a al;by_cases u:x=b
  ·subst u;rw[s];omega
  ·obtain⟨g,f,p⟩:=key x d a al u;rw[i x f];exact I.base x d A g f
 ·intro x d a al;by_cases u:x=b
  ·subst u;rw[O]at a;cases a;exact T8
  ·obtain⟨g,f,p⟩:=key x d a al u;refine⟨λc n l T4 h v=> ?_,(I.cl x d g f).2⟩;obtain⟨T0,T1⟩:=(I.cl x d g f).1 c n l T4 h v;exact⟨.inl T0,T1⟩
def bV.FF(I:bV C D Q j k aN w)(m:∀x,F C S' x=F C j x\/F C S' x=none):bV C D Q S' k aN w:=by
 have key:∀x a,F C S' x=some a->F C j x=some a:=by grind
 exact⟨I.aD,I.lt,λx a b=>I.mq x a (key x a b),λx a b al=>I.obj x a (key x a b) al,
  λx h a d b l ce f i c g=>I.sep x h a d (key x a b) (key h d l) ce f i c g,λx a c b al=>I.base x a c (key x a b) al,λx a b al=>I.cl x a (key x a b) al⟩
def bV.put(I:bV C D Q j k aN w){b:Nat}{bQ h9:R}(T:C.aD<=b)(al:Q b)(p:F C j b=some bQ)(l:F C S' b=some h9)
 (A:∀x,x≠b->F C S' x=F C j x\/F C S' x=none)(t:∀q,q≠(D b).bx->a6.heap[q]? =w.heap[q]?)
 (s:∀x a,x≠b->F C S' x=some a->Q x->(D x).bx=(D b).bx->False)(G:f1 C D Q h9 (D b) a6)(r:mJ C Q h9):bV C D Q S' k aN a6:=by
 have key:∀x a,x≠b->F C S' x=some a->F C j x=some a:=by grind
 refine⟨I.aD,I.lt, ?_, ?_, ?_, ?_, ?_⟩
 ·intro x a c;by_cases u:x=b
  ·subst u;exact I.lt x al
  ·exact I.mq x a (key x a u c)
 ·intro x a c ce;by_cases u:x=b
  ·grind
  ·exact(I.obj x a (key x a u c) ce).K (λ_ _=>rfl) (λ_ e=>e) (t _ λV=>s x a u c ce V)
 ·intro x h a f c v ce g n d m;by_cases u:x=b
  ·grind
  ·by_cases i:h=b
   ·grind
   ·exact I.sep x h a f (key x a u c) (key h f i v) ce g n d m
 ·intro x a d c ce;by_cases u:x=b
  ·subst u;exact I.base x bQ d p al
  ·exact I.base x a d (key x a u c) ce
 ·intro x a c ce;by_cases u:x=b
  ·subst u;rw[l]at c;cases c;exact r
  ·exact I.cl x a (key x a u c) ce
def vs(J:R):Prop:=(∀c n,J≠ .cells c n .fD)/\(∀c n l,J≠ .cells c n (.grow l))
def bV.alone(I:bV C D Q j k aN w){b:Nat}{bQ:R}(T:C.aD<=b)(al:Q b)(i:F C j b=some bQ)(a:vs bQ):
 ∀x d,x≠b->F C j x=some d->Q x->(D x).bx=(D b).bx->False:=by
 intro x d g m ce f;rcases(I.sep b x bQ d i m al ce (λV=>g V.symm) T f.symm).1 with ⟨c,n,_,_,V,_⟩|⟨c,n,l,_,_,V,_⟩|⟨_,_,_,c,n,_,V,_⟩
 ·exact a.1 _ _ V
 ·exact a.2 _ _ _ V
 ·exact a.1 _ _ V
def mf(w:World)(J:Obj):(w.alloc J).heap[w.heap.size]? =some J:=by show(w.heap.push J)[w.heap.size]? =_;simp
def gM(D:bT)(b:Nat)(pl:hq):dS D b pl b=pl:=by unfold dS;rw[Zu rfl]
def kc{b:Nat}{pl:hq}(a:¬Q b):∀x,Q x->dS D b pl x=D x:=λx c=>by unfold dS;rw[Zi];intro u;subst u;exact a c
def fH(D:bT)(l:List y):(bd D l).length=l.length:=by rw[jp,Zj]
def oY(D:bT)(l:List y)(i:Nat):(bd D l)[i]? =(l[i]?).map (aq D):=by rw[jp,Zn]
def qj(D:bT)(a b:List y):bd D (a++b)=bd D a++bd D b:=by simp[jp]
def pc{a b:List y}(c:cu Q a)(T:cu Q b):cu Q (a++b):=by rw[md]at*;grind
def pd{l:List y}(e:cu Q l){i:Nat}{v:y}(a:l[i]? =some v):bp Q v:=(md Q l).1 e v (Zl a)
def g5(l:List y)(i:Nat):(B.ofList l 0 .nil).get i=l[i]? :=by rw[B.wu];simp_all
def vS{l:List y}(g:cu Q l)(ty:TypeId)(r:Nat)(w:World):f1 C D Q (.cells (B.ofList l 0 .nil) l.length .own) ⟨w.heap.size,0,r⟩ (w.alloc (.cells (bd D l).toArray ty)):=by refine⟨_,ty,0,0,mf _ _,rfl,by simp[fH],λi v a=> ?_⟩;rw[g5]at a;refine⟨?_,pd g a⟩;simp only[ZQ,zj,oY,a,ZZ]
def rx(n:Nat)(aw:List y):(fc n aw).length=n*aw.length:=by induction n with|zero=>simp[fc]|succ n U=>simp[fc,U,Nat.succ_mul,Nat.add_comm]
def Bm(aw:List y):∀(n i:Nat),i<n*aw.length->(fc n aw)[i]? =aw[i%aw.length]? :=by
 intro n;induction n with
 |zero=>grind|succ n U=>
  intro i e;simp only[fc];rw[Nat.succ_mul]at e;by_cases af:i<aw.length
  ·rw[ZO af,zb af]
  ·rw[ZT Zo,U _ Zo];congr 1;exact(Nat.mod_eq_sub_mod Zo).symm
def wx{aw:List y}(e:cu Q aw):∀n,cu Q (fc n aw):=by intro n;induction n with|zero=>trivial|succ n U=>exact pc e U
def HP(D:bT)(aw:List y)(n:Nat):((Array.range (n*aw.length)).map λi=>(bd D aw).toArray[i%aw.length]!)=(bd D (fc n aw)).toArray:=by
 apply Array.ext';rw[Array.toList_map,Array.toList_range];apply Y5;intro i;rw[Zn,oY];by_cases af:i<n*aw.length
 ·rw[List.getElem?_range af,Bm aw n i af];have b:0<aw.length:=by grind
  have a:i%aw.length<aw.length:=Nat.mod_lt _ b;rw[Zb a];simp only[ZZ];rw[getElem!_pos _ _ (by simpa[fH]using a)];simp[jp]
 ·have c:(List.range (n*aw.length))[i]? =none:=YP Zx;have d:(fc n aw)[i]? =none:=YP (by rw[rx];omega);grind
def HQ(D:bT)(aw:List y)(s n:Nat)(c:aw.length=s)(zero:Array Value)(a:n*s≠0->zero=(bd D aw).toArray):
 ((Array.range (n*s)).map (zero[·%zero.size]!))=(bd D (fc n aw)).toArray:=by
 subst c;by_cases e:n*aw.length=0
 ·have b:=YJ.1 (by rw[rx];exact e);rw[e,b];simp[bd]
 ·rw[a e, <-HP];simp[fH]
def GI{oper:Oper}{ab:Operand->Value}{O:Operand->Option y}{b:Nat}{v:y}{bQ:R}(T0:¬Q b)(p:fq D Q ab O oper.op.operands.toList)
 (e:jN oper.op C O b=some (v,bQ)):∃J,(execOp ab oper).run C.P w=.ok (.value (aq (dS D b ⟨w.heap.size,0,0⟩) v)) (w.alloc J)/\bp (add Q b) v/\
  f1 C (dS D b ⟨w.heap.size,0,0⟩) (add Q b) bQ ⟨w.heap.size,0,0⟩ (w.alloc J):=by
 have A:=kc (D:=D) (pl:=⟨w.heap.size,0,0⟩) T0;have l:∀x,Q x->add Q b x:=λ_ e=> .inl e;obtain⟨dst,op,type,pos,after,guard⟩:=oper;cases op<;>simp only[jN]at e<;>(try(cases e;done))<;>simp only[execOp]<;>simp only[Op.operands]at p;case alloc t=>
  unfold qZ at e;split at e
  ·rename_i aw n;simp at e;obtain⟨rfl,rfl⟩:=e;obtain⟨G,g⟩:=pF n D Q w;refine⟨.cells (bd D aw.cells).toArray t, ?_,.inr rfl, ?_⟩
   ·simp[Instr.alloc,G,newVar,newRow,l2,aq,gM]
   ·have:=vS (C:=C) (D:=dS D b ⟨w.heap.size,0,0⟩) (Q:=add Q b) (kw l _ (lB g)) t 0 w;rw[nQ A (lB g)]at this;exact this
  ·simp at e
 case box t x=>
  unfold uJ at e;split at e
  ·rename_i M m;simp at e;obtain⟨rfl,rfl⟩:=e;obtain⟨d,a⟩:=p x Zs M m;refine⟨.cells (bd D M.cells).toArray t, ?_,.inr rfl, ?_⟩
   ·simp[Instr.box,newVar,newRow,d,l2,aq,gM]
   ·have:=vS (C:=C) (D:=dS D b ⟨w.heap.size,0,0⟩) (Q:=add Q b) (kw l _ (lB a)) t 0 w;rw[nQ A (lB a)]at this;exact this
  ·simp at e
 case buildSlice t len N=>
  unfold uK at e;split at e
  ·rename_i cp b2 m T2;split at e
   ·rename_i s aw T3 n;simp only[cL,Zt]at e;obtain⟨⟨d,a⟩,e⟩:=e;have d:=fu d;have a:=Zr a;split at e
    ·rename_i cs X;simp at e;obtain⟨rfl,rfl⟩:=e;obtain⟨G,g⟩:=pF n D Q w;obtain⟨T4,T5⟩:=Fz (by simpa using p) T2;obtain⟨P,L⟩:=y2 (D:=D) (xa:=λi=>some (i*s,s)) (λ_ _ e=>e) b2 (fc len aw.cells) cs (wx (lB g) len) T5 X;refine⟨.cells (bd D cs).toArray cp, ?_,.inr rfl, ?_⟩
     ·have u:(N.map λx=>(x.1,ab x.2)).toList=b2.map λx=>(x.1,aq D x.2):=(by rw[<-T4];simp);have eJ:¬(len*s>2^24):=(by have:(2:Nat)^24=16777216:=(by decide);omega);have f:Instr.fill (λi=>some (i*s,s)) ((Array.range (len*s)).map ((if len*s=0 then #[]else(aq D aw).cells)[·%(if len*s=0 then #[]else(aq D aw).cells).size]!)) (N.map λx=>(x.1,ab x.2)).toList=some (bd D cs).toArray:=(by rw[HQ D aw.cells s len a _ (λT1=>by rw[Zi T1,l2]),u];exact P);simp only[Instr.buildSlice,Sem.run_bind,run_underlying m,Result.andThen_ok,ja T3];rw[Zi eJ];by_cases c:len*s=0
      ·rw[Zu c]at f;simp only[Zu c,Sem.run_bind,Sem.run_pure,Result.andThen_ok,f];simp[newRow,aq,gM]
      ·simp only[Zi c]at f;simp only[Zi c,Sem.run_bind,Sem.run_pure,Result.andThen_ok,G,f];simp[newRow,aq,gM]
     ·have:=vS (C:=C) (D:=dS D b ⟨w.heap.size,0,0⟩) (Q:=add Q b) (kw l _ L) cp 0 w;rw[nQ A L]at this;exact this
    ·simp at e
   ·simp at e
  ·simp at e
 case makeMap t r=>
  cases r with
  |some r=>simp[jN]at e|none=>
   simp[jN]at e;obtain⟨rfl,rfl⟩:=e;refine⟨.map #[] 0, ?_,.inr rfl, ?_⟩
   ·simp[Instr.makeMap,aq,gM]
   ·exact⟨#[],mf _ _,rfl,Zs⟩
def fK:Array Value->Nat->List Value->Array Value
 |c,_,[]=>c|c,J,v::l=>fK (c.setIfInBounds J v) (J+1) l
def ni:∀(l:List Value) (c:Array Value) (J:Nat),(fK c J l).size=c.size:=by intro l;induction l with|nil=>intro c J;rfl|cons v l U=>intro c J;simp[fK,U]
def xv:∀(l:List Value) (c:Array Value) (J i:Nat),J+l.length<=c.size->(fK c J l)[i]? =if J<=i/\i<J+l.length then l[i-J]? else c[i]? :=by intro l;induction l with|nil=>intro c J i _;rw[Zi (by simp only[ZU];omega)];rfl|cons v l U=>intro c J i e;simp only[ZI]at e;simp only[fK];grind
def xs(P:Program)(g J:Nat)(t:TypeId)(aW af:Nat):∀(aF:List Value) (i:Nat) (a:Array Value) (w:World),w.heap[g]? =some (.cells a t (aW,af))->(af<=aW\/a.size<=aW)->
 J+i+aF.length<=a.size->(∀v∈aF,v.oneCell'=true)->(storeCells ⟨g,J,none⟩ aF i).run P w=.ok () (w.setRow g (fK a (J+i) aF)):=by
 intro aF;induction aF with
 |nil=>intro i a w b _ _ _;simp only[fK];rw[setRow_self w g a t _ b];rfl|cons v aF U=>
  intro i a w b l n c;simp only[ZI]at n;have d:(⟨g,J,none⟩:Addr).add i=⟨g,J+i,none⟩:=ko _ _ _;have f:w.cell? ⟨g,J+i,none⟩=some a[J+i]:=by simp[World.cell?,b]
  have m:w.frozen? ⟨g,J+i,none⟩=false:=by simp only[World.frozen?,b,Bool.and_eq_false_iff,Zc];omega
  have p:(store ((⟨g,J,none⟩:Addr).add i) v).run P w=.ok () (w.setRow g (a.setIfInBounds (J+i) v)):=by rw[d,run_store P w _ v _ (c v Zs),f];simp[m,setCell_eq_setRow w g (J+i) a t _ v b]
  have:=U (i+1) (a.setIfInBounds (J+i) v) (w.setRow g (a.setIfInBounds (J+i) v)) (setRow_heap w g a _ t _ b) (by simpa using l) Zx (λx r=>c x (by simp[r]));simp only[storeCells,Sem.run_bind,p,Result.andThen_ok,this,setRow_setRow];rfl
def yu{p:Nat}(cB:aN<=p)(cs:Array Value)(w:World):Below aN w (w.setRow p cs):=
 ⟨rfl,rfl,rfl,Zs,λq a=>setRow_other w p q cs Zo⟩
def A9:∀{aF:List y},ei aF=true->∀v∈bd D aF,v.oneCell'=true:=by
 intro aF;induction aF with
 |nil=>intro _ v b;simp[bd]at b|cons a l U=>
  intro e v b;simp only[ei,Zt]at e;simp only[bd,Zq]at b;rcases b with rfl|b
  ·cases a<;>simp[hV]at e<;>rfl
  ·grind
def IU{c:B y}{bg:Array Value}{cm J n:Nat}{aF:List y}(b:cu Q aF)(f:J+aF.length<=n)(d:cm+n<=bg.size)
 (e:∀i v,c.get i=some v->bg[cm+i]? =some (aq D v)/\bp Q v):
 ∀i v,(ch c J aF).get i=some v->(fK bg (cm+J) (bd D aF))[cm+i]? =some (aq D v)/\bp Q v:=by
 intro i v a;rw[BR,B.wu]at a;rw[xv _ _ _ _ (by rw[fH];omega),fH];split at a
 ·rename_i af;rw[Zu Zo,oY,show cm+i-(cm+J)=i-J by omega,a];exact⟨rfl,pd b a⟩
 ·grind
def xM{c:B y}{J n:Nat}{aF:List y}(b:J+aF.length<=n)(e:∀i v,c.get i=some v->i<n):∀i v,(ch c J aF).get i=some v->i<n:=by intro i v a;rw[BR,B.wu]at a;grind
def s4{l:List y}:∀i v,(B.ofList l 0 .nil).get i=some v->i<l.length:=by intro i v a;rw[g5]at a;grind
def tN(I:bV C D Q j k aN w){bP b J:Nat}{aF:List y}(al:Q b)(T2:cu Q aF)(e:gX C j b J aF=some S'):
 ∃a6,(storeCells ⟨(D b).bx,(D b).cm+J,none⟩ (bd D aF)).run C.P w=.ok () a6/\bV C D Q S' k aN a6/\eF C bP D Q j aN w D Q S' a6:=by
 unfold gX at e;split at e
 ·rename_i c n st f;simp only[cL,Zt]at e;obtain⟨⟨⟨i,O⟩,P⟩,e⟩:=e;have i:=fu i;have T:=fu O;obtain⟨bg,ty,aW,af,aL,bs,a3,a4⟩:=I.obj b _ f al;have T7:st≠ .fD:=λu=>(by subst u;simp at e);refine⟨w.setRow (D b).bx (fK bg ((D b).cm+J) (bd D aF)), ?_, ?_⟩
  ·exact xs C.P _ _ ty aW af (bd D aF) 0 bg w aL (bs.free T7) (by rw[fH];omega) (A9 P)
  have T8:=setRow_heap w (D b).bx bg (fK bg ((D b).cm+J) (bd D aF)) ty (aW,af) aL;have T1:=I.base b _ T f al;have G:Below aN w (w.setRow (D b).bx (fK bg ((D b).cm+J) (bd D aF))):=yu T1 _ _;have N:∀q,q≠(D b).bx->(w.setRow (D b).bx (fK bg ((D b).cm+J) (bd D aF))).heap[q]? =w.heap[q]? :=λq T3=>setRow_other w _ q _ T3;have fin:∀fC,se fC n (D b) bg.size aW af->f1 C D Q (.cells (ch c J aF) n fC) (D b) (w.setRow (D b).bx (fK bg ((D b).cm+J) (bd D aF))):=by intro fC t;refine⟨_,ty,aW,af,T8,by rw[ni];exact t,by rw[ni];exact a3,IU T2 i a3 a4⟩
  have plain:∀fC,vs (.cells c n st)->se fC n (D b) bg.size aW af->(∀l,fC≠ .grow l)->S'=aI C j b (some (.cells (ch c J aF) n fC))->
   bV C D Q S' k aN (w.setRow (D b).bx (fK bg ((D b).cm+J) (bd D aF)))/\eF C bP D Q j aN w D Q S' (w.setRow (D b).bx (fK bg ((D b).cm+J) (bd D aF))):=by
   intro fC T0 t T5 X;subst X;have s:F C (aI C j b (some (.cells (ch c J aF) n fC))) b=some (.cells (ch c J aF) n fC):=(by rw[dt _ T,Zu rfl]);have g:∀x,x≠b->F C (aI C j b (some (.cells (ch c J aF) n fC))) x=F C j x:=λx a=>(by rw[dt _ T,Zi a]);refine⟨I.put T al f s (λx a=> .inl (g x a)) N ?_ (fin fC t) ⟨λp v l d=>(by cases d;exact absurd rfl (T5 _)),λp v TY d=>(by cases d;exact xM i ((I.cl b _ f al).2 _ _ _ rfl))⟩, ?_⟩
   ·intro x A m a ce r;rw[g x m]at a;exact I.alone T al f T0 x A m a ce r
   ·exact⟨λ_ _=>rfl,λ_ e=>e,λ_ e=> .inl e,λx a _=>g x (λu=>a (u▸al)),G⟩
  cases st with
  |own=>simp only[dD,Zh]at e;exact plain .own ⟨Zs,Zs⟩ bs Zs e.symm|marked=>simp only[dD,Zh]at e;exact plain .marked ⟨Zs,Zs⟩ bs Zs e.symm|grow cl=>
   simp only[dD,Zh]at e;have L:=(I.cl b _ f al).1 _ _ _ rfl;subst e;have s:F C (aI C (hy C cl j) b (some (.cells (ch c J aF) n (.grow [])))) b=some (.cells (ch c J aF) n (.grow [])):=(by rw[dt _ T,Zu rfl]);have g:∀x,x≠b->F C (aI C (hy C cl j) b (some (.cells (ch c J aF) n (.grow [])))) x=if x∈cl then none else F C j x:=λx a=>(by rw[dt _ T,Zi a,F6 _ _ _ λh T9=>(L h T9).2]);refine⟨I.put T al f s (λx a=> ?_) N ?_ (fin (.grow []) bs) ⟨λp v l d=>(by cases d;simp),λp v TY d=>(by cases d;exact xM i ((I.cl b _ f al).2 _ _ _ rfl))⟩, ?_⟩
   ·rw[g x a];split
    ·exact .inr rfl
    ·exact .inl rfl
   ·intro x A m a ce r;rw[g x m]at a;split at a
    ·cases a
    ·rename_i T6;rcases(I.sep b x _ A f a al ce (λV=>m V.symm) T r.symm).1 with ⟨_,_,_,_,V,_⟩|⟨_,_,l,_,_,V,_,d,_⟩|⟨_,_,_,_,_,_,V,_⟩
     ·cases V
     ·cases V;exact T6 d
     ·cases V
   ·exact⟨λ_ _=>rfl,λ_ e=>e,λ_ e=> .inl e,λx a _=>by
     rw[g x (λu=>a (u▸al)),Zi (λT4=>a (L x T4).1)],G⟩
  |fD=>simp at e
 ·simp at e
def oE(C:ai)(D:bT)(Q:Nat->Prop)(j:B R)(k aN:Nat)(w:World)(s:Sem Next)(v:y)(S':B R)(W:Nat):Prop:=
 ∃bZ b9 a6 n,s.run C.P w=.ok n a6/\(n=.value (aq bZ v)\/(n=.skip/\v=undef))/\bp b9 v/\bV C bZ b9 S' W aN a6/\eF C k D Q j aN w bZ b9 S' a6/\k<=W
def putObj(I:bV C D Q j k aN w){bP b:Nat}{bQ h9:R}{fB dH:Obj}(T:C.aD<=b)(al:Q b)(g:F C j b=some bQ)(n:vs bQ)(i:w.heap[(D b).bx]? =some fB)
 (r:∀c u f,fB≠ .cells c u f)(s:∀a6:World,a6.heap[(D b).bx]? =some dH->f1 C D Q h9 (D b) a6)(t:mJ C Q h9):
 ∃a6,(Go.setObj (D b).bx dH).run C.P w=.ok () a6/\bV C D Q (aI C j b (some h9)) k aN a6/\eF C bP D Q j aN w D Q (aI C j b (some h9)) a6:=by
 have v:(Go.setObj (D b).bx dH).run C.P w=.ok () {w with heap:=w.heap.setIfInBounds (D b).bx dH}:=by
  cases fB<;>first
   |exact absurd rfl (r _ _ _)|simp[Go.setObj,Sem.run,i]
 obtain⟨a7,bl⟩:=MapKept.heap_set i;have A:F C (aI C j b (some h9)) b=some h9:=by rw[dt _ T,Zu rfl]
 have d:∀x,x≠b->F C (aI C j b (some h9)) x=F C j x:=λx a=>by rw[dt _ T,Zi a]
 have L:=I.base b _ T g al;refine⟨_,v,I.put T al g A (λx a=> .inl (d x a)) (λq l=>bl q l) ?_ (s _ a7) t, ?_⟩
 ·intro x G m a ce p;rw[d x m]at a;exact I.alone T al g n x G m a ce p
 ·exact⟨λ_ _=>rfl,λ_ e=>e,λ_ e=> .inl e,λx a _=>d x (λu=>a (u▸al)),rfl,rfl,rfl,Zs,λq l=>bl q Zo⟩
def tk{r:Nat}{J:R}{v:y}{res:cj}(e:setObj C j k r J v=some res):res=.cJ v (aI C j r (some J)) k/\C.aD<=r:=by unfold setObj at e;simp only[dD,cL,Zh]at e;exact⟨e.2.symm,fu e.1⟩
def xg(I:bV C D Q j k aN w){bP r:Nat}{b gO:List (y×y×Nat)}{bq kr:Nat}{qc:Array MapEntry}(T:C.aD<=r)(al:Q r)(a:F C j r=some (.map b bq))
 (d:qc.toList=gO.map (dR D))(f:∀u∈gO,bp Q u.1/\bp Q u.2.1):
 ∃a6,(Go.setObj (D r).bx (.map qc kr)).run C.P w=.ok () a6/\bV C D Q (aI C j r (some (.map gO kr))) k aN a6/\eF C bP D Q j aN w D Q (aI C j r (some (.map gO kr))) a6:=by
 obtain⟨bg,c,_,_⟩:=I.obj r _ a al;exact putObj I T al a ⟨Zs,Zs⟩ c Zs (λa6 g=>⟨qc,g,d,f⟩) ⟨λ_ _ _ e=>(by cases e),λ_ _ _ e=>(by cases e)⟩
def ack(I:bV C D Q j k aN w){s:Nat}{t:TypeId}{a v:y}{res:cj}(g:fd C t=some s)(d:bp Q a)(dg:bp Q v)(e:xA C j k s a v=some res):
 ∃S',res=.cJ undef S' k/\∀M:Sem Next,(∀a6,(Instr.storeAt t (aq D a) (aq D v)).run C.P w=.ok () a6->M.run C.P w=.ok .skip a6)->oE C D Q j k aN w M undef S' k:=by
 unfold xA at e;split at e
 ·rename_i b J;simp only[cL,Zt]at e;obtain⟨⟨c,n⟩,e⟩:=e;have c:=Zr c;split at e
  ·rename_i S' f;simp at e;obtain⟨a6,a7,bl,m⟩:=tN I d (lB dg) f;refine⟨S',e.symm,λM l=>⟨D,Q,a6,.skip,l a6 ?_,.inr ⟨rfl,rfl⟩,by trivial,bl,m,Zg _⟩⟩;have i:(aq D v).cells.size=s:=(by rw[l2];simp[fH,c]);simp only[Instr.storeAt,Instr.sureAddr,aq,Sem.run_bind,Result.andThen_ok,storeVar,ja g,i,ne_eq];simp only[l2];exact a7
  ·grind
 ·grind
def RT:∀(n:Nat),(∀(m:Nat) (x h:y),n<=m->bp Q x->bp Q h->hO n x h=true->Instr.sameBits m (aq D x) (aq D h)=true)/\
 ∀(m:Nat) (a b:List y),n<=m->cu Q a->cu Q b->hO.pi n a b=true->(bd D a).length=(bd D b).length/\((bd D a).zip (bd D b)).all (λ(x,h)=>Instr.sameBits m x h)=true:=by
 intro n;induction n with
 |zero=>
  refine⟨λm x h _ _ _ e=>by simp[hO]at e, ?_⟩;intro m a;induction a with
  |nil=>intro b _ _ _ e;cases b<;>simp[hO.pi]at e<;>simp[bd]|cons x a _=>intro b _ _ _ e;cases b<;>simp[hO.pi,hO]at e
 |succ n U=>
  have one:∀(m:Nat) (x h:y),n+1<=m->bp Q x->bp Q h->hO (n+1) x h=true->Instr.sameBits m (aq D x) (aq D h)=true:=by
   intro m x h d i l e;obtain⟨m,rfl⟩:∃q,m=q+1:=⟨m-1,Zo⟩;unfold hO at e;split at e<;>(try(cases e;done))
   ·simpa[aq,Instr.sameBits]using e
   ·simp at e;obtain⟨rfl,rfl⟩:=e;simp[aq,Instr.sameBits]
   ·rename_i a b;have:=(uT _ _).1 e;subst this;simp only[aq,Instr.sameBits];rw[ES];simp
   ·rename_i b J w dH;simp only[Zt]at e;have c:=Zr e.1;have p:=Zr e.2;subst c;subst p;simp[aq,Instr.sameBits]
   ·simp[aq,Instr.sameBits]
   ·simp[aq,Instr.sameBits]
   ·rename_i t v es s;simp only[Zt]at e;have c:=Zr e.1;subst c;simp[aq,Instr.sameBits,U.1 m v s Zo i l e.2]
   ·rename_i a b;obtain⟨a7,bl⟩:=U.2 m a b Zo i l e;simp only[aq,Instr.sameBits,Zt];exact⟨by simpa using a7,by simpa using bl⟩
  refine⟨one, ?_⟩;intro m a;induction a with|nil=>intro b _ _ _ e;cases b<;>simp[hO.pi]at e<;>simp[bd]|cons x a r=>intro b d f g e;cases b with|nil=>simp[hO.pi]at e|cons h b=>simp only[hO.pi,Zt]at e;obtain⟨a7,bl⟩:=r b d f.2 g.2 e.2;simp only[bd,ZI,List.zip_cons_cons,List.all_cons,Zt];exact⟨Zo,one m x h d f.1 g.1 e.1,bl⟩
def RU{hD new:y}(go:bp Q hD)(a:bp Q new)(e:hO 20 hD new=true):(Instr.keyThatStays (aq D hD) (aq D new)).run C.P w=.ok (aq D new) w:=by simp[Instr.keyThatStays,(RT (Q:=Q) 20).1 10000 hD new Zd go a e]
def Pt{bg:Array MapEntry}{a:List (y×y×Nat)}{i:Nat}{u:y×y×Nat}(b:bg.toList=a.map (dR D))(e:a[i]? =some u):bg[i]? =some (dR D u):=by rw[<-Z5,b,Zn,e];rfl
def S8{bg:Array MapEntry}{a:List (y×y×Nat)}{i:Nat}{u b:y×y×Nat}(f:MapEntry->MapEntry)(c:bg.toList=a.map (dR D))(e:a[i]? =some u)
 (d:f (dR D u)=dR D b):(bg.modify i f).toList=(a.set i b).map (dR D):=by
 apply Y5;grind
def QM{b:List (y×y×Nat)}{i:Nat}{a:y×y×Nat}(d:∀u∈b,bp Q u.1/\bp Q u.2.1)(c:bp Q a.1/\bp Q a.2.1):∀u∈b.set i a,bp Q u.1/\bp Q u.2.1:=by grind
def NL(I:bV C D Q j k aN w){t:Nat}{m q v:y}{res:cj}(f:bp Q m)(b:bp Q q)(dg:bp Q v)(e:tJ C j k t m q v=some res):
 ∃S' a6,res=.cJ undef S' k/\(Instr.mapUpdate t (aq D m) (aq D q) (aq D v)).run C.P w=.ok () a6/\bV C D Q S' k aN a6/\eF C k D Q j aN w D Q S' a6:=by
 unfold tJ at e;split at e
 ·rename_i dZ N r A;split at e
  ·rename_i d bq l;simp only[cL]at e;obtain⟨s,e⟩:=e;obtain⟨P,x⟩:=At s;obtain⟨bg,aL,bs,a3,a4⟩:=na I f l;have p:=yo (C:=C) (D:=D) (Q:=Q) (w:=w) (u:=false) 20 10000 dZ q Zd b s;split at e
   ·rename_i i M c;have g:=ui I x b a4 c;obtain⟨_,u,a,rfl⟩:=y5 d 0 i M c;simp only[ze]at a;rw[jB,a]at e;obtain⟨O,X,born⟩:=u;simp only[cL]at e;obtain⟨L,e⟩:=e;obtain⟨rfl,T⟩:=tk e;have G:=a4 _ (Zl a);obtain⟨a6,a7,bl,n⟩:=xg I (bP:=k) T f l (kr:=bq) (gO:=d.set i (q,v,born)) (S8 (λu=>{u with key:=aq D q,val:=aq D v}) a3 a rfl) (QM a4 ⟨b,dg⟩);refine⟨_,a6,rfl, ?_,bl,n⟩;simp[Instr.mapUpdate,run_underlying A,aq,aL,p,a3,g,k0,Pt a3 a,dR,RU G.1 b L,a7]
   ·rename_i c;have g:=ui I x b a4 c;obtain⟨rfl,T⟩:=tk e;obtain⟨a6,a7,bl,n⟩:=xg I (bP:=k) T f l (kr:=bq+1) (gO:=d++[(q,v,bq)]) (qc:=bg.push {key:=aq D q,val:=aq D v,born:=bq}) (by simp[a3,dR])
     (λu a=>(Zv.1 a).elim (a4 u) (λa=>by simp at a;subst a;exact⟨b,dg⟩))
    refine⟨_,a6,rfl, ?_,bl,n⟩;simp[Instr.mapUpdate,run_underlying A,aq,aL,p,a3,g,k0,a7]
   ·simp at e
  ·simp at e
 ·simp at e
def QQ(ld aV:Nat)(a:ld+(ld+768)/4<=aV):∀(r c:Nat),c<=aV->Builtin.growBy ld r c<=aV:=by intro r;induction r with|zero=>intro c e;exact e|succ r U=>intro c e;simp only[Builtin.growBy];grind
def nextslicecap_le{ld rj:Nat}(e:rj<ld):Builtin.nextslicecap ld rj<=2*ld+200:=by
 unfold Builtin.nextslicecap;split
 ·omega
 ·split
  ·omega
  ·exact QQ ld _ Zo 4 rj Zo
def aa9{ld rj bytes:Nat}(e:rj<ld)(c:ld<=1048576)(T:bytes<=65536):¬(Builtin.nextslicecap ld rj*bytes>2^48):=by have a:=nextslicecap_le e;have b:=Nat.mul_le_mul Zo T;omega
def wrap_small{n:Nat}(a:n<=1048576):IntKind.i64.wrap (n:Int)=n:=by rw[<-IS];simp only[im,c3,Zf];grind
def yA{n b:Nat}(a:n<=1048576)(c:b<=65536):¬((281474976710656:Int)<(n:Int)*(b:Int)):=by have d:=Nat.mul_le_mul a c;grind
def nz(P:Program)(w:World)(ce:TypeDesc)(X:Value)(i:TypeInfo)(aw:Value)(n:Nat)(new:Array Value):Prop:=
 ((ce=.string\/∃u,ce=.slice u)/\(Builtin.lenOf X).run P w=.ok n w/\(Builtin.firstCells i.size n X).run P w=.ok new w/\(Builtin.firstCells i.size n X).run P w.drew=.ok new w.drew)\/
 ((∃V,ce=.int V)/\(∃q,X=.int q (Int.ofNat n))/\n<=1048576/\i.bytes<=65536/\n*i.size≠0/\new=Builtin.zeroCells aw.cells n)
variable{P:Program}{bN:Array TypeId}{ty st e1 cp:TypeId}{i:TypeInfo}{ce:TypeDesc}{base:Option Addr}{ej gJ n:Nat}{X aw:Value}{hD new:Array Value}
def vM{a:Addr}(d:bN[0]? =some st)(f:bN[1]? =some e1)(m:P.underlying st=some (.slice cp))(p:P.underlying e1=some ce)(af:P.info? cp=some i)(C:i.zero=some aw)
 (t:nz P w ce X i aw n new)(g:ej+n<=gJ)(l:(storeCells (a.add (ej*i.size)) new.toList).run P w=.ok () a6):
 (Builtin.append_ bN ty #[.slice (some a) ej gJ,X]).run P w=.ok (.slice (some a) (ej+n) gJ) a6:=by
 have r:(#[Value.slice (some a) ej gJ,X]:Array Value)[0]? =some (.slice (some a) ej gJ):=rfl;have s:(#[Value.slice (some a) ej gJ,X]:Array Value)[1]? =some X:=rfl;clear r s;rcases t with ⟨G,b,c,_⟩|⟨⟨V,rfl⟩,⟨q,rfl⟩,b,c,L,rfl⟩
 ·rcases G with rfl|⟨_,rfl⟩<;>simp[Builtin.append_,d,f,run_underlying m,run_underlying p,sizeOf,typeInfo,af,b,g,c,l]
 ·have x:=yA b c;have v:¬((n:Int)<0):=Zo;have A:=wrap_small b;simp[Builtin.append_,d,f,run_underlying m,run_underlying p,sizeOf,typeInfo,af,asInt,asIntOf,A,x,v,g,L,zeroValue,C,l]
def EF(c:bN[0]? =some st)(d:bN[1]? =some e1)(r:P.underlying st=some (.slice cp))(t:P.underlying e1=some ce)(af:P.info? cp=some i)(v:i.zero=some aw)
 (A:nz P w ce X i aw n new)(l:¬(ej+n<=gJ))(T:i.bytes<=65536)(L:ej+n<=1048576)(m:(Builtin.firstCells i.size ej (.slice base ej gJ)).run P w.drew=.ok hD w.drew):
 ∃cap,ej+n<=cap/\(Builtin.append_ bN ty #[.slice base ej gJ,X]).run P w=
  .ok (.slice (some ⟨w.heap.size,0,none⟩) (ej+n) cap) (w.drew.alloc (.cells (hD++new++Builtin.zeroCells aw.cells (cap-(ej+n))) cp)):=by
 have I:=aa9 (ld:=ej+n) (rj:=gJ) Zo L T;have p:¬(281474976710656<Builtin.nextslicecap (ej+n) gJ*i.bytes):=by
  have T0:(2:Nat)^48=281474976710656:=by decide
  omega
 have f:¬((9223372036854775807:Int)<(ej:Int)+(n:Int)):=Zo;refine⟨ej+n+(w.tape w.drawn (.appendCap (ej+n) gJ cp))%(2^63-(ej+n)),Zo, ?_⟩;have s:w.drew.heap.size=w.heap.size:=rfl;have g:IntKind.i64.max=9223372036854775807:=by decide
 rcases A with ⟨O,a,x,b⟩|⟨⟨V,rfl⟩,⟨q,rfl⟩,a,x,b,rfl⟩
 ·rcases O with rfl|⟨_,rfl⟩<;>
   simp[Builtin.append_,c,d,run_underlying r,run_underlying t,sizeOf,typeInfo,af,a,l,b,zeroValue,v,g,f,p,Question.forced,Question.cut,m,newRow,s]
 ·have G:=yA a x;have C:¬((n:Int)<0):=Zo;have N:=wrap_small a;simp[Builtin.append_,c,d,run_underlying r,run_underlying t,sizeOf,typeInfo,af,asInt,asIntOf,N,G,C,l,b,zeroValue,v,g,f,p,Question.forced,Question.cut,m,newRow,s]
structure nD(P:Program):Prop where
 mixed:P.follows .mixedOrders=true
 num:∀(f:Nat) fn,P.funcs[f]? =some fn->fn.body.isSome=true->(fn.name== "runtime.NumGoroutine")=false
def bV.same(I:bV C D Q j k aN w)(a:a6.heap=w.heap):bV C D Q j k aN a6:=
 ⟨I.aD,I.lt,I.mq,λb J e d=>(I.obj b J e d).K (λ_ _=>rfl) (λ_ e=>e) (by rw[a]),I.sep,I.base,I.cl⟩
def bV.drew(I:bV C D Q j k aN w):bV C D Q j k aN w.drew:=I.same rfl
def bV.aa1(I:bV C D Q j k aN w){b:Nat}{c:B y}{n:Nat}{cl:List Nat}(T:C.aD<=b)(al:Q b)(r:F C j b=some (.cells c n (.grow cl))):
 bV C D Q (aI C j b (some (.cells c n .fD))) k aN w:=by
 have v:F C (aI C j b (some (.cells c n .fD))) b=some (.cells c n .fD):=by rw[dt _ T,Zu rfl]
 have f:∀x,x≠b->F C (aI C j b (some (.cells c n .fD))) x=F C j x:=λx a=>by rw[dt _ T,Zi a]
 refine⟨I.aD,I.lt, ?_, ?_, ?_, ?_, ?_⟩
 ·intro x d a;by_cases u:x=b
  ·subst u;exact I.lt x al
  ·exact I.mq x d (by rw[<-f x u,a])
 ·intro x d a ce;by_cases u:x=b
  ·subst u;rw[v]at a;cases a;obtain⟨bg,ty,aW,af,m,p,X,T0⟩:=I.obj x _ r al;exact⟨bg,ty,aW,af,m,⟨trivial,p.2⟩,X,T0⟩
  ·exact I.obj x d (by rw[<-f x u,a]) ce
 ·intro x h d P a i ce G t g L;by_cases u:x=b
  ·subst u;rw[v]at a;cases a;rw[f h λV=>t V.symm]at i;obtain⟨m,p⟩:=I.sep x h _ P r i ce G t g L;refine⟨?_,p⟩;rcases m with ⟨_,_,_,_,V,_⟩|⟨_,_,l,s,A,V,N,T1⟩|⟨_,_,_,_,_,_,V,_⟩
   ·cases V
   ·exact .inl ⟨c,n,s,A,rfl,N⟩
   ·cases V
  ·rw[f x u]at a;by_cases O:h=b
   ·subst O;rw[v]at i;cases i;obtain⟨m,p⟩:=I.sep x h d _ a r ce G t g L;refine⟨?_,p⟩;rcases m with ⟨_,_,_,_,_,V⟩|⟨_,_,l,s,A,_,V,T1⟩|⟨s,A,_,_,_,V,N,_⟩
    ·cases V
    ·cases V
    ·exact .inl ⟨s,A,c,n,N,rfl⟩
   ·rw[f h O]at i;exact I.sep x h d P a i ce G t g L
 ·intro x d g a ce;by_cases u:x=b
  ·subst u;exact I.base x _ g r al
  ·exact I.base x d g (by rw[<-f x u,a]) ce
 ·intro x d a ce;by_cases u:x=b
  ·subst u;rw[v]at a;cases a;have:=(I.cl x _ r al).2 _ _ _ rfl;exact⟨λ_ _ _ e=>(by cases e),λ_ _ _ e=>(by cases e;exact this)⟩
  ·exact I.cl x d (by rw[<-f x u,a]) ce
def bV.share(I:bV C D Q j k aN w){bx:Nat}{pl:hq}{bQ:R}(cB:aN<=bx)(N:pl.bx=bx)(T6:∀q,q≠bx->a6.heap[q]? =w.heap[q]?)
 (T4:f1 C (dS D k pl) (add Q k) bQ pl a6)(T5:mJ C (add Q k) bQ)
 (p:∀x a,F C j x=some a->Q x->(D x).bx=bx->f1 C D Q a (D x) a6/\yl bQ a k x/\yl a bQ x k/\pl.cm=(D x).cm):
 bV C (dS D k pl) (add Q k) (aI C j k (some bQ)) (k+1) aN a6:=by
 have T:=I.aD;have T3:¬Q k:=λe=>zK (I.lt k e);have b:=kc (D:=D) (pl:=pl) T3;have t:F C (aI C j k (some bQ)) k=some bQ:=by rw[dt _ T,Zu rfl]
 have d:∀x,x≠k->F C (aI C j k (some bQ)) x=F C j x:=λx p=>by rw[dt _ T,Zi p]
 have ap:∀x,add Q k x->x≠k->Q x:=λx e s=>e.resolve_right s;refine⟨Zo, ?_, ?_, ?_, ?_, ?_, ?_⟩
 ·intro x e;rcases e with e|e
  ·have:=I.lt x e;omega
  ·omega
 ·intro x a e;by_cases u:x=k
  ·omega
  ·have:=I.mq x a (by rw[<-d x u,e]);omega
 ·intro x a e ce;by_cases u:x=k
  ·subst u;rw[t]at e;cases e;rw[gM];exact T4
  ·rw[d x u]at e;have ce:=ap x ce u;rw[b x ce];by_cases V:(D x).bx=bx
   ·exact(p x a e ce V).1.K b (λ_ e=> .inl e) rfl
   ·exact(I.obj x a e ce).K b (λ_ e=> .inl e) (T6 _ V)
 ·intro x h a X m f ce i s O g;by_cases u:x=k
  ·subst u;rw[t]at m;cases m;have v:h≠x:=λV=>s V.symm;rw[d h v]at f;have i:=ap h i v;rw[gM,b h i]at g ⊢;obtain⟨_,G,_,L⟩:=p h X f i (by rw[<-g,N]);exact⟨G,L⟩
  ·rw[d x u]at m;have r:=ap x ce u;by_cases A:h=k
   ·subst A;rw[t]at f;cases f;rw[gM,b x r]at g ⊢;obtain⟨_,_,T1,L⟩:=p x a m r (by rw[g,N]);exact⟨T1,L.symm⟩
   ·rw[d h A]at f;have P:=ap h i A;rw[b x r,b h P]at g ⊢;exact I.sep x h a X m f r P s O g
 ·intro x a O e ce;by_cases u:x=k
  ·subst u;rw[gM,N];exact cB
  ·rw[d x u]at e;have ce:=ap x ce u;rw[b x ce];exact I.base x a O e ce
 ·intro x a e ce;by_cases u:x=k
  ·subst u;rw[t]at e;cases e;exact T5
  ·rw[d x u]at e;have ce:=ap x ce u;refine⟨λc n l T2 h v=> ?_,(I.cl x a e ce).2⟩;obtain⟨T0,G⟩:=(I.cl x a e ce).1 c n l T2 h v;exact⟨.inl T0,G⟩
def Gu{c:B y}{J n:Nat}{l:List y}(e:c.g1 J n=some l):l.length=n:=(B.wt _ _ _ _ e).1
def yG{b J n:Nat}{l:List y}(e:gj C j b J n=some l):l.length=n:=by
 unfold gj at e;split at e
 ·exact Gu e
 ·simp_all
def IY(D:bT)(aw:y)(n:Nat):Builtin.zeroCells (aq D aw).cells n=(bd D (fc n aw.cells)).toArray:=by rw[l2, <-HP];simp[Builtin.zeroCells,fH]
def If(D:bT)(s:List Nat)(a:∀x∈s,x<256):((dz s).data.map λb=>Value.int .u8 b.toNat)=(bd D (s.map λn=>y.int .u8 (Int.ofNat n))).toArray:=by apply Array.ext';simp only[dz,jp];simp only[List.map_toArray,Z2];apply Yv;intro x c;simp[aq,zb (a x c)]
def abT(I:bV C D Q j k aN w){x:y}{i:TypeInfo}{aw:Value}{ce:TypeDesc}{n:Nat}{l:List y}(d:bp Q x)(f:ce=.string\/∃u,ce=.slice u)(e:f9 C j i.size x=some (n,l)):
 nz C.P w ce (aq D x) i aw n (bd D l).toArray/\cu Q l/\l.length=n*i.size:=by
 unfold f9 at e;split at e
 ·simp at e;obtain⟨rfl,rfl⟩:=e;refine⟨.inl ⟨f, ?_, ?_, ?_⟩,trivial,Zs⟩<;>simp[aq,Builtin.lenOf,Builtin.firstCells,bd]
 ·rename_i b J len cap;split at e
  ·rename_i G c;simp at e;obtain⟨rfl,rfl⟩:=e;obtain⟨a,g⟩:=so I d c;obtain⟨m,_⟩:=so I.drew d c;refine⟨.inl ⟨f, ?_, ?_, ?_⟩,g,yG c⟩<;>simp[aq,Builtin.lenOf,Builtin.firstCells,a,m]
  ·simp at e
 ·rename_i b J len cap;split at e
  ·rename_i G c;simp at e;obtain⟨rfl,rfl⟩:=e;obtain⟨a,g⟩:=so I d c;obtain⟨m,_⟩:=so I.drew d c;refine⟨.inl ⟨f, ?_, ?_, ?_⟩,g,yG c⟩<;>simp[aq,Builtin.lenOf,Builtin.firstCells,a,m]
  ·simp at e
 ·rename_i s;simp only[cL]at e;obtain⟨a,e⟩:=e;have a:=Zr a;simp at e;obtain⟨rfl,rfl⟩:=e;have t:(dz s).size=s.length:=by simp[dz,ByteArray.size]
  have r:(dz s).extract 0 s.length=dz s:=by rw[<-t];exact ByteArray.extract_zero_size
  have p:=If D s d;refine⟨.inl ⟨f, ?_, ?_, ?_⟩, ?_,by simp[a]⟩
  ·simp[aq,Builtin.lenOf,t]
  ·simp only[aq,Builtin.firstCells,r];rw[p];simp
  ·simp only[aq,Builtin.firstCells,r];rw[p];simp
  ·rw[md];intro v A;obtain⟨h,_,rfl⟩:=ZB.1 A;trivial
 ·simp at e
end
end Go.aC
