/- Part of the last text; no conditions -/
import Derived.Test.YtehmapikajmjaaaGreatDoorYb
import Derived.Laws.RangeString
set_option maxHeartbeats 8000000
set_option linter.all false
namespace Go.aC
open Go.RowKit (Below)
section
variable{P:Program}{w a6:World}{bN:Array TypeId}{ty st e1 cp:TypeId}{i:TypeInfo}{ce:TypeDesc}{base:Option Addr}{ej gJ n:Nat}{X aw:Value}{hD new:Array Value}
def x1(P:Program)(w:World)(ce:TypeDesc)(X:Value)(i:TypeInfo):Prop:=
 ((ce=.string\/∃u,ce=.slice u)/\(Builtin.lenOf X).run P w=.ok 0 w/\(Builtin.firstCells i.size 0 X).run P w=.ok #[] w)\/((∃V,ce=.int V)/\∃q,X=.int q 0)
def ys(a:bN[0]? =some st)(b:bN[1]? =some e1)(d:P.underlying st=some (.slice cp))(f:P.underlying e1=some ce)(af:P.info? cp=some i)
 (g:x1 P w ce X i)(c:ej<=gJ):(Builtin.append_ bN ty #[.slice base ej gJ,X]).run P w=.ok (.slice base ej gJ) w:=by
 rcases g with ⟨n,p,r⟩|⟨⟨V,rfl⟩,q,rfl⟩
 ·rcases n with rfl|⟨_,rfl⟩<;>cases base<;>simp[Builtin.append_,a,b,run_underlying d,run_underlying f,sizeOf,typeInfo,af,p,c,r,storeCells]
 ·have m:IntKind.i64.wrap 0=0:=by decide
  have l:¬((2:Int)^48<0):=by decide
  cases base<;>simp[Builtin.append_,a,b,run_underlying d,run_underlying f,sizeOf,typeInfo,af,asInt,asIntOf,m,l,c,storeCells]
variable{C:ai}{D bZ:bT}{Q b9:Nat->Prop}{j S':B R}{k W aN:Nat}
def N7{ce:TypeDesc}{X aw:Value}{i:TypeInfo}(e:nz C.P w ce X i aw 0 (bd D []).toArray):x1 C.P w ce X i:=by
 rcases e with ⟨a,b,c,_⟩|⟨_,_,_,_,d,_⟩
 ·exact .inl ⟨a,b,c⟩
 ·grind
def QS{b J len aO n:Nat}(I:bV C D Q j k aN w)(T:Q b)(e:j9 C j b=some n)(a:0<aO)(c:J+len*aO<=n):len<=((D b).room-J)/aO:=by have:=H6 I T e;rw[zk a];omega
def EE(I:bV C D Q j k aN w){bN:Array TypeId}{ty st e1 cp:TypeId}{i:TypeInfo}{ce:TypeDesc}{s:y}{X:Value}{res:cj}
 (a:bN[0]? =some st)(b:bN[1]? =some e1)(g:C.P.underlying st=some (.slice cp))(l:C.P.underlying e1=some ce)(af:C.P.info? cp=some i)(p:0<i.size)
 (c:x1 C.P w ce X i)(aa:bp Q s)(e:oQ C j i.size s=some res):∃v,res=.val v/\bp Q v/\(Builtin.append_ bN ty #[aq D s,X]).run C.P w=.ok (aq D v) w:=by
 unfold oQ at e;split at e
 ·simp at e;subst e;exact⟨_,rfl,trivial,by simp only[aq];exact ys a b g l af c (Zg _)⟩
 ·simp only[cL,Zh]at e;obtain⟨f,rfl⟩:=e;exact⟨_,rfl,aa,by simp only[aq];exact ys a b g l af c (fu f)⟩
 ·simp only[cL]at e;obtain⟨d,e⟩:=e;have d:=Zr d;subst d;split at e
  ·rename_i n m;simp only[cL,Zh]at e;obtain⟨f,rfl⟩:=e;exact⟨_,rfl,aa,by simp only[aq];exact ys a b g l af c (QS I aa m p (fu f))⟩
  ·grind
 ·grind
def vu(C:ai)(D:bT)(Q:Nat->Prop)(j:B R)(k aN:Nat)(w:World)(s:Sem Value)(res:cj):Prop:=
 ∃v S' W,res=.cJ v S' W/\∃bZ b9 a6,s.run C.P w=.ok (aq bZ v) a6/\bp b9 v/\bV C bZ b9 S' W aN a6/\eF C k D Q j aN w bZ b9 S' a6/\k<=W
def kD(I:bV C D Q j k aN w):¬Q k:=λe=>zK (I.lt k e)
def Oi(cB:aN<=w.heap.size)(J:Obj):Below aN w (w.drew.alloc J):=(Below.drew (Below.refl aN w)).trans (Below.alloc (Below.refl aN w.drew) cB J)
def y1(I:bV C D Q j k aN w){pl:hq}(cB:aN<=w.heap.size)(J:Obj)(a:∀x,x≠k->¬Q x->F C S' x=F C j x):eF C k D Q j aN w (dS D k pl) (add Q k) S' (w.drew.alloc J):=
 ⟨kc (kD I),λ_ e=> .inl e,λx e=>e.elim .inl (λe=> .inr Zo),λx b c=>a x Zo b,Oi cB J⟩
def F3{l:List y}{rest:Array Value}{cap aO:Nat}(g:cu Q l)(d:¬Q k)(m:l.length+rest.size=cap*aO)(cp:TypeId)(b:List Nat):
 f1 C (dS D k ⟨w.heap.size,0,cap*aO⟩) (add Q k) (.cells (B.ofList l 0 .nil) l.length (.grow b)) ⟨w.heap.size,0,cap*aO⟩ (w.drew.alloc (.cells ((bd D l).toArray++rest) cp)):=by
 have f:=kc (D:=D) (pl:=⟨w.heap.size,0,cap*aO⟩) d;refine⟨_,cp,0,0,mf w.drew _,⟨.inl rfl,by simp only;omega, ?_⟩, ?_,λi v a=> ?_⟩
 ·simp only[YV,Yh,fH];omega
 ·simp only[YV,Yh,fH];omega
 ·rw[g5]at a;have dg:=pd g a;have c:=(Ze.1 a).1;refine⟨?_,iV (λ_ e=> .inl e) v dg⟩;rw[jQ f dg,Yx (by simpa[fH]using c)];simp[oY,a]
def IZ(zero:Array Value)(n:Nat):(Builtin.zeroCells zero n).size=n*zero.size:=by simp[Builtin.zeroCells]
variable{l:List y}
def F1(I:bV C D Q j k aN w)(cB:aN<=w.heap.size){s:y}{base:Option Addr}{ej gJ:Nat}{aW:List y}(T9:aw.cells.size=i.size)
 (p:bN[0]? =some st)(r:bN[1]? =some e1)(T4:C.P.underlying st=some (.slice cp))(T7:C.P.underlying e1=some ce)(af:C.P.info? cp=some i)(T8:i.zero=some aw)(T6:0<i.size)(N:i.bytes<=65536)
 (L:nz C.P w ce X i aw n (bd D l).toArray)(g:cu Q l)(U0:l.length=n*i.size)(m:cu Q aW)(U1:aW.length=ej*i.size)(T0:¬(ej+n<=gJ))(T3:aq D s=.slice base ej gJ)
 (T2:(Builtin.firstCells i.size ej (.slice base ej gJ)).run C.P w.drew=.ok (bd D aW).toArray w.drew)(T1:ej+n<=1048576){am:B R}(a:List Nat)
 (t:F C am k=some (.cells (B.ofList (aW++l) 0 .nil) (aW++l).length (.grow a)))(v:bV C D Q S' k aN w)(A:∀x,x≠k->F C am x=F C S' x\/F C am x=none)
 (G:∀x,x≠k->¬Q x->F C am x=F C j x)(b:∀x∈a,Q x/\C.aD<=x):
 ∃bZ b9 a6,(Builtin.append_ bN ty #[aq D s,X]).run C.P w=.ok (aq bZ (.cy k 0 (ej+n) i.size)) a6/\bp b9 (.cy k 0 (ej+n) i.size)/\bV C bZ b9 am (k+1) aN a6/\eF C k D Q j aN w bZ b9 am a6:=by
 obtain⟨cap,TZ,d⟩:=EF p r T4 T7 af T8 L T0 N T1 T2;have P:(aW++l).length=(ej+n)*i.size:=by grind
 have T5:(aW++l).length+(Builtin.zeroCells aw.cells (cap-(ej+n))).size=cap*i.size:=by rw[IZ,T9,P, <-Yj];congr 1;omega
 have u:(bd D aW).toArray++(bd D l).toArray=(bd D (aW++l)).toArray:=by rw[qj];simp
 rw[u]at d;have O:=F3 (C:=C) (D:=D) (w:=w) (pc m g) (kD I) T5 cp a;refine⟨dS D k ⟨w.heap.size,0,cap*i.size⟩,add Q k,w.drew.alloc (.cells ((bd D (aW++l)).toArray++Builtin.zeroCells aw.cells (cap-(ej+n))) cp), ?_,.inr rfl, ?_, ?_⟩
 ·rw[T3,d];simp only[aq,gM,ze];rw[Nat.mul_div_cancel _ T6]
 ·exact v.drew.alloc I.aD (Yt _) (Yd _) (kD I) cB rfl t A O ⟨λc TY U2 e=>(by cases e;exact λx f=>⟨.inl (b x f).1,(b x f).2⟩),λc TY st e=>(by cases e;exact s4)⟩
 ·exact y1 I cB _ G
def F0{n aO:Nat}{res:cj}(e:k4 C j k n aO l=some res):n<=1048576/\res=.cJ (.cy k 0 n aO) (aI C j k (some (.cells (B.ofList l 0 .nil) l.length (.grow [])))) (k+1):=by unfold k4 gg at e;simp_all
def Qf{b J len cap aO:Nat}{dr:List y}(I:bV C D Q j k aN w)(T:Q b)(e:gj C j b J (len*aO)=some dr):
 (Builtin.firstCells aO len (.slice (some ⟨(D b).bx,(D b).cm+J,none⟩) len cap)).run C.P w.drew=.ok (bd D dr).toArray w.drew/\cu Q dr:=by
 obtain⟨a,c⟩:=so I.drew T e;exact⟨by simp[Builtin.firstCells,a],c⟩
def acs{bg:Array Value}{cm J p:Nat}{c:B y}{dr l:List y}{q:Nat}(n:p=cm+J+dr.length)(g:p+l.length<=bg.size)(b:cu Q dr)(d:cu Q l)
 (f:∀E v,dr[E]? =some v->bg[cm+J+E]? =some (aq D v)):
 ∀E v,(dr++l)[E]? =some v->(fK bg p (bd D l))[cm+J+E]? =some (aq D v)/\bp Q v:=by
 intro E v a;rw[xv _ _ _ _ (by rw[fH];exact g),fH];by_cases i:E<dr.length
 ·rw[ZO i]at a;rw[Zi Zo];exact⟨f E v a,pd b a⟩
 ·rw[ZT Zo]at a;have m:=(Ze.1 a).1;rw[Zu Zo,oY,show cm+J+E-p=E-dr.length by omega,a];exact⟨rfl,pd d a⟩
def N6(I:bV C D Q j k aN w)(cB:aN<=w.heap.size)(UV:aw.cells.size=i.size){b J len:Nat}{res:cj}
 (T5:bN[0]? =some st)(T6:bN[1]? =some e1)(T9:C.P.underlying st=some (.slice cp))(TY:C.P.underlying e1=some ce)(af:C.P.info? cp=some i)(TZ:i.zero=some aw)(T3:0<i.size)(UK:i.bytes<=65536)
 (T7:nz C.P w ce X i aw n (bd D l).toArray)(T4:cu Q l)(UE:l.length=n*i.size)(al:Q b)(V0:0<n)(e:p9 C j k b J len i.size n l=some res):
 vu C D Q j k aN w (Builtin.append_ bN ty #[aq D (.cy b J len i.size),X]) res:=by
 unfold p9 at e;split at e
 ·rename_i c size cl L;simp only[cL]at e;obtain⟨Ub,e⟩:=e;have T:=fu Ub;obtain⟨bg,cg,aW,G,aL,bs,a3,a4⟩:=I.obj b _ L al;obtain⟨U3,V3,Ud⟩:=bs;have U2:=I.base b _ T L al;have T2:=(I.cl b _ L al).1 _ _ _ rfl;have UA:=(I.cl b _ L al).2 _ _ _ rfl;have V1:b≠k:=λu=>zK (I.lt b al);have U5:=kD I;rw[c3]at e;split at e
  ·
   rename_i UO;have UO:=fu UO;split at e
   ·rename_i S' Un;simp at e;subst e;obtain⟨a6,a7,bl,Up⟩:=tN I (bP:=k) al T4 Un;have t:len+n<=((D b).room-J)/i.size:=(by rw[zk T3];omega);refine⟨_,_,_,rfl,D,Q,a6, ?_,al,bl,Up,Zg _⟩;simp only[aq];refine vM T5 T6 T9 TY af TZ T7 t ?_;rw[ko,Yi];exact a7
   ·simp at e
  ·simp only[cL,Zt]at e;obtain⟨⟨U6,Uj⟩,e⟩:=e;have U6:=fu U6;have UT:∀v∈bd D l,v.oneCell'=true:=A9 Uj;have Ux:(len+n)*i.size=len*i.size+n*i.size:=Yj ..;rw[c3]at e;split at e
   ·
    rename_i UB;simp only[Zt]at UB;have U1:=Zr UB.1;have UZ:=Zr UB.2;subst UZ;have U1:len*i.size=size:=Zo;simp only[dD,gg,gQ,Zh]at e;subst e;have U7:=I.aa1 T al L;by_cases t:len+n<=((D b).room-0)/i.size
    ·
     have Uk:(len+n)*i.size<=(D b).room:=(by have:=(zk T3).1 t;omega);have Um:=xs C.P (D b).bx ((D b).cm+size) cg aW G (bd D l) 0 bg w aL (U3.imp (λu=>zr u.symm) id) (by rw[fH];omega)
     ·have UH:=Um UT;have UI:∀q,q≠(D b).bx->(w.setRow (D b).bx (fK bg ((D b).cm+size+0) (bd D l))).heap[q]? =w.heap[q]? :=λq UC=>setRow_other w _ q _ UC;have U8:=setRow_heap w (D b).bx bg (fK bg ((D b).cm+size+0) (bd D l)) cg (aW,G) aL;have N:=kc (D:=D) (pl:=D b) U5;have T8:f1 C (dS D k (D b)) (add Q k) (.cells (ch c size l) (size+l.length) (.grow (b::cl))) (D b) (w.setRow (D b).bx (fK bg ((D b).cm+size+0) (bd D l))):=(by refine⟨_,cg,aW,G,U8,⟨by rw[ni];exact U3,Zo,by rw[ni];exact Ud⟩,by rw[ni];omega,λE v d=> ?_⟩;obtain⟨O,r⟩:=IU (D:=D) (Q:=Q) (c:=c) (bg:=bg) (cm:=(D b).cm) (J:=size) (n:=size+l.length) T4 Zo Zo a4 E v d;exact⟨by rw[jQ N r];exact O,iV (λ_ e=> .inl e) v r⟩);have UG:=U7.share (k:=k) (a6:=w.setRow (D b).bx (fK bg ((D b).cm+size+0) (bd D l))) (pl:=D b) (bQ:=.cells (ch c size l) (size+l.length) (.grow (b::cl))) U2 rfl UI T8
       ⟨λg f U9 e=>(by
        cases e;intro x a;rcases Zq.1 a with rfl|a
        ·exact⟨.inl al,T⟩
        ·exact⟨.inl (T2 x a).1,(T2 x a).2⟩),
        λg f fC e=>(by cases e;exact xM (Zg _) λE v d=>ZX (UA E v d) (zu _ _))⟩
       (λx U0 a ce m=>by
        have UW:∀g f,U0=.cells g f .fD->f<=size->(D x).cm=(D b).cm->f1 C D Q U0 (D x) (w.setRow (D b).bx (fK bg ((D b).cm+size+0) (bd D l))):=(by intro g f u Uz V4;subst u;have UF:=(U7.cl x _ a ce).2 _ _ _ rfl;obtain⟨qc,V7,V6,fy,bb,bn,bH,UY⟩:=U7.obj x _ a ce;rw[m,aL]at bb;cases bb;refine⟨_,cg,aW,G,by rw[m];exact U8,by rw[ni];exact bn,by rw[ni];exact bH,λE v d=> ?_⟩;obtain⟨O,r⟩:=UY E v d;have:=UF E v d;refine⟨?_,r⟩;rw[xv _ _ _ _ (by rw[fH];omega),Zi Zo];exact O);by_cases u:x=b
        ·subst u;rw[dt _ T,Zu rfl]at a;cases a;exact⟨UW c size rfl (Zg _) rfl,.inr (.inl ⟨_,_,_,_,_,rfl,rfl,Zs,Zo⟩),.inr (.inr ⟨_,_,_,_,_,rfl,rfl,Zs,Zo⟩),rfl⟩
        ·rw[dt _ T,Zi u]at a;obtain⟨gn,gp⟩:=I.sep b x _ U0 L a al ce (λV=>u V.symm) T m.symm;rcases gn with ⟨_,_,_,_,V,_⟩|⟨_,_,U9,g,f,V,rfl,T1,Ug⟩|⟨_,_,_,_,_,_,V,_⟩
         ·cases V
         ·cases V;refine⟨UW g f rfl Ug gp.symm,.inr (.inl ⟨_,_,_,_,_,rfl,rfl,Zw _ T1,Zo⟩),.inr (.inr ⟨_,_,_,_,_,rfl,rfl,Zw _ T1,Zo⟩),gp⟩
         ·cases V)
      refine⟨_,_,_,rfl,dS D k (D b),add Q k,_, ?_,.inr rfl,UG,⟨N,λ_ e=> .inl e,λx e=>e.elim .inl (λe=> .inr Zo),λx a UF=> ?_,yu U2 _ _⟩,Yd _⟩
      ·simp only[aq,gM];rw[ZL];refine vM T5 T6 T9 TY af TZ T7 t ?_;rw[ko,U1];exact UH
      ·have m:x≠b:=λu=>a (by rw[u];exact al);rw[dt _ I.aD,Zi Zo,dt _ T,Zi m]
    ·
     have Ui:(Builtin.firstCells i.size len (.slice (some ⟨(D b).bx,(D b).cm+0,none⟩) len (((D b).room-0)/i.size))).run C.P w.drew=.ok ((bg.toList.drop (D b).cm).take size).toArray w.drew:=by
      have T0:=run_loadCells_list (P:=C.P) w.drew ⟨(D b).bx,(D b).cm+0,none⟩ ((bg.toList.drop (D b).cm).take size) (λE v d=>by
       rw[ko];have U4:E<size:=(by have:=(Ze.1 d).1;simp at this;omega);rw[Y9 U4,zf]at d;have UX:w.drew.heap[(D b).bx]? =some (.cells bg cg (aW,G)):=aL;simp only[World.cell?,UX];simpa[Z5]using d)
      have A:((bg.toList.drop (D b).cm).take size).length=size:=(by simp;omega);rw[A]at T0;simp only[Builtin.firstCells,U1];exact T0
     obtain⟨cap,Uv,UU⟩:=EF (ty:=ty) T5 T6 T9 TY af TZ T7 t UK U6 Ui;have A:((bg.toList.drop (D b).cm).take size).length=size:=(by simp;omega);have V5:size+l.length+(Builtin.zeroCells aw.cells (cap-(len+n))).size=cap*i.size:=(by rw[IZ,UV,UE, <-U1, <-Yj, <-Yj];congr 1;omega);have N:=kc (D:=D) (pl:=⟨w.heap.size,0,cap*i.size⟩) U5;have T8:f1 C (dS D k ⟨w.heap.size,0,cap*i.size⟩) (add Q k) (.cells (ch c size l) (size+l.length) (.grow (b::cl))) ⟨w.heap.size,0,cap*i.size⟩
      (w.drew.alloc (.cells (((bg.toList.drop (D b).cm).take size).toArray++(bd D l).toArray++Builtin.zeroCells aw.cells (cap-(len+n))) cp)):=by
      refine⟨_,cp,0,0,mf w.drew _,⟨.inl rfl,by simp only;omega, ?_⟩, ?_,λE v d=> ?_⟩
      ·simp only[YV,Yh,fH,A];omega
      ·simp only[YV,Yh,fH,A];omega
      ·rw[BR,B.wu]at d;simp only[ZQ];split at d
       ·rename_i U4;have dg:=pd T4 d;refine⟨?_,iV (λ_ e=> .inl e) v dg⟩;rw[jQ N dg,Yx (by simp only[YV,Yh,fH,A];omega),Array.getElem?_append_right (by simp only[Yh,A];omega)];simp only[Yh,A,zj,oY,d,ZZ]
       ·have U4:=UA E v d;obtain⟨O,r⟩:=a4 E v d;refine⟨?_,iV (λ_ e=> .inl e) v r⟩;rw[jQ N r,Yx (by simp only[YV,Yh,fH,A];omega),Yx (by simp only[Yh,A];omega)];rw[zj,Y9 U4,zf,Z5];exact O
     have Ua:F C (aI C (aI C j b (some (.cells c size .fD))) k (some (.cells (ch c size l) (size+l.length) (.grow (b::cl))))) k=some (.cells (ch c size l) (size+l.length) (.grow (b::cl))):=(by rw[dt _ I.aD,Zu rfl]);refine⟨_,_,_,rfl,dS D k ⟨w.heap.size,0,cap*i.size⟩,add Q k,_, ?_,.inr rfl,U7.drew.alloc I.aD (Yt _) (Yd _) U5 cB rfl Ua (λx a=> .inl ?_) T8 ?_,y1 I cB _ (λx a UJ=> ?_),Yd _⟩
     ·simp only[aq,gM,ZQ,ze];simp only[ZL,ze]at UU ⊢;rw[UU,Nat.mul_div_cancel _ T3]
     ·rw[dt _ I.aD,Zi a]
     ·exact⟨λg f U9 e=>(by
           cases e;intro x a;rcases Zq.1 a with rfl|a
           ·exact⟨.inl al,T⟩
           ·exact⟨.inl (T2 x a).1,(T2 x a).2⟩),
       λg f fC e=>(by cases e;exact xM (Zg _) λE v d=>ZX (UA E v d) (zu _ _))⟩
     ·have m:x≠b:=λu=>UJ (by rw[u];exact al);rw[dt _ I.aD,Zi a,dt _ T,Zi m]
   ·
    split at e
    ·rename_i dr T0;simp only[gg,gQ,dD,Zh]at e;subst e;have US:=Gu T0;have UL:cellsOf C j b=some c:=(by simp[cellsOf,L]);have UD:∀x,x≠b->F C (aI C (hy C cl j) b none) x=if x∈cl then none else F C j x:=λx a=>(by rw[dt _ T,Zi a,F6 _ _ _ λh Uo=>(T2 h Uo).2]);have UR:F C (aI C (hy C cl j) b none) b=none:=(by rw[dt _ T,Zu rfl]);have UN:=I.FF λx=>by
      by_cases u:x=b
      ·subst u;exact .inr UR
      ·rw[UD x u];split
       ·exact .inr rfl
       ·exact .inl rfl
     have UQ:∀x,¬Q x->F C (aI C (hy C cl j) b none) x=F C j x:=λx a=>(by have m:x≠b:=λu=>a (by rw[u];exact al);rw[UD x m,Zi λT1=>a (T2 x T1).1]);have Ul:F C (aI C (aI C (hy C cl j) b none) k (some (.cells (B.ofList (dr++l) 0 .nil) (dr++l).length (.grow [])))) k=some (.cells (B.ofList (dr++l) 0 .nil) (dr++l).length (.grow [])):=(by rw[dt _ I.aD,Zu rfl]);have UM:∀x,x≠k->F C (aI C (aI C (hy C cl j) b none) k (some (.cells (B.ofList (dr++l) 0 .nil) (dr++l).length (.grow [])))) x=F C (aI C (hy C cl j) b none) x:=λx a=>(by rw[dt _ I.aD,Zi a]);obtain⟨Uw,UP⟩:=vT I al UL T0;by_cases t:len+n<=((D b).room-J)/i.size
     ·
      have V2:=Nat.mul_pos Zo T3;have Uk:J+(len+n)*i.size<=(D b).room:=(by have Uu:=(zk T3).1 t;omega);have UH:=xs C.P (D b).bx ((D b).cm+(J+len*i.size)) cg aW G (bd D l) 0 bg w aL (U3.imp (λu=>zr u.symm) id) (by rw[fH];omega) UT;have UI:∀q,q≠(D b).bx->(w.setRow (D b).bx (fK bg ((D b).cm+(J+len*i.size)+0) (bd D l))).heap[q]? =w.heap[q]? :=λq UC=>setRow_other w _ q _ UC;have U8:=setRow_heap w (D b).bx bg (fK bg ((D b).cm+(J+len*i.size)+0) (bd D l)) cg (aW,G) aL;have N:=kc (D:=D) (pl:=⟨(D b).bx,(D b).cm+J,(D b).room-J⟩) U5;have Uy:(dr++l).length=(len+n)*i.size:=(by rw[ZG,US,UE,Yj]);have T8:f1 C (dS D k ⟨(D b).bx,(D b).cm+J,(D b).room-J⟩) (add Q k) (.cells (B.ofList (dr++l) 0 .nil) (dr++l).length (.grow [])) ⟨(D b).bx,(D b).cm+J,(D b).room-J⟩ (w.setRow (D b).bx (fK bg ((D b).cm+(J+len*i.size)+0) (bd D l))):=by
       refine⟨_,cg,aW,G,U8,⟨by rw[ni];exact U3,by simp only;omega,by rw[ni];simp only;omega⟩,by rw[ni];simp only;omega,λE v d=> ?_⟩;rw[g5]at d;obtain⟨O,r⟩:=acs (D:=D) (Q:=Q) (bg:=bg) (cm:=(D b).cm) (J:=J) (p:=(D b).cm+(J+len*i.size)+0) (c:=c) (q:=0) Zo Zo UP T4 (λE v d=>by
        have Uf:E<len*i.size:=zK (Ze.1 d).1;have:=(B.wt _ _ _ _ T0).2 E Uf;rw[d]at this;have:=(a4 _ _ this).1;rw[<-Yi]at this;exact this) E v d
       exact⟨by rw[jQ N r];exact O,iV (λ_ e=> .inl e) v r⟩
      have UG:=UN.share (a6:=w.setRow (D b).bx (fK bg ((D b).cm+(J+len*i.size)+0) (bd D l))) (pl:=⟨(D b).bx,(D b).cm+J,(D b).room-J⟩) (bQ:=.cells (B.ofList (dr++l) 0 .nil) (dr++l).length (.grow [])) U2 rfl UI T8
       ⟨λg f U9 e=>(by cases e;simp),λg f fC e=>(by cases e;exact s4)⟩
       (λx U0 a ce m=>by
        exfalso;by_cases u:x=b
        ·subst u;rw[UR]at a;cases a
        ·rw[UD x u]at a;split at a
         ·cases a
         ·rename_i Uh;rcases(I.sep b x _ U0 L a al ce (λV=>u V.symm) T m.symm).1 with ⟨_,_,_,_,V,_⟩|⟨_,_,U9,g,f,V,_,T1,_⟩|⟨_,_,_,_,_,_,V,_⟩
          ·cases V
          ·cases V;exact Uh T1
          ·cases V)
      refine⟨_,_,_,rfl,dS D k ⟨(D b).bx,(D b).cm+J,(D b).room-J⟩,add Q k,_, ?_,.inr rfl,UG,⟨N,λ_ e=> .inl e,λx e=>e.elim .inl (λe=> .inr Zo),λx a UF=> ?_,yu U2 _ _⟩,Yd _⟩
      ·simp only[aq,gM,ZL,ze];refine vM T5 T6 T9 TY af TZ T7 t ?_;rw[ko,Yi];exact UH
      ·rw[dt _ I.aD,Zi Zo,UQ x a]
     ·have Uc:(Builtin.firstCells i.size len (.slice (some ⟨(D b).bx,(D b).cm+J,none⟩) len (((D b).room-J)/i.size))).run C.P w.drew=.ok (bd D dr).toArray w.drew:=(by obtain⟨Ue,_⟩:=vT I.drew al UL T0;simp[Builtin.firstCells,Ue]);obtain⟨bZ,b9,a6,Uq,Ur,Us,Ut⟩:=F1 (ty:=ty) I cB (s:=.cy b J len i.size) (aW:=dr) UV T5 T6 T9 TY af TZ T3 UK T7 T4 UE UP US t rfl Uc U6 []
       Ul UN (λx a=> .inl (UM x a)) (λx a UJ=>by rw[UM x a,UQ x UJ]) Zs
      exact⟨_,_,_,rfl,bZ,b9,a6,Uq,Ur,Us,Ut,Yd _⟩
    ·simp at e
 ·simp at e
def F2(I:bV C D Q j k aN w)(cB:aN<=w.heap.size){s:y}{base:Option Addr}{ej gJ:Nat}{aW:List y}{res:cj}(T0:aw.cells.size=i.size)
 (d:bN[0]? =some st)(f:bN[1]? =some e1)(L:C.P.underlying st=some (.slice cp))(O:C.P.underlying e1=some ce)(af:C.P.info? cp=some i)(P:i.zero=some aw)(N:0<i.size)(m:i.bytes<=65536)
 (g:nz C.P w ce X i aw n (bd D l).toArray)(b:cu Q l)(p:l.length=n*i.size)(c:cu Q aW)(r:aW.length=ej*i.size)(t:¬(ej+n<=gJ))(G:aq D s=.slice base ej gJ)
 (A:(Builtin.firstCells i.size ej (.slice base ej gJ)).run C.P w.drew=.ok (bd D aW).toArray w.drew)(e:k4 C j k (ej+n) i.size (aW++l)=some res):
 vu C D Q j k aN w (Builtin.append_ bN ty #[aq D s,X]) res:=by
 obtain⟨v,rfl⟩:=F0 e;obtain⟨bZ,b9,a6,T1,T2,T3,T4⟩:=F1 I cB T0 d f L O af P N m g b p c r t G A v (am:=aI C j k (some (.cells (B.ofList (aW++l) 0 .nil) (aW++l).length (.grow [])))) []
  (by rw[dt _ I.aD,Zu rfl]) I (λx a=> .inl (by rw[dt _ I.aD,Zi a])) (λx a _=>by rw[dt _ I.aD,Zi a]) Zs
 exact⟨_,_,_,rfl,bZ,b9,a6,T1,T2,T3,T4,Yd _⟩
def ED(I:bV C D Q j k aN w)(cB:aN<=w.heap.size)(G:aw.cells.size=i.size){s:y}{res:cj}
 (d:bN[0]? =some st)(f:bN[1]? =some e1)(m:C.P.underlying st=some (.slice cp))(p:C.P.underlying e1=some ce)(af:C.P.info? cp=some i)(r:i.zero=some aw)(A:0<i.size)(t:i.bytes<=65536)
 (g:nz C.P w ce X i aw n (bd D l).toArray)(c:cu Q l)(x:l.length=n*i.size)(aa:bp Q s)(N:0<n)(e:kZ C j k i.size n l s=some res):
 vu C D Q j k aN w (Builtin.append_ bN ty #[aq D s,X]) res:=by
 unfold kZ at e;split at e
 ·refine F2 (gJ:=0) (aW:=[]) I cB G d f m p af r A t g c x trivial Zs Zo rfl ?_ (by simpa using e);rfl
 ·rename_i b J len cap;rw[c3]at e;split at e
  ·rename_i a;have a:=fu a;split at e
   ·rename_i S' O;simp at e;subst e;obtain⟨a6,a7,bl,P⟩:=tN I aa c O;refine⟨_,_,_,rfl,D,Q,a6, ?_,aa,bl,P,Zg _⟩;refine vM d f m p af r g a ?_;rw[ko,Yi];grind
   ·grind
  ·rename_i a;have a:=λV=>a (by simpa using V);split at e
   ·rename_i dr L;obtain⟨a7,bl⟩:=Qf (cap:=cap) I aa L;exact F2 I cB G d f m p af r A t g c x bl (yG L) a rfl a7 e
   ·simp at e
 ·rename_i b J len T0;simp only[cL]at e;obtain⟨v,e⟩:=e;have v:=Zr v;subst v;exact N6 I cB G d f m p af r A t g c x aa N e
 ·simp at e
def x0(C:ai)(D:bT)(Q:Nat->Prop)(j:B R)(k aN:Nat)(w:World)(s:Sem Value)(res:cj):Prop:=
 vu C D Q j k aN w s res\/∃v,res=.val v/\bp Q v/\s.run C.P w=.ok (aq D v) w
def Eo(I:bV C D Q j k aN w)(cB:aN<=w.heap.size){bN:Array TypeId}{ty st e1:TypeId}{ce:TypeDesc}{s x:y}{res:cj}
 (c:bN[0]? =some st)(d:bN[1]? =some e1)(p:C.P.underlying e1=some ce)(G:ce=.string\/∃u,ce=.slice u)(aa:bp Q s)(A:bp Q x)(e:sg C j k st s x=some res):
 x0 C D Q j k aN w (Builtin.append_ bN ty #[aq D s,aq D x]) res:=by
 unfold sg at e;split at e
 ·rename_i cp m;split at e
  ·rename_i i af;split at e
   ·rename_i n l N;simp only[cL,Zt]at e;obtain⟨⟨⟨a,b⟩,r⟩,e⟩:=e;have a:=ht a;have b:=fu b;obtain⟨aw,O,P⟩:∃aw,i.zero=some aw/\aw.cells.size=i.size:=by
     unfold I0 at r;split at r
     ·simp_all
     ·grind
    obtain⟨f,t,g⟩:=abT I A G N;rw[er]at e;split at e
    ·rename_i L;subst L;have:l=[]:=YJ.1 (by rw[g];simp);subst this;obtain⟨v,X,T0,T1⟩:=EE I c d m p af a (N7 f) aa e;exact .inr ⟨v,X,T0,T1⟩
    ·exact .inl (ED I cB P c d m p af O a b f t g aa Zo e)
   ·simp at e
  ·simp at e
 ·simp at e
def NE(I:bV C D Q j k aN w)(cB:aN<=w.heap.size){bN:Array TypeId}{ty st e1:TypeId}{V:IntKind}{s x:y}{n:Nat}{res:cj}
 (m:bN[0]? =some st)(p:bN[1]? =some e1)(t:C.P.underlying e1=some (.int V))(aa:bp Q s)(N:hg x=some n)(e:vH C j k st s n=some res):
 x0 C D Q j k aN w (Builtin.append_ bN ty #[aq D s,aq D x]) res:=by
 obtain⟨q,rfl⟩:=q6 N;unfold vH at e;split at e
 ·rename_i cp r;split at e
  ·rename_i i aw af b;simp only[cL,Zt]at e;obtain⟨⟨⟨⟨a,c⟩,d⟩,l⟩,e⟩:=e;have a:=ht a;have c:=fu c;have l:=fu l;have d:=Zr d;have A:i.zero=some (aq D aw)/\bp Q aw:=by
    unfold kf at b;rw[af]at b;simp only at b;split at b
    ·rename_i M L;obtain⟨u,g⟩:=w1 (Q:=Q) b;exact⟨by rw[L,u],g⟩
    ·grind
   rw[er]at e;split at e
   ·rename_i f;subst f;obtain⟨v,O,P,X⟩:=EE I m p r t af a (.inr ⟨⟨V,rfl⟩,q,rfl⟩) aa e;exact .inr ⟨v,O,P,X⟩
   ·rename_i f;have G:nz C.P w (.int V) (aq D (.int q (Int.ofNat n))) i (aq D aw) n (bd D (fc n aw.cells)).toArray:=
     .inr ⟨⟨V,rfl⟩,⟨q,rfl⟩,l,c,zK (Nat.mul_pos (Nat.pos_of_ne_zero f) a),(IY D aw n).symm⟩
    exact .inl (ED I cB (by rw[l2];simp[fH,d]) m p r t af A.1 a c G (wx (lB A.2) n) (by rw[rx,d]) aa Zo e)
  ·simp at e
 ·simp at e
def gz(C:ai)(D:bT)(Q:Nat->Prop)(j:B R)(k aN:Nat)(w:World)(s:Sem Value)(v:y)(S':B R)(W:Nat):Prop:=
 ∃bZ b9 a6,s.run C.P w=.ok (aq bZ v) a6/\bp b9 v/\bV C bZ b9 S' W aN a6/\eF C k D Q j aN w bZ b9 S' a6/\k<=W
def gz.done{s:Sem Value}{v:y}(e:gz C D Q j k aN w s v S' W):oE C D Q j k aN w (do pure (.value (<-s))) v S' W:=by obtain⟨bZ,b9,a6,a,b,c,d,f⟩:=e;exact⟨bZ,b9,a6,.value (aq bZ v),by simp[a],.inl rfl,b,c,d,f⟩
def gz.same(I:bV C D Q j k aN w){s:Sem Value}{v:y}(e:s.run C.P w=.ok (aq D v) w)(g:bp Q v):gz C D Q j k aN w s v j k:=
 ⟨D,Q,w,e,g,I,.refl,Zg _⟩
def uV(I:bV C D Q j k aN w)(cB:aN<=w.heap.size){s:Sem Value}{v:y}{bQ:R}{J:Obj}(d:s.run C.P w=.ok (aq (dS D k ⟨w.heap.size,0,0⟩) v) (w.alloc J))(dg:bp (add Q k) v)
 (b:f1 C (dS D k ⟨w.heap.size,0,0⟩) (add Q k) bQ ⟨w.heap.size,0,0⟩ (w.alloc J))(c:mJ C (add Q k) bQ):gz C D Q j k aN w s v (aI C j k (some bQ)) (k+1):=by
 have T:=I.aD;refine⟨_,_,_,d,dg,I.alloc T (Yt _) (Yd _) (kD I) cB rfl (by rw[dt _ T,Zu rfl]) (λx a=> .inl (by rw[dt _ T,Zi a])) b c, ?_,Yd _⟩;exact⟨kc (kD I),λ_ e=> .inl e,λx e=>e.elim .inl (λe=> .inr Zo),λx a f=>by rw[dt _ T,Zi Zo],Below.alloc (Below.refl aN w) cB J⟩
def uU{J:R}{q:Nat->y}{res:cj}(e:gg C j k J q=some res):res=.cJ (q k) (aI C j k (some J)) (k+1):=by unfold gg at e;simp_all
def adq(I:bV C D Q j k aN w){t:Nat}{m q:Operand}{ab:Operand->Value}{a:Operand->Option y}{res:cj}(b:fq D Q ab a [m,q])(e:uq C t m q j k a=some res):
 ∃v S',res=.cJ v S' k/\gz C D Q j k aN w (Instr.mapEntry t (ab m) (ab q)) v S' k:=by
 simp[uq]at e
def adk(I:bV C D Q j k aN w){t:Nat}{m s x:Operand}{ab:Operand->Value}{a:Operand->Option y}{res:cj}(b:fq D Q ab a [m,s,x])(e:un C m s x j k a=some res):
 ∃S' a6,res=.cJ undef S' k/\(Instr.entryStore t (ab m) (ab s) (ab x)).run C.P w=.ok () a6/\bV C D Q S' k aN a6/\eF C k D Q j aN w D Q S' a6:=by
 simp[un]at e
def SY{α cz:Type}(g:α->cz):∀(l:List α) (i:Nat),(l.map g).eraseIdx i=(l.eraseIdx i).map g:=by intro l;induction l with|nil=>grind|cons a l U=>intro i;cases i with|zero=>rfl|succ i=>grind
def O7(I:bV C D Q j k aN w){t:Nat}{m q:y}{res:cj}{bN:Array TypeId}{ty:TypeId}(p:bN[0]? =some t)(f:bp Q m)(d:bp Q q)(e:sh C j k t m q=some res):
 ∃v S',res=.cJ v S' k/\gz C D Q j k aN w (Builtin.delete_ bN ty #[aq D m,aq D q]) v S' k:=by
 unfold sh at e;split at e
 ·rename_i dZ L r G;split at e
  ·rename_i c bq l;simp only[cL]at e;obtain⟨A,e⟩:=e;obtain⟨O,x⟩:=At A;obtain⟨bg,aL,bs,a3,a4⟩:=na I f l;have s:=yo (C:=C) (D:=D) (Q:=Q) (w:=w) (u:=bg.isEmpty) 20 10000 dZ q Zd d A;split at e
   ·rename_i i M b;have g:=ui I x d a4 b;obtain⟨rfl,T⟩:=tk e;obtain⟨_,u,a,rfl⟩:=y5 c 0 i M b;simp only[ze]at a;have N:i<bg.size:=(by have:=(Ze.1 a).1;rw[<-Array.length_toList,a3,Zj];exact this);obtain⟨a6,a7,bl,n⟩:=xg I (bP:=k) T f l (kr:=bq) (gO:=c.eraseIdx i) (qc:=bg.eraseIdxIfInBounds i) (by rw[Array.toList_eraseIdxIfInBounds,a3,SY])
     (λu a=>a4 u (List.mem_of_mem_eraseIdx a))
    refine⟨_,_,rfl,D,Q,a6, ?_,trivial,bl,n,Zg _⟩;simp[Builtin.delete_,p,run_underlying G,aq,bd,aL,s,a3,g,k0,a7]
   ·rename_i b;have g:=ui I x d a4 b;obtain⟨rfl,T⟩:=tk e;obtain⟨a6,a7,bl,n⟩:=xg I (bP:=k) T f l (kr:=bq) (gO:=c) a3 a4;refine⟨_,_,rfl,D,Q,a6, ?_,trivial,bl,n,Zg _⟩;simp[Builtin.delete_,p,run_underlying G,aq,bd,aL,s,a3,g,k0,a7]
   ·simp at e
  ·simp at e
 ·simp at e
def SU(I:bV C D Q j k aN w)(cB:aN<=w.heap.size){t:Nat}{l c:Operand}{ab:Operand->Value}{T0:Operand->Option y}{res:cj}(P:fq D Q ab T0 [l,c])(e:up C t l c j k T0=some res):
 ∃v S' W,res=.cJ v S' W/\gz C D Q j k aN w (Instr.makeSlice t (ab l) (ab c)) v S' W:=by
 unfold up at e;split at e
 ·rename_i cp U0 TZ O T5 T3;obtain⟨T2,_⟩:=P l Zs _ T5;obtain⟨T1,_⟩:=P c Zs _ T3;rw[T2,T1];split at e
  ·rename_i r a i aw T6 T4 af T8;obtain⟨U1,rfl⟩:=q6 T6;obtain⟨U2,rfl⟩:=q6 T4;simp only[cL,Zt]at e;obtain⟨⟨⟨⟨⟨s,d⟩,p⟩,x⟩,b⟩,e⟩:=e;have s:=fu s;have d:=fu d;have p:=fu p;have x:=ht x;have b:=Zr b;have:=uU e;subst this;obtain⟨T9,TY⟩:=pF T8 D Q w;refine⟨_,_,_,rfl,uV I cB (J:=.cells (bd D (fc a aw.cells)).toArray cp) ?_ (.inr rfl) ?_ ⟨λ_ _ _ e=>(by cases e),λ_ _ _ e=>(by cases e;rw[<-b, <-rx];exact s4)⟩⟩
   ·have dT:=wrap_small (n:=r) Zo;have X:=wrap_small d;have A:¬((281474976710656:Int)<(i.bytes:Int)*(a:Int)):=(by rw[Int.mul_comm];exact yA d p);have G:¬((a:Int)<0):=Zo;have L:¬((r:Int)<0):=Zo;have N:¬((a:Int)<(r:Int)):=Zo;have f:=HQ D aw.cells i.size a b (if a*i.size=0 then #[]else(aq D aw).cells) (λT7=>by rw[Zi T7,l2]);by_cases m:a*i.size=0
    ·rw[Zu m]at f;rw[<-f];simp[Instr.makeSlice,run_underlying O,aq,asInt,asIntOf,typeInfo,af,dT,X,A,G,L,N,sizeOf,m,newRow,gM]
    ·rw[Zi m]at f;rw[<-f];simp[Instr.makeSlice,run_underlying O,aq,asInt,asIntOf,typeInfo,af,dT,X,A,G,L,N,sizeOf,m,newRow,gM,T9]
   ·have g:=wx (lB TY) a;have:=vS (C:=C) (D:=dS D k ⟨w.heap.size,0,0⟩) (Q:=add Q k) (kw (λ_ e=> .inl e) _ g) cp 0 w;rw[nQ (kc (kD I)) g,rx,b]at this;exact this
  ·simp at e
 ·simp at e
def SR(I:bV C D Q j k aN w)(cB:aN<=w.heap.size){t:Nat}{r:Operand}{ab:Operand->Value}{a:Operand->Option y}{res:cj}(d:fq D Q ab a [r])(e:uo C t r j k a=some res):
 ∃v S' W,res=.cJ v S' W/\gz C D Q j k aN w (Instr.makeMap t (some (ab r))) v S' W:=by
 unfold uo at e;split at e
 ·rename_i dZ f V n b c;obtain⟨u,_⟩:=d r Zs _ c;have:=uU e;subst this;refine⟨_,_,_,rfl,uV I cB ?_ (.inr rfl) ⟨#[],mf _ _,rfl,Zs⟩ ⟨λ_ _ _ e=>(by cases e),λ_ _ _ e=>(by cases e)⟩⟩;simp[Instr.makeMap,run_underlying b,u,aq,asInt,asIntOf,gM]
 ·grind
def aaE(I:bV C D Q j k aN w)(cB:aN<=w.heap.size){t:Nat}{x:Operand}{ab:Operand->Value}{f:Operand->Option y}{res:cj}(d:fq D Q ab f [x])(e:ur C t x j k f=some res):
 ∃v S' W,res=.cJ v S' W/\gz C D Q j k aN w (Instr.range t (ab x)) v S' W:=by
 have m:=kc (D:=D) (pl:=⟨w.heap.size,0,0⟩) (kD I);unfold ur at e;split at e
 ·rename_i s a c;obtain⟨u,g⟩:=d x Zs _ c;have:=uU e;subst this;refine⟨_,_,_,rfl,uV I cB (J:=.stringIter (dz s) 0) ?_ (.inr rfl) ⟨rfl,mf _ _,g⟩ ⟨λ_ _ _ e=>(by cases e),λ_ _ _ e=>(by cases e)⟩⟩;simp[Instr.range,run_underlying a,u,aq,gM]
 ·rename_i dZ i a c;obtain⟨u,g⟩:=d x Zs _ c;have:=uU e;subst this;refine⟨_,_,_,rfl,uV I cB (J:=.mapIter none 0 #[] 0) ?_ (.inr rfl) ⟨rfl,mf _ _,Zs⟩ ⟨λ_ _ _ e=>(by cases e),λ_ _ _ e=>(by cases e)⟩⟩;simp[Instr.range,run_underlying a,u,aq,gM]
 ·rename_i dZ i r a c;obtain⟨u,g⟩:=d x Zs _ c;split at e
  ·rename_i n bq l;have:=uU e;subst this;obtain⟨bg,aL,bs,a3,a4⟩:=na I g l;refine⟨_,_,_,rfl,uV I cB (J:=.mapIter (some (D r).bx) bq #[] bq) ?_ (.inr rfl) ⟨rfl, ?_,λb T=>by cases T;exact .inl g⟩ ⟨λ_ _ _ e=>(by cases e),λ_ _ _ e=>(by cases e)⟩⟩
   ·simp[Instr.range,run_underlying a,u,aq,gM,aL]
   ·rw[mf];simp only[ZZ,m r g]
  ·simp at e
 ·simp at e
def uM(n:Nat):∀l,gH n l=l.contains n:=by intro l;induction l with|nil=>rfl|cons a l U=>simp only[gH];congr 1;rw[Yg,zz];exact⟨Zr,λe=>by rw[e];exact zd _⟩
def Iz(seen:List Nat):∀a:List (y×y×Nat),(a.map (dR D)).filter (λu=> !seen.contains u.born)=(fe seen a).map (dR D):=by intro a;induction a with|nil=>rfl|cons u a U=>have T:(dR D u).born=u.2.2:=rfl;simp only[ZH,YR,fe, <-uM,T];simp only[<-uM]at U;cases gH u.2.2 seen<;>simp[U]
def BM(seen:List Nat):∀(b:List (y×y×Nat)) u,u∈fe seen b->u∈b:=by
 intro b;induction b with
 |nil=>intro u e;simp[fe]at e|cons a b U=>
  intro u e;simp only[fe]at e;cases c:gH a.2.2 seen<;>simp only[c]at e
  ·rcases Zq.1 e with e|e
   ·simp[e]
   ·grind
  ·simp_all
def Ez(d:Nat):∀b:List (y×y×Nat),nJ d b=true->∀u∈b,u.2.2<d:=by
 intro b;induction b with
 |nil=>grind|cons a b U=>
  intro e u c;simp only[nJ,Zt]at e;rcases Zq.1 c with rfl|c
  ·simp_all
  ·grind
def EC(c:Nat):∀b:List (y×y×Nat),l0 c b=true->∃u∈b,u.2.2<c:=by
 intro b;induction b with
 |nil=>intro e;simp[l0]at e|cons a b U=>
  intro e;simp only[l0,Y4]at e;rcases e with e|e
  ·simp_all
  ·grind
def EG{bg:Array MapEntry}{a:List (y×y×Nat)}(e:bg.toList=a.map (dR D)):bg=(a.map (dR D)).toArray:=by grind
def Ha(I:bV C D Q j k aN w){bP r m c g bq:Nat}{seen:List Nat}{a:List (y×y×Nat)}{ty:TypeId}(T:C.aD<=r)(al:Q r)(N:F C j r=some (.e7 (some m) c seen g))
 (T6:F C j m=some (.map a bq))(p:nJ c a=true)(hx:l0 g a=true)(L:fe seen a≠[]):
 ∃u,u∈fe seen a/\∃a6,(Instr.next (.pointer (some ⟨(D r).bx,0,none⟩)) false ty).run C.P w=.ok (.tuple #[.bool true,aq D u.1,aq D u.2.1]) a6/\
  bV C D Q (aI C j r (some (.e7 (some m) c (seen++[u.2.2]) bq))) k aN a6/\eF C bP D Q j aN w D Q (aI C j r (some (.e7 (some m) c (seen++[u.2.2]) bq))) a6/\bp Q u.1/\bp Q u.2.1:=by
 obtain⟨TZ,l,n⟩:=I.obj r _ N al;have T2:=n m rfl;obtain⟨bg,aL,bs,a3,a4⟩:=na I T2 T6;have s:=EG a3;have F:(getObj (D r).bx).run C.P w=.ok (.mapIter (some (D m).bx) c seen.toArray g) w:=by simp[getObj,Sem.run,l]
 have T8:(bg.all λu=>decide (u.born>=g))=false:=by obtain⟨u,d,U1⟩:=EC g a hx;rw[s,List.all_toArray];rw[List.all_eq_false];exact⟨dR D u,ZB.2 ⟨u,d,rfl⟩,by simp[dR];omega⟩
 have T5:(bg.filter λu=> !seen.toArray.contains u.born)=((fe seen a).map (dR D)).toArray:=by rw[s,zw];congr 1;rw[<-Iz];apply List.filter_congr;intro x _;simp
 have T9:((fe seen a).map (dR D)).toArray.filter (λu=>decide (u.born<c))=((fe seen a).map (dR D)).toArray:=by rw[zw];congr 1;rw[List.filter_eq_self];intro x i;obtain⟨u,d,rfl⟩:=ZB.1 i;simp only[Zf];exact Ez c a p u (BM seen a u d)
 have T7:((fe seen a).map (dR D)).toArray.filter (λu=>decide (u.born>=c))= #[]:=by
  rw[zw];have:((fe seen a).map (dR D)).filter (λu=>decide (u.born>=c))=[]:=by rw[List.filter_eq_nil_iff];intro x i;obtain⟨u,d,rfl⟩:=ZB.1 i;have:=Ez c a p u (BM seen a u d);simp[dR];omega
  rw[this]
 have T3:((fe seen a).map (dR D)).toArray.isEmpty=false:=by simpa using L
 have A:=ZP.2 L;have key:∀(E:Nat) (dT:World),E<(fe seen a).length->dT.heap=w.heap->bV C D Q j k aN dT->Below aN w dT->(choose (.mapNext (fe seen a).length)).run C.P w=.ok E dT->
  ∃u,u∈fe seen a/\∃a6,(Instr.next (.pointer (some ⟨(D r).bx,0,none⟩)) false ty).run C.P w=.ok (.tuple #[.bool true,aq D u.1,aq D u.2.1]) a6/\
   bV C D Q (aI C j r (some (.e7 (some m) c (seen++[u.2.2]) bq))) k aN a6/\eF C bP D Q j aN w D Q (aI C j r (some (.e7 (some m) c (seen++[u.2.2]) bq))) a6/\bp Q u.1/\bp Q u.2.1:=by
  intro E dT v T4 TY P T1;have d:=Zb v;have G:=zs v;have t:=a4 _ (BM seen a _ G);obtain⟨a6,a7,bl,f⟩:=putObj TY (bP:=bP) (h9:=.e7 (some m) c (seen++[(fe seen a)[E].2.2]) bq) (dH:=.mapIter (some (D m).bx) c (seen.toArray.push (fe seen a)[E].2.2) bq) T al N ⟨Zs,Zs⟩
   (by rw[T4];exact l) Zs (λa6 U0=>⟨TZ,by rw[U0];simp,λb T=>n b T⟩) ⟨λ_ _ _ e=>(by cases e),λ_ _ _ e=>(by cases e)⟩
  refine⟨(fe seen a)[E],G,a6, ?_,bl,⟨f.eZ,f.fv,f.new,f.K,P.trans f.below⟩,t.1,t.2⟩;have T0:(((fe seen a).map (dR D)).toArray++(#[]:Array MapEntry)).map some=((fe seen a).map (λu=>some (dR D u))).toArray:=by simp
  simp only[Instr.next,Sem.run_bind,F,Result.andThen_ok,aL,T8,Bool.and_false,ZA,ZJ,T5,T9,T7,T3];rw[Array.empty_append,T0];simp only[Yh,Zj,T1,Result.andThen_ok,zj,Zn,d,ZZ];have X:(dR D (fe seen a)[E]).born=(fe seen a)[E].2.2:=rfl;simp only[X,Sem.run_bind,a7,Result.andThen_ok,Sem.run_pure];rfl
 by_cases O:(fe seen a).length<=1
 ·refine key 0 w A rfl I (Below.refl _ _) ?_;simp[Question.forced,O]
 ·refine key ((w.tape w.drawn (.mapNext (fe seen a).length))%(fe seen a).length) w.drew (Nat.mod_lt _ A) rfl I.drew (Below.drew (Below.refl _ _)) ?_;simp[Question.forced,O,Question.cut]
def Qr{r m b bq:Nat}{seen:List Nat}:∀(l:List (y×y×Nat)) u,u∈l->(y.tuple [.bool true,u.1,u.2.1],aI C j r (some (.e7 (some m) b (seen++[u.2.2]) bq)))∈qB C j r m b bq seen l:=by
 intro l;induction l with
 |nil=>grind|cons a l U=>
  intro u e;rcases Zq.1 e with rfl|e
  ·exact Zp ..
  ·exact Zw _ (U u e)
def tF(C:ai)(D:bT)(Q:Nat->Prop)(j:B R)(k aN:Nat)(w:World)(s:Sem Value)(res:cj):Prop:=match res with
 | .val v=>gz C D Q j k aN w s v j k| .cJ v S' W=>gz C D Q j k aN w s v S' W| .fork l=>∃v S',(v,S')∈l/\gz C D Q j k aN w s v S' k|_=>False
def Tj(I:bV C D Q j k aN w){L:Operand}{T8:Bool}{ty:TypeId}{ab:Operand->Value}{T9:Operand->Option y}{res:cj}(U6:fq D Q ab T9 [L])(e:iW C L T8 j k T9=some res):
 tF C D Q j k aN w (Instr.next (ab L) T8 ty) res:=by
 unfold iW at e;split at e
 ·rename_i r U5;obtain⟨u,gl⟩:=U6 L Zs _ U5;simp only[cL]at e;obtain⟨TY,e⟩:=e;have T:C.aD<=r:=fu TY;rw[u];split at e
  ·rename_i s pos f;obtain⟨d,g,t⟩:=I.obj r _ f gl;have F:(getObj (D r).bx).run C.P w=.ok (.stringIter (dz s) pos) w:=(by simp[getObj,Sem.run,g]);have T3:(dz s).size=s.length:=(by simp[dz,ByteArray.size]);rw[c3]at e;split at e
   ·rename_i a;have a:=ht a;rw[jB]at e;split at e
    ·rename_i c T6;simp only[cL]at e;obtain⟨T0,e⟩:=e;have T0:=ht T0;obtain⟨rfl,_⟩:=tk e;obtain⟨a6,a7,bl,p⟩:=putObj I (bP:=k) (h9:=.iI s (pos+1)) (dH:=.stringIter (dz s) (pos+1)) T gl f ⟨Zs,Zs⟩ g Zs (λa6 U4=>⟨d,U4,t⟩) ⟨λ_ _ _ e=>(by cases e),λ_ _ _ e=>(by cases e)⟩;refine⟨D,Q,a6, ?_,⟨trivial,trivial,trivial,trivial⟩,bl,p,Zg _⟩;have T1:pos<(dz s).size:=(by rw[T3];exact a);have T5:((dz s)[pos]'T1).toNat=c:=(by show((dz s).data[pos]).toNat=c;have U3:s[pos]=c:=(by rw[Zb a]at T6;exact YF T6);simp[dz,U3];omega);have T7:=decode_ascii (dz s) pos T1 (by rw[T5];exact T0);rw[T5]at T7;simp[Instr.next,aq,bd,d,F,T3,a,T7,a7,goInt]
    ·simp at e
   ·rename_i a;have a:¬pos<s.length:=λV=>a (by simp[Nat.blt];omega);simp at e;subst e;refine gz.same I ?_ ⟨trivial,trivial⟩;simp[Instr.next,aq,bd,d,F,T3,a]
  ·rename_i T4 seen n f;obtain⟨d,g,t⟩:=I.obj r _ f gl;have F:(getObj (D r).bx).run C.P w=.ok (.mapIter none T4 seen.toArray n) w:=(by simp[getObj,Sem.run,g]);simp at e;subst e;refine gz.same I ?_ ⟨trivial,trivial⟩;simp[Instr.next,aq,bd,d,F]
  ·rename_i m T4 seen n f;have U2:=I.obj r _ f gl;obtain⟨d,g,t⟩:=U2;split at e
   ·rename_i N bq T2;split at e
    ·
     rename_i G;simp only[cL,Y4,Zh]at e;obtain⟨A,hx,rfl⟩:=e;obtain⟨bg,aL,bs,a3,a4⟩:=na I (t m rfl) T2;have X:=EG a3;have F:(getObj (D r).bx).run C.P w=.ok (.mapIter (some (D m).bx) T4 seen.toArray n) w:=(by simp[getObj,Sem.run,g]);have TZ:(bg.filter λu=> !seen.toArray.contains u.born)= #[]:=(by rw[X,zw];have:=Iz (D:=D) seen N;rw[G]at this;congr 1;rw[List.map_nil]at this;rw[<-this];apply List.filter_congr;intro x _;simp);have U1:(!seen.toArray.isEmpty&& !bg.isEmpty&&bg.all λu=>decide (u.born>=n))=false:=by
      rcases hx with (hx|hx)|hx
      ·obtain⟨u,i,T1⟩:=EC n N hx;have:(bg.all λu=>decide (u.born>=n))=false:=(by rw[X,List.all_toArray,List.all_eq_false];exact⟨dR D u,ZB.2 ⟨u,i,rfl⟩,by simp[dR];omega⟩);rw[this];simp
      ·have:seen=[]:=(by simpa using hx);simp[this]
      ·have:N=[]:=(by simpa using hx);simp[X,this]
     refine gz.same I ?_ ⟨trivial,trivial⟩;simp only[aq,bd,d,ZQ,Instr.next,Sem.run_bind,F,Result.andThen_ok,aL,U1,ZA,ZJ,TZ];simp[Question.forced]
    ·rename_i q v b G;simp only[cL,Zt]at e;obtain⟨⟨A,hx⟩,e⟩:=e;obtain⟨rfl,_⟩:=tk e;obtain⟨u,i,a6,a7,bl,p,O,P⟩:=Ha I (bP:=k) (ty:=ty) T gl f T2 A hx (by rw[G];simp);rw[G]at i;have:u=(q,v,b):=(by simpa using i);subst this;refine⟨D,Q,a6, ?_,⟨trivial,O,P,trivial⟩,bl,p,Zg _⟩;simp only[aq,bd,d,ZQ];exact a7
    ·rename_i l U0 U7;simp only[cL,Zt,Zh]at e;obtain⟨⟨A,hx⟩,rfl⟩:=e;obtain⟨u,i,a6,a7,bl,p,O,P⟩:=Ha I (bP:=k) (ty:=ty) T gl f T2 A hx U0;refine⟨_,_,Qr _ u i,D,Q,a6, ?_,⟨trivial,O,P,trivial⟩,bl,p,Zg _⟩;simp only[aq,bd,d,ZQ];exact a7
   ·simp at e
  ·simp at e
 ·simp at e
def OK(I:bV C D Q j k aN w){t:Nat}{x:y}{res:cj}{bN:Array TypeId}{ty:TypeId}(c:bN[0]? =some t)(f:bp Q x)(e:tI C j k t x=some res):
 tF C D Q j k aN w (Builtin.clear_ bN ty #[aq D x]) res:=by
 unfold tI at e;split at e
 ·rename_i cp d;split at e
  ·rename_i aO aw v l;obtain⟨p,r⟩:=pF l D Q w;simp only[cL]at e;obtain⟨s,e⟩:=e;have Gf:∀(b J len cap:Nat),Q b->a8 (Nat.beq len 0) (some (cj.val (.tuple []))) (match gX C j b J (fc len aw.cells)with|some j=>some (.cJ (.tuple []) j k)|none=>none)=some res->
    tF C D Q j k aN w (Builtin.clear_ bN ty #[.slice (some ⟨(D b).bx,(D b).cm+J,none⟩) len cap]) res:=by
    intro b J len cap T a;rw[er]at a;split at a
    ·rename_i g;subst g;simp at a;subst a;refine gz.same I ?_ trivial;simp[Builtin.clear_,c,run_underlying d,aq,bd]
    ·rename_i g;obtain⟨len,rfl⟩:∃q,len=q+1:=⟨len-1,Zo⟩;split at a
     ·rename_i S' i;simp at a;subst a;obtain⟨a6,a7,bl,n⟩:=tN I (bP:=k) T (wx (lB r) _) i;refine⟨D,Q,a6, ?_,trivial,bl,n,Zg _⟩;have m:=IY D aw (len+1);simp[Builtin.clear_,c,run_underlying d,aq,bd,p,m,a7]
     ·simp at a
   split at e
   ·simp at e;subst e;refine gz.same I ?_ trivial;simp[Builtin.clear_,c,run_underlying d,aq,bd]
   ·exact Gf _ _ _ _ f e
   ·exact Gf _ _ _ _ f e
   ·simp at e
  ·simp at e
 ·simp at e
def Qv(w:World)(bg:Array Value)(u:TypeId)(n:Nat):(w.alloc (.cells bg u)).freeze ⟨w.heap.size,n,none⟩ 1=w.alloc (.cells bg u (n,n+1)):=by unfold World.freeze;show({w with heap:=(w.heap.push (.cells bg u)).modify w.heap.size _}:World)={w with heap:=w.heap.push (.cells bg u (n,n+1))};congr 1;grind
def Qu{p:Nat}{bg:Array Value}{ty:TypeId}{aW af:Nat}(e:w.heap[p]? =some (.cells bg ty (aW,af)))(n:Nat):
 (w.freeze ⟨p,n,none⟩ 1).heap[p]? =some (.cells bg ty (if aW==af then(n,n+1)else(min aW n,max af (n+1))))/\(∀q,q≠p->(w.freeze ⟨p,n,none⟩ 1).heap[q]? =w.heap[q]?):=by
 unfold World.freeze;grind
def acl(I:bV C D Q j k aN w)(cB:aN<=w.heap.size){s d:Nat}{x:Operand}{ab:Operand->Value}{T3:Operand->Option y}{res:cj}(T2:fq D Q ab T3 [x])(e:us C s d x j k T3=some res):
 tF C D Q j k aN w (convert s d (ab x)) res:=by
 unfold us at e;split at e
 ·rename_i u l i al a;obtain⟨ex,g⟩:=T2 x Zs _ a;split at e
  ·rename_i r;obtain⟨UG,rfl⟩:=F0 e;rw[ex];have U9:(dz l).size=l.length:=(by simp[dz,ByteArray.size]);have UH:(dz l).data.size=l.length:=(by simp[dz]);have TZ:=If D l g;have T7:cu Q (l.map λn=>y.int .u8 (Int.ofNat n)):=(by rw[md];intro v UB;obtain⟨h,_,rfl⟩:=ZB.1 UB;trivial);obtain⟨cap,UF,U0⟩:∃cap,l.length<=cap/\(choose (.appendCap l.length 0 u)).run C.P w=.ok cap w.drew:=
    ⟨l.length+(w.tape w.drawn (.appendCap l.length 0 u))%(2^63-l.length),Zo,by simp[Question.forced,Question.cut]⟩
   have U8:(l.map λn=>y.int .u8 (Int.ofNat n)).length+(Array.replicate (cap-l.length) (Value.int .u8 0)).size=cap*1:=(by simp;omega);have U1:=F3 (C:=C) (D:=D) (w:=w) (k:=k) T7 (kD I) U8 u [];have U6:f1 C (dS D k ⟨w.heap.size,0,cap*1⟩) (add Q k) (.cells (B.ofList (l.map λn=>y.int .u8 (Int.ofNat n)) 0 .nil) (l.map λn=>y.int .u8 (Int.ofNat n)).length (.grow [])) ⟨w.heap.size,0,cap*1⟩
    (w.drew.alloc (.cells ((bd D (l.map λn=>y.int .u8 (Int.ofNat n))).toArray++Array.replicate (cap-l.length) (Value.int .u8 0)) u (cap,cap+1))):=by
    obtain⟨bg,ty,aW,af,bb,bn,bH,T4⟩:=U1;have L:=mf w.drew (.cells ((bd D (l.map λn=>y.int .u8 (Int.ofNat n))).toArray++Array.replicate (cap-l.length) (Value.int .u8 0)) u);have UA:w.drew.heap.size=w.heap.size:=rfl;rw[UA]at L;rw[L]at bb;cases bb;refine⟨_,u,cap,cap+1,mf w.drew _,⟨.inr ?_,bn.2.1,bn.2.2⟩,bH,T4⟩;simp[fH];omega
   refine⟨dS D k ⟨w.heap.size,0,cap*1⟩,add Q k,_, ?_,.inr rfl,I.drew.alloc I.aD (Yt _) (Yd _) (kD I) cB rfl (by rw[dt _ I.aD,Zu rfl]) (λx a=> .inl (by rw[dt _ I.aD,Zi a])) U6
    ⟨λ_ _ _ e=>(by cases e;simp),λ_ _ _ e=>(by cases e;exact s4)⟩,y1 I cB _ (λx a _=>by rw[dt _ I.aD,Zi a]),Yd _⟩
   have U7:((bd D (l.map λn=>y.int .u8 (Int.ofNat n))).toArray++Array.replicate (cap-l.length) (Value.int .u8 0)).size=cap:=(by simp[fH];omega);have P:=Qv w.drew ((bd D (l.map λn=>y.int .u8 (Int.ofNat n))).toArray++Array.replicate (cap-l.length) (Value.int .u8 0)) u cap;have t:w.drew.heap.size=w.heap.size:=rfl;rw[t]at P;have G:(w.drew.alloc (.cells ((bd D (l.map λn=>y.int .u8 (Int.ofNat n))).toArray++Array.replicate (cap-l.length) (Value.int .u8 0)) u)).shape? w.heap.size=some (u,cap):=(by have:=mf w.drew (.cells ((bd D (l.map λn=>y.int .u8 (Int.ofNat n))).toArray++Array.replicate (cap-l.length) (Value.int .u8 0)) u);rw[t]at this;simp only[World.shape?,this,U7]);simp only[convert,Sem.run_bind,run_underlying i,run_underlying al,run_underlying r,Result.andThen_ok,aq,Conv.stringToBytes,U9,U0,TZ,newRow,run_newObj_alloc,t,Sem.run_pure,markStringish,run_shape,G,run_freeze,P,
    gM,ZQ,ze,ZF,Nat.div_one]
  ·simp at e
 ·rename_i UD u b J len cap i al a;obtain⟨ex,g⟩:=T2 x Zs _ a;split at e
  ·rename_i r;simp only[cL,Zt]at e;obtain⟨⟨A,U2⟩,e⟩:=e;have A:=Zr A;subst A;have T:=fu U2;rw[ex];have fin:∀(c:B y) (n:Nat) (st:it),F C j b=some (.cells c n st)->(st=.own\/st=.marked)->∀S',F C S' b=some (.cells c n .marked)->(∀x,x≠b->F C S' x=F C j x)->
    gz C D Q j k aN w (convert s s (aq D (.slice b J len cap))) (.slice b J len cap) S' k:=by
    intro c n st f T1 S' T8 p;obtain⟨bg,ty,aW,af,aL,bs,a3,a4⟩:=I.obj b _ f g;have T9:vs (.cells c n st):=(by rcases T1 with rfl|rfl<;>exact⟨Zs,Zs⟩);have U4:aW=af\/bg.size<=aW:=(by rcases T1 with rfl|rfl;exact .inl bs;exact bs);obtain⟨N,O⟩:=Qu aL bg.size;have UE:=I.base b _ T f g;have U5:∃m fy,(if aW==af then(bg.size,bg.size+1)else(min aW bg.size,max af (bg.size+1)))=(m,fy)/\bg.size<=m:=by
     by_cases V:aW=af
     ·exact⟨_,_,by rw[Zu (by simpa using V)],Zg _⟩
     ·refine⟨_,_,by rw[Zi (by simpa using V)], ?_⟩;have:=U4.resolve_left V;omega
    obtain⟨m,fy,T5,T6⟩:=U5;rw[T5]at N;refine⟨D,Q,w.freeze ⟨(D b).bx,bg.size,none⟩ 1, ?_,g,I.put T g f T8 (λx a=> .inl (p x a)) (λq X=>O q X) ?_ ⟨bg,ty,m,fy,N,.inr T6,a3,a4⟩ ⟨λ_ _ _ e=>(by cases e),λ_ _ _ e=>(by cases e;exact(I.cl b _ f g).2 _ _ _ rfl)⟩, ?_,Zg _⟩
    ·have G:=Bt aL;have TY:(s==s)=true:=(by simp);simp only[convert,Sem.run_bind,run_underlying i,Result.andThen_ok,aq];rw[i]at al;cases al;simp only[TY,run_underlying r,Sem.run_bind,Result.andThen_ok,markStringish,run_shape,G,run_freeze,Sem.run_pure]
    ·intro x UC T0 a ce U3;rw[p x T0]at a;exact I.alone T g f T9 x UC T0 a ce U3
    ·refine⟨λ_ _=>rfl,λ_ e=>e,λ_ e=> .inl e,λx a _=>p x (λu=>a (by rw[u];exact g)), ?_⟩;refine⟨?_, ?_, ?_, ?_,λq X=>O q Zo⟩<;>simp[World.freeze]
   split at e
   ·rename_i c n f;simp only[dD,Zh]at e;subst e;exact fin c n .own f (.inl rfl) _ (by rw[dt _ T,Zu rfl]) (λx a=>by rw[dt _ T,Zi a])
   ·rename_i c n f;simp only[Zh]at e;subst e;exact fin c n .marked f (.inr rfl) j f (λ_ _=>rfl)
   ·simp at e
  ·simp at e
 ·simp at e
def eU(C:ai)(D:bT)(Q:Nat->Prop)(j:B R)(k aN:Nat)(w:World)(s:Sem Next)(res:cj):Prop:=match res with
 | .val v=>oE C D Q j k aN w s v j k| .cJ v S' W=>oE C D Q j k aN w s v S' W| .fork l=>∃v S',(v,S')∈l/\oE C D Q j k aN w s v S' k| .enter f args=>s.run C.P w=.ok (.enter f (bd D args).toArray) w/\cu Q args| .known f args v=>C.ez f args=some v/\s.run C.P w=(callFunc f (bd D args).toArray).run C.P w/\cu Q args| .wrote f args S'=>(sJ C f=true/\p7 C j args=some S')/\s.run C.P w=(callFunc f (bd D args).toArray).run C.P w/\cu Q args| .round l args=>s.run C.P w=(Instr.yield (D l).bx (bd D args).toArray).run C.P w/\cu Q args/\Q l| .defer d=>s.run C.P w=.ok (.defer (hc D d)) w/\pb Q d| .recover=>s.run C.P w=.ok .recover w| .panic v=>s.run C.P w=.halt (.panic (aq D v)) w/\bp Q v
def eU.one{s:Sem Value}{res:cj}(e:tF C D Q j k aN w s res):eU C D Q j k aN w (do pure (.value (<-s))) res:=by
 cases res with
 |val v=>exact gz.done e|cJ v S' W=>exact gz.done e|fork l=>obtain⟨v,S',a,b⟩:=e;exact⟨v,S',a,b.done⟩
 |_=>exact e.elim
def eU.cJ{s:Sem Value}{res:cj}(e:∃v S' W,res=.cJ v S' W/\gz C D Q j k aN w s v S' W):eU C D Q j k aN w (do pure (.value (<-s))) res:=by obtain⟨v,S',W,rfl,e⟩:=e;exact e.done
def eU.app(I:bV C D Q j k aN w){s:Sem Value}{res:cj}(e:x0 C D Q j k aN w s res):eU C D Q j k aN w (do pure (.value (<-s))) res:=by
 rcases e with ⟨v,S',W,rfl,bZ,b9,a6,a,b,c,d,f⟩|⟨v,rfl,a,b⟩
 ·exact gz.done ⟨bZ,b9,a6,a,b,c,d,f⟩
 ·exact gz.done (.same I b a)
def eU.unit{s:Sem Unit}{res:cj}(e:∃S' a6,res=.cJ undef S' k/\s.run C.P w=.ok () a6/\bV C D Q S' k aN a6/\eF C k D Q j aN w D Q S' a6):
 eU C D Q j k aN w (do s;pure .skip) res:=by
 obtain⟨S',a6,rfl,a,b,c⟩:=e;exact⟨D,Q,a6,.skip,by simp[a],.inr ⟨rfl,rfl⟩,by trivial,b,c,Zg _⟩
def eU.congr{s a:Sem Next}{res:cj}(e:s.run C.P w=a.run C.P w)(q:eU C D Q j k aN w a res):eU C D Q j k aN w s res:=by cases res<;>simp only[eU,oE]at q ⊢ <;>rw[e]<;>exact q
def yD(f8:nD C.P){f:Nat}{args:List y}{res:cj}(g:cu Q args)(e:g9 C f args=some res):eU C D Q j k aN w (callFunc f (bd D args).toArray) res:=by
 unfold g9 at e;split at e
 ·rename_i v d;simp at e;subst e;exact⟨d,rfl,g⟩
 ·split at e
  ·rename_i fn a;split at e
   ·rename_i c T;simp at e;subst e;refine⟨?_,g⟩;have b:fn.name≠ "runtime.NumGoroutine":=(by simpa using f8.num f fn a (by simp[T]));simp[callFunc,a,b,T]
   ·grind
  ·grind
def Gg(f8:nD C.P){fn:Fn}{a args:List y}{res:cj}(c:ww Q fn)(wq:cu Q a)(b:cu Q args)(e:oO C fn a args=some res):
 eU C D Q j k aN w (invoke (.fn (hN D fn) (bd D a).toArray) (bd D args).toArray) res:=by
 unfold oO at e;split at e
 ·rename_i f;have u:invoke (.fn (hN D (.func f)) (bd D a).toArray) (bd D args).toArray=callFunc f (bd D (args++a)).toArray:=by simp[invoke,hN,qj]
  rw[u];exact yD f8 (pc b wq) e
 ·rename_i l;simp at e;subst e;exact⟨rfl,b,c⟩
 ·grind
def S4(I:bV C D Q j k aN w)(f8:nD C.P){t:Nat}{v:y}{name:String}{args:List y}{res:cj}(dg:bp Q v)(A:cu Q args)(e:jm C j t v name args=some res):
 eU C D Q j k aN w (callMethod (.iface t (aq D v)) name (bd D args).toArray) res:=by
 obtain⟨q,O⟩:∃q,C.P.types.size+Made.depth=q+1:=⟨C.P.types.size+99,rfl⟩;have go:∀(f:Nat) (x:y),bp Q x->(method (q+1) t (aq D v) name).run C.P w=.ok (f,aq D x) w->g9 C f (x::args)=some res->eU C D Q j k aN w (callMethod (.iface t (aq D v)) name (bd D args).toArray) res:=by intro f x G g N;refine(yD (D:=D) (j:=j) (k:=k) (aN:=aN) (w:=w) f8 (args:=x::args) (show bp Q x/\cu Q args from⟨G,A⟩) N).congr ?_;simp[callMethod,O,g,bd]
 unfold jm at e;split at e
 ·rename_i i af;split at e
  ·rename_i m g;simp only[cL]at e;obtain⟨r,e⟩:=e;have s:m.path.toList=[]:=(by simpa using r);split at e
   ·rename_i f u c l;refine go f v dg ?_ e;simp[method,typeInfo,af,g,s,follow,c,receiverAt,run_underlying l,Place.get]
   ·rename_i f u c l;split at e
    ·rename_i x n;obtain⟨p,L⟩:=Et I dg n;refine go f x L ?_ e;cases v with|ptr b J=>simp only[Instr.loadAt,Instr.sureAddr,aq,Sem.run_bind,Sem.run_pure,Result.andThen_ok]at p;have T0:∀(e1:TypeId) (a:Addr) (nm:String),Builtin.ssaWrapNilChk_ #[e1] e1 #[.pointer (some a),strVal "",strVal nm]=pure (.pointer (some a)):=λ_ _ _=>rfl;have X:m.path= #[]:=(by simpa using r);simp[method,typeInfo,af,g,X,follow,c,receiverAt,run_underlying l,Place.get,aq,T0,asAddr,p]|_=>simp[gW,b4,ay]at n;split at n<;>simp at n
    ·simp at e
   ·rename_i f d P c l;refine go f v dg ?_ e;cases d<;>first
     |exact(P _ rfl).elim|simp[method,typeInfo,af,g,s,follow,c,receiverAt,run_underlying l,Place.get]
   ·simp at e
  ·simp at e
 ·simp at e
def Oq(I:bV C D Q j k aN w)(cB:aN<=w.heap.size)(f8:nD C.P){b:Builtin}{args:Array Operand}{bN:Array TypeId}{ty:TypeId}{p:Array Bool}{ab:Operand->Value}{l:Operand->Option y}{res:cj}
 (i:fq D Q ab l args.toList)(e:um C b args bN j k l=some res):eU C D Q j k aN w (builtin b bN ty p (args.map ab)) res:=by
 have d:∀{t:Nat}{rest:List Nat},bN.toList=t::rest->bN[0]? =some t:=λa=>by rw[<-Z5,a];rfl
 have g:∀{t M:Nat}{rest:List Nat},bN.toList=t::M::rest->bN[1]? =some M:=λa=>by rw[<-Z5,a];rfl
 unfold um at e;split at e
 ·rename_i s x c;obtain⟨aL,bs⟩:=lx i c;rw[aL];split at e
  ·rename_i st e1 rest a;split at e
   ·rename_i V f;split at e
    ·rename_i n r;exact eU.app I (NE (ty:=ty) I cB (d a) (g a) f bs.1 r e)
    ·simp at e
   ·rename_i u f;exact eU.app I (Eo (ty:=ty) I cB (d a) (g a) f (.inr ⟨u,rfl⟩) bs.1 bs.2.1 e)
   ·rename_i f;exact eU.app I (Eo (ty:=ty) I cB (d a) (g a) f (.inl rfl) bs.1 bs.2.1 e)
   ·simp at e
  ·simp at e
 ·rename_i c;simp at e;subst e;exact rfl
 ·rename_i x c;obtain⟨aL,bs⟩:=lx i c;rw[aL];split at e
  ·rename_i t rest a;exact eU.one (OK (ty:=ty) I (d a) bs.1 e)
  ·simp at e
 ·rename_i m q c;obtain⟨aL,bs⟩:=lx i c;rw[aL];split at e
  ·rename_i t rest a;obtain⟨v,S',rfl,al⟩:=O7 (ty:=ty) I (d a) bs.1 bs.2.1 e;exact gz.done al
  ·simp at e
 ·simp at e
def NF(I:bV C D Q j k aN w)(cB:aN<=w.heap.size)(f8:nD C.P){oper:Oper}{ab:Operand->Value}{p:Operand->Option y}{res:cj}(i:fq D Q ab p oper.op.operands.toList)
 (e:h1 oper.op C j k p=some res):eU C D Q j k aN w (execOp ab oper) res:=by
 obtain⟨dst,op,type,pos,after,guard⟩:=oper;have L:∀t m q x,fq D Q ab p [m,q,x]->sG C t m q x j k p=some res->eU C D Q j k aN w (do Instr.mapUpdate t (ab m) (ab q) (ab x);pure .skip) res:=by
  intro t m q x i e;unfold sG at e;split at e
  ·rename_i a b c T7 T T8;obtain⟨O,T0⟩:=i m Zs a T7;obtain⟨P,T1⟩:=i q Zs b T;obtain⟨X,T2⟩:=i x Zs c T8;obtain⟨S',a6,T3,T4,T5,T6⟩:=NL I T0 T1 T2 e;rw[O,P,X];exact eU.unit ⟨S',a6,T3,T4,T5,T6⟩
  ·simp at e
 cases op<;>simp only[h1]at e<;>(try(cases e;done))<;>simp only[execOp]<;>simp only[Op.operands]at i;case mapUpdate t m q x=>exact L t m q x (by simpa using i) e
 case insert t m q x=>exact L t m q x (by simpa using i) e
 case makeSlice t l c=>exact eU.cJ (SU I cB (by simpa using i) e)
 case makeMap t r=>
  cases r with|none=>simp at e|some r=>exact eU.cJ (SR I cB (by simpa using i) e)
 case convert s d x=>exact eU.one (acl I cB (by simpa using i) e)
 case range t x=>exact eU.cJ (aaE I cB (by simpa using i) e)
 case next TY s=>exact eU.one (Tj I (by simpa using i) e)
 case panic x=>
  unfold Ag at e;split at e
  ·rename_i t v n;simp at e;subst e;obtain⟨u,g⟩:=i x Zs _ n;refine⟨?_,g⟩;simp[Instr.panic,u,aq]
  ·simp at e
 case defer c=>
  unfold Af at e;split at e
  ·rename_i f args bN;split at e
   ·rename_i fn first N G A has
    simp at e;subst e;simp only[Call.operands]at i;obtain⟨u,g⟩:=i f Zs _ A;obtain⟨aL,bs⟩:=lx (i.mono (by simp;intro x n;exact .inr n)) has;refine⟨?_,⟨g.1,g.2.2⟩,pc g.2.1 bs⟩;simp[resolve,u,aq,Deferred.ofValue,aL,hc,qe,qj]
   ·simp at e
  ·simp at e
 case call c=>
  unfold qE at e;split at e
  ·rename_i f args bN;split at e
   ·rename_i fn first N G A has
    simp only[Call.operands]at i;obtain⟨u,g⟩:=i f Zs _ A;obtain⟨aL,bs⟩:=lx (i.mono (by simp;intro x n;exact .inr n)) has;refine(Gg (D:=D) (j:=j) (k:=k) (aN:=aN) (w:=w) f8 g.1 g.2.2 (pc g.2.1 bs) e).congr ?_;simp[resolve,u,aq,Deferred.ofValue,aL,qj]
   ·simp at e
  ·rename_i b args bN;simp only[Call.operands]at i;show eU C D Q j k aN w (builtin b bN type _ (args.map ab)) res;exact Oq I cB f8 (i.mono Zs) e
  ·rename_i r name args bN;split at e
   ·rename_i t v G T9 has;simp only[Call.operands]at i;obtain⟨u,g⟩:=i r Zs _ T9;obtain⟨aL,bs⟩:=lx (i.mono (by simp;intro x n;exact .inr n)) has;refine(S4 (v:=v) I f8 g bs e).congr ?_;simp[resolve,u,aq,invoke,aL]
   ·simp at e
end
noncomputable section
abbrev cA:=Option y
structure e8 where
 fn:Nat
 n:Nat
 ac:Nat
 aP:List eA
 ap:Bool
 ro:Option Nat
 cs:List d3
abbrev ey:=gw->List ci->e8->B y->B R->Nat->cA
def jI(g:Option (Nat×Bool))(ad:List (Nat×y)):Option Bool:=
 match g with
 |none=>some true|some (E,want)=>(match cH ad E with
  |some v=>(match v with| .bool b=>some (b==want)|_=>some false)|none=>none)
def iF(f:y->y->Bool):List y->List y->Bool
 |[],[]=>true|a::l,b::m=>f a b&&iF f l m|_,_=>false
def y.same:Nat->y->y->Bool
 |0,_,_=>false|d+1,x,h=>match x,h with
  | .bool a,.bool b=>a==b| .int q a,.int p b=>decide (q=p)&&decide (a=b)| .str a,.str b=>hC a b| .ptr a b,.ptr g i=>Nat.beq a g&&Nat.beq b i| .bE,.bE=>true| .slice a b c u,.slice g i l m=>Nat.beq a g&&Nat.beq b i&&Nat.beq c l&&Nat.beq u m| .cy a b c u,.cy g i l m=>Nat.beq a g&&Nat.beq b i&&Nat.beq c l&&Nat.beq u m| .au,.au=>true| .map a,.map b=>Nat.beq a b| .gs,.gs=>true| .func f a b,.func n g i=>decide (f=n)&&iF (y.same d) a g&&iF (y.same d) b i| .nilFunc,.nilFunc=>true| .iface t v,.iface es r=>Nat.beq t es&&y.same d v r| .nilIface,.nilIface=>true| .agg a,.agg b=>iF (y.same d) a b| .tuple a,.tuple b=>iF (y.same d) a b|_,_=>false
def nS(C:ai)(base:Nat)(z:B y):List de->List (Nat×y)->B R->Option (List (Nat×y)×B R)
 |[],ad,j=>some (ad,j)|x::l,ad,j=>(match jI x.g ad with
  |none=>none|some false=>nS C base z l ((x.i,undef)::ad) j|some true=>(match hz x.op with
   | .make=>(match iD x.op C (base+x.i) ad z with
     |some (v,bQ)=>fx (aI C j (base+x.i) (some bQ)) λj=>nS C base z l ((x.i,v)::ad) j|none=>none)
   |_=>(match eb x.op C j ad z with
    |some v=>nS C base z l ((x.i,v)::ad) j|none=>none)))
def qp(C:ai)(z:B y)(ad:List (Nat×y))(j:B R):List de->Bool
 |[]=>true|x::l=>(match jI x.g ad with
  |none=>false|some false=>qp C z ad j l|some true=>(match eb x.op C j ad z,cH ad x.i with
   |some v,some M=>y.same 30 v M&&qp C z ad j l|_,_=>false))
def nY(ad:List (Nat×y)):List (Nat×Nat)->B y->Option (B y)
 |[],z=>some z|(i,d)::l,z=>(match cH ad i with|some v=>fx (z.set d (some v)) λz=>nY ad l z|none=>none)
def exitTo(id:Nat):List ci->Option (List ci)
 |[]=>none| .inBlock a::q=>a8 (Nat.beq a id) (some q)<|exitTo id q
 |_::q=>exitTo id q
def fo{α:Type}(J:Option α)(q:α->cA):cA:=Option.rec (motive:=λ_=>cA) none (λa=>q a) J
def tQ(l:List (Nat×y)):Nat->(y->cA)->cA:=
 List.rec (motive:=λ_=>Nat->(y->cA)->cA) (λ_ _=>none)
  (λp _ U E q=>Prod.rec (motive:=λ_=>cA) (λa b=>Bool.rec (motive:=λ_=>cA) (U E q) (q b) (Nat.beq a E)) p) l
def ws(t:B y):Nat->(y->cA)->cA:=
 B.rec (motive:=λ_=>Nat->(y->cA)->cA) (λ_ _=>none)
  (λv _ _ b c i q=>Nat.rec (motive:=λ_=>cA) (Option.rec (motive:=λ_=>cA) none (λa=>q a) v)
   (λE _=>Bool.rec (motive:=λ_=>cA) (c (Nat.div E 2) q) (b (Nat.div E 2) q) (Nat.beq (Nat.mod E 2) 0)) i) t
def nV(x:gc):List (Nat×y)->B y->(y->cA)->cA:=
 gc.rec (motive:=λ_=>List (Nat×y)->B y->(y->cA)->cA) (λE ad _ q=>tQ ad E q) (λn _ z q=>ws z n q) (λa _ _ q=>q a) x
def IF(g:Option (Nat×Bool)):List (Nat×y)->cA->cA->cA:=
 Option.rec (motive:=λ_=>List (Nat×y)->cA->cA->cA) (λ_ a _=>a)
  (λp ad a b=>fo (jI (some p) ad) λw=>Bool.rec (motive:=λ_=>cA) b a w) g
def uf(l:List (Nat×Nat)):List (Nat×y)->B y->(B y->cA)->cA:=
 List.rec (motive:=λ_=>List (Nat×y)->B y->(B y->cA)->cA) (λ_ z q=>q z)
  (λp _ U ad z q=>Prod.rec (motive:=λ_=>cA) (λi d=>tQ ad i λv=>fx (B.set z d (some v)) λz=>U ad z q) p) l
def rG(a:ci)(q:List ci)(bj:e8)(z:B y):List d3:=
 e8.rec (motive:=λ_=>List d3) (λfn n ac aP ap ro cs=>⟨fn,n,ac,z,a::q,aP,.run,ap,ro⟩::cs) bj
def iB(U:ey)(C:ai)(f:Nat)(args:List y)(deferred:Bool)(cs:List d3)(j:B R)(k:Nat):cA:=
 match C.P.funcs[f]? with
 |some fn=>(match fn.body with
  |some c=>kv (Nat.lor (gR c) (j7 fn.results.toList)) λac=>a8 (Nat.ble args.length fn.ntmps&&gZ C ac c&&oh ac fn.results.toList) (U .run [.code c] ⟨f,fn.ntmps,ac,[],deferred,none,cs⟩ (B.ofList args 0 .nil) j k)<|none
  |none=>none)
 |none=>none
def nj(n:Nat):List Nat->List y->B y->Option (B y)
 |[],[],z=>some z|p::b2,a::b,z=>a8 (Nat.blt p n) (nj n b2 b (z.set p (some a)))<|none
 |_,_,_=>none
def iE(a:ci)(v:y):Option ci:=match a with
 | .lp ae ad e rest fin=>some (.tj ae ((e,v)::ad) rest fin)| .oq ae base ad e gT fin=>some (.drawn ae base ((e,v)::ad) gT fin)| .inRangeFunc l=>some (.endRangeFunc l)|_=>none
def Bp(U:ey)(todo:List ci)(bj:e8)(v:y)(z:B y)(j:B R)(k:Nat):cA:=
 match todo with
 |[]=>none|a::q=>(match iE a v with|some b=>U .run (b::q) bj z j k|none=>none)
def mX:List Nat->B y->B y
 |[],z=>z|d::l,z=>mX l (z.set d none)
def mW(todo:List ci)(z:B y):B y:=match todo with
 | .lp ae _ _ _ _::_=>mX (dstsOf ae.toList) z| .oq ae _ _ _ _ _::_=>mX (dstsOf ae.toList) z|_=>z
def td(chain:List kL)(be:gw):gw:=match be with
 | .panicking hD=> .panicking (chain++hD)|_=> .panicking chain
def HO(U:ey)(c:d3)(cs:List d3)(chain:List kL)(j:B R)(k:Nat):cA:=
 match c with
 |⟨fn,n,ac,z,todo,aP,be,ap,ro⟩=>U (td chain be) todo ⟨fn,n,ac,aP,ap,ro,cs⟩ (mW todo z) j k
def pJ(ap:Bool)(cs:List d3):Option (y×List d3):=
 a8 (ap) ((match cs with
  |c::rest=>(match c with
   |⟨fn,n,ac,z,todo,aP,be,a,ro⟩=>(match be with
    | .panicking (⟨v,false⟩::b)=>some (v,⟨fn,n,ac,z,todo,aP,.panicking (⟨v,true⟩::b),a,ro⟩::rest)|_=>some (.nilIface,cs)))
  |[]=>none))<|some (.nilIface,cs)
def qA(U:ey)(c:ci)(q:List ci)(bj:e8)(z:B y)(k:Nat):List (y×B R)->cA
 |[]=>none|[(v,j)]=>(match iE c v with|some d=>U .run (d::q) bj z j k|none=>none)|(v,j)::l=>(match iE c v with
  |some d=>(match U .run (d::q) bj z j k,qA U c q bj z k l with
   |some a,some b=>a8 (y.same 30 a b) (some a) none|_,_=>none)
  |none=>none)
def jn(r:cj)(U:ey)(C:ai)(a:ci)(q:List ci)(bj:e8)(z:B y)(j:B R)(k:Nat):cA:=
 match r with
 | .val v=>(match iE a v with|some b=>U .run (b::q) bj z j k|none=>none)| .cJ v j k=>(match iE a v with|some b=>U .run (b::q) bj z j k|none=>none)| .enter f args=>iB U C f args false (rG a q bj z) j k| .known _ _ v=>(match iE a v with|some b=>U .run (b::q) bj z j k|none=>none)| .wrote _ _ j=>(match iE a (.tuple [])with|some b=>U .run (b::q) bj z j k|none=>none)| .round l args=>(match F C j l with
   |some (.loop _ _ fn n ac c params assign body _)=>(match nj n params args c with
    |some c=>U .run [.code assign,.beginRound,.code body] ⟨fn,n,ac,[],false,some l,rG a q bj z⟩ c j k|none=>none)
   |_=>none)
 | .defer d=>(match bj with
   |⟨fn,n,ac,aP,ap,ro,cs⟩=>(match ro with
    |none=>(match iE a undef with|some b=>U .run (b::q) ⟨fn,n,ac,d::aP,ap,none,cs⟩ z j k|none=>none)|some _=>none))
 | .recover=>(match bj with
   |⟨fn,n,ac,aP,ap,ro,cs⟩=>(match ro with
    |none=>(match pJ ap cs with
     |some (v,bY)=>(match iE a v with|some b=>U .run (b::q) ⟨fn,n,ac,aP,ap,none,bY⟩ z j k|none=>none)|none=>none)
    |some _=>none))
 | .panic v=>(match bj with
   |⟨fn,n,ac,aP,ap,ro,cs⟩=>(match ro with
    |none=>U (.panicking [⟨v,false⟩]) (a::q) ⟨fn,n,ac,aP,ap,none,cs⟩ (mW (a::q) z) j k|some _=>none))
 | .fork l=>qA U a q bj z k l
def Bb(op:fM):ai->B R->Nat->List (Nat×y)->B y->(y->B R->Nat->cA)->(cj->cA)->cA:=
 match op with
 | .q5 x=>λ_ j k ad z S _=>nV x ad z λv=>S v j k| .pick c a b=>λ_ j k ad z S _=>fo (eb (.pick c a b) ⟨default,.nil,0,λ_ _=>none,0⟩ j ad z) λv=>S v j k| .df a=>λC j k ad z S _=>nV a ad z λa=>fo (ay C j a) λv=>S v j k| .pk n a=>λC j k ad z S _=>nV a ad z λa=>fo (b4 C j n a) λv=>S v j k| .off d x=>λ_ j k ad z S _=>nV x ad z λa=>fo (d2 d a) λv=>S v j k| .pf n aO x i=>λC j k ad z S _=>fo (eb (.pf n aO x i) C j ad z) λv=>S v j k| .pg aO x i=>λC j k ad z S _=>fo (eb (.pg aO x i) C j ad z) λv=>S v j k| .q8 x=>λ_ j k ad z S _=>nV x ad z λa=>fo (hm a) λv=>S v j k| .uv op x h=>λ_ j k ad z S _=>nV x ad z λa=>nV h ad z λb=>fo (aH op a b) λv=>S v j k| .ext i x=>λ_ j k ad z S _=>nV x ad z λa=>fo (hH i a) λv=>S v j k| .eP bi J=>λC j k ad z S _=>fo (eb (.eP bi J) C j ad z) λv=>S v j k| .make bi J=>λC j k ad z _ g=>fo (wO (.make bi J) C j k ad z) g| .st n a v=>λC j k ad z _ g=>fo (eB (.st n a v) C j k ad z) g| .call f args=>λC j k ad z _ g=>fo (eB (.call f args) C j k ad z) g| .dc bi J=>λC j k ad z _ g=>fo (eB (.dc bi J) C j k ad z) g
structure dY where
 U:ey
 ae:Array Oper
 fin:List (Nat×Nat)
 q:List ci
 bj:e8
def PW(X:dY)(C:ai)(z:B y)(ad:List (Nat×y))(i:Nat)(rest:List de)(r:cj)(j:B R)(k:Nat):cA:=
 match X with|⟨U,ae,fin,q,bj⟩=>jn r U C (.lp ae ad i rest fin) q bj z j k
abbrev ST:=dY->ai->B y->List (Nat×y)->B R->Nat->cA
def aax(a:ST)(X:dY)(C:ai)(z:B y)(ad:List (Nat×y))(i:Nat)(v:y)(j:B R)(k:Nat):cA:=a X C z ((i,v)::ad) j k
def Q6(a:ST)(X:dY)(C:ai)(z:B y)(ad:List (Nat×y))(i:Nat)(rest:List de)(j:B R)(k:Nat)(r:cj):cA:=
 match r with
 | .val v=>a X C z ((i,v)::ad) j k| .cJ v j k=>a X C z ((i,v)::ad) j k|r=>PW X C z ad i rest r j k
def uc(X:dY)(_:ai)(z:B y)(ad:List (Nat×y))(j:B R)(k:Nat):cA:=
 dY.rec (motive:=λ_=>cA) (λU _ fin q bj=>uf fin ad z λz=>U .run q bj z j k) X
def rk(i:Nat)(g:Option (Nat×Bool))(op:fM)(rest:List de)(a:ST)(X:dY)(C:ai)(z:B y)(ad:List (Nat×y))(j:B R)(k:Nat):cA:=
 IF g ad (Bb op C j k ad z (aax a X C z ad i) (Q6 a X C z ad i rest j k)) (a X C z ((i,undef)::ad) j k)
def pH(rest:List de):ST:=
 List.rec (motive:=λ_=>ST) uc (λx rest a=>de.rec (motive:=λ_=>ST) (λi g op=>rk i g op rest a) x) rest
def o0(U:ey)(C:ai)(ae:Array Oper)(base:Nat)(ad:List (Nat×y))(gT:List mN)(fin:List (Nat×Nat))(q:List ci)(bj:e8)(z:B y)(j:B R)(k:Nat):cA:=
 match gT with
 |[]=>none|s::rest=>(match nS C base z s.lK ad j with
  |none=>none|some (ad,j)=>a8 (qp C z ad j s.Bi) ((match s.dc with
    |none=>uf fin ad z λz=>U .run q bj z j k|some e=>(match jI e.g ad with
     |none=>none|some w=>a8 (w) ((match eB e.op C j k ad z with
       |some r=>jn r U C (.oq ae base ad e.i rest fin) q bj z j k|none=>none))<|U .run (.drawn ae base ((e.i,undef)::ad) rest fin::q) bj z j k)))<|none)
def pK(a:List kL):gw:=match a with|⟨_,true⟩::_=> .returning|_=> .panicking a
def lA(U:ey)(ap:Bool)(cs:List d3)(v:y)(j:B R)(k:Nat):cA:=
 match cs with
 |c::rest=>(match c with
  |⟨fn,n,ac,z,todo,aP,be,a,ro⟩=>(match be with
   | .run=>a8 ap none (Bp U todo ⟨fn,n,ac,aP,a,ro,rest⟩ v z j k)| .returning=>a8 ap (U .returning todo ⟨fn,n,ac,aP,a,ro,rest⟩ z j k) none| .panicking b=>a8 ap (U (pK b) todo ⟨fn,n,ac,aP,a,ro,rest⟩ z j k) none))
 |[]=>a8 ap none (some v)
def As(a:Option Code):Bool:=match a with|none=>true|some .ret=>true|_=>false
def HD(a:Option Code):Bool:=match a with|none=>true|some .ret=>true|some (.exit _)=>true|_=>false
def jx(a:Option Code)(U:ey)(C:ai)(todo:List ci)(bj:e8)(z:B y)(j:B R)(k:Nat):cA:=
 match bj with
 |⟨fn,n,ac,aP,ap,ro,cs⟩=>(match ro with
  |none=>a8 (As a) (U .returning todo ⟨fn,n,ac,aP,ap,none,cs⟩ z j k)<|none
  |some l=>(match F C j l with
   |some (.loop _ _ fn n ac z params assign body defers)=>
    a8 ((eN C l&&HD a)&& !ap) (fx (aI C j l (some (.loop (a8 a.isNone .ready .done) a fn n ac z params assign body defers))) λj=>lA U ap cs (.bool a.isNone) j k)<|none
   |_=>none))
def ng(C:ai)(j:B R)(z:B y):List ResultVar->Option (List y)
 |[]=>some []| .tmp t::l=>(match z.get t,ng C j z l with|some v,some r=>some (v::r)|_,_=>none)| .cell a t::l=>(match z.get a with
   |some p=>(match gW C j t p,ng C j z l with|some v,some r=>some (v::r)|_,_=>none)|none=>none)
def nX(z:B y)(J:Operand):Option y:=match J with
 | .tmp t=>z.get t| .const v=>rf v| .global g=>some (.ptr g 0)| .func f=>some (.func (.func f) [] [])
def u1(f:Operand)(params:Array Nat)(assign body:Code)(U:ey)(C:ai)(q:List ci)(bj:e8)(z:B y)(j:B R)(k:Nat):cA:=
 match nX z f,bj with
 |some (.func (.func g) first a),⟨fn,n,ac,aP,ap,ro,cs⟩=>
  (
   match ro with
   |none=>kv k λk=>
    iB U C g (first++[.func (.yield (k+1)) [] []]++a) false (⟨fn,n,ac,z,.inRangeFunc (k+1)::q,⟨.collected k,[]⟩::aP,.run,ap,none⟩::cs)
     (aI C (aI C j k (some (.deferred (some [])))) (k+1) (some (.loop .ready none fn n ac z params.toList assign body k))) (k+2)
   |some l=>(match F C j l with
    |some (.loop _ _ _ _ _ _ _ _ _ defers)=>kv k λk=>
     iB U C g (first++[.func (.yield k) [] []]++a) false (⟨fn,n,ac,z,.inRangeFunc k::q,aP,.run,ap,some l⟩::cs)
      (aI C j k (some (.loop .ready none fn n ac z params.toList assign body defers))) (k+1)
    |_=>none))
 |_,_=>none
def o2(id:Nat)(U:ey)(C:ai)(q:List ci)(bj:e8)(z:B y)(j:B R)(k:Nat):cA:=
 match exitTo id q with
 |some a=>U .run a bj z j k|none=>jx (some (.exit id)) U C (.code (.exit id)::q) bj z j k
def tZ(c:Operand)(z:B y)(a b:cA):cA:=fo (nX z c) λv=>match v with
 | .bool t=>Bool.rec (motive:=λ_=>cA) b a t|_=>none
def Bl(n ac:Nat)(ae:Array Oper)(U:ey)(C:ai)(q:List ci)(bj:e8)(z:B y)(j:B R)(k:Nat):cA:=
 fo (uP C n ae ac) λr=>x4.rec (motive:=λ_=>cA) (λrest fin=>pH rest ⟨U,ae,fin,q,bj⟩ C z [] j k) r
def Bk(n ac:Nat)(ae:Array Oper)(U:ey)(C:ai)(q:List ci)(bj:e8)(z:B y)(j:B R)(k:Nat):cA:=
 fo (uO C n ae ac) λr=>x3.rec (motive:=λ_=>cA) (λgT fin=>kv k λk=>o0 U C ae k [] gT fin q bj z j (k+ae.size)) r
def HR(ae:Array Oper)(a:Bool)(U:ey)(C:ai)(q:List ci)(bj:e8)(z:B y)(j:B R)(k:Nat):cA:=
 e8.rec (motive:=λ_=>cA) (λfn n ac aP ap ro cs=>Bool.rec (motive:=λ_=>cA)
  (Bl n ac ae U C q ⟨fn,n,ac,aP,ap,ro,cs⟩ z j k) (Bk n ac ae U C q ⟨fn,n,ac,aP,ap,ro,cs⟩ z j k) a) bj
abbrev oB:=ey->ai->List ci->e8->B y->B R->Nat->cA
def wv:oB:=λU _ q bj z j k=>U .run q bj z j k
def q9:oB:=λ_ _ _ _ _ _ _=>none
def l4(c:Code):oB:=
 Code.rec (motive:=λ_=>oB) wv
  (λ_ ae d=>HR ae d)
  (λ_ b g _ U C q=>g U C (.code b::q))
  (λc _ _ g a U C q bj z j k=>tZ c z (g U C q bj z j k) (a U C q bj z j k))
  (λid _ a U C q=>a U C (.inBlock id::q))
  (λb a U C q=>a U C (.inLoop b::q))
  (λf params assign body _ _=>u1 f params assign body)
  (λid=>o2 id)
  (λb a U C q=>a U C (.inScope b::q))
  (λ_=>wv)
  (λ_=>q9)
  (λU C q=>jx (some .ret) U C (.code .ret::q))
  (λ_=>q9) c
def su(l:Nat):oB:=λU C q bj z j k=>match F C j l with
 |some (.loop state pending b d c a params assign body defers)=>
  (
   match state with
   | .busy=>none|_=>a8 (eN C l) (fx (aI C j l (some (.loop .exhausted pending b d c a params assign body defers))) λj=>U .run ((pending.map ci.code).toList++q) bj z j k)<|none)
 |_=>none
def tS:oB:=λU C q bj z j k=>match bj with
 |⟨fn,n,ac,aP,ap,ro,cs⟩=>match ro with
  |some l=>(match F C j l with
   |some (.loop .ready pending b d c a params assign body defers)=>
    a8 (eN C l) (fx (aI C j l (some (.loop .busy pending b d c a params assign body defers))) λj=>U .run q ⟨fn,n,ac,aP,ap,some l,cs⟩ z j k)<|none
   |_=>none)
  |none=>none
def RF(a:ci):oB:=
 ci.rec (motive:=λ_=>oB) (λc=>l4 c) (λ_=>wv) (λb U C q=>l4 b U C (.inLoop b::q)) (λ_=>wv)
  (λae ad rest fin U C q bj z j k=>pH rest ⟨U,ae,fin,q,bj⟩ C z ad j k)
  (λae base ad gT fin U C q bj z j k=>o0 U C ae base ad gT fin q bj z j k)
  (λ_ _ _ _ _=>q9) (λ_ _ _ _ _ _=>q9) (λ_=>q9) (λl=>su l) tS a
def acj(todo:List ci)(U:ey)(C:ai)(bj:e8)(z:B y)(j:B R)(k:Nat):cA:=
 List.rec (motive:=λ_=>cA) (jx none U C [] bj z j k) (λa q _=>RF a U C q bj z j k) todo
def nl(d:eA)(a:List eA)(be:gw)(todo:List ci)(U:ey)(C:ai)(bj:e8)(z:B y)(j:B R)(k:Nat):cA:=
 match bj with
 |⟨fn,n,ac,_,ap,ro,cs⟩=>(match d with
  |⟨.collected r,_⟩=>(match F C j r with
   |some (.deferred (some c))=>a8 (eN C r) (fx (aI C j r (some (.deferred none))) λj=>U be todo ⟨fn,n,ac,c++a,ap,ro,cs⟩ z j k)<|none
   |_=>none)
  |⟨.fn f g,args⟩=>(match oO C f g args with
   |some (.enter f b)=>iB U C f b true (⟨fn,n,ac,z,todo,a,be,ap,ro⟩::cs) j k|_=>none))
def one(aF:List y):y:=match aF with|[v]=>v|aF=> .tuple aF
def u6(todo:List ci)(U:ey)(C:ai)(bj:e8)(z:B y)(j:B R)(k:Nat):cA:=
 match bj with
 |⟨fn,n,ac,aP,ap,ro,cs⟩=>match aP with
  |d::a=>nl d a .returning todo U C ⟨fn,n,ac,[],ap,ro,cs⟩ z j k|[]=>(match C.P.funcs[fn]? with
   |some f=>(match ng C j z f.results.toList with
    |some aF=>lA U ap cs (one aF) j k|none=>none)
   |none=>none)
def BD(chain:List kL)(todo:List ci)(U:ey)(C:ai)(bj:e8)(z:B y)(j:B R)(k:Nat):cA:=
 match bj with
 |⟨fn,n,ac,aP,ap,ro,cs⟩=>match aP with
  |d::a=>nl d a (.panicking chain) todo U C ⟨fn,n,ac,[],ap,ro,cs⟩ z j k|[]=>(match cs with
   |c::rest=>HO U c rest chain j k|[]=>none)
def BC(U:ey)(C:ai)(be:gw)(todo:List ci)(bj:e8)(z:B y)(j:B R)(k:Nat):cA:=
 gw.rec (motive:=λ_=>cA) (acj todo U C bj z j k) (u6 todo U C bj z j k) (λa=>BD a todo U C bj z j k) be
def run(C:ai)(n:Nat):ey:=
 Nat.rec (motive:=λ_=>ey) (λ_ _ _ _ _ _=>none) (λ_ U be todo bj z j k=>BC U C be todo bj z j k) n
def oj(C:ai)(n:Nat)(f:Nat)(args:List y):cA:=iB (run C n) C f args false [] .nil C.aD
section
variable{C:ai}{D bZ:bT}{Q b9:Nat->Prop}{j S':B R}{k W aN:Nat}{w a6:World}
def F5(I:bV C D Q j k aN w)(cB:aN<=w.heap.size)(f8:nD C.P){oper:Oper}{ab:Operand->Value}{wr:List (Nat×Nat)}{ad:List (Nat×y)}{z:B y}{c:fM}{res:cj}
 (n:fq D Q ab (fw wr ad z) oper.op.operands.toList)(l:gY C wr oper.op=some c)(e:eB c C j k ad z=some res):eU C D Q j k aN w (execOp ab oper) res:=by
 have rest:∀J,oper.op=J->c=.dc wr J->eU C D Q j k aN w (execOp ab oper) res:=by intro J T7 T5;subst T5;subst T7;exact NF I cB f8 n e
 have p:∀J,c=.eP wr J->eU C D Q j k aN w (execOp ab oper) res:=by intro J u;subst u;simp[eB]at e
 have O:∀J,c=.make wr J->eU C D Q j k aN w (execOp ab oper) res:=by intro J u;subst u;simp[eB]at e
 obtain⟨dst,op,type,pos,after,guard⟩:=oper;cases op<;>simp only[gY]at l<;>simp only[Op.operands]at n;case store t a x=>
  split at l
  ·rename_i U3 U5 s T4 G T8;simp at l;subst l;simp only[eB,h4 T4,h4 G]at e;split at e
   ·rename_i M A;split at e
    ·rename_i v T9;obtain⟨X,T2⟩:=n a Zs M A;obtain⟨T0,T3⟩:=n x Zs v T9;obtain⟨S',rfl,al⟩:=ack I T8 T2 T3 e;simp only[execOp,X,T0];exact al _ (λa6 TZ=>by simp[TZ])
    ·simp at e
   ·simp at e
  ·simp at l
 case call P=>
  obtain⟨callee,args,bN⟩:=P;cases callee with
  |builtin b=>
   cases b<;>simp[gY]at l<;>first
    |exact rest _ rfl l.symm|exact p _ l.symm
  |value f=>
   cases f with
   |func g=>
    simp only at l;split at l
    ·rename_i U4 has;simp at l;subst l;simp only[eB]at e;split at e
     ·rename_i aF TY;simp only[Call.operands]at n;obtain⟨bG,U1⟩:=P0 ad z has TY;have U0:fq D Q ab (fw wr ad z) args.toList:=n.mono (by simp;intro x G;exact .inr G);obtain⟨U2,N⟩:=GL U0 bG U1;obtain⟨T1,_⟩:=n (.func g) Zs (.func (.func g) [] []) rfl;have u:args.map ab=(bd D aF).toArray:=(by apply Array.ext';simp[U2]);have L:(execOp ab ⟨dst,.call ⟨.value (.func g),args,bN⟩,type,pos,after,guard⟩).run C.P w=(callFunc g (bd D aF).toArray).run C.P w:=(by simp[execOp,resolve,T1,aq,hN,bd,Deferred.ofValue,invoke,u]);rw[c3]at e;split at e
      ·rename_i T6;split at e
       ·rename_i M A;cases e;exact⟨⟨T6,A⟩,L,N⟩
       ·cases e
      ·exact(yD (D:=D) (j:=j) (k:=k) (aN:=aN) (w:=w) f8 N e).congr L
     ·simp at e
    ·simp at l
   |tmp t=>simp at l;exact rest _ rfl l.symm|const v=>simp at l;exact rest _ rfl l.symm|global g=>simp at l;exact rest _ rfl l.symm
  |invoke r m=>simp[gY]at l;exact rest _ rfl l.symm
 case convert s d x=>
  rw[c3]at l;split at l
  ·simp at l;exact rest _ rfl l.symm
  ·simp at l;exact p _ l.symm
 case makeMap t r=>cases r<;>simp[gY]at l<;>first|exact rest _ rfl l.symm|exact O _ l.symm
 case binOp op t x h U6=>
  rw[c3]at l;split at l
  ·split at l
   ·simp at l;subst l;simp[eB]at e
   ·simp at l
  ·simp at l;exact p _ l.symm
 case fieldAddr s x f=>
  split at l
  ·rw[jB]at l;split at l
   ·split at l
    ·simp only[sp,Zh]at l;obtain⟨_,rfl⟩:=l;simp[eB]at e
    ·simp at l
   ·simp at l
  ·simp at l
 case indexAddr t x i=>
  split at l
  ·split at l
   ·simp at l;subst l;simp[eB]at e
   ·simp at l
  ·split at l
   ·simp at l;subst l;simp[eB]at e
   ·simp at l
  ·simp at l
 all_goals first
  |(simp at l;first|exact rest _ rfl l.symm|exact p _ l.symm|exact O _ l.symm)|(split at l<;>first
    |(simp at l;subst l;simp[eB]at e;done)|(simp at l;done))
def wP{oper:Oper}{wr:List (Nat×Nat)}{c:fM}(a:gY C wr oper.op=some c){b:Nat}{ad:List (Nat×y)}{z:B y}{r:y×R}(e:iD c C b ad z=some r):jN oper.op C (fw wr ad z) b=some r:=by
 have rest:∀J,oper.op=J->c=.make wr J->jN oper.op C (fw wr ad z) b=some r:=by intro J A w;subst w;subst A;exact e
 have n:∀J,c=.eP wr J->jN oper.op C (fw wr ad z) b=some r:=by intro J u;subst u;simp[iD]at e
 have l:∀J,c=.dc wr J->jN oper.op C (fw wr ad z) b=some r:=by intro J u;subst u;simp[iD]at e
 obtain⟨dst,op,type,pos,after,guard⟩:=oper;cases op<;>simp only[gY]at a;case call p=>
  obtain⟨callee,args,bN⟩:=p;cases callee with
  |builtin b=>cases b<;>simp[gY]at a<;>first|exact l _ a.symm|exact n _ a.symm
  |value f=>
   cases f with
   |func g=>
    simp[gY]at a;split at a
    ·simp at a;subst a;simp[iD]at e
    ·simp at a
   |tmp t=>simp[gY]at a;exact l _ a.symm|const v=>simp[gY]at a;exact l _ a.symm|global g=>simp[gY]at a;exact l _ a.symm
  |invoke r m=>simp[gY]at a;exact l _ a.symm
 case convert s d x=>
  rw[c3]at a;split at a
  ·simp at a;exact l _ a.symm
  ·simp at a;exact n _ a.symm
 case makeMap t r=>cases r<;>simp[gY]at a<;>first|exact rest _ rfl a.symm|exact l _ a.symm
 case binOp op t x h G=>
  rw[c3]at a;split at a
  ·split at a
   ·simp at a;subst a;simp[iD]at e
   ·simp at a
  ·simp at a;exact n _ a.symm
 case fieldAddr s x f=>
  split at a
  ·rw[jB]at a;split at a
   ·split at a
    ·simp only[sp,Zh]at a;obtain⟨_,rfl⟩:=a;simp[iD]at e
    ·simp at a
   ·simp at a
  ·simp at a
 case indexAddr t x i=>
  split at a
  ·split at a
   ·simp at a;subst a;simp[iD]at e
   ·simp at a
  ·split at a
   ·simp at a;subst a;simp[iD]at e
   ·simp at a
  ·simp at a
 all_goals first
  |(simp at a;first|exact rest _ rfl a.symm|exact n _ a.symm|exact l _ a.symm)|(split at a<;>first
    |(simp at a;subst a;simp[iD]at e;done)|(simp at a;done))
def mr{α:Type}(J:Option α)(q:α->cA):fo J q=match J with|some a=>q a|none=>none:=by cases J<;>rfl
def EI(l:List (Nat×y))(E:Nat)(q:y->cA):tQ l E q=fo (cH l E) q:=by induction l with|nil=>rfl|cons p l U=>obtain⟨a,b⟩:=p;show(Bool.rec (tQ l E q) (q b) (Nat.beq a E))=fo (a8 (Nat.beq a E) (some b) (cH l E)) q;rw[U];cases Nat.beq a E<;>rfl
def QI(t:B y):∀(i:Nat) (q:y->cA),ws t i q=fo (t.get i) q:=by induction t with|nil=>intro i q;rfl|node v l r a b=>intro i q;cases i with|zero=>rfl|succ E=>show(Bool.rec (ws r (Nat.div E 2) q) (ws l (Nat.div E 2) q) (Nat.beq (Nat.mod E 2) 0))=fo (a8 (Nat.beq (Nat.mod E 2) 0) (l.get (Nat.div E 2)) (r.get (Nat.div E 2))) q;rw[a,b];cases Nat.beq (Nat.mod E 2) 0<;>rfl
def PX(x:gc)(ad:List (Nat×y))(z:B y)(q:y->cA):nV x ad z q=fo (gD x ad z) q:=by cases x with|v E=>exact EI ad E q|t n=>exact QI z n q|c a=>rfl
def wi:∀(l:List (Nat×Nat)) (ad:List (Nat×y)) (z:B y) (q:B y->cA),uf l ad z q=fo (nY ad l z) q:=by intro l;induction l with|nil=>intro ad z q;rfl|cons p l U=>intro ad z q;obtain⟨i,d⟩:=p;show tQ ad i (λv=>fx (B.set z d (some v)) λz=>uf l ad z q)=_;rw[EI];simp only[nY];cases cH ad i with|none=>rfl|some v=>simp;exact U _ _ _
def xH(g:Option (Nat×Bool))(ad:List (Nat×y))(a b:cA):IF g ad a b=fo (jI g ad) λw=>if w=true then a else b:=by cases g with|none=>rfl|some p=>show fo (jI (some p) ad) (λw=>Bool.rec b a w)=_;congr 1;funext w;cases w<;>rfl
def w6(op:fM)(j:B R)(k:Nat)(ad:List (Nat×y))(z:B y)(S:y->B R->Nat->cA)(a:cj->cA):
 Bb op C j k ad z S a=match hz op with
  | .eP=>fo (eb op C j ad z) λv=>S v j k| .make=>fo (wO op C j k ad z) a| .dc=>fo (eB op C j k ad z) a:=by
 cases op<;>simp only[Bb,hz,PX,eb,mr]<;>(try rfl);all_goals(split<;>first|rfl|(split<;>simp_all))
def ot:List Oper->Nat->List (Nat×Nat)->List (Nat×Nat)
 |[],_,wr=>wr|J::l,i,wr=>ot l (i+1) (nH J i wr)
def e0(ae:Array Oper)(i:Nat):List (Nat×Nat):=ot (ae.toList.take i) 0 []
def adb(a:List Oper):∀(b:List Oper) (i:Nat) (wr:List (Nat×Nat)),ot (a++b) i wr=ot b (i+a.length) (ot a i wr):=by induction a with|nil=>intro b i wr;rfl|cons J a U=>intro b i wr;simp only[YA,ot,U,ZI];grind
def vf{ae:Array Oper}{i:Nat}{J:Oper}(e:ae[i]? =some J):e0 ae (i+1)=nH J i (e0 ae i):=by
 have a:ae.toList[i]? =some J:=by grind
 have b:=(Ze.1 a).1;unfold e0;rw[ZE,a,adb];have:(ae.toList.take i).length=i:=by simp at b ⊢;omega
 rw[this];simp[ot]
def BQ(ae:Array Oper):e0 ae 0=[]:=rfl
def k2(ae:Array Oper)(E:Nat):Option Nat:=(ae[E]?).bind (·.dst)
def ub{ae:Array Oper}{i:Nat}{J:Oper}(e:ae[i]? =some J):k2 ae i=J.dst:=by simp[k2,e]
def NU{J:Oper}{i E:Nat}{wr:List (Nat×Nat)}:mY E (nH J i wr)=if i=E/\J.dst.isSome then J.dst else mY E wr:=by
 unfold nH;split
 ·rename_i d al;simp only[mY,er,al];grind
 ·grind
def sj{J:Oper}{i t:Nat}{wr:List (Nat×Nat)}:cH (nH J i wr) t=if J.dst=some t then some i else cH wr t:=by
 unfold nH;split
 ·rename_i d al;rw[kq,al];grind
 ·grind
def vg(ae:Array Oper):∀i,i<=ae.size->(∀E t,mY E (e0 ae i)=some t->k2 ae E=some t)/\
 (∀t E,cH (e0 ae i) t=some E->E<i/\k2 ae E=some t/\∀q,E<q->q<i->k2 ae q≠some t)/\(∀t,cH (e0 ae i) t=none->∀q,q<i->k2 ae q≠some t):=by
 intro i;induction i with
 |zero=>intro _;rw[BQ];exact⟨λE t e=>by simp[mY]at e,λt E e=>by simp at e,λt _ q c=>Zo⟩|succ i U=>
  intro af;obtain⟨d,f,b⟩:=U Zo;have a:ae[i]? =some ae[i]:=Y2 Zo;rw[vf a];have al:=ub a;refine⟨λE t e=> ?_,λt E e=> ?_,λt e q c=> ?_⟩
  ·rw[NU]at e;grind
  ·rw[sj]at e;grind
  ·rw[sj]at e;split at e
   ·cases e
   ·rename_i u;by_cases V:q=i
    ·subst V;rw[al];exact u
    ·exact b t e q Zo
def gK(tmps:Array Value):Operand->Value
 | .tmp t=>tmps.getD t Go.undef| .const v=>v| .global g=> .pointer (some ⟨g,0,none⟩)| .func f=> .func (.func f) #[] #[]
def FB(fr:Frame):fr.eval=gK fr.tmps:=by rfl
def iS(D:bT)(Q:Nat->Prop)(ac:Nat)(X:Nat->Prop)(wr:List (Nat×Nat))(ad:List (Nat×y))(z:B y)(tmps:Array Value):Prop:=
 ∀t v,X t->(match cH wr t with|some E=>cH ad E=some v|none=>dj ac t=true/\z.get t=some v)->tmps[t]? =some (aq D v)/\bp Q v
def kT(C:ai)(D:bT)(Q:Nat->Prop):Prop:=∀g,g<C.i6->Q g/\(D g).bx=g/\(D g).cm=0
def TL{ac:Nat}{wr:List (Nat×Nat)}:∀{l:List Operand},ri C ac wr l=true->∀x∈l,s6 C ac wr x=true:=by intro l;induction l with|nil=>grind|cons a l U=>intro e x b;simp only[ri,Zt]at e;grind
def Fy{ac:Nat}{X:Nat->Prop}{wr:List (Nat×Nat)}{ad:List (Nat×y)}{z:B y}{tmps:Array Value}(w:iS D Q ac X wr ad z tmps){l:List Operand}(p:∀t,Operand.tmp t∈l->X t)(s:ri C ac wr l=true)
 (n:kT C D Q):fq D Q (gK tmps) (fw wr ad z) l:=by
 intro x b v e;have a:=TL s x b;cases x with
 |tmp t=>
  have:=w t v (p t b) (by
   simp only[fw]at e;simp only[s6]at a;split at e
   ·grind
   ·rename_i r;rw[r]at a ⊢;exact⟨a,e⟩)
  exact⟨by simp[gK,this.1],this.2⟩
 |const c=>exact w1 e|global g=>simp[fw]at e;subst e;obtain⟨d,i,m⟩:=n g (ht a);exact⟨by simp[gK,aq,i,m],d⟩
 |func f=>simp[fw]at e;subst e;exact⟨by simp[gK,aq,hN,bd],trivial,trivial,trivial⟩
end
end
end Go.aC
