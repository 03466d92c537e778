/- Part of the proof of the last text; no conditions -/
import Derived.Test.YtbbkkkpgjaopkaaGreatDoorYb
import Derived.Laws.NewFold
import Derived.Laws.CopyRow
import Derived.Laws.RangeString
set_option maxHeartbeats 8000000
set_option linter.all false
namespace Go.bp
open Go.RowKit (Below)
def fq{C:aM}{h:R ag}{b:Nat}(V:Option ag)(aj:C.a6<=b)(x:Nat):Z C (bn C h b V) x=if x=b then V else Z C h x:=by
 unfold Z bn
 rw[eU,eU]
 by_cases af:Nat.blt x C.a6=true
 ·have:=kX af
  rw[Zp af,Zp af,Zg Zo]
 ·have qe:C.a6<=x:=by
   rcases ze x C.a6 with a|a
   ·exact absurd (by simp[Nat.blt];omega) af
   ·exact a
  rw[Zg af,Zg af,R.jF]
  show(if b-C.a6=x-C.a6 then V else h.get (x-C.a6))=_
  by_cases B:x=b
  ·rw[Zp Zo,Zp B]
  ·rw[Zg Zo,Zg B];rfl
def X9{C:aM}:∀(k:List Nat) (h:R ag) (x:Nat),(∀b∈k,C.a6<=b)->Z C (k4 C k h) x=if x∈k then none else Z C h x:=by
 intro k
 induction k with
 |nil=>intro h x _;simp[k4]
 |cons b k ah=>
  intro h x a
  simp only[k4]
  rw[ah _ _ (λc ay=>a c (by simp[ay])),fq _ (a b Zs)]
  by_cases af:x∈k
  ·simp[af]
  ·by_cases B:x=b
   ·simp[B]
   ·simp[af,B]
def fY(J:cQ)(b:Nat)(pl:lU):cQ:=λx=>if x=b then pl else J x
def add(Y:Nat->Prop)(b:Nat):Nat->Prop:=λx=>Y x\/x=b
structure hZ(C:aM)(c0:Nat)(J:cQ)(Y:Nat->Prop)(h:R ag)(bd:Nat)(w:World)(cX:cQ)(dg:Nat->Prop)(S:R ag)(bO:World):Prop where
 ic:∀b,Y b->cX b=J b
 i6:∀b,Y b->dg b
 new:∀b,dg b->Y b\/c0<=b
 ad:∀b,¬Y b->b<c0->Z C S b=Z C h b
 below:Below bd w bO
def hZ.refl{C:aM}{c0:Nat}{J:cQ}{Y:Nat->Prop}{h:R ag}{bd:Nat}{w:World}:hZ C c0 J Y h bd w J Y h w:=
 ⟨λ_ _=>rfl,λ_ a=>a,λ_ a=> .inl a,λ_ _ _=>rfl, .refl _ _⟩
def hZ.trans{C:aM}{c0 IH:Nat}{J cX ael:cQ}{Y dg Tl:Nat->Prop}{h S U6:R ag}{bd:Nat}{w bO adV:World}(a:hZ C c0 J Y h bd w cX dg S bO)(az:c0<=IH)
 (o:hZ C IH cX dg S bd bO ael Tl U6 adV):hZ C c0 J Y h bd w ael Tl U6 adV:=
 ⟨λb aj=>(o.ic b (a.i6 b aj)).trans (a.ic b aj),λb aj=>o.i6 b (a.i6 b aj),
  λb aj=>(o.new b aj).elim (λaj=>a.new b aj) (λaj=> .inr Zo),
  λb aj gY=>by
   have aL:¬dg b:=λaI=>(a.new b aI).elim aj (λal=>Zo)
   rw[o.ad b aL Zo,a.ad b aj gY],
  a.below.trans o.below⟩
section
variable{C:aM}{J cX:cQ}{Y dg:Nat->Prop}{h S:R ag}{j aq bd:Nat}{w bO:World}
def pR(dt:∀b,Y b->cX b=J b){v:z}(g:b2 Y v):aJ cX v=aJ J v:=Ov dt v g
def wx(dt:∀b,Y b->cX b=J b){k:List z}(g:d2 Y k):bP cX k=bP J k:=D1 dt k g
def iM.ad{n am:Nat}{H:R z}{tmps:Array Value}(dt:∀b,Y b->cX b=J b)(f1:∀b,Y b->dg b)(a:iM J Y n am H tmps):iM cX dg n am H tmps:=
 ⟨a.size,λt v az bt=>by
  obtain⟨I,M⟩:=a.val t v az bt
  exact⟨by rw[I,pR dt M],ou f1 v M⟩⟩
def Oj(dt:∀b,Y b->cX b=J b){d:he}(g:u3 Y d):lg cX d=lg J d:=by
 obtain⟨t,cf⟩:=d
 obtain⟨cb,b5⟩:=g
 simp only[lg,wx dt b5]
 congr 1
 cases t with
 |fn fn cs=>
  obtain⟨I,M⟩:=cb
  have B:mn cX fn=mn J fn:=by
   cases fn<;>simp only[mn]
   rw[dt _ I]
  simp only[Bc,B,wx dt M]
 |collected r=>simp only[Bc,dt r cb]
def W3(f1:∀b,Y b->dg b){d:he}(g:u3 Y d):u3 dg d:=by
 obtain⟨t,cf⟩:=d
 refine⟨?_,qF f1 _ g.2⟩
 cases t with
 |fn fn cs=>exact⟨by cases fn<;>first|exact f1 _ g.1.1|exact g.1.1,qF f1 _ g.1.2⟩
 |collected r=>exact f1 _ g.1
def jC.ad{V:ag}{pl:lU}(dt:∀b,Y b->cX b=J b)(f1:∀b,Y b->dg b)(bQ:bO.heap[pl.cz]? =w.heap[pl.cz]?)(a:jC C J Y V pl w):jC C cX dg V pl bO:=by
 cases V with
 |cells c n st=>
  obtain⟨b7,ty,bL,aE,I,M,ak,aA⟩:=a
  refine⟨b7,ty,bL,aE,by rw[bQ,I],M,ak,λi v bt=> ?_⟩
  obtain⟨bq,bV⟩:=aA i v bt
  exact⟨by rw[bq,pR dt bV],ou f1 v bV⟩
 |map b3 fF=>
  obtain⟨b7,I,M,ak⟩:=a
  refine⟨b7,by rw[bQ,I], ?_,λB bl=>⟨ou f1 _ (ak B bl).1,ou f1 _ (ak B bl).2⟩⟩
  rw[M]
  apply YB
  intro B bl
  simp only[lk,pR dt (ak B bl).1,pR dt (ak B bl).2]
 |look b3=>
  obtain⟨b7,fF,lF,I,M,aA,ak⟩:=a
  refine⟨b7,fF,lF,by rw[bQ,I], ?_,aA,λB bl=>⟨ou f1 _ (ak B bl).1,ou f1 _ (ak B bl).2⟩⟩
  rw[M]
  apply YB
  intro B bl
  simp only[lk,pR dt (ak B bl).1,pR dt (ak B bl).2]
 |nZ s pos=>exact⟨a.1,by rw[bQ,a.2.1],a.2.2⟩
 |xs m ux seen st=>
  obtain⟨a2,I,M⟩:=a
  refine⟨a2, ?_,λb aj=>f1 b (M b aj)⟩
  rw[bQ,I]
  cases m with
  |none=>rfl
  |some m=>simp only[ZR,dt m (M m rfl)]
 |Fo m ux n cD st mT=>
  obtain⟨a2,I,seen,M,ak⟩:=a
  exact⟨a2,f1 m I,seen,by rw[bQ,M,dt m I],ak⟩
 |loop state pending fn n am H params assign body aW=>
  obtain⟨tmps,I,M,ak,aA⟩:=a
  exact⟨tmps,by rw[bQ,I,dt aW ak],M.ad dt f1,f1 _ ak,aA⟩
 |deferred pd=>
  obtain⟨I,M⟩:=a
  refine⟨?_,λk az d aI=>W3 f1 (M k az d aI)⟩
  rw[bQ,I]
  cases pd with
  |none=>rfl
  |some k=>
   simp only[ZR]
   congr 3
   exact YB λd aI=>(Oj dt (M k rfl d aI)).symm
def jC.lt{V:ag}{pl:lU}(a:jC C J Y V pl w):pl.cz<w.heap.size:=by
 have:∃x,w.heap[pl.cz]? =some x:=by
  cases V with
  |cells c n st=>obtain⟨b7,ty,bL,aE,I,_⟩:=a;exact⟨_,I⟩
  |map b3 fF=>obtain⟨b7,I,_⟩:=a;exact⟨_,I⟩
  |look b3=>obtain⟨b7,fF,lF,I,_⟩:=a;exact⟨_,I⟩
  |nZ s pos=>exact⟨_,a.2.1⟩
  |xs m ux seen st=>exact⟨_,a.2.1⟩
  |Fo m ux n cD st mT=>obtain⟨_,_,seen,I,_⟩:=a;exact⟨_,I⟩
  |loop state pending fn n am H params assign body aW=>obtain⟨tmps,I,_⟩:=a;exact⟨_,I⟩
  |deferred pd=>exact⟨_,a.1⟩
 obtain⟨x,af⟩:=this
 exact(ZM.1 af).1
def c9.alloc(U:c9 C J Y h j bd w){b:Nat}{pl:lU}{cE:ag}{V:Obj}(aj:C.a6<=b)(cO:b<aq)(an6:j<=aq)(aL:¬Y b)(eB:bd<=w.heap.size)(rL:pl.cz=w.heap.size)
 (iR:Z C S b=some cE)(K1:∀x,x≠b->Z C S x=Z C h x\/Z C S x=none)(bb:jC C (fY J b pl) (add Y b) cE pl (w.alloc V))(nN:uK C (add Y b) cE):
 c9 C (fY J b pl) (add Y b) S aq bd (w.alloc V):=by
 have dt:∀x,Y x->fY J b pl x=J x:=λx af=>by
  unfold fY;rw[Zg];intro B;subst B;exact aL af
 have jb:fY J b pl b=pl:=by unfold fY;rw[Zp rfl]
 have QD:∀o,o<w.heap.size->(w.alloc V).heap[o]? =w.heap[o]? :=λo aG=>Below.heap_alloc _ _ _ aG
 have key:∀x de,Z C S x=some de->add Y b x->x≠b->Z C h x=some de/\Y x/\(J x).cz<w.heap.size:=by
  intro x de af aI c5
  have rD:Y x:=aI.resolve_right c5
  rcases K1 x c5 with a|a
  ·have:Z C h x=some de:=by rw[<-a,af]
   exact⟨this,rD,(U.obj x de this rD).lt⟩
  ·rw[a]at af;cases af
 refine⟨ZA U.a6 an6, ?_, ?_, ?_, ?_, ?_, ?_⟩
 ·intro x af
  rcases af with af|af
  ·have:=U.lt x af;omega
  ·omega
 ·intro x de af
  by_cases B:x=b
  ·omega
  ·rcases K1 x B with a|a
   ·have:=U.ur x de (by rw[<-a,af]);omega
   ·rw[a]at af;cases af
 ·intro x de af aI
  by_cases B:x=b
  ·subst B
   rw[iR]at af;cases af
   rw[jb];exact bb
  ·obtain⟨I,M,ak⟩:=key x de af aI B
   rw[dt x M]
   exact(U.obj x de I M).ad dt (λ_ a=> .inl a) (QD _ ak)
 ·intro x e de py af F dq ol c5 lw fp
  by_cases B:x=b
  ·subst B
   by_cases cg:e=x
   ·exact absurd cg.symm c5
   ·obtain⟨I,M,ak⟩:=key e py F ol cg
    rw[jb,dt e M]at fp
    omega
  ·obtain⟨I,M,ak⟩:=key x de af dq B
   by_cases cg:e=b
   ·subst cg
    rw[jb,dt x M]at fp
    omega
   ·obtain⟨aA,bq,bV⟩:=key e py F ol cg
    rw[dt x M,dt e bq]at fp ⊢
    exact U.sep x e de py I aA M bq c5 lw fp
 ·intro x de lw af aI
  by_cases B:x=b
  ·subst B;rw[jb];omega
  ·obtain⟨I,M,ak⟩:=key x de af aI B
   rw[dt x M]
   exact U.base x de lw I M
 ·intro x de af aI
  by_cases B:x=b
  ·subst B;rw[iR]at af;cases af;exact nN
  ·obtain⟨I,M,ak⟩:=key x de af aI B
   refine⟨λc n k az e F=> ?_,(U.eb x de I M).2⟩
   obtain⟨cb,b5⟩:=(U.eb x de I M).1 c n k az e F
   exact⟨.inl cb,b5⟩
def c9.WE(U:c9 C J Y h j bd w)(iR:∀x,Z C S x=Z C h x\/Z C S x=none):c9 C J Y S j bd w:=by
 have key:∀x de,Z C S x=some de->Z C h x=some de:=by
  intro x de af
  rcases iR x with a|a
  ·rw[<-a,af]
  ·rw[a]at af;cases af
 exact⟨U.a6,U.lt,λx de af=>U.ur x de (key x de af),λx de af aI=>U.obj x de (key x de af) aI,
  λx e de py af F dq ol c5 lw fp=>U.sep x e de py (key x de af) (key e py F) dq ol c5 lw fp,λx de lw af aI=>U.base x de lw (key x de af) aI,λx de af aI=>U.eb x de (key x de af) aI⟩
def c9.put(U:c9 C J Y h j bd w){b:Nat}{cE nU:ag}(aj:C.a6<=b)(aI:Y b)(hi:Z C h b=some cE)(iR:Z C S b=some nU)
 (K1:∀x,x≠b->Z C S x=Z C h x\/Z C S x=none)(bQ:∀o,o≠(J b).cz->bO.heap[o]? =w.heap[o]?)
 (lu:∀x de,x≠b->Z C S x=some de->Y x->(J x).cz=(J b).cz->False)(bb:jC C J Y nU (J b) bO)(nN:uK C Y nU):c9 C J Y S j bd bO:=by
 have key:∀x de,x≠b->Z C S x=some de->Z C h x=some de:=by
  intro x de c5 af
  rcases K1 x c5 with a|a
  ·rw[<-a,af]
  ·rw[a]at af;cases af
 refine⟨U.a6,U.lt, ?_, ?_, ?_, ?_, ?_⟩
 ·intro x de af
  by_cases B:x=b
  ·subst B;exact U.lt x aI
  ·exact U.ur x de (key x de B af)
 ·intro x de af dq
  by_cases B:x=b
  ·subst B;rw[iR]at af;cases af;exact bb
  ·exact(U.obj x de (key x de B af) dq).ad (λ_ _=>rfl) (λ_ a=>a) (bQ _ λal=>lu x de B af dq al)
 ·intro x e de py af F dq ol c5 lw fp
  by_cases B:x=b
  ·subst B
   exact(lu e py (λal=>c5 al.symm) F ol fp.symm).elim
  ·by_cases cg:e=b
   ·subst cg;exact(lu x de B af dq fp).elim
   ·exact U.sep x e de py (key x de B af) (key e py cg F) dq ol c5 lw fp
 ·intro x de lw af dq
  by_cases B:x=b
  ·subst B;exact U.base x cE lw hi aI
  ·exact U.base x de lw (key x de B af) dq
 ·intro x de af dq
  by_cases B:x=b
  ·subst B;rw[iR]at af;cases af;exact nN
  ·exact U.eb x de (key x de B af) dq
def JJ(V:ag):Prop:=(∀c n,V≠ .cells c n .jA)/\(∀c n k,V≠ .cells c n (.grow k))
def c9.alone(U:c9 C J Y h j bd w){b:Nat}{cE:ag}(aj:C.a6<=b)(aI:Y b)(hi:Z C h b=some cE)(aC:JJ cE):
 ∀x de,x≠b->Z C h x=some de->Y x->(J x).cz=(J b).cz->False:=by
 intro x de c5 af dq fp
 rcases(U.sep b x cE de hi af aI dq (λal=>c5 al.symm) aj fp.symm).1 with ⟨c,n,_,_,al,_⟩|⟨c,n,k,_,_,al,_⟩|⟨_,_,_,c,n,_,al,_⟩
 ·exact aC.1 _ _ al
 ·exact aC.2 _ _ _ al
 ·exact aC.1 _ _ al
end
section
variable{C:aM}{J cX:cQ}{Y dg:Nat->Prop}{h S:R ag}{j aq bd:Nat}{w bO:World}
def tW(w:World)(V:Obj):(w.alloc V).heap[w.heap.size]? =some V:=by
 show(w.heap.push V)[w.heap.size]? =_
 simp
def kU(J:cQ)(b:Nat)(pl:lU):fY J b pl b=pl:=by unfold fY;rw[Zp rfl]
def qs{b:Nat}{pl:lU}(aL:¬Y b):∀x,Y x->fY J b pl x=J x:=λx af=>by
 unfold fY;rw[Zg];intro B;subst B;exact aL af
def jo(J:cQ)(k:List z):(bP J k).length=k.length:=by rw[pe,Zr]
def yl(J:cQ)(k:List z)(i:Nat):(bP J k)[i]? =(k[i]?).map (aJ J):=by rw[pe,Zw]
def Bd(J:cQ)(D b:List z):bP J (D++b)=bP J D++bP J b:=by simp[pe]
def yz{D b:List z}(aC:d2 Y D)(aj:d2 Y b):d2 Y (D++b):=by
 rw[tI]at*
 intro v bt
 rcases Zy.1 bt with a|a
 ·exact aC v a
 ·exact aj v a
def yA{k:List z}(a:d2 Y k){i:Nat}{v:z}(bt:k[i]? =some v):b2 Y v:=(tI Y k).1 a v (Zl bt)
def lO(k:List z)(i:Nat):(R.ofList k 0 .nil).get i=k[i]? :=by
 rw[R.KL]
 split
 ·simp
 ·rename_i a
  have:k.length<=i:=Zo
  rw[ZT this];rfl
def Kh{k:List z}(g:d2 Y k)(ty:TypeId)(r:Nat)(w:World):jC C J Y (.cells (R.ofList k 0 .nil) k.length .own) ⟨w.heap.size,0,r⟩ (w.alloc (.cells (bP J k).toArray ty)):=by
 refine⟨_,ty,0,0,tW _ _,rfl,by simp[jo],λi v bt=> ?_⟩
 rw[lO]at bt
 refine⟨?_,yA g bt⟩
 simp only[ZQ,List.getElem?_toArray,yl,bt,ZR]
def CR(n:Nat)(br:List z):(kp n br).length=n*br.length:=by
 induction n with
 |zero=>simp[kp]
 |succ n ah=>simp[kp,ah,Nat.succ_mul,zo]
def ati(br:List z):∀(n i:Nat),i<n*br.length->(kp n br)[i]? =br[i%br.length]? :=by
 intro n
 induction n with
 |zero=>intro i a;omega
 |succ n ah=>
  intro i a
  simp only[kp]
  rw[Nat.succ_mul]at a
  by_cases aE:i<br.length
  ·rw[Z2 aE,YE aE]
  ·rw[ZF Zo,ah _ Zo]
   congr 1
   exact(Nat.mod_eq_sub_mod Zo).symm
def Pn{br:List z}(a:d2 Y br):∀n,d2 Y (kp n br):=by
 intro n
 induction n with
 |zero=>trivial
 |succ n ah=>exact yz a ah
def ac6(J:cQ)(br:List z)(n:Nat):((Array.range (n*br.length)).map λi=>(bP J br).toArray[i%br.length]!)=(bP J (kp n br)).toArray:=by
 apply YZ
 rw[Array.toList_map,Array.toList_range]
 show _=bP J (kp n br)
 apply YH
 intro i
 rw[Zw,yl]
 by_cases aE:i<n*br.length
 ·rw[List.getElem?_range aE,ati br n i aE]
  have ce:0<br.length:=by
   rcases Nat.eq_zero_or_pos br.length with a|a
   ·rw[a]at aE;omega
   ·exact a
  have aX:i%br.length<br.length:=Nat.mod_lt _ ce
  simp only[ZR]
  rw[Zf aX]
  simp only[ZR,Ze]
  rw[getElem!_pos _ _ (by simpa[jo]using aX)]
  simp[pe]
 ·have I:(List.range (n*br.length))[i]? =none:=ZT Zx
  have M:(kp n br)[i]? =none:=ZT (by rw[CR];omega)
  rw[I,M];rfl
def ac7(J:cQ)(br:List z)(s n:Nat)(ce:br.length=s)(zero:Array Value)(a2:n*s≠0->zero=(bP J br).toArray):
 ((Array.range (n*s)).map (zero[·%zero.size]!))=(bP J (kp n br)).toArray:=by
 subst ce
 by_cases a:n*br.length=0
 ·have I:kp n br=[]:=YW.1 (by rw[CR];exact a)
  rw[a,I];simp[bP]
 ·rw[a2 a, <-ac6]
  simp[jo]
def ab2{oper:Oper}{aw:Operand->Value}{d5:Operand->Option z}{b:Nat}{v:z}{cE:ag}(aL:¬Y b)(cv:iL J Y aw d5 oper.op.operands.toList)
 (a:pP oper.op C d5 b=some (v,cE)):∃V,(execOp aw oper).run C.P w= .ok (.value (aJ (fY J b ⟨w.heap.size,0,0⟩) v)) (w.alloc V)/\b2 (add Y b) v/\
  jC C (fY J b ⟨w.heap.size,0,0⟩) (add Y b) cE ⟨w.heap.size,0,0⟩ (w.alloc V):=by
 have dt:=qs (J:=J) (pl:=⟨w.heap.size,0,0⟩) aL
 have f1:∀x,Y x->add Y b x:=λ_ a=> .inl a
 obtain⟨dst,op,type,pos,after,guard⟩:=oper
 cases op<;>simp only[pP]at a<;>(try(cases a;done))<;>simp only[execOp]<;>simp only[Op.operands]at cv
 case alloc t=>
  unfold Cp at a
  split at a
  ·rename_i br ce
   simp at a;obtain⟨rfl,rfl⟩:=a
   obtain⟨g4,gK⟩:=CU ce J Y w
   refine⟨.cells (bP J br.cells).toArray t, ?_, .inr rfl, ?_⟩
   ·simp[Instr.alloc,g4,newVar,newRow,tw,aJ,kU]
   ·have:=Kh (C:=C) (J:=fY J b ⟨w.heap.size,0,0⟩) (Y:=add Y b) (qF f1 _ (tx gK)) t 0 w
    rw[wx dt (tx gK)]at this
    exact this
  ·simp at a
 case box t x=>
  unfold IK at a
  split at a
  ·rename_i aa aU
   simp at a;obtain⟨rfl,rfl⟩:=a
   obtain⟨I,M⟩:=cv x Zs aa aU
   refine⟨.cells (bP J aa.cells).toArray t, ?_, .inr rfl, ?_⟩
   ·simp[Instr.box,newVar,newRow,I,tw,aJ,kU]
   ·have:=Kh (C:=C) (J:=fY J b ⟨w.heap.size,0,0⟩) (Y:=add Y b) (qF f1 _ (tx M)) t 0 w
    rw[wx dt (tx M)]at this
    exact this
  ·simp at a
 case buildSlice t len jy=>
  unfold IL at a
  split at a
  ·rename_i dU db aU QJ
   split at a
   ·rename_i s br aD ce
    simp only[ey,Zn]at a
    obtain⟨⟨I,M⟩,a⟩:=a
    have I:len*s<=16777216:=iN I
    have M:br.cells.length=s:=Zj M
    split at a
    ·rename_i cs hA
     simp at a;obtain⟨rfl,rfl⟩:=a
     obtain⟨g4,gK⟩:=CU ce J Y w
     obtain⟨fg,hc⟩:=Wz (by simpa using cv) QJ
     obtain⟨ez,e5⟩:=OW (J:=J) (I5:=λi=>some (i*s,s)) (λ_ _ a=>a) db (kp len br.cells) cs (Pn (tx gK) len) hc hA
     refine⟨.cells (bP J cs).toArray dU, ?_, .inr rfl, ?_⟩
     ·have B:(jy.map λx=>(x.1,aw x.2)).toList=db.map λx=>(x.1,aJ J x.2):=by rw[<-fg];simp
      have fH:¬(len*s>2^24):=by
       have:(2:Nat)^24=16777216:=by decide
       omega
      have ch:Instr.fill (λi=>some (i*s,s)) ((Array.range (len*s)).map ((if len*s=0 then #[]else(aJ J br).cells)[·%(if len*s=0 then #[]else(aJ J br).cells).size]!)) (jy.map λx=>(x.1,aw x.2)).toList=some (bP J cs).toArray:=by
       rw[ac7 J br.cells s len M _ (λc5=>by rw[Zg c5,tw]),B]
       exact ez
      simp only[Instr.buildSlice,Sem.run_bind,run_underlying aU,Result.andThen_ok,oX aD]
      rw[Zg fH]
      by_cases a2:len*s=0
      ·rw[Zp a2]at ch
       simp only[Zp a2,Sem.run_bind,Sem.run_pure,Result.andThen_ok,ch]
       simp[newRow,aJ,kU]
      ·simp only[Zg a2]at ch
       simp only[Zg a2,Sem.run_bind,Sem.run_pure,Result.andThen_ok,g4,ch]
       simp[newRow,aJ,kU]
     ·have:=Kh (C:=C) (J:=fY J b ⟨w.heap.size,0,0⟩) (Y:=add Y b) (qF f1 _ e5) dU 0 w
      rw[wx dt e5]at this
      exact this
    ·simp at a
   ·simp at a
  ·simp at a
 case makeMap t r=>
  cases r with
  |some r=>simp[pP]at a
  |none=>
   simp[pP]at a;obtain⟨rfl,rfl⟩:=a
   refine⟨.map #[] 0, ?_, .inr rfl, ?_⟩
   ·simp[Instr.makeMap,aJ,kU]
   ·exact⟨#[],tW _ _,rfl,Zs⟩
end
section
variable{C:aM}{J cX:cQ}{Y dg:Nat->Prop}{h S:R ag}{j aq bd:Nat}{w bO:World}
def kr:Array Value->Nat->List Value->Array Value
 |c,_,[]=>c
 |c,V,v::k=>kr (c.setIfInBounds V v) (V+1) k
def vS:∀(k:List Value) (c:Array Value) (V:Nat),(kr c V k).size=c.size:=by
 intro k
 induction k with
 |nil=>intro c V;rfl
 |cons v k ah=>intro c V;simp[kr,ah]
def SB:∀(k:List Value) (c:Array Value) (V i:Nat),V+k.length<=c.size->(kr c V k)[i]? =if V<=i/\i<V+k.length then k[i-V]? else c[i]? :=by
 intro k
 induction k with
 |nil=>intro c V i _;rw[Zg (by simp only[ZY];omega)];rfl
 |cons v k ah=>
  intro c V i a
  simp only[ZG]at a
  simp only[kr]
  rw[ah _ _ _ Zx]
  by_cases B:i=V
  ·subst B
   rw[Zg Zo,Zp Zs]
   have cO:i<c.size:=Zo
   simp[cO]
  ·by_cases al:V+1<=i/\i<V+1+k.length
   ·rw[Zp al,Zp Zx,show i-V=(i-(V+1))+1 by omega,ZZ]
   ·rw[Zg al,Zg (by simp only[ZG];omega),Array.getElem?_setIfInBounds_ne (λa=>B a.symm)]
def Su(P:Program)(g V:Nat)(t:TypeId)(bL aE:Nat):∀(bj:List Value) (i:Nat) (mT:Array Value) (w:World),w.heap[g]? =some (.cells mT t (bL,aE))->(aE<=bL\/mT.size<=bL)->
 V+i+bj.length<=mT.size->(∀v∈bj,v.oneCell'=true)->(storeCells ⟨g,V,none⟩ bj i).run P w= .ok () (w.setRow g (kr mT (V+i) bj)):=by
 intro bj
 induction bj with
 |nil=>
  intro i mT w bX _ _ _
  simp only[storeCells,kr]
  rw[setRow_self w g mT t _ bX];rfl
 |cons v bj ah=>
  intro i mT w bX ch az I
  simp only[ZG]at az
  have cO:V+i<mT.size:=Zo
  have HB:(⟨g,V,none⟩:Addr).add i=⟨g,V+i,none⟩:=qA _ _ _
  have m6:w.cell? ⟨g,V+i,none⟩=some mT[V+i]:=by simp[World.cell?,bX,cO]
  have ana:w.frozen? ⟨g,V+i,none⟩=false:=by
   simp only[World.frozen?,bX,Bool.and_eq_false_iff,Zc]
   omega
  have cK:(store ((⟨g,V,none⟩:Addr).add i) v).run P w= .ok () (w.setRow g (mT.setIfInBounds (V+i) v)):=by
   rw[HB,run_store P w _ v _ (I v Zs),m6]
   simp[ana,setCell_eq_setRow w g (V+i) mT t _ v bX]
  have:=ah (i+1) (mT.setIfInBounds (V+i) v) (w.setRow g (mT.setIfInBounds (V+i) v)) (setRow_heap w g mT _ t _ bX) (by simpa using ch) Zx (λx af=>I x (by simp[af]))
  simp only[storeCells,Sem.run_bind,cK,Result.andThen_ok,this,setRow_setRow,kr]
  rfl
def N8{p:Nat}(eB:bd<=p)(cs:Array Value)(w:World):Below bd w (w.setRow p cs):=
 ⟨rfl,rfl,rfl,by simp[World.setRow],λo aG=>setRow_other w p o cs Zo⟩
def acu:∀{bj:List z},iI bj=true->∀v∈bP J bj,v.oneCell'=true:=by
 intro bj
 induction bj with
 |nil=>intro _ v bt;simp[bP]at bt
 |cons D k ah=>
  intro a v bt
  simp only[iI,Zn]at a
  simp only[bP,Zq]at bt
  rcases bt with rfl|bt
  ·cases D<;>simp[nV]at a<;>rfl
  ·exact ah a.2 v bt
def aed{c:R z}{b7:Array Value}{dO V n:Nat}{bj:List z}(bX:d2 Y bj)(bb:V+bj.length<=n)(aL:dO+n<=b7.size)
 (a:∀i v,c.get i=some v->b7[dO+i]? =some (aJ J v)/\b2 Y v):
 ∀i v,(dP c V bj).get i=some v->(kr b7 (dO+V) (bP J bj))[dO+i]? =some (aJ J v)/\b2 Y v:=by
 intro i v bt
 rw[Tc,R.KL]at bt
 rw[SB _ _ _ _ (by rw[jo];omega),jo]
 split at bt
 ·rename_i aE
  rw[Zp Zo,yl,show dO+i-(dO+V)=i-V by omega,bt]
  exact⟨rfl,yA bX bt⟩
 ·rename_i aE
  rw[Zg Zo]
  exact a i v bt
def Ni{c:R z}{V n:Nat}{bj:List z}(bb:V+bj.length<=n)(a:∀i v,c.get i=some v->i<n):∀i v,(dP c V bj).get i=some v->i<n:=by
 intro i v bt
 rw[Tc,R.KL]at bt
 split at bt
 ·omega
 ·exact a i v bt
def Fy{k:List z}:∀i v,(R.ofList k 0 .nil).get i=some v->i<k.length:=by
 intro i v bt
 rw[lO]at bt
 exact(Zb.1 bt).1
def N0(U:c9 C J Y h j bd w){c0 b V:Nat}{bj:List z}(aI:Y b)(bX:d2 Y bj)(a:og C h b V bj=some S):
 ∃bO,(storeCells ⟨(J b).cz,(J b).dO+V,none⟩ (bP J bj)).run C.P w= .ok () bO/\c9 C J Y S j bd bO/\hZ C c0 J Y h bd w J Y S bO:=by
 unfold og at a
 split at a
 ·rename_i c n st bb
  simp only[ey,Zn]at a
  obtain⟨⟨⟨I,M⟩,ak⟩,a⟩:=a
  have I:V+bj.length<=n:=iN I
  have aj:C.a6<=b:=iN M
  obtain⟨b7,ty,bL,aE,bm,ct,a3,a4⟩:=U.obj b _ bb aI
  have jf:st≠ .jA:=λB=>(by subst B;simp at a)
  refine⟨w.setRow (J b).cz (kr b7 ((J b).dO+V) (bP J bj)), ?_, ?_⟩
  ·exact Su C.P _ _ ty bL aE (bP J bj) 0 b7 w bm (ct.free jf) (by rw[jo];omega) (acu ak)
  have fN:=setRow_heap w (J b).cz b7 (kr b7 ((J b).dO+V) (bP J bj)) ty (bL,aE) bm
  have yJ:=U.base b _ aj bb aI
  have HD:Below bd w (w.setRow (J b).cz (kr b7 ((J b).dO+V) (bP J bj))):=N8 yJ _ _
  have aav:∀o,o≠(J b).cz->(w.setRow (J b).cz (kr b7 ((J b).dO+V) (bP J bj))).heap[o]? =w.heap[o]? :=λo aG=>setRow_other w _ o _ aG
  have fin:∀gn,DG gn n (J b) b7.size bL aE->jC C J Y (.cells (dP c V bj) n gn) (J b) (w.setRow (J b).cz (kr b7 ((J b).dO+V) (bP J bj))):=by
   intro gn cK
   refine⟨_,ty,bL,aE,fN,by rw[vS];exact cK,by rw[vS];exact a3,aed bX I a3 a4⟩
  have plain:∀gn,JJ (.cells c n st)->DG gn n (J b) b7.size bL aE->(∀k,gn≠ .grow k)->S=bn C h b (some (.cells (dP c V bj) n gn))->
   c9 C J Y S j bd (w.setRow (J b).cz (kr b7 ((J b).dO+V) (bP J bj)))/\hZ C c0 J Y h bd w J Y S (w.setRow (J b).cz (kr b7 ((J b).dO+V) (bP J bj))):=by
   intro gn BE cK H5 iR
   subst iR
   have oG:Z C (bn C h b (some (.cells (dP c V bj) n gn))) b=some (.cells (dP c V bj) n gn):=by rw[fq _ aj,Zp rfl]
   have jd:∀x,x≠b->Z C (bn C h b (some (.cells (dP c V bj) n gn))) x=Z C h x:=λx af=>by rw[fq _ aj,Zg af]
   refine⟨U.put aj aI bb oG (λx af=> .inl (jd x af)) aav ?_ (fin gn cK) ⟨λgA aQ k az=>(by cases az;exact absurd rfl (H5 _)),λgA aQ auu az=>(by cases az;exact Ni I ((U.eb b _ bb aI).2 _ _ _ rfl))⟩, ?_⟩
   ·intro x de c5 af dq fp
    rw[jd x c5]at af
    exact U.alone aj aI bb BE x de c5 af dq fp
   ·exact⟨λ_ _=>rfl,λ_ a=>a,λ_ a=> .inl a,λx af _=>jd x (λB=>af (B▸aI)),HD⟩
  cases st with
  |own=>
   simp only[gB,Ze]at a
   exact plain .own ⟨Zs,Zs⟩ ct Zs a.symm
  |marked=>
   simp only[gB,Ze]at a
   exact plain .marked ⟨Zs,Zs⟩ ct Zs a.symm
  |grow eb=>
   simp only[gB,Ze]at a
   have nN:=(U.eb b _ bb aI).1 _ _ _ rfl
   subst a
   have oG:Z C (bn C (k4 C eb h) b (some (.cells (dP c V bj) n (.grow [])))) b=some (.cells (dP c V bj) n (.grow [])):=by rw[fq _ aj,Zp rfl]
   have jd:∀x,x≠b->Z C (bn C (k4 C eb h) b (some (.cells (dP c V bj) n (.grow [])))) x=if x∈eb then none else Z C h x:=λx af=>by
    rw[fq _ aj,Zg af,X9 _ _ _ λe F=>(nN e F).2]
   refine⟨U.put aj aI bb oG (λx af=> ?_) aav ?_ (fin (.grow []) ct) ⟨λgA aQ k az=>(by cases az;simp),λgA aQ auu az=>(by cases az;exact Ni I ((U.eb b _ bb aI).2 _ _ _ rfl))⟩, ?_⟩
   ·rw[jd x af];split
    ·exact .inr rfl
    ·exact .inl rfl
   ·intro x de c5 af dq fp
    rw[jd x c5]at af
    split at af
    ·cases af
    ·rename_i Qv
     rcases(U.sep b x _ de bb af aI dq (λal=>c5 al.symm) aj fp.symm).1 with ⟨_,_,_,_,al,_⟩|⟨_,_,k,_,_,al,_,az,_⟩|⟨_,_,_,_,_,_,al,_⟩
     ·cases al
     ·cases al;exact Qv az
     ·cases al
   ·exact⟨λ_ _=>rfl,λ_ a=>a,λ_ a=> .inl a,λx af _=>by
     rw[jd x (λB=>af (B▸aI)),Zg (λaX=>af (nN x aX).1)],HD⟩
  |jA=>simp at a
 ·simp at a
end
def xX(C:aM)(J:cQ)(Y:Nat->Prop)(h:R ag)(j bd:Nat)(w:World)(s:Sem Next)(v:z)(S:R ag)(aq:Nat):Prop:=
 ∃cX dg bO n,s.run C.P w= .ok n bO/\(n= .value (aJ cX v)\/(n= .skip/\v=undef))/\b2 dg v/\c9 C cX dg S aq bd bO/\hZ C j J Y h bd w cX dg S bO/\j<=aq
section
variable{C:aM}{J cX:cQ}{Y dg:Nat->Prop}{h S:R ag}{j aq bd:Nat}{w bO:World}
def putObj(U:c9 C J Y h j bd w){c0 b:Nat}{cE nU:ag}{j3 o':Obj}(aj:C.a6<=b)(aI:Y b)(hi:Z C h b=some cE)(aC:JJ cE)(a2:w.heap[(J b).cz]? =some j3)
 (an3:∀c B f,j3≠ .cells c B f)(bb:∀bO:World,bO.heap[(J b).cz]? =some o'->jC C J Y nU (J b) bO)(nN:uK C Y nU):
 ∃bO,(Go.setObj (J b).cz o').run C.P w= .ok () bO/\c9 C J Y (bn C h b (some nU)) j bd bO/\hZ C c0 J Y h bd w J Y (bn C h b (some nU)) bO:=by
 have nO:(Go.setObj (J b).cz o').run C.P w= .ok () {w with heap:=w.heap.setIfInBounds (J b).cz o'}:=by
  cases j3<;>first
   |exact absurd rfl (an3 _ _ _)
   |simp[Go.setObj,Sem.run,a2]
 obtain⟨bM,cq⟩:=MapKept.heap_set (o':=o') a2
 have oG:Z C (bn C h b (some nU)) b=some nU:=by rw[fq _ aj,Zp rfl]
 have jd:∀x,x≠b->Z C (bn C h b (some nU)) x=Z C h x:=λx af=>by rw[fq _ aj,Zg af]
 have yJ:=U.base b _ aj hi aI
 refine⟨_,nO,U.put aj aI hi oG (λx af=> .inl (jd x af)) (λo aG=>cq o aG) ?_ (bb _ bM) nN, ?_⟩
 ·intro x de c5 af dq fp
  rw[jd x c5]at af
  exact U.alone aj aI hi aC x de c5 af dq fp
 ·exact⟨λ_ _=>rfl,λ_ a=>a,λ_ a=> .inl a,λx af _=>jd x (λB=>af (B▸aI)),rfl,rfl,rfl,Zs,λo aG=>cq o Zo⟩
def SC{r:Nat}{V:ag}{v:z}{res:dI}(a:setObj C h j r V v=some res):res= .fl v (bn C h r (some V)) j/\C.a6<=r:=by
 unfold setObj at a
 simp only[gB,ey,Ze]at a
 exact⟨a.2.symm,iN a.1⟩
def acW(U:c9 C J Y h j bd w){c0 r:Nat}{b3 lF:List (z×z×Nat)}{fF GJ:Nat}{DQ:Array MapEntry}(aj:C.a6<=r)(aI:Y r)(bb:Z C h r=some (.map b3 fF))
 (aC:DQ.toList=lF.map (lk J))(bX:∀B∈lF,b2 Y B.1/\b2 Y B.2.1):
 ∃bO,(Go.setObj (J r).cz (.map DQ GJ)).run C.P w= .ok () bO/\c9 C J Y (bn C h r (some (.map lF GJ))) j bd bO/\hZ C c0 J Y h bd w J Y (bn C h r (some (.map lF GJ))) bO:=by
 obtain⟨b7,I,_,_⟩:=U.obj r _ bb aI
 exact putObj U aj aI bb ⟨Zs,Zs⟩ I Zs (λbO rS=>⟨DQ,rS,aC,bX⟩) ⟨λ_ _ _ a=>(by cases a),λ_ _ _ a=>(by cases a)⟩
def auU(U:c9 C J Y h j bd w){s:Nat}{t:TypeId}{D v:z}{res:dI}(aD:iK C t=some s)(ja:b2 Y D)(e9:b2 Y v)(a:M3 C h j s D v=some res):
 ∃S,res= .fl undef S j/\∀aa:Sem Next,(∀bO,(Instr.storeAt t (aJ J D) (aJ J v)).run C.P w= .ok () bO->aa.run C.P w= .ok .skip bO)->xX C J Y h j bd w aa undef S j:=by
 unfold M3 at a
 split at a
 ·rename_i b V
  simp only[ey,Zn]at a
  obtain⟨⟨I,M⟩,a⟩:=a
  have I:v.cells.length=s:=Zj I
  split at a
  ·rename_i S iR
   simp at a
   obtain⟨bO,bM,cq,df⟩:=N0 U (c0:=j) ja (tx e9) iR
   refine⟨S,a.symm,λaa aU=>⟨J,Y,bO, .skip,aU bO ?_, .inr ⟨rfl,rfl⟩,by trivial,cq,df,Zi _⟩⟩
   have d9:(aJ J v).cells.size=s:=by rw[tw];simp[jo,I]
   simp only[Instr.storeAt,Instr.sureAddr,aJ,Sem.run_bind,Sem.run_pure,Result.andThen_ok,storeVar,oX aD,d9,ne_eq,not_true_eq_false,ZD]
   simp only[tw]
   exact bM
  ·simp at a
 ·simp at a
def ap6:∀(n:Nat),(∀(m:Nat) (x e:z),n<=m->b2 Y x->b2 Y e->oO n x e=true->Instr.sameBits m (aJ J x) (aJ J e)=true)/\
 ∀(m:Nat) (D b:List z),n<=m->d2 Y D->d2 Y b->oO.Ad n D b=true->(bP J D).length=(bP J b).length/\((bP J D).zip (bP J b)).all (λ(x,e)=>Instr.sameBits m x e)=true:=by
 intro n
 induction n with
 |zero=>
  refine⟨λm x e _ _ _ a=>by simp[oO]at a, ?_⟩
  intro m D
  induction D with
  |nil=>intro b _ _ _ a;cases b<;>simp[oO.Ad]at a<;>simp[bP]
  |cons x D _=>intro b _ _ _ a;cases b<;>simp[oO.Ad,oO]at a
 |succ n ah=>
  have one:∀(m:Nat) (x e:z),n+1<=m->b2 Y x->b2 Y e->oO (n+1) x e=true->Instr.sameBits m (aJ J x) (aJ J e)=true:=by
   intro m x e aX fe tL a
   obtain⟨m,rfl⟩:∃o,m=o+1:=⟨m-1,Zo⟩
   unfold oO at a
   split at a<;>(try(cases a;done))
   ·simpa[aJ,Instr.sameBits]using a
   ·simp at a;obtain⟨rfl,rfl⟩:=a;simp[aJ,Instr.sameBits]
   ·rename_i D b
    have:=(IV _ _).1 a
    subst this
    simp only[aJ,Instr.sameBits]
    rw[VO];simp
   ·rename_i b V dT o'
    simp only[Zn]at a
    have I:b=dT:=Zj a.1
    have M:V=o':=Zj a.2
    subst I;subst M
    simp[aJ,Instr.sameBits]
   ·simp[aJ,Instr.sameBits]
   ·simp[aJ,Instr.sameBits]
   ·rename_i t v dC gp
    simp only[Zn]at a
    have I:t=dC:=Zj a.1
    subst I
    simp[aJ,Instr.sameBits,ah.1 m v gp Zo fe tL a.2]
   ·rename_i D b
    obtain⟨bM,cq⟩:=ah.2 m D b Zo fe tL a
    simp only[aJ,Instr.sameBits,Zn,Y1]
    exact⟨by simpa using bM,by simpa using cq⟩
  refine⟨one, ?_⟩
  intro m D
  induction D with
  |nil=>intro b _ _ _ a;cases b<;>simp[oO.Ad]at a<;>simp[bP]
  |cons x D l2=>
   intro b aX ja tG a
   cases b with
   |nil=>simp[oO.Ad]at a
   |cons e b=>
    simp only[oO.Ad,Zn]at a
    obtain⟨bM,cq⟩:=l2 b aX ja.2 tG.2 a.2
    simp only[bP,ZG,List.zip_cons_cons,List.all_cons,Zn]
    exact⟨Zo,one m x e aX ja.1 tG.1 a.1,cq⟩
def ap7{pw new:z}(go:b2 Y pw)(u2:b2 Y new)(a:oO 20 pw new=true):(Instr.keyThatStays (aJ J pw) (aJ J new)).run C.P w= .ok (aJ J new) w:=by
 simp[Instr.keyThatStays,(ap6 (J:=J) (Y:=Y) 20).1 10000 pw new Zd go u2 a]
def Wu{b7:Array MapEntry}{b3:List (z×z×Nat)}{i:Nat}{B:z×z×Nat}(aC:b7.toList=b3.map (lk J))(a:b3[i]? =some B):b7[i]? =some (lk J B):=by
 rw[<-ZO,aC,Zw,a];rfl
def arq{b7:Array MapEntry}{b3:List (z×z×Nat)}{i:Nat}{B f7:z×z×Nat}(f:MapEntry->MapEntry)(aC:b7.toList=b3.map (lk J))(a:b3[i]? =some B)
 (ch:f (lk J B)=lk J f7):(b7.modify i f).toList=(b3.set i f7).map (lk J):=by
 apply YH
 intro W
 rw[ZO,Y6,Zw,Z8]
 have cO:i<b3.length:=(Zb.1 a).1
 by_cases B:i=W
 ·subst B
  rw[Zp rfl,Zp rfl,Zp cO,Wu aC a]
  simp[ch]
 ·rw[Zg B,Zg B, <-ZO,aC,Zw]
def alx{b3:List (z×z×Nat)}{i:Nat}{f7:z×z×Nat}(bX:∀B∈b3,b2 Y B.1/\b2 Y B.2.1)(bl:b2 Y f7.1/\b2 Y f7.2.1):∀B∈b3.set i f7,b2 Y B.1/\b2 Y B.2.1:=by
 intro B a
 rcases YO a with a|a
 ·exact bX B a
 ·rw[a];exact bl
def ahW(U:c9 C J Y h j bd w){t:Nat}{m o v:z}{res:dI}(yy:b2 Y m)(nG:b2 Y o)(e9:b2 Y v)(a:Gu C h j t m o v=some res):
 ∃S bO,res= .fl undef S j/\(Instr.mapUpdate t (aJ J m) (aJ J o) (aJ J v)).run C.P w= .ok () bO/\c9 C J Y S j bd bO/\hZ C j J Y h bd w J Y S bO:=by
 unfold Gu at a
 split at a
 ·rename_i ji yr r aU
  split at a
  ·rename_i b3 fF bb
   simp only[ey]at a
   obtain⟨aG,a⟩:=a
   obtain⟨eS,Lm⟩:=abz aG
   obtain⟨b7,bm,ct,a3,a4⟩:=IN U yy bb
   have I:=Vk (C:=C) (J:=J) (Y:=Y) (w:=w) (B:=false) 20 10000 ji o Zd nG aG
   split at a
   ·rename_i i aa ch
    have M:=OY U Lm nG a4 ch
    obtain⟨_,B,bl,rfl⟩:=WK b3 0 i aa ch
    simp only[zf]at bl
    rw[qj,bl]at a
    obtain⟨eE,gp,born⟩:=B
    simp only[ey]at a
    obtain⟨φ,a⟩:=a
    obtain⟨rfl,aj⟩:=SC a
    have bX:=a4 _ (Zl bl)
    obtain⟨bO,bM,cq,df⟩:=acW U (c0:=j) aj yy bb (GJ:=fF) (lF:=b3.set i (o,v,born)) (arq (λB=>{B with key:=aJ J o,val:=aJ J v}) a3 bl rfl) (alx a4 ⟨nG,e9⟩)
    refine⟨_,bO,rfl, ?_,cq,df⟩
    simp[Instr.mapUpdate,run_underlying aU,aJ,bm,I,a3,M,tv,Wu a3 bl,lk,ap7 bX.1 nG φ,bM]
   ·rename_i ch
    have M:=OY U Lm nG a4 ch
    obtain⟨rfl,aj⟩:=SC a
    obtain⟨bO,bM,cq,df⟩:=acW U (c0:=j) aj yy bb (GJ:=fF+1) (lF:=b3++[(o,v,fF)]) (DQ:=b7.push {key:=aJ J o,val:=aJ J v,born:=fF}) (by simp[a3,lk])
     (λB bl=>(Zy.1 bl).elim (a4 B) (λbl=>by simp at bl;subst bl;exact⟨nG,e9⟩))
    refine⟨_,bO,rfl, ?_,cq,df⟩
    simp[Instr.mapUpdate,run_underlying aU,aJ,bm,I,a3,M,tv,bM]
   ·simp at a
  ·simp at a
 ·simp at a
end
def alB(qU dQ:Nat)(yG:qU+(qU+768)/4<=dQ):∀(r c:Nat),c<=dQ->Builtin.growBy qU r c<=dQ:=by
 intro r
 induction r with
 |zero=>intro c a;exact a
 |succ r ah=>
  intro c a
  simp only[Builtin.growBy]
  split
  ·exact a
  ·exact ah _ Zo
def nextslicecap_le{qU At:Nat}(a:At<qU):Builtin.nextslicecap qU At<=2*qU+200:=by
 unfold Builtin.nextslicecap
 split
 ·omega
 ·split
  ·omega
  ·exact alB qU _ Zo 4 At Zo
def atJ{qU At bytes:Nat}(a:At<qU)(aL:qU<=1048576)(aj:bytes<=65536):¬(Builtin.nextslicecap qU At*bytes>2^48):=by
 have I:=nextslicecap_le a
 have M:Builtin.nextslicecap qU At*bytes<=(2*1048576+200)*65536:=Nat.mul_le_mul Zo aj
 have ak:(2:Nat)^48=281474976710656:=by decide
 omega
def wrap_small{n:Nat}(aL:n<=1048576):IntKind.i64.wrap (n:Int)=n:=by
 rw[<-aeb]
 simp only[n4,eU,Zh]
 have I:(n:Int)%18446744073709551616=n:=YR Zo Zo
 rw[I,Zp Zo]
def Og{n b:Nat}(I:n<=1048576)(M:b<=65536):¬((281474976710656:Int)<(n:Int)*(b:Int)):=by
 have ak:n*b<=1048576*65536:=Nat.mul_le_mul I M
 have:((n*b:Nat):Int)<=((1048576*65536:Nat):Int):=Int.ofNat_le.2 ak
 rw[Int.natCast_mul]at this
 omega
def wa(P:Program)(w:World)(dq:TypeDesc)(X:Value)(i:TypeInfo)(br:Value)(n:Nat)(new:Array Value):Prop:=
 ((dq= .string\/∃B,dq= .slice B)/\(Builtin.lenOf X).run P w= .ok n w/\(Builtin.firstCells i.size n X).run P w= .ok new w/\(Builtin.firstCells i.size n X).run P w.drew= .ok new w.drew)\/
 ((∃al,dq= .int al)/\(∃o,X= .int o (Int.ofNat n))/\n<=1048576/\i.bytes<=65536/\n*i.size≠0/\new=Builtin.zeroCells br.cells n)
section
variable{P:Program}{w bO:World}{cS:Array TypeId}{ty st hX dU:TypeId}{i:TypeInfo}{dq:TypeDesc}{base:Option Addr}{gw kR n:Nat}{X br:Value}{pw new:Array Value}
def J4{D:Addr}(a2:cS[0]? =some st)(I:cS[1]? =some hX)(cK:P.underlying st=some (.slice dU))(hk:P.underlying hX=some dq)(aE:P.info? dU=some i)(ce:i.zero=some br)
 (bI:wa P w dq X i br n new)(aL:gw+n<=kR)(aD:(storeCells (D.add (gw*i.size)) new.toList).run P w= .ok () bO):
 (Builtin.append_ cS ty #[.slice (some D) gw kR,X]).run P w= .ok (.slice (some D) (gw+n) kR) bO:=by
 have rq:(#[Value.slice (some D) gw kR,X]:Array Value)[0]? =some (.slice (some D) gw kR):=rfl
 have bA:(#[Value.slice (some D) gw kR,X]:Array Value)[1]? =some X:=rfl
 clear rq bA
 rcases bI with ⟨la,jk,mO,_⟩|⟨⟨al,rfl⟩,⟨o,rfl⟩,jk,mO,o5,rfl⟩
 ·rcases la with rfl|⟨_,rfl⟩<;>simp[Builtin.append_,a2,I,run_underlying cK,run_underlying hk,sizeOf,typeInfo,aE,jk,aL,mO,aD]
 ·have lZ:=Og jk mO
  have az:¬((n:Int)<0):=Zo
  have bQ:=wrap_small jk
  simp[Builtin.append_,a2,I,run_underlying cK,run_underlying hk,sizeOf,typeInfo,aE,asInt,asIntOf,bQ,lZ,az,aL,o5,zeroValue,ce,aD]
def Vw(a2:cS[0]? =some st)(I:cS[1]? =some hX)(cK:P.underlying st=some (.slice dU))(hk:P.underlying hX=some dq)(aE:P.info? dU=some i)(ce:i.zero=some br)
 (bI:wa P w dq X i br n new)(aL:¬(gw+n<=kR))(aj:i.bytes<=65536)(vp:gw+n<=1048576)(bb:(Builtin.firstCells i.size gw (.slice base gw kR)).run P w.drew= .ok pw w.drew):
 ∃cap,gw+n<=cap/\(Builtin.append_ cS ty #[.slice base gw kR,X]).run P w=
  .ok (.slice (some ⟨w.heap.size,0,none⟩) (gw+n) cap) (w.drew.alloc (.cells (pw++new++Builtin.zeroCells br.cells (cap-(gw+n))) dU)):=by
 have U:=atJ (qU:=gw+n) (At:=kR) Zo vp aj
 have kN:¬(281474976710656<Builtin.nextslicecap (gw+n) kR*i.bytes):=by
  have ak:(2:Nat)^48=281474976710656:=by decide
  omega
 have aX:¬((9223372036854775807:Int)<(gw:Int)+(n:Int)):=Zo
 refine⟨gw+n+(w.tape w.drawn (.appendCap (gw+n) kR dU))%(2^63-(gw+n)),Zo, ?_⟩
 have d9:w.drew.heap.size=w.heap.size:=rfl
 have vo:IntKind.i64.max=9223372036854775807:=by decide
 rcases bI with ⟨la,jk,mO,o5⟩|⟨⟨al,rfl⟩,⟨o,rfl⟩,jk,mO,o5,rfl⟩
 ·rcases la with rfl|⟨_,rfl⟩<;>
   simp[Builtin.append_,a2,I,run_underlying cK,run_underlying hk,sizeOf,typeInfo,aE,jk,aL,o5,zeroValue,ce,vo,aX,kN,Question.forced,Question.cut,bb,newRow,d9]
 ·have lZ:=Og jk mO
  have az:¬((n:Int)<0):=Zo
  have bQ:=wrap_small jk
  simp[Builtin.append_,a2,I,run_underlying cK,run_underlying hk,sizeOf,typeInfo,aE,asInt,asIntOf,bQ,lZ,az,aL,o5,zeroValue,ce,vo,aX,kN,Question.forced,Question.cut,bb,newRow,d9]
end
structure wg(P:Program):Prop where
 mixed:P.follows .mixedOrders=true
 num:∀(f:Nat) fn,P.funcs[f]? =some fn->fn.body.isSome=true->(fn.name== "runtime.NumGoroutine")=false
section
variable{C:aM}{J cX:cQ}{Y dg:Nat->Prop}{h S:R ag}{j aq bd:Nat}{w bO:World}
def c9.same(U:c9 C J Y h j bd w)(bQ:bO.heap=w.heap):c9 C J Y h j bd bO:=
 ⟨U.a6,U.lt,U.ur,λb V a d=>(U.obj b V a d).ad (λ_ _=>rfl) (λ_ a=>a) (by rw[bQ]),U.sep,U.base,U.eb⟩
def c9.drew(U:c9 C J Y h j bd w):c9 C J Y h j bd w.drew:=U.same rfl
def c9.att(U:c9 C J Y h j bd w){b:Nat}{c:R z}{n:Nat}{eb:List Nat}(aj:C.a6<=b)(aI:Y b)(hi:Z C h b=some (.cells c n (.grow eb))):
 c9 C J Y (bn C h b (some (.cells c n .jA))) j bd w:=by
 have oG:Z C (bn C h b (some (.cells c n .jA))) b=some (.cells c n .jA):=by rw[fq _ aj,Zp rfl]
 have jd:∀x,x≠b->Z C (bn C h b (some (.cells c n .jA))) x=Z C h x:=λx af=>by rw[fq _ aj,Zg af]
 refine⟨U.a6,U.lt, ?_, ?_, ?_, ?_, ?_⟩
 ·intro x de af
  by_cases B:x=b
  ·subst B;exact U.lt x aI
  ·exact U.ur x de (by rw[<-jd x B,af])
 ·intro x de af dq
  by_cases B:x=b
  ·subst B
   rw[oG]at af;cases af
   obtain⟨b7,ty,bL,aE,I,M,ak,aA⟩:=U.obj x _ hi aI
   exact⟨b7,ty,bL,aE,I,⟨trivial,M.2⟩,ak,aA⟩
  ·exact U.obj x de (by rw[<-jd x B,af]) dq
 ·intro x e de py af F dq ol c5 lw fp
  by_cases B:x=b
  ·subst B
   rw[oG]at af;cases af
   rw[jd e λal=>c5 al.symm]at F
   obtain⟨I,M⟩:=U.sep x e _ py hi F dq ol c5 lw fp
   refine⟨?_,M⟩
   rcases I with ⟨_,_,_,_,al,_⟩|⟨_,_,k,gA,aQ,al,cB,az⟩|⟨_,_,_,_,_,_,al,_⟩
   ·cases al
   ·exact .inl ⟨c,n,gA,aQ,rfl,cB⟩
   ·cases al
  ·rw[jd x B]at af
   by_cases cg:e=b
   ·subst cg
    rw[oG]at F;cases F
    obtain⟨I,M⟩:=U.sep x e de _ af hi dq ol c5 lw fp
    refine⟨?_,M⟩
    rcases I with ⟨_,_,_,_,_,al⟩|⟨_,_,k,gA,aQ,_,al,az⟩|⟨gA,aQ,_,_,_,al,cB,_⟩
    ·cases al
    ·cases al
    ·exact .inl ⟨gA,aQ,c,n,cB,rfl⟩
   ·rw[jd e cg]at F
    exact U.sep x e de py af F dq ol c5 lw fp
 ·intro x de lw af dq
  by_cases B:x=b
  ·subst B;exact U.base x _ lw hi aI
  ·exact U.base x de lw (by rw[<-jd x B,af]) dq
 ·intro x de af dq
  by_cases B:x=b
  ·subst B
   rw[oG]at af;cases af
   have:=(U.eb x _ hi aI).2 _ _ _ rfl
   exact⟨λ_ _ _ a=>(by cases a),λ_ _ _ a=>(by cases a;exact this)⟩
  ·exact U.eb x de (by rw[<-jd x B,af]) dq
def c9.share(U:c9 C J Y h j bd w){cz:Nat}{pl:lU}{cE:ag}(eB:bd<=cz)(rL:pl.cz=cz)(bQ:∀o,o≠cz->bO.heap[o]? =w.heap[o]?)
 (bb:jC C (fY J j pl) (add Y j) cE pl bO)(nN:uK C (add Y j) cE)
 (af:∀x de,Z C h x=some de->Y x->(J x).cz=cz->jC C J Y de (J x) bO/\NT cE de j x/\NT de cE x j/\pl.dO=(J x).dO):
 c9 C (fY J j pl) (add Y j) (bn C h j (some cE)) (j+1) bd bO:=by
 have aj:=U.a6
 have aL:¬Y j:=λa=>zy (U.lt j a)
 have dt:=qs (J:=J) (pl:=pl) aL
 have oG:Z C (bn C h j (some cE)) j=some cE:=by rw[fq _ aj,Zp rfl]
 have jd:∀x,x≠j->Z C (bn C h j (some cE)) x=Z C h x:=λx af=>by rw[fq _ aj,Zg af]
 have aH:∀x,add Y j x->x≠j->Y x:=λx a c5=>a.resolve_right c5
 refine⟨Zo, ?_, ?_, ?_, ?_, ?_, ?_⟩
 ·intro x a
  rcases a with a|a
  ·have:=U.lt x a;omega
  ·omega
 ·intro x de a
  by_cases B:x=j
  ·omega
  ·have:=U.ur x de (by rw[<-jd x B,a]);omega
 ·intro x de a dq
  by_cases B:x=j
  ·subst B;rw[oG]at a;cases a;rw[kU];exact bb
  ·rw[jd x B]at a
   have dq:=aH x dq B
   rw[dt x dq]
   by_cases al:(J x).cz=cz
   ·exact(af x de a dq al).1.ad dt (λ_ a=> .inl a) rfl
   ·exact(U.obj x de a dq).ad dt (λ_ a=> .inl a) (bQ _ al)
 ·intro x e de py I M dq ol c5 lw fp
  by_cases B:x=j
  ·subst B
   rw[oG]at I;cases I
   have F:e≠x:=λal=>c5 al.symm
   rw[jd e F]at M
   have ol:=aH e ol F
   rw[kU,dt e ol]at fp ⊢
   obtain⟨_,b5,_,er⟩:=af e py M ol (by rw[<-fp,rL])
   exact⟨b5,er⟩
  ·rw[jd x B]at I
   have Kv:=aH x dq B
   by_cases cg:e=j
   ·subst cg
    rw[oG]at M;cases M
    rw[kU,dt x Kv]at fp ⊢
    obtain⟨_,_,cG,er⟩:=af x de I Kv (by rw[fp,rL])
    exact⟨cG,er.symm⟩
   ·rw[jd e cg]at M
    have Wo:=aH e ol cg
    rw[dt x Kv,dt e Wo]at fp ⊢
    exact U.sep x e de py I M Kv Wo c5 lw fp
 ·intro x de lw a dq
  by_cases B:x=j
  ·subst B;rw[kU,rL];exact eB
  ·rw[jd x B]at a
   have dq:=aH x dq B
   rw[dt x dq]
   exact U.base x de lw a dq
 ·intro x de a dq
  by_cases B:x=j
  ·subst B;rw[oG]at a;cases a;exact nN
  ·rw[jd x B]at a
   have dq:=aH x dq B
   refine⟨λc n k az e F=> ?_,(U.eb x de a dq).2⟩
   obtain⟨cb,b5⟩:=(U.eb x de a dq).1 c n k az e F
   exact⟨.inl cb,b5⟩
def abO{c:R z}{V n:Nat}{k:List z}(a:c.kI V n=some k):k.length=n:=(R.Pj _ _ _ _ a).1
def On{b V n:Nat}{k:List z}(a:mo C h b V n=some k):k.length=n:=by
 unfold mo at a
 split at a
 ·exact abO a
 ·simp only[ey,Ze]at a
  have:n=0:=Zj a.1
  rw[<-a.2,this];rfl
def avW(J:cQ)(br:z)(n:Nat):Builtin.zeroCells (aJ J br).cells n=(bP J (kp n br.cells)).toArray:=by
 rw[tw, <-ac6]
 simp[Builtin.zeroCells,jo]
def ady(J:cQ)(s:List Nat)(aD:∀x∈s,x<256):((fC s).data.map λb=>Value.int .u8 b.toNat)=(bP J (s.map λn=>z.int .u8 (Int.ofNat n))).toArray:=by
 apply YZ
 simp only[fC,pe,Yk]
 simp only[List.map_toArray,Yk]
 apply YB
 intro x af
 simp[aJ,YE (aD x af)]
def aut(U:c9 C J Y h j bd w){x:z}{i:TypeInfo}{br:Value}{dq:TypeDesc}{n:Nat}{k:List z}(fe:b2 Y x)(vj:dq= .string\/∃B,dq= .slice B)(a:kS C h i.size x=some (n,k)):
 wa C.P w dq (aJ J x) i br n (bP J k).toArray/\d2 Y k/\k.length=n*i.size:=by
 unfold kS at a
 split at a
 ·simp at a;obtain⟨rfl,rfl⟩:=a
  refine⟨.inl ⟨vj, ?_, ?_, ?_⟩,trivial,Zs⟩<;>simp[aJ,Builtin.lenOf,Builtin.firstCells,bP]
 ·rename_i b V len cap
  split at a
  ·rename_i b6 az
   simp at a;obtain⟨rfl,rfl⟩:=a
   obtain⟨I,M⟩:=DY U fe az
   obtain⟨ak,_⟩:=DY U.drew fe az
   refine⟨.inl ⟨vj, ?_, ?_, ?_⟩,M,On az⟩<;>simp[aJ,Builtin.lenOf,Builtin.firstCells,I,ak]
  ·simp at a
 ·rename_i b V len cap
  split at a
  ·rename_i b6 az
   simp at a;obtain⟨rfl,rfl⟩:=a
   obtain⟨I,M⟩:=DY U fe az
   obtain⟨ak,_⟩:=DY U.drew fe az
   refine⟨.inl ⟨vj, ?_, ?_, ?_⟩,M,On az⟩<;>simp[aJ,Builtin.lenOf,Builtin.firstCells,I,ak]
  ·simp at a
 ·rename_i s
  simp only[ey]at a
  obtain⟨I,a⟩:=a
  have I:i.size=1:=Zj I
  simp at a;obtain⟨rfl,rfl⟩:=a
  have d9:(fC s).size=s.length:=by simp[fC,ByteArray.size]
  have bl:(fC s).extract 0 s.length=fC s:=by
   rw[<-d9];exact ByteArray.extract_zero_size
  have ay:=ady J s fe
  refine⟨.inl ⟨vj, ?_, ?_, ?_⟩, ?_,by simp[I]⟩
  ·simp[aJ,Builtin.lenOf,d9]
  ·simp only[aJ,Builtin.firstCells,bl,Sem.run_pure];rw[ay];simp
  ·simp only[aJ,Builtin.firstCells,bl,Sem.run_pure];rw[ay];simp
  ·rw[tI]
   intro v bt
   obtain⟨e,_,rfl⟩:=ZK.1 bt
   trivial
 ·simp at a
end
section
variable{P:Program}{w bO:World}{cS:Array TypeId}{ty st hX dU:TypeId}{i:TypeInfo}{dq:TypeDesc}{base:Option Addr}{gw kR n:Nat}{X br:Value}{pw new:Array Value}
def Nz(P:Program)(w:World)(dq:TypeDesc)(X:Value)(i:TypeInfo):Prop:=
 ((dq= .string\/∃B,dq= .slice B)/\(Builtin.lenOf X).run P w= .ok 0 w/\(Builtin.firstCells i.size 0 X).run P w= .ok #[] w)\/((∃al,dq= .int al)/\∃o,X= .int o 0)
def N5(a2:cS[0]? =some st)(I:cS[1]? =some hX)(cK:P.underlying st=some (.slice dU))(hk:P.underlying hX=some dq)(aE:P.info? dU=some i)
 (bI:Nz P w dq X i)(aL:gw<=kR):(Builtin.append_ cS ty #[.slice base gw kR,X]).run P w= .ok (.slice base gw kR) w:=by
 rcases bI with ⟨la,jk,mO⟩|⟨⟨al,rfl⟩,o,rfl⟩
 ·rcases la with rfl|⟨_,rfl⟩<;>cases base<;>simp[Builtin.append_,a2,I,run_underlying cK,run_underlying hk,sizeOf,typeInfo,aE,jk,aL,mO,storeCells]
 ·have bQ:IntKind.i64.wrap 0=0:=by decide
  have av:¬((2:Int)^48<0):=by decide
  cases base<;>simp[Builtin.append_,a2,I,run_underlying cK,run_underlying hk,sizeOf,typeInfo,aE,asInt,asIntOf,bQ,av,aL,storeCells]
end
section
variable{C:aM}{J cX:cQ}{Y dg:Nat->Prop}{h S:R ag}{j aq bd:Nat}{w bO:World}
def aih{dq:TypeDesc}{X br:Value}{i:TypeInfo}(a:wa C.P w dq X i br 0 (bP J []).toArray):Nz C.P w dq X i:=by
 rcases a with ⟨la,jk,mO,_⟩|⟨_,_,_,_,o5,_⟩
 ·exact .inl ⟨la,jk,mO⟩
 ·simp at o5
def alD{b V len aO n:Nat}(U:c9 C J Y h j bd w)(aj:Y b)(a:xJ C h b=some n)(aD:0<aO)(az:V+len*aO<=n):len<=((J b).room-V)/aO:=by
 have:=ado U aj a
 rw[Y7 aD]
 omega
def Vv(U:c9 C J Y h j bd w){cS:Array TypeId}{ty st hX dU:TypeId}{i:TypeInfo}{dq:TypeDesc}{s:z}{X:Value}{res:dI}
 (a2:cS[0]? =some st)(I:cS[1]? =some hX)(cK:C.P.underlying st=some (.slice dU))(hk:C.P.underlying hX=some dq)(aE:C.P.info? dU=some i)(d9:0<i.size)
 (bI:Nz C.P w dq X i)(ax:b2 Y s)(a:DO C h i.size s=some res):∃v,res= .val v/\b2 Y v/\(Builtin.append_ cS ty #[aJ J s,X]).run C.P w= .ok (aJ J v) w:=by
 unfold DO at a
 split at a
 ·simp at a;subst a
  exact⟨_,rfl,trivial,by simp only[aJ];exact N5 a2 I cK hk aE bI (Zi _)⟩
 ·simp only[ey,Ze]at a
  obtain⟨az,rfl⟩:=a
  exact⟨_,rfl,ax,by simp only[aJ];exact N5 a2 I cK hk aE bI (iN az)⟩
 ·simp only[ey]at a
  obtain⟨bl,a⟩:=a
  have bl:=Zj bl
  subst bl
  split at a
  ·rename_i n aL
   simp only[ey,Ze]at a
   obtain⟨az,rfl⟩:=a
   exact⟨_,rfl,ax,by simp only[aJ];exact N5 a2 I cK hk aE bI (alD U ax aL d9 (iN az))⟩
  ·simp at a
 ·simp at a
def JL(C:aM)(J:cQ)(Y:Nat->Prop)(h:R ag)(j bd:Nat)(w:World)(s:Sem Value)(res:dI):Prop:=
 ∃v S aq,res= .fl v S aq/\∃cX dg bO,s.run C.P w= .ok (aJ cX v) bO/\b2 dg v/\c9 C cX dg S aq bd bO/\hZ C j J Y h bd w cX dg S bO/\j<=aq
def qW(U:c9 C J Y h j bd w):¬Y j:=λa=>zy (U.lt j a)
def aiF(eB:bd<=w.heap.size)(V:Obj):Below bd w (w.drew.alloc V):=(Below.drew (Below.refl bd w)).trans (Below.alloc (Below.refl bd w.drew) eB V)
def OU(U:c9 C J Y h j bd w){pl:lU}(eB:bd<=w.heap.size)(V:Obj)(iR:∀x,x≠j->¬Y x->Z C S x=Z C h x):hZ C j J Y h bd w (fY J j pl) (add Y j) S (w.drew.alloc V):=
 ⟨qs (qW U),λ_ a=> .inl a,λx a=>a.elim .inl (λa=> .inr Zo),λx af az=>iR x Zo af,aiF eB V⟩
def Xe{k:List z}{rest:Array Value}{cap aO:Nat}(g:d2 Y k)(aL:¬Y j)(az:k.length+rest.size=cap*aO)(dU:TypeId)(h6:List Nat):
 jC C (fY J j ⟨w.heap.size,0,cap*aO⟩) (add Y j) (.cells (R.ofList k 0 .nil) k.length (.grow h6)) ⟨w.heap.size,0,cap*aO⟩ (w.drew.alloc (.cells ((bP J k).toArray++rest) dU)):=by
 have dt:=qs (J:=J) (pl:=⟨w.heap.size,0,cap*aO⟩) aL
 refine⟨_,dU,0,0,tW w.drew _,⟨.inl rfl,by simp only;omega, ?_⟩, ?_,λi v bt=> ?_⟩
 ·simp only[YS,Yq,jo];omega
 ·simp only[YS,Yq,jo];omega
 ·rw[lO]at bt
  have e9:=yA g bt
  have cO:i<k.length:=(Zb.1 bt).1
  refine⟨?_,ou (λ_ a=> .inl a) v e9⟩
  rw[pR dt e9,ZQ,Yz (by simpa[jo]using cO)]
  simp[yl,bt]
def aei(zero:Array Value)(n:Nat):(Builtin.zeroCells zero n).size=n*zero.size:=by simp[Builtin.zeroCells]
section
variable{cS:Array TypeId}{ty st hX dU:TypeId}{i:TypeInfo}{dq:TypeDesc}{X br:Value}{n:Nat}{k:List z}
def Xc(U:c9 C J Y h j bd w)(eB:bd<=w.heap.size){s:z}{base:Option Addr}{gw kR:Nat}{bL:List z}(sR:br.cells.size=i.size)
 (a2:cS[0]? =some st)(I:cS[1]? =some hX)(cK:C.P.underlying st=some (.slice dU))(hk:C.P.underlying hX=some dq)(aE:C.P.info? dU=some i)(ce:i.zero=some br)(d9:0<i.size)(m5:i.bytes<=65536)
 (bI:wa C.P w dq X i br n (bP J k).toArray)(h6:d2 Y k)(az:k.length=n*i.size)(Pl:d2 Y bL)(mw:bL.length=gw*i.size)(aL:¬(gw+n<=kR))(aD:aJ J s= .slice base gw kR)
 (bb:(Builtin.firstCells i.size gw (.slice base gw kR)).run C.P w.drew= .ok (bP J bL).toArray w.drew)(vp:gw+n<=1048576){a1:R ag}(pW:List Nat)
 (fG:Z C a1 j=some (.cells (R.ofList (bL++k) 0 .nil) (bL++k).length (.grow pW)))(dX:c9 C J Y S j bd w)(gt:∀x,x≠j->Z C a1 x=Z C S x\/Z C a1 x=none)
 (h7:∀x,x≠j->¬Y x->Z C a1 x=Z C h x)(β:∀x∈pW,Y x/\C.a6<=x):
 ∃cX dg bO,(Builtin.append_ cS ty #[aJ J s,X]).run C.P w= .ok (aJ cX (.fh j 0 (gw+n) i.size)) bO/\b2 dg (.fh j 0 (gw+n) i.size)/\c9 C cX dg a1 (j+1) bd bO/\hZ C j J Y h bd w cX dg a1 bO:=by
 obtain⟨cap,ay,nO⟩:=Vw (ty:=ty) a2 I cK hk aE ce bI aL m5 vp bb
 have eD:(bL++k).length=(gw+n)*i.size:=by rw[ZP,mw,az,Z3]
 have LS:(bL++k).length+(Builtin.zeroCells br.cells (cap-(gw+n))).size=cap*i.size:=by
  rw[aei,sR,eD, <-Z3]
  congr 1;omega
 have B:(bP J bL).toArray++(bP J k).toArray=(bP J (bL++k)).toArray:=by rw[Bd];simp
 rw[B]at nO
 have HG:=Xe (C:=C) (J:=J) (w:=w) (yz Pl h6) (qW U) LS dU pW
 refine⟨fY J j ⟨w.heap.size,0,cap*i.size⟩,add Y j,w.drew.alloc (.cells ((bP J (bL++k)).toArray++Builtin.zeroCells br.cells (cap-(gw+n))) dU), ?_, .inr rfl, ?_, ?_⟩
 ·rw[aD,nO]
  simp only[aJ,kU,ZQ,zf]
  rw[Nat.mul_div_cancel _ d9]
 ·exact dX.drew.alloc U.a6 (Yx _) (Z6 _) (qW U) eB rfl fG gt HG ⟨λc aQ b6 a=>(by cases a;exact λx af=>⟨.inl (β x af).1,(β x af).2⟩),λc aQ st a=>(by cases a;exact Fy)⟩
 ·exact OU U eB _ h7
def Xb{n aO:Nat}{res:dI}(a:sD C h j n aO k=some res):n<=1048576/\res= .fl (.fh j 0 n aO) (bn C h j (some (.cells (R.ofList k 0 .nil) k.length (.grow [])))) (j+1):=by
 unfold sD mz at a
 simp only[lG,gB,ey,Ze]at a
 exact⟨iN a.1,a.2.symm⟩
def akD{b V len cap aO:Nat}{fw:List z}(U:c9 C J Y h j bd w)(aj:Y b)(a:mo C h b V (len*aO)=some fw):
 (Builtin.firstCells aO len (.slice (some ⟨(J b).cz,(J b).dO+V,none⟩) len cap)).run C.P w.drew= .ok (bP J fw).toArray w.drew/\d2 Y fw:=by
 obtain⟨I,M⟩:=DY U.drew aj a
 exact⟨by simp[Builtin.firstCells,I],M⟩
def au4{b7:Array Value}{dO V p:Nat}{c:R z}{fw k:List z}{o:Nat}(av:p=dO+V+fw.length)(ch:p+k.length<=b7.size)(il:d2 Y fw)(h6:d2 Y k)
 (a2:∀W v,fw[W]? =some v->b7[dO+V+W]? =some (aJ J v)):
 ∀W v,(fw++k)[W]? =some v->(kr b7 p (bP J k))[dO+V+W]? =some (aJ J v)/\b2 Y v:=by
 intro W v bt
 rw[SB _ _ _ _ (by rw[jo];exact ch),jo]
 by_cases bB:W<fw.length
 ·rw[Z2 bB]at bt
  rw[Zg Zo]
  exact⟨a2 W v bt,yA il bt⟩
 ·rw[ZF Zo]at bt
  have cO:W-fw.length<k.length:=(Zb.1 bt).1
  rw[Zp Zo,yl,show dO+V+W-p=W-fw.length by omega,bt]
  exact⟨rfl,yA h6 bt⟩
section
variable{cS:Array TypeId}{ty st hX dU:TypeId}{i:TypeInfo}{dq:TypeDesc}{X br:Value}{n:Nat}{k:List z}
def aig(U:c9 C J Y h j bd w)(eB:bd<=w.heap.size)(sR:br.cells.size=i.size){b V len:Nat}{res:dI}
 (a2:cS[0]? =some st)(I:cS[1]? =some hX)(cK:C.P.underlying st=some (.slice dU))(hk:C.P.underlying hX=some dq)(aE:C.P.info? dU=some i)(ce:i.zero=some br)(d9:0<i.size)(m5:i.bytes<=65536)
 (bI:wa C.P w dq X i br n (bP J k).toArray)(h6:d2 Y k)(az:k.length=n*i.size)(aI:Y b)(gu:0<n)(a:Gy C h j b V len i.size n k=some res):
 JL C J Y h j bd w (Builtin.append_ cS ty #[aJ J (.fh b V len i.size),X]) res:=by
 unfold Gy at a
 split at a
 ·rename_i c size eb bb
  simp only[ey]at a
  obtain⟨HK,a⟩:=a
  have aj:C.a6<=b:=iN HK
  obtain⟨b7,dw,bL,t2,bm,ct,a3,a4⟩:=U.obj b _ bb aI
  obtain⟨ED,aoF,am5⟩:=ct
  have yJ:=U.base b _ aj bb aI
  have EL:=(U.eb b _ bb aI).1 _ _ _ rfl
  have m6:=(U.eb b _ bb aI).2 _ _ _ rfl
  have EJ:b≠j:=λB=>zy (U.lt b aI)
  have nM:=qW U
  rw[eU]at a
  split at a
  ·
   rename_i X4
   have X4:V+(len+n)*i.size<=size:=iN X4
   split at a
   ·rename_i S bQ
    simp at a;subst a
    obtain⟨bO,bM,cq,df⟩:=N0 U (c0:=j) aI h6 bQ
    have lY:len+n<=((J b).room-V)/i.size:=by
     rw[Y7 d9];omega
    refine⟨_,_,_,rfl,J,Y,bO, ?_,aI,cq,df,Zi _⟩
    simp only[aJ]
    refine J4 a2 I cK hk aE ce bI lY ?_
    rw[qA,Z0]
    exact bM
   ·simp at a
  ·simp only[ey,Zn]at a
   obtain⟨⟨vp,qa⟩,a⟩:=a
   have vp:=iN vp
   have qb:∀v∈bP J k,v.oneCell'=true:=acu qa
   have eD:(len+n)*i.size=len*i.size+n*i.size:=Z3 ..
   rw[eU]at a
   split at a
   ·
    rename_i BL
    simp only[Zn]at BL
    have bA:V+len*i.size=size:=Zj BL.1
    have cg:V=0:=Zj BL.2
    subst cg
    have bA:len*i.size=size:=Zo
    simp only[gB,mz,lG,Ze]at a
    subst a
    have rO:=U.att aj aI bb
    by_cases lY:len+n<=((J b).room-0)/i.size
    ·
     have aoG:(len+n)*i.size<=(J b).room:=by
      have:=(Y7 d9).1 lY;omega
     have aoY:=Su C.P (J b).cz ((J b).dO+size) dw bL t2 (bP J k) 0 b7 w bm (ED.imp (λB=>zd B.symm) id) (by rw[jo];omega)
     ·have uh:=aoY qb
      have rS:∀o,o≠(J b).cz->(w.setRow (J b).cz (kr b7 ((J b).dO+size+0) (bP J k))).heap[o]? =w.heap[o]? :=λo aG=>setRow_other w _ o _ aG
      have fN:=setRow_heap w (J b).cz b7 (kr b7 ((J b).dO+size+0) (bP J k)) dw (bL,t2) bm
      have dt:=qs (J:=J) (pl:=J b) nM
      have BR:jC C (fY J j (J b)) (add Y j) (.cells (dP c size k) (size+k.length) (.grow (b::eb))) (J b) (w.setRow (J b).cz (kr b7 ((J b).dO+size+0) (bP J k))):=by
       refine⟨_,dw,bL,t2,fN,⟨by rw[vS];exact ED,Zo,by rw[vS];exact am5⟩,by rw[vS];omega,λW v bt=> ?_⟩
       obtain⟨cb,b5⟩:=aed (J:=J) (Y:=Y) (c:=c) (b7:=b7) (dO:=(J b).dO) (V:=size) (n:=size+k.length) h6 Zo Zo a4 W v bt
       exact⟨by rw[pR dt b5];exact cb,ou (λ_ a=> .inl a) v b5⟩
      have QP:=rO.share (j:=j) (bO:=w.setRow (J b).cz (kr b7 ((J b).dO+size+0) (bP J k))) (pl:=J b) (cE:= .cells (dP c size k) (size+k.length) (.grow (b::eb))) yJ rfl rS BR
       ⟨λgA aQ b6 a=>(by
        cases a
        intro x af
        rcases Zq.1 af with rfl|af
        ·exact⟨.inl aI,aj⟩
        ·exact⟨.inl (EL x af).1,(EL x af).2⟩),
        λgA aQ gn a=>(by cases a;exact Ni (Zi _) λW v bt=>ZN (m6 W v bt) (zg _ _))⟩
       (λx de af dq sQ=>by
        have abx:∀gA aQ,de= .cells gA aQ .jA->aQ<=size->(J x).dO=(J b).dO->jC C J Y de (J x) (w.setRow (J b).cz (kr b7 ((J b).dO+size+0) (bP J k))):=by
         intro gA aQ B Lx lu
         subst B
         have cO:=(rO.eb x _ af dq).2 _ _ _ rfl
         obtain⟨DQ,adK,qR,j2,b0,cy,cT,fi⟩:=rO.obj x _ af dq
         rw[sQ,bm]at b0
         cases b0
         refine⟨_,dw,bL,t2,by rw[sQ];exact fN,by rw[vS];exact cy,by rw[vS];exact cT,λW v bt=> ?_⟩
         obtain⟨cb,b5⟩:=fi W v bt
         have:=cO W v bt
         refine⟨?_,b5⟩
         rw[SB _ _ _ _ (by rw[jo];omega),Zg Zo]
         exact cb
        by_cases B:x=b
        ·subst B
         rw[fq _ aj,Zp rfl]at af;cases af
         exact⟨abx c size rfl (Zi _) rfl, .inr (.inl ⟨_,_,_,_,_,rfl,rfl,Zs,Zo⟩), .inr (.inr ⟨_,_,_,_,_,rfl,rfl,Zs,Zo⟩),rfl⟩
        ·rw[fq _ aj,Zg B]at af
         obtain⟨kh,oF⟩:=U.sep b x _ de bb af aI dq (λal=>B al.symm) aj sQ.symm
         rcases kh with ⟨_,_,_,_,al,_⟩|⟨_,_,b6,gA,aQ,al,rfl,aX,f8⟩|⟨_,_,_,_,_,_,al,_⟩
         ·cases al
         ·cases al
          refine⟨abx gA aQ rfl f8 oF.symm, .inr (.inl ⟨_,_,_,_,_,rfl,rfl,Zt _ aX,Zo⟩), .inr (.inr ⟨_,_,_,_,_,rfl,rfl,Zt _ aX,Zo⟩),oF⟩
         ·cases al)
      refine⟨_,_,_,rfl,fY J j (J b),add Y j,_, ?_, .inr rfl,QP,⟨dt,λ_ a=> .inl a,λx a=>a.elim .inl (λa=> .inr Zo),λx af cO=> ?_,N8 yJ _ _⟩,Z6 _⟩
      ·simp only[aJ,kU]
       rw[ZS]
       refine J4 a2 I cK hk aE ce bI lY ?_
       rw[qA,bA]
       exact uh
      ·have sQ:x≠b:=λB=>af (by rw[B];exact aI)
       rw[fq _ U.a6,Zg Zo,fq _ aj,Zg sQ]
    ·
     have QD:(Builtin.firstCells i.size len (.slice (some ⟨(J b).cz,(J b).dO+0,none⟩) len (((J b).room-0)/i.size))).run C.P w.drew= .ok ((b7.toList.drop (J b).dO).take size).toArray w.drew:=by
      have oB:=run_loadCells_list (P:=C.P) w.drew ⟨(J b).cz,(J b).dO+0,none⟩ ((b7.toList.drop (J b).dO).take size) (λW v bt=>by
       rw[qA]
       have bB:W<size:=by
        have:=(Zb.1 bt).1
        simp at this;omega
       rw[YU bB,Z1]at bt
       have ahI:w.drew.heap[(J b).cz]? =some (.cells b7 dw (bL,t2)):=bm
       simp only[World.cell?,ahI]
       simpa[ZO]using bt)
      have ua:((b7.toList.drop (J b).dO).take size).length=size:=by simp;omega
      rw[ua]at oB
      simp only[Builtin.firstCells,bA]
      exact oB
     obtain⟨cap,ay,nO⟩:=Vw (ty:=ty) a2 I cK hk aE ce bI lY m5 vp QD
     have ua:((b7.toList.drop (J b).dO).take size).length=size:=by simp;omega
     have LS:size+k.length+(Builtin.zeroCells br.cells (cap-(len+n))).size=cap*i.size:=by
      rw[aei,sR,az, <-bA, <-Z3, <-Z3]
      congr 1;omega
     have dt:=qs (J:=J) (pl:=⟨w.heap.size,0,cap*i.size⟩) nM
     have BR:jC C (fY J j ⟨w.heap.size,0,cap*i.size⟩) (add Y j) (.cells (dP c size k) (size+k.length) (.grow (b::eb))) ⟨w.heap.size,0,cap*i.size⟩
      (w.drew.alloc (.cells (((b7.toList.drop (J b).dO).take size).toArray++(bP J k).toArray++Builtin.zeroCells br.cells (cap-(len+n))) dU)):=by
      refine⟨_,dU,0,0,tW w.drew _,⟨.inl rfl,by simp only;omega, ?_⟩, ?_,λW v bt=> ?_⟩
      ·simp only[YS,Yq,jo,ua];omega
      ·simp only[YS,Yq,jo,ua];omega
      ·rw[Tc,R.KL]at bt
       simp only[ZQ]
       split at bt
       ·rename_i bB
        have e9:=yA h6 bt
        refine⟨?_,ou (λ_ a=> .inl a) v e9⟩
        rw[pR dt e9,Yz (by simp only[YS,Yq,jo,ua];omega),Array.getElem?_append_right (by simp only[Yq,ua];omega)]
        simp only[Yq,ua,List.getElem?_toArray,yl,bt,ZR]
       ·have bB:=m6 W v bt
        obtain⟨cb,b5⟩:=a4 W v bt
        refine⟨?_,ou (λ_ a=> .inl a) v b5⟩
        rw[pR dt b5,Yz (by simp only[YS,Yq,jo,ua];omega),Yz (by simp only[Yq,ua];omega)]
        rw[List.getElem?_toArray,YU bB,Z1,ZO]
        exact cb
     have fG:Z C (bn C (bn C h b (some (.cells c size .jA))) j (some (.cells (dP c size k) (size+k.length) (.grow (b::eb))))) j=some (.cells (dP c size k) (size+k.length) (.grow (b::eb))):=by
      rw[fq _ U.a6,Zp rfl]
     refine⟨_,_,_,rfl,fY J j ⟨w.heap.size,0,cap*i.size⟩,add Y j,_, ?_, .inr rfl,rO.drew.alloc U.a6 (Yx _) (Z6 _) nM eB rfl fG (λx af=> .inl ?_) BR ?_,OU U eB _ (λx af Q9=> ?_),Z6 _⟩
     ·simp only[aJ,kU,ZQ,zf]
      simp only[ZS,zf]at nO ⊢
      rw[nO,Nat.mul_div_cancel _ d9]
     ·rw[fq _ U.a6,Zg af]
     ·exact⟨λgA aQ b6 a=>(by
           cases a
           intro x af
           rcases Zq.1 af with rfl|af
           ·exact⟨.inl aI,aj⟩
           ·exact⟨.inl (EL x af).1,(EL x af).2⟩),
       λgA aQ gn a=>(by cases a;exact Ni (Zi _) λW v bt=>ZN (m6 W v bt) (zg _ _))⟩
     ·have sQ:x≠b:=λB=>Q9 (by rw[B];exact aI)
      rw[fq _ U.a6,Zg af,fq _ aj,Zg sQ]
   ·
    split at a
    ·rename_i fw oB
     simp only[mz,lG,gB,Ze]at a
     subst a
     have aad:fw.length=len*i.size:=abO oB
     have j1:cellsOf C h b=some c:=by simp[cellsOf,bb]
     have Ql:∀x,x≠b->Z C (bn C (k4 C eb h) b none) x=if x∈eb then none else Z C h x:=λx af=>by
      rw[fq _ aj,Zg af,X9 _ _ _ λe F=>(EL e F).2]
     have υ:Z C (bn C (k4 C eb h) b none) b=none:=by rw[fq _ aj,Zp rfl]
     have X2:c9 C J Y (bn C (k4 C eb h) b none) j bd w:=U.WE λx=>by
      by_cases B:x=b
      ·subst B;exact .inr υ
      ·rw[Ql x B];split
       ·exact .inr rfl
       ·exact .inl rfl
     have Ln:∀x,¬Y x->Z C (bn C (k4 C eb h) b none) x=Z C h x:=λx af=>by
      have sQ:x≠b:=λB=>af (by rw[B];exact aI)
      rw[Ql x sQ,Zg λaX=>af (EL x aX).1]
     have oG:Z C (bn C (bn C (k4 C eb h) b none) j (some (.cells (R.ofList (fw++k) 0 .nil) (fw++k).length (.grow [])))) j=some (.cells (R.ofList (fw++k) 0 .nil) (fw++k).length (.grow [])):=by
      rw[fq _ U.a6,Zp rfl]
     have jd:∀x,x≠j->Z C (bn C (bn C (k4 C eb h) b none) j (some (.cells (R.ofList (fw++k) 0 .nil) (fw++k).length (.grow [])))) x=Z C (bn C (k4 C eb h) b none) x:=λx af=>by
      rw[fq _ U.a6,Zg af]
     obtain⟨Le,Lf⟩:=Ki U aI j1 oB
     by_cases lY:len+n<=((J b).room-V)/i.size
     ·
      have EQ:0<(len+n)*i.size:=Nat.mul_pos Zo d9
      have aoG:V+(len+n)*i.size<=(J b).room:=by
       have ak:=(Y7 d9).1 lY
       omega
      have uh:=Su C.P (J b).cz ((J b).dO+(V+len*i.size)) dw bL t2 (bP J k) 0 b7 w bm (ED.imp (λB=>zd B.symm) id) (by rw[jo];omega) qb
      have rS:∀o,o≠(J b).cz->(w.setRow (J b).cz (kr b7 ((J b).dO+(V+len*i.size)+0) (bP J k))).heap[o]? =w.heap[o]? :=λo aG=>setRow_other w _ o _ aG
      have fN:=setRow_heap w (J b).cz b7 (kr b7 ((J b).dO+(V+len*i.size)+0) (bP J k)) dw (bL,t2) bm
      have dt:=qs (J:=J) (pl:=⟨(J b).cz,(J b).dO+V,(J b).room-V⟩) nM
      have awN:(fw++k).length=(len+n)*i.size:=by rw[ZP,aad,az,Z3]
      have BR:jC C (fY J j ⟨(J b).cz,(J b).dO+V,(J b).room-V⟩) (add Y j) (.cells (R.ofList (fw++k) 0 .nil) (fw++k).length (.grow [])) ⟨(J b).cz,(J b).dO+V,(J b).room-V⟩ (w.setRow (J b).cz (kr b7 ((J b).dO+(V+len*i.size)+0) (bP J k))):=by
       refine⟨_,dw,bL,t2,fN,⟨by rw[vS];exact ED,by simp only;omega,by rw[vS];simp only;omega⟩,by rw[vS];simp only;omega,λW v bt=> ?_⟩
       rw[lO]at bt
       obtain⟨cb,b5⟩:=au4 (J:=J) (Y:=Y) (b7:=b7) (dO:=(J b).dO) (V:=V) (p:=(J b).dO+(V+len*i.size)+0) (c:=c) (o:=0) Zo Zo Lf h6 (λW v bt=>by
        have rI:W<len*i.size:=zy (Zb.1 bt).1
        have:=(R.Pj _ _ _ _ oB).2 W rI
        rw[bt]at this
        have:=(a4 _ _ this).1
        rw[<-Z0]at this
        exact this) W v bt
       exact⟨by rw[pR dt b5];exact cb,ou (λ_ a=> .inl a) v b5⟩
      have QP:=X2.share (bO:=w.setRow (J b).cz (kr b7 ((J b).dO+(V+len*i.size)+0) (bP J k))) (pl:=⟨(J b).cz,(J b).dO+V,(J b).room-V⟩) (cE:= .cells (R.ofList (fw++k) 0 .nil) (fw++k).length (.grow [])) yJ rfl rS BR
       ⟨λgA aQ b6 a=>(by cases a;simp),λgA aQ gn a=>(by cases a;exact Fy)⟩
       (λx de af dq sQ=>by
        exfalso
        by_cases B:x=b
        ·subst B;rw[υ]at af;cases af
        ·rw[Ql x B]at af
         split at af
         ·cases af
         ·rename_i Qv
          rcases(U.sep b x _ de bb af aI dq (λal=>B al.symm) aj sQ.symm).1 with ⟨_,_,_,_,al,_⟩|⟨_,_,b6,gA,aQ,al,_,aX,_⟩|⟨_,_,_,_,_,_,al,_⟩
          ·cases al
          ·cases al;exact Qv aX
          ·cases al)
      refine⟨_,_,_,rfl,fY J j ⟨(J b).cz,(J b).dO+V,(J b).room-V⟩,add Y j,_, ?_, .inr rfl,QP,⟨dt,λ_ a=> .inl a,λx a=>a.elim .inl (λa=> .inr Zo),λx af cO=> ?_,N8 yJ _ _⟩,Z6 _⟩
      ·simp only[aJ,kU,ZS,zf]
       refine J4 a2 I cK hk aE ce bI lY ?_
       rw[qA,Z0]
       exact uh
      ·rw[fq _ U.a6,Zg Zo,Ln x af]
     ·have Ld:(Builtin.firstCells i.size len (.slice (some ⟨(J b).cz,(J b).dO+V,none⟩) len (((J b).room-V)/i.size))).run C.P w.drew= .ok (bP J fw).toArray w.drew:=by
       obtain⟨anb,_⟩:=Ki U.drew aI j1 oB
       simp[Builtin.firstCells,anb]
      obtain⟨cX,dg,bO,eX,fD,hD,nY⟩:=Xc (ty:=ty) U eB (s:= .fh b V len i.size) (bL:=fw) sR a2 I cK hk aE ce d9 m5 bI h6 az Lf aad lY rfl Ld vp []
       oG X2 (λx af=> .inl (jd x af)) (λx af Q9=>by rw[jd x af,Ln x Q9]) Zs
      exact⟨_,_,_,rfl,cX,dg,bO,eX,fD,hD,nY,Z6 _⟩
    ·simp at a
 ·simp at a
end
end
end
section
variable{C:aM}{J cX:cQ}{Y dg:Nat->Prop}{h S:R ag}{j aq bd:Nat}{w bO:World}
section
variable{cS:Array TypeId}{ty st hX dU:TypeId}{i:TypeInfo}{dq:TypeDesc}{X br:Value}{n:Nat}{k:List z}
def Xd(U:c9 C J Y h j bd w)(eB:bd<=w.heap.size){s:z}{base:Option Addr}{gw kR:Nat}{bL:List z}{res:dI}(sR:br.cells.size=i.size)
 (a2:cS[0]? =some st)(I:cS[1]? =some hX)(cK:C.P.underlying st=some (.slice dU))(hk:C.P.underlying hX=some dq)(aE:C.P.info? dU=some i)(ce:i.zero=some br)(d9:0<i.size)(m5:i.bytes<=65536)
 (bI:wa C.P w dq X i br n (bP J k).toArray)(h6:d2 Y k)(az:k.length=n*i.size)(Pl:d2 Y bL)(mw:bL.length=gw*i.size)(aL:¬(gw+n<=kR))(aD:aJ J s= .slice base gw kR)
 (bb:(Builtin.firstCells i.size gw (.slice base gw kR)).run C.P w.drew= .ok (bP J bL).toArray w.drew)(a:sD C h j (gw+n) i.size (bL++k)=some res):
 JL C J Y h j bd w (Builtin.append_ cS ty #[aJ J s,X]) res:=by
 obtain⟨vp,rfl⟩:=Xb a
 obtain⟨cX,dg,bO,eX,fD,hD,nY⟩:=Xc (ty:=ty) U eB (S:=h) sR a2 I cK hk aE ce d9 m5 bI h6 az Pl mw aL aD bb vp (a1:=bn C h j (some (.cells (R.ofList (bL++k) 0 .nil) (bL++k).length (.grow [])))) []
  (by rw[fq _ U.a6,Zp rfl]) U (λx af=> .inl (by rw[fq _ U.a6,Zg af])) (λx af _=>by rw[fq _ U.a6,Zg af]) Zs
 exact⟨_,_,_,rfl,cX,dg,bO,eX,fD,hD,nY,Z6 _⟩
def Vu(U:c9 C J Y h j bd w)(eB:bd<=w.heap.size)(sR:br.cells.size=i.size){s:z}{res:dI}
 (a2:cS[0]? =some st)(I:cS[1]? =some hX)(cK:C.P.underlying st=some (.slice dU))(hk:C.P.underlying hX=some dq)(aE:C.P.info? dU=some i)(ce:i.zero=some br)(d9:0<i.size)(m5:i.bytes<=65536)
 (bI:wa C.P w dq X i br n (bP J k).toArray)(h6:d2 Y k)(az:k.length=n*i.size)(ax:b2 Y s)(gu:0<n)(a:wo C h j i.size n k s=some res):
 JL C J Y h j bd w (Builtin.append_ cS ty #[aJ J s,X]) res:=by
 unfold wo at a
 split at a
 ·refine Xd (gw:=0) (kR:=0) (bL:=[]) (base:=none) U eB sR a2 I cK hk aE ce d9 m5 bI h6 az trivial Zs Zo rfl ?_ (by simpa using a)
  simp[Builtin.firstCells,bP]
 ·rename_i b V len cap
  rw[eU]at a
  split at a
  ·rename_i lY
   have lY:=iN lY
   split at a
   ·rename_i S bQ
    simp at a;subst a
    obtain⟨bO,bM,cq,df⟩:=N0 U (c0:=j) ax h6 bQ
    refine⟨_,_,_,rfl,J,Y,bO, ?_,ax,cq,df,Zi _⟩
    simp only[aJ]
    refine J4 a2 I cK hk aE ce bI lY ?_
    rw[qA,Z0]
    exact bM
   ·simp at a
  ·rename_i lY
   have lY:¬(len+n<=cap):=λal=>lY (by simpa using al)
   split at a
   ·rename_i fw oB
    obtain⟨bM,cq⟩:=akD (aO:=i.size) (cap:=cap) U ax oB
    exact Xd U eB sR a2 I cK hk aE ce d9 m5 bI h6 az cq (On oB) lY rfl bM a
   ·simp at a
 ·rename_i b V len vW
  simp only[ey]at a
  obtain⟨bl,a⟩:=a
  have bl:=Zj bl
  subst bl
  exact aig U eB sR a2 I cK hk aE ce d9 m5 bI h6 az ax gu a
 ·simp at a
end
def Ny(C:aM)(J:cQ)(Y:Nat->Prop)(h:R ag)(j bd:Nat)(w:World)(s:Sem Value)(res:dI):Prop:=
 JL C J Y h j bd w s res\/∃v,res= .val v/\b2 Y v/\s.run C.P w= .ok (aJ J v) w
def Vi(U:c9 C J Y h j bd w)(eB:bd<=w.heap.size){cS:Array TypeId}{ty st hX:TypeId}{dq:TypeDesc}{s x:z}{res:dI}
 (a2:cS[0]? =some st)(I:cS[1]? =some hX)(hk:C.P.underlying hX=some dq)(vj:dq= .string\/∃B,dq= .slice B)(ax:b2 Y s)(fe:b2 Y x)(a:DK C h j st s x=some res):
 Ny C J Y h j bd w (Builtin.append_ cS ty #[aJ J s,aJ J x]) res:=by
 unfold DK at a
 split at a
 ·rename_i dU cK
  split at a
  ·rename_i i aE
   split at a
   ·rename_i n k jJ
    simp only[ey,Zn]at a
    obtain⟨⟨⟨d9,m5⟩,L0⟩,a⟩:=a
    have d9:=kX d9
    have m5:=iN m5
    obtain⟨br,ce,sR⟩:∃br,i.zero=some br/\br.cells.size=i.size:=by
     unfold aej at L0
     split at L0
     ·rename_i br ce
      exact⟨br,ce,Zj L0⟩
     ·simp at L0
    obtain⟨bI,h6,az⟩:=aut (br:=br) U fe vj jJ
    rw[hw]at a
    split at a
    ·rename_i aL
     subst aL
     have:k=[]:=YW.1 (by rw[az];simp)
     subst this
     obtain⟨v,eX,fD,hD⟩:=Vv (ty:=ty) U a2 I cK hk aE d9 (aih bI) ax a
     exact .inr ⟨v,eX,fD,hD⟩
    ·exact .inl (Vu U eB sR a2 I cK hk aE ce d9 m5 bI h6 az ax Zo a)
   ·simp at a
  ·simp at a
 ·simp at a
def ahP(U:c9 C J Y h j bd w)(eB:bd<=w.heap.size){cS:Array TypeId}{ty st hX:TypeId}{al:IntKind}{s x:z}{n:Nat}{res:dI}
 (a2:cS[0]? =some st)(I:cS[1]? =some hX)(hk:C.P.underlying hX=some (.int al))(ax:b2 Y s)(af:nh x=some n)(a:JY C h j st s n=some res):
 Ny C J Y h j bd w (Builtin.append_ cS ty #[aJ J s,aJ J x]) res:=by
 obtain⟨o,rfl⟩:=Cw af
 unfold JY at a
 split at a
 ·rename_i dU cK
  split at a
  ·rename_i i br aE k1
   simp only[ey,Zn]at a
   obtain⟨⟨⟨⟨d9,m5⟩,E5⟩,EJ⟩,a⟩:=a
   have d9:=kX d9
   have m5:=iN m5
   have EJ:=iN EJ
   have E5:br.cells.length=i.size:=Zj E5
   have ce:i.zero=some (aJ J br)/\b2 Y br:=by
    unfold se at k1
    rw[aE]at k1
    simp only at k1
    split at k1
    ·rename_i aa aU
     obtain⟨B,g⟩:=Mw (J:=J) (Y:=Y) k1
     exact⟨by rw[aU,B],g⟩
    ·simp at k1
   rw[hw]at a
   split at a
   ·rename_i aL
    subst aL
    obtain⟨v,eX,fD,hD⟩:=Vv (ty:=ty) U a2 I cK hk aE d9 (.inr ⟨⟨al,rfl⟩,o,rfl⟩) ax a
    exact .inr ⟨v,eX,fD,hD⟩
   ·rename_i aL
    have bI:wa C.P w (.int al) (aJ J (.int o (Int.ofNat n))) i (aJ J br) n (bP J (kp n br.cells)).toArray:=
     .inr ⟨⟨al,rfl⟩,⟨o,rfl⟩,EJ,m5,zy (Nat.mul_pos (Nat.pos_of_ne_zero aL) d9),(avW J br n).symm⟩
    exact .inl (Vu U eB (by rw[tw];simp[jo,E5]) a2 I cK hk aE ce.1 d9 m5 bI (Pn (tx ce.2) n) (by rw[CR,E5]) ax Zo a)
  ·simp at a
 ·simp at a
end
section
variable{C:aM}{J cX:cQ}{Y dg:Nat->Prop}{h S:R ag}{j aq bd:Nat}{w bO:World}
def mj(C:aM)(J:cQ)(Y:Nat->Prop)(h:R ag)(j bd:Nat)(w:World)(s:Sem Value)(v:z)(S:R ag)(aq:Nat):Prop:=
 ∃cX dg bO,s.run C.P w= .ok (aJ cX v) bO/\b2 dg v/\c9 C cX dg S aq bd bO/\hZ C j J Y h bd w cX dg S bO/\j<=aq
def mj.done{s:Sem Value}{v:z}(a:mj C J Y h j bd w s v S aq):xX C J Y h j bd w (do pure (.value (<-s))) v S aq:=by
 obtain⟨cX,dg,bO,I,M,ak,aA,bq⟩:=a
 exact⟨cX,dg,bO, .value (aJ cX v),by simp[I], .inl rfl,M,ak,aA,bq⟩
def mj.same(U:c9 C J Y h j bd w){s:Sem Value}{v:z}(a:s.run C.P w= .ok (aJ J v) w)(g:b2 Y v):mj C J Y h j bd w s v h j:=
 ⟨J,Y,w,a,g,U, .refl,Zi _⟩
def IX(U:c9 C J Y h j bd w)(eB:bd<=w.heap.size){s:Sem Value}{v:z}{cE:ag}{V:Obj}(aD:s.run C.P w= .ok (aJ (fY J j ⟨w.heap.size,0,0⟩) v) (w.alloc V))(e9:b2 (add Y j) v)
 (bb:jC C (fY J j ⟨w.heap.size,0,0⟩) (add Y j) cE ⟨w.heap.size,0,0⟩ (w.alloc V))(nN:uK C (add Y j) cE):mj C J Y h j bd w s v (bn C h j (some cE)) (j+1):=by
 have aj:=U.a6
 refine⟨_,_,_,aD,e9,U.alloc aj (Yx _) (Z6 _) (qW U) eB rfl (by rw[fq _ aj,Zp rfl]) (λx af=> .inl (by rw[fq _ aj,Zg af])) bb nN, ?_,Z6 _⟩
 exact⟨qs (qW U),λ_ a=> .inl a,λx a=>a.elim .inl (λa=> .inr Zo),λx af az=>by rw[fq _ aj,Zg Zo],Below.alloc (Below.refl bd w) eB V⟩
def IW{V:ag}{o:Nat->z}{res:dI}(a:mz C h j V o=some res):res= .fl (o j) (bn C h j (some V)) (j+1):=by
 unfold mz at a
 simp only[lG,gB,Ze]at a
 exact a.symm
def axQ(U:c9 C J Y h j bd w){t:Nat}{m o:Operand}{aw:Operand->Value}{d5:Operand->Option z}{res:dI}(cv:iL J Y aw d5 [m,o])(a:Hs C t m o h j d5=some res):
 ∃v S,res= .fl v S j/\mj C J Y h j bd w (Instr.mapEntry t (aw m) (aw o)) v S j:=by
 simp[Hs]at a
def awh(U:c9 C J Y h j bd w){t:Nat}{m s x:Operand}{aw:Operand->Value}{d5:Operand->Option z}{res:dI}(cv:iL J Y aw d5 [m,s,x])(a:Hl C m s x h j d5=some res):
 ∃S bO,res= .fl undef S j/\(Instr.entryStore t (aw m) (aw s) (aw x)).run C.P w= .ok () bO/\c9 C J Y S j bd bO/\hZ C j J Y h bd w J Y S bO:=by
 simp[Hl]at a
def ard(U:c9 C J Y h j bd w)(eB:bd<=w.heap.size){t:Nat}{k c:Operand}{aw:Operand->Value}{d5:Operand->Option z}{res:dI}(cv:iL J Y aw d5 [k,c])(a:Hr C t k c h j d5=some res):
 ∃v S aq,res= .fl v S aq/\mj C J Y h j bd w (Instr.makeSlice t (aw k) (aw c)) v S aq:=by
 unfold Hr at a
 split at a
 ·rename_i dU axN GH aU az ay
  obtain⟨sw,_⟩:=cv k Zs _ az
  obtain⟨ajS,_⟩:=cv c Zs _ ay
  rw[sw,ajS]
  split at a
  ·rename_i RH kY i br e3 vg aE ce
   obtain⟨cH,rfl⟩:=Cw e3
   obtain⟨cB,rfl⟩:=Cw vg
   simp only[ey,Zn]at a
   obtain⟨⟨⟨⟨⟨I,M⟩,ak⟩,aA⟩,bq⟩,a⟩:=a
   have I:=iN I
   have M:=iN M
   have ak:=iN ak
   have aA:=kX aA
   have bq:br.cells.length=i.size:=Zj bq
   have:=IW a;subst this
   obtain⟨g4,gK⟩:=CU ce J Y w
   refine⟨_,_,_,rfl,IX U eB (V:= .cells (bP J (kp kY br.cells)).toArray dU) ?_ (.inr rfl) ?_ ⟨λ_ _ _ a=>(by cases a),λ_ _ _ a=>(by cases a;rw[<-bq, <-CR];exact Fy)⟩⟩
   ·have mM:=wrap_small (n:=RH) Zo
    have pJ:=wrap_small M
    have nI:¬((281474976710656:Int)<(i.bytes:Int)*(kY:Int)):=by
     rw[Int.mul_comm];exact Og M ak
    have BF:¬((kY:Int)<0):=Zo
    have oB:¬((RH:Int)<0):=Zo
    have aab:¬((kY:Int)<(RH:Int)):=Zo
    have ES:=ac7 J br.cells i.size kY bq (if kY*i.size=0 then #[]else(aJ J br).cells) (λc5=>by rw[Zg c5,tw])
    by_cases k1:kY*i.size=0
    ·rw[Zp k1]at ES
     rw[<-ES]
     simp[Instr.makeSlice,run_underlying aU,aJ,asInt,asIntOf,typeInfo,aE,mM,pJ,nI,BF,oB,aab,sizeOf,k1,newRow,kU]
    ·rw[Zg k1]at ES
     rw[<-ES]
     simp[Instr.makeSlice,run_underlying aU,aJ,asInt,asIntOf,typeInfo,aE,mM,pJ,nI,BF,oB,aab,sizeOf,k1,newRow,kU,g4]
   ·have g:=Pn (tx gK) kY
    have:=Kh (C:=C) (J:=fY J j ⟨w.heap.size,0,0⟩) (Y:=add Y j) (qF (λ_ a=> .inl a) _ g) dU 0 w
    rw[wx (qs (qW U)) g,CR,bq]at this
    exact this
  ·simp at a
 ·simp at a
def arb(U:c9 C J Y h j bd w)(eB:bd<=w.heap.size){t:Nat}{r:Operand}{aw:Operand->Value}{d5:Operand->Option z}{res:dI}(cv:iL J Y aw d5 [r])(a:Hq C t r h j d5=some res):
 ∃v S aq,res= .fl v S aq/\mj C J Y h j bd w (Instr.makeMap t (some (aw r))) v S aq:=by
 unfold Hq at a
 split at a
 ·rename_i ji yr al n aU af
  obtain⟨B,_⟩:=cv r Zs _ af
  have:=IW a;subst this
  refine⟨_,_,_,rfl,IX U eB (V:= .map #[] 0) ?_ (.inr rfl) ⟨#[],tW _ _,rfl,Zs⟩ ⟨λ_ _ _ a=>(by cases a),λ_ _ _ a=>(by cases a)⟩⟩
  simp[Instr.makeMap,run_underlying aU,B,aJ,asInt,asIntOf,kU]
 ·simp at a
def as7(U:c9 C J Y h j bd w)(eB:bd<=w.heap.size){t:Nat}{x:Operand}{aw:Operand->Value}{d5:Operand->Option z}{res:dI}(cv:iL J Y aw d5 [x])(a:Hw C t x h j d5=some res):
 ∃v S aq,res= .fl v S aq/\mj C J Y h j bd w (Instr.range t (aw x)) v S aq:=by
 have dt:=qs (J:=J) (pl:=⟨w.heap.size,0,0⟩) (qW U)
 unfold Hw at a
 split at a
 ·rename_i s aU af
  obtain⟨B,g⟩:=cv x Zs _ af
  have:=IW a;subst this
  refine⟨_,_,_,rfl,IX U eB (V:= .stringIter (fC s) 0) ?_ (.inr rfl) ⟨rfl,tW _ _,g⟩ ⟨λ_ _ _ a=>(by cases a),λ_ _ _ a=>(by cases a)⟩⟩
  simp[Instr.range,run_underlying aU,B,aJ,kU]
 ·rename_i ji yr aU af
  obtain⟨B,g⟩:=cv x Zs _ af
  have:=IW a;subst this
  refine⟨_,_,_,rfl,IX U eB (V:= .mapIter none 0 #[] 0) ?_ (.inr rfl) ⟨rfl,tW _ _,Zs⟩ ⟨λ_ _ _ a=>(by cases a),λ_ _ _ a=>(by cases a)⟩⟩
  simp[Instr.range,run_underlying aU,B,aJ,kU]
 ·rename_i ji yr r aU af
  obtain⟨B,g⟩:=cv x Zs _ af
  split at a
  ·rename_i b3 fF bb
   have:=IW a;subst this
   obtain⟨b7,bm,ct,a3,a4⟩:=IN U g bb
   refine⟨_,_,_,rfl,IX U eB (V:= .mapIter (some (J r).cz) fF #[] fF) ?_ (.inr rfl) ⟨rfl, ?_,λb aj=>by cases aj;exact .inl g⟩ ⟨λ_ _ _ a=>(by cases a),λ_ _ _ a=>(by cases a)⟩⟩
   ·simp[Instr.range,run_underlying aU,B,aJ,kU,bm]
   ·rw[tW];simp only[ZR,dt r g]
  ·simp at a
 ·simp at a
end
end Go.bp

