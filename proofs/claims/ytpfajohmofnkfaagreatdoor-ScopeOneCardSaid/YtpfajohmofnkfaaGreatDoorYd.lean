/- A part of the proof of the claim's last text: what it is used for is said there; no condition of its own. -/
import Derived.Test.YtpfajohmofnkfaaGreatDoorYc
import Derived.Laws.RangeString
set_option maxHeartbeats 8000000
set_option linter.unusedVariables false
set_option linter.unusedSimpArgs false
namespace Go.al
open Go.RowKit (Below)
theorem aka(qH ca:Nat)(nn:qH+(qH+768)/4<=ca):∀(r c:Nat),c<=ca->Builtin.growBy qH r c<=ca:=by
 intro r
 induction r with
 |zero=>intro c a;exact a
 |succ r ah=>
  intro c a
  simp only[Builtin.growBy]
  split
  ·exact a
  ·exact ah _ Zo
theorem nextslicecap_le{qH AE:Nat}(a:AE<qH):Builtin.nextslicecap qH AE<=2*qH+200:=by
 unfold Builtin.nextslicecap
 split
 ·omega
 ·split
  ·omega
  ·exact aka qH _ Zo 4 AE Zo
theorem arF{qH AE bytes:Nat}(a:AE<qH)(aS:qH<=1048576)(ai:bytes<=65536):¬(Builtin.nextslicecap qH AE*bytes>2^48):=by
 have M:=nextslicecap_le a
 have R:Builtin.nextslicecap qH AE*bytes<=(2*1048576+200)*65536:=Nat.mul_le_mul Zo ai
 have au:(2:Nat)^48=281474976710656:=by decide
 omega
theorem wrap_small{n:Nat}(aS:n<=1048576):IntKind.i64.wrap (n:Int)=n:=by
 rw[<-acJ]
 simp only[ox,fB,Zh]
 have M:(n:Int)%18446744073709551616=n:=YW Zo Zo
 rw[M,Zr Zo]
theorem Ny{n b:Nat}(M:n<=1048576)(R:b<=65536):¬((281474976710656:Int)<(n:Int)*(b:Int)):=by
 have au:n*b<=1048576*65536:=Nat.mul_le_mul M R
 have:((n*b:Nat):Int)<=((1048576*65536:Nat):Int):=Int.ofNat_le.2 au
 rw[Int.natCast_mul]at this
 omega
def wD(P:Program)(w:World)(dm:TypeDesc)(X:Value)(i:TypeInfo)(bl:Value)(n:Nat)(new:Array Value):Prop:=
 ((dm= .string\/∃E,dm= .slice E)/\(Builtin.lenOf X).run P w= .ok n w/\(Builtin.firstCells i.size n X).run P w= .ok new w/\(Builtin.firstCells i.size n X).run P w.drew= .ok new w.drew)\/
 ((∃ar,dm= .int ar)/\(∃B,X= .int B (Int.ofNat n))/\n<=1048576/\i.bytes<=65536/\n*i.size≠0/\new=Builtin.zeroCells bl.cells n)
section
variable{P:Program}{w bz:World}{cM:Array TypeId}{ty st h9 dE:TypeId}{i:TypeInfo}{dm:TypeDesc}{base:Option Addr}{gu kK n:Nat}{X bl:Value}{lr new:Array Value}
theorem Jq{I:Addr}(ci:cM[0]? =some st)(M:cM[1]? =some h9)(cV:P.underlying st=some (.slice dE))(ho:P.underlying h9=some dm)(aN:P.info? dE=some i)(cj:i.zero=some bl)
 (bO:wD P w dm X i bl n new)(aS:gu+n<=kK)(aH:(storeCells (I.add (gu*i.size)) new.toList).run P w= .ok () bz):
 (Builtin.append_ cM ty #[.slice (some I) gu kK,X]).run P w= .ok (.slice (some I) (gu+n) kK) bz:=by
 have aih:(#[Value.slice (some I) gu kK,X]:Array Value)[0]? =some (.slice (some I) gu kK):=rfl
 have bF:(#[Value.slice (some I) gu kK,X]:Array Value)[1]? =some X:=rfl
 clear aih bF
 rcases bO with ⟨iQ,hC,jT,_⟩|⟨⟨ar,rfl⟩,⟨B,rfl⟩,hC,jT,kQ,rfl⟩
 ·rcases iQ with rfl|⟨_,rfl⟩<;>simp[Builtin.append_,ci,M,run_underlying cV,run_underlying ho,sizeOf,typeInfo,aN,hC,aS,jT,aH]
 ·have pI:=Ny hC jT
  have aE:¬((n:Int)<0):=Zo
  have bL:=wrap_small hC
  simp[Builtin.append_,ci,M,run_underlying cV,run_underlying ho,sizeOf,typeInfo,aN,asInt,asIntOf,bL,pI,aE,aS,kQ,zeroValue,cj,aH]
theorem Uw(ci:cM[0]? =some st)(M:cM[1]? =some h9)(cV:P.underlying st=some (.slice dE))(ho:P.underlying h9=some dm)(aN:P.info? dE=some i)(cj:i.zero=some bl)
 (bO:wD P w dm X i bl n new)(aS:¬(gu+n<=kK))(ai:i.bytes<=65536)(v1:gu+n<=1048576)(bc:(Builtin.firstCells i.size gu (.slice base gu kK)).run P w.drew= .ok lr w.drew):
 ∃cap,gu+n<=cap/\(Builtin.append_ cM ty #[.slice base gu kK,X]).run P w=
  .ok (.slice (some ⟨w.heap.size,0,none⟩) (gu+n) cap) (w.drew.alloc (.cells (lr++new++Builtin.zeroCells bl.cells (cap-(gu+n))) dE)):=by
 have S:=arF (qH:=gu+n) (AE:=kK) Zo v1 ai
 have lD:¬(281474976710656<Builtin.nextslicecap (gu+n) kK*i.bytes):=by
  have au:(2:Nat)^48=281474976710656:=by decide
  omega
 have bi:¬((9223372036854775807:Int)<(gu:Int)+(n:Int)):=Zo
 refine⟨gu+n+(w.tape w.drawn (.appendCap (gu+n) kK dE))%(2^63-(gu+n)),Zo, ?_⟩
 have eg:w.drew.heap.size=w.heap.size:=rfl
 have vY:IntKind.i64.max=9223372036854775807:=by decide
 rcases bO with ⟨iQ,hC,jT,kQ⟩|⟨⟨ar,rfl⟩,⟨B,rfl⟩,hC,jT,kQ,rfl⟩
 ·rcases iQ with rfl|⟨_,rfl⟩<;>
   simp[Builtin.append_,ci,M,run_underlying cV,run_underlying ho,sizeOf,typeInfo,aN,hC,aS,kQ,zeroValue,cj,vY,bi,lD,Question.forced,Question.cut,bc,newRow,eg]
 ·have pI:=Ny hC jT
  have aE:¬((n:Int)<0):=Zo
  have bL:=wrap_small hC
  simp[Builtin.append_,ci,M,run_underlying cV,run_underlying ho,sizeOf,typeInfo,aN,asInt,asIntOf,bL,pI,aE,aS,kQ,zeroValue,cj,vY,bi,lD,Question.forced,Question.cut,bc,newRow,eg]
end
end Go.al

namespace Go.al
open Go.RowKit (Below)
structure wI(P:Program):Prop where
 mixed:P.follows .mixedOrders=true
 num:∀(f:Nat) fn,P.funcs[f]? =some fn->fn.body.isSome=true->(fn.name== "runtime.NumGoroutine")=false
section
variable{C:aX}{K c1:cY}{Z di:Nat->Prop}{h V:U an}{k av bg:Nat}{w bz:World}
theorem cS.same(S:cS C K Z h k bg w)(bL:bz.heap=w.heap):cS C K Z h k bg bz:=
 ⟨S.bj,S.lt,S.uG,λb W a d=>(S.obj b W a d).af (λ_ _=>rfl) (λ_ a=>a) (by rw[bL]),S.sep,S.base,S.fb⟩
theorem cS.drew(S:cS C K Z h k bg w):cS C K Z h k bg w.drew:=S.same rfl
theorem cS.arw(S:cS C K Z h k bg w){b:Nat}{c:U H}{n:Nat}{fb:List Nat}(ai:C.bj<=b)(aI:Z b)(gC:ab C h b=some (.cells c n (.grow fb))):
 cS C K Z (bm C h b (some (.cells c n .jJ))) k bg w:=by
 have my:ab C (bm C h b (some (.cells c n .jJ))) b=some (.cells c n .jJ):=by rw[e3 _ ai,Zr rfl]
 have ii:∀x,x≠b->ab C (bm C h b (some (.cells c n .jJ))) x=ab C h x:=λx ag=>by rw[e3 _ ai,Zg ag]
 refine⟨S.bj,S.lt, ?_, ?_, ?_, ?_, ?_⟩
 ·intro x c6 ag
  by_cases E:x=b
  ·subst E;exact S.lt x aI
  ·exact S.uG x c6 (by rw[<-ii x E,ag])
 ·intro x c6 ag dm
  by_cases E:x=b
  ·subst E
   rw[my]at ag;cases ag
   obtain⟨bU,ty,bP,aN,M,R,au,aM⟩:=S.obj x _ gC aI
   exact⟨bU,ty,bP,aN,M,⟨trivial,R.2⟩,au,aM⟩
  ·exact S.obj x c6 (by rw[<-ii x E,ag]) dm
 ·intro x j c6 o9 ag T dm nU dv kD e2
  by_cases E:x=b
  ·subst E
   rw[my]at ag;cases ag
   rw[ii j λar=>dv ar.symm]at T
   obtain⟨M,R⟩:=S.sep x j _ o9 gC T dm nU dv kD e2
   refine⟨?_,R⟩
   rcases M with ⟨_,_,_,_,ar,_⟩|⟨_,_,l,gx,aY,ar,b1,aE⟩|⟨_,_,_,_,_,_,ar,_⟩
   ·cases ar
   ·exact .inl ⟨c,n,gx,aY,rfl,b1⟩
   ·cases ar
  ·rw[ii x E]at ag
   by_cases cB:j=b
   ·subst cB
    rw[my]at T;cases T
    obtain⟨M,R⟩:=S.sep x j c6 _ ag gC dm nU dv kD e2
    refine⟨?_,R⟩
    rcases M with ⟨_,_,_,_,_,ar⟩|⟨_,_,l,gx,aY,_,ar,aE⟩|⟨gx,aY,_,_,_,ar,b1,_⟩
    ·cases ar
    ·cases ar
    ·exact .inl ⟨gx,aY,c,n,b1,rfl⟩
   ·rw[ii j cB]at T
    exact S.sep x j c6 o9 ag T dm nU dv kD e2
 ·intro x c6 kD ag dm
  by_cases E:x=b
  ·subst E;exact S.base x _ kD gC aI
  ·exact S.base x c6 kD (by rw[<-ii x E,ag]) dm
 ·intro x c6 ag dm
  by_cases E:x=b
  ·subst E
   rw[my]at ag;cases ag
   have:=(S.fb x _ gC aI).2 _ _ _ rfl
   exact⟨λ_ _ _ a=>(by cases a),λ_ _ _ a=>(by cases a;exact this)⟩
  ·exact S.fb x c6 (by rw[<-ii x E,ag]) dm
theorem cS.share(S:cS C K Z h k bg w){cq:Nat}{pl:lN}{cJ:an}(eP:bg<=cq)(rC:pl.cq=cq)(bL:∀B,B≠cq->bz.heap[B]? =w.heap[B]?)
 (bc:jn C (f0 K k pl) (add Z k) cJ pl bz)(qw:tk C (add Z k) cJ)
 (ag:∀x c6,ab C h x=some c6->Z x->(K x).cq=cq->jn C K Z c6 (K x) bz/\M9 cJ c6 k x/\M9 c6 cJ x k/\pl.dJ=(K x).dJ):
 cS C (f0 K k pl) (add Z k) (bm C h k (some cJ)) (k+1) bg bz:=by
 have ai:=S.bj
 have aS:¬Z k:=λa=>by have:=S.lt k a;omega
 have dt:=p8 (K:=K) (pl:=pl) aS
 have my:ab C (bm C h k (some cJ)) k=some cJ:=by rw[e3 _ ai,Zr rfl]
 have ii:∀x,x≠k->ab C (bm C h k (some cJ)) x=ab C h x:=λx ag=>by rw[e3 _ ai,Zg ag]
 have aB:∀x,add Z k x->x≠k->Z x:=λx a dv=>a.resolve_right dv
 refine⟨Zo, ?_, ?_, ?_, ?_, ?_, ?_⟩
 ·intro x a
  rcases a with a|a
  ·have:=S.lt x a;omega
  ·omega
 ·intro x c6 a
  by_cases E:x=k
  ·omega
  ·have:=S.uG x c6 (by rw[<-ii x E,a]);omega
 ·intro x c6 a dm
  by_cases E:x=k
  ·subst E;rw[my]at a;cases a;rw[kP];exact bc
  ·rw[ii x E]at a
   have dm:=aB x dm E
   rw[dt x dm]
   by_cases ar:(K x).cq=cq
   ·exact(ag x c6 a dm ar).1.af dt (λ_ a=> .inl a) rfl
   ·exact(S.obj x c6 a dm).af dt (λ_ a=> .inl a) (bL _ ar)
 ·intro x j c6 o9 M R dm nU dv kD e2
  by_cases E:x=k
  ·subst E
   rw[my]at M;cases M
   have T:j≠x:=λar=>dv ar.symm
   rw[ii j T]at R
   have nU:=aB j nU T
   rw[kP,dt j nU]at e2 ⊢
   obtain⟨_,b3,_,ec⟩:=ag j o9 R nU (by rw[<-e2,rC])
   exact⟨b3,ec⟩
  ·rw[ii x E]at M
   have JP:=aB x dm E
   by_cases cB:j=k
   ·subst cB
    rw[my]at R;cases R
    rw[kP,dt x JP]at e2 ⊢
    obtain⟨_,_,g3,ec⟩:=ag x c6 M JP (by rw[e2,rC])
    exact⟨g3,ec.symm⟩
   ·rw[ii j cB]at R
    have Vk:=aB j nU cB
    rw[dt x JP,dt j Vk]at e2 ⊢
    exact S.sep x j c6 o9 M R JP Vk dv kD e2
 ·intro x c6 kD a dm
  by_cases E:x=k
  ·subst E;rw[kP,rC];exact eP
  ·rw[ii x E]at a
   have dm:=aB x dm E
   rw[dt x dm]
   exact S.base x c6 kD a dm
 ·intro x c6 a dm
  by_cases E:x=k
  ·subst E;rw[my]at a;cases a;exact qw
  ·rw[ii x E]at a
   have dm:=aB x dm E
   refine⟨λc n l aE j T=> ?_,(S.fb x c6 a dm).2⟩
   obtain⟨b9,b3⟩:=(S.fb x c6 a dm).1 c n l aE j T
   exact⟨.inl b9,b3⟩
theorem aat{c:U H}{W n:Nat}{l:List H}(a:c.jL W n=some l):l.length=n:=(U.Kc _ _ _ _ a).1
theorem NE{b W n:Nat}{l:List H}(a:k9 C h b W n=some l):l.length=n:=by
 unfold k9 at a
 split at a
 ·exact aat a
 ·simp only[d9,Ze]at a
  have:n=0:=Zi a.1
  rw[<-a.2,this];rfl
theorem acM(K:cY)(bl:H)(n:Nat):Builtin.zeroCells (aD K bl).cells n=(bI K (jG n bl.cells)).toArray:=by
 rw[tr, <-abL]
 simp[Builtin.zeroCells,jr]
theorem RJ(K:cY)(s:List Nat)(aH:∀x∈s,x<256):((fd s).data.map λb=>Value.int .u8 b.toNat)=(bI K (s.map λn=>H.int .u8 (Int.ofNat n))).toArray:=by
 apply YM
 simp only[fd,oM,YG]
 simp only[List.map_toArray,YG]
 apply YA
 intro x ag
 simp[aD,YD (aH x ag)]
theorem asq(S:cS C K Z h k bg w){x:H}{i:TypeInfo}{bl:Value}{dm:TypeDesc}{n:Nat}{l:List H}(ek:b0 Z x)(vS:dm= .string\/∃E,dm= .slice E)(a:jR C h i.size x=some (n,l)):
 wD C.P w dm (aD K x) i bl n (bI K l).toArray/\dW Z l/\l.length=n*i.size:=by
 unfold jR at a
 split at a
 ·simp at a;obtain⟨rfl,rfl⟩:=a
  refine⟨.inl ⟨vS, ?_, ?_, ?_⟩,trivial,Zs⟩<;>simp[aD,Builtin.lenOf,Builtin.firstCells,bI]
 ·rename_i b W len cap
  split at a
  ·rename_i cd aE
   simp at a;obtain⟨rfl,rfl⟩:=a
   obtain⟨M,R⟩:=yy S ek aE
   obtain⟨au,_⟩:=yy S.drew ek aE
   refine⟨.inl ⟨vS, ?_, ?_, ?_⟩,R,NE aE⟩<;>simp[aD,Builtin.lenOf,Builtin.firstCells,M,au]
  ·simp at a
 ·rename_i b W len cap
  split at a
  ·rename_i cd aE
   simp at a;obtain⟨rfl,rfl⟩:=a
   obtain⟨M,R⟩:=yy S ek aE
   obtain⟨au,_⟩:=yy S.drew ek aE
   refine⟨.inl ⟨vS, ?_, ?_, ?_⟩,R,NE aE⟩<;>simp[aD,Builtin.lenOf,Builtin.firstCells,M,au]
  ·simp at a
 ·rename_i s
  simp only[d9]at a
  obtain⟨M,a⟩:=a
  have M:i.size=1:=Zi M
  simp at a;obtain⟨rfl,rfl⟩:=a
  have eg:(fd s).size=s.length:=by simp[fd,ByteArray.size]
  have aW:(fd s).extract 0 s.length=fd s:=by
   rw[<-eg];exact ByteArray.extract_zero_size
  have ay:=RJ K s ek
  refine⟨.inl ⟨vS, ?_, ?_, ?_⟩, ?_,by simp[M]⟩
  ·simp[aD,Builtin.lenOf,eg]
  ·simp only[aD,Builtin.firstCells,aW,Sem.run_pure];rw[ay];simp
  ·simp only[aD,Builtin.firstCells,aW,Sem.run_pure];rw[ay];simp
  ·rw[sx]
   intro v bu
   obtain⟨j,_,rfl⟩:=ZD.1 bu
   trivial
 ·simp at a
end
end Go.al

namespace Go.al
open Go.RowKit (Below)
section
variable{P:Program}{w bz:World}{cM:Array TypeId}{ty st h9 dE:TypeId}{i:TypeInfo}{dm:TypeDesc}{base:Option Addr}{gu kK n:Nat}{X bl:Value}{lr new:Array Value}
def MR(P:Program)(w:World)(dm:TypeDesc)(X:Value)(i:TypeInfo):Prop:=
 ((dm= .string\/∃E,dm= .slice E)/\(Builtin.lenOf X).run P w= .ok 0 w/\(Builtin.firstCells i.size 0 X).run P w= .ok #[] w)\/((∃ar,dm= .int ar)/\∃B,X= .int B 0)
theorem Nn(ci:cM[0]? =some st)(M:cM[1]? =some h9)(cV:P.underlying st=some (.slice dE))(ho:P.underlying h9=some dm)(aN:P.info? dE=some i)
 (bO:MR P w dm X i)(aS:gu<=kK):(Builtin.append_ cM ty #[.slice base gu kK,X]).run P w= .ok (.slice base gu kK) w:=by
 rcases bO with ⟨iQ,hC,jT⟩|⟨⟨ar,rfl⟩,B,rfl⟩
 ·rcases iQ with rfl|⟨_,rfl⟩<;>cases base<;>simp[Builtin.append_,ci,M,run_underlying cV,run_underlying ho,sizeOf,typeInfo,aN,hC,aS,jT,storeCells]
 ·have bL:IntKind.i64.wrap 0=0:=by decide
  have ax:¬((2:Int)^48<0):=by decide
  cases base<;>simp[Builtin.append_,ci,M,run_underlying cV,run_underlying ho,sizeOf,typeInfo,aN,asInt,asIntOf,bL,ax,aS,storeCells]
end
section
variable{C:aX}{K c1:cY}{Z di:Nat->Prop}{h V:U an}{k av bg:Nat}{w bz:World}
theorem agO{dm:TypeDesc}{X bl:Value}{i:TypeInfo}(a:wD C.P w dm X i bl 0 (bI K []).toArray):MR C.P w dm X i:=by
 rcases a with ⟨iQ,hC,jT,_⟩|⟨_,_,_,_,kQ,_⟩
 ·exact .inl ⟨iQ,hC,jT⟩
 ·simp at kQ
theorem akc{b W len bd n:Nat}(S:cS C K Z h k bg w)(ai:Z b)(a:x6 C h b=some n)(aH:0<bd)(aE:W+len*bd<=n):len<=((K b).room-W)/bd:=by
 have:=ab0 S ai a
 rw[Y9 aH]
 omega
theorem Uv(S:cS C K Z h k bg w){cM:Array TypeId}{ty st h9 dE:TypeId}{i:TypeInfo}{dm:TypeDesc}{s:H}{X:Value}{res:dz}
 (ci:cM[0]? =some st)(M:cM[1]? =some h9)(cV:C.P.underlying st=some (.slice dE))(ho:C.P.underlying h9=some dm)(aN:C.P.info? dE=some i)(eg:0<i.size)
 (bO:MR C.P w dm X i)(aC:b0 Z s)(a:Dn C h i.size s=some res):∃v,res= .val v/\b0 Z v/\(Builtin.append_ cM ty #[aD K s,X]).run C.P w= .ok (aD K v) w:=by
 unfold Dn at a
 split at a
 ·simp at a;subst a
  exact⟨_,rfl,trivial,by simp only[aD];exact Nn ci M cV ho aN bO (Zj _)⟩
 ·simp only[d9,Ze]at a
  obtain⟨aE,rfl⟩:=a
  exact⟨_,rfl,aC,by simp only[aD];exact Nn ci M cV ho aN bO (iT aE)⟩
 ·simp only[d9]at a
  obtain⟨aW,a⟩:=a
  have aW:=Zi aW
  subst aW
  split at a
  ·rename_i n aS
   simp only[d9,Ze]at a
   obtain⟨aE,rfl⟩:=a
   exact⟨_,rfl,aC,by simp only[aD];exact Nn ci M cV ho aN bO (akc S aC aS eg (iT aE))⟩
  ·simp at a
 ·simp at a
def I3(C:aX)(K:cY)(Z:Nat->Prop)(h:U an)(k bg:Nat)(w:World)(s:Sem Value)(res:dz):Prop:=
 ∃v V av,res= .eW v V av/\∃c1 di bz,s.run C.P w= .ok (aD c1 v) bz/\b0 di v/\cS C c1 di V av bg bz/\hS C k K Z h bg w c1 di V bz/\k<=av
theorem qJ(S:cS C K Z h k bg w):¬Z k:=λa=>by have:=S.lt k a;omega
theorem ahb(eP:bg<=w.heap.size)(W:Obj):Below bg w (w.drew.alloc W):=(Below.drew (Below.refl bg w)).trans (Below.alloc (Below.refl bg w.drew) eP W)
theorem N7(S:cS C K Z h k bg w){pl:lN}(eP:bg<=w.heap.size)(W:Obj)(iw:∀x,x≠k->¬Z x->ab C V x=ab C h x):hS C k K Z h bg w (f0 K k pl) (add Z k) V (w.drew.alloc W):=
 ⟨p8 (qJ S),λ_ a=> .inl a,λx a=>a.elim .inl (λa=> .inr Zo),λx ag aE=>iw x Zo ag,ahb eP W⟩
theorem Wc{l:List H}{rest:Array Value}{cap bd:Nat}(g:dW Z l)(aS:¬Z k)(aE:l.length+rest.size=cap*bd)(dE:TypeId)(ig:List Nat):
 jn C (f0 K k ⟨w.heap.size,0,cap*bd⟩) (add Z k) (.cells (U.ofList l 0 .nil) l.length (.grow ig)) ⟨w.heap.size,0,cap*bd⟩ (w.drew.alloc (.cells ((bI K l).toArray++rest) dE)):=by
 have dt:=p8 (K:=K) (pl:=⟨w.heap.size,0,cap*bd⟩) aS
 refine⟨_,dE,0,0,tV w.drew _,⟨.inl rfl,by simp only;omega, ?_⟩, ?_,λi v bu=> ?_⟩
 ·simp only[YX,Yo,jr];omega
 ·simp only[YX,Yo,jr];omega
 ·rw[kk]at bu
  have fi:=yQ g bu
  have cR:i<l.length:=(Zc.1 bu).1
  refine⟨?_,nW (λ_ a=> .inl a) v fi⟩
  rw[pp dt fi,ZH,Yz (by simpa[jr]using cR)]
  simp[yA,bu]
theorem acN(zero:Array Value)(n:Nat):(Builtin.zeroCells zero n).size=n*zero.size:=by simp[Builtin.zeroCells]
section
variable{cM:Array TypeId}{ty st h9 dE:TypeId}{i:TypeInfo}{dm:TypeDesc}{X bl:Value}{n:Nat}{l:List H}
theorem Wa(S:cS C K Z h k bg w)(eP:bg<=w.heap.size){s:H}{base:Option Addr}{gu kK:Nat}{bP:List H}(sS:bl.cells.size=i.size)
 (ci:cM[0]? =some st)(M:cM[1]? =some h9)(cV:C.P.underlying st=some (.slice dE))(ho:C.P.underlying h9=some dm)(aN:C.P.info? dE=some i)(cj:i.zero=some bl)(eg:0<i.size)(mW:i.bytes<=65536)
 (bO:wD C.P w dm X i bl n (bI K l).toArray)(ig:dW Z l)(aE:l.length=n*i.size)(Ov:dW Z bP)(nr:bP.length=gu*i.size)(aS:¬(gu+n<=kK))(aH:aD K s= .slice base gu kK)
 (bc:(Builtin.firstCells i.size gu (.slice base gu kK)).run C.P w.drew= .ok (bI K bP).toArray w.drew)(v1:gu+n<=1048576){bb:U an}(py:List Nat)
 (f9:ab C bb k=some (.cells (U.ofList (bP++l) 0 .nil) (bP++l).length (.grow py)))(dI:cS C K Z V k bg w)(hI:∀x,x≠k->ab C bb x=ab C V x\/ab C bb x=none)
 (hw:∀x,x≠k->¬Z x->ab C bb x=ab C h x)(W9:∀x∈py,Z x/\C.bj<=x):
 ∃c1 di bz,(Builtin.append_ cM ty #[aD K s,X]).run C.P w= .ok (aD c1 (.e5 k 0 (gu+n) i.size)) bz/\b0 di (.e5 k 0 (gu+n) i.size)/\cS C c1 di bb (k+1) bg bz/\hS C k K Z h bg w c1 di bb bz:=by
 obtain⟨cap,ay,nu⟩:=Uw (ty:=ty) ci M cV ho aN cj bO aS mW v1 bc
 have fj:(bP++l).length=(gu+n)*i.size:=by rw[ZQ,nr,aE,Yb]
 have Lh:(bP++l).length+(Builtin.zeroCells bl.cells (cap-(gu+n))).size=cap*i.size:=by
  rw[acN,sS,fj, <-Yb]
  congr 1;omega
 have E:(bI K bP).toArray++(bI K l).toArray=(bI K (bP++l)).toArray:=by rw[Bn];simp
 rw[E]at nu
 have G7:=Wc (C:=C) (K:=K) (w:=w) (yP Ov ig) (qJ S) Lh dE py
 refine⟨f0 K k ⟨w.heap.size,0,cap*i.size⟩,add Z k,w.drew.alloc (.cells ((bI K (bP++l)).toArray++Builtin.zeroCells bl.cells (cap-(gu+n))) dE), ?_, .inr rfl, ?_, ?_⟩
 ·rw[aH,nu]
  simp only[aD,kP,ZH,YH]
  rw[Nat.mul_div_cancel _ eg]
 ·exact dI.drew.alloc S.bj (YE _) (Yc _) (qJ S) eP rfl f9 hI G7 ⟨λc aY cd a=>(by cases a;exact λx ag=>⟨.inl (W9 x ag).1,(W9 x ag).2⟩),λc aY st a=>(by cases a;exact E3)⟩
 ·exact N7 S eP _ hw
theorem V9{n bd:Nat}{res:dz}(a:sA C h k n bd l=some res):n<=1048576/\res= .eW (.e5 k 0 n bd) (bm C h k (some (.cells (U.ofList l 0 .nil) l.length (.grow [])))) (k+1):=by
 unfold sA lq at a
 simp only[li,gK,d9,Ze]at a
 exact⟨iT a.1,a.2.symm⟩
theorem ajf{b W len cap bd:Nat}{fx:List H}(S:cS C K Z h k bg w)(ai:Z b)(a:k9 C h b W (len*bd)=some fx):
 (Builtin.firstCells bd len (.slice (some ⟨(K b).cq,(K b).dJ+W,none⟩) len cap)).run C.P w.drew= .ok (bI K fx).toArray w.drew/\dW Z fx:=by
 obtain⟨M,R⟩:=yy S.drew ai a
 exact⟨by simp[Builtin.firstCells,M],R⟩
theorem asY{bU:Array Value}{dJ W p:Nat}{c:U H}{fx l:List H}{B:Nat}(ax:p=dJ+W+fx.length)(b5:p+l.length<=bU.size)(jK:dW Z fx)(ig:dW Z l)
 (ci:∀aa v,fx[aa]? =some v->bU[dJ+W+aa]? =some (aD K v)):
 ∀aa v,(fx++l)[aa]? =some v->(kp bU p (bI K l))[dJ+W+aa]? =some (aD K v)/\b0 Z v:=by
 intro aa v bu
 rw[Rx _ _ _ _ (by rw[jr];exact b5),jr]
 by_cases bK:aa<fx.length
 ·rw[Z5 bK]at bu
  rw[Zg Zo]
  exact⟨ci aa v bu,yQ jK bu⟩
 ·rw[ZU Zo]at bu
  have cR:aa-fx.length<l.length:=(Zc.1 bu).1
  rw[Zr Zo,yA,show dJ+W+aa-p=aa-fx.length by omega,bu]
  exact⟨rfl,yQ ig bu⟩
section
variable{cM:Array TypeId}{ty st h9 dE:TypeId}{i:TypeInfo}{dm:TypeDesc}{X bl:Value}{n:Nat}{l:List H}
theorem agN(S:cS C K Z h k bg w)(eP:bg<=w.heap.size)(sS:bl.cells.size=i.size){b W len:Nat}{res:dz}
 (ci:cM[0]? =some st)(M:cM[1]? =some h9)(cV:C.P.underlying st=some (.slice dE))(ho:C.P.underlying h9=some dm)(aN:C.P.info? dE=some i)(cj:i.zero=some bl)(eg:0<i.size)(mW:i.bytes<=65536)
 (bO:wD C.P w dm X i bl n (bI K l).toArray)(ig:dW Z l)(aE:l.length=n*i.size)(aI:Z b)(gr:0<n)(a:F2 C h k b W len i.size n l=some res):
 I3 C K Z h k bg w (Builtin.append_ cM ty #[aD K (.e5 b W len i.size),X]) res:=by
 unfold F2 at a
 split at a
 ·rename_i c size fb bc
  simp only[d9]at a
  obtain⟨Hb,a⟩:=a
  have ai:C.bj<=b:=iT Hb
  obtain⟨bU,dA,bP,tZ,be,b2,a3,a4⟩:=S.obj b _ bc aI
  obtain⟨D4,amZ,alI⟩:=b2
  have yX:=S.base b _ ai bc aI
  have Ed:=(S.fb b _ bc aI).1 _ _ _ rfl
  have rm:=(S.fb b _ bc aI).2 _ _ _ rfl
  have xs:b≠k:=λE=>by have:=S.lt b aI;omega
  have nt:=qJ S
  rw[fB]at a
  split at a
  ·
   rename_i W3
   have W3:W+(len+n)*i.size<=size:=iT W3
   split at a
   ·rename_i V bL
    simp at a;subst a
    obtain⟨bz,bN,cg,cH⟩:=F0 S (cK:=k) aI ig bL
    have l0:len+n<=((K b).room-W)/i.size:=by
     rw[Y9 eg];omega
    refine⟨_,_,_,rfl,K,Z,bz, ?_,aI,cg,cH,Zj _⟩
    simp only[aD]
    refine Jq ci M cV ho aN cj bO l0 ?_
    rw[qg,ZO]
    exact bN
   ·simp at a
  ·simp only[d9,Zk]at a
   obtain⟨⟨v1,mv⟩,a⟩:=a
   have v1:=iT v1
   have y6:∀v∈bI K l,v.oneCell'=true:=abd mv
   have fj:(len+n)*i.size=len*i.size+n*i.size:=Yb ..
   rw[fB]at a
   split at a
   ·
    rename_i BV
    simp only[Zk]at BV
    have bF:W+len*i.size=size:=Zi BV.1
    have cB:W=0:=Zi BV.2
    subst cB
    have bF:len*i.size=size:=Zo
    simp only[gK,lq,li,Ze]at a
    subst a
    have rE:=S.arw ai aI bc
    by_cases l0:len+n<=((K b).room-0)/i.size
    ·
     have am0:(len+n)*i.size<=(K b).room:=by
      have:=(Y9 eg).1 l0;omega
     have ang:=Rr C.P (K b).cq ((K b).dJ+size) dA bP tZ (bI K l) 0 bU w be (D4.imp (λE=>zg E.symm) id) (by rw[jr];omega)
     ·have ug:=ang y6
      have pR:∀B,B≠(K b).cq->(w.setRow (K b).cq (kp bU ((K b).dJ+size+0) (bI K l))).heap[B]? =w.heap[B]? :=λB aP=>setRow_other w _ B _ aP
      have fN:=setRow_heap w (K b).cq bU (kp bU ((K b).dJ+size+0) (bI K l)) dA (bP,tZ) be
      have dt:=p8 (K:=K) (pl:=K b) nt
      have xt:jn C (f0 K k (K b)) (add Z k) (.cells (d0 c size l) (size+l.length) (.grow (b::fb))) (K b) (w.setRow (K b).cq (kp bU ((K b).dJ+size+0) (bI K l))):=by
       refine⟨_,dA,bP,tZ,fN,⟨by rw[wr];exact D4,Zo,by rw[wr];exact alI⟩,by rw[wr];omega,λaa v bu=> ?_⟩
       obtain⟨b9,b3⟩:=acL (K:=K) (Z:=Z) (c:=c) (bU:=bU) (dJ:=(K b).dJ) (W:=size) (n:=size+l.length) ig Zo Zo a4 aa v bu
       exact⟨by rw[pp dt b3];exact b9,nW (λ_ a=> .inl a) v b3⟩
      have PR:=rE.share (k:=k) (bz:=w.setRow (K b).cq (kp bU ((K b).dJ+size+0) (bI K l))) (pl:=K b) (cJ:= .cells (d0 c size l) (size+l.length) (.grow (b::fb))) yX rfl pR xt
       ⟨λgx aY cd a=>(by
        cases a
        intro x ag
        rcases Zl.1 ag with rfl|ag
        ·exact⟨.inl aI,ai⟩
        ·exact⟨.inl (Ed x ag).1,(Ed x ag).2⟩),
        λgx aY iz a=>(by cases a;exact MJ (Zj _) λaa v bu=>ZI (rm aa v bu) (zi _ _))⟩
       (λx c6 ag dm sR=>by
        have aad:∀gx aY,c6= .cells gx aY .jJ->aY<=size->(K x).dJ=(K b).dJ->jn C K Z c6 (K x) (w.setRow (K b).cq (kp bU ((K b).dJ+size+0) (bI K l))):=by
         intro gx aY E K3 hO
         subst E
         have cR:=(rE.fb x _ ag dm).2 _ _ _ rfl
         obtain⟨yt,as6,qE,kB,dr,eu,eI,jZ⟩:=rE.obj x _ ag dm
         rw[sR,be]at dr
         cases dr
         refine⟨_,dA,bP,tZ,by rw[sR];exact fN,by rw[wr];exact eu,by rw[wr];exact eI,λaa v bu=> ?_⟩
         obtain⟨b9,b3⟩:=jZ aa v bu
         have:=cR aa v bu
         refine⟨?_,b3⟩
         rw[Rx _ _ _ _ (by rw[jr];omega),Zg Zo]
         exact b9
        by_cases E:x=b
        ·subst E
         rw[e3 _ ai,Zr rfl]at ag;cases ag
         exact⟨aad c size rfl (Zj _) rfl, .inr (.inl ⟨_,_,_,_,_,rfl,rfl,Zs,Zo⟩), .inr (.inr ⟨_,_,_,_,_,rfl,rfl,Zs,Zo⟩),rfl⟩
        ·rw[e3 _ ai,Zg E]at ag
         obtain⟨j5,pP⟩:=S.sep b x _ c6 bc ag aI dm (λar=>E ar.symm) ai sR.symm
         rcases j5 with ⟨_,_,_,_,ar,_⟩|⟨_,_,cd,gx,aY,ar,rfl,bi,fX⟩|⟨_,_,_,_,_,_,ar,_⟩
         ·cases ar
         ·cases ar
          refine⟨aad gx aY rfl fX pP.symm, .inr (.inl ⟨_,_,_,_,_,rfl,rfl,Zn _ bi,Zo⟩), .inr (.inr ⟨_,_,_,_,_,rfl,rfl,Zn _ bi,Zo⟩),pP⟩
         ·cases ar)
      refine⟨_,_,_,rfl,f0 K k (K b),add Z k,_, ?_, .inr rfl,PR,⟨dt,λ_ a=> .inl a,λx a=>a.elim .inl (λa=> .inr Zo),λx ag cR=> ?_,Nr yX _ _⟩,Yc _⟩
      ·simp only[aD,kP]
       rw[ZS]
       refine Jq ci M cV ho aN cj bO l0 ?_
       rw[qg,bF]
       exact ug
      ·have sR:x≠b:=λE=>ag (by rw[E];exact aI)
       rw[e3 _ S.bj,Zg Zo,e3 _ ai,Zg sR]
    ·
     have Hs:(Builtin.firstCells i.size len (.slice (some ⟨(K b).cq,(K b).dJ+0,none⟩) len (((K b).room-0)/i.size))).run C.P w.drew= .ok ((bU.toList.drop (K b).dJ).take size).toArray w.drew:=by
      have n3:=run_loadCells_list (P:=C.P) w.drew ⟨(K b).cq,(K b).dJ+0,none⟩ ((bU.toList.drop (K b).dJ).take size) (λaa v bu=>by
       rw[qg]
       have bK:aa<size:=by
        have:=(Zc.1 bu).1
        simp at this;omega
       rw[YI bK,YF]at bu
       have agd:w.drew.heap[(K b).cq]? =some (.cells bU dA (bP,tZ)):=be
       simp only[World.cell?,agd]
       simpa[ZM]using bu)
      have t7:((bU.toList.drop (K b).dJ).take size).length=size:=by simp;omega
      rw[t7]at n3
      simp only[Builtin.firstCells,bF]
      exact n3
     obtain⟨cap,ay,nu⟩:=Uw (ty:=ty) ci M cV ho aN cj bO l0 mW v1 Hs
     have t7:((bU.toList.drop (K b).dJ).take size).length=size:=by simp;omega
     have Lh:size+l.length+(Builtin.zeroCells bl.cells (cap-(len+n))).size=cap*i.size:=by
      rw[acN,sS,aE, <-bF, <-Yb, <-Yb]
      congr 1;omega
     have dt:=p8 (K:=K) (pl:=⟨w.heap.size,0,cap*i.size⟩) nt
     have xt:jn C (f0 K k ⟨w.heap.size,0,cap*i.size⟩) (add Z k) (.cells (d0 c size l) (size+l.length) (.grow (b::fb))) ⟨w.heap.size,0,cap*i.size⟩
      (w.drew.alloc (.cells (((bU.toList.drop (K b).dJ).take size).toArray++(bI K l).toArray++Builtin.zeroCells bl.cells (cap-(len+n))) dE)):=by
      refine⟨_,dE,0,0,tV w.drew _,⟨.inl rfl,by simp only;omega, ?_⟩, ?_,λaa v bu=> ?_⟩
      ·simp only[YX,Yo,jr,t7];omega
      ·simp only[YX,Yo,jr,t7];omega
      ·rw[Se,U.Kd]at bu
       simp only[ZH]
       split at bu
       ·rename_i bK
        have fi:=yQ ig bu
        refine⟨?_,nW (λ_ a=> .inl a) v fi⟩
        rw[pp dt fi,Yz (by simp only[YX,Yo,jr,t7];omega),Array.getElem?_append_right (by simp only[Yo,t7];omega)]
        simp only[Yo,t7,YR,yA,bu,ZT]
       ·have bK:=rm aa v bu
        obtain⟨b9,b3⟩:=a4 aa v bu
        refine⟨?_,nW (λ_ a=> .inl a) v b3⟩
        rw[pp dt b3,Yz (by simp only[YX,Yo,jr,t7];omega),Yz (by simp only[Yo,t7];omega)]
        rw[YR,YI bK,YF,ZM]
        exact b9
     have f9:ab C (bm C (bm C h b (some (.cells c size .jJ))) k (some (.cells (d0 c size l) (size+l.length) (.grow (b::fb))))) k=some (.cells (d0 c size l) (size+l.length) (.grow (b::fb))):=by
      rw[e3 _ S.bj,Zr rfl]
     refine⟨_,_,_,rfl,f0 K k ⟨w.heap.size,0,cap*i.size⟩,add Z k,_, ?_, .inr rfl,rE.drew.alloc S.bj (YE _) (Yc _) nt eP rfl f9 (λx ag=> .inl ?_) xt ?_,N7 S eP _ (λx ag Qd=> ?_),Yc _⟩
     ·simp only[aD,kP,ZH,YH]
      simp only[ZS,YH]at nu ⊢
      rw[nu,Nat.mul_div_cancel _ eg]
     ·rw[e3 _ S.bj,Zg ag]
     ·exact⟨λgx aY cd a=>(by
           cases a
           intro x ag
           rcases Zl.1 ag with rfl|ag
           ·exact⟨.inl aI,ai⟩
           ·exact⟨.inl (Ed x ag).1,(Ed x ag).2⟩),
       λgx aY iz a=>(by cases a;exact MJ (Zj _) λaa v bu=>ZI (rm aa v bu) (zi _ _))⟩
     ·have sR:x≠b:=λE=>Qd (by rw[E];exact aI)
      rw[e3 _ S.bj,Zg ag,e3 _ ai,Zg sR]
   ·
    split at a
    ·rename_i fx n3
     simp only[lq,li,gK,Ze]at a
     subst a
     have Xq:fx.length=len*i.size:=aat n3
     have j4:cellsOf C h b=some c:=by simp[cellsOf,bc]
     have Pt:∀x,x≠b->ab C (bm C (o2 C fb h) b none) x=if x∈fb then none else ab C h x:=λx ag=>by
      rw[e3 _ ai,Zg ag,W7 _ _ _ λj T=>(Ed j T).2]
     have Xl:ab C (bm C (o2 C fb h) b none) b=none:=by rw[e3 _ ai,Zr rfl]
     have W2:cS C K Z (bm C (o2 C fb h) b none) k bg w:=S.Vx λx=>by
      by_cases E:x=b
      ·subst E;exact .inr Xl
      ·rw[Pt x E];split
       ·exact .inr rfl
       ·exact .inl rfl
     have KU:∀x,¬Z x->ab C (bm C (o2 C fb h) b none) x=ab C h x:=λx ag=>by
      have sR:x≠b:=λE=>ag (by rw[E];exact aI)
      rw[Pt x sR,Zg λbi=>ag (Ed x bi).1]
     have my:ab C (bm C (bm C (o2 C fb h) b none) k (some (.cells (U.ofList (fx++l) 0 .nil) (fx++l).length (.grow [])))) k=some (.cells (U.ofList (fx++l) 0 .nil) (fx++l).length (.grow [])):=by
      rw[e3 _ S.bj,Zr rfl]
     have ii:∀x,x≠k->ab C (bm C (bm C (o2 C fb h) b none) k (some (.cells (U.ofList (fx++l) 0 .nil) (fx++l).length (.grow [])))) x=ab C (bm C (o2 C fb h) b none) x:=λx ag=>by
      rw[e3 _ S.bj,Zg ag]
     obtain⟨KK,KL⟩:=JC S aI j4 n3
     by_cases l0:len+n<=((K b).room-W)/i.size
     ·
      have Eh:0<(len+n)*i.size:=Nat.mul_pos Zo eg
      have am0:W+(len+n)*i.size<=(K b).room:=by
       have au:=(Y9 eg).1 l0
       omega
      have ug:=Rr C.P (K b).cq ((K b).dJ+(W+len*i.size)) dA bP tZ (bI K l) 0 bU w be (D4.imp (λE=>zg E.symm) id) (by rw[jr];omega) y6
      have pR:∀B,B≠(K b).cq->(w.setRow (K b).cq (kp bU ((K b).dJ+(W+len*i.size)+0) (bI K l))).heap[B]? =w.heap[B]? :=λB aP=>setRow_other w _ B _ aP
      have fN:=setRow_heap w (K b).cq bU (kp bU ((K b).dJ+(W+len*i.size)+0) (bI K l)) dA (bP,tZ) be
      have dt:=p8 (K:=K) (pl:=⟨(K b).cq,(K b).dJ+W,(K b).room-W⟩) nt
      have auS:(fx++l).length=(len+n)*i.size:=by rw[ZQ,Xq,aE,Yb]
      have xt:jn C (f0 K k ⟨(K b).cq,(K b).dJ+W,(K b).room-W⟩) (add Z k) (.cells (U.ofList (fx++l) 0 .nil) (fx++l).length (.grow [])) ⟨(K b).cq,(K b).dJ+W,(K b).room-W⟩ (w.setRow (K b).cq (kp bU ((K b).dJ+(W+len*i.size)+0) (bI K l))):=by
       refine⟨_,dA,bP,tZ,fN,⟨by rw[wr];exact D4,by simp only;omega,by rw[wr];simp only;omega⟩,by rw[wr];simp only;omega,λaa v bu=> ?_⟩
       rw[kk]at bu
       obtain⟨b9,b3⟩:=asY (K:=K) (Z:=Z) (bU:=bU) (dJ:=(K b).dJ) (W:=W) (p:=(K b).dJ+(W+len*i.size)+0) (c:=c) (B:=0) Zo Zo KL ig (λaa v bu=>by
        have rA:aa<len*i.size:=by have:=(Zc.1 bu).1;omega
        have:=(U.Kc _ _ _ _ n3).2 aa rA
        rw[bu]at this
        have:=(a4 _ _ this).1
        rw[<-ZO]at this
        exact this) aa v bu
       exact⟨by rw[pp dt b3];exact b9,nW (λ_ a=> .inl a) v b3⟩
      have PR:=W2.share (bz:=w.setRow (K b).cq (kp bU ((K b).dJ+(W+len*i.size)+0) (bI K l))) (pl:=⟨(K b).cq,(K b).dJ+W,(K b).room-W⟩) (cJ:= .cells (U.ofList (fx++l) 0 .nil) (fx++l).length (.grow [])) yX rfl pR xt
       ⟨λgx aY cd a=>(by cases a;simp),λgx aY iz a=>(by cases a;exact E3)⟩
       (λx c6 ag dm sR=>by
        exfalso
        by_cases E:x=b
        ·subst E;rw[Xl]at ag;cases ag
        ·rw[Pt x E]at ag
         split at ag
         ·cases ag
         ·rename_i Pz
          rcases(S.sep b x _ c6 bc ag aI dm (λar=>E ar.symm) ai sR.symm).1 with ⟨_,_,_,_,ar,_⟩|⟨_,_,cd,gx,aY,ar,_,bi,_⟩|⟨_,_,_,_,_,_,ar,_⟩
          ·cases ar
          ·cases ar;exact Pz bi
          ·cases ar)
      refine⟨_,_,_,rfl,f0 K k ⟨(K b).cq,(K b).dJ+W,(K b).room-W⟩,add Z k,_, ?_, .inr rfl,PR,⟨dt,λ_ a=> .inl a,λx a=>a.elim .inl (λa=> .inr Zo),λx ag cR=> ?_,Nr yX _ _⟩,Yc _⟩
      ·simp only[aD,kP,ZS,YH]
       refine Jq ci M cV ho aN cj bO l0 ?_
       rw[qg,ZO]
       exact ug
      ·rw[e3 _ S.bj,Zg Zo,KU x ag]
     ·have alH:(Builtin.firstCells i.size len (.slice (some ⟨(K b).cq,(K b).dJ+W,none⟩) len (((K b).room-W)/i.size))).run C.P w.drew= .ok (bI K fx).toArray w.drew:=by
       obtain⟨alO,_⟩:=JC S.drew aI j4 n3
       simp[Builtin.firstCells,alO]
      obtain⟨c1,di,bz,eH,fk,hh,nH⟩:=Wa (ty:=ty) S eP (s:= .e5 b W len i.size) (bP:=fx) sS ci M cV ho aN cj eg mW bO ig aE KL Xq l0 rfl alH v1 []
       my W2 (λx ag=> .inl (ii x ag)) (λx ag Qd=>by rw[ii x ag,KU x Qd]) Zs
      exact⟨_,_,_,rfl,c1,di,bz,eH,fk,hh,nH,Yc _⟩
    ·simp at a
 ·simp at a
end
end
end
end Go.al

namespace Go.al
open Go.RowKit (Below)
section
variable{C:aX}{K c1:cY}{Z di:Nat->Prop}{h V:U an}{k av bg:Nat}{w bz:World}
section
variable{cM:Array TypeId}{ty st h9 dE:TypeId}{i:TypeInfo}{dm:TypeDesc}{X bl:Value}{n:Nat}{l:List H}
theorem Wb(S:cS C K Z h k bg w)(eP:bg<=w.heap.size){s:H}{base:Option Addr}{gu kK:Nat}{bP:List H}{res:dz}(sS:bl.cells.size=i.size)
 (ci:cM[0]? =some st)(M:cM[1]? =some h9)(cV:C.P.underlying st=some (.slice dE))(ho:C.P.underlying h9=some dm)(aN:C.P.info? dE=some i)(cj:i.zero=some bl)(eg:0<i.size)(mW:i.bytes<=65536)
 (bO:wD C.P w dm X i bl n (bI K l).toArray)(ig:dW Z l)(aE:l.length=n*i.size)(Ov:dW Z bP)(nr:bP.length=gu*i.size)(aS:¬(gu+n<=kK))(aH:aD K s= .slice base gu kK)
 (bc:(Builtin.firstCells i.size gu (.slice base gu kK)).run C.P w.drew= .ok (bI K bP).toArray w.drew)(a:sA C h k (gu+n) i.size (bP++l)=some res):
 I3 C K Z h k bg w (Builtin.append_ cM ty #[aD K s,X]) res:=by
 obtain⟨v1,rfl⟩:=V9 a
 obtain⟨c1,di,bz,eH,fk,hh,nH⟩:=Wa (ty:=ty) S eP (V:=h) sS ci M cV ho aN cj eg mW bO ig aE Ov nr aS aH bc v1 (bb:=bm C h k (some (.cells (U.ofList (bP++l) 0 .nil) (bP++l).length (.grow [])))) []
  (by rw[e3 _ S.bj,Zr rfl]) S (λx ag=> .inl (by rw[e3 _ S.bj,Zg ag])) (λx ag _=>by rw[e3 _ S.bj,Zg ag]) Zs
 exact⟨_,_,_,rfl,c1,di,bz,eH,fk,hh,nH,Yc _⟩
theorem Uu(S:cS C K Z h k bg w)(eP:bg<=w.heap.size)(sS:bl.cells.size=i.size){s:H}{res:dz}
 (ci:cM[0]? =some st)(M:cM[1]? =some h9)(cV:C.P.underlying st=some (.slice dE))(ho:C.P.underlying h9=some dm)(aN:C.P.info? dE=some i)(cj:i.zero=some bl)(eg:0<i.size)(mW:i.bytes<=65536)
 (bO:wD C.P w dm X i bl n (bI K l).toArray)(ig:dW Z l)(aE:l.length=n*i.size)(aC:b0 Z s)(gr:0<n)(a:wN C h k i.size n l s=some res):
 I3 C K Z h k bg w (Builtin.append_ cM ty #[aD K s,X]) res:=by
 unfold wN at a
 split at a
 ·refine Wb (gu:=0) (kK:=0) (bP:=[]) (base:=none) S eP sS ci M cV ho aN cj eg mW bO ig aE trivial Zs Zo rfl ?_ (by simpa using a)
  simp[Builtin.firstCells,bI]
 ·rename_i b W len cap
  rw[fB]at a
  split at a
  ·rename_i l0
   have l0:=iT l0
   split at a
   ·rename_i V bL
    simp at a;subst a
    obtain⟨bz,bN,cg,cH⟩:=F0 S (cK:=k) aC ig bL
    refine⟨_,_,_,rfl,K,Z,bz, ?_,aC,cg,cH,Zj _⟩
    simp only[aD]
    refine Jq ci M cV ho aN cj bO l0 ?_
    rw[qg,ZO]
    exact bN
   ·simp at a
  ·rename_i l0
   have l0:¬(len+n<=cap):=λar=>l0 (by simpa using ar)
   split at a
   ·rename_i fx n3
    obtain⟨bN,cg⟩:=ajf (bd:=i.size) (cap:=cap) S aC n3
    exact Wb S eP sS ci M cV ho aN cj eg mW bO ig aE cg (NE n3) l0 rfl bN a
   ·simp at a
 ·rename_i b W len wu
  simp only[d9]at a
  obtain⟨aW,a⟩:=a
  have aW:=Zi aW
  subst aW
  exact agN S eP sS ci M cV ho aN cj eg mW bO ig aE aC gr a
 ·simp at a
end
def MQ(C:aX)(K:cY)(Z:Nat->Prop)(h:U an)(k bg:Nat)(w:World)(s:Sem Value)(res:dz):Prop:=
 I3 C K Z h k bg w s res\/∃v,res= .val v/\b0 Z v/\s.run C.P w= .ok (aD K v) w
theorem Ug(S:cS C K Z h k bg w)(eP:bg<=w.heap.size){cM:Array TypeId}{ty st h9:TypeId}{dm:TypeDesc}{s x:H}{res:dz}
 (ci:cM[0]? =some st)(M:cM[1]? =some h9)(ho:C.P.underlying h9=some dm)(vS:dm= .string\/∃E,dm= .slice E)(aC:b0 Z s)(ek:b0 Z x)(a:Di C h k st s x=some res):
 MQ C K Z h k bg w (Builtin.append_ cM ty #[aD K s,aD K x]) res:=by
 unfold Di at a
 split at a
 ·rename_i dE cV
  split at a
  ·rename_i i aN
   split at a
   ·rename_i n l iX
    simp only[d9,Zk]at a
    obtain⟨⟨⟨eg,mW⟩,Ln⟩,a⟩:=a
    have eg:=kd eg
    have mW:=iT mW
    obtain⟨bl,cj,sS⟩:∃bl,i.zero=some bl/\bl.cells.size=i.size:=by
     unfold acO at Ln
     split at Ln
     ·rename_i bl cj
      exact⟨bl,cj,Zi Ln⟩
     ·simp at Ln
    obtain⟨bO,ig,aE⟩:=asq (bl:=bl) S ek vS iX
    rw[gX]at a
    split at a
    ·rename_i aS
     subst aS
     have:l=[]:=Y4.1 (by rw[aE];simp)
     subst this
     obtain⟨v,eH,fk,hh⟩:=Uv (ty:=ty) S ci M cV ho aN eg (agO bO) aC a
     exact .inr ⟨v,eH,fk,hh⟩
    ·exact .inl (Uu S eP sS ci M cV ho aN cj eg mW bO ig aE aC Zo a)
   ·simp at a
  ·simp at a
 ·simp at a
theorem agl(S:cS C K Z h k bg w)(eP:bg<=w.heap.size){cM:Array TypeId}{ty st h9:TypeId}{ar:IntKind}{s x:H}{n:Nat}{res:dz}
 (ci:cM[0]? =some st)(M:cM[1]? =some h9)(ho:C.P.underlying h9=some (.int ar))(aC:b0 Z s)(ag:m4 x=some n)(a:Jj C h k st s n=some res):
 MQ C K Z h k bg w (Builtin.append_ cM ty #[aD K s,aD K x]) res:=by
 obtain⟨B,rfl⟩:=Cs ag
 unfold Jj at a
 split at a
 ·rename_i dE cV
  split at a
  ·rename_i i bl aN kV
   simp only[d9,Zk]at a
   obtain⟨⟨⟨⟨eg,mW⟩,Eu⟩,xs⟩,a⟩:=a
   have eg:=kd eg
   have mW:=iT mW
   have xs:=iT xs
   have Eu:bl.cells.length=i.size:=Zi Eu
   have cj:i.zero=some (aD K bl)/\b0 Z bl:=by
    unfold qa at kV
    rw[aN]at kV
    simp only at kV
    split at kV
    ·rename_i ad aZ
     obtain⟨E,g⟩:=LX (K:=K) (Z:=Z) kV
     exact⟨by rw[aZ,E],g⟩
    ·simp at kV
   rw[gX]at a
   split at a
   ·rename_i aS
    subst aS
    obtain⟨v,eH,fk,hh⟩:=Uv (ty:=ty) S ci M cV ho aN eg (.inr ⟨⟨ar,rfl⟩,B,rfl⟩) aC a
    exact .inr ⟨v,eH,fk,hh⟩
   ·rename_i aS
    have bO:wD C.P w (.int ar) (aD K (.int B (Int.ofNat n))) i (aD K bl) n (bI K (jG n bl.cells)).toArray:=
     .inr ⟨⟨ar,rfl⟩,⟨B,rfl⟩,xs,mW,by have:=Nat.mul_pos (Nat.pos_of_ne_zero aS) eg;omega,(acM K bl n).symm⟩
    exact .inl (Uu S eP (by rw[tr];simp[jr,Eu]) ci M cV ho aN cj.1 eg mW bO (Kg (sn cj.2) n) (by rw[CQ,Eu]) aC Zo a)
  ·simp at a
 ·simp at a
end
end Go.al

namespace Go.al
open Go.RowKit (Below)
section
variable{C:aX}{K c1:cY}{Z di:Nat->Prop}{h V:U an}{k av bg:Nat}{w bz:World}
def jm(C:aX)(K:cY)(Z:Nat->Prop)(h:U an)(k bg:Nat)(w:World)(s:Sem Value)(v:H)(V:U an)(av:Nat):Prop:=
 ∃c1 di bz,s.run C.P w= .ok (aD c1 v) bz/\b0 di v/\cS C c1 di V av bg bz/\hS C k K Z h bg w c1 di V bz/\k<=av
theorem jm.done{s:Sem Value}{v:H}(a:jm C K Z h k bg w s v V av):yi C K Z h k bg w (do pure (.value (<-s))) v V av:=by
 obtain⟨c1,di,bz,M,R,au,aM,bA⟩:=a
 exact⟨c1,di,bz, .value (aD c1 v),by simp[M], .inl rfl,R,au,aM,bA⟩
theorem jm.same(S:cS C K Z h k bg w){s:Sem Value}{v:H}(a:s.run C.P w= .ok (aD K v) w)(g:b0 Z v):jm C K Z h k bg w s v h k:=
 ⟨K,Z,w,a,g,S, .refl,Zj _⟩
theorem Il(S:cS C K Z h k bg w)(eP:bg<=w.heap.size){s:Sem Value}{v:H}{cJ:an}{W:Obj}(aH:s.run C.P w= .ok (aD (f0 K k ⟨w.heap.size,0,0⟩) v) (w.alloc W))(fi:b0 (add Z k) v)
 (bc:jn C (f0 K k ⟨w.heap.size,0,0⟩) (add Z k) cJ ⟨w.heap.size,0,0⟩ (w.alloc W))(qw:tk C (add Z k) cJ):jm C K Z h k bg w s v (bm C h k (some cJ)) (k+1):=by
 have ai:=S.bj
 refine⟨_,_,_,aH,fi,S.alloc ai (YE _) (Yc _) (qJ S) eP rfl (by rw[e3 _ ai,Zr rfl]) (λx ag=> .inl (by rw[e3 _ ai,Zg ag])) bc qw, ?_,Yc _⟩
 exact⟨p8 (qJ S),λ_ a=> .inl a,λx a=>a.elim .inl (λa=> .inr Zo),λx ag aE=>by rw[e3 _ ai,Zg Zo],Below.alloc (Below.refl bg w) eP W⟩
theorem Ik{W:an}{B:Nat->H}{res:dz}(a:lq C h k W B=some res):res= .eW (B k) (bm C h k (some W)) (k+1):=by
 unfold lq at a
 simp only[li,gK,Ze]at a
 exact a.symm
theorem apk(S:cS C K Z h k bg w){t:Nat}{m B:Operand}{aw:Operand->Value}{d5:Operand->Option H}{res:dz}(cn:iC K Z aw d5 [m,B])(a:GW C t m B h k d5=some res):
 ∃v V,res= .eW v V k/\jm C K Z h k bg w (Instr.mapEntry t (aw m) (aw B)) v V k:=by
 unfold GW at a
 split at a
 ·rename_i hd su r ji aZ bi aP
  obtain⟨em,mR⟩:=cn m Zs _ bi
  obtain⟨aiq,jw⟩:=cn B Zs _ aP
  rw[em,aiq]
  split at a
  ·rename_i a2 cw bc
   simp only[d9]at a
   obtain⟨Hi,a⟩:=a
   obtain⟨eE,oW⟩:=Lv Hi
   obtain⟨bU,be,b2,a3,a4⟩:=rO S mR bc
   have M:=Jl (C:=C) (K:=K) (Z:=Z) (w:=w) (E:=false) 20 10000 hd ji Zd jw Hi
   split at a
   ·rename_i i ad b5
    have R:=Bx S oW jw a4 b5
    obtain⟨_,E,aW,rfl⟩:=J3 a2 0 i ad b5
    simp only[YH]at aW
    rw[m5,aW]at a
    obtain⟨eA,gO,born⟩:=E
    simp only[d9]at a
    obtain⟨KW,a⟩:=a
    obtain⟨rfl,ai⟩:=x4 a
    have bV:=a4 _ (Zp aW)
    obtain⟨bz,bN,cg,cH⟩:=CN S (cK:=k) ai mR bc (vr:=cw) (jt:=a2.set i (ji,gO,born)) (QP (λE=>{E with key:=aD K ji}) a3 aW rfl) (Ox a4 ⟨jw,bV.2⟩)
    refine⟨_,_,rfl,K,Z,bz, ?_,⟨bV.2,trivial,trivial⟩,cg,cH,Zj _⟩
    simp[Instr.mapEntry,run_underlying aZ,aD,bI,be,M,a3,R,po,N3 a3 aW,fo,aaf bV.1 jw KW,bN,goInt]
   ·rename_i b5
    have R:=Bx S oW jw a4 b5
    split at a
    ·rename_i bl cj
     obtain⟨fI,fs⟩:=x1 cj K Z w
     obtain⟨rfl,ai⟩:=x4 a
     obtain⟨bz,bN,cg,cH⟩:=CN S (cK:=k) ai mR bc (vr:=cw+1) (jt:=a2++[(ji,bl,cw)]) (yt:=bU.push {key:=aD K ji,val:=aD K bl,born:=cw}) (by simp[a3,fo])
      (λE aW=>(Zw.1 aW).elim (a4 E) (λaW=>by simp at aW;subst aW;exact⟨jw,fs⟩))
     refine⟨_,_,rfl,K,Z,bz, ?_,⟨fs,trivial,trivial⟩,cg,cH,Zj _⟩
     simp[Instr.mapEntry,run_underlying aZ,aD,bI,be,M,a3,R,po,fI,bN,goInt]
    ·simp at a
   ·simp at a
  ·simp at a
 ·simp at a
theorem ajd{
 born:Nat}:∀(a2:List (H×H×Nat)),(a2.map (fo K)).findIdx? (λE=>((E.born:Int)==(Int.ofNat born)))=a2.findIdx? (λE=>Nat.beq E.2.2 born):=by
 intro a2
 induction a2 with
 |nil=>rfl
 |cons E a2 ah=>
  simp only[Zy,List.findIdx?_cons,ah,fo]
  have:(((E.2.2:Nat):Int)==Int.ofNat born)=Nat.beq E.2.2 born:=by
   rw[ZY,YZ]
   exact⟨λa=>by
    have:E.2.2=born:=Int.ofNat.inj a
    rw[this];exact Y6 _,λa=>by rw[Zi a];rfl⟩
  rw[this]
theorem ait(S:cS C K Z h k bg w){t:Nat}{m s x:Operand}{aw:Operand->Value}{d5:Operand->Option H}{res:dz}(cn:iC K Z aw d5 [m,s,x])(a:GO C m s x h k d5=some res):
 ∃V bz,res= .eW undef V k/\(Instr.entryStore t (aw m) (aw s) (aw x)).run C.P w= .ok () bz/\cS C K Z V k bg bz/\hS C k K Z h bg w K Z V bz:=by
 unfold GO at a
 split at a
 ·rename_i r ar born v bi aH ag
  obtain⟨em,mR⟩:=cn m Zs _ bi
  obtain⟨jt,_⟩:=cn s Zs _ aH
  obtain⟨ex,ek⟩:=cn x Zs _ ag
  rw[em,jt,ex]
  split at a
  ·rename_i a2 cw bc
   obtain⟨bU,be,b2,a3,a4⟩:=rO S mR bc
   split at a
   ·rename_i i aN
    rw[m5]at a
    split at a
    ·rename_i B ad b aW
     obtain⟨rfl,ai⟩:=x4 a
     have bV:=a4 _ (Zp aW)
     obtain⟨bz,bN,cg,cH⟩:=CN S (cK:=k) ai mR bc (vr:=cw) (jt:=a2.set i (B,v,b)) (QP (λE=>{E with val:=aD K v}) a3 aW rfl) (Ox a4 ⟨bV.1,ek⟩)
     refine⟨_,bz,rfl, ?_,cg,cH⟩
     have alY:bU.findIdx? (λE=>((E.born:Int)==(born:Int)))=some i:=by
      have aG:bU=(a2.map (fo K)).toArray:=by apply YM;simpa using a3
      rw[aG,List.findIdx?_toArray, <-aN]
      exact ajd a2
     simp[Instr.entryStore,aD,be,asInt,asIntOf,alY,bN]
    ·simp at a
   ·simp at a
  ·simp at a
 ·simp at a
theorem apn{α er:Type}(g:α->er):∀(l:List α) (i:Nat),(l.map g).eraseIdx i=(l.eraseIdx i).map g:=by
 intro l
 induction l with
 |nil=>intro i;rfl
 |cons I l ah=>intro i;cases i with
  |zero=>rfl
  |succ i=>simp[ah]
theorem ahY(S:cS C K Z h k bg w){t:Nat}{m B:H}{res:dz}{cM:Array TypeId}{ty:TypeId}(ci:cM[0]? =some t)(mR:b0 Z m)(jw:b0 Z B)(a:Ji C h k t m B=some res):
 ∃v V,res= .eW v V k/\jm C K Z h k bg w (Builtin.delete_ cM ty #[aD K m,aD K B]) v V k:=by
 unfold Ji at a
 split at a
 ·rename_i hd su r aZ
  split at a
  ·rename_i a2 cw bc
   simp only[d9]at a
   obtain⟨Hi,a⟩:=a
   obtain⟨eE,oW⟩:=Lv Hi
   obtain⟨bU,be,b2,a3,a4⟩:=rO S mR bc
   have M:=Jl (C:=C) (K:=K) (Z:=Z) (w:=w) (E:=bU.isEmpty) 20 10000 hd B Zd jw Hi
   split at a
   ·rename_i i ad b5
    have R:=Bx S oW jw a4 b5
    obtain⟨rfl,ai⟩:=x4 a
    obtain⟨_,E,aW,rfl⟩:=J3 a2 0 i ad b5
    simp only[YH]at aW
    have cR:i<bU.size:=by
     have:=(Zc.1 aW).1
     rw[<-Array.length_toList,a3,Zu];exact this
    obtain⟨bz,bN,cg,cH⟩:=CN S (cK:=k) ai mR bc (vr:=cw) (jt:=a2.eraseIdx i) (yt:=bU.eraseIdxIfInBounds i) (by rw[Array.toList_eraseIdxIfInBounds,a3,apn])
     (λE aW=>a4 E (List.mem_of_mem_eraseIdx aW))
    refine⟨_,_,rfl,K,Z,bz, ?_,trivial,cg,cH,Zj _⟩
    simp[Builtin.delete_,ci,run_underlying aZ,aD,bI,be,M,a3,R,po,bN]
   ·rename_i b5
    have R:=Bx S oW jw a4 b5
    obtain⟨rfl,ai⟩:=x4 a
    obtain⟨bz,bN,cg,cH⟩:=CN S (cK:=k) ai mR bc (vr:=cw) (jt:=a2) a3 a4
    refine⟨_,_,rfl,K,Z,bz, ?_,trivial,cg,cH,Zj _⟩
    simp[Builtin.delete_,ci,run_underlying aZ,aD,bI,be,M,a3,R,po,bN]
   ·simp at a
  ·simp at a
 ·simp at a
theorem api(S:cS C K Z h k bg w)(eP:bg<=w.heap.size){t:Nat}{l c:Operand}{aw:Operand->Value}{d5:Operand->Option H}{res:dz}(cn:iC K Z aw d5 [l,c])(a:GV C t l c h k d5=some res):
 ∃v V av,res= .eW v V av/\jm C K Z h k bg w (Instr.makeSlice t (aw l) (aw c)) v V av:=by
 unfold GV at a
 split at a
 ·rename_i dE avN Gb aZ aE ay
  obtain⟨ss,_⟩:=cn l Zs _ aE
  obtain⟨aio,_⟩:=cn c Zs _ ay
  rw[ss,aio]
  split at a
  ·rename_i QH kR i bl fw vQ aN cj
   obtain⟨cb,rfl⟩:=Cs fw
   obtain⟨b1,rfl⟩:=Cs vQ
   simp only[d9,Zk]at a
   obtain⟨⟨⟨⟨⟨M,R⟩,au⟩,aM⟩,bA⟩,a⟩:=a
   have M:=iT M
   have R:=iT R
   have au:=iT au
   have aM:=kd aM
   have bA:bl.cells.length=i.size:=Zi bA
   have:=Ik a;subst this
   obtain⟨fI,fs⟩:=x1 cj K Z w
   refine⟨_,_,_,rfl,Il S eP (W:= .cells (bI K (jG kR bl.cells)).toArray dE) ?_ (.inr rfl) ?_ ⟨λ_ _ _ a=>(by cases a),λ_ _ _ a=>(by cases a;rw[<-bA, <-CQ];exact E3)⟩⟩
   ·have kr:=wrap_small (n:=QH) Zo
    have r4:=wrap_small R
    have np:¬((281474976710656:Int)<(i.bytes:Int)*(kR:Int)):=by
     rw[Int.mul_comm];exact Ny R au
    have vN:¬((kR:Int)<0):=Zo
    have n3:¬((QH:Int)<0):=Zo
    have xp:¬((kR:Int)<(QH:Int)):=Zo
    have Ej:=abM K bl.cells i.size kR bA (if kR*i.size=0 then #[]else(aD K bl).cells) (λdv=>by rw[Zg dv,tr])
    by_cases kV:kR*i.size=0
    ·rw[Zr kV]at Ej
     rw[<-Ej]
     simp[Instr.makeSlice,run_underlying aZ,aD,asInt,asIntOf,typeInfo,aN,kr,r4,np,vN,n3,xp,sizeOf,kV,newRow,kP]
    ·rw[Zg kV]at Ej
     rw[<-Ej]
     simp[Instr.makeSlice,run_underlying aZ,aD,asInt,asIntOf,typeInfo,aN,kr,r4,np,vN,n3,xp,sizeOf,kV,newRow,kP,fI]
   ·have g:=Kg (sn fs) kR
    have:=JB (C:=C) (K:=f0 K k ⟨w.heap.size,0,0⟩) (Z:=add Z k) (qp (λ_ a=> .inl a) _ g) dE 0 w
    rw[wU (p8 (qJ S)) g,CQ,bA]at this
    exact this
  ·simp at a
 ·simp at a
theorem apg(S:cS C K Z h k bg w)(eP:bg<=w.heap.size){t:Nat}{r:Operand}{aw:Operand->Value}{d5:Operand->Option H}{res:dz}(cn:iC K Z aw d5 [r])(a:GU C t r h k d5=some res):
 ∃v V av,res= .eW v V av/\jm C K Z h k bg w (Instr.makeMap t (some (aw r))) v V av:=by
 unfold GU at a
 split at a
 ·rename_i hd su ar n aZ ag
  obtain⟨E,_⟩:=cn r Zs _ ag
  have:=Ik a;subst this
  refine⟨_,_,_,rfl,Il S eP (W:= .map #[] 0) ?_ (.inr rfl) ⟨#[],tV _ _,rfl,Zs⟩ ⟨λ_ _ _ a=>(by cases a),λ_ _ _ a=>(by cases a)⟩⟩
  simp[Instr.makeMap,run_underlying aZ,E,aD,asInt,asIntOf,kP]
 ·simp at a
theorem arb(S:cS C K Z h k bg w)(eP:bg<=w.heap.size){t:Nat}{x:Operand}{aw:Operand->Value}{d5:Operand->Option H}{res:dz}(cn:iC K Z aw d5 [x])(a:GX C t x h k d5=some res):
 ∃v V av,res= .eW v V av/\jm C K Z h k bg w (Instr.range t (aw x)) v V av:=by
 have dt:=p8 (K:=K) (pl:=⟨w.heap.size,0,0⟩) (qJ S)
 unfold GX at a
 split at a
 ·rename_i s aZ ag
  obtain⟨E,g⟩:=cn x Zs _ ag
  have:=Ik a;subst this
  refine⟨_,_,_,rfl,Il S eP (W:= .stringIter (fd s) 0) ?_ (.inr rfl) ⟨rfl,tV _ _,g⟩ ⟨λ_ _ _ a=>(by cases a),λ_ _ _ a=>(by cases a)⟩⟩
  simp[Instr.range,run_underlying aZ,E,aD,kP]
 ·rename_i hd su aZ ag
  obtain⟨E,g⟩:=cn x Zs _ ag
  have:=Ik a;subst this
  refine⟨_,_,_,rfl,Il S eP (W:= .mapIter none 0 #[] 0) ?_ (.inr rfl) ⟨rfl,tV _ _,Zs⟩ ⟨λ_ _ _ a=>(by cases a),λ_ _ _ a=>(by cases a)⟩⟩
  simp[Instr.range,run_underlying aZ,E,aD,kP]
 ·rename_i hd su r aZ ag
  obtain⟨E,g⟩:=cn x Zs _ ag
  split at a
  ·rename_i a2 cw bc
   have:=Ik a;subst this
   obtain⟨bU,be,b2,a3,a4⟩:=rO S g bc
   refine⟨_,_,_,rfl,Il S eP (W:= .mapIter (some (K r).cq) cw #[] cw) ?_ (.inr rfl) ⟨rfl, ?_,λb ai=>by cases ai;exact .inl g⟩ ⟨λ_ _ _ a=>(by cases a),λ_ _ _ a=>(by cases a)⟩⟩
   ·simp[Instr.range,run_underlying aZ,E,aD,kP,be]
   ·rw[tV];simp only[ZT,dt r g]
  ·simp at a
 ·simp at a
end
end Go.al

