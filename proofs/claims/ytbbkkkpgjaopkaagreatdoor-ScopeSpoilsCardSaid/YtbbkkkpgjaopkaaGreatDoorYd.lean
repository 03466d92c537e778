/- Part of the proof of the last text; no conditions -/
import Derived.Test.YtbbkkkpgjaopkaaGreatDoorYc
import Derived.Laws.RangeString
set_option maxHeartbeats 8000000
set_option linter.all false
namespace Go.bs
open Go.RowKit (Below)
def aml(rn d5:Nat)(Fl:rn+(rn+768)/4<=d5):∀(r c:Nat),c<=d5->Builtin.growBy rn r c<=d5:=by
 intro r
 induction r with
 |zero=>intro c a;exact a
 |succ r aj=>
  intro c a
  simp only[Builtin.growBy]
  split
  ·exact a
  ·exact aj _ Zo
def nextslicecap_le{rn Bw:Nat}(a:Bw<rn):Builtin.nextslicecap rn Bw<=2*rn+200:=by
 unfold Builtin.nextslicecap
 split
 ·omega
 ·split
  ·omega
  ·exact aml rn _ Zo 4 Bw Zo
def auj{rn Bw bytes:Nat}(a:Bw<rn)(aI:rn<=1048576)(al:bytes<=65536):¬(Builtin.nextslicecap rn Bw*bytes>2^48):=by
 have H:=nextslicecap_le a
 have K:Builtin.nextslicecap rn Bw*bytes<=(2*1048576+200)*65536:=Nat.mul_le_mul Zo al
 have am:(2:Nat)^48=281474976710656:=by decide
 omega
def wrap_small{n:Nat}(aI:n<=1048576):IntKind.i64.wrap (n:Int)=n:=by
 rw[<-aeN]
 simp only[ps,eQ,Zi]
 have H:(n:Int)%18446744073709551616=n:=YX Zo Zo
 rw[H,Zu Zo]
def Pe{n b:Nat}(H:n<=1048576)(K:b<=65536):¬((281474976710656:Int)<(n:Int)*(b:Int)):=by
 have am:n*b<=1048576*65536:=Nat.mul_le_mul H K
 have:((n*b:Nat):Int)<=((1048576*65536:Nat):Int):=Int.ofNat_le.2 am
 rw[Int.natCast_mul]at this
 omega
def wR(P:Program)(w:World)(du:TypeDesc)(X:Value)(i:TypeInfo)(bo:Value)(n:Nat)(new:Array Value):Prop:=
 ((du= .string\/∃D,du= .slice D)/\(Builtin.lenOf X).run P w= .ok n w/\(Builtin.firstCells i.size n X).run P w= .ok new w/\(Builtin.firstCells i.size n X).run P w.drew= .ok new w.drew)\/
 ((∃ai,du= .int ai)/\(∃q,X= .int q (Int.ofNat n))/\n<=1048576/\i.bytes<=65536/\n*i.size≠0/\new=Builtin.zeroCells bo.cells n)
section
variable{P:Program}{w w':World}{cX:Array TypeId}{ty st iq d6:TypeId}{i:TypeInfo}{du:TypeDesc}{base:Option Addr}{gP ln n:Nat}{X bo:Value}{pX new:Array Value}
def KJ{E:Addr}(bi:cX[0]? =some st)(H:cX[1]? =some iq)(cI:P.underlying st=some (.slice d6))(hE:P.underlying iq=some du)(aF:P.info? d6=some i)(cf:i.zero=some bo)
 (bN:wR P w du X i bo n new)(aI:gP+n<=ln)(aE:(storeCells (E.add (gP*i.size)) new.toList).run P w= .ok () w'):
 (Builtin.append_ cX ty #[.slice (some E) gP ln,X]).run P w= .ok (.slice (some E) (gP+n) ln) w':=by
 have PH:(#[Value.slice (some E) gP ln,X]:Array Value)[0]? =some (.slice (some E) gP ln):=rfl
 have bB:(#[Value.slice (some E) gP ln,X]:Array Value)[1]? =some X:=rfl
 clear PH bB
 rcases bN with ⟨fX,hx,jK,_⟩|⟨⟨ai,rfl⟩,⟨q,rfl⟩,hx,jK,lq,rfl⟩
 ·rcases fX with rfl|⟨_,rfl⟩<;>simp[Builtin.append_,bi,H,run_underlying cI,run_underlying hE,sizeOf,typeInfo,aF,hx,aI,jK,aE]
 ·have gI:=Pe hx jK
  have aB:¬((n:Int)<0):=Zo
  have br:=wrap_small hx
  simp[Builtin.append_,bi,H,run_underlying cI,run_underlying hE,sizeOf,typeInfo,aF,asInt,asIntOf,br,gI,aB,aI,lq,zeroValue,cf,aE]
def We(bi:cX[0]? =some st)(H:cX[1]? =some iq)(cI:P.underlying st=some (.slice d6))(hE:P.underlying iq=some du)(aF:P.info? d6=some i)(cf:i.zero=some bo)
 (bN:wR P w du X i bo n new)(aI:¬(gP+n<=ln))(al:i.bytes<=65536)(v6:gP+n<=1048576)(bd:(Builtin.firstCells i.size gP (.slice base gP ln)).run P w.drew= .ok pX w.drew):
 ∃cap,gP+n<=cap/\(Builtin.append_ cX ty #[.slice base gP ln,X]).run P w=
  .ok (.slice (some ⟨w.heap.size,0,none⟩) (gP+n) cap) (w.drew.alloc (.cells (pX++new++Builtin.zeroCells bo.cells (cap-(gP+n))) d6)):=by
 have V:=auj (rn:=gP+n) (Bw:=ln) Zo v6 al
 have ml:¬(281474976710656<Builtin.nextslicecap (gP+n) ln*i.bytes):=by
  have am:(2:Nat)^48=281474976710656:=by decide
  omega
 have bc:¬((9223372036854775807:Int)<(gP:Int)+(n:Int)):=Zo
 refine⟨gP+n+(w.tape w.drawn (.appendCap (gP+n) ln d6))%(2^63-(gP+n)),Zo, ?_⟩
 have eh:w.drew.heap.size=w.heap.size:=rfl
 have tr:IntKind.i64.max=9223372036854775807:=by decide
 rcases bN with ⟨fX,hx,jK,lq⟩|⟨⟨ai,rfl⟩,⟨q,rfl⟩,hx,jK,lq,rfl⟩
 ·rcases fX with rfl|⟨_,rfl⟩<;>
   simp[Builtin.append_,bi,H,run_underlying cI,run_underlying hE,sizeOf,typeInfo,aF,hx,aI,lq,zeroValue,cf,tr,bc,ml,Question.forced,Question.cut,bd,newRow,eh]
 ·have gI:=Pe hx jK
  have aB:¬((n:Int)<0):=Zo
  have br:=wrap_small hx
  simp[Builtin.append_,bi,H,run_underlying cI,run_underlying hE,sizeOf,typeInfo,aF,asInt,asIntOf,br,gI,aB,aI,lq,zeroValue,cf,tr,bc,ml,Question.forced,Question.cut,bd,newRow,eh]
end
structure wV(P:Program):Prop where
 mixed:P.follows .mixedOrders=true
 num:∀(f:Nat) fn,P.funcs[f]? =some fn->fn.body.isSome=true->(fn.name== "runtime.NumGoroutine")=false
section
variable{C:aT}{J c0:cU}{aa dn:Nat->Prop}{h R:M ak}{j au bj:Nat}{w w':World}
def c9.same(V:c9 C J aa h j bj w)(br:w'.heap=w.heap):c9 C J aa h j bj w':=
 ⟨V.aY,V.lt,V.u4,λb W a d=>(V.obj b W a d).ad (λ_ _=>rfl) (λ_ a=>a) (by rw[br]),V.sep,V.base,V.ez⟩
def c9.drew(V:c9 C J aa h j bj w):c9 C J aa h j bj w.drew:=V.same rfl
def c9.at9(V:c9 C J aa h j bj w){b:Nat}{c:M y}{n:Nat}{ez:List Nat}(al:C.aY<=b)(aH:aa b)(hC:Z C h b=some (.cells c n (.grow ez))):
 c9 C J aa (bl C h b (some (.cells c n .j1))) j bj w:=by
 have o2:Z C (bl C h b (some (.cells c n .j1))) b=some (.cells c n .j1):=by rw[fF _ al,Zu rfl]
 have jz:∀x,x≠b->Z C (bl C h b (some (.cells c n .j1))) x=Z C h x:=λx af=>by rw[fF _ al,Zg af]
 refine⟨V.aY,V.lt, ?_, ?_, ?_, ?_, ?_⟩
 ·intro x dd af
  by_cases D:x=b
  ·subst D;exact V.lt x aH
  ·exact V.u4 x dd (by rw[<-jz x D,af])
 ·intro x dd af du
  by_cases D:x=b
  ·subst D
   rw[o2]at af;cases af
   obtain⟨cd,ty,bR,aF,H,K,am,aC⟩:=V.obj x _ hC aH
   exact⟨cd,ty,bR,aF,H,⟨trivial,K.2⟩,am,aC⟩
  ·exact V.obj x dd (by rw[<-jz x D,af]) du
 ·intro x e dd pZ af B du oL cE l0 dJ
  by_cases D:x=b
  ·subst D
   rw[o2]at af;cases af
   rw[jz e λai=>cE ai.symm]at B
   obtain⟨H,K⟩:=V.sep x e _ pZ hC B du oL cE l0 dJ
   refine⟨?_,K⟩
   rcases H with ⟨_,_,_,_,ai,_⟩|⟨_,_,k,gC,aS,ai,cH,aB⟩|⟨_,_,_,_,_,_,ai,_⟩
   ·cases ai
   ·exact .inl ⟨c,n,gC,aS,rfl,cH⟩
   ·cases ai
  ·rw[jz x D]at af
   by_cases cp:e=b
   ·subst cp
    rw[o2]at B;cases B
    obtain⟨H,K⟩:=V.sep x e dd _ af hC du oL cE l0 dJ
    refine⟨?_,K⟩
    rcases H with ⟨_,_,_,_,_,ai⟩|⟨_,_,k,gC,aS,_,ai,aB⟩|⟨gC,aS,_,_,_,ai,cH,_⟩
    ·cases ai
    ·cases ai
    ·exact .inl ⟨gC,aS,c,n,cH,rfl⟩
   ·rw[jz e cp]at B
    exact V.sep x e dd pZ af B du oL cE l0 dJ
 ·intro x dd l0 af du
  by_cases D:x=b
  ·subst D;exact V.base x _ l0 hC aH
  ·exact V.base x dd l0 (by rw[<-jz x D,af]) du
 ·intro x dd af du
  by_cases D:x=b
  ·subst D
   rw[o2]at af;cases af
   have:=(V.ez x _ hC aH).2 _ _ _ rfl
   exact⟨λ_ _ _ a=>(by cases a),λ_ _ _ a=>(by cases a;exact this)⟩
  ·exact V.ez x dd (by rw[<-jz x D,af]) du
def c9.share(V:c9 C J aa h j bj w){cA:Nat}{pl:mz}{cK:ak}(eS:bj<=cA)(so:pl.cA=cA)(br:∀q,q≠cA->w'.heap[q]? =w.heap[q]?)
 (bd:j3 C (gb J j pl) (add aa j) cK pl w')(pQ:vo C (add aa j) cK)
 (af:∀x dd,Z C h x=some dd->aa x->(J x).cA=cA->j3 C J aa dd (J x) w'/\OP cK dd j x/\OP dd cK x j/\pl.dQ=(J x).dQ):
 c9 C (gb J j pl) (add aa j) (bl C h j (some cK)) (j+1) bj w':=by
 have al:=V.aY
 have aI:¬aa j:=λa=>zE (V.lt j a)
 have dz:=qK (J:=J) (pl:=pl) aI
 have o2:Z C (bl C h j (some cK)) j=some cK:=by rw[fF _ al,Zu rfl]
 have jz:∀x,x≠j->Z C (bl C h j (some cK)) x=Z C h x:=λx af=>by rw[fF _ al,Zg af]
 have aR:∀x,add aa j x->x≠j->aa x:=λx a cE=>a.resolve_right cE
 refine⟨Zo, ?_, ?_, ?_, ?_, ?_, ?_⟩
 ·intro x a
  rcases a with a|a
  ·have:=V.lt x a;omega
  ·omega
 ·intro x dd a
  by_cases D:x=j
  ·omega
  ·have:=V.u4 x dd (by rw[<-jz x D,a]);omega
 ·intro x dd a du
  by_cases D:x=j
  ·subst D;rw[o2]at a;cases a;rw[lp];exact bd
  ·rw[jz x D]at a
   have du:=aR x du D
   rw[dz x du]
   by_cases ai:(J x).cA=cA
   ·exact(af x dd a du ai).1.ad dz (λ_ a=> .inl a) rfl
   ·exact(V.obj x dd a du).ad dz (λ_ a=> .inl a) (br _ ai)
 ·intro x e dd pZ H K du oL cE l0 dJ
  by_cases D:x=j
  ·subst D
   rw[o2]at H;cases H
   have B:e≠x:=λai=>cE ai.symm
   rw[jz e B]at K
   have oL:=aR e oL B
   rw[lp,dz e oL]at dJ ⊢
   obtain⟨_,b5,_,ep⟩:=af e pZ K oL (by rw[<-dJ,so])
   exact⟨b5,ep⟩
  ·rw[jz x D]at H
   have K7:=aR x du D
   by_cases cp:e=j
   ·subst cp
    rw[o2]at K;cases K
    rw[lp,dz x K7]at dJ ⊢
    obtain⟨_,_,cR,ep⟩:=af x dd H K7 (by rw[dJ,so])
    exact⟨cR,ep.symm⟩
   ·rw[jz e cp]at K
    have W2:=aR e oL cp
    rw[dz x K7,dz e W2]at dJ ⊢
    exact V.sep x e dd pZ H K K7 W2 cE l0 dJ
 ·intro x dd l0 a du
  by_cases D:x=j
  ·subst D;rw[lp,so];exact eS
  ·rw[jz x D]at a
   have du:=aR x du D
   rw[dz x du]
   exact V.base x dd l0 a du
 ·intro x dd a du
  by_cases D:x=j
  ·subst D;rw[o2]at a;cases a;exact pQ
  ·rw[jz x D]at a
   have du:=aR x du D
   refine⟨λc n k aB e B=> ?_,(V.ez x dd a du).2⟩
   obtain⟨g1,b5⟩:=(V.ez x dd a du).1 c n k aB e B
   exact⟨.inl g1,b5⟩
def acg{c:M y}{W n:Nat}{k:List y}(a:c.ks W n=some k):k.length=n:=(M.Lt _ _ _ _ a).1
def Pm{b W n:Nat}{k:List y}(a:ix C h b W n=some k):k.length=n:=by
 unfold ix at a
 split at a
 ·exact acg a
 ·simp only[eF,Zc]at a
  have:n=0:=Zl a.1
  rw[<-a.2,this];rfl
def awC(J:cU)(bo:y)(n:Nat):Builtin.zeroCells (aO J bo).cells n=(bO J (kX n bo.cells)).toArray:=by
 rw[ui, <-adN]
 simp[Builtin.zeroCells,jR]
def aeg(J:cU)(s:List Nat)(aE:∀x∈s,x<256):((bytesOf s).data.map λb=>Value.int .u8 b.toNat)=(bO J (s.map λn=>y.int .u8 (Int.ofNat n))).toArray:=by
 apply Y7
 simp only[bytesOf,pD,YB]
 simp only[List.map_toArray,YB]
 apply YH
 intro x af
 simp[aO,Yv (aE x af)]
def au0(V:c9 C J aa h j bj w){x:y}{i:TypeInfo}{bo:Value}{du:TypeDesc}{n:Nat}{k:List y}(ft:b7 aa x)(uA:du= .string\/∃D,du= .slice D)(a:hI C h i.size x=some (n,k)):
 wR C.P w du (aO J x) i bo n (bO J k).toArray/\ea aa k/\k.length=n*i.size:=by
 unfold hI at a
 split at a
 ·simp at a;obtain⟨rfl,rfl⟩:=a
  refine⟨.inl ⟨uA, ?_, ?_, ?_⟩,trivial,Zs⟩<;>simp[aO,Builtin.lenOf,Builtin.firstCells,bO]
 ·simp at a;obtain⟨rfl,rfl⟩:=a
  refine⟨.inl ⟨uA, ?_, ?_, ?_⟩,trivial,Zs⟩<;>simp[aO,Builtin.lenOf,Builtin.firstCells,bO,loadCells,loadCellsFrom]
 ·rename_i b W len cap
  split at a
  ·rename_i cb aB
   simp at a;obtain⟨rfl,rfl⟩:=a
   obtain⟨H,K⟩:=EQ V ft aB
   obtain⟨am,_⟩:=EQ V.drew ft aB
   refine⟨.inl ⟨uA, ?_, ?_, ?_⟩,K,Pm aB⟩<;>simp[aO,Builtin.lenOf,Builtin.firstCells,H,am]
  ·simp at a
 ·rename_i b W len cap
  split at a
  ·rename_i cb aB
   simp at a;obtain⟨rfl,rfl⟩:=a
   obtain⟨H,K⟩:=EQ V ft aB
   obtain⟨am,_⟩:=EQ V.drew ft aB
   refine⟨.inl ⟨uA, ?_, ?_, ?_⟩,K,Pm aB⟩<;>simp[aO,Builtin.lenOf,Builtin.firstCells,H,am]
  ·simp at a
 ·rename_i s
  simp only[eF]at a
  obtain⟨H,a⟩:=a
  have H:i.size=1:=Zl H
  simp at a;obtain⟨rfl,rfl⟩:=a
  have eh:(bytesOf s).size=s.length:=by simp[bytesOf,ByteArray.size]
  have bt:(bytesOf s).extract 0 s.length=bytesOf s:=by
   rw[<-eh];exact ByteArray.extract_zero_size
  have aA:=aeg J s ft
  refine⟨.inl ⟨uA, ?_, ?_, ?_⟩, ?_,by simp[H]⟩
  ·simp[aO,Builtin.lenOf,eh]
  ·simp only[aO,Builtin.firstCells,bt,Sem.run_pure];rw[aA];simp
  ·simp only[aO,Builtin.firstCells,bt,Sem.run_pure];rw[aA];simp
  ·rw[ur]
   intro v bu
   obtain⟨e,_,rfl⟩:=ZC.1 bu
   trivial
 ·simp at a
end
section
variable{P:Program}{w w':World}{cX:Array TypeId}{ty st iq d6:TypeId}{i:TypeInfo}{du:TypeDesc}{base:Option Addr}{gP ln n:Nat}{X bo:Value}{pX new:Array Value}
def Oo(P:Program)(w:World)(du:TypeDesc)(X:Value)(i:TypeInfo):Prop:=
 ((du= .string\/∃D,du= .slice D)/\(Builtin.lenOf X).run P w= .ok 0 w/\(Builtin.firstCells i.size 0 X).run P w= .ok #[] w)\/((∃ai,du= .int ai)/\∃q,X= .int q 0)
def O0(bi:cX[0]? =some st)(H:cX[1]? =some iq)(cI:P.underlying st=some (.slice d6))(hE:P.underlying iq=some du)(aF:P.info? d6=some i)
 (bN:Oo P w du X i)(aI:gP<=ln):(Builtin.append_ cX ty #[.slice base gP ln,X]).run P w= .ok (.slice base gP ln) w:=by
 rcases bN with ⟨fX,hx,jK⟩|⟨⟨ai,rfl⟩,q,rfl⟩
 ·rcases fX with rfl|⟨_,rfl⟩<;>cases base<;>simp[Builtin.append_,bi,H,run_underlying cI,run_underlying hE,sizeOf,typeInfo,aF,hx,aI,jK,storeCells]
 ·have br:IntKind.i64.wrap 0=0:=by decide
  have ay:¬((2:Int)^48<0):=by decide
  cases base<;>simp[Builtin.append_,bi,H,run_underlying cI,run_underlying hE,sizeOf,typeInfo,aF,asInt,asIntOf,br,ay,aI,storeCells]
end
section
variable{C:aT}{J c0:cU}{aa dn:Nat->Prop}{h R:M ak}{j au bj:Nat}{w w':World}
def aiV{du:TypeDesc}{X bo:Value}{i:TypeInfo}(a:wR C.P w du X i bo 0 (bO J []).toArray):Oo C.P w du X i:=by
 rcases a with ⟨fX,hx,jK,_⟩|⟨_,_,_,_,lq,_⟩
 ·exact .inl ⟨fX,hx,jK⟩
 ·simp at lq
def amn{b W len aN n:Nat}(V:c9 C J aa h j bj w)(al:aa b)(a:u9 C h b=some n)(aE:0<aN)(aB:W+len*aN<=n):len<=((J b).room-W)/aN:=by
 have:=ad5 V al a
 rw[zf aE]
 omega
def Wd(V:c9 C J aa h j bj w){cX:Array TypeId}{ty st iq d6:TypeId}{i:TypeInfo}{du:TypeDesc}{s:y}{X:Value}{res:dZ}
 (bi:cX[0]? =some st)(H:cX[1]? =some iq)(cI:C.P.underlying st=some (.slice d6))(hE:C.P.underlying iq=some du)(aF:C.P.info? d6=some i)(eh:0<i.size)
 (bN:Oo C.P w du X i)(an:b7 aa s)(a:Cs C h i.size s=some res):∃v,res= .val v/\b7 aa v/\(Builtin.append_ cX ty #[aO J s,X]).run C.P w= .ok (aO J v) w:=by
 unfold Cs at a
 split at a
 ·simp at a;subst a
  exact⟨_,rfl,trivial,by simp only[aO];exact O0 bi H cI hE aF bN (Zj _)⟩
 ·simp only[eF,Zc]at a
  obtain⟨aB,rfl⟩:=a
  exact⟨_,rfl,an,by simp only[aO];exact O0 bi H cI hE aF bN (h4 aB)⟩
 ·simp only[eF]at a
  obtain⟨bt,a⟩:=a
  have bt:=Zl bt
  subst bt
  split at a
  ·rename_i n aI
   simp only[eF,Zc]at a
   obtain⟨aB,rfl⟩:=a
   exact⟨_,rfl,an,by simp only[aO];exact O0 bi H cI hE aF bN (amn V an aI eh (h4 aB))⟩
  ·simp at a
 ·simp at a
def Km(C:aT)(J:cU)(aa:Nat->Prop)(h:M ak)(j bj:Nat)(w:World)(s:Sem Value)(res:dZ):Prop:=
 ∃v R au,res= .fq v R au/\∃c0 dn w',s.run C.P w= .ok (aO c0 v) w'/\b7 dn v/\c9 C c0 dn R au bj w'/\is C j J aa h bj w c0 dn R w'/\j<=au
def rq(V:c9 C J aa h j bj w):¬aa j:=λa=>zE (V.lt j a)
def ajh(eS:bj<=w.heap.size)(W:Obj):Below bj w (w.drew.alloc W):=(Below.drew (Below.refl bj w)).trans (Below.alloc (Below.refl bj w.drew) eS W)
def PO(V:c9 C J aa h j bj w){pl:mz}(eS:bj<=w.heap.size)(W:Obj)(hP:∀x,x≠j->¬aa x->Z C R x=Z C h x):is C j J aa h bj w (gb J j pl) (add aa j) R (w.drew.alloc W):=
 ⟨qK (rq V),λ_ a=> .inl a,λx a=>a.elim .inl (λa=> .inr Zo),λx af aB=>hP x Zo af,ajh eS W⟩
def XR{k:List y}{rest:Array Value}{cap aN:Nat}(g:ea aa k)(aI:¬aa j)(aB:k.length+rest.size=cap*aN)(d6:TypeId)(iB:List Nat):
 j3 C (gb J j ⟨w.heap.size,0,cap*aN⟩) (add aa j) (.cells (M.ofList k 0 .nil) k.length (.grow iB)) ⟨w.heap.size,0,cap*aN⟩ (w.drew.alloc (.cells ((bO J k).toArray++rest) d6)):=by
 have dz:=qK (J:=J) (pl:=⟨w.heap.size,0,cap*aN⟩) aI
 refine⟨_,d6,0,0,uB w.drew _,⟨.inl rfl,by simp only;omega, ?_⟩, ?_,λi v bu=> ?_⟩
 ·simp only[YY,Yy,jR];omega
 ·simp only[YY,Yy,jR];omega
 ·rw[lE]at bu
  have fk:=Ap g bu
  have cJ:i<k.length:=(Zb.1 bu).1
  refine⟨?_,oP (λ_ a=> .inl a) v fk⟩
  rw[qe dz fk,ZP,YG (by simpa[jR]using cJ)]
  simp[y5,bu]
def aeT(zero:Array Value)(n:Nat):(Builtin.zeroCells zero n).size=n*zero.size:=by simp[Builtin.zeroCells]
section
variable{cX:Array TypeId}{ty st iq d6:TypeId}{i:TypeInfo}{du:TypeDesc}{X bo:Value}{n:Nat}{k:List y}
def XP(V:c9 C J aa h j bj w)(eS:bj<=w.heap.size){s:y}{base:Option Addr}{gP ln:Nat}{bR:List y}(tw:bo.cells.size=i.size)
 (bi:cX[0]? =some st)(H:cX[1]? =some iq)(cI:C.P.underlying st=some (.slice d6))(hE:C.P.underlying iq=some du)(aF:C.P.info? d6=some i)(cf:i.zero=some bo)(eh:0<i.size)(lW:i.bytes<=65536)
 (bN:wR C.P w du X i bo n (bO J k).toArray)(iB:ea aa k)(aB:k.length=n*i.size)(Qg:ea aa bR)(mG:bR.length=gP*i.size)(aI:¬(gP+n<=ln))(aE:aO J s= .slice base gP ln)
 (bd:(Builtin.firstCells i.size gP (.slice base gP ln)).run C.P w.drew= .ok (bO J bR).toArray w.drew)(v6:gP+n<=1048576){aX:M ak}(ql:List Nat)
 (eN:Z C aX j=some (.cells (M.ofList (bR++k) 0 .nil) (bR++k).length (.grow ql)))(dN:c9 C J aa R j bj w)(fE:∀x,x≠j->Z C aX x=Z C R x\/Z C aX x=none)
 (iC:∀x,x≠j->¬aa x->Z C aX x=Z C h x)(aau:∀x∈ql,aa x/\C.aY<=x):
 ∃c0 dn w',(Builtin.append_ cX ty #[aO J s,X]).run C.P w= .ok (aO c0 (.ej j 0 (gP+n) i.size)) w'/\b7 dn (.ej j 0 (gP+n) i.size)/\c9 C c0 dn aX (j+1) bj w'/\is C j J aa h bj w c0 dn aX w':=by
 obtain⟨cap,aA,mJ⟩:=We (ty:=ty) bi H cI hE aF cf bN aI lW v6 bd
 have eO:(bR++k).length=(gP+n)*i.size:=by rw[ZG,mG,aB,ZV]
 have Dv:(bR++k).length+(Builtin.zeroCells bo.cells (cap-(gP+n))).size=cap*i.size:=by
  rw[aeT,tw,eO, <-ZV]
  congr 1;omega
 have D:(bO J bR).toArray++(bO J k).toArray=(bO J (bR++k)).toArray:=by rw[CB];simp
 rw[D]at mJ
 have In:=XR (C:=C) (J:=J) (w:=w) (Ao Qg iB) (rq V) Dv d6 ql
 refine⟨gb J j ⟨w.heap.size,0,cap*i.size⟩,add aa j,w.drew.alloc (.cells ((bO J (bR++k)).toArray++Builtin.zeroCells bo.cells (cap-(gP+n))) d6), ?_, .inr rfl, ?_, ?_⟩
 ·rw[aE,mJ]
  simp only[aO,lp,ZP,YN]
  rw[zt _ eh]
 ·exact dN.drew.alloc V.aY (YL _) (Ya _) (rq V) eS rfl eN fE In ⟨λc aS cb a=>(by cases a;exact λx af=>⟨.inl (aau x af).1,(aau x af).2⟩),λc aS st a=>(by cases a;exact Gl)⟩
 ·exact PO V eS _ iC
def XO{n aN:Nat}{res:dZ}(a:sa C h j n aN k=some res):n<=1048576/\res= .fq (.ej j 0 n aN) (bl C h j (some (.cells (M.ofList k 0 .nil) k.length (.grow [])))) (j+1):=by
 unfold sa mQ at a
 simp only[lT,g5,eF,Zc]at a
 exact⟨h4 a.1,a.2.symm⟩
def ale{b W len cap aN:Nat}{fb:List y}(V:c9 C J aa h j bj w)(al:aa b)(a:ix C h b W (len*aN)=some fb):
 (Builtin.firstCells aN len (.slice (some ⟨(J b).cA,(J b).dQ+W,none⟩) len cap)).run C.P w.drew= .ok (bO J fb).toArray w.drew/\ea aa fb:=by
 obtain⟨H,K⟩:=EQ V.drew al a
 exact⟨by simp[Builtin.firstCells,H],K⟩
def avA{cd:Array Value}{dQ W p:Nat}{c:M y}{fb k:List y}{q:Nat}(ay:p=dQ+W+fb.length)(bW:p+k.length<=cd.size)(eC:ea aa fb)(iB:ea aa k)
 (bi:∀Y v,fb[Y]? =some v->cd[dQ+W+Y]? =some (aO J v)):
 ∀Y v,(fb++k)[Y]? =some v->(kZ cd p (bO J k))[dQ+W+Y]? =some (aO J v)/\b7 aa v:=by
 intro Y v bu
 rw[Tj _ _ _ _ (by rw[jR];exact bW),jR]
 by_cases bD:Y<fb.length
 ·rw[ZI bD]at bu
  rw[Zg Zo]
  exact⟨bi Y v bu,Ap eC bu⟩
 ·rw[ZF Zo]at bu
  have cJ:Y-fb.length<k.length:=(Zb.1 bu).1
  rw[Zu Zo,y5,show dQ+W+Y-p=Y-fb.length by omega,bu]
  exact⟨rfl,Ap iB bu⟩
section
variable{cX:Array TypeId}{ty st iq d6:TypeId}{i:TypeInfo}{du:TypeDesc}{X bo:Value}{n:Nat}{k:List y}
def aiU(V:c9 C J aa h j bj w)(eS:bj<=w.heap.size)(tw:bo.cells.size=i.size){b W len:Nat}{res:dZ}
 (bi:cX[0]? =some st)(H:cX[1]? =some iq)(cI:C.P.underlying st=some (.slice d6))(hE:C.P.underlying iq=some du)(aF:C.P.info? d6=some i)(cf:i.zero=some bo)(eh:0<i.size)(lW:i.bytes<=65536)
 (bN:wR C.P w du X i bo n (bO J k).toArray)(iB:ea aa k)(aB:k.length=n*i.size)(aH:aa b)(gx:0<n)(a:Hk C h j b W len i.size n k=some res):
 Km C J aa h j bj w (Builtin.append_ cX ty #[aO J (.ej b W len i.size),X]) res:=by
 unfold Hk at a
 split at a
 ·rename_i c size ez bd
  simp only[eF]at a
  obtain⟨Iq,a⟩:=a
  have al:C.aY<=b:=h4 Iq
  obtain⟨cd,dr,bR,uE,a7,b2,a3,a4⟩:=V.obj b _ bd aH
  obtain⟨Fw,apq,an0⟩:=b2
  have Az:=V.base b _ al bd aH
  have holds:=(V.ez b _ bd aH).1 _ _ _ rfl
  have pK:=(V.ez b _ bd aH).2 _ _ _ rfl
  have uL:b≠j:=λD=>zE (V.lt b aH)
  have oa:=rq V
  rw[eQ]at a
  split at a
  ·
   rename_i aan
   have aan:W+(len+n)*i.size<=size:=h4 aan
   split at a
   ·rename_i R br
    simp at a;subst a
    obtain⟨w',bS,ck,cM⟩:=OX V (c5:=j) aH iB br
    have mD:len+n<=((J b).room-W)/i.size:=by
     rw[zf eh];omega
    refine⟨_,_,_,rfl,J,aa,w', ?_,aH,ck,cM,Zj _⟩
    simp only[aO]
    refine KJ bi H cI hE aF cf bN mD ?_
    rw[oH,ZX]
    exact bS
   ·simp at a
  ·simp only[eF,Zq]at a
   obtain⟨⟨v6,qz⟩,a⟩:=a
   have v6:=h4 v6
   have oY:∀v∈bO J k,v.oneCell'=true:=ac5 qz
   have eO:(len+n)*i.size=len*i.size+n*i.size:=ZV ..
   rw[eQ]at a
   split at a
   ·
    rename_i C6
    simp only[Zq]at C6
    have bB:W+len*i.size=size:=Zl C6.1
    have cp:W=0:=Zl C6.2
    subst cp
    have bB:len*i.size=size:=Zo
    simp only[g5,mQ,lT,Zc]at a
    subst a
    have sr:=V.at9 al aH bd
    by_cases mD:len+n<=((J b).room-0)/i.size
    ·
     have apr:(len+n)*i.size<=(J b).room:=by
      have:=(zf eh).1 mD;omega
     have apI:=Td C.P (J b).cA ((J b).dQ+size) dr bR uE (bO J k) 0 cd w a7 (Fw.imp (λD=>zj D.symm) id) (by rw[jR];omega)
     ·have FQ:=apI oY
      have ss:∀q,q≠(J b).cA->(w.setRow (J b).cA (kZ cd ((J b).dQ+size+0) (bO J k))).heap[q]? =w.heap[q]? :=λq aG=>setRow_other w _ q _ aG
      have d2:=setRow_heap w (J b).cA cd (kZ cd ((J b).dQ+size+0) (bO J k)) dr (bR,uE) a7
      have dz:=qK (J:=J) (pl:=J b) oa
      have xL:j3 C (gb J j (J b)) (add aa j) (.cells (d3 c size k) (size+k.length) (.grow (b::ez))) (J b) (w.setRow (J b).cA (kZ cd ((J b).dQ+size+0) (bO J k))):=by
       refine⟨_,dr,bR,uE,d2,⟨by rw[wy];exact Fw,Zo,by rw[wy];exact an0⟩,by rw[wy];omega,λY v bu=> ?_⟩
       obtain⟨g1,b5⟩:=aeP (J:=J) (aa:=aa) (c:=c) (cd:=cd) (dQ:=(J b).dQ) (W:=size) (n:=size+k.length) iB Zo Zo a4 Y v bu
       exact⟨by rw[qe dz b5];exact g1,oP (λ_ a=> .inl a) v b5⟩
      have RJ:=sr.share (j:=j) (w':=w.setRow (J b).cA (kZ cd ((J b).dQ+size+0) (bO J k))) (pl:=J b) (cK:= .cells (d3 c size k) (size+k.length) (.grow (b::ez))) Az rfl ss xL
       ⟨λgC aS cb a=>(by
        cases a
        intro x af
        rcases Zr.1 af with rfl|af
        ·exact⟨.inl aH,al⟩
        ·exact⟨.inl (holds x af).1,(holds x af).2⟩),
        λgC aS ha a=>(by cases a;exact N6 (Zj _) λY v bu=>ZT (pK Y v bu) (zo _ _))⟩
       (λx dd af du tv=>by
        have abW:∀gC aS,dd= .cells gC aS .j1->aS<=size->(J x).dQ=(J b).dQ->j3 C J aa dd (J x) (w.setRow (J b).cA (kZ cd ((J b).dQ+size+0) (bO J k))):=by
         intro gC aS D v2 kw
         subst D
         have cJ:=(sr.ez x _ af du).2 _ _ _ rfl
         obtain⟨EJ,avR,rl,lg,b4,cr,cS,fh⟩:=sr.obj x _ af du
         rw[tv,a7]at b4
         cases b4
         refine⟨_,dr,bR,uE,by rw[tv];exact d2,by rw[wy];exact cr,by rw[wy];exact cS,λY v bu=> ?_⟩
         obtain⟨g1,b5⟩:=fh Y v bu
         have:=cJ Y v bu
         refine⟨?_,b5⟩
         rw[Tj _ _ _ _ (by rw[jR];omega),Zg Zo]
         exact g1
        by_cases D:x=b
        ·subst D
         rw[fF _ al,Zu rfl]at af;cases af
         exact⟨abW c size rfl (Zj _) rfl, .inr (.inl ⟨_,_,_,_,_,rfl,rfl,Zs,Zo⟩), .inr (.inr ⟨_,_,_,_,_,rfl,rfl,Zs,Zo⟩),rfl⟩
        ·rw[fF _ al,Zg D]at af
         obtain⟨kQ,o1⟩:=V.sep b x _ dd bd af aH du (λai=>D ai.symm) al tv.symm
         rcases kQ with ⟨_,_,_,_,ai,_⟩|⟨_,_,cb,gC,aS,ai,rfl,bc,fa⟩|⟨_,_,_,_,_,_,ai,_⟩
         ·cases ai
         ·cases ai
          refine⟨abW gC aS rfl fa o1.symm, .inr (.inl ⟨_,_,_,_,_,rfl,rfl,Zn _ bc,Zo⟩), .inr (.inr ⟨_,_,_,_,_,rfl,rfl,Zn _ bc,Zo⟩),o1⟩
         ·cases ai)
      refine⟨_,_,_,rfl,gb J j (J b),add aa j,_, ?_, .inr rfl,RJ,⟨dz,λ_ a=> .inl a,λx a=>a.elim .inl (λa=> .inr Zo),λx af cJ=> ?_,O4 Az _ _⟩,Ya _⟩
      ·simp only[aO,lp]
       rw[Z5]
       refine KJ bi H cI hE aF cf bN mD ?_
       rw[oH,bB]
       exact FQ
      ·have tv:x≠b:=λD=>af (by rw[D];exact aH)
       rw[fF _ V.aY,Zg Zo,fF _ al,Zg tv]
    ·
     have Ry:(Builtin.firstCells i.size len (.slice (some ⟨(J b).cA,(J b).dQ+0,none⟩) len (((J b).room-0)/i.size))).run C.P w.drew= .ok ((cd.toList.drop (J b).dQ).take size).toArray w.drew:=by
      have m9:=run_loadCells_list (P:=C.P) w.drew ⟨(J b).cA,(J b).dQ+0,none⟩ ((cd.toList.drop (J b).dQ).take size) (λY v bu=>by
       rw[oH]
       have bD:Y<size:=by
        have:=(Zb.1 bu).1
        simp at this;omega
       rw[Y3 bD,YC]at bu
       have aii:w.drew.heap[(J b).cA]? =some (.cells cd dr (bR,uE)):=a7
       simp only[World.cell?,aii]
       simpa[ZO]using bu)
      have uI:((cd.toList.drop (J b).dQ).take size).length=size:=by simp;omega
      rw[uI]at m9
      simp only[Builtin.firstCells,bB]
      exact m9
     obtain⟨cap,aA,mJ⟩:=We (ty:=ty) bi H cI hE aF cf bN mD lW v6 Ry
     have uI:((cd.toList.drop (J b).dQ).take size).length=size:=by simp;omega
     have Dv:size+k.length+(Builtin.zeroCells bo.cells (cap-(len+n))).size=cap*i.size:=by
      rw[aeT,tw,aB, <-bB, <-ZV, <-ZV]
      congr 1;omega
     have dz:=qK (J:=J) (pl:=⟨w.heap.size,0,cap*i.size⟩) oa
     have xL:j3 C (gb J j ⟨w.heap.size,0,cap*i.size⟩) (add aa j) (.cells (d3 c size k) (size+k.length) (.grow (b::ez))) ⟨w.heap.size,0,cap*i.size⟩
      (w.drew.alloc (.cells (((cd.toList.drop (J b).dQ).take size).toArray++(bO J k).toArray++Builtin.zeroCells bo.cells (cap-(len+n))) d6)):=by
      refine⟨_,d6,0,0,uB w.drew _,⟨.inl rfl,by simp only;omega, ?_⟩, ?_,λY v bu=> ?_⟩
      ·simp only[YY,Yy,jR,uI];omega
      ·simp only[YY,Yy,jR,uI];omega
      ·rw[N5,M.HS]at bu
       simp only[ZP]
       split at bu
       ·rename_i bD
        have fk:=Ap iB bu
        refine⟨?_,oP (λ_ a=> .inl a) v fk⟩
        rw[qe dz fk,YG (by simp only[YY,Yy,jR,uI];omega),Array.getElem?_append_right (by simp only[Yy,uI];omega)]
        simp only[Yy,uI,List.getElem?_toArray,y5,bu,ZU]
       ·have bD:=pK Y v bu
        obtain⟨g1,b5⟩:=a4 Y v bu
        refine⟨?_,oP (λ_ a=> .inl a) v b5⟩
        rw[qe dz b5,YG (by simp only[YY,Yy,jR,uI];omega),YG (by simp only[Yy,uI];omega)]
        rw[List.getElem?_toArray,Y3 bD,YC,ZO]
        exact g1
     have eN:Z C (bl C (bl C h b (some (.cells c size .j1))) j (some (.cells (d3 c size k) (size+k.length) (.grow (b::ez))))) j=some (.cells (d3 c size k) (size+k.length) (.grow (b::ez))):=by
      rw[fF _ V.aY,Zu rfl]
     refine⟨_,_,_,rfl,gb J j ⟨w.heap.size,0,cap*i.size⟩,add aa j,_, ?_, .inr rfl,sr.drew.alloc V.aY (YL _) (Ya _) oa eS rfl eN (λx af=> .inl ?_) xL ?_,PO V eS _ (λx af R0=> ?_),Ya _⟩
     ·simp only[aO,lp,ZP,YN]
      simp only[Z5,YN]at mJ ⊢
      rw[mJ,zt _ eh]
     ·rw[fF _ V.aY,Zg af]
     ·exact⟨λgC aS cb a=>(by
           cases a
           intro x af
           rcases Zr.1 af with rfl|af
           ·exact⟨.inl aH,al⟩
           ·exact⟨.inl (holds x af).1,(holds x af).2⟩),
       λgC aS ha a=>(by cases a;exact N6 (Zj _) λY v bu=>ZT (pK Y v bu) (zo _ _))⟩
     ·have tv:x≠b:=λD=>R0 (by rw[D];exact aH)
      rw[fF _ V.aY,Zg af,fF _ al,Zg tv]
   ·
    split at a
    ·rename_i fb m9
     simp only[mQ,lT,g5,Zc]at a
     subst a
     have aaO:fb.length=len*i.size:=acg m9
     have kv:cellsOf C h b=some c:=by simp[cellsOf,bd]
     have Rj:∀x,x≠b->Z C (bl C (mM C ez h) b none) x=if x∈ez then none else Z C h x:=λx af=>by
      rw[fF _ al,Zg af,aat _ _ _ λe B=>(holds e B).2]
     have aaH:Z C (bl C (mM C ez h) b none) b=none:=by rw[fF _ al,Zu rfl]
     have Q6:c9 C J aa (bl C (mM C ez h) b none) j bj w:=V.Xi λx=>by
      by_cases D:x=b
      ·subst D;exact .inr aaH
      ·rw[Rj x D];split
       ·exact .inr rfl
       ·exact .inl rfl
     have Fy:∀x,¬aa x->Z C (bl C (mM C ez h) b none) x=Z C h x:=λx af=>by
      have tv:x≠b:=λD=>af (by rw[D];exact aH)
      rw[Rj x tv,Zg λbc=>af (holds x bc).1]
     have o2:Z C (bl C (bl C (mM C ez h) b none) j (some (.cells (M.ofList (fb++k) 0 .nil) (fb++k).length (.grow [])))) j=some (.cells (M.ofList (fb++k) 0 .nil) (fb++k).length (.grow [])):=by
      rw[fF _ V.aY,Zu rfl]
     have jz:∀x,x≠j->Z C (bl C (bl C (mM C ez h) b none) j (some (.cells (M.ofList (fb++k) 0 .nil) (fb++k).length (.grow [])))) x=Z C (bl C (mM C ez h) b none) x:=λx af=>by
      rw[fF _ V.aY,Zg af]
     obtain⟨L0,L1⟩:=KV V aH kv m9
     by_cases mD:len+n<=((J b).room-W)/i.size
     ·
      have AJ:0<(len+n)*i.size:=Nat.mul_pos Zo eh
      have apr:W+(len+n)*i.size<=(J b).room:=by
       have am:=(zf eh).1 mD
       omega
      have FQ:=Td C.P (J b).cA ((J b).dQ+(W+len*i.size)) dr bR uE (bO J k) 0 cd w a7 (Fw.imp (λD=>zj D.symm) id) (by rw[jR];omega) oY
      have ss:∀q,q≠(J b).cA->(w.setRow (J b).cA (kZ cd ((J b).dQ+(W+len*i.size)+0) (bO J k))).heap[q]? =w.heap[q]? :=λq aG=>setRow_other w _ q _ aG
      have d2:=setRow_heap w (J b).cA cd (kZ cd ((J b).dQ+(W+len*i.size)+0) (bO J k)) dr (bR,uE) a7
      have dz:=qK (J:=J) (pl:=⟨(J b).cA,(J b).dQ+W,(J b).room-W⟩) oa
      have axw:(fb++k).length=(len+n)*i.size:=by rw[ZG,aaO,aB,ZV]
      have xL:j3 C (gb J j ⟨(J b).cA,(J b).dQ+W,(J b).room-W⟩) (add aa j) (.cells (M.ofList (fb++k) 0 .nil) (fb++k).length (.grow [])) ⟨(J b).cA,(J b).dQ+W,(J b).room-W⟩ (w.setRow (J b).cA (kZ cd ((J b).dQ+(W+len*i.size)+0) (bO J k))):=by
       refine⟨_,dr,bR,uE,d2,⟨by rw[wy];exact Fw,by simp only;omega,by rw[wy];simp only;omega⟩,by rw[wy];simp only;omega,λY v bu=> ?_⟩
       rw[lE]at bu
       obtain⟨g1,b5⟩:=avA (J:=J) (aa:=aa) (cd:=cd) (dQ:=(J b).dQ) (W:=W) (p:=(J b).dQ+(W+len*i.size)+0) (c:=c) (q:=0) Zo Zo L1 iB (λY v bu=>by
        have m8:Y<len*i.size:=zE (Zb.1 bu).1
        have:=(M.Lt _ _ _ _ m9).2 Y m8
        rw[bu]at this
        have:=(a4 _ _ this).1
        rw[<-ZX]at this
        exact this) Y v bu
       exact⟨by rw[qe dz b5];exact g1,oP (λ_ a=> .inl a) v b5⟩
      have RJ:=Q6.share (w':=w.setRow (J b).cA (kZ cd ((J b).dQ+(W+len*i.size)+0) (bO J k))) (pl:=⟨(J b).cA,(J b).dQ+W,(J b).room-W⟩) (cK:= .cells (M.ofList (fb++k) 0 .nil) (fb++k).length (.grow [])) Az rfl ss xL
       ⟨λgC aS cb a=>(by cases a;simp),λgC aS ha a=>(by cases a;exact Gl)⟩
       (λx dd af du tv=>by
        exfalso
        by_cases D:x=b
        ·subst D;rw[aaH]at af;cases af
        ·rw[Rj x D]at af
         split at af
         ·cases af
         ·rename_i Rr
          rcases(V.sep b x _ dd bd af aH du (λai=>D ai.symm) al tv.symm).1 with ⟨_,_,_,_,ai,_⟩|⟨_,_,cb,gC,aS,ai,_,bc,_⟩|⟨_,_,_,_,_,_,ai,_⟩
          ·cases ai
          ·cases ai;exact Rr bc
          ·cases ai)
      refine⟨_,_,_,rfl,gb J j ⟨(J b).cA,(J b).dQ+W,(J b).room-W⟩,add aa j,_, ?_, .inr rfl,RJ,⟨dz,λ_ a=> .inl a,λx a=>a.elim .inl (λa=> .inr Zo),λx af cJ=> ?_,O4 Az _ _⟩,Ya _⟩
      ·simp only[aO,lp,Z5,YN]
       refine KJ bi H cI hE aF cf bN mD ?_
       rw[oH,ZX]
       exact FQ
      ·rw[fF _ V.aY,Zg Zo,Fy x af]
     ·have anZ:(Builtin.firstCells i.size len (.slice (some ⟨(J b).cA,(J b).dQ+W,none⟩) len (((J b).room-W)/i.size))).run C.P w.drew= .ok (bO J fb).toArray w.drew:=by
       obtain⟨an6,_⟩:=KV V.drew aH kv m9
       simp[Builtin.firstCells,an6]
      obtain⟨c0,dn,w',eA,eU,gr,l4⟩:=XP (ty:=ty) V eS (s:= .ej b W len i.size) (bR:=fb) tw bi H cI hE aF cf eh lW bN iB aB L1 aaO mD rfl anZ v6 []
       o2 Q6 (λx af=> .inl (jz x af)) (λx af R0=>by rw[jz x af,Fy x R0]) Zs
      exact⟨_,_,_,rfl,c0,dn,w',eA,eU,gr,l4,Ya _⟩
    ·simp at a
 ·simp at a
end
end
end
section
variable{C:aT}{J c0:cU}{aa dn:Nat->Prop}{h R:M ak}{j au bj:Nat}{w w':World}
section
variable{cX:Array TypeId}{ty st iq d6:TypeId}{i:TypeInfo}{du:TypeDesc}{X bo:Value}{n:Nat}{k:List y}
def XQ(V:c9 C J aa h j bj w)(eS:bj<=w.heap.size){s:y}{base:Option Addr}{gP ln:Nat}{bR:List y}{res:dZ}(tw:bo.cells.size=i.size)
 (bi:cX[0]? =some st)(H:cX[1]? =some iq)(cI:C.P.underlying st=some (.slice d6))(hE:C.P.underlying iq=some du)(aF:C.P.info? d6=some i)(cf:i.zero=some bo)(eh:0<i.size)(lW:i.bytes<=65536)
 (bN:wR C.P w du X i bo n (bO J k).toArray)(iB:ea aa k)(aB:k.length=n*i.size)(Qg:ea aa bR)(mG:bR.length=gP*i.size)(aI:¬(gP+n<=ln))(aE:aO J s= .slice base gP ln)
 (bd:(Builtin.firstCells i.size gP (.slice base gP ln)).run C.P w.drew= .ok (bO J bR).toArray w.drew)(a:sa C h j (gP+n) i.size (bR++k)=some res):
 Km C J aa h j bj w (Builtin.append_ cX ty #[aO J s,X]) res:=by
 obtain⟨v6,rfl⟩:=XO a
 obtain⟨c0,dn,w',eA,eU,gr,l4⟩:=XP (ty:=ty) V eS (R:=h) tw bi H cI hE aF cf eh lW bN iB aB Qg mG aI aE bd v6 (aX:=bl C h j (some (.cells (M.ofList (bR++k) 0 .nil) (bR++k).length (.grow [])))) []
  (by rw[fF _ V.aY,Zu rfl]) V (λx af=> .inl (by rw[fF _ V.aY,Zg af])) (λx af _=>by rw[fF _ V.aY,Zg af]) Zs
 exact⟨_,_,_,rfl,c0,dn,w',eA,eU,gr,l4,Ya _⟩
def Wc(V:c9 C J aa h j bj w)(eS:bj<=w.heap.size)(tw:bo.cells.size=i.size){s:y}{res:dZ}
 (bi:cX[0]? =some st)(H:cX[1]? =some iq)(cI:C.P.underlying st=some (.slice d6))(hE:C.P.underlying iq=some du)(aF:C.P.info? d6=some i)(cf:i.zero=some bo)(eh:0<i.size)(lW:i.bytes<=65536)
 (bN:wR C.P w du X i bo n (bO J k).toArray)(iB:ea aa k)(aB:k.length=n*i.size)(an:b7 aa s)(gx:0<n)(a:vr C h j i.size n k s=some res):
 Km C J aa h j bj w (Builtin.append_ cX ty #[aO J s,X]) res:=by
 unfold vr at a
 split at a
 ·refine XQ (gP:=0) (ln:=0) (bR:=[]) (base:=none) V eS tw bi H cI hE aF cf eh lW bN iB aB trivial Zs Zo rfl ?_ (by simpa using a)
  simp[Builtin.firstCells,bO]
 ·rename_i b W len cap
  rw[eQ]at a
  split at a
  ·rename_i mD
   have mD:=h4 mD
   split at a
   ·rename_i R br
    simp at a;subst a
    obtain⟨w',bS,ck,cM⟩:=OX V (c5:=j) an iB br
    refine⟨_,_,_,rfl,J,aa,w', ?_,an,ck,cM,Zj _⟩
    simp only[aO]
    refine KJ bi H cI hE aF cf bN mD ?_
    rw[oH,ZX]
    exact bS
   ·simp at a
  ·rename_i mD
   have mD:¬(len+n<=cap):=λai=>mD (by simpa using ai)
   split at a
   ·rename_i fb m9
    obtain⟨bS,ck⟩:=ale (aN:=i.size) (cap:=cap) V an m9
    exact XQ V eS tw bi H cI hE aF cf eh lW bN iB aB ck (Pm m9) mD rfl bS a
   ·simp at a
 ·rename_i b W len wC
  simp only[eF]at a
  obtain⟨bt,a⟩:=a
  have bt:=Zl bt
  subst bt
  exact aiU V eS tw bi H cI hE aF cf eh lW bN iB aB an gx a
 ·simp at a
end
def On(C:aT)(J:cU)(aa:Nat->Prop)(h:M ak)(j bj:Nat)(w:World)(s:Sem Value)(res:dZ):Prop:=
 Km C J aa h j bj w s res\/∃v,res= .val v/\b7 aa v/\s.run C.P w= .ok (aO J v) w
def VY(V:c9 C J aa h j bj w)(eS:bj<=w.heap.size){cX:Array TypeId}{ty st iq:TypeId}{du:TypeDesc}{s x:y}{res:dZ}
 (bi:cX[0]? =some st)(H:cX[1]? =some iq)(hE:C.P.underlying iq=some du)(uA:du= .string\/∃D,du= .slice D)(an:b7 aa s)(ft:b7 aa x)(a:EE C h j st s x=some res):
 On C J aa h j bj w (Builtin.append_ cX ty #[aO J s,aO J x]) res:=by
 unfold EE at a
 split at a
 ·rename_i d6 cI
  split at a
  ·rename_i i aF
   split at a
   ·rename_i n k h7
    simp only[eF,Zq]at a
    obtain⟨⟨⟨eh,lW⟩,My⟩,a⟩:=a
    have eh:=j4 eh
    have lW:=h4 lW
    obtain⟨bo,cf,tw⟩:∃bo,i.zero=some bo/\bo.cells.size=i.size:=by
     unfold aeU at My
     split at My
     ·rename_i bo cf
      exact⟨bo,cf,Zl My⟩
     ·simp at My
    obtain⟨bN,iB,aB⟩:=au0 (bo:=bo) V ft uA h7
    rw[hn]at a
    split at a
    ·rename_i aI
     subst aI
     have:k=[]:=YE.1 (by rw[aB];simp)
     subst this
     obtain⟨v,eA,eU,gr⟩:=Wd (ty:=ty) V bi H cI hE aF eh (aiV bN) an a
     exact .inr ⟨v,eA,eU,gr⟩
    ·exact .inl (Wc V eS tw bi H cI hE aF cf eh lW bN iB aB an Zo a)
   ·simp at a
  ·simp at a
 ·simp at a
def aiq(V:c9 C J aa h j bj w)(eS:bj<=w.heap.size){cX:Array TypeId}{ty st iq:TypeId}{ai:IntKind}{s x:y}{n:Nat}{res:dZ}
 (bi:cX[0]? =some st)(H:cX[1]? =some iq)(hE:C.P.underlying iq=some (.int ai))(an:b7 aa s)(af:ng x=some n)(a:KD C h j st s n=some res):
 On C J aa h j bj w (Builtin.append_ cX ty #[aO J s,aO J x]) res:=by
 obtain⟨q,rfl⟩:=DS af
 unfold KD at a
 split at a
 ·rename_i d6 cI
  split at a
  ·rename_i i bo aF lz
   simp only[eF,Zq]at a
   obtain⟨⟨⟨⟨eh,lW⟩,FV⟩,uL⟩,a⟩:=a
   have eh:=j4 eh
   have lW:=h4 lW
   have uL:=h4 uL
   have FV:bo.cells.length=i.size:=Zl FV
   have cf:i.zero=some (aO J bo)/\b7 aa bo:=by
    unfold sT at lz
    rw[aF]at lz
    simp only at lz
    split at lz
    ·rename_i ab a6
     obtain⟨D,g⟩:=Ng (J:=J) (aa:=aa) lz
     exact⟨by rw[a6,D],g⟩
    ·simp at lz
   rw[hn]at a
   split at a
   ·rename_i aI
    subst aI
    obtain⟨v,eA,eU,gr⟩:=Wd (ty:=ty) V bi H cI hE aF eh (.inr ⟨⟨ai,rfl⟩,q,rfl⟩) an a
    exact .inr ⟨v,eA,eU,gr⟩
   ·rename_i aI
    have bN:wR C.P w (.int ai) (aO J (.int q (Int.ofNat n))) i (aO J bo) n (bO J (kX n bo.cells)).toArray:=
     .inr ⟨⟨ai,rfl⟩,⟨q,rfl⟩,uL,lW,zE (Nat.mul_pos (Nat.pos_of_ne_zero aI) eh),(awC J bo n).symm⟩
    exact .inl (Wc V eS (by rw[ui];simp[jR,FV]) bi H cI hE aF cf.1 eh lW bN (Qi (uj cf.2) n) (by rw[Ea,FV]) an Zo a)
  ·simp at a
 ·simp at a
end
section
variable{C:aT}{J c0:cU}{aa dn:Nat->Prop}{h R:M ak}{j au bj:Nat}{w w':World}
def mX(C:aT)(J:cU)(aa:Nat->Prop)(h:M ak)(j bj:Nat)(w:World)(s:Sem Value)(v:y)(R:M ak)(au:Nat):Prop:=
 ∃c0 dn w',s.run C.P w= .ok (aO c0 v) w'/\b7 dn v/\c9 C c0 dn R au bj w'/\is C j J aa h bj w c0 dn R w'/\j<=au
def mX.done{s:Sem Value}{v:y}(a:mX C J aa h j bj w s v R au):yE C J aa h j bj w (do pure (.value (<-s))) v R au:=by
 obtain⟨c0,dn,w',H,K,am,aC,bm⟩:=a
 exact⟨c0,dn,w', .value (aO c0 v),by simp[H], .inl rfl,K,am,aC,bm⟩
def mX.same(V:c9 C J aa h j bj w){s:Sem Value}{v:y}(a:s.run C.P w= .ok (aO J v) w)(g:b7 aa v):mX C J aa h j bj w s v h j:=
 ⟨J,aa,w,a,g,V, .refl,Zj _⟩
def Jy(V:c9 C J aa h j bj w)(eS:bj<=w.heap.size){s:Sem Value}{v:y}{cK:ak}{W:Obj}(aE:s.run C.P w= .ok (aO (gb J j ⟨w.heap.size,0,0⟩) v) (w.alloc W))(fk:b7 (add aa j) v)
 (bd:j3 C (gb J j ⟨w.heap.size,0,0⟩) (add aa j) cK ⟨w.heap.size,0,0⟩ (w.alloc W))(pQ:vo C (add aa j) cK):mX C J aa h j bj w s v (bl C h j (some cK)) (j+1):=by
 have al:=V.aY
 refine⟨_,_,_,aE,fk,V.alloc al (YL _) (Ya _) (rq V) eS rfl (by rw[fF _ al,Zu rfl]) (λx af=> .inl (by rw[fF _ al,Zg af])) bd pQ, ?_,Ya _⟩
 exact⟨qK (rq V),λ_ a=> .inl a,λx a=>a.elim .inl (λa=> .inr Zo),λx af aB=>by rw[fF _ al,Zg Zo],Below.alloc (Below.refl bj w) eS W⟩
def Jx{W:ak}{q:Nat->y}{res:dZ}(a:mQ C h j W q=some res):res= .fq (q j) (bl C h j (some W)) (j+1):=by
 unfold mQ at a
 simp only[lT,g5,Zc]at a
 exact a.symm
def ayx(V:c9 C J aa h j bj w){t:Nat}{m q:Operand}{ax:Operand->Value}{eg:Operand->Option y}{res:dZ}(cw:jk J aa ax eg [m,q])(a:Ia C t m q h j eg=some res):
 ∃v R,res= .fq v R j/\mX C J aa h j bj w (Instr.mapEntry t (ax m) (ax q)) v R j:=by
 simp[Ia]at a
def awT(V:c9 C J aa h j bj w){t:Nat}{m s x:Operand}{ax:Operand->Value}{eg:Operand->Option y}{res:dZ}(cw:jk J aa ax eg [m,s,x])(a:H2 C m s x h j eg=some res):
 ∃R w',res= .fq undef R j/\(Instr.entryStore t (ax m) (ax s) (ax x)).run C.P w= .ok () w'/\c9 C J aa R j bj w'/\is C j J aa h bj w J aa R w':=by
 simp[H2]at a
def arZ(V:c9 C J aa h j bj w)(eS:bj<=w.heap.size){t:Nat}{k c:Operand}{ax:Operand->Value}{eg:Operand->Option y}{res:dZ}(cw:jk J aa ax eg [k,c])(a:H9 C t k c h j eg=some res):
 ∃v R au,res= .fq v R au/\mX C J aa h j bj w (Instr.makeSlice t (ax k) (ax c)) v R au:=by
 unfold H9 at a
 split at a
 ·rename_i d6 ayu Ht a6 aB aA
  obtain⟨tb,_⟩:=cw k Zs _ aB
  obtain⟨aku,_⟩:=cw c Zs _ aA
  rw[tb,aku]
  split at a
  ·rename_i DK lw i bo er vU aF cf
   obtain⟨cF,rfl⟩:=DS er
   obtain⟨cH,rfl⟩:=DS vU
   simp only[eF,Zq]at a
   obtain⟨⟨⟨⟨⟨H,K⟩,am⟩,aC⟩,bm⟩,a⟩:=a
   have H:=h4 H
   have K:=h4 K
   have am:=h4 am
   have aC:=j4 aC
   have bm:bo.cells.length=i.size:=Zl bm
   have:=Jx a;subst this
   obtain⟨fs,fC⟩:=Ed cf J aa w
   refine⟨_,_,_,rfl,Jy V eS (W:= .cells (bO J (kX lw bo.cells)).toArray d6) ?_ (.inr rfl) ?_ ⟨λ_ _ _ a=>(by cases a),λ_ _ _ a=>(by cases a;rw[<-bm, <-Ea];exact Gl)⟩⟩
   ·have e4:=wrap_small (n:=DK) Zo
    have ox:=wrap_small K
    have n8:¬((281474976710656:Int)<(i.bytes:Int)*(lw:Int)):=by
     rw[Int.mul_comm];exact Pe K am
    have pJ:¬((lw:Int)<0):=Zo
    have m9:¬((DK:Int)<0):=Zo
    have aaM:¬((lw:Int)<(DK:Int)):=Zo
    have FL:=adO J bo.cells i.size lw bm (if lw*i.size=0 then #[]else(aO J bo).cells) (λcE=>by rw[Zg cE,ui])
    by_cases lz:lw*i.size=0
    ·rw[Zu lz]at FL
     rw[<-FL]
     simp[Instr.makeSlice,run_underlying a6,aO,asInt,asIntOf,typeInfo,aF,e4,ox,n8,pJ,m9,aaM,sizeOf,lz,newRow,lp]
    ·rw[Zg lz]at FL
     rw[<-FL]
     simp[Instr.makeSlice,run_underlying a6,aO,asInt,asIntOf,typeInfo,aF,e4,ox,n8,pJ,m9,aaM,sizeOf,lz,newRow,lp,fs]
   ·have g:=Qi (uj fC) lw
    have:=KU (C:=C) (J:=gb J j ⟨w.heap.size,0,0⟩) (aa:=add aa j) (q2 (λ_ a=> .inl a) _ g) d6 0 w
    rw[xd (qK (rq V)) g,Ea,bm]at this
    exact this
  ·simp at a
 ·simp at a
def arX(V:c9 C J aa h j bj w)(eS:bj<=w.heap.size){t:Nat}{r:Operand}{ax:Operand->Value}{eg:Operand->Option y}{res:dZ}(cw:jk J aa ax eg [r])(a:H8 C t r h j eg=some res):
 ∃v R au,res= .fq v R au/\mX C J aa h j bj w (Instr.makeMap t (some (ax r))) v R au:=by
 unfold H8 at a
 split at a
 ·rename_i jG Ad ai n a6 af
  obtain⟨D,_⟩:=cw r Zs _ af
  have:=Jx a;subst this
  refine⟨_,_,_,rfl,Jy V eS (W:= .map #[] 0) ?_ (.inr rfl) ⟨#[],uB _ _,rfl,Zs⟩ ⟨λ_ _ _ a=>(by cases a),λ_ _ _ a=>(by cases a)⟩⟩
  simp[Instr.makeMap,run_underlying a6,D,aO,asInt,asIntOf,lp]
 ·simp at a
def atO(V:c9 C J aa h j bj w)(eS:bj<=w.heap.size){t:Nat}{x:Operand}{ax:Operand->Value}{eg:Operand->Option y}{res:dZ}(cw:jk J aa ax eg [x])(a:Ib C t x h j eg=some res):
 ∃v R au,res= .fq v R au/\mX C J aa h j bj w (Instr.range t (ax x)) v R au:=by
 have dz:=qK (J:=J) (pl:=⟨w.heap.size,0,0⟩) (rq V)
 unfold Ib at a
 split at a
 ·rename_i s a6 af
  obtain⟨D,g⟩:=cw x Zs _ af
  have:=Jx a;subst this
  refine⟨_,_,_,rfl,Jy V eS (W:= .stringIter (bytesOf s) 0) ?_ (.inr rfl) ⟨rfl,uB _ _,g⟩ ⟨λ_ _ _ a=>(by cases a),λ_ _ _ a=>(by cases a)⟩⟩
  simp[Instr.range,run_underlying a6,D,aO,lp]
 ·rename_i jG Ad a6 af
  obtain⟨D,g⟩:=cw x Zs _ af
  have:=Jx a;subst this
  refine⟨_,_,_,rfl,Jy V eS (W:= .mapIter none 0 #[] 0) ?_ (.inr rfl) ⟨rfl,uB _ _,Zs⟩ ⟨λ_ _ _ a=>(by cases a),λ_ _ _ a=>(by cases a)⟩⟩
  simp[Instr.range,run_underlying a6,D,aO,lp]
 ·rename_i jG Ad r a6 af
  obtain⟨D,g⟩:=cw x Zs _ af
  split at a
  ·rename_i ci fL bd
   have:=Jx a;subst this
   obtain⟨cd,a7,b2,a3,a4⟩:=Jr V g bd
   refine⟨_,_,_,rfl,Jy V eS (W:= .mapIter (some (J r).cA) fL #[] fL) ?_ (.inr rfl) ⟨rfl, ?_,λb al=>by cases al;exact .inl g⟩ ⟨λ_ _ _ a=>(by cases a),λ_ _ _ a=>(by cases a)⟩⟩
   ·simp[Instr.range,run_underlying a6,D,aO,lp,a7]
   ·rw[uB];simp only[ZU,dz r g]
  ·simp at a
 ·simp at a
end
section
variable{C:aT}{J c0:cU}{aa dn:Nat->Prop}{h R:M ak}{j au bj:Nat}{w w':World}
def acE(n:Nat):∀k,sx n k=k.contains n:=by
 intro k
 induction k with
 |nil=>rfl
 |cons E k aj=>simp only[sx,List.contains_cons,aj];congr 1;rw[Z7,Y2];exact⟨Zl,λa=>by rw[a];exact zk _⟩
def OA(C:aT)(J:cU)(aa:Nat->Prop)(h:M ak)(j bj:Nat)(w:World)(s:Sem Value)(res:dZ):Prop:=match res with
 | .val v=>mX C J aa h j bj w s v h j
 | .fq v R au=>mX C J aa h j bj w s v R au
 | .fork k=>∃v R,(v,R)∈k/\mX C J aa h j bj w s v R j
 |_=>False
def ass(V:c9 C J aa h j bj w){ew:Operand}{x0:Bool}{ty:TypeId}{ax:Operand->Value}{eg:Operand->Option y}{res:dZ}(cw:jk J aa ax eg [ew])(a:vQ C ew x0 h j eg=some res):
 OA C J aa h j bj w (Instr.next (ax ew) x0 ty) res:=by
 unfold vQ at a
 split at a
 ·rename_i r af
  obtain⟨D,lV⟩:=cw ew Zs _ af
  simp only[eF]at a
  obtain⟨Iq,a⟩:=a
  have al:C.aY<=r:=h4 Iq
  rw[D]
  split at a
  ·rename_i s pos bd
   obtain⟨kw,H,K⟩:=V.obj r _ bd lV
   have Z:(getObj (J r).cA).run C.P w= .ok (.stringIter (bytesOf s) pos) w:=by simp[getObj,Sem.run,H]
   have eh:(bytesOf s).size=s.length:=by simp[bytesOf,ByteArray.size]
   rw[eQ]at a
   split at a
   ·rename_i ay
    have ay:=j4 ay
    rw[rs]at a
    split at a
    ·rename_i c aA
     simp only[eF]at a
     obtain⟨QO,a⟩:=a
     have QO:=j4 QO
     obtain⟨rfl,_⟩:=Tk a
     obtain⟨w',bS,ck,cM⟩:=putObj V (c5:=j) (oj:= .ou s (pos+1)) (o':= .stringIter (bytesOf s) (pos+1)) al lV bd ⟨Zs,Zs⟩ H Zs (λw' ss=>⟨kw,ss,K⟩) ⟨λ_ _ _ a=>(by cases a),λ_ _ _ a=>(by cases a)⟩
     refine⟨J,aa,w', ?_,⟨trivial,trivial,trivial,trivial⟩,ck,cM,Zj _⟩
     have cJ:pos<(bytesOf s).size:=by rw[eh];exact ay
     have τ:((bytesOf s)[pos]'cJ).toNat=c:=by
      show((bytesOf s).data[pos]).toNat=c
      have aE:s[pos]=c:=by
       rw[Zf ay]at aA
       exact Ym aA
      simp[bytesOf,aE];omega
     have LX:=decode_ascii (bytesOf s) pos cJ (by rw[τ];exact QO)
     rw[τ]at LX
     simp[Instr.next,aO,bO,kw,Z,eh,ay,LX,bS,goInt]
    ·simp at a
   ·rename_i ay
    have ay:¬pos<s.length:=λai=>ay (by simp[Nat.blt];omega)
    simp at a;subst a
    refine mX.same V ?_ ⟨trivial,trivial⟩
    simp[Instr.next,aO,bO,kw,Z,eh,ay]
  ·rename_i u7 seen aef bd
   obtain⟨kw,H,K⟩:=V.obj r _ bd lV
   have Z:(getObj (J r).cA).run C.P w= .ok (.mapIter none u7 seen.toArray aef) w:=by simp[getObj,Sem.run,H]
   simp at a;subst a
   refine mX.same V ?_ ⟨trivial,trivial⟩
   simp[Instr.next,aO,bO,kw,Z]
  ·simp at a
 ·simp at a
end
section
variable{C:aT}{J c0:cU}{aa dn:Nat->Prop}{h R:M ak}{j au bj:Nat}{w w':World}
def alz(w:World)(cd:Array Value)(D:TypeId)(n:Nat):(w.alloc (.cells cd D)).freeze ⟨w.heap.size,n,none⟩ 1=w.alloc (.cells cd D (n,n+1)):=by
 unfold World.freeze
 rw[Zg Zd]
 show({w with heap:=(w.heap.push (.cells cd D)).modify w.heap.size _}:World)={w with heap:=w.heap.push (.cells cd D (n,n+1))}
 congr 1
 apply Array.ext_getElem?
 intro q
 rw[ze,Array.getElem?_push,Array.getElem?_push]
 by_cases aG:w.heap.size=q
 ·subst aG;simp
 ·rw[Zg aG,Zg (λD=>aG D.symm),Zg (λD=>aG D.symm)]
def aly{p:Nat}{cd:Array Value}{ty:TypeId}{bR aF:Nat}(a:w.heap[p]? =some (.cells cd ty (bR,aF)))(n:Nat):
 (w.freeze ⟨p,n,none⟩ 1).heap[p]? =some (.cells cd ty (if bR==aF then(n,n+1)else(min bR n,max aF (n+1))))/\(∀q,q≠p->(w.freeze ⟨p,n,none⟩ 1).heap[q]? =w.heap[q]?):=by
 unfold World.freeze
 rw[Zg Zd]
 constructor
 ·simp only[ze,ZE,a,ZU]
 ·intro q aG
  simp only[ze]
  rw[Zg (λD=>aG D.symm)]
def avt(V:c9 C J aa h j bj w)(eS:bj<=w.heap.size){s d:Nat}{x:Operand}{ax:Operand->Value}{eg:Operand->Option y}{res:dZ}(cw:jk J aa ax eg [x])(a:Ic C s d x h j eg=some res):
 OA C J aa h j bj w (convert s d (ax x)) res:=by
 unfold Ic at a
 split at a
 ·rename_i D k aE aH af
  obtain⟨ex,g⟩:=cw x Zs _ af
  split at a
  ·rename_i bt
   obtain⟨fa,rfl⟩:=XO a
   rw[ex]
   have eh:(bytesOf k).size=k.length:=by simp[bytesOf,ByteArray.size]
   have ax7:(bytesOf k).data.size=k.length:=by simp[bytesOf]
   have aA:=aeg J k g
   have al1:ea aa (k.map λn=>y.int .u8 (Int.ofNat n)):=by
    rw[ur];intro v bu;obtain⟨e,_,rfl⟩:=ZC.1 bu;trivial
   obtain⟨cap,mD,AB⟩:∃cap,k.length<=cap/\(choose (.appendCap k.length 0 D)).run C.P w= .ok cap w.drew:=
    ⟨k.length+(w.tape w.drawn (.appendCap k.length 0 D))%(2^63-k.length),Zo,by simp[Question.forced,Question.cut]⟩
   have Dv:(k.map λn=>y.int .u8 (Int.ofNat n)).length+(Array.replicate (cap-k.length) (Value.int .u8 0)).size=cap*1:=by simp;omega
   have In:=XR (C:=C) (J:=J) (w:=w) (j:=j) al1 (rq V) Dv D []
   have xL:j3 C (gb J j ⟨w.heap.size,0,cap*1⟩) (add aa j) (.cells (M.ofList (k.map λn=>y.int .u8 (Int.ofNat n)) 0 .nil) (k.map λn=>y.int .u8 (Int.ofNat n)).length (.grow [])) ⟨w.heap.size,0,cap*1⟩
    (w.drew.alloc (.cells ((bO J (k.map λn=>y.int .u8 (Int.ofNat n))).toArray++Array.replicate (cap-k.length) (Value.int .u8 0)) D (cap,cap+1))):=by
    obtain⟨cd,ty,bR,aF,b4,cr,cS,fh⟩:=In
    have Wj:=uB w.drew (.cells ((bO J (k.map λn=>y.int .u8 (Int.ofNat n))).toArray++Array.replicate (cap-k.length) (Value.int .u8 0)) D)
    have apO:w.drew.heap.size=w.heap.size:=rfl
    rw[apO]at Wj
    rw[Wj]at b4
    cases b4
    refine⟨_,D,cap,cap+1,uB w.drew _,⟨.inr ?_,cr.2.1,cr.2.2⟩,cS,fh⟩
    simp[jR];omega
   refine⟨gb J j ⟨w.heap.size,0,cap*1⟩,add aa j,_, ?_, .inr rfl,V.drew.alloc V.aY (YL _) (Ya _) (rq V) eS rfl (by rw[fF _ V.aY,Zu rfl]) (λx af=> .inl (by rw[fF _ V.aY,Zg af])) xL
    ⟨λ_ _ _ a=>(by cases a;simp),λ_ _ _ a=>(by cases a;exact Gl)⟩,PO V eS _ (λx af _=>by rw[fF _ V.aY,Zg af]),Ya _⟩
   have apC:((bO J (k.map λn=>y.int .u8 (Int.ofNat n))).toArray++Array.replicate (cap-k.length) (Value.int .u8 0)).size=cap:=by simp[jR];omega
   have qu:=alz w.drew ((bO J (k.map λn=>y.int .u8 (Int.ofNat n))).toArray++Array.replicate (cap-k.length) (Value.int .u8 0)) D cap
   have Rb:w.drew.heap.size=w.heap.size:=rfl
   rw[Rb]at qu
   have RQ:(w.drew.alloc (.cells ((bO J (k.map λn=>y.int .u8 (Int.ofNat n))).toArray++Array.replicate (cap-k.length) (Value.int .u8 0)) D)).shape? w.heap.size=some (D,cap):=by
    have:=uB w.drew (.cells ((bO J (k.map λn=>y.int .u8 (Int.ofNat n))).toArray++Array.replicate (cap-k.length) (Value.int .u8 0)) D)
    rw[Rb]at this
    simp only[World.shape?,this,apC]
   simp only[convert,Sem.run_bind,run_underlying aE,run_underlying aH,run_underlying bt,Result.andThen_ok,aO,Conv.stringToBytes,eh,AB,aA,newRow,run_newObj_alloc,Rb,Sem.run_pure,markStringish,run_shape,RQ,run_freeze,qu,
    lp,ZP,YN,Yp,Nat.div_one]
  ·simp at a
 ·rename_i tb D b W len cap aE aH af
  obtain⟨ex,g⟩:=cw x Zs _ af
  split at a
  ·rename_i bt
   simp only[eF,Zq]at a
   obtain⟨⟨RP,Iq⟩,a⟩:=a
   have RP:s=d:=Zl RP
   subst RP
   have al:C.aY<=b:=h4 Iq
   rw[ex]
   have fin:∀(c:M y) (n:Nat) (st:oE),Z C h b=some (.cells c n st)->(st= .own\/st= .marked)->∀R,Z C R b=some (.cells c n .marked)->(∀x,x≠b->Z C R x=Z C h x)->
    mX C J aa h j bj w (convert s s (aO J (.slice b W len cap))) (.slice b W len cap) R j:=by
    intro c n st bd cI R eN dN
    obtain⟨cd,ty,bR,aF,a7,b2,a3,a4⟩:=V.obj b _ bd g
    have C0:Kk (.cells c n st):=by rcases cI with rfl|rfl<;>exact⟨Zs,Zs⟩
    have Fw:bR=aF\/cd.size<=bR:=by rcases cI with rfl|rfl;exact .inl b2;exact b2
    obtain⟨ef,eX⟩:=aly a7 cd.size
    have Az:=V.base b _ al bd g
    have IE:∃rl lg,(if bR==aF then(cd.size,cd.size+1)else(min bR cd.size,max aF (cd.size+1)))=(rl,lg)/\cd.size<=rl:=by
     by_cases ai:bR=aF
     ·exact⟨_,_,by rw[Zu (by simpa using ai)],Zj _⟩
     ·refine⟨_,_,by rw[Zg (by simpa using ai)], ?_⟩
      have:=Fw.resolve_left ai
      omega
    obtain⟨rl,lg,bB,cp⟩:=IE
    rw[bB]at ef
    refine⟨J,aa,w.freeze ⟨(J b).cA,cd.size,none⟩ 1, ?_,g,V.put al g bd eN (λx af=> .inl (dN x af)) (λq aG=>eX q aG) ?_ ⟨cd,ty,rl,lg,ef, .inr cp,a3,a4⟩ ⟨λ_ _ _ a=>(by cases a),λ_ _ _ a=>(by cases a;exact(V.ez b _ bd g).2 _ _ _ rfl)⟩, ?_,Zj _⟩
    ·have RQ:w.shape? (J b).cA=some (ty,cd.size):=Tc a7
     have anr:(s==s)=true:=by simp
     simp only[convert,Sem.run_bind,run_underlying aE,Result.andThen_ok,aO]
     rw[aE]at aH
     cases aH
     simp only[anr,run_underlying bt,Sem.run_bind,Result.andThen_ok,markStringish,run_shape,RQ,run_freeze,Sem.run_pure]
    ·intro x dd cE af du dJ
     rw[dN x cE]at af
     exact V.alone al g bd C0 x dd cE af du dJ
    ·refine⟨λ_ _=>rfl,λ_ a=>a,λ_ a=> .inl a,λx af _=>dN x (λD=>af (by rw[D];exact g)), ?_⟩
     refine⟨?_, ?_, ?_, ?_,λq aG=>eX q Zo⟩<;>simp[World.freeze]
   split at a
   ·rename_i c n bd
    simp only[g5,Zc]at a
    subst a
    exact fin c n .own bd (.inl rfl) _ (by rw[fF _ al,Zu rfl]) (λx af=>by rw[fF _ al,Zg af])
   ·rename_i c n bd
    simp only[Zc]at a
    subst a
    exact fin c n .marked bd (.inr rfl) h bd (λ_ _=>rfl)
   ·simp at a
  ·simp at a
 ·simp at a
end
def it(C:aT)(J:cU)(aa:Nat->Prop)(h:M ak)(j bj:Nat)(w:World)(s:Sem Next)(res:dZ):Prop:=match res with
 | .val v=>yE C J aa h j bj w s v h j
 | .fq v R au=>yE C J aa h j bj w s v R au
 | .fork k=>∃v R,(v,R)∈k/\yE C J aa h j bj w s v R j
 | .enter f args=>s.run C.P w= .ok (.enter f (bO J args).toArray) w/\ea aa args
 | .known f args v=>(C.g4 f args=some v\/(FZ C f=true/\Cp C h args=some v))/\s.run C.P w=(callFunc f (bO J args).toArray).run C.P w/\ea aa args
 | .round k args=>s.run C.P w=(Instr.yield (J k).cA (bO J args).toArray).run C.P w/\ea aa args/\aa k
 | .defer d=>s.run C.P w= .ok (.defer (lM J d)) w/\vK aa d
 | .recover=>s.run C.P w= .ok .recover w
 | .panic v=>s.run C.P w= .halt (.panic (aO J v)) w/\b7 aa v
section
variable{C:aT}{J c0:cU}{aa dn:Nat->Prop}{h R:M ak}{j au bj:Nat}{w w':World}
def it.one{s:Sem Value}{res:dZ}(a:OA C J aa h j bj w s res):it C J aa h j bj w (do pure (.value (<-s))) res:=by
 cases res with
 |val v=>exact mX.done a
 |fq v R au=>exact mX.done a
 |fork k=>obtain⟨v,R,H,K⟩:=a;exact⟨v,R,H,K.done⟩
 |_=>exact a.elim
def it.fq{s:Sem Value}{res:dZ}(a:∃v R au,res= .fq v R au/\mX C J aa h j bj w s v R au):it C J aa h j bj w (do pure (.value (<-s))) res:=by
 obtain⟨v,R,au,rfl,a⟩:=a
 exact a.done
def it.app(V:c9 C J aa h j bj w){s:Sem Value}{res:dZ}(a:On C J aa h j bj w s res):it C J aa h j bj w (do pure (.value (<-s))) res:=by
 rcases a with ⟨v,R,au,rfl,c0,dn,w',H,K,am,aC,bm⟩|⟨v,rfl,H,K⟩
 ·exact mX.done ⟨c0,dn,w',H,K,am,aC,bm⟩
 ·exact mX.done (.same V K H)
def it.unit{s:Sem Unit}{res:dZ}(a:∃R w',res= .fq undef R j/\s.run C.P w= .ok () w'/\c9 C J aa R j bj w'/\is C j J aa h bj w J aa R w'):
 it C J aa h j bj w (do s;pure .skip) res:=by
 obtain⟨R,w',rfl,H,K,am⟩:=a
 exact⟨J,aa,w', .skip,by simp[H], .inr ⟨rfl,rfl⟩,by trivial,K,am,Zj _⟩
def it.congr{s fc:Sem Next}{res:dZ}(a:s.run C.P w=fc.run C.P w)(q:it C J aa h j bj w fc res):it C J aa h j bj w s res:=by
 cases res<;>simp only[it,yE]at q ⊢ <;>rw[a]<;>exact q
def Pj(kg:wV C.P){f:Nat}{args:List y}{res:dZ}(g:ea aa args)(a:rY C f args=some res):it C J aa h j bj w (callFunc f (bO J args).toArray) res:=by
 unfold rY at a
 split at a
 ·rename_i v bu
  simp at a;subst a
  exact⟨.inl bu,rfl,g⟩
 ·split at a
  ·rename_i fn bW
   split at a
   ·rename_i c al
    simp at a;subst a
    refine⟨?_,g⟩
    have aI:fn.name≠ "runtime.NumGoroutine":=by simpa using kg.num f fn bW (by simp[al])
    simp[callFunc,bW,aI,al]
   ·simp at a
  ·simp at a
def abK(kg:wV C.P){fn:Fn}{fy args:List y}{res:dZ}(al9:Lv aa fn)(XB:ea aa fy)(iQ:ea aa args)(a:yU C fn fy args=some res):
 it C J aa h j bj w (invoke (.fn (m4 J fn) (bO J fy).toArray) (bO J args).toArray) res:=by
 unfold yU at a
 split at a
 ·rename_i f
  have D:invoke (.fn (m4 J (.func f)) (bO J fy).toArray) (bO J args).toArray=callFunc f (bO J (args++fy)).toArray:=by
   simp[invoke,m4,CB]
  rw[D]
  exact Pj kg (Ao iQ XB) a
 ·rename_i k
  simp at a;subst a
  exact⟨rfl,iQ,al9⟩
 ·simp at a
def asa(V:c9 C J aa h j bj w)(kg:wV C.P){t:Nat}{v:y}{name:String}{args:List y}{res:dZ}(fk:b7 aa v)(iQ:ea aa args)(a:EF C h t v name args=some res):
 it C J aa h j bj w (callMethod (.iface t (aO J v)) name (bO J args).toArray) res:=by
 obtain⟨q,aG⟩:∃q,C.P.types.size+Made.depth=q+1:=⟨C.P.types.size+99,rfl⟩
 have go:∀(f:Nat) (x:y),b7 aa x->(method (q+1) t (aO J v) name).run C.P w= .ok (f,aO J x) w->rY C f (x::args)=some res->it C J aa h j bj w (callMethod (.iface t (aO J v)) name (bO J args).toArray) res:=by
  intro f x ft bc aA
  refine(Pj (J:=J) (h:=h) (j:=j) (bj:=bj) (w:=w) kg (args:=x::args) (show b7 aa x/\ea aa args from⟨ft,iQ⟩) aA).congr ?_
  simp[callMethod,aG,bc,bO]
 unfold EF at a
 split at a
 ·rename_i i aF
  split at a
  ·rename_i m bc
   simp only[eF]at a
   obtain⟨ay,a⟩:=a
   have FF:m.path.toList=[]:=by simpa using ay
   split at a
   ·rename_i f D bW a6
    refine go f v fk ?_ a
    simp[method,typeInfo,aF,bc,FF,follow,bW,receiverAt,run_underlying a6,Place.get]
   ·rename_i f D bW a6
    split at a
    ·rename_i x af
     obtain⟨H,K⟩:=V3 V fk af
     refine go f x K ?_ a
     cases v with
     |ptr b W=>
      simp only[Instr.loadAt,Instr.sureAddr,aO,Sem.run_bind,Sem.run_pure,Result.andThen_ok]at H
      have apH:∀(iq:TypeId) (E:Addr) (nm:String),Builtin.ssaWrapNilChk_ #[iq] iq #[.pointer (some E),strVal "",strVal nm]=pure (.pointer (some E)):=λ_ _ _=>rfl
      have Dm:m.path= #[]:=by simpa using ay
      simp[method,typeInfo,aF,bc,Dm,follow,bW,receiverAt,run_underlying a6,Place.get,aO,apH,asAddr,H]
     |_=>simp[pB,dT,aV]at af;split at af<;>simp at af
    ·simp at a
   ·rename_i f d aI bW a6
    refine go f v fk ?_ a
    cases d<;>first
     |exact(aI _ rfl).elim
     |simp[method,typeInfo,aF,bc,FF,follow,bW,receiverAt,run_underlying a6,Place.get]
   ·simp at a
  ·simp at a
 ·simp at a
def ajq(V:c9 C J aa h j bj w)(eS:bj<=w.heap.size)(kg:wV C.P){b:Builtin}{args:Array Operand}{cX:Array TypeId}{ty:TypeId}{ajO:Array Bool}{ax:Operand->Value}{eg:Operand->Option y}{res:dZ}
 (cw:jk J aa ax eg args.toList)(a:HX C b args cX h j eg=some res):it C J aa h j bj w (builtin b cX ty ajO (args.map ax)) res:=by
 have EK:∀{t:Nat}{rest:List Nat},cX.toList=t::rest->cX[0]? =some t:=λaD=>by rw[<-ZO,aD];rfl
 have O2:∀{t ab:Nat}{rest:List Nat},cX.toList=t::ab::rest->cX[1]? =some ab:=λaD=>by rw[<-ZO,aD];rfl
 unfold HX at a
 split at a
 ·rename_i s x af
  obtain⟨a7,b2⟩:=vs cw af
  rw[a7]
  split at a
  ·rename_i st iq rest aD
   split at a
   ·rename_i ai hE
    split at a
    ·rename_i n aI
     exact it.app V (aiq (ty:=ty) V eS (EK aD) (O2 aD) hE b2.1 aI a)
    ·simp at a
   ·rename_i D hE
    exact it.app V (VY (ty:=ty) V eS (EK aD) (O2 aD) hE (.inr ⟨D,rfl⟩) b2.1 b2.2.1 a)
   ·rename_i hE
    exact it.app V (VY (ty:=ty) V eS (EK aD) (O2 aD) hE (.inl rfl) b2.1 b2.2.1 a)
   ·simp at a
  ·simp at a
 ·rename_i af
  simp at a;subst a
  exact rfl
 ·simp at a
def air(V:c9 C J aa h j bj w)(eS:bj<=w.heap.size)(kg:wV C.P){oper:Oper}{ax:Operand->Value}{eg:Operand->Option y}{res:dZ}(cw:jk J aa ax eg oper.op.operands.toList)
 (a:nv oper.op C h j eg=some res):it C J aa h j bj w (execOp ax oper) res:=by
 obtain⟨dst,op,type,pos,after,guard⟩:=oper
 have acJ:∀t m q x,jk J aa ax eg [m,q,x]->Fm C t m q x h j eg=some res->it C J aa h j bj w (do Instr.mapUpdate t (ax m) (ax q) (ax x);pure .skip) res:=by
  intro t m q x cw a
  unfold Fm at a
  split at a
  ·rename_i E b c aD al aA
   obtain⟨bB,g1⟩:=cw m Zs E aD
   obtain⟨cp,b5⟩:=cw q Zs b al
   obtain⟨fj,cR⟩:=cw x Zs c aA
   obtain⟨R,w',H,K,am,aC⟩:=aix V g1 b5 cR a
   rw[bB,cp,fj]
   exact it.unit ⟨R,w',H,K,am,aC⟩
  ·simp at a
 cases op<;>simp only[nv]at a<;>(try(cases a;done))<;>simp only[execOp]<;>simp only[Op.operands]at cw
 case mapUpdate t m q x=>exact acJ t m q x (by simpa using cw) a
 case insert t m q x=>exact acJ t m q x (by simpa using cw) a
 case makeSlice t k c=>exact it.fq (arZ V eS (by simpa using cw) a)
 case makeMap t r=>
  cases r with
  |none=>simp at a
  |some r=>exact it.fq (arX V eS (by simpa using cw) a)
 case convert s d x=>exact it.one (avt V eS (by simpa using cw) a)
 case range t x=>exact it.fq (atO V eS (by simpa using cw) a)
 case next ew s=>exact it.one (ass V (by simpa using cw) a)
 case panic x=>
  unfold QF at a
  split at a
  ·rename_i t v af
   simp at a;subst a
   obtain⟨D,g⟩:=cw x Zs _ af
   refine⟨?_,g⟩
   simp[Instr.panic,D,aO]
  ·simp at a
 case defer c=>
  unfold Qs at a
  split at a
  ·rename_i f args cX
   split at a
   ·rename_i fn first fy ca bW has
    simp at a;subst a
    simp only[Call.operands]at cw
    obtain⟨D,g⟩:=cw f Zs _ bW
    obtain⟨a7,b2⟩:=vs (cw.mono (by simp;intro x af;exact .inr af)) has
    refine⟨?_,⟨g.1,g.2.2⟩,Ao g.2.1 b2⟩
    simp[resolve,D,aO,Deferred.ofValue,a7,lM,Cw,CB]
   ·simp at a
  ·simp at a
 case call c=>
  unfold CS at a
  split at a
  ·rename_i f args cX
   split at a
   ·rename_i fn first fy ca bW has
    simp only[Call.operands]at cw
    obtain⟨D,g⟩:=cw f Zs _ bW
    obtain⟨a7,b2⟩:=vs (cw.mono (by simp;intro x af;exact .inr af)) has
    refine(abK (J:=J) (h:=h) (j:=j) (bj:=bj) (w:=w) kg g.1 g.2.2 (Ao g.2.1 b2) a).congr ?_
    simp[resolve,D,aO,Deferred.ofValue,a7,CB]
   ·simp at a
  ·rename_i b args cX
   simp only[Call.operands]at cw
   show it C J aa h j bj w (builtin b cX type _ (args.map ax)) res
   exact ajq V eS kg (cw.mono Zs) a
  ·rename_i r name args cX
   split at a
   ·rename_i t v ca FM has
    simp only[Call.operands]at cw
    obtain⟨D,g⟩:=cw r Zs _ FM
    obtain⟨a7,b2⟩:=vs (cw.mono (by simp;intro x af;exact .inr af)) has
    refine(asa (v:=v) V kg g b2 a).congr ?_
    simp[resolve,D,aO,invoke,a7]
   ·simp at a
end
end Go.bs

