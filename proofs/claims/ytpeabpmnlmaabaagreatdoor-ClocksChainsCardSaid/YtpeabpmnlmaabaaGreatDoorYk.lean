/- Part of the proof of the last text; no conditions -/
import Derived.Test.YtpeabpmnlmaabaaGreatDoorYj
set_option maxHeartbeats 8000000
set_option linter.all false
namespace Go.Proofs.YtpeabpmnlmaabaaGreatDoor
open Go.ba Go.aQ
noncomputable section
def AT:List aX:=[[45,62],[60,60],[62,62],[60,61],[62,61],[60,62],[40],[41],[44],[59],[58],[61],[60],[62],[43],[45],[42]]
structure RC(X:ch):Prop where
 at_:∀h,cZ X h 17 (.ptr 0 0)=some (.agg (AT.map D.str))
def KG(s p:aX):Bool:=decide (p.length<=s.length/\s.take p.length=p)
def ww(s:aX)(i:Nat):Option aX:=AT.find? (KG (s.drop i))
def FF(p:aX):Tok:=⟨6,p,0,0,dQ⟩
def adc{α:Type}(p:α->Bool):∀(k:List α) (T:Nat),(∀y<T,∀x,k[y]? =some x->p x=false)->k.find? p=(k.drop T).find? p:=by
 intro k T
 induction T with
 |zero=>intro _;rfl
 |succ T ai=>
  intro a
  rw[ai λy aH=>a y Zo]
  by_cases bJ:T<k.length
  ·rw[Zr bJ,zh]
   have:=a T Zo k[T] (Ze bJ)
   rw[this]
  ·rw[ZD Zo,ZD Zo]
section
variable{X:ch}{h S' aK aJ:R af}{j am aM aR gv:Nat}{s:aX}{i:Nat}
def aBq(au:i2 X)(d7:RC X)(Y:nB X h gv s i)(aF:(o X).a6<=j)(Ll:gv<j):
 aW X 39 [.ptr gv 0] h j (λac S' am=>ac= .tuple [.agg (cd (match ww s i with|some p=>FF p|none=>hi)), .bool (ww s i).isSome]/\bf X h j S' am) (λ_ _ _=>False):=by
 refine zx au.todi (alT X) ?_
 rw[alU]
 unfold aam
 have ir:=Y.b7
 have hJ:nu (.str s) (some (.Z (i:Int))) none=some (.str (s.drop i)):=QR .i64 Y.le
 have bP:=d7.at_
 refine ce @bP ⟨?_⟩
 have bK:U X (bi X h j (zu [.Z 0, .str [], .Z 0, .int .u64 0, .zF, .zF, .Z 0] 7)) j=zu [.Z 0, .str [], .Z 0, .int .u64 0, .zF, .zF, .Z 0] 7:=bb aF
 have bH:bf X h j (bi X h j (zu [.Z 0, .str [], .Z 0, .int .u64 0, .zF, .zF, .Z 0] 7)) (j+1):=dA
 refine fp (λm H S' aP=>∃(T:Nat),H.g 0=some (.ptr gv 0)/\H.g 2=some (.ptr j 0)/\H.g 6=some (.agg (AT.map D.str))/\H.g 7=some (.Z (T:Int))/\T+m=17/\U X S' j=zu [.Z 0, .str [], .Z 0, .int .u64 0, .zF, .zF, .Z 0] 7/\bf X h j S' aP/\j+1<=aP/\∀y<T,∀x,AT[y]? =some x->KG (s.drop i) x=false)
  17 ⟨0,be,be,be,fO,Zo,bK,bH,Zj _,λy aH=>Zo⟩ ?_
 clear bK bH
 rintro m H aJ aR ⟨T,t0,ew,t6,t7,bJ,b1,bC,lB,k7⟩
 have hr:=Y.aa (bC.aa gv Ll)
 have dH:=hr.dH
 have cX:=hr.cX
 cases m with
 |zero=>
  have d:decide ((T:Int)<17)=false:=by simp only[Zc];omega
  have cb:ww s i=none:=by
   unfold ww
   rw[adc _ _ T k7,show AT.drop T=[] from ZD (by show 17<=T;omega)]
   rfl
  rw[cb]
  refine ed @t7 @d @ew ⟨?_⟩
  exact⟨rfl,bf.set bC Zo aF Zo⟩
 |succ m=>
  have d:decide ((T:Int)<17)=true:=by simp only[Zg];omega
  have bD:=zv T
  obtain⟨p,aw⟩:∃p,AT[T]? =some p:=⟨_,Ze (by show T<17;omega)⟩
  have dw:uY false 17 1 (.agg (AT.map D.str)) (.Z (T:Int))=some (.str p):=by
   have:Nat.blt T 17=true:=by simp[Nat.blt];omega
   simp only[uY,sz,this,ff,ls,qL,Z5,Zw,aw];rfl
  refine et @t7 @t6 @t0 @d @dw @dH (Za @cX @hJ) ⟨?_⟩
  refine(ah6 au.todi (s.drop i) p).Zm ?_
  rintro ac a1 bn ⟨rfl,rfl,rfl⟩
  have o9:decide (p.length<=(s.drop i).length/\(s.drop i).take p.length=p)=KG (s.drop i) p:=rfl
  rw[o9]
  cases gU:KG (s.drop i) p with
  |true=>
   have cb:ww s i=some p:=by
    unfold ww
    obtain⟨ae,B⟩:=Zb.1 aw
    have aE:AT.drop T=p::AT.drop (T+1):=by rw[Zr ae,B]
    rw[adc _ _ T k7,aE,zh,gU]
   rw[cb]
   refine ce @ew ⟨?_⟩
   exact⟨rfl,bf.set bC Zo aF Zo⟩
  |false=>
   refine cL @t7 @bD ⟨?_⟩
   refine⟨m,Zo,T+1,aZ t0,aZ ew,aZ t6,be,Zo,b1,⟨Zo,bC.aa⟩,Zo,λy aH x ae=> ?_⟩
   by_cases Pb:y=T
   ·subst Pb;rw[aw]at ae;cases ae;exact gU
   ·exact k7 y Zo x ae
end
def x8(s:aX)(i:Nat):Option Tok:=match s[i]? with
 |none=>none
 |some c=>if jh c then Fi s i else if rx c then(if (u0 s i).2 then some (u0 s i).1 else none)else(ww s i).map FF
def l9(x:Tok)(i:Nat):Tok:=⟨x.kind,x.text,i,x.n,x.ty⟩
def rN(s:aX):Nat->List Tok->Nat->Option (Except Int (List Tok))
 |0,_,_=>none
 |n+1,aU,i=>if i<s.length then match x8 s i with
   |none=>some (.error i)
   |some x=>rN s n (aU++[l9 x i]) (oV s s.length (i+x.text.length))
  else some (.ok (aU++[⟨7,[],i,0,dQ⟩]))
def Se(s:aX):∀(n i:Nat),i<=oV s n i:=by
 intro n
 induction n with
 |zero=>intro i;exact Zj _
 |succ n ai=>
  intro i
  rw[oV]
  split
  ·exact Zj _
  ·split
   ·exact ZA Zo (ai (i+1))
   ·split
    ·exact ZA Zo (ai _)
    ·exact Zj _
def Xg{s:aX}{i:Nat}{x:Tok}(a:x8 s i=some x):1<=x.text.length/\i+x.text.length<=s.length:=by
 unfold x8 at a
 cases ax:s[i]? with
 |none=>rw[ax]at a;cases a
 |some c=>
  rw[ax]at a
  simp only[]at a
  obtain⟨ae,B⟩:=Zb.1 ax
  have aE:s.drop i=c::s.drop (i+1):=by rw[Zr ae,B]
  have az:(s.drop i).length=s.length-i:=Yp
  split at a
  ·rename_i qz
   have J:=FO jh (s.drop i)
   have Q:1<=((s.drop i).takeWhile jh).length:=by rw[aE,YA,qz];simp
   unfold Fi at a
   simp only[]at a
   generalize (s.drop i).takeWhile jh=d at*
   split at a
   ·cases a
   ·have ak:=FO jr (s.drop (i+d.length))
    rw[Yp]at ak
    split at a
    ·cases a;exact⟨Q,by show i+d.length<=_;omega⟩
    ·split at a
     ·split at a
      ·cases a
       refine⟨?_, ?_⟩
       ·show 1<=(d++_).length;rw[ZK];omega
       ·show i+(d++_).length<=_;rw[ZK];omega
      ·cases a
     ·cases a
  ·split at a
   ·rename_i y5
    have J:=FO jr (s.drop i)
    have Q:1<=((s.drop i).takeWhile jr).length:=by rw[aE,YA,show jr c=true from by simp[jr,y5]];simp
    split at a
    ·cases a
     exact⟨Q,by show i+((s.drop i).takeWhile jr).length<=_;omega⟩
    ·cases a
   ·simp only[Yg]at a
    obtain⟨p,J,rfl⟩:=a
    have Q:=List.find?_some J
    have ak:=List.mem_of_find?_eq_some J
    simp[KG]at Q
    refine⟨?_, ?_⟩
    ·show 1<=p.length
     revert ak
     clear J Q
     revert p
     decide
    ·show i+p.length<=_;omega
def dL.narrow{C:aL}{h:R af}{P:Nat->Prop}{b bs:Nat}{aS:D}{bL:List (List D)}(a:dL C h P b aS bs bL):dL C h (λe=>e=b) b aS bs bL:=⟨λ_=>rfl,a.many,a.wide,a.len,a.fI,a.cell⟩
section
variable{X:ch}{h S' aK aJ:R af}{j am aM aR gv:Nat}{s:aX}{i:Nat}
structure Jj(X:ch):Prop where
 err:l6 X
 res:Na X
 sig:RC X
def aby(X:ch)(j:Nat)(r:Except Int (List Tok))(ac:D)(S':R af)(am:Nat):Prop:=match r with
 | .error F=>ac= .tuple [.aT, .agg [.Z 20, .Z F]]
 | .ok aU=>∃ao bQ,ac= .tuple [ao, .agg [.Z 0, .Z 0]]/\dL X S' (λe=>e=bQ) bQ ao 7 (aU.map cd)/\j<=bQ/\bQ<am
def aow(au:i2 X)(d7:Jj X)(aD:s.length<=65536)(ag:∀c∈s,c<256)(aF:(o X).a6<=j){a0:D}(az:gC a0=some (.Z (s.length:Int)))(Ee:∀S' aP,bf X h j S' aP->By X S' a0=some (.str s))
 {r:Except Int (List Tok)}(Y:rN s (s.length+1) [] (oV s s.length 0)=some r):
 aW X 22 [a0] h j (λac S' am=>aby X j r ac S' am/\bf X h j S' am) (λ_ _ _=>False):=by
 refine zx au.todi (alv X) ?_
 rw[alw]
 unfold ψ
 have jn:decide ((65536:Int)<(s.length:Int))=false:=by simp only[Zc];omega
 have tq:=Ee (bi X h j (zu [.Z 0, .Z 0] [D.Z 0, .Z 0].length)) (j+1) dA
 refine cL @az @jn ⟨?_⟩
 refine f7 tq ?_
 refine cI ⟨?_⟩
 refine eL (λaK=>U X aK j=zu [.Z 0, .Z 0] 2/\U X aK (j+1)=zu [.str s, .Z ((0:Nat):Int)] 2/\bf X h j aK (j+1+1)) ⟨by simp(disch:=omega) only[aC,bb]<;>rfl,by rw[bb Zo];rfl,dA⟩ ?_
 rintro aK ⟨bK,b1,bH⟩
 have nJ:nB X aK (j+1) s 0:=⟨b1,Zo,aD,Zo⟩
 refine(ab3 au nJ ag Zo Zo).Zm ?_
 rintro ac aJ aR ⟨hr,du⟩
 have fC:=du.le
 have cM:U X aJ j=zu [.Z 0, .Z 0] 2:=by rw[du.aa _ Zo Zs];exact bK
 have bC:bf X h j aJ aR:=⟨Zo,λe B=>by rw[du.aa e Zo Zx];exact bH.aa e B⟩
 refine gk ?_
 refine fp (λm H S' aP=>∃(aS:D) (aU:List Tok) (cw:List Nat) (T:Nat),H.g 3=some (.ptr j 0)/\H.g 4=some (.ptr (j+1) 0)/\H.g 5=some aS/\U X S' j=zu [.Z 0, .Z 0] 2/\nB X S' (j+1) s T/\gw X S' aS 7 (aU.map cd).flatten cw/\(∀e∈cw,j+2<=e/\e<aP)/\bf X h j S' aP/\j+2<=aP/\aU.length<=T/\rN s m aU T=some r)
  (s.length+1) ⟨.aT,[],[],_,be,be,be,cM,hr, .inl (.inl ⟨rfl,rfl,rfl⟩),Zs,bC,Zo,Zs,Y⟩ ?_
 clear Y bK b1 cM nJ hr bH bC du fC tq
 rintro m H aJ aR ⟨aS,aU,cw,T,t3,t4,t5,b1,hr,tG,oh,bC,lB,aEZ,Y⟩
 have dH:=hr.dH
 have cX:=hr.cX
 have vU:=hr.le
 cases m with
 |zero=>cases Y
 |succ m=>
 rw[rN]at Y
 have ae9:∀r∈aU.map cd,r.length=7:=λr a=>by obtain⟨x,_,rfl⟩:=ZG.1 a;rfl
 have mj:=uA ae9
 rw[Zi]at mj
 have abP:∀(a1:R af) (bn b:Nat) (x:Tok),(∀e∈cw,U X a1 e=U X aJ e)->aR<=bn->U X a1 b=zu (cd x) 7->
  ∃kX bA gL,jP X a1 bn 7 aS (.slice b 0 1 1)=some (.fq kX bA (bn+1))/\k1 X bA kX 7 ((aU++[x]).map cd).flatten gL/\(∀e∈gL,e=bn\/e∈cw)/\∀e,e≠bn->e∉cw->U X bA e=U X a1 e:=by
  intro a1 bn b x aH v6 OM
  have kA:lG X a1 7 (.slice b 0 1 1)=some (1,cd x):=sJ OM (nk _) rfl _
  obtain⟨kX,bA,gL,J,Q,ak,ay⟩:=(tG.aa aH).append (j:=bn) Zd kA rfl Zd rfl (by rw[mj,show(cd x).length=7 from rfl];omega) Zo (λe B=>zq (oh e B))
  refine⟨kX,bA,gL,J, ?_,ak,ay⟩
  rw[ZQ,YK,ZP,List.map_nil,Yk,List.flatten_nil,Yv]
  exact Q
 by_cases bJ:T<s.length
 ·have c1:=zs T s.length
  rw[Zp bJ]at Y
  obtain⟨c,ax⟩:∃c,s[T]? =some c:=⟨_,Ze bJ⟩
  have dw:=Cp .i64 ax
  have OR:=ag c (Zn ax)
  refine gm @t4 @dH (Za @cX (Za @c1 @dw)) ⟨?_⟩
  refine gk ?_
  refine gm @t4 @dH (Za @cX (Za @c1 @dw)) ⟨?_⟩
  refine gk ?_
  refine gm @t4 @dH (Za @cX (Za @c1 @dw)) ⟨?_⟩
  have rd:∀(y:Nat),(jh c=true->y=41)->(jh c=false->rx c=true->y=43)->(jh c=false->rx c=false->y=39)->∀Ip,aR<=Ip->
   aW X y [.ptr (j+1) 0] aJ Ip (λac S' aP=>(∃x,ac= .tuple [.agg (cd x), .bool (x8 s T).isSome]/\∀e,x8 s T=some e->x=e)/\bf X aJ Ip S' aP) (λ_ _ _=>False):=by
   intro y bW cq cS Ip UQ
   unfold x8
   rw[ax]
   simp only[]
   cases qz:jh c with
   |true=>
    rw[bW qz]
    simp only[ZE]
    exact ayW au d7.err hr ag Zo Zo
   |false=>
    simp only[Zy,ZC]
    cases y5:rx c with
    |true=>
     rw[cq qz y5]
     simp only[ZE]
     refine(aDd au d7.err d7.res hr ag Zo Zo).Zm ?_
     rintro ac S' aP ⟨rfl,bT⟩
     refine⟨⟨(u0 s T).1, ?_,λe a=> ?_⟩,bT⟩
     ·cases(u0 s T).2<;>rfl
     ·split at a
      ·cases a;rfl
      ·cases a
    |false=>
     rw[cS qz y5]
     simp only[Zy,ZC]
     refine(aBq au d7.sig hr Zo Zo).Zm ?_
     rintro ac S' aP ⟨rfl,bT⟩
     refine⟨⟨(match ww s T with|some p=>FF p|none=>hi), ?_,λe a=> ?_⟩,bT⟩
     ·cases ww s T<;>rfl
     ·cases b3:ww s T with
      |none=>rw[b3]at a;cases a
      |some p=>rw[b3]at a;cases a;rfl
  refine jW (λc3 S' aP=>∃y,c3.g 3=some (.ptr j 0)/\c3.g 4=some (.ptr (j+1) 0)/\c3.g 5=some aS/\c3.g 6=some (.func (.func y) [.ptr (j+1) 0] [])/\S'=aJ/\aR<=aP/\(jh c=true->y=41)/\(jh c=false->rx c=true->y=43)/\(jh c=false->rx c=false->y=39)) (λaFc Ux=> ?_) ?_
  ·refine(SG au.todi c).Zm ?_
   rintro ac a1 bn ⟨rfl,rfl,rfl⟩
   cases qz:jh c with
   |true=>
    refine ce @t4 ⟨?_⟩
    exact Ux _ _ _ ⟨41,aZ t3,aZ t4,aZ t5,be,rfl,Zo,λ_=>rfl,(λa=>absurd a (by simp[qz])),(λa=>absurd a (by simp[qz]))⟩
   |false=>
    refine ce @t4 ⟨?_⟩
    refine(ab0 au.todi c).Zm ?_
    rintro ac a1 bn ⟨rfl,rfl,rfl⟩
    cases y5:rx c with
    |true=>
     refine ce @t4 ⟨?_⟩
     exact Ux _ _ _ ⟨43,aZ t3,aZ t4,aZ t5,be,rfl,Zo,(λa=>absurd a (by simp[qz])),λ_ _=>rfl,(λ_ a=>absurd a (by simp[y5]))⟩
    |false=>
     refine ce @t4 ⟨?_⟩
     exact Ux _ _ _ ⟨39,aZ t3,aZ t4,aZ t5,be,rfl,Zo,(λa=>absurd a (by simp[qz])),(λ_ a=>absurd a (by simp[y5])),λ_ _=>rfl⟩
  clear t3 t4 t5
  rintro aDr a1 bn ⟨y,t3,t4,t5,t6,rfl,v6,bW,cq,cS⟩
  refine ce @t6 ⟨?_⟩
  refine(rd y bW cq cS _ v6).Zm ?_
  clear rd bW cq cS t6
  rintro ac bA cv ⟨⟨x,rfl,ae⟩,cW⟩
  have iG:=cW.le
  have dF:U X bA j=zu [.Z 0, .Z 0] 2:=by rw[cW.aa _ Zo];exact b1
  have Pu:=hr.aa (cW.aa (j+1) Zo)
  have Hf:bf X h j bA cv:=bC.trans ⟨Zo,λe B=>cW.aa e Zo⟩
  have avV:cd x=[.Z x.kind, .str x.text, .Z x.at_, .int .u64 x.n, .bool x.ty.b, .bool x.ty.s, .Z x.ty.w]:=rfl
  rw[avV]
  refine hw ⟨?_⟩
  refine hw ⟨?_⟩
  refine hw ⟨?_⟩
  refine hw ⟨?_⟩
  refine hw ⟨?_⟩
  generalize iD:bi X _ cv _=bN
  have bt:∀e,e<cv->U X bN e=U X bA e:=λe B=>by rw[<-iD];exact zw
  have fj:U X bN cv=zu (cd x) 7:=by rw[<-iD,bb Zo];rfl
  have d0:=dF
  rw[<-bt _ Zo]at d0
  have Li:=Pu.aa (bt (j+1) Zo)
  have dR:bf X h j bN (cv+1):=⟨Zo,λe B=>by rw[bt e Zo];exact Hf.aa e B⟩
  clear iD dF
  have ku:=Li.cX
  cases kk:x8 s T with
  |none=>
   rw[kk]at Y
   simp only[Zf]at Y
   subst Y
   simp only[ZZ]
   refine ed @t4 @t3 @ku ⟨?_⟩
   exact⟨rfl,bf.set dR (Zj _) aF Zo⟩
  |some e=>
   have:=ae e kk
   subst this
   rw[kk]at Y
   simp only[]at Y
   obtain⟨Ck,EE⟩:=Xg kk
   simp only[Z4]
   simp only[Ys]
   refine ed @t4 @t3 @ku ⟨?_⟩
   generalize gN:bi X bN cv _=bY
   have b4:∀e,e≠cv->U X bY e=U X bN e:=λe B=>by rw[<-gN,aC Zo B]
   have ek:U X bY cv=some (.cells (dT (R.ofList (cd x) 0 .nil) 2 [.Z (T:Int)]) 7 .own):=by rw[<-gN,bb Zo];rfl
   have oq:=Li.aa (b4 (j+1) Zo)
   have ej:bf X h j bY (cv+1):=⟨Zo,λe B=>by rw[b4 e Zo];exact dR.aa e B⟩
   have fN:=d0
   rw[<-b4 _ Zo]at fN
   have dk:∀e∈cw,U X bY e=U X a1 e:=λe B=>by have:=oh e B;rw[b4 e Zo,bt e Zo,cW.aa e Zo]
   clear gN fj d0 Li dR ku b4 bt Pu Hf
   have c7:aI X bY (.ptr cv 1)=some (.str x.text):=by rw[bp ek];rfl
   have bD:bl .add (.Z (T:Int)) (.Z (x.text.length:Int))=some (.Z ((T+x.text.length:Nat):Int)):=by rw[eH Zo Zo];rfl
   refine ti @c7 ⟨?_⟩
   refine hw ⟨?_⟩
   refine ti @bD ⟨?_⟩
   refine hw ⟨?_⟩
   refine hw ⟨?_⟩
   refine f7 (iJ (y:=1) (b:=j+1) (V:=1) (n:=2) oq.g Zo rfl Zd Zd rfl) ?_
   generalize kO:bi X bY (j+1) _=cn
   have dh:∀e,e≠j+1->U X cn e=U X bY e:=λe B=>by rw[<-kO,aC Zo B]
   have avl:nB X cn (j+1) s (T+x.text.length):=⟨by rw[<-kO,bb Zo];rfl,EE,aD,Zo⟩
   have eA:bf X h j cn (cv+1):=⟨Zo,λe B=>by rw[dh e Zo];exact ej.aa e B⟩
   rw[<-dh _ Zo]at ek fN
   have fJ:∀e∈cw,U X cn e=U X a1 e:=λe B=>by have:=oh e B;rw[dh e Zo];exact dk e B
   clear kO dh oq ej dk c7
   have eZ:aI X cn (.ptr cv 0)=some (.Z x.kind):=by rw[bp ek];rfl
   have c7:aI X cn (.ptr cv 1)=some (.str x.text):=by rw[bp ek];rfl
   have cr:aI X cn (.ptr cv 2)=some (.Z (T:Int)):=by rw[bp ek];rfl
   have dZ:aI X cn (.ptr cv 3)=some (.int .u64 x.n):=by rw[bp ek];rfl
   have f6:aI X cn (.ptr cv 4)=some (.bool x.ty.b):=by rw[bp ek];rfl
   have fZ:aI X cn (.ptr cv 5)=some (.bool x.ty.s):=by rw[bp ek];rfl
   have l2:aI X cn (.ptr cv 6)=some (.Z x.ty.w):=by rw[bp ek];rfl
   refine et @eZ @c7 @cr @dZ @f6 @fZ (Za @l2 @t5) ⟨?_⟩
   obtain⟨kX,dC,gL,iE,HT,B1,sk⟩:=abP (bi X cn (cv+1+11) (zu (cd (l9 x T)) 7)) (cv+1+11+1) (cv+1+11) (l9 x T) (λe B=>by have:=oh e B;rw[aC Zo Zo];exact fJ e B) Zo (bb Zo)
   refine j8 iE ?_
   have dX:∀e,e<j+2->e∉cw:=λe J Q=>zq (oh e Q)
   have gM:∀e,e<j+2->U X dC e=U X cn e:=λe B=>by rw[sk e Zo (dX e B),aC Zo Zo]
   have avm:=avl.aa (gM (j+1) Zo)
   rw[<-gM _ Zo]at fN
   have hx:bf X h j dC (cv+1+11+1+1):=⟨Zo,λe B=>by rw[gM e Zo];exact eA.aa e B⟩
   have qx:∀e∈gL,j+2<=e/\e<cv+1+11+1+1:=λe B=>by
    rcases B1 e B with rfl|a
    ·omega
    ·have:=oh e a;omega
   refine ce @t4 ⟨?_⟩
   refine(ab3 au avm ag Zo Zo).Zm ?_
   rintro ac dW d4 ⟨ru,hq⟩
   have pQ:=hq.le
   refine⟨m,Zo,kX,aU++[l9 x T],gL,_,aZ t3,aZ t4,be,by rw[hq.aa _ Zo Zs];exact fN,ru, .inl (HT.aa λe B=>hq.aa e (qx e B).2 (by have:=qx e B;simp;omega)),λe B=>zq (qx e B),⟨Zo,λe B=>by rw[hq.aa e Zo Zx];exact hx.aa e B⟩,Zo, ?_,Y⟩
   have:=Se s s.length (T+x.text.length)
   simp only[ZK,ZF,Z3]
   omega
 ·have c1:=zr T s.length
  rw[Zh bJ]at Y
  cases Y
  refine gb @t4 @dH @cX @c1 @t5 ⟨?_⟩
  obtain⟨kX,bA,gL,iE,qE,vK,fH⟩:=abP (bi X aJ (aR+10) (zu (cd ⟨7,[],T,0,dQ⟩) 7)) (aR+10+1) (aR+10) ⟨7,[],T,0,dQ⟩ (λe B=>aC Zo (zq (oh e B))) Zo (bb Zo)
  refine j8 iE ?_
  have dX:∀e,e<j+2->e∉cw:=λe J Q=>zq (oh e Q)
  have dF:U X bA j=zu [.Z 0, .Z 0] 2:=by rw[fH _ Zo (dX _ Zo),aC Zo Zo];exact b1
  have cW:bf X h j bA (aR+10+1+1):=⟨Zo,λe B=>by rw[fH _ Zo (dX _ Zo),aC Zo Zo];exact bC.aa e B⟩
  clear iE fH
  refine ce @t3 ⟨?_⟩
  have auw:∀r∈(aU++[(⟨7,[],T,0,dQ⟩:Tok)]).map cd,r.length=7:=λr a=>by obtain⟨x,_,rfl⟩:=ZG.1 a;rfl
  generalize iD:bi X bA j _=bN
  have bt:∀e,e≠j->U X bN e=U X bA e:=λe B=>by rw[<-iD,aC Zo B]
  have aeq:∀e∈gL,j+2<=e/\e<aR+10+1+1:=λe B=>by
   rcases vK e B with rfl|a
   ·omega
   ·have:=oh e a;omega
  obtain⟨bQ,cC⟩:=(qE.aa (S':=bN) (λe B=>bt e (zq (aeq e B)))).rH Zd auw Zx (P:=λe=>j<=e/\e<aR+10+1+1) (λe B=>zq (aeq e B))
  have j2:=cC.ag Zs
  exact⟨⟨kX,bQ,rfl,dL.narrow cC,j2.1,j2.2⟩,⟨Zo,λe B=>by rw[bt e Zo];exact cW.aa e B⟩⟩
end
section
variable{X:ch}{h S' aK aJ:R af}{j am aM aR aG bQ:Nat}{aU:List Tok}{i:Nat}
def V6(p:D):l8 X h 23 p=aI X h p:=Zk
def Ie(p:D):l8 X h 26 p=cZ X h 2 p:=Zk
def acU:dc X h .eql 20 true .nilIface .nilIface=some .zT:=Zk
def acT(y F:Int):dc X h .eql 20 true (pG y F) .nilIface=some .zF:=Zk
def ab5:∃fn c,(o X).P.funcs[23]? =some fn/\fn.body=some c:=N7 (RI X)
def aAt(au:di X){F b:D}{bg:Bool->R af->Nat->Prop}(a:bg false h j):uw X (.func 23) ([]++[F,b]) none h j bg:=by
 refine⟨au.none _ _ rfl,ab5,N8 (RI X) ?_⟩
 show yQ X 23 [F,b] none h j bg
 rw[ω]
 unfold RH
 show bk _ _
 refine ce @acU ⟨?_⟩
 exact a
def aAu(au:di X){F b:Nat}{y at_:Int}{cX dI:R D}{bg:Bool->R af->Nat->Prop}(aF:(o X).a6<=F)(lB:(o X).a6<=b)(y4:F≠b)(Eb:F<j)(vM:b<j)(gc:U X h F=some (.cells cX 1 .own))(lV:U X h b=some (.cells dI 2 .own))
 (a:∀S' aP,j<=aP->aI X S' (.ptr F 0)=some .cF->cZ X S' 2 (.ptr b 0)=some (.agg [.Z y, .Z at_])->(∀e,e<j->e≠F->e≠b->U X S' e=U X h e)->bg true S' aP):uw X (.func 23) ([]++[.ptr F 0, .ptr b 0]) (some (pG y at_)) h j bg:=by
 refine⟨au.none _ _ rfl,ab5,N8 (RI X) ?_⟩
 show yQ X 23 [.ptr F 0, .ptr b 0] (some (pG y at_)) h j bg
 rw[ω]
 unfold RH
 show bk _ _
 have R7:Gz 26 (.agg [.Z 0, .Z 0]) true (pG y at_)=some (.tuple [.agg [.Z y, .Z at_], .zT]):=yB _ _ _
 have Fw:∀(H:cU) (n:Nat),(QQ H).g n=H.g n:=λ_ _=>rfl
 refine ed @acT @R7 @Fw ⟨?_⟩
 generalize de:bi X _ j _=aK
 have bK:U X aK j=zu [.Z y, .Z at_] 2:=by rw[<-de,bb Zo];rfl
 have J:∀e,e<j->U X aK e=U X h e:=λe B=>by rw[<-de];exact zw
 rw[<-J F Eb]at gc
 rw[<-J b vM]at lV
 clear de
 refine cL (bp bK) @Fw ⟨?_⟩
 refine gp (by simp[D.same,nO,pk]) ?_
 generalize dO:bi X aK F _=aJ
 have b1:U X aJ F=some (.cells (dT cX 0 [.cF]) 1 .own):=by rw[<-dO,bb aF];rfl
 have Q:∀e,e≠F->U X aJ e=U X aK e:=λe B=>by rw[<-dO,aC aF B]
 rw[<-Q b Zo]at lV
 clear dO
 refine ti @Fw ⟨?_⟩
 refine f7 (iJ (y:=2) (b:=b) (V:=0) (n:=2) lV lB rfl Zd Zd rfl) ?_
 show bg true _ _
 refine a _ _ Zo ?_ ?_ (λe B Vo gA=> ?_)
 ·rw[bp (by rw[aC lB y4];exact b1),ix];rfl
 ·rw[il,bp (bb lB),bp (bb lB),ix,ix];rfl
 ·rw[aC lB gA,Q e Vo,J e B]
def aAE{ah:bI}{H:cU}{p aj v w:D}(mG:H.bd=[])(Q:H.g 2=some p)(ak:H.g 3=some aj)(c7:aI X h p=some v)(cr:cZ X h 2 aj=some w)(a:ah (.tuple [v,w]) h j):IH X ah H h j:=by
 unfold IH
 rw[mG]
 show cz (H.g 2) (λp=>ar (l8 X h 23 p) λv=>cz (H.g 3) λp=>ar (l8 X h 26 p) λw=>ah (.tuple [v,w]) h j)
 rw[Q,ak]
 refine mS ?_
 rw[V6,c7]
 refine oB ?_
 refine mS ?_
 rw[Ie,cr]
 exact oB a
def aAF{ah:bI}{H:cU}{p aj v w F b:D}(au:di X)(mG:H.bd=[⟨.fn (.func 23) [F,b],[]⟩])(Q:H.g 2=some p)(ak:H.g 3=some aj)(c7:aI X h p=some v)(cr:cZ X h 2 aj=some w)(a:ah (.tuple [v,w]) h j):IH X ah H h j:=by
 unfold IH
 rw[mG]
 show uw X (.func 23) ([]++[F,b]) none h j λ_ h j=>nV X [.cell 2 23, .cell 3 26] ah H [] h j
 refine aAt au ?_
 show cz (H.g 2) (λp=>ar (l8 X h 23 p) λv=>cz (H.g 3) λp=>ar (l8 X h 26 p) λw=>ah (.tuple [v,w]) h j)
 rw[Q,ak]
 refine mS ?_
 rw[V6,c7]
 refine oB ?_
 refine mS ?_
 rw[Ie,cr]
 exact oB a
def ahO{ah av:bI}{H:cU}{F b:Nat}{y at_:Int}{cX dI:R D}(au:di X)(mG:H.bd=[⟨.fn (.func 23) [.ptr F 0, .ptr b 0],[]⟩])(Q:H.g 2=some (.ptr F 0))(ak:H.g 3=some (.ptr b 0))
 (aF:(o X).a6<=F)(lB:(o X).a6<=b)(y4:F≠b)(Eb:F<j)(vM:b<j)(gc:U X h F=some (.cells cX 1 .own))(lV:U X h b=some (.cells dI 2 .own))
 (a:∀S' aP,j<=aP->(∀e,e<j->e≠F->e≠b->U X S' e=U X h e)->ah (.tuple [.cF, .agg [.Z y, .Z at_]]) S' aP):Mi X ah av H (pG y at_) h j:=by
 unfold Mi
 rw[mG]
 show uw X (.func 23) ([]++[.ptr F 0, .ptr b 0]) (some (pG y at_)) h j λb h j=>bV b (nV X [.cell 2 23, .cell 3 26] ah H [] h j) _
 refine aAu au aF lB y4 Eb vM gc lV (λS' aP f4 c7 cr aH=> ?_)
 show cz (H.g 2) (λp=>ar (l8 X S' 23 p) λv=>cz (H.g 3) λp=>ar (l8 X S' 26 p) λw=>ah (.tuple [v,w]) S' aP)
 rw[Q,ak]
 refine mS ?_
 rw[V6,c7]
 refine oB ?_
 refine mS ?_
 rw[Ie,cr]
 exact oB (a S' aP f4 aH)
def acA{fn:Fn}{first cap yA:List D}{H:cU}{ah:cU->Prop}(a:ah (AN H ⟨.fn fn cap,first++yA⟩)):JS (.func fn first cap) yA H ah:=a
def AL(s:aX)(n:Nat):Option (Except (Int×Int) (List Go.aQ.Node)):=match rN s (s.length+1) [] (oV s s.length 0)with
 |none=>none
 |some (.error F)=>some (.error (20,F))
 |some (.ok aU)=>match nR n [] aU with
  |none=>none
  |some (.error F)=>some (.error (21,F))
  |some (.ok (an,_))=>match qK an with
   |some (y,F)=>some (.error (y,F))
   |none=>some (.ok an)
def XF(X:ch)(j:Nat)(r:Except (Int×Int) (List Go.aQ.Node))(ac:D)(S':R af)(am:Nat):Prop:=match r with
 | .error (y,F)=>ac= .tuple [.cF, .agg [.Z y, .Z F]]
 | .ok an=>∃v,ac= .tuple [v, .agg [.Z 0, .Z 0]]/\oO X S' (dx j am) an v
def GH(s:aX):∀(n i:Nat),i<=s.length->oV s n i<=s.length:=by
 intro n
 induction n with
 |zero=>intro i a;exact a
 |succ n ai=>
  intro i a
  rw[oV]
  split
  ·exact a
  ·rename_i c ax
   have ae:=(Zb.1 ax).1
   split
   ·exact ai _ Zo
   ·split
    ·have:=FO (λc=>decide (c≠10)) (s.drop i)
     rw[Yp]at this
     exact ai _ Zo
    ·exact a
def Xh(s:aX):∀(n:Nat) (aU:List Tok) (i:Nat) (lL:List Tok),aU.length<=i->i<=s.length->rN s n aU i=some (.ok lL)->lL.length<=s.length+1:=by
 intro n
 induction n with
 |zero=>intro aU i lL _ _ a;cases a
 |succ n ai=>
  intro aU i lL J Q a
  rw[rN]at a
  split at a
  ·split at a
   ·cases a
   ·rename_i x ae
    obtain⟨bW,cq⟩:=Xg ae
    have cS:=Se s s.length (i+x.text.length)
    exact ai _ _ _ Zx (GH s _ _ cq) a
  ·cases a
   simp;omega
def azH(au:i2 X)(d7:Jj X)(gT:wK X){s:aX}{n:Nat}(tA:n<=170000)(aD:s.length<=65536)(ag:∀c∈s,c<256)(aF:(o X).a6<=j){a0:D}(az:gC a0=some (.Z (s.length:Int)))(Ee:∀S' aP,bf X h j S' aP->By X S' a0=some (.str s))
 {r:Except (Int×Int) (List Go.aQ.Node)}(Y:AL s n=some r):
 aW X 6 [a0] h j (λac S' am=>XF X j r ac S' am/\bf X h j S' am) (λ_ _ _=>False):=by
 refine JJ (amT X) (au.none _ _ rfl) ?_
 rw[amU]
 unfold aaJ
 refine cI ⟨?_⟩
 refine eL (λaK=>U X aK j=zu [.cF] 1/\U X aK (j+1)=zu [.Z 0, .Z 0] 2/\bf X h j aK (j+1+1)) ⟨by simp(disch:=omega) only[aC,bb]<;>rfl,by rw[bb Zo];rfl,dA⟩ ?_
 rintro aK ⟨bK,b1,bH⟩
 unfold AL at Y
 obtain⟨FA,Lm⟩:∃FA,rN s (s.length+1) [] (oV s s.length 0)=some FA:=by
  cases a:rN s (s.length+1) [] (oV s s.length 0)with
  |none=>rw[a]at Y;cases Y
  |some FA=>exact⟨FA,rfl⟩
 rw[Lm]at Y
 refine(aow au d7 aD ag Zo az (λS' aP a=>Ee S' aP (bH.trans a)) Lm).Zm ?_
 rintro ac aJ aR ⟨kk,bC⟩
 have fC:=bC.le
 have cM:U X aJ j=zu [.cF] 1:=by rw[bC.aa _ Zo];exact bK
 have dF:U X aJ (j+1)=zu [.Z 0, .Z 0] 2:=by rw[bC.aa _ Zo];exact b1
 have hp:=bH.trans bC
 clear bK b1
 cases FA with
 |error F=>
  simp only[Zf]at Y
  subst Y
  simp only[aby]at kk
  subst kk
  have SA:decide ((20:Int)≠0)=true:=rfl
  refine ce @SA ⟨?_⟩
  generalize e0:bi X aJ (j+1) _=a1
  have fj:U X a1 (j+1)=zu [.Z 20, .Z F] 2:=by rw[<-e0,bb Zo];rfl
  have ak:∀e,e≠j+1->U X a1 e=U X aJ e:=λe B=>by rw[<-e0,aC Zo B]
  rw[<-ak _ Zo]at cM
  have ck:bf X h j a1 aR:=⟨Zo,λe B=>by rw[ak e Zo];exact hp.aa e B⟩
  clear e0 ak dF
  refine f7 (iJ (y:=1) (b:=j) (V:=0) (n:=1) cM aF rfl Zd Zd rfl) ?_
  generalize e1:bi X a1 j _=bA
  have d0:U X bA j=some (.cells (dT (R.ofList [.cF] 0 .nil) 0 [.cF]) 1 .own):=by rw[<-e1,bb aF];rfl
  have ay:∀e,e≠j->U X bA e=U X a1 e:=λe B=>by rw[<-e1,aC aF B]
  rw[<-ay _ Zo]at fj
  have cW:bf X h j bA aR:=⟨Zo,λe B=>by rw[ay e Zo];exact ck.aa e B⟩
  clear e1 ay cM ck
  refine ti (bp fj) ⟨?_⟩
  refine gp (by simp[D.same,nO,pk]) ?_
  refine f7 (iJ (y:=2) (b:=j+1) (V:=0) (n:=2) fj Zo rfl Zd Zd rfl) ?_
  refine aAE (v:= .cF) (w:= .agg [.Z 20, .Z F]) rfl (fO) (fO) ?_ ?_ ⟨rfl,bf.set cW Zo aF Zo⟩
  ·rw[bp (by rw[aC Zo Zo];exact d0),ix];rfl
  ·rw[il,bp (bb Zo),bp (bb Zo),ix,ix];rfl
 |ok aU=>
  obtain⟨ao,bQ,rfl,cC,aDT,aDU⟩:=kk
  simp only[]at Y
  have SA:decide ((0:Int)≠0)=false:=rfl
  refine ce @SA ⟨?_⟩
  generalize e0:bi X aJ (j+1) _=a1
  have fj:U X a1 (j+1)=zu [.Z 0, .Z 0] 2:=by rw[<-e0,bb Zo];rfl
  have ak:∀e,e≠j+1->U X a1 e=U X aJ e:=λe B=>by rw[<-e0,aC Zo B]
  rw[<-ak _ Zo]at cM
  have ck:bf X h j a1 aR:=⟨Zo,λe B=>by rw[ak e Zo];exact hp.aa e B⟩
  have avn:=cC.aa (S':=a1) (λe B=>by subst B;exact ak e Zo)
  clear e0 ak dF
  refine acA ?_
  obtain⟨bD,cG,fV⟩:=km cC.len
  refine cI ⟨?_⟩
  have iN:fv [.aT, .Z 0] [(0,1,ao)]=some (.agg [ao, .Z 0]):=by
   simp[fv,uy,uz,bD,nY]
  refine f7 iN ?_
  refine cI ⟨?_⟩
  generalize gd:AN _ _=vn
  have kY:vn.bd=[⟨.fn (.func 23) [.ptr j 0, .ptr (j+1) 0],[]⟩]:=by rw[<-gd];rfl
  have ew:vn.g 2=some (.ptr j 0):=by rw[<-gd];rfl
  have t3:vn.g 3=some (.ptr (j+1) 0):=by rw[<-gd];rfl
  have NJ:∀k,rB 2 k=false->(h2 k vn).g 2=some (.ptr j 0):=λk a=>by simp[vy,ew,a]
  have acC:∀k,rB 3 k=false->(h2 k vn).g 3=some (.ptr (j+1) 0):=λk a=>by simp[vy,t3,a]
  have acw:∀k,(h2 k vn).bd=[⟨.fn (.func 23) [.ptr j 0, .ptr (j+1) 0],[]⟩]:=λk=>kY
  clear gd
  refine eL (λbA=>U X bA aR=zu [ao, .Z ((0:Nat):Int)] 2/\bf X a1 aR bA (aR+1)) ⟨by rw[bb Zo];rfl,dA⟩ ?_
  rintro bA ⟨d0,yY⟩
  have eT:=Xh s _ _ _ _ Zs (GH s _ _ Zo) Lm
  have au5:aQ X bA aR bQ aU 0:=⟨⟨_,ao,d0,rfl,rfl,avn.aa λe B=>by subst B;exact yY.aa e Zo⟩,Zo⟩
  have au8:i6 X bA (aR+1) aR bQ aU 0:=⟨Zo,Zo,Zo,Zo,Zo,au5⟩
  obtain⟨Mt,Cd⟩:∃Mt,nR n [] aU=some Mt:=by
   cases a:nR n [] aU with
   |none=>rw[a]at Y;cases Y
   |some Mt=>exact⟨Mt,rfl⟩
  rw[Cd]at Y
  have cN:U X bA j=zu [.cF] 1:=by rw[yY.aa _ Zo];exact cM
  have cB:U X bA (j+1)=zu [.Z 0, .Z 0] 2:=by rw[yY.aa _ Zo];exact fj
  refine(az6 au.todi gT tA Zo au8 (r:=Mt) Cd).mono ?_ ?_
  ·rintro v bN cf ⟨an,i5,rfl,Aj,_,dG⟩
   have iH:=dG.le
   simp only[]at Y
   have ea:U X bN j=zu [.cF] 1:=by rw[dG.aa _ Zo Zx];exact cN
   have fQ:U X bN (j+1)=zu [.Z 0, .Z 0] 2:=by rw[dG.aa _ Zo Zx];exact cB
   have Pg:∀e,e<j->U X bN e=U X h e:=λe B=>by rw[dG.aa e Zo Zx,yY.aa e Zo];exact ck.aa e B
   obtain⟨yD,_,_,_,rfl,aew,_⟩:=id Aj
   have aDV:=aew.1
   have aDW:=aew.2
   refine ti @ew ⟨?_⟩
   refine f7 (iJ (y:=1) (b:=j) (V:=0) (n:=1) ea aF rfl Zd Zd rfl) ?_
   generalize gN:bi X bN j _=bY
   have ek:U X bY j=some (.cells (dT (R.ofList [.cF] 0 .nil) 0 [.ptr yD 0]) 1 .own):=by rw[<-gN,bb aF];rfl
   have b4:∀e,e≠j->U X bY e=U X bN e:=λe B=>by rw[<-gN,aC aF B]
   clear gN
   have l2:aI X bY (.ptr j 0)=some (.ptr yD 0):=by rw[bp ek,ix];rfl
   refine ti @ew ⟨?_⟩
   refine ti @l2 ⟨?_⟩
   have au9:=Aj.aa (S':=bY) (bg:=dx (aR+1) cf) (λe B=>b4 e (zq B.1)) (λ_ a=>a)
   have mU:U X bY (j+1)=zu [.Z 0, .Z 0] 2:=by rw[b4 _ Zo];exact fQ
   refine(axU (j:=cf) (h:=bY) au.todi Zo au9 (λe B=>B.2)).mono ?_ ?_
   ·rintro MP cn d8 ⟨qC,rfl,eA⟩
    have ng:=eA.le
    rw[qC]at Y
    simp only[Zf]at Y
    subst Y
    have fN:U X cn j=some (.cells (dT (R.ofList [.cF] 0 .nil) 0 [.ptr yD 0]) 1 .own):=by rw[eA.aa _ Zo];exact ek
    have CW:U X cn (j+1)=zu [.Z 0, .Z 0] 2:=by rw[eA.aa _ Zo];exact mU
    have kR:aI X cn (.ptr j 0)=some (.ptr yD 0):=by rw[bp fN,ix];rfl
    refine ti @ew ⟨?_⟩
    refine ti @kR ⟨?_⟩
    refine hw ⟨?_⟩
    refine ti @ew ⟨?_⟩
    refine f7 (iJ (y:=1) (b:=j) (V:=0) (n:=1) fN aF rfl Zd Zd rfl) ?_
    generalize mh:bi X cn j _=dC
    have na:U X dC j=some (.cells (dT (dT (R.ofList [.cF] 0 .nil) 0 [.ptr yD 0]) 0 [.ptr yD 0]) 1 .own):=by rw[<-mh,bb aF];rfl
    have eI:∀e,e≠j->U X dC e=U X cn e:=λe B=>by rw[<-mh,aC aF B]
    rw[<-eI _ Zo]at CW
    clear mh
    refine ti @t3 ⟨?_⟩
    refine f7 (iJ (y:=2) (b:=j+1) (V:=0) (n:=2) CW Zo rfl Zd Zd rfl) ?_
    have rq:∀cV e,e≠j->e≠j+1->e<cf->U X (bi X dC (j+1) cV) e=U X bN e:=λcV e J Q ak=>by
     rw[aC Zo Q,eI e J,eA.aa e ak,b4 e J]
    refine aAF (v:= .ptr yD 0) (w:= .agg [.Z 0, .Z 0]) au.todi kY ew t3 ?_ ?_ ⟨⟨.ptr yD 0,rfl,Aj.aa (λe B=>rq _ e (zq B.1) (zq B.1) B.2) (λe B=>⟨zq B.1,zq B.2⟩)⟩,⟨Zo,λe B=>by rw[rq _ e Zo Zo Zo];exact Pg e B⟩⟩
    ·rw[bp (by rw[aC Zo Zo];exact na),ix];rfl
    ·rw[il,bp (bb Zo),bp (bb Zo),ix,ix];rfl
   ·rintro ac cn d8 ⟨y,F,qC,rfl,eA⟩
    have ng:=eA.le
    rw[qC]at Y
    simp only[Zf]at Y
    subst Y
    refine ahO (cX:=dT (R.ofList [.cF] 0 .nil) 0 [.ptr yD 0]) (dI:=R.ofList [.Z 0, .Z 0] 0 .nil) au.todi (acw _) (NJ _ rfl) (acC _ rfl) aF Zo Zo Zo Zo ?_ ?_ (λS' aP f4 aH=>⟨rfl,Zo,λe B=> ?_⟩)
    ·rw[eA.aa _ Zo];exact ek
    ·rw[eA.aa _ Zo];exact mU
    ·rw[aH e Zo Zo Zo,eA.aa e Zo,b4 e Zo];exact Pg e B
  ·rintro ac bN cf ⟨F,rfl,rfl,dG⟩
   have iH:=dG.le
   simp only[Zf]at Y
   subst Y
   refine ahO (cX:=R.ofList [.cF] 0 .nil) (dI:=R.ofList [.Z 0, .Z 0] 0 .nil) au.todi (acw _) (NJ _ rfl) (acC _ rfl) aF Zo Zo Zo Zo ?_ ?_ (λS' aP f4 aH=>⟨rfl,Zo,λe B=> ?_⟩)
   ·rw[dG.aa _ Zo Zx];exact cN
   ·rw[dG.aa _ Zo Zx];exact cB
   ·rw[aH e Zo Zo Zo,dG.aa e Zo Zx,yY.aa e Zo];exact ck.aa e B
end
end
end Go.Proofs.YtpeabpmnlmaabaaGreatDoor

namespace Go.aQ
def hD:List Tok->Prop
 |[]=>False
 |x::k=>x.kind=7/\x.text=[]\/hD k
def hD.p7{x:Tok}{k:List Tok}(a:hD (x::k))(ae:x.kind≠7):hD k:=a.resolve_left λy=>ae y.1
def ef{α:Type}(b:Nat)(bg:α->Prop)(x:fS α):Prop:=∃r,x=some r/\∀F bM,r= .ok (F,bM)->hD bM/\bM.length<b/\bg F
def q3(E:bB):Prop:=E.kind=4->E.args≠[]
def ef.mono{α:Type}{b dK:Nat}{bg nA:α->Prop}{x:fS α}(a:ef b bg x)(ag:b<=dK)(b3:∀F,bg F->nA F):ef dK nA x:=by
 obtain⟨r,J,Q⟩:=a
 exact⟨r,J,λF bM E=>by obtain⟨bW,cq,cS⟩:=Q F bM E;exact⟨bW,Zo,b3 F cS⟩⟩
def ef.ok{α:Type}{b:Nat}{bg:α->Prop}{F:α}{k:List Tok}(J:hD k)(Q:k.length<b)(ak:bg F):ef b bg (aQ.ok F k):=⟨_,rfl,λfu bM E=>by cases E;exact⟨J,Q,ak⟩⟩
def ef.bad{α:Type}{b:Nat}{bg:α->Prop}(F:Int):ef b bg (aQ.bad F:fS α):=⟨_,rfl,λfu bM E=>by cases E⟩
def ef.andThen{α eJ:Type}{b dK:Nat}{bg:α->Prop}{nA:eJ->Prop}{x:fS α}{f:α->List Tok->fS eJ}(a:ef b bg x)(y:∀F bM,hD bM->bM.length<b->bg F->ef dK nA (f F bM)):ef dK nA (aQ.andThen x f):=by
 obtain⟨r,rfl,Q⟩:=a
 cases r with
 |error F=>exact⟨_,rfl,λfu bM E=>by cases E⟩
 |ok p=>
  obtain⟨F,bM⟩:=p
  obtain⟨bW,cq,cS⟩:=Q F bM rfl
  exact y F bM bW cq cS
def WX{x:Tok}{s:aX}(a:g3 x s=true):x.kind≠7:=by
 intro E;simp[g3,E]at a
def oG{s:aX}{k:List Tok}(a:hD k):ef k.length (λ_=>True) (ee s k):=by
 cases k with
 |nil=>exact a.elim
 |cons x k=>
  simp only[ee]
  split
  ·rename_i aD;exact ef.ok (a.p7 (WX aD)) Zs trivial
  ·exact ef.bad _
def wg{y:Int}(aH:y≠7){k:List Tok}(a:hD k):ef k.length (λx:Tok=>True) (iI y k):=by
 cases k with
 |nil=>exact a.elim
 |cons x k=>
  simp only[iI]
  split
  ·rename_i aD;exact ef.ok (a.p7 Zo) Zs trivial
  ·exact ef.bad _
def qW{eJ:Type}{s:aX}{k:List Tok}{f:Option Tok->List Tok->fS eJ}{b:Nat}{bg:eJ->Prop}(a:hD k)(J:∀x bM,hD bM->bM.length+1=k.length->ef b bg (f (some x) bM))(Q:ef b bg (f none k)):ef b bg (h9 s k f):=by
 cases k with
 |nil=>exact a.elim
 |cons x k=>
  unfold h9 lj
  by_cases aD:g3 x s=true
  ·simp only[aD,ZE];exact J x k (a.p7 (WX aD)) Zs
  ·simp only[aD,ZC];exact Q
def ab1{k:List Tok}(a:hD k):∀os:List (aX×Int),∃E bM,nE os k=some (E,bM)/\(E=none/\bM=k\/∃x,E=some x/\hD bM/\bM.length+1=k.length):=by
 cases k with
 |nil=>exact a.elim
 |cons x k=>
  intro os
  induction os with
  |nil=>exact⟨_,_,rfl, .inl ⟨rfl,rfl⟩⟩
  |cons V os ai=>
   obtain⟨s,y⟩:=V
   unfold nE lj
   by_cases aD:g3 x s=true
   ·simp only[aD,ZE];exact⟨_,_,rfl, .inr ⟨_,rfl,a.p7 (WX aD),Zs⟩⟩
   ·simp only[aD,ZC]
    exact ai
structure ajE(n:Nat):Prop where
 level:∀y k,y<=5->hD k->13*k.length+9-y<=n->ef k.length q3 (level n y k)
 nM:∀y E k,y<=4->hD k->q3 E->13*k.length+1<=n->ef (k.length+1) q3 (nM n y E k)
 shift:∀k,hD k->13*k.length+3<=n->ef k.length q3 (shift n k)
 nZ:∀E k,hD k->q3 E->13*k.length+1<=n->ef (k.length+1) q3 (nZ n E k)
 n0:∀y x E k,y≠4->hD k->13*k.length+1<=n->ef k.length q3 (n0 n y x E k)
 u2:∀k,hD k->13*k.length+2<=n->ef k.length q3 (tV n k)
 mw:∀E k,hD k->q3 E->13*k.length+1<=n->ef (k.length+1) q3 (mw n E k)
 part:∀k,hD k->13*k.length+1<=n->ef k.length q3 (part n k)
 list:∀k,hD k->13*k.length+12<=n->ef k.length (λ_=>True) (list n k)
 nN:∀cp k,hD k->13*k.length+1<=n->ef k.length (λ_=>True) (nN n cp k)
 k2:∀k,hD k->13*k.length+10<=n->ef k.length q3 (k2 n k)
 arrow:∀k,hD k->13*k.length+11<=n->ef k.length q3 (arrow n k)
def vc{E:bB}(a:E.kind≠4):q3 E:=λy=>absurd y a
def Xu{E:bB}(a:E.args≠[]):q3 E:=λ_=>a
def hD.pos{k:List Tok}(a:hD k):0<k.length:=by cases k with
 |nil=>exact a.elim
 |cons x k=>simp
def aou:∀n,ajE n:=by
 intro n
 induction n with
 |zero=>constructor<;>(intros;rename_i a _ _;omega)
 |succ n ai=>
  constructor
  case level=>
   intro y k aH az aF
   have:=az.pos
   rw[level]
   split
   ·exact ai.shift k az Zo
   ·refine(ai.level (y+1) k Zo az Zo).andThen λE bM J Q ak=> ?_
    exact(ai.nM y E bM Zo J ak Zo).mono Zo λ_ a=>a
  case nM=>
   intro y E k aH az bz aF
   have:=az.pos
   rw[nM]
   obtain⟨V,bM,J,Q⟩:=ab1 az (aq y)
   rw[J]
   rcases Q with ⟨rfl,rfl⟩|⟨x,rfl,ak,ay⟩
   ·exact ef.ok az Zo bz
   ·simp only[]
    refine(ai.level (y+1) bM Zo ak Zo).andThen λr cr bW cq cS=> ?_
    split
    ·exact ef.ok bW Zo (Xu (by simp[two,bB.args]))
    ·exact(ai.nM y _ cr aH bW (Xu (by simp[two,bB.args])) Zo).mono Zo λ_ a=>a
  case shift=>
   intro k az aF
   have:=az.pos
   rw[shift]
   refine(ai.u2 k az Zo).andThen λE bM J Q ak=> ?_
   exact(ai.nZ E bM J ak Zo).mono Zo λ_ a=>a
  case nZ=>
   intro E k az bz aF
   have:=az.pos
   rw[nZ]
   refine qW az (λx bM J Q=>(ai.n0 19 x E bM Zd J Zo).mono Zo λ_ a=>a) ?_
   refine qW az (λx bM J Q=>(ai.n0 20 x E bM Zd J Zo).mono Zo λ_ a=>a) ?_
   exact ef.ok az Zo bz
  case n0=>
   intro y x E k aH az aF
   have:=az.pos
   rw[n0]
   refine(wg Zd az).andThen λm bM J Q ak=> ?_
   split
   ·exact ef.bad _
   ·exact(ai.nZ _ bM J (vc (by simpa[bB.kind]using aH)) Zo).mono Zo λ_ a=>a
  case u2=>
   intro k az aF
   have:=az.pos
   rw[tV]
   obtain⟨V,bM,J,Q⟩:=ab1 az AM
   rw[J]
   rcases Q with ⟨rfl,rfl⟩|⟨x,rfl,ak,ay⟩
   ·simp only[]
    refine(ai.part bM az Zo).andThen λE cr bW cq cS=> ?_
    exact(ai.mw E cr bW cS Zo).mono Zo λ_ a=>a
   ·simp only[]
    refine(ai.u2 bM ak Zo).andThen λE cr bW cq cS=> ?_
    exact ef.ok bW Zo (Xu (by simp[bB.args]))
  case mw=>
   intro E k az bz aF
   have:=az.pos
   rw[mw]
   refine qW az (λx bM J Q=> ?_) (ef.ok az Zo bz)
   have:=J.pos
   refine qW J (λe cr bW cq=> ?_) ?_
   ·refine(wg Zd bW).andThen λm dZ fk gl mO=> ?_
    exact(ai.mw _ dZ fk (vc (by simp[bB.kind])) Zo).mono Zo λ_ a=>a
   ·refine(wg Zd J).andThen λm dZ fk gl mO=> ?_
    exact(ai.mw _ dZ fk (vc (by simp[bB.kind])) Zo).mono Zo λ_ a=>a
  case list=>
   intro k az aF
   have:=az.pos
   rw[list]
   refine qW az (λx bM J Q=>ef.ok J Zo trivial) ?_
   refine(ai.arrow k az Zo).andThen λE cr bW cq cS=> ?_
   exact(ai.nN _ cr bW Zo).mono Zo λ_ a=>a
  case nN=>
   intro cp k az aF
   have:=az.pos
   rw[nN]
   refine qW az (λx bM J Q=> ?_) ?_
   ·refine(ai.arrow bM J Zo).andThen λE cr bW cq cS=> ?_
    exact(ai.nN _ cr bW Zo).mono Zo λ_ a=>a
   ·exact(oG az).andThen λ_ bM J Q _=>ef.ok J Zo trivial
  case k2=>
   intro k az aF
   have:=az.pos
   rw[k2]
   refine(ai.level 0 k Zo az Zo).andThen λE cr bW cq cS=> ?_
   refine qW bW (λx bM J Q=> ?_) (ef.ok bW Zo cS)
   have B6:tO E≠none:=by
    unfold tO
    split
    ·simp
    ·split
     ·rename_i ay
      have:=cS ay
      cases aA:E.args with
      |nil=>exact absurd aA this
      |cons F k=>simp
     ·simp
   simp only[]
   split
   ·rename_i a;exact absurd a B6
   ·refine(ai.k2 bM J Zo).andThen λr dZ fk gl mO=> ?_
    exact ef.ok fk Zo (vc (by simp[bB.kind]))
   ·exact ef.bad _
  case arrow=>
   intro k az aF
   have:=az.pos
   rw[arrow]
   refine(ai.k2 k az Zo).andThen λE cr bW cq cS=> ?_
   refine qW bW (λx bM J Q=> ?_) (ef.ok bW Zo cS)
   refine(ai.arrow bM J Zo).andThen λr dZ fk gl mO=> ?_
   exact ef.ok fk Zo (vc (by simp[bB.kind]))
  case part=>
   intro k az aF
   cases k with
   |nil=>exact az.elim
   |cons x k=>
   simp only[ZF]at aF
   rw[part]
   have eT:(x::k).length=k.length+1:=rfl
   rw[eT]
   by_cases ku:x.kind=5
   ·rw[Zp ku]
    exact ef.ok (az.p7 Zo) Zo (vc (by simp[bB.kind]))
   rw[Zh ku]
   split
   ·rename_i a
    have:x.kind=2:=by simp at a;exact a.1
    exact ef.ok (az.p7 Zo) Zo (vc (by simp[bB.kind]))
   by_cases cX:x.kind=1
   ·rw[Zp cX]
    have hI:=az.p7 Zo
    refine qW hI (λe cr J Q=> ?_) (ef.ok hI Zo (vc (by simp[bB.kind])))
    refine(ai.list cr J Zo).andThen λcp dZ fk gl mO=> ?_
    exact ef.ok fk Zo (vc (by simp[bB.kind]))
   rw[Zh cX]
   by_cases gZ:x.kind=3
   ·rw[Zp gZ]
    have hI:=az.p7 Zo
    refine(oG hI).andThen λ_ cr J Q _=> ?_
    refine(ai.arrow cr J Zo).andThen λE dZ fk gl mO=> ?_
    refine(oG fk).andThen λ_ f6 fK hX _=> ?_
    exact ef.ok fK Zo (vc (by simp[bB.kind]))
   rw[Zh gZ]
   split
   ·rename_i a
    have:x.kind=6:=by simp at a;exact a.1
    have hI:=az.p7 Zo
    refine(ai.arrow k hI Zo).andThen λE dZ fk gl mO=> ?_
    refine(oG fk).andThen λ_ f6 fK hX _=> ?_
    exact ef.ok fK Zo mO
   split
   ·rename_i a
    have:x.kind=2:=by simp at a;exact a.1
    have hI:=az.p7 Zo
    refine(ai.arrow k hI Zo).andThen λE dZ fk gl mO=> ?_
    refine(oG fk).andThen λ_ f6 fK hX _=> ?_
    refine(ai.arrow f6 fK Zo).andThen λcG fZ cN cB ea=> ?_
    refine(oG cN).andThen λ_ l2 e8 fR _=> ?_
    refine(ai.arrow l2 e8 Zo).andThen λfV kR jw jY Mv=> ?_
    exact ef.ok jw Zo (vc (by simp[bB.kind]))
   split
   ·rename_i a
    have:x.kind=2:=by simp at a;exact a.1
    have hI:=az.p7 Zo
    refine(wg Zd hI).andThen λc cr J Q _=> ?_
    refine(ai.part cr J Zo).andThen λE dZ fk gl mO=> ?_
    refine(ai.part dZ fk Zo).andThen λcG f6 fK hX xU=> ?_
    exact ef.ok fK Zo (vc (by simp[bB.kind]))
   ·exact ef.bad _
def ahk:∀(n:Nat) (cp k:List Tok),hD k->k.length<=n->ef k.length (λ_=>True) (fh n cp k):=by
 intro n
 induction n with
 |zero=>intro cp k a aF;have:=a.pos;omega
 |succ n ai=>
  intro cp k a aF
  rw[fh]
  refine(wg Zd a).andThen λx cr J Q _=> ?_
  refine qW J (λe dZ bW cq=>(ai _ dZ bW Zo).mono Zo λ_ a=>a) (ef.ok J Zo trivial)
def apX{w:Option Tok}{k:List Tok}(a:hD k):ef (k.length+1) (λ_=>True) (w5 w k):=by
 cases w with
 |none=>exact ef.ok a Zo trivial
 |some w=>
  simp only[w5]
  refine qW a (λe cr bW cq=> ?_) ?_
  ·exact(wg Zd bW).andThen λx dZ fk gl _=>ef.ok fk Zo trivial
  ·exact(wg Zd a).andThen λx dZ fk gl _=>ef.ok fk Zo trivial
def SC:∀(n:Nat) (loc:Bool) (ds:List ey) (k:List Tok),hD k->k.length+1<=n->ef k.length (λ_=>True) (ic n loc ds k):=by
 intro n
 induction n with
 |zero=>intro loc ds k a aF;omega
 |succ n ai=>
  intro loc ds k a aF
  rw[ic]
  refine(ahk n [] k a Zo).andThen λci cr J Q _=> ?_
  unfold BA
  refine(oG J).andThen λ_ dZ bW cq _=> ?_
  refine(wg Zd bW).andThen λt f6 fk gl _=> ?_
  have fin:∀w fZ,hD fZ->fZ.length<=f6.length->ef k.length (λ_=>True) (andThen (w5 w fZ) λr k=>lv loc (ic n loc) (ds++ci.map (qo t.ty r.1 r.2.1 r.2.2)) k):=by
   intro w fZ fK hX
   refine(apX fK).andThen λr l2 cN cB _=> ?_
   unfold lv
   cases l2 with
   |nil=>exact cN.elim
   |cons e kR=>
    simp only[AW,ZF]at cB ⊢
    split
    ·rename_i aD
     have ea:hD kR:=cN.resolve_left λy=>by rw[y.2]at aD;cases aD
     split
     ·cases kR with
      |nil=>exact ea.elim
      |cons bu mM=>
       simp only[AW]
       split
       ·exact ef.ok cN (by simp at cB ⊢;omega) trivial
       ·exact(ai _ _ (bu::mM) ea (by simp at cB ⊢;omega)).mono (by simp at cB ⊢;omega) λ_ a=>a
     ·exact(ai _ _ kR ea Zo).mono Zo λ_ a=>a
    ·exact ef.ok cN Zx trivial
  refine qW fk (λe fZ fK hX=>fin _ fZ fK Zo) (fin _ f6 fk Zo)
def aqO{n:Nat}{k:List Tok}(a:hD k)(aF:13*k.length+12<=n):ef k.length (λ_=>True) (tf n k):=by
 unfold tf
 have fin:∀(x:fS (List Tok)),ef (k.length+1) (λ_=>True) x->ef k.length (λ_=>True) (andThen x λci k=>andThen (ee [61] k) λE k=>andThen (arrow n k) λr k=>andThen (ee [59] k) λ_ k=>ok (⟨ci.map Tok.text,ci.map Tok.at_,E.at_,r⟩:f8) k):=by
  intro x ae
  refine ae.andThen λci cr J Q _=> ?_
  refine(oG J).andThen λ_ dZ bW cq _=> ?_
  refine((aou n).arrow dZ bW Zo).andThen λE f6 fk gl _=> ?_
  exact(oG fk).andThen λ_ fZ fK hX _=>ef.ok fK Zo trivial
 refine qW a (λe cr J Q=>fin _ ?_) (fin _ ?_)
 ·refine(wg Zd J).andThen λx dZ bW cq _=> ?_
  refine(oG bW).andThen λ_ f6 fk gl _=> ?_
  refine(ahk n _ f6 fk Zo).andThen λci fZ fK hX _=> ?_
  exact(oG fK).andThen λ_ l2 cN cB _=>ef.ok cN Zo trivial
 ·exact(wg Zd a).andThen λx dZ bW cq _=>ef.ok bW Zo trivial
def aqR:∀(n:Nat) (cT:List f8) (k:List Tok),hD k->13*k.length+13<=n->ef k.length (λ_=>True) (kv n cT k):=by
 intro n
 induction n with
 |zero=>intro cT k a aF;omega
 |succ n ai=>
  intro cT k a aF
  rw[kv]
  refine qW a (λe cr J Q=>ef.ok J Zo trivial) ?_
  refine(aqO a Zo).andThen λaj cr J Q _=> ?_
  exact(ai _ cr J Zo).mono Zo λ_ a=>a
def ayQ{n:Nat}{k:List Tok}(a:hD k)(aF:13*k.length+13<=n):ef k.length (λ_=>True) (node n k):=by
 unfold node
 refine(oG a).andThen λ_ cr J Q _=> ?_
 refine(wg Zd J).andThen λx dZ bW cq _=> ?_
 refine(oG bW).andThen λ_ f6 fk gl _=> ?_
 have aq7:∀d3 out fZ,hD fZ->fZ.length<f6.length->ef k.length (λ_=>True) (h9 [118,97,114] fZ λe k=>andThen (match e with
  |some _=>andThen (ic n true [] k) λds k=>andThen (ee [59] k) λ_ k=>ok ds k
  |none=>ok [] k) λloc k=>
  andThen (ee [108,101,116] k) λ_ k=>andThen (kv n [] k) λcT k=>ok (⟨x.text,x.at_,d3,out,loc,cT⟩:Node) k):=by
  intro d3 out fZ fK hX
  have ac7:∀(bu:fS (List ey)),ef (fZ.length+1) (λ_=>True) bu->ef k.length (λ_=>True) (andThen bu λloc k=>
   andThen (ee [108,101,116] k) λ_ k=>andThen (kv n [] k) λcT k=>ok (⟨x.text,x.at_,d3,out,loc,cT⟩:Node) k):=by
   intro bu cm
   refine cm.andThen λloc l2 cN cB _=> ?_
   refine(oG cN).andThen λ_ kR e8 fR _=> ?_
   refine(aqR n _ kR e8 Zo).andThen λcT mM jw jY _=> ?_
   exact ef.ok jw Zo trivial
  refine qW fK (λe l2 cN cB=>ac7 _ ?_) (ac7 _ (ef.ok fK Zo trivial))
  refine(SC n _ _ l2 cN Zo).andThen λds kR e8 fR _=> ?_
  exact(oG e8).andThen λ_ mM jw jY _=>ef.ok jw Zo trivial
 have ac6:∀(bu:fS (List ey)),ef (f6.length+1) (λ_=>True) bu->ef k.length (λ_=>True) (andThen bu λd3 k=>
  andThen (ee [114,101,116,117,114,110,115] k) λ_ k=>andThen (ee [40] k) λ_ k=>andThen (ic n false [] k) λout k=>andThen (ee [41] k) λ_ k=>
  h9 [118,97,114] k λe k=>andThen (match e with
  |some _=>andThen (ic n true [] k) λds k=>andThen (ee [59] k) λ_ k=>ok ds k
  |none=>ok [] k) λloc k=>
  andThen (ee [108,101,116] k) λ_ k=>andThen (kv n [] k) λcT k=>ok (⟨x.text,x.at_,d3,out,loc,cT⟩:Node) k):=by
  intro bu cm
  refine cm.andThen λd3 fZ fK hX _=> ?_
  refine(oG fK).andThen λ_ l2 cN cB _=> ?_
  refine(oG cN).andThen λ_ kR e8 fR _=> ?_
  refine(SC n _ _ kR e8 Zo).andThen λout mM jw jY _=> ?_
  refine(oG jw).andThen λ_ sr t1 ew _=> ?_
  exact aq7 d3 out sr t1 Zo
 refine qW fk (λe fZ fK hX=>ac6 _ (ef.ok fK Zo trivial)) (ac6 _ ?_)
 refine(SC n _ _ f6 fk Zo).andThen λds kR e8 fR _=> ?_
 exact(oG e8).andThen λ_ mM jw jY _=>ef.ok jw Zo trivial
def ayT:∀(n:Nat) (an:List Node) (k:List Tok),hD k->13*k.length+14<=n->ef k.length (λ_=>True) (nR n an k):=by
 intro n
 induction n with
 |zero=>intro an k a aF;omega
 |succ n ai=>
  intro an k a aF
  rw[nR]
  refine(ayQ a Zo).andThen λg cr J Q _=> ?_
  cases cr with
  |nil=>exact J.elim
  |cons x dZ=>
   simp only[]
   split
   ·exact ef.ok J Zo trivial
   ·exact(ai _ _ J Zo).mono Zo λ_ a=>a
end Go.aQ

namespace Go.Proofs.YtpeabpmnlmaabaaGreatDoor
open Go.ba Go.aQ
def hD.snoc{x:Tok}(J:x.kind=7)(Q:x.text=[]):∀k:List Tok,hD (k++[x]):=by
 intro k
 induction k with
 |nil=>exact .inl ⟨J,Q⟩
 |cons e k ai=>exact .inr ai
def aCt(s:aX):∀(n:Nat) (aU:List Tok) (i:Nat),i<=s.length->s.length<i+n->∃r,rN s n aU i=some r/\∀lL,r= .ok lL->hD lL:=by
 intro n
 induction n with
 |zero=>intro aU i J Q;omega
 |succ n ai=>
  intro aU i J Q
  rw[rN]
  split
  ·cases ae:x8 s i with
   |none=>exact⟨_,rfl,λlL a=>by cases a⟩
   |some x=>
    obtain⟨bW,cq⟩:=Xg ae
    have cS:=Se s s.length (i+x.text.length)
    exact ai _ _ (GH s _ _ cq) Zo
  ·exact⟨_,rfl,λlL a=>by cases a;exact hD.snoc rfl rfl _⟩
def azF{s:aX}(aD:s.length<=5000):∃r,AL s 170000=some r:=by
 unfold AL
 obtain⟨r,J,Q⟩:=aCt s (s.length+1) [] (oV s s.length 0) (GH s _ _ Zo) Zo
 rw[J]
 cases r with
 |error F=>exact⟨_,rfl⟩
 |ok aU=>
  simp only[]
  have eT:=Xh s _ _ _ _ Zs (GH s _ _ Zo) J
  obtain⟨r,ak,_⟩:=ayT 170000 [] aU (Q aU rfl) Zo
  rw[ak]
  cases r with
  |error F=>exact⟨_,rfl⟩
  |ok p=>
   obtain⟨an,k⟩:=p
   simp only[]
   cases qK an with
   |none=>exact⟨_,rfl⟩
   |some aj=>exact⟨_,rfl⟩
noncomputable def xV(s:aX):Except (Int×Int) (List Go.aQ.Node):=match AL s 170000 with
 |some r=>r
 |none=> .error (0,0)
def ahR{s:aX}(aD:s.length<=5000):AL s 170000=some (xV s):=by
 obtain⟨r,a⟩:=azF aD
 unfold xV
 rw[a]
variable{X:ch}{h:R af}{j:Nat}
def azE(au:i2 X)(d7:Jj X)(gT:wK X){s:aX}(aD:s.length<=5000)(ag:∀c∈s,c<256)(aF:(o X).a6<=j){a0:D}(az:gC a0=some (.Z (s.length:Int)))(Ee:∀S' aP,bf X h j S' aP->By X S' a0=some (.str s)):
 aW X 6 [a0] h j (λac S' am=>XF X j (xV s) ac S' am/\bf X h j S' am) (λ_ _ _=>False):=
 azH au d7 gT (Zj _) Zo ag aF az Ee (ahR aD)
end Go.Proofs.YtpeabpmnlmaabaaGreatDoor

namespace Go.Proofs.YtpeabpmnlmaabaaGreatDoor
open Go.ba Go.aQ
noncomputable section
def G0(nm:aX):Nat->List Go.aQ.Node->Option Nat
 |_,[]=>none
 |y,g::k=>if g.name=nm then some y else G0 nm (y+1) k
def qs(an:List Go.aQ.Node)(nm:aX):Option Nat:=G0 nm 0 an
section
variable{X:ch}{h S' aK aJ:R af}{j am aM aR:Nat}{P:Nat->Prop}{an:List Go.aQ.Node}
def awA(au:di X){g:Go.aQ.Node}{row:List D}(aF:(o X).a6<=j)(bP:oM X h P g row){c:Nat}{nm:aX}(ax:c<j)(xt:aI X h (.ptr c 0)=some (.str nm)):
 aW X 102 [.agg row, .ptr c 0] h j (λac S' am=>ac= .bool (decide (g.name=nm))/\bf X h j S' am) (λ_ _ _=>False):=by
 refine zx au (ajY X) ?_
 rw[ajZ]
 unfold XK
 obtain⟨c5,dt,aS,eM,bZ,cu,c0,fE,aiq,rfl,_⟩:=bP
 refine ce @xt ⟨?_⟩
 exact⟨rfl,dA⟩
def aws(au:di X){aS:D}{cO:Nat}{bL:List (List D)}(aF:(o X).a6<=j)(cC:dL X h P cO aS 6 bL)(vT:px X h P an bL)(bq:∀e,P e->e<j){c:Nat}{nm:aX}(ax:c<j)(xt:aI X h (.ptr c 0)=some (.str nm)):
 aW X 101 [aS, .func (.func 102) [] [.ptr c 0]] h j (λac S' am=>ac= .Z (match qs an nm with|some y=>(y:Int)|none=> -1)/\bf X h j S' am) (λ_ _ _=>False):=by
 refine zx au (ajW X) ?_
 rw[ajX]
 unfold XJ
 have xw:=vT.wide
 have d2:=cC.len
 have ik:=cC.many
 rw[xw.1]at d2 ik
 refine ce @d2 ⟨?_⟩
 refine fp (λm H S' aP=>∃(T:Nat),H.g 0=some aS/\H.g 1=some (.func (.func 102) [] [.ptr c 0])/\H.g 7=some (.Z (an.length:Int))/\H.g 8=some (.Z (T:Int))/\T+m=an.length/\bf X h j S' aP/\qs an nm=G0 nm T (an.drop T))
  an.length ⟨0,be,be,be,fO,Zo,bf.refl _ _,rfl⟩ ?_
 rintro m H aJ aR ⟨T,t0,t1,t7,t8,bJ,bC,cb⟩
 have fC:=bC.le
 cases m with
 |zero=>
  have d:=zr T an.length
  rw[ZD Zo]at cb
  refine ed @t8 @t7 @d ⟨?_⟩
  exact⟨by rw[cb];rfl,bC⟩
 |succ m=>
  have d:=zs T an.length
  have bD:=zv T
  obtain⟨g,bP⟩:=zt an T
  have aE:an.drop T=g::an.drop (T+1):=by
   obtain⟨ae,B⟩:=Zb.1 bP
   rw[Zr ae,B]
  obtain⟨row,fb,jH⟩:=vT.get T g bP
  have aH:=λe (B:P e)=>bC.aa e (bq e B)
  have dw:=cC.fI T (by rw[xw.1];omega)
  have hs:=(cC.aa aH).row Zd fb
  have Uc:aI X aJ (.ptr c 0)=some (.str nm):=zB (bC.aa c ax) xt
  rw[aE,G0]at cb
  refine et @t8 @t7 @t1 @t0 @d @dw @hs ⟨?_⟩
  refine(awA au Zo (jH.aa (bg:=P) aH (λ_ a=>a)) Zo Uc).Zm ?_
  rintro ac a1 bn ⟨rfl,ck⟩
  by_cases jg:g.name=nm
  ·rw[Zp jg]at cb
   have cH:decide (g.name=nm)=true:=by simp[jg]
   rw[cH]
   refine cI ⟨?_⟩
   exact⟨by rw[cb],bC.trans ck⟩
  ·rw[Zh jg]at cb
   have cH:decide (g.name=nm)=false:=by simp[jg]
   rw[cH]
   refine cL @t8 @bD ⟨?_⟩
   exact⟨m,Zo,T+1,aZ t0,aZ t1,aZ t7,be,Zo,bC.trans ck,cb⟩
def SW(b:Nat):dc X h .eql 23 true (.ptr b 0) .cF=some .zF:=Zk
def ahc{C:aL}{h:R af}(x:Int):tb C h .max [3,3] [.Z x, .Z 0]=some (.Z (max x 0)):=by
 show pA true (.Z x) [.Z 0]=_
 simp only[pA,fF,uX,ZE]
 congr 2
 simp only[Zg]
 split<;>omega
def S5(au:di X){v:D}(aF:(o X).a6<=j)(bP:oO X h P an v)(bq:∀e,P e->e<j)(nm:aX):
 aW X 79 [v, .str nm] h j (λac S' am=>ac= .tuple [.Z (((qs an nm).getD 0:Nat):Int), .bool (qs an nm).isSome]/\bf X h j S' am) (λ_ _ _=>False):=by
 refine zx au (am7 X) ?_
 rw[am8]
 unfold aa6
 obtain⟨b,aS,cO,bL,rfl,od,a0,cC,vT⟩:=bP
 have fY:=bq b od
 refine cL @SW @a0 ⟨?_⟩
 refine eL (λaK=>U X aK j=zu [.str nm] 1/\bf X h j aK (j+1)) ⟨bb aF,dA⟩ ?_
 rintro aK ⟨bK,bH⟩
 have aH:=λe (B:P e)=>bH.aa e (bq e B)
 refine(aws (j:=j+1) (h:=aK) au Zo (cC.aa aH) (vT.aa (bg:=P) aH (λ_ a=>a)) (λe B=>zq (bq e B)) Zo (by rw[bp bK];rfl)).Zm ?_
 rintro ac aJ aR ⟨rfl,bC⟩
 cases cb:qs an nm with
 |none=>
  refine ce @ahc ⟨?_⟩
  exact⟨rfl,bH.trans bC⟩
 |some y=>
  have d:decide ((0:Int)<=(y:Int))=true:=by simp only[Zg];omega
  have bo:max (y:Int) 0=(y:Int):=Zo
  refine ed @ahc @d @bo ⟨?_⟩
  exact⟨rfl,bH.trans bC⟩
end
mutual
def C7{gh:Type}(step:gh->bB->gh×Bool):gh->bB->gh
 |s, .mk y F nm no t n args=>if (step s (.mk y F nm no t n args)).2=true then yc step (step s (.mk y F nm no t n args)).1 args else(step s (.mk y F nm no t n args)).1
def yc{gh:Type}(step:gh->bB->gh×Bool):gh->List bB->gh
 |s,[]=>s
 |s,E::k=>yc step (C7 step s E) k
end
def aC0{gh:Type}(step:gh->bB->gh×Bool)(s:gh)(E:bB):C7 step s E=if (step s E).2=true then yc step (step s E).1 E.args else(step s E).1:=by
 cases E;rw[C7];rfl
def W1{E F:bB}(a:F∈E.args):SizeOf.sizeOf F<SizeOf.sizeOf E:=by
 cases E with
 |mk y at_ nm no t n args=>
  have cy:F∈args:=a
  have:=List.sizeOf_lt_of_mem cy
  simp
  omega
section
variable{X:ch}{h S' aK aJ:R af}{j am aM aR:Nat}
def aC2(au:di X){gh:Type}(step:gh->bB->gh×Bool)(P:Nat->Prop)(dJ:gh->R af->Nat->Prop)(eF:R af)(eK:bB->D->Prop)(jT:∀E b aS cO br,eK E (.ptr b 0)->aI X eF (.ptr b 8)=some aS->dL X eF P cO aS 1 (br.map λv=>[v])->dz X eF P E.args br->∀(i:Nat) F w,E.args[i]? =some F->br[i]? =some w->eK F w)(y:Nat)(sa hS:List D)
 (qF:∀(s:gh) (E:bB) (v:D) (h:R af) (j:Nat),dJ s h j->eK E v->cE X h P E v->(∀e,P e->U X h e=U X eF e)->aW X y ((sa++[v])++hS) h j (λac S' am=>ac= .bool (step s E).2/\dJ (step s E).1 S' am/\∀e,P e->U X S' e=U X h e) (λ_ _ _=>False)):
 ∀(N:Nat) (E:bB),SizeOf.sizeOf E<N->∀(s:gh) (v:D) (h:R af) (j:Nat),dJ s h j->eK E v->cE X h P E v->(∀e,P e->U X h e=U X eF e)->
  aW X 16 [v, .func (.func y) sa hS] h j (λac S' am=>ac= .tuple []/\dJ (C7 step s E) S' am/\∀e,P e->U X S' e=U X h e) (λ_ _ _=>False):=by
 intro N
 induction N with
 |zero=>intro E a;omega
 |succ N ai=>
  intro E jF s v h j fe Y bz KB
  refine zx au (alk X) ?_
  rw[alm]
  unfold σ
  obtain⟨b,aS,cO,br,rfl,ag,_,_,_,_,_,_,_,_,iz,cC,has⟩:=id bz.open
  have d2:=cC.len
  have uR:=has.len
  rw[Zi,uR]at d2
  have ik:=cC.many
  rw[Zi,uR]at ik
  rw[aC0]
  refine ce @Mj ⟨?_⟩
  refine(qF s E _ h j fe Y bz KB).Zm ?_
  rintro ac aK aM ⟨rfl,BU,lA⟩
  cases aD1:(step s E).2 with
  |false=>
   refine cI ⟨?_⟩
   exact⟨rfl,BU,lA⟩
  |true=>
   have Jw:aI X aK (.ptr b 8)=some aS:=zB (lA b ag) iz
   refine cL @Jw @d2 ⟨?_⟩
   refine fp (λm H S' aP=>∃(T:Nat) (eX:gh),H.g 1=some (.func (.func y) sa hS)/\H.g 17=some aS/\H.g 18=some (.Z (E.args.length:Int))/\H.g 19=some (.Z (T:Int))/\T+m=E.args.length/\dJ eX S' aP/\(∀e,P e->U X S' e=U X h e)/\yc step (step s E).1 E.args=yc step eX (E.args.drop T))
    E.args.length ⟨0,_,be,be,be,fO,Zo,BU,lA,rfl⟩ ?_
   rintro m H aJ aR ⟨T,eX,t1,C0,IT,x6,bJ,vH,iR,bw⟩
   cases m with
   |zero=>
    have d:=zr T E.args.length
    rw[ZD Zo,yc]at bw
    refine ed @x6 @IT @d ⟨?_⟩
    exact⟨rfl,by simp only[ZE];rw[bw];exact vH,iR⟩
   |succ m=>
    have d:=zs T E.args.length
    have bD:=zv T
    obtain⟨F,aA⟩:=zt E.args T
    have aE:E.args.drop T=F::E.args.drop (T+1):=by
     obtain⟨ae,B⟩:=Zb.1 aA
     rw[Zr ae,B]
    obtain⟨w,pc,KH⟩:=has.get T F aA
    obtain⟨bK,b1,cM⟩:=(cC.aa iR).one pc
    rw[aE,yc]at bw
    refine et @x6 @IT @C0 @t1 @d @bK @b1 ⟨?_⟩
    have eN:=W1 (Zn aA)
    refine(ai F Zo eX w aJ aR vH (jT E b aS cO br Y (by rw[cl, <-KB b ag, <-cl];exact iz) (cC.aa λe B=>(KB e B).symm) (dz.aa (λe B=>(KB e B).symm) _ _ has) T F w aA pc) (cE.aa iR _ _ KH) (λe B=>(iR e B).trans (KB e B))).Zm ?_
    rintro ac a1 bn ⟨rfl,y1,mI⟩
    refine cL @x6 @bD ⟨?_⟩
    exact⟨m,Zo,T+1,_,aZ t1,aZ C0,aZ IT,be,Zo,y1,λe B=>by rw[mI e B,iR e B],bw⟩
def aC1(au:di X){gh:Type}(step:gh->bB->gh×Bool)(P:Nat->Prop)(dJ:gh->R af->Nat->Prop)(y:Nat)(sa hS:List D)
 (qF:∀(s:gh) (E:bB) (v:D) (h:R af) (j:Nat),dJ s h j->cE X h P E v->aW X y ((sa++[v])++hS) h j (λac S' am=>ac= .bool (step s E).2/\dJ (step s E).1 S' am/\∀e,P e->U X S' e=U X h e) (λ_ _ _=>False))
 (N:Nat)(E:bB)(jF:SizeOf.sizeOf E<N)(s:gh)(v:D)(h:R af)(j:Nat)(fe:dJ s h j)(bz:cE X h P E v):
  aW X 16 [v, .func (.func y) sa hS] h j (λac S' am=>ac= .tuple []/\dJ (C7 step s E) S' am/\∀e,P e->U X S' e=U X h e) (λ_ _ _=>False):=
 aC2 au step P dJ h (λ_ _=>True) (λ_ _ _ _ _ _ _ _ _ _ _ _ _ _=>trivial) y sa hS (λs E v h j fe _ bz _=>qF s E v h j fe bz) N E jF s v h j fe trivial bz (λ_ _=>rfl)
end
def gr(X:ch)(h:R af)(bO:Nat)(p:D)(y:Int)(b8 dd:D)(f:Int×Int):Prop:=U X h bO=zu [p, .Z y,b8,dd, .Z f.1, .Z f.2] 6
def m8(f:Int×Int)(c F:Int):Int×Int:=if f.1=0 then(c,F)else f
section
variable{X:ch}{h S' aK aJ:R af}{j am aM aR:Nat}
def w2(au:di X){bO:Nat}{p b8 dd:D}{y:Int}{f:Int×Int}(aF:(o X).a6<=bO)(ax:gr X h bO p y b8 dd f)(c F:Int):
 aW X 80 [.ptr bO 0, .Z c, .Z F] h j (λac S' am=>ac= .tuple []/\gr X S' bO p y b8 dd (m8 f c F)/\j<=am/\∀e,e≠bO->U X S' e=U X h e) (λ_ _ _=>False):=by
 refine zx au (am9 X) ?_
 rw[ana]
 unfold aa8
 obtain⟨eQ,fd⟩:=f
 have T7:=ax
 unfold gr at ax
 have f6:aI X h (.ptr bO 4)=some (.Z eQ):=by rw[bp ax];rfl
 by_cases aY:eQ=0
 ·have d:decide (eQ=0)=true:=by simp[aY]
  refine hw ⟨?_⟩
  refine hw ⟨?_⟩
  refine hw ⟨?_⟩
  refine cL @f6 @d ⟨?_⟩
  refine⟨rfl, ?_,Zj _,λe B=>aC Zo B⟩
  unfold gr m8
  rw[bb Zo]
  simp only[aY,ZE]
  rfl
 ·have d:decide (eQ=0)=false:=by simp[aY]
  refine cL @f6 @d ⟨?_⟩
  refine⟨rfl, ?_,Zj _,λ_ _=>rfl⟩
  unfold m8
  simp only[aY,ZC]
  exact T7
def wp(E:bB):Bool:=decide (E.kind=2)||decide (E.kind=6)||decide (E.kind=24)
def ayy(au:di X){P:Nat->Prop}{E:bB}{v:D}(bz:cE X h P E v):
 aW X 104 [v] h j (λac S' am=>ac= .bool (wp E)/\S'=h/\j<=am) (λ_ _ _=>False):=by
 refine zx au (aj2 X) ?_
 rw[aj3]
 unfold XM
 obtain⟨b,rfl,ag,a0⟩:=bz.ptr
 by_cases Q:E.kind=2
 ·have d:decide (E.kind=2)=true:=by simp[Q]
  refine cL @a0 @d ⟨?_⟩
  exact⟨by simp[wp,Q],rfl,Zo⟩
 ·have d:decide (E.kind=2)=false:=by simp[Q]
  by_cases b4:E.kind=6
  ·have hF:decide (E.kind=6)=true:=by simp[b4]
   refine ed @a0 @d @hF ⟨?_⟩
   exact⟨by simp[wp,b4],rfl,Zo⟩
  ·have hF:decide (E.kind=6)=false:=by simp[b4]
   refine ed @a0 @d @hF ⟨?_⟩
   exact⟨by simp[wp,Q,b4],rfl,Zo⟩
end
def GX(E:aX×D×Nat):D×D×Nat:=(.str E.1,E.2.1,E.2.2)
variable{bx:Type}[DecidableEq bx]
def mD:List (bx×D×Nat)->bx->Nat->Option (Nat×D)
 |[],_,_=>none
 |x::dr,w,i=>if x.1=w then some (i,x.2.1)else mD dr w (i+1)
def sx(dr:List (bx×D×Nat))(w:bx):Option D:=(mD dr w 0).map Prod.snd
def S6(w:bx):∀(dr:List (bx×D×Nat)) (i:Nat),mD dr w (i+1)=(mD dr w i).map λp=>(p.1+1,p.2):=by
 intro dr
 induction dr with
 |nil=>intro i;rfl
 |cons x dr ai=>
  intro i
  simp only[mD]
  split
  ·rfl
  ·exact ai (i+1)
def CB(x:bx×D×Nat)(dr:List (bx×D×Nat))(w:bx):sx (x::dr) w=if x.1=w then some x.2.1 else sx dr w:=by
 unfold sx
 simp only[mD]
 split
 ·rfl
 ·rw[S6];cases mD dr w 0<;>rfl
def adh(w:bx):∀(dr:List (bx×D×Nat)) (T:Nat) (v:D),mD dr w 0=some (T,v)->∃b,dr[T]? =some (w,v,b):=by
 intro dr
 induction dr with
 |nil=>intro T v a;cases a
 |cons x dr ai=>
  intro T v a
  simp only[mD]at a
  split at a
  ·rename_i E
   cases a
   exact⟨x.2.2,by simp[<-E]⟩
  ·rw[S6]at a
   cases b3:mD dr w 0 with
   |none=>rw[b3]at a;cases a
   |some p=>
    rw[b3]at a
    simp at a
    obtain⟨rfl,rfl⟩:=a
    obtain⟨b,ag⟩:=ai p.1 p.2 b3
    exact⟨b,by simpa using ag⟩
def ag1(w b0:bx)(v:D)(b:Nat):∀dr:List (bx×D×Nat),sx dr w=none->sx (dr++[(w,v,b)]) b0=if b0=w then some v else sx dr b0:=by
 intro dr
 induction dr with
 |nil=>
  intro _
  rw[Yn,CB]
  by_cases a:b0=w
  ·simp[a]
  ·have:¬w=b0:=λE=>a E.symm
   simp[a,this]
 |cons x dr ai=>
  intro a
  rw[CB]at a
  split at a
  ·cases a
  ·rename_i ae
   rw[YF,CB,CB,ai a]
   by_cases E:x.1=b0
   ·have:¬b0=w:=λaj=>ae (E.trans aj)
    simp[E,this]
   ·simp[E]
def ag2(w b0:bx)(v:D):∀(dr:List (bx×D×Nat)) (T:Nat) (v0:D) (b:Nat),mD dr w 0=some (T,v0)->sx (dr.set T (w,v,b)) b0=if b0=w then some v else sx dr b0:=by
 intro dr
 induction dr with
 |nil=>intro T v0 b a;cases a
 |cons x dr ai=>
  intro T v0 b a
  simp only[mD]at a
  split at a
  ·rename_i E
   simp at a
   obtain⟨rfl,rfl⟩:=a
   rw[Yw,CB,CB]
   by_cases a:b0=w
   ·simp[a]
   ·have J:¬w=b0:=λaj=>a aj.symm
    have Q:¬x.1=b0:=λaj=>a (aj.symm.trans E)
    simp[a,J,Q]
  ·rename_i E
   rw[S6]at a
   cases b3:mD dr w 0 with
   |none=>rw[b3]at a;cases a
   |some p=>
    rw[b3]at a
    simp at a
    obtain⟨rfl,rfl⟩:=a
    rw[Yx,CB,CB,ai p.1 p.2 b b3]
    by_cases Q:x.1=b0
    ·have:¬b0=w:=λaj=>E (Q.trans aj)
     simp[Q,this]
    ·simp[Q]
section
variable{X:ch}{h S' aK aJ:R af}{j am aM aR:Nat}
def n6(X:ch)(h:R af)(r:Nat)(dN:aX->Option D):Prop:=∃dr fa,U X h r=some (.map (dr.map GX) fa)/\∀w,sx dr w=dN w
def n6.aa{r:Nat}{dN:aX->Option D}(a:n6 X h r dN)(y:U X S' r=U X h r):n6 X S' r dN:=by
 obtain⟨dr,fa,J,Q⟩:=a
 exact⟨dr,fa,by rw[y];exact J,Q⟩
def Qr(w:aX):nD X 20 9 (.str w)=true:=Zk
def acS(w b0:aX):jC X h 20 9 (.str w) (.str b0)=some (mP w b0):=Zk
def S3(w:aX):∀(dr:List (aX×D×Nat)) (i:Nat),findKey X h 9 (.str w) (dr.map GX) i=some (mD dr w i):=by
 intro dr
 induction dr with
 |nil=>intro i;rfl
 |cons x dr ai=>
  intro i
  simp only[ZP,GX,findKey,acS,AH,mD]
  by_cases a:w=x.1
  ·have:x.1=w:=a.symm
   simp[this]
  ·have:¬x.1=w:=λE=>a E.symm
   simp only[a,this,Yl,ZC]
   exact ai (i+1)
def aw3(w:aX):ox 20 (.str w) (.str w)=true:=by
 show mP w w=true
 rw[AH];simp
def CC{r:Nat}{dN:aX->Option D}(a:n6 X h r dN)(bu:D)(w:aX)(ok:Bool):
 mN X h 9 bu (.map r) (.str w) ok=some (match dN w with|some v=>bV ok (.tuple [v, .zT]) v|none=>bV ok (.tuple [bu, .zF]) bu):=by
 obtain⟨dr,fa,J,Q⟩:=a
 have ak:=Q w
 unfold sx at ak
 simp only[mN,J,Qr,ff,S3]
 cases b3:mD dr w 0 with
 |none=>rw[b3]at ak;rw[<-ak];rfl
 |some p=>rw[b3]at ak;rw[<-ak];rfl
def L8{r:Nat}{dN:aX->Option D}(Y:(o X).a6<=r)(a:n6 X h r dN)(w:aX)(v:D):
 ∃S',sy X h j 9 (.map r) (.str w) v=some (.fq ba.undef S' j)/\n6 X S' r (λx=>if x=w then some v else dN x)/\∀e,e≠r->U X S' e=U X h e:=by
 obtain⟨dr,fa,J,Q⟩:=a
 have aE:kM X r=true:=lr Y
 cases cb:mD dr w 0 with
 |none=>
  refine⟨Go.ba.bi X h r (some (.map ((dr++[(w,v,fa)]).map GX) (fa+1))), ?_,⟨dr++[(w,v,fa)],fa+1,bb Y,λx=> ?_⟩,λe B=>aC Y B⟩
  ·simp only[sy,J,Qr,ff,S3,cb,ba.setObj,aE,ff,hv]
   rw[ZQ]
   rfl
  ·rw[ag1 _ _ _ _ _ (by unfold sx;rw[cb];rfl),Q]
 |some p=>
  obtain⟨T,v0⟩:=p
  obtain⟨born,ag⟩:=adh w dr T v0 cb
  have dS:(dr.map GX)[T]? =some (.str w,v0,born):=by rw[Zw,ag];rfl
  refine⟨Go.ba.bi X h r (some (.map ((dr.set T (w,v,born)).map GX) fa)), ?_,⟨dr.set T (w,v,born),fa,bb Y,λx=> ?_⟩,λe B=>aC Y B⟩
  ·simp only[sy,J,Qr,ff,S3,cb,qL,dS,aw3,ba.setObj,aE,ff,hv]
   rw[List.map_set]
   rfl
  ·rw[ag2 w x v dr T v0 born cb,Q]
end
end
noncomputable section
structure c8 where
 kind:Int
 d:ey
 eq:Int
 left:Int
def nw:c8:=⟨0,⟨[],0,dQ,[],0,false⟩,0,0⟩
def lM(v:c8):List D:=[.Z v.kind, .str v.d.name, .Z v.d.at_, .bool v.d.ty.b, .bool v.d.ty.s, .Z v.d.ty.w, .str v.d.on, .Z v.d.eP, .bool v.d.no, .Z v.eq, .Z v.left]
def ia(X:ch)(h:R af)(P:Nat->Prop)(b8:D)(t:aX->Option c8):Prop:=∃b r,b8= .ptr b 0/\P b/\P r/\aI X h (.ptr b 0)=some (.map r)/\n6 X h r (λw=>(t w).map λv=> .agg (lM v))
section
variable{X:ch}{h S' aK aJ:R af}{j am aM aR:Nat}
def ia.aa{P bg:Nat->Prop}{b8:D}{t:aX->Option c8}(a:ia X h P b8 t)(y:∀e,P e->U X S' e=U X h e)(az:∀e,P e->bg e):ia X S' bg b8 t:=by
 obtain⟨b,r,J,Q,ak,ay,bt⟩:=a
 exact⟨b,r,J,az b Q,az r ak,zB (y b Q) ay,bt.aa (y r ak)⟩
def acV(b:Nat):dc X h .eql 41 true (.ptr b 0) .cF=some .zF:=Zk
def yU(au:di X){P:Nat->Prop}{b8:D}{t:aX->Option c8}(aF:(o X).a6<=j)(a8:ia X h P b8 t)(bq:∀e,P e->e<j)(w:aX):
 aW X 12 [b8, .str w] h j (λac S' am=>ac= .tuple [.agg (lM ((t w).getD nw)), .bool (t w).isSome]/\bf X h j S' am) (λ_ _ _=>False):=by
 refine zx au (akM X) ?_
 rw[akN]
 unfold XZ
 obtain⟨b,r,rfl,ag,Y,a0,bo⟩:=a8
 have fY:=bq b ag
 have Cd:=bq r Y
 refine qk ?_
 generalize de:bi X h j _=aK
 have bK:U X aK j=zu [.Z 0, .str [], .Z 0, .zF, .zF, .Z 0, .str [], .Z 0, .zF, .Z 0, .Z 0] 11:=by rw[<-de,bb aF];rfl
 have bH:bf X h j aK (j+1):=by rw[<-de];exact dA
 clear de
 have a7:aI X aK (.ptr b 0)=some (.map r):=zB (bH.aa b fY) a0
 have K7:=bo.aa (bH.aa r Cd)
 have jU:=CC K7 (.agg [.Z 0, .str [], .Z 0, .zF, .zF, .Z 0, .str [], .Z 0, .zF, .Z 0, .Z 0]) w true
 have HA:mN X aK 9 (.agg [.Z 0, .str [], .Z 0, .zF, .zF, .Z 0, .str [], .Z 0, .zF, .Z 0, .Z 0]) (.map r) (.str w) true=some (.tuple [.agg (lM ((t w).getD nw)), .bool (t w).isSome]):=by
  rw[jU];cases t w<;>rfl
 clear jU
 generalize (t w).getD nw=v at*
 have ot:lM v=[.Z v.kind, .str v.d.name, .Z v.d.at_, .bool v.d.ty.b, .bool v.d.ty.s, .Z v.d.ty.w, .str v.d.on, .Z v.d.eP, .bool v.d.no, .Z v.eq, .Z v.left]:=rfl
 rw[ot]at HA ⊢
 refine ed @acV @a7 @HA ⟨?_⟩
 refine f7 (iJ (y:=11) (b:=j) (V:=0) (n:=11) (c:=R.ofList [.Z 0, .str [], .Z 0, .zF, .zF, .Z 0, .str [], .Z 0, .zF, .Z 0, .Z 0] 0 .nil) (by simp(disch:=omega) only[aC];exact bK) aF rfl Zd Zd rfl) ?_
 generalize e0:bi X _ j _=a1
 have cM:U X a1 j=zu [.Z v.kind, .str v.d.name, .Z v.d.at_, .bool v.d.ty.b, .bool v.d.ty.s, .Z v.d.ty.w, .str v.d.on, .Z v.d.eP, .bool v.d.no, .Z v.eq, .Z v.left] 11:=by rw[<-e0,bb aF];rfl
 have ck:bf X h j a1 (j+1+1):=⟨Zo,λe B=>by rw[<-e0];simp(disch:=omega) only[aC];exact bH.aa e B⟩
 clear e0
 refine ce (bp cM) ⟨?_⟩
 exact⟨rfl,ck⟩
end
def LX(t:aX->Option c8)(ad:aX->Option Int)(f:Int×Int)(w:aX)(F:Int):Int×Int:=match t w with
 |none=>m8 f 23 F
 |some v=>if v.kind=1\/1<(ad w).getD 0+1 then m8 f 24 F else f
def oX(ad:aX->Option Int)(w:aX):Option D:=(ad w).map λy=> .Z y
section
variable{X:ch}{h S' aK aJ:R af}{j am aM aR:Nat}
def axF(au:di X){P:Nat->Prop}{bO dd:Nat}{p b8:D}{y:Int}{t:aX->Option c8}{ad:aX->Option Int}{f:Int×Int}(aF:(o X).a6<=j)(iF:(o X).a6<=bO)(xu:(o X).a6<=dd)(y8:bO<j)(xv:dd<j)(uL:bO≠dd)
 (ax:gr X h bO p y b8 (.map dd) f)(a8:ia X h P b8 t)(bq:∀e,P e->e<j/\e≠bO/\e≠dd)(fX:n6 X h dd (oX ad))(w:aX)(F:Int)(ag:0<=(ad w).getD 0/\(ad w).getD 0<4000000000000000000):
 aW X 82 [.ptr bO 0, .str w, .Z F] h j (λac S' am=>ac= .tuple []/\gr X S' bO p y b8 (.map dd) (LX t ad f w F)/\n6 X S' dd (oX λx=>if x=w then some ((ad w).getD 0+1)else ad x)/\j<=am/\∀e,e<j->e≠bO->e≠dd->U X S' e=U X h e) (λ_ _ _=>False):=by
 refine zx au (ane X) ?_
 rw[anf]
 unfold aba
 have cr:aI X h (.ptr bO 2)=some b8:=by unfold gr at ax;rw[bp ax];rfl
 refine ce @cr ⟨?_⟩
 refine(yU au aF a8 (λe B=>(bq e B).1) w).Zm ?_
 rintro ac aK aM ⟨rfl,bH⟩
 have jG:=bH.le
 have tq:gr X aK bO p y b8 (.map dd) f:=by unfold gr;rw[bH.aa bO y8];exact ax
 have asK:=fX.aa (bH.aa dd xv)
 generalize bv:(t w).getD nw=v
 have ot:lM v=[.Z v.kind, .str v.d.name, .Z v.d.at_, .bool v.d.ty.b, .bool v.d.ty.s, .Z v.d.ty.w, .str v.d.on, .Z v.d.eP, .bool v.d.no, .Z v.eq, .Z v.left]:=rfl
 rw[ot]
 refine hw ⟨?_⟩
 refine hw ⟨?_⟩
 refine qk ?_
 refine hw ⟨?_⟩
 generalize dO:bi X _ aM _=aJ
 have b1:U X aJ aM=zu [.Z v.kind, .str v.d.name, .Z v.d.at_, .bool v.d.ty.b, .bool v.d.ty.s, .Z v.d.ty.w, .str v.d.on, .Z v.d.eP, .bool v.d.no, .Z v.eq, .Z v.left] 11:=by rw[<-dO,bb Zo];rfl
 have bC:bf X h j aJ (aM+1):=⟨Zo,λe B=>by rw[<-dO];simp(disch:=omega) only[aC];exact bH.aa e B⟩
 have iR:∀e,e<aM->U X aJ e=U X aK e:=λe B=>by rw[<-dO];exact zw
 clear dO
 have Hq:gr X aJ bO p y b8 (.map dd) f:=by unfold gr;rw[iR bO Zo];exact tq
 have adV:=asK.aa (iR dd Zo)
 have dZ:aI X aJ (.ptr bO 3)=some (.map dd):=by unfold gr at Hq;rw[bp Hq];rfl
 have jU:mN X aJ 9 (.Z 0) (.map dd) (.str w) false=some (.Z ((ad w).getD 0)):=by
  rw[CC adV];unfold oX;cases ad w<;>rfl
 have bD:bl .add (.Z ((ad w).getD 0)) (.Z 1)=some (.Z ((ad w).getD 0+1)):=eH Zo Zo
 refine ed @dZ @jU @bD ⟨?_⟩
 obtain⟨a1,pR,adW,mI⟩:=L8 (j:=aM+1) xu adV w (.Z ((ad w).getD 0+1))
 refine j8 pR ?_
 have xs:gr X a1 bO p y b8 (.map dd) f:=by unfold gr;rw[mI bO uL];exact Hq
 rw[<-mI aM Zo]at b1
 have Km:n6 X a1 dd (oX λx=>if x=w then some ((ad w).getD 0+1)else ad x):=by
  have:(λx=>if x=w then some (D.Z ((ad w).getD 0+1))else oX ad x)=(oX λx=>if x=w then some ((ad w).getD 0+1)else ad x):=by
   funext x;unfold oX;by_cases a:x=w<;>simp[a]
  rw[<-this];exact adW
 have xy:∀e,e<j->e≠dd->U X a1 e=U X h e:=λe J Q=>by rw[mI e Q];exact bC.aa e J
 clear jU pR adW dZ
 unfold LX
 cases Lv:t w with
 |none=>
  simp only[ZZ,Yt]
  refine cI ⟨?_⟩
  refine(w2 (j:=aM+1) (h:=a1) au iF xs 23 F).Zm ?_
  rintro ac bA cv ⟨rfl,vN,iG,fH⟩
  refine cI ⟨?_⟩
  exact⟨by first|trivial|rfl,vN,Km.aa (fH dd Zo),Zo,λe J Q ak=>by rw[fH e Q];exact xy e J ak⟩
 |some hj=>
  have As:hj=v:=by rw[Lv]at bv;exact bv
  subst As
  simp only[Z4,Ys]
  have eZ:aI X a1 (.ptr aM 0)=some (.Z hj.kind):=by rw[bp b1];rfl
  have dZ:aI X a1 (.ptr bO 3)=some (.map dd):=by unfold gr at xs;rw[bp xs];rfl
  have jU:mN X a1 9 (.Z 0) (.map dd) (.str w) false=some (.Z ((ad w).getD 0+1)):=by
   rw[CC Km];unfold oX;simp
  by_cases J:hj.kind=1
  ·have d:decide (hj.kind=1)=true:=by simp[J]
   refine cL @eZ @d ⟨?_⟩
   refine(w2 (j:=aM+1) (h:=a1) au iF xs 24 F).Zm ?_
   rintro ac bA cv ⟨rfl,vN,iG,fH⟩
   refine cI ⟨?_⟩
   exact⟨by first|trivial|rfl,by simp only[J,true_or,ZE];exact vN,Km.aa (fH dd Zo),Zo,λe J Q ak=>by rw[fH e Q];exact xy e J ak⟩
  ·have d:decide (hj.kind=1)=false:=by simp[J]
   by_cases Q:1<(ad w).getD 0+1
   ·have cH:decide (1<(ad w).getD 0+1)=true:=by simp only[Zg];exact Q
    refine gb @eZ @d @dZ @jU @cH ⟨?_⟩
    refine(w2 (j:=aM+1) (h:=a1) au iF xs 24 F).Zm ?_
    rintro ac bA cv ⟨rfl,vN,iG,fH⟩
    refine cI ⟨?_⟩
    exact⟨by first|trivial|rfl,by simp only[J,Q,or_true,ZE];exact vN,Km.aa (fH dd Zo),Zo,λe J Q ak=>by rw[fH e Q];exact xy e J ak⟩
   ·have cH:decide (1<(ad w).getD 0+1)=false:=by simp only[Zc];exact Q
    refine gb @eZ @d @dZ @jU @cH ⟨?_⟩
    exact⟨by first|trivial|rfl,by simp only[J,Q,Ym,ZC];exact xs,Km,Zo,λe J Q ak=>xy e J ak⟩
end
def xY(t:aX->Option c8)(f:Int×Int)(E:bB):Int×Int:=if wp E then(if (t E.name).isSome then f else m8 f 23 E.at_)else f
def IK(an:List Go.aQ.Node)(y:Nat)(f:Int×Int)(E:bB):Int×Int:=if E.kind=25 then(match qs an E.name with
 |none=>m8 f 23 E.at_
 |some T=>if y<=T then m8 f 25 E.at_ else f)else f
def ua(t:aX->Option c8)(an:List Go.aQ.Node)(y:Nat)(f:Int×Int)(E:bB):(Int×Int)×Bool:=(IK an y (xY t f E) E,true)
structure Gm(X:ch)(eF:R af)(a6 bO:Nat)(p:D)(y:Nat)(b8 dd:D)(f:Int×Int)(h:R af)(j:Nat):Prop where
 le:a6<=j
 kc:gr X h bO p y b8 dd f
 low:∀e,e<a6->e≠bO->U X h e=U X eF e
section
variable{X:ch}{h S' eF aK aJ:R af}{j am aM aR:Nat}
def aAK(au:di X){P:Nat->Prop}{fP bO hM:Nat}{p b8 dd:D}{y:Nat}{t:aX->Option c8}{an:List Go.aQ.Node}(aEy:(o X).a6<=fP)(iF:(o X).a6<=bO)(y8:bO<fP)(Pt:hM<fP)(Pq:hM≠bO)(b3:aI X eF (.ptr hM 0)=some (.ptr bO 0))
 (bq:∀e,P e->e<fP/\e≠bO)(a8:ia X eF P b8 t)(bP:oO X eF P an p){f:Int×Int}(pL:Gm X eF fP bO p y b8 dd f h j){E:bB}{v:D}(bz:cE X h P E v):
 aW X 103 [v, .ptr hM 0] h j (λac S' am=>ac= .zT/\Gm X eF fP bO p y b8 dd (ua t an y f E).1 S' am) (λ_ _ _=>False):=by
 refine zx au (aj0 X) ?_
 rw[aj1]
 unfold XL
 refine(ayy au bz).Zm ?_
 rintro ac aK aM ⟨rfl,rfl,jG⟩
 have aEB:=pL.le
 have it:∀h,U X h hM=U X eF hM->aI X h (.ptr hM 0)=some (.ptr bO 0):=λh a=>zB a b3
 refine jW (λc3 S' aP=>c3.g 0=some v/\c3.g 1=some (.ptr hM 0)/\Gm X eF fP bO p y b8 dd (xY t f E) S' aP/\cE X S' P E v) (λT bJ=> ?_) ?_
 ·obtain⟨b,_,_,_,rfl,ag,a0,a7,b6,_⟩:=id bz.open
  unfold xY at bJ
  cases jg:wp E with
  |false=>
   rw[jg]at bJ
   simp only[Zy,ZC]at bJ
   refine cI ⟨?_⟩
   exact bJ _ _ _ ⟨be,be,⟨Zo,pL.kc,pL.low⟩,bz⟩
  |true=>
   rw[jg]at bJ
   simp only[ZE]at bJ
   have U2:=it aK (pL.low hM Pt Pq)
   have cr:aI X aK (.ptr bO 2)=some b8:=by have:=pL.kc;unfold gr at this;rw[bp this];rfl
   refine ed @U2 @cr @b6 ⟨?_⟩
   refine eL (λaJ=>U X aJ (aM+12)=zu [.Z 0, .str [], .Z 0, .zF, .zF, .Z 0, .str [], .Z 0, .zF, .Z 0, .Z 0] 11/\bf X aK aM aJ (aM+12+1)) ⟨by rw[bb Zo];rfl,Zo,λe B=>zw⟩ ?_
   rintro aJ ⟨b1,bC⟩
   have cq:∀e,e<fP->U X aJ e=U X aK e:=λe B=>bC.aa e Zo
   refine(yU (j:=aM+15) (h:=aJ) au Zo (a8.aa (bg:=P) (λe B=>by rw[cq e (bq e B).1];exact pL.low e (bq e B).1 (bq e B).2) (λ_ a=>a)) (λe B=>zq (bq e B).1) E.name).Zm ?_
   rintro ac a1 bn ⟨rfl,ck⟩
   have jf:=ck.le
   have cM:U X a1 (aM+12)=zu [.Z 0, .str [], .Z 0, .zF, .zF, .Z 0, .str [], .Z 0, .zF, .Z 0, .Z 0] 11:=by rw[ck.aa _ Zo];exact b1
   generalize As:(t E.name).getD nw=fl
   have ot:lM fl=[.Z fl.kind, .str fl.d.name, .Z fl.d.at_, .bool fl.d.ty.b, .bool fl.d.ty.s, .Z fl.d.ty.w, .str fl.d.on, .Z fl.d.eP, .bool fl.d.no, .Z fl.eq, .Z fl.left]:=rfl
   rw[ot]
   refine hw ⟨?_⟩
   refine hw ⟨?_⟩
   refine f7 (iJ (y:=11) (b:=aM+12) (V:=0) (n:=11) cM Zo rfl Zd Zd rfl) ?_
   generalize e1:bi X a1 (aM+12) _=bA
   have d1:∀e,e<aM->U X bA e=U X aK e:=λe B=>by rw[<-e1,aC Zo Zo,ck.aa e Zo,bC.aa e B]
   clear e1 b1 cM
   have OA:Gm X eF fP bO p y b8 dd f bA bn:=⟨Zo,by have:=pL.kc;unfold gr at*;rw[d1 bO Zo];exact this,λe J Q=>by rw[d1 e Zo];exact pL.low e J Q⟩
   have uN:cE X bA P E (.ptr b 0):=cE.aa (λe B=>d1 e (zq (bq e B).1)) _ _ bz
   have ave:=it bA (OA.low hM Pt Pq)
   have an6:aI X bA (.ptr b 1)=some (.Z E.at_):=zB (d1 b (zq (bq b ag).1)) a7
   cases tx:(t E.name).isSome with
   |true=>
    rw[tx]at bJ
    simp only[ZE]at bJ
    refine cI ⟨?_⟩
    exact bJ _ _ _ ⟨be,be,OA,uN⟩
   |false=>
    rw[tx]at bJ
    simp only[Zy,ZC]at bJ
    refine cL @ave @an6 ⟨?_⟩
    refine(w2 (h:=bA) au iF OA.kc 23 E.at_).Zm ?_
    rintro ac bN cf ⟨rfl,Ec,iH,nd⟩
    refine cI ⟨?_⟩
    exact bJ _ _ _ ⟨be,be,⟨Zo,Ec,λe J Q=>by rw[nd e Q];exact OA.low e J Q⟩,cE.aa (λe B=>nd e (bq e B).2) _ _ uN⟩
 ·rintro H aJ aR ⟨t0,t1,D7,KQ⟩
  obtain⟨b,_,_,_,rfl,ag,a0,a7,b6,_⟩:=id KQ.open
  have fC:=D7.le
  show cz _ _
  by_cases tl:E.kind=25
  ·have d:decide (E.kind=25)=true:=by simp[tl]
   have U2:=it aJ (D7.low hM Pt Pq)
   have eZ:aI X aJ (.ptr bO 0)=some p:=by have:=D7.kc;unfold gr at this;rw[bp this];rfl
   refine et @t0 @t1 @a0 @d @U2 @eZ @b6 ⟨?_⟩
   refine(S5 (j:=aR+14) (h:=aJ) au Zo (bP.aa (bg:=P) (λe B=>D7.low e (bq e B).1 (bq e B).2) (λ_ a=>a)) (λe B=>zq (bq e B).1) E.name).Zm ?_
   rintro ac a1 bn ⟨rfl,ck⟩
   have jf:=ck.le
   have D8:Gm X eF fP bO p y b8 dd (xY t f E) a1 bn:=⟨Zo,by have:=D7.kc;unfold gr at*;rw[ck.aa bO Zo];exact this,λe J Q=>by rw[ck.aa e Zo];exact D7.low e J Q⟩
   have U3:=it a1 (D8.low hM Pt Pq)
   have Ni:aI X a1 (.ptr b 1)=some (.Z E.at_):=zB (ck.aa b (zq (bq b ag).1)) a7
   have c7:aI X a1 (.ptr bO 1)=some (.Z (y:Int)):=by have:=D8.kc;unfold gr at this;rw[bp this];rfl
   cases cb:qs an E.name with
   |none=>
    have Y:(ua t an y f E).1=m8 (xY t f E) 23 E.at_:=by simp[ua,IK,tl,cb]
    rw[Y]
    simp only[ZZ]
    refine fW @t0 @t1 @U3 @Ni ⟨?_⟩
    refine(w2 (h:=a1) au iF D8.kc 23 E.at_).Zm ?_
    rintro ac bN cf ⟨rfl,Ec,iH,nd⟩
    refine cI ⟨?_⟩
    exact⟨by first|trivial|rfl,Zo,Ec,λe J Q=>by rw[nd e Q];exact D8.low e J Q⟩
   |some T=>
    simp only[Z4,YG]
    by_cases Pb:y<=T
    ·have cH:decide ((y:Int)<=(T:Int))=true:=by simp only[Zg];omega
     have Y:(ua t an y f E).1=m8 (xY t f E) 25 E.at_:=by simp[ua,IK,tl,cb,Pb]
     rw[Y]
     refine ih @t0 @t1 @U3 @Ni @c7 @cH ⟨?_⟩
     refine(w2 (h:=a1) au iF D8.kc 25 E.at_).Zm ?_
     rintro ac bN cf ⟨rfl,Ec,iH,nd⟩
     refine cI ⟨?_⟩
     exact⟨by first|trivial|rfl,Zo,Ec,λe J Q=>by rw[nd e Q];exact D8.low e J Q⟩
    ·have cH:decide ((y:Int)<=(T:Int))=false:=by simp only[Zc];omega
     have Y:(ua t an y f E).1=xY t f E:=by simp[ua,IK,tl,cb,Pb]
     rw[Y]
     refine gb @t0 @t1 @U3 @c7 @cH ⟨?_⟩
     exact⟨by first|trivial|rfl,D8⟩
  ·have d:decide (E.kind=25)=false:=by simp[tl]
   have Y:(ua t an y f E).1=xY t f E:=by simp[ua,IK,tl]
   rw[Y]
   refine ed @t0 @a0 @d ⟨?_⟩
   exact⟨by first|trivial|rfl,D7⟩
end
def QJ(t:aX->Option c8)(an:List Go.aQ.Node)(y:Nat)(f:Int×Int)(E:bB):Int×Int:=C7 (ua t an y) f E
section
variable{X:ch}{h:R af}{j:Nat}
def aAM(au:di X){P:Nat->Prop}{bO:Nat}{p b8 dd:D}{y:Nat}{t:aX->Option c8}{an:List Go.aQ.Node}(aF:(o X).a6<=j)(iF:(o X).a6<=bO)(y8:bO<j)
 (bq:∀e,P e->e<j/\e≠bO)(a8:ia X h P b8 t)(bP:oO X h P an p){f:Int×Int}(ax:gr X h bO p y b8 dd f){E:bB}{v:D}(bz:cE X h P E v):
 aW X 83 [.ptr bO 0,v] h j (λac S' am=>ac= .tuple []/\gr X S' bO p y b8 dd (QJ t an y f E)/\j<=am/\∀e,e<j->e≠bO->U X S' e=U X h e) (λ_ _ _=>False):=by
 refine zx au (ang X) ?_
 rw[anh]
 unfold abb
 refine cI ⟨?_⟩
 refine eL (λaK=>U X aK j=zu [.ptr bO 0] 1/\bf X h j aK (j+1)) ⟨bb aF,dA⟩ ?_
 rintro aK ⟨bK,bH⟩
 have VC:∀e,P e->U X aK e=U X h e:=λe B=>bH.aa e (bq e B).1
 have b3:aI X aK (.ptr j 0)=some (.ptr bO 0):=by rw[bp bK];rfl
 refine(aC1 au (ua t an y) P (Gm X aK (j+1) bO p y b8 dd) 103 [] [.ptr j 0] (λs E v aJ aR fe KQ=> ?_) (SizeOf.sizeOf E+1) E Zo f v aK (j+1) ⟨Zj _,by unfold gr at*;rw[bH.aa bO y8];exact ax,λ_ _ _=>rfl⟩ (cE.aa VC _ _ bz)).Zm ?_
 ·refine(aAK au Zo iF Zo Zo Zo b3 (λe B=>⟨zq (bq e B).1,(bq e B).2⟩) (a8.aa (bg:=P) VC (λ_ a=>a)) (bP.aa (bg:=P) VC (λ_ a=>a)) fe KQ).Zm ?_
  rintro ac a1 bn ⟨rfl,pL⟩
  exact⟨rfl,pL,λe B=>by have:=bq e B;rw[pL.low e Zo this.2,fe.low e Zo this.2]⟩
 ·rintro ac aJ aR ⟨rfl,pL,_⟩
  refine cI ⟨?_⟩
  have:=pL.le
  exact⟨by first|trivial|rfl,pL.kc,Zo,λe J Q=>by rw[pL.low e Zo Q,bH.aa e J]⟩
end
def gy(g:Go.aQ.Node):List (Int×ey):=(g.d3.map λd=>(1,d))++((g.out.map λd=>(2,d))++(g.loc.map λd=>(3,d)))
def mW(g:Go.aQ.Node):Nat->List ey
 |0=>g.d3
 |1=>g.out
 |_=>g.loc
def oA(g:Go.aQ.Node):Nat->Nat
 |0=>0
 |1=>g.d3.length
 |2=>g.d3.length+g.out.length
 |_=>g.d3.length+g.out.length+g.loc.length
def ahD(g:Go.aQ.Node){y:Nat}(aH:y<3):oA g (y+1)=oA g y+(mW g y).length:=by
 match y,aH with
 |0,_=>simp[oA,mW]
 |1,_=>rfl
 |2,_=>rfl
def DQ(g:Go.aQ.Node):(gy g).length=oA g 3:=by simp[gy,oA];omega
def acN(g:Go.aQ.Node){y:Nat}(aH:y<3){T:Nat}{d:ey}(a:(mW g y)[T]? =some d):(gy g)[oA g y+T]? =some (1+(y:Int),d):=by
 match y,aH,a with
 |0,_,a=>
  have bJ:=(Zb.1 a).1
  simp only[mW]at a bJ
  simp only[gy,oA,ZS]
  rw[ZW (by simpa using bJ),Zw,a];rfl
 |1,_,a=>
  have bJ:=(Zb.1 a).1
  simp only[mW]at a bJ
  simp only[gy,oA]
  rw[ZT Zs,Zi,Nat.add_sub_cancel_left,ZW (by simpa using bJ),Zw,a];rfl
 |2,_,a=>
  simp only[mW]at a
  simp only[gy,oA]
  rw[ZT Zx,Zi,ZT Zx,Zi,show g.d3.length+g.out.length+T-g.d3.length-g.out.length=T by omega,Zw,a];rfl
section
variable{X:ch}{h S' eF aK aJ:R af}{j am aM aR:Nat}
def awx{C:aL}{k:Nat}{F m b:List D}{ah av:bI}(a:Bj C k (F++m) h j ah av):iS C (.func (.yield k) F b) m h j ah av:=⟨a⟩
def aqm(au:di X){P:Nat->Prop}{g:Go.aQ.Node}{iN k bZ cu c0:Nat}{c5 dt aS:D}(dJ:Nat->R af->Nat->Prop)
 (J:dL X eF P bZ c5 8 (g.d3.map d6))(Q:dL X eF P cu dt 8 (g.out.map d6))(ak:dL X eF P c0 aS 8 (g.loc.map d6))
 (b6:aI X h (.ptr iN 2)=some c5)(a3:aI X h (.ptr iN 3)=some dt)(a4:aI X h (.ptr iN 4)=some aS)
 (Hj:∀i h j,dJ i h j->(o X).a6<=j/\∀e,P e->U X h e=U X eF e)
 (D9:∀i h j S' am,dJ i h j->bf X h j S' am->dJ i S' am)
 (Y:∀i y d h j,(gy g)[i]? =some (y,d)->dJ i h j->Bj X k [.Z y, .agg (d6 d)] h j (λac S' am=>ac= .zT/\dJ (i+1) S' am) (λ_ _ _=>False))
 (aY:dJ 0 h j):aW X 58 [.func (.yield k) [] [], .ptr iN 0] h j (λ_ S' am=>dJ (gy g).length S' am) (λ_ _ _=>False):=by
 refine zx au (amt X) ?_
 rw[amu]
 unfold aaH
 have HR:∀y,y<3->∃s b,[c5,dt,aS][y]? =some s/\dL X eF P b s 8 ((mW g y).map d6):=by
  intro y aH
  match y,aH with
  |0,_=>exact⟨c5,bZ,rfl,J⟩
  |1,_=>exact⟨dt,cu,rfl,Q⟩
  |2,_=>exact⟨aS,c0,rfl,ak⟩
 have apw:=(km J.len).1
 have apI:=(km Q.len).1
 have r6:=(km ak.len).1
 have eU:fv [.aT, .aT, .aT] [(0,1,c5),(1,1,dt),(2,1,aS)]=some (.agg [c5,dt,aS]):=by
  simp[fv,uy,uz,nY,apw,apI,r6]
 refine ed @b6 @a3 @a4 ⟨?_⟩
 refine f7 eU ?_
 refine cI ⟨?_⟩
 refine fp (λm H S' aP=>∃(y:Nat),H.g 0=some (.func (.yield k) [] [])/\H.g 13=some (.agg [c5,dt,aS])/\H.g 14=some (.Z (y:Int))/\y+m=3/\dJ (oA g y) S' aP)
  3 ⟨0,be,be,fO,Zo,aY⟩ ?_
 rintro m H aJ aR ⟨y,t0,l3,mY,aH,vH⟩
 cases m with
 |zero=>
  have d:decide ((y:Int)<3)=false:=by simp only[Zc];omega
  refine cL @mY @d ⟨?_⟩
  rw[DQ]
  have:y=3:=Zo
  subst this
  exact vH
 |succ m=>
  have d:decide ((y:Int)<3)=true:=by simp only[Zg];omega
  obtain⟨s,b,aD,cC⟩:=HR y Zo
  have dw:uY false 3 1 (.agg [c5,dt,aS]) (.Z (y:Int))=some s:=by
   have ak:Nat.blt y 3=true:=by simp[Nat.blt];omega
   simp only[uY,sz,ak,ff,ls,qL,Z5]
   exact aD
  have d2:=cC.len
  have ik:=cC.many
  rw[Zi]at d2 ik
  refine gb @mY @l3 @d @dw @d2 ⟨?_⟩
  refine fp (λm H S' aP=>∃(T:Nat),H.g 0=some (.func (.yield k) [] [])/\H.g 13=some (.agg [c5,dt,aS])/\H.g 14=some (.Z (y:Int))/\H.g 3=some (.Z (y:Int))/\H.g 18=some s/\H.g 19=some (.Z ((mW g y).length:Int))/\H.g 20=some (.Z (T:Int))/\T+m=(mW g y).length/\dJ (oA g y+T) S' aP)
   (mW g y).length ⟨0,aZ t0,aZ l3,aZ mY,be,be,be,fO,Zo,vH⟩ ?_
  rintro gH c3 a1 bn ⟨T,t0,l3,mY,t3,IT,x6,p5,bJ,y1⟩
  cases gH with
  |zero=>
   have d:=zr T (mW g y).length
   have bD:=zv y
   refine gb @p5 @x6 @mY @d @bD ⟨?_⟩
   refine⟨m,Zo,y+1,aZ t0,aZ l3,be,Zo, ?_⟩
   rw[ahD g Zo]
   have:T=(mW g y).length:=Zo
   rw[<-this]
   exact y1
  |succ gH=>
   have d:=zs T (mW g y).length
   have bD:=zv T
   have cG:bl .add (.Z 1) (.Z (y:Int))=some (.Z (1+(y:Int))):=eH Zo Zo
   obtain⟨aB,aE⟩:=zt (mW g y) T
   obtain⟨v6,atc⟩:=Hj _ _ _ y1
   have tz:=cC.fI T (by rw[Zi];omega)
   have fb:=(cC.aa atc).row (i:=T) (r:=d6 aB) Zd (by rw[Zw,aE];rfl)
   have je:d6 aB=[.str aB.name, .Z aB.at_, .bool aB.ty.b, .bool aB.ty.s, .Z aB.ty.w, .str aB.on, .Z aB.eP, .bool aB.no]:=rfl
   rw[je]at fb
   refine ih @p5 @x6 @IT @d @tz @fb ⟨?_⟩
   generalize e1:bi X _ bn _=bA
   have dF:U X bA bn=zu [.str aB.name, .Z aB.at_, .bool aB.ty.b, .bool aB.ty.s, .Z aB.ty.w, .str aB.on, .Z aB.eP, .bool aB.no] 8:=by rw[<-e1,bb v6];rfl
   have cW:bf X a1 bn bA (bn+1):=⟨Zo,λe B=>by rw[<-e1];exact zw⟩
   clear e1
   refine fW @t0 @t3 @cG (bp dF) ⟨?_⟩
   refine awx ((Y _ _ _ _ _ (acN g Zo aE) (D9 _ _ _ _ _ y1 cW)).mono ?_ (λ_ _ _ a=>False.elim a))
   rintro ac bN cf ⟨rfl,hH⟩
   refine cL @p5 @bD ⟨?_⟩
   exact⟨gH,Zo,T+1,aZ t0,aZ l3,aZ mY,aZ t3,aZ IT,aZ x6,be,Zo,hH⟩
def NW(au:di X){P:Nat->Prop}{g:Go.aQ.Node}{n fK hX iN bZ cu c0:Nat}{c5 dt aS:D}{A bm:M8}{ah:ft}{E:Nat->ft}{r:ft}{av:s4}{H:cU}(dJ:Nat->R af->Nat->Prop)
 (aF:(o X).a6<=j)(eo:fK<n)(dD:hX<n)(KS:iN<j)
 (J:dL X h P bZ c5 8 (g.d3.map d6))(Q:dL X h P cu dt 8 (g.out.map d6))(ak:dL X h P c0 aS 8 (g.loc.map d6))
 (b6:aI X h (.ptr iN 2)=some c5)(a3:aI X h (.ptr iN 3)=some dt)(a4:aI X h (.ptr iN 4)=some aS)
 (Hj:∀i S' aP,dJ i S' aP->j+2<=aP/\∀e,P e->U X S' e=U X h e)
 (D9:∀i aK aM aJ aR,dJ i aK aM->aM<=aR->(∀e,e<aM->e≠j+1->U X aJ e=U X aK e)->dJ i aJ aR)
 (aY:∀S',bf X h j S' (j+2)->dJ 0 S' (j+2))
 (avu:∀mk i y d aK aM,(gy g)[i]? =some (y,d)->dJ i aK aM->U X aK j=some (.deferred (some []))->U X aK (j+1)=some (mk .ready none)->
  tZ X A bm (j+1) mk (λac S' aP=>ac= .zT/\dJ (i+1) S' aP/\U X S' j=some (.deferred (some []))/\U X S' (j+1)=some (mk .ready none)) (λ_ _ _=>False) (Z (Z H fK (.Z y)) hX (.agg (d6 d))) aK aM)
 (Ei:∀S' aP,dJ (gy g).length S' aP->U X S' j=some (.deferred (some []))->ah (wn H j) S' aP):
 Fv X n (.func (.func 58) [] [.ptr iN 0]) [fK,hX] (tZ X A bm) ah E r av H h j:=by
 refine⟨aF, ?_⟩
 intro mk La
 refine acc (au.none _ _ rfl) ?_
 generalize de:bi X (bi X h j _) (j+1) _=aK
 have mg:U X aK j=some (.deferred (some [])):=by rw[<-de,aC Zo Zo,bb aF]
 have iB:U X aK (j+1)=some (mk .ready none):=by rw[<-de,bb Zo]
 have bH:bf X h j aK (j+2):=⟨Zo,λe B=>by rw[<-de];exact zw⟩
 clear de
 have OB:=aY aK bH
 obtain⟨_,OG⟩:=Hj _ _ _ OB
 refine(aqm (k:=j+1) au (λi S' aP=>dJ i S' aP/\U X S' j=some (.deferred (some []))/\U X S' (j+1)=some (mk .ready none)) (J.aa OG) (Q.aa OG) (ak.aa OG)
  (by rw[bH.ep _ _ KS];exact b6) (by rw[bH.ep _ _ KS];exact a3) (by rw[bH.ep _ _ KS];exact a4)
  (λi S' aP a=> ?_) (λi aK aM aJ aR a bT=> ?_) (λi y d aK aM aN a=> ?_) ⟨OB,mg,iB⟩).Zm ?_
 ·obtain⟨cN,cB⟩:=Hj _ _ _ a.1
  exact⟨Zo,λe B=>by rw[cB e B,OG e B]⟩
 ·obtain⟨cN,cB⟩:=Hj _ _ _ a.1
  exact⟨D9 _ _ _ _ _ a.1 bT.le (λe B _=>bT.aa e B),by rw[bT.aa _ Zo];exact a.2.1,by rw[bT.aa _ Zo];exact a.2.2⟩
 ·refine La _ _ _ _ _ a.2.2 ?_
  have bD:Nat.blt fK n=true:=by simp[Nat.blt];omega
  have cG:Nat.blt hX n=true:=by simp[Nat.blt];omega
  simp only[IM,bD,cG,ff]
  exact avu mk i y d aK aM aN a.1 a.2.1 a.2.2
 ·rintro ac aJ aR ⟨vH,ar0,ar6⟩
  obtain⟨cN,cB⟩:=Hj _ _ _ vH
  refine⟨.ready,none,Zs,ar6, ?_⟩
  show ah _ _ _
  exact Ei _ _ (D9 _ _ _ _ _ vH (Zj _) (λe B PN=>aC Zo PN)) (by rw[aC Zo Zo];exact ar0)
end
def BJ{α eJ:Type}(st:eJ->α->eJ)(s:eJ){k:List α}{i:Nat}{x:α}(a:k[i]? =some x):(k.take (i+1)).foldl st s=st ((k.take i).foldl st s) x:=by
 rw[ZU,a,List.foldl_append];rfl
def me(s:(aX->Option Int)×(Int×Int))(x:Int×ey):(aX->Option Int)×(Int×Int):=
 (λw=>if w=x.2.name then some x.1 else s.1 w,if 0<(s.1 x.2.name).getD 0 then m8 s.2 24 x.2.at_ else s.2)
def r9(t:aX->Option c8)(f:Int×Int)(x:Int×ey):Int×Int:=if t x.2.on=none/\x.2.on≠[]then m8 f 23 x.2.eP else f
def td(t:aX->Option c8)(g:Go.aQ.Node)(f:Int×Int):Int×Int:=(gy g).foldl (r9 t) ((gy g).foldl me (λ_=>none,f)).2
section
variable{X:ch}{h S' eF aK aJ:R af}{j am aM aR:Nat}
def NV(au:di X){nm c5 dt aS eM:D}{F:D}(aF:(o X).a6<=j):
 aW X 32 [.agg [nm,F,c5,dt,aS,eM]] h j (λac S' am=>ac= .func (.func 58) [] [.ptr j 0]/\am=j+1/\bf X h j S' am/\aI X S' (.ptr j 2)=some c5/\aI X S' (.ptr j 3)=some dt/\aI X S' (.ptr j 4)=some aS) (λ_ _ _=>False):=by
 refine zx au (alH X) ?_
 rw[alI]
 unfold aag
 refine cI ⟨?_⟩
 exact⟨rfl,rfl,dA,by rw[bp (bb aF)];rfl,by rw[bp (bb aF)];rfl,by rw[bp (bb aF)];rfl⟩
structure sX(X:ch)(f2:R af)(d9 bO kS:Nat)(p:D)(y:Int)(b8 dd:D)(f:Int×Int)(ad:aX->Option Int)(h:R af)(n:Nat):Prop where
 le:d9+2<=n
 kc:gr X h bO p y b8 dd f
 seen:n6 X h kS (oX ad)
 low:∀e,e<d9->e≠bO->e≠kS->U X h e=U X f2 e
def sX.aa{f2:R af}{d9 bO kS:Nat}{p b8 dd:D}{y:Int}{f:Int×Int}{ad:aX->Option Int}(a:sX X f2 d9 bO kS p y b8 dd f ad aK aM)(iF:bO<d9)(xA:kS<d9)(aF:aM<=aR)(aH:∀e,e<aM->e≠d9+1->U X aJ e=U X aK e):sX X f2 d9 bO kS p y b8 dd f ad aJ aR:=by
 have f4:=a.le
 refine⟨Zo, ?_,a.seen.aa (aH _ Zo Zo),λe J Q ak=>by rw[aH e Zo Zo];exact a.low e J Q ak⟩
 have:=a.kc
 unfold gr at*
 rw[aH _ Zo Zo];exact this
def apY(au:di X){P:Nat->Prop}{bO:Nat}{p b8 dd:D}{y:Int}{t:aX->Option c8}{g:Go.aQ.Node}{row:List D}(aF:(o X).a6<=j)(iF:(o X).a6<=bO)(y8:bO<j)
 (bq:∀e,P e->e<j/\e≠bO)(a8:ia X h P b8 t){f:Int×Int}(ax:gr X h bO p y b8 dd f)(bP:oM X h P g row)(xx:True):
 aW X 81 [.ptr bO 0, .agg row] h j (λac S' am=>ac= .tuple []/\gr X S' bO p y b8 dd (td t g f)/\j<=am/\∀e,e<j->e≠bO->U X S' e=U X h e) (λ_ _ _=>False):=by
 refine JJ (anb X) (au.none _ _ rfl) ?_
 rw[anc]
 unfold aa9
 obtain⟨c5,dt,aS,eM,bZ,cu,c0,fE,bL,rfl,mH,k5,oj,jp,e6⟩:=bP
 refine cI ⟨?_⟩
 refine eL (λaK=>U X aK j=zu [.ptr bO 0] 1/\U X aK (j+1)=zu [.str g.name, .Z g.at_,c5,dt,aS,eM] 6
  /\U X aK (j+1+1)=some (.map [] 0)/\aI X aK (.ptr (j+1+1+1) 0)=some (.map (j+1+1))/\bf X h j aK (j+1+1+1+1)) ⟨by(first|assumption|(simp(disch:=omega) only[bb,aC]<;>rfl)|(simp(disch:=omega) only[bb,aC])),by(first|assumption|(simp(disch:=omega) only[bb,aC]<;>rfl)|(simp(disch:=omega) only[bb,aC])),by(first|assumption|(simp(disch:=omega) only[bb,aC]<;>rfl)|(simp(disch:=omega) only[bb,aC])),by rw[cl,bb Zo];rfl,dA⟩ ?_
 rintro aK ⟨jb,bK,b1,cM,bH⟩
 refine(NV au Zo).Zm ?_
 rintro ac aJ aR ⟨rfl,rfl,bC,cB,ea,fQ⟩
 have hp:bf X h j aJ (j+1+1+1+1+1):=bH.trans bC
 have nl:∀e,P e->U X aJ e=U X h e:=λe B=>hp.aa e (bq e B).1
 rw[<-bC.aa _ Zo]at jb bK b1
 rw[<-bC.ep _ _ Zo]at cM
 generalize HF:j+1+1+1+1+1=d9 at*
 have Hq:gr X aJ bO p y b8 dd f:=by unfold gr at*;rw[hp.aa bO y8];exact ax
 have Eo:n6 X aJ (j+1+1) (oX λ_=>none):=⟨[],0,b1,λ_=>rfl⟩
 refine gk ?_
 refine NW (P:=P) (g:=g) (bZ:=bZ) (cu:=cu) (c0:=c0) (c5:=c5) (dt:=dt) (aS:=aS) au (λi S' aP=>sX X aJ d9 bO (j+1+1) p y b8 dd (((gy g).take i).foldl me (λ_=>none,f)).2 (((gy g).take i).foldl me (λ_=>none,f)).1 S' aP) Zo Zo Zo Zo
  (mH.aa nl) (k5.aa nl) (oj.aa nl) cB ea fQ (λi S' aP a=>⟨a.le,λe B=>a.low e (zq (bq e B).1) (bq e B).2 (zq (bq e B).1)⟩)
  (λi aK aM aJ aR a f4 aH=>a.aa Zo Zo f4 aH) (λS' bT=>⟨Zj _,by unfold gr at*;rw[bT.aa _ Zo];exact Hq,Eo.aa (bT.aa _ Zo),λe B _ _=>bT.aa e B⟩) ?_ ?_
 ·intro mk i eV d a1 bn aN fe mg iB
  rw[BJ me _ aN]
  generalize ((gy g).take i).foldl me (λ_=>none,f)=b9 at fe ⊢
  have f4:=fe.le
  have je:d6 d=[.str d.name, .Z d.at_, .bool d.ty.b, .bool d.ty.s, .Z d.ty.w, .str d.on, .Z d.eP, .bool d.no]:=rfl
  rw[je]
  unfold tZ
  refine cI ⟨?_⟩
  generalize e1:bi X _ bn _=bA
  have dF:U X bA bn=zu [.str d.name, .Z d.at_, .bool d.ty.b, .bool d.ty.s, .Z d.ty.w, .str d.on, .Z d.eP, .bool d.no] 8:=by rw[<-e1,bb Zo];rfl
  have d1:∀e,e<bn->U X bA e=U X a1 e:=λe B=>by rw[<-e1];exact zw
  clear e1
  refine⟨by rw[d1 _ Zo];exact iB, ?_⟩
  generalize iD:bi X bA (d9+1) _=bN
  have fj:U X bN (d9+1)=some (mk .busy none):=by rw[<-iD,bb Zo]
  have dY:∀e,e≠d9+1->U X bN e=U X bA e:=λe B=>by rw[<-iD,aC Zo B]
  clear iD
  have hH:=fe.aa (aJ:=bN) (aR:=bn+1) Zo Zo Zo (λe J Q=>by rw[dY e Q,d1 e J])
  rw[<-dY _ Zo]at dF
  have vz:U X bN d9=some (.deferred (some [])):=by rw[dY _ Zo,d1 _ Zo];exact mg
  have b7:aI X bN (.ptr j 0)=some (.ptr bO 0):=by rw[bp (show U X bN j=_ by rw[hH.low _ Zo Zo Zo];exact jb)];rfl
  have c0:aI X bN (.ptr (j+1+1+1) 0)=some (.map (j+1+1)):=zB (hH.low _ Zo Zo Zo) cM
  have jU:mN X bN 9 (.Z 0) (.map (j+1+1)) (.str d.name) false=some (.Z ((b9.1 d.name).getD 0)):=by
   rw[CC hH.seen];unfold oX;cases b9.1 d.name<;>rfl
  refine gm @c0 @jU (bp dF) ⟨?_⟩
  refine gk ?_
  refine gm @c0 @jU (bp dF) ⟨?_⟩
  refine jW (λc3 S' aP=>c3.g 4=some (.ptr (j+1+1+1) 0)/\c3.g 6=some (.ptr bn 0)/\c3.g 5=some (.Z eV)/\sX X aJ d9 bO (j+1+1) p y b8 dd (me b9 (eV,d)).2 b9.1 S' aP/\bn+1<=aP
   /\U X S' bn=zu [.str d.name, .Z d.at_, .bool d.ty.b, .bool d.ty.s, .Z d.ty.w, .str d.on, .Z d.eP, .bool d.no] 8/\U X S' d9=some (.deferred (some []))/\U X S' (d9+1)=some (mk .busy none)) (λT bJ=> ?_) ?_
  ·by_cases aD:0<(b9.1 d.name).getD 0
   ·have aB:decide (0<(b9.1 d.name).getD 0)=true:=by simp[aD]
    refine ed @aB @b7 (bp dF) ⟨?_⟩
    refine(w2 (h:=bN) au iF hH.kc 24 d.at_).Zm ?_
    rintro ac bY dv ⟨rfl,atC,o7,nf⟩
    refine cI ⟨?_⟩
    refine bJ _ _ _ ⟨be,be,be,⟨Zo, ?_,hH.seen.aa (nf _ Zo),λe J Q ak=>by rw[nf e Q];exact hH.low e J Q ak⟩,Zo,by rw[nf _ Zo];exact dF,by rw[nf _ Zo];exact vz,by rw[nf _ Zo];exact fj⟩
    unfold me
    simp only[aD,ZE]
    exact atC
   ·have aB:decide (0<(b9.1 d.name).getD 0)=false:=by simp[aD]
    refine ce @aB ⟨?_⟩
    refine bJ _ _ _ ⟨be,be,be,⟨Zo, ?_,hH.seen,hH.low⟩,Zo,dF,vz,fj⟩
    unfold me
    simp only[aD,ZC]
    exact hH.kc
  ·rintro c3 bY dv ⟨t4,t6,t5,h3,o7,d0,tj,ar8⟩
   have Pc:=h3.le
   have DF:aI X bY (.ptr (j+1+1+1) 0)=some (.map (j+1+1)):=zB (h3.low _ Zo Zo Zo) cM
   show cz _ _
   refine gb @t4 @t6 @t5 @DF (bp d0) ⟨?_⟩
   obtain⟨cn,pR,asL,sj⟩:=L8 (j:=dv) (show(o X).a6<=j+1+1 by omega) h3.seen d.name (.Z eV)
   refine j8 pR ?_
   refine cI ⟨?_⟩
   refine⟨⟨.busy,none,by rw[sj _ Zo];exact ar8⟩, ?_⟩
   have B2:gr X cn bO p y b8 dd (me b9 (eV,d)).2:=by have:=h3.kc;unfold gr at*;rw[sj bO Zo];exact this
   have asM:n6 X cn (j+1+1) (oX (me b9 (eV,d)).1):=by
    have:(λx=>if x=d.name then some (D.Z eV)else oX b9.1 x)=oX (me b9 (eV,d)).1:=by
     funext x;unfold oX me;by_cases a:x=d.name<;>simp[a]
    rw[<-this];exact asL
   have sf:sX X aJ d9 bO (j+1+1) p y b8 dd (me b9 (eV,d)).2 (me b9 (eV,d)).1 cn dv:=⟨Pc,B2,asM,λe J Q ak=>by rw[sj e ak];exact h3.low e J Q ak⟩
   exact⟨rfl,sf.aa Zo Zo (Zj _) (λe J Q=>aC Zo Q),by rw[aC Zo Zo,sj _ Zo];exact tj,bb Zo⟩
 ·intro a1 bn fe mg
  rw[YX]at fe
  unfold td
  generalize (gy g).foldl me (λ_=>none,f)=b9 at fe ⊢
  have f4:=fe.le
  have xd:U X a1 (j+1)=zu [.str g.name, .Z g.at_,c5,dt,aS,eM] 6:=by rw[fe.low _ Zo Zo Zo];exact bK
  refine ce (bp xd) ⟨?_⟩
  refine(NV au Zo).Zm ?_
  rintro ac bA cv ⟨rfl,rfl,cW,cB,ea,fQ⟩
  generalize B7:bn+1=dX at*
  have vN:gr X bA bO p y b8 dd b9.2:=by have:=fe.kc;unfold gr at*;rw[cW.aa bO Zo];exact this
  have Kf:U X bA d9=some (.deferred (some [])):=by rw[cW.aa _ Zo];exact mg
  have mo:∀e,P e->U X bA e=U X h e:=λe B=>by
   have:=bq e B
   rw[cW.aa e Zo,fe.low e Zo this.2 Zo,nl e B]
  have aoQ:U X bA j=zu [.ptr bO 0] 1:=by rw[cW.aa _ Zo,fe.low _ Zo Zo Zo];exact jb
  refine gk ?_
  refine NW (P:=P) (g:=g) (bZ:=bZ) (cu:=cu) (c0:=c0) (c5:=c5) (dt:=dt) (aS:=aS) au (λi S' aP=>sX X bA dX bO (j+1+1) p y b8 dd (((gy g).take i).foldl (r9 t) b9.2) b9.1 S' aP) Zo Zo Zo Zo
   (mH.aa mo) (k5.aa mo) (oj.aa mo) cB ea fQ (λi S' aP a=>⟨a.le,λe B=>a.low e (zq (bq e B).1) (bq e B).2 (zq (bq e B).1)⟩)
   (λi aK aM aJ aR a f4 aH=>a.aa Zo Zo f4 aH) (λS' bT=>⟨Zj _,by unfold gr at*;rw[bT.aa _ Zo];exact vN,(fe.seen.aa (cW.aa _ Zo)).aa (bT.aa _ Zo),λe B _ _=>bT.aa e B⟩) ?_ ?_
  ·intro mk i eV d bN cf aN hH vz ar7
   rw[BJ (r9 t) _ aN]
   generalize ((gy g).take i).foldl (r9 t) b9.2=G at hH ⊢
   have iH:=hH.le
   have je:d6 d=[.str d.name, .Z d.at_, .bool d.ty.b, .bool d.ty.s, .Z d.ty.w, .str d.on, .Z d.eP, .bool d.no]:=rfl
   rw[je]
   unfold tZ
   refine cI ⟨?_⟩
   generalize gN:bi X _ cf _=bY
   have d0:U X bY cf=zu [.str d.name, .Z d.at_, .bool d.ty.b, .bool d.ty.s, .Z d.ty.w, .str d.on, .Z d.eP, .bool d.no] 8:=by rw[<-gN,bb Zo];rfl
   have dk:∀e,e<cf->U X bY e=U X bN e:=λe B=>by rw[<-gN];exact zw
   clear gN
   refine⟨by rw[dk _ Zo];exact ar7, ?_⟩
   generalize kO:bi X bY (dX+1) _=cn
   have ek:U X cn (dX+1)=some (mk .busy none):=by rw[<-kO,bb Zo]
   have fJ:∀e,e≠dX+1->U X cn e=U X bY e:=λe B=>by rw[<-kO,aC Zo B]
   clear kO
   have sf:=hH.aa (aJ:=cn) (aR:=cf+1) Zo Zo Zo (λe J Q=>by rw[fJ e Q,dk e J])
   rw[<-fJ _ Zo]at d0
   have uD:U X cn dX=some (.deferred (some [])):=by rw[fJ _ Zo,dk _ Zo];exact vz
   have b7:aI X cn (.ptr j 0)=some (.ptr bO 0):=by rw[bp (show U X cn j=_ by rw[sf.low _ Zo Zo Zo];exact aoQ)];rfl
   have cr:aI X cn (.ptr bO 2)=some b8:=by have:=sf.kc;unfold gr at this;rw[bp this];rfl
   have ki:∀S' aP,sX X bA dX bO (j+1+1) p y b8 dd (r9 t G (eV,d)) b9.1 S' aP->U X S' dX=some (.deferred (some []))->(D.bool true=D.bool true/\sX X bA dX bO (j+1+1) p y b8 dd (r9 t G (eV,d)) b9.1 (bi X S' (dX+1) (some (mk .ready none))) aP/\U X (bi X S' (dX+1) (some (mk .ready none))) dX=some (.deferred (some []))/\U X (bi X S' (dX+1) (some (mk .ready none))) (dX+1)=some (mk .ready none)):=λS' aP a Q=>
    ⟨rfl,a.aa Zo Zo (Zj _) (λe J Q=>aC Zo Q),by rw[aC Zo Zo];exact Q,bb Zo⟩
   refine pI ⟨?_⟩
   refine gk ?_
   refine ed @b7 @cr (bp d0) ⟨?_⟩
   refine eL (λdC=>U X dC (cf+1+10)=zu [.Z 0, .str [], .Z 0, .zF, .zF, .Z 0, .str [], .Z 0, .zF, .Z 0, .Z 0] 11/\bf X cn (cf+1) dC (cf+1+10+1)) ⟨by rw[bb Zo];rfl,Zo,λe B=>zw⟩ ?_
   rintro dC ⟨fN,hx⟩
   refine(yU (j:=cf+1+13) (h:=dC) au Zo (a8.aa (bg:=P) (λe B=>by have:=bq e B;rw[hx.aa e Zo,sf.low e Zo this.2 Zo,mo e B]) (λ_ a=>a)) (λe B=>zq (bq e B).1) d.on).Zm ?_
   rintro ac dW d4 ⟨rfl,hc⟩
   have pQ:=hc.le
   have na:U X dW (cf+1+10)=zu [.Z 0, .str [], .Z 0, .zF, .zF, .Z 0, .str [], .Z 0, .zF, .Z 0, .Z 0] 11:=by rw[hc.aa _ Zo];exact fN
   generalize As:(t d.on).getD nw=fl
   have ot:lM fl=[.Z fl.kind, .str fl.d.name, .Z fl.d.at_, .bool fl.d.ty.b, .bool fl.d.ty.s, .Z fl.d.ty.w, .str fl.d.on, .Z fl.d.eP, .bool fl.d.no, .Z fl.eq, .Z fl.left]:=rfl
   rw[ot]
   refine hw ⟨?_⟩
   refine hw ⟨?_⟩
   refine f7 (iJ (y:=11) (b:=cf+1+10) (V:=0) (n:=11) na Zo rfl Zd Zd rfl) ?_
   generalize sg:bi X dW (cf+1+10) _=f2
   have js:∀e,e<cf+1->U X f2 e=U X cn e:=λe B=>by rw[<-sg,aC Zo Zo,hc.aa e Zo,hx.aa e B]
   clear sg fN na
   have qu:sX X bA dX bO (j+1+1) p y b8 dd G b9.1 f2 d4:=sf.aa Zo Zo Zo (λe J Q=>js e J)
   rw[<-js _ Zo]at d0 ek uD
   have aoS:aI X f2 (.ptr j 0)=some (.ptr bO 0):=zB (js _ Zo) b7
   cases tx:(t d.on)with
   |some aCX=>
    have qy:r9 t G (eV,d)=G:=by unfold r9;rw[Zh (by simp[tx])]
    simp only[Z4]
    refine cI ⟨?_⟩
    rw[qy]at ki ⊢
    exact⟨⟨.busy,none,ek⟩,ki _ _ qu uD⟩
   |none=>
    simp only[ZZ]
    by_cases ml:d.on=[]
    ·have qy:r9 t G (eV,d)=G:=by unfold r9;rw[Zh (by simp[ml])]
     have aB:decide (d.on≠[])=false:=by simp[ml]
     refine cL (bp d0) @aB ⟨?_⟩
     rw[qy]at ki ⊢
     exact⟨⟨.busy,none,ek⟩,ki _ _ qu uD⟩
    ·have qy:r9 t G (eV,d)=m8 G 23 d.eP:=by unfold r9;rw[Zp ⟨tx,ml⟩]
     have aB:decide (d.on≠[])=true:=by simp[ml]
     refine ed (bp d0) @aB @aoS ⟨?_⟩
     refine(w2 (h:=f2) au iF qu.kc 23 d.eP).Zm ?_
     rintro ac q2 sA ⟨rfl,Ua,afc,vV⟩
     refine cI ⟨?_⟩
     rw[qy]at ki ⊢
     have K2:=qu.le
     exact⟨⟨.busy,none,by rw[vV _ Zo];exact ek⟩,ki _ _ ⟨Zo,Ua,qu.seen.aa (vV _ Zo),λe J Q ak=>by rw[vV e Q];exact qu.low e J Q ak⟩ (by rw[vV _ Zo];exact uD)⟩
  ·intro bN cf hH vz
   rw[YX]at hH
   generalize (gy g).foldl (r9 t) b9.2=G at hH ⊢
   have iH:=hH.le
   have ar2:U X bN d9=some (.deferred (some [])):=by rw[hH.low _ Zo Zo Zo];exact Kf
   show nV X [] _ _ _ _ _
   simp only[AD,x1,Bq]
   refine⟨by show(o X).a6<=dX;omega,vz, ?_⟩
   refine⟨by show(o X).a6<=d9;omega,by rw[aC Zo Zo];exact ar2, ?_⟩
   show rI _ _ _ _ _
   refine⟨rfl, ?_,Zo,λe J Q=> ?_⟩
   ·have:=hH.kc
    unfold gr at*
    rw[aC Zo Zo,aC Zo Zo];exact this
   ·rw[aC Zo Zo,aC Zo Zo,hH.low e Zo Q Zo,cW.aa e Zo,fe.low e Zo Q Zo,hp.aa e J]
end
end
end Go.Proofs.YtpeabpmnlmaabaaGreatDoor

