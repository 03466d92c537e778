/- Part of the proof of the last text; no conditions -/
import Derived.Test.YtpeabpmnlmaabaaGreatDoorYj
set_option maxHeartbeats 8000000
set_option linter.all false
namespace Go.Proofs.YtpeabpmnlmaabaaGreatDoor
open Go.bd Go.aT
noncomputable section
def Be:List aY:=[[45,62],[60,60],[62,62],[60,61],[62,61],[60,62],[40],[41],[44],[59],[58],[61],[60],[62],[43],[45],[42]]
structure R0(X:cl):Prop where
 at_:∀h,cG X h 17 (.ptr 0 0)=some (.agg (Be.map D.str))
def Lf(s p:aY):Bool:=decide (p.length<=s.length/\s.take p.length=p)
def wW(s:aY)(i:Nat):Option aY:=Be.find? (Lf (s.drop i))
def Gp(p:aY):Tok:=⟨6,p,0,0,dU⟩
def adW{α:Type}(p:α->Bool):∀(l:List α) (S:Nat),(∀z<S,∀x,l[z]? =some x->p x=false)->l.find? p=(l.drop S).find? p:=by
 intro l S
 induction S with
 |zero=>intro _;rfl
 |succ S ai=>
  intro a
  rw[ai λz aJ=>a z Zo]
  by_cases bE:S<l.length
  ·rw[Zq bE,zj]
   have:=a S Zo l[S] (Ze bE)
   rw[this]
  ·rw[ZC Zo,ZC Zo]
section
variable{X:cl}{h S' aI aM:Q af}{j an aO aZ gA:Nat}{s:aY}{i:Nat}
def aCq(au:iY X)(d6:R0 X)(Y:nF X h gA s i)(aE:(o X).a2<=j)(LQ:gA<j):
 aU X 39 [.ptr gA 0] h j (λac S' an=>ac= .tuple [.agg (cf (match wW s i with|some p=>Gp p|none=>hq)), .bool (wW s i).isSome]/\ba X h j S' an) (λ_ _ _=>False):=by
 refine zz au.todj (amU X) ?_
 rw[amV]
 unfold aaW
 have is:=Y.b3
 have g2:nw (.str s) (some (.Z (i:Int))) none=some (.str (s.drop i)):=Rc .i64 Y.le
 have b2:=d6.at_
 refine cd @b2 ⟨?_⟩
 have bI:U X (bj X h j (zw [.Z 0, .str [], .Z 0, .int .u64 0, .zF, .zF, .Z 0] 7)) j=zw [.Z 0, .str [], .Z 0, .int .u64 0, .zF, .zF, .Z 0] 7:=a7 aE
 have bH:ba X h j (bj X h j (zw [.Z 0, .str [], .Z 0, .int .u64 0, .zF, .zF, .Z 0] 7)) (j+1):=dz
 refine fh (λm I S' aN=>∃(S:Nat),I.g 0=some (.ptr gA 0)/\I.g 2=some (.ptr j 0)/\I.g 6=some (.agg (Be.map D.str))/\I.g 7=some (.Z (S:Int))/\S+m=17/\U X S' j=zw [.Z 0, .str [], .Z 0, .int .u64 0, .zF, .zF, .Z 0] 7/\ba X h j S' aN/\j+1<=aN/\∀z<S,∀x,Be[z]? =some x->Lf (s.drop i) x=false)
  17 ⟨0,a8,a8,a8,fq,Zo,bI,bH,Zj _,λz aJ=>Zo⟩ ?_
 clear bI bH
 rintro m I aM aZ ⟨S,t0,eK,eX,gc,bE,bN,bx,lL,lk⟩
 have hy:=Y.aa (bx.aa gA LQ)
 have dB:=hy.dB
 have cX:=hy.cX
 cases m with
 |zero=>
  have d:decide ((S:Int)<17)=false:=by simp only[Zb];omega
  have b7:wW s i=none:=by
   unfold wW
   rw[adW _ _ S lk,show Be.drop S=[] from ZC (by show 17<=S;omega)]
   rfl
  rw[b7]
  refine dI @gc @d @eK ⟨?_⟩
  exact⟨rfl,ba.set bx Zo aE Zo⟩
 |succ m=>
  have d:decide ((S:Int)<17)=true:=by simp only[Zg];omega
  have bz:=zx S
  obtain⟨p,aw⟩:∃p,Be[S]? =some p:=⟨_,Ze (by show S<17;omega)⟩
  have dp:va false 17 1 (.agg (Be.map D.str)) (.Z (S:Int))=some (.str p):=by
   have:Nat.blt S 17=true:=by simp[Nat.blt];omega
   simp only[va,sT,this,fo,lD,qT,Z1,Zu,aw];rfl
  refine d9 @gc @eX @t0 @d @dp @dB (Za @cX @g2) ⟨?_⟩
  refine(ai0 au.todj (s.drop i) p).Zm ?_
  rintro ac a1 bi ⟨rfl,rfl,rfl⟩
  have pe:decide (p.length<=(s.drop i).length/\(s.drop i).take p.length=p)=Lf (s.drop i) p:=rfl
  rw[pe]
  cases gx:Lf (s.drop i) p with
  |true=>
   have b7:wW s i=some p:=by
    unfold wW
    obtain⟨ae,B⟩:=Zc.1 aw
    have aF:Be.drop S=p::Be.drop (S+1):=by rw[Zq ae,B]
    rw[adW _ _ S lk,aF,zj,gx]
   rw[b7]
   refine cd @eK ⟨?_⟩
   exact⟨rfl,ba.set bx Zo aE Zo⟩
  |false=>
   refine cI @gc @bz ⟨?_⟩
   refine⟨m,Zo,S+1,aL t0,aL eK,aL eX,a8,Zo,bN,⟨Zo,bx.aa⟩,Zo,λz aJ x ae=> ?_⟩
   by_cases Pt:z=S
   ·subst Pt;rw[aw]at ae;cases ae;exact gx
   ·exact lk z Zo x ae
end
def yG(s:aY)(i:Nat):Option Tok:=match s[i]? with
 |none=>none
 |some c=>if jc c then F1 s i else if rK c then(if (vf s i).2 then some (vf s i).1 else none)else(wW s i).map Gp
def ml(x:Tok)(i:Nat):Tok:=⟨x.kind,x.text,i,x.n,x.ty⟩
def rY(s:aY):Nat->List Tok->Nat->Option (Except Int (List Tok))
 |0,_,_=>none
 |n+1,aW,i=>if i<s.length then match yG s i with
   |none=>some (.error i)
   |some x=>rY s n (aW++[ml x i]) (o0 s s.length (i+x.text.length))
  else some (.ok (aW++[⟨7,[],i,0,dU⟩]))
def SD(s:aY):∀(n i:Nat),i<=o0 s n i:=by
 intro n
 induction n with
 |zero=>intro i;exact Zj _
 |succ n ai=>
  intro i
  rw[o0]
  split
  ·exact Zj _
  ·split
   ·exact ZB Zo (ai (i+1))
   ·split
    ·exact ZB Zo (ai _)
    ·exact Zj _
def XQ{s:aY}{i:Nat}{x:Tok}(a:yG s i=some x):1<=x.text.length/\i+x.text.length<=s.length:=by
 unfold yG at a
 cases ax:s[i]? with
 |none=>rw[ax]at a;cases a
 |some c=>
  rw[ax]at a
  simp only[]at a
  obtain⟨ae,B⟩:=Zc.1 ax
  have aF:s.drop i=c::s.drop (i+1):=by rw[Zq ae,B]
  have aC:(s.drop i).length=s.length-i:=Yx
  split at a
  ·rename_i qI
   have M:=Gz jc (s.drop i)
   have R:1<=((s.drop i).takeWhile jc).length:=by rw[aF,YC,qI];simp
   unfold F1 at a
   simp only[]at a
   generalize (s.drop i).takeWhile jc=d at*
   split at a
   ·cases a
   ·have ak:=Gz jr (s.drop (i+d.length))
    rw[Yx]at ak
    split at a
    ·cases a;exact⟨R,by show i+d.length<=_;omega⟩
    ·split at a
     ·split at a
      ·cases a
       refine⟨?_, ?_⟩
       ·show 1<=(d++_).length;rw[ZH];omega
       ·show i+(d++_).length<=_;rw[ZH];omega
      ·cases a
     ·cases a
  ·split at a
   ·rename_i Ax
    have M:=Gz jr (s.drop i)
    have R:1<=((s.drop i).takeWhile jr).length:=by rw[aF,YC,show jr c=true from by simp[jr,Ax]];simp
    split at a
    ·cases a
     exact⟨R,by show i+((s.drop i).takeWhile jr).length<=_;omega⟩
    ·cases a
   ·simp only[Yg]at a
    obtain⟨p,M,rfl⟩:=a
    have R:=List.find?_some M
    have ak:=List.mem_of_find?_eq_some M
    simp[Lf]at R
    refine⟨?_, ?_⟩
    ·show 1<=p.length
     revert ak
     clear M R
     revert p
     decide
    ·show i+p.length<=_;omega
def dL.narrow{C:aK}{h:Q af}{P:Nat->Prop}{b bt:Nat}{aS:D}{bK:List (List D)}(a:dL C h P b aS bt bK):dL C h (λe=>e=b) b aS bt bK:=⟨λ_=>rfl,a.many,a.wide,a.len,a.fx,a.cell⟩
section
variable{X:cl}{h S' aI aM:Q af}{j an aO aZ gA:Nat}{s:aY}{i:Nat}
structure JV(X:cl):Prop where
 err:mf X
 res:ND X
 sig:R0 X
def ab7(X:cl)(j:Nat)(r:Except Int (List Tok))(ac:D)(S':Q af)(an:Nat):Prop:=match r with
 | .error H=>ac= .tuple [.aV, .agg [.Z 20, .Z H]]
 | .ok aW=>∃ao bP,ac= .tuple [ao, .agg [.Z 0, .Z 0]]/\dL X S' (λe=>e=bP) bP ao 7 (aW.map cf)/\j<=bP/\bP<an
def apC(au:iY X)(d6:JV X)(aD:s.length<=65536)(ag:∀c∈s,c<256)(aE:(o X).a2<=j){a0:D}(aC:gz a0=some (.Z (s.length:Int)))(tJ:∀S' aN,ba X h j S' aN->BX X S' a0=some (.str s))
 {r:Except Int (List Tok)}(Y:rY s (s.length+1) [] (o0 s s.length 0)=some r):
 aU X 22 [a0] h j (λac S' an=>ab7 X j r ac S' an/\ba X h j S' an) (λ_ _ _=>False):=by
 refine zz au.todj (amu X) ?_
 rw[amv]
 unfold aaG
 have iq:decide ((65536:Int)<(s.length:Int))=false:=by simp only[Zb];omega
 have ry:=tJ (bj X h j (zw [.Z 0, .Z 0] [D.Z 0, .Z 0].length)) (j+1) dz
 refine cI @aC @iq ⟨?_⟩
 refine f8 ry ?_
 refine cx ⟨?_⟩
 refine eN (λaI=>U X aI j=zw [.Z 0, .Z 0] 2/\U X aI (j+1)=zw [.str s, .Z ((0:Nat):Int)] 2/\ba X h j aI (j+1+1)) ⟨by simp(disch:=omega) only[aB,a7]<;>rfl,by rw[a7 Zo];rfl,dz⟩ ?_
 rintro aI ⟨bI,bN,bH⟩
 have mS:nF X aI (j+1) s 0:=⟨bN,Zo,aD,Zo⟩
 refine(acJ au mS ag Zo Zo).Zm ?_
 rintro ac aM aZ ⟨hy,dx⟩
 have fJ:=dx.le
 have cH:U X aM j=zw [.Z 0, .Z 0] 2:=by rw[dx.aa _ Zo Zs];exact bI
 have bx:ba X h j aM aZ:=⟨Zo,λe B=>by rw[dx.aa e Zo Zx];exact bH.aa e B⟩
 refine gi ?_
 refine fh (λm I S' aN=>∃(aS:D) (aW:List Tok) (cq:List Nat) (S:Nat),I.g 3=some (.ptr j 0)/\I.g 4=some (.ptr (j+1) 0)/\I.g 5=some aS/\U X S' j=zw [.Z 0, .Z 0] 2/\nF X S' (j+1) s S/\gk X S' aS 7 (aW.map cf).flatten cq/\(∀e∈cq,j+2<=e/\e<aN)/\ba X h j S' aN/\j+2<=aN/\aW.length<=S/\rY s m aW S=some r)
  (s.length+1) ⟨.aV,[],[],_,a8,a8,a8,cH,hy, .inl (.inl ⟨rfl,rfl,rfl⟩),Zs,bx,Zo,Zs,Y⟩ ?_
 clear Y bI bN cH mS hy bH bx dx fJ ry
 rintro m I aM aZ ⟨aS,aW,cq,S,t3,t4,t5,bN,hy,qK,ot,bx,lL,aGb,Y⟩
 have dB:=hy.dB
 have cX:=hy.cX
 have wp:=hy.le
 cases m with
 |zero=>cases Y
 |succ m=>
 rw[rY]at Y
 have afV:∀r∈aW.map cf,r.length=7:=λr a=>by obtain⟨x,_,rfl⟩:=ZI.1 a;rfl
 have lI:=tz afV
 rw[Zi]at lI
 have acq:∀(a1:Q af) (bi b:Nat) (x:Tok),(∀e∈cq,U X a1 e=U X aM e)->aZ<=bi->U X a1 b=zw (cf x) 7->
  ∃k9 bA gf,jC X a1 bi 7 aS (.slice b 0 1 1)=some (.fv k9 bA (bi+1))/\jB X bA k9 7 ((aW++[x]).map cf).flatten gf/\(∀e∈gf,e=bi\/e∈cq)/\∀e,e≠bi->e∉cq->U X bA e=U X a1 e:=by
  intro a1 bi b x aJ wx O3
  have kH:lu X a1 7 (.slice b 0 1 1)=some (1,cf x):=rT O3 (l8 _) rfl _
  obtain⟨k9,bA,gf,M,R,ak,aA⟩:=(qK.aa aJ).append (j:=bi) Zd kH rfl Zd rfl (by rw[lI,show(cf x).length=7 from rfl];omega) Zo (λe B=>zs (ot e B))
  refine⟨k9,bA,gf,M, ?_,ak,aA⟩
  rw[ZX,YB,ZP,List.map_nil,Yl,List.flatten_nil,Yt]
  exact R
 by_cases bE:S<s.length
 ·have cT:=zu S s.length
  rw[Zr bE]at Y
  obtain⟨c,ax⟩:∃c,s[S]? =some c:=⟨_,Ze bE⟩
  have dp:=CR .i64 ax
  have O9:=ag c (Zl ax)
  refine gh @t4 @dB (Za @cX (Za @cT @dp)) ⟨?_⟩
  refine gi ?_
  refine gh @t4 @dB (Za @cX (Za @cT @dp)) ⟨?_⟩
  refine gi ?_
  refine gh @t4 @dB (Za @cX (Za @cT @dp)) ⟨?_⟩
  have rd:∀(z:Nat),(jc c=true->z=41)->(jc c=false->rK c=true->z=43)->(jc c=false->rK c=false->z=39)->∀I7,aZ<=I7->
   aU X z [.ptr (j+1) 0] aM I7 (λac S' aN=>(∃x,ac= .tuple [.agg (cf x), .bool (yG s S).isSome]/\∀e,yG s S=some e->x=e)/\ba X aM I7 S' aN) (λ_ _ _=>False):=by
   intro z bQ ct c1 I7 aFU
   unfold yG
   rw[ax]
   simp only[]
   cases qI:jc c with
   |true=>
    rw[bQ qI]
    simp only[ZE]
    exact az3 au d6.err hy ag Zo Zo
   |false=>
    simp only[Zy,ZD]
    cases Ax:rK c with
    |true=>
     rw[ct qI Ax]
     simp only[ZE]
     refine(aEi au d6.err d6.res hy ag Zo Zo).Zm ?_
     rintro ac S' aN ⟨rfl,bU⟩
     refine⟨⟨(vf s S).1, ?_,λe a=> ?_⟩,bU⟩
     ·cases(vf s S).2<;>rfl
     ·split at a
      ·cases a;rfl
      ·cases a
    |false=>
     rw[c1 qI Ax]
     simp only[Zy,ZD]
     refine(aCq au d6.sig hy Zo Zo).Zm ?_
     rintro ac S' aN ⟨rfl,bU⟩
     refine⟨⟨(match wW s S with|some p=>Gp p|none=>hq), ?_,λe a=> ?_⟩,bU⟩
     ·cases wW s S<;>rfl
     ·cases b0:wW s S with
      |none=>rw[b0]at a;cases a
      |some p=>rw[b0]at a;cases a;rfl
  refine iR (λc4 S' aN=>∃z,c4.g 3=some (.ptr j 0)/\c4.g 4=some (.ptr (j+1) 0)/\c4.g 5=some aS/\c4.g 6=some (.func (.func z) [.ptr (j+1) 0] [])/\S'=aM/\aZ<=aN/\(jc c=true->z=41)/\(jc c=false->rK c=true->z=43)/\(jc c=false->rK c=false->z=39)) (λaGp U7=> ?_) ?_
  ·refine(S8 au.todj c).Zm ?_
   rintro ac a1 bi ⟨rfl,rfl,rfl⟩
   cases qI:jc c with
   |true=>
    refine cd @t4 ⟨?_⟩
    exact U7 _ _ _ ⟨41,aL t3,aL t4,aL t5,a8,rfl,Zo,λ_=>rfl,(λa=>absurd a (by simp[qI])),(λa=>absurd a (by simp[qI]))⟩
   |false=>
    refine cd @t4 ⟨?_⟩
    refine(acG au.todj c).Zm ?_
    rintro ac a1 bi ⟨rfl,rfl,rfl⟩
    cases Ax:rK c with
    |true=>
     refine cd @t4 ⟨?_⟩
     exact U7 _ _ _ ⟨43,aL t3,aL t4,aL t5,a8,rfl,Zo,(λa=>absurd a (by simp[qI])),λ_ _=>rfl,(λ_ a=>absurd a (by simp[Ax]))⟩
    |false=>
     refine cd @t4 ⟨?_⟩
     exact U7 _ _ _ ⟨39,aL t3,aL t4,aL t5,a8,rfl,Zo,(λa=>absurd a (by simp[qI])),(λ_ a=>absurd a (by simp[Ax])),λ_ _=>rfl⟩
  clear t3 t4 t5
  rintro aEB a1 bi ⟨z,t3,t4,t5,eX,rfl,wx,bQ,ct,c1⟩
  refine cd @eX ⟨?_⟩
  refine(rd z bQ ct c1 _ wx).Zm ?_
  clear rd bQ ct c1 eX
  rintro ac bA cK ⟨⟨x,rfl,ae⟩,c0⟩
  have iF:=c0.le
  have dg:U X bA j=zw [.Z 0, .Z 0] 2:=by rw[c0.aa _ Zo];exact bN
  have PL:=hy.aa (c0.aa (j+1) Zo)
  have HV:ba X h j bA cK:=bx.trans ⟨Zo,λe B=>c0.aa e Zo⟩
  have awY:cf x=[.Z x.kind, .str x.text, .Z x.at_, .int .u64 x.n, .bool x.ty.b, .bool x.ty.s, .Z x.ty.w]:=rfl
  rw[awY]
  refine ih ⟨?_⟩
  refine ih ⟨?_⟩
  refine ih ⟨?_⟩
  refine ih ⟨?_⟩
  refine ih ⟨?_⟩
  generalize jI:bj X _ cK _=bM
  have bv:∀e,e<cK->U X bM e=U X bA e:=λe B=>by rw[<-jI];exact zy
  have fT:U X bM cK=zw (cf x) 7:=by rw[<-jI,a7 Zo];rfl
  have dZ:=dg
  rw[<-bv _ Zo]at dZ
  have LN:=PL.aa (bv (j+1) Zo)
  have dC:ba X h j bM (cK+1):=⟨Zo,λe B=>by rw[bv e Zo];exact HV.aa e B⟩
  clear jI dg
  have kB:=LN.cX
  cases kI:yG s S with
  |none=>
   rw[kI]at Y
   simp only[Zf]at Y
   subst Y
   simp only[Z2]
   refine dI @t4 @t3 @kB ⟨?_⟩
   exact⟨rfl,ba.set dC (Zj _) aE Zo⟩
  |some e=>
   have:=ae e kI
   subst this
   rw[kI]at Y
   simp only[]at Y
   obtain⟨CL,Fm⟩:=XQ kI
   simp only[Z7]
   simp only[Yq]
   refine dI @t4 @t3 @kB ⟨?_⟩
   generalize f9:bj X bM cK _=bZ
   have b9:∀e,e≠cK->U X bZ e=U X bM e:=λe B=>by rw[<-f9,aB Zo B]
   have d8:U X bZ cK=some (.cells (dS (Q.ofList (cf x) 0 .nil) 2 [.Z (S:Int)]) 7 .own):=by rw[<-f9,a7 Zo];rfl
   have ox:=LN.aa (b9 (j+1) Zo)
   have el:ba X h j bZ (cK+1):=⟨Zo,λe B=>by rw[b9 e Zo];exact dC.aa e B⟩
   have fH:=dZ
   rw[<-b9 _ Zo]at fH
   have c3:∀e∈cq,U X bZ e=U X a1 e:=λe B=>by have:=ot e B;rw[b9 e Zo,bv e Zo,c0.aa e Zo]
   clear f9 fT dZ LN dC kB b9 bv PL HV
   have eo:aP X bZ (.ptr cK 1)=some (.str x.text):=by rw[bc d8];rfl
   have bz:bn .add (.Z (S:Int)) (.Z (x.text.length:Int))=some (.Z ((S+x.text.length:Nat):Int)):=by rw[en Zo Zo];rfl
   refine tB @eo ⟨?_⟩
   refine ih ⟨?_⟩
   refine tB @bz ⟨?_⟩
   refine ih ⟨?_⟩
   refine ih ⟨?_⟩
   refine f8 (iH (z:=1) (b:=j+1) (W:=1) (n:=2) ox.g Zo rfl Zd Zd rfl) ?_
   generalize jW:bj X bZ (j+1) _=ci
   have dl:∀e,e≠j+1->U X ci e=U X bZ e:=λe B=>by rw[<-jW,aB Zo B]
   have awp:nF X ci (j+1) s (S+x.text.length):=⟨by rw[<-jW,a7 Zo];rfl,Fm,aD,Zo⟩
   have ez:ba X h j ci (cK+1):=⟨Zo,λe B=>by rw[dl e Zo];exact el.aa e B⟩
   rw[<-dl _ Zo]at d8 fH
   have ft:∀e∈cq,U X ci e=U X a1 e:=λe B=>by have:=ot e B;rw[dl e Zo];exact c3 e B
   clear jW dl ox el c3 eo
   have fy:aP X ci (.ptr cK 0)=some (.Z x.kind):=by rw[bc d8];rfl
   have eo:aP X ci (.ptr cK 1)=some (.str x.text):=by rw[bc d8];rfl
   have cR:aP X ci (.ptr cK 2)=some (.Z (S:Int)):=by rw[bc d8];rfl
   have eQ:aP X ci (.ptr cK 3)=some (.int .u64 x.n):=by rw[bc d8];rfl
   have hl:aP X ci (.ptr cK 4)=some (.bool x.ty.b):=by rw[bc d8];rfl
   have g3:aP X ci (.ptr cK 5)=some (.bool x.ty.s):=by rw[bc d8];rfl
   have ma:aP X ci (.ptr cK 6)=some (.Z x.ty.w):=by rw[bc d8];rfl
   refine d9 @fy @eo @cR @eQ @hl @g3 (Za @ma @t5) ⟨?_⟩
   obtain⟨k9,dk,gf,ii,IB,Cn,sE⟩:=acq (bj X ci (cK+1+11) (zw (cf (ml x S)) 7)) (cK+1+11+1) (cK+1+11) (ml x S) (λe B=>by have:=ot e B;rw[aB Zo Zo];exact ft e B) Zo (a7 Zo)
   refine kb ii ?_
   have dW:∀e,e<j+2->e∉cq:=λe M R=>zs (ot e R)
   have gp:∀e,e<j+2->U X dk e=U X ci e:=λe B=>by rw[sE e Zo (dW e B),aB Zo Zo]
   have awq:=awp.aa (gp (j+1) Zo)
   rw[<-gp _ Zo]at fH
   have gK:ba X h j dk (cK+1+11+1+1):=⟨Zo,λe B=>by rw[gp e Zo];exact ez.aa e B⟩
   have qG:∀e∈gf,j+2<=e/\e<cK+1+11+1+1:=λe B=>by
    rcases Cn e B with rfl|a
    ·omega
    ·have:=ot e a;omega
   refine cd @t4 ⟨?_⟩
   refine(acJ au awq ag Zo Zo).Zm ?_
   rintro ac dt fc ⟨rF,hw⟩
   have pc:=hw.le
   refine⟨m,Zo,k9,aW++[ml x S],gf,_,aL t3,aL t4,a8,by rw[hw.aa _ Zo Zs];exact fH,rF, .inl (IB.aa λe B=>hw.aa e (qG e B).2 (by have:=qG e B;simp;omega)),λe B=>zs (qG e B),⟨Zo,λe B=>by rw[hw.aa e Zo Zx];exact gK.aa e B⟩,Zo, ?_,Y⟩
   have:=SD s s.length (S+x.text.length)
   simp only[ZH,ZF,Z5]
   omega
 ·have cT:=zt S s.length
  rw[Zh bE]at Y
  cases Y
  refine fO @t4 @dB @cX @cT @t5 ⟨?_⟩
  obtain⟨k9,bA,gf,ii,qL,we,gF⟩:=acq (bj X aM (aZ+10) (zw (cf ⟨7,[],S,0,dU⟩) 7)) (aZ+10+1) (aZ+10) ⟨7,[],S,0,dU⟩ (λe B=>aB Zo (zs (ot e B))) Zo (a7 Zo)
  refine kb ii ?_
  have dW:∀e,e<j+2->e∉cq:=λe M R=>zs (ot e R)
  have dg:U X bA j=zw [.Z 0, .Z 0] 2:=by rw[gF _ Zo (dW _ Zo),aB Zo Zo];exact bN
  have c0:ba X h j bA (aZ+10+1+1):=⟨Zo,λe B=>by rw[gF _ Zo (dW _ Zo),aB Zo Zo];exact bx.aa e B⟩
  clear ii gF
  refine cd @t3 ⟨?_⟩
  have avy:∀r∈(aW++[(⟨7,[],S,0,dU⟩:Tok)]).map cf,r.length=7:=λr a=>by obtain⟨x,_,rfl⟩:=ZI.1 a;rfl
  generalize jI:bj X bA j _=bM
  have bv:∀e,e≠j->U X bM e=U X bA e:=λe B=>by rw[<-jI,aB Zo B]
  have afa:∀e∈gf,j+2<=e/\e<aZ+10+1+1:=λe B=>by
   rcases we e B with rfl|a
   ·omega
   ·have:=ot e a;omega
  obtain⟨bP,cB⟩:=(qL.aa (S':=bM) (λe B=>bv e (zs (afa e B)))).qZ Zd avy Zx (P:=λe=>j<=e/\e<aZ+10+1+1) (λe B=>zs (afa e B))
  have j4:=cB.ag Zs
  exact⟨⟨k9,bP,rfl,dL.narrow cB,j4.1,j4.2⟩,⟨Zo,λe B=>by rw[bv e Zo];exact c0.aa e B⟩⟩
end
section
variable{X:cl}{h S' aI aM:Q af}{j an aO aZ aH bP:Nat}{aW:List Tok}{i:Nat}
def WF(p:D):mj X h 23 p=aP X h p:=Zk
def IX(p:D):mj X h 26 p=cG X h 2 p:=Zk
def adE:c5 X h .eql 20 true .nilIface .nilIface=some .zT:=Zk
def adC(z H:Int):c5 X h .eql 20 true (pL z H) .nilIface=some .zF:=Zk
def acL:∃fn c,(o X).P.funcs[23]? =some fn/\fn.body=some c:=Ox (R6 X)
def aBv(au:dj X){H b:D}{bu:Bool->Q af->Nat->Prop}(a:bu false h j):uK X (.func 23) ([]++[H,b]) none h j bu:=by
 refine⟨au.none _ _ rfl,acL,Oy (R6 X) ?_⟩
 show Ak X 23 [H,b] none h j bu
 rw[aaH]
 unfold R5
 show bk _ _
 refine cd @adE ⟨?_⟩
 exact a
def aBw(au:dj X){H b:Nat}{z at_:Int}{cX dN:Q D}{bu:Bool->Q af->Nat->Prop}(aE:(o X).a2<=H)(lL:(o X).a2<=b)(uX:H≠b)(EP:H<j)(x1:b<j)(f1:U X h H=some (.cells cX 1 .own))(kC:U X h b=some (.cells dN 2 .own))
 (a:∀S' aN,j<=aN->aP X S' (.ptr H 0)=some .cJ->cG X S' 2 (.ptr b 0)=some (.agg [.Z z, .Z at_])->(∀e,e<j->e≠H->e≠b->U X S' e=U X h e)->bu true S' aN):uK X (.func 23) ([]++[.ptr H 0, .ptr b 0]) (some (pL z at_)) h j bu:=by
 refine⟨au.none _ _ rfl,acL,Oy (R6 X) ?_⟩
 show Ak X 23 [.ptr H 0, .ptr b 0] (some (pL z at_)) h j bu
 rw[aaH]
 unfold R5
 show bk _ _
 have Sw:Hk 26 (.agg [.Z 0, .Z 0]) true (pL z at_)=some (.tuple [.agg [.Z z, .Z at_], .zT]):=y5 _ _ _
 have Gh:∀(I:cV) (n:Nat),(Ra I).g n=I.g n:=λ_ _=>rfl
 refine dI @adC @Sw @Gh ⟨?_⟩
 generalize c6:bj X _ j _=aI
 have bI:U X aI j=zw [.Z z, .Z at_] 2:=by rw[<-c6,a7 Zo];rfl
 have M:∀e,e<j->U X aI e=U X h e:=λe B=>by rw[<-c6];exact zy
 rw[<-M H EP]at f1
 rw[<-M b x1]at kC
 clear c6
 refine cI (bc bI) @Gh ⟨?_⟩
 refine f4 (by simp[D.same,lO,oI]) ?_
 generalize d3:bj X aI H _=aM
 have bN:U X aM H=some (.cells (dS cX 0 [.cJ]) 1 .own):=by rw[<-d3,a7 aE];rfl
 have R:∀e,e≠H->U X aM e=U X aI e:=λe B=>by rw[<-d3,aB aE B]
 rw[<-R b Zo]at kC
 clear d3
 refine tB @Gh ⟨?_⟩
 refine f8 (iH (z:=2) (b:=b) (W:=0) (n:=2) kC lL rfl Zd Zd rfl) ?_
 show bu true _ _
 refine a _ _ Zo ?_ ?_ (λe B V0 gG=> ?_)
 ·rw[bc (by rw[aB lL uX];exact bN),gQ];rfl
 ·rw[iG,bc (a7 lL),bc (a7 lL),gQ,gQ];rfl
 ·rw[aB lL gG,R e V0,M e B]
def aBG{ah:bJ}{I:cV}{p aj v w:D}(mO:I.bh=[])(R:I.g 2=some p)(ak:I.g 3=some aj)(eo:aP X h p=some v)(cR:cG X h 2 aj=some w)(a:ah (.tuple [v,w]) h j):Jp X ah I h j:=by
 unfold Jp
 rw[mO]
 show cw (I.g 2) (λp=>ap (mj X h 23 p) λv=>cw (I.g 3) λp=>ap (mj X h 26 p) λw=>ah (.tuple [v,w]) h j)
 rw[R,ak]
 refine m0 ?_
 rw[WF,eo]
 refine oF ?_
 refine m0 ?_
 rw[IX,cR]
 exact oF a
def aBH{ah:bJ}{I:cV}{p aj v w H b:D}(au:dj X)(mO:I.bh=[⟨.fn (.func 23) [H,b],[]⟩])(R:I.g 2=some p)(ak:I.g 3=some aj)(eo:aP X h p=some v)(cR:cG X h 2 aj=some w)(a:ah (.tuple [v,w]) h j):Jp X ah I h j:=by
 unfold Jp
 rw[mO]
 show uK X (.func 23) ([]++[H,b]) none h j λ_ h j=>n0 X [.cell 2 23, .cell 3 26] ah I [] h j
 refine aBv au ?_
 show cw (I.g 2) (λp=>ap (mj X h 23 p) λv=>cw (I.g 3) λp=>ap (mj X h 26 p) λw=>ah (.tuple [v,w]) h j)
 rw[R,ak]
 refine m0 ?_
 rw[WF,eo]
 refine oF ?_
 refine m0 ?_
 rw[IX,cR]
 exact oF a
def aiL{ah av:bJ}{I:cV}{H b:Nat}{z at_:Int}{cX dN:Q D}(au:dj X)(mO:I.bh=[⟨.fn (.func 23) [.ptr H 0, .ptr b 0],[]⟩])(R:I.g 2=some (.ptr H 0))(ak:I.g 3=some (.ptr b 0))
 (aE:(o X).a2<=H)(lL:(o X).a2<=b)(uX:H≠b)(EP:H<j)(x1:b<j)(f1:U X h H=some (.cells cX 1 .own))(kC:U X h b=some (.cells dN 2 .own))
 (a:∀S' aN,j<=aN->(∀e,e<j->e≠H->e≠b->U X S' e=U X h e)->ah (.tuple [.cJ, .agg [.Z z, .Z at_]]) S' aN):MI X ah av I (pL z at_) h j:=by
 unfold MI
 rw[mO]
 show uK X (.func 23) ([]++[.ptr H 0, .ptr b 0]) (some (pL z at_)) h j λb h j=>bW b (n0 X [.cell 2 23, .cell 3 26] ah I [] h j) _
 refine aBw au aE lL uX EP x1 f1 kC (λS' aN gn eo cR aJ=> ?_)
 show cw (I.g 2) (λp=>ap (mj X S' 23 p) λv=>cw (I.g 3) λp=>ap (mj X S' 26 p) λw=>ah (.tuple [v,w]) S' aN)
 rw[R,ak]
 refine m0 ?_
 rw[WF,eo]
 refine oF ?_
 refine m0 ?_
 rw[IX,cR]
 exact oF (a S' aN gn aJ)
def adh{fn:Fn}{first cap y4:List D}{I:cV}{ah:cV->Prop}(a:ah (A7 I ⟨.fn fn cap,first++y4⟩)):Ku (.func fn first cap) y4 I ah:=a
def Dn(s:aY)(n:Nat):Option (Except (Int×Int) (List Go.aT.Node)):=match rY s (s.length+1) [] (o0 s s.length 0)with
 |none=>none
 |some (.error H)=>some (.error (20,H))
 |some (.ok aW)=>match p8 n [] aW with
  |none=>none
  |some (.error H)=>some (.error (21,H))
  |some (.ok (am,_))=>match qR am with
   |some (z,H)=>some (.error (z,H))
   |none=>some (.ok am)
def ε(X:cl)(j:Nat)(r:Except (Int×Int) (List Go.aT.Node))(ac:D)(S':Q af)(an:Nat):Prop:=match r with
 | .error (z,H)=>ac= .tuple [.cJ, .agg [.Z z, .Z H]]
 | .ok am=>∃v,ac= .tuple [v, .agg [.Z 0, .Z 0]]/\oS X S' (dr j an) am v
def Kk(s:aY):∀(n i:Nat),i<=s.length->o0 s n i<=s.length:=by
 intro n
 induction n with
 |zero=>intro i a;exact a
 |succ n ai=>
  intro i a
  rw[o0]
  split
  ·exact a
  ·rename_i c ax
   have ae:=(Zc.1 ax).1
   split
   ·exact ai _ Zo
   ·split
    ·have:=Gz (λc=>decide (c≠10)) (s.drop i)
     rw[Yx]at this
     exact ai _ Zo
    ·exact a
def ajS(s:aY):∀(n:Nat) (aW:List Tok) (i:Nat) (ny:List Tok),aW.length<=i->i<=s.length->rY s n aW i=some (.ok ny)->ny.length<=s.length+1:=by
 intro n
 induction n with
 |zero=>intro aW i ny _ _ a;cases a
 |succ n ai=>
  intro aW i ny M R a
  rw[rY]at a
  split at a
  ·split at a
   ·cases a
   ·rename_i x ae
    obtain⟨bQ,ct⟩:=XQ ae
    have c1:=SD s s.length (i+x.text.length)
    exact ai _ _ _ Zx (Kk s _ _ ct) a
  ·cases a
   simp;omega
def aAO(au:iY X)(d6:JV X)(gS:xh X){s:aY}{n:Nat}(tU:n<=170000)(aD:s.length<=65536)(ag:∀c∈s,c<256)(aE:(o X).a2<=j){a0:D}(aC:gz a0=some (.Z (s.length:Int)))(tJ:∀S' aN,ba X h j S' aN->BX X S' a0=some (.str s))
 {r:Except (Int×Int) (List Go.aT.Node)}(Y:Dn s n=some r):
 aU X 6 [a0] h j (λac S' an=>ε X j r ac S' an/\ba X h j S' an) (λ_ _ _=>False):=by
 refine Kn (anW X) (au.none _ _ rfl) ?_
 rw[anX]
 unfold abi
 refine cx ⟨?_⟩
 refine eN (λaI=>U X aI j=zw [.cJ] 1/\U X aI (j+1)=zw [.Z 0, .Z 0] 2/\ba X h j aI (j+1+1)) ⟨by simp(disch:=omega) only[aB,a7]<;>rfl,by rw[a7 Zo];rfl,dz⟩ ?_
 rintro aI ⟨bI,bN,bH⟩
 unfold Dn at Y
 obtain⟨Ba,LR⟩:∃Ba,rY s (s.length+1) [] (o0 s s.length 0)=some Ba:=by
  cases a:rY s (s.length+1) [] (o0 s s.length 0)with
  |none=>rw[a]at Y;cases Y
  |some Ba=>exact⟨Ba,rfl⟩
 rw[LR]at Y
 refine(apC au d6 aD ag Zo aC (λS' aN a=>tJ S' aN (bH.trans a)) LR).Zm ?_
 rintro ac aM aZ ⟨kI,bx⟩
 have fJ:=bx.le
 have cH:U X aM j=zw [.cJ] 1:=by rw[bx.aa _ Zo];exact bI
 have dg:U X aM (j+1)=zw [.Z 0, .Z 0] 2:=by rw[bx.aa _ Zo];exact bN
 have hv:=bH.trans bx
 clear bI bN
 cases Ba with
 |error H=>
  simp only[Zf]at Y
  subst Y
  simp only[ab7]at kI
  subst kI
  have S3:decide ((20:Int)≠0)=true:=rfl
  refine cd @S3 ⟨?_⟩
  generalize fl:bj X aM (j+1) _=a1
  have fT:U X a1 (j+1)=zw [.Z 20, .Z H] 2:=by rw[<-fl,a7 Zo];rfl
  have ak:∀e,e≠j+1->U X a1 e=U X aM e:=λe B=>by rw[<-fl,aB Zo B]
  rw[<-ak _ Zo]at cH
  have ck:ba X h j a1 aZ:=⟨Zo,λe B=>by rw[ak e Zo];exact hv.aa e B⟩
  clear fl ak dg
  refine f8 (iH (z:=1) (b:=j) (W:=0) (n:=1) cH aE rfl Zd Zd rfl) ?_
  generalize eS:bj X a1 j _=bA
  have dZ:U X bA j=some (.cells (dS (Q.ofList [.cJ] 0 .nil) 0 [.cJ]) 1 .own):=by rw[<-eS,a7 aE];rfl
  have aA:∀e,e≠j->U X bA e=U X a1 e:=λe B=>by rw[<-eS,aB aE B]
  rw[<-aA _ Zo]at fT
  have c0:ba X h j bA aZ:=⟨Zo,λe B=>by rw[aA e Zo];exact ck.aa e B⟩
  clear eS aA cH ck
  refine tB (bc fT) ⟨?_⟩
  refine f4 (by simp[D.same,lO,oI]) ?_
  refine f8 (iH (z:=2) (b:=j+1) (W:=0) (n:=2) fT Zo rfl Zd Zd rfl) ?_
  refine aBG (v:= .cJ) (w:= .agg [.Z 20, .Z H]) rfl (fq) (fq) ?_ ?_ ⟨rfl,ba.set c0 Zo aE Zo⟩
  ·rw[bc (by rw[aB Zo Zo];exact dZ),gQ];rfl
  ·rw[iG,bc (a7 Zo),bc (a7 Zo),gQ,gQ];rfl
 |ok aW=>
  obtain⟨ao,bP,rfl,cB,aE3,aE4⟩:=kI
  simp only[]at Y
  have S3:decide ((0:Int)≠0)=false:=rfl
  refine cd @S3 ⟨?_⟩
  generalize fl:bj X aM (j+1) _=a1
  have fT:U X a1 (j+1)=zw [.Z 0, .Z 0] 2:=by rw[<-fl,a7 Zo];rfl
  have ak:∀e,e≠j+1->U X a1 e=U X aM e:=λe B=>by rw[<-fl,aB Zo B]
  rw[<-ak _ Zo]at cH
  have ck:ba X h j a1 aZ:=⟨Zo,λe B=>by rw[ak e Zo];exact hv.aa e B⟩
  have awr:=cB.aa (S':=a1) (λe B=>by subst B;exact ak e Zo)
  clear fl ak dg
  refine adh ?_
  obtain⟨bz,cF,f0⟩:=kt cB.len
  refine cx ⟨?_⟩
  have jT:e6 [.aV, .Z 0] [(0,1,ao)]=some (.agg [ao, .Z 0]):=by
   simp[e6,uM,uN,bz,n3]
  refine f8 jT ?_
  refine cx ⟨?_⟩
  generalize dA:A7 _ _=vG
  have la:vG.bh=[⟨.fn (.func 23) [.ptr j 0, .ptr (j+1) 0],[]⟩]:=by rw[<-dA];rfl
  have eK:vG.g 2=some (.ptr j 0):=by rw[<-dA];rfl
  have t3:vG.g 3=some (.ptr (j+1) 0):=by rw[<-dA];rfl
  have adj:∀l,rN 2 l=false->(h5 l vG).g 2=some (.ptr j 0):=λl a=>by simp[vS,eK,a]
  have adk:∀l,rN 3 l=false->(h5 l vG).g 3=some (.ptr (j+1) 0):=λl a=>by simp[vS,t3,a]
  have adc:∀l,(h5 l vG).bh=[⟨.fn (.func 23) [.ptr j 0, .ptr (j+1) 0],[]⟩]:=λl=>la
  clear dA
  refine eN (λbA=>U X bA aZ=zw [ao, .Z ((0:Nat):Int)] 2/\ba X a1 aZ bA (aZ+1)) ⟨by rw[a7 Zo];rfl,dz⟩ ?_
  rintro bA ⟨dZ,Aq⟩
  have fg:=ajS s _ _ _ _ Zs (Kk s _ _ Zo) LR
  have av8:aT X bA aZ bP aW 0:=⟨⟨_,ao,dZ,rfl,rfl,awr.aa λe B=>by subst B;exact Aq.aa e Zo⟩,Zo⟩
  have awb:iZ X bA (aZ+1) aZ bP aW 0:=⟨Zo,Zo,Zo,Zo,Zo,av8⟩
  obtain⟨MU,CC⟩:∃MU,p8 n [] aW=some MU:=by
   cases a:p8 n [] aW with
   |none=>rw[a]at Y;cases Y
   |some MU=>exact⟨MU,rfl⟩
  rw[CC]at Y
  have cN:U X bA j=zw [.cJ] 1:=by rw[Aq.aa _ Zo];exact cH
  have cA:U X bA (j+1)=zw [.Z 0, .Z 0] 2:=by rw[Aq.aa _ Zo];exact fT
  refine(aBa au.todj gS tU Zo awb (r:=MU) CC).mono ?_ ?_
  ·rintro v bM bX ⟨am,i5,rfl,Cx,_,dH⟩
   have ik:=dH.le
   simp only[]at Y
   have eb:U X bM j=zw [.cJ] 1:=by rw[dH.aa _ Zo Zx];exact cN
   have fW:U X bM (j+1)=zw [.Z 0, .Z 0] 2:=by rw[dH.aa _ Zo Zx];exact cA
   have Pz:∀e,e<j->U X bM e=U X h e:=λe B=>by rw[dH.aa e Zo Zx,Aq.aa e Zo];exact ck.aa e B
   obtain⟨y7,_,_,_,rfl,aff,_⟩:=id Cx
   have aE5:=aff.1
   have aE6:=aff.2
   refine tB @eK ⟨?_⟩
   refine f8 (iH (z:=1) (b:=j) (W:=0) (n:=1) eb aE rfl Zd Zd rfl) ?_
   generalize f9:bj X bM j _=bZ
   have d8:U X bZ j=some (.cells (dS (Q.ofList [.cJ] 0 .nil) 0 [.ptr y7 0]) 1 .own):=by rw[<-f9,a7 aE];rfl
   have b9:∀e,e≠j->U X bZ e=U X bM e:=λe B=>by rw[<-f9,aB aE B]
   clear f9
   have ma:aP X bZ (.ptr j 0)=some (.ptr y7 0):=by rw[bc d8,gQ];rfl
   refine tB @eK ⟨?_⟩
   refine tB @ma ⟨?_⟩
   have awc:=Cx.aa (S':=bZ) (bu:=dr (aZ+1) bX) (λe B=>b9 e (zs B.1)) (λ_ a=>a)
   have m2:U X bZ (j+1)=zw [.Z 0, .Z 0] 2:=by rw[b9 _ Zo];exact fW
   refine(ayZ (j:=bX) (h:=bZ) au.todj Zo awc (λe B=>B.2)).mono ?_ ?_
   ·rintro Ni ci dV ⟨pU,rfl,ez⟩
    have nj:=ez.le
    rw[pU]at Y
    simp only[Zf]at Y
    subst Y
    have fH:U X ci j=some (.cells (dS (Q.ofList [.cJ] 0 .nil) 0 [.ptr y7 0]) 1 .own):=by rw[ez.aa _ Zo];exact d8
    have Dr:U X ci (j+1)=zw [.Z 0, .Z 0] 2:=by rw[ez.aa _ Zo];exact m2
    have mV:aP X ci (.ptr j 0)=some (.ptr y7 0):=by rw[bc fH,gQ];rfl
    refine tB @eK ⟨?_⟩
    refine tB @mV ⟨?_⟩
    refine ih ⟨?_⟩
    refine tB @eK ⟨?_⟩
    refine f8 (iH (z:=1) (b:=j) (W:=0) (n:=1) fH aE rfl Zd Zd rfl) ?_
    generalize kZ:bj X ci j _=dk
    have lH:U X dk j=some (.cells (dS (dS (Q.ofList [.cJ] 0 .nil) 0 [.ptr y7 0]) 0 [.ptr y7 0]) 1 .own):=by rw[<-kZ,a7 aE];rfl
    have eI:∀e,e≠j->U X dk e=U X ci e:=λe B=>by rw[<-kZ,aB aE B]
    rw[<-eI _ Zo]at Dr
    clear kZ
    refine tB @t3 ⟨?_⟩
    refine f8 (iH (z:=2) (b:=j+1) (W:=0) (n:=2) Dr Zo rfl Zd Zd rfl) ?_
    have rB:∀cU e,e≠j->e≠j+1->e<bX->U X (bj X dk (j+1) cU) e=U X bM e:=λcU e M R ak=>by
     rw[aB Zo R,eI e M,ez.aa e ak,b9 e M]
    refine aBH (v:= .ptr y7 0) (w:= .agg [.Z 0, .Z 0]) au.todj la eK t3 ?_ ?_ ⟨⟨.ptr y7 0,rfl,Cx.aa (λe B=>rB _ e (zs B.1) (zs B.1) B.2) (λe B=>⟨zs B.1,zs B.2⟩)⟩,⟨Zo,λe B=>by rw[rB _ e Zo Zo Zo];exact Pz e B⟩⟩
    ·rw[bc (by rw[aB Zo Zo];exact lH),gQ];rfl
    ·rw[iG,bc (a7 Zo),bc (a7 Zo),gQ,gQ];rfl
   ·rintro ac ci dV ⟨z,H,pU,rfl,ez⟩
    have nj:=ez.le
    rw[pU]at Y
    simp only[Zf]at Y
    subst Y
    refine aiL (cX:=dS (Q.ofList [.cJ] 0 .nil) 0 [.ptr y7 0]) (dN:=Q.ofList [.Z 0, .Z 0] 0 .nil) au.todj (adc _) (adj _ rfl) (adk _ rfl) aE Zo Zo Zo Zo ?_ ?_ (λS' aN gn aJ=>⟨rfl,Zo,λe B=> ?_⟩)
    ·rw[ez.aa _ Zo];exact d8
    ·rw[ez.aa _ Zo];exact m2
    ·rw[aJ e Zo Zo Zo,ez.aa e Zo,b9 e Zo];exact Pz e B
  ·rintro ac bM bX ⟨H,rfl,rfl,dH⟩
   have ik:=dH.le
   simp only[Zf]at Y
   subst Y
   refine aiL (cX:=Q.ofList [.cJ] 0 .nil) (dN:=Q.ofList [.Z 0, .Z 0] 0 .nil) au.todj (adc _) (adj _ rfl) (adk _ rfl) aE Zo Zo Zo Zo ?_ ?_ (λS' aN gn aJ=>⟨rfl,Zo,λe B=> ?_⟩)
   ·rw[dH.aa _ Zo Zx];exact cN
   ·rw[dH.aa _ Zo Zx];exact cA
   ·rw[aJ e Zo Zo Zo,dH.aa e Zo Zx,Aq.aa e Zo];exact ck.aa e B
end
end
end Go.Proofs.YtpeabpmnlmaabaaGreatDoor

namespace Go.aT
def hI:List Tok->Prop
 |[]=>False
 |x::l=>x.kind=7/\x.text=[]\/hI l
def hI.kP{x:Tok}{l:List Tok}(a:hI (x::l))(ae:x.kind≠7):hI l:=a.resolve_left λz=>ae z.1
def eg{α:Type}(b:Nat)(bu:α->Prop)(x:gC α):Prop:=∃r,x=some r/\∀H ce,r= .ok (H,ce)->hI ce/\ce.length<b/\bu H
def q8(E:bD):Prop:=E.kind=4->E.args≠[]
def eg.mono{α:Type}{b dM:Nat}{bu se:α->Prop}{x:gC α}(a:eg b bu x)(ag:b<=dM)(b0:∀H,bu H->se H):eg dM se x:=by
 obtain⟨r,M,R⟩:=a
 exact⟨r,M,λH ce E=>by obtain⟨bQ,ct,c1⟩:=R H ce E;exact⟨bQ,Zo,b0 H c1⟩⟩
def eg.ok{α:Type}{b:Nat}{bu:α->Prop}{H:α}{l:List Tok}(M:hI l)(R:l.length<b)(ak:bu H):eg b bu (aT.ok H l):=⟨_,rfl,λfL ce E=>by cases E;exact⟨M,R,ak⟩⟩
def eg.bad{α:Type}{b:Nat}{bu:α->Prop}(H:Int):eg b bu (aT.bad H:gC α):=⟨_,rfl,λfL ce E=>by cases E⟩
def eg.andThen{α eZ:Type}{b dM:Nat}{bu:α->Prop}{se:eZ->Prop}{x:gC α}{f:α->List Tok->gC eZ}(a:eg b bu x)(z:∀H ce,hI ce->ce.length<b->bu H->eg dM se (f H ce)):eg dM se (aT.andThen x f):=by
 obtain⟨r,rfl,R⟩:=a
 cases r with
 |error H=>exact⟨_,rfl,λfL ce E=>by cases E⟩
 |ok p=>
  obtain⟨H,ce⟩:=p
  obtain⟨bQ,ct,c1⟩:=R H ce rfl
  exact z H ce bQ ct c1
def Xv{x:Tok}{s:aY}(a:ho x s=true):x.kind≠7:=by
 intro E;simp[ho,E]at a
def oN{s:aY}{l:List Tok}(a:hI l):eg l.length (λ_=>True) (eL s l):=by
 cases l with
 |nil=>exact a.elim
 |cons x l=>
  simp only[eL]
  split
  ·rename_i aD;exact eg.ok (a.kP (Xv aD)) Zs trivial
  ·exact eg.bad _
def wH{z:Int}(aJ:z≠7){l:List Tok}(a:hI l):eg l.length (λx:Tok=>True) (je z l):=by
 cases l with
 |nil=>exact a.elim
 |cons x l=>
  simp only[je]
  split
  ·rename_i aD;exact eg.ok (a.kP Zo) Zs trivial
  ·exact eg.bad _
def q4{eZ:Type}{s:aY}{l:List Tok}{f:Option Tok->List Tok->gC eZ}{b:Nat}{bu:eZ->Prop}(a:hI l)(M:∀x ce,hI ce->ce.length+1=l.length->eg b bu (f (some x) ce))(R:eg b bu (f none l)):eg b bu (iI s l f):=by
 cases l with
 |nil=>exact a.elim
 |cons x l=>
  unfold iI mG
  by_cases aD:ho x s=true
  ·simp only[aD,ZE];exact M x l (a.kP (Xv aD)) Zs
  ·simp only[aD,ZD];exact R
def acH{l:List Tok}(a:hI l):∀os:List (aY×Int),∃E ce,pF os l=some (E,ce)/\(E=none/\ce=l\/∃x,E=some x/\hI ce/\ce.length+1=l.length):=by
 cases l with
 |nil=>exact a.elim
 |cons x l=>
  intro os
  induction os with
  |nil=>exact⟨_,_,rfl, .inl ⟨rfl,rfl⟩⟩
  |cons W os ai=>
   obtain⟨s,z⟩:=W
   unfold pF mG
   by_cases aD:ho x s=true
   ·simp only[aD,ZE];exact⟨_,_,rfl, .inr ⟨_,rfl,a.kP (Xv aD),Zs⟩⟩
   ·simp only[aD,ZD]
    exact ai
structure akD(n:Nat):Prop where
 level:∀z l,z<=5->hI l->13*l.length+9-z<=n->eg l.length q8 (level n z l)
 p4:∀z E l,z<=4->hI l->q8 E->13*l.length+1<=n->eg (l.length+1) q8 (p4 n z E l)
 shift:∀l,hI l->13*l.length+3<=n->eg l.length q8 (shift n l)
 qd:∀E l,hI l->q8 E->13*l.length+1<=n->eg (l.length+1) q8 (qd n E l)
 qe:∀z x E l,z≠4->hI l->13*l.length+1<=n->eg l.length q8 (qe n z x E l)
 vh:∀l,hI l->13*l.length+2<=n->eg l.length q8 (yw n l)
 n7:∀E l,hI l->q8 E->13*l.length+1<=n->eg (l.length+1) q8 (n7 n E l)
 part:∀l,hI l->13*l.length+1<=n->eg l.length q8 (part n l)
 list:∀l,hI l->13*l.length+12<=n->eg l.length (λ_=>True) (list n l)
 p5:∀cu l,hI l->13*l.length+1<=n->eg l.length (λ_=>True) (p5 n cu l)
 mv:∀l,hI l->13*l.length+10<=n->eg l.length q8 (mv n l)
 arrow:∀l,hI l->13*l.length+11<=n->eg l.length q8 (arrow n l)
def vw{E:bD}(a:E.kind≠4):q8 E:=λz=>absurd z a
def X0{E:bD}(a:E.args≠[]):q8 E:=λ_=>a
def hI.pos{l:List Tok}(a:hI l):0<l.length:=by cases l with
 |nil=>exact a.elim
 |cons x l=>simp
def apA:∀n,akD n:=by
 intro n
 induction n with
 |zero=>constructor<;>(intros;rename_i a _ _;omega)
 |succ n ai=>
  constructor
  case level=>
   intro z l aJ aC aE
   have:=aC.pos
   rw[level]
   split
   ·exact ai.shift l aC Zo
   ·refine(ai.level (z+1) l Zo aC Zo).andThen λE ce M R ak=> ?_
    exact(ai.p4 z E ce Zo M ak Zo).mono Zo λ_ a=>a
  case p4=>
   intro z E l aJ aC bC aE
   have:=aC.pos
   rw[p4]
   obtain⟨W,ce,M,R⟩:=acH aC (ar z)
   rw[M]
   rcases R with ⟨rfl,rfl⟩|⟨x,rfl,ak,aA⟩
   ·exact eg.ok aC Zo bC
   ·simp only[]
    refine(ai.level (z+1) ce Zo ak Zo).andThen λr cR bQ ct c1=> ?_
    split
    ·exact eg.ok bQ Zo (X0 (by simp[two,bD.args]))
    ·exact(ai.p4 z _ cR aJ bQ (X0 (by simp[two,bD.args])) Zo).mono Zo λ_ a=>a
  case shift=>
   intro l aC aE
   have:=aC.pos
   rw[shift]
   refine(ai.vh l aC Zo).andThen λE ce M R ak=> ?_
   exact(ai.qd E ce M ak Zo).mono Zo λ_ a=>a
  case qd=>
   intro E l aC bC aE
   have:=aC.pos
   rw[qd]
   refine q4 aC (λx ce M R=>(ai.qe 19 x E ce Zd M Zo).mono Zo λ_ a=>a) ?_
   refine q4 aC (λx ce M R=>(ai.qe 20 x E ce Zd M Zo).mono Zo λ_ a=>a) ?_
   exact eg.ok aC Zo bC
  case qe=>
   intro z x E l aJ aC aE
   have:=aC.pos
   rw[qe]
   refine(wH Zd aC).andThen λm ce M R ak=> ?_
   split
   ·exact eg.bad _
   ·exact(ai.qd _ ce M (vw (by simpa[bD.kind]using aJ)) Zo).mono Zo λ_ a=>a
  case vh=>
   intro l aC aE
   have:=aC.pos
   rw[yw]
   obtain⟨W,ce,M,R⟩:=acH aC A6
   rw[M]
   rcases R with ⟨rfl,rfl⟩|⟨x,rfl,ak,aA⟩
   ·simp only[]
    refine(ai.part ce aC Zo).andThen λE cR bQ ct c1=> ?_
    exact(ai.n7 E cR bQ c1 Zo).mono Zo λ_ a=>a
   ·simp only[]
    refine(ai.vh ce ak Zo).andThen λE cR bQ ct c1=> ?_
    exact eg.ok bQ Zo (X0 (by simp[bD.args]))
  case n7=>
   intro E l aC bC aE
   have:=aC.pos
   rw[n7]
   refine q4 aC (λx ce M R=> ?_) (eg.ok aC Zo bC)
   have:=M.pos
   refine q4 M (λe cR bQ ct=> ?_) ?_
   ·refine(wH Zd bQ).andThen λm eQ fu gj mW=> ?_
    exact(ai.n7 _ eQ fu (vw (by simp[bD.kind])) Zo).mono Zo λ_ a=>a
   ·refine(wH Zd M).andThen λm eQ fu gj mW=> ?_
    exact(ai.n7 _ eQ fu (vw (by simp[bD.kind])) Zo).mono Zo λ_ a=>a
  case list=>
   intro l aC aE
   have:=aC.pos
   rw[list]
   refine q4 aC (λx ce M R=>eg.ok M Zo trivial) ?_
   refine(ai.arrow l aC Zo).andThen λE cR bQ ct c1=> ?_
   exact(ai.p5 _ cR bQ Zo).mono Zo λ_ a=>a
  case p5=>
   intro cu l aC aE
   have:=aC.pos
   rw[p5]
   refine q4 aC (λx ce M R=> ?_) ?_
   ·refine(ai.arrow ce M Zo).andThen λE cR bQ ct c1=> ?_
    exact(ai.p5 _ cR bQ Zo).mono Zo λ_ a=>a
   ·exact(oN aC).andThen λ_ ce M R _=>eg.ok M Zo trivial
  case mv=>
   intro l aC aE
   have:=aC.pos
   rw[mv]
   refine(ai.level 0 l Zo aC Zo).andThen λE cR bQ ct c1=> ?_
   refine q4 bQ (λx ce M R=> ?_) (eg.ok bQ Zo c1)
   have Ct:vd E≠none:=by
    unfold vd
    split
    ·simp
    ·split
     ·rename_i aA
      have:=c1 aA
      cases az:E.args with
      |nil=>exact absurd az this
      |cons H l=>simp
     ·simp
   simp only[]
   split
   ·rename_i a;exact absurd a Ct
   ·refine(ai.mv ce M Zo).andThen λr eQ fu gj mW=> ?_
    exact eg.ok fu Zo (vw (by simp[bD.kind]))
   ·exact eg.bad _
  case arrow=>
   intro l aC aE
   have:=aC.pos
   rw[arrow]
   refine(ai.mv l aC Zo).andThen λE cR bQ ct c1=> ?_
   refine q4 bQ (λx ce M R=> ?_) (eg.ok bQ Zo c1)
   refine(ai.arrow ce M Zo).andThen λr eQ fu gj mW=> ?_
   exact eg.ok fu Zo (vw (by simp[bD.kind]))
  case part=>
   intro l aC aE
   cases l with
   |nil=>exact aC.elim
   |cons x l=>
   simp only[ZF]at aE
   rw[part]
   have fg:(x::l).length=l.length+1:=rfl
   rw[fg]
   by_cases kB:x.kind=5
   ·rw[Zr kB]
    exact eg.ok (aC.kP Zo) Zo (vw (by simp[bD.kind]))
   rw[Zh kB]
   split
   ·rename_i a
    have:x.kind=2:=by simp at a;exact a.1
    exact eg.ok (aC.kP Zo) Zo (vw (by simp[bD.kind]))
   by_cases cX:x.kind=1
   ·rw[Zr cX]
    have hK:=aC.kP Zo
    refine q4 hK (λe cR M R=> ?_) (eg.ok hK Zo (vw (by simp[bD.kind])))
    refine(ai.list cR M Zo).andThen λcu eQ fu gj mW=> ?_
    exact eg.ok fu Zo (vw (by simp[bD.kind]))
   rw[Zh cX]
   by_cases g6:x.kind=3
   ·rw[Zr g6]
    have hK:=aC.kP Zo
    refine(oN hK).andThen λ_ cR M R _=> ?_
    refine(ai.arrow cR M Zo).andThen λE eQ fu gj mW=> ?_
    refine(oN fu).andThen λ_ hl fQ hY _=> ?_
    exact eg.ok fQ Zo (vw (by simp[bD.kind]))
   rw[Zh g6]
   split
   ·rename_i a
    have:x.kind=6:=by simp at a;exact a.1
    have hK:=aC.kP Zo
    refine(ai.arrow l hK Zo).andThen λE eQ fu gj mW=> ?_
    refine(oN fu).andThen λ_ hl fQ hY _=> ?_
    exact eg.ok fQ Zo mW
   split
   ·rename_i a
    have:x.kind=2:=by simp at a;exact a.1
    have hK:=aC.kP Zo
    refine(ai.arrow l hK Zo).andThen λE eQ fu gj mW=> ?_
    refine(oN fu).andThen λ_ hl fQ hY _=> ?_
    refine(ai.arrow hl fQ Zo).andThen λcF g3 cN cA eb=> ?_
    refine(oN cN).andThen λ_ ma fd fX _=> ?_
    refine(ai.arrow ma fd Zo).andThen λf0 mV jw j0 MW=> ?_
    exact eg.ok jw Zo (vw (by simp[bD.kind]))
   split
   ·rename_i a
    have:x.kind=2:=by simp at a;exact a.1
    have hK:=aC.kP Zo
    refine(wH Zd hK).andThen λc cR M R _=> ?_
    refine(ai.part cR M Zo).andThen λE eQ fu gj mW=> ?_
    refine(ai.part eQ fu Zo).andThen λcF hl fQ hY yv=> ?_
    exact eg.ok fQ Zo (vw (by simp[bD.kind]))
   ·exact eg.bad _
def aih:∀(n:Nat) (cu l:List Tok),hI l->l.length<=n->eg l.length (λ_=>True) (ea n cu l):=by
 intro n
 induction n with
 |zero=>intro cu l a aE;have:=a.pos;omega
 |succ n ai=>
  intro cu l a aE
  rw[ea]
  refine(wH Zd a).andThen λx cR M R _=> ?_
  refine q4 M (λe eQ bQ ct=>(ai _ eQ bQ Zo).mono Zo λ_ a=>a) (eg.ok M Zo trivial)
def aq2{w:Option Tok}{l:List Tok}(a:hI l):eg (l.length+1) (λ_=>True) (BY w l):=by
 cases w with
 |none=>exact eg.ok a Zo trivial
 |some w=>
  simp only[BY]
  refine q4 a (λe cR bQ ct=> ?_) ?_
  ·exact(wH Zd bQ).andThen λx eQ fu gj _=>eg.ok fu Zo trivial
  ·exact(wH Zd a).andThen λx eQ fu gj _=>eg.ok fu Zo trivial
def S5:∀(n:Nat) (loc:Bool) (ds:List eF) (l:List Tok),hI l->l.length+1<=n->eg l.length (λ_=>True) (jD n loc ds l):=by
 intro n
 induction n with
 |zero=>intro loc ds l a aE;omega
 |succ n ai=>
  intro loc ds l a aE
  rw[jD]
  refine(aih n [] l a Zo).andThen λcn cR M R _=> ?_
  unfold El
  refine(oN M).andThen λ_ eQ bQ ct _=> ?_
  refine(wH Zd bQ).andThen λt hl fu gj _=> ?_
  have fin:∀w g3,hI g3->g3.length<=hl.length->eg l.length (λ_=>True) (andThen (BY w g3) λr l=>mJ loc (jD n loc) (ds++cn.map (qx t.ty r.1 r.2.1 r.2.2)) l):=by
   intro w g3 fQ hY
   refine(aq2 fQ).andThen λr ma cN cA _=> ?_
   unfold mJ
   cases ma with
   |nil=>exact cN.elim
   |cons e mV=>
    simp only[Bi,ZF]at cA ⊢
    split
    ·rename_i aD
     have eb:hI mV:=cN.resolve_left λz=>by rw[z.2]at aD;cases aD
     split
     ·cases mV with
      |nil=>exact eb.elim
      |cons bm pi=>
       simp only[Bi]
       split
       ·exact eg.ok cN (by simp at cA ⊢;omega) trivial
       ·exact(ai _ _ (bm::pi) eb (by simp at cA ⊢;omega)).mono (by simp at cA ⊢;omega) λ_ a=>a
     ·exact(ai _ _ mV eb Zo).mono Zo λ_ a=>a
    ·exact eg.ok cN Zx trivial
  refine q4 fu (λe g3 fQ hY=>fin _ g3 fQ Zo) (fin _ hl fu Zo)
def arV{n:Nat}{l:List Tok}(a:hI l)(aE:13*l.length+12<=n):eg l.length (λ_=>True) (vT n l):=by
 unfold vT
 have fin:∀(x:gC (List Tok)),eg (l.length+1) (λ_=>True) x->eg l.length (λ_=>True) (andThen x λcn l=>andThen (eL [61] l) λE l=>andThen (arrow n l) λr l=>andThen (eL [59] l) λ_ l=>ok (⟨cn.map Tok.text,cn.map Tok.at_,E.at_,r⟩:gt) l):=by
  intro x ae
  refine ae.andThen λcn cR M R _=> ?_
  refine(oN M).andThen λ_ eQ bQ ct _=> ?_
  refine((apA n).arrow eQ bQ Zo).andThen λE hl fu gj _=> ?_
  exact(oN fu).andThen λ_ g3 fQ hY _=>eg.ok fQ Zo trivial
 refine q4 a (λe cR M R=>fin _ ?_) (fin _ ?_)
 ·refine(wH Zd M).andThen λx eQ bQ ct _=> ?_
  refine(oN bQ).andThen λ_ hl fu gj _=> ?_
  refine(aih n _ hl fu Zo).andThen λcn g3 fQ hY _=> ?_
  exact(oN fQ).andThen λ_ ma cN cA _=>eg.ok cN Zo trivial
 ·exact(wH Zd a).andThen λx eQ bQ ct _=>eg.ok bQ Zo trivial
def arX:∀(n:Nat) (c9:List gt) (l:List Tok),hI l->13*l.length+13<=n->eg l.length (λ_=>True) (mu n c9 l):=by
 intro n
 induction n with
 |zero=>intro c9 l a aE;omega
 |succ n ai=>
  intro c9 l a aE
  rw[mu]
  refine q4 a (λe cR M R=>eg.ok M Zo trivial) ?_
  refine(arV a Zo).andThen λaj cR M R _=> ?_
  exact(ai _ cR M Zo).mono Zo λ_ a=>a
def azZ{n:Nat}{l:List Tok}(a:hI l)(aE:13*l.length+13<=n):eg l.length (λ_=>True) (node n l):=by
 unfold node
 refine(oN a).andThen λ_ cR M R _=> ?_
 refine(wH Zd M).andThen λx eQ bQ ct _=> ?_
 refine(oN bQ).andThen λ_ hl fu gj _=> ?_
 have asc:∀d4 out g3,hI g3->g3.length<hl.length->eg l.length (λ_=>True) (iI [118,97,114] g3 λe l=>andThen (match e with
  |some _=>andThen (jD n true [] l) λds l=>andThen (eL [59] l) λ_ l=>ok ds l
  |none=>ok [] l) λloc l=>
  andThen (eL [108,101,116] l) λ_ l=>andThen (mu n [] l) λc9 l=>ok (⟨x.text,x.at_,d4,out,loc,c9⟩:Node) l):=by
  intro d4 out g3 fQ hY
  have adR:∀(bm:gC (List eF)),eg (g3.length+1) (λ_=>True) bm->eg l.length (λ_=>True) (andThen bm λloc l=>
   andThen (eL [108,101,116] l) λ_ l=>andThen (mu n [] l) λc9 l=>ok (⟨x.text,x.at_,d4,out,loc,c9⟩:Node) l):=by
   intro bm ch
   refine ch.andThen λloc ma cN cA _=> ?_
   refine(oN cN).andThen λ_ mV fd fX _=> ?_
   refine(arX n _ mV fd Zo).andThen λc9 pi jw j0 _=> ?_
   exact eg.ok jw Zo trivial
  refine q4 fQ (λe ma cN cA=>adR _ ?_) (adR _ (eg.ok fQ Zo trivial))
  refine(S5 n _ _ ma cN Zo).andThen λds mV fd fX _=> ?_
  exact(oN fd).andThen λ_ pi jw j0 _=>eg.ok jw Zo trivial
 have adQ:∀(bm:gC (List eF)),eg (hl.length+1) (λ_=>True) bm->eg l.length (λ_=>True) (andThen bm λd4 l=>
  andThen (eL [114,101,116,117,114,110,115] l) λ_ l=>andThen (eL [40] l) λ_ l=>andThen (jD n false [] l) λout l=>andThen (eL [41] l) λ_ l=>
  iI [118,97,114] l λe l=>andThen (match e with
  |some _=>andThen (jD n true [] l) λds l=>andThen (eL [59] l) λ_ l=>ok ds l
  |none=>ok [] l) λloc l=>
  andThen (eL [108,101,116] l) λ_ l=>andThen (mu n [] l) λc9 l=>ok (⟨x.text,x.at_,d4,out,loc,c9⟩:Node) l):=by
  intro bm ch
  refine ch.andThen λd4 g3 fQ hY _=> ?_
  refine(oN fQ).andThen λ_ ma cN cA _=> ?_
  refine(oN cN).andThen λ_ mV fd fX _=> ?_
  refine(S5 n _ _ mV fd Zo).andThen λout pi jw j0 _=> ?_
  refine(oN jw).andThen λ_ p1 t1 eK _=> ?_
  exact asc d4 out p1 t1 Zo
 refine q4 fu (λe g3 fQ hY=>adQ _ (eg.ok fQ Zo trivial)) (adQ _ ?_)
 refine(S5 n _ _ hl fu Zo).andThen λds mV fd fX _=> ?_
 exact(oN fd).andThen λ_ pi jw j0 _=>eg.ok jw Zo trivial
def az1:∀(n:Nat) (am:List Node) (l:List Tok),hI l->13*l.length+14<=n->eg l.length (λ_=>True) (p8 n am l):=by
 intro n
 induction n with
 |zero=>intro am l a aE;omega
 |succ n ai=>
  intro am l a aE
  rw[p8]
  refine(azZ a Zo).andThen λg cR M R _=> ?_
  cases cR with
  |nil=>exact M.elim
  |cons x eQ=>
   simp only[]
   split
   ·exact eg.ok M Zo trivial
   ·exact(ai _ _ M Zo).mono Zo λ_ a=>a
end Go.aT

namespace Go.Proofs.YtpeabpmnlmaabaaGreatDoor
open Go.bd Go.aT
def hI.snoc{x:Tok}(M:x.kind=7)(R:x.text=[]):∀l:List Tok,hI (l++[x]):=by
 intro l
 induction l with
 |nil=>exact .inl ⟨M,R⟩
 |cons e l ai=>exact .inr ai
def aDw(s:aY):∀(n:Nat) (aW:List Tok) (i:Nat),i<=s.length->s.length<i+n->∃r,rY s n aW i=some r/\∀ny,r= .ok ny->hI ny:=by
 intro n
 induction n with
 |zero=>intro aW i M R;omega
 |succ n ai=>
  intro aW i M R
  rw[rY]
  split
  ·cases ae:yG s i with
   |none=>exact⟨_,rfl,λny a=>by cases a⟩
   |some x=>
    obtain⟨bQ,ct⟩:=XQ ae
    have c1:=SD s s.length (i+x.text.length)
    exact ai _ _ (Kk s _ _ ct) Zo
  ·exact⟨_,rfl,λny a=>by cases a;exact hI.snoc rfl rfl _⟩
def aAM{s:aY}(aD:s.length<=5000):∃r,Dn s 170000=some r:=by
 unfold Dn
 obtain⟨r,M,R⟩:=aDw s (s.length+1) [] (o0 s s.length 0) (Kk s _ _ Zo) Zo
 rw[M]
 cases r with
 |error H=>exact⟨_,rfl⟩
 |ok aW=>
  simp only[]
  have fg:=ajS s _ _ _ _ Zs (Kk s _ _ Zo) M
  obtain⟨r,ak,_⟩:=az1 170000 [] aW (R aW rfl) Zo
  rw[ak]
  cases r with
  |error H=>exact⟨_,rfl⟩
  |ok p=>
   obtain⟨am,l⟩:=p
   simp only[]
   cases qR am with
   |none=>exact⟨_,rfl⟩
   |some aj=>exact⟨_,rfl⟩
noncomputable def Dm(s:aY):Except (Int×Int) (List Go.aT.Node):=match Dn s 170000 with
 |some r=>r
 |none=> .error (0,0)
def aiO{s:aY}(aD:s.length<=5000):Dn s 170000=some (Dm s):=by
 obtain⟨r,a⟩:=aAM aD
 unfold Dm
 rw[a]
variable{X:cl}{h:Q af}{j:Nat}
def aAL(au:iY X)(d6:JV X)(gS:xh X){s:aY}(aD:s.length<=5000)(ag:∀c∈s,c<256)(aE:(o X).a2<=j){a0:D}(aC:gz a0=some (.Z (s.length:Int)))(tJ:∀S' aN,ba X h j S' aN->BX X S' a0=some (.str s)):
 aU X 6 [a0] h j (λac S' an=>ε X j (Dm s) ac S' an/\ba X h j S' an) (λ_ _ _=>False):=
 aAO au d6 gS (Zj _) Zo ag aE aC tJ (aiO aD)
end Go.Proofs.YtpeabpmnlmaabaaGreatDoor

namespace Go.Proofs.YtpeabpmnlmaabaaGreatDoor
open Go.bd Go.aT
noncomputable section
def HG(nm:aY):Nat->List Go.aT.Node->Option Nat
 |_,[]=>none
 |z,g::l=>if g.name=nm then some z else HG nm (z+1) l
def qA(am:List Go.aT.Node)(nm:aY):Option Nat:=HG nm 0 am
section
variable{X:cl}{h S' aI aM:Q af}{j an aO aZ:Nat}{P:Nat->Prop}{am:List Go.aT.Node}
def axG(au:dj X){g:Go.aT.Node}{row:List D}(aE:(o X).a2<=j)(b2:oR X h P g row){c:Nat}{nm:aY}(ax:c<j)(x3:aP X h (.ptr c 0)=some (.str nm)):
 aU X 102 [.agg row, .ptr c 0] h j (λac S' an=>ac= .bool (decide (g.name=nm))/\ba X h j S' an) (λ_ _ _=>False):=by
 refine zz au (akX X) ?_
 rw[akY]
 unfold κ
 obtain⟨c7,dv,aS,eH,bY,co,cY,fM,ajl,rfl,_⟩:=b2
 refine cd @x3 ⟨?_⟩
 exact⟨rfl,dz⟩
def axy(au:dj X){aS:D}{cO:Nat}{bK:List (List D)}(aE:(o X).a2<=j)(cB:dL X h P cO aS 6 bK)(wo:pz X h P am bK)(bq:∀e,P e->e<j){c:Nat}{nm:aY}(ax:c<j)(x3:aP X h (.ptr c 0)=some (.str nm)):
 aU X 101 [aS, .func (.func 102) [] [.ptr c 0]] h j (λac S' an=>ac= .Z (match qA am nm with|some z=>(z:Int)|none=> -1)/\ba X h j S' an) (λ_ _ _=>False):=by
 refine zz au (akV X) ?_
 rw[akW]
 unfold ι
 have x6:=wo.wide
 have d0:=cB.len
 have hU:=cB.many
 rw[x6.1]at d0 hU
 refine cd @d0 ⟨?_⟩
 refine fh (λm I S' aN=>∃(S:Nat),I.g 0=some aS/\I.g 1=some (.func (.func 102) [] [.ptr c 0])/\I.g 7=some (.Z (am.length:Int))/\I.g 8=some (.Z (S:Int))/\S+m=am.length/\ba X h j S' aN/\qA am nm=HG nm S (am.drop S))
  am.length ⟨0,a8,a8,a8,fq,Zo,ba.refl _ _,rfl⟩ ?_
 rintro m I aM aZ ⟨S,t0,t1,gc,t8,bE,bx,b7⟩
 have fJ:=bx.le
 cases m with
 |zero=>
  have d:=zt S am.length
  rw[ZC Zo]at b7
  refine dI @t8 @gc @d ⟨?_⟩
  exact⟨by rw[b7];rfl,bx⟩
 |succ m=>
  have d:=zu S am.length
  have bz:=zx S
  obtain⟨g,b2⟩:=zv am S
  have aF:am.drop S=g::am.drop (S+1):=by
   obtain⟨ae,B⟩:=Zc.1 b2
   rw[Zq ae,B]
  obtain⟨row,e9,jK⟩:=wo.get S g b2
  have aJ:=λe (B:P e)=>bx.aa e (bq e B)
  have dp:=cB.fx S (by rw[x6.1];omega)
  have hz:=(cB.aa aJ).row Zd e9
  have UK:aP X aM (.ptr c 0)=some (.str nm):=zD (bx.aa c ax) x3
  rw[aF,HG]at b7
  refine d9 @t8 @gc @t1 @t0 @d @dp @hz ⟨?_⟩
  refine(axG au Zo (jK.aa (bu:=P) aJ (λ_ a=>a)) Zo UK).Zm ?_
  rintro ac a1 bi ⟨rfl,ck⟩
  by_cases jb:g.name=nm
  ·rw[Zr jb]at b7
   have cy:decide (g.name=nm)=true:=by simp[jb]
   rw[cy]
   refine cx ⟨?_⟩
   exact⟨by rw[b7],bx.trans ck⟩
  ·rw[Zh jb]at b7
   have cy:decide (g.name=nm)=false:=by simp[jb]
   rw[cy]
   refine cI @t8 @bz ⟨?_⟩
   exact⟨m,Zo,S+1,aL t0,aL t1,aL gc,a8,Zo,bx.trans ck,b7⟩
def To(b:Nat):c5 X h .eql 23 true (.ptr b 0) .cJ=some .zF:=Zk
def ah9{C:aK}{h:Q af}(x:Int):ts C h .max [3,3] [.Z x, .Z 0]=some (.Z (max x 0)):=by
 show pC true (.Z x) [.Z 0]=_
 simp only[pC,fN,u9,ZE]
 congr 2
 simp only[Zg]
 split<;>omega
def Tx(au:dj X){v:D}(aE:(o X).a2<=j)(b2:oS X h P am v)(bq:∀e,P e->e<j)(nm:aY):
 aU X 79 [v, .str nm] h j (λac S' an=>ac= .tuple [.Z (((qA am nm).getD 0:Nat):Int), .bool (qA am nm).isSome]/\ba X h j S' an) (λ_ _ _=>False):=by
 refine zz au (aoa X) ?_
 rw[aob]
 unfold abF
 obtain⟨b,aS,cO,bK,rfl,om,a0,cB,wo⟩:=b2
 have fP:=bq b om
 refine cI @To @a0 ⟨?_⟩
 refine eN (λaI=>U X aI j=zw [.str nm] 1/\ba X h j aI (j+1)) ⟨a7 aE,dz⟩ ?_
 rintro aI ⟨bI,bH⟩
 have aJ:=λe (B:P e)=>bH.aa e (bq e B)
 refine(axy (j:=j+1) (h:=aI) au Zo (cB.aa aJ) (wo.aa (bu:=P) aJ (λ_ a=>a)) (λe B=>zs (bq e B)) Zo (by rw[bc bI];rfl)).Zm ?_
 rintro ac aM aZ ⟨rfl,bx⟩
 cases b7:qA am nm with
 |none=>
  refine cd @ah9 ⟨?_⟩
  exact⟨rfl,bH.trans bx⟩
 |some z=>
  have d:decide ((0:Int)<=(z:Int))=true:=by simp only[Zg];omega
  have bp:max (z:Int) 0=(z:Int):=Zo
  refine dI @ah9 @d @bp ⟨?_⟩
  exact⟨rfl,bH.trans bx⟩
end
mutual
def DA{gd:Type}(step:gd->bD->gd×Bool):gd->bD->gd
 |s, .mk z H nm no t n args=>if (step s (.mk z H nm no t n args)).2=true then yK step (step s (.mk z H nm no t n args)).1 args else(step s (.mk z H nm no t n args)).1
def yK{gd:Type}(step:gd->bD->gd×Bool):gd->List bD->gd
 |s,[]=>s
 |s,E::l=>yK step (DA step s E) l
end
def aD4{gd:Type}(step:gd->bD->gd×Bool)(s:gd)(E:bD):DA step s E=if (step s E).2=true then yK step (step s E).1 E.args else(step s E).1:=by
 cases E;rw[DA];rfl
def Rb{E H:bD}(a:H∈E.args):SizeOf.sizeOf H<SizeOf.sizeOf E:=by
 cases E with
 |mk z at_ nm no t n args=>
  have cz:H∈args:=a
  have:=List.sizeOf_lt_of_mem cz
  simp
  omega
section
variable{X:cl}{h S' aI aM:Q af}{j an aO aZ:Nat}
def aD7(au:dj X){gd:Type}(step:gd->bD->gd×Bool)(P:Nat->Prop)(dK:gd->Q af->Nat->Prop)(fi:Q af)(eM:bD->D->Prop)(jV:∀E b aS cO br,eM E (.ptr b 0)->aP X fi (.ptr b 8)=some aS->dL X fi P cO aS 1 (br.map λv=>[v])->dD X fi P E.args br->∀(i:Nat) H w,E.args[i]? =some H->br[i]? =some w->eM H w)(z:Nat)(rk hS:List D)
 (qM:∀(s:gd) (E:bD) (v:D) (h:Q af) (j:Nat),dK s h j->eM E v->cE X h P E v->(∀e,P e->U X h e=U X fi e)->aU X z ((rk++[v])++hS) h j (λac S' an=>ac= .bool (step s E).2/\dK (step s E).1 S' an/\∀e,P e->U X S' e=U X h e) (λ_ _ _=>False)):
 ∀(N:Nat) (E:bD),SizeOf.sizeOf E<N->∀(s:gd) (v:D) (h:Q af) (j:Nat),dK s h j->eM E v->cE X h P E v->(∀e,P e->U X h e=U X fi e)->
  aU X 16 [v, .func (.func z) rk hS] h j (λac S' an=>ac= .tuple []/\dK (DA step s E) S' an/\∀e,P e->U X S' e=U X h e) (λ_ _ _=>False):=by
 intro N
 induction N with
 |zero=>intro E a;omega
 |succ N ai=>
  intro E jn s v h j gw Y bC Lb
  refine zz au (amo X) ?_
  rw[amp]
  unfold aaD
  obtain⟨b,aS,cO,br,rfl,ag,_,_,_,_,_,_,_,_,ip,cB,has⟩:=id bC.open
  have d0:=cB.len
  have rH:=has.len
  rw[Zi,rH]at d0
  have hU:=cB.many
  rw[Zi,rH]at hU
  rw[aD4]
  refine cd @MJ ⟨?_⟩
  refine(qM s E _ h j gw Y bC Lb).Zm ?_
  rintro ac aI aO ⟨rfl,Ch,lK⟩
  cases aFa:(step s E).2 with
  |false=>
   refine cx ⟨?_⟩
   exact⟨rfl,Ch,lK⟩
  |true=>
   have J8:aP X aI (.ptr b 8)=some aS:=zD (lK b ag) ip
   refine cI @J8 @d0 ⟨?_⟩
   refine fh (λm I S' aN=>∃(S:Nat) (eJ:gd),I.g 1=some (.func (.func z) rk hS)/\I.g 17=some aS/\I.g 18=some (.Z (E.args.length:Int))/\I.g 19=some (.Z (S:Int))/\S+m=E.args.length/\dK eJ S' aN/\(∀e,P e->U X S' e=U X h e)/\yK step (step s E).1 E.args=yK step eJ (E.args.drop S))
    E.args.length ⟨0,_,a8,a8,a8,fq,Zo,Ch,lK,rfl⟩ ?_
   rintro m I aM aZ ⟨S,eJ,t1,vm,wZ,rU,bE,v8,iu,bs⟩
   cases m with
   |zero=>
    have d:=zt S E.args.length
    rw[ZC Zo,yK]at bs
    refine dI @rU @wZ @d ⟨?_⟩
    exact⟨rfl,by simp only[ZE];rw[bs];exact v8,iu⟩
   |succ m=>
    have d:=zu S E.args.length
    have bz:=zx S
    obtain⟨H,az⟩:=zv E.args S
    have aF:E.args.drop S=H::E.args.drop (S+1):=by
     obtain⟨ae,B⟩:=Zc.1 az
     rw[Zq ae,B]
    obtain⟨w,nR,EO⟩:=has.get S H az
    obtain⟨bI,bN,cH⟩:=(cB.aa iu).one nR
    rw[aF,yK]at bs
    refine d9 @rU @wZ @vm @t1 @d @bI @bN ⟨?_⟩
    have eT:=Rb (Zl az)
    refine(ai H Zo eJ w aM aZ v8 (jV E b aS cO br Y (by rw[cv, <-Lb b ag, <-cv];exact ip) (cB.aa λe B=>(Lb e B).symm) (dD.aa (λe B=>(Lb e B).symm) _ _ has) S H w az nR) (cE.aa iu _ _ EO) (λe B=>(iu e B).trans (Lb e B))).Zm ?_
    rintro ac a1 bi ⟨rfl,Au,mP⟩
    refine cI @rU @bz ⟨?_⟩
    exact⟨m,Zo,S+1,_,aL t1,aL vm,aL wZ,a8,Zo,Au,λe B=>by rw[mP e B,iu e B],bs⟩
def aD6(au:dj X){gd:Type}(step:gd->bD->gd×Bool)(P:Nat->Prop)(dK:gd->Q af->Nat->Prop)(z:Nat)(rk hS:List D)
 (qM:∀(s:gd) (E:bD) (v:D) (h:Q af) (j:Nat),dK s h j->cE X h P E v->aU X z ((rk++[v])++hS) h j (λac S' an=>ac= .bool (step s E).2/\dK (step s E).1 S' an/\∀e,P e->U X S' e=U X h e) (λ_ _ _=>False))
 (N:Nat)(E:bD)(jn:SizeOf.sizeOf E<N)(s:gd)(v:D)(h:Q af)(j:Nat)(gw:dK s h j)(bC:cE X h P E v):
  aU X 16 [v, .func (.func z) rk hS] h j (λac S' an=>ac= .tuple []/\dK (DA step s E) S' an/\∀e,P e->U X S' e=U X h e) (λ_ _ _=>False):=
 aD7 au step P dK h (λ_ _=>True) (λ_ _ _ _ _ _ _ _ _ _ _ _ _ _=>trivial) z rk hS (λs E v h j gw _ bC _=>qM s E v h j gw bC) N E jn s v h j gw trivial bC (λ_ _=>rfl)
end
def gs(X:cl)(h:Q af)(bO:Nat)(p:D)(z:Int)(b6 df:D)(f:Int×Int):Prop:=U X h bO=zw [p, .Z z,b6,df, .Z f.1, .Z f.2] 6
def nc(f:Int×Int)(c H:Int):Int×Int:=if f.1=0 then(c,H)else f
section
variable{X:cl}{h S' aI aM:Q af}{j an aO aZ:Nat}
def xC(au:dj X){bO:Nat}{p b6 df:D}{z:Int}{f:Int×Int}(aE:(o X).a2<=bO)(ax:gs X h bO p z b6 df f)(c H:Int):
 aU X 80 [.ptr bO 0, .Z c, .Z H] h j (λac S' an=>ac= .tuple []/\gs X S' bO p z b6 df (nc f c H)/\j<=an/\∀e,e≠bO->U X S' e=U X h e) (λ_ _ _=>False):=by
 refine zz au (aoc X) ?_
 rw[aod]
 unfold abH
 obtain⟨eR,fk⟩:=f
 have UD:=ax
 unfold gs at ax
 have hl:aP X h (.ptr bO 4)=some (.Z eR):=by rw[bc ax];rfl
 by_cases aX:eR=0
 ·have d:decide (eR=0)=true:=by simp[aX]
  refine ih ⟨?_⟩
  refine ih ⟨?_⟩
  refine ih ⟨?_⟩
  refine cI @hl @d ⟨?_⟩
  refine⟨rfl, ?_,Zj _,λe B=>aB Zo B⟩
  unfold gs nc
  rw[a7 Zo]
  simp only[aX,ZE]
  rfl
 ·have d:decide (eR=0)=false:=by simp[aX]
  refine cI @hl @d ⟨?_⟩
  refine⟨rfl, ?_,Zj _,λ_ _=>rfl⟩
  unfold nc
  simp only[aX,ZD]
  exact UD
def yq(E:bD):Bool:=decide (E.kind=2)||decide (E.kind=6)||decide (E.kind=24)
def azG(au:dj X){P:Nat->Prop}{E:bD}{v:D}(bC:cE X h P E v):
 aU X 104 [v] h j (λac S' an=>ac= .bool (yq E)/\S'=h/\j<=an) (λ_ _ _=>False):=by
 refine zz au (ak1 X) ?_
 rw[ak2]
 unfold ν
 obtain⟨b,rfl,ag,a0⟩:=bC.ptr
 by_cases R:E.kind=2
 ·have d:decide (E.kind=2)=true:=by simp[R]
  refine cI @a0 @d ⟨?_⟩
  exact⟨by simp[yq,R],rfl,Zo⟩
 ·have d:decide (E.kind=2)=false:=by simp[R]
  by_cases b9:E.kind=6
  ·have g8:decide (E.kind=6)=true:=by simp[b9]
   refine dI @a0 @d @g8 ⟨?_⟩
   exact⟨by simp[yq,b9],rfl,Zo⟩
  ·have g8:decide (E.kind=6)=false:=by simp[b9]
   refine dI @a0 @d @g8 ⟨?_⟩
   exact⟨by simp[yq,R,b9],rfl,Zo⟩
end
def HE(E:aY×D×Nat):D×D×Nat:=(.str E.1,E.2.1,E.2.2)
variable{bw:Type}[DecidableEq bw]
def mL:List (bw×D×Nat)->bw->Nat->Option (Nat×D)
 |[],_,_=>none
 |x::dw,w,i=>if x.1=w then some (i,x.2.1)else mL dw w (i+1)
def sR(dw:List (bw×D×Nat))(w:bw):Option D:=(mL dw w 0).map Prod.snd
def Ty(w:bw):∀(dw:List (bw×D×Nat)) (i:Nat),mL dw w (i+1)=(mL dw w i).map λp=>(p.1+1,p.2):=by
 intro dw
 induction dw with
 |nil=>intro i;rfl
 |cons x dw ai=>
  intro i
  simp only[mL]
  split
  ·rfl
  ·exact ai (i+1)
def C4(x:bw×D×Nat)(dw:List (bw×D×Nat))(w:bw):sR (x::dw) w=if x.1=w then some x.2.1 else sR dw w:=by
 unfold sR
 simp only[mL]
 split
 ·rfl
 ·rw[Ty];cases mL dw w 0<;>rfl
def ad0(w:bw):∀(dw:List (bw×D×Nat)) (S:Nat) (v:D),mL dw w 0=some (S,v)->∃b,dw[S]? =some (w,v,b):=by
 intro dw
 induction dw with
 |nil=>intro S v a;cases a
 |cons x dw ai=>
  intro S v a
  simp only[mL]at a
  split at a
  ·rename_i E
   cases a
   exact⟨x.2.2,by simp[<-E]⟩
  ·rw[Ty]at a
   cases b0:mL dw w 0 with
   |none=>rw[b0]at a;cases a
   |some p=>
    rw[b0]at a
    simp at a
    obtain⟨rfl,rfl⟩:=a
    obtain⟨b,ag⟩:=ai p.1 p.2 b0
    exact⟨b,by simpa using ag⟩
def ahX(w b1:bw)(v:D)(b:Nat):∀dw:List (bw×D×Nat),sR dw w=none->sR (dw++[(w,v,b)]) b1=if b1=w then some v else sR dw b1:=by
 intro dw
 induction dw with
 |nil=>
  intro _
  rw[YD,C4]
  by_cases a:b1=w
  ·simp[a]
  ·have:¬w=b1:=λE=>a E.symm
   simp[a,this]
 |cons x dw ai=>
  intro a
  rw[C4]at a
  split at a
  ·cases a
  ·rename_i ae
   rw[YP,C4,C4,ai a]
   by_cases E:x.1=b1
   ·have:¬b1=w:=λaj=>ae (E.trans aj)
    simp[E,this]
   ·simp[E]
def ahY(w b1:bw)(v:D):∀(dw:List (bw×D×Nat)) (S:Nat) (v0:D) (b:Nat),mL dw w 0=some (S,v0)->sR (dw.set S (w,v,b)) b1=if b1=w then some v else sR dw b1:=by
 intro dw
 induction dw with
 |nil=>intro S v0 b a;cases a
 |cons x dw ai=>
  intro S v0 b a
  simp only[mL]at a
  split at a
  ·rename_i E
   simp at a
   obtain⟨rfl,rfl⟩:=a
   rw[Yu,C4,C4]
   by_cases a:b1=w
   ·simp[a]
   ·have M:¬w=b1:=λaj=>a aj.symm
    have R:¬x.1=b1:=λaj=>a (aj.symm.trans E)
    simp[a,M,R]
  ·rename_i E
   rw[Ty]at a
   cases b0:mL dw w 0 with
   |none=>rw[b0]at a;cases a
   |some p=>
    rw[b0]at a
    simp at a
    obtain⟨rfl,rfl⟩:=a
    rw[Yv,C4,C4,ai p.1 p.2 b b0]
    by_cases R:x.1=b1
    ·have:¬b1=w:=λaj=>E (R.trans aj)
     simp[R,this]
    ·simp[R]
section
variable{X:cl}{h S' aI aM:Q af}{j an aO aZ:Nat}
def py(X:cl)(h:Q af)(r:Nat)(dP:aY->Option D):Prop:=∃dw fe,U X h r=some (.map (dw.map HE) fe)/\∀w,sR dw w=dP w
def py.aa{r:Nat}{dP:aY->Option D}(a:py X h r dP)(z:U X S' r=U X h r):py X S' r dP:=by
 obtain⟨dw,fe,M,R⟩:=a
 exact⟨dw,fe,by rw[z];exact M,R⟩
def QK(w:aY):nH X 20 9 (.str w)=true:=Zk
def adB(w b1:aY):i2 X h 20 9 (.str w) (.str b1)=some (mX w b1):=Zk
def Tv(w:aY):∀(dw:List (aY×D×Nat)) (i:Nat),findKey X h 9 (.str w) (dw.map HE) i=some (mL dw w i):=by
 intro dw
 induction dw with
 |nil=>intro i;rfl
 |cons x dw ai=>
  intro i
  simp only[ZP,HE,findKey,adB,qS,mL]
  by_cases a:w=x.1
  ·have:x.1=w:=a.symm
   simp[this]
  ·have:¬x.1=w:=λE=>a E.symm
   simp only[a,this,Yh,ZD]
   exact ai (i+1)
def ax9(w:aY):oC 20 (.str w) (.str w)=true:=by
 show mX w w=true
 rw[qS];simp
def FM{r:Nat}{dP:aY->Option D}(a:py X h r dP)(bm:D)(w:aY)(ok:Bool):
 nU X h 9 bm (.map r) (.str w) ok=some (match dP w with|some v=>bW ok (.tuple [v, .zT]) v|none=>bW ok (.tuple [bm, .zF]) bm):=by
 obtain⟨dw,fe,M,R⟩:=a
 have ak:=R w
 unfold sR at ak
 simp only[nU,M,QK,fo,Tv]
 cases b0:mL dw w 0 with
 |none=>rw[b0]at ak;rw[<-ak];rfl
 |some p=>rw[b0]at ak;rw[<-ak];rfl
def Qv{r:Nat}{dP:aY->Option D}(Y:(o X).a2<=r)(a:py X h r dP)(w:aY)(v:D):
 ∃S',uc X h j 9 (.map r) (.str w) v=some (.fv bd.undef S' j)/\py X S' r (λx=>if x=w then some v else dP x)/\∀e,e≠r->U X S' e=U X h e:=by
 obtain⟨dw,fe,M,R⟩:=a
 have aF:kV X r=true:=lC Y
 cases b7:mL dw w 0 with
 |none=>
  refine⟨Go.bd.bj X h r (some (.map ((dw++[(w,v,fe)]).map HE) (fe+1))), ?_,⟨dw++[(w,v,fe)],fe+1,a7 Y,λx=> ?_⟩,λe B=>aB Y B⟩
  ·simp only[uc,M,QK,fo,Tv,b7,bd.setObj,aF,fo,hE]
   rw[ZX]
   rfl
  ·rw[ahX _ _ _ _ _ (by unfold sR;rw[b7];rfl),R]
 |some p=>
  obtain⟨S,v0⟩:=p
  obtain⟨born,ag⟩:=ad0 w dw S v0 b7
  have dQ:(dw.map HE)[S]? =some (.str w,v0,born):=by rw[Zu,ag];rfl
  refine⟨Go.bd.bj X h r (some (.map ((dw.set S (w,v,born)).map HE) fe)), ?_,⟨dw.set S (w,v,born),fe,a7 Y,λx=> ?_⟩,λe B=>aB Y B⟩
  ·simp only[uc,M,QK,fo,Tv,b7,qT,dQ,ax9,bd.setObj,aF,fo,hE]
   rw[List.map_set]
   rfl
  ·rw[ahY w x v dw S v0 born b7,R]
end
end
noncomputable section
structure c8 where
 kind:Int
 d:eF
 eq:Int
 left:Int
def ld:c8:=⟨0,⟨[],0,dU,[],0,false⟩,0,0⟩
def ky(v:c8):List D:=[.Z v.kind, .str v.d.name, .Z v.d.at_, .bool v.d.ty.b, .bool v.d.ty.s, .Z v.d.ty.w, .str v.d.on, .Z v.d.et, .bool v.d.no, .Z v.eq, .Z v.left]
def i1(X:cl)(h:Q af)(P:Nat->Prop)(b6:D)(t:aY->Option c8):Prop:=∃b r,b6= .ptr b 0/\P b/\P r/\aP X h (.ptr b 0)=some (.map r)/\py X h r (λw=>(t w).map λv=> .agg (ky v))
section
variable{X:cl}{h S' aI aM:Q af}{j an aO aZ:Nat}
def i1.aa{P bu:Nat->Prop}{b6:D}{t:aY->Option c8}(a:i1 X h P b6 t)(z:∀e,P e->U X S' e=U X h e)(aC:∀e,P e->bu e):i1 X S' bu b6 t:=by
 obtain⟨b,r,M,R,ak,aA,bv⟩:=a
 exact⟨b,r,M,aC b R,aC r ak,zD (z b R) aA,bv.aa (z r ak)⟩
def adF(b:Nat):c5 X h .eql 41 true (.ptr b 0) .cJ=some .zF:=Zk
def vV(au:dj X){P:Nat->Prop}{b6:D}{t:aY->Option c8}(aE:(o X).a2<=j)(be:i1 X h P b6 t)(bq:∀e,P e->e<j)(w:aY):
 aU X 12 [b6, .str w] h j (λac S' an=>ac= .tuple [.agg (ky ((t w).getD ld)), .bool (t w).isSome]/\ba X h j S' an) (λ_ _ _=>False):=by
 refine zz au (alM X) ?_
 rw[alN]
 unfold aab
 obtain⟨b,r,rfl,ag,Y,a0,bp⟩:=be
 have fP:=bq b ag
 have CC:=bq r Y
 refine pD ?_
 generalize c6:bj X h j _=aI
 have bI:U X aI j=zw [.Z 0, .str [], .Z 0, .zF, .zF, .Z 0, .str [], .Z 0, .zF, .Z 0, .Z 0] 11:=by rw[<-c6,a7 aE];rfl
 have bH:ba X h j aI (j+1):=by rw[<-c6];exact dz
 clear c6
 have bb:aP X aI (.ptr b 0)=some (.map r):=zD (bH.aa b fP) a0
 have LA:=bp.aa (bH.aa r CC)
 have kF:=FM LA (.agg [.Z 0, .str [], .Z 0, .zF, .zF, .Z 0, .str [], .Z 0, .zF, .Z 0, .Z 0]) w true
 have Il:nU X aI 9 (.agg [.Z 0, .str [], .Z 0, .zF, .zF, .Z 0, .str [], .Z 0, .zF, .Z 0, .Z 0]) (.map r) (.str w) true=some (.tuple [.agg (ky ((t w).getD ld)), .bool (t w).isSome]):=by
  rw[kF];cases t w<;>rfl
 clear kF
 generalize (t w).getD ld=v at*
 have nl:ky v=[.Z v.kind, .str v.d.name, .Z v.d.at_, .bool v.d.ty.b, .bool v.d.ty.s, .Z v.d.ty.w, .str v.d.on, .Z v.d.et, .bool v.d.no, .Z v.eq, .Z v.left]:=rfl
 rw[nl]at Il ⊢
 refine dI @adF @bb @Il ⟨?_⟩
 refine f8 (iH (z:=11) (b:=j) (W:=0) (n:=11) (c:=Q.ofList [.Z 0, .str [], .Z 0, .zF, .zF, .Z 0, .str [], .Z 0, .zF, .Z 0, .Z 0] 0 .nil) (by simp(disch:=omega) only[aB];exact bI) aE rfl Zd Zd rfl) ?_
 generalize fl:bj X _ j _=a1
 have cH:U X a1 j=zw [.Z v.kind, .str v.d.name, .Z v.d.at_, .bool v.d.ty.b, .bool v.d.ty.s, .Z v.d.ty.w, .str v.d.on, .Z v.d.et, .bool v.d.no, .Z v.eq, .Z v.left] 11:=by rw[<-fl,a7 aE];rfl
 have ck:ba X h j a1 (j+1+1):=⟨Zo,λe B=>by rw[<-fl];simp(disch:=omega) only[aB];exact bH.aa e B⟩
 clear fl
 refine cd (bc cH) ⟨?_⟩
 exact⟨rfl,ck⟩
end
def Mp(t:aY->Option c8)(ad:aY->Option Int)(f:Int×Int)(w:aY)(H:Int):Int×Int:=match t w with
 |none=>nc f 23 H
 |some v=>if v.kind=1\/1<(ad w).getD 0+1 then nc f 24 H else f
def o2(ad:aY->Option Int)(w:aY):Option D:=(ad w).map λz=> .Z z
section
variable{X:cl}{h S' aI aM:Q af}{j an aO aZ:Nat}
def ayM(au:dj X){P:Nat->Prop}{bO df:Nat}{p b6:D}{z:Int}{t:aY->Option c8}{ad:aY->Option Int}{f:Int×Int}(aE:(o X).a2<=j)(iD:(o X).a2<=bO)(x4:(o X).a2<=df)(wj:bO<j)(x5:df<j)(u0:bO≠df)
 (ax:gs X h bO p z b6 (.map df) f)(be:i1 X h P b6 t)(bq:∀e,P e->e<j/\e≠bO/\e≠df)(fU:py X h df (o2 ad))(w:aY)(H:Int)(ag:0<=(ad w).getD 0/\(ad w).getD 0<4000000000000000000):
 aU X 82 [.ptr bO 0, .str w, .Z H] h j (λac S' an=>ac= .tuple []/\gs X S' bO p z b6 (.map df) (Mp t ad f w H)/\py X S' df (o2 λx=>if x=w then some ((ad w).getD 0+1)else ad x)/\j<=an/\∀e,e<j->e≠bO->e≠df->U X S' e=U X h e) (λ_ _ _=>False):=by
 refine zz au (aog X) ?_
 rw[aoh]
 unfold abJ
 have cR:aP X h (.ptr bO 2)=some b6:=by unfold gs at ax;rw[bc ax];rfl
 refine cd @cR ⟨?_⟩
 refine(vV au aE be (λe B=>(bq e B).1) w).Zm ?_
 rintro ac aI aO ⟨rfl,bH⟩
 have jJ:=bH.le
 have ry:gs X aI bO p z b6 (.map df) f:=by unfold gs;rw[bH.aa bO wj];exact ax
 have atS:=fU.aa (bH.aa df x5)
 generalize bB:(t w).getD ld=v
 have nl:ky v=[.Z v.kind, .str v.d.name, .Z v.d.at_, .bool v.d.ty.b, .bool v.d.ty.s, .Z v.d.ty.w, .str v.d.on, .Z v.d.et, .bool v.d.no, .Z v.eq, .Z v.left]:=rfl
 rw[nl]
 refine ih ⟨?_⟩
 refine ih ⟨?_⟩
 refine pD ?_
 refine ih ⟨?_⟩
 generalize d3:bj X _ aO _=aM
 have bN:U X aM aO=zw [.Z v.kind, .str v.d.name, .Z v.d.at_, .bool v.d.ty.b, .bool v.d.ty.s, .Z v.d.ty.w, .str v.d.on, .Z v.d.et, .bool v.d.no, .Z v.eq, .Z v.left] 11:=by rw[<-d3,a7 Zo];rfl
 have bx:ba X h j aM (aO+1):=⟨Zo,λe B=>by rw[<-d3];simp(disch:=omega) only[aB];exact bH.aa e B⟩
 have iu:∀e,e<aO->U X aM e=U X aI e:=λe B=>by rw[<-d3];exact zy
 clear d3
 have H7:gs X aM bO p z b6 (.map df) f:=by unfold gs;rw[iu bO Zo];exact ry
 have aeE:=atS.aa (iu df Zo)
 have eQ:aP X aM (.ptr bO 3)=some (.map df):=by unfold gs at H7;rw[bc H7];rfl
 have kF:nU X aM 9 (.Z 0) (.map df) (.str w) false=some (.Z ((ad w).getD 0)):=by
  rw[FM aeE];unfold o2;cases ad w<;>rfl
 have bz:bn .add (.Z ((ad w).getD 0)) (.Z 1)=some (.Z ((ad w).getD 0+1)):=en Zo Zo
 refine dI @eQ @kF @bz ⟨?_⟩
 obtain⟨a1,sF,aeF,mP⟩:=Qv (j:=aO+1) x4 aeE w (.Z ((ad w).getD 0+1))
 refine kb sF ?_
 have x2:gs X a1 bO p z b6 (.map df) f:=by unfold gs;rw[mP bO u0];exact H7
 rw[<-mP aO Zo]at bN
 have KX:py X a1 df (o2 λx=>if x=w then some ((ad w).getD 0+1)else ad x):=by
  have:(λx=>if x=w then some (D.Z ((ad w).getD 0+1))else o2 ad x)=(o2 λx=>if x=w then some ((ad w).getD 0+1)else ad x):=by
   funext x;unfold o2;by_cases a:x=w<;>simp[a]
  rw[<-this];exact aeF
 have Py:∀e,e<j->e≠df->U X a1 e=U X h e:=λe M R=>by rw[mP e R];exact bx.aa e M
 clear kF sF aeF eQ
 unfold Mp
 cases LZ:t w with
 |none=>
  simp only[Z2,Yr]
  refine cx ⟨?_⟩
  refine(xC (j:=aO+1) (h:=a1) au iD x2 23 H).Zm ?_
  rintro ac bA cK ⟨rfl,wi,iF,gF⟩
  refine cx ⟨?_⟩
  exact⟨by first|trivial|rfl,wi,KX.aa (gF df Zo),Zo,λe M R ak=>by rw[gF e R];exact Py e M ak⟩
 |some hr=>
  have AR:hr=v:=by rw[LZ]at bB;exact bB
  subst AR
  simp only[Z7,Yq]
  have fy:aP X a1 (.ptr aO 0)=some (.Z hr.kind):=by rw[bc bN];rfl
  have eQ:aP X a1 (.ptr bO 3)=some (.map df):=by unfold gs at x2;rw[bc x2];rfl
  have kF:nU X a1 9 (.Z 0) (.map df) (.str w) false=some (.Z ((ad w).getD 0+1)):=by
   rw[FM KX];unfold o2;simp
  by_cases M:hr.kind=1
  ·have d:decide (hr.kind=1)=true:=by simp[M]
   refine cI @fy @d ⟨?_⟩
   refine(xC (j:=aO+1) (h:=a1) au iD x2 24 H).Zm ?_
   rintro ac bA cK ⟨rfl,wi,iF,gF⟩
   refine cx ⟨?_⟩
   exact⟨by first|trivial|rfl,by simp only[M,true_or,ZE];exact wi,KX.aa (gF df Zo),Zo,λe M R ak=>by rw[gF e R];exact Py e M ak⟩
  ·have d:decide (hr.kind=1)=false:=by simp[M]
   by_cases R:1<(ad w).getD 0+1
   ·have cy:decide (1<(ad w).getD 0+1)=true:=by simp only[Zg];exact R
    refine fO @fy @d @eQ @kF @cy ⟨?_⟩
    refine(xC (j:=aO+1) (h:=a1) au iD x2 24 H).Zm ?_
    rintro ac bA cK ⟨rfl,wi,iF,gF⟩
    refine cx ⟨?_⟩
    exact⟨by first|trivial|rfl,by simp only[M,R,or_true,ZE];exact wi,KX.aa (gF df Zo),Zo,λe M R ak=>by rw[gF e R];exact Py e M ak⟩
   ·have cy:decide (1<(ad w).getD 0+1)=false:=by simp only[Zb];exact R
    refine fO @fy @d @eQ @kF @cy ⟨?_⟩
    exact⟨by first|trivial|rfl,by simp only[M,R,Ym,ZD];exact x2,KX,Zo,λe M R ak=>Py e M ak⟩
end
def yy(t:aY->Option c8)(f:Int×Int)(E:bD):Int×Int:=if yq E then(if (t E.name).isSome then f else nc f 23 E.at_)else f
def Js(am:List Go.aT.Node)(z:Nat)(f:Int×Int)(E:bD):Int×Int:=if E.kind=25 then(match qA am E.name with
 |none=>nc f 23 E.at_
 |some S=>if z<=S then nc f 25 E.at_ else f)else f
def up(t:aY->Option c8)(am:List Go.aT.Node)(z:Nat)(f:Int×Int)(E:bD):(Int×Int)×Bool:=(Js am z (yy t f E) E,true)
structure G7(X:cl)(fi:Q af)(a2 bO:Nat)(p:D)(z:Nat)(b6 df:D)(f:Int×Int)(h:Q af)(j:Nat):Prop where
 le:a2<=j
 kh:gs X h bO p z b6 df f
 low:∀e,e<a2->e≠bO->U X h e=U X fi e
section
variable{X:cl}{h S' fi aI aM:Q af}{j an aO aZ:Nat}
def aBM(au:dj X){P:Nat->Prop}{fV bO hN:Nat}{p b6 df:D}{z:Nat}{t:aY->Option c8}{am:List Go.aT.Node}(aFH:(o X).a2<=fV)(iD:(o X).a2<=bO)(wj:bO<fV)(PK:hN<fV)(PI:hN≠bO)(b0:aP X fi (.ptr hN 0)=some (.ptr bO 0))
 (bq:∀e,P e->e<fV/\e≠bO)(be:i1 X fi P b6 t)(b2:oS X fi P am p){f:Int×Int}(pP:G7 X fi fV bO p z b6 df f h j){E:bD}{v:D}(bC:cE X h P E v):
 aU X 103 [v, .ptr hN 0] h j (λac S' an=>ac= .zT/\G7 X fi fV bO p z b6 df (up t am z f E).1 S' an) (λ_ _ _=>False):=by
 refine zz au (akZ X) ?_
 rw[ak0]
 unfold μ
 refine(azG au bC).Zm ?_
 rintro ac aI aO ⟨rfl,rfl,jJ⟩
 have aFK:=pP.le
 have iv:∀h,U X h hN=U X fi hN->aP X h (.ptr hN 0)=some (.ptr bO 0):=λh a=>zD a b0
 refine iR (λc4 S' aN=>c4.g 0=some v/\c4.g 1=some (.ptr hN 0)/\G7 X fi fV bO p z b6 df (yy t f E) S' aN/\cE X S' P E v) (λS bE=> ?_) ?_
 ·obtain⟨b,_,_,_,rfl,ag,a0,bb,b5,_⟩:=id bC.open
  unfold yy at bE
  cases jb:yq E with
  |false=>
   rw[jb]at bE
   simp only[Zy,ZD]at bE
   refine cx ⟨?_⟩
   exact bE _ _ _ ⟨a8,a8,⟨Zo,pP.kh,pP.low⟩,bC⟩
  |true=>
   rw[jb]at bE
   simp only[ZE]at bE
   have VE:=iv aI (pP.low hN PK PI)
   have cR:aP X aI (.ptr bO 2)=some b6:=by have:=pP.kh;unfold gs at this;rw[bc this];rfl
   refine dI @VE @cR @b5 ⟨?_⟩
   refine eN (λaM=>U X aM (aO+12)=zw [.Z 0, .str [], .Z 0, .zF, .zF, .Z 0, .str [], .Z 0, .zF, .Z 0, .Z 0] 11/\ba X aI aO aM (aO+12+1)) ⟨by rw[a7 Zo];rfl,Zo,λe B=>zy⟩ ?_
   rintro aM ⟨bN,bx⟩
   have ct:∀e,e<fV->U X aM e=U X aI e:=λe B=>bx.aa e Zo
   refine(vV (j:=aO+15) (h:=aM) au Zo (be.aa (bu:=P) (λe B=>by rw[ct e (bq e B).1];exact pP.low e (bq e B).1 (bq e B).2) (λ_ a=>a)) (λe B=>zs (bq e B).1) E.name).Zm ?_
   rintro ac a1 bi ⟨rfl,ck⟩
   have iO:=ck.le
   have cH:U X a1 (aO+12)=zw [.Z 0, .str [], .Z 0, .zF, .zF, .Z 0, .str [], .Z 0, .zF, .Z 0, .Z 0] 11:=by rw[ck.aa _ Zo];exact bN
   generalize AR:(t E.name).getD ld=dX
   have nl:ky dX=[.Z dX.kind, .str dX.d.name, .Z dX.d.at_, .bool dX.d.ty.b, .bool dX.d.ty.s, .Z dX.d.ty.w, .str dX.d.on, .Z dX.d.et, .bool dX.d.no, .Z dX.eq, .Z dX.left]:=rfl
   rw[nl]
   refine ih ⟨?_⟩
   refine ih ⟨?_⟩
   refine f8 (iH (z:=11) (b:=aO+12) (W:=0) (n:=11) cH Zo rfl Zd Zd rfl) ?_
   generalize eS:bj X a1 (aO+12) _=bA
   have dJ:∀e,e<aO->U X bA e=U X aI e:=λe B=>by rw[<-eS,aB Zo Zo,ck.aa e Zo,bx.aa e B]
   clear eS bN cH
   have OS:G7 X fi fV bO p z b6 df f bA bi:=⟨Zo,by have:=pP.kh;unfold gs at*;rw[dJ bO Zo];exact this,λe M R=>by rw[dJ e Zo];exact pP.low e M R⟩
   have u2:cE X bA P E (.ptr b 0):=cE.aa (λe B=>dJ e (zs (bq e B).1)) _ _ bC
   have awh:=iv bA (OS.low hN PK PI)
   have ao8:aP X bA (.ptr b 1)=some (.Z E.at_):=zD (dJ b (zs (bq b ag).1)) bb
   cases tS:(t E.name).isSome with
   |true=>
    rw[tS]at bE
    simp only[ZE]at bE
    refine cx ⟨?_⟩
    exact bE _ _ _ ⟨a8,a8,OS,u2⟩
   |false=>
    rw[tS]at bE
    simp only[Zy,ZD]at bE
    refine cI @awh @ao8 ⟨?_⟩
    refine(xC (h:=bA) au iD OS.kh 23 E.at_).Zm ?_
    rintro ac bM bX ⟨rfl,EQ,ik,mx⟩
    refine cx ⟨?_⟩
    exact bE _ _ _ ⟨a8,a8,⟨Zo,EQ,λe M R=>by rw[mx e R];exact OS.low e M R⟩,cE.aa (λe B=>mx e (bq e B).2) _ _ u2⟩
 ·rintro I aM aZ ⟨t0,t1,EI,Ll⟩
  obtain⟨b,_,_,_,rfl,ag,a0,bb,b5,_⟩:=id Ll.open
  have fJ:=EI.le
  show cw _ _
  by_cases tE:E.kind=25
  ·have d:decide (E.kind=25)=true:=by simp[tE]
   have VE:=iv aM (EI.low hN PK PI)
   have fy:aP X aM (.ptr bO 0)=some p:=by have:=EI.kh;unfold gs at this;rw[bc this];rfl
   refine d9 @t0 @t1 @a0 @d @VE @fy @b5 ⟨?_⟩
   refine(Tx (j:=aZ+14) (h:=aM) au Zo (b2.aa (bu:=P) (λe B=>EI.low e (bq e B).1 (bq e B).2) (λ_ a=>a)) (λe B=>zs (bq e B).1) E.name).Zm ?_
   rintro ac a1 bi ⟨rfl,ck⟩
   have iO:=ck.le
   have EJ:G7 X fi fV bO p z b6 df (yy t f E) a1 bi:=⟨Zo,by have:=EI.kh;unfold gs at*;rw[ck.aa bO Zo];exact this,λe M R=>by rw[ck.aa e Zo];exact EI.low e M R⟩
   have VF:=iv a1 (EJ.low hN PK PI)
   have NJ:aP X a1 (.ptr b 1)=some (.Z E.at_):=zD (ck.aa b (zs (bq b ag).1)) bb
   have eo:aP X a1 (.ptr bO 1)=some (.Z (z:Int)):=by have:=EJ.kh;unfold gs at this;rw[bc this];rfl
   cases b7:qA am E.name with
   |none=>
    have Y:(up t am z f E).1=nc (yy t f E) 23 E.at_:=by simp[up,Js,tE,b7]
    rw[Y]
    simp only[Z2]
    refine fI @t0 @t1 @VF @NJ ⟨?_⟩
    refine(xC (h:=a1) au iD EJ.kh 23 E.at_).Zm ?_
    rintro ac bM bX ⟨rfl,EQ,ik,mx⟩
    refine cx ⟨?_⟩
    exact⟨by first|trivial|rfl,Zo,EQ,λe M R=>by rw[mx e R];exact EJ.low e M R⟩
   |some S=>
    simp only[Z7,YQ]
    by_cases Pt:z<=S
    ·have cy:decide ((z:Int)<=(S:Int))=true:=by simp only[Zg];omega
     have Y:(up t am z f E).1=nc (yy t f E) 25 E.at_:=by simp[up,Js,tE,b7,Pt]
     rw[Y]
     refine hu @t0 @t1 @VF @NJ @eo @cy ⟨?_⟩
     refine(xC (h:=a1) au iD EJ.kh 25 E.at_).Zm ?_
     rintro ac bM bX ⟨rfl,EQ,ik,mx⟩
     refine cx ⟨?_⟩
     exact⟨by first|trivial|rfl,Zo,EQ,λe M R=>by rw[mx e R];exact EJ.low e M R⟩
    ·have cy:decide ((z:Int)<=(S:Int))=false:=by simp only[Zb];omega
     have Y:(up t am z f E).1=yy t f E:=by simp[up,Js,tE,b7,Pt]
     rw[Y]
     refine fO @t0 @t1 @VF @eo @cy ⟨?_⟩
     exact⟨by first|trivial|rfl,EJ⟩
  ·have d:decide (E.kind=25)=false:=by simp[tE]
   have Y:(up t am z f E).1=yy t f E:=by simp[up,Js,tE]
   rw[Y]
   refine dI @t0 @a0 @d ⟨?_⟩
   exact⟨by first|trivial|rfl,EI⟩
end
def Q2(t:aY->Option c8)(am:List Go.aT.Node)(z:Nat)(f:Int×Int)(E:bD):Int×Int:=DA (up t am z) f E
section
variable{X:cl}{h:Q af}{j:Nat}
def aBO(au:dj X){P:Nat->Prop}{bO:Nat}{p b6 df:D}{z:Nat}{t:aY->Option c8}{am:List Go.aT.Node}(aE:(o X).a2<=j)(iD:(o X).a2<=bO)(wj:bO<j)
 (bq:∀e,P e->e<j/\e≠bO)(be:i1 X h P b6 t)(b2:oS X h P am p){f:Int×Int}(ax:gs X h bO p z b6 df f){E:bD}{v:D}(bC:cE X h P E v):
 aU X 83 [.ptr bO 0,v] h j (λac S' an=>ac= .tuple []/\gs X S' bO p z b6 df (Q2 t am z f E)/\j<=an/\∀e,e<j->e≠bO->U X S' e=U X h e) (λ_ _ _=>False):=by
 refine zz au (aoi X) ?_
 rw[aoj]
 unfold abK
 refine cx ⟨?_⟩
 refine eN (λaI=>U X aI j=zw [.ptr bO 0] 1/\ba X h j aI (j+1)) ⟨a7 aE,dz⟩ ?_
 rintro aI ⟨bI,bH⟩
 have Wb:∀e,P e->U X aI e=U X h e:=λe B=>bH.aa e (bq e B).1
 have b0:aP X aI (.ptr j 0)=some (.ptr bO 0):=by rw[bc bI];rfl
 refine(aD6 au (up t am z) P (G7 X aI (j+1) bO p z b6 df) 103 [] [.ptr j 0] (λs E v aM aZ gw Ll=> ?_) (SizeOf.sizeOf E+1) E Zo f v aI (j+1) ⟨Zj _,by unfold gs at*;rw[bH.aa bO wj];exact ax,λ_ _ _=>rfl⟩ (cE.aa Wb _ _ bC)).Zm ?_
 ·refine(aBM au Zo iD Zo Zo Zo b0 (λe B=>⟨zs (bq e B).1,(bq e B).2⟩) (be.aa (bu:=P) Wb (λ_ a=>a)) (b2.aa (bu:=P) Wb (λ_ a=>a)) gw Ll).Zm ?_
  rintro ac a1 bi ⟨rfl,pP⟩
  exact⟨rfl,pP,λe B=>by have:=bq e B;rw[pP.low e Zo this.2,gw.low e Zo this.2]⟩
 ·rintro ac aM aZ ⟨rfl,pP,_⟩
  refine cx ⟨?_⟩
  have:=pP.le
  exact⟨by first|trivial|rfl,pP.kh,Zo,λe M R=>by rw[pP.low e Zo R,bH.aa e M]⟩
end
def gD(g:Go.aT.Node):List (Int×eF):=(g.d4.map λd=>(1,d))++((g.out.map λd=>(2,d))++(g.loc.map λd=>(3,d)))
def m3(g:Go.aT.Node):Nat->List eF
 |0=>g.d4
 |1=>g.out
 |_=>g.loc
def oE(g:Go.aT.Node):Nat->Nat
 |0=>0
 |1=>g.d4.length
 |2=>g.d4.length+g.out.length
 |_=>g.d4.length+g.out.length+g.loc.length
def aiA(g:Go.aT.Node){z:Nat}(aJ:z<3):oE g (z+1)=oE g z+(m3 g z).length:=by
 match z,aJ with
 |0,_=>simp[oE,m3]
 |1,_=>rfl
 |2,_=>rfl
def Ep(g:Go.aT.Node):(gD g).length=oE g 3:=by simp[gD,oE];omega
def adv(g:Go.aT.Node){z:Nat}(aJ:z<3){S:Nat}{d:eF}(a:(m3 g z)[S]? =some d):(gD g)[oE g z+S]? =some (1+(z:Int),d):=by
 match z,aJ,a with
 |0,_,a=>
  have bE:=(Zc.1 a).1
  simp only[m3]at a bE
  simp only[gD,oE,ZV]
  rw[Z6 (by simpa using bE),Zu,a];rfl
 |1,_,a=>
  have bE:=(Zc.1 a).1
  simp only[m3]at a bE
  simp only[gD,oE]
  rw[ZW Zs,Zi,Nat.add_sub_cancel_left,Z6 (by simpa using bE),Zu,a];rfl
 |2,_,a=>
  simp only[m3]at a
  simp only[gD,oE]
  rw[ZW Zx,Zi,ZW Zx,Zi,show g.d4.length+g.out.length+S-g.d4.length-g.out.length=S by omega,Zu,a];rfl
section
variable{X:cl}{h S' fi aI aM:Q af}{j an aO aZ:Nat}
def axD{C:aK}{l:Nat}{H m b:List D}{ah av:bJ}(a:BJ C l (H++m) h j ah av):jq C (.func (.yield l) H b) m h j ah av:=⟨a⟩
def arr(au:dj X){P:Nat->Prop}{g:Go.aT.Node}{jT l bY co cY:Nat}{c7 dv aS:D}(dK:Nat->Q af->Nat->Prop)
 (M:dL X fi P bY c7 8 (g.d4.map d2))(R:dL X fi P co dv 8 (g.out.map d2))(ak:dL X fi P cY aS 8 (g.loc.map d2))
 (b5:aP X h (.ptr jT 2)=some c7)(a3:aP X h (.ptr jT 3)=some dv)(a4:aP X h (.ptr jT 4)=some aS)
 (H0:∀i h j,dK i h j->(o X).a2<=j/\∀e,P e->U X h e=U X fi e)
 (EK:∀i h j S' an,dK i h j->ba X h j S' an->dK i S' an)
 (Y:∀i z d h j,(gD g)[i]? =some (z,d)->dK i h j->BJ X l [.Z z, .agg (d2 d)] h j (λac S' an=>ac= .zT/\dK (i+1) S' an) (λ_ _ _=>False))
 (aX:dK 0 h j):aU X 58 [.func (.yield l) [] [], .ptr jT 0] h j (λ_ S' an=>dK (gD g).length S' an) (λ_ _ _=>False):=by
 refine zz au (anx X) ?_
 rw[anz]
 unfold abg
 have Iz:∀z,z<3->∃s b,[c7,dv,aS][z]? =some s/\dL X fi P b s 8 ((m3 g z).map d2):=by
  intro z aJ
  match z,aJ with
  |0,_=>exact⟨c7,bY,rfl,M⟩
  |1,_=>exact⟨dv,co,rfl,R⟩
  |2,_=>exact⟨aS,cY,rfl,ak⟩
 have acY:=(kt M.len).1
 have aqN:=(kt R.len).1
 have tu:=(kt ak.len).1
 have eC:e6 [.aV, .aV, .aV] [(0,1,c7),(1,1,dv),(2,1,aS)]=some (.agg [c7,dv,aS]):=by
  simp[e6,uM,uN,n3,acY,aqN,tu]
 refine dI @b5 @a3 @a4 ⟨?_⟩
 refine f8 eC ?_
 refine cx ⟨?_⟩
 refine fh (λm I S' aN=>∃(z:Nat),I.g 0=some (.func (.yield l) [] [])/\I.g 13=some (.agg [c7,dv,aS])/\I.g 14=some (.Z (z:Int))/\z+m=3/\dK (oE g z) S' aN)
  3 ⟨0,a8,a8,fq,Zo,aX⟩ ?_
 rintro m I aM aZ ⟨z,t0,mb,pq,aJ,v8⟩
 cases m with
 |zero=>
  have d:decide ((z:Int)<3)=false:=by simp only[Zb];omega
  refine cI @pq @d ⟨?_⟩
  rw[Ep]
  have:z=3:=Zo
  subst this
  exact v8
 |succ m=>
  have d:decide ((z:Int)<3)=true:=by simp only[Zg];omega
  obtain⟨s,b,aD,cB⟩:=Iz z Zo
  have dp:va false 3 1 (.agg [c7,dv,aS]) (.Z (z:Int))=some s:=by
   have ak:Nat.blt z 3=true:=by simp[Nat.blt];omega
   simp only[va,sT,ak,fo,lD,qT,Z1]
   exact aD
  have d0:=cB.len
  have hU:=cB.many
  rw[Zi]at d0 hU
  refine fO @pq @mb @d @dp @d0 ⟨?_⟩
  refine fh (λm I S' aN=>∃(S:Nat),I.g 0=some (.func (.yield l) [] [])/\I.g 13=some (.agg [c7,dv,aS])/\I.g 14=some (.Z (z:Int))/\I.g 3=some (.Z (z:Int))/\I.g 18=some s/\I.g 19=some (.Z ((m3 g z).length:Int))/\I.g 20=some (.Z (S:Int))/\S+m=(m3 g z).length/\dK (oE g z+S) S' aN)
   (m3 g z).length ⟨0,aL t0,aL mb,aL pq,a8,a8,a8,fq,Zo,v8⟩ ?_
  rintro gN c4 a1 bi ⟨S,t0,mb,pq,t3,wZ,rU,qf,bE,Au⟩
  cases gN with
  |zero=>
   have d:=zt S (m3 g z).length
   have bz:=zx z
   refine fO @qf @rU @pq @d @bz ⟨?_⟩
   refine⟨m,Zo,z+1,aL t0,aL mb,a8,Zo, ?_⟩
   rw[aiA g Zo]
   have:S=(m3 g z).length:=Zo
   rw[<-this]
   exact Au
  |succ gN=>
   have d:=zu S (m3 g z).length
   have bz:=zx S
   have cF:bn .add (.Z 1) (.Z (z:Int))=some (.Z (1+(z:Int))):=en Zo Zo
   obtain⟨ay,aF⟩:=zv (m3 g z) S
   obtain⟨wx,auk⟩:=H0 _ _ _ Au
   have tT:=cB.fx S (by rw[Zi];omega)
   have e9:=(cB.aa auk).row (i:=S) (r:=d2 ay) Zd (by rw[Zu,aF];rfl)
   have iE:d2 ay=[.str ay.name, .Z ay.at_, .bool ay.ty.b, .bool ay.ty.s, .Z ay.ty.w, .str ay.on, .Z ay.et, .bool ay.no]:=rfl
   rw[iE]at e9
   refine hu @qf @rU @wZ @d @tT @e9 ⟨?_⟩
   generalize eS:bj X _ bi _=bA
   have dg:U X bA bi=zw [.str ay.name, .Z ay.at_, .bool ay.ty.b, .bool ay.ty.s, .Z ay.ty.w, .str ay.on, .Z ay.et, .bool ay.no] 8:=by rw[<-eS,a7 wx];rfl
   have c0:ba X a1 bi bA (bi+1):=⟨Zo,λe B=>by rw[<-eS];exact zy⟩
   clear eS
   refine fI @t0 @t3 @cF (bc dg) ⟨?_⟩
   refine axD ((Y _ _ _ _ _ (adv g Zo aF) (EK _ _ _ _ _ Au c0)).mono ?_ (λ_ _ _ a=>False.elim a))
   rintro ac bM bX ⟨rfl,hJ⟩
   refine cI @qf @bz ⟨?_⟩
   exact⟨gN,Zo,S+1,aL t0,aL mb,aL pq,aL t3,aL wZ,aL rU,a8,Zo,hJ⟩
def Oj(au:dj X){P:Nat->Prop}{g:Go.aT.Node}{n fQ hY jT bY co cY:Nat}{c7 dv aS:D}{A bo:NB}{ah:fB}{E:Nat->fB}{r:fB}{av:tm}{I:cV}(dK:Nat->Q af->Nat->Prop)
 (aE:(o X).a2<=j)(es:fQ<n)(dF:hY<n)(Ln:jT<j)
 (M:dL X h P bY c7 8 (g.d4.map d2))(R:dL X h P co dv 8 (g.out.map d2))(ak:dL X h P cY aS 8 (g.loc.map d2))
 (b5:aP X h (.ptr jT 2)=some c7)(a3:aP X h (.ptr jT 3)=some dv)(a4:aP X h (.ptr jT 4)=some aS)
 (H0:∀i S' aN,dK i S' aN->j+2<=aN/\∀e,P e->U X S' e=U X h e)
 (EK:∀i aI aO aM aZ,dK i aI aO->aO<=aZ->(∀e,e<aO->e≠j+1->U X aM e=U X aI e)->dK i aM aZ)
 (aX:∀S',ba X h j S' (j+2)->dK 0 S' (j+2))
 (PR:∀mk i z d aI aO,(gD g)[i]? =some (z,d)->dK i aI aO->U X aI j=some (.deferred (some []))->U X aI (j+1)=some (mk .ready none)->
  un X A bo (j+1) mk (λac S' aN=>ac= .zT/\dK (i+1) S' aN/\U X S' j=some (.deferred (some []))/\U X S' (j+1)=some (mk .ready none)) (λ_ _ _=>False) (Z (Z I fQ (.Z z)) hY (.agg (d2 d))) aI aO)
 (EV:∀S' aN,dK (gD g).length S' aN->U X S' j=some (.deferred (some []))->ah (wN I j) S' aN):
 Gg X n (.func (.func 58) [] [.ptr jT 0]) [fQ,hY] (un X A bo) ah E r av I h j:=by
 refine⟨aE, ?_⟩
 intro mk LD
 refine acT (au.none _ _ rfl) ?_
 generalize c6:bj X (bj X h j _) (j+1) _=aI
 have nM:U X aI j=some (.deferred (some [])):=by rw[<-c6,aB Zo Zo,a7 aE]
 have i7:U X aI (j+1)=some (mk .ready none):=by rw[<-c6,a7 Zo]
 have bH:ba X h j aI (j+2):=⟨Zo,λe B=>by rw[<-c6];exact zy⟩
 clear c6
 have OT:=aX aI bH
 obtain⟨_,OY⟩:=H0 _ _ _ OT
 refine(arr (l:=j+1) au (λi S' aN=>dK i S' aN/\U X S' j=some (.deferred (some []))/\U X S' (j+1)=some (mk .ready none)) (M.aa OY) (R.aa OY) (ak.aa OY)
  (by rw[bH.eV _ _ Ln];exact b5) (by rw[bH.eV _ _ Ln];exact a3) (by rw[bH.eV _ _ Ln];exact a4)
  (λi S' aN a=> ?_) (λi aI aO aM aZ a bU=> ?_) (λi z d aI aO aG a=> ?_) ⟨OT,nM,i7⟩).Zm ?_
 ·obtain⟨cN,cA⟩:=H0 _ _ _ a.1
  exact⟨Zo,λe B=>by rw[cA e B,OY e B]⟩
 ·obtain⟨cN,cA⟩:=H0 _ _ _ a.1
  exact⟨EK _ _ _ _ _ a.1 bU.le (λe B _=>bU.aa e B),by rw[bU.aa _ Zo];exact a.2.1,by rw[bU.aa _ Zo];exact a.2.2⟩
 ·refine LD _ _ _ _ _ a.2.2 ?_
  have bz:Nat.blt fQ n=true:=by simp[Nat.blt];omega
  have cF:Nat.blt hY n=true:=by simp[Nat.blt];omega
  simp only[Ju,bz,cF,fo]
  exact PR mk i z d aI aO aG a.1 a.2.1 a.2.2
 ·rintro ac aM aZ ⟨v8,as8,ate⟩
  obtain⟨cN,cA⟩:=H0 _ _ _ v8
  refine⟨.ready,none,Zs,ate, ?_⟩
  show ah _ _ _
  exact EV _ _ (EK _ _ _ _ _ v8 (Zj _) (λe B Fo=>aB Zo Fo)) (by rw[aB Zo Zo];exact as8)
end
def B8{α eZ:Type}(st:eZ->α->eZ)(s:eZ){l:List α}{i:Nat}{x:α}(a:l[i]? =some x):(l.take (i+1)).foldl st s=st ((l.take i).foldl st s) x:=by
 rw[ZQ,a,List.foldl_append];rfl
def mr(s:(aY->Option Int)×(Int×Int))(x:Int×eF):(aY->Option Int)×(Int×Int):=
 (λw=>if w=x.2.name then some x.1 else s.1 w,if 0<(s.1 x.2.name).getD 0 then nc s.2 24 x.2.at_ else s.2)
def sr(t:aY->Option c8)(f:Int×Int)(x:Int×eF):Int×Int:=if t x.2.on=none/\x.2.on≠[]then nc f 23 x.2.et else f
def vQ(t:aY->Option c8)(g:Go.aT.Node)(f:Int×Int):Int×Int:=(gD g).foldl (sr t) ((gD g).foldl mr (λ_=>none,f)).2
section
variable{X:cl}{h S' fi aI aM:Q af}{j an aO aZ:Nat}
def Oi(au:dj X){nm c7 dv aS eH:D}{H:D}(aE:(o X).a2<=j):
 aU X 32 [.agg [nm,H,c7,dv,aS,eH]] h j (λac S' an=>ac= .func (.func 58) [] [.ptr j 0]/\an=j+1/\ba X h j S' an/\aP X S' (.ptr j 2)=some c7/\aP X S' (.ptr j 3)=some dv/\aP X S' (.ptr j 4)=some aS) (λ_ _ _=>False):=by
 refine zz au (amG X) ?_
 rw[amH]
 unfold aaP
 refine cx ⟨?_⟩
 exact⟨rfl,rfl,dz,by rw[bc (a7 aE)];rfl,by rw[bc (a7 aE)];rfl,by rw[bc (a7 aE)];rfl⟩
structure tf(X:cl)(fR:Q af)(dT bO k3:Nat)(p:D)(z:Int)(b6 df:D)(f:Int×Int)(ad:aY->Option Int)(h:Q af)(n:Nat):Prop where
 le:dT+2<=n
 kh:gs X h bO p z b6 df f
 seen:py X h k3 (o2 ad)
 low:∀e,e<dT->e≠bO->e≠k3->U X h e=U X fR e
def tf.aa{fR:Q af}{dT bO k3:Nat}{p b6 df:D}{z:Int}{f:Int×Int}{ad:aY->Option Int}(a:tf X fR dT bO k3 p z b6 df f ad aI aO)(iD:bO<dT)(ya:k3<dT)(aE:aO<=aZ)(aJ:∀e,e<aO->e≠dT+1->U X aM e=U X aI e):tf X fR dT bO k3 p z b6 df f ad aM aZ:=by
 have gn:=a.le
 refine⟨Zo, ?_,a.seen.aa (aJ _ Zo Zo),λe M R ak=>by rw[aJ e Zo Zo];exact a.low e M R ak⟩
 have:=a.kh
 unfold gs at*
 rw[aJ _ Zo Zo];exact this
def aq3(au:dj X){P:Nat->Prop}{bO:Nat}{p b6 df:D}{z:Int}{t:aY->Option c8}{g:Go.aT.Node}{row:List D}(aE:(o X).a2<=j)(iD:(o X).a2<=bO)(wj:bO<j)
 (bq:∀e,P e->e<j/\e≠bO)(be:i1 X h P b6 t){f:Int×Int}(ax:gs X h bO p z b6 df f)(b2:oR X h P g row)(x7:True):
 aU X 81 [.ptr bO 0, .agg row] h j (λac S' an=>ac= .tuple []/\gs X S' bO p z b6 df (vQ t g f)/\j<=an/\∀e,e<j->e≠bO->U X S' e=U X h e) (λ_ _ _=>False):=by
 refine Kn (aoe X) (au.none _ _ rfl) ?_
 rw[aof]
 unfold abI
 obtain⟨c7,dv,aS,eH,bY,co,cY,fM,bK,rfl,k1,ko,ov,jo,e8⟩:=b2
 refine cx ⟨?_⟩
 refine eN (λaI=>U X aI j=zw [.ptr bO 0] 1/\U X aI (j+1)=zw [.str g.name, .Z g.at_,c7,dv,aS,eH] 6
  /\U X aI (j+1+1)=some (.map [] 0)/\aP X aI (.ptr (j+1+1+1) 0)=some (.map (j+1+1))/\ba X h j aI (j+1+1+1+1)) ⟨by(first|assumption|(simp(disch:=omega) only[a7,aB]<;>rfl)|(simp(disch:=omega) only[a7,aB])),by(first|assumption|(simp(disch:=omega) only[a7,aB]<;>rfl)|(simp(disch:=omega) only[a7,aB])),by(first|assumption|(simp(disch:=omega) only[a7,aB]<;>rfl)|(simp(disch:=omega) only[a7,aB])),by rw[cv,a7 Zo];rfl,dz⟩ ?_
 rintro aI ⟨jG,bI,bN,cH,bH⟩
 refine(Oi au Zo).Zm ?_
 rintro ac aM aZ ⟨rfl,rfl,bx,cA,eb,fW⟩
 have hv:ba X h j aM (j+1+1+1+1+1):=bH.trans bx
 have nn:∀e,P e->U X aM e=U X h e:=λe B=>hv.aa e (bq e B).1
 rw[<-bx.aa _ Zo]at jG bI bN
 rw[<-bx.eV _ _ Zo]at cH
 generalize avS:j+1+1+1+1+1=dT at*
 have H7:gs X aM bO p z b6 df f:=by unfold gs at*;rw[hv.aa bO wj];exact ax
 have E3:py X aM (j+1+1) (o2 λ_=>none):=⟨[],0,bN,λ_=>rfl⟩
 refine gi ?_
 refine Oj (P:=P) (g:=g) (bY:=bY) (co:=co) (cY:=cY) (c7:=c7) (dv:=dv) (aS:=aS) au (λi S' aN=>tf X aM dT bO (j+1+1) p z b6 df (((gD g).take i).foldl mr (λ_=>none,f)).2 (((gD g).take i).foldl mr (λ_=>none,f)).1 S' aN) Zo Zo Zo Zo
  (k1.aa nn) (ko.aa nn) (ov.aa nn) cA eb fW (λi S' aN a=>⟨a.le,λe B=>a.low e (zs (bq e B).1) (bq e B).2 (zs (bq e B).1)⟩)
  (λi aI aO aM aZ a gn aJ=>a.aa Zo Zo gn aJ) (λS' bU=>⟨Zj _,by unfold gs at*;rw[bU.aa _ Zo];exact H7,E3.aa (bU.aa _ Zo),λe B _ _=>bU.aa e B⟩) ?_ ?_
 ·intro mk i fa d a1 bi aG gw nM i7
  rw[B8 mr _ aG]
  generalize ((gD g).take i).foldl mr (λ_=>none,f)=ca at gw ⊢
  have gn:=gw.le
  have iE:d2 d=[.str d.name, .Z d.at_, .bool d.ty.b, .bool d.ty.s, .Z d.ty.w, .str d.on, .Z d.et, .bool d.no]:=rfl
  rw[iE]
  unfold un
  refine cx ⟨?_⟩
  generalize eS:bj X _ bi _=bA
  have dg:U X bA bi=zw [.str d.name, .Z d.at_, .bool d.ty.b, .bool d.ty.s, .Z d.ty.w, .str d.on, .Z d.et, .bool d.no] 8:=by rw[<-eS,a7 Zo];rfl
  have dJ:∀e,e<bi->U X bA e=U X a1 e:=λe B=>by rw[<-eS];exact zy
  clear eS
  refine⟨by rw[dJ _ Zo];exact i7, ?_⟩
  generalize jI:bj X bA (dT+1) _=bM
  have fT:U X bM (dT+1)=some (mk .busy none):=by rw[<-jI,a7 Zo]
  have d7:∀e,e≠dT+1->U X bM e=U X bA e:=λe B=>by rw[<-jI,aB Zo B]
  clear jI
  have hJ:=gw.aa (aM:=bM) (aZ:=bi+1) Zo Zo Zo (λe M R=>by rw[d7 e R,dJ e M])
  rw[<-d7 _ Zo]at dg
  have vU:U X bM dT=some (.deferred (some [])):=by rw[d7 _ Zo,dJ _ Zo];exact nM
  have b3:aP X bM (.ptr j 0)=some (.ptr bO 0):=by rw[bc (show U X bM j=_ by rw[hJ.low _ Zo Zo Zo];exact jG)];rfl
  have cY:aP X bM (.ptr (j+1+1+1) 0)=some (.map (j+1+1)):=zD (hJ.low _ Zo Zo Zo) cH
  have kF:nU X bM 9 (.Z 0) (.map (j+1+1)) (.str d.name) false=some (.Z ((ca.1 d.name).getD 0)):=by
   rw[FM hJ.seen];unfold o2;cases ca.1 d.name<;>rfl
  refine gh @cY @kF (bc dg) ⟨?_⟩
  refine gi ?_
  refine gh @cY @kF (bc dg) ⟨?_⟩
  refine iR (λc4 S' aN=>c4.g 4=some (.ptr (j+1+1+1) 0)/\c4.g 6=some (.ptr bi 0)/\c4.g 5=some (.Z fa)/\tf X aM dT bO (j+1+1) p z b6 df (mr ca (fa,d)).2 ca.1 S' aN/\bi+1<=aN
   /\U X S' bi=zw [.str d.name, .Z d.at_, .bool d.ty.b, .bool d.ty.s, .Z d.ty.w, .str d.on, .Z d.et, .bool d.no] 8/\U X S' dT=some (.deferred (some []))/\U X S' (dT+1)=some (mk .busy none)) (λS bE=> ?_) ?_
  ·by_cases aD:0<(ca.1 d.name).getD 0
   ·have ay:decide (0<(ca.1 d.name).getD 0)=true:=by simp[aD]
    refine dI @ay @b3 (bc dg) ⟨?_⟩
    refine(xC (h:=bM) au iD hJ.kh 24 d.at_).Zm ?_
    rintro ac bZ dy ⟨rfl,auJ,pb,pa⟩
    refine cx ⟨?_⟩
    refine bE _ _ _ ⟨a8,a8,a8,⟨Zo, ?_,hJ.seen.aa (pa _ Zo),λe M R ak=>by rw[pa e R];exact hJ.low e M R ak⟩,Zo,by rw[pa _ Zo];exact dg,by rw[pa _ Zo];exact vU,by rw[pa _ Zo];exact fT⟩
    unfold mr
    simp only[aD,ZE]
    exact auJ
   ·have ay:decide (0<(ca.1 d.name).getD 0)=false:=by simp[aD]
    refine cd @ay ⟨?_⟩
    refine bE _ _ _ ⟨a8,a8,a8,⟨Zo, ?_,hJ.seen,hJ.low⟩,Zo,dg,vU,fT⟩
    unfold mr
    simp only[aD,ZD]
    exact hJ.kh
  ·rintro c4 bZ dy ⟨t4,eX,t5,h6,pb,dZ,tC,atg⟩
   have Pu:=h6.le
   have Ec:aP X bZ (.ptr (j+1+1+1) 0)=some (.map (j+1+1)):=zD (h6.low _ Zo Zo Zo) cH
   show cw _ _
   refine fO @t4 @eX @t5 @Ec (bc dZ) ⟨?_⟩
   obtain⟨ci,sF,atT,sD⟩:=Qv (j:=dy) (show(o X).a2<=j+1+1 by omega) h6.seen d.name (.Z fa)
   refine kb sF ?_
   refine cx ⟨?_⟩
   refine⟨⟨.busy,none,by rw[sD _ Zo];exact atg⟩, ?_⟩
   have Co:gs X ci bO p z b6 df (mr ca (fa,d)).2:=by have:=h6.kh;unfold gs at*;rw[sD bO Zo];exact this
   have atU:py X ci (j+1+1) (o2 (mr ca (fa,d)).1):=by
    have:(λx=>if x=d.name then some (D.Z fa)else o2 ca.1 x)=o2 (mr ca (fa,d)).1:=by
     funext x;unfold o2 mr;by_cases a:x=d.name<;>simp[a]
    rw[<-this];exact atT
   have sx:tf X aM dT bO (j+1+1) p z b6 df (mr ca (fa,d)).2 (mr ca (fa,d)).1 ci dy:=⟨Pu,Co,atU,λe M R ak=>by rw[sD e ak];exact h6.low e M R ak⟩
   exact⟨rfl,sx.aa Zo Zo (Zj _) (λe M R=>aB Zo R),by rw[aB Zo Zo,sD _ Zo];exact tC,a7 Zo⟩
 ·intro a1 bi gw nM
  rw[Y0]at gw
  unfold vQ
  generalize (gD g).foldl mr (λ_=>none,f)=ca at gw ⊢
  have gn:=gw.le
  have xM:U X a1 (j+1)=zw [.str g.name, .Z g.at_,c7,dv,aS,eH] 6:=by rw[gw.low _ Zo Zo Zo];exact bI
  refine cd (bc xM) ⟨?_⟩
  refine(Oi au Zo).Zm ?_
  rintro ac bA cK ⟨rfl,rfl,c0,cA,eb,fW⟩
  generalize Cu:bi+1=dW at*
  have wi:gs X bA bO p z b6 df ca.2:=by have:=gw.kh;unfold gs at*;rw[c0.aa bO Zo];exact this
  have KP:U X bA dT=some (.deferred (some [])):=by rw[c0.aa _ Zo];exact nM
  have lm:∀e,P e->U X bA e=U X h e:=λe B=>by
   have:=bq e B
   rw[c0.aa e Zo,gw.low e Zo this.2 Zo,nn e B]
  have apQ:U X bA j=zw [.ptr bO 0] 1:=by rw[c0.aa _ Zo,gw.low _ Zo Zo Zo];exact jG
  refine gi ?_
  refine Oj (P:=P) (g:=g) (bY:=bY) (co:=co) (cY:=cY) (c7:=c7) (dv:=dv) (aS:=aS) au (λi S' aN=>tf X bA dW bO (j+1+1) p z b6 df (((gD g).take i).foldl (sr t) ca.2) ca.1 S' aN) Zo Zo Zo Zo
   (k1.aa lm) (ko.aa lm) (ov.aa lm) cA eb fW (λi S' aN a=>⟨a.le,λe B=>a.low e (zs (bq e B).1) (bq e B).2 (zs (bq e B).1)⟩)
   (λi aI aO aM aZ a gn aJ=>a.aa Zo Zo gn aJ) (λS' bU=>⟨Zj _,by unfold gs at*;rw[bU.aa _ Zo];exact wi,(gw.seen.aa (c0.aa _ Zo)).aa (bU.aa _ Zo),λe B _ _=>bU.aa e B⟩) ?_ ?_
  ·intro mk i fa d bM bX aG hJ vU atf
   rw[B8 (sr t) _ aG]
   generalize ((gD g).take i).foldl (sr t) ca.2=G at hJ ⊢
   have ik:=hJ.le
   have iE:d2 d=[.str d.name, .Z d.at_, .bool d.ty.b, .bool d.ty.s, .Z d.ty.w, .str d.on, .Z d.et, .bool d.no]:=rfl
   rw[iE]
   unfold un
   refine cx ⟨?_⟩
   generalize f9:bj X _ bX _=bZ
   have dZ:U X bZ bX=zw [.str d.name, .Z d.at_, .bool d.ty.b, .bool d.ty.s, .Z d.ty.w, .str d.on, .Z d.et, .bool d.no] 8:=by rw[<-f9,a7 Zo];rfl
   have c3:∀e,e<bX->U X bZ e=U X bM e:=λe B=>by rw[<-f9];exact zy
   clear f9
   refine⟨by rw[c3 _ Zo];exact atf, ?_⟩
   generalize jW:bj X bZ (dW+1) _=ci
   have d8:U X ci (dW+1)=some (mk .busy none):=by rw[<-jW,a7 Zo]
   have ft:∀e,e≠dW+1->U X ci e=U X bZ e:=λe B=>by rw[<-jW,aB Zo B]
   clear jW
   have sx:=hJ.aa (aM:=ci) (aZ:=bX+1) Zo Zo Zo (λe M R=>by rw[ft e R,c3 e M])
   rw[<-ft _ Zo]at dZ
   have uQ:U X ci dW=some (.deferred (some [])):=by rw[ft _ Zo,c3 _ Zo];exact vU
   have b3:aP X ci (.ptr j 0)=some (.ptr bO 0):=by rw[bc (show U X ci j=_ by rw[sx.low _ Zo Zo Zo];exact apQ)];rfl
   have cR:aP X ci (.ptr bO 2)=some b6:=by have:=sx.kh;unfold gs at this;rw[bc this];rfl
   have kE:∀S' aN,tf X bA dW bO (j+1+1) p z b6 df (sr t G (fa,d)) ca.1 S' aN->U X S' dW=some (.deferred (some []))->(D.bool true=D.bool true/\tf X bA dW bO (j+1+1) p z b6 df (sr t G (fa,d)) ca.1 (bj X S' (dW+1) (some (mk .ready none))) aN/\U X (bj X S' (dW+1) (some (mk .ready none))) dW=some (.deferred (some []))/\U X (bj X S' (dW+1) (some (mk .ready none))) (dW+1)=some (mk .ready none)):=λS' aN a R=>
    ⟨rfl,a.aa Zo Zo (Zj _) (λe M R=>aB Zo R),by rw[aB Zo Zo];exact R,a7 Zo⟩
   refine pN ⟨?_⟩
   refine gi ?_
   refine dI @b3 @cR (bc dZ) ⟨?_⟩
   refine eN (λdk=>U X dk (bX+1+10)=zw [.Z 0, .str [], .Z 0, .zF, .zF, .Z 0, .str [], .Z 0, .zF, .Z 0, .Z 0] 11/\ba X ci (bX+1) dk (bX+1+10+1)) ⟨by rw[a7 Zo];rfl,Zo,λe B=>zy⟩ ?_
   rintro dk ⟨fH,gK⟩
   refine(vV (j:=bX+1+13) (h:=dk) au Zo (be.aa (bu:=P) (λe B=>by have:=bq e B;rw[gK.aa e Zo,sx.low e Zo this.2 Zo,lm e B]) (λ_ a=>a)) (λe B=>zs (bq e B).1) d.on).Zm ?_
   rintro ac dt fc ⟨rfl,gT⟩
   have pc:=gT.le
   have lH:U X dt (bX+1+10)=zw [.Z 0, .str [], .Z 0, .zF, .zF, .Z 0, .str [], .Z 0, .zF, .Z 0, .Z 0] 11:=by rw[gT.aa _ Zo];exact fH
   generalize AR:(t d.on).getD ld=dX
   have nl:ky dX=[.Z dX.kind, .str dX.d.name, .Z dX.d.at_, .bool dX.d.ty.b, .bool dX.d.ty.s, .Z dX.d.ty.w, .str dX.d.on, .Z dX.d.et, .bool dX.d.no, .Z dX.eq, .Z dX.left]:=rfl
   rw[nl]
   refine ih ⟨?_⟩
   refine ih ⟨?_⟩
   refine f8 (iH (z:=11) (b:=bX+1+10) (W:=0) (n:=11) lH Zo rfl Zd Zd rfl) ?_
   generalize o8:bj X dt (bX+1+10) _=fR
   have kq:∀e,e<bX+1->U X fR e=U X ci e:=λe B=>by rw[<-o8,aB Zo Zo,gT.aa e Zo,gK.aa e B]
   clear o8 fH lH
   have qE:tf X bA dW bO (j+1+1) p z b6 df G ca.1 fR fc:=sx.aa Zo Zo Zo (λe M R=>kq e M)
   rw[<-kq _ Zo]at dZ d8 uQ
   have apT:aP X fR (.ptr j 0)=some (.ptr bO 0):=zD (kq _ Zo) b3
   cases tS:(t d.on)with
   |some aD0=>
    have qH:sr t G (fa,d)=G:=by unfold sr;rw[Zh (by simp[tS])]
    simp only[Z7]
    refine cx ⟨?_⟩
    rw[qH]at kE ⊢
    exact⟨⟨.busy,none,d8⟩,kE _ _ qE uQ⟩
   |none=>
    simp only[Z2]
    by_cases jX:d.on=[]
    ·have qH:sr t G (fa,d)=G:=by unfold sr;rw[Zh (by simp[jX])]
     have ay:decide (d.on≠[])=false:=by simp[jX]
     refine cI (bc dZ) @ay ⟨?_⟩
     rw[qH]at kE ⊢
     exact⟨⟨.busy,none,d8⟩,kE _ _ qE uQ⟩
    ·have qH:sr t G (fa,d)=nc G 23 d.et:=by unfold sr;rw[Zr ⟨tS,jX⟩]
     have ay:decide (d.on≠[])=true:=by simp[jX]
     refine dI (bc dZ) @ay @apT ⟨?_⟩
     refine(xC (h:=fR) au iD qE.kh 23 d.et).Zm ?_
     rintro ac mh sU ⟨rfl,UI,Vc,wq⟩
     refine cx ⟨?_⟩
     rw[qH]at kE ⊢
     have Lw:=qE.le
     exact⟨⟨.busy,none,by rw[wq _ Zo];exact d8⟩,kE _ _ ⟨Zo,UI,qE.seen.aa (wq _ Zo),λe M R ak=>by rw[wq e R];exact qE.low e M R ak⟩ (by rw[wq _ Zo];exact uQ)⟩
  ·intro bM bX hJ vU
   rw[Y0]at hJ
   generalize (gD g).foldl (sr t) ca.2=G at hJ ⊢
   have ik:=hJ.le
   have ata:U X bM dT=some (.deferred (some [])):=by rw[hJ.low _ Zo Zo Zo];exact KP
   show n0 X [] _ _ _ _ _
   simp only[AY,yB,BO]
   refine⟨by show(o X).a2<=dW;omega,vU, ?_⟩
   refine⟨by show(o X).a2<=dT;omega,by rw[aB Zo Zo];exact ata, ?_⟩
   show rS _ _ _ _ _
   refine⟨rfl, ?_,Zo,λe M R=> ?_⟩
   ·have:=hJ.kh
    unfold gs at*
    rw[aB Zo Zo,aB Zo Zo];exact this
   ·rw[aB Zo Zo,aB Zo Zo,hJ.low e Zo R Zo,c0.aa e Zo,gw.low e Zo R Zo,hv.aa e M]
end
end
end Go.Proofs.YtpeabpmnlmaabaaGreatDoor

