/- A part of the proof of the claim's last text: what it is used for is said there; no condition of its own. -/
import Derived.Test.YtpfajohmofnkfaaGreatDoorYd
set_option maxHeartbeats 8000000
set_option linter.unusedVariables false
set_option linter.unusedSimpArgs false
namespace Go.al
open Go.RowKit (Below)
section
variable{C:aX}{K c1:cY}{Z di:Nat->Prop}{h V:U an}{k av bg:Nat}{w bz:World}
theorem wd(n:Nat):∀l,l9 n l=l.contains n:=by
 intro l
 induction l with
 |nil=>rfl
 |cons I l ah=>simp only[l9,List.contains_cons,ah];congr 1;rw[ZY,YZ];exact⟨Zi,λa=>by rw[a];exact Y6 _⟩
theorem R4(seen:List Nat):∀a2:List (H×H×Nat),(a2.map (fo K)).filter (λE=> !seen.contains E.born)=(g2 seen a2).map (fo K):=by
 intro a2
 induction a2 with
 |nil=>rfl
 |cons E a2 ah=>
  have ai:(fo K E).born=E.2.2:=rfl
  simp only[Zy,Ym,g2, <-wd,ai]
  simp only[<-wd]at ah
  cases l9 E.2.2 seen<;>simp[ah]
theorem IR(seen:List Nat):∀(a2:List (H×H×Nat)) E,E∈g2 seen a2->E∈a2:=by
 intro a2
 induction a2 with
 |nil=>intro E a;simp[g2]at a
 |cons I a2 ah=>
  intro E a
  simp only[g2]at a
  cases bi:l9 I.2.2 seen<;>simp only[bi,eB,iF]at a
  ·rcases Zl.1 a with a|a
   ·simp[a]
   ·exact Zn _ (ah E a)
  ·exact Zn _ (ah E a)
theorem Uq(d4:Nat):∀a2:List (H×H×Nat),vn d4 a2=true->∀E∈a2,E.2.2<d4:=by
 intro a2
 induction a2 with
 |nil=>intro _ E a;simp at a
 |cons I a2 ah=>
  intro a E aW
  simp only[vn,Zk]at a
  rcases Zl.1 aW with rfl|aW
  ·exact kd a.1
  ·exact ah a.2 E aW
theorem Nl(d4:Nat):∀a2:List (H×H×Nat),se d4 a2=true->∃E∈a2,E.2.2<d4:=by
 intro a2
 induction a2 with
 |nil=>intro a;simp[se]at a
 |cons I a2 ah=>
  intro a
  simp only[se,YN]at a
  rcases a with a|a
  ·exact⟨I,Zs,kd a⟩
  ·obtain⟨E,aW,a⟩:=ah a;exact⟨E,by simp[aW],a⟩
theorem Np{bU:Array MapEntry}{a2:List (H×H×Nat)}(a:bU.toList=a2.map (fo K)):bU=(a2.map (fo K)).toArray:=by apply YM;simpa using a
theorem Im(S:cS C K Z h k bg w){cK r m d4 kM cw:Nat}{seen:List Nat}{a2:List (H×H×Nat)}{ty:TypeId}(ai:C.bj<=r)(aI:Z r)(bc:ab C h r=some (.hz (some m) d4 seen kM))
 (bi:ab C h m=some (.map a2 cw))(hm:vn d4 a2=true)(lZ:se kM a2=true)(dv:g2 seen a2≠[]):
 ∃E,E∈g2 seen a2/\∃bz,(Instr.next (.pointer (some ⟨(K r).cq,0,none⟩)) false ty).run C.P w= .ok (.tuple #[.bool true,aD K E.1,aD K E.2.1]) bz/\
  cS C K Z (bm C h r (some (.hz (some m) d4 (seen++[E.2.2]) cw))) k bg bz/\hS C cK K Z h bg w K Z (bm C h r (some (.hz (some m) d4 (seen++[E.2.2]) cw))) bz/\b0 Z E.1/\b0 Z E.2.1:=by
 obtain⟨hO,M,R⟩:=S.obj r _ bc aI
 have xn:=R m rfl
 obtain⟨bU,be,b2,a3,a4⟩:=rO S xn bi
 have xi:=Np a3
 have ab:(getObj (K r).cq).run C.P w= .ok (.mapIter (some (K m).cq) d4 seen.toArray kM) w:=by simp[getObj,Sem.run,M]
 have Hr:(bU.all λE=>decide (E.born>=kM))=false:=by
  obtain⟨E,aW,cR⟩:=Nl kM a2 lZ
  rw[xi,List.all_toArray]
  rw[List.all_eq_false]
  exact⟨fo K E,ZD.2 ⟨E,aW,rfl⟩,by simp[fo];omega⟩
 have Hl:(bU.filter λE=> !seen.toArray.contains E.born)=((g2 seen a2).map (fo K)).toArray:=by
  rw[xi,Y2]
  congr 1
  rw[<-R4]
  apply zr
  intro x _
  simp
 have Hs:((g2 seen a2).map (fo K)).toArray.filter (λE=>decide (E.born<d4))=((g2 seen a2).map (fo K)).toArray:=by
  rw[Y2]
  congr 1
  rw[List.filter_eq_self]
  intro x ag
  obtain⟨E,aW,rfl⟩:=ZD.1 ag
  simp only[Zh]
  exact Uq d4 a2 hm E (IR seen a2 E aW)
 have xt:((g2 seen a2).map (fo K)).toArray.filter (λE=>decide (E.born>=d4))= #[]:=by
  rw[Y2]
  have:((g2 seen a2).map (fo K)).filter (λE=>decide (E.born>=d4))=[]:=by
   rw[List.filter_eq_nil_iff]
   intro x ag
   obtain⟨E,aW,rfl⟩:=ZD.1 ag
   have:=Uq d4 a2 hm E (IR seen a2 E aW)
   simp[fo];omega
  rw[this]
 have alE:((g2 seen a2).map (fo K)).toArray.isEmpty=false:=by simpa using dv
 have fj:0<(g2 seen a2).length:=Y3.2 dv
 have key:∀(aa:Nat) (kr:World),aa<(g2 seen a2).length->kr.heap=w.heap->cS C K Z h k bg kr->Below bg w kr->(choose (.mapNext (g2 seen a2).length)).run C.P w= .ok aa kr->
  ∃E,E∈g2 seen a2/\∃bz,(Instr.next (.pointer (some ⟨(K r).cq,0,none⟩)) false ty).run C.P w= .ok (.tuple #[.bool true,aD K E.1,aD K E.2.1]) bz/\
   cS C K Z (bm C h r (some (.hz (some m) d4 (seen++[E.2.2]) cw))) k bg bz/\hS C cK K Z h bg w K Z (bm C h r (some (.hz (some m) d4 (seen++[E.2.2]) cw))) bz/\b0 Z E.1/\b0 Z E.2.1:=by
  intro aa kr bK alW rD BL KD
  have aW:=Zf bK
  have sO:(g2 seen a2)[aa]∈g2 seen a2:=List.getElem_mem bK
  have bV:=a4 _ (IR seen a2 _ sO)
  obtain⟨bz,bN,cg,cH⟩:=putObj rD (cK:=cK) (kY:= .hz (some m) d4 (seen++[(g2 seen a2)[aa].2.2]) cw) (o':= .mapIter (some (K m).cq) d4 (seen.toArray.push (g2 seen a2)[aa].2.2) cw) ai aI bc ⟨Zs,Zs⟩
   (by rw[alW];exact M) Zs (λbz pR=>⟨hO,by rw[pR];simp,λb ai=>R b ai⟩) ⟨λ_ _ _ a=>(by cases a),λ_ _ _ a=>(by cases a)⟩
  refine⟨(g2 seen a2)[aa],sO,bz, ?_,cg,⟨cH.hW,cH.iH,cH.new,cH.af,BL.trans cH.below⟩,bV.1,bV.2⟩
  have alq:(((g2 seen a2).map (fo K)).toArray++(#[]:Array MapEntry)).map some=((g2 seen a2).map (λE=>some (fo K E))).toArray:=by simp
  simp only[Instr.next,Sem.run_bind,ab,Result.andThen_ok,be,Hr,Bool.and_false,Zt,Zx,Hl,Hs,xt,alE]
  rw[Array.empty_append,alq]
  simp only[Yo,Zu,KD,Result.andThen_ok,YR,Zv,aW,ZT]
  have ali:(fo K (g2 seen a2)[aa]).born=(g2 seen a2)[aa].2.2:=rfl
  simp only[ali,Sem.run_bind,bN,Result.andThen_ok,Sem.run_pure]
  rfl
 by_cases mv:(g2 seen a2).length<=1
 ·refine key 0 w fj rfl S (Below.refl _ _) ?_
  simp[Question.forced,mv]
 ·refine key ((w.tape w.drawn (.mapNext (g2 seen a2).length))%(g2 seen a2).length) w.drew (zx _ fj) rfl S.drew (Below.drew (Below.refl _ _)) ?_
  simp[Question.forced,mv,Question.cut]
theorem Oh{r m d4 cw:Nat}{seen:List Nat}:∀(l:List (H×H×Nat)) E,E∈l->(H.tuple [.bool true,E.1,E.2.1],bm C h r (some (.hz (some m) d4 (seen++[E.2.2]) cw)))∈yM C h r m d4 cw seen l:=by
 intro l
 induction l with
 |nil=>intro E a;simp at a
 |cons I l ah=>
  intro E a
  obtain⟨B,v,b⟩:=I
  simp only[yM]
  rcases Zl.1 a with rfl|a
  ·exact Zq ..
  ·exact Zn _ (ah E a)
def A7(C:aX)(K:cY)(Z:Nat->Prop)(h:U an)(k bg:Nat)(w:World)(s:Sem Value)(res:dz):Prop:=match res with
 | .val v=>jm C K Z h k bg w s v h k
 | .eW v V av=>jm C K Z h k bg w s v V av
 | .fork l=>∃v V,(v,V)∈l/\jm C K Z h k bg w s v V k
 |_=>False
theorem ahB{r:Nat}{W:Option Nat->an}:∀(l:List (H×H×Nat)) E,E∈l->(H.tuple [.bool true,E.1,E.2.1],bm C h r (some (W (some E.2.2))))∈JD C h r W l:=by
 intro l
 induction l with
 |nil=>intro E a;simp at a
 |cons I l ah=>
  intro E a
  obtain⟨B,v,b⟩:=I
  simp only[JD]
  rcases Zl.1 a with rfl|a
  ·exact Zq ..
  ·exact Zn _ (ah E a)
theorem ahn:∀(a2:List (H×H×Nat)) (cN:List Nat),Dt a2 cN=true->cN=a2.map (·.2.2):=by
 intro a2
 induction a2 with
 |nil=>intro cN a;cases cN<;>simp[Dt]at a;rfl
 |cons E a2 ah=>
  intro cN a
  cases cN with
  |nil=>simp[Dt]at a
  |cons b cN=>
   simp only[Dt,Zk]at a
   rw[Zy, <-ah cN a.2,Zi a.1]
theorem acs(seen:List Nat):∀a2:List (H×H×Nat),((a2.map (·.2.2)).filter λb=> !seen.contains b).length=(g2 seen a2).length:=by
 intro a2
 induction a2 with
 |nil=>rfl
 |cons E a2 ah=>
  simp only[Zy,Ym,g2, <-wd]
  simp only[<-wd]at ah
  cases l9 E.2.2 seen<;>simp[ah]
theorem ai7{p ar:Nat->Bool}(a:∀x,ar x=true->p x=true):∀cN:List Nat,(cN.filter ar).length<=(cN.filter p).length:=by
 intro cN
 induction cN with
 |nil=>simp
 |cons I cN ah=>
  cases cf:ar I with
  |true=>simp[Ym,cf,a I cf];exact ah
  |false=>cases ax:p I<;>simp[Ym,cf,ax]<;>omega
theorem ai9{p ar:Nat->Bool}(a:∀x,ar x=true->p x=true){b:Nat}(ax:p b=true)(cf:ar b=false):∀cN:List Nat,b∈cN->(cN.filter ar).length<(cN.filter p).length:=by
 intro cN
 induction cN with
 |nil=>intro ai;cases ai
 |cons I cN ah=>
  intro ai
  by_cases E:I=b
  ·subst E
   have:=ai7 a cN
   simp[Ym,cf,ax];omega
  ·have hK:b∈cN:=by
    rcases Zl.1 ai with ar|ar
    ·exact absurd ar.symm E
    ·exact ar
   have:=ah hK
   cases Hy:ar I with
   |true=>simp[Ym,Hy,a I Hy];exact this
   |false=>cases y8:p I<;>simp[Ym,Hy,y8]<;>omega
theorem ai8{seen:List Nat}{b:Nat}(cN:List Nat)(ai:b∈cN)(aH:seen.contains b=false):(cN.filter λx=> !(seen++[b]).contains x).length<(cN.filter λx=> !seen.contains x).length:=by
 refine ai9 (p:=λx=> !seen.contains x) (ar:=λx=> !(seen++[b]).contains x) (λx ag=> ?_) (by rw[aH];rfl) Zs cN ai
 simp at ag ⊢
 exact ag.1
theorem atd(seen:List Nat):∀(a2:List (H×H×Nat)) E,E∈g2 seen a2->seen.contains E.2.2=false:=by
 intro a2
 induction a2 with
 |nil=>intro E a;simp[g2]at a
 |cons I a2 ah=>
  intro E a
  simp only[g2]at a
  cases bi:l9 I.2.2 seen<;>simp only[bi,eB,iF]at a
  ·rcases Zl.1 a with a|a
   ·rw[a, <-wd];exact bi
   ·exact ah E a
  ·exact ah E a
theorem cS.abN(S:cS C K Z h k bg w){b:Nat}{cJ kY:an}(ai:C.bj<=b)(aI:Z b)(gC:ab C h b=some cJ)(aG:C7 cJ)(iw:ab C V b=some kY)(BK:∀x,x≠b->ab C V x=ab C h x)(bc:jn C K Z kY (K b) w)(qw:tk C Z kY):cS C K Z V k bg w:=
 S.put ai aI gC iw (λx ag=> .inl (BK x ag)) (λ_ _=>rfl) (λx c6 dv ag dm e2=>by rw[BK x dv]at ag;exact S.alone ai aI gC aG x c6 dv ag dm e2) bc qw
theorem apJ(S:cS C K Z h k bg w){dY:Operand}{xI:Bool}{ty:TypeId}{aw:Operand->Value}{d5:Operand->Option H}{res:dz}(cn:iC K Z aw d5 [dY])(a:oR C dY xI h k d5=some res):
 A7 C K Z h k bg w (Instr.next (aw dY) xI ty) res:=by
 unfold oR at a
 split at a
 ·rename_i r ag
  obtain⟨E,iK⟩:=cn dY Zs _ ag
  simp only[d9]at a
  obtain⟨Hb,a⟩:=a
  have ai:C.bj<=r:=iT Hb
  rw[E]
  split at a
  ·rename_i s pos bc
   obtain⟨hO,M,R⟩:=S.obj r _ bc iK
   have ab:(getObj (K r).cq).run C.P w= .ok (.stringIter (fd s) pos) w:=by simp[getObj,Sem.run,M]
   have eg:(fd s).size=s.length:=by simp[fd,ByteArray.size]
   rw[fB]at a
   split at a
   ·rename_i ax
    have ax:=kd ax
    rw[m5]at a
    split at a
    ·rename_i c ay
     simp only[d9]at a
     obtain⟨O5,a⟩:=a
     have O5:=kd O5
     obtain⟨rfl,_⟩:=x4 a
     obtain⟨bz,bN,cg,cH⟩:=putObj S (cK:=k) (kY:= .nJ s (pos+1)) (o':= .stringIter (fd s) (pos+1)) ai iK bc ⟨Zs,Zs⟩ M Zs (λbz pR=>⟨hO,pR,R⟩) ⟨λ_ _ _ a=>(by cases a),λ_ _ _ a=>(by cases a)⟩
     refine⟨K,Z,bz, ?_,⟨trivial,trivial,trivial,trivial⟩,cg,cH,Zj _⟩
     have cR:pos<(fd s).size:=by rw[eg];exact ax
     have WM:((fd s)[pos]'cR).toNat=c:=by
      show((fd s).data[pos]).toNat=c
      have aH:s[pos]=c:=by
       rw[Zf ax]at ay
       exact Yi ay
      simp[fd,aH];omega
     have KG:=decode_ascii (fd s) pos cR (by rw[WM];exact O5)
     rw[WM]at KG
     simp[Instr.next,aD,bI,hO,ab,eg,ax,KG,bN,goInt]
    ·simp at a
   ·rename_i ax
    have ax:¬pos<s.length:=λar=>ax (by simp[Nat.blt];omega)
    simp at a;subst a
    refine jm.same S ?_ ⟨trivial,trivial⟩
    simp[Instr.next,aD,bI,hO,ab,eg,ax]
  ·rename_i d4 seen kM bc
   obtain⟨hO,M,R⟩:=S.obj r _ bc iK
   have ab:(getObj (K r).cq).run C.P w= .ok (.mapIter none d4 seen.toArray kM) w:=by simp[getObj,Sem.run,M]
   simp at a;subst a
   refine jm.same S ?_ ⟨trivial,trivial⟩
   simp[Instr.next,aD,bI,hO,ab]
  ·rename_i m d4 seen kM bc
   have gC:=S.obj r _ bc iK
   obtain⟨hO,M,R⟩:=gC
   split at a
   ·rename_i a2 cw bi
    split at a
    ·
     rename_i pQ
     simp only[d9,YN,Ze]at a
     obtain⟨hm,lZ,rfl⟩:=a
     obtain⟨bU,be,b2,a3,a4⟩:=rO S (R m rfl) bi
     have xi:=Np a3
     have ab:(getObj (K r).cq).run C.P w= .ok (.mapIter (some (K m).cq) d4 seen.toArray kM) w:=by simp[getObj,Sem.run,M]
     have Hl:(bU.filter λE=> !seen.toArray.contains E.born)= #[]:=by
      rw[xi,Y2]
      have:=R4 (K:=K) seen a2
      rw[pQ]at this
      congr 1
      rw[zw]at this
      rw[<-this]
      apply zr
      intro x _
      simp
     have Hr:(!seen.toArray.isEmpty&& !bU.isEmpty&&bU.all λE=>decide (E.born>=kM))=false:=by
      rcases lZ with (lZ|lZ)|lZ
      ·obtain⟨E,aW,cR⟩:=Nl kM a2 lZ
       have:(bU.all λE=>decide (E.born>=kM))=false:=by
        rw[xi,List.all_toArray,List.all_eq_false]
        exact⟨fo K E,ZD.2 ⟨E,aW,rfl⟩,by simp[fo];omega⟩
       rw[this];simp
      ·have:seen=[]:=by simpa using lZ
       simp[this]
      ·have:a2=[]:=by simpa using lZ
       simp[xi,this]
     refine jm.same S ?_ ⟨trivial,trivial⟩
     simp only[aD,bI,hO,ZH,Instr.next,Sem.run_bind,ab,Result.andThen_ok,be,Hr,Zt,Zx,Hl]
     simp[Question.forced]
    ·rename_i B v b pQ
     simp only[d9,Zk]at a
     obtain⟨⟨hm,lZ⟩,a⟩:=a
     obtain⟨rfl,_⟩:=x4 a
     obtain⟨E,aW,bz,bN,cg,cH,b9,b3⟩:=Im S (cK:=k) (ty:=ty) ai iK bc bi hm lZ (by rw[pQ];simp)
     rw[pQ]at aW
     have:E=(B,v,b):=by simpa using aW
     subst this
     refine⟨K,Z,bz, ?_,⟨trivial,b9,b3,trivial⟩,cg,cH,Zj _⟩
     simp only[aD,bI,hO,ZH]
     exact bN
    ·rename_i l pJ ns
     simp only[d9,Zk,Ze]at a
     obtain⟨⟨hm,lZ⟩,rfl⟩:=a
     obtain⟨E,aW,bz,bN,cg,cH,b9,b3⟩:=Im S (cK:=k) (ty:=ty) ai iK bc bi hm lZ pJ
     refine⟨_,_,Oh _ E aW,K,Z,bz, ?_,⟨trivial,b9,b3,trivial⟩,cg,cH,Zj _⟩
     simp only[aD,bI,hO,ZH]
     exact bN
   ·simp at a
  ·rename_i m d4 n cN st lb bc
   obtain⟨hO,xn,seen,M,R,_⟩:=S.obj r _ bc iK
   split at a
   ·rename_i a2 cw bi
    simp only[d9,Zk]at a
    obtain⟨⟨⟨xl,cV⟩,hm,lZ⟩,a⟩:=a
    have cV:=Zi cV
    subst cV
    have xl:=ahn a2 cN xl
    subst xl
    rw[acs]at R
    have ami:m≠r:=λE=>by rw[E,bc]at bi;cases bi
    have xh:∀c,C7 (.uD m d4 n (a2.map (·.2.2)) st c):=λc=>⟨Zs,Zs⟩
    have my:ab C (bm C h r (some (.hz (some m) d4 seen st))) r=some (.hz (some m) d4 seen st):=by rw[e3 _ ai,Zr rfl]
    have ii:∀x,x≠r->ab C (bm C h r (some (.hz (some m) d4 seen st))) x=ab C h x:=λx ag=>by rw[e3 _ ai,Zg ag]
    have amQ:cS C K Z (bm C h r (some (.hz (some m) d4 seen st))) k bg w:=
     S.abN ai iK bc (xh _) my ii ⟨hO,by rw[M];rfl,λb ai=>by cases ai;exact xn⟩ ⟨λ_ _ _ a=>(by cases a),λ_ _ _ a=>(by cases a)⟩
    have XG:g2 seen a2=[]->jm C K Z h k bg w (Instr.next (aD K (.ptr r 0)) false ty) (.tuple [.bool false]) h k:=by
     intro pQ
     obtain⟨bU,be,b2,a3,a4⟩:=rO S xn bi
     have xi:=Np a3
     have ab:(getObj (K r).cq).run C.P w= .ok (.mapIter (some (K m).cq) d4 seen.toArray st) w:=by simp[getObj,Sem.run,M]
     have Hl:(bU.filter λE=> !seen.toArray.contains E.born)= #[]:=by
      rw[xi,Y2]
      have:=R4 (K:=K) seen a2
      rw[pQ]at this
      congr 1
      rw[zw]at this
      rw[<-this]
      apply zr
      intro x _
      simp
     have Hr:(!seen.toArray.isEmpty&& !bU.isEmpty&&bU.all λE=>decide (E.born>=st))=false:=by
      obtain⟨E,aW,cR⟩:=Nl st a2 lZ
      have:(bU.all λE=>decide (E.born>=st))=false:=by
       rw[xi,List.all_toArray,List.all_eq_false]
       exact⟨fo K E,ZD.2 ⟨E,aW,rfl⟩,by simp[fo];omega⟩
      rw[this];simp
     refine jm.same S ?_ ⟨trivial,trivial⟩
     simp only[aD,bI,hO,ZH,Instr.next,Sem.run_bind,ab,Result.andThen_ok,be,Hr,Zt,Zx,Hl]
     simp[Question.forced]
    split at a
    ·simp at a;subst a
     exact XG (Y4.1 Zo)
    ·rename_i n
     simp at a;subst a
     by_cases pQ:g2 seen a2=[]
     ·exact⟨_,_,Zq ..,XG pQ⟩
     ·obtain⟨E,aW,bz,bN,cg,cH,b9,b3⟩:=Im amQ (cK:=k) (ty:=ty) ai iK my (by rw[ii m ami];exact bi) hm lZ pQ
      refine⟨_,_,Zn _ (ahB a2 E (IR seen a2 E aW)),K,Z,bz, ?_,⟨trivial,b9,b3,trivial⟩, ?_, ?_,Zj _⟩
      ·simp only[aD,bI,hO,ZH]
       exact bN
      ·have j5:ab C (bm C (bm C h r (some (.hz (some m) d4 seen st))) r (some (.hz (some m) d4 (seen++[E.2.2]) st))) r=some (.hz (some m) d4 (seen++[E.2.2]) st):=by rw[e3 _ ai,Zr rfl]
       obtain⟨cb,b1,dT⟩:=cg.obj r _ j5 iK
       refine cg.abN (kY:= .uD m d4 n (a2.map (·.2.2)) st (some E.2.2)) ai iK j5 ⟨Zs,Zs⟩ (by rw[e3 _ ai,Zr rfl]) (λx ag=>by rw[e3 _ ai,Zg ag,e3 _ ai,Zg ag,ii x ag]) ⟨cb,xn,seen++[E.2.2],by rw[b1];rfl, ?_,λb ai=>by cases ai;rw[Qz];simp⟩ ⟨λ_ _ _ a=>(by cases a),λ_ _ _ a=>(by cases a)⟩
       have cR:=ai8 (seen:=seen) (b:=E.2.2) (a2.map (·.2.2)) (ZD.2 ⟨E,IR seen a2 E aW,rfl⟩) (atd seen a2 E aW)
       rw[acs seen]at cR
       exact Nat.le_of_lt_succ (ZI cR R)
      ·refine⟨cH.hW,cH.iH,cH.new,λx ag aE=> ?_,cH.below⟩
       have dv:x≠r:=λar=>ag (ar▸iK)
       rw[e3 _ ai,Zg dv]
   ·simp at a
  ·simp at a
 ·simp at a
end
end Go.al

namespace Go.al
open Go.RowKit (Below)
section
variable{C:aX}{K c1:cY}{Z di:Nat->Prop}{h V:U an}{k av bg:Nat}{w bz:World}
theorem ajY(t:U H):∀(n W:Nat) (l:List H),l.length=n->(∀i,i<n->t.get (W+i)=l[i]?)->t.jL W n=some l:=by
 intro n
 induction n with
 |zero=>intro W l a _;cases l with
  |nil=>rfl
  |cons _ _=>simp at a
 |succ n ah=>
  intro W l a bV
  cases l with
  |nil=>simp at a
  |cons I l=>
   have ci:=bV 0 Zo
   simp at ci
   have:=ah (W+1) l (by simpa using a) (λi aN=>by
    have:=bV (i+1) Zo
    rw[show W+1+i=W+(i+1) by omega,this];simp)
   simp[U.jL,ci,this]
theorem UU{b W n m:Nat}{l:List H}(a:k9 C h b W n=some l)(bi:m<=n):k9 C h b W m=some (l.take m):=by
 unfold k9 at a ⊢
 split at a
 ·rename_i c ay
  show U.jL _ W m=_
  obtain⟨M,R⟩:=U.Kc _ _ _ _ a
  refine ajY c m W _ (by simp;omega) λi aN=> ?_
  rw[R i Zo,YI aN]
 ·simp only[d9,Ze]at a
  have aS:n=0:=Zi a.1
  have:m=0:=Zo
  subst this
  simp[bC]
theorem VJ(S:cS C K Z h k bg w){x:H}{bd n m:Nat}{l:List H}(ek:b0 Z x)(a:jR C h bd x=some (n,l))(bi:m<=n):
 (Builtin.lenOf (aD K x)).run C.P w= .ok n w/\(Builtin.firstCells bd m (aD K x)).run C.P w= .ok (bI K (l.take (m*bd))).toArray w/\dW Z (l.take (m*bd)):=by
 unfold jR at a
 split at a
 ·simp at a;obtain⟨rfl,rfl⟩:=a
  simp[aD,Builtin.lenOf,Builtin.firstCells,bI,dW]
 ·rename_i b W len cap
  split at a
  ·rename_i cd aE
   simp at a;obtain⟨rfl,rfl⟩:=a
   obtain⟨M,R⟩:=yy S ek (UU aE (Nat.mul_le_mul_right bd bi))
   refine⟨?_, ?_,R⟩<;>simp[aD,Builtin.lenOf,Builtin.firstCells,M]
  ·simp at a
 ·rename_i b W len cap
  split at a
  ·rename_i cd aE
   simp at a;obtain⟨rfl,rfl⟩:=a
   obtain⟨M,R⟩:=yy S ek (UU aE (Nat.mul_le_mul_right bd bi))
   refine⟨?_, ?_,R⟩<;>simp[aD,Builtin.lenOf,Builtin.firstCells,M]
  ·simp at a
 ·rename_i s
  simp only[d9]at a
  obtain⟨M,a⟩:=a
  have M:bd=1:=Zi M
  subst M
  simp at a;obtain⟨rfl,rfl⟩:=a
  have eg:(fd s).size=s.length:=by simp[fd,ByteArray.size]
  have ake:∀x∈s.take m,x<256:=λx ag=>ek x (YL ag)
  have aW:(fd s).extract 0 m=fd (s.take m):=by
   apply ByteArray.ext
   rw[ByteArray.data_extract]
   apply YM
   simp[fd]
  have ay:=RJ K (s.take m) ake
  refine⟨by simp[aD,Builtin.lenOf,eg], ?_, ?_⟩
  ·simp only[aD,Builtin.firstCells,aW,Sem.run_pure]
   rw[ay]
   simp[List.map_take]
  ·rw[sx]
   intro v bu
   have:=YL bu
   obtain⟨j,_,rfl⟩:=ZD.1 this
   trivial
 ·simp at a
theorem ahK(S:cS C K Z h k bg w){st:Nat}{d x:H}{res:dz}{cM:Array TypeId}{ty:TypeId}(ci:cM[0]? =some st)(iK:b0 Z d)(ek:b0 Z x)(a:Jh C h k st d x=some res):
 A7 C K Z h k bg w (Builtin.copy_ cM ty #[aD K d,aD K x]) res:=by
 unfold Jh at a
 split at a
 ·rename_i dE aZ
  split at a
  ·rename_i bd eg
   split at a
   ·rename_i n l iX
    have HR:∀(b W len cap:Nat),Z b->JE C h k b W (min n len) (l.take (min n len*bd))=some res->
     A7 C K Z h k bg w (Builtin.copy_ cM ty #[.slice (some ⟨(K b).cq,(K b).dJ+W,none⟩) len cap,aD K x]) res:=by
     intro b W len cap ai ay
     obtain⟨M,R,au⟩:=VJ (m:=min n len) S ek iX (Nat.min_le_left _ _)
     have vZ:Nat.min n len=min n len:=rfl
     unfold JE at ay
     rw[gX]at ay
     split at ay
     ·rename_i bi
      simp at ay;subst ay
      refine jm.same S ?_ trivial
      rw[bi]at R
      simp[Builtin.copy_,ci,run_underlying aZ,M,vZ,bi,mG eg,R,bI,storeCells,goInt,aD]
     ·split at ay
      ·rename_i V bL
       simp at ay;subst ay
       obtain⟨bz,bN,cg,cH⟩:=F0 S (cK:=k) ai au bL
       refine⟨K,Z,bz, ?_,trivial,cg,cH,Zj _⟩
       have aob:(storeCells ⟨(K b).cq,(K b).dJ+W,none⟩ (bI K (l.take (min n len*bd))).toArray.toList).run C.P w= .ok () bz:=bN
       simp only[Builtin.copy_,ci,YR,ZP,ZF,Sem.run_bind,run_underlying aZ,Result.andThen_ok,M,vZ,mG eg,R,aob,Sem.run_pure,goInt,aD]
      ·simp at ay
    split at a
    ·simp at a;subst a
     obtain⟨M,R,au⟩:=VJ (m:=0) S ek iX (ze _)
     refine jm.same S ?_ trivial
     have vZ:Nat.min n 0=0:=Nat.min_zero n
     simp only[zj,Yq]at R
     simp[Builtin.copy_,ci,run_underlying aZ,M,vZ,mG eg,R,bI,goInt,aD]
    ·exact HR _ _ _ _ iK a
    ·exact HR _ _ _ _ iK a
    ·simp at a
   ·simp at a
  ·simp at a
 ·simp at a
theorem ahE(S:cS C K Z h k bg w){t:Nat}{x:H}{res:dz}{cM:Array TypeId}{ty:TypeId}(ci:cM[0]? =some t)(ek:b0 Z x)(a:Jg C h k t x=some res):
 A7 C K Z h k bg w (Builtin.clear_ cM ty #[aD K x]) res:=by
 unfold Jg at a
 split at a
 ·rename_i dE aZ
  split at a
  ·rename_i bd bl eg cj
   obtain⟨fI,fs⟩:=x1 cj K Z w
   simp only[d9]at a
   obtain⟨fj,a⟩:=a
   have HR:∀(b W len cap:Nat),Z b->bC (Nat.beq len 0) (some (dz.val (.tuple []))) (match q7 C h b W (jG len bl.cells)with|some h=>some (.eW (.tuple []) h k)|none=>none)=some res->
    A7 C K Z h k bg w (Builtin.clear_ cM ty #[.slice (some ⟨(K b).cq,(K b).dJ+W,none⟩) len cap]) res:=by
    intro b W len cap ai ay
    rw[gX]at ay
    split at ay
    ·rename_i aE
     subst aE
     simp at ay;subst ay
     refine jm.same S ?_ trivial
     simp[Builtin.clear_,ci,run_underlying aZ,aD,bI]
    ·rename_i aE
     obtain⟨len,rfl⟩:∃B,len=B+1:=⟨len-1,Zo⟩
     split at ay
     ·rename_i V bL
      simp at ay;subst ay
      obtain⟨bz,bN,cg,cH⟩:=F0 S (cK:=k) ai (Kg (sn fs) _) bL
      refine⟨K,Z,bz, ?_,trivial,cg,cH,Zj _⟩
      have anG:=acM K bl (len+1)
      simp[Builtin.clear_,ci,run_underlying aZ,aD,bI,fI,anG,bN]
     ·simp at ay
   split at a
   ·simp at a;subst a
    refine jm.same S ?_ trivial
    simp[Builtin.clear_,ci,run_underlying aZ,aD,bI]
   ·exact HR _ _ _ _ ek a
   ·exact HR _ _ _ _ ek a
   ·simp at a
  ·simp at a
 ·simp at a
theorem ajw(w:World)(bU:Array Value)(E:TypeId)(n:Nat):(w.alloc (.cells bU E)).freeze ⟨w.heap.size,n,none⟩ 1=w.alloc (.cells bU E (n,n+1)):=by
 unfold World.freeze
 rw[Zg Zd]
 show({w with heap:=(w.heap.push (.cells bU E)).modify w.heap.size _}:World)={w with heap:=w.heap.push (.cells bU E (n,n+1))}
 congr 1
 apply Array.ext_getElem?
 intro B
 rw[Y8,Array.getElem?_push,Array.getElem?_push]
 by_cases aP:w.heap.size=B
 ·subst aP;simp
 ·rw[Zg aP,Zg (λE=>aP E.symm),Zg (λE=>aP E.symm)]
theorem ajv{p:Nat}{bU:Array Value}{ty:TypeId}{bP aN:Nat}(a:w.heap[p]? =some (.cells bU ty (bP,aN)))(n:Nat):
 (w.freeze ⟨p,n,none⟩ 1).heap[p]? =some (.cells bU ty (if bP==aN then(n,n+1)else(min bP n,max aN (n+1))))/\(∀B,B≠p->(w.freeze ⟨p,n,none⟩ 1).heap[B]? =w.heap[B]?):=by
 unfold World.freeze
 rw[Zg Zd]
 constructor
 ·simp only[Y8,ZB,a,ZT]
 ·intro B aP
  simp only[Y8]
  rw[Zg (λE=>aP E.symm)]
theorem asS(S:cS C K Z h k bg w)(eP:bg<=w.heap.size){s d:Nat}{x:Operand}{aw:Operand->Value}{d5:Operand->Option H}{res:dz}(cn:iC K Z aw d5 [x])(a:GZ C s d x h k d5=some res):
 A7 C K Z h k bg w (convert s d (aw x)) res:=by
 unfold GZ at a
 split at a
 ·rename_i E l aH aI ag
  obtain⟨ex,g⟩:=cn x Zs _ ag
  split at a
  ·rename_i aW
   obtain⟨fX,rfl⟩:=V9 a
   rw[ex]
   have eg:(fd l).size=l.length:=by simp[fd,ByteArray.size]
   have avr:(fd l).data.size=l.length:=by simp[fd]
   have ay:=RJ K l g
   have ajR:dW Z (l.map λn=>H.int .u8 (Int.ofNat n)):=by
    rw[sx];intro v bu;obtain⟨j,_,rfl⟩:=ZD.1 bu;trivial
   obtain⟨cap,l0,yZ⟩:∃cap,l.length<=cap/\(choose (.appendCap l.length 0 E)).run C.P w= .ok cap w.drew:=
    ⟨l.length+(w.tape w.drawn (.appendCap l.length 0 E))%(2^63-l.length),Zo,by simp[Question.forced,Question.cut]⟩
   have Lh:(l.map λn=>H.int .u8 (Int.ofNat n)).length+(Array.replicate (cap-l.length) (Value.int .u8 0)).size=cap*1:=by simp;omega
   have G7:=Wc (C:=C) (K:=K) (w:=w) (k:=k) ajR (qJ S) Lh E []
   have xt:jn C (f0 K k ⟨w.heap.size,0,cap*1⟩) (add Z k) (.cells (U.ofList (l.map λn=>H.int .u8 (Int.ofNat n)) 0 .nil) (l.map λn=>H.int .u8 (Int.ofNat n)).length (.grow [])) ⟨w.heap.size,0,cap*1⟩
    (w.drew.alloc (.cells ((bI K (l.map λn=>H.int .u8 (Int.ofNat n))).toArray++Array.replicate (cap-l.length) (Value.int .u8 0)) E (cap,cap+1))):=by
    obtain⟨bU,ty,bP,aN,dr,eu,eI,jZ⟩:=G7
    have UB:=tV w.drew (.cells ((bI K (l.map λn=>H.int .u8 (Int.ofNat n))).toArray++Array.replicate (cap-l.length) (Value.int .u8 0)) E)
    have anj:w.drew.heap.size=w.heap.size:=rfl
    rw[anj]at UB
    rw[UB]at dr
    cases dr
    refine⟨_,E,cap,cap+1,tV w.drew _,⟨.inr ?_,eu.2.1,eu.2.2⟩,eI,jZ⟩
    simp[jr];omega
   refine⟨f0 K k ⟨w.heap.size,0,cap*1⟩,add Z k,_, ?_, .inr rfl,S.drew.alloc S.bj (YE _) (Yc _) (qJ S) eP rfl (by rw[e3 _ S.bj,Zr rfl]) (λx ag=> .inl (by rw[e3 _ S.bj,Zg ag])) xt
    ⟨λ_ _ _ a=>(by cases a;simp),λ_ _ _ a=>(by cases a;exact E3)⟩,N7 S eP _ (λx ag _=>by rw[e3 _ S.bj,Zg ag]),Yc _⟩
   have anb:((bI K (l.map λn=>H.int .u8 (Int.ofNat n))).toArray++Array.replicate (cap-l.length) (Value.int .u8 0)).size=cap:=by simp[jr];omega
   have tX:=ajw w.drew ((bI K (l.map λn=>H.int .u8 (Int.ofNat n))).toArray++Array.replicate (cap-l.length) (Value.int .u8 0)) E cap
   have Pl:w.drew.heap.size=w.heap.size:=rfl
   rw[Pl]at tX
   have P0:(w.drew.alloc (.cells ((bI K (l.map λn=>H.int .u8 (Int.ofNat n))).toArray++Array.replicate (cap-l.length) (Value.int .u8 0)) E)).shape? w.heap.size=some (E,cap):=by
    have:=tV w.drew (.cells ((bI K (l.map λn=>H.int .u8 (Int.ofNat n))).toArray++Array.replicate (cap-l.length) (Value.int .u8 0)) E)
    rw[Pl]at this
    simp only[World.shape?,this,anb]
   simp only[convert,Sem.run_bind,run_underlying aH,run_underlying aI,run_underlying aW,Result.andThen_ok,aD,Conv.stringToBytes,eg,yZ,ay,newRow,run_newObj_alloc,Pl,Sem.run_pure,markStringish,run_shape,P0,run_freeze,tX,
    kP,ZH,YH,Yd,Nat.div_one]
  ·simp at a
 ·rename_i ss E b W len cap aH aI ag
  obtain⟨ex,g⟩:=cn x Zs _ ag
  split at a
  ·rename_i aW
   simp only[d9,Zk]at a
   obtain⟨⟨PZ,Hb⟩,a⟩:=a
   have PZ:s=d:=Zi PZ
   subst PZ
   have ai:C.bj<=b:=iT Hb
   rw[ex]
   have fin:∀(c:U H) (n:Nat) (st:oG),ab C h b=some (.cells c n st)->(st= .own\/st= .marked)->∀V,ab C V b=some (.cells c n .marked)->(∀x,x≠b->ab C V x=ab C h x)->
    jm C K Z h k bg w (convert s s (aD K (.slice b W len cap))) (.slice b W len cap) V k:=by
    intro c n st bc cV V f9 dI
    obtain⟨bU,ty,bP,aN,be,b2,a3,a4⟩:=S.obj b _ bc g
    have xh:C7 (.cells c n st):=by rcases cV with rfl|rfl<;>exact⟨Zs,Zs⟩
    have D4:bP=aN\/bU.size<=bP:=by rcases cV with rfl|rfl;exact .inl b2;exact b2
    obtain⟨ez,eT⟩:=ajv be bU.size
    have yX:=S.base b _ ai bc g
    have Hp:∃qE kB,(if bP==aN then(bU.size,bU.size+1)else(min bP bU.size,max aN (bU.size+1)))=(qE,kB)/\bU.size<=qE:=by
     by_cases ar:bP=aN
     ·exact⟨_,_,by rw[Zr (by simpa using ar)],Zj _⟩
     ·refine⟨_,_,by rw[Zg (by simpa using ar)], ?_⟩
      have:=D4.resolve_left ar
      omega
    obtain⟨qE,kB,bF,cB⟩:=Hp
    rw[bF]at ez
    refine⟨K,Z,w.freeze ⟨(K b).cq,bU.size,none⟩ 1, ?_,g,S.put ai g bc f9 (λx ag=> .inl (dI x ag)) (λB aP=>eT B aP) ?_ ⟨bU,ty,qE,kB,ez, .inr cB,a3,a4⟩ ⟨λ_ _ _ a=>(by cases a),λ_ _ _ a=>(by cases a;exact(S.fb b _ bc g).2 _ _ _ rfl)⟩, ?_,Zj _⟩
    ·have P0:w.shape? (K b).cq=some (ty,bU.size):=Rq be
     have alf:(s==s)=true:=by simp
     simp only[convert,Sem.run_bind,run_underlying aH,Result.andThen_ok,aD]
     rw[aH]at aI
     cases aI
     simp only[alf,run_underlying aW,Sem.run_bind,Result.andThen_ok,markStringish,run_shape,P0,run_freeze,Sem.run_pure]
    ·intro x c6 dv ag dm e2
     rw[dI x dv]at ag
     exact S.alone ai g bc xh x c6 dv ag dm e2
    ·refine⟨λ_ _=>rfl,λ_ a=>a,λ_ a=> .inl a,λx ag _=>dI x (λE=>ag (by rw[E];exact g)), ?_⟩
     refine⟨?_, ?_, ?_, ?_,λB aP=>eT B Zo⟩<;>simp[World.freeze]
   split at a
   ·rename_i c n bc
    simp only[gK,Ze]at a
    subst a
    exact fin c n .own bc (.inl rfl) _ (by rw[e3 _ ai,Zr rfl]) (λx ag=>by rw[e3 _ ai,Zg ag])
   ·rename_i c n bc
    simp only[Ze]at a
    subst a
    exact fin c n .marked bc (.inr rfl) h bc (λ_ _=>rfl)
   ·simp at a
  ·simp at a
 ·simp at a
end
end Go.al

namespace Go.al
open Go.RowKit (Below)
def hr(C:aX)(K:cY)(Z:Nat->Prop)(h:U an)(k bg:Nat)(w:World)(s:Sem Next)(res:dz):Prop:=match res with
 | .val v=>yi C K Z h k bg w s v h k
 | .eW v V av=>yi C K Z h k bg w s v V av
 | .fork l=>∃v V,(v,V)∈l/\yi C K Z h k bg w s v V k
 | .enter f args=>s.run C.P w= .ok (.enter f (bI K args).toArray) w/\dW Z args
 | .known f args v=>C.hf f args=some v/\s.run C.P w=(callFunc f (bI K args).toArray).run C.P w/\dW Z args
 | .round l args=>s.run C.P w=(Instr.yield (K l).cq (bI K args).toArray).run C.P w/\dW Z args/\Z l
 | .defer d=>s.run C.P w= .ok (.defer (k7 K d)) w/\vA Z d
 | .recover=>s.run C.P w= .ok .recover w
 | .panic v=>s.run C.P w= .halt (.panic (aD K v)) w/\b0 Z v
section
variable{C:aX}{K c1:cY}{Z di:Nat->Prop}{h V:U an}{k av bg:Nat}{w bz:World}
theorem hr.one{s:Sem Value}{res:dz}(a:A7 C K Z h k bg w s res):hr C K Z h k bg w (do pure (.value (<-s))) res:=by
 cases res with
 |val v=>exact jm.done a
 |eW v V av=>exact jm.done a
 |fork l=>obtain⟨v,V,M,R⟩:=a;exact⟨v,V,M,R.done⟩
 |_=>exact a.elim
theorem hr.eW{s:Sem Value}{res:dz}(a:∃v V av,res= .eW v V av/\jm C K Z h k bg w s v V av):hr C K Z h k bg w (do pure (.value (<-s))) res:=by
 obtain⟨v,V,av,rfl,a⟩:=a
 exact a.done
theorem hr.app(S:cS C K Z h k bg w){s:Sem Value}{res:dz}(a:MQ C K Z h k bg w s res):hr C K Z h k bg w (do pure (.value (<-s))) res:=by
 rcases a with ⟨v,V,av,rfl,c1,di,bz,M,R,au,aM,bA⟩|⟨v,rfl,M,R⟩
 ·exact jm.done ⟨c1,di,bz,M,R,au,aM,bA⟩
 ·exact jm.done (.same S R M)
theorem hr.unit{s:Sem Unit}{res:dz}(a:∃V bz,res= .eW undef V k/\s.run C.P w= .ok () bz/\cS C K Z V k bg bz/\hS C k K Z h bg w K Z V bz):
 hr C K Z h k bg w (do s;pure .skip) res:=by
 obtain⟨V,bz,rfl,M,R,au⟩:=a
 exact⟨K,Z,bz, .skip,by simp[M], .inr ⟨rfl,rfl⟩,by trivial,R,au,Zj _⟩
theorem hr.congr{s fZ:Sem Next}{res:dz}(a:s.run C.P w=fZ.run C.P w)(B:hr C K Z h k bg w fZ res):hr C K Z h k bg w s res:=by
 cases res<;>simp only[hr,yi]at B ⊢ <;>rw[a]<;>exact B
theorem NC(j9:wI C.P){f:Nat}{args:List H}{res:dz}(g:dW Z args)(a:q6 C f args=some res):hr C K Z h k bg w (callFunc f (bI K args).toArray) res:=by
 unfold q6 at a
 split at a
 ·rename_i v bu
  simp at a;subst a
  exact⟨bu,rfl,g⟩
 ·split at a
  ·rename_i fn b5
   split at a
   ·rename_i c ai
    simp at a;subst a
    refine⟨?_,g⟩
    have aS:fn.name≠ "runtime.NumGoroutine":=by simpa using j9.num f fn b5 (by simp[ai])
    simp[callFunc,b5,aS,ai]
   ·simp at a
  ·simp at a
theorem υ(j9:wI C.P){fn:Fn}{fl args:List H}{res:dz}(aj0:Kf Z fn)(VV:dW Z fl)(jb:dW Z args)(a:yr C fn fl args=some res):
 hr C K Z h k bg w (invoke (.fn (mm K fn) (bI K fl).toArray) (bI K args).toArray) res:=by
 unfold yr at a
 split at a
 ·rename_i f
  have E:invoke (.fn (mm K (.func f)) (bI K fl).toArray) (bI K args).toArray=callFunc f (bI K (args++fl)).toArray:=by
   simp[invoke,mm,Bn]
  rw[E]
  exact NC j9 (yP jb VV) a
 ·rename_i l
  simp at a;subst a
  exact⟨rfl,jb,aj0⟩
 ·simp at a
theorem aps(S:cS C K Z h k bg w)(j9:wI C.P){t:Nat}{v:H}{name:String}{args:List H}{res:dz}(fi:b0 Z v)(jb:dW Z args)(a:Dj C h t v name args=some res):
 hr C K Z h k bg w (callMethod (.iface t (aD K v)) name (bI K args).toArray) res:=by
 obtain⟨B,aP⟩:∃B,C.P.types.size+Made.depth=B+1:=⟨C.P.types.size+99,rfl⟩
 have go:∀(f:Nat) (x:H),b0 Z x->(method (B+1) t (aD K v) name).run C.P w= .ok (f,aD K x) w->q6 C f (x::args)=some res->hr C K Z h k bg w (callMethod (.iface t (aD K v)) name (bI K args).toArray) res:=by
  intro f x ek bi ay
  refine(NC (K:=K) (h:=h) (k:=k) (bg:=bg) (w:=w) j9 (args:=x::args) (show b0 Z x/\dW Z args from⟨ek,jb⟩) ay).congr ?_
  simp[callMethod,aP,bi,bI]
 unfold Dj at a
 split at a
 ·rename_i i aN
  split at a
  ·rename_i m bi
   simp only[d9]at a
   obtain⟨ax,a⟩:=a
   have Ef:m.path.toList=[]:=by simpa using ax
   split at a
   ·rename_i f E b5 aZ
    refine go f v fi ?_ a
    simp[method,typeInfo,aN,bi,Ef,follow,b5,receiverAt,run_underlying aZ,Place.get]
   ·rename_i f E b5 aZ
    split at a
    ·rename_i x ag
     obtain⟨M,R⟩:=Uk S fi ag
     refine go f x R ?_ a
     cases v with
     |ptr b W=>
      simp only[Instr.loadAt,Instr.sureAddr,aD,Sem.run_bind,Sem.run_pure,Result.andThen_ok]at M
      have anf:∀(h9:TypeId) (I:Addr) (nm:String),Builtin.ssaWrapNilChk_ #[h9] h9 #[.pointer (some I),strVal "",strVal nm]=pure (.pointer (some I)):=λ_ _ _=>rfl
      have B4:m.path= #[]:=by simpa using ax
      simp[method,typeInfo,aN,bi,B4,follow,b5,receiverAt,run_underlying aZ,Place.get,aD,anf,asAddr,M]
     |_=>simp[oH,cL,ao]at ag;split at ag<;>simp at ag
    ·simp at a
   ·rename_i f d aS b5 aZ
    refine go f v fi ?_ a
    cases d<;>first
     |exact(aS _ rfl).elim
     |simp[method,typeInfo,aN,bi,Ef,follow,b5,receiverAt,run_underlying aZ,Place.get]
   ·simp at a
  ·simp at a
 ·simp at a
theorem aho(S:cS C K Z h k bg w)(eP:bg<=w.heap.size)(j9:wI C.P){b:Builtin}{args:Array Operand}{cM:Array TypeId}{ty:TypeId}{ahI:Array Bool}{aw:Operand->Value}{d5:Operand->Option H}{res:dz}
 (cn:iC K Z aw d5 args.toList)(a:GK C b args cM h k d5=some res):hr C K Z h k bg w (builtin b cM ty ahI (args.map aw)) res:=by
 have wP:∀{t:Nat}{rest:List Nat},cM.toList=t::rest->cM[0]? =some t:=λaG=>by rw[<-ZM,aG];rfl
 have Nq:∀{t ad:Nat}{rest:List Nat},cM.toList=t::ad::rest->cM[1]? =some ad:=λaG=>by rw[<-ZM,aG];rfl
 unfold GK at a
 split at a
 ·rename_i s x ag
  obtain⟨be,b2⟩:=q8 cn ag
  rw[be]
  split at a
  ·rename_i st h9 rest aG
   split at a
   ·rename_i ar ho
    split at a
    ·rename_i n aS
     exact hr.app S (agl (ty:=ty) S eP (wP aG) (Nq aG) ho b2.1 aS a)
    ·simp at a
   ·rename_i E ho
    exact hr.app S (Ug (ty:=ty) S eP (wP aG) (Nq aG) ho (.inr ⟨E,rfl⟩) b2.1 b2.2.1 a)
   ·rename_i ho
    exact hr.app S (Ug (ty:=ty) S eP (wP aG) (Nq aG) ho (.inl rfl) b2.1 b2.2.1 a)
   ·simp at a
  ·simp at a
 ·rename_i d x ag
  obtain⟨be,b2⟩:=q8 cn ag
  rw[be]
  split at a
  ·rename_i st rest aG
   exact hr.one (ahK (ty:=ty) S (wP aG) b2.1 b2.2.1 a)
  ·simp at a
 ·rename_i ag
  simp at a;subst a
  exact rfl
 ·rename_i x ag
  obtain⟨be,b2⟩:=q8 cn ag
  rw[be]
  split at a
  ·rename_i t rest aG
   exact hr.one (ahE (ty:=ty) S (wP aG) b2.1 a)
  ·simp at a
 ·rename_i m B ag
  obtain⟨be,b2⟩:=q8 cn ag
  rw[be]
  split at a
  ·rename_i t rest aG
   obtain⟨v,V,rfl,aI⟩:=ahY (ty:=ty) S (wP aG) b2.1 b2.2.1 a
   exact jm.done aI
  ·simp at a
 ·simp at a
theorem agm(S:cS C K Z h k bg w)(eP:bg<=w.heap.size)(j9:wI C.P){oper:Oper}{aw:Operand->Value}{d5:Operand->Option H}{res:dz}(cn:iC K Z aw d5 oper.op.operands.toList)
 (a:mO oper.op C h k d5=some res):hr C K Z h k bg w (execOp aw oper) res:=by
 obtain⟨dst,op,type,pos,after,guard⟩:=oper
 have aaR:∀t m B x,iC K Z aw d5 [m,B,x]->DU C t m B x h k d5=some res->hr C K Z h k bg w (do Instr.mapUpdate t (aw m) (aw B) (aw x);pure .skip) res:=by
  intro t m B x cn a
  unfold DU at a
  split at a
  ·rename_i I b c aG ai ay
   obtain⟨bF,b9⟩:=cn m Zs I aG
   obtain⟨cB,b3⟩:=cn B Zs b ai
   obtain⟨fh,g3⟩:=cn x Zs c ay
   obtain⟨V,bz,M,R,au,aM⟩:=ags S b9 b3 g3 a
   rw[bF,cB,fh]
   exact hr.unit ⟨V,bz,M,R,au,aM⟩
  ·simp at a
 cases op<;>simp only[mO]at a<;>(try(cases a;done))<;>simp only[execOp]<;>simp only[Op.operands]at cn
 case mapUpdate t m B x=>exact aaR t m B x (by simpa using cn) a
 case insert t m B x=>exact aaR t m B x (by simpa using cn) a
 case mapEntry t m B=>
  obtain⟨v,V,M,R⟩:=apk S (by simpa using cn) a
  exact hr.eW ⟨v,V,k,M,R⟩
 case entryStore t m s x=>exact hr.unit (ait S (by simpa using cn) a)
 case makeSlice t l c=>exact hr.eW (api S eP (by simpa using cn) a)
 case makeMap t r=>
  cases r with
  |none=>simp at a
  |some r=>exact hr.eW (apg S eP (by simpa using cn) a)
 case convert s d x=>exact hr.one (asS S eP (by simpa using cn) a)
 case range t x=>exact hr.eW (arb S eP (by simpa using cn) a)
 case next dY s=>exact hr.one (apJ S (by simpa using cn) a)
 case panic x=>
  unfold OV at a
  split at a
  ·rename_i t v ag
   simp at a;subst a
   obtain⟨E,g⟩:=cn x Zs _ ag
   refine⟨?_,g⟩
   simp[Instr.panic,E,aD]
  ·simp at a
 case defer c=>
  unfold OJ at a
  split at a
  ·rename_i f args cM
   split at a
   ·rename_i fn first fl cm b5 has
    simp at a;subst a
    simp only[Call.operands]at cn
    obtain⟨E,g⟩:=cn f Zs _ b5
    obtain⟨be,b2⟩:=q8 (cn.mono (by simp;intro x ag;exact .inr ag)) has
    refine⟨?_,⟨g.1,g.2.2⟩,yP g.2.1 b2⟩
    simp[resolve,E,aD,Deferred.ofValue,be,k7,Bj,Bn]
   ·simp at a
  ·simp at a
 case call c=>
  unfold BF at a
  split at a
  ·rename_i f args cM
   split at a
   ·rename_i fn first fl cm b5 has
    simp only[Call.operands]at cn
    obtain⟨E,g⟩:=cn f Zs _ b5
    obtain⟨be,b2⟩:=q8 (cn.mono (by simp;intro x ag;exact .inr ag)) has
    refine(υ (K:=K) (h:=h) (k:=k) (bg:=bg) (w:=w) j9 g.1 g.2.2 (yP g.2.1 b2) a).congr ?_
    simp[resolve,E,aD,Deferred.ofValue,be,Bn]
   ·simp at a
  ·rename_i b args cM
   simp only[Call.operands]at cn
   show hr C K Z h k bg w (builtin b cM type _ (args.map aw)) res
   exact aho S eP j9 (cn.mono Zs) a
  ·rename_i r name args cM
   split at a
   ·rename_i t v cm Ek has
    simp only[Call.operands]at cn
    obtain⟨E,g⟩:=cn r Zs _ Ek
    obtain⟨be,b2⟩:=q8 (cn.mono (by simp;intro x ag;exact .inr ag)) has
    refine(aps (v:=v) S j9 g b2 a).congr ?_
    simp[resolve,E,aD,invoke,be]
   ·simp at a
end
end Go.al

namespace Go.al
noncomputable section
abbrev dP:=Option H
structure h1 where
 fn:Nat
 n:Nat
 ap:Nat
 a8:List hj
 aB:Bool
 ro:Option Nat
 cs:List gi
abbrev g4:=ks->List dy->h1->U H->U an->Nat->dP
def nL(g:Option (Nat×Bool))(ak:List (Nat×H)):Option Bool:=
 match g with
 |none=>some true
 |some (aa,k2)=>(match d8 ak aa with
  |some v=>(match v with| .bool b=>some (b==k2)|_=>some false)
  |none=>none)
def p0(f:H->H->Bool):List H->List H->Bool
 |[],[]=>true
 |I::l,b::m=>f I b&&p0 f l m
 |_,_=>false
def H.same:Nat->H->H->Bool
 |0,_,_=>false
 |d+1,x,j=>match x,j with
  | .bool I, .bool b=>I==b
  | .int B I, .int eA b=>decide (B=eA)&&decide (I=b)
  | .str I, .str b=>mb I b
  | .ptr I b, .ptr f2 ea=>Nat.beq I f2&&Nat.beq b ea
  | .cI, .cI=>true
  | .slice I b c E, .slice f2 ea gx gk=>Nat.beq I f2&&Nat.beq b ea&&Nat.beq c gx&&Nat.beq E gk
  | .e5 I b c E, .e5 f2 ea gx gk=>Nat.beq I f2&&Nat.beq b ea&&Nat.beq c gx&&Nat.beq E gk
  | .aU, .aU=>true
  | .map I, .map b=>Nat.beq I b
  | .kH, .kH=>true
  | .func f I b, .func Vt f2 ea=>decide (f=Vt)&&p0 (H.same d) I f2&&p0 (H.same d) b ea
  | .nilFunc, .nilFunc=>true
  | .iface t v, .iface gV gO=>Nat.beq t gV&&H.same d v gO
  | .nilIface, .nilIface=>true
  | .agg I, .agg b=>p0 (H.same d) I b
  | .tuple I, .tuple b=>p0 (H.same d) I b
  |_,_=>false
def vt(C:aX)(base:Nat)(J:U H):List e4->List (Nat×H)->U an->Option (List (Nat×H)×U an)
 |[],ak,h=>some (ak,h)
 |x::l,ak,h=>(match nL x.g ak with
  |none=>none
  |some false=>vt C base J l ((x.i,undef)::ak) h
  |some true=>(match l6 x.op with
   | .make=>(match nl x.op C (base+x.i) ak J with
     |some (v,cJ)=>iV (bm C h (base+x.i) (some cJ)) λh=>vt C base J l ((x.i,v)::ak) h
     |none=>none)
   |_=>(match gp x.op C h ak J with
    |some v=>vt C base J l ((x.i,v)::ak) h
    |none=>none)))
def Br(C:aX)(J:U H)(ak:List (Nat×H))(h:U an):List e4->Bool
 |[]=>true
 |x::l=>(match nL x.g ak with
  |none=>false
  |some false=>Br C J ak h l
  |some true=>(match gp x.op C h ak J,d8 ak x.i with
   |some v,some ad=>H.same 30 v ad&&Br C J ak h l
   |_,_=>false))
def w2(ak:List (Nat×H)):List (Nat×Nat)->U H->Option (U H)
 |[],J=>some J
 |(i,d)::l,J=>(match d8 ak i with|some v=>iV (J.set d (some v)) λJ=>w2 ak l J|none=>none)
def exitTo(id:Nat):List dy->Option (List dy)
 |[]=>none
 | .inBlock sT::B=>bC (Nat.beq sT id) (some B)<|exitTo id B
 |_::B=>exitTo id B
def iM{α:Type}(W:Option α)(B:α->dP):dP:=Option.rec (motive:=λ_=>dP) none (λI=>B I) W
def F4(l:List (Nat×H)):Nat->(H->dP)->dP:=
 List.rec (motive:=λ_=>Nat->(H->dP)->dP) (λ_ _=>none)
  (λp _ ah aa B=>Prod.rec (motive:=λ_=>dP) (λI b=>Bool.rec (motive:=λ_=>dP) (ah aa B) (B b) (Nat.beq I aa)) p) l
def Kb(t:U H):Nat->(H->dP)->dP:=
 U.rec (motive:=λ_=>Nat->(H->dP)->dP) (λ_ _=>none)
  (λv _ _ ig py i B=>Nat.rec (motive:=λ_=>dP) (Option.rec (motive:=λ_=>dP) none (λI=>B I) v)
   (λaa _=>Bool.rec (motive:=λ_=>dP) (py (Nat.div aa 2) B) (ig (Nat.div aa 2) B) (Nat.beq (Nat.mod aa 2) 0)) i) t
def wZ(x:jU):List (Nat×H)->U H->(H->dP)->dP:=
 jU.rec (motive:=λ_=>List (Nat×H)->U H->(H->dP)->dP) (λaa ak _ B=>F4 ak aa B) (λn _ J B=>Kb J n B) (λI _ _ B=>B I) x
def acE(g:Option (Nat×Bool)):List (Nat×H)->dP->dP->dP:=
 Option.rec (motive:=λ_=>List (Nat×H)->dP->dP->dP) (λ_ I _=>I)
  (λp ak I b=>iM (nL (some p) ak) λw=>Bool.rec (motive:=λ_=>dP) b I w) g
def Gx(l:List (Nat×Nat)):List (Nat×H)->U H->(U H->dP)->dP:=
 List.rec (motive:=λ_=>List (Nat×H)->U H->(U H->dP)->dP) (λ_ J B=>B J)
  (λp _ ah ak J B=>Prod.rec (motive:=λ_=>dP) (λi d=>F4 ak i λv=>iV (U.set J d (some v)) λJ=>ah ak J B) p) l
def CW(dY:dy)(B:List dy)(bS:h1)(J:U H):List gi:=
 h1.rec (motive:=λ_=>List gi) (λfn n ap a8 aB ro cs=>⟨fn,n,ap,J,dY::B,a8, .run,aB,ro⟩::cs) bS
def nj(ah:g4)(C:aX)(f:Nat)(args:List H)(deferred:Bool)(cs:List gi)(h:U an)(k:Nat):dP:=
 match C.P.funcs[f]? with
 |some fn=>(match fn.body with
  |some c=>pu (Nat.lor (jP c) (m6 fn.results.toList)) λap=>bC (Nat.ble args.length fn.ntmps&&la C ap c&&xY ap fn.results.toList) (ah .run [.code c] ⟨f,fn.ntmps,ap,[],deferred,none,cs⟩ (U.ofList args 0 .nil) h k)<|none
  |none=>none)
 |none=>none
def ws(n:Nat):List Nat->List H->U H->Option (U H)
 |[],[],J=>some J
 |p::c8,I::cm,J=>bC (Nat.blt p n) (ws n c8 cm (J.set p (some I)))<|none
 |_,_,_=>none
def nV(dY:dy)(v:H):Option dy:=match dY with
 | .r5 aq ak a rest fin=>some (.Fl aq ((a,v)::ak) rest fin)
 | .yb aq base ak a kL fin=>some (.drawn aq base ((a,v)::ak) kL fin)
 | .inRangeFunc l=>some (.endRangeFunc l)
 |_=>none
def Rk(ah:g4)(todo:List dy)(bS:h1)(v:H)(J:U H)(h:U an)(k:Nat):dP:=
 match todo with
 |[]=>none
 |dY::B=>(match nV dY v with|some hc=>ah .run (hc::B) bS J h k|none=>none)
def vv:List Nat->U H->U H
 |[],J=>J
 |d::l,J=>vv l (J.set d none)
def tx(todo:List dy)(J:U H):U H:=match todo with
 | .r5 aq _ _ _ _::_=>vv (dstsOf aq.toList) J
 | .yb aq _ _ _ _ _::_=>vv (dstsOf aq.toList) J
 |_=>J
def CM(chain:List qX)(bG:ks):ks:=match bG with
 | .panicking lr=> .panicking (chain++lr)
 |_=> .panicking chain
def abK(ah:g4)(c:gi)(cs:List gi)(chain:List qX)(h:U an)(k:Nat):dP:=
 match c with
 |⟨fn,n,ap,J,todo,a8,bG,aB,ro⟩=>ah (CM chain bG) todo ⟨fn,n,ap,a8,aB,ro,cs⟩ (tx todo J) h k
def A0(aB:Bool)(cs:List gi):Option (H×List gi):=
 bC (aB) ((match cs with
  |c::rest=>(match c with
   |⟨fn,n,ap,J,todo,a8,bG,iU,ro⟩=>(match bG with
    | .panicking (⟨v,false⟩::AF)=>some (v,⟨fn,n,ap,J,todo,a8, .panicking (⟨v,true⟩::AF),iU,ro⟩::rest)
    |_=>some (.nilIface,cs)))
  |[]=>none))<|some (.nilIface,cs)
def w5(ah:g4)(dY:dy)(B:List dy)(bS:h1)(J:U H)(k:Nat):List (H×U an)->dP
 |[]=>none
 |[(v,h)]=>(match nV dY v with|some hc=>ah .run (hc::B) bS J h k|none=>none)
 |(v,h)::l=>(match nV dY v with
  |some hc=>(match ah .run (hc::B) bS J h k,w5 ah dY B bS J k l with
   |some I,some b=>bC (H.same 30 I b) (some I) none
   |_,_=>none)
  |none=>none)
def ng(r:dz)(ah:g4)(C:aX)(dY:dy)(B:List dy)(bS:h1)(J:U H)(h:U an)(k:Nat):dP:=
 match r with
 | .val v=>(match nV dY v with|some hc=>ah .run (hc::B) bS J h k|none=>none)
 | .eW v h k=>(match nV dY v with|some hc=>ah .run (hc::B) bS J h k|none=>none)
 | .enter f args=>nj ah C f args false (CW dY B bS J) h k
 | .known _ _ v=>(match nV dY v with|some hc=>ah .run (hc::B) bS J h k|none=>none)
 | .round l args=>(match ab C h l with
   |some (.loop _ _ fn n ap cT params assign body _)=>(match ws n params args cT with
    |some cT=>ah .run [.code assign, .beginRound, .code body] ⟨fn,n,ap,[],false,some l,CW dY B bS J⟩ cT h k
    |none=>none)
   |_=>none)
 | .defer d=>(match bS with
   |⟨fn,n,ap,a8,aB,ro,cs⟩=>(match ro with
    |none=>(match nV dY undef with|some hc=>ah .run (hc::B) ⟨fn,n,ap,d::a8,aB,none,cs⟩ J h k|none=>none)
    |some _=>none))
 | .recover=>(match bS with
   |⟨fn,n,ap,a8,aB,ro,cs⟩=>(match ro with
    |none=>(match A0 aB cs with
     |some (v,cZ)=>(match nV dY v with|some hc=>ah .run (hc::B) ⟨fn,n,ap,a8,aB,none,cZ⟩ J h k|none=>none)
     |none=>none)
    |some _=>none))
 | .panic v=>(match bS with
   |⟨fn,n,ap,a8,aB,ro,cs⟩=>(match ro with
    |none=>ah (.panicking [⟨v,false⟩]) (dY::B) ⟨fn,n,ap,a8,aB,none,cs⟩ (tx (dY::B) J) h k
    |some _=>none))
 | .fork l=>w5 ah dY B bS J k l
def Q6(op:jl):aX->U an->Nat->List (Nat×H)->U H->(H->U an->Nat->dP)->(dz->dP)->dP:=
 match op with
 | .Cr x=>λ_ h k ak J aj _=>wZ x ak J λv=>aj v h k
 | .pick c I b=>λ_ h k ak J aj _=>iM (gp (.pick c I b) ⟨default, .nil,0,λ_ _=>none,0⟩ h ak J) λv=>aj v h k
 | .fy I=>λC h k ak J aj _=>wZ I ak J λI=>iM (ao C h I) λv=>aj v h k
 | .As n I=>λC h k ak J aj _=>wZ I ak J λI=>iM (cL C h n I) λv=>aj v h k
 | .off d x=>λ_ h k ak J aj _=>wZ x ak J λI=>iM (bf d I) λv=>aj v h k
 | .Aj n bd x i=>λC h k ak J aj _=>iM (gp (.Aj n bd x i) C h ak J) λv=>aj v h k
 | .Ak bd x i=>λC h k ak J aj _=>iM (gp (.Ak bd x i) C h ak J) λv=>aj v h k
 | .Cy x=>λ_ h k ak J aj _=>wZ x ak J λI=>iM (cz I) λv=>aj v h k
 | .HN op x j=>λ_ h k ak J aj _=>wZ x ak J λI=>wZ j ak J λb=>iM (aL op I b) λv=>aj v h k
 | .ext i x=>λ_ h k ak J aj _=>wZ x ak J λI=>iM (c9 i I) λv=>aj v h k
 | .hQ bT W=>λC h k ak J aj _=>iM (gp (.hQ bT W) C h ak J) λv=>aj v h k
 | .make bT W=>λC h k ak J _ pq=>iM (LH (.make bT W) C h k ak J) pq
 | .st n I v=>λC h k ak J _ pq=>iM (hs (.st n I v) C h k ak J) pq
 | .call f args=>λC h k ak J _ pq=>iM (hs (.call f args) C h k ak J) pq
 | .e1 bT W=>λC h k ak J _ pq=>iM (hs (.e1 bT W) C h k ak J) pq
structure gb where
 ah:g4
 aq:Array Oper
 fin:List (Nat×Nat)
 B:List dy
 bS:h1
def aiS(X:gb)(C:aX)(J:U H)(ak:List (Nat×H))(i:Nat)(rest:List e4)(r:dz)(h:U an)(k:Nat):dP:=
 match X with|⟨ah,aq,fin,B,bS⟩=>ng r ah C (.r5 aq ak i rest fin) B bS J h k
abbrev ST:=gb->aX->U H->List (Nat×H)->U an->Nat->dP
def aqY(mz:ST)(X:gb)(C:aX)(J:U H)(ak:List (Nat×H))(i:Nat)(v:H)(h:U an)(k:Nat):dP:=mz X C J ((i,v)::ak) h k
def alB(mz:ST)(X:gb)(C:aX)(J:U H)(ak:List (Nat×H))(i:Nat)(rest:List e4)(h:U an)(k:Nat)(r:dz):dP:=
 match r with
 | .val v=>mz X C J ((i,v)::ak) h k
 | .eW v h k=>mz X C J ((i,v)::ak) h k
 |r=>aiS X C J ak i rest r h k
def Gs(X:gb)(_:aX)(J:U H)(ak:List (Nat×H))(h:U an)(k:Nat):dP:=
 gb.rec (motive:=λ_=>dP) (λah _ fin B bS=>Gx fin ak J λJ=>ah .run B bS J h k) X
def CH(i:Nat)(g:Option (Nat×Bool))(op:jl)(rest:List e4)(mz:ST)(X:gb)(C:aX)(J:U H)(ak:List (Nat×H))(h:U an)(k:Nat):dP:=
 acE g ak (Q6 op C h k ak J (aqY mz X C J ak i) (alB mz X C J ak i rest h k)) (mz X C J ((i,undef)::ak) h k)
def x3(rest:List e4):ST:=
 List.rec (motive:=λ_=>ST) Gs (λx rest mz=>e4.rec (motive:=λ_=>ST) (λi g op=>CH i g op rest mz) x) rest
def wY(ah:g4)(C:aX)(aq:Array Oper)(base:Nat)(ak:List (Nat×H))(kL:List vl)(fin:List (Nat×Nat))(B:List dy)(bS:h1)(J:U H)(h:U an)(k:Nat):dP:=
 match kL with
 |[]=>none
 |s::rest=>(match vt C base J s.sY ak h with
  |none=>none
  |some (ak,h)=>bC (Br C J ak h s.Rg) ((match s.e1 with
    |none=>Gx fin ak J λJ=>ah .run B bS J h k
    |some a=>(match nL a.g ak with
     |none=>none
     |some w=>bC (w) ((match hs a.op C h k ak J with
       |some r=>ng r ah C (.yb aq base ak a.i rest fin) B bS J h k
       |none=>none))<|ah .run (.drawn aq base ((a.i,undef)::ak) rest fin::B) bS J h k)))<|none)
def wy(fL:List qX):ks:=match fL with|⟨_,true⟩::_=> .returning|_=> .panicking fL
def sj(ah:g4)(aB:Bool)(cs:List gi)(v:H)(h:U an)(k:Nat):dP:=
 match cs with
 |c::rest=>(match c with
  |⟨fn,n,ap,J,todo,a8,bG,iU,ro⟩=>(match bG with
   | .run=>bC aB none (Rk ah todo ⟨fn,n,ap,a8,iU,ro,rest⟩ v J h k)
   | .returning=>bC aB (ah .returning todo ⟨fn,n,ap,a8,iU,ro,rest⟩ J h k) none
   | .panicking fL=>bC aB (ah (wy fL) todo ⟨fn,n,ap,a8,iU,ro,rest⟩ J h k) none))
 |[]=>bC aB none (some v)
def Ql(il:Option Code):Bool:=match il with|none=>true|some .ret=>true|_=>false
def abp(il:Option Code):Bool:=match il with|none=>true|some .ret=>true|some (.exit _)=>true|_=>false
def nC(il:Option Code)(ah:g4)(C:aX)(todo:List dy)(bS:h1)(J:U H)(h:U an)(k:Nat):dP:=
 match bS with
 |⟨fn,n,ap,a8,aB,ro,cs⟩=>(match ro with
  |none=>bC (Ql il) (ah .returning todo ⟨fn,n,ap,a8,aB,none,cs⟩ J h k)<|none
  |some l=>(match ab C h l with
   |some (.loop _ _ fn n ap J params assign body defers)=>
    bC ((ke C l&&abp il)&& !aB) (iV (bm C h l (some (.loop (bC il.isNone .ready .done) il fn n ap J params assign body defers))) λh=>sj ah aB cs (.bool il.isNone) h k)<|none
   |_=>none))
def wp(C:aX)(h:U an)(J:U H):List ResultVar->Option (List H)
 |[]=>some []
 | .tmp t::l=>(match J.get t,wp C h J l with|some v,some r=>some (v::r)|_,_=>none)
 | .cell I t::l=>(match J.get I with
   |some p=>(match oH C h t p,wp C h J l with|some v,some r=>some (v::r)|_,_=>none)
   |none=>none)
def vy(J:U H)(W:Operand):Option H:=match W with
 | .tmp t=>J.get t
 | .const v=>CC v
 | .global g=>some (.ptr g 0)
 | .func f=>some (.func (.func f) [] [])
def Iy(f:Operand)(params:Array Nat)(assign body:Code)(ah:g4)(C:aX)(B:List dy)(bS:h1)(J:U H)(h:U an)(k:Nat):dP:=
 match vy J f,bS with
 |some (.func (.func g) first fl),⟨fn,n,ap,a8,aB,ro,cs⟩=>
  (
   match ro with
   |none=>pu k λk=>
    nj ah C g (first++[.func (.yield (k+1)) [] []]++fl) false (⟨fn,n,ap,J, .inRangeFunc (k+1)::B,⟨.collected k,[]⟩::a8, .run,aB,none⟩::cs)
     (bm C (bm C h k (some (.deferred (some [])))) (k+1) (some (.loop .ready none fn n ap J params.toList assign body k))) (k+2)
   |some l=>(match ab C h l with
    |some (.loop _ _ _ _ _ _ _ _ _ defers)=>pu k λk=>
     nj ah C g (first++[.func (.yield k) [] []]++fl) false (⟨fn,n,ap,J, .inRangeFunc k::B,a8, .run,aB,some l⟩::cs)
      (bm C h k (some (.loop .ready none fn n ap J params.toList assign body defers))) (k+1)
    |_=>none))
 |_,_=>none
def yH(id:Nat)(ah:g4)(C:aX)(B:List dy)(bS:h1)(J:U H)(h:U an)(k:Nat):dP:=
 match exitTo id B with
 |some eA=>ah .run eA bS J h k
 |none=>nC (some (.exit id)) ah C (.code (.exit id)::B) bS J h k
def Gf(c:Operand)(J:U H)(I b:dP):dP:=iM (vy J c) λv=>match v with
 | .bool t=>Bool.rec (motive:=λ_=>dP) b I t
 |_=>none
def Rj(n ap:Nat)(aq:Array Oper)(ah:g4)(C:aX)(B:List dy)(bS:h1)(J:U H)(h:U an)(k:Nat):dP:=
 iM (If C n aq ap) λr=>MU.rec (motive:=λ_=>dP) (λrest fin=>x3 rest ⟨ah,aq,fin,B,bS⟩ C J [] h k) r
def Ri(n ap:Nat)(aq:Array Oper)(ah:g4)(C:aX)(B:List dy)(bS:h1)(J:U H)(h:U an)(k:Nat):dP:=
 iM (Ie C n aq ap) λr=>MT.rec (motive:=λ_=>dP) (λkL fin=>pu k λk=>wY ah C aq k [] kL fin B bS J h (k+aq.size)) r
def abO(aq:Array Oper)(yF:Bool)(ah:g4)(C:aX)(B:List dy)(bS:h1)(J:U H)(h:U an)(k:Nat):dP:=
 h1.rec (motive:=λ_=>dP) (λfn n ap a8 aB ro cs=>Bool.rec (motive:=λ_=>dP)
  (Rj n ap aq ah C B ⟨fn,n,ap,a8,aB,ro,cs⟩ J h k) (Ri n ap aq ah C B ⟨fn,n,ap,a8,aB,ro,cs⟩ J h k) yF) bS
abbrev yg:=g4->aX->List dy->h1->U H->U an->Nat->dP
def Ke:yg:=λah _ B bS J h k=>ah .run B bS J h k
def Cz:yg:=λ_ _ _ _ _ _ _=>none
def ts(c:Code):yg:=
 Code.rec (motive:=λ_=>yg) Ke
  (λ_ aq d=>abO aq d)
  (λ_ b l5 _ ah C B=>l5 ah C (.code b::B))
  (λc _ _ l5 hb ah C B bS J h k=>Gf c J (l5 ah C B bS J h k) (hb ah C B bS J h k))
  (λid _ hb ah C B=>hb ah C (.inBlock id::B))
  (λb hb ah C B=>hb ah C (.inLoop b::B))
  (λf params assign body _ _=>Iy f params assign body)
  (λid=>yH id)
  (λb hb ah C B=>hb ah C (.inScope b::B))
  (λ_=>Ke)
  (λ_=>Cz)
  (λah C B=>nC (some .ret) ah C (.code .ret::B))
  (λ_=>Cz) c
def DD(l:Nat):yg:=λah C B bS J h k=>match ab C h l with
 |some (.loop state pending gq aY kh cT params assign body defers)=>
  (
   match state with
   | .busy=>none
   |_=>bC (ke C l) (iV (bm C h l (some (.loop .exhausted pending gq aY kh cT params assign body defers))) λh=>ah .run ((pending.map dy.code).toList++B) bS J h k)<|none)
 |_=>none
def F6:yg:=λah C B bS J h k=>match bS with
 |⟨fn,n,ap,a8,aB,ro,cs⟩=>match ro with
  |some l=>(match ab C h l with
   |some (.loop .ready pending gq aY kh cT params assign body defers)=>
    bC (ke C l) (iV (bm C h l (some (.loop .busy pending gq aY kh cT params assign body defers))) λh=>ah .run B ⟨fn,n,ap,a8,aB,some l,cs⟩ J h k)<|none
   |_=>none)
  |none=>none
def χ(dY:dy):yg:=
 dy.rec (motive:=λ_=>yg) (λc=>ts c) (λ_=>Ke) (λb ah C B=>ts b ah C (.inLoop b::B)) (λ_=>Ke)
  (λaq ak rest fin ah C B bS J h k=>x3 rest ⟨ah,aq,fin,B,bS⟩ C J ak h k)
  (λaq base ak kL fin ah C B bS J h k=>wY ah C aq base ak kL fin B bS J h k)
  (λ_ _ _ _ _=>Cz) (λ_ _ _ _ _ _=>Cz) (λ_=>Cz) (λl=>DD l) F6 dY
def ab7(todo:List dy)(ah:g4)(C:aX)(bS:h1)(J:U H)(h:U an)(k:Nat):dP:=
 List.rec (motive:=λ_=>dP) (nC none ah C [] bS J h k) (λdY B _=>χ dY ah C B bS J h k) todo
def wt(d:hj)(ds:List hj)(bG:ks)(todo:List dy)(ah:g4)(C:aX)(bS:h1)(J:U H)(h:U an)(k:Nat):dP:=
 match bS with
 |⟨fn,n,ap,_,aB,ro,cs⟩=>(match d with
  |⟨.collected r,_⟩=>(match ab C h r with
   |some (.deferred (some oL))=>bC (ke C r) (iV (bm C h r (some (.deferred none))) λh=>ah bG todo ⟨fn,n,ap,oL++ds,aB,ro,cs⟩ J h k)<|none
   |_=>none)
  |⟨.fn f fl,args⟩=>(match yr C f fl args with
   |some (.enter f cm)=>nj ah C f cm true (⟨fn,n,ap,J,todo,ds,bG,aB,ro⟩::cs) h k
   |_=>none))
def one(br:List H):H:=match br with|[v]=>v|br=> .tuple br
def II(todo:List dy)(ah:g4)(C:aX)(bS:h1)(J:U H)(h:U an)(k:Nat):dP:=
 match bS with
 |⟨fn,n,ap,a8,aB,ro,cs⟩=>match a8 with
  |d::ds=>wt d ds .returning todo ah C ⟨fn,n,ap,[],aB,ro,cs⟩ J h k
  |[]=>(match C.P.funcs[fn]? with
   |some f=>(match wp C h J f.results.toList with
    |some br=>sj ah aB cs (one br) h k
    |none=>none)
   |none=>none)
def IH(chain:List qX)(todo:List dy)(ah:g4)(C:aX)(bS:h1)(J:U H)(h:U an)(k:Nat):dP:=
 match bS with
 |⟨fn,n,ap,a8,aB,ro,cs⟩=>match a8 with
  |d::ds=>wt d ds (.panicking chain) todo ah C ⟨fn,n,ap,[],aB,ro,cs⟩ J h k
  |[]=>(match cs with
   |c::rest=>abK ah c rest chain h k
   |[]=>none)
def RI(ah:g4)(C:aX)(bG:ks)(todo:List dy)(bS:h1)(J:U H)(h:U an)(k:Nat):dP:=
 ks.rec (motive:=λ_=>dP) (ab7 todo ah C bS J h k) (II todo ah C bS J h k) (λfL=>IH fL todo ah C bS J h k) bG
def run(C:aX)(n:Nat):g4:=
 Nat.rec (motive:=λ_=>g4) (λ_ _ _ _ _ _=>none) (λ_ ah bG todo bS J h k=>RI ah C bG todo bS J h k) n
def Mj(C:aX)(n:Nat)(f:Nat)(args:List H):dP:=nj (run C n) C f args false [] .nil C.bj
end
end Go.al

