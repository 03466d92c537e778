/- Part of the proof of the last text; no conditions -/
import Derived.Test.YtendhgofocgngaaGreatDoorYd
set_option maxHeartbeats 8000000
set_option linter.all false
namespace Go.bn
open Go.RowKit (Below)
section
variable{C:aK}{J c6:c1}{Y dr:Nat->Prop}{h R:S ai}{j ap bj:Nat}{w bE:World}
def D4(n:Nat):∀k,oz n k=k.contains n:=by
 intro k
 induction k with
 |nil=>rfl
 |cons E k ag=>simp only[oz,List.contains_cons,ag];congr 1;rw[Ya,Y8];exact⟨Zj,λa=>by rw[a];exact YS _⟩
def Vy(seen:List Nat):∀a1:List (z×z×Nat),(a1.map (fz J)).filter (λB=> !seen.contains B.born)=(hN seen a1).map (fz J):=by
 intro a1
 induction a1 with
 |nil=>rfl
 |cons B a1 ag=>
  have ah:(fz J B).born=B.2.2:=rfl
  simp only[ZE,Yv,hN, <-D4,ah]
  simp only[<-D4]at ag
  cases oz B.2.2 seen<;>simp[ag]
def Lb(seen:List Nat):∀(a1:List (z×z×Nat)) B,B∈hN seen a1->B∈a1:=by
 intro a1
 induction a1 with
 |nil=>intro B a;simp[hN]at a
 |cons E a1 ag=>
  intro B a
  simp only[hN]at a
  cases aZ:oz E.2.2 seen<;>simp only[aZ,eU,ku]at a
  ·rcases Zr.1 a with a|a
   ·simp[a]
   ·exact Zt _ (ag B a)
  ·exact Zt _ (ag B a)
def X0(eL:Nat):∀a1:List (z×z×Nat),Ax eL a1=true->∀B∈a1,B.2.2<eL:=by
 intro a1
 induction a1 with
 |nil=>intro _ B a;simp at a
 |cons E a1 ag=>
  intro a B a7
  simp only[Ax,Zp]at a
  rcases Zr.1 a7 with rfl|a7
  ·exact ks a.1
  ·exact ag a.2 B a7
def Qj(eL:Nat):∀a1:List (z×z×Nat),xz eL a1=true->∃B∈a1,B.2.2<eL:=by
 intro a1
 induction a1 with
 |nil=>intro a;simp[xz]at a
 |cons E a1 ag=>
  intro a
  simp only[xz,Y1]at a
  rcases a with a|a
  ·exact⟨E,Zs,ks a⟩
  ·obtain⟨B,a7,a⟩:=ag a;exact⟨B,by simp[a7],a⟩
def Qn{bU:Array MapEntry}{a1:List (z×z×Nat)}(a:bU.toList=a1.map (fz J)):bU=(a1.map (fz J)).toArray:=by apply YR;simpa using a
def Us(V:cV C J Y h j bj w){cJ r m eL lj dn:Nat}{seen:List Nat}{a1:List (z×z×Nat)}{ty:TypeId}(ah:C.bf<=r)(aI:Y r)(aS:Z C h r=some (.kB (some m) eL seen lj))
 (aZ:Z C h m=some (.map a1 dn))(is:Ax eL a1=true)(oe:xz lj a1=true)(cK:hN seen a1≠[]):
 ∃B,B∈hN seen a1/\∃bE,(Instr.next (.pointer (some ⟨(J r).cr,0,none⟩)) false ty).run C.P w= .ok (.tuple #[.bool true,aF J B.1,aF J B.2.1]) bE/\
  cV C J Y (bp C h r (some (.kB (some m) eL (seen++[B.2.2]) dn))) j bj bE/\hF C cJ J Y h bj w J Y (bp C h r (some (.kB (some m) eL (seen++[B.2.2]) dn))) bE/\b7 Y B.1/\b7 Y B.2.1:=by
 obtain⟨h7,H,K⟩:=V.obj r _ aS aI
 have yd:=K m rfl
 obtain⟨bU,bd,ca,a3,a4⟩:=sL V yd aZ
 have x5:=Qn a3
 have Z:(getObj (J r).cr).run C.P w= .ok (.mapIter (some (J m).cr) eL seen.toArray lj) w:=by simp[getObj,Sem.run,H]
 have JE:(bU.all λB=>decide (B.born>=lj))=false:=by
  obtain⟨B,a7,cS⟩:=Qj lj a1 oe
  rw[x5,List.all_toArray]
  rw[List.all_eq_false]
  exact⟨fz J B,ZB.2 ⟨B,a7,rfl⟩,by simp[fz];omega⟩
 have Jw:(bU.filter λB=> !seen.toArray.contains B.born)=((hN seen a1).map (fz J)).toArray:=by
  rw[x5,za]
  congr 1
  rw[<-Vy]
  apply List.filter_congr
  intro x _
  simp
 have JI:((hN seen a1).map (fz J)).toArray.filter (λB=>decide (B.born<eL))=((hN seen a1).map (fz J)).toArray:=by
  rw[za]
  congr 1
  rw[List.filter_eq_self]
  intro x af
  obtain⟨B,a7,rfl⟩:=ZB.1 af
  simp only[Zi]
  exact X0 eL a1 is B (Lb seen a1 B a7)
 have ym:((hN seen a1).map (fz J)).toArray.filter (λB=>decide (B.born>=eL))= #[]:=by
  rw[za]
  have:((hN seen a1).map (fz J)).filter (λB=>decide (B.born>=eL))=[]:=by
   rw[List.filter_eq_nil_iff]
   intro x af
   obtain⟨B,a7,rfl⟩:=ZB.1 af
   have:=X0 eL a1 is B (Lb seen a1 B a7)
   simp[fz];omega
  rw[this]
 have aqX:((hN seen a1).map (fz J)).toArray.isEmpty=false:=by simpa using cK
 have ej:0<(hN seen a1).length:=ZW.2 cK
 have key:∀(W:Nat) (hC:World),W<(hN seen a1).length->hC.heap=w.heap->cV C J Y h j bj hC->Below bj w hC->(choose (.mapNext (hN seen a1).length)).run C.P w= .ok W hC->
  ∃B,B∈hN seen a1/\∃bE,(Instr.next (.pointer (some ⟨(J r).cr,0,none⟩)) false ty).run C.P w= .ok (.tuple #[.bool true,aF J B.1,aF J B.2.1]) bE/\
   cV C J Y (bp C h r (some (.kB (some m) eL (seen++[B.2.2]) dn))) j bj bE/\hF C cJ J Y h bj w J Y (bp C h r (some (.kB (some m) eL (seen++[B.2.2]) dn))) bE/\b7 Y B.1/\b7 Y B.2.1:=by
  intro W hC bx Sy om wo Nc
  have a7:=Ze bx
  have u0:(hN seen a1)[W]∈hN seen a1:=List.getElem_mem bx
  have bS:=a4 _ (Lb seen a1 _ u0)
  obtain⟨bE,bJ,b2,cF⟩:=putObj om (cJ:=cJ) (lA:= .kB (some m) eL (seen++[(hN seen a1)[W].2.2]) dn) (o':= .mapIter (some (J m).cr) eL (seen.toArray.push (hN seen a1)[W].2.2) dn) ah aI aS ⟨Zs,Zs⟩
   (by rw[Sy];exact H) Zs (λbE qr=>⟨h7,by rw[qr];simp,λb ah=>K b ah⟩) ⟨λ_ _ _ a=>(by cases a),λ_ _ _ a=>(by cases a)⟩
  refine⟨(hN seen a1)[W],u0,bE, ?_,b2,⟨cF.im,cF.jh,cF.new,cF.ad,wo.trans cF.below⟩,bS.1,bS.2⟩
  have aqI:(((hN seen a1).map (fz J)).toArray++(#[]:Array MapEntry)).map some=((hN seen a1).map (λB=>some (fz J B))).toArray:=by simp
  simp only[Instr.next,Sem.run_bind,Z,Result.andThen_ok,bd,JE,Bool.and_false,Zw,ZA,Jw,JI,ym,aqX]
  rw[Array.empty_append,aqI]
  simp only[Yf,Zl,Nc,Result.andThen_ok,YW,Zv,a7,ZK]
  have ab4:(fz J (hN seen a1)[W]).born=(hN seen a1)[W].2.2:=rfl
  simp only[ab4,Sem.run_bind,bJ,Result.andThen_ok,Sem.run_pure]
  rfl
 by_cases oj:(hN seen a1).length<=1
 ·refine key 0 w ej rfl V (Below.refl _ _) ?_
  simp[Question.forced,oj]
 ·refine key ((w.tape w.drawn (.mapNext (hN seen a1).length))%(hN seen a1).length) w.drew (zq _ ej) rfl V.drew (Below.drew (Below.refl _ _)) ?_
  simp[Question.forced,oj,Question.cut]
def aoF{r m eL dn:Nat}{seen:List Nat}:∀(k:List (z×z×Nat)) B,B∈k->(z.tuple [.bool true,B.1,B.2.1],bp C h r (some (.kB (some m) eL (seen++[B.2.2]) dn)))∈MA C h r m eL dn seen k:=by
 intro k
 induction k with
 |nil=>intro B a;simp at a
 |cons E k ag=>
  intro B a
  obtain⟨o,v,b⟩:=E
  simp only[MA]
  rcases Zr.1 a with rfl|a
  ·exact Zu ..
  ·exact Zt _ (ag B a)
def Cn(C:aK)(J:c1)(Y:Nat->Prop)(h:S ai)(j bj:Nat)(w:World)(s:Sem Value)(res:dL):Prop:=match res with
 | .val v=>jT C J Y h j bj w s v h j
 | .e2 v R ap=>jT C J Y h j bj w s v R ap
 | .fork k=>∃v R,(v,R)∈k/\jT C J Y h j bj w s v R j
 |_=>False
def amt{r:Nat}{U:Option Nat->ai}:∀(k:List (z×z×Nat)) B,B∈k->(z.tuple [.bool true,B.1,B.2.1],bp C h r (some (U (some B.2.2))))∈L6 C h r U k:=by
 intro k
 induction k with
 |nil=>intro B a;simp at a
 |cons E k ag=>
  intro B a
  obtain⟨o,v,b⟩:=E
  simp only[L6]
  rcases Zr.1 a with rfl|a
  ·exact Zu ..
  ·exact Zt _ (ag B a)
def ama:∀(a1:List (z×z×Nat)) (cj:List Nat),FF a1 cj=true->cj=a1.map (·.2.2):=by
 intro a1
 induction a1 with
 |nil=>intro cj a;cases cj<;>simp[FF]at a;rfl
 |cons B a1 ag=>
  intro cj a
  cases cj with
  |nil=>simp[FF]at a
  |cons b cj=>
   simp only[FF,Zp]at a
   rw[ZE, <-ag cj a.2,Zj a.1]
def agP(seen:List Nat):∀a1:List (z×z×Nat),((a1.map (·.2.2)).filter λb=> !seen.contains b).length=(hN seen a1).length:=by
 intro a1
 induction a1 with
 |nil=>rfl
 |cons B a1 ag=>
  simp only[ZE,Yv,hN, <-D4]
  simp only[<-D4]at ag
  cases oz B.2.2 seen<;>simp[ag]
def aok{p al:Nat->Bool}(a:∀x,al x=true->p x=true):∀cj:List Nat,(cj.filter al).length<=(cj.filter p).length:=by
 intro cj
 induction cj with
 |nil=>simp
 |cons E cj ag=>
  cases bP:al E with
  |true=>simp[Yv,bP,a E bP];exact ag
  |false=>cases av:p E<;>simp[Yv,bP,av]<;>omega
def aom{p al:Nat->Bool}(a:∀x,al x=true->p x=true){b:Nat}(av:p b=true)(bP:al b=false):∀cj:List Nat,b∈cj->(cj.filter al).length<(cj.filter p).length:=by
 intro cj
 induction cj with
 |nil=>intro ah;cases ah
 |cons E cj ag=>
  intro ah
  by_cases B:E=b
  ·subst B
   have:=aok a cj
   simp[Yv,bP,av];omega
  ·have jm:b∈cj:=by
    rcases Zr.1 ah with al|al
    ·exact absurd al.symm B
    ·exact al
   have:=ag jm
   cases yp:al E with
   |true=>simp[Yv,yp,a E yp];exact this
   |false=>cases yo:p E<;>simp[Yv,yp,yo]<;>omega
def aol{seen:List Nat}{b:Nat}(cj:List Nat)(ah:b∈cj)(aD:seen.contains b=false):(cj.filter λx=> !(seen++[b]).contains x).length<(cj.filter λx=> !seen.contains x).length:=by
 refine aom (p:=λx=> !seen.contains x) (al:=λx=> !(seen++[b]).contains x) (λx af=> ?_) (by rw[aD];rfl) Zs cj ah
 simp at af ⊢
 exact af.1
def azJ(seen:List Nat):∀(a1:List (z×z×Nat)) B,B∈hN seen a1->seen.contains B.2.2=false:=by
 intro a1
 induction a1 with
 |nil=>intro B a;simp[hN]at a
 |cons E a1 ag=>
  intro B a
  simp only[hN]at a
  cases aZ:oz E.2.2 seen<;>simp only[aZ,eU,ku]at a
  ·rcases Zr.1 a with a|a
   ·rw[a, <-D4];exact aZ
   ·exact ag B a
  ·exact ag B a
def cV.af6(V:cV C J Y h j bj w){b:Nat}{cN lA:ai}(ah:C.bf<=b)(aI:Y b)(gw:Z C h b=some cN)(aB:Fh cN)(i1:Z C R b=some lA)(C7:∀x,x≠b->Z C R x=Z C h x)(aS:jU C J Y lA (J b) w)(mB:uh C Y lA):cV C J Y R j bj w:=
 V.put ah aI gw i1 (λx af=> .inl (C7 x af)) (λ_ _=>rfl) (λx dg cK af dx e0=>by rw[C7 x cK]at af;exact V.alone ah aI gw aB x dg cK af dx e0) aS mB
def avW(V:cV C J Y h j bj w){d7:Operand}{yC:Bool}{ty:TypeId}{au:Operand->Value}{ed:Operand->Option z}{res:dL}(ct:jc J Y au ed [d7])(a:wk C d7 yC h j ed=some res):
 Cn C J Y h j bj w (Instr.next (au d7) yC ty) res:=by
 unfold wk at a
 split at a
 ·rename_i r af
  obtain⟨B,jj⟩:=ct d7 Zs _ af
  simp only[d6]at a
  obtain⟨Jg,a⟩:=a
  have ah:C.bf<=r:=iV Jg
  rw[B]
  split at a
  ·rename_i s pos aS
   obtain⟨h7,H,K⟩:=V.obj r _ aS jj
   have Z:(getObj (J r).cr).run C.P w= .ok (.stringIter (fp s) pos) w:=by simp[getObj,Sem.run,H]
   have dW:(fp s).size=s.length:=by simp[fp,ByteArray.size]
   rw[eR]at a
   split at a
   ·rename_i av
    have av:=ks av
    rw[pN]at a
    split at a
    ·rename_i c ax
     simp only[d6]at a
     obtain⟨Se,a⟩:=a
     have Se:=ks Se
     obtain⟨rfl,_⟩:=y1 a
     obtain⟨bE,bJ,b2,cF⟩:=putObj V (cJ:=j) (lA:= .oF s (pos+1)) (o':= .stringIter (fp s) (pos+1)) ah jj aS ⟨Zs,Zs⟩ H Zs (λbE qr=>⟨h7,qr,K⟩) ⟨λ_ _ _ a=>(by cases a),λ_ _ _ a=>(by cases a)⟩
     refine⟨J,Y,bE, ?_,⟨trivial,trivial,trivial,trivial⟩,b2,cF,Zh _⟩
     have cS:pos<(fp s).size:=by rw[dW];exact av
     have ab7:((fp s)[pos]'cS).toNat=c:=by
      show((fp s).data[pos]).toNat=c
      have aD:s[pos]=c:=by
       rw[Ze av]at ax
       exact Ym ax
      simp[fp,aD];omega
     have Nh:=decode_ascii (fp s) pos cS (by rw[ab7];exact Se)
     rw[ab7]at Nh
     simp[Instr.next,aF,bK,h7,Z,dW,av,Nh,bJ,goInt]
    ·simp at a
   ·rename_i av
    have av:¬pos<s.length:=λal=>av (by simp[Nat.blt];omega)
    simp at a;subst a
    refine jT.same V ?_ ⟨trivial,trivial⟩
    simp[Instr.next,aF,bK,h7,Z,dW,av]
  ·rename_i eL seen lj aS
   obtain⟨h7,H,K⟩:=V.obj r _ aS jj
   have Z:(getObj (J r).cr).run C.P w= .ok (.mapIter none eL seen.toArray lj) w:=by simp[getObj,Sem.run,H]
   simp at a;subst a
   refine jT.same V ?_ ⟨trivial,trivial⟩
   simp[Instr.next,aF,bK,h7,Z]
  ·rename_i m eL seen lj aS
   have gw:=V.obj r _ aS jj
   obtain⟨h7,H,K⟩:=gw
   split at a
   ·rename_i a1 dn aZ
    split at a
    ·
     rename_i yy
     simp only[d6,Y1,Zf]at a
     obtain⟨is,oe,rfl⟩:=a
     obtain⟨bU,bd,ca,a3,a4⟩:=sL V (K m rfl) aZ
     have x5:=Qn a3
     have Z:(getObj (J r).cr).run C.P w= .ok (.mapIter (some (J m).cr) eL seen.toArray lj) w:=by simp[getObj,Sem.run,H]
     have Jw:(bU.filter λB=> !seen.toArray.contains B.born)= #[]:=by
      rw[x5,za]
      have:=Vy (J:=J) seen a1
      rw[yy]at this
      congr 1
      rw[List.map_nil]at this
      rw[<-this]
      apply List.filter_congr
      intro x _
      simp
     have JE:(!seen.toArray.isEmpty&& !bU.isEmpty&&bU.all λB=>decide (B.born>=lj))=false:=by
      rcases oe with (oe|oe)|oe
      ·obtain⟨B,a7,cS⟩:=Qj lj a1 oe
       have:(bU.all λB=>decide (B.born>=lj))=false:=by
        rw[x5,List.all_toArray,List.all_eq_false]
        exact⟨fz J B,ZB.2 ⟨B,a7,rfl⟩,by simp[fz];omega⟩
       rw[this];simp
      ·have:seen=[]:=by simpa using oe
       simp[this]
      ·have:a1=[]:=by simpa using oe
       simp[x5,this]
     refine jT.same V ?_ ⟨trivial,trivial⟩
     simp only[aF,bK,h7,ZF,Instr.next,Sem.run_bind,Z,Result.andThen_ok,bd,JE,Zw,ZA,Jw]
     simp[Question.forced]
    ·rename_i o v b yy
     simp only[d6,Zp]at a
     obtain⟨⟨is,oe⟩,a⟩:=a
     obtain⟨rfl,_⟩:=y1 a
     obtain⟨B,a7,bE,bJ,b2,cF,b4,b1⟩:=Us V (cJ:=j) (ty:=ty) ah jj aS aZ is oe (by rw[yy];simp)
     rw[yy]at a7
     have:B=(o,v,b):=by simpa using a7
     subst this
     refine⟨J,Y,bE, ?_,⟨trivial,b4,b1,trivial⟩,b2,cF,Zh _⟩
     simp only[aF,bK,h7,ZF]
     exact bJ
    ·rename_i k nK lX
     simp only[d6,Zp,Zf]at a
     obtain⟨⟨is,oe⟩,rfl⟩:=a
     obtain⟨B,a7,bE,bJ,b2,cF,b4,b1⟩:=Us V (cJ:=j) (ty:=ty) ah jj aS aZ is oe nK
     refine⟨_,_,aoF _ B a7,J,Y,bE, ?_,⟨trivial,b4,b1,trivial⟩,b2,cF,Zh _⟩
     simp only[aF,bK,h7,ZF]
     exact bJ
   ·simp at a
  ·rename_i m eL n cj st lQ aS
   obtain⟨h7,yd,seen,H,K,_⟩:=V.obj r _ aS jj
   split at a
   ·rename_i a1 dn aZ
    simp only[d6,Zp]at a
    obtain⟨⟨⟨ws,cX⟩,is,oe⟩,a⟩:=a
    have cX:=Zj cX
    subst cX
    have ws:=ama a1 cj ws
    subst ws
    rw[agP]at K
    have arU:m≠r:=λB=>by rw[B,aS]at aZ;cases aZ
    have wm:∀c,Fh (.vj m eL n (a1.map (·.2.2)) st c):=λc=>⟨Zs,Zs⟩
    have m4:Z C (bp C h r (some (.kB (some m) eL seen st))) r=some (.kB (some m) eL seen st):=by rw[e9 _ ah,Zq rfl]
    have iL:∀x,x≠r->Z C (bp C h r (some (.kB (some m) eL seen st))) x=Z C h x:=λx af=>by rw[e9 _ ah,Zg af]
    have asA:cV C J Y (bp C h r (some (.kB (some m) eL seen st))) j bj w:=
     V.af6 ah jj aS (wm _) m4 iL ⟨h7,by rw[H];rfl,λb ah=>by cases ah;exact yd⟩ ⟨λ_ _ _ a=>(by cases a),λ_ _ _ a=>(by cases a)⟩
    have adf:hN seen a1=[]->jT C J Y h j bj w (Instr.next (aF J (.ptr r 0)) false ty) (.tuple [.bool false]) h j:=by
     intro yy
     obtain⟨bU,bd,ca,a3,a4⟩:=sL V yd aZ
     have x5:=Qn a3
     have Z:(getObj (J r).cr).run C.P w= .ok (.mapIter (some (J m).cr) eL seen.toArray st) w:=by simp[getObj,Sem.run,H]
     have Jw:(bU.filter λB=> !seen.toArray.contains B.born)= #[]:=by
      rw[x5,za]
      have:=Vy (J:=J) seen a1
      rw[yy]at this
      congr 1
      rw[List.map_nil]at this
      rw[<-this]
      apply List.filter_congr
      intro x _
      simp
     have JE:(!seen.toArray.isEmpty&& !bU.isEmpty&&bU.all λB=>decide (B.born>=st))=false:=by
      obtain⟨B,a7,cS⟩:=Qj st a1 oe
      have:(bU.all λB=>decide (B.born>=st))=false:=by
       rw[x5,List.all_toArray,List.all_eq_false]
       exact⟨fz J B,ZB.2 ⟨B,a7,rfl⟩,by simp[fz];omega⟩
      rw[this];simp
     refine jT.same V ?_ ⟨trivial,trivial⟩
     simp only[aF,bK,h7,ZF,Instr.next,Sem.run_bind,Z,Result.andThen_ok,bd,JE,Zw,ZA,Jw]
     simp[Question.forced]
    split at a
    ·simp at a;subst a
     exact adf (YO.1 Zo)
    ·rename_i n
     simp at a;subst a
     by_cases yy:hN seen a1=[]
     ·exact⟨_,_,Zu ..,adf yy⟩
     ·obtain⟨B,a7,bE,bJ,b2,cF,b4,b1⟩:=Us asA (cJ:=j) (ty:=ty) ah jj m4 (by rw[iL m arU];exact aZ) is oe yy
      refine⟨_,_,Zt _ (amt a1 B (Lb seen a1 B a7)),J,Y,bE, ?_,⟨trivial,b4,b1,trivial⟩, ?_, ?_,Zh _⟩
      ·simp only[aF,bK,h7,ZF]
       exact bJ
      ·have j3:Z C (bp C (bp C h r (some (.kB (some m) eL seen st))) r (some (.kB (some m) eL (seen++[B.2.2]) st))) r=some (.kB (some m) eL (seen++[B.2.2]) st):=by rw[e9 _ ah,Zq rfl]
       obtain⟨cP,cG,d4⟩:=b2.obj r _ j3 jj
       refine b2.af6 (lA:= .vj m eL n (a1.map (·.2.2)) st (some B.2.2)) ah jj j3 ⟨Zs,Zs⟩ (by rw[e9 _ ah,Zq rfl]) (λx af=>by rw[e9 _ ah,Zg af,e9 _ ah,Zg af,iL x af]) ⟨cP,yd,seen++[B.2.2],by rw[cG];rfl, ?_,λb ah=>by cases ah;rw[T0];simp⟩ ⟨λ_ _ _ a=>(by cases a),λ_ _ _ a=>(by cases a)⟩
       have cS:=aol (seen:=seen) (b:=B.2.2) (a1.map (·.2.2)) (ZB.2 ⟨B,Lb seen a1 B a7,rfl⟩) (azJ seen a1 B a7)
       rw[agP seen]at cS
       exact Nat.le_of_lt_succ (ZN cS K)
      ·refine⟨cF.im,cF.jh,cF.new,λx af aw=> ?_,cF.below⟩
       have cK:x≠r:=λal=>af (al▸jj)
       rw[e9 _ ah,Zg cK]
   ·simp at a
  ·simp at a
 ·simp at a
end
end Go.bn

namespace Go.bn
open Go.RowKit (Below)
section
variable{C:aK}{J c6:c1}{Y dr:Nat->Prop}{h R:S ai}{j ap bj:Nat}{w bE:World}
def ape(t:S z):∀(n U:Nat) (k:List z),k.length=n->(∀i,i<n->t.get (U+i)=k[i]?)->t.kh U n=some k:=by
 intro n
 induction n with
 |zero=>intro U k a _;cases k with
  |nil=>rfl
  |cons _ _=>simp at a
 |succ n ag=>
  intro U k a bS
  cases k with
  |nil=>simp at a
  |cons E k=>
   have a8:=bS 0 Zo
   simp at a8
   have:=ag (U+1) k (by simpa using a) (λi aA=>by
    have:=bS (i+1) Zo
    rw[show U+1+i=U+(i+1) by omega,this];simp)
   simp[S.kh,a8,this]
def φ{b U n m:Nat}{k:List z}(a:kt C h b U n=some k)(aZ:m<=n):kt C h b U m=some (k.take m):=by
 unfold kt at a ⊢
 split at a
 ·rename_i c ax
  show S.kh _ U m=_
  obtain⟨H,K⟩:=S.IL _ _ _ _ a
  refine ape c m U _ (by simp;omega) λi aA=> ?_
  rw[K i Zo,YN aA]
 ·simp only[d6,Zf]at a
  have aM:n=0:=Zj a.1
  have:m=0:=Zo
  subst this
  simp[bI]
def aa6(V:cV C J Y h j bj w){x:z}{aR n m:Nat}{k:List z}(eE:b7 Y x)(a:jN C h aR x=some (n,k))(aZ:m<=n):
 (Builtin.lenOf (aF J x)).run C.P w= .ok n w/\(Builtin.firstCells aR m (aF J x)).run C.P w= .ok (bK J (k.take (m*aR))).toArray w/\d0 Y (k.take (m*aR)):=by
 unfold jN at a
 split at a
 ·simp at a;obtain⟨rfl,rfl⟩:=a
  simp[aF,Builtin.lenOf,Builtin.firstCells,bK,d0]
 ·rename_i b U len cap
  split at a
  ·rename_i bQ aw
   simp at a;obtain⟨rfl,rfl⟩:=a
   obtain⟨H,K⟩:=AI V eE (φ aw (Nat.mul_le_mul_right aR aZ))
   refine⟨?_, ?_,K⟩<;>simp[aF,Builtin.lenOf,Builtin.firstCells,H]
  ·simp at a
 ·rename_i b U len cap
  split at a
  ·rename_i bQ aw
   simp at a;obtain⟨rfl,rfl⟩:=a
   obtain⟨H,K⟩:=AI V eE (φ aw (Nat.mul_le_mul_right aR aZ))
   refine⟨?_, ?_,K⟩<;>simp[aF,Builtin.lenOf,Builtin.firstCells,H]
  ·simp at a
 ·rename_i s
  simp only[d6]at a
  obtain⟨H,a⟩:=a
  have H:aR=1:=Zj H
  subst H
  simp at a;obtain⟨rfl,rfl⟩:=a
  have dW:(fp s).size=s.length:=by simp[fp,ByteArray.size]
  have apw:∀x∈s.take m,x<256:=λx af=>eE x (YC af)
  have a7:(fp s).extract 0 m=fp (s.take m):=by
   apply ByteArray.ext
   rw[ByteArray.data_extract]
   apply YR
   simp[fp]
  have ax:=Vh J (s.take m) apw
  refine⟨by simp[aF,Builtin.lenOf,dW], ?_, ?_⟩
  ·simp only[aF,Builtin.firstCells,a7,Sem.run_pure]
   rw[ax]
   simp[List.map_take]
  ·rw[tp]
   intro v bo
   have:=YC bo
   obtain⟨e,_,rfl⟩:=ZB.1 this
   trivial
 ·simp at a
def amH(V:cV C J Y h j bj w){st:Nat}{d x:z}{res:dL}{cL:Array TypeId}{ty:TypeId}(a8:cL[0]? =some st)(jj:b7 Y d)(eE:b7 Y x)(a:LH C h j st d x=some res):
 Cn C J Y h j bj w (Builtin.copy_ cL ty #[aF J d,aF J x]) res:=by
 unfold LH at a
 split at a
 ·rename_i dO aX
  split at a
  ·rename_i aR dW
   split at a
   ·rename_i n k hY
    have J9:∀(b U len cap:Nat),Y b->L7 C h j b U (min n len) (k.take (min n len*aR))=some res->
     Cn C J Y h j bj w (Builtin.copy_ cL ty #[.slice (some ⟨(J b).cr,(J b).dH+U,none⟩) len cap,aF J x]) res:=by
     intro b U len cap ah ax
     obtain⟨H,K,ak⟩:=aa6 (m:=min n len) V eE hY (Nat.min_le_left _ _)
     have qm:Nat.min n len=min n len:=rfl
     unfold L7 at ax
     rw[hl]at ax
     split at ax
     ·rename_i aZ
      simp at ax;subst ax
      refine jT.same V ?_ trivial
      rw[aZ]at K
      simp[Builtin.copy_,a8,run_underlying aX,H,qm,aZ,ng dW,K,bK,storeCells,goInt,aF]
     ·split at ax
      ·rename_i R bF
       simp at ax;subst ax
       obtain⟨bE,bJ,b2,cF⟩:=Fx V (cJ:=j) ah ak bF
       refine⟨J,Y,bE, ?_,trivial,b2,cF,Zh _⟩
       have aug:(storeCells ⟨(J b).cr,(J b).dH+U,none⟩ (bK J (k.take (min n len*aR))).toArray.toList).run C.P w= .ok () bE:=bJ
       simp only[Builtin.copy_,a8,YW,Yc,ZT,Sem.run_bind,run_underlying aX,Result.andThen_ok,H,qm,ng dW,K,aug,Sem.run_pure,goInt,aF]
      ·simp at ax
    split at a
    ·simp at a;subst a
     obtain⟨H,K,ak⟩:=aa6 (m:=0) V eE hY (zu _)
     refine jT.same V ?_ trivial
     have qm:Nat.min n 0=0:=Nat.min_zero n
     simp only[zm,YE]at K
     simp[Builtin.copy_,a8,run_underlying aX,H,qm,ng dW,K,bK,goInt,aF]
    ·exact J9 _ _ _ _ jj a
    ·exact J9 _ _ _ _ jj a
    ·simp at a
   ·simp at a
  ·simp at a
 ·simp at a
def amx(V:cV C J Y h j bj w){t:Nat}{x:z}{res:dL}{cL:Array TypeId}{ty:TypeId}(a8:cL[0]? =some t)(eE:b7 Y x)(a:H4 C h j t x=some res):
 Cn C J Y h j bj w (Builtin.clear_ cL ty #[aF J x]) res:=by
 unfold H4 at a
 split at a
 ·rename_i dO aX
  split at a
  ·rename_i aR aG dW ce
   obtain⟨fD,fE⟩:=yY ce J Y w
   simp only[d6]at a
   obtain⟨ej,a⟩:=a
   have J9:∀(b U len cap:Nat),Y b->bI (Nat.beq len 0) (some (dL.val (.tuple []))) (match lJ C h b U (jD len aG.cells)with|some h=>some (.e2 (.tuple []) h j)|none=>none)=some res->
    Cn C J Y h j bj w (Builtin.clear_ cL ty #[.slice (some ⟨(J b).cr,(J b).dH+U,none⟩) len cap]) res:=by
    intro b U len cap ah ax
    rw[hl]at ax
    split at ax
    ·rename_i aw
     subst aw
     simp at ax;subst ax
     refine jT.same V ?_ trivial
     simp[Builtin.clear_,a8,run_underlying aX,aF,bK]
    ·rename_i aw
     obtain⟨len,rfl⟩:∃o,len=o+1:=⟨len-1,Zo⟩
     split at ax
     ·rename_i R bF
      simp at ax;subst ax
      obtain⟨bE,bJ,b2,cF⟩:=Fx V (cJ:=j) ah (MJ (te fE) _) bF
      refine⟨J,Y,bE, ?_,trivial,b2,cF,Zh _⟩
      have atH:=ahe J aG (len+1)
      simp[Builtin.clear_,a8,run_underlying aX,aF,bK,fD,atH,bJ]
     ·simp at ax
   split at a
   ·simp at a;subst a
    refine jT.same V ?_ trivial
    simp[Builtin.clear_,a8,run_underlying aX,aF,bK]
   ·exact J9 _ _ _ _ eE a
   ·exact J9 _ _ _ _ eE a
   ·simp at a
  ·simp at a
 ·simp at a
def aoJ(w:World)(bU:Array Value)(B:TypeId)(n:Nat):(w.alloc (.cells bU B)).freeze ⟨w.heap.size,n,none⟩ 1=w.alloc (.cells bU B (n,n+1)):=by
 unfold World.freeze
 rw[Zg Zd]
 show({w with heap:=(w.heap.push (.cells bU B)).modify w.heap.size _}:World)={w with heap:=w.heap.push (.cells bU B (n,n+1))}
 congr 1
 apply Array.ext_getElem?
 intro o
 rw[YX,Array.getElem?_push,Array.getElem?_push]
 by_cases aC:w.heap.size=o
 ·subst aC;simp
 ·rw[Zg aC,Zg (λB=>aC B.symm),Zg (λB=>aC B.symm)]
def aoI{p:Nat}{bU:Array Value}{ty:TypeId}{bC aA:Nat}(a:w.heap[p]? =some (.cells bU ty (bC,aA)))(n:Nat):
 (w.freeze ⟨p,n,none⟩ 1).heap[p]? =some (.cells bU ty (if bC==aA then(n,n+1)else(min bC n,max aA (n+1))))/\(∀o,o≠p->(w.freeze ⟨p,n,none⟩ 1).heap[o]? =w.heap[o]?):=by
 unfold World.freeze
 rw[Zg Zd]
 constructor
 ·simp only[YX,ZC,a,ZK]
 ·intro o aC
  simp only[YX]
  rw[Zg (λB=>aC B.symm)]
def azj(V:cV C J Y h j bj w)(eX:bj<=w.heap.size){s d:Nat}{x:Operand}{au:Operand->Value}{ed:Operand->Option z}{res:dL}(ct:jc J Y au ed [x])(a:I5 C s d x h j ed=some res):
 Cn C J Y h j bj w (convert s d (au x)) res:=by
 unfold I5 at a
 split at a
 ·rename_i B k aD aI af
  obtain⟨ex,g⟩:=ct x Zs _ af
  split at a
  ·rename_i a7
   obtain⟨ge,rfl⟩:=abt a
   rw[ex]
   have dW:(fp k).size=k.length:=by simp[fp,ByteArray.size]
   have aCf:(fp k).data.size=k.length:=by simp[fp]
   have ax:=Vh J k g
   have ao7:d0 Y (k.map λn=>z.int .u8 (Int.ofNat n)):=by
    rw[tp];intro v bo;obtain⟨e,_,rfl⟩:=ZB.1 bo;trivial
   obtain⟨cap,l8,A7⟩:∃cap,k.length<=cap/\(choose (.appendCap k.length 0 B)).run C.P w= .ok cap w.drew:=
    ⟨k.length+(w.tape w.drawn (.appendCap k.length 0 B))%(2^63-k.length),Zo,by simp[Question.forced,Question.cut]⟩
   have NW:(k.map λn=>z.int .u8 (Int.ofNat n)).length+(Array.replicate (cap-k.length) (Value.int .u8 0)).size=cap*1:=by simp;omega
   have ya:=abw (C:=C) (J:=J) (w:=w) (j:=j) ao7 (rv V) NW B []
   have ym:jU C (gh J j ⟨w.heap.size,0,cap*1⟩) (add Y j) (.cells (S.ofList (k.map λn=>z.int .u8 (Int.ofNat n)) 0 .nil) (k.map λn=>z.int .u8 (Int.ofNat n)).length (.grow [])) ⟨w.heap.size,0,cap*1⟩
    (w.drew.alloc (.cells ((bK J (k.map λn=>z.int .u8 (Int.ofNat n))).toArray++Array.replicate (cap-k.length) (Value.int .u8 0)) B (cap,cap+1))):=by
    obtain⟨bU,ty,bC,aA,ch,cD,di,f4⟩:=ya
    have Qp:=uO w.drew (.cells ((bK J (k.map λn=>z.int .u8 (Int.ofNat n))).toArray++Array.replicate (cap-k.length) (Value.int .u8 0)) B)
    have ate:w.drew.heap.size=w.heap.size:=rfl
    rw[ate]at Qp
    rw[Qp]at ch
    cases ch
    refine⟨_,B,cap,cap+1,uO w.drew _,⟨.inr ?_,cD.2.1,cD.2.2⟩,di,f4⟩
    simp[jH];omega
   refine⟨gh J j ⟨w.heap.size,0,cap*1⟩,add Y j,_, ?_, .inr rfl,V.drew.alloc V.bf (YK _) (Yb _) (rv V) eX rfl (by rw[e9 _ V.bf,Zq rfl]) (λx af=> .inl (by rw[e9 _ V.bf,Zg af])) ym
    ⟨λ_ _ _ a=>(by cases a;simp),λ_ _ _ a=>(by cases a;exact Hg)⟩,Ra V eX _ (λx af _=>by rw[e9 _ V.bf,Zg af]),Yb _⟩
   have adG:((bK J (k.map λn=>z.int .u8 (Int.ofNat n))).toArray++Array.replicate (cap-k.length) (Value.int .u8 0)).size=cap:=by simp[jH];omega
   have uQ:=aoJ w.drew ((bK J (k.map λn=>z.int .u8 (Int.ofNat n))).toArray++Array.replicate (cap-k.length) (Value.int .u8 0)) B cap
   have Sz:w.drew.heap.size=w.heap.size:=rfl
   rw[Sz]at uQ
   have Tm:(w.drew.alloc (.cells ((bK J (k.map λn=>z.int .u8 (Int.ofNat n))).toArray++Array.replicate (cap-k.length) (Value.int .u8 0)) B)).shape? w.heap.size=some (B,cap):=by
    have:=uO w.drew (.cells ((bK J (k.map λn=>z.int .u8 (Int.ofNat n))).toArray++Array.replicate (cap-k.length) (Value.int .u8 0)) B)
    rw[Sz]at this
    simp only[World.shape?,this,adG]
   simp only[convert,Sem.run_bind,run_underlying aD,run_underlying aI,run_underlying a7,Result.andThen_ok,aF,Conv.stringToBytes,dW,A7,ax,newRow,run_newObj_alloc,Sz,Sem.run_pure,markStringish,run_shape,Tm,run_freeze,uQ,
    ll,ZF,Y5,ZP,Nat.div_one]
  ·simp at a
 ·rename_i th B b U len cap aD aI af
  obtain⟨ex,g⟩:=ct x Zs _ af
  split at a
  ·rename_i a7
   simp only[d6,Zp]at a
   obtain⟨⟨Tl,Jg⟩,a⟩:=a
   have Tl:s=d:=Zj Tl
   subst Tl
   have ah:C.bf<=b:=iV Jg
   rw[ex]
   have fin:∀(c:S z) (n:Nat) (st:oS),Z C h b=some (.cells c n st)->(st= .own\/st= .marked)->∀R,Z C R b=some (.cells c n .marked)->(∀x,x≠b->Z C R x=Z C h x)->
    jT C J Y h j bj w (convert s s (aF J (.slice b U len cap))) (.slice b U len cap) R j:=by
    intro c n st aS cX R fi dG
    obtain⟨bU,ty,bC,aA,bd,ca,a3,a4⟩:=V.obj b _ aS g
    have wm:Fh (.cells c n st):=by rcases cX with rfl|rfl<;>exact⟨Zs,Zs⟩
    have Gi:bC=aA\/bU.size<=bC:=by rcases cX with rfl|rfl;exact .inl ca;exact ca
    obtain⟨ef,ev⟩:=aoI bd bU.size
    have A5:=V.base b _ ah aS g
    have JC:∃rp ky,(if bC==aA then(bU.size,bU.size+1)else(min bC bU.size,max aA (bU.size+1)))=(rp,ky)/\bU.size<=rp:=by
     by_cases al:bC=aA
     ·exact⟨_,_,by rw[Zq (by simpa using al)],Zh _⟩
     ·refine⟨_,_,by rw[Zg (by simpa using al)], ?_⟩
      have:=Gi.resolve_left al
      omega
    obtain⟨rp,ky,bw,b3⟩:=JC
    rw[bw]at ef
    refine⟨J,Y,w.freeze ⟨(J b).cr,bU.size,none⟩ 1, ?_,g,V.put ah g aS fi (λx af=> .inl (dG x af)) (λo aC=>ev o aC) ?_ ⟨bU,ty,rp,ky,ef, .inr b3,a3,a4⟩ ⟨λ_ _ _ a=>(by cases a),λ_ _ _ a=>(by cases a;exact(V.et b _ aS g).2 _ _ _ rfl)⟩, ?_,Zh _⟩
    ·have Tm:w.shape? (J b).cr=some (ty,bU.size):=UY bd
     have aqt:(s==s)=true:=by simp
     simp only[convert,Sem.run_bind,run_underlying aD,Result.andThen_ok,aF]
     rw[aD]at aI
     cases aI
     simp only[aqt,run_underlying a7,Sem.run_bind,Result.andThen_ok,markStringish,run_shape,Tm,run_freeze,Sem.run_pure]
    ·intro x dg cK af dx e0
     rw[dG x cK]at af
     exact V.alone ah g aS wm x dg cK af dx e0
    ·refine⟨λ_ _=>rfl,λ_ a=>a,λ_ a=> .inl a,λx af _=>dG x (λB=>af (by rw[B];exact g)), ?_⟩
     refine⟨?_, ?_, ?_, ?_,λo aC=>ev o Zo⟩<;>simp[World.freeze]
   split at a
   ·rename_i c n aS
    simp only[gS,Zf]at a
    subst a
    exact fin c n .own aS (.inl rfl) _ (by rw[e9 _ ah,Zq rfl]) (λx af=>by rw[e9 _ ah,Zg af])
   ·rename_i c n aS
    simp only[Zf]at a
    subst a
    exact fin c n .marked aS (.inr rfl) h aS (λ_ _=>rfl)
   ·simp at a
  ·simp at a
 ·simp at a
end
end Go.bn

namespace Go.bn
open Go.RowKit (Below)
def hO(C:aK)(J:c1)(Y:Nat->Prop)(h:S ai)(j bj:Nat)(w:World)(s:Sem Next)(res:dL):Prop:=match res with
 | .val v=>Ah C J Y h j bj w s v h j
 | .e2 v R ap=>Ah C J Y h j bj w s v R ap
 | .fork k=>∃v R,(v,R)∈k/\Ah C J Y h j bj w s v R j
 | .enter f args=>s.run C.P w= .ok (.enter f (bK J args).toArray) w/\d0 Y args
 | .known f args v=>C.g7 f args=some v/\s.run C.P w=(callFunc f (bK J args).toArray).run C.P w/\d0 Y args
 | .wrote f args R=>(GQ C f=true/\Ct C h args=some R)/\s.run C.P w=(callFunc f (bK J args).toArray).run C.P w/\d0 Y args
 | .round k args=>s.run C.P w=(Instr.yield (J k).cr (bK J args).toArray).run C.P w/\d0 Y args/\Y k
 | .defer d=>s.run C.P w= .ok (.defer (lN J d)) w/\wd Y d
 | .recover=>s.run C.P w= .ok .recover w
 | .panic v=>s.run C.P w= .halt (.panic (aF J v)) w/\b7 Y v
section
variable{C:aK}{J c6:c1}{Y dr:Nat->Prop}{h R:S ai}{j ap bj:Nat}{w bE:World}
def hO.one{s:Sem Value}{res:dL}(a:Cn C J Y h j bj w s res):hO C J Y h j bj w (do pure (.value (<-s))) res:=by
 cases res with
 |val v=>exact jT.done a
 |e2 v R ap=>exact jT.done a
 |fork k=>obtain⟨v,R,H,K⟩:=a;exact⟨v,R,H,K.done⟩
 |_=>exact a.elim
def hO.e2{s:Sem Value}{res:dL}(a:∃v R ap,res= .e2 v R ap/\jT C J Y h j bj w s v R ap):hO C J Y h j bj w (do pure (.value (<-s))) res:=by
 obtain⟨v,R,ap,rfl,a⟩:=a
 exact a.done
def hO.app(V:cV C J Y h j bj w){s:Sem Value}{res:dL}(a:PN C J Y h j bj w s res):hO C J Y h j bj w (do pure (.value (<-s))) res:=by
 rcases a with ⟨v,R,ap,rfl,c6,dr,bE,H,K,ak,ay,be⟩|⟨v,rfl,H,K⟩
 ·exact jT.done ⟨c6,dr,bE,H,K,ak,ay,be⟩
 ·exact jT.done (.same V K H)
def hO.unit{s:Sem Unit}{res:dL}(a:∃R bE,res= .e2 undef R j/\s.run C.P w= .ok () bE/\cV C J Y R j bj bE/\hF C j J Y h bj w J Y R bE):
 hO C J Y h j bj w (do s;pure .skip) res:=by
 obtain⟨R,bE,rfl,H,K,ak⟩:=a
 exact⟨J,Y,bE, .skip,by simp[H], .inr ⟨rfl,rfl⟩,by trivial,K,ak,Zh _⟩
def hO.congr{s e1:Sem Next}{res:dL}(a:s.run C.P w=e1.run C.P w)(o:hO C J Y h j bj w e1 res):hO C J Y h j bj w s res:=by
 cases res<;>simp only[hO,Ah]at o ⊢ <;>rw[a]<;>exact o
def QC(kk:xt C.P){f:Nat}{args:List z}{res:dL}(g:d0 Y args)(a:r8 C f args=some res):hO C J Y h j bj w (callFunc f (bK J args).toArray) res:=by
 unfold r8 at a
 split at a
 ·rename_i v bo
  simp at a;subst a
  exact⟨bo,rfl,g⟩
 ·split at a
  ·rename_i fn b8
   split at a
   ·rename_i c ah
    simp at a;subst a
    refine⟨?_,g⟩
    have aM:fn.name≠ "runtime.NumGoroutine":=by simpa using kk.num f fn b8 (by simp[ah])
    simp[callFunc,b8,aM,ah]
   ·simp at a
  ·simp at a
def aec(kk:xt C.P){fn:Fn}{fw args:List z}{res:dL}(apg:MI Y fn)(abf:d0 Y fw)(iY:d0 Y args)(a:Av C fn fw args=some res):
 hO C J Y h j bj w (invoke (.fn (mY J fn) (bK J fw).toArray) (bK J args).toArray) res:=by
 unfold Av at a
 split at a
 ·rename_i f
  have B:invoke (.fn (mY J (.func f)) (bK J fw).toArray) (bK J args).toArray=callFunc f (bK J (args++fw)).toArray:=by
   simp[invoke,mY,CD]
  rw[B]
  exact QC kk (AX iY abf) a
 ·rename_i k
  simp at a;subst a
  exact⟨rfl,iY,apg⟩
 ·simp at a
def avC(V:cV C J Y h j bj w)(kk:xt C.P){t:Nat}{v:z}{name:String}{args:List z}{res:dL}(fo:b7 Y v)(iY:d0 Y args)(a:Fv C h t v name args=some res):
 hO C J Y h j bj w (callMethod (.iface t (aF J v)) name (bK J args).toArray) res:=by
 obtain⟨o,aC⟩:∃o,C.P.types.size+Made.depth=o+1:=⟨C.P.types.size+99,rfl⟩
 have go:∀(f:Nat) (x:z),b7 Y x->(method (o+1) t (aF J v) name).run C.P w= .ok (f,aF J x) w->r8 C f (x::args)=some res->hO C J Y h j bj w (callMethod (.iface t (aF J v)) name (bK J args).toArray) res:=by
  intro f x eE aZ ax
  refine(QC (J:=J) (h:=h) (j:=j) (bj:=bj) (w:=w) kk (args:=x::args) (show b7 Y x/\d0 Y args from⟨eE,iY⟩) ax).congr ?_
  simp[callMethod,aC,aZ,bK]
 unfold Fv at a
 split at a
 ·rename_i i aA
  split at a
  ·rename_i m aZ
   simp only[d6]at a
   obtain⟨av,a⟩:=a
   have Gz:m.path.toList=[]:=by simpa using av
   split at a
   ·rename_i f B b8 aX
    refine go f v fo ?_ a
    simp[method,typeInfo,aA,aZ,Gz,follow,b8,receiverAt,run_underlying aX,Place.get]
   ·rename_i f B b8 aX
    split at a
    ·rename_i x af
     obtain⟨H,K⟩:=XU V fo af
     refine go f x K ?_ a
     cases v with
     |ptr b U=>
      simp only[Instr.loadAt,Instr.sureAddr,aF,Sem.run_bind,Sem.run_pure,Result.andThen_ok]at H
      have as8:∀(iD:TypeId) (E:Addr) (nm:String),Builtin.ssaWrapNilChk_ #[iD] iD #[.pointer (some E),strVal "",strVal nm]=pure (.pointer (some E)):=λ_ _ _=>rfl
      have Dm:m.path= #[]:=by simpa using av
      simp[method,typeInfo,aA,aZ,Dm,follow,b8,receiverAt,run_underlying aX,Place.get,aF,as8,asAddr,H]
     |_=>simp[pv,ep,aV]at af;split at af<;>simp at af
    ·simp at a
   ·rename_i f d aM b8 aX
    refine go f v fo ?_ a
    cases d<;>first
     |exact(aM _ rfl).elim
     |simp[method,typeInfo,aA,aZ,Gz,follow,b8,receiverAt,run_underlying aX,Place.get]
   ·simp at a
  ·simp at a
 ·simp at a
def amd(V:cV C J Y h j bj w)(eX:bj<=w.heap.size)(kk:xt C.P){b:Builtin}{args:Array Operand}{cL:Array TypeId}{ty:TypeId}{amG:Array Bool}{au:Operand->Value}{ed:Operand->Option z}{res:dL}
 (ct:jc J Y au ed args.toList)(a:IR C b args cL h j ed=some res):hO C J Y h j bj w (builtin b cL ty amG (args.map au)) res:=by
 have lM:∀{t:Nat}{rest:List Nat},cL.toList=t::rest->cL[0]? =some t:=λaB=>by rw[<-ZM,aB];rfl
 have Qo:∀{t ac:Nat}{rest:List Nat},cL.toList=t::ac::rest->cL[1]? =some ac:=λaB=>by rw[<-ZM,aB];rfl
 unfold IR at a
 split at a
 ·rename_i s x af
  obtain⟨bd,ca⟩:=sa ct af
  rw[bd]
  split at a
  ·rename_i st iD rest aB
   split at a
   ·rename_i al ho
    split at a
    ·rename_i n aM
     exact hO.app V (ak5 (ty:=ty) V eX (lM aB) (Qo aB) ho ca.1 aM a)
    ·simp at a
   ·rename_i B ho
    exact hO.app V (XQ (ty:=ty) V eX (lM aB) (Qo aB) ho (.inr ⟨B,rfl⟩) ca.1 ca.2.1 a)
   ·rename_i ho
    exact hO.app V (XQ (ty:=ty) V eX (lM aB) (Qo aB) ho (.inl rfl) ca.1 ca.2.1 a)
   ·simp at a
  ·simp at a
 ·rename_i d x af
  obtain⟨bd,ca⟩:=sa ct af
  rw[bd]
  split at a
  ·rename_i st rest aB
   exact hO.one (amH (ty:=ty) V (lM aB) ca.1 ca.2.1 a)
  ·simp at a
 ·rename_i af
  simp at a;subst a
  exact rfl
 ·rename_i x af
  obtain⟨bd,ca⟩:=sa ct af
  rw[bd]
  split at a
  ·rename_i t rest aB
   exact hO.one (amx (ty:=ty) V (lM aB) ca.1 a)
  ·simp at a
 ·rename_i m o af
  obtain⟨bd,ca⟩:=sa ct af
  rw[bd]
  split at a
  ·rename_i t rest aB
   obtain⟨v,R,rfl,aI⟩:=am3 (ty:=ty) V (lM aB) ca.1 ca.2.1 a
   exact jT.done aI
  ·simp at a
 ·simp at a
def ak6(V:cV C J Y h j bj w)(eX:bj<=w.heap.size)(kk:xt C.P){oper:Oper}{au:Operand->Value}{ed:Operand->Option z}{res:dL}(ct:jc J Y au ed oper.op.operands.toList)
 (a:nx oper.op C h j ed=some res):hO C J Y h j bj w (execOp au oper) res:=by
 obtain⟨dst,op,type,pos,after,guard⟩:=oper
 have ae7:∀t m o x,jc J Y au ed [m,o,x]->Ga C t m o x h j ed=some res->hO C J Y h j bj w (do Instr.mapUpdate t (au m) (au o) (au x);pure .skip) res:=by
  intro t m o x ct a
  unfold Ga at a
  split at a
  ·rename_i E b c aB ah ax
   obtain⟨bw,b4⟩:=ct m Zs E aB
   obtain⟨b3,b1⟩:=ct o Zs b ah
   obtain⟨er,cM⟩:=ct x Zs c ax
   obtain⟨R,bE,H,K,ak,ay⟩:=alc V b4 b1 cM a
   rw[bw,b3,er]
   exact hO.unit ⟨R,bE,H,K,ak,ay⟩
  ·simp at a
 cases op<;>simp only[nx]at a<;>(try(cases a;done))<;>simp only[execOp]<;>simp only[Op.operands]at ct
 case mapUpdate t m o x=>exact ae7 t m o x (by simpa using ct) a
 case insert t m o x=>exact ae7 t m o x (by simpa using ct) a
 case mapEntry t m o=>
  obtain⟨v,R,H,K⟩:=avt V (by simpa using ct) a
  exact hO.e2 ⟨v,R,j,H,K⟩
 case entryStore t m s x=>exact hO.unit (anC V (by simpa using ct) a)
 case makeSlice t k c=>exact hO.e2 (avq V eX (by simpa using ct) a)
 case makeMap t r=>
  cases r with
  |none=>simp at a
  |some r=>exact hO.e2 (avo V eX (by simpa using ct) a)
 case convert s d x=>exact hO.one (azj V eX (by simpa using ct) a)
 case range t x=>exact hO.e2 (axu V eX (by simpa using ct) a)
 case next d7 s=>exact hO.one (avW V (by simpa using ct) a)
 case panic x=>
  unfold RW at a
  split at a
  ·rename_i t v af
   simp at a;subst a
   obtain⟨B,g⟩:=ct x Zs _ af
   refine⟨?_,g⟩
   simp[Instr.panic,B,aF]
  ·simp at a
 case defer c=>
  unfold RK at a
  split at a
  ·rename_i f args cL
   split at a
   ·rename_i fn first fw cg b8 has
    simp at a;subst a
    simp only[Call.operands]at ct
    obtain⟨B,g⟩:=ct f Zs _ b8
    obtain⟨bd,ca⟩:=sa (ct.mono (by simp;intro x af;exact .inr af)) has
    refine⟨?_,⟨g.1,g.2.2⟩,AX g.2.1 ca⟩
    simp[resolve,B,aF,Deferred.ofValue,bd,lN,CA,CD]
   ·simp at a
  ·simp at a
 case call c=>
  unfold CZ at a
  split at a
  ·rename_i f args cL
   split at a
   ·rename_i fn first fw cg b8 has
    simp only[Call.operands]at ct
    obtain⟨B,g⟩:=ct f Zs _ b8
    obtain⟨bd,ca⟩:=sa (ct.mono (by simp;intro x af;exact .inr af)) has
    refine(aec (J:=J) (h:=h) (j:=j) (bj:=bj) (w:=w) kk g.1 g.2.2 (AX g.2.1 ca) a).congr ?_
    simp[resolve,B,aF,Deferred.ofValue,bd,CD]
   ·simp at a
  ·rename_i b args cL
   simp only[Call.operands]at ct
   show hO C J Y h j bj w (builtin b cL type _ (args.map au)) res
   exact amd V eX kk (ct.mono Zs) a
  ·rename_i r name args cL
   split at a
   ·rename_i t v cg yu has
    simp only[Call.operands]at ct
    obtain⟨B,g⟩:=ct r Zs _ yu
    obtain⟨bd,ca⟩:=sa (ct.mono (by simp;intro x af;exact .inr af)) has
    refine(avC (v:=v) V kk g ca a).congr ?_
    simp[resolve,B,aF,invoke,bd]
   ·simp at a
end
end Go.bn

namespace Go.bn
noncomputable section
abbrev dU:=Option z
structure ir where
 fn:Nat
 n:Nat
 am:Nat
 bg:List hE
 aN:Bool
 ro:Option Nat
 cs:List gz
abbrev hr:=k1->List dJ->ir->S z->S ai->Nat->dU
def oJ(g:Option (Nat×Bool))(an:List (Nat×z)):Option Bool:=
 match g with
 |none=>some true
 |some (W,lF)=>(match ee an W with
  |some v=>(match v with| .bool b=>some (b==lF)|_=>some false)
  |none=>none)
def pK(f:z->z->Bool):List z->List z->Bool
 |[],[]=>true
 |E::k,b::m=>f E b&&pK f k m
 |_,_=>false
def z.same:Nat->z->z->Bool
 |0,_,_=>false
 |d+1,x,e=>match x,e with
  | .bool E, .bool b=>E==b
  | .int o E, .int eA b=>decide (o=eA)&&decide (E=b)
  | .str E, .str b=>mL E b
  | .ptr E b, .ptr fu dw=>Nat.beq E fu&&Nat.beq b dw
  | .cW, .cW=>true
  | .slice E b c B, .slice fu dw gp fy=>Nat.beq E fu&&Nat.beq b dw&&Nat.beq c gp&&Nat.beq B fy
  | .el E b c B, .el fu dw gp fy=>Nat.beq E fu&&Nat.beq b dw&&Nat.beq c gp&&Nat.beq B fy
  | .a2, .a2=>true
  | .map E, .map b=>Nat.beq E b
  | .mf, .mf=>true
  | .func f E b, .func aaR fu dw=>decide (f=aaR)&&pK (z.same d) E fu&&pK (z.same d) b dw
  | .nilFunc, .nilFunc=>true
  | .iface t v, .iface g8 fd=>Nat.beq t g8&&z.same d v fd
  | .nilIface, .nilIface=>true
  | .agg E, .agg b=>pK (z.same d) E b
  | .tuple E, .tuple b=>pK (z.same d) E b
  |_,_=>false
def vZ(C:aK)(base:Nat)(I:S z):List fh->List (Nat×z)->S ai->Option (List (Nat×z)×S ai)
 |[],an,h=>some (an,h)
 |x::k,an,h=>(match oJ x.g an with
  |none=>none
  |some false=>vZ C base I k ((x.i,undef)::an) h
  |some true=>(match mG x.op with
   | .make=>(match oc x.op C (base+x.i) an I with
     |some (v,cN)=>jt (bp C h (base+x.i) (some cN)) λh=>vZ C base I k ((x.i,v)::an) h
     |none=>none)
   |_=>(match gJ x.op C h an I with
    |some v=>vZ C base I k ((x.i,v)::an) h
    |none=>none)))
def CI(C:aK)(I:S z)(an:List (Nat×z))(h:S ai):List fh->Bool
 |[]=>true
 |x::k=>(match oJ x.g an with
  |none=>false
  |some false=>CI C I an h k
  |some true=>(match gJ x.op C h an I,ee an x.i with
   |some v,some ac=>z.same 30 v ac&&CI C I an h k
   |_,_=>false))
def xR(an:List (Nat×z)):List (Nat×Nat)->S z->Option (S z)
 |[],I=>some I
 |(i,d)::k,I=>(match ee an i with|some v=>jt (I.set d (some v)) λI=>xR an k I|none=>none)
def exitTo(id:Nat):List dJ->Option (List dJ)
 |[]=>none
 | .inBlock tI::o=>bI (Nat.beq tI id) (some o)<|exitTo id o
 |_::o=>exitTo id o
def jp{α:Type}(U:Option α)(o:α->dU):dU:=Option.rec (motive:=λ_=>dU) none (λE=>o E) U
def Ie(k:List (Nat×z)):Nat->(z->dU)->dU:=
 List.rec (motive:=λ_=>Nat->(z->dU)->dU) (λ_ _=>none)
  (λp _ ag W o=>Prod.rec (motive:=λ_=>dU) (λE b=>Bool.rec (motive:=λ_=>dU) (ag W o) (o b) (Nat.beq E W)) p) k
def ME(t:S z):Nat->(z->dU)->dU:=
 S.rec (motive:=λ_=>Nat->(z->dU)->dU) (λ_ _=>none)
  (λv _ _ h5 p9 i o=>Nat.rec (motive:=λ_=>dU) (Option.rec (motive:=λ_=>dU) none (λE=>o E) v)
   (λW _=>Bool.rec (motive:=λ_=>dU) (p9 (Nat.div W 2) o) (h5 (Nat.div W 2) o) (Nat.beq (Nat.mod W 2) 0)) i) t
def xN(x:kq):List (Nat×z)->S z->(z->dU)->dU:=
 kq.rec (motive:=λ_=>List (Nat×z)->S z->(z->dU)->dU) (λW an _ o=>Ie an W o) (λn _ I o=>ME I n o) (λE _ _ o=>o E) x
def agZ(g:Option (Nat×Bool)):List (Nat×z)->dU->dU->dU:=
 Option.rec (motive:=λ_=>List (Nat×z)->dU->dU->dU) (λ_ E _=>E)
  (λp an E b=>jp (oJ (some p) an) λw=>Bool.rec (motive:=λ_=>dU) b E w) g
def IG(k:List (Nat×Nat)):List (Nat×z)->S z->(S z->dU)->dU:=
 List.rec (motive:=λ_=>List (Nat×z)->S z->(S z->dU)->dU) (λ_ I o=>o I)
  (λp _ ag an I o=>Prod.rec (motive:=λ_=>dU) (λi d=>Ie an i λv=>jt (S.set I d (some v)) λI=>ag an I o) p) k
def EI(d7:dJ)(o:List dJ)(bZ:ir)(I:S z):List gz:=
 ir.rec (motive:=λ_=>List gz) (λfn n am bg aN ro cs=>⟨fn,n,am,I,d7::o,bg, .run,aN,ro⟩::cs) bZ
def oa(ag:hr)(C:aK)(f:Nat)(args:List z)(deferred:Bool)(cs:List gz)(h:S ai)(j:Nat):dU:=
 match C.P.funcs[f]? with
 |some fn=>(match fn.body with
  |some c=>p6 (Nat.lor (kj c) (nU fn.results.toList)) λam=>bI (Nat.ble args.length fn.ntmps&&lP C am c&&yU am fn.results.toList) (ag .run [.code c] ⟨f,fn.ntmps,am,[],deferred,none,cs⟩ (S.ofList args 0 .nil) h j)<|none
  |none=>none)
 |none=>none
def w5(n:Nat):List Nat->List z->S z->Option (S z)
 |[],[],I=>some I
 |p::df,E::cg,I=>bI (Nat.blt p n) (w5 n df cg (I.set p (some E)))<|none
 |_,_,_=>none
def od(d7:dJ)(v:z):Option dJ:=match d7 with
 | .s0 ao an a rest fin=>some (.Hr ao ((a,v)::an) rest fin)
 | .y9 ao base an a li fin=>some (.drawn ao base ((a,v)::an) li fin)
 | .inRangeFunc k=>some (.endRangeFunc k)
 |_=>none
def UT(ag:hr)(todo:List dJ)(bZ:ir)(v:z)(I:S z)(h:S ai)(j:Nat):dU:=
 match todo with
 |[]=>none
 |d7::o=>(match od d7 v with|some hg=>ag .run (hg::o) bZ I h j|none=>none)
def v2:List Nat->S z->S z
 |[],I=>I
 |d::k,I=>v2 k (I.set d none)
def ux(todo:List dJ)(I:S z):S z:=match todo with
 | .s0 ao _ _ _ _::_=>v2 (dstsOf ao.toList) I
 | .y9 ao _ _ _ _ _::_=>v2 (dstsOf ao.toList) I
 |_=>I
def Es(chain:List rM)(bN:k1):k1:=match bN with
 | .panicking pO=> .panicking (chain++pO)
 |_=> .panicking chain
def af2(ag:hr)(c:gz)(cs:List gz)(chain:List rM)(h:S ai)(j:Nat):dU:=
 match c with
 |⟨fn,n,am,I,todo,bg,bN,aN,ro⟩=>ag (Es chain bN) todo ⟨fn,n,am,bg,aN,ro,cs⟩ (ux todo I) h j
def Ca(aN:Bool)(cs:List gz):Option (z×List gz):=
 bI (aN) ((match cs with
  |c::rest=>(match c with
   |⟨fn,n,am,I,todo,bg,bN,js,ro⟩=>(match bN with
    | .panicking (⟨v,false⟩::BV)=>some (v,⟨fn,n,am,I,todo,bg, .panicking (⟨v,true⟩::BV),js,ro⟩::rest)
    |_=>some (.nilIface,cs)))
  |[]=>none))<|some (.nilIface,cs)
def xT(ag:hr)(d7:dJ)(o:List dJ)(bZ:ir)(I:S z)(j:Nat):List (z×S ai)->dU
 |[]=>none
 |[(v,h)]=>(match od d7 v with|some hg=>ag .run (hg::o) bZ I h j|none=>none)
 |(v,h)::k=>(match od d7 v with
  |some hg=>(match ag .run (hg::o) bZ I h j,xT ag d7 o bZ I j k with
   |some E,some b=>bI (z.same 30 E b) (some E) none
   |_,_=>none)
  |none=>none)
def ny(r:dL)(ag:hr)(C:aK)(d7:dJ)(o:List dJ)(bZ:ir)(I:S z)(h:S ai)(j:Nat):dU:=
 match r with
 | .val v=>(match od d7 v with|some hg=>ag .run (hg::o) bZ I h j|none=>none)
 | .e2 v h j=>(match od d7 v with|some hg=>ag .run (hg::o) bZ I h j|none=>none)
 | .enter f args=>oa ag C f args false (EI d7 o bZ I) h j
 | .known _ _ v=>(match od d7 v with|some hg=>ag .run (hg::o) bZ I h j|none=>none)
 | .wrote _ _ h=>(match od d7 (.tuple [])with|some hg=>ag .run (hg::o) bZ I h j|none=>none)
 | .round k args=>(match Z C h k with
   |some (.loop _ _ fn n am cZ params assign body _)=>(match w5 n params args cZ with
    |some cZ=>ag .run [.code assign, .beginRound, .code body] ⟨fn,n,am,[],false,some k,EI d7 o bZ I⟩ cZ h j
    |none=>none)
   |_=>none)
 | .defer d=>(match bZ with
   |⟨fn,n,am,bg,aN,ro,cs⟩=>(match ro with
    |none=>(match od d7 undef with|some hg=>ag .run (hg::o) ⟨fn,n,am,d::bg,aN,none,cs⟩ I h j|none=>none)
    |some _=>none))
 | .recover=>(match bZ with
   |⟨fn,n,am,bg,aN,ro,cs⟩=>(match ro with
    |none=>(match Ca aN cs with
     |some (v,c3)=>(match od d7 v with|some hg=>ag .run (hg::o) ⟨fn,n,am,bg,aN,none,c3⟩ I h j|none=>none)
     |none=>none)
    |some _=>none))
 | .panic v=>(match bZ with
   |⟨fn,n,am,bg,aN,ro,cs⟩=>(match ro with
    |none=>ag (.panicking [⟨v,false⟩]) (d7::o) ⟨fn,n,am,bg,aN,none,cs⟩ (ux (d7::o) I) h j
    |some _=>none))
 | .fork k=>xT ag d7 o bZ I j k
def UA(op:jS):aK->S ai->Nat->List (Nat×z)->S z->(z->S ai->Nat->dU)->(dL->dU)->dU:=
 match op with
 | .D5 x=>λ_ h j an I aj _=>xN x an I λv=>aj v h j
 | .pick c E b=>λ_ h j an I aj _=>jp (gJ (.pick c E b) ⟨default, .nil,0,λ_ _=>none,0⟩ h an I) λv=>aj v h j
 | .fq E=>λC h j an I aj _=>xN E an I λE=>jp (aV C h E) λv=>aj v h j
 | .Bz n E=>λC h j an I aj _=>xN E an I λE=>jp (ep C h n E) λv=>aj v h j
 | .off d x=>λ_ h j an I aj _=>xN x an I λE=>jp (iq d E) λv=>aj v h j
 | .Bq n aR x i=>λC h j an I aj _=>jp (gJ (.Bq n aR x i) C h an I) λv=>aj v h j
 | .Br aR x i=>λC h j an I aj _=>jp (gJ (.Br aR x i) C h an I) λv=>aj v h j
 | .Eb x=>λ_ h j an I aj _=>xN x an I λE=>jp (pn E) λv=>aj v h j
 | .J6 op x e=>λ_ h j an I aj _=>xN x an I λE=>xN e an I λb=>jp (bm op E b) λv=>aj v h j
 | .ext i x=>λ_ h j an I aj _=>xN x an I λE=>jp (rJ i E) λv=>aj v h j
 | .h9 bY U=>λC h j an I aj _=>jp (gJ (.h9 bY U) C h an I) λv=>aj v h j
 | .make bY U=>λC h j an I _ p5=>jp (Om (.make bY U) C h j an I) p5
 | .st n E v=>λC h j an I _ p5=>jp (hH (.st n E v) C h j an I) p5
 | .call f args=>λC h j an I _ p5=>jp (hH (.call f args) C h j an I) p5
 | .fg bY U=>λC h j an I _ p5=>jp (hH (.fg bY U) C h j an I) p5
structure gt where
 ag:hr
 ao:Array Oper
 fin:List (Nat×Nat)
 o:List dJ
 bZ:ir
def an6(X:gt)(C:aK)(I:S z)(an:List (Nat×z))(i:Nat)(rest:List fh)(r:dL)(h:S ai)(j:Nat):dU:=
 match X with|⟨ag,ao,fin,o,bZ⟩=>ny r ag C (.s0 ao an i rest fin) o bZ I h j
abbrev ST:=gt->aK->S z->List (Nat×z)->S ai->Nat->dU
def axh(m5:ST)(X:gt)(C:aK)(I:S z)(an:List (Nat×z))(i:Nat)(v:z)(h:S ai)(j:Nat):dU:=m5 X C I ((i,v)::an) h j
def aqU(m5:ST)(X:gt)(C:aK)(I:S z)(an:List (Nat×z))(i:Nat)(rest:List fh)(h:S ai)(j:Nat)(r:dL):dU:=
 match r with
 | .val v=>m5 X C I ((i,v)::an) h j
 | .e2 v h j=>m5 X C I ((i,v)::an) h j
 |r=>an6 X C I an i rest r h j
def IB(X:gt)(_:aK)(I:S z)(an:List (Nat×z))(h:S ai)(j:Nat):dU:=
 gt.rec (motive:=λ_=>dU) (λag _ fin o bZ=>IG fin an I λI=>ag .run o bZ I h j) X
def Ej(i:Nat)(g:Option (Nat×Bool))(op:jS)(rest:List fh)(m5:ST)(X:gt)(C:aK)(I:S z)(an:List (Nat×z))(h:S ai)(j:Nat):dU:=
 agZ g an (UA op C h j an I (axh m5 X C I an i) (aqU m5 X C I an i rest h j)) (m5 X C I ((i,undef)::an) h j)
def y0(rest:List fh):ST:=
 List.rec (motive:=λ_=>ST) IB (λx rest m5=>fh.rec (motive:=λ_=>ST) (λi g op=>Ej i g op rest m5) x) rest
def xK(ag:hr)(C:aK)(ao:Array Oper)(base:Nat)(an:List (Nat×z))(li:List vL)(fin:List (Nat×Nat))(o:List dJ)(bZ:ir)(I:S z)(h:S ai)(j:Nat):dU:=
 match li with
 |[]=>none
 |s::rest=>(match vZ C base I s.tN an h with
  |none=>none
  |some (an,h)=>bI (CI C I an h s.UN) ((match s.fg with
    |none=>IG fin an I λI=>ag .run o bZ I h j
    |some a=>(match oJ a.g an with
     |none=>none
     |some w=>bI (w) ((match hH a.op C h j an I with
       |some r=>ny r ag C (.y9 ao base an a.i rest fin) o bZ I h j
       |none=>none))<|ag .run (.drawn ao base ((a.i,undef)::an) rest fin::o) bZ I h j)))<|none)
def xe(fW:List rM):k1:=match fW with|⟨_,true⟩::_=> .returning|_=> .panicking fW
def ta(ag:hr)(aN:Bool)(cs:List gz)(v:z)(h:S ai)(j:Nat):dU:=
 match cs with
 |c::rest=>(match c with
  |⟨fn,n,am,I,todo,bg,bN,js,ro⟩=>(match bN with
   | .run=>bI aN none (UT ag todo ⟨fn,n,am,bg,js,ro,rest⟩ v I h j)
   | .returning=>bI aN (ag .returning todo ⟨fn,n,am,bg,js,ro,rest⟩ I h j) none
   | .panicking fW=>bI aN (ag (xe fW) todo ⟨fn,n,am,bg,js,ro,rest⟩ I h j) none))
 |[]=>bI aN none (some v)
def TN(iN:Option Code):Bool:=match iN with|none=>true|some .ret=>true|_=>false
def afI(iN:Option Code):Bool:=match iN with|none=>true|some .ret=>true|some (.exit _)=>true|_=>false
def ox(iN:Option Code)(ag:hr)(C:aK)(todo:List dJ)(bZ:ir)(I:S z)(h:S ai)(j:Nat):dU:=
 match bZ with
 |⟨fn,n,am,bg,aN,ro,cs⟩=>(match ro with
  |none=>bI (TN iN) (ag .returning todo ⟨fn,n,am,bg,aN,none,cs⟩ I h j)<|none
  |some k=>(match Z C h k with
   |some (.loop _ _ fn n am I params assign body defers)=>
    bI ((jI C k&&afI iN)&& !aN) (jt (bp C h k (some (.loop (bI iN.isNone .ready .done) iN fn n am I params assign body defers))) λh=>ta ag aN cs (.bool iN.isNone) h j)<|none
   |_=>none))
def w2(C:aK)(h:S ai)(I:S z):List ResultVar->Option (List z)
 |[]=>some []
 | .tmp t::k=>(match I.get t,w2 C h I k with|some v,some r=>some (v::r)|_,_=>none)
 | .cell E t::k=>(match I.get E with
   |some p=>(match pv C h t p,w2 C h I k with|some v,some r=>some (v::r)|_,_=>none)
   |none=>none)
def v8(I:S z)(U:Operand):Option z:=match U with
 | .tmp t=>I.get t
 | .const v=>Eg v
 | .global g=>some (.ptr g 0)
 | .func f=>some (.func (.func f) [] [])
def KS(f:Operand)(params:Array Nat)(assign body:Code)(ag:hr)(C:aK)(o:List dJ)(bZ:ir)(I:S z)(h:S ai)(j:Nat):dU:=
 match v8 I f,bZ with
 |some (.func (.func g) first fw),⟨fn,n,am,bg,aN,ro,cs⟩=>
  (
   match ro with
   |none=>p6 j λj=>
    oa ag C g (first++[.func (.yield (j+1)) [] []]++fw) false (⟨fn,n,am,I, .inRangeFunc (j+1)::o,⟨.collected j,[]⟩::bg, .run,aN,none⟩::cs)
     (bp C (bp C h j (some (.deferred (some [])))) (j+1) (some (.loop .ready none fn n am I params.toList assign body j))) (j+2)
   |some k=>(match Z C h k with
    |some (.loop _ _ _ _ _ _ _ _ _ defers)=>p6 j λj=>
     oa ag C g (first++[.func (.yield j) [] []]++fw) false (⟨fn,n,am,I, .inRangeFunc j::o,bg, .run,aN,some k⟩::cs)
      (bp C h j (some (.loop .ready none fn n am I params.toList assign body defers))) (j+1)
    |_=>none))
 |_,_=>none
def AR(id:Nat)(ag:hr)(C:aK)(o:List dJ)(bZ:ir)(I:S z)(h:S ai)(j:Nat):dU:=
 match exitTo id o with
 |some eA=>ag .run eA bZ I h j
 |none=>ox (some (.exit id)) ag C (.code (.exit id)::o) bZ I h j
def Io(c:Operand)(I:S z)(E b:dU):dU:=jp (v8 I c) λv=>match v with
 | .bool t=>Bool.rec (motive:=λ_=>dU) b E t
 |_=>none
def UQ(n am:Nat)(ao:Array Oper)(ag:hr)(C:aK)(o:List dJ)(bZ:ir)(I:S z)(h:S ai)(j:Nat):dU:=
 jp (Kz C n ao am) λr=>PR.rec (motive:=λ_=>dU) (λrest fin=>y0 rest ⟨ag,ao,fin,o,bZ⟩ C I [] h j) r
def UP(n am:Nat)(ao:Array Oper)(ag:hr)(C:aK)(o:List dJ)(bZ:ir)(I:S z)(h:S ai)(j:Nat):dU:=
 jp (Ky C n ao am) λr=>PQ.rec (motive:=λ_=>dU) (λli fin=>p6 j λj=>xK ag C ao j [] li fin o bZ I h (j+ao.size)) r
def af7(ao:Array Oper)(AP:Bool)(ag:hr)(C:aK)(o:List dJ)(bZ:ir)(I:S z)(h:S ai)(j:Nat):dU:=
 ir.rec (motive:=λ_=>dU) (λfn n am bg aN ro cs=>Bool.rec (motive:=λ_=>dU)
  (UQ n am ao ag C o ⟨fn,n,am,bg,aN,ro,cs⟩ I h j) (UP n am ao ag C o ⟨fn,n,am,bg,aN,ro,cs⟩ I h j) AP) bZ
abbrev Af:=hr->aK->List dJ->ir->S z->S ai->Nat->dU
def MH:Af:=λag _ o bZ I h j=>ag .run o bZ I h j
def Ec:Af:=λ_ _ _ _ _ _ _=>none
def up(c:Code):Af:=
 Code.rec (motive:=λ_=>Af) MH
  (λ_ ao d=>af7 ao d)
  (λ_ b mE _ ag C o=>mE ag C (.code b::o))
  (λc _ _ mE hv ag C o bZ I h j=>Io c I (mE ag C o bZ I h j) (hv ag C o bZ I h j))
  (λid _ hv ag C o=>hv ag C (.inBlock id::o))
  (λb hv ag C o=>hv ag C (.inLoop b::o))
  (λf params assign body _ _=>KS f params assign body)
  (λid=>AR id)
  (λb hv ag C o=>hv ag C (.inScope b::o))
  (λ_=>MH)
  (λ_=>Ec)
  (λag C o=>ox (some .ret) ag C (.code .ret::o))
  (λ_=>Ec) c
def FP(k:Nat):Af:=λag C o bZ I h j=>match Z C h k with
 |some (.loop state pending gK aP kU cZ params assign body defers)=>
  (
   match state with
   | .busy=>none
   |_=>bI (jI C k) (jt (bp C h k (some (.loop .exhausted pending gK aP kU cZ params assign body defers))) λh=>ag .run ((pending.map dJ.code).toList++o) bZ I h j)<|none)
 |_=>none
def Ig:Af:=λag C o bZ I h j=>match bZ with
 |⟨fn,n,am,bg,aN,ro,cs⟩=>match ro with
  |some k=>(match Z C h k with
   |some (.loop .ready pending gK aP kU cZ params assign body defers)=>
    bI (jI C k) (jt (bp C h k (some (.loop .busy pending gK aP kU cZ params assign body defers))) λh=>ag .run o ⟨fn,n,am,bg,aN,some k,cs⟩ I h j)<|none
   |_=>none)
  |none=>none
def aee(d7:dJ):Af:=
 dJ.rec (motive:=λ_=>Af) (λc=>up c) (λ_=>MH) (λb ag C o=>up b ag C (.inLoop b::o)) (λ_=>MH)
  (λao an rest fin ag C o bZ I h j=>y0 rest ⟨ag,ao,fin,o,bZ⟩ C I an h j)
  (λao base an li fin ag C o bZ I h j=>xK ag C ao base an li fin o bZ I h j)
  (λ_ _ _ _ _=>Ec) (λ_ _ _ _ _ _=>Ec) (λ_=>Ec) (λk=>FP k) Ig d7
def agy(todo:List dJ)(ag:hr)(C:aK)(bZ:ir)(I:S z)(h:S ai)(j:Nat):dU:=
 List.rec (motive:=λ_=>dU) (ox none ag C [] bZ I h j) (λd7 o _=>aee d7 ag C o bZ I h j) todo
def w7(d:hE)(ds:List hE)(bN:k1)(todo:List dJ)(ag:hr)(C:aK)(bZ:ir)(I:S z)(h:S ai)(j:Nat):dU:=
 match bZ with
 |⟨fn,n,am,_,aN,ro,cs⟩=>(match d with
  |⟨.collected r,_⟩=>(match Z C h r with
   |some (.deferred (some pw))=>bI (jI C r) (jt (bp C h r (some (.deferred none))) λh=>ag bN todo ⟨fn,n,am,pw++ds,aN,ro,cs⟩ I h j)<|none
   |_=>none)
  |⟨.fn f fw,args⟩=>(match Av C f fw args with
   |some (.enter f cg)=>oa ag C f cg true (⟨fn,n,am,I,todo,ds,bN,aN,ro⟩::cs) h j
   |_=>none))
def one(aY:List z):z:=match aY with|[v]=>v|aY=> .tuple aY
def K2(todo:List dJ)(ag:hr)(C:aK)(bZ:ir)(I:S z)(h:S ai)(j:Nat):dU:=
 match bZ with
 |⟨fn,n,am,bg,aN,ro,cs⟩=>match bg with
  |d::ds=>w7 d ds .returning todo ag C ⟨fn,n,am,[],aN,ro,cs⟩ I h j
  |[]=>(match C.P.funcs[fn]? with
   |some f=>(match w2 C h I f.results.toList with
    |some aY=>ta ag aN cs (one aY) h j
    |none=>none)
   |none=>none)
def K1(chain:List rM)(todo:List dJ)(ag:hr)(C:aK)(bZ:ir)(I:S z)(h:S ai)(j:Nat):dU:=
 match bZ with
 |⟨fn,n,am,bg,aN,ro,cs⟩=>match bg with
  |d::ds=>w7 d ds (.panicking chain) todo ag C ⟨fn,n,am,[],aN,ro,cs⟩ I h j
  |[]=>(match cs with
   |c::rest=>af2 ag c rest chain h j
   |[]=>none)
def Vg(ag:hr)(C:aK)(bN:k1)(todo:List dJ)(bZ:ir)(I:S z)(h:S ai)(j:Nat):dU:=
 k1.rec (motive:=λ_=>dU) (agy todo ag C bZ I h j) (K2 todo ag C bZ I h j) (λfW=>K1 fW todo ag C bZ I h j) bN
def run(C:aK)(n:Nat):hr:=
 Nat.rec (motive:=λ_=>hr) (λ_ _ _ _ _ _=>none) (λ_ ag bN todo bZ I h j=>Vg ag C bN todo bZ I h j) n
def yX(C:aK)(n:Nat)(f:Nat)(args:List z):dU:=oa (run C n) C f args false [] .nil C.bf
end
end Go.bn

