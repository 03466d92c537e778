/- A part of the last text's proof; no condition of its own -/
import Derived.Test.YtpfajohmofnkfaaGreatDoorYl
set_option maxHeartbeats 8000000
set_option linter.all false
namespace Go.Proofs.YtpfajohmofnkfaaGreatDoor
open Go.bi Go.aU
noncomputable section
def tx(s:bk)(i:Nat):Tok×Bool:=
 let w:=(s.drop i).takeWhile iN
 (⟨if (k0 w).isSome then 3 else if w∈vs then 2 else 1,w,0,0,(k0 w).getD dN⟩,decide (w.length<=32))
def adD{l:bk}(a:∀c∈l,iN c=true):BT l:=by
 intro c aB
 have:=a c aB
 simp[iN,qs,iw]at this
 omega
def aeU{α:Type}(p:α->Bool):∀l:List α,∀c∈l.takeWhile p,p c=true:=by
 intro l
 induction l with
 |nil=>simp
 |cons K l ak=>
  intro c aB
  rw[YF]at aB
  split at aB
  ·rcases Zt.1 aB with rfl|aB
   ·assumption
   ·exact ak c aB
  ·simp at aB
section
variable{X:ck}{h T a2 aS:V an}{j au aO bg f7:Nat}{s:bk}{i:Nat}
def SI(Z:mK X h f7 s i)(aj:∀c∈s,c<256)(aa:Nat)(p:Nat->Bool)(az:∀c,p c=true->iN c=true):((s.drop aa).takeWhile p).length<=65536/\(∀c∈(s.drop aa).takeWhile p,c<256)/\BT ((s.drop aa).takeWhile p):=by
 have Q:=D2 p (s.drop aa)
 rw[YB]at Q
 have:=Z.many
 refine⟨Zo,λc aB=>aj c (Y8 ((List.takeWhile_sublist p).subset aB)),adD λc aB=>az c (aeU p _ c aB)⟩
def ayF(aA:iE X)(bT:lP X)(eS:Ks X)(Z:mK X h f7 s i)(aj:∀c∈s,c<256)(aL:(o X).a8<=j)(IS:f7<j):
 aW X 115 [.ptr f7 0] h j (λae T au=>ae= .tuple [.agg (b9 (tx s i).1), .bool (tx s i).2]/\bq X h j T au) (λ_ _ _=>False):=by
 refine zA aA.todz (agc X) ?_
 rw[agd]
 unfold Ub
 have dt:=Z.dt
 have hS:=Z.fB
 obtain⟨cD,cp,dF⟩:=SI Z aj i iN (λ_ a=>a)
 have q8:∀cT,mK X (bn X h j cT) f7 s i:=λcT=>Z.ad (aI aL Zo)
 refine ci @dt ⟨?_⟩
 refine(NO aA.todz (aet aA.todz) (q8 _) Z.le).Zm ?_
 rintro ae aS bg ⟨rfl,rfl,rfl⟩
 unfold tx
 generalize (s.drop i).takeWhile iN=w at*
 simp only[]
 refine cL ⟨?_⟩
 refine fc (λa2=>ab X a2 j=zx [.Z 0, .str [], .Z 0, .int .u64 0, .bool false, .bool false, .Z 0] 7/\ab X a2 (j+1)=zx [.Z 1, .str w, .Z 0, .int .u64 0, .bool false, .bool false, .Z 0] 7/\bq X h j a2 (j+1+1)) ⟨by simp(disch:=omega) only[aI,bm]<;>rfl,by rw[bm Zo];rfl,dU⟩ ?_
 rintro a2 ⟨b4,b7,bU⟩
 refine(ae2 aA bT cD cp dF Zo).Zm ?_
 rintro ae bb bs ⟨rfl,cq⟩
 have iL:=cq.le
 have rY:=bU.trans cq
 have cN:ab X bb j=zx [.Z 0, .str [], .Z 0, .int .u64 0, .bool false, .bool false, .Z 0] 7:=by rw[cq.ad _ Zo];exact b4
 have ej:ab X bb (j+1)=zx [.Z 1, .str w, .Z 0, .int .u64 0, .bool false, .bool false, .Z 0] 7:=by rw[cq.ad _ Zo];exact b7
 generalize bc:(k0 w).getD dN=t
 have FH:eF t=[.bool t.b, .bool t.s, .Z t.w]:=rfl
 rw[FH]
 have xW:decide ((w.length:Int)<=32)=decide (w.length<=32):=by simp;omega
 have fin:∀(cf:V an) (eK:Nat) (B:Int) (e2:d9) (tY:V F),bs<=eK->bq X h j cf eK->ab X cf (j+1)=some (.cells tY 7 .own)->ab X cf j=zx [.Z 0, .str [], .Z 0, .int .u64 0, .bool false, .bool false, .Z 0] 7->
  tY.get 0=some (.Z B)->tY.get 1=some (.str w)->tY.get 2=some (.Z 0)->tY.get 3=some (.int .u64 0)->tY.get 4=some (.bool e2.b)->tY.get 5=some (.bool e2.s)->tY.get 6=some (.Z e2.w)->
  E (cg X cf 7 (.ptr (j+1) 0)) λayf=>E (lJ (.str w)) λayg=>E (aF .leq ayg (.Z 32)) λayh=>E (ce X cf 7 (.ptr j 0) ayf) λV4=>E (cg X V4 7 (.ptr j 0)) λv37=>
   F.tuple [v37,ayh]= .tuple [.agg (b9 ⟨B,w,0,0,e2⟩), .bool (decide (w.length<=32))]/\bq X h j V4 eK:=by
  intro cf eK B e2 tY aAr eR dY e1 uY bV cw c4 ec eU dK
  have fP:=jN dY uY;have eg:=jN dY bV;have c5:=jN dY cw;have e6:=jN dY c4;have g0:=jN dY ec;have gF:=jN dY eU;have mv:=jN dY dK
  refine e7 @fP @eg @c5 @e6 @g0 @gF (Za @mv @xW) ⟨?_⟩
  exact⟨rfl,bq.set eR (Zi _) aL (Zi _)⟩
 cases r6:(k0 w).isSome with
 |true=>
  refine hR ⟨?_⟩
  refine hR ⟨?_⟩
  refine hR ⟨?_⟩
  refine hR ⟨?_⟩
  refine hR ⟨?_⟩
  generalize fl:bn X _ bs _=bF
  have fY:ab X bF bs=zx [.bool t.b, .bool t.s, .Z t.w] 3:=by rw[<-fl,bm Zo];rfl
  have dY:ab X bF j=zx [.Z 0, .str [], .Z 0, .int .u64 0, .bool false, .bool false, .Z 0] 7:=by rw[<-fl];simp(disch:=omega) only[aI];exact cN
  have e1:ab X bF (j+1)=zx [.Z 1, .str w, .Z 0, .int .u64 0, .bool false, .bool false, .Z 0] 7:=by rw[<-fl];simp(disch:=omega) only[aI];exact ej
  have dv:bq X h j bF (bs+1):=rY.trans (by rw[<-fl];exact dU)
  clear fl cN ej
  refine ci (bR fY) ⟨?_⟩
  refine gP (by simp[F.same,n9,pR]) ?_
  generalize mi:bn X bF (j+1) _=bX
  have bH:∀e,e≠j+1->ab X bX e=ab X bF e:=λe H=>by rw[<-mi,aI Zo H]
  have ir:ab X bX (j+1)=some (.cells (dQ (V.ofList [.Z 1, .str w, .Z 0, .int .u64 0, .bool false, .bool false, .Z 0] 0 .nil) 0 [.Z 3]) 7 .own):=by rw[<-mi,bm Zo];rfl
  rw[<-bH _ Zo]at fY dY
  have dH:bq X h j bX (bs+1):=⟨dv.le,λe H=>by rw[bH e Zo];exact dv.ad e H⟩
  clear mi bH e1
  refine fF (h6 (B:=3) (b:=j+1) (Y:=4) (n:=7) ir Zo rfl Zd Zd rfl) ?_
  generalize f6:bn X bX (j+1) _=cf
  have cu:∀e,e≠j+1->ab X cf e=ab X bX e:=λe H=>by rw[<-f6,aI Zo H]
  have nc:ab X cf (j+1)=some (.cells (dQ (dQ (V.ofList [.Z 1, .str w, .Z 0, .int .u64 0, .bool false, .bool false, .Z 0] 0 .nil) 0 [.Z 3]) 4 [.bool t.b, .bool t.s, .Z t.w]) 7 .own):=by rw[<-f6,bm Zo];rfl
  rw[<-cu _ Zo]at dY
  have eR:bq X h j cf (bs+1+5):=⟨zt dH.le,λe H=>by rw[cu e Zo];exact dH.ad e H⟩
  clear f6 cu ir
  have:=fin cf (bs+1+5) 3 t _ Zo eR nc dY rfl rfl rfl rfl rfl rfl rfl
  simp only[ZD]
  refine hR ⟨?_⟩
  exact this
 |false=>
  have RU:t=dN:=by
   rw[<-bc]
   cases b1:k0 w with
   |none=>rfl
   |some t=>rw[b1]at r6;cases r6
  refine cL ⟨?_⟩
  refine fc (λbF=>bq X bb bs bF (bs+1)) dU ?_
  intro bF dv
  have yf:=rY.trans dv
  have dY:ab X bF j=zx [.Z 0, .str [], .Z 0, .int .u64 0, .bool false, .bool false, .Z 0] 7:=by rw[dv.ad _ Zo];exact cN
  have e1:ab X bF (j+1)=zx [.Z 1, .str w, .Z 0, .int .u64 0, .bool false, .bool false, .Z 0] 7:=by rw[dv.ad _ Zo];exact ej
  refine(av6 (j:=bs+1) (h:=bF) aA.todz eS w).Zm ?_
  rintro ae bX b2 ⟨rfl,rfl,rfl⟩
  subst RU
  simp only[Zw,ZA]
  by_cases lD:w∈vs
  ·simp only[lD,Yp,ZD]
   refine hR ⟨?_⟩
   refine hR ⟨?_⟩
   refine hR ⟨?_⟩
   refine fF (h6 (B:=1) (b:=j+1) (Y:=0) (n:=7) e1 Zo rfl Zd Zd rfl) ?_
   generalize f6:bn X _ (j+1) _=cf
   have cu:∀e,e≠j+1->ab X cf e=ab X bX e:=λe H=>by rw[<-f6,aI Zo H]
   have nc:ab X cf (j+1)=some (.cells (dQ (V.ofList [.Z 1, .str w, .Z 0, .int .u64 0, .bool false, .bool false, .Z 0] 0 .nil) 0 [.Z 2]) 7 .own):=by rw[<-f6,bm Zo];rfl
   rw[<-cu _ Zo]at dY
   have eR:bq X h j cf (bs+1):=⟨yf.le,λe H=>by rw[cu e Zo];exact yf.ad e H⟩
   have:=fin cf (bs+1) 2 dN _ Zo eR nc dY rfl rfl rfl rfl rfl rfl rfl
   refine hR ⟨?_⟩
   exact this
  ·simp only[lD,Yd,ZA]
   have:=fin bX (bs+1) 1 dN _ Zo yf e1 dY rfl rfl rfl rfl rfl rfl rfl
   refine hR ⟨?_⟩
   refine hR ⟨?_⟩
   refine hR ⟨?_⟩
   exact this
end
def DB(s:bk)(i:Nat):Option Tok:=
 let d:=(s.drop i).takeWhile iw
 if (kh d).2≠0\/20<d.length then none
 else
  let Tl:=(s.drop (i+d.length)).takeWhile iN
  if Tl=[]then some ⟨4,d,0,(kh d).1,dN⟩
  else match k0 Tl with
   |some t=>if !t.b&&uJ t (kh d).1 then some ⟨5,d++Tl,0,(kh d).1,t⟩else none
   |none=>none
def TK:∀{w:bk}{t:d9},k0 w=some t->ku t=true:=by
 intro w t a
 cases w with
 |nil=>cases a
 |cons c l=>
  by_cases aj:c::l=[98,111,111,108]
  ·rw[N5,Zq aj]at a
   cases a
   rfl
  ·obtain⟨_,n,Q,U,_,rfl⟩:=J9 a aj
   simp[ku];omega
section
variable{X:ck}{h T a2 aS:V an}{j au aO bg f7:Nat}{s:bk}{i:Nat}
def auE(aA:iE X)(bT:lP X)(Z:mK X h f7 s i)(aj:∀c∈s,c<256)(aL:(o X).a8<=j)(IS:f7<j):
 aW X 113 [.ptr f7 0] h j (λae T au=>(∃B,ae= .tuple [.agg (b9 B), .bool (DB s i).isSome]/\∀x,DB s i=some x->B=x)/\bq X h j T au) (λ_ _ _=>False):=by
 refine zA aA.todz (af8 X) ?_
 rw[af9]
 unfold T9
 have dt:=Z.dt
 have hS:=Z.fB
 have jk:=Z.le
 have aAM:=Z.many
 obtain⟨cD,cp,dF⟩:=SI Z aj i iw (λc a=>by simp[iN,a])
 have JM:=D2 iw (s.drop i)
 rw[YB]at JM
 have q8:∀cT,mK X (bn X h j cT) f7 s i:=λcT=>Z.ad (aI aL Zo)
 refine ci @dt ⟨?_⟩
 refine(NO aA.todz (awl aA.todz) (q8 _) Z.le).Zm ?_
 rintro ae aS bg ⟨rfl,rfl,rfl⟩
 generalize iH:DB s i=N
 unfold DB at iH
 simp only[]at iH
 generalize (s.drop i).takeWhile iw=d at*
 refine cL ⟨?_⟩
 refine fc (λa2=>ab X a2 j=zx [.Z 0, .str [], .Z 0, .int .u64 0, .bool false, .bool false, .Z 0] 7/\bq X h j a2 (j+1)) ⟨by simp(disch:=omega) only[aI,bm]<;>rfl,dU⟩ ?_
 rintro a2 ⟨b4,bU⟩
 refine(avf aA bT cD cp Zo).Zm ?_
 rintro ae bb bs ⟨⟨J,rfl,bx⟩,cq⟩
 have iL:=cq.le
 have rY:=bU.trans cq
 have cN:ab X bb j=zx [.Z 0, .str [], .Z 0, .int .u64 0, .bool false, .bool false, .Z 0] 7:=by rw[cq.ad _ Zo];exact b4
 have uL:=Z.ad (rY.ad f7 IS)
 have aBr:F.agg [.Z 0, .str [], .Z 0, .int .u64 0, .bool false, .bool false, .Z 0]= .agg (b9 g5):=rfl
 rcases bx with ⟨b6,rfl⟩|⟨b6,b,rfl⟩
 ·by_cases fD:20<d.length
  ·rw[Zq (.inr fD)]at iH
   subst iH
   have cX:decide ((20:Int)<(d.length:Int))=true:=by simp only[Zh];omega
   refine cV @Dv @cX ⟨?_⟩
   exact⟨⟨g5,rfl,λx a=>by cases a⟩,bq.set rY Zo aL Zo⟩
  have cX:decide ((20:Int)<(d.length:Int))=false:=by simp only[Zc];omega
  rw[Zg (by rintro(a|a);exact a b6;exact fD a)]at iH
  have hd:=uL.dt
  have bD:aF .add (.Z (i:Int)) (.Z (d.length:Int))=some (.Z ((i+d.length:Nat):Int)):=by rw[eT Zo Zo];rfl
  refine gt @Dv @cX @hd @bD ⟨?_⟩
  refine(NO aA.todz (aet aA.todz) uL Zo).Zm ?_
  rintro ae bF c7 ⟨rfl,rfl,rfl⟩
  obtain⟨fA,hx,xj⟩:=SI uL aj (i+d.length) iN (λ_ a=>a)
  generalize (s.drop (i+d.length)).takeWhile iN=w at*
  by_cases bJ:w=[]
  ·have cP:decide (w=[])=true:=by simp[bJ]
   rw[Zq bJ]at iH
   subst iH
   refine ci @cP ⟨?_⟩
   exact⟨⟨⟨4,d,0,(kh d).1,dN⟩,rfl,λx a=>by cases a;rfl⟩,bq.set rY Zo aL Zo⟩
  have cP:decide (w=[])=false:=by simp[bJ]
  rw[Zg bJ]at iH
  refine ci @cP ⟨?_⟩
  refine(ae2 aA bT fA hx xj Zo).Zm ?_
  rintro ae bX b2 ⟨rfl,dH⟩
  have h5:=dH.le
  have fY:ab X bX j=zx [.Z 0, .str [], .Z 0, .int .u64 0, .bool false, .bool false, .Z 0] 7:=by rw[dH.ad _ Zo];exact cN
  have Cz:=rY.trans dH
  generalize bc:(k0 w).getD dN=t
  have FH:eF t=[.bool t.b, .bool t.s, .Z t.w]:=rfl
  rw[FH]
  refine hR ⟨?_⟩
  refine hR ⟨?_⟩
  refine hR ⟨?_⟩
  refine hR ⟨?_⟩
  refine hR ⟨?_⟩
  generalize f6:bn X _ b2 _=cf
  have dY:ab X cf b2=zx [.bool t.b, .bool t.s, .Z t.w] 3:=by rw[<-f6,bm Zo];rfl
  have e1:ab X cf j=zx [.Z 0, .str [], .Z 0, .int .u64 0, .bool false, .bool false, .Z 0] 7:=by rw[<-f6];simp(disch:=omega) only[aI];exact fY
  have eR:bq X h j cf (b2+1):=Cz.trans (by rw[<-f6];exact dU)
  clear f6 fY cN b4
  have sV:∀h,dn X h .add 9 false (.str d) (.str w)=some (.str (d++w)):=λh=>by
   have:Nat.ble (d.length+w.length) 1000000000=true:=kJ Zo
   simp only[dn,Am,this,eP]
  have Tw:∀ai:Prop,ai->gG (.str (d++w)) (some (.str (d++w))) ai:=λai a=>gP (by simp[F.same,Du]) a
  have J0:∀ai:Prop,ai->gG (.agg [.bool t.b, .bool t.s, .Z t.w]) (some (.agg [.bool t.b, .bool t.s, .Z t.w])) ai:=λai a=>gP (by simp[F.same,n9,pR]) a
  have ft:b9 ⟨5,d++w,0,(kh d).1,t⟩=[.Z 5, .str (d++w), .Z 0, .int .u64 (kh d).1, .bool t.b, .bool t.s, .Z t.w]:=rfl
  cases r6:k0 w with
  |none=>
   rw[r6]at iH
   simp only[]at iH
   subst iH
   simp only[Z3]
   refine cV @sV (bR dY) ⟨?_⟩
   refine Tw _ ?_
   refine cV @sV (bR dY) ⟨?_⟩
   refine J0 _ ?_
   refine cL ⟨?_⟩
   refine⟨⟨⟨5,d++w,0,(kh d).1,t⟩, ?_,λx a=>by cases a⟩,bq.set eR Zo aL Zo⟩
   rw[ft]
  |some e2=>
   have MK:e2=t:=by rw[r6]at bc;exact bc
   subst MK
   have aqm:=TK r6
   rw[r6]at iH
   simp only[]at iH
   cases mq:e2.b with
   |true=>
    rw[mq]at iH dY ft J0
    simp only[Yi,Bool.false_and,Zw,ZA]at iH
    subst iH
    simp only[Z3,Yc]
    refine cV @sV (bR dY) ⟨?_⟩
    refine Tw _ ?_
    refine cV @sV (bR dY) ⟨?_⟩
    refine J0 _ ?_
    refine cL ⟨?_⟩
    refine⟨⟨⟨5,d++w,0,(kh d).1,e2⟩, ?_,λx a=>by cases a⟩,bq.set eR Zo aL Zo⟩
    rw[ft]
   |false=>
    rw[mq]at iH dY ft J0
    simp only[Yh,Bool.true_and]at iH
    simp only[Yc]
    refine cV @sV (bR dY) ⟨?_⟩
    have aB:=aqG (j:=b2+1+19) (h:=cf) aA.todz e2 aqm ((kh d).1:Int) Zo
    have arI:eF e2=[.bool false, .bool e2.s, .Z e2.w]:=by rw[<-mq];rfl
    rw[arI]at aB
    refine aB.Zm ?_
    rintro ae cx eu ⟨rfl,fa⟩
    have nn:=fa.le
    have ir:ab X cx b2=zx [.bool false, .bool e2.s, .Z e2.w] 3:=by rw[fa.ad _ Zo];exact dY
    have nc:ab X cx j=zx [.Z 0, .str [], .Z 0, .int .u64 0, .bool false, .bool false, .Z 0] 7:=by rw[fa.ad _ Zo];exact e1
    have LB:bq X h j cx eu:=⟨zt eR.le,λe H=>by rw[fa.ad e (zt eR.le)];exact eR.ad e H⟩
    have aoI:N.isSome=uJ e2 ((kh d).1:Int):=by
     rw[<-iH];cases uJ e2 ((kh d).1:Int)<;>rfl
    rw[aoI]
    refine ci @sV ⟨?_⟩
    refine Tw _ ?_
    refine ci (bR ir) ⟨?_⟩
    refine J0 _ ?_
    refine cL ⟨?_⟩
    refine⟨⟨⟨5,d++w,0,(kh d).1,e2⟩, ?_,λx a=> ?_⟩,bq.set LB Zo aL Zo⟩
    ·rw[ft]
    ·rw[<-iH]at a
     split at a
     ·cases a;rfl
     ·cases a
 ·rw[Zq (.inl b6)]at iH
  subst iH
  refine ci @adr ⟨?_⟩
  exact⟨⟨g5,rfl,λx a=>by cases a⟩,bq.set rY Zo aL Zo⟩
end
def yW:List bk:=[[45,62],[60,60],[62,62],[60,61],[62,61],[60,62],[40],[41],[44],[59],[58],[61],[60],[62],[43],[45],[42]]
structure Ow(X:ck):Prop where
 at_:∀h,cg X h 17 (.ptr 1 0)=some (.agg (yW.map F.str))
def Ik(s p:bk):Bool:=decide (p.length<=s.length/\s.take p.length=p)
def vv(s:bk)(i:Nat):Option bk:=yW.find? (Ik (s.drop i))
def DS(p:bk):Tok:=⟨6,p,0,0,dN⟩
def XR{α:Type}(p:α->Bool):∀(l:List α) (aa:Nat),(∀B<aa,∀x,l[B]? =some x->p x=false)->l.find? p=(l.drop aa).find? p:=by
 intro l aa
 induction aa with
 |zero=>intro _;rfl
 |succ aa ak=>
  intro a
  rw[ak λB aN=>a B Zo]
  by_cases bG:aa<l.length
  ·rw[Zv bG,zk]
   have:=a aa Zo l[aa] (Ze bG)
   rw[this]
  ·rw[ZN Zo,ZN Zo]
section
variable{X:ck}{h T a2 aS:V an}{j au aO bg f7:Nat}{s:bk}{i:Nat}
def awW(aA:iE X)(eS:Ow X)(Z:mK X h f7 s i)(aL:(o X).a8<=j)(IS:f7<j):
 aW X 111 [.ptr f7 0] h j (λae T au=>ae= .tuple [.agg (b9 (match vv s i with|some p=>DS p|none=>g5)), .bool (vv s i).isSome]/\bq X h j T au) (λ_ _ _=>False):=by
 refine zA aA.todz (af4 X) ?_
 rw[af5]
 unfold T7
 have hS:=Z.fB
 have jm:j7 (.str s) (some (.Z (i:Int))) none=some (.str (s.drop i)):=NV .i64 Z.le
 have b5:=eS.at_
 refine ci @b5 ⟨?_⟩
 have b4:ab X (bn X h j (zx [.Z 0, .str [], .Z 0, .int .u64 0, .bool false, .bool false, .Z 0] 7)) j=zx [.Z 0, .str [], .Z 0, .int .u64 0, .bool false, .bool false, .Z 0] 7:=bm aL
 have bU:bq X h j (bn X h j (zx [.Z 0, .str [], .Z 0, .int .u64 0, .bool false, .bool false, .Z 0] 7)) (j+1):=dU
 refine fU (λm M T aV=>∃(aa:Nat),M.g 0=some (.ptr f7 0)/\M.g 2=some (.ptr j 0)/\M.g 6=some (.agg (yW.map F.str))/\M.g 7=some (.Z (aa:Int))/\aa+m=17/\ab X T j=zx [.Z 0, .str [], .Z 0, .int .u64 0, .bool false, .bool false, .Z 0] 7/\bq X h j T aV/\j+1<=aV/\∀B<aa,∀x,yW[B]? =some x->Ik (s.drop i) x=false)
  17 ⟨0,bw,bw,bw,gc,Zo,b4,bU,Zi _,λB aN=>Zo⟩ ?_
 clear b4 bU
 rintro m M aS bg ⟨aa,t0,ez,fM,g4,bG,b7,bK,kR,kp⟩
 have gL:=Z.ad (bK.ad f7 IS)
 have d7:=gL.d7
 have dt:=gL.dt
 cases m with
 |zero=>
  have d:decide ((aa:Int)<17)=false:=by simp only[Zc];omega
  have ch:vv s i=none:=by
   unfold vv
   rw[XR _ _ aa kp,show yW.drop aa=[] from ZN (by show 17<=aa;omega)]
   rfl
  rw[ch]
  refine er @g4 @d @ez ⟨?_⟩
  exact⟨rfl,bq.set bK Zo aL Zo⟩
 |succ m=>
  have d:decide ((aa:Int)<17)=true:=by simp only[Zh];omega
  have bD:=zy aa
  obtain⟨p,az⟩:∃p,yW[aa]? =some p:=⟨_,Ze (by show aa<17;omega)⟩
  have dZ:ts false 17 1 (.agg (yW.map F.str)) (.Z (aa:Int))=some (.str p):=by
   have:Nat.blt aa 17=true:=by simp[Nat.blt];omega
   simp only[ts,rg,this,eP,jF,pL,Yj,Zx,az];rfl
  refine e7 @g4 @fM @t0 @d @dZ @d7 (Za @dt @jm) ⟨?_⟩
  refine(ad7 aA.todz (s.drop i) p).Zm ?_
  rintro ae bb bs ⟨rfl,rfl,rfl⟩
  have nY:decide (p.length<=(s.drop i).length/\(s.drop i).take p.length=p)=Ik (s.drop i) p:=rfl
  rw[nY]
  cases gD:Ik (s.drop i) p with
  |true=>
   have ch:vv s i=some p:=by
    unfold vv
    obtain⟨ah,H⟩:=Zb.1 az
    have aM:yW.drop aa=p::yW.drop (aa+1):=by rw[Zv ah,H]
    rw[XR _ _ aa kp,aM,zk,gD]
   rw[ch]
   refine ci @ez ⟨?_⟩
   exact⟨rfl,bq.set bK Zo aL Zo⟩
  |false=>
   refine cV @g4 @bD ⟨?_⟩
   refine⟨m,Zo,aa+1,bf t0,bf ez,bf fM,bw,Zo,b7,⟨Zo,bK.ad⟩,Zo,λB aN x ah=> ?_⟩
   by_cases Mj:B=aa
   ·subst Mj;rw[az]at ah;cases ah;exact gD
   ·exact kp B Zo x ah
end
def xv(s:bk)(i:Nat):Option Tok:=match s[i]? with
 |none=>none
 |some c=>if iw c then DB s i else if qs c then(if (tx s i).2 then some (tx s i).1 else none)else(vv s i).map DS
def lq(x:Tok)(i:Nat):Tok:=⟨x.kind,x.text,i,x.n,x.ty⟩
def qE(s:bk):Nat->List Tok->Nat->Option (Except Int (List Tok))
 |0,_,_=>none
 |n+1,aX,i=>if i<s.length then match xv s i with
   |none=>some (.error i)
   |some x=>qE s n (aX++[lq x i]) (nK s s.length (i+x.text.length))
  else some (.ok (aX++[⟨7,[],i,0,dN⟩]))
def O6(s:bk):∀(n i:Nat),i<=nK s n i:=by
 intro n
 induction n with
 |zero=>intro i;exact Zi _
 |succ n ak=>
  intro i
  rw[nK]
  split
  ·exact Zi _
  ·split
   ·exact Zz Zo (ak (i+1))
   ·split
    ·exact Zz Zo (ak _)
    ·exact Zi _
def TJ{s:bk}{i:Nat}{x:Tok}(a:xv s i=some x):1<=x.text.length/\i+x.text.length<=s.length:=by
 unfold xv at a
 cases aB:s[i]? with
 |none=>rw[aB]at a;cases a
 |some c=>
  rw[aB]at a
  simp only[]at a
  obtain⟨ah,H⟩:=Zb.1 aB
  have aM:s.drop i=c::s.drop (i+1):=by rw[Zv ah,H]
  have aC:(s.drop i).length=s.length-i:=YB
  split at a
  ·rename_i pF
   have Q:=D2 iw (s.drop i)
   have U:1<=((s.drop i).takeWhile iw).length:=by rw[aM,YF,pF];simp
   unfold DB at a
   simp only[]at a
   generalize (s.drop i).takeWhile iw=d at*
   split at a
   ·cases a
   ·have ar:=D2 iN (s.drop (i+d.length))
    rw[YB]at ar
    split at a
    ·cases a;exact⟨U,by show i+d.length<=_;omega⟩
    ·split at a
     ·split at a
      ·cases a
       refine⟨?_, ?_⟩
       ·show 1<=(d++_).length;rw[ZM];omega
       ·show i+(d++_).length<=_;rw[ZM];omega
      ·cases a
     ·cases a
  ·split at a
   ·rename_i ym
    have Q:=D2 iN (s.drop i)
    have U:1<=((s.drop i).takeWhile iN).length:=by rw[aM,YF,show iN c=true from by simp[iN,ym]];simp
    split at a
    ·cases a
     exact⟨U,by show i+((s.drop i).takeWhile iN).length<=_;omega⟩
    ·cases a
   ·simp only[Yn]at a
    obtain⟨p,Q,rfl⟩:=a
    have U:=List.find?_some Q
    have ar:=List.mem_of_find?_eq_some Q
    simp[Ik]at U
    refine⟨?_, ?_⟩
    ·show 1<=p.length
     revert ar
     clear Q U
     revert p
     decide
    ·show i+p.length<=_;omega
def dO.narrow{C:aZ}{h:V an}{P:Nat->Prop}{b a1:Nat}{a6:F}{aR:List (List F)}(a:dO C h P b a6 a1 aR):dO C h (λe=>e=b) b a6 a1 aR:=⟨λ_=>rfl,a.many,a.wide,a.len,a.f2,a.cell⟩
section
variable{X:ck}{h T a2 aS:V an}{j au aO bg f7:Nat}{s:bk}{i:Nat}
structure GZ(X:ck):Prop where
 err:lP X
 res:Ks X
 sig:Ow X
def Wb(X:ck)(j:Nat)(r:Except Int (List Tok))(ae:F)(T:V an)(au:Nat):Prop:=match r with
 | .error K=>ae= .tuple [.aP, .agg [.Z 20, .Z K]]
 | .ok aX=>∃av bM,ae= .tuple [av, .agg [.Z 0, .Z 0]]/\dO X T (λe=>e=bM) bM av 7 (aX.map b9)/\j<=bM/\bM<au
def akg(aA:iE X)(eS:GZ X)(aD:s.length<=65536)(aj:∀c∈s,c<256)(aL:(o X).a8<=j){a0:F}(aC:dX a0=some (.Z (s.length:Int)))(CH:∀T aV,bq X h j T aV->Au X T a0=some (.str s))
 {r:Except Int (List Tok)}(Z:qE s (s.length+1) [] (nK s s.length 0)=some r):
 aW X 66 [a0] h j (λae T au=>Wb X j r ae T au/\bq X h j T au) (λ_ _ _=>False):=by
 refine zA aA.todz (ajh X) ?_
 rw[aji]
 unfold VO
 have pu:decide ((65536:Int)<(s.length:Int))=false:=by simp only[Zc];omega
 have uu:=CH (bn X h j (zx [.Z 0, .Z 0] [F.Z 0, .Z 0].length)) (j+1) dU
 refine cV @aC @pu ⟨?_⟩
 refine fF uu ?_
 refine cL ⟨?_⟩
 refine fc (λa2=>ab X a2 j=zx [.Z 0, .Z 0] 2/\ab X a2 (j+1)=zx [.str s, .Z ((0:Nat):Int)] 2/\bq X h j a2 (j+1+1)) ⟨by simp(disch:=omega) only[aI,bm]<;>rfl,by rw[bm Zo];rfl,dU⟩ ?_
 rintro a2 ⟨b4,b7,bU⟩
 have q8:mK X a2 (j+1) s 0:=⟨b7,Zo,aD,Zo⟩
 refine(WJ aA q8 aj Zo Zo).Zm ?_
 rintro ae aS bg ⟨gL,du⟩
 have ge:=du.le
 have cN:ab X aS j=zx [.Z 0, .Z 0] 2:=by rw[du.ad _ Zo Zs];exact b4
 have bK:bq X h j aS bg:=⟨Zo,λe H=>by rw[du.ad e Zo (by simp;omega)];exact bU.ad e H⟩
 refine gV ?_
 refine fU (λm M T aV=>∃(a6:F) (aX:List Tok) (cK:List Nat) (aa:Nat),M.g 3=some (.ptr j 0)/\M.g 4=some (.ptr (j+1) 0)/\M.g 5=some a6/\ab X T j=zx [.Z 0, .Z 0] 2/\mK X T (j+1) s aa/\gI X T a6 7 (aX.map b9).flatten cK/\(∀e∈cK,j+2<=e/\e<aV)/\bq X h j T aV/\j+2<=aV/\aX.length<=aa/\qE s m aX aa=some r)
  (s.length+1) ⟨.aP,[],[],_,bw,bw,bw,cN,gL, .inl (.inl ⟨rfl,rfl,rfl⟩),Zs,bK,Zo,Zs,Z⟩ ?_
 clear Z b4 b7 cN q8 gL bU bK du ge uu
 rintro m M aS bg ⟨a6,aX,cK,aa,t3,t4,t5,b7,gL,uP,ni,bK,kR,aAO,Z⟩
 have d7:=gL.d7
 have dt:=gL.dt
 have uB:=gL.le
 cases m with
 |zero=>cases Z
 |succ m=>
 rw[qE]at Z
 have abo:∀r∈aX.map b9,r.length=7:=λr a=>by obtain⟨x,_,rfl⟩:=ZT.1 a;rfl
 have oJ:=uf abo
 rw[Zn]at oJ
 have Ws:∀(bb:V an) (bs b:Nat) (x:Tok),(∀e∈cK,ab X bb e=ab X aS e)->bg<=bs->ab X bb b=zx (b9 x) 7->
  ∃iQ bF gR,hC X bb bs 7 a6 (.slice b 0 1 1)=some (.fh iQ bF (bs+1))/\kk X bF iQ 7 ((aX++[x]).map b9).flatten gR/\(∀e∈gR,e=bs\/e∈cK)/\∀e,e≠bs->e∉cK->ab X bF e=ab X bb e:=by
  intro bb bs b x aN yu LV
  have j1:kX X bb 7 (.slice b 0 1 1)=some (1,b9 x):=sE LV (mT _) rfl _
  obtain⟨iQ,bF,gR,Q,U,ar,aK⟩:=(uP.ad aN).append (j:=bs) Zd j1 rfl Zd rfl (by rw[oJ,show(b9 x).length=7 from rfl];omega) Zo (λe H=>zt (ni e H))
  refine⟨iQ,bF,gR,Q, ?_,ar,aK⟩
  rw[Yy,zf,ZK,List.map_nil,Z6,List.flatten_nil,Yz]
  exact U
 by_cases bG:aa<s.length
 ·have cX:=zv aa s.length
  rw[Zq bG]at Z
  obtain⟨c,aB⟩:∃c,s[aa]? =some c:=⟨_,Ze bG⟩
  have dZ:=Bd .i64 aB
  have L0:=aj c (Zl aB)
  refine he @t4 @d7 (Za @dt (Za @cX @dZ)) ⟨?_⟩
  refine gV ?_
  refine he @t4 @d7 (Za @dt (Za @cX @dZ)) ⟨?_⟩
  refine gV ?_
  refine he @t4 @d7 (Za @dt (Za @cX @dZ)) ⟨?_⟩
  have rd:∀(B:Nat),(iw c=true->B=113)->(iw c=false->qs c=true->B=115)->(iw c=false->qs c=false->B=111)->∀Gj,bg<=Gj->
   aW X B [.ptr (j+1) 0] aS Gj (λae T aV=>(∃x,ae= .tuple [.agg (b9 x), .bool (xv s aa).isSome]/\∀e,xv s aa=some e->x=e)/\bq X aS Gj T aV) (λ_ _ _=>False):=by
   intro B bV cw c4 Gj aAy
   unfold xv
   rw[aB]
   simp only[]
   cases pF:iw c with
   |true=>
    rw[bV pF]
    simp only[ZD]
    exact auE aA eS.err gL aj Zo Zo
   |false=>
    simp only[Zw,ZA]
    cases ym:qs c with
    |true=>
     rw[cw pF ym]
     simp only[ZD]
     refine(ayF aA eS.err eS.res gL aj Zo Zo).Zm ?_
     rintro ae T aV ⟨rfl,bT⟩
     refine⟨⟨(tx s aa).1, ?_,λe a=> ?_⟩,bT⟩
     ·cases(tx s aa).2<;>rfl
     ·split at a
      ·cases a;rfl
      ·cases a
    |false=>
     rw[c4 pF ym]
     simp only[Zw,ZA]
     refine(awW aA eS.sig gL Zo Zo).Zm ?_
     rintro ae T aV ⟨rfl,bT⟩
     refine⟨⟨(match vv s aa with|some p=>DS p|none=>g5), ?_,λe a=> ?_⟩,bT⟩
     ·cases vv s aa<;>rfl
     ·cases b1:vv s aa with
      |none=>rw[b1]at a;cases a
      |some p=>rw[b1]at a;cases a;rfl
  refine j3 (λcZ T aV=>∃B,cZ.g 3=some (.ptr j 0)/\cZ.g 4=some (.ptr (j+1) 0)/\cZ.g 5=some a6/\cZ.g 6=some (.func (.func B) [.ptr (j+1) 0] [])/\T=aS/\bg<=aV/\(iw c=true->B=113)/\(iw c=false->qs c=true->B=115)/\(iw c=false->qs c=false->B=111)) (λaA1 Rf=> ?_) ?_
  ·refine(Pt aA.todz c).Zm ?_
   rintro ae bb bs ⟨rfl,rfl,rfl⟩
   cases pF:iw c with
   |true=>
    refine ci @t4 ⟨?_⟩
    exact Rf _ _ _ ⟨113,bf t3,bf t4,bf t5,bw,rfl,Zo,λ_=>rfl,(λa=>absurd a (by simp[pF])),(λa=>absurd a (by simp[pF]))⟩
   |false=>
    refine ci @t4 ⟨?_⟩
    refine(WG aA.todz c).Zm ?_
    rintro ae bb bs ⟨rfl,rfl,rfl⟩
    cases ym:qs c with
    |true=>
     refine ci @t4 ⟨?_⟩
     exact Rf _ _ _ ⟨115,bf t3,bf t4,bf t5,bw,rfl,Zo,(λa=>absurd a (by simp[pF])),λ_ _=>rfl,(λ_ a=>absurd a (by simp[ym]))⟩
    |false=>
     refine ci @t4 ⟨?_⟩
     exact Rf _ _ _ ⟨111,bf t3,bf t4,bf t5,bw,rfl,Zo,(λa=>absurd a (by simp[pF])),(λ_ a=>absurd a (by simp[ym])),λ_ _=>rfl⟩
  clear t3 t4 t5
  rintro ayW bb bs ⟨B,t3,t4,t5,fM,rfl,yu,bV,cw,c4⟩
  refine ci @fM ⟨?_⟩
  refine(rd B bV cw c4 _ yu).Zm ?_
  clear rd bV cw c4 fM
  rintro ae bF c7 ⟨⟨x,rfl,ah⟩,dv⟩
  have jl:=dv.le
  have ej:ab X bF j=zx [.Z 0, .Z 0] 2:=by rw[dv.ad _ Zo];exact b7
  have Fy:=gL.ad (dv.ad (j+1) Zo)
  have E3:bq X h j bF c7:=bK.trans ⟨Zo,λe H=>dv.ad e Zo⟩
  have arO:b9 x=[.Z x.kind, .str x.text, .Z x.at_, .int .u64 x.n, .bool x.ty.b, .bool x.ty.s, .Z x.ty.w]:=rfl
  rw[arO]
  refine hR ⟨?_⟩
  refine hR ⟨?_⟩
  refine hR ⟨?_⟩
  refine hR ⟨?_⟩
  refine hR ⟨?_⟩
  generalize mi:bn X _ c7 _=bX
  have bH:∀e,e<c7->ab X bX e=ab X bF e:=λe H=>by rw[<-mi];exact zz
  have fY:ab X bX c7=zx (b9 x) 7:=by rw[<-mi,bm Zo];rfl
  have dY:=ej
  rw[<-bH _ Zo]at dY
  have IP:=Fy.ad (bH (j+1) Zo)
  have dH:bq X h j bX (c7+1):=⟨Zo,λe H=>by rw[bH e Zo];exact E3.ad e H⟩
  clear mi ej
  have jU:=IP.dt
  cases mr:xv s aa with
  |none=>
   rw[mr]at Z
   simp only[Zf]at Z
   subst Z
   simp only[Z3]
   refine er @t4 @t3 @jU ⟨?_⟩
   exact⟨rfl,bq.set dH (Zi _) aL Zo⟩
  |some e=>
   have:=ah e mr
   subst this
   rw[mr]at Z
   simp only[]at Z
   obtain⟨A7,Dd⟩:=TJ mr
   simp only[Yc]
   simp only[Yi]
   refine er @t4 @t3 @jU ⟨?_⟩
   generalize f6:bn X bX c7 _=cf
   have cu:∀e,e≠c7->ab X cf e=ab X bX e:=λe H=>by rw[<-f6,aI Zo H]
   have e1:ab X cf c7=some (.cells (dQ (V.ofList (b9 x) 0 .nil) 2 [.Z (aa:Int)]) 7 .own):=by rw[<-f6,bm Zo];rfl
   have np:=IP.ad (cu (j+1) Zo)
   have eR:bq X h j cf (c7+1):=⟨Zo,λe H=>by rw[cu e Zo];exact dH.ad e H⟩
   have ir:=dY
   rw[<-cu _ Zo]at ir
   have dK:∀e∈cK,ab X cf e=ab X bb e:=λe H=>by have:=ni e H;rw[cu e Zo,bH e Zo,dv.ad e Zo]
   clear f6 fY dY IP dH jU cu bH Fy E3
   have eg:ao X cf (.ptr c7 1)=some (.str x.text):=by rw[bR e1];rfl
   have bD:aF .add (.Z (aa:Int)) (.Z (x.text.length:Int))=some (.Z ((aa+x.text.length:Nat):Int)):=by rw[eT Zo Zo];rfl
   refine s3 @eg ⟨?_⟩
   refine hR ⟨?_⟩
   refine s3 @bD ⟨?_⟩
   refine hR ⟨?_⟩
   refine hR ⟨?_⟩
   refine fF (h6 (B:=1) (b:=j+1) (Y:=1) (n:=2) np.g Zo rfl Zd Zd rfl) ?_
   generalize nf:bn X cf (j+1) _=cx
   have dM:∀e,e≠j+1->ab X cx e=ab X cf e:=λe H=>by rw[<-nf,aI Zo H]
   have aq9:mK X cx (j+1) s (aa+x.text.length):=⟨by rw[<-nf,bm Zo];rfl,Dd,aD,Zo⟩
   have fa:bq X h j cx (c7+1):=⟨Zo,λe H=>by rw[dM e Zo];exact eR.ad e H⟩
   rw[<-dM _ Zo]at e1 ir
   have gM:∀e∈cK,ab X cx e=ab X bb e:=λe H=>by have:=ni e H;rw[dM e Zo];exact dK e H
   clear nf dM np eR dK eg
   have fP:ao X cx (.ptr c7 0)=some (.Z x.kind):=by rw[bR e1];rfl
   have eg:ao X cx (.ptr c7 1)=some (.str x.text):=by rw[bR e1];rfl
   have c5:ao X cx (.ptr c7 2)=some (.Z (aa:Int)):=by rw[bR e1];rfl
   have e6:ao X cx (.ptr c7 3)=some (.int .u64 x.n):=by rw[bR e1];rfl
   have g0:ao X cx (.ptr c7 4)=some (.bool x.ty.b):=by rw[bR e1];rfl
   have gF:ao X cx (.ptr c7 5)=some (.bool x.ty.s):=by rw[bR e1];rfl
   have mv:ao X cx (.ptr c7 6)=some (.Z x.ty.w):=by rw[bR e1];rfl
   refine e7 @fP @eg @c5 @e6 @g0 @gF (Za @mv @t5) ⟨?_⟩
   obtain⟨iQ,dx,gR,iK,RR,Im,wQ⟩:=Ws (bn X cx (c7+1+11) (zx (b9 (lq x aa)) 7)) (c7+1+11+1) (c7+1+11) (lq x aa) (λe H=>by have:=ni e H;rw[aI Zo Zo];exact gM e H) Zo (bm Zo)
   refine ki iK ?_
   have c9:∀e,e<j+2->e∉cK:=λe Q U=>zt (ni e U)
   have hw:∀e,e<j+2->ab X dx e=ab X cx e:=λe H=>by rw[wQ e Zo (c9 e H),aI Zo Zo]
   have ara:=aq9.ad (hw (j+1) Zo)
   rw[<-hw _ Zo]at ir
   have g9:bq X h j dx (c7+1+11+1+1):=⟨Zo,λe H=>by rw[hw e Zo];exact fa.ad e H⟩
   have pD:∀e∈gR,j+2<=e/\e<c7+1+11+1+1:=λe H=>by
    rcases Im e H with rfl|a
    ·omega
    ·have:=ni e a;omega
   refine ci @t4 ⟨?_⟩
   refine(WJ aA ara aj Zo Zo).Zm ?_
   rintro ae ei i7 ⟨qo,ha⟩
   have tj:=ha.le
   refine⟨m,Zo,iQ,aX++[lq x aa],gR,_,bf t3,bf t4,bw,by rw[ha.ad _ Zo Zs];exact ir,qo, .inl (RR.ad λe H=>ha.ad e (pD e H).2 (by have:=pD e H;simp;omega)),λe H=>zt (pD e H),⟨Zo,λe H=>by rw[ha.ad e Zo (by simp;omega)];exact g9.ad e H⟩,Zo, ?_,Z⟩
   have:=O6 s s.length (aa+x.text.length)
   simp only[ZM,ZB,ZU]
   omega
 ·have cX:=zu aa s.length
  rw[Zg bG]at Z
  cases Z
  refine gA @t4 @d7 @dt @cX @t5 ⟨?_⟩
  obtain⟨iQ,bF,gR,iK,se,ur,gd⟩:=Ws (bn X aS (bg+10) (zx (b9 ⟨7,[],aa,0,dN⟩) 7)) (bg+10+1) (bg+10) ⟨7,[],aa,0,dN⟩ (λe H=>aI Zo (zt (ni e H))) Zo (bm Zo)
  refine ki iK ?_
  have c9:∀e,e<j+2->e∉cK:=λe Q U=>zt (ni e U)
  have ej:ab X bF j=zx [.Z 0, .Z 0] 2:=by rw[gd _ Zo (c9 _ Zo),aI Zo Zo];exact b7
  have dv:bq X h j bF (bg+10+1+1):=⟨Zo,λe H=>by rw[gd _ Zo (c9 _ Zo),aI Zo Zo];exact bK.ad e H⟩
  clear iK gd
  refine ci @t3 ⟨?_⟩
  have aqa:∀r∈(aX++[(⟨7,[],aa,0,dN⟩:Tok)]).map b9,r.length=7:=λr a=>by obtain⟨x,_,rfl⟩:=ZT.1 a;rfl
  generalize mi:bn X bF j _=bX
  have bH:∀e,e≠j->ab X bX e=ab X bF e:=λe H=>by rw[<-mi,aI Zo H]
  have aaF:∀e∈gR,j+2<=e/\e<bg+10+1+1:=λe H=>by
   rcases ur e H with rfl|a
   ·omega
   ·have:=ni e a;omega
  obtain⟨bM,cC⟩:=(se.ad (T:=bX) (λe H=>bH e (zt (aaF e H)))).l5 Zd aqa (by simp;omega) (P:=λe=>j<=e/\e<bg+10+1+1) (λe H=>zt (aaF e H))
  have jw:=cC.aj Zs
  exact⟨⟨iQ,bM,rfl,dO.narrow cC,jw.1,jw.2⟩,⟨Zo,λe H=>by rw[bH e Zo];exact dv.ad e H⟩⟩
end
section
variable{X:ck}{h T a2 aS:V an}{j au aO bg aH bM:Nat}{aX:List Tok}{i:Nat}
def Sz(p:F):lp X h 23 p=ao X h p:=Zk
def F5(p:F):lp X h 26 p=cg X h 2 p:=Zk
def XC:dn X h .eql 20 true .nilIface .nilIface=some (.bool true):=Zk
def XB(B K:Int):dn X h .eql 20 true (oB B K) .nilIface=some (.bool false):=Zk
def WL:∃fn c,(o X).P.funcs[67]? =some fn/\fn.body=some c:=Lh (OF X)
def avX(aA:dz X){K b:F}{bu:Bool->V an->Nat->Prop}(a:bu false h j):s0 X (.func 67) ([]++[K,b]) none h j bu:=by
 refine⟨aA.none _ _ rfl,WL,Li (OF X) ?_⟩
 show x6 X 67 [K,b] none h j bu
 rw[VP]
 unfold OE
 show aY _ _
 refine ci @XC ⟨?_⟩
 exact a
def avY(aA:dz X){K b:Nat}{B at_:Int}{dt dG:V F}{bu:Bool->V an->Nat->Prop}(aL:(o X).a8<=K)(kR:(o X).a8<=b)(yl:K≠b)(CE:K<j)(ut:b<j)(h0:ab X h K=some (.cells dt 1 .own))(oD:ab X h b=some (.cells dG 2 .own))
 (a:∀T aV,j<=aV->ao X T (.ptr K 0)=some .cz->cg X T 2 (.ptr b 0)=some (.agg [.Z B, .Z at_])->(∀e,e<j->e≠K->e≠b->ab X T e=ab X h e)->bu true T aV):s0 X (.func 67) ([]++[.ptr K 0, .ptr b 0]) (some (oB B at_)) h j bu:=by
 refine⟨aA.none _ _ rfl,WL,Li (OF X) ?_⟩
 show x6 X 67 [.ptr K 0, .ptr b 0] (some (oB B at_)) h j bu
 rw[VP]
 unfold OE
 show aY _ _
 have OZ:Eu 26 (.agg [.Z 0, .Z 0]) true (oB B at_)=some (.tuple [.agg [.Z B, .Z at_], .bool true]):=rM _ _ _
 have DM:∀(M:dS) (n:Nat),(NT M).g n=M.g n:=λ_ _=>rfl
 refine er @XB @OZ @DM ⟨?_⟩
 generalize et:bn X _ j _=a2
 have b4:ab X a2 j=zx [.Z B, .Z at_] 2:=by rw[<-et,bm Zo];rfl
 have Q:∀e,e<j->ab X a2 e=ab X h e:=λe H=>by rw[<-et];exact zz
 rw[<-Q K CE]at h0
 rw[<-Q b ut]at oD
 clear et
 refine cV (bR b4) @DM ⟨?_⟩
 refine gP (by simp[F.same,n9,pR]) ?_
 generalize dI:bn X a2 K _=aS
 have b7:ab X aS K=some (.cells (dQ dt 0 [.cz]) 1 .own):=by rw[<-dI,bm aL];rfl
 have U:∀e,e≠K->ab X aS e=ab X a2 e:=λe H=>by rw[<-dI,aI aL H]
 rw[<-U b Zo]at oD
 clear dI
 refine s3 @DM ⟨?_⟩
 refine fF (h6 (B:=2) (b:=b) (Y:=0) (n:=2) oD kR rfl Zd Zd rfl) ?_
 show bu true _ _
 refine a _ _ Zo ?_ ?_ (λe H RY gf=> ?_)
 ·rw[bR (by rw[aI kR yl];exact b7),jS];rfl
 ·rw[n5,bR (bm kR),bR (bm kR),jS,jS];rfl
 ·rw[aI kR gf,U e RY,Q e H]
def awa{ai:bI}{M:dS}{p am v w:F}(lV:M.bd=[])(U:M.g 2=some p)(ar:M.g 3=some am)(eg:ao X h p=some v)(c5:cg X h 2 am=some w)(a:ai (.tuple [v,w]) h j):GB X ai M h j:=by
 unfold GB
 rw[lV]
 show al (M.g 2) (λp=>E (lp X h 23 p) λv=>al (M.g 3) λp=>E (lp X h 26 p) λw=>ai (.tuple [v,w]) h j)
 rw[U,ar]
 refine lg ?_
 rw[Sz,eg]
 refine lh ?_
 refine lg ?_
 rw[F5,c5]
 exact lh a
def awb{ai:bI}{M:dS}{p am v w K b:F}(aA:dz X)(lV:M.bd=[⟨.fn (.func 67) [K,b],[]⟩])(U:M.g 2=some p)(ar:M.g 3=some am)(eg:ao X h p=some v)(c5:cg X h 2 am=some w)(a:ai (.tuple [v,w]) h j):GB X ai M h j:=by
 unfold GB
 rw[lV]
 show s0 X (.func 67) ([]++[K,b]) none h j λ_ h j=>mZ X [.cell 2 23, .cell 3 26] ai M [] h j
 refine avX aA ?_
 show al (M.g 2) (λp=>E (lp X h 23 p) λv=>al (M.g 3) λp=>E (lp X h 26 p) λw=>ai (.tuple [v,w]) h j)
 rw[U,ar]
 refine lg ?_
 rw[Sz,eg]
 refine lh ?_
 refine lg ?_
 rw[F5,c5]
 exact lh a
def adS{ai ay:bI}{M:dS}{K b:Nat}{B at_:Int}{dt dG:V F}(aA:dz X)(lV:M.bd=[⟨.fn (.func 67) [.ptr K 0, .ptr b 0],[]⟩])(U:M.g 2=some (.ptr K 0))(ar:M.g 3=some (.ptr b 0))
 (aL:(o X).a8<=K)(kR:(o X).a8<=b)(yl:K≠b)(CE:K<j)(ut:b<j)(h0:ab X h K=some (.cells dt 1 .own))(oD:ab X h b=some (.cells dG 2 .own))
 (a:∀T aV,j<=aV->(∀e,e<j->e≠K->e≠b->ab X T e=ab X h e)->ai (.tuple [.cz, .agg [.Z B, .Z at_]]) T aV):JH X ai ay M (oB B at_) h j:=by
 unfold JH
 rw[lV]
 show s0 X (.func 67) ([]++[.ptr K 0, .ptr b 0]) (some (oB B at_)) h j λb h j=>bP b (mZ X [.cell 2 23, .cell 3 26] ai M [] h j) _
 refine avY aA aL kR yl CE ut h0 oD (λT aV gl eg c5 aN=> ?_)
 show al (M.g 2) (λp=>E (lp X T 23 p) λv=>al (M.g 3) λp=>E (lp X T 26 p) λw=>ai (.tuple [v,w]) T aV)
 rw[U,ar]
 refine lg ?_
 rw[Sz,eg]
 refine lh ?_
 refine lg ?_
 rw[F5,c5]
 exact lh (a T aV gl aN)
def Xf{fn:Fn}{first cap xO:List F}{M:dS}{ai:dS->Prop}(a:ai (yR M ⟨.fn fn cap,first++xO⟩)):Hu (.func fn first cap) xO M ai:=a
def BB(s:bk)(n:Nat):Option (Except (Int×Int) (List Go.aU.Node)):=match qE s (s.length+1) [] (nK s s.length 0)with
 |none=>none
 |some (.error K)=>some (.error (20,K))
 |some (.ok aX)=>match o3 n [] aX with
  |none=>none
  |some (.error K)=>some (.error (21,K))
  |some (.ok (aq,_))=>match n8 aq with
   |some (B,K)=>some (.error (B,K))
   |none=>some (.ok aq)
def T4(X:ck)(j:Nat)(r:Except (Int×Int) (List Go.aU.Node))(ae:F)(T:V an)(au:Nat):Prop:=match r with
 | .error (B,K)=>ae= .tuple [.cz, .agg [.Z B, .Z K]]
 | .ok aq=>∃v,ae= .tuple [v, .agg [.Z 0, .Z 0]]/\nE X T (da j au) aq v
def Hk(s:bk):∀(n i:Nat),i<=s.length->nK s n i<=s.length:=by
 intro n
 induction n with
 |zero=>intro i a;exact a
 |succ n ak=>
  intro i a
  rw[nK]
  split
  ·exact a
  ·rename_i c aB
   have ah:=(Zb.1 aB).1
   split
   ·exact ak _ Zo
   ·split
    ·have:=D2 (λc=>decide (c≠10)) (s.drop i)
     rw[YB]at this
     exact ak _ Zo
    ·exact a
def aeZ(s:bk):∀(n:Nat) (aX:List Tok) (i:Nat) (mD:List Tok),aX.length<=i->i<=s.length->qE s n aX i=some (.ok mD)->mD.length<=s.length+1:=by
 intro n
 induction n with
 |zero=>intro aX i mD _ _ a;cases a
 |succ n ak=>
  intro aX i mD Q U a
  rw[qE]at a
  split at a
  ·split at a
   ·cases a
   ·rename_i x ah
    obtain⟨bV,cw⟩:=TJ ah
    have c4:=O6 s s.length (i+x.text.length)
    exact ak _ _ _ (by simp;omega) (Hk s _ _ cw) a
  ·cases a
   simp;omega
def avg(aA:iE X)(eS:GZ X)(gr:vZ X){s:bk}{n:Nat}(r9:n<=170000)(aD:s.length<=65536)(aj:∀c∈s,c<256)(aL:(o X).a8<=j){a0:F}(aC:dX a0=some (.Z (s.length:Int)))(CH:∀T aV,bq X h j T aV->Au X T a0=some (.str s))
 {r:Except (Int×Int) (List Go.aU.Node)}(Z:BB s n=some r):
 aW X 15 [a0] h j (λae T au=>T4 X j r ae T au/\bq X h j T au) (λ_ _ _=>False):=by
 refine Hn (agV X) (aA.none _ _ rfl) ?_
 rw[agW]
 unfold Ux
 refine cL ⟨?_⟩
 refine fc (λa2=>ab X a2 j=zx [.cz] 1/\ab X a2 (j+1)=zx [.Z 0, .Z 0] 2/\bq X h j a2 (j+1+1)) ⟨by simp(disch:=omega) only[aI,bm]<;>rfl,by rw[bm Zo];rfl,dU⟩ ?_
 rintro a2 ⟨b4,b7,bU⟩
 unfold BB at Z
 obtain⟨DP,FB⟩:∃DP,qE s (s.length+1) [] (nK s s.length 0)=some DP:=by
  cases a:qE s (s.length+1) [] (nK s s.length 0)with
  |none=>rw[a]at Z;cases Z
  |some DP=>exact⟨DP,rfl⟩
 rw[FB]at Z
 refine(akg aA eS aD aj Zo aC (λT aV a=>CH T aV (bU.trans a)) FB).Zm ?_
 rintro ae aS bg ⟨mr,bK⟩
 have ge:=bK.le
 have cN:ab X aS j=zx [.cz] 1:=by rw[bK.ad _ Zo];exact b4
 have ej:ab X aS (j+1)=zx [.Z 0, .Z 0] 2:=by rw[bK.ad _ Zo];exact b7
 have jX:=bU.trans bK
 clear b4 b7
 cases DP with
 |error K=>
  simp only[Zf]at Z
  subst Z
  simp only[Wb]at mr
  subst mr
  have Po:decide ((20:Int)≠0)=true:=rfl
  refine ci @Po ⟨?_⟩
  generalize fC:bn X aS (j+1) _=bb
  have fY:ab X bb (j+1)=zx [.Z 20, .Z K] 2:=by rw[<-fC,bm Zo];rfl
  have ar:∀e,e≠j+1->ab X bb e=ab X aS e:=λe H=>by rw[<-fC,aI Zo H]
  rw[<-ar _ Zo]at cN
  have cq:bq X h j bb bg:=⟨Zo,λe H=>by rw[ar e Zo];exact jX.ad e H⟩
  clear fC ar ej
  refine fF (h6 (B:=1) (b:=j) (Y:=0) (n:=1) cN aL rfl Zd Zd rfl) ?_
  generalize fl:bn X bb j _=bF
  have dY:ab X bF j=some (.cells (dQ (V.ofList [.cz] 0 .nil) 0 [.cz]) 1 .own):=by rw[<-fl,bm aL];rfl
  have aK:∀e,e≠j->ab X bF e=ab X bb e:=λe H=>by rw[<-fl,aI aL H]
  rw[<-aK _ Zo]at fY
  have dv:bq X h j bF bg:=⟨Zo,λe H=>by rw[aK e Zo];exact cq.ad e H⟩
  clear fl aK cN cq
  refine s3 (bR fY) ⟨?_⟩
  refine gP (by simp[F.same,n9,pR]) ?_
  refine fF (h6 (B:=2) (b:=j+1) (Y:=0) (n:=2) fY Zo rfl Zd Zd rfl) ?_
  refine awa (v:= .cz) (w:= .agg [.Z 20, .Z K]) rfl (gc) (gc) ?_ ?_ ⟨rfl,bq.set dv Zo aL Zo⟩
  ·rw[bR (by rw[aI Zo Zo];exact dY),jS];rfl
  ·rw[n5,bR (bm Zo),bR (bm Zo),jS,jS];rfl
 |ok aX=>
  obtain⟨av,bM,rfl,cC,azC,azD⟩:=mr
  simp only[]at Z
  have Po:decide ((0:Int)≠0)=false:=rfl
  refine ci @Po ⟨?_⟩
  generalize fC:bn X aS (j+1) _=bb
  have fY:ab X bb (j+1)=zx [.Z 0, .Z 0] 2:=by rw[<-fC,bm Zo];rfl
  have ar:∀e,e≠j+1->ab X bb e=ab X aS e:=λe H=>by rw[<-fC,aI Zo H]
  rw[<-ar _ Zo]at cN
  have cq:bq X h j bb bg:=⟨Zo,λe H=>by rw[ar e Zo];exact jX.ad e H⟩
  have arb:=cC.ad (T:=bb) (λe H=>by subst H;exact ar e Zo)
  clear fC ar ej
  refine Xf ?_
  obtain⟨bD,cF,fx⟩:=ke cC.len
  refine cL ⟨?_⟩
  have d1:eB [.aP, .Z 0] [(0,1,av)]=some (.agg [av, .Z 0]):=by
   simp[eB,py,pz,bD,li]
  refine fF d1 ?_
  refine cL ⟨?_⟩
  generalize hL:yR _ _=tT
  have kj:tT.bd=[⟨.fn (.func 67) [.ptr j 0, .ptr (j+1) 0],[]⟩]:=by rw[<-hL];rfl
  have ez:tT.g 2=some (.ptr j 0):=by rw[<-hL];rfl
  have t3:tT.g 3=some (.ptr (j+1) 0):=by rw[<-hL];rfl
  have Xh:∀l,oa 2 l=false->(hE l tT).g 2=some (.ptr j 0):=λl a=>by simp[p7,ez,a]
  have Xi:∀l,oa 3 l=false->(hE l tT).g 3=some (.ptr (j+1) 0):=λl a=>by simp[p7,t3,a]
  have Xa:∀l,(hE l tT).bd=[⟨.fn (.func 67) [.ptr j 0, .ptr (j+1) 0],[]⟩]:=λl=>kj
  clear hL
  refine fc (λbF=>ab X bF bg=zx [av, .Z ((0:Nat):Int)] 2/\bq X bb bg bF (bg+1)) ⟨by rw[bm Zo];rfl,dU⟩ ?_
  rintro bF ⟨dY,yf⟩
  have fD:=aeZ s _ _ _ _ Zs (Hk s _ _ Zo) FB
  have aqN:aU X bF bg bM aX 0:=⟨⟨_,av,dY,rfl,rfl,arb.ad λe H=>by subst H;exact yf.ad e Zo⟩,Zo⟩
  have aqQ:io X bF (bg+1) bg bM aX 0:=⟨Zo,Zo,Zo,Zo,Zo,aqN⟩
  obtain⟨JU,AZ⟩:∃JU,o3 n [] aX=some JU:=by
   cases a:o3 n [] aX with
   |none=>rw[a]at Z;cases Z
   |some JU=>exact⟨JU,rfl⟩
  rw[AZ]at Z
  have cD:ab X bF j=zx [.cz] 1:=by rw[yf.ad _ Zo];exact cN
  have cp:ab X bF (j+1)=zx [.Z 0, .Z 0] 2:=by rw[yf.ad _ Zo];exact fY
  refine(avC aA.todz gr r9 Zo aqQ (r:=JU) AZ).mono ?_ ?_
  ·rintro v bX b2 ⟨aq,i5,rfl,AY,_,dC⟩
   have h5:=dC.le
   simp only[]at Z
   have dF:ab X bX j=zx [.cz] 1:=by rw[dC.ad _ Zo (by simp;omega)];exact cD
   have fL:ab X bX (j+1)=zx [.Z 0, .Z 0] 2:=by rw[dC.ad _ Zo (by simp;omega)];exact cp
   have abw:∀e,e<j->ab X bX e=ab X h e:=λe H=>by rw[dC.ad e Zo (by simp;omega),yf.ad e Zo];exact cq.ad e H
   obtain⟨xQ,_,_,_,rfl,aaJ,_⟩:=id AY
   have azE:=aaJ.1
   have azF:=aaJ.2
   refine s3 @ez ⟨?_⟩
   refine fF (h6 (B:=1) (b:=j) (Y:=0) (n:=1) dF aL rfl Zd Zd rfl) ?_
   generalize f6:bn X bX j _=cf
   have e1:ab X cf j=some (.cells (dQ (V.ofList [.cz] 0 .nil) 0 [.ptr xQ 0]) 1 .own):=by rw[<-f6,bm aL];rfl
   have cu:∀e,e≠j->ab X cf e=ab X bX e:=λe H=>by rw[<-f6,aI aL H]
   clear f6
   have mv:ao X cf (.ptr j 0)=some (.ptr xQ 0):=by rw[bR e1,jS];rfl
   refine s3 @ez ⟨?_⟩
   refine s3 @mv ⟨?_⟩
   have aqS:=AY.ad (T:=cf) (bu:=da (bg+1) b2) (λe H=>cu e (zt H.1)) (λ_ a=>a)
   have l4:ab X cf (j+1)=zx [.Z 0, .Z 0] 2:=by rw[cu _ Zo];exact fL
   refine(atB (j:=b2) (h:=cf) aA.todz Zo aqS (λe H=>H.2)).mono ?_ ?_
   ·rintro Kc cx eu ⟨pH,rfl,fa⟩
    have nn:=fa.le
    rw[pH]at Z
    simp only[Zf]at Z
    subst Z
    have ir:ab X cx j=some (.cells (dQ (V.ofList [.cz] 0 .nil) 0 [.ptr xQ 0]) 1 .own):=by rw[fa.ad _ Zo];exact e1
    have BF:ab X cx (j+1)=zx [.Z 0, .Z 0] 2:=by rw[fa.ad _ Zo];exact l4
    have lZ:ao X cx (.ptr j 0)=some (.ptr xQ 0):=by rw[bR ir,jS];rfl
    refine s3 @ez ⟨?_⟩
    refine s3 @lZ ⟨?_⟩
    refine hR ⟨?_⟩
    refine s3 @ez ⟨?_⟩
    refine fF (h6 (B:=1) (b:=j) (Y:=0) (n:=1) ir aL rfl Zd Zd rfl) ?_
    generalize qg:bn X cx j _=dx
    have nc:ab X dx j=some (.cells (dQ (dQ (V.ofList [.cz] 0 .nil) 0 [.ptr xQ 0]) 0 [.ptr xQ 0]) 1 .own):=by rw[<-qg,bm aL];rfl
    have fs:∀e,e≠j->ab X dx e=ab X cx e:=λe H=>by rw[<-qg,aI aL H]
    rw[<-fs _ Zo]at BF
    clear qg
    refine s3 @t3 ⟨?_⟩
    refine fF (h6 (B:=2) (b:=j+1) (Y:=0) (n:=2) BF Zo rfl Zd Zd rfl) ?_
    have ql:∀cT e,e≠j->e≠j+1->e<b2->ab X (bn X dx (j+1) cT) e=ab X bX e:=λcT e Q U ar=>by
     rw[aI Zo U,fs e Q,fa.ad e ar,cu e Q]
    refine awb (v:= .ptr xQ 0) (w:= .agg [.Z 0, .Z 0]) aA.todz kj ez t3 ?_ ?_ ⟨⟨.ptr xQ 0,rfl,AY.ad (λe H=>ql _ e (zt H.1) (zt H.1) H.2) (λe H=>⟨zt H.1,zt H.2⟩)⟩,⟨Zo,λe H=>by rw[ql _ e Zo Zo Zo];exact abw e H⟩⟩
    ·rw[bR (by rw[aI Zo Zo];exact nc),jS];rfl
    ·rw[n5,bR (bm Zo),bR (bm Zo),jS,jS];rfl
   ·rintro ae cx eu ⟨B,K,pH,rfl,fa⟩
    have nn:=fa.le
    rw[pH]at Z
    simp only[Zf]at Z
    subst Z
    refine adS (dt:=dQ (V.ofList [.cz] 0 .nil) 0 [.ptr xQ 0]) (dG:=V.ofList [.Z 0, .Z 0] 0 .nil) aA.todz (Xa _) (Xh _ rfl) (Xi _ rfl) aL Zo Zo Zo Zo ?_ ?_ (λT aV gl aN=>⟨rfl,Zo,λe H=> ?_⟩)
    ·rw[fa.ad _ Zo];exact e1
    ·rw[fa.ad _ Zo];exact l4
    ·rw[aN e Zo Zo Zo,fa.ad e Zo,cu e Zo];exact abw e H
  ·rintro ae bX b2 ⟨K,rfl,rfl,dC⟩
   have h5:=dC.le
   simp only[Zf]at Z
   subst Z
   refine adS (dt:=V.ofList [.cz] 0 .nil) (dG:=V.ofList [.Z 0, .Z 0] 0 .nil) aA.todz (Xa _) (Xh _ rfl) (Xi _ rfl) aL Zo Zo Zo Zo ?_ ?_ (λT aV gl aN=>⟨rfl,Zo,λe H=> ?_⟩)
   ·rw[dC.ad _ Zo (by simp;omega)];exact cD
   ·rw[dC.ad _ Zo (by simp;omega)];exact cp
   ·rw[aN e Zo Zo Zo,dC.ad e Zo (by simp;omega),yf.ad e Zo];exact cq.ad e H
end
end
end Go.Proofs.YtpfajohmofnkfaaGreatDoor

namespace Go.aU
def hi:List Tok->Prop
 |[]=>False
 |x::l=>x.kind=7/\x.text=[]\/hi l
def hi.pc{x:Tok}{l:List Tok}(a:hi (x::l))(ah:x.kind≠7):hi l:=a.resolve_left λB=>ah B.1
def d8{α:Type}(b:Nat)(bu:α->Prop)(x:ga α):Prop:=∃r,x=some r/\∀K b8,r= .ok (K,b8)->hi b8/\b8.length<b/\bu K
def p0(J:bE):Prop:=J.kind=4->J.args≠[]
def d8.mono{α:Type}{b dP:Nat}{bu qM:α->Prop}{x:ga α}(a:d8 b bu x)(aj:b<=dP)(b1:∀K,bu K->qM K):d8 dP qM x:=by
 obtain⟨r,Q,U⟩:=a
 exact⟨r,Q,λK b8 J=>by obtain⟨bV,cw,c4⟩:=U K b8 J;exact⟨bV,Zo,b1 K c4⟩⟩
def d8.ok{α:Type}{b:Nat}{bu:α->Prop}{K:α}{l:List Tok}(Q:hi l)(U:l.length<b)(ar:bu K):d8 b bu (aU.ok K l):=⟨_,rfl,λfN b8 J=>by cases J;exact⟨Q,U,ar⟩⟩
def d8.bad{α:Type}{b:Nat}{bu:α->Prop}(K:Int):d8 b bu (aU.bad K:ga α):=⟨_,rfl,λfN b8 J=>by cases J⟩
def d8.andThen{α eO:Type}{b dP:Nat}{bu:α->Prop}{qM:eO->Prop}{x:ga α}{f:α->List Tok->ga eO}(a:d8 b bu x)(B:∀K b8,hi b8->b8.length<b->bu K->d8 dP qM (f K b8)):d8 dP qM (aU.andThen x f):=by
 obtain⟨r,rfl,U⟩:=a
 cases r with
 |error K=>exact⟨_,rfl,λfN b8 J=>by cases J⟩
 |ok p=>
  obtain⟨K,b8⟩:=p
  obtain⟨bV,cw,c4⟩:=U K b8 rfl
  exact B K b8 bV cw c4
def Tm{x:Tok}{s:bk}(a:g3 x s=true):x.kind≠7:=by
 intro J;simp[g3,J]at a
def ny{s:bk}{l:List Tok}(a:hi l):d8 l.length (λ_=>True) (eH s l):=by
 cases l with
 |nil=>exact a.elim
 |cons x l=>
  simp only[eH]
  split
  ·rename_i aD;exact d8.ok (a.pc (Tm aD)) Zs trivial
  ·exact d8.bad _
def u1{B:Int}(aN:B≠7){l:List Tok}(a:hi l):d8 l.length (λx:Tok=>True) (iy B l):=by
 cases l with
 |nil=>exact a.elim
 |cons x l=>
  simp only[iy]
  split
  ·rename_i aD;exact d8.ok (a.pc Zo) Zs trivial
  ·exact d8.bad _
def pV{eO:Type}{s:bk}{l:List Tok}{f:Option Tok->List Tok->ga eO}{b:Nat}{bu:eO->Prop}(a:hi l)(Q:∀x b8,hi b8->b8.length+1=l.length->d8 b bu (f (some x) b8))(U:d8 b bu (f none l)):d8 b bu (h7 s l f):=by
 cases l with
 |nil=>exact a.elim
 |cons x l=>
  unfold h7 lM
  by_cases aD:g3 x s=true
  ·simp only[aD,ZD];exact Q x l (a.pc (Tm aD)) Zs
  ·simp only[aD,ZA];exact U
def WH{l:List Tok}(a:hi l):∀os:List (bk×Int),∃J b8,ow os l=some (J,b8)/\(J=none/\b8=l\/∃x,J=some x/\hi b8/\b8.length+1=l.length):=by
 cases l with
 |nil=>exact a.elim
 |cons x l=>
  intro os
  induction os with
  |nil=>exact⟨_,_,rfl, .inl ⟨rfl,rfl⟩⟩
  |cons Y os ak=>
   obtain⟨s,B⟩:=Y
   unfold ow lM
   by_cases aD:g3 x s=true
   ·simp only[aD,ZD];exact⟨_,_,rfl, .inr ⟨_,rfl,a.pc (Tm aD),Zs⟩⟩
   ·simp only[aD,ZA]
    exact ak
structure afM(n:Nat):Prop where
 level:∀B l,B<=5->hi l->13*l.length+9-B<=n->d8 l.length p0 (level n B l)
 oY:∀B J l,B<=4->hi l->p0 J->13*l.length+1<=n->d8 (l.length+1) p0 (oY n B J l)
 shift:∀l,hi l->13*l.length+3<=n->d8 l.length p0 (shift n l)
 o8:∀J l,hi l->p0 J->13*l.length+1<=n->d8 (l.length+1) p0 (o8 n J l)
 o9:∀B x J l,B≠4->hi l->13*l.length+1<=n->d8 l.length p0 (o9 n B x J l)
 tC:∀l,hi l->13*l.length+2<=n->d8 l.length p0 (xk n l)
 m4:∀J l,hi l->p0 J->13*l.length+1<=n->d8 (l.length+1) p0 (m4 n J l)
 part:∀l,hi l->13*l.length+1<=n->d8 l.length p0 (part n l)
 list:∀l,hi l->13*l.length+12<=n->d8 l.length (λ_=>True) (list n l)
 o0:∀ct l,hi l->13*l.length+1<=n->d8 l.length (λ_=>True) (o0 n ct l)
 lz:∀l,hi l->13*l.length+10<=n->d8 l.length p0 (lz n l)
 arrow:∀l,hi l->13*l.length+11<=n->d8 l.length p0 (arrow n l)
def tL{J:bE}(a:J.kind≠4):p0 J:=λB=>absurd B a
def TT{J:bE}(a:J.args≠[]):p0 J:=λ_=>a
def hi.pos{l:List Tok}(a:hi l):0<l.length:=by cases l with
 |nil=>exact a.elim
 |cons x l=>simp
def ake:∀n,afM n:=by
 intro n
 induction n with
 |zero=>constructor<;>(intros;rename_i a _ _;omega)
 |succ n ak=>
  constructor
  case level=>
   intro B l aN aC aL
   have:=aC.pos
   rw[level]
   split
   ·exact ak.shift l aC Zo
   ·refine(ak.level (B+1) l Zo aC Zo).andThen λJ b8 Q U ar=> ?_
    exact(ak.oY B J b8 Zo Q ar Zo).mono Zo λ_ a=>a
  case oY=>
   intro B J l aN aC bx aL
   have:=aC.pos
   rw[oY]
   obtain⟨Y,b8,Q,U⟩:=WH aC (ax B)
   rw[Q]
   rcases U with ⟨rfl,rfl⟩|⟨x,rfl,ar,aK⟩
   ·exact d8.ok aC Zo bx
   ·simp only[]
    refine(ak.level (B+1) b8 Zo ar Zo).andThen λr c5 bV cw c4=> ?_
    split
    ·exact d8.ok bV Zo (TT (by simp[two,bE.args]))
    ·exact(ak.oY B _ c5 aN bV (TT (by simp[two,bE.args])) Zo).mono Zo λ_ a=>a
  case shift=>
   intro l aC aL
   have:=aC.pos
   rw[shift]
   refine(ak.tC l aC Zo).andThen λJ b8 Q U ar=> ?_
   exact(ak.o8 J b8 Q ar Zo).mono Zo λ_ a=>a
  case o8=>
   intro J l aC bx aL
   have:=aC.pos
   rw[o8]
   refine pV aC (λx b8 Q U=>(ak.o9 19 x J b8 Zd Q Zo).mono Zo λ_ a=>a) ?_
   refine pV aC (λx b8 Q U=>(ak.o9 20 x J b8 Zd Q Zo).mono Zo λ_ a=>a) ?_
   exact d8.ok aC Zo bx
  case o9=>
   intro B x J l aN aC aL
   have:=aC.pos
   rw[o9]
   refine(u1 Zd aC).andThen λm b8 Q U ar=> ?_
   split
   ·exact d8.bad _
   ·exact(ak.o8 _ b8 Q (tL (by simpa[bE.kind]using aN)) Zo).mono Zo λ_ a=>a
  case tC=>
   intro l aC aL
   have:=aC.pos
   rw[xk]
   obtain⟨Y,b8,Q,U⟩:=WH aC yQ
   rw[Q]
   rcases U with ⟨rfl,rfl⟩|⟨x,rfl,ar,aK⟩
   ·simp only[]
    refine(ak.part b8 aC Zo).andThen λJ c5 bV cw c4=> ?_
    exact(ak.m4 J c5 bV c4 Zo).mono Zo λ_ a=>a
   ·simp only[]
    refine(ak.tC b8 ar Zo).andThen λJ c5 bV cw c4=> ?_
    exact d8.ok bV Zo (TT (by simp[bE.args]))
  case m4=>
   intro J l aC bx aL
   have:=aC.pos
   rw[m4]
   refine pV aC (λx b8 Q U=> ?_) (d8.ok aC Zo bx)
   have:=Q.pos
   refine pV Q (λe c5 bV cw=> ?_) ?_
   ·refine(u1 Zd bV).andThen λm e6 e8 fQ kt=> ?_
    exact(ak.m4 _ e6 e8 (tL (by simp[bE.kind])) Zo).mono Zo λ_ a=>a
   ·refine(u1 Zd Q).andThen λm e6 e8 fQ kt=> ?_
    exact(ak.m4 _ e6 e8 (tL (by simp[bE.kind])) Zo).mono Zo λ_ a=>a
  case list=>
   intro l aC aL
   have:=aC.pos
   rw[list]
   refine pV aC (λx b8 Q U=>d8.ok Q Zo trivial) ?_
   refine(ak.arrow l aC Zo).andThen λJ c5 bV cw c4=> ?_
   exact(ak.o0 _ c5 bV Zo).mono Zo λ_ a=>a
  case o0=>
   intro ct l aC aL
   have:=aC.pos
   rw[o0]
   refine pV aC (λx b8 Q U=> ?_) ?_
   ·refine(ak.arrow b8 Q Zo).andThen λJ c5 bV cw c4=> ?_
    exact(ak.o0 _ c5 bV Zo).mono Zo λ_ a=>a
   ·exact(ny aC).andThen λ_ b8 Q U _=>d8.ok Q Zo trivial
  case lz=>
   intro l aC aL
   have:=aC.pos
   rw[lz]
   refine(ak.level 0 l Zo aC Zo).andThen λJ c5 bV cw c4=> ?_
   refine pV bV (λx b8 Q U=> ?_) (d8.ok bV Zo c4)
   have AV:tw J≠none:=by
    unfold tw
    split
    ·simp
    ·split
     ·rename_i aK
      have:=c4 aK
      cases aE:J.args with
      |nil=>exact absurd aE this
      |cons K l=>simp
     ·simp
   simp only[]
   split
   ·rename_i a;exact absurd a AV
   ·refine(ak.lz b8 Q Zo).andThen λr e6 e8 fQ kt=> ?_
    exact d8.ok e8 Zo (tL (by simp[bE.kind]))
   ·exact d8.bad _
  case arrow=>
   intro l aC aL
   have:=aC.pos
   rw[arrow]
   refine(ak.lz l aC Zo).andThen λJ c5 bV cw c4=> ?_
   refine pV bV (λx b8 Q U=> ?_) (d8.ok bV Zo c4)
   refine(ak.arrow b8 Q Zo).andThen λr e6 e8 fQ kt=> ?_
   exact d8.ok e8 Zo (tL (by simp[bE.kind]))
  case part=>
   intro l aC aL
   cases l with
   |nil=>exact aC.elim
   |cons x l=>
   simp only[ZB]at aL
   rw[part]
   have fD:(x::l).length=l.length+1:=rfl
   rw[fD]
   by_cases jU:x.kind=5
   ·rw[Zq jU]
    exact d8.ok (aC.pc Zo) Zo (tL (by simp[bE.kind]))
   rw[Zg jU]
   split
   ·rename_i a
    have:x.kind=2:=by simp at a;exact a.1
    exact d8.ok (aC.pc Zo) Zo (tL (by simp[bE.kind]))
   by_cases dt:x.kind=1
   ·rw[Zq dt]
    have hk:=aC.pc Zo
    refine pV hk (λe c5 Q U=> ?_) (d8.ok hk Zo (tL (by simp[bE.kind])))
    refine(ak.list c5 Q Zo).andThen λct e6 e8 fQ kt=> ?_
    exact d8.ok e8 Zo (tL (by simp[bE.kind]))
   rw[Zg dt]
   by_cases hd:x.kind=3
   ·rw[Zq hd]
    have hk:=aC.pc Zo
    refine(ny hk).andThen λ_ c5 Q U _=> ?_
    refine(ak.arrow c5 Q Zo).andThen λJ e6 e8 fQ kt=> ?_
    refine(ny e8).andThen λ_ g0 fA hx _=> ?_
    exact d8.ok fA Zo (tL (by simp[bE.kind]))
   rw[Zg hd]
   split
   ·rename_i a
    have:x.kind=6:=by simp at a;exact a.1
    have hk:=aC.pc Zo
    refine(ak.arrow l hk Zo).andThen λJ e6 e8 fQ kt=> ?_
    refine(ny e8).andThen λ_ g0 fA hx _=> ?_
    exact d8.ok fA Zo kt
   split
   ·rename_i a
    have:x.kind=2:=by simp at a;exact a.1
    have hk:=aC.pc Zo
    refine(ak.arrow l hk Zo).andThen λJ e6 e8 fQ kt=> ?_
    refine(ny e8).andThen λ_ g0 fA hx _=> ?_
    refine(ak.arrow g0 fA Zo).andThen λcF gF cD cp dF=> ?_
    refine(ny cD).andThen λ_ mv eW e5 _=> ?_
    refine(ak.arrow mv eW Zo).andThen λfx lZ jQ kA JW=> ?_
    exact d8.ok jQ Zo (tL (by simp[bE.kind]))
   split
   ·rename_i a
    have:x.kind=2:=by simp at a;exact a.1
    have hk:=aC.pc Zo
    refine(u1 Zd hk).andThen λc c5 Q U _=> ?_
    refine(ak.part c5 Q Zo).andThen λJ e6 e8 fQ kt=> ?_
    refine(ak.part e6 e8 Zo).andThen λcF g0 fA hx xj=> ?_
    exact d8.ok fA Zo (tL (by simp[bE.kind]))
   ·exact d8.bad _
def adp:∀(n:Nat) (ct l:List Tok),hi l->l.length<=n->d8 l.length (λ_=>True) (rf n ct l):=by
 intro n
 induction n with
 |zero=>intro ct l a aL;have:=a.pos;omega
 |succ n ak=>
  intro ct l a aL
  rw[rf]
  refine(u1 Zd a).andThen λx c5 Q U _=> ?_
  refine pV Q (λe e6 bV cw=>(ak _ e6 bV Zo).mono Zo λ_ a=>a) (d8.ok Q Zo trivial)
def aly{w:Option Tok}{l:List Tok}(a:hi l):d8 (l.length+1) (λ_=>True) (Av w l):=by
 cases w with
 |none=>exact d8.ok a Zo trivial
 |some w=>
  simp only[Av]
  refine pV a (λe c5 bV cw=> ?_) ?_
  ·exact(u1 Zd bV).andThen λx e6 e8 fQ _=>d8.ok e8 Zo trivial
  ·exact(u1 Zd a).andThen λx e6 e8 fQ _=>d8.ok e8 Zo trivial
def Pq:∀(n:Nat) (loc:Bool) (ds:List fe) (l:List Tok),hi l->l.length+1<=n->d8 l.length (λ_=>True) (iW n loc ds l):=by
 intro n
 induction n with
 |zero=>intro loc ds l a aL;omega
 |succ n ak=>
  intro loc ds l a aL
  rw[iW]
  refine(adp n [] l a Zo).andThen λcn c5 Q U _=> ?_
  unfold Cg
  refine(ny Q).andThen λ_ e6 bV cw _=> ?_
  refine(u1 Zd bV).andThen λt g0 e8 fQ _=> ?_
  have fin:∀w gF,hi gF->gF.length<=g0.length->d8 l.length (λ_=>True) (andThen (Av w gF) λr l=>xU loc (iW n loc) (ds++cn.map (pv t.ty r.1 r.2.1 r.2.2)) l):=by
   intro w gF fA hx
   refine(aly fA).andThen λr mv cD cp _=> ?_
   unfold xU
   cases mv with
   |nil=>exact cD.elim
   |cons e lZ=>
    simp only[y0,ZB]at cp ⊢
    split
    ·rename_i aD
     have dF:hi lZ:=cD.resolve_left λB=>by rw[B.2]at aD;cases aD
     split
     ·cases lZ with
      |nil=>exact dF.elim
      |cons bt n3=>
       simp only[y0]
       split
       ·exact d8.ok cD (by simp at cp ⊢;omega) trivial
       ·exact(ak _ _ (bt::n3) dF (by simp at cp ⊢;omega)).mono (by simp at cp ⊢;omega) λ_ a=>a
     ·exact(ak _ _ lZ dF Zo).mono Zo λ_ a=>a
    ·exact d8.ok cD (by simp;omega) trivial
  refine pV e8 (λe gF fA hx=>fin _ gF fA Zo) (fin _ g0 e8 Zo)
def amo{n:Nat}{l:List Tok}(a:hi l)(aL:13*l.length+12<=n):d8 l.length (λ_=>True) (ue n l):=by
 unfold ue
 have fin:∀(x:ga (List Tok)),d8 (l.length+1) (λ_=>True) x->d8 l.length (λ_=>True) (andThen x λcn l=>andThen (eH [61] l) λJ l=>andThen (arrow n l) λr l=>andThen (eH [59] l) λ_ l=>ok (⟨cn.map Tok.text,cn.map Tok.at_,J.at_,r⟩:e9) l):=by
  intro x ah
  refine ah.andThen λcn c5 Q U _=> ?_
  refine(ny Q).andThen λ_ e6 bV cw _=> ?_
  refine((ake n).arrow e6 bV Zo).andThen λJ g0 e8 fQ _=> ?_
  exact(ny e8).andThen λ_ gF fA hx _=>d8.ok fA Zo trivial
 refine pV a (λe c5 Q U=>fin _ ?_) (fin _ ?_)
 ·refine(u1 Zd Q).andThen λx e6 bV cw _=> ?_
  refine(ny bV).andThen λ_ g0 e8 fQ _=> ?_
  refine(adp n _ g0 e8 Zo).andThen λcn gF fA hx _=> ?_
  exact(ny fA).andThen λ_ mv cD cp _=>d8.ok cD Zo trivial
 ·exact(u1 Zd a).andThen λx e6 bV cw _=>d8.ok bV Zo trivial
def amr:∀(n:Nat) (cR:List e9) (l:List Tok),hi l->13*l.length+13<=n->d8 l.length (λ_=>True) (ly n cR l):=by
 intro n
 induction n with
 |zero=>intro cR l a aL;omega
 |succ n ak=>
  intro cR l a aL
  rw[ly]
  refine pV a (λe c5 Q U=>d8.ok Q Zo trivial) ?_
  refine(amo a Zo).andThen λam c5 Q U _=> ?_
  exact(ak _ c5 Q Zo).mono Zo λ_ a=>a
def auz{n:Nat}{l:List Tok}(a:hi l)(aL:13*l.length+13<=n):d8 l.length (λ_=>True) (node n l):=by
 unfold node
 refine(ny a).andThen λ_ c5 Q U _=> ?_
 refine(u1 Zd Q).andThen λx e6 bV cw _=> ?_
 refine(ny bV).andThen λ_ g0 e8 fQ _=> ?_
 have amF:∀eG out gF,hi gF->gF.length<g0.length->d8 l.length (λ_=>True) (h7 [118,97,114] gF λe l=>andThen (match e with
  |some _=>andThen (iW n true [] l) λds l=>andThen (eH [59] l) λ_ l=>ok ds l
  |none=>ok [] l) λloc l=>
  andThen (eH [108,101,116] l) λ_ l=>andThen (ly n [] l) λcR l=>ok (⟨x.text,x.at_,eG,out,loc,cR⟩:Node) l):=by
  intro eG out gF fA hx
  have XN:∀(bt:ga (List fe)),d8 (gF.length+1) (λ_=>True) bt->d8 l.length (λ_=>True) (andThen bt λloc l=>
   andThen (eH [108,101,116] l) λ_ l=>andThen (ly n [] l) λcR l=>ok (⟨x.text,x.at_,eG,out,loc,cR⟩:Node) l):=by
   intro bt cv
   refine cv.andThen λloc mv cD cp _=> ?_
   refine(ny cD).andThen λ_ lZ eW e5 _=> ?_
   refine(amr n _ lZ eW Zo).andThen λcR n3 jQ kA _=> ?_
   exact d8.ok jQ Zo trivial
  refine pV fA (λe mv cD cp=>XN _ ?_) (XN _ (d8.ok fA Zo trivial))
  refine(Pq n _ _ mv cD Zo).andThen λds lZ eW e5 _=> ?_
  exact(ny eW).andThen λ_ n3 jQ kA _=>d8.ok jQ Zo trivial
 have XM:∀(bt:ga (List fe)),d8 (g0.length+1) (λ_=>True) bt->d8 l.length (λ_=>True) (andThen bt λeG l=>
  andThen (eH [114,101,116,117,114,110,115] l) λ_ l=>andThen (eH [40] l) λ_ l=>andThen (iW n false [] l) λout l=>andThen (eH [41] l) λ_ l=>
  h7 [118,97,114] l λe l=>andThen (match e with
  |some _=>andThen (iW n true [] l) λds l=>andThen (eH [59] l) λ_ l=>ok ds l
  |none=>ok [] l) λloc l=>
  andThen (eH [108,101,116] l) λ_ l=>andThen (ly n [] l) λcR l=>ok (⟨x.text,x.at_,eG,out,loc,cR⟩:Node) l):=by
  intro bt cv
  refine cv.andThen λeG gF fA hx _=> ?_
  refine(ny fA).andThen λ_ mv cD cp _=> ?_
  refine(ny cD).andThen λ_ lZ eW e5 _=> ?_
  refine(Pq n _ _ lZ eW Zo).andThen λout n3 jQ kA _=> ?_
  refine(ny jQ).andThen λ_ sm t1 ez _=> ?_
  exact amF eG out sm t1 Zo
 refine pV e8 (λe gF fA hx=>XM _ (d8.ok fA Zo trivial)) (XM _ ?_)
 refine(Pq n _ _ g0 e8 Zo).andThen λds lZ eW e5 _=> ?_
 exact(ny eW).andThen λ_ n3 jQ kA _=>d8.ok jQ Zo trivial
def auC:∀(n:Nat) (aq:List Node) (l:List Tok),hi l->13*l.length+14<=n->d8 l.length (λ_=>True) (o3 n aq l):=by
 intro n
 induction n with
 |zero=>intro aq l a aL;omega
 |succ n ak=>
  intro aq l a aL
  rw[o3]
  refine(auz a Zo).andThen λg c5 Q U _=> ?_
  cases c5 with
  |nil=>exact Q.elim
  |cons x e6=>
   simp only[]
   split
   ·exact d8.ok Q Zo trivial
   ·exact(ak _ _ Q Zo).mono Zo λ_ a=>a
end Go.aU

namespace Go.Proofs.YtpfajohmofnkfaaGreatDoor
open Go.bi Go.aU
def hi.snoc{x:Tok}(Q:x.kind=7)(U:x.text=[]):∀l:List Tok,hi (l++[x]):=by
 intro l
 induction l with
 |nil=>exact .inl ⟨Q,U⟩
 |cons e l ak=>exact .inr ak
def axU(s:bk):∀(n:Nat) (aX:List Tok) (i:Nat),i<=s.length->s.length<i+n->∃r,qE s n aX i=some r/\∀mD,r= .ok mD->hi mD:=by
 intro n
 induction n with
 |zero=>intro aX i Q U;omega
 |succ n ak=>
  intro aX i Q U
  rw[qE]
  split
  ·cases ah:xv s i with
   |none=>exact⟨_,rfl,λmD a=>by cases a⟩
   |some x=>
    obtain⟨bV,cw⟩:=TJ ah
    have c4:=O6 s s.length (i+x.text.length)
    exact ak _ _ (Hk s _ _ cw) Zo
  ·exact⟨_,rfl,λmD a=>by cases a;exact hi.snoc rfl rfl _⟩
def ave{s:bk}(aD:s.length<=5000):∃r,BB s 170000=some r:=by
 unfold BB
 obtain⟨r,Q,U⟩:=axU s (s.length+1) [] (nK s s.length 0) (Hk s _ _ Zo) Zo
 rw[Q]
 cases r with
 |error K=>exact⟨_,rfl⟩
 |ok aX=>
  simp only[]
  have fD:=aeZ s _ _ _ _ Zs (Hk s _ _ Zo) Q
  obtain⟨r,ar,_⟩:=auC 170000 [] aX (U aX rfl) Zo
  rw[ar]
  cases r with
  |error K=>exact⟨_,rfl⟩
  |ok p=>
   obtain⟨aq,l⟩:=p
   simp only[]
   cases n8 aq with
   |none=>exact⟨_,rfl⟩
   |some am=>exact⟨_,rfl⟩
noncomputable def BA(s:bk):Except (Int×Int) (List Go.aU.Node):=match BB s 170000 with
 |some r=>r
 |none=> .error (0,0)
def adV{s:bk}(aD:s.length<=5000):BB s 170000=some (BA s):=by
 obtain⟨r,a⟩:=ave aD
 unfold BA
 rw[a]
variable{X:ck}{h:V an}{j:Nat}
def avd(aA:iE X)(eS:GZ X)(gr:vZ X){s:bk}(aD:s.length<=5000)(aj:∀c∈s,c<256)(aL:(o X).a8<=j){a0:F}(aC:dX a0=some (.Z (s.length:Int)))(CH:∀T aV,bq X h j T aV->Au X T a0=some (.str s)):
 aW X 15 [a0] h j (λae T au=>T4 X j (BA s) ae T au/\bq X h j T au) (λ_ _ _=>False):=
 avg aA eS gr (Zi _) Zo aj aL aC CH (adV aD)
end Go.Proofs.YtpfajohmofnkfaaGreatDoor

namespace Go.Proofs.YtpfajohmofnkfaaGreatDoor
open Go.bi Go.aU
noncomputable section
def wr(nm:bk):Nat->List Go.aU.Node->Option Nat
 |_,[]=>none
 |B,g::l=>if g.name=nm then some B else wr nm (B+1) l
def nb(aq:List Go.aU.Node)(nm:bk):Option Nat:=wr nm 0 aq
section
variable{X:ck}{h T a2 aS:V an}{j au aO bg:Nat}{P:Nat->Prop}{aq:List Go.aU.Node}
def asp(aA:dz X){g:Go.aU.Node}{row:List F}(aL:(o X).a8<=j)(b5:m5 X h P g row){c:Nat}{nm:bk}(aB:c<j)(wI:ao X h (.ptr c 0)=some (.str nm)):
 aW X 134 [.agg row, .ptr c 0] h j (λae T au=>ae= .bool (decide (g.name=nm))/\bq X h j T au) (λ_ _ _=>False):=by
 refine zA aA (agF X) ?_
 rw[agG]
 unfold Up
 obtain⟨cY,dj,a6,ev,c0,dL,ef,hQ,aev,rfl,_⟩:=b5
 refine ci @wI ⟨?_⟩
 exact⟨rfl,dU⟩
def asg(aA:dz X){a6:F}{cH:Nat}{aR:List (List F)}(aL:(o X).a8<=j)(cC:dO X h P cH a6 6 aR)(uz:mI X h P aq aR)(bC:∀e,P e->e<j){c:Nat}{nm:bk}(aB:c<j)(wI:ao X h (.ptr c 0)=some (.str nm)):
 aW X 133 [a6, .func (.func 134) [] [.ptr c 0]] h j (λae T au=>ae= .Z (match nb aq nm with|some B=>(B:Int)|none=> -1)/\bq X h j T au) (λ_ _ _=>False):=by
 refine zA aA (agD X) ?_
 rw[agE]
 unfold Uo
 have wP:=uz.wide
 have eD:=cC.len
 have i6:=cC.many
 rw[wP.1]at eD i6
 refine ci @eD ⟨?_⟩
 refine fU (λm M T aV=>∃(aa:Nat),M.g 0=some a6/\M.g 1=some (.func (.func 134) [] [.ptr c 0])/\M.g 7=some (.Z (aq.length:Int))/\M.g 8=some (.Z (aa:Int))/\aa+m=aq.length/\bq X h j T aV/\nb aq nm=wr nm aa (aq.drop aa))
  aq.length ⟨0,bw,bw,bw,gc,Zo,bq.refl _ _,rfl⟩ ?_
 rintro m M aS bg ⟨aa,t0,t1,g4,gx,bG,bK,ch⟩
 have ge:=bK.le
 cases m with
 |zero=>
  have d:=zu aa aq.length
  rw[ZN Zo]at ch
  refine er @gx @g4 @d ⟨?_⟩
  exact⟨by rw[ch];rfl,bK⟩
 |succ m=>
  have d:=zv aa aq.length
  have bD:=zy aa
  obtain⟨g,b5⟩:=zw aq aa
  have aM:aq.drop aa=g::aq.drop (aa+1):=by
   obtain⟨ah,H⟩:=Zb.1 b5
   rw[Zv ah,H]
  obtain⟨row,ft,jK⟩:=uz.get aa g b5
  have aN:=λe (H:P e)=>bK.ad e (bC e H)
  have dZ:=cC.f2 aa (by rw[wP.1];omega)
  have ic:=(cC.ad aN).row Zd ft
  have QW:ao X aS (.ptr c 0)=some (.str nm):=zE (bK.ad c aB) wI
  rw[aM,wr]at ch
  refine e7 @gx @g4 @t1 @t0 @d @dZ @ic ⟨?_⟩
  refine(asp aA Zo (jK.ad (bu:=P) aN (λ_ a=>a)) Zo QW).Zm ?_
  rintro ae bb bs ⟨rfl,cq⟩
  by_cases iv:g.name=nm
  ·rw[Zq iv]at ch
   have cP:decide (g.name=nm)=true:=by simp[iv]
   rw[cP]
   refine cL ⟨?_⟩
   exact⟨by rw[ch],bK.trans cq⟩
  ·rw[Zg iv]at ch
   have cP:decide (g.name=nm)=false:=by simp[iv]
   rw[cP]
   refine cV @gx @bD ⟨?_⟩
   exact⟨m,Zo,aa+1,bf t0,bf t1,bf g4,bw,Zo,bK.trans cq,ch⟩
def PF(b:Nat):dn X h .eql 23 true (.ptr b 0) .cz=some (.bool false):=Zk
def adi{C:aZ}{h:V an}(x:Int):rN C h .max [3,3] [.Z x, .Z 0]=some (.Z (max x 0)):=by
 show ov true (.Z x) [.Z 0]=_
 simp only[ov,fw,tr,ZD]
 congr 2
 simp only[Zh]
 split<;>omega
def PQ(aA:dz X){v:F}(aL:(o X).a8<=j)(b5:nE X h P aq v)(bC:∀e,P e->e<j)(nm:bk):
 aW X 79 [v, .str nm] h j (λae T au=>ae= .tuple [.Z (((nb aq nm).getD 0:Nat):Int), .bool (nb aq nm).isSome]/\bq X h j T au) (λ_ _ _=>False):=by
 refine zA aA (ajt X) ?_
 rw[aju]
 unfold VW
 obtain⟨b,a6,cH,aR,rfl,nd,a0,cC,uz⟩:=b5
 have f1:=bC b nd
 refine cV @PF @a0 ⟨?_⟩
 refine fc (λa2=>ab X a2 j=zx [.str nm] 1/\bq X h j a2 (j+1)) ⟨bm aL,dU⟩ ?_
 rintro a2 ⟨b4,bU⟩
 have aN:=λe (H:P e)=>bU.ad e (bC e H)
 refine(asg (j:=j+1) (h:=a2) aA Zo (cC.ad aN) (uz.ad (bu:=P) aN (λ_ a=>a)) (λe H=>zt (bC e H)) Zo (by rw[bR b4];rfl)).Zm ?_
 rintro ae aS bg ⟨rfl,bK⟩
 cases ch:nb aq nm with
 |none=>
  refine ci @adi ⟨?_⟩
  exact⟨rfl,bU.trans bK⟩
 |some B=>
  have d:decide ((0:Int)<=(B:Int))=true:=by simp only[Zh];omega
  have bp:max (B:Int) 0=(B:Int):=Zo
  refine er @adi @d @bp ⟨?_⟩
  exact⟨rfl,bU.trans bK⟩
end
mutual
def BO{iD:Type}(step:iD->bE->iD×Bool):iD->bE->iD
 |s, .mk B K nm no t n args=>if (step s (.mk B K nm no t n args)).2=true then xy step (step s (.mk B K nm no t n args)).1 args else(step s (.mk B K nm no t n args)).1
def xy{iD:Type}(step:iD->bE->iD×Bool):iD->List bE->iD
 |s,[]=>s
 |s,J::l=>xy step (BO step s J) l
end
def ayr{iD:Type}(step:iD->bE->iD×Bool)(s:iD)(J:bE):BO step s J=if (step s J).2=true then xy step (step s J).1 J.args else(step s J).1:=by
 cases J;rw[BO];rfl
def aeE{J K:bE}(a:K∈J.args):SizeOf.sizeOf K<SizeOf.sizeOf J:=by
 cases J with
 |mk B at_ nm no t n args=>
  have cy:K∈args:=a
  have:=List.sizeOf_lt_of_mem cy
  simp
  omega
section
variable{X:ck}{h T a2 aS:V an}{j au aO bg:Nat}
def ayt(aA:dz X){iD:Type}(step:iD->bE->iD×Bool)(P:Nat->Prop)(d0:iD->V an->Nat->Prop)(gb:V an)(eo:bE->F->Prop)(iI:∀J b a6 cH bo,eo J (.ptr b 0)->ao X gb (.ptr b 8)=some a6->dO X gb P cH a6 1 (bo.map λv=>[v])->dw X gb P J.args bo->∀(i:Nat) K w,J.args[i]? =some K->bo[i]? =some w->eo K w)(B:Nat)(Cp wq:List F)
 (q9:∀(s:iD) (J:bE) (v:F) (h:V an) (j:Nat),d0 s h j->eo J v->cO X h P J v->(∀e,P e->ab X h e=ab X gb e)->aW X B ((Cp++[v])++wq) h j (λae T au=>ae= .bool (step s J).2/\d0 (step s J).1 T au/\∀e,P e->ab X T e=ab X h e) (λ_ _ _=>False)):
 ∀(N:Nat) (J:bE),SizeOf.sizeOf J<N->∀(s:iD) (v:F) (h:V an) (j:Nat),d0 s h j->eo J v->cO X h P J v->(∀e,P e->ab X h e=ab X gb e)->
  aW X 18 [v, .func (.func B) Cp wq] h j (λae T au=>ae= .tuple []/\d0 (BO step s J) T au/\∀e,P e->ab X T e=ab X h e) (λ_ _ _=>False):=by
 intro N
 induction N with
 |zero=>intro J a;omega
 |succ N ak=>
  intro J iH s v h j gu Z bx If
  refine zA aA (ahH X) ?_
  rw[ahI]
  unfold UR
  obtain⟨b,a6,cH,bo,rfl,aj,_,_,_,_,_,_,_,_,iU,cC,has⟩:=id bx.open
  have eD:=cC.len
  have A5:=has.len
  rw[Zn,A5]at eD
  have i6:=cC.many
  rw[Zn,A5]at i6
  rw[ayr]
  refine ci @NB ⟨?_⟩
  refine(q9 s J _ h j gu Z bx If).Zm ?_
  rintro ae a2 aO ⟨rfl,aar,kQ⟩
  cases azL:(step s J).2 with
  |false=>
   refine cL ⟨?_⟩
   exact⟨rfl,aar,kQ⟩
  |true=>
   have Ha:ao X a2 (.ptr b 8)=some a6:=zE (kQ b aj) iU
   refine cV @Ha @eD ⟨?_⟩
   refine fU (λm M T aV=>∃(aa:Nat) (fo:iD),M.g 1=some (.func (.func B) Cp wq)/\M.g 17=some a6/\M.g 18=some (.Z (J.args.length:Int))/\M.g 19=some (.Z (aa:Int))/\aa+m=J.args.length/\d0 fo T aV/\(∀e,P e->ab X T e=ab X h e)/\xy step (step s J).1 J.args=xy step fo (J.args.drop aa))
    J.args.length ⟨0,_,bw,bw,bw,gc,Zo,aar,kQ,rfl⟩ ?_
   rintro m M aS bg ⟨aa,fo,t1,BJ,GN,xt,bG,AL,h4,bJ⟩
   cases m with
   |zero=>
    have d:=zu aa J.args.length
    rw[ZN Zo,xy]at bJ
    refine er @xt @GN @d ⟨?_⟩
    exact⟨rfl,by simp only[ZD];rw[bJ];exact AL,h4⟩
   |succ m=>
    have d:=zv aa J.args.length
    have bD:=zy aa
    obtain⟨K,aE⟩:=zw J.args aa
    have aM:J.args.drop aa=K::J.args.drop (aa+1):=by
     obtain⟨ah,H⟩:=Zb.1 aE
     rw[Zv ah,H]
    obtain⟨w,si,QM⟩:=has.get aa K aE
    obtain⟨b4,b7,cN⟩:=(cC.ad h4).one si
    rw[aM,xy]at bJ
    refine e7 @xt @GN @BJ @t1 @d @b4 @b7 ⟨?_⟩
    have eN:=aeE (Zl aE)
    refine(ak K Zo fo w aS bg AL (iI J b a6 cH bo Z (by rw[cJ, <-If b aj, <-cJ];exact iU) (cC.ad λe H=>(If e H).symm) (dw.ad (λe H=>(If e H).symm) _ _ has) aa K w aE si) (cO.ad h4 _ _ QM) (λe H=>(h4 e H).trans (If e H))).Zm ?_
    rintro ae bb bs ⟨rfl,yi,nR⟩
    refine cV @xt @bD ⟨?_⟩
    exact⟨m,Zo,aa+1,_,bf t1,bf BJ,bf GN,bw,Zo,yi,λe H=>by rw[nR e H,h4 e H],bJ⟩
def ays(aA:dz X){iD:Type}(step:iD->bE->iD×Bool)(P:Nat->Prop)(d0:iD->V an->Nat->Prop)(B:Nat)(Cp wq:List F)
 (q9:∀(s:iD) (J:bE) (v:F) (h:V an) (j:Nat),d0 s h j->cO X h P J v->aW X B ((Cp++[v])++wq) h j (λae T au=>ae= .bool (step s J).2/\d0 (step s J).1 T au/\∀e,P e->ab X T e=ab X h e) (λ_ _ _=>False))
 (N:Nat)(J:bE)(iH:SizeOf.sizeOf J<N)(s:iD)(v:F)(h:V an)(j:Nat)(gu:d0 s h j)(bx:cO X h P J v):
  aW X 18 [v, .func (.func B) Cp wq] h j (λae T au=>ae= .tuple []/\d0 (BO step s J) T au/\∀e,P e->ab X T e=ab X h e) (λ_ _ _=>False):=
 ayt aA step P d0 h (λ_ _=>True) (λ_ _ _ _ _ _ _ _ _ _ _ _ _ _=>trivial) B Cp wq (λs J v h j gu _ bx _=>q9 s J v h j gu bx) N J iH s v h j gu trivial bx (λ_ _=>rfl)
end
def f3(X:ck)(h:V an)(b0:Nat)(p:F)(B:Int)(cW dc:F)(f:Int×Int):Prop:=ab X h b0=zx [p, .Z B,cW,dc, .Z f.1, .Z f.2] 6
def mg(f:Int×Int)(c K:Int):Int×Int:=if f.1=0 then(c,K)else f
section
variable{X:ck}{h T a2 aS:V an}{j au aO bg:Nat}
def wh(aA:dz X){b0:Nat}{p cW dc:F}{B:Int}{f:Int×Int}(aL:(o X).a8<=b0)(aB:f3 X h b0 p B cW dc f)(c K:Int):
 aW X 119 [.ptr b0 0, .Z c, .Z K] h j (λae T au=>ae= .tuple []/\f3 X T b0 p B cW dc (mg f c K)/\j<=au/\∀e,e≠b0->ab X T e=ab X h e) (λ_ _ _=>False):=by
 refine zA aA (agl X) ?_
 rw[agm]
 unfold Uf
 obtain⟨eM,eZ⟩:=f
 have apf:=aB
 unfold f3 at aB
 have g0:ao X h (.ptr b0 4)=some (.Z eM):=by rw[bR aB];rfl
 by_cases b6:eM=0
 ·have d:decide (eM=0)=true:=by simp[b6]
  refine hR ⟨?_⟩
  refine hR ⟨?_⟩
  refine hR ⟨?_⟩
  refine cV @g0 @d ⟨?_⟩
  refine⟨rfl, ?_,Zi _,λe H=>aI Zo H⟩
  unfold f3 mg
  rw[bm Zo]
  simp only[b6,ZD]
  rfl
 ·have d:decide (eM=0)=false:=by simp[b6]
  refine cV @g0 @d ⟨?_⟩
  refine⟨rfl, ?_,Zi _,λ_ _=>rfl⟩
  unfold mg
  simp only[b6,ZA]
  exact apf
def xd(J:bE):Bool:=decide (J.kind=2)||decide (J.kind=6)||decide (J.kind=24)
def aue(aA:dz X){P:Nat->Prop}{J:bE}{v:F}(bx:cO X h P J v):
 aW X 179 [v] h j (λae T au=>ae= .bool (xd J)/\T=h/\j<=au) (λ_ _ _=>False):=by
 refine zA aA (ahp X) ?_
 rw[ahq]
 unfold UQ
 obtain⟨b,rfl,aj,a0⟩:=bx.ptr
 by_cases U:J.kind=2
 ·have d:decide (J.kind=2)=true:=by simp[U]
  refine cV @a0 @d ⟨?_⟩
  exact⟨by simp[xd,U],rfl,Zo⟩
 ·have d:decide (J.kind=2)=false:=by simp[U]
  by_cases cu:J.kind=6
  ·have iV:decide (J.kind=6)=true:=by simp[cu]
   refine er @a0 @d @iV ⟨?_⟩
   exact⟨by simp[xd,cu],rfl,Zo⟩
  ·have iV:decide (J.kind=6)=false:=by simp[cu]
   refine er @a0 @d @iV ⟨?_⟩
   exact⟨by simp[xd,U,cu],rfl,Zo⟩
end
def EQ(J:bk×F×Nat):F×F×Nat:=(.str J.1,J.2.1,J.2.2)
variable{bv:Type}[DecidableEq bv]
def lA:List (bv×F×Nat)->bv->Nat->Option (Nat×F)
 |[],_,_=>none
 |x::dm,w,i=>if x.1=w then some (i,x.2.1)else lA dm w (i+1)
def qx(dm:List (bv×F×Nat))(w:bv):Option F:=(lA dm w 0).map Prod.snd
def PR(w:bv):∀(dm:List (bv×F×Nat)) (i:Nat),lA dm w (i+1)=(lA dm w i).map λp=>(p.1+1,p.2):=by
 intro dm
 induction dm with
 |nil=>intro i;rfl
 |cons x dm ak=>
  intro i
  simp only[lA]
  split
  ·rfl
  ·exact ak (i+1)
def Bl(x:bv×F×Nat)(dm:List (bv×F×Nat))(w:bv):qx (x::dm) w=if x.1=w then some x.2.1 else qx dm w:=by
 unfold qx
 simp only[lA]
 split
 ·rfl
 ·rw[PR];cases lA dm w 0<;>rfl
def XS(w:bv):∀(dm:List (bv×F×Nat)) (aa:Nat) (v:F),lA dm w 0=some (aa,v)->∃b,dm[aa]? =some (w,v,b):=by
 intro dm
 induction dm with
 |nil=>intro aa v a;cases a
 |cons x dm ak=>
  intro aa v a
  simp only[lA]at a
  split at a
  ·rename_i J
   cases a
   exact⟨x.2.2,by simp[<-J]⟩
  ·rw[PR]at a
   cases b1:lA dm w 0 with
   |none=>rw[b1]at a;cases a
   |some p=>
    rw[b1]at a
    simp at a
    obtain⟨rfl,rfl⟩:=a
    obtain⟨b,aj⟩:=ak p.1 p.2 b1
    exact⟨b,by simpa using aj⟩
def ac8(w bW:bv)(v:F)(b:Nat):∀dm:List (bv×F×Nat),qx dm w=none->qx (dm++[(w,v,b)]) bW=if bW=w then some v else qx dm bW:=by
 intro dm
 induction dm with
 |nil=>
  intro _
  rw[YH,Bl]
  by_cases a:bW=w
  ·simp[a]
  ·have:¬w=bW:=λJ=>a J.symm
   simp[a,this]
 |cons x dm ak=>
  intro a
  rw[Bl]at a
  split at a
  ·cases a
  ·rename_i ah
   rw[YO,Bl,Bl,ak a]
   by_cases J:x.1=bW
   ·have:¬bW=w:=λam=>ah (J.trans am)
    simp[J,this]
   ·simp[J]
def ac9(w bW:bv)(v:F):∀(dm:List (bv×F×Nat)) (aa:Nat) (v0:F) (b:Nat),lA dm w 0=some (aa,v0)->qx (dm.set aa (w,v,b)) bW=if bW=w then some v else qx dm bW:=by
 intro dm
 induction dm with
 |nil=>intro aa v0 b a;cases a
 |cons x dm ak=>
  intro aa v0 b a
  simp only[lA]at a
  split at a
  ·rename_i J
   simp at a
   obtain⟨rfl,rfl⟩:=a
   rw[Z7,Bl,Bl]
   by_cases a:bW=w
   ·simp[a]
   ·have Q:¬w=bW:=λam=>a am.symm
    have U:¬x.1=bW:=λam=>a (am.symm.trans J)
    simp[a,Q,U]
  ·rename_i J
   rw[PR]at a
   cases b1:lA dm w 0 with
   |none=>rw[b1]at a;cases a
   |some p=>
    rw[b1]at a
    simp at a
    obtain⟨rfl,rfl⟩:=a
    rw[Z8,Bl,Bl,ak p.1 p.2 b b1]
    by_cases U:x.1=bW
    ·have:¬bW=w:=λam=>J (U.trans am)
     simp[U,this]
    ·simp[U]
section
variable{X:ck}{h T a2 aS:V an}{j au aO bg:Nat}
def ot(X:ck)(h:V an)(r:Nat)(df:bk->Option F):Prop:=∃dm eX,ab X h r=some (.map (dm.map EQ) eX)/\∀w,qx dm w=df w
def ot.ad{r:Nat}{df:bk->Option F}(a:ot X h r df)(B:ab X T r=ab X h r):ot X T r df:=by
 obtain⟨dm,eX,Q,U⟩:=a
 exact⟨dm,eX,by rw[B];exact Q,U⟩
def Nt(w:bk):mL X 20 9 (.str w)=true:=Zk
def Xz(w bW:bk):kl X h 20 9 (.str w) (.str bW)=some (mx w bW):=Zk
def PN(w:bk):∀(dm:List (bk×F×Nat)) (i:Nat),findKey X h 9 (.str w) (dm.map EQ) i=some (lA dm w i):=by
 intro dm
 induction dm with
 |nil=>intro i;rfl
 |cons x dm ak=>
  intro i
  simp only[ZK,EQ,findKey,Xz,Du,lA]
  by_cases a:w=x.1
  ·have:x.1=w:=a.symm
   simp[this]
  ·have:¬x.1=w:=λJ=>a J.symm
   simp only[a,this,Yd,ZA]
   exact ak (i+1)
def asS(w:bk):ns 20 (.str w) (.str w)=true:=by
 show mx w w=true
 rw[Du];simp
def Do{r:Nat}{df:bk->Option F}(a:ot X h r df)(bt:F)(w:bk)(ok:Bool):
 kr X h 9 bt (.map r) (.str w) ok=some (match df w with|some v=>bP ok (.tuple [v, .bool true]) v|none=>bP ok (.tuple [bt, .bool false]) bt):=by
 obtain⟨dm,eX,Q,U⟩:=a
 have ar:=U w
 unfold qx at ar
 simp only[kr,Q,Nt,eP,PN]
 cases b1:lA dm w 0 with
 |none=>rw[b1]at ar;rw[<-ar];rfl
 |some p=>rw[b1]at ar;rw[<-ar];rfl
def Nd{r:Nat}{df:bk->Option F}(Z:(o X).a8<=r)(a:ot X h r df)(w:bk)(v:F):
 ∃T,sp X h j 9 (.map r) (.str w) v=some (.fh bi.undef T j)/\ot X T r (λx=>if x=w then some v else df x)/\∀e,e≠r->ab X T e=ab X h e:=by
 obtain⟨dm,eX,Q,U⟩:=a
 have aM:jV X r=true:=kJ Z
 cases ch:lA dm w 0 with
 |none=>
  refine⟨Go.bi.bn X h r (some (.map ((dm++[(w,v,eX)]).map EQ) (eX+1))), ?_,⟨dm++[(w,v,eX)],eX+1,bm Z,λx=> ?_⟩,λe H=>aI Z H⟩
  ·simp only[sp,Q,Nt,eP,PN,ch,bi.setObj,aM,eP,g8]
   rw[Yy]
   rfl
  ·rw[ac8 _ _ _ _ _ (by unfold qx;rw[ch];rfl),U]
 |some p=>
  obtain⟨aa,v0⟩:=p
  obtain⟨born,aj⟩:=XS w dm aa v0 ch
  have dD:(dm.map EQ)[aa]? =some (.str w,v0,born):=by rw[Zx,aj];rfl
  refine⟨Go.bi.bn X h r (some (.map ((dm.set aa (w,v,born)).map EQ) eX)), ?_,⟨dm.set aa (w,v,born),eX,bm Z,λx=> ?_⟩,λe H=>aI Z H⟩
  ·simp only[sp,Q,Nt,eP,PN,ch,pL,dD,asS,bi.setObj,aM,eP,g8]
   rw[List.map_set]
   rfl
  ·rw[ac9 w x v dm aa v0 born ch,U]
end
end
end Go.Proofs.YtpfajohmofnkfaaGreatDoor

namespace Go.Proofs.YtpfajohmofnkfaaGreatDoor
open Go.bi Go.aU
noncomputable section
structure eJ where
 kind:Int
 d:fe
 eq:Int
 left:Int
def tK:eJ:=⟨0,⟨[],0,dN,[],0,false⟩,0,0⟩
def pd(v:eJ):List F:=[.Z v.kind, .str v.d.name, .Z v.d.at_, .bool v.d.ty.b, .bool v.d.ty.s, .Z v.d.ty.w, .str v.d.on, .Z v.d.fu, .bool v.d.no, .Z v.eq, .Z v.left]
def rJ(X:ck)(h:V an)(P:Nat->Prop)(cW:F)(t:bk->Option eJ):Prop:=∃b r,cW= .ptr b 0/\P b/\P r/\ao X h (.ptr b 0)=some (.map r)/\ot X h r (λw=>(t w).map λv=> .agg (pd v))
section
variable{X:ck}{h T a2 aS:V an}{j au aO bg:Nat}
def rJ.ad{P bu:Nat->Prop}{cW:F}{t:bk->Option eJ}(a:rJ X h P cW t)(B:∀e,P e->ab X T e=ab X h e)(aC:∀e,P e->bu e):rJ X T bu cW t:=by
 obtain⟨b,r,Q,U,ar,aK,bH⟩:=a
 exact⟨b,r,Q,aC b U,aC r ar,zE (B b U) aK,bH.ad (B r ar)⟩
def amq(b:Nat):dn X h .eql 68 true (.ptr b 0) .cz=some (.bool false):=Zk
def Lo(aA:dz X){P:Nat->Prop}{cW:F}{t:bk->Option eJ}(aL:(o X).a8<=j)(bc:rJ X h P cW t)(bC:∀e,P e->e<j)(w:bk):
 aW X 34 [cW, .str w] h j (λae T au=>ae= .tuple [.agg (pd ((t w).getD tK)), .bool (t w).isSome]/\bq X h j T au) (λ_ _ _=>False):=by
 refine zA aA (ai3 X) ?_
 rw[ai4]
 unfold VF
 obtain⟨b,r,rfl,aj,Z,a0,bp⟩:=bc
 have f1:=bC b aj
 have AZ:=bC r Z
 refine p3 ?_
 generalize et:bn X h j _=a2
 have b4:ab X a2 j=zx [.Z 0, .str [], .Z 0, .bool false, .bool false, .Z 0, .str [], .Z 0, .bool false, .Z 0, .Z 0] 11:=by rw[<-et,bm aL];rfl
 have bU:bq X h j a2 (j+1):=by rw[<-et];exact dU
 clear et
 have bh:ao X a2 (.ptr b 0)=some (.map r):=zE (bU.ad b f1) a0
 have IF:=bp.ad (bU.ad r AZ)
 have jz:=Do IF (.agg [.Z 0, .str [], .Z 0, .bool false, .bool false, .Z 0, .str [], .Z 0, .bool false, .Z 0, .Z 0]) w true
 have Fo:kr X a2 9 (.agg [.Z 0, .str [], .Z 0, .bool false, .bool false, .Z 0, .str [], .Z 0, .bool false, .Z 0, .Z 0]) (.map r) (.str w) true=some (.tuple [.agg (pd ((t w).getD tK)), .bool (t w).isSome]):=by
  rw[jz];cases t w<;>rfl
 clear jz
 generalize (t w).getD tK=v at*
 have sg:pd v=[.Z v.kind, .str v.d.name, .Z v.d.at_, .bool v.d.ty.b, .bool v.d.ty.s, .Z v.d.ty.w, .str v.d.on, .Z v.d.fu, .bool v.d.no, .Z v.eq, .Z v.left]:=rfl
 rw[sg]at Fo ⊢
 refine er @amq @bh @Fo ⟨?_⟩
 refine fF (h6 (B:=11) (b:=j) (Y:=0) (n:=11) (c:=V.ofList [.Z 0, .str [], .Z 0, .bool false, .bool false, .Z 0, .str [], .Z 0, .bool false, .Z 0, .Z 0] 0 .nil) (by simp(disch:=omega) only[aI];exact b4) aL rfl Zd Zd rfl) ?_
 generalize fC:bn X _ j _=bb
 have cN:ab X bb j=zx [.Z v.kind, .str v.d.name, .Z v.d.at_, .bool v.d.ty.b, .bool v.d.ty.s, .Z v.d.ty.w, .str v.d.on, .Z v.d.fu, .bool v.d.no, .Z v.eq, .Z v.left] 11:=by rw[<-fC,bm aL];rfl
 have cq:bq X h j bb (j+1+1):=⟨Zo,λe H=>by rw[<-fC];simp(disch:=omega) only[aI];exact bU.ad e H⟩
 clear fC
 refine ci (bR cN) ⟨?_⟩
 exact⟨rfl,cq⟩
end
def Jn(t:bk->Option eJ)(af:bk->Option Int)(f:Int×Int)(w:bk)(K:Int):Int×Int:=match t w with
 |none=>mg f 23 K
 |some v=>if v.kind=1\/1<(af w).getD 0+1 then mg f 24 K else f
def nL(af:bk->Option Int)(w:bk):Option F:=(af w).map λB=> .Z B
section
variable{X:ck}{h T a2 aS:V an}{j au aO bg:Nat}
def atn(aA:dz X){P:Nat->Prop}{b0 dc:Nat}{p cW:F}{B:Int}{t:bk->Option eJ}{af:bk->Option Int}{f:Int×Int}(aL:(o X).a8<=j)(ko:(o X).a8<=b0)(wJ:(o X).a8<=dc)(yp:b0<j)(wK:dc<j)(AS:b0≠dc)
 (aB:f3 X h b0 p B cW (.map dc) f)(bc:rJ X h P cW t)(bC:∀e,P e->e<j/\e≠b0/\e≠dc)(gB:ot X h dc (nL af))(w:bk)(K:Int)(aj:0<=(af w).getD 0/\(af w).getD 0<4000000000000000000):
 aW X 121 [.ptr b0 0, .str w, .Z K] h j (λae T au=>ae= .tuple []/\f3 X T b0 p B cW (.map dc) (Jn t af f w K)/\ot X T dc (nL λx=>if x=w then some ((af w).getD 0+1)else af x)/\j<=au/\∀e,e<j->e≠b0->e≠dc->ab X T e=ab X h e) (λ_ _ _=>False):=by
 refine zA aA (agp X) ?_
 rw[agq]
 unfold Uh
 have c5:ao X h (.ptr b0 2)=some cW:=by unfold f3 at aB;rw[bR aB];rfl
 refine ci @c5 ⟨?_⟩
 refine(Lo aA aL bc (λe H=>(bC e H).1) w).Zm ?_
 rintro ae a2 aO ⟨rfl,bU⟩
 have jy:=bU.le
 have uu:f3 X a2 b0 p B cW (.map dc) f:=by unfold f3;rw[bU.ad b0 yp];exact aB
 have aoc:=gB.ad (bU.ad dc wK)
 generalize bB:(t w).getD tK=v
 have sg:pd v=[.Z v.kind, .str v.d.name, .Z v.d.at_, .bool v.d.ty.b, .bool v.d.ty.s, .Z v.d.ty.w, .str v.d.on, .Z v.d.fu, .bool v.d.no, .Z v.eq, .Z v.left]:=rfl
 rw[sg]
 refine hR ⟨?_⟩
 refine hR ⟨?_⟩
 refine p3 ?_
 refine hR ⟨?_⟩
 generalize dI:bn X _ aO _=aS
 have b7:ab X aS aO=zx [.Z v.kind, .str v.d.name, .Z v.d.at_, .bool v.d.ty.b, .bool v.d.ty.s, .Z v.d.ty.w, .str v.d.on, .Z v.d.fu, .bool v.d.no, .Z v.eq, .Z v.left] 11:=by rw[<-dI,bm Zo];rfl
 have bK:bq X h j aS (aO+1):=⟨Zo,λe H=>by rw[<-dI];simp(disch:=omega) only[aI];exact bU.ad e H⟩
 have h4:∀e,e<aO->ab X aS e=ab X a2 e:=λe H=>by rw[<-dI];exact zz
 clear dI
 have Fe:f3 X aS b0 p B cW (.map dc) f:=by unfold f3;rw[h4 b0 Zo];exact uu
 have ψ:=aoc.ad (h4 dc Zo)
 have e6:ao X aS (.ptr b0 3)=some (.map dc):=by unfold f3 at Fe;rw[bR Fe];rfl
 have jz:kr X aS 9 (.Z 0) (.map dc) (.str w) false=some (.Z ((af w).getD 0)):=by
  rw[Do ψ];unfold nL;cases af w<;>rfl
 have bD:aF .add (.Z ((af w).getD 0)) (.Z 1)=some (.Z ((af w).getD 0+1)):=eT Zo Zo
 refine er @e6 @jz @bD ⟨?_⟩
 obtain⟨bb,q6,ω,nR⟩:=Nd (j:=aO+1) wJ ψ w (.Z ((af w).getD 0+1))
 refine ki q6 ?_
 have wH:f3 X bb b0 p B cW (.map dc) f:=by unfold f3;rw[nR b0 AS];exact Fe
 rw[<-nR aO Zo]at b7
 have HX:ot X bb dc (nL λx=>if x=w then some ((af w).getD 0+1)else af x):=by
  have:(λx=>if x=w then some (F.Z ((af w).getD 0+1))else nL af x)=(nL λx=>if x=w then some ((af w).getD 0+1)else af x):=by
   funext x;unfold nL;by_cases a:x=w<;>simp[a]
  rw[<-this];exact ω
 have Mo:∀e,e<j->e≠dc->ab X bb e=ab X h e:=λe Q U=>by rw[nR e U];exact bK.ad e Q
 clear jz q6 ω e6
 unfold Jn
 cases Da:t w with
 |none=>
  simp only[Z3,Yh]
  refine cL ⟨?_⟩
  refine(wh (j:=aO+1) (h:=bb) aA ko wH 23 K).Zm ?_
  rintro ae bF c7 ⟨rfl,uv,jl,gd⟩
  refine cL ⟨?_⟩
  exact⟨by first|trivial|rfl,uv,HX.ad (gd dc Zo),Zo,λe Q U ar=>by rw[gd e U];exact Mo e Q ar⟩
 |some f9=>
  have Dc:f9=v:=by rw[Da]at bB;exact bB
  subst Dc
  simp only[Yc,Yi]
  have fP:ao X bb (.ptr aO 0)=some (.Z f9.kind):=by rw[bR b7];rfl
  have e6:ao X bb (.ptr b0 3)=some (.map dc):=by unfold f3 at wH;rw[bR wH];rfl
  have jz:kr X bb 9 (.Z 0) (.map dc) (.str w) false=some (.Z ((af w).getD 0+1)):=by
   rw[Do HX];unfold nL;simp
  by_cases Q:f9.kind=1
  ·have d:decide (f9.kind=1)=true:=by simp[Q]
   refine cV @fP @d ⟨?_⟩
   refine(wh (j:=aO+1) (h:=bb) aA ko wH 24 K).Zm ?_
   rintro ae bF c7 ⟨rfl,uv,jl,gd⟩
   refine cL ⟨?_⟩
   exact⟨by first|trivial|rfl,by simp only[Q,true_or,ZD];exact uv,HX.ad (gd dc Zo),Zo,λe Q U ar=>by rw[gd e U];exact Mo e Q ar⟩
  ·have d:decide (f9.kind=1)=false:=by simp[Q]
   by_cases U:1<(af w).getD 0+1
   ·have cP:decide (1<(af w).getD 0+1)=true:=by simp only[Zh];exact U
    refine gA @fP @d @e6 @jz @cP ⟨?_⟩
    refine(wh (j:=aO+1) (h:=bb) aA ko wH 24 K).Zm ?_
    rintro ae bF c7 ⟨rfl,uv,jl,gd⟩
    refine cL ⟨?_⟩
    exact⟨by first|trivial|rfl,by simp only[Q,U,or_true,ZD];exact uv,HX.ad (gd dc Zo),Zo,λe Q U ar=>by rw[gd e U];exact Mo e Q ar⟩
   ·have cP:decide (1<(af w).getD 0+1)=false:=by simp only[Zc];exact U
    refine gA @fP @d @e6 @jz @cP ⟨?_⟩
    exact⟨by first|trivial|rfl,by simp only[Q,U,Yr,ZA];exact wH,HX,Zo,λe Q U ar=>Mo e Q ar⟩
end
def xn(t:bk->Option eJ)(f:Int×Int)(J:bE):Int×Int:=if xd J then(if (t J.name).isSome then f else mg f 23 J.at_)else f
def GF(aq:List Go.aU.Node)(B:Nat)(f:Int×Int)(J:bE):Int×Int:=if J.kind=25 then(match nb aq J.name with
 |none=>mg f 23 J.at_
 |some aa=>if B<=aa then mg f 25 J.at_ else f)else f
def sA(t:bk->Option eJ)(aq:List Go.aU.Node)(B:Nat)(f:Int×Int)(J:bE):(Int×Int)×Bool:=(GF aq B (xn t f J) J,true)
structure Eh(X:ck)(gb:V an)(a8 b0:Nat)(p:F)(B:Nat)(cW dc:F)(f:Int×Int)(h:V an)(j:Nat):Prop where
 le:a8<=j
 jE:f3 X h b0 p B cW dc f
 low:∀e,e<a8->e≠b0->ab X h e=ab X gb e
section
variable{X:ck}{h T gb a2 aS:V an}{j au aO bg:Nat}
def awi(aA:dz X){P:Nat->Prop}{fE b0 ho:Nat}{p cW dc:F}{B:Nat}{t:bk->Option eJ}{aq:List Go.aU.Node}(aAo:(o X).a8<=fE)(ko:(o X).a8<=b0)(yp:b0<fE)(MB:ho<fE)(My:ho≠b0)(b1:ao X gb (.ptr ho 0)=some (.ptr b0 0))
 (bC:∀e,P e->e<fE/\e≠b0)(bc:rJ X gb P cW t)(b5:nE X gb P aq p){f:Int×Int}(oF:Eh X gb fE b0 p B cW dc f h j){J:bE}{v:F}(bx:cO X h P J v):
 aW X 178 [v, .ptr ho 0] h j (λae T au=>ae= .bool true/\Eh X gb fE b0 p B cW dc (sA t aq B f J).1 T au) (λ_ _ _=>False):=by
 refine zA aA (ahn X) ?_
 rw[aho]
 unfold UP
 refine(aue aA bx).Zm ?_
 rintro ae a2 aO ⟨rfl,rfl,jy⟩
 have aAq:=oF.le
 have hM:∀h,ab X h ho=ab X gb ho->ao X h (.ptr ho 0)=some (.ptr b0 0):=λh a=>zE a b1
 refine j3 (λcZ T aV=>cZ.g 0=some v/\cZ.g 1=some (.ptr ho 0)/\Eh X gb fE b0 p B cW dc (xn t f J) T aV/\cO X T P J v) (λaa bG=> ?_) ?_
 ·obtain⟨b,_,_,_,rfl,aj,a0,bh,cl,_⟩:=id bx.open
  unfold xn at bG
  cases iv:xd J with
  |false=>
   rw[iv]at bG
   simp only[Zw,ZA]at bG
   refine cL ⟨?_⟩
   exact bG _ _ _ ⟨bw,bw,⟨Zo,oF.jE,oF.low⟩,bx⟩
  |true=>
   rw[iv]at bG
   simp only[ZD]at bG
   have RF:=hM a2 (oF.low ho MB My)
   have c5:ao X a2 (.ptr b0 2)=some cW:=by have:=oF.jE;unfold f3 at this;rw[bR this];rfl
   refine er @RF @c5 @cl ⟨?_⟩
   refine fc (λaS=>ab X aS (aO+12)=zx [.Z 0, .str [], .Z 0, .bool false, .bool false, .Z 0, .str [], .Z 0, .bool false, .Z 0, .Z 0] 11/\bq X a2 aO aS (aO+12+1)) ⟨by rw[bm Zo];rfl,Zo,λe H=>zz⟩ ?_
   rintro aS ⟨b7,bK⟩
   have cw:∀e,e<fE->ab X aS e=ab X a2 e:=λe H=>bK.ad e Zo
   refine(Lo (j:=aO+15) (h:=aS) aA Zo (bc.ad (bu:=P) (λe H=>by rw[cw e (bC e H).1];exact oF.low e (bC e H).1 (bC e H).2) (λ_ a=>a)) (λe H=>zt (bC e H).1) J.name).Zm ?_
   rintro ae bb bs ⟨rfl,cq⟩
   have iL:=cq.le
   have cN:ab X bb (aO+12)=zx [.Z 0, .str [], .Z 0, .bool false, .bool false, .Z 0, .str [], .Z 0, .bool false, .Z 0, .Z 0] 11:=by rw[cq.ad _ Zo];exact b7
   generalize Dc:(t J.name).getD tK=fd
   have sg:pd fd=[.Z fd.kind, .str fd.d.name, .Z fd.d.at_, .bool fd.d.ty.b, .bool fd.d.ty.s, .Z fd.d.ty.w, .str fd.d.on, .Z fd.d.fu, .bool fd.d.no, .Z fd.eq, .Z fd.left]:=rfl
   rw[sg]
   refine hR ⟨?_⟩
   refine hR ⟨?_⟩
   refine fF (h6 (B:=11) (b:=aO+12) (Y:=0) (n:=11) cN Zo rfl Zd Zd rfl) ?_
   generalize fl:bn X bb (aO+12) _=bF
   have ec:∀e,e<aO->ab X bF e=ab X a2 e:=λe H=>by rw[<-fl,aI Zo Zo,cq.ad e Zo,bK.ad e H]
   clear fl b7 cN
   have LH:Eh X gb fE b0 p B cW dc f bF bs:=⟨Zo,by have:=oF.jE;unfold f3 at*;rw[ec b0 Zo];exact this,λe Q U=>by rw[ec e Zo];exact oF.low e Q U⟩
   have th:cO X bF P J (.ptr b 0):=cO.ad (λe H=>ec e (zt (bC e H).1)) _ _ bx
   have aqY:=hM bF (LH.low ho MB My)
   have ajO:ao X bF (.ptr b 1)=some (.Z J.at_):=zE (ec b (zt (bC b aj).1)) bh
   cases r6:(t J.name).isSome with
   |true=>
    rw[r6]at bG
    simp only[ZD]at bG
    refine cL ⟨?_⟩
    exact bG _ _ _ ⟨bw,bw,LH,th⟩
   |false=>
    rw[r6]at bG
    simp only[Zw,ZA]at bG
    refine cV @aqY @ajO ⟨?_⟩
    refine(wh (h:=bF) aA ko LH.jE 23 J.at_).Zm ?_
    rintro ae bX b2 ⟨rfl,CF,h5,mm⟩
    refine cL ⟨?_⟩
    exact bG _ _ _ ⟨bw,bw,⟨Zo,CF,λe Q U=>by rw[mm e U];exact LH.low e Q U⟩,cO.ad (λe H=>mm e (bC e H).2) _ _ th⟩
 ·rintro M aS bg ⟨t0,t1,CB,It⟩
  obtain⟨b,_,_,_,rfl,aj,a0,bh,cl,_⟩:=id It.open
  have ge:=CB.le
  show al _ _
  by_cases rX:J.kind=25
  ·have d:decide (J.kind=25)=true:=by simp[rX]
   have RF:=hM aS (CB.low ho MB My)
   have fP:ao X aS (.ptr b0 0)=some p:=by have:=CB.jE;unfold f3 at this;rw[bR this];rfl
   refine e7 @t0 @t1 @a0 @d @RF @fP @cl ⟨?_⟩
   refine(PQ (j:=bg+14) (h:=aS) aA Zo (b5.ad (bu:=P) (λe H=>CB.low e (bC e H).1 (bC e H).2) (λ_ a=>a)) (λe H=>zt (bC e H).1) J.name).Zm ?_
   rintro ae bb bs ⟨rfl,cq⟩
   have iL:=cq.le
   have CC:Eh X gb fE b0 p B cW dc (xn t f J) bb bs:=⟨Zo,by have:=CB.jE;unfold f3 at*;rw[cq.ad b0 Zo];exact this,λe Q U=>by rw[cq.ad e Zo];exact CB.low e Q U⟩
   have RG:=hM bb (CC.low ho MB My)
   have Kx:ao X bb (.ptr b 1)=some (.Z J.at_):=zE (cq.ad b (zt (bC b aj).1)) bh
   have eg:ao X bb (.ptr b0 1)=some (.Z (B:Int)):=by have:=CC.jE;unfold f3 at this;rw[bR this];rfl
   cases ch:nb aq J.name with
   |none=>
    have Z:(sA t aq B f J).1=mg (xn t f J) 23 J.at_:=by simp[sA,GF,rX,ch]
    rw[Z]
    simp only[Z3]
    refine gt @t0 @t1 @RG @Kx ⟨?_⟩
    refine(wh (h:=bb) aA ko CC.jE 23 J.at_).Zm ?_
    rintro ae bX b2 ⟨rfl,CF,h5,mm⟩
    refine cL ⟨?_⟩
    exact⟨by first|trivial|rfl,Zo,CF,λe Q U=>by rw[mm e U];exact CC.low e Q U⟩
   |some aa=>
    simp only[Yc,YP]
    by_cases Mj:B<=aa
    ·have cP:decide ((B:Int)<=(aa:Int))=true:=by simp only[Zh];omega
     have Z:(sA t aq B f J).1=mg (xn t f J) 25 J.at_:=by simp[sA,GF,rX,ch,Mj]
     rw[Z]
     refine iZ @t0 @t1 @RG @Kx @eg @cP ⟨?_⟩
     refine(wh (h:=bb) aA ko CC.jE 25 J.at_).Zm ?_
     rintro ae bX b2 ⟨rfl,CF,h5,mm⟩
     refine cL ⟨?_⟩
     exact⟨by first|trivial|rfl,Zo,CF,λe Q U=>by rw[mm e U];exact CC.low e Q U⟩
    ·have cP:decide ((B:Int)<=(aa:Int))=false:=by simp only[Zc];omega
     have Z:(sA t aq B f J).1=xn t f J:=by simp[sA,GF,rX,ch,Mj]
     rw[Z]
     refine gA @t0 @t1 @RG @eg @cP ⟨?_⟩
     exact⟨by first|trivial|rfl,CC⟩
  ·have d:decide (J.kind=25)=false:=by simp[rX]
   have Z:(sA t aq B f J).1=xn t f J:=by simp[sA,GF,rX]
   rw[Z]
   refine er @t0 @a0 @d ⟨?_⟩
   exact⟨by first|trivial|rfl,CB⟩
end
def NL(t:bk->Option eJ)(aq:List Go.aU.Node)(B:Nat)(f:Int×Int)(J:bE):Int×Int:=BO (sA t aq B) f J
section
variable{X:ck}{h:V an}{j:Nat}
def awk(aA:dz X){P:Nat->Prop}{b0:Nat}{p cW dc:F}{B:Nat}{t:bk->Option eJ}{aq:List Go.aU.Node}(aL:(o X).a8<=j)(ko:(o X).a8<=b0)(yp:b0<j)
 (bC:∀e,P e->e<j/\e≠b0)(bc:rJ X h P cW t)(b5:nE X h P aq p){f:Int×Int}(aB:f3 X h b0 p B cW dc f){J:bE}{v:F}(bx:cO X h P J v):
 aW X 122 [.ptr b0 0,v] h j (λae T au=>ae= .tuple []/\f3 X T b0 p B cW dc (NL t aq B f J)/\j<=au/\∀e,e<j->e≠b0->ab X T e=ab X h e) (λ_ _ _=>False):=by
 refine zA aA (agr X) ?_
 rw[ags]
 unfold Ui
 refine cL ⟨?_⟩
 refine fc (λa2=>ab X a2 j=zx [.ptr b0 0] 1/\bq X h j a2 (j+1)) ⟨bm aL,dU⟩ ?_
 rintro a2 ⟨b4,bU⟩
 have R7:∀e,P e->ab X a2 e=ab X h e:=λe H=>bU.ad e (bC e H).1
 have b1:ao X a2 (.ptr j 0)=some (.ptr b0 0):=by rw[bR b4];rfl
 refine(ays aA (sA t aq B) P (Eh X a2 (j+1) b0 p B cW dc) 178 [] [.ptr j 0] (λs J v aS bg gu It=> ?_) (SizeOf.sizeOf J+1) J Zo f v a2 (j+1) ⟨Zi _,by unfold f3 at*;rw[bU.ad b0 yp];exact aB,λ_ _ _=>rfl⟩ (cO.ad R7 _ _ bx)).Zm ?_
 ·refine(awi aA Zo ko Zo Zo Zo b1 (λe H=>⟨zt (bC e H).1,(bC e H).2⟩) (bc.ad (bu:=P) R7 (λ_ a=>a)) (b5.ad (bu:=P) R7 (λ_ a=>a)) gu It).Zm ?_
  rintro ae bb bs ⟨rfl,oF⟩
  exact⟨rfl,oF,λe H=>by have:=bC e H;rw[oF.low e Zo this.2,gu.low e Zo this.2]⟩
 ·rintro ae aS bg ⟨rfl,oF,_⟩
  refine cL ⟨?_⟩
  have:=oF.le
  exact⟨by first|trivial|rfl,oF.jE,Zo,λe Q U=>by rw[oF.low e Zo U,bU.ad e Q]⟩
end
end
end Go.Proofs.YtpfajohmofnkfaaGreatDoor

