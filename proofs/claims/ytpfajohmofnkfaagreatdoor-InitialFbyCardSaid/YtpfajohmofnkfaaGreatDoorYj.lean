/- A part of the last text's proof; no condition of its own -/
import Derived.Test.YtpfajohmofnkfaaGreatDoorYi
set_option maxHeartbeats 8000000
set_option linter.all false
namespace Go.Proofs.YtpfajohmofnkfaaGreatDoor
open Go.bd Go.aR
noncomputable section
def eT(d:fo):List D:=[.str d.name, .Z d.at_, .bool d.ty.b, .bool d.ty.s, .Z d.ty.w, .str d.on, .Z d.fL, .bool d.no]
def ahZ(k:List Tok):∀r∈k.map cd,r.length=7:=by
 intro r V;obtain⟨t,_,rfl⟩:=ZE.1 V;rfl
def ab3(k:List fo):∀r∈k.map eT,r.length=8:=by
 intro r V;obtain⟨t,_,rfl⟩:=ZE.1 V;rfl
def aBW{s:bi}{k:List Tok}{x:Tok}{bV:List Tok}(a:eC s k=some (.ok (x,bV))):bV.length+1=k.length:=by
 cases k with
 |nil=>cases a
 |cons e k=>
  simp only[eC]at a
  split at a
  ·simp only[ok,Zf,Except.ok.injEq,YP]at a
   rw[<-a.2];rfl
  ·cases a
structure MT(X:cb)(aK bP:Nat)(aT:List Tok)(j:Nat)(c6:K ag)(loc:Bool)(H:cV)(h:K ag)(n:Nat)(s:D)(ds:List fo)(cJ:List Nat)(i:Nat):Prop where
 t0:H.g 0=some (.ptr aK 0)
 t1:H.g 1=some (.bool loc)
 t5:H.g 5=some s
 aW:gB X h s 8 (ds.map eT).flatten cJ
 cJ:∀e∈cJ,j<=e/\e<n
 par:aR X h aK bP aT i
 fr:ca X [aK] c6 j h n
section
variable{X:cb}{h T aP aM:K ag}{j an aG a1 aK bP:Nat}{aT:List Tok}{i:Nat}
def aoU(ds:List fo):(ds.map eT).flatten.length=ds.length*8:=by rw[x1 (ab3 ds),Zn]
def aBt(ds:List Tok):(ds.map cd).flatten.length=ds.length*7:=by rw[x1 (ahZ ds),Zn]
def GO(aw:du X){n:Nat}(jn:aT.length<=100000)(ay:iJ X h j aK bP aT i){loc:Bool}{r:Except Int (List fo×List Tok)}(V:jh n loc [] (aT.drop i)=some r):
 aY X 175 [.ptr aK 0, .bool loc] h j (λac T an=>∃ds cD b,r= .ok (ds,aT.drop cD)/\dD X T (cQ j an) b ac 8 (ds.map eT)/\aR X T aK bP aT cD/\ca X [aK] h j T an) (iY X aK h j r):=by
 refine zx aw (akk X) ?_
 rw[akl]
 unfold XQ
 have gP:=ay.a2
 have iQ:=ay.ht
 have h9:=ay.bM
 have jT:=ay.g8
 refine gZ ?_
 refine fK (λm H T aU=>∃s ds cJ cD,MT X aK bP aT j h loc H T aU s ds cJ cD/\ds.length+(aT.drop cD).length<=aT.length/\jh m loc ds (aT.drop cD)=some r)
  n ⟨.aV,[],[],i,⟨bw,bw,bw, .inl (.inl ⟨rfl,rfl,rfl⟩),Zs,ay.par,ca.refl _ _ _⟩,Zs,V⟩ ?_
 clear V
 rintro m H aP aG ⟨s,ds,cJ,fC,mO,KZ,V⟩
 cases m with
 |zero=>simp[jh]at V
 |succ m=>
 unfold jh at V
 refine gZ ?_
 have jm:=mO.fr.le
 refine kt (λH T aU=>∃(cl:List Tok) (wZ:D) (uk:List Nat) (cD:Nat),MT X aK bP aT j h loc H T aU s ds cJ cD/\aG<=aU/\(∀e∈cJ,e<aG)/\H.g 6=some wZ/\gB X T wZ 7 (cl.map cd).flatten uk/\(∀e∈uk,aG<=e/\e<aU)/\ds.length+cl.length+(aT.drop cD).length<=aT.length/\
  D9 loc (jh m loc) ds cl (aT.drop cD)=some r) (λW bK=> ?_) ?_
 ·refine fK (λq H T aU=>∃(cl:List Tok) (wZ:D) (uk:List Nat) (cD:Nat) (b:Bool),MT X aK bP aT j h loc H T aU s ds cJ cD/\aG<=aU/\(∀e∈cJ,e<aG)/\H.g 6=some wZ/\H.g 7=some (.bool b)/\gB X T wZ 7 (cl.map cd).flatten uk/\(∀e∈uk,aG<=e/\e<aU)/\ds.length+cl.length+(aT.drop cD).length<=aT.length/\
   (b=true->andThen (su q cl (aT.drop cD)) (λcl k=>D9 loc (jh m loc) ds cl k)=some r)/\(b=false->D9 loc (jh m loc) ds cl (aT.drop cD)=some r))
   m ⟨[], .aV,[],fC,true,⟨a7 mO.t0,a7 mO.t1,a7 mO.t5,mO.aW,mO.cJ,mO.par,mO.fr⟩,Zo,λe z=>(mO.cJ e z).2,bw,bw, .inl (.inl ⟨rfl,rfl,rfl⟩),Zs,by simpa using KZ,λ_=>V,λa=>(by cases a)⟩ ?_
  clear V mO KZ
  rintro q H aM a1 ⟨cl,wZ,uk,fe,b,li,f7,fd,fU,gd,Lh,gn,EN,z,nz⟩
  have fP:=ay.go li.par li.fr.le
  have t0:=li.t0
  have t1:=li.t1
  have t5:=li.t5
  refine r7 @gd ⟨?_⟩
  refine gZ ?_
  cases b with
  |false=>
   refine qi ?_
   exact bK _ _ _ ⟨cl,wZ,uk,fe,⟨a7 t0,a7 t1,a7 t5,li.aW,li.cJ,li.par,li.fr⟩,f7,fd,a7 fU,Lh,gn,EN,nz rfl⟩
  |true=>
   have V:=z rfl
   cases q with
   |zero=>simp[su,andThen]at V
   |succ q=>
   unfold su at V
   refine qj ?_
   refine cT @fU @t0 ⟨?_⟩
   cases aH:aT.drop fe with
   |nil=>rw[aH]at V;simp[iU,andThen]at V
   |cons x k=>
   rw[aH]at V
   simp only[iU]at V
   refine(Df aw fP.a2 fP.par fP.bM fP.ht fP.g8 fP.many (fN aH).1 1).mono ?_ ?_
   ·rintro BE aX bf ⟨aD,rfl,gI,dY⟩
    have ip:=dY.le
    rw[Zu aD]at V
    simp only[andThen,ok]at V
    rw[<-(fN aH).2]at V
    have fI:(aT.drop fe).length=(aT.drop (fe+1)).length+1:=by rw[aH,(fN aH).2];rfl
    have pQ:∀e,j<=e->e<a1->Y X aX e=Y X aM e:=λe I J=>dY.ab e J (by simp;omega)
    have aiO:=li.aW.ab (T:=aX) (λe z=>pQ e (li.cJ e z).1 (li.cJ e z).2)
    have auK:=Lh.ab (T:=aX) (λe z=>pQ e (zq (gn e z)) (gn e z).2)
    have Hc:=li.fr.trans dY
    refine ci cd.eq_1 ⟨?_⟩
    have ks:lA X (bn X aX bf (zu (cd x) 7)) 7 (.slice bf 0 1 1)=some (1,cd x):=sD (bg Zo) (n8 _) rfl _
    obtain⟨aAs,bC,abr,ix,tz,asw,gh⟩:=(auK.ab (T:=bn X aX bf (zu (cd x) 7)) (λe z=>aI Zo (zq (gn e z).2))).append (j:=bf+1) Zd ks rfl Zd rfl (by rw[aBt];simp only[cd,ZD,ZT];omega) Zo (λe z=>zq (gn e z).2)
    refine kN ix ?_
    have d0:∀e,e<bf->e∉uk->Y X bC e=Y X aX e:=λe I J=>by rw[gh e Zo J,aI Zo Zo]
    have dV:∀e,e<aG->e∉uk:=λe I J=>zq (gn e J)
    have hl:aR X bC aK bP aT (fe+1):=gI.ab (d0 _ Zo (dV _ Zo)) (d0 _ Zo (dV _ Zo))
    have ey:ca X [aK] h j bC (bf+1+1):=⟨Zo,λb aj bZ=>by rw[d0 b Zo (dV _ Zo)];exact Hc.ab b aj bZ⟩
    have aiP:=aiO.ab (T:=bC) (λe z=>d0 e (zq (fd e z)) (dV _ (fd e z)))
    have e3:(cl.map cd).flatten++cd x=((cl++[x]).map cd).flatten:=by simp
    rw[e3]at tz
    have OA:∀e∈abr,aG<=e/\e<bf+1+1:=λe z=>by
     rcases asw e z with rfl|a
     ·omega
     ·have:=gn e a;omega
    refine ci @t0 ⟨?_⟩
    have k6:=ay.go hl ey.le
    obtain⟨w,gJ,pB⟩:∃w gJ,aT.drop (fe+1)=w::gJ:=by
     cases a:aT.drop (fe+1)with
     |nil=>rw[a]at V;simp[ir,mm]at V
     |cons w gJ=>exact⟨w,gJ,rfl⟩
    refine(oj aw k6 pB [44]).Zm ?_
    rintro FY bW b4 ⟨rfl,hm,dF⟩
    have ib:=dF.le
    have dU:∀e,j<=e->e<bf+1+1->Y X bW e=Y X bC e:=λe I J=>dF.ab e J (by simp;omega)
    refine cK ⟨?_⟩
    refine⟨q,Zo,cl++[x],aAs,abr,_,g9 w [44],⟨a7 t0,a7 t1,a7 t5,aiP.ab (λe z=>dU e (li.cJ e z).1 (zq (fd e z))),λe z=>⟨(li.cJ e z).1,zq (fd e z)⟩,hm,ey.trans dF⟩,Zo,fd,bw,bw, .inl (tz.ab (λe z=>dU e (zq (OA e z)) (OA e z).2)),λe z=>⟨(OA e z).1,zq (OA e z).2⟩, ?_,λa=> ?_,λa=> ?_⟩
    ·have bk:=congrArg List.length (fN pB).2
     have b6:(aT.drop (fe+1)).length=gJ.length+1:=by rw[pB];rfl
     split
     ·simp only[ZO,List.length_singleton];omega
     ·simp only[ZO,List.length_singleton];omega
    ·rw[pB]at V
     simp only[ir,mm,a,ZC]at V ⊢
     rw[(fN pB).2]
     exact V
    ·rw[pB]at V
     simp only[ir,mm,a,Zw,ZA]at V ⊢
     rw[pB]
     exact V
   ·rintro BE aX bf ⟨aD,rfl,dY⟩
    rw[Zg aD]at V
    simp only[andThen,bad,Zf]at V
    subst V
    exact⟨_,rfl,rfl,li.fr.trans dY⟩
 ·clear V mO KZ
  rintro H aM a1 ⟨cl,wZ,uk,fe,li,f7,fd,fU,Lh,gn,EN,V⟩
  have t0:=li.t0
  have t1:=li.t1
  have t5:=li.t5
  have dl:=li.fr
  have wl:=li.aW
  have AR:=li.cJ
  have dB:=li.par
  clear li
  refine ci @t0 ⟨?_⟩
  refine fh (λaX=>Y X aX a1=zu [.str [58]] 1/\bo X aM a1 aX (a1+1)) ⟨bg Zo,dM⟩ ?_
  rintro aX ⟨S2,cg⟩
  have nG:=ay.go (dB.ex cg Zo Zo) (by omega:j<=a1+1)
  have dY:=dl.trans (ca.of cg)
  unfold D9 at V
  rcases gu V with ⟨F,aB,rfl⟩|⟨lF,g6,aB,V⟩
  ·exact(jK aw nG Zo Zo S2 aB).mono (λac T an a=>by obtain⟨E,cD,a,_⟩:=a;cases a) (λac T an a=>a.of dY (λ_ a=>by cases a;rfl))
  refine(jK aw nG Zo Zo S2 aB).mono ?_ (λac T an a=>by obtain⟨F,a,_⟩:=a;cases a)
  rintro v4 bC da ⟨aB7,i4,uL,_,hl,ey⟩
  cases uL
  have OU:=aBW aB
  have jC:=ey.le
  have k6:=nG.go hl jC
  have AK:=dY.trans ey
  have d0:∀e,j<=e->e<a1->Y X bC e=Y X aM e:=λe I J=>by rw[ey.ab e Zo (by simp;omega),cg.ab e J]
  have tz:=wl.ab (T:=bC) (λe z=>d0 e (AR e z).1 (AR e z).2)
  have ae5:=Lh.ab (T:=bC) (λe z=>d0 e (zq (gn e z)) (gn e z).2)
  clear wl Lh d0 S2 cg nG dY ey aB dl dB
  refine ci @t0 ⟨?_⟩
  cases pB:aT.drop i4 with
  |nil=>rw[pB]at V;simp[iU,andThen]at V
  |cons t gJ=>
  rw[pB]at V
  simp only[iU]at V
  refine(Df aw k6.a2 k6.par k6.bM k6.ht k6.g8 k6.many (fN pB).1 3).mono ?_ (λFY bW b4 a=>by
   obtain⟨aD,rfl,dF⟩:=a
   rw[Zg aD]at V
   simp only[andThen,bad,Zf]at V
   subst V
   exact⟨_,rfl,rfl,AK.trans dF⟩)
  rintro FY bW b4 ⟨aD,rfl,hm,dF⟩
  have ib:=dF.le
  rw[Zu aD]at V
  simp only[andThen,ok]at V
  rw[<-(fN pB).2]at V
  have aC4:(aT.drop i4).length=(aT.drop (i4+1)).length+1:=by rw[pB,(fN pB).2];rfl
  have AJ:=AK.trans dF
  have dU:∀e,j<=e->e<da->Y X bW e=Y X bC e:=λe I J=>dF.ab e J (by simp;omega)
  have pI:=tz.ab (T:=bW) (λe z=>dU e (AR e z).1 (zq (AR e z)))
  have ae6:=ae5.ab (T:=bW) (λe z=>dU e (zq (gn e z)) (zq (gn e z)))
  clear tz ae5 dU dF AK
  refine cT cd.eq_1 @t0 ⟨?_⟩
  refine fh (λb9=>Y X b9 b4=zu (eT ⟨[],0,t.ty,[],0,false⟩) 8/\bo X bW b4 b9 (b4+1)) ⟨bg Zo,dM⟩ ?_
  rintro b9 ⟨te,eG⟩
  have mG:=ay.go (hm.ex eG Zo Zo) (by omega:j<=b4+1)
  have eu:=AJ.trans (ca.of eG)
  obtain⟨w,mE,tl,afh⟩:=rJ V
  refine(oj aw mG tl _).Zm ?_
  rintro ah5 cB ef ⟨rfl,hQ,el⟩
  have n5:=el.le
  have Tf:=eu.trans el
  have ux:Y X cB b4=zu (eT ⟨[],0,t.ty,[],0,false⟩) 8:=by rw[el.ab _ Zo (by simp;omega)];exact te
  have gQ:∀e,j<=e->e<b4->Y X cB e=Y X bW e:=λe I J=>by rw[el.ab e Zo (by simp;omega),eG.ab e J]
  have aeq:(aT.drop (i4+1)).length=mE.length+1:=by rw[tl];rfl
  refine r7 cd.eq_1 ⟨?_⟩
  refine kt (λH T aU=>∃(on:bi) (fL:Int) (no:Bool) (cD:Nat),H.g 0=some (.ptr aK 0)/\H.g 1=some (.bool loc)/\H.g 5=some s/\H.g 6=some wZ/\H.g 8=some (.ptr b4 0)/\Y X T b4=zu (eT ⟨[],0,t.ty,on,fL,no⟩) 8/\(∀e,j<=e->e<b4->Y X T e=Y X bW e)/\aR X T aK bP aT cD/\ca X [aK] h j T aU/\b4<aU/\(aT.drop cD).length<=(aT.drop (i4+1)).length/\
   Am loc (jh m loc) (ds++cl.map (qn t.ty on fL no)) (aT.drop cD)=some r) (λW bK=> ?_) ?_
  ·rcases afh with ⟨aF,V⟩|⟨aF,V⟩
   ·rw[aF]at hQ ⊢
    simp only[ZC]at hQ ⊢
    rw[<-(fN tl).2]at V
    simp only[Cd]at V
    refine ci @t0 ⟨?_⟩
    refine fh (λdX=>bo X cB ef dX (ef+1)) dM ?_
    intro dX hX
    have tR:=mG.go (hQ.ex hX Zo Zo) (by omega:b4+1<=ef+1)
    have AD:Y X dX b4=zu (eT ⟨[],0,t.ty,[],0,false⟩) 8:=by rw[hX.ab _ Zo];exact ux
    obtain⟨y1,tH,Hl⟩:∃y1 tH,aT.drop (i4+1+1)=y1::tH:=by
     cases a:aT.drop (i4+1+1)with
     |nil=>rw[a]at V;simp[ir,mm,andThen]at V
     |cons w gJ=>exact⟨w,gJ,rfl⟩
    refine(oj aw tR Hl _).Zm ?_
    rintro WB ee jo ⟨rfl,m0,hf⟩
    have uP:=hf.le
    have Ct:=(Tf.trans (ca.of hX)).trans hf
    have G1:Y X ee b4=zu (eT ⟨[],0,t.ty,[],0,false⟩) 8:=by rw[hf.ab _ Zo (by simp;omega)];exact AD
    have rp:andThen (andThen (iU 1 (aT.drop (if g9 y1 [110,111,116]then i4+1+1+1 else i4+1+1))) (λon k=>ok (on.text,on.at_,g9 y1 [110,111,116]) k)) (λr k=>Am loc (jh m loc) (ds++cl.map (qn t.ty r.1 r.2.1 r.2.2)) k)=some r:=by
     rw[Hl]at V
     cases aeX:g9 y1 [110,111,116]with
     |true=>simp only[ir,mm,aeX,ZC]at V ⊢;rw[(fN Hl).2];exact V
     |false=>simp only[ir,mm,aeX,Zw,ZA]at V ⊢;rw[Hl];exact V
    have aer:(aT.drop (if g9 y1 [110,111,116]then i4+1+1+1 else i4+1+1)).length<=(aT.drop (i4+1)).length:=by simp only[YD];split<;>omega
    clear V
    generalize (if g9 y1 [110,111,116]then i4+1+1+1 else i4+1+1)=i9 at rp m0 aer
    generalize (if g9 y1 [110,111,116]then y1 else hc)=z9
    generalize g9 y1 [110,111,116]=no at rp
    unfold eT at G1
    refine et cd.eq_1 @G1 @t0 ⟨?_⟩
    refine fh (λxH=>Y X xH b4=zu (eT ⟨[],0,t.ty,[],0,no⟩) 8/\(∀e,e<jo->e≠b4->Y X xH e=Y X ee e)) ⟨by rw[bg Zo];rfl,λe I J=>aI Zo J⟩ ?_
    rintro xH ⟨aqK,wt⟩
    have HB:=m0.ab (wt _ Zo Zo) (wt _ Zo Zo)
    have uG:ca X [aK] h j xH jo:=⟨Zo,λb aj bZ=>by rw[wt b Zo Zo];exact Ct.ab b aj bZ⟩
    have II:=ay.go HB (by omega:j<=jo)
    cases OE:aT.drop i9 with
    |nil=>rw[OE]at rp;simp[iU,andThen]at rp
    |cons c aEb=>
    rw[OE]at rp
    simp only[iU]at rp
    refine(Df aw II.a2 II.par II.bM II.ht II.g8 II.many (fN OE).1 1).mono ?_ ?_
    ·rintro aBy rV axt ⟨TZ,rfl,K5,x9⟩
     have aC6:=x9.le
     rw[Zu TZ]at rp
     simp only[andThen,ok]at rp
     rw[<-(fN OE).2]at rp
     have G0:Y X rV b4=zu (eT ⟨[],0,t.ty,[],0,no⟩) 8:=by rw[x9.ab _ Zo (by simp;omega)];exact aqK
     unfold eT at G0
     refine cT cd.eq_1 @G0 ⟨?_⟩
     refine g2 (qM _ _) ?_
     refine cT cd.eq_1 @G0 ⟨?_⟩
     refine bK _ _ _ ⟨c.text,c.at_,no,i9+1,a7 t0,a7 t1,a7 t5,a7 fU,bw, ?_,λe I J=> ?_, ?_, ?_,Zo, ?_,rp⟩
     ·simp(disch:=omega) only[aI,bg]<;>rfl
     ·simp(disch:=omega) only[aI]
      rw[x9.ab e Zo (by simp;omega),wt e Zo Zo,hf.ab e Zo (by simp;omega),hX.ab e Zo,gQ e I J]
     ·exact K5.ab (zw) (zw)
     ·exact⟨Zo,λb aj bZ=>by rw[<-(uG.trans x9).ab b aj bZ];exact zw⟩
     ·simp only[YD]at aer ⊢;omega
    ·rintro aBy rV axt ⟨TZ,rfl,x9⟩
     rw[Zg TZ]at rp
     simp only[andThen,bad,Zf]at rp
     subst rp
     exact⟨_,rfl,rfl,uG.trans x9⟩
   ·rw[aF]at hQ ⊢
    simp only[Zw,ZA]at hQ ⊢
    simp only[Cd,andThen,ok]at V
    refine cT cd.eq_1 hc.eq_1 ⟨?_⟩
    refine bK _ _ _ ⟨[],0,false,i4+1,a7 t0,a7 t1,a7 t5,a7 fU,bw, ?_,λe I J=> ?_, ?_, ?_,Zo,Zi _,V⟩
    ·simp(disch:=omega) only[aI];exact ux
    ·simp(disch:=omega) only[aI];exact gQ e I J
    ·exact hQ.ab (zw) (zw)
    ·exact⟨Zo,λb aj bZ=>by rw[<-Tf.ab b aj bZ];exact zw⟩
  ·clear V afh hQ Tf el ux gQ eu te eG mG AJ t0 t1 t5 fU hm
   rintro H b9 eB ⟨on,fL,no,ie,t0,t1,t5,fU,hb,te,dy,hz,eu,aDq,OV,V⟩
   have tA:=pI.ab (T:=b9) (λe z=>dy e (AR e z).1 (zq (AR e z)))
   have ae7:=ae6.ab (T:=b9) (λe z=>dy e (zq (gn e z)) (zq (gn e z)))
   clear pI ae6
   obtain⟨xQ,cA⟩:=ae7.tT Zd (ahZ cl) (by simp only[Zn];omega) (P:=λe=>aG<=e/\e<a1) gn
   have fI:=cA.len
   rw[Zn]at fI
   refine NW @fU @fI ⟨?_⟩
   have CQ:=fI
   refine kt (λH T aU=>∃(fk:D) (gC:List Nat),H.g 0=some (.ptr aK 0)/\H.g 1=some (.bool loc)/\H.g 5=some fk/\gB X T fk 8 ((ds++cl.map (qn t.ty on fL no)).map eT).flatten gC/\(∀e∈gC,j<=e/\e<aU)/\aR X T aK bP aT ie/\ca X [aK] h j T aU/\eB<=aU) (λW bK=> ?_) ?_
   ·refine fK (λagk H T aU=>∃(q:Nat) (fk:D) (gC:List Nat) (nm:bi) (Gy:Int),agk=cl.length-q/\q<=cl.length/\H.g 0=some (.ptr aK 0)/\H.g 1=some (.bool loc)/\H.g 5=some fk/\H.g 8=some (.ptr b4 0)/\H.g 52=some wZ/\H.g 53=some (.Z (cl.length:Int))/\H.g 54=some (.Z (q:Int))/\Y X T b4=zu (eT ⟨nm,Gy,t.ty,on,fL,no⟩) 8/\
     gB X T fk 8 ((ds++(cl.take q).map (qn t.ty on fL no)).map eT).flatten gC/\(∀e∈gC,(e∈cJ\/eB<=e)/\e<aU)/\(∀e,aG<=e->e<a1->Y X T e=Y X b9 e)/\aR X T aK bP aT ie/\ca X [aK] h j T aU/\eB<=aU)
     cl.length ⟨0,s,cJ,[],0,Zo,Zo,a7 t0,a7 t1,a7 t5,a7 hb,bw,bw,fW,te,by simpa using tA,λe z=>⟨.inl z,zq (AR e z)⟩,λ_ _ _=>rfl,hz,eu,Zi _⟩ ?_
    rintro agk H cB ef ⟨q,fk,gC,nm,Gy,rfl,sg,t0,t1,t5,hb,yU,qP,kz,ux,E1,yf,afK,hQ,el,n5⟩
    refine NW @qP @kz ⟨?_⟩
    refine gZ ?_
    refine GG (λc2=> ?_) (λc2=> ?_)
    ·have c2:q<cl.length:=Zo
     have aej:=cA.f3 q (by simpa using c2)
     have Ux:=(cA.ab (T:=cB) (λe z=>afK e z.1 z.2)).row Zd (i:=q) (r:=cd cl[q]) (by rw[Zy,Ze c2];rfl)
     have Pk:cl.take (q+1)=cl.take q++[cl[q]]:=List.take_succ_eq_append_getElem c2
     generalize cl[q]=bz at Ux Pk
     have B8:∀e∈gC,j<=e/\e≠b4/\¬(aG<=e/\e<a1)/\e<ef:=λe z=>by
      obtain⟨I,J⟩:=yf e z
      rcases I with I|I
      ·have:=AR e I;have:=fd e I;exact⟨Zo,Zo,Zo,Zo⟩
      ·exact⟨Zo,Zo,Zo,Zo⟩
     unfold eT at ux
     refine eF @yU @kz @aej @Ux cd.eq_1 @hb @ux ⟨?_⟩
     refine g2 (qM _ _) ?_
     refine eF @yU @kz @aej @Ux cd.eq_1 @hb (Za @ux @t5) ⟨?_⟩
     generalize uH:bn X _ (ef+1+8) _=ee
     have mW:Y X ee (ef+1+8)=zu (eT (qn t.ty on fL no bz)) 8:=by rw[<-uH,bg Zo];rfl
     have G1:Y X ee b4=zu (eT (qn t.ty on fL no bz)) 8:=by rw[<-uH];simp(disch:=omega) only[aI,bg]<;>rfl
     have hs:∀e,e<ef->e≠b4->Y X ee e=Y X cB e:=λe I J=>by rw[<-uH];exact zw
     clear uH
     have ks:lA X ee 8 (.slice (ef+1+8) 0 1 1)=some (1,eT (qn t.ty on fL no bz)):=sD mW (n8 _) rfl _
     have d5:(ds++(cl.take q).map (qn t.ty on fL no)).length<=100000:=by
      simp only[ZO,Zn,zf];omega
     obtain⟨k9,xH,xN,ix,aeZ,asu,aem⟩:=(E1.ab (T:=ee) (λe z=>hs e (B8 e z).2.2.2 (B8 e z).2.1)).append (j:=ef+1+8+1) Zd ks rfl Zd rfl (by rw[aoU];simp only[eT,ZD,ZT];omega) Zo (λe z=>zq (B8 e z))
     refine kN ix ?_
     have wt:∀e,e<ef->e≠b4->e∉gC->Y X xH e=Y X cB e:=λe I J am=>by rw[aem e Zo am,hs e I J]
     have bF:=zv q
     have e3:((ds++(cl.take q).map (qn t.ty on fL no)).map eT).flatten++eT (qn t.ty on fL no bz)=((ds++(cl.take (q+1)).map (qn t.ty on fL no)).map eT).flatten:=by rw[Pk];simp
     rw[e3]at aeZ
     refine cT @kz @bF ⟨?_⟩
     refine⟨cl.length-(q+1),Zo,q+1,k9,xN,bz.text,bz.at_,rfl,Zo,a7 t0,a7 t1,bw,a7 hb,a7 yU,a7 qP,bw, ?_, .inl aeZ, ?_, ?_, ?_, ?_,Zo⟩
     ·rw[aem _ Zo (λa=>(B8 _ a).2.1 rfl)];exact G1
     ·intro e z
      rcases asu e z with rfl|a
      ·exact⟨.inr Zo,Zo⟩
      ·have:=yf e a;exact⟨this.1,Zo⟩
     ·intro e I J
      rw[wt e Zo Zo (λa=>(B8 e a).2.2.1 ⟨I,J⟩)]
      exact afK e I J
     ·exact hQ.ab (wt _ Zo Zo (λa=>zq (B8 _ a))) (wt _ Zo Zo (λa=>zq (B8 _ a)))
     ·exact⟨Zo,λb aj bZ=>by rw[wt b Zo Zo (λa=>zq (B8 _ a))];exact el.ab b aj bZ⟩
    ·have yn:q=cl.length:=Zo
     subst yn
     rw[YY]at E1
     refine cK ⟨?_⟩
     exact bK _ _ _ ⟨fk,gC,a7 t0,a7 t1,a7 t5,E1,λe z=>by
      obtain⟨I,J⟩:=yf e z
      rcases I with I|I
      ·have:=AR e I;omega
      ·omega,hQ,el,n5⟩
   ·clear tA ae7 te dy t0 t1 t5 fU hb hz eu cA fI
    rintro H cB ef ⟨fk,gC,t0,t1,t5,E1,yf,hQ,el,n5⟩
    have aet:(ds++cl.map (qn t.ty on fL no)).length+(aT.drop ie).length<=aT.length:=by simp only[ZO,Zn];omega
    generalize ds++cl.map (qn t.ty on fL no)=JY at E1 V aet
    have fin:∀(T:K ag) (aU:Nat),(∀e,e<ef->e≠aK->Y X T e=Y X cB e)->ef<=aU->r= .ok (JY,aT.drop ie)->aR X T aK bP aT ie->∃ds cD b,r= .ok (ds,aT.drop cD)/\dD X T (cQ j aU) b fk 8 (ds.map eT)/\aR X T aK bP aT cD/\ca X [aK] h j T aU:=by
     intro T aU I J am aB
     obtain⟨b,cA⟩:=(E1.ab (T:=T) (λe z=>I e (yf e z).2 (zq (yf e z)))).tT Zd (ab3 JY) (by simp only[Zn];omega) (P:=cQ j aU) (λe z=>⟨(yf e z).1,zq (yf e z)⟩)
     exact⟨JY,ie,b,am,cA,aB,Zo,λb aj bZ=>by rw[I b Zo (by simpa using bZ)];exact el.ab b aj bZ⟩
    refine ci @t0 ⟨?_⟩
    obtain⟨F0,o0,sf⟩:∃F0 o0,aT.drop ie=F0::o0:=by
     cases a:aT.drop ie with
     |nil=>rw[a]at V;simp[Am,BC]at V
     |cons w gJ=>exact⟨w,gJ,rfl⟩
    refine fh (λdX=>dX=cB) rfl ?_
    rintro dX rfl
    refine(sx aw Zo hQ Zo Zo (fN sf).1).Zm ?_
    rintro u8 ee jo ⟨rfl,jS⟩
    have uP:=jS.le
    have m0:=hQ.ab (jS.ab _ Zo) (jS.ab _ Zo)
    rw[sf]at V
    simp only[Am,BC]at V
    by_cases Pf:F0.text=[59]
    ·rw[Zu Pf]at V
     have cX:decide (F0.text≠[59])=false:=by simp[Pf]
     have acX:jh m loc JY (aT.drop (ie+1))=some r->∀(H:cV) (gA:K ag),H.g 0=some (.ptr aK 0)->H.g 1=some (.bool loc)->H.g 5=some fk->(∀e,e<jo->e≠aK->Y X gA e=Y X ee e)->aR X gA aK bP aT (ie+1)->
      ∃gr,gr<m+1/\∃s ds cJ cD,MT X aK bP aT j h loc H gA jo s ds cJ cD/\ds.length+(aT.drop cD).length<=aT.length/\jh gr loc ds (aT.drop cD)=some r:=by
      intro ic H gA t0 t1 t5 aD auc
      refine⟨m,Zo,fk,JY,gC,ie+1,⟨t0,t1,t5,E1.ab (λe z=> ?_),λe z=>zq (yf e z),auc,Zo,λb aj bZ=> ?_⟩, ?_,ic⟩
      ·have:=yf e z
       rw[aD e Zo Zo,jS.ab e Zo]
      ·rw[aD b Zo (by simpa using bZ),jS.ab b Zo];exact el.ab b aj bZ
      ·simp only[YD]at aet ⊢;omega
     obtain⟨c,ao,ba,cj,a3,a4⟩:=m0.at_
     have UZ:=kf ba a3
     have afI:=kf ba cj
     have lK:=(Zc.1 (fN sf).1).1
     have c8:=m0.ne
     have bF:=zv ie
     have ag1:∀gA,gA=bn X ee aK (some (.cells (dN c 1 [.Z ((ie+1:Nat):Int)]) 2 .own))->aR X gA aK bP aT (ie+1):=by
      rintro gA rfl
      refine m0.on (c:=dN c 1 [.Z ((ie+1:Nat):Int)]) (bg Zo) (λd3 st a=>by rw[ba]at a;cases a;exact rM ..) (aI Zo Zo)
     cases loc with
     |false=>
      simp only[Zw,ZA]at V
      have ko:(F0::o0).drop 1=aT.drop (ie+1):=by rw[(fN sf).2];rfl
      rw[ko]at V
      refine eF cd.eq_1 @cX @t1 @t0 @UZ @bF @ba ⟨?_⟩
      exact acX V _ _ (a7 t0) (a7 t1) (a7 t5) (λe I J=>aI Zo J) (ag1 _ rfl)
     |true=>
      simp only[ZC]at V
      obtain⟨qa,tH,Hl⟩:∃qa tH,o0=qa::tH:=by
       cases o0 with
       |nil=>simp[BC]at V
       |cons w gJ=>exact⟨w,gJ,rfl⟩
      subst Hl
      simp only[BC]at V
      have cr:aT[ie+1]? =some qa:=(fN (fN sf).2).1
      have HV:=(Zc.1 cr).1
      have aek:=a4.f3 (ie+1) (by rw[Zn];exact HV)
      have adR:aO X ee (.ptr bP ((ie+1)*7+1))=some (.str qa.text):=a4.cell (ie+1) (cd qa) 1 _ (by rw[Zy,cr];rfl) rfl
      by_cases OX:qa.text=[108,101,116]
      ·rw[Zu OX]at V
       simp only[ok,Zf]at V
       have cF:decide (qa.text=[108,101,116])=true:=by simp[OX]
       refine eF cd.eq_1 @cX @t1 @t0 @afI @UZ (Za @bF (Za @aek (Za @adR (Za @cF @t5)))) ⟨?_⟩
       exact fin _ _ (λe I J=>jS.ab e Zo) Zo (by rw[<-V,sf]) m0
      ·rw[Zg OX]at V
       have cF:decide (qa.text=[108,101,116])=false:=by simp[OX]
       have ko:(F0::qa::tH).drop 1=aT.drop (ie+1):=by rw[(fN sf).2];rfl
       rw[ko]at V
       refine eF cd.eq_1 @cX @t1 @t0 @afI @UZ (Za @bF (Za @aek (Za @adR (Za @cF @ba)))) ⟨?_⟩
       exact acX V _ _ (a7 t0) (a7 t1) (a7 t5) (λe I J=>aI Zo J) (ag1 _ rfl)
    ·rw[Zg Pf]at V
     simp only[ok,Zf]at V
     have cX:decide (F0.text≠[59])=true:=by simp[Pf]
     refine et cd.eq_1 @cX @t5 ⟨?_⟩
     exact fin _ _ (λe I J=>jS.ab e Zo) Zo (by rw[<-V,sf]) m0
end
def k0{v w:D}(a:gy v=some w):v.cells=[v]/\qJ v=true/\D.same 30 v v=true:=by
 cases v with
 |slice b U n c=>exact⟨rfl,rfl,by simp[D.same]⟩
 |fl b U n c=>exact⟨rfl,rfl,by simp[D.same]⟩
 |aV=>exact⟨rfl,rfl,rfl⟩
 |_=>simp[gy]at a
def mP(X:cb)(h:K ag):(Nat->Prop)->List fc->List (List D)->Prop
 |_,[],br=>br=[]
 |P,ah::cN,br=>∃row gz bm,br=row::gz/\(∀e,bm e->P e)/\xA X h bm ah row/\mP X h (λe=>P e/\¬bm e) cN gz
def mP.ab{X:cb}{h T:K ag}:∀{cN:List fc}{br:List (List D)}{P bm:Nat->Prop}(q:∀e,P e->Y X T e=Y X h e) (az:∀e,P e->bm e),mP X h P cN br->mP X T bm cN br:=by
 intro cN
 induction cN with
 |nil=>intro br P bm q az a;exact a
 |cons ah cN al=>
  rintro br P bm q az ⟨row,gz,eE,I,bL,J,am⟩
  exact⟨row,gz,eE,I,λe z=>az e (bL e z),J.ab (λe z=>q e (bL e z)) (λe z=>z),al (λe z=>q e z.1) (λe z=>⟨az e z.1,z.2⟩) am⟩
def mP.snoc{X:cb}{h:K ag}{bm:Nat->Prop}{ah:fc}{row:List D}(a:xA X h bm ah row):∀{cN:List fc}{br:List (List D)}{es P:Nat->Prop},mP X h es cN br->(∀e,es e->P e)->(∀e,bm e->P e/\¬es e)->mP X h P (cN++[ah]) (br++[row]):=by
 intro cN
 induction cN with
 |nil=>rintro br es P rfl I J;exact⟨row,[],bm,rfl,λe z=>(J e z).1,a,rfl⟩
 |cons F cN al=>
  rintro br es P ⟨rF,gz,eE,rfl,bL,am,aB⟩ I J
  exact⟨rF,gz++[row],eE,rfl,λe z=>I e (bL e z),am,al aB (λe z=>⟨I e z.1,z.2⟩) (λe z=>⟨⟨(J e z).1,λgO=>(J e z).2 (bL e gO)⟩,λpL=>(J e z).2 pL.1⟩)⟩
def xA.len{X:cb}{h:K ag}{P:Nat->Prop}{ah:fc}{row:List D}(a:xA X h P ah row):row.length=4:=by
 obtain⟨_,_,_,_,_,rfl,_⟩:=a;rfl
def mP.wide{X:cb}{h:K ag}:∀{cN:List fc}{br:List (List D)}{P:Nat->Prop},mP X h P cN br->br.length=cN.length/\∀r∈br,r.length=4:=by
 intro cN
 induction cN with
 |nil=>rintro br P rfl;simp
 |cons F cN al=>
  rintro br P ⟨rF,gz,eE,rfl,bL,J,am⟩
  obtain⟨aB,bk⟩:=al am
  refine⟨by simp[aB],λr V=> ?_⟩
  rcases Zr.1 V with rfl|V
  ·exact J.len
  ·exact bk r V
def pn(X:cb)(h:K ag)(P:Nat->Prop)(g:Go.aR.Node)(row:List D):Prop:=∃dj dG aW eP bQ cf cM ew br,row=[.str g.name, .Z g.at_,dj,dG,aW,eP]/\dD X h P bQ dj 8 (g.ez.map eT)/\dD X h P cf dG 8 (g.out.map eT)/\dD X h P cM aW 8 (g.loc.map eT)/\dD X h P ew eP 4 br/\mP X h P g.eqs br
structure ue(X:cb)(h:K ag)(n pZ:Nat)(nm:bi)(F:Int)(dj dG aW:D)(ez out loc:List fo):Prop where
 nw:Y X h pZ=zu [.str nm, .Z F,dj,dG,aW, .aV] 6
 lt:pZ<n
 eL:∃b,dD X h (cQ (pZ+1) n) b dj 8 (ez.map eT)
 e7:∃b,dD X h (cQ (pZ+1) n) b dG 8 (out.map eT)
 hE:∃b,dD X h (cQ (pZ+1) n) b aW 8 (loc.map eT)
def ue.ab{X:cb}{h T:K ag}{n aU pZ:Nat}{nm:bi}{F:Int}{dj dG aW:D}{ez out loc:List fo}(a:ue X h n pZ nm F dj dG aW ez out loc)(q:∀e,pZ<=e->e<n->Y X T e=Y X h e)(aE:n<=aU):ue X T aU pZ nm F dj dG aW ez out loc:=by
 have eA:∀e,cQ (pZ+1) n e->Y X T e=Y X h e:=λe z=>q e (zq z.1) z.2
 have Vm:∀e,cQ (pZ+1) n e->cQ (pZ+1) aU e:=λe z=>⟨z.1,zq z.2⟩
 obtain⟨bQ,I⟩:=a.eL
 obtain⟨cf,J⟩:=a.e7
 obtain⟨cM,am⟩:=a.hE
 exact⟨by rw[q pZ (Zi _) a.lt];exact a.nw,zq a.lt,⟨bQ,(I.ab eA).lift Vm⟩,⟨cf,(J.ab eA).lift Vm⟩,⟨cM,(am.ab eA).lift Vm⟩⟩
section
variable{X:cb}{h T aP aM:K ag}{j an aG a1 aK bP:Nat}{aT:List Tok}{i:Nat}
def ue.fr{n aU pZ:Nat}{nm:bi}{F:Int}{dj dG aW:D}{ez out loc:List fo}(a:ue X h n pZ nm F dj dG aW ez out loc)(gm:ca X [aK] h n T aU)(aj:aK<pZ):ue X T aU pZ nm F dj dG aW ez out loc:=
 a.ab (λe I J=>gm.ab e J (by simp;omega)) gm.le
def aBX{jr k9:bi}{k:List Tok}:sG [jr,k9] hc k=andThen (eC jr k) λ_ k=>eC k9 k:=by
 simp only[sG]
 cases a:eC jr k with
 |none=>rfl
 |some r=>
  cases r with
  |error F=>rfl
  |ok p=>
   obtain⟨x,bV⟩:=p
   simp only[andThen]
   cases eC k9 bV with
   |none=>rfl
   |some e7=>cases e7 with
    |error F=>rfl
    |ok p=>obtain⟨e,c4⟩:=p;rfl
def axP(aw:du X)(eN:xC X){n:Nat}(ts:n<=200000)(jn:aT.length<=100000)(ay:iJ X h j aK bP aT i){r:Except Int (Go.aR.Node×List Tok)}(V:Go.aR.node n (aT.drop i)=some r):
 aY X 117 [.ptr aK 0] h j (λac T an=>∃g cD row,r= .ok (g,aT.drop cD)/\ac= .agg row/\pn X T (cQ j an) g row/\aR X T aK bP aT cD/\ca X [aK] h j T an) (iY X aK h j r):=by
 refine zx aw (ajc X) ?_
 rw[ajd]
 unfold Xg
 have gP:=ay.a2
 have iQ:=ay.ht
 have h9:=ay.bM
 have jT:=ay.g8
 unfold Go.aR.node at V
 refine cK ⟨?_⟩
 refine fh (λaP=>Y X aP (j+1)=zu [.str [110,111,100,101]] 1/\Y X aP j=zu [.str [], .Z 0, .aV, .aV, .aV, .aV] 6/\bo X h j aP (j+1+1)) ⟨bg Zo,by simp(disch:=omega) only[aI,bg]<;>rfl,dM⟩ ?_
 rintro aP ⟨ai,q9,bN⟩
 have nc:=ay.go (ay.par.ex bN Zo Zo) (by omega:j<=j+1+1)
 have il:ca X [aK] h j aP (j+1+1):=ca.of bN
 rcases gu V with ⟨F,J,rfl⟩|⟨h0,c4,J,V⟩
 ·exact(jK aw nc Zo Zo ai J).mono (λac T an a=>by obtain⟨E,cD,a,_⟩:=a;cases a) (λac T an a=>a.of il (λ_ a=>by cases a;rfl))
 refine(jK aw nc Zo Zo ai J).mono ?_ (λac T an a=>by obtain⟨F,a,_⟩:=a;cases a)
 clear J
 rintro ah8 aM a1 ⟨aEQ,fe,KN,_,dB,dl⟩
 cases KN
 have f7:=dl.le
 have ya:=il.trans dl
 have vO:Y X aM j=zu [.str [], .Z 0, .aV, .aV, .aV, .aV] 6:=by rw[dl.ab _ Zo (by simp;omega)];exact q9
 have fP:=ay.go dB ya.le
 clear ai q9 bN nc il dl
 cases uK:aT.drop fe with
 |nil=>rw[uK]at V;simp[iU,andThen]at V
 |cons x fa=>
 rw[uK]at V
 simp only[iU]at V
 refine(Df aw fP.a2 fP.par fP.bM fP.ht fP.g8 fP.many (fN uK).1 1).mono ?_ (λFY bW b4 a=>by
  obtain⟨aD,rfl,dF⟩:=a
  rw[Zg aD]at V
  simp only[andThen,bad,Zf]at V
  subst V
  exact⟨_,rfl,rfl,ya.trans dF⟩)
 rintro BE aX bf ⟨aD,rfl,gI,dY⟩
 have ip:=dY.le
 rw[Zu aD]at V
 simp only[andThen,ok]at V
 rw[<-(fN uK).2]at V
 have uz:Y X aX j=zu [.str [], .Z 0, .aV, .aV, .aV, .aV] 6:=by rw[dY.ab _ Zo (by simp;omega)];exact vO
 have Hc:=ya.trans dY
 clear vO dY ya dB fP
 refine ci cd.eq_1 ⟨?_⟩
 refine fh (λbC=>Y X bC (bf+1+1)=zu [.str [40]] 1/\ue X bC (bf+1+1+1) (bf+1) x.text x.at_ .aV .aV .aV [] [] []/\bo X aX bf bC (bf+1+1+1)) ⟨bg Zo,⟨by simp(disch:=omega) only[aI,bg]<;>rfl,Zo,⟨0,dD.nil _ _⟩,⟨0,dD.nil _ _⟩,⟨0,dD.nil _ _⟩⟩,dM⟩ ?_
 rintro bC ⟨En,agw,dv⟩
 have AE:Y X bC j=zu [.str [], .Z 0, .aV, .aV, .aV, .aV] 6:=by rw[dv.ab _ Zo];exact uz
 have ey:=Hc.trans (ca.of dv)
 have k6:=ay.go (gI.ex dv Zo Zo) (by omega:j<=bf+1+1+1)
 clear uz Hc gI dv
 change andThen (eC [40] (aT.drop (fe+1))) _=some r at V
 rcases gu V with ⟨F,J,rfl⟩|⟨h0,c4,J,V⟩
 ·exact(jK aw k6 Zo Zo En J).mono (λac T an a=>by obtain⟨E,cD,a,_⟩:=a;cases a) (λac T an a=>a.of ey (λ_ a=>by cases a;rfl))
 refine(jK aw k6 Zo Zo En J).mono ?_ (λac T an a=>by obtain⟨F,a,_⟩:=a;cases a)
 clear J
 rintro v5 bW b4 ⟨aER,i5,tm,_,hm,dF⟩
 cases tm
 have ib:=dF.le
 have agx:=agw.fr dF Zo
 have G3:Y X bW j=zu [.str [], .Z 0, .aV, .aV, .aV, .aV] 6:=by rw[dF.ab _ Zo (by simp;omega)];exact AE
 have AJ:=ey.trans dF
 have o9:=ay.go hm AJ.le
 clear agw AE ey dF En k6
 obtain⟨e,m7,KK,Lp⟩:=rJ V
 refine(oj aw o9 KK _).Zm ?_
 rintro ah4 b9 eB ⟨rfl,hz,eu⟩
 have tq:=eu.le
 have PT:=agx.fr eu Zo
 have Cp:Y X b9 j=zu [.str [], .Z 0, .aV, .aV, .aV, .aV] 6:=by rw[eu.ab _ Zo (by simp;omega)];exact G3
 have vS:=AJ.trans eu
 clear agx G3 AJ eu hm o9
 refine r7 cd.eq_1 ⟨?_⟩
 refine kt (λH T aU=>∃(dj:D) (ez:List fo) (cD:Nat),H.g 0=some (.ptr aK 0)/\H.g 2=some (.ptr j 0)/\H.g 4=some (.ptr (bf+1) 0)/\ue X T aU (bf+1) x.text x.at_ dj .aV .aV ez [] []/\Y X T j=zu [.str [], .Z 0, .aV, .aV, .aV, .aV] 6/\aR X T aK bP aT cD/\ca X [aK] h j T aU/\
  (andThen (eC [114,101,116,117,114,110,115] (aT.drop cD)) λ_ k=>andThen (eC [40] k) λ_ k=>andThen (jh n false [] k) λout k=>andThen (eC [41] k) λ_ k=>
   ir [118,97,114] k λe k=>andThen (match e with
    |some _=>andThen (jh n true [] k) λds k=>andThen (eC [59] k) λ_ k=>ok ds k
    |none=>ok [] k) λloc k=>
   andThen (eC [108,101,116] k) λ_ k=>andThen (l8 n [] k) λcN k=>ok (⟨x.text,x.at_,ez,out,loc,cN⟩:Go.aR.Node) k)=some r) (λW bK=> ?_) ?_
 ·rcases Lp with ⟨aF,V⟩|⟨aF,V⟩
  ·rw[aF]at hz ⊢
   simp only[ZC]at hz ⊢
   rw[<-(fN KK).2]at V
   simp only[andThen,ok]at V
   refine ci cd.eq_1 ⟨?_⟩
   refine bK _ _ _ ⟨.aV,[],i5+1,bw,bw,bw,PT.ab (λe I J=>zw) Zo,by simp(disch:=omega) only[aI];exact Cp,hz.ab (zw) (zw), ?_,V⟩
   exact⟨Zo,λb aj bZ=>by rw[<-vS.ab b aj bZ];exact zw⟩
  ·rw[aF]at hz ⊢
   simp only[Zw,ZA]at hz ⊢
   simp only[]at V
   refine cT cd.eq_1 hc.eq_1 ⟨?_⟩
   refine fh (λcB=>bo X b9 eB cB (eB+1)) dM ?_
   intro cB eW
   have Fr:=PT.fr (ca.of (X:=[aK]) eW) Zo
   have AF:Y X cB j=zu [.str [], .Z 0, .aV, .aV, .aV, .aV] 6:=by rw[eW.ab _ Zo];exact Cp
   have el:=vS.trans (ca.of eW)
   have nH:=ay.go (hz.ex eW Zo Zo) (by omega:j<=eB+1)
   clear PT Cp vS hz eW
   rcases gu V with ⟨F,aN,rfl⟩|⟨ez,awM,aN,V⟩
   ·rcases gu aN with ⟨fV,J,am⟩|⟨ds,o0,J,aN⟩
    ·cases am
     exact(GO aw jn nH J).mono (λac T an a=>by obtain⟨E,cD,b,a,_⟩:=a;cases a) (λac T an a=>a.of el (λ_ a=>by cases a;rfl))
    refine(GO aw jn nH J).mono ?_ (λac T an a=>by obtain⟨F,a,_⟩:=a;cases a)
    rintro I6 dX iD ⟨aoV,i8,s5,EH,EX,yt,gG⟩
    cases EH
    have CE:=gG.le
    have Iu:=Fr.fr gG Zo
    obtain⟨gS,nb,sz⟩:=k0 EX.len
    refine cK ⟨?_⟩
    have AD:=Iu.nw
    refine fw (t2 (U:=2) AD Zo Zo gS nb) ?_
    refine cK ⟨?_⟩
    refine fh (λee=>Y X ee iD=zu [.str [41]] 1/\∀e,e<iD->e≠(bf+1)->Y X ee e=Y X dX e) ⟨bg Zo,λe I J=>zw⟩ ?_
    rintro ee ⟨S3,hs⟩
    have m0:=yt.ab (hs _ Zo Zo) (hs _ Zo Zo)
    have hf:ca X [aK] h j ee (iD+1):=⟨Zo,λb aj bZ=>by rw[hs b Zo Zo];exact(el.trans gG).ab b aj bZ⟩
    rcases gu aN with ⟨fV,aB,bk⟩|⟨vk,tH,aB,aN⟩
    ·cases bk
     exact(jK aw (ay.go m0 Zo) Zo Zo S3 aB).mono (λac T an a=>by obtain⟨E,cD,a,_⟩:=a;cases a) (λac T an a=>a.of hf (λ_ a=>by cases a;rfl))
    ·cases aN
   ·rcases gu aN with ⟨fV,J,am⟩|⟨ds,o0,J,aN⟩
    ·cases am
    refine(GO aw jn nH J).mono ?_ (λac T an a=>by obtain⟨F,a,_⟩:=a;cases a)
    rintro I6 dX iD ⟨aoV,i8,s5,EH,EX,yt,gG⟩
    cases EH
    have CE:=gG.le
    have Iu:=Fr.fr gG Zo
    obtain⟨gS,nb,sz⟩:=k0 EX.len
    refine cK ⟨?_⟩
    have AD:=Iu.nw
    refine fw (t2 (U:=2) AD Zo Zo gS nb) ?_
    refine cK ⟨?_⟩
    refine fh (λee=>Y X ee iD=zu [.str [41]] 1/\Y X ee (bf+1)=zu [.str x.text, .Z x.at_,I6, .aV, .aV, .aV] 6/\∀e,e<iD->e≠(bf+1)->Y X ee e=Y X dX e) ⟨bg Zo,by rw[aI Zo Zo,bg Zo];rfl,λe I J=>zw⟩ ?_
    rintro ee ⟨S3,G1,hs⟩
    have m0:=yt.ab (hs _ Zo Zo) (hs _ Zo Zo)
    have hf:ca X [aK] h j ee (iD+1):=⟨Zo,λb aj bZ=>by rw[hs b Zo Zo];exact(el.trans gG).ab b aj bZ⟩
    have aDB:=Fr.lt
    have L0:ue X ee (iD+1) (bf+1) x.text x.at_ I6 .aV .aV _ [] []:=⟨G1,Zo,⟨s5,(EX.ab (λe z=>hs e z.2 (zq z.1))).lift (λe z=>⟨zq z.1,zq z.2⟩)⟩,⟨0,dD.nil _ _⟩,⟨0,dD.nil _ _⟩⟩
    have x6:Y X ee j=zu [.str [], .Z 0, .aV, .aV, .aV, .aV] 6:=by rw[hs _ Zo Zo,gG.ab _ Zo (by simp;omega)];exact AF
    rcases gu aN with ⟨fV,aB,bk⟩|⟨vk,tH,aB,aN⟩
    ·cases bk
    refine(jK aw (ay.go m0 Zo) Zo Zo S3 aB).mono ?_ (λac T an a=>by obtain⟨F,a,_⟩:=a;cases a)
    rintro vg xH LU ⟨QN,Pt,TK,_,HB,uG⟩
    cases TK
    cases aN
    exact bK _ _ _ ⟨I6,_,Pt,bw,bw,bw,L0.fr uG Zo,by rw[uG.ab _ Zo (by simp;omega)];exact x6,HB,hf.trans uG,V⟩
 ·clear Lp hz PT Cp vS V
  rintro H cB ef ⟨dj,ez,pM,t0,dQ,t4,Fr,AF,hQ,el,V⟩
  have T6:=Fr.lt
  refine ci @t0 ⟨?_⟩
  refine fh (λdX=>Y X dX ef=zu [.str [114,101,116,117,114,110,115], .str [40]] 2/\bo X cB ef dX (ef+1)) ⟨bg Zo,dM⟩ ?_
  rintro dX ⟨Ep,hX⟩
  have Iu:=Fr.fr (ca.of (X:=[aK]) hX) Zo
  have N7:Y X dX j=zu [.str [], .Z 0, .aV, .aV, .aV, .aV] 6:=by rw[hX.ab _ Zo];exact AF
  have gG:=el.trans (ca.of hX)
  have tR:=ay.go (hQ.ex hX Zo Zo) (by omega:j<=ef+1)
  clear Fr AF el hQ hX
  have EX:dD X dX (λe=>e=ef) ef (.slice ef 0 2 2) 1 (ih [[114,101,116,117,114,110,115],[40]]):=FG (br:=[[.str [114,101,116,117,114,110,115]],[.str [40]]]) (st:= .own) Ep rfl Zs Zd rfl
  have bt:∃Bw,sG [[114,101,116,117,114,110,115],[40]] hc (aT.drop pM)=some Bw/\andThen (some Bw) (λ(_:Tok) k=>andThen (jh n false [] k) λout k=>andThen (eC [41] k) λ_ k=>
   ir [118,97,114] k λe k=>andThen (match e with
    |some _=>andThen (jh n true [] k) λds k=>andThen (eC [59] k) λ_ k=>ok ds k
    |none=>ok [] k) λloc k=>
   andThen (eC [108,101,116] k) λ_ k=>andThen (l8 n [] k) λcN k=>ok (⟨x.text,x.at_,ez,out,loc,cN⟩:Go.aR.Node) k)=some r:=by
   rw[aBX]
   rcases gu V with ⟨F,I,rfl⟩|⟨ba,ei,I,V⟩
   ·exact⟨.error F,by rw[I];rfl,rfl⟩
   ·rcases gu V with ⟨F,J,rfl⟩|⟨cj,c4,J,V⟩
    ·exact⟨.error F,by rw[I];exact J,rfl⟩
    ·exact⟨.ok (cj,c4),by rw[I];exact J,V⟩
  clear V
  obtain⟨Bw,bt,V⟩:=bt
  refine(aih aw tR.a2 tR.par tR.bM tR.ht tR.g8 tR.many Zo Zo EX bt).mono ?_ (λac T an a=>by
   obtain⟨F,rfl,rfl,a⟩:=a
   simp only[andThen,Zf]at V
   subst V
   exact⟨F,rfl,rfl,gG.trans a⟩)
  rintro v9 ee jo ⟨vk,i9,rfl,_,m0,hf⟩
  change andThen (jh n false [] (aT.drop i9)) _=some r at V
  have uP:=hf.le
  have L0:=Iu.fr hf Zo
  have x6:Y X ee j=zu [.str [], .Z 0, .aV, .aV, .aV, .aV] 6:=by rw[hf.ab _ Zo (by simp;omega)];exact N7
  have Ct:=gG.trans hf
  have VS:=ay.go m0 Ct.le
  clear Iu N7 gG hf EX Ep tR bt m0
  refine ci @t0 ⟨?_⟩
  rcases gu V with ⟨F,J,rfl⟩|⟨out,aEa,J,V⟩
  ·exact(GO aw jn VS J).mono (λac T an a=>by obtain⟨E,cD,b,a,_⟩:=a;cases a) (λac T an a=>a.of Ct (λ_ a=>by cases a;rfl))
  refine(GO aw jn VS J).mono ?_ (λac T an a=>by obtain⟨F,a,_⟩:=a;cases a)
  clear J
  rintro vg xH LU ⟨out,Pt,abk,TK,Us,HB,uG⟩
  cases TK
  have aC5:=uG.le
  have VC:=L0.fr uG Zo
  have acZ:Y X xH j=zu [.str [], .Z 0, .aV, .aV, .aV, .aV] 6:=by rw[uG.ab _ Zo (by simp;omega)];exact x6
  have adn:=Ct.trans uG
  obtain⟨gS,nb,sz⟩:=k0 Us.len
  have aDr:=L0.lt
  refine ci @t4 ⟨?_⟩
  refine fw (t2 (U:=3) VC.nw Zo Zo gS nb) ?_
  refine ci @t0 ⟨?_⟩
  refine fh (λrV=>Y X rV LU=zu [.str [41]] 1/\Y X rV (bf+1)=zu [.str x.text, .Z x.at_,dj,vg, .aV, .aV] 6/\∀e,e<LU->e≠bf+1->Y X rV e=Y X xH e) ⟨bg Zo,by rw[aI Zo Zo,bg Zo];rfl,λe I J=>zw⟩ ?_
  rintro rV ⟨S0,G0,E9⟩
  have K5:=HB.ab (E9 _ Zo Zo) (E9 _ Zo Zo)
  have x9:ca X [aK] h j rV (LU+1):=⟨Zo,λb aj bZ=>by rw[E9 b Zo Zo];exact adn.ab b aj bZ⟩
  have agv:ue X rV (LU+1) (bf+1) x.text x.at_ dj vg .aV ez out []:=by
   obtain⟨JK,wk⟩:=VC.eL
   exact⟨G0,Zo,⟨JK,(wk.ab (λe z=>E9 e z.2 (zq z.1))).lift (λe z=>⟨z.1,zq z.2⟩)⟩,⟨abk,(Us.ab (λe z=>E9 e z.2 (zq z.1))).lift (λe z=>⟨zq z.1,zq z.2⟩)⟩,⟨0,dD.nil _ _⟩⟩
  have ac0:Y X rV j=zu [.str [], .Z 0, .aV, .aV, .aV, .aV] 6:=by rw[E9 _ Zo Zo];exact acZ
  clear L0 VC x6 acZ Ct uG adn Us HB E9 G0 VS
  rcases gu V with ⟨F,aB,rfl⟩|⟨aEL,aEc,aB,V⟩
  ·exact(jK aw (ay.go K5 Zo) Zo Zo S0 aB).mono (λac T an a=>by obtain⟨E,cD,a,_⟩:=a;cases a) (λac T an a=>a.of x9 (λ_ a=>by cases a;rfl))
  refine(jK aw (ay.go K5 Zo) Zo Zo S0 aB).mono ?_ (λac T an a=>by obtain⟨F,a,_⟩:=a;cases a)
  clear aB
  rintro aEG amD aEk ⟨aEM,afl,asL,_,aeJ,Kr⟩
  cases asL
  have T2:=Kr.le
  have VD:=agv.fr Kr Zo
  have ac1:Y X amD j=zu [.str [], .Z 0, .aV, .aV, .aV, .aV] 6:=by rw[Kr.ab _ Zo (by simp;omega)];exact ac0
  have Tc:=x9.trans Kr
  have ag2:=ay.go aeJ Tc.le
  clear agv ac0 x9 Kr K5 S0 aeJ
  refine ci @t0 ⟨?_⟩
  obtain⟨e,aEd,adS,afg⟩:=rJ V
  refine(oj aw ag2 adS _).Zm ?_
  rintro aEE aaL VA ⟨rfl,CI,Ks⟩
  have aC7:=Ks.le
  have PS:=VD.fr Ks Zo
  have N3:Y X aaL j=zu [.str [], .Z 0, .aV, .aV, .aV, .aV] 6:=by rw[Ks.ab _ Zo (by simp;omega)];exact ac1
  have Of:=Tc.trans Ks
  have aDm:=VD.lt
  clear VD ac1 Tc Ks ag2 V
  refine r7 cd.eq_1 ⟨?_⟩
  refine kt (λH T aU=>∃(aW:D) (loc:List fo) (cD:Nat),H.g 0=some (.ptr aK 0)/\H.g 2=some (.ptr j 0)/\H.g 4=some (.ptr (bf+1) 0)/\ue X T aU (bf+1) x.text x.at_ dj vg aW ez out loc/\Y X T j=zu [.str [], .Z 0, .aV, .aV, .aV, .aV] 6/\aR X T aK bP aT cD/\ca X [aK] h j T aU/\
   (andThen (eC [108,101,116] (aT.drop cD)) λ_ k=>andThen (l8 n [] k) λcN k=>ok (⟨x.text,x.at_,ez,out,loc,cN⟩:Go.aR.Node) k)=some r) (λW bK=> ?_) ?_
  ·rcases afg with ⟨aF,V⟩|⟨aF,V⟩
   ·rw[aF]at CI ⊢
    simp only[ZC]at CI ⊢
    rw[<-(fN adS).2]at V
    simp only[]at V
    refine cT cd.eq_1 @t0 ⟨?_⟩
    refine fh (λJv=>bo X aaL VA Jv (VA+1)) dM ?_
    intro Jv Km
    have LZ:=PS.fr (ca.of (X:=[aK]) Km) Zo
    have N4:Y X Jv j=zu [.str [], .Z 0, .aV, .aV, .aV, .aV] 6:=by rw[Km.ab _ Zo];exact N3
    have Kt:=Of.trans (ca.of Km)
    have ayO:=ay.go (CI.ex Km Zo Zo) (by omega:j<=VA+1)
    clear PS N3 Of CI Km
    have OF:∃rd,jh n true [] (aT.drop (afl+1))=some rd/\(match rd with
     | .error F=>r= .error F
     | .ok (ds,k)=>∃Bw,eC [59] k=some Bw/\(match Bw with
       | .error F=>r= .error F
       | .ok (_,k)=>(andThen (eC [108,101,116] k) λ_ k=>andThen (l8 n [] k) λcN k=>ok (⟨x.text,x.at_,ez,out,ds,cN⟩:Go.aR.Node) k)=some r)):=by
     rcases gu V with ⟨F,aN,rfl⟩|⟨loc,awM,aN,V⟩
     ·rcases gu aN with ⟨fV,J,am⟩|⟨ds,o0,J,aN⟩
      ·cases am;exact⟨_,J,rfl⟩
      ·rcases gu aN with ⟨fV,aB,bk⟩|⟨vk,tH,aB,aN⟩
       ·cases bk;exact⟨_,J,_,aB,rfl⟩
       ·cases aN
     ·rcases gu aN with ⟨fV,J,am⟩|⟨ds,o0,J,aN⟩
      ·cases am
      ·rcases gu aN with ⟨fV,aB,bk⟩|⟨vk,tH,aB,aN⟩
       ·cases bk
       ·cases aN;exact⟨_,J,_,aB,V⟩
    obtain⟨rd,J,aeW⟩:=OF
    refine(GO aw jn ayO J).mono ?_ (λac T an a=>by
     obtain⟨F,rfl,rfl,a⟩:=a
     subst aeW
     exact⟨F,rfl,rfl,Kt.trans a⟩)
    rintro WD M1 PQ ⟨ds,aDZ,anF,rfl,aeU,atZ,Cr⟩
    obtain⟨Bw,aB,EZ⟩:=aeW
    have aC8:=Cr.le
    have It:=LZ.fr Cr Zo
    have N5:Y X M1 j=zu [.str [], .Z 0, .aV, .aV, .aV, .aV] 6:=by rw[Cr.ab _ Zo (by simp;omega)];exact N4
    have arO:=Kt.trans Cr
    obtain⟨fG,hD,yK⟩:=k0 aeU.len
    refine ci @t4 ⟨?_⟩
    refine fw (t2 (U:=4) It.nw Zo Zo fG hD) ?_
    refine ci @t0 ⟨?_⟩
    refine fh (λrV=>Y X rV PQ=zu [.str [59]] 1/\Y X rV (bf+1)=zu [.str x.text, .Z x.at_,dj,vg,WD, .aV] 6/\∀e,e<PQ->e≠bf+1->Y X rV e=Y X M1 e) ⟨bg Zo,by rw[aI Zo Zo,bg Zo];rfl,λe I J=>zw⟩ ?_
    rintro DO ⟨ard,aqL,Fa⟩
    have O5:=atZ.ab (Fa _ Zo Zo) (Fa _ Zo Zo)
    have Cs:ca X [aK] h j DO (PQ+1):=⟨Zo,λb aj bZ=>by rw[Fa b Zo Zo];exact arO.ab b aj bZ⟩
    have Fq:ue X DO (PQ+1) (bf+1) x.text x.at_ dj vg WD ez out ds:=by
     obtain⟨JK,wk⟩:=It.eL
     obtain⟨RQ,jE⟩:=It.e7
     exact⟨aqL,Zo,⟨JK,(wk.ab (λe z=>Fa e z.2 (zq z.1))).lift (λe z=>⟨z.1,zq z.2⟩)⟩,⟨RQ,(jE.ab (λe z=>Fa e z.2 (zq z.1))).lift (λe z=>⟨z.1,zq z.2⟩)⟩,⟨anF,(aeU.ab (λe z=>Fa e z.2 (zq z.1))).lift (λe z=>⟨zq z.1,zq z.2⟩)⟩⟩
    have N6:Y X DO j=zu [.str [], .Z 0, .aV, .aV, .aV, .aV] 6:=by rw[Fa _ Zo Zo];exact N5
    refine(jK aw (ay.go O5 Zo) Zo Zo ard aB).mono ?_ (λac T an a=>by
     obtain⟨F,rfl,rfl,a⟩:=a
     subst EZ
     exact⟨F,rfl,rfl,Cs.trans a⟩)
    rintro aEI Jw LV ⟨aEP,CR,rfl,_,Um,Hb⟩
    exact bK _ _ _ ⟨WD,ds,CR,a7 t0,a7 dQ,a7 t4,Fq.fr Hb Zo,by rw[Hb.ab _ Zo (by simp;omega)];exact N6,Um,Cs.trans Hb,EZ⟩
   ·rw[aF]at CI ⊢
    simp only[Zw,ZA]at CI ⊢
    simp only[andThen,ok]at V
    refine cT cd.eq_1 hc.eq_1 ⟨?_⟩
    refine bK _ _ _ ⟨.aV,[],afl,a7 t0,a7 dQ,a7 t4,PS.ab (λe I J=>zw) Zo,by simp(disch:=omega) only[aI];exact N3,CI.ab (zw) (zw), ?_,V⟩
    exact⟨Zo,λb aj bZ=>by rw[<-Of.ab b aj bZ];exact zw⟩
  ·clear afg CI PS N3 Of t0 dQ t4
   rintro H Jv PP ⟨aW,loc,aDY,t0,dQ,t4,LZ,N4,aeK,Kt,V⟩
   have aDn:=LZ.lt
   refine ci @t0 ⟨?_⟩
   refine fh (λdX=>Y X dX PP=zu [.str [108,101,116]] 1/\bo X Jv PP dX (PP+1)) ⟨bg Zo,dM⟩ ?_
   rintro M1 ⟨S1,Ev⟩
   have It:=LZ.fr (ca.of (X:=[aK]) Ev) Zo
   have N5:Y X M1 j=zu [.str [], .Z 0, .aV, .aV, .aV, .aV] 6:=by rw[Ev.ab _ Zo];exact N4
   have Cr:=Kt.trans (ca.of Ev)
   have VR:=ay.go (aeK.ex Ev Zo Zo) (by omega:j<=PP+1)
   clear LZ N4 Kt aeK Ev
   rcases gu V with ⟨F,aB,rfl⟩|⟨aEN,aEe,aB,V⟩
   ·exact(jK aw VR Zo Zo S1 aB).mono (λac T an a=>by obtain⟨E,cD,a,_⟩:=a;cases a) (λac T an a=>a.of Cr (λ_ a=>by cases a;rfl))
   refine(jK aw VR Zo Zo S1 aB).mono ?_ (λac T an a=>by obtain⟨F,a,_⟩:=a;cases a)
   clear aB
   rintro aEH DO dK ⟨aEO,i16,asM,_,O5,Cs⟩
   cases asM
   have aC9:=Cs.le
   have Fq:=It.fr Cs Zo
   have N6:Y X DO j=zu [.str [], .Z 0, .aV, .aV, .aV, .aV] 6:=by rw[Cs.ab _ Zo (by simp;omega)];exact N5
   have ado:=Cr.trans Cs
   have aDo:=Fq.lt
   clear It N5 Cr Cs VR S1
   obtain⟨JK,wk⟩:=Fq.eL
   obtain⟨RQ,jE⟩:=Fq.e7
   obtain⟨xQ,HI⟩:=Fq.hE
   obtain⟨xb,I5,BE⟩:=k0 wk.len
   obtain⟨lf,mM,WF⟩:=k0 jE.len
   obtain⟨f1,fD,z3⟩:=k0 HI.len
   refine gZ ?_
   refine fK (λm H T aU=>∃(eP:D) (cN:List fc) (br:List (List D)) (cJ:List Nat) (cD:Nat),H.g 0=some (.ptr aK 0)/\H.g 2=some (.ptr j 0)/\H.g 4=some (.ptr (bf+1) 0)/\Y X T (bf+1)=zu [.str x.text, .Z x.at_,dj,vg,aW,eP] 6/\
    (∀e,bf+2<=e->e<dK->Y X T e=Y X DO e)/\gB X T eP 4 br.flatten cJ/\(∀e∈cJ,dK<=e/\e<aU)/\mP X T (wV dK aU cJ) cN br/\Y X T j=zu [.str [], .Z 0, .aV, .aV, .aV, .aV] 6/\aR X T aK bP aT cD/\ca X [aK] h j T aU/\dK<=aU/\cN.length+m<=n/\
    (andThen (l8 m cN (aT.drop cD)) λcN k=>ok (⟨x.text,x.at_,ez,out,loc,cN⟩:Go.aR.Node) k)=some r)
    n ⟨.aV,[],[],[],i16,t0,dQ,t4,Fq.nw,λ_ _ _=>rfl, .inl (.inl ⟨rfl,rfl,rfl⟩),Zs,rfl,N6,O5,ado,Zi _,Zs,V⟩ ?_
   clear V O5 N6 ado t0 dQ t4
   rintro m H Jw LV ⟨eP,cN,br,cJ,CR,t0,dQ,t4,SL,afJ,Pg,ye,O8,ac2,Um,Hb,aDa,aDt,V⟩
   cases m with
   |zero=>simp[l8,andThen]at V
   |succ m=>
   unfold l8 at V
   have ayP:=ay.go Um Hb.le
   refine gZ ?_
   refine ci @t0 ⟨?_⟩
   have HJ:∃e k,aT.drop CR=e::k/\((g9 e [116,101,108]=true/\ok (⟨x.text,x.at_,ez,out,loc,cN⟩:Go.aR.Node) k=some r)\/(g9 e [116,101,108]=false/\(andThen (andThen (vH m (aT.drop CR)) λah k=>l8 m (cN++[ah]) k) λcN k=>ok (⟨x.text,x.at_,ez,out,loc,cN⟩:Go.aR.Node) k)=some r)):=by
    rcases gu V with ⟨F,I,rfl⟩|⟨ahf,bV,I,V⟩
    ·obtain⟨e,k,J,am⟩:=rJ I
     rcases am with ⟨am,aB⟩|⟨am,aB⟩
     ·cases aB
     ·exact⟨e,k,J, .inr ⟨am,by rw[show(andThen (vH m (aT.drop CR)) λah k=>l8 m (cN++[ah]) k)=some (.error F) from aB];rfl⟩⟩
    ·obtain⟨e,k,J,am⟩:=rJ I
     rcases am with ⟨am,aB⟩|⟨am,aB⟩
     ·cases aB
      exact⟨e,_,J, .inl ⟨am,V⟩⟩
     ·exact⟨e,k,J, .inr ⟨am,by rw[show(andThen (vH m (aT.drop CR)) λah k=>l8 m (cN++[ah]) k)=some (.ok (ahf,bV)) from aB];exact V⟩⟩
   clear V
   obtain⟨e,aEf,adT,ave⟩:=HJ
   refine(oj aw ayP adT _).Zm ?_
   rintro aEF DP wL ⟨rfl,wh,Td⟩
   have aDb:=Td.le
   have LA:∀e,j<=e->e<LV->Y X DP e=Y X Jw e:=λe I J=>Td.ab e J (by simp;omega)
   have adp:=Hb.trans Td
   rcases ave with ⟨aF,V⟩|⟨aF,V⟩
   ·rw[aF]at wh ⊢
    simp only[ZC]at wh ⊢
    simp only[ok,Zf]at V
    subst V
    obtain⟨bF,cn,eU⟩:=gB.one Pg
    have SM:Y X DP (bf+1)=zu [.str x.text, .Z x.at_,dj,vg,aW,eP] 6:=by rw[LA _ Zo Zo];exact SL
    have aq5:Y X DP j=zu [.str [], .Z 0, .aV, .aV, .aV, .aV] 6:=by rw[LA _ Zo Zo];exact ac2
    refine gx cd.eq_1 @t4 (bO SM) @dQ ⟨?_⟩
    refine fw (hF (q:=6) (b:=j) (U:=0) (n:=6) (c:=K.ofList [.str [], .Z 0, .aV, .aV, .aV, .aV] 0 .nil) (by simp(disch:=omega) only[aI];exact aq5) Zo rfl Zd Zd (by simp[D.cells,jH,I5,mM,fD,cn,show qJ (.Z x.at_)=true from rfl,show qJ (.str x.text)=true from rfl])) ?_
    refine ci @dQ ⟨?_⟩
    have Fe:∀gA,(∀e,j<e->e<wL->Y X gA e=Y X DP e)->∀e,j<e->e<LV->Y X gA e=Y X Jw e:=λgA a e I J=>by rw[a e I Zo,LA e Zo J]
    generalize adA:bn X _ j _=gA
    have Py:∀e,e≠j->e<wL->Y X gA e=Y X DP e:=λe I J=>by rw[<-adA];exact zw
    clear adA
    have UX:=Fe gA (λe I J=>Py e Zo J)
    have A2:=O8.wide
    obtain⟨anJ,Pb⟩:=(Pg.ab (T:=gA) (λe z=>UX e (zq (ye e z)) (ye e z).2)).tT Zd A2.2 (by rw[A2.1];omega) (P:=cQ j (wL+1)) (λe z=>by have:=ye e z;exact⟨Zo,Zo⟩)
    have cP:∀e,cQ (bf+1+1) dK e->Y X gA e=Y X DO e:=λe z=>by
     have I:=z.1;have J:=z.2
     rw[UX e Zo Zo];exact afJ e Zo J
    have fa:∀e,cQ (bf+1+1) dK e->cQ j (wL+1) e:=λe z=>⟨zq z.1,zq z.2⟩
    refine⟨_,CR+1,_,by rw[(fN adT).2],rfl,⟨dj,vg,aW,eP,JK,RQ,xQ,anJ,br,rfl,(wk.ab cP).lift fa,(jE.ab cP).lift fa,(HI.ab cP).lift fa,Pb, ?_⟩, ?_, ?_⟩
    ·exact O8.ab (λe z=>UX e (zq z.1) z.2.1) (λe z=>⟨zq z.1,zq z.2.1⟩)
    ·exact wh.ab (Py _ Zo Zo) (Py _ Zo Zo)
    ·exact⟨Zo,λb aj bZ=>by rw[Py b Zo Zo];exact adp.ab b aj bZ⟩
   ·rw[aF]at wh ⊢
    simp only[Zw,ZA]at wh ⊢
    obtain⟨bF,cn,eU⟩:=gB.one Pg
    have SM:Y X DP (bf+1)=zu [.str x.text, .Z x.at_,dj,vg,aW,eP] 6:=by rw[LA _ Zo Zo];exact SL
    refine gg cd.eq_1 hc.eq_1 @t4 (bO SM) @t0 ⟨?_⟩
    refine fh (λRt=>bo X DP wL Rt (wL+1+8)) dM ?_
    intro Rt S8
    have av0:∀e,j<=e->e<LV->Y X Rt e=Y X Jw e:=λe I J=>by rw[S8.ab e Zo];exact LA e I J
    have adq:=adp.trans (ca.of S8)
    have ayQ:=ay.go (wh.ex S8 Zo Zo) (by omega:j<=wL+1+8)
    have Pc:∃Dr,vH m (aT.drop CR)=some Dr/\(match Dr with
     | .error F=>r= .error F
     | .ok (ah,k)=>(andThen (l8 m (cN++[ah]) k) λcN k=>ok (⟨x.text,x.at_,ez,out,loc,cN⟩:Go.aR.Node) k)=some r):=by
     rcases gu V with ⟨F,I,rfl⟩|⟨ahf,bV,I,V⟩
     ·rcases gu I with ⟨fV,J,am⟩|⟨ah,k,J,am⟩
      ·cases am;exact⟨_,J,rfl⟩
      ·exact⟨_,J,by show andThen _ _=_;rw[am];rfl⟩
     ·rcases gu I with ⟨fV,J,am⟩|⟨ah,k,J,am⟩
      ·cases am
      ·exact⟨_,J,by show andThen _ _=_;rw[am];exact V⟩
    obtain⟨Dr,I,hg⟩:=Pc
    refine(apC aw eN Zo ayQ I).mono ?_ (λac T an a=>by
     obtain⟨F,rfl,rfl,a⟩:=a
     subst hg
     exact⟨F,rfl,rfl,adq.trans a⟩)
    rintro WE Jx agm ⟨ah,avs,row,rfl,rfl,Uv,at0,Te⟩
    have aDc:=Te.le
    have arP:=adq.trans Te
    have LB:∀e,j<=e->e<LV->Y X Jx e=Y X Jw e:=λe I J=>by rw[Te.ab e Zo (by simp;omega)];exact av0 e I J
    have acQ:Y X Jx (bf+1)=zu [.str x.text, .Z x.at_,dj,vg,aW,eP] 6:=by rw[LB _ Zo Zo];exact SL
    have auC:=Uv.len
    obtain⟨jI,eL,e7,hE,rfl⟩:∃jI eL e7 hE,row=[jI,eL,e7,hE]:=by
     match row,auC with
     |[F,b,c,d],_=>exact⟨F,b,c,d,rfl⟩
    have ys:jH [jI,eL,e7,hE]=true:=by obtain⟨_,_,_,_,_,I,_,_,_,bk⟩:=Uv;exact bk
    refine ci (bO acQ) ⟨?_⟩
    refine g2 eU ?_
    have ks:lA X (bn X Jx (wL+1+4) (zu [jI,eL,e7,hE] 4)) 4 (.slice (wL+1+4) 0 1 1)=some (1,[jI,eL,e7,hE]):=sD (bg Zo) (n8 _) rfl _
    have A2:=O8.wide
    have pC:=x1 A2.2
    obtain⟨ahz,Gj,gC,ix,ae0,Oz,ato⟩:=(Pg.ab (T:=bn X Jx (wL+1+4) (zu [jI,eL,e7,hE] 4)) (λe z=>by have:=ye e z;rw[aI Zo Zo];exact LB e Zo Zo)).append (j:=agm) Zd ks rfl Zd ys (by rw[pC,A2.1];simp only[ZD,ZT];omega) Zo (λe z=>zq (ye e z))
    refine kN ix ?_
    obtain⟨eM,eV,iZ⟩:=kS.one ae0
    have m5:∀e,e<agm->e≠wL+1+4->e∉cJ->Y X Gj e=Y X Jx e:=λe I J am=>by rw[ato e Zo am,aI Zo J]
    have dV:∀e,e<dK->e∉cJ:=λe I J=>zq (ye e J)
    have aqN:Y X Gj (bf+1)=zu [.str x.text, .Z x.at_,dj,vg,aW,eP] 6:=by rw[m5 _ Zo Zo (dV _ Zo)];exact acQ
    refine ci @t4 ⟨?_⟩
    refine fw (t2 (U:=5) aqN Zo Zo eM eV) ?_
    have nB:∀e,e≠bf+1->∀cY,Y X (bn X Gj (bf+1) cY) e=Y X Gj e:=λe a cY=>aI Zo a
    refine⟨m,Zo,ahz,cN++[ah],br++[[jI,eL,e7,hE]],gC,avs,a7 t0,a7 dQ,a7 t4,by rw[bg Zo];rfl, ?_, .inl ?_, ?_, ?_, ?_, ?_, ?_,Zo,by simp;omega,hg⟩
    ·intro e I J
     rw[nB e Zo,m5 e Zo Zo (dV e J),LB e Zo Zo]
     exact afJ e I J
    ·rw[zg,Yt,List.flatten_nil,Yx]
     exact ae0.ab λe z=>nB e (by rcases Oz e z with rfl|a;omega;have:=ye e a;omega) _
    ·intro e z
     rcases Oz e z with rfl|a
     ·omega
     ·have:=ye e a;omega
    ·refine mP.snoc (Uv.ab (λe z=> ?_) (λe z=>z)) (O8.ab (λe z=> ?_) (λe z=>z)) (λe z=> ?_) (λe z=>⟨?_,λpL=>by have:=z.1;have:=pL.2.1;omega⟩)
     ·have I:=z.1;have J:=z.2
      rw[nB e Zo,m5 e Zo Zo (λa=>zq (ye e a))]
     ·have I:=z.1;have J:=z.2.1
      rw[nB e Zo,m5 e Zo Zo z.2.2,LB e Zo Zo]
     ·have I:=z.1;have J:=z.2.1
      refine⟨I,Zo,λa=> ?_⟩
      rcases Oz e a with rfl|a
      ·omega
      ·exact z.2.2 a
     ·have I:=z.1;have J:=z.2
      refine⟨Zo,Zo,λa=> ?_⟩
      rcases Oz e a with rfl|a
      ·omega
      ·have:=ye e a;omega
    ·rw[nB _ Zo,m5 _ Zo Zo (dV _ Zo),LB _ Zo Zo];exact ac2
    ·exact at0.ab (by rw[nB _ Zo,m5 _ Zo Zo (dV _ Zo)]) (by rw[nB _ Zo,m5 _ Zo Zo (dV _ Zo)])
    ·exact⟨Zo,λb aj bZ=>by rw[nB b Zo,m5 b Zo Zo (dV b Zo)];exact arP.ab b aj bZ⟩
end
def lX(X:cb)(h:K ag):(Nat->Prop)->List Go.aR.Node->List (List D)->Prop
 |_,[],br=>br=[]
 |P,ah::cN,br=>∃row gz bm,br=row::gz/\(∀e,bm e->P e)/\pn X h bm ah row/\lX X h (λe=>P e/\¬bm e) cN gz
def pn.ab{X:cb}{h T:K ag}{P bm:Nat->Prop}{g:Go.aR.Node}{row:List D}(a:pn X h P g row)(q:∀e,P e->Y X T e=Y X h e)(az:∀e,P e->bm e):pn X T bm g row:=by
 obtain⟨dj,dG,aW,eP,bQ,cf,cM,ew,br,E,I,J,am,aB,bk⟩:=a
 exact⟨dj,dG,aW,eP,bQ,cf,cM,ew,br,E,(I.ab q).lift az,(J.ab q).lift az,(am.ab q).lift az,(aB.ab q).lift az,bk.ab q az⟩
def pn.len{X:cb}{h:K ag}{P:Nat->Prop}{g:Go.aR.Node}{row:List D}(a:pn X h P g row):row.length=6:=by
 obtain⟨dj,dG,aW,eP,bQ,cf,cM,ew,br,E,_⟩:=a
 subst E;rfl
def lX.ab{X:cb}{h T:K ag}:∀{cN:List Go.aR.Node}{br:List (List D)}{P bm:Nat->Prop}(q:∀e,P e->Y X T e=Y X h e) (az:∀e,P e->bm e),lX X h P cN br->lX X T bm cN br:=by
 intro cN
 induction cN with
 |nil=>intro br P bm q az a;exact a
 |cons ah cN al=>
  rintro br P bm q az ⟨row,gz,eE,I,bL,J,am⟩
  exact⟨row,gz,eE,I,λe z=>az e (bL e z),J.ab (λe z=>q e (bL e z)) (λe z=>z),al (λe z=>q e z.1) (λe z=>⟨az e z.1,z.2⟩) am⟩
def lX.snoc{X:cb}{h:K ag}{bm:Nat->Prop}{ah:Go.aR.Node}{row:List D}(a:pn X h bm ah row):∀{cN:List Go.aR.Node}{br:List (List D)}{es P:Nat->Prop},lX X h es cN br->(∀e,es e->P e)->(∀e,bm e->P e/\¬es e)->lX X h P (cN++[ah]) (br++[row]):=by
 intro cN
 induction cN with
 |nil=>rintro br es P rfl I J;exact⟨row,[],bm,rfl,λe z=>(J e z).1,a,rfl⟩
 |cons F cN al=>
  rintro br es P ⟨rF,gz,eE,rfl,bL,am,aB⟩ I J
  exact⟨rF,gz++[row],eE,rfl,λe z=>I e (bL e z),am,al aB (λe z=>⟨I e z.1,z.2⟩) (λe z=>⟨⟨(J e z).1,λgO=>(J e z).2 (bL e gO)⟩,λpL=>(J e z).2 pL.1⟩)⟩
def lX.wide{X:cb}{h:K ag}:∀{cN:List Go.aR.Node}{br:List (List D)}{P:Nat->Prop},lX X h P cN br->br.length=cN.length/\∀r∈br,r.length=6:=by
 intro cN
 induction cN with
 |nil=>rintro br P rfl;simp
 |cons F cN al=>
  rintro br P ⟨rF,gz,eE,rfl,bL,J,am⟩
  obtain⟨aB,bk⟩:=al am
  refine⟨by simp[aB],λr V=> ?_⟩
  rcases Zr.1 V with rfl|V
  ·exact J.len
  ·exact bk r V
def lX.get{X:cb}{h:K ag}:∀{cN:List Go.aR.Node}{br:List (List D)}{P:Nat->Prop},lX X h P cN br->∀(i:Nat) g,cN[i]? =some g->∃row,br[i]? =some row/\pn X h P g row:=by
 intro cN
 induction cN with
 |nil=>intro br P _ i g a;simp at a
 |cons F cN al=>
  rintro br P ⟨rF,gz,eE,rfl,bL,J,am⟩ i g a
  cases i with
  |zero=>simp at a;subst a;exact⟨rF,rfl,J.ab (λ_ _=>rfl) bL⟩
  |succ i=>simp at a;obtain⟨row,aB,bk⟩:=al am i g a;exact⟨row,by simpa using aB,bk.ab (λ_ _=>rfl) (λe z=>z.1)⟩
def mP.get{X:cb}{h:K ag}:∀{cN:List fc}{br:List (List D)}{P:Nat->Prop},mP X h P cN br->∀(i:Nat) g,cN[i]? =some g->∃row,br[i]? =some row/\xA X h P g row:=by
 intro cN
 induction cN with
 |nil=>intro br P _ i g a;simp at a
 |cons F cN al=>
  rintro br P ⟨rF,gz,eE,rfl,bL,J,am⟩ i g a
  cases i with
  |zero=>simp at a;subst a;exact⟨rF,rfl,J.ab (λ_ _=>rfl) bL⟩
  |succ i=>simp at a;obtain⟨row,aB,bk⟩:=al am i g a;exact⟨row,by simpa using aB,bk.ab (λ_ _=>rfl) (λe z=>z.1)⟩
def pn.jH{X:cb}{h:K ag}{P:Nat->Prop}{g:Go.aR.Node}{row:List D}(a:pn X h P g row):Go.bd.jH row=true:=by
 obtain⟨dj,dG,aW,eP,bQ,cf,cM,ew,br,rfl,I,J,am,aB,_⟩:=a
 simp[Go.bd.jH,(k0 I.len).2.1,(k0 J.len).2.1,(k0 am.len).2.1,(k0 aB.len).2.1,show qJ (.Z g.at_)=true from rfl,show qJ (.str g.name)=true from rfl]
def nQ(X:cb)(h:K ag)(P:Nat->Prop)(ai:List Go.aR.Node)(v:D):Prop:=∃b aW cp br,v= .ptr b 0/\P b/\aO X h (.ptr b 0)=some aW/\dD X h P cp aW 6 br/\lX X h P ai br
def nQ.ab{X:cb}{h T:K ag}{P bm:Nat->Prop}{ai:List Go.aR.Node}{v:D}(a:nQ X h P ai v)(q:∀e,P e->Y X T e=Y X h e)(az:∀e,P e->bm e):nQ X T bm ai v:=by
 obtain⟨b,aW,cp,br,rfl,I,J,am,aB⟩:=a
 exact⟨b,aW,cp,br,rfl,az _ I,zB (q _ I) J,(am.ab q).lift az,aB.ab q az⟩
section
variable{X:cb}{h T aP aM:K ag}{j an aG a1 aK bP:Nat}{aT:List Tok}{i:Nat}
def ayU(aw:du X)(eN:xC X){n:Nat}(ts:n<=170000)(jn:aT.length<=100000)(ay:iJ X h j aK bP aT i){r:Except Int (List Go.aR.Node×List Tok)}(V:p1 n [] (aT.drop i)=some r):
 aY X 68 [.ptr aK 0] h j (λac T an=>∃ai cD,r= .ok (ai,aT.drop cD)/\nQ X T (cQ j an) ai ac/\aR X T aK bP aT cD/\ca X [aK] h j T an) (iY X aK h j r):=by
 refine zx aw (amh X) ?_
 rw[ami]
 unfold aax
 have gP:=ay.a2
 have iQ:=ay.ht
 have h9:=ay.bM
 have jT:=ay.g8
 refine cK ⟨?_⟩
 have acY:Y X (bn X h j (zu [.aV] 1)) j=zu [.aV] 1:=bg Zo
 have bN:bo X h j (bn X h j (zu [.aV] 1)) (j+1):=dM
 refine fK (λm H T aU=>∃(aW:D) (ai:List Go.aR.Node) (br:List (List D)) (cJ:List Nat) (cD:Nat) (c:Bool),H.g 0=some (.ptr aK 0)/\H.g 3=some (.ptr j 0)/\H.g 4=some (.bool c)/\Y X T j=zu [aW] 1/\gB X T aW 6 br.flatten cJ/\(∀e∈cJ,j+1<=e/\e<aU)/\lX X T (wV (j+1) aU cJ) ai br/\aR X T aK bP aT cD/\ca X [aK] h j T aU/\j+1<=aU/\ai.length+m<=n/\
  (if c then p1 m ai (aT.drop cD)=some r else r= .ok (ai,aT.drop cD)))
  n ⟨.aV,[],[],[],i,true,bw,bw,bw,acY, .inl (.inl ⟨rfl,rfl,rfl⟩),Zs,rfl,ay.par.ex bN Zo Zo,ca.of bN,Zi _,Zs,V⟩ ?_
 clear V acY bN
 rintro m H aM a1 ⟨aW,ai,br,cJ,fe,c,t0,t3,t4,vO,wl,n2,OM,dB,dl,f7,EN,V⟩
 cases c with
 |false=>
  simp only[Zw,ZA]at V
  subst V
  refine cT @t4 @t3 ⟨?_⟩
  have yl:=OM.wide
  obtain⟨cp,cA⟩:=wl.tT Zd yl.2 (by rw[yl.1];omega) (P:=cQ j a1) (λe z=>by have:=n2 e z;exact⟨Zo,Zo⟩)
  exact⟨ai,fe,rfl,⟨j,aW,cp,br,rfl,⟨Zo,Zo⟩,by rw[bO vO];rfl,cA,OM.ab (λ_ _=>rfl) (λe z=>⟨zq z.1,z.2.1⟩)⟩,dB,dl⟩
 |true=>
  simp only[ZC]at V
  cases m with
  |zero=>simp[p1]at V
  |succ m=>
  unfold p1 at V
  have fP:=ay.go dB dl.le
  obtain⟨bF,cn,eU⟩:=gB.one wl
  have mC:aO X aM (.ptr j 0)=some aW:=by rw[bO vO];rfl
  refine gx @t4 @t3 @t0 @mC ⟨?_⟩
  have CK:∃Dr,Go.aR.node m (aT.drop fe)=some Dr/\(match Dr with
   | .error F=>r= .error F
   | .ok (ah,k)=>(match k with
     |[]=>none
     |x::_=>if x.kind=7 then ok (ai++[ah]) k else p1 m (ai++[ah]) k)=some r):=by
   rcases gu V with ⟨F,I,rfl⟩|⟨ah,bV,I,V⟩
   ·exact⟨_,I,rfl⟩
   ·exact⟨_,I,V⟩
  obtain⟨Dr,I,hg⟩:=CK
  clear V
  have nG:=fP.go (an:=a1+12) dB Zo
  refine(axP aw eN Zo jn nG I).mono ?_ (λac T an a=>by
   obtain⟨F,rfl,rfl,a⟩:=a
   subst hg
   exact⟨F,rfl,rfl,dl.trans (a.down Zo (λb aj=> .inl aj))⟩)
  rintro v3 aX bf ⟨g,i3,row,rfl,rfl,Uw,gI,dY⟩
  have ip:=dY.le
  have Hc:ca X [aK] h j aX bf:=dl.trans (dY.down Zo (λb aj=> .inl aj))
  have OV:=Uw.len
  have ys:=Uw.jH
  obtain⟨jI,eL,e7,hE,pa,mJ,rfl⟩:∃jI eL e7 hE pa mJ,row=[jI,eL,e7,hE,pa,mJ]:=by
   match row,OV with
   |[F,b,c,d,E,f],_=>exact⟨F,b,c,d,E,f,rfl⟩
  have uz:Y X aX j=zu [aW] 1:=by rw[dY.ab _ Zo (by simp;omega)];exact vO
  have cP:∀e,j<=e->e<a1->Y X aX e=Y X aM e:=λe I J=>dY.ab e Zo (by simp;omega)
  have awa:aO X aX (.ptr j 0)=some aW:=by rw[bO uz];rfl
  refine ci @awa ⟨?_⟩
  refine g2 eU ?_
  have ks:lA X (bn X aX (a1+7) (zu [jI,eL,e7,hE,pa,mJ] 6)) 6 (.slice (a1+7) 0 1 1)=some (1,[jI,eL,e7,hE,pa,mJ]):=sD (bg Zo) (n8 _) rfl _
  have yl:=OM.wide
  have pC:=x1 yl.2
  obtain⟨jJ,bC,gC,ix,tz,vV,gh⟩:=(wl.ab (T:=bn X aX (a1+7) (zu [jI,eL,e7,hE,pa,mJ] 6)) (λe z=>by have:=n2 e z;rw[aI Zo Zo];exact cP e Zo Zo)).append (j:=bf) Zd ks rfl Zd ys (by rw[pC,yl.1];simp only[ZD,ZT];omega) Zo (λe z=>zq (n2 e z))
  refine kN ix ?_
  obtain⟨eM,eV,iZ⟩:=kS.one tz
  have d0:∀e,e<bf->e≠a1+7->e∉cJ->Y X bC e=Y X aX e:=λe I J am=>by rw[gh e Zo am,aI Zo J]
  have dV:∀e,e<j+1->e∉cJ:=λe I J=>zq (n2 e J)
  have AE:Y X bC j=zu [aW] 1:=by rw[d0 _ Zo Zo (dV _ Zo)];exact uz
  refine cK ⟨?_⟩
  refine fw (t2 (U:=0) AE Zo Zo eM eV) ?_
  refine ci @t0 ⟨?_⟩
  have dU:∀e,e≠j->∀cY,Y X (bn X bC j cY) e=Y X bC e:=λe a cY=>aI Zo a
  have hm:∀cY,aR X (bn X bC j cY) aK bP aT i3:=λcY=>gI.ab (by rw[dU _ Zo,d0 _ Zo Zo (dV _ Zo)]) (by rw[dU _ Zo,d0 _ Zo Zo (dV _ Zo)])
  obtain⟨x,k,aH,A3⟩:∃x k,aT.drop i3=x::k/\(if x.kind=7 then ok (ai++[g]) (aT.drop i3)else p1 m (ai++[g]) (aT.drop i3))=some r:=by
   cases aH:aT.drop i3 with
   |nil=>rw[aH]at hg;cases hg
   |cons x k=>rw[aH]at hg;exact⟨x,k,rfl,hg⟩
  refine fh (λbW=>Y X bW j=zu [jJ] 1/\(∀e,e≠j->Y X bW e=Y X bC e)) ⟨by rw[bg Zo];rfl,λe a=>dU e a _⟩ ?_
  rintro bW ⟨G3,dU⟩
  have aeL:aR X bW aK bP aT i3:=gI.ab (by rw[dU _ Zo,d0 _ Zo Zo (dV _ Zo)]) (by rw[dU _ Zo,d0 _ Zo Zo (dV _ Zo)])
  refine(sx aw Zo aeL Zo Zo (fN aH).1).Zm ?_
  rintro ah4 b9 eB ⟨rfl,eG⟩
  have tq:=eG.le
  have dy:∀e,e≠j->e<bf+1->Y X b9 e=Y X bC e:=λe I J=>by rw[eG.ab e J,dU e I]
  have fin:∀(c1:cV) (c:Bool),c1.g 0=some (.ptr aK 0)->c1.g 3=some (.ptr j 0)->c1.g 4=some (.bool c)->(if c then p1 m (ai++[g]) (aT.drop i3)=some r else r= .ok (ai++[g],aT.drop i3))->∃gr,gr<m+1/\∃(aW:D) (ai:List Go.aR.Node) (br:List (List D)) (cJ:List Nat) (cD:Nat) (c:Bool),c1.g 0=some (.ptr aK 0)/\c1.g 3=some (.ptr j 0)/\c1.g 4=some (.bool c)/\Y X b9 j=zu [aW] 1/\gB X b9 aW 6 br.flatten cJ/\(∀e∈cJ,j+1<=e/\e<eB)/\lX X b9 (wV (j+1) eB cJ) ai br/\aR X b9 aK bP aT cD/\ca X [aK] h j b9 eB/\j+1<=eB/\ai.length+gr<=n/\
   (if c then p1 gr ai (aT.drop cD)=some r else r= .ok (ai,aT.drop cD)):=by
   intro c1 c ml d9 fQ aA
   refine⟨m,Zo,jJ,ai++[g],br++[[jI,eL,e7,hE,pa,mJ]],gC,i3,c,ml,d9,fQ,by rw[eG.ab _ Zo];exact G3, .inl ?_, ?_, ?_, ?_, ?_,Zo,by simp;omega,aA⟩
   ·rw[zg,Yt,List.flatten_nil,Yx]
    exact tz.ab λe z=>dy e (by rcases vV e z with rfl|a;omega;have:=n2 e a;omega) (by rcases vV e z with rfl|a;omega;have:=n2 e a;omega)
   ·intro e z
    rcases vV e z with rfl|a
    ·omega
    ·have:=n2 e a;omega
   ·refine lX.snoc (Uw.ab (λe z=> ?_) (λe z=>z)) (OM.ab (λe z=> ?_) (λe z=>z)) (λe z=> ?_) (λe z=>⟨?_,λpL=>by have:=z.1;have:=pL.2.1;omega⟩)
    ·have I:=z.1;have J:=z.2
     rw[dy e Zo Zo,d0 e Zo Zo (λa=>zq (n2 e a))]
    ·have I:=z.1;have J:=z.2.1
     rw[dy e Zo Zo,d0 e Zo Zo z.2.2,cP e Zo Zo]
    ·have I:=z.1;have J:=z.2.1
     refine⟨I,Zo,λa=> ?_⟩
     rcases vV e a with rfl|a
     ·omega
     ·exact z.2.2 a
    ·have I:=z.1;have J:=z.2
     refine⟨Zo,Zo,λa=> ?_⟩
     rcases vV e a with rfl|a
     ·omega
     ·have:=n2 e a;omega
   ·exact aeL.ex eG Zo Zo
   ·exact⟨Zo,λb aj bZ=>by rw[dy b Zo Zo,d0 b Zo Zo (dV b Zo)];exact Hc.ab b aj bZ⟩
  by_cases aD:x.kind=7
  ·rw[Zu aD]at A3
   simp only[ok,Zf]at A3
   have d:decide (x.kind=7)=true:=by simp[aD]
   refine cT cd.eq_1 @aD ⟨?_⟩
   exact fin _ false (a7 t0) (a7 t3) (fW) A3.symm
  ·rw[Zg aD]at A3
   have d:decide (x.kind=7)=false:=by simp[aD]
   refine cT cd.eq_1 @aD ⟨?_⟩
   exact fin _ true (a7 t0) (a7 t3) (by refine AB ⟨?_⟩;simp[aD]) A3
end
end
end Go.Proofs.YtpfajohmofnkfaaGreatDoor

