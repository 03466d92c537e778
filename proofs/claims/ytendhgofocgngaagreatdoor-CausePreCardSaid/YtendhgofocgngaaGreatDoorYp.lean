/- Part of the proof of the last text; no conditions -/
import Derived.Test.YtendhgofocgngaaGreatDoorYo
set_option maxHeartbeats 8000000
set_option linter.all false
namespace Go.Proofs.YtendhgofocgngaaGreatDoor
open Go.bn Go.aT
noncomputable section
def e8(d:eP):List z:=[.str d.name, .Z d.at_, .bool d.ty.b, .bool d.ty.s, .Z d.ty.w, .str d.on, .Z d.f7, .bool d.no]
def agI(k:List Tok):∀r∈k.map b6,r.length=7:=by
 intro r V;obtain⟨t,_,rfl⟩:=ZB.1 V;rfl
def aaA(k:List eP):∀r∈k.map e8,r.length=8:=by
 intro r V;obtain⟨t,_,rfl⟩:=ZB.1 V;rfl
def az6{s:aW}{k:List Tok}{x:Tok}{bQ:List Tok}(a:dX s k=some (.ok (x,bQ))):bQ.length+1=k.length:=by
 cases k with
 |nil=>cases a
 |cons e k=>
  simp only[dX]at a
  split at a
  ·simp only[ok,Zf,Except.ok.injEq,YT]at a
   rw[<-a.2];rfl
  ·cases a
structure Lu(X:co)(aH bM:Nat)(aO:List Tok)(j:Nat)(gn:S ai)(loc:Bool)(I:db)(h:S ai)(n:Nat)(s:z)(ds:List eP)(cw:List Nat)(i:Nat):Prop where
 t0:I.g 0=some (.ptr aH 0)
 t1:I.g 1=some (.bool loc)
 t5:I.g 5=some s
 bi:f0 X h s 8 (ds.map e8).flatten cw
 cw:∀e∈cw,j<=e/\e<n
 par:aT X h aH bM aO i
 fr:cx X [aH] gn j h n
section
variable{X:co}{h R aU aQ:S ai}{j ap aL bc aH bM:Nat}{aO:List Tok}{i:Nat}
def ani(ds:List eP):(ds.map e8).flatten.length=ds.length*8:=by rw[wb (aaA ds),Zl]
def azC(ds:List Tok):(ds.map b6).flatten.length=ds.length*7:=by rw[wb (agI ds),Zl]
def FM(az:dN X){n:Nat}(j5:aO.length<=100000)(av:iG X h j aH bM aO i){loc:Bool}{r:Except Int (List eP×List Tok)}(V:hQ n loc [] (aO.drop i)=some r):
 ba X 62 [.ptr aH 0, .bool loc] h j (λac R ap=>∃ds cC b,r= .ok (ds,aO.drop cC)/\iU X R (du j ap) b ac 8 (ds.map e8)/\aT X R aH bM aO cC/\cx X [aH] h j R ap) (iT X aH h j r):=by
 refine zJ az (ajW X) ?_
 rw[ajX]
 unfold W9
 have gL:=av.bf
 have ki:=av.hp
 have hc:=av.ck
 have jL:=av.gY
 refine gM ?_
 refine fP (λm I R aP=>∃s ds cw cC,Lu X aH bM aO j h loc I R aP s ds cw cC/\ds.length+(aO.drop cC).length<=aO.length/\hQ m loc ds (aO.drop cC)=some r)
  n ⟨.a2,[],[],i,⟨bt,bt,bt, .inl (.inl ⟨rfl,rfl,rfl⟩),Zs,av.par,cx.refl _ _ _⟩,Zs,V⟩ ?_
 clear V
 rintro m I aU aL ⟨s,ds,cw,o8,mn,JA,V⟩
 cases m with
 |zero=>simp[hQ]at V
 |succ m=>
 unfold hQ at V
 refine gM ?_
 have jn:=mn.fr.le
 refine iw (λI R aP=>∃(ci:List Tok) (vu:z) (qP:List Nat) (cC:Nat),Lu X aH bM aO j h loc I R aP s ds cw cC/\aL<=aP/\(∀e∈cw,e<aL)/\I.g 6=some vu/\f0 X R vu 7 (ci.map b6).flatten qP/\(∀e∈qP,aL<=e/\e<aP)/\ds.length+ci.length+(aO.drop cC).length<=aO.length/\
  AN loc (hQ m loc) ds ci (aO.drop cC)=some r) (λW bx=> ?_) ?_
 ·refine fP (λo I R aP=>∃(ci:List Tok) (vu:z) (qP:List Nat) (cC:Nat) (b:Bool),Lu X aH bM aO j h loc I R aP s ds cw cC/\aL<=aP/\(∀e∈cw,e<aL)/\I.g 6=some vu/\I.g 7=some (.bool b)/\f0 X R vu 7 (ci.map b6).flatten qP/\(∀e∈qP,aL<=e/\e<aP)/\ds.length+ci.length+(aO.drop cC).length<=aO.length/\
   (b=true->andThen (pe o ci (aO.drop cC)) (λci k=>AN loc (hQ m loc) ds ci k)=some r)/\(b=false->AN loc (hQ m loc) ds ci (aO.drop cC)=some r))
   m ⟨[], .a2,[],o8,true,⟨a6 mn.t0,a6 mn.t1,a6 mn.t5,mn.bi,mn.cw,mn.par,mn.fr⟩,Zo,λe D=>(mn.cw e D).2,bt,bt, .inl (.inl ⟨rfl,rfl,rfl⟩),Zs,by simpa using JA,λ_=>V,λa=>(by cases a)⟩ ?_
  clear V mn JA
  rintro o I aQ bc ⟨ci,vu,qP,i6,b,k3,gE,fM,g9,fC,u6,gd,Gs,D,ma⟩
  have fB:=av.go k3.par k3.fr.le
  have t0:=k3.t0
  have t1:=k3.t1
  have t5:=k3.t5
  refine qW @fC ⟨?_⟩
  refine gM ?_
  cases b with
  |false=>
   refine vO ?_
   exact bx _ _ _ ⟨ci,vu,qP,i6,⟨a6 t0,a6 t1,a6 t5,k3.bi,k3.cw,k3.par,k3.fr⟩,gE,fM,a6 g9,u6,gd,Gs,ma rfl⟩
  |true=>
   have V:=D rfl
   cases o with
   |zero=>simp[pe,andThen]at V
   |succ o=>
   unfold pe at V
   refine vP ?_
   refine dd @g9 @t0 ⟨?_⟩
   cases aI:aO.drop i6 with
   |nil=>rw[aI]at V;simp[il,andThen]at V
   |cons x k=>
   rw[aI]at V
   simp only[il]at V
   refine(BT az fB.bf fB.par fB.ck fB.hp fB.gY fB.many (fx aI).1 1).mono ?_ ?_
   ·rintro t2 br bL ⟨aC,rfl,gx,eF⟩
    have jo:=eF.le
    rw[Zq aC]at V
    simp only[andThen,ok]at V
    rw[<-(fx aI).2]at V
    have ej:(aO.drop i6).length=(aO.drop (i6+1)).length+1:=by rw[aI,(fx aI).2];rfl
    have l0:∀e,j<=e->e<bc->Z X br e=Z X aQ e:=λe H K=>eF.ad e K (by simp;omega)
    have ahr:=k3.bi.ad (R:=br) (λe D=>l0 e (k3.cw e D).1 (k3.cw e D).2)
    have as5:=u6.ad (R:=br) (λe D=>l0 e (zC (gd e D)) (gd e D).2)
    have F8:=k3.fr.trans eF
    refine cq b6.eq_1 ⟨?_⟩
    have hY:jN X (bp X br bL (zG (b6 x) 7)) 7 (.slice bL 0 1 1)=some (1,b6 x):=qC (bz Zo) (mF _) rfl _
    obtain⟨ayK,b0,θ,gU,sF,aqz,gl⟩:=(as5.ad (R:=bp X br bL (zG (b6 x) 7)) (λe D=>aJ Zo (zC (gd e D).2))).append (j:=bL+1) Zd hY rfl Zd rfl (by rw[azC];simp only[b6,ZD,ZY];omega) Zo (λe D=>zC (gd e D).2)
    refine kl gU ?_
    have fb:∀e,e<bL->e∉qP->Z X b0 e=Z X br e:=λe H K=>by rw[gl e Zo K,aJ Zo Zo]
    have dj:∀e,e<aL->e∉qP:=λe H K=>zC (gd e K)
    have hd:aT X b0 aH bM aO (i6+1):=gx.ad (fb _ Zo (dj _ Zo)) (fb _ Zo (dj _ Zo))
    have eJ:cx X [aH] h j b0 (bL+1+1):=⟨Zo,λb ah bT=>by rw[fb b Zo (dj _ Zo)];exact F8.ad b ah bT⟩
    have ahs:=ahr.ad (R:=b0) (λe D=>fb e (zC (fM e D)) (dj _ (fM e D)))
    have gg:(ci.map b6).flatten++b6 x=((ci++[x]).map b6).flatten:=by simp
    rw[gg]at sF
    have M9:∀e∈θ,aL<=e/\e<bL+1+1:=λe D=>by
     rcases aqz e D with rfl|a
     ·omega
     ·have:=gd e a;omega
    refine cq @t0 ⟨?_⟩
    have kY:=av.go hd eJ.le
    obtain⟨w,fA,o3⟩:∃w fA,aO.drop (i6+1)=w::fA:=by
     cases a:aO.drop (i6+1)with
     |nil=>rw[a]at V;simp[hM,kZ]at V
     |cons w fA=>exact⟨w,fA,rfl⟩
    refine(nW az kY o3 [44]).Zm ?_
    rintro HB b5 cA ⟨rfl,gy,dT⟩
    have jz:=dT.le
    have eS:∀e,j<=e->e<bL+1+1->Z X b5 e=Z X b0 e:=λe H K=>dT.ad e K (by simp;omega)
    refine cY ⟨?_⟩
    refine⟨o,Zo,ci++[x],ayK,θ,_,gH w [44],⟨a6 t0,a6 t1,a6 t5,ahs.ad (λe D=>eS e (k3.cw e D).1 (zC (fM e D))),λe D=>⟨(k3.cw e D).1,zC (fM e D)⟩,gy,eJ.trans dT⟩,Zo,fM,bt,bt, .inl (sF.ad (λe D=>eS e (zC (M9 e D)) (M9 e D).2)),λe D=>⟨(M9 e D).1,zC (M9 e D).2⟩, ?_,λa=> ?_,λa=> ?_⟩
    ·have be:=congrArg List.length (fx o3).2
     have bV:(aO.drop (i6+1)).length=fA.length+1:=by rw[o3];rfl
     split
     ·simp only[ZU,List.length_singleton];omega
     ·simp only[ZU,List.length_singleton];omega
    ·rw[o3]at V
     simp only[hM,kZ,a,ZC]at V ⊢
     rw[(fx o3).2]
     exact V
    ·rw[o3]at V
     simp only[hM,kZ,a,Zw,ZA]at V ⊢
     rw[o3]
     exact V
   ·rintro t2 br bL ⟨aC,rfl,eF⟩
    rw[Zg aC]at V
    simp only[andThen,bad,Zf]at V
    subst V
    exact⟨_,rfl,rfl,k3.fr.trans eF⟩
 ·clear V mn JA
  rintro I aQ bc ⟨ci,vu,qP,i6,k3,gE,fM,g9,u6,gd,Gs,V⟩
  have t0:=k3.t0
  have t1:=k3.t1
  have t5:=k3.t5
  have dy:=k3.fr
  have rf:=k3.bi
  have x7:=k3.cw
  have dq:=k3.par
  clear k3
  refine cq @t0 ⟨?_⟩
  refine ff (λbr=>Z X br bc=zG [.str [58]] 1/\bG X aQ bc br (bc+1)) ⟨bz Zo,dS⟩ ?_
  rintro br ⟨RG,cz⟩
  have nc:=av.go (dq.ex cz Zo Zo) (by omega:j<=bc+1)
  have eF:=dy.trans (cx.of cz)
  unfold AN at V
  rcases gi V with ⟨E,ay,rfl⟩|⟨ln,fI,ay,V⟩
  ·exact(jG az nc Zo Zo RG ay).mono (λac R ap a=>by obtain⟨B,cC,a,_⟩:=a;cases a) (λac R ap a=>a.of eF (λ_ a=>by cases a;rfl))
  refine(jG az nc Zo Zo RG ay).mono ?_ (λac R ap a=>by obtain⟨E,a,_⟩:=a;cases a)
  rintro v4 b0 cU ⟨aAi,i4,o4,_,hd,eJ⟩
  cases o4
  have aBo:=az6 ay
  have jy:=eJ.le
  have kY:=nc.go hd jy
  have x2:=eF.trans eJ
  have fb:∀e,j<=e->e<bc->Z X b0 e=Z X aQ e:=λe H K=>by rw[eJ.ad e Zo (by simp;omega),cz.ad e K]
  have sF:=rf.ad (R:=b0) (λe D=>fb e (x7 e D).1 (x7 e D).2)
  have adP:=u6.ad (R:=b0) (λe D=>fb e (zC (gd e D)) (gd e D).2)
  clear rf u6 fb RG cz nc eF eJ ay dy dq
  refine cq @t0 ⟨?_⟩
  cases o3:aO.drop i4 with
  |nil=>rw[o3]at V;simp[il,andThen]at V
  |cons t fA=>
  rw[o3]at V
  simp only[il]at V
  refine(BT az kY.bf kY.par kY.ck kY.hp kY.gY kY.many (fx o3).1 3).mono ?_ (λHB b5 cA a=>by
   obtain⟨aC,rfl,dT⟩:=a
   rw[Zg aC]at V
   simp only[andThen,bad,Zf]at V
   subst V
   exact⟨_,rfl,rfl,x2.trans dT⟩)
  rintro HB b5 cA ⟨aC,rfl,gy,dT⟩
  have jz:=dT.le
  rw[Zq aC]at V
  simp only[andThen,ok]at V
  rw[<-(fx o3).2]at V
  have aBp:(aO.drop i4).length=(aO.drop (i4+1)).length+1:=by rw[o3,(fx o3).2];rfl
  have x1:=x2.trans dT
  have eS:∀e,j<=e->e<cU->Z X b5 e=Z X b0 e:=λe H K=>dT.ad e K (by simp;omega)
  have o6:=sF.ad (R:=b5) (λe D=>eS e (x7 e D).1 (zC (x7 e D)))
  have adQ:=adP.ad (R:=b5) (λe D=>eS e (zC (gd e D)) (zC (gd e D)))
  clear sF adP eS dT x2
  refine dd b6.eq_1 @t0 ⟨?_⟩
  refine ff (λcp=>Z X cp cA=zG (e8 ⟨[],0,t.ty,[],0,false⟩) 8/\bG X b5 cA cp (cA+1)) ⟨bz Zo,dS⟩ ?_
  rintro cp ⟨sh,eQ⟩
  have mi:=av.go (gy.ex eQ Zo Zo) (by omega:j<=cA+1)
  have ez:=x1.trans (cx.of eQ)
  obtain⟨w,lz,sq,adZ⟩:=qE V
  refine(nW az mi sq _).Zm ?_
  rintro agN cH eh ⟨rfl,hK,e4⟩
  have pF:=e4.le
  have RS:=ez.trans e4
  have to:Z X cH cA=zG (e8 ⟨[],0,t.ty,[],0,false⟩) 8:=by rw[e4.ad _ Zo (by simp;omega)];exact sh
  have gG:∀e,j<=e->e<cA->Z X cH e=Z X b5 e:=λe H K=>by rw[e4.ad e Zo (by simp;omega),eQ.ad e K]
  have acR:(aO.drop (i4+1)).length=lz.length+1:=by rw[sq];rfl
  refine qW b6.eq_1 ⟨?_⟩
  refine iw (λI R aP=>∃(on:aW) (f7:Int) (no:Bool) (cC:Nat),I.g 0=some (.ptr aH 0)/\I.g 1=some (.bool loc)/\I.g 5=some s/\I.g 6=some vu/\I.g 8=some (.ptr cA 0)/\Z X R cA=zG (e8 ⟨[],0,t.ty,on,f7,no⟩) 8/\(∀e,j<=e->e<cA->Z X R e=Z X b5 e)/\aT X R aH bM aO cC/\cx X [aH] h j R aP/\cA<aP/\(aO.drop cC).length<=(aO.drop (i4+1)).length/\
   uu loc (hQ m loc) (ds++ci.map (py t.ty on f7 no)) (aO.drop cC)=some r) (λW bx=> ?_) ?_
  ·rcases adZ with ⟨aD,V⟩|⟨aD,V⟩
   ·rw[aD]at hK ⊢
    simp only[ZC]at hK ⊢
    rw[<-(fx sq).2]at V
    simp only[vX]at V
    refine cq @t0 ⟨?_⟩
    refine ff (λea=>bG X cH eh ea (eh+1)) dS ?_
    intro ea kx
    have sQ:=mi.go (hK.ex kx Zo Zo) (by omega:cA+1<=eh+1)
    have xU:Z X ea cA=zG (e8 ⟨[],0,t.ty,[],0,false⟩) 8:=by rw[kx.ad _ Zo];exact to
    obtain⟨xi,rk,Gd⟩:∃xi rk,aO.drop (i4+1+1)=xi::rk:=by
     cases a:aO.drop (i4+1+1)with
     |nil=>rw[a]at V;simp[hM,kZ,andThen]at V
     |cons w fA=>exact⟨w,fA,rfl⟩
    refine(nW az sQ Gd _).Zm ?_
    rintro azI eC mK ⟨rfl,mC,hT⟩
    have wz:=hT.le
    have A3:=(RS.trans (cx.of kx)).trans hT
    have FX:Z X eC cA=zG (e8 ⟨[],0,t.ty,[],0,false⟩) 8:=by rw[hT.ad _ Zo (by simp;omega)];exact xU
    have qo:andThen (andThen (il 1 (aO.drop (if gH xi [110,111,116]then i4+1+1+1 else i4+1+1))) (λon k=>ok (on.text,on.at_,gH xi [110,111,116]) k)) (λr k=>uu loc (hQ m loc) (ds++ci.map (py t.ty r.1 r.2.1 r.2.2)) k)=some r:=by
     rw[Gd]at V
     cases adC:gH xi [110,111,116]with
     |true=>simp only[hM,kZ,adC,ZC]at V ⊢;rw[(fx Gd).2];exact V
     |false=>simp only[hM,kZ,adC,Zw,ZA]at V ⊢;rw[Gd];exact V
    have acS:(aO.drop (if gH xi [110,111,116]then i4+1+1+1 else i4+1+1)).length<=(aO.drop (i4+1)).length:=by simp only[Yp];split<;>omega
    clear V
    generalize (if gH xi [110,111,116]then i4+1+1+1 else i4+1+1)=i9 at qo mC acS
    generalize (if gH xi [110,111,116]then xi else g1)=z9
    generalize gH xi [110,111,116]=no at qo
    unfold e8 at FX
    refine ey b6.eq_1 @FX @t0 ⟨?_⟩
    refine ff (λn2=>Z X n2 cA=zG (e8 ⟨[],0,t.ty,[],0,no⟩) 8/\(∀e,e<mK->e≠cA->Z X n2 e=Z X eC e)) ⟨by rw[bz Zo];rfl,λe H K=>aJ Zo K⟩ ?_
    rintro n2 ⟨ao8,qv⟩
    have GA:=mC.ad (qv _ Zo Zo) (qv _ Zo Zo)
    have sm:cx X [aH] h j n2 mK:=⟨Zo,λb ah bT=>by rw[qv b Zo Zo];exact A3.ad b ah bT⟩
    have Hl:=av.go GA (by omega:j<=mK)
    cases Ng:aO.drop i9 with
    |nil=>rw[Ng]at qo;simp[il,andThen]at qo
    |cons c aCA=>
    rw[Ng]at qo
    simp only[il]at qo
    refine(BT az Hl.bf Hl.par Hl.ck Hl.hp Hl.gY Hl.many (fx Ng).1 1).mono ?_ ?_
    ·rintro azH pu Up ⟨SG,rfl,JL,wi⟩
     have arA:=wi.le
     rw[Zq SG]at qo
     simp only[andThen,ok]at qo
     rw[<-(fx Ng).2]at qo
     have FW:Z X pu cA=zG (e8 ⟨[],0,t.ty,[],0,no⟩) 8:=by rw[wi.ad _ Zo (by simp;omega)];exact ao8
     unfold e8 at FW
     refine dd b6.eq_1 @FW ⟨?_⟩
     refine ka (rz _ _) ?_
     refine dd b6.eq_1 @FW ⟨?_⟩
     refine bx _ _ _ ⟨c.text,c.at_,no,i9+1,a6 t0,a6 t1,a6 t5,a6 g9,bt, ?_,λe H K=> ?_, ?_, ?_,Zo, ?_,qo⟩
     ·simp(disch:=omega) only[aJ,bz]<;>rfl
     ·simp(disch:=omega) only[aJ]
      rw[wi.ad e Zo (by simp;omega),qv e Zo Zo,hT.ad e Zo (by simp;omega),kx.ad e Zo,gG e H K]
     ·exact JL.ad (zI) (zI)
     ·exact⟨Zo,λb ah bT=>by rw[<-(sm.trans wi).ad b ah bT];exact zI⟩
     ·simp only[Yp]at acS ⊢;omega
    ·rintro azH pu Up ⟨SG,rfl,wi⟩
     rw[Zg SG]at qo
     simp only[andThen,bad,Zf]at qo
     subst qo
     exact⟨_,rfl,rfl,sm.trans wi⟩
   ·rw[aD]at hK ⊢
    simp only[Zw,ZA]at hK ⊢
    simp only[vX,andThen,ok]at V
    refine dd b6.eq_1 g1.eq_1 ⟨?_⟩
    refine bx _ _ _ ⟨[],0,false,i4+1,a6 t0,a6 t1,a6 t5,a6 g9,bt, ?_,λe H K=> ?_, ?_, ?_,Zo,Zh _,V⟩
    ·simp(disch:=omega) only[aJ];exact to
    ·simp(disch:=omega) only[aJ];exact gG e H K
    ·exact hK.ad (zI) (zI)
    ·exact⟨Zo,λb ah bT=>by rw[<-RS.ad b ah bT];exact zI⟩
  ·clear V adZ hK RS e4 to gG ez sh eQ mi x1 t0 t1 t5 g9 gy
   rintro I cp d2 ⟨on,f7,no,hu,t0,t1,t5,g9,iQ,sh,eK,he,ez,aBI,Ns,V⟩
   have sG:=o6.ad (R:=cp) (λe D=>eK e (x7 e D).1 (zC (x7 e D)))
   have adR:=adQ.ad (R:=cp) (λe D=>eK e (zC (gd e D)) (zC (gd e D)))
   clear o6 adQ
   obtain⟨μ,cR⟩:=adR.Ev Zd (agI ci) (by simp only[Zl];omega) (P:=λe=>aL<=e/\e<bc) gd
   have ej:=cR.len
   rw[Zl]at ej
   refine AV @g9 @ej ⟨?_⟩
   have pH:=ej
   refine iw (λI R aP=>∃(e1:z) (gA:List Nat),I.g 0=some (.ptr aH 0)/\I.g 1=some (.bool loc)/\I.g 5=some e1/\f0 X R e1 8 ((ds++ci.map (py t.ty on f7 no)).map e8).flatten gA/\(∀e∈gA,j<=e/\e<aP)/\aT X R aH bM aO hu/\cx X [aH] h j R aP/\d2<=aP) (λW bx=> ?_) ?_
   ·refine fP (λae6 I R aP=>∃(o:Nat) (e1:z) (gA:List Nat) (nm:aW) (lM:Int),ae6=ci.length-o/\o<=ci.length/\I.g 0=some (.ptr aH 0)/\I.g 1=some (.bool loc)/\I.g 5=some e1/\I.g 8=some (.ptr cA 0)/\I.g 52=some vu/\I.g 53=some (.Z (ci.length:Int))/\I.g 54=some (.Z (o:Int))/\Z X R cA=zG (e8 ⟨nm,lM,t.ty,on,f7,no⟩) 8/\
     f0 X R e1 8 ((ds++(ci.take o).map (py t.ty on f7 no)).map e8).flatten gA/\(∀e∈gA,(e∈cw\/d2<=e)/\e<aP)/\(∀e,aL<=e->e<bc->Z X R e=Z X cp e)/\aT X R aH bM aO hu/\cx X [aH] h j R aP/\d2<=aP)
     ci.length ⟨0,s,cw,[],0,Zo,Zo,a6 t0,a6 t1,a6 t5,a6 iQ,bt,bt,gc,sh,by simpa using sG,λe D=>⟨.inl D,zC (x7 e D)⟩,λ_ _ _=>rfl,he,ez,Zh _⟩ ?_
    rintro ae6 I cH eh ⟨o,e1,gA,nm,lM,rfl,ra,t0,t1,t5,iQ,Vs,t53,np,to,Ds,wp,aez,hK,e4,pF⟩
    refine AV @t53 @np ⟨?_⟩
    refine gM ?_
    refine FE (λcS=> ?_) (λcS=> ?_)
    ·have cS:o<ci.length:=Zo
     have acG:=cR.gF o (by simpa using cS)
     have Td:=(cR.ad (R:=cH) (λe D=>aez e D.1 D.2)).row Zd (i:=o) (r:=b6 ci[o]) (by rw[Zv,Ze cS];rfl)
     have NY:ci.take (o+1)=ci.take o++[ci[o]]:=List.take_succ_eq_append_getElem cS
     generalize ci[o]=aG at Td NY
     have AG:∀e∈gA,j<=e/\e≠cA/\¬(aL<=e/\e<bc)/\e<eh:=λe D=>by
      obtain⟨H,K⟩:=wp e D
      rcases H with H|H
      ·have:=x7 e H;have:=fM e H;exact⟨Zo,Zo,Zo,Zo⟩
      ·exact⟨Zo,Zo,Zo,Zo⟩
     unfold e8 at to
     refine eD @Vs @np @acG @Td b6.eq_1 @iQ @to ⟨?_⟩
     refine ka (rz _ _) ?_
     refine eD @Vs @np @acG @Td b6.eq_1 @iQ (Za @to @t5) ⟨?_⟩
     generalize tt:bp X _ (eh+1+8) _=eC
     have lr:Z X eC (eh+1+8)=zG (e8 (py t.ty on f7 no aG)) 8:=by rw[<-tt,bz Zo];rfl
     have FX:Z X eC cA=zG (e8 (py t.ty on f7 no aG)) 8:=by rw[<-tt];simp(disch:=omega) only[aJ,bz]<;>rfl
     have hw:∀e,e<eh->e≠cA->Z X eC e=Z X cH e:=λe H K=>by rw[<-tt];exact zI
     clear tt
     have hY:jN X eC 8 (.slice (eh+1+8) 0 1 1)=some (1,e8 (py t.ty on f7 no aG)):=qC lr (mF _) rfl _
     have e5:(ds++(ci.take o).map (py t.ty on f7 no)).length<=100000:=by
      simp only[ZU,Zl,YM];omega
     obtain⟨lB,n2,tb,gU,adI,aqu,acM⟩:=(Ds.ad (R:=eC) (λe D=>hw e (AG e D).2.2.2 (AG e D).2.1)).append (j:=eh+1+8+1) Zd hY rfl Zd rfl (by rw[ani];simp only[e8,ZD,ZY];omega) Zo (λe D=>zC (AG e D))
     refine kl gU ?_
     have qv:∀e,e<eh->e≠cA->e∉gA->Z X n2 e=Z X cH e:=λe H K ak=>by rw[acM e Zo ak,hw e H K]
     have bw:=zH o
     have gg:((ds++(ci.take o).map (py t.ty on f7 no)).map e8).flatten++e8 (py t.ty on f7 no aG)=((ds++(ci.take (o+1)).map (py t.ty on f7 no)).map e8).flatten:=by rw[NY];simp
     rw[gg]at adI
     refine dd @np @bw ⟨?_⟩
     refine⟨ci.length-(o+1),Zo,o+1,lB,tb,aG.text,aG.at_,rfl,Zo,a6 t0,a6 t1,bt,a6 iQ,a6 Vs,a6 t53,bt, ?_, .inl adI, ?_, ?_, ?_, ?_,Zo⟩
     ·rw[acM _ Zo (λa=>(AG _ a).2.1 rfl)];exact FX
     ·intro e D
      rcases aqu e D with rfl|a
      ·exact⟨.inr Zo,Zo⟩
      ·have:=wp e a;exact⟨this.1,Zo⟩
     ·intro e H K
      rw[qv e Zo Zo (λa=>(AG e a).2.2.1 ⟨H,K⟩)]
      exact aez e H K
     ·exact hK.ad (qv _ Zo Zo (λa=>zC (AG _ a))) (qv _ Zo Zo (λa=>zC (AG _ a)))
     ·exact⟨Zo,λb ah bT=>by rw[qv b Zo Zo (λa=>zC (AG _ a))];exact e4.ad b ah bT⟩
    ·have uV:o=ci.length:=Zo
     subst uV
     rw[YU]at Ds
     refine cY ⟨?_⟩
     exact bx _ _ _ ⟨e1,gA,a6 t0,a6 t1,a6 t5,Ds,λe D=>by
      obtain⟨H,K⟩:=wp e D
      rcases H with H|H
      ·have:=x7 e H;omega
      ·omega,hK,e4,pF⟩
   ·clear sG adR sh eK t0 t1 t5 g9 iQ he ez cR ej
    rintro I cH eh ⟨e1,gA,t0,t1,t5,Ds,wp,hK,e4,pF⟩
    have acT:(ds++ci.map (py t.ty on f7 no)).length+(aO.drop hu).length<=aO.length:=by simp only[ZU,Zl];omega
    generalize ds++ci.map (py t.ty on f7 no)=Iu at Ds V acT
    have fin:∀(R:S ai) (aP:Nat),(∀e,e<eh->e≠aH->Z X R e=Z X cH e)->eh<=aP->r= .ok (Iu,aO.drop hu)->aT X R aH bM aO hu->∃ds cC b,r= .ok (ds,aO.drop cC)/\iU X R (du j aP) b e1 8 (ds.map e8)/\aT X R aH bM aO cC/\cx X [aH] h j R aP:=by
     intro R aP H K ak ay
     obtain⟨b,cR⟩:=(Ds.ad (R:=R) (λe D=>H e (wp e D).2 (zC (wp e D)))).OX Zd (aaA Iu) (by simp only[Zl];omega) (d8:=du j aP) (λe D=>⟨(wp e D).1,zC (wp e D)⟩)
     exact⟨Iu,hu,b,ak,cR,ay,Zo,λb ah bT=>by rw[H b Zo (by simpa using bT)];exact e4.ad b ah bT⟩
    refine cq @t0 ⟨?_⟩
    obtain⟨E6,m6,q4⟩:∃E6 m6,aO.drop hu=E6::m6:=by
     cases a:aO.drop hu with
     |nil=>rw[a]at V;simp[uu,y7]at V
     |cons w fA=>exact⟨w,fA,rfl⟩
    refine ff (λea=>ea=cH) rfl ?_
    rintro ea rfl
    refine(ru az Zo hK Zo Zo (fx q4).1).Zm ?_
    rintro u8 eC mK ⟨rfl,qb⟩
    have wz:=qb.le
    have mC:=hK.ad (qb.ad _ Zo) (qb.ad _ Zo)
    rw[q4]at V
    simp only[uu,y7]at V
    by_cases NT:E6.text=[59]
    ·rw[Zq NT]at V
     have cI:decide (E6.text≠[59])=false:=by simp[NT]
     have abm:hQ m loc Iu (aO.drop (hu+1))=some r->∀(I:db) (gt:S ai),I.g 0=some (.ptr aH 0)->I.g 1=some (.bool loc)->I.g 5=some e1->(∀e,e<mK->e≠aH->Z X gt e=Z X eC e)->aT X gt aH bM aO (hu+1)->
      ∃e6,e6<m+1/\∃s ds cw cC,Lu X aH bM aO j h loc I gt mK s ds cw cC/\ds.length+(aO.drop cC).length<=aO.length/\hQ e6 loc ds (aO.drop cC)=some r:=by
      intro nN I gt t0 t1 t5 aC ast
      refine⟨m,Zo,e1,Iu,gA,hu+1,⟨t0,t1,t5,Ds.ad (λe D=> ?_),λe D=>zC (wp e D),ast,Zo,λb ah bT=> ?_⟩, ?_,nN⟩
      ·have:=wp e D
       rw[aC e Zo Zo,qb.ad e Zo]
      ·rw[aC b Zo (by simpa using bT),qb.ad b Zo];exact e4.ad b ah bT
      ·simp only[Yp]at acT ⊢;omega
     obtain⟨c,am,bd,ca,a3,a4⟩:=mC.at_
     have TQ:=j7 bd a3
     have aex:=j7 bd ca
     have jx:=(Zb.1 (fx q4).1).1
     have cK:=mC.ne
     have bw:=zH hu
     have afN:∀gt,gt=bp X eC aH (some (.cells (dM c 1 [.Z ((hu+1:Nat):Int)]) 2 .own))->aT X gt aH bM aO (hu+1):=by
      rintro gt rfl
      refine mC.on (c:=dM c 1 [.Z ((hu+1:Nat):Int)]) (bz Zo) (λdE st a=>by rw[bd]at a;cases a;exact rI ..) (aJ Zo Zo)
     cases loc with
     |false=>
      simp only[Zw,ZA]at V
      have kP:(E6::m6).drop 1=aO.drop (hu+1):=by rw[(fx q4).2];rfl
      rw[kP]at V
      refine eD b6.eq_1 @cI @t1 @t0 @TQ @bw @bd ⟨?_⟩
      exact abm V _ _ (a6 t0) (a6 t1) (a6 t5) (λe H K=>aJ Zo K) (afN _ rfl)
     |true=>
      simp only[ZC]at V
      obtain⟨po,rk,Gd⟩:∃po rk,m6=po::rk:=by
       cases m6 with
       |nil=>simp[y7]at V
       |cons w fA=>exact⟨w,fA,rfl⟩
      subst Gd
      simp only[y7]at V
      have ce:aO[hu+1]? =some po:=(fx (fx q4).2).1
      have Dz:=(Zb.1 ce).1
      have acI:=a4.gF (hu+1) (by rw[Zl];exact Dz)
      have acb:aV X eC (.ptr bM ((hu+1)*7+1))=some (.str po.text):=a4.cell (hu+1) (b6 po) 1 _ (by rw[Zv,ce];rfl) rfl
      by_cases Nt:po.text=[108,101,116]
      ·rw[Zq Nt]at V
       simp only[ok,Zf]at V
       have cE:decide (po.text=[108,101,116])=true:=by simp[Nt]
       refine eD b6.eq_1 @cI @t1 @t0 @aex @TQ (Za @bw (Za @acI (Za @acb (Za @cE @t5)))) ⟨?_⟩
       exact fin _ _ (λe H K=>qb.ad e Zo) Zo (by rw[<-V,q4]) mC
      ·rw[Zg Nt]at V
       have cE:decide (po.text=[108,101,116])=false:=by simp[Nt]
       have kP:(E6::po::rk).drop 1=aO.drop (hu+1):=by rw[(fx q4).2];rfl
       rw[kP]at V
       refine eD b6.eq_1 @cI @t1 @t0 @aex @TQ (Za @bw (Za @acI (Za @acb (Za @cE @bd)))) ⟨?_⟩
       exact abm V _ _ (a6 t0) (a6 t1) (a6 t5) (λe H K=>aJ Zo K) (afN _ rfl)
    ·rw[Zg NT]at V
     simp only[ok,Zf]at V
     have cI:decide (E6.text≠[59])=true:=by simp[NT]
     refine ey b6.eq_1 @cI @t5 ⟨?_⟩
     exact fin _ _ (λe H K=>qb.ad e Zo) Zo (by rw[<-V,q4]) mC
end
def mH{v w:z}(a:eT v=some w):v.cells=[v]/\oA v=true/\z.same 30 v v=true:=by
 cases v with
 |slice b U n c=>exact⟨rfl,rfl,by simp[z.same]⟩
 |el b U n c=>exact⟨rfl,rfl,by simp[z.same]⟩
 |a2=>exact⟨rfl,rfl,rfl⟩
 |_=>simp[eT]at a
def vE(X:co)(h:S ai):(Nat->Prop)->List eo->List (List z)->Prop
 |_,[],bu=>bu=[]
 |P,al::cf,bu=>∃row hi bk,bu=row::hi/\(∀e,bk e->P e)/\Ai X h bk al row/\vE X h (λe=>P e/\¬bk e) cf hi
def vE.ad{X:co}{h R:S ai}:∀{cf:List eo}{bu:List (List z)}{P bk:Nat->Prop}(o:∀e,P e->Z X R e=Z X h e) (aw:∀e,P e->bk e),vE X h P cf bu->vE X R bk cf bu:=by
 intro cf
 induction cf with
 |nil=>intro bu P bk o aw a;exact a
 |cons al cf ag=>
  rintro bu P bk o aw ⟨row,hi,dK,H,bP,K,ak⟩
  exact⟨row,hi,dK,H,λe D=>aw e (bP e D),K.ad (λe D=>o e (bP e D)) (λe D=>D),ag (λe D=>o e D.1) (λe D=>⟨aw e D.1,D.2⟩) ak⟩
def Ai.len{X:co}{h:S ai}{P:Nat->Prop}{al:eo}{row:List z}(a:Ai X h P al row):row.length=4:=by
 obtain⟨_,_,_,_,_,rfl,_⟩:=a;rfl
def vE.wide{X:co}{h:S ai}:∀{cf:List eo}{bu:List (List z)}{P:Nat->Prop},vE X h P cf bu->bu.length=cf.length/\∀r∈bu,r.length=4:=by
 intro cf
 induction cf with
 |nil=>rintro bu P rfl;simp
 |cons E cf ag=>
  rintro bu P ⟨vs,hi,dK,rfl,bP,K,ak⟩
  obtain⟨ay,be⟩:=ag ak
  refine⟨by simp[ay],λr V=> ?_⟩
  rcases Zr.1 V with rfl|V
  ·exact K.len
  ·exact be r V
def lG(X:co)(h:S ai):(Nat->Prop)->List eo->List (List z)->Prop
 |_,[],bu=>bu=[]
 |P,al::cf,bu=>∃row hi bk,bu=row::hi/\(∀e,bk e->P e)/\rV X h bk al row/\lG X h (λe=>P e/\¬bk e) cf hi
def lG.ad{X:co}{h R:S ai}:∀{cf:List eo}{bu:List (List z)}{P bk:Nat->Prop}(o:∀e,P e->Z X R e=Z X h e) (aw:∀e,P e->bk e),lG X h P cf bu->lG X R bk cf bu:=by
 intro cf
 induction cf with
 |nil=>intro bu P bk o aw a;exact a
 |cons al cf ag=>
  rintro bu P bk o aw ⟨row,hi,dK,H,bP,K,ak⟩
  exact⟨row,hi,dK,H,λe D=>aw e (bP e D),K.ad (λe D=>o e (bP e D)) (λe D=>D),ag (λe D=>o e D.1) (λe D=>⟨aw e D.1,D.2⟩) ak⟩
def lG.snoc{X:co}{h:S ai}{bk:Nat->Prop}{al:eo}{row:List z}(a:rV X h bk al row):∀{cf:List eo}{bu:List (List z)}{oP P:Nat->Prop},lG X h oP cf bu->(∀e,oP e->P e)->(∀e,bk e->P e/\¬oP e)->lG X h P (cf++[al]) (bu++[row]):=by
 intro cf
 induction cf with
 |nil=>rintro bu oP P rfl H K;exact⟨row,[],bk,rfl,λe D=>(K e D).1,a,rfl⟩
 |cons E cf ag=>
  rintro bu oP P ⟨vs,hi,dK,rfl,bP,ak,ay⟩ H K
  exact⟨vs,hi++[row],dK,rfl,λe D=>H e (bP e D),ak,ag ay (λe D=>⟨H e D.1,D.2⟩) (λe D=>⟨⟨(K e D).1,λjv=>(K e D).2 (bP e jv)⟩,λo7=>(K e D).2 o7.1⟩)⟩
def lG.wide{X:co}{h:S ai}:∀{cf:List eo}{bu:List (List z)}{P:Nat->Prop},lG X h P cf bu->bu.length=cf.length/\∀r∈bu,r.length=4:=by
 intro cf
 induction cf with
 |nil=>rintro bu P rfl;simp
 |cons E cf ag=>
  rintro bu P ⟨vs,hi,dK,rfl,bP,K,ak⟩
  obtain⟨ay,be⟩:=ag ak
  refine⟨by simp[ay],λr V=> ?_⟩
  rcases Zr.1 V with rfl|V
  ·exact K.row.len
  ·exact be r V
def lG.eqs{X:co}{h:S ai}:∀{cf:List eo}{bu:List (List z)}{P:Nat->Prop},lG X h P cf bu->vE X h P cf bu:=by
 intro cf
 induction cf with
 |nil=>intro bu P a;exact a
 |cons al cf ag=>rintro bu P ⟨row,hi,dK,H,bP,K,ak⟩;exact⟨row,hi,dK,H,bP,K.row,ag ak⟩
def ps(X:co)(h:S ai)(P:Nat->Prop)(g:Go.aT.Node)(row:List z):Prop:=∃dk dI bi eB ch cD di f4 bu,row=[.str g.name, .Z g.at_,dk,dI,bi,eB]/\dZ X h P ch dk 8 (g.es.map e8)/\dZ X h P cD dI 8 (g.out.map e8)/\dZ X h P di bi 8 (g.loc.map e8)/\dZ X h P f4 eB 4 bu/\vE X h P g.eqs bu
def xs(X:co)(h:S ai)(P:Nat->Prop)(g:Go.aT.Node)(row:List z):Prop:=∃(aj:Nat->Nat) (dk dI bi eB:z) (ch cD di f4:Nat) (bu:List (List z)),row=[.str g.name, .Z g.at_,dk,dI,bi,eB]/\iU X h (λe=>P e/\aj e=1) ch dk 8 (g.es.map e8)/\iU X h (λe=>P e/\aj e=2) cD dI 8 (g.out.map e8)/\iU X h (λe=>P e/\aj e=3) di bi 8 (g.loc.map e8)/\iU X h (λe=>P e/\aj e=4) f4 eB 4 bu/\lG X h (λe=>P e/\aj e=0) g.eqs bu
def xs.row{X:co}{h:S ai}{P:Nat->Prop}{g:Go.aT.Node}{row:List z}(a:xs X h P g row):ps X h P g row:=by
 obtain⟨aj,dk,dI,bi,eB,ch,cD,di,f4,bu,B,H,K,ak,ay,be⟩:=a
 exact⟨dk,dI,bi,eB,ch,cD,di,f4,bu,B,H.rd.lift λ_ a=>a.1,K.rd.lift λ_ a=>a.1,ak.rd.lift λ_ a=>a.1,ay.rd.lift λ_ a=>a.1,be.eqs.ad (λ_ _=>rfl) λ_ a=>a.1⟩
def xs.ad{X:co}{h R:S ai}{P bk:Nat->Prop}{g:Go.aT.Node}{row:List z}(a:xs X h P g row)(o:∀e,P e->Z X R e=Z X h e)(aw:∀e,P e->bk e):xs X R bk g row:=by
 obtain⟨aj,dk,dI,bi,eB,ch,cD,di,f4,bu,B,H,K,ak,ay,be⟩:=a
 have de:∀i e,P e/\aj e=i->Z X R e=Z X h e:=λi e D=>o e D.1
 have Kt:∀i e,P e/\aj e=i->bk e/\aj e=i:=λi e D=>⟨aw e D.1,D.2⟩
 exact⟨aj,dk,dI,bi,eB,ch,cD,di,f4,bu,B,(H.ad (de 1)).lift (Kt 1),(K.ad (de 2)).lift (Kt 2),(ak.ad (de 3)).lift (Kt 3),(ay.ad (de 4)).lift (Kt 4),be.ad (de 0) (Kt 0)⟩
structure s5(X:co)(h:S ai)(n rs:Nat)(nm:aW)(E:Int)(dk dI bi:z)(es out loc:List eP):Prop where
 jj:Z X h rs=zG [.str nm, .Z E,dk,dI,bi, .a2] 6
 lt:rs<n
 yW:∃ek fN iP ch cD di,rs+1<=ek/\ek<=fN/\fN<=iP/\iP<=n/\iU X h (du (rs+1) ek) ch dk 8 (es.map e8)/\iU X h (du ek fN) cD dI 8 (out.map e8)/\iU X h (du fN iP) di bi 8 (loc.map e8)
def s5.ad{X:co}{h R:S ai}{n aP rs:Nat}{nm:aW}{E:Int}{dk dI bi:z}{es out loc:List eP}(a:s5 X h n rs nm E dk dI bi es out loc)(o:∀e,rs<=e->e<n->Z X R e=Z X h e)(aM:n<=aP):s5 X R aP rs nm E dk dI bi es out loc:=by
 obtain⟨ek,fN,iP,ch,cD,di,cP,cG,d4,fK,H,K,ak⟩:=a.yW
 exact⟨by rw[o rs (Zh _) a.lt];exact a.jj,zC a.lt,ek,fN,iP,ch,cD,di,cP,cG,d4,Zo,H.ad λe D=>o e (zC D.1) (zC D.2),K.ad λe D=>o e (zC D.1) (zC D.2),ak.ad λe D=>o e (zC D.1) (zC D.2)⟩
section
variable{X:co}{h R aU aQ:S ai}{j ap aL bc aH bM:Nat}{aO:List Tok}{i:Nat}
def s5.fr{n aP rs:Nat}{nm:aW}{E:Int}{dk dI bi:z}{es out loc:List eP}(a:s5 X h n rs nm E dk dI bi es out loc)(gq:cx X [aH] h n R aP)(ah:aH<rs):s5 X R aP rs nm E dk dI bi es out loc:=
 a.ad (λe H K=>gq.ad e K (by simp;omega)) gq.le
def az7{kI lB:aW}{k:List Tok}:rH [kI,lB] g1 k=andThen (dX kI k) λ_ k=>dX lB k:=by
 simp only[rH]
 cases a:dX kI k with
 |none=>rfl
 |some r=>
  cases r with
  |error E=>rfl
  |ok p=>
   obtain⟨x,bQ⟩:=p
   simp only[andThen]
   cases dX lB bQ with
   |none=>rfl
   |some fQ=>cases fQ with
    |error E=>rfl
    |ok p=>obtain⟨e,b9⟩:=p;rfl
def av6(az:dN X)(eN:vG X){n:Nat}(nK:n<=200000)(j5:aO.length<=100000)(av:iG X h j aH bM aO i){r:Except Int (Go.aT.Node×List Tok)}(V:Go.aT.node n (aO.drop i)=some r):
 ba X 36 [.ptr aH 0] h j (λac R ap=>∃g cC row,r= .ok (g,aO.drop cC)/\ac= .agg row/\xs X R (du j ap) g row/\aT X R aH bM aO cC/\cx X [aH] h j R ap) (iT X aH h j r):=by
 refine zJ az (aja X) ?_
 rw[ajb]
 unfold WJ
 have gL:=av.bf
 have ki:=av.hp
 have hc:=av.ck
 have jL:=av.gY
 unfold Go.aT.node at V
 refine cY ⟨?_⟩
 refine ff (λaU=>Z X aU (j+1)=zG [.str [110,111,100,101]] 1/\Z X aU j=zG [.str [], .Z 0, .a2, .a2, .a2, .a2] 6/\bG X h j aU (j+1+1)) ⟨bz Zo,by simp(disch:=omega) only[aJ,bz]<;>rfl,dS⟩ ?_
 rintro aU ⟨aE,p9,cb⟩
 have mO:=av.go (av.par.ex cb Zo Zo) (by omega:j<=j+1+1)
 have ij:cx X [aH] h j aU (j+1+1):=cx.of cb
 rcases gi V with ⟨E,K,rfl⟩|⟨gI,b9,K,V⟩
 ·exact(jG az mO Zo Zo aE K).mono (λac R ap a=>by obtain⟨B,cC,a,_⟩:=a;cases a) (λac R ap a=>a.of ij (λ_ a=>by cases a;rfl))
 refine(jG az mO Zo Zo aE K).mono ?_ (λac R ap a=>by obtain⟨E,a,_⟩:=a;cases a)
 clear K
 rintro agQ aQ bc ⟨aDk,i6,ye,_,dq,dy⟩
 cases ye
 have gE:=dy.le
 have wj:=ij.trans dy
 have uB:Z X aQ j=zG [.str [], .Z 0, .a2, .a2, .a2, .a2] 6:=by rw[dy.ad _ Zo (by simp;omega)];exact p9
 have fB:=av.go dq wj.le
 clear aE p9 cb mO ij dy
 cases tx:aO.drop i6 with
 |nil=>rw[tx]at V;simp[il,andThen]at V
 |cons x d9=>
 rw[tx]at V
 simp only[il]at V
 refine(BT az fB.bf fB.par fB.ck fB.hp fB.gY fB.many (fx tx).1 1).mono ?_ (λHB b5 cA a=>by
  obtain⟨aC,rfl,dT⟩:=a
  rw[Zg aC]at V
  simp only[andThen,bad,Zf]at V
  subst V
  exact⟨_,rfl,rfl,wj.trans dT⟩)
 rintro t2 br bL ⟨aC,rfl,gx,eF⟩
 have jo:=eF.le
 rw[Zq aC]at V
 simp only[andThen,ok]at V
 rw[<-(fx tx).2]at V
 have tr:Z X br j=zG [.str [], .Z 0, .a2, .a2, .a2, .a2] 6:=by rw[eF.ad _ Zo (by simp;omega)];exact uB
 have F8:=wj.trans eF
 clear uB eF wj dq fB
 refine cq b6.eq_1 ⟨?_⟩
 refine ff (λb0=>Z X b0 (bL+1+1)=zG [.str [40]] 1/\s5 X b0 (bL+1+1+1) (bL+1) x.text x.at_ .a2 .a2 .a2 [] [] []/\bG X br bL b0 (bL+1+1+1)) ⟨bz Zo,⟨by simp(disch:=omega) only[aJ,bz]<;>rfl,Zo,bL+1+1,bL+1+1,bL+1+1,0,0,0,Zh _,Zh _,Zh _,Zo,iU.nil _ _,iU.nil _ _,iU.nil _ _⟩,dS⟩ ?_
 rintro b0 ⟨CV,afl,dz⟩
 have xV:Z X b0 j=zG [.str [], .Z 0, .a2, .a2, .a2, .a2] 6:=by rw[dz.ad _ Zo];exact tr
 have eJ:=F8.trans (cx.of dz)
 have kY:=av.go (gx.ex dz Zo Zo) (by omega:j<=bL+1+1+1)
 clear tr F8 gx dz
 change andThen (dX [40] (aO.drop (i6+1))) _=some r at V
 rcases gi V with ⟨E,K,rfl⟩|⟨gI,b9,K,V⟩
 ·exact(jG az kY Zo Zo CV K).mono (λac R ap a=>by obtain⟨B,cC,a,_⟩:=a;cases a) (λac R ap a=>a.of eJ (λ_ a=>by cases a;rfl))
 refine(jG az kY Zo Zo CV K).mono ?_ (λac R ap a=>by obtain⟨E,a,_⟩:=a;cases a)
 clear K
 rintro v5 b5 cA ⟨aDl,i5,sr,_,gy,dT⟩
 cases sr
 have jz:=dT.le
 have afm:=afl.fr dT Zo
 have FY:Z X b5 j=zG [.str [], .Z 0, .a2, .a2, .a2, .a2] 6:=by rw[dT.ad _ Zo (by simp;omega)];exact xV
 have x1:=eJ.trans dT
 have oC:=av.go gy x1.le
 clear afl xV eJ dT CV kY
 obtain⟨e,ly,Jf,J3⟩:=qE V
 refine(nW az oC Jf _).Zm ?_
 rintro agM cp d2 ⟨rfl,he,ez⟩
 have rb:=ez.le
 have Oy:=afm.fr ez Zo
 have AZ:Z X cp j=zG [.str [], .Z 0, .a2, .a2, .a2, .a2] 6:=by rw[ez.ad _ Zo (by simp;omega)];exact FY
 have uE:=x1.trans ez
 clear afm FY x1 ez gy oC
 refine qW b6.eq_1 ⟨?_⟩
 refine iw (λI R aP=>∃(dk:z) (es:List eP) (cC:Nat),I.g 0=some (.ptr aH 0)/\I.g 2=some (.ptr j 0)/\I.g 4=some (.ptr (bL+1) 0)/\s5 X R aP (bL+1) x.text x.at_ dk .a2 .a2 es [] []/\Z X R j=zG [.str [], .Z 0, .a2, .a2, .a2, .a2] 6/\aT X R aH bM aO cC/\cx X [aH] h j R aP/\
  (andThen (dX [114,101,116,117,114,110,115] (aO.drop cC)) λ_ k=>andThen (dX [40] k) λ_ k=>andThen (hQ n false [] k) λout k=>andThen (dX [41] k) λ_ k=>
   hM [118,97,114] k λe k=>andThen (match e with
    |some _=>andThen (hQ n true [] k) λds k=>andThen (dX [59] k) λ_ k=>ok ds k
    |none=>ok [] k) λloc k=>
   andThen (dX [108,101,116] k) λ_ k=>andThen (kf n [] k) λcf k=>ok (⟨x.text,x.at_,es,out,loc,cf⟩:Go.aT.Node) k)=some r) (λW bx=> ?_) ?_
 ·rcases J3 with ⟨aD,V⟩|⟨aD,V⟩
  ·rw[aD]at he ⊢
   simp only[ZC]at he ⊢
   rw[<-(fx Jf).2]at V
   simp only[andThen,ok]at V
   refine cq b6.eq_1 ⟨?_⟩
   refine bx _ _ _ ⟨.a2,[],i5+1,bt,bt,bt,Oy.ad (λe H K=>zI) Zo,by simp(disch:=omega) only[aJ];exact AZ,he.ad (zI) (zI), ?_,V⟩
   exact⟨Zo,λb ah bT=>by rw[<-uE.ad b ah bT];exact zI⟩
  ·rw[aD]at he ⊢
   simp only[Zw,ZA]at he ⊢
   simp only[]at V
   refine dd b6.eq_1 g1.eq_1 ⟨?_⟩
   refine ff (λcH=>bG X cp d2 cH (d2+1)) dS ?_
   intro cH e3
   have Ea:=Oy.fr (cx.of (X:=[aH]) e3) Zo
   have xW:Z X cH j=zG [.str [], .Z 0, .a2, .a2, .a2, .a2] 6:=by rw[e3.ad _ Zo];exact AZ
   have e4:=uE.trans (cx.of e3)
   have nd:=av.go (he.ex e3 Zo Zo) (by omega:j<=d2+1)
   clear Oy AZ uE he e3
   rcases gi V with ⟨E,aA,rfl⟩|⟨es,au0,aA,V⟩
   ·rcases gi aA with ⟨fu,K,ak⟩|⟨ds,m6,K,aA⟩
    ·cases ak
     exact(FM az j5 nd K).mono (λac R ap a=>by obtain⟨B,cC,b,a,_⟩:=a;cases a) (λac R ap a=>a.of e4 (λ_ a=>by cases a;rfl))
    refine(FM az j5 nd K).mono ?_ (λac R ap a=>by obtain⟨E,a,_⟩:=a;cases a)
    rintro HC ea jM ⟨anj,i8,xD,Df,Dq,wE,gT⟩
    cases Df
    have Dj:=gT.le
    have Hd:=Ea.fr gT Zo
    obtain⟨gZ,mM,tQ⟩:=mH Dq.rd.len
    refine cY ⟨?_⟩
    have xU:=Hd.jj
    refine gr (rC (U:=2) xU Zo Zo gZ mM) ?_
    refine cY ⟨?_⟩
    refine ff (λeC=>Z X eC jM=zG [.str [41]] 1/\∀e,e<jM->e≠(bL+1)->Z X eC e=Z X ea e) ⟨bz Zo,λe H K=>zI⟩ ?_
    rintro eC ⟨RH,hw⟩
    have mC:=wE.ad (hw _ Zo Zo) (hw _ Zo Zo)
    have hT:cx X [aH] h j eC (jM+1):=⟨Zo,λb ah bT=>by rw[hw b Zo Zo];exact(e4.trans gT).ad b ah bT⟩
    rcases gi aA with ⟨fu,ay,be⟩|⟨ub,rk,ay,aA⟩
    ·cases be
     exact(jG az (av.go mC Zo) Zo Zo RH ay).mono (λac R ap a=>by obtain⟨B,cC,a,_⟩:=a;cases a) (λac R ap a=>a.of hT (λ_ a=>by cases a;rfl))
    ·cases aA
   ·rcases gi aA with ⟨fu,K,ak⟩|⟨ds,m6,K,aA⟩
    ·cases ak
    refine(FM az j5 nd K).mono ?_ (λac R ap a=>by obtain⟨E,a,_⟩:=a;cases a)
    rintro HC ea jM ⟨anj,i8,xD,Df,Dq,wE,gT⟩
    cases Df
    have Dj:=gT.le
    have Hd:=Ea.fr gT Zo
    obtain⟨gZ,mM,tQ⟩:=mH Dq.rd.len
    refine cY ⟨?_⟩
    have xU:=Hd.jj
    refine gr (rC (U:=2) xU Zo Zo gZ mM) ?_
    refine cY ⟨?_⟩
    refine ff (λeC=>Z X eC jM=zG [.str [41]] 1/\Z X eC (bL+1)=zG [.str x.text, .Z x.at_,HC, .a2, .a2, .a2] 6/\∀e,e<jM->e≠(bL+1)->Z X eC e=Z X ea e) ⟨bz Zo,by rw[aJ Zo Zo,bz Zo];rfl,λe H K=>zI⟩ ?_
    rintro eC ⟨RH,FX,hw⟩
    have mC:=wE.ad (hw _ Zo Zo) (hw _ Zo Zo)
    have hT:cx X [aH] h j eC (jM+1):=⟨Zo,λb ah bT=>by rw[hw b Zo Zo];exact(e4.trans gT).ad b ah bT⟩
    have aBV:=Ea.lt
    have He:s5 X eC (jM+1) (bL+1) x.text x.at_ HC .a2 .a2 _ [] []:=⟨FX,Zo,jM,jM,jM,xD,0,0,Zo,Zh _,Zh _,Zo,(Dq.ad (λe D=>hw e D.2 (zC D.1))).lift (λe D=>⟨zC D.1,zC D.2⟩),iU.nil _ _,iU.nil _ _⟩
    have we:Z X eC j=zG [.str [], .Z 0, .a2, .a2, .a2, .a2] 6:=by rw[hw _ Zo Zo,gT.ad _ Zo (by simp;omega)];exact xW
    rcases gi aA with ⟨fu,ay,be⟩|⟨ub,rk,ay,aA⟩
    ·cases be
    refine(jG az (av.go mC Zo) Zo Zo RH ay).mono ?_ (λac R ap a=>by obtain⟨E,a,_⟩:=a;cases a)
    rintro t6 n2 D6 ⟨Pz,J5,Sm,_,GA,sm⟩
    cases Sm
    cases aA
    exact bx _ _ _ ⟨HC,_,J5,bt,bt,bt,He.fr sm Zo,by rw[sm.ad _ Zo (by simp;omega)];exact we,GA,hT.trans sm,V⟩
 ·clear J3 he Oy AZ uE V
  rintro I cH eh ⟨dk,es,mD,t0,ei,t4,Ea,xW,hK,e4,V⟩
  have SN:=Ea.lt
  refine cq @t0 ⟨?_⟩
  refine ff (λea=>Z X ea eh=zG [.str [114,101,116,117,114,110,115], .str [40]] 2/\bG X cH eh ea (eh+1)) ⟨bz Zo,dS⟩ ?_
  rintro ea ⟨CX,kx⟩
  have Hd:=Ea.fr (cx.of (X:=[aH]) kx) Zo
  have MO:Z X ea j=zG [.str [], .Z 0, .a2, .a2, .a2, .a2] 6:=by rw[kx.ad _ Zo];exact xW
  have gT:=e4.trans (cx.of kx)
  have sQ:=av.go (hK.ex kx Zo Zo) (by omega:j<=eh+1)
  clear Ea xW e4 hK kx
  have Dq:dZ X ea (λe=>e=eh) eh (.slice eh 0 2 2) 1 (f8 [[114,101,116,117,114,110,115],[40]]):=OW (bu:=[[.str [114,101,116,117,114,110,115]],[.str [40]]]) (st:= .own) CX rfl Zs Zd rfl
  have bF:∃yZ,rH [[114,101,116,117,114,110,115],[40]] g1 (aO.drop mD)=some yZ/\andThen (some yZ) (λ(_:Tok) k=>andThen (hQ n false [] k) λout k=>andThen (dX [41] k) λ_ k=>
   hM [118,97,114] k λe k=>andThen (match e with
    |some _=>andThen (hQ n true [] k) λds k=>andThen (dX [59] k) λ_ k=>ok ds k
    |none=>ok [] k) λloc k=>
   andThen (dX [108,101,116] k) λ_ k=>andThen (kf n [] k) λcf k=>ok (⟨x.text,x.at_,es,out,loc,cf⟩:Go.aT.Node) k)=some r:=by
   rw[az7]
   rcases gi V with ⟨E,H,rfl⟩|⟨bd,cO,H,V⟩
   ·exact⟨.error E,by rw[H];rfl,rfl⟩
   ·rcases gi V with ⟨E,K,rfl⟩|⟨ca,b9,K,V⟩
    ·exact⟨.error E,by rw[H];exact K,rfl⟩
    ·exact⟨.ok (ca,b9),by rw[H];exact K,V⟩
  clear V
  obtain⟨yZ,bF,V⟩:=bF
  refine(ag1 az sQ.bf sQ.par sQ.ck sQ.hp sQ.gY sQ.many Zo Zo Dq bF).mono ?_ (λac R ap a=>by
   obtain⟨E,rfl,rfl,a⟩:=a
   simp only[andThen,Zf]at V
   subst V
   exact⟨E,rfl,rfl,gT.trans a⟩)
  rintro v9 eC mK ⟨ub,i9,rfl,_,mC,hT⟩
  change andThen (hQ n false [] (aO.drop i9)) _=some r at V
  have wz:=hT.le
  have He:=Hd.fr hT Zo
  have we:Z X eC j=zG [.str [], .Z 0, .a2, .a2, .a2, .a2] 6:=by rw[hT.ad _ Zo (by simp;omega)];exact MO
  have A3:=gT.trans hT
  have UJ:=av.go mC A3.le
  clear Hd MO gT hT Dq CX sQ bF mC
  refine cq @t0 ⟨?_⟩
  rcases gi V with ⟨E,K,rfl⟩|⟨out,auz,K,V⟩
  ·exact(FM az j5 UJ K).mono (λac R ap a=>by obtain⟨B,cC,b,a,_⟩:=a;cases a) (λac R ap a=>a.of A3 (λ_ a=>by cases a;rfl))
  refine(FM az j5 UJ K).mono ?_ (λac R ap a=>by obtain⟨E,a,_⟩:=a;cases a)
  clear K
  rintro t6 n2 D6 ⟨out,J5,alR,Sm,S9,GA,sm⟩
  cases Sm
  have aBq:=sm.le
  have afj:=He.fr sm Zo
  have abp:Z X n2 j=zG [.str [], .Z 0, .a2, .a2, .a2, .a2] 6:=by rw[sm.ad _ Zo (by simp;omega)];exact we
  have abI:=A3.trans sm
  obtain⟨gZ,mM,tQ⟩:=mH S9.rd.len
  have aBJ:=He.lt
  refine cq @t4 ⟨?_⟩
  refine gr (rC (U:=3) afj.jj Zo Zo gZ mM) ?_
  refine cq @t0 ⟨?_⟩
  refine ff (λpu=>Z X pu D6=zG [.str [41]] 1/\Z X pu (bL+1)=zG [.str x.text, .Z x.at_,dk,t6, .a2, .a2] 6/\∀e,e<D6->e≠bL+1->Z X pu e=Z X n2 e) ⟨bz Zo,by rw[aJ Zo Zo,bz Zo];rfl,λe H K=>zI⟩ ?_
  rintro pu ⟨RE,FW,DL⟩
  have JL:=GA.ad (DL _ Zo Zo) (DL _ Zo Zo)
  have wi:cx X [aH] h j pu (D6+1):=⟨Zo,λb ah bT=>by rw[DL b Zo Zo];exact abI.ad b ah bT⟩
  have afk:s5 X pu (D6+1) (bL+1) x.text x.at_ dk t6 .a2 es out []:=by
   obtain⟨ek,fN,iP,Ih,_,_,cP,cG,d4,fK,GD,_,_⟩:=He.yW
   exact⟨FW,Zo,ek,D6,D6,Ih,alR,0,cP,Zo,Zh _,Zo,GD.ad (λe D=>by have:=D.1;have:=D.2;rw[DL e Zo Zo,sm.ad e Zo (by simp;omega)]),(S9.ad (λe D=>DL e D.2 (zC D.1))).lift (λe D=>⟨zC D.1,zC D.2⟩),iU.nil _ _⟩
  have abq:Z X pu j=zG [.str [], .Z 0, .a2, .a2, .a2, .a2] 6:=by rw[DL _ Zo Zo];exact abp
  clear He afj we abp A3 sm abI S9 GA DL FW UJ
  rcases gi V with ⟨E,ay,rfl⟩|⟨aDf,aCB,ay,V⟩
  ·exact(jG az (av.go JL Zo) Zo Zo RE ay).mono (λac R ap a=>by obtain⟨B,cC,a,_⟩:=a;cases a) (λac R ap a=>a.of wi (λ_ a=>by cases a;rfl))
  refine(jG az (av.go JL Zo) Zo Zo RE ay).mono ?_ (λac R ap a=>by obtain⟨E,a,_⟩:=a;cases a)
  clear ay
  rintro aDa XE avJ ⟨aDg,u7,aqO,_,adh,IW⟩
  cases aqO
  have arB:=IW.le
  have Ut:=afk.fr IW Zo
  have abr:Z X XE j=zG [.str [], .Z 0, .a2, .a2, .a2, .a2] 6:=by rw[IW.ad _ Zo (by simp;omega)];exact abq
  have RP:=wi.trans IW
  have afO:=av.go adh RP.le
  clear afk abq wi IW JL RE adh
  refine cq @t0 ⟨?_⟩
  obtain⟨e,aCC,acd,adY⟩:=qE V
  refine(nW az afO acd _).Zm ?_
  rintro aC6 Lz wR ⟨rfl,Bf,IX⟩
  have arC:=IX.le
  have Ow:=Ut.fr IX Zo
  have MK:Z X Lz j=zG [.str [], .Z 0, .a2, .a2, .a2, .a2] 6:=by rw[IX.ad _ Zo (by simp;omega)];exact abr
  have MW:=RP.trans IX
  have aBE:=Ut.lt
  clear Ut abr RP IX afO V
  refine qW b6.eq_1 ⟨?_⟩
  refine iw (λI R aP=>∃(bi:z) (loc:List eP) (cC:Nat),I.g 0=some (.ptr aH 0)/\I.g 2=some (.ptr j 0)/\I.g 4=some (.ptr (bL+1) 0)/\s5 X R aP (bL+1) x.text x.at_ dk t6 bi es out loc/\Z X R j=zG [.str [], .Z 0, .a2, .a2, .a2, .a2] 6/\aT X R aH bM aO cC/\cx X [aH] h j R aP/\
   (andThen (dX [108,101,116] (aO.drop cC)) λ_ k=>andThen (kf n [] k) λcf k=>ok (⟨x.text,x.at_,es,out,loc,cf⟩:Go.aT.Node) k)=some r) (λW bx=> ?_) ?_
  ·rcases adY with ⟨aD,V⟩|⟨aD,V⟩
   ·rw[aD]at Bf ⊢
    simp only[ZC]at Bf ⊢
    rw[<-(fx acd).2]at V
    simp only[]at V
    refine dd b6.eq_1 @t0 ⟨?_⟩
    refine ff (λr3=>bG X Lz wR r3 (wR+1)) dS ?_
    intro r3 A1
    have Hc:=Ow.fr (cx.of (X:=[aH]) A1) Zo
    have ML:Z X r3 j=zG [.str [], .Z 0, .a2, .a2, .a2, .a2] 6:=by rw[A1.ad _ Zo];exact MK
    have IY:=MW.trans (cx.of A1)
    have aw6:=av.go (Bf.ex A1 Zo Zo) (by omega:j<=wR+1)
    clear Ow MK MW Bf A1
    have Nh:∃rd,hQ n true [] (aO.drop (u7+1))=some rd/\(match rd with
     | .error E=>r= .error E
     | .ok (ds,k)=>∃yZ,dX [59] k=some yZ/\(match yZ with
       | .error E=>r= .error E
       | .ok (_,k)=>(andThen (dX [108,101,116] k) λ_ k=>andThen (kf n [] k) λcf k=>ok (⟨x.text,x.at_,es,out,ds,cf⟩:Go.aT.Node) k)=some r)):=by
     rcases gi V with ⟨E,aA,rfl⟩|⟨loc,au0,aA,V⟩
     ·rcases gi aA with ⟨fu,K,ak⟩|⟨ds,m6,K,aA⟩
      ·cases ak;exact⟨_,K,rfl⟩
      ·rcases gi aA with ⟨fu,ay,be⟩|⟨ub,rk,ay,aA⟩
       ·cases be;exact⟨_,K,_,ay,rfl⟩
       ·cases aA
     ·rcases gi aA with ⟨fu,K,ak⟩|⟨ds,m6,K,aA⟩
      ·cases ak
      ·rcases gi aA with ⟨fu,ay,be⟩|⟨ub,rk,ay,aA⟩
       ·cases be
       ·cases aA;exact⟨_,K,_,ay,V⟩
    obtain⟨rd,K,adv⟩:=Nh
    refine(FM az j5 aw6 K).mono ?_ (λac R ap a=>by
     obtain⟨E,rfl,rfl,a⟩:=a
     subst adv
     exact⟨E,rfl,rfl,IY.trans a⟩)
    rintro VA vI KB ⟨ds,aCr,alS,rfl,adu,asi,x0⟩
    obtain⟨yZ,ay,JW⟩:=adv
    have aBr:=x0.le
    have Ox:=Hc.fr x0 Zo
    have MM:Z X vI j=zG [.str [], .Z 0, .a2, .a2, .a2, .a2] 6:=by rw[x0.ad _ Zo (by simp;omega)];exact ML
    have ap0:=IY.trans x0
    obtain⟨e7,hh,vm⟩:=mH adu.rd.len
    refine cq @t4 ⟨?_⟩
    refine gr (rC (U:=4) Ox.jj Zo Zo e7 hh) ?_
    refine cq @t0 ⟨?_⟩
    refine ff (λpu=>Z X pu KB=zG [.str [59]] 1/\Z X pu (bL+1)=zG [.str x.text, .Z x.at_,dk,t6,VA, .a2] 6/\∀e,e<KB->e≠bL+1->Z X pu e=Z X vI e) ⟨bz Zo,by rw[aJ Zo Zo,bz Zo];rfl,λe H K=>zI⟩ ?_
    rintro s7 ⟨apv,ao9,GW⟩
    have ND:=asi.ad (GW _ Zo Zo) (GW _ Zo Zo)
    have A2:cx X [aH] h j s7 (KB+1):=⟨Zo,λb ah bT=>by rw[GW b Zo Zo];exact ap0.ad b ah bT⟩
    have KJ:s5 X s7 (KB+1) (bL+1) x.text x.at_ dk t6 VA es out ds:=by
     obtain⟨ek,fN,iP,Ih,LX,_,cP,cG,d4,fK,GD,lb,_⟩:=Hc.yW
     have de:∀e,bL+1<e->e<wR+1->Z X s7 e=Z X r3 e:=λe H K=>by rw[GW e Zo Zo,x0.ad e Zo (by simp;omega)]
     exact⟨ao9,Zo,ek,fN,KB,Ih,LX,alS,cP,cG,Zo,Zo,GD.ad (λe D=>de e (zC D.1) (zC D.2)),lb.ad (λe D=>de e (zC D.1) (zC D.2)),(adu.ad (λe D=>GW e D.2 (zC D.1))).lift (λe D=>⟨zC D.1,zC D.2⟩)⟩
    have MN:Z X s7 j=zG [.str [], .Z 0, .a2, .a2, .a2, .a2] 6:=by rw[GW _ Zo Zo];exact MM
    refine(jG az (av.go ND Zo) Zo Zo apv ay).mono ?_ (λac R ap a=>by
     obtain⟨E,rfl,rfl,a⟩:=a
     subst JW
     exact⟨E,rfl,rfl,A2.trans a⟩)
    rintro aDc uk KC ⟨aDj,Bp,rfl,_,S1,F7⟩
    exact bx _ _ _ ⟨VA,ds,Bp,a6 t0,a6 ei,a6 t4,KJ.fr F7 Zo,by rw[F7.ad _ Zo (by simp;omega)];exact MN,S1,A2.trans F7,JW⟩
   ·rw[aD]at Bf ⊢
    simp only[Zw,ZA]at Bf ⊢
    simp only[andThen,ok]at V
    refine dd b6.eq_1 g1.eq_1 ⟨?_⟩
    refine bx _ _ _ ⟨.a2,[],u7,a6 t0,a6 ei,a6 t4,Ow.ad (λe H K=>zI) Zo,by simp(disch:=omega) only[aJ];exact MK,Bf.ad (zI) (zI), ?_,V⟩
    exact⟨Zo,λb ah bT=>by rw[<-MW.ad b ah bT];exact zI⟩
  ·clear adY Bf Ow MK MW t0 ei t4
   rintro I r3 wS ⟨bi,loc,aCq,t0,ei,t4,Hc,ML,adi,IY,V⟩
   have aBF:=Hc.lt
   refine cq @t0 ⟨?_⟩
   refine ff (λea=>Z X ea wS=zG [.str [108,101,116]] 1/\bG X r3 wS ea (wS+1)) ⟨bz Zo,dS⟩ ?_
   rintro vI ⟨RF,C2⟩
   have Ox:=Hc.fr (cx.of (X:=[aH]) C2) Zo
   have MM:Z X vI j=zG [.str [], .Z 0, .a2, .a2, .a2, .a2] 6:=by rw[C2.ad _ Zo];exact ML
   have x0:=IY.trans (cx.of C2)
   have UI:=av.go (adi.ex C2 Zo Zo) (by omega:j<=wS+1)
   clear Hc ML IY adi C2
   rcases gi V with ⟨E,ay,rfl⟩|⟨aDh,aCD,ay,V⟩
   ·exact(jG az UI Zo Zo RF ay).mono (λac R ap a=>by obtain⟨B,cC,a,_⟩:=a;cases a) (λac R ap a=>a.of x0 (λ_ a=>by cases a;rfl))
   refine(jG az UI Zo Zo RF ay).mono ?_ (λac R ap a=>by obtain⟨E,a,_⟩:=a;cases a)
   clear ay
   rintro aDb s7 kV ⟨aDi,i16,aqP,_,ND,A2⟩
   cases aqP
   have arD:=A2.le
   have KJ:=Ox.fr A2 Zo
   have MN:Z X s7 j=zG [.str [], .Z 0, .a2, .a2, .a2, .a2] 6:=by rw[A2.ad _ Zo (by simp;omega)];exact MM
   have abJ:=x0.trans A2
   have aBG:=KJ.lt
   clear Ox MM x0 A2 UI RF
   obtain⟨vB,vC,aAn,Ih,LX,μ,aCm,J4,aCn,aCo,GD,lb,NQ⟩:=KJ.yW
   obtain⟨vy,xd,t2⟩:=mH GD.rd.len
   obtain⟨hC,nr,agW⟩:=mH lb.rd.len
   obtain⟨fD,fE,z3⟩:=mH NQ.rd.len
   refine gM ?_
   refine fP (λm I R aP=>∃(eB:z) (cf:List eo) (bu:List (List z)) (cw:List Nat) (cC:Nat),I.g 0=some (.ptr aH 0)/\I.g 2=some (.ptr j 0)/\I.g 4=some (.ptr (bL+1) 0)/\Z X R (bL+1)=zG [.str x.text, .Z x.at_,dk,t6,bi,eB] 6/\
    (∀e,bL+2<=e->e<kV->Z X R e=Z X s7 e)/\f0 X R eB 4 bu.flatten cw/\(∀e∈cw,kV<=e/\e<aP)/\lG X R (vr kV aP cw) cf bu/\Z X R j=zG [.str [], .Z 0, .a2, .a2, .a2, .a2] 6/\aT X R aH bM aO cC/\cx X [aH] h j R aP/\kV<=aP/\cf.length+m<=n/\
    (andThen (kf m cf (aO.drop cC)) λcf k=>ok (⟨x.text,x.at_,es,out,loc,cf⟩:Go.aT.Node) k)=some r)
    n ⟨.a2,[],[],[],i16,t0,ei,t4,KJ.jj,λ_ _ _=>rfl, .inl (.inl ⟨rfl,rfl,rfl⟩),Zs,rfl,MN,ND,abJ,Zh _,Zs,V⟩ ?_
   clear V ND MN abJ t0 ei t4
   rintro m I uk KC ⟨eB,cf,bu,cw,Bp,t0,ei,t4,Rs,aey,NV,uJ,NK,abs,S1,F7,aBs,aBL,V⟩
   cases m with
   |zero=>simp[kf,andThen]at V
   |succ m=>
   unfold kf at V
   have aw7:=av.go S1 F7.le
   refine gM ?_
   refine cq @t0 ⟨?_⟩
   have JV:∃e k,aO.drop Bp=e::k/\((gH e [116,101,108]=true/\ok (⟨x.text,x.at_,es,out,loc,cf⟩:Go.aT.Node) k=some r)\/(gH e [116,101,108]=false/\(andThen (andThen (sd m (aO.drop Bp)) λal k=>kf m (cf++[al]) k) λcf k=>ok (⟨x.text,x.at_,es,out,loc,cf⟩:Go.aT.Node) k)=some r)):=by
    rcases gi V with ⟨E,H,rfl⟩|⟨afY,bQ,H,V⟩
    ·obtain⟨e,k,K,ak⟩:=qE H
     rcases ak with ⟨ak,ay⟩|⟨ak,ay⟩
     ·cases ay
     ·exact⟨e,k,K, .inr ⟨ak,by rw[show(andThen (sd m (aO.drop Bp)) λal k=>kf m (cf++[al]) k)=some (.error E) from ay];rfl⟩⟩
    ·obtain⟨e,k,K,ak⟩:=qE H
     rcases ak with ⟨ak,ay⟩|⟨ak,ay⟩
     ·cases ay
      exact⟨e,_,K, .inl ⟨ak,V⟩⟩
     ·exact⟨e,k,K, .inr ⟨ak,by rw[show(andThen (sd m (aO.drop Bp)) λal k=>kf m (cf++[al]) k)=some (.ok (afY,bQ)) from ay];exact V⟩⟩
   clear V
   obtain⟨e,aCE,ace,aty⟩:=JV
   refine(nW az aw7 ace _).Zm ?_
   rintro aC7 As wT ⟨rfl,u2,RQ⟩
   have aBt:=RQ.le
   have Ke:∀e,j<=e->e<KC->Z X As e=Z X uk e:=λe H K=>RQ.ad e K (by simp;omega)
   have abK:=F7.trans RQ
   rcases aty with ⟨aD,V⟩|⟨aD,V⟩
   ·rw[aD]at u2 ⊢
    simp only[ZC]at u2 ⊢
    simp only[ok,Zf]at V
    subst V
    obtain⟨bw,b3,er⟩:=f0.one NV
    have Rt:Z X As (bL+1)=zG [.str x.text, .Z x.at_,dk,t6,bi,eB] 6:=by rw[Ke _ Zo Zo];exact Rs
    have apr:Z X As j=zG [.str [], .Z 0, .a2, .a2, .a2, .a2] 6:=by rw[Ke _ Zo Zo];exact abs
    refine hm b6.eq_1 @t4 (bX Rt) @ei ⟨?_⟩
    refine gr (km (o:=6) (b:=j) (U:=0) (n:=6) (c:=S.ofList [.str [], .Z 0, .a2, .a2, .a2, .a2] 0 .nil) (by simp(disch:=omega) only[aJ];exact apr) Zo rfl Zd Zd (by simp[z.cells,hZ,xd,nr,fE,b3,show oA (.Z x.at_)=true from rfl,show oA (.str x.text)=true from rfl])) ?_
    refine cq @ei ⟨?_⟩
    have DN:∀gt,(∀e,j<e->e<wT->Z X gt e=Z X As e)->∀e,j<e->e<KC->Z X gt e=Z X uk e:=λgt a e H K=>by rw[a e H Zo,Ke e Zo K]
    generalize abW:bp X _ j _=gt
    have Oc:∀e,e≠j->e<wT->Z X gt e=Z X As e:=λe H K=>by rw[<-abW];exact zI
    clear abW
    have TP:=DN gt (λe H K=>Oc e Zo K)
    have ys:=NK.wide
    obtain⟨alY,NP⟩:=(NV.ad (R:=gt) (λe D=>TP e (zC (uJ e D)) (uJ e D).2)).OX Zd ys.2 (by rw[ys.1];omega) (d8:=λe=>du j (wT+1) e/\e∈cw) (λe D=>by have:=uJ e D;exact⟨⟨Zo,Zo⟩,D⟩)
    have cF:∀e,du (bL+1+1) kV e->Z X gt e=Z X s7 e:=λe D=>by
     have H:=D.1;have K:=D.2
     rw[TP e Zo Zo];exact aey e Zo K
    have ma:∀e,e<kV->e∉cw:=λe H K=>zC (uJ e K)
    refine⟨_,Bp+1,_,by rw[(fx ace).2],rfl,⟨λe=>if e∈cw then 4 else if kV<=e then 0 else if e<vB then 1 else if e<vC then 2 else 3,dk,t6,bi,eB,Ih,LX,μ,alY,bu,rfl, ?_, ?_, ?_,NP.lift λe D=>⟨D.1,Zq D.2⟩, ?_⟩, ?_, ?_⟩
    ·refine(GD.ad λe D=>cF e ⟨D.1,zC D.2⟩).lift λe D=>⟨⟨zC D.1,zC D.2⟩, ?_⟩
     have H:=D.1;have K:=D.2
     simp only[]
     rw[Zg (ma e Zo),Zg Zo,Zq K]
    ·refine(lb.ad λe D=>cF e ⟨zC D.1,zC D.2⟩).lift λe D=>⟨⟨zC D.1,zC D.2⟩, ?_⟩
     have H:=D.1;have K:=D.2
     simp only[]
     rw[Zg (ma e Zo),Zg Zo,Zg Zo,Zq K]
    ·refine(NQ.ad λe D=>cF e ⟨zC D.1,zC D.2⟩).lift λe D=>⟨⟨zC D.1,zC D.2⟩, ?_⟩
     have H:=D.1;have K:=D.2
     simp only[]
     rw[Zg (ma e Zo),Zg Zo,Zg Zo,Zg Zo]
    ·refine NK.ad (λe D=>TP e (zC D.1) D.2.1) (λe D=>⟨⟨zC D.1,zC D.2.1⟩, ?_⟩)
     simp only[]
     rw[Zg D.2.2,Zq D.1]
    ·exact u2.ad (Oc _ Zo Zo) (Oc _ Zo Zo)
    ·exact⟨Zo,λb ah bT=>by rw[Oc b Zo Zo];exact abK.ad b ah bT⟩
   ·rw[aD]at u2 ⊢
    simp only[Zw,ZA]at u2 ⊢
    obtain⟨bw,b3,er⟩:=f0.one NV
    have Rt:Z X As (bL+1)=zG [.str x.text, .Z x.at_,dk,t6,bi,eB] 6:=by rw[Ke _ Zo Zo];exact Rs
    refine ht b6.eq_1 g1.eq_1 @t4 (bX Rt) @t0 ⟨?_⟩
    refine ff (λP5=>bG X As wT P5 (wT+1+8)) dS ?_
    intro P5 RM
    have aui:∀e,j<=e->e<KC->Z X P5 e=Z X uk e:=λe H K=>by rw[RM.ad e Zo];exact Ke e H K
    have abL:=abK.trans (cx.of RM)
    have aw8:=av.go (u2.ex RM Zo Zo) (by omega:j<=wT+1+8)
    have asT:∃Ey,sd m (aO.drop Bp)=some Ey/\(match Ey with
     | .error E=>r= .error E
     | .ok (al,k)=>(andThen (kf m (cf++[al]) k) λcf k=>ok (⟨x.text,x.at_,es,out,loc,cf⟩:Go.aT.Node) k)=some r):=by
     rcases gi V with ⟨E,H,rfl⟩|⟨afY,bQ,H,V⟩
     ·rcases gi H with ⟨fu,K,ak⟩|⟨al,k,K,ak⟩
      ·cases ak;exact⟨_,K,rfl⟩
      ·exact⟨_,K,by show andThen _ _=_;rw[ak];rfl⟩
     ·rcases gi H with ⟨fu,K,ak⟩|⟨al,k,K,ak⟩
      ·cases ak
      ·exact⟨_,K,by show andThen _ _=_;rw[ak];exact V⟩
    obtain⟨Ey,H,hf⟩:=asT
    refine(anS az eN Zo aw8 H).mono ?_ (λac R ap a=>by
     obtain⟨E,rfl,rfl,a⟩:=a
     subst hf
     exact⟨E,rfl,rfl,abL.trans a⟩)
    rintro aDd H2 ae8 ⟨al,atL,row,rfl,rfl,Tb,asj,RR⟩
    have aBu:=RR.le
    have ap1:=abL.trans RR
    have Kf:∀e,j<=e->e<KC->Z X H2 e=Z X uk e:=λe H K=>by rw[RR.ad e Zo (by simp;omega)];exact aui e H K
    have abg:Z X H2 (bL+1)=zG [.str x.text, .Z x.at_,dk,t6,bi,eB] 6:=by rw[Kf _ Zo Zo];exact Rs
    have asQ:=Tb.row.len
    obtain⟨jC,fc,fQ,ia,rfl⟩:∃jC fc fQ ia,row=[jC,fc,fQ,ia]:=by
     match row,asQ with
     |[E,b,c,d],_=>exact⟨E,b,c,d,rfl⟩
    have tB:hZ [jC,fc,fQ,ia]=true:=by obtain⟨_,_,_,_,_,_,H,_,_,_,be⟩:=Tb;exact be
    refine cq (bX abg) ⟨?_⟩
    refine ka er ?_
    have hY:jN X (bp X H2 (wT+1+4) (zG [jC,fc,fQ,ia] 4)) 4 (.slice (wT+1+4) 0 1 1)=some (1,[jC,fc,fQ,ia]):=qC (bz Zo) (mF _) rfl _
    have ys:=NK.wide
    have qj:=wb ys.2
    obtain⟨agi,LA,gA,gU,adJ,M8,aru⟩:=(NV.ad (R:=bp X H2 (wT+1+4) (zG [jC,fc,fQ,ia] 4)) (λe D=>by have:=uJ e D;rw[aJ Zo Zo];exact Kf e Zo Zo)).append (j:=ae8) Zd hY rfl Zd tB (by rw[qj,ys.1];simp only[ZD,ZY];omega) Zo (λe D=>zC (uJ e D))
    refine kl gU ?_
    obtain⟨ef,ev,f3⟩:=je.one adJ
    have Bt:∀e,e<ae8->e≠wT+1+4->e∉cw->Z X LA e=Z X H2 e:=λe H K ak=>by rw[aru e Zo ak,aJ Zo K]
    have dj:∀e,e<kV->e∉cw:=λe H K=>zC (uJ e K)
    have apb:Z X LA (bL+1)=zG [.str x.text, .Z x.at_,dk,t6,bi,eB] 6:=by rw[Bt _ Zo Zo (dj _ Zo)];exact abg
    refine cq @t4 ⟨?_⟩
    refine gr (rC (U:=5) apb Zo Zo ef ev) ?_
    have Bu:∀e,e≠bL+1->∀cN,Z X (bp X LA (bL+1) cN) e=Z X LA e:=λe a cN=>aJ Zo a
    refine⟨m,Zo,agi,cf++[al],bu++[[jC,fc,fQ,ia]],gA,atL,a6 t0,a6 ei,a6 t4,by rw[bz Zo];rfl, ?_, .inl ?_, ?_, ?_, ?_, ?_, ?_,Zo,by simp;omega,hf⟩
    ·intro e H K
     rw[Bu e Zo,Bt e Zo Zo (dj e K),Kf e Zo Zo]
     exact aey e H K
    ·rw[zo,Yt,List.flatten_nil,Z0]
     exact adJ.ad λe D=>Bu e (by rcases M8 e D with rfl|a;omega;have:=uJ e a;omega) _
    ·intro e D
     rcases M8 e D with rfl|a
     ·omega
     ·have:=uJ e a;omega
    ·refine lG.snoc (Tb.ad (λe D=> ?_) (λe D=>D)) (NK.ad (λe D=> ?_) (λe D=>D)) (λe D=> ?_) (λe D=>⟨?_,λo7=>by have:=D.1;have:=o7.2.1;omega⟩)
     ·have H:=D.1;have K:=D.2
      rw[Bu e Zo,Bt e Zo Zo (λa=>zC (uJ e a))]
     ·have H:=D.1;have K:=D.2.1
      rw[Bu e Zo,Bt e Zo Zo D.2.2,Kf e Zo Zo]
     ·have H:=D.1;have K:=D.2.1
      refine⟨H,Zo,λa=> ?_⟩
      rcases M8 e a with rfl|a
      ·omega
      ·exact D.2.2 a
     ·have H:=D.1;have K:=D.2
      refine⟨Zo,Zo,λa=> ?_⟩
      rcases M8 e a with rfl|a
      ·omega
      ·have:=uJ e a;omega
    ·rw[Bu _ Zo,Bt _ Zo Zo (dj _ Zo),Kf _ Zo Zo];exact abs
    ·exact asj.ad (by rw[Bu _ Zo,Bt _ Zo Zo (dj _ Zo)]) (by rw[Bu _ Zo,Bt _ Zo Zo (dj _ Zo)])
    ·exact⟨Zo,λb ah bT=>by rw[Bu b Zo,Bt b Zo Zo (dj b Zo)];exact ap1.ad b ah bT⟩
end
end
end Go.Proofs.YtendhgofocgngaaGreatDoor

