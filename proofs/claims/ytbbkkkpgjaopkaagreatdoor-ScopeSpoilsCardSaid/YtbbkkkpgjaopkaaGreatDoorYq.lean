/- Part of the proof of the last text; no conditions -/
import Derived.Test.YtbbkkkpgjaopkaaGreatDoorYp
set_option maxHeartbeats 8000000
set_option linter.all false
namespace Go.Proofs.YtbbkkkpgjaopkaaGreatDoor
open Go.bs Go.aQ
noncomputable section
def dy(d:d4):List y:=[.str d.name, .Z d.at_, .bool d.ty.b, .bool d.ty.s, .Z d.ty.w, .str d.on, .Z d.fT, .bool d.no]
def aet(k:List Tok):∀r∈k.map b0,r.length=7:=by
 intro r V;obtain⟨t,_,rfl⟩:=ZC.1 V;rfl
def WZ(k:List d4):∀r∈k.map dy,r.length=8:=by
 intro r V;obtain⟨t,_,rfl⟩:=ZC.1 V;rfl
def awi{s:ba}{k:List Tok}{x:Tok}{cb:List Tok}(a:eo s k=some (.ok (x,cb))):cb.length+1=k.length:=by
 cases k with
 |nil=>cases a
 |cons e k=>
  simp only[eo]at a
  split at a
  ·simp only[ok,Zc,Except.ok.injEq,YO]at a
   rw[<-a.2];rfl
  ·cases a
structure Kp(X:cl)(aJ bJ:Nat)(aU:List Tok)(j:Nat)(fg:M ak)(loc:Bool)(I:dc)(h:M ak)(n:Nat)(s:y)(ds:List d4)(cy:List Nat)(i:Nat):Prop where
 t0:I.g 0=some (.ptr aJ 0)
 t1:I.g 1=some (.bool loc)
 t5:I.g 5=some s
 a2:gu X h s 8 (ds.map dy).flatten cy
 cy:∀e∈cy,j<=e/\e<n
 par:aQ X h aJ bJ aU i
 fr:cu X [aJ] fg j h n
section
variable{X:cl}{h R aX aP:M ak}{j au aM be aJ bJ:Nat}{aU:List Tok}{i:Nat}
def akh(ds:List d4):(ds.map dy).flatten.length=ds.length*8:=by rw[mf (WZ ds),Zp]
def avM(ds:List Tok):(ds.map b0).flatten.length=ds.length*7:=by rw[mf (aet ds),Zp]
def EV(az:dW X){n:Nat}(ly:aU.length<=100000)(ay:iu X h j aJ bJ aU i){loc:Bool}{r:Except Int (List d4×List Tok)}(V:ja n loc [] (aU.drop i)=some r):
 a1 X 62 [.ptr aJ 0, .bool loc] h j (λab R au=>∃ds cx b,r= .ok (ds,aU.drop cx)/\hd X R (ei j au) b ab 8 (ds.map dy)/\aQ X R aJ bJ aU cx/\cu X [aJ] h j R au) (iN X aJ h j r):=by
 refine zL az (ag7 X) ?_
 rw[ag8]
 unfold U8
 have gx:=ay.aY
 have j8:=ay.hi
 have hB:=ay.ch
 have jy:=ay.gV
 refine gT ?_
 refine gK (λm I R aS=>∃s ds cy cx,Kp X aJ bJ aU j h loc I R aS s ds cy cx/\ds.length+(aU.drop cx).length<=aU.length/\ja m loc ds (aU.drop cx)=some r)
  n ⟨.aW,[],[],i,⟨bF,bF,bF, .inl (.inl ⟨rfl,rfl,rfl⟩),Zs,ay.par,cu.refl _ _ _⟩,Zs,V⟩ ?_
 clear V
 rintro m I aX aM ⟨s,ds,cy,ri,my,IA,V⟩
 cases m with
 |zero=>simp[ja]at V
 |succ m=>
 unfold ja at V
 refine gT ?_
 have jD:=my.fr.le
 refine kx (λI R aS=>∃(xs:List Tok) (va:y) (s4:List Nat) (cx:Nat),Kp X aJ bJ aU j h loc I R aS s ds cy cx/\aM<=aS/\(∀e∈cy,e<aM)/\I.g 6=some va/\gu X R va 7 (xs.map b0).flatten s4/\(∀e∈s4,aM<=e/\e<aS)/\ds.length+xs.length+(aU.drop cx).length<=aU.length/\
  CD loc (ja m loc) ds xs (aU.drop cx)=some r) (λY bD=> ?_) ?_
 ·refine gK (λq I R aS=>∃(xs:List Tok) (va:y) (s4:List Nat) (cx:Nat) (b:Bool),Kp X aJ bJ aU j h loc I R aS s ds cy cx/\aM<=aS/\(∀e∈cy,e<aM)/\I.g 6=some va/\I.g 7=some (.bool b)/\gu X R va 7 (xs.map b0).flatten s4/\(∀e∈s4,aM<=e/\e<aS)/\ds.length+xs.length+(aU.drop cx).length<=aU.length/\
   (b=true->andThen (rm q xs (aU.drop cx)) (λxs k=>CD loc (ja m loc) ds xs k)=some r)/\(b=false->CD loc (ja m loc) ds xs (aU.drop cx)=some r))
   m ⟨[], .aW,[],ri,true,⟨bz my.t0,bz my.t1,bz my.t5,my.a2,my.cy,my.par,my.fr⟩,Zo,λe B=>(my.cy e B).2,bF,bF, .inl (.inl ⟨rfl,rfl,rfl⟩),Zs,by simpa using IA,λ_=>V,λa=>(by cases a)⟩ ?_
  clear V my IA
  rintro q I aP be ⟨xs,va,s4,jr,b,k6,f1,hY,fN,fx,IR,f0,FB,B,jV⟩
  have fB:=ay.go k6.par k6.fr.le
  have t0:=k6.t0
  have t1:=k6.t1
  have t5:=k6.t5
  refine r6 @fx ⟨?_⟩
  refine gT ?_
  cases b with
  |false=>
   refine s5 ?_
   exact bD _ _ _ ⟨xs,va,s4,jr,⟨bz t0,bz t1,bz t5,k6.a2,k6.cy,k6.par,k6.fr⟩,f1,hY,bz fN,IR,f0,FB,jV rfl⟩
  |true=>
   have V:=B rfl
   cases q with
   |zero=>simp[rm,andThen]at V
   |succ q=>
   unfold rm at V
   refine s6 ?_
   refine dq @fN @t0 ⟨?_⟩
   cases aH:aU.drop jr with
   |nil=>rw[aH]at V;simp[iH,andThen]at V
   |cons x k=>
   rw[aH]at V
   simp only[iH]at V
   refine(Bv az fB.aY fB.par fB.ch fB.hi fB.gV fB.many (fz aH).1 1).mono ?_ ?_
   ·rintro Em bf bE ⟨aG,rfl,gz,eG⟩
    have jE:=eG.le
    rw[Zu aG]at V
    simp only[andThen,ok]at V
    rw[<-(fz aH).2]at V
    have eO:(aU.drop jr).length=(aU.drop (jr+1)).length+1:=by rw[aH,(fz aH).2];rfl
    have o9:∀e,j<=e->e<be->Z X bf e=Z X aP e:=λe H K=>eG.ad e K Zx
    have ae3:=k6.a2.ad (R:=bf) (λe B=>o9 e (k6.cy e B).1 (k6.cy e B).2)
    have apD:=IR.ad (R:=bf) (λe B=>o9 e (zE (f0 e B)) (f0 e B).2)
    have Fj:=k6.fr.trans eG
    refine ce b0.eq_1 ⟨?_⟩
    have h7:hI X (bl X bf bE (zI (b0 x) 7)) 7 (.slice bE 0 1 1)=some (1,b0 x):=pp (bn Zo) (lk _) rfl _
    obtain⟨auX,bT,Wt,ii,pS,ant,gg⟩:=(apD.ad (R:=bl X bf bE (zI (b0 x) 7)) (λe B=>aL Zo (zE (f0 e B).2))).append (j:=bE+1) Zd h7 rfl Zd rfl (by rw[avM];simp only[b0,Zz,ZY];omega) Zo (λe B=>zE (f0 e B).2)
    refine kh ii ?_
    have eL:∀e,e<bE->e∉s4->Z X bT e=Z X bf e:=λe H K=>by rw[gg e Zo K,aL Zo Zo]
    have dh:∀e,e<aM->e∉s4:=λe H K=>zE (f0 e K)
    have g7:aQ X bT aJ bJ aU (jr+1):=gz.ad (eL _ Zo (dh _ Zo)) (eL _ Zo (dh _ Zo))
    have eJ:cu X [aJ] h j bT (bE+1+1):=⟨Zo,λb al bN=>by rw[eL b Zo (dh _ Zo)];exact Fj.ad b al bN⟩
    have ae4:=ae3.ad (R:=bT) (λe B=>eL e (zE (hY e B)) (dh _ (hY e B)))
    have d2:(xs.map b0).flatten++b0 x=((xs++[x]).map b0).flatten:=by simp
    rw[d2]at pS
    have LQ:∀e∈Wt,aM<=e/\e<bE+1+1:=λe B=>by
     rcases ant e B with rfl|a
     ·omega
     ·have:=f0 e a;omega
    refine ce @t0 ⟨?_⟩
    have kW:=ay.go g7 eJ.le
    obtain⟨w,fG,oU⟩:∃w fG,aU.drop (jr+1)=w::fG:=by
     cases a:aU.drop (jr+1)with
     |nil=>rw[a]at V;simp[h8,l6]at V
     |cons w fG=>exact⟨w,fG,rfl⟩
    refine(nP az kW oU [44]).Zm ?_
    rintro GL bZ ct ⟨rfl,g8,dV⟩
    have hQ:=dV.le
    have eM:∀e,j<=e->e<bE+1+1->Z X bZ e=Z X bT e:=λe H K=>dV.ad e K Zx
    refine c7 ⟨?_⟩
    refine⟨q,Zo,xs++[x],auX,Wt,_,gX w [44],⟨bz t0,bz t1,bz t5,ae4.ad (λe B=>eM e (k6.cy e B).1 (zE (hY e B))),λe B=>⟨(k6.cy e B).1,zE (hY e B)⟩,g8,eJ.trans dV⟩,Zo,hY,bF,bF, .inl (pS.ad (λe B=>eM e (zE (LQ e B)) (LQ e B).2)),λe B=>⟨(LQ e B).1,zE (LQ e B).2⟩, ?_,λa=> ?_,λa=> ?_⟩
    ·have bm:=congrArg List.length (fz oU).2
     have b1:(aU.drop (jr+1)).length=fG.length+1:=by rw[oU];rfl
     split
     ·simp only[ZG,List.length_singleton];omega
     ·simp only[ZG,List.length_singleton];omega
    ·rw[oU]at V
     simp only[h8,l6,a,ZE]at V ⊢
     rw[(fz oU).2]
     exact V
    ·rw[oU]at V
     simp only[h8,l6,a,Zv,ZD]at V ⊢
     rw[oU]
     exact V
   ·rintro Em bf bE ⟨aG,rfl,eG⟩
    rw[Zg aG]at V
    simp only[andThen,bad,Zc]at V
    subst V
    exact⟨_,rfl,rfl,k6.fr.trans eG⟩
 ·clear V my IA
  rintro I aP be ⟨xs,va,s4,jr,k6,f1,hY,fN,IR,f0,FB,V⟩
  have t0:=k6.t0
  have t1:=k6.t1
  have t5:=k6.t5
  have dt:=k6.fr
  have uS:=k6.a2
  have xC:=k6.cy
  have dm:=k6.par
  clear k6
  refine ce @t0 ⟨?_⟩
  refine e8 (λbf=>Z X bf be=zI [.str [58]] 1/\bp X aP be bf (be+1)) ⟨bn Zo,dM⟩ ?_
  rintro bf ⟨Qo,cq⟩
  have nh:=ay.go (dm.ex cq Zo Zo) (by omega:j<=be+1)
  have eG:=dt.trans (cu.of cq)
  unfold CD at V
  rcases ge V with ⟨E,aC,rfl⟩|⟨lq,fl,aC,V⟩
  ·exact(jt az nh Zo Zo Qo aC).mono (λab R au a=>by obtain⟨D,cx,a,_⟩:=a;cases a) (λab R au a=>a.of eG (λ_ a=>by cases a;rfl))
  refine(jt az nh Zo Zo Qo aC).mono ?_ (λab R au a=>by obtain⟨E,a,_⟩:=a;cases a)
  rintro v4 bT b3 ⟨awu,i4,tq,_,g7,eJ⟩
  cases tq
  have aaJ:=awi aC
  have je:=eJ.le
  have kW:=nh.go g7 je
  have xy:=eG.trans eJ
  have eL:∀e,j<=e->e<be->Z X bT e=Z X aP e:=λe H K=>by rw[eJ.ad e Zo Zx,cq.ad e K]
  have pS:=uS.ad (R:=bT) (λe B=>eL e (xC e B).1 (xC e B).2)
  have abm:=IR.ad (R:=bT) (λe B=>eL e (zE (f0 e B)) (f0 e B).2)
  clear uS IR eL Qo cq nh eG eJ aC dt dm
  refine ce @t0 ⟨?_⟩
  cases oU:aU.drop i4 with
  |nil=>rw[oU]at V;simp[iH,andThen]at V
  |cons t fG=>
  rw[oU]at V
  simp only[iH]at V
  refine(Bv az kW.aY kW.par kW.ch kW.hi kW.gV kW.many (fz oU).1 3).mono ?_ (λGL bZ ct a=>by
   obtain⟨aG,rfl,dV⟩:=a
   rw[Zg aG]at V
   simp only[andThen,bad,Zc]at V
   subst V
   exact⟨_,rfl,rfl,xy.trans dV⟩)
  rintro GL bZ ct ⟨aG,rfl,g8,dV⟩
  have hQ:=dV.le
  rw[Zu aG]at V
  simp only[andThen,ok]at V
  rw[<-(fz oU).2]at V
  have axj:(aU.drop i4).length=(aU.drop (i4+1)).length+1:=by rw[oU,(fz oU).2];rfl
  have xx:=xy.trans dV
  have eM:∀e,j<=e->e<b3->Z X bZ e=Z X bT e:=λe H K=>dV.ad e K Zx
  have o3:=pS.ad (R:=bZ) (λe B=>eM e (xC e B).1 (zE (xC e B)))
  have abn:=abm.ad (R:=bZ) (λe B=>eM e (zE (f0 e B)) (zE (f0 e B)))
  clear pS abm eM dV xy
  refine dq b0.eq_1 @t0 ⟨?_⟩
  refine e8 (λb9=>Z X b9 ct=zI (dy ⟨[],0,t.ty,[],0,false⟩) 8/\bp X bZ ct b9 (ct+1)) ⟨bn Zo,dM⟩ ?_
  rintro b9 ⟨r7,eY⟩
  have mu:=ay.go (g8.ex eY Zo Zo) (by omega:j<=ct+1)
  have eD:=xx.trans (cu.of eY)
  obtain⟨w,kA,sh,abw⟩:=qJ V
  refine(nP az mu sh _).Zm ?_
  rintro aex cm en ⟨rfl,hD,eZ⟩
  have re:=eZ.le
  have QB:=eD.trans eZ
  have tg:Z X cm ct=zI (dy ⟨[],0,t.ty,[],0,false⟩) 8:=by rw[eZ.ad _ Zo Zx];exact r7
  have e1:∀e,j<=e->e<ct->Z X cm e=Z X bZ e:=λe H K=>by rw[eZ.ad e Zo Zx,eY.ad e K]
  have aaK:(aU.drop (i4+1)).length=kA.length+1:=by rw[sh];rfl
  refine r6 b0.eq_1 ⟨?_⟩
  refine kx (λI R aS=>∃(on:ba) (fT:Int) (no:Bool) (cx:Nat),I.g 0=some (.ptr aJ 0)/\I.g 1=some (.bool loc)/\I.g 5=some s/\I.g 6=some va/\I.g 8=some (.ptr ct 0)/\Z X R ct=zI (dy ⟨[],0,t.ty,on,fT,no⟩) 8/\(∀e,j<=e->e<ct->Z X R e=Z X bZ e)/\aQ X R aJ bJ aU cx/\cu X [aJ] h j R aS/\ct<aS/\(aU.drop cx).length<=(aU.drop (i4+1)).length/\
   xg loc (ja m loc) (ds++xs.map (pE t.ty on fT no)) (aU.drop cx)=some r) (λY bD=> ?_) ?_
  ·rcases abw with ⟨aE,V⟩|⟨aE,V⟩
   ·rw[aE]at hD ⊢
    simp only[ZE]at hD ⊢
    rw[<-(fz sh).2]at V
    simp only[y8]at V
    refine ce @t0 ⟨?_⟩
    refine e8 (λdk=>bp X cm en dk (en+1)) dM ?_
    intro dk kt
    have sG:=mu.go (hD.ex kt Zo Zo) (by omega:ct+1<=en+1)
    have xq:Z X dk ct=zI (dy ⟨[],0,t.ty,[],0,false⟩) 8:=by rw[kt.ad _ Zo];exact tg
    obtain⟨wL,sw,Fs⟩:∃wL sw,aU.drop (i4+1+1)=wL::sw:=by
     cases a:aU.drop (i4+1+1)with
     |nil=>rw[a]at V;simp[h8,l6,andThen]at V
     |cons w fG=>exact⟨w,fG,rfl⟩
    refine(nP az sG Fs _).Zm ?_
    rintro avW d8 kd ⟨rfl,mH,hO⟩
    have uH:=hO.le
    have Aw:=(QB.trans (cu.of kt)).trans hO
    have E8:Z X d8 ct=zI (dy ⟨[],0,t.ty,[],0,false⟩) 8:=by rw[hO.ad _ Zo Zx];exact xq
    have ob:andThen (andThen (iH 1 (aU.drop (if gX wL [110,111,116]then i4+1+1+1 else i4+1+1))) (λon k=>ok (on.text,on.at_,gX wL [110,111,116]) k)) (λr k=>xg loc (ja m loc) (ds++xs.map (pE t.ty r.1 r.2.1 r.2.2)) k)=some r:=by
     rw[Fs]at V
     cases Mp:gX wL [110,111,116]with
     |true=>simp only[h8,l6,Mp,ZE]at V ⊢;rw[(fz Fs).2];exact V
     |false=>simp only[h8,l6,Mp,Zv,ZD]at V ⊢;rw[Fs];exact V
    have aaL:(aU.drop (if gX wL [110,111,116]then i4+1+1+1 else i4+1+1)).length<=(aU.drop (i4+1)).length:=by simp only[Ye];split<;>omega
    clear V
    generalize (if gX wL [110,111,116]then i4+1+1+1 else i4+1+1)=i9 at ob mH aaL
    generalize (if gX wL [110,111,116]then wL else gZ)=z9
    generalize gX wL [110,111,116]=no at ob
    unfold dy at E8
    refine eP b0.eq_1 @E8 @t0 ⟨?_⟩
    refine e8 (λue=>Z X ue ct=zI (dy ⟨[],0,t.ty,[],0,no⟩) 8/\(∀e,e<kd->e≠ct->Z X ue e=Z X d8 e)) ⟨by rw[bn Zo];rfl,λe H K=>aL Zo K⟩ ?_
    rintro ue ⟨al2,uU⟩
    have FG:=mH.ad (uU _ Zo Zo) (uU _ Zo Zo)
    have se:cu X [aJ] h j ue kd:=⟨Zo,λb al bN=>by rw[uU b Zo Zo];exact Aw.ad b al bN⟩
    have Gq:=ay.go FG (by omega:j<=kd)
    cases LW:aU.drop i9 with
    |nil=>rw[LW]at ob;simp[iH,andThen]at ob
    |cons c ayp=>
    rw[LW]at ob
    simp only[iH]at ob
    refine(Bv az Gq.aY Gq.par Gq.ch Gq.hi Gq.gV Gq.many (fz LW).1 1).mono ?_ ?_
    ·rintro avV qU asj ⟨Ri,rfl,II,vO⟩
     have axl:=vO.le
     rw[Zu Ri]at ob
     simp only[andThen,ok]at ob
     rw[<-(fz LW).2]at ob
     have E7:Z X qU ct=zI (dy ⟨[],0,t.ty,[],0,no⟩) 8:=by rw[vO.ad _ Zo Zx];exact al2
     unfold dy at E7
     refine dq b0.eq_1 @E7 ⟨?_⟩
     refine j0 (ry _ _) ?_
     refine dq b0.eq_1 @E7 ⟨?_⟩
     refine bD _ _ _ ⟨c.text,c.at_,no,i9+1,bz t0,bz t1,bz t5,bz fN,bF, ?_,λe H K=> ?_, ?_, ?_,Zo, ?_,ob⟩
     ·simp(disch:=omega) only[aL,bn]<;>rfl
     ·simp(disch:=omega) only[aL]
      rw[vO.ad e Zo Zx,uU e Zo Zo,hO.ad e Zo Zx,kt.ad e Zo,e1 e H K]
     ·exact II.ad (zK) (zK)
     ·exact⟨Zo,λb al bN=>by rw[<-(se.trans vO).ad b al bN];exact zK⟩
     ·simp only[Ye]at aaL ⊢;omega
    ·rintro avV qU asj ⟨Ri,rfl,vO⟩
     rw[Zg Ri]at ob
     simp only[andThen,bad,Zc]at ob
     subst ob
     exact⟨_,rfl,rfl,se.trans vO⟩
   ·rw[aE]at hD ⊢
    simp only[Zv,ZD]at hD ⊢
    simp only[y8,andThen,ok]at V
    refine dq b0.eq_1 gZ.eq_1 ⟨?_⟩
    refine bD _ _ _ ⟨[],0,false,i4+1,bz t0,bz t1,bz t5,bz fN,bF, ?_,λe H K=> ?_, ?_, ?_,Zo,Zj _,V⟩
    ·simp(disch:=omega) only[aL];exact tg
    ·simp(disch:=omega) only[aL];exact e1 e H K
    ·exact hD.ad (zK) (zK)
    ·exact⟨Zo,λb al bN=>by rw[<-QB.ad b al bN];exact zK⟩
  ·clear V abw hD QB eZ tg e1 eD r7 eY mu xx t0 t1 t5 fN g8
   rintro I b9 dP ⟨on,fT,no,h1,t0,t1,t5,fN,iX,r7,dS,hr,eD,axE,Fz,V⟩
   have pT:=o3.ad (R:=b9) (λe B=>dS e (xC e B).1 (zE (xC e B)))
   have abo:=abn.ad (R:=b9) (λe B=>dS e (zE (f0 e B)) (zE (f0 e B)))
   clear o3 abn
   obtain⟨Wx,c3⟩:=abo.wv Zd (aet xs) (by simp only[Zp];omega) (P:=λe=>aM<=e/\e<be) f0
   have eO:=c3.len
   rw[Zp]at eO
   refine Lr @fN @eO ⟨?_⟩
   have AQ:=eO
   refine kx (λI R aS=>∃(fc:y) (hS:List Nat),I.g 0=some (.ptr aJ 0)/\I.g 1=some (.bool loc)/\I.g 5=some fc/\gu X R fc 8 ((ds++xs.map (pE t.ty on fT no)).map dy).flatten hS/\(∀e∈hS,j<=e/\e<aS)/\aQ X R aJ bJ aU h1/\cu X [aJ] h j R aS/\dP<=aS) (λY bD=> ?_) ?_
   ·refine gK (λacI I R aS=>∃(q:Nat) (fc:y) (hS:List Nat) (nm:ba) (EK:Int),acI=xs.length-q/\q<=xs.length/\I.g 0=some (.ptr aJ 0)/\I.g 1=some (.bool loc)/\I.g 5=some fc/\I.g 8=some (.ptr ct 0)/\I.g 52=some va/\I.g 53=some (.Z (xs.length:Int))/\I.g 54=some (.Z (q:Int))/\Z X R ct=zI (dy ⟨nm,EK,t.ty,on,fT,no⟩) 8/\
     gu X R fc 8 ((ds++(xs.take q).map (pE t.ty on fT no)).map dy).flatten hS/\(∀e∈hS,(e∈cy\/dP<=e)/\e<aS)/\(∀e,aM<=e->e<be->Z X R e=Z X b9 e)/\aQ X R aJ bJ aU h1/\cu X [aJ] h j R aS/\dP<=aS)
     xs.length ⟨0,s,cy,[],0,Zo,Zo,bz t0,bz t1,bz t5,bz iX,bF,bF,ho,r7,by simpa using pT,λe B=>⟨.inl B,zE (xC e B)⟩,λ_ _ _=>rfl,hr,eD,Zj _⟩ ?_
    rintro acI I cm en ⟨q,fc,hS,nm,EK,rfl,pO,t0,t1,t5,iX,TE,BV,np,tg,wa,qp,ab2,hD,eZ,re⟩
    refine Lr @BV @np ⟨?_⟩
    refine gT ?_
    refine EO (λcJ=> ?_) (λcJ=> ?_)
    ·have cJ:q<xs.length:=Zo
     have aaD:=c3.g2 q (by simpa using cJ)
     have RM:=(c3.ad (R:=cm) (λe B=>ab2 e B.1 B.2)).row Zd (i:=q) (r:=b0 xs[q]) (by rw[Zy,Zf cJ];rfl)
     have Mu:xs.take (q+1)=xs.take q++[xs[q]]:=List.take_succ_eq_append_getElem cJ
     generalize xs[q]=bo at RM Mu
     have y1:∀e∈hS,j<=e/\e≠ct/\¬(aM<=e/\e<be)/\e<en:=λe B=>by
      obtain⟨H,K⟩:=qp e B
      rcases H with H|H
      ·have:=xC e H;have:=hY e H;exact⟨Zo,Zo,Zo,Zo⟩
      ·exact⟨Zo,Zo,Zo,Zo⟩
     unfold dy at tg
     refine fA @TE @np @aaD @RM b0.eq_1 @iX @tg ⟨?_⟩
     refine j0 (ry _ _) ?_
     refine fA @TE @np @aaD @RM b0.eq_1 @iX (Za @tg @t5) ⟨?_⟩
     generalize tk:bl X _ (en+1+8) _=d8
     have nz:Z X d8 (en+1+8)=zI (dy (pE t.ty on fT no bo)) 8:=by rw[<-tk,bn Zo];rfl
     have E8:Z X d8 ct=zI (dy (pE t.ty on fT no bo)) 8:=by rw[<-tk];simp(disch:=omega) only[aL,bn]<;>rfl
     have gJ:∀e,e<en->e≠ct->Z X d8 e=Z X cm e:=λe H K=>by rw[<-tk];exact zK
     clear tk
     have h7:hI X d8 8 (.slice (en+1+8) 0 1 1)=some (1,dy (pE t.ty on fT no bo)):=pp nz (lk _) rfl _
     have er:(ds++(xs.take q).map (pE t.ty on fT no)).length<=100000:=by
      simp only[ZG,Zp,YF];omega
     obtain⟨lF,ue,s3,ii,abg,ans,aaG⟩:=(wa.ad (R:=d8) (λe B=>gJ e (y1 e B).2.2.2 (y1 e B).2.1)).append (j:=en+1+8+1) Zd h7 rfl Zd rfl (by rw[akh];simp only[dy,Zz,ZY];omega) Zo (λe B=>zE (y1 e B))
     refine kh ii ?_
     have uU:∀e,e<en->e≠ct->e∉hS->Z X ue e=Z X cm e:=λe H K am=>by rw[aaG e Zo am,gJ e H K]
     have bB:=zJ q
     have d2:((ds++(xs.take q).map (pE t.ty on fT no)).map dy).flatten++dy (pE t.ty on fT no bo)=((ds++(xs.take (q+1)).map (pE t.ty on fT no)).map dy).flatten:=by rw[Mu];simp
     rw[d2]at abg
     refine dq @np @bB ⟨?_⟩
     refine⟨xs.length-(q+1),Zo,q+1,lF,s3,bo.text,bo.at_,rfl,Zo,bz t0,bz t1,bF,bz iX,bz TE,bz BV,bF, ?_, .inl abg, ?_, ?_, ?_, ?_,Zo⟩
     ·rw[aaG _ Zo (λa=>(y1 _ a).2.1 rfl)];exact E8
     ·intro e B
      rcases ans e B with rfl|a
      ·exact⟨.inr Zo,Zo⟩
      ·have:=qp e a;exact⟨this.1,Zo⟩
     ·intro e H K
      rw[uU e Zo Zo (λa=>(y1 e a).2.2.1 ⟨H,K⟩)]
      exact ab2 e H K
     ·exact hD.ad (uU _ Zo Zo (λa=>zE (y1 _ a))) (uU _ Zo Zo (λa=>zE (y1 _ a)))
     ·exact⟨Zo,λb al bN=>by rw[uU b Zo Zo (λa=>zE (y1 _ a))];exact eZ.ad b al bN⟩
    ·have xK:q=xs.length:=Zo
     subst xK
     rw[zq]at wa
     refine c7 ⟨?_⟩
     exact bD _ _ _ ⟨fc,hS,bz t0,bz t1,bz t5,wa,λe B=>by
      obtain⟨H,K⟩:=qp e B
      rcases H with H|H
      ·have:=xC e H;omega
      ·omega,hD,eZ,re⟩
   ·clear pT abo r7 dS t0 t1 t5 fN iX hr eD c3 eO
    rintro I cm en ⟨fc,hS,t0,t1,t5,wa,qp,hD,eZ,re⟩
    have aaN:(ds++xs.map (pE t.ty on fT no)).length+(aU.drop h1).length<=aU.length:=by simp only[ZG,Zp];omega
    generalize ds++xs.map (pE t.ty on fT no)=HD at wa V aaN
    have fin:∀(R:M ak) (aS:Nat),(∀e,e<en->e≠aJ->Z X R e=Z X cm e)->en<=aS->r= .ok (HD,aU.drop h1)->aQ X R aJ bJ aU h1->∃ds cx b,r= .ok (ds,aU.drop cx)/\hd X R (ei j aS) b fc 8 (ds.map dy)/\aQ X R aJ bJ aU cx/\cu X [aJ] h j R aS:=by
     intro R aS H K am aC
     obtain⟨b,c3⟩:=(wa.ad (R:=R) (λe B=>H e (qp e B).2 (zE (qp e B)))).JJ Zd (WZ HD) (by simp only[Zp];omega) (ek:=ei j aS) (λe B=>⟨(qp e B).1,zE (qp e B)⟩)
     exact⟨HD,h1,b,am,c3,aC,Zo,λb al bN=>by rw[H b Zo (by simpa using bN)];exact eZ.ad b al bN⟩
    refine ce @t0 ⟨?_⟩
    obtain⟨En,oe,ra⟩:∃En oe,aU.drop h1=En::oe:=by
     cases a:aU.drop h1 with
     |nil=>rw[a]at V;simp[xg,ys]at V
     |cons w fG=>exact⟨w,fG,rfl⟩
    refine e8 (λdk=>dk=cm) rfl ?_
    rintro dk rfl
    refine(rp az Zo hD Zo Zo (fz ra).1).Zm ?_
    rintro u8 d8 kd ⟨rfl,nB⟩
    have uH:=nB.le
    have mH:=hD.ad (nB.ad _ Zo) (nB.ad _ Zo)
    rw[ra]at V
    simp only[xg,ys]at V
    by_cases Mq:En.text=[59]
    ·rw[Zu Mq]at V
     have cB:decide (En.text≠[59])=false:=by simp[Mq]
     have XH:ja m loc HD (aU.drop (h1+1))=some r->∀(I:dc) (gt:M ak),I.g 0=some (.ptr aJ 0)->I.g 1=some (.bool loc)->I.g 5=some fc->(∀e,e<kd->e≠aJ->Z X gt e=Z X d8 e)->aQ X gt aJ bJ aU (h1+1)->
      ∃fI,fI<m+1/\∃s ds cy cx,Kp X aJ bJ aU j h loc I gt kd s ds cy cx/\ds.length+(aU.drop cx).length<=aU.length/\ja fI loc ds (aU.drop cx)=some r:=by
      intro kP I gt t0 t1 t5 aG apa
      refine⟨m,Zo,fc,HD,hS,h1+1,⟨t0,t1,t5,wa.ad (λe B=> ?_),λe B=>zE (qp e B),apa,Zo,λb al bN=> ?_⟩, ?_,kP⟩
      ·have:=qp e B
       rw[aG e Zo Zo,nB.ad e Zo]
      ·rw[aG b Zo (by simpa using bN),nB.ad b Zo];exact eZ.ad b al bN
      ·simp only[Ye]at aaN ⊢;omega
     obtain⟨c,ao,a7,b2,a3,a4⟩:=mH.at_
     have Sd:=jW a7 a3
     have ab0:=jW a7 b2
     have jC:=(Zb.1 (fz ra).1).1
     have cE:=mH.ne
     have bB:=zJ h1
     have adr:∀gt,gt=bl X d8 aJ (some (.cells (d3 c 1 [.Z ((h1+1:Nat):Int)]) 2 .own))->aQ X gt aJ bJ aU (h1+1):=by
      rintro gt rfl
      refine mH.on (c:=d3 c 1 [.Z ((h1+1:Nat):Int)]) (bn Zo) (λd9 st a=>by rw[a7]at a;cases a;exact qL ..) (aL Zo Zo)
     cases loc with
     |false=>
      simp only[Zv,ZD]at V
      have j9:(En::oe).drop 1=aU.drop (h1+1):=by rw[(fz ra).2];rfl
      rw[j9]at V
      refine fA b0.eq_1 @cB @t1 @t0 @Sd @bB @a7 ⟨?_⟩
      exact XH V _ _ (bz t0) (bz t1) (bz t5) (λe H K=>aL Zo K) (adr _ rfl)
     |true=>
      simp only[ZE]at V
      obtain⟨pu,sw,Fs⟩:∃pu sw,oe=pu::sw:=by
       cases oe with
       |nil=>simp[ys]at V
       |cons w fG=>exact⟨w,fG,rfl⟩
      subst Fs
      simp only[ys]at V
      have cf:aU[h1+1]? =some pu:=(fz (fz ra).2).1
      have FV:=(Zb.1 cf).1
      have aaE:=a4.g2 (h1+1) (by rw[Zp];exact FV)
      have ψ:aV X d8 (.ptr bJ ((h1+1)*7+1))=some (.str pu.text):=a4.cell (h1+1) (b0 pu) 1 _ (by rw[Zy,cf];rfl) rfl
      by_cases L9:pu.text=[108,101,116]
      ·rw[Zu L9]at V
       simp only[ok,Zc]at V
       have cC:decide (pu.text=[108,101,116])=true:=by simp[L9]
       refine fA b0.eq_1 @cB @t1 @t0 @ab0 @Sd (Za @bB (Za @aaE (Za @ψ (Za @cC @t5)))) ⟨?_⟩
       exact fin _ _ (λe H K=>nB.ad e Zo) Zo (by rw[<-V,ra]) mH
      ·rw[Zg L9]at V
       have cC:decide (pu.text=[108,101,116])=false:=by simp[L9]
       have j9:(En::pu::sw).drop 1=aU.drop (h1+1):=by rw[(fz ra).2];rfl
       rw[j9]at V
       refine fA b0.eq_1 @cB @t1 @t0 @ab0 @Sd (Za @bB (Za @aaE (Za @ψ (Za @cC @a7)))) ⟨?_⟩
       exact XH V _ _ (bz t0) (bz t1) (bz t5) (λe H K=>aL Zo K) (adr _ rfl)
    ·rw[Zg Mq]at V
     simp only[ok,Zc]at V
     have cB:decide (En.text≠[59])=true:=by simp[Mq]
     refine eP b0.eq_1 @cB @t5 ⟨?_⟩
     exact fin _ _ (λe H K=>nB.ad e Zo) Zo (by rw[<-V,ra]) mH
end
def iG{v w:y}(a:fM v=some w):v.cells=[v]/\l3 v=true/\y.same 30 v v=true:=by
 cases v with
 |slice b W n c=>exact⟨rfl,rfl,by simp[y.same]⟩
 |ej b W n c=>exact⟨rfl,rfl,by simp[y.same]⟩
 |aW=>exact⟨rfl,rfl,rfl⟩
 |_=>simp[fM]at a
def ma(X:cl)(h:M ak):(Nat->Prop)->List ee->List (List y)->Prop
 |_,[],aK=>aK=[]
 |P,ai::b8,aK=>∃row fV,aK=row::fV/\vl X h P ai row/\ma X h P b8 fV
def ma.ad{X:cl}{h R:M ak}:∀{b8:List ee}{aK:List (List y)}{P Q:Nat->Prop}(q:∀e,P e->Z X R e=Z X h e) (aB:∀e,P e->Q e),ma X h P b8 aK->ma X R Q b8 aK:=by
 intro b8
 induction b8 with
 |nil=>intro aK P Q q aB a;exact a
 |cons ai b8 aj=>
  rintro aK P Q q aB ⟨row,fV,H,K,am⟩
  exact⟨row,fV,H,K.ad q aB,aj q aB am⟩
def ma.of{X:cl}{h:M ak}{P:Nat->Prop}:∀{b8:List ee}{aK:List (List y)},aK.length=b8.length->(∀(i:Nat) ai,b8[i]? =some ai->∃row,aK[i]? =some row/\vl X h P ai row)->ma X h P b8 aK:=by
 intro b8
 induction b8 with
 |nil=>intro aK a _;exact YE.1 a
 |cons ai b8 aj=>
  intro aK a bw
  cases aK with
  |nil=>simp at a
  |cons row aK=>
   obtain⟨r,H,K⟩:=bw 0 ai rfl
   simp at H;subst H
   exact⟨row,aK,rfl,K,aj (by simpa using a) λi ai bG=>by simpa using bw (i+1) ai (by simpa using bG)⟩
def vl.len{X:cl}{h:M ak}{P:Nat->Prop}{ai:ee}{row:List y}(a:vl X h P ai row):row.length=4:=by
 obtain⟨_,_,_,_,_,rfl,_⟩:=a;rfl
def ma.wide{X:cl}{h:M ak}:∀{b8:List ee}{aK:List (List y)}{P:Nat->Prop},ma X h P b8 aK->aK.length=b8.length/\∀r∈aK,r.length=4:=by
 intro b8
 induction b8 with
 |nil=>rintro aK P rfl;simp
 |cons E b8 aj=>
  rintro aK P ⟨mw,fV,rfl,K,am⟩
  obtain⟨aC,bm⟩:=aj am
  refine⟨by simp[aC],λr V=> ?_⟩
  rcases Zr.1 V with rfl|V
  ·exact K.len
  ·exact bm r V
def qP(X:cl)(h:M ak):(Nat->Prop)->List ee->List (List y)->Prop
 |_,[],aK=>aK=[]
 |P,ai::b8,aK=>∃row fV Q,aK=row::fV/\(∀e,Q e->P e)/\yF X h Q ai row/\qP X h (λe=>P e/\¬Q e) b8 fV
def qP.ad{X:cl}{h R:M ak}:∀{b8:List ee}{aK:List (List y)}{P Q:Nat->Prop}(q:∀e,P e->Z X R e=Z X h e) (aB:∀e,P e->Q e),qP X h P b8 aK->qP X R Q b8 aK:=by
 intro b8
 induction b8 with
 |nil=>intro aK P Q q aB a;exact a
 |cons ai b8 aj=>
  rintro aK P Q q aB ⟨row,fV,eE,H,bG,K,am⟩
  exact⟨row,fV,eE,H,λe B=>aB e (bG e B),K.ad (λe B=>q e (bG e B)) (λe B=>B),aj (λe B=>q e B.1) (λe B=>⟨aB e B.1,B.2⟩) am⟩
def qP.snoc{X:cl}{h:M ak}{Q:Nat->Prop}{ai:ee}{row:List y}(a:yF X h Q ai row):∀{b8:List ee}{aK:List (List y)}{oD P:Nat->Prop},qP X h oD b8 aK->(∀e,oD e->P e)->(∀e,Q e->P e/\¬oD e)->qP X h P (b8++[ai]) (aK++[row]):=by
 intro b8
 induction b8 with
 |nil=>rintro aK oD P rfl H K;exact⟨row,[],Q,rfl,λe B=>(K e B).1,a,rfl⟩
 |cons E b8 aj=>
  rintro aK oD P ⟨mw,fV,eE,rfl,bG,am,aC⟩ H K
  exact⟨mw,fV++[row],eE,rfl,λe B=>H e (bG e B),am,aj aC (λe B=>⟨H e B.1,B.2⟩) (λe B=>⟨⟨(K e B).1,λku=>(K e B).2 (bG e ku)⟩,λo5=>(K e B).2 o5.1⟩)⟩
def qP.wide{X:cl}{h:M ak}:∀{b8:List ee}{aK:List (List y)}{P:Nat->Prop},qP X h P b8 aK->aK.length=b8.length/\∀r∈aK,r.length=4:=by
 intro b8
 induction b8 with
 |nil=>rintro aK P rfl;simp
 |cons E b8 aj=>
  rintro aK P ⟨mw,fV,eE,rfl,bG,K,am⟩
  obtain⟨aC,bm⟩:=aj am
  refine⟨by simp[aC],λr V=> ?_⟩
  rcases Zr.1 V with rfl|V
  ·exact K.row.len
  ·exact bm r V
def qP.eqs{X:cl}{h:M ak}:∀{b8:List ee}{aK:List (List y)}{P:Nat->Prop},qP X h P b8 aK->ma X h P b8 aK:=by
 intro b8
 induction b8 with
 |nil=>intro aK P a;exact a
 |cons ai b8 aj=>rintro aK P ⟨row,fV,eE,H,bG,K,am⟩;exact⟨row,fV,H,K.row.ad (λ_ _=>rfl) bG,(aj am).ad (λ_ _=>rfl) λ_ a=>a.1⟩
def lr(X:cl)(h:M ak)(P:Nat->Prop)(g:Go.aQ.Node)(row:List y):Prop:=∃cW cO a2 dF b4 cr cS fh aK,row=[.str g.name, .Z g.at_,cW,cO,a2,dF]/\et X h P b4 cW 8 (g.dg.map dy)/\et X h P cr cO 8 (g.out.map dy)/\et X h P cS a2 8 (g.loc.map dy)/\et X h P fh dF 4 aK/\ma X h P g.eqs aK
def wU(X:cl)(h:M ak)(P:Nat->Prop)(g:Go.aQ.Node)(row:List y):Prop:=∃(ah:Nat->Nat) (cW cO a2 dF:y) (b4 cr cS fh:Nat) (aK:List (List y)),row=[.str g.name, .Z g.at_,cW,cO,a2,dF]/\hd X h (λe=>P e/\ah e=1) b4 cW 8 (g.dg.map dy)/\hd X h (λe=>P e/\ah e=2) cr cO 8 (g.out.map dy)/\hd X h (λe=>P e/\ah e=3) cS a2 8 (g.loc.map dy)/\hd X h (λe=>P e/\ah e=4) fh dF 4 aK/\qP X h (λe=>P e/\ah e=0) g.eqs aK
def wU.row{X:cl}{h:M ak}{P:Nat->Prop}{g:Go.aQ.Node}{row:List y}(a:wU X h P g row):lr X h P g row:=by
 obtain⟨ah,cW,cO,a2,dF,b4,cr,cS,fh,aK,D,H,K,am,aC,bm⟩:=a
 exact⟨cW,cO,a2,dF,b4,cr,cS,fh,aK,D,H.rd.lift λ_ a=>a.1,K.rd.lift λ_ a=>a.1,am.rd.lift λ_ a=>a.1,aC.rd.lift λ_ a=>a.1,bm.eqs.ad (λ_ _=>rfl) λ_ a=>a.1⟩
def wU.ad{X:cl}{h R:M ak}{P Q:Nat->Prop}{g:Go.aQ.Node}{row:List y}(a:wU X h P g row)(q:∀e,P e->Z X R e=Z X h e)(aB:∀e,P e->Q e):wU X R Q g row:=by
 obtain⟨ah,cW,cO,a2,dF,b4,cr,cS,fh,aK,D,H,K,am,aC,bm⟩:=a
 have de:∀i e,P e/\ah e=i->Z X R e=Z X h e:=λi e B=>q e B.1
 have Jl:∀i e,P e/\ah e=i->Q e/\ah e=i:=λi e B=>⟨aB e B.1,B.2⟩
 exact⟨ah,cW,cO,a2,dF,b4,cr,cS,fh,aK,D,(H.ad (de 1)).lift (Jl 1),(K.ad (de 2)).lift (Jl 2),(am.ad (de 3)).lift (Jl 3),(aC.ad (de 4)).lift (Jl 4),bm.ad (de 0) (Jl 0)⟩
structure sW(X:cl)(h:M ak)(n nL:Nat)(nm:ba)(E:Int)(cW cO a2:y)(dg out loc:List d4):Prop where
 lV:Z X h nL=zI [.str nm, .Z E,cW,cO,a2, .aW] 6
 lt:nL<n
 NG:∃m1 fp il b4 cr cS,nL+1<=m1/\m1<=fp/\fp<=il/\il<=n/\hd X h (ei (nL+1) m1) b4 cW 8 (dg.map dy)/\hd X h (ei m1 fp) cr cO 8 (out.map dy)/\hd X h (ei fp il) cS a2 8 (loc.map dy)
def sW.ad{X:cl}{h R:M ak}{n aS nL:Nat}{nm:ba}{E:Int}{cW cO a2:y}{dg out loc:List d4}(a:sW X h n nL nm E cW cO a2 dg out loc)(q:∀e,nL<=e->e<n->Z X R e=Z X h e)(aI:n<=aS):sW X R aS nL nm E cW cO a2 dg out loc:=by
 obtain⟨m1,fp,il,b4,cr,cS,cF,cH,d7,fU,H,K,am⟩:=a.NG
 exact⟨by rw[q nL (Zj _) a.lt];exact a.lV,zE a.lt,m1,fp,il,b4,cr,cS,cF,cH,d7,Zo,H.ad λe B=>q e (zE B.1) (zE B.2),K.ad λe B=>q e (zE B.1) (zE B.2),am.ad λe B=>q e (zE B.1) (zE B.2)⟩
section
variable{X:cl}{h R aX aP:M ak}{j au aM be aJ bJ:Nat}{aU:List Tok}{i:Nat}
def sW.fr{n aS nL:Nat}{nm:ba}{E:Int}{cW cO a2:y}{dg out loc:List d4}(a:sW X h n nL nm E cW cO a2 dg out loc)(gl:cu X [aJ] h n R aS)(al:aJ<nL):sW X R aS nL nm E cW cO a2 dg out loc:=
 a.ad (λe H K=>gl.ad e K Zx) gl.le
def awj{kH lF:ba}{k:List Tok}:rC [kH,lF] gZ k=andThen (eo kH k) λ_ k=>eo lF k:=by
 simp only[rC]
 cases a:eo kH k with
 |none=>rfl
 |some r=>
  cases r with
  |error E=>rfl
  |ok p=>
   obtain⟨x,cb⟩:=p
   simp only[andThen]
   cases eo lF cb with
   |none=>rfl
   |some eU=>cases eU with
    |error E=>rfl
    |ok p=>obtain⟨e,cD⟩:=p;rfl
def asD(az:dW X)(c2:mY X){n:Nat}(lY:n<=200000)(ly:aU.length<=100000)(ay:iu X h j aJ bJ aU i){r:Except Int (Go.aQ.Node×List Tok)}(V:Go.aQ.node n (aU.drop i)=some r):
 a1 X 36 [.ptr aJ 0] h j (λab R au=>∃g cx row,r= .ok (g,aU.drop cx)/\ab= .agg row/\wU X R (ei j au) g row/\aQ X R aJ bJ aU cx/\cu X [aJ] h j R au) (iN X aJ h j r):=by
 refine zL az (agr X) ?_
 rw[ags]
 unfold UL
 have gx:=ay.aY
 have j8:=ay.hi
 have hB:=ay.ch
 have jy:=ay.gV
 unfold Go.aQ.node at V
 refine c7 ⟨?_⟩
 refine e8 (λaX=>Z X aX (j+1)=zI [.str [110,111,100,101]] 1/\Z X aX j=zI [.str [], .Z 0, .aW, .aW, .aW, .aW] 6/\bp X h j aX (j+1+1)) ⟨bn Zo,by simp(disch:=omega) only[aL,bn]<;>rfl,dM⟩ ?_
 rintro aX ⟨an,ql,bY⟩
 have mR:=ay.go (ay.par.ex bY Zo Zo) (by omega:j<=j+1+1)
 have h5:cu X [aJ] h j aX (j+1+1):=cu.of bY
 rcases ge V with ⟨E,K,rfl⟩|⟨hx,cD,K,V⟩
 ·exact(jt az mR Zo Zo an K).mono (λab R au a=>by obtain⟨D,cx,a,_⟩:=a;cases a) (λab R au a=>a.of h5 (λ_ a=>by cases a;rfl))
 refine(jt az mR Zo Zo an K).mono ?_ (λab R au a=>by obtain⟨E,a,_⟩:=a;cases a)
 clear K
 rintro NX aP be ⟨ay4,jr,Ir,_,dm,dt⟩
 cases Ir
 have f1:=dt.le
 have vP:=h5.trans dt
 have ti:Z X aP j=zI [.str [], .Z 0, .aW, .aW, .aW, .aW] 6:=by rw[dt.ad _ Zo Zx];exact ql
 have fB:=ay.go dm vP.le
 clear an ql bY mR h5 dt
 cases to:aU.drop jr with
 |nil=>rw[to]at V;simp[iH,andThen]at V
 |cons x ec=>
 rw[to]at V
 simp only[iH]at V
 refine(Bv az fB.aY fB.par fB.ch fB.hi fB.gV fB.many (fz to).1 1).mono ?_ (λGL bZ ct a=>by
  obtain⟨aG,rfl,dV⟩:=a
  rw[Zg aG]at V
  simp only[andThen,bad,Zc]at V
  subst V
  exact⟨_,rfl,rfl,vP.trans dV⟩)
 rintro Em bf bE ⟨aG,rfl,gz,eG⟩
 have jE:=eG.le
 rw[Zu aG]at V
 simp only[andThen,ok]at V
 rw[<-(fz to).2]at V
 have q3:Z X bf j=zI [.str [], .Z 0, .aW, .aW, .aW, .aW] 6:=by rw[eG.ad _ Zo Zx];exact ti
 have Fj:=vP.trans eG
 clear ti eG vP dm fB
 refine ce b0.eq_1 ⟨?_⟩
 refine e8 (λbT=>Z X bT (bE+1+1)=zI [.str [40]] 1/\sW X bT (bE+1+1+1) (bE+1) x.text x.at_ .aW .aW .aW [] [] []/\bp X bf bE bT (bE+1+1+1)) ⟨bn Zo,⟨by simp(disch:=omega) only[aL,bn]<;>rfl,Zo,bE+1+1,bE+1+1,bE+1+1,0,0,0,Zj _,Zj _,Zj _,Zo,hd.nil _ _,hd.nil _ _,hd.nil _ _⟩,dM⟩ ?_
 rintro bT ⟨CN,acT,dA⟩
 have xt:Z X bT j=zI [.str [], .Z 0, .aW, .aW, .aW, .aW] 6:=by rw[dA.ad _ Zo];exact q3
 have eJ:=Fj.trans (cu.of dA)
 have kW:=ay.go (gz.ex dA Zo Zo) (by omega:j<=bE+1+1+1)
 clear q3 Fj gz dA
 change andThen (eo [40] (aU.drop (jr+1))) _=some r at V
 rcases ge V with ⟨E,K,rfl⟩|⟨hx,cD,K,V⟩
 ·exact(jt az kW Zo Zo CN K).mono (λab R au a=>by obtain⟨D,cx,a,_⟩:=a;cases a) (λab R au a=>a.of eJ (λ_ a=>by cases a;rfl))
 refine(jt az kW Zo Zo CN K).mono ?_ (λab R au a=>by obtain⟨E,a,_⟩:=a;cases a)
 clear K
 rintro v5 bZ ct ⟨ay5,i5,si,_,g8,dV⟩
 cases si
 have hQ:=dV.le
 have acU:=acT.fr dV Zo
 have Fa:Z X bZ j=zI [.str [], .Z 0, .aW, .aW, .aW, .aW] 6:=by rw[dV.ad _ Zo Zx];exact xt
 have xx:=eJ.trans dV
 have oo:=ay.go g8 xx.le
 clear acT xt eJ dV CN kW
 obtain⟨e,kz,Ip,I2⟩:=qJ V
 refine(nP az oo Ip _).Zm ?_
 rintro aew b9 dP ⟨rfl,hr,eD⟩
 have qx:=eD.le
 have M9:=acU.fr eD Zo
 have Aq:Z X b9 j=zI [.str [], .Z 0, .aW, .aW, .aW, .aW] 6:=by rw[eD.ad _ Zo Zx];exact Fa
 have ut:=xx.trans eD
 clear acU Fa xx eD g8 oo
 refine r6 b0.eq_1 ⟨?_⟩
 refine kx (λI R aS=>∃(cW:y) (dg:List d4) (cx:Nat),I.g 0=some (.ptr aJ 0)/\I.g 2=some (.ptr j 0)/\I.g 4=some (.ptr (bE+1) 0)/\sW X R aS (bE+1) x.text x.at_ cW .aW .aW dg [] []/\Z X R j=zI [.str [], .Z 0, .aW, .aW, .aW, .aW] 6/\aQ X R aJ bJ aU cx/\cu X [aJ] h j R aS/\
  (andThen (eo [114,101,116,117,114,110,115] (aU.drop cx)) λ_ k=>andThen (eo [40] k) λ_ k=>andThen (ja n false [] k) λout k=>andThen (eo [41] k) λ_ k=>
   h8 [118,97,114] k λe k=>andThen (match e with
    |some _=>andThen (ja n true [] k) λds k=>andThen (eo [59] k) λ_ k=>ok ds k
    |none=>ok [] k) λloc k=>
   andThen (eo [108,101,116] k) λ_ k=>andThen (lR n [] k) λb8 k=>ok (⟨x.text,x.at_,dg,out,loc,b8⟩:Go.aQ.Node) k)=some r) (λY bD=> ?_) ?_
 ·rcases I2 with ⟨aE,V⟩|⟨aE,V⟩
  ·rw[aE]at hr ⊢
   simp only[ZE]at hr ⊢
   rw[<-(fz Ip).2]at V
   simp only[andThen,ok]at V
   refine ce b0.eq_1 ⟨?_⟩
   refine bD _ _ _ ⟨.aW,[],i5+1,bF,bF,bF,M9.ad (λe H K=>zK) Zo,by simp(disch:=omega) only[aL];exact Aq,hr.ad (zK) (zK), ?_,V⟩
   exact⟨Zo,λb al bN=>by rw[<-ut.ad b al bN];exact zK⟩
  ·rw[aE]at hr ⊢
   simp only[Zv,ZD]at hr ⊢
   simp only[]at V
   refine dq b0.eq_1 gZ.eq_1 ⟨?_⟩
   refine e8 (λcm=>bp X b9 dP cm (dP+1)) dM ?_
   intro cm e6
   have DV:=M9.fr (cu.of (X:=[aJ]) e6) Zo
   have r9:Z X cm j=zI [.str [], .Z 0, .aW, .aW, .aW, .aW] 6:=by rw[e6.ad _ Zo];exact Aq
   have eZ:=ut.trans (cu.of e6)
   have ni:=ay.go (hr.ex e6 Zo Zo) (by omega:j<=dP+1)
   clear M9 Aq ut hr e6
   rcases ge V with ⟨E,aF,rfl⟩|⟨dg,arw,aF,V⟩
   ·rcases ge aF with ⟨gd,K,am⟩|⟨ds,oe,K,aF⟩
    ·cases am
     exact(EV az ly ni K).mono (λab R au a=>by obtain⟨D,cx,b,a,_⟩:=a;cases a) (λab R au a=>a.of eZ (λ_ a=>by cases a;rfl))
    refine(EV az ly ni K).mono ?_ (λab R au a=>by obtain⟨E,a,_⟩:=a;cases a)
    rintro GM dk jI ⟨aki,i8,w6,C4,Dr,v7,gR⟩
    cases C4
    have Dc:=gR.le
    have Gi:=DV.fr gR Zo
    obtain⟨gO,kf,sz⟩:=iG Dr.rd.len
    refine c7 ⟨?_⟩
    have xq:=Gi.lV
    refine gi (nO (W:=2) xq Zo Zo gO kf) ?_
    refine c7 ⟨?_⟩
    refine e8 (λd8=>Z X d8 jI=zI [.str [41]] 1/\∀e,e<jI->e≠(bE+1)->Z X d8 e=Z X dk e) ⟨bn Zo,λe H K=>zK⟩ ?_
    rintro d8 ⟨Qp,gJ⟩
    have mH:=v7.ad (gJ _ Zo Zo) (gJ _ Zo Zo)
    have hO:cu X [aJ] h j d8 (jI+1):=⟨Zo,λb al bN=>by rw[gJ b Zo Zo];exact(eZ.trans gR).ad b al bN⟩
    rcases ge aF with ⟨gd,aC,bm⟩|⟨t8,sw,aC,aF⟩
    ·cases bm
     exact(jt az (ay.go mH Zo) Zo Zo Qp aC).mono (λab R au a=>by obtain⟨D,cx,a,_⟩:=a;cases a) (λab R au a=>a.of hO (λ_ a=>by cases a;rfl))
    ·cases aF
   ·rcases ge aF with ⟨gd,K,am⟩|⟨ds,oe,K,aF⟩
    ·cases am
    refine(EV az ly ni K).mono ?_ (λab R au a=>by obtain⟨E,a,_⟩:=a;cases a)
    rintro GM dk jI ⟨aki,i8,w6,C4,Dr,v7,gR⟩
    cases C4
    have Dc:=gR.le
    have Gi:=DV.fr gR Zo
    obtain⟨gO,kf,sz⟩:=iG Dr.rd.len
    refine c7 ⟨?_⟩
    have xq:=Gi.lV
    refine gi (nO (W:=2) xq Zo Zo gO kf) ?_
    refine c7 ⟨?_⟩
    refine e8 (λd8=>Z X d8 jI=zI [.str [41]] 1/\Z X d8 (bE+1)=zI [.str x.text, .Z x.at_,GM, .aW, .aW, .aW] 6/\∀e,e<jI->e≠(bE+1)->Z X d8 e=Z X dk e) ⟨bn Zo,by rw[aL Zo Zo,bn Zo];rfl,λe H K=>zK⟩ ?_
    rintro d8 ⟨Qp,E8,gJ⟩
    have mH:=v7.ad (gJ _ Zo Zo) (gJ _ Zo Zo)
    have hO:cu X [aJ] h j d8 (jI+1):=⟨Zo,λb al bN=>by rw[gJ b Zo Zo];exact(eZ.trans gR).ad b al bN⟩
    have axR:=DV.lt
    have Gj:sW X d8 (jI+1) (bE+1) x.text x.at_ GM .aW .aW _ [] []:=⟨E8,Zo,jI,jI,jI,w6,0,0,Zo,Zj _,Zj _,Zo,(Dr.ad (λe B=>gJ e B.2 (zE B.1))).lift (λe B=>⟨zE B.1,zE B.2⟩),hd.nil _ _,hd.nil _ _⟩
    have tj:Z X d8 j=zI [.str [], .Z 0, .aW, .aW, .aW, .aW] 6:=by rw[gJ _ Zo Zo,gR.ad _ Zo Zx];exact r9
    rcases ge aF with ⟨gd,aC,bm⟩|⟨t8,sw,aC,aF⟩
    ·cases bm
    refine(jt az (ay.go mH Zo) Zo Zo Qp aC).mono ?_ (λab R au a=>by obtain⟨E,a,_⟩:=a;cases a)
    rintro t2 ue DR ⟨N8,abA,Q0,_,FG,se⟩
    cases Q0
    cases aF
    exact bD _ _ _ ⟨GM,_,abA,bF,bF,bF,Gj.fr se Zo,by rw[se.ad _ Zo Zx];exact tj,FG,hO.trans se,V⟩
 ·clear I2 hr M9 Aq ut V
  rintro I cm en ⟨cW,dg,o6,t0,eR,t4,DV,r9,hD,eZ,V⟩
  have Rm:=DV.lt
  refine ce @t0 ⟨?_⟩
  refine e8 (λdk=>Z X dk en=zI [.str [114,101,116,117,114,110,115], .str [40]] 2/\bp X cm en dk (en+1)) ⟨bn Zo,dM⟩ ?_
  rintro dk ⟨CP,kt⟩
  have Gi:=DV.fr (cu.of (X:=[aJ]) kt) Zo
  have LA:Z X dk j=zI [.str [], .Z 0, .aW, .aW, .aW, .aW] 6:=by rw[kt.ad _ Zo];exact r9
  have gR:=eZ.trans (cu.of kt)
  have sG:=ay.go (hD.ex kt Zo Zo) (by omega:j<=en+1)
  clear DV r9 eZ hD kt
  have Dr:et X dk (λe=>e=en) en (.slice en 0 2 2) 1 (ip [[114,101,116,117,114,110,115],[40]]):=JI (aK:=[[.str [114,101,116,117,114,110,115]],[.str [40]]]) (st:= .own) CP rfl Zs Zd rfl
  have br:∃iK,rC [[114,101,116,117,114,110,115],[40]] gZ (aU.drop o6)=some iK/\andThen (some iK) (λ(_:Tok) k=>andThen (ja n false [] k) λout k=>andThen (eo [41] k) λ_ k=>
   h8 [118,97,114] k λe k=>andThen (match e with
    |some _=>andThen (ja n true [] k) λds k=>andThen (eo [59] k) λ_ k=>ok ds k
    |none=>ok [] k) λloc k=>
   andThen (eo [108,101,116] k) λ_ k=>andThen (lR n [] k) λb8 k=>ok (⟨x.text,x.at_,dg,out,loc,b8⟩:Go.aQ.Node) k)=some r:=by
   rw[awj]
   rcases ge V with ⟨E,H,rfl⟩|⟨a7,dv,H,V⟩
   ·exact⟨.error E,by rw[H];rfl,rfl⟩
   ·rcases ge V with ⟨E,K,rfl⟩|⟨b2,cD,K,V⟩
    ·exact⟨.error E,by rw[H];exact K,rfl⟩
    ·exact⟨.ok (b2,cD),by rw[H];exact K,V⟩
  clear V
  obtain⟨iK,br,V⟩:=br
  refine(aeH az sG.aY sG.par sG.ch sG.hi sG.gV sG.many Zo Zo Dr br).mono ?_ (λab R au a=>by
   obtain⟨E,rfl,rfl,a⟩:=a
   simp only[andThen,Zc]at V
   subst V
   exact⟨E,rfl,rfl,gR.trans a⟩)
  rintro v9 d8 kd ⟨t8,i9,rfl,_,mH,hO⟩
  change andThen (ja n false [] (aU.drop i9)) _=some r at V
  have uH:=hO.le
  have Gj:=Gi.fr hO Zo
  have tj:Z X d8 j=zI [.str [], .Z 0, .aW, .aW, .aW, .aW] 6:=by rw[hO.ad _ Zo Zx];exact LA
  have Aw:=gR.trans hO
  have SY:=ay.go mH Aw.le
  clear Gi LA gR hO Dr CP sG br mH
  refine ce @t0 ⟨?_⟩
  rcases ge V with ⟨E,K,rfl⟩|⟨out,ayo,K,V⟩
  ·exact(EV az ly SY K).mono (λab R au a=>by obtain⟨D,cx,b,a,_⟩:=a;cases a) (λab R au a=>a.of Aw (λ_ a=>by cases a;rfl))
  refine(EV az ly SY K).mono ?_ (λab R au a=>by obtain⟨E,a,_⟩:=a;cases a)
  clear K
  rintro t2 ue DR ⟨out,abA,O3,Q0,IM,FG,se⟩
  cases Q0
  have axk:=se.le
  have acR:=Gj.fr se Zo
  have XK:Z X ue j=zI [.str [], .Z 0, .aW, .aW, .aW, .aW] 6:=by rw[se.ad _ Zo Zx];exact tj
  have X4:=Aw.trans se
  obtain⟨gO,kf,sz⟩:=iG IM.rd.len
  have axF:=Gj.lt
  refine ce @t4 ⟨?_⟩
  refine gi (nO (W:=3) acR.lV Zo Zo gO kf) ?_
  refine ce @t0 ⟨?_⟩
  refine e8 (λqU=>Z X qU DR=zI [.str [41]] 1/\Z X qU (bE+1)=zI [.str x.text, .Z x.at_,cW,t2, .aW, .aW] 6/\∀e,e<DR->e≠bE+1->Z X qU e=Z X ue e) ⟨bn Zo,by rw[aL Zo Zo,bn Zo];rfl,λe H K=>zK⟩ ?_
  rintro qU ⟨Qm,E7,DF⟩
  have II:=FG.ad (DF _ Zo Zo) (DF _ Zo Zo)
  have vO:cu X [aJ] h j qU (DR+1):=⟨Zo,λb al bN=>by rw[DF b Zo Zo];exact X4.ad b al bN⟩
  have acS:sW X qU (DR+1) (bE+1) x.text x.at_ cW t2 .aW dg out []:=by
   obtain⟨m1,fp,il,Hp,_,_,cF,cH,d7,fU,FN,_,_⟩:=Gj.NG
   exact⟨E7,Zo,m1,DR,DR,Hp,O3,0,cF,Zo,Zj _,Zo,FN.ad (λe B=>by have:=B.1;have:=B.2;rw[DF e Zo Zo,se.ad e Zo Zx]),(IM.ad (λe B=>DF e B.2 (zE B.1))).lift (λe B=>⟨zE B.1,zE B.2⟩),hd.nil _ _⟩
  have XL:Z X qU j=zI [.str [], .Z 0, .aW, .aW, .aW, .aW] 6:=by rw[DF _ Zo Zo];exact XK
  clear Gj acR tj XK Aw se X4 IM FG DF E7 SY
  rcases ge V with ⟨E,aC,rfl⟩|⟨ayZ,ayq,aC,V⟩
  ·exact(jt az (ay.go II Zo) Zo Zo Qm aC).mono (λab R au a=>by obtain⟨D,cx,a,_⟩:=a;cases a) (λab R au a=>a.of vO (λ_ a=>by cases a;rfl))
  refine(jt az (ay.go II Zo) Zo Zo Qm aC).mono ?_ (λab R au a=>by obtain⟨E,a,_⟩:=a;cases a)
  clear aC
  rintro ayU ah9 ayy ⟨ay0,abB,anK,_,aaZ,H3⟩
  cases anK
  have axm:=H3.le
  have SI:=acS.fr H3 Zo
  have XM:Z X ah9 j=zI [.str [], .Z 0, .aW, .aW, .aW, .aW] 6:=by rw[H3.ad _ Zo Zx];exact XL
  have Qy:=vO.trans H3
  have ads:=ay.go aaZ Qy.le
  clear acS XL vO H3 II Qm aaZ
  refine ce @t0 ⟨?_⟩
  obtain⟨e,ayr,aaa,abv⟩:=qJ V
  refine(nP az ads aaa _).Zm ?_
  rintro ayS VN M4 ⟨rfl,AI,H4⟩
  have axn:=H4.le
  have M7:=SI.fr H4 Zo
  have Lw:Z X VN j=zI [.str [], .Z 0, .aW, .aW, .aW, .aW] 6:=by rw[H4.ad _ Zo Zx];exact XM
  have LH:=Qy.trans H4
  have axA:=SI.lt
  clear SI XM Qy H4 ads V
  refine r6 b0.eq_1 ⟨?_⟩
  refine kx (λI R aS=>∃(a2:y) (loc:List d4) (cx:Nat),I.g 0=some (.ptr aJ 0)/\I.g 2=some (.ptr j 0)/\I.g 4=some (.ptr (bE+1) 0)/\sW X R aS (bE+1) x.text x.at_ cW t2 a2 dg out loc/\Z X R j=zI [.str [], .Z 0, .aW, .aW, .aW, .aW] 6/\aQ X R aJ bJ aU cx/\cu X [aJ] h j R aS/\
   (andThen (eo [108,101,116] (aU.drop cx)) λ_ k=>andThen (lR n [] k) λb8 k=>ok (⟨x.text,x.at_,dg,out,loc,b8⟩:Go.aQ.Node) k)=some r) (λY bD=> ?_) ?_
  ·rcases abv with ⟨aE,V⟩|⟨aE,V⟩
   ·rw[aE]at AI ⊢
    simp only[ZE]at AI ⊢
    rw[<-(fz aaa).2]at V
    simp only[]at V
    refine dq b0.eq_1 @t0 ⟨?_⟩
    refine e8 (λEy=>bp X VN M4 Ey (M4+1)) dM ?_
    intro Ey HZ
    have Gh:=M7.fr (cu.of (X:=[aJ]) HZ) Zo
    have Lx:Z X Ey j=zI [.str [], .Z 0, .aW, .aW, .aW, .aW] 6:=by rw[HZ.ad _ Zo];exact Lw
    have H5:=LH.trans (cu.of HZ)
    have atv:=ay.go (AI.ex HZ Zo Zo) (by omega:j<=M4+1)
    clear M7 Lw LH AI HZ
    have LX:∃rd,ja n true [] (aU.drop (abB+1))=some rd/\(match rd with
     | .error E=>r= .error E
     | .ok (ds,k)=>∃iK,eo [59] k=some iK/\(match iK with
       | .error E=>r= .error E
       | .ok (_,k)=>(andThen (eo [108,101,116] k) λ_ k=>andThen (lR n [] k) λb8 k=>ok (⟨x.text,x.at_,dg,out,ds,b8⟩:Go.aQ.Node) k)=some r)):=by
     rcases ge V with ⟨E,aF,rfl⟩|⟨loc,arw,aF,V⟩
     ·rcases ge aF with ⟨gd,K,am⟩|⟨ds,oe,K,aF⟩
      ·cases am;exact⟨_,K,rfl⟩
      ·rcases ge aF with ⟨gd,aC,bm⟩|⟨t8,sw,aC,aF⟩
       ·cases bm;exact⟨_,K,_,aC,rfl⟩
       ·cases aF
     ·rcases ge aF with ⟨gd,K,am⟩|⟨ds,oe,K,aF⟩
      ·cases am
      ·rcases ge aF with ⟨gd,aC,bm⟩|⟨t8,sw,aC,aF⟩
       ·cases bm
       ·cases aF;exact⟨_,K,_,aC,V⟩
    obtain⟨rd,K,abc⟩:=LX
    refine(EV az ly atv K).mono ?_ (λab R au a=>by
     obtain⟨E,rfl,rfl,a⟩:=a
     subst abc
     exact⟨E,rfl,rfl,H5.trans a⟩)
    rintro TN Kz Ju ⟨ds,aye,aja,rfl,abb,ao0,xw⟩
    obtain⟨iK,aC,abe⟩:=abc
    have axo:=xw.le
    have M8:=Gh.fr xw Zo
    have Ly:Z X Kz j=zI [.str [], .Z 0, .aW, .aW, .aW, .aW] 6:=by rw[xw.ad _ Zo Zx];exact Lx
    have amT:=H5.trans xw
    obtain⟨e3,g9,ws⟩:=iG abb.rd.len
    refine ce @t4 ⟨?_⟩
    refine gi (nO (W:=4) M8.lV Zo Zo e3 g9) ?_
    refine ce @t0 ⟨?_⟩
    refine e8 (λqU=>Z X qU Ju=zI [.str [59]] 1/\Z X qU (bE+1)=zI [.str x.text, .Z x.at_,cW,t2,TN, .aW] 6/\∀e,e<Ju->e≠bE+1->Z X qU e=Z X Kz e) ⟨bn Zo,by rw[aL Zo Zo,bn Zo];rfl,λe H K=>zK⟩ ?_
    rintro yO ⟨amo,al3,F3⟩
    have Mf:=ao0.ad (F3 _ Zo Zo) (F3 _ Zo Zo)
    have Av:cu X [aJ] h j yO (Ju+1):=⟨Zo,λb al bN=>by rw[F3 b Zo Zo];exact amT.ad b al bN⟩
    have Jz:sW X yO (Ju+1) (bE+1) x.text x.at_ cW t2 TN dg out ds:=by
     obtain⟨m1,fp,il,Hp,Pa,_,cF,cH,d7,fU,FN,li,_⟩:=Gh.NG
     have de:∀e,bE+1<e->e<M4+1->Z X yO e=Z X Ey e:=λe H K=>by rw[F3 e Zo Zo,xw.ad e Zo Zx]
     exact⟨al3,Zo,m1,fp,Ju,Hp,Pa,aja,cF,cH,Zo,Zo,FN.ad (λe B=>de e (zE B.1) (zE B.2)),li.ad (λe B=>de e (zE B.1) (zE B.2)),(abb.ad (λe B=>F3 e B.2 (zE B.1))).lift (λe B=>⟨zE B.1,zE B.2⟩)⟩
    have Lz:Z X yO j=zI [.str [], .Z 0, .aW, .aW, .aW, .aW] 6:=by rw[F3 _ Zo Zo];exact Ly
    refine(jt az (ay.go Mf Zo) Zo Zo amo aC).mono ?_ (λab R au a=>by
     obtain⟨E,rfl,rfl,a⟩:=a
     subst abe
     exact⟨E,rfl,rfl,Av.trans a⟩)
    rintro ayW G9 Jv ⟨ay3,AR,rfl,_,RC,Fi⟩
    exact bD _ _ _ ⟨TN,ds,AR,bz t0,bz eR,bz t4,Jz.fr Fi Zo,by rw[Fi.ad _ Zo Zx];exact Lz,RC,Av.trans Fi,abe⟩
   ·rw[aE]at AI ⊢
    simp only[Zv,ZD]at AI ⊢
    simp only[andThen,ok]at V
    refine dq b0.eq_1 gZ.eq_1 ⟨?_⟩
    refine bD _ _ _ ⟨.aW,[],abB,bz t0,bz eR,bz t4,M7.ad (λe H K=>zK) Zo,by simp(disch:=omega) only[aL];exact Lw,AI.ad (zK) (zK), ?_,V⟩
    exact⟨Zo,λb al bN=>by rw[<-LH.ad b al bN];exact zK⟩
  ·clear abv AI M7 Lw LH t0 eR t4
   rintro I Ey M5 ⟨a2,loc,ayd,t0,eR,t4,Gh,Lx,aa0,H5,V⟩
   have axB:=Gh.lt
   refine ce @t0 ⟨?_⟩
   refine e8 (λdk=>Z X dk M5=zI [.str [108,101,116]] 1/\bp X Ey M5 dk (M5+1)) ⟨bn Zo,dM⟩ ?_
   rintro Kz ⟨Qn,CU⟩
   have M8:=Gh.fr (cu.of (X:=[aJ]) CU) Zo
   have Ly:Z X Kz j=zI [.str [], .Z 0, .aW, .aW, .aW, .aW] 6:=by rw[CU.ad _ Zo];exact Lx
   have xw:=H5.trans (cu.of CU)
   have SX:=ay.go (aa0.ex CU Zo Zo) (by omega:j<=M5+1)
   clear Gh Lx H5 aa0 CU
   rcases ge V with ⟨E,aC,rfl⟩|⟨ay1,ays,aC,V⟩
   ·exact(jt az SX Zo Zo Qn aC).mono (λab R au a=>by obtain⟨D,cx,a,_⟩:=a;cases a) (λab R au a=>a.of xw (λ_ a=>by cases a;rfl))
   refine(jt az SX Zo Zo Qn aC).mono ?_ (λab R au a=>by obtain⟨E,a,_⟩:=a;cases a)
   clear aC
   rintro ayV yO jH ⟨ay2,i16,anL,_,Mf,Av⟩
   cases anL
   have axp:=Av.le
   have Jz:=M8.fr Av Zo
   have Lz:Z X yO j=zI [.str [], .Z 0, .aW, .aW, .aW, .aW] 6:=by rw[Av.ad _ Zo Zx];exact Ly
   have X5:=xw.trans Av
   have axC:=Jz.lt
   clear M8 Ly xw Av SX Qn
   obtain⟨vh,Cf,awz,Hp,Pa,Wx,aya,I3,ayb,ayc,FN,li,uQ⟩:=Jz.NG
   obtain⟨ve,GJ,Em⟩:=iG FN.rd.len
   obtain⟨e4,ox,ayY⟩:=iG li.rd.len
   obtain⟨fs,fC,z3⟩:=iG uQ.rd.len
   refine gT ?_
   refine gK (λm I R aS=>∃(dF:y) (b8:List ee) (aK:List (List y)) (cy:List Nat) (cx:Nat),I.g 0=some (.ptr aJ 0)/\I.g 2=some (.ptr j 0)/\I.g 4=some (.ptr (bE+1) 0)/\Z X R (bE+1)=zI [.str x.text, .Z x.at_,cW,t2,a2,dF] 6/\
    (∀e,bE+2<=e->e<jH->Z X R e=Z X yO e)/\gu X R dF 4 aK.flatten cy/\(∀e∈cy,jH<=e/\e<aS)/\qP X R (p3 jH aS cy) b8 aK/\Z X R j=zI [.str [], .Z 0, .aW, .aW, .aW, .aW] 6/\aQ X R aJ bJ aU cx/\cu X [aJ] h j R aS/\jH<=aS/\b8.length+m<=n/\
    (andThen (lR m b8 (aU.drop cx)) λb8 k=>ok (⟨x.text,x.at_,dg,out,loc,b8⟩:Go.aQ.Node) k)=some r)
    n ⟨.aW,[],[],[],i16,t0,eR,t4,Jz.lV,λ_ _ _=>rfl, .inl (.inl ⟨rfl,rfl,rfl⟩),Zs,rfl,Lz,Mf,X5,Zj _,Zs,V⟩ ?_
   clear V Mf Lz X5 t0 eR t4
   rintro m I G9 Jv ⟨dF,b8,aK,cy,AR,t0,eR,t4,Qa,ab1,Ms,ux,Mj,XN,RC,Fi,axq,axJ,V⟩
   cases m with
   |zero=>simp[lR,andThen]at V
   |succ m=>
   unfold lR at V
   have atw:=ay.go RC Fi.le
   refine gT ?_
   refine ce @t0 ⟨?_⟩
   have IP:∃e k,aU.drop AR=e::k/\((gX e [116,101,108]=true/\ok (⟨x.text,x.at_,dg,out,loc,b8⟩:Go.aQ.Node) k=some r)\/(gX e [116,101,108]=false/\(andThen (andThen (uo m (aU.drop AR)) λai k=>lR m (b8++[ai]) k) λb8 k=>ok (⟨x.text,x.at_,dg,out,loc,b8⟩:Go.aQ.Node) k)=some r)):=by
    rcases ge V with ⟨E,H,rfl⟩|⟨adF,cb,H,V⟩
    ·obtain⟨e,k,K,am⟩:=qJ H
     rcases am with ⟨am,aC⟩|⟨am,aC⟩
     ·cases aC
     ·exact⟨e,k,K, .inr ⟨am,by rw[show(andThen (uo m (aU.drop AR)) λai k=>lR m (b8++[ai]) k)=some (.error E) from aC];rfl⟩⟩
    ·obtain⟨e,k,K,am⟩:=qJ H
     rcases am with ⟨am,aC⟩|⟨am,aC⟩
     ·cases aC
      exact⟨e,_,K, .inl ⟨am,V⟩⟩
     ·exact⟨e,k,K, .inr ⟨am,by rw[show(andThen (uo m (aU.drop AR)) λai k=>lR m (b8++[ai]) k)=some (.ok (adF,cb)) from aC];exact V⟩⟩
   clear V
   obtain⟨e,ayt,aab,ap5⟩:=IP
   refine(nP az atw aab _).Zm ?_
   rintro ayT Cl wm ⟨rfl,uO,Qz⟩
   have axr:=Qz.le
   have Ja:∀e,j<=e->e<Jv->Z X Cl e=Z X G9 e:=λe H K=>Qz.ad e K Zx
   have X6:=Fi.trans Qz
   rcases ap5 with ⟨aE,V⟩|⟨aE,V⟩
   ·rw[aE]at uO ⊢
    simp only[ZE]at uO ⊢
    simp only[ok,Zc]at V
    subst V
    obtain⟨bB,cp,fj⟩:=gu.one Ms
    have Qb:Z X Cl (bE+1)=zI [.str x.text, .Z x.at_,cW,t2,a2,dF] 6:=by rw[Ja _ Zo Zo];exact Qa
    have amj:Z X Cl j=zI [.str [], .Z 0, .aW, .aW, .aW, .aW] 6:=by rw[Ja _ Zo Zo];exact XN
    refine g6 b0.eq_1 @t4 (bU Qb) @eR ⟨?_⟩
    refine gi (jJ (q:=6) (b:=j) (W:=0) (n:=6) (c:=M.ofList [.str [], .Z 0, .aW, .aW, .aW, .aW] 0 .nil) (by simp(disch:=omega) only[aL];exact amj) Zo rfl Zd Zd (by simp[y.cells,iI,GJ,ox,fC,cp,show l3 (.Z x.at_)=true from rfl,show l3 (.str x.text)=true from rfl])) ?_
    refine ce @eR ⟨?_⟩
    have DH:∀gt,(∀e,j<e->e<wm->Z X gt e=Z X Cl e)->∀e,j<e->e<Jv->Z X gt e=Z X G9 e:=λgt a e H K=>by rw[a e H Zo,Ja e Zo K]
    generalize ε:bl X _ j _=gt
    have MK:∀e,e≠j->e<wm->Z X gt e=Z X Cl e:=λe H K=>by rw[<-ε];exact zK
    clear ε
    have Sc:=DH gt (λe H K=>MK e Zo K)
    have xO:=Mj.wide
    obtain⟨aje,Mn⟩:=(Ms.ad (R:=gt) (λe B=>Sc e (zE (ux e B)) (ux e B).2)).JJ Zd xO.2 (by rw[xO.1];omega) (ek:=λe=>ei j (wm+1) e/\e∈cy) (λe B=>by have:=ux e B;exact⟨⟨Zo,Zo⟩,B⟩)
    have cM:∀e,ei (bE+1+1) jH e->Z X gt e=Z X yO e:=λe B=>by
     have H:=B.1;have K:=B.2
     rw[Sc e Zo Zo];exact ab1 e Zo K
    have jV:∀e,e<jH->e∉cy:=λe H K=>zE (ux e K)
    refine⟨_,AR+1,_,by rw[(fz aab).2],rfl,⟨λe=>if e∈cy then 4 else if jH<=e then 0 else if e<vh then 1 else if e<Cf then 2 else 3,cW,t2,a2,dF,Hp,Pa,Wx,aje,aK,rfl, ?_, ?_, ?_,Mn.lift λe B=>⟨B.1,Zu B.2⟩, ?_⟩, ?_, ?_⟩
    ·refine(FN.ad λe B=>cM e ⟨B.1,zE B.2⟩).lift λe B=>⟨⟨zE B.1,zE B.2⟩, ?_⟩
     have H:=B.1;have K:=B.2
     simp only[]
     rw[Zg (jV e Zo),Zg Zo,Zu K]
    ·refine(li.ad λe B=>cM e ⟨zE B.1,zE B.2⟩).lift λe B=>⟨⟨zE B.1,zE B.2⟩, ?_⟩
     have H:=B.1;have K:=B.2
     simp only[]
     rw[Zg (jV e Zo),Zg Zo,Zg Zo,Zu K]
    ·refine(uQ.ad λe B=>cM e ⟨zE B.1,zE B.2⟩).lift λe B=>⟨⟨zE B.1,zE B.2⟩, ?_⟩
     have H:=B.1;have K:=B.2
     simp only[]
     rw[Zg (jV e Zo),Zg Zo,Zg Zo,Zg Zo]
    ·refine Mj.ad (λe B=>Sc e (zE B.1) B.2.1) (λe B=>⟨⟨zE B.1,zE B.2.1⟩, ?_⟩)
     simp only[]
     rw[Zg B.2.2,Zu B.1]
    ·exact uO.ad (MK _ Zo Zo) (MK _ Zo Zo)
    ·exact⟨Zo,λb al bN=>by rw[MK b Zo Zo];exact X6.ad b al bN⟩
   ·rw[aE]at uO ⊢
    simp only[Zv,ZD]at uO ⊢
    obtain⟨bB,cp,fj⟩:=gu.one Ms
    have Qb:Z X Cl (bE+1)=zI [.str x.text, .Z x.at_,cW,t2,a2,dF] 6:=by rw[Ja _ Zo Zo];exact Qa
    refine g0 b0.eq_1 gZ.eq_1 @t4 (bU Qb) @t0 ⟨?_⟩
    refine e8 (λON=>bp X Cl wm ON (wm+1+8)) dM ?_
    intro ON Qt
    have aqH:∀e,j<=e->e<Jv->Z X ON e=Z X G9 e:=λe H K=>by rw[Qt.ad e Zo];exact Ja e H K
    have X7:=X6.trans (cu.of Qt)
    have atx:=ay.go (uO.ex Qt Zo Zo) (by omega:j<=wm+1+8)
    have apv:∃Eb,uo m (aU.drop AR)=some Eb/\(match Eb with
     | .error E=>r= .error E
     | .ok (ai,k)=>(andThen (lR m (b8++[ai]) k) λb8 k=>ok (⟨x.text,x.at_,dg,out,loc,b8⟩:Go.aQ.Node) k)=some r):=by
     rcases ge V with ⟨E,H,rfl⟩|⟨adF,cb,H,V⟩
     ·rcases ge H with ⟨gd,K,am⟩|⟨ai,k,K,am⟩
      ·cases am;exact⟨_,K,rfl⟩
      ·exact⟨_,K,by show andThen _ _=_;rw[am];rfl⟩
     ·rcases ge H with ⟨gd,K,am⟩|⟨ai,k,K,am⟩
      ·cases am
      ·exact⟨_,K,by show andThen _ _=_;rw[am];exact V⟩
    obtain⟨Eb,H,gn⟩:=apv
    refine(akM az c2 Zo atx H).mono ?_ (λab R au a=>by
     obtain⟨E,rfl,rfl,a⟩:=a
     subst gn
     exact⟨E,rfl,rfl,X7.trans a⟩)
    rintro ayX Ha acK ⟨ai,aqe,row,rfl,rfl,RK,ao1,QA⟩
    have axs:=QA.le
    have amU:=X7.trans QA
    have Jb:∀e,j<=e->e<Jv->Z X Ha e=Z X G9 e:=λe H K=>by rw[QA.ad e Zo Zx];exact aqH e H K
    have XC:Z X Ha (bE+1)=zI [.str x.text, .Z x.at_,cW,t2,a2,dF] 6:=by rw[Jb _ Zo Zo];exact Qa
    have apt:=RK.row.len
    obtain⟨gq,eA,eU,gr,rfl⟩:∃gq eA eU gr,row=[gq,eA,eU,gr]:=by
     match row,apt with
     |[E,b,c,d],_=>exact⟨E,b,c,d,rfl⟩
    have oY:iI [gq,eA,eU,gr]=true:=by obtain⟨_,_,_,_,_,_,H,_,_,_,bm⟩:=RK;exact bm
    refine ce (bU XC) ⟨?_⟩
    refine j0 fj ?_
    have h7:hI X (bl X Ha (wm+1+4) (zI [gq,eA,eU,gr] 4)) 4 (.slice (wm+1+4) 0 1 1)=some (1,[gq,eA,eU,gr]):=pp (bn Zo) (lk _) rfl _
    have xO:=Mj.wide
    have oV:=mf xO.2
    obtain⟨auy,KA,hS,ii,abh,LP,aom⟩:=(Ms.ad (R:=bl X Ha (wm+1+4) (zI [gq,eA,eU,gr] 4)) (λe B=>by have:=ux e B;rw[aL Zo Zo];exact Jb e Zo Zo)).append (j:=acK) Zd h7 rfl Zd oY (by rw[oV,xO.1];simp only[Zz,ZY];omega) Zo (λe B=>zE (ux e B))
    refine kh ii ?_
    obtain⟨ef,eX,jS⟩:=ib.one abh
    have A4:∀e,e<acK->e≠wm+1+4->e∉cy->Z X KA e=Z X Ha e:=λe H K am=>by rw[aom e Zo am,aL Zo K]
    have dh:∀e,e<jH->e∉cy:=λe H K=>zE (ux e K)
    have al5:Z X KA (bE+1)=zI [.str x.text, .Z x.at_,cW,t2,a2,dF] 6:=by rw[A4 _ Zo Zo (dh _ Zo)];exact XC
    refine ce @t4 ⟨?_⟩
    refine gi (nO (W:=5) al5 Zo Zo ef eX) ?_
    have A5:∀e,e≠bE+1->∀cK,Z X (bl X KA (bE+1) cK) e=Z X KA e:=λe a cK=>aL Zo a
    refine⟨m,Zo,auy,b8++[ai],aK++[[gq,eA,eU,gr]],hS,aqe,bz t0,bz eR,bz t4,by rw[bn Zo];rfl, ?_, .inl ?_, ?_, ?_, ?_, ?_, ?_,Zo,Zx,gn⟩
    ·intro e H K
     rw[A5 e Zo,A4 e Zo Zo (dh e K),Jb e Zo Zo]
     exact ab1 e H K
    ·rw[YI,ZL,List.flatten_nil,Yn]
     exact abh.ad λe B=>A5 e (by rcases LP e B with rfl|a;omega;have:=ux e a;omega) _
    ·intro e B
     rcases LP e B with rfl|a
     ·omega
     ·have:=ux e a;omega
    ·refine qP.snoc (RK.ad (λe B=> ?_) (λe B=>B)) (Mj.ad (λe B=> ?_) (λe B=>B)) (λe B=> ?_) (λe B=>⟨?_,λo5=>by have:=B.1;have:=o5.2.1;omega⟩)
     ·have H:=B.1;have K:=B.2
      rw[A5 e Zo,A4 e Zo Zo (λa=>zE (ux e a))]
     ·have H:=B.1;have K:=B.2.1
      rw[A5 e Zo,A4 e Zo Zo B.2.2,Jb e Zo Zo]
     ·have H:=B.1;have K:=B.2.1
      refine⟨H,Zo,λa=> ?_⟩
      rcases LP e a with rfl|a
      ·omega
      ·exact B.2.2 a
     ·have H:=B.1;have K:=B.2
      refine⟨Zo,Zo,λa=> ?_⟩
      rcases LP e a with rfl|a
      ·omega
      ·have:=ux e a;omega
    ·rw[A5 _ Zo,A4 _ Zo Zo (dh _ Zo),Jb _ Zo Zo];exact XN
    ·exact ao1.ad (by rw[A5 _ Zo,A4 _ Zo Zo (dh _ Zo)]) (by rw[A5 _ Zo,A4 _ Zo Zo (dh _ Zo)])
    ·exact⟨Zo,λb al bN=>by rw[A5 b Zo,A4 b Zo Zo (dh b Zo)];exact amU.ad b al bN⟩
end
end
end Go.Proofs.YtbbkkkpgjaopkaaGreatDoor

