/- A part of the last text's proof; no condition of its own -/
import Derived.Test.YtpfajohmofnkfaaGreatDoorYi
set_option maxHeartbeats 8000000
set_option linter.all false
namespace Go.Proofs.YtpfajohmofnkfaaGreatDoor
open Go.bk Go.aZ
noncomputable section
def eK(d:fq):List J:=[.str d.name, .Z d.at_, .bool d.ty.b, .bool d.ty.s, .Z d.ty.w, .str d.on, .Z d.fD, .bool d.no]
def afa(l:List Tok):∀r∈l.map cb,r.length=7:=by
 intro r Z;obtain⟨t,_,rfl⟩:=ZJ.1 Z;rfl
def XB(l:List fq):∀r∈l.map eK,r.length=8:=by
 intro r Z;obtain⟨t,_,rfl⟩:=ZJ.1 Z;rfl
def ayJ{s:bq}{l:List Tok}{x:Tok}{ci:List Tok}(a:eO s l=some (.ok (x,ci))):ci.length+1=l.length:=by
 cases l with
 |nil=>cases a
 |cons e l=>
  simp only[eO]at a
  split at a
  ·simp only[ok,Zf,Except.ok.injEq,YT]at a
   rw[<-a.2];rfl
  ·cases a
structure KY(X:co)(aK bN:Nat)(aY:List Tok)(j:Nat)(gw:V an)(loc:Bool)(M:dY)(h:V an)(n:Nat)(s:J)(ds:List fq)(cM:List Nat)(i:Nat):Prop where
 t0:M.g 0=some (.ptr aK 0)
 t1:M.g 1=some (.bool loc)
 t5:M.g 5=some s
 a8:gC X h s 8 (ds.map eK).flatten cM
 cM:∀e∈cM,j<=e/\e<n
 par:aZ X h aK bN aY i
 fr:cf X [aK] gw j h n
section
variable{X:co}{h U a6 aR:V an}{j ar aJ bc aK bN:Nat}{aY:List Tok}{i:Nat}
def alZ(ds:List fq):(ds.map eK).flatten.length=ds.length*8:=by rw[wW (XB ds),Zi]
def ayh(ds:List Tok):(ds.map cb).flatten.length=ds.length*7:=by rw[wW (afa ds),Zi]
def Fe(az:dx X){n:Nat}(kj:aY.length<=100000)(aA:iF X h j aK bN aY i){loc:Bool}{r:Except Int (List fq×List Tok)}(Z:i6 n loc [] (aY.drop i)=some r):
 aW X 175 [.ptr aK 0, .bool loc] h j (λae U ar=>∃ds cB b,r= .ok (ds,aY.drop cB)/\d1 X U (cW j ar) b ae 8 (ds.map eK)/\aZ X U aK bN aY cB/\cf X [aK] h j U ar) (iT X aK h j r):=by
 refine zv az (ahn X) ?_
 rw[aho]
 unfold U4
 have gP:=aA.ba
 have ke:=aA.hB
 have hc:=aA.ei
 have jD:=aA.g4
 refine gX ?_
 refine fC (λm M U aV=>∃s ds cM cB,KY X aK bN aY j h loc M U aV s ds cM cB/\ds.length+(aY.drop cB).length<=aY.length/\i6 m loc ds (aY.drop cB)=some r)
  n ⟨.aU,[],[],i,⟨bp,bp,bp, .inl (.inl ⟨rfl,rfl,rfl⟩),Zs,aA.par,cf.refl _ _ _⟩,Zs,Z⟩ ?_
 clear Z
 rintro m M a6 aJ ⟨s,ds,cM,fX,mA,FT,Z⟩
 cases m with
 |zero=>simp[i6]at Z
 |succ m=>
 unfold i6 at Z
 refine gX ?_
 have jF:=mA.fr.le
 refine j0 (λM U aV=>∃(cp:List Tok) (v1:J) (th:List Nat) (cB:Nat),KY X aK bN aY j h loc M U aV s ds cM cB/\aJ<=aV/\(∀e∈cM,e<aJ)/\M.g 6=some v1/\gC X U v1 7 (cp.map cb).flatten th/\(∀e∈th,aJ<=e/\e<aV)/\ds.length+cp.length+(aY.drop cB).length<=aY.length/\
  CG loc (i6 m loc) ds cp (aY.drop cB)=some r) (λaa bL=> ?_) ?_
 ·refine fC (λF M U aV=>∃(cp:List Tok) (v1:J) (th:List Nat) (cB:Nat) (b:Bool),KY X aK bN aY j h loc M U aV s ds cM cB/\aJ<=aV/\(∀e∈cM,e<aJ)/\M.g 6=some v1/\M.g 7=some (.bool b)/\gC X U v1 7 (cp.map cb).flatten th/\(∀e∈th,aJ<=e/\e<aV)/\ds.length+cp.length+(aY.drop cB).length<=aY.length/\
   (b=true->andThen (rC F cp (aY.drop cB)) (λcp l=>CG loc (i6 m loc) ds cp l)=some r)/\(b=false->CG loc (i6 m loc) ds cp (aY.drop cB)=some r))
   m ⟨[], .aU,[],fX,true,⟨aQ mA.t0,aQ mA.t1,aQ mA.t5,mA.a8,mA.cM,mA.par,mA.fr⟩,Zo,λe H=>(mA.cM e H).2,bp,bp, .inl (.inl ⟨rfl,rfl,rfl⟩),Zs,by simpa using FT,λ_=>Z,λa=>(by cases a)⟩ ?_
  clear Z mA FT
  rintro F M aR bc ⟨cp,v1,th,f7,b,kU,f5,fj,gt,fo,Jx,gp,Bi,H,m9⟩
  have fT:=aA.go kU.par kU.fr.le
  have t0:=kU.t0
  have t1:=kU.t1
  have t5:=kU.t5
  refine rk @fo ⟨?_⟩
  refine gX ?_
  cases b with
  |false=>
   refine pI ?_
   exact bL _ _ _ ⟨cp,v1,th,f7,⟨aQ t0,aQ t1,aQ t5,kU.a8,kU.cM,kU.par,kU.fr⟩,f5,fj,aQ gt,Jx,gp,Bi,m9 rfl⟩
  |true=>
   have Z:=H rfl
   cases F with
   |zero=>simp[rC,andThen]at Z
   |succ F=>
   unfold rC at Z
   refine pJ ?_
   refine c1 @gt @t0 ⟨?_⟩
   cases aO:aY.drop f7 with
   |nil=>rw[aO]at Z;simp[iO,andThen]at Z
   |cons x l=>
   rw[aO]at Z
   simp only[iO]at Z
   refine(BW az fT.ba fT.par fT.ei fT.hB fT.g4 fT.many (fP aO).1 1).mono ?_ ?_
   ·rintro Aq a7 bd ⟨aL,rfl,gL,ej⟩
    have ik:=ej.le
    rw[Zr aL]at Z
    simp only[andThen,ok]at Z
    rw[<-(fP aO).2]at Z
    have fL:(aY.drop f7).length=(aY.drop (f7+1)).length+1:=by rw[aO,(fP aO).2];rfl
    have pe:∀e,j<=e->e<bc->ab X a7 e=ab X aR e:=λe T W=>ej.ad e W (by simp;omega)
    have afX:=kU.a8.ad (U:=a7) (λe H=>pe e (kU.cM e H).1 (kU.cM e H).2)
    have arH:=Jx.ad (U:=a7) (λe H=>pe e (zo (gp e H)) (gp e H).2)
    have FB:=kU.fr.trans ej
    refine ce cb.eq_1 ⟨?_⟩
    have ki:lh X (bo X a7 bd (zs (cb x) 7)) 7 (.slice bd 0 1 1)=some (1,cb x):=s2 (bi Zo) (og _) rfl _
    obtain⟨axq,bw,W1,iv,sB,apv,gg⟩:=(arH.ad (U:=bo X a7 bd (zs (cb x) 7)) (λe H=>aG Zo (zo (gp e H).2))).append (j:=bd+1) Zd ki rfl Zd rfl (by rw[ayh];simp only[cb,ZC,ZQ];omega) Zo (λe H=>zo (gp e H).2)
    refine ky iv ?_
    have d5:∀e,e<bd->e∉th->ab X bw e=ab X a7 e:=λe T W=>by rw[gg e Zo W,aG Zo Zo]
    have dl:∀e,e<aJ->e∉th:=λe T W=>zo (gp e W)
    have hn:aZ X bw aK bN aY (f7+1):=gL.ad (d5 _ Zo (dl _ Zo)) (d5 _ Zo (dl _ Zo))
    have eI:cf X [aK] h j bw (bd+1+1):=⟨Zo,λb ai bW=>by rw[d5 b Zo (dl _ Zo)];exact FB.ad b ai bW⟩
    have afY:=afX.ad (U:=bw) (λe H=>d5 e (zo (fj e H)) (dl _ (fj e H)))
    have ft:(cp.map cb).flatten++cb x=((cp++[x]).map cb).flatten:=by simp
    rw[ft]at sB
    have Mo:∀e∈W1,aJ<=e/\e<bd+1+1:=λe H=>by
     rcases apv e H with rfl|a
     ·omega
     ·have:=gp e a;omega
    refine ce @t0 ⟨?_⟩
    have kO:=aA.go hn eI.le
    obtain⟨w,gM,oZ⟩:∃w gM,aY.drop (f7+1)=w::gM:=by
     cases a:aY.drop (f7+1)with
     |nil=>rw[a]at Z;simp[io,l6]at Z
     |cons w gM=>exact⟨w,gM,rfl⟩
    refine(nQ az kO oZ [44]).Zm ?_
    rintro Ey bS cj ⟨rfl,ho,dG⟩
    have il:=dG.le
    have er:∀e,j<=e->e<bd+1+1->ab X bS e=ab X bw e:=λe T W=>dG.ad e W (by simp;omega)
    refine cS ⟨?_⟩
    refine⟨F,Zo,cp++[x],axq,W1,_,g5 w [44],⟨aQ t0,aQ t1,aQ t5,afY.ad (λe H=>er e (kU.cM e H).1 (zo (fj e H))),λe H=>⟨(kU.cM e H).1,zo (fj e H)⟩,ho,eI.trans dG⟩,Zo,fj,bp,bp, .inl (sB.ad (λe H=>er e (zo (Mo e H)) (Mo e H).2)),λe H=>⟨(Mo e H).1,zo (Mo e H).2⟩, ?_,λa=> ?_,λa=> ?_⟩
    ·have bK:=congrArg List.length (fP oZ).2
     have cr:(aY.drop (f7+1)).length=gM.length+1:=by rw[oZ];rfl
     split
     ·simp only[ZO,List.length_singleton];omega
     ·simp only[ZO,List.length_singleton];omega
    ·rw[oZ]at Z
     simp only[io,l6,a,ZD]at Z ⊢
     rw[(fP oZ).2]
     exact Z
    ·rw[oZ]at Z
     simp only[io,l6,a,Zx,ZA]at Z ⊢
     rw[oZ]
     exact Z
   ·rintro Aq a7 bd ⟨aL,rfl,ej⟩
    rw[Zh aL]at Z
    simp only[andThen,bad,Zf]at Z
    subst Z
    exact⟨_,rfl,rfl,kU.fr.trans ej⟩
 ·clear Z mA FT
  rintro M aR bc ⟨cp,v1,th,f7,kU,f5,fj,gt,Jx,gp,Bi,Z⟩
  have t0:=kU.t0
  have t1:=kU.t1
  have t5:=kU.t5
  have dz:=kU.fr
  have vk:=kU.a8
  have yJ:=kU.cM
  have dD:=kU.par
  clear kU
  refine ce @t0 ⟨?_⟩
  refine fk (λa7=>ab X a7 bc=zs [.str [58]] 1/\bh X aR bc a7 (bc+1)) ⟨bi Zo,dR⟩ ?_
  rintro a7 ⟨Qw,cm⟩
  have ng:=aA.go (dD.ex cm Zo Zo) (by omega:j<=bc+1)
  have ej:=dz.trans (cf.of cm)
  unfold CG at Z
  rcases gx Z with ⟨K,aP,rfl⟩|⟨kB,g2,aP,Z⟩
  ·exact(jw az ng Zo Zo Qw aP).mono (λae U ar a=>by obtain⟨I,cB,a,_⟩:=a;cases a) (λae U ar a=>a.of ej (λ_ a=>by cases a;rfl))
  refine(jw az ng Zo Zo Qw aP).mono ?_ (λae U ar a=>by obtain⟨K,a,_⟩:=a;cases a)
  rintro v4 bw db ⟨ayV,i4,tM,_,hn,eI⟩
  cases tM
  have FR:=ayJ aP
  have jd:=eI.le
  have kO:=ng.go hn jd
  have yD:=ej.trans eI
  have d5:∀e,j<=e->e<bc->ab X bw e=ab X aR e:=λe T W=>by rw[eI.ad e Zo (by simp;omega),cm.ad e W]
  have sB:=vk.ad (U:=bw) (λe H=>d5 e (yJ e H).1 (yJ e H).2)
  have aca:=Jx.ad (U:=bw) (λe H=>d5 e (zo (gp e H)) (gp e H).2)
  clear vk Jx d5 Qw cm ng ej eI aP dz dD
  refine ce @t0 ⟨?_⟩
  cases oZ:aY.drop i4 with
  |nil=>rw[oZ]at Z;simp[iO,andThen]at Z
  |cons t gM=>
  rw[oZ]at Z
  simp only[iO]at Z
  refine(BW az kO.ba kO.par kO.ei kO.hB kO.g4 kO.many (fP oZ).1 3).mono ?_ (λEy bS cj a=>by
   obtain⟨aL,rfl,dG⟩:=a
   rw[Zh aL]at Z
   simp only[andThen,bad,Zf]at Z
   subst Z
   exact⟨_,rfl,rfl,yD.trans dG⟩)
  rintro Ey bS cj ⟨aL,rfl,ho,dG⟩
  have il:=dG.le
  rw[Zr aL]at Z
  simp only[andThen,ok]at Z
  rw[<-(fP oZ).2]at Z
  have azW:(aY.drop i4).length=(aY.drop (i4+1)).length+1:=by rw[oZ,(fP oZ).2];rfl
  have yC:=yD.trans dG
  have er:∀e,j<=e->e<db->ab X bS e=ab X bw e:=λe T W=>dG.ad e W (by simp;omega)
  have o7:=sB.ad (U:=bS) (λe H=>er e (yJ e H).1 (zo (yJ e H)))
  have acb:=aca.ad (U:=bS) (λe H=>er e (zo (gp e H)) (zo (gp e H)))
  clear sB aca er dG yD
  refine c1 cb.eq_1 @t0 ⟨?_⟩
  refine fk (λb4=>ab X b4 cj=zs (eK ⟨[],0,t.ty,[],0,false⟩) 8/\bh X bS cj b4 (cj+1)) ⟨bi Zo,dR⟩ ?_
  rintro b4 ⟨sf,dV⟩
  have mv:=aA.go (ho.ex dV Zo Zo) (by omega:j<=cj+1)
  have eD:=yC.trans (cf.of dV)
  obtain⟨w,mr,sp,aco⟩:=qW Z
  refine(nQ az mv sp _).Zm ?_
  rintro afg cu e1 ⟨rfl,hR,ev⟩
  have nE:=ev.le
  have QK:=eD.trans ev
  have tu:ab X cu cj=zs (eK ⟨[],0,t.ty,[],0,false⟩) 8:=by rw[ev.ad _ Zo (by simp;omega)];exact sf
  have fR:∀e,j<=e->e<cj->ab X cu e=ab X bS e:=λe T W=>by rw[ev.ad e Zo (by simp;omega),dV.ad e W]
  have abw:(aY.drop (i4+1)).length=mr.length+1:=by rw[sp];rfl
  refine rk cb.eq_1 ⟨?_⟩
  refine j0 (λM U aV=>∃(on:bq) (fD:Int) (no:Bool) (cB:Nat),M.g 0=some (.ptr aK 0)/\M.g 1=some (.bool loc)/\M.g 5=some s/\M.g 6=some v1/\M.g 8=some (.ptr cj 0)/\ab X U cj=zs (eK ⟨[],0,t.ty,on,fD,no⟩) 8/\(∀e,j<=e->e<cj->ab X U e=ab X bS e)/\aZ X U aK bN aY cB/\cf X [aK] h j U aV/\cj<aV/\(aY.drop cB).length<=(aY.drop (i4+1)).length/\
   ym loc (i6 m loc) (ds++cp.map (pM t.ty on fD no)) (aY.drop cB)=some r) (λaa bL=> ?_) ?_
  ·rcases aco with ⟨aI,Z⟩|⟨aI,Z⟩
   ·rw[aI]at hR ⊢
    simp only[ZD]at hR ⊢
    rw[<-(fP sp).2]at Z
    simp only[AT]at Z
    refine ce @t0 ⟨?_⟩
    refine fk (λd4=>bh X cu e1 d4 (e1+1)) dR ?_
    intro d4 gy
    have sT:=mv.go (hR.ex gy Zo Zo) (by omega:cj+1<=e1+1)
    have yw:ab X d4 cj=zs (eK ⟨[],0,t.ty,[],0,false⟩) 8:=by rw[gy.ad _ Zo];exact tu
    obtain⟨xZ,sI,FJ⟩:∃xZ sI,aY.drop (i4+1+1)=xZ::sI:=by
     cases a:aY.drop (i4+1+1)with
     |nil=>rw[a]at Z;simp[io,l6,andThen]at Z
     |cons w gM=>exact⟨w,gM,rfl⟩
    refine(nQ az sT FJ _).Zm ?_
    rintro TZ dM jf ⟨rfl,mL,hb⟩
    have tO:=hb.le
    have A9:=(QK.trans (cf.of gy)).trans hb
    have Fr:ab X dM cj=zs (eK ⟨[],0,t.ty,[],0,false⟩) 8:=by rw[hb.ad _ Zo (by simp;omega)];exact yw
    have qB:andThen (andThen (iO 1 (aY.drop (if g5 xZ [110,111,116]then i4+1+1+1 else i4+1+1))) (λon l=>ok (on.text,on.at_,g5 xZ [110,111,116]) l)) (λr l=>ym loc (i6 m loc) (ds++cp.map (pM t.ty r.1 r.2.1 r.2.2)) l)=some r:=by
     rw[FJ]at Z
     cases ab2:g5 xZ [110,111,116]with
     |true=>simp only[io,l6,ab2,ZD]at Z ⊢;rw[(fP FJ).2];exact Z
     |false=>simp only[io,l6,ab2,Zx,ZA]at Z ⊢;rw[FJ];exact Z
    have abx:(aY.drop (if g5 xZ [110,111,116]then i4+1+1+1 else i4+1+1)).length<=(aY.drop (i4+1)).length:=by simp only[Yz];split<;>omega
    clear Z
    generalize (if g5 xZ [110,111,116]then i4+1+1+1 else i4+1+1)=i9 at qB mL abx
    generalize (if g5 xZ [110,111,116]then xZ else g6)=z9
    generalize g5 xZ [110,111,116]=no at qB
    unfold eK at Fr
    refine d9 cb.eq_1 @Fr @t0 ⟨?_⟩
    refine fk (λwF=>ab X wF cj=zs (eK ⟨[],0,t.ty,[],0,no⟩) 8/\(∀e,e<jf->e≠cj->ab X wF e=ab X dM e)) ⟨by rw[bi Zo];rfl,λe T W=>aG Zo W⟩ ?_
    rintro wF ⟨anK,vu⟩
    have F1:=mL.ad (vu _ Zo Zo) (vu _ Zo Zo)
    have tF:cf X [aK] h j wF jf:=⟨Zo,λb ai bW=>by rw[vu b Zo Zo];exact A9.ad b ai bW⟩
    have G2:=aA.go F1 (by omega:j<=jf)
    cases Mu:aY.drop i9 with
    |nil=>rw[Mu]at qB;simp[iO,andThen]at qB
    |cons c aA4=>
    rw[Mu]at qB
    simp only[iO]at qB
    refine(BW az G2.ba G2.par G2.ei G2.hB G2.g4 G2.many (fP Mu).1 1).mono ?_ ?_
    ·rintro ayn q7 auo ⟨Rs,rfl,Jk,w4⟩
     have azY:=w4.le
     rw[Zr Rs]at qB
     simp only[andThen,ok]at qB
     rw[<-(fP Mu).2]at qB
     have Fq:ab X q7 cj=zs (eK ⟨[],0,t.ty,[],0,no⟩) 8:=by rw[w4.ad _ Zo (by simp;omega)];exact anK
     unfold eK at Fq
     refine c1 cb.eq_1 @Fq ⟨?_⟩
     refine gs (pt _ _) ?_
     refine c1 cb.eq_1 @Fq ⟨?_⟩
     refine bL _ _ _ ⟨c.text,c.at_,no,i9+1,aQ t0,aQ t1,aQ t5,aQ gt,bp, ?_,λe T W=> ?_, ?_, ?_,Zo, ?_,qB⟩
     ·simp(disch:=omega) only[aG,bi]<;>rfl
     ·simp(disch:=omega) only[aG]
      rw[w4.ad e Zo (by simp;omega),vu e Zo Zo,hb.ad e Zo (by simp;omega),gy.ad e Zo,fR e T W]
     ·exact Jk.ad (zu) (zu)
     ·exact⟨Zo,λb ai bW=>by rw[<-(tF.trans w4).ad b ai bW];exact zu⟩
     ·simp only[Yz]at abx ⊢;omega
    ·rintro ayn q7 auo ⟨Rs,rfl,w4⟩
     rw[Zh Rs]at qB
     simp only[andThen,bad,Zf]at qB
     subst qB
     exact⟨_,rfl,rfl,tF.trans w4⟩
   ·rw[aI]at hR ⊢
    simp only[Zx,ZA]at hR ⊢
    simp only[AT,andThen,ok]at Z
    refine c1 cb.eq_1 g6.eq_1 ⟨?_⟩
    refine bL _ _ _ ⟨[],0,false,i4+1,aQ t0,aQ t1,aQ t5,aQ gt,bp, ?_,λe T W=> ?_, ?_, ?_,Zo,Zl _,Z⟩
    ·simp(disch:=omega) only[aG];exact tu
    ·simp(disch:=omega) only[aG];exact fR e T W
    ·exact hR.ad (zu) (zu)
    ·exact⟨Zo,λb ai bW=>by rw[<-QK.ad b ai bW];exact zu⟩
  ·clear Z aco hR QK ev tu fR eD sf dV mv yC t0 t1 t5 gt ho
   rintro M b4 dH ⟨on,fD,no,h9,t0,t1,t5,gt,gA,sf,dK,hH,eD,aAj,MH,Z⟩
   have sC:=o7.ad (U:=b4) (λe H=>dK e (yJ e H).1 (zo (yJ e H)))
   have acc:=acb.ad (U:=b4) (λe H=>dK e (zo (gp e H)) (zo (gp e H)))
   clear o7 acb
   obtain⟨Lh,cG⟩:=acc.rH Zd (afa cp) (by simp only[Zi];omega) (P:=λe=>aJ<=e/\e<bc) gp
   have fL:=cG.len
   rw[Zi]at fL
   refine LS @gt @fL ⟨?_⟩
   have By:=fL
   refine j0 (λM U aV=>∃(fg:J) (gG:List Nat),M.g 0=some (.ptr aK 0)/\M.g 1=some (.bool loc)/\M.g 5=some fg/\gC X U fg 8 ((ds++cp.map (pM t.ty on fD no)).map eK).flatten gG/\(∀e∈gG,j<=e/\e<aV)/\aZ X U aK bN aY h9/\cf X [aK] h j U aV/\dH<=aV) (λaa bL=> ?_) ?_
   ·refine fC (λadv M U aV=>∃(F:Nat) (fg:J) (gG:List Nat) (nm:bq) (EU:Int),adv=cp.length-F/\F<=cp.length/\M.g 0=some (.ptr aK 0)/\M.g 1=some (.bool loc)/\M.g 5=some fg/\M.g 8=some (.ptr cj 0)/\M.g 52=some v1/\M.g 53=some (.Z (cp.length:Int))/\M.g 54=some (.Z (F:Int))/\ab X U cj=zs (eK ⟨nm,EU,t.ty,on,fD,no⟩) 8/\
     gC X U fg 8 ((ds++(cp.take F).map (pM t.ty on fD no)).map eK).flatten gG/\(∀e∈gG,(e∈cM\/dH<=e)/\e<aV)/\(∀e,aJ<=e->e<bc->ab X U e=ab X b4 e)/\aZ X U aK bN aY h9/\cf X [aK] h j U aV/\dH<=aV)
     cp.length ⟨0,s,cM,[],0,Zo,Zo,aQ t0,aQ t1,aQ t5,aQ gA,bp,bp,fQ,sf,by simpa using sC,λe H=>⟨.inl H,zo (yJ e H)⟩,λ_ _ _=>rfl,hH,eD,Zl _⟩ ?_
    rintro adv M cu e1 ⟨F,fg,gG,nm,EU,rfl,rt,t0,t1,t5,gA,xU,qb,ko,tu,Du,xa,acW,hR,ev,nE⟩
    refine LS @qb @ko ⟨?_⟩
    refine gX ?_
    refine E1 (λc4=> ?_) (λc4=> ?_)
    ·have c4:F<cp.length:=Zo
     have FQ:=cG.e9 F (by simpa using c4)
     have R0:=(cG.ad (U:=cu) (λe H=>acW e H.1 H.2)).row Zd (i:=F) (r:=cb cp[F]) (by rw[Zt,Ze c4];rfl)
     have M5:cp.take (F+1)=cp.take F++[cp[F]]:=List.take_succ_eq_append_getElem c4
     generalize cp[F]=bu at R0 M5
     have AN:∀e∈gG,j<=e/\e≠cj/\¬(aJ<=e/\e<bc)/\e<e1:=λe H=>by
      obtain⟨T,W⟩:=xa e H
      rcases T with T|T
      ·have:=yJ e T;have:=fj e T;exact⟨Zo,Zo,Zo,Zo⟩
      ·exact⟨Zo,Zo,Zo,Zo⟩
     unfold eK at tu
     refine eu @xU @ko @FQ @R0 cb.eq_1 @gA @tu ⟨?_⟩
     refine gs (pt _ _) ?_
     refine eu @xU @ko @FQ @R0 cb.eq_1 @gA (Za @tu @t5) ⟨?_⟩
     generalize sk:bo X _ (e1+1+8) _=dM
     have mG:ab X dM (e1+1+8)=zs (eK (pM t.ty on fD no bu)) 8:=by rw[<-sk,bi Zo];rfl
     have Fr:ab X dM cj=zs (eK (pM t.ty on fD no bu)) 8:=by rw[<-sk];simp(disch:=omega) only[aG,bi]<;>rfl
     have hA:∀e,e<e1->e≠cj->ab X dM e=ab X cu e:=λe T W=>by rw[<-sk];exact zu
     clear sk
     have ki:lh X dM 8 (.slice (e1+1+8) 0 1 1)=some (1,eK (pM t.ty on fD no bu)):=s2 mG (og _) rfl _
     have ew:(ds++(cp.take F).map (pM t.ty on fD no)).length<=100000:=by
      simp only[ZO,Zi,YW];omega
     obtain⟨kQ,wF,wL,iv,ab4,apt,abt⟩:=(Du.ad (U:=dM) (λe H=>hA e (AN e H).2.2.2 (AN e H).2.1)).append (j:=e1+1+8+1) Zd ki rfl Zd rfl (by rw[alZ];simp only[eK,ZC,ZQ];omega) Zo (λe H=>zo (AN e H))
     refine ky iv ?_
     have vu:∀e,e<e1->e≠cj->e∉gG->ab X wF e=ab X cu e:=λe T W au=>by rw[abt e Zo au,hA e T W]
     have bH:=zt F
     have ft:((ds++(cp.take F).map (pM t.ty on fD no)).map eK).flatten++eK (pM t.ty on fD no bu)=((ds++(cp.take (F+1)).map (pM t.ty on fD no)).map eK).flatten:=by rw[M5];simp
     rw[ft]at ab4
     refine c1 @ko @bH ⟨?_⟩
     refine⟨cp.length-(F+1),Zo,F+1,kQ,wL,bu.text,bu.at_,rfl,Zo,aQ t0,aQ t1,bp,aQ gA,aQ xU,aQ qb,bp, ?_, .inl ab4, ?_, ?_, ?_, ?_,Zo⟩
     ·rw[abt _ Zo (λa=>(AN _ a).2.1 rfl)];exact Fr
     ·intro e H
      rcases apt e H with rfl|a
      ·exact⟨.inr Zo,Zo⟩
      ·have:=xa e a;exact⟨this.1,Zo⟩
     ·intro e T W
      rw[vu e Zo Zo (λa=>(AN e a).2.2.1 ⟨T,W⟩)]
      exact acW e T W
     ·exact hR.ad (vu _ Zo Zo (λa=>zo (AN _ a))) (vu _ Zo Zo (λa=>zo (AN _ a)))
     ·exact⟨Zo,λb ai bW=>by rw[vu b Zo Zo (λa=>zo (AN _ a))];exact ev.ad b ai bW⟩
    ·have xj:F=cp.length:=Zo
     subst xj
     rw[YX]at Du
     refine cS ⟨?_⟩
     exact bL _ _ _ ⟨fg,gG,aQ t0,aQ t1,aQ t5,Du,λe H=>by
      obtain⟨T,W⟩:=xa e H
      rcases T with T|T
      ·have:=yJ e T;omega
      ·omega,hR,ev,nE⟩
   ·clear sC acc sf dK t0 t1 t5 gt gA hH eD cG fL
    rintro M cu e1 ⟨fg,gG,t0,t1,t5,Du,xa,hR,ev,nE⟩
    have abz:(ds++cp.map (pM t.ty on fD no)).length+(aY.drop h9).length<=aY.length:=by simp only[ZO,Zi];omega
    generalize ds++cp.map (pM t.ty on fD no)=H4 at Du Z abz
    have fin:∀(U:V an) (aV:Nat),(∀e,e<e1->e≠aK->ab X U e=ab X cu e)->e1<=aV->r= .ok (H4,aY.drop h9)->aZ X U aK bN aY h9->∃ds cB b,r= .ok (ds,aY.drop cB)/\d1 X U (cW j aV) b fg 8 (ds.map eK)/\aZ X U aK bN aY cB/\cf X [aK] h j U aV:=by
     intro U aV T W au aP
     obtain⟨b,cG⟩:=(Du.ad (U:=U) (λe H=>T e (xa e H).2 (zo (xa e H)))).rH Zd (XB H4) (by simp only[Zi];omega) (P:=cW j aV) (λe H=>⟨(xa e H).1,zo (xa e H)⟩)
     exact⟨H4,h9,b,au,cG,aP,Zo,λb ai bW=>by rw[T b Zo (by simpa using bW)];exact ev.ad b ai bW⟩
    refine ce @t0 ⟨?_⟩
    obtain⟨Ez,oh,rs⟩:∃Ez oh,aY.drop h9=Ez::oh:=by
     cases a:aY.drop h9 with
     |nil=>rw[a]at Z;simp[ym,Ap]at Z
     |cons w gM=>exact⟨w,gM,rfl⟩
    refine fk (λd4=>d4=cu) rfl ?_
    rintro d4 rfl
    refine(rE az Zo hR Zo Zo (fP rs).1).Zm ?_
    rintro u8 dM jf ⟨rfl,kt⟩
    have tO:=kt.le
    have mL:=hR.ad (kt.ad _ Zo) (kt.ad _ Zo)
    rw[rs]at Z
    simp only[ym,Ap]at Z
    by_cases M1:Ez.text=[59]
    ·rw[Zr M1]at Z
     have c3:decide (Ez.text≠[59])=false:=by simp[M1]
     have τ:i6 m loc H4 (aY.drop (h9+1))=some r->∀(M:dY) (gF:V an),M.g 0=some (.ptr aK 0)->M.g 1=some (.bool loc)->M.g 5=some fg->(∀e,e<jf->e≠aK->ab X gF e=ab X dM e)->aZ X gF aK bN aY (h9+1)->
      ∃gr,gr<m+1/\∃s ds cM cB,KY X aK bN aY j h loc M gF jf s ds cM cB/\ds.length+(aY.drop cB).length<=aY.length/\i6 gr loc ds (aY.drop cB)=some r:=by
      intro hS M gF t0 t1 t5 aL aq6
      refine⟨m,Zo,fg,H4,gG,h9+1,⟨t0,t1,t5,Du.ad (λe H=> ?_),λe H=>zo (xa e H),aq6,Zo,λb ai bW=> ?_⟩, ?_,hS⟩
      ·have:=xa e H
       rw[aL e Zo Zo,kt.ad e Zo]
      ·rw[aL b Zo (by simpa using bW),kt.ad b Zo];exact ev.ad b ai bW
      ·simp only[Yz]at abz ⊢;omega
     obtain⟨c,av,bf,ck,a3,a4⟩:=mL.at_
     have St:=j1 bf a3
     have acU:=j1 bf ck
     have ls:=(Zc.1 (fP rs).1).1
     have dT:=mL.ne
     have bH:=zt h9
     have aea:∀gF,gF=bo X dM aK (some (.cells (d3 c 1 [.Z ((h9+1:Nat):Int)]) 2 .own))->aZ X gF aK bN aY (h9+1):=by
      rintro gF rfl
      refine mL.on (c:=d3 c 1 [.Z ((h9+1:Nat):Int)]) (bi Zo) (λee st a=>by rw[bf]at a;cases a;exact q0 ..) (aG Zo Zo)
     cases loc with
     |false=>
      simp only[Zx,ZA]at Z
      have kf:(Ez::oh).drop 1=aY.drop (h9+1):=by rw[(fP rs).2];rfl
      rw[kf]at Z
      refine eu cb.eq_1 @c3 @t1 @t0 @St @bH @bf ⟨?_⟩
      exact τ Z _ _ (aQ t0) (aQ t1) (aQ t5) (λe T W=>aG Zo W) (aea _ rfl)
     |true=>
      simp only[ZD]at Z
      obtain⟨pB,sI,FJ⟩:∃pB sI,oh=pB::sI:=by
       cases oh with
       |nil=>simp[Ap]at Z
       |cons w gM=>exact⟨w,gM,rfl⟩
      subst FJ
      simp only[Ap]at Z
      have cw:aY[h9+1]? =some pB:=(fP (fP rs).2).1
      have Gf:=(Zc.1 cw).1
      have abr:=a4.e9 (h9+1) (by rw[Zi];exact Gf)
      have aaY:al X dM (.ptr bN ((h9+1)*7+1))=some (.str pB.text):=a4.cell (h9+1) (cb pB) 1 _ (by rw[Zt,cw];rfl) rfl
      by_cases MJ:pB.text=[108,101,116]
      ·rw[Zr MJ]at Z
       simp only[ok,Zf]at Z
       have cQ:decide (pB.text=[108,101,116])=true:=by simp[MJ]
       refine eu cb.eq_1 @c3 @t1 @t0 @acU @St (Za @bH (Za @abr (Za @aaY (Za @cQ @t5)))) ⟨?_⟩
       exact fin _ _ (λe T W=>kt.ad e Zo) Zo (by rw[<-Z,rs]) mL
      ·rw[Zh MJ]at Z
       have cQ:decide (pB.text=[108,101,116])=false:=by simp[MJ]
       have kf:(Ez::pB::sI).drop 1=aY.drop (h9+1):=by rw[(fP rs).2];rfl
       rw[kf]at Z
       refine eu cb.eq_1 @c3 @t1 @t0 @acU @St (Za @bH (Za @abr (Za @aaY (Za @cQ @bf)))) ⟨?_⟩
       exact τ Z _ _ (aQ t0) (aQ t1) (aQ t5) (λe T W=>aG Zo W) (aea _ rfl)
    ·rw[Zh M1]at Z
     simp only[ok,Zf]at Z
     have c3:decide (Ez.text≠[59])=true:=by simp[M1]
     refine d9 cb.eq_1 @c3 @t5 ⟨?_⟩
     exact fin _ _ (λe T W=>kt.ad e Zo) Zo (by rw[<-Z,rs]) mL
end
def jt{v w:J}(a:dI v=some w):v.cells=[v]/\p7 v=true/\J.same 30 v v=true:=by
 cases v with
 |slice b Y n c=>exact⟨rfl,rfl,by simp[J.same]⟩
 |fm b Y n c=>exact⟨rfl,rfl,by simp[J.same]⟩
 |aU=>exact⟨rfl,rfl,rfl⟩
 |_=>simp[dI]at a
def oE(X:co)(h:V an):(Nat->Prop)->List gv->List (List J)->Prop
 |_,[],bF=>bF=[]
 |P,ao::c2,bF=>∃row hh bv,bF=row::hh/\(∀e,bv e->P e)/\x2 X h bv ao row/\oE X h (λe=>P e/\¬bv e) c2 hh
def oE.ad{X:co}{h U:V an}:∀{c2:List gv}{bF:List (List J)}{P bv:Nat->Prop}(F:∀e,P e->ab X U e=ab X h e) (aD:∀e,P e->bv e),oE X h P c2 bF->oE X U bv c2 bF:=by
 intro c2
 induction c2 with
 |nil=>intro bF P bv F aD a;exact a
 |cons ao c2 am=>
  rintro bF P bv F aD ⟨row,hh,eY,T,b6,W,au⟩
  exact⟨row,hh,eY,T,λe H=>aD e (b6 e H),W.ad (λe H=>F e (b6 e H)) (λe H=>H),am (λe H=>F e H.1) (λe H=>⟨aD e H.1,H.2⟩) au⟩
def oE.snoc{X:co}{h:V an}{bv:Nat->Prop}{ao:gv}{row:List J}(a:x2 X h bv ao row):∀{c2:List gv}{bF:List (List J)}{oJ P:Nat->Prop},oE X h oJ c2 bF->(∀e,oJ e->P e)->(∀e,bv e->P e/\¬oJ e)->oE X h P (c2++[ao]) (bF++[row]):=by
 intro c2
 induction c2 with
 |nil=>rintro bF oJ P rfl T W;exact⟨row,[],bv,rfl,λe H=>(W e H).1,a,rfl⟩
 |cons K c2 am=>
  rintro bF oJ P ⟨qV,hh,eY,rfl,b6,au,aP⟩ T W
  exact⟨qV,hh++[row],eY,rfl,λe H=>T e (b6 e H),au,am aP (λe H=>⟨T e H.1,H.2⟩) (λe H=>⟨⟨(W e H).1,λiV=>(W e H).2 (b6 e iV)⟩,λo8=>(W e H).2 o8.1⟩)⟩
def x2.len{X:co}{h:V an}{P:Nat->Prop}{ao:gv}{row:List J}(a:x2 X h P ao row):row.length=4:=by
 obtain⟨_,_,_,_,_,rfl,_⟩:=a;rfl
def oE.wide{X:co}{h:V an}:∀{c2:List gv}{bF:List (List J)}{P:Nat->Prop},oE X h P c2 bF->bF.length=c2.length/\∀r∈bF,r.length=4:=by
 intro c2
 induction c2 with
 |nil=>rintro bF P rfl;simp
 |cons K c2 am=>
  rintro bF P ⟨qV,hh,eY,rfl,b6,W,au⟩
  obtain⟨aP,bK⟩:=am au
  refine⟨by simp[aP],λr Z=> ?_⟩
  rcases Zq.1 Z with rfl|Z
  ·exact W.len
  ·exact bK r Z
def oH(X:co)(h:V an)(P:Nat->Prop)(g:Go.aZ.Node)(row:List J):Prop:=∃cY df a8 eR cT dL et ig bF,row=[.str g.name, .Z g.at_,cY,df,a8,eR]/\d1 X h P cT cY 8 (g.ef.map eK)/\d1 X h P dL df 8 (g.out.map eK)/\d1 X h P et a8 8 (g.loc.map eK)/\d1 X h P ig eR 4 bF/\oE X h P g.eqs bF
structure ta(X:co)(h:V an)(n oo:Nat)(nm:bq)(K:Int)(cY df a8:J)(ef out loc:List fq):Prop where
 mh:ab X h oo=zs [.str nm, .Z K,cY,df,a8, .aU] 6
 lt:oo<n
 eW:∃b,d1 X h (cW (oo+1) n) b cY 8 (ef.map eK)
 fv:∃b,d1 X h (cW (oo+1) n) b df 8 (out.map eK)
 hK:∃b,d1 X h (cW (oo+1) n) b a8 8 (loc.map eK)
def ta.ad{X:co}{h U:V an}{n aV oo:Nat}{nm:bq}{K:Int}{cY df a8:J}{ef out loc:List fq}(a:ta X h n oo nm K cY df a8 ef out loc)(F:∀e,oo<=e->e<n->ab X U e=ab X h e)(aM:n<=aV):ta X U aV oo nm K cY df a8 ef out loc:=by
 have eE:∀e,cW (oo+1) n e->ab X U e=ab X h e:=λe H=>F e (zo H.1) H.2
 have SM:∀e,cW (oo+1) n e->cW (oo+1) aV e:=λe H=>⟨H.1,zo H.2⟩
 obtain⟨cT,T⟩:=a.eW
 obtain⟨dL,W⟩:=a.fv
 obtain⟨et,au⟩:=a.hK
 exact⟨by rw[F oo (Zl _) a.lt];exact a.mh,zo a.lt,⟨cT,(T.ad eE).lift SM⟩,⟨dL,(W.ad eE).lift SM⟩,⟨et,(au.ad eE).lift SM⟩⟩
section
variable{X:co}{h U a6 aR:V an}{j ar aJ bc aK bN:Nat}{aY:List Tok}{i:Nat}
def ta.fr{n aV oo:Nat}{nm:bq}{K:Int}{cY df a8:J}{ef out loc:List fq}(a:ta X h n oo nm K cY df a8 ef out loc)(gm:cf X [aK] h n U aV)(ai:aK<oo):ta X U aV oo nm K cY df a8 ef out loc:=
 a.ad (λe T W=>gm.ad e W (by simp;omega)) gm.le
def ayK{j5 kQ:bq}{l:List Tok}:rO [j5,kQ] g6 l=andThen (eO j5 l) λ_ l=>eO kQ l:=by
 simp only[rO]
 cases a:eO j5 l with
 |none=>rfl
 |some r=>
  cases r with
  |error K=>rfl
  |ok p=>
   obtain⟨x,ci⟩:=p
   simp only[andThen]
   cases eO kQ ci with
   |none=>rfl
   |some fv=>cases fv with
    |error K=>rfl
    |ok p=>obtain⟨e,c5⟩:=p;rfl
def auL(az:dx X)(e3:wC X){n:Nat}(sw:n<=200000)(kj:aY.length<=100000)(aA:iF X h j aK bN aY i){r:Except Int (Go.aZ.Node×List Tok)}(Z:Go.aZ.node n (aY.drop i)=some r):
 aW X 117 [.ptr aK 0] h j (λae U ar=>∃g cB row,r= .ok (g,aY.drop cB)/\ae= .agg row/\oH X U (cW j ar) g row/\aZ X U aK bN aY cB/\cf X [aK] h j U ar) (iT X aK h j r):=by
 refine zv az (agl X) ?_
 rw[agm]
 unfold Uu
 have gP:=aA.ba
 have ke:=aA.hB
 have hc:=aA.ei
 have jD:=aA.g4
 unfold Go.aZ.node at Z
 refine cS ⟨?_⟩
 refine fk (λa6=>ab X a6 (j+1)=zs [.str [110,111,100,101]] 1/\ab X a6 j=zs [.str [], .Z 0, .aU, .aU, .aU, .aU] 6/\bh X h j a6 (j+1+1)) ⟨bi Zo,by simp(disch:=omega) only[aG,bi]<;>rfl,dR⟩ ?_
 rintro a6 ⟨aq,qq,bT⟩
 have mT:=aA.go (aA.par.ex bT Zo Zo) (by omega:j<=j+1+1)
 have ii:cf X [aK] h j a6 (j+1+1):=cf.of bT
 rcases gx Z with ⟨K,W,rfl⟩|⟨hs,c5,W,Z⟩
 ·exact(jw az mT Zo Zo aq W).mono (λae U ar a=>by obtain⟨I,cB,a,_⟩:=a;cases a) (λae U ar a=>a.of ii (λ_ a=>by cases a;rfl))
 refine(jw az mT Zo Zo aq W).mono ?_ (λae U ar a=>by obtain⟨K,a,_⟩:=a;cases a)
 clear W
 rintro afi aR bc ⟨aBG,f7,I0,_,dD,dz⟩
 cases I0
 have f5:=dz.le
 have w5:=ii.trans dz
 have uO:ab X aR j=zs [.str [], .Z 0, .aU, .aU, .aU, .aU] 6:=by rw[dz.ad _ Zo (by simp;omega)];exact qq
 have fT:=aA.go dD w5.le
 clear aq qq bT mT ii dz
 cases tL:aY.drop f7 with
 |nil=>rw[tL]at Z;simp[iO,andThen]at Z
 |cons x eV=>
 rw[tL]at Z
 simp only[iO]at Z
 refine(BW az fT.ba fT.par fT.ei fT.hB fT.g4 fT.many (fP tL).1 1).mono ?_ (λEy bS cj a=>by
  obtain⟨aL,rfl,dG⟩:=a
  rw[Zh aL]at Z
  simp only[andThen,bad,Zf]at Z
  subst Z
  exact⟨_,rfl,rfl,w5.trans dG⟩)
 rintro Aq a7 bd ⟨aL,rfl,gL,ej⟩
 have ik:=ej.le
 rw[Zr aL]at Z
 simp only[andThen,ok]at Z
 rw[<-(fP tL).2]at Z
 have tx:ab X a7 j=zs [.str [], .Z 0, .aU, .aU, .aU, .aU] 6:=by rw[ej.ad _ Zo (by simp;omega)];exact uO
 have FB:=w5.trans ej
 clear uO ej w5 dD fT
 refine ce cb.eq_1 ⟨?_⟩
 refine fk (λbw=>ab X bw (bd+1+1)=zs [.str [40]] 1/\ta X bw (bd+1+1+1) (bd+1) x.text x.at_ .aU .aU .aU [] [] []/\bh X a7 bd bw (bd+1+1+1)) ⟨bi Zo,⟨by simp(disch:=omega) only[aG,bi]<;>rfl,Zo,⟨0,d1.nil _ _⟩,⟨0,d1.nil _ _⟩,⟨0,d1.nil _ _⟩⟩,dR⟩ ?_
 rintro bw ⟨CR,adF,dj⟩
 have yx:ab X bw j=zs [.str [], .Z 0, .aU, .aU, .aU, .aU] 6:=by rw[dj.ad _ Zo];exact tx
 have eI:=FB.trans (cf.of dj)
 have kO:=aA.go (gL.ex dj Zo Zo) (by omega:j<=bd+1+1+1)
 clear tx FB gL dj
 change andThen (eO [40] (aY.drop (f7+1))) _=some r at Z
 rcases gx Z with ⟨K,W,rfl⟩|⟨hs,c5,W,Z⟩
 ·exact(jw az kO Zo Zo CR W).mono (λae U ar a=>by obtain⟨I,cB,a,_⟩:=a;cases a) (λae U ar a=>a.of eI (λ_ a=>by cases a;rfl))
 refine(jw az kO Zo Zo CR W).mono ?_ (λae U ar a=>by obtain⟨K,a,_⟩:=a;cases a)
 clear W
 rintro v5 bS cj ⟨aBH,i5,sq,_,ho,dG⟩
 cases sq
 have il:=dG.le
 have adG:=adF.fr dG Zo
 have Ft:ab X bS j=zs [.str [], .Z 0, .aU, .aU, .aU, .aU] 6:=by rw[dG.ad _ Zo (by simp;omega)];exact yx
 have yC:=eI.trans dG
 have ov:=aA.go ho yC.le
 clear adF yx eI dG CR kO
 obtain⟨e,mQ,IW,JF⟩:=qW Z
 refine(nQ az ov IW _).Zm ?_
 rintro aff b4 dH ⟨rfl,hH,eD⟩
 have pY:=eD.le
 have NB:=adG.fr eD Zo
 have A5:ab X b4 j=zs [.str [], .Z 0, .aU, .aU, .aU, .aU] 6:=by rw[eD.ad _ Zo (by simp;omega)];exact Ft
 have uT:=yC.trans eD
 clear adG Ft yC eD ho ov
 refine rk cb.eq_1 ⟨?_⟩
 refine j0 (λM U aV=>∃(cY:J) (ef:List fq) (cB:Nat),M.g 0=some (.ptr aK 0)/\M.g 2=some (.ptr j 0)/\M.g 4=some (.ptr (bd+1) 0)/\ta X U aV (bd+1) x.text x.at_ cY .aU .aU ef [] []/\ab X U j=zs [.str [], .Z 0, .aU, .aU, .aU, .aU] 6/\aZ X U aK bN aY cB/\cf X [aK] h j U aV/\
  (andThen (eO [114,101,116,117,114,110,115] (aY.drop cB)) λ_ l=>andThen (eO [40] l) λ_ l=>andThen (i6 n false [] l) λout l=>andThen (eO [41] l) λ_ l=>
   io [118,97,114] l λe l=>andThen (match e with
    |some _=>andThen (i6 n true [] l) λds l=>andThen (eO [59] l) λ_ l=>ok ds l
    |none=>ok [] l) λloc l=>
   andThen (eO [108,101,116] l) λ_ l=>andThen (lR n [] l) λc2 l=>ok (⟨x.text,x.at_,ef,out,loc,c2⟩:Go.aZ.Node) l)=some r) (λaa bL=> ?_) ?_
 ·rcases JF with ⟨aI,Z⟩|⟨aI,Z⟩
  ·rw[aI]at hH ⊢
   simp only[ZD]at hH ⊢
   rw[<-(fP IW).2]at Z
   simp only[andThen,ok]at Z
   refine ce cb.eq_1 ⟨?_⟩
   refine bL _ _ _ ⟨.aU,[],i5+1,bp,bp,bp,NB.ad (λe T W=>zu) Zo,by simp(disch:=omega) only[aG];exact A5,hH.ad (zu) (zu), ?_,Z⟩
   exact⟨Zo,λb ai bW=>by rw[<-uT.ad b ai bW];exact zu⟩
  ·rw[aI]at hH ⊢
   simp only[Zx,ZA]at hH ⊢
   simp only[]at Z
   refine c1 cb.eq_1 g6.eq_1 ⟨?_⟩
   refine fk (λcu=>bh X b4 dH cu (dH+1)) dR ?_
   intro cu e7
   have DV:=NB.fr (cf.of (X:=[aK]) e7) Zo
   have yy:ab X cu j=zs [.str [], .Z 0, .aU, .aU, .aU, .aU] 6:=by rw[e7.ad _ Zo];exact A5
   have ev:=uT.trans (cf.of e7)
   have nh:=aA.go (hH.ex e7 Zo Zo) (by omega:j<=dH+1)
   clear NB A5 uT hH e7
   rcases gx Z with ⟨K,aN,rfl⟩|⟨ef,atK,aN,Z⟩
   ·rcases gx aN with ⟨f3,W,au⟩|⟨ds,oh,W,aN⟩
    ·cases au
     exact(Fe az kj nh W).mono (λae U ar a=>by obtain⟨I,cB,b,a,_⟩:=a;cases a) (λae U ar a=>a.of ev (λ_ a=>by cases a;rfl))
    refine(Fe az kj nh W).mono ?_ (λae U ar a=>by obtain⟨K,a,_⟩:=a;cases a)
    rintro Hl d4 fd ⟨al0,i8,WV,Db,Do,xp,gJ⟩
    cases Db
    have vb:=gJ.le
    have GR:=DV.fr gJ Zo
    obtain⟨gz,kv,nf⟩:=jt Do.len
    refine cS ⟨?_⟩
    have yw:=GR.mh
    refine fS (rK (Y:=2) yw Zo Zo gz kv) ?_
    refine cS ⟨?_⟩
    refine fk (λdM=>ab X dM fd=zs [.str [41]] 1/\∀e,e<fd->e≠(bd+1)->ab X dM e=ab X d4 e) ⟨bi Zo,λe T W=>zu⟩ ?_
    rintro dM ⟨Qx,hA⟩
    have mL:=xp.ad (hA _ Zo Zo) (hA _ Zo Zo)
    have hb:cf X [aK] h j dM (fd+1):=⟨Zo,λb ai bW=>by rw[hA b Zo Zo];exact(ev.trans gJ).ad b ai bW⟩
    rcases gx aN with ⟨f3,aP,bK⟩|⟨un,sI,aP,aN⟩
    ·cases bK
     exact(jw az (aA.go mL Zo) Zo Zo Qx aP).mono (λae U ar a=>by obtain⟨I,cB,a,_⟩:=a;cases a) (λae U ar a=>a.of hb (λ_ a=>by cases a;rfl))
    ·cases aN
   ·rcases gx aN with ⟨f3,W,au⟩|⟨ds,oh,W,aN⟩
    ·cases au
    refine(Fe az kj nh W).mono ?_ (λae U ar a=>by obtain⟨K,a,_⟩:=a;cases a)
    rintro Hl d4 fd ⟨al0,i8,WV,Db,Do,xp,gJ⟩
    cases Db
    have vb:=gJ.le
    have GR:=DV.fr gJ Zo
    obtain⟨gz,kv,nf⟩:=jt Do.len
    refine cS ⟨?_⟩
    have yw:=GR.mh
    refine fS (rK (Y:=2) yw Zo Zo gz kv) ?_
    refine cS ⟨?_⟩
    refine fk (λdM=>ab X dM fd=zs [.str [41]] 1/\ab X dM (bd+1)=zs [.str x.text, .Z x.at_,Hl, .aU, .aU, .aU] 6/\∀e,e<fd->e≠(bd+1)->ab X dM e=ab X d4 e) ⟨bi Zo,by rw[aG Zo Zo,bi Zo];rfl,λe T W=>zu⟩ ?_
    rintro dM ⟨Qx,Fr,hA⟩
    have mL:=xp.ad (hA _ Zo Zo) (hA _ Zo Zo)
    have hb:cf X [aK] h j dM (fd+1):=⟨Zo,λb ai bW=>by rw[hA b Zo Zo];exact(ev.trans gJ).ad b ai bW⟩
    have aAu:=DV.lt
    have Ke:ta X dM (fd+1) (bd+1) x.text x.at_ Hl .aU .aU _ [] []:=⟨Fr,Zo,⟨WV,(Do.ad (λe H=>hA e H.2 (zo H.1))).lift (λe H=>⟨zo H.1,zo H.2⟩)⟩,⟨0,d1.nil _ _⟩,⟨0,d1.nil _ _⟩⟩
    have w0:ab X dM j=zs [.str [], .Z 0, .aU, .aU, .aU, .aU] 6:=by rw[hA _ Zo Zo,gJ.ad _ Zo (by simp;omega)];exact yy
    rcases gx aN with ⟨f3,aP,bK⟩|⟨un,sI,aP,aN⟩
    ·cases bK
    refine(jw az (aA.go mL Zo) Zo Zo Qx aP).mono ?_ (λae U ar a=>by obtain⟨K,a,_⟩:=a;cases a)
    rintro uk wF J8 ⟨OB,acs,Rd,_,F1,tF⟩
    cases Rd
    cases aN
    exact bL _ _ _ ⟨Hl,_,acs,bp,bp,bp,Ke.fr tF Zo,by rw[tF.ad _ Zo (by simp;omega)];exact w0,F1,hb.trans tF,Z⟩
 ·clear JF hH NB A5 uT Z
  rintro M cu e1 ⟨cY,ef,o9,t0,eF,t4,DV,yy,hR,ev,Z⟩
  have Rz:=DV.lt
  refine ce @t0 ⟨?_⟩
  refine fk (λd4=>ab X d4 e1=zs [.str [114,101,116,117,114,110,115], .str [40]] 2/\bh X cu e1 d4 (e1+1)) ⟨bi Zo,dR⟩ ?_
  rintro d4 ⟨CT,gy⟩
  have GR:=DV.fr (cf.of (X:=[aK]) gy) Zo
  have L2:ab X d4 j=zs [.str [], .Z 0, .aU, .aU, .aU, .aU] 6:=by rw[gy.ad _ Zo];exact yy
  have gJ:=ev.trans (cf.of gy)
  have sT:=aA.go (hR.ex gy Zo Zo) (by omega:j<=e1+1)
  clear DV yy ev hR gy
  have Do:d1 X d4 (λe=>e=e1) e1 (.slice e1 0 2 2) 1 (ib [[114,101,116,117,114,110,115],[40]]):=Eb (bF:=[[.str [114,101,116,117,114,110,115]],[.str [40]]]) (st:= .own) CT rfl Zs Zd rfl
  have bI:∃Ai,rO [[114,101,116,117,114,110,115],[40]] g6 (aY.drop o9)=some Ai/\andThen (some Ai) (λ(_:Tok) l=>andThen (i6 n false [] l) λout l=>andThen (eO [41] l) λ_ l=>
   io [118,97,114] l λe l=>andThen (match e with
    |some _=>andThen (i6 n true [] l) λds l=>andThen (eO [59] l) λ_ l=>ok ds l
    |none=>ok [] l) λloc l=>
   andThen (eO [108,101,116] l) λ_ l=>andThen (lR n [] l) λc2 l=>ok (⟨x.text,x.at_,ef,out,loc,c2⟩:Go.aZ.Node) l)=some r:=by
   rw[ayK]
   rcases gx Z with ⟨K,T,rfl⟩|⟨bf,en,T,Z⟩
   ·exact⟨.error K,by rw[T];rfl,rfl⟩
   ·rcases gx Z with ⟨K,W,rfl⟩|⟨ck,c5,W,Z⟩
    ·exact⟨.error K,by rw[T];exact W,rfl⟩
    ·exact⟨.ok (ck,c5),by rw[T];exact W,Z⟩
  clear Z
  obtain⟨Ai,bI,Z⟩:=bI
  refine(aft az sT.ba sT.par sT.ei sT.hB sT.g4 sT.many Zo Zo Do bI).mono ?_ (λae U ar a=>by
   obtain⟨K,rfl,rfl,a⟩:=a
   simp only[andThen,Zf]at Z
   subst Z
   exact⟨K,rfl,rfl,gJ.trans a⟩)
  rintro v9 dM jf ⟨un,i9,rfl,_,mL,hb⟩
  change andThen (i6 n false [] (aY.drop i9)) _=some r at Z
  have tO:=hb.le
  have Ke:=GR.fr hb Zo
  have w0:ab X dM j=zs [.str [], .Z 0, .aU, .aU, .aU, .aU] 6:=by rw[hb.ad _ Zo (by simp;omega)];exact L2
  have A9:=gJ.trans hb
  have Tg:=aA.go mL A9.le
  clear GR L2 gJ hb Do CT sT bI mL
  refine ce @t0 ⟨?_⟩
  rcases gx Z with ⟨K,W,rfl⟩|⟨out,aA3,W,Z⟩
  ·exact(Fe az kj Tg W).mono (λae U ar a=>by obtain⟨I,cB,b,a,_⟩:=a;cases a) (λae U ar a=>a.of A9 (λ_ a=>by cases a;rfl))
  refine(Fe az kj Tg W).mono ?_ (λae U ar a=>by obtain⟨K,a,_⟩:=a;cases a)
  clear W
  rintro uk wF J8 ⟨out,acs,akK,Rd,RW,F1,tF⟩
  cases Rd
  have azX:=tF.le
  have S0:=Ke.fr tF Zo
  have φ:ab X wF j=zs [.str [], .Z 0, .aU, .aU, .aU, .aU] 6:=by rw[tF.ad _ Zo (by simp;omega)];exact w0
  have aas:=A9.trans tF
  obtain⟨gz,kv,nf⟩:=jt RW.len
  have aAk:=Ke.lt
  refine ce @t4 ⟨?_⟩
  refine fS (rK (Y:=3) S0.mh Zo Zo gz kv) ?_
  refine ce @t0 ⟨?_⟩
  refine fk (λq7=>ab X q7 J8=zs [.str [41]] 1/\ab X q7 (bd+1)=zs [.str x.text, .Z x.at_,cY,uk, .aU, .aU] 6/\∀e,e<J8->e≠bd+1->ab X q7 e=ab X wF e) ⟨bi Zo,by rw[aG Zo Zo,bi Zo];rfl,λe T W=>zu⟩ ?_
  rintro q7 ⟨Qu,Fq,DE⟩
  have Jk:=F1.ad (DE _ Zo Zo) (DE _ Zo Zo)
  have w4:cf X [aK] h j q7 (J8+1):=⟨Zo,λb ai bW=>by rw[DE b Zo Zo];exact aas.ad b ai bW⟩
  have adE:ta X q7 (J8+1) (bd+1) x.text x.at_ cY uk .aU ef out []:=by
   obtain⟨HR,yV⟩:=S0.eW
   exact⟨Fq,Zo,⟨HR,(yV.ad (λe H=>DE e H.2 (zo H.1))).lift (λe H=>⟨H.1,zo H.2⟩)⟩,⟨akK,(RW.ad (λe H=>DE e H.2 (zo H.1))).lift (λe H=>⟨zo H.1,zo H.2⟩)⟩,⟨0,d1.nil _ _⟩⟩
  have χ:ab X q7 j=zs [.str [], .Z 0, .aU, .aU, .aU, .aU] 6:=by rw[DE _ Zo Zo];exact φ
  clear Ke S0 w0 φ A9 tF aas RW F1 DE Fq Tg
  rcases gx Z with ⟨K,aP,rfl⟩|⟨aBC,aA5,aP,Z⟩
  ·exact(jw az (aA.go Jk Zo) Zo Zo Qu aP).mono (λae U ar a=>by obtain⟨I,cB,a,_⟩:=a;cases a) (λae U ar a=>a.of w4 (λ_ a=>by cases a;rfl))
  refine(jw az (aA.go Jk Zo) Zo Zo Qu aP).mono ?_ (λae U ar a=>by obtain⟨K,a,_⟩:=a;cases a)
  clear aP
  rintro aBy ajL aBd ⟨aBD,act,apK,_,abP,IB⟩
  cases apK
  have azZ:=IB.le
  have S1:=adE.fr IB Zo
  have ψ:ab X ajL j=zs [.str [], .Z 0, .aU, .aU, .aU, .aU] 6:=by rw[IB.ad _ Zo (by simp;omega)];exact χ
  have QH:=w4.trans IB
  have aeb:=aA.go abP QH.le
  clear adE χ w4 IB Jk Qu abP
  refine ce @t0 ⟨?_⟩
  obtain⟨e,aA6,aaZ,acn⟩:=qW Z
  refine(nQ az aeb aaZ _).Zm ?_
  rintro aBw Wo SX ⟨rfl,Bk,IC⟩
  have az0:=IC.le
  have NA:=S1.fr IC Zo
  have LY:ab X Wo j=zs [.str [], .Z 0, .aU, .aU, .aU, .aU] 6:=by rw[IC.ad _ Zo (by simp;omega)];exact ψ
  have Mc:=QH.trans IC
  have aAf:=S1.lt
  clear S1 ψ QH IC aeb Z
  refine rk cb.eq_1 ⟨?_⟩
  refine j0 (λM U aV=>∃(a8:J) (loc:List fq) (cB:Nat),M.g 0=some (.ptr aK 0)/\M.g 2=some (.ptr j 0)/\M.g 4=some (.ptr (bd+1) 0)/\ta X U aV (bd+1) x.text x.at_ cY uk a8 ef out loc/\ab X U j=zs [.str [], .Z 0, .aU, .aU, .aU, .aU] 6/\aZ X U aK bN aY cB/\cf X [aK] h j U aV/\
   (andThen (eO [108,101,116] (aY.drop cB)) λ_ l=>andThen (lR n [] l) λc2 l=>ok (⟨x.text,x.at_,ef,out,loc,c2⟩:Go.aZ.Node) l)=some r) (λaa bL=> ?_) ?_
  ·rcases acn with ⟨aI,Z⟩|⟨aI,Z⟩
   ·rw[aI]at Bk ⊢
    simp only[ZD]at Bk ⊢
    rw[<-(fP aaZ).2]at Z
    simp only[]at Z
    refine c1 cb.eq_1 @t0 ⟨?_⟩
    refine fk (λHB=>bh X Wo SX HB (SX+1)) dR ?_
    intro HB Iv
    have Kd:=NA.fr (cf.of (X:=[aK]) Iv) Zo
    have LZ:ab X HB j=zs [.str [], .Z 0, .aU, .aU, .aU, .aU] 6:=by rw[Iv.ad _ Zo];exact LY
    have ID:=Mc.trans (cf.of Iv)
    have avJ:=aA.go (Bk.ex Iv Zo Zo) (by omega:j<=SX+1)
    clear NA LY Mc Bk Iv
    have Mv:∃rd,i6 n true [] (aY.drop (act+1))=some rd/\(match rd with
     | .error K=>r= .error K
     | .ok (ds,l)=>∃Ai,eO [59] l=some Ai/\(match Ai with
       | .error K=>r= .error K
       | .ok (_,l)=>(andThen (eO [108,101,116] l) λ_ l=>andThen (lR n [] l) λc2 l=>ok (⟨x.text,x.at_,ef,out,ds,c2⟩:Go.aZ.Node) l)=some r)):=by
     rcases gx Z with ⟨K,aN,rfl⟩|⟨loc,atK,aN,Z⟩
     ·rcases gx aN with ⟨f3,W,au⟩|⟨ds,oh,W,aN⟩
      ·cases au;exact⟨_,W,rfl⟩
      ·rcases gx aN with ⟨f3,aP,bK⟩|⟨un,sI,aP,aN⟩
       ·cases bK;exact⟨_,W,_,aP,rfl⟩
       ·cases aN
     ·rcases gx aN with ⟨f3,W,au⟩|⟨ds,oh,W,aN⟩
      ·cases au
      ·rcases gx aN with ⟨f3,aP,bK⟩|⟨un,sI,aP,aN⟩
       ·cases bK
       ·cases aN;exact⟨_,W,_,aP,Z⟩
    obtain⟨rd,W,ab1⟩:=Mv
    refine(Fe az kj avJ W).mono ?_ (λae U ar a=>by
     obtain⟨K,rfl,rfl,a⟩:=a
     subst ab1
     exact⟨K,rfl,rfl,ID.trans a⟩)
    rintro T1 K3 Ny ⟨ds,aAS,akL,rfl,ab0,aqU,A7⟩
    obtain⟨Ai,aP,Dr⟩:=ab1
    have az1:=A7.le
    have GQ:=Kd.fr A7 Zo
    have L0:ab X K3 j=zs [.str [], .Z 0, .aU, .aU, .aU, .aU] 6:=by rw[A7.ad _ Zo (by simp;omega)];exact LZ
    have aoI:=ID.trans A7
    obtain⟨fJ,hp,uc⟩:=jt ab0.len
    refine ce @t4 ⟨?_⟩
    refine fS (rK (Y:=4) GQ.mh Zo Zo fJ hp) ?_
    refine ce @t0 ⟨?_⟩
    refine fk (λq7=>ab X q7 Ny=zs [.str [59]] 1/\ab X q7 (bd+1)=zs [.str x.text, .Z x.at_,cY,uk,T1, .aU] 6/\∀e,e<Ny->e≠bd+1->ab X q7 e=ab X K3 e) ⟨bi Zo,by rw[aG Zo Zo,bi Zo];rfl,λe T W=>zu⟩ ?_
    rintro Cq ⟨aoa,anL,DF⟩
    have MT:=aqU.ad (DF _ Zo Zo) (DF _ Zo Zo)
    have A8:cf X [aK] h j Cq (Ny+1):=⟨Zo,λb ai bW=>by rw[DF b Zo Zo];exact aoI.ad b ai bW⟩
    have DU:ta X Cq (Ny+1) (bd+1) x.text x.at_ cY uk T1 ef out ds:=by
     obtain⟨HR,yV⟩:=GQ.eW
     obtain⟨Po,jY⟩:=GQ.fv
     exact⟨anL,Zo,⟨HR,(yV.ad (λe H=>DF e H.2 (zo H.1))).lift (λe H=>⟨H.1,zo H.2⟩)⟩,⟨Po,(jY.ad (λe H=>DF e H.2 (zo H.1))).lift (λe H=>⟨H.1,zo H.2⟩)⟩,⟨akL,(ab0.ad (λe H=>DF e H.2 (zo H.1))).lift (λe H=>⟨zo H.1,zo H.2⟩)⟩⟩
    have L1:ab X Cq j=zs [.str [], .Z 0, .aU, .aU, .aU, .aU] 6:=by rw[DF _ Zo Zo];exact L0
    refine(jw az (aA.go MT Zo) Zo Zo aoa aP).mono ?_ (λae U ar a=>by
     obtain⟨K,rfl,rfl,a⟩:=a
     subst Dr
     exact⟨K,rfl,rfl,A8.trans a⟩)
    rintro aBA HC J9 ⟨KP,Bz,rfl,_,RP,FA⟩
    exact bL _ _ _ ⟨T1,ds,Bz,aQ t0,aQ eF,aQ t4,DU.fr FA Zo,by rw[FA.ad _ Zo (by simp;omega)];exact L1,RP,A8.trans FA,Dr⟩
   ·rw[aI]at Bk ⊢
    simp only[Zx,ZA]at Bk ⊢
    simp only[andThen,ok]at Z
    refine c1 cb.eq_1 g6.eq_1 ⟨?_⟩
    refine bL _ _ _ ⟨.aU,[],act,aQ t0,aQ eF,aQ t4,NA.ad (λe T W=>zu) Zo,by simp(disch:=omega) only[aG];exact LY,Bk.ad (zu) (zu), ?_,Z⟩
    exact⟨Zo,λb ai bW=>by rw[<-Mc.ad b ai bW];exact zu⟩
  ·clear acn Bk NA LY Mc t0 eF t4
   rintro M HB Nx ⟨a8,loc,aAR,t0,eF,t4,Kd,LZ,abQ,ID,Z⟩
   have aAg:=Kd.lt
   refine ce @t0 ⟨?_⟩
   refine fk (λd4=>ab X d4 Nx=zs [.str [108,101,116]] 1/\bh X HB Nx d4 (Nx+1)) ⟨bi Zo,dR⟩ ?_
   rintro K3 ⟨Qv,CY⟩
   have GQ:=Kd.fr (cf.of (X:=[aK]) CY) Zo
   have L0:ab X K3 j=zs [.str [], .Z 0, .aU, .aU, .aU, .aU] 6:=by rw[CY.ad _ Zo];exact LZ
   have A7:=ID.trans (cf.of CY)
   have Tf:=aA.go (abQ.ex CY Zo Zo) (by omega:j<=Nx+1)
   clear Kd LZ ID abQ CY
   rcases gx Z with ⟨K,aP,rfl⟩|⟨aBE,aA7,aP,Z⟩
   ·exact(jw az Tf Zo Zo Qv aP).mono (λae U ar a=>by obtain⟨I,cB,a,_⟩:=a;cases a) (λae U ar a=>a.of A7 (λ_ a=>by cases a;rfl))
   refine(jw az Tf Zo Zo Qv aP).mono ?_ (λae U ar a=>by obtain⟨K,a,_⟩:=a;cases a)
   clear aP
   rintro aBz Cq eN ⟨aBF,i16,apL,_,MT,A8⟩
   cases apL
   have az2:=A8.le
   have DU:=GQ.fr A8 Zo
   have L1:ab X Cq j=zs [.str [], .Z 0, .aU, .aU, .aU, .aU] 6:=by rw[A8.ad _ Zo (by simp;omega)];exact L0
   have aat:=A7.trans A8
   have aAh:=DU.lt
   clear GQ L0 A7 A8 Tf Qv
   obtain⟨HR,yV⟩:=DU.eW
   obtain⟨Po,jY⟩:=DU.fv
   obtain⟨Lh,Dq⟩:=DU.hK
   obtain⟨wh,Hk,Aq⟩:=jt yV.len
   obtain⟨np,py,aBB⟩:=jt jY.len
   obtain⟨f2,fF,z3⟩:=jt Dq.len
   refine gX ?_
   refine fC (λm M U aV=>∃(eR:J) (c2:List gv) (bF:List (List J)) (cM:List Nat) (cB:Nat),M.g 0=some (.ptr aK 0)/\M.g 2=some (.ptr j 0)/\M.g 4=some (.ptr (bd+1) 0)/\ab X U (bd+1)=zs [.str x.text, .Z x.at_,cY,uk,a8,eR] 6/\
    (∀e,bd+2<=e->e<eN->ab X U e=ab X Cq e)/\gC X U eR 4 bF.flatten cM/\(∀e∈cM,eN<=e/\e<aV)/\oE X U (vW eN aV cM) c2 bF/\ab X U j=zs [.str [], .Z 0, .aU, .aU, .aU, .aU] 6/\aZ X U aK bN aY cB/\cf X [aK] h j U aV/\eN<=aV/\c2.length+m<=n/\
    (andThen (lR m c2 (aY.drop cB)) λc2 l=>ok (⟨x.text,x.at_,ef,out,loc,c2⟩:Go.aZ.Node) l)=some r)
    n ⟨.aU,[],[],[],i16,t0,eF,t4,DU.mh,λ_ _ _=>rfl, .inl (.inl ⟨rfl,rfl,rfl⟩),Zs,rfl,L1,MT,aat,Zl _,Zs,Z⟩ ?_
   clear Z MT L1 aat t0 eF t4
   rintro m M HC J9 ⟨eR,c2,bF,cM,Bz,t0,eF,t4,Qh,acV,M2,w9,MW,ω,RP,FA,az3,aAm,Z⟩
   cases m with
   |zero=>simp[lR,andThen]at Z
   |succ m=>
   unfold lR at Z
   have avK:=aA.go RP FA.le
   refine gX ?_
   refine ce @t0 ⟨?_⟩
   have F6:∃e l,aY.drop Bz=e::l/\((g5 e [116,101,108]=true/\ok (⟨x.text,x.at_,ef,out,loc,c2⟩:Go.aZ.Node) l=some r)\/(g5 e [116,101,108]=false/\(andThen (andThen (uI m (aY.drop Bz)) λao l=>lR m (c2++[ao]) l) λc2 l=>ok (⟨x.text,x.at_,ef,out,loc,c2⟩:Go.aZ.Node) l)=some r)):=by
    rcases gx Z with ⟨K,T,rfl⟩|⟨aen,ci,T,Z⟩
    ·obtain⟨e,l,W,au⟩:=qW T
     rcases au with ⟨au,aP⟩|⟨au,aP⟩
     ·cases aP
     ·exact⟨e,l,W, .inr ⟨au,by rw[show(andThen (uI m (aY.drop Bz)) λao l=>lR m (c2++[ao]) l)=some (.error K) from aP];rfl⟩⟩
    ·obtain⟨e,l,W,au⟩:=qW T
     rcases au with ⟨au,aP⟩|⟨au,aP⟩
     ·cases aP
      exact⟨e,_,W, .inl ⟨au,Z⟩⟩
     ·exact⟨e,l,W, .inr ⟨au,by rw[show(andThen (uI m (aY.drop Bz)) λao l=>lR m (c2++[ao]) l)=some (.ok (aen,ci)) from aP];exact Z⟩⟩
   clear Z
   obtain⟨e,aA8,aa0,asc⟩:=F6
   refine(nQ az avK aa0 _).Zm ?_
   rintro aBx Cr vM ⟨rfl,vh,QI⟩
   have az4:=QI.le
   have JO:∀e,j<=e->e<J9->ab X Cr e=ab X HC e:=λe T W=>QI.ad e W (by simp;omega)
   have aau:=FA.trans QI
   rcases asc with ⟨aI,Z⟩|⟨aI,Z⟩
   ·rw[aI]at vh ⊢
    simp only[ZD]at vh ⊢
    simp only[ok,Zf]at Z
    subst Z
    obtain⟨bH,cP,fH⟩:=gC.one M2
    have Qi:ab X Cr (bd+1)=zs [.str x.text, .Z x.at_,cY,uk,a8,eR] 6:=by rw[JO _ Zo Zo];exact Qh
    have an6:ab X Cr j=zs [.str [], .Z 0, .aU, .aU, .aU, .aU] 6:=by rw[JO _ Zo Zo];exact ω
    refine gl cb.eq_1 @t4 (bR Qi) @eF ⟨?_⟩
    refine fS (im (F:=6) (b:=j) (Y:=0) (n:=6) (c:=V.ofList [.str [], .Z 0, .aU, .aU, .aU, .aU] 0 .nil) (by simp(disch:=omega) only[aG];exact an6) Zo rfl Zd Zd (by simp[J.cells,jI,Hk,py,fF,cP,show p7 (.Z x.at_)=true from rfl,show p7 (.str x.text)=true from rfl])) ?_
    refine ce @eF ⟨?_⟩
    have DI:∀gF,(∀e,j<e->e<vM->ab X gF e=ab X Cr e)->∀e,j<e->e<J9->ab X gF e=ab X HC e:=λgF a e T W=>by rw[a e T Zo,JO e Zo W]
    generalize aaH:bo X _ j _=gF
    have Ni:∀e,e≠j->e<vM->ab X gF e=ab X Cr e:=λe T W=>by rw[<-aaH];exact zu
    clear aaH
    have Ss:=DI gF (λe T W=>Ni e Zo W)
    have yT:=MW.wide
    obtain⟨akP,MZ⟩:=(M2.ad (U:=gF) (λe H=>Ss e (zo (w9 e H)) (w9 e H).2)).rH Zd yT.2 (by rw[yT.1];omega) (P:=cW j (vM+1)) (λe H=>by have:=w9 e H;exact⟨Zo,Zo⟩)
    have c7:∀e,cW (bd+1+1) eN e->ab X gF e=ab X Cq e:=λe H=>by
     have T:=H.1;have W:=H.2
     rw[Ss e Zo Zo];exact acV e Zo W
    have eV:∀e,cW (bd+1+1) eN e->cW j (vM+1) e:=λe H=>⟨zo H.1,zo H.2⟩
    refine⟨_,Bz+1,_,by rw[(fP aa0).2],rfl,⟨cY,uk,a8,eR,HR,Po,Lh,akP,bF,rfl,(yV.ad c7).lift eV,(jY.ad c7).lift eV,(Dq.ad c7).lift eV,MZ, ?_⟩, ?_, ?_⟩
    ·exact MW.ad (λe H=>Ss e (zo H.1) H.2.1) (λe H=>⟨zo H.1,zo H.2.1⟩)
    ·exact vh.ad (Ni _ Zo Zo) (Ni _ Zo Zo)
    ·exact⟨Zo,λb ai bW=>by rw[Ni b Zo Zo];exact aau.ad b ai bW⟩
   ·rw[aI]at vh ⊢
    simp only[Zx,ZA]at vh ⊢
    obtain⟨bH,cP,fH⟩:=gC.one M2
    have Qi:ab X Cr (bd+1)=zs [.str x.text, .Z x.at_,cY,uk,a8,eR] 6:=by rw[JO _ Zo Zo];exact Qh
    refine fW cb.eq_1 g6.eq_1 @t4 (bR Qi) @t0 ⟨?_⟩
    refine fk (λOZ=>bh X Cr vM OZ (vM+1+8)) dR ?_
    intro OZ QC
    have asQ:∀e,j<=e->e<J9->ab X OZ e=ab X HC e:=λe T W=>by rw[QC.ad e Zo];exact JO e T W
    have aav:=aau.trans (cf.of QC)
    have avL:=aA.go (vh.ex QC Zo Zo) (by omega:j<=vM+1+8)
    have ary:∃Ee,uI m (aY.drop Bz)=some Ee/\(match Ee with
     | .error K=>r= .error K
     | .ok (ao,l)=>(andThen (lR m (c2++[ao]) l) λc2 l=>ok (⟨x.text,x.at_,ef,out,loc,c2⟩:Go.aZ.Node) l)=some r):=by
     rcases gx Z with ⟨K,T,rfl⟩|⟨aen,ci,T,Z⟩
     ·rcases gx T with ⟨f3,W,au⟩|⟨ao,l,W,au⟩
      ·cases au;exact⟨_,W,rfl⟩
      ·exact⟨_,W,by show andThen _ _=_;rw[au];rfl⟩
     ·rcases gx T with ⟨f3,W,au⟩|⟨ao,l,W,au⟩
      ·cases au
      ·exact⟨_,W,by show andThen _ _=_;rw[au];exact Z⟩
    obtain⟨Ee,T,fN⟩:=ary
    refine(amx az e3 Zo avL T).mono ?_ (λae U ar a=>by
     obtain⟨K,rfl,rfl,a⟩:=a
     subst fN
     exact⟨K,rfl,rfl,aav.trans a⟩)
    rintro T2 HD adx ⟨ao,asl,row,rfl,rfl,RY,aqV,QJ⟩
    have az5:=QJ.le
    have aoJ:=aav.trans QJ
    have JP:∀e,j<=e->e<J9->ab X HD e=ab X HC e:=λe T W=>by rw[QJ.ad e Zo (by simp;omega)];exact asQ e T W
    have κ:ab X HD (bd+1)=zs [.str x.text, .Z x.at_,cY,uk,a8,eR] 6:=by rw[JP _ Zo Zo];exact Qh
    have arx:=RY.len
    obtain⟨jv,eW,fv,hK,rfl⟩:∃jv eW fv hK,row=[jv,eW,fv,hK]:=by
     match row,arx with
     |[K,b,c,d],_=>exact⟨K,b,c,d,rfl⟩
    have xo:jI [jv,eW,fv,hK]=true:=by obtain⟨_,_,_,_,_,T,_,_,_,bK⟩:=RY;exact bK
    refine ce (bR κ) ⟨?_⟩
    refine gs fH ?_
    have ki:lh X (bo X HD (vM+1+4) (zs [jv,eW,fv,hK] 4)) 4 (.slice (vM+1+4) 0 1 1)=some (1,[jv,eW,fv,hK]):=s2 (bi Zo) (og _) rfl _
    have yT:=MW.wide
    have qx:=wW yT.2
    obtain⟨aw1,EJ,gG,iv,ab5,Mn,aqn⟩:=(M2.ad (U:=bo X HD (vM+1+4) (zs [jv,eW,fv,hK] 4)) (λe H=>by have:=w9 e H;rw[aG Zo Zo];exact JP e Zo Zo)).append (j:=adx) Zd ki rfl Zd xo (by rw[qx,yT.1];simp only[ZC,ZQ];omega) Zo (λe H=>zo (w9 e H))
    refine ky iv ?_
    obtain⟨eS,e2,iU⟩:=kC.one ab5
    have BG:∀e,e<adx->e≠vM+1+4->e∉cM->ab X EJ e=ab X HD e:=λe T W au=>by rw[aqn e Zo au,aG Zo W]
    have dl:∀e,e<eN->e∉cM:=λe T W=>zo (w9 e W)
    have anN:ab X EJ (bd+1)=zs [.str x.text, .Z x.at_,cY,uk,a8,eR] 6:=by rw[BG _ Zo Zo (dl _ Zo)];exact κ
    refine ce @t4 ⟨?_⟩
    refine fS (rK (Y:=5) anN Zo Zo eS e2) ?_
    have BH:∀e,e≠bd+1->∀cO,ab X (bo X EJ (bd+1) cO) e=ab X EJ e:=λe a cO=>aG Zo a
    refine⟨m,Zo,aw1,c2++[ao],bF++[[jv,eW,fv,hK]],gG,asl,aQ t0,aQ eF,aQ t4,by rw[bi Zo];rfl, ?_, .inl ?_, ?_, ?_, ?_, ?_, ?_,Zo,by simp;omega,fN⟩
    ·intro e T W
     rw[BH e Zo,BG e Zo Zo (dl e W),JP e Zo Zo]
     exact acV e T W
    ·rw[zc,Yp,List.flatten_nil,Yx]
     exact ab5.ad λe H=>BH e (by rcases Mn e H with rfl|a;omega;have:=w9 e a;omega) _
    ·intro e H
     rcases Mn e H with rfl|a
     ·omega
     ·have:=w9 e a;omega
    ·refine oE.snoc (RY.ad (λe H=> ?_) (λe H=>H)) (MW.ad (λe H=> ?_) (λe H=>H)) (λe H=> ?_) (λe H=>⟨?_,λo8=>by have:=H.1;have:=o8.2.1;omega⟩)
     ·have T:=H.1;have W:=H.2
      rw[BH e Zo,BG e Zo Zo (λa=>zo (w9 e a))]
     ·have T:=H.1;have W:=H.2.1
      rw[BH e Zo,BG e Zo Zo H.2.2,JP e Zo Zo]
     ·have T:=H.1;have W:=H.2.1
      refine⟨T,Zo,λa=> ?_⟩
      rcases Mn e a with rfl|a
      ·omega
      ·exact H.2.2 a
     ·have T:=H.1;have W:=H.2
      refine⟨Zo,Zo,λa=> ?_⟩
      rcases Mn e a with rfl|a
      ·omega
      ·have:=w9 e a;omega
    ·rw[BH _ Zo,BG _ Zo Zo (dl _ Zo),JP _ Zo Zo];exact ω
    ·exact aqV.ad (by rw[BH _ Zo,BG _ Zo Zo (dl _ Zo)]) (by rw[BH _ Zo,BG _ Zo Zo (dl _ Zo)])
    ·exact⟨Zo,λb ai bW=>by rw[BH b Zo,BG b Zo Zo (dl b Zo)];exact aoJ.ad b ai bW⟩
end
def oI(X:co)(h:V an):(Nat->Prop)->List Go.aZ.Node->List (List J)->Prop
 |_,[],bF=>bF=[]
 |P,ao::c2,bF=>∃row hh bv,bF=row::hh/\(∀e,bv e->P e)/\oH X h bv ao row/\oI X h (λe=>P e/\¬bv e) c2 hh
def oH.ad{X:co}{h U:V an}{P bv:Nat->Prop}{g:Go.aZ.Node}{row:List J}(a:oH X h P g row)(F:∀e,P e->ab X U e=ab X h e)(aD:∀e,P e->bv e):oH X U bv g row:=by
 obtain⟨cY,df,a8,eR,cT,dL,et,ig,bF,I,T,W,au,aP,bK⟩:=a
 exact⟨cY,df,a8,eR,cT,dL,et,ig,bF,I,(T.ad F).lift aD,(W.ad F).lift aD,(au.ad F).lift aD,(aP.ad F).lift aD,bK.ad F aD⟩
def oH.len{X:co}{h:V an}{P:Nat->Prop}{g:Go.aZ.Node}{row:List J}(a:oH X h P g row):row.length=6:=by
 obtain⟨cY,df,a8,eR,cT,dL,et,ig,bF,I,_⟩:=a
 subst I;rfl
def oI.ad{X:co}{h U:V an}:∀{c2:List Go.aZ.Node}{bF:List (List J)}{P bv:Nat->Prop}(F:∀e,P e->ab X U e=ab X h e) (aD:∀e,P e->bv e),oI X h P c2 bF->oI X U bv c2 bF:=by
 intro c2
 induction c2 with
 |nil=>intro bF P bv F aD a;exact a
 |cons ao c2 am=>
  rintro bF P bv F aD ⟨row,hh,eY,T,b6,W,au⟩
  exact⟨row,hh,eY,T,λe H=>aD e (b6 e H),W.ad (λe H=>F e (b6 e H)) (λe H=>H),am (λe H=>F e H.1) (λe H=>⟨aD e H.1,H.2⟩) au⟩
def oI.snoc{X:co}{h:V an}{bv:Nat->Prop}{ao:Go.aZ.Node}{row:List J}(a:oH X h bv ao row):∀{c2:List Go.aZ.Node}{bF:List (List J)}{oJ P:Nat->Prop},oI X h oJ c2 bF->(∀e,oJ e->P e)->(∀e,bv e->P e/\¬oJ e)->oI X h P (c2++[ao]) (bF++[row]):=by
 intro c2
 induction c2 with
 |nil=>rintro bF oJ P rfl T W;exact⟨row,[],bv,rfl,λe H=>(W e H).1,a,rfl⟩
 |cons K c2 am=>
  rintro bF oJ P ⟨qV,hh,eY,rfl,b6,au,aP⟩ T W
  exact⟨qV,hh++[row],eY,rfl,λe H=>T e (b6 e H),au,am aP (λe H=>⟨T e H.1,H.2⟩) (λe H=>⟨⟨(W e H).1,λiV=>(W e H).2 (b6 e iV)⟩,λo8=>(W e H).2 o8.1⟩)⟩
def oI.wide{X:co}{h:V an}:∀{c2:List Go.aZ.Node}{bF:List (List J)}{P:Nat->Prop},oI X h P c2 bF->bF.length=c2.length/\∀r∈bF,r.length=6:=by
 intro c2
 induction c2 with
 |nil=>rintro bF P rfl;simp
 |cons K c2 am=>
  rintro bF P ⟨qV,hh,eY,rfl,b6,W,au⟩
  obtain⟨aP,bK⟩:=am au
  refine⟨by simp[aP],λr Z=> ?_⟩
  rcases Zq.1 Z with rfl|Z
  ·exact W.len
  ·exact bK r Z
def oI.get{X:co}{h:V an}:∀{c2:List Go.aZ.Node}{bF:List (List J)}{P:Nat->Prop},oI X h P c2 bF->∀(i:Nat) g,c2[i]? =some g->∃row,bF[i]? =some row/\oH X h P g row:=by
 intro c2
 induction c2 with
 |nil=>intro bF P _ i g a;simp at a
 |cons K c2 am=>
  rintro bF P ⟨qV,hh,eY,rfl,b6,W,au⟩ i g a
  cases i with
  |zero=>simp at a;subst a;exact⟨qV,rfl,W.ad (λ_ _=>rfl) b6⟩
  |succ i=>simp at a;obtain⟨row,aP,bK⟩:=am au i g a;exact⟨row,by simpa using aP,bK.ad (λ_ _=>rfl) (λe H=>H.1)⟩
def oE.get{X:co}{h:V an}:∀{c2:List gv}{bF:List (List J)}{P:Nat->Prop},oE X h P c2 bF->∀(i:Nat) g,c2[i]? =some g->∃row,bF[i]? =some row/\x2 X h P g row:=by
 intro c2
 induction c2 with
 |nil=>intro bF P _ i g a;simp at a
 |cons K c2 am=>
  rintro bF P ⟨qV,hh,eY,rfl,b6,W,au⟩ i g a
  cases i with
  |zero=>simp at a;subst a;exact⟨qV,rfl,W.ad (λ_ _=>rfl) b6⟩
  |succ i=>simp at a;obtain⟨row,aP,bK⟩:=am au i g a;exact⟨row,by simpa using aP,bK.ad (λ_ _=>rfl) (λe H=>H.1)⟩
def oH.jI{X:co}{h:V an}{P:Nat->Prop}{g:Go.aZ.Node}{row:List J}(a:oH X h P g row):Go.bk.jI row=true:=by
 obtain⟨cY,df,a8,eR,cT,dL,et,ig,bF,rfl,T,W,au,aP,_⟩:=a
 simp[Go.bk.jI,(jt T.len).2.1,(jt W.len).2.1,(jt au.len).2.1,(jt aP.len).2.1,show p7 (.Z g.at_)=true from rfl,show p7 (.str g.name)=true from rfl]
def ns(X:co)(h:V an)(P:Nat->Prop)(aq:List Go.aZ.Node)(v:J):Prop:=∃b a8 cD bF,v= .ptr b 0/\P b/\al X h (.ptr b 0)=some a8/\d1 X h P cD a8 6 bF/\oI X h P aq bF
def ns.ad{X:co}{h U:V an}{P bv:Nat->Prop}{aq:List Go.aZ.Node}{v:J}(a:ns X h P aq v)(F:∀e,P e->ab X U e=ab X h e)(aD:∀e,P e->bv e):ns X U bv aq v:=by
 obtain⟨b,a8,cD,bF,rfl,T,W,au,aP⟩:=a
 exact⟨b,a8,cD,bF,rfl,aD _ T,zz (F _ T) W,(au.ad F).lift aD,aP.ad F aD⟩
section
variable{X:co}{h U a6 aR:V an}{j ar aJ bc aK bN:Nat}{aY:List Tok}{i:Nat}
def avR(az:dx X)(e3:wC X){n:Nat}(sw:n<=170000)(kj:aY.length<=100000)(aA:iF X h j aK bN aY i){r:Except Int (List Go.aZ.Node×List Tok)}(Z:pm n [] (aY.drop i)=some r):
 aW X 68 [.ptr aK 0] h j (λae U ar=>∃aq cB,r= .ok (aq,aY.drop cB)/\ns X U (cW j ar) aq ae/\aZ X U aK bN aY cB/\cf X [aK] h j U ar) (iT X aK h j r):=by
 refine zv az (ajp X) ?_
 rw[ajq]
 unfold V9
 have gP:=aA.ba
 have ke:=aA.hB
 have hc:=aA.ei
 have jD:=aA.g4
 refine cS ⟨?_⟩
 have υ:ab X (bo X h j (zs [.aU] 1)) j=zs [.aU] 1:=bi Zo
 have bT:bh X h j (bo X h j (zs [.aU] 1)) (j+1):=dR
 refine fC (λm M U aV=>∃(a8:J) (aq:List Go.aZ.Node) (bF:List (List J)) (cM:List Nat) (cB:Nat) (c:Bool),M.g 0=some (.ptr aK 0)/\M.g 3=some (.ptr j 0)/\M.g 4=some (.bool c)/\ab X U j=zs [a8] 1/\gC X U a8 6 bF.flatten cM/\(∀e∈cM,j+1<=e/\e<aV)/\oI X U (vW (j+1) aV cM) aq bF/\aZ X U aK bN aY cB/\cf X [aK] h j U aV/\j+1<=aV/\aq.length+m<=n/\
  (if c then pm m aq (aY.drop cB)=some r else r= .ok (aq,aY.drop cB)))
  n ⟨.aU,[],[],[],i,true,bp,bp,bp,υ, .inl (.inl ⟨rfl,rfl,rfl⟩),Zs,rfl,aA.par.ex bT Zo Zo,cf.of bT,Zl _,Zs,Z⟩ ?_
 clear Z υ bT
 rintro m M aR bc ⟨a8,aq,bF,cM,f7,c,t0,t3,t4,uO,vk,nA,MA,dD,dz,f5,Bi,Z⟩
 cases c with
 |false=>
  simp only[Zx,ZA]at Z
  subst Z
  refine c1 @t4 @t3 ⟨?_⟩
  have xh:=MA.wide
  obtain⟨cD,cG⟩:=vk.rH Zd xh.2 (by rw[xh.1];omega) (P:=cW j bc) (λe H=>by have:=nA e H;exact⟨Zo,Zo⟩)
  exact⟨aq,f7,rfl,⟨j,a8,cD,bF,rfl,⟨Zo,Zo⟩,by rw[bR uO];rfl,cG,MA.ad (λ_ _=>rfl) (λe H=>⟨zo H.1,H.2.1⟩)⟩,dD,dz⟩
 |true=>
  simp only[ZD]at Z
  cases m with
  |zero=>simp[pm]at Z
  |succ m=>
  unfold pm at Z
  have fT:=aA.go dD dz.le
  obtain⟨bH,cP,fH⟩:=gC.one vk
  have mo:al X aR (.ptr j 0)=some a8:=by rw[bR uO];rfl
  refine gl @t4 @t3 @t0 @mo ⟨?_⟩
  have Bo:∃Ee,Go.aZ.node m (aY.drop f7)=some Ee/\(match Ee with
   | .error K=>r= .error K
   | .ok (ao,l)=>(match l with
     |[]=>none
     |x::_=>if x.kind=7 then ok (aq++[ao]) l else pm m (aq++[ao]) l)=some r):=by
   rcases gx Z with ⟨K,T,rfl⟩|⟨ao,ci,T,Z⟩
   ·exact⟨_,T,rfl⟩
   ·exact⟨_,T,Z⟩
  obtain⟨Ee,T,fN⟩:=Bo
  clear Z
  have ng:=fT.go (ar:=bc+12) dD Zo
  refine(auL az e3 Zo kj ng T).mono ?_ (λae U ar a=>by
   obtain⟨K,rfl,rfl,a⟩:=a
   subst fN
   exact⟨K,rfl,rfl,dz.trans (a.down Zo (λb ai=> .inl ai))⟩)
  rintro v3 a7 bd ⟨g,i3,row,rfl,rfl,RZ,gL,ej⟩
  have ik:=ej.le
  have FB:cf X [aK] h j a7 bd:=dz.trans (ej.down Zo (λb ai=> .inl ai))
  have MH:=RZ.len
  have xo:=RZ.jI
  obtain⟨jv,eW,fv,hK,ow,ni,rfl⟩:∃jv eW fv hK ow ni,row=[jv,eW,fv,hK,ow,ni]:=by
   match row,MH with
   |[K,b,c,d,I,f],_=>exact⟨K,b,c,d,I,f,rfl⟩
  have tx:ab X a7 j=zs [a8] 1:=by rw[ej.ad _ Zo (by simp;omega)];exact uO
  have c7:∀e,j<=e->e<bc->ab X a7 e=ab X aR e:=λe T W=>ej.ad e Zo (by simp;omega)
  have as1:al X a7 (.ptr j 0)=some a8:=by rw[bR tx];rfl
  refine ce @as1 ⟨?_⟩
  refine gs fH ?_
  have ki:lh X (bo X a7 (bc+7) (zs [jv,eW,fv,hK,ow,ni] 6)) 6 (.slice (bc+7) 0 1 1)=some (1,[jv,eW,fv,hK,ow,ni]):=s2 (bi Zo) (og _) rfl _
  have xh:=MA.wide
  have qx:=wW xh.2
  obtain⟨hL,bw,gG,iv,sB,uX,gg⟩:=(vk.ad (U:=bo X a7 (bc+7) (zs [jv,eW,fv,hK,ow,ni] 6)) (λe H=>by have:=nA e H;rw[aG Zo Zo];exact c7 e Zo Zo)).append (j:=bd) Zd ki rfl Zd xo (by rw[qx,xh.1];simp only[ZC,ZQ];omega) Zo (λe H=>zo (nA e H))
  refine ky iv ?_
  obtain⟨eS,e2,iU⟩:=kC.one sB
  have d5:∀e,e<bd->e≠bc+7->e∉cM->ab X bw e=ab X a7 e:=λe T W au=>by rw[gg e Zo au,aG Zo W]
  have dl:∀e,e<j+1->e∉cM:=λe T W=>zo (nA e W)
  have yx:ab X bw j=zs [a8] 1:=by rw[d5 _ Zo Zo (dl _ Zo)];exact tx
  refine cS ⟨?_⟩
  refine fS (rK (Y:=0) yx Zo Zo eS e2) ?_
  refine ce @t0 ⟨?_⟩
  have er:∀e,e≠j->∀cO,ab X (bo X bw j cO) e=ab X bw e:=λe a cO=>aG Zo a
  have ho:∀cO,aZ X (bo X bw j cO) aK bN aY i3:=λcO=>gL.ad (by rw[er _ Zo,d5 _ Zo Zo (dl _ Zo)]) (by rw[er _ Zo,d5 _ Zo Zo (dl _ Zo)])
  obtain⟨x,l,aO,yU⟩:∃x l,aY.drop i3=x::l/\(if x.kind=7 then ok (aq++[g]) (aY.drop i3)else pm m (aq++[g]) (aY.drop i3))=some r:=by
   cases aO:aY.drop i3 with
   |nil=>rw[aO]at fN;cases fN
   |cons x l=>rw[aO]at fN;exact⟨x,l,rfl,fN⟩
  refine fk (λbS=>ab X bS j=zs [hL] 1/\(∀e,e≠j->ab X bS e=ab X bw e)) ⟨by rw[bi Zo];rfl,λe a=>er e a _⟩ ?_
  rintro bS ⟨Ft,er⟩
  have abR:aZ X bS aK bN aY i3:=gL.ad (by rw[er _ Zo,d5 _ Zo Zo (dl _ Zo)]) (by rw[er _ Zo,d5 _ Zo Zo (dl _ Zo)])
  refine(rE az Zo abR Zo Zo (fP aO).1).Zm ?_
  rintro aff b4 dH ⟨rfl,dV⟩
  have pY:=dV.le
  have dK:∀e,e≠j->e<bd+1->ab X b4 e=ab X bw e:=λe T W=>by rw[dV.ad e W,er e T]
  have fin:∀(c8:dY) (c:Bool),c8.g 0=some (.ptr aK 0)->c8.g 3=some (.ptr j 0)->c8.g 4=some (.bool c)->(if c then pm m (aq++[g]) (aY.drop i3)=some r else r= .ok (aq++[g],aY.drop i3))->∃gr,gr<m+1/\∃(a8:J) (aq:List Go.aZ.Node) (bF:List (List J)) (cM:List Nat) (cB:Nat) (c:Bool),c8.g 0=some (.ptr aK 0)/\c8.g 3=some (.ptr j 0)/\c8.g 4=some (.bool c)/\ab X b4 j=zs [a8] 1/\gC X b4 a8 6 bF.flatten cM/\(∀e∈cM,j+1<=e/\e<dH)/\oI X b4 (vW (j+1) dH cM) aq bF/\aZ X b4 aK bN aY cB/\cf X [aK] h j b4 dH/\j+1<=dH/\aq.length+gr<=n/\
   (if c then pm gr aq (aY.drop cB)=some r else r= .ok (aq,aY.drop cB)):=by
   intro c8 c ue d6 fU aB
   refine⟨m,Zo,hL,aq++[g],bF++[[jv,eW,fv,hK,ow,ni]],gG,i3,c,ue,d6,fU,by rw[dV.ad _ Zo];exact Ft, .inl ?_, ?_, ?_, ?_, ?_,Zo,by simp;omega,aB⟩
   ·rw[zc,Yp,List.flatten_nil,Yx]
    exact sB.ad λe H=>dK e (by rcases uX e H with rfl|a;omega;have:=nA e a;omega) (by rcases uX e H with rfl|a;omega;have:=nA e a;omega)
   ·intro e H
    rcases uX e H with rfl|a
    ·omega
    ·have:=nA e a;omega
   ·refine oI.snoc (RZ.ad (λe H=> ?_) (λe H=>H)) (MA.ad (λe H=> ?_) (λe H=>H)) (λe H=> ?_) (λe H=>⟨?_,λo8=>by have:=H.1;have:=o8.2.1;omega⟩)
    ·have T:=H.1;have W:=H.2
     rw[dK e Zo Zo,d5 e Zo Zo (λa=>zo (nA e a))]
    ·have T:=H.1;have W:=H.2.1
     rw[dK e Zo Zo,d5 e Zo Zo H.2.2,c7 e Zo Zo]
    ·have T:=H.1;have W:=H.2.1
     refine⟨T,Zo,λa=> ?_⟩
     rcases uX e a with rfl|a
     ·omega
     ·exact H.2.2 a
    ·have T:=H.1;have W:=H.2
     refine⟨Zo,Zo,λa=> ?_⟩
     rcases uX e a with rfl|a
     ·omega
     ·have:=nA e a;omega
   ·exact abR.ex dV Zo Zo
   ·exact⟨Zo,λb ai bW=>by rw[dK b Zo Zo,d5 b Zo Zo (dl b Zo)];exact FB.ad b ai bW⟩
  by_cases aL:x.kind=7
  ·rw[Zr aL]at yU
   simp only[ok,Zf]at yU
   have d:decide (x.kind=7)=true:=by simp[aL]
   refine c1 cb.eq_1 @aL ⟨?_⟩
   exact fin _ false (aQ t0) (aQ t3) (fQ) yU.symm
  ·rw[Zh aL]at yU
   have d:decide (x.kind=7)=false:=by simp[aL]
   refine c1 cb.eq_1 @aL ⟨?_⟩
   exact fin _ true (aQ t0) (aQ t3) (by refine A1 ⟨?_⟩;simp[aL]) yU
end
end
end Go.Proofs.YtpfajohmofnkfaaGreatDoor

