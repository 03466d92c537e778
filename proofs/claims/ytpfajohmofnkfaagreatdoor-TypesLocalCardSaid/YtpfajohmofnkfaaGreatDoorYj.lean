/- A part of the last text's proof; no condition of its own -/
import Derived.Test.YtpfajohmofnkfaaGreatDoorYi
set_option maxHeartbeats 8000000
set_option linter.all false
namespace Go.Proofs.YtpfajohmofnkfaaGreatDoor
open Go.bi Go.aU
noncomputable section
def eY(d:fe):List F:=[.str d.name, .Z d.at_, .bool d.ty.b, .bool d.ty.s, .Z d.ty.w, .str d.on, .Z d.fu, .bool d.no]
def ae1(l:List Tok):∀r∈l.map b9,r.length=7:=by
 intro r Z;obtain⟨t,_,rfl⟩:=ZT.1 Z;rfl
def Xo(l:List fe):∀r∈l.map eY,r.length=8:=by
 intro r Z;obtain⟨t,_,rfl⟩:=ZT.1 Z;rfl
def ayw{s:bk}{l:List Tok}{x:Tok}{b8:List Tok}(a:eH s l=some (.ok (x,b8))):b8.length+1=l.length:=by
 cases l with
 |nil=>cases a
 |cons e l=>
  simp only[eH]at a
  split at a
  ·simp only[ok,Zf,Except.ok.injEq,YL]at a
   rw[<-a.2];rfl
  ·cases a
structure Kr(X:ck)(aH bM:Nat)(aX:List Tok)(j:Nat)(gb:V an)(loc:Bool)(M:dS)(h:V an)(n:Nat)(s:F)(ds:List fe)(cK:List Nat)(i:Nat):Prop where
 t0:M.g 0=some (.ptr aH 0)
 t1:M.g 1=some (.bool loc)
 t5:M.g 5=some s
 a6:gI X h s 8 (ds.map eY).flatten cK
 cK:∀e∈cK,j<=e/\e<n
 par:aU X h aH bM aX i
 fr:ca X [aH] gb j h n
section
variable{X:ck}{h T a2 aS:V an}{j au aO bg aH bM:Nat}{aX:List Tok}{i:Nat}
def alO(ds:List fe):(ds.map eY).flatten.length=ds.length*8:=by rw[uf (Xo ds),Zn]
def ax2(ds:List Tok):(ds.map b9).flatten.length=ds.length*7:=by rw[uf (ae1 ds),Zn]
def EM(aA:dz X){n:Nat}(j2:aX.length<=100000)(az:io X h j aH bM aX i){loc:Bool}{r:Except Int (List fe×List Tok)}(Z:iW n loc [] (aX.drop i)=some r):
 aW X 175 [.ptr aH 0, .bool loc] h j (λae T au=>∃ds cB b,r= .ok (ds,aX.drop cB)/\dO X T (da j au) b ae 8 (ds.map eY)/\aU X T aH bM aX cB/\ca X [aH] h j T au) (iF X aH h j r):=by
 refine zA aA (ahj X) ?_
 rw[ahk]
 unfold UL
 have gU:=az.a8
 have jY:=az.hm
 have hS:=az.fB
 have jw:=az.g2
 refine gV ?_
 refine fU (λm M T aV=>∃s ds cK cB,Kr X aH bM aX j h loc M T aV s ds cK cB/\ds.length+(aX.drop cB).length<=aX.length/\iW m loc ds (aX.drop cB)=some r)
  n ⟨.aP,[],[],i,⟨bw,bw,bw, .inl (.inl ⟨rfl,rfl,rfl⟩),Zs,az.par,ca.refl _ _ _⟩,Zs,Z⟩ ?_
 clear Z
 rintro m M a2 aO ⟨s,ds,cK,ht,mb,IF,Z⟩
 cases m with
 |zero=>simp[iW]at Z
 |succ m=>
 unfold iW at Z
 refine gV ?_
 have jy:=mb.fr.le
 refine j3 (λM T aV=>∃(cn:List Tok) (vx:F) (sS:List Nat) (cB:Nat),Kr X aH bM aX j h loc M T aV s ds cK cB/\aO<=aV/\(∀e∈cK,e<aO)/\M.g 6=some vx/\gI X T vx 7 (cn.map b9).flatten sS/\(∀e∈sS,aO<=e/\e<aV)/\ds.length+cn.length+(aX.drop cB).length<=aX.length/\
  Cg loc (iW m loc) ds cn (aX.drop cB)=some r) (λaa bG=> ?_) ?_
 ·refine fU (λB M T aV=>∃(cn:List Tok) (vx:F) (sS:List Nat) (cB:Nat) (b:Bool),Kr X aH bM aX j h loc M T aV s ds cK cB/\aO<=aV/\(∀e∈cK,e<aO)/\M.g 6=some vx/\M.g 7=some (.bool b)/\gI X T vx 7 (cn.map b9).flatten sS/\(∀e∈sS,aO<=e/\e<aV)/\ds.length+cn.length+(aX.drop cB).length<=aX.length/\
   (b=true->andThen (rf B cn (aX.drop cB)) (λcn l=>Cg loc (iW m loc) ds cn l)=some r)/\(b=false->Cg loc (iW m loc) ds cn (aX.drop cB)=some r))
   m ⟨[], .aP,[],ht,true,⟨bf mb.t0,bf mb.t1,bf mb.t5,mb.a6,mb.cK,mb.par,mb.fr⟩,Zo,λe H=>(mb.cK e H).2,bw,bw, .inl (.inl ⟨rfl,rfl,rfl⟩),Zs,by simpa using IF,λ_=>Z,λa=>(by cases a)⟩ ?_
  clear Z mb IF
  rintro B M aS bg ⟨cn,vx,sS,gg,b,kE,ge,fz,fM,g4,IV,f1,CR,H,kp⟩
  have fK:=az.go kE.par kE.fr.le
  have t0:=kE.t0
  have t1:=kE.t1
  have t5:=kE.t5
  refine rT @g4 ⟨?_⟩
  refine gV ?_
  cases b with
  |false=>
   refine pp ?_
   exact bG _ _ _ ⟨cn,vx,sS,gg,⟨bf t0,bf t1,bf t5,kE.a6,kE.cK,kE.par,kE.fr⟩,ge,fz,bf fM,IV,f1,CR,kp rfl⟩
  |true=>
   have Z:=H rfl
   cases B with
   |zero=>simp[rf,andThen]at Z
   |succ B=>
   unfold rf at Z
   refine pq ?_
   refine cV @fM @t0 ⟨?_⟩
   cases aM:aX.drop gg with
   |nil=>rw[aM]at Z;simp[iy,andThen]at Z
   |cons x l=>
   rw[aM]at Z
   simp only[iy]at Z
   refine(Bv aA fK.a8 fK.par fK.fB fK.hm fK.g2 fK.many (fI aM).1 1).mono ?_ ?_
   ·rintro y2 bb bs ⟨aN,rfl,gE,ea⟩
    have iL:=ea.le
    rw[Zq aN]at Z
    simp only[andThen,ok]at Z
    rw[<-(fI aM).2]at Z
    have fD:(aX.drop gg).length=(aX.drop (gg+1)).length+1:=by rw[aM,(fI aM).2];rfl
    have oT:∀e,j<=e->e<bg->ab X bb e=ab X aS e:=λe Q U=>ea.ad e U (by simp;omega)
    have afT:=kE.a6.ad (T:=bb) (λe H=>oT e (kE.cK e H).1 (kE.cK e H).2)
    have aru:=IV.ad (T:=bb) (λe H=>oT e (zt (f1 e H)) (f1 e H).2)
    have E6:=kE.fr.trans ea
    refine ci b9.eq_1 ⟨?_⟩
    have j1:kX X (bn X bb bs (zx (b9 x) 7)) 7 (.slice bs 0 1 1)=some (1,b9 x):=sE (bm Zo) (mT _) rfl _
    obtain⟨aw9,bF,WK,iK,se,apb,gd⟩:=(aru.ad (T:=bn X bb bs (zx (b9 x) 7)) (λe H=>aI Zo (zt (f1 e H).2))).append (j:=bs+1) Zd j1 rfl Zd rfl (by rw[ax2];simp only[b9,ZB,ZU];omega) Zo (λe H=>zt (f1 e H).2)
    refine ki iK ?_
    have ec:∀e,e<bs->e∉sS->ab X bF e=ab X bb e:=λe Q U=>by rw[gd e Zo U,aI Zo Zo]
    have c9:∀e,e<aO->e∉sS:=λe Q U=>zt (f1 e U)
    have hf:aU X bF aH bM aX (gg+1):=gE.ad (ec _ Zo (c9 _ Zo)) (ec _ Zo (c9 _ Zo))
    have eC:ca X [aH] h j bF (bs+1+1):=⟨Zo,λb aj bQ=>by rw[ec b Zo (c9 _ Zo)];exact E6.ad b aj bQ⟩
    have afU:=afT.ad (T:=bF) (λe H=>ec e (zt (fz e H)) (c9 _ (fz e H)))
    have ft:(cn.map b9).flatten++b9 x=((cn++[x]).map b9).flatten:=by simp
    rw[ft]at se
    have LY:∀e∈WK,aO<=e/\e<bs+1+1:=λe H=>by
     rcases apb e H with rfl|a
     ·omega
     ·have:=f1 e a;omega
    refine ci @t0 ⟨?_⟩
    have ky:=az.go hf eC.le
    obtain⟨w,gF,oH⟩:∃w gF,aX.drop (gg+1)=w::gF:=by
     cases a:aX.drop (gg+1)with
     |nil=>rw[a]at Z;simp[h7,lM]at Z
     |cons w gF=>exact⟨w,gF,rfl⟩
    refine(nx aA ky oH [44]).Zm ?_
    rintro D6 bX b2 ⟨rfl,hg,dC⟩
    have h5:=dC.le
    have eU:∀e,j<=e->e<bs+1+1->ab X bX e=ab X bF e:=λe Q U=>dC.ad e U (by simp;omega)
    refine cL ⟨?_⟩
    refine⟨B,Zo,cn++[x],aw9,WK,_,g3 w [44],⟨bf t0,bf t1,bf t5,afU.ad (λe H=>eU e (kE.cK e H).1 (zt (fz e H))),λe H=>⟨(kE.cK e H).1,zt (fz e H)⟩,hg,eC.trans dC⟩,Zo,fz,bw,bw, .inl (se.ad (λe H=>eU e (zt (LY e H)) (LY e H).2)),λe H=>⟨(LY e H).1,zt (LY e H).2⟩, ?_,λa=> ?_,λa=> ?_⟩
    ·have bH:=congrArg List.length (fI oH).2
     have cu:(aX.drop (gg+1)).length=gF.length+1:=by rw[oH];rfl
     split
     ·simp only[ZM,List.length_singleton];omega
     ·simp only[ZM,List.length_singleton];omega
    ·rw[oH]at Z
     simp only[h7,lM,a,ZD]at Z ⊢
     rw[(fI oH).2]
     exact Z
    ·rw[oH]at Z
     simp only[h7,lM,a,Zw,ZA]at Z ⊢
     rw[oH]
     exact Z
   ·rintro y2 bb bs ⟨aN,rfl,ea⟩
    rw[Zg aN]at Z
    simp only[andThen,bad,Zf]at Z
    subst Z
    exact⟨_,rfl,rfl,kE.fr.trans ea⟩
 ·clear Z mb IF
  rintro M aS bg ⟨cn,vx,sS,gg,kE,ge,fz,fM,IV,f1,CR,Z⟩
  have t0:=kE.t0
  have t1:=kE.t1
  have t5:=kE.t5
  have du:=kE.fr
  have uP:=kE.a6
  have yo:=kE.cK
  have dA:=kE.par
  clear kE
  refine ci @t0 ⟨?_⟩
  refine fc (λbb=>ab X bb bg=zx [.str [58]] 1/\bq X aS bg bb (bg+1)) ⟨bm Zo,dU⟩ ?_
  rintro bb ⟨Qi,cq⟩
  have mW:=az.go (dA.ex cq Zo Zo) (by omega:j<=bg+1)
  have ea:=du.trans (ca.of cq)
  unfold Cg at Z
  rcases gq Z with ⟨K,aK,rfl⟩|⟨k2,g0,aK,Z⟩
  ·exact(jq aA mW Zo Zo Qi aK).mono (λae T au a=>by obtain⟨J,cB,a,_⟩:=a;cases a) (λae T au a=>a.of ea (λ_ a=>by cases a;rfl))
  refine(jq aA mW Zo Zo Qi aK).mono ?_ (λae T au a=>by obtain⟨K,a,_⟩:=a;cases a)
  rintro v4 bF c7 ⟨ayI,i4,th,_,hf,eC⟩
  cases th
  have abn:=ayw aK
  have jl:=eC.le
  have ky:=mW.go hf jl
  have yh:=ea.trans eC
  have ec:∀e,j<=e->e<bg->ab X bF e=ab X aS e:=λe Q U=>by rw[eC.ad e Zo (by simp;omega),cq.ad e U]
  have se:=uP.ad (T:=bF) (λe H=>ec e (yo e H).1 (yo e H).2)
  have ab6:=IV.ad (T:=bF) (λe H=>ec e (zt (f1 e H)) (f1 e H).2)
  clear uP IV ec Qi cq mW ea eC aK du dA
  refine ci @t0 ⟨?_⟩
  cases oH:aX.drop i4 with
  |nil=>rw[oH]at Z;simp[iy,andThen]at Z
  |cons t gF=>
  rw[oH]at Z
  simp only[iy]at Z
  refine(Bv aA ky.a8 ky.par ky.fB ky.hm ky.g2 ky.many (fI oH).1 3).mono ?_ (λD6 bX b2 a=>by
   obtain⟨aN,rfl,dC⟩:=a
   rw[Zg aN]at Z
   simp only[andThen,bad,Zf]at Z
   subst Z
   exact⟨_,rfl,rfl,yh.trans dC⟩)
  rintro D6 bX b2 ⟨aN,rfl,hg,dC⟩
  have h5:=dC.le
  rw[Zq aN]at Z
  simp only[andThen,ok]at Z
  rw[<-(fI oH).2]at Z
  have azW:(aX.drop i4).length=(aX.drop (i4+1)).length+1:=by rw[oH,(fI oH).2];rfl
  have yg:=yh.trans dC
  have eU:∀e,j<=e->e<c7->ab X bX e=ab X bF e:=λe Q U=>dC.ad e U (by simp;omega)
  have oN:=se.ad (T:=bX) (λe H=>eU e (yo e H).1 (zt (yo e H)))
  have ab7:=ab6.ad (T:=bX) (λe H=>eU e (zt (f1 e H)) (zt (f1 e H)))
  clear se ab6 eU dC yh
  refine cV b9.eq_1 @t0 ⟨?_⟩
  refine fc (λcf=>ab X cf b2=zx (eY ⟨[],0,t.ty,[],0,false⟩) 8/\bq X bX b2 cf (b2+1)) ⟨bm Zo,dU⟩ ?_
  rintro cf ⟨rU,eR⟩
  have l3:=az.go (hg.ex eR Zo Zo) (by omega:j<=b2+1)
  have ey:=yg.trans (ca.of eR)
  obtain⟨w,lZ,r3,acl⟩:=qD Z
  refine(nx aA l3 r3 _).Zm ?_
  rintro ae7 cx eu ⟨rfl,hG,ek⟩
  have nn:=ek.le
  have Qw:=ey.trans ek
  have s4:ab X cx b2=zx (eY ⟨[],0,t.ty,[],0,false⟩) 8:=by rw[ek.ad _ Zo (by simp;omega)];exact rU
  have gM:∀e,j<=e->e<b2->ab X cx e=ab X bX e:=λe Q U=>by rw[ek.ad e Zo (by simp;omega),eR.ad e U]
  have abo:(aX.drop (i4+1)).length=lZ.length+1:=by rw[r3];rfl
  refine rT b9.eq_1 ⟨?_⟩
  refine j3 (λM T aV=>∃(on:bk) (fu:Int) (no:Bool) (cB:Nat),M.g 0=some (.ptr aH 0)/\M.g 1=some (.bool loc)/\M.g 5=some s/\M.g 6=some vx/\M.g 8=some (.ptr b2 0)/\ab X T b2=zx (eY ⟨[],0,t.ty,on,fu,no⟩) 8/\(∀e,j<=e->e<b2->ab X T e=ab X bX e)/\aU X T aH bM aX cB/\ca X [aH] h j T aV/\b2<aV/\(aX.drop cB).length<=(aX.drop (i4+1)).length/\
   xU loc (iW m loc) (ds++cn.map (pv t.ty on fu no)) (aX.drop cB)=some r) (λaa bG=> ?_) ?_
  ·rcases acl with ⟨aD,Z⟩|⟨aD,Z⟩
   ·rw[aD]at hG ⊢
    simp only[ZD]at hG ⊢
    rw[<-(fI r3).2]at Z
    simp only[Av]at Z
    refine ci @t0 ⟨?_⟩
    refine fc (λdx=>bq X cx eu dx (eu+1)) dU ?_
    intro dx g9
    have sw:=l3.go (hG.ex g9 Zo Zo) (by omega:b2+1<=eu+1)
    have ya:ab X dx b2=zx (eY ⟨[],0,t.ty,[],0,false⟩) 8:=by rw[g9.ad _ Zo];exact s4
    obtain⟨xz,sm,Ff⟩:∃xz sm,aX.drop (i4+1+1)=xz::sm:=by
     cases a:aX.drop (i4+1+1)with
     |nil=>rw[a]at Z;simp[h7,lM,andThen]at Z
     |cons w gF=>exact⟨w,gF,rfl⟩
    refine(nx aA sw Ff _).Zm ?_
    rintro TN ei i7 ⟨rfl,mn,ha⟩
    have tj:=ha.le
    have AK:=(Qw.trans (ca.of g9)).trans ha
    have EV:ab X ei b2=zx (eY ⟨[],0,t.ty,[],0,false⟩) 8:=by rw[ha.ad _ Zo (by simp;omega)];exact ya
    have qo:andThen (andThen (iy 1 (aX.drop (if g3 xz [110,111,116]then i4+1+1+1 else i4+1+1))) (λon l=>ok (on.text,on.at_,g3 xz [110,111,116]) l)) (λr l=>xU loc (iW m loc) (ds++cn.map (pv t.ty r.1 r.2.1 r.2.2)) l)=some r:=by
     rw[Ff]at Z
     cases abY:g3 xz [110,111,116]with
     |true=>simp only[h7,lM,abY,ZD]at Z ⊢;rw[(fI Ff).2];exact Z
     |false=>simp only[h7,lM,abY,Zw,ZA]at Z ⊢;rw[Ff];exact Z
    have abp:(aX.drop (if g3 xz [110,111,116]then i4+1+1+1 else i4+1+1)).length<=(aX.drop (i4+1)).length:=by simp only[YB];split<;>omega
    clear Z
    generalize (if g3 xz [110,111,116]then i4+1+1+1 else i4+1+1)=i9 at qo mn abp
    generalize (if g3 xz [110,111,116]then xz else g5)=z9
    generalize g3 xz [110,111,116]=no at qo
    unfold eY at EV
    refine er b9.eq_1 @EV @t0 ⟨?_⟩
    refine fc (λv7=>ab X v7 b2=zx (eY ⟨[],0,t.ty,[],0,no⟩) 8/\(∀e,e<i7->e≠b2->ab X v7 e=ab X ei e)) ⟨by rw[bm Zo];rfl,λe Q U=>aI Zo U⟩ ?_
    rintro v7 ⟨anr,uZ⟩
    have Fv:=mn.ad (uZ _ Zo Zo) (uZ _ Zo Zo)
    have td:ca X [aH] h j v7 i7:=⟨Zo,λb aj bQ=>by rw[uZ b Zo Zo];exact AK.ad b aj bQ⟩
    have Gu:=az.go Fv (by omega:j<=i7)
    cases L3:aX.drop i9 with
    |nil=>rw[L3]at qo;simp[iy,andThen]at qo
    |cons c aA4=>
    rw[L3]at qo
    simp only[iy]at qo
    refine(Bv aA Gu.a8 Gu.par Gu.fB Gu.hm Gu.g2 Gu.many (fI L3).1 1).mono ?_ ?_
    ·rintro ax9 qN at8 ⟨Rg,rfl,IK,wy⟩
     have azY:=wy.le
     rw[Zq Rg]at qo
     simp only[andThen,ok]at qo
     rw[<-(fI L3).2]at qo
     have EU:ab X qN b2=zx (eY ⟨[],0,t.ty,[],0,no⟩) 8:=by rw[wy.ad _ Zo (by simp;omega)];exact anr
     unfold eY at EU
     refine cV b9.eq_1 @EU ⟨?_⟩
     refine gP (pR _ _) ?_
     refine cV b9.eq_1 @EU ⟨?_⟩
     refine bG _ _ _ ⟨c.text,c.at_,no,i9+1,bf t0,bf t1,bf t5,bf fM,bw, ?_,λe Q U=> ?_, ?_, ?_,Zo, ?_,qo⟩
     ·simp(disch:=omega) only[aI,bm]<;>rfl
     ·simp(disch:=omega) only[aI]
      rw[wy.ad e Zo (by simp;omega),uZ e Zo Zo,ha.ad e Zo (by simp;omega),g9.ad e Zo,gM e Q U]
     ·exact IK.ad (zz) (zz)
     ·exact⟨Zo,λb aj bQ=>by rw[<-(td.trans wy).ad b aj bQ];exact zz⟩
     ·simp only[YB]at abp ⊢;omega
    ·rintro ax9 qN at8 ⟨Rg,rfl,wy⟩
     rw[Zg Rg]at qo
     simp only[andThen,bad,Zf]at qo
     subst qo
     exact⟨_,rfl,rfl,td.trans wy⟩
   ·rw[aD]at hG ⊢
    simp only[Zw,ZA]at hG ⊢
    simp only[Av,andThen,ok]at Z
    refine cV b9.eq_1 g5.eq_1 ⟨?_⟩
    refine bG _ _ _ ⟨[],0,false,i4+1,bf t0,bf t1,bf t5,bf fM,bw, ?_,λe Q U=> ?_, ?_, ?_,Zo,Zi _,Z⟩
    ·simp(disch:=omega) only[aI];exact s4
    ·simp(disch:=omega) only[aI];exact gM e Q U
    ·exact hG.ad (zz) (zz)
    ·exact⟨Zo,λb aj bQ=>by rw[<-Qw.ad b aj bQ];exact zz⟩
  ·clear Z acl hG Qw ek s4 gM ey rU eR l3 yg t0 t1 t5 fM hg
   rintro M cf eK ⟨on,fu,no,hU,t0,t1,t5,fM,gx,rU,dK,hs,ey,aAm,Mk,Z⟩
   have sf:=oN.ad (T:=cf) (λe H=>dK e (yo e H).1 (zt (yo e H)))
   have ab8:=ab7.ad (T:=cf) (λe H=>dK e (zt (f1 e H)) (zt (f1 e H)))
   clear oN ab7
   obtain⟨we,cC⟩:=ab8.l5 Zd (ae1 cn) (by simp only[Zn];omega) (P:=λe=>aO<=e/\e<bg) f1
   have fD:=cC.len
   rw[Zn]at fD
   refine Ll @fM @fD ⟨?_⟩
   have A8:=fD
   refine j3 (λM T aV=>∃(fo:F) (gR:List Nat),M.g 0=some (.ptr aH 0)/\M.g 1=some (.bool loc)/\M.g 5=some fo/\gI X T fo 8 ((ds++cn.map (pv t.ty on fu no)).map eY).flatten gR/\(∀e∈gR,j<=e/\e<aV)/\aU X T aH bM aX hU/\ca X [aH] h j T aV/\eK<=aV) (λaa bG=> ?_) ?_
   ·refine fU (λadl M T aV=>∃(B:Nat) (fo:F) (gR:List Nat) (nm:bk) (Ev:Int),adl=cn.length-B/\B<=cn.length/\M.g 0=some (.ptr aH 0)/\M.g 1=some (.bool loc)/\M.g 5=some fo/\M.g 8=some (.ptr b2 0)/\M.g 52=some vx/\M.g 53=some (.Z (cn.length:Int))/\M.g 54=some (.Z (B:Int))/\ab X T b2=zx (eY ⟨nm,Ev,t.ty,on,fu,no⟩) 8/\
     gI X T fo 8 ((ds++(cn.take B).map (pv t.ty on fu no)).map eY).flatten gR/\(∀e∈gR,(e∈cK\/eK<=e)/\e<aV)/\(∀e,aO<=e->e<bg->ab X T e=ab X cf e)/\aU X T aH bM aX hU/\ca X [aH] h j T aV/\eK<=aV)
     cn.length ⟨0,s,cK,[],0,Zo,Zo,bf t0,bf t1,bf t5,bf gx,bw,bw,gc,rU,by simpa using sf,λe H=>⟨.inl H,zt (yo e H)⟩,λ_ _ _=>rfl,hs,ey,Zi _⟩ ?_
    rintro adl M cx eu ⟨B,fo,gR,nm,Ev,rfl,q5,t0,t1,t5,gx,xu,pT,j8,s4,C8,wE,acO,hG,ek,nn⟩
    refine Ll @pT @j8 ⟨?_⟩
    refine gV ?_
    refine EC (λc1=> ?_) (λc1=> ?_)
    ·have c1:B<cn.length:=Zo
     have abg:=cC.f2 B (by simpa using c1)
     have RL:=(cC.ad (T:=cx) (λe H=>acO e H.1 H.2)).row Zd (i:=B) (r:=b9 cn[B]) (by rw[Zx,Ze c1];rfl)
     have MJ:cn.take (B+1)=cn.take B++[cn[B]]:=List.take_succ_eq_append_getElem c1
     generalize cn[B]=bt at RL MJ
     have Ap:∀e∈gR,j<=e/\e≠b2/\¬(aO<=e/\e<bg)/\e<eu:=λe H=>by
      obtain⟨Q,U⟩:=wE e H
      rcases Q with Q|Q
      ·have:=yo e Q;have:=fz e Q;exact⟨Zo,Zo,Zo,Zo⟩
      ·exact⟨Zo,Zo,Zo,Zo⟩
     unfold eY at s4
     refine e7 @xu @j8 @abg @RL b9.eq_1 @gx @s4 ⟨?_⟩
     refine gP (pR _ _) ?_
     refine e7 @xu @j8 @abg @RL b9.eq_1 @gx (Za @s4 @t5) ⟨?_⟩
     generalize AP:bn X _ (eu+1+8) _=ei
     have nc:ab X ei (eu+1+8)=zx (eY (pv t.ty on fu no bt)) 8:=by rw[<-AP,bm Zo];rfl
     have EV:ab X ei b2=zx (eY (pv t.ty on fu no bt)) 8:=by rw[<-AP];simp(disch:=omega) only[aI,bm]<;>rfl
     have hl:∀e,e<eu->e≠b2->ab X ei e=ab X cx e:=λe Q U=>by rw[<-AP];exact zz
     clear AP
     have j1:kX X ei 8 (.slice (eu+1+8) 0 1 1)=some (1,eY (pv t.ty on fu no bt)):=sE nc (mT _) rfl _
     have eD:(ds++(cn.take B).map (pv t.ty on fu no)).length<=100000:=by
      simp only[ZM,Zn,ze];omega
     obtain⟨kA,v7,wc,iK,ab0,ao9,abj⟩:=(C8.ad (T:=ei) (λe H=>hl e (Ap e H).2.2.2 (Ap e H).2.1)).append (j:=eu+1+8+1) Zd j1 rfl Zd rfl (by rw[alO];simp only[eY,ZB,ZU];omega) Zo (λe H=>zt (Ap e H))
     refine ki iK ?_
     have uZ:∀e,e<eu->e≠b2->e∉gR->ab X v7 e=ab X cx e:=λe Q U ar=>by rw[abj e Zo ar,hl e Q U]
     have bD:=zy B
     have ft:((ds++(cn.take B).map (pv t.ty on fu no)).map eY).flatten++eY (pv t.ty on fu no bt)=((ds++(cn.take (B+1)).map (pv t.ty on fu no)).map eY).flatten:=by rw[MJ];simp
     rw[ft]at ab0
     refine cV @j8 @bD ⟨?_⟩
     refine⟨cn.length-(B+1),Zo,B+1,kA,wc,bt.text,bt.at_,rfl,Zo,bf t0,bf t1,bw,bf gx,bf xu,bf pT,bw, ?_, .inl ab0, ?_, ?_, ?_, ?_,Zo⟩
     ·rw[abj _ Zo (λa=>(Ap _ a).2.1 rfl)];exact EV
     ·intro e H
      rcases ao9 e H with rfl|a
      ·exact⟨.inr Zo,Zo⟩
      ·have:=wE e a;exact⟨this.1,Zo⟩
     ·intro e Q U
      rw[uZ e Zo Zo (λa=>(Ap e a).2.2.1 ⟨Q,U⟩)]
      exact acO e Q U
     ·exact hG.ad (uZ _ Zo Zo (λa=>zt (Ap _ a))) (uZ _ Zo Zo (λa=>zt (Ap _ a)))
     ·exact⟨Zo,λb aj bQ=>by rw[uZ b Zo Zo (λa=>zt (Ap _ a))];exact ek.ad b aj bQ⟩
    ·have wR:B=cn.length:=Zo
     subst wR
     rw[YY]at C8
     refine cL ⟨?_⟩
     exact bG _ _ _ ⟨fo,gR,bf t0,bf t1,bf t5,C8,λe H=>by
      obtain⟨Q,U⟩:=wE e H
      rcases Q with Q|Q
      ·have:=yo e Q;omega
      ·omega,hG,ek,nn⟩
   ·clear sf ab8 rU dK t0 t1 t5 fM gx hs ey cC fD
    rintro M cx eu ⟨fo,gR,t0,t1,t5,C8,wE,hG,ek,nn⟩
    have abr:(ds++cn.map (pv t.ty on fu no)).length+(aX.drop hU).length<=aX.length:=by simp only[ZM,Zn];omega
    generalize ds++cn.map (pv t.ty on fu no)=Hx at C8 Z abr
    have fin:∀(T:V an) (aV:Nat),(∀e,e<eu->e≠aH->ab X T e=ab X cx e)->eu<=aV->r= .ok (Hx,aX.drop hU)->aU X T aH bM aX hU->∃ds cB b,r= .ok (ds,aX.drop cB)/\dO X T (da j aV) b fo 8 (ds.map eY)/\aU X T aH bM aX cB/\ca X [aH] h j T aV:=by
     intro T aV Q U ar aK
     obtain⟨b,cC⟩:=(C8.ad (T:=T) (λe H=>Q e (wE e H).2 (zt (wE e H)))).l5 Zd (Xo Hx) (by simp only[Zn];omega) (P:=da j aV) (λe H=>⟨(wE e H).1,zt (wE e H)⟩)
     exact⟨Hx,hU,b,ar,cC,aK,Zo,λb aj bQ=>by rw[Q b Zo (by simpa using bQ)];exact ek.ad b aj bQ⟩
    refine ci @t0 ⟨?_⟩
    obtain⟨D7,n3,q4⟩:∃D7 n3,aX.drop hU=D7::n3:=by
     cases a:aX.drop hU with
     |nil=>rw[a]at Z;simp[xU,y0]at Z
     |cons w gF=>exact⟨w,gF,rfl⟩
    refine fc (λdx=>dx=cx) rfl ?_
    rintro dx rfl
    refine(ri aA Zo hG Zo Zo (fI q4).1).Zm ?_
    rintro u8 ei i7 ⟨rfl,kM⟩
    have tj:=kM.le
    have mn:=hG.ad (kM.ad _ Zo) (kM.ad _ Zo)
    rw[q4]at Z
    simp only[xU,y0]at Z
    by_cases MF:D7.text=[59]
    ·rw[Zq MF]at Z
     have cX:decide (D7.text≠[59])=false:=by simp[MF]
     have ζ:iW m loc Hx (aX.drop (hU+1))=some r->∀(M:dS) (gy:V an),M.g 0=some (.ptr aH 0)->M.g 1=some (.bool loc)->M.g 5=some fo->(∀e,e<i7->e≠aH->ab X gy e=ab X ei e)->aU X gy aH bM aX (hU+1)->
      ∃gm,gm<m+1/\∃s ds cK cB,Kr X aH bM aX j h loc M gy i7 s ds cK cB/\ds.length+(aX.drop cB).length<=aX.length/\iW gm loc ds (aX.drop cB)=some r:=by
      intro ic M gy t0 t1 t5 aN aqV
      refine⟨m,Zo,fo,Hx,gR,hU+1,⟨t0,t1,t5,C8.ad (λe H=> ?_),λe H=>zt (wE e H),aqV,Zo,λb aj bQ=> ?_⟩, ?_,ic⟩
      ·have:=wE e H
       rw[aN e Zo Zo,kM.ad e Zo]
      ·rw[aN b Zo (by simpa using bQ),kM.ad b Zo];exact ek.ad b aj bQ
      ·simp only[YB]at abr ⊢;omega
     obtain⟨c,av,bh,cl,a3,a4⟩:=mn.at_
     have Sa:=jN bh a3
     have acM:=jN bh cl
     have jk:=(Zb.1 (fI q4).1).1
     have dD:=mn.ne
     have bD:=zy hU
     have ad2:∀gy,gy=bn X ei aH (some (.cells (dQ c 1 [.Z ((hU+1:Nat):Int)]) 2 .own))->aU X gy aH bM aX (hU+1):=by
      rintro gy rfl
      refine mn.on (c:=dQ c 1 [.Z ((hU+1:Nat):Int)]) (bm Zo) (λd7 st a=>by rw[bh]at a;cases a;exact qI ..) (aI Zo Zo)
     cases loc with
     |false=>
      simp only[Zw,ZA]at Z
      have jZ:(D7::n3).drop 1=aX.drop (hU+1):=by rw[(fI q4).2];rfl
      rw[jZ]at Z
      refine e7 b9.eq_1 @cX @t1 @t0 @Sa @bD @bh ⟨?_⟩
      exact ζ Z _ _ (bf t0) (bf t1) (bf t5) (λe Q U=>aI Zo U) (ad2 _ rfl)
     |true=>
      simp only[ZD]at Z
      obtain⟨ph,sm,Ff⟩:∃ph sm,n3=ph::sm:=by
       cases n3 with
       |nil=>simp[y0]at Z
       |cons w gF=>exact⟨w,gF,rfl⟩
      subst Ff
      simp only[y0]at Z
      have cv:aX[hU+1]? =some ph:=(fI (fI q4).2).1
      have FM:=(Zb.1 cv).1
      have abh:=a4.f2 (hU+1) (by rw[Zn];exact FM)
      have aaO:ao X ei (.ptr bM ((hU+1)*7+1))=some (.str ph.text):=a4.cell (hU+1) (b9 ph) 1 _ (by rw[Zx,cv];rfl) rfl
      by_cases Mm:ph.text=[108,101,116]
      ·rw[Zq Mm]at Z
       simp only[ok,Zf]at Z
       have cP:decide (ph.text=[108,101,116])=true:=by simp[Mm]
       refine e7 b9.eq_1 @cX @t1 @t0 @acM @Sa (Za @bD (Za @abh (Za @aaO (Za @cP @t5)))) ⟨?_⟩
       exact fin _ _ (λe Q U=>kM.ad e Zo) Zo (by rw[<-Z,q4]) mn
      ·rw[Zg Mm]at Z
       have cP:decide (ph.text=[108,101,116])=false:=by simp[Mm]
       have jZ:(D7::ph::sm).drop 1=aX.drop (hU+1):=by rw[(fI q4).2];rfl
       rw[jZ]at Z
       refine e7 b9.eq_1 @cX @t1 @t0 @acM @Sa (Za @bD (Za @abh (Za @aaO (Za @cP @bh)))) ⟨?_⟩
       exact ζ Z _ _ (bf t0) (bf t1) (bf t5) (λe Q U=>aI Zo U) (ad2 _ rfl)
    ·rw[Zg MF]at Z
     simp only[ok,Zf]at Z
     have cX:decide (D7.text≠[59])=true:=by simp[MF]
     refine er b9.eq_1 @cX @t5 ⟨?_⟩
     exact fin _ _ (λe Q U=>kM.ad e Zo) Zo (by rw[<-Z,q4]) mn
end
def ke{v w:F}(a:dX v=some w):v.cells=[v]/\oc v=true/\F.same 30 v v=true:=by
 cases v with
 |slice b Y n c=>exact⟨rfl,rfl,by simp[F.same]⟩
 |en b Y n c=>exact⟨rfl,rfl,by simp[F.same]⟩
 |aP=>exact⟨rfl,rfl,rfl⟩
 |_=>simp[dX]at a
def lO(X:ck)(h:V an):(Nat->Prop)->List e9->List (List F)->Prop
 |_,[],aR=>aR=[]
 |P,am::cR,aR=>∃row fV bu,aR=row::fV/\(∀e,bu e->P e)/\xC X h bu am row/\lO X h (λe=>P e/\¬bu e) cR fV
def lO.ad{X:ck}{h T:V an}:∀{cR:List e9}{aR:List (List F)}{P bu:Nat->Prop}(B:∀e,P e->ab X T e=ab X h e) (aC:∀e,P e->bu e),lO X h P cR aR->lO X T bu cR aR:=by
 intro cR
 induction cR with
 |nil=>intro aR P bu B aC a;exact a
 |cons am cR ak=>
  rintro aR P bu B aC ⟨row,fV,eo,Q,b1,U,ar⟩
  exact⟨row,fV,eo,Q,λe H=>aC e (b1 e H),U.ad (λe H=>B e (b1 e H)) (λe H=>H),ak (λe H=>B e H.1) (λe H=>⟨aC e H.1,H.2⟩) ar⟩
def lO.snoc{X:ck}{h:V an}{bu:Nat->Prop}{am:e9}{row:List F}(a:xC X h bu am row):∀{cR:List e9}{aR:List (List F)}{P0 P:Nat->Prop},lO X h P0 cR aR->(∀e,P0 e->P e)->(∀e,bu e->P e/\¬P0 e)->lO X h P (cR++[am]) (aR++[row]):=by
 intro cR
 induction cR with
 |nil=>rintro aR P0 P rfl Q U;exact⟨row,[],bu,rfl,λe H=>(U e H).1,a,rfl⟩
 |cons K cR ak=>
  rintro aR P0 P ⟨iB,fV,eo,rfl,b1,ar,aK⟩ Q U
  exact⟨iB,fV++[row],eo,rfl,λe H=>Q e (b1 e H),ar,ak aK (λe H=>⟨Q e H.1,H.2⟩) (λe H=>⟨⟨(U e H).1,λiI=>(U e H).2 (b1 e iI)⟩,λoO=>(U e H).2 oO.1⟩)⟩
def xC.len{X:ck}{h:V an}{P:Nat->Prop}{am:e9}{row:List F}(a:xC X h P am row):row.length=4:=by
 obtain⟨_,_,_,_,_,rfl,_⟩:=a;rfl
def lO.wide{X:ck}{h:V an}:∀{cR:List e9}{aR:List (List F)}{P:Nat->Prop},lO X h P cR aR->aR.length=cR.length/\∀r∈aR,r.length=4:=by
 intro cR
 induction cR with
 |nil=>rintro aR P rfl;simp
 |cons K cR ak=>
  rintro aR P ⟨iB,fV,eo,rfl,b1,U,ar⟩
  obtain⟨aK,bH⟩:=ak ar
  refine⟨by simp[aK],λr Z=> ?_⟩
  rcases Zt.1 Z with rfl|Z
  ·exact U.len
  ·exact bH r Z
def m5(X:ck)(h:V an)(P:Nat->Prop)(g:Go.aU.Node)(row:List F):Prop:=∃cY dj a6 ev c0 dL ef hQ aR,row=[.str g.name, .Z g.at_,cY,dj,a6,ev]/\dO X h P c0 cY 8 (g.eG.map eY)/\dO X h P dL dj 8 (g.out.map eY)/\dO X h P ef a6 8 (g.loc.map eY)/\dO X h P hQ ev 4 aR/\lO X h P g.eqs aR
structure sM(X:ck)(h:V an)(n l0:Nat)(nm:bk)(K:Int)(cY dj a6:F)(eG out loc:List fe):Prop where
 mO:ab X h l0=zx [.str nm, .Z K,cY,dj,a6, .aP] 6
 lt:l0<n
 eW:∃b,dO X h (da (l0+1) n) b cY 8 (eG.map eY)
 e5:∃b,dO X h (da (l0+1) n) b dj 8 (out.map eY)
 hy:∃b,dO X h (da (l0+1) n) b a6 8 (loc.map eY)
def sM.ad{X:ck}{h T:V an}{n aV l0:Nat}{nm:bk}{K:Int}{cY dj a6:F}{eG out loc:List fe}(a:sM X h n l0 nm K cY dj a6 eG out loc)(B:∀e,l0<=e->e<n->ab X T e=ab X h e)(aL:n<=aV):sM X T aV l0 nm K cY dj a6 eG out loc:=by
 have eE:∀e,da (l0+1) n e->ab X T e=ab X h e:=λe H=>B e (zt H.1) H.2
 have Sx:∀e,da (l0+1) n e->da (l0+1) aV e:=λe H=>⟨H.1,zt H.2⟩
 obtain⟨c0,Q⟩:=a.eW
 obtain⟨dL,U⟩:=a.e5
 obtain⟨ef,ar⟩:=a.hy
 exact⟨by rw[B l0 (Zi _) a.lt];exact a.mO,zt a.lt,⟨c0,(Q.ad eE).lift Sx⟩,⟨dL,(U.ad eE).lift Sx⟩,⟨ef,(ar.ad eE).lift Sx⟩⟩
section
variable{X:ck}{h T a2 aS:V an}{j au aO bg aH bM:Nat}{aX:List Tok}{i:Nat}
def sM.fr{n aV l0:Nat}{nm:bk}{K:Int}{cY dj a6:F}{eG out loc:List fe}(a:sM X h n l0 nm K cY dj a6 eG out loc)(gj:ca X [aH] h n T aV)(aj:aH<l0):sM X T aV l0 nm K cY dj a6 eG out loc:=
 a.ad (λe Q U=>gj.ad e U (by simp;omega)) gj.le
def ayx{jQ kA:bk}{l:List Tok}:rt [jQ,kA] g5 l=andThen (eH jQ l) λ_ l=>eH kA l:=by
 simp only[rt]
 cases a:eH jQ l with
 |none=>rfl
 |some r=>
  cases r with
  |error K=>rfl
  |ok p=>
   obtain⟨x,b8⟩:=p
   simp only[andThen]
   cases eH kA b8 with
   |none=>rfl
   |some e5=>cases e5 with
    |error K=>rfl
    |ok p=>obtain⟨e,c5⟩:=p;rfl
def auy(aA:dz X)(eS:vZ X){n:Nat}(r9:n<=200000)(j2:aX.length<=100000)(az:io X h j aH bM aX i){r:Except Int (Go.aU.Node×List Tok)}(Z:Go.aU.node n (aX.drop i)=some r):
 aW X 117 [.ptr aH 0] h j (λae T au=>∃g cB row,r= .ok (g,aX.drop cB)/\ae= .agg row/\m5 X T (da j au) g row/\aU X T aH bM aX cB/\ca X [aH] h j T au) (iF X aH h j r):=by
 refine zA aA (agh X) ?_
 rw[agi]
 unfold Ud
 have gU:=az.a8
 have jY:=az.hm
 have hS:=az.fB
 have jw:=az.g2
 unfold Go.aU.node at Z
 refine cL ⟨?_⟩
 refine fc (λa2=>ab X a2 (j+1)=zx [.str [110,111,100,101]] 1/\ab X a2 j=zx [.str [], .Z 0, .aP, .aP, .aP, .aP] 6/\bq X h j a2 (j+1+1)) ⟨bm Zo,by simp(disch:=omega) only[aI,bm]<;>rfl,dU⟩ ?_
 rintro a2 ⟨aq,qc,bU⟩
 have mz:=az.go (az.par.ex bU Zo Zo) (by omega:j<=j+1+1)
 have h2:ca X [aH] h j a2 (j+1+1):=ca.of bU
 rcases gq Z with ⟨K,U,rfl⟩|⟨hO,c5,U,Z⟩
 ·exact(jq aA mz Zo Zo aq U).mono (λae T au a=>by obtain⟨J,cB,a,_⟩:=a;cases a) (λae T au a=>a.of h2 (λ_ a=>by cases a;rfl))
 refine(jq aA mz Zo Zo aq U).mono ?_ (λae T au a=>by obtain⟨K,a,_⟩:=a;cases a)
 clear U
 rintro ae9 aS bg ⟨aBM,gg,It,_,dA,du⟩
 cases It
 have ge:=du.le
 have wz:=h2.trans du
 have ul:ab X aS j=zx [.str [], .Z 0, .aP, .aP, .aP, .aP] 6:=by rw[du.ad _ Zo (by simp;omega)];exact qc
 have fK:=az.go dA wz.le
 clear aq qc bU mz h2 du
 cases tg:aX.drop gg with
 |nil=>rw[tg]at Z;simp[iy,andThen]at Z
 |cons x e6=>
 rw[tg]at Z
 simp only[iy]at Z
 refine(Bv aA fK.a8 fK.par fK.fB fK.hm fK.g2 fK.many (fI tg).1 1).mono ?_ (λD6 bX b2 a=>by
  obtain⟨aN,rfl,dC⟩:=a
  rw[Zg aN]at Z
  simp only[andThen,bad,Zf]at Z
  subst Z
  exact⟨_,rfl,rfl,wz.trans dC⟩)
 rintro y2 bb bs ⟨aN,rfl,gE,ea⟩
 have iL:=ea.le
 rw[Zq aN]at Z
 simp only[andThen,ok]at Z
 rw[<-(fI tg).2]at Z
 have s6:ab X bb j=zx [.str [], .Z 0, .aP, .aP, .aP, .aP] 6:=by rw[ea.ad _ Zo (by simp;omega)];exact ul
 have E6:=wz.trans ea
 clear ul ea wz dA fK
 refine ci b9.eq_1 ⟨?_⟩
 refine fc (λbF=>ab X bF (bs+1+1)=zx [.str [40]] 1/\sM X bF (bs+1+1+1) (bs+1) x.text x.at_ .aP .aP .aP [] [] []/\bq X bb bs bF (bs+1+1+1)) ⟨bm Zo,⟨by simp(disch:=omega) only[aI,bm]<;>rfl,Zo,⟨0,dO.nil _ _⟩,⟨0,dO.nil _ _⟩,⟨0,dO.nil _ _⟩⟩,dU⟩ ?_
 rintro bF ⟨Cs,adw,dv⟩
 have yb:ab X bF j=zx [.str [], .Z 0, .aP, .aP, .aP, .aP] 6:=by rw[dv.ad _ Zo];exact s6
 have eC:=E6.trans (ca.of dv)
 have ky:=az.go (gE.ex dv Zo Zo) (by omega:j<=bs+1+1+1)
 clear s6 E6 gE dv
 change andThen (eH [40] (aX.drop (gg+1))) _=some r at Z
 rcases gq Z with ⟨K,U,rfl⟩|⟨hO,c5,U,Z⟩
 ·exact(jq aA ky Zo Zo Cs U).mono (λae T au a=>by obtain⟨J,cB,a,_⟩:=a;cases a) (λae T au a=>a.of eC (λ_ a=>by cases a;rfl))
 refine(jq aA ky Zo Zo Cs U).mono ?_ (λae T au a=>by obtain⟨K,a,_⟩:=a;cases a)
 clear U
 rintro v5 bX b2 ⟨aBN,i5,r4,_,hg,dC⟩
 cases r4
 have h5:=dC.le
 have adx:=adw.fr dC Zo
 have EX:ab X bX j=zx [.str [], .Z 0, .aP, .aP, .aP, .aP] 6:=by rw[dC.ad _ Zo (by simp;omega)];exact yb
 have yg:=eC.trans dC
 have oe:=az.go hg yg.le
 clear adw yb eC dC Cs ky
 obtain⟨e,mv,Iq,I3⟩:=qD Z
 refine(nx aA oe Iq _).Zm ?_
 rintro ae6 cf eK ⟨rfl,hs,ey⟩
 have r8:=ey.le
 have Nj:=adx.fr ey Zo
 have AG:ab X cf j=zx [.str [], .Z 0, .aP, .aP, .aP, .aP] 6:=by rw[ey.ad _ Zo (by simp;omega)];exact EX
 have up:=yg.trans ey
 clear adx EX yg ey hg oe
 refine rT b9.eq_1 ⟨?_⟩
 refine j3 (λM T aV=>∃(cY:F) (eG:List fe) (cB:Nat),M.g 0=some (.ptr aH 0)/\M.g 2=some (.ptr j 0)/\M.g 4=some (.ptr (bs+1) 0)/\sM X T aV (bs+1) x.text x.at_ cY .aP .aP eG [] []/\ab X T j=zx [.str [], .Z 0, .aP, .aP, .aP, .aP] 6/\aU X T aH bM aX cB/\ca X [aH] h j T aV/\
  (andThen (eH [114,101,116,117,114,110,115] (aX.drop cB)) λ_ l=>andThen (eH [40] l) λ_ l=>andThen (iW n false [] l) λout l=>andThen (eH [41] l) λ_ l=>
   h7 [118,97,114] l λe l=>andThen (match e with
    |some _=>andThen (iW n true [] l) λds l=>andThen (eH [59] l) λ_ l=>ok ds l
    |none=>ok [] l) λloc l=>
   andThen (eH [108,101,116] l) λ_ l=>andThen (ly n [] l) λcR l=>ok (⟨x.text,x.at_,eG,out,loc,cR⟩:Go.aU.Node) l)=some r) (λaa bG=> ?_) ?_
 ·rcases I3 with ⟨aD,Z⟩|⟨aD,Z⟩
  ·rw[aD]at hs ⊢
   simp only[ZD]at hs ⊢
   rw[<-(fI Iq).2]at Z
   simp only[andThen,ok]at Z
   refine ci b9.eq_1 ⟨?_⟩
   refine bG _ _ _ ⟨.aP,[],i5+1,bw,bw,bw,Nj.ad (λe Q U=>zz) Zo,by simp(disch:=omega) only[aI];exact AG,hs.ad (zz) (zz), ?_,Z⟩
   exact⟨Zo,λb aj bQ=>by rw[<-up.ad b aj bQ];exact zz⟩
  ·rw[aD]at hs ⊢
   simp only[Zw,ZA]at hs ⊢
   simp only[]at Z
   refine cV b9.eq_1 g5.eq_1 ⟨?_⟩
   refine fc (λcx=>bq X cf eK cx (eK+1)) dU ?_
   intro cx fa
   have Dy:=Nj.fr (ca.of (X:=[aH]) fa) Zo
   have yc:ab X cx j=zx [.str [], .Z 0, .aP, .aP, .aP, .aP] 6:=by rw[fa.ad _ Zo];exact AG
   have ek:=up.trans (ca.of fa)
   have mX:=az.go (hs.ex fa Zo Zo) (by omega:j<=eK+1)
   clear Nj AG up hs fa
   rcases gq Z with ⟨K,aJ,rfl⟩|⟨eG,Ss,aJ,Z⟩
   ·rcases gq aJ with ⟨fN,U,ar⟩|⟨ds,n3,U,aJ⟩
    ·cases ar
     exact(EM aA j2 mX U).mono (λae T au a=>by obtain⟨J,cB,b,a,_⟩:=a;cases a) (λae T au a=>a.of ek (λ_ a=>by cases a;rfl))
    refine(EM aA j2 mX U).mono ?_ (λae T au a=>by obtain⟨K,a,_⟩:=a;cases a)
    rintro GS dx hW ⟨alP,i8,WE,CL,C4,wX,gC⟩
    cases CL
    have yt:=gC.le
    have Gi:=Dy.fr gC Zo
    obtain⟨gN,my,rn⟩:=ke C4.len
    refine cL ⟨?_⟩
    have ya:=Gi.mO
    refine fF (sF (Y:=2) ya Zo Zo gN my) ?_
    refine cL ⟨?_⟩
    refine fc (λei=>ab X ei hW=zx [.str [41]] 1/\∀e,e<hW->e≠(bs+1)->ab X ei e=ab X dx e) ⟨bm Zo,λe Q U=>zz⟩ ?_
    rintro ei ⟨Qj,hl⟩
    have mn:=wX.ad (hl _ Zo Zo) (hl _ Zo Zo)
    have ha:ca X [aH] h j ei (hW+1):=⟨Zo,λb aj bQ=>by rw[hl b Zo Zo];exact(ek.trans gC).ad b aj bQ⟩
    rcases gq aJ with ⟨fN,aK,bH⟩|⟨tN,sm,aK,aJ⟩
    ·cases bH
     exact(jq aA (az.go mn Zo) Zo Zo Qj aK).mono (λae T au a=>by obtain⟨J,cB,a,_⟩:=a;cases a) (λae T au a=>a.of ha (λ_ a=>by cases a;rfl))
    ·cases aJ
   ·rcases gq aJ with ⟨fN,U,ar⟩|⟨ds,n3,U,aJ⟩
    ·cases ar
    refine(EM aA j2 mX U).mono ?_ (λae T au a=>by obtain⟨K,a,_⟩:=a;cases a)
    rintro GS dx hW ⟨alP,i8,WE,CL,C4,wX,gC⟩
    cases CL
    have yt:=gC.le
    have Gi:=Dy.fr gC Zo
    obtain⟨gN,my,rn⟩:=ke C4.len
    refine cL ⟨?_⟩
    have ya:=Gi.mO
    refine fF (sF (Y:=2) ya Zo Zo gN my) ?_
    refine cL ⟨?_⟩
    refine fc (λei=>ab X ei hW=zx [.str [41]] 1/\ab X ei (bs+1)=zx [.str x.text, .Z x.at_,GS, .aP, .aP, .aP] 6/\∀e,e<hW->e≠(bs+1)->ab X ei e=ab X dx e) ⟨bm Zo,by rw[aI Zo Zo,bm Zo];rfl,λe Q U=>zz⟩ ?_
    rintro ei ⟨Qj,EV,hl⟩
    have mn:=wX.ad (hl _ Zo Zo) (hl _ Zo Zo)
    have ha:ca X [aH] h j ei (hW+1):=⟨Zo,λb aj bQ=>by rw[hl b Zo Zo];exact(ek.trans gC).ad b aj bQ⟩
    have aAw:=Dy.lt
    have JC:sM X ei (hW+1) (bs+1) x.text x.at_ GS .aP .aP _ [] []:=⟨EV,Zo,⟨WE,(C4.ad (λe H=>hl e H.2 (zt H.1))).lift (λe H=>⟨zt H.1,zt H.2⟩)⟩,⟨0,dO.nil _ _⟩,⟨0,dO.nil _ _⟩⟩
    have wv:ab X ei j=zx [.str [], .Z 0, .aP, .aP, .aP, .aP] 6:=by rw[hl _ Zo Zo,gC.ad _ Zo (by simp;omega)];exact yc
    rcases gq aJ with ⟨fN,aK,bH⟩|⟨tN,sm,aK,aJ⟩
    ·cases bH
    refine(jq aA (az.go mn Zo) Zo Zo Qj aK).mono ?_ (λae T au a=>by obtain⟨K,a,_⟩:=a;cases a)
    rintro tJ v7 Jw ⟨Of,aco,Q1,_,Fv,td⟩
    cases Q1
    cases aJ
    exact bG _ _ _ ⟨GS,_,aco,bw,bw,bw,JC.fr td Zo,by rw[td.ad _ Zo (by simp;omega)];exact wv,Fv,ha.trans td,Z⟩
 ·clear I3 hs Nj AG up Z
  rintro M cx eu ⟨cY,eG,oP,t0,ez,t4,Dy,yc,hG,ek,Z⟩
  have Rm:=Dy.lt
  refine ci @t0 ⟨?_⟩
  refine fc (λdx=>ab X dx eu=zx [.str [114,101,116,117,114,110,115], .str [40]] 2/\bq X cx eu dx (eu+1)) ⟨bm Zo,dU⟩ ?_
  rintro dx ⟨Cu,g9⟩
  have Gi:=Dy.fr (ca.of (X:=[aH]) g9) Zo
  have Lw:ab X dx j=zx [.str [], .Z 0, .aP, .aP, .aP, .aP] 6:=by rw[g9.ad _ Zo];exact yc
  have gC:=ek.trans (ca.of g9)
  have sw:=az.go (hG.ex g9 Zo Zo) (by omega:j<=eu+1)
  clear Dy yc ek hG g9
  have C4:dO X dx (λe=>e=eu) eu (.slice eu 0 2 2) 1 (ii [[114,101,116,117,114,110,115],[40]]):=Gw (aR:=[[.str [114,101,116,117,114,110,115]],[.str [40]]]) (st:= .own) Cu rfl Zs Zd rfl
  have bJ:∃yU,rt [[114,101,116,117,114,110,115],[40]] g5 (aX.drop oP)=some yU/\andThen (some yU) (λ(_:Tok) l=>andThen (iW n false [] l) λout l=>andThen (eH [41] l) λ_ l=>
   h7 [118,97,114] l λe l=>andThen (match e with
    |some _=>andThen (iW n true [] l) λds l=>andThen (eH [59] l) λ_ l=>ok ds l
    |none=>ok [] l) λloc l=>
   andThen (eH [108,101,116] l) λ_ l=>andThen (ly n [] l) λcR l=>ok (⟨x.text,x.at_,eG,out,loc,cR⟩:Go.aU.Node) l)=some r:=by
   rw[ayx]
   rcases gq Z with ⟨K,Q,rfl⟩|⟨bh,eg,Q,Z⟩
   ·exact⟨.error K,by rw[Q];rfl,rfl⟩
   ·rcases gq Z with ⟨K,U,rfl⟩|⟨cl,c5,U,Z⟩
    ·exact⟨.error K,by rw[Q];exact U,rfl⟩
    ·exact⟨.ok (cl,c5),by rw[Q];exact U,Z⟩
  clear Z
  obtain⟨yU,bJ,Z⟩:=bJ
  refine(afl aA sw.a8 sw.par sw.fB sw.hm sw.g2 sw.many Zo Zo C4 bJ).mono ?_ (λae T au a=>by
   obtain⟨K,rfl,rfl,a⟩:=a
   simp only[andThen,Zf]at Z
   subst Z
   exact⟨K,rfl,rfl,gC.trans a⟩)
  rintro v9 ei i7 ⟨tN,i9,rfl,_,mn,ha⟩
  change andThen (iW n false [] (aX.drop i9)) _=some r at Z
  have tj:=ha.le
  have JC:=Gi.fr ha Zo
  have wv:ab X ei j=zx [.str [], .Z 0, .aP, .aP, .aP, .aP] 6:=by rw[ha.ad _ Zo (by simp;omega)];exact Lw
  have AK:=gC.trans ha
  have S1:=az.go mn AK.le
  clear Gi Lw gC ha C4 Cu sw bJ mn
  refine ci @t0 ⟨?_⟩
  rcases gq Z with ⟨K,U,rfl⟩|⟨out,aA3,U,Z⟩
  ·exact(EM aA j2 S1 U).mono (λae T au a=>by obtain⟨J,cB,b,a,_⟩:=a;cases a) (λae T au a=>a.of AK (λ_ a=>by cases a;rfl))
  refine(EM aA j2 S1 U).mono ?_ (λae T au a=>by obtain⟨K,a,_⟩:=a;cases a)
  clear U
  rintro tJ v7 Jw ⟨out,aco,akA,Q1,RH,Fv,td⟩
  cases Q1
  have azX:=td.le
  have SL:=JC.fr td Zo
  have θ:ab X v7 j=zx [.str [], .Z 0, .aP, .aP, .aP, .aP] 6:=by rw[td.ad _ Zo (by simp;omega)];exact wv
  have aah:=AK.trans td
  obtain⟨gN,my,rn⟩:=ke RH.len
  have aAn:=JC.lt
  refine ci @t4 ⟨?_⟩
  refine fF (sF (Y:=3) SL.mO Zo Zo gN my) ?_
  refine ci @t0 ⟨?_⟩
  refine fc (λqN=>ab X qN Jw=zx [.str [41]] 1/\ab X qN (bs+1)=zx [.str x.text, .Z x.at_,cY,tJ, .aP, .aP] 6/\∀e,e<Jw->e≠bs+1->ab X qN e=ab X v7 e) ⟨bm Zo,by rw[aI Zo Zo,bm Zo];rfl,λe Q U=>zz⟩ ?_
  rintro qN ⟨Qg,EU,Dh⟩
  have IK:=Fv.ad (Dh _ Zo Zo) (Dh _ Zo Zo)
  have wy:ca X [aH] h j qN (Jw+1):=⟨Zo,λb aj bQ=>by rw[Dh b Zo Zo];exact aah.ad b aj bQ⟩
  have adv:sM X qN (Jw+1) (bs+1) x.text x.at_ cY tJ .aP eG out []:=by
   obtain⟨Hj,sd⟩:=SL.eW
   exact⟨EU,Zo,⟨Hj,(sd.ad (λe H=>Dh e H.2 (zt H.1))).lift (λe H=>⟨H.1,zt H.2⟩)⟩,⟨akA,(RH.ad (λe H=>Dh e H.2 (zt H.1))).lift (λe H=>⟨zt H.1,zt H.2⟩)⟩,⟨0,dO.nil _ _⟩⟩
  have ι:ab X qN j=zx [.str [], .Z 0, .aP, .aP, .aP, .aP] 6:=by rw[Dh _ Zo Zo];exact θ
  clear JC SL wv θ AK td aah RH Fv Dh EU S1
  rcases gq Z with ⟨K,aK,rfl⟩|⟨aBH,aA5,aK,Z⟩
  ·exact(jq aA (az.go IK Zo) Zo Zo Qg aK).mono (λae T au a=>by obtain⟨J,cB,a,_⟩:=a;cases a) (λae T au a=>a.of wy (λ_ a=>by cases a;rfl))
  refine(jq aA (az.go IK Zo) Zo Zo Qg aK).mono ?_ (λae T au a=>by obtain⟨K,a,_⟩:=a;cases a)
  clear aK
  rintro aBC ajD aBe ⟨aBI,acp,apv,_,abJ,H3⟩
  cases apv
  have azZ:=H3.le
  have SM:=adv.fr H3 Zo
  have κ:ab X ajD j=zx [.str [], .Z 0, .aP, .aP, .aP, .aP] 6:=by rw[H3.ad _ Zo (by simp;omega)];exact ι
  have Qt:=wy.trans H3
  have ad3:=az.go abJ Qt.le
  clear adv ι wy H3 IK Qg abJ
  refine ci @t0 ⟨?_⟩
  obtain⟨e,aA6,aaP,ack⟩:=qD Z
  refine(nx aA ad3 aaP _).Zm ?_
  rintro aBA V3 SJ ⟨rfl,AX,H4⟩
  have az0:=H4.le
  have Ni:=SM.fr H4 Zo
  have Ls:ab X V3 j=zx [.str [], .Z 0, .aP, .aP, .aP, .aP] 6:=by rw[H4.ad _ Zo (by simp;omega)];exact κ
  have LG:=Qt.trans H4
  have aAi:=SM.lt
  clear SM κ Qt H4 ad3 Z
  refine rT b9.eq_1 ⟨?_⟩
  refine j3 (λM T aV=>∃(a6:F) (loc:List fe) (cB:Nat),M.g 0=some (.ptr aH 0)/\M.g 2=some (.ptr j 0)/\M.g 4=some (.ptr (bs+1) 0)/\sM X T aV (bs+1) x.text x.at_ cY tJ a6 eG out loc/\ab X T j=zx [.str [], .Z 0, .aP, .aP, .aP, .aP] 6/\aU X T aH bM aX cB/\ca X [aH] h j T aV/\
   (andThen (eH [108,101,116] (aX.drop cB)) λ_ l=>andThen (ly n [] l) λcR l=>ok (⟨x.text,x.at_,eG,out,loc,cR⟩:Go.aU.Node) l)=some r) (λaa bG=> ?_) ?_
  ·rcases ack with ⟨aD,Z⟩|⟨aD,Z⟩
   ·rw[aD]at AX ⊢
    simp only[ZD]at AX ⊢
    rw[<-(fI aaP).2]at Z
    simp only[]at Z
    refine cV b9.eq_1 @t0 ⟨?_⟩
    refine fc (λG4=>bq X V3 SJ G4 (SJ+1)) dU ?_
    intro G4 HY
    have JB:=Ni.fr (ca.of (X:=[aH]) HY) Zo
    have Lt:ab X G4 j=zx [.str [], .Z 0, .aP, .aP, .aP, .aP] 6:=by rw[HY.ad _ Zo];exact Ls
    have H5:=LG.trans (ca.of HY)
    have avw:=az.go (AX.ex HY Zo Zo) (by omega:j<=SJ+1)
    clear Ni Ls LG AX HY
    have L4:∃rd,iW n true [] (aX.drop (acp+1))=some rd/\(match rd with
     | .error K=>r= .error K
     | .ok (ds,l)=>∃yU,eH [59] l=some yU/\(match yU with
       | .error K=>r= .error K
       | .ok (_,l)=>(andThen (eH [108,101,116] l) λ_ l=>andThen (ly n [] l) λcR l=>ok (⟨x.text,x.at_,eG,out,ds,cR⟩:Go.aU.Node) l)=some r)):=by
     rcases gq Z with ⟨K,aJ,rfl⟩|⟨loc,Ss,aJ,Z⟩
     ·rcases gq aJ with ⟨fN,U,ar⟩|⟨ds,n3,U,aJ⟩
      ·cases ar;exact⟨_,U,rfl⟩
      ·rcases gq aJ with ⟨fN,aK,bH⟩|⟨tN,sm,aK,aJ⟩
       ·cases bH;exact⟨_,U,_,aK,rfl⟩
       ·cases aJ
     ·rcases gq aJ with ⟨fN,U,ar⟩|⟨ds,n3,U,aJ⟩
      ·cases ar
      ·rcases gq aJ with ⟨fN,aK,bH⟩|⟨tN,sm,aK,aJ⟩
       ·cases bH
       ·cases aJ;exact⟨_,U,_,aK,Z⟩
    obtain⟨rd,U,abX⟩:=L4
    refine(EM aA j2 avw U).mono ?_ (λae T au a=>by
     obtain⟨K,rfl,rfl,a⟩:=a
     subst abX
     exact⟨K,rfl,rfl,H5.trans a⟩)
    rintro TP Kw Ng ⟨ds,aAU,akB,rfl,abW,aqJ,AI⟩
    obtain⟨yU,aK,C5⟩:=abX
    have az1:=AI.le
    have Gh:=JB.fr AI Zo
    have Lu:ab X Kw j=zx [.str [], .Z 0, .aP, .aP, .aP, .aP] 6:=by rw[AI.ad _ Zo (by simp;omega)];exact Lt
    have aom:=H5.trans AI
    obtain⟨fA,hx,xj⟩:=ke abW.len
    refine ci @t4 ⟨?_⟩
    refine fF (sF (Y:=4) Gh.mO Zo Zo fA hx) ?_
    refine ci @t0 ⟨?_⟩
    refine fc (λqN=>ab X qN Ng=zx [.str [59]] 1/\ab X qN (bs+1)=zx [.str x.text, .Z x.at_,cY,tJ,TP, .aP] 6/\∀e,e<Ng->e≠bs+1->ab X qN e=ab X Kw e) ⟨bm Zo,by rw[aI Zo Zo,bm Zo];rfl,λe Q U=>zz⟩ ?_
    rintro BX ⟨anQ,ans,Di⟩
    have Mu:=aqJ.ad (Di _ Zo Zo) (Di _ Zo Zo)
    have AJ:ca X [aH] h j BX (Ng+1):=⟨Zo,λb aj bQ=>by rw[Di b Zo Zo];exact aom.ad b aj bQ⟩
    have Dx:sM X BX (Ng+1) (bs+1) x.text x.at_ cY tJ TP eG out ds:=by
     obtain⟨Hj,sd⟩:=Gh.eW
     obtain⟨O8,jL⟩:=Gh.e5
     exact⟨ans,Zo,⟨Hj,(sd.ad (λe H=>Di e H.2 (zt H.1))).lift (λe H=>⟨H.1,zt H.2⟩)⟩,⟨O8,(jL.ad (λe H=>Di e H.2 (zt H.1))).lift (λe H=>⟨H.1,zt H.2⟩)⟩,⟨akB,(abW.ad (λe H=>Di e H.2 (zt H.1))).lift (λe H=>⟨zt H.1,zt H.2⟩)⟩⟩
    have Lv:ab X BX j=zx [.str [], .Z 0, .aP, .aP, .aP, .aP] 6:=by rw[Di _ Zo Zo];exact Lu
    refine(jq aA (az.go Mu Zo) Zo Zo anQ aK).mono ?_ (λae T au a=>by
     obtain⟨K,rfl,rfl,a⟩:=a
     subst C5
     exact⟨K,rfl,rfl,AJ.trans a⟩)
    rintro aBE G5 Jx ⟨aBL,A9,rfl,_,RB,E5⟩
    exact bG _ _ _ ⟨TP,ds,A9,bf t0,bf ez,bf t4,Dx.fr E5 Zo,by rw[E5.ad _ Zo (by simp;omega)];exact Lv,RB,AJ.trans E5,C5⟩
   ·rw[aD]at AX ⊢
    simp only[Zw,ZA]at AX ⊢
    simp only[andThen,ok]at Z
    refine cV b9.eq_1 g5.eq_1 ⟨?_⟩
    refine bG _ _ _ ⟨.aP,[],acp,bf t0,bf ez,bf t4,Ni.ad (λe Q U=>zz) Zo,by simp(disch:=omega) only[aI];exact Ls,AX.ad (zz) (zz), ?_,Z⟩
    exact⟨Zo,λb aj bQ=>by rw[<-LG.ad b aj bQ];exact zz⟩
  ·clear ack AX Ni Ls LG t0 ez t4
   rintro M G4 Nf ⟨a6,loc,aAT,t0,ez,t4,JB,Lt,abK,H5,Z⟩
   have aAj:=JB.lt
   refine ci @t0 ⟨?_⟩
   refine fc (λdx=>ab X dx Nf=zx [.str [108,101,116]] 1/\bq X G4 Nf dx (Nf+1)) ⟨bm Zo,dU⟩ ?_
   rintro Kw ⟨Qh,Cz⟩
   have Gh:=JB.fr (ca.of (X:=[aH]) Cz) Zo
   have Lu:ab X Kw j=zx [.str [], .Z 0, .aP, .aP, .aP, .aP] 6:=by rw[Cz.ad _ Zo];exact Lt
   have AI:=H5.trans (ca.of Cz)
   have S0:=az.go (abK.ex Cz Zo Zo) (by omega:j<=Nf+1)
   clear JB Lt H5 abK Cz
   rcases gq Z with ⟨K,aK,rfl⟩|⟨aBJ,aA7,aK,Z⟩
   ·exact(jq aA S0 Zo Zo Qh aK).mono (λae T au a=>by obtain⟨J,cB,a,_⟩:=a;cases a) (λae T au a=>a.of AI (λ_ a=>by cases a;rfl))
   refine(jq aA S0 Zo Zo Qh aK).mono ?_ (λae T au a=>by obtain⟨K,a,_⟩:=a;cases a)
   clear aK
   rintro aBD BX fE ⟨aBK,i16,apw,_,Mu,AJ⟩
   cases apw
   have az2:=AJ.le
   have Dx:=Gh.fr AJ Zo
   have Lv:ab X BX j=zx [.str [], .Z 0, .aP, .aP, .aP, .aP] 6:=by rw[AJ.ad _ Zo (by simp;omega)];exact Lu
   have aai:=AI.trans AJ
   have aAk:=Dx.lt
   clear Gh Lu AI AJ S0 Qh
   obtain⟨Hj,sd⟩:=Dx.eW
   obtain⟨O8,jL⟩:=Dx.e5
   obtain⟨we,uO⟩:=Dx.hy
   obtain⟨tI,D4,y2⟩:=ke sd.len
   obtain⟨mE,pe,aBG⟩:=ke jL.len
   obtain⟨fW,fv,z3⟩:=ke uO.len
   refine gV ?_
   refine fU (λm M T aV=>∃(ev:F) (cR:List e9) (aR:List (List F)) (cK:List Nat) (cB:Nat),M.g 0=some (.ptr aH 0)/\M.g 2=some (.ptr j 0)/\M.g 4=some (.ptr (bs+1) 0)/\ab X T (bs+1)=zx [.str x.text, .Z x.at_,cY,tJ,a6,ev] 6/\
    (∀e,bs+2<=e->e<fE->ab X T e=ab X BX e)/\gI X T ev 4 aR.flatten cK/\(∀e∈cK,fE<=e/\e<aV)/\lO X T (vt fE aV cK) cR aR/\ab X T j=zx [.str [], .Z 0, .aP, .aP, .aP, .aP] 6/\aU X T aH bM aX cB/\ca X [aH] h j T aV/\fE<=aV/\cR.length+m<=n/\
    (andThen (ly m cR (aX.drop cB)) λcR l=>ok (⟨x.text,x.at_,eG,out,loc,cR⟩:Go.aU.Node) l)=some r)
    n ⟨.aP,[],[],[],i16,t0,ez,t4,Dx.mO,λ_ _ _=>rfl, .inl (.inl ⟨rfl,rfl,rfl⟩),Zs,rfl,Lv,Mu,aai,Zi _,Zs,Z⟩ ?_
   clear Z Mu Lv aai t0 ez t4
   rintro m M G5 Jx ⟨ev,cR,aR,cK,A9,t0,ez,t4,P3,acN,MG,wD,MA,μ,RB,E5,az3,aAp,Z⟩
   cases m with
   |zero=>simp[ly,andThen]at Z
   |succ m=>
   unfold ly at Z
   have avx:=az.go RB E5.le
   refine gV ?_
   refine ci @t0 ⟨?_⟩
   have FB:∃e l,aX.drop A9=e::l/\((g3 e [116,101,108]=true/\ok (⟨x.text,x.at_,eG,out,loc,cR⟩:Go.aU.Node) l=some r)\/(g3 e [116,101,108]=false/\(andThen (andThen (ue m (aX.drop A9)) λam l=>ly m (cR++[am]) l) λcR l=>ok (⟨x.text,x.at_,eG,out,loc,cR⟩:Go.aU.Node) l)=some r)):=by
    rcases gq Z with ⟨K,Q,rfl⟩|⟨aed,b8,Q,Z⟩
    ·obtain⟨e,l,U,ar⟩:=qD Q
     rcases ar with ⟨ar,aK⟩|⟨ar,aK⟩
     ·cases aK
     ·exact⟨e,l,U, .inr ⟨ar,by rw[show(andThen (ue m (aX.drop A9)) λam l=>ly m (cR++[am]) l)=some (.error K) from aK];rfl⟩⟩
    ·obtain⟨e,l,U,ar⟩:=qD Q
     rcases ar with ⟨ar,aK⟩|⟨ar,aK⟩
     ·cases aK
      exact⟨e,_,U, .inl ⟨ar,Z⟩⟩
     ·exact⟨e,l,U, .inr ⟨ar,by rw[show(andThen (ue m (aX.drop A9)) λam l=>ly m (cR++[am]) l)=some (.ok (aed,b8)) from aK];exact Z⟩⟩
   clear Z
   obtain⟨e,aA8,aaQ,arZ⟩:=FB
   refine(nx aA avx aaQ _).Zm ?_
   rintro aBB BY vi ⟨rfl,uK,Qu⟩
   have az4:=Qu.le
   have Jc:∀e,j<=e->e<Jx->ab X BY e=ab X G5 e:=λe Q U=>Qu.ad e U (by simp;omega)
   have aaj:=E5.trans Qu
   rcases arZ with ⟨aD,Z⟩|⟨aD,Z⟩
   ·rw[aD]at uK ⊢
    simp only[ZD]at uK ⊢
    simp only[ok,Zf]at Z
    subst Z
    obtain⟨bD,cF,fx⟩:=gI.one MG
    have P4:ab X BY (bs+1)=zx [.str x.text, .Z x.at_,cY,tJ,a6,ev] 6:=by rw[Jc _ Zo Zo];exact P3
    have anM:ab X BY j=zx [.str [], .Z 0, .aP, .aP, .aP, .aP] 6:=by rw[Jc _ Zo Zo];exact μ
    refine gt b9.eq_1 @t4 (bR P4) @ez ⟨?_⟩
    refine fF (h6 (B:=6) (b:=j) (Y:=0) (n:=6) (c:=V.ofList [.str [], .Z 0, .aP, .aP, .aP, .aP] 0 .nil) (by simp(disch:=omega) only[aI];exact anM) Zo rfl Zd Zd (by simp[F.cells,iz,D4,pe,fv,cF,show oc (.Z x.at_)=true from rfl,show oc (.str x.text)=true from rfl])) ?_
    refine ci @ez ⟨?_⟩
    have Dl:∀gy,(∀e,j<e->e<vi->ab X gy e=ab X BY e)->∀e,j<e->e<Jx->ab X gy e=ab X G5 e:=λgy a e Q U=>by rw[a e Q Zo,Jc e Zo U]
    generalize aaz:bn X _ j _=gy
    have MX:∀e,e≠j->e<vi->ab X gy e=ab X BY e:=λe Q U=>by rw[<-aaz];exact zz
    clear aaz
    have R9:=Dl gy (λe Q U=>MX e Zo U)
    have yz:=MA.wide
    obtain⟨akF,MD⟩:=(MG.ad (T:=gy) (λe H=>R9 e (zt (wD e H)) (wD e H).2)).l5 Zd yz.2 (by rw[yz.1];omega) (P:=da j (vi+1)) (λe H=>by have:=wD e H;exact⟨Zo,Zo⟩)
    have c4:∀e,da (bs+1+1) fE e->ab X gy e=ab X BX e:=λe H=>by
     have Q:=H.1;have U:=H.2
     rw[R9 e Zo Zo];exact acN e Zo U
    have e6:∀e,da (bs+1+1) fE e->da j (vi+1) e:=λe H=>⟨zt H.1,zt H.2⟩
    refine⟨_,A9+1,_,by rw[(fI aaQ).2],rfl,⟨cY,tJ,a6,ev,Hj,O8,we,akF,aR,rfl,(sd.ad c4).lift e6,(jL.ad c4).lift e6,(uO.ad c4).lift e6,MD, ?_⟩, ?_, ?_⟩
    ·exact MA.ad (λe H=>R9 e (zt H.1) H.2.1) (λe H=>⟨zt H.1,zt H.2.1⟩)
    ·exact uK.ad (MX _ Zo Zo) (MX _ Zo Zo)
    ·exact⟨Zo,λb aj bQ=>by rw[MX b Zo Zo];exact aaj.ad b aj bQ⟩
   ·rw[aD]at uK ⊢
    simp only[Zw,ZA]at uK ⊢
    obtain⟨bD,cF,fx⟩:=gI.one MG
    have P4:ab X BY (bs+1)=zx [.str x.text, .Z x.at_,cY,tJ,a6,ev] 6:=by rw[Jc _ Zo Zo];exact P3
    refine gA b9.eq_1 g5.eq_1 @t4 (bR P4) @t0 ⟨?_⟩
    refine fc (λOI=>bq X BY vi OI (vi+1+8)) dU ?_
    intro OI Qn
    have asC:∀e,j<=e->e<Jx->ab X OI e=ab X G5 e:=λe Q U=>by rw[Qn.ad e Zo];exact Jc e Q U
    have aak:=aaj.trans (ca.of Qn)
    have avy:=az.go (uK.ex Qn Zo Zo) (by omega:j<=vi+1+8)
    have IT:∃hX,ue m (aX.drop A9)=some hX/\(match hX with
     | .error K=>r= .error K
     | .ok (am,l)=>(andThen (ly m (cR++[am]) l) λcR l=>ok (⟨x.text,x.at_,eG,out,loc,cR⟩:Go.aU.Node) l)=some r):=by
     rcases gq Z with ⟨K,Q,rfl⟩|⟨aed,b8,Q,Z⟩
     ·rcases gq Q with ⟨fN,U,ar⟩|⟨am,l,U,ar⟩
      ·cases ar;exact⟨_,U,rfl⟩
      ·exact⟨_,U,by show andThen _ _=_;rw[ar];rfl⟩
     ·rcases gq Q with ⟨fN,U,ar⟩|⟨am,l,U,ar⟩
      ·cases ar
      ·exact⟨_,U,by show andThen _ _=_;rw[ar];exact Z⟩
    obtain⟨hX,Q,gL⟩:=IT
    refine(amm aA eS Zo avy Q).mono ?_ (λae T au a=>by
     obtain⟨K,rfl,rfl,a⟩:=a
     subst gL
     exact⟨K,rfl,rfl,aak.trans a⟩)
    rintro TQ G6 adn ⟨am,ar8,row,rfl,rfl,RJ,aqK,Qv⟩
    have az5:=Qv.le
    have aon:=aak.trans Qv
    have Jd:∀e,j<=e->e<Jx->ab X G6 e=ab X G5 e:=λe Q U=>by rw[Qv.ad e Zo (by simp;omega)];exact asC e Q U
    have X6:ab X G6 (bs+1)=zx [.str x.text, .Z x.at_,cY,tJ,a6,ev] 6:=by rw[Jd _ Zo Zo];exact P3
    have arm:=RJ.len
    obtain⟨jp,eW,e5,hy,rfl⟩:∃jp eW e5 hy,row=[jp,eW,e5,hy]:=by
     match row,arm with
     |[K,b,c,d],_=>exact⟨K,b,c,d,rfl⟩
    have wV:iz [jp,eW,e5,hy]=true:=by obtain⟨_,_,_,_,_,Q,_,_,_,bH⟩:=RJ;exact bH
    refine ci (bR X6) ⟨?_⟩
    refine gP fx ?_
    have j1:kX X (bn X G6 (vi+1+4) (zx [jp,eW,e5,hy] 4)) 4 (.slice (vi+1+4) 0 1 1)=some (1,[jp,eW,e5,hy]):=sE (bm Zo) (mT _) rfl _
    have yz:=MA.wide
    have oJ:=uf yz.2
    obtain⟨Tn,Ei,gR,iK,ab1,LX,ap7⟩:=(MG.ad (T:=bn X G6 (vi+1+4) (zx [jp,eW,e5,hy] 4)) (λe H=>by have:=wD e H;rw[aI Zo Zo];exact Jd e Zo Zo)).append (j:=adn) Zd j1 rfl Zd wV (by rw[oJ,yz.1];simp only[ZB,ZU];omega) Zo (λe H=>zt (wD e H))
    refine ki iK ?_
    obtain⟨eM,eZ,ji⟩:=kk.one ab1
    have Bf:∀e,e<adn->e≠vi+1+4->e∉cK->ab X Ei e=ab X G6 e:=λe Q U ar=>by rw[ap7 e Zo ar,aI Zo U]
    have c9:∀e,e<fE->e∉cK:=λe Q U=>zt (wD e U)
    have anu:ab X Ei (bs+1)=zx [.str x.text, .Z x.at_,cY,tJ,a6,ev] 6:=by rw[Bf _ Zo Zo (c9 _ Zo)];exact X6
    refine ci @t4 ⟨?_⟩
    refine fF (sF (Y:=5) anu Zo Zo eM eZ) ?_
    have Bg:∀e,e≠bs+1->∀cT,ab X (bn X Ei (bs+1) cT) e=ab X Ei e:=λe a cT=>aI Zo a
    refine⟨m,Zo,Tn,cR++[am],aR++[[jp,eW,e5,hy]],gR,ar8,bf t0,bf ez,bf t4,by rw[bm Zo];rfl, ?_, .inl ?_, ?_, ?_, ?_, ?_, ?_,Zo,by simp;omega,gL⟩
    ·intro e Q U
     rw[Bg e Zo,Bf e Zo Zo (c9 e U),Jd e Zo Zo]
     exact acN e Q U
    ·rw[zf,Z6,List.flatten_nil,Yz]
     exact ab1.ad λe H=>Bg e (by rcases LX e H with rfl|a;omega;have:=wD e a;omega) _
    ·intro e H
     rcases LX e H with rfl|a
     ·omega
     ·have:=wD e a;omega
    ·refine lO.snoc (RJ.ad (λe H=> ?_) (λe H=>H)) (MA.ad (λe H=> ?_) (λe H=>H)) (λe H=> ?_) (λe H=>⟨?_,λoO=>by have:=H.1;have:=oO.2.1;omega⟩)
     ·have Q:=H.1;have U:=H.2
      rw[Bg e Zo,Bf e Zo Zo (λa=>zt (wD e a))]
     ·have Q:=H.1;have U:=H.2.1
      rw[Bg e Zo,Bf e Zo Zo H.2.2,Jd e Zo Zo]
     ·have Q:=H.1;have U:=H.2.1
      refine⟨Q,Zo,λa=> ?_⟩
      rcases LX e a with rfl|a
      ·omega
      ·exact H.2.2 a
     ·have Q:=H.1;have U:=H.2
      refine⟨Zo,Zo,λa=> ?_⟩
      rcases LX e a with rfl|a
      ·omega
      ·have:=wD e a;omega
    ·rw[Bg _ Zo,Bf _ Zo Zo (c9 _ Zo),Jd _ Zo Zo];exact μ
    ·exact aqK.ad (by rw[Bg _ Zo,Bf _ Zo Zo (c9 _ Zo)]) (by rw[Bg _ Zo,Bf _ Zo Zo (c9 _ Zo)])
    ·exact⟨Zo,λb aj bQ=>by rw[Bg b Zo,Bf b Zo Zo (c9 b Zo)];exact aon.ad b aj bQ⟩
end
def mI(X:ck)(h:V an):(Nat->Prop)->List Go.aU.Node->List (List F)->Prop
 |_,[],aR=>aR=[]
 |P,am::cR,aR=>∃row fV bu,aR=row::fV/\(∀e,bu e->P e)/\m5 X h bu am row/\mI X h (λe=>P e/\¬bu e) cR fV
def m5.ad{X:ck}{h T:V an}{P bu:Nat->Prop}{g:Go.aU.Node}{row:List F}(a:m5 X h P g row)(B:∀e,P e->ab X T e=ab X h e)(aC:∀e,P e->bu e):m5 X T bu g row:=by
 obtain⟨cY,dj,a6,ev,c0,dL,ef,hQ,aR,J,Q,U,ar,aK,bH⟩:=a
 exact⟨cY,dj,a6,ev,c0,dL,ef,hQ,aR,J,(Q.ad B).lift aC,(U.ad B).lift aC,(ar.ad B).lift aC,(aK.ad B).lift aC,bH.ad B aC⟩
def m5.len{X:ck}{h:V an}{P:Nat->Prop}{g:Go.aU.Node}{row:List F}(a:m5 X h P g row):row.length=6:=by
 obtain⟨cY,dj,a6,ev,c0,dL,ef,hQ,aR,J,_⟩:=a
 subst J;rfl
def mI.ad{X:ck}{h T:V an}:∀{cR:List Go.aU.Node}{aR:List (List F)}{P bu:Nat->Prop}(B:∀e,P e->ab X T e=ab X h e) (aC:∀e,P e->bu e),mI X h P cR aR->mI X T bu cR aR:=by
 intro cR
 induction cR with
 |nil=>intro aR P bu B aC a;exact a
 |cons am cR ak=>
  rintro aR P bu B aC ⟨row,fV,eo,Q,b1,U,ar⟩
  exact⟨row,fV,eo,Q,λe H=>aC e (b1 e H),U.ad (λe H=>B e (b1 e H)) (λe H=>H),ak (λe H=>B e H.1) (λe H=>⟨aC e H.1,H.2⟩) ar⟩
def mI.snoc{X:ck}{h:V an}{bu:Nat->Prop}{am:Go.aU.Node}{row:List F}(a:m5 X h bu am row):∀{cR:List Go.aU.Node}{aR:List (List F)}{P0 P:Nat->Prop},mI X h P0 cR aR->(∀e,P0 e->P e)->(∀e,bu e->P e/\¬P0 e)->mI X h P (cR++[am]) (aR++[row]):=by
 intro cR
 induction cR with
 |nil=>rintro aR P0 P rfl Q U;exact⟨row,[],bu,rfl,λe H=>(U e H).1,a,rfl⟩
 |cons K cR ak=>
  rintro aR P0 P ⟨iB,fV,eo,rfl,b1,ar,aK⟩ Q U
  exact⟨iB,fV++[row],eo,rfl,λe H=>Q e (b1 e H),ar,ak aK (λe H=>⟨Q e H.1,H.2⟩) (λe H=>⟨⟨(U e H).1,λiI=>(U e H).2 (b1 e iI)⟩,λoO=>(U e H).2 oO.1⟩)⟩
def mI.wide{X:ck}{h:V an}:∀{cR:List Go.aU.Node}{aR:List (List F)}{P:Nat->Prop},mI X h P cR aR->aR.length=cR.length/\∀r∈aR,r.length=6:=by
 intro cR
 induction cR with
 |nil=>rintro aR P rfl;simp
 |cons K cR ak=>
  rintro aR P ⟨iB,fV,eo,rfl,b1,U,ar⟩
  obtain⟨aK,bH⟩:=ak ar
  refine⟨by simp[aK],λr Z=> ?_⟩
  rcases Zt.1 Z with rfl|Z
  ·exact U.len
  ·exact bH r Z
def mI.get{X:ck}{h:V an}:∀{cR:List Go.aU.Node}{aR:List (List F)}{P:Nat->Prop},mI X h P cR aR->∀(i:Nat) g,cR[i]? =some g->∃row,aR[i]? =some row/\m5 X h P g row:=by
 intro cR
 induction cR with
 |nil=>intro aR P _ i g a;simp at a
 |cons K cR ak=>
  rintro aR P ⟨iB,fV,eo,rfl,b1,U,ar⟩ i g a
  cases i with
  |zero=>simp at a;subst a;exact⟨iB,rfl,U.ad (λ_ _=>rfl) b1⟩
  |succ i=>simp at a;obtain⟨row,aK,bH⟩:=ak ar i g a;exact⟨row,by simpa using aK,bH.ad (λ_ _=>rfl) (λe H=>H.1)⟩
def lO.get{X:ck}{h:V an}:∀{cR:List e9}{aR:List (List F)}{P:Nat->Prop},lO X h P cR aR->∀(i:Nat) g,cR[i]? =some g->∃row,aR[i]? =some row/\xC X h P g row:=by
 intro cR
 induction cR with
 |nil=>intro aR P _ i g a;simp at a
 |cons K cR ak=>
  rintro aR P ⟨iB,fV,eo,rfl,b1,U,ar⟩ i g a
  cases i with
  |zero=>simp at a;subst a;exact⟨iB,rfl,U.ad (λ_ _=>rfl) b1⟩
  |succ i=>simp at a;obtain⟨row,aK,bH⟩:=ak ar i g a;exact⟨row,by simpa using aK,bH.ad (λ_ _=>rfl) (λe H=>H.1)⟩
def m5.iz{X:ck}{h:V an}{P:Nat->Prop}{g:Go.aU.Node}{row:List F}(a:m5 X h P g row):Go.bi.iz row=true:=by
 obtain⟨cY,dj,a6,ev,c0,dL,ef,hQ,aR,rfl,Q,U,ar,aK,_⟩:=a
 simp[Go.bi.iz,(ke Q.len).2.1,(ke U.len).2.1,(ke ar.len).2.1,(ke aK.len).2.1,show oc (.Z g.at_)=true from rfl,show oc (.str g.name)=true from rfl]
def nE(X:ck)(h:V an)(P:Nat->Prop)(aq:List Go.aU.Node)(v:F):Prop:=∃b a6 cH aR,v= .ptr b 0/\P b/\ao X h (.ptr b 0)=some a6/\dO X h P cH a6 6 aR/\mI X h P aq aR
def nE.ad{X:ck}{h T:V an}{P bu:Nat->Prop}{aq:List Go.aU.Node}{v:F}(a:nE X h P aq v)(B:∀e,P e->ab X T e=ab X h e)(aC:∀e,P e->bu e):nE X T bu aq v:=by
 obtain⟨b,a6,cH,aR,rfl,Q,U,ar,aK⟩:=a
 exact⟨b,a6,cH,aR,rfl,aC _ Q,zE (B _ Q) U,(ar.ad B).lift aC,aK.ad B aC⟩
section
variable{X:ck}{h T a2 aS:V an}{j au aO bg aH bM:Nat}{aX:List Tok}{i:Nat}
def avC(aA:dz X)(eS:vZ X){n:Nat}(r9:n<=170000)(j2:aX.length<=100000)(az:io X h j aH bM aX i){r:Except Int (List Go.aU.Node×List Tok)}(Z:o3 n [] (aX.drop i)=some r):
 aW X 68 [.ptr aH 0] h j (λae T au=>∃aq cB,r= .ok (aq,aX.drop cB)/\nE X T (da j au) aq ae/\aU X T aH bM aX cB/\ca X [aH] h j T au) (iF X aH h j r):=by
 refine zA aA (ajj X) ?_
 rw[ajk]
 unfold VQ
 have gU:=az.a8
 have jY:=az.hm
 have hS:=az.fB
 have jw:=az.g2
 refine cL ⟨?_⟩
 have η:ab X (bn X h j (zx [.aP] 1)) j=zx [.aP] 1:=bm Zo
 have bU:bq X h j (bn X h j (zx [.aP] 1)) (j+1):=dU
 refine fU (λm M T aV=>∃(a6:F) (aq:List Go.aU.Node) (aR:List (List F)) (cK:List Nat) (cB:Nat) (c:Bool),M.g 0=some (.ptr aH 0)/\M.g 3=some (.ptr j 0)/\M.g 4=some (.bool c)/\ab X T j=zx [a6] 1/\gI X T a6 6 aR.flatten cK/\(∀e∈cK,j+1<=e/\e<aV)/\mI X T (vt (j+1) aV cK) aq aR/\aU X T aH bM aX cB/\ca X [aH] h j T aV/\j+1<=aV/\aq.length+m<=n/\
  (if c then o3 m aq (aX.drop cB)=some r else r= .ok (aq,aX.drop cB)))
  n ⟨.aP,[],[],[],i,true,bw,bw,bw,η, .inl (.inl ⟨rfl,rfl,rfl⟩),Zs,rfl,az.par.ex bU Zo Zo,ca.of bU,Zi _,Zs,Z⟩ ?_
 clear Z η bU
 rintro m M aS bg ⟨a6,aq,aR,cK,gg,c,t0,t3,t4,ul,uP,ni,Mc,dA,du,ge,CR,Z⟩
 cases c with
 |false=>
  simp only[Zw,ZA]at Z
  subst Z
  refine cV @t4 @t3 ⟨?_⟩
  have wP:=Mc.wide
  obtain⟨cH,cC⟩:=uP.l5 Zd wP.2 (by rw[wP.1];omega) (P:=da j bg) (λe H=>by have:=ni e H;exact⟨Zo,Zo⟩)
  exact⟨aq,gg,rfl,⟨j,a6,cH,aR,rfl,⟨Zo,Zo⟩,by rw[bR ul];rfl,cC,Mc.ad (λ_ _=>rfl) (λe H=>⟨zt H.1,H.2.1⟩)⟩,dA,du⟩
 |true=>
  simp only[ZD]at Z
  cases m with
  |zero=>simp[o3]at Z
  |succ m=>
  unfold o3 at Z
  have fK:=az.go dA du.le
  obtain⟨bD,cF,fx⟩:=gI.one uP
  have lX:ao X aS (.ptr j 0)=some a6:=by rw[bR ul];rfl
  refine gt @t4 @t3 @t0 @lX ⟨?_⟩
  have AZ:∃hX,Go.aU.node m (aX.drop gg)=some hX/\(match hX with
   | .error K=>r= .error K
   | .ok (am,l)=>(match l with
     |[]=>none
     |x::_=>if x.kind=7 then ok (aq++[am]) l else o3 m (aq++[am]) l)=some r):=by
   rcases gq Z with ⟨K,Q,rfl⟩|⟨am,b8,Q,Z⟩
   ·exact⟨_,Q,rfl⟩
   ·exact⟨_,Q,Z⟩
  obtain⟨hX,Q,gL⟩:=AZ
  clear Z
  have mW:=fK.go (au:=bg+12) dA Zo
  refine(auy aA eS Zo j2 mW Q).mono ?_ (λae T au a=>by
   obtain⟨K,rfl,rfl,a⟩:=a
   subst gL
   exact⟨K,rfl,rfl,du.trans (a.down Zo (λb aj=> .inl aj))⟩)
  rintro v3 bb bs ⟨g,i3,row,rfl,rfl,RK,gE,ea⟩
  have iL:=ea.le
  have E6:ca X [aH] h j bb bs:=du.trans (ea.down Zo (λb aj=> .inl aj))
  have Mk:=RK.len
  have wV:=RK.iz
  obtain⟨jp,eW,e5,hy,og,mY,rfl⟩:∃jp eW e5 hy og mY,row=[jp,eW,e5,hy,og,mY]:=by
   match row,Mk with
   |[K,b,c,d,J,f],_=>exact⟨K,b,c,d,J,f,rfl⟩
  have s6:ab X bb j=zx [a6] 1:=by rw[ea.ad _ Zo (by simp;omega)];exact ul
  have c4:∀e,j<=e->e<bg->ab X bb e=ab X aS e:=λe Q U=>ea.ad e Zo (by simp;omega)
  have asO:ao X bb (.ptr j 0)=some a6:=by rw[bR s6];rfl
  refine ci @asO ⟨?_⟩
  refine gP fx ?_
  have j1:kX X (bn X bb (bg+7) (zx [jp,eW,e5,hy,og,mY] 6)) 6 (.slice (bg+7) 0 1 1)=some (1,[jp,eW,e5,hy,og,mY]):=sE (bm Zo) (mT _) rfl _
  have wP:=Mc.wide
  have oJ:=uf wP.2
  obtain⟨iQ,bF,gR,iK,se,ur,gd⟩:=(uP.ad (T:=bn X bb (bg+7) (zx [jp,eW,e5,hy,og,mY] 6)) (λe H=>by have:=ni e H;rw[aI Zo Zo];exact c4 e Zo Zo)).append (j:=bs) Zd j1 rfl Zd wV (by rw[oJ,wP.1];simp only[ZB,ZU];omega) Zo (λe H=>zt (ni e H))
  refine ki iK ?_
  obtain⟨eM,eZ,ji⟩:=kk.one se
  have ec:∀e,e<bs->e≠bg+7->e∉cK->ab X bF e=ab X bb e:=λe Q U ar=>by rw[gd e Zo ar,aI Zo U]
  have c9:∀e,e<j+1->e∉cK:=λe Q U=>zt (ni e U)
  have yb:ab X bF j=zx [a6] 1:=by rw[ec _ Zo Zo (c9 _ Zo)];exact s6
  refine cL ⟨?_⟩
  refine fF (sF (Y:=0) yb Zo Zo eM eZ) ?_
  refine ci @t0 ⟨?_⟩
  have eU:∀e,e≠j->∀cT,ab X (bn X bF j cT) e=ab X bF e:=λe a cT=>aI Zo a
  have hg:∀cT,aU X (bn X bF j cT) aH bM aX i3:=λcT=>gE.ad (by rw[eU _ Zo,ec _ Zo Zo (c9 _ Zo)]) (by rw[eU _ Zo,ec _ Zo Zo (c9 _ Zo)])
  obtain⟨x,l,aM,uL⟩:∃x l,aX.drop i3=x::l/\(if x.kind=7 then ok (aq++[g]) (aX.drop i3)else o3 m (aq++[g]) (aX.drop i3))=some r:=by
   cases aM:aX.drop i3 with
   |nil=>rw[aM]at gL;cases gL
   |cons x l=>rw[aM]at gL;exact⟨x,l,rfl,gL⟩
  refine fc (λbX=>ab X bX j=zx [iQ] 1/\(∀e,e≠j->ab X bX e=ab X bF e)) ⟨by rw[bm Zo];rfl,λe a=>eU e a _⟩ ?_
  rintro bX ⟨EX,eU⟩
  have abL:aU X bX aH bM aX i3:=gE.ad (by rw[eU _ Zo,ec _ Zo Zo (c9 _ Zo)]) (by rw[eU _ Zo,ec _ Zo Zo (c9 _ Zo)])
  refine(ri aA Zo abL Zo Zo (fI aM).1).Zm ?_
  rintro ae6 cf eK ⟨rfl,eR⟩
  have r8:=eR.le
  have dK:∀e,e≠j->e<bs+1->ab X cf e=ab X bF e:=λe Q U=>by rw[eR.ad e U,eU e Q]
  have fin:∀(cZ:dS) (c:Bool),cZ.g 0=some (.ptr aH 0)->cZ.g 3=some (.ptr j 0)->cZ.g 4=some (.bool c)->(if c then o3 m (aq++[g]) (aX.drop i3)=some r else r= .ok (aq++[g],aX.drop i3))->∃gm,gm<m+1/\∃(a6:F) (aq:List Go.aU.Node) (aR:List (List F)) (cK:List Nat) (cB:Nat) (c:Bool),cZ.g 0=some (.ptr aH 0)/\cZ.g 3=some (.ptr j 0)/\cZ.g 4=some (.bool c)/\ab X cf j=zx [a6] 1/\gI X cf a6 6 aR.flatten cK/\(∀e∈cK,j+1<=e/\e<eK)/\mI X cf (vt (j+1) eK cK) aq aR/\aU X cf aH bM aX cB/\ca X [aH] h j cf eK/\j+1<=eK/\aq.length+gm<=n/\
   (if c then o3 gm aq (aX.drop cB)=some r else r= .ok (aq,aX.drop cB)):=by
   intro cZ c JM dF fL aB
   refine⟨m,Zo,iQ,aq++[g],aR++[[jp,eW,e5,hy,og,mY]],gR,i3,c,JM,dF,fL,by rw[eR.ad _ Zo];exact EX, .inl ?_, ?_, ?_, ?_, ?_,Zo,by simp;omega,aB⟩
   ·rw[zf,Z6,List.flatten_nil,Yz]
    exact se.ad λe H=>dK e (by rcases ur e H with rfl|a;omega;have:=ni e a;omega) (by rcases ur e H with rfl|a;omega;have:=ni e a;omega)
   ·intro e H
    rcases ur e H with rfl|a
    ·omega
    ·have:=ni e a;omega
   ·refine mI.snoc (RK.ad (λe H=> ?_) (λe H=>H)) (Mc.ad (λe H=> ?_) (λe H=>H)) (λe H=> ?_) (λe H=>⟨?_,λoO=>by have:=H.1;have:=oO.2.1;omega⟩)
    ·have Q:=H.1;have U:=H.2
     rw[dK e Zo Zo,ec e Zo Zo (λa=>zt (ni e a))]
    ·have Q:=H.1;have U:=H.2.1
     rw[dK e Zo Zo,ec e Zo Zo H.2.2,c4 e Zo Zo]
    ·have Q:=H.1;have U:=H.2.1
     refine⟨Q,Zo,λa=> ?_⟩
     rcases ur e a with rfl|a
     ·omega
     ·exact H.2.2 a
    ·have Q:=H.1;have U:=H.2
     refine⟨Zo,Zo,λa=> ?_⟩
     rcases ur e a with rfl|a
     ·omega
     ·have:=ni e a;omega
   ·exact abL.ex eR Zo Zo
   ·exact⟨Zo,λb aj bQ=>by rw[dK b Zo Zo,ec b Zo Zo (c9 b Zo)];exact E6.ad b aj bQ⟩
  by_cases aN:x.kind=7
  ·rw[Zq aN]at uL
   simp only[ok,Zf]at uL
   have d:decide (x.kind=7)=true:=by simp[aN]
   refine cV b9.eq_1 @aN ⟨?_⟩
   exact fin _ false (bf t0) (bf t3) (gc) uL.symm
  ·rw[Zg aN]at uL
   have d:decide (x.kind=7)=false:=by simp[aN]
   refine cV b9.eq_1 @aN ⟨?_⟩
   exact fin _ true (bf t0) (bf t3) (by refine x8 ⟨?_⟩;simp[aN]) uL
end
end
end Go.Proofs.YtpfajohmofnkfaaGreatDoor

