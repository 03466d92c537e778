/- A part of the proof of the claim's last text: what it is used for is said there; no condition of its own. -/
import Derived.Test.YtpfajohmofnkfaaGreatDoorYj
set_option maxHeartbeats 8000000
set_option linter.unusedVariables false
set_option linter.unusedSimpArgs false
namespace Go.al
noncomputable section
open Go.RowKit (Below)
def gv(J:dw)(t:U H):Prop:=∀n v,J.g n=some v->t.get n=some v
section
variable{C:aX}{h:U an}{k:Nat}{ak:List (Nat×H)}{J:dw}{t:U H}
theorem nk(a:gv J t){x:jU}{aj:H->Prop}(ax:ja x ak J aj):∃I,kz x ak t=some I/\aj I:=by
 cases x with
 |v aa=>exact rS.1 ax
 |t n=>
  obtain⟨I,M,R⟩:=rS.1 (show am (J n) aj from ax)
  exact⟨I,a n I M,R⟩
 |c I=>exact⟨I,rfl,ax⟩
theorem aiV(a:gv J t):∀{l:List jU}{aj:List H->Prop},J0 ak J l aj->∃cm,yG ak t l=some cm/\aj cm:=by
 intro l
 induction l with
 |nil=>intro aj ax;exact⟨[],rfl,ax⟩
 |cons x l ah=>
  intro aj ax
  obtain⟨I,M,R⟩:=nk a (show ja x ak J (λI=>J0 ak J l λr=>aj (I::r)) from ax)
  obtain⟨r,au,aM⟩:=ah R
  exact⟨I::r,by simp[yG,M,au],aM⟩
theorem g1(a:gv J t){bT:List (Nat×Nat)}{W:Operand}{aj:H->Prop}(ax:ep bT ak J W aj):∃I,iI bT ak t W=some I/\aj I:=by
 cases W with
 |tmp n=>
  simp only[ep]at ax
  simp only[iI]
  cases bK:d8 bT n with
  |some aa=>simp only[bK]at ax ⊢;exact rS.1 ax
  |none=>
   simp only[bK]at ax ⊢
   obtain⟨I,M,R⟩:=rS.1 ax
   exact⟨I,a n I M,R⟩
 |const v=>exact rS.1 ax
 |global g=>exact⟨_,rfl,ax⟩
 |func f=>exact⟨_,rfl,ax⟩
theorem CI(a:gv J t){bT:List (Nat×Nat)}:∀{l:List Operand}{aj:List H->Prop},rR bT ak J l aj->∃cm,oQ (iI bT ak t) l=some cm/\aj cm:=by
 intro l
 induction l with
 |nil=>intro aj ax;exact⟨[],rfl,ax⟩
 |cons x l ah=>
  intro aj ax
  obtain⟨I,M,R⟩:=g1 a (show ep bT ak J x (λI=>rR bT ak J l λr=>aj (I::r)) from ax)
  obtain⟨r,au,aM⟩:=ah R
  exact⟨I::r,by simp[oQ,M,au],aM⟩
theorem Q9(a:gv J t){bT:List (Nat×Nat)}:∀{l:List (Nat×Operand)}{aj:List (Nat×H)->Prop},AK bT ak J l aj->∃cm,w0 (iI bT ak t) l=some cm/\aj cm:=by
 intro l
 induction l with
 |nil=>intro aj ax;exact⟨[],rfl,ax⟩
 |cons x l ah=>
  intro aj ax
  obtain⟨i,W⟩:=x
  obtain⟨I,M,R⟩:=g1 a (show ep bT ak J W (λI=>AK bT ak J l λr=>aj ((i,I)::r)) from ax)
  obtain⟨r,au,aM⟩:=ah R
  exact⟨(i,I)::r,by simp[w0,M,au],aM⟩
theorem Q5(a:gv J t){bT:List (Nat×Nat)}{W:Option Operand}{aj:Option H->Prop}(ax:L2 bT ak J W aj):∃I,AH (iI bT ak t) W=some I/\aj I:=by
 cases W with
 |none=>exact⟨none,rfl,ax⟩
 |some x=>
  obtain⟨I,M,R⟩:=g1 a (show ep bT ak J x (λI=>aj (some I)) from ax)
  exact⟨some I,by simp[AH,M],R⟩
theorem aoV(a:gv J t){bT:List (Nat×Nat)}{W:Op}{aj:H->Prop}(ax:aav bT W C h ak J aj):∃v,nf W C h (iI bT ak t)=some v/\aj v:=by
 cases W with
 |build ty jF=>
  obtain⟨c8,M,R⟩:=Q9 a (show AK bT ak J jF.toList _ from ax)
  obtain⟨v,au,aM⟩:=(km.1 R)
  exact⟨v,by simp[nf,Qr,M,au],aM⟩
 |binOp op ty x j FB=>
  obtain⟨I,M,R⟩:=g1 a (show ep bT ak J x _ from ax)
  obtain⟨b,au,aM⟩:=g1 a R
  obtain⟨v,bA,cr⟩:=(km.1 aM)
  exact⟨v,by simp[nf,Lx,M,au,bA],cr⟩
 |unOp op ty x=>
  obtain⟨I,M,R⟩:=g1 a (show ep bT ak J x _ from ax)
  obtain⟨v,au,aM⟩:=(km.1 R)
  exact⟨v,by simp[nf,Qy,M,au],aM⟩
 |convert s d x=>
  obtain⟨I,M,R⟩:=g1 a (show ep bT ak J x _ from ax)
  obtain⟨v,au,aM⟩:=(km.1 R)
  exact⟨v,by simpa[nf,H0,U1,ip,M]using au,aM⟩
 |makeInterface ty x=>
  obtain⟨I,M,R⟩:=g1 a (show ep bT ak J x _ from ax)
  obtain⟨v,au,aM⟩:=(km.1 R)
  exact⟨v,by simpa[nf,H2,π,ip,M]using au,aM⟩
 |makeFunc fn first fl=>
  cases fn with
  |func f=>
   obtain⟨I,M,R⟩:=CI a (show rR bT ak J first.toList _ from ax)
   obtain⟨b,au,aM⟩:=CI a R
   exact⟨_,by simp[nf,Qu,M,au],aM⟩
  |_=>exact ax.elim
 |slice ty x bP aN gM=>
  obtain⟨I,M,R⟩:=g1 a (show ep bT ak J x _ from ax)
  obtain⟨l,au,aM⟩:=Q5 a R
  obtain⟨b,bA,cr⟩:=Q5 a aM
  obtain⟨m,dM,fC⟩:=Q5 a cr
  obtain⟨v,lj,tL⟩:=(km.1 fC)
  exact⟨v,by simp[nf,Qx,M,au,bA,dM,lj],tL⟩
 |field ty x f=>
  obtain⟨I,M,R⟩:=g1 a (show ep bT ak J x _ from ax)
  obtain⟨v,au,aM⟩:=(km.1 R)
  exact⟨v,by simpa[nf,H1,Vy,ip,M]using au,aM⟩
 |index ty x i=>
  obtain⟨I,M,R⟩:=g1 a (show ep bT ak J x _ from ax)
  obtain⟨b,au,aM⟩:=g1 a R
  obtain⟨v,bA,cr⟩:=(km.1 aM)
  exact⟨v,by simp[nf,Qv,M,au,bA],cr⟩
 |lookup ty m B ok=>
  obtain⟨I,M,R⟩:=g1 a (show ep bT ak J m _ from ax)
  obtain⟨b,au,aM⟩:=g1 a R
  obtain⟨v,bA,cr⟩:=(km.1 aM)
  exact⟨v,by simp[nf,Qw,M,au,bA],cr⟩
 |typeAssert x ty tp ok=>
  obtain⟨I,M,R⟩:=g1 a (show ep bT ak J x _ from ax)
  obtain⟨v,au,aM⟩:=(km.1 R)
  exact⟨v,by simpa[nf,HZ,Uy,ip,M]using au,aM⟩
 |entry dY=>
  obtain⟨I,M,R⟩:=g1 a (show ep bT ak J dY _ from ax)
  obtain⟨v,au,aM⟩:=(km.1 R)
  exact⟨v,by simpa[nf,EG,Gt,ip,M]using au,aM⟩
 |call c=>
  obtain⟨callee,args,cM⟩:=c
  cases callee with
  |builtin b=>
   obtain⟨br,M,R⟩:=CI a (show rR bT ak J args.toList _ from ax)
   obtain⟨v,au,aM⟩:=(km.1 R)
   refine⟨v, ?_,aM⟩
   have E:nf (.call ⟨.builtin b,args,cM⟩) C h (iI bT ak t)=q9 C h b cM.toList br:=by
    simp only[nf,Qt,Qs,M,q9]
    repeat' split
    all_goals first|rfl|simp_all
   rw[E];exact au
  |_=>exact ax.elim
 |_=>exact ax.elim
theorem LA(a:gv J t){op:jl}{aj:H->Prop}(ax:EM op C h ak J aj):∃v,gp op C h ak t=some v/\aj v:=by
 cases op with
 |Cr x=>exact nk a ax
 |pick c I b=>
  obtain⟨U2,M,R⟩:=nk a (show ja c ak J _ from ax)
  obtain⟨My,rfl,au,aM⟩:=UL R.out
  cases My with
  |true=>
   obtain⟨v,bA,cr⟩:=nk a (au rfl)
   exact⟨v,by simp[gp,M,MM,bA],cr⟩
  |false=>
   obtain⟨v,bA,cr⟩:=nk a (aM rfl)
   exact⟨v,by simp[gp,M,MM,bA],cr⟩
 |fy I=>
  obtain⟨f2,M,R⟩:=nk a (show ja I ak J _ from ax)
  obtain⟨v,au,aM⟩:=(km.1 R)
  exact⟨v,by simp[gp,M,au],aM⟩
 |As n I=>
  obtain⟨f2,M,R⟩:=nk a (show ja I ak J _ from ax)
  obtain⟨v,au,aM⟩:=(km.1 R)
  exact⟨v,by simp[gp,M,au],aM⟩
 |off d x=>
  obtain⟨f2,M,R⟩:=nk a (show ja x ak J _ from ax)
  obtain⟨v,au,aM⟩:=(km.1 R)
  exact⟨v,by simp[gp,M,au],aM⟩
 |Aj n bd x i=>
  obtain⟨f2,M,R⟩:=nk a (show ja x ak J _ from ax)
  obtain⟨cy,au,aM⟩:=nk a R
  obtain⟨v,bA,cr⟩:=(km.1 aM)
  exact⟨v,by simp only[gp,M,au];unfold Ey at bA;cases aN:m4 cy<;>simp_all,cr⟩
 |Ak bd x i=>
  obtain⟨f2,M,R⟩:=nk a (show ja x ak J _ from ax)
  obtain⟨cy,au,aM⟩:=nk a R
  obtain⟨v,bA,cr⟩:=(km.1 aM)
  exact⟨v,by simp only[gp,M,au];unfold fp at bA;cases aN:m4 cy<;>simp_all,cr⟩
 |Cy x=>
  obtain⟨f2,M,R⟩:=nk a (show ja x ak J _ from ax)
  obtain⟨v,au,aM⟩:=(km.1 R)
  exact⟨v,by simp[gp,M,au],aM⟩
 |HN op x j=>
  obtain⟨f2,M,R⟩:=nk a (show ja x ak J _ from ax)
  obtain⟨cy,au,aM⟩:=nk a R
  obtain⟨v,bA,cr⟩:=(km.1 aM)
  exact⟨v,by simp[gp,M,au,bA],cr⟩
 |ext i x=>
  obtain⟨f2,M,R⟩:=nk a (show ja x ak J _ from ax)
  obtain⟨v,au,aM⟩:=(km.1 R)
  exact⟨v,by simp[gp,M,au],aM⟩
 |hQ bT W=>exact aoV a ax
 |_=>exact ax.elim
theorem aph(a:gv J t){op:jl}{b:Nat}{aj:bY}(ax:aaI op C h b ak J aj):∃v cJ,nl op C b ak t=some (v,cJ)/\aj v (bm C h b (some cJ)) (b+1):=by
 cases op with
 |make bT W=>
  cases W with
  |alloc ty=>
   obtain⟨⟨v,cJ⟩,M,R⟩:=km.1 (show D (Co C ty (ip undef) b) _ from ax)
   exact⟨v,cJ,M,R.out⟩
  |box ty x=>
   obtain⟨I,M,R⟩:=g1 a (show ep bT ak J x _ from ax)
   exact⟨_,_,by simp only[nl,pm,H9,M],R.out⟩
  |buildSlice ty len jF=>
   obtain⟨c8,M,R⟩:=Q9 a (show AK bT ak J jF.toList _ from ax)
   obtain⟨⟨v,cJ⟩,au,aM⟩:=(km.1 R)
   refine⟨v,cJ, ?_,aM.out⟩
   simp only[nl,pm,Ia,M]
   unfold Mr at au
   split at au
   ·rename_i aZ
    simp only[aZ]
    exact au
   ·cases au
  |makeMap ty r=>
   cases r with
   |none=>exact⟨_,_,rfl,(show cU C h b _ _ aj from ax).out⟩
   |some r=>exact ax.elim
  |_=>exact ax.elim
 |_=>exact ax.elim
theorem apf(a:gv J t){op:jl}{b:Nat}{aj:H->U an->Prop}(ax:QO op C h b ak J aj):∃v cJ,nl op C b ak t=some (v,cJ)/\aj v (bm C h b (some cJ)):=by
 cases op with
 |make bT W=>
  cases W with
  |alloc ty=>
   obtain⟨⟨v,cJ⟩,M,R⟩:=km.1 (show D (Co C ty (ip undef) b) _ from ax)
   exact⟨v,cJ,M,R.out⟩
  |box ty x=>
   obtain⟨I,M,R⟩:=g1 a (show ep bT ak J x _ from ax)
   exact⟨_,_,by simp only[nl,pm,H9,M],R.out⟩
  |buildSlice ty len jF=>
   obtain⟨c8,M,R⟩:=Q9 a (show AK bT ak J jF.toList _ from ax)
   obtain⟨⟨v,cJ⟩,au,aM⟩:=(km.1 R)
   refine⟨v,cJ, ?_,aM.out⟩
   simp only[nl,pm,Ia,M]
   unfold Mr at au
   split at au
   ·rename_i aZ
    simp only[aZ]
    exact au
   ·cases au
  |makeMap ty r=>
   cases r with
   |none=>exact⟨_,_,rfl,(show kG C h b _ _ aj from ax).out⟩
   |some r=>exact ax.elim
  |_=>exact ax.elim
 |_=>exact ax.elim
theorem UR{rd:Bool}{f:Nat}{cm:List H}{aj aw:bY}(a:a6 C f cm h k aj aw):∃r,q6 C f cm=some r/\Bf C rd (some r) h k aj aw:=by
 rcases a.out with ⟨ad,M,R⟩|⟨M,⟨fn,c,R,au⟩,aM⟩
 ·exact⟨.known f cm ad,by simp[q6,M],R⟩
 ·exact⟨.enter f cm,by simp[q6,M,R,au],aM⟩
theorem xZ{rd:Bool}{W:Option dz}{aj aw:bY}(a:gn W h k aj):∃r,W=some r/\Bf C rd (some r) h k aj aw:=by
 rw[arn]at a
 split at a
 ·exact⟨_,rfl,a⟩
 ·exact⟨_,rfl,a⟩
 ·exact a.elim
theorem ajq{rd:Bool}{W:Option dz}{aj aw:bY}(a:yL W h k aj):∃r,W=some r/\Bf C rd (some r) h k aj aw:=by
 rw[ajr]at a
 split at a
 ·exact⟨_,rfl,a⟩
 ·exact⟨_,rfl,a⟩
 ·exact⟨_,rfl,a⟩
 ·exact a.elim
theorem WU(a:gv J t){rd:Bool}{op:jl}{aj aw:bY}(ax:Pe rd op C h k ak J aj aw):∃r,hs op C h k ak t=some r/\Bf C rd (some r) h k aj aw:=by
 cases op with
 |st n I v=>
  obtain⟨f2,M,R⟩:=nk a (show ja I ak J _ from ax)
  obtain⟨gO,au,aM⟩:=nk a R
  obtain⟨V,bA,cr⟩:=(km.1 aM)
  refine⟨.eW undef V k, ?_,cr⟩
  simp only[hs,M,au]
  unfold ce at bA
  split at bA
  ·simp only[d9]at bA
   simp[Mt,bA.2,fB,bA.1]
  ·cases bA
 |call f args=>
  obtain⟨cm,M,R⟩:=aiV a (show J0 ak J args _ from ax)
  obtain⟨r,au,aM⟩:=UR (rd:=rd) R
  exact⟨r,by simp[hs,M,au],aM⟩
 |e1 bT W=>
  cases W with
  |mapUpdate ty m B x=>
   obtain⟨I,M,R⟩:=g1 a (show ep bT ak J m _ from ax)
   obtain⟨b,au,aM⟩:=g1 a R
   obtain⟨c,bA,cr⟩:=g1 a aM
   obtain⟨r,dM,fC⟩:=xZ (C:=C) (aw:=aw) (rd:=rd) cr
   exact⟨r,by simp[hs,mO,DU,M,au,bA,dM],fC⟩
  |insert ty m B x=>
   obtain⟨I,M,R⟩:=g1 a (show ep bT ak J m _ from ax)
   obtain⟨b,au,aM⟩:=g1 a R
   obtain⟨c,bA,cr⟩:=g1 a aM
   obtain⟨r,dM,fC⟩:=xZ (C:=C) (aw:=aw) (rd:=rd) cr
   exact⟨r,by simp[hs,mO,DU,M,au,bA,dM],fC⟩
  |mapEntry ty m B=>
   obtain⟨I,M,R⟩:=g1 a (show ep bT ak J m _ from ax)
   obtain⟨b,au,aM⟩:=g1 a R
   obtain⟨r,dM,fC⟩:=xZ (C:=C) (aw:=aw) (rd:=rd) aM
   exact⟨r,by simpa[hs,mO,GW,two,Go.al.j7,Go.al.he,M,au]using dM,fC⟩
  |entryStore ty m s x=>
   obtain⟨I,M,R⟩:=g1 a (show ep bT ak J m _ from ax)
   obtain⟨b,au,aM⟩:=g1 a R
   obtain⟨c,bA,cr⟩:=g1 a aM
   obtain⟨r,dM,fC⟩:=xZ (C:=C) (aw:=aw) (rd:=rd) cr
   exact⟨r,by simpa[hs,mO,GO,aci,Go.al.j7,Go.al.he,Go.al.md,M,au,bA]using dM,fC⟩
  |makeSlice ty l c=>
   obtain⟨I,M,R⟩:=g1 a (show ep bT ak J l _ from ax)
   obtain⟨b,au,aM⟩:=g1 a R
   obtain⟨r,dM,fC⟩:=xZ (C:=C) (aw:=aw) (rd:=rd) aM
   exact⟨r,by simpa[hs,mO,GV,two,Go.al.j7,Go.al.he,M,au]using dM,fC⟩
  |makeMap ty i1=>
   cases i1 with
   |none=>exact ax.elim
   |some x=>
    obtain⟨I,M,R⟩:=g1 a (show ep bT ak J x _ from ax)
    obtain⟨r,dM,fC⟩:=xZ (C:=C) (aw:=aw) (rd:=rd) R
    exact⟨r,by simpa[hs,mO,GU,ip,M]using dM,fC⟩
  |convert s d x=>
   obtain⟨I,M,R⟩:=g1 a (show ep bT ak J x _ from ax)
   obtain⟨r,dM,fC⟩:=xZ (C:=C) (aw:=aw) (rd:=rd) R
   exact⟨r,by simpa[hs,mO,GZ,ip,M]using dM,fC⟩
  |range ty x=>
   obtain⟨I,M,R⟩:=g1 a (show ep bT ak J x _ from ax)
   obtain⟨r,dM,fC⟩:=xZ (C:=C) (aw:=aw) (rd:=rd) R
   exact⟨r,by simpa[hs,mO,GX,ip,M]using dM,fC⟩
  |next dY xI=>
   obtain⟨I,M,R⟩:=g1 a (show ep bT ak J dY _ from ax)
   obtain⟨r,dM,fC⟩:=ajq (C:=C) (aw:=aw) (rd:=rd) R
   exact⟨r,by simpa[hs,mO,oR,ip,M]using dM,fC⟩
  |panic x=>
   cases rd with
   |true=>exact(show False from ax).elim
   |false=>
    obtain⟨I,M,R⟩:=g1 a (show ep bT ak J x _ from ax)
    rw[aqu]at R
    split at R
    ·rename_i jk atv
     exact⟨.panic (.iface jk atv),by simp[hs,mO,OV,M],R⟩
    ·exact R.elim
  |call c=>
   obtain⟨callee,args,cM⟩:=c
   cases callee with
   |value f=>
    obtain⟨lV,M,R⟩:=g1 a (show ep bT ak J f _ from ax)
    obtain⟨cm,au,aM⟩:=CI a R
    have aM:=aM.out
    split at aM
    ·split at aM
     ·obtain⟨r,bA,cr⟩:=UR (rd:=rd) aM
      exact⟨r,by simp[hs,mO,BF,M,au,yr];simpa using bA,cr⟩
     ·exact⟨.round _ _,by simp only[hs,mO,BF,M,au,yr],aM⟩
     ·exact aM.elim
    ·exact aM.elim
   |builtin b=>
    obtain⟨br,M,R⟩:=CI a (show rR bT ak J args.toList _ from ax)
    obtain⟨r,dM,fC⟩:=xZ (C:=C) (aw:=aw) (rd:=rd) R
    refine⟨r, ?_,fC⟩
    have E:∀r,DW C h k b cM.toList br=some r->hs (.e1 bT (.call ⟨.builtin b,args,cM⟩)) C h k ak t=some r:=by
     intro r S
     simp only[hs,mO,BF,GK,M]
     unfold DW at S
     split at S
     all_goals first|exact S|cases S
    exact E r dM
   |invoke x name=>
    obtain⟨ko,M,R⟩:=g1 a (show ep bT ak J x _ from ax)
    obtain⟨cm,au,aM⟩:=CI a R
    rw[apr]at aM
    split at aM
    ·cases bi:Dj C h _ _ name cm with
     |none=>rw[bi]at aM;exact aM.elim
     |some r=>rw[bi]at aM;exact⟨r,by simp[hs,mO,BF,M,au,bi],aM⟩
    ·exact aM.elim
  |_=>exact ax.elim
 |_=>exact ax.elim
theorem akg{k2:Bool}{v:H}{I b:Prop}(a:az k2 v I b):∃w,(match v with| .bool b=>some (b==k2)|_=>some false)=some w/\(w=true->I)/\(w=false->b):=by
 have a:=a.out
 cases v with
 |bool t=>
  obtain⟨M,R⟩:=a
  refine⟨t==k2,rfl,λE=>M (by simpa using E),λE=>R ?_⟩
  cases t<;>cases k2<;>simp_all
 |_=>exact⟨false,rfl,Zs,λ_=>a⟩
theorem MG{g:Option (Nat×Bool)}{I b:Prop}(a:MF g ak I b):∃w,nL g ak=some w/\(w=true->I)/\(w=false->b):=by
 cases g with
 |none=>exact⟨true,rfl,λ_=>a,Zs⟩
 |some p=>
  obtain⟨aa,k2⟩:=p
  obtain⟨v,M,R⟩:=rS.1 (show am (d8 ak aa) _ from a)
  obtain⟨w,au,aM⟩:=akg R
  exact⟨w,by simp only[nL,M];exact au,aM⟩
theorem abY(a:gv J t)(d:Nat)(v:H):gv (ac J d v) (t.set d (some v)):=by
 intro n ad aZ
 have aZ:=(show bC (Nat.beq d n) (some v) (J.g n)=some ad from aZ)
 rw[gX]at aZ
 rw[U.kf]
 split at aZ
 ·rename_i E;rw[Zr E];exact aZ
 ·rename_i E;rw[Zg E];exact a n ad aZ
theorem VB:∀{l:List (Nat×Nat)}{J:dw}{t:U H}{aj:dw->Prop},gv J t->Gy l ak J aj->∃cT gV,w2 ak l t=some gV/\gv cT gV/\(cT.a8=J.a8/\cT.rc=J.rc)/\aj cT:=by
 intro l
 induction l with
 |nil=>intro J t aj a ax;exact⟨J,t,rfl,a,⟨rfl,rfl⟩,ax⟩
 |cons p l ah=>
  intro J t aj a ax
  obtain⟨i,d⟩:=p
  obtain⟨v,M,R⟩:=rS.1 (show am (d8 ak i) (λv=>Gy l ak (ac J d v) aj) from ax)
  obtain⟨cT,gV,au,aM,bA⟩:=ah (abY a d v) R
  exact⟨cT,gV,by simp[w2,M,au],aM,bA⟩
theorem asn{op:jl}{bT:List (Nat×Nat)}{f:Operand}{args:List Operand}(a:CU op= .defer bT f args):∃c:Array Operand×Array TypeId,args=c.1.toList/\op= .e1 bT (.defer ⟨.value f,c.1,c.2⟩):=by
 unfold CU at a
 split at a
 ·split at a
  ·split at a
   ·injection a with M R au
    subst M R au
    exact⟨(_,_),rfl,rfl⟩
   ·cases a
  ·split at a
   ·split at a<;>cases a
   ·cases a
  ·cases a
 ·cases a
theorem aso{op:jl}(a:CU op= .recover):∃bT cM args,op= .e1 bT (.call ⟨.builtin .recover,args,cM⟩)/\args.toList=[]:=by
 unfold CU at a
 split at a
 ·split at a
  ·split at a<;>cases a
  ·split at a
   ·split at a
    ·rename_i aG
     exact⟨_,_,_,rfl,aG⟩
    ·cases a
   ·cases a
  ·cases a
 ·cases a
theorem arr(a:gv J t):∀{l:List ResultVar}{aj:List H->Prop},p6 C h J l aj->∃br,wp C h t l=some br/\aj br:=by
 intro l
 induction l with
 |nil=>intro aj ax;exact⟨[],rfl,ax⟩
 |cons x l ah=>
  intro aj ax
  cases x with
  |tmp n=>
   obtain⟨v,M,R⟩:=rS.1 (show am (J n) (λv=>p6 C h J l λr=>aj (v::r)) from ax)
   obtain⟨r,au,aM⟩:=ah R
   exact⟨v::r,by simp[wp,a n v M,au],aM⟩
  |cell I ty=>
   obtain⟨p,M,R⟩:=rS.1 (show am (J I) (λp=>D (oH C h ty p) λv=>p6 C h J l λr=>aj (v::r)) from ax)
   obtain⟨v,au,aM⟩:=(km.1 R)
   obtain⟨r,bA,cr⟩:=ah aM
   exact⟨v::r,by simp[wp,a I p M,au,bA],cr⟩
theorem aoX(a:gv J t){base:Nat}:∀{l:List e4}{ak:List (Nat×H)}{h:U an}{aj:List (Nat×H)->U an->Prop},LC C base J l ak h aj->∃gI V,vt C base t l ak h=some (gI,V)/\aj gI V:=by
 intro l
 induction l with
 |nil=>intro ak h aj ax;exact⟨ak,h,rfl,ax⟩
 |cons x l ah=>
  intro ak h aj ax
  obtain⟨w,M,R,au⟩:=MG ((atA ..).mp (show qU x.g ak (λaa=>match l6 x.op with
   | .make=>QO x.op C h (base+x.i) ak J aa
   |_=>EM x.op C h ak J λv=>aa v h) (λv h=>LC C base J l ((x.i,v)::ak) h aj) h from ax))
  simp only[vt,M]
  cases w with
  |false=>exact ah (au rfl)
  |true=>
   have aM:=R rfl
   cases aP:l6 x.op with
   |make=>
    simp only[aP]at aM
    obtain⟨v,cJ,bA,cr⟩:=apf a aM
    simp only[bA,gK]
    exact ah cr
   |hQ=>
    simp only[aP]at aM
    obtain⟨v,bA,cr⟩:=LA a aM
    simp only[bA]
    exact ah cr
   |e1=>
    simp only[aP]at aM
    obtain⟨v,bA,cr⟩:=LA a aM
    simp only[bA]
    exact ah cr
theorem arf(a:gv J t):∀{l:List e4}{aj:Prop},Rh C J ak h l aj->Br C t ak h l=true/\aj:=by
 intro l
 induction l with
 |nil=>intro aj ax;exact⟨rfl,ax⟩
 |cons x l ah=>
  intro aj ax
  obtain⟨w,M,R,au⟩:=MG ((atB ..).mp (show Sb x.g ak (λar=>EM x.op C h ak J λv=>h8 v (d8 ak x.i) ar) (Rh C J ak h l aj) from ax))
  simp only[Br,M]
  cases w with
  |false=>exact ah (au rfl)
  |true=>
   obtain⟨v,bA,cr⟩:=LA a (R rfl)
   obtain⟨ad,dM,fC,lj⟩:=rS.1 cr.out
   obtain⟨tL,xb⟩:=ah lj
   exact⟨by simp[bA,dM,fC,tL],xb⟩
end
section
variable{C:aX}{dB:cY}{dU:Nat->Prop}{bk:World}{bt:Nat}{bJ:List Frame}{v:H}
variable{fn n ap:Nat}{bG:ti}{aB:Bool}{ro:Option Nat}{cs cZ:List gi}
theorem kg(cF:Env C bk dB dU){bG:ks}{todo:List dy}{bS:h1}{J:U H}{h:U an}{k:Nat}(a:RI (fu C bk bt bJ v) C bG todo bS J h k=some v):na C bk bt bJ bG todo bS J h k v:=
 λK Z w cK tmps bs aC cV=>ab6 cF Up _ _ _ _ _ _ _ _ _ _ _ _ v a K Z w cK tmps bs aC cV
def e6(bG:ti)(fn n ap:Nat)(aB:Bool)(ro:Option Nat)(cs cZ:List gi)(J:dw):h1:=⟨fn,n,ap,bC bG.a8 J.a8 [],aB,ro,bC J.rc cZ cs⟩
structure ym(bG:ti)(aB:Bool)(ro:Option Nat)(cs cZ:List gi):Prop where
 rd:bG.rd=false->ro=none
 a8:bG.a8=true->ro=none
 none:bG.j8=some none->cZ=cs/\A0 aB cs=some (.nilIface,cs)
 some:∀ad,bG.j8=some (some ad)->A0 aB cs=some (ad,cZ)/\A0 aB cZ=some (.nilIface,cZ)
theorem arG{ah:g4}{C:aX}{l:Nat}{args:List H}{dY:dy}{B:List dy}{bS:h1}{J:U H}{h:U an}{k:Nat}:ng (.round l args) ah C dY B bS J h k=Mh ah C l args (CW dY B bS J) h k:=rfl
theorem Vg{J:dw}{t:U H}(a:gv J t)(l:List Nat):gv (hG l J) (vv l t):=by
 intro n v bu
 rw[JN]
 by_cases aS:n∈l
 ·simp[hG,fB,wd,aS]at bu
 ·simp[hG,fB,wd,aS]at bu
  rw[Zg aS];exact a n v bu
theorem Nv{I b:Nat}(a:I<=b):Nat.ble I b=true:=by simpa using a
theorem Um(aH:H.same 30 v v=true)(bi:ym bG aB ro cs cZ){dY:dy}{B:List dy}{nb:dw}{J:U H}{h:U an}{k:Nat}{aj aw:bY}(cF:Env C bk dB dU)
 (ix:∀ad h k,aj ad h k->∃hc,nV dY ad=some hc/\na C bk bt bJ .run (hc::B) (e6 bG fn n ap aB ro cs cZ nb) J h k v)
 (cn:∀ad h k todo,aw ad h k->na C bk bt bJ (.panicking [⟨ad,false⟩]) todo (e6 bG fn n ap aB ro cs cZ nb) (tx (dY::B) J) h k v){r:dz}(a:Bf C bG.rd (some r) h k aj aw):
 ng r (fu C bk bt bJ v) C dY B (e6 bG fn n ap aB ro cs cZ nb) J h k=some v:=by
 have fill:∀ad h k,aj ad h k->(match nV dY ad with|some hc=>fu C bk bt bJ v .run (hc::B) (e6 bG fn n ap aB ro cs cZ nb) J h k|none=>none)=some v:=by
  intro ad h k aP
  obtain⟨hc,M,R⟩:=ix ad h k aP
  rw[M]
  exact hU R
 cases r with
 |val ad=>exact fill ad h k a
 |eW ad V av=>exact fill ad V av a
 |enter f args=>
  refine a bk dB dU cF bt bJ v aH (CW dY B (e6 bG fn n ap aB ro cs cZ nb) J) (λad V av ar=> ?_) (λad V av ar=> ?_)
  ·exact fill ad V av ar
  ·exact hU (cn ad V av _ ar)
 |round l args=>
  rw[arG]
  refine a bk dB dU cF bt bJ v aH (CW dY B (e6 bG fn n ap aB ro cs cZ nb) J) (λad V av ar=> ?_) (λad V av ar=> ?_)
  ·exact fill ad V av ar
  ·exact hU (cn ad V av _ ar)
 |known f args ad=>exact fill ad h k a
 |panic ad=>
  have a:=(show bC bG.rd False (aw ad h k) from a)
  cases S:bG.rd with
  |true=>rw[S]at a;exact a.elim
  |false=>
   rw[S]at a
   have kC:=bi.rd S
   subst kC
   exact hU (cn ad h k _ a)
 |fork l=>exact ajp aH l a.1 λad V bi=>ix ad V k (a.2 ad V bi)
 |_=>exact a.elim
theorem ah9{aq:Array Oper}{ak:List (Nat×H)}{i:Nat}{rest:List e4}{fin:List (Nat×Nat)}{B:List dy}{J:U H}:tx (.r5 aq ak i rest fin::B) J=vv (dstsOf aq.toList) J:=rfl
theorem ah8{aq:Array Oper}{ak:List (Nat×H)}{b i:Nat}{rest:List vl}{fin:List (Nat×Nat)}{B:List dy}{J:U H}:tx (.yb aq b ak i rest fin::B) J=vv (dstsOf aq.toList) J:=rfl
theorem arW(cF:Env C bk dB dU)(aH:H.same 30 v v=true)(bi:ym bG aB ro cs cZ){aq:Array Oper}{fin:List (Nat×Nat)}{B:List dy}{t:U H}{aj:ga}{aw:sd}
 (ix:∀J t h k,gv J t->aj J h k->na C bk bt bJ .run B (e6 bG fn n ap aB ro cs cZ J) t h k v)
 (cn:∀J t ad h k todo,gv J t->aw J ad h k->na C bk bt bJ (.panicking [⟨ad,false⟩]) todo (e6 bG fn n ap aB ro cs cZ J) t h k v):
 ∀(rest:List e4) (ak:List (Nat×H)) (J:dw) (h:U an) (k:Nat),gv J t->AS C bG fin aj (λJ=>aw (hG (dstsOf aq.toList) J)) rest ak J h k->x3 rest ⟨fu C bk bt bJ v,aq,fin,B,e6 bG fn n ap aB ro cs cZ J⟩ C t ak h k=some v:=by
 intro rest
 induction rest with
 |nil=>
  intro ak J h k aT a
  obtain⟨cT,gV,M,R,au,aM⟩:=VB aT (show Gy fin ak J (λJ=>aj J h k) from a)
  show Gs ⟨fu C bk bt bJ v,aq,fin,B,e6 bG fn n ap aB ro cs cZ J⟩ C t ak h k=some v
  simp only[Gs,J2,M,nD]
  have E:e6 bG fn n ap aB ro cs cZ J=e6 bG fn n ap aB ro cs cZ cT:=by unfold e6;rw[au.1,au.2]
  rw[E]
  exact hU (ix _ _ _ _ R aM)
 |cons x rest ah=>
  intro ak J h k aT a
  obtain⟨i,g,op⟩:=x
  show CH i g op rest (x3 rest) ⟨fu C bk bt bJ v,aq,fin,B,e6 bG fn n ap aB ro cs cZ J⟩ C t ak h k=some v
  have a:=(show(match CU op with
   | .no=>MH g ak (λaj=>Q7 bG.rd op C h k ak J aj (aw (hG (dstsOf aq.toList) J))) (λv h k=>AS C bG fin aj (λJ=>aw (hG (dstsOf aq.toList) J)) rest ((i,v)::ak) J h k) h k
   | .defer bT f args=>bC (g.isNone&&bG.a8) (ep bT ak J f λlV=>rR bT ak J args λcm=>JF lV cm J λJ=>AS C bG fin aj (λJ=>aw (hG (dstsOf aq.toList) J)) rest ((i,undef)::ak) J h k) False
   | .recover=>bC (g.isNone&& !bG.rd) (IA bG.j8 J λv J=>AS C bG fin aj (λJ=>aw (hG (dstsOf aq.toList) J)) rest ((i,v)::ak) J h k) False) from a)
  cases Ad:CU op with
  |no=>
   rw[Ad]at a
   obtain⟨w,M,R,au⟩:=MG ((acF ..).mp a)
   simp only[CH,ME,M,nD]
   cases w with
   |false=>simp only[Zt,Zx];exact ah _ _ _ _ aT (au rfl)
   |true=>
    simp only[ZB]
    have aM:=R rfl
    rw[L3]
    unfold Q7 at aM
    cases aP:l6 op with
    |hQ=>
     simp only[aP]at aM ⊢
     obtain⟨ad,bA,cr⟩:=LA aT aM
     rw[bA]
     exact ah _ _ _ _ aT cr
    |make=>
     simp only[aP]at aM ⊢
     obtain⟨ad,cJ,bA,cr⟩:=aph aT aM
     simp only[LH,li,bA,gK,nD]
     exact ah _ _ _ _ aT cr
    |e1=>
     simp only[aP]at aM ⊢
     obtain⟨r,bA,cr⟩:=WU aT aM
     rw[bA]
     have pq:ng r (fu C bk bt bJ v) C (.r5 aq ak i rest fin) B (e6 bG fn n ap aB ro cs cZ J) t h k=some v:=by
      refine Um aH bi cF (λad h k ar=>⟨_,rfl, ?_⟩) (λad h k todo ar=> ?_) cr
      ·exact kg cF (ah _ _ _ _ aT ar)
      ·rw[ah9];exact cn (hG (dstsOf aq.toList) J) _ _ _ _ _ (Vg aT _) ar
     cases r with
     |val ad=>exact ah _ _ _ _ aT cr
     |eW ad V av=>exact ah _ _ _ _ aT cr
     |_=>exact pq
  |defer bT f args=>
   rw[Ad]at a
   obtain⟨c,rfl,rfl⟩:=asn Ad
   have a:=(show bC (g.isNone&&bG.a8) _ False from a)
   cases g with
   |some g=>exact a.elim
   |none=>
    cases oU:bG.a8 with
    |false=>rw[oU]at a;exact a.elim
    |true=>
     rw[oU]at a
     obtain⟨lV,M,R⟩:=g1 aT (show ep bT ak J f _ from a)
     obtain⟨cm,au,aM⟩:=CI aT R
     have kC:=bi.a8 oU
     subst kC
     cases lV with
     |func g first fl=>
      simp only[CH,ME,nL,nD,ZB]
      rw[L3]
      have aP:l6 (.e1 bT (.defer ⟨.value f,c.1,c.2⟩))= .e1:=rfl
      have ag:hs (.e1 bT (.defer ⟨.value f,c.1,c.2⟩)) C h k ak t=some (.defer ⟨.fn g fl,first++cm⟩):=by
       simp only[hs,mO,OJ,M,au]
      simp only[aP,ag]
      have fV:e6 bG fn n ap aB none cs cZ J=⟨fn,n,ap,J.a8,aB,none,bC J.rc cZ cs⟩:=by unfold e6;rw[oU];rfl
      show ng (.defer ⟨.fn g fl,first++cm⟩) (fu C bk bt bJ v) C (.r5 aq ak i rest fin) B (e6 bG fn n ap aB none cs cZ J) t h k=some v
      rw[fV]
      show fu C bk bt bJ v .run (.Fl aq ((i,undef)::ak) rest fin::B) ⟨fn,n,ap,⟨.fn g fl,first++cm⟩::J.a8,aB,none,bC J.rc cZ cs⟩ t h k=some v
      have dl:(⟨fn,n,ap,⟨.fn g fl,first++cm⟩::J.a8,aB,none,bC J.rc cZ cs⟩:h1)=e6 bG fn n ap aB none cs cZ (AN J ⟨.fn g fl,first++cm⟩):=by unfold e6;rw[oU];rfl
      rw[dl]
      exact hU (kg cF (ah _ (AN J ⟨.fn g fl,first++cm⟩) _ _ aT aM))
     |_=>exact aM.elim
  |recover=>
   rw[Ad]at a
   obtain⟨bT,cM,args,rfl,vI⟩:=aso Ad
   have a:=(show bC (g.isNone&& !bG.rd) _ False from a)
   cases g with
   |some g=>exact a.elim
   |none=>
    cases dp:bG.rd with
    |true=>rw[dp]at a;exact a.elim
    |false=>
     rw[dp]at a
     have kC:=bi.rd dp
     subst kC
     have a:IA bG.j8 J (λv J=>AS C bG fin aj (λJ=>aw (hG (dstsOf aq.toList) J)) rest ((i,v)::ak) J h k):=a
     simp only[CH,ME,nL,nD,ZB]
     rw[L3]
     have aP:l6 (.e1 bT (.call ⟨.builtin .recover,args,cM⟩))= .e1:=rfl
     have ag:hs (.e1 bT (.call ⟨.builtin .recover,args,cM⟩)) C h k ak t=some .recover:=by
      simp only[hs,mO,BF,GK,vI,oQ]
     simp only[aP,ag]
     show ng .recover (fu C bk bt bJ v) C (.r5 aq ak i rest fin) B (e6 bG fn n ap aB none cs cZ J) t h k=some v
     have key:∀ad cT,gv cT t->A0 aB (bC J.rc cZ cs)=some (ad,bC cT.rc cZ cs)->cT.a8=J.a8->AS C bG fin aj (λJ=>aw (hG (dstsOf aq.toList) J)) rest ((i,ad)::ak) cT h k->ng .recover (fu C bk bt bJ v) C (.r5 aq ak i rest fin) B (e6 bG fn n ap aB none cs cZ J) t h k=some v:=by
      intro ad cT P3 M R au
      show(match A0 aB (bC J.rc cZ cs)with
       |some (gO,ahN)=>(match nV (.r5 aq ak i rest fin) gO with|some hc=>fu C bk bt bJ v .run (hc::B) ⟨fn,n,ap,bC bG.a8 J.a8 [],aB,none,ahN⟩ t h k|none=>none)
       |none=>none)=some v
      rw[M]
      show fu C bk bt bJ v .run (.Fl aq ((i,ad)::ak) rest fin::B) ⟨fn,n,ap,bC bG.a8 J.a8 [],aB,none,bC cT.rc cZ cs⟩ t h k=some v
      have fV:(⟨fn,n,ap,bC bG.a8 J.a8 [],aB,none,bC cT.rc cZ cs⟩:h1)=e6 bG fn n ap aB none cs cZ cT:=by unfold e6;rw[R]
      rw[fV]
      exact hU (kg cF (ah _ _ _ _ P3 au))
     unfold IA at a
     cases ax:bG.j8 with
     |none=>rw[ax]at a;exact a.elim
     |some p=>
      rw[ax]at a
      cases p with
      |none=>
       obtain⟨M,R⟩:=bi.none ax
       subst M
       refine key _ J aT ?_ rfl a
       cases J.rc<;>exact R
      |some ad=>
       obtain⟨M,R⟩:=bi.some ad ax
       cases Ek:J.rc with
       |true=>
        simp only[Ek]at a
        refine key _ J aT ?_ rfl a
        simp only[Ek];exact R
       |false=>
        simp only[Ek]at a
        refine key ad (Ry J) aT ?_ rfl a
        simp only[Ek];exact M
theorem ah7(cF:Env C bk dB dU)(aH:H.same 30 v v=true)(bi:ym bG aB ro cs cZ){aq:Array Oper}{base:Nat}{fin:List (Nat×Nat)}{B:List dy}{J:dw}{t:U H}(aT:gv J t){aj:ga}{aw:sd}
 (ix:∀J t h k,gv J t->aj J h k->na C bk bt bJ .run B (e6 bG fn n ap aB ro cs cZ J) t h k v)
 (cn:∀J t ad h k todo,gv J t->aw J ad h k->na C bk bt bJ (.panicking [⟨ad,false⟩]) todo (e6 bG fn n ap aB ro cs cZ J) t h k v):
 ∀(kL:List vl) (ak:List (Nat×H)) (h:U an) (k:Nat),NV C bG.rd base fin J aj (aw (hG (dstsOf aq.toList) J)) kL ak h k->wY (fu C bk bt bJ v) C aq base ak kL fin B (e6 bG fn n ap aB ro cs cZ J) t h k=some v:=by
 intro kL
 induction kL with
 |nil=>intro ak h k a;exact a.elim
 |cons s rest ah=>
  intro ak h k a
  obtain⟨gI,V,M,R⟩:=aoX aT (show LC C base J s.sY ak h _ from a)
  obtain⟨au,aM⟩:=arf aT R
  simp only[wY,M,au,eB]
  cases gB:s.e1 with
  |none=>
   simp only[gB]at aM
   obtain⟨cT,gV,bA,cr,dM,fC⟩:=VB aT aM
   simp only[J2,bA,nD]
   have E:e6 bG fn n ap aB ro cs cZ J=e6 bG fn n ap aB ro cs cZ cT:=by unfold e6;rw[dM.1,dM.2]
   rw[E]
   exact hU (ix _ _ _ _ cr fC)
  |some ag=>
   simp only[gB]at aM
   obtain⟨w,bA,cr,dM⟩:=MG ((acF ..).mp aM)
   simp only[bA]
   cases w with
   |false=>simp only[iF];exact hU (kg cF (ah _ _ _ (dM rfl)))
   |true=>
    obtain⟨r,fC,lj⟩:=WU aT (cr rfl)
    simp only[eB,fC]
    refine Um aH bi cF (λad h k ar=>⟨_,rfl, ?_⟩) (λad h k todo ar=> ?_) lj
    ·exact kg cF (ah _ _ _ ar)
    ·rw[ah8];exact cn (hG (dstsOf aq.toList) J) _ _ _ _ _ (Vg aT _) ar
def acZ(C:aX)(bk:World)(bt:Nat)(bJ:List Frame)(v:H)(cu:dw->h1)(B:List dy)(id:Nat):ga:=λJ h k=>∀t,gv J t->yH id (fu C bk bt bJ v) C B (cu J) t h k=some v
theorem J1{id:Nat}{ah:g4}{C:aX}{dY:dy}{B:List dy}{bG:ti}{cs cZ:List gi}{nb:dw}{J:U H}{h:U an}{k:Nat}(a:exitTo id (dY::B)=exitTo id B):
 yH id ah C (dY::B) (e6 bG fn n ap aB ro cs cZ nb) J h k=yH id ah C B (e6 bG fn n ap aB ro cs cZ nb) J h k:=by
 unfold yH
 rw[a]
 cases exitTo id B with
 |some eA=>rfl
 |none=>
  unfold nC e6
  cases ro with
  |none=>rfl
  |some l=>rfl
def MV(C:aX)(fn n ap:Nat)(c:Code):Prop:=
 ∀{bk:World}{dB:cY}{dU:Nat->Prop}(_:Env C bk dB dU) {bt:Nat}{bJ:List Frame}{v:H}(_:H.same 30 v v=true) (bG:ti) (aB:Bool) (ro:Option Nat) (cs cZ:List gi) (aw:sd) (B:List dy) (aj:ga) (E:Nat->ga) (r:ga) (J:dw) (t:U H) (h:U an) (k:Nat),ym bG aB ro cs cZ->
  (∀J t ad h k todo,gv J t->aw J ad h k->na C bk bt bJ (.panicking [⟨ad,false⟩]) todo (e6 bG fn n ap aB ro cs cZ J) t h k v)->
  (∀J t h k,gv J t->aj J h k->na C bk bt bJ .run B (e6 bG fn n ap aB ro cs cZ J) t h k v)->
  (∀id J h k,E id J h k->acZ C bk bt bJ v (e6 bG fn n ap aB ro cs cZ) B id J h k)->
  (∀J t h k todo,gv J t->r J h k->nC (some .ret) (fu C bk bt bJ v) C todo (e6 bG fn n ap aB ro cs cZ J) t h k=some v)->
  gv J t->vs C n ap c bG aw aj E r J h k->ts c (fu C bk bt bJ v) C B (e6 bG fn n ap aB ro cs cZ J) t h k=some v
theorem ar2{n:Nat}:∀(c8:List Nat) (cm:List H) (J:dw) (t:U H) (aj:dw->Prop),gv J t->Fm n c8 cm J aj->∃cT gV,ws n c8 cm t=some gV/\gv cT gV/\aj cT:=by
 intro c8
 induction c8 with
 |nil=>
  intro cm J t aj aT a
  cases cm with
  |nil=>exact⟨J,t,rfl,aT,a⟩
  |cons I cm=>exact a.elim
 |cons p c8 ah=>
  intro cm J t aj aT a
  cases cm with
  |nil=>exact a.elim
  |cons I cm=>
   have a:=(show bC (Nat.blt p n) (Fm n c8 cm (ac J p I) aj) False from a)
   cases ai:Nat.blt p n with
   |false=>rw[ai]at a;exact a.elim
   |true=>
    rw[ai]at a
    obtain⟨cT,gV,M,R,au⟩:=ah cm _ _ aj (abY aT p I) a
    exact⟨cT,gV,by simp only[ws,ai,eB,M],R,au⟩
theorem A3(fn n ap:Nat)(ro:Option Nat)(cs:List gi)(J:dw):e6 Aw fn n ap false ro cs cs J=⟨fn,n,ap,[],false,ro,cs⟩:=by
 unfold e6 Aw
 cases J.rc<;>rfl
theorem QC{ah:g4}{C:aX}{l fn n ap:Nat}{t0:U H}{params:List Nat}{assign body:Code}{JH:Nat}{il:Option Code}{st:LoopState}{b:Bool}{aj:bY}{todo:List dy}{cs:List gi}{t:U H}{h:U an}{k:Nat}{v:H}
 (aI:ke C l=true)(ax:abp il=true)(cV:st=bC il.isNone .ready .done)(ai:b=il.isNone)(a:JW C l (λst p=> .loop st p fn n ap t0 params assign body JH) st il b aj h k)
 (aP:∀ad h k,aj ad h k->sj ah false cs ad h k=some v):nC il ah C todo ⟨fn,n,ap,[],false,some l,cs⟩ t h k=some v:=by
 obtain⟨⟨ab2,E8,M⟩,R⟩:=a
 subst cV ai
 have:=aP _ _ _ R
 simp only[nC,M,aI,ax,Z7,Ye,eB,gK]
 exact this
theorem arH{C:aX}{fn n ap:Nat}{assign body:Code}(lA:MV C fn n ap assign)(eP:MV C fn n ap body){bk:World}{dB:cY}{dU:Nat->Prop}(cF:Env C bk dB dU){bt:Nat}{bJ:List Frame}{v:H}(aH:H.same 30 v v=true){l:Nat}{t:U H}{params:List Nat}{JH:Nat}{cs:List gi}
 {J:dw}{h:U an}{k:Nat}{args:List H}{aj aw:bY}(aE:ab C h l=some (.loop .ready none fn n ap t params assign body JH))(aI:ke C l=true)(aT:gv J t)
 (j2:∀ad V av,aj ad V av->MS C bk bt bJ v cs ad V av)(jz:∀ad V av,aw ad V av->I8 C bk bt bJ v cs ad V av)
 (a:Fm n params args J λvm=>rY C (vs C n ap assign) (vs C n ap body) l (λst p=> .loop st p fn n ap t params assign body JH) aj aw vm h k):
 Mh (fu C bk bt bJ v) C l args cs h k=some v:=by
 obtain⟨vm,t1,bF,gD,M⟩:=ar2 _ _ _ _ _ aT a
 unfold Mh
 rw[aE]
 simp only[bF]
 have bi:ym Aw false (some l) cs cs:=⟨λa=>(by cases a),λa=>(by cases a),λa=>(by cases a),λad a=>(by cases a)⟩
 have cn:∀(J:dw) (t:U H) (ad:H) (h:U an) (k:Nat) (todo:List dy),gv J t->aw ad h k->na C bk bt bJ (.panicking [⟨ad,false⟩]) todo (e6 Aw fn n ap false (some l) cs cs J) t h k v:=by
  intro J t ad h k todo aT ar
  rw[A3]
  refine kg cF ?_
  have:=jz ad h k ar
  show IH [⟨ad,false⟩] todo (fu C bk bt bJ v) C ⟨fn,n,ap,[],false,some l,cs⟩ t h k=some v
  cases cs with
  |nil=>exact this.elim
  |cons c rest=>exact this
 refine hU (kg cF ?_)
 rw[<-A3 fn n ap (some l) cs vm]
 refine lA cF aH Aw false (some l) cs cs (λ_=>aw) [.beginRound, .code body] _ _ _ vm t1 h k bi cn (λJ t h k aT ar=> ?_) (λid J h k ar=>ar.elim) (λJ t h k todo aT ar=>ar.elim) gD M
 obtain⟨cb,b1⟩:=ar
 refine kg cF ?_
 rw[A3]
 show F6 (fu C bk bt bJ v) C [.code body] ⟨fn,n,ap,[],false,some l,cs⟩ t h k=some v
 unfold F6
 simp only[cb,aI,eB,gK]
 refine hU (kg cF ?_)
 rw[<-A3 fn n ap (some l) cs J]
 refine eP cF aH Aw false (some l) cs cs (λ_=>aw) [] _ _ _ J t _ k bi cn (λJ t h k aT ar=> ?_) (λid J h k ar t aT=> ?_) (λJ t h k todo aT ar=> ?_) aT b1
 ·refine kg cF ?_
  rw[A3]
  show nC none (fu C bk bt bJ v) C [] ⟨fn,n,ap,[],false,some l,cs⟩ t h k=some v
  exact QC aI rfl rfl rfl ar j2
 ·rw[A3]
  show nC (some (.exit id)) (fu C bk bt bJ v) C (.code (.exit id)::[]) ⟨fn,n,ap,[],false,some l,cs⟩ t h k=some v
  exact QC aI rfl rfl rfl ar j2
 ·rw[A3]
  exact QC aI rfl rfl rfl ar j2
theorem NH:∀c:Code,MV C fn n ap c:=by
 intro c
 induction c with
 |skip=>intro bk dB dU cF bt bJ v aH bG aB ro cs cZ aw B aj E r J t h k bi cn ix aW S aT a;exact hU (ix _ _ _ _ aT a)
 |region id aq d=>
  intro bk dB dU cF bt bJ v aH bG aB ro cs cZ aw B aj E r J t h k bi cn ix aW S aT a
  cases d with
  |false=>
   obtain⟨ar,M,R⟩:=rS.1 (show am (If C n aq ap) (λr=>AS C bG r.fin aj (λJ=>aw (hG (dstsOf aq.toList) J)) r.rest [] J h k) from a)
   show iM (If C n aq ap) (λr=>MU.rec (motive:=λ_=>dP) (λrest fin=>x3 rest ⟨fu C bk bt bJ v,aq,fin,B,e6 bG fn n ap aB ro cs cZ J⟩ C t [] h k) r)=some v
   rw[M]
   exact arW cF aH bi ix cn _ _ _ _ _ aT R
  |true=>
   obtain⟨ar,M,R⟩:=rS.1 (show am (Ie C n aq ap) (λr=>fD (k+aq.size) λav=>NV C bG.rd k r.fin J aj (aw (hG (dstsOf aq.toList) J)) r.kL [] h av) from a)
   show iM (Ie C n aq ap) (λr=>MT.rec (motive:=λ_=>dP) (λkL fin=>pu k λk=>wY (fu C bk bt bJ v) C aq k [] kL fin B (e6 bG fn n ap aB ro cs cZ J) t h (k+aq.size)) r)=some v
   rw[M]
   show pu k (λk=>wY (fu C bk bt bJ v) C aq k [] ar.kL ar.fin B (e6 bG fn n ap aB ro cs cZ J) t h (k+aq.size))=some v
   rw[li]
   exact ah7 cF aH bi aT ix cn _ _ _ _ R.out
 |seq I b l5 hb=>
  intro bk dB dU cF bt bJ v aH bG aB ro cs cZ aw B aj E r J t h k bi cn ix aW S aT a
  refine l5 cF aH bG aB ro cs cZ aw (.code b::B) (vs C n ap b bG aw aj E r) E r J t h k bi cn (λJ t h k aT a=> ?_) (λid J h k a t aT=> ?_) S aT a
  ·exact kg cF (hb cF aH bG aB ro cs cZ aw B aj E r J t h k bi cn ix aW S aT a)
  ·rw[J1 (by simp[exitTo])]
   exact aW id J h k a t aT
 |cond c I b l5 hb=>
  intro bk dB dU cF bt bJ v aH bG aB ro cs cZ aw B aj E r J t h k bi cn ix aW S aT a
  obtain⟨ad,M,R⟩:=g1 (ak:=[]) (bT:=[]) aT (show ep [] [] J c _ from a)
  obtain⟨My,rfl,au,aM⟩:=UL R.out
  have bA:vy t c=some (.bool My):=by
   cases c<;>first|(simp[iI,vy]at M;done)|simpa[iI,vy]using M
  show Gf c t (ts I (fu C bk bt bJ v) C B (e6 bG fn n ap aB ro cs cZ J) t h k) (ts b (fu C bk bt bJ v) C B (e6 bG fn n ap aB ro cs cZ J) t h k)=some v
  simp only[Gf,nD,bA]
  cases My with
  |true=>exact l5 cF aH bG aB ro cs cZ aw B aj E r J t h k bi cn ix aW S aT (au rfl)
  |false=>exact hb cF aH bG aB ro cs cZ aw B aj E r J t h k bi cn ix aW S aT (aM rfl)
 |block id b hb=>
  intro bk dB dU cF bt bJ v aH bG aB ro cs cZ aw B aj E r J t h k bi cn ix aW S aT a
  refine hb cF aH bG aB ro cs cZ aw (.inBlock id::B) aj (Bu id aj E) r J t h k bi cn (λJ t h k aT a=>kg cF (hU (ix J t h k aT a))) (λsT J h k a t aT=> ?_) S aT a.out
  unfold Bu at a
  rw[gX]at a
  by_cases D5:id=sT
  ·rw[Zr D5]at a
   have bF:exitTo sT (.inBlock id::B)=some B:=by simp[exitTo,D5,gX]
   unfold yH
   rw[bF]
   exact hU (ix J t h k aT a)
  ·rw[Zg D5]at a
   rw[J1 (by simp[exitTo,gX,D5])]
   exact aW sT J h k a t aT
 |loop b hb=>
  intro bk dB dU cF bt bJ v aH bG aB ro cs cZ aw B aj E r J t h k bi cn ix aW S aT a
  obtain⟨lM,⟨m,Pw⟩,nX⟩:=(show fO (λNi=>vs C n ap b bG aw Ni E r) J h k from a).out
  have Ib:∀m J t h k,lM m J h k->gv J t->ts b (fu C bk bt bJ v) C (.inLoop b::B) (e6 bG fn n ap aB ro cs cZ J) t h k=some v:=by
   intro m
   induction m using Nat.strongRecOn with
   |ind m oZ=>
    intro J t h k Pw aT
    refine hb cF aH bG aB ro cs cZ aw (.inLoop b::B) _ E r J t h k bi cn (λJ t h k aT a=> ?_) (λid J h k a t aT=> ?_) S aT (nX m J h k Pw)
    ·obtain⟨fY,cR,t8⟩:=a
     exact kg cF (oZ fY cR J t h k t8 aT)
    ·rw[J1 (by simp[exitTo])]
     exact aW id J h k a t aT
  exact Ib m J t h k Pw aT
 |rangeFunc f params assign body l5 hb=>
  intro bk dB dU cF bt bJ v aH bG aB ro cs cZ aw B aj E r J t h k bi cn ix aW S aT a
  have a:=(show bC bG.a8 (N5 f J λlV=>CO C n lV params.toList (rY C (vs C n ap assign) (vs C n ap body)) aj E r aw J h k) False from a)
  cases oU:bG.a8 with
  |false=>rw[oU]at a;exact a.elim
  |true=>
   rw[oU]at a
   have kC:=bi.a8 oU
   subst kC
   obtain⟨lV,M,R⟩:=g1 (ak:=[]) (bT:=[]) aT (show ep [] [] J f _ from a)
   have bA:vy t f=some lV:=by
    cases f<;>first|(simpa[iI,vy]using M)|(simp[iI]at M;subst M;rfl)
   have auV:=R.low
   have Ee:=R.out
   have fV:∀J:dw,e6 bG fn n ap aB none cs cZ J=⟨fn,n,ap,J.a8,aB,none,bC J.rc cZ cs⟩:=λJ=>by unfold e6;rw[oU];rfl
   have WR:ke C (k+1)=true:=Nv Zo
   show Iy f params assign body (fu C bk bt bJ v) C B (e6 bG fn n ap aB none cs cZ J) t h k=some v
   rw[fV]
   unfold Iy
   rw[bA]
   cases lV with
   |func g first fl=>
    cases g with
    |func g=>
     simp only[li]
     have Ee:=Ee (λst p=> .loop st p fn n ap t params.toList assign body k) ?_
     ·refine Ee bk dB dU cF bt bJ v aH _ (λad V av ar=> ?_) (λad V av ar=> ?_)
      ·obtain⟨st,p,cb,b1,dT⟩:=ar
       show(match nV (.inRangeFunc (k+1)) ad with
        |some hc=>fu C bk bt bJ v .run (hc::B) ⟨fn,n,ap,⟨.collected k,[]⟩::J.a8,aB,none,bC J.rc cZ cs⟩ t V av
        |none=>none)=some v
       refine hU (kg cF ?_)
       show DD (k+1) (fu C bk bt bJ v) C B ⟨fn,n,ap,⟨.collected k,[]⟩::J.a8,aB,none,bC J.rc cZ cs⟩ t V av=some v
       have bF:DD (k+1) (fu C bk bt bJ v) C B ⟨fn,n,ap,⟨.collected k,[]⟩::J.a8,aB,none,bC J.rc cZ cs⟩ t V av=fu C bk bt bJ v .run ((p.map dy.code).toList++B) ⟨fn,n,ap,⟨.collected k,[]⟩::J.a8,aB,none,bC J.rc cZ cs⟩ t (bm C V (k+1) (some (.loop .exhausted p fn n ap t params.toList assign body k))) av:=by
        unfold DD
        rw[b1]
        cases st with
        |busy=>exact absurd rfl cb
        |_=>simp only[WR,eB,gK]
       rw[bF]
       have dl:=fV (uB J k)
       have en:(⟨fn,n,ap,⟨.collected k,[]⟩::J.a8,aB,none,bC J.rc cZ cs⟩:h1)=e6 bG fn n ap aB none cs cZ (uB J k):=dl.symm
       rw[en]
       have P5:gv (uB J k) t:=aT
       cases p with
       |none=>exact hU (ix _ _ _ _ P5 dT)
       |some c=>
        refine hU (kg cF ?_)
        unfold abq at dT
        cases c with
        |exit id=>exact aW id _ _ _ dT t P5
        |ret=>exact S _ _ _ _ _ P5 dT
        |_=>exact dT.elim
      ·refine hU ?_
       have en:(⟨fn,n,ap,⟨.collected k,[]⟩::J.a8,aB,none,bC J.rc cZ cs⟩:h1)=e6 bG fn n ap aB none cs cZ (uB J k):=(fV (uB J k)).symm
       have:=cn (uB J k) t ad V av (.inRangeFunc (k+1)::B) aT ar
       rw[<-en]at this
       exact this
     ·
      intro args bb CB ye d5 aE bm kr yf mh aiw ez qj R6 j5 NK j2 jz
      exact arH l5 hb aiw j5 aE WR aT j2 jz bm
    |_=>exact Ee.elim
   |_=>exact Ee.elim
 |exit id=>
  intro bk dB dU cF bt bJ v aH bG aB ro cs cZ aw B aj E r J t h k bi cn ix aW S aT a
  exact aW id J h k a t aT
 |scope b hb=>
  intro bk dB dU cF bt bJ v aH bG aB ro cs cZ aw B aj E r J t h k bi cn ix aW S aT a
  refine hb cF aH bG aB ro cs cZ aw (.inScope b::B) aj E r J t h k bi cn (λJ t h k aT a=>kg cF (hU (ix J t h k aT a))) (λid J h k a t aT=> ?_) S aT a
  rw[J1 (by simp[exitTo])]
  exact aW id J h k a t aT
 |label l=>intro bk dB dU cF bt bJ v aH bG aB ro cs cZ aw B aj E r J t h k bi cn ix aW S aT a;exact hU (ix _ _ _ _ aT a)
 |goto l=>intro bk dB dU cF bt bJ v aH bG aB ro cs cZ aw B aj E r J t h k bi cn ix aW S aT a;exact a.elim
 |ret=>
  intro bk dB dU cF bt bJ v aH bG aB ro cs cZ aw B aj E r J t h k bi cn ix aW S aT a
  exact S _ _ _ _ _ aT a
 |refuse s=>intro bk dB dU cF bt bJ v aH bG aB ro cs cZ aw B aj E r J t h k bi cn ix aW S aT a;exact a.elim
end
theorem No(args:List H):gv (c2 args) (U.ofList args 0 .nil):=by
 intro n v a
 rw[kk]
 simpa[c2]using a
section
variable{C:aX}{dB:cY}{dU:Nat->Prop}{bk:World}{bt:Nat}{bJ:List Frame}{v:H}{fn:Nat}{sv:Func}{n ap:Nat}{aB:Bool}{cs:List gi}
theorem Mf(cF:Env C bk dB dU)(aH:H.same 30 v v=true)(b5:C.P.funcs[fn]? =some sv){bR:bY}(j2:∀ad h k,bR ad h k->sj (fu C bk bt bJ v) aB cs ad h k=some v){J:dw}{t:U H}(aT:gv J t):
 ∀(ds:List hj) (h:U an) (k:Nat) (todo:List dy),ol C sv.results.toList bR J ds h k->na C bk bt bJ .returning todo ⟨fn,n,ap,ds,aB,none,cs⟩ t h k v:=by
 intro ds
 induction ds with
 |nil=>
  intro h k todo a
  obtain⟨br,M,R⟩:=arr aT (show p6 C h J sv.results.toList (λbr=>bR (one br) h k) from a)
  refine kg cF ?_
  show II todo (fu C bk bt bJ v) C ⟨fn,n,ap,[],aB,none,cs⟩ t h k=some v
  simp only[II,b5,M]
  exact j2 _ _ _ R
 |cons d ds ah=>
  intro h k todo a
  obtain⟨IM,cm⟩:=d
  refine kg cF ?_
  show wt ⟨IM,cm⟩ ds .returning todo (fu C bk bt bJ v) C ⟨fn,n,ap,[],aB,none,cs⟩ t h k=some v
  cases IM with
  |collected r=>
   have a:=(show LU C r h (ol C sv.results.toList bR J ds (bm C h r (some (.deferred none))) k) from a)
   simp only[wt,a.here,show ke C r=true from Nv a.low,eB,gK,YU]
   exact hU (ah _ _ _ a.go)
  |fn g cap=>
   have a:=(show yD C g (cm++cap) none h k (λ_ h k=>ol C sv.results.toList bR J ds h k) from a).out
   split at a
   ·rename_i f
    obtain⟨M,⟨vz,c,R,au⟩,aM⟩:=a
    simp only[wt,yr,q6,M,R,au]
    exact aM bk dB dU cF bt bJ v aH fn n ap t todo ds aB none cs λb V av ar=>hU (ah _ _ _ ar)
   ·exact a.elim
theorem abm(cF:Env C bk dB dU)(aH:H.same 30 v v=true)(b5:C.P.funcs[fn]? =some sv){bR eS:bY}(j2:∀ad h k,bR ad h k->sj (fu C bk bt bJ v) aB cs ad h k=some v)(jz:∀ad h k,eS ad h k->I8 C bk bt bJ v cs ad h k){J:dw}{t:U H}(aT:gv J t)(ad:H):
 ∀(ds:List hj) (h:U an) (k:Nat) (todo:List dy),wm C sv.results.toList bR eS J ad ds h k->na C bk bt bJ (.panicking [⟨ad,false⟩]) todo ⟨fn,n,ap,ds,aB,none,cs⟩ t h k v:=by
 intro ds
 induction ds with
 |nil=>
  intro h k todo a
  refine kg cF ?_
  have:=jz ad h k a
  show IH [⟨ad,false⟩] todo (fu C bk bt bJ v) C ⟨fn,n,ap,[],aB,none,cs⟩ t h k=some v
  cases cs with
  |nil=>exact this.elim
  |cons c rest=>exact this
 |cons d ds ah=>
  intro h k todo a
  obtain⟨IM,cm⟩:=d
  refine kg cF ?_
  show wt ⟨IM,cm⟩ ds (.panicking [⟨ad,false⟩]) todo (fu C bk bt bJ v) C ⟨fn,n,ap,[],aB,none,cs⟩ t h k=some v
  cases IM with
  |collected r=>
   have a:=(show LU C r h (wm C sv.results.toList bR eS J ad ds (bm C h r (some (.deferred none))) k) from a)
   simp only[wt,a.here,show ke C r=true from Nv a.low,eB,gK,YU]
   exact hU (ah _ _ _ a.go)
  |fn g cap=>
   have a:=(show yD C g (cm++cap) (some ad) h k (λb h k=>bC b (ol C sv.results.toList bR J ds h k) (wm C sv.results.toList bR eS J ad ds h k)) from a).out
   split at a
   ·rename_i f
    obtain⟨M,⟨vz,c,R,au⟩,aM⟩:=a
    simp only[wt,yr,q6,M,R,au]
    refine aM bk dB dU cF bt bJ v aH fn n ap t todo ds aB none cs λb V av ar=> ?_
    cases b with
    |true=>exact hU (Mf cF aH b5 j2 aT ds V av todo ar)
    |false=>exact hU (ah _ _ _ ar)
   ·exact a.elim
end
theorem Of{C:aX}{f cX:Nat}(ay:da C f cX=true):∃fn c,C.P.funcs[f]? =some fn/\fn.body=some c/\(Nat.ble cX fn.ntmps&&la C (Nat.lor (jP c) (m6 fn.results.toList)) c&&xY (Nat.lor (jP c) (m6 fn.results.toList)) fn.results.toList)=true:=by
 unfold da at ay
 split at ay
 ·rename_i fn b5
  split at ay
  ·rename_i c ai;exact⟨fn,c,b5,ai,ay⟩
  ·cases ay
 ·cases ay
theorem EK{ah:g4}{C:aX}{fn n ap:Nat}{a8:List hj}{aB:Bool}{cs:List gi}{todo:List dy}{J:U H}{h:U an}{k:Nat}{aa:Option Code}(bK:Ql aa=true):nC aa ah C todo ⟨fn,n,ap,a8,aB,none,cs⟩ J h k=ah .returning todo ⟨fn,n,ap,a8,aB,none,cs⟩ J h k:=by
 simp only[nC,bK,eB]
theorem FE(fn n ap:Nat)(aB:Bool)(ro:Option Nat)(cs:List gi)(J:dw):e6 ER fn n ap aB ro cs cs J=⟨fn,n,ap,[],aB,ro,cs⟩:=by
 unfold e6 ER
 cases J.rc<;>rfl
theorem FF(fn n ap:Nat)(aB:Bool)(ro:Option Nat)(cs:List gi)(J:dw):e6 xP fn n ap aB ro cs cs J=⟨fn,n,ap,J.a8,aB,ro,cs⟩:=by
 unfold e6 xP
 cases J.rc<;>rfl
theorem ajl{C:aX}{f:Nat}{args:List H}{h:U an}{k:Nat}{bR eS:bY}(ay:da C f args.length=true)(a:du C f args h k bR eS):th C f args h k bR eS:=by
 intro bk dB dU cF bt bJ v aH cs j2 jz
 obtain⟨fn,c,b5,ai,rn⟩:=Of ay
 unfold du at a
 simp only[b5,ai]at a
 unfold nj
 simp only[b5,ai,li,rn,eB]
 have bi:ym ER false none cs cs:=⟨λ_=>rfl,λa=>(by cases a),λa=>(by cases a),λad a=>(by cases a)⟩
 have rE:∀J t h k todo,gv J t->p6 C h J fn.results.toList (λbr=>bR (one br) h k)->
  na C bk bt bJ .returning todo (e6 ER f fn.ntmps (Nat.lor (jP c) (m6 fn.results.toList)) false none cs cs J) t h k v:=by
  intro J t h k todo aT a
  rw[FE]
  exact Mf cF aH b5 (λad h k ar=>j2 ad h k ar) aT [] h k todo a
 refine hU (kg cF ?_)
 rw[<-FE f fn.ntmps (Nat.lor (jP c) (m6 fn.results.toList)) false none cs (c2 args)]
 refine NH c cF aH ER false none cs cs _ [] _ _ _ _ _ h k bi (λJ t ad h k todo aT a=> ?_) (λJ t h k aT a=> ?_) (λid J h k a=>a.elim) (λJ t h k todo aT a=> ?_) (No args) a
 ·rw[FE]
  exact abm (sv:=fn) (bR:=bR) cF aH b5 (λad h k ar=>j2 ad h k ar) (λad h k ar=>jz ad h k ar) aT ad [] h k todo a
 ·refine kg cF ?_
  have:=rE J t h k [] aT a
  rw[FE]at this ⊢
  show nC none (fu C bk bt bJ v) C [] ⟨f,fn.ntmps,Nat.lor (jP c) (m6 fn.results.toList),[],false,none,cs⟩ t h k=some v
  rw[EK rfl]
  exact hU this
 ·have:=rE J t h k todo aT a
  rw[FE]at this ⊢
  rw[EK rfl]
  exact hU this
theorem ajm{C:aX}{f:Nat}{args:List H}{h:U an}{k:Nat}{bR eS:bY}(ay:da C f args.length=true)(a:By C f args h k bR eS):th C f args h k bR eS:=by
 intro bk dB dU cF bt bJ v aH cs j2 jz
 obtain⟨fn,c,b5,ai,rn⟩:=Of ay
 unfold By at a
 simp only[b5,ai]at a
 unfold nj
 simp only[b5,ai,li,rn,eB]
 have bi:ym xP false none cs cs:=⟨λ_=>rfl,λ_=>rfl,λa=>(by cases a),λad a=>(by cases a)⟩
 have rE:∀J t h k todo,gv J t->ol C fn.results.toList bR J J.a8 h k->
  na C bk bt bJ .returning todo (e6 xP f fn.ntmps (Nat.lor (jP c) (m6 fn.results.toList)) false none cs cs J) t h k v:=by
  intro J t h k todo aT a
  rw[FF]
  exact Mf cF aH b5 (λad h k ar=>j2 ad h k ar) aT J.a8 h k todo a
 refine hU (kg cF ?_)
 rw[show(⟨f,fn.ntmps,Nat.lor (jP c) (m6 fn.results.toList),[],false,none,cs⟩:h1)=e6 xP f fn.ntmps (Nat.lor (jP c) (m6 fn.results.toList)) false none cs cs (c2 args) from(FF f fn.ntmps (Nat.lor (jP c) (m6 fn.results.toList)) false none cs (c2 args)).symm]
 refine NH c cF aH xP false none cs cs _ [] _ _ _ _ _ h k bi (λJ t ad h k todo aT a=> ?_) (λJ t h k aT a=> ?_) (λid J h k a=>a.elim) (λJ t h k todo aT a=> ?_) (No args) a
 ·rw[FF]
  exact abm (sv:=fn) (bR:=bR) cF aH b5 (λad h k ar=>j2 ad h k ar) (λad h k ar=>jz ad h k ar) aT ad J.a8 h k todo a
 ·refine kg cF ?_
  have:=rE J t h k [] aT a
  rw[FF]at this ⊢
  show nC none (fu C bk bt bJ v) C [] ⟨f,fn.ntmps,Nat.lor (jP c) (m6 fn.results.toList),J.a8,false,none,cs⟩ t h k=some v
  rw[EK rfl]
  exact hU this
 ·have:=rE J t h k todo aT a
  rw[FF]at this ⊢
  rw[EK rfl]
  exact hU this
theorem VO{C:aX}{f:Nat}{args:List H}{j8:Option H}{h:U an}{k:Nat}{bR:Bool->U an->Nat->Prop}(ay:da C f args.length=true)(a:DF C f args j8 h k bR)
 {bk:World}{dB:cY}{dU:Nat->Prop}(cF:Env C bk dB dU){bt:Nat}{bJ:List Frame}{v:H}(aH:H.same 30 v v=true){cs cZ:List gi}(bi:ym ⟨false,false,some j8⟩ true none cs cZ)
 (G4:∀b ad h k,bR b h k->sj (fu C bk bt bJ v) true (bC b cZ cs) ad h k=some v):nj (fu C bk bt bJ v) C f args true cs h k=some v:=by
 obtain⟨fn,c,b5,ai,rn⟩:=Of ay
 unfold DF at a
 simp only[b5,ai]at a
 unfold nj
 simp only[b5,ai,li,rn,eB]
 have rE:∀J t h k todo,gv J t->p6 C h J fn.results.toList (λ_=>bR J.rc h k)->
  na C bk bt bJ .returning todo (e6 ⟨false,false,some j8⟩ f fn.ntmps (Nat.lor (jP c) (m6 fn.results.toList)) true none cs cZ J) t h k v:=by
  intro J t h k todo aT a
  exact Mf (bR:=λ_ h k=>bR J.rc h k) cF aH b5 (λad h k ar=>G4 J.rc ad h k ar) aT [] h k todo a
 refine hU (kg cF ?_)
 refine NH c cF aH ⟨false,false,some j8⟩ true none cs cZ _ [] _ _ _ (c2 args) _ h k bi (λJ t ad h k todo aT a=>a.elim) (λJ t h k aT a=> ?_) (λid J h k a=>a.elim) (λJ t h k todo aT a=> ?_) (No args) a
 ·refine kg cF ?_
  show nC none (fu C bk bt bJ v) C [] ⟨f,fn.ntmps,Nat.lor (jP c) (m6 fn.results.toList),[],true,none,bC J.rc cZ cs⟩ t h k=some v
  rw[EK rfl]
  exact hU (rE J t h k [] aT a)
 ·show nC (some .ret) (fu C bk bt bJ v) C todo ⟨f,fn.ntmps,Nat.lor (jP c) (m6 fn.results.toList),[],true,none,bC J.rc cZ cs⟩ t h k=some v
  rw[EK rfl]
  exact hU (rE J t h k todo aT a)
theorem VN{C:aX}{f:Nat}{args:List H}{j8:Option H}{h:U an}{k:Nat}{bR:Bool->U an->Nat->Prop}(ay:da C f args.length=true)(a:DF C f args j8 h k bR):Sk C f args j8 h k bR:=by
 intro bk dB dU cF bt bJ v aH Od aQ EQ vm R1 aie Gi Ro qj j2
 cases j8 with
 |none=>
  refine VO ay a cF aH (cZ:=_) ⟨λ_=>rfl,λa=>(by cases a),λa=>⟨rfl,rfl⟩,λad a=>(by cases a)⟩ (λb ad h k ar=> ?_)
  have:=j2 b h k ar
  cases b<;>exact this
 |some p=>
  refine VO ay a cF aH (cZ:=(⟨Od,aQ,EQ,vm,R1,aie, .panicking [⟨p,true⟩],Gi,Ro⟩:gi)::qj) ⟨λ_=>rfl,λa=>(by cases a),λa=>(by cases a),λad a=> ?_⟩ (λb ad h k ar=> ?_)
  ·simp only[Ze]at a
   subst a
   exact⟨rfl,rfl⟩
  ·have:=j2 b h k ar
   cases b<;>exact this
theorem ahu{C:aX}{bk:World}{dB:cY}{dU:Nat->Prop}(cF:Env C bk dB dU){f:Nat}{args:List H}{v:H}(aH:H.same 30 v v=true)(jb:dW dU args)
 (a:th C f args .nil C.bj (λad _ _=>ad=v) (λ_ _ _=>False)):Calls C.P f (bI dB args).toArray bk λE bz=>(∃K,E= .returned (aD K v))/\Below bk.heap.size bk bz:=by
 intro qj
 have b7:Ends C bk f qj v (lone (Frame.enter C.P f (bI dB args).toArray .normal) qj bk):=
  JX Up cF.base (Below.refl _ _) cF.hu (Zj _) .nil (λ_=>rfl) jb
   (a bk dB dU cF f qj v aH [] (λad V av E=>by subst E;rfl) (λad V av E=>E.elim))
 obtain⟨K,bz,fr,bF,cB,fh,js⟩:=b7
 exact⟨.returned (aD K v),bz,fr,⟨⟨K,rfl⟩,js⟩,bF,fh,cB⟩
end
end Go.al

