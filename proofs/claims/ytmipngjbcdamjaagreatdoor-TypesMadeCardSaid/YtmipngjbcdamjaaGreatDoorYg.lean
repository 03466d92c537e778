/- Part of the proof of the last text; no conditions -/
import Derived.Test.YtmipngjbcdamjaaGreatDoorYf
set_option maxHeartbeats 8000000
set_option linter.all false
namespace Go.Q
noncomputable section
open Go.RowKit (Below)
def du(y:b8)(t:F q):Prop:=∀n v,y.g n=some v->t.get n=some v
section
variable{C:ax}{S:F ac}{nx:Nat}{V:List (Nat×q)}{y:b8}{t:F q}
def gC(e:du y t){x:eQ}{M:q->Prop}(b:ey x V y M):∃a,fd x V t=some a/\M a:=by
 cases x with
 |v E=>exact iD.1 b
 |t n=>
  obtain⟨a,d,f⟩:=iD.1 (show N (y n) M from b)
  exact⟨a,e n a d,f⟩
 |c a=>exact⟨a,rfl,b⟩
def FM(e:du y t):∀{h:List eQ}{M:List q->Prop},rp V y h M->∃c,mc V t h=some c/\M c:=by
 intro h
 induction h with
 |nil=>intro M b;exact⟨[],rfl,b⟩
 |cons x h U=>
  intro M b
  obtain⟨a,d,f⟩:=gC e (show ey x V y (λa=>rp V y h λr=>M (a::r)) from b)
  obtain⟨r,g,i⟩:=U f
  exact⟨a::r,by simp[mc,d,g],i⟩
def dD(e:du y t){a1:List (Nat×Nat)}{A:Operand}{M:q->Prop}(b:cm a1 V y A M):∃a,eg a1 V t A=some a/\M a:=by
 cases A with
 |tmp n=>
  simp only[cm]at b
  simp only[eg]
  cases c:cd a1 n with
  |some E=>simp only[c]at b ⊢;exact iD.1 b
  |none=>
   simp only[c]at b ⊢
   obtain⟨a,d,i⟩:=iD.1 b
   exact⟨a,e n a d,i⟩
 |const v=>exact iD.1 b
 |global g=>exact⟨_,rfl,b⟩
 |func f=>exact⟨_,rfl,b⟩
def nK(e:du y t){a1:List (Nat×Nat)}:∀{h:List Operand}{M:List q->Prop},iC a1 V y h M->∃c,hj (eg a1 V t) h=some c/\M c:=by
 intro h
 induction h with
 |nil=>intro M b;exact⟨[],rfl,b⟩
 |cons x h U=>
  intro M b
  obtain⟨a,d,f⟩:=dD e (show cm a1 V y x (λa=>iC a1 V y h λr=>M (a::r)) from b)
  obtain⟨r,g,i⟩:=U f
  exact⟨a::r,by simp[hj,d,g],i⟩
def uI(e:du y t){a1:List (Nat×Nat)}:∀{h:List (Nat×Operand)}{M:List (Nat×q)->Prop},mE a1 V y h M->∃c,kV (eg a1 V t) h=some c/\M c:=by
 intro h
 induction h with
 |nil=>intro M b;exact⟨[],rfl,b⟩
 |cons x h U=>
  intro M b
  obtain⟨i,A⟩:=x
  obtain⟨a,d,f⟩:=dD e (show cm a1 V y A (λa=>mE a1 V y h λr=>M ((i,a)::r)) from b)
  obtain⟨r,g,m⟩:=U f
  exact⟨(i,a)::r,by simp[kV,d,g],m⟩
def uE(e:du y t){a1:List (Nat×Nat)}{A:Option Operand}{M:Option q->Prop}(b:sb a1 V y A M):∃a,mD (eg a1 V t) A=some a/\M a:=by
 cases A with
 |none=>exact⟨none,rfl,b⟩
 |some x=>
  obtain⟨a,c,d⟩:=dD e (show cm a1 V y x (λa=>M (some a)) from b)
  exact⟨some a,by simp[mD,c],d⟩
def HK(e:du y t){a1:List (Nat×Nat)}{A:Op}{M:q->Prop}(w:yx a1 A C S V y M):∃v,gx A C S (eg a1 V t)=some v/\M v:=by
 cases A with
 |build ty parts=>
  obtain⟨bE,g,n⟩:=uI e (show mE a1 V y parts.toList _ from w)
  obtain⟨v,p,r⟩:=(e3.1 n)
  exact⟨v,by simp[gx,ua,g,p],r⟩
 |binOp op ty x T4 T5=>
  obtain⟨a,g,n⟩:=dD e (show cm a1 V y x _ from w)
  obtain⟨b,p,r⟩:=dD e n
  obtain⟨v,z,G⟩:=(e3.1 r)
  exact⟨v,by simp[gx,rP,g,p,z],G⟩
 |unOp op ty x=>
  obtain⟨a,g,n⟩:=dD e (show cm a1 V y x _ from w)
  obtain⟨v,p,r⟩:=(e3.1 n)
  exact⟨v,by simp[gx,uh,g,p],r⟩
 |convert s d x=>
  obtain⟨a,g,n⟩:=dD e (show cm a1 V y x _ from w)
  obtain⟨v,p,r⟩:=(e3.1 n)
  exact⟨v,by simpa[gx,pY,xl,fO,g]using p,r⟩
 |makeInterface ty x=>
  obtain⟨a,g,n⟩:=dD e (show cm a1 V y x _ from w)
  obtain⟨v,p,r⟩:=(e3.1 n)
  exact⟨v,by simpa[gx,p1,yd,fO,g]using p,r⟩
 |makeFunc fn first T2=>
  cases fn with
  |func f=>
   obtain⟨a,g,n⟩:=nK e (show iC a1 V y first.toList _ from w)
   obtain⟨b,p,r⟩:=nK e n
   exact⟨_,by simp[gx,ud,g,p],r⟩
  |_=>exact w.elim
 |slice ty x aC ai T3=>
  obtain⟨a,g,n⟩:=dD e (show cm a1 V y x _ from w)
  obtain⟨h,p,r⟩:=uE e n
  obtain⟨b,z,G⟩:=uE e r
  obtain⟨m,P,X⟩:=uE e G
  obtain⟨v,Z,O⟩:=(e3.1 X)
  exact⟨v,by simp[gx,ug,g,p,z,P,Z],O⟩
 |field ty x f=>
  obtain⟨a,g,n⟩:=dD e (show cm a1 V y x _ from w)
  obtain⟨v,p,r⟩:=(e3.1 n)
  exact⟨v,by simpa[gx,p0,xL,fO,g]using p,r⟩
 |index ty x i=>
  obtain⟨a,g,n⟩:=dD e (show cm a1 V y x _ from w)
  obtain⟨b,p,r⟩:=dD e n
  obtain⟨v,z,G⟩:=(e3.1 r)
  exact⟨v,by simp[gx,ue,g,p,z],G⟩
 |lookup ty m k ok=>
  obtain⟨a,g,n⟩:=dD e (show cm a1 V y m _ from w)
  obtain⟨b,p,r⟩:=dD e n
  obtain⟨v,z,G⟩:=(e3.1 r)
  exact⟨v,by simp[gx,uf,g,p,z],G⟩
 |typeAssert x ty T1 ok=>
  obtain⟨a,g,n⟩:=dD e (show cm a1 V y x _ from w)
  obtain⟨v,p,r⟩:=(e3.1 n)
  exact⟨v,by simpa[gx,pX,w6,fO,g]using p,r⟩
 |entry T0=>
  obtain⟨a,g,n⟩:=dD e (show cm a1 V y T0 _ from w)
  obtain⟨v,p,r⟩:=(e3.1 n)
  exact⟨v,by simpa[gx,pZ,xD,fO,g]using p,r⟩
 |call c=>
  obtain⟨callee,args,bu⟩:=c
  cases callee with
  |builtin b=>
   obtain⟨aB,g,n⟩:=nK e (show iC a1 V y args.toList _ from w)
   obtain⟨v,p,r⟩:=(e3.1 n)
   refine⟨v, ?_,r⟩
   have j:gx (.call ⟨.builtin b,args,bu⟩) C S (eg a1 V t)=jX C S b bu.toList aB:=by
    simp only[gx,uc,ub,g,jX]
    repeat' split
    all_goals first|rfl|simp_all
   rw[j];exact p
  |_=>exact w.elim
 |_=>exact w.elim
def rT(e:du y t){op:eB}{M:q->Prop}(r:oO op C S V y M):∃v,di op C S V t=some v/\M v:=by
 cases op with
 |nB x=>exact gC e r
 |pick c a b=>
  obtain⟨P,f,g⟩:=gC e (show ey c V y _ from r)
  obtain⟨O,rfl,m,p⟩:=w9 g.out
  cases O with
  |true=>
   obtain⟨v,s,w⟩:=gC e (m rfl)
   exact⟨v,by simp[di,f,sJ,s],w⟩
  |false=>
   obtain⟨v,s,w⟩:=gC e (p rfl)
   exact⟨v,by simp[di,f,sJ,s],w⟩
 |cW a=>
  obtain⟨z,f,g⟩:=gC e (show ey a V y _ from r)
  obtain⟨v,m,p⟩:=(e3.1 g)
  exact⟨v,by simp[di,f,m],p⟩
 |ms n a=>
  obtain⟨z,f,g⟩:=gC e (show ey a V y _ from r)
  obtain⟨v,m,p⟩:=(e3.1 g)
  exact⟨v,by simp[di,f,m],p⟩
 |off d x=>
  obtain⟨z,f,g⟩:=gC e (show ey x V y _ from r)
  obtain⟨v,m,p⟩:=(e3.1 g)
  exact⟨v,by simp[di,f,m],p⟩
 |mn n an x i=>
  obtain⟨z,f,g⟩:=gC e (show ey x V y _ from r)
  obtain⟨G,m,p⟩:=gC e g
  obtain⟨v,s,w⟩:=(e3.1 p)
  exact⟨v,by simp only[di,f,m];unfold t2 at s;cases ai:f1 G<;>simp_all,w⟩
 |mo an x i=>
  obtain⟨z,f,g⟩:=gC e (show ey x V y _ from r)
  obtain⟨G,m,p⟩:=gC e g
  obtain⟨v,s,w⟩:=(e3.1 p)
  exact⟨v,by simp only[di,f,m];unfold bH at s;cases ai:f1 G<;>simp_all,w⟩
 |nE x=>
  obtain⟨z,f,g⟩:=gC e (show ey x V y _ from r)
  obtain⟨v,m,p⟩:=(e3.1 g)
  exact⟨v,by simp[di,f,m],p⟩
 |pP op x X=>
  obtain⟨z,f,g⟩:=gC e (show ey x V y _ from r)
  obtain⟨G,m,p⟩:=gC e g
  obtain⟨v,s,w⟩:=(e3.1 p)
  exact⟨v,by simp[di,f,m,s],w⟩
 |ext i x=>
  obtain⟨z,f,g⟩:=gC e (show ey x V y _ from r)
  obtain⟨v,m,p⟩:=(e3.1 g)
  exact⟨v,by simp[di,f,m],p⟩
 |dT a1 A=>exact HK e r
 |_=>exact r.elim
def H3(e:du y t){op:eB}{b:Nat}{M:be}(c:yF op C S b V y M):∃v bJ,gD op C b V t=some (v,bJ)/\M v (aP C S b (some bJ)) (b+1):=by
 cases op with
 |make a1 A=>
  cases A with
  |alloc ty=>
   obtain⟨⟨v,bJ⟩,d,f⟩:=e3.1 (show l (ny C ty (fO undef) b) _ from c)
   exact⟨v,bJ,d,f.out⟩
  |box ty x=>
   obtain⟨a,d,f⟩:=dD e (show cm a1 V y x _ from c)
   exact⟨_,_,by simp only[gD,hD,p5,d],f.out⟩
  |buildSlice ty len parts=>
   obtain⟨bE,d,f⟩:=uI e (show mE a1 V y parts.toList _ from c)
   obtain⟨⟨v,bJ⟩,g,i⟩:=(e3.1 f)
   refine⟨v,bJ, ?_,i.out⟩
   simp only[gD,hD,p6,d]
   unfold sx at g
   split at g
   ·rename_i m
    simp only[m]
    exact g
   ·cases g
  |makeMap ty r=>
   cases r with
   |none=>exact⟨_,_,rfl,(show cb C S b _ _ M from c).out⟩
   |some r=>exact c.elim
  |_=>exact c.elim
 |_=>exact c.elim
def H1(e:du y t){op:eB}{b:Nat}{M:q->F ac->Prop}(c:us op C S b V y M):∃v bJ,gD op C b V t=some (v,bJ)/\M v (aP C S b (some bJ)):=by
 cases op with
 |make a1 A=>
  cases A with
  |alloc ty=>
   obtain⟨⟨v,bJ⟩,d,f⟩:=e3.1 (show l (ny C ty (fO undef) b) _ from c)
   exact⟨v,bJ,d,f.out⟩
  |box ty x=>
   obtain⟨a,d,f⟩:=dD e (show cm a1 V y x _ from c)
   exact⟨_,_,by simp only[gD,hD,p5,d],f.out⟩
  |buildSlice ty len parts=>
   obtain⟨bE,d,f⟩:=uI e (show mE a1 V y parts.toList _ from c)
   obtain⟨⟨v,bJ⟩,g,i⟩:=(e3.1 f)
   refine⟨v,bJ, ?_,i.out⟩
   simp only[gD,hD,p6,d]
   unfold sx at g
   split at g
   ·rename_i m
    simp only[m]
    exact g
   ·cases g
  |makeMap ty r=>
   cases r with
   |none=>exact⟨_,_,rfl,(show fM C S b _ _ M from c).out⟩
   |some r=>exact c.elim
  |_=>exact c.elim
 |_=>exact c.elim
def xb{rd:Bool}{f:Nat}{a:List q}{M ad:be}(e:aJ C f a S nx M ad):∃r,is C f a=some r/\m5 C rd (some r) S nx M ad:=by
 rcases e.out with ⟨L,b,d⟩|⟨b,⟨fn,c,d,g⟩,i⟩
 ·exact⟨.known f a L,by simp[is,b],d⟩
 ·exact⟨.enter f a,by simp[is,b,d,g],i⟩
def lw{rd:Bool}{A:Option bY}{M ad:be}(e:dx A S nx M):∃r,A=some r/\m5 C rd (some r) S nx M ad:=by
 rw[JF]at e
 split at e
 ·exact⟨_,rfl,e⟩
 ·exact⟨_,rfl,e⟩
 ·exact e.elim
def Gc{rd:Bool}{A:Option bY}{M ad:be}(e:tS A S nx M):∃r,A=some r/\m5 C rd (some r) S nx M ad:=by
 rw[Gd]at e
 split at e
 ·exact⟨_,rfl,e⟩
 ·exact⟨_,rfl,e⟩
 ·exact⟨_,rfl,e⟩
 ·exact e.elim
def x9(e:du y t){rd:Bool}{op:eB}{M ad:be}(G:t1 rd op C S nx V y M ad):∃r,dN op C S nx V t=some r/\m5 C rd (some r) S nx M ad:=by
 cases op with
 |st n a v=>
  obtain⟨T5,i,g⟩:=gC e (show ey a V y _ from G)
  obtain⟨T8,O,p⟩:=gC e g
  obtain⟨B,P,X⟩:=(e3.1 p)
  refine⟨.cu undef B nx, ?_,X⟩
  simp only[dN,i,O]
  unfold bj at P
  split at P
  ·simp only[ce]at P
   simp[sz,P.2,cK,P.1]
  ·cases P
 |call f args=>
  obtain⟨Z,i,g⟩:=FM e (show rp V y args _ from G)
  obtain⟨r,O,p⟩:=xb (rd:=rd) g
  exact⟨r,by simp[dN,i,O],p⟩
 |cy a1 A=>
  cases A with
  |mapUpdate ty m k x=>
   obtain⟨a,i,g⟩:=dD e (show cm a1 V y m _ from G)
   obtain⟨b,O,p⟩:=dD e g
   obtain⟨c,P,X⟩:=dD e p
   obtain⟨r,w,z⟩:=lw (C:=C) (ad:=ad) (rd:=rd) X
   exact⟨r,by simp[dN,ge,oF,i,O,P,w],z⟩
  |insert ty m k x=>
   obtain⟨a,i,g⟩:=dD e (show cm a1 V y m _ from G)
   obtain⟨b,O,p⟩:=dD e g
   obtain⟨c,P,X⟩:=dD e p
   obtain⟨r,w,z⟩:=lw (C:=C) (ad:=ad) (rd:=rd) X
   exact⟨r,by simp[dN,ge,oF,i,O,P,w],z⟩
  |mapEntry ty m k=>
   obtain⟨a,i,g⟩:=dD e (show cm a1 V y m _ from G)
   obtain⟨b,O,p⟩:=dD e g
   obtain⟨r,w,z⟩:=lw (C:=C) (ad:=ad) (rd:=rd) p
   exact⟨r,by simpa[dN,ge,pK,nZ,Go.Q.fs,Go.Q.eN,i,O]using w,z⟩
  |entryStore ty m s x=>
   obtain⟨a,i,g⟩:=dD e (show cm a1 V y m _ from G)
   obtain⟨b,O,p⟩:=dD e g
   obtain⟨c,P,X⟩:=dD e p
   obtain⟨r,w,z⟩:=lw (C:=C) (ad:=ad) (rd:=rd) X
   exact⟨r,by simpa[dN,ge,pH,A1,Go.Q.fs,Go.Q.eN,Go.Q.lp,i,O,P]using w,z⟩
  |makeSlice ty h c=>
   obtain⟨a,i,g⟩:=dD e (show cm a1 V y h _ from G)
   obtain⟨b,O,p⟩:=dD e g
   obtain⟨r,w,z⟩:=lw (C:=C) (ad:=ad) (rd:=rd) p
   exact⟨r,by simpa[dN,ge,pJ,nZ,Go.Q.fs,Go.Q.eN,i,O]using w,z⟩
  |makeMap ty T2=>
   cases T2 with
   |none=>exact G.elim
   |some x=>
    obtain⟨a,i,g⟩:=dD e (show cm a1 V y x _ from G)
    obtain⟨r,w,z⟩:=lw (C:=C) (ad:=ad) (rd:=rd) g
    exact⟨r,by simpa[dN,ge,pI,fO,i]using w,z⟩
  |convert s d x=>
   obtain⟨a,i,g⟩:=dD e (show cm a1 V y x _ from G)
   obtain⟨r,w,z⟩:=lw (C:=C) (ad:=ad) (rd:=rd) g
   exact⟨r,by simpa[dN,ge,pN,fO,i]using w,z⟩
  |range ty x=>
   obtain⟨a,i,g⟩:=dD e (show cm a1 V y x _ from G)
   obtain⟨r,w,z⟩:=lw (C:=C) (ad:=ad) (rd:=rd) g
   exact⟨r,by simpa[dN,ge,pM,fO,i]using w,z⟩
  |next T1 T7=>
   obtain⟨a,i,g⟩:=dD e (show cm a1 V y T1 _ from G)
   obtain⟨r,w,z⟩:=Gc (C:=C) (ad:=ad) (rd:=rd) g
   exact⟨r,by simpa[dN,ge,pL,fO,i]using w,z⟩
  |panic x=>
   cases rd with
   |true=>exact(show False from G).elim
   |false=>
    obtain⟨a,i,g⟩:=dD e (show cm a1 V y x _ from G)
    rw[I6]at g
    split at g
    ·rename_i T3 T4
     exact⟨.panic (.iface T3 T4),by simp[dN,ge,tZ,i],g⟩
    ·exact g.elim
  |call c=>
   obtain⟨callee,args,bu⟩:=c
   cases callee with
   |value f=>
    obtain⟨T6,i,g⟩:=dD e (show cm a1 V y f _ from G)
    obtain⟨Z,O,p⟩:=nK e g
    have p:=p.out
    split at p
    ·split at p
     ·obtain⟨r,P,X⟩:=xb (rd:=rd) p
      exact⟨r,by simp[dN,ge,nq,i,O,l0];simpa using P,X⟩
     ·exact⟨.round _ _,by simp only[dN,ge,nq,i,O,l0],p⟩
     ·exact p.elim
    ·exact p.elim
   |builtin b=>
    obtain⟨aB,i,g⟩:=nK e (show iC a1 V y args.toList _ from G)
    obtain⟨r,w,z⟩:=lw (C:=C) (ad:=ad) (rd:=rd) g
    refine⟨r, ?_,z⟩
    have j:∀r,oG C S nx b bu.toList aB=some r->dN (.cy a1 (.call ⟨.builtin b,args,bu⟩)) C S nx V t=some r:=by
     intro r K
     simp only[dN,ge,nq,pG,i]
     unfold oG at K
     split at K
     all_goals first|exact K|cases K
    exact j r w
   |invoke x name=>
    obtain⟨dy,i,g⟩:=dD e (show cm a1 V y x _ from G)
    obtain⟨Z,O,p⟩:=nK e g
    rw[Ig]at p
    split at p
    ·cases T0:od C S _ _ name Z with
     |none=>rw[T0]at p;exact p.elim
     |some r=>rw[T0]at p;exact⟨r,by simp[dN,ge,nq,i,O,T0],p⟩
    ·exact p.elim
  |_=>exact G.elim
 |_=>exact G.elim
def GC{c:Bool}{v:q}{a b:Prop}(e:ae c v a b):∃w,(match v with| .bool b=>some (b==c)|_=>some false)=some w/\(w=true->a)/\(w=false->b):=by
 have e:=e.out
 cases v with
 |bool t=>
  obtain⟨d,f⟩:=e
  refine⟨t==c,rfl,λj=>d (by simpa using j),λj=>f ?_⟩
  cases t<;>cases c<;>simp_all
 |_=>exact⟨false,rfl,Zs,λ_=>e⟩
def sE{g:Option (Nat×Bool)}{a b:Prop}(e:sD g V a b):∃w,gN g V=some w/\(w=true->a)/\(w=false->b):=by
 cases g with
 |none=>exact⟨true,rfl,λ_=>e,Zs⟩
 |some p=>
  obtain⟨E,m⟩:=p
  obtain⟨v,c,d⟩:=iD.1 (show N (cd V E) _ from e)
  obtain⟨w,f,i⟩:=GC d
  exact⟨w,by simp only[gN,c];exact f,i⟩
def AJ(e:du y t)(d:Nat)(v:q):du (I y d v) (t.set d (some v)):=by
 intro n L a
 have a:=(show aQ (Nat.beq d n) (some v) (y.g n)=some L from a)
 rw[d2]at a
 rw[F.gj]
 split at a
 ·rename_i j;rw[Zv j];exact a
 ·rename_i j;rw[Zj j];exact e n L a
def xM:∀{h:List (Nat×Nat)}{y:b8}{t:F q}{M:b8->Prop},du y t->pD h V y M->∃a b,kY V h t=some b/\du a b/\(a.av=y.av/\a.rc=y.rc)/\M a:=by
 intro h
 induction h with
 |nil=>intro y t M e c;exact⟨y,t,rfl,e,⟨rfl,rfl⟩,c⟩
 |cons p h U=>
  intro y t M e c
  obtain⟨i,d⟩:=p
  obtain⟨v,f,g⟩:=iD.1 (show N (cd V i) (λv=>pD h V (I y d v) M) from c)
  obtain⟨a,b,m,n,r⟩:=U (AJ e d v) g
  exact⟨a,b,by simp[kY,f,m],n,r⟩
def Ku{op:eB}{a1:List (Nat×Nat)}{f:Operand}{args:List Operand}(e:nW op= .defer a1 f args):∃c:Array Operand×Array TypeId,args=c.1.toList/\op= .cy a1 (.defer ⟨.value f,c.1,c.2⟩):=by
 unfold nW at e
 split at e
 ·split at e
  ·split at e
   ·injection e with a b d
    subst a b d
    exact⟨(_,_),rfl,rfl⟩
   ·cases e
  ·split at e
   ·split at e<;>cases e
   ·cases e
  ·cases e
 ·cases e
def Kv{op:eB}(e:nW op= .recover):∃a1 bu args,op= .cy a1 (.call ⟨.builtin .recover,args,bu⟩)/\args.toList=[]:=by
 unfold nW at e
 split at e
 ·split at e
  ·split at e<;>cases e
  ·split at e
   ·split at e
    ·rename_i a
     exact⟨_,_,_,rfl,a⟩
    ·cases e
   ·cases e
  ·cases e
 ·cases e
def JH(e:du y t):∀{h:List ResultVar}{M:List q->Prop},i2 C S y h M->∃aB,km C S t h=some aB/\M aB:=by
 intro h
 induction h with
 |nil=>intro M b;exact⟨[],rfl,b⟩
 |cons x h U=>
  intro M b
  cases x with
  |tmp n=>
   obtain⟨v,c,d⟩:=iD.1 (show N (y n) (λv=>i2 C S y h λr=>M (v::r)) from b)
   obtain⟨r,f,g⟩:=U d
   exact⟨v::r,by simp[km,e n v c,f],g⟩
  |cell a ty=>
   obtain⟨p,c,d⟩:=iD.1 (show N (y a) (λp=>l (iM C S ty p) λv=>i2 C S y h λr=>M (v::r)) from b)
   obtain⟨v,f,g⟩:=(e3.1 d)
   obtain⟨r,i,m⟩:=U g
   exact⟨v::r,by simp[km,e a p c,f,i],m⟩
def HM(e:du y t){base:Nat}:∀{h:List cA}{V:List (Nat×q)}{S:F ac}{M:List (Nat×q)->F ac->Prop},rV C base y h V S M->∃g B,j1 C base t h V S=some (g,B)/\M g B:=by
 intro h
 induction h with
 |nil=>intro V S M f;exact⟨V,S,rfl,f⟩
 |cons x h U=>
  intro V S M f
  obtain⟨w,i,m,n⟩:=sE ((Lz ..).mp (show vi x.g V (λE=>match fZ x.op with
   | .make=>us x.op C S (base+x.i) V y E
   |_=>oO x.op C S V y λv=>E v S) (λv S=>rV C base y h ((x.i,v)::V) S M) S from f))
  simp only[j1,i]
  cases w with
  |false=>exact U (n rfl)
  |true=>
   have a:=m rfl
   cases d:fZ x.op with
   |make=>
    simp only[d]at a
    obtain⟨v,bJ,b,c⟩:=H1 e a
    simp only[b,dB]
    exact U c
   |dT=>
    simp only[d]at a
    obtain⟨v,b,c⟩:=rT e a
    simp only[b]
    exact U c
   |cy=>
    simp only[d]at a
    obtain⟨v,b,c⟩:=rT e a
    simp only[b]
    exact U c
def JA(e:du y t):∀{h:List cA}{M:Prop},uQ C y V S h M->nf C t V S h=true/\M:=by
 intro h
 induction h with
 |nil=>intro M a;exact⟨rfl,a⟩
 |cons x h U=>
  intro M a
  obtain⟨w,b,f,g⟩:=sE ((LA ..).mp (show vj x.g V (λJ=>oO x.op C S V y λv=>ez v (cd V x.i) J) (uQ C y V S h M) from a))
  simp only[nf,b]
  cases w with
  |false=>exact U (g rfl)
  |true=>
   obtain⟨v,i,m⟩:=rT e (f rfl)
   obtain⟨L,n,p,r⟩:=iD.1 m.out
   obtain⟨c,d⟩:=U r
   exact⟨by simp[i,n,p,c],d⟩
end
section
variable{C:ax}{bV:bC}{b6:Nat->Prop}{aF:World}{aO:Nat}{aU:List Frame}{v:q}
variable{fn n aa:Nat}{aS:jc}{am:Bool}{ro:Option Nat}{cs bG:List dn}
def fl(a:Env C aF bV b6){aS:fa}{todo:List bS}{ar:dZ}{y:F q}{S:F ac}{nx:Nat}(e:u9 (cU C aF aO aU v) C aS todo ar y S nx=some v):gP C aF aO aU aS todo ar y S nx v:=
 λu D w bs tmps aD T b=>AT a wY _ _ _ _ _ _ _ _ _ _ _ _ v e u D w bs tmps aD T b
def cD(aS:jc)(fn n aa:Nat)(am:Bool)(ro:Option Nat)(cs bG:List dn)(y:b8):dZ:=⟨fn,n,aa,aQ aS.av y.av [],am,ro,aQ y.rc bG cs⟩
structure mV(aS:jc)(am:Bool)(ro:Option Nat)(cs bG:List dn):Prop where
 rd:aS.rd=false->ro=none
 av:aS.av=true->ro=none
 none:aS.iE=some none->bG=cs/\mN am cs=some (.nilIface,cs)
 some:∀L,aS.iE=some (some L)->mN am cs=some (L,bG)/\mN am bG=some (.nilIface,bG)
def JX{U:dG}{C:ax}{h:Nat}{args:List q}{a:bS}{k:List bS}{ar:dZ}{y:F q}{S:F ac}{nx:Nat}:gy (.round h args) U C a k ar y S nx=sq U C h args (nY a k ar y) S nx:=rfl
def xv{y:b8}{t:F q}(e:du y t)(h:List Nat):du (d9 h y) (j3 h t):=by
 intro n v b
 rw[rg]
 by_cases a:n∈h
 ·simp[d9,cK,nA,a]at b
 ·simp[d9,cK,nA,a]at b
  rw[Zj a];exact e n v b
def ta{a b:Nat}(e:a<=b):Nat.ble a b=true:=by simpa using e
def wW(g:q.same 30 v v=true)(d:mV aS am ro cs bG){b:bS}{k:List bS}{a:b8}{y:F q}{S:F ac}{nx:Nat}{M ad:be}(m:Env C aF bV b6)
 (p:∀L S nx,M L S nx->∃c,gX b L=some c/\gP C aF aO aU .run (c::k) (cD aS fn n aa am ro cs bG a) y S nx v)
 (i:∀L S nx todo,ad L S nx->gP C aF aO aU (.panicking [⟨L,false⟩]) todo (cD aS fn n aa am ro cs bG a) (jk (b::k) y) S nx v){r:bY}(e:m5 C aS.rd (some r) S nx M ad):
 gy r (cU C aF aO aU v) C b k (cD aS fn n aa am ro cs bG a) y S nx=some v:=by
 have fill:∀L S nx,M L S nx->(match gX b L with|some c=>cU C aF aO aU v .run (c::k) (cD aS fn n aa am ro cs bG a) y S nx|none=>none)=some v:=by
  intro L S nx w
  obtain⟨c,s,t⟩:=p L S nx w
  rw[s]
  exact d8 t
 cases r with
 |val L=>exact fill L S nx e
 |cu L B nx'=>exact fill L B nx' e
 |enter f args=>
  refine e aF bV b6 m aO aU v g (nY b k (cD aS fn n aa am ro cs bG a) y) (λL B nx' J=> ?_) (λL B nx' J=> ?_)
  ·exact fill L B nx' J
  ·exact d8 (i L B nx' _ J)
 |round h args=>
  rw[JX]
  refine e aF bV b6 m aO aU v g (nY b k (cD aS fn n aa am ro cs bG a) y) (λL B nx' J=> ?_) (λL B nx' J=> ?_)
  ·exact fill L B nx' J
  ·exact d8 (i L B nx' _ J)
 |known f args L=>exact fill L S nx e
 |panic L=>
  have e:=(show aQ aS.rd False (ad L S nx) from e)
  cases K:aS.rd with
  |true=>rw[K]at e;exact e.elim
  |false=>
   rw[K]at e
   have e2:=d.rd K
   subst e2
   exact d8 (i L S nx _ e)
 |fork h=>exact Gb g h e.1 λL B d=>p L B nx (e.2 L B d)
 |_=>exact e.elim
def Fe{ab:Array Oper}{V:List (Nat×q)}{i:Nat}{rest:List cA}{fin:List (Nat×Nat)}{k:List bS}{y:F q}:jk (.iG ab V i rest fin::k) y=j3 (dstsOf ab.toList) y:=rfl
def Fc{ab:Array Oper}{V:List (Nat×q)}{b i:Nat}{rest:List jS}{fin:List (Nat×Nat)}{k:List bS}{y:F q}:jk (.lE ab b V i rest fin::k) y=j3 (dstsOf ab.toList) y:=rfl
def Kb(T3:Env C aF bV b6)(U2:q.same 30 v v=true)(T1:mV aS am ro cs bG){ab:Array Oper}{fin:List (Nat×Nat)}{k:List bS}{t:F q}{M:c8}{ad:iK}
 (U4:∀y t S nx,du y t->M y S nx->gP C aF aO aU .run k (cD aS fn n aa am ro cs bG y) t S nx v)
 (U5:∀y t L S nx todo,du y t->ad y L S nx->gP C aF aO aU (.panicking [⟨L,false⟩]) todo (cD aS fn n aa am ro cs bG y) t S nx v):
 ∀(rest:List cA) (V:List (Nat×q)) (y:b8) (S:F ac) (nx:Nat),du y t->mL C aS fin M (λy=>ad (d9 (dstsOf ab.toList) y)) rest V y S nx->ly rest ⟨cU C aF aO aU v,ab,fin,k,cD aS fn n aa am ro cs bG y⟩ C t V S nx=some v:=by
 intro rest
 induction rest with
 |nil=>
  intro V y S nx a e
  obtain⟨s,U8,d,m,G,b⟩:=xM a (show pD fin V y (λy=>M y S nx) from e)
  show py ⟨cU C aF aO aU v,ab,fin,k,cD aS fn n aa am ro cs bG y⟩ C t V S nx=some v
  simp only[py,rs,d,gL]
  have j:cD aS fn n aa am ro cs bG y=cD aS fn n aa am ro cs bG s:=by unfold cD;rw[G.1,G.2]
  rw[j]
  exact d8 (U4 _ _ _ _ m b)
 |cons x rest U=>
  intro V y S nx a e
  obtain⟨i,g,op⟩:=x
  show nJ i g op rest (ly rest) ⟨cU C aF aO aU v,ab,fin,k,cD aS fn n aa am ro cs bG y⟩ C t V S nx=some v
  have e:=(show(match nW op with
   | .no=>sF g V (λM=>uG aS.rd op C S nx V y M (ad (d9 (dstsOf ab.toList) y))) (λv S nx=>mL C aS fin M (λy=>ad (d9 (dstsOf ab.toList) y)) rest ((i,v)::V) y S nx) S nx
   | .defer a1 f args=>aQ (g.isNone&&aS.av) (cm a1 V y f λT6=>iC a1 V y args λz=>tq T6 z y λy=>mL C aS fin M (λy=>ad (d9 (dstsOf ab.toList) y)) rest ((i,undef)::V) y S nx) False
   | .recover=>aQ (g.isNone&& !aS.rd) (so aS.iE y λv y=>mL C aS fin M (λy=>ad (d9 (dstsOf ab.toList) y)) rest ((i,v)::V) y S nx) False) from e)
  cases T2:nW op with
  |no=>
   rw[T2]at e
   obtain⟨w,d,m,G⟩:=sE ((Bd ..).mp e)
   simp only[nJ,sC,d,gL]
   cases w with
   |false=>simp only[ZR,ZM];exact U _ _ _ _ a (G rfl)
   |true=>
    simp only[ZP]
    have b:=m rfl
    rw[sc]
    unfold uG at b
    cases P:fZ op with
    |dT=>
     simp only[P]at b ⊢
     obtain⟨L,Z,O⟩:=rT a b
     rw[Z]
     exact U _ _ _ _ a O
    |make=>
     simp only[P]at b ⊢
     obtain⟨L,bJ,Z,O⟩:=H3 a b
     simp only[rZ,fX,Z,dB,gL]
     exact U _ _ _ _ a O
    |cy=>
     simp only[P]at b ⊢
     obtain⟨r,Z,O⟩:=x9 a b
     rw[Z]
     have TZ:gy r (cU C aF aO aU v) C (.iG ab V i rest fin) k (cD aS fn n aa am ro cs bG y) t S nx=some v:=by
      refine wW U2 T1 T3 (λL S nx J=>⟨_,rfl, ?_⟩) (λL S nx todo J=> ?_) O
      ·exact fl T3 (U _ _ _ _ a J)
      ·rw[Fe];exact U5 (d9 (dstsOf ab.toList) y) _ _ _ _ _ (xv a _) J
     cases r with
     |val L=>exact U _ _ _ _ a O
     |cu L B nx'=>exact U _ _ _ _ a O
     |_=>exact TZ
  |defer a1 f args=>
   rw[T2]at e
   obtain⟨c,rfl,rfl⟩:=Ku T2
   have e:=(show aQ (g.isNone&&aS.av) _ False from e)
   cases g with
   |some g=>exact e.elim
   |none=>
    cases T0:aS.av with
    |false=>rw[T0]at e;exact e.elim
    |true=>
     rw[T0]at e
     obtain⟨T6,d,m⟩:=dD a (show cm a1 V y f _ from e)
     obtain⟨z,G,b⟩:=nK a m
     have e2:=T1.av T0
     subst e2
     cases T6 with
     |func g first X=>
      simp only[nJ,sC,gN,gL,ZP]
      rw[sc]
      have P:fZ (.cy a1 (.defer ⟨.value f,c.1,c.2⟩))= .cy:=rfl
      have T9:dN (.cy a1 (.defer ⟨.value f,c.1,c.2⟩)) C S nx V t=some (.defer ⟨.fn g X,first++z⟩):=by
       simp only[dN,ge,tY,d,G]
      simp only[P,T9]
      have T7:cD aS fn n aa am none cs bG y=⟨fn,n,aa,y.av,am,none,aQ y.rc bG cs⟩:=by unfold cD;rw[T0];rfl
      show gy (.defer ⟨.fn g X,first++z⟩) (cU C aF aO aU v) C (.iG ab V i rest fin) k (cD aS fn n aa am none cs bG y) t S nx=some v
      rw[T7]
      show cU C aF aO aU v .run (.o2 ab ((i,undef)::V) rest fin::k) ⟨fn,n,aa,⟨.fn g X,first++z⟩::y.av,am,none,aQ y.rc bG cs⟩ t S nx=some v
      have U0:(⟨fn,n,aa,⟨.fn g X,first++z⟩::y.av,am,none,aQ y.rc bG cs⟩:dZ)=cD aS fn n aa am none cs bG (oY y ⟨.fn g X,first++z⟩):=by unfold cD;rw[T0];rfl
      rw[U0]
      exact d8 (fl T3 (U _ (oY y ⟨.fn g X,first++z⟩) _ _ a b))
     |_=>exact b.elim
  |recover=>
   rw[T2]at e
   obtain⟨a1,bu,args,rfl,U1⟩:=Kv T2
   have e:=(show aQ (g.isNone&& !aS.rd) _ False from e)
   cases g with
   |some g=>exact e.elim
   |none=>
    cases T8:aS.rd with
    |true=>rw[T8]at e;exact e.elim
    |false=>
     rw[T8]at e
     have e2:=T1.rd T8
     subst e2
     have e:so aS.iE y (λv y=>mL C aS fin M (λy=>ad (d9 (dstsOf ab.toList) y)) rest ((i,v)::V) y S nx):=e
     simp only[nJ,sC,gN,gL,ZP]
     rw[sc]
     have P:fZ (.cy a1 (.call ⟨.builtin .recover,args,bu⟩))= .cy:=rfl
     have T9:dN (.cy a1 (.call ⟨.builtin .recover,args,bu⟩)) C S nx V t=some .recover:=by
      simp only[dN,ge,nq,pG,U1,hj]
     simp only[P,T9]
     show gy .recover (cU C aF aO aU v) C (.iG ab V i rest fin) k (cD aS fn n aa am none cs bG y) t S nx=some v
     have key:∀L s,du s t->mN am (aQ y.rc bG cs)=some (L,aQ s.rc bG cs)->s.av=y.av->mL C aS fin M (λy=>ad (d9 (dstsOf ab.toList) y)) rest ((i,L)::V) s S nx->gy .recover (cU C aF aO aU v) C (.iG ab V i rest fin) k (cD aS fn n aa am none cs bG y) t S nx=some v:=by
      intro L s U3 d m G
      show(match mN am (aQ y.rc bG cs)with
       |some (U7,TY)=>(match gX (.iG ab V i rest fin) U7 with|some U6=>cU C aF aO aU v .run (U6::k) ⟨fn,n,aa,aQ aS.av y.av [],am,none,TY⟩ t S nx|none=>none)
       |none=>none)=some v
      rw[d]
      show cU C aF aO aU v .run (.o2 ab ((i,L)::V) rest fin::k) ⟨fn,n,aa,aQ aS.av y.av [],am,none,aQ s.rc bG cs⟩ t S nx=some v
      have T7:(⟨fn,n,aa,aQ aS.av y.av [],am,none,aQ s.rc bG cs⟩:dZ)=cD aS fn n aa am none cs bG s:=by unfold cD;rw[m]
      rw[T7]
      exact d8 (fl T3 (U _ _ _ _ U3 G))
     unfold so at e
     cases T4:aS.iE with
     |none=>rw[T4]at e;exact e.elim
     |some p=>
      rw[T4]at e
      cases p with
      |none=>
       obtain⟨d,m⟩:=T1.none T4
       subst d
       refine key _ y a ?_ rfl e
       cases y.rc<;>exact m
      |some L=>
       obtain⟨d,m⟩:=T1.some L T4
       cases T5:y.rc with
       |true=>
        simp only[T5]at e
        refine key _ y a ?_ rfl e
        simp only[T5];exact m
       |false=>
        simp only[T5]at e
        refine key L (AI y) a ?_ rfl e
        simp only[T5];exact d
def Fb(d:Env C aF bV b6)(X:q.same 30 v v=true)(P:mV aS am ro cs bG){ab:Array Oper}{base:Nat}{fin:List (Nat×Nat)}{k:List bS}{y:b8}{t:F q}(a:du y t){M:c8}{ad:iK}
 (Z:∀y t S nx,du y t->M y S nx->gP C aF aO aU .run k (cD aS fn n aa am ro cs bG y) t S nx v)
 (T0:∀y t L S nx todo,du y t->ad y L S nx->gP C aF aO aU (.panicking [⟨L,false⟩]) todo (cD aS fn n aa am ro cs bG y) t S nx v):
 ∀(fi:List jS) (V:List (Nat×q)) (S:F ac) (nx:Nat),tt C aS.rd base fin y M (ad (d9 (dstsOf ab.toList) y)) fi V S nx->kS (cU C aF aO aU v) C ab base V fi fin k (cD aS fn n aa am ro cs bG y) t S nx=some v:=by
 intro fi
 induction fi with
 |nil=>intro V S nx e;exact e.elim
 |cons s rest U=>
  intro V S nx e
  obtain⟨T1,B,x,z⟩:=HM a (show rV C base y s.iV V S _ from e)
  obtain⟨G,b⟩:=JA a z
  simp only[kS,x,G,cO]
  cases m:s.cy with
  |none=>
   simp only[m]at b
   obtain⟨p,T3,f,g,c,i⟩:=xM a b
   simp only[rs,f,gL]
   have j:cD aS fn n aa am ro cs bG y=cD aS fn n aa am ro cs bG p:=by unfold cD;rw[c.1,c.2]
   rw[j]
   exact d8 (Z _ _ _ _ g i)
  |some T2=>
   simp only[m]at b
   obtain⟨w,f,g,c⟩:=sE ((Bd ..).mp b)
   simp only[f]
   cases w with
   |false=>simp only[fz];exact d8 (fl d (U _ _ _ (c rfl)))
   |true=>
    obtain⟨r,i,O⟩:=x9 a (g rfl)
    simp only[cO,i]
    refine wW X P d (λL S nx J=>⟨_,rfl, ?_⟩) (λL S nx todo J=> ?_) O
    ·exact fl d (U _ _ _ J)
    ·rw[Fc];exact T0 (d9 (dstsOf ab.toList) y) _ _ _ _ _ (xv a _) J
def Bq(C:ax)(aF:World)(aO:Nat)(aU:List Frame)(v:q)(im:b8->dZ)(k:List bS)(id:Nat):c8:=λy S nx=>∀t,du y t->md id (cU C aF aO aU v) C k (im y) t S nx=some v
def rq{id:Nat}{U:dG}{C:ax}{b:bS}{k:List bS}{aS:jc}{cs bG:List dn}{a:b8}{y:F q}{S:F ac}{nx:Nat}(e:exitTo id (b::k)=exitTo id k):
 md id U C (b::k) (cD aS fn n aa am ro cs bG a) y S nx=md id U C k (cD aS fn n aa am ro cs bG a) y S nx:=by
 unfold md
 rw[e]
 cases exitTo id k with
 |some co=>rfl
 |none=>
  unfold ho cD
  cases ro with
  |none=>rfl
  |some h=>rfl
def sQ(C:ax)(fn n aa:Nat)(c:Code):Prop:=
 ∀{aF:World}{bV:bC}{b6:Nat->Prop} (_:Env C aF bV b6) {aO:Nat}{aU:List Frame}{v:q} (_:q.same 30 v v=true) (aS:jc) (am:Bool) (ro:Option Nat) (cs bG:List dn) (ad:iK) (k:List bS) (M:c8) (j:Nat->c8) (r:c8) (y:b8) (t:F q) (S:F ac) (nx:Nat),mV aS am ro cs bG->
  (∀y t L S nx todo,du y t->ad y L S nx->gP C aF aO aU (.panicking [⟨L,false⟩]) todo (cD aS fn n aa am ro cs bG y) t S nx v)->
  (∀y t S nx,du y t->M y S nx->gP C aF aO aU .run k (cD aS fn n aa am ro cs bG y) t S nx v)->
  (∀id y S nx,j id y S nx->Bq C aF aO aU v (cD aS fn n aa am ro cs bG) k id y S nx)->
  (∀y t S nx todo,du y t->r y S nx->ho (some .ret) (cU C aF aO aU v) C todo (cD aS fn n aa am ro cs bG y) t S nx=some v)->
  du y t->kL C n aa c aS ad M j r y S nx->ji c (cU C aF aO aU v) C k (cD aS fn n aa am ro cs bG y) t S nx=some v
def Kh{n:Nat}:∀(bE:List Nat) (b:List q) (y:b8) (t:F q) (M:b8->Prop),du y t->o3 n bE b y M->∃c d,ko n bE b t=some d/\du c d/\M c:=by
 intro bE
 induction bE with
 |nil=>
  intro b y t M f e
  cases b with
  |nil=>exact⟨y,t,rfl,f,e⟩
  |cons a b=>exact e.elim
 |cons p bE U=>
  intro b y t M f e
  cases b with
  |nil=>exact e.elim
  |cons a b=>
   have e:=(show aQ (Nat.blt p n) (o3 n bE b (I y p a) M) False from e)
   cases Y:Nat.blt p n with
   |false=>rw[Y]at e;exact e.elim
   |true=>
    rw[Y]at e
    obtain⟨c,d,g,i,m⟩:=U b _ _ M (AJ f p a) e
    exact⟨c,d,by simp only[ko,Y,cO,g],i,m⟩
def mS(fn n aa:Nat)(ro:Option Nat)(cs:List dn)(y:b8):cD mx fn n aa false ro cs cs y=⟨fn,n,aa,[],false,ro,cs⟩:=by
 unfold cD mx
 cases y.rc<;>rfl
def um{U:dG}{C:ax}{h fn n aa:Nat}{t0:F q}{params:List Nat}{assign body:Code}{c:Nat}{a:Option Code}{st:LoopState}{b:Bool}{M:be}{todo:List bS}{cs:List dn}{t:F q}{S:F ac}{nx:Nat}{v:q}
 (g:eS C h=true)(m:Ac a=true)(r:st=aQ a.isNone .ready .done)(Y:b=a.isNone)(e:rk C h (λst p=> .loop st p fn n aa t0 params assign body c) st a b M S nx)
 (i:∀L S nx,M L S nx->jg U false cs L S nx=some v):ho a U C todo ⟨fn,n,aa,[],false,some h,cs⟩ t S nx=some v:=by
 obtain⟨⟨w,s,d⟩,f⟩:=e
 subst r Y
 have:=i _ _ _ f
 simp only[ho,d,g,m,Yi,Yl,cO,dB]
 exact this
def JY{C:ax}{fn n aa:Nat}{assign body:Code}(x:sQ C fn n aa assign)(cp:sQ C fn n aa body){aF:World}{bV:bC}{b6:Nat->Prop}(b:Env C aF bV b6){aO:Nat}{aU:List Frame}{v:q}(m:q.same 30 v v=true){h:Nat}{t:F q}{params:List Nat}{g:Nat}{cs:List dn}
 {y:b8}{S:F ac}{nx:Nat}{args:List q}{M ad:be}(ap:H C S h=some (.loop .ready none fn n aa t params assign body g))(d:eS C h=true)(a:du y t)
 (f:∀L B nx',M L B nx'->sN C aF aO aU v cs L B nx')(z:∀L B nx',ad L B nx'->qH C aF aO aU v cs L B nx')
 (e:o3 n params args y λiL=>iF C (kL C n aa assign) (kL C n aa body) h (λst p=> .loop st p fn n aa t params assign body g) M ad iL S nx):
 sq (cU C aF aO aU v) C h args cs S nx=some v:=by
 obtain⟨iL,X,s,G,w⟩:=Kh _ _ _ _ _ a e
 unfold sq
 rw[ap]
 simp only[s]
 have i:mV mx false (some h) cs cs:=⟨λe=>(by cases e),λe=>(by cases e),λe=>(by cases e),λL e=>(by cases e)⟩
 have r:∀(y:b8) (t:F q) (L:q) (S:F ac) (nx:Nat) (todo:List bS),du y t->ad L S nx->gP C aF aO aU (.panicking [⟨L,false⟩]) todo (cD mx fn n aa false (some h) cs cs y) t S nx v:=by
  intro y t L S nx todo a J
  rw[mS]
  refine fl b ?_
  have:=z L S nx J
  show qu [⟨L,false⟩] todo (cU C aF aO aU v) C ⟨fn,n,aa,[],false,some h,cs⟩ t S nx=some v
  cases cs with
  |nil=>exact this.elim
  |cons c rest=>exact this
 refine d8 (fl b ?_)
 rw[<-mS fn n aa (some h) cs iL]
 refine x b m mx false (some h) cs cs (λ_=>ad) [.beginRound, .code body] _ _ _ iL X S nx i r (λy t S nx a J=> ?_) (λid y S nx J=>J.elim) (λy t S nx todo a J=>J.elim) G w
 obtain⟨O,P⟩:=J
 refine fl b ?_
 rw[mS]
 show pn (cU C aF aO aU v) C [.code body] ⟨fn,n,aa,[],false,some h,cs⟩ t S nx=some v
 unfold pn
 simp only[O,d,cO,dB]
 refine d8 (fl b ?_)
 rw[<-mS fn n aa (some h) cs y]
 refine cp b m mx false (some h) cs cs (λ_=>ad) [] _ _ _ y t _ nx i r (λy t S nx a J=> ?_) (λid y S nx J t a=> ?_) (λy t S nx todo a J=> ?_) a P
 ·refine fl b ?_
  rw[mS]
  show ho none (cU C aF aO aU v) C [] ⟨fn,n,aa,[],false,some h,cs⟩ t S nx=some v
  exact um d rfl rfl rfl J f
 ·rw[mS]
  show ho (some (.exit id)) (cU C aF aO aU v) C (.code (.exit id)::[]) ⟨fn,n,aa,[],false,some h,cs⟩ t S nx=some v
  exact um d rfl rfl rfl J f
 ·rw[mS]
  exact um d rfl rfl rfl J f
def xf:∀c:Code,sQ C fn n aa c:=by
 intro c
 induction c with
 |skip=>intro aF bV b6 w aO aU v G aS am ro cs bG ad k M j r y t S nx z O x P K i e;exact d8 (x _ _ _ _ i e)
 |region id ab d=>
  intro aF bV b6 w aO aU v G aS am ro cs bG ad k M j r y t S nx z O x P K i e
  cases d with
  |false=>
   obtain⟨J,Z,T0⟩:=iD.1 (show N (qd C n ab aa) (λr=>mL C aS r.fin M (λy=>ad (d9 (dstsOf ab.toList) y)) r.rest [] y S nx) from e)
   show ej (qd C n ab aa) (λr=>sP.rec (motive:=λ_=>b2) (λrest fin=>ly rest ⟨cU C aF aO aU v,ab,fin,k,cD aS fn n aa am ro cs bG y⟩ C t [] S nx) r)=some v
   rw[Z]
   exact Kb w G z x O _ _ _ _ _ i T0
  |true=>
   obtain⟨J,Z,T0⟩:=iD.1 (show N (qa C n ab aa) (λr=>df (nx+ab.size) λnx'=>tt C aS.rd nx r.fin y M (ad (d9 (dstsOf ab.toList) y)) r.fi [] S nx') from e)
   show ej (qa C n ab aa) (λr=>sO.rec (motive:=λ_=>b2) (λfi fin=>hG nx λnx=>kS (cU C aF aO aU v) C ab nx [] fi fin k (cD aS fn n aa am ro cs bG y) t S (nx+ab.size)) r)=some v
   rw[Z]
   show hG nx (λnx=>kS (cU C aF aO aU v) C ab nx [] J.fi J.fin k (cD aS fn n aa am ro cs bG y) t S (nx+ab.size))=some v
   rw[fX]
   exact Fb w G z i x O _ _ _ _ T0.out
 |seq a b T2 X=>
  intro aF bV b6 w aO aU v G aS am ro cs bG ad k M j r y t S nx z O x P K i e
  refine T2 w G aS am ro cs bG ad (.code b::k) (kL C n aa b aS ad M j r) j r y t S nx z O (λy t S nx i e=> ?_) (λid y S nx e t i=> ?_) K i e
  ·exact fl w (X w G aS am ro cs bG ad k M j r y t S nx z O x P K i e)
  ·rw[rq (by simp[exitTo])]
   exact P id y S nx e t i
 |cond c a b T2 X=>
  intro aF bV b6 w aO aU v G aS am ro cs bG ad k M j r y t S nx z O x P K i e
  obtain⟨L,Z,T0⟩:=dD (V:=[]) (a1:=[]) i (show cm [] [] y c _ from e)
  obtain⟨U3,rfl,U7,U8⟩:=w9 T0.out
  have T8:j5 t c=some (.bool U3):=by
   cases c<;>first|(simp[eg,j5]at Z;done)|simpa[eg,j5]using Z
  show pr c t (ji a (cU C aF aO aU v) C k (cD aS fn n aa am ro cs bG y) t S nx) (ji b (cU C aF aO aU v) C k (cD aS fn n aa am ro cs bG y) t S nx)=some v
  simp only[pr,gL,T8]
  cases U3 with
  |true=>exact T2 w G aS am ro cs bG ad k M j r y t S nx z O x P K i (U7 rfl)
  |false=>exact X w G aS am ro cs bG ad k M j r y t S nx z O x P K i (U8 rfl)
 |block id b X=>
  intro aF bV b6 w aO aU v G aS am ro cs bG ad k M j r y t S nx z O x P K i e
  refine X w G aS am ro cs bG ad (.inBlock id::k) M (ni id M j) r y t S nx z O (λy t S nx i e=>fl w (d8 (x y t S nx i e))) (λU1 y S nx e t i=> ?_) K i e.out
  unfold ni at e
  rw[d2]at e
  by_cases T6:id=U1
  ·rw[Zv T6]at e
   have T7:exitTo U1 (.inBlock id::k)=some k:=by simp[exitTo,T6,d2]
   unfold md
   rw[T7]
   exact d8 (x y t S nx i e)
  ·rw[Zj T6]at e
   rw[rq (by simp[exitTo,d2,T6])]
   exact P U1 y S nx e t i
 |loop b X=>
  intro aF bV b6 w aO aU v G aS am ro cs bG ad k M j r y t S nx z O x P K i e
  obtain⟨U4,⟨m,TZ⟩,UA⟩:=(show cC (λU5=>kL C n aa b aS ad U5 j r) y S nx from e).out
  have UJ:∀m y t S nx,U4 m y S nx->du y t->ji b (cU C aF aO aU v) C (.inLoop b::k) (cD aS fn n aa am ro cs bG y) t S nx=some v:=by
   intro m
   induction m using Nat.strongRecOn with
   |ind m UG=>
    intro y t S nx TZ i
    refine X w G aS am ro cs bG ad (.inLoop b::k) _ j r y t S nx z O (λy t S nx i e=> ?_) (λid y S nx e t i=> ?_) K i (UA m y S nx TZ)
    ·obtain⟨UI,UD,UE⟩:=e
     exact fl w (UG UI UD y t S nx UE i)
    ·rw[rq (by simp[exitTo])]
     exact P id y S nx e t i
  exact UJ m y t S nx TZ i
 |rangeFunc f params assign body T2 X=>
  intro aF bV b6 w aO aU v G aS am ro cs bG ad k M j r y t S nx z O x P K i e
  have e:=(show aQ aS.av (tD f y λT4=>nR C n T4 params.toList (iF C (kL C n aa assign) (kL C n aa body)) M j r ad y S nx) False from e)
  cases T5:aS.av with
  |false=>rw[T5]at e;exact e.elim
  |true=>
   rw[T5]at e
   have e2:=z.av T5
   subst e2
   obtain⟨T4,Z,T0⟩:=dD (V:=[]) (a1:=[]) i (show cm [] [] y f _ from e)
   have T8:j5 t f=some T4:=by
    cases f<;>first|(simpa[eg,j5]using Z)|(simp[eg]at Z;subst Z;rfl)
   have UR:=T0.low
   have T1:=T0.out
   have T9:∀y:b8,cD aS fn n aa am none cs bG y=⟨fn,n,aa,y.av,am,none,aQ y.rc bG cs⟩:=λy=>by unfold cD;rw[T5];rfl
   have U2:eS C (nx+1)=true:=ta Zo
   show qo f params assign body (cU C aF aO aU v) C k (cD aS fn n aa am none cs bG y) t S nx=some v
   rw[T9]
   unfold qo
   rw[T8]
   cases T4 with
   |func g first UN=>
    cases g with
    |func g=>
     simp only[fX]
     have T1:=T1 (λst p=> .loop st p fn n aa t params.toList assign body nx) ?_
     ·refine T1 aF bV b6 w aO aU v G _ (λL B nx' J=> ?_) (λL B nx' J=> ?_)
      ·obtain⟨st,p,UK,UL,T3⟩:=J
       show(match gX (.inRangeFunc (nx+1)) L with
        |some UH=>cU C aF aO aU v .run (UH::k) ⟨fn,n,aa,⟨.collected nx,[]⟩::y.av,am,none,aQ y.rc bG cs⟩ t B nx'
        |none=>none)=some v
       refine d8 (fl w ?_)
       show ox (nx+1) (cU C aF aO aU v) C k ⟨fn,n,aa,⟨.collected nx,[]⟩::y.av,am,none,aQ y.rc bG cs⟩ t B nx'=some v
       have T7:ox (nx+1) (cU C aF aO aU v) C k ⟨fn,n,aa,⟨.collected nx,[]⟩::y.av,am,none,aQ y.rc bG cs⟩ t B nx'=cU C aF aO aU v .run ((p.map bS.code).toList++k) ⟨fn,n,aa,⟨.collected nx,[]⟩::y.av,am,none,aQ y.rc bG cs⟩ t (aP C B (nx+1) (some (.loop .exhausted p fn n aa t params.toList assign body nx))) nx':=by
        unfold ox
        rw[UL]
        cases st with
        |busy=>exact absurd rfl UK
        |_=>simp only[U2,cO,dB]
       rw[T7]
       have U9:=T9 (jw y nx)
       have TY:(⟨fn,n,aa,⟨.collected nx,[]⟩::y.av,am,none,aQ y.rc bG cs⟩:dZ)=cD aS fn n aa am none cs bG (jw y nx):=U9.symm
       rw[TY]
       have U0:du (jw y nx) t:=i
       cases p with
       |none=>exact d8 (x _ _ _ _ U0 T3)
       |some c=>
        refine d8 (fl w ?_)
        unfold Ad at T3
        cases c with
        |exit id=>exact P id _ _ _ T3 t U0
        |ret=>exact K _ _ _ _ _ U0 T3
        |_=>exact T3.elim
      ·refine d8 ?_
       have TY:(⟨fn,n,aa,⟨.collected nx,[]⟩::y.av,am,none,aQ y.rc bG cs⟩:dZ)=cD aS fn n aa am none cs bG (jw y nx):=(T9 (jw y nx)).symm
       have:=O (jw y nx) t L B nx' (.inRangeFunc (nx+1)::k) i J
       rw[<-TY]at this
       exact this
     ·
      intro args ay US UV UW ap aP UU UX UM U6 UQ UO UT UF UP UB UC
      exact JY T2 X U6 UF ap U2 i UB UC aP
    |_=>exact T1.elim
   |_=>exact T1.elim
 |exit id=>
  intro aF bV b6 w aO aU v G aS am ro cs bG ad k M j r y t S nx z O x P K i e
  exact P id y S nx e t i
 |scope b X=>
  intro aF bV b6 w aO aU v G aS am ro cs bG ad k M j r y t S nx z O x P K i e
  refine X w G aS am ro cs bG ad (.inScope b::k) M j r y t S nx z O (λy t S nx i e=>fl w (d8 (x y t S nx i e))) (λid y S nx e t i=> ?_) K i e
  rw[rq (by simp[exitTo])]
  exact P id y S nx e t i
 |label h=>intro aF bV b6 w aO aU v G aS am ro cs bG ad k M j r y t S nx z O x P K i e;exact d8 (x _ _ _ _ i e)
 |goto h=>intro aF bV b6 w aO aU v G aS am ro cs bG ad k M j r y t S nx z O x P K i e;exact e.elim
 |ret=>
  intro aF bV b6 w aO aU v G aS am ro cs bG ad k M j r y t S nx z O x P K i e
  exact K _ _ _ _ _ i e
 |refuse s=>intro aF bV b6 w aO aU v G aS am ro cs bG ad k M j r y t S nx z O x P K i e;exact e.elim
end
def w4(args:List q):du (bN args) (F.ofList args 0 .nil):=by
 intro n v e
 rw[fD]
 simpa[bN]using e
section
variable{C:ax}{bV:bC}{b6:Nat->Prop}{aF:World}{aO:Nat}{aU:List Frame}{v:q}{fn:Nat}{iR:Func}{n aa:Nat}{am:Bool}{cs:List dn}
def uV(a:Env C aF bV b6)(O:q.same 30 v v=true)(G:C.P.funcs[fn]? =some iR){bi:be}(z:∀L S nx,bi L S nx->jg (cU C aF aO aU v) am cs L S nx=some v){y:b8}{t:F q}(P:du y t):
 ∀(ds:List dI) (S:F ac) (nx:Nat) (todo:List bS),hR C iR.results.toList bi y ds S nx->gP C aF aO aU .returning todo ⟨fn,n,aa,ds,am,none,cs⟩ t S nx v:=by
 intro ds
 induction ds with
 |nil=>
  intro S nx todo e
  obtain⟨aB,i,m⟩:=JH P (show i2 C S y iR.results.toList (λaB=>bi (one aB) S nx) from e)
  refine fl a ?_
  show qv todo (cU C aF aO aU v) C ⟨fn,n,aa,[],am,none,cs⟩ t S nx=some v
  simp only[qv,G,i]
  exact z _ _ _ m
 |cons d ds U=>
  intro S nx todo e
  obtain⟨s,p⟩:=d
  refine fl a ?_
  show ks ⟨s,p⟩ ds .returning todo (cU C aF aO aU v) C ⟨fn,n,aa,[],am,none,cs⟩ t S nx=some v
  cases s with
  |collected r=>
   have e:=(show r6 C r S (hR C iR.results.toList bi y ds (aP C S r (some (.deferred none))) nx) from e)
   simp only[ks,e.here,show eS C r=true from ta e.low,cO,dB,List.nil_append]
   exact d8 (U _ _ _ e.go)
  |fn g cap=>
   have e:=(show q8 C g (p++cap) none S nx (λ_ S nx=>hR C iR.results.toList bi y ds S nx) from e).out
   split at e
   ·rename_i f
    obtain⟨i,⟨X,c,m,w⟩,x⟩:=e
    simp only[ks,l0,is,i,m,w]
    exact x aF bV b6 a aO aU v O fn n aa t todo ds am none cs λb B nx' J=>d8 (U _ _ _ J)
   ·exact e.elim
def Ab(a:Env C aF bV b6)(m:q.same 30 v v=true)(P:C.P.funcs[fn]? =some iR){bi dh:be}(G:∀L S nx,bi L S nx->jg (cU C aF aO aU v) am cs L S nx=some v)(O:∀L S nx,dh L S nx->qH C aF aO aU v cs L S nx){y:b8}{t:F q}(X:du y t)(L:q):
 ∀(ds:List dI) (S:F ac) (nx:Nat) (todo:List bS),kl C iR.results.toList bi dh y L ds S nx->gP C aF aO aU (.panicking [⟨L,false⟩]) todo ⟨fn,n,aa,ds,am,none,cs⟩ t S nx v:=by
 intro ds
 induction ds with
 |nil=>
  intro S nx todo e
  refine fl a ?_
  have:=O L S nx e
  show qu [⟨L,false⟩] todo (cU C aF aO aU v) C ⟨fn,n,aa,[],am,none,cs⟩ t S nx=some v
  cases cs with
  |nil=>exact this.elim
  |cons c rest=>exact this
 |cons d ds U=>
  intro S nx todo e
  obtain⟨p,i⟩:=d
  refine fl a ?_
  show ks ⟨p,i⟩ ds (.panicking [⟨L,false⟩]) todo (cU C aF aO aU v) C ⟨fn,n,aa,[],am,none,cs⟩ t S nx=some v
  cases p with
  |collected r=>
   have e:=(show r6 C r S (kl C iR.results.toList bi dh y L ds (aP C S r (some (.deferred none))) nx) from e)
   simp only[ks,e.here,show eS C r=true from ta e.low,cO,dB,List.nil_append]
   exact d8 (U _ _ _ e.go)
  |fn g cap=>
   have e:=(show q8 C g (i++cap) (some L) S nx (λb S nx=>aQ b (hR C iR.results.toList bi y ds S nx) (kl C iR.results.toList bi dh y L ds S nx)) from e).out
   split at e
   ·rename_i f
    obtain⟨s,⟨Z,c,w,x⟩,z⟩:=e
    simp only[ks,l0,is,s,w,x]
    refine z aF bV b6 a aO aU v m fn n aa t todo ds am none cs λb B nx' J=> ?_
    cases b with
    |true=>exact d8 (uV a m P G X ds B nx' todo J)
    |false=>exact d8 (U _ _ _ J)
   ·exact e.elim
end
def xX{C:ax}{f b:Nat}(a:b9 C f b=true):∃fn c,C.P.funcs[f]? =some fn/\fn.body=some c/\(Nat.ble b fn.ntmps&&fA C (Nat.lor (fp c) (hQ fn.results.toList)) c&&lv (Nat.lor (fp c) (hQ fn.results.toList)) fn.results.toList)=true:=by
 unfold b9 at a
 split at a
 ·rename_i fn d
  split at a
  ·rename_i c Y;exact⟨fn,c,d,Y,a⟩
  ·cases a
 ·cases a
def rS{U:dG}{C:ax}{fn n aa:Nat}{av:List dI}{am:Bool}{cs:List dn}{todo:List bS}{y:F q}{S:F ac}{nx:Nat}{E:Option Code}(a:t7 E=true):ho E U C todo ⟨fn,n,aa,av,am,none,cs⟩ y S nx=U .returning todo ⟨fn,n,aa,av,am,none,cs⟩ y S nx:=by
 simp only[ho,a,cO]
def o9(fn n aa:Nat)(am:Bool)(ro:Option Nat)(cs:List dn)(y:b8):cD oR fn n aa am ro cs cs y=⟨fn,n,aa,[],am,ro,cs⟩:=by
 unfold cD oR
 cases y.rc<;>rfl
def pa(fn n aa:Nat)(am:Bool)(ro:Option Nat)(cs:List dn)(y:b8):cD lk fn n aa am ro cs cs y=⟨fn,n,aa,y.av,am,ro,cs⟩:=by
 unfold cD lk
 cases y.rc<;>rfl
def F7{C:ax}{f:Nat}{args:List q}{S:F ac}{nx:Nat}{bi dh:be}(p:b9 C f args.length=true)(e:cl C f args S nx bi dh):i7 C f args S nx bi dh:=by
 intro aF bV b6 b aO aU v g cs i n
 obtain⟨fn,c,d,Y,r⟩:=xX p
 unfold cl at e
 simp only[d,Y]at e
 unfold hi
 simp only[d,Y,fX,r,cO]
 have s:mV oR false none cs cs:=⟨λ_=>rfl,λe=>(by cases e),λe=>(by cases e),λL e=>(by cases e)⟩
 have m:∀y t S nx todo,du y t->i2 C S y fn.results.toList (λaB=>bi (one aB) S nx)->
  gP C aF aO aU .returning todo (cD oR f fn.ntmps (Nat.lor (fp c) (hQ fn.results.toList)) false none cs cs y) t S nx v:=by
  intro y t S nx todo a e
  rw[o9]
  exact uV b g d (λL S nx J=>i L S nx J) a [] S nx todo e
 refine d8 (fl b ?_)
 rw[<-o9 f fn.ntmps (Nat.lor (fp c) (hQ fn.results.toList)) false none cs (bN args)]
 refine xf c b g oR false none cs cs _ [] _ _ _ _ _ S nx s (λy t L S nx todo a e=> ?_) (λy t S nx a e=> ?_) (λid y S nx e=>e.elim) (λy t S nx todo a e=> ?_) (w4 args) e
 ·rw[o9]
  exact Ab (iR:=fn) (bi:=bi) b g d (λL S nx J=>i L S nx J) (λL S nx J=>n L S nx J) a L [] S nx todo e
 ·refine fl b ?_
  have:=m y t S nx [] a e
  rw[o9]at this ⊢
  show ho none (cU C aF aO aU v) C [] ⟨f,fn.ntmps,Nat.lor (fp c) (hQ fn.results.toList),[],false,none,cs⟩ t S nx=some v
  rw[rS rfl]
  exact d8 this
 ·have:=m y t S nx todo a e
  rw[o9]at this ⊢
  rw[rS rfl]
  exact d8 this
def F8{C:ax}{f:Nat}{args:List q}{S:F ac}{nx:Nat}{bi dh:be}(p:b9 C f args.length=true)(e:nl C f args S nx bi dh):i7 C f args S nx bi dh:=by
 intro aF bV b6 b aO aU v g cs i n
 obtain⟨fn,c,d,Y,r⟩:=xX p
 unfold nl at e
 simp only[d,Y]at e
 unfold hi
 simp only[d,Y,fX,r,cO]
 have s:mV lk false none cs cs:=⟨λ_=>rfl,λ_=>rfl,λe=>(by cases e),λL e=>(by cases e)⟩
 have m:∀y t S nx todo,du y t->hR C fn.results.toList bi y y.av S nx->
  gP C aF aO aU .returning todo (cD lk f fn.ntmps (Nat.lor (fp c) (hQ fn.results.toList)) false none cs cs y) t S nx v:=by
  intro y t S nx todo a e
  rw[pa]
  exact uV b g d (λL S nx J=>i L S nx J) a y.av S nx todo e
 refine d8 (fl b ?_)
 rw[show(⟨f,fn.ntmps,Nat.lor (fp c) (hQ fn.results.toList),[],false,none,cs⟩:dZ)=cD lk f fn.ntmps (Nat.lor (fp c) (hQ fn.results.toList)) false none cs cs (bN args) from(pa f fn.ntmps (Nat.lor (fp c) (hQ fn.results.toList)) false none cs (bN args)).symm]
 refine xf c b g lk false none cs cs _ [] _ _ _ _ _ S nx s (λy t L S nx todo a e=> ?_) (λy t S nx a e=> ?_) (λid y S nx e=>e.elim) (λy t S nx todo a e=> ?_) (w4 args) e
 ·rw[pa]
  exact Ab (iR:=fn) (bi:=bi) b g d (λL S nx J=>i L S nx J) (λL S nx J=>n L S nx J) a L y.av S nx todo e
 ·refine fl b ?_
  have:=m y t S nx [] a e
  rw[pa]at this ⊢
  show ho none (cU C aF aO aU v) C [] ⟨f,fn.ntmps,Nat.lor (fp c) (hQ fn.results.toList),y.av,false,none,cs⟩ t S nx=some v
  rw[rS rfl]
  exact d8 this
 ·have:=m y t S nx todo a e
  rw[pa]at this ⊢
  rw[rS rfl]
  exact d8 this
def EG{C:ax}{aF:World}{bV:bC}{b6:Nat->Prop}(b:Env C aF bV b6){f:Nat}{args:List q}{v:q}(p:q.same 30 v v=true)(m:ca b6 args)
 (e:i7 C f args .nil C.aN (λL _ _=>L=v) (λ_ _ _=>False)):Calls C.P f (aR bV args).toArray aF λj aK=>(∃u,j= .returned (af u v))/\Below aF.heap.size aF aK:=by
 intro a
 have n:Ends C aF f a v (lone (Frame.enter C.P f (aR bV args).toArray .normal) a aF):=
  rl wY b.base (Below.refl _ _) b.dP (Zp _) .nil (λ_=>rfl) m
   (e aF bV b6 b f a v p [] (λL B nx' j=>by subst j;rfl) (λL B nx' j=>j.elim))
 obtain⟨u,aK,fr,c,d,g,i⟩:=n
 exact⟨.returned (af u v),aK,fr,⟨⟨u,rfl⟩,i⟩,c,g,d⟩
end
noncomputable section
section
variable{C:ax}{S:F ac}{nx:Nat}
def a7{b:Nat}{A:Option ac}(e:C.aN<=b):H C (aP C S b A) b=A:=by rw[cr _ e,Zv rfl]
def aV{b x:Nat}{A:Option ac}(e:C.aN<=b)(a:x≠b):H C (aP C S b A) x=H C S x:=by rw[cr _ e,Zj a]
def zL{p:Prop}(h:p:=by simp(disch:=omega) only[aV,a7]<;>rfl):p:=h
def bX(b A:Nat):W C S (.ptr b A)=match H C S b with|some (.cells c _ _)=>c.get A|_=>none:=by
 simp only[W,cellsOf]
 cases H C S b with
 |none=>rfl
 |some bJ=>cases bJ<;>rfl
def ul(n b A:Nat):br C S n (.ptr b A)=match H C S b with|some (.cells c _ _)=>(c.eK A n).map q.agg|_=>none:=by
 simp only[br,cellsOf]
 cases H C S b with
 |none=>rfl
 |some bJ=>
  cases bJ with
  |cells c m st=>simp only[];cases c.eK A n<;>rfl
  |_=>rfl
def Gs(c:F q)(A:Nat):c.eK A 0=some []:=rfl
def iH:∀(h:List q) (c:F q) (A i:Nat),(cL c A h).get i=if A<=i/\i<A+h.length then h[i-A]? else c.get i:=by
 intro h
 induction h with
 |nil=>intro c A i;simp[cL];intro b d;omega
 |cons a h U=>
  intro c A i
  simp only[cL,dB]
  rw[U,F.gj]
  by_cases b:i=A
  ·subst b
   simp
   intro e;omega
  ·by_cases d:A+1<=i/\i<A+1+h.length
   ·rw[Zv d,Zv Zx]
    rw[show i-A=(i-(A+1))+1 by omega]
    simp
   ·rw[Zj d,Zj (λj=>b j.symm),Zj Zx]
def jt{b A n:Nat}{c:F q}{st:h1}(e:C.aN<=b):W C (aP C S b (some (.cells c n st))) (.ptr b A)=c.get A:=by
 rw[bX,a7 e]
def la{b x A:Nat}{bJ:Option ac}(e:C.aN<=b)(a:x≠b):W C (aP C S b bJ) (.ptr x A)=W C S (.ptr x A):=by
 rw[bX,bX,aV e a]
def h6(C:ax)(S:F ac)(b:Nat):Nat->Nat->Option (List q)
 |_,0=>some []
 |A,n+1=>(W C S (.ptr b A)).bind λa=>(h6 C S b (A+1) n).bind λh=>some (a::h)
def mu{b A n:Nat}:br C S (n+1) (.ptr b A)=(h6 C S b A (n+1)).bind λh=>some (.agg h):=by
 have e:∀(c:F q) (m:Nat) (st:h1),H C S b=some (.cells c m st)->∀n A,h6 C S b A n=c.eK A n:=by
  intro c m st Y n
  induction n with
  |zero=>intro A;rfl
  |succ n U=>
   intro A
   simp only[h6,F.eK,bX,Y,U]
   cases c.get A with
   |none=>rfl
   |some a=>cases c.eK (A+1) n<;>rfl
 rw[ul]
 cases Y:H C S b with
 |none=>simp[h6,bX,Y]
 |some bJ=>
  cases bJ with
  |cells c m st=>
   simp only[e c m st Y]
   cases c.eK A (n+1)<;>rfl
  |_=>simp[h6,bX,Y]
structure aX(C:ax)(S:F ac)(nx:Nat)(B:F ac)(nx':Nat):Prop where
 le:nx<=nx'
 R:∀b,b<nx->H C B b=H C S b
def aX.refl(S:F ac)(nx:Nat):aX C S nx S nx:=⟨Zp _,λ_ _=>rfl⟩
def aX.trans{ay aM a:F ac}{aG aL c:Nat}(e:aX C ay aG aM aL)(k:aX C aM aL a c):aX C ay aG a c:=
 ⟨ZD e.le k.le,λb Y=>(k.R b (Z5 Y e.le)).trans (e.R b Y)⟩
def aX.cW{B:F ac}{nx':Nat}(e:aX C S nx B nx')(b A:Nat)(Y:b<nx):W C B (.ptr b A)=W C S (.ptr b A):=by
 rw[bX,bX,e.R b Y]
def aX.more{B:F ac}{nx' n:Nat}(k:aX C S nx B nx')(e:nx'<=n):aX C S nx B n:=⟨ZD k.le e,k.R⟩
def aX.jz{B:F ac}{nx' bs:Nat}(k:aX C S nx B nx')(e:bs<=nx):aX C S bs B nx':=⟨ZD e k.le,λb Y=>k.R b (Z5 Y e)⟩
def kr{b A n:Nat}{c:F q}{v:q}(e:H C S b=some (.cells c n .own))(Y:C.aN<=b)(g:A+1<=n)(i:v.cells=[v])(f:d5 v=true):
 bj C S 1 (.ptr b A) v=some (aP C S b (some (.cells (c.set A (some v)) n .own))):=by
 have a:Nat.ble (A+1) n=true:=by simpa using g
 have d:Nat.ble C.aN b=true:=by simpa using Y
 simp[bj,i,gU,e,eS,cN,f,a,d,cL,cK,Nat.blt]
def nj:List q->List (Nat×Nat×q)->Option (List q)
 |cells,[]=>some cells
 |cells,(off,size,v)::rest=>aQ (Nat.beq v.cells.length size&&Nat.ble (off+size) cells.length) (nj (e5 cells off v.cells) rest) none
def cq(a:List q)(bE:List (Nat×Nat×q)):Option q:=match nj a bE with|some cs=>some (.agg cs)|none=>none
def cv(a:List q)(b:Nat):Option (q×ac):=some (.ptr b 0, .cells (F.ofList a 0 .nil) a.length .own)
def dz(len:Nat)(a:List q)(bE:List (Nat×Nat×q))(b:Nat):Option (q×ac):=match nj a bE with
 |some cs=>some (.slice b 0 len len, .cells (F.ofList cs 0 .nil) cs.length .own)
 |none=>none
def rv(agg:Bool)(off size:Nat)(v:q):Option q:=match v with| .agg cs=>aQ agg (some (.agg ((cs.drop off).take size))) (hN cs off)|_=>none
def bK(v:q):Option q:=match v with| .slice _ _ n _=>gH .i64 (Int.ofNat n)| .cH _ _ n _=>gH .i64 (Int.ofNat n)| .aw=>some (.int .i64 0)|_=>none
def yt(v:q):Option q:=match v with| .str s=>gH .i64 (Int.ofNat s.length)|_=>none
def HH(C:ax)(S:F ac)(v:q):Option q:=match v with
 | .fq=>some (.int .i64 0)
 | .map r=>(match H C S r with|some (.map ak _)=>gH .i64 (Int.ofNat ak.length)|_=>none)
 |_=>none
def iQ(k:IntKind)(v:q):Option q:=match (match v with| .int _ n=>fm k n|_=>none)with|some v=>some v|none=>none
def EW(v:q):Option q:=match (match v with| .str s=>some (q.str s)|_=>none)with|some v=>some v|none=>none
def xm(C:ax)(S:F ac)(v:q):Option q:=match (match v with| .str s=>some (q.str s)|_=>none)with|some v=>some v|none=>qU C S v
def w5(t:Nat)(z:q)(ok:Bool)(v:q):Option q:=match v with
 | .nilIface=>aQ ok (some (.tuple [z, .bool false])) none
 | .iface a w=>aQ (Nat.beq a t) (some (aQ ok (.tuple [w, .bool true]) w)) (aQ ok (some (.tuple [z, .bool false])) none)
 |_=>none
def gn(C:ax)(S:F ac)(a:Nat)(z m k:q)(ok:Bool):Option q:=
 match (match m with
  | .fq=>aQ (fV C 20 a k) (some none) none
  | .map r=>(match H C S r with|some (.map ak _)=>aQ (fV C 20 a k) (findKey C S a k ak 0) none|some (.look ak)=>aQ (fV C 20 a k) (rX (hL C S a k ak)) none|_=>none)
  |_=>none)with
  |none=>none
  |some none=>some (aQ ok (.tuple [z, .bool false]) z)
  |some (some (_,v))=>some (aQ ok (.tuple [v, .bool true]) v)
def d1(C:ax)(S:F ac)(nx an:Nat)(s x:q):Option bY:=match gu C S an x with
 |some (n,h)=>aQ (Nat.beq n 0) (oh C S an s) (kG C S nx an n h s)
 |none=>none
def nC(C:ax)(S:F ac)(nx b:Nat)(m k v:q):Option bY:=match m with
 | .map r=>(match H C S r with
   |some (.map ak a)=>aQ (fV C 20 b k) (match findKey C S b k ak 0 with
    |some (some (i,_))=>(match hN ak i with
     |some (co,_,born)=>aQ (gJ 20 co k) (setObj C S nx r (.map (ak.set i (k,v,born)) a) undef) none
     |none=>none)
    |some none=>setObj C S nx r (.map (ak++[(k,v,a)]) (a+1)) undef
    |none=>none) none
   |_=>none)
 |_=>none
def t6(agg:Bool)(n an:Nat)(v i:q):Option q:=match f1 i with
 |none=>none
 |some i=>match v with
  | .agg cs=>aQ (Nat.blt i n) (aQ agg (some (.agg ((cs.drop (i*an)).take an))) (hN cs (i*an))) none
  |_=>none
def kq(v:q)(aC ai:Option q):Option q:=match v with
 | .str s=>(match gT s.length s.length aC ai none with
    |some (h,e,_)=>some (.str ((s.drop h).take (e-h)))
    |none=>none)
 |_=>none
def ii(C:ax)(S:F ac)(an:Nat)(x:q)(aC ai c:Option q):Option q:=match x with
 | .slice b A len cap=>(match gT len cap aC ai c with
   |some (h,e,m)=>some (.slice b (aQ (Nat.beq m h) A (A+h*an)) (e-h) (m-h))
   |_=>none)
 | .aw=>(match gT 0 0 aC ai c with
   |some _=>some .aw
   |_=>none)
 | .cH b A len a=>(match jH C S b with
   |some n=>aQ (Nat.beq a an&&Nat.blt 0 a) (match gT len ((n-A)/a) aC ai c with
     |some (h,e,m)=>(match c with
      |some _=>some (.slice b (aQ (Nat.beq m h) A (A+h*a)) (e-h) (m-h))
      |none=>aQ (Nat.blt h ((n-A)/a)||Nat.beq h 0) (some (.cH b (A+h*a) (e-h) a)) none)
     |none=>none) none
   |_=>none)
 |_=>none
def u5(n an:Nat)(x:q)(aC ai a:Option q):Option q:=match x with
 | .ptr b A=>(match gT n n aC ai a with
   |some (h,e,m)=>some (.slice b (aQ (Nat.beq m h) A (A+h*an)) (e-h) (m-h))
   |_=>none)
 |_=>none
def uu(C:ax)(S:F ac)(nx an:Nat)(z:List q)(h c:q):Option bY:=match f1 h,f1 c with
 |some h,some c=>aQ (Nat.ble h c&&Nat.ble c 1048576&&true&&true&&true) (gp C S nx (.cells (F.ofList (ew c z) 0 .nil) (c*an) .own) λb=> .slice b 0 h c) none
 |_,_=>none
def iY{α:Type}{a:α}{M:α->Prop}(e:M a):l (some a) M:=⟨e⟩
def iX{α:Type}{a:α}{M:α->Prop}(e:M a):N (some a) M:=e
def l6{a:q}{M:be}(e:M (.ptr nx 0) (aP C S nx (some (.cells (F.ofList a.cells 0 .nil) a.cells.length .own))) (nx+1)):eR C S nx a M:=⟨e⟩
def qb{v:q}{bJ:ac}{M:be}(e:M v (aP C S nx (some bJ)) (nx+1)):cb C S nx v bJ M:=⟨e⟩
def qc{v:q}{bJ:ac}{M:be}(e:M v (aP C S nx (some bJ)) (nx+1)):cb C S nx (Prod.mk v bJ).1 (Prod.mk v bJ).2 M:=⟨e⟩
def p9{b:Nat}{v:q}{bJ:ac}{M:q->F ac->Prop}(e:M v (aP C S b (some bJ))):fM C S b (Prod.mk v bJ).1 (Prod.mk v bJ).2 M:=⟨e⟩
def pp{b:Nat}{a:q}{M:q->F ac->Prop}(e:M (.ptr b 0) (aP C S b (some (.cells (F.ofList a.cells 0 .nil) a.cells.length .own)))):tb C S b a M:=⟨e⟩
def p8{b:Nat}{v:q}{bJ:ac}{M:q->F ac->Prop}(e:M v (aP C S b (some bJ))):fM C S b v bJ M:=⟨e⟩
def gm{a:c8}{body:c8->Prop}(e:body a):aq a body:=⟨e⟩
def pV{a:be}{body:be->Prop}(e:body a):aj a body:=⟨e⟩
def pS{a:q->Prop}{body:(q->Prop)->Prop}(e:body a):bM a body:=⟨e⟩
def pT{a:q->F ac->Prop}{body:(q->F ac->Prop)->Prop}(e:body a):b1 a body:=⟨e⟩
def pU{a:Prop}{body:Prop->Prop}(e:body a):rM a body:=⟨e⟩
def p4{n:Nat}{M:Nat->Prop}(e:M n):df n M:=⟨e⟩
def qr{v:q}{B:F ac}{nx':Nat}{M:be}(e:M v B nx'):dx (some (.cu v B nx')) S nx M:=⟨e⟩
def qs{v:q}{M:be}(e:M v S nx):dx (some (.val v)) S nx M:=⟨e⟩
def jV{a b:Prop}(e:a):aA (.bool true) a b:=⟨⟨λ_=>e,λj=>(by cases j)⟩⟩
def jU{a b:Prop}(e:b):aA (.bool false) a b:=⟨⟨λj=>(by cases j),λ_=>e⟩⟩
def kc{a b:Prop}(e:a):ae true (.bool true) a b:=⟨⟨λ_=>e,λj=>(by cases j)⟩⟩
def kb{a b:Prop}(e:b):ae true (.bool false) a b:=⟨⟨λj=>(by cases j),λ_=>e⟩⟩
def ka{a b:Prop}(e:b):ae false (.bool true) a b:=⟨⟨λj=>(by cases j),λ_=>e⟩⟩
def j9{a b:Prop}(e:a):ae false (.bool false) a b:=⟨⟨λ_=>e,λj=>(by cases j)⟩⟩
def pQ{f:Nat}{a c b:List q}{M ad:be}(e:aJ C f ((a++c)++b) S nx M ad):k9 C (.func (.func f) a b) c S nx M ad:=⟨e⟩
def eV{x a:q}{M:Prop}(e:q.same 30 x a=true)(k:M):ez x (some a) M:=⟨⟨e,k⟩⟩
def aJ.mono{f:Nat}{c:List q}{M ad g i:be}(e:aJ C f c S nx M ad)(d:∀L B nx',M L B nx'->g L B nx')(n:∀L B nx',ad L B nx'->i L B nx'):aJ C f c S nx g i:=by
 rcases e.out with ⟨L,a,b⟩|⟨a,b,m⟩
 ·exact⟨.inl ⟨L,a,d _ _ _ b⟩⟩
 ·exact⟨.inr ⟨a,b,m.mono d n⟩⟩
def xW{f d:Nat}(e:b9 C f d=true):∃fn c,C.P.funcs[f]? =some fn/\fn.body=some c:=by
 unfold b9 at e
 split at e
 ·rename_i fn b
  split at e
  ·rename_i c a;exact⟨fn,c,b,a⟩
  ·cases e
 ·cases e
def cn{f:Nat}{a:List q}{M ad:be}(b:b9 C f a.length=true)(c:C.dv f a=none)(e:cl C f a S nx M ad):aJ C f a S nx M ad:=
 ⟨.inr ⟨c,xW b,F7 b e⟩⟩
def q2{f:Nat}{a:List q}{M ad:be}{L:q}(b:C.dv f a=some L)(e:M L S nx):aJ C f a S nx M ad:=⟨.inl ⟨L,b,e⟩⟩
def lA(y:b8)(d n:Nat)(v:q):(I y d v).g n=if d=n then some v else y.g n:=by show aQ (Nat.beq d n) (some v) (y.g n)=_;rw[d2]
def i6(y:b8)(d:Nat)(v:q):(I y d v).av=y.av:=rfl
def lB(y:b8)(d:Nat)(v:q):(I y d v).rc=y.rc:=rfl
def kH(h:List q)(n:Nat):(bN h).g n=h[n]? :=by simp[bN]
def jT(h:List q):(bN h).av=[]:=rfl
def kI(h:List q):(bN h).rc=false:=rfl
def kT(h:List Nat)(y:b8)(n:Nat):(d9 h y).g n=aQ (h9 n h) none (y.g n):=rfl
def lu(y:b8)(d:dI)(n:Nat):(oY y d).g n=y.g n:=rfl
def ls(y:b8)(d:dI):(oY y d).av=d::y.av:=rfl
def lj(y:b8)(d n:Nat):(jw y d).g n=y.g n:=rfl
def jx(y:b8)(d:Nat):(jw y d).av=⟨.collected d,[]⟩::y.av:=rfl
def q1{f:Nat}{a:List q}{M ad:be}(b:b9 C f a.length=true)(c:C.dv f a=none)(e:nl C f a S nx M ad):aJ C f a S nx M ad:=
 ⟨.inr ⟨c,xW b,F8 b e⟩⟩
def xc{f:Nat}{a:List q}{M ad:be}(g:C.dv f a=none)(e:aJ C f a S nx M ad):i7 C f a S nx M ad:=by
 rcases e.out with ⟨L,b,c⟩|⟨b,c,d⟩
 ·rw[g]at b;cases b
 ·exact d
def h7(b A:Nat):br C S 2 (.ptr b A)=(W C S (.ptr b A)).bind λa=>(W C S (.ptr b (A+1))).bind λc=>some (.agg [a,c]):=by
 rw[mu]
 simp only[h6,Z1,Nat.reduceAdd,Yv,ZL]
def hm(b A:Nat):br C S 3 (.ptr b A)=(W C S (.ptr b A)).bind λa=>(W C S (.ptr b (A+1))).bind λc=>(W C S (.ptr b (A+2))).bind λd=>some (.agg [a,c,d]):=by
 rw[mu]
 simp only[h6,Z1,Nat.reduceAdd,Yv,ZL]
def lc(b A:Nat):br C S 4 (.ptr b A)=(W C S (.ptr b A)).bind λa=>(W C S (.ptr b (A+1))).bind λc=>(W C S (.ptr b (A+2))).bind λd=>(W C S (.ptr b (A+3))).bind λf=>some (.agg [a,c,d,f]):=by
 rw[mu]
 simp only[h6,Z1,Nat.reduceAdd,Yv,ZL]
def ld(b A:Nat):br C S 6 (.ptr b A)=(W C S (.ptr b A)).bind λa=>(W C S (.ptr b (A+1))).bind λc=>(W C S (.ptr b (A+2))).bind λd=>(W C S (.ptr b (A+3))).bind λf=>(W C S (.ptr b (A+4))).bind λg=>(W C S (.ptr b (A+5))).bind λi=>some (.agg [a,c,d,f,g,i]):=by
 rw[mu]
 simp only[h6,Z1,Nat.reduceAdd,Yv,ZL]
def lf(b A:Nat):br C S 7 (.ptr b A)=(W C S (.ptr b A)).bind λa=>(W C S (.ptr b (A+1))).bind λc=>(W C S (.ptr b (A+2))).bind λd=>(W C S (.ptr b (A+3))).bind λf=>(W C S (.ptr b (A+4))).bind λg=>(W C S (.ptr b (A+5))).bind λi=>(W C S (.ptr b (A+6))).bind λm=>some (.agg [a,c,d,f,g,i,m]):=by
 rw[mu]
 simp only[h6,Z1,Nat.reduceAdd,Yv,ZL]
def lg(b A:Nat):br C S 8 (.ptr b A)=(W C S (.ptr b A)).bind λa=>(W C S (.ptr b (A+1))).bind λc=>(W C S (.ptr b (A+2))).bind λd=>(W C S (.ptr b (A+3))).bind λf=>(W C S (.ptr b (A+4))).bind λg=>(W C S (.ptr b (A+5))).bind λi=>(W C S (.ptr b (A+6))).bind λm=>(W C S (.ptr b (A+7))).bind λn=>some (.agg [a,c,d,f,g,i,m,n]):=by
 rw[mu]
 simp only[h6,Z1,Nat.reduceAdd,Yv,ZL]
def lh(b A:Nat):br C S 9 (.ptr b A)=(W C S (.ptr b A)).bind λa=>(W C S (.ptr b (A+1))).bind λc=>(W C S (.ptr b (A+2))).bind λd=>(W C S (.ptr b (A+3))).bind λf=>(W C S (.ptr b (A+4))).bind λg=>(W C S (.ptr b (A+5))).bind λi=>(W C S (.ptr b (A+6))).bind λm=>(W C S (.ptr b (A+7))).bind λn=>(W C S (.ptr b (A+8))).bind λp=>some (.agg [a,c,d,f,g,i,m,n,p]):=by
 rw[mu]
 simp only[h6,Z1,Nat.reduceAdd,Yv,ZL]
def lb(b A:Nat):br C S 11 (.ptr b A)=(W C S (.ptr b A)).bind λa=>(W C S (.ptr b (A+1))).bind λc=>(W C S (.ptr b (A+2))).bind λf=>(W C S (.ptr b (A+3))).bind λg=>(W C S (.ptr b (A+4))).bind λi=>(W C S (.ptr b (A+5))).bind λm=>(W C S (.ptr b (A+6))).bind λn=>(W C S (.ptr b (A+7))).bind λp=>(W C S (.ptr b (A+8))).bind λr=>(W C S (.ptr b (A+9))).bind λs=>(W C S (.ptr b (A+10))).bind λd=>some (.agg [a,c,f,g,i,m,n,p,r,s,d]):=by
 rw[mu]
 simp only[h6,Z1,Nat.reduceAdd,Yv,ZL]
def lF(z0 a0:q):cL (F.ofList [z0] 0 .nil) 0 [a0]=F.ofList [a0] 0 .nil:=by rfl
def lH(z0 a a0 aE:q):cL (F.ofList [z0,a] 0 .nil) 0 [a0,aE]=F.ofList [a0,aE] 0 .nil:=by rfl
def lI(z0 a b a0 aE aW:q):cL (F.ofList [z0,a,b] 0 .nil) 0 [a0,aE,aW]=F.ofList [a0,aE,aW] 0 .nil:=by rfl
def lJ(z0 a b z3 a0 aE aW a3:q):cL (F.ofList [z0,a,b,z3] 0 .nil) 0 [a0,aE,aW,a3]=F.ofList [a0,aE,aW,a3] 0 .nil:=by rfl
def lK(z0 a b z3 z4 z5 a0 aE aW a3 a4 a5:q):cL (F.ofList [z0,a,b,z3,z4,z5] 0 .nil) 0 [a0,aE,aW,a3,a4,a5]=F.ofList [a0,aE,aW,a3,a4,a5] 0 .nil:=by rfl
def lL(z0 a b z3 z4 z5 c a0 aE aW a3 a4 a5 dS:q):cL (F.ofList [z0,a,b,z3,z4,z5,c] 0 .nil) 0 [a0,aE,aW,a3,a4,a5,dS]=F.ofList [a0,aE,aW,a3,a4,a5,dS] 0 .nil:=by rfl
def lM(z0 a b z3 z4 z5 c d a0 aE aW a3 a4 a5 dS dW:q):cL (F.ofList [z0,a,b,z3,z4,z5,c,d] 0 .nil) 0 [a0,aE,aW,a3,a4,a5,dS,dW]=F.ofList [a0,aE,aW,a3,a4,a5,dS,dW] 0 .nil:=by rfl
def lN(z0 a b z3 z4 z5 c d f a0 aE aW a3 a4 a5 dS dW dA:q):cL (F.ofList [z0,a,b,z3,z4,z5,c,d,f] 0 .nil) 0 [a0,aE,aW,a3,a4,a5,dS,dW,dA]=F.ofList [a0,aE,aW,a3,a4,a5,dS,dW,dA] 0 .nil:=by rfl
def lG(z0 b d z3 z4 z5 f g i z9 c a0 aE aW a3 a4 a5 dS dW dA a9 a:q):cL (F.ofList [z0,b,d,z3,z4,z5,f,g,i,z9,c] 0 .nil) 0 [a0,aE,aW,a3,a4,a5,dS,dW,dA,a9,a]=F.ofList [a0,aE,aW,a3,a4,a5,dS,dW,dA,a9,a] 0 .nil:=by rfl
def hx(c:F q)(A:Nat)(v:q):(cL c A [v]).get A=some v:=by rw[iH];simp
def kx{c:F q}{A i:Nat}{v:q}(e:i≠A):(cL c A [v]).get i=c.get i:=by rw[iH,Zj Zx]
def e8{b A k n:Nat}{c:F q}{v:q}(e:H C S b=some (.cells c n .own))(Y:C.aN<=b)(m:v.cells.length=k)(r:0<k)(p:A+k<=n)(i:cN v.cells=true):
 bj C S k (.ptr b A) v=some (aP C S b (some (.cells (cL c A v.cells) n .own))):=by
 subst m
 have d:Nat.blt 0 v.cells.length=true:=by simp[Nat.blt];omega
 have f:Nat.beq v.cells.length v.cells.length=true:=by simp
 have a:Nat.ble (A+v.cells.length) n=true:=by simpa using p
 have g:Nat.ble C.aN b=true:=by simpa using Y
 simp only[bj,gU,e,eS,g,a,d,f,i,Yi,cO,dB]
def mz(k:IntKind)(n:Nat):f1 (.int k (n:Int))=some n:=rfl
def Iv(k:IntKind):f1 (.int k 0)=some 0:=rfl
def k7(k:IntKind)(x a:Int):ag .lss (.int k x) (.int k a)=some (.bool (decide (x<a))):=by
 cases k<;>simp[ag,fK,f0,fH,jW,jr]<;>(rw[Z8];simp)
def k5(k:IntKind)(x a:Int):ag .gtr (.int k x) (.int k a)=some (.bool (decide (a<x))):=by
 cases k<;>simp[ag,fK,f0,fH,jW,jr]<;>(rw[Z8];simp)
def k6(k:IntKind)(x a:Int):ag .leq (.int k x) (.int k a)=some (.bool (decide (x<=a))):=by
 cases k<;>simp[ag,fK,f0,fH,jW,jr]<;>(rw[Z8];simp)
def k4(k:IntKind)(x a:Int):ag .geq (.int k x) (.int k a)=some (.bool (decide (a<=x))):=by
 cases k<;>simp[ag,fK,f0,fH,jW,jr]<;>(rw[Z8];simp)
def k3(k:IntKind)(x a:Int):ag .eql (.int k x) (.int k a)=some (.bool (decide (x=a))):=by
 cases k<;>simp[ag,fK,f0,fH,jW,ke]
def k8(k:IntKind)(x a:Int):ag .neq (.int k x) (.int k a)=some (.bool (decide (x≠a))):=by
 cases k<;>simp[ag,fK,f0,fH,jW,ke]
def wrap64{n:Int}(a: -9223372036854775808<=n)(b:n<9223372036854775808):hV .i64 n=n:=by
 simp only[hV,cK,Zc]
 split<;>omega
def ct{x a:Int}(b: -9223372036854775808<=x+a)(c:x+a<9223372036854775808):ag .add (.int .i64 x) (.int .i64 a)=some (.int .i64 (x+a)):=by
 simp[ag,fK,f0,fH,fm,wrap64 b c]
def g0{x a:Int}(b: -9223372036854775808<=x-a)(c:x-a<9223372036854775808):ag .sub (.int .i64 x) (.int .i64 a)=some (.int .i64 (x-a)):=by
 simp[ag,fK,f0,fH,fm,wrap64 b c]
def GM(x a:Int):ag .add (.int .u64 x) (.int .u64 a)=some (.int .u64 ((x+a)%18446744073709551616)):=by
 simp[ag,fK,f0,fH,fm,hV]
def mq{an b A len cap i:Nat}(k:IntKind)(e:i<len):bH an (.slice b A len cap) (.int k (i:Int))=some (.ptr b (A+i*an)):=by
 simp[bH,mz,mP,cK,Nat.blt,e];omega
def oJ{an b A len cap i:Nat}(k:IntKind)(e:i<len):bH an (.cH b A len cap) (.int k (i:Int))=some (.ptr b (A+i*an)):=by
 simp[bH,mz,mP,cK,Nat.blt,e];omega
def lQ(d b A:Nat):ao d (.ptr b A)=some (.ptr b (A+d)):=rfl
def lO(i:Nat)(h:List q):dE i (.tuple h)=h[i]? :=by simp[dE]
def lP(b A:Nat):aY (.ptr b A)=some (.ptr b A):=rfl
def lo(b:Bool):cY .not (.bool b)=some (.bool (!b)):=by simp[cY,jW]
def dF(c:F q)(h:List q):Prop:=∀i,c.get i=h[i]?
def dj(h:List q):dF (F.ofList h 0 .nil) h:=λi=>fD h i
def dF.app{c:F q}{h:List q}(e:dF c h)(m:List q):dF (cL c h.length m) (h++m):=by
 intro i
 rw[iH]
 by_cases a:h.length<=i/\i<h.length+m.length
 ·rw[Zv a,Zy a.1]
 ·rw[Zj a,e i]
  by_cases b:i<h.length
  ·rw[ZA b]
  ·rw[Z3 Zo,Z3 Zx]
end
end
noncomputable section
section
variable{C:ax}{S:F ac}{nx:Nat}
def gg{a b:Nat}(e:a<=b):Nat.ble a b=true:=by simpa using e
def Eu{a b:Nat}(e:a<b):Nat.blt a b=true:=by simp[Nat.blt];omega
def yj:∀(h:List Nat) (S:F ac) (b:Nat),(∀x∈h,C.aN<=x)->b∉h->H C (fL C h S) b=H C S b:=by
 intro h
 induction h with
 |nil=>intro S b _ _;rfl
 |cons a h U=>
  intro S b ap c
  simp only[Zz,not_or]at c
  simp only[fL]
  rw[U _ _ (λx d=>ap x (Zi _ d)) c.2,aV (ap a (Zl ..)) c.1]
def c9(C:ax)(S:F ac)(s:q)(an:Nat)(h:List q)(aH:List Nat):Prop:=
 (s= .aw/\h=[]/\aH=[])\/∃b ch n c,s= .cH b 0 n an/\h.length=n*an/\aH=b::ch/\(∀x∈aH,C.aN<=x)/\b∉ch/\H C S b=some (.cells c (n*an) (.grow ch))/\dF c h
def c9.R{B:F ac}{s:q}{an:Nat}{h:List q}{aH:List Nat}(e:c9 C S s an h aH)(t:∀d∈aH,H C B d=H C S d):c9 C B s an h aH:=by
 rcases e with e|⟨b,ch,n,c,f,g,a,i,m,p,r⟩
 ·exact .inl e
 ·exact .inr ⟨b,ch,n,c,f,g,a,i,m,by rw[t b (by rw[a];exact Zl ..)];exact p,r⟩
def c9.at{an:Nat}{s:q}{h:List q}{aH:List Nat}{i:Nat}(e:c9 C S s an h aH)(ai:i*an+an<=h.length)(t:0<an)(k:IntKind):
 ∃b,aH.head?=some b/\bH an s (.int k (i:Int))=some (.ptr b (i*an))/\∀E,W C S (.ptr b (i*an+E))=h[i*an+E]? :=by
 rcases e with ⟨rfl,rfl,rfl⟩|⟨b,ch,n,c,rfl,d,rfl,p,r,f,g⟩
 ·simp at ai;omega
 ·have m:i<n:=by
   rw[d]at ai
   exact Nat.lt_of_mul_lt_mul_right (a:=an) Zo
  refine⟨b,rfl,by rw[oJ k m,ZE],λE=> ?_⟩
  rw[bX,f]
  exact g _
def i1(h:List q)(A:Nat)(aB:List q):List q:=h.take A++(aB++h.drop (A+aB.length))
def Jr{h aB:List q}{A:Nat}(e:A+aB.length<=h.length):(i1 h A aB).length=h.length:=by
 simp[i1];omega
def An{h aB:List q}{A:Nat}(e:A+aB.length<=h.length)(i:Nat):(i1 h A aB)[i]? =if A<=i/\i<A+aB.length then aB[i-A]? else h[i]? :=by
 unfold i1
 have c:(h.take A).length=A:=by simp;omega
 by_cases a:i<A
 ·rw[ZA Zo,Zj Zo,List.getElem?_take,Zv a]
 ·rw[Zy Zo,c]
  by_cases b:i<A+aB.length
  ·rw[ZA Zo,Zv ⟨Zo,b⟩]
  ·rw[Zy Zo,Zj Zo,Yz]
   congr 1
   omega
def dF.put{c:F q}{h:List q}(e:dF c h){A:Nat}{aB:List q}(ap:A+aB.length<=h.length):dF (cL c A aB) (i1 h A aB):=by
 intro i
 rw[iH,An ap,e i]
def c9.put{an:Nat}{s:q}{h aB:List q}{aH:List Nat}{b A:Nat}{v:q}(e:c9 C S s an h aH)(Y:aH.head?=some b)(Z:v.cells=aB)(w:0<aB.length)(z:cN aB=true)(m:A+aB.length<=h.length):
 ∃B,bj C S aB.length (.ptr b A) v=some B/\c9 C B s an (i1 h A aB) [b]/\∀d,d∉aH->H C B d=H C S d:=by
 rcases e with ⟨rfl,rfl,rfl⟩|⟨f,ch,n,c,rfl,G,rfl,i,T1,O,P⟩
 ·simp at Y
 ·simp only[List.head?_cons,Zu]at Y
  subst Y
  have a:=i f (Zl ..)
  have X:∀x∈ch,C.aN<=x:=λx T0=>i x (Zi _ T0)
  refine⟨aP C (fL C ch S) f (some (.cells (cL c A aB) (n*an) (.grow []))), ?_, .inr ⟨f,[],n,cL c A aB,rfl,by rw[Jr m];exact G,rfl,by simpa using a,Zs,a7 a,P.put m⟩,λd g=> ?_⟩
  ·have p:Nat.ble (A+aB.length) (n*an)=true:=gg Zo
   subst Z
   have r:Nat.blt 0 v.cells.length=true:=Eu w
   have t:Nat.beq v.cells.length v.cells.length=true:=by simp
   simp only[bj,gU,O,eS,gg a,p,r,t,z,Yi,cO,dB]
  ·simp only[Zz,not_or]at g
   rw[aV a g.1,yj _ _ _ X g.2]
def hu{an k b n:Nat}{h:List q}{c:F q}{st:h1}(e:H C S b=some (.cells c n st))(d:dF c h)(ap:h.length=k*an)(cap:Nat):gu C S an (.slice b 0 k cap)=some (k,h):=by
 have f:∀(m A:Nat),A+m<=h.length->c.eK A m=some ((h.drop A).take m):=by
  intro m
  induction m with
  |zero=>intro A _;simp[F.eK]
  |succ m U=>
   intro A g
   have a:c.get A=some h[A]:=by rw[d A,Ze Zo]
   simp only[F.eK,a,U (A+1) Zo]
   rw[ZY (by omega:A<h.length),ZO]
 simp only[gu,fW,cellsOf,e]
 rw[f (k*an) 0 Zo]
 simp[<-ap]
def cM{b:c8->c8}{y:b8}{S:F ac}{nx:Nat}(a:Nat->c8)(m:Nat)(d:a m y S nx)(e:∀m y S nx,a m y S nx->b (λy S nx=>∃c,c<m/\a c y S nx) y S nx):cC b y S nx:=⟨⟨a,⟨m,d⟩,e⟩⟩
def tV{c:F q}{h:List q}(b:dF c h):∀(m A:Nat),A+m<=h.length->c.eK A m=some ((h.drop A).take m):=by
 intro m
 induction m with
 |zero=>intro A _;simp[F.eK]
 |succ m U=>
  intro A d
  have a:c.get A=some h[A]:=by rw[b A,Ze Zo]
  simp only[F.eK,a,U (A+1) Zo]
  rw[ZY (by omega:A<h.length),ZO]
def c9.src{an:Nat}{s:q}{h:List q}{aH:List Nat}(e:c9 C S s an h aH):∃n,h.length=n*an/\gu C S an s=some (n,h):=by
 rcases e with ⟨rfl,rfl,rfl⟩|⟨b,ch,n,c,rfl,a,rfl,g,i,d,f⟩
 ·exact⟨0,Zs,rfl⟩
 ·refine⟨n,a, ?_⟩
  simp only[gu,fW,cellsOf,d]
  rw[tV f _ _ Zo]
  simp[<-a]
def ix{an:Nat}:∀{rows:List (List q)},(∀r∈rows,r.length=an)->rows.flatten.length=rows.length*an:=by
 intro rows
 induction rows with
 |nil=>intro _;simp
 |cons a h U=>
  intro e
  rw[Z9,ZT,e a (Zl ..),U (λr K=>e r (Zi _ K)),ZC,Z7]
  omega
abbrev zy(l:List q)(n:Nat):Option ac:=some (.cells (F.ofList l 0 .nil) n .own)
def zz(i:Nat)(h:i<1000000000:=by omega):ag .add (.Z (i:Int)) (.Z 1)=some (.Z ((i+1:Nat):Int)):=by rw[ct (by omega) (by omega)];rfl
def zA{p:Prop}(h:p:=by simp(disch:=omega) only[aV]):p:=h
def zF{z7:ax}{z8 z9:F ac}{b o:Nat}{v:Option q}(h:H z7 z9 b=H z7 z8 b)(k:W z7 z8 (.ptr b o)=v):W z7 z9 (.ptr b o)=v:=by rw[bX,h,<-bX];exact k
abbrev zC(T_:b8)(a_:Nat)(x_:q)(b_:Nat)(y_:q):b8:=I (I T_ a_ x_) b_ y_
abbrev zD(T_:b8)(a_:Nat)(x_:q)(b_:Nat)(y_:q)(c_:Nat)(z_:q):b8:=I (zC T_ a_ x_ b_ y_) c_ z_
abbrev zE(T_:b8)(a_:Nat)(x_:q)(b_:Nat)(y_:q)(c_:Nat)(w_:q)(d_:Nat)(u_:q):b8:=zC (zC T_ a_ x_ b_ y_) c_ w_ d_ u_
end
end
end Go.Q

namespace Go.a6
abbrev aT:=List Nat
structure d7 where
 b:Bool
 s:Bool
 w:Int
 deriving DecidableEq
structure Tok where
 kind:Int
 text:aT
 at_:Int
 n:Int
 ty:d7
inductive bg where
 |mk (kind at_:Int) (name:aT) (no:Bool) (ty:d7) (n:Int) (args:List bg)
structure bv where
 name:aT
 at_:Int
 ty:d7
 on:aT
 dg:Int
 no:Bool
structure dL where
 left:List aT
 bu:List Int
 at_:Int
 right:bg
structure Node where
 name:aT
 at_:Int
 cj:List bv
 out:List bv
 loc:List bv
 eqs:List dL
def ck:d7:=⟨false,false,0⟩
def bg.kind:bg->Int| .mk k _ _ _ _ _ _=>k
def bg.args:bg->List bg| .mk _ _ _ _ _ _ h=>h
abbrev el(α:Type):=Option (Except Int (α×List Tok))
def ok{α:Type}(a:α)(h:List Tok):el α:=some (.ok (a,h))
def bad{α:Type}(at_:Int):el α:=some (.error at_)
def andThen{α b:Type}(x:el α)(f:α->List Tok->el b):el b:=match x with
 |none=>none
 |some (.error a)=>some (.error a)
 |some (.ok (a,h))=>f a h
def AF(x:Tok)(s:aT):Bool:=(x.kind=2||x.kind=6)&&x.text=s
def A0(s:aT):List Tok->Option (Option Tok×List Tok)
 |[]=>none
 |x::h=>if AF x s then some (some x,h)else some (none,x::h)
def hv{a:Type}(s:aT)(h:List Tok)(f:Option Tok->List Tok->el a):el a:=match A0 s h with
 |none=>none
 |some (x,h)=>f x h
def gw(s:aT):List Tok->el Tok
 |[]=>none
 |x::h=>if AF x s then ok x h else bad x.at_
def lq(k:Int):List Tok->el Tok
 |[]=>none
 |x::h=>if x.kind=k then ok x h else bad x.at_
def ab:Nat->List (aT×Int)
 |0=>[([111,114],7),([120,111,114],8)]
 |1=>[([97,110,100],9)]
 |2=>[([61],10),([60,62],11),([60,61],13),([62,61],15),([60],12),([62],14)]
 |3=>[([43],16),([45],17)]
 |4=>[([42],18)]
 |_=>[]
def s9:List (aT×Int)->List Tok->Option (Option bg×List Tok)
 |[],h=>some (none,h)
 |(s,k)::os,h=>match A0 s h with
  |none=>none
  |some (some x,h)=>some (some (.mk k x.at_ [] false ck 0 []),h)
  |some (none,h)=>s9 os h
def bg.at_:bg->Int| .mk _ a _ _ _ _ _=>a
def HN(j:bg):Option Bool:=if j.kind=1 then some true else if j.kind=4 then(match j.args with|[]=>none|a::_=>some (decide (a.kind=1)))else some false
def bg.name:bg->aT| .mk _ _ s _ _ _ _=>s
def bg.no:bg->Bool| .mk _ _ _ b _ _ _=>b
def bg.ty:bg->d7| .mk _ _ _ _ t _ _=>t
def bg.n:bg->Int| .mk _ _ _ _ _ n _=>n
def nZ(j:bg)(a b:bg):bg:= .mk j.kind j.at_ [] false ck 0 [a,b]
def Jg:List (aT×Int):=[([110,111,116],3),([45],4),([112,114,101],5)]
mutual
def uo:Nat->Nat->List Tok->el bg
 |0,_,_=>none
 |n+1,k,h=>if k=5 then shift n h else andThen (uo n (k+1) h) λleft h=>yw n k left h
def yw:Nat->Nat->bg->List Tok->el bg
 |0,_,_,_=>none
 |n+1,k,left,h=>match s9 (ab k) h with
  |none=>none
  |some (none,h)=>ok left h
  |some (some j,h)=>andThen (uo n (k+1) h) λr h=>if k=2 then ok (nZ j left r) h else yw n k (nZ j left r) h
def shift:Nat->List Tok->el bg
 |0,_=>none
 |n+1,h=>andThen (Am n h) λleft h=>AK n left h
def AK:Nat->bg->List Tok->el bg
 |0,_,_=>none
 |n+1,left,h=>hv [60,60] h λx h=>match x with
  |some x=>AL n 19 x left h
  |none=>hv [62,62] h λx h=>match x with
   |some x=>AL n 20 x left h
   |none=>ok left h
def AL:Nat->Int->Tok->bg->List Tok->el bg
 |0,_,_,_,_=>none
 |n+1,k,x,left,h=>andThen (lq 4 h) λm h=>if 63<m.n then bad m.at_ else AK n (.mk k x.at_ [] false ck m.n [left]) h
def Am:Nat->List Tok->el bg
 |0,_=>none
 |n+1,h=>match s9 Jg h with
  |none=>none
  |some (some j,h)=>andThen (Am n h) λa h=>ok (.mk j.kind j.at_ [] false ck 0 [a]) h
  |some (none,h)=>andThen (part n h) λleft h=>Bf n left h
def Bf:Nat->bg->List Tok->el bg
 |0,_,_=>none
 |n+1,left,h=>hv [119,104,101,110] h λx h=>match x with
  |none=>ok left h
  |some x=>hv [110,111,116] h λno h=>andThen (lq 1 h) λc h=>Bf n (.mk 6 x.at_ c.text no.isSome ck 0 [left]) h
def part:Nat->List Tok->el bg
 |0,_=>none
 |_+1,[]=>none
 |n+1,x::h=>
  if x.kind=5 then ok (.mk 1 x.at_ [] false x.ty x.n []) h
  else if x.kind=2&&(x.text=[116,114,117,101]||x.text=[102,97,108,115,101])then ok (.mk 1 x.at_ [] false ⟨true,false,1⟩ (if x.text=[116,114,117,101]then 1 else 0) []) h
  else if x.kind=1 then hv [40] h λd h=>match d with
   |none=>ok (.mk 2 x.at_ x.text false ck 0 []) h
   |some _=>andThen (rW n h) λf h=>ok (.mk 25 x.at_ x.text false ck 0 f) h
  else if x.kind=3 then andThen (gw [40] h) λ_ h=>andThen (kJ n h) λj h=>andThen (gw [41] h) λ_ h=>ok (.mk 26 x.at_ [] false x.ty 0 [j]) h
  else if x.kind=6&&x.text=[40]then andThen (kJ n h) λj h=>andThen (gw [41] h) λ_ h=>ok j h
  else if x.kind=2&&x.text=[105,102]then andThen (kJ n h) λc h=>andThen (gw [116,104,101,110] h) λ_ h=>andThen (kJ n h) λa h=>andThen (gw [101,108,115,101] h) λ_ h=>andThen (kJ n h) λb h=>ok (.mk 23 x.at_ [] false ck 0 [c,a,b]) h
  else if x.kind=2&&x.text=[109,101,114,103,101]then andThen (lq 1 h) λc h=>andThen (part n h) λa h=>andThen (part n h) λb h=>ok (.mk 24 x.at_ c.text false ck 0 [a,b]) h
  else bad x.at_
def rW:Nat->List Tok->el (List bg)
 |0,_=>none
 |n+1,h=>hv [41] h λd h=>match d with
  |some _=>ok [] h
  |none=>andThen (kJ n h) λj h=>yA n [j] h
def yA:Nat->List bg->List Tok->el (List bg)
 |0,_,_=>none
 |n+1,f,h=>hv [44] h λd h=>match d with
  |none=>andThen (gw [41] h) λ_ h=>ok f h
  |some _=>andThen (kJ n h) λj h=>yA n (f++[j]) h
def rr:Nat->List Tok->el bg
 |0,_=>none
 |n+1,h=>andThen (uo n 0 h) λleft h=>hv [102,98,121] h λx h=>match x with
  |none=>ok left h
  |some x=>match HN left with
   |none=>none
   |some true=>andThen (rr n h) λr h=>ok (.mk 21 x.at_ [] false ck 0 [left,r]) h
   |some false=>bad x.at_
def kJ:Nat->List Tok->el bg
 |0,_=>none
 |n+1,h=>andThen (rr n h) λleft h=>hv [45,62] h λx h=>match x with
  |none=>ok left h
  |some x=>andThen (kJ n h) λr h=>ok (.mk 22 x.at_ [] false ck 0 [left,r]) h
end
def uw:Nat->List Tok->List Tok->el (List Tok)
 |0,_,_=>none
 |n+1,a,h=>andThen (lq 1 h) λx h=>hv [44] h λb h=>match b with
  |none=>ok (a++[x]) h
  |some _=>uw n (a++[x]) h
def EX(ty:d7)(on:aT)(dg:Int)(no:Bool)(x:Tok):bv:=⟨x.text,x.at_,ty,on,dg,no⟩
def ve:Nat->List Tok->Option aT
 |_,[]=>none
 |0,x::_=>some x.text
 |i+1,_::h=>ve i h
def E0(loc:Bool)(k:List bv->List Tok->el (List bv))(ds:List bv)(h:List Tok):el (List bv):=match ve 0 h with
 |none=>none
 |some s=>if s=[59]then(if loc then(match ve 1 h with
   |none=>none
   |some s=>if s=[108,101,116]then ok ds h else k ds (h.drop 1))else k ds (h.drop 1))
  else ok ds h
def E1(w:Option Tok)(h:List Tok):el (aT×Int×Bool):=match w with
 |none=>ok ([],0,false) h
 |some _=>hv [110,111,116] h λno h=>andThen (lq 1 h) λon h=>ok (on.text,on.at_,no.isSome) h
def EZ(loc:Bool)(k:List bv->List Tok->el (List bv))(ds:List bv)(a:List Tok)(h:List Tok):el (List bv):=
 andThen (gw [58] h) λ_ h=>andThen (lq 3 h) λt h=>hv [119,104,101,110] h λw h=>
 andThen (E1 w h) λr h=>E0 loc k (ds++a.map (EX t.ty r.1 r.2.1 r.2.2)) h
def q7:Nat->Bool->List bv->List Tok->el (List bv)
 |0,_,_,_=>none
 |n+1,loc,ds,h=>andThen (uw n [] h) λa h=>EZ loc (q7 n loc) ds a h
def tB(n:Nat)(h:List Tok):el dL:=hv [40] h λb h=>
 andThen (match b with
  |some _=>andThen (lq 1 h) λx h=>andThen (gw [44] h) λ_ h=>andThen (uw n [x] h) λa h=>andThen (gw [41] h) λ_ h=>ok a h
  |none=>andThen (lq 1 h) λx h=>ok [x] h) λa h=>
 andThen (gw [61] h) λj h=>andThen (kJ n h) λr h=>andThen (gw [59] h) λ_ h=>ok ⟨a.map Tok.text,a.map Tok.at_,j.at_,r⟩ h
def eqns:Nat->List dL->List Tok->el (List dL)
 |0,_,_=>none
 |n+1,dc,h=>hv [116,101,108] h λa h=>match a with
  |some _=>ok dc h
  |none=>andThen (tB n h) λJ h=>eqns n (dc++[J]) h
def node(n:Nat)(h:List Tok):el Node:=
 andThen (gw [110,111,100,101] h) λ_ h=>andThen (lq 1 h) λx h=>andThen (gw [40] h) λ_ h=>hv [41] h λa h=>
 andThen (match a with
  |some _=>ok [] h
  |none=>andThen (q7 n false [] h) λds h=>andThen (gw [41] h) λ_ h=>ok ds h) λcj h=>
 andThen (gw [114,101,116,117,114,110,115] h) λ_ h=>andThen (gw [40] h) λ_ h=>andThen (q7 n false [] h) λout h=>andThen (gw [41] h) λ_ h=>
 hv [118,97,114] h λa h=>andThen (match a with
  |some _=>andThen (q7 n true [] h) λds h=>andThen (gw [59] h) λ_ h=>ok ds h
  |none=>ok [] h) λloc h=>
 andThen (gw [108,101,116] h) λ_ h=>andThen (eqns n [] h) λdc h=>ok ⟨x.text,x.at_,cj,out,loc,dc⟩ h
end Go.a6

