/- Part of the proof of the last text; no conditions -/
import Derived.Test.YtmipngjbcdamjaaGreatDoorYf
set_option maxHeartbeats 8000000
set_option linter.all false
namespace Go.S
noncomputable section
open Go.RowKit (Below)
def dv(B:ca)(t:I y):Prop:=∀n v,B.g n=some v->t.get n=some v
section
variable{C:aC}{h:I ae}{j:Nat}{aa:List (Nat×y)}{B:ca}{t:I y}
def gF(e:dv B t){x:eT}{R:y->Prop}(b:eB x aa B R):∃a,fd x aa t=some a/\R a:=by
 cases x with
 |v H=>exact iF.1 b
 |t n=>
  obtain⟨a,d,f⟩:=iF.1 (show Q (B n) R from b)
  exact⟨a,e n a d,f⟩
 |c a=>exact⟨a,rfl,b⟩
def FJ(e:dv B t):∀{k:List eT}{R:List y->Prop},rp aa B k R->∃c,me aa t k=some c/\R c:=by
 intro k
 induction k with
 |nil=>intro R b;exact⟨[],rfl,b⟩
 |cons x k V=>
  intro R b
  obtain⟨a,d,f⟩:=gF e (show eB x aa B (λa=>rp aa B k λr=>R (a::r)) from b)
  obtain⟨r,g,i⟩:=V f
  exact⟨a::r,by simp[me,d,g],i⟩
def dI(e:dv B t){a6:List (Nat×Nat)}{D:Operand}{R:y->Prop}(b:cp a6 aa B D R):∃a,ek a6 aa t D=some a/\R a:=by
 cases D with
 |tmp n=>
  simp only[cp]at b
  simp only[ek]
  cases c:cf a6 n with
  |some H=>simp only[c]at b ⊢;exact iF.1 b
  |none=>
   simp only[c]at b ⊢
   obtain⟨a,d,i⟩:=iF.1 b
   exact⟨a,e n a d,i⟩
 |const v=>exact iF.1 b
 |global g=>exact⟨_,rfl,b⟩
 |func f=>exact⟨_,rfl,b⟩
def nN(e:dv B t){a6:List (Nat×Nat)}:∀{k:List Operand}{R:List y->Prop},iE a6 aa B k R->∃c,hm (ek a6 aa t) k=some c/\R c:=by
 intro k
 induction k with
 |nil=>intro R b;exact⟨[],rfl,b⟩
 |cons x k V=>
  intro R b
  obtain⟨a,d,f⟩:=dI e (show cp a6 aa B x (λa=>iE a6 aa B k λr=>R (a::r)) from b)
  obtain⟨r,g,i⟩:=V f
  exact⟨a::r,by simp[hm,d,g],i⟩
def uK(e:dv B t){a6:List (Nat×Nat)}:∀{k:List (Nat×Operand)}{R:List (Nat×y)->Prop},mI a6 aa B k R->∃c,kX (ek a6 aa t) k=some c/\R c:=by
 intro k
 induction k with
 |nil=>intro R b;exact⟨[],rfl,b⟩
 |cons x k V=>
  intro R b
  obtain⟨i,D⟩:=x
  obtain⟨a,d,f⟩:=dI e (show cp a6 aa B D (λa=>mI a6 aa B k λr=>R ((i,a)::r)) from b)
  obtain⟨r,g,m⟩:=V f
  exact⟨(i,a)::r,by simp[kX,d,g],m⟩
def uG(e:dv B t){a6:List (Nat×Nat)}{D:Option Operand}{R:Option y->Prop}(b:sa a6 aa B D R):∃a,mH (ek a6 aa t) D=some a/\R a:=by
 cases D with
 |none=>exact⟨none,rfl,b⟩
 |some x=>
  obtain⟨a,c,d⟩:=dI e (show cp a6 aa B x (λa=>R (some a)) from b)
  exact⟨some a,by simp[mH,c],d⟩
def HH(e:dv B t){a6:List (Nat×Nat)}{D:Op}{R:y->Prop}(w:yw a6 D C h aa B R):∃v,gB D C h (ek a6 aa t)=some v/\R v:=by
 cases D with
 |build ty parts=>
  obtain⟨bH,g,n⟩:=uK e (show mI a6 aa B parts.toList _ from w)
  obtain⟨v,p,r⟩:=(e3.1 n)
  exact⟨v,by simp[gB,uc,g,p],r⟩
 |binOp op ty x T3 T4=>
  obtain⟨a,g,n⟩:=dI e (show cp a6 aa B x _ from w)
  obtain⟨b,p,r⟩:=dI e n
  obtain⟨v,z,G⟩:=(e3.1 r)
  exact⟨v,by simp[gB,rO,g,p,z],G⟩
 |unOp op ty x=>
  obtain⟨a,g,n⟩:=dI e (show cp a6 aa B x _ from w)
  obtain⟨v,p,r⟩:=(e3.1 n)
  exact⟨v,by simp[gB,uj,g,p],r⟩
 |convert s d x=>
  obtain⟨a,g,n⟩:=dI e (show cp a6 aa B x _ from w)
  obtain⟨v,p,r⟩:=(e3.1 n)
  exact⟨v,by simpa[gB,p0,xm,fQ,g]using p,r⟩
 |makeInterface ty x=>
  obtain⟨a,g,n⟩:=dI e (show cp a6 aa B x _ from w)
  obtain⟨v,p,r⟩:=(e3.1 n)
  exact⟨v,by simpa[gB,p3,yc,fQ,g]using p,r⟩
 |makeFunc fn first T1=>
  cases fn with
  |func f=>
   obtain⟨a,g,n⟩:=nN e (show iE a6 aa B first.toList _ from w)
   obtain⟨b,p,r⟩:=nN e n
   exact⟨_,by simp[gB,uf,g,p],r⟩
  |_=>exact w.elim
 |slice ty x aF ak T2=>
  obtain⟨a,g,n⟩:=dI e (show cp a6 aa B x _ from w)
  obtain⟨k,p,r⟩:=uG e n
  obtain⟨b,z,G⟩:=uG e r
  obtain⟨m,P,X⟩:=uG e G
  obtain⟨v,Y,O⟩:=(e3.1 X)
  exact⟨v,by simp[gB,ui,g,p,z,P,Y],O⟩
 |field ty x f=>
  obtain⟨a,g,n⟩:=dI e (show cp a6 aa B x _ from w)
  obtain⟨v,p,r⟩:=(e3.1 n)
  exact⟨v,by simpa[gB,p2,xL,fQ,g]using p,r⟩
 |index ty x i=>
  obtain⟨a,g,n⟩:=dI e (show cp a6 aa B x _ from w)
  obtain⟨b,p,r⟩:=dI e n
  obtain⟨v,z,G⟩:=(e3.1 r)
  exact⟨v,by simp[gB,ug,g,p,z],G⟩
 |lookup ty m o ok=>
  obtain⟨a,g,n⟩:=dI e (show cp a6 aa B m _ from w)
  obtain⟨b,p,r⟩:=dI e n
  obtain⟨v,z,G⟩:=(e3.1 r)
  exact⟨v,by simp[gB,uh,g,p,z],G⟩
 |typeAssert x ty T0 ok=>
  obtain⟨a,g,n⟩:=dI e (show cp a6 aa B x _ from w)
  obtain⟨v,p,r⟩:=(e3.1 n)
  exact⟨v,by simpa[gB,pZ,w7,fQ,g]using p,r⟩
 |entry Z=>
  obtain⟨a,g,n⟩:=dI e (show cp a6 aa B Z _ from w)
  obtain⟨v,p,r⟩:=(e3.1 n)
  exact⟨v,by simpa[gB,p1,xE,fQ,g]using p,r⟩
 |call c=>
  obtain⟨callee,args,bw⟩:=c
  cases callee with
  |builtin b=>
   obtain⟨aE,g,n⟩:=nN e (show iE a6 aa B args.toList _ from w)
   obtain⟨v,p,r⟩:=(e3.1 n)
   refine⟨v, ?_,r⟩
   have l:gB (.call ⟨.builtin b,args,bw⟩) C h (ek a6 aa t)=j0 C h b bw.toList aE:=by
    simp only[gB,ue,ud,g,j0]
    repeat' split
    all_goals first|rfl|simp_all
   rw[l];exact p
  |_=>exact w.elim
 |_=>exact w.elim
def rS(e:dv B t){op:eD}{R:y->Prop}(r:oQ op C h aa B R):∃v,dk op C h aa t=some v/\R v:=by
 cases op with
 |nE x=>exact gF e r
 |pick c a b=>
  obtain⟨P,f,g⟩:=gF e (show eB c aa B _ from r)
  obtain⟨O,rfl,m,p⟩:=xa g.out
  cases O with
  |true=>
   obtain⟨v,s,w⟩:=gF e (m rfl)
   exact⟨v,by simp[dk,f,sK,s],w⟩
  |false=>
   obtain⟨v,s,w⟩:=gF e (p rfl)
   exact⟨v,by simp[dk,f,sK,s],w⟩
 |cZ a=>
  obtain⟨z,f,g⟩:=gF e (show eB a aa B _ from r)
  obtain⟨v,m,p⟩:=(e3.1 g)
  exact⟨v,by simp[dk,f,m],p⟩
 |mx n a=>
  obtain⟨z,f,g⟩:=gF e (show eB a aa B _ from r)
  obtain⟨v,m,p⟩:=(e3.1 g)
  exact⟨v,by simp[dk,f,m],p⟩
 |off d x=>
  obtain⟨z,f,g⟩:=gF e (show eB x aa B _ from r)
  obtain⟨v,m,p⟩:=(e3.1 g)
  exact⟨v,by simp[dk,f,m],p⟩
 |mr n ap x i=>
  obtain⟨z,f,g⟩:=gF e (show eB x aa B _ from r)
  obtain⟨G,m,p⟩:=gF e g
  obtain⟨v,s,w⟩:=(e3.1 p)
  exact⟨v,by simp only[dk,f,m];unfold t6 at s;cases ak:f3 G<;>simp_all,w⟩
 |ms ap x i=>
  obtain⟨z,f,g⟩:=gF e (show eB x aa B _ from r)
  obtain⟨G,m,p⟩:=gF e g
  obtain⟨v,s,w⟩:=(e3.1 p)
  exact⟨v,by simp only[dk,f,m];unfold bK at s;cases ak:f3 G<;>simp_all,w⟩
 |nH x=>
  obtain⟨z,f,g⟩:=gF e (show eB x aa B _ from r)
  obtain⟨v,m,p⟩:=(e3.1 g)
  exact⟨v,by simp[dk,f,m],p⟩
 |pR op x X=>
  obtain⟨z,f,g⟩:=gF e (show eB x aa B _ from r)
  obtain⟨G,m,p⟩:=gF e g
  obtain⟨v,s,w⟩:=(e3.1 p)
  exact⟨v,by simp[dk,f,m,s],w⟩
 |ext i x=>
  obtain⟨z,f,g⟩:=gF e (show eB x aa B _ from r)
  obtain⟨v,m,p⟩:=(e3.1 g)
  exact⟨v,by simp[dk,f,m],p⟩
 |dV a6 D=>exact HH e r
 |_=>exact r.elim
def H0(e:dv B t){op:eD}{b:Nat}{R:bh}(c:yE op C h b aa B R):∃v bN,gG op C b aa t=some (v,bN)/\R v (aS C h b (some bN)) (b+1):=by
 cases op with
 |make a6 D=>
  cases D with
  |alloc ty=>
   obtain⟨⟨v,bN⟩,d,f⟩:=e3.1 (show q (nB C ty (fQ undef) b) _ from c)
   exact⟨v,bN,d,f.out⟩
  |box ty x=>
   obtain⟨a,d,f⟩:=dI e (show cp a6 aa B x _ from c)
   exact⟨_,_,by simp only[gG,hH,p7,d],f.out⟩
  |buildSlice ty len parts=>
   obtain⟨bH,d,f⟩:=uK e (show mI a6 aa B parts.toList _ from c)
   obtain⟨⟨v,bN⟩,g,i⟩:=(e3.1 f)
   refine⟨v,bN, ?_,i.out⟩
   simp only[gG,hH,p8,d]
   unfold sy at g
   split at g
   ·rename_i m
    simp only[m]
    exact g
   ·cases g
  |makeMap ty r=>
   cases r with
   |none=>exact⟨_,_,rfl,(show b4 C h b _ _ R from c).out⟩
   |some r=>exact c.elim
  |_=>exact c.elim
 |_=>exact c.elim
def HY(e:dv B t){op:eD}{b:Nat}{R:y->I ae->Prop}(c:uu op C h b aa B R):∃v bN,gG op C b aa t=some (v,bN)/\R v (aS C h b (some bN)):=by
 cases op with
 |make a6 D=>
  cases D with
  |alloc ty=>
   obtain⟨⟨v,bN⟩,d,f⟩:=e3.1 (show q (nB C ty (fQ undef) b) _ from c)
   exact⟨v,bN,d,f.out⟩
  |box ty x=>
   obtain⟨a,d,f⟩:=dI e (show cp a6 aa B x _ from c)
   exact⟨_,_,by simp only[gG,hH,p7,d],f.out⟩
  |buildSlice ty len parts=>
   obtain⟨bH,d,f⟩:=uK e (show mI a6 aa B parts.toList _ from c)
   obtain⟨⟨v,bN⟩,g,i⟩:=(e3.1 f)
   refine⟨v,bN, ?_,i.out⟩
   simp only[gG,hH,p8,d]
   unfold sy at g
   split at g
   ·rename_i m
    simp only[m]
    exact g
   ·cases g
  |makeMap ty r=>
   cases r with
   |none=>exact⟨_,_,rfl,(show fO C h b _ _ R from c).out⟩
   |some r=>exact c.elim
  |_=>exact c.elim
 |_=>exact c.elim
def xc{rd:Bool}{f:Nat}{a:List y}{R af:bh}(e:aN C f a h j R af):∃r,iv C f a=some r/\m9 C rd (some r) h j R af:=by
 rcases e.out with ⟨N,b,d⟩|⟨b,⟨fn,c,d,g⟩,i⟩
 ·exact⟨.known f a N,by simp[iv,b],d⟩
 ·exact⟨.enter f a,by simp[iv,b,d,g],i⟩
def ly{rd:Bool}{D:Option b1}{R af:bh}(e:dA D h j R):∃r,D=some r/\m9 C rd (some r) h j R af:=by
 rw[JC]at e
 split at e
 ·exact⟨_,rfl,e⟩
 ·exact⟨_,rfl,e⟩
 ·exact e.elim
def F9{rd:Bool}{D:Option b1}{R af:bh}(e:tT D h j R):∃r,D=some r/\m9 C rd (some r) h j R af:=by
 rw[Ga]at e
 split at e
 ·exact⟨_,rfl,e⟩
 ·exact⟨_,rfl,e⟩
 ·exact⟨_,rfl,e⟩
 ·exact e.elim
def x8(e:dv B t){rd:Bool}{op:eD}{R af:bh}(G:t2 rd op C h j aa B R af):∃r,dQ op C h j aa t=some r/\m9 C rd (some r) h j R af:=by
 cases op with
 |st n a v=>
  obtain⟨T4,i,g⟩:=gF e (show eB a aa B _ from G)
  obtain⟨T7,O,p⟩:=gF e g
  obtain⟨E,P,X⟩:=(e3.1 p)
  refine⟨.cy undef E j, ?_,X⟩
  simp only[dQ,i,O]
  unfold bj at P
  split at P
  ·simp only[cg]at P
   simp[sA,P.2,cN,P.1]
  ·cases P
 |call f args=>
  obtain⟨Y,i,g⟩:=FJ e (show rp aa B args _ from G)
  obtain⟨r,O,p⟩:=xc (rd:=rd) g
  exact⟨r,by simp[dQ,i,O],p⟩
 |cB a6 D=>
  cases D with
  |mapUpdate ty m o x=>
   obtain⟨a,i,g⟩:=dI e (show cp a6 aa B m _ from G)
   obtain⟨b,O,p⟩:=dI e g
   obtain⟨c,P,X⟩:=dI e p
   obtain⟨r,w,z⟩:=ly (C:=C) (af:=af) (rd:=rd) X
   exact⟨r,by simp[dQ,gi,oH,i,O,P,w],z⟩
  |insert ty m o x=>
   obtain⟨a,i,g⟩:=dI e (show cp a6 aa B m _ from G)
   obtain⟨b,O,p⟩:=dI e g
   obtain⟨c,P,X⟩:=dI e p
   obtain⟨r,w,z⟩:=ly (C:=C) (af:=af) (rd:=rd) X
   exact⟨r,by simp[dQ,gi,oH,i,O,P,w],z⟩
  |mapEntry ty m o=>
   obtain⟨a,i,g⟩:=dI e (show cp a6 aa B m _ from G)
   obtain⟨b,O,p⟩:=dI e g
   obtain⟨r,w,z⟩:=ly (C:=C) (af:=af) (rd:=rd) p
   exact⟨r,by simpa[dQ,gi,pM,n2,Go.S.fu,Go.S.eP,i,O]using w,z⟩
  |entryStore ty m s x=>
   obtain⟨a,i,g⟩:=dI e (show cp a6 aa B m _ from G)
   obtain⟨b,O,p⟩:=dI e g
   obtain⟨c,P,X⟩:=dI e p
   obtain⟨r,w,z⟩:=ly (C:=C) (af:=af) (rd:=rd) X
   exact⟨r,by simpa[dQ,gi,pJ,AY,Go.S.fu,Go.S.eP,Go.S.lr,i,O,P]using w,z⟩
  |makeSlice ty k c=>
   obtain⟨a,i,g⟩:=dI e (show cp a6 aa B k _ from G)
   obtain⟨b,O,p⟩:=dI e g
   obtain⟨r,w,z⟩:=ly (C:=C) (af:=af) (rd:=rd) p
   exact⟨r,by simpa[dQ,gi,pL,n2,Go.S.fu,Go.S.eP,i,O]using w,z⟩
  |makeMap ty T1=>
   cases T1 with
   |none=>exact G.elim
   |some x=>
    obtain⟨a,i,g⟩:=dI e (show cp a6 aa B x _ from G)
    obtain⟨r,w,z⟩:=ly (C:=C) (af:=af) (rd:=rd) g
    exact⟨r,by simpa[dQ,gi,pK,fQ,i]using w,z⟩
  |convert s d x=>
   obtain⟨a,i,g⟩:=dI e (show cp a6 aa B x _ from G)
   obtain⟨r,w,z⟩:=ly (C:=C) (af:=af) (rd:=rd) g
   exact⟨r,by simpa[dQ,gi,pP,fQ,i]using w,z⟩
  |range ty x=>
   obtain⟨a,i,g⟩:=dI e (show cp a6 aa B x _ from G)
   obtain⟨r,w,z⟩:=ly (C:=C) (af:=af) (rd:=rd) g
   exact⟨r,by simpa[dQ,gi,pO,fQ,i]using w,z⟩
  |next T0 T6=>
   obtain⟨a,i,g⟩:=dI e (show cp a6 aa B T0 _ from G)
   obtain⟨r,w,z⟩:=F9 (C:=C) (af:=af) (rd:=rd) g
   exact⟨r,by simpa[dQ,gi,pN,fQ,i]using w,z⟩
  |panic x=>
   cases rd with
   |true=>exact(show False from G).elim
   |false=>
    obtain⟨a,i,g⟩:=dI e (show cp a6 aa B x _ from G)
    rw[I1]at g
    split at g
    ·rename_i T2 T3
     exact⟨.panic (.iface T2 T3),by simp[dQ,gi,t1,i],g⟩
    ·exact g.elim
  |call c=>
   obtain⟨callee,args,bw⟩:=c
   cases callee with
   |value f=>
    obtain⟨T5,i,g⟩:=dI e (show cp a6 aa B f _ from G)
    obtain⟨Y,O,p⟩:=nN e g
    have p:=p.out
    split at p
    ·split at p
     ·obtain⟨r,P,X⟩:=xc (rd:=rd) p
      exact⟨r,by simp[dQ,gi,nv,i,O,l2];simpa using P,X⟩
     ·exact⟨.round _ _,by simp only[dQ,gi,nv,i,O,l2],p⟩
     ·exact p.elim
    ·exact p.elim
   |builtin b=>
    obtain⟨aE,i,g⟩:=nN e (show iE a6 aa B args.toList _ from G)
    obtain⟨r,w,z⟩:=ly (C:=C) (af:=af) (rd:=rd) g
    refine⟨r, ?_,z⟩
    have l:∀r,oI C h j b bw.toList aE=some r->dQ (.cB a6 (.call ⟨.builtin b,args,bw⟩)) C h j aa t=some r:=by
     intro r M
     simp only[dQ,gi,nv,pI,i]
     unfold oI at M
     split at M
     all_goals first|exact M|cases M
    exact l r w
   |invoke x name=>
    obtain⟨dB,i,g⟩:=dI e (show cp a6 aa B x _ from G)
    obtain⟨Y,O,p⟩:=nN e g
    rw[Ic]at p
    split at p
    ·cases Z:oh C h _ _ name Y with
     |none=>rw[Z]at p;exact p.elim
     |some r=>rw[Z]at p;exact⟨r,by simp[dQ,gi,nv,i,O,Z],p⟩
    ·exact p.elim
  |_=>exact G.elim
 |_=>exact G.elim
def GA{c:Bool}{v:y}{a b:Prop}(e:ag c v a b):∃w,(match v with| .bool b=>some (b==c)|_=>some false)=some w/\(w=true->a)/\(w=false->b):=by
 have e:=e.out
 cases v with
 |bool t=>
  obtain⟨d,f⟩:=e
  refine⟨t==c,rfl,λl=>d (by simpa using l),λl=>f ?_⟩
  cases t<;>cases c<;>simp_all
 |_=>exact⟨false,rfl,Zs,λ_=>e⟩
def sF{g:Option (Nat×Bool)}{a b:Prop}(e:sE g aa a b):∃w,gQ g aa=some w/\(w=true->a)/\(w=false->b):=by
 cases g with
 |none=>exact⟨true,rfl,λ_=>e,Zs⟩
 |some p=>
  obtain⟨H,m⟩:=p
  obtain⟨v,c,d⟩:=iF.1 (show Q (cf aa H) _ from e)
  obtain⟨w,f,i⟩:=GA d
  exact⟨w,by simp only[gQ,c];exact f,i⟩
def AG(e:dv B t)(d:Nat)(v:y):dv (K B d v) (t.set d (some v)):=by
 intro n N a
 have a:=(show aT (Nat.beq d n) (some v) (B.g n)=some N from a)
 rw[d5]at a
 rw[I.gn]
 split at a
 ·rename_i l;rw[Zv l];exact a
 ·rename_i l;rw[Zj l];exact e n N a
def xM:∀{k:List (Nat×Nat)}{B:ca}{t:I y}{R:ca->Prop},dv B t->pF k aa B R->∃a b,k0 aa k t=some b/\dv a b/\(a.aA=B.aA/\a.rc=B.rc)/\R a:=by
 intro k
 induction k with
 |nil=>intro B t R e c;exact⟨B,t,rfl,e,⟨rfl,rfl⟩,c⟩
 |cons p k V=>
  intro B t R e c
  obtain⟨i,d⟩:=p
  obtain⟨v,f,g⟩:=iF.1 (show Q (cf aa i) (λv=>pF k aa (K B d v) R) from c)
  obtain⟨a,b,m,n,r⟩:=V (AG e d v) g
  exact⟨a,b,by simp[k0,f,m],n,r⟩
def Kt{op:eD}{a6:List (Nat×Nat)}{f:Operand}{args:List Operand}(e:nZ op= .defer a6 f args):∃c:Array Operand×Array TypeId,args=c.1.toList/\op= .cB a6 (.defer ⟨.value f,c.1,c.2⟩):=by
 unfold nZ at e
 split at e
 ·split at e
  ·split at e
   ·injection e with a b d
    subst a b d
    exact⟨(_,_),rfl,rfl⟩
   ·cases e
  ·split at e
   ·split at e<;>cases e
   ·cases e
  ·cases e
 ·cases e
def Ku{op:eD}(e:nZ op= .recover):∃a6 bw args,op= .cB a6 (.call ⟨.builtin .recover,args,bw⟩)/\args.toList=[]:=by
 unfold nZ at e
 split at e
 ·split at e
  ·split at e<;>cases e
  ·split at e
   ·split at e
    ·rename_i a
     exact⟨_,_,_,rfl,a⟩
    ·cases e
   ·cases e
  ·cases e
 ·cases e
def JE(e:dv B t):∀{k:List ResultVar}{R:List y->Prop},i7 C h B k R->∃aE,ko C h t k=some aE/\R aE:=by
 intro k
 induction k with
 |nil=>intro R b;exact⟨[],rfl,b⟩
 |cons x k V=>
  intro R b
  cases x with
  |tmp n=>
   obtain⟨v,c,d⟩:=iF.1 (show Q (B n) (λv=>i7 C h B k λr=>R (v::r)) from b)
   obtain⟨r,f,g⟩:=V d
   exact⟨v::r,by simp[ko,e n v c,f],g⟩
  |cell a ty=>
   obtain⟨p,c,d⟩:=iF.1 (show Q (B a) (λp=>q (iO C h ty p) λv=>i7 C h B k λr=>R (v::r)) from b)
   obtain⟨v,f,g⟩:=(e3.1 d)
   obtain⟨r,i,m⟩:=V g
   exact⟨v::r,by simp[ko,e a p c,f,i],m⟩
def HJ(e:dv B t){base:Nat}:∀{k:List cE}{aa:List (Nat×y)}{h:I ae}{R:List (Nat×y)->I ae->Prop},rU C base B k aa h R->∃g E,j4 C base t k aa h=some (g,E)/\R g E:=by
 intro k
 induction k with
 |nil=>intro aa h R f;exact⟨aa,h,rfl,f⟩
 |cons x k V=>
  intro aa h R f
  obtain⟨w,i,m,n⟩:=sF ((LA ..).mp (show vj x.g aa (λH=>match f1 x.op with
   | .make=>uu x.op C h (base+x.i) aa B H
   |_=>oQ x.op C h aa B λv=>H v h) (λv h=>rU C base B k ((x.i,v)::aa) h R) h from f))
  simp only[j4,i]
  cases w with
  |false=>exact V (n rfl)
  |true=>
   have a:=m rfl
   cases d:f1 x.op with
   |make=>
    simp only[d]at a
    obtain⟨v,bN,b,c⟩:=HY e a
    simp only[b,dF]
    exact V c
   |dV=>
    simp only[d]at a
    obtain⟨v,b,c⟩:=rS e a
    simp only[b]
    exact V c
   |cB=>
    simp only[d]at a
    obtain⟨v,b,c⟩:=rS e a
    simp only[b]
    exact V c
def Jv(e:dv B t):∀{k:List cE}{R:Prop},uS C B aa h k R->nk C t aa h k=true/\R:=by
 intro k
 induction k with
 |nil=>intro R a;exact⟨rfl,a⟩
 |cons x k V=>
  intro R a
  obtain⟨w,b,f,g⟩:=sF ((LB ..).mp (show vk x.g aa (λL=>oQ x.op C h aa B λv=>eR v (cf aa x.i) L) (uS C B aa h k R) from a))
  simp only[nk,b]
  cases w with
  |false=>exact V (g rfl)
  |true=>
   obtain⟨v,i,m⟩:=rS e (f rfl)
   obtain⟨N,n,p,r⟩:=iF.1 m.out
   obtain⟨c,d⟩:=V r
   exact⟨by simp[i,n,p,c],d⟩
end
section
variable{C:aC}{bY:bE}{b8:Nat->Prop}{aI:World}{aQ:Nat}{aX:List Frame}{v:y}
variable{fn n ac:Nat}{aV:je}{ao:Bool}{ro:Option Nat}{cs bJ:List dq}
def fp(a:Env C aI bY b8){aV:fa}{todo:List bV}{aw:d1}{B:I y}{h:I ae}{j:Nat}(e:va (cY C aI aQ aX v) C aV todo aw B h j=some v):gS C aI aQ aX aV todo aw B h j v:=
 λA F w bv tmps aG U b=>AQ a wZ _ _ _ _ _ _ _ _ _ _ _ _ v e A F w bv tmps aG U b
def cG(aV:je)(fn n ac:Nat)(ao:Bool)(ro:Option Nat)(cs bJ:List dq)(B:ca):d1:=⟨fn,n,ac,aT aV.aA B.aA [],ao,ro,aT B.rc bJ cs⟩
structure mZ(aV:je)(ao:Bool)(ro:Option Nat)(cs bJ:List dq):Prop where
 rd:aV.rd=false->ro=none
 aA:aV.aA=true->ro=none
 none:aV.iG=some none->bJ=cs/\mR ao cs=some (.nilIface,cs)
 some:∀N,aV.iG=some (some N)->mR ao cs=some (N,bJ)/\mR ao bJ=some (.nilIface,bJ)
def JW{V:dK}{C:aC}{k:Nat}{args:List y}{a:bV}{o:List bV}{aw:d1}{B:I y}{h:I ae}{j:Nat}:gC (.round k args) V C a o aw B h j=sq V C k args (n1 a o aw B) h j:=rfl
def xw{B:ca}{t:I y}(e:dv B t)(k:List Nat):dv (ed k B) (j6 k t):=by
 intro n v b
 rw[rh]
 by_cases a:n∈k
 ·simp[ed,cN,nD,a]at b
 ·simp[ed,cN,nD,a]at b
  rw[Zj a];exact e n v b
def ta{a b:Nat}(e:a<=b):Nat.ble a b=true:=by simpa using e
def wX(g:y.same 30 v v=true)(d:mZ aV ao ro cs bJ){b:bV}{o:List bV}{a:ca}{B:I y}{h:I ae}{j:Nat}{R af:bh}(m:Env C aI bY b8)
 (p:∀N h j,R N h j->∃c,g1 b N=some c/\gS C aI aQ aX .run (c::o) (cG aV fn n ac ao ro cs bJ a) B h j v)
 (i:∀N h j todo,af N h j->gS C aI aQ aX (.panicking [⟨N,false⟩]) todo (cG aV fn n ac ao ro cs bJ a) (jm (b::o) B) h j v){r:b1}(e:m9 C aV.rd (some r) h j R af):
 gC r (cY C aI aQ aX v) C b o (cG aV fn n ac ao ro cs bJ a) B h j=some v:=by
 have fill:∀N h j,R N h j->(match g1 b N with|some c=>cY C aI aQ aX v .run (c::o) (cG aV fn n ac ao ro cs bJ a) B h j|none=>none)=some v:=by
  intro N h j w
  obtain⟨c,s,t⟩:=p N h j w
  rw[s]
  exact ec t
 cases r with
 |val N=>exact fill N h j e
 |cy N E ar=>exact fill N E ar e
 |enter f args=>
  refine e aI bY b8 m aQ aX v g (n1 b o (cG aV fn n ac ao ro cs bJ a) B) (λN E ar L=> ?_) (λN E ar L=> ?_)
  ·exact fill N E ar L
  ·exact ec (i N E ar _ L)
 |round k args=>
  rw[JW]
  refine e aI bY b8 m aQ aX v g (n1 b o (cG aV fn n ac ao ro cs bJ a) B) (λN E ar L=> ?_) (λN E ar L=> ?_)
  ·exact fill N E ar L
  ·exact ec (i N E ar _ L)
 |known f args N=>exact fill N h j e
 |panic N=>
  have e:=(show aT aV.rd False (af N h j) from e)
  cases M:aV.rd with
  |true=>rw[M]at e;exact e.elim
  |false=>
   rw[M]at e
   have e2:=d.rd M
   subst e2
   exact ec (i N h j _ e)
 |fork k=>exact F8 g k e.1 λN E d=>p N E j (e.2 N E d)
 |_=>exact e.elim
def E9{ad:Array Oper}{aa:List (Nat×y)}{i:Nat}{rest:List cE}{fin:List (Nat×Nat)}{o:List bV}{B:I y}:jm (.iI ad aa i rest fin::o) B=j6 (dstsOf ad.toList) B:=rfl
def E8{ad:Array Oper}{aa:List (Nat×y)}{b i:Nat}{rest:List jV}{fin:List (Nat×Nat)}{o:List bV}{B:I y}:jm (.lG ad b aa i rest fin::o) B=j6 (dstsOf ad.toList) B:=rfl
def Ka(T2:Env C aI bY b8)(U1:y.same 30 v v=true)(T0:mZ aV ao ro cs bJ){ad:Array Oper}{fin:List (Nat×Nat)}{o:List bV}{t:I y}{R:db}{af:iM}
 (U3:∀B t h j,dv B t->R B h j->gS C aI aQ aX .run o (cG aV fn n ac ao ro cs bJ B) t h j v)
 (U4:∀B t N h j todo,dv B t->af B N h j->gS C aI aQ aX (.panicking [⟨N,false⟩]) todo (cG aV fn n ac ao ro cs bJ B) t h j v):
 ∀(rest:List cE) (aa:List (Nat×y)) (B:ca) (h:I ae) (j:Nat),dv B t->mP C aV fin R (λB=>af (ed (dstsOf ad.toList) B)) rest aa B h j->lA rest ⟨cY C aI aQ aX v,ad,fin,o,cG aV fn n ac ao ro cs bJ B⟩ C t aa h j=some v:=by
 intro rest
 induction rest with
 |nil=>
  intro aa B h j a e
  obtain⟨s,U7,d,m,G,b⟩:=xM a (show pF fin aa B (λB=>R B h j) from e)
  show pA ⟨cY C aI aQ aX v,ad,fin,o,cG aV fn n ac ao ro cs bJ B⟩ C t aa h j=some v
  simp only[pA,rs,d,gN]
  have l:cG aV fn n ac ao ro cs bJ B=cG aV fn n ac ao ro cs bJ s:=by unfold cG;rw[G.1,G.2]
  rw[l]
  exact ec (U3 _ _ _ _ m b)
 |cons x rest V=>
  intro aa B h j a e
  obtain⟨i,g,op⟩:=x
  show nM i g op rest (lA rest) ⟨cY C aI aQ aX v,ad,fin,o,cG aV fn n ac ao ro cs bJ B⟩ C t aa h j=some v
  have e:=(show(match nZ op with
   | .no=>sG g aa (λR=>uI aV.rd op C h j aa B R (af (ed (dstsOf ad.toList) B))) (λv h j=>mP C aV fin R (λB=>af (ed (dstsOf ad.toList) B)) rest ((i,v)::aa) B h j) h j
   | .defer a6 f args=>aT (g.isNone&&aV.aA) (cp a6 aa B f λT5=>iE a6 aa B args λz=>tr T5 z B λB=>mP C aV fin R (λB=>af (ed (dstsOf ad.toList) B)) rest ((i,undef)::aa) B h j) False
   | .recover=>aT (g.isNone&& !aV.rd) (sn aV.iG B λv B=>mP C aV fin R (λB=>af (ed (dstsOf ad.toList) B)) rest ((i,v)::aa) B h j) False) from e)
  cases T1:nZ op with
  |no=>
   rw[T1]at e
   obtain⟨w,d,m,G⟩:=sF ((A9 ..).mp e)
   simp only[nM,sD,d,gN]
   cases w with
   |false=>simp only[ZR,ZM];exact V _ _ _ _ a (G rfl)
   |true=>
    simp only[ZP]
    have b:=m rfl
    rw[sb]
    unfold uI at b
    cases P:f1 op with
    |dV=>
     simp only[P]at b ⊢
     obtain⟨N,Y,O⟩:=rS a b
     rw[Y]
     exact V _ _ _ _ a O
    |make=>
     simp only[P]at b ⊢
     obtain⟨N,bN,Y,O⟩:=H0 a b
     simp only[rY,fZ,Y,dF,gN]
     exact V _ _ _ _ a O
    |cB=>
     simp only[P]at b ⊢
     obtain⟨r,Y,O⟩:=x8 a b
     rw[Y]
     have TY:gC r (cY C aI aQ aX v) C (.iI ad aa i rest fin) o (cG aV fn n ac ao ro cs bJ B) t h j=some v:=by
      refine wX U1 T0 T2 (λN h j L=>⟨_,rfl, ?_⟩) (λN h j todo L=> ?_) O
      ·exact fp T2 (V _ _ _ _ a L)
      ·rw[E9];exact U4 (ed (dstsOf ad.toList) B) _ _ _ _ _ (xw a _) L
     cases r with
     |val N=>exact V _ _ _ _ a O
     |cy N E ar=>exact V _ _ _ _ a O
     |_=>exact TY
  |defer a6 f args=>
   rw[T1]at e
   obtain⟨c,rfl,rfl⟩:=Kt T1
   have e:=(show aT (g.isNone&&aV.aA) _ False from e)
   cases g with
   |some g=>exact e.elim
   |none=>
    cases Z:aV.aA with
    |false=>rw[Z]at e;exact e.elim
    |true=>
     rw[Z]at e
     obtain⟨T5,d,m⟩:=dI a (show cp a6 aa B f _ from e)
     obtain⟨z,G,b⟩:=nN a m
     have e2:=T0.aA Z
     subst e2
     cases T5 with
     |func g first X=>
      simp only[nM,sD,gQ,gN,ZP]
      rw[sb]
      have P:f1 (.cB a6 (.defer ⟨.value f,c.1,c.2⟩))= .cB:=rfl
      have T8:dQ (.cB a6 (.defer ⟨.value f,c.1,c.2⟩)) C h j aa t=some (.defer ⟨.fn g X,first++z⟩):=by
       simp only[dQ,gi,tZ,d,G]
      simp only[P,T8]
      have T6:cG aV fn n ac ao none cs bJ B=⟨fn,n,ac,B.aA,ao,none,aT B.rc bJ cs⟩:=by unfold cG;rw[Z];rfl
      show gC (.defer ⟨.fn g X,first++z⟩) (cY C aI aQ aX v) C (.iI ad aa i rest fin) o (cG aV fn n ac ao none cs bJ B) t h j=some v
      rw[T6]
      show cY C aI aQ aX v .run (.o4 ad ((i,undef)::aa) rest fin::o) ⟨fn,n,ac,⟨.fn g X,first++z⟩::B.aA,ao,none,aT B.rc bJ cs⟩ t h j=some v
      have TZ:(⟨fn,n,ac,⟨.fn g X,first++z⟩::B.aA,ao,none,aT B.rc bJ cs⟩:d1)=cG aV fn n ac ao none cs bJ (o0 B ⟨.fn g X,first++z⟩):=by unfold cG;rw[Z];rfl
      rw[TZ]
      exact ec (fp T2 (V _ (o0 B ⟨.fn g X,first++z⟩) _ _ a b))
     |_=>exact b.elim
  |recover=>
   rw[T1]at e
   obtain⟨a6,bw,args,rfl,U0⟩:=Ku T1
   have e:=(show aT (g.isNone&& !aV.rd) _ False from e)
   cases g with
   |some g=>exact e.elim
   |none=>
    cases T7:aV.rd with
    |true=>rw[T7]at e;exact e.elim
    |false=>
     rw[T7]at e
     have e2:=T0.rd T7
     subst e2
     have e:sn aV.iG B (λv B=>mP C aV fin R (λB=>af (ed (dstsOf ad.toList) B)) rest ((i,v)::aa) B h j):=e
     simp only[nM,sD,gQ,gN,ZP]
     rw[sb]
     have P:f1 (.cB a6 (.call ⟨.builtin .recover,args,bw⟩))= .cB:=rfl
     have T8:dQ (.cB a6 (.call ⟨.builtin .recover,args,bw⟩)) C h j aa t=some .recover:=by
      simp only[dQ,gi,nv,pI,U0,hm]
     simp only[P,T8]
     show gC .recover (cY C aI aQ aX v) C (.iI ad aa i rest fin) o (cG aV fn n ac ao none cs bJ B) t h j=some v
     have key:∀N s,dv s t->mR ao (aT B.rc bJ cs)=some (N,aT s.rc bJ cs)->s.aA=B.aA->mP C aV fin R (λB=>af (ed (dstsOf ad.toList) B)) rest ((i,N)::aa) s h j->gC .recover (cY C aI aQ aX v) C (.iI ad aa i rest fin) o (cG aV fn n ac ao none cs bJ B) t h j=some v:=by
      intro N s U2 d m G
      show(match mR ao (aT B.rc bJ cs)with
       |some (U6,T9)=>(match g1 (.iI ad aa i rest fin) U6 with|some U5=>cY C aI aQ aX v .run (U5::o) ⟨fn,n,ac,aT aV.aA B.aA [],ao,none,T9⟩ t h j|none=>none)
       |none=>none)=some v
      rw[d]
      show cY C aI aQ aX v .run (.o4 ad ((i,N)::aa) rest fin::o) ⟨fn,n,ac,aT aV.aA B.aA [],ao,none,aT s.rc bJ cs⟩ t h j=some v
      have T6:(⟨fn,n,ac,aT aV.aA B.aA [],ao,none,aT s.rc bJ cs⟩:d1)=cG aV fn n ac ao none cs bJ s:=by unfold cG;rw[m]
      rw[T6]
      exact ec (fp T2 (V _ _ _ _ U2 G))
     unfold sn at e
     cases T3:aV.iG with
     |none=>rw[T3]at e;exact e.elim
     |some p=>
      rw[T3]at e
      cases p with
      |none=>
       obtain⟨d,m⟩:=T0.none T3
       subst d
       refine key _ B a ?_ rfl e
       cases B.rc<;>exact m
      |some N=>
       obtain⟨d,m⟩:=T0.some N T3
       cases T4:B.rc with
       |true=>
        simp only[T4]at e
        refine key _ B a ?_ rfl e
        simp only[T4];exact m
       |false=>
        simp only[T4]at e
        refine key N (AF B) a ?_ rfl e
        simp only[T4];exact d
def E7(d:Env C aI bY b8)(X:y.same 30 v v=true)(P:mZ aV ao ro cs bJ){ad:Array Oper}{base:Nat}{fin:List (Nat×Nat)}{o:List bV}{B:ca}{t:I y}(a:dv B t){R:db}{af:iM}
 (Y:∀B t h j,dv B t->R B h j->gS C aI aQ aX .run o (cG aV fn n ac ao ro cs bJ B) t h j v)
 (Z:∀B t N h j todo,dv B t->af B N h j->gS C aI aQ aX (.panicking [⟨N,false⟩]) todo (cG aV fn n ac ao ro cs bJ B) t h j v):
 ∀(fj:List jV) (aa:List (Nat×y)) (h:I ae) (j:Nat),tu C aV.rd base fin B R (af (ed (dstsOf ad.toList) B)) fj aa h j->kU (cY C aI aQ aX v) C ad base aa fj fin o (cG aV fn n ac ao ro cs bJ B) t h j=some v:=by
 intro fj
 induction fj with
 |nil=>intro aa h j e;exact e.elim
 |cons s rest V=>
  intro aa h j e
  obtain⟨T0,E,x,z⟩:=HJ a (show rU C base B s.iX aa h _ from e)
  obtain⟨G,b⟩:=Jv a z
  simp only[kU,x,G,cS]
  cases m:s.cB with
  |none=>
   simp only[m]at b
   obtain⟨p,T2,f,g,c,i⟩:=xM a b
   simp only[rs,f,gN]
   have l:cG aV fn n ac ao ro cs bJ B=cG aV fn n ac ao ro cs bJ p:=by unfold cG;rw[c.1,c.2]
   rw[l]
   exact ec (Y _ _ _ _ g i)
  |some T1=>
   simp only[m]at b
   obtain⟨w,f,g,c⟩:=sF ((A9 ..).mp b)
   simp only[f]
   cases w with
   |false=>simp only[fB];exact ec (fp d (V _ _ _ (c rfl)))
   |true=>
    obtain⟨r,i,O⟩:=x8 a (g rfl)
    simp only[cS,i]
    refine wX X P d (λN h j L=>⟨_,rfl, ?_⟩) (λN h j todo L=> ?_) O
    ·exact fp d (V _ _ _ L)
    ·rw[E8];exact Z (ed (dstsOf ad.toList) B) _ _ _ _ _ (xw a _) L
def Bm(C:aC)(aI:World)(aQ:Nat)(aX:List Frame)(v:y)(iq:ca->d1)(o:List bV)(id:Nat):db:=λB h j=>∀t,dv B t->mf id (cY C aI aQ aX v) C o (iq B) t h j=some v
def rq{id:Nat}{V:dK}{C:aC}{b:bV}{o:List bV}{aV:je}{cs bJ:List dq}{a:ca}{B:I y}{h:I ae}{j:Nat}(e:exitTo id (b::o)=exitTo id o):
 mf id V C (b::o) (cG aV fn n ac ao ro cs bJ a) B h j=mf id V C o (cG aV fn n ac ao ro cs bJ a) B h j:=by
 unfold mf
 rw[e]
 cases exitTo id o with
 |some ct=>rfl
 |none=>
  unfold hr cG
  cases ro with
  |none=>rfl
  |some k=>rfl
def sR(C:aC)(fn n ac:Nat)(c:Code):Prop:=
 ∀{aI:World}{bY:bE}{b8:Nat->Prop} (_:Env C aI bY b8) {aQ:Nat}{aX:List Frame}{v:y} (_:y.same 30 v v=true) (aV:je) (ao:Bool) (ro:Option Nat) (cs bJ:List dq) (af:iM) (o:List bV) (R:db) (l:Nat->db) (r:db) (B:ca) (t:I y) (h:I ae) (j:Nat),mZ aV ao ro cs bJ->
  (∀B t N h j todo,dv B t->af B N h j->gS C aI aQ aX (.panicking [⟨N,false⟩]) todo (cG aV fn n ac ao ro cs bJ B) t h j v)->
  (∀B t h j,dv B t->R B h j->gS C aI aQ aX .run o (cG aV fn n ac ao ro cs bJ B) t h j v)->
  (∀id B h j,l id B h j->Bm C aI aQ aX v (cG aV fn n ac ao ro cs bJ) o id B h j)->
  (∀B t h j todo,dv B t->r B h j->hr (some .ret) (cY C aI aQ aX v) C todo (cG aV fn n ac ao ro cs bJ B) t h j=some v)->
  dv B t->kN C n ac c aV af R l r B h j->jk c (cY C aI aQ aX v) C o (cG aV fn n ac ao ro cs bJ B) t h j=some v
def Kg{n:Nat}:∀(bH:List Nat) (b:List y) (B:ca) (t:I y) (R:ca->Prop),dv B t->o5 n bH b B R->∃c d,kq n bH b t=some d/\dv c d/\R c:=by
 intro bH
 induction bH with
 |nil=>
  intro b B t R f e
  cases b with
  |nil=>exact⟨B,t,rfl,f,e⟩
  |cons a b=>exact e.elim
 |cons p bH V=>
  intro b B t R f e
  cases b with
  |nil=>exact e.elim
  |cons a b=>
   have e:=(show aT (Nat.blt p n) (o5 n bH b (K B p a) R) False from e)
   cases ab:Nat.blt p n with
   |false=>rw[ab]at e;exact e.elim
   |true=>
    rw[ab]at e
    obtain⟨c,d,g,i,m⟩:=V b _ _ R (AG f p a) e
    exact⟨c,d,by simp only[kq,ab,cS,g],i,m⟩
def mW(fn n ac:Nat)(ro:Option Nat)(cs:List dq)(B:ca):cG mB fn n ac false ro cs cs B=⟨fn,n,ac,[],false,ro,cs⟩:=by
 unfold cG mB
 cases B.rc<;>rfl
def uo{V:dK}{C:aC}{k fn n ac:Nat}{t0:I y}{params:List Nat}{assign body:Code}{c:Nat}{a:Option Code}{st:LoopState}{b:Bool}{R:bh}{todo:List bV}{cs:List dq}{t:I y}{h:I ae}{j:Nat}{v:y}
 (g:eV C k=true)(m:Ab a=true)(r:st=aT a.isNone .ready .done)(ab:b=a.isNone)(e:rl C k (λst p=> .loop st p fn n ac t0 params assign body c) st a b R h j)
 (i:∀N h j,R N h j->ji V false cs N h j=some v):hr a V C todo ⟨fn,n,ac,[],false,some k,cs⟩ t h j=some v:=by
 obtain⟨⟨w,s,d⟩,f⟩:=e
 subst r ab
 have:=i _ _ _ f
 simp only[hr,d,g,m,Yi,Yl,cS,dF]
 exact this
def JX{C:aC}{fn n ac:Nat}{assign body:Code}(x:sR C fn n ac assign)(cv:sR C fn n ac body){aI:World}{bY:bE}{b8:Nat->Prop}(b:Env C aI bY b8){aQ:Nat}{aX:List Frame}{v:y}(m:y.same 30 v v=true){k:Nat}{t:I y}{params:List Nat}{g:Nat}{cs:List dq}
 {B:ca}{h:I ae}{j:Nat}{args:List y}{R af:bh}(au:J C h k=some (.loop .ready none fn n ac t params assign body g))(d:eV C k=true)(a:dv B t)
 (f:∀N E ar,R N E ar->sO C aI aQ aX v cs N E ar)(z:∀N E ar,af N E ar->qJ C aI aQ aX v cs N E ar)
 (e:o5 n params args B λiN=>iH C (kN C n ac assign) (kN C n ac body) k (λst p=> .loop st p fn n ac t params assign body g) R af iN h j):
 sq (cY C aI aQ aX v) C k args cs h j=some v:=by
 obtain⟨iN,X,s,G,w⟩:=Kg _ _ _ _ _ a e
 unfold sq
 rw[au]
 simp only[s]
 have i:mZ mB false (some k) cs cs:=⟨λe=>(by cases e),λe=>(by cases e),λe=>(by cases e),λN e=>(by cases e)⟩
 have r:∀(B:ca) (t:I y) (N:y) (h:I ae) (j:Nat) (todo:List bV),dv B t->af N h j->gS C aI aQ aX (.panicking [⟨N,false⟩]) todo (cG mB fn n ac false (some k) cs cs B) t h j v:=by
  intro B t N h j todo a L
  rw[mW]
  refine fp b ?_
  have:=z N h j L
  show qw [⟨N,false⟩] todo (cY C aI aQ aX v) C ⟨fn,n,ac,[],false,some k,cs⟩ t h j=some v
  cases cs with
  |nil=>exact this.elim
  |cons c rest=>exact this
 refine ec (fp b ?_)
 rw[<-mW fn n ac (some k) cs iN]
 refine x b m mB false (some k) cs cs (λ_=>af) [.beginRound, .code body] _ _ _ iN X h j i r (λB t h j a L=> ?_) (λid B h j L=>L.elim) (λB t h j todo a L=>L.elim) G w
 obtain⟨O,P⟩:=L
 refine fp b ?_
 rw[mW]
 show pp (cY C aI aQ aX v) C [.code body] ⟨fn,n,ac,[],false,some k,cs⟩ t h j=some v
 unfold pp
 simp only[O,d,cS,dF]
 refine ec (fp b ?_)
 rw[<-mW fn n ac (some k) cs B]
 refine cv b m mB false (some k) cs cs (λ_=>af) [] _ _ _ B t _ j i r (λB t h j a L=> ?_) (λid B h j L t a=> ?_) (λB t h j todo a L=> ?_) a P
 ·refine fp b ?_
  rw[mW]
  show hr none (cY C aI aQ aX v) C [] ⟨fn,n,ac,[],false,some k,cs⟩ t h j=some v
  exact uo d rfl rfl rfl L f
 ·rw[mW]
  show hr (some (.exit id)) (cY C aI aQ aX v) C (.code (.exit id)::[]) ⟨fn,n,ac,[],false,some k,cs⟩ t h j=some v
  exact uo d rfl rfl rfl L f
 ·rw[mW]
  exact uo d rfl rfl rfl L f
def xg:∀c:Code,sR C fn n ac c:=by
 intro c
 induction c with
 |skip=>intro aI bY b8 w aQ aX v G aV ao ro cs bJ af o R l r B t h j z O x P M i e;exact ec (x _ _ _ _ i e)
 |region id ad d=>
  intro aI bY b8 w aQ aX v G aV ao ro cs bJ af o R l r B t h j z O x P M i e
  cases d with
  |false=>
   obtain⟨L,Y,Z⟩:=iF.1 (show Q (qf C n ad ac) (λr=>mP C aV r.fin R (λB=>af (ed (dstsOf ad.toList) B)) r.rest [] B h j) from e)
   show eo (qf C n ad ac) (λr=>sQ.rec (motive:=λ_=>b3) (λrest fin=>lA rest ⟨cY C aI aQ aX v,ad,fin,o,cG aV fn n ac ao ro cs bJ B⟩ C t [] h j) r)=some v
   rw[Y]
   exact Ka w G z x O _ _ _ _ _ i Z
  |true=>
   obtain⟨L,Y,Z⟩:=iF.1 (show Q (qc C n ad ac) (λr=>dx (j+ad.size) λar=>tu C aV.rd j r.fin B R (af (ed (dstsOf ad.toList) B)) r.fj [] h ar) from e)
   show eo (qc C n ad ac) (λr=>sP.rec (motive:=λ_=>b3) (λfj fin=>hL j λj=>kU (cY C aI aQ aX v) C ad j [] fj fin o (cG aV fn n ac ao ro cs bJ B) t h (j+ad.size)) r)=some v
   rw[Y]
   show hL j (λj=>kU (cY C aI aQ aX v) C ad j [] L.fj L.fin o (cG aV fn n ac ao ro cs bJ B) t h (j+ad.size))=some v
   rw[fZ]
   exact E7 w G z i x O _ _ _ _ Z.out
 |seq a b T1 X=>
  intro aI bY b8 w aQ aX v G aV ao ro cs bJ af o R l r B t h j z O x P M i e
  refine T1 w G aV ao ro cs bJ af (.code b::o) (kN C n ac b aV af R l r) l r B t h j z O (λB t h j i e=> ?_) (λid B h j e t i=> ?_) M i e
  ·exact fp w (X w G aV ao ro cs bJ af o R l r B t h j z O x P M i e)
  ·rw[rq (by simp[exitTo])]
   exact P id B h j e t i
 |cond c a b T1 X=>
  intro aI bY b8 w aQ aX v G aV ao ro cs bJ af o R l r B t h j z O x P M i e
  obtain⟨N,Y,Z⟩:=dI (aa:=[]) (a6:=[]) i (show cp [] [] B c _ from e)
  obtain⟨U2,rfl,U6,U7⟩:=xa Z.out
  have T7:j8 t c=some (.bool U2):=by
   cases c<;>first|(simp[ek,j8]at Y;done)|simpa[ek,j8]using Y
  show pt c t (jk a (cY C aI aQ aX v) C o (cG aV fn n ac ao ro cs bJ B) t h j) (jk b (cY C aI aQ aX v) C o (cG aV fn n ac ao ro cs bJ B) t h j)=some v
  simp only[pt,gN,T7]
  cases U2 with
  |true=>exact T1 w G aV ao ro cs bJ af o R l r B t h j z O x P M i (U6 rfl)
  |false=>exact X w G aV ao ro cs bJ af o R l r B t h j z O x P M i (U7 rfl)
 |block id b X=>
  intro aI bY b8 w aQ aX v G aV ao ro cs bJ af o R l r B t h j z O x P M i e
  refine X w G aV ao ro cs bJ af (.inBlock id::o) R (np id R l) r B t h j z O (λB t h j i e=>fp w (ec (x B t h j i e))) (λU0 B h j e t i=> ?_) M i e.out
  unfold np at e
  rw[d5]at e
  by_cases T5:id=U0
  ·rw[Zv T5]at e
   have T6:exitTo U0 (.inBlock id::o)=some o:=by simp[exitTo,T5,d5]
   unfold mf
   rw[T6]
   exact ec (x B t h j i e)
  ·rw[Zj T5]at e
   rw[rq (by simp[exitTo,d5,T5])]
   exact P U0 B h j e t i
 |loop b X=>
  intro aI bY b8 w aQ aX v G aV ao ro cs bJ af o R l r B t h j z O x P M i e
  obtain⟨U3,⟨m,TY⟩,U9⟩:=(show cC (λU4=>kN C n ac b aV af U4 l r) B h j from e).out
  have UI:∀m B t h j,U3 m B h j->dv B t->jk b (cY C aI aQ aX v) C (.inLoop b::o) (cG aV fn n ac ao ro cs bJ B) t h j=some v:=by
   intro m
   induction m using Nat.strongRecOn with
   |ind m UF=>
    intro B t h j TY i
    refine X w G aV ao ro cs bJ af (.inLoop b::o) _ l r B t h j z O (λB t h j i e=> ?_) (λid B h j e t i=> ?_) M i (U9 m B h j TY)
    ·obtain⟨UH,UC,UD⟩:=e
     exact fp w (UF UH UC B t h j UD i)
    ·rw[rq (by simp[exitTo])]
     exact P id B h j e t i
  exact UI m B t h j TY i
 |rangeFunc f params assign body T1 X=>
  intro aI bY b8 w aQ aX v G aV ao ro cs bJ af o R l r B t h j z O x P M i e
  have e:=(show aT aV.aA (tE f B λT3=>nU C n T3 params.toList (iH C (kN C n ac assign) (kN C n ac body)) R l r af B h j) False from e)
  cases T4:aV.aA with
  |false=>rw[T4]at e;exact e.elim
  |true=>
   rw[T4]at e
   have e2:=z.aA T4
   subst e2
   obtain⟨T3,Y,Z⟩:=dI (aa:=[]) (a6:=[]) i (show cp [] [] B f _ from e)
   have T7:j8 t f=some T3:=by
    cases f<;>first|(simpa[ek,j8]using Y)|(simp[ek]at Y;subst Y;rfl)
   have UQ:=Z.low
   have T0:=Z.out
   have T8:∀B:ca,cG aV fn n ac ao none cs bJ B=⟨fn,n,ac,B.aA,ao,none,aT B.rc bJ cs⟩:=λB=>by unfold cG;rw[T4];rfl
   have U1:eV C (j+1)=true:=ta Zo
   show qq f params assign body (cY C aI aQ aX v) C o (cG aV fn n ac ao none cs bJ B) t h j=some v
   rw[T8]
   unfold qq
   rw[T7]
   cases T3 with
   |func g first UM=>
    cases g with
    |func g=>
     simp only[fZ]
     have T0:=T0 (λst p=> .loop st p fn n ac t params.toList assign body j) ?_
     ·refine T0 aI bY b8 w aQ aX v G _ (λN E ar L=> ?_) (λN E ar L=> ?_)
      ·obtain⟨st,p,UJ,UK,T2⟩:=L
       show(match g1 (.inRangeFunc (j+1)) N with
        |some UG=>cY C aI aQ aX v .run (UG::o) ⟨fn,n,ac,⟨.collected j,[]⟩::B.aA,ao,none,aT B.rc bJ cs⟩ t E ar
        |none=>none)=some v
       refine ec (fp w ?_)
       show oz (j+1) (cY C aI aQ aX v) C o ⟨fn,n,ac,⟨.collected j,[]⟩::B.aA,ao,none,aT B.rc bJ cs⟩ t E ar=some v
       have T6:oz (j+1) (cY C aI aQ aX v) C o ⟨fn,n,ac,⟨.collected j,[]⟩::B.aA,ao,none,aT B.rc bJ cs⟩ t E ar=cY C aI aQ aX v .run ((p.map bV.code).toList++o) ⟨fn,n,ac,⟨.collected j,[]⟩::B.aA,ao,none,aT B.rc bJ cs⟩ t (aS C E (j+1) (some (.loop .exhausted p fn n ac t params.toList assign body j))) ar:=by
        unfold oz
        rw[UK]
        cases st with
        |busy=>exact absurd rfl UJ
        |_=>simp only[U1,cS,dF]
       rw[T6]
       have U8:=T8 (jz B j)
       have T9:(⟨fn,n,ac,⟨.collected j,[]⟩::B.aA,ao,none,aT B.rc bJ cs⟩:d1)=cG aV fn n ac ao none cs bJ (jz B j):=U8.symm
       rw[T9]
       have TZ:dv (jz B j) t:=i
       cases p with
       |none=>exact ec (x _ _ _ _ TZ T2)
       |some c=>
        refine ec (fp w ?_)
        unfold Ac at T2
        cases c with
        |exit id=>exact P id _ _ _ T2 t TZ
        |ret=>exact M _ _ _ _ _ TZ T2
        |_=>exact T2.elim
      ·refine ec ?_
       have T9:(⟨fn,n,ac,⟨.collected j,[]⟩::B.aA,ao,none,aT B.rc bJ cs⟩:d1)=cG aV fn n ac ao none cs bJ (jz B j):=(T8 (jz B j)).symm
       have:=O (jz B j) t N E ar (.inRangeFunc (j+1)::o) i L
       rw[<-T9]at this
       exact this
     ·
      intro args ay UR UU UV au aS UT UW UL U5 UP UN US UE UO UA UB
      exact JX T1 X U5 UE au U1 i UA UB aS
    |_=>exact T0.elim
   |_=>exact T0.elim
 |exit id=>
  intro aI bY b8 w aQ aX v G aV ao ro cs bJ af o R l r B t h j z O x P M i e
  exact P id B h j e t i
 |scope b X=>
  intro aI bY b8 w aQ aX v G aV ao ro cs bJ af o R l r B t h j z O x P M i e
  refine X w G aV ao ro cs bJ af (.inScope b::o) R l r B t h j z O (λB t h j i e=>fp w (ec (x B t h j i e))) (λid B h j e t i=> ?_) M i e
  rw[rq (by simp[exitTo])]
  exact P id B h j e t i
 |label k=>intro aI bY b8 w aQ aX v G aV ao ro cs bJ af o R l r B t h j z O x P M i e;exact ec (x _ _ _ _ i e)
 |goto k=>intro aI bY b8 w aQ aX v G aV ao ro cs bJ af o R l r B t h j z O x P M i e;exact e.elim
 |ret=>
  intro aI bY b8 w aQ aX v G aV ao ro cs bJ af o R l r B t h j z O x P M i e
  exact M _ _ _ _ _ i e
 |refuse s=>intro aI bY b8 w aQ aX v G aV ao ro cs bJ af o R l r B t h j z O x P M i e;exact e.elim
end
def w5(args:List y):dv (bR args) (I.ofList args 0 .nil):=by
 intro n v e
 rw[fG]
 simpa[bR]using e
section
variable{C:aC}{bY:bE}{b8:Nat->Prop}{aI:World}{aQ:Nat}{aX:List Frame}{v:y}{fn:Nat}{iT:Func}{n ac:Nat}{ao:Bool}{cs:List dq}
def uX(a:Env C aI bY b8)(O:y.same 30 v v=true)(G:C.P.funcs[fn]? =some iT){bn:bh}(z:∀N h j,bn N h j->ji (cY C aI aQ aX v) ao cs N h j=some v){B:ca}{t:I y}(P:dv B t):
 ∀(ds:List dM) (h:I ae) (j:Nat) (todo:List bV),hW C iT.results.toList bn B ds h j->gS C aI aQ aX .returning todo ⟨fn,n,ac,ds,ao,none,cs⟩ t h j v:=by
 intro ds
 induction ds with
 |nil=>
  intro h j todo e
  obtain⟨aE,i,m⟩:=JE P (show i7 C h B iT.results.toList (λaE=>bn (one aE) h j) from e)
  refine fp a ?_
  show qx todo (cY C aI aQ aX v) C ⟨fn,n,ac,[],ao,none,cs⟩ t h j=some v
  simp only[qx,G,i]
  exact z _ _ _ m
 |cons d ds V=>
  intro h j todo e
  obtain⟨s,p⟩:=d
  refine fp a ?_
  show ku ⟨s,p⟩ ds .returning todo (cY C aI aQ aX v) C ⟨fn,n,ac,[],ao,none,cs⟩ t h j=some v
  cases s with
  |collected r=>
   have e:=(show r5 C r h (hW C iT.results.toList bn B ds (aS C h r (some (.deferred none))) j) from e)
   simp only[ku,e.here,show eV C r=true from ta e.low,cS,dF,List.nil_append]
   exact ec (V _ _ _ e.go)
  |fn g cap=>
   have e:=(show q9 C g (p++cap) none h j (λ_ h j=>hW C iT.results.toList bn B ds h j) from e).out
   split at e
   ·rename_i f
    obtain⟨i,⟨X,c,m,w⟩,x⟩:=e
    simp only[ku,l2,iv,i,m,w]
    exact x aI bY b8 a aQ aX v O fn n ac t todo ds ao none cs λb E ar L=>ec (V _ _ _ L)
   ·exact e.elim
def Aa(a:Env C aI bY b8)(m:y.same 30 v v=true)(P:C.P.funcs[fn]? =some iT){bn dj:bh}(G:∀N h j,bn N h j->ji (cY C aI aQ aX v) ao cs N h j=some v)(O:∀N h j,dj N h j->qJ C aI aQ aX v cs N h j){B:ca}{t:I y}(X:dv B t)(N:y):
 ∀(ds:List dM) (h:I ae) (j:Nat) (todo:List bV),kn C iT.results.toList bn dj B N ds h j->gS C aI aQ aX (.panicking [⟨N,false⟩]) todo ⟨fn,n,ac,ds,ao,none,cs⟩ t h j v:=by
 intro ds
 induction ds with
 |nil=>
  intro h j todo e
  refine fp a ?_
  have:=O N h j e
  show qw [⟨N,false⟩] todo (cY C aI aQ aX v) C ⟨fn,n,ac,[],ao,none,cs⟩ t h j=some v
  cases cs with
  |nil=>exact this.elim
  |cons c rest=>exact this
 |cons d ds V=>
  intro h j todo e
  obtain⟨p,i⟩:=d
  refine fp a ?_
  show ku ⟨p,i⟩ ds (.panicking [⟨N,false⟩]) todo (cY C aI aQ aX v) C ⟨fn,n,ac,[],ao,none,cs⟩ t h j=some v
  cases p with
  |collected r=>
   have e:=(show r5 C r h (kn C iT.results.toList bn dj B N ds (aS C h r (some (.deferred none))) j) from e)
   simp only[ku,e.here,show eV C r=true from ta e.low,cS,dF,List.nil_append]
   exact ec (V _ _ _ e.go)
  |fn g cap=>
   have e:=(show q9 C g (i++cap) (some N) h j (λb h j=>aT b (hW C iT.results.toList bn B ds h j) (kn C iT.results.toList bn dj B N ds h j)) from e).out
   split at e
   ·rename_i f
    obtain⟨s,⟨Y,c,w,x⟩,z⟩:=e
    simp only[ku,l2,iv,s,w,x]
    refine z aI bY b8 a aQ aX v m fn n ac t todo ds ao none cs λb E ar L=> ?_
    cases b with
    |true=>exact ec (uX a m P G X ds E ar todo L)
    |false=>exact ec (V _ _ _ L)
   ·exact e.elim
end
def xX{C:aC}{f b:Nat}(a:cb C f b=true):∃fn c,C.P.funcs[f]? =some fn/\fn.body=some c/\(Nat.ble b fn.ntmps&&fC C (Nat.lor (ft c) (hV fn.results.toList)) c&&lx (Nat.lor (ft c) (hV fn.results.toList)) fn.results.toList)=true:=by
 unfold cb at a
 split at a
 ·rename_i fn d
  split at a
  ·rename_i c ab;exact⟨fn,c,d,ab,a⟩
  ·cases a
 ·cases a
def rR{V:dK}{C:aC}{fn n ac:Nat}{aA:List dM}{ao:Bool}{cs:List dq}{todo:List bV}{B:I y}{h:I ae}{j:Nat}{H:Option Code}(a:ua H=true):hr H V C todo ⟨fn,n,ac,aA,ao,none,cs⟩ B h j=V .returning todo ⟨fn,n,ac,aA,ao,none,cs⟩ B h j:=by
 simp only[hr,a,cS]
def pb(fn n ac:Nat)(ao:Bool)(ro:Option Nat)(cs:List dq)(B:ca):cG oT fn n ac ao ro cs cs B=⟨fn,n,ac,[],ao,ro,cs⟩:=by
 unfold cG oT
 cases B.rc<;>rfl
def pc(fn n ac:Nat)(ao:Bool)(ro:Option Nat)(cs:List dq)(B:ca):cG lm fn n ac ao ro cs cs B=⟨fn,n,ac,B.aA,ao,ro,cs⟩:=by
 unfold cG lm
 cases B.rc<;>rfl
def F4{C:aC}{f:Nat}{args:List y}{h:I ae}{j:Nat}{bn dj:bh}(p:cb C f args.length=true)(e:co C f args h j bn dj):jb C f args h j bn dj:=by
 intro aI bY b8 b aQ aX v g cs i n
 obtain⟨fn,c,d,ab,r⟩:=xX p
 unfold co at e
 simp only[d,ab]at e
 unfold hl
 simp only[d,ab,fZ,r,cS]
 have s:mZ oT false none cs cs:=⟨λ_=>rfl,λe=>(by cases e),λe=>(by cases e),λN e=>(by cases e)⟩
 have m:∀B t h j todo,dv B t->i7 C h B fn.results.toList (λaE=>bn (one aE) h j)->
  gS C aI aQ aX .returning todo (cG oT f fn.ntmps (Nat.lor (ft c) (hV fn.results.toList)) false none cs cs B) t h j v:=by
  intro B t h j todo a e
  rw[pb]
  exact uX b g d (λN h j L=>i N h j L) a [] h j todo e
 refine ec (fp b ?_)
 rw[<-pb f fn.ntmps (Nat.lor (ft c) (hV fn.results.toList)) false none cs (bR args)]
 refine xg c b g oT false none cs cs _ [] _ _ _ _ _ h j s (λB t N h j todo a e=> ?_) (λB t h j a e=> ?_) (λid B h j e=>e.elim) (λB t h j todo a e=> ?_) (w5 args) e
 ·rw[pb]
  exact Aa (iT:=fn) (bn:=bn) b g d (λN h j L=>i N h j L) (λN h j L=>n N h j L) a N [] h j todo e
 ·refine fp b ?_
  have:=m B t h j [] a e
  rw[pb]at this ⊢
  show hr none (cY C aI aQ aX v) C [] ⟨f,fn.ntmps,Nat.lor (ft c) (hV fn.results.toList),[],false,none,cs⟩ t h j=some v
  rw[rR rfl]
  exact ec this
 ·have:=m B t h j todo a e
  rw[pb]at this ⊢
  rw[rR rfl]
  exact ec this
def F5{C:aC}{f:Nat}{args:List y}{h:I ae}{j:Nat}{bn dj:bh}(p:cb C f args.length=true)(e:ns C f args h j bn dj):jb C f args h j bn dj:=by
 intro aI bY b8 b aQ aX v g cs i n
 obtain⟨fn,c,d,ab,r⟩:=xX p
 unfold ns at e
 simp only[d,ab]at e
 unfold hl
 simp only[d,ab,fZ,r,cS]
 have s:mZ lm false none cs cs:=⟨λ_=>rfl,λ_=>rfl,λe=>(by cases e),λN e=>(by cases e)⟩
 have m:∀B t h j todo,dv B t->hW C fn.results.toList bn B B.aA h j->
  gS C aI aQ aX .returning todo (cG lm f fn.ntmps (Nat.lor (ft c) (hV fn.results.toList)) false none cs cs B) t h j v:=by
  intro B t h j todo a e
  rw[pc]
  exact uX b g d (λN h j L=>i N h j L) a B.aA h j todo e
 refine ec (fp b ?_)
 rw[show(⟨f,fn.ntmps,Nat.lor (ft c) (hV fn.results.toList),[],false,none,cs⟩:d1)=cG lm f fn.ntmps (Nat.lor (ft c) (hV fn.results.toList)) false none cs cs (bR args) from(pc f fn.ntmps (Nat.lor (ft c) (hV fn.results.toList)) false none cs (bR args)).symm]
 refine xg c b g lm false none cs cs _ [] _ _ _ _ _ h j s (λB t N h j todo a e=> ?_) (λB t h j a e=> ?_) (λid B h j e=>e.elim) (λB t h j todo a e=> ?_) (w5 args) e
 ·rw[pc]
  exact Aa (iT:=fn) (bn:=bn) b g d (λN h j L=>i N h j L) (λN h j L=>n N h j L) a N B.aA h j todo e
 ·refine fp b ?_
  have:=m B t h j [] a e
  rw[pc]at this ⊢
  show hr none (cY C aI aQ aX v) C [] ⟨f,fn.ntmps,Nat.lor (ft c) (hV fn.results.toList),B.aA,false,none,cs⟩ t h j=some v
  rw[rR rfl]
  exact ec this
 ·have:=m B t h j todo a e
  rw[pc]at this ⊢
  rw[rR rfl]
  exact ec this
def ED{C:aC}{aI:World}{bY:bE}{b8:Nat->Prop}(b:Env C aI bY b8){f:Nat}{args:List y}{v:y}(p:y.same 30 v v=true)(m:cd b8 args)
 (e:jb C f args .nil C.aP (λN _ _=>N=v) (λ_ _ _=>False)):Calls C.P f (aU bY args).toArray aI λl aM=>(∃A,l= .returned (ai A v))/\Below aI.heap.size aI aM:=by
 intro a
 have n:Ends C aI f a v (lone (Frame.enter C.P f (aU bY args).toArray .normal) a aI):=
  rm wZ b.base (Below.refl _ _) b.dS (Zp _) .nil (λ_=>rfl) m
   (e aI bY b8 b f a v p [] (λN E ar l=>by subst l;rfl) (λN E ar l=>l.elim))
 obtain⟨A,aM,fr,c,d,g,i⟩:=n
 exact⟨.returned (ai A v),aM,fr,⟨⟨A,rfl⟩,i⟩,c,g,d⟩
end
noncomputable section
section
variable{C:aC}{h:I ae}{j:Nat}
def bb{b:Nat}{D:Option ae}(e:C.aP<=b):J C (aS C h b D) b=D:=by rw[cw _ e,Zv rfl]
def aY{b x:Nat}{D:Option ae}(e:C.aP<=b)(a:x≠b):J C (aS C h b D) x=J C h x:=by rw[cw _ e,Zj a]
def zL{p:Prop}(h:p:=by simp(disch:=omega) only[aY,bb]<;>rfl):p:=h
def b0(b D:Nat):W C h (.ptr b D)=match J C h b with|some (.cells c _ _)=>c.get D|_=>none:=by
 simp only[W,cellsOf]
 cases J C h b with
 |none=>rfl
 |some bN=>cases bN<;>rfl
def un(n b D:Nat):br C h n (.ptr b D)=match J C h b with|some (.cells c _ _)=>(c.eM D n).map y.agg|_=>none:=by
 simp only[br,cellsOf]
 cases J C h b with
 |none=>rfl
 |some bN=>
  cases bN with
  |cells c m st=>simp only[];cases c.eM D n<;>rfl
  |_=>rfl
def Gq(c:I y)(D:Nat):c.eM D 0=some []:=rfl
def iJ:∀(k:List y) (c:I y) (D i:Nat),(cO c D k).get i=if D<=i/\i<D+k.length then k[i-D]? else c.get i:=by
 intro k
 induction k with
 |nil=>intro c D i;simp[cO];intro b d;omega
 |cons a k V=>
  intro c D i
  simp only[cO,dF]
  rw[V,I.gn]
  by_cases b:i=D
  ·subst b
   simp
   intro e;omega
  ·by_cases d:D+1<=i/\i<D+1+k.length
   ·rw[Zv d,Zv Zx]
    rw[show i-D=(i-(D+1))+1 by omega]
    simp
   ·rw[Zj d,Zj (λl=>b l.symm),Zj Zx]
def jv{b D n:Nat}{c:I y}{st:h5}(e:C.aP<=b):W C (aS C h b (some (.cells c n st))) (.ptr b D)=c.get D:=by
 rw[b0,bb e]
def lc{b x D:Nat}{bN:Option ae}(e:C.aP<=b)(a:x≠b):W C (aS C h b bN) (.ptr x D)=W C h (.ptr x D):=by
 rw[b0,b0,aY e a]
def ia(C:aC)(h:I ae)(b:Nat):Nat->Nat->Option (List y)
 |_,0=>some []
 |D,n+1=>(W C h (.ptr b D)).bind λa=>(ia C h b (D+1) n).bind λk=>some (a::k)
def my{b D n:Nat}:br C h (n+1) (.ptr b D)=(ia C h b D (n+1)).bind λk=>some (.agg k):=by
 have e:∀(c:I y) (m:Nat) (st:h5),J C h b=some (.cells c m st)->∀n D,ia C h b D n=c.eM D n:=by
  intro c m st ab n
  induction n with
  |zero=>intro D;rfl
  |succ n V=>
   intro D
   simp only[ia,I.eM,b0,ab,V]
   cases c.get D with
   |none=>rfl
   |some a=>cases c.eM (D+1) n<;>rfl
 rw[un]
 cases ab:J C h b with
 |none=>simp[ia,b0,ab]
 |some bN=>
  cases bN with
  |cells c m st=>
   simp only[e c m st ab]
   cases c.eM D (n+1)<;>rfl
  |_=>simp[ia,b0,ab]
structure a1(C:aC)(h:I ae)(j:Nat)(E:I ae)(ar:Nat):Prop where
 le:j<=ar
 T:∀b,b<j->J C E b=J C h b
def a1.refl(h:I ae)(j:Nat):a1 C h j h j:=⟨Zp _,λ_ _=>rfl⟩
def a1.trans{ay aO a:I ae}{aL aR c:Nat}(e:a1 C ay aL aO aR)(o:a1 C aO aR a c):a1 C ay aL a c:=
 ⟨ZD e.le o.le,λb ab=>(o.T b (Z5 ab e.le)).trans (e.T b ab)⟩
def a1.cZ{E:I ae}{ar:Nat}(e:a1 C h j E ar)(b D:Nat)(ab:b<j):W C E (.ptr b D)=W C h (.ptr b D):=by
 rw[b0,b0,e.T b ab]
def a1.more{E:I ae}{ar n:Nat}(o:a1 C h j E ar)(e:ar<=n):a1 C h j E n:=⟨ZD o.le e,o.T⟩
def a1.jC{E:I ae}{ar bv:Nat}(o:a1 C h j E ar)(e:bv<=j):a1 C h bv E ar:=⟨ZD e o.le,λb ab=>o.T b (Z5 ab e)⟩
def kt{b D n:Nat}{c:I y}{v:y}(e:J C h b=some (.cells c n .own))(ab:C.aP<=b)(g:D+1<=n)(i:v.cells=[v])(f:d9 v=true):
 bj C h 1 (.ptr b D) v=some (aS C h b (some (.cells (c.set D (some v)) n .own))):=by
 have a:Nat.ble (D+1) n=true:=by simpa using g
 have d:Nat.ble C.aP b=true:=by simpa using ab
 simp[bj,i,gX,e,eV,cR,f,a,d,cO,cN,Nat.blt]
def nq:List y->List (Nat×Nat×y)->Option (List y)
 |cells,[]=>some cells
 |cells,(off,size,v)::rest=>aT (Nat.beq v.cells.length size&&Nat.ble (off+size) cells.length) (nq (e5 cells off v.cells) rest) none
def cr(a:List y)(bH:List (Nat×Nat×y)):Option y:=match nq a bH with|some cs=>some (.agg cs)|none=>none
def cu(a:List y)(b:Nat):Option (y×ae):=some (.ptr b 0, .cells (I.ofList a 0 .nil) a.length .own)
def dC(len:Nat)(a:List y)(bH:List (Nat×Nat×y))(b:Nat):Option (y×ae):=match nq a bH with
 |some cs=>some (.slice b 0 len len, .cells (I.ofList cs 0 .nil) cs.length .own)
 |none=>none
def rv(agg:Bool)(off size:Nat)(v:y):Option y:=match v with| .agg cs=>aT agg (some (.agg ((cs.drop off).take size))) (hS cs off)|_=>none
def bL(v:y):Option y:=match v with| .slice _ _ n _=>g5 .i64 (Int.ofNat n)| .cK _ _ n _=>g5 .i64 (Int.ofNat n)| .az=>some (.int .i64 0)|_=>none
def ys(v:y):Option y:=match v with| .str s=>g5 .i64 (Int.ofNat s.length)|_=>none
def iS(o:IntKind)(v:y):Option y:=match (match v with| .int _ n=>fq o n|_=>none)with|some v=>some v|none=>none
def ES(v:y):Option y:=match (match v with| .str s=>some (y.str s)|_=>none)with|some v=>some v|none=>none
def xn(C:aC)(h:I ae)(v:y):Option y:=match (match v with| .str s=>some (y.str s)|_=>none)with|some v=>some v|none=>qW C h v
def w6(t:Nat)(z:y)(ok:Bool)(v:y):Option y:=match v with
 | .nilIface=>aT ok (some (.tuple [z, .bool false])) none
 | .iface a w=>aT (Nat.beq a t) (some (aT ok (.tuple [w, .bool true]) w)) (aT ok (some (.tuple [z, .bool false])) none)
 |_=>none
def gs(C:aC)(h:I ae)(a:Nat)(z m o:y)(ok:Bool):Option y:=
 match (match m with
  | .fF=>aT (fX C 20 a o) (some none) none
  | .map r=>(match J C h r with|some (.map am _)=>aT (fX C 20 a o) (findKey C h a o am 0) none|some (.look am)=>aT (fX C 20 a o) (rW (hQ C h a o am)) none|_=>none)
  |_=>none)with
  |none=>none
  |some none=>some (aT ok (.tuple [z, .bool false]) z)
  |some (some (_,v))=>some (aT ok (.tuple [v, .bool true]) v)
def d4(C:aC)(h:I ae)(j ap:Nat)(s x:y):Option b1:=match gy C h ap x with
 |some (n,k)=>aT (Nat.beq n 0) (ol C h ap s) (kI C h j ap n k s)
 |none=>none
def nF(C:aC)(h:I ae)(j b:Nat)(m o v:y):Option b1:=match m with
 | .map r=>(match J C h r with
   |some (.map am a)=>aT (fX C 20 b o) (match findKey C h b o am 0 with
    |some (some (i,_))=>(match hS am i with
     |some (ct,_,born)=>aT (gL 20 ct o) (setObj C h j r (.map (am.set i (o,v,born)) a) undef) none
     |none=>none)
    |some none=>setObj C h j r (.map (am++[(o,v,a)]) (a+1)) undef
    |none=>none) none
   |_=>none)
 |_=>none
def t7(agg:Bool)(n ap:Nat)(v i:y):Option y:=match f3 i with
 |none=>none
 |some i=>match v with
  | .agg cs=>aT (Nat.blt i n) (aT agg (some (.agg ((cs.drop (i*ap)).take ap))) (hS cs (i*ap))) none
  |_=>none
def ks(v:y)(aF ak:Option y):Option y:=match v with
 | .str s=>(match gW s.length s.length aF ak none with
    |some (k,e,_)=>some (.str ((s.drop k).take (e-k)))
    |none=>none)
 |_=>none
def il(C:aC)(h:I ae)(ap:Nat)(x:y)(aF ak c:Option y):Option y:=match x with
 | .slice b D len cap=>(match gW len cap aF ak c with
   |some (k,e,m)=>some (.slice b (aT (Nat.beq m k) D (D+k*ap)) (e-k) (m-k))
   |_=>none)
 | .az=>(match gW 0 0 aF ak c with
   |some _=>some .az
   |_=>none)
 | .cK b D len a=>(match jK C h b with
   |some n=>aT (Nat.beq a ap&&Nat.blt 0 a) (match gW len ((n-D)/a) aF ak c with
     |some (k,e,m)=>(match c with
      |some _=>some (.slice b (aT (Nat.beq m k) D (D+k*a)) (e-k) (m-k))
      |none=>aT (Nat.blt k ((n-D)/a)||Nat.beq k 0) (some (.cK b (D+k*a) (e-k) a)) none)
     |none=>none) none
   |_=>none)
 |_=>none
def u6(n ap:Nat)(x:y)(aF ak a:Option y):Option y:=match x with
 | .ptr b D=>(match gW n n aF ak a with
   |some (k,e,m)=>some (.slice b (aT (Nat.beq m k) D (D+k*ap)) (e-k) (m-k))
   |_=>none)
 |_=>none
def uw(C:aC)(h:I ae)(j ap:Nat)(z:List y)(k c:y):Option b1:=match f3 k,f3 c with
 |some k,some c=>aT (Nat.ble k c&&Nat.ble c 1048576&&true&&true&&true) (gt C h j (.cells (I.ofList (eA c z) 0 .nil) (c*ap) .own) λb=> .slice b 0 k c) none
 |_,_=>none
def i1{α:Type}{a:α}{R:α->Prop}(e:R a):q (some a) R:=⟨e⟩
def iZ{α:Type}{a:α}{R:α->Prop}(e:R a):Q (some a) R:=e
def l8{a:y}{R:bh}(e:R (.ptr j 0) (aS C h j (some (.cells (I.ofList a.cells 0 .nil) a.cells.length .own))) (j+1)):eU C h j a R:=⟨e⟩
def qd{v:y}{bN:ae}{R:bh}(e:R v (aS C h j (some bN)) (j+1)):b4 C h j v bN R:=⟨e⟩
def qe{v:y}{bN:ae}{R:bh}(e:R v (aS C h j (some bN)) (j+1)):b4 C h j (Prod.mk v bN).1 (Prod.mk v bN).2 R:=⟨e⟩
def qb{b:Nat}{v:y}{bN:ae}{R:y->I ae->Prop}(e:R v (aS C h b (some bN))):fO C h b (Prod.mk v bN).1 (Prod.mk v bN).2 R:=⟨e⟩
def pr{b:Nat}{a:y}{R:y->I ae->Prop}(e:R (.ptr b 0) (aS C h b (some (.cells (I.ofList a.cells 0 .nil) a.cells.length .own)))):tb C h b a R:=⟨e⟩
def qa{b:Nat}{v:y}{bN:ae}{R:y->I ae->Prop}(e:R v (aS C h b (some bN))):fO C h b v bN R:=⟨e⟩
def gr{a:db}{body:db->Prop}(e:body a):av a body:=⟨e⟩
def pX{a:bh}{body:bh->Prop}(e:body a):al a body:=⟨e⟩
def pU{a:y->Prop}{body:(y->Prop)->Prop}(e:body a):bS a body:=⟨e⟩
def pV{a:y->I ae->Prop}{body:(y->I ae->Prop)->Prop}(e:body a):ck a body:=⟨e⟩
def pW{a:Prop}{body:Prop->Prop}(e:body a):t8 a body:=⟨e⟩
def p6{n:Nat}{R:Nat->Prop}(e:R n):dx n R:=⟨e⟩
def qt{v:y}{E:I ae}{ar:Nat}{R:bh}(e:R v E ar):dA (some (.cy v E ar)) h j R:=⟨e⟩
def qu{v:y}{R:bh}(e:R v h j):dA (some (.val v)) h j R:=⟨e⟩
def jY{a b:Prop}(e:a):aD (.bool true) a b:=⟨⟨λ_=>e,λl=>(by cases l)⟩⟩
def jX{a b:Prop}(e:b):aD (.bool false) a b:=⟨⟨λl=>(by cases l),λ_=>e⟩⟩
def kf{a b:Prop}(e:a):ag true (.bool true) a b:=⟨⟨λ_=>e,λl=>(by cases l)⟩⟩
def ke{a b:Prop}(e:b):ag true (.bool false) a b:=⟨⟨λl=>(by cases l),λ_=>e⟩⟩
def kd{a b:Prop}(e:b):ag false (.bool true) a b:=⟨⟨λl=>(by cases l),λ_=>e⟩⟩
def kc{a b:Prop}(e:a):ag false (.bool false) a b:=⟨⟨λ_=>e,λl=>(by cases l)⟩⟩
def pS{f:Nat}{a c b:List y}{R af:bh}(e:aN C f ((a++c)++b) h j R af):lb C (.func (.func f) a b) c h j R af:=⟨e⟩
def fi{x a:y}{R:Prop}(e:y.same 30 x a=true)(o:R):eR x (some a) R:=⟨⟨e,o⟩⟩
def aN.mono{f:Nat}{c:List y}{R af g i:bh}(e:aN C f c h j R af)(d:∀N E ar,R N E ar->g N E ar)(n:∀N E ar,af N E ar->i N E ar):aN C f c h j g i:=by
 rcases e.out with ⟨N,a,b⟩|⟨a,b,m⟩
 ·exact⟨.inl ⟨N,a,d _ _ _ b⟩⟩
 ·exact⟨.inr ⟨a,b,m.mono d n⟩⟩
def xW{f d:Nat}(e:cb C f d=true):∃fn c,C.P.funcs[f]? =some fn/\fn.body=some c:=by
 unfold cb at e
 split at e
 ·rename_i fn b
  split at e
  ·rename_i c a;exact⟨fn,c,b,a⟩
  ·cases e
 ·cases e
def cq{f:Nat}{a:List y}{R af:bh}(b:cb C f a.length=true)(c:C.dy f a=none)(e:co C f a h j R af):aN C f a h j R af:=
 ⟨.inr ⟨c,xW b,F4 b e⟩⟩
def th{f:Nat}{a:List y}{R af:bh}{N:y}(b:C.dy f a=some N)(e:R N h j):aN C f a h j R af:=⟨.inl ⟨N,b,e⟩⟩
def lC(B:ca)(d n:Nat)(v:y):(K B d v).g n=if d=n then some v else B.g n:=by show aT (Nat.beq d n) (some v) (B.g n)=_;rw[d5]
def ja(B:ca)(d:Nat)(v:y):(K B d v).aA=B.aA:=rfl
def lD(B:ca)(d:Nat)(v:y):(K B d v).rc=B.rc:=rfl
def kJ(k:List y)(n:Nat):(bR k).g n=k[n]? :=by simp[bR]
def jW(k:List y):(bR k).aA=[]:=rfl
def kK(k:List y):(bR k).rc=false:=rfl
def kV(k:List Nat)(B:ca)(n:Nat):(ed k B).g n=aT (ic n k) none (B.g n):=rfl
def lw(B:ca)(d:dM)(n:Nat):(o0 B d).g n=B.g n:=rfl
def lv(B:ca)(d:dM):(o0 B d).aA=d::B.aA:=rfl
def ll(B:ca)(d n:Nat):(jz B d).g n=B.g n:=rfl
def jA(B:ca)(d:Nat):(jz B d).aA=⟨.collected d,[]⟩::B.aA:=rfl
def q3{f:Nat}{a:List y}{R af:bh}(b:cb C f a.length=true)(c:C.dy f a=none)(e:ns C f a h j R af):aN C f a h j R af:=
 ⟨.inr ⟨c,xW b,F5 b e⟩⟩
def xd{f:Nat}{a:List y}{R af:bh}(g:C.dy f a=none)(e:aN C f a h j R af):jb C f a h j R af:=by
 rcases e.out with ⟨N,b,c⟩|⟨b,c,d⟩
 ·rw[g]at b;cases b
 ·exact d
def jw(b D:Nat):br C h 2 (.ptr b D)=(W C h (.ptr b D)).bind λa=>(W C h (.ptr b (D+1))).bind λc=>some (.agg [a,c]):=by
 rw[my]
 simp only[ia,Z1,Nat.reduceAdd,Yv,ZL]
def hp(b D:Nat):br C h 3 (.ptr b D)=(W C h (.ptr b D)).bind λa=>(W C h (.ptr b (D+1))).bind λc=>(W C h (.ptr b (D+2))).bind λd=>some (.agg [a,c,d]):=by
 rw[my]
 simp only[ia,Z1,Nat.reduceAdd,Yv,ZL]
def lf(b D:Nat):br C h 4 (.ptr b D)=(W C h (.ptr b D)).bind λa=>(W C h (.ptr b (D+1))).bind λc=>(W C h (.ptr b (D+2))).bind λd=>(W C h (.ptr b (D+3))).bind λf=>some (.agg [a,c,d,f]):=by
 rw[my]
 simp only[ia,Z1,Nat.reduceAdd,Yv,ZL]
def lg(b D:Nat):br C h 6 (.ptr b D)=(W C h (.ptr b D)).bind λa=>(W C h (.ptr b (D+1))).bind λc=>(W C h (.ptr b (D+2))).bind λd=>(W C h (.ptr b (D+3))).bind λf=>(W C h (.ptr b (D+4))).bind λg=>(W C h (.ptr b (D+5))).bind λi=>some (.agg [a,c,d,f,g,i]):=by
 rw[my]
 simp only[ia,Z1,Nat.reduceAdd,Yv,ZL]
def lh(b D:Nat):br C h 7 (.ptr b D)=(W C h (.ptr b D)).bind λa=>(W C h (.ptr b (D+1))).bind λc=>(W C h (.ptr b (D+2))).bind λd=>(W C h (.ptr b (D+3))).bind λf=>(W C h (.ptr b (D+4))).bind λg=>(W C h (.ptr b (D+5))).bind λi=>(W C h (.ptr b (D+6))).bind λm=>some (.agg [a,c,d,f,g,i,m]):=by
 rw[my]
 simp only[ia,Z1,Nat.reduceAdd,Yv,ZL]
def li(b D:Nat):br C h 8 (.ptr b D)=(W C h (.ptr b D)).bind λa=>(W C h (.ptr b (D+1))).bind λc=>(W C h (.ptr b (D+2))).bind λd=>(W C h (.ptr b (D+3))).bind λf=>(W C h (.ptr b (D+4))).bind λg=>(W C h (.ptr b (D+5))).bind λi=>(W C h (.ptr b (D+6))).bind λm=>(W C h (.ptr b (D+7))).bind λn=>some (.agg [a,c,d,f,g,i,m,n]):=by
 rw[my]
 simp only[ia,Z1,Nat.reduceAdd,Yv,ZL]
def lj(b D:Nat):br C h 9 (.ptr b D)=(W C h (.ptr b D)).bind λa=>(W C h (.ptr b (D+1))).bind λc=>(W C h (.ptr b (D+2))).bind λd=>(W C h (.ptr b (D+3))).bind λf=>(W C h (.ptr b (D+4))).bind λg=>(W C h (.ptr b (D+5))).bind λi=>(W C h (.ptr b (D+6))).bind λm=>(W C h (.ptr b (D+7))).bind λn=>(W C h (.ptr b (D+8))).bind λp=>some (.agg [a,c,d,f,g,i,m,n,p]):=by
 rw[my]
 simp only[ia,Z1,Nat.reduceAdd,Yv,ZL]
def ld(b D:Nat):br C h 11 (.ptr b D)=(W C h (.ptr b D)).bind λa=>(W C h (.ptr b (D+1))).bind λc=>(W C h (.ptr b (D+2))).bind λf=>(W C h (.ptr b (D+3))).bind λg=>(W C h (.ptr b (D+4))).bind λi=>(W C h (.ptr b (D+5))).bind λm=>(W C h (.ptr b (D+6))).bind λn=>(W C h (.ptr b (D+7))).bind λp=>(W C h (.ptr b (D+8))).bind λr=>(W C h (.ptr b (D+9))).bind λs=>(W C h (.ptr b (D+10))).bind λd=>some (.agg [a,c,f,g,i,m,n,p,r,s,d]):=by
 rw[my]
 simp only[ia,Z1,Nat.reduceAdd,Yv,ZL]
def lH(z0 a0:y):cO (I.ofList [z0] 0 .nil) 0 [a0]=I.ofList [a0] 0 .nil:=by rfl
def lJ(z0 a a0 aH:y):cO (I.ofList [z0,a] 0 .nil) 0 [a0,aH]=I.ofList [a0,aH] 0 .nil:=by rfl
def lK(z0 a b a0 aH aZ:y):cO (I.ofList [z0,a,b] 0 .nil) 0 [a0,aH,aZ]=I.ofList [a0,aH,aZ] 0 .nil:=by rfl
def lL(z0 a b z3 a0 aH aZ a3:y):cO (I.ofList [z0,a,b,z3] 0 .nil) 0 [a0,aH,aZ,a3]=I.ofList [a0,aH,aZ,a3] 0 .nil:=by rfl
def lM(z0 a b z3 z4 z5 a0 aH aZ a3 a4 a5:y):cO (I.ofList [z0,a,b,z3,z4,z5] 0 .nil) 0 [a0,aH,aZ,a3,a4,a5]=I.ofList [a0,aH,aZ,a3,a4,a5] 0 .nil:=by rfl
def lN(z0 a b z3 z4 z5 c a0 aH aZ a3 a4 a5 dY:y):cO (I.ofList [z0,a,b,z3,z4,z5,c] 0 .nil) 0 [a0,aH,aZ,a3,a4,a5,dY]=I.ofList [a0,aH,aZ,a3,a4,a5,dY] 0 .nil:=by rfl
def lO(z0 a b z3 z4 z5 c d a0 aH aZ a3 a4 a5 dY d3:y):cO (I.ofList [z0,a,b,z3,z4,z5,c,d] 0 .nil) 0 [a0,aH,aZ,a3,a4,a5,dY,d3]=I.ofList [a0,aH,aZ,a3,a4,a5,dY,d3] 0 .nil:=by rfl
def lP(z0 a b z3 z4 z5 c d f a0 aH aZ a3 a4 a5 dY d3 dE:y):cO (I.ofList [z0,a,b,z3,z4,z5,c,d,f] 0 .nil) 0 [a0,aH,aZ,a3,a4,a5,dY,d3,dE]=I.ofList [a0,aH,aZ,a3,a4,a5,dY,d3,dE] 0 .nil:=by rfl
def lI(z0 b d z3 z4 z5 f g i z9 c a0 aH aZ a3 a4 a5 dY d3 dE a9 a:y):cO (I.ofList [z0,b,d,z3,z4,z5,f,g,i,z9,c] 0 .nil) 0 [a0,aH,aZ,a3,a4,a5,dY,d3,dE,a9,a]=I.ofList [a0,aH,aZ,a3,a4,a5,dY,d3,dE,a9,a] 0 .nil:=by rfl
def hA(c:I y)(D:Nat)(v:y):(cO c D [v]).get D=some v:=by rw[iJ];simp
def kz{c:I y}{D i:Nat}{v:y}(e:i≠D):(cO c D [v]).get i=c.get i:=by rw[iJ,Zj Zx]
def e8{b D o n:Nat}{c:I y}{v:y}(e:J C h b=some (.cells c n .own))(ab:C.aP<=b)(m:v.cells.length=o)(r:0<o)(p:D+o<=n)(i:cR v.cells=true):
 bj C h o (.ptr b D) v=some (aS C h b (some (.cells (cO c D v.cells) n .own))):=by
 subst m
 have d:Nat.blt 0 v.cells.length=true:=by simp[Nat.blt];omega
 have f:Nat.beq v.cells.length v.cells.length=true:=by simp
 have a:Nat.ble (D+v.cells.length) n=true:=by simpa using p
 have g:Nat.ble C.aP b=true:=by simpa using ab
 simp only[bj,gX,e,eV,g,a,d,f,i,Yi,cS,dF]
def mD(o:IntKind)(n:Nat):f3 (.int o (n:Int))=some n:=rfl
def Is(o:IntKind):f3 (.int o 0)=some 0:=rfl
def k9(o:IntKind)(x a:Int):ah .lss (.int o x) (.int o a)=some (.bool (decide (x<a))):=by
 cases o<;>simp[ah,fM,f2,fJ,jZ,jt]<;>(rw[Z8];simp)
def k7(o:IntKind)(x a:Int):ah .gtr (.int o x) (.int o a)=some (.bool (decide (a<x))):=by
 cases o<;>simp[ah,fM,f2,fJ,jZ,jt]<;>(rw[Z8];simp)
def k8(o:IntKind)(x a:Int):ah .leq (.int o x) (.int o a)=some (.bool (decide (x<=a))):=by
 cases o<;>simp[ah,fM,f2,fJ,jZ,jt]<;>(rw[Z8];simp)
def k6(o:IntKind)(x a:Int):ah .geq (.int o x) (.int o a)=some (.bool (decide (a<=x))):=by
 cases o<;>simp[ah,fM,f2,fJ,jZ,jt]<;>(rw[Z8];simp)
def k5(o:IntKind)(x a:Int):ah .eql (.int o x) (.int o a)=some (.bool (decide (x=a))):=by
 cases o<;>simp[ah,fM,f2,fJ,jZ,mq]
def la(o:IntKind)(x a:Int):ah .neq (.int o x) (.int o a)=some (.bool (decide (x≠a))):=by
 cases o<;>simp[ah,fM,f2,fJ,jZ,mq]
def wrap64{n:Int}(a: -9223372036854775808<=n)(b:n<9223372036854775808):h0 .i64 n=n:=by
 simp only[h0,cN,Zc]
 split<;>omega
def cx{x a:Int}(b: -9223372036854775808<=x+a)(c:x+a<9223372036854775808):ah .add (.int .i64 x) (.int .i64 a)=some (.int .i64 (x+a)):=by
 simp[ah,fM,f2,fJ,fq,wrap64 b c]
def g4{x a:Int}(b: -9223372036854775808<=x-a)(c:x-a<9223372036854775808):ah .sub (.int .i64 x) (.int .i64 a)=some (.int .i64 (x-a)):=by
 simp[ah,fM,f2,fJ,fq,wrap64 b c]
def GK(x a:Int):ah .add (.int .u64 x) (.int .u64 a)=some (.int .u64 ((x+a)%18446744073709551616)):=by
 simp[ah,fM,f2,fJ,fq,h0]
def mu{ap b D len cap i:Nat}(o:IntKind)(e:i<len):bK ap (.slice b D len cap) (.int o (i:Int))=some (.ptr b (D+i*ap)):=by
 simp[bK,mD,mT,cN,Nat.blt,e];omega
def oL{ap b D len cap i:Nat}(o:IntKind)(e:i<len):bK ap (.cK b D len cap) (.int o (i:Int))=some (.ptr b (D+i*ap)):=by
 simp[bK,mD,mT,cN,Nat.blt,e];omega
def lS(d b D:Nat):aq d (.ptr b D)=some (.ptr b (D+d)):=rfl
def lQ(i:Nat)(k:List y):dD i (.tuple k)=k[i]? :=by simp[dD]
def lR(b D:Nat):a2 (.ptr b D)=some (.ptr b D):=rfl
def lq(b:Bool):c0 .not (.bool b)=some (.bool (!b)):=by simp[c0,jZ]
def dJ(c:I y)(k:List y):Prop:=∀i,c.get i=k[i]?
def dl(k:List y):dJ (I.ofList k 0 .nil) k:=λi=>fG k i
def dJ.app{c:I y}{k:List y}(e:dJ c k)(m:List y):dJ (cO c k.length m) (k++m):=by
 intro i
 rw[iJ]
 by_cases a:k.length<=i/\i<k.length+m.length
 ·rw[Zv a,Zy a.1]
 ·rw[Zj a,e i]
  by_cases b:i<k.length
  ·rw[ZA b]
  ·rw[Z3 Zo,Z3 Zx]
end
end
noncomputable section
section
variable{C:aC}{h:I ae}{j:Nat}
def gk{a b:Nat}(e:a<=b):Nat.ble a b=true:=by simpa using e
def Er{a b:Nat}(e:a<b):Nat.blt a b=true:=by simp[Nat.blt];omega
def yi:∀(k:List Nat) (h:I ae) (b:Nat),(∀x∈k,C.aP<=x)->b∉k->J C (fN C k h) b=J C h b:=by
 intro k
 induction k with
 |nil=>intro h b _ _;rfl
 |cons a k V=>
  intro h b au c
  simp only[Zz,not_or]at c
  simp only[fN]
  rw[V _ _ (λx d=>au x (Zi _ d)) c.2,aY (au a (Zl ..)) c.1]
def dc(C:aC)(h:I ae)(s:y)(ap:Nat)(k:List y)(aJ:List Nat):Prop:=
 (s= .az/\k=[]/\aJ=[])\/∃b cj n c,s= .cK b 0 n ap/\k.length=n*ap/\aJ=b::cj/\(∀x∈aJ,C.aP<=x)/\b∉cj/\J C h b=some (.cells c (n*ap) (.grow cj))/\dJ c k
def dc.T{E:I ae}{s:y}{ap:Nat}{k:List y}{aJ:List Nat}(e:dc C h s ap k aJ)(t:∀d∈aJ,J C E d=J C h d):dc C E s ap k aJ:=by
 rcases e with e|⟨b,cj,n,c,f,g,a,i,m,p,r⟩
 ·exact .inl e
 ·exact .inr ⟨b,cj,n,c,f,g,a,i,m,by rw[t b (by rw[a];exact Zl ..)];exact p,r⟩
def dc.at{ap:Nat}{s:y}{k:List y}{aJ:List Nat}{i:Nat}(e:dc C h s ap k aJ)(ak:i*ap+ap<=k.length)(t:0<ap)(o:IntKind):
 ∃b,aJ.head?=some b/\bK ap s (.int o (i:Int))=some (.ptr b (i*ap))/\∀H,W C h (.ptr b (i*ap+H))=k[i*ap+H]? :=by
 rcases e with ⟨rfl,rfl,rfl⟩|⟨b,cj,n,c,rfl,d,rfl,p,r,f,g⟩
 ·simp at ak;omega
 ·have m:i<n:=by
   rw[d]at ak
   exact Nat.lt_of_mul_lt_mul_right (a:=ap) Zo
  refine⟨b,rfl,by rw[oL o m,ZE],λH=> ?_⟩
  rw[b0,f]
  exact g _
def i6(k:List y)(D:Nat)(aE:List y):List y:=k.take D++(aE++k.drop (D+aE.length))
def Jm{k aE:List y}{D:Nat}(e:D+aE.length<=k.length):(i6 k D aE).length=k.length:=by
 simp[i6];omega
def Am{k aE:List y}{D:Nat}(e:D+aE.length<=k.length)(i:Nat):(i6 k D aE)[i]? =if D<=i/\i<D+aE.length then aE[i-D]? else k[i]? :=by
 unfold i6
 have c:(k.take D).length=D:=by simp;omega
 by_cases a:i<D
 ·rw[ZA Zo,Zj Zo,List.getElem?_take,Zv a]
 ·rw[Zy Zo,c]
  by_cases b:i<D+aE.length
  ·rw[ZA Zo,Zv ⟨Zo,b⟩]
  ·rw[Zy Zo,Zj Zo,Yz]
   congr 1
   omega
def dJ.put{c:I y}{k:List y}(e:dJ c k){D:Nat}{aE:List y}(au:D+aE.length<=k.length):dJ (cO c D aE) (i6 k D aE):=by
 intro i
 rw[iJ,Am au,e i]
def dc.put{ap:Nat}{s:y}{k aE:List y}{aJ:List Nat}{b D:Nat}{v:y}(e:dc C h s ap k aJ)(ab:aJ.head?=some b)(Y:v.cells=aE)(w:0<aE.length)(z:cR aE=true)(m:D+aE.length<=k.length):
 ∃E,bj C h aE.length (.ptr b D) v=some E/\dc C E s ap (i6 k D aE) [b]/\∀d,d∉aJ->J C E d=J C h d:=by
 rcases e with ⟨rfl,rfl,rfl⟩|⟨f,cj,n,c,rfl,G,rfl,i,T0,O,P⟩
 ·simp at ab
 ·simp only[List.head?_cons,Zu]at ab
  subst ab
  have a:=i f (Zl ..)
  have X:∀x∈cj,C.aP<=x:=λx Z=>i x (Zi _ Z)
  refine⟨aS C (fN C cj h) f (some (.cells (cO c D aE) (n*ap) (.grow []))), ?_, .inr ⟨f,[],n,cO c D aE,rfl,by rw[Jm m];exact G,rfl,by simpa using a,Zs,bb a,P.put m⟩,λd g=> ?_⟩
  ·have p:Nat.ble (D+aE.length) (n*ap)=true:=gk Zo
   subst Y
   have r:Nat.blt 0 v.cells.length=true:=Er w
   have t:Nat.beq v.cells.length v.cells.length=true:=by simp
   simp only[bj,gX,O,eV,gk a,p,r,t,z,Yi,cS,dF]
  ·simp only[Zz,not_or]at g
   rw[aY a g.1,yi _ _ _ X g.2]
def hx{ap o b n:Nat}{k:List y}{c:I y}{st:h5}(e:J C h b=some (.cells c n st))(d:dJ c k)(au:k.length=o*ap)(cap:Nat):gy C h ap (.slice b 0 o cap)=some (o,k):=by
 have f:∀(m D:Nat),D+m<=k.length->c.eM D m=some ((k.drop D).take m):=by
  intro m
  induction m with
  |zero=>intro D _;simp[I.eM]
  |succ m V=>
   intro D g
   have a:c.get D=some k[D]:=by rw[d D,Ze Zo]
   simp only[I.eM,a,V (D+1) Zo]
   rw[ZY (by omega:D<k.length),ZO]
 simp only[gy,fY,cellsOf,e]
 rw[f (o*ap) 0 Zo]
 simp[<-au]
def cQ{b:db->db}{B:ca}{h:I ae}{j:Nat}(a:Nat->db)(m:Nat)(d:a m B h j)(e:∀m B h j,a m B h j->b (λB h j=>∃c,c<m/\a c B h j) B h j):cC b B h j:=⟨⟨a,⟨m,d⟩,e⟩⟩
def tW{c:I y}{k:List y}(b:dJ c k):∀(m D:Nat),D+m<=k.length->c.eM D m=some ((k.drop D).take m):=by
 intro m
 induction m with
 |zero=>intro D _;simp[I.eM]
 |succ m V=>
  intro D d
  have a:c.get D=some k[D]:=by rw[b D,Ze Zo]
  simp only[I.eM,a,V (D+1) Zo]
  rw[ZY (by omega:D<k.length),ZO]
def dc.src{ap:Nat}{s:y}{k:List y}{aJ:List Nat}(e:dc C h s ap k aJ):∃n,k.length=n*ap/\gy C h ap s=some (n,k):=by
 rcases e with ⟨rfl,rfl,rfl⟩|⟨b,cj,n,c,rfl,a,rfl,g,i,d,f⟩
 ·exact⟨0,Zs,rfl⟩
 ·refine⟨n,a, ?_⟩
  simp only[gy,fY,cellsOf,d]
  rw[tW f _ _ Zo]
  simp[<-a]
def iz{ap:Nat}:∀{rows:List (List y)},(∀r∈rows,r.length=ap)->rows.flatten.length=rows.length*ap:=by
 intro rows
 induction rows with
 |nil=>intro _;simp
 |cons a k V=>
  intro e
  rw[Z9,ZT,e a (Zl ..),V (λr M=>e r (Zi _ M)),ZC,Z7]
  omega
abbrev zy(l:List y)(n:Nat):Option ae:=some (.cells (I.ofList l 0 .nil) n .own)
def zz(i:Nat)(h:i<1000000000:=by omega):ah .add (.Z (i:Int)) (.Z 1)=some (.Z ((i+1:Nat):Int)):=by rw[cx (by omega) (by omega)];rfl
def zA{p:Prop}(h:p:=by simp(disch:=omega) only[aY]):p:=h
def zF{z7:aC}{z8 z9:I ae}{b o:Nat}{v:Option y}(h:J z7 z9 b=J z7 z8 b)(k:W z7 z8 (.ptr b o)=v):W z7 z9 (.ptr b o)=v:=by rw[b0,h,<-b0];exact k
abbrev zC(T_:ca)(a_:Nat)(x_:y)(b_:Nat)(y_:y):ca:=K (K T_ a_ x_) b_ y_
abbrev zD(T_:ca)(a_:Nat)(x_:y)(b_:Nat)(y_:y)(c_:Nat)(z_:y):ca:=K (zC T_ a_ x_ b_ y_) c_ z_
abbrev zE(T_:ca)(a_:Nat)(x_:y)(b_:Nat)(y_:y)(c_:Nat)(w_:y)(d_:Nat)(u_:y):ca:=zC (zC T_ a_ x_ b_ y_) c_ w_ d_ u_
end
end
end Go.S

namespace Go.a8
abbrev aW:=List Nat
structure eb where
 b:Bool
 s:Bool
 w:Int
 deriving DecidableEq
structure Tok where
 kind:Int
 text:aW
 at_:Int
 n:Int
 ty:eb
inductive bk where
 |mk (kind at_:Int) (name:aW) (no:Bool) (ty:eb) (n:Int) (args:List bk)
structure bx where
 name:aW
 at_:Int
 ty:eb
 on:aW
 di:Int
 no:Bool
structure dO where
 left:List aW
 bw:List Int
 at_:Int
 right:bk
structure Node where
 name:aW
 at_:Int
 cl:List bx
 out:List bx
 loc:List bx
 eqs:List dO
def cm:eb:=⟨false,false,0⟩
def bk.kind:bk->Int| .mk o _ _ _ _ _ _=>o
def bk.args:bk->List bk| .mk _ _ _ _ _ _ k=>k
abbrev ep(α:Type):=Option (Except Int (α×List Tok))
def ok{α:Type}(a:α)(k:List Tok):ep α:=some (.ok (a,k))
def bad{α:Type}(at_:Int):ep α:=some (.error at_)
def andThen{α b:Type}(x:ep α)(f:α->List Tok->ep b):ep b:=match x with
 |none=>none
 |some (.error a)=>some (.error a)
 |some (.ok (a,k))=>f a k
def AC(x:Tok)(s:aW):Bool:=(x.kind=2||x.kind=6)&&x.text=s
def AX(s:aW):List Tok->Option (Option Tok×List Tok)
 |[]=>none
 |x::k=>if AC x s then some (some x,k)else some (none,x::k)
def hy{a:Type}(s:aW)(k:List Tok)(f:Option Tok->List Tok->ep a):ep a:=match AX s k with
 |none=>none
 |some (x,k)=>f x k
def gA(s:aW):List Tok->ep Tok
 |[]=>none
 |x::k=>if AC x s then ok x k else bad x.at_
def ls(o:Int):List Tok->ep Tok
 |[]=>none
 |x::k=>if x.kind=o then ok x k else bad x.at_
def ad:Nat->List (aW×Int)
 |0=>[([111,114],7),([120,111,114],8)]
 |1=>[([97,110,100],9)]
 |2=>[([61],10),([60,62],11),([60,61],13),([62,61],15),([60],12),([62],14)]
 |3=>[([43],16),([45],17)]
 |4=>[([42],18)]
 |_=>[]
def s9:List (aW×Int)->List Tok->Option (Option bk×List Tok)
 |[],k=>some (none,k)
 |(s,o)::os,k=>match AX s k with
  |none=>none
  |some (some x,k)=>some (some (.mk o x.at_ [] false cm 0 []),k)
  |some (none,k)=>s9 os k
def bk.at_:bk->Int| .mk _ a _ _ _ _ _=>a
def HK(l:bk):Option Bool:=if l.kind=1 then some true else if l.kind=4 then(match l.args with|[]=>none|a::_=>some (decide (a.kind=1)))else some false
def bk.name:bk->aW| .mk _ _ s _ _ _ _=>s
def bk.no:bk->Bool| .mk _ _ _ b _ _ _=>b
def bk.ty:bk->eb| .mk _ _ _ _ t _ _=>t
def bk.n:bk->Int| .mk _ _ _ _ _ n _=>n
def n2(l:bk)(a b:bk):bk:= .mk l.kind l.at_ [] false cm 0 [a,b]
def Jb:List (aW×Int):=[([110,111,116],3),([45],4),([112,114,101],5)]
mutual
def ur:Nat->Nat->List Tok->ep bk
 |0,_,_=>none
 |n+1,o,k=>if o=5 then shift n k else andThen (ur n (o+1) k) λleft k=>yv n o left k
def yv:Nat->Nat->bk->List Tok->ep bk
 |0,_,_,_=>none
 |n+1,o,left,k=>match s9 (ad o) k with
  |none=>none
  |some (none,k)=>ok left k
  |some (some l,k)=>andThen (ur n (o+1) k) λr k=>if o=2 then ok (n2 l left r) k else yv n o (n2 l left r) k
def shift:Nat->List Tok->ep bk
 |0,_=>none
 |n+1,k=>andThen (Al n k) λleft k=>AH n left k
def AH:Nat->bk->List Tok->ep bk
 |0,_,_=>none
 |n+1,left,k=>hy [60,60] k λx k=>match x with
  |some x=>AI n 19 x left k
  |none=>hy [62,62] k λx k=>match x with
   |some x=>AI n 20 x left k
   |none=>ok left k
def AI:Nat->Int->Tok->bk->List Tok->ep bk
 |0,_,_,_,_=>none
 |n+1,o,x,left,k=>andThen (ls 4 k) λm k=>if 63<m.n then bad m.at_ else AH n (.mk o x.at_ [] false cm m.n [left]) k
def Al:Nat->List Tok->ep bk
 |0,_=>none
 |n+1,k=>match s9 Jb k with
  |none=>none
  |some (some l,k)=>andThen (Al n k) λa k=>ok (.mk l.kind l.at_ [] false cm 0 [a]) k
  |some (none,k)=>andThen (part n k) λleft k=>Bb n left k
def Bb:Nat->bk->List Tok->ep bk
 |0,_,_=>none
 |n+1,left,k=>hy [119,104,101,110] k λx k=>match x with
  |none=>ok left k
  |some x=>hy [110,111,116] k λno k=>andThen (ls 1 k) λc k=>Bb n (.mk 6 x.at_ c.text no.isSome cm 0 [left]) k
def part:Nat->List Tok->ep bk
 |0,_=>none
 |_+1,[]=>none
 |n+1,x::k=>
  if x.kind=5 then ok (.mk 1 x.at_ [] false x.ty x.n []) k
  else if x.kind=2&&(x.text=[116,114,117,101]||x.text=[102,97,108,115,101])then ok (.mk 1 x.at_ [] false ⟨true,false,1⟩ (if x.text=[116,114,117,101]then 1 else 0) []) k
  else if x.kind=1 then hy [40] k λd k=>match d with
   |none=>ok (.mk 2 x.at_ x.text false cm 0 []) k
   |some _=>andThen (rV n k) λf k=>ok (.mk 25 x.at_ x.text false cm 0 f) k
  else if x.kind=3 then andThen (gA [40] k) λ_ k=>andThen (kL n k) λl k=>andThen (gA [41] k) λ_ k=>ok (.mk 26 x.at_ [] false x.ty 0 [l]) k
  else if x.kind=6&&x.text=[40]then andThen (kL n k) λl k=>andThen (gA [41] k) λ_ k=>ok l k
  else if x.kind=2&&x.text=[105,102]then andThen (kL n k) λc k=>andThen (gA [116,104,101,110] k) λ_ k=>andThen (kL n k) λa k=>andThen (gA [101,108,115,101] k) λ_ k=>andThen (kL n k) λb k=>ok (.mk 23 x.at_ [] false cm 0 [c,a,b]) k
  else if x.kind=2&&x.text=[109,101,114,103,101]then andThen (ls 1 k) λc k=>andThen (part n k) λa k=>andThen (part n k) λb k=>ok (.mk 24 x.at_ c.text false cm 0 [a,b]) k
  else bad x.at_
def rV:Nat->List Tok->ep (List bk)
 |0,_=>none
 |n+1,k=>hy [41] k λd k=>match d with
  |some _=>ok [] k
  |none=>andThen (kL n k) λl k=>yz n [l] k
def yz:Nat->List bk->List Tok->ep (List bk)
 |0,_,_=>none
 |n+1,f,k=>hy [44] k λd k=>match d with
  |none=>andThen (gA [41] k) λ_ k=>ok f k
  |some _=>andThen (kL n k) λl k=>yz n (f++[l]) k
def rr:Nat->List Tok->ep bk
 |0,_=>none
 |n+1,k=>andThen (ur n 0 k) λleft k=>hy [102,98,121] k λx k=>match x with
  |none=>ok left k
  |some x=>match HK left with
   |none=>none
   |some true=>andThen (rr n k) λr k=>ok (.mk 21 x.at_ [] false cm 0 [left,r]) k
   |some false=>bad x.at_
def kL:Nat->List Tok->ep bk
 |0,_=>none
 |n+1,k=>andThen (rr n k) λleft k=>hy [45,62] k λx k=>match x with
  |none=>ok left k
  |some x=>andThen (kL n k) λr k=>ok (.mk 22 x.at_ [] false cm 0 [left,r]) k
end
def uy:Nat->List Tok->List Tok->ep (List Tok)
 |0,_,_=>none
 |n+1,a,k=>andThen (ls 1 k) λx k=>hy [44] k λb k=>match b with
  |none=>ok (a++[x]) k
  |some _=>uy n (a++[x]) k
def ET(ty:eb)(on:aW)(di:Int)(no:Bool)(x:Tok):bx:=⟨x.text,x.at_,ty,on,di,no⟩
def vf:Nat->List Tok->Option aW
 |_,[]=>none
 |0,x::_=>some x.text
 |i+1,_::k=>vf i k
def EW(loc:Bool)(o:List bx->List Tok->ep (List bx))(ds:List bx)(k:List Tok):ep (List bx):=match vf 0 k with
 |none=>none
 |some s=>if s=[59]then(if loc then(match vf 1 k with
   |none=>none
   |some s=>if s=[108,101,116]then ok ds k else o ds (k.drop 1))else o ds (k.drop 1))
  else ok ds k
def EX(w:Option Tok)(k:List Tok):ep (aW×Int×Bool):=match w with
 |none=>ok ([],0,false) k
 |some _=>hy [110,111,116] k λno k=>andThen (ls 1 k) λon k=>ok (on.text,on.at_,no.isSome) k
def EV(loc:Bool)(o:List bx->List Tok->ep (List bx))(ds:List bx)(a:List Tok)(k:List Tok):ep (List bx):=
 andThen (gA [58] k) λ_ k=>andThen (ls 3 k) λt k=>hy [119,104,101,110] k λw k=>
 andThen (EX w k) λr k=>EW loc o (ds++a.map (ET t.ty r.1 r.2.1 r.2.2)) k
def q8:Nat->Bool->List bx->List Tok->ep (List bx)
 |0,_,_,_=>none
 |n+1,loc,ds,k=>andThen (uy n [] k) λa k=>EV loc (q8 n loc) ds a k
def tC(n:Nat)(k:List Tok):ep dO:=hy [40] k λb k=>
 andThen (match b with
  |some _=>andThen (ls 1 k) λx k=>andThen (gA [44] k) λ_ k=>andThen (uy n [x] k) λa k=>andThen (gA [41] k) λ_ k=>ok a k
  |none=>andThen (ls 1 k) λx k=>ok [x] k) λa k=>
 andThen (gA [61] k) λl k=>andThen (kL n k) λr k=>andThen (gA [59] k) λ_ k=>ok ⟨a.map Tok.text,a.map Tok.at_,l.at_,r⟩ k
def eqns:Nat->List dO->List Tok->ep (List dO)
 |0,_,_=>none
 |n+1,df,k=>hy [116,101,108] k λa k=>match a with
  |some _=>ok df k
  |none=>andThen (tC n k) λL k=>eqns n (df++[L]) k
def node(n:Nat)(k:List Tok):ep Node:=
 andThen (gA [110,111,100,101] k) λ_ k=>andThen (ls 1 k) λx k=>andThen (gA [40] k) λ_ k=>hy [41] k λa k=>
 andThen (match a with
  |some _=>ok [] k
  |none=>andThen (q8 n false [] k) λds k=>andThen (gA [41] k) λ_ k=>ok ds k) λcl k=>
 andThen (gA [114,101,116,117,114,110,115] k) λ_ k=>andThen (gA [40] k) λ_ k=>andThen (q8 n false [] k) λout k=>andThen (gA [41] k) λ_ k=>
 hy [118,97,114] k λa k=>andThen (match a with
  |some _=>andThen (q8 n true [] k) λds k=>andThen (gA [59] k) λ_ k=>ok ds k
  |none=>ok [] k) λloc k=>
 andThen (gA [108,101,116] k) λ_ k=>andThen (eqns n [] k) λdf k=>ok ⟨x.text,x.at_,cl,out,loc,df⟩ k
end Go.a8

