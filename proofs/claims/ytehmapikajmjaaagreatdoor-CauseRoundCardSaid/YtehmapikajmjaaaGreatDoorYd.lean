/- Part of the proof of the last text; no conditions -/
import Derived.Test.YtehmapikajmjaaaGreatDoorYc
import Derived.Defers
import Derived.RangeFuncRecord
import Derived.Orders
set_option maxHeartbeats 8000000
set_option linter.all false
namespace Go.aF
def oR(m i:Nat):dq m i=m.testBit i:=by unfold dq;rw[Nat.testBit_eq_decide_div_mod_eq,Yh,Zf];exact⟨Zn,λh=>by rw[show Nat.mod (Nat.div m (Nat.pow 2 i)) 2=1 from h];rfl⟩
def vY(i:Nat):dq 0 i=false:=by rw[oR];simp
def sm(a b i:Nat):dq (Nat.lor a b) i=(dq a i||dq b i):=by rw[oR,oR,oR];exact Nat.testBit_or a b i
def vX(t i:Nat):dq (Nat.pow 2 t) i=decide (t=i):=by rw[oR];exact Nat.testBit_two_pow
def Ok(a b i:Nat):dq (Nat.land a b) i=(dq a i&&dq b i):=by rw[oR,oR,oR];exact Nat.testBit_and a b i
def ζ{I:Operand}{m t:Nat}:dq (tc I m) t=true↔I=.tmp t\/dq m t=true:=by cases I with|tmp R=>show dq (Nat.lor m (Nat.pow 2 R)) t=true↔_;rw[sm,vX];grind|_=>simp[tc]
def ι{t:Nat}:∀{l:List Operand},dq (td l) t=true↔Operand.tmp t∈l:=by intro l;induction l with|nil=>simp[td,vY]|cons a l U=>show dq (tc a (td l)) t=true↔_;rw[ζ,U];grind
def Pn{I:Oper}{t:Nat}:dq (ub I) t=true↔I.dst=some t:=by unfold ub;cases I.dst with|none=>simp[vY]|some d=>rw[vX];simp
structure vB(C:al)(n ac:Nat)(ae:Array Oper)(x:dd)(I:Oper):Prop where
 oper:ae[x.i]? =some I
 g:tW (e4 ae x.i) I.guard=some x.g
 op:g6 C (e4 ae x.i) I.op=some x.op
 dst:∀d,I.dst=some d->d<n
 reads:rf C ac (e4 ae x.i) I.op.operands.toList=true
def yQ{C:al}{n ac i:Nat}{I:Oper}{l:List Oper}{wr:List (Nat×Nat)}{cs:List dd}(h:k2 C n ac (I::l) i wr=some cs):
 ∃g op r,tW wr I.guard=some g/\g6 C wr I.op=some op/\wh n I=true/\rf C ac wr I.op.operands.toList=true/\k2 C n ac l (i+1) (nA I i wr)=some r/\cs=⟨i,g,op⟩::r:=by
 simp only[k2,gi]at h;split at h
 ·rename_i g op a b;simp only[cO,Zu]at h;grind
 ·grind
def Fz{n:Nat}{I:Oper}(h:wh n I=true):∀d,I.dst=some d->d<n:=by intro d ai;unfold wh at h;simp_all
def Ad{ae:Array Oper}{i:Nat}{I:Oper}{l:List Oper}(h:ae.toList.drop i=I::l):ae[i]? =some I/\ae.toList.drop (i+1)=l/\i<ae.size:=by
 have a:(ae.toList.drop i)[0]? =some I:=by grind
 refine⟨by simpa using a, ?_, ?_⟩
 ·have:(ae.toList.drop i).drop 1=l:=by rw[h];rfl
  rw[zE]at this;grind
 ·grind
def Ov{C:al}{n ac:Nat}{ae:Array Oper}:∀(l:List Oper) (i:Nat) (cs:List dd),ae.toList.drop i=l->k2 C n ac l i (e4 ae i)=some cs->
 cs.length=l.length/\∀j x,cs[j]? =some x->x.i=i+j/\∃I,vB C n ac ae x I:=by
 intro l;induction l with|nil=>intro i cs _ h;simp[k2]at h;subst h;simp|cons I l U=>intro i cs ai h;obtain⟨g,op,r,e,f,k,m,b,rfl⟩:=yQ h;obtain⟨a,d,p⟩:=Ad ai;rw[<-vm a]at b;obtain⟨a7,bl⟩:=U (i+1) r d b;refine⟨by simp[a7],λj x c=> ?_⟩;cases j with|zero=>simp at c;subst c;exact⟨rfl,I,a,e,f,Fz k,m⟩|succ j=>grind
def Pt{c:List (Nat×Nat)}:∀(l:List Edge) (a:Nat),dq (l.foldr (qn c) 0) a=true->∃e∈l,Region.binds .any e=true/\(a=e.on\/∃b,cL c e.on=some b/\dq b a=true):=by
 intro l;induction l with
 |nil=>intro a h;simp[vY]at h|cons e l U=>
  intro a h;simp only[List.foldr_cons]at h;have he:dq (l.foldr (qn c) 0) a=true->∃d∈e::l,Region.binds .any d=true/\(a=d.on\/∃b,cL c d.on=some b/\dq b a=true):=λh=>by grind
  unfold qn at h;rw[cY]at h;split at h
  ·exact he h
  ·rw[cY]at h;split at h
   ·rename_i W;split at h
    ·rename_i k f;rw[sm,sm,vX]at h;simp only[Y5,Zf]at h;rcases h with (h|h)|h
     ·exact he h
     ·grind
     ·grind
    ·exact he h
   ·exact he h
structure se(ae:Array Oper)(p:dM)(I:Oper):Prop where
 oper:ae[p.i]? =some I
 r:p.r=Nat.lor (td I.op.operands.toList) (wJ (e4 ae p.i) I.guard)
 w:p.w=ub I
def G1{ae:Array Oper}:∀(l:List Oper) (i:Nat) (b:List (Nat×Nat)),ae.toList.drop i=l->(∀j m,cL b j=some m->j<i)->
 (pr l i (e4 ae i) b).length=l.length/\(∀j p,(pr l i (e4 ae i) b)[j]? =some p->p.i=i+j/\∃I,se ae p I)/\
 ∀(aI:Nat->Nat->Prop),(∀j m,cL b j=some m->aI j m)->(∀j I m,ae[j]? =some I->i<=j->(∀a,dq m a=true->∃e∈I.after.toList,Region.binds .any e=true/\(a=e.on\/∃d,aI e.on d/\dq d a=true))->aI j m)->
  ∀p∈pr l i (e4 ae i) b,aI p.i p.m:=by
 intro l;induction l with
 |nil=>intro i b _ _;simp[pr]|cons I l U=>
  intro i b ai C;obtain⟨f,t,N⟩:=Ad ai;simp only[pr,gi];rw[<-vm f];have G:∀j m,cL ((i,I.after.toList.foldr (qn b) 0)::b) j=some m->j<i+1:=by
   intro j m h;rw[kr]at h;split at h
   ·omega
   ·have:=C j m h;omega
  obtain⟨a7,bl,L⟩:=U (i+1) ((i,I.after.toList.foldr (qn b) 0)::b) t G;refine⟨by simp only[ZI,a7],λj p c=> ?_,λaI r s p c=> ?_⟩
  ·cases j with|zero=>simp only[Z9,Zh]at c;subst c;exact⟨rfl,I,f,rfl,rfl⟩|succ j=>obtain⟨e,A⟩:=bl j p c;exact⟨Zo,A⟩
  ·have ag:aI i (I.after.toList.foldr (qn b) 0):=(by refine s i I _ f (Zg _) λa x=> ?_;obtain⟨e,g,n,k⟩:=Pt _ a x;refine⟨e,g,n,k.imp id ?_⟩;rintro⟨d,v,w⟩;exact⟨d,r _ _ v,w⟩);rcases Zq.1 c with rfl|c
   ·exact ag
   ·refine L aI (λj m h=> ?_) (λj I m g n k=>s j I m g Zo k) p c;rw[kr]at h;split at h
    ·rename_i e;subst e;cases h;exact ag
    ·exact r j m h
def TS{a:dM}:∀{l:List dM},xg a l=true->∀b∈l,xe a b=true:=by intro l;induction l with|nil=>grind|cons c l U=>intro h b W;simp only[xg,Zu]at h;grind
def TQ:∀{l:List dM},u0 l=true->∀(j i:Nat) a b,j<i->l[j]? =some a->l[i]? =some b->xe a b=true:=by intro l;induction l with|nil=>grind|cons c l U=>intro h j i a b e d W;simp only[u0,Zu]at h;obtain⟨i,rfl⟩:∃k,i=k+1:=⟨i-1,Zo⟩;cases j with|zero=>simp at d;subst d;exact TS h.1 b (Zl W)|succ j=>grind
def TN:∀{l:List Oper}{i:Nat},re l i=true->∀j I,l[j]? =some I->∀e∈I.after.toList,Region.binds .any e=true->e.on<i+j:=by intro l;induction l with|nil=>grind|cons a l U=>intro i h j I b e c W;simp only[re,Zu]at h;cases j with|zero=>simp at b;subst b;have:=zr.1 h.1 e c;simp_all|succ j=>grind
def Q7:∀{l:List dM},ux l=true->∀(p:Nat) a b,l[p]? =some a->l[p+1]? =some b->dq b.m a.i=true:=by intro l;induction l with|nil=>grind|cons c l U=>intro h p a b d W;simp only[ux,Zu]at h;cases p with|zero=>grind|succ p=>grind
def Q6:∀(b4:List dM) (cs:List dd),sM b4 cs=(b4.zip cs).filter λx=>h9 x.2.op:=by intro b4;induction b4 with|nil=>intro cs;rfl|cons p b4 U=>intro cs;cases cs with|nil=>rfl|cons c cs=>simp only[sM,List.zip_cons_cons,YM,cY,U]
def Sv(a:List dM):∀(b4:List dM) (cs:List dd),sY a b4 cs=((b4.zip cs).filter λx=> !h9 x.2.op).map λx=>⟨x.2,l9 x.1.m a,pb x.1.i a⟩:=by intro b4;induction b4 with|nil=>intro cs;rfl|cons p b4 U=>intro cs;cases cs with|nil=>rfl|cons c cs=>simp only[sY,List.zip_cons_cons,YM,U];cases h9 c.op<;>simp
def wA:∀l:List (dM×dd),j0 l=l.map (·.1):=by intro l;induction l with|nil=>rfl|cons a l U=>simp[j0,U]
def O0(m:Nat):∀(a:List dM) (k:Nat),(∀p h,a[p]? =some h->k<=p->dq m h.i=false)->l9 m a<=k:=by intro a;induction a with|nil=>intro k _;simp[l9]|cons h a U=>intro k c;simp only[l9,cY];cases k with|zero=>have:=c 0 h rfl (Zg _);rw[this];have:=U 0 (λp b d _=>c (p+1) b (by simpa using d) Zo);grind|succ k=>have:=U k (λp b d e=>c (p+1) b (by simpa using d) Zo);grind
def Re(i:Nat):∀(a:List dM) (k:Nat),k<=a.length->(∀p h,a[p]? =some h->p<k->dq h.m i=false)->k<=pb i a:=by intro a;induction a with|nil=>grind|cons h a U=>intro k e b;cases k with|zero=>omega|succ k=>have d:=b 0 h rfl Zo;simp only[pb,d,ga];have:=U k (by simpa using e) (λp c f g=>b (p+1) c (by simpa using f) Zo);omega
open Go.RowKit (Below)
def ka(tmps:Array Value)(dst:Option Nat)(v:Value):Array Value:=match dst with|some d=>tmps.setIfInBounds d v|none=>tmps
def xt(tmps:Array Value)(dst:Option Nat)(v:Value):(ka tmps dst v).size=tmps.size:=by cases dst<;>simp[ka]
def HT(tmps:Array Value)(dst:Option Nat)(v:Value)(t:Nat)(h:∀d,dst=some d->d<tmps.size):(ka tmps dst v)[t]? =if dst=some t then some v else tmps[t]? :=by cases dst with|none=>rfl|some d=>have:=h d rfl;simp only[ka];grind
def Sub(ad a:List (Nat×z)):Prop:=∀j R,cL ad j=some R->cL a j=some R
def Sub.refl(ad:List (Nat×z)):Sub ad ad:=λ_ _ h=>h
def Sub.trans{a b c:List (Nat×z)}(h:Sub a b)(k:Sub b c):Sub a c:=λj R d=>k j R (h j R d)
def Sub.cons{ad:List (Nat×z)}{i:Nat}{v:z}(h:cL ad i=none):Sub ad ((i,v)::ad):=λj R a=>by
 rw[kr,Zi]
 ·grind
 ·grind
def ji(C:al)(q D:E S):Prop:=∀x,H C q x=H C D x\/H C q x=none
inductive mJ(ae:Array Oper):(Nat->Prop)->List Nat->Prop
 |nil {a}:(∀i,i<ae.size->a i)->mJ ae a []|cons {a i I l}:ae[i]? =some I->¬a i->(∀e∈I.after.toList,Region.binds .any e=true->a e.on)->mJ ae (add a i) l->mJ ae a (i::l)
noncomputable def mU(C:al)(n ac:Nat)(ae:Array Oper):List dd:=(k2 C n ac ae.toList 0 []).getD []
noncomputable def iT(ae:Array Oper):List dM:=pr ae.toList 0 [] []
noncomputable def ef(C:al)(n ac:Nat)(ae:Array Oper):List (dM×dd):=sM (iT ae) (mU C n ac ae)
noncomputable def hn(C:al)(n ac:Nat)(ae:Array Oper):List jj:=sY (j0 (ef C n ac ae)) (iT ae) (mU C n ac ae)
structure jh(C:al)(n ac:Nat)(ae:Array Oper):Prop where
 OK:k2 C n ac ae.toList 0 []=some (mU C n ac ae)
 a:re ae.toList 0=true
 τ:u0 (iT ae)=true
 chain:ux (j0 (ef C n ac ae))=true
section
variable{C:al}{n ac:Nat}{ae:Array Oper}
def Aa(h:jh C n ac ae):(mU C n ac ae).length=ae.size/\∀j x,(mU C n ac ae)[j]? =some x->x.i=j/\∃I,vB C n ac ae x I:=by have a:=h.OK;have:=Ov (ae:=ae) ae.toList 0 _ Zs (by rw[B8];exact a);grind
def t8(ae:Array Oper):(iT ae).length=ae.size/\(∀j p,(iT ae)[j]? =some p->p.i=j/\∃I,se ae p I):=by have:=G1 (ae:=ae) ae.toList 0 [] Zs Zs;rw[B8]at this;exact⟨by unfold iT;simpa using this.1,λj p a=>by simpa using this.2.1 j p a⟩
noncomputable def ku(C:al)(n ac:Nat)(ae:Array Oper):List (dM×dd):=(iT ae).zip (mU C n ac ae)
def nL(h:jh C n ac ae)(i:Nat)(ag:i<ae.size):∃p x I,(ku C n ac ae)[i]? =some (p,x)/\(iT ae)[i]? =some p/\p.i=i/\x.i=i/\vB C n ac ae x I/\se ae p I:=by
 obtain⟨aL,bt⟩:=Aa h;obtain⟨bc,bp⟩:=t8 ae;have d:(mU C n ac ae)[i]? =some ((mU C n ac ae)[i]'Zo):=Zb _;have b:(iT ae)[i]? =some ((iT ae)[i]'Zo):=Zb _;obtain⟨bV,I,b0⟩:=bt _ _ d;obtain⟨c,dG,a⟩:=bp _ _ b
 have:dG=I:=by have e:=b0.oper;have f:=a.oper;grind
 subst this;refine⟨_,_,dG, ?_,b,c,bV,b0,a⟩;unfold ku;grind
def nM(h:jh C n ac ae){o:dM×dd}(b:o∈ku C n ac ae):∃I,o.1.i<ae.size/\o.2.i=o.1.i/\(ku C n ac ae)[o.1.i]? =some o/\(iT ae)[o.1.i]? =some o.1/\vB C n ac ae o.2 I/\se ae o.1 I:=by
 obtain⟨j,k⟩:=Z1.1 b;have l:(ku C n ac ae).length=ae.size:=by unfold ku;rw[List.length_zip,(Aa h).1,(t8 ae).1,Nat.min_self]
 have a:j<ae.size:=by grind
 obtain⟨p,x,I,c,d,e,f,g,i⟩:=nL h j a;grind
def wa:ef C n ac ae=(ku C n ac ae).filter λ(x:dM×dd)=>h9 x.2.op:=Q6 _ _
def wc:hn C n ac ae=((ku C n ac ae).filter λ(x:dM×dd)=> !h9 x.2.op).map λ(x:dM×dd)=>⟨x.2,l9 x.1.m (j0 (ef C n ac ae)),pb x.1.i (j0 (ef C n ac ae))⟩:=Sv _ _ _
def we{l:jj}(a:l∈hn C n ac ae):∃p,(p,l.x)∈ku C n ac ae/\h9 l.x.op=false/\l.aT=l9 p.m (j0 (ef C n ac ae))/\l.ag=pb p.i (j0 (ef C n ac ae)):=by rw[wc]at a;grind
def wb{o:dM×dd}(a:o∈ef C n ac ae):o∈ku C n ac ae/\h9 o.2.op=true:=by rw[wa]at a;grind
def Fv(h:jh C n ac ae)(i:Nat)(ag:i<ae.size):(∃l∈hn C n ac ae,l.x.i=i)\/(∃(p:Nat) (o:dM×dd),(ef C n ac ae)[p]? =some o/\o.1.i=i):=by
 obtain⟨p,x,I,c,e,f,d,g,j⟩:=nL h i ag;have b:=Zl c;cases a:h9 x.op with
 |true=>
  refine .inr ?_
  have:(p,x)∈ef C n ac ae:=by rw[wa];exact Yp.2 ⟨b,a⟩
  obtain⟨V,k⟩:=Z1.1 this;grind
 |false=>refine .inl ⟨_,by rw[wc];exact ZC.2 ⟨(p,x),Yp.2 ⟨b,by simp[a]⟩,rfl⟩,d⟩
def Fu(h:jh C n ac ae):(ku C n ac ae).Pairwise λa b=>a.1.i<b.1.i:=by
 rw[Y4];intro i j ag m l;have r:(ku C n ac ae).length=ae.size:=by unfold ku;rw[List.length_zip,(Aa h).1,(t8 ae).1,Nat.min_self]
 obtain⟨p,x,I,c,e,g,_⟩:=nL h i Zo;obtain⟨s,t,dG,d,f,k,_⟩:=nL h j Zo;grind
def Ft(h:jh C n ac ae){p V:Nat}{o aj:dM×dd}(e:(ef C n ac ae)[p]? =some o)(f:(ef C n ac ae)[V]? =some aj)(d:o.1.i=aj.1.i):p=V:=by
 have c:(ef C n ac ae).Pairwise λa b=>a.1.i<b.1.i:=by rw[wa];exact(Fu h).filter _
 rw[Y4]at c;grind
def Ab(h:jh C n ac ae):(hn C n ac ae).Pairwise λa b=>a.x.i<b.x.i:=by rw[wc,List.pairwise_map];have c:((ku C n ac ae).filter λ(x:dM×dd)=> !h9 x.2.op).Pairwise λa b=>a.1.i<b.1.i:=(Fu h).filter _;refine c.imp_of_mem λ{a b} d W g=> ?_;obtain⟨_,_,e,_⟩:=nM h (Yp.1 d).1;obtain⟨_,_,f,_⟩:=nM h (Yp.1 W).1;grind
def wd(h:jh C n ac ae){l:jj}(a:l∈hn C n ac ae):l.x.i<ae.size:=by obtain⟨p,b,_⟩:=we a;obtain⟨_,c,d,_⟩:=nM h b;grind
def Pe(h:jh C n ac ae){o:dM×dd}(a:o∈ef C n ac ae):o.1.i<ae.size/\o.2.i=o.1.i:=by obtain⟨_,b,c,_⟩:=nM h (wb a).1;grind
def pQ(ae:Array Oper)(a:Nat->Prop):Prop:=∀i I,ae[i]? =some I->a i->∀e∈I.after.toList,Region.binds .any e=true->a e.on
def ua{b:Nat->Prop}(r:pQ ae b){p:dM}(G:p∈iT ae){I:Oper}(C:ae[p.i]? =some I)
 (d:∀e∈I.after.toList,Region.binds .any e=true->b e.on):∀a,dq p.m a=true->b a:=by
 have key:=(G1 (ae:=ae) ae.toList 0 [] Zs Zs).2.2 (λi m=>(∀I,ae[i]? =some I->∀e∈I.after.toList,Region.binds .any e=true->b e.on)->∀a,dq m a=true->b a) Zs
  (λj I m x _ A d a s=>by
   obtain⟨e,g,h,k⟩:=A a s;have v:=d I x e g h;rcases k with rfl|⟨L,l,n⟩
   ·grind
   ·exact l (λdG c f w t=>r e.on dG c v f w t) a n)
 exact key p G (λdG c=>by rw[C]at c;cases c;exact d)
structure vy(C:al)(Q:Nat->Prop)(q:E S)(base:Nat)(ad:List (Nat×z))(B:E z)(x:dd)(R:z):Prop where
 key:cL ad x.i=some R
 ok:∃a b,Sub a ad/\jJ x.g a=some b/\(b=false->R=undef)/\(b=true->(h9 x.op=false)/\
  (hF x.op=.make->∃bU,iB x.op C (base+x.i) a B=some (R,bU)/\H C q (base+x.i)=some bU)/\
  (hF x.op=.eP->pG x.op=false->∀et,d6 x.op C et a B=some R))
def tG(C:al)(q:E S)(ad:List (Nat×z))(B:E z)(x:dd)(R:z):Prop:=
 ∃a et b,Sub a ad/\ji C et q/\jJ x.g a=some b/\(b=true->hF x.op=.eP->d6 x.op C et a B=some R)
def ox(F:bX)(Q:Nat->Prop)(ac:Nat)(ae:Array Oper)(a:Nat->Prop)(ad:List (Nat×z))(B:E z)(tmps:Array Value):Prop:=
 ∀t v,((∃j,a j/\k3 ae j=some t/\(∀b,a b->k3 ae b=some t->b<=j)/\cL ad j=some v)\/((∀j,a j->k3 ae j≠some t)/\dq ac t=true/\B.get t=some v))->
  tmps[t]? =some (aq F v)/\bs Q v
structure kj(C:al)(F:bX)(Q:Nat->Prop)(q:E S)(base n ac:Nat)(ae:Array Oper)(ad:List (Nat×z))(k m:Nat)(B:E z)(tmps:Array Value)(a:Nat->Prop):Prop where
 st:jh C n ac ae
 size:tmps.size=n
 wS:k<=(ef C n ac ae).length
 bv:C.aB<=base
 closed:pQ ae a
 m2:∀i,a i->i<ae.size
 done:∀p h,(ef C n ac ae)[p]? =some h->(a h.1.i↔p<k)
 lO:∀l∈hn C n ac ae,a l.x.i->l.aT<m
 keys:∀i R,cL ad i=some R->(∃l∈hn C n ac ae,l.x.i=i/\l.aT<m)\/(∃p h,(ef C n ac ae)[p]? =some h/\h.1.i=i/\p<k)
 mg:∀p h,(ef C n ac ae)[p]? =some h->p<k->∃R,cL ad h.1.i=some R
 ahead:∀l∈hn C n ac ae,l.aT<m->∃R,cL ad l.x.i=some R/\(¬a l.x.i->vy C Q q base ad B l.x R)
 ql:ox F Q ac ae a ad B tmps
 ids:∀i,i<ae.size->Q (base+i)->a i
 free:∀i,i<ae.size->cL ad i=none->H C q (base+i)=none
variable{F bY:bX}{Q b9:Nat->Prop}{q D:E S}{u Z aO:Nat}{w a2:World}
def iQ.M{ac:Nat}{X:Nat->Prop}{wr:List (Nat×Nat)}{ad:List (Nat×z)}{B:E z}{tmps:Array Value}(g:∀b,Q b->bY b=F b)(d:∀b,Q b->b9 b)(h:iQ F Q ac X wr ad B tmps):iQ bY b9 ac X wr ad B tmps:=
 λt v f e=>by obtain⟨c,a⟩:=h t v f e;exact⟨by rw[c,jW g a],iV d v a⟩
def ox.M{ac:Nat}{ae:Array Oper}{a:Nat->Prop}{ad:List (Nat×z)}{B:E z}{tmps:Array Value}(g:∀b,Q b->bY b=F b)(e:∀b,Q b->b9 b)(h:ox F Q ac ae a ad B tmps):ox bY b9 ac ae a ad B tmps:=
 λt v f=>by obtain⟨d,c⟩:=h t v f;exact⟨by rw[d,jW g c],iV e v c⟩
def kT.M(i:∀b,Q b->bY b=F b)(f:∀b,Q b->b9 b)(h:kT C F Q):kT C bY b9:=λg a=>by obtain⟨c,d,e⟩:=h g a;grind
def kj.M{bQ base n ac k m:Nat}{ae:Array Oper}{ad:List (Nat×z)}{B:E z}{tmps:Array Value}{f:Nat->Prop}(d:eH C bQ F Q q aO w bY b9 D a2)(T8:base+ae.size<=bQ)
 (h:kj C F Q q base n ac ae ad k m B tmps f):kj C bY b9 D base n ac ae ad k m B tmps f:=by
 have T3:=λi ag ai=>(d.new _ ai).elim (h.ids i ag) (λV=>Zo);refine⟨h.st,h.size,h.wS,h.bv,h.closed,h.m2,h.done,h.lO,h.keys,h.mg, ?_,h.ql.M d.e2 d.fz,T3, ?_⟩
 ·intro l g T5;obtain⟨R,x,L⟩:=h.ahead l g T5;refine⟨R,x,λa=> ?_⟩;obtain⟨N,v,b,O,P,X,T0⟩:=L a;refine⟨N,v,b,O,P,X,λW=> ?_⟩;obtain⟨T1,T2,A⟩:=T0 W;refine⟨T1,λT4=> ?_,A⟩;obtain⟨bU,G,T7⟩:=T2 T4;refine⟨bU,G, ?_⟩;have T6:=wd h.st g;rw[d.M _ (λai=>a (h.ids _ T6 ai)) Zo];grind
 ·intro i ag e;rw[d.M _ ?_ Zo]
  ·exact h.free i ag e
  ·intro ai;have a:=h.ids i ag ai;rcases Fv h.st i ag with ⟨l,j,r⟩|⟨p,o,s,t⟩
   ·obtain⟨R,c,_⟩:=h.ahead l j (h.lO l j (by rw[r];exact a));rw[r,e]at c;cases c
   ·obtain⟨R,c⟩:=h.mg p o s ((h.done p o s).1 (by rw[t];exact a));rw[t,e]at c;cases c
def Gu{a b t:Nat}(c:dq a t=true)(d:dq b t=true):Nat.beq (Nat.land a b) 0=false:=by cases h:Nat.beq (Nat.land a b) 0 with|false=>rfl|true=>have e:=Zn h;have:=Ok a b t;rw[e,vY,c,d]at this;grind
def xq{p:dM}{I:Oper}(h:se ae p I){t:Nat}(ai:I.dst=some t):dq p.w t=true:=by rw[h.w];exact Pn.2 ai
def aat{p:dM}{I:Oper}(h:se ae p I){t:Nat}(K:Operand.tmp t∈I.op.operands.toList):dq p.r t=true:=by rw[h.r,sm,ι.2 K];rfl
def y0(h:jh C n ac ae){i j:Nat}{p V:dM}(f:i<j)(c:(iT ae)[i]? =some p)(k:(iT ae)[j]? =some V){t:Nat}
 (e:(dq p.w t=true/\(dq V.r t=true\/dq V.w t=true))\/(dq V.w t=true/\dq p.r t=true)):dq V.m i=true:=by
 have:=TQ h.τ i j p V f c k;have g:=((t8 ae).2 i p c).1;unfold xe at this;rw[g]at this;rcases e with ⟨b,a⟩|⟨b,a⟩
 ·have d:dq (Nat.lor V.r V.w) t=true:=by rw[sm];rcases a with a|a<;>simp[a]
  rw[Gu b d]at this;grind
 ·rw[Gu b a]at this;grind
def w3{i:Nat}{p:dM}(a:(iT ae)[i]? =some p):p∈iT ae:=by grind
def Pf(m:jh C n ac ae){b:Nat->Prop}{ad:List (Nat×z)}{B:E z}{tmps:Array Value}(L:pQ ae b)(T9:∀i,b i->i<ae.size)(ai:ox F Q ac ae b ad B tmps)
 {i:Nat}{p:dM}{I:Oper}(h:(iT ae)[i]? =some p)(T2:ae[i]? =some I)(T1:¬b i)(T7:∀e∈I.after.toList,Region.binds .any e=true->b e.on):
 iQ F Q ac (λt=>dq p.r t=true) (e4 ae i) ad B tmps:=by
 have ag:=(Z7.1 T2).1;obtain⟨_,T4,f3⟩:=vn ae i (zF ag);have U0:=((t8 ae).2 i p h).1;have TZ:=ua L (w3 h) (by rw[U0];exact T2) T7;have T3:∀t j,dq p.r t=true->i<j->b j->k3 ae j=some t->False:=by
  intro t j K T8 c g;obtain⟨V,x,w,_,k,l,_,U1,f⟩:=nL m j (T9 j c);have d:ae[j]? =some w:=by rw[<-l];exact f.oper
  have O:=xq f (by rw[<-uc d];exact g);have W:=y0 m T8 h k (.inr ⟨O,K⟩);have:=ua L (w3 k) (by rw[l];exact d) (L j w d c) i W;grind
 intro t v G r;apply ai t v;split at r
 ·rename_i j N;obtain⟨T5,P,T6⟩:=T4 t j N;left;have TY:j<ae.size:=Zo;obtain⟨V,x,w,_,k,l,_,U1,f⟩:=nL m j TY;have d:ae[j]? =some w:=by rw[<-l];exact f.oper
  have O:=xq f (by rw[<-uc d];exact P);have W:=y0 m T5 k h (.inl ⟨O,.inl G⟩);refine⟨j,TZ j W,P,λs X T0=> ?_,r⟩;rcases zG s i with a|a|a
  ·rcases zt j s with A|A
   ·exact absurd T0 (T6 s A a)
   ·exact A
  ·exact absurd (a▸X) T1
  ·exact(T3 t s G a X T0).elim
 ·rename_i N;right;refine⟨λj c g=> ?_,r.1,r.2⟩;rcases zG j i with a|a|a
  ·exact f3 t N j a g
  ·exact T1 (a▸c)
  ·exact T3 t j G a c g
def ox.put(w:jh C n ac ae){b:Nat->Prop}{ad k:List (Nat×z)}{B:E z}{tmps:Array Value}(G:pQ ae b)(T6:∀i,b i->i<ae.size)(ai:ox F Q ac ae b ad B tmps)(U3:tmps.size=n)
 {i:Nat}{I:Oper}{v:z}(L:ae[i]? =some I)(TZ:¬b i)(T2:∀j,b j->∀R,cL k j=some R->cL ad j=some R)(T3:cL k i=some v)(T5:∀d,I.dst=some d->d<n)(dj:bs Q v):
 ox F Q ac ae (add b i) k B (ka tmps I.dst (aq F v)):=by
 have ag:=(Z7.1 L).1;have m:=uc L;have U2:∀t,(ka tmps I.dst (aq F v))[t]? =if I.dst=some t then some (aq F v)else tmps[t]? :=λt=>HT _ _ _ _ (by rw[U3];exact T5);intro t R h;rw[U2];by_cases c:I.dst=some t
 ·rw[Zv c];rcases h with ⟨j,a,f,r,g⟩|⟨l,_⟩
  ·
   have T9:j=i:=by
    rcases a with a|a
    ·have U6:=r i (.inr rfl) (by rw[m];exact c);rcases zt i j with TY|qB
     ·exfalso;obtain⟨p,x,U5,_,U1,U7,_,_,N⟩:=nL w i ag;obtain⟨V,U8,T0,_,O,P,_,_,X⟩:=nL w j (T6 j a);have s:ae[j]? =some T0:=(by rw[<-P];exact X.oper);have U0:U5=I:=(by have:=N.oper;grind);subst U0;have W:=y0 w TY U1 O (.inl ⟨xq N c,.inr (xq X (by rw[<-uc s];exact f))⟩);exact TZ (ua G (w3 O) (by rw[P];exact s) (G j T0 s a) i W)
     ·omega
    ·exact a
   subst T9;rw[T3]at g;cases g;exact⟨rfl,dj⟩
  ·exact absurd (by rw[m];exact c) (l i (.inr rfl))
 ·rw[Zi c];apply ai t R;rcases h with ⟨j,a,f,r,g⟩|⟨l,T1⟩
  ·left;have A:=a.resolve_right λe=>c (by rw[<-m, <-e];exact f);exact⟨j,A,f,λU4 T8 T4=>r U4 (.inl T8) T4,T2 j A R g⟩
  ·right;exact⟨λj T7=>l j (.inl T7),T1⟩
def pQ.add{b:Nat->Prop}(f:pQ ae b){i:Nat}{I:Oper}(h:ae[i]? =some I)(g:∀e∈I.after.toList,Region.binds .any e=true->b e.on):pQ ae (add b i):=by
 intro j k c a e d W;rcases a with a|a
 ·exact .inl (f j k c a e d W)
 ·subst a;rw[h]at c;cases c;exact .inl (g e d W)
def wW(a:jh C n ac ae){l:jj}(d:l∈hn C n ac ae){p:Nat}{o:dM×dd}(f:(ef C n ac ae)[p]? =some o):l.x.i≠o.1.i:=by intro e;obtain⟨V,b,i,_⟩:=we d;obtain⟨c,j⟩:=wb (Zl f);obtain⟨_,_,g,h,_⟩:=nM a b;obtain⟨_,_,bl,k,_⟩:=nM a c;grind
def kj.db{base g:Nat}{ad:List (Nat×z)}{B:E z}{tmps:Array Value}{t:Nat->Prop}(h:kj C F Q q base n ac ae ad g (g+1) B tmps t){o:dM×dd}(k:(ef C n ac ae)[g]? =some o)
 {I:Oper}(x:ae[o.1.i]? =some I)(G:¬t o.1.i)(T0:∀e∈I.after.toList,Region.binds .any e=true->t e.on){v:z}(dj:bs Q v)(X:∀d,I.dst=some d->d<n):
 kj C F Q q base n ac ae ((o.1.i,v)::ad) (g+1) (g+1) B (ka tmps I.dst (aq F v)) (add t o.1.i):=by
 have T1:cL ad o.1.i=none:=by
  cases s:cL ad o.1.i with
  |none=>rfl|some R=>
   exfalso;rcases h.keys _ R s with ⟨l,c,m,_⟩|⟨p,aj,c,m,N⟩
   ·exact wW h.st c k m
   ·have:=Ft h.st c k m;omega
 have A:Sub ad ((o.1.i,v)::ad):=Sub.cons T1;have ag:=(Z7.1 x).1;refine⟨h.st,by rw[xt];exact h.size,zL (Ze.1 k).1,h.bv,h.closed.add x T0, ?_, ?_, ?_, ?_, ?_, ?_, ?_, ?_, ?_⟩
 ·rintro i (a|a)
  ·exact h.m2 i a
  ·omega
 ·intro p aj f;constructor
  ·rintro(a|a)
   ·have:=(h.done p aj f).1 a;omega
   ·have:=Ft h.st f k a;omega
  ·intro T5;rcases zt p g with T3|qB
   ·exact .inl ((h.done p aj f).2 T3)
   ·have:p=g:=Zo
    subst this;rw[k]at f;cases f;exact .inr rfl
 ·rintro l w (a|a)
  ·exact h.lO l w a
  ·exact(wW h.st w k a).elim
 ·intro i R r;rw[kr]at r;split at r
  ·rename_i e;exact .inr ⟨g,o,k,e,Zo⟩
  ·rcases h.keys i R r with c|⟨p,aj,c,m,N⟩
   ·exact .inl c
   ·exact .inr ⟨p,aj,c,m,Zo⟩
 ·intro p aj f T5;rw[kr];split
  ·exact⟨v,rfl⟩
  ·rename_i T4
   have:p≠g:=λe=>by subst e;rw[k]at f;cases f;exact T4 rfl
   exact h.mg p aj f Zo
 ·intro l w T2;obtain⟨R,c,m⟩:=h.ahead l w T2;refine⟨R,A _ _ c,λa=> ?_⟩;obtain⟨_,L,b,O,P⟩:=m (λV=>a (.inl V));exact⟨A _ _ c,L,b,O.trans A,P⟩
 ·refine h.ql.put h.st h.closed h.m2 h.size x G ?_ (by rw[kr,Zv rfl]) X dj;intro j a R r;rw[kr,Zi]at r
  ·exact r
  ·intro e;subst e;exact G a
 ·intro i gb ai;exact .inl (h.ids i gb ai)
 ·intro i gb s;rw[kr]at s;split at s
  ·cases s
  ·exact h.free i gb s
def kj.eP{base G m:Nat}{ad:List (Nat×z)}{B:E z}{tmps:Array Value}{f:Nat->Prop}(h:kj C F Q q base n ac ae ad G m B tmps f){l:jj}(A:l∈hn C n ac ae)(U2:l.aT<m)
 {I:Oper}(s:ae[l.x.i]? =some I)(TY:¬f l.x.i)(T7:∀e∈I.after.toList,Region.binds .any e=true->f e.on){v:z}(U0:cL ad l.x.i=some v)
 (U1:∀b,Q b->bY b=F b)(T3:∀b,Q b->b9 b)(T4:∀b,b9 b->Q b\/b=base+l.x.i)(dj:bs b9 v)(T6:∀d,I.dst=some d->d<n):
 kj C bY b9 q base n ac ae ad G m B (ka tmps I.dst (aq bY v)) (add f l.x.i):=by
 have ag:=(Z7.1 s).1;refine⟨h.st,by rw[xt];exact h.size,h.wS,h.bv,h.closed.add s T7, ?_, ?_, ?_,h.keys,h.mg, ?_, ?_, ?_,h.free⟩
 ·rintro i (c|c)
  ·exact h.m2 i c
  ·omega
 ·intro p aj t;constructor
  ·rintro(c|c)
   ·exact(h.done p aj t).1 c
   ·exact(wW h.st A t c.symm).elim
  ·intro TZ;exact .inl ((h.done p aj t).2 TZ)
 ·rintro k j (c|c)
  ·exact h.lO k j c
  ·have:=(Ab h.st);by_cases V:k=l
   ·grind
   ·exfalso;obtain⟨a,T5⟩:=Z1.1 j;obtain⟨b,W⟩:=Z1.1 A;obtain⟨w,r⟩:=Ze.1 T5;obtain⟨x,g⟩:=Ze.1 W;rw[Y4]at this;rcases zG a b with T9|e|eL
    ·have:=this a b w x T9;rw[r,g]at this;omega
    ·subst e;rw[r]at g;exact V g
    ·have:=this b a x w eL;rw[r,g]at this;omega
 ·intro k j T8;obtain⟨R,N,O⟩:=h.ahead k j T8;refine⟨R,N,λc=> ?_⟩;obtain⟨P,L,b,X,T0,T1,T2⟩:=O (λV=>c (.inl V));exact⟨P,L,b,X,T0,T1,T2⟩
 ·exact(h.ql.M U1 T3).put h.st h.closed h.m2 h.size s TY (λ_ _ _ V=>V) U0 T6 dj
 ·intro i gb ai;rcases T4 _ ai with ai|ai
  ·exact .inl (h.ids i gb ai)
  ·exact .inr Zo
def nH(F:bX)(p:kK):PanicEntry:={v:=aq F p.v,recovered:=p.recovered}
def d5(F:bX):gA->FrameMode
 | .run=> .run| .returning=> .returning| .panicking a=> .panicking (a.map (nH F))
def j1(Q:Nat->Prop):gA->Prop
 | .panicking a=>∀p∈a,bs Q p.v|_=>True
inductive pT(C:al)(F:bX)(Q:Nat->Prop)(ac:Nat):co->Item->Prop
 |code {c:Code}:g7 C ac c=true->pT C F Q ac (.code c) (.code c)|inBlock {id:Nat}:pT C F Q ac (.inBlock id) (.inBlock id)|inLoop {b:Code}:g7 C ac b=true->pT C F Q ac (.inLoop b) (.inLoop b)|inScope {b:Code}:g7 C ac b=true->pT C F Q ac (.inScope b) (.inScope b)|qo {l:Nat}:Q l->pT C F Q ac (.endRangeFunc l) (.endRangeFunc (F l).bA)|begin:pT C F Q ac .beginRound .beginRound
inductive g3(C:al)(F:bX)(Q:Nat->Prop)(ac:Nat):List co->List Item->Prop
 |nil:g3 C F Q ac [] []|cons {a x k aQ}:pT C F Q ac a x->g3 C F Q ac k aQ->g3 C F Q ac (a::k) (x::aQ)
def yA(C:al)(F:bX)(Q:Nat->Prop)(n ac:Nat)(ae:Array Oper)(ad:List (Nat×z))(rest:List dd)(fin:List (Nat×Nat))(B:E z)(tmps:Array Value)(l:List Nat):Prop:=
 ∃i,i<=ae.size/\l=List.range' i (ae.size-i)/\k2 C n ac (ae.toList.drop i) i (e4 ae i)=some rest/\fin=gK ac ae.toList 0/\iQ F Q ac (λ_=>True) (e4 ae i) ad B tmps/\tmps.size=n
def Nu(C:al)(F:bX)(Q:Nat->Prop)(n ac:Nat)(ae:Array Oper)(ad:List (Nat×z))(h:Nat)(rest:List dd)(fin:List (Nat×Nat))(B:E z)(tmps:Array Value)(l:List Nat):Prop:=
 ∃I,ae[h]? =some I/\(∀d,I.dst=some d->d<n)/\l=List.range' (h+1) (ae.size-(h+1))/\k2 C n ac (ae.toList.drop (h+1)) (h+1) (e4 ae (h+1))=some rest/\fin=gK ac ae.toList 0/\
  iQ F Q ac (λ_=>True) (e4 ae h) ad B tmps/\tmps.size=n
inductive p2(C:al)(F:bX)(Q:Nat->Prop)(q:E S)(bQ u n ac:Nat)(B:E z)(tmps:Array Value):List co->List Item->Prop
 |plain {k aQ}:g3 C F Q ac k aQ->fy F Q n ac B tmps->p2 C F Q q bQ u n ac B tmps k aQ|seq {ae ad rest fin l k aQ}:g3 C F Q ac k aQ->yA C F Q n ac ae ad rest fin B tmps l->p2 C F Q q bQ u n ac B tmps (.tm ae ad rest fin::k) (.inRegion ae l::aQ)|drawn {ae base ad l k aQ b a}:g3 C F Q ac k aQ->bQ<=base->base+ae.size<=u->kj C F Q q base n ac ae ad a a B tmps b->mJ ae b l->
   p2 C F Q q bQ u n ac B tmps (.drawn ae base ad (n0 (hn C n ac ae) a ((ef C n ac ae).drop a)) (gK ac ae.toList 0)::k) (.inRegion ae l::aQ)
inductive hw(C:al)(F:bX)(Q:Nat->Prop)(q:E S)(aT ag n ac:Nat)(B:E z)(tmps:Array Value):List co->List Item->Prop
 |seq {ae ad h rest fin l k aQ}:g3 C F Q ac k aQ->Nu C F Q n ac ae ad h rest fin B tmps l->hw C F Q q aT ag n ac B tmps (.lu ae ad h rest fin::k) (.inRegion ae (h::l)::aQ)|drawn {ae base ad l k aQ b a o I}:g3 C F Q ac k aQ->aT<=base->base+ae.size<=ag->kj C F Q q base n ac ae ad a (a+1) B tmps b->(ef C n ac ae)[a]? =some o->
   ae[o.1.i]? =some I->¬b o.1.i->(∀e∈I.after.toList,Region.binds .any e=true->b e.on)->mJ ae (add b o.1.i) l->
   hw C F Q q aT ag n ac B tmps (.od ae base ad o.1.i (n0 (hn C n ac ae) (a+1) ((ef C n ac ae).drop (a+1))) (gK ac ae.toList 0)::k) (.inRegion ae (o.1.i::l)::aQ)
 |b2 {l k aQ}:g3 C F Q ac k aQ->fy F Q n ac B tmps->Q l->hw C F Q q aT ag n ac B tmps (.inRangeFunc l::k) (.inRangeFunc (F l).bA::aQ)
def oI(C:al)(F:bX)(Q:Nat->Prop)(q:E S)(aT ag n ac:Nat)(B:E z)(tmps:Array Value)(bh:gA)(todo:List co)(aQ:List Item):Prop:=match bh with
 | .run=>hw C F Q q aT ag n ac B tmps todo aQ|_=>fy F Q n ac B tmps
def bD(F:bX)(fn:Nat)(aP:List eD)(ar:Bool)(ro:Option Nat)(tmps:Array Value)(aQ:List Item)(mode:FrameMode):Frame:=
 {fn,tmps,todo:=aQ,defers:=aP.map (hm F),mode,kind:=if ar then .deferred else .normal,roundOf:=ro.map λl=>(F l).bA}
structure mC(C:al)(Q:Nat->Prop)(fn ac:Nat)(aP:List eD)(ro:Option Nat):Prop where
 aP:∀d∈aP,o8 Q d
 ro:∀l,ro=some l->Q l
 fn:ym C fn ac
inductive iL(C:al)(F:bX)(Q:Nat->Prop)(q:E S)(a1:Nat)(bg:List Frame):Nat->List d1->List Frame->Prop
 |nil {bQ}:iL C F Q q a1 bg bQ [] bg|cons {aT bQ fn n ac B todo aP bh ar ro cs tmps aQ Y}:oI C F Q q aT bQ n ac B tmps bh todo aQ->j1 Q bh->mC C Q fn ac aP ro->(cs=[]->fn=a1/\ar=false/\ro=none)->aT<=bQ->iL C F Q q a1 bg aT cs Y->
   iL C F Q q a1 bg bQ (⟨fn,n,ac,B,todo,aP,bh,ar,ro⟩::cs) (bD F fn aP ar ro tmps aQ (d5 F bh)::Y)
def g3.M{k:List co}{aQ:List Item}(d:∀b,Q b->bY b=F b)(c:∀b,Q b->b9 b)(h:g3 C F Q ac k aQ):g3 C bY b9 ac k aQ:=by induction h with|nil=>exact .nil|cons a _ U=>refine .cons ?_ U;cases a with|code h=>exact .code h|inBlock=>exact .inBlock|inLoop h=>exact .inLoop h|inScope h=>exact .inScope h|qo h=>rw[<-d _ h];exact .qo (c _ h)|begin=>exact .begin
def hw.M{aT bQ:Nat}{B:E z}{tmps:Array Value}{k:List co}{aQ:List Item}(a:eH C bQ F Q q aO w bY b9 D a2)(h:hw C F Q q aT bQ n ac B tmps k aQ):hw C bY b9 D aT bQ n ac B tmps k aQ:=by
 cases h with
 |seq b c=>obtain⟨I,aL,bt,a3,a4,a5,fq,fV⟩:=c;exact .seq (b.M a.e2 a.fz) ⟨I,aL,bt,a3,a4,a5,fq.M a.e2 a.fz,fV⟩
 |drawn b c d e f g i j l=>exact .drawn (b.M a.e2 a.fz) c d (e.M a d) f g i j l|b2 b c d=>rw[<-a.e2 _ d];exact .b2 (b.M a.e2 a.fz) (c.M a.e2 a.fz) (a.fz _ d)
def oI.M{aT bQ:Nat}{B:E z}{tmps:Array Value}{bh:gA}{k:List co}{aQ:List Item}(a:eH C bQ F Q q aO w bY b9 D a2)(h:oI C F Q q aT bQ n ac B tmps bh k aQ):oI C bY b9 D aT bQ n ac B tmps bh k aQ:=by cases bh with|run=>exact hw.M a h|returning=>exact fy.M a.e2 a.fz h|panicking b=>exact fy.M a.e2 a.fz h
def mC.M{fn:Nat}{aP:List eD}{ro:Option Nat}(a:∀b,Q b->b9 b)(h:mC C Q fn ac aP ro):mC C b9 fn ac aP ro:=
 ⟨λd ai=>F8 a (h.aP d ai),λl c=>a l (h.ro l c),h.fn⟩
def s5{fn:Nat}{aP:List eD}{ar:Bool}{ro:Option Nat}{tmps:Array Value}{aQ:List Item}{mode:FrameMode}(a:∀b,Q b->bY b=F b)(h:mC C Q fn ac aP ro):bD bY fn aP ar ro tmps aQ mode=bD F fn aP ar ro tmps aQ mode:=by
 unfold bD;congr 1
 ·exact Ys λd ai=>yP a (h.aP d ai)
 ·cases ro with|none=>rfl|some l=>simp only[ZX,a l (h.ro l rfl)]
def Ow{bh:gA}(c:∀b,Q b->bY b=F b)(h:j1 Q bh):d5 bY bh=d5 F bh:=by cases bh with|panicking d=>simp only[d5];congr 1;exact Ys λp a=>by simp only[nH,jW c (h p a)]|_=>rfl
def QM{bh:gA}(a:∀b,Q b->b9 b)(h:j1 Q bh):j1 b9 bh:=by cases bh with|panicking d=>exact λp c=>iV a _ (h p c)|_=>trivial
def eH.mono{bQ a:Nat}(h:eH C bQ F Q q aO w bY b9 D a2)(c:a<=bQ):eH C a F Q q aO w bY b9 D a2:=
 ⟨h.e2,h.fz,λb W=>(h.new b W).imp id (λV=>Zo),λb W d=>h.M b W Zo,h.below⟩
def iL.M{a1:Nat}{bg:List Frame}{bQ:Nat}{cs:List d1}{Y:List Frame}(h:iL C F Q q a1 bg bQ cs Y)(a:eH C bQ F Q q aO w bY b9 D a2):iL C bY b9 D a1 bg bQ cs Y:=by induction h with|nil=>exact .nil|cons e d b f c g U=>rw[<-s5 (bY:=bY) a.e2 b, <-Ow a.e2 d];exact .cons (e.M a) (QM a.fz d) (b.M a.fz) f c (U (a.mono c))
def wg(t:Nat):∀(l:List Nat) (B:E z),(mW l B).get t=if t∈l then none else B.get t:=by intro l;induction l with|nil=>intro B;simp[mW]|cons d l U=>simp only[mW,U,E.e0];grind
def fy.drop{B:E z}{tmps:Array Value}(h:fy F Q n ac B tmps)(l:List Nat):fy F Q n ac (mW l B) tmps:=by
 refine⟨h.size,λt v W a=> ?_⟩;rw[wg]at a;split at a
 ·grind
 ·exact h.val t v W a
def FA{l:List Oper}{I:Oper}{d:Nat}(b:I∈l)(ai:I.dst=some d):d∈dstsOf l:=by induction l with|nil=>grind|cons a l U=>simp only[dstsOf];grind
def hw.drop{aT bQ:Nat}{B:E z}{tmps:Array Value}{k:List co}{aQ:List Item}(h:hw C F Q q aT bQ n ac B tmps k aQ):fy F Q n ac (mV k B) tmps:=by
 cases h with
 |seq f c=>
  rename_i ae ad h rest fin l k aQ;obtain⟨I,aL,bt,a3,a4,a5,fq,fV⟩:=c;refine⟨fV,λt v W a=> ?_⟩;simp only[mV]at a;rw[wg]at a;split at a
  ·grind
  ·rename_i e;have ag:=(Z7.1 aL).1;obtain⟨_,i,_⟩:=vn ae h (zF ag);apply fq t v trivial;cases p:cL (e4 ae h) t with
   |some j=>
    exfalso;obtain⟨s,d,_⟩:=i t j p;unfold k3 at d;cases b:ae[j]? with
    |none=>grind|some dG=>rw[b]at d;exact e (FA (by rw[Array.mem_toList_iff];exact zl b) d)
   |none=>exact⟨W,a⟩
 |drawn f c m g w x A G L=>
  rename_i ae base ad l k aQ r O o I;refine⟨g.size,λt v W a=> ?_⟩;simp only[mV]at a;rw[wg]at a;split at a
  ·cases a
  ·rename_i e;apply g.ql t v;right;refine⟨λj N ai=> ?_,W,a⟩;unfold k3 at ai;cases b:ae[j]? with
   |none=>rw[b]at ai;cases ai|some dG=>rw[b]at ai;exact e (FA (by rw[Array.mem_toList_iff];exact zl b) ai)
 |b2 f c m=>exact c
def oI.drop{aT bQ:Nat}{B:E z}{tmps:Array Value}{bh:gA}{k:List co}{aQ:List Item}(h:oI C F Q q aT bQ n ac B tmps bh k aQ):fy F Q n ac (mV k B) tmps:=by cases bh with|run=>exact hw.drop h|_=>have a:fy F Q n ac B tmps:=h;unfold mV;split<;>first|exact a.drop _|exact a
def iQ.put{B:E z}{ad:List (Nat×z)}{tmps:Array Value}{i:Nat}{I:Oper}{v:z}(b:ae[i]? =some I)(c:iQ F Q ac (λ_=>True) (e4 ae i) ad B tmps)(ai:∀d,I.dst=some d->d<tmps.size)(dj:bs Q v):
 iQ F Q ac (λ_=>True) (e4 ae (i+1)) ((i,v)::ad) B (ka tmps I.dst (aq F v)):=by
 have ag:=(Z7.1 b).1;obtain⟨_,f,_⟩:=vn ae i (zF ag);intro t R _ h;rw[HT _ _ _ _ ai];rw[vm b,sl]at h;split at h
 ·rename_i j a;split at a
  ·rename_i e;cases a;rw[kr,Zv rfl]at h;grind
  ·rename_i e;rw[Zi e];have:=(f t j a).1;rw[kr,Zi Zo]at h;exact c t R trivial (by rw[a];exact h)
 ·rename_i a;split at a
  ·cases a
  ·rename_i e;rw[Zi e];exact c t R trivial (by rw[a];exact h)
def wu{g:Frame}{h:Nat}{l:List Nat}{aQ:List Item}{I:Oper}(a:g.todo=.inRegion ae (h::l)::aQ)(b:ae[h]? =some I)(v:Value):
 g.finish v={g with tmps:=ka g.tmps I.dst v,todo:=.inRegion ae l::aQ}:=by
 unfold Frame.finish;rw[a];simp only[b,Z5];rfl
def P8{aT bQ u n ac fn:Nat}{B:E z}{tmps:Array Value}{todo:List co}{aQ:List Item}{aP:List eD}{ar:Bool}{ro:Option Nat}{mode:FrameMode}{v:z}(h:hw C F Q q aT bQ n ac B tmps todo aQ)(G:bQ<=u)(dj:bs Q v):
 ∃j k m p e,todo=j::k/\iC j v=some m/\(bD F fn aP ar ro tmps aQ mode).finish (aq F v)=bD F fn aP ar ro p e mode/\p2 C F Q q aT u n ac B p (m::k) e:=by
 cases h with
 |seq a b=>rename_i ae ad h rest fin l k aQ;obtain⟨I,aL,bt,a3,a4,a5,fq,fV⟩:=b;have T1:=(Z7.1 aL).1;refine⟨_,k,.tm ae ((h,v)::ad) rest fin,ka tmps I.dst (aq F v),.inRegion ae l::aQ,rfl,rfl, ?_,.seq a ⟨h+1,Zo,a3,a4,a5,fq.put aL (by rw[fV];exact bt) dj,by rw[xt];exact fV⟩⟩;rw[wu rfl aL];rfl
 |drawn a b c f g i t w x=>
  rename_i ae base ad l k aQ N T2 o I;have L:=Zl g;have A:∀d,I.dst=some d->d<n:=by
   obtain⟨dG,O,P,X,T0,r,s⟩:=nM f.st (wb L).1
   have:dG=I:=by have:=s.oper;grind
   subst this;exact r.dst
  refine⟨_,k,.drawn ae base ((o.1.i,v)::ad) _ _,ka tmps I.dst (aq F v),.inRegion ae l::aQ,rfl,rfl, ?_,.drawn a b (ZE c G) (f.db g i t w dj A) x⟩;rw[wu rfl i];rfl
 |b2 a b c=>rename_i l k aQ;exact⟨_,k,.endRangeFunc l,tmps,.endRangeFunc (F l).bA::aQ,rfl,rfl,rfl,.plain (.cons (.qo c) a) b⟩
def xY{B:E z}{ad c:List (Nat×z)}{tmps:Array Value}{X:Nat->Prop}{i:Nat}{I:Oper}{g:Option (Nat×Bool)}{b:Bool}(ag:i<=ae.size)(a:tW (e4 ae i) I.guard=some g)(s:iQ F Q ac X (e4 ae i) ad B tmps)
 (l:∀j b t,I.guard=some (j,b)->mX j (e4 ae i)=some t->X t)(p:Sub c ad)(h:jJ g c=some b):Region.wanted I (yielded ae tmps)=b:=by
 obtain⟨k,_,_⟩:=vn ae i ag;unfold tW at a;unfold Region.wanted;split at a
 ·rename_i m;simp at a;subst a;simp[jJ]at h;rw[m, <-h]
 ·rename_i j want d;rw[d];split at a
  ·rename_i t f;split at a
   ·rename_i w n;rw[ee]at a;split at a
    ·rename_i e;subst e;simp at a;subst a;simp only[jJ]at h;split at h
     ·rename_i R r;have:=s t R (l j want t d f) (by rw[n];exact p _ _ r);have v:yielded ae tmps j=(match aq F R with| .bool b=>some b|_=>none):=(by unfold yielded;have ai:=k j t f;unfold k3 at ai;rw[ai];simp only[Z5,this.1];cases aq F R<;>rfl);simp only[v];cases R<;>simp[aq]at h ⊢ <;>first|(rw[<-h])|exact h|(subst h;rfl)|skip
      all_goals simp_all
     ·simp at h
    ·simp at a
   ·simp at a
  ·simp at a
structure yq(C:al)(aS:World):Prop where
 val:∀f args v,C.eC f args=some v->((∀F a,aq F v=aq a v)/\∀Q,bs Q v)/\(∀F a,bf F args=bf a args)/\∀Q,cz Q args
 ok:∀f args v,C.eC f args=some v->∀F w,Below aS.heap.size aS w->
  (callFunc f (bf F args).toArray).run C.P w=.ok (.value (aq F v)) w\/
  ((callFunc f (bf F args).toArray).run C.P w=.ok (.enter f (bf F args).toArray) w/\Calls C.P f (bf F args).toArray w λe a2=>e=.returned (aq F v)/\Below w.heap.size w a2)
def tF(P:Program)(aS:World):Prop:=∀(f:Nat) (fn:Func),P.funcs[f]? =some fn->fn.name= "slices.Sort[[]int,int]"->∀(w:World),Below aS.heap.size aS w->
 ((callFunc f #[.slice none 0 0]).run P w=.ok (.enter f #[.slice none 0 0]) w/\Calls P f #[.slice none 0 0] w λe a2=>e=.returned (.tuple #[])/\Below w.heap.size w a2)/\
 ∀(g off c:Nat) (bj:Array Value) (t:TypeId) (aT ag:Nat) (ao:List Int),w.heap[g]? =some (.cells bj t (aT,ag))->(ag<=aT\/bj.size<=aT)->off+ao.length<=bj.size->(∀i aj,ao[i]? =some aj->bj[off+i]? =some (.int .i64 aj))->ao.length<=1000000->
 (callFunc f #[.slice (some ⟨g,off,none⟩) ao.length c]).run P w=.ok (.enter f #[.slice (some ⟨g,off,none⟩) ao.length c]) w/\
 Calls P f #[.slice (some ⟨g,off,none⟩) ao.length c] w λe a2=>e=.returned (.tuple #[])/\Below (w.setRow g (fP bj off ((d0 ao).map λaj=> .int .i64 aj))).heap.size (w.setRow g (fP bj off ((d0 ao).map λaj=> .int .i64 aj))) a2
structure Env(C:al)(aS:World)(cv:bX)(cw:Nat->Prop):Prop where
 ge:nx C.P
 eC:yq C aS
 base:bW C cv cw .nil C.aB aS.heap.size aS
 eK:kT C cv cw
 mem:tF C.P aS
def Ends(C:al)(aS:World)(a1:Nat)(bg:List Frame)(v:z)(a6:Machine):Prop:=
 ∃F a2 fr,Steps C.P a6 (lone fr bg a2)/\fr.leaving C.P a2 (.returned (aq F v))/\fr.fn=a1/\Below aS.heap.size aS a2
structure p1(C:al)(aS:World)(a1:Nat)(bg:List Frame)(bh:gA)(todo:List co)(fn n ac:Nat)(aP:List eD)(ar:Bool)(ro:Option Nat)(cs:List d1)(B:E z)(q:E S)(u:Nat)
 (F:bX)(Q:Nat->Prop)(w:World)(bQ:Nat)(tmps:Array Value)(aQ:List Item)(Y:List Frame):Prop where
 K:bW C F Q q u aS.heap.size w
 gp:Below aS.heap.size aS w
 eK:kT C F Q
 f2:bQ<=u
 eJ:mC C Q fn ac aP ro
 mode:j1 Q bh
 bot:cs=[]->fn=a1/\ar=false/\ro=none
 cs:iL C F Q q a1 bg bQ cs Y
 todo:match bh with
  | .run=>p2 C F Q q bQ u n ac B tmps todo aQ|_=>fy F Q n ac B tmps
def h3(C:al)(aS:World)(a1:Nat)(bg:List Frame)(U:eA):Prop:=
 ∀bh todo fn n ac aP ar ro cs B q u v,U bh todo ⟨fn,n,ac,aP,ar,ro,cs⟩ B q u=some v->
  ∀F Q w bQ tmps aQ Y,p1 C aS a1 bg bh todo fn n ac aP ar ro cs B q u F Q w bQ tmps aQ Y->Ends C aS a1 bg v (lone (bD F fn aP ar ro tmps aQ (d5 F bh)) Y w)
variable{aS:World}{a1:Nat}{bg:List Frame}{v:z}
def Ends.head{a6 a:Machine}(h:step C.P a6=.next a)(b:Ends C aS a1 bg v a):Ends C aS a1 bg v a6:=by obtain⟨F,a2,fr,c,d⟩:=b;exact⟨F,a2,fr,.head h c,d⟩
def Ends.steps{a6 a:Machine}(h:Steps C.P a6 a)(b:Ends C aS a1 bg v a):Ends C aS a1 bg v a6:=by obtain⟨F,a2,fr,c,d⟩:=b;exact⟨F,a2,fr,h.trans c,d⟩
def bW.later(K:bW C F Q q u aO w)(W:Below w.heap.size w a2):bW C F Q q u aO a2:=
 ⟨K.aB,K.lt,K.mq,λb I h d=>(K.obj b I h d).M (λ_ _=>rfl) (λ_ h=>h) (W.block _ (K.obj b I h d).lt),K.sep,K.base,K.b3⟩
def Env.now{cv:bX}{cw:Nat->Prop}(c:Env C aS cv cw)(W:Below aS.heap.size aS w):bW C cv cw .nil C.aB w.heap.size w:=by have K:=c.base.later W;refine⟨K.aB,K.lt,K.mq,K.obj,K.sep, ?_,K.b3⟩;intro b I d a _;unfold H at a;rw[cY,Zi (by simp[Nat.blt];omega)]at a;simp_all
def Env.later{cv:bX}{cw:Nat->Prop}(a:Env C aS cv cw)(W:Below aS.heap.size aS w):Env C w cv cw:=
 ⟨a.ge,⟨a.eC.val,λf args v h F c b=>a.eC.ok f args v h F c (W.trans (b.mono W.size))⟩,a.now W,a.eK,λf fn d e c b=>a.mem f fn d e c (W.trans (b.mono W.size))⟩
variable{fn:Nat}{aP:List eD}{ar:Bool}{ro:Option Nat}{tmps:Array Value}{aQ:List Item}{Y:List Frame}
def pI(tmps:Array Value)(aQ:List Item):stepG C.P true {frame:=bD F fn aP ar ro tmps aQ .run,callers:=Y,status:=.running,dying:=none} w=stepG.exec C.P true true (bD F fn aP ar ro tmps aQ .run) Y none w:=by rfl
def aco{a b:Code}:step C.P (lone (bD F fn aP ar ro tmps (.code (.seq a b)::aQ) .run) Y w)=.next (lone (bD F fn aP ar ro tmps (.code a:: .code b::aQ) .run) Y w):=by rfl
def acp:step C.P (lone (bD F fn aP ar ro tmps (.code .skip::aQ) .run) Y w)=.next (lone (bD F fn aP ar ro tmps aQ .run) Y w):=by rfl
def ace{l:Nat}:step C.P (lone (bD F fn aP ar ro tmps (.code (.label l)::aQ) .run) Y w)=.next (lone (bD F fn aP ar ro tmps aQ .run) Y w):=by rfl
def acb{l:Nat}:step C.P (lone (bD F fn aP ar ro tmps (.inBlock l::aQ) .run) Y w)=.next (lone (bD F fn aP ar ro tmps aQ .run) Y w):=by rfl
def acd{b:Code}:step C.P (lone (bD F fn aP ar ro tmps (.inScope b::aQ) .run) Y w)=.next (lone (bD F fn aP ar ro tmps aQ .run) Y w):=by rfl
def ab5{id:Nat}{b:Code}:step C.P (lone (bD F fn aP ar ro tmps (.code (.block id b)::aQ) .run) Y w)=.next (lone (bD F fn aP ar ro tmps (.code b:: .inBlock id::aQ) .run) Y w):=by rfl
def acf{b:Code}:step C.P (lone (bD F fn aP ar ro tmps (.code (.loop b)::aQ) .run) Y w)=.next (lone (bD F fn aP ar ro tmps (.code b:: .inLoop b::aQ) .run) Y w):=by rfl
def acc{b:Code}:step C.P (lone (bD F fn aP ar ro tmps (.inLoop b::aQ) .run) Y w)=.next (lone (bD F fn aP ar ro tmps (.code b:: .inLoop b::aQ) .run) Y w):=by rfl
def acn{b:Code}:step C.P (lone (bD F fn aP ar ro tmps (.code (.scope b)::aQ) .run) Y w)=.next (lone (bD F fn aP ar ro tmps (.code b:: .inScope b::aQ) .run) Y w):=by rfl
def ab6{c:Operand}{a b:Code}{t:Bool}(h:gR tmps c=.bool t):step C.P (lone (bD F fn aP ar ro tmps (.code (.cond c a b)::aQ) .run) Y w)=.next (lone (bD F fn aP ar ro tmps (.code (if t then a else b)::aQ) .run) Y w):=
 step_lone_go (by
  have d:(bD F fn aP ar ro tmps (.code (.cond c a b)::aQ) .run).eval c=.bool t:=by assumption
  rw[pI];simp only[bD]at d;simp[stepG.exec,bD,d])
def aca{id:Nat}{a:List Item}(h:Go.exitTo id aQ=some a):step C.P (lone (bD F fn aP ar ro tmps (.code (.exit id)::aQ) .run) Y w)=.next (lone (bD F fn aP ar ro tmps a .run) Y w):=
 step_lone_go (by rw[pI];simp[stepG.exec,bD,h])
def ack:step C.P (lone (bD F fn aP ar none tmps (.code .ret::aQ) .run) Y w)=.next (lone (bD F fn aP ar none tmps (.code .ret::aQ) .returning) Y w):=by rfl
def ab8:step C.P (lone (bD F fn aP ar none tmps [] .run) Y w)=.next (lone (bD F fn aP ar none tmps [] .returning) Y w):=by rfl
def aci{id:Nat}:step C.P (lone (bD F fn aP ar ro tmps (.code (.region id ae false)::aQ) .run) Y w)=.next (lone (bD F fn aP ar ro tmps (.inRegion ae (List.range ae.size)::aQ) .run) Y w):=by rfl
def acj{id:Nat}:step C.P (lone (bD F fn aP ar ro tmps (.code (.region id ae true)::aQ) .run) Y w)=
 .next (lone (bD F fn aP ar ro tmps (.inRegion ae (Region.schedule (C.P.follows .mixedOrders) ae (w.tape w.drawn (.order fn id)))::aQ) .run) Y w.drew):=by rfl
def Ih:step C.P (lone (bD F fn aP ar ro tmps (.inRegion ae []::aQ) .run) Y w)=.next (lone (bD F fn aP ar ro tmps aQ .run) Y w):=by rfl
def BT{i:Nat}{l:List Nat}{I:Oper}(a:ae[i]? =some I)(b:Region.wanted I (yielded ae tmps)=false):
 step C.P (lone (bD F fn aP ar ro tmps (.inRegion ae (i::l)::aQ) .run) Y w)=.next (lone ((bD F fn aP ar ro tmps (.inRegion ae (i::l)::aQ) .run).finish Go.undef) Y w):=
 step_lone_go (by rw[pI];simp[stepG.exec,bD,a,b])
def Bo{ab:Operand->Value}{I:Oper}{a:Next}(K:(execOp ab I).run C.P w=.ok a a2)(h:∀d,a≠ .defer d):∀c,I.op≠ .defer c:=by
 intro c b;have g:execOp ab I=(do pure (.defer (<-resolve ab c I.type))):=by unfold execOp;rw[b]
 rw[g]at K;simp only[Sem.run_bind]at K;cases f:(resolve ab c I.type).run C.P w with|ok d i=>rw[f]at K;simp only[Result.andThen_ok,Sem.run_pure,Result.ok.injEq]at K;grind|halt e i=>simp_all
def tq{i:Nat}{l:List Nat}{I:Oper}(a:ae[i]? =some I)(b:Region.wanted I (yielded ae tmps)=true)(e1:ro=none\/∀c,I.op≠ .defer c):
 stepG C.P true {frame:=bD F fn aP ar ro tmps (.inRegion ae (i::l)::aQ) .run,callers:=Y,status:=.running,dying:=none} w=
  stepG.apply C.P true (bD F fn aP ar ro tmps (.inRegion ae (i::l)::aQ) .run) Y none (execOp (gR tmps) I) w:=by
 rw[pI];rcases e1 with rfl|e1
 ·simp[stepG.exec,stepG.oper,bD,Frame.oper?,a,b,FO]
 ·cases ro with
  |none=>simp[stepG.exec,stepG.oper,bD,Frame.oper?,a,b,FO]|some r=>
   have:∀(c:Call),I.op≠ .defer c:=e1
   simp[stepG.exec,stepG.oper,bD,Frame.oper?,a,b];split
   ·rename_i d;exact absurd d (this _)
   ·rfl
def rC{i:Nat}{l:List Nat}{I:Oper}{R:Value}{a:Next}(c:ae[i]? =some I)(d:Region.wanted I (yielded ae tmps)=true)
 (K:(execOp (gR tmps) I).run C.P w=.ok a a2)(b:a=.value R\/(a=.skip/\R=Go.undef)):
 step C.P (lone (bD F fn aP ar ro tmps (.inRegion ae (i::l)::aQ) .run) Y w)=.next (lone ((bD F fn aP ar ro tmps (.inRegion ae (i::l)::aQ) .run).finish R) Y a2):=
 step_lone_go (by
  rw[tq c d (.inr (Bo K (by rcases b with rfl|⟨rfl,rfl⟩<;>simp)))];rcases b with rfl|⟨rfl,rfl⟩
  ·simp[stepG.apply,K]
  ·simp[stepG.apply,K])
def BS{i:Nat}{l:List Nat}{I:Oper}{f:Nat}{args:Array Value}(a:ae[i]? =some I)(b:Region.wanted I (yielded ae tmps)=true)
 (K:(execOp (gR tmps) I).run C.P w=.ok (.enter f args) a2):
 step C.P (lone (bD F fn aP ar ro tmps (.inRegion ae (i::l)::aQ) .run) Y w)=.next (lone (Frame.enter C.P f args .normal) (bD F fn aP ar ro tmps (.inRegion ae (i::l)::aQ) .run::Y) a2):=
 step_lone_go (by rw[tq a b (.inr (Bo K Zs))];simp[stepG.apply,K,bD])
def acl{i:Nat}{l:List Nat}{I:Oper}{b f:Nat}{az:Array Value}{assign body:Code}(a:ae[i]? =some I)(c:Region.wanted I (yielded ae tmps)=true)
 (K:(execOp (gR tmps) I).run C.P w=.ok (.round b f az assign body) a2):
 step C.P (lone (bD F fn aP ar ro tmps (.inRegion ae (i::l)::aQ) .run) Y w)=.next (lone (Frame.round b f az assign body .normal) (bD F fn aP ar ro tmps (.inRegion ae (i::l)::aQ) .run::Y) a2):=
 step_lone_go (by rw[tq a c (.inr (Bo K Zs))];simp[stepG.apply,K])
def ab7{i:Nat}{l:List Nat}{I:Oper}{d:eD}(a:ae[i]? =some I)(b:Region.wanted I (yielded ae tmps)=true)
 (K:(execOp (gR tmps) I).run C.P w=.ok (.defer (hm F d)) a2):
 step C.P (lone (bD F fn aP ar none tmps (.inRegion ae (i::l)::aQ) .run) Y w)=.next (lone ((bD F fn (d::aP) ar none tmps (.inRegion ae (i::l)::aQ) .run).finish Go.undef) Y a2):=
 step_lone_go (by rw[tq a b (.inl rfl)];simp[stepG.apply,K,bD])
def acg{i:Nat}{l:List Nat}{I:Oper}{R:z}(a:ae[i]? =some I)(b:Region.wanted I (yielded ae tmps)=true)
 (K:(execOp (gR tmps) I).run C.P w=.halt (.panic (aq F R)) a2):
 step C.P (lone (bD F fn aP ar none tmps (.inRegion ae (i::l)::aQ) .run) Y w)=.next (lone (bD F fn aP ar none tmps (.inRegion ae (i::l)::aQ) (d5 F (.panicking [⟨R,false⟩]))) Y a2):=
 step_lone_go (by rw[tq a b (.inl rfl)];simp[stepG.apply,K,bD,Frame.raise,d5,nH])
def ach{i:Nat}{l:List Nat}{I:Oper}{R:Value}{b:List Frame}(c:ae[i]? =some I)(d:Region.wanted I (yielded ae tmps)=true)
 (K:(execOp (gR tmps) I).run C.P w=.ok .recover a2)
 (a:Go.tryRecover (bD F fn aP ar none tmps (.inRegion ae (i::l)::aQ) .run) Y=some (R,b)\/(Go.tryRecover (bD F fn aP ar none tmps (.inRegion ae (i::l)::aQ) .run) Y=none/\R=.nilIface/\b=Y)):
 step C.P (lone (bD F fn aP ar none tmps (.inRegion ae (i::l)::aQ) .run) Y w)=.next (lone ((bD F fn aP ar none tmps (.inRegion ae (i::l)::aQ) .run).finish R) b a2):=
 step_lone_go (by
  rw[tq c d (.inl rfl)];have e:(bD F fn aP ar none tmps (.inRegion ae (i::l)::aQ) .run).roundOf=none:=rfl;rcases a with a|⟨a,rfl,rfl⟩
  ·simp[stepG.apply,K,e,a]
  ·simp[stepG.apply,K,e,a])
def ab4{b:Nat}(K:(Instr.beginRound (F b).bA).run C.P w=.ok () a2):
 step C.P (lone (bD F fn aP ar (some b) tmps (.beginRound::aQ) .run) Y w)=.next (lone (bD F fn aP ar (some b) tmps aQ .run) Y a2):=
 step_lone_go (by rw[pI];simp[stepG.exec,stepG.apply,bD,K,Frame.finish])
def ab9{b:Nat}{a:Option Code}(K:(Instr.endLoop b).run C.P w=.ok a a2):
 step C.P (lone (bD F fn aP ar ro tmps (.endRangeFunc b::aQ) .run) Y w)=.next (lone (bD F fn aP ar ro tmps ((a.map Item.code).toList++aQ) .run) Y a2):=
 step_lone_go (by rw[pI];simp[stepG.exec,bD,K])
def Ig{f:Operand}{params:Array Tmp}{assign body:Code}{b:Nat}{mark:List Deferred}{g:Nat}{args:Array Value}{dS:World}{d:Deferred}
 (c:(Instr.enterLoop fn tmps params assign body (ro.map λl=>(F l).bA)).run C.P w=.ok (b,mark) dS)
 (h:(resolve (gR tmps) {callee:=.value f,args:= #[.const (.func (.yield b) #[] #[])],argTypes:= #[]} 0).run C.P dS=.ok d dS)(e:(invoke d.target d.args).run C.P dS=.ok (.enter g args) a2):
 step C.P (lone (bD F fn aP ar ro tmps (.code (.rangeFunc f params assign body)::aQ) .run) Y w)=
  .next (lone (Frame.enter C.P g args .normal) ({bD F fn aP ar ro tmps (.inRangeFunc b::aQ) .run with defers:=mark++aP.map (hm F)}::Y) a2):=
 step_lone_go (by
  rw[pI];have a:({bD F fn aP ar ro tmps (.inRangeFunc b::aQ) .run with defers:=mark++aP.map (hm F)}:Frame).eval=gR tmps:=by rfl
  simp only[bD]at a;simp[stepG.exec,bD,Sem.runT_eq,c,stepG.apply,a,h,e])
def acm{a:Option Code}{b:Nat}{R:Value}{g:Frame}(d:(a=none/\aQ=[])\/(a=some .ret/\∃k,aQ=.code .ret::k)\/(∃id k,a=some (.exit id)/\aQ=.code (.exit id)::k/\Go.exitTo id k=none))
 (c:(Instr.endRound (F b).bA a).run C.P w=.ok R a2):
 step C.P (lone (bD F fn aP false (some b) tmps aQ .run) (g::Y) w)=.next (lone (g.finish R) Y a2):=
 step_lone_go (by
  rw[pI];rcases d with ⟨rfl,rfl⟩|⟨rfl,k,rfl⟩|⟨id,k,rfl,rfl,e⟩
  ·simp[stepG.exec,bD,c,doReturn]
  ·simp[stepG.exec,bD,c,doReturn]
  ·simp[stepG.exec,bD,c,doReturn,e])
def acq{r:Nat}{c:List z}{bb:List eD}{a:List Deferred}{mode:FrameMode}{b9:List eD}(e:mode≠ .run)(b:(Instr.takeDeferred (F r).bA).run C.P w=.ok a a2)(ai:a++bb.map (hm F)=b9.map (hm F)):
 step C.P (lone (bD F fn (⟨.collected r,c⟩::bb) ar ro tmps aQ mode) Y w)=.next (lone (bD F fn b9 ar ro tmps aQ mode) Y a2):=
 step_lone_go (by
  cases mode with
  |run=>grind|returning=>simp[stepG,unwind,bD,hm,qd,b,ai]|panicking d=>simp[stepG,unwind,bD,hm,qd,b,ai])
variable{cv:bX}{cw:Nat->Prop}
variable{U:eA}
variable{cs:List d1}{B:E z}{aT ag:Nat}
structure fm(C:al)(aS:World)(a1:Nat)(bg:List Frame)(fn ac:Nat)(aP:List eD)(ar:Bool)(ro:Option Nat)(cs:List d1)(q:E S)(u:Nat)(F:bX)(Q:Nat->Prop)(w:World)(bQ:Nat)(Y:List Frame):Prop where
 K:bW C F Q q u aS.heap.size w
 gp:Below aS.heap.size aS w
 eK:kT C F Q
 f2:bQ<=u
 eJ:mC C Q fn ac aP ro
 bot:cs=[]->fn=a1/\ar=false/\ro=none
 cs:iL C F Q q a1 bg bQ cs Y
def fm.cx{bQ:Nat}(h:fm C aS a1 bg fn ac aP ar ro cs q u F Q w bQ Y):aS.heap.size<=w.heap.size:=h.gp.size
def fm.ext{bQ:Nat}(h:fm C aS a1 bg fn ac aP ar ro cs q u F Q w bQ Y)(K:bW C bY b9 D Z aS.heap.size a2)(a:eH C bQ F Q q aS.heap.size w bY b9 D a2)(b:u<=Z):
 fm C aS a1 bg fn ac aP ar ro cs D Z bY b9 a2 bQ Y:=
 ⟨K,h.gp.trans a.below,h.eK.M a.e2 a.fz,ZE h.f2 b,h.eJ.M a.fz,h.bot,h.cs.M a⟩
def fm.state{bQ:Nat}{todo:List co}(h:fm C aS a1 bg fn ac aP ar ro cs q u F Q w bQ Y)(a:p2 C F Q q bQ u n ac B tmps todo aQ):
 p1 C aS a1 bg .run todo fn n ac aP ar ro cs B q u F Q w bQ tmps aQ Y:=⟨h.K,h.gp,h.eK,h.f2,h.eJ,trivial,h.bot,h.cs,a⟩
def p1.Oa{todo:List co}{bQ:Nat}(h:p1 C aS a1 bg .run todo fn n ac aP ar ro cs B q u F Q w bQ tmps aQ Y):fm C aS a1 bg fn ac aP ar ro cs q u F Q w bQ Y/\p2 C F Q q bQ u n ac B tmps todo aQ:=
 ⟨⟨h.K,h.gp,h.eK,h.f2,h.eJ,h.bot,h.cs⟩,h.todo⟩
def iL.inv{bQ b:Nat}{todo:List co}{bh:gA}(h:iL C F Q q a1 bg bQ (⟨fn,b,ac,B,todo,aP,bh,ar,ro⟩::cs) Y):
 ∃aT tmps aQ a,Y=bD F fn aP ar ro tmps aQ (d5 F bh)::a/\oI C F Q q aT bQ b ac B tmps bh todo aQ/\j1 Q bh/\mC C Q fn ac aP ro/\(cs=[]->fn=a1/\ar=false/\ro=none)/\aT<=bQ/\iL C F Q q a1 bg aT cs a:=by
 cases h with|cons c i d e f g=>grind
def FE(x:h3 C aS a1 bg U){f:Nat}{args:List z}{bQ:Nat}{a:Bool}{d:List d1}{g:List Frame}(K:bW C F Q q u aS.heap.size w)(W:Below aS.heap.size aS w)(eK:kT C F Q)(A:bQ<=u)
 (r:iL C F Q q a1 bg bQ d g)(j:d=[]->f=a1/\a=false)(l:cz Q args)(h:iz U C f args a d q u=some v):Ends C aS a1 bg v (lone (Frame.enter C.P f (bf F args).toArray (if a then .deferred else .normal)) g w):=by
 unfold iz at h;split at h
 ·rename_i func k;split at h
  ·rename_i c p;simp only[gi,cO,Zu]at h;obtain⟨⟨⟨i,m⟩,n⟩,h⟩:=h;have i:=e7 i;have s:Frame.enter C.P f (bf F args).toArray (if a then .deferred else .normal)=bD F f [] a none ((bf F args).toArray++Array.replicate (func.ntmps-args.length) Go.undef) [.code c] (d5 F .run):=(by simp[Frame.enter,bD,d5,k,p,fI]);rw[s];refine x _ _ _ _ _ _ _ _ _ _ _ _ v h F Q w bQ _ _ g ?_;refine⟨K,W,eK,A,⟨Zs,Zs,func,k,n⟩,trivial,λe=>⟨(j e).1,(j e).2,rfl⟩,r,.plain (.cons (.code m) .nil) ⟨?_, ?_⟩⟩
   ·simp[fI];omega
   ·intro t R _ b;rw[g0]at b;have G:=(Ze.1 b).1;refine⟨?_,pa l b⟩;rw[Yu (by simpa[fI]using G)];simp[oU,b]
  ·simp at h
 ·simp at h
def wm(i:h3 C aS a1 bg U){f:Nat}{args:List z}{bQ:Nat}{a:List d1}{b:List Frame}(K:bW C F Q q u aS.heap.size w)(W:Below aS.heap.size aS w)(eK:kT C F Q)(j:bQ<=u)
 (g:iL C F Q q a1 bg bQ a b)(d:a=[]->f=a1)(c:cz Q args)(h:iz U C f args false a q u=some v):Ends C aS a1 bg v (lone (Frame.enter C.P f (bf F args).toArray .normal) b w):=
 FE i K W eK j g (λe=>⟨d e,rfl⟩) c h
def qy(m:h3 C aS a1 bg U){a:co}{k:List co}{R:z}(j:fm C aS a1 bg fn ac aP ar ro cs q u F Q w aT Y)(p:hw C F Q q aT ag n ac B tmps (a::k) aQ)(l:ag<=u)(i:bs Q R)
 (h:(match iC a R with|some b=>U .run (b::k) ⟨fn,n,ac,aP,ar,ro,cs⟩ B q u|none=>none)=some v):
 Ends C aS a1 bg v (lone ((bD F fn aP ar ro tmps aQ .run).finish (aq F R)) Y w):=by
 obtain⟨s,t,b,r,c,d,e,f,g⟩:=P8 (aP:=aP) (ro:=ro) p l i;cases d;rw[e]at h;rw[f];exact m _ _ _ _ _ _ _ _ _ _ _ _ v h F Q w aT r c Y (j.state g)
def R1{f:Nat}{args:List z}{R:z}(b:Env C aS cv cw)(W:Below aS.heap.size aS w)(c:C.eC f args=some R):
 (
  (∀a,(callFunc f (bf a args).toArray).run C.P w=.ok (.value (aq a R)) w)\/
  ((∀a,(callFunc f (bf a args).toArray).run C.P w=.ok (.enter f (bf a args).toArray) w)/\∀a,Calls C.P f (bf a args).toArray w λe a2=>e=.returned (aq a R)/\Below w.heap.size w a2))/\∀d,bs d R:=by
 obtain⟨⟨i,g⟩,j,k⟩:=b.eC.val f args R c;refine⟨?_,g⟩;rcases b.eC.ok f args R c cv w W with h|⟨l,m⟩
 ·grind
 ·grind
def RB:∀{l:List z}{x:List Int},qI l=some x->l=x.map (λn=>z.int .i64 n):=by intro l;induction l with|nil=>intro x h;simp[qI]at h;subst h;simp|cons a l U=>intro x h;unfold qI at h;grind
def OY:∀ao:List Int,bf F (ao.map λaj=>z.int .i64 aj)=ao.map λaj=>Value.int .i64 aj:=by intro ao;induction ao with|nil=>rfl|cons a ao U=>rw[ZG,bf,U];rfl
def QP:∀ao:List Int,cz Q (ao.map λaj=>z.int .i64 aj):=by intro ao;induction ao with|nil=>trivial|cons a ao U=>exact⟨trivial,U⟩
def Rv(x:Int):∀l:List Int,(k8 x l).length=l.length+1:=by intro l;induction l with|nil=>rfl|cons o l U=>rw[k8,cY];split<;>simp[U]
def rz:∀l:List Int,(d0 l).length=l.length:=by intro l;induction l with|nil=>rfl|cons o l U=>rw[d0,Rv,U];rfl
def If{bQ f b I len c:Nat}(N:Env C aS cv cw)(K:bW C F Q q u aS.heap.size w)(W:Below aS.heap.size aS w){fn:Func}(T1:C.P.funcs[f]? =some fn)(T3:fn.name= "slices.Sort[[]int,int]")(j:Q b)(a:tO C q b I len=some D):
 (callFunc f #[.slice (some ⟨(F b).bA,(F b).cn+I,none⟩) len c]).run C.P w=.ok (.enter f #[.slice (some ⟨(F b).bA,(F b).cn+I,none⟩) len c]) w/\
 Calls C.P f #[.slice (some ⟨(F b).bA,(F b).cn+I,none⟩) len c] w λe a2=>e=.returned (.tuple #[])/\∃dS,bW C F Q D u aS.heap.size dS/\eH C bQ F Q q aS.heap.size w F Q D dS/\Below dS.heap.size dS a2:=by
 unfold tO at a;split at a
 ·rename_i l d;split at a
  ·rename_i ao T5;simp only[cO,Zu]at a;obtain⟨⟨k,g⟩,a⟩:=a;have k:=hy k;have g:=e7 g;have T2:=RB T5;subst T2;obtain⟨dS,a7,bl,t⟩:=tP K j (QP _) a;unfold gq at d;split at d
   ·rename_i cc h;obtain⟨bw,T6⟩:=E.wE _ _ _ _ d;rw[Zj]at bw;subst bw;unfold g5 at a;split at a
    ·rename_i x n st s;simp only[cO,Zu]at a;obtain⟨⟨⟨v,T9⟩,T7⟩,a⟩:=a;have v:I+(d0 ao).length<=n:=(by simp_all);rw[rz]at v;obtain⟨bj,ty,aT,ag,aL,bt,a3,a4⟩:=K.obj b _ s j;have r:st≠ .fG:=λe=>(by subst e;simp at a);have X:cc=x:=(by unfold cellsOf at h;rw[s]at h;exact(Y6 h).symm);subst X;have T0:∀i aj,ao[i]? =some aj->bj[(F b).cn+I+i]? =some (.int .i64 aj):=λi aj p=>(by have ag:=(Ze.1 p).1;have m:=T6 i ag;rw[Zt,p]at m;have:=(a4 (I+i) _ m).1;rw[<-Ye]at this;exact this);have T4:=xD C.P (F b).bA ((F b).cn+I) ty aT ag (bf F ((d0 ao).map λaj=>z.int .i64 aj)) 0 bj w aL (bt.free r) (by rw[fI,Zj,rz];omega) (xh T7);rw[T4]at a7;cases a7;rw[OY]at bl t;obtain⟨_,A⟩:=N.mem f fn T1 T3 w W;obtain⟨G,L⟩:=A (F b).bA ((F b).cn+I) c bj ty aT ag ao aL (bt.free r) Zo T0 g;exact⟨G,L.mono λe a2 ⟨O,P⟩=>⟨O,_,bl,t,P⟩⟩
    ·cases a
   ·simp only[cO]at d;have T8:=Zn d.1;omega
  ·cases a
 ·cases a
def S4{bQ f:Nat}{args:List z}(c:Env C aS cv cw)(K:bW C F Q q u aS.heap.size w)(W:Below aS.heap.size aS w)(b:sO C f=true)(h:cz Q args)(a:p7 C q args=some D):
 (callFunc f (bf F args).toArray).run C.P w=.ok (.enter f (bf F args).toArray) w/\
 Calls C.P f (bf F args).toArray w λe a2=>e=.returned (aq F (.tuple []))/\∃dS,bW C F Q D u aS.heap.size dS/\eH C bQ F Q q aS.heap.size w F Q D dS/\Below dS.heap.size dS a2:=by
 unfold sO at b;split at b
 ·rename_i fn d;rw[cY]at b;split at b
  ·have g:fn.name= "slices.Sort[[]int,int]":=(by grind);unfold p7 at a;split at a
   ·cases a;obtain⟨⟨i,j⟩,_⟩:=c.mem f fn d g w W;exact⟨i,j.mono λe a2 ⟨k,l⟩=>⟨k,w,K,.refl,l⟩⟩
   ·exact If c K W d g h.1 a
   ·exact If c K W d g h.1 a
   ·grind
  ·grind
 ·grind
mutual
def xE:∀(d:Nat) (x o:z),z.same d x o=true->x=o
 |0,_,_,h=>by simp[z.same]at h|d+1,x,o,h=>by
  unfold z.same at h;split at h<;>(try(cases h;done))
  ·simp at h;rw[h]
  ·simp at h;rw[h.1,h.2]
  ·rw[(uV _ _).1 h]
  ·simp only[Zu]at h;rw[Zn h.1,Zn h.2]
  ·rfl
  ·simp only[Zu]at h;rw[Zn h.1.1.1,Zn h.1.1.2,Zn h.1.2,Zn h.2]
  ·simp only[Zu]at h;rw[Zn h.1.1.1,Zn h.1.1.2,Zn h.1.2,Zn h.2]
  ·rfl
  ·rw[Zn h]
  ·rfl
  ·simp only[Zu,Zf]at h;rw[h.1.1,u9 d _ _ h.1.2,u9 d _ _ h.2]
  ·rfl
  ·simp only[Zu]at h;rw[Zn h.1,xE d _ _ h.2]
  ·rfl
  ·rw[u9 d _ _ h]
  ·rw[u9 d _ _ h]
  ·simp only[Zu]at h;rw[Zn h.1.1.1,Zn h.1.1.2,Zn h.1.2,Zn h.2]
def u9:∀(d:Nat) (x o:List z),iE (z.same d) x o=true->x=o
 |_,[],[],_=>rfl|_,[],_::_,h=>by simp[iE]at h|_,_::_,[],h=>by simp[iE]at h|d,a::x,b::o,h=>by simp only[iE,Zu]at h;rw[xE d _ _ h.1,u9 d _ _ h.2]
end
def Ends.same{a6:Machine}{a:z}(e:∀F,aq F a=aq F v)(h:Ends C aS a1 bg a a6):Ends C aS a1 bg v a6:=by obtain⟨F,a2,fr,b,c,d⟩:=h;exact⟨F,a2,fr,b,by rw[<-e];exact c,d⟩
def Qq{c:co}{k:List co}{bm:ff}:∀(l:List (z×E S)) (v:z),qw U c k bm B u l=some v->∀R D,(R,D)∈l->
 ∃b,(match iC c R with|some d=>U .run (d::k) bm B D u|none=>none)=some b/\∀F,aq F b=aq F v:=by
 intro l;induction l with
 |nil=>grind|cons p l m=>
  intro v h R D a;cases l with
  |nil=>simp at a;obtain⟨rfl,rfl⟩:=a;exact⟨v,h,λ_=>rfl⟩
  |cons V l=>
   simp only[qw]at h;split at h
   ·rename_i d n;split at h
    ·rename_i x o r j;simp only[cO,Zh]at h;obtain⟨i,rfl⟩:=h;rcases Zq.1 a with e|a
     ·grind
     ·obtain⟨b,f,g⟩:=m o j R D a;exact⟨b,f,λF=>by rw[g F,xE _ _ _ i]⟩
    ·grind
   ·simp at h
def acQ{R:z}{b1:List d1}{bQ:Nat}{aQ:List Item}(n:iL C F Q q a1 bg bQ cs Y)(h:pJ ar cs=some (R,b1)):
 ∃a,iL C F Q q a1 bg bQ b1 a/\bs Q R/\(b1=[]->cs=[])/\
  (Go.tryRecover (bD F fn aP ar none tmps aQ .run) Y=some (aq F R,a)\/(Go.tryRecover (bD F fn aP ar none tmps aQ .run) Y=none/\aq F R=.nilIface/\a=Y)):=by
 unfold pJ at h;rw[cY]at h;cases ar with
 |false=>obtain⟨rfl,rfl⟩:=h;exact⟨Y,n,trivial,id,.inr ⟨by simp[Go.tryRecover,bD],rfl,rfl⟩⟩
 |true=>
  simp only[ZL]at h;cases cs with
  |nil=>grind|cons c rest=>
   obtain⟨g,w,t,s,x,f,b,d,i⟩:=c;obtain⟨T3,l,k,a,rfl,a7,bl,N,O,P,X⟩:=n.inv;have same:(R,b1)=(z.nilIface,(⟨g,w,t,s,x,f,b,d,i⟩:d1)::rest)->(∀v j,d5 F b≠ .panicking (⟨v,false,false⟩::j))->
    ∃m,iL C F Q q a1 bg bQ b1 m/\bs Q R/\(b1=[]->(⟨g,w,t,s,x,f,b,d,i⟩:d1)::rest=[])/\
     (Go.tryRecover (bD F fn aP true none tmps aQ .run) (bD F g f d i l k (d5 F b)::a)=some (aq F R,m)\/
      (Go.tryRecover (bD F fn aP true none tmps aQ .run) (bD F g f d i l k (d5 F b)::a)=none/\aq F R=.nilIface/\m=bD F g f d i l k (d5 F b)::a)):=by
    intro e T2;obtain⟨rfl,rfl⟩:=e;refine⟨_,n,trivial,λe=>(by cases e),.inr ⟨?_,rfl,rfl⟩⟩;simp only[Go.tryRecover,bD,ZL]
   simp only at h;split at h
   ·rename_i v j;simp only[Zh,YX]at h;obtain⟨rfl,rfl⟩:=h;have G:j1 Q (.panicking (⟨v,true⟩::j)):=by
     intro p r;rcases Zq.1 r with rfl|r
     ·exact bl ⟨v,false⟩ (Zr ..)
     ·exact bl p (Zw _ r)
    refine⟨bD F g f d i l k (d5 F (.panicking (⟨v,true⟩::j)))::a,.cons a7 G N O P X,bl ⟨v,false⟩ (Zr ..),λe=>(by cases e),.inl ?_⟩;simp[Go.tryRecover,bD,d5,nH]
   ·rename_i L;simp only[Zh]at h;refine same h.symm λv j e=> ?_;cases b with|run=>cases e|returning=>cases e|panicking A=>cases A with|nil=>cases e|cons p b4=>obtain⟨T1,T0⟩:=p;cases T0 with|true=>simp[d5,nH]at e|false=>exact L T1 b4 rfl
def abC{g:Nat}:∀(b4:List Nat) (b:List z) (B c:E z) (tmps:Array Value),fy F Q g ac B tmps->cz Q b->nh g b4 b B=some c->
 b4.length=b.length/\fy F Q g ac c ((b4.zip (bf F b)).foldl (λtmps p=>tmps.setIfInBounds p.1 p.2) tmps):=by
 intro b4;induction b4 with
 |nil=>
  intro b B c tmps d _ h;cases b with
  |nil=>simp[nh]at h;subst h;exact⟨rfl,by simpa[bf]using d⟩|cons a b=>simp[nh]at h
 |cons p b4 r=>
  intro b B c tmps d l h;cases b with
  |nil=>simp[nh]at h|cons a b=>
   simp only[nh,cO]at h;obtain⟨k,h⟩:=h;have k:=hy k;have n:fy F Q g ac (B.set p (some a)) (tmps.setIfInBounds p (aq F a)):=by
    refine⟨by simp[d.size],λt R m f=> ?_⟩;rw[E.e0]at f;by_cases e:p=t
    ·subst e;simp at f;subst f;exact⟨by simp[d.size,k],l.1⟩
    ·simp[e]at f;obtain⟨i,j⟩:=d.val t R m f;exact⟨by rw[Array.getElem?_setIfInBounds_ne e];exact i,j⟩
   obtain⟨i,j⟩:=r b _ c _ n l.2 h;exact⟨by simp[i],by simpa[bf]using j⟩
def EJ(TY:Env C aS cv cw)(x:h3 C aS a1 bg U){T7:co}{k:List co}{i:Nat}{l:List Nat}{I:Oper}{r:ck}(c:fm C aS a1 bg fn ac aP ar ro cs q u F Q w aT Y)
 (G:hw C F Q q aT ag n ac B tmps (T7::k) (.inRegion ae (i::l)::aQ))(P:aT<=ag)(s:ag<=u)(A:ae[i]? =some I)(L:Region.wanted I (yielded ae tmps)=true)
 (m:eY C F Q q u aS.heap.size w (execOp (gR tmps) I) r)(h:jm r U C T7 k ⟨fn,n,ac,aP,ar,ro,cs⟩ B q u=some v):
 Ends C aS a1 bg v (lone (bD F fn aP ar ro tmps (.inRegion ae (i::l)::aQ) .run) Y w):=by
 have UI:=ZE P s;have done:∀v R D Z,oy C F Q q u aS.heap.size w (execOp (gR tmps) I) R D Z->(match iC T7 R with|some UO=>U .run (UO::k) ⟨fn,n,ac,aP,ar,ro,cs⟩ B D Z|none=>none)=some v->
  Ends C aS a1 bg v (lone (bD F fn aP ar ro tmps (.inRegion ae (i::l)::aQ) .run) Y w):=by
  intro v R D Z ai h;obtain⟨bY,b9,a2,U3,U7,U8,U9,UA,T0,T9⟩:=ai;have UN:U3=.value (aq bY R)\/(U3=.skip/\aq bY R=Go.undef):=U8.imp id λ⟨a,b⟩=>⟨a,by rw[b];rfl⟩;refine .head (rC A L U7 UN) ?_;rw[<-s5 T0.e2 c.eJ];exact qy x (c.ext UA (T0.mono UI) T9) (G.M (T0.mono s)) (ZE s T9) U9 h
 cases r with
 |val R=>exact done v R q u m h|cJ R D Z=>exact done v R D Z m h|enter f args=>obtain⟨j,g⟩:=m;refine .head (BS A L j) ?_;refine wm x c.K c.gp c.eK s ?_ (λe=>by simp[rF]at e) g h;exact .cons G trivial c.eJ c.bot P c.cs
 |known f args R=>
  obtain⟨j,g,N⟩:=m;obtain⟨T3,U0⟩:=R1 TY c.gp j;rcases T3 with T3|⟨T4,dB⟩
  ·rw[T3 F]at g;refine .head (rC A L g (.inl rfl)) ?_;exact qy x c G s (U0 Q) h
  ·rw[T4 F]at g;refine .head (BS A L g) ?_;obtain⟨e,a2,fr,⟨rfl,O⟩,T6,_,T5⟩:=dB F (bD F fn aP ar ro tmps (.inRegion ae (i::l)::aQ) .run::Y);refine .steps T6 (.head (step_leave_returned T5) ?_);have X:eH C ag F Q q aS.heap.size w F Q q a2:=⟨λ_ _=>rfl,λ_ h=>h,λ_ h=> .inl h,λ_ _ _=>rfl,O.mono c.cx⟩;exact qy x (c.ext (c.K.later O) (X.mono P) (Zg _)) (G.M X) s (U0 Q) h
 |wrote f args au=>obtain⟨⟨j,UD⟩,g,N⟩:=m;obtain⟨T4,dB⟩:=S4 TY c.K c.gp j N UD;rw[T4]at g;refine .head (BS A L g) ?_;obtain⟨e,a2,fr,⟨rfl,dS,UL,U2,O⟩,T6,_,T5⟩:=dB (bD F fn aP ar ro tmps (.inRegion ae (i::l)::aQ) .run::Y);refine .steps T6 (.head (step_leave_returned T5) ?_);have X:=U2.trans (Zg _) ⟨λ_ _=>rfl,λ_ h=>h,λ_ h=> .inl h,λ_ _ _=>rfl,O.mono (ZE c.cx U2.below.size)⟩;exact qy x (c.ext (UL.later O) (X.mono P) (Zg _)) (G.M X) s trivial h
 |round b args=>
  obtain⟨j,g,N⟩:=m;simp only[jm]at h;split at h
  ·rename_i st Uc TZ UZ UY U4 params assign body UW UK;split at h
   ·rename_i U5 UE;obtain⟨T8,dH,gd,Ua,UQ,UR,Ub,US⟩:=c.K.obj b _ UK N;obtain⟨UT,UU⟩:=abC params args U4 U5 T8 gd g UE;rw[run_yield dH (by simp[fI,UT])]at j;refine .head (acl A L j) ?_;have UG:Frame.round (F b).bA TZ (((params.toArray).zip (bf F args).toArray).foldl (λtmps (t,a)=>tmps.setIfInBounds t a) T8) assign body .normal=
     bD F TZ [] false (some b) ((params.zip (bf F args)).foldl (λtmps p=>tmps.setIfInBounds p.1 p.2) T8) [.code assign,.beginRound,.code body] (d5 F .run):=by
     simp[Frame.round,bD,d5]
    rw[UG];refine x _ _ _ _ _ _ _ _ _ _ _ _ v h F Q w ag _ _ _ ?_;refine⟨c.K,c.gp,c.eK,s,⟨Zs,λl UH=>(by cases UH;exact N),US⟩,trivial,λe=>by simp[rF]at e,.cons G trivial c.eJ c.bot P c.cs, ?_⟩;exact .plain (.cons (.code UQ) (.cons .begin (.cons (.code UR) .nil))) UU
   ·simp at h
  ·simp at h
 |defer d=>
  obtain⟨j,g⟩:=m;simp only[jm]at h;cases ro with
  |some b=>simp at h|none=>
   simp only at h;refine .head (ab7 A L j) ?_;have UF:mC C Q fn ac (d::aP) none:=⟨λU6 ai=>by
    rcases Zq.1 ai with rfl|ai
    ·exact g
    ·exact c.eJ.aP U6 ai,c.eJ.ro,c.eJ.fn⟩
   exact qy (R:=undef) x ⟨c.K,c.gp,c.eK,c.f2,UF,c.bot,c.cs⟩ G s trivial h
 |recover=>
  simp only[jm]at h;cases ro with
  |some b=>simp at h|none=>
   simp only at h;split at h
   ·rename_i R b1 UM;obtain⟨UX,T1,T2,UB,UC⟩:=acQ (aP:=aP) (aQ:=.inRegion ae (i::l)::aQ) c.cs UM;refine .head (ach A L m UC) ?_;exact qy x ⟨c.K,c.gp,c.eK,c.f2,c.eJ,λe=>c.bot (UB e),T1⟩ G s T2 h
   ·simp at h
 |panic R=>
  obtain⟨j,g⟩:=m;simp only[jm]at h;cases ro with
  |some b=>simp at h|none=>simp only at h;refine .head (acg A L j) ?_;refine x _ _ _ _ _ _ _ _ _ _ _ _ v h F Q w aT tmps _ Y ?_;exact⟨c.K,c.gp,c.eK,c.f2,c.eJ,λp U1=>by simp at U1;subst U1;exact g,c.bot,c.cs,G.drop⟩
 |fork UP=>obtain⟨R,D,UJ,ai⟩:=m;simp only[jm]at h;obtain⟨UV,T1,T2⟩:=Qq UP v h R D UJ;exact .same T2 (done UV R D u ai T1)
def GR{I:Op}{d:Operand->Option z}{b:Nat}{R:z}{bU:S}{a:Nat->Prop}(h:jS I C d b=some (R,bU)):mH C a bU:=by
 have key:∀l:List z,mH C a (.cells (E.ofList l 0 .nil) l.length .own):=λl=>⟨λ_ _ _ h=>(by cases h),λ_ _ _ h=>(by cases h;exact s9)⟩;have c:mH C a (.map [] 0):=⟨λ_ _ _ h=>(by cases h),λ_ _ _ h=>(by cases h)⟩;cases I<;>simp only[jS]at h<;>(try(cases h;done));case alloc t=>unfold qV at h;split at h<;>simp at h;rw[<-h.2];exact key _
 case box t x=>unfold uM at h;split at h<;>simp at h;rw[<-h.2];exact key _
 case buildSlice t len e=>
  unfold uN at h;split at h
  ·split at h
   ·simp only[cO]at h;grind
   ·grind
  ·grind
 case makeMap t r=>cases r<;>simp at h;rw[<-h.2];exact c
def Pl{i:Nat}(ag:ae.toList.drop i=[]):ae.size<=i:=by simp_all
def Qa{ac:Nat}{ad:List (Nat×z)}:∀(l:List Oper) (i:Nat) (wr:List (Nat×Nat)) (b B a:E z),(∀t,dq ac t=true->B.get t=match cL wr t with|some j=>cL ad j|none=>b.get t)->
 nS ad (gK ac l i) B=some a->∀t,dq ac t=true->a.get t=match cL (oe l i wr) t with|some j=>cL ad j|none=>b.get t:=by
 intro l;induction l with
 |nil=>intro i wr b B a f h;simp[gK,nS]at h;subst h;exact f|cons I l U=>
  intro i wr b B a f h;simp only[gK]at h;split at h
  ·rename_i d ai;rw[cY]at h;split at h
   ·rename_i W;simp only[nS]at h;split at h
    ·rename_i R g;simp only[du]at h;refine U (i+1) _ b _ a (λt c=> ?_) h;rw[E.e0,sl,ai];grind
    ·grind
   ·rename_i W;refine U (i+1) _ b _ a (λt c=> ?_) h;rw[sl,ai];have e:d≠t:=λe=>W (by rw[e];exact c);simp[e];exact f t c
  ·rename_i ai;refine U (i+1) _ b _ a (λt c=> ?_) h;rw[sl,ai];simp;exact f t c
def FU{ad:List (Nat×z)}{B a:E z}(f:iQ F Q ac (λ_=>True) (e4 ae ae.size) ad B tmps)(c:tmps.size=n)(h:nS ad (gK ac ae.toList 0) B=some a):fy F Q n ac a tmps:=by
 refine⟨c,λt R b d=> ?_⟩;have:=Qa (ad:=ad) ae.toList 0 [] B B a (λ_ _=>rfl) h t b;rw[d]at this;apply f t R trivial;have e:e4 ae ae.size=oe ae.toList 0 []:=by unfold e4;rw[Zy Zs]
 grind
def H6(T4:Env C aS cv cw)(T6:h3 C aS a1 bg U){k:List co}{fin:List (Nat×Nat)}:∀(rest:List dd) (ad:List (Nat×z)) (q:E S) (u:Nat) (F:bX) (Q:Nat->Prop) (w:World) (tmps:Array Value) (l:List Nat) (Y:List Frame),
 fm C aS a1 bg fn ac aP ar ro cs q u F Q w aT Y->g3 C F Q ac k aQ->yA C F Q n ac ae ad rest fin B tmps l->
 pH rest ⟨U,ae,fin,k,⟨fn,n,ac,aP,ar,ro,cs⟩⟩ C B ad q u=some v->Ends C aS a1 bg v (lone (bD F fn aP ar ro tmps (.inRegion ae l::aQ) .run) Y w):=by
 intro rest;induction rest with
 |nil=>
  intro ad q u F Q w tmps l Y d s T3 h;obtain⟨i,ag,rfl,p,rfl,j,G⟩:=T3;have UM:ae.size<=i:=by cases ai:ae.toList.drop i with|nil=>exact Pl ai|cons I UF=>rw[ai]at p;obtain⟨_,_,r,_,_,_,_,_,e⟩:=yQ p;cases e
  have:i=ae.size:=Zo
  subst this;simp only[Nat.sub_self];have c:ud ⟨U,ae,gK ac ae.toList 0,k,⟨fn,n,ac,aP,ar,ro,cs⟩⟩ C B ad q u=some v:=h;simp only[ud,ws,mr]at c;split at c
  ·rename_i UK U7;refine .head Ih ?_;exact T6 _ _ _ _ _ _ _ _ _ _ _ _ v c F Q w aT tmps aQ Y (d.state (.plain s (FU j G U7)))
  ·simp at c
 |cons x rest P=>
  intro ad q u F Q w tmps l Y d s T3 h;obtain⟨i,ag,rfl,p,rfl,j,G⟩:=T3;cases ai:ae.toList.drop i with
  |nil=>rw[ai]at p;simp[k2]at p|cons I UF=>
   rw[ai]at p;obtain⟨g,op,r,bV,b0,T9,TY,X,e⟩:=yQ p;cases e;obtain⟨f,TZ,UL⟩:=Ad ai;rw[<-vm f, <-TZ]at X;have U9:List.range' i (ae.size-i)=i::List.range' (i+1) (ae.size-(i+1)):=(by rw[show ae.size-i=(ae.size-(i+1))+1 by omega,List.range'_succ]);rw[U9];have T5:=Fz T9;have O:∀(bY:bX) (b9:Nat->Prop) (R:z),iQ bY b9 ac (λ_=>True) (e4 ae i) ad B tmps->bs b9 R->yA C bY b9 n ac ae ((i,R)::ad) rest (gK ac ae.toList 0) B (ka tmps I.dst (aq bY R)) (List.range' (i+1) (ae.size-(i+1))):=(by intro bY b9 R UB U6;exact⟨i+1,Zo,rfl,X,rfl,UB.put f (by rw[G];exact T5) U6,by rw[xt];exact G⟩);have N:∀(bY:bX) (R:Value),(bD bY fn aP ar ro tmps (.inRegion ae (i::List.range' (i+1) (ae.size-(i+1)))::aQ) .run).finish R=bD bY fn aP ar ro (ka tmps I.dst R) (.inRegion ae (List.range' (i+1) (ae.size-(i+1)))::aQ) .run:=(by intro bY R;rw[wu (g:=bD bY fn aP ar ro tmps _ .run) rfl f];rfl);have c:ri i g op rest (pH rest) ⟨U,ae,gK ac ae.toList 0,k,⟨fn,n,ac,aP,ar,ro,cs⟩⟩ C B ad q u=some v:=h;simp only[ri,xU,mr]at c;split at c
   ·rename_i UJ UE;have L:=xY ag bV j (λ_ _ _ _ _=>trivial) (Sub.refl ad) UE;cases UJ with
    |false=>simp only[ZA]at c;refine .head (BT f L) ?_;rw[N];exact P _ _ _ _ _ _ _ _ _ d s (O F Q undef j trivial) c|true=>
     simp only[ZL]at c;have T1:=FL j (λ_ _=>trivial) TY d.eK;rw[xj]at c;cases iW:hF op with
     |eP=>
      simp only[iW,mr]at c;split at c
      ·rename_i R UA;obtain⟨aL,bt⟩:=GF d.K T1 b0 UA;refine .head (rC f L aL (.inl rfl)) ?_;rw[N];exact P _ _ _ _ _ _ _ _ _ d s (O F Q R j bt) c
      ·simp at c
     |make=>
      simp only[iW,mr]at c;split at c
      ·rename_i res t;simp only[wZ,gi]at t;split at t
       ·rename_i R bU T7;simp only[du,Zh]at t;subst t;have T2:=j7 d.K;obtain⟨ic,UG,UH,UI⟩:=GQ (w:=w) (F:=F) T2 T1 (w0 b0 T7);have m:eH C aT F Q q aS.heap.size w (dR F u ⟨w.heap.size,0,0⟩) (add Q u) (aH C q u (some bU)) (w.alloc ic):=
         ⟨ke T2,λ_ h=> .inl h,λx h=>h.elim .inl (λh=> .inr (zL d.f2)),λx m UN=>by rw[dm _ d.K.aB,Zi (zL d.f2)],Below.alloc (Below.refl _ _) d.cx _⟩
        have U8:=d.K.alloc d.K.aB (Yr _) (Yb _) T2 d.cx rfl (D:=aH C q u (some bU)) (by rw[dm _ d.K.aB,Zv rfl]) (λx m=> .inl (by rw[dm _ d.K.aB,Zi m])) UI (GR (w0 b0 T7));refine .head (rC f L UG (.inl rfl)) ?_;rw[N, <-s5 m.e2 d.eJ];exact P _ _ _ _ _ _ _ _ _ (d.ext U8 m (Yb _)) (s.M m.e2 m.fz) (O _ _ R (j.M m.e2 m.fz) UH) c
       ·simp at t
      ·simp at c
     |db=>
      simp only[iW,mr]at c;split at c
      ·rename_i res t;have T0:=Gd d.K d.cx T4.ge T1 b0 t;have UD:hw C F Q q aT u n ac B tmps (.lu ae ad i rest (gK ac ae.toList 0)::k) (.inRegion ae (i::List.range' (i+1) (ae.size-(i+1)))::aQ):=
        .seq s ⟨I,f,T5,rfl,X,rfl,j,G⟩
       have now:∀R D Z,oy C F Q q u aS.heap.size w (execOp (gR tmps) I) R D Z->pH rest ⟨U,ae,gK ac ae.toList 0,k,⟨fn,n,ac,aP,ar,ro,cs⟩⟩ C B ((i,R)::ad) D Z=some v->
        Ends C aS a1 bg v (lone (bD F fn aP ar ro tmps (.inRegion ae (i::List.range' (i+1) (ae.size-(i+1)))::aQ) .run) Y w):=by
        intro R D Z ai h;obtain⟨bY,b9,a2,T8,U0,U1,U2,U3,A,U4⟩:=ai;have UC:T8=.value (aq bY R)\/(T8=.skip/\aq bY R=Go.undef):=U1.imp id λ⟨a,b⟩=>⟨a,by rw[b];rfl⟩;refine .head (rC f L U0 UC) ?_;rw[N, <-s5 A.e2 d.eJ];exact P _ _ _ _ _ _ _ _ _ (d.ext U3 (A.mono d.f2) U4) (s.M A.e2 A.fz) (O _ _ R (j.M A.e2 A.fz) U2) h
       have U5:jm res U C (.lu ae ad i rest (gK ac ae.toList 0)) k ⟨fn,n,ac,aP,ar,ro,cs⟩ B q u=some v->Ends C aS a1 bg v (lone (bD F fn aP ar ro tmps (.inRegion ae (i::List.range' (i+1) (ae.size-(i+1)))::aQ) .run) Y w):=
        λh=>EJ T4 T6 d UD d.f2 (Zg _) f L T0 h
       cases res with|val R=>exact now R q u T0 c|cJ R D Z=>exact now R D Z T0 c|_=>exact U5 c
      ·simp at c
   ·simp at c
def O1{l:List Bool}(h:l.count false=0):∀b∈l,b=true:=by grind
def abt{ae:Array Oper}(x:re ae.toList 0=true):∀(fuel t:Nat) (a:Array Bool),a.size=ae.size->a.toList.count false=fuel->
 mJ ae (λi=>a.getD i false=true) (Region.linearise.go .any ae fuel t a []):=by
 intro fuel;induction fuel with
 |zero=>intro t a s k;refine .nil λi ag=> ?_;have c:i<a.size:=Zo;have:=O1 k a[i] Zs;simp_all|succ fuel U=>
  intro t a s k;have A:∃i,i<ae.size/\a.getD i true=false:=by have n:false∈a.toList:=(by rw[<-List.count_pos_iff];omega);obtain⟨i,ag⟩:=Z1.1 n;have c:i<a.size:=(by have:=(Ze.1 ag).1;simpa using this);refine⟨i,Zo, ?_⟩;rw[Z2]at ag;simp[ag]
  have L:∃i,i<ae.size/\a.getD i true=false/\∀j,j<i->a.getD j false=true:=by
   have key:∀m,(∃i,i<m/\i<ae.size/\a.getD i true=false)->∃i,i<ae.size/\a.getD i true=false/\∀j,j<i->a.getD j false=true:=by
    intro m;induction m with
    |zero=>rintro⟨i,h,_⟩;omega
    |succ m P=>
     rintro⟨i,f,b,g⟩;by_cases V:∃i,i<m/\i<ae.size/\a.getD i true=false
     ·exact P V
     ·have:i=m:=by
       rcases zt i m with h|h
       ·exact absurd ⟨i,h,b,g⟩ V
       ·omega
      subst this;refine⟨i,b,g,λj C=> ?_⟩;have c:j<a.size:=Zo;cases W:a[j]with
      |true=>simp[c,W]|false=>exact absurd ⟨j,C,Zo,by simp[c,W]⟩ V
   obtain⟨i,f,b⟩:=A;exact key (i+1) ⟨i,Zo,f,b⟩
  obtain⟨i0,r,O,w⟩:=L;have N:i0∈Region.ready .any ae a:=by rw[mem_ready];refine⟨O,ae[i0],Y3 r,λe l W=> ?_⟩;have:=TN x i0 ae[i0] (by rw[Z2];exact Y3 r) e (by simpa using l) W;exact w _ Zo
  change mJ ae _ (match (Region.ready .any ae a)[t%(Region.ready .any ae a).length]? with
   |some i=>Region.linearise.go .any ae fuel (t/(Region.ready .any ae a).length) (a.setIfInBounds i true) [i]|none=>[].reverse)
  have G:=List.length_pos_of_mem N;have c:t%(Region.ready .any ae a).length<(Region.ready .any ae a).length:=Nat.mod_lt _ G;rw[Zb c];simp only[];generalize ag:(Region.ready .any ae a)[t%(Region.ready .any ae a).length]=i;have n:i∈Region.ready .any ae a:=by rw[<-ag];exact YY c
  obtain⟨f,I,b,g⟩:=mem_ready.1 n;have X:=(Z7.1 b).1;have d:i<a.size:=Zo;have p:a[i]=false:=by simpa[d]using f
  rw[linearise_go_acc];refine .cons b (by simp[d,p]) (λe l W=>g e (by simpa using l) W) ?_;have v:add (λi=>a.getD i false=true) i=λj=>(a.setIfInBounds i true).getD j false=true:=by
   funext j;apply propext;unfold add;by_cases e:j=i
   ·subst e;simp[d]
   ·rw[getD_set_ne false (λV=>e V.symm)];simp[e]
  rw[v];refine U _ _ (by simpa using s) ?_;rw[Array.toList_setIfInBounds,List.count_set (by simpa using d)]
  have:(a.toList[i]'(by simpa using d))=false:=by simpa using p
  simp[this,k]
def abu{ae:Array Oper}(a:re ae.toList 0=true)(t:Nat):mJ ae (λ_=>False) (Region.schedule true ae t):=by
 have:=abt a ae.size t (Array.replicate ae.size false) Zs Zs;have e:(λi=>(Array.replicate ae.size false).getD i false=true)=λ_=>False:=by funext i;by_cases h:i<ae.size<;>simp[h]
 rw[e]at this;exact this
def Ry{op:fT}(b:hF op=.eP)(a:pG op=false)(q D:E S)(ad:List (Nat×z))(B:E z):d6 op C q ad B=d6 op C D ad B:=by cases op<;>simp only[d6]<;>(try rfl)<;>simp[pG]at a;case eP bk I=>cases I<;>simp[pG]at a<;>rfl
def ji.refl(q:E S):ji C q q:=λ_=> .inl rfl
def ji.trans{au am a:E S}(h:ji C au am)(k:ji C am a):ji C au a:=λx=>by
 rcases h x with h|h
 ·rcases k x with k|k
  ·grind
  ·grind
 ·grind
def GC(q:E S):ji C .nil q:=by
 intro b;unfold H;rw[cY,cY];split
 ·grind
 ·simp_all
def Pa{base:Nat}(U2:C.aB<=base):∀(l:List dd) (ad:List (Nat×z)) (q:E S) (c:List (Nat×z)) (D:E S),(l.Pairwise λa b=>a.i≠b.i)->(∀x∈l,cL ad x.i=none/\H C q (base+x.i)=none/\h9 x.op=false)->
 nK C base B l ad q=some (c,D)->Sub ad c/\ji C q D/\(∀i,cL c i≠none->cL ad i≠none\/∃x∈l,x.i=i)/\(∀b,H C D b≠H C q b->∃x∈l,b=base+x.i)/\
 ∀x∈l,∃R,(∀Q,vy C Q D base c B x R)/\tG C D c B x R:=by
 intro l;induction l with
 |nil=>intro ad q c D _ _ h;obtain⟨rfl,rfl⟩:=h;exact⟨Sub.refl _,ji.refl _,λi h=> .inl h,λb h=>absurd rfl h,Zs⟩
 |cons x l U=>
  intro ad q c D L G h;rw[Yc]at L;obtain⟨N,T8⟩:=L;obtain⟨p,s,t⟩:=G x (Zr ..);have step:∀(R:z) (au:E S),ji C q au->(∀b,H C au b≠H C q b->b=base+x.i)->nK C base B l ((x.i,R)::ad) au=some (c,D)->
   (∀c D,Sub ((x.i,R)::ad) c->ji C au D->(H C au (base+x.i)≠none->H C D (base+x.i)=H C au (base+x.i))->(∀Q,vy C Q D base c B x R)/\tG C D c B x R)->
   Sub ad c/\ji C q D/\(∀i,cL c i≠none->cL ad i≠none\/∃d∈x::l,d.i=i)/\(∀b,H C D b≠H C q b->∃d∈x::l,b=base+d.i)/\∀d∈x::l,∃R,(∀Q,vy C Q D base c B d R)/\tG C D c B d R:=by
   intro R au T4 A ai TZ;have TY:Sub ad ((x.i,R)::ad):=Sub.cons p;have T2:∀d∈l,cL ((x.i,R)::ad) d.i=none/\H C au (base+d.i)=none/\h9 d.op=false:=by
    intro d hR;obtain⟨X,T0,T1⟩:=G d (Zw _ hR);have T6:=N d hR;refine⟨by rw[kr,Zi T6];exact X, ?_,T1⟩;by_cases V:H C au (base+d.i)=H C q (base+d.i)
    ·rw[V];exact T0
    ·have:=A _ V;omega
   obtain⟨a7,bl,U0,P,U1⟩:=U _ _ _ _ T8 T2 ai;have n:H C D (base+x.i)=H C au (base+x.i):=by
    by_cases V:H C D (base+x.i)=H C au (base+x.i)
    ·exact V
    ·obtain⟨d,hR,e⟩:=P _ V;exact absurd Zo (N d hR)
   refine⟨TY.trans a7,T4.trans bl,λi ag=> ?_,λb W=> ?_,λd hR=> ?_⟩
   ·rcases U0 i ag with j|⟨d,j,v⟩
    ·rw[kr]at j;split at j
     ·rename_i e;exact .inr ⟨x,Zr ..,e⟩
     ·exact .inl j
    ·exact .inr ⟨d,Zw _ j,v⟩
   ·by_cases V:H C D b=H C au b
    ·rw[V]at W;exact⟨x,Zr ..,A b W⟩
    ·obtain⟨d,j,v⟩:=P b V;exact⟨d,Zw _ j,v⟩
   ·rcases Zq.1 hR with rfl|hR
    ·exact⟨R,TZ c D a7 bl (λ_=>n)⟩
    ·exact U1 d hR
  have n:∀(R:z) (c:List (Nat×z)),Sub ((x.i,R)::ad) c->cL c x.i=some R:=λR c f=>f _ _ (by rw[kr,Zv rfl]);simp only[nK]at h;split at h
  ·simp at h
  ·rename_i m;refine step undef q (ji.refl _) (λb W=>absurd rfl W) h λc D f r _=> ?_;have g:=(Sub.cons p).trans f;exact⟨λQ=>⟨n _ _ f,ad,false,g,m,λ_=>rfl,Zs⟩,ad,.nil,false,g,GC _,m,Zs⟩
  ·rename_i m;cases k:hF x.op with
   |make=>
    rw[k]at h;simp only at h;split at h
    ·rename_i R bU T5;simp only[du]at h;have W:C.aB<=base+x.i:=Zo;refine step R _ (λb=> ?_) (λb w=> ?_) h λc D f r T3=> ?_
     ·rw[dm _ W];by_cases e:b=base+x.i
      ·subst e;exact .inr s
      ·rw[Zi e];exact .inl rfl
     ·rw[dm _ W]at w;by_cases e:b=base+x.i
      ·exact e
      ·rw[Zi e]at w;exact absurd rfl w
     ·have g:=(Sub.cons p).trans f;have T7:H C D (base+x.i)=some bU:=(by rw[T3 (by rw[dm _ W,Zv rfl];simp),dm _ W,Zv rfl]);exact⟨λQ=>⟨n _ _ f,ad,true,g,m,Zs,λ_=>⟨t,λ_=>⟨bU,T5,T7⟩,λV=>by rw[k]at V;cases V⟩⟩,ad,q,true,g,
       (by
        intro b;rcases r b with V|V
        ·rw[dm _ W]at V;by_cases e:b=base+x.i
         ·subst e;exact .inr s
         ·rw[Zi e]at V;exact .inl V
        ·rw[dm _ W]at V;by_cases e:b=base+x.i
         ·subst e;exact .inr s
         ·rw[Zi e]at V;exact .inr V),m,λ_ V=>by rw[k]at V;cases V⟩
    ·simp at h
   |eP=>
    rw[k]at h;simp only at h;split at h
    ·rename_i R O;refine step R q (ji.refl _) (λb W=>absurd rfl W) h λc D f r _=> ?_;have g:=(Sub.cons p).trans f;exact⟨λQ=>⟨n _ _ f,ad,true,g,m,Zs,λ_=>⟨t,λV=>(by rw[k]at V;cases V),λ_ T9 et=>by rw[Ry k T9 et q];exact O⟩⟩,ad,q,true,g,r,m,λ_ _=>O⟩
    ·simp at h
   |db=>simp[h9,k]at t
end
end Go.aF
