/- Part of the last text; no conditions -/
import Derived.Test.YtehmapikajmjaaaGreatDoorYc
import Derived.Defers
import Derived.RangeFuncRecord
import Derived.Orders
set_option maxHeartbeats 8000000
set_option linter.all false
namespace Go.aC
def oV(m i:Nat):dj m i=m.testBit i:=by unfold dj;rw[Nat.testBit_eq_decide_div_mod_eq,Yg,Zf];exact⟨Zr,λe=>by rw[show Nat.mod (Nat.div m (Nat.pow 2 i)) 2=1 from e];rfl⟩
def vQ(i:Nat):dj 0 i=false:=by rw[oV];simp
def sk(a b i:Nat):dj (Nat.lor a b) i=(dj a i||dj b i):=by rw[oV,oV,oV];exact Nat.testBit_or a b i
def vP(t i:Nat):dj (Nat.pow 2 t) i=decide (t=i):=by rw[oV];exact Nat.testBit_two_pow
def Ok(a b i:Nat):dj (Nat.land a b) i=(dj a i&&dj b i):=by rw[oV,oV,oV];exact Nat.testBit_and a b i
def TX{J:Operand}{m t:Nat}:dj (s8 J m) t=true↔J=.tmp t\/dj m t=true:=by cases J with|tmp M=>show dj (Nat.lor m (Nat.pow 2 M)) t=true↔_;rw[sk,vP];grind|_=>simp[s8]
def δ{t:Nat}:∀{l:List Operand},dj (s9 l) t=true↔Operand.tmp t∈l:=by intro l;induction l with|nil=>simp[s9,vQ]|cons a l U=>show dj (s8 a (s9 l)) t=true↔_;rw[TX,U];grind
def Pl{J:Oper}{t:Nat}:dj (ua J) t=true↔J.dst=some t:=by unfold ua;cases J.dst with|none=>simp[vQ]|some d=>rw[vP];simp
structure vv(C:ai)(n ac:Nat)(ae:Array Oper)(x:de)(J:Oper):Prop where
 oper:ae[x.i]? =some J
 g:tV (e0 ae x.i) J.guard=some x.g
 op:gY C (e0 ae x.i) J.op=some x.op
 dst:∀d,J.dst=some d->d<n
 reads:ri C ac (e0 ae x.i) J.op.operands.toList=true
def yC{C:ai}{n ac i:Nat}{J:Oper}{l:List Oper}{wr:List (Nat×Nat)}{cs:List de}(e:k1 C n ac (J::l) i wr=some cs):
 ∃g op r,tV wr J.guard=some g/\gY C wr J.op=some op/\v6 n J=true/\ri C ac wr J.op.operands.toList=true/\k1 C n ac l (i+1) (nH J i wr)=some r/\cs=⟨i,g,op⟩::r:=by
 simp only[k1,gQ]at e;split at e
 ·rename_i g op a b;simp only[cL,Zt]at e;grind
 ·grind
def Fl{n:Nat}{J:Oper}(e:v6 n J=true):∀d,J.dst=some d->d<n:=by intro d al;unfold v6 at e;simp_all
def yX{ae:Array Oper}{i:Nat}{J:Oper}{l:List Oper}(e:ae.toList.drop i=J::l):ae[i]? =some J/\ae.toList.drop (i+1)=l/\i<ae.size:=by
 have a:(ae.toList.drop i)[0]? =some J:=by grind
 refine⟨by simpa using a, ?_, ?_⟩
 ·have:(ae.toList.drop i).drop 1=l:=by rw[e];rfl
  rw[zC]at this;grind
 ·grind
def Ov{C:ai}{n ac:Nat}{ae:Array Oper}:∀(l:List Oper) (i:Nat) (cs:List de),ae.toList.drop i=l->k1 C n ac l i (e0 ae i)=some cs->
 cs.length=l.length/\∀E x,cs[E]? =some x->x.i=i+E/\∃J,vv C n ac ae x J:=by
 intro l;induction l with|nil=>intro i cs _ e;simp[k1]at e;subst e;simp|cons J l U=>intro i cs al e;obtain⟨g,op,r,f,m,p,s,b,rfl⟩:=yC e;obtain⟨a,d,t⟩:=yX al;rw[<-vf a]at b;obtain⟨a7,bl⟩:=U (i+1) r d b;refine⟨by simp[a7],λE x c=> ?_⟩;cases E with|zero=>simp at c;subst c;exact⟨rfl,J,a,f,m,Fl p,s⟩|succ E=>grind
def Pr{c:List (Nat×Nat)}:∀(l:List Edge) (a:Nat),dj (l.foldr (qq c) 0) a=true->∃u∈l,Region.binds .any u=true/\(a=u.on\/∃b,cH c u.on=some b/\dj b a=true):=by
 intro l;induction l with
 |nil=>intro a e;simp[vQ]at e|cons u l U=>
  intro a e;simp only[List.foldr_cons]at e;have hD:dj (l.foldr (qq c) 0) a=true->∃d∈u::l,Region.binds .any d=true/\(a=d.on\/∃b,cH c d.on=some b/\dj b a=true):=λe=>by grind
  unfold qq at e;rw[c3]at e;split at e
  ·exact hD e
  ·rw[c3]at e;split at e
   ·rename_i T;split at e
    ·rename_i q f;rw[sk,sk,vP]at e;simp only[Y4,Zf]at e;rcases e with (e|e)|e
     ·exact hD e
     ·grind
     ·grind
    ·exact hD e
   ·exact hD e
structure sc(ae:Array Oper)(p:dN)(J:Oper):Prop where
 oper:ae[p.i]? =some J
 r:p.r=Nat.lor (s9 J.op.operands.toList) (wy (e0 ae p.i) J.guard)
 w:p.w=ua J
def GS{ae:Array Oper}:∀(l:List Oper) (i:Nat) (b:List (Nat×Nat)),ae.toList.drop i=l->(∀E m,cH b E=some m->E<i)->
 (pu l i (e0 ae i) b).length=l.length/\(∀E p,(pu l i (e0 ae i) b)[E]? =some p->p.i=i+E/\∃J,sc ae p J)/\
 ∀(aK:Nat->Nat->Prop),(∀E m,cH b E=some m->aK E m)->(∀E J m,ae[E]? =some J->i<=E->(∀a,dj m a=true->∃u∈J.after.toList,Region.binds .any u=true/\(a=u.on\/∃d,aK u.on d/\dj d a=true))->aK E m)->
  ∀p∈pu l i (e0 ae i) b,aK p.i p.m:=by
 intro l;induction l with
 |nil=>intro i b _ _;simp[pu]|cons J l U=>
  intro i b al G;obtain⟨f,v,O⟩:=yX al;simp only[pu,gQ];rw[<-vf f];have L:∀E m,cH ((i,J.after.toList.foldr (qq b) 0)::b) E=some m->E<i+1:=by
   intro E m e;rw[kq]at e;split at e
   ·omega
   ·have:=G E m e;omega
  obtain⟨a7,bl,N⟩:=U (i+1) ((i,J.after.toList.foldr (qq b) 0)::b) v L;refine⟨by simp only[ZI,a7],λE p c=> ?_,λaK s t p c=> ?_⟩
  ·cases E with|zero=>simp only[Yk,Zh]at c;subst c;exact⟨rfl,J,f,rfl,rfl⟩|succ E=>obtain⟨u,C⟩:=bl E p c;exact⟨Zo,C⟩
  ·have af:aK i (J.after.toList.foldr (qq b) 0):=(by refine t i J _ f (Zg _) λa A=> ?_;obtain⟨u,g,r,n⟩:=Pr _ a A;refine⟨u,g,r,n.imp id ?_⟩;rintro⟨d,w,x⟩;exact⟨d,s _ _ w,x⟩);rcases Zq.1 c with rfl|c
   ·exact af
   ·refine N aK (λE m e=> ?_) (λE J m g r n=>t E J m g Zo n) p c;rw[kq]at e;split at e
    ·rename_i u;subst u;cases e;exact af
    ·exact s E m e
def TM{a:dN}:∀{l:List dN},w4 a l=true->∀b∈l,w3 a b=true:=by intro l;induction l with|nil=>grind|cons c l U=>intro e b T;simp only[w4,Zt]at e;grind
def TK:∀{l:List dN},uX l=true->∀(E i:Nat) a b,E<i->l[E]? =some a->l[i]? =some b->w3 a b=true:=by intro l;induction l with|nil=>grind|cons c l U=>intro e E i a b f d T;simp only[uX,Zt]at e;obtain⟨i,rfl⟩:∃q,i=q+1:=⟨i-1,Zo⟩;cases E with|zero=>simp at d;subst d;exact TM e.1 b (Zl T)|succ E=>grind
def TH:∀{l:List Oper}{i:Nat},rh l i=true->∀E J,l[E]? =some J->∀u∈J.after.toList,Region.binds .any u=true->u.on<i+E:=by intro l;induction l with|nil=>grind|cons a l U=>intro i e E J b u c T;simp only[rh,Zt]at e;cases E with|zero=>simp at b;subst b;have:=zt.1 e.1 u c;simp_all|succ E=>grind
def Q5:∀{l:List dN},uu l=true->∀(p:Nat) a b,l[p]? =some a->l[p+1]? =some b->dj b.m a.i=true:=by intro l;induction l with|nil=>grind|cons c l U=>intro e p a b d T;simp only[uu,Zt]at e;cases p with|zero=>grind|succ p=>grind
def Q4:∀(b2:List dN) (cs:List de),sH b2 cs=(b2.zip cs).filter λx=>h6 x.2.op:=by intro b2;induction b2 with|nil=>intro cs;rfl|cons p b2 U=>intro cs;cases cs with|nil=>rfl|cons c cs=>simp only[sH,List.zip_cons_cons,YR,c3,U]
def Su(a:List dN):∀(b2:List dN) (cs:List de),sS a b2 cs=((b2.zip cs).filter λx=> !h6 x.2.op).map λx=>⟨x.2,l5 x.1.m a,pe x.1.i a⟩:=by intro b2;induction b2 with|nil=>intro cs;rfl|cons p b2 U=>intro cs;cases cs with|nil=>rfl|cons c cs=>simp only[sS,List.zip_cons_cons,YR,U];cases h6 c.op<;>simp
def wp:∀l:List (dN×de),jU l=l.map (·.1):=by intro l;induction l with|nil=>rfl|cons a l U=>simp[jU,U]
def OY(m:Nat):∀(a:List dN) (q:Nat),(∀p e,a[p]? =some e->q<=p->dj m e.i=false)->l5 m a<=q:=by intro a;induction a with|nil=>intro q _;simp[l5]|cons e a U=>intro q c;simp only[l5,c3];cases q with|zero=>have:=c 0 e rfl (Zg _);rw[this];have:=U 0 (λp b d _=>c (p+1) b (by simpa using d) Zo);grind|succ q=>have:=U q (λp b d f=>c (p+1) b (by simpa using d) Zo);grind
def Rc(i:Nat):∀(a:List dN) (q:Nat),q<=a.length->(∀p e,a[p]? =some e->p<q->dj e.m i=false)->q<=pe i a:=by intro a;induction a with|nil=>grind|cons e a U=>intro q f b;cases q with|zero=>omega|succ q=>have d:=b 0 e rfl Zo;simp only[pe,d,ge];have:=U q (by simpa using f) (λp c g l=>b (p+1) c (by simpa using g) Zo);omega
open Go.RowKit (Below)
def j6(tmps:Array Value)(dst:Option Nat)(v:Value):Array Value:=match dst with|some d=>tmps.setIfInBounds d v|none=>tmps
def xh(tmps:Array Value)(dst:Option Nat)(v:Value):(j6 tmps dst v).size=tmps.size:=by cases dst<;>simp[j6]
def HN(tmps:Array Value)(dst:Option Nat)(v:Value)(t:Nat)(e:∀d,dst=some d->d<tmps.size):(j6 tmps dst v)[t]? =if dst=some t then some v else tmps[t]? :=by cases dst with|none=>rfl|some d=>have:=e d rfl;simp only[j6];grind
def Sub(ad a:List (Nat×y)):Prop:=∀E M,cH ad E=some M->cH a E=some M
def Sub.refl(ad:List (Nat×y)):Sub ad ad:=λ_ _ e=>e
def Sub.trans{a b c:List (Nat×y)}(e:Sub a b)(q:Sub b c):Sub a c:=λE M d=>q E M (e E M d)
def Sub.cons{ad:List (Nat×y)}{i:Nat}{v:y}(e:cH ad i=none):Sub ad ((i,v)::ad):=λE M a=>by
 rw[kq,Zi]
 ·grind
 ·grind
def jj(C:ai)(j S':B R):Prop:=∀x,F C j x=F C S' x\/F C j x=none
inductive mM(ae:Array Oper):(Nat->Prop)->List Nat->Prop
 |nil {a}:(∀i,i<ae.size->a i)->mM ae a []|cons {a i J l}:ae[i]? =some J->¬a i->(∀u∈J.after.toList,Region.binds .any u=true->a u.on)->mM ae (add a i) l->mM ae a (i::l)
noncomputable def mV(C:ai)(n ac:Nat)(ae:Array Oper):List de:=(k1 C n ac ae.toList 0 []).getD []
noncomputable def iT(ae:Array Oper):List dN:=pu ae.toList 0 [] []
noncomputable def ef(C:ai)(n ac:Nat)(ae:Array Oper):List (dN×de):=sH (iT ae) (mV C n ac ae)
noncomputable def hd(C:ai)(n ac:Nat)(ae:Array Oper):List jk:=sS (jU (ef C n ac ae)) (iT ae) (mV C n ac ae)
structure ji(C:ai)(n ac:Nat)(ae:Array Oper):Prop where
 OI:k1 C n ac ae.toList 0 []=some (mV C n ac ae)
 a:rh ae.toList 0=true
 π:uX (iT ae)=true
 chain:uu (jU (ef C n ac ae))=true
section
variable{C:ai}{n ac:Nat}{ae:Array Oper}
def yU(e:ji C n ac ae):(mV C n ac ae).length=ae.size/\∀E x,(mV C n ac ae)[E]? =some x->x.i=E/\∃J,vv C n ac ae x J:=by have a:=e.OI;have:=Ov (ae:=ae) ae.toList 0 _ Zs (by rw[BQ];exact a);grind
def t7(ae:Array Oper):(iT ae).length=ae.size/\(∀E p,(iT ae)[E]? =some p->p.i=E/\∃J,sc ae p J):=by have:=GS (ae:=ae) ae.toList 0 [] Zs Zs;rw[BQ]at this;exact⟨by unfold iT;simpa using this.1,λE p a=>by simpa using this.2.1 E p a⟩
noncomputable def ks(C:ai)(n ac:Nat)(ae:Array Oper):List (dN×de):=(iT ae).zip (mV C n ac ae)
def nT(e:ji C n ac ae)(i:Nat)(af:i<ae.size):∃p x J,(ks C n ac ae)[i]? =some (p,x)/\(iT ae)[i]? =some p/\p.i=i/\x.i=i/\vv C n ac ae x J/\sc ae p J:=by
 obtain⟨aL,bs⟩:=yU e;obtain⟨bb,bn⟩:=t7 ae;have d:(mV C n ac ae)[i]? =some ((mV C n ac ae)[i]'Zo):=Zb _;have b:(iT ae)[i]? =some ((iT ae)[i]'Zo):=Zb _;obtain⟨bS,J,bU⟩:=bs _ _ d;obtain⟨c,dH,a⟩:=bn _ _ b;have:dH=J:=by have f:=bU.oper;have g:=a.oper;grind
 subst this;refine⟨_,_,dH, ?_,b,c,bS,bU,a⟩;unfold ks;grind
def nU(e:ji C n ac ae){h:dN×de}(b:h∈ks C n ac ae):∃J,h.1.i<ae.size/\h.2.i=h.1.i/\(ks C n ac ae)[h.1.i]? =some h/\(iT ae)[h.1.i]? =some h.1/\vv C n ac ae h.2 J/\sc ae h.1 J:=by
 obtain⟨E,m⟩:=Z4.1 b;have r:(ks C n ac ae).length=ae.size:=by unfold ks;rw[List.length_zip,(yU e).1,(t7 ae).1,Nat.min_self]
 have a:E<ae.size:=by grind
 obtain⟨p,x,J,c,d,f,g,i,l⟩:=nT e E a;grind
def vW:ef C n ac ae=(ks C n ac ae).filter λ(x:dN×de)=>h6 x.2.op:=Q4 _ _
def vY:hd C n ac ae=((ks C n ac ae).filter λ(x:dN×de)=> !h6 x.2.op).map λ(x:dN×de)=>⟨x.2,l5 x.1.m (jU (ef C n ac ae)),pe x.1.i (jU (ef C n ac ae))⟩:=Su _ _ _
def v1{l:jk}(a:l∈hd C n ac ae):∃p,(p,l.x)∈ks C n ac ae/\h6 l.x.op=false/\l.aW=l5 p.m (jU (ef C n ac ae))/\l.af=pe p.i (jU (ef C n ac ae)):=by rw[vY]at a;grind
def vX{h:dN×de}(a:h∈ef C n ac ae):h∈ks C n ac ae/\h6 h.2.op=true:=by rw[vW]at a;grind
def Fh(e:ji C n ac ae)(i:Nat)(af:i<ae.size):(∃l∈hd C n ac ae,l.x.i=i)\/(∃(p:Nat) (h:dN×de),(ef C n ac ae)[p]? =some h/\h.1.i=i):=by
 obtain⟨p,x,J,c,f,g,d,m,r⟩:=nT e i af;have b:=Zl c;cases a:h6 x.op with
 |true=>
  refine .inr ?_;have:(p,x)∈ef C n ac ae:=by rw[vW];exact Yb.2 ⟨b,a⟩
  obtain⟨V,s⟩:=Z4.1 this;grind
 |false=>refine .inl ⟨_,by rw[vY];exact ZB.2 ⟨(p,x),Yb.2 ⟨b,by simp[a]⟩,rfl⟩,d⟩
def Fg(e:ji C n ac ae):(ks C n ac ae).Pairwise λa b=>a.1.i<b.1.i:=by
 rw[Y3];intro i E af s r;have t:(ks C n ac ae).length=ae.size:=by unfold ks;rw[List.length_zip,(yU e).1,(t7 ae).1,Nat.min_self]
 obtain⟨p,x,J,c,f,l,_⟩:=nT e i Zo;obtain⟨v,w,dH,d,g,m,_⟩:=nT e E Zo;grind
def Ff(e:ji C n ac ae){p V:Nat}{h aw:dN×de}(f:(ef C n ac ae)[p]? =some h)(g:(ef C n ac ae)[V]? =some aw)(d:h.1.i=aw.1.i):p=V:=by
 have c:(ef C n ac ae).Pairwise λa b=>a.1.i<b.1.i:=by rw[vW];exact(Fg e).filter _
 rw[Y3]at c;grind
def yV(e:ji C n ac ae):(hd C n ac ae).Pairwise λa b=>a.x.i<b.x.i:=by rw[vY,List.pairwise_map];have c:((ks C n ac ae).filter λ(x:dN×de)=> !h6 x.2.op).Pairwise λa b=>a.1.i<b.1.i:=(Fg e).filter _;refine c.imp_of_mem λ{a b} d T i=> ?_;obtain⟨_,_,f,_⟩:=nU e (Yb.1 d).1;obtain⟨_,_,g,_⟩:=nU e (Yb.1 T).1;grind
def vZ(e:ji C n ac ae){l:jk}(a:l∈hd C n ac ae):l.x.i<ae.size:=by obtain⟨p,b,_⟩:=v1 a;obtain⟨_,c,d,_⟩:=nU e b;grind
def Pc(e:ji C n ac ae){h:dN×de}(a:h∈ef C n ac ae):h.1.i<ae.size/\h.2.i=h.1.i:=by obtain⟨_,b,c,_⟩:=nU e (vX a).1;grind
def pS(ae:Array Oper)(a:Nat->Prop):Prop:=∀i J,ae[i]? =some J->a i->∀u∈J.after.toList,Region.binds .any u=true->a u.on
def t8{b:Nat->Prop}(t:pS ae b){p:dN}(N:p∈iT ae){J:Oper}(L:ae[p.i]? =some J)
 (d:∀u∈J.after.toList,Region.binds .any u=true->b u.on):∀a,dj p.m a=true->b a:=by
 have key:=(GS (ae:=ae) ae.toList 0 [] Zs Zs).2.2 (λi m=>(∀J,ae[i]? =some J->∀u∈J.after.toList,Region.binds .any u=true->b u.on)->∀a,dj m a=true->b a) Zs
  (λE J m C _ G d a v=>by
   obtain⟨u,g,l,n⟩:=G a v;have x:=d J C u g l;rcases n with rfl|⟨O,r,s⟩
   ·grind
   ·exact r (λdH c f A w=>t u.on dH c x f A w) a s)
 exact key p N (λdH c=>by rw[L]at c;cases c;exact d)
structure vr(C:ai)(Q:Nat->Prop)(j:B R)(base:Nat)(ad:List (Nat×y))(z:B y)(x:de)(M:y):Prop where
 key:cH ad x.i=some M
 ok:∃a b,Sub a ad/\jI x.g a=some b/\(b=false->M=undef)/\(b=true->(h6 x.op=false)/\
  (hz x.op=.make->∃bQ,iD x.op C (base+x.i) a z=some (M,bQ)/\F C j (base+x.i)=some bQ)/\
  (hz x.op=.eP->pG x.op=false->∀en,eb x.op C en a z=some M))
def tE(C:ai)(j:B R)(ad:List (Nat×y))(z:B y)(x:de)(M:y):Prop:=
 ∃a en b,Sub a ad/\jj C en j/\jI x.g a=some b/\(b=true->hz x.op=.eP->eb x.op C en a z=some M)
def oD(D:bT)(Q:Nat->Prop)(ac:Nat)(ae:Array Oper)(a:Nat->Prop)(ad:List (Nat×y))(z:B y)(tmps:Array Value):Prop:=
 ∀t v,((∃E,a E/\k2 ae E=some t/\(∀b,a b->k2 ae b=some t->b<=E)/\cH ad E=some v)\/((∀E,a E->k2 ae E≠some t)/\dj ac t=true/\z.get t=some v))->
  tmps[t]? =some (aq D v)/\bp Q v
structure kj(C:ai)(D:bT)(Q:Nat->Prop)(j:B R)(base n ac:Nat)(ae:Array Oper)(ad:List (Nat×y))(q m:Nat)(z:B y)(tmps:Array Value)(a:Nat->Prop):Prop where
 st:ji C n ac ae
 size:tmps.size=n
 wG:q<=(ef C n ac ae).length
 bu:C.aD<=base
 closed:pS ae a
 m4:∀i,a i->i<ae.size
 done:∀p e,(ef C n ac ae)[p]? =some e->(a e.1.i↔p<q)
 lK:∀l∈hd C n ac ae,a l.x.i->l.aW<m
 keys:∀i M,cH ad i=some M->(∃l∈hd C n ac ae,l.x.i=i/\l.aW<m)\/(∃p e,(ef C n ac ae)[p]? =some e/\e.1.i=i/\p<q)
 mg:∀p e,(ef C n ac ae)[p]? =some e->p<q->∃M,cH ad e.1.i=some M
 ahead:∀l∈hd C n ac ae,l.aW<m->∃M,cH ad l.x.i=some M/\(¬a l.x.i->vr C Q j base ad z l.x M)
 qo:oD D Q ac ae a ad z tmps
 ids:∀i,i<ae.size->Q (base+i)->a i
 free:∀i,i<ae.size->cH ad i=none->F C j (base+i)=none
variable{D bZ:bT}{Q b9:Nat->Prop}{j S':B R}{k W aN:Nat}{w a6:World}
def iS.K{ac:Nat}{X:Nat->Prop}{wr:List (Nat×Nat)}{ad:List (Nat×y)}{z:B y}{tmps:Array Value}(i:∀b,Q b->bZ b=D b)(d:∀b,Q b->b9 b)(e:iS D Q ac X wr ad z tmps):iS bZ b9 ac X wr ad z tmps:=
 λt v g f=>by obtain⟨c,a⟩:=e t v g f;exact⟨by rw[c,jQ i a],iV d v a⟩
def oD.K{ac:Nat}{ae:Array Oper}{a:Nat->Prop}{ad:List (Nat×y)}{z:B y}{tmps:Array Value}(i:∀b,Q b->bZ b=D b)(f:∀b,Q b->b9 b)(e:oD D Q ac ae a ad z tmps):oD bZ b9 ac ae a ad z tmps:=
 λt v g=>by obtain⟨d,c⟩:=e t v g;exact⟨by rw[d,jQ i c],iV f v c⟩
def kT.K(l:∀b,Q b->bZ b=D b)(i:∀b,Q b->b9 b)(e:kT C D Q):kT C bZ b9:=λg a=>by obtain⟨c,d,f⟩:=e g a;grind
def kj.K{bP base n ac q m:Nat}{ae:Array Oper}{ad:List (Nat×y)}{z:B y}{tmps:Array Value}{g:Nat->Prop}(d:eF C bP D Q j aN w bZ b9 S' a6)(TY:base+ae.size<=bP)
 (e:kj C D Q j base n ac ae ad q m z tmps g):kj C bZ b9 S' base n ac ae ad q m z tmps g:=by
 have T5:=λi af al=>(d.new _ al).elim (e.ids i af) (λV=>Zo);refine⟨e.st,e.size,e.wG,e.bu,e.closed,e.m4,e.done,e.lK,e.keys,e.mg, ?_,e.qo.K d.eZ d.fv,T5, ?_⟩
 ·intro l r T7;obtain⟨M,G,O⟩:=e.ahead l r T7;refine⟨M,G,λa=> ?_⟩;obtain⟨P,A,b,X,T0,T1,T2⟩:=O a;refine⟨P,A,b,X,T0,T1,λT=> ?_⟩;obtain⟨T3,T4,L⟩:=T2 T;refine⟨T3,λT6=> ?_,L⟩;obtain⟨bQ,N,T9⟩:=T4 T6;refine⟨bQ,N, ?_⟩;have T8:=vZ e.st r;rw[d.K _ (λal=>a (e.ids _ T8 al)) Zo];grind
 ·intro i af f;rw[d.K _ ?_ Zo]
  ·exact e.free i af f
  ·intro al;have a:=e.ids i af al;rcases Fh e.st i af with ⟨l,s,t⟩|⟨p,h,v,x⟩
   ·obtain⟨M,c,_⟩:=e.ahead l s (e.lK l s (by rw[t];exact a));rw[t,f]at c;cases c
   ·obtain⟨M,c⟩:=e.mg p h v ((e.done p h v).1 (by rw[x];exact a));rw[x,f]at c;cases c
def Gl{a b t:Nat}(c:dj a t=true)(d:dj b t=true):Nat.beq (Nat.land a b) 0=false:=by cases e:Nat.beq (Nat.land a b) 0 with|false=>rfl|true=>have u:=Zr e;have:=Ok a b t;rw[u,vQ,c,d]at this;grind
def xe{p:dN}{J:Oper}(e:sc ae p J){t:Nat}(al:J.dst=some t):dj p.w t=true:=by rw[e.w];exact Pl.2 al
def aap{p:dN}{J:Oper}(e:sc ae p J){t:Nat}(I:Operand.tmp t∈J.op.operands.toList):dj p.r t=true:=by rw[e.r,sk,δ.2 I];rfl
def yM(e:ji C n ac ae){i E:Nat}{p V:dN}(g:i<E)(c:(iT ae)[i]? =some p)(m:(iT ae)[E]? =some V){t:Nat}
 (f:(dj p.w t=true/\(dj V.r t=true\/dj V.w t=true))\/(dj V.w t=true/\dj p.r t=true)):dj V.m i=true:=by
 have:=TK e.π i E p V g c m;have l:=((t7 ae).2 i p c).1;unfold w3 at this;rw[l]at this;rcases f with ⟨b,a⟩|⟨b,a⟩
 ·have d:dj (Nat.lor V.r V.w) t=true:=by rw[sk];rcases a with a|a<;>simp[a]
  rw[Gl b d]at this;grind
 ·rw[Gl b a]at this;grind
def wS{i:Nat}{p:dN}(a:(iT ae)[i]? =some p):p∈iT ae:=by grind
def Pd(s:ji C n ac ae){b:Nat->Prop}{ad:List (Nat×y)}{z:B y}{tmps:Array Value}(O:pS ae b)(U0:∀i,b i->i<ae.size)(al:oD D Q ac ae b ad z tmps)
 {i:Nat}{p:dN}{J:Oper}(l:(iT ae)[i]? =some p)(T4:ae[i]? =some J)(T3:¬b i)(TY:∀u∈J.after.toList,Region.binds .any u=true->b u.on):
 iS D Q ac (λt=>dj p.r t=true) (e0 ae i) ad z tmps:=by
 have af:=(Z9.1 T4).1;obtain⟨_,T6,T7⟩:=vg ae i (zD af);have U3:=((t7 ae).2 i p l).1;have U2:=t8 O (wS l) (by rw[U3];exact T4) TY;have T5:∀t E,dj p.r t=true->i<E->b E->k2 ae E=some t->False:=by
  intro t E I TZ c g;obtain⟨V,x,G,_,m,r,_,U4,f⟩:=nT s E (U0 E c);have d:ae[E]? =some G:=by rw[<-r];exact f.oper
  have X:=xe f (by rw[<-ub d];exact g);have T:=yM s TZ l m (.inr ⟨X,I⟩);have:=t8 O (wS m) (by rw[r];exact d) (O E G d c) i T;grind
 intro t v N w;apply al t v;split at w
 ·rename_i E P;obtain⟨T8,T0,T9⟩:=T6 t E P;left;have U1:E<ae.size:=Zo;obtain⟨V,x,G,_,m,r,_,U4,f⟩:=nT s E U1;have d:ae[E]? =some G:=by rw[<-r];exact f.oper
  have X:=xe f (by rw[<-ub d];exact T0);have T:=yM s T8 m l (.inl ⟨X,.inl N⟩);refine⟨E,U2 E T,T0,λA T1 T2=> ?_,w⟩;rcases zE A i with a|a|a
  ·rcases zg E A with L|L
   ·exact absurd T2 (T9 A L a)
   ·exact L
  ·exact absurd (a▸T1) T3
  ·exact(T5 t A N a T1 T2).elim
 ·rename_i P;right;refine⟨λE c g=> ?_,w.1,w.2⟩;rcases zE E i with a|a|a
  ·exact T7 t P E a g
  ·exact T3 (a▸c)
  ·exact T5 t E N a c g
def oD.put(A:ji C n ac ae){b:Nat->Prop}{ad l:List (Nat×y)}{z:B y}{tmps:Array Value}(L:pS ae b)(T7:∀i,b i->i<ae.size)(al:oD D Q ac ae b ad z tmps)(U4:tmps.size=n)
 {i:Nat}{J:Oper}{v:y}(N:ae[i]? =some J)(U0:¬b i)(T3:∀E,b E->∀M,cH l E=some M->cH ad E=some M)(T4:cH l i=some v)(T6:∀d,J.dst=some d->d<n)(dg:bp Q v):
 oD D Q ac ae (add b i) l z (j6 tmps J.dst (aq D v)):=by
 have af:=(Z9.1 N).1;have r:=ub N;have U3:∀t,(j6 tmps J.dst (aq D v))[t]? =if J.dst=some t then some (aq D v)else tmps[t]? :=λt=>HN _ _ _ _ (by rw[U4];exact T6);intro t M e;rw[U3];by_cases c:J.dst=some t
 ·rw[Zu c];rcases e with ⟨E,a,f,s,g⟩|⟨m,_⟩
  ·
   have TY:E=i:=by
    rcases a with a|a
    ·have U7:=s i (.inr rfl) (by rw[r];exact c);rcases zg i E with TZ|qF
     ·exfalso;obtain⟨p,x,U6,_,U2,U8,_,_,O⟩:=nT A i af;obtain⟨V,U9,T1,_,P,X,_,_,T0⟩:=nT A E (T7 E a);have w:ae[E]? =some T1:=(by rw[<-X];exact T0.oper);have U1:U6=J:=(by have:=O.oper;grind);subst U1;have T:=yM A TZ U2 P (.inl ⟨xe O c,.inr (xe T0 (by rw[<-ub w];exact f))⟩);exact U0 (t8 L (wS P) (by rw[X];exact w) (L E T1 w a) i T)
     ·omega
    ·exact a
   subst TY;rw[T4]at g;cases g;exact⟨rfl,dg⟩
  ·exact absurd (by rw[r];exact c) (m i (.inr rfl))
 ·rw[Zi c];apply al t M;rcases e with ⟨E,a,f,s,g⟩|⟨m,T2⟩
  ·left;have G:=a.resolve_right λu=>c (by rw[<-r, <-u];exact f);exact⟨E,G,f,λU5 T9 T5=>s U5 (.inl T9) T5,T3 E G M g⟩
  ·right;exact⟨λE T8=>m E (.inl T8),T2⟩
def pS.add{b:Nat->Prop}(f:pS ae b){i:Nat}{J:Oper}(l:ae[i]? =some J)(g:∀u∈J.after.toList,Region.binds .any u=true->b u.on):pS ae (add b i):=by
 intro E m c a u d T;rcases a with a|a
 ·exact .inl (f E m c a u d T)
 ·subst a;rw[l]at c;cases c;exact .inl (g u d T)
def wK(a:ji C n ac ae){l:jk}(d:l∈hd C n ac ae){p:Nat}{h:dN×de}(f:(ef C n ac ae)[p]? =some h):l.x.i≠h.1.i:=by intro u;obtain⟨V,b,m,_⟩:=v1 d;obtain⟨c,r⟩:=vX (Zl f);obtain⟨_,_,g,i,_⟩:=nU a b;obtain⟨_,_,bl,s,_⟩:=nU a c;grind
def kj.dc{base g:Nat}{ad:List (Nat×y)}{z:B y}{tmps:Array Value}{w:Nat->Prop}(e:kj C D Q j base n ac ae ad g (g+1) z tmps w){h:dN×de}(m:(ef C n ac ae)[g]? =some h)
 {J:Oper}(A:ae[h.1.i]? =some J)(L:¬w h.1.i)(T1:∀u∈J.after.toList,Region.binds .any u=true->w u.on){v:y}(dg:bp Q v)(T0:∀d,J.dst=some d->d<n):
 kj C D Q j base n ac ae ((h.1.i,v)::ad) (g+1) (g+1) z (j6 tmps J.dst (aq D v)) (add w h.1.i):=by
 have T2:cH ad h.1.i=none:=by
  cases t:cH ad h.1.i with
  |none=>rfl|some M=>
   exfalso;rcases e.keys _ M t with ⟨l,c,r,_⟩|⟨p,aw,c,r,O⟩
   ·exact wK e.st c m r
   ·have:=Ff e.st c m r;omega
 have G:Sub ad ((h.1.i,v)::ad):=Sub.cons T2;have af:=(Z9.1 A).1;refine⟨e.st,by rw[xh];exact e.size,zK (Ze.1 m).1,e.bu,e.closed.add A T1, ?_, ?_, ?_, ?_, ?_, ?_, ?_, ?_, ?_⟩
 ·rintro i (a|a)
  ·exact e.m4 i a
  ·omega
 ·intro p aw f;constructor
  ·rintro(a|a)
   ·have:=(e.done p aw f).1 a;omega
   ·have:=Ff e.st f m a;omega
  ·intro T6;rcases zg p g with T4|qF
   ·exact .inl ((e.done p aw f).2 T4)
   ·have:p=g:=Zo;subst this;rw[m]at f;cases f;exact .inr rfl
 ·rintro l x (a|a)
  ·exact e.lK l x a
  ·exact(wK e.st x m a).elim
 ·intro i M s;rw[kq]at s;split at s
  ·rename_i u;exact .inr ⟨g,h,m,u,Zo⟩
  ·rcases e.keys i M s with c|⟨p,aw,c,r,O⟩
   ·exact .inl c
   ·exact .inr ⟨p,aw,c,r,Zo⟩
 ·intro p aw f T6;rw[kq];split
  ·exact⟨v,rfl⟩
  ·rename_i T5;have:p≠g:=λu=>(by subst u;rw[m]at f;cases f;exact T5 rfl);exact e.mg p aw f Zo
 ·intro l x T3;obtain⟨M,c,r⟩:=e.ahead l x T3;refine⟨M,G _ _ c,λa=> ?_⟩;obtain⟨_,N,b,P,X⟩:=r (λV=>a (.inl V));exact⟨G _ _ c,N,b,P.trans G,X⟩
 ·refine e.qo.put e.st e.closed e.m4 e.size A L ?_ (by rw[kq,Zu rfl]) T0 dg;intro E a M s;rw[kq,Zi]at s
  ·exact s
  ·intro u;subst u;exact L a
 ·intro i fy al;exact .inl (e.ids i fy al)
 ·intro i fy t;rw[kq]at t;split at t
  ·cases t
  ·exact e.free i fy t
def kj.eP{base N m:Nat}{ad:List (Nat×y)}{z:B y}{tmps:Array Value}{f:Nat->Prop}(e:kj C D Q j base n ac ae ad N m z tmps f){l:jk}(L:l∈hd C n ac ae)(U4:l.aW<m)
 {J:Oper}(w:ae[l.x.i]? =some J)(U0:¬f l.x.i)(T9:∀u∈J.after.toList,Region.binds .any u=true->f u.on){v:y}(U2:cH ad l.x.i=some v)
 (U3:∀b,Q b->bZ b=D b)(T5:∀b,Q b->b9 b)(T6:∀b,b9 b->Q b\/b=base+l.x.i)(dg:bp b9 v)(T8:∀d,J.dst=some d->d<n):
 kj C bZ b9 j base n ac ae ad N m z (j6 tmps J.dst (aq bZ v)) (add f l.x.i):=by
 have af:=(Z9.1 w).1;refine⟨e.st,by rw[xh];exact e.size,e.wG,e.bu,e.closed.add w T9, ?_, ?_, ?_,e.keys,e.mg, ?_, ?_, ?_,e.free⟩
 ·rintro i (c|c)
  ·exact e.m4 i c
  ·omega
 ·intro p aw x;constructor
  ·rintro(c|c)
   ·exact(e.done p aw x).1 c
   ·exact(wK e.st L x c.symm).elim
  ·intro U1;exact .inl ((e.done p aw x).2 U1)
 ·rintro s r (c|c)
  ·exact e.lK s r c
  ·have:=(yV e.st);by_cases V:s=l
   ·grind
   ·exfalso;obtain⟨a,T7⟩:=Z4.1 r;obtain⟨b,T⟩:=Z4.1 L;obtain⟨A,t⟩:=Ze.1 T7;obtain⟨G,g⟩:=Ze.1 T;rw[Y3]at this;rcases zE a b with TZ|u|eJ
    ·have:=this a b A G TZ;rw[t,g]at this;omega
    ·subst u;rw[t]at g;exact V g
    ·have:=this b a G A eJ;rw[t,g]at this;omega
 ·intro s r TY;obtain⟨M,P,X⟩:=e.ahead s r TY;refine⟨M,P,λc=> ?_⟩;obtain⟨T0,O,b,T1,T2,T3,T4⟩:=X (λV=>c (.inl V));exact⟨T0,O,b,T1,T2,T3,T4⟩
 ·exact(e.qo.K U3 T5).put e.st e.closed e.m4 e.size w U0 (λ_ _ _ V=>V) U2 T8 dg
 ·intro i fy al;rcases T6 _ al with al|al
  ·exact .inl (e.ids i fy al)
  ·exact .inr Zo
def nO(D:bT)(p:kL):PanicEntry:={v:=aq D p.v,recovered:=p.recovered}
def ea(D:bT):gw->FrameMode
 | .run=> .run| .returning=> .returning| .panicking a=> .panicking (a.map (nO D))
def jV(Q:Nat->Prop):gw->Prop
 | .panicking a=>∀p∈a,bp Q p.v|_=>True
inductive pV(C:ai)(D:bT)(Q:Nat->Prop)(ac:Nat):ci->Item->Prop
 |code {c:Code}:gZ C ac c=true->pV C D Q ac (.code c) (.code c)|inBlock {id:Nat}:pV C D Q ac (.inBlock id) (.inBlock id)|inLoop {b:Code}:gZ C ac b=true->pV C D Q ac (.inLoop b) (.inLoop b)|inScope {b:Code}:gZ C ac b=true->pV C D Q ac (.inScope b) (.inScope b)|qs {l:Nat}:Q l->pV C D Q ac (.endRangeFunc l) (.endRangeFunc (D l).bx)|begin:pV C D Q ac .beginRound .beginRound
inductive gV(C:ai)(D:bT)(Q:Nat->Prop)(ac:Nat):List ci->List Item->Prop
 |nil:gV C D Q ac [] []|cons {a x q aM}:pV C D Q ac a x->gV C D Q ac q aM->gV C D Q ac (a::q) (x::aM)
def yk(C:ai)(D:bT)(Q:Nat->Prop)(n ac:Nat)(ae:Array Oper)(ad:List (Nat×y))(rest:List de)(fin:List (Nat×Nat))(z:B y)(tmps:Array Value)(l:List Nat):Prop:=
 ∃i,i<=ae.size/\l=List.range' i (ae.size-i)/\k1 C n ac (ae.toList.drop i) i (e0 ae i)=some rest/\fin=gE ac ae.toList 0/\iS D Q ac (λ_=>True) (e0 ae i) ad z tmps/\tmps.size=n
def Nx(C:ai)(D:bT)(Q:Nat->Prop)(n ac:Nat)(ae:Array Oper)(ad:List (Nat×y))(e:Nat)(rest:List de)(fin:List (Nat×Nat))(z:B y)(tmps:Array Value)(l:List Nat):Prop:=
 ∃J,ae[e]? =some J/\(∀d,J.dst=some d->d<n)/\l=List.range' (e+1) (ae.size-(e+1))/\k1 C n ac (ae.toList.drop (e+1)) (e+1) (e0 ae (e+1))=some rest/\fin=gE ac ae.toList 0/\
  iS D Q ac (λ_=>True) (e0 ae e) ad z tmps/\tmps.size=n
inductive p2(C:ai)(D:bT)(Q:Nat->Prop)(j:B R)(bP k n ac:Nat)(z:B y)(tmps:Array Value):List ci->List Item->Prop
 |plain {q aM}:gV C D Q ac q aM->fs D Q n ac z tmps->p2 C D Q j bP k n ac z tmps q aM|seq {ae ad rest fin l q aM}:gV C D Q ac q aM->yk C D Q n ac ae ad rest fin z tmps l->p2 C D Q j bP k n ac z tmps (.tj ae ad rest fin::q) (.inRegion ae l::aM)|drawn {ae base ad l q aM b a}:gV C D Q ac q aM->bP<=base->base+ae.size<=k->kj C D Q j base n ac ae ad a a z tmps b->mM ae b l->
   p2 C D Q j bP k n ac z tmps (.drawn ae base ad (n9 (hd C n ac ae) a ((ef C n ac ae).drop a)) (gE ac ae.toList 0)::q) (.inRegion ae l::aM)
inductive hr(C:ai)(D:bT)(Q:Nat->Prop)(j:B R)(aW af n ac:Nat)(z:B y)(tmps:Array Value):List ci->List Item->Prop
 |seq {ae ad e rest fin l q aM}:gV C D Q ac q aM->Nx C D Q n ac ae ad e rest fin z tmps l->hr C D Q j aW af n ac z tmps (.lp ae ad e rest fin::q) (.inRegion ae (e::l)::aM)|drawn {ae base ad l q aM b a h J}:gV C D Q ac q aM->aW<=base->base+ae.size<=af->kj C D Q j base n ac ae ad a (a+1) z tmps b->(ef C n ac ae)[a]? =some h->
   ae[h.1.i]? =some J->¬b h.1.i->(∀u∈J.after.toList,Region.binds .any u=true->b u.on)->mM ae (add b h.1.i) l->
   hr C D Q j aW af n ac z tmps (.oq ae base ad h.1.i (n9 (hd C n ac ae) (a+1) ((ef C n ac ae).drop (a+1))) (gE ac ae.toList 0)::q) (.inRegion ae (h.1.i::l)::aM)
 |bR {l q aM}:gV C D Q ac q aM->fs D Q n ac z tmps->Q l->hr C D Q j aW af n ac z tmps (.inRangeFunc l::q) (.inRangeFunc (D l).bx::aM)
def oN(C:ai)(D:bT)(Q:Nat->Prop)(j:B R)(aW af n ac:Nat)(z:B y)(tmps:Array Value)(be:gw)(todo:List ci)(aM:List Item):Prop:=match be with
 | .run=>hr C D Q j aW af n ac z tmps todo aM|_=>fs D Q n ac z tmps
def bC(D:bT)(fn:Nat)(aP:List eA)(ap:Bool)(ro:Option Nat)(tmps:Array Value)(aM:List Item)(mode:FrameMode):Frame:=
 {fn,tmps,todo:=aM,defers:=aP.map (hc D),mode,kind:=if ap then .deferred else .normal,roundOf:=ro.map λl=>(D l).bx}
structure mE(C:ai)(Q:Nat->Prop)(fn ac:Nat)(aP:List eA)(ro:Option Nat):Prop where
 aP:∀d∈aP,pb Q d
 ro:∀l,ro=some l->Q l
 fn:x6 C fn ac
inductive iN(C:ai)(D:bT)(Q:Nat->Prop)(j:B R)(a2:Nat)(bc:List Frame):Nat->List d3->List Frame->Prop
 |nil {bP}:iN C D Q j a2 bc bP [] bc|cons {aW bP fn n ac z todo aP be ap ro cs tmps aM aa}:oN C D Q j aW bP n ac z tmps be todo aM->jV Q be->mE C Q fn ac aP ro->(cs=[]->fn=a2/\ap=false/\ro=none)->aW<=bP->iN C D Q j a2 bc aW cs aa->
   iN C D Q j a2 bc bP (⟨fn,n,ac,z,todo,aP,be,ap,ro⟩::cs) (bC D fn aP ap ro tmps aM (ea D be)::aa)
def gV.K{q:List ci}{aM:List Item}(d:∀b,Q b->bZ b=D b)(c:∀b,Q b->b9 b)(e:gV C D Q ac q aM):gV C bZ b9 ac q aM:=by induction e with|nil=>exact .nil|cons a _ U=>refine .cons ?_ U;cases a with|code e=>exact .code e|inBlock=>exact .inBlock|inLoop e=>exact .inLoop e|inScope e=>exact .inScope e|qs e=>rw[<-d _ e];exact .qs (c _ e)|begin=>exact .begin
def hr.K{aW bP:Nat}{z:B y}{tmps:Array Value}{q:List ci}{aM:List Item}(a:eF C bP D Q j aN w bZ b9 S' a6)(e:hr C D Q j aW bP n ac z tmps q aM):hr C bZ b9 S' aW bP n ac z tmps q aM:=by
 cases e with
 |seq b c=>obtain⟨J,aL,bs,a3,a4,a5,fj,fO⟩:=c;exact .seq (b.K a.eZ a.fv) ⟨J,aL,bs,a3,a4,a5,fj.K a.eZ a.fv,fO⟩
 |drawn b c d f g i l m p=>exact .drawn (b.K a.eZ a.fv) c d (f.K a d) g i l m p|bR b c d=>rw[<-a.eZ _ d];exact .bR (b.K a.eZ a.fv) (c.K a.eZ a.fv) (a.fv _ d)
def oN.K{aW bP:Nat}{z:B y}{tmps:Array Value}{be:gw}{q:List ci}{aM:List Item}(a:eF C bP D Q j aN w bZ b9 S' a6)(e:oN C D Q j aW bP n ac z tmps be q aM):oN C bZ b9 S' aW bP n ac z tmps be q aM:=by cases be with|run=>exact hr.K a e|returning=>exact fs.K a.eZ a.fv e|panicking b=>exact fs.K a.eZ a.fv e
def mE.K{fn:Nat}{aP:List eA}{ro:Option Nat}(a:∀b,Q b->b9 b)(e:mE C Q fn ac aP ro):mE C b9 fn ac aP ro:=
 ⟨λd al=>FZ a (e.aP d al),λl c=>a l (e.ro l c),e.fn⟩
def s0{fn:Nat}{aP:List eA}{ap:Bool}{ro:Option Nat}{tmps:Array Value}{aM:List Item}{mode:FrameMode}(a:∀b,Q b->bZ b=D b)(e:mE C Q fn ac aP ro):bC bZ fn aP ap ro tmps aM mode=bC D fn aP ap ro tmps aM mode:=by
 unfold bC;congr 1
 ·exact Yv λd al=>yB a (e.aP d al)
 ·cases ro with|none=>rfl|some l=>simp only[ZZ,a l (e.ro l rfl)]
def Ow{be:gw}(c:∀b,Q b->bZ b=D b)(e:jV Q be):ea bZ be=ea D be:=by cases be with|panicking d=>simp only[ea];congr 1;exact Yv λp a=>by simp only[nO,jQ c (e p a)]|_=>rfl
def QK{be:gw}(a:∀b,Q b->b9 b)(e:jV Q be):jV b9 be:=by cases be with|panicking d=>exact λp c=>iV a _ (e p c)|_=>trivial
def eF.mono{bP a:Nat}(e:eF C bP D Q j aN w bZ b9 S' a6)(c:a<=bP):eF C a D Q j aN w bZ b9 S' a6:=
 ⟨e.eZ,e.fv,λb T=>(e.new b T).imp id (λV=>Zo),λb T d=>e.K b T Zo,e.below⟩
def iN.K{a2:Nat}{bc:List Frame}{bP:Nat}{cs:List d3}{aa:List Frame}(e:iN C D Q j a2 bc bP cs aa)(a:eF C bP D Q j aN w bZ b9 S' a6):iN C bZ b9 S' a2 bc bP cs aa:=by induction e with|nil=>exact .nil|cons f d b g c i U=>rw[<-s0 (bZ:=bZ) a.eZ b, <-Ow a.eZ d];exact .cons (f.K a) (QK a.fv d) (b.K a.fv) g c (U (a.mono c))
def v2(t:Nat):∀(l:List Nat) (z:B y),(mX l z).get t=if t∈l then none else z.get t:=by intro l;induction l with|nil=>intro z;simp[mX]|cons d l U=>simp only[mX,U,B.eX];grind
def fs.drop{z:B y}{tmps:Array Value}(e:fs D Q n ac z tmps)(l:List Nat):fs D Q n ac (mX l z) tmps:=by
 refine⟨e.size,λt v T a=> ?_⟩;rw[v2]at a;split at a
 ·grind
 ·exact e.val t v T a
def Fm{l:List Oper}{J:Oper}{d:Nat}(b:J∈l)(al:J.dst=some d):d∈dstsOf l:=by induction l with|nil=>grind|cons a l U=>simp only[dstsOf];grind
def hr.drop{aW bP:Nat}{z:B y}{tmps:Array Value}{q:List ci}{aM:List Item}(e:hr C D Q j aW bP n ac z tmps q aM):fs D Q n ac (mW q z) tmps:=by
 cases e with
 |seq g c=>
  rename_i ae ad e rest fin l q aM;obtain⟨J,aL,bs,a3,a4,a5,fj,fO⟩:=c;refine⟨fO,λt v T a=> ?_⟩;simp only[mW]at a;rw[v2]at a;split at a
  ·grind
  ·rename_i f;have af:=(Z9.1 aL).1;obtain⟨_,m,_⟩:=vg ae e (zD af);apply fj t v trivial;cases r:cH (e0 ae e) t with
   |some E=>
    exfalso;obtain⟨w,d,_⟩:=m t E r;unfold k2 at d;cases b:ae[E]? with
    |none=>grind|some dH=>rw[b]at d;exact f (Fm (by rw[Array.mem_toList_iff];exact zl b) d)
   |none=>exact⟨T,a⟩
 |drawn g c p i x A G L N=>
  rename_i ae base ad l q aM s P h J;refine⟨i.size,λt v T a=> ?_⟩;simp only[mW]at a;rw[v2]at a;split at a
  ·cases a
  ·rename_i f;apply i.qo t v;right;refine⟨λE O al=> ?_,T,a⟩;unfold k2 at al;cases b:ae[E]? with
   |none=>rw[b]at al;cases al|some dH=>rw[b]at al;exact f (Fm (by rw[Array.mem_toList_iff];exact zl b) al)
 |bR g c p=>exact c
def oN.drop{aW bP:Nat}{z:B y}{tmps:Array Value}{be:gw}{q:List ci}{aM:List Item}(e:oN C D Q j aW bP n ac z tmps be q aM):fs D Q n ac (mW q z) tmps:=by cases be with|run=>exact hr.drop e|_=>have a:fs D Q n ac z tmps:=e;unfold mW;split<;>first|exact a.drop _|exact a
def iS.put{z:B y}{ad:List (Nat×y)}{tmps:Array Value}{i:Nat}{J:Oper}{v:y}(b:ae[i]? =some J)(c:iS D Q ac (λ_=>True) (e0 ae i) ad z tmps)(al:∀d,J.dst=some d->d<tmps.size)(dg:bp Q v):
 iS D Q ac (λ_=>True) (e0 ae (i+1)) ((i,v)::ad) z (j6 tmps J.dst (aq D v)):=by
 have af:=(Z9.1 b).1;obtain⟨_,f,_⟩:=vg ae i (zD af);intro t M _ e;rw[HN _ _ _ _ al];rw[vf b,sj]at e;split at e
 ·rename_i E a;split at a
  ·rename_i u;cases a;rw[kq,Zu rfl]at e;grind
  ·rename_i u;rw[Zi u];have:=(f t E a).1;rw[kq,Zi Zo]at e;exact c t M trivial (by rw[a];exact e)
 ·rename_i a;split at a
  ·cases a
  ·rename_i u;rw[Zi u];exact c t M trivial (by rw[a];exact e)
def wk{g:Frame}{e:Nat}{l:List Nat}{aM:List Item}{J:Oper}(a:g.todo=.inRegion ae (e::l)::aM)(b:ae[e]? =some J)(v:Value):
 g.finish v={g with tmps:=j6 g.tmps J.dst v,todo:=.inRegion ae l::aM}:=by
 unfold Frame.finish;rw[a];simp only[b,Z7];rfl
def P6{aW bP k n ac fn:Nat}{z:B y}{tmps:Array Value}{todo:List ci}{aM:List Item}{aP:List eA}{ap:Bool}{ro:Option Nat}{mode:FrameMode}{v:y}(e:hr C D Q j aW bP n ac z tmps todo aM)(N:bP<=k)(dg:bp Q v):
 ∃p q r s f,todo=p::q/\iE p v=some r/\(bC D fn aP ap ro tmps aM mode).finish (aq D v)=bC D fn aP ap ro s f mode/\p2 C D Q j aW k n ac z s (r::q) f:=by
 cases e with
 |seq a b=>rename_i ae ad e rest fin l q aM;obtain⟨J,aL,bs,a3,a4,a5,fj,fO⟩:=b;have T3:=(Z9.1 aL).1;refine⟨_,q,.tj ae ((e,v)::ad) rest fin,j6 tmps J.dst (aq D v),.inRegion ae l::aM,rfl,rfl, ?_,.seq a ⟨e+1,Zo,a3,a4,a5,fj.put aL (by rw[fO];exact bs) dg,by rw[xh];exact fO⟩⟩;rw[wk rfl aL];rfl
 |drawn a b c g i m x A G=>
  rename_i ae base ad l q aM P T4 h J;have O:=Zl i;have L:∀d,J.dst=some d->d<n:=by obtain⟨dH,X,T0,T1,T2,t,w⟩:=nU g.st (vX O).1;have:dH=J:=(by have:=w.oper;grind);subst this;exact t.dst
  refine⟨_,q,.drawn ae base ((h.1.i,v)::ad) _ _,j6 tmps J.dst (aq D v),.inRegion ae l::aM,rfl,rfl, ?_,.drawn a b (ZD c N) (g.dc i m x A dg L) G⟩;rw[wk rfl m];rfl
 |bR a b c=>rename_i l q aM;exact⟨_,q,.endRangeFunc l,tmps,.endRangeFunc (D l).bx::aM,rfl,rfl,rfl,.plain (.cons (.qs c) a) b⟩
def xL{z:B y}{ad c:List (Nat×y)}{tmps:Array Value}{X:Nat->Prop}{i:Nat}{J:Oper}{g:Option (Nat×Bool)}{b:Bool}(af:i<=ae.size)(a:tV (e0 ae i) J.guard=some g)(v:iS D Q ac X (e0 ae i) ad z tmps)
 (m:∀E b t,J.guard=some (E,b)->mY E (e0 ae i)=some t->X t)(r:Sub c ad)(e:jI g c=some b):Region.wanted J (yielded ae tmps)=b:=by
 obtain⟨l,_,_⟩:=vg ae i af;unfold tV at a;unfold Region.wanted;split at a
 ·rename_i n;simp at a;subst a;simp[jI]at e;rw[n, <-e]
 ·rename_i E want d;rw[d];split at a
  ·rename_i t f;split at a
   ·rename_i x p;rw[er]at a;split at a
    ·rename_i u;subst u;simp at a;subst a;simp only[jI]at e;split at e
     ·rename_i M s;have:=v t M (m E want t d f) (by rw[p];exact r _ _ s);have w:yielded ae tmps E=(match aq D M with| .bool b=>some b|_=>none):=(by unfold yielded;have al:=l E t f;unfold k2 at al;rw[al];simp only[Z7,this.1];cases aq D M<;>rfl);simp only[w];cases M<;>simp[aq]at e ⊢ <;>first|(rw[<-e])|exact e|(subst e;rfl)|skip
      all_goals simp_all
     ·simp at e
    ·simp at a
   ·simp at a
  ·simp at a
structure ya(C:ai)(aS:World):Prop where
 val:∀f args v,C.ez f args=some v->((∀D a,aq D v=aq a v)/\∀Q,bp Q v)/\(∀D a,bd D args=bd a args)/\∀Q,cu Q args
 ok:∀f args v,C.ez f args=some v->∀D w,Below aS.heap.size aS w->
  (callFunc f (bd D args).toArray).run C.P w=.ok (.value (aq D v)) w\/
  ((callFunc f (bd D args).toArray).run C.P w=.ok (.enter f (bd D args).toArray) w/\Calls C.P f (bd D args).toArray w λu a6=>u=.returned (aq D v)/\Below w.heap.size w a6)
def tD(P:Program)(aS:World):Prop:=∀(f:Nat) (fn:Func),P.funcs[f]? =some fn->fn.name= "slices.Sort[[]int,int]"->∀(w:World),Below aS.heap.size aS w->
 ((callFunc f #[.slice none 0 0]).run P w=.ok (.enter f #[.slice none 0 0]) w/\Calls P f #[.slice none 0 0] w λu a6=>u=.returned (.tuple #[])/\Below w.heap.size w a6)/\
 ∀(g off c:Nat) (bg:Array Value) (t:TypeId) (aW af:Nat) (aE:List Int),w.heap[g]? =some (.cells bg t (aW,af))->(af<=aW\/bg.size<=aW)->off+aE.length<=bg.size->(∀i aw,aE[i]? =some aw->bg[off+i]? =some (.int .i64 aw))->aE.length<=1000000->
 (callFunc f #[.slice (some ⟨g,off,none⟩) aE.length c]).run P w=.ok (.enter f #[.slice (some ⟨g,off,none⟩) aE.length c]) w/\
 Calls P f #[.slice (some ⟨g,off,none⟩) aE.length c] w λu a6=>u=.returned (.tuple #[])/\Below (w.setRow g (fK bg off ((d0 aE).map λaw=> .int .i64 aw))).heap.size (w.setRow g (fK bg off ((d0 aE).map λaw=> .int .i64 aw))) a6
structure Env(C:ai)(aS:World)(cn:bT)(co:Nat->Prop):Prop where
 f8:nD C.P
 ez:ya C aS
 base:bV C cn co .nil C.aD aS.heap.size aS
 ec:kT C cn co
 mem:tD C.P aS
def Ends(C:ai)(aS:World)(a2:Nat)(bc:List Frame)(v:y)(aV:Machine):Prop:=
 ∃D a6 fr,Steps C.P aV (lone fr bc a6)/\fr.leaving C.P a6 (.returned (aq D v))/\fr.fn=a2/\Below aS.heap.size aS a6
structure p1(C:ai)(aS:World)(a2:Nat)(bc:List Frame)(be:gw)(todo:List ci)(fn n ac:Nat)(aP:List eA)(ap:Bool)(ro:Option Nat)(cs:List d3)(z:B y)(j:B R)(k:Nat)
 (D:bT)(Q:Nat->Prop)(w:World)(bP:Nat)(tmps:Array Value)(aM:List Item)(aa:List Frame):Prop where
 I:bV C D Q j k aS.heap.size w
 gi:Below aS.heap.size aS w
 ec:kT C D Q
 fV:bP<=k
 eI:mE C Q fn ac aP ro
 mode:jV Q be
 bot:cs=[]->fn=a2/\ap=false/\ro=none
 cs:iN C D Q j a2 bc bP cs aa
 todo:match be with
  | .run=>p2 C D Q j bP k n ac z tmps todo aM|_=>fs D Q n ac z tmps
def h0(C:ai)(aS:World)(a2:Nat)(bc:List Frame)(U:ey):Prop:=
 ∀be todo fn n ac aP ap ro cs z j k v,U be todo ⟨fn,n,ac,aP,ap,ro,cs⟩ z j k=some v->
  ∀D Q w bP tmps aM aa,p1 C aS a2 bc be todo fn n ac aP ap ro cs z j k D Q w bP tmps aM aa->Ends C aS a2 bc v (lone (bC D fn aP ap ro tmps aM (ea D be)) aa w)
variable{aS:World}{a2:Nat}{bc:List Frame}{v:y}
def Ends.head{aV a:Machine}(e:step C.P aV=.next a)(b:Ends C aS a2 bc v a):Ends C aS a2 bc v aV:=by obtain⟨D,a6,fr,c,d⟩:=b;exact⟨D,a6,fr,.head e c,d⟩
def Ends.steps{aV a:Machine}(e:Steps C.P aV a)(b:Ends C aS a2 bc v a):Ends C aS a2 bc v aV:=by obtain⟨D,a6,fr,c,d⟩:=b;exact⟨D,a6,fr,e.trans c,d⟩
def bV.later(I:bV C D Q j k aN w)(T:Below w.heap.size w a6):bV C D Q j k aN a6:=
 ⟨I.aD,I.lt,I.mq,λb J e d=>(I.obj b J e d).K (λ_ _=>rfl) (λ_ e=>e) (T.block _ (I.obj b J e d).lt),I.sep,I.base,I.cl⟩
def Env.now{cn:bT}{co:Nat->Prop}(c:Env C aS cn co)(T:Below aS.heap.size aS w):bV C cn co .nil C.aD w.heap.size w:=by have I:=c.base.later T;refine⟨I.aD,I.lt,I.mq,I.obj,I.sep, ?_,I.cl⟩;intro b J d a _;unfold F at a;rw[c3,Zi (by simp[Nat.blt];omega)]at a;simp_all
def Env.later{cn:bT}{co:Nat->Prop}(a:Env C aS cn co)(T:Below aS.heap.size aS w):Env C w cn co:=
 ⟨a.f8,⟨a.ez.val,λf args v e D c b=>a.ez.ok f args v e D c (T.trans (b.mono T.size))⟩,a.now T,a.ec,λf fn d g c b=>a.mem f fn d g c (T.trans (b.mono T.size))⟩
variable{fn:Nat}{aP:List eA}{ap:Bool}{ro:Option Nat}{tmps:Array Value}{aM:List Item}{aa:List Frame}
def pI(tmps:Array Value)(aM:List Item):stepG C.P true {frame:=bC D fn aP ap ro tmps aM .run,callers:=aa,status:=.running,dying:=none} w=stepG.exec C.P true true (bC D fn aP ap ro tmps aM .run) aa none w:=by rfl
def acf{a b:Code}:step C.P (lone (bC D fn aP ap ro tmps (.code (.seq a b)::aM) .run) aa w)=.next (lone (bC D fn aP ap ro tmps (.code a:: .code b::aM) .run) aa w):=by rfl
def acg:step C.P (lone (bC D fn aP ap ro tmps (.code .skip::aM) .run) aa w)=.next (lone (bC D fn aP ap ro tmps aM .run) aa w):=by rfl
def ab5{l:Nat}:step C.P (lone (bC D fn aP ap ro tmps (.code (.label l)::aM) .run) aa w)=.next (lone (bC D fn aP ap ro tmps aM .run) aa w):=by rfl
def ab2{l:Nat}:step C.P (lone (bC D fn aP ap ro tmps (.inBlock l::aM) .run) aa w)=.next (lone (bC D fn aP ap ro tmps aM .run) aa w):=by rfl
def ab4{b:Code}:step C.P (lone (bC D fn aP ap ro tmps (.inScope b::aM) .run) aa w)=.next (lone (bC D fn aP ap ro tmps aM .run) aa w):=by rfl
def abW{id:Nat}{b:Code}:step C.P (lone (bC D fn aP ap ro tmps (.code (.block id b)::aM) .run) aa w)=.next (lone (bC D fn aP ap ro tmps (.code b:: .inBlock id::aM) .run) aa w):=by rfl
def ab6{b:Code}:step C.P (lone (bC D fn aP ap ro tmps (.code (.loop b)::aM) .run) aa w)=.next (lone (bC D fn aP ap ro tmps (.code b:: .inLoop b::aM) .run) aa w):=by rfl
def ab3{b:Code}:step C.P (lone (bC D fn aP ap ro tmps (.inLoop b::aM) .run) aa w)=.next (lone (bC D fn aP ap ro tmps (.code b:: .inLoop b::aM) .run) aa w):=by rfl
def ace{b:Code}:step C.P (lone (bC D fn aP ap ro tmps (.code (.scope b)::aM) .run) aa w)=.next (lone (bC D fn aP ap ro tmps (.code b:: .inScope b::aM) .run) aa w):=by rfl
def abX{c:Operand}{a b:Code}{t:Bool}(e:gK tmps c=.bool t):step C.P (lone (bC D fn aP ap ro tmps (.code (.cond c a b)::aM) .run) aa w)=.next (lone (bC D fn aP ap ro tmps (.code (if t then a else b)::aM) .run) aa w):=
 step_lone_go (by
  have d:(bC D fn aP ap ro tmps (.code (.cond c a b)::aM) .run).eval c=.bool t:=by assumption
  rw[pI];simp only[bC]at d;simp[stepG.exec,bC,d])
def ab1{id:Nat}{a:List Item}(e:Go.exitTo id aM=some a):step C.P (lone (bC D fn aP ap ro tmps (.code (.exit id)::aM) .run) aa w)=.next (lone (bC D fn aP ap ro tmps a .run) aa w):=
 step_lone_go (by rw[pI];simp[stepG.exec,bC,e])
def acb:step C.P (lone (bC D fn aP ap none tmps (.code .ret::aM) .run) aa w)=.next (lone (bC D fn aP ap none tmps (.code .ret::aM) .returning) aa w):=by rfl
def abZ:step C.P (lone (bC D fn aP ap none tmps [] .run) aa w)=.next (lone (bC D fn aP ap none tmps [] .returning) aa w):=by rfl
def ab9{id:Nat}:step C.P (lone (bC D fn aP ap ro tmps (.code (.region id ae false)::aM) .run) aa w)=.next (lone (bC D fn aP ap ro tmps (.inRegion ae (List.range ae.size)::aM) .run) aa w):=by rfl
def aca{id:Nat}:step C.P (lone (bC D fn aP ap ro tmps (.code (.region id ae true)::aM) .run) aa w)=
 .next (lone (bC D fn aP ap ro tmps (.inRegion ae (Region.schedule (C.P.follows .mixedOrders) ae (w.tape w.drawn (.order fn id)))::aM) .run) aa w.drew):=by rfl
def Ic:step C.P (lone (bC D fn aP ap ro tmps (.inRegion ae []::aM) .run) aa w)=.next (lone (bC D fn aP ap ro tmps aM .run) aa w):=by rfl
def BB{i:Nat}{l:List Nat}{J:Oper}(a:ae[i]? =some J)(b:Region.wanted J (yielded ae tmps)=false):
 step C.P (lone (bC D fn aP ap ro tmps (.inRegion ae (i::l)::aM) .run) aa w)=.next (lone ((bC D fn aP ap ro tmps (.inRegion ae (i::l)::aM) .run).finish Go.undef) aa w):=
 step_lone_go (by rw[pI];simp[stepG.exec,bC,a,b])
def A6{ab:Operand->Value}{J:Oper}{a:Next}(I:(execOp ab J).run C.P w=.ok a a6)(e:∀d,a≠ .defer d):∀c,J.op≠ .defer c:=by
 intro c b;have g:execOp ab J=(do pure (.defer (<-resolve ab c J.type))):=by unfold execOp;rw[b]
 rw[g]at I;simp only[Sem.run_bind]at I;cases f:(resolve ab c J.type).run C.P w with|ok d i=>rw[f]at I;simp only[Result.andThen_ok,Sem.run_pure,Result.ok.injEq]at I;grind|halt u i=>simp_all
def tn{i:Nat}{l:List Nat}{J:Oper}(a:ae[i]? =some J)(b:Region.wanted J (yielded ae tmps)=true)(dF:ro=none\/∀c,J.op≠ .defer c):
 stepG C.P true {frame:=bC D fn aP ap ro tmps (.inRegion ae (i::l)::aM) .run,callers:=aa,status:=.running,dying:=none} w=
  stepG.apply C.P true (bC D fn aP ap ro tmps (.inRegion ae (i::l)::aM) .run) aa none (execOp (gK tmps) J) w:=by
 rw[pI];rcases dF with rfl|dF
 ·simp[stepG.exec,stepG.oper,bC,Frame.oper?,a,b,FB]
 ·cases ro with
  |none=>simp[stepG.exec,stepG.oper,bC,Frame.oper?,a,b,FB]|some r=>
   have:∀(c:Call),J.op≠ .defer c:=dF;simp[stepG.exec,stepG.oper,bC,Frame.oper?,a,b];split
   ·rename_i d;exact absurd d (this _)
   ·rfl
def rD{i:Nat}{l:List Nat}{J:Oper}{M:Value}{a:Next}(c:ae[i]? =some J)(d:Region.wanted J (yielded ae tmps)=true)
 (I:(execOp (gK tmps) J).run C.P w=.ok a a6)(b:a=.value M\/(a=.skip/\M=Go.undef)):
 step C.P (lone (bC D fn aP ap ro tmps (.inRegion ae (i::l)::aM) .run) aa w)=.next (lone ((bC D fn aP ap ro tmps (.inRegion ae (i::l)::aM) .run).finish M) aa a6):=
 step_lone_go (by
  rw[tn c d (.inr (A6 I (by rcases b with rfl|⟨rfl,rfl⟩<;>simp)))];rcases b with rfl|⟨rfl,rfl⟩
  ·simp[stepG.apply,I]
  ·simp[stepG.apply,I])
def BA{i:Nat}{l:List Nat}{J:Oper}{f:Nat}{args:Array Value}(a:ae[i]? =some J)(b:Region.wanted J (yielded ae tmps)=true)
 (I:(execOp (gK tmps) J).run C.P w=.ok (.enter f args) a6):
 step C.P (lone (bC D fn aP ap ro tmps (.inRegion ae (i::l)::aM) .run) aa w)=.next (lone (Frame.enter C.P f args .normal) (bC D fn aP ap ro tmps (.inRegion ae (i::l)::aM) .run::aa) a6):=
 step_lone_go (by rw[tn a b (.inr (A6 I Zs))];simp[stepG.apply,I,bC])
def acc{i:Nat}{l:List Nat}{J:Oper}{b f:Nat}{aA:Array Value}{assign body:Code}(a:ae[i]? =some J)(c:Region.wanted J (yielded ae tmps)=true)
 (I:(execOp (gK tmps) J).run C.P w=.ok (.round b f aA assign body) a6):
 step C.P (lone (bC D fn aP ap ro tmps (.inRegion ae (i::l)::aM) .run) aa w)=.next (lone (Frame.round b f aA assign body .normal) (bC D fn aP ap ro tmps (.inRegion ae (i::l)::aM) .run::aa) a6):=
 step_lone_go (by rw[tn a c (.inr (A6 I Zs))];simp[stepG.apply,I])
def abY{i:Nat}{l:List Nat}{J:Oper}{d:eA}(a:ae[i]? =some J)(b:Region.wanted J (yielded ae tmps)=true)
 (I:(execOp (gK tmps) J).run C.P w=.ok (.defer (hc D d)) a6):
 step C.P (lone (bC D fn aP ap none tmps (.inRegion ae (i::l)::aM) .run) aa w)=.next (lone ((bC D fn (d::aP) ap none tmps (.inRegion ae (i::l)::aM) .run).finish Go.undef) aa a6):=
 step_lone_go (by rw[tn a b (.inl rfl)];simp[stepG.apply,I,bC])
def ab7{i:Nat}{l:List Nat}{J:Oper}{M:y}(a:ae[i]? =some J)(b:Region.wanted J (yielded ae tmps)=true)
 (I:(execOp (gK tmps) J).run C.P w=.halt (.panic (aq D M)) a6):
 step C.P (lone (bC D fn aP ap none tmps (.inRegion ae (i::l)::aM) .run) aa w)=.next (lone (bC D fn aP ap none tmps (.inRegion ae (i::l)::aM) (ea D (.panicking [⟨M,false⟩]))) aa a6):=
 step_lone_go (by rw[tn a b (.inl rfl)];simp[stepG.apply,I,bC,Frame.raise,ea,nO])
def ab8{i:Nat}{l:List Nat}{J:Oper}{M:Value}{b:List Frame}(c:ae[i]? =some J)(d:Region.wanted J (yielded ae tmps)=true)
 (I:(execOp (gK tmps) J).run C.P w=.ok .recover a6)
 (a:Go.tryRecover (bC D fn aP ap none tmps (.inRegion ae (i::l)::aM) .run) aa=some (M,b)\/(Go.tryRecover (bC D fn aP ap none tmps (.inRegion ae (i::l)::aM) .run) aa=none/\M=.nilIface/\b=aa)):
 step C.P (lone (bC D fn aP ap none tmps (.inRegion ae (i::l)::aM) .run) aa w)=.next (lone ((bC D fn aP ap none tmps (.inRegion ae (i::l)::aM) .run).finish M) b a6):=
 step_lone_go (by
  rw[tn c d (.inl rfl)];have u:(bC D fn aP ap none tmps (.inRegion ae (i::l)::aM) .run).roundOf=none:=rfl;rcases a with a|⟨a,rfl,rfl⟩
  ·simp[stepG.apply,I,u,a]
  ·simp[stepG.apply,I,u,a])
def abV{b:Nat}(I:(Instr.beginRound (D b).bx).run C.P w=.ok () a6):
 step C.P (lone (bC D fn aP ap (some b) tmps (.beginRound::aM) .run) aa w)=.next (lone (bC D fn aP ap (some b) tmps aM .run) aa a6):=
 step_lone_go (by rw[pI];simp[stepG.exec,stepG.apply,bC,I,Frame.finish])
def ab0{b:Nat}{a:Option Code}(I:(Instr.endLoop b).run C.P w=.ok a a6):
 step C.P (lone (bC D fn aP ap ro tmps (.endRangeFunc b::aM) .run) aa w)=.next (lone (bC D fn aP ap ro tmps ((a.map Item.code).toList++aM) .run) aa a6):=
 step_lone_go (by rw[pI];simp[stepG.exec,bC,I])
def Ib{f:Operand}{params:Array Tmp}{assign body:Code}{b:Nat}{mark:List Deferred}{g:Nat}{args:Array Value}{dT:World}{d:Deferred}
 (c:(Instr.enterLoop fn tmps params assign body (ro.map λl=>(D l).bx)).run C.P w=.ok (b,mark) dT)
 (m:(resolve (gK tmps) {callee:=.value f,args:= #[.const (.func (.yield b) #[] #[])],argTypes:= #[]} 0).run C.P dT=.ok d dT)(i:(invoke d.target d.args).run C.P dT=.ok (.enter g args) a6):
 step C.P (lone (bC D fn aP ap ro tmps (.code (.rangeFunc f params assign body)::aM) .run) aa w)=
  .next (lone (Frame.enter C.P g args .normal) ({bC D fn aP ap ro tmps (.inRangeFunc b::aM) .run with defers:=mark++aP.map (hc D)}::aa) a6):=
 step_lone_go (by
  rw[pI];have a:({bC D fn aP ap ro tmps (.inRangeFunc b::aM) .run with defers:=mark++aP.map (hc D)}:Frame).eval=gK tmps:=by rfl
  simp only[bC]at a;simp[stepG.exec,bC,Sem.runT_eq,c,stepG.apply,a,m,i])
def acd{a:Option Code}{b:Nat}{M:Value}{g:Frame}(d:(a=none/\aM=[])\/(a=some .ret/\∃q,aM=.code .ret::q)\/(∃id q,a=some (.exit id)/\aM=.code (.exit id)::q/\Go.exitTo id q=none))
 (c:(Instr.endRound (D b).bx a).run C.P w=.ok M a6):
 step C.P (lone (bC D fn aP false (some b) tmps aM .run) (g::aa) w)=.next (lone (g.finish M) aa a6):=
 step_lone_go (by
  rw[pI];rcases d with ⟨rfl,rfl⟩|⟨rfl,q,rfl⟩|⟨id,q,rfl,rfl,f⟩
  ·simp[stepG.exec,bC,c,doReturn]
  ·simp[stepG.exec,bC,c,doReturn]
  ·simp[stepG.exec,bC,c,doReturn,f])
def ach{r:Nat}{d:List y}{b:List eA}{a:List Deferred}{mode:FrameMode}{b9:List eA}(g:mode≠ .run)(c:(Instr.takeDeferred (D r).bx).run C.P w=.ok a a6)(al:a++b.map (hc D)=b9.map (hc D)):
 step C.P (lone (bC D fn (⟨.collected r,d⟩::b) ap ro tmps aM mode) aa w)=.next (lone (bC D fn b9 ap ro tmps aM mode) aa a6):=
 step_lone_go (by
  cases mode with
  |run=>grind|returning=>simp[stepG,unwind,bC,hc,qe,c,al]|panicking f=>simp[stepG,unwind,bC,hc,qe,c,al])
variable{cn:bT}{co:Nat->Prop}
variable{U:ey}
variable{cs:List d3}{z:B y}{aW af:Nat}
structure fg(C:ai)(aS:World)(a2:Nat)(bc:List Frame)(fn ac:Nat)(aP:List eA)(ap:Bool)(ro:Option Nat)(cs:List d3)(j:B R)(k:Nat)(D:bT)(Q:Nat->Prop)(w:World)(bP:Nat)(aa:List Frame):Prop where
 I:bV C D Q j k aS.heap.size w
 gi:Below aS.heap.size aS w
 ec:kT C D Q
 fV:bP<=k
 eI:mE C Q fn ac aP ro
 bot:cs=[]->fn=a2/\ap=false/\ro=none
 cs:iN C D Q j a2 bc bP cs aa
def fg.cB{bP:Nat}(e:fg C aS a2 bc fn ac aP ap ro cs j k D Q w bP aa):aS.heap.size<=w.heap.size:=e.gi.size
def fg.ext{bP:Nat}(e:fg C aS a2 bc fn ac aP ap ro cs j k D Q w bP aa)(I:bV C bZ b9 S' W aS.heap.size a6)(a:eF C bP D Q j aS.heap.size w bZ b9 S' a6)(b:k<=W):
 fg C aS a2 bc fn ac aP ap ro cs S' W bZ b9 a6 bP aa:=
 ⟨I,e.gi.trans a.below,e.ec.K a.eZ a.fv,ZD e.fV b,e.eI.K a.fv,e.bot,e.cs.K a⟩
def fg.state{bP:Nat}{todo:List ci}(e:fg C aS a2 bc fn ac aP ap ro cs j k D Q w bP aa)(a:p2 C D Q j bP k n ac z tmps todo aM):
 p1 C aS a2 bc .run todo fn n ac aP ap ro cs z j k D Q w bP tmps aM aa:=⟨e.I,e.gi,e.ec,e.fV,e.eI,trivial,e.bot,e.cs,a⟩
def p1.Ob{todo:List ci}{bP:Nat}(e:p1 C aS a2 bc .run todo fn n ac aP ap ro cs z j k D Q w bP tmps aM aa):fg C aS a2 bc fn ac aP ap ro cs j k D Q w bP aa/\p2 C D Q j bP k n ac z tmps todo aM:=
 ⟨⟨e.I,e.gi,e.ec,e.fV,e.eI,e.bot,e.cs⟩,e.todo⟩
def iN.inv{bP b:Nat}{todo:List ci}{be:gw}(e:iN C D Q j a2 bc bP (⟨fn,b,ac,z,todo,aP,be,ap,ro⟩::cs) aa):
 ∃aW tmps aM a,aa=bC D fn aP ap ro tmps aM (ea D be)::a/\oN C D Q j aW bP b ac z tmps be todo aM/\jV Q be/\mE C Q fn ac aP ro/\(cs=[]->fn=a2/\ap=false/\ro=none)/\aW<=bP/\iN C D Q j a2 bc aW cs a:=by
 cases e with|cons c l d f g i=>grind
def Fr(G:h0 C aS a2 bc U){f:Nat}{args:List y}{bP:Nat}{a:Bool}{d:List d3}{g:List Frame}(I:bV C D Q j k aS.heap.size w)(T:Below aS.heap.size aS w)(ec:kT C D Q)(L:bP<=k)
 (x:iN C D Q j a2 bc bP d g)(l:d=[]->f=a2/\a=false)(n:cu Q args)(e:iB U C f args a d j k=some v):Ends C aS a2 bc v (lone (Frame.enter C.P f (bd D args).toArray (if a then .deferred else .normal)) g w):=by
 unfold iB at e;split at e
 ·rename_i func m;split at e
  ·rename_i c s;simp only[gQ,cL,Zt]at e;obtain⟨⟨⟨i,p⟩,r⟩,e⟩:=e;have i:=fu i;have A:Frame.enter C.P f (bd D args).toArray (if a then .deferred else .normal)=bC D f [] a none ((bd D args).toArray++Array.replicate (func.ntmps-args.length) Go.undef) [.code c] (ea D .run):=(by simp[Frame.enter,bC,ea,m,s,fH]);rw[A];refine G _ _ _ _ _ _ _ _ _ _ _ _ v e D Q w bP _ _ g ?_;refine⟨I,T,ec,L,⟨Zs,Zs,func,m,r⟩,trivial,λu=>⟨(l u).1,(l u).2,rfl⟩,x,.plain (.cons (.code p) .nil) ⟨?_, ?_⟩⟩
   ·simp[fH];omega
   ·intro t M _ b;rw[g5]at b;have N:=(Ze.1 b).1;refine⟨?_,pd n b⟩;rw[Yx (by simpa[fH]using N)];simp[oY,b]
  ·simp at e
 ·simp at e
def wc(i:h0 C aS a2 bc U){f:Nat}{args:List y}{bP:Nat}{a:List d3}{b:List Frame}(I:bV C D Q j k aS.heap.size w)(T:Below aS.heap.size aS w)(ec:kT C D Q)(l:bP<=k)
 (g:iN C D Q j a2 bc bP a b)(d:a=[]->f=a2)(c:cu Q args)(e:iB U C f args false a j k=some v):Ends C aS a2 bc v (lone (Frame.enter C.P f (bd D args).toArray .normal) b w):=
 Fr i I T ec l g (λu=>⟨d u,rfl⟩) c e
def qC(r:h0 C aS a2 bc U){a:ci}{q:List ci}{M:y}(m:fg C aS a2 bc fn ac aP ap ro cs j k D Q w aW aa)(s:hr C D Q j aW af n ac z tmps (a::q) aM)(p:af<=k)(l:bp Q M)
 (e:(match iE a M with|some b=>U .run (b::q) ⟨fn,n,ac,aP,ap,ro,cs⟩ z j k|none=>none)=some v):
 Ends C aS a2 bc v (lone ((bC D fn aP ap ro tmps aM .run).finish (aq D M)) aa w):=by
 obtain⟨x,A,b,t,c,d,f,g,i⟩:=P6 (aP:=aP) (ro:=ro) s p l;cases d;rw[f]at e;rw[g];exact r _ _ _ _ _ _ _ _ _ _ _ _ v e D Q w aW t c aa (m.state i)
def RZ{f:Nat}{args:List y}{M:y}(b:Env C aS cn co)(T:Below aS.heap.size aS w)(c:C.ez f args=some M):
 (
  (∀a,(callFunc f (bd a args).toArray).run C.P w=.ok (.value (aq a M)) w)\/
  ((∀a,(callFunc f (bd a args).toArray).run C.P w=.ok (.enter f (bd a args).toArray) w)/\∀a,Calls C.P f (bd a args).toArray w λu a6=>u=.returned (aq a M)/\Below w.heap.size w a6))/\∀d,bp d M:=by
 obtain⟨⟨i,g⟩,l,m⟩:=b.ez.val f args M c;refine⟨?_,g⟩;rcases b.ez.ok f args M c cn w T with e|⟨n,p⟩
 ·grind
 ·grind
def RA:∀{l:List y}{x:List Int},qN l=some x->l=x.map (λn=>y.int .i64 n):=by intro l;induction l with|nil=>intro x e;simp[qN]at e;subst e;simp|cons a l U=>intro x e;unfold qN at e;grind
def OW:∀aE:List Int,bd D (aE.map λaw=>y.int .i64 aw)=aE.map λaw=>Value.int .i64 aw:=by intro aE;induction aE with|nil=>rfl|cons a aE U=>rw[ZH,bd,U];rfl
def QN:∀aE:List Int,cu Q (aE.map λaw=>y.int .i64 aw):=by intro aE;induction aE with|nil=>trivial|cons a aE U=>exact⟨trivial,U⟩
def Ru(x:Int):∀l:List Int,(k5 x l).length=l.length+1:=by intro l;induction l with|nil=>rfl|cons h l U=>rw[k5,c3];split<;>simp[U]
def rB:∀l:List Int,(d0 l).length=l.length:=by intro l;induction l with|nil=>rfl|cons h l U=>rw[d0,Ru,U];rfl
def Ia{bP f b J len c:Nat}(X:Env C aS cn co)(I:bV C D Q j k aS.heap.size w)(T:Below aS.heap.size aS w){fn:Func}(T4:C.P.funcs[f]? =some fn)(T6:fn.name= "slices.Sort[[]int,int]")(p:Q b)(a:tM C j b J len=some S'):
 (callFunc f #[.slice (some ⟨(D b).bx,(D b).cm+J,none⟩) len c]).run C.P w=.ok (.enter f #[.slice (some ⟨(D b).bx,(D b).cm+J,none⟩) len c]) w/\
 Calls C.P f #[.slice (some ⟨(D b).bx,(D b).cm+J,none⟩) len c] w λu a6=>u=.returned (.tuple #[])/\∃dT,bV C D Q S' k aS.heap.size dT/\eF C bP D Q j aS.heap.size w D Q S' dT/\Below dT.heap.size dT a6:=by
 unfold tM at a;split at a
 ·rename_i l d;split at a
  ·rename_i aE T8;simp only[cL,Zt]at a;obtain⟨⟨r,g⟩,a⟩:=a;have r:=ht r;have g:=fu g;have T5:=RA T8;subst T5;obtain⟨dT,a7,bl,A⟩:=tN I p (QN _) a;unfold gj at d;split at d
   ·rename_i cc m;obtain⟨bG,T9⟩:=B.wt _ _ _ _ d;rw[Zj]at bG;subst bG;unfold gX at a;split at a
    ·rename_i L n st x;simp only[cL,Zt]at a;obtain⟨⟨⟨G,U0⟩,TY⟩,a⟩:=a;have G:J+(d0 aE).length<=n:=(by simp_all);rw[rB]at G;obtain⟨bg,ty,aW,af,aL,bs,a3,a4⟩:=I.obj b _ x p;have v:st≠ .fD:=λu=>(by subst u;simp at a);have T2:cc=L:=(by unfold cellsOf at m;rw[x]at m;exact(YF m).symm);subst T2;have T3:∀i aw,aE[i]? =some aw->bg[(D b).cm+J+i]? =some (.int .i64 aw):=λi aw t=>(by have af:=(Ze.1 t).1;have s:=T9 i af;rw[Zn,t]at s;have:=(a4 (J+i) _ s).1;rw[<-Yi]at this;exact this);have T7:=xs C.P (D b).bx ((D b).cm+J) ty aW af (bd D ((d0 aE).map λaw=>y.int .i64 aw)) 0 bg w aL (bs.free v) (by rw[fH,Zj,rB];omega) (A9 TY);rw[T7]at a7;cases a7;rw[OW]at bl A;obtain⟨_,N⟩:=X.mem f fn T4 T6 w T;obtain⟨O,P⟩:=N (D b).bx ((D b).cm+J) c bg ty aW af aE aL (bs.free v) Zo T3 g;exact⟨O,P.mono λu a6 ⟨T0,T1⟩=>⟨T0,_,bl,A,T1⟩⟩
    ·cases a
   ·simp only[cL]at d;have TZ:=Zr d.1;omega
  ·cases a
 ·cases a
def S2{bP f:Nat}{args:List y}(c:Env C aS cn co)(I:bV C D Q j k aS.heap.size w)(T:Below aS.heap.size aS w)(b:sJ C f=true)(i:cu Q args)(a:p7 C j args=some S'):
 (callFunc f (bd D args).toArray).run C.P w=.ok (.enter f (bd D args).toArray) w/\
 Calls C.P f (bd D args).toArray w λu a6=>u=.returned (aq D (.tuple []))/\∃dT,bV C D Q S' k aS.heap.size dT/\eF C bP D Q j aS.heap.size w D Q S' dT/\Below dT.heap.size dT a6:=by
 unfold sJ at b;split at b
 ·rename_i fn d;rw[c3]at b;split at b
  ·have g:fn.name= "slices.Sort[[]int,int]":=(by grind);unfold p7 at a;split at a
   ·cases a;obtain⟨⟨l,m⟩,_⟩:=c.mem f fn d g w T;exact⟨l,m.mono λu a6 ⟨n,p⟩=>⟨n,w,I,.refl,p⟩⟩
   ·exact Ia c I T d g i.1 a
   ·exact Ia c I T d g i.1 a
   ·grind
  ·grind
 ·grind
mutual
def xt:∀(d:Nat) (x h:y),y.same d x h=true->x=h
 |0,_,_,e=>by simp[y.same]at e|d+1,x,h,e=>by
  unfold y.same at e;split at e<;>(try(cases e;done))
  ·simp at e;rw[e]
  ·simp at e;rw[e.1,e.2]
  ·rw[(uT _ _).1 e]
  ·simp only[Zt]at e;rw[Zr e.1,Zr e.2]
  ·rfl
  ·simp only[Zt]at e;rw[Zr e.1.1.1,Zr e.1.1.2,Zr e.1.2,Zr e.2]
  ·simp only[Zt]at e;rw[Zr e.1.1.1,Zr e.1.1.2,Zr e.1.2,Zr e.2]
  ·rfl
  ·rw[Zr e]
  ·rfl
  ·simp only[Zt,Zf]at e;rw[e.1.1,u5 d _ _ e.1.2,u5 d _ _ e.2]
  ·rfl
  ·simp only[Zt]at e;rw[Zr e.1,xt d _ _ e.2]
  ·rfl
  ·rw[u5 d _ _ e]
  ·rw[u5 d _ _ e]
def u5:∀(d:Nat) (x h:List y),iF (y.same d) x h=true->x=h
 |_,[],[],_=>rfl|_,[],_::_,e=>by simp[iF]at e|_,_::_,[],e=>by simp[iF]at e|d,a::x,b::h,e=>by simp only[iF,Zt]at e;rw[xt d _ _ e.1,u5 d _ _ e.2]
end
def Ends.same{aV:Machine}{a:y}(f:∀D,aq D a=aq D v)(e:Ends C aS a2 bc a aV):Ends C aS a2 bc v aV:=by obtain⟨D,a6,fr,b,c,d⟩:=e;exact⟨D,a6,fr,b,by rw[<-f];exact c,d⟩
def Qp{c:ci}{q:List ci}{bj:e8}:∀(l:List (y×B R)) (v:y),qA U c q bj z k l=some v->∀M S',(M,S')∈l->
 ∃b,(match iE c M with|some d=>U .run (d::q) bj z S' k|none=>none)=some b/\∀D,aq D b=aq D v:=by
 intro l;induction l with
 |nil=>grind|cons p l n=>
  intro v e M S' a;cases l with
  |nil=>simp at a;obtain⟨rfl,rfl⟩:=a;exact⟨v,e,λ_=>rfl⟩
  |cons V l=>
   simp only[qA]at e;split at e
   ·rename_i d r;split at e
    ·rename_i x h s m;simp only[cL,Zh]at e;obtain⟨i,rfl⟩:=e;rcases Zq.1 a with u|a
     ·grind
     ·obtain⟨b,f,g⟩:=n h m M S' a;exact⟨b,f,λD=>by rw[g D,xt _ _ _ i]⟩
    ·grind
   ·simp at e
def acD{M:y}{bY:List d3}{bP:Nat}{aM:List Item}(s:iN C D Q j a2 bc bP cs aa)(e:pJ ap cs=some (M,bY)):
 ∃a,iN C D Q j a2 bc bP bY a/\bp Q M/\(bY=[]->cs=[])/\
  (Go.tryRecover (bC D fn aP ap none tmps aM .run) aa=some (aq D M,a)\/(Go.tryRecover (bC D fn aP ap none tmps aM .run) aa=none/\aq D M=.nilIface/\a=aa)):=by
 unfold pJ at e;rw[c3]at e;cases ap with
 |false=>obtain⟨rfl,rfl⟩:=e;exact⟨aa,s,trivial,id,.inr ⟨by simp[Go.tryRecover,bC],rfl,rfl⟩⟩
 |true=>
  simp only[ZK]at e;cases cs with
  |nil=>grind|cons c rest=>
   obtain⟨g,A,x,w,G,f,b,d,i⟩:=c;obtain⟨T5,n,m,a,rfl,a7,bl,P,X,T0,T1⟩:=s.inv;have same:(M,bY)=(y.nilIface,(⟨g,A,x,w,G,f,b,d,i⟩:d3)::rest)->(∀v l,ea D b≠ .panicking (⟨v,false,false⟩::l))->
    ∃r,iN C D Q j a2 bc bP bY r/\bp Q M/\(bY=[]->(⟨g,A,x,w,G,f,b,d,i⟩:d3)::rest=[])/\
     (Go.tryRecover (bC D fn aP true none tmps aM .run) (bC D g f d i n m (ea D b)::a)=some (aq D M,r)\/
      (Go.tryRecover (bC D fn aP true none tmps aM .run) (bC D g f d i n m (ea D b)::a)=none/\aq D M=.nilIface/\r=bC D g f d i n m (ea D b)::a)):=by
    intro u T4;obtain⟨rfl,rfl⟩:=u;refine⟨_,s,trivial,λu=>(by cases u),.inr ⟨?_,rfl,rfl⟩⟩;simp only[Go.tryRecover,bC,ZK]
   simp only at e;split at e
   ·rename_i v l;simp only[Zh,YZ]at e;obtain⟨rfl,rfl⟩:=e;have N:jV Q (.panicking (⟨v,true⟩::l)):=by
     intro p t;rcases Zq.1 t with rfl|t
     ·exact bl ⟨v,false⟩ (Zp ..)
     ·exact bl p (Zw _ t)
    refine⟨bC D g f d i n m (ea D (.panicking (⟨v,true⟩::l)))::a,.cons a7 N P X T0 T1,bl ⟨v,false⟩ (Zp ..),λu=>(by cases u),.inl ?_⟩;simp[Go.tryRecover,bC,ea,nO]
   ·rename_i O;simp only[Zh]at e;refine same e.symm λv l u=> ?_;cases b with|run=>cases u|returning=>cases u|panicking L=>cases L with|nil=>cases u|cons p b2=>obtain⟨T3,T2⟩:=p;cases T2 with|true=>simp[ea,nO]at u|false=>exact O T3 b2 rfl
def abt{g:Nat}:∀(b2:List Nat) (b:List y) (z c:B y) (tmps:Array Value),fs D Q g ac z tmps->cu Q b->nj g b2 b z=some c->
 b2.length=b.length/\fs D Q g ac c ((b2.zip (bd D b)).foldl (λtmps p=>tmps.setIfInBounds p.1 p.2) tmps):=by
 intro b2;induction b2 with
 |nil=>
  intro b z c tmps d _ e;cases b with
  |nil=>simp[nj]at e;subst e;exact⟨rfl,by simpa[bd]using d⟩|cons a b=>simp[nj]at e
 |cons p b2 v=>
  intro b z c tmps d n e;cases b with
  |nil=>simp[nj]at e|cons a b=>
   simp only[nj,cL]at e;obtain⟨m,e⟩:=e;have m:=ht m;have s:fs D Q g ac (z.set p (some a)) (tmps.setIfInBounds p (aq D a)):=by
    refine⟨by simp[d.size],λt M r f=> ?_⟩;rw[B.eX]at f;by_cases u:p=t
    ·subst u;simp at f;subst f;exact⟨by simp[d.size,m],n.1⟩
    ·simp[u]at f;obtain⟨i,l⟩:=d.val t M r f;exact⟨by rw[Array.getElem?_setIfInBounds_ne u];exact i,l⟩
   obtain⟨i,l⟩:=v b _ c _ s n.2 e;exact⟨by simp[i],by simpa[bd]using l⟩
def Ex(TZ:Env C aS cn co)(A:h0 C aS a2 bc U){T8:ci}{q:List ci}{i:Nat}{l:List Nat}{J:Oper}{r:cj}(c:fg C aS a2 bc fn ac aP ap ro cs j k D Q w aW aa)
 (L:hr C D Q j aW af n ac z tmps (T8::q) (.inRegion ae (i::l)::aM))(X:aW<=af)(x:af<=k)(G:ae[i]? =some J)(N:Region.wanted J (yielded ae tmps)=true)
 (s:eU C D Q j k aS.heap.size w (execOp (gK tmps) J) r)(e:jn r U C T8 q ⟨fn,n,ac,aP,ap,ro,cs⟩ z j k=some v):
 Ends C aS a2 bc v (lone (bC D fn aP ap ro tmps (.inRegion ae (i::l)::aM) .run) aa w):=by
 have UJ:=ZD X x;have done:∀v M S' W,oE C D Q j k aS.heap.size w (execOp (gK tmps) J) M S' W->(match iE T8 M with|some UP=>U .run (UP::q) ⟨fn,n,ac,aP,ap,ro,cs⟩ z S' W|none=>none)=some v->
  Ends C aS a2 bc v (lone (bC D fn aP ap ro tmps (.inRegion ae (i::l)::aM) .run) aa w):=by
  intro v M S' W al e;obtain⟨bZ,b9,a6,U4,U8,U9,UA,UB,T1,TY⟩:=al;have UO:U4=.value (aq bZ M)\/(U4=.skip/\aq bZ M=Go.undef):=U9.imp id λ⟨a,b⟩=>⟨a,by rw[b];rfl⟩;refine .head (rD G N U8 UO) ?_;rw[<-s0 T1.eZ c.eI];exact qC A (c.ext UB (T1.mono UJ) TY) (L.K (T1.mono x)) (ZD x TY) UA e
 cases r with
 |val M=>exact done v M j k s e|cJ M S' W=>exact done v M S' W s e|enter f args=>obtain⟨m,g⟩:=s;refine .head (BA G N m) ?_;refine wc A c.I c.gi c.ec x ?_ (λu=>by simp[rG]at u) g e;exact .cons L trivial c.eI c.bot X c.cs
 |known f args M=>
  obtain⟨m,g,O⟩:=s;obtain⟨T4,U1⟩:=RZ TZ c.gi m;rcases T4 with T4|⟨T5,dx⟩
  ·rw[T4 D]at g;refine .head (rD G N g (.inl rfl)) ?_;exact qC A c L x (U1 Q) e
  ·rw[T5 D]at g;refine .head (BA G N g) ?_;obtain⟨u,a6,fr,⟨rfl,P⟩,T7,_,T6⟩:=dx D (bC D fn aP ap ro tmps (.inRegion ae (i::l)::aM) .run::aa);refine .steps T7 (.head (step_leave_returned T6) ?_);have T0:eF C af D Q j aS.heap.size w D Q j a6:=⟨λ_ _=>rfl,λ_ e=>e,λ_ e=> .inl e,λ_ _ _=>rfl,P.mono c.cB⟩;exact qC A (c.ext (c.I.later P) (T0.mono X) (Zg _)) (L.K T0) x (U1 Q) e
 |wrote f args am=>obtain⟨⟨m,UE⟩,g,O⟩:=s;obtain⟨T5,dx⟩:=S2 TZ c.I c.gi m O UE;rw[T5]at g;refine .head (BA G N g) ?_;obtain⟨u,a6,fr,⟨rfl,dT,UM,U3,P⟩,T7,_,T6⟩:=dx (bC D fn aP ap ro tmps (.inRegion ae (i::l)::aM) .run::aa);refine .steps T7 (.head (step_leave_returned T6) ?_);have T0:=U3.trans (Zg _) ⟨λ_ _=>rfl,λ_ e=>e,λ_ e=> .inl e,λ_ _ _=>rfl,P.mono (ZD c.cB U3.below.size)⟩;exact qC A (c.ext (UM.later P) (T0.mono X) (Zg _)) (L.K T0) x trivial e
 |round b args=>
  obtain⟨m,g,O⟩:=s;simp only[jn]at e;split at e
  ·rename_i st Ud U0 Ua UZ U5 params assign body UX UL;split at e
   ·rename_i U6 UF;obtain⟨T9,dI,f7,Ub,UR,US,Uc,UT⟩:=c.I.obj b _ UL O;obtain⟨UU,UV⟩:=abt params args U5 U6 T9 f7 g UF;rw[run_yield dI (by simp[fH,UU])]at m;refine .head (acc G N m) ?_;have UH:Frame.round (D b).bx U0 (((params.toArray).zip (bd D args).toArray).foldl (λtmps (t,a)=>tmps.setIfInBounds t a) T9) assign body .normal=
     bC D U0 [] false (some b) ((params.zip (bd D args)).foldl (λtmps p=>tmps.setIfInBounds p.1 p.2) T9) [.code assign,.beginRound,.code body] (ea D .run):=by
     simp[Frame.round,bC,ea]
    rw[UH];refine A _ _ _ _ _ _ _ _ _ _ _ _ v e D Q w af _ _ _ ?_;refine⟨c.I,c.gi,c.ec,x,⟨Zs,λl UI=>(by cases UI;exact O),UT⟩,trivial,λu=>by simp[rG]at u,.cons L trivial c.eI c.bot X c.cs, ?_⟩;exact .plain (.cons (.code UR) (.cons .begin (.cons (.code US) .nil))) UV
   ·simp at e
  ·simp at e
 |defer d=>
  obtain⟨m,g⟩:=s;simp only[jn]at e;cases ro with
  |some b=>simp at e|none=>
   simp only at e;refine .head (abY G N m) ?_;have UG:mE C Q fn ac (d::aP) none:=⟨λU7 al=>by
    rcases Zq.1 al with rfl|al
    ·exact g
    ·exact c.eI.aP U7 al,c.eI.ro,c.eI.fn⟩
   exact qC (M:=undef) A ⟨c.I,c.gi,c.ec,c.fV,UG,c.bot,c.cs⟩ L x trivial e
 |recover=>
  simp only[jn]at e;cases ro with
  |some b=>simp at e|none=>
   simp only at e;split at e
   ·rename_i M bY UN;obtain⟨UY,T2,T3,UC,UD⟩:=acD (aP:=aP) (aM:=.inRegion ae (i::l)::aM) c.cs UN;refine .head (ab8 G N s UD) ?_;exact qC A ⟨c.I,c.gi,c.ec,c.fV,c.eI,λu=>c.bot (UC u),T2⟩ L x T3 e
   ·simp at e
 |panic M=>
  obtain⟨m,g⟩:=s;simp only[jn]at e;cases ro with
  |some b=>simp at e|none=>simp only at e;refine .head (ab7 G N m) ?_;refine A _ _ _ _ _ _ _ _ _ _ _ _ v e D Q w aW tmps _ aa ?_;exact⟨c.I,c.gi,c.ec,c.fV,c.eI,λp U2=>by simp at U2;subst U2;exact g,c.bot,c.cs,L.drop⟩
 |fork UQ=>obtain⟨M,S',UK,al⟩:=s;simp only[jn]at e;obtain⟨UW,T2,T3⟩:=Qp UQ v e M S' UK;exact .same T3 (done UW M S' k al T2)
def GJ{J:Op}{d:Operand->Option y}{b:Nat}{M:y}{bQ:R}{a:Nat->Prop}(e:jN J C d b=some (M,bQ)):mJ C a bQ:=by
 have key:∀l:List y,mJ C a (.cells (B.ofList l 0 .nil) l.length .own):=λl=>⟨λ_ _ _ e=>(by cases e),λ_ _ _ e=>(by cases e;exact s4)⟩;have c:mJ C a (.map [] 0):=⟨λ_ _ _ e=>(by cases e),λ_ _ _ e=>(by cases e)⟩;cases J<;>simp only[jN]at e<;>(try(cases e;done));case alloc t=>unfold qZ at e;split at e<;>simp at e;rw[<-e.2];exact key _
 case box t x=>unfold uJ at e;split at e<;>simp at e;rw[<-e.2];exact key _
 case buildSlice t len f=>
  unfold uK at e;split at e
  ·split at e
   ·simp only[cL]at e;grind
   ·grind
  ·grind
 case makeMap t r=>cases r<;>simp at e;rw[<-e.2];exact c
def Pj{i:Nat}(af:ae.toList.drop i=[]):ae.size<=i:=by simp_all
def P9{ac:Nat}{ad:List (Nat×y)}:∀(l:List Oper) (i:Nat) (wr:List (Nat×Nat)) (b z a:B y),(∀t,dj ac t=true->z.get t=match cH wr t with|some E=>cH ad E|none=>b.get t)->
 nY ad (gE ac l i) z=some a->∀t,dj ac t=true->a.get t=match cH (ot l i wr) t with|some E=>cH ad E|none=>b.get t:=by
 intro l;induction l with
 |nil=>intro i wr b z a f e;simp[gE,nY]at e;subst e;exact f|cons J l U=>
  intro i wr b z a f e;simp only[gE]at e;split at e
  ·rename_i d al;rw[c3]at e;split at e
   ·rename_i T;simp only[nY]at e;split at e
    ·rename_i M g;simp only[dD]at e;refine U (i+1) _ b _ a (λt c=> ?_) e;rw[B.eX,sj,al];grind
    ·grind
   ·rename_i T;refine U (i+1) _ b _ a (λt c=> ?_) e;rw[sj,al];have u:d≠t:=λu=>T (by rw[u];exact c);simp[u];exact f t c
  ·rename_i al;refine U (i+1) _ b _ a (λt c=> ?_) e;rw[sj,al];simp;exact f t c
def FI{ad:List (Nat×y)}{z a:B y}(f:iS D Q ac (λ_=>True) (e0 ae ae.size) ad z tmps)(c:tmps.size=n)(e:nY ad (gE ac ae.toList 0) z=some a):fs D Q n ac a tmps:=by
 refine⟨c,λt M b d=> ?_⟩;have:=P9 (ad:=ad) ae.toList 0 [] z z a (λ_ _=>rfl) e t b;rw[d]at this;apply f t M trivial;have u:e0 ae ae.size=ot ae.toList 0 []:=by unfold e0;rw[Zy Zs]
 grind
def H2(T5:Env C aS cn co)(T7:h0 C aS a2 bc U){q:List ci}{fin:List (Nat×Nat)}:∀(rest:List de) (ad:List (Nat×y)) (j:B R) (k:Nat) (D:bT) (Q:Nat->Prop) (w:World) (tmps:Array Value) (l:List Nat) (aa:List Frame),
 fg C aS a2 bc fn ac aP ap ro cs j k D Q w aW aa->gV C D Q ac q aM->yk C D Q n ac ae ad rest fin z tmps l->
 pH rest ⟨U,ae,fin,q,⟨fn,n,ac,aP,ap,ro,cs⟩⟩ C z ad j k=some v->Ends C aS a2 bc v (lone (bC D fn aP ap ro tmps (.inRegion ae l::aM) .run) aa w):=by
 intro rest;induction rest with
 |nil=>
  intro ad j k D Q w tmps l aa d t T4 e;obtain⟨i,af,rfl,s,rfl,m,L⟩:=T4;have UN:ae.size<=i:=by cases al:ae.toList.drop i with|nil=>exact Pj al|cons J UG=>rw[al]at s;obtain⟨_,_,r,_,_,_,_,_,u⟩:=yC s;cases u
  have:i=ae.size:=Zo;subst this;simp only[Nat.sub_self];have c:uc ⟨U,ae,gE ac ae.toList 0,q,⟨fn,n,ac,aP,ap,ro,cs⟩⟩ C z ad j k=some v:=e;simp only[uc,wi,mr]at c;split at c
  ·rename_i UL U8;refine .head Ic ?_;exact T7 _ _ _ _ _ _ _ _ _ _ _ _ v c D Q w aW tmps aM aa (d.state (.plain t (FI m L U8)))
  ·simp at c
 |cons x rest X=>
  intro ad j k D Q w tmps l aa d t T4 e;obtain⟨i,af,rfl,s,rfl,m,L⟩:=T4;cases al:ae.toList.drop i with
  |nil=>rw[al]at s;simp[k1]at s|cons J UG=>
   rw[al]at s;obtain⟨g,op,r,bS,bU,TY,TZ,T0,u⟩:=yC s;cases u;obtain⟨f,U0,UM⟩:=yX al;rw[<-vf f, <-U0]at T0;have UA:List.range' i (ae.size-i)=i::List.range' (i+1) (ae.size-(i+1)):=(by rw[show ae.size-i=(ae.size-(i+1))+1 by omega,List.range'_succ]);rw[UA];have T6:=Fl TY;have P:∀(bZ:bT) (b9:Nat->Prop) (M:y),iS bZ b9 ac (λ_=>True) (e0 ae i) ad z tmps->bp b9 M->yk C bZ b9 n ac ae ((i,M)::ad) rest (gE ac ae.toList 0) z (j6 tmps J.dst (aq bZ M)) (List.range' (i+1) (ae.size-(i+1))):=(by intro bZ b9 M UC U7;exact⟨i+1,Zo,rfl,T0,rfl,UC.put f (by rw[L];exact T6) U7,by rw[xh];exact L⟩);have O:∀(bZ:bT) (M:Value),(bC bZ fn aP ap ro tmps (.inRegion ae (i::List.range' (i+1) (ae.size-(i+1)))::aM) .run).finish M=bC bZ fn aP ap ro (j6 tmps J.dst M) (.inRegion ae (List.range' (i+1) (ae.size-(i+1)))::aM) .run:=(by intro bZ M;rw[wk (g:=bC bZ fn aP ap ro tmps _ .run) rfl f];rfl);have c:rk i g op rest (pH rest) ⟨U,ae,gE ac ae.toList 0,q,⟨fn,n,ac,aP,ap,ro,cs⟩⟩ C z ad j k=some v:=e;simp only[rk,xH,mr]at c;split at c
   ·rename_i UK UF;have N:=xL af bS m (λ_ _ _ _ _=>trivial) (Sub.refl ad) UF;cases UK with
    |false=>simp only[ZA]at c;refine .head (BB f N) ?_;rw[O];exact X _ _ _ _ _ _ _ _ _ d t (P D Q undef m trivial) c|true=>
     simp only[ZK]at c;have T2:=Fy m (λ_ _=>trivial) TZ d.ec;rw[w6]at c;cases iX:hz op with
     |eP=>
      simp only[iX,mr]at c;split at c
      ·rename_i M UB;obtain⟨aL,bs⟩:=Gx d.I T2 bU UB;refine .head (rD f N aL (.inl rfl)) ?_;rw[O];exact X _ _ _ _ _ _ _ _ _ d t (P D Q M m bs) c
      ·simp at c
     |make=>
      simp only[iX,mr]at c;split at c
      ·rename_i res A;simp only[wO,gQ]at A;split at A
       ·rename_i M bQ T8;simp only[dD,Zh]at A;subst A;have T3:=kD d.I;obtain⟨h9,UH,UI,UJ⟩:=GI (w:=w) (D:=D) T3 T2 (wP bU T8);have p:eF C aW D Q j aS.heap.size w (dS D k ⟨w.heap.size,0,0⟩) (add Q k) (aI C j k (some bQ)) (w.alloc h9):=
         ⟨kc T3,λ_ e=> .inl e,λx e=>e.elim .inl (λe=> .inr (zK d.fV)),λx p UO=>by rw[dt _ d.I.aD,Zi (zK d.fV)],Below.alloc (Below.refl _ _) d.cB _⟩
        have U9:=d.I.alloc d.I.aD (Yt _) (Yd _) T3 d.cB rfl (S':=aI C j k (some bQ)) (by rw[dt _ d.I.aD,Zu rfl]) (λx p=> .inl (by rw[dt _ d.I.aD,Zi p])) UJ (GJ (wP bU T8));refine .head (rD f N UH (.inl rfl)) ?_;rw[O, <-s0 p.eZ d.eI];exact X _ _ _ _ _ _ _ _ _ (d.ext U9 p (Yd _)) (t.K p.eZ p.fv) (P _ _ M (m.K p.eZ p.fv) UI) c
       ·simp at A
      ·simp at c
     |dc=>
      simp only[iX,mr]at c;split at c
      ·rename_i res A;have T1:=F5 d.I d.cB T5.f8 T2 bU A;have UE:hr C D Q j aW k n ac z tmps (.lp ae ad i rest (gE ac ae.toList 0)::q) (.inRegion ae (i::List.range' (i+1) (ae.size-(i+1)))::aM):=
        .seq t ⟨J,f,T6,rfl,T0,rfl,m,L⟩
       have now:∀M S' W,oE C D Q j k aS.heap.size w (execOp (gK tmps) J) M S' W->pH rest ⟨U,ae,gE ac ae.toList 0,q,⟨fn,n,ac,aP,ap,ro,cs⟩⟩ C z ((i,M)::ad) S' W=some v->
        Ends C aS a2 bc v (lone (bC D fn aP ap ro tmps (.inRegion ae (i::List.range' (i+1) (ae.size-(i+1)))::aM) .run) aa w):=by
        intro M S' W al e;obtain⟨bZ,b9,a6,T9,U1,U2,U3,U4,G,U5⟩:=al;have UD:T9=.value (aq bZ M)\/(T9=.skip/\aq bZ M=Go.undef):=U2.imp id λ⟨a,b⟩=>⟨a,by rw[b];rfl⟩;refine .head (rD f N U1 UD) ?_;rw[O, <-s0 G.eZ d.eI];exact X _ _ _ _ _ _ _ _ _ (d.ext U4 (G.mono d.fV) U5) (t.K G.eZ G.fv) (P _ _ M (m.K G.eZ G.fv) U3) e
       have U6:jn res U C (.lp ae ad i rest (gE ac ae.toList 0)) q ⟨fn,n,ac,aP,ap,ro,cs⟩ z j k=some v->Ends C aS a2 bc v (lone (bC D fn aP ap ro tmps (.inRegion ae (i::List.range' (i+1) (ae.size-(i+1)))::aM) .run) aa w):=
        λe=>Ex T5 T7 d UE d.fV (Zg _) f N T1 e
       cases res with|val M=>exact now M j k T1 c|cJ M S' W=>exact now M S' W T1 c|_=>exact U6 c
      ·simp at c
   ·simp at c
def OZ{l:List Bool}(e:l.count false=0):∀b∈l,b=true:=by grind
def abl{ae:Array Oper}(A:rh ae.toList 0=true):∀(fuel t:Nat) (a:Array Bool),a.size=ae.size->a.toList.count false=fuel->
 mM ae (λi=>a.getD i false=true) (Region.linearise.go .any ae fuel t a []):=by
 intro fuel;induction fuel with
 |zero=>intro t a v l;refine .nil λi af=> ?_;have c:i<a.size:=Zo;have:=OZ l a[i] Zs;simp_all|succ fuel U=>
  intro t a v l;have C:∃i,i<ae.size/\a.getD i true=false:=by have p:false∈a.toList:=(by rw[<-List.count_pos_iff];omega);obtain⟨i,af⟩:=Z4.1 p;have c:i<a.size:=(by have:=(Ze.1 af).1;simpa using this);refine⟨i,Zo, ?_⟩;rw[Z5]at af;simp[af]
  have N:∃i,i<ae.size/\a.getD i true=false/\∀E,E<i->a.getD E false=true:=by
   have key:∀m,(∃i,i<m/\i<ae.size/\a.getD i true=false)->∃i,i<ae.size/\a.getD i true=false/\∀E,E<i->a.getD E false=true:=by
    intro m;induction m with
    |zero=>rintro⟨i,e,_⟩;omega
    |succ m X=>
     rintro⟨i,f,b,g⟩;by_cases V:∃i,i<m/\i<ae.size/\a.getD i true=false
     ·exact X V
     ·have:i=m:=by
       rcases zg i m with e|e
       ·exact absurd ⟨i,e,b,g⟩ V
       ·omega
      subst this;refine⟨i,b,g,λE G=> ?_⟩;have c:E<a.size:=Zo;cases T:a[E]with
      |true=>simp[c,T]|false=>exact absurd ⟨E,G,Zo,by simp[c,T]⟩ V
   obtain⟨i,f,b⟩:=C;exact key (i+1) ⟨i,Zo,f,b⟩
  obtain⟨i0,s,P,x⟩:=N;have O:i0∈Region.ready .any ae a:=by rw[mem_ready];refine⟨P,ae[i0],Y2 s,λu n T=> ?_⟩;have:=TH A i0 ae[i0] (by rw[Z5];exact Y2 s) u (by simpa using n) T;exact x _ Zo
  change mM ae _ (match (Region.ready .any ae a)[t%(Region.ready .any ae a).length]? with
   |some i=>Region.linearise.go .any ae fuel (t/(Region.ready .any ae a).length) (a.setIfInBounds i true) [i]|none=>[].reverse)
  have L:=List.length_pos_of_mem O;have c:t%(Region.ready .any ae a).length<(Region.ready .any ae a).length:=Nat.mod_lt _ L;rw[Zb c];simp only[];generalize af:(Region.ready .any ae a)[t%(Region.ready .any ae a).length]=i;have p:i∈Region.ready .any ae a:=by rw[<-af];exact zs c
  obtain⟨f,J,b,g⟩:=mem_ready.1 p;have T0:=(Z9.1 b).1;have d:i<a.size:=Zo;have r:a[i]=false:=by simpa[d]using f
  rw[linearise_go_acc];refine .cons b (by simp[d,r]) (λu n T=>g u (by simpa using n) T) ?_;have w:add (λi=>a.getD i false=true) i=λE=>(a.setIfInBounds i true).getD E false=true:=by
   funext E;apply propext;unfold add;by_cases u:E=i
   ·subst u;simp[d]
   ·rw[getD_set_ne false (λV=>u V.symm)];simp[u]
  rw[w];refine U _ _ (by simpa using v) ?_;rw[Array.toList_setIfInBounds,List.count_set (by simpa using d)];have:(a.toList[i]'(by simpa using d))=false:=by simpa using r
  simp[this,l]
def abm{ae:Array Oper}(a:rh ae.toList 0=true)(t:Nat):mM ae (λ_=>False) (Region.schedule true ae t):=by
 have:=abl a ae.size t (Array.replicate ae.size false) Zs Zs;have u:(λi=>(Array.replicate ae.size false).getD i false=true)=λ_=>False:=by funext i;by_cases e:i<ae.size<;>simp[e]
 rw[u]at this;exact this
def Rx{op:fM}(b:hz op=.eP)(a:pG op=false)(j S':B R)(ad:List (Nat×y))(z:B y):eb op C j ad z=eb op C S' ad z:=by cases op<;>simp only[eb]<;>(try rfl)<;>simp[pG]at a;case eP bi J=>cases J<;>simp[pG]at a<;>rfl
def jj.refl(j:B R):jj C j j:=λ_=> .inl rfl
def jj.trans{am ah a:B R}(e:jj C am ah)(q:jj C ah a):jj C am a:=λx=>by
 rcases e x with e|e
 ·rcases q x with q|q
  ·grind
  ·grind
 ·grind
def Gv(j:B R):jj C .nil j:=by
 intro b;unfold F;rw[c3,c3];split
 ·grind
 ·simp_all
def O8{base:Nat}(U4:C.aD<=base):∀(l:List de) (ad:List (Nat×y)) (j:B R) (c:List (Nat×y)) (S':B R),(l.Pairwise λa b=>a.i≠b.i)->(∀x∈l,cH ad x.i=none/\F C j (base+x.i)=none/\h6 x.op=false)->
 nS C base z l ad j=some (c,S')->Sub ad c/\jj C j S'/\(∀i,cH c i≠none->cH ad i≠none\/∃x∈l,x.i=i)/\(∀b,F C S' b≠F C j b->∃x∈l,b=base+x.i)/\
 ∀x∈l,∃M,(∀Q,vr C Q S' base c z x M)/\tE C S' c z x M:=by
 intro l;induction l with
 |nil=>intro ad j c S' _ _ e;obtain⟨rfl,rfl⟩:=e;exact⟨Sub.refl _,jj.refl _,λi e=> .inl e,λb e=>absurd rfl e,Zs⟩
 |cons x l U=>
  intro ad j c S' O N e;rw[Yy]at O;obtain⟨P,TY⟩:=O;obtain⟨s,v,w⟩:=N x (Zp ..);have step:∀(M:y) (am:B R),jj C j am->(∀b,F C am b≠F C j b->b=base+x.i)->nS C base z l ((x.i,M)::ad) am=some (c,S')->
   (∀c S',Sub ((x.i,M)::ad) c->jj C am S'->(F C am (base+x.i)≠none->F C S' (base+x.i)=F C am (base+x.i))->(∀Q,vr C Q S' base c z x M)/\tE C S' c z x M)->
   Sub ad c/\jj C j S'/\(∀i,cH c i≠none->cH ad i≠none\/∃d∈x::l,d.i=i)/\(∀b,F C S' b≠F C j b->∃d∈x::l,b=base+d.i)/\∀d∈x::l,∃M,(∀Q,vr C Q S' base c z d M)/\tE C S' c z d M:=by
   intro M am T6 L al U1;have U0:Sub ad ((x.i,M)::ad):=Sub.cons s;have T4:∀d∈l,cH ((x.i,M)::ad) d.i=none/\F C am (base+d.i)=none/\h6 d.op=false:=by
    intro d jW;obtain⟨T1,T2,T3⟩:=N d (Zw _ jW);have T8:=P d jW;refine⟨by rw[kq,Zi T8];exact T1, ?_,T3⟩;by_cases V:F C am (base+d.i)=F C j (base+d.i)
    ·rw[V];exact T2
    ·have:=L _ V;omega
   obtain⟨a7,bl,U2,T0,U3⟩:=U _ _ _ _ TY T4 al;have r:F C S' (base+x.i)=F C am (base+x.i):=by
    by_cases V:F C S' (base+x.i)=F C am (base+x.i)
    ·exact V
    ·obtain⟨d,jW,u⟩:=T0 _ V;exact absurd Zo (P d jW)
   refine⟨U0.trans a7,T6.trans bl,λi af=> ?_,λb T=> ?_,λd jW=> ?_⟩
   ·rcases U2 i af with m|⟨d,m,A⟩
    ·rw[kq]at m;split at m
     ·rename_i u;exact .inr ⟨x,Zp ..,u⟩
     ·exact .inl m
    ·exact .inr ⟨d,Zw _ m,A⟩
   ·by_cases V:F C S' b=F C am b
    ·rw[V]at T;exact⟨x,Zp ..,L b T⟩
    ·obtain⟨d,m,A⟩:=T0 b V;exact⟨d,Zw _ m,A⟩
   ·rcases Zq.1 jW with rfl|jW
    ·exact⟨M,U1 c S' a7 bl (λ_=>r)⟩
    ·exact U3 d jW
  have r:∀(M:y) (c:List (Nat×y)),Sub ((x.i,M)::ad) c->cH c x.i=some M:=λM c f=>f _ _ (by rw[kq,Zu rfl]);simp only[nS]at e;split at e
  ·simp at e
  ·rename_i p;refine step undef j (jj.refl _) (λb T=>absurd rfl T) e λc S' f t _=> ?_;have g:=(Sub.cons s).trans f;exact⟨λQ=>⟨r _ _ f,ad,false,g,p,λ_=>rfl,Zs⟩,ad,.nil,false,g,Gv _,p,Zs⟩
  ·rename_i p;cases n:hz x.op with
   |make=>
    rw[n]at e;simp only at e;split at e
    ·rename_i M bQ T7;simp only[dD]at e;have T:C.aD<=base+x.i:=Zo;refine step M _ (λb=> ?_) (λb G=> ?_) e λc S' f t T5=> ?_
     ·rw[dt _ T];by_cases u:b=base+x.i
      ·subst u;exact .inr v
      ·rw[Zi u];exact .inl rfl
     ·rw[dt _ T]at G;by_cases u:b=base+x.i
      ·exact u
      ·rw[Zi u]at G;exact absurd rfl G
     ·have g:=(Sub.cons s).trans f;have T9:F C S' (base+x.i)=some bQ:=(by rw[T5 (by rw[dt _ T,Zu rfl];simp),dt _ T,Zu rfl]);exact⟨λQ=>⟨r _ _ f,ad,true,g,p,Zs,λ_=>⟨w,λ_=>⟨bQ,T7,T9⟩,λV=>by rw[n]at V;cases V⟩⟩,ad,j,true,g,
       (by
        intro b;rcases t b with V|V
        ·rw[dt _ T]at V;by_cases u:b=base+x.i
         ·subst u;exact .inr v
         ·rw[Zi u]at V;exact .inl V
        ·rw[dt _ T]at V;by_cases u:b=base+x.i
         ·subst u;exact .inr v
         ·rw[Zi u]at V;exact .inr V),p,λ_ V=>by rw[n]at V;cases V⟩
    ·simp at e
   |eP=>
    rw[n]at e;simp only at e;split at e
    ·rename_i M X;refine step M j (jj.refl _) (λb T=>absurd rfl T) e λc S' f t _=> ?_;have g:=(Sub.cons s).trans f;exact⟨λQ=>⟨r _ _ f,ad,true,g,p,Zs,λ_=>⟨w,λV=>(by rw[n]at V;cases V),λ_ TZ en=>by rw[Rx n TZ en j];exact X⟩⟩,ad,j,true,g,t,p,λ_ _=>X⟩
    ·simp at e
   |dc=>simp[h6,n]at w
end
end Go.aC
