/- Part of the proof of the last text; no conditions -/
import Derived.Test.YtehmapikajmjaaaGreatDoorYq
import Derived.Test.YtehmapikajmjaaaGreatDoorRows
import Derived.ProofKit
set_option maxHeartbeats 8000000
set_option linter.all false
namespace Go.Proofs.YtehmapikajmjaaaGreatDoor
open Go.aF Go.ak
noncomputable section
def nR{f:Int×Int}{c:Int}(a:Int)(h:f.1≠29)(b:c≠29):(g8 f c a).1≠29:=by unfold g8;split;exact b;exact h
def ul{α a:Type}(st:a->α->a)(p:a->Int×Int)(h:∀s x,(p s).1≠29->(p (st s x)).1≠29):∀(l:List α) (s:a),(p s).1≠29->(p (l.foldl st s)).1≠29:=by intro l;induction l with|nil=>intro s b;exact b|cons x l U=>intro s b;exact U _ (h s x b)
mutual
def IF{st:(Int×Int)->aX->(Int×Int)×Bool}(h:∀s e,s.1≠29->(st s e).1.1≠29):∀(e:aX) (s:Int×Int),s.1≠29->(np st s e).1≠29
 | .mk k a nm no t n args,s,b=>by
   rw[np];split
   ·exact IH h args _ (h _ _ b)
   ·exact h _ _ b
def IH{st:(Int×Int)->aX->(Int×Int)×Bool}(h:∀s e,s.1≠29->(st s e).1.1≠29):∀(l:List aX) (s:Int×Int),s.1≠29->(lv st s l).1≠29
 |[],s,b=>by rw[lv];exact b|e::l,s,b=>by rw[lv];exact IH h l _ (IF h e s b)
end
def Tp(Y:List GT)(k:Nat)(g:GT):(gZ Y k g).1≠29:=by
 have c:(j6 Y k g).1≠29:=by unfold j6;split;exact nR _ Zd Zd;decide
 have b:(kt (c6 g) g (j6 Y k g)).1≠29:=by
  unfold kt;refine ul (jp (c6 g)) id (λs x a=> ?_) _ _ (ul gI Prod.snd (λs x a=> ?_) _ _ c)
  ·simp only[jp,id];split<;>first|exact nR _ a Zd|exact a
  ·simp only[gI];split<;>first|exact nR _ a Zd|exact a
 have K:∀(f:Int×Int) (e:aX),f.1≠29->(u7 (c6 g) Y k f e).1≠29:=λf e h=>IF (λs e a=>by
  show(pE Y k (lq (c6 g) s e) e).1≠29;have b:(lq (c6 g) s e).1≠29:=by
   unfold lq;split
   ·split
    ·exact a
    ·exact nR _ a Zd
   ·exact a
  unfold pE;split
  ·split
   ·exact nR _ b Zd
   ·split
    ·exact nR _ b Zd
    ·exact b
  ·exact b) e f h
 have d:(g.eqs.foldl (gP (c6 g) Y k) (λ_=>none,kt (c6 g) g (j6 Y k g))).2.1≠29:=by
  refine ul (gP (c6 g) Y k) Prod.snd (λs V a=> ?_) _ _ b;unfold gP;refine K _ _ (ul (hU (c6 g)) Prod.snd (λs x a=> ?_) _ _ a);show(qS (c6 g) s.1 s.2 x.1 x.2).1≠29;unfold qS;split
  ·exact nR _ a Zd
  ·split
   ·exact nR _ a Zd
   ·exact a
 unfold gZ;refine ul (jd _) id (λs x a=> ?_) _ _ d;simp only[jd,id];split
 ·exact nR _ a Zd
 ·exact a
def OE(Y:List GT):∀(l:List GT) (k:Nat),(mR Y k l).1≠29:=by
 intro l;induction l with
 |nil=>intro k;rw[mR];decide|cons g l U=>
  intro k;rw[mR];split
  ·exact Tp Y k g
  ·exact U _
def aaU(Y:List GT):(jD Y).1≠29:=by
 unfold jD;split
 ·exact OE Y Y 0
 ·cases vf Y with|some a=>show(26:Int)≠29;decide|none=>show(0:Int)≠29;decide
def yz(Y:List GT)(a:Int):Prop:=∃g∈Y,∃k nm v,(eQ g)[k]? =some nm/\jP (dZ g) k k/\c6 g nm=some v/\((∃(i:Nat) (V:cA),v.eq=i/\g.eqs[i]? =some V/\a=V.at_)\/(v.eq<0/\a=v.d.cC))
def yk.round{Y:List GT}{a:Int}(h:yk Y 29 a):(jD Y).1=0/\yz Y a:=by
 rcases h with ⟨_,h⟩|⟨b,⟨h,_⟩|⟨_,g,c,_,k,nm,v,h⟩⟩
 ·exact absurd (congrArg Prod.fst h).symm (aaU Y)
 ·cases h
 ·exact⟨b,g,c,k,nm,v,h⟩
def TD{α cr:Type}{f:α->List cr}:∀{l:List α},(l.flatMap f).Nodup->∀{i j:Nat}{a b:α}{x:cr},l[i]? =some a->l[j]? =some b->x∈f a->x∈f b->i=j:=by
 intro l;induction l with
 |nil=>intro _ i j a b x h;simp at h|cons c l U=>
  intro n i j a b x ag d e W;rw[YR,YB]at n;obtain⟨_,p,g⟩:=n;have m:∀{k:Nat}{o:α},l[k]? =some o->x∈f o->x∈l.flatMap f:=λr s=>zd.2 ⟨_,Zl r,s⟩;cases i with
  |zero=>
   cases j with
   |zero=>rfl|succ j=>rw[Z9]at ag;cases ag;exact absurd rfl (g _ e _ (m (by simpa using d) W))
  |succ i=>cases j with|zero=>rw[Z9]at d;cases d;exact absurd rfl (g _ W _ (m (by simpa using ag) e))|succ j=>exact congrArg (·+1) (U p (i:=i) (j:=j) (by simpa using ag) (by simpa using d) e W)
def TE{α cr:Type}{f:α->List cr}:∀{l:List α},(l.flatMap f).Nodup->∀a∈l,(f a).Nodup:=by
 intro l;induction l with
 |nil=>intro _ a h;cases h|cons c l U=>
  intro d a b;rw[YR,YB]at d;rcases Zq.1 b with rfl|b
  ·exact d.1
  ·exact U d.2.1 a b
def abh{Y:List GT}{a A:Int}(X:pY Y A)(T9:∀g∈Y,hN gm g)(L:∀(i:Nat) g,Y[i]? =some g->(gZ Y i g).1=0)(h:yz Y a){i j:Nat}{g:GT}{V:cA}(ag:Y[i]? =some g)(f:g.eqs[j]? =some V)(s:V.at_=a):
 ∃k nm,(eQ g)[k]? =some nm/\nm∈V.left/\jP (dZ g) k k:=by
 obtain⟨c,n,k,nm,v,N,O,m,T4⟩:=h;obtain⟨t,l⟩:=Yv n;have P:(oX Y).Nodup:=X.eqs.imp λh=>Int.ne_of_lt h;have r:∀{g:GT}{V:cA}{j:Nat},g.eqs[j]? =some V->V.at_∈g.eqs.map cA.at_:=λh=>YU (Zl h);rcases T4 with ⟨TZ,U4,T2,b,C⟩|⟨T2,b⟩
 ·have:i=t:=TD P ag l (r f) (by rw[s,C];exact r b)
  subst this;rw[ag]at l;cases l;have T6:(g.eqs.map cA.at_).Nodup:=TE P g n
  have:j=TZ:=(za (by simpa using (Ze.1 f).1) T6).1 (by rw[Zt,Zt,f,b];simp[s,C])
  subst this;rw[f]at b;cases b;rcases vd m with ⟨T3,_⟩|⟨i3,U5,T3,G,f3⟩
  ·omega
  ·have:i3=j:=Zo
   subst this;rw[f]at G;cases G;exact⟨k,nm,N,f3,O⟩
 ·exfalso;obtain⟨U2,T8,U3⟩:=B4 (L t c l) m;have T5:v.kind=1:=Yg λp=>by obtain⟨i3,_,e,_⟩:=T8 p;omega
  have T7:v.d.on≠[]:=by
   obtain⟨bl,dB⟩:∃bl,bl∈bR (dZ c) k:=by cases O with|one h=>exact⟨_,h⟩|more h _=>exact⟨_,h⟩
   obtain⟨w,_,TY⟩:=(Hb (L t c l) (T9 c n) N).1 dB;intro p;simp[uK,m,T5,p]at TY
  obtain⟨x,T0,U0,T1,U1⟩:=xO m;have ai:v.d∈c.bb:=by
   rw[T1];simp only[c3,Zp,ZC]at T0;simp only[Node.bb,Zp];rcases T0 with ⟨d,h,rfl⟩|⟨d,h,rfl⟩|⟨d,h,rfl⟩
   ·exact .inl h
   ·exact .inr (.inl h)
   ·exact .inr (.inr h)
  exact(X.on c n _ ai T7).2 (by rw[<-b, <-s];exact zd.2 ⟨g,Zl ag,r f⟩)
def abi{Y:List GT}{a:Int}(T0:∀g∈Y,hN gm g)(m:∀(i:Nat) g,Y[i]? =some g->(gZ Y i g).1=0)(h:yz Y a)(O:∀g∈Y,∀V∈g.eqs,V.at_≠a):
 ∃g∈Y,∃d∈g.bb,d.on≠[]/\d.cC=a:=by
 obtain⟨b,c,k,nm,v,C,G,j,L⟩:=h;obtain⟨r,n⟩:=Yv c;rcases L with ⟨T7,T2,t,f,A⟩|⟨t,f⟩
 ·exact absurd A.symm (O b c T2 (Zl f))
 ·obtain⟨T5,X,T6⟩:=B4 (m r b n) j;have N:v.kind=1:=Yg λl=>by obtain⟨i3,_,e,_⟩:=X l;omega
  have P:v.d.on≠[]:=by
   obtain⟨bl,dB⟩:∃bl,bl∈bR (dZ b) k:=by cases G with|one h=>exact⟨_,h⟩|more h _=>exact⟨_,h⟩
   obtain⟨w,_,T1⟩:=(Hb (m r b n) (T0 b c) C).1 dB;intro l;simp[uK,j,N,l]at T1
  obtain⟨x,p,T3,s,T4⟩:=xO j;refine⟨b,c,v.d, ?_,P,f.symm⟩;rw[s];simp only[c3,Zp,ZC]at p;simp only[Node.bb,Zp];rcases p with ⟨d,h,rfl⟩|⟨d,h,rfl⟩|⟨d,h,rfl⟩
  ·exact .inl h
  ·exact .inr (.inl h)
  ·exact .inr (.inr h)
structure lx(a:List (List Nat))(x:Nat)(seen todo:List Nat):Prop where
 once:seen.Nodup
 xI:∀o∈seen,o<a.length
 xQ:∀o∈todo,o<a.length
 start:∀o∈bR a x,o∈seen\/o∈todo
 all:∀o∈seen,∀aj∈bR a o,aj∈seen\/aj∈todo
def lx.new{a:List (List Nat)}(x:Nat)(h:∀o∈bR a x,o<a.length):lx a x [] (bR a x):=⟨List.nodup_nil,Zs,h,λo b=> .inr b,Zs⟩
def lx.he{c:List (List Nat)}{x k:Nat}{seen todo:List Nat}(h:lx c x seen (k::todo))(b:k∈seen):lx c x seen todo:=
 ⟨h.once,h.xI,λo a=>h.xQ o (Zw _ a),λo a=>(h.start o a).elim .inl λh=>(Zq.1 h).elim (λe=> .inl (e▸b)) .inr,
  λo a aj d=>(h.all o a aj d).elim .inl λh=>(Zq.1 h).elim (λe=> .inl (e▸b)) .inr⟩
def lx.step{f:List (List Nat)}{x k:Nat}{seen todo:List Nat}(h:lx f x seen (k::todo))(j:k∉seen)(l:∀o∈bR f k,o<f.length):lx f x (seen++[k]) (todo++bR f k):=by
 have g:∀aj,aj∈seen\/aj∈k::todo->aj∈seen++[k]\/aj∈todo++bR f k:=λaj d=>by
  rcases d with d|d
  ·exact .inl (Zp.2 (.inl d))
  ·rcases Zq.1 d with rfl|d
   ·exact .inl Zs
   ·exact .inr (Zp.2 (.inl d))
 refine⟨?_, ?_, ?_,λo c=>g o (h.start o c), ?_⟩
 ·rw[YB];exact⟨h.once,Zs,λa i b W=>by rw[ZB.1 W];exact λe=>j (e▸i)⟩
 ·intro o c;rcases Zp.1 c with c|c
  ·exact h.xI o c
  ·rw[ZB.1 c];exact h.xQ k (Zr ..)
 ·intro o c;rcases Zp.1 c with c|c
  ·exact h.xQ o (Zw _ c)
  ·exact l o c
 ·intro o c aj d;rcases Zp.1 c with c|c
  ·exact g aj (h.all o c aj d)
  ·rw[ZB.1 c]at d;exact .inr (Zp.2 (.inr d))
def lx.done{c:List (List Nat)}{x:Nat}{seen:List Nat}(h:lx c x seen [])(K:jP c x x):x∈seen:=by
 have f:∀o∈bR c x,o∈seen:=λo d=>(h.start o d).resolve_right Zs;have e:∀o∈seen,∀aj∈bR c o,aj∈seen:=λo d aj g=>(h.all o d aj g).resolve_right Zs;have key:∀a b,jP c a b->a∈seen->b∈seen:=λa b h=>by induction h with|one h=>exact λV=>e _ V _ h|more h _ U=>exact λV=>U (e _ V _ h)
 cases K with|one h=>exact f _ h|more h k=>exact key _ _ k (f _ h)
section
variable{X:bi}{q D au am:E S}{u Z ap aw:Nat}{P aI:Nat->Prop}
def Gj(C:bZ X){s:z}{l:List aA}{b:Nat}(h:cl X q P b s 1 (dh l))(x:aA):
 aD X 11 [s,.str x] q u (λR D Z=>D=q/\u<=Z/\((R=.Z (-1)/\x∉l)\/∃i:Nat,R=.Z (i:Int)/\l[i]? =some x)) zX:=by
 refine Fd C (CB ..) ?_;unfold yr;have v:(dh l).length=l.length:=by simp[dh]
 have t:=h.len;have G:=h.many;rw[v]at t G;refine bo @t ⟨?_⟩;refine cM (λm B D N=>∃(j:Nat),B.g 0=some s/\B.g 1=some (.str x)/\B.g 7=some (.Z l.length)/\B.g 8=some (.Z j)/\j+m=l.length/\D=q/\u<=N/\x∉l.take j)
  l.length ⟨0,aC,aC,aC,cT,Zo,rfl,Zg _,Zs⟩ ?_
 rintro m B am aw ⟨j,t0,t1,c,n,O,rfl,f,g⟩;cases m with
 |zero=>have d:=zM j l.length;rw[Zy Zo]at g;refine cg @n @c @d ⟨?_⟩;exact⟨rfl,f,.inl ⟨rfl,g⟩⟩|succ m=>
  have d:=zN j l.length;have A:=zQ j;obtain⟨o,k⟩:∃w,l[j]? =some w:=⟨_,Zb Zo⟩;have L:(dh l)[j]? =some [.str o]:=by unfold dh;rw[Zt,k];rfl
  have p:=h.c4 j (by rw[v];omega);have r:=h.cell j _ 0 _ L rfl;rw[ZF]at p;rw[ZF,ZN]at r;by_cases a:x=o
  ·have e:decide (x=o)=true:=(by simp[a]);refine cu @n @c @t1 @t0 @d @p (Za @r @e) ⟨?_⟩;exact⟨rfl,f,.inr ⟨j,rfl,by rw[a];exact k⟩⟩
  ·have e:decide (x=o)=false:=(by simp[a]);refine cu @n @c @t1 @t0 @d @p (Za @r (Za @e @A)) ⟨?_⟩;exact⟨m,Zo,j+1,af t0,af t1,af c,aC,Zo,rfl,f,by rw[ZD,k];simp[g,a]⟩
def ko(X:bi)(q:E S)(aT ag k:Nat)(v:z)(ao:List Int):Prop:=
 (∃b I c,v=.cq b I ao.length 1/\k<=I/\aT<=b/\b<ag/\H X q b=some (.cells c (I+ao.length) (.grow []))/\∀(j:Nat) aj,ao[j]? =some aj->c.get (I+j)=some (.Z aj))\/
 (∃b I l c n,v=.gf b I l 1/\ao=[]/\aT<=b/\b<ag/\H X q b=some (.cells c n (.grow [])))
def oJ(X:bi)(q:E S)(aT ag:Nat)(v:z)(ao:List Int):Prop:=(v=.ax/\ao=[])\/ko X q aT ag 0 v ao
def oJ.len{aT ag:Nat}{v:z}{ao:List Int}(h:oJ X q aT ag v ao):c0 v=some (.Z ao.length):=by
 rcases h with ⟨rfl,rfl⟩|⟨b,I,c,rfl,_⟩|⟨b,I,l,c,n,rfl,rfl,_⟩
 ·rfl
 ·simp[c0,hC]
 ·rfl
def ko.M{aT ag gb k:Nat}{v:z}{ao:List Int}(h:ko X q aT ag k v ao)(g:∀o,aT<=o->o<ag->H X D o=H X q o)(p:ag<=gb):ko X D aT gb k v ao:=by
 rcases h with ⟨b,I,c,e,j,a,d,f,m⟩|⟨b,I,l,c,n,e,i,a,d,f⟩
 ·exact .inl ⟨b,I,c,e,j,a,Zo,by rw[g b a d];exact f,m⟩
 ·exact .inr ⟨b,I,l,c,n,e,i,a,Zo,by rw[g b a d];exact f⟩
def ko.at{aT ag k:Nat}{v:z}{ao:List Int}(h:ko X q aT ag k v ao):oJ X q aT ag v ao:=by
 rcases h with ⟨b,I,c,e,a,h⟩|h
 ·exact .inr (.inl ⟨b,I,c,e,zB _,h⟩)
 ·exact .inr (.inr h)
def oJ.pop{aT ag:Nat}{v:z}{aj:Int}{ao:List Int}(h:oJ X q aT ag v (aj::ao)):
 ∃b I p,c8 1 v (.Z 0)=some (.ptr b I)/\ay X q (.ptr b I)=some (.Z aj)/\fw X q 1 v (some (.Z 1)) none none=some p/\ko X q aT ag 1 p ao:=by
 rcases h with ⟨_,h⟩|⟨b,I,c,rfl,C,f,g,d,k⟩|⟨b,I,l,c,n,_,h,_⟩
 ·cases h
 ·have e:(aj::ao).length=ao.length+1:=rfl;rw[e]at d;have t:=m4 (aN:=1) (b:=b) (I:=I) (cap:=1) (len:=ao.length+1) (i:=0) .i64 Zo;have m:=k 0 aj rfl;rw[ZN]at m;have x:ii X q b=some (I+(ao.length+1)):=by simp[ii,d]
  have r:(I+(ao.length+1) -I)/1=ao.length+1:=by rw[zI];omega
  have s:fW (ao.length+1) (ao.length+1) (some (.Z 1)) none none=some (1,ao.length+1,ao.length+1):=by have ap:hc (.Z 1)=some 1:=rfl;have bc:Nat.ble 1 (ao.length+1)=true:=de Zo;simp[fW,ho,ap,bc,cY]
  refine⟨b,I,(if ao=[]then .gf b I 1 1 else .cq b (I+1) ao.length 1),by rw[e,show((0:Int))=((0:Nat):Int) from rfl,t,zu,ZN],by rw[a8 d];exact m, ?_, ?_⟩
  ·rw[e];simp only[fw,x,r,s];by_cases a:ao=[]
   ·subst a;simp[cY,Nat.blt,Nat.ble,Nat.beq]
   ·have G:0<ao.length:=ZP.2 a;have bp:Nat.blt 1 (ao.length+1)=true:=(by simp[Nat.blt];omega);rw[Zi a];simp[cY,bp,Nat.blt,Nat.ble,Nat.beq];exact a
  ·by_cases a:ao=[]
   ·rw[Zv a];exact .inr ⟨b,I,1,c,_,rfl,a,f,g,d⟩
   ·rw[Zi a];exact .inl ⟨b,I+1,c,rfl,Zo,f,g,by rw[d];congr 2;omega,λj A w=>by
     have:=k (j+1) A w;rwa[show I+(j+1)=I+1+j by omega]at this⟩
 ·cases h
def δ(l:List Int):dU (l.map λaj=>z.Z aj)=true:=by induction l with|nil=>rfl|cons a l U=>simp[dU,U,hI]
def ko.make{aT:Nat}{ao:List Int}(c:(y X).aB<=u)(b:aT<=u)(h:H X q u=some (.cells (E.ofList (ao.map λaj=>z.Z aj) 0 .nil) (ao.map λaj=>z.Z aj).length (.grow []))):ko X q aT (u+1) 0 (.cq u 0 ao.length 1) ao:=
 .inl ⟨u,0,_,rfl,Zg _,b,Yr _,by rw[h,Zj,ZK],λj aj a=>by rw[ZK,g0,Zt,a];rfl⟩
def acE{aT:Nat}{x:z}{m:List Int}{T:aY}(a:(y X).aB<=u)(d:aT<=u)(b:fQ X q 1 x=some (m.length,m.map λaj=>z.Z aj))(e:m.length<=1048576)
 (k:∀c D Z,oJ X D aT Z c m->u<=Z->(∀o,o<u->H X D o=H X q o)->T c D Z):ek (eV X q u 1 .ax x) q u T:=by
 cases m with|nil=>refine xv (v:=.ax) ?_ (k _ _ _ (.inl ⟨rfl,rfl⟩) (Zg _) (λ_ _=>rfl));simp only[eV,b];rfl|cons aj m=>refine d8 (EP b (Nat.succ_pos _) e) (k _ _ _ (.inr (ko.make a d ?_)) Zo λo f=>by rw[ah Zo Zo]);rw[aM a]
def ko.app{aT:Nat}{v x:z}{ao m:List Int}{T:aY}(T2:(y X).aB<=aT)(A:aT<=u)(h:ko X q aT u 1 v ao)(r:fQ X q 1 x=some (m.length,m.map λaj=>z.Z aj))(i:ao.length+m.length<=1048576)
 (k:∀C D Z,oJ X D aT Z C (ao++m)->u<=Z->(∀o,o<aT->H X D o=H X q o)->T C D Z):ek (eV X q u 1 v x) q u T:=by
 cases m with
 |nil=>
  rw[ZY]at k;refine xv (v:=v) ?_ (k _ _ _ h.at (Zg _) (λ_ _=>rfl));simp only[eV,r];rcases h with ⟨b,I,c,rfl,G,f,g,a,w⟩|⟨b,I,l,c,n,rfl,rfl,f,g,a⟩
  ·have P:ii X q b=some (I+ao.length):=(by simp[ii,a]);have bc:Nat.ble (I+ao.length*1) (I+ao.length)=true:=de Zo;simp[mM,P,bc,cY]
  ·simp[mM,cY]
 |cons aj m=>
  have T1:((aj::m).map λaj=>z.Z aj).length=(aj::m).length:=Zj _;have t:=δ (aj::m);generalize e:(aj::m)=V at*;have T3:0<V.length:=by rw[<-e];simp
  rcases h with ⟨b,I,c,rfl,G,f,g,a,w⟩|⟨b,I,l,c,n,rfl,rfl,f,g,a⟩
  ·have N:Nat.ble (I+(ao.length+V.length)*1) (I+ao.length)=false:=by
    cases e:Nat.ble (I+(ao.length+V.length)*1) (I+ao.length)with
    |false=>rfl|true=>exact absurd (e7 e) Zo
   have L:Nat.beq I 0=false:=by cases e:Nat.beq I 0 with|false=>rfl|true=>have:=Zn e;omega
   have O:c.gs I (ao.length*1)=some (ao.map λaj=>z.Z aj):=by
    have:=wD (c:=c) (ao.map λaj=>z.Z aj) I (λj v d=>by
     rw[Zt]at d;cases s:ao[j]? with
     |none=>rw[s]at d;cases d|some aj=>rw[s]at d;cases d;exact w j aj s)
    rwa[Zj, <-ZF ao.length]at this
   have ai:eB X b=true:=de Zo;have p:eV X q u 1 (.cq b I ao.length 1) x=some (.cJ (.cq u 0 (ao.length+V.length) 1) (Go.aF.aH X (Go.aF.aH X q b none) u (some (.cells (E.ofList ((ao.map λaj=>z.Z aj)++V.map λaj=>z.Z aj) 0 .nil) ((ao.map λaj=>z.Z aj)++V.map λaj=>z.Z aj).length (.grow [])))) (u+1)):=(by simp only[eV,r];rw[ee,Zi Zo];simp only[jU,oM,a,ai,N,L,t,de i,O,Bool.and_false,cI,ga,YJ,YW,fE,gi,du,fi]);refine d8 p (k _ _ _ (.inr ?_) Zo λo T0=>by rw[ah Zo Zo,ah Zo Zo]);have:=ko.make (X:=X) (q:=Go.aF.aH X (Go.aF.aH X q b none) u (some (.cells (E.ofList ((ao.map λaj=>z.Z aj)++V.map λaj=>z.Z aj) 0 .nil) ((ao.map λaj=>z.Z aj)++V.map λaj=>z.Z aj).length (.grow [])))) (u:=u) (aT:=aT) (ao:=ao++V) Zo A (by rw[aM Zo,ZU]);rw[show(ao++V).length=ao.length+V.length from ZH]at this;exact this
  ·have ai:eB X b=true:=de Zo;rw[ZT,ZK]at i;have p:eV X q u 1 (.gf b I l 1) x=some (.cJ (.cq u 0 V.length 1) (Go.aF.aH X (Go.aF.aH X q b none) u (some (.cells (E.ofList (V.map λaj=>z.Z aj) 0 .nil) (V.map λaj=>z.Z aj).length (.grow [])))) (u+1)):=(by simp only[eV,r];rw[ee,Zi Zo];simp only[jU,vS,a,ai,t,de i,cI,YJ,YW,fE,gi,du,fi]);refine d8 p (k _ _ _ (.inr ?_) Zo λo T0=>by rw[ah Zo Zo,ah Zo Zo]);rw[Yq];exact ko.make Zo A (by rw[aM Zo])
def PR(b:Nat):b7 X q .eql 23 true (.ptr b 0) .bH=some .zT:=Zk
abbrev p0:=List (Int×z×Nat)
def abw(a6:p0)(seen:List Nat):Prop:=∀w:Int,fN a6 w=if w∈ch seen then some (.Z 1)else none
def w8{k:Nat}{l:List Nat}:(k:Int)∈ch l↔k∈l:=by
 unfold ch;rw[ZC];constructor
 ·rintro⟨a,h,e⟩;exact Int.ofNat.inj e▸h
 ·intro h;exact⟨k,h,rfl⟩
set_option maxRecDepth 100000 in
def Sd(UA:e5 X)(Wc:tD X)(V4:mD X)(Xx:kl X)(Xy:mE X)(cx:pS X)(VH:(y X).eC 6 []=some .zV){a0 aL:z}{Xh s:aA}(jaj:(y X).aB<=u)(Vw:c0 a0=some (.Z Xh.length))(XJ:s.length<=5000)(W:∀c∈s,c<256)
 (jaI:fw X q 1 a0 none (some (.Z (min (Xh.length:Int) 5000))) none=some aL)(ω:c0 aL=some (.Z s.length))(θ:∀D C,aU X q u D C->oV X D aL=some (.str s)):
 aD X 3 [a0] q u (λR D Z=>R=.zV/\aU X q u D Z) zX:=by
 refine Fd UA.tobZ (LS ..) ?_;unfold Dw;refine cg @Vw @GZ @jaI ⟨?_⟩;refine(ψ (u:=u) UA Wc V4 XJ W jaj ω θ).Zm ?_;rintro R am aw ⟨VD,Vb⟩;have jbD:=Vb.le;cases Ud:lR s with
 |error jaW=>
  rw[Ud]at VD;obtain⟨k,a⟩:=jaW;have υ:=aac XJ Ud;have jaP:R=.tuple [.bH,.agg [.Z k,.Z a]]:=VD;subst jaP;have aj:decide (k≠0)=true:=by simp[υ]
  refine bx ⟨?_⟩;generalize UP:Go.aF.aH X _ aw _=U7;have UO:∃c,H X U7 aw=some (.cells c 2 .own)/\c.get 0=some (.Z k)/\c.get 1=some (.Z a):=⟨_,by rw[<-UP,aM Zo];rfl,by exact vi _ _ _,by exact vj _ _ _⟩;have Vc:aU X q u U7 (aw+1):=⟨Zo,λo f=>by rw[<-Vb.M o Zo, <-UP];exact zR⟩;clear UP;obtain⟨Xn,UO,VV,Xo⟩:=UO;refine cg (a8 UO) @VV @aj ⟨?_⟩;refine qe VH ?_;refine bx ⟨?_⟩;exact⟨rfl,Zo,λo f=>Vc.M o f⟩
 |ok Y=>
  rw[Ud]at VD;obtain⟨v,rfl,jay⟩:=VD;obtain⟨Ut,jaq,Wr⟩:=aaf Ud;have jaM:=aae Ud;obtain⟨jbZ,jaA⟩:=aad Ud;obtain⟨jbC,Wo⟩:=wY Wr;have XA:=jay.prog;obtain⟨p,rfl⟩:∃V,v=.ptr V 0:=by obtain⟨b,_,_,_,h,_⟩:=XA;exact⟨b,h⟩
  have aj:decide ((0:Int)≠0)=false:=rfl;have Wy:∀g∈Y,Ci g:=λg Vk=>by have Vn:=Ut g Vk;have jad:=Wo g Vk;have ν:c3 g≠[]:=λe=>(by simp[c3]at e;exact Vn.some e.2.1);exact⟨by have:=jad.vars;simp[c3];omega,Tf ν,λV UR=>⟨IP (Vn.eqs V UR).right,by have T5:=GM V.right [];have Um:=jaM g Vk V UR;simp at T5;omega⟩⟩
  refine bx ⟨?_⟩;generalize UP:Go.aF.aH X _ aw _=U7;have UO:∃c,H X U7 aw=some (.cells c 2 .own)/\c.get 0=some (.Z 0)/\c.get 1=some (.Z 0):=⟨_,by rw[<-UP,aM Zo];rfl,by exact vi _ _ _,by exact vj _ _ _⟩;have XQ:∀o,o<aw->H X U7 o=H X am o:=λo f=>by rw[<-UP];exact zR
  have Vc:aU X q u U7 (aw+1):=⟨Zo,λo f=>by rw[XQ o Zo,Vb.M o Zo]⟩;clear UP;obtain⟨Xn,UO,VV,Xo⟩:=UO;have X9:=XA.M (D:=U7) (aI:=b2 u aw) (λo f=>XQ o f.2) (λ_ h=>h);refine df (a8 UO) @VV @aj @PR ⟨?_⟩;refine(OA (u:=aw+1) (P:=b2 u aw) UA Wc.err Xx Xy cx Zo X9 (λo f=>by have:=f.1;have:=f.2;omega) Ut jaq Wr Wy).Zm ?_;rintro R Xl G ⟨⟨WN,A,rfl,η⟩,Wb⟩;have jbE:=Wb.le;refine bx ⟨?_⟩;generalize Vd:Go.aF.aH X _ G _=T0;have Ul:∃c,H X T0 G=some (.cells c 2 .own)/\c.get 0=some (.Z WN)/\c.get 1=some (.Z A):=⟨_,by rw[<-Vd,aM Zo];rfl,by exact vi _ _ _,by exact vj _ _ _⟩;have jaT:∀o,o<G->H X T0 o=H X Xl o:=λo f=>by rw[<-Vd];exact zR
  clear Vd;obtain⟨jby,Ul,WT,Xp⟩:=Ul;have XR:∀o,o<aw+1->H X T0 o=H X U7 o:=λo f=>by rw[jaT o Zo,Wb.M o f]
  have jax:=X9.M (D:=T0) (aI:=b2 u aw) (λo f=>XR o (zL f.2)) (λ_ h=>h);have WF:∀o,o<u->H X T0 o=H X q o:=λo f=>by rw[XR o Zo];exact Vc.M o f
  by_cases WY:WN=29;rotate_left
  ·have z9:decide (WN≠29)=true:=(by simp[WY]);refine cg (a8 Ul) @WT @z9 ⟨?_⟩;refine qe VH ?_;refine bx ⟨?_⟩;exact⟨rfl,Zo,WF⟩
  subst WY;obtain⟨W9,XG⟩:=η.round;have Vm:∀(i:Nat) g,Y[i]? =some g->(gZ Y i g).1=0:=OG.1 (by
   unfold jD at W9;split at W9
   ·rename_i h;exact absurd W9 h
   ·rename_i h;simpa using h)
  have z9:decide ((29:Int)≠29)=false:=rfl;have Xb:ay X T0 (.ptr G 1)=some (.Z A):=by rw[a8 Ul,Xp]
  obtain⟨_,Uj,jcb,aR,e,γ,WR,Ue,Ur⟩:=jax;cases e;have jau:=Ur.wide;have Vz:=Ue.len;have jaf:=Ue.many;rw[jau.1]at Vz jaf;obtain⟨T1,jak⟩:∃n,n=G+1:=⟨_,rfl⟩;rw[<-jak];have T6:∀o,b2 u aw o->o<T1:=λo f=>zL f.2;refine dF (a8 Ul) @WT (Za @z9 (Za @WR @Vz)) ⟨?_⟩;refine eO (λB D C=>B.g 3=some (.ptr p 0)/\B.g 5=some (.ptr G 0)/\T1<=C/\(∀o,o<T1->H X D o=H X T0 o)/\∀g∈Y,∀V∈g.eqs,V.at_≠A) (λjbS σ=> ?_) ?_
  ·refine cM (λm B D C=>∃(i:Nat),B.g 3=some (.ptr p 0)/\B.g 5=some (.ptr G 0)/\B.g 48=some Uj/\B.g 49=some (.Z Y.length)/\B.g 50=some (.Z i)/\i+m=Y.length/\T1<=C/\(∀o,o<T1->H X D o=H X T0 o)/\∀g∈Y.take i,∀V∈g.eqs,V.at_≠A)
    Y.length ⟨0,aC,aC,aC,aC,cT,Zo,Zo,λ_ _=>rfl,Zs⟩ ?_
   rintro m B UZ N ⟨i,t3,t5,UV,UH,UI,ag,VB,UC,W2⟩;cases m with|zero=>have d:=zM i Y.length;rw[Zy Zo]at W2;refine cg @UI @UH @d ⟨?_⟩;exact σ _ _ _ ⟨af t3,af t5,VB,UC,W2⟩|succ m=>
   have d:=zN i Y.length;have VW:=zQ i;obtain⟨g,UB⟩:=zO Y i;have Vl:=Zl UB;have jav:=Vm i g UB;have Vn:=Ut g Vl;obtain⟨μ,X6,jac⟩:=Wy g Vl;have jbP:=Bm g;have jbB:(c3 g).length<=256:=(by have:=(Wo g Vl).vars;simp[c3];omega);obtain⟨row,Us,Uq⟩:=Ur.get i g UB;have Vt:=Ue.c4 i (Ze.1 Us).1;have W8:=(Ue.M (D:=UZ) (λo f=>UC o (T6 o f))).row Zd Us;have e1:=Uq.dU;have X3:=Uq.M (D:=UZ) (aI:=b2 u aw) (λo f=>UC o (T6 o f)) (λ_ h=>h);have WC:Y.take (i+1)=Y.take i++[g]:=(by rw[ZD,UB];rfl);obtain⟨bK,bO,T2,U6,bc,bp,bG,Xm,jbh,rfl,Vo,Vp,Vq,Vr,Wf⟩:=id X3;have jaC:=Wf.wide;have Ws:=Vr.len;have jag:=Vr.many;rw[jaC.1]at Ws jag;refine eg @UI @UH @UV @d @Vt @W8 ⟨?_⟩;refine dg (eS (k:=6) (b:=N) (I:=0) (n:=6) (c:=E.ofList [.str [],.Z 0,.ax,.ax,.ax,.ax] 0 .nil) (aM Zo) Zo rfl Zd Zd e1) ?_;generalize Ve:Go.aF.aH X _ N _=UJ;have WV:H X UJ N=zP [.str g.name,.Z g.at_,bK,bO,T2,U6] 6:=(by rw[<-Ve,aM Zo];rfl);have XS:∀o,o<N->H X UJ o=H X UZ o:=λo f=>(by rw[<-Ve];exact zR);clear Ve;have ζ:ay X UJ (.ptr N 5)=some U6:=(by rw[a8 WV];rfl);refine m0 @ζ @Ws ⟨?_⟩;refine dN ?_;refine cM (λTY B D C=>∃(j:Nat),B.g 3=some (.ptr p 0)/\B.g 5=some (.ptr G 0)/\B.g 48=some Uj/\B.g 49=some (.Z Y.length)/\B.g 50=some (.Z i)/\B.g 7=some (.ptr N 0)/\B.g 55=some U6/\B.g 56=some (.Z g.eqs.length)/\B.g 57=some (.Z j)/\j+TY=g.eqs.length/\N+1<=C/\(∀o,o<N+1->H X D o=H X UJ o)/\∀V∈g.eqs.take j,V.at_≠A)
    g.eqs.length ⟨0,af t3,af t5,af UV,af UH,af UI,aC,aC,aC,cT,Zo,Zg _,λ_ _=>rfl,Zs⟩ ?_
   clear t3 t5 UV UH UI B;rintro TY B T3 T9 ⟨j,t3,t5,UV,UH,UI,VS,WM,VQ,VR,ρ,jbK,V7,W4⟩;have Uh:∀o,o<T1->H X T3 o=H X T0 o:=λo f=>(by rw[V7 o Zo,XS o Zo];exact UC o f);cases TY with
   |zero=>
    have UL:=zM j g.eqs.length;rw[Zy Zo]at W4;refine dA @VR @VQ @UL @UI @VW ⟨?_⟩;refine⟨m,Zo,i+1,af t3,af t5,af UV,af UH,aC,Zo,Zo,Uh,λVY Uo=> ?_⟩;rw[WC]at Uo;rcases Zp.1 Uo with h|h
    ·exact W2 VY h
    ·rw[ZB.1 h];exact W4
   |succ TY=>
   have UL:=zN j g.eqs.length;have VX:=zQ j;obtain⟨V,UR⟩:=zO g.eqs j;have β:∀o,b2 u aw o->H X T3 o=H X UZ o:=λo f=>(by have:=T6 o f;rw[V7 o Zo,XS o Zo]);have X4:=X3.M (D:=T3) (aI:=b2 u aw) β (λ_ h=>h);obtain⟨jcg,jch,jce,jcf,jbo,jbp,jbq,jbr,jbz,V0,_,_,_,Wi,τ⟩:=id X4;cases V0;obtain⟨jcd,XI,Xw⟩:=τ.get j V UR;have π:=Wi.c4 j (Ze.1 XI).1;have jaG:=Wi.row Zd XI;obtain⟨VM,jbj,jbw,jbx,jbi,rfl,Wq,_,jbQ,jaB⟩:=Xw;refine eg @VR @VQ @WM @UL @π @jaG ⟨?_⟩;refine dg (eS (k:=4) (b:=T9) (I:=0) (n:=4) (c:=E.ofList [.ax,.ax,.Z 0,.bH] 0 .nil) (aM Zo) Zo rfl Zd Zd jaB) ?_;generalize Vg:Go.aF.aH X _ T9 _=U4;have VZ:H X U4 T9=zP [VM,jbj,.Z V.at_,jbi] 4:=(by rw[<-Vg,aM Zo];rfl);have Ui:∀o,o<T9->H X U4 o=H X T3 o:=λo f=>(by rw[<-Vg];exact zR);clear Vg;have XX:ay X U4 (.ptr T9 2)=some (.Z V.at_):=(by rw[a8 VZ];rfl);have XZ:ay X U4 (.ptr G 1)=some (.Z A):=(by rw[bB,Ui G Zo,Uh G Zo, <-bB];exact Xb);by_cases VE:V.at_=A;rotate_left
   ·have UM:decide (V.at_≠A)=true:=(by simp[VE]);refine eg @XX @t5 @XZ @UM @VR @VX ⟨?_⟩;refine⟨TY,Zo,j+1,af t3,af t5,af UV,af UH,af UI,af VS,af WM,af VQ,aC,Zo,Zo,λo f=>by rw[Ui o Zo];exact V7 o f,λjbc XB=> ?_⟩;rw[ZD,UR]at XB;rcases Zp.1 XB with h|h
    ·exact W4 jbc h
    ·rw[ZB.1 h];exact VE
   have UM:decide (V.at_≠A)=false:=(by simp[VE]);obtain⟨jaX,jbb,χ,jar,jaD⟩:=abh jaA Ut Vm XG UB UR VE;have Va:H X U4 N=zP [.str g.name,.Z g.at_,bK,bO,T2,U6] 6:=(by rw[Ui N Zo,V7 N Zo];exact WV);have XY:ca X U4 6 (.ptr N 0)=some (.agg [.str g.name,.Z g.at_,bK,bO,T2,U6]):=(by rw[mo];simp only[a8 Va];rfl);have X5:=X4.M (D:=U4) (aI:=b2 u aw) (λo f=>Ui o (zL (T6 o f))) (λ_ h=>h);refine eg @XX @t5 @XZ @UM @VS @XY ⟨?_⟩;refine(uY (u:=T9+1) UA.tobZ (P:=b2 u aw) Zo (λo f=>zL (T6 o f)) X5 Zo).Zm ?_;rintro R Uy UT ⟨bI,jbT,aE,jbs,rfl,jbR,jbI,jbk,Xz,Xi,XD,V2⟩;have jbF:=V2.le;refine(w7 (u:=UT) UA.tobZ (ci:=eQ g) (P:=b2 (T9+1) UT) Zo Xi XD (λo f=>f.2) X6).Zm ?_;rintro Xj U2 Uw ⟨⟨jbv,jaF⟩,V3⟩;have jbG:=V3.le;have WX:H X U2 N=zP [.str g.name,.Z g.at_,bK,bO,T2,U6] 6:=(by rw[V3.M N Zo,V2.M N Zo];exact Va);have Uv:ca X U2 6 (.ptr N 0)=some (.agg [.str g.name,.Z g.at_,bK,bO,T2,U6]):=(by rw[mo];simp only[a8 WX];rfl);have WG:∀o,o<T9+1->H X U2 o=H X U4 o:=λo f=>(by rw[V3.M o Zo,V2.M o Zo]);have jas:=X5.M (D:=U2) (aI:=b2 u aw) (λo f=>WG o (zL (T6 o f))) (λ_ h=>h);refine bE @VS @Uv ⟨?_⟩;refine(Hf (u:=Uw) UA.tobZ (P:=b2 u aw) Zo (λo f=>zL (T6 o f)) jas μ X6 jac).Zm ?_;rintro WI T4 U3 ⟨X8,Un⟩;have jbH:=Un.le;rw[He]at X8;have jaY:ay X T4 (.ptr T9 0)=some VM:=(by rw[bB,Un.M T9 Zo,WG T9 Zo, <-bB,a8 VZ];rfl);have XV:∀o,o<T9->H X T4 o=H X T3 o:=λo f=>(by rw[Un.M o Zo,WG o Zo,Ui o f]);have jaU:∀o,o<u->H X T4 o=H X q o:=λo f=>(by rw[XV o Zo,Uh o Zo];exact WF o f);have Vx:=Wq.M (D:=T4) (λo f=>XV o (zL (T6 o f)));have XK:(dh V.left).length=V.left.length:=(by simp[dh]);have Wt:=Vx.len;have jah:=Vx.many;rw[XK]at Wt jah;have XE:=jaF.M (D:=T4) (λo f=>Un.M o f.2);obtain⟨U8,aG,XH,XO,XP⟩:=X8;rw[Zj,pt]at XO;have WA:(eQ g).length<=256:=Zo;have Wg:∀w∈V.left,w∈eQ g:=λw U5=>(by obtain⟨jae,_⟩:=Hn.1 jav;obtain⟨jci,T5,_⟩:=jae.left w (zd.2 ⟨V,Zl UR,U5⟩);exact(xP g w).1 (by rw[T5];rfl));have X7:∀x,∀o∈bR (dZ g) x,o<(dZ g).length:=λx o f=>by
    by_cases T7:x<(dZ g).length
    ·rw[q3 T7]at f;exact(Bn g _ (YY _)).2 o f
    ·rw[bR,Y1,Yt Zo]at f;cases f
   have W0:∀x,(bR (dZ g) x).length<=256:=λx=>by
    by_cases T7:x<(dZ g).length
    ·have T5:=(Bn g _ (YY T7));have:=n2 (dZ g).length _ T5.1 T5.2;rw[q3 T7];rw[pt]at this;omega
    ·rw[bR,Y1,Yt Zo];simp
   have XF:∀x,x<(dZ g).length->∃VL,c8 1 WI (.Z x)=some (.ptr U8 x)/\ay X T4 (.ptr U8 x)=some VL/\Uw<=U8/\U8<U3/\nu X T4 (b2 Uw U3) VL (ch (bR (dZ g) x)):=λx T7=>(by have hR:x<aG.length:=(by rw[XO, <-pt];exact T7);obtain⟨w,U5⟩:∃w,aG[x]? =some w:=⟨_,Zb hR⟩;have T5:=XH.one U5;have Um:=XP x w (ch (bR (dZ g) x)) U5 (by rw[Zt,q3 T7,Zb T7];rfl);exact⟨w,T5.1,T5.2.1,T5.2.2.1,T5.2.2.2,Um⟩);clear Ui V2 V3 Un Xz jbk Xi XD XY Uv WX Va VZ Wq XP XH;refine m0 @jaY @Wt ⟨?_⟩;refine dN ?_;refine cM (λT8 B D C=>∃(l:Nat),B.g 11=some Xj/\B.g 12=some WI/\B.g 73=some VM/\B.g 74=some (.Z V.left.length)/\B.g 75=some (.Z l)/\l+T8=V.left.length/\U3<=C/\(∀o,o<U3->H X D o=H X T4 o)/\∀k nm,nm∈V.left.take l->(eQ g)[k]? =some nm->¬jP (dZ g) k k)
    V.left.length ⟨0,aC,aC,aC,aC,cT,Zo,Zg _,λ_ _=>rfl,Zs⟩ ?_
   clear t3 t5 UV UH UI VS WM VQ VR B;rintro T8 B VT O ⟨l,UE,UF,UW,UX,UY,jaa,jbL,Wl,W6⟩;cases T8 with|zero=>rw[Zy Zo]at W6;exact absurd jaD (W6 jaX jbb jar χ)|succ T8=>
   have Ua:=zN l V.left.length;have Xs:=zQ l;obtain⟨nm,W1⟩:∃w,V.left[l]? =some w:=⟨_,Zb Zo⟩;have Wp:=Vx.M (D:=VT) (λo f=>Wl o (zL (T6 o f)));have Wh:=Wp.c4 l (by rw[XK];omega);have Wd:=Wp.cell l [.str nm] 0 (.str nm) (by unfold dh;rw[Zt,W1];rfl) rfl;rw[ZF]at Wh;rw[ZF,ZN]at Wd;refine eg @UY @UX @UW @Ua @Wh @Wd ⟨?_⟩;generalize Vi:Go.aF.aH X VT O _=p0;have Xu:H X p0 O=some (.map [] 0):=(by rw[<-Vi,aM Zo]);have jaV:∀o,o<O->H X p0 o=H X VT o:=λo f=>(by rw[<-Vi,ah Zo Zo]);clear Vi;refine bE @UF @UE ⟨?_⟩;have VK:∀o,o<U3->H X p0 o=H X T4 o:=λo f=>(by rw[jaV o Zo];exact Wl o f);refine(Gj (u:=O+1) UA.tobZ (XE.M (D:=p0) (λo f=>VK o (zL f.2))) nm).Zm ?_;rintro R WO jbV ⟨rfl,jam,Vs⟩;have X1:nm∈V.left:=Zl W1;obtain⟨x,rfl,T7⟩:=Vs.resolve_left (λh=>h.2 (Wg nm X1));have jaS:x<(dZ g).length:=(by rw[pt];exact(Ze.1 T7).1);obtain⟨VL,VI,VJ,jaR,WD,UD⟩:=XF x jaS;obtain⟨jbt,UD⟩:=UD.M (D:=WO) (aI:=b2 Uw U3) (λo f=>VK o f.2) (λ_ h=>h);have Uf:=u5 UD Zd;have XN:ay X WO (.ptr U8 x)=some VL:=zW (VK U8 WD) VJ;have hint:∀l:List Nat,(eh (ch l)).length=(ch l).length/\(eh (ch l)).flatten=(ch l).map λaj=>z.Z aj:=λl=>⟨by simp[eh],by
    unfold eh;induction ch l with
    |nil=>rfl|cons a l U=>simpa using U⟩
   rw[(hint _).1,(hint _).2]at Uf;have Ww:∀k,(ch (bR (dZ g) k)).length<=256:=λk=>(by unfold ch;rw[Zj];exact W0 k);refine bE @VI @XN ⟨?_⟩;refine acE (aT:=O+1) Zo jam Uf (zL (Ww x)) (λjb WP jbW Ug jbM Vv=> ?_);have XW:∀o,o<U3->H X WP o=H X T4 o:=λo f=>(by rw[Vv o Zo];exact VK o f);have WW:H X WP O=some (.map [] 0):=(by rw[Vv O Zo];exact Xu);have V0:((dZ g).length-0)*257+(bR (dZ g) x).length=(dZ g).length*257+(bR (dZ g) x).length:=Zo;refine h8 ⟨?_⟩;refine dN ?_;refine cM (λXc B D C=>∃(seen todo:List Nat) (a6:p0) (bz:Nat) (jb:z),B.g 11=some Xj/\B.g 12=some WI/\B.g 73=some VM/\B.g 74=some (.Z V.left.length)/\B.g 75=some (.Z l)/\B.g 14=some (.str nm)/\B.g 15=some (.map O)/\B.g 16=some jb/\
    lx (dZ g) x seen todo/\((dZ g).length-seen.length)*257+todo.length=Xc/\todo.length<=(seen.length+1)*256/\oJ X D (O+1) C jb (ch todo)/\hh X (z.int .i64) D O a6 bz/\abw a6 seen/\O+1<=C/\∀o,o<U3->H X D o=H X T4 o)
    ((dZ g).length*257+(bR (dZ g) x).length) ⟨[],bR (dZ g) x,[],0,jb,af UE,af UF,af UW,af UX,af UY,aC,aC,aC,lx.new x (X7 x),V0,by have:=W0 x;simp;omega,Ug,hh.new WW,λw=>by simp[ch,fN,eZ],Zo,XW⟩ ?_
   clear UE UF UW UX UY B Ug WW XW Vv UD Uf XN V0 VI VJ;rintro Xc B VU Xd ⟨seen,todo,a6,bz,jb,UE,UF,UW,UX,UY,WK,Ux,WL,Ub,VA,jaN,Ug,V5,VG,Wx,Up⟩;have jaJ:seen.length<=(dZ g).length:=n2 _ _ Ub.once Ub.xI;have UQ:=Ug.len;have jao:(ch todo).length=todo.length:=(by simp[ch]);rw[jao]at UQ;cases todo with
   |nil=>
    have UQ:c0 jb=some (.Z 0):=UQ;have U9:decide ((0:Int)<0)=false:=rfl;refine eg @WL @UQ @U9 @Ux @UE @WK ⟨?_⟩;refine(Gj (u:=Xd) UA.tobZ (XE.M (D:=VU) (λo f=>Up o (zL f.2))) nm).Zm ?_;rintro R WQ jbX ⟨rfl,jbN,Vs⟩;obtain⟨Uk,rfl,hR⟩:=Vs.resolve_left (λh=>h.2 (Wg nm X1));obtain rfl:Uk=x:=(za (Ze.1 hR).1 (w6 g)).1 (hR.trans T7.symm);have t:=V5.look (sT X) (.Z 0) (Uk:Int) false;rw[VG]at t;by_cases WE:Uk∈seen
    ·rw[Zv (w8.2 WE)]at t;have t:fb X WQ 3 (.Z 0) (.map O) (.Z Uk) false=some (.Z 1):=t;have UN:decide ((0:Int)<1)=true:=rfl;refine bE @t @UN ⟨?_⟩;refine qe VH ?_;refine bx ⟨?_⟩;exact⟨rfl,Zo,λo f=>by rw[Up o Zo];exact jaU o f⟩
    ·rw[Zi (λh=>WE (w8.1 h))]at t;have t:fb X WQ 3 (.Z 0) (.map O) (.Z Uk) false=some (.Z 0):=t;have UN:decide ((0:Int)<0)=false:=rfl;refine df @t @UN @UY @Xs ⟨?_⟩;refine⟨T8,Zo,l+1,af UE,af UF,af UW,af UX,aC,Zo,Zo,Up,λk jba X0 V6=> ?_⟩;rw[ZD,W1]at X0;rcases Zp.1 X0 with h|h
     ·exact W6 k jba h V6
     ·rw[ZB.1 h]at V6;obtain rfl:k=Uk:=(za (Ze.1 V6).1 (w6 g)).1 (V6.trans T7.symm);exact λK=>WE (Ub.done K)
   |cons k todo=>
    have φ:=Ub.xQ k (Zr ..);obtain⟨L,V4⟩:∃L:Nat,L=(k::todo).length:=⟨_,rfl⟩;rw[<-V4]at UQ;have U9:decide ((0:Int)<(L:Int))=true:=(by rw[V4];simp only[ZI,Zf];omega);have jap:ch (k::todo)=(k:Int)::ch todo:=rfl;rw[jap]at Ug;obtain⟨jca,jcc,jbl,Xe,Xf,Xg,XM⟩:=Ug.pop;have t:=V5.look (sT X) (.Z 0) (k:Int) false;rw[VG]at t;have Vy:(k::todo).length=todo.length+1:=rfl;by_cases V9:k∈seen
    ·rw[Zv (w8.2 V9)]at t;have t:fb X VU 3 (.Z 0) (.map O) (.Z k) false=some (.Z 1):=t;have UN:decide ((1:Int)=0)=false:=rfl;refine cu @WL @UQ @U9 @Xe @Xf @Xg (Za @Ux (Za @t @UN)) ⟨?_⟩;exact⟨_,by rw[<-VA,Vy];exact Yr _,seen,todo,a6,bz,jbl,af UE,af UF,af UW,af UX,af UY,af WK,af Ux,aC,Ub.he V9,rfl,Zo,XM.at,V5,VG,Wx,Up⟩
    ·rw[Zi (λh=>V9 (w8.1 h))]at t;have t:fb X VU 3 (.Z 0) (.map O) (.Z k) false=some (.Z 0):=t;have UN:decide ((0:Int)=0)=true:=rfl;obtain⟨Uz,Xk,Xq,jai,α,jab,_,Wm⟩:=V5.set (u:=Xd) (sT X) Zo (k:Int) (.Z 1);obtain⟨jbg,VI,VJ,jaR,WD,UD⟩:=XF k φ;have WH:∀o,o<U3->H X Uz o=H X T4 o:=λo f=>(by rw[Wm o Zo];exact Up o f);obtain⟨jbu,UD⟩:=UD.M (D:=Uz) (aI:=b2 Uw U3) (λo f=>WH o f.2) (λ_ h=>h);have Uf:=u5 UD Zd;rw[(hint _).1,(hint _).2]at Uf;have jaQ:ay X Uz (.ptr U8 k)=some jbg:=zW (WH U8 WD) VJ;have jaO:=XM.M (D:=Uz) (λo T5 _=>Wm o Zo) (Zg _);have WB:=Ub.step V9 (X7 k);have jaK:(seen++[k]).length<=(dZ g).length:=n2 _ _ WB.once WB.xI;rw[ZH,Y2]at jaK;refine cu @WL @UQ @U9 @Xe @Xf @Xg (Za @Ux (Za @t @UN)) ⟨?_⟩;refine d8 jai ?_;refine cg @UF @VI @jaQ ⟨?_⟩;have jat:(ch todo).length=todo.length:=(by simp[ch]);refine jaO.app Zo Wx Uf (by rw[jat];have:=Ww k;rw[pt]at jaJ;omega) (λjbm jbn jbY XL jbO Wn=> ?_);have jan:ch todo++ch (bR (dZ g) k)=ch (todo++bR (dZ g) k):=(by simp[ch]);rw[jan]at XL;refine bx ⟨?_⟩;have jbA:=W0 k;refine⟨((dZ g).length-(seen++[k]).length)*257+(todo++bR (dZ g) k).length, ?_,seen++[k],todo++bR (dZ g) k,Xk,Xq,jbm,af UE,af UF,af UW,af UX,af UY,af WK,af Ux,aC,WB,rfl, ?_,XL,α.M (Wn O Zo),λw=> ?_,Zo,λo f=>by rw[Wn o Zo];exact WH o f⟩
     ·rw[<-VA,Vy,ZH,ZH,Y2];omega
     ·rw[ZH,ZH,Y2];rw[Vy]at jaN;omega
     ·rw[jab w,VG w];have Ur:ch (seen++[k])=ch seen++[(k:Int)]:=(by simp[ch]);rw[Ur];by_cases e:w=(k:Int)
      ·rw[Zv e,Zv (by rw[e];simp)]
      ·rw[Zi e];by_cases U5:w∈ch seen
       ·rw[Zv U5,Zv (Zp.2 (.inl U5))]
       ·rw[Zi U5,Zi (λh=>by rcases Zp.1 h with h|h;exact U5 h;exact e (ZB.1 h))]
  ·rintro B UZ N ⟨t3,t5,VB,UC,X2⟩;obtain⟨Xv,ξ,Xr,ι,jaw,δ⟩:=abi Ut Vm XG X2;have jaz:p<T1:=T6 p γ;have WS:ay X UZ (.ptr p 0)=some Uj:=zW (UC p jaz) WR;refine cg @t3 @WS @Vz ⟨?_⟩;refine cM (λm B D C=>∃(i:Nat),B.g 5=some (.ptr G 0)/\B.g 120=some Uj/\B.g 121=some (.Z Y.length)/\B.g 122=some (.Z i)/\i+m=Y.length/\T1<=C/\(∀o,o<T1->H X D o=H X T0 o)/\∀g∈Y.take i,∀d∈g.bb,¬(d.on≠[]/\d.cC=A))
    Y.length ⟨0,af t5,aC,aC,cT,Zo,VB,UC,Zs⟩ ?_
   clear t3 t5 B UC WS X2 VB;rintro m B UJ US ⟨i,t5,TZ,U0,U1,ag,jbJ,Wj,W3⟩;cases m with|zero=>rw[Zy Zo]at W3;exact absurd ⟨jaw,δ⟩ (W3 Xv ξ Xr ι)|succ m=>
   have d:=zN i Y.length;have VW:=zQ i;obtain⟨g,UB⟩:=zO Y i;have WC:Y.take (i+1)=Y.take i++[g]:=(by rw[ZD,UB];rfl);obtain⟨row,Us,Uq⟩:=Ur.get i g UB;have Vt:=Ue.c4 i (Ze.1 Us).1;have W8:=(Ue.M (D:=UJ) (λo f=>Wj o (T6 o f))).row Zd Us;have e1:=Uq.dU;obtain⟨bK,bO,T2,U6,bc,bp,bG,Xm,jbh,rfl,Vo,Vp,Vq,Vr,Wf⟩:=id Uq;refine eg @U1 @U0 @TZ @d @Vt @W8 ⟨?_⟩;refine dg (eS (k:=6) (b:=US) (I:=0) (n:=6) (c:=E.ofList [.str [],.Z 0,.ax,.ax,.ax,.ax] 0 .nil) (aM Zo) Zo rfl Zd Zd e1) ?_;generalize Vf:Go.aF.aH X _ US _=T3;have V1:H X T3 US=zP [.str g.name,.Z g.at_,bK,bO,T2,U6] 6:=(by rw[<-Vf,aM Zo];rfl);have XT:∀o,o<US->H X T3 o=H X UJ o:=λo f=>(by rw[<-Vf];exact zR);clear Vf;have Uh:∀o,o<T1->H X T3 o=H X T0 o:=λo f=>(by rw[XT o Zo];exact Wj o f);have jaH:∀l:Nat,l<3->∃VN b,ky false 3 1 (.agg [bK,bO,T2]) (.Z l)=some VN/\cl X T0 (b2 u aw) b VN 8 ((e3 g l).map cQ):=λl Vw=>by
    match l,Vw with
    |0,_=>exact⟨bK,bc,rfl,Vo⟩|1,_=>exact⟨bO,bp,rfl,Vp⟩|2,_=>exact⟨T2,bG,rfl,Vq⟩
   have Um:ay X T3 (.ptr US 2)=some bK:=(by rw[a8 V1];rfl);have WZ:ay X T3 (.ptr US 3)=some bO:=(by rw[a8 V1];rfl);have Wa:ay X T3 (.ptr US 4)=some T2:=(by rw[a8 V1];rfl);have jbd:=(fu Vo.len).1;have jbe:=(fu Vp.len).1;have jbf:=(fu Vq.len).1;have ε:dl [.ax,.ax,.ax] [(0,1,bK),(1,1,bO),(2,1,T2)]=some (.agg [bK,bO,T2]):=(by simp[dl,k4,lL,ih,jbd,jbe,jbf]);refine cg @Um @WZ @Wa ⟨?_⟩;refine dg ε ?_;refine bx ⟨?_⟩;refine cM (λTY B D C=>∃(l:Nat),B.g 5=some (.ptr G 0)/\B.g 120=some Uj/\B.g 121=some (.Z Y.length)/\B.g 122=some (.Z i)/\B.g 132=some (.agg [bK,bO,T2])/\B.g 133=some (.Z l)/\l+TY=3/\T1<=C/\(∀o,o<T1->H X D o=H X T0 o)/\∀Uu<l,∀d∈e3 g Uu,¬(d.on≠[]/\d.cC=A))
    3 ⟨0,af t5,af TZ,af U0,af U1,aC,cT,rfl,Zo,Uh,λUu h=>Zo⟩ ?_
   clear t5 TZ U0 U1 B V1 XT Uh Um WZ Wa;rintro TY B U4 jbU ⟨l,t5,TZ,U0,U1,UU,UG,jaa,Wv,Wk,VC⟩;cases TY with
   |zero=>
    obtain rfl:l=3:=Zo;have UL:decide (((3:Nat):Int)<3)=false:=rfl;refine df @UG @UL @U1 @VW ⟨?_⟩;refine⟨m,Zo,i+1,af t5,af TZ,af U0,aC,Zo,Wv,Wk,λVY Uo UK Uc=> ?_⟩;rw[WC]at Uo;rcases Zp.1 Uo with h|h
    ·exact W3 VY h UK Uc
    ·rw[ZB.1 h]at Uc;rcases Zp.1 Uc with h|h
     ·exact VC 0 Zo UK h
     ·rcases Zp.1 h with h|h
      ·exact VC 1 Zo UK h
      ·exact VC 2 Zo UK h
   |succ TY=>
   have UL:decide ((l:Int)<3)=true:=z1;have VX:=zQ l;obtain⟨VN,bC,jaL,VF⟩:=jaH l Zo;have WA:((e3 g l).map cQ).length=(e3 g l).length:=Zj _;have Wu:=VF.len;have VA:=VF.many;rw[WA]at Wu VA;refine dA @UG @UU @UL @jaL @Wu ⟨?_⟩;refine cM (λT8 B D C=>∃(j:Nat),B.g 5=some (.ptr G 0)/\B.g 120=some Uj/\B.g 121=some (.Z Y.length)/\B.g 122=some (.Z i)/\B.g 132=some (.agg [bK,bO,T2])/\B.g 133=some (.Z l)/\B.g 136=some VN/\B.g 137=some (.Z ((e3 g l).length:Int))/\B.g 138=some (.Z j)/\j+T8=(e3 g l).length/\T1<=C/\(∀o,o<T1->H X D o=H X T0 o)/\∀d∈(e3 g l).take j,¬(d.on≠[]/\d.cC=A))
    (e3 g l).length ⟨0,af t5,af TZ,af U0,af U1,af UU,af UG,aC,aC,cT,Zo,Wv,Wk,Zs⟩ ?_
   clear t5 TZ U0 U1 UU UG B;rintro T8 B Uy UT ⟨j,t5,TZ,U0,U1,UU,UG,WJ,VO,VP,ρ,jal,V8,W5⟩;cases T8 with
   |zero=>
    have UM:=zM j (e3 g l).length;rw[Zy Zo]at W5;refine dA @VP @VO @UM @UG @VX ⟨?_⟩;refine⟨TY,Zo,l+1,af t5,af TZ,af U0,af U1,af UU,aC,Zo,jal,V8,λUu h UK Uc=> ?_⟩;by_cases e:Uu=l
    ·exact W5 UK (e▸Uc)
    ·exact VC Uu Zo UK Uc
   |succ T8=>
   have UM:=zN j (e3 g l).length;have WU:=zQ j;obtain⟨r,We⟩:∃w,(e3 g l)[j]? =some w:=⟨_,Zb Zo⟩;have jaE:((e3 g l).map cQ)[j]? =some (cQ r):=(by rw[Zt,We];rfl);have ο:=VF.c4 j (by rw[WA];omega);have XC:=(VF.M (D:=Uy) (λo f=>V8 o (T6 o f))).row Zd jaE;have κ:cQ r=[.str r.name,.Z r.at_,.bool r.ty.b,.bool r.ty.s,.Z r.ty.w,.str r.on,.Z r.cC,.bool r.no]:=rfl;rw[κ]at XC;have jaZ:ay X Uy (.ptr G 1)=some (.Z A):=zW (V8 G Zo) Xb;refine eg @VP @VO @WJ @UM @ο @XC ⟨?_⟩;generalize Vh:Go.aF.aH X _ UT _=U2;have Xt:H X U2 UT=zP [.str r.name,.Z r.at_,.bool r.ty.b,.bool r.ty.s,.Z r.ty.w,.str r.on,.Z r.cC,.bool r.no] 8:=(by rw[<-Vh,aM Zo];rfl);have XU:∀o,o<UT->H X U2 o=H X Uy o:=λo f=>(by rw[<-Vh];exact zR);clear Vh;have Vu:∀o,o<T1->H X U2 o=H X T0 o:=λo f=>(by rw[XU o Zo];exact V8 o f);have Uv:ay X U2 (.ptr UT 6)=some (.Z r.cC):=(by rw[a8 Xt];rfl);have Xa:ay X U2 (.ptr G 1)=some (.Z A):=zW (XU G Zo) jaZ;have Wz:¬(r.on≠[]/\r.cC=A)->∀d∈(e3 g l).take (j+1),¬(d.on≠[]/\d.cC=A):=λh d ai=>by
    rw[ZD,We]at ai;rcases Zp.1 ai with V|V
    ·exact W5 d V
    ·rw[ZB.1 V];exact h
   by_cases W7:r.on=[]
   ·have Ua:decide (r.on≠[])=false:=(by simp[W7]);rw[Ua];refine bE @VP @WU ⟨?_⟩;exact⟨T8,Zo,j+1,af t5,af TZ,af U0,af U1,af UU,af UG,af WJ,af VO,aC,Zo,Zo,Vu,Wz λh=>h.1 W7⟩
   ·have Ua:decide (r.on≠[])=true:=(by simp[W7]);by_cases Vj:r.cC=A
    ·have U9:decide (r.cC=A)=true:=(by simp[Vj]);rw[Ua];refine df @Uv @t5 @Xa @U9 ⟨?_⟩;refine qe VH ?_;refine bx ⟨?_⟩;exact⟨rfl,Zo,λo f=>by rw[Vu o Zo];exact WF o f⟩
    ·have U9:decide (r.cC=A)=false:=(by simp[Vj]);rw[Ua];refine eg @Uv @t5 @Xa @U9 @VP @WU ⟨?_⟩;exact⟨T8,Zo,j+1,af t5,af TZ,af U0,af U1,af UU,af UG,af WJ,af VO,aC,Zo,Zo,Vu,Wz λh=>Vj h.2⟩
end
end
end Go.Proofs.YtehmapikajmjaaaGreatDoor
namespace Go.aF
noncomputable section
open Go.RowKit (Below)
def Ck(l:List z):Prop:=∀v∈l,(∀F a,aq F v=aq a v)/\∀Q,bs Q v
def r5(w:World)(v:Value)(aN:Nat)(l:List z):Prop:=
 (v=.slice none 0 0/\l=[])\/∃bA off len cap bj ty fr,v=.slice (some ⟨bA,off,none⟩) len cap/\len<=cap/\l.length=len*aN/\Ck l/\
  (0<l.length->w.heap[bA]? =some (.cells bj ty fr)/\off+l.length<=bj.size/\∀i x,l[i]? =some x->bj[off+i]? =some (aq (λ_=>default) x))
def Ja(C:al)(a:z)(b aN:Nat)(l:List z):Prop:=
 (a=.ax/\l=[])\/∃len cap,a=.slice b 0 len cap/\len<=cap/\l.length=len*aN/\(0<l.length->H C .nil b=some (.cells (E.ofList l 0 .nil) l.length .fG))
def na(l:List z)(G:E S)(b:Nat):E S:=if 0<l.length then G.set b (some (.cells (E.ofList l 0 .nil) l.length .fG))else G
def r5.pl{w:World}{v:Value}{aN:Nat}{l:List z}(h:r5 w v aN l)(b:Nat):∃(a:z) (pl:hv),(∀F:bX,F b=pl->aq F a=v)/\(∀Q:Nat->Prop,Q b->bs Q a)/\
 ((a=.ax/\l=[])\/∃len cap,a=.slice b 0 len cap/\len<=cap/\l.length=len*aN)/\(0<l.length->∀C F Q,f7 C F Q (.cells (E.ofList l 0 .nil) l.length .fG) pl w):=by
 rcases h with ⟨rfl,rfl⟩|⟨bA,off,len,cap,bj,ty,fr,rfl,f,g,j,k⟩
 ·exact⟨.ax,default,λ_ _=>rfl,λ_ _=>trivial,.inl ⟨rfl,rfl⟩,λh=>by simp at h⟩
 ·refine⟨.slice b 0 len cap,⟨bA,off,l.length⟩,λF m=>by simp[aq,m],λQ d=>d,.inr ⟨len,cap,rfl,f,g⟩,λh C F Q=> ?_⟩;obtain⟨a7,bl,n⟩:=k h;obtain⟨aT,ag⟩:=fr;refine⟨bj,ty,aT,ag,a7,⟨trivial,Zg _,bl⟩,bl,λi x c=> ?_⟩;rw[g0]at c;have e:=j x (Zl c);exact⟨by rw[e.1 F (λ_=>default)];exact n i x c,e.2 Q⟩
section
variable{P:Program}{w:World}
def Sb{nm:List (String×Nat)}(X:oD P nm){laid:List (String×DataW Unit)}{eC:Nat->List z->Option z}(h:laidMet P laid w){aB:Nat}{os:List (Nat×S)}(p:ei P nm laid P.globals.size=(aB,os)){v0:Value}{A:Nat}{dk:List z}(L:r5 w v0 A dk):
 ∃F Q a0,bW ⟨P,na dk (hX os .nil) aB,aB+1,eC,P.globals.size⟩ F Q .nil (aB+1) w.heap.size w/\kT ⟨P,na dk (hX os .nil) aB,aB+1,eC,P.globals.size⟩ F Q/\cz Q [a0]/\bf F [a0]=[v0]/\
  Ja ⟨P,na dk (hX os .nil) aB,aB+1,eC,P.globals.size⟩ a0 aB A dk:=by
 obtain⟨a0,r,b8,G,t0,fO⟩:=L.pl aB;obtain⟨b4,N,_,x⟩:=h;have T0:l2 w b4:=λb off W=>(x b off W).1;obtain⟨aL,bt,f,a3⟩:=Gx (C:=⟨P,na dk (hX os .nil) aB,aB+1,eC,P.globals.size⟩) X laid P.globals.size b4 rfl N T0 (λb off W=>(x b off W).2);rw[p]at aL bt a3;simp only at aL bt a3;have m:∀b I,H ⟨P,na dk (hX os .nil) aB,aB+1,eC,P.globals.size⟩ .nil b=some I->((b,I)∈os/\b<aB)\/(b=aB/\0<dk.length/\I=.cells (E.ofList dk 0 .nil) dk.length .fG):=by
  intro b I a;unfold H at a;rw[cY]at a;split at a
  ·rename_i W;have W:=hy W;unfold na at a;split at a
   ·rename_i k;rw[E.e0]at a;split at a
    ·rename_i e;cases a;exact .inr ⟨e.symm▸rfl,k,rfl⟩
    ·rcases BN b I os .nil a with V|V
     ·exact .inl ⟨V,by have s:b<P.globals.size\/b<aB:=(bt (b,I) V).2.1;have:P.globals.size<=aB:=aL;omega⟩
     ·simp at V
   ·rcases BN b I os .nil a with V|V
    ·exact .inl ⟨V,by have s:b<P.globals.size\/b<aB:=(bt (b,I) V).2.1;have:P.globals.size<=aB:=aL;omega⟩
    ·simp at V
  ·simp at a
 refine⟨λb=>if b<P.globals.size then⟨b,0,0⟩else if b=aB then r else f b,λb=>b<aB+1,a0,⟨Zg _,λ_ h=>h,λb I a=> ?_, ?_, ?_, ?_, ?_⟩, ?_, ?_, ?_, ?_⟩
 ·rcases m b I a with h|h
  ·omega
  ·omega
 ·intro b I a _;rcases m b I a with h|⟨rfl,k,rfl⟩
  ·exact a3 (λb=>if b<P.globals.size then⟨b,0,0⟩else if b=aB then r else f b) (λb=>b<aB+1) (λb T4 T5=>⟨by rw[Zi Zo,Zi Zo],Zo⟩) (λg j=>⟨by rw[Zv j],by have:P.globals.size<=aB:=aL;omega⟩) (b,I) h.1
  ·show f7 _ _ _ _ (if b<P.globals.size then(⟨b,0,0⟩:hv)else if b=b then r else f b) w;rw[Zi (by have:P.globals.size<=b:=aL;omega),Zv rfl];exact fO k _ _ _
 ·intro b T3 I dG _ _ d _ _ W;exact absurd d (zH.2 W)
 ·intro b I W _ d;exact absurd d (zH.2 W)
 ·intro b I a _;rcases m b I a with h|⟨rfl,k,rfl⟩
  ·exact(bt (b,I) h.1).2.2 _ _
  ·refine⟨λc n l p=>(by cases p),λc n st O i v t=> ?_⟩;cases O;rw[g0]at t;exact(Ze.1 t).1
 ·intro g j;have j:g<P.globals.size:=j;exact⟨Zo,by simp[j],by simp[j]⟩
 ·exact⟨G _ Zo,trivial⟩
 ·simp only[bf];rw[b8 _ (by rw[Zi Zo,Zv rfl])]
 ·rcases t0 with h|⟨len,cap,T1,s,T2⟩
  ·exact .inl h
  ·refine .inr ⟨len,cap,T1,s,T2,λh=> ?_⟩;unfold H na
   have:Nat.blt aB (aB+1)=true:=by simp[Nat.blt]
   rw[this,cI,Zv h,E.e0,Zv rfl]
end
end
end Go.aF
namespace Go.Proofs.YtehmapikajmjaaaGreatDoor
open Go.aF Go.ak
noncomputable section
def nm:List (String×Nat):=[((Tryz.prog.typeName? 3 236).getD "",236)]
def ac:Nat×List (Nat×S):=ei Tryz.prog nm Rows.causeRoundRow.laid Tryz.prog.globals.size
def s2:ac.1=22:=Zk
def dj:E S:=hX ac.2 .nil
def QX:dj.get 0=zP [.str [45,62],.str [60,60],.str [62,62],.str [60,61],.str [62,61],.str [60,62],.str [40],.str [41],.str [44],.str [59],.str [58],.str [61],.str [60],.str [62],.str [43],.str [45],.str [42]] 17:=Zk
def sK:dj.get 3=zP [.slice 14 0 18 18] 1:=Zk
def me:dj.get 1=zP [.map 16] 1:=Zk
def qz:dj.get 2=zP [.bool true,.bool false,.int .i64 1] 3:=Zk
def wK:dj.get 7=zP [.map 15] 1:=Zk
def un:dj.get 5=zP [.iface 236 (.ptr 13 0)] 1:=Zk
def m1:dj.get 6=zP [.iface 236 (.ptr 12 0)] 1:=Zk
def nU:dj.get 8=zP [.slice 17 0 2 2,.slice 18 0 1 1,.slice 19 0 6 6,.slice 20 0 2 2,.slice 21 0 1 1] 5:=Zk
def QY:dj.get 14=zP [.str [110,111,100,101],.str [114,101,116,117,114,110,115],.str [118,97,114],.str [108,101,116],.str [116,101,108],.str [119,104,101,110],.str [110,111,116],.str [111,114],.str [120,111,114],.str [97,110,100],.str [112,114,101],.str [102,98,121],.str [105,102],.str [116,104,101,110],.str [101,108,115,101],.str [109,101,114,103,101],.str [116,114,117,101],.str [102,97,108,115,101]] 18:=Zk
def Q0:dj.get 16=some (.look [(.str [97,110,100],.bool true),(.str [101,108,115,101],.bool true),(.str [102,97,108,115,101],.bool true),(.str [102,98,121],.bool true),(.str [105,102],.bool true),(.str [108,101,116],.bool true),(.str [109,101,114,103,101],.bool true),(.str [110,111,100,101],.bool true),(.str [110,111,116],.bool true),(.str [111,114],.bool true),(.str [112,114,101],.bool true),(.str [114,101,116,117,114,110,115],.bool true),(.str [116,101,108],.bool true),(.str [116,104,101,110],.bool true),(.str [116,114,117,101],.bool true),(.str [118,97,114],.bool true),(.str [119,104,101,110],.bool true),(.str [120,111,114],.bool true)]):=Zk
structure kp(X:bi):Prop where
 aB:X.aB=23
 get:∀b,b<22->X.G.get b=dj.get b
section
variable{X:bi}{q:E S}
def kp.H(h:kp X){b:Nat}(W:b<22):H X q b=dj.get b:=by
 have e:Nat.blt b (y X).aB=true:=by show Nat.blt b X.aB=true;rw[h.aB];simp[Nat.blt];omega
 unfold Go.aF.H;rw[e,cI];exact h.get b W
def kp.hT(h:kp X){b n:Nat}(W:b<22){c:E z}{st:iu}(a:dj.get b=some (.cells c n st))(I:Nat):ay X q (.ptr b I)=c.get I:=a8 (by rw[h.H W];exact a) I
def Qz(h:kp X):pS X:=λq=>by rw[lf,h.H Zd,qz];rfl
def QA(h:kp X):g2 X:=⟨⟨13,λq=>by rw[h.hT Zd un];rfl⟩,⟨12,λq=>by rw[h.hT Zd m1];rfl⟩⟩
def QG(h:kp X):yn X:=⟨λq=>by
 rw[lf,h.H Zd,QX];rfl⟩
def SH(w:aA):∀L:List (aA×z),(L.map Prod.fst).Nodup->jx X q 9 (.str w) (L.map λe=>(z.str e.1,e.2))=some ((L.find? λe=>decide (e.1=w)).map Prod.snd):=by
 intro L;induction L with
 |nil=>intro _;rfl|cons e L U=>
  intro a;rw[ZG,YC]at a;simp only[ZG,jx,U a.2,FF,q2,zi];by_cases h:e.1=w
  ·have b:w=e.1:=h.symm;have c:L.find? (λe=>decide (e.1=w))=none:=by
    rw[zA];intro x f d
    have:x.1=w:=by simpa using d
    exact a.1 (by rw[h, <-this];exact YU f)
   simp[h,c]
  ·have b:¬w=e.1:=λV=>h V.symm;simp[h,b]
noncomputable def ln:List aA:=[[97,110,100],[101,108,115,101],[102,97,108,115,101],[102,98,121],[105,102],[108,101,116],[109,101,114,103,101],[110,111,100,101],[110,111,116],[111,114],[112,114,101],[114,101,116,117,114,110,115],[116,101,108],[116,104,101,110],[116,114,117,101],[118,97,114],[119,104,101,110],[120,111,114]]
def HY(s:aA):s∈ln↔s∈mu:=by
 constructor
 ·intro h
  have:∀w∈ln,w∈mu:=by decide
  exact this s h
 ·intro h
  have:∀w∈mu,w∈ln:=by decide
  exact this s h
def aaV:((ln.map λs=>(s,z.bool true)).map λe:aA×z=>(z.str e.1,e.2))=[(.str [97,110,100],.bool true),(.str [101,108,115,101],.bool true),(.str [102,97,108,115,101],.bool true),(.str [102,98,121],.bool true),(.str [105,102],.bool true),(.str [108,101,116],.bool true),(.str [109,101,114,103,101],.bool true),(.str [110,111,100,101],.bool true),(.str [110,111,116],.bool true),(.str [111,114],.bool true),(.str [112,114,101],.bool true),(.str [114,101,116,117,114,110,115],.bool true),(.str [116,101,108],.bool true),(.str [116,104,101,110],.bool true),(.str [116,114,117,101],.bool true),(.str [118,97,114],.bool true),(.str [119,104,101,110],.bool true),(.str [120,111,114],.bool true)]:=rfl
def QE(h:kp X):vG X:=⟨.map 16,λq=>⟨by rw[h.hT Zd me];rfl,λs=>by
 have d:H X q 16=_:=(h.H Zd).trans Q0;rw[<-aaV]at d;have g:((ln.map λs=>(s,z.bool true)).map Prod.fst).Nodup:=by decide
 simp only[fb,d,xf,cI,SH s _ g];have f:((ln.map λs=>(s,z.bool true)).find? λe=>decide (e.1=s)).map Prod.snd=if s∈ln then some (z.bool true)else none:=by
  by_cases b:s∈ln
  ·rw[Zv b];generalize ln=L at b;induction L with
   |nil=>cases b|cons a L U=>
    rw[ZG,zi];by_cases c:a=s
    ·simp[c]
    ·simp only[c,Yo];exact U ((Zq.1 b).resolve_left (λe=>c e.symm))
  ·rw[Zi b]
   have:(ln.map λs=>(s,z.bool true)).find? (λe=>decide (e.1=s))=none:=by
    rw[zA];intro x j i;obtain⟨o,k,rfl⟩:=ZC.1 j
    have:o=s:=by simpa using i
    exact b (this▸k)
   rw[this];rfl
 rw[f]
 have:decide (s∈mu)=decide (s∈ln):=by
  by_cases b:s∈ln
  ·simp[b,(HY s).1 b]
  ·have:¬s∈mu:=λV=>b ((HY s).2 V)
   simp[b,this]
 rw[this];by_cases b:s∈ln
 ·simp[b,s0]
 ·simp[b,s0]⟩⟩
def ti{P:Nat->Prop}{b k aN n:Nat}{aR:List (List z)}{st:iu}(h:kp X)(W:b<22)(a:dj.get b=some (.cells (E.ofList aR.flatten 0 .nil) n st))(e:n=k*aN)(c:aR.length=k)(K:∀r∈aR,r.length=aN)(d:k<=300000)(aV:P b):cl X q P b (.slice b 0 k k) aN aR:=
 u4 (st:=st) (by rw[h.H W,a,e]) c K d aV
def QD(h:kp X):kl X:=⟨by rw[h.aB];decide,λq=>⟨14,.slice 14 0 18 18,by rw[h.hT Zd sK];rfl,ti h Zd QY rfl rfl Zd Zd (by rw[h.aB];decide)⟩⟩
def Q1:dj.get 17=zP ((ae 0).map λI=>[z.str I.1,.int .i64 I.2]).flatten 4:=Zk
def Q2:dj.get 18=zP ((ae 1).map λI=>[z.str I.1,.int .i64 I.2]).flatten 2:=Zk
def Q3:dj.get 19=zP ((ae 2).map λI=>[z.str I.1,.int .i64 I.2]).flatten 12:=Zk
def Q4:dj.get 20=zP ((ae 3).map λI=>[z.str I.1,.int .i64 I.2]).flatten 4:=Zk
def Q5:dj.get 21=zP ((ae 4).map λI=>[z.str I.1,.int .i64 I.2]).flatten 2:=Zk
def vl(k:Nat):∀r∈(ae k).map λI=>[z.str I.1,.int .i64 I.2],r.length=2:=by intro r K;obtain⟨I,_,rfl⟩:=ZC.1 K;rfl
set_option maxRecDepth 20000 in
def QC(h:kp X):mD X:=⟨by rw[h.aB];decide,λq k a=>by
 have aV:∀b,b<22->b<X.aB:=λb W=>by rw[h.aB];omega
 match k,a with
 |0,_=>exact⟨17,.slice 17 0 2 2,by rw[h.hT Zd nU];rfl,ti (P:=λo=>o<X.aB) (b:=17) (aR:=(ae 0).map λI=>[z.str I.1,.int .i64 I.2]) h Zd Q1 rfl rfl (vl 0) Zd (aV 17 Zd)⟩|1,_=>exact⟨18,.slice 18 0 1 1,by rw[h.hT Zd nU];rfl,ti (P:=λo=>o<X.aB) (b:=18) (aR:=(ae 1).map λI=>[z.str I.1,.int .i64 I.2]) h Zd Q2 rfl rfl (vl 1) Zd (aV 18 Zd)⟩|2,_=>exact⟨19,.slice 19 0 6 6,by rw[h.hT Zd nU];rfl,ti (P:=λo=>o<X.aB) (b:=19) (aR:=(ae 2).map λI=>[z.str I.1,.int .i64 I.2]) h Zd Q3 rfl rfl (vl 2) Zd (aV 19 Zd)⟩|3,_=>exact⟨20,.slice 20 0 2 2,by rw[h.hT Zd nU];rfl,ti (P:=λo=>o<X.aB) (b:=20) (aR:=(ae 3).map λI=>[z.str I.1,.int .i64 I.2]) h Zd Q4 rfl rfl (vl 3) Zd (aV 20 Zd)⟩|4,_=>exact⟨21,.slice 21 0 1 1,by rw[h.hT Zd nU];rfl,ti (P:=λo=>o<X.aB) (b:=21) (aR:=(ae 4).map λI=>[z.str I.1,.int .i64 I.2]) h Zd Q5 rfl rfl (vl 4) Zd (aV 21 Zd)⟩⟩
def PG(a b:Int):gn X q 20 3 (.int .i64 a) (.int .i64 b)=some (k9 a b):=Zk
def TP(a:Int):hj X 20 3 (.int .i64 a)=true:=Zk
def SG(w:Int):∀L:List (Int×z),(L.map Prod.fst).Nodup->jx X q 3 (.int .i64 w) (L.map λe=>(z.int .i64 e.1,e.2))=some ((L.find? λe=>decide (e.1=w)).map Prod.snd):=by
 intro L;induction L with
 |nil=>intro _;rfl|cons e L U=>
  intro a;rw[ZG,YC]at a;simp only[ZG,jx,U a.2,PG,uz,zi];by_cases h:e.1=w
  ·have c:L.find? (λe=>decide (e.1=w))=none:=by
    rw[zA];intro x f d
    have:x.1=w:=by simpa using d
    exact a.1 (by rw[h, <-this];exact YU f)
   simp[h,c]
  ·have b:¬w=e.1:=λV=>h V.symm;simp[h,b]
noncomputable def tp:List (Int×(Int×Bool×Bool×Bool)):=[1,2,3,4,5,6,19,20,23,24,25,26].map λk:Int=>(k,(lT k).getD (0,false,false,false))
def QZ:dj.get 15=some (.look ((tp.map λe=>(e.1,z.agg (jE e.2))).map λe=>(z.int .i64 e.1,e.2))):=Zk
def abI(k:Int):(tp.find? λe=>decide (e.1=k)).map Prod.snd=lT k:=by
 by_cases a:k=1\/k=2\/k=3\/k=4\/k=5\/k=6\/k=19\/k=20\/k=23\/k=24\/k=25\/k=26
 ·rcases a with rfl|rfl|rfl|rfl|rfl|rfl|rfl|rfl|rfl|rfl|rfl|rfl<;>decide
 ·have d:lT k=none:=by unfold lT;rw[Zi Zo,Zi Zo,Zi Zo,Zi Zo,Zi Zo,Zi Zo,Zi Zo,Zi Zo,Zi Zo]
  rw[d]
  have:tp.find? (λe=>decide (e.1=k))=none:=by rw[zA];intro x g f;have b:x.1=k:=(by simpa using f);obtain⟨o,c,rfl⟩:=ZC.1 g;simp only at b;subst b;simp only[Zq,ZR,Yy]at c;exact a c
  rw[this];rfl
def QF(h:kp X):mE X:=⟨λq=>⟨.map 15,by rw[h.hT Zd wK];rfl,λk=>by
 have a:H X q 15=_:=(h.H Zd).trans QZ;have c:((tp.map λe=>(e.1,z.agg (jE e.2))).map Prod.fst).Nodup:=by decide
 simp only[fb,a,TP,cI,SG k _ c];have b:((tp.map λe=>(e.1,z.agg (jE e.2))).find? λe=>decide (e.1=k)).map Prod.snd=(lT k).map λs=>z.agg (jE s):=by
  rw[<-abI k,List.find?_map]
  have:((λe:Int×z=>decide (e.1=k))∘λe:Int×(Int×Bool×Bool×Bool)=>(e.1,z.agg (jE e.2)))=λe=>decide (e.1=k):=rfl
  rw[this];cases tp.find? (λe=>decide (e.1=k))<;>rfl
 rw[b];cases lT k with
 |none=>rfl|some s=>rfl⟩⟩
def QH(h:kp X):tD X:=⟨QA h,QE h,QG h⟩
end
end
end Go.Proofs.YtehmapikajmjaaaGreatDoor
