/- Part of the last text; no conditions -/
import Derived.Test.YtehmapikajmjaaaGreatDoorYh
set_option maxHeartbeats 8000000
set_option linter.all false
namespace Go.Proofs.YtehmapikajmjaaaGreatDoor
open Go.aC Go.aj
noncomputable section
section
variable{X:bf}{j S' am ah:B R}{k W ak ar an ba:Nat}{aA:List Tok}{i:Nat}
def mv(a b:Nat)(aQ:List Nat):Nat->Prop:=λh=>a<=h/\h<b/\h∉aQ
def b3.off{C:ai}{aK:Nat->Prop}{a b bz:Nat}{aQ:List Nat}{aB:y}{c:List aX}{aF:List y}(e:b3 C j (mv a b aQ) c aF)(I:ca C j (λh=>aK h/\h∈aQ) bz aB 1 (aF.map λv=>[v])):b3 C j (λh=>bR a b h/\h≠bz) c aF:=by
 cases aF with
 |nil=>
  have:=e.len;cases c with
  |nil=>exact .nil|cons=>simp at this
 |cons v aF=>have T:=(I.T Zs).2;exact b3.lift (λh d=>⟨⟨d.1,d.2.1⟩,λu=>d.2.2 (u▸T)⟩) _ _ e
def fE(d:bW X)(a:e3 X j k an ba aA i){bz:Nat}{s:ax}(f:bz<k)(n:bz≠an)(m:F X j bz=zO [.str s] 1){r:Except Int (Tok×List Tok)}(I:cq s (aA.drop i)=some r):
 az X 66 [.ptr an 0,.slice bz 0 1 1] j k (λM S' W=>∃x b,r=.ok (x,aA.drop b)/\M=.agg (bm x)/\aj X S' an ba aA b/\bo X [an] j k S' W) (e9 X an j k r):=by
 have c:ca X j (λh=>h=bz) bz (.slice bz 0 1 1) 1 (cQ [s]):=u2 (aR:=[[.str s]]) (st:=.own) m rfl Zs Zs rfl;refine(IH d a.aD a.par a.bk a.eu a.eh a.many f n c (r:=r) ?_);simp only[kJ];rw[I];obtain⟨u|⟨x,l⟩,_⟩:∃V,V=r:=⟨r,rfl⟩;all_goals(rename_i g;subst g;rfl)
def SA(T5:bW X){n:Nat}(Uv:n<=300000)(U:∀m,m<n->ki X an ba aA m):∀j k i r,e3 X j k an ba aA i->Go.aj.list n (aA.drop i)=some r->az X 175 [.ptr an 0] j k (λM S' W=>∃l w aF bz,r=.ok (l,aA.drop w)/\ca X S' (bR k W) bz M 1 (aF.map λv=>[v])/\b3 X S' (λh=>bR k W h/\h≠bz) l aF/\aj X S' an ba aA w/\bo X [an] j k S' W) (e9 X an j k r):=by
 intro j k i r O I;cases n with|zero=>simp[Go.aj.list]at I|succ n=>
 refine z6 T5 (La ..) ?_;unfold C3;have Uu:=O.aD;have Uo:=O.eu;have Un:=O.bk;have Up:=O.eh;unfold Go.aj.list at I;obtain⟨x,Uh,al,U8⟩:=ka I;refine(ih T5 O al _).Zm ?_;rintro Ux am ak ⟨rfl,T1,U1⟩;have Uq:=U1.le;rcases U8 with ⟨T0,I⟩|⟨T0,I⟩
 ·rw[T0]at T1 ⊢;simp only[ZK]at T1 ⊢;simp only[ok,Zh]at I;subst I;refine bh bm.eq_1 ⟨?_⟩;refine⟨[],i+1,[],0,by rw[(dq al).2],ca.nil _ _,.nil,T1.K (zQ) (zQ), ?_⟩;exact⟨Zo,λb T T6=>by rw[<-U1.K b T T6];exact zQ⟩
 ·rw[T0]at T1 ⊢;simp only[ZA,ZJ]at T1 ⊢;simp only[]at I;refine bA bm.eq_1 el.eq_1 ⟨?_⟩;refine c6 (λC=>aT X am ak C (ak+1)) b8 ?_;intro ah UG;have UQ:=O.go (T1.ex UG Zo Zo) (by omega:k<=ak+1);have UI:=U1.trans (bo.of UG);rcases dQ I with ⟨a,f,rfl⟩|⟨u,Uw,f,I⟩
  ·exact((U n Zo).arrow ah _ _ _ UQ f).mono (λM S' W e=>by obtain⟨u,w,e,_⟩:=e;cases e) (λM S' W e=>e.of UI (λ_ e=>by cases e;rfl))
  refine((U n Zo).arrow ah _ _ _ UQ f).mono ?_ (λM S' W e=>by obtain⟨a,e,_⟩:=e;cases e);rintro v3 C UB ⟨Um,i3,UW,U0,UK,U2⟩;cases UW;have Ur:=U2.le;obtain⟨Uj,rfl,U7,_⟩:=U0.ptr;have U7:=U7.2;refine br ⟨?_⟩;refine cG (λm z S' UA=>∃l aF s aQ w,aF.length+m<=n+1/\z.g 0=some (.ptr an 0)/\z.g 5=some s/\cT X S' s 1 aF aQ/\(∀h∈aQ,k<=h/\h<UA)/\b3 X S' (mv k UA aQ) l aF/\aj X S' an ba aA w/\bo X [an] j k S' UA/\hS m l (aA.drop w)=some r)
   n ⟨[u],[.ptr Uj 0],.slice UB 0 1 1,[UB],i3,Zx,av,av,.inr ⟨UB,1,_,_,rfl,rfl,rfl,aJ Zo,fS _,rfl,Zo⟩, ?_, ?_,UK.K (zQ) (zQ), ?_,I⟩ ?_
  ·intro h c;simp at c;omega
  ·refine b3.one (bB.K (λh c=> ?_) _ _ U0) (λh c=>⟨zK c.1,zK c.2,by have:=c.2;simp;omega⟩);have:=c.2;simp(disch:=omega) only[ag]
  ·exact⟨Zo,λb T T6=>by rw[<-(UI.trans U2).K b T T6];exact zQ⟩
  clear U0 UK U2 f I U7;rintro m z UR UC ⟨l,aF,s,aQ,i4,Ut,t0,t5,Uc,d,UX,Ub,U3,I⟩;cases m with|zero=>simp[hS]at I|succ m=>
  unfold hS at I;have UZ:=U3.le;have UD:=O.go Ub UZ;refine dV ?_;refine bh @t0 ⟨?_⟩;obtain⟨h,Uh,al,U8⟩:=ka I;refine(ih T5 UD al _).Zm ?_;rintro Uy G g ⟨rfl,T2,TY⟩;have Us:=TY.le;have UP:∀h,k<=h->h<UC->F X G h=F X UR h:=λh T3 f=>TY.K h Zo Zx;have UN:=Uc.K (S':=G) (λh c=>UP h (d h c).1 (d h c).2);have UJ:=b3.K (S':=G) (λh c=>UP h c.1 c.2.1) _ _ UX;rcases U8 with ⟨T0,I⟩|⟨T0,I⟩
  ·rw[T0]at T2 ⊢;simp only[ZK]at T2 ⊢;rw[<-(dq al).2]at I;simp only[]at I;refine cb bm.eq_1 @t0 @t5 ⟨?_⟩;refine c6 (λC=>aT X G g C (g+1)) b8 ?_;intro TZ p;have T4:=(U3.trans TY).trans (bo.of p);have T8:=UD.go (T2.ex p Zo Zo) (by omega:UC<=g+1);rcases dQ I with ⟨a,N,rfl⟩|⟨UE,Ui,N,I⟩
   ·exact((U m Zo).arrow TZ _ _ _ T8 N).mono (λM S' W e=>by obtain⟨u,w,e,_⟩:=e;cases e) (λM S' W e=>e.of T4 (λ_ e=>by cases e;rfl))
   refine((U m Zo).arrow TZ _ _ _ T8 N).mono ?_ (λM S' W e=>by obtain⟨a,e,_⟩:=e;cases e);rintro Ul L A ⟨UU,U9,U5,UH,U6,t⟩;cases U5;have Ua:=t.le;obtain⟨T9,rfl,UL,_⟩:=UH.ptr;have UL:=UL.2;refine br ⟨?_⟩;have Ug:∀dY,dY=aI X L A (zO [.ptr T9 0] 1)->∀h,k<=h->h<g->F X dY h=F X G h:=(by rintro dY rfl h T3 f;rw[ag Zo Zo,t.K h Zo Zx,p.K h Zo]);have Ue:f9 X (aI X L A (zO [.ptr T9 0] 1)) 1 (.slice A 0 1 1)=some (1,[.ptr T9 0]):=g6 (aJ Zo) (fS _) rfl _;obtain⟨Uk,US,UT,UV,Ud,U4,UY⟩:=(UN.K (S':=aI X L A (zO [.ptr T9 0] 1)) (λh c=>Ug _ rfl h (d h c).1 (zK (d h c).2))).append (k:=A+1) Zd Ue rfl Zd rfl Zx Zo (λh c=>zK (d h c).2);refine d7 UV ?_;have T7:∀h,h<A->h∉aQ->F X US h=F X L h:=λh T3 f=>(by rw[UY h Zo f,ag Zo Zo]);refine⟨m,Zo,l++[UE],aF++[.ptr T9 0],Uk,UT,U9,Zx,Y t0,av,.inl Ud, ?_, ?_, ?_, ?_,I⟩
   ·intro h c;rcases U4 h c with rfl|c
    ·omega
    ·have:=d h c;omega
   ·refine b3.snoc (bB.K (λh c=> ?_) _ _ UH) (b3.K (λh c=> ?_) _ _ UJ) (λh c=>⟨c.1,zK c.2.1,λc4=> ?_⟩) (λh c=>⟨⟨zK c.1,zK c.2,λc4=> ?_⟩,λUf=>by have:=c.1;have:=Uf.2.1;omega⟩)
    ·have T3:=c.1;exact T7 h c.2 (λc4=>zK (d h c4))
    ·have f:=c.2.1;rw[T7 h Zo c.2.2,t.K h Zo (by have:=c.1;simp;omega),p.K h Zo]
    ·have f:=c.2.1;rcases U4 h c4 with rfl|c4
     ·omega
     ·exact c.2.2 c4
    ·have T3:=c.1;have f:=c.2;rcases U4 h c4 with rfl|c4
     ·omega
     ·have:=d h c4;omega
   ·exact U6.K (T7 _ Zo (λu=>zK (d _ u))) (T7 _ Zo (λu=>zK (d _ u)))
   ·exact⟨Zo,λb T T6=>by rw[T7 b Zo (λu=>zK (d _ u))];exact(T4.trans t).K b T T6⟩
  ·rw[T0]at T2 ⊢;simp only[ZA,ZJ]at T2 ⊢;simp only[]at I;refine c9 bm.eq_1 el.eq_1 @t0 @t5 ⟨?_⟩;refine c6 (λC=>aT X G g C (g+1+1)/\F X C (g+1)=zO [.str [41]] 1) ⟨b8,aJ Zo⟩ ?_;rintro TZ ⟨p,UF⟩;have T4:=(U3.trans TY).trans (bo.of p);have T8:=UD.go (T2.ex p Zo Zo) (by omega:UC<=g+1+1);rcases dQ I with ⟨a,N,rfl⟩|⟨UE,Ui,N,I⟩
   ·exact(fE T5 T8 Zo Zo UF N).mono (λM S' W e=>by obtain⟨u,w,e,_⟩:=e;cases e) (λM S' W e=>e.of T4 (λ_ e=>by cases e;rfl))
   refine(fE T5 T8 Zo Zo UF N).mono ?_ (λM S' W e=>by obtain⟨a,e,_⟩:=e;cases e);rintro Ul L A ⟨UU,U9,U5,_,U6,t⟩;cases U5;have Ua:=t.le;simp only[ok,Zh]at I;subst I;refine bh @t5 ⟨?_⟩;have UO:∀h,k<=h->h<g->F X L h=F X G h:=λh T3 f=>(by rw[t.K h Zo Zx,p.K h Zo]);obtain⟨bz,UM⟩:=(UN.K (S':=L) (λh c=>UO h (d h c).1 (zK (d h c).2))).kH (P:=λh=>bR k A h/\h∈aQ) Zo (λh c=>⟨⟨(d h c).1,zK (d h c).2⟩,c⟩);refine⟨l,U9,aF,bz,rfl,UM.lift (λh c=>c.1), ?_,U6,T4.trans t⟩;exact b3.lift (λh c=>⟨⟨c.1.1,zK c.1.2⟩,c.2⟩) _ _ (b3.off (b3.K (λh c=>UO h c.1 (zK c.2.1)) _ _ UJ) UM)
def aae(A:bW X){n:Nat}{r:Except Int (aX×List Tok)}(a:e3 X j k an ba aA i){x:Tok}{l:List Tok}(al:aA.drop i=x::l)(C:x.kind=5)(I:Go.aj.part (n+1) (x::l)=some r):
 az X 172 [.ptr an 0] j k (fN X an ba aA j k r) (e9 X an j k r):=by
 refine z6 A (oM ..) ?_;unfold nE;have TY:=a.aD;have T5:=a.eu;have T4:=a.bk;have T6:=a.eh;obtain⟨G,T0⟩:=dq al;unfold Go.aj.part at I;refine(kC A a.aD a.par a.eu a.eh G).Zm ?_;rintro M am ak ⟨rfl,p⟩;have T8:=p.le;have s:=a.par.ex p Zo Zo;obtain⟨c,ac,aL,bs,a3,a4⟩:=s.at_;have a7:=fT aL a3;have T7:=(Ze.1 G).1;have T9:=a.many;have TZ:=s.ne;have O:=zP i;refine c8 bm.eq_1 @a7 (Za @O @aL) ⟨?_⟩;generalize d:aI X _ an _=ah;have g:F X ah ak=zO (bm x) 7:=by rw[<-d];exact z2
 have f:F X ah (ak+1)=zO (ep 0 x.at_ [] false cg 0 .au) 9:=by rw[<-d];exact z2
 have w:aj X ah an ba aA (i+1):=by
  refine s.on (c:=ch c 1 [.Z ((i+1:Nat):Int)]) ?_ (λb1 st e=>by rw[aL]at e;cases e;exact je ..) ?_
  ·rw[<-d];simp(disch:=omega) only[ag,aJ];rfl
  ·rw[<-d];simp(disch:=omega) only[ag]
 have P:bo X [an] j k ah (ak+2):=by refine⟨Zo,λb T t=> ?_⟩;rw[<-p.K b T, <-d];simp only[Zq,ZS,YU,YB,ZN,Yp]at t;simp(disch:=omega) only[ag]
 clear d a7 aL bs a3 a4 s p;have T3:∃bU,F X ah an=some (.cells bU 2 .own)/\ay X ah (.ptr an 1)=some (.Z (i+1:Nat)):=by obtain⟨c,ac,bb,bn,bH,T2⟩:=w.at_;exact⟨c,bb,fT bb bH⟩
 have U0:=a.go w (by omega:k<=ak+1+1);refine dW (λz S' L=>∃v,z.g 4=some v/\fN X an ba aA j k r v S' L) (λE T1=> ?_) (by
  rintro z S' L ⟨v,t4,e⟩;refine bh @t4 ⟨?_⟩;exact e)
 rw[Zu C]at I;simp only[ok,Zh]at I;subst I;have N:decide (x.kind=5)=true:=by simp[C]
 refine c9 (aZ g) @f @N bm.eq_1 ⟨?_⟩;refine ed (by simp[y.same,iF]) ?_;refine cb (aZ g) @f bm.eq_1 ⟨?_⟩;refine ed (jb _ _) ?_;refine cb (aZ g) @f bm.eq_1 ⟨?_⟩;refine ed (jb _ _) ?_;refine cb (aZ g) @f bm.eq_1 ⟨?_⟩;refine T1 _ _ _ ⟨.ptr (ak+1) 0,av,_,i+1,by rw[<-T0],bB.leaf (b:=ak+1) (m:=9) (st:=.own) ?_ ⟨Zo,Zo⟩,w.K (zQ) (zQ), ?_⟩
 ·exact z2
 ·exact⟨Zo,λb T t=>by rw[<-P.K b T t];exact zQ⟩
def HC(P:bW X){n:Nat}{r:Except Int (aX×List Tok)}(a:e3 X j k an ba aA i){x:Tok}{l:List Tok}(al:aA.drop i=x::l)(s:x.kind=2)(d:x.text=[116,114,117,101]\/x.text=[102,97,108,115,101])(I:Go.aj.part (n+1) (x::l)=some r):
 az X 172 [.ptr an 0] j k (fN X an ba aA j k r) (e9 X an j k r):=by
 refine z6 P (oM ..) ?_;unfold nE;have U1:=a.aD;have T8:=a.eu;have T7:=a.bk;have T9:=a.eh;obtain⟨T2,T0⟩:=dq al;unfold Go.aj.part at I;refine(kC P a.aD a.par a.eu a.eh T2).Zm ?_;rintro M am ak ⟨rfl,p⟩;have TZ:=p.le;have t:=a.par.ex p Zo Zo;obtain⟨c,ac,aL,bs,a3,a4⟩:=t.at_;have a7:=fT aL a3;have TY:=(Ze.1 T2).1;have U0:=a.many;have U2:=t.ne;have T4:=zP i;refine c8 bm.eq_1 @a7 (Za @T4 @aL) ⟨?_⟩;generalize f:aI X _ an _=ah;have N:F X ah ak=zO (bm x) 7:=by rw[<-f];exact z2
 have L:F X ah (ak+1)=zO (ep 0 x.at_ [] false cg 0 .au) 9:=by rw[<-f];exact z2
 have w:aj X ah an ba aA (i+1):=by
  refine t.on (c:=ch c 1 [.Z ((i+1:Nat):Int)]) ?_ (λb1 st e=>by rw[aL]at e;cases e;exact je ..) ?_
  ·rw[<-f];simp(disch:=omega) only[ag,aJ];rfl
  ·rw[<-f];simp(disch:=omega) only[ag]
 have O:bo X [an] j k ah (ak+2):=by refine⟨Zo,λb T g=> ?_⟩;rw[<-p.K b T, <-f];simp only[Zq,ZS,YU,YB,ZN,Yp]at g;simp(disch:=omega) only[ag]
 clear f a7 aL bs a3 a4 t p;have T6:∃bU,F X ah an=some (.cells bU 2 .own)/\ay X ah (.ptr an 1)=some (.Z (i+1:Nat)):=by obtain⟨c,ac,bb,bn,bH,T5⟩:=w.at_;exact⟨c,bb,fT bb bH⟩
 have U3:=a.go w (by omega:k<=ak+1+1);refine dW (λz S' T3=>∃v,z.g 4=some v/\fN X an ba aA j k r v S' T3) (λE T1=> ?_) (by
  rintro z S' T3 ⟨v,t4,e⟩;refine bh @t4 ⟨?_⟩;exact e)
 rw[Zi (by rw[s];decide),Zu (by rcases d with e|e<;>simp[s,e])]at I;simp only[ok,Zh]at I;subst I;have G:decide (x.kind=5)=false:=by simp[s]
 have C:decide (x.kind=2)=true:=by simp[s]
 rcases d with d|d
 ·have A:decide (x.text=[116,114,117,101])=true:=by simp[d]
  refine eC (aZ N) @L @G @C @A bm.eq_1 ⟨?_⟩;refine T1 _ _ _ ⟨.ptr (ak+1) 0,av,_,i+1,by rw[<-T0],bB.leaf (b:=ak+1) (m:=9) (st:=.own) (n:=if x.text=[116,114,117,101]then 1 else 0) ?_ ⟨Zo,Zo⟩,w.K (zQ) (zQ), ?_⟩
  ·rw[Zu d];exact z2
  ·exact⟨Zo,λb T g=>by rw[<-O.K b T g];exact zQ⟩
 ·have A:decide (x.text=[116,114,117,101])=false:=by simp[d]
  have aP:decide (x.text=[102,97,108,115,101])=true:=by simp[d]
  refine cd (aZ N) @L @G @C @A @aP bm.eq_1 ⟨?_⟩;refine T1 _ _ _ ⟨.ptr (ak+1) 0,av,_,i+1,by rw[<-T0],bB.leaf (b:=ak+1) (m:=9) (st:=.own) (n:=if x.text=[116,114,117,101]then 1 else 0) ?_ ⟨Zo,Zo⟩,w.K (zQ) (zQ), ?_⟩
  ·rw[Zi (by rw[d];decide)];exact z2
  ·exact⟨Zo,λb T g=>by rw[<-O.K b T g];exact zQ⟩
def aag(T7:bW X){n:Nat}(U:∀m,m<n+1->ki X an ba aA m){r:Except Int (aX×List Tok)}(d:e3 X j k an ba aA i){x:Tok}{l:List Tok}(al:aA.drop i=x::l)(Ui:n<=1000000)(s:x.kind=1)(I:Go.aj.part (n+1) (x::l)=some r):
 az X 172 [.ptr an 0] j k (fN X an ba aA j k r) (e9 X an j k r):=by
 refine z6 T7 (oM ..) ?_;unfold nE;have Uh:=d.aD;have Ua:=d.eu;have UZ:=d.bk;have Ub:=d.eh;obtain⟨U6,UI⟩:=dq al;unfold Go.aj.part at I;refine(kC T7 d.aD d.par d.eu d.eh U6).Zm ?_;rintro M am ak ⟨rfl,N⟩;have Ud:=N.le;have O:=d.par.ex N Zo Zo;obtain⟨c,ac,aL,bs,a3,a4⟩:=O.at_;have a7:=fT aL a3;have Uc:=(Ze.1 U6).1;have Ug:=d.many;have Uj:=O.ne;have UE:=zP i;refine c8 bm.eq_1 @a7 (Za @UE @aL) ⟨?_⟩;generalize p:aI X _ an _=ah;have T2:F X ah ak=zO (bm x) 7:=by rw[<-p];exact z2
 have A:F X ah (ak+1)=zO (ep 0 x.at_ [] false cg 0 .au) 9:=by rw[<-p];exact z2
 have P:aj X ah an ba aA (i+1):=by
  refine O.on (c:=ch c 1 [.Z ((i+1:Nat):Int)]) ?_ (λb1 st e=>by rw[aL]at e;cases e;exact je ..) ?_
  ·rw[<-p];simp(disch:=omega) only[ag,aJ];rfl
  ·rw[<-p];simp(disch:=omega) only[ag]
 have U1:bo X [an] j k ah (ak+2):=by refine⟨Zo,λb T g=> ?_⟩;rw[<-N.K b T, <-p];simp only[Zq,ZS,YU,YB,ZN,Yp]at g;simp(disch:=omega) only[ag]
 clear p a7 aL bs a3 a4 O N;have UG:∃bU,F X ah an=some (.cells bU 2 .own)/\ay X ah (.ptr an 1)=some (.Z (i+1:Nat)):=by obtain⟨c,ac,bb,bn,bH,UV⟩:=P.at_;exact⟨c,bb,fT bb bH⟩
 have UU:=d.go P (by omega:k<=ak+1+1);refine dW (λz S' U7=>∃v,z.g 4=some v/\fN X an ba aA j k r v S' U7) (λE U5=> ?_) (by
  rintro z S' U7 ⟨v,t4,e⟩;refine bh @t4 ⟨?_⟩;exact e)
 rw[Zi (by rw[s];decide),Zi (by simp[s]),Zu s]at I;have UD:decide (x.kind=5)=false:=by simp[s]
 have UC:decide (x.kind=2)=false:=by simp[s]
 have UB:decide (x.kind=1)=true:=by simp[s]
 refine eC (aZ T2) @A @UD @UC @UB bm.eq_1 ⟨?_⟩;refine ed (by simp[y.same,pv]) ?_;refine cb (aZ T2) @A bm.eq_1 ⟨?_⟩;refine c6 (λC=>F X C (ak+1)=zO (ep 2 x.at_ x.text false cg 0 .au) 9/\aj X C an ba aA (i+1)/\bo X [an] j k C (ak+1+1+10)) ⟨?_, ?_, ?_⟩ ?_
 ·exact z2
 ·exact P.K (zQ) (zQ)
 ·exact⟨Zo,λb T g=>by rw[<-U1.K b T g];exact zQ⟩
 clear P UU U1 T2 A UG;rintro C ⟨A,UM,UH⟩;have U8:=d.go UM (by omega:k<=ak+1+1+10);rw[<-UI]at I;obtain⟨h,Ul,U4,US⟩:=ka I;refine(ih T7 U8 U4 _).Zm ?_;rintro Uo TZ TY ⟨rfl,t,T5⟩;have Ue:=T5.le;have U0:F X TZ (ak+1)=zO (ep 2 x.at_ x.text false cg 0 .au) 9:=by rw[T5.K _ Zo Zx];exact A
 have U3:=UH.trans T5;rcases US with ⟨T9,I⟩|⟨T9,I⟩
 ·rw[T9]at t ⊢;simp only[ZK]at t ⊢;rw[<-(dq U4).2]at I;simp only[]at I;refine bh bm.eq_1 ⟨?_⟩;refine c6 (λG=>aT X TZ TY G (TY+1)) b8 ?_;intro G T4;have U9:=U8.go (t.ex T4 Zo Zo) (by omega:ak+1+1+10<=TY+1);have U2:=U3.trans (bo.of T4);rcases dQ I with ⟨a,T3,rfl⟩|⟨UW,Um,T3,I⟩
  ·exact((U n Zo).list G _ _ _ U9 T3).mono (λM S' W e=>by obtain⟨u,Uk,aF,bz,e,_⟩:=e;cases e) (λM S' W e=>e.of U2 (λ_ e=>by cases e;rfl))
  refine((U n Zo).list G _ _ _ U9 T3).mono ?_ (λM S' W e=>by obtain⟨a,e,_⟩:=e;cases e);rintro T0 UA Un ⟨gO,UT,aF,bz,UJ,T8,UK,UN,T6⟩;cases UJ;have Uf:=T6.le;simp only[ok,Zh]at I;subst I;have UF:F X UA (ak+1)=zO (ep 2 x.at_ x.text false cg 0 .au) 9:=by rw[T6.K _ Zo Zx,T4.K _ Zo];exact U0
  have UL:∃w,T0.cells=[w]/\w=T0/\hV T0=true:=by have:=T8.len;cases T0<;>first|exact⟨_,rfl,rfl,rfl⟩|(simp[c2]at this;done)
  obtain⟨w,UQ,rfl,UR⟩:=UL;have UO:∀L T1,F X L (ak+1)=some (.cells T1 9 .own)->cN X L 1 (.ptr (ak+1) 8) w=some (aI X L (ak+1) (some (.cells (T1.set 8 (some w)) 9 .own))):=λL T1 e=>jE e Zo Zo UQ UR;refine bh @UF ⟨?_⟩;refine dh (UO _ _ (aJ Zo)) ?_;refine U5 _ _ _ ⟨.ptr (ak+1) 0,av,_,UT,rfl,bB.of (b:=ak+1) (m:=9) (st:=.own) (bz:=bz) (aB:=w) (kind:=25) (at_:=x.at_) (name:=x.text) (no:=false) (ty:=cg) (n:=0) (aF:=aF) ?_ ⟨Zo,Zo⟩ ?_ (λUP=> ?_) ?_,UN.K (zQ) (zQ), ?_⟩
  ·exact z2
  ·refine(T8.K (λh f=> ?_)).lift (λh f=>⟨zK f.1,f.2⟩);have:=f.1;simp(disch:=omega) only[ag]
  ·have:=(T8.T (by simpa using UP)).1;omega
  ·refine b3.lift (λh f=>⟨⟨zK f.1.1,zK f.1.2⟩,zK f.1.1,f.2⟩) _ _ (b3.K (λh f=> ?_) _ _ UK);have UX:=f.1.1;have UY:=f.1.2;simp(disch:=omega) only[ag]
  ·exact⟨Zo,λb T g=>by rw[<-(U2.trans T6).K b T g];exact zQ⟩
 ·rw[T9]at t ⊢;simp only[ZA,ZJ]at t ⊢;simp only[ok,Zh]at I;subst I;refine bA bm.eq_1 el.eq_1 ⟨?_⟩;refine U5 _ _ _ ⟨.ptr (ak+1) 0,av,_,i+1,rfl,bB.leaf (b:=ak+1) (m:=9) (st:=.own) ?_ ⟨Zo,Zo⟩,t.K (zQ) (zQ), ?_⟩
  ·simp(disch:=omega) only[ag];exact U0
  ·exact⟨Zo,λb T g=>by rw[<-U3.K b T g];exact zQ⟩
def aaj(s:bW X){n:Nat}(U:∀m,m<n+1->ki X an ba aA m){r:Except Int (aX×List Tok)}(d:e3 X j k an ba aA i){x:Tok}{l:List Tok}(al:aA.drop i=x::l)(f:x.kind=3)(I:Go.aj.part (n+1) (x::l)=some r):
 az X 172 [.ptr an 0] j k (fN X an ba aA j k r) (e9 X an j k r):=by
 refine z6 s (oM ..) ?_;unfold nE;have Un:=d.aD;have Uh:=d.eu;have Ug:=d.bk;have Ui:=d.eh;obtain⟨U7,UP⟩:=dq al;unfold Go.aj.part at I;refine(kC s d.aD d.par d.eu d.eh U7).Zm ?_;rintro M am ak ⟨rfl,L⟩;have Uk:=L.le;have O:=d.par.ex L Zo Zo;obtain⟨c,ac,aL,bs,a3,a4⟩:=O.at_;have a7:=fT aL a3;have Uj:=(Ze.1 U7).1;have Um:=d.many;have Uo:=O.ne;have UG:=zP i;refine c8 bm.eq_1 @a7 (Za @UG @aL) ⟨?_⟩;generalize t:aI X _ an _=ah;have T1:F X ah ak=zO (bm x) 7:=by rw[<-t];exact z2
 have A:F X ah (ak+1)=zO (ep 0 x.at_ [] false cg 0 .au) 9:=by rw[<-t];exact z2
 have P:aj X ah an ba aA (i+1):=by
  refine O.on (c:=ch c 1 [.Z ((i+1:Nat):Int)]) ?_ (λb1 st e=>by rw[aL]at e;cases e;exact je ..) ?_
  ·rw[<-t];simp(disch:=omega) only[ag,aJ];rfl
  ·rw[<-t];simp(disch:=omega) only[ag]
 have U2:bo X [an] j k ah (ak+2):=by refine⟨Zo,λb T G=> ?_⟩;rw[<-L.K b T, <-t];simp only[Zq,ZS,YU,YB,ZN,Yp]at G;simp(disch:=omega) only[ag]
 clear t a7 aL bs a3 a4 O L;have UK:∃bU,F X ah an=some (.cells bU 2 .own)/\ay X ah (.ptr an 1)=some (.Z (i+1:Nat)):=by obtain⟨c,ac,bb,bn,bH,Ue⟩:=P.at_;exact⟨c,bb,fT bb bH⟩
 have Uc:=d.go P (by omega:k<=ak+1+1);refine dW (λz S' U9=>∃v,z.g 4=some v/\fN X an ba aA j k r v S' U9) (λE UT=> ?_) (by
  rintro z S' U9 ⟨v,t4,e⟩;refine bh @t4 ⟨?_⟩;exact e)
 rw[Zi (by rw[f];decide),Zi (by simp[f]),Zi (by rw[f];decide),Zu f]at I;have UF:decide (x.kind=5)=false:=by simp[f]
 have UD:decide (x.kind=2)=false:=by simp[f]
 have UC:decide (x.kind=1)=false:=by simp[f]
 have UE:decide (x.kind=3)=true:=by simp[f]
 refine cd (aZ T1) @A @UF @UD @UC @UE bm.eq_1 ⟨?_⟩;refine ed (by simp[y.same,iF]) ?_;refine cb (aZ T1) @A bm.eq_1 ⟨?_⟩;refine c6 (λw=>F X w (ak+1+1+10)=zO [.str [40]] 1/\F X w (ak+1)=zO (ep 26 x.at_ [] false x.ty 0 .au) 9/\aj X w an ba aA (i+1)/\bo X [an] j k w (ak+1+1+10+1)) ⟨aJ Zo, ?_, ?_, ?_⟩ ?_
 ·exact z2
 ·exact P.K (zQ) (zQ)
 ·exact⟨Zo,λb T G=>by rw[<-U2.K b T G];exact zQ⟩
 clear P Uc U2 T1 A UK;rintro w ⟨aa,A,UW,U3⟩;have T8:=d.go UW (by omega:k<=ak+1+1+10+1);rw[<-UP]at I;rcases dQ I with ⟨a,T2,rfl⟩|⟨Uv,Up,T2,I⟩
 ·exact(fE s T8 Zo Zo aa T2).mono (λM S' W e=>by obtain⟨u,U8,e,_⟩:=e;cases e) (λM S' W e=>e.of U3 (λ_ e=>by cases e;rfl))
 refine(fE s T8 Zo Zo aa T2).mono ?_ (λM S' W e=>by obtain⟨a,e,_⟩:=e;cases e);rintro v4 TZ Ub ⟨Uw,i4,UQ,_,UX,T6⟩;cases UQ;have UU:=T6.le;have T9:=T8.go UX UU;have U5:=U3.trans T6;rcases dQ I with ⟨a,T3,rfl⟩|⟨UH,Uq,T3,I⟩
 ·exact((U n Zo).arrow TZ _ _ _ T9 T3).mono (λM S' W e=>by obtain⟨u,U8,e,_⟩:=e;cases e) (λM S' W e=>e.of U5 (λ_ e=>by cases e;rfl))
 refine((U n Zo).arrow TZ _ _ _ T9 T3).mono ?_ (λM S' W e=>by obtain⟨a,e,_⟩:=e;cases e);rintro v5 UB p ⟨Uf,i5,UR,T5,T7,N⟩;cases UR;have UV:=N.le;have Ut:=T9.go T7 UV;have UO:=U5.trans N;obtain⟨TY,rfl,U6,_⟩:=T5.ptr;have U6:=U6.2;have U0:F X UB (ak+1)=zO (ep 26 x.at_ [] false x.ty 0 .au) 9:=by rw[N.K _ Zo Zx,T6.K _ Zo Zx];exact A
 refine bh @U0 ⟨?_⟩;refine c6 (λg=>F X g (p+1)=zO [.str [41]] 1/\F X g p=zO [.ptr TY 0] 1/\F X g (ak+1)=zO (ep 26 x.at_ [] false x.ty 0 (.slice p 0 1 1)) 9/\bB X g (bR Ub p) UH (.ptr TY 0)/\aj X g an ba aA i5/\bo X [an] j k g (p+1+1)) ⟨aJ Zo, ?_, ?_, ?_, ?_, ?_⟩ ?_
 ·exact z2
 ·exact z2
 ·refine bB.ex T5 (λh UL UM=> ?_) Zo Zo;simp(disch:=omega) only[ag]
 ·exact T7.K (zQ) (zQ)
 ·exact⟨Zo,λb T G=>by rw[<-UO.K b T G];exact zQ⟩
 clear T5 T7 U0 N;rintro g ⟨U1,UI,UJ,UN,UY,U4⟩;have UA:=d.go UY (by omega:k<=p+1+1);rcases dQ I with ⟨a,T4,rfl⟩|⟨Ux,Ur,T4,I⟩
 ·exact(fE s UA Zo Zo U1 T4).mono (λM S' W e=>by obtain⟨u,U8,e,_⟩:=e;cases e) (λM S' W e=>e.of U4 (λ_ e=>by cases e;rfl))
 refine(fE s UA Zo Zo U1 T4).mono ?_ (λM S' W e=>by obtain⟨a,e,_⟩:=e;cases e);rintro Uu Ud Us ⟨Uy,Ua,US,_,UZ,C⟩;cases US;have Ul:=C.le;simp only[ok,Zh]at I;subst I;refine UT _ _ _ ⟨.ptr (ak+1) 0,av,_,Ua,rfl,bB.lit (q:=1) (cap:=1) (b:=ak+1) (m:=9) (st:=.own) (fC:=.own) (bz:=p) (aF:=[.ptr TY 0]) ?_ ⟨Zo,Zo⟩ ?_ ⟨Zo,Zo⟩ rfl Zo Zo (b3.one (bB.K (λh T0=> ?_) _ _ UN) (λh T0=> ?_)),UZ,U4.trans C⟩
 ·rw[C.K _ Zo Zx];exact UJ
 ·rw[C.K _ Zo Zx];exact UI
 ·have UL:=T0.1;have UM:=T0.2;exact C.K h Zo Zx
 ·simp only[bR]at T0 ⊢;omega
def aai(t:bW X){n:Nat}(U:∀m,m<n+1->ki X an ba aA m){r:Except Int (aX×List Tok)}(d:e3 X j k an ba aA i){x:Tok}{l:List Tok}(al:aA.drop i=x::l)(f:x.kind=6)(T5:x.text=[40])(I:Go.aj.part (n+1) (x::l)=some r):
 az X 172 [.ptr an 0] j k (fN X an ba aA j k r) (e9 X an j k r):=by
 refine z6 t (oM ..) ?_;unfold nE;have UX:=d.aD;have UR:=d.eu;have UQ:=d.bk;have US:=d.eh;obtain⟨T6,UA⟩:=dq al;unfold Go.aj.part at I;refine(kC t d.aD d.par d.eu d.eh T6).Zm ?_;rintro M am ak ⟨rfl,s⟩;have UU:=s.le;have w:=d.par.ex s Zo Zo;obtain⟨c,ac,aL,bs,a3,a4⟩:=w.at_;have a7:=fT aL a3;have UT:=(Ze.1 T6).1;have UW:=d.many;have UY:=w.ne;have U4:=zP i;refine c8 bm.eq_1 @a7 (Za @U4 @aL) ⟨?_⟩;generalize g:aI X _ an _=ah;have U6:F X ah ak=zO (bm x) 7:=by rw[<-g];exact z2
 have U5:F X ah (ak+1)=zO (ep 0 x.at_ [] false cg 0 .au) 9:=by rw[<-g];exact z2
 have T3:aj X ah an ba aA (i+1):=by
  refine w.on (c:=ch c 1 [.Z ((i+1:Nat):Int)]) ?_ (λb1 st e=>by rw[aL]at e;cases e;exact je ..) ?_
  ·rw[<-g];simp(disch:=omega) only[ag,aJ];rfl
  ·rw[<-g];simp(disch:=omega) only[ag]
 have T0:bo X [an] j k ah (ak+2):=by refine⟨Zo,λb T U9=> ?_⟩;rw[<-s.K b T, <-g];simp only[Zq,ZS,YU,YB,ZN,Yp]at U9;simp(disch:=omega) only[ag]
 clear g a7 aL bs a3 a4 w s;have UN:∃bU,F X ah an=some (.cells bU 2 .own)/\ay X ah (.ptr an 1)=some (.Z (i+1:Nat)):=by obtain⟨c,ac,bb,bn,bH,UK⟩:=T3.at_;exact⟨c,bb,fT bb bH⟩
 have O:=d.go T3 (by omega:k<=ak+1+1);refine dW (λz S' T7=>∃v,z.g 4=some v/\fN X an ba aA j k r v S' T7) (λE UD=> ?_) (by
  rintro z S' T7 ⟨v,t4,e⟩;refine bh @t4 ⟨?_⟩;exact e)
 rw[Zi (by rw[f];decide),Zi (by simp[f]),Zi (by rw[f];decide),Zi (by rw[f];decide),Zu (by simp[f,T5])]at I;have U1:decide (x.kind=5)=false:=by simp[f]
 have TZ:decide (x.kind=2)=false:=by simp[f]
 have TY:decide (x.kind=1)=false:=by simp[f]
 have U0:decide (x.kind=3)=false:=by simp[f]
 have U2:decide (x.kind=6)=true:=by simp[f]
 have U3:decide (x.text=[40])=true:=by simp[T5]
 refine cd (aZ U6) @U5 @U1 @TZ @TY @U0 (Za @U2 (Za @U3 bm.eq_1)) ⟨?_⟩;rw[<-UA]at I;rcases dQ I with ⟨a,C,rfl⟩|⟨UL,UZ,C,I⟩
 ·exact((U n Zo).arrow ah _ _ _ O C).mono (λM S' W e=>by obtain⟨u,UG,e,_⟩:=e;cases e) (λM S' W e=>e.of T0 (λ_ e=>by cases e;rfl))
 refine((U n Zo).arrow ah _ _ _ O C).mono ?_ (λM S' W e=>by obtain⟨a,e,_⟩:=e;cases e);rintro v5 T9 p ⟨UM,i5,UB,U7,T4,T1⟩;cases UB;have UE:=T1.le;have UI:=O.go T4 UE;have U8:=T0.trans T1;refine br ⟨?_⟩;refine c6 (λA=>F X A p=zO [.str [41]] 1/\aT X T9 p A (p+1)) ⟨aJ Zo,b8⟩ ?_;rintro A ⟨P,L⟩;have T8:=UI.go (T4.ex L Zo Zo) (by omega:p<=p+1);have T2:=U8.trans (bo.of L);rcases dQ I with ⟨a,G,rfl⟩|⟨Ud,Ua,G,I⟩
 ·exact(fE t T8 Zo Zo P G).mono (λM S' W e=>by obtain⟨u,UG,e,_⟩:=e;cases e) (λM S' W e=>e.of T2 (λ_ e=>by cases e;rfl))
 refine(fE t T8 Zo Zo P G).mono ?_ (λM S' W e=>by obtain⟨a,e,_⟩:=e;cases e);rintro Uc UJ Ub ⟨Ue,UH,UC,_,UF,N⟩;cases UC;have UV:=N.le;simp only[ok,Zh]at I;subst I;refine UD _ _ _ ⟨v5,av,_,UH,rfl,bB.ex U7 (λh UO UP=>by rw[N.K h Zo Zx,L.K h Zo]) Zo Zo,UF,T2.trans N⟩
def aaf(T2:bW X){n:Nat}(U:∀m,m<n+1->ki X an ba aA m){r:Except Int (aX×List Tok)}(f:e3 X j k an ba aA i){x:Tok}{l:List Tok}(al:aA.drop i=x::l)(d:x.kind=2)(p:x.text=[109,101,114,103,101])(I:Go.aj.part (n+1) (x::l)=some r):
 az X 172 [.ptr an 0] j k (fN X an ba aA j k r) (e9 X an j k r):=by
 refine z6 T2 (oM ..) ?_;unfold nE;have Un:=f.aD;have Ug:=f.eu;have Uf:=f.bk;have Uh:=f.eh;obtain⟨U7,UL⟩:=dq al;unfold Go.aj.part at I;refine(kC T2 f.aD f.par f.eu f.eh U7).Zm ?_;rintro M am ak ⟨rfl,O⟩;have Uj:=O.le;have T0:=f.par.ex O Zo Zo;obtain⟨c,ac,aL,bs,a3,a4⟩:=T0.at_;have a7:=fT aL a3;have Ui:=(Ze.1 U7).1;have Um:=f.many;have Uo:=T0.ne;have UG:=zP i;refine c8 bm.eq_1 @a7 (Za @UG @aL) ⟨?_⟩;generalize A:aI X _ an _=ah;have U0:F X ah ak=zO (bm x) 7:=by rw[<-A];exact z2
 have G:F X ah (ak+1)=zO (ep 0 x.at_ [] false cg 0 .au) 9:=by rw[<-A];exact z2
 have T4:aj X ah an ba aA (i+1):=by
  refine T0.on (c:=ch c 1 [.Z ((i+1:Nat):Int)]) ?_ (λb1 st e=>by rw[aL]at e;cases e;exact je ..) ?_
  ·rw[<-A];simp(disch:=omega) only[ag,aJ];rfl
  ·rw[<-A];simp(disch:=omega) only[ag]
 have T1:bo X [an] j k ah (ak+2):=by refine⟨Zo,λb T N=> ?_⟩;rw[<-O.K b T, <-A];simp only[Zq,ZS,YU,YB,ZN,Yp]at N;simp(disch:=omega) only[ag]
 clear A a7 aL bs a3 a4 T0 O;have UI:∃bU,F X ah an=some (.cells bU 2 .own)/\ay X ah (.ptr an 1)=some (.Z (i+1:Nat)):=by obtain⟨c,ac,bb,bn,bH,Uc⟩:=T4.at_;exact⟨c,bb,fT bb bH⟩
 have s:=f.go T4 (by omega:k<=ak+1+1);refine dW (λz S' U8=>∃v,z.g 4=some v/\fN X an ba aA j k r v S' U8) (λE UM=> ?_) (by
  rintro z S' U8 ⟨v,t4,e⟩;refine bh @t4 ⟨?_⟩;exact e)
 rw[Zi (by rw[d];decide),Zi (by simp[d,p]),Zi (by rw[d];decide),Zi (by rw[d];decide),Zi (by simp[d]),Zi (by simp[d,p]),Zu (by simp[d,p])]at I;have UE:decide (x.kind=5)=false:=by simp[d]
 have UC:decide (x.kind=2)=true:=by simp[d]
 have UB:decide (x.kind=1)=false:=by simp[d]
 have UD:decide (x.kind=3)=false:=by simp[d]
 have UF:decide (x.kind=6)=false:=by simp[d]
 have UU:decide (x.text=[116,114,117,101])=false:=by simp[p]
 have UV:decide (x.text=[102,97,108,115,101])=false:=by simp[p]
 have UW:decide (x.text=[105,102])=false:=by simp[p]
 have UX:decide (x.text=[109,101,114,103,101])=true:=by simp[p]
 refine cd (aZ U0) @G @UE @UC @UB @UD (Za @UF (Za @UU (Za @UV (Za @UW (Za @UX bm.eq_1))))) ⟨?_⟩;rw[<-UL]at I;cases P:aA.drop (i+1)with
 |nil=>rw[P]at I;simp[eT,andThen]at I|cons c Ur=>
 rw[P]at I;simp only[eT]at I;refine(py T2 s.aD s.par s.bk s.eu s.eh s.many (dq P).1 1).mono ?_ ?_
 ·rintro Ua T8 T7 ⟨T3,rfl,U6,t⟩;have Uk:=t.le;rw[Zu T3]at I;simp only[andThen,ok]at I;rw[<-(dq P).2]at I;have TZ:F X T8 (ak+1)=zO (ep 0 x.at_ [] false cg 0 .au) 9:=by rw[t.K _ Zo Zx];exact G
  have U4:=T1.trans t;refine bA bm.eq_1 @TZ ⟨?_⟩;refine c6 (λC=>F X C (ak+1)=zO (ep 24 x.at_ c.text false cg 0 .au) 9/\aj X C an ba aA (i+1+1)/\bo X [an] j k C T7) ⟨?_, ?_, ?_⟩ ?_
  ·exact z2
  ·exact U6.K (zQ) (zQ)
  ·exact⟨Zo,λb T N=>by rw[<-U4.K b T N];exact zQ⟩
  clear TZ U6 t U4 G UI T4 s T1 U0;rintro C ⟨G,UO,U3⟩;have UA:=f.go UO (by omega:k<=T7);cases T5:Go.aj.part n (aA.drop (i+1+1))with
  |none=>rw[T5]at I;cases I|some Us=>
  rw[T5]at I;refine((U n Zo).part C _ _ _ UA T5).mono ?_ ?_
  ·rintro v5 T9 US ⟨Ud,i5,rfl,U1,UP,L⟩;simp only[]at I;have UN:=L.le;have UT:=UA.go UP UN;have U5:=U3.trans L;cases T6:Go.aj.part n (aA.drop i5)with
   |none=>rw[T6]at I;cases I|some Ut=>
   rw[T6]at I;refine((U n Zo).part T9 _ _ _ UT T6).mono ?_ ?_
   ·rintro Ub TY U9 ⟨Ue,UR,rfl,U2,UQ,w⟩;simp only[Zh]at I;subst I;have Ul:=w.le;obtain⟨UY,rfl,Up,_⟩:=U1.ptr;obtain⟨UZ,rfl,Uq,_⟩:=U2.ptr;have UH:F X TY (ak+1)=zO (ep 24 x.at_ c.text false cg 0 .au) 9:=(by rw[w.K _ Zo Zx,L.K _ Zo Zx];exact G);refine bh @UH ⟨?_⟩;refine UM _ _ _ ⟨.ptr (ak+1) 0,av,_,UR,rfl,bB.lit (q:=2) (cap:=2) (b:=ak+1) (m:=9) (st:=.own) (fC:=.own) (bz:=U9) (aF:=[.ptr UY 0,.ptr UZ 0]) ?_ ⟨Zo,Zo⟩ ?_ ⟨Zo,Zo⟩ rfl Zo Zo (b3.two (bB.K (λh g=> ?_) _ _ U1) (bB.K (λh g=> ?_) _ _ U2) (λh g=> ?_) (λh g=> ?_)),UQ.K (zQ) (zQ), ?_⟩
    ·exact z2
    ·exact z2
    ·have UJ:=g.1;have UK:=g.2;simp(disch:=omega) only[ag];exact w.K h Zo Zx
    ·have UJ:=g.1;have UK:=g.2;simp(disch:=omega) only[ag]
    ·simp only[bR]at g ⊢;omega
    ·simp only[bR]at g ⊢;omega
    ·exact⟨Zo,λb T N=>by rw[<-(U5.trans w).K b T N];exact zQ⟩
   ·rintro Ub TY U9 ⟨a,rfl,rfl,w⟩;simp only[Zh]at I;subst I;exact⟨a,rfl,rfl,U5.trans w⟩
  ·rintro v5 T9 US ⟨a,rfl,rfl,L⟩;simp only[Zh]at I;subst I;exact⟨a,rfl,rfl,U3.trans L⟩
 ·rintro Ua T8 T7 ⟨T3,rfl,t⟩;rw[Zi T3]at I;simp only[andThen,bad,Zh]at I;subst I;exact⟨_,rfl,rfl,T1.trans t⟩
def Be(T4:bW X){n:Nat}{r:Except Int (aX×List Tok)}(d:e3 X j k an ba aA i){x:Tok}{l:List Tok}(al:aA.drop i=x::l)(C:x.kind≠5)(a7:x.kind≠1)(A:x.kind≠3)(U1:x.kind=6->x.text≠[40])(bl:x.kind=2->x.text≠[116,114,117,101]/\x.text≠[102,97,108,115,101]/\x.text≠[105,102]/\x.text≠[109,101,114,103,101])(I:Go.aj.part (n+1) (x::l)=some r):
 az X 172 [.ptr an 0] j k (fN X an ba aA j k r) (e9 X an j k r):=by
 refine z6 T4 (oM ..) ?_;unfold nE;have UL:=d.aD;have UD:=d.eu;have UC:=d.bk;have UE:=d.eh;obtain⟨U0,UF⟩:=dq al;unfold Go.aj.part at I;refine(kC T4 d.aD d.par d.eu d.eh U0).Zm ?_;rintro M am ak ⟨rfl,t⟩;have UJ:=t.le;have w:=d.par.ex t Zo Zo;obtain⟨c,ac,aL,bs,a3,a4⟩:=w.at_;have a7:=fT aL a3;have UG:=(Ze.1 U0).1;have UK:=d.many;have UM:=w.ne;have U3:=zP i;refine c8 bm.eq_1 @a7 (Za @U3 @aL) ⟨?_⟩;generalize m:aI X _ an _=ah;have T3:F X ah ak=zO (bm x) 7:=by rw[<-m];exact z2
 have T0:F X ah (ak+1)=zO (ep 0 x.at_ [] false cg 0 .au) 9:=by rw[<-m];exact z2
 have TZ:aj X ah an ba aA (i+1):=by
  refine w.on (c:=ch c 1 [.Z ((i+1:Nat):Int)]) ?_ (λb1 st e=>by rw[aL]at e;cases e;exact je ..) ?_
  ·rw[<-m];simp(disch:=omega) only[ag,aJ];rfl
  ·rw[<-m];simp(disch:=omega) only[ag]
 have U6:bo X [an] j k ah (ak+2):=by refine⟨Zo,λb T f=> ?_⟩;rw[<-t.K b T, <-m];simp only[Zq,ZS,YU,YB,ZN,Yp]at f;simp(disch:=omega) only[ag]
 clear m a7 aL bs a3 a4 w t;have U4:∃bU,F X ah an=some (.cells bU 2 .own)/\ay X ah (.ptr an 1)=some (.Z (i+1:Nat)):=by obtain⟨c,ac,bb,bn,bH,UB⟩:=TZ.at_;exact⟨c,bb,fT bb bH⟩
 have UN:=d.go TZ (by omega:k<=ak+1+1);refine dW (λz S' U2=>∃v,z.g 4=some v/\fN X an ba aA j k r v S' U2) (λE UH=> ?_) (by
  rintro z S' U2 ⟨v,t4,e⟩;refine bh @t4 ⟨?_⟩;exact e)
 have U7:r=.error x.at_:=by
  by_cases a:x.kind=2
  ·obtain⟨T5,T6,T7,T8⟩:=bl a;have g:¬x.kind=6:=Zo;rw[Zi C,Zi (by simp[T5,T6]),Zi a7,Zi A,Zi (by simp[g]),Zi (by simp[T7]),Zi (by simp[T8])]at I;simp only[bad,Zh]at I;exact I.symm
  ·by_cases g:x.kind=6
   ·rw[Zi C,Zi (by simp[a]),Zi a7,Zi A,Zi (by simp[U1 g]),Zi (by simp[a]),Zi (by simp[a])]at I;simp only[bad,Zh]at I;exact I.symm
   ·rw[Zi C,Zi (by simp[a]),Zi a7,Zi A,Zi (by simp[g]),Zi (by simp[a]),Zi (by simp[a])]at I;simp only[bad,Zh]at I;exact I.symm
 subst U7;have O:decide (x.kind=5)=false:=by simp[C]
 have L:decide (x.kind=1)=false:=by simp[a7]
 have N:decide (x.kind=3)=false:=by simp[A]
 obtain⟨bU,T1,T2⟩:=U4;have P:aH .sub (.Z (i+1:Nat)) (.Z 1)=some (.Z (((i+1:Nat):Int) -1)):=by rw[ju Zo Zo]
 have fin:∀(G:B R) (S:aY),(∀b,b<k->b∉[an]->F X G b=F X ah b)->az X 103 [.agg (bm x)] G (ak+1+1) S (e9 X an j k (Except.error x.at_:Except Int (aX×List Tok))):=by intro G S U5;refine(ue T4 Zo x _ ?_).mono (λ_ _ _ e=>e.elim) (λ_ _ _ e=>e);intro S' W TY;have UI:=TY.le;exact⟨_,rfl,rfl,Zo,λb T f=>by rw[TY.K b Zo,U5 b T f];exact U6.K b T f⟩
 by_cases a:x.kind=2
 ·obtain⟨T5,T6,T7,T8⟩:=bl a;have s:decide (x.kind=2)=true:=by simp[a]
  have p:decide (x.kind=6)=false:=by simp[a]
  have T9:decide (x.text=[116,114,117,101])=false:=by simp[T5]
  have U8:decide (x.text=[102,97,108,115,101])=false:=by simp[T6]
  have U9:decide (x.text=[105,102])=false:=by simp[T7]
  have UA:decide (x.text=[109,101,114,103,101])=false:=by simp[T8]
  refine cd (aZ T3) @T0 @O @s @L @N (Za @p (Za @T9 (Za @U8 (Za @U9 (Za @UA (Za bm.eq_1 (Za @T1 (Za @T2 @P)))))))) ⟨?_⟩;refine fin _ _ (λb T f=> ?_);simp only[Zq,ZS,YU,YB,ZN,Yp]at f;simp(disch:=omega) only[ag]
 ·have s:decide (x.kind=2)=false:=by simp[a]
  by_cases g:x.kind=6
  ·have p:decide (x.kind=6)=true:=(by simp[g]);have T9:decide (x.text=[40])=false:=(by simp[U1 g]);refine cd (aZ T3) @T0 @O @s @L @N (Za @p (Za @T9 (Za bm.eq_1 (Za @T1 (Za @T2 @P))))) ⟨?_⟩;refine fin _ _ (λb T f=> ?_);simp only[Zq,ZS,YU,YB,ZN,Yp]at f;simp(disch:=omega) only[ag]
  ·have p:decide (x.kind=6)=false:=(by simp[g]);refine cd (aZ T3) @T0 @O @s @L @N (Za @p (Za bm.eq_1 (Za @T1 (Za @T2 @P)))) ⟨?_⟩;refine fin _ _ (λb T f=> ?_);simp only[Zq,ZS,YU,YB,ZN,Yp]at f;simp(disch:=omega) only[ag]
def bo.gr{X:bf}{an:Nat}{j S':B R}{k W n:Nat}(e:bo X [an] j k S' W)(q:W<=n):bo X [an] j k S' n:=⟨ZD e.le q,e.K⟩
def en.one{C:ai}{j:B R}{s:y}{aO:Nat}{l:List y}{aQ:List Nat}(e:en C j s aO l aQ):s.cells=[s]/\hV s=true/\y.same 30 s s=true:=by
 rcases e with ⟨rfl,_⟩|⟨b,cl,n,c,rfl,_⟩
 ·exact⟨rfl,rfl,rfl⟩
 ·exact⟨rfl,rfl,by simp[y.same]⟩
def aad(UQ:bW X){n:Nat}(U:∀m,m<n+1->ki X an ba aA m){r:Except Int (aX×List Tok)}(A:e3 X j k an ba aA i){x:Tok}{l:List Tok}(al:aA.drop i=x::l)(T6:x.kind=2)(UY:x.text=[105,102])(I:Go.aj.part (n+1) (x::l)=some r):
 az X 172 [.ptr an 0] j k (fN X an ba aA j k r) (e9 X an j k r):=by
 refine z6 UQ (oM ..) ?_;unfold nE;have Vj:=A.aD;have Vc:=A.eu;have Vb:=A.bk;have Vd:=A.eh;obtain⟨V8,VM⟩:=dq al;unfold Go.aj.part at I;refine(kC UQ A.aD A.par A.eu A.eh V8).Zm ?_;rintro M am ak ⟨rfl,Ud⟩;have Vf:=Ud.le;have Ue:=A.par.ex Ud Zo Zo;obtain⟨c,ac,aL,bs,a3,a4⟩:=Ue.at_;have a7:=fT aL a3;have Ve:=(Ze.1 V8).1;have Vi:=A.many;have Vk:=Ue.ne;have VJ:=zP i;refine c8 bm.eq_1 @a7 (Za @VJ @aL) ⟨?_⟩;generalize UR:aI X _ an _=ah;have Uv:F X ah ak=zO (bm x) 7:=by rw[<-UR];exact z2
 have Ut:F X ah (ak+1)=zO (ep 0 x.at_ [] false cg 0 .au) 9:=by rw[<-UR];exact z2
 have Uf:aj X ah an ba aA (i+1):=by
  refine Ue.on (c:=ch c 1 [.Z ((i+1:Nat):Int)]) ?_ (λb1 st e=>by rw[aL]at e;cases e;exact je ..) ?_
  ·rw[<-UR];simp(disch:=omega) only[ag,aJ];rfl
  ·rw[<-UR];simp(disch:=omega) only[ag]
 have Uw:bo X [an] j k ah (ak+2):=by refine⟨Zo,λb T G=> ?_⟩;rw[<-Ud.K b T, <-UR];simp only[Zq,ZS,YU,YB,ZN,Yp]at G;simp(disch:=omega) only[ag]
 clear UR a7 aL bs a3 a4 Ue Ud;have VL:∃bU,F X ah an=some (.cells bU 2 .own)/\ay X ah (.ptr an 1)=some (.Z (i+1:Nat)):=by obtain⟨c,ac,bb,bn,bH,Va⟩:=Uf.at_;exact⟨c,bb,fT bb bH⟩
 have VT:=A.go Uf (by omega:k<=ak+1+1);refine dW (λz S' VA=>∃v,z.g 4=some v/\fN X an ba aA j k r v S' VA) (λE VN=> ?_) (by
  rintro z S' VA ⟨v,t4,e⟩;refine bh @t4 ⟨?_⟩;exact e)
 rw[Zi (by rw[T6];decide),Zi (by simp[T6,UY]),Zi (by rw[T6];decide),Zi (by rw[T6];decide),Zi (by simp[T6]),Zu (by simp[T6,UY])]at I;have VH:decide (x.kind=5)=false:=by simp[T6]
 have VF:decide (x.kind=2)=true:=by simp[T6]
 have VE:decide (x.kind=1)=false:=by simp[T6]
 have VG:decide (x.kind=3)=false:=by simp[T6]
 have VI:decide (x.kind=6)=false:=by simp[T6]
 have VU:decide (x.text=[116,114,117,101])=false:=by simp[UY]
 have VV:decide (x.text=[102,97,108,115,101])=false:=by simp[UY]
 have VW:decide (x.text=[105,102])=true:=by simp[UY]
 refine cd (aZ Uv) @Ut @VH @VF @VE @VG (Za @VI (Za @VU (Za @VV (Za @VW (Za bm.eq_1 ep.eq_1))))) ⟨?_⟩;rw[<-VM]at I;refine c6 (λUh=>F X Uh (ak+1)=zO (ep 23 x.at_ [] false cg 0 .au) 9/\aj X Uh an ba aA (i+1)/\bo X [an] j k Uh (ak+1+1)) ⟨?_, ?_, ?_⟩ ?_
 ·exact z2
 ·exact Uf.K (zQ) (zQ)
 ·exact⟨Zo,λb T G=>by rw[<-Uw.K b T G];exact zQ⟩
 clear Uf VT Uw Uv Ut VL;rintro US ⟨Uu,V2,Um⟩;have V5:cT X US .au 1 [] []:=.inl (.inl ⟨rfl,rfl,rfl⟩);have T5:∀h∈([]:List Nat),ak+2<=h/\h<ak+1+1:=by simp
 have Uy:b3 X US (mv (ak+2) (ak+1+1) []) [] []:=.nil;have VO:y.same 30 .au .au=true:=rfl;have VB:=A.go V2 (by omega:k<=(ak+1+1)+12);rcases dQ I with ⟨a,O,rfl⟩|⟨UT,V9,O,I⟩
 ·exact((U n Zo).arrow US _ _ _ VB O).mono (λM S' W e=>by obtain⟨u,Ug,e,_⟩:=e;cases e) (λM S' W e=>e.of (bo.gr Um Zo) (λ_ e=>by cases e;rfl))
 refine((U n Zo).arrow US _ _ _ VB O).mono ?_ (λM S' W e=>by obtain⟨a,e,_⟩:=e;cases e);clear O;rintro v5 g f ⟨Us,Vo,UW,T3,U9,w⟩;cases UW;have V1:=w.le;have U3:=(bo.gr Um (by omega:(ak+1+1)<=(ak+1+1)+12)).trans w;obtain⟨T9,rfl,UA,_⟩:=T3.ptr;have UA:=UA.2;have T2:F X g (ak+1)=zO (ep 23 x.at_ [] false cg 0 y.au) 9:=by rw[w.K _ Zo Zx];exact Uu
 have T8:∀h,ak+2<=h->h<(ak+1+1)->F X g h=F X US h:=λh C p=>w.K h Zo Zx;have UB:=V5.K (S':=g) (λh d=>T8 h (T5 h d).1 (T5 h d).2);have U5:=b3.K (S':=g) (λh d=>T8 h d.1 d.2.1) _ _ Uy;clear T8;refine bA (aZ T2) ep.eq_1 ⟨?_⟩;refine ed VO ?_;have UC:f9 X (aI X g ((ak+1+1)+7) (zO [.ptr T9 0] 1)) 1 (.slice ((ak+1+1)+7) 0 1 1)=some (1,[.ptr T9 0]):=g6 (aJ Zo) (fS _) rfl _;obtain⟨Uc,t,UO,U4,TY,T0,U6⟩:=(UB.K (S':=aI X g ((ak+1+1)+7) (zO [.ptr T9 0] 1)) (λh d=>ag Zo (zK (T5 h d).2))).append (k:=f) Zd UC rfl Zd rfl Zs Zo (λh d=>zK (T5 h d).2);refine d7 U4 ?_;have s:∀h,h<f->h∉([]:List Nat)->h≠(ak+1+1)+7->F X t h=F X g h:=λh C p UV=>by rw[U6 h Zo p,ag Zo UV]
 have UG:F X t (ak+1)=zO (ep 23 x.at_ [] false cg 0 y.au) 9:=by rw[s _ Zo (λe=>zK (T5 _ e)) Zo];exact T2
 obtain⟨U7,U8,VP⟩:=en.one TY;refine br ⟨?_⟩;refine dh (jE UG Zo Zo U7 U8) ?_;have L:∀h∈UO,ak+2<=h/\h<f+1:=by
  intro h d;rcases T0 h d with rfl|d
  ·omega
  ·have:=T5 h d;omega
 have UJ:b3 X t (mv (ak+2) (f+1) UO) ([]++[UT]) ([]++[.ptr T9 0]):=by
  refine b3.snoc (bB.K (λh d=> ?_) _ _ T3) (b3.K (λh d=> ?_) _ _ U5) (λh d=>⟨d.1,zK d.2.1,λc4=> ?_⟩) (λh d=>⟨⟨zK d.1,zK d.2,λc4=> ?_⟩,λUZ=>by have:=d.1;have:=UZ.2.1;omega⟩)
  ·have C:=d.1;exact s h d.2 (λc4=>zK (T5 h c4)) Zo
  ·have p:=d.2.1;exact s h Zo d.2.2 Zo
  ·have p:=d.2.1;rcases T0 h c4 with rfl|c4
   ·omega
   ·exact d.2.2 c4
  ·have C:=d.1;have p:=d.2;rcases T0 h c4 with rfl|c4
   ·omega
   ·have:=T5 h c4;omega
 have U2:bo X [an] j k t (f+1):=⟨Zo,λb T G=>by
  rw[s b Zo (λu=>zK (T5 _ u)) Zo];exact U3.K b T G⟩
 have UK:=U9.K (s an Zo (λu=>zK (T5 _ u)) Zo) (s ba Zo (λu=>zK (T5 _ u)) Zo);clear U5 T3 U9 w U3 T2 UB UC U4 U6 T0 U7 U8 Uy Uu V5 V2 Um;refine br ⟨?_⟩;refine c6 (λT1=>F X T1 (f+1)=zO [.str [116,104,101,110]] 1/\F X T1 (ak+1)=zO (ep 23 x.at_ [] false cg 0 Uc) 9/\(∀h,h<f+1->h≠ak+1->F X T1 h=F X t h)) ⟨aJ Zo, ?_, ?_⟩ ?_
 ·exact z2
 ·intro h C p;simp(disch:=omega) only[ag]
 clear UG;rintro T1 ⟨UH,UU,T7⟩;have UX:=UK.K (T7 an Zo Zo) (T7 ba Zo Zo);have UM:=A.go UX (by omega:k<=f+1+1);have UI:bo X [an] j k T1 (f+1+1):=⟨Zo,λb T G=>by rw[T7 b Zo Zo];exact U2.K b T G⟩;rcases dQ I with ⟨a,U1,rfl⟩|⟨VY,VS,U1,I⟩
 ·exact(fE UQ UM Zo Zo UH U1).mono (λM S' W e=>by obtain⟨u,Ug,e,_⟩:=e;cases e) (λM S' W e=>e.of UI (λ_ e=>by cases e;rfl))
 refine(fE UQ UM Zo Zo UH U1).mono ?_ (λM S' W e=>by obtain⟨a,e,_⟩:=e;cases e);clear U1;rintro VX UE TZ ⟨VZ,Vm,Up,_,V3,T4⟩;cases Up;have Vg:=T4.le;have Un:=UI.trans T4;have Uk:F X UE (ak+1)=zO (ep 23 x.at_ [] false cg 0 Uc) 9:=by rw[T4.K _ Zo Zx];exact UU
 have UL:∀h,ak+2<=h->h<f+1->F X UE h=F X t h:=λh C p=>by rw[T4.K h Zo Zx,T7 h p Zo]
 have V6:cT X UE Uc 1 ([]++[.ptr T9 0]) UO:=.inl (TY.K (λh d=>UL h (L h d).1 (L h d).2));have Uz:b3 X UE (mv (ak+2) TZ UO) ([]++[UT]) ([]++[.ptr T9 0]):=
  b3.lift (λh d=>⟨d.1,zK d.2.1,d.2.2⟩) _ _ (b3.K (λh d=>UL h d.1 d.2.1) _ _ UJ)
 have L:∀h∈UO,ak+2<=h/\h<TZ:=λh d=>zK (L h d);clear UJ TY UK U2 UX UM UI T4 UH UU T7 s UL;refine bA (aZ Uk) ep.eq_1 ⟨?_⟩;have VC:=A.go V3 (by omega:k<=TZ+12);rcases dQ I with ⟨a,O,rfl⟩|⟨Uj,V9,O,I⟩
 ·exact((U n Zo).arrow UE _ _ _ VC O).mono (λM S' W e=>by obtain⟨u,Ug,e,_⟩:=e;cases e) (λM S' W e=>e.of (bo.gr Un Zo) (λ_ e=>by cases e;rfl))
 refine((U n Zo).arrow UE _ _ _ VC O).mono ?_ (λM S' W e=>by obtain⟨a,e,_⟩:=e;cases e);clear O;rintro v5 g f ⟨Us,Vp,UW,T3,U9,w⟩;cases UW;have V1:=w.le;have U3:=(bo.gr Un (by omega:TZ<=TZ+12)).trans w;obtain⟨UD,rfl,UA,_⟩:=T3.ptr;have UA:=UA.2;have T2:F X g (ak+1)=zO (ep 23 x.at_ [] false cg 0 Uc) 9:=by rw[w.K _ Zo Zx];exact Uk
 have T8:∀h,ak+2<=h->h<TZ->F X g h=F X UE h:=λh C p=>w.K h Zo Zx;have UB:=V6.K (S':=g) (λh d=>T8 h (L h d).1 (L h d).2);have U5:=b3.K (S':=g) (λh d=>T8 h d.1 d.2.1) _ _ Uz;clear T8;refine bA (aZ T2) ep.eq_1 ⟨?_⟩;refine ed VP ?_;have UC:f9 X (aI X g (TZ+7) (zO [.ptr UD 0] 1)) 1 (.slice (TZ+7) 0 1 1)=some (1,[.ptr UD 0]):=g6 (aJ Zo) (fS _) rfl _;obtain⟨UN,t,UP,U4,TY,T0,U6⟩:=(UB.K (S':=aI X g (TZ+7) (zO [.ptr UD 0] 1)) (λh d=>ag Zo (zK (L h d).2))).append (k:=f) Zd UC rfl Zd rfl Zs Zo (λh d=>zK (L h d).2);refine d7 U4 ?_;have s:∀h,h<f->h∉UO->h≠TZ+7->F X t h=F X g h:=λh C p UV=>by rw[U6 h Zo p,ag Zo UV]
 have UG:F X t (ak+1)=zO (ep 23 x.at_ [] false cg 0 Uc) 9:=by rw[s _ Zo (λe=>zK (L _ e)) Zo];exact T2
 obtain⟨U7,U8,VQ⟩:=en.one TY;refine br ⟨?_⟩;refine dh (jE UG Zo Zo U7 U8) ?_;have N:∀h∈UP,ak+2<=h/\h<f+1:=by
  intro h d;rcases T0 h d with rfl|d
  ·omega
  ·have:=L h d;omega
 have UJ:b3 X t (mv (ak+2) (f+1) UP) (([]++[UT])++[Uj]) (([]++[.ptr T9 0])++[.ptr UD 0]):=by
  refine b3.snoc (bB.K (λh d=> ?_) _ _ T3) (b3.K (λh d=> ?_) _ _ U5) (λh d=>⟨d.1,zK d.2.1,λc4=> ?_⟩) (λh d=>⟨⟨zK d.1,zK d.2,λc4=> ?_⟩,λUZ=>by have:=d.1;have:=UZ.2.1;omega⟩)
  ·have C:=d.1;exact s h d.2 (λc4=>zK (L h c4)) Zo
  ·have p:=d.2.1;exact s h Zo d.2.2 Zo
  ·have p:=d.2.1;rcases T0 h c4 with rfl|c4
   ·omega
   ·exact d.2.2 c4
  ·have C:=d.1;have p:=d.2;rcases T0 h c4 with rfl|c4
   ·omega
   ·have:=L h c4;omega
 have U2:bo X [an] j k t (f+1):=⟨Zo,λb T G=>by
  rw[s b Zo (λu=>zK (L _ u)) Zo];exact U3.K b T G⟩
 have UK:=U9.K (s an Zo (λu=>zK (L _ u)) Zo) (s ba Zo (λu=>zK (L _ u)) Zo);clear U5 T3 U9 w U3 T2 UB UC U4 U6 T0 U7 U8 Uz Uk V6 V3 Un;refine br ⟨?_⟩;refine c6 (λT1=>F X T1 (f+1)=zO [.str [101,108,115,101]] 1/\F X T1 (ak+1)=zO (ep 23 x.at_ [] false cg 0 UN) 9/\(∀h,h<f+1->h≠ak+1->F X T1 h=F X t h)) ⟨aJ Zo, ?_, ?_⟩ ?_
 ·exact z2
 ·intro h C p;simp(disch:=omega) only[ag]
 clear UG;rintro T1 ⟨UH,UU,T7⟩;have UX:=UK.K (T7 an Zo Zo) (T7 ba Zo Zo);have UM:=A.go UX (by omega:k<=f+1+1);have UI:bo X [an] j k T1 (f+1+1):=⟨Zo,λb T G=>by rw[T7 b Zo Zo];exact U2.K b T G⟩;rcases dQ I with ⟨a,U1,rfl⟩|⟨VY,VS,U1,I⟩
 ·exact(fE UQ UM Zo Zo UH U1).mono (λM S' W e=>by obtain⟨u,Ug,e,_⟩:=e;cases e) (λM S' W e=>e.of UI (λ_ e=>by cases e;rfl))
 refine(fE UQ UM Zo Zo UH U1).mono ?_ (λM S' W e=>by obtain⟨a,e,_⟩:=e;cases e);clear U1;rintro VX UF U0 ⟨VZ,Vn,Up,_,V4,T4⟩;cases Up;have Vh:=T4.le;have Uo:=UI.trans T4;have Ul:F X UF (ak+1)=zO (ep 23 x.at_ [] false cg 0 UN) 9:=by rw[T4.K _ Zo Zx];exact UU
 have UL:∀h,ak+2<=h->h<f+1->F X UF h=F X t h:=λh C p=>by rw[T4.K h Zo Zx,T7 h p Zo]
 have V7:cT X UF UN 1 (([]++[.ptr T9 0])++[.ptr UD 0]) UP:=.inl (TY.K (λh d=>UL h (N h d).1 (N h d).2));have V0:b3 X UF (mv (ak+2) U0 UP) (([]++[UT])++[Uj]) (([]++[.ptr T9 0])++[.ptr UD 0]):=
  b3.lift (λh d=>⟨d.1,zK d.2.1,d.2.2⟩) _ _ (b3.K (λh d=>UL h d.1 d.2.1) _ _ UJ)
 have N:∀h∈UP,ak+2<=h/\h<U0:=λh d=>zK (N h d);clear UJ TY UK U2 UX UM UI T4 UH UU T7 s UL;refine bA (aZ Ul) ep.eq_1 ⟨?_⟩;have VD:=A.go V4 (by omega:k<=U0+12);rcases dQ I with ⟨a,O,rfl⟩|⟨VK,V9,O,I⟩
 ·exact((U n Zo).arrow UF _ _ _ VD O).mono (λM S' W e=>by obtain⟨u,Ug,e,_⟩:=e;cases e) (λM S' W e=>e.of (bo.gr Uo Zo) (λ_ e=>by cases e;rfl))
 refine((U n Zo).arrow UF _ _ _ VD O).mono ?_ (λM S' W e=>by obtain⟨a,e,_⟩:=e;cases e);clear O;rintro v5 g f ⟨Us,VR,UW,T3,U9,w⟩;cases UW;have V1:=w.le;have U3:=(bo.gr Uo (by omega:U0<=U0+12)).trans w;obtain⟨Ub,rfl,UA,_⟩:=T3.ptr;have UA:=UA.2;have T2:F X g (ak+1)=zO (ep 23 x.at_ [] false cg 0 UN) 9:=by rw[w.K _ Zo Zx];exact Ul
 have T8:∀h,ak+2<=h->h<U0->F X g h=F X UF h:=λh C p=>w.K h Zo Zx;have UB:=V7.K (S':=g) (λh d=>T8 h (N h d).1 (N h d).2);have U5:=b3.K (S':=g) (λh d=>T8 h d.1 d.2.1) _ _ V0;clear T8;refine bA (aZ T2) ep.eq_1 ⟨?_⟩;refine ed VQ ?_;have UC:f9 X (aI X g (U0+7) (zO [.ptr Ub 0] 1)) 1 (.slice (U0+7) 0 1 1)=some (1,[.ptr Ub 0]):=g6 (aJ Zo) (fS _) rfl _;obtain⟨Ur,t,Ui,U4,TY,T0,U6⟩:=(UB.K (S':=aI X g (U0+7) (zO [.ptr Ub 0] 1)) (λh d=>ag Zo (zK (N h d).2))).append (k:=f) Zd UC rfl Zd rfl Zs Zo (λh d=>zK (N h d).2);refine d7 U4 ?_;have s:∀h,h<f->h∉UP->h≠U0+7->F X t h=F X g h:=λh C p UV=>by rw[U6 h Zo p,ag Zo UV]
 have UG:F X t (ak+1)=zO (ep 23 x.at_ [] false cg 0 UN) 9:=by rw[s _ Zo (λe=>zK (N _ e)) Zo];exact T2
 obtain⟨U7,U8,Vl⟩:=en.one TY;refine br ⟨?_⟩;refine dh (jE UG Zo Zo U7 U8) ?_;have Ux:∀h∈Ui,ak+2<=h/\h<f+1:=by
  intro h d;rcases T0 h d with rfl|d
  ·omega
  ·have:=N h d;omega
 have UJ:b3 X t (mv (ak+2) (f+1) Ui) (([]++[UT]++[Uj])++[VK]) (([]++[.ptr T9 0]++[.ptr UD 0])++[.ptr Ub 0]):=by
  refine b3.snoc (bB.K (λh d=> ?_) _ _ T3) (b3.K (λh d=> ?_) _ _ U5) (λh d=>⟨d.1,zK d.2.1,λc4=> ?_⟩) (λh d=>⟨⟨zK d.1,zK d.2,λc4=> ?_⟩,λUZ=>by have:=d.1;have:=UZ.2.1;omega⟩)
  ·have C:=d.1;exact s h d.2 (λc4=>zK (N h c4)) Zo
  ·have p:=d.2.1;exact s h Zo d.2.2 Zo
  ·have p:=d.2.1;rcases T0 h c4 with rfl|c4
   ·omega
   ·exact d.2.2 c4
  ·have C:=d.1;have p:=d.2;rcases T0 h c4 with rfl|c4
   ·omega
   ·have:=N h c4;omega
 have U2:bo X [an] j k t (f+1):=⟨Zo,λb T G=>by
  rw[s b Zo (λu=>zK (N _ u)) Zo];exact U3.K b T G⟩
 have UK:=U9.K (s an Zo (λu=>zK (N _ u)) Zo) (s ba Zo (λu=>zK (N _ u)) Zo);clear U5 T3 U9 w U3 T2 UB UC U4 U6 T0 U7 U8 V0 Ul V7 V4 Uo;simp only[ok,Zh]at I;subst I;have Ua:∀h,h≠ak+1->F X (aI X t (ak+1) (some (.cells ((B.ofList (ep 23 x.at_ [] false cg 0 UN) 0 .nil).set 8 (some Ur)) 9 .own))) h=F X t h:=λh e=>ag Zo e;obtain⟨bz,Uq⟩:=(cT.K (S':=aI X t (ak+1) (some (.cells ((B.ofList (ep 23 x.at_ [] false cg 0 UN) 0 .nil).set 8 (some Ur)) 9 .own))) (.inl TY) (λh d=>Ua h (zK (Ux h d)))).kH (P:=λh=>bR (ak+2) (f+1) h/\h∈Ui) Zs (λh d=>⟨by have:=Ux h d;exact⟨Zo,Zo⟩,d⟩);refine VN _ _ _ ⟨.ptr (ak+1) 0,av,_,VR,rfl,bB.of (b:=ak+1) (m:=9) (st:=.own) (bz:=bz) (aB:=Ur) (kind:=23) (at_:=x.at_) (name:=[]) (no:=false) (ty:=cg) (n:=0) (aF:=[.ptr T9 0,.ptr UD 0,.ptr Ub 0]) ?_ ⟨Zo,Zo⟩ (Uq.lift (λh d=>⟨zK d.1.1,d.1.2⟩)) (λ_=> ?_) ?_, ?_, ?_⟩
 ·rw[aJ Zo];rfl
 ·have:=(Uq.T Zs).1.1;omega
 ·exact b3.lift (λh d=>⟨⟨zK d.1.1,zK d.1.2⟩,zK d.1.1,d.2⟩) _ _ (b3.off (b3.K (λh d=>Ua h (zK d.1)) _ _ UJ) Uq)
 ·exact UK.K (Ua _ Zo) (Ua _ Zo)
 ·exact⟨U2.le,λb T G=>by rw[Ua b Zo];exact U2.K b T G⟩
def aah(a:bW X){n:Nat}(w:n<=300000)(U:∀m,m<n->ki X an ba aA m):∀j k i r,e3 X j k an ba aA i->Go.aj.part n (aA.drop i)=some r->az X 172 [.ptr an 0] j k (fN X an ba aA j k r) (e9 X an j k r):=by
 intro j k i r b I;cases n with|zero=>simp[Go.aj.part]at I|succ n=>
 cases al:aA.drop i with|nil=>rw[al]at I;simp[Go.aj.part]at I|cons x l=>
 rw[al]at I;by_cases d:x.kind=5
 ·exact aae a b al d I
 by_cases a7:x.kind=1
 ·exact aag a U b al Zo a7 I
 by_cases c:x.kind=3
 ·exact aaj a U b al c I
 by_cases v:x.kind=6
 ·by_cases t:x.text=[40]
  ·exact aai a U b al v t I
  ·exact Be a b al d a7 c (λ_=>t) (λe=>Zo) I
 by_cases bl:x.kind=2
 ·by_cases f:x.text=[116,114,117,101]
  ·exact HC a b al bl (.inl f) I
  by_cases g:x.text=[102,97,108,115,101]
  ·exact HC a b al bl (.inr g) I
  by_cases p:x.text=[105,102]
  ·exact aad a U b al bl p I
  by_cases s:x.text=[109,101,114,103,101]
  ·exact aaf a U b al bl s I
  ·exact Be a b al d a7 c (λe=>Zo) (λ_=>⟨f,g,p,s⟩) I
 ·exact Be a b al d a7 c (λe=>Zo) (λe=>absurd e bl) I
def EA(a:bW X)(c:mF X):∀n,n<=300000->ki X an ba aA n:=by intro n;induction n using Nat.strongRecOn with|ind n U=>intro b;have U:∀m,m<n->ki X an ba aA m:=λm d=>U m d Zo;exact⟨Sr a c U,aby a U,aaq a U,aah a b U,P4 a U,Oc a U,SA a b U⟩
def sI(n:Int):y:=.Z n
def lZ(X:bf)(j:B R)(a af:Nat)(left:List ax)(bN:List Int):Prop:=a<af/\(o X).aD<=a/\∃c aB b hb hs,F X j a=some (.cells c 4 .own)/\c.get 0=some aB/\c.get 1=some b/\cT X j aB 1 (left.map .str) hb/\cT X j b 1 (bN.map sI) hs
 /\(∀h∈hb,a<h/\h<af/\h∉hs)/\∀h∈hs,a<h/\h<af
def lZ.K{X:bf}{j S':B R}{b af fy:Nat}{left:List ax}{bN:List Int}(e:lZ X j b af left bN)(q:∀h,b<=h->h<af->F X S' h=F X j h)(t:af<=fy):lZ X S' b fy left bN:=by
 obtain⟨g,i,c,aB,s,hb,hs,l,m,n,p,r,d,f⟩:=e;exact⟨Zo,i,c,aB,s,hb,hs,by rw[q b Zo g];exact l,m,n,p.K (λh a=>q h (zK (d h a)) (d h a).2.1),r.K (λh a=>q h (zK (f h a)) (f h a).2),
  λh a=>by have:=d h a;exact⟨this.1,Zo,this.2.2⟩,λh a=>zK (f h a)⟩
def cT.one{C:ai}{j:B R}{s:y}{aO:Nat}{l:List y}{aQ:List Nat}(e:cT C j s aO l aQ):s.cells=[s]/\hV s=true/\y.same 30 s s=true:=by
 rcases e with e|⟨b,n,c,st,rfl,_⟩
 ·exact en.one e
 ·exact⟨rfl,rfl,by simp[y.same]⟩
def A4(T7:bW X)(g:e3 X j k an ba aA i){C d:Nat}(Ua:C<d)(Ub:C≠an)(UD:an<d)(UE:ba<d)(UI:ay X j (.ptr C 0)=some (.ptr an 0)){left:List ax}{bN:List Int}(T0:lZ X j d k left bN)(UX:left.length<=1000000)(UY:bN.length<=300000){x:Tok}{l:List Tok}(al:aA.drop i=x::l):
 az X 104 [.ptr C 0,.ptr d 0] j k (λM S' W=>x.kind=1/\M=.tuple []/\lZ X S' d W (left++[x.text]) (bN++[x.at_])/\aj X S' an ba aA (i+1)/\k<=W/\bo X [an] j d S' W)
  (λM S' W=>x.kind≠1/\M=iU 21 x.at_/\bo X [an] j k S' W):=by
 refine z6 T7 (Jq ..) ?_;unfold B9;have UZ:=g.aD;have UV:=g.eu;have UU:=g.bk;have UW:=g.eh;refine bh @UI ⟨?_⟩;refine(py T7 g.aD g.par g.bk g.eu g.eh g.many (dq al).1 1).mono ?_ (λM S' W e=>e);rintro M am ak ⟨UF,rfl,UH,N⟩;have UG:=N.le;have UJ:=T0.K (S':=am) (fy:=ak) (λh UT U9=>N.K h U9 Zx) UG;have Uc:=T0.1;clear T0;obtain⟨U7,U8,c,aB,US,hb,hs,T3,U4,T4,T5,T6,f,m⟩:=UJ;obtain⟨dI,f7,Ud⟩:=cT.one T5;obtain⟨Ue,Uf,UM⟩:=cT.one T6;refine c9 bm.eq_1 (aZ T3) @U4 @T4 ⟨?_⟩;have UK:∀dY,F X dY (ak+1+4)=zO [.str x.text] 1->f9 X dY 1 (.slice (ak+1+4) 0 1 1)=some (1,[.str x.text]):=λdY e=>g6 e (fS _) rfl _;have UL:∀dY,F X dY (ak+1+10)=zO [.Z x.at_] 1->f9 X dY 1 (.slice (ak+1+10) 0 1 1)=some (1,[.Z x.at_]):=λdY e=>g6 e (fS _) rfl _;generalize s:aI X _ (ak+1+10) _=n;have t:∀h,h<ak->F X n h=F X am h:=λh a=>by rw[<-s];exact zQ
 have t3:F X n ak=zO (bm x) 7:=by rw[<-s];exact z2
 have U2:F X n (ak+1+4)=zO [.str x.text] 1:=by rw[<-s];exact z2
 have U3:F X n (ak+1+10)=zO [.Z x.at_] 1:=by rw[<-s];exact z2
 clear s;obtain⟨G,r,T2,UB,T8,O,p⟩:=(T5.K (S':=n) (λh a=>t h (f h a).2.1)).append (k:=ak+1+16) Zd (UK n U2) rfl Zd rfl Zx Zo (λh a=>zK (f h a).2.1);refine d7 UB ?_;have U1:F X r d=some (.cells c 4 .own):=by rw[p _ Zo (λe=>zK (f _ e).1),t _ U7];exact T3
 have t4:F X r ak=zO (bm x) 7:=by rw[p _ Zo (λe=>zK (f _ e).2.1)];exact t3
 have f4:F X r (ak+1+10)=zO [.Z x.at_] 1:=by rw[p _ Zo (λe=>zK (f _ e).2.1)];exact U3
 refine bA (aZ U1) @T4 ⟨?_⟩;refine ed UM ?_;refine bA (aZ t4) bm.eq_1 ⟨?_⟩;refine ed (jb _ _) ?_;have U5:cT X r US 1 (bN.map sI) hs:=T6.K (λh a=>by
  rw[p h (zK (m h a)) (λe=>(f h e).2.2 a)];exact t h (m h a).2)
 obtain⟨T1,w,L,UC,T9,P,A⟩:=U5.append (k:=ak+1+16+1) Zd (UL r f4) rfl Zd rfl Zx Zo (λh a=>zK (m h a).2);refine d7 UC ?_;obtain⟨UN,UO,Ug⟩:=en.one T8;obtain⟨UP,UQ,Uh⟩:=en.one T9;have UR:F X w d=some (.cells c 4 .own):=by rw[A _ Zo (λe=>zK (m _ e).1)];exact U1
 refine dh (jE UR Zo Zo UN UO) ?_;refine br ⟨?_⟩;refine dh (jE (aJ Zo) Zo Zo UP UQ) ?_;have TZ:∀h∈T2,d<h/\h<ak+1+16+1+1/\h∉L:=by
  intro h a;rcases O h a with rfl|a
  ·refine⟨Zo,Zo,λe=> ?_⟩;rcases P _ e with e|e
   ·omega
   ·have:=m _ e;omega
  ·obtain⟨aL,bs,a3⟩:=f h a;refine⟨Zo,Zo,λe=> ?_⟩;rcases P _ e with e|e
   ·omega
   ·exact a3 e
 have U0:∀h∈L,d<h/\h<ak+1+16+1+1:=by
  intro h a;rcases P h a with rfl|a
  ·omega
  ·have:=m h a;omega
 have v:∀dY,dY=aI X (aI X w d (some (.cells (c.set 0 (some G)) 4 .own))) d (some (.cells ((c.set 0 (some G)).set 1 (some T1)) 4 .own))->∀h,h≠d->F X dY h=F X w h:=by rintro dY rfl h a;rw[ag Zo a,ag Zo a]
 refine⟨UF,rfl,⟨Zo,U8,(c.set 0 (some G)).set 1 (some T1),G,T1,T2,L,aJ Zo, ?_, ?_, ?_, ?_,TZ,U0⟩, ?_,Zo,Zo,λb T UA=> ?_⟩
 ·rw[B.eX,Zi Zd,B.eX,Zu rfl]
 ·rw[B.eX,Zu rfl]
 ·rw[ZR];refine .inl (T8.K λh a=> ?_);have:=TZ h a;rw[v _ rfl h Zo,A h (by rcases O h a with rfl|e;omega;have:=f h e;omega) (λe=> ?_)];rcases O h a with rfl|U6
  ·have:=m _ e;omega
  ·exact(f h U6).2.2 e
 ·rw[ZR];exact .inl (T9.K λh a=>v _ rfl h (zK (U0 h a)))
 ·have TY:∀h,h<d->F X w h=F X am h:=λh a=>by rw[A h Zo (λe=>zK (m _ e)),p h Zo (λe=>zK (f _ e)),t h Zo]
  exact UH.K (by rw[v _ rfl _ Zo,TY _ UD]) (by rw[v _ rfl _ Zo,TY _ UE])
 ·rw[v _ rfl _ Zo,A b Zo (λe=>zK (m _ e)),p b Zo (λe=>zK (f _ e)),t b Zo];exact N.K b Zo UA
def oF(X:bf)(j:B R)(P:Nat->Prop)(V:cS)(row:List y):Prop:=∃aB b bb bn a,row=[aB,b,.Z V.at_,a]/\ca X j P bb aB 1 (cQ V.left)/\(ca X j P bn b 1 (V.bN.map λn=>[sI n])/\bB X j (λh=>P h/\(V.bN≠[]->h≠bn)) V.right a)/\bB X j P V.right a/\ei row=true
def oF.K{X:bf}{j S':B R}{P aK:Nat->Prop}{V:cS}{row:List y}(e:oF X j P V row)(q:∀h,P h->F X S' h=F X j h)(a:∀h,P h->aK h):oF X S' aK V row:=by obtain⟨aB,m,bb,bn,l,d,f,c,g,i⟩:=e;exact⟨aB,m,bb,bn,l,d,(f.K q).lift a,⟨(c.1.K q).lift a,bB.lift (λh b=>⟨a h b.1,b.2⟩) _ _ (bB.K (λh b=>q h b.1) _ _ c.2)⟩,bB.lift a _ _ (bB.K q _ _ g),i⟩
def oG(X:bf)(j:B R)(P:Nat->Prop)(V:cS)(row:List y):Prop:=∃(S:Nat->Nat) (aB b:y) (bb bn:Nat) (a:y),row=[aB,b,.Z V.at_,a]/\f2 X j (λh=>P h/\S h=1) bb aB 1 (cQ V.left)/\ca X j (λh=>P h/\S h=2) bn b 1 (V.bN.map λn=>[sI n])/\bB X j (λh=>P h/\S h=0) V.right a/\ei row=true
def oG.K{X:bf}{j S':B R}{P aK:Nat->Prop}{V:cS}{row:List y}(e:oG X j P V row)(q:∀h,P h->F X S' h=F X j h)(b:∀h,P h->aK h):oG X S' aK V row:=by obtain⟨S,aB,m,bb,bn,l,c,d,f,g,i⟩:=e;exact⟨S,aB,m,bb,bn,l,c,(d.K λh a=>q h a.1).lift λh a=>⟨b h a.1,a.2⟩,(f.K λh a=>q h a.1).lift λh a=>⟨b h a.1,a.2⟩,bB.lift (λh a=>⟨b h a.1,a.2⟩) _ _ (bB.K (λh a=>q h a.1) _ _ g),i⟩
def oG.row{X:bf}{j:B R}{P:Nat->Prop}{V:cS}{row:List y}(e:oG X j P V row):oF X j P V row:=by obtain⟨S,aB,m,bb,bn,l,d,f,b,c,g⟩:=e;exact⟨aB,m,bb,bn,l,d,f.rd.lift λh a=>a.1,⟨b.lift λh a=>a.1,bB.lift (λh a=>⟨a.1,λi u=>by have:=(b.T (by simpa using i)).2;rw[<-u,a.2]at this;cases this⟩) _ _ c⟩,bB.lift (λh a=>a.1) _ _ c,g⟩
def PL(O:bW X)(V9:mF X){n:Nat}(W4:n<=200000)(v:e3 X j k an ba aA i){r:Except Int (cS×List Tok)}(I:m0 n (aA.drop i)=some r):
 az X 70 [.ptr an 0] j k (λM S' W=>∃V N row,r=.ok (V,aA.drop N)/\M=.agg row/\oG X S' (bR k W) V row/\aj X S' an ba aA N/\bo X [an] j k S' W) (e9 X an j k r):=by
 refine z6 O (MS ..) ?_;unfold DZ;have W3:=v.aD;have Vw:=v.eu;have Vv:=v.bk;have Vx:=v.eh;unfold m0 at I;obtain⟨x,W7,al,VF⟩:=ka I;refine br ⟨?_⟩;refine c6 (λam=>ay X am (.ptr k 0)=some (.ptr an 0)/\F X am (k+1)=zO [.au,.au,.Z 0,.bE] 4/\lZ X am (k+2) (k+1+1+1) [] []/\aj X am an ba aA i/\aT X j k am (k+1+1+1)) ⟨?_, ?_, ?_, ?_, ?_⟩ ?_
 ·exact av
 ·exact z2
 ·exact⟨Zo,Zo,_,.au,.au,[],[],aJ Zo,rfl,rfl,.inl (.inl ⟨rfl,rfl,rfl⟩),.inl (.inl ⟨rfl,rfl,rfl⟩),Zs,Zs⟩
 ·exact v.par.K (zQ) (zQ)
 ·exact b8
 rintro am ⟨dg,UP,Ua,UX,UU⟩;have Uh:=v.go UX (by omega:k<=k+1+1+1);refine(ih O Uh al _).Zm ?_;rintro WG ah ar ⟨rfl,TY,U1⟩;have VZ:=U1.le;have UJ:=(bo.of (X:=[an]) UU).trans U1;refine jt bm.eq_1 ⟨?_⟩;refine dW (λz S' T7=>∃(d:List Tok) (N:Nat),z.g 1=some (.ptr k 0)/\z.g 2=some (.ptr (k+1) 0)/\z.g 3=some (.ptr (k+2) 0)/\lZ X S' (k+2) T7 (d.map Tok.text) (d.map Tok.at_)/\aj X S' an ba aA N/\k+2<T7/\bo X [an] j k S' T7/\ay X S' (.ptr k 0)=some (.ptr an 0)/\F X S' (k+1)=zO [.au,.au,.Z 0,.bE] 4/\d.length<=300000/\
  (andThen (cq [61] (aA.drop N)) λu l=>andThen (arrow n l) λr l=>andThen (cq [59] l) λ_ l=>ok (⟨d.map Tok.text,d.map Tok.at_,u.at_,r⟩:cS) l)=some r) (λE VB=> ?_) ?_
 ·
  have sF:ay X ah (.ptr k 0)=some (.ptr an 0):=by rw[U1.df _ _ Zo Zx];exact dg
  have UQ:F X ah (k+1)=zO [.au,.au,.Z 0,.bE] 4:=by rw[U1.K _ Zo Zx];exact UP
  have Ub:=Ua.K (S':=ah) (fy:=ar) (λh T3 p=>U1.K h p Zx) VZ;rcases VF with ⟨Uu,I⟩|⟨Uu,I⟩
  ·rw[Uu]at TY ⊢;simp only[ZK]at TY ⊢;rw[<-(dq al).2]at I;simp only[]at I;refine bh bm.eq_1 ⟨?_⟩;simp only[Yz,ZW];refine c6 (λG=>ay X G (.ptr k 0)=some (.ptr an 0)/\F X G (k+1)=zO [.au,.au,.Z 0,.bE] 4/\lZ X G (k+2) (ar+1) [] []/\aj X G an ba aA (i+1)/\bo X [an] j k G (ar+1)) ⟨?_, ?_, ?_, ?_, ?_⟩ ?_
   ·exact Ac @sF
   ·simp(disch:=omega) only[ag];exact UQ
   ·exact Ub.K (λh T3 p=>zQ) Zo
   ·exact TY.K (zQ) (zQ)
   ·exact⟨Zo,λb T t=>by rw[<-UJ.K b T t];exact zQ⟩
   clear sF UQ Ub TY UJ U1 UU UX Ua UP dg Uh;rintro G ⟨me,U9,UF,UC,U2⟩;have Ux:=v.go UC (by omega:k<=ar+1);cases UV:aA.drop (i+1)with
   |nil=>rw[UV]at I;simp[eT,andThen]at I|cons h W8=>
   rw[UV]at I;simp only[eT]at I;refine(A4 O Ux Zo Zo Zo Zo me UF Zs Zs UV).mono ?_ ?_
   ·rintro V0 T0 U3 ⟨U4,rfl,Uc,UY,Va,A⟩;rw[Zu U4]at I;simp only[andThen,ok]at I;rw[<-(dq UV).2]at I;have qD:ay X T0 (.ptr k 0)=some (.ptr an 0):=(by rw[A.df _ _ Zo Zx];exact me);have UR:F X T0 (k+1)=zO [.au,.au,.Z 0,.bE] 4:=(by rw[A.K _ Zo Zx];exact U9);have V7:bo X [an] j k T0 U3:=⟨Zo,λb T t=>by rw[A.K b Zo t];exact U2.K b T t⟩;refine bh @qD ⟨?_⟩;refine c6 (λT1=>F X T1 U3=zO [.str [44]] 1/\aT X T0 U3 T1 (U3+1)) ⟨aJ Zo,b8⟩ ?_;rintro T1 ⟨V4,UB⟩;have VL:=v.go (UY.ex UB Zo Zo) (by omega:k<=U3+1);have T9:=V7.trans (bo.of UB);have VG:=I;cases TZ:cq [44] (aA.drop (i+1+1))with
    |none=>rw[TZ]at I;cases I|some Vk=>
    rw[TZ]at I;refine(fE O VL Zo Zo V4 TZ).mono ?_ ?_
    ·rintro Vm T2 VJ ⟨WJ,Vf,rfl,_,UD,T4⟩;have Vz:=T4.le;simp only[]at I;have ul:ay X T2 (.ptr k 0)=some (.ptr an 0):=(by rw[T4.df _ _ Zo Zx,UB.df _ _ Zo];exact qD);have Ui:F X T2 (k+1)=zO [.au,.au,.Z 0,.bE] 4:=(by rw[T4.K _ Zo Zx,UB.K _ Zo];exact UR);have Us:=Uc.K (S':=T2) (fy:=VJ) (λh T3 p=>by rw[T4.K h Zo Zx,UB.K h p]) Zo;have Uo:=T9.trans T4;clear qD UR Uc UY A V7 T9 UB V4 VL T4;refine dW (λz S' T7=>∃(d:List Tok) (N:Nat),z.g 1=some (.ptr k 0)/\z.g 2=some (.ptr (k+1) 0)/\z.g 3=some (.ptr (k+2) 0)/\lZ X S' (k+2) T7 (d.map Tok.text) (d.map Tok.at_)/\aj X S' an ba aA N/\k+2<T7/\bo X [an] j k S' T7/\ay X S' (.ptr k 0)=some (.ptr an 0)/\F X S' (k+1)=zO [.au,.au,.Z 0,.bE] 4/\d.length<=300000/\
      (andThen (andThen (cq [41] (aA.drop N)) λ_ l=>ok d l) λd l=>andThen (cq [61] l) λu l=>andThen (arrow n l) λr l=>andThen (cq [59] l) λ_ l=>ok (⟨d.map Tok.text,d.map Tok.at_,u.at_,r⟩:cS) l)=some r) (λW6 VX=> ?_) ?_
     ·refine cG (λm z S' T7=>∃(d:List Tok) (N:Nat) (b:Bool),z.g 1=some (.ptr k 0)/\z.g 2=some (.ptr (k+1) 0)/\z.g 3=some (.ptr (k+2) 0)/\z.g 4=some (.func (.func 104) [] [.ptr k 0,.ptr (k+2) 0])/\z.g 7=some (.bool b)/\lZ X S' (k+2) T7 (d.map Tok.text) (d.map Tok.at_)/\aj X S' an ba aA N/\k+2<T7/\bo X [an] j k S' T7/\ay X S' (.ptr k 0)=some (.ptr an 0)/\F X S' (k+1)=zO [.au,.au,.Z 0,.bE] 4/\d.length+m<=n+5/\
       (b=true->(andThen (andThen (kB m d (aA.drop N)) λd l=>andThen (cq [41] l) λ_ l=>ok d l) λd l=>andThen (cq [61] l) λu l=>andThen (arrow n l) λr l=>andThen (cq [59] l) λ_ l=>ok (⟨d.map Tok.text,d.map Tok.at_,u.at_,r⟩:cS) l)=some r)/\
       (b=false->(andThen (andThen (cq [41] (aA.drop N)) λ_ l=>ok d l) λd l=>andThen (cq [61] l) λu l=>andThen (arrow n l) λr l=>andThen (cq [59] l) λ_ l=>ok (⟨d.map Tok.text,d.map Tok.at_,u.at_,r⟩:cS) l)=some r))
       n ⟨[h],Vf,true,av,av,av,av,av,Us,UD,Zo,Uo,ul,Ui,Zx,λ_=>I,λe=>(by cases e)⟩ ?_
      clear ul Ui Us UD Uo I VG TZ;rintro m z U0 T8 ⟨d,U5,b,t1,U8,t3,t4,Vl,Ud,UE,VC,T5,m3,US,Ur,f,Vb⟩;refine jt @Vl ⟨?_⟩;refine dV ?_;cases b with
      |false=>refine mQ ?_;exact VX _ _ _ ⟨d,U5,Y t1,Y U8,Y t3,Ud,UE,VC,T5,m3,US,Zo,Vb rfl⟩|true=>
       have I:=f rfl;cases m with|zero=>simp[kB,andThen]at I|succ m=>
       unfold kB at I;refine mR ?_;have Vh:=v.go UE (by omega:k<=T8);refine bh @t4 ⟨?_⟩;simp only[Yz,ZW];cases UW:aA.drop U5 with|nil=>rw[UW]at I;simp[eT,andThen]at I|cons aw Vg=>
       rw[UW]at I;simp only[eT]at I;refine(A4 O Vh Zo Zo Zo Zo m3 Ud Zx Zx UW).mono ?_ ?_
       ·rintro u8 L Uw ⟨Up,rfl,Ve,UZ,W1,T6⟩;rw[Zu Up]at I;simp only[andThen,ok]at I;rw[<-(dq UW).2]at I;have V5:ay X L (.ptr k 0)=some (.ptr an 0):=(by rw[T6.df _ _ Zo Zx];exact m3);have VQ:F X L (k+1)=zO [.au,.au,.Z 0,.bE] 4:=(by rw[T6.K _ Zo Zx];exact US);have VS:bo X [an] j k L Uw:=⟨Zo,λb T t=>by rw[T6.K b Zo t];exact T5.K b T t⟩;have Uz:=v.go UZ (by omega:k<=Uw);refine bA @t1 @V5 ⟨?_⟩;cases UK:aA.drop (U5+1)with
        |nil=>rw[UK]at I;simp[eE,gv]at I|cons w WA=>
        refine(ih O Uz UK [44]).Zm ?_;rintro WH g U6 ⟨rfl,UL,s⟩;have Uq:=s.le;rw[UK]at I;have n1:ay X g (.ptr k 0)=some (.ptr an 0):=(by rw[s.df _ _ Zo Zx];exact V5);have UH:F X g (k+1)=zO [.au,.au,.Z 0,.bE] 4:=(by rw[s.K _ Zo Zx];exact VQ);have Ut:=Ve.K (S':=g) (fy:=U6) (λh T3 p=>s.K h p Zx) Uq;have VT:=VS.trans s;refine br ⟨?_⟩;refine⟨m,Zo,d++[aw],_,ek w [44],Y t1,Y U8,Y t3,Y t4,av,by simpa using Ut,UL,Zo,VT,n1,UH,Zx,λe=> ?_,λe=> ?_⟩
        ·simp only[eE,gv,e,ZK]at I ⊢;rw[(dq UK).2];exact I
        ·simp only[eE,gv,e,ZA,ZJ]at I ⊢;rw[UK];exact I
       ·rintro u8 L Uw ⟨Up,rfl,T6⟩;rw[Zi Up]at I;simp only[andThen,bad,Zh]at I;subst I;exact⟨_,rfl,rfl,T5.trans T6⟩
     ·clear ul Ui Us UD Uo I VG TZ;rintro z U0 T8 ⟨d,U5,t1,U8,t3,Ud,UE,VC,T5,m3,US,Ur,I⟩;refine bA @t1 @m3 ⟨?_⟩;refine c6 (λL=>F X L T8=zO [.str [41]] 1/\aT X U0 T8 L (T8+1)) ⟨aJ Zo,b8⟩ ?_;rintro L ⟨UT,UI⟩;have Uz:=v.go (UE.ex UI Zo Zo) (by omega:k<=T8+1);have T6:=T5.trans (bo.of UI);cases TZ:cq [41] (aA.drop U5)with
      |none=>rw[TZ]at I;cases I|some Vk=>
      rw[TZ]at I;refine(fE O Uz Zo Zo UT TZ).mono ?_ ?_
      ·rintro v9 g U6 ⟨Vn,i9,rfl,_,UL,s⟩;have Uq:=s.le;simp only[andThen,ok]at I;have n1:ay X g (.ptr k 0)=some (.ptr an 0):=(by rw[s.df _ _ Zo Zx,UI.df _ _ Zo];exact m3);have UH:F X g (k+1)=zO [.au,.au,.Z 0,.bE] 4:=(by rw[s.K _ Zo Zx,UI.K _ Zo];exact US);have Ut:=Ud.K (S':=g) (fy:=U6) (λh T3 p=>by rw[s.K h Zo Zx,UI.K h p]) Zo;exact VB _ _ _ ⟨d,i9,t1,U8,t3,Ut,UL,Zo,T6.trans s,n1,UH,Ur,I⟩
      ·rintro v9 g U6 ⟨a,rfl,rfl,s⟩;simp only[andThen,Zh]at I;subst I;exact⟨a,rfl,rfl,T6.trans s⟩
    ·rintro Vm T2 VJ ⟨a,rfl,rfl,T4⟩;simp only[Zh]at I;subst I;exact⟨a,rfl,rfl,T9.trans T4⟩
   ·rintro V0 T0 U3 ⟨U4,rfl,A⟩;rw[Zi U4]at I;simp only[andThen,bad,Zh]at I;subst I;exact⟨_,rfl,rfl,U2.trans A⟩
  ·rw[Uu]at TY ⊢;simp only[ZA,ZJ]at TY ⊢;simp only[]at I;refine bA bm.eq_1 el.eq_1 ⟨?_⟩;simp only[Yz,ZW];refine c6 (λG=>ay X G (.ptr k 0)=some (.ptr an 0)/\F X G (k+1)=zO [.au,.au,.Z 0,.bE] 4/\lZ X G (k+2) (ar+1) [] []/\aj X G an ba aA i/\bo X [an] j k G (ar+1)) ⟨?_, ?_, ?_, ?_, ?_⟩ ?_
   ·exact Ac @sF
   ·simp(disch:=omega) only[ag];exact UQ
   ·exact Ub.K (λh T3 p=>zQ) Zo
   ·exact TY.K (zQ) (zQ)
   ·exact⟨Zo,λb T t=>by rw[<-UJ.K b T t];exact zQ⟩
   clear sF UQ Ub TY UJ U1 UU UX Ua UP dg Uh;rintro G ⟨me,U9,UF,UC,U2⟩;have Ux:=v.go UC (by omega:k<=ar+1);rw[al]at I;simp only[eT]at I;refine(A4 O Ux Zo Zo Zo Zo me UF Zs Zs al).mono ?_ ?_
   ·rintro V0 T0 U3 ⟨U4,rfl,Uc,UY,Va,A⟩;rw[Zu U4]at I;simp only[andThen,ok]at I;rw[<-(dq al).2]at I;have qD:ay X T0 (.ptr k 0)=some (.ptr an 0):=(by rw[A.df _ _ Zo Zx];exact me);have UR:F X T0 (k+1)=zO [.au,.au,.Z 0,.bE] 4:=(by rw[A.K _ Zo Zx];exact U9);exact VB _ _ _ ⟨[x],i+1,av,av,av,Uc,UY,Zo,⟨Zo,λb T t=>by rw[A.K b Zo t];exact U2.K b T t⟩,qD,UR,Zs,I⟩
   ·rintro V0 T0 U3 ⟨U4,rfl,A⟩;rw[Zi U4]at I;simp only[andThen,bad,Zh]at I;subst I;exact⟨_,rfl,rfl,U2.trans A⟩
 ·clear VF I TY UJ U1 UU UX Ua UP dg Uh al;rintro z G Uf ⟨d,i3,t1,U8,t3,UF,UC,W2,U2,me,U9,Ur,I⟩;refine bA @t1 @me ⟨?_⟩;refine c6 (λT0=>F X T0 Uf=zO [.str [61]] 1/\aT X G Uf T0 (Uf+1)) ⟨aJ Zo,b8⟩ ?_;rintro T0 ⟨Uj,UA⟩;have Uy:=v.go (UC.ex UA Zo Zo) (by omega:k<=Uf+1);have A:=U2.trans (bo.of UA);rcases dQ I with ⟨a,Ul,rfl⟩|⟨u,W9,Ul,I⟩
  ·exact(fE O Uy Zo Zo Uj Ul).mono (λM S' W e=>by obtain⟨u,N,e,_⟩:=e;cases e) (λM S' W e=>e.of A (λ_ e=>by cases e;rfl))
  refine(fE O Uy Zo Zo Uj Ul).mono ?_ (λM S' W e=>by obtain⟨a,e,_⟩:=e;cases e);rintro v5 T1 Ug ⟨Vp,i5,VU,rfl,Vc,T9⟩;cases VU;have Vy:=T9.le;have wz:ay X T1 (.ptr k 0)=some (.ptr an 0):=by rw[T9.df _ _ Zo Zx,UA.df _ _ Zo];exact me
  have VP:F X T1 (k+1)=zO [.au,.au,.Z 0,.bE] 4:=by rw[T9.K _ Zo Zx,UA.K _ Zo];exact U9
  have Vd:=UF.K (S':=T1) (fy:=Ug) (λh T3 p=>by rw[T9.K h Zo Zx,UA.K h p]) Zo;have V8:=A.trans T9;obtain⟨Vt,Vu,c,aB,U7,hb,hs,Vs,VN,VO,V2,V3,UG,UO⟩:=Vd;clear UF UC U2 me U9 UA Uj Uy A T9;refine bA @t3 bm.eq_1 ⟨?_⟩;have VI:∀h,h≠k+2->F X (aI X T1 (k+2) (some (.cells (ch c 2 (y.Z u.at_).cells) 4 .own))) h=F X T1 h:=λh f=>ag Zo f;refine bA @t1 @wz ⟨?_⟩;refine c6 (λT2=>F X T2 (k+2)=some (.cells (c.set 2 (some (.Z u.at_))) 4 .own)/\∀h,h≠k+2->F X T2 h=F X T1 h) ⟨(aJ Zo).trans (by simp only[y.cells,je]),VI⟩ ?_;clear VI;rintro T2 ⟨Vi,UM⟩;have UD:aj X T2 an ba aA i5:=Vc.K (UM _ Zo) (UM _ Zo);have T4:bo X [an] j k T2 Ug:=⟨V8.le,λb T t=>by rw[UM b Zo];exact V8.K b T t⟩;rcases dQ I with ⟨a,Um,rfl⟩|⟨Vq,Vg,Um,I⟩
  ·exact((EA O V9 n Zo).arrow T2 _ _ _ (v.go UD Zo) Um).mono (λM S' W e=>by obtain⟨u,N,e,_⟩:=e;cases e) (λM S' W e=>e.of T4 (λ_ e=>by cases e;rfl))
  refine((EA O V9 n Zo).arrow T2 _ _ _ (v.go UD Zo) Um).mono ?_ (λM S' W e=>by obtain⟨a,e,_⟩:=e;cases e);rintro WI U0 T8 ⟨Vr,U5,VV,V6,UE,T5⟩;cases VV;have W0:=T5.le;obtain⟨C,rfl,W5,_⟩:=V6.ptr;have WF:F X U0 (k+2)=some (.cells (c.set 2 (some (.Z u.at_))) 4 .own):=by rw[T5.K _ Zo Zx];exact Vi
  have m3:ay X U0 (.ptr k 0)=some (.ptr an 0):=by rw[T5.df _ _ Zo Zx,bv,UM _ Zo, <-bv];exact wz
  have VH:∀h,k<=h->h<Ug->h≠k+2->F X U0 h=F X T1 h:=λh T3 p Uk=>by rw[T5.K h p Zx,UM h Uk]
  refine bh @t3 ⟨?_⟩;refine bA @t1 @m3 ⟨?_⟩;refine c6 (λL=>F X L T8=zO [.str [59]] 1/\F X L (k+2)=some (.cells ((c.set 2 (some (.Z u.at_))).set 3 (some (.ptr C 0))) 4 .own)/\∀h,h<T8->h≠k+2->F X L h=F X U0 h) ⟨aJ Zo, ?_, ?_⟩ ?_
  ·rw[ag Zo Zo,aJ Zo];simp only[y.cells,je]
  ·intro h T3 p;rw[ag Zo Zo,ag Zo p]
  rintro L ⟨UT,Vj,Ue⟩;have UZ:aj X L an ba aA U5:=UE.K (Ue _ Zo Zo) (Ue _ Zo Zo);have T6:bo X [an] j k L (T8+1):=⟨Zo,λb T t=>by rw[Ue b Zo Zo];exact(T4.trans T5).K b T t⟩;rcases dQ I with ⟨a,Un,rfl⟩|⟨Vn,WB,Un,I⟩
  ·exact(fE O (v.go UZ Zo) Zo Zo UT Un).mono (λM S' W e=>by obtain⟨u,N,e,_⟩:=e;cases e) (λM S' W e=>e.of T6 (λ_ e=>by cases e;rfl))
  refine(fE O (v.go UZ Zo) Zo Zo UT Un).mono ?_ (λM S' W e=>by obtain⟨a,e,_⟩:=e;cases e);rintro v9 g U6 ⟨WK,i9,VW,_,UL,s⟩;cases VW;have Uq:=s.le;simp only[ok,Zh]at I;subst I;have VM:F X g (k+2)=some (.cells ((c.set 2 (some (.Z u.at_))).set 3 (some (.ptr C 0))) 4 .own):=by rw[s.K _ Zo Zx];exact Vj
  have Uv:∀h,k<=h->h<T8->h≠k+2->F X g h=F X U0 h:=λh T3 p Uk=>by rw[s.K h Zo Zx,Ue h p Uk]
  have UH:F X g (k+1)=zO [.au,.au,.Z 0,.bE] 4:=by rw[Uv _ Zo Zo Zo,VH _ Zo Zo Zo];exact VP
  have b1:((c.set 2 (some (y.Z u.at_))).set 3 (some (.ptr C 0))).get 0=some aB:=by rw[B.eX,Zi Zd,B.eX,Zi Zd];exact VN
  have bS:((c.set 2 (some (y.Z u.at_))).set 3 (some (.ptr C 0))).get 1=some U7:=by rw[B.eX,Zi Zd,B.eX,Zi Zd];exact VO
  have bU:((c.set 2 (some (y.Z u.at_))).set 3 (some (.ptr C 0))).get 2=some (.Z u.at_):=by rw[B.eX,Zi Zd,B.eX,Zu rfl]
  have V1:((c.set 2 (some (y.Z u.at_))).set 3 (some (.ptr C 0))).get 3=some (.ptr C 0):=by rw[B.eX,Zu rfl]
  generalize ((c.set 2 (some (y.Z u.at_))).set 3 (some (.ptr C 0)))=Vo at VM b1 bS bU V1;obtain⟨dI,f7,WC⟩:=cT.one V2;obtain⟨WD,VK,WE⟩:=cT.one V3;have VY:b4 X g 4 (.ptr (k+2) 0)=some (.agg [aB,U7,.Z u.at_,.ptr C 0]):=by rw[pm];simp[aZ VM,b1,bS,bU,V1]
  refine cb @t3 @VY @U8 ⟨?_⟩;refine dh (eR (q:=4) UH Zo rfl Zd Zd (by simp[y.cells,ei,f7,VK,show hV (.Z u.at_)=true from rfl,show hV (.ptr C 0)=true from rfl])) ?_;refine bh @U8 ⟨?_⟩;have UN:∀h,h≠k+1->∀bQ,F X (aI X g (k+1) bQ) h=F X g h:=λh f bQ=>ag Zo f;have VA:∀h,k+2<h->h<Ug->∀bQ,F X (aI X g (k+1) bQ) h=F X T1 h:=λh T3 p bQ=>by rw[UN h Zo,Uv h Zo Zo Zo,VH h Zo p Zo]
  obtain⟨bb,VD⟩:=(V2.K (S':=aI X g (k+1) (some (.cells (ch (B.ofList [.au,.au,.Z 0,.bE] 0 .nil) 0 [aB,U7,.Z u.at_,.ptr C 0]) 4 .own))) (λh f=>VA h (UG h f).1 (UG h f).2.1 _)).aaH (cX:=λh=>bR k U6 h/\h∈hb) Zx (λh f=>by have:=UG h f;exact⟨⟨Zo,Zo⟩,f⟩);obtain⟨bn,VE⟩:=(V3.K (S':=aI X g (k+1) (some (.cells (ch (B.ofList [.au,.au,.Z 0,.bE] 0 .nil) 0 [aB,U7,.Z u.at_,.ptr C 0]) 4 .own))) (λh f=>VA h (UO h f).1 (UO h f).2 _)).kH (P:=λh=>bR k U6 h/\h∈hs) Zx (λh f=>by have:=UO h f;exact⟨⟨Zo,Zo⟩,f⟩);have VR:=bB.K (S':=aI X g (k+1) (some (.cells (ch (B.ofList [.au,.au,.Z 0,.bE] 0 .nil) 0 [aB,U7,.Z u.at_,.ptr C 0]) 4 .own))) (λh f=>by
   have T3:=f.1;rw[UN h Zo,Uv h Zo f.2 Zo]) _ _ V6
  refine⟨_,i9,[aB,U7,.Z u.at_,.ptr C 0],rfl,rfl,⟨λh=>if h∈hb then 1 else if h∈hs then 2 else 0,aB,U7,bb,bn,.ptr C 0,rfl, ?_, ?_, ?_,by simp[ei,f7,VK,show hV (.Z u.at_)=true from rfl,show hV (.ptr C 0)=true from rfl]⟩, ?_, ?_⟩
  ·rw[Z2]at VD;exact VD.lift λh f=>⟨f.1,Zu f.2⟩
  ·rw[Z2]at VE;exact VE.lift λh f=>⟨f.1,(Zi (λe=>(UG h e).2.2 f.2)).trans (Zu f.2)⟩
  ·exact bB.lift (λh f=>⟨⟨zK f.1,zK f.2⟩,(Zi (λe=>by have:=UG h e;have:=f.1;omega)).trans (Zi (λe=>by have:=UO h e;have:=f.1;omega))⟩) _ _ VR
  ·exact UL.K (UN _ Zo _) (UN _ Zo _)
  ·exact⟨Zo,λb T t=>by rw[UN b Zo];exact(T6.trans s).K b T t⟩
end
end
end Go.Proofs.YtehmapikajmjaaaGreatDoor
