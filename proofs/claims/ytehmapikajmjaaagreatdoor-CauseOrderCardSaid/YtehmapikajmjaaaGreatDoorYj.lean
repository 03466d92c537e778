/- Part of the last text; no conditions -/
import Derived.Test.YtehmapikajmjaaaGreatDoorYi
set_option maxHeartbeats 8000000
set_option linter.all false
namespace Go.Proofs.YtehmapikajmjaaaGreatDoor
open Go.aC Go.aj
noncomputable section
def cV(d:cR):List y:=[.str d.name,.Z d.at_,.bool d.ty.b,.bool d.ty.s,.Z d.ty.w,.str d.on,.Z d.cY,.bool d.no]
def Ir(l:List Tok):∀r∈l.map bm,r.length=7:=by intro r I;obtain⟨t,_,rfl⟩:=ZB.1 I;rfl
def Fk(l:List cR):∀r∈l.map cV,r.length=8:=by intro r I;obtain⟨t,_,rfl⟩:=ZB.1 I;rfl
def ac1{s:ax}{l:List Tok}{x:Tok}{a:List Tok}(e:cq s l=some (.ok (x,a))):a.length+1=l.length:=by
 cases l with
 |nil=>cases e|cons h l=>
  simp only[cq]at e;split at e
  ·simp only[ok,Zh,Except.ok.injEq,YZ]at e;rw[<-e.2];rfl
  ·cases e
structure vx(X:bf)(an ba:Nat)(aA:List Tok)(k:Nat)(dU:B R)(loc:Bool)(z:bO)(j:B R)(n:Nat)(s:y)(a:List cR)(aQ:List Nat)(i:Nat):Prop where
 t0:z.g 0=some (.ptr an 0)
 t1:z.g 1=some (.bool loc)
 t5:z.g 5=some s
 aB:cT X j s 8 (a.map cV).flatten aQ
 aQ:∀h∈aQ,k<=h/\h<n
 par:aj X j an ba aA i
 fr:bo X [an] dU k j n
section
variable{X:bf}{j S' am ah:B R}{k W ak ar an ba:Nat}{aA:List Tok}{i:Nat}
def Pk(a:List cR):(a.map cV).flatten.length=a.length*8:=by rw[mb (Fk a),Zj]
def acC(a:List Tok):(a.map bm).flatten.length=a.length*7:=by rw[mb (Ir a),Zj]
def sr(U4:bW X){n:Nat}(Wr:aA.length<=100000)(U7:e3 X j k an ba aA i){loc:Bool}{r:Except Int (List cR×List Tok)}(I:eV n loc [] (aA.drop i)=some r):
 az X 69 [.ptr an 0,.bool loc] j k (λM S' W=>∃v A b,r=.ok (v,aA.drop A)/\f2 X S' (bR k W) b M 8 (v.map cV)/\aj X S' an ba aA A/\bo X [an] j k S' W) (e9 X an j k r):=by
 refine z6 U4 (MQ ..) ?_;unfold DX;have Wp:=U7.aD;have Wc:=U7.eu;have Wb:=U7.bk;have Wd:=U7.eh;refine dV ?_;refine cG (λm z S' C=>∃s v aQ A,vx X an ba aA k j loc z S' C s v aQ A/\v.length+(aA.drop A).length<=aA.length/\eV m loc v (aA.drop A)=some r)
  n ⟨.au,[],[],i,⟨av,av,av,.inl (.inl ⟨rfl,rfl,rfl⟩),Zs,U7.par,bo.refl _ _ _⟩,Zs,I⟩ ?_
 clear I;rintro m z am ak ⟨s,v,aQ,WO,T7,VF,I⟩;cases m with|zero=>simp[eV]at I|succ m=>
 unfold eV at I;refine dV ?_;have Wk:=T7.fr.le;refine dW (λz S' C=>∃(f:List Tok) (U8:y) (U2:List Nat) (A:Nat),vx X an ba aA k j loc z S' C s v aQ A/\ak<=C/\(∀h∈aQ,h<ak)/\z.g 6=some U8/\cT X S' U8 7 (f.map bm).flatten U2/\(∀h∈U2,ak<=h/\h<C)/\v.length+f.length+(aA.drop A).length<=aA.length/\
  t2 loc (eV m loc) v f (aA.drop A)=some r) (λE UZ=> ?_) ?_
 ·refine cG (λq z S' C=>∃(f:List Tok) (U8:y) (U2:List Nat) (A:Nat) (b:Bool),vx X an ba aA k j loc z S' C s v aQ A/\ak<=C/\(∀h∈aQ,h<ak)/\z.g 6=some U8/\z.g 7=some (.bool b)/\cT X S' U8 7 (f.map bm).flatten U2/\(∀h∈U2,ak<=h/\h<C)/\v.length+f.length+(aA.drop A).length<=aA.length/\
   (b=true->andThen (kB q f (aA.drop A)) (λf l=>t2 loc (eV m loc) v f l)=some r)/\(b=false->t2 loc (eV m loc) v f (aA.drop A)=some r))
   m ⟨[],.au,[],WO,true,⟨Y T7.t0,Y T7.t1,Y T7.t5,T7.aB,T7.aQ,T7.par,T7.fr⟩,Zo,λh d=>(T7.aQ h d).2,av,av,.inl (.inl ⟨rfl,rfl,rfl⟩),Zs,by simpa using VF,λ_=>I,λe=>(by cases e)⟩ ?_
  clear I T7 VF;rintro q z ah ar ⟨f,U8,U2,UD,b,G,Ve,UJ,UG,WV,Up,T0,Vf,d,WG⟩;have Uf:=U7.go G.par G.fr.le;have t0:=G.t0;have t1:=G.t1;have t5:=G.t5;refine jt @WV ⟨?_⟩;refine dV ?_;cases b with
  |false=>refine mQ ?_;exact UZ _ _ _ ⟨f,U8,U2,UD,⟨Y t0,Y t1,Y t5,G.aB,G.aQ,G.par,G.fr⟩,Ve,UJ,Y UG,Up,T0,Vf,WG rfl⟩|true=>
   have I:=d rfl;cases q with|zero=>simp[kB,andThen]at I|succ q=>
   unfold kB at I;refine mR ?_;refine bA @UG @t0 ⟨?_⟩;cases al:aA.drop UD with|nil=>rw[al]at I;simp[eT,andThen]at I|cons x l=>
   rw[al]at I;simp only[eT]at I;refine(py U4 Uf.aD Uf.par Uf.bk Uf.eu Uf.eh Uf.many (dq al).1 1).mono ?_ ?_
   ·rintro WX T8 UF ⟨U6,rfl,WJ,UB⟩;have Wm:=UB.le;rw[Zu U6]at I;simp only[andThen,ok]at I;rw[<-(dq al).2]at I;have Um:(aA.drop UD).length=(aA.drop (UD+1)).length+1:=(by rw[al,(dq al).2];rfl);have Vu:∀h,k<=h->h<ar->F X T8 h=F X ah h:=λh g p=>UB.K h p Zx;have W1:=G.aB.K (S':=T8) (λh d=>Vu h (G.aQ h d).1 (G.aQ h d).2);have WM:=Up.K (S':=T8) (λh d=>Vu h (zK (T0 h d)) (T0 h d).2);have W6:=G.fr.trans UB;refine bh bm.eq_1 ⟨?_⟩;have VK:f9 X (aI X T8 UF (zO (bm x) 7)) 7 (.slice UF 0 1 1)=some (1,bm x):=g6 (aJ Zo) (fS _) rfl _;obtain⟨WU,U0,VT,VA,Uo,W9,WB⟩:=(WM.K (S':=aI X T8 UF (zO (bm x) 7)) (λh d=>ag Zo (zK (T0 h d).2))).append (k:=UF+1) Zd VK rfl Zd rfl (by rw[acC];simp only[bm,ZI,ZU];omega) Zo (λh d=>zK (T0 h d).2);refine d7 VA ?_;have UM:∀h,h<UF->h∉U2->F X U0 h=F X T8 h:=λh g p=>(by rw[WB h Zo p,ag Zo Zo]);have bu:∀h,h<ak->h∉U2:=λh g p=>zK (T0 h p);have VG:aj X U0 an ba aA (UD+1):=WJ.K (UM _ Zo (bu _ Zo)) (UM _ Zo (bu _ Zo));have US:bo X [an] j k U0 (UF+1+1):=⟨Zo,λb T O=>by rw[UM b Zo (bu _ Zo)];exact W6.K b T O⟩;have W2:=W1.K (S':=U0) (λh d=>UM h (zK (UJ h d)) (bu _ (UJ h d)));have VH:(f.map bm).flatten++bm x=((f++[x]).map bm).flatten:=(by simp);rw[VH]at Uo;have Ux:∀h∈VT,ak<=h/\h<UF+1+1:=λh d=>by
     rcases W9 h d with rfl|e
     ·omega
     ·have:=T0 h e;omega
    refine bh @t0 ⟨?_⟩;have UN:=U7.go VG US.le;obtain⟨w,T6,T1⟩:∃w T6,aA.drop (UD+1)=w::T6:=by
     cases e:aA.drop (UD+1)with
     |nil=>rw[e]at I;simp[eE,gv]at I|cons w T6=>exact⟨w,T6,rfl⟩
    refine(ih U4 UN T1 [44]).Zm ?_;rintro W0 UA L ⟨rfl,V0,U3⟩;have WE:=U3.le;have Ub:∀h,k<=h->h<UF+1+1->F X UA h=F X U0 h:=λh g p=>U3.K h p Zx;refine br ⟨?_⟩;refine⟨q,Zo,f++[x],WU,VT,_,ek w [44],⟨Y t0,Y t1,Y t5,W2.K (λh d=>Ub h (G.aQ h d).1 (zK (UJ h d))),λh d=>⟨(G.aQ h d).1,zK (UJ h d)⟩,V0,US.trans U3⟩,Zo,UJ,av,av,.inl (Uo.K (λh d=>Ub h (zK (Ux h d)) (Ux h d).2)),λh d=>⟨(Ux h d).1,zK (Ux h d).2⟩, ?_,λe=> ?_,λe=> ?_⟩
    ·have WZ:=congrArg List.length (dq T1).2;have Wa:(aA.drop (UD+1)).length=T6.length+1:=(by rw[T1];rfl);split
     ·simp only[ZG,List.length_singleton];omega
     ·simp only[ZG,List.length_singleton];omega
    ·rw[T1]at I;simp only[eE,gv,e,ZK]at I ⊢;rw[(dq T1).2];exact I
    ·rw[T1]at I;simp only[eE,gv,e,ZA,ZJ]at I ⊢;rw[T1];exact I
   ·rintro WX T8 UF ⟨U6,rfl,UB⟩;rw[Zi U6]at I;simp only[andThen,bad,Zh]at I;subst I;exact⟨_,rfl,rfl,G.fr.trans UB⟩
 ·clear I T7 VF;rintro z ah ar ⟨f,U8,U2,UD,G,Ve,UJ,UG,Up,T0,Vf,I⟩;have t0:=G.t0;have t1:=G.t1;have t5:=G.t5;have VW:=G.fr;have Vk:=G.aB;have UC:=G.aQ;have Vg:=G.par;clear G;refine bh @t0 ⟨?_⟩;refine c6 (λT8=>F X T8 ar=zO [.str [58]] 1/\aT X ah ar T8 (ar+1)) ⟨aJ Zo,b8⟩ ?_;rintro T8 ⟨V6,Us⟩;have V2:=U7.go (Vg.ex Us Zo Zo) (by omega:k<=ar+1);have UB:=VW.trans (bo.of Us);unfold t2 at I;rcases dQ I with ⟨a,UQ,rfl⟩|⟨Wx,Wu,UQ,I⟩
  ·exact(fE U4 V2 Zo Zo V6 UQ).mono (λM S' W e=>by obtain⟨u,A,e,_⟩:=e;cases e) (λM S' W e=>e.of UB (λ_ e=>by cases e;rfl))
  refine(fE U4 V2 Zo Zo V6 UQ).mono ?_ (λM S' W e=>by obtain⟨a,e,_⟩:=e;cases e);rintro v4 U0 WR ⟨Wy,i4,WA,_,VG,US⟩;cases WA;have Wg:=ac1 UQ;have WD:=US.le;have UN:=V2.go VG WD;have V9:=UB.trans US;have UM:∀h,k<=h->h<ar->F X U0 h=F X ah h:=λh g p=>by rw[US.K h Zo Zx,Us.K h p]
  have Uo:=Vk.K (S':=U0) (λh d=>UM h (UC h d).1 (UC h d).2);have Vn:=Up.K (S':=U0) (λh d=>UM h (zK (T0 h d)) (T0 h d).2);clear Vk Up UM V6 Us V2 UB US UQ VW Vg;refine bh @t0 ⟨?_⟩;cases T1:aA.drop i4 with|nil=>rw[T1]at I;simp[eT,andThen]at I|cons t T6=>
  rw[T1]at I;simp only[eT]at I;refine(py U4 UN.aD UN.par UN.bk UN.eu UN.eh UN.many (dq T1).1 3).mono ?_ (λW0 UA L e=>by
   obtain⟨U6,rfl,U3⟩:=e;rw[Zi U6]at I;simp only[andThen,bad,Zh]at I;subst I;exact⟨_,rfl,rfl,V9.trans U3⟩)
  rintro W0 UA L ⟨U6,rfl,V0,U3⟩;have WE:=U3.le;rw[Zu U6]at I;simp only[andThen,ok]at I;rw[<-(dq T1).2]at I;have Wh:(aA.drop i4).length=(aA.drop (i4+1)).length+1:=by rw[T1,(dq T1).2];rfl
  have VX:=V9.trans U3;have Ub:∀h,k<=h->h<WR->F X UA h=F X U0 h:=λh g p=>U3.K h p Zx;have Vl:=Uo.K (S':=UA) (λh d=>Ub h (UC h d).1 (zK (UC h d)));have Vo:=Vn.K (S':=UA) (λh d=>Ub h (zK (T0 h d)) (zK (T0 h d)));clear Uo Vn Ub U3 V9;refine bA bm.eq_1 @t0 ⟨?_⟩;refine c6 (λUO=>F X UO L=zO (cV ⟨[],0,t.ty,[],0,false⟩) 8/\aT X UA L UO (L+1)) ⟨aJ Zo,b8⟩ ?_;rintro UO ⟨Uk,Ut⟩;have VP:=U7.go (V0.ex Ut Zo Zo) (by omega:k<=L+1);have Ul:=VX.trans (bo.of Ut);obtain⟨w,WP,VB,Vr⟩:=ka I;refine(ih U4 VP VB _).Zm ?_;rintro Wv U1 T2 ⟨rfl,T3,TY⟩;have VE:=TY.le;have V8:=Ul.trans TY;have UP:F X U1 L=zO (cV ⟨[],0,t.ty,[],0,false⟩) 8:=by rw[TY.K _ Zo Zx];exact Uk
  have VM:∀h,k<=h->h<L->F X U1 h=F X UA h:=λh g p=>by rw[TY.K h Zo Zx,Ut.K h p]
  have Wj:(aA.drop (i4+1)).length=WP.length+1:=by rw[VB];rfl
  refine jt bm.eq_1 ⟨?_⟩;refine dW (λz S' C=>∃(on:ax) (cY:Int) (no:Bool) (A:Nat),z.g 0=some (.ptr an 0)/\z.g 1=some (.bool loc)/\z.g 5=some s/\z.g 6=some U8/\z.g 8=some (.ptr L 0)/\F X S' L=zO (cV ⟨[],0,t.ty,on,cY,no⟩) 8/\(∀h,k<=h->h<L->F X S' h=F X UA h)/\aj X S' an ba aA A/\bo X [an] j k S' C/\L<C/\(aA.drop A).length<=(aA.drop (i4+1)).length/\
   l6 loc (eV m loc) (v++f.map (jq t.ty on cY no)) (aA.drop A)=some r) (λE UZ=> ?_) ?_
  ·rcases Vr with ⟨VJ,I⟩|⟨VJ,I⟩
   ·rw[VJ]at T3 ⊢;simp only[ZK]at T3 ⊢;rw[<-(dq VB).2]at I;simp only[nR]at I;refine bh @t0 ⟨?_⟩;refine c6 (λUW=>aT X U1 T2 UW (T2+1)) b8 ?_;intro UW Uu;have WS:=VP.go (T3.ex Uu Zo Zo) (by omega:L+1<=T2+1);have W5:F X UW L=zO (cV ⟨[],0,t.ty,[],0,false⟩) 8:=(by rw[Uu.K _ Zo];exact UP);obtain⟨U9,Uc,UY⟩:∃U9 Uc,aA.drop (i4+1+1)=U9::Uc:=by
     cases e:aA.drop (i4+1+1)with
     |nil=>rw[e]at I;simp[eE,gv,andThen]at I|cons w T6=>exact⟨w,T6,rfl⟩
    refine(ih U4 WS UY _).Zm ?_;rintro Ww T5 Ud ⟨rfl,UL,Uv⟩;have WF:=Uv.le;have W7:=(V8.trans (bo.of Uu)).trans Uv;have Ur:F X T5 L=zO (cV ⟨[],0,t.ty,[],0,false⟩) 8:=(by rw[Uv.K _ Zo Zx];exact W5);have T4:andThen (andThen (eT 1 (aA.drop (if ek U9 [110,111,116]then i4+1+1+1 else i4+1+1))) (λon l=>ok (on.text,on.at_,ek U9 [110,111,116]) l)) (λr l=>l6 loc (eV m loc) (v++f.map (jq t.ty r.1 r.2.1 r.2.2)) l)=some r:=by
     rw[UY]at I;cases Vi:ek U9 [110,111,116]with
     |true=>simp only[eE,gv,Vi,ZK]at I ⊢;rw[(dq UY).2];exact I|false=>simp only[eE,gv,Vi,ZA,ZJ]at I ⊢;rw[UY];exact I
    have Vc:(aA.drop (if ek U9 [110,111,116]then i4+1+1+1 else i4+1+1)).length<=(aA.drop (i4+1)).length:=(by simp only[YL];split<;>omega);clear I;generalize (if ek U9 [110,111,116]then i4+1+1+1 else i4+1+1)=i9 at T4 UL Vc;generalize (if ek U9 [110,111,116]then U9 else el)=z9;generalize ek U9 [110,111,116]=no at T4;unfold cV at Ur;refine cb bm.eq_1 @Ur @t0 ⟨?_⟩;refine c6 (λUV=>F X UV L=zO (cV ⟨[],0,t.ty,[],0,no⟩) 8/\(∀h,h<Ud->h≠L->F X UV h=F X T5 h)) ⟨by rw[aJ Zo];rfl,λh g p=>ag Zo p⟩ ?_;rintro UV ⟨W4,UE⟩;have WH:=UL.K (UE _ Zo Zo) (UE _ Zo Zo);have VV:bo X [an] j k UV Ud:=⟨Zo,λb T O=>by rw[UE b Zo Zo];exact W7.K b T O⟩;have Ue:=U7.go WH (by omega:k<=Ud);cases Uy:aA.drop i9 with|nil=>rw[Uy]at T4;simp[eT,andThen]at T4|cons c Wt=>
    rw[Uy]at T4;simp only[eT]at T4;refine(py U4 Ue.aD Ue.par Ue.bk Ue.eu Ue.eh Ue.many (dq Uy).1 1).mono ?_ ?_
    ·rintro WW VR WQ ⟨VD,rfl,WI,UX⟩;have Wl:=UX.le;rw[Zu VD]at T4;simp only[andThen,ok]at T4;rw[<-(dq Uy).2]at T4;have V5:F X VR L=zO (cV ⟨[],0,t.ty,[],0,no⟩) 8:=(by rw[UX.K _ Zo Zx];exact W4);unfold cV at V5;refine bA bm.eq_1 @V5 ⟨?_⟩;refine ed (jb _ _) ?_;refine bA bm.eq_1 @V5 ⟨?_⟩;refine UZ _ _ _ ⟨c.text,c.at_,no,i9+1,Y t0,Y t1,Y t5,Y UG,av, ?_,λh g p=> ?_, ?_, ?_,Zo, ?_,T4⟩
     ·exact z2
     ·simp(disch:=omega) only[ag];rw[UX.K h Zo Zx,UE h Zo Zo,Uv.K h Zo Zx,Uu.K h Zo,VM h g p]
     ·exact WI.K (zQ) (zQ)
     ·exact⟨Zo,λb T O=>by rw[<-(VV.trans UX).K b T O];exact zQ⟩
     ·simp only[YL]at Vc ⊢;omega
    ·rintro WW VR WQ ⟨VD,rfl,UX⟩;rw[Zi VD]at T4;simp only[andThen,bad,Zh]at T4;subst T4;exact⟨_,rfl,rfl,VV.trans UX⟩
   ·rw[VJ]at T3 ⊢;simp only[ZA,ZJ]at T3 ⊢;simp only[nR,andThen,ok]at I;refine bA bm.eq_1 el.eq_1 ⟨?_⟩;refine UZ _ _ _ ⟨[],0,false,i4+1,Y t0,Y t1,Y t5,Y UG,av, ?_,λh g p=> ?_, ?_, ?_,Zo,Zg _,I⟩
    ·simp(disch:=omega) only[ag];exact UP
    ·simp(disch:=omega) only[ag];exact VM h g p
    ·exact T3.K (zQ) (zQ)
    ·exact⟨Zo,λb T O=>by rw[<-V8.K b T O];exact zQ⟩
  ·clear I Vr T3 V8 TY UP VM Ul Uk Ut VP VX t0 t1 t5 UG V0;rintro z UO VO ⟨on,cY,no,N,t0,t1,t5,UG,Ug,Uk,VL,Vh,Ul,Wo,Wi,I⟩;have Vm:=Vl.K (S':=UO) (λh d=>VL h (UC h d).1 (zK (UC h d)));have Vp:=Vo.K (S':=UO) (λh d=>VL h (zK (T0 h d)) (zK (T0 h d)));clear Vl Vo;obtain⟨WY,Ua⟩:=Vp.kG Zd (Ir f) (by simp only[Zj];omega) (P:=λh=>ak<=h/\h<ar) T0;have Um:=Ua.len;rw[Zj]at Um;refine mc @UG @Um ⟨?_⟩;have Ws:=Um;refine dW (λz S' C=>∃(TZ:y) (T9:List Nat),z.g 0=some (.ptr an 0)/\z.g 1=some (.bool loc)/\z.g 5=some TZ/\cT X S' TZ 8 ((v++f.map (jq t.ty on cY no)).map cV).flatten T9/\(∀h∈T9,k<=h/\h<C)/\aj X S' an ba aA N/\bo X [an] j k S' C/\VO<=C) (λE UZ=> ?_) ?_
   ·refine cG (λVy z S' C=>∃(q:Nat) (TZ:y) (T9:List Nat) (nm:ax) (VS:Int),Vy=f.length-q/\q<=f.length/\z.g 0=some (.ptr an 0)/\z.g 1=some (.bool loc)/\z.g 5=some TZ/\z.g 8=some (.ptr L 0)/\z.g 52=some U8/\z.g 53=some (.Z f.length)/\z.g 54=some (.Z q)/\F X S' L=zO (cV ⟨nm,VS,t.ty,on,cY,no⟩) 8/\
     cT X S' TZ 8 ((v++(f.take q).map (jq t.ty on cY no)).map cV).flatten T9/\(∀h∈T9,(h∈aQ\/VO<=h)/\h<C)/\(∀h,ak<=h->h<ar->F X S' h=F X UO h)/\aj X S' an ba aA N/\bo X [an] j k S' C/\VO<=C)
     f.length ⟨0,s,aQ,[],0,Zo,Zo,Y t0,Y t1,Y t5,Y Ug,av,av,cW,Uk,by simpa using Vm,λh d=>⟨.inl d,zK (UC h d)⟩,λ_ _ _=>rfl,Vh,Ul,Zg _⟩ ?_
    rintro Vy z U1 T2 ⟨q,TZ,T9,nm,VS,rfl,Wf,t0,t1,t5,Ug,VQ,t53,V3,UP,UT,U5,Vw,T3,TY,VE⟩;refine mc @t53 @V3 ⟨?_⟩;refine dV ?_;refine sn (λUn=> ?_) (λUn=> ?_)
    ·have Un:q<f.length:=Zo;have VZ:=Ua.c0 q (by simpa using Un);have VI:=(Ua.K (S':=U1) (λh d=>Vw h d.1 d.2)).row Zd (i:=q) (r:=bm f[q]) (by rw[Zn,Zb Un];rfl);have Vq:f.take (q+1)=f.take q++[f[q]]:=List.take_succ_eq_append_getElem Un;generalize f[q]=aw at VI Vq;have UI:∀h∈T9,k<=h/\h≠L/\¬(ak<=h/\h<ar)/\h<T2:=λh d=>by
      obtain⟨g,p⟩:=U5 h d;rcases g with g|g
      ·have:=UC h g;have:=UJ h g;exact⟨Zo,Zo,Zo,Zo⟩
      ·exact⟨Zo,Zo,Zo,Zo⟩
     unfold cV at UP;refine cd @VQ @V3 @VZ @VI bm.eq_1 @Ug @UP ⟨?_⟩;refine ed (jb _ _) ?_;refine cd @VQ @V3 @VZ @VI bm.eq_1 @Ug (Za @UP @t5) ⟨?_⟩;generalize Uw:aI X _ (T2+1+8) _=T5;have W3:F X T5 (T2+1+8)=zO (cV (jq t.ty on cY no aw)) 8:=(by rw[<-Uw,aJ Zo];rfl);have Ur:F X T5 L=zO (cV (jq t.ty on cY no aw)) 8:=(by rw[<-Uw];exact z2);have Vt:∀h,h<T2->h≠L->F X T5 h=F X U1 h:=λh g p=>(by rw[<-Uw];exact zQ);clear Uw;have VK:f9 X T5 8 (.slice (T2+1+8) 0 1 1)=some (1,cV (jq t.ty on cY no aw)):=g6 W3 (fS _) rfl _;have Wn:(v++(f.take q).map (jq t.ty on cY no)).length<=100000:=(by simp only[ZG,Zj,YM];omega);obtain⟨WT,UV,hs,VA,Vj,W8,Vb⟩:=(UT.K (S':=T5) (λh d=>Vt h (UI h d).2.2.2 (UI h d).2.1)).append (k:=T2+1+8+1) Zd VK rfl Zd rfl (by rw[Pk];simp only[cV,ZI,ZU];omega) Zo (λh d=>zK (UI h d));refine d7 VA ?_;have UE:∀h,h<T2->h≠L->h∉T9->F X UV h=F X U1 h:=λh g p V7=>(by rw[Vb h Zo V7,Vt h g p]);have Uj:=zP q;have VH:((v++(f.take q).map (jq t.ty on cY no)).map cV).flatten++cV (jq t.ty on cY no aw)=((v++(f.take (q+1)).map (jq t.ty on cY no)).map cV).flatten:=(by rw[Vq];simp);rw[VH]at Vj;refine bA @V3 @Uj ⟨?_⟩;refine⟨f.length-(q+1),Zo,q+1,WT,hs,aw.text,aw.at_,rfl,Zo,Y t0,Y t1,av,Y Ug,Y VQ,Y t53,av, ?_,.inl Vj, ?_, ?_, ?_, ?_,Zo⟩
     ·rw[Vb _ Zo (λe=>(UI _ e).2.1 rfl)];exact Ur
     ·intro h d;rcases W8 h d with rfl|e
      ·exact⟨.inr Zo,Zo⟩
      ·have:=U5 h e;exact⟨this.1,Zo⟩
     ·intro h g p;rw[UE h Zo Zo (λe=>(UI h e).2.2.1 ⟨g,p⟩)];exact Vw h g p
     ·exact T3.K (UE _ Zo Zo (λe=>zK (UI _ e))) (UE _ Zo Zo (λe=>zK (UI _ e)))
     ·exact⟨Zo,λb T O=>by rw[UE b Zo Zo (λe=>zK (UI _ e))];exact TY.K b T O⟩
    ·have WC:q=f.length:=Zo;subst WC;rw[Yu]at UT;refine br ⟨?_⟩;exact UZ _ _ _ ⟨TZ,T9,Y t0,Y t1,Y t5,UT,λh d=>by
      obtain⟨g,p⟩:=U5 h d;rcases g with g|g
      ·have:=UC h g;omega
      ·omega,T3,TY,VE⟩
   ·clear Vm Vp Uk VL t0 t1 t5 UG Ug Vh Ul Ua Um;rintro z U1 T2 ⟨TZ,T9,t0,t1,t5,UT,U5,T3,TY,VE⟩;have Vd:(v++f.map (jq t.ty on cY no)).length+(aA.drop N).length<=aA.length:=(by simp only[ZG,Zj];omega);generalize v++f.map (jq t.ty on cY no)=Ui at UT I Vd;have fin:∀(S':B R) (C:Nat),(∀h,h<T2->h≠an->F X S' h=F X U1 h)->T2<=C->r=.ok (Ui,aA.drop N)->aj X S' an ba aA N->∃v A b,r=.ok (v,aA.drop A)/\f2 X S' (bR k C) b TZ 8 (v.map cV)/\aj X S' an ba aA A/\bo X [an] j k S' C:=(by intro S' C g p V7 UQ;obtain⟨b,Ua⟩:=(UT.K (S':=S') (λh d=>g h (U5 h d).2 (zK (U5 h d)))).xi Zd (Fk Ui) (by simp only[Zj];omega) (cX:=bR k C) (λh d=>⟨(U5 h d).1,zK (U5 h d)⟩);exact⟨Ui,N,b,V7,Ua,UQ,Zo,λb T O=>by rw[g b Zo (by simpa using O)];exact TY.K b T O⟩);refine bh @t0 ⟨?_⟩;obtain⟨UU,Uq,UK⟩:∃UU Uq,aA.drop N=UU::Uq:=by cases e:aA.drop N with|nil=>rw[e]at I;simp[l6,oo]at I|cons w T6=>exact⟨w,T6,rfl⟩
    refine c6 (λUW=>UW=U1) rfl ?_;rintro UW rfl;refine(kC U4 Zo T3 Zo Zo (dq UK).1).Zm ?_;rintro u8 T5 Ud ⟨rfl,UR⟩;have WF:=UR.le;have UL:=T3.K (UR.K _ Zo) (UR.K _ Zo);rw[UK]at I;simp only[l6,oo]at I;by_cases V1:UU.text=[59]
    ·rw[Zu V1]at I;have Uh:decide (UU.text≠[59])=false:=(by simp[V1]);have VU:eV m loc Ui (aA.drop (N+1))=some r->∀(z:bO) (dY:B R),z.g 0=some (.ptr an 0)->z.g 1=some (.bool loc)->z.g 5=some TZ->(∀h,h<Ud->h≠an->F X dY h=F X T5 h)->aj X dY an ba aA (N+1)->
      ∃Vx,Vx<m+1/\∃s v aQ A,vx X an ba aA k j loc z dY Ud s v aQ A/\v.length+(aA.drop A).length<=aA.length/\eV Vx loc v (aA.drop A)=some r:=by
      intro WL z dY t0 t1 t5 U6 WK;refine⟨m,Zo,TZ,Ui,T9,N+1,⟨t0,t1,t5,UT.K (λh d=> ?_),λh d=>zK (U5 h d),WK,Zo,λb T O=> ?_⟩, ?_,WL⟩
      ·have:=U5 h d;rw[U6 h Zo Zo,UR.K h Zo]
      ·rw[U6 b Zo (by simpa using O),UR.K b Zo];exact TY.K b T O
      ·simp only[YL]at Vd ⊢;omega
     obtain⟨c,ac,aL,bs,a3,a4⟩:=UL.at_;have VN:=fT aL a3;have Vv:=fT aL bs;have We:=(Ze.1 (dq UK).1).1;have Wq:=UL.ne;have Uj:=zP N;have Vz:∀dY,dY=aI X T5 an (some (.cells (ch c 1 [.Z ((N+1:Nat):Int)]) 2 .own))->aj X dY an ba aA (N+1):=(by rintro dY rfl;refine UL.on (c:=ch c 1 [.Z ((N+1:Nat):Int)]) (aJ Zo) (λb1 st e=>by rw[aL]at e;cases e;exact je ..) (ag Zo Zo));cases loc with
     |false=>simp only[ZA,ZJ]at I;have VC:(UU::Uq).drop 1=aA.drop (N+1):=(by rw[(dq UK).2];rfl);rw[VC]at I;refine cd bm.eq_1 @Uh @t1 @t0 @VN @Uj @aL ⟨?_⟩;exact VU I _ _ (Y t0) (Y t1) (Y t5) (λh g p=>ag Zo p) (Vz _ rfl)|true=>
      simp only[ZK]at I;obtain⟨UH,Uc,UY⟩:∃UH Uc,Uq=UH::Uc:=by cases Uq with|nil=>simp[oo]at I|cons w T6=>exact⟨w,T6,rfl⟩
      subst UY;simp only[oo]at I;have Vs:aA[N+1]? =some UH:=(dq (dq UK).2).1;have WN:=(Ze.1 Vs).1;have Va:=a4.c0 (N+1) (by rw[Zj];exact WN);have VY:ay X T5 (.ptr ba ((N+1)*7+1))=some (.str UH.text):=a4.cell (N+1) (bm UH) 1 _ (by rw[Zn,Vs];rfl) rfl;by_cases Uz:UH.text=[108,101,116]
      ·rw[Zu Uz]at I;simp only[ok,Zh]at I;have V4:decide (UH.text=[108,101,116])=true:=(by simp[Uz]);refine cd bm.eq_1 @Uh @t1 @t0 @Vv @VN (Za @Uj (Za @Va (Za @VY (Za @V4 @t5)))) ⟨?_⟩;exact fin _ _ (λh g p=>UR.K h Zo) Zo (by rw[<-I,UK]) UL
      ·rw[Zi Uz]at I;have V4:decide (UH.text=[108,101,116])=false:=(by simp[Uz]);have VC:(UU::UH::Uc).drop 1=aA.drop (N+1):=(by rw[(dq UK).2];rfl);rw[VC]at I;refine cd bm.eq_1 @Uh @t1 @t0 @Vv @VN (Za @Uj (Za @Va (Za @VY (Za @V4 @aL)))) ⟨?_⟩;exact VU I _ _ (Y t0) (Y t1) (Y t5) (λh g p=>ag Zo p) (Vz _ rfl)
    ·rw[Zi V1]at I;simp only[ok,Zh]at I;have Uh:decide (UU.text≠[59])=true:=(by simp[V1]);refine cb bm.eq_1 @Uh @t5 ⟨?_⟩;exact fin _ _ (λh g p=>UR.K h Zo) Zo (by rw[<-I,UK]) UL
def fU{v w:y}(e:c2 v=some w):v.cells=[v]/\hV v=true/\y.same 30 v v=true:=by cases v with|slice b J n c=>exact⟨rfl,rfl,by simp[y.same]⟩|cy b J n c=>exact⟨rfl,rfl,by simp[y.same]⟩|au=>exact⟨rfl,rfl,rfl⟩|_=>simp[c2]at e
def kS(X:bf)(j:B R):(Nat->Prop)->List cS->List (List y)->Prop
 |_,[],aR=>aR=[]|P,V::b,aR=>∃row a aK,aR=row::a/\(∀h,aK h->P h)/\oF X j aK V row/\kS X j (λh=>P h/\¬aK h) b a
def kS.K{X:bf}{j S':B R}:∀{b:List cS}{aR:List (List y)}{P aK:Nat->Prop}(q:∀h,P h->F X S' h=F X j h) (c:∀h,P h->aK h),kS X j P b aR->kS X S' aK b aR:=by intro b;induction b with|nil=>intro aR P aK q c e;exact e|cons V b U=>rintro aR P aK q c ⟨row,l,b7,f,d,g,i⟩;exact⟨row,l,b7,f,λh a=>c h (d h a),g.K (λh a=>q h (d h a)) (λh a=>a),U (λh a=>q h a.1) (λh a=>⟨c h a.1,a.2⟩) i⟩
def oF.len{X:bf}{j:B R}{P:Nat->Prop}{V:cS}{row:List y}(e:oF X j P V row):row.length=4:=by obtain⟨_,_,_,_,_,rfl,_⟩:=e;rfl
def kS.wide{X:bf}{j:B R}:∀{b:List cS}{aR:List (List y)}{P:Nat->Prop},kS X j P b aR->aR.length=b.length/\∀r∈aR,r.length=4:=by
 intro b;induction b with
 |nil=>rintro aR P rfl;simp
 |cons a b U=>
  rintro aR P ⟨l,m,b7,rfl,i,c,d⟩;obtain⟨f,g⟩:=U d;refine⟨by simp[f],λr I=> ?_⟩;rcases Zq.1 I with rfl|I
  ·exact c.len
  ·exact g r I
def kk(X:bf)(j:B R):(Nat->Prop)->List cS->List (List y)->Prop
 |_,[],aR=>aR=[]|P,V::b,aR=>∃row a aK,aR=row::a/\(∀h,aK h->P h)/\oG X j aK V row/\kk X j (λh=>P h/\¬aK h) b a
def kk.K{X:bf}{j S':B R}:∀{b:List cS}{aR:List (List y)}{P aK:Nat->Prop}(q:∀h,P h->F X S' h=F X j h) (c:∀h,P h->aK h),kk X j P b aR->kk X S' aK b aR:=by intro b;induction b with|nil=>intro aR P aK q c e;exact e|cons V b U=>rintro aR P aK q c ⟨row,l,b7,f,d,g,i⟩;exact⟨row,l,b7,f,λh a=>c h (d h a),g.K (λh a=>q h (d h a)) (λh a=>a),U (λh a=>q h a.1) (λh a=>⟨c h a.1,a.2⟩) i⟩
def kk.snoc{X:bf}{j:B R}{aK:Nat->Prop}{V:cS}{row:List y}(e:oG X j aK V row):∀{f:List cS}{aR:List (List y)}{c P:Nat->Prop},kk X j c f aR->(∀h,c h->P h)->(∀h,aK h->P h/\¬c h)->kk X j P (f++[V]) (aR++[row]):=by
 intro f;induction f with
 |nil=>rintro aR c P rfl g d;exact⟨row,[],aK,rfl,λh b=>(d h b).1,e,rfl⟩
 |cons a f U=>rintro aR c P ⟨r,s,b7,rfl,i,l,m⟩ g d;exact⟨r,s++[row],b7,rfl,λh b=>g h (i h b),l,U m (λh b=>⟨g h b.1,b.2⟩) (λh b=>⟨⟨(d h b).1,λn=>(d h b).2 (i h n)⟩,λp=>(d h b).2 p.1⟩)⟩
def kk.wide{X:bf}{j:B R}:∀{b:List cS}{aR:List (List y)}{P:Nat->Prop},kk X j P b aR->aR.length=b.length/\∀r∈aR,r.length=4:=by
 intro b;induction b with
 |nil=>rintro aR P rfl;simp
 |cons a b U=>
  rintro aR P ⟨l,m,b7,rfl,i,c,d⟩;obtain⟨f,g⟩:=U d;refine⟨by simp[f],λr I=> ?_⟩;rcases Zq.1 I with rfl|I
  ·exact c.row.len
  ·exact g r I
def kk.eqs{X:bf}{j:B R}:∀{a:List cS}{aR:List (List y)}{P:Nat->Prop},kk X j P a aR->kS X j P a aR:=by intro a;induction a with|nil=>intro aR P e;exact e|cons V a U=>rintro aR P ⟨row,g,b7,b,f,c,d⟩;exact⟨row,g,b7,b,f,c.row,U d⟩
def ir(X:bf)(j:B R)(P:Nat->Prop)(g:GE)(row:List y):Prop:=∃bK bM aB a bb bn bH b aR,row=[.str g.name,.Z g.at_,bK,bM,aB,a]/\ca X j P bb bK 8 (g.cv.map cV)/\ca X j P bn bM 8 (g.out.map cV)/\ca X j P bH aB 8 (g.loc.map cV)/\ca X j P b a 4 aR/\kS X j P g.eqs aR
def oK(X:bf)(j:B R)(P:Nat->Prop)(g:GE)(row:List y):Prop:=∃(S:Nat->Nat) (bK bM aB a:y) (bb bn bH b:Nat) (aR:List (List y)),row=[.str g.name,.Z g.at_,bK,bM,aB,a]/\f2 X j (λh=>P h/\S h=1) bb bK 8 (g.cv.map cV)/\f2 X j (λh=>P h/\S h=2) bn bM 8 (g.out.map cV)/\f2 X j (λh=>P h/\S h=3) bH aB 8 (g.loc.map cV)/\f2 X j (λh=>P h/\S h=4) b a 4 aR/\kk X j (λh=>P h/\S h=0) g.eqs aR
def oK.row{X:bf}{j:B R}{P:Nat->Prop}{g:GE}{row:List y}(e:oK X j P g row):ir X j P g row:=by obtain⟨S,bK,bM,aB,l,bb,bn,bH,a,aR,u,b,c,d,f,i⟩:=e;exact⟨bK,bM,aB,l,bb,bn,bH,a,aR,u,b.rd.lift λ_ e=>e.1,c.rd.lift λ_ e=>e.1,d.rd.lift λ_ e=>e.1,f.rd.lift λ_ e=>e.1,i.eqs.K (λ_ _=>rfl) λ_ e=>e.1⟩
def oK.K{X:bf}{j S':B R}{P aK:Nat->Prop}{g:GE}{row:List y}(e:oK X j P g row)(q:∀h,P h->F X S' h=F X j h)(r:∀h,P h->aK h):oK X S' aK g row:=by obtain⟨S,bK,bM,aB,s,bb,bn,bH,d,aR,u,f,l,m,n,p⟩:=e;have a:∀i h,P h/\S h=i->F X S' h=F X j h:=λi h c=>q h c.1;have b:∀i h,P h/\S h=i->aK h/\S h=i:=λi h c=>⟨r h c.1,c.2⟩;exact⟨S,bK,bM,aB,s,bb,bn,bH,d,aR,u,(f.K (a 1)).lift (b 1),(l.K (a 2)).lift (b 2),(m.K (a 3)).lift (b 3),(n.K (a 4)).lift (b 4),p.K (a 0) (b 0)⟩
structure lu(X:bf)(j:B R)(n b5:Nat)(nm:ax)(a:Int)(bK bM aB:y)(cv out loc:List cR):Prop where
 gl:F X j b5=zO [.str nm,.Z a,bK,bM,aB,.au] 6
 lt:b5<n
 xp:∃b c d bb bn bH,b5+1<=b/\b<=c/\c<=d/\d<=n/\f2 X j (bR (b5+1) b) bb bK 8 (cv.map cV)/\f2 X j (bR b c) bn bM 8 (out.map cV)/\f2 X j (bR c d) bH aB 8 (loc.map cV)
def lu.K{X:bf}{j S':B R}{n c b5:Nat}{nm:ax}{a:Int}{bK bM aB:y}{cv out loc:List cR}(e:lu X j n b5 nm a bK bM aB cv out loc)(q:∀h,b5<=h->h<n->F X S' h=F X j h)(t:n<=c):lu X S' c b5 nm a bK bM aB cv out loc:=by obtain⟨i,l,m,bb,bn,bH,p,r,s,v,d,f,g⟩:=e.xp;exact⟨by rw[q b5 (Zg _) e.lt];exact e.gl,zK e.lt,i,l,m,bb,bn,bH,p,r,s,Zo,d.K λh b=>q h (zK b.1) (zK b.2),f.K λh b=>q h (zK b.1) (zK b.2),g.K λh b=>q h (zK b.1) (zK b.2)⟩
def lu.fr{n c b5:Nat}{nm:ax}{a:Int}{bK bM aB:y}{cv out loc:List cR}(e:lu X j n b5 nm a bK bM aB cv out loc)(b:bo X [an] j n S' c)(T:an<b5):lu X S' c b5 nm a bK bM aB cv out loc:=
 e.K (λh f d=>b.K h d Zx) b.le
def ac2{b c:ax}{l:List Tok}:kJ [b,c] el l=andThen (cq b l) λ_ l=>cq c l:=by simp only[kJ];cases e:cq b l with|none=>rfl|some r=>cases r with|error a=>rfl|ok p=>obtain⟨x,d⟩:=p;simp only[andThen];cases cq c d with|none=>rfl|some f=>cases f with|error a=>rfl|ok p=>obtain⟨h,g⟩:=p;rfl
def Ts(A:bW X)(XN:mF X){n:Nat}(jae:n<=200000)(UW:aA.length<=100000)(G:e3 X j k an ba aA i){r:Except Int (GE×List Tok)}(I:Go.aj.node n (aA.drop i)=some r):
 az X 41 [.ptr an 0] j k (λM S' W=>∃g L row,r=.ok (g,aA.drop L)/\M=.agg row/\oK X S' (bR k W) g row/\aj X S' an ba aA L/\bo X [an] j k S' W) (e9 X an j k r):=by
 refine z6 A (LY ..) ?_;unfold Dv;have jad:=G.aD;have ζ:=G.eu;have ε:=G.bk;have η:=G.eh;unfold Go.aj.node at I;refine br ⟨?_⟩;refine c6 (λam=>F X am (k+1)=zO [.str [110,111,100,101]] 1/\F X am k=zO [.str [],.Z 0,.au,.au,.au,.au] 6/\aT X j k am (k+1+1)) ⟨aJ Zo,by exact z2,b8⟩ ?_;rintro am ⟨aa,WH,Va⟩;have W0:=G.go (G.par.ex Va Zo Zo) (by omega:k<=k+1+1);have Vc:bo X [an] j k am (k+1+1):=bo.of Va;rcases dQ I with ⟨a,p,rfl⟩|⟨Xz,Vu,p,I⟩
 ·exact(fE A W0 Zo Zo aa p).mono (λM S' W e=>by obtain⟨u,L,e,_⟩:=e;cases e) (λM S' W e=>e.of Vc (λ_ e=>by cases e;rfl))
 refine(fE A W0 Zo Zo aa p).mono ?_ (λM S' W e=>by obtain⟨a,e,_⟩:=e;cases e);clear p;rintro jaE ah ar ⟨jaN,Wr,XS,_,Wd,V6⟩;cases XS;have π:=V6.le;have V7:=Vc.trans V6;have WM:F X ah k=zO [.str [],.Z 0,.au,.au,.au,.au] 6:=by rw[V6.K _ Zo Zx];exact WH
 have UJ:=G.go Wd V7.le;clear aa WH Va W0 Vc V6;cases VC:aA.drop Wr with|nil=>rw[VC]at I;simp[eT,andThen]at I|cons x jar=>
 rw[VC]at I;simp only[eT]at I;refine(py A UJ.aD UJ.par UJ.bk UJ.eu UJ.eh UJ.many (dq VC).1 1).mono ?_ (λjaz WA Xn e=>by
  obtain⟨Vl,rfl,UD⟩:=e;rw[Zi Vl]at I;simp only[andThen,bad,Zh]at I;subst I;exact⟨_,rfl,rfl,V7.trans UD⟩)
 rintro Xx W9 t ⟨Vl,rfl,We,V8⟩;have σ:=V8.le;rw[Zu Vl]at I;simp only[andThen,ok]at I;rw[<-(dq VC).2]at I;have WN:F X W9 k=zO [.str [],.Z 0,.au,.au,.au,.au] 6:=by rw[V8.K _ Zo Zx];exact WM
 have WW:=V7.trans V8;clear WM V8 V7 Wd UJ;refine bh bm.eq_1 ⟨?_⟩;refine c6 (λUd=>F X Ud (t+1+1)=zO [.str [40]] 1/\lu X Ud (t+1+1+1) (t+1) x.text x.at_ .au .au .au [] [] []/\aT X W9 t Ud (t+1+1+1)) ⟨aJ Zo,⟨by exact z2,Zo,t+1+1,t+1+1,t+1+1,0,0,0,Zg _,Zg _,Zg _,Zo,f2.nil _ _,f2.nil _ _,f2.nil _ _⟩,b8⟩ ?_;rintro Ud ⟨VY,Wz,V4⟩;have WO:F X Ud k=zO [.str [],.Z 0,.au,.au,.au,.au] 6:=by rw[V4.K _ Zo];exact WN
 have Vh:=WW.trans (bo.of V4);have W2:=G.go (We.ex V4 Zo Zo) (by omega:k<=t+1+1+1);clear WN WW We V4;change andThen (cq [40] (aA.drop (Wr+1))) _=some r at I;rcases dQ I with ⟨a,p,rfl⟩|⟨Xz,Vu,p,I⟩
 ·exact(fE A W2 Zo Zo VY p).mono (λM S' W e=>by obtain⟨u,L,e,_⟩:=e;cases e) (λM S' W e=>e.of Vh (λ_ e=>by cases e;rfl))
 refine(fE A W2 Zo Zo VY p).mono ?_ (λM S' W e=>by obtain⟨a,e,_⟩:=e;cases e);clear p;rintro v5 WA Xn ⟨jaO,i5,XT,_,Wf,UD⟩;cases XT;have τ:=UD.le;have X0:=Wz.fr UD Zo;have WP:F X WA k=zO [.str [],.Z 0,.au,.au,.au,.au] 6:=by rw[UD.K _ Zo Zx];exact WO
 have Vi:=Vh.trans UD;have X3:=G.go Wf Vi.le;clear Wz WO Vh UD VY W2;obtain⟨h,jas,Wa,Wo⟩:=ka I;refine(ih A X3 Wa _).Zm ?_;rintro jaA WB Vy ⟨rfl,U7,Un⟩;have υ:=Un.le;have VN:=X0.fr Un Zo;have V1:F X WB k=zO [.str [],.Z 0,.au,.au,.au,.au] 6:=by rw[Un.K _ Zo Zx];exact WP
 have V9:=Vi.trans Un;clear X0 WP Vi Un Wf X3;refine jt bm.eq_1 ⟨?_⟩;refine dW (λz S' T8=>∃(bK:y) (cv:List cR) (L:Nat),z.g 0=some (.ptr an 0)/\z.g 2=some (.ptr k 0)/\z.g 4=some (.ptr (t+1) 0)/\lu X S' T8 (t+1) x.text x.at_ bK .au .au cv [] []/\F X S' k=zO [.str [],.Z 0,.au,.au,.au,.au] 6/\aj X S' an ba aA L/\bo X [an] j k S' T8/\
  (andThen (cq [114,101,116,117,114,110,115] (aA.drop L)) λ_ l=>andThen (cq [40] l) λ_ l=>andThen (eV n false [] l) λout l=>andThen (cq [41] l) λ_ l=>
   eE [118,97,114] l λh l=>andThen (match h with
    |some _=>andThen (eV n true [] l) λT0 l=>andThen (cq [59] l) λ_ l=>ok T0 l|none=>ok [] l) λloc l=>
   andThen (cq [108,101,116] l) λ_ l=>andThen (gC n [] l) λC l=>ok (⟨x.text,x.at_,cv,out,loc,C⟩:GE) l)=some r) (λE Uo=> ?_) ?_
 ·rcases Wo with ⟨T5,I⟩|⟨T5,I⟩
  ·rw[T5]at U7 ⊢;simp only[ZK]at U7 ⊢;rw[<-(dq Wa).2]at I;simp only[andThen,ok]at I;refine bh bm.eq_1 ⟨?_⟩;refine Uo _ _ _ ⟨.au,[],i5+1,av,av,av,VN.K (λh s p=>zQ) Zo,by simp(disch:=omega) only[ag];exact V1,U7.K (zQ) (zQ), ?_,I⟩;exact⟨Zo,λb T N=>by rw[<-V9.K b T N];exact zQ⟩
  ·rw[T5]at U7 ⊢;simp only[ZA,ZJ]at U7 ⊢;simp only[]at I;refine bA bm.eq_1 el.eq_1 ⟨?_⟩;refine c6 (λUe=>aT X WB Vy Ue (Vy+1)) b8 ?_;intro Ue Ui;have UI:=VN.fr (bo.of (X:=[an]) Ui) Zo;have V2:F X Ue k=zO [.str [],.Z 0,.au,.au,.au,.au] 6:=(by rw[Ui.K _ Zo];exact V1);have US:=V9.trans (bo.of Ui);have W3:=G.go (U7.ex Ui Zo Zo) (by omega:k<=Vy+1);clear VN V1 V9 U7 Ui;rcases dQ I with ⟨a,af,rfl⟩|⟨cv,Xl,af,I⟩
   ·rcases dQ af with ⟨TZ,p,w⟩|⟨T0,Vv,p,af⟩
    ·cases w;exact(sr A UW W3 p).mono (λM S' W e=>by obtain⟨u,L,b,e,_⟩:=e;cases e) (λM S' W e=>e.of US (λ_ e=>by cases e;rfl))
    refine(sr A UW W3 p).mono ?_ (λM S' W e=>by obtain⟨a,e,_⟩:=e;cases e);rintro VO P T6 ⟨XC,i8,WC,Vk,UE,Vp,T1⟩;cases Vk;have XW:=T1.le;have UZ:=UI.fr T1 Zo;obtain⟨dI,f7,X1⟩:=fU UE.rd.len;refine br ⟨?_⟩;have VV:=UZ.gl;refine dh (jE (J:=2) VV Zo Zo dI f7) ?_;refine br ⟨?_⟩;refine c6 (λO=>F X O T6=zO [.str [41]] 1/\∀h,h<T6->h≠(t+1)->F X O h=F X P h) ⟨aJ Zo,λh s p=>zQ⟩ ?_;rintro O ⟨VZ,U3⟩;have UU:=Vp.K (U3 _ Zo Zo) (U3 _ Zo Zo);have U2:bo X [an] j k O (T6+1):=⟨Zo,λb T N=>by rw[U3 b Zo Zo];exact(US.trans T1).K b T N⟩;rcases dQ af with ⟨TZ,v,U0⟩|⟨VP,Vw,v,af⟩
    ·cases U0;exact(fE A (G.go UU Zo) Zo Zo VZ v).mono (λM S' W e=>by obtain⟨u,L,e,_⟩:=e;cases e) (λM S' W e=>e.of U2 (λ_ e=>by cases e;rfl))
    ·cases af
   ·rcases dQ af with ⟨TZ,p,w⟩|⟨T0,Vv,p,af⟩
    ·cases w
    refine(sr A UW W3 p).mono ?_ (λM S' W e=>by obtain⟨a,e,_⟩:=e;cases e);rintro VO P T6 ⟨XC,i8,WC,Vk,UE,Vp,T1⟩;cases Vk;have XW:=T1.le;have UZ:=UI.fr T1 Zo;obtain⟨dI,f7,X1⟩:=fU UE.rd.len;refine br ⟨?_⟩;have VV:=UZ.gl;refine dh (jE (J:=2) VV Zo Zo dI f7) ?_;refine br ⟨?_⟩;refine c6 (λO=>F X O T6=zO [.str [41]] 1/\F X O (t+1)=zO [.str x.text,.Z x.at_,VO,.au,.au,.au] 6/\∀h,h<T6->h≠(t+1)->F X O h=F X P h) ⟨aJ Zo,by rw[ag Zo Zo,aJ Zo];rfl,λh s p=>zQ⟩ ?_;rintro O ⟨VZ,XI,U3⟩;have UU:=Vp.K (U3 _ Zo Zo) (U3 _ Zo Zo);have U2:bo X [an] j k O (T6+1):=⟨Zo,λb T N=>by rw[U3 b Zo Zo];exact(US.trans T1).K b T N⟩;have jaf:=UI.lt;have Ua:lu X O (T6+1) (t+1) x.text x.at_ VO .au .au _ [] []:=⟨XI,Zo,T6,T6,T6,WC,0,0,Zo,Zg _,Zg _,Zo,(UE.K (λh f=>U3 h f.2 (zK f.1))).lift (λh f=>⟨zK f.1,zK f.2⟩),f2.nil _ _,f2.nil _ _⟩;have V3:F X O k=zO [.str [],.Z 0,.au,.au,.au,.au] 6:=(by rw[U3 _ Zo Zo,T1.K _ Zo Zx];exact V2);rcases dQ af with ⟨TZ,v,U0⟩|⟨VP,Vw,v,af⟩
    ·cases U0
    refine(fE A (G.go UU Zo) Zo Zo VZ v).mono ?_ (λM S' W e=>by obtain⟨a,e,_⟩:=e;cases e);rintro T2 VQ UG ⟨jaH,Wp,Vj,_,VD,T7⟩;cases Vj;cases af;exact Uo _ _ _ ⟨VO,_,Wp,av,av,av,Ua.fr T7 Zo,by rw[T7.K _ Zo Zx];exact V3,VD,U2.trans T7,I⟩
 ·clear Wo U7 VN V1 V9 I;rintro z Ue UH ⟨bK,cv,Xi,t0,TY,t4,UI,V2,Wg,US,I⟩;have jaa:=UI.lt;refine bh @t0 ⟨?_⟩;refine c6 (λP=>F X P UH=zO [.str [114,101,116,117,114,110,115],.str [40]] 2/\aT X Ue UH P (UH+1)) ⟨aJ Zo,b8⟩ ?_;rintro P ⟨WR,Uj⟩;have UZ:=UI.fr (bo.of (X:=[an]) Uj) Zo;have WQ:F X P k=zO [.str [],.Z 0,.au,.au,.au,.au] 6:=by rw[Uj.K _ Zo];exact V2
  have T1:=US.trans (bo.of Uj);have UK:=G.go (Wg.ex Uj Zo Zo) (by omega:k<=UH+1);clear UI V2 US Wg Uj;have UE:ca X P (λh=>h=UH) UH (.slice UH 0 2 2) 1 (cQ [[114,101,116,117,114,110,115],[40]]):=u2 (aR:=[[.str [114,101,116,117,114,110,115]],[.str [40]]]) (st:=.own) WR rfl Zs Zd rfl;have VH:∃UP,kJ [[114,101,116,117,114,110,115],[40]] el (aA.drop Xi)=some UP/\andThen (some UP) (λ(_:Tok) l=>andThen (eV n false [] l) λout l=>andThen (cq [41] l) λ_ l=>
   eE [118,97,114] l λh l=>andThen (match h with
    |some _=>andThen (eV n true [] l) λT0 l=>andThen (cq [59] l) λ_ l=>ok T0 l|none=>ok [] l) λloc l=>
   andThen (cq [108,101,116] l) λ_ l=>andThen (gC n [] l) λC l=>ok (⟨x.text,x.at_,cv,out,loc,C⟩:GE) l)=some r:=by
   rw[ac2];rcases dQ I with ⟨a,s,rfl⟩|⟨aL,bG,s,I⟩
   ·exact⟨.error a,by rw[s];rfl,rfl⟩
   ·rcases dQ I with ⟨a,p,rfl⟩|⟨bs,Vu,p,I⟩
    ·exact⟨.error a,by rw[s];exact p,rfl⟩
    ·exact⟨.ok (bs,Vu),by rw[s];exact p,I⟩
  clear I;obtain⟨UP,VH,I⟩:=VH;refine(IH A UK.aD UK.par UK.bk UK.eu UK.eh UK.many Zo Zo UE VH).mono ?_ (λM S' W e=>by
   obtain⟨a,rfl,rfl,e⟩:=e;simp only[andThen,Zh]at I;subst I;exact⟨a,rfl,rfl,T1.trans e⟩)
  rintro v9 O jau ⟨VP,i9,rfl,_,UU,U2⟩;change andThen (eV n false [] (aA.drop i9)) _=some r at I;have φ:=U2.le;have Ua:=UZ.fr U2 Zo;have V3:F X O k=zO [.str [],.Z 0,.au,.au,.au,.au] 6:=by rw[U2.K _ Zo Zx];exact WQ
  have VA:=T1.trans U2;have W4:=G.go UU VA.le;clear UZ WQ T1 U2 UE WR UK VH UU;refine bh @t0 ⟨?_⟩;rcases dQ I with ⟨a,p,rfl⟩|⟨out,jam,p,I⟩
  ·exact(sr A UW W4 p).mono (λM S' W e=>by obtain⟨u,L,b,e,_⟩:=e;cases e) (λM S' W e=>e.of VA (λ_ e=>by cases e;rfl))
  refine(sr A UW W4 p).mono ?_ (λM S' W e=>by obtain⟨a,e,_⟩:=e;cases e);clear p;rintro T2 VQ UG ⟨out,Wp,X7,Vj,Vq,VD,T7⟩;cases Vj;have θ:=T7.le;have Wx:=Ua.fr T7 Zo;have WI:F X VQ k=zO [.str [],.Z 0,.au,.au,.au,.au] 6:=by rw[T7.K _ Zo Zx];exact V3
  have WS:=VA.trans T7;obtain⟨dI,f7,X1⟩:=fU Vq.rd.len;have jab:=Ua.lt;refine bh @t4 ⟨?_⟩;refine dh (jE (J:=3) Wx.gl Zo Zo dI f7) ?_;refine bh @t0 ⟨?_⟩;refine c6 (λT3=>F X T3 UG=zO [.str [41]] 1/\F X T3 (t+1)=zO [.str x.text,.Z x.at_,bK,T2,.au,.au] 6/\∀h,h<UG->h≠t+1->F X T3 h=F X VQ h) ⟨aJ Zo,by rw[ag Zo Zo,aJ Zo];rfl,λh s p=>zQ⟩ ?_;rintro T3 ⟨VW,WF,UF⟩;have Vn:=VD.K (UF _ Zo Zo) (UF _ Zo Zo);have Vd:bo X [an] j k T3 (UG+1):=⟨Zo,λb T N=>by rw[UF b Zo Zo];exact WS.K b T N⟩;have Wy:lu X T3 (UG+1) (t+1) x.text x.at_ bK T2 .au cv out []:=by obtain⟨Vx,Wv,Xm,Uf,_,_,W5,X4,Xt,Xu,UV,_,_⟩:=Ua.xp;exact⟨WF,Zo,Vx,UG,UG,Uf,X7,0,W5,Zo,Zg _,Zo,UV.K (λh f=>by have:=f.1;have:=f.2;rw[UF h Zo Zo,T7.K h Zo Zx]),(Vq.K (λh f=>UF h f.2 (zK f.1))).lift (λh f=>⟨zK f.1,zK f.2⟩),f2.nil _ _⟩
  have WJ:F X T3 k=zO [.str [],.Z 0,.au,.au,.au,.au] 6:=by rw[UF _ Zo Zo];exact WI
  clear Ua Wx V3 WI VA T7 WS Vq VD UF WF W4;rcases dQ I with ⟨a,v,rfl⟩|⟨jaI,jan,v,I⟩
  ·exact(fE A (G.go Vn Zo) Zo Zo VW v).mono (λM S' W e=>by obtain⟨u,L,e,_⟩:=e;cases e) (λM S' W e=>e.of Vd (λ_ e=>by cases e;rfl))
  refine(fE A (G.go Vn Zo) Zo Zo VW v).mono ?_ (λM S' W e=>by obtain⟨a,e,_⟩:=e;cases e);clear v;rintro jaB X6 jat ⟨jaJ,Wq,XQ,_,Wb,Uk⟩;cases XQ;have ι:=Uk.le;have Vz:=Wy.fr Uk Zo;have WK:F X X6 k=zO [.str [],.Z 0,.au,.au,.au,.au] 6:=by rw[Uk.K _ Zo Zx];exact WJ
  have Ve:=Vd.trans Uk;have X2:=G.go Wb Ve.le;clear Wy WJ Vd Uk Vn VW Wb;refine bh @t0 ⟨?_⟩;obtain⟨h,jao,WY,Wn⟩:=ka I;refine(ih A X2 WY _).Zm ?_;rintro jax W8 VJ ⟨rfl,U6,Ul⟩;have κ:=Ul.le;have VL:=Vz.fr Ul Zo;have Ux:F X W8 k=zO [.str [],.Z 0,.au,.au,.au,.au] 6:=by rw[Ul.K _ Zo Zx];exact WK
  have V5:=Ve.trans Ul;have χ:=Vz.lt;clear Vz WK Ve Ul X2 I;refine jt bm.eq_1 ⟨?_⟩;refine dW (λz S' T8=>∃(aB:y) (loc:List cR) (L:Nat),z.g 0=some (.ptr an 0)/\z.g 2=some (.ptr k 0)/\z.g 4=some (.ptr (t+1) 0)/\lu X S' T8 (t+1) x.text x.at_ bK T2 aB cv out loc/\F X S' k=zO [.str [],.Z 0,.au,.au,.au,.au] 6/\aj X S' an ba aA L/\bo X [an] j k S' T8/\
   (andThen (cq [108,101,116] (aA.drop L)) λ_ l=>andThen (gC n [] l) λC l=>ok (⟨x.text,x.at_,cv,out,loc,C⟩:GE) l)=some r) (λE Uo=> ?_) ?_
  ·rcases Wn with ⟨T5,I⟩|⟨T5,I⟩
   ·rw[T5]at U6 ⊢;simp only[ZK]at U6 ⊢;rw[<-(dq WY).2]at I;simp only[]at I;refine bA bm.eq_1 @t0 ⟨?_⟩;refine c6 (λUQ=>aT X W8 VJ UQ (VJ+1)) b8 ?_;intro UQ Ug;have UY:=VL.fr (bo.of (X:=[an]) Ug) Zo;have Uy:F X UQ k=zO [.str [],.Z 0,.au,.au,.au,.au] 6:=(by rw[Ug.K _ Zo];exact Ux);have Um:=V5.trans (bo.of Ug);have Xq:=G.go (U6.ex Ug Zo Zo) (by omega:k<=VJ+1);clear VL Ux V5 U6 Ug;have XP:∃rd,eV n true [] (aA.drop (Wq+1))=some rd/\(match rd with
     | .error a=>r=.error a| .ok (T0,l)=>∃UP,cq [59] l=some UP/\(match UP with
       | .error a=>r=.error a| .ok (_,l)=>(andThen (cq [108,101,116] l) λ_ l=>andThen (gC n [] l) λC l=>ok (⟨x.text,x.at_,cv,out,T0,C⟩:GE) l)=some r)):=by
     rcases dQ I with ⟨a,af,rfl⟩|⟨loc,Xl,af,I⟩
     ·rcases dQ af with ⟨TZ,p,w⟩|⟨T0,Vv,p,af⟩
      ·cases w;exact⟨_,p,rfl⟩
      ·rcases dQ af with ⟨TZ,v,U0⟩|⟨VP,Vw,v,af⟩
       ·cases U0;exact⟨_,p,_,v,rfl⟩
       ·cases af
     ·rcases dQ af with ⟨TZ,p,w⟩|⟨T0,Vv,p,af⟩
      ·cases w
      ·rcases dQ af with ⟨TZ,v,U0⟩|⟨VP,Vw,v,af⟩
       ·cases U0
       ·cases af;exact⟨_,p,_,v,I⟩
    obtain⟨rd,p,Wj⟩:=XP;refine(sr A UW Xq p).mono ?_ (λM S' W e=>by
     obtain⟨a,rfl,rfl,e⟩:=e;subst Wj;exact⟨a,rfl,rfl,Um.trans e⟩)
    rintro W7 Uv Us ⟨T0,jal,X8,rfl,Wi,XY,U1⟩;obtain⟨UP,v,Wl⟩:=Wj;have μ:=U1.le;have VM:=UY.fr U1 Zo;have Uz:F X Uv k=zO [.str [],.Z 0,.au,.au,.au,.au] 6:=(by rw[U1.K _ Zo Zx];exact Uy);have XL:=Um.trans U1;obtain⟨Xo,Xp,jav⟩:=fU Wi.rd.len;refine bh @t4 ⟨?_⟩;refine dh (jE (J:=4) VM.gl Zo Zo Xo Xp) ?_;refine bh @t0 ⟨?_⟩;refine c6 (λT3=>F X T3 Us=zO [.str [59]] 1/\F X T3 (t+1)=zO [.str x.text,.Z x.at_,bK,T2,W7,.au] 6/\∀h,h<Us->h≠t+1->F X T3 h=F X Uv h) ⟨aJ Zo,by rw[ag Zo Zo,aJ Zo];rfl,λh s p=>zQ⟩ ?_;rintro U4 ⟨XK,XG,UX⟩;have VE:=XY.K (UX _ Zo Zo) (UX _ Zo Zo);have U5:bo X [an] j k U4 (Us+1):=⟨Zo,λb T N=>by rw[UX b Zo Zo];exact XL.K b T N⟩;have Uu:lu X U4 (Us+1) (t+1) x.text x.at_ bK T2 W7 cv out T0:=(by obtain⟨Vx,Wv,Xm,Uf,VS,_,W5,X4,Xt,Xu,UV,dF,_⟩:=UY.xp;have Ws:∀h,t+1<h->h<VJ+1->F X U4 h=F X UQ h:=λh s p=>(by rw[UX h Zo Zo,U1.K h Zo Zx]);exact⟨XG,Zo,Vx,Wv,Us,Uf,VS,X8,W5,X4,Zo,Zo,UV.K (λh f=>Ws h (zK f.1) (zK f.2)),dF.K (λh f=>Ws h (zK f.1) (zK f.2)),(Wi.K (λh f=>UX h f.2 (zK f.1))).lift (λh f=>⟨zK f.1,zK f.2⟩)⟩);have V0:F X U4 k=zO [.str [],.Z 0,.au,.au,.au,.au] 6:=(by rw[UX _ Zo Zo];exact Uz);refine(fE A (G.go VE Zo) Zo Zo XK v).mono ?_ (λM S' W e=>by
     obtain⟨a,rfl,rfl,e⟩:=e;subst Wl;exact⟨a,rfl,rfl,U5.trans e⟩)
    rintro jaD Ub Ut ⟨jaM,U8,rfl,_,Vo,UR⟩;exact Uo _ _ _ ⟨W7,T0,U8,Y t0,Y TY,Y t4,Uu.fr UR Zo,by rw[UR.K _ Zo Zx];exact V0,Vo,U5.trans UR,Wl⟩
   ·rw[T5]at U6 ⊢;simp only[ZA,ZJ]at U6 ⊢;simp only[andThen,ok]at I;refine bA bm.eq_1 el.eq_1 ⟨?_⟩;refine Uo _ _ _ ⟨.au,[],Wq,Y t0,Y TY,Y t4,VL.K (λh s p=>zQ) Zo,by simp(disch:=omega) only[ag];exact Ux,U6.K (zQ) (zQ), ?_,I⟩;exact⟨Zo,λb T N=>by rw[<-V5.K b T N];exact zQ⟩
  ·clear Wn U6 VL Ux V5 t0 TY t4;rintro z UQ VK ⟨aB,loc,jak,t0,TY,t4,UY,Uy,Wc,Um,I⟩;have ψ:=UY.lt;refine bh @t0 ⟨?_⟩;refine c6 (λP=>F X P VK=zO [.str [108,101,116]] 1/\aT X UQ VK P (VK+1)) ⟨aJ Zo,b8⟩ ?_;rintro Uv ⟨VX,Uh⟩;have VM:=UY.fr (bo.of (X:=[an]) Uh) Zo;have Uz:F X Uv k=zO [.str [],.Z 0,.au,.au,.au,.au] 6:=(by rw[Uh.K _ Zo];exact Uy);have U1:=Um.trans (bo.of Uh);have W1:=G.go (Wc.ex Uh Zo Zo) (by omega:k<=VK+1);clear UY Uy Um Wc Uh;rcases dQ I with ⟨a,v,rfl⟩|⟨jaK,jap,v,I⟩
   ·exact(fE A W1 Zo Zo VX v).mono (λM S' W e=>by obtain⟨u,L,e,_⟩:=e;cases e) (λM S' W e=>e.of U1 (λ_ e=>by cases e;rfl))
   refine(fE A W1 Zo Zo VX v).mono ?_ (λM S' W e=>by obtain⟨a,e,_⟩:=e;cases e);clear v;rintro jaC U4 di ⟨jaL,i16,XR,_,VE,U5⟩;cases XR;have ν:=U5.le;have Uu:=VM.fr U5 Zo;have V0:F X U4 k=zO [.str [],.Z 0,.au,.au,.au,.au] 6:=(by rw[U5.K _ Zo Zx];exact Uz);have WT:=U1.trans U5;have ω:=Uu.lt;clear VM Uz U1 U5 W1 VX;obtain⟨α,β,jaP,Uf,VS,XB,jag,jah,jai,jaj,UV,dF,Wk⟩:=Uu.xp;obtain⟨jaw,Xw,Xx⟩:=fU UV.rd.len;obtain⟨dT,Xy,jaG⟩:=fU dF.rd.len;obtain⟨jaQ,γ,z3⟩:=fU Wk.rd.len;refine dV ?_;refine cG (λm z S' T8=>∃(UB:y) (C:List cS) (aR:List (List y)) (aQ:List Nat) (L:Nat),z.g 0=some (.ptr an 0)/\z.g 2=some (.ptr k 0)/\z.g 4=some (.ptr (t+1) 0)/\F X S' (t+1)=zO [.str x.text,.Z x.at_,bK,T2,aB,UB] 6/\
    (∀h,t+2<=h->h<di->F X S' h=F X U4 h)/\cT X S' UB 4 aR.flatten aQ/\(∀h∈aQ,di<=h/\h<T8)/\kk X S' (mv di T8 aQ) C aR/\F X S' k=zO [.str [],.Z 0,.au,.au,.au,.au] 6/\aj X S' an ba aA L/\bo X [an] j k S' T8/\di<=T8/\C.length+m<=n/\
    (andThen (gC m C (aA.drop L)) λC l=>ok (⟨x.text,x.at_,cv,out,loc,C⟩:GE) l)=some r)
    n ⟨.au,[],[],[],i16,t0,TY,t4,Uu.gl,λ_ _ _=>rfl,.inl (.inl ⟨rfl,rfl,rfl⟩),Zs,rfl,V0,VE,WT,Zg _,Zs,I⟩ ?_
   clear I VE V0 WT t0 TY t4;rintro m z Ub Ut ⟨UB,C,aR,aQ,U8,t0,TY,t4,VT,Wt,VG,T4,VF,WL,Vo,UR,ξ,jac,I⟩;cases m with|zero=>simp[gC,andThen]at I|succ m=>
   unfold gC at I;have Xr:=G.go Vo UR.le;refine dV ?_;refine bh @t0 ⟨?_⟩;have Xd:∃h l,aA.drop U8=h::l/\((ek h [116,101,108]=true/\ok (⟨x.text,x.at_,cv,out,loc,C⟩:GE) l=some r)\/(ek h [116,101,108]=false/\(andThen (andThen (m0 m (aA.drop U8)) λV l=>gC m (C++[V]) l) λC l=>ok (⟨x.text,x.at_,cv,out,loc,C⟩:GE) l)=some r)):=by
    rcases dQ I with ⟨a,s,rfl⟩|⟨X5,Wu,s,I⟩
    ·obtain⟨h,l,p,w⟩:=ka s;rcases w with ⟨w,v⟩|⟨w,v⟩
     ·cases v
     ·exact⟨h,l,p,.inr ⟨w,by rw[show(andThen (m0 m (aA.drop U8)) λV l=>gC m (C++[V]) l)=some (.error a) from v];rfl⟩⟩
    ·obtain⟨h,l,p,w⟩:=ka s;rcases w with ⟨w,v⟩|⟨w,v⟩
     ·cases v;exact⟨h,_,p,.inl ⟨w,I⟩⟩
     ·exact⟨h,l,p,.inr ⟨w,by rw[show(andThen (m0 m (aA.drop U8)) λV l=>gC m (C++[V]) l)=some (.ok (X5,Wu)) from v];exact I⟩⟩
   clear I;obtain⟨h,jaq,WZ,Xf⟩:=Xd;refine(ih A Xr WZ _).Zm ?_;rintro jay UC T9 ⟨rfl,UT,Vf⟩;have ο:=Vf.le;have Uq:∀h,k<=h->h<Ut->F X UC h=F X Ub h:=λh s p=>Vf.K h p Zx;have WU:=UR.trans Vf;rcases Xf with ⟨T5,I⟩|⟨T5,I⟩
   ·rw[T5]at UT ⊢;simp only[ZK]at UT ⊢;simp only[ok,Zh]at I;subst I;obtain⟨XD,WD,WE⟩:=cT.one VG;have VU:F X UC (t+1)=zO [.str x.text,.Z x.at_,bK,T2,aB,UB] 6:=(by rw[Uq _ Zo Zo];exact VT);have XJ:F X UC k=zO [.str [],.Z 0,.au,.au,.au,.au] 6:=(by rw[Uq _ Zo Zo];exact WL);refine c9 bm.eq_1 @t4 (aZ VU) @TY ⟨?_⟩;refine dh (eR (q:=6) (b:=k) (J:=0) (n:=6) (c:=B.ofList [.str [],.Z 0,.au,.au,.au,.au] 0 .nil) (by simp(disch:=omega) only[ag];exact XJ) Zo rfl Zd Zd (by simp[y.cells,ei,Xw,Xy,γ,WD,show hV (.Z x.at_)=true from rfl,show hV (.str x.text)=true from rfl])) ?_;refine bh @TY ⟨?_⟩;have Xk:∀dY,(∀h,k<h->h<T9->F X dY h=F X UC h)->∀h,k<h->h<Ut->F X dY h=F X Ub h:=λdY e h s p=>(by rw[e h s Zo,Uq h Zo p]);generalize WX:aI X _ k _=dY;have VI:∀h,h≠k->h<T9->F X dY h=F X UC h:=λh s p=>(by rw[<-WX];exact zQ);clear WX;have Vt:=Xk dY (λh s p=>VI h Zo p);have Up:=VF.wide;obtain⟨X9,Xa⟩:=(VG.K (S':=dY) (λh f=>Vt h (zK (T4 h f)) (T4 h f).2)).xi Zd Up.2 (by rw[Up.1];omega) (cX:=λh=>bR k (T9+1) h/\h∈aQ) (λh f=>by have:=T4 h f;exact⟨⟨Zo,Zo⟩,f⟩);have Vs:∀h,bR (t+1+1) di h->F X dY h=F X U4 h:=λh f=>(by have s:=f.1;have p:=f.2;rw[Vt h Zo Zo];exact Wt h Zo p);have Vm:∀h,h<di->h∉aQ:=λh s p=>zK (T4 h p);refine⟨_,U8+1,_,by rw[(dq WZ).2],rfl,⟨λh=>if h∈aQ then 4 else if di<=h then 0 else if h<α then 1 else if h<β then 2 else 3,bK,T2,aB,UB,Uf,VS,XB,X9,aR,rfl, ?_, ?_, ?_,Xa.lift λh f=>⟨f.1,Zu f.2⟩, ?_⟩, ?_, ?_⟩
    ·refine(UV.K λh f=>Vs h ⟨f.1,zK f.2⟩).lift λh f=>⟨⟨zK f.1,zK f.2⟩, ?_⟩;have s:=f.1;have p:=f.2;simp only[];rw[Zi (Vm h Zo),Zi Zo,Zu p]
    ·refine(dF.K λh f=>Vs h ⟨zK f.1,zK f.2⟩).lift λh f=>⟨⟨zK f.1,zK f.2⟩, ?_⟩;have s:=f.1;have p:=f.2;simp only[];rw[Zi (Vm h Zo),Zi Zo,Zi Zo,Zu p]
    ·refine(Wk.K λh f=>Vs h ⟨zK f.1,zK f.2⟩).lift λh f=>⟨⟨zK f.1,zK f.2⟩, ?_⟩;have s:=f.1;have p:=f.2;simp only[];rw[Zi (Vm h Zo),Zi Zo,Zi Zo,Zi Zo]
    ·refine VF.K (λh f=>Vt h (zK f.1) f.2.1) (λh f=>⟨⟨zK f.1,zK f.2.1⟩, ?_⟩);simp only[];rw[Zi f.2.2,Zu f.1]
    ·exact UT.K (VI _ Zo Zo) (VI _ Zo Zo)
    ·exact⟨Zo,λb T N=>by rw[VI b Zo Zo];exact WU.K b T N⟩
   ·rw[T5]at UT ⊢;simp only[ZA,ZJ]at UT ⊢;obtain⟨XD,WD,WE⟩:=cT.one VG;have VU:F X UC (t+1)=zO [.str x.text,.Z x.at_,bK,T2,aB,UB] 6:=(by rw[Uq _ Zo Zo];exact VT);refine dE bm.eq_1 el.eq_1 @t4 (aZ VU) @t0 ⟨?_⟩;refine c6 (λVR=>aT X UC T9 VR (T9+1+8)) b8 ?_;intro VR Vb;have Xj:∀h,k<=h->h<Ut->F X VR h=F X Ub h:=λh s p=>(by rw[Vb.K h Zo];exact Uq h s p);have WV:=WU.trans (bo.of Vb);have Xs:=G.go (UT.ex Vb Zo Zo) (by omega:k<=T9+1+8);have Xc:∃W6,m0 m (aA.drop U8)=some W6/\(match W6 with
     | .error a=>r=.error a| .ok (V,l)=>(andThen (gC m (C++[V]) l) λC l=>ok (⟨x.text,x.at_,cv,out,loc,C⟩:GE) l)=some r):=by
     rcases dQ I with ⟨a,s,rfl⟩|⟨X5,Wu,s,I⟩
     ·rcases dQ s with ⟨TZ,p,w⟩|⟨V,l,p,w⟩
      ·cases w;exact⟨_,p,rfl⟩
      ·exact⟨_,p,by show andThen _ _=_;rw[w];rfl⟩
     ·rcases dQ s with ⟨TZ,p,w⟩|⟨V,l,p,w⟩
      ·cases w
      ·exact⟨_,p,by show andThen _ _=_;rw[w];exact I⟩
    obtain⟨W6,s,Wh⟩:=Xc;refine(PL A XN Zo Xs s).mono ?_ (λM S' W e=>by
     obtain⟨a,rfl,rfl,e⟩:=e;subst Wh;exact⟨a,rfl,rfl,WV.trans e⟩)
    rintro jaF Uc Ww ⟨V,Xh,row,rfl,rfl,Vr,XZ,Vg⟩;have ρ:=Vg.le;have XM:=WV.trans Vg;have Ur:∀h,k<=h->h<Ut->F X Uc h=F X Ub h:=λh s p=>(by rw[Vg.K h Zo Zx];exact Xj h s p);have WG:F X Uc (t+1)=zO [.str x.text,.Z x.at_,bK,T2,aB,UB] 6:=(by rw[Ur _ Zo Zo];exact VT);have Xb:=Vr.row.len;obtain⟨UL,UM,UN,UO,rfl⟩:∃UL UM UN UO,row=[UL,UM,UN,UO]:=by
     match row,Xb with
     |[a,b,c,d],_=>exact⟨a,b,c,d,rfl⟩
    have XX:ei [UL,UM,UN,UO]=true:=(by obtain⟨_,_,_,_,_,_,s,_,_,_,U0⟩:=Vr;exact U0);refine bh (aZ WG) ⟨?_⟩;refine ed WE ?_;have Xe:f9 X (aI X Uc (T9+1+4) (zO [UL,UM,UN,UO] 4)) 4 (.slice (T9+1+4) 0 1 1)=some (1,[UL,UM,UN,UO]):=g6 (aJ Zo) (fS _) rfl _;have Up:=VF.wide;have XU:=mb Up.2;obtain⟨Xv,Uw,XA,XO,Wm,VB,XV⟩:=(VG.K (S':=aI X Uc (T9+1+4) (zO [UL,UM,UN,UO] 4)) (λh f=>by have:=T4 h f;rw[ag Zo Zo];exact Ur h Zo Zo)).append (k:=Ww) Zd Xe rfl Zd XX (by rw[XU,Up.1];simp only[ZI,ZU];omega) Zo (λh f=>zK (T4 h f));refine d7 XO ?_;obtain⟨XE,XF,δ⟩:=en.one Wm;have U9:∀h,h<Ww->h≠T9+1+4->h∉aQ->F X Uw h=F X Uc h:=λh s p w=>(by rw[XV h Zo w,ag Zo p]);have bu:∀h,h<di->h∉aQ:=λh s p=>zK (T4 h p);have XH:F X Uw (t+1)=zO [.str x.text,.Z x.at_,bK,T2,aB,UB] 6:=(by rw[U9 _ Zo Zo (bu _ Zo)];exact WG);refine bh @t4 ⟨?_⟩;refine dh (jE (J:=5) XH Zo Zo XE XF) ?_;have UA:∀h,h≠t+1->∀bQ,F X (aI X Uw (t+1) bQ) h=F X Uw h:=λh e bQ=>ag Zo e;refine⟨m,Zo,Xv,C++[V],aR++[[UL,UM,UN,UO]],XA,Xh,Y t0,Y TY,Y t4,by rw[aJ Zo];rfl, ?_,.inl ?_, ?_, ?_, ?_, ?_, ?_,Zo,Zx,Wh⟩
    ·intro h s p;rw[UA h Zo,U9 h Zo Zo (bu h p),Ur h Zo Zo];exact Wt h s p
    ·rw[zx,YD,List.flatten_nil,ZW];exact Wm.K λh f=>UA h (by rcases VB h f with rfl|e;omega;have:=T4 h e;omega) _
    ·intro h f;rcases VB h f with rfl|e
     ·omega
     ·have:=T4 h e;omega
    ·refine kk.snoc (Vr.K (λh f=> ?_) (λh f=>f)) (VF.K (λh f=> ?_) (λh f=>f)) (λh f=> ?_) (λh f=>⟨?_,λXg=>by have:=f.1;have:=Xg.2.1;omega⟩)
     ·have s:=f.1;have p:=f.2;rw[UA h Zo,U9 h Zo Zo (λe=>zK (T4 h e))]
     ·have s:=f.1;have p:=f.2.1;rw[UA h Zo,U9 h Zo Zo f.2.2,Ur h Zo Zo]
     ·have s:=f.1;have p:=f.2.1;refine⟨s,Zo,λe=> ?_⟩;rcases VB h e with rfl|e
      ·omega
      ·exact f.2.2 e
     ·have s:=f.1;have p:=f.2;refine⟨Zo,Zo,λe=> ?_⟩;rcases VB h e with rfl|e
      ·omega
      ·have:=T4 h e;omega
    ·rw[UA _ Zo,U9 _ Zo Zo (bu _ Zo),Ur _ Zo Zo];exact WL
    ·exact XZ.K (by rw[UA _ Zo,U9 _ Zo Zo (bu _ Zo)]) (by rw[UA _ Zo,U9 _ Zo Zo (bu _ Zo)])
    ·exact⟨Zo,λb T N=>by rw[UA b Zo,U9 b Zo Zo (bu b Zo)];exact XM.K b T N⟩
def lv(X:bf)(j:B R):(Nat->Prop)->List GE->List (List y)->Prop
 |_,[],aR=>aR=[]|P,V::b,aR=>∃row a aK,aR=row::a/\(∀h,aK h->P h)/\ir X j aK V row/\lv X j (λh=>P h/\¬aK h) b a
def ir.K{X:bf}{j S':B R}{P aK:Nat->Prop}{g:GE}{row:List y}(e:ir X j P g row)(q:∀h,P h->F X S' h=F X j h)(a:∀h,P h->aK h):ir X S' aK g row:=by obtain⟨bK,bM,aB,m,bb,bn,bH,b,aR,u,c,d,f,i,l⟩:=e;exact⟨bK,bM,aB,m,bb,bn,bH,b,aR,u,(c.K q).lift a,(d.K q).lift a,(f.K q).lift a,(i.K q).lift a,l.K q a⟩
def ir.len{X:bf}{j:B R}{P:Nat->Prop}{g:GE}{row:List y}(e:ir X j P g row):row.length=6:=by obtain⟨bK,bM,aB,b,bb,bn,bH,a,aR,u,_⟩:=e;subst u;rfl
def lv.K{X:bf}{j S':B R}:∀{b:List GE}{aR:List (List y)}{P aK:Nat->Prop}(q:∀h,P h->F X S' h=F X j h) (c:∀h,P h->aK h),lv X j P b aR->lv X S' aK b aR:=by intro b;induction b with|nil=>intro aR P aK q c e;exact e|cons V b U=>rintro aR P aK q c ⟨row,l,b7,f,d,g,i⟩;exact⟨row,l,b7,f,λh a=>c h (d h a),g.K (λh a=>q h (d h a)) (λh a=>a),U (λh a=>q h a.1) (λh a=>⟨c h a.1,a.2⟩) i⟩
def lv.wide{X:bf}{j:B R}:∀{b:List GE}{aR:List (List y)}{P:Nat->Prop},lv X j P b aR->aR.length=b.length/\∀r∈aR,r.length=6:=by
 intro b;induction b with
 |nil=>rintro aR P rfl;simp
 |cons a b U=>
  rintro aR P ⟨l,m,b7,rfl,i,c,d⟩;obtain⟨f,g⟩:=U d;refine⟨by simp[f],λr I=> ?_⟩;rcases Zq.1 I with rfl|I
  ·exact c.len
  ·exact g r I
def lv.get{X:bf}{j:B R}:∀{b:List GE}{aR:List (List y)}{P:Nat->Prop},lv X j P b aR->∀(i:Nat) g,b[i]? =some g->∃row,aR[i]? =some row/\ir X j P g row:=by intro b;induction b with|nil=>intro aR P _ i g e;simp at e|cons a b U=>rintro aR P ⟨p,r,b7,rfl,m,c,d⟩ i g e;cases i with|zero=>simp at e;subst e;exact⟨p,rfl,c.K (λ_ _=>rfl) m⟩|succ i=>simp at e;obtain⟨row,f,l⟩:=U d i g e;exact⟨row,by simpa using f,l.K (λ_ _=>rfl) (λh n=>n.1)⟩
def kS.get{X:bf}{j:B R}:∀{b:List cS}{aR:List (List y)}{P:Nat->Prop},kS X j P b aR->∀(i:Nat) g,b[i]? =some g->∃row,aR[i]? =some row/\oF X j P g row:=by intro b;induction b with|nil=>intro aR P _ i g e;simp at e|cons a b U=>rintro aR P ⟨p,r,b7,rfl,m,c,d⟩ i g e;cases i with|zero=>simp at e;subst e;exact⟨p,rfl,c.K (λ_ _=>rfl) m⟩|succ i=>simp at e;obtain⟨row,f,l⟩:=U d i g e;exact⟨row,by simpa using f,l.K (λ_ _=>rfl) (λh n=>n.1)⟩
def ir.ei{X:bf}{j:B R}{P:Nat->Prop}{g:GE}{row:List y}(e:ir X j P g row):Go.aC.ei row=true:=by obtain⟨bK,bM,aB,i,bb,bn,bH,f,aR,rfl,a,b,c,d,_⟩:=e;simp[Go.aC.ei,(fU a.len).2.1,(fU b.len).2.1,(fU c.len).2.1,(fU d.len).2.1,show hV (.Z g.at_)=true from rfl,show hV (.str g.name)=true from rfl]
def iQ(X:bf)(j:B R)(P:Nat->Prop)(aa:List GE)(v:y):Prop:=∃b aB bz aR,v=.ptr b 0/\P b/\ay X j (.ptr b 0)=some aB/\ca X j P bz aB 6 aR/\lv X j P aa aR
def iQ.K{X:bf}{j S':B R}{P aK:Nat->Prop}{aa:List GE}{v:y}(e:iQ X j P aa v)(q:∀h,P h->F X S' h=F X j h)(a:∀h,P h->aK h):iQ X S' aK aa v:=by obtain⟨b,aB,bz,aR,rfl,c,d,f,g⟩:=e;exact⟨b,aB,bz,aR,rfl,a _ c,zV (q _ c) d,(f.K q).lift a,g.K q a⟩
def jL(X:bf)(j:B R):(Nat->Prop)->List GE->List (List y)->Prop
 |_,[],aR=>aR=[]|P,V::b,aR=>∃row a aK,aR=row::a/\(∀h,aK h->P h)/\oK X j aK V row/\jL X j (λh=>P h/\¬aK h) b a
def jL.K{X:bf}{j S':B R}:∀{b:List GE}{aR:List (List y)}{P aK:Nat->Prop}(q:∀h,P h->F X S' h=F X j h) (c:∀h,P h->aK h),jL X j P b aR->jL X S' aK b aR:=by intro b;induction b with|nil=>intro aR P aK q c e;exact e|cons V b U=>rintro aR P aK q c ⟨row,l,b7,f,d,g,i⟩;exact⟨row,l,b7,f,λh a=>c h (d h a),g.K (λh a=>q h (d h a)) (λh a=>a),U (λh a=>q h a.1) (λh a=>⟨c h a.1,a.2⟩) i⟩
def jL.snoc{X:bf}{j:B R}{aK:Nat->Prop}{V:GE}{row:List y}(e:oK X j aK V row):∀{f:List GE}{aR:List (List y)}{c P:Nat->Prop},jL X j c f aR->(∀h,c h->P h)->(∀h,aK h->P h/\¬c h)->jL X j P (f++[V]) (aR++[row]):=by
 intro f;induction f with
 |nil=>rintro aR c P rfl g d;exact⟨row,[],aK,rfl,λh b=>(d h b).1,e,rfl⟩
 |cons a f U=>rintro aR c P ⟨r,s,b7,rfl,i,l,m⟩ g d;exact⟨r,s++[row],b7,rfl,λh b=>g h (i h b),l,U m (λh b=>⟨g h b.1,b.2⟩) (λh b=>⟨⟨(d h b).1,λn=>(d h b).2 (i h n)⟩,λp=>(d h b).2 p.1⟩)⟩
def jL.wide{X:bf}{j:B R}:∀{b:List GE}{aR:List (List y)}{P:Nat->Prop},jL X j P b aR->aR.length=b.length/\∀r∈aR,r.length=6:=by
 intro b;induction b with
 |nil=>rintro aR P rfl;simp
 |cons a b U=>
  rintro aR P ⟨l,m,b7,rfl,i,c,d⟩;obtain⟨f,g⟩:=U d;refine⟨by simp[f],λr I=> ?_⟩;rcases Zq.1 I with rfl|I
  ·exact c.row.len
  ·exact g r I
def jL.nodes{X:bf}{j:B R}:∀{a:List GE}{aR:List (List y)}{P:Nat->Prop},jL X j P a aR->lv X j P a aR:=by intro a;induction a with|nil=>intro aR P e;exact e|cons V a U=>rintro aR P ⟨row,g,b7,b,f,c,d⟩;exact⟨row,g,b7,b,f,c.row,U d⟩
def p0(X:bf)(j:B R)(P:Nat->Prop)(aa:List GE)(v:y):Prop:=∃(S:Nat->Nat) (b:Nat) (aB:y) (bz:Nat) (aR:List (List y)),v=.ptr b 0/\(P b/\S b=1)/\ay X j (.ptr b 0)=some aB/\f2 X j (λh=>P h/\S h=2) bz aB 6 aR/\jL X j (λh=>P h/\S h=0) aa aR
def p0.prog{X:bf}{j:B R}{P:Nat->Prop}{aa:List GE}{v:y}(e:p0 X j P aa v):iQ X j P aa v:=by obtain⟨S,b,aB,bz,aR,rfl,a,c,d,f⟩:=e;exact⟨b,aB,bz,aR,rfl,a.1,c,d.rd.lift λ_ e=>e.1,f.nodes.K (λ_ _=>rfl) λ_ e=>e.1⟩
def p0.K{X:bf}{j S':B R}{P aK:Nat->Prop}{aa:List GE}{v:y}(e:p0 X j P aa v)(q:∀h,P h->F X S' h=F X j h)(d:∀h,P h->aK h):p0 X S' aK aa v:=by obtain⟨S,b,aB,bz,aR,rfl,c,f,g,i⟩:=e;exact⟨S,b,aB,bz,aR,rfl,⟨d _ c.1,c.2⟩,zV (q _ c.1) f,(g.K λh a=>q h a.1).lift λh a=>⟨d h a.1,a.2⟩,i.K (λh a=>q h a.1) λh a=>⟨d h a.1,a.2⟩⟩
def aar(UA:bW X)(UW:mF X){n:Nat}(V1:n<=170000)(Uh:aA.length<=100000)(T0:e3 X j k an ba aA i){r:Except Int (List GE×List Tok)}(I:nodes n [] (aA.drop i)=some r):
 az X 20 [.ptr an 0] j k (λM S' W=>∃aa w,r=.ok (aa,aA.drop w)/\p0 X S' (bR k W) aa M/\aj X S' an ba aA w/\bo X [an] j k S' W) (e9 X an j k r):=by
 refine z6 UA (Lo ..) ?_;unfold Da;have V0:=T0.aD;have Uu:=T0.eu;have Ut:=T0.bk;have Uv:=T0.eh;refine br ⟨?_⟩;have UG:F X (aI X j k (zO [.au] 1)) k=zO [.au] 1:=aJ Zo;have U9:aT X j k (aI X j k (zO [.au] 1)) (k+1):=b8;refine cG (λm z S' U5=>∃(aB:y) (aa:List GE) (aR:List (List y)) (aQ:List Nat) (w:Nat) (c:Bool),z.g 0=some (.ptr an 0)/\z.g 3=some (.ptr k 0)/\z.g 4=some (.bool c)/\F X S' k=zO [aB] 1/\cT X S' aB 6 aR.flatten aQ/\(∀h∈aQ,k+1<=h/\h<U5)/\jL X S' (mv (k+1) U5 aQ) aa aR/\aj X S' an ba aA w/\bo X [an] j k S' U5/\k+1<=U5/\aa.length+m<=n/\
  (if c then nodes m aa (aA.drop w)=some r else r=.ok (aa,aA.drop w)))
  n ⟨.au,[],[],[],i,true,av,av,av,UG,.inl (.inl ⟨rfl,rfl,rfl⟩),Zs,rfl,T0.par.ex U9 Zo Zo,bo.of U9,Zg _,Zs,I⟩ ?_
 clear I UG U9;rintro m z ah ar ⟨aB,aa,aR,aQ,UL,c,t0,t3,t4,U8,UD,v,U3,UB,U1,Uw,Uz,I⟩;cases c with
 |false=>simp only[ZA,ZJ]at I;subst I;refine bA @t4 @t3 ⟨?_⟩;have T8:=U3.wide;obtain⟨bz,Ue⟩:=UD.xi Zd T8.2 (by rw[T8.1];omega) (cX:=λh=>bR k ar h/\h∈aQ) (λh p=>by have:=v h p;exact⟨⟨Zo,Zo⟩,p⟩);exact⟨aa,UL,rfl,⟨λh=>if h=k then 1 else if h∈aQ then 2 else 0,k,aB,bz,aR,rfl,⟨⟨Zo,Zo⟩,Zu rfl⟩,by rw[aZ U8];rfl,Ue.lift λh p=>⟨p.1,(Zi (zK (v h p.2))).trans (Zu p.2)⟩,U3.K (λ_ _=>rfl) (λh p=>⟨⟨zK p.1,p.2.1⟩,(Zi (zK p.1)).trans (Zi p.2.2)⟩)⟩,UB,U1⟩
 |true=>
  simp only[ZK]at I;cases m with|zero=>simp[nodes]at I|succ m=>
  unfold nodes at I;have Ul:=T0.go UB U1.le;obtain⟨Uq,Ur,UP⟩:=cT.one UD;have Uj:ay X ah (.ptr k 0)=some aB:=by rw[aZ U8];rfl
  refine c9 @t4 @t3 @t0 @Uj ⟨?_⟩;have Uf:∃UF,Go.aj.node m (aA.drop UL)=some UF/\(match UF with
   | .error a=>r=.error a| .ok (V,l)=>(match l with
     |[]=>none|x::_=>if x.kind=7 then ok (aa++[V]) l else nodes m (aa++[V]) l)=some r):=by
   rcases dQ I with ⟨a,s,rfl⟩|⟨V,V3,s,I⟩
   ·exact⟨_,s,rfl⟩
   ·exact⟨_,s,I⟩
  obtain⟨UF,s,T9⟩:=Uf;clear I;have Um:=Ul.go (W:=ar+12) UB Zo;refine(Ts UA UW Zo Uh Um s).mono ?_ (λM S' W e=>by
   obtain⟨a,rfl,rfl,e⟩:=e;subst T9;exact⟨a,rfl,rfl,U1.trans (e.down Zo (λb T=> .inl T))⟩)
  rintro v3 C U6 ⟨g,i3,row,rfl,rfl,UC,UI,U2⟩;have Ux:=U2.le;have UV:bo X [an] j k C U6:=U1.trans (U2.down Zo (λb T=> .inl T));have Uc:=UC.row.len;have Ud:=UC.row.ei;obtain⟨T1,T2,T3,T4,T5,T6,rfl⟩:∃T1 T2 T3 T4 T5 T6,row=[T1,T2,T3,T4,T5,T6]:=by
   match row,Uc with
   |[a,b,c,d,u,f],_=>exact⟨a,b,c,d,u,f,rfl⟩
  have UH:F X C k=zO [aB] 1:=by rw[U2.K _ Zo Zx];exact U8
  have UM:∀h,k<=h->h<ar->F X C h=F X ah h:=λh s t=>U2.K h Zo Zx;have Uk:ay X C (.ptr k 0)=some aB:=by rw[aZ UH];rfl
  refine bh @Uk ⟨?_⟩;refine ed UP ?_;have Ug:f9 X (aI X C (ar+7) (zO [T1,T2,T3,T4,T5,T6] 6)) 6 (.slice (ar+7) 0 1 1)=some (1,[T1,T2,T3,T4,T5,T6]):=g6 (aJ Zo) (fS _) rfl _;have T8:=U3.wide;have Ua:=mb T8.2;obtain⟨UN,G,UO,UY,UK,T7,Ub⟩:=(UD.K (S':=aI X C (ar+7) (zO [T1,T2,T3,T4,T5,T6] 6)) (λh p=>by have:=v h p;rw[ag Zo Zo];exact UM h Zo Zo)).append (k:=U6) Zd Ug rfl Zd Ud (by rw[Ua,T8.1];simp only[ZI,ZU];omega) Zo (λh p=>zK (v h p));refine d7 UY ?_;obtain⟨UQ,UR,Us⟩:=en.one UK;have A:∀h,h<U6->h≠ar+7->h∉aQ->F X G h=F X C h:=λh s t UU=>by rw[Ub h Zo UU,ag Zo t]
  have bu:∀h,h<k+1->h∉aQ:=λh s t=>zK (v h t);have US:F X G k=zO [aB] 1:=by rw[A _ Zo Zo (bu _ Zo)];exact UH
  refine br ⟨?_⟩;refine dh (jE (J:=0) US Zo Zo UQ UR) ?_;refine bh @t0 ⟨?_⟩;have O:∀h,h≠k->∀bQ,F X (aI X G k bQ) h=F X G h:=λh e bQ=>ag Zo e;have V2:∀bQ,aj X (aI X G k bQ) an ba aA i3:=λbQ=>UI.K (by rw[O _ Zo,A _ Zo Zo (bu _ Zo)]) (by rw[O _ Zo,A _ Zo Zo (bu _ Zo)]);obtain⟨x,l,al,TY⟩:∃x l,aA.drop i3=x::l/\(if x.kind=7 then ok (aa++[g]) (aA.drop i3)else nodes m (aa++[g]) (aA.drop i3))=some r:=by cases al:aA.drop i3 with|nil=>rw[al]at T9;cases T9|cons x l=>rw[al]at T9;exact⟨x,l,rfl,T9⟩
  refine c6 (λTZ=>F X TZ k=zO [UN] 1/\(∀h,h≠k->F X TZ h=F X G h)) ⟨by rw[aJ Zo];rfl,λh e=>O h e _⟩ ?_;rintro TZ ⟨UT,O⟩;have UJ:aj X TZ an ba aA i3:=UI.K (by rw[O _ Zo,A _ Zo Zo (bu _ Zo)]) (by rw[O _ Zo,A _ Zo Zo (bu _ Zo)]);refine(kC UA Zo UJ Zo Zo (dq al).1).Zm ?_;rintro V4 P U7 ⟨rfl,U0⟩;have Uy:=U0.le;have U4:∀h,h≠k->h<U6+1->F X P h=F X G h:=λh s t=>by rw[U0.K h t,O h s]
  have fin:∀(L:bO) (c:Bool),L.g 0=some (.ptr an 0)->L.g 3=some (.ptr k 0)->L.g 4=some (.bool c)->(if c then nodes m (aa++[g]) (aA.drop i3)=some r else r=.ok (aa++[g],aA.drop i3))->∃UE,UE<m+1/\∃(aB:y) (aa:List GE) (aR:List (List y)) (aQ:List Nat) (w:Nat) (c:Bool),L.g 0=some (.ptr an 0)/\L.g 3=some (.ptr k 0)/\L.g 4=some (.bool c)/\F X P k=zO [aB] 1/\cT X P aB 6 aR.flatten aQ/\(∀h∈aQ,k+1<=h/\h<U7)/\jL X P (mv (k+1) U7 aQ) aa aR/\aj X P an ba aA w/\bo X [an] j k P U7/\k+1<=U7/\aa.length+UE<=n/\
   (if c then nodes UE aa (aA.drop w)=some r else r=.ok (aa,aA.drop w)):=by
   intro L c Un Uo Up UZ;refine⟨m,Zo,UN,aa++[g],aR++[[T1,T2,T3,T4,T5,T6]],UO,i3,c,Un,Uo,Up,by rw[U0.K _ Zo];exact UT,.inl ?_, ?_, ?_, ?_, ?_,Zo,Zx,UZ⟩
   ·rw[zx,YD,List.flatten_nil,ZW];exact UK.K λh p=>U4 h (by rcases T7 h p with rfl|e;omega;have:=v h e;omega) (by rcases T7 h p with rfl|e;omega;have:=v h e;omega)
   ·intro h p;rcases T7 h p with rfl|e
    ·omega
    ·have:=v h e;omega
   ·refine jL.snoc (UC.K (λh p=> ?_) (λh p=>p)) (U3.K (λh p=> ?_) (λh p=>p)) (λh p=> ?_) (λh p=>⟨?_,λUi=>by have:=p.1;have:=Ui.2.1;omega⟩)
    ·have s:=p.1;have t:=p.2;rw[U4 h Zo Zo,A h Zo Zo (λe=>zK (v h e))]
    ·have s:=p.1;have t:=p.2.1;rw[U4 h Zo Zo,A h Zo Zo p.2.2,UM h Zo Zo]
    ·have s:=p.1;have t:=p.2.1;refine⟨s,Zo,λe=> ?_⟩;rcases T7 h e with rfl|e
     ·omega
     ·exact p.2.2 e
    ·have s:=p.1;have t:=p.2;refine⟨Zo,Zo,λe=> ?_⟩;rcases T7 h e with rfl|e
     ·omega
     ·have:=v h e;omega
   ·exact UJ.ex U0 Zo Zo
   ·exact⟨Zo,λb T UX=>by rw[U4 b Zo Zo,A b Zo Zo (bu b Zo)];exact UV.K b T UX⟩
  by_cases N:x.kind=7
  ·rw[Zu N]at TY;simp only[ok,Zh]at TY;have d:decide (x.kind=7)=true:=(by simp[N]);refine bA bm.eq_1 @N ⟨?_⟩;exact fin _ false (Y t0) (Y t3) (cW) TY.symm
  ·rw[Zi N]at TY;have d:decide (x.kind=7)=false:=(by simp[N]);refine bA bm.eq_1 @N ⟨?_⟩;exact fin _ true (Y t0) (Y t3) (by refine o8 ⟨?_⟩;simp[N]) TY
end
end
end Go.Proofs.YtehmapikajmjaaaGreatDoor
