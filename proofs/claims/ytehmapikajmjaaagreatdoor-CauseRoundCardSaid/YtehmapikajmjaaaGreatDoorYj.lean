/- Part of the proof of the last text; no conditions -/
import Derived.Test.YtehmapikajmjaaaGreatDoorYi
set_option maxHeartbeats 8000000
set_option linter.all false
namespace Go.Proofs.YtehmapikajmjaaaGreatDoor
open Go.aF Go.ak
noncomputable section
def fu{v w:z}(h:c0 v=some w):v.cells=[v]/\hI v=true/\z.same 30 v v=true:=by cases v with|slice b I n c=>exact⟨rfl,rfl,by simp[z.same]⟩|cq b I n c=>exact⟨rfl,rfl,by simp[z.same]⟩|ax=>exact⟨rfl,rfl,rfl⟩|gf b I n c=>exact⟨rfl,rfl,by simp[z.same]⟩|_=>simp[c0]at h
def kS(X:bi)(q:E S):(Nat->Prop)->List cA->List (List z)->Prop
 |_,[],aR=>aR=[]|P,V::b,aR=>∃row a aI,aR=row::a/\(∀o,aI o->P o)/\oz X q aI V row/\kS X q (λo=>P o/\¬aI o) b a
def kS.M{X:bi}{q D:E S}:∀{b:List cA}{aR:List (List z)}{P aI:Nat->Prop}(k:∀o,P o->H X D o=H X q o) (c:∀o,P o->aI o),kS X q P b aR->kS X D aI b aR:=by intro b;induction b with|nil=>intro aR P aI k c h;exact h|cons V b U=>rintro aR P aI k c ⟨row,i,cK,e,d,f,g⟩;exact⟨row,i,cK,e,λo a=>c o (d o a),f.M (λo a=>k o (d o a)) (λo a=>a),U (λo a=>k o a.1) (λo a=>⟨c o a.1,a.2⟩) g⟩
def oz.len{X:bi}{q:E S}{P:Nat->Prop}{V:cA}{row:List z}(h:oz X q P V row):row.length=4:=by obtain⟨_,_,_,_,_,rfl,_⟩:=h;rfl
def kS.wide{X:bi}{q:E S}:∀{b:List cA}{aR:List (List z)}{P:Nat->Prop},kS X q P b aR->aR.length=b.length/\∀r∈aR,r.length=4:=by
 intro b;induction b with
 |nil=>rintro aR P rfl;simp
 |cons a b U=>
  rintro aR P ⟨h,i,cK,rfl,g,c,d⟩;obtain⟨e,f⟩:=U d;refine⟨by simp[e],λr K=> ?_⟩;rcases Zq.1 K with rfl|K
  ·exact c.len
  ·exact f r K
def kk(X:bi)(q:E S):(Nat->Prop)->List cA->List (List z)->Prop
 |_,[],aR=>aR=[]|P,V::b,aR=>∃row a aI,aR=row::a/\(∀o,aI o->P o)/\oA X q aI V row/\kk X q (λo=>P o/\¬aI o) b a
def kk.M{X:bi}{q D:E S}:∀{b:List cA}{aR:List (List z)}{P aI:Nat->Prop}(k:∀o,P o->H X D o=H X q o) (c:∀o,P o->aI o),kk X q P b aR->kk X D aI b aR:=by intro b;induction b with|nil=>intro aR P aI k c h;exact h|cons V b U=>rintro aR P aI k c ⟨row,i,cK,e,d,f,g⟩;exact⟨row,i,cK,e,λo a=>c o (d o a),f.M (λo a=>k o (d o a)) (λo a=>a),U (λo a=>k o a.1) (λo a=>⟨c o a.1,a.2⟩) g⟩
def kk.snoc{X:bi}{q:E S}{aI:Nat->Prop}{V:cA}{row:List z}(h:oA X q aI V row):∀{e:List cA}{aR:List (List z)}{c P:Nat->Prop},kk X q c e aR->(∀o,c o->P o)->(∀o,aI o->P o/\¬c o)->kk X q P (e++[V]) (aR++[row]):=by
 intro e;induction e with
 |nil=>rintro aR c P rfl f d;exact⟨row,[],aI,rfl,λo b=>(d o b).1,h,rfl⟩
 |cons a e U=>rintro aR c P ⟨m,n,cK,rfl,g,i,j⟩ f d;exact⟨m,n++[row],cK,rfl,λo b=>f o (g o b),i,U j (λo b=>⟨f o b.1,b.2⟩) (λo b=>⟨⟨(d o b).1,λk=>(d o b).2 (g o k)⟩,λl=>(d o b).2 l.1⟩)⟩
def kk.wide{X:bi}{q:E S}:∀{b:List cA}{aR:List (List z)}{P:Nat->Prop},kk X q P b aR->aR.length=b.length/\∀r∈aR,r.length=4:=by
 intro b;induction b with
 |nil=>rintro aR P rfl;simp
 |cons a b U=>
  rintro aR P ⟨h,i,cK,rfl,g,c,d⟩;obtain⟨e,f⟩:=U d;refine⟨by simp[e],λr K=> ?_⟩;rcases Zq.1 K with rfl|K
  ·exact c.row.len
  ·exact f r K
def kk.eqs{X:bi}{q:E S}:∀{a:List cA}{aR:List (List z)}{P:Nat->Prop},kk X q P a aR->kS X q P a aR:=by intro a;induction a with|nil=>intro aR P h;exact h|cons V a U=>rintro aR P ⟨row,f,cK,b,e,c,d⟩;exact⟨row,f,cK,b,e,c.row,U d⟩
def iO(X:bi)(q:E S)(P:Nat->Prop)(g:GT)(row:List z):Prop:=∃bK bO aE a bc bp bG b aR,row=[.str g.name,.Z g.at_,bK,bO,aE,a]/\cl X q P bc bK 8 (g.cm.map cQ)/\cl X q P bp bO 8 (g.out.map cQ)/\cl X q P bG aE 8 (g.loc.map cQ)/\cl X q P b a 4 aR/\kS X q P g.eqs aR
def oF(X:bi)(q:E S)(P:Nat->Prop)(g:GT)(row:List z):Prop:=∃(T:Nat->Nat) (bK bO aE a:z) (bc bp bG b:Nat) (aR:List (List z)),row=[.str g.name,.Z g.at_,bK,bO,aE,a]/\f8 X q (λo=>P o/\T o=1) bc bK 8 (g.cm.map cQ)/\f8 X q (λo=>P o/\T o=2) bp bO 8 (g.out.map cQ)/\f8 X q (λo=>P o/\T o=3) bG aE 8 (g.loc.map cQ)/\f8 X q (λo=>P o/\T o=4) b a 4 aR/\kk X q (λo=>P o/\T o=0) g.eqs aR
def oF.row{X:bi}{q:E S}{P:Nat->Prop}{g:GT}{row:List z}(h:oF X q P g row):iO X q P g row:=by obtain⟨T,bK,bO,aE,j,bc,bp,bG,a,aR,e,b,c,d,f,i⟩:=h;exact⟨bK,bO,aE,j,bc,bp,bG,a,aR,e,b.rd.lift λ_ h=>h.1,c.rd.lift λ_ h=>h.1,d.rd.lift λ_ h=>h.1,f.rd.lift λ_ h=>h.1,i.eqs.M (λ_ _=>rfl) λ_ h=>h.1⟩
def oF.M{X:bi}{q D:E S}{P aI:Nat->Prop}{g:GT}{row:List z}(h:oF X q P g row)(k:∀o,P o->H X D o=H X q o)(p:∀o,P o->aI o):oF X D aI g row:=by obtain⟨T,bK,bO,aE,r,bc,bp,bG,d,aR,e,f,j,l,m,n⟩:=h;have a:∀i o,P o/\T o=i->H X D o=H X q o:=λi o c=>k o c.1;have b:∀i o,P o/\T o=i->aI o/\T o=i:=λi o c=>⟨p o c.1,c.2⟩;exact⟨T,bK,bO,aE,r,bc,bp,bG,d,aR,e,(f.M (a 1)).lift (b 1),(j.M (a 2)).lift (b 2),(l.M (a 3)).lift (b 3),(m.M (a 4)).lift (b 4),n.M (a 0) (b 0)⟩
structure ly(X:bi)(q:E S)(n bR:Nat)(nm:aA)(a:Int)(bK bO aE:z)(cm out loc:List cG):Prop where
 gr:H X q bR=zP [.str nm,.Z a,bK,bO,aE,.ax] 6
 lt:bR<n
 xA:∃b c d bc bp bG,bR+1<=b/\b<=c/\c<=d/\d<=n/\f8 X q (b2 (bR+1) b) bc bK 8 (cm.map cQ)/\f8 X q (b2 b c) bp bO 8 (out.map cQ)/\f8 X q (b2 c d) bG aE 8 (loc.map cQ)
def ly.M{X:bi}{q D:E S}{n c bR:Nat}{nm:aA}{a:Int}{bK bO aE:z}{cm out loc:List cG}(h:ly X q n bR nm a bK bO aE cm out loc)(k:∀o,bR<=o->o<n->H X D o=H X q o)(r:n<=c):ly X D c bR nm a bK bO aE cm out loc:=by obtain⟨g,i,j,bc,bp,bG,l,m,p,s,d,e,f⟩:=h.xA;exact⟨by rw[k bR (Zg _) h.lt];exact h.gr,zL h.lt,g,i,j,bc,bp,bG,l,m,p,Zo,d.M λo b=>k o (zL b.1) (zL b.2),e.M λo b=>k o (zL b.1) (zL b.2),f.M λo b=>k o (zL b.1) (zL b.2)⟩
section
variable{X:bi}{q D au am:E S}{u Z ap aw an bd:Nat}{az:List Tok}{i:Nat}
def ly.fr{n c bR:Nat}{nm:aA}{a:Int}{bK bO aE:z}{cm out loc:List cG}(h:ly X q n bR nm a bK bO aE cm out loc)(b:br X [an] q n D c)(W:an<bR):ly X D c bR nm a bK bO aE cm out loc:=
 h.M (λo e d=>b.M o d Zx) b.le
def adf{b c:aA}{l:List Tok}:kI [b,c] en l=andThen (ce b l) λ_ l=>ce c l:=by simp only[kI];cases h:ce b l with|none=>rfl|some r=>cases r with|error a=>rfl|ok p=>obtain⟨x,d⟩:=p;simp only[andThen];cases ce c d with|none=>rfl|some e=>cases e with|error a=>rfl|ok p=>obtain⟨o,f⟩:=p;rfl
def Tu(A:bZ X)(XM:mD X){n:Nat}(jac:n<=200000)(UV:az.length<=100000)(G:e6 X q u an bd az i){r:Except Int (GT×List Tok)}(K:Go.ak.node n (az.drop i)=some r):
 aD X 41 [.ptr an 0] q u (λR D Z=>∃g L row,r=.ok (g,az.drop L)/\R=.agg row/\oF X D (b2 u Z) g row/\ak X D an bd az L/\br X [an] q u D Z) (fg X an q u r):=by
 refine Fd A (LX ..) ?_;unfold DH;have jab:=G.aB;have δ:=G.ev;have γ:=G.bn;have ε:=G.ej;unfold Go.ak.node at K;refine bx ⟨?_⟩;refine c7 (λau=>H X au (u+1)=zP [.str [110,111,100,101]] 1/\H X au u=zP [.str [],.Z 0,.ax,.ax,.ax,.ax] 6/\aU X q u au (u+1+1)) ⟨aM Zo,by exact z6,cf⟩ ?_;rintro au ⟨Y,WG,VZ⟩;have Vz:=G.go (G.par.ex VZ Zo Zo) (by omega:u<=u+1+1);have Vb:br X [an] q u au (u+1+1):=br.of VZ;rcases dO K with ⟨a,p,rfl⟩|⟨Xy,Vt,p,K⟩
 ·exact(fH A Vz Zo Zo Y p).mono zZ (λR D Z h=>h.of Vb (λ_ h=>by cases h;rfl))
 refine(fH A Vz Zo Zo Y p).mono ?_ zY;clear p;rintro jaC am aw ⟨jaL,Wq,XR,_,Wc,V5⟩;cases XR;have ξ:=V5.le;have V6:=Vb.trans V5;have WL:H X am u=zP [.str [],.Z 0,.ax,.ax,.ax,.ax] 6:=by rw[V5.M _ Zo Zx];exact WG
 have UI:=G.go Wc V6.le;clear Y WG VZ Vz Vb V5;cases VB:az.drop Wq with|nil=>rw[VB]at K;simp[ew,andThen]at K|cons x jap=>
 rw[VB]at K;simp only[ew]at K;refine(pv A UI.aB UI.par UI.bn UI.ev UI.ej UI.many (dt VB).1 1).mono ?_ (λjax W9 Xm h=>by
  obtain⟨Vk,rfl,UC⟩:=h;rw[Zi Vk]at K;simp only[andThen,bad,Zh]at K;subst K;exact⟨_,rfl,rfl,V6.trans UC⟩)
 rintro Xw W8 t ⟨Vk,rfl,Wd,V7⟩;have π:=V7.le;rw[Zv Vk]at K;simp only[andThen,ok]at K;rw[<-(dt VB).2]at K;have WM:H X W8 u=zP [.str [],.Z 0,.ax,.ax,.ax,.ax] 6:=by rw[V7.M _ Zo Zx];exact WL
 have WV:=V6.trans V7;clear WL V7 V6 Wc UI;refine bo bq.eq_1 ⟨?_⟩;refine c7 (λUc=>H X Uc (t+1+1)=zP [.str [40]] 1/\ly X Uc (t+1+1+1) (t+1) x.text x.at_ .ax .ax .ax [] [] []/\aU X W8 t Uc (t+1+1+1)) ⟨aM Zo,⟨by exact z6,Zo,t+1+1,t+1+1,t+1+1,0,0,0,Zg _,Zg _,Zg _,Zo,f8.nil _ _,f8.nil _ _,f8.nil _ _⟩,cf⟩ ?_;rintro Uc ⟨VX,Wy,V3⟩;have WN:H X Uc u=zP [.str [],.Z 0,.ax,.ax,.ax,.ax] 6:=by rw[V3.M _ Zo];exact WM
 have Vg:=WV.trans (br.of V3);have W1:=G.go (Wd.ex V3 Zo Zo) (by omega:u<=t+1+1+1);clear WM WV Wd V3;change andThen (ce [40] (az.drop (Wq+1))) _=some r at K;rcases dO K with ⟨a,p,rfl⟩|⟨Xy,Vt,p,K⟩
 ·exact(fH A W1 Zo Zo VX p).mono zZ (λR D Z h=>h.of Vg (λ_ h=>by cases h;rfl))
 refine(fH A W1 Zo Zo VX p).mono ?_ zY;clear p;rintro v5 W9 Xm ⟨jaM,i5,XS,_,We,UC⟩;cases XS;have ρ:=UC.le;have Wz:=Wy.fr UC Zo;have WO:H X W9 u=zP [.str [],.Z 0,.ax,.ax,.ax,.ax] 6:=by rw[UC.M _ Zo Zx];exact WN
 have Vh:=Vg.trans UC;have X2:=G.go We Vh.le;clear Wy WN Vg UC VX W1;obtain⟨o,jaq,WZ,Wn⟩:=kd K;refine(ij A X2 WZ _).Zm ?_;rintro jay WA Vx ⟨rfl,U6,Um⟩;have σ:=Um.le;have VM:=Wz.fr Um Zo;have V0:H X WA u=zP [.str [],.Z 0,.ax,.ax,.ax,.ax] 6:=by rw[Um.M _ Zo Zx];exact WO
 have V8:=Vh.trans Um;clear Wz WO Vh Um We X2;refine js bq.eq_1 ⟨?_⟩;refine eO (λB D T7=>∃(bK:z) (cm:List cG) (L:Nat),B.g 0=some (.ptr an 0)/\B.g 2=some (.ptr u 0)/\B.g 4=some (.ptr (t+1) 0)/\ly X D T7 (t+1) x.text x.at_ bK .ax .ax cm [] []/\H X D u=zP [.str [],.Z 0,.ax,.ax,.ax,.ax] 6/\ak X D an bd az L/\br X [an] q u D T7/\
  (andThen (ce [114,101,116,117,114,110,115] (az.drop L)) λ_ l=>andThen (ce [40] l) λ_ l=>andThen (ep n false [] l) λout l=>andThen (ce [41] l) λ_ l=>
   el [118,97,114] l λo l=>andThen (match o with
    |some _=>andThen (ep n true [] l) λbb l=>andThen (ce [59] l) λ_ l=>ok bb l|none=>ok [] l) λloc l=>
   andThen (ce [108,101,116] l) λ_ l=>andThen (fJ n [] l) λC l=>ok (⟨x.text,x.at_,cm,out,loc,C⟩:GT) l)=some r) (λj Un=> ?_) ?_
 ·rcases Wn with ⟨T4,K⟩|⟨T4,K⟩
  ·rw[T4]at U6 ⊢;simp only[ZL]at U6 ⊢;rw[<-(dt WZ).2]at K;simp only[andThen,ok]at K;refine bo bq.eq_1 ⟨?_⟩;refine Un _ _ _ ⟨.ax,[],i5+1,aC,aC,aC,VM.M (λo s p=>zR) Zo,by simp(disch:=omega) only[ah];exact V0,U6.M (zR) (zR), ?_,K⟩;exact⟨Zo,λb W N=>by rw[<-V8.M b W N];exact zR⟩
  ·rw[T4]at U6 ⊢;simp only[ZA,ZJ]at U6 ⊢;simp only[]at K;refine bE bq.eq_1 en.eq_1 ⟨?_⟩;refine c7 (λUd=>aU X WA Vx Ud (Vx+1)) cf ?_;intro Ud Uh;have UH:=VM.fr (br.of (X:=[an]) Uh) Zo;have V1:H X Ud u=zP [.str [],.Z 0,.ax,.ax,.ax,.ax] 6:=(by rw[Uh.M _ Zo];exact V0);have UR:=V8.trans (br.of Uh);have W2:=G.go (U6.ex Uh Zo Zo) (by omega:u<=Vx+1);clear VM V0 V8 U6 Uh;rcases dO K with ⟨a,ag,rfl⟩|⟨cm,Xk,ag,K⟩
   ·rcases dO ag with ⟨TY,p,w⟩|⟨bb,Vu,p,ag⟩
    ·cases w;exact(sw A UV W2 p).mono (λR D Z h=>by obtain⟨e,L,b,h,_⟩:=h;cases h) (λR D Z h=>h.of UR (λ_ h=>by cases h;rfl))
    refine(sw A UV W2 p).mono ?_ zY;rintro VN P T5 ⟨XB,i8,WB,Vj,UD,Vo,T0⟩;cases Vj;have XV:=T0.le;have UY:=UH.fr T0 Zo;obtain⟨dH,gd,X0⟩:=fu UD.rd.len;refine bx ⟨?_⟩;have VU:=UY.gr;refine dg (jF (I:=2) VU Zo Zo dH gd) ?_;refine bx ⟨?_⟩;refine c7 (λO=>H X O T5=zP [.str [41]] 1/\∀o,o<T5->o≠(t+1)->H X O o=H X P o) ⟨aM Zo,λo s p=>zR⟩ ?_;rintro O ⟨VY,U2⟩;have UT:=Vo.M (U2 _ Zo Zo) (U2 _ Zo Zo);have U1:br X [an] q u O (T5+1):=⟨Zo,λb W N=>by rw[U2 b Zo Zo];exact(UR.trans T0).M b W N⟩;rcases dO ag with ⟨TY,v,TZ⟩|⟨VO,Vv,v,ag⟩
    ·cases TZ;exact(fH A (G.go UT Zo) Zo Zo VY v).mono zZ (λR D Z h=>h.of U1 (λ_ h=>by cases h;rfl))
    ·cases ag
   ·rcases dO ag with ⟨TY,p,w⟩|⟨bb,Vu,p,ag⟩
    ·cases w
    refine(sw A UV W2 p).mono ?_ zY;rintro VN P T5 ⟨XB,i8,WB,Vj,UD,Vo,T0⟩;cases Vj;have XV:=T0.le;have UY:=UH.fr T0 Zo;obtain⟨dH,gd,X0⟩:=fu UD.rd.len;refine bx ⟨?_⟩;have VU:=UY.gr;refine dg (jF (I:=2) VU Zo Zo dH gd) ?_;refine bx ⟨?_⟩;refine c7 (λO=>H X O T5=zP [.str [41]] 1/\H X O (t+1)=zP [.str x.text,.Z x.at_,VN,.ax,.ax,.ax] 6/\∀o,o<T5->o≠(t+1)->H X O o=H X P o) ⟨aM Zo,by rw[ah Zo Zo,aM Zo];rfl,λo s p=>zR⟩ ?_;rintro O ⟨VY,XH,U2⟩;have UT:=Vo.M (U2 _ Zo Zo) (U2 _ Zo Zo);have U1:br X [an] q u O (T5+1):=⟨Zo,λb W N=>by rw[U2 b Zo Zo];exact(UR.trans T0).M b W N⟩;have jad:=UH.lt;have UZ:ly X O (T5+1) (t+1) x.text x.at_ VN .ax .ax _ [] []:=⟨XH,Zo,T5,T5,T5,WB,0,0,Zo,Zg _,Zg _,Zo,(UD.M (λo f=>U2 o f.2 (zL f.1))).lift (λo f=>⟨zL f.1,zL f.2⟩),f8.nil _ _,f8.nil _ _⟩;have V2:H X O u=zP [.str [],.Z 0,.ax,.ax,.ax,.ax] 6:=(by rw[U2 _ Zo Zo,T0.M _ Zo Zx];exact V1);rcases dO ag with ⟨TY,v,TZ⟩|⟨VO,Vv,v,ag⟩
    ·cases TZ
    refine(fH A (G.go UT Zo) Zo Zo VY v).mono ?_ zY;rintro T1 VP UF ⟨jaF,Wo,Vi,_,VC,T6⟩;cases Vi;cases ag;exact Un _ _ _ ⟨VN,_,Wo,aC,aC,aC,UZ.fr T6 Zo,by rw[T6.M _ Zo Zx];exact V2,VC,U1.trans T6,K⟩
 ·clear Wn U6 VM V0 V8 K;rintro B Ud UG ⟨bK,cm,Xh,t0,T9,t4,UH,V1,Wf,UR,K⟩;have ψ:=UH.lt;refine bo @t0 ⟨?_⟩;refine c7 (λP=>H X P UG=zP [.str [114,101,116,117,114,110,115],.str [40]] 2/\aU X Ud UG P (UG+1)) ⟨aM Zo,cf⟩ ?_;rintro P ⟨WQ,Ui⟩;have UY:=UH.fr (br.of (X:=[an]) Ui) Zo;have WP:H X P u=zP [.str [],.Z 0,.ax,.ax,.ax,.ax] 6:=by rw[Ui.M _ Zo];exact V1
  have T0:=UR.trans (br.of Ui);have UJ:=G.go (Wf.ex Ui Zo Zo) (by omega:u<=UG+1);clear UH V1 UR Wf Ui;have UD:cl X P (λo=>o=UG) UG (.slice UG 0 2 2) 1 (dh [[114,101,116,117,114,110,115],[40]]):=u4 (aR:=[[.str [114,101,116,117,114,110,115]],[.str [40]]]) (st:=.own) WQ rfl Zs Zd rfl;have VG:∃UO,kI [[114,101,116,117,114,110,115],[40]] en (az.drop Xh)=some UO/\andThen (some UO) (λ(_:Tok) l=>andThen (ep n false [] l) λout l=>andThen (ce [41] l) λ_ l=>
   el [118,97,114] l λo l=>andThen (match o with
    |some _=>andThen (ep n true [] l) λbb l=>andThen (ce [59] l) λ_ l=>ok bb l|none=>ok [] l) λloc l=>
   andThen (ce [108,101,116] l) λ_ l=>andThen (fJ n [] l) λC l=>ok (⟨x.text,x.at_,cm,out,loc,C⟩:GT) l)=some r:=by
   rw[adf];rcases dO K with ⟨a,s,rfl⟩|⟨aL,bw,s,K⟩
   ·exact⟨.error a,by rw[s];rfl,rfl⟩
   ·rcases dO K with ⟨a,p,rfl⟩|⟨bt,Vt,p,K⟩
    ·exact⟨.error a,by rw[s];exact p,rfl⟩
    ·exact⟨.ok (bt,Vt),by rw[s];exact p,K⟩
  clear K;obtain⟨UO,VG,K⟩:=VG;refine(IL A UJ.aB UJ.par UJ.bn UJ.ev UJ.ej UJ.many Zo Zo UD VG).mono ?_ (λR D Z h=>by
   obtain⟨a,rfl,rfl,h⟩:=h;simp only[andThen,Zh]at K;subst K;exact⟨a,rfl,rfl,T0.trans h⟩)
  rintro v9 O jas ⟨VO,i9,rfl,_,UT,U1⟩;change andThen (ep n false [] (az.drop i9)) _=some r at K;have τ:=U1.le;have UZ:=UY.fr U1 Zo;have V2:H X O u=zP [.str [],.Z 0,.ax,.ax,.ax,.ax] 6:=by rw[U1.M _ Zo Zx];exact WP
  have V9:=T0.trans U1;have W3:=G.go UT V9.le;clear UY WP T0 U1 UD WQ UJ VG UT;refine bo @t0 ⟨?_⟩;rcases dO K with ⟨a,p,rfl⟩|⟨out,jak,p,K⟩
  ·exact(sw A UV W3 p).mono (λR D Z h=>by obtain⟨e,L,b,h,_⟩:=h;cases h) (λR D Z h=>h.of V9 (λ_ h=>by cases h;rfl))
  refine(sw A UV W3 p).mono ?_ zY;clear p;rintro T1 VP UF ⟨out,Wo,X6,Vi,Vp,VC,T6⟩;cases Vi;have ζ:=T6.le;have Ww:=UZ.fr T6 Zo;have WH:H X VP u=zP [.str [],.Z 0,.ax,.ax,.ax,.ax] 6:=by rw[T6.M _ Zo Zx];exact V2
  have WR:=V9.trans T6;obtain⟨dH,gd,X0⟩:=fu Vp.rd.len;have ω:=UZ.lt;refine bo @t4 ⟨?_⟩;refine dg (jF (I:=3) Ww.gr Zo Zo dH gd) ?_;refine bo @t0 ⟨?_⟩;refine c7 (λT2=>H X T2 UF=zP [.str [41]] 1/\H X T2 (t+1)=zP [.str x.text,.Z x.at_,bK,T1,.ax,.ax] 6/\∀o,o<UF->o≠t+1->H X T2 o=H X VP o) ⟨aM Zo,by rw[ah Zo Zo,aM Zo];rfl,λo s p=>zR⟩ ?_;rintro T2 ⟨VV,WE,UE⟩;have Vm:=VC.M (UE _ Zo Zo) (UE _ Zo Zo);have Vc:br X [an] q u T2 (UF+1):=⟨Zo,λb W N=>by rw[UE b Zo Zo];exact WR.M b W N⟩;have Wx:ly X T2 (UF+1) (t+1) x.text x.at_ bK T1 .ax cm out []:=by obtain⟨Vw,Wu,Xl,Ue,_,_,W4,X3,Xs,Xt,UU,_,_⟩:=UZ.xA;exact⟨WE,Zo,Vw,UF,UF,Ue,X6,0,W4,Zo,Zg _,Zo,UU.M (λo f=>by have:=f.1;have:=f.2;rw[UE o Zo Zo,T6.M o Zo Zx]),(Vp.M (λo f=>UE o f.2 (zL f.1))).lift (λo f=>⟨zL f.1,zL f.2⟩),f8.nil _ _⟩
  have WI:H X T2 u=zP [.str [],.Z 0,.ax,.ax,.ax,.ax] 6:=by rw[UE _ Zo Zo];exact WH
  clear UZ Ww V2 WH V9 T6 WR Vp VC UE WE W3;rcases dO K with ⟨a,v,rfl⟩|⟨jaG,jal,v,K⟩
  ·exact(fH A (G.go Vm Zo) Zo Zo VV v).mono zZ (λR D Z h=>h.of Vc (λ_ h=>by cases h;rfl))
  refine(fH A (G.go Vm Zo) Zo Zo VV v).mono ?_ zY;clear v;rintro jaz X5 jar ⟨jaH,Wp,XP,_,Wa,Uj⟩;cases XP;have η:=Uj.le;have Vy:=Wx.fr Uj Zo;have WJ:H X X5 u=zP [.str [],.Z 0,.ax,.ax,.ax,.ax] 6:=by rw[Uj.M _ Zo Zx];exact WI
  have Vd:=Vc.trans Uj;have X1:=G.go Wa Vd.le;clear Wx WI Vc Uj Vm VV Wa;refine bo @t0 ⟨?_⟩;obtain⟨o,jam,WX,Wm⟩:=kd K;refine(ij A X1 WX _).Zm ?_;rintro jav W7 VI ⟨rfl,U5,Uk⟩;have θ:=Uk.le;have VK:=Vy.fr Uk Zo;have Uw:H X W7 u=zP [.str [],.Z 0,.ax,.ax,.ax,.ax] 6:=by rw[Uk.M _ Zo Zx];exact WJ
  have V4:=Vd.trans Uk;have υ:=Vy.lt;clear Vy WJ Vd Uk X1 K;refine js bq.eq_1 ⟨?_⟩;refine eO (λB D T7=>∃(aE:z) (loc:List cG) (L:Nat),B.g 0=some (.ptr an 0)/\B.g 2=some (.ptr u 0)/\B.g 4=some (.ptr (t+1) 0)/\ly X D T7 (t+1) x.text x.at_ bK T1 aE cm out loc/\H X D u=zP [.str [],.Z 0,.ax,.ax,.ax,.ax] 6/\ak X D an bd az L/\br X [an] q u D T7/\
   (andThen (ce [108,101,116] (az.drop L)) λ_ l=>andThen (fJ n [] l) λC l=>ok (⟨x.text,x.at_,cm,out,loc,C⟩:GT) l)=some r) (λj Un=> ?_) ?_
  ·rcases Wm with ⟨T4,K⟩|⟨T4,K⟩
   ·rw[T4]at U5 ⊢;simp only[ZL]at U5 ⊢;rw[<-(dt WX).2]at K;simp only[]at K;refine bE bq.eq_1 @t0 ⟨?_⟩;refine c7 (λUP=>aU X W7 VI UP (VI+1)) cf ?_;intro UP Uf;have UX:=VK.fr (br.of (X:=[an]) Uf) Zo;have Ux:H X UP u=zP [.str [],.Z 0,.ax,.ax,.ax,.ax] 6:=(by rw[Uf.M _ Zo];exact Uw);have Ul:=V4.trans (br.of Uf);have Xp:=G.go (U5.ex Uf Zo Zo) (by omega:u<=VI+1);clear VK Uw V4 U5 Uf;have XO:∃rd,ep n true [] (az.drop (Wp+1))=some rd/\(match rd with
     | .error a=>r=.error a| .ok (bb,l)=>∃UO,ce [59] l=some UO/\(match UO with
       | .error a=>r=.error a| .ok (_,l)=>(andThen (ce [108,101,116] l) λ_ l=>andThen (fJ n [] l) λC l=>ok (⟨x.text,x.at_,cm,out,bb,C⟩:GT) l)=some r)):=by
     rcases dO K with ⟨a,ag,rfl⟩|⟨loc,Xk,ag,K⟩
     ·rcases dO ag with ⟨TY,p,w⟩|⟨bb,Vu,p,ag⟩
      ·cases w;exact⟨_,p,rfl⟩
      ·rcases dO ag with ⟨TY,v,TZ⟩|⟨VO,Vv,v,ag⟩
       ·cases TZ;exact⟨_,p,_,v,rfl⟩
       ·cases ag
     ·rcases dO ag with ⟨TY,p,w⟩|⟨bb,Vu,p,ag⟩
      ·cases w
      ·rcases dO ag with ⟨TY,v,TZ⟩|⟨VO,Vv,v,ag⟩
       ·cases TZ
       ·cases ag;exact⟨_,p,_,v,K⟩
    obtain⟨rd,p,Wi⟩:=XO;refine(sw A UV Xp p).mono ?_ (λR D Z h=>by
     obtain⟨a,rfl,rfl,h⟩:=h;subst Wi;exact⟨a,rfl,rfl,Ul.trans h⟩)
    rintro W6 Uu Ur ⟨bb,jaj,X7,rfl,Wh,XX,U0⟩;obtain⟨UO,v,Wk⟩:=Wi;have ι:=U0.le;have VL:=UX.fr U0 Zo;have Uy:H X Uu u=zP [.str [],.Z 0,.ax,.ax,.ax,.ax] 6:=(by rw[U0.M _ Zo Zx];exact Ux);have XK:=Ul.trans U0;obtain⟨Xn,Xo,jat⟩:=fu Wh.rd.len;refine bo @t4 ⟨?_⟩;refine dg (jF (I:=4) VL.gr Zo Zo Xn Xo) ?_;refine bo @t0 ⟨?_⟩;refine c7 (λT2=>H X T2 Ur=zP [.str [59]] 1/\H X T2 (t+1)=zP [.str x.text,.Z x.at_,bK,T1,W6,.ax] 6/\∀o,o<Ur->o≠t+1->H X T2 o=H X Uu o) ⟨aM Zo,by rw[ah Zo Zo,aM Zo];rfl,λo s p=>zR⟩ ?_;rintro U3 ⟨XJ,XF,UW⟩;have VD:=XX.M (UW _ Zo Zo) (UW _ Zo Zo);have U4:br X [an] q u U3 (Ur+1):=⟨Zo,λb W N=>by rw[UW b Zo Zo];exact XK.M b W N⟩;have Ut:ly X U3 (Ur+1) (t+1) x.text x.at_ bK T1 W6 cm out bb:=(by obtain⟨Vw,Wu,Xl,Ue,VR,_,W4,X3,Xs,Xt,UU,e1,_⟩:=UX.xA;have Wr:∀o,t+1<o->o<VI+1->H X U3 o=H X UP o:=λo s p=>(by rw[UW o Zo Zo,U0.M o Zo Zx]);exact⟨XF,Zo,Vw,Wu,Ur,Ue,VR,X7,W4,X3,Zo,Zo,UU.M (λo f=>Wr o (zL f.1) (zL f.2)),e1.M (λo f=>Wr o (zL f.1) (zL f.2)),(Wh.M (λo f=>UW o f.2 (zL f.1))).lift (λo f=>⟨zL f.1,zL f.2⟩)⟩);have Uz:H X U3 u=zP [.str [],.Z 0,.ax,.ax,.ax,.ax] 6:=(by rw[UW _ Zo Zo];exact Uy);refine(fH A (G.go VD Zo) Zo Zo XJ v).mono ?_ (λR D Z h=>by
     obtain⟨a,rfl,rfl,h⟩:=h;subst Wk;exact⟨a,rfl,rfl,U4.trans h⟩)
    rintro jaB Ua Us ⟨jaK,U7,rfl,_,Vn,UQ⟩;exact Un _ _ _ ⟨W6,bb,U7,af t0,af T9,af t4,Ut.fr UQ Zo,by rw[UQ.M _ Zo Zx];exact Uz,Vn,U4.trans UQ,Wk⟩
   ·rw[T4]at U5 ⊢;simp only[ZA,ZJ]at U5 ⊢;simp only[andThen,ok]at K;refine bE bq.eq_1 en.eq_1 ⟨?_⟩;refine Un _ _ _ ⟨.ax,[],Wp,af t0,af T9,af t4,VK.M (λo s p=>zR) Zo,by simp(disch:=omega) only[ah];exact Uw,U5.M (zR) (zR), ?_,K⟩;exact⟨Zo,λb W N=>by rw[<-V4.M b W N];exact zR⟩
  ·clear Wm U5 VK Uw V4 t0 T9 t4;rintro B UP VJ ⟨aE,loc,jai,t0,T9,t4,UX,Ux,Wb,Ul,K⟩;have φ:=UX.lt;refine bo @t0 ⟨?_⟩;refine c7 (λP=>H X P VJ=zP [.str [108,101,116]] 1/\aU X UP VJ P (VJ+1)) ⟨aM Zo,cf⟩ ?_;rintro Uu ⟨VW,Ug⟩;have VL:=UX.fr (br.of (X:=[an]) Ug) Zo;have Uy:H X Uu u=zP [.str [],.Z 0,.ax,.ax,.ax,.ax] 6:=(by rw[Ug.M _ Zo];exact Ux);have U0:=Ul.trans (br.of Ug);have W0:=G.go (Wb.ex Ug Zo Zo) (by omega:u<=VJ+1);clear UX Ux Ul Wb Ug;rcases dO K with ⟨a,v,rfl⟩|⟨jaI,jan,v,K⟩
   ·exact(fH A W0 Zo Zo VW v).mono zZ (λR D Z h=>h.of U0 (λ_ h=>by cases h;rfl))
   refine(fH A W0 Zo Zo VW v).mono ?_ zY;clear v;rintro jaA U3 dp ⟨jaJ,i16,XQ,_,VD,U4⟩;cases XQ;have κ:=U4.le;have Ut:=VL.fr U4 Zo;have Uz:H X U3 u=zP [.str [],.Z 0,.ax,.ax,.ax,.ax] 6:=(by rw[U4.M _ Zo Zx];exact Uy);have WS:=U0.trans U4;have χ:=Ut.lt;clear VL Uy U0 U4 W0 VW;obtain⟨Xz,α,jaN,Ue,VR,XA,jae,jaf,jag,jah,UU,e1,Wj⟩:=Ut.xA;obtain⟨jau,Xv,Xw⟩:=fu UU.rd.len;obtain⟨dS,Xx,jaE⟩:=fu e1.rd.len;obtain⟨jaO,β,z3⟩:=fu Wj.rd.len;refine dN ?_;refine cM (λm B D T7=>∃(UA:z) (C:List cA) (aR:List (List z)) (aW:List Nat) (L:Nat),B.g 0=some (.ptr an 0)/\B.g 2=some (.ptr u 0)/\B.g 4=some (.ptr (t+1) 0)/\H X D (t+1)=zP [.str x.text,.Z x.at_,bK,T1,aE,UA] 6/\
    (∀o,t+2<=o->o<dp->H X D o=H X U3 o)/\da X D UA 4 aR.flatten aW/\(∀o∈aW,dp<=o/\o<T7)/\kk X D (mv dp T7 aW) C aR/\H X D u=zP [.str [],.Z 0,.ax,.ax,.ax,.ax] 6/\ak X D an bd az L/\br X [an] q u D T7/\dp<=T7/\C.length+m<=n/\
    (andThen (fJ m C (az.drop L)) λC l=>ok (⟨x.text,x.at_,cm,out,loc,C⟩:GT) l)=some r)
    n ⟨.ax,[],[],[],i16,t0,T9,t4,Ut.gr,λ_ _ _=>rfl,.inl (.inl ⟨rfl,rfl,rfl⟩),Zs,rfl,Uz,VD,WS,Zg _,Zs,K⟩ ?_
   clear K VD Uz WS t0 T9 t4;rintro m B Ua Us ⟨UA,C,aR,aW,U7,t0,T9,t4,VS,Ws,VF,T3,VE,WK,Vn,UQ,μ,jaa,K⟩;cases m with|zero=>simp[fJ,andThen]at K|succ m=>
   unfold fJ at K;have Xq:=G.go Vn UQ.le;refine dN ?_;refine bo @t0 ⟨?_⟩;have Xc:∃o l,az.drop U7=o::l/\((d4 o [116,101,108]=true/\ok (⟨x.text,x.at_,cm,out,loc,C⟩:GT) l=some r)\/(d4 o [116,101,108]=false/\(andThen (andThen (lJ m (az.drop U7)) λV l=>fJ m (C++[V]) l) λC l=>ok (⟨x.text,x.at_,cm,out,loc,C⟩:GT) l)=some r)):=by
    rcases dO K with ⟨a,s,rfl⟩|⟨X4,Wt,s,K⟩
    ·obtain⟨o,l,p,w⟩:=kd s;rcases w with ⟨w,v⟩|⟨w,v⟩
     ·cases v
     ·exact⟨o,l,p,.inr ⟨w,by rw[show(andThen (lJ m (az.drop U7)) λV l=>fJ m (C++[V]) l)=some (.error a) from v];rfl⟩⟩
    ·obtain⟨o,l,p,w⟩:=kd s;rcases w with ⟨w,v⟩|⟨w,v⟩
     ·cases v;exact⟨o,_,p,.inl ⟨w,K⟩⟩
     ·exact⟨o,l,p,.inr ⟨w,by rw[show(andThen (lJ m (az.drop U7)) λV l=>fJ m (C++[V]) l)=some (.ok (X4,Wt)) from v];exact K⟩⟩
   clear K;obtain⟨o,jao,WY,Xe⟩:=Xc;refine(ij A Xq WY _).Zm ?_;rintro jaw UB T8 ⟨rfl,US,Ve⟩;have ν:=Ve.le;have Up:∀o,u<=o->o<Us->H X UB o=H X Ua o:=λo s p=>Ve.M o p Zx;have WT:=UQ.trans Ve;rcases Xe with ⟨T4,K⟩|⟨T4,K⟩
   ·rw[T4]at US ⊢;simp only[ZL]at US ⊢;simp only[ok,Zh]at K;subst K;obtain⟨XC,WC,WD⟩:=da.one VF;have VT:H X UB (t+1)=zP [.str x.text,.Z x.at_,bK,T1,aE,UA] 6:=(by rw[Up _ Zo Zo];exact VS);have XI:H X UB u=zP [.str [],.Z 0,.ax,.ax,.ax,.ax] 6:=(by rw[Up _ Zo Zo];exact WK);refine df bq.eq_1 @t4 (a8 VT) @T9 ⟨?_⟩;refine dg (eS (k:=6) (b:=u) (I:=0) (n:=6) (c:=E.ofList [.str [],.Z 0,.ax,.ax,.ax,.ax] 0 .nil) (by simp(disch:=omega) only[ah];exact XI) Zo rfl Zd Zd (by simp[z.cells,dU,Xv,Xx,β,WC,show hI (.Z x.at_)=true from rfl,show hI (.str x.text)=true from rfl])) ?_;refine bo @T9 ⟨?_⟩;have Xj:∀dW,(∀o,u<o->o<T8->H X dW o=H X UB o)->∀o,u<o->o<Us->H X dW o=H X Ua o:=λdW h o s p=>(by rw[h o s Zo,Up o Zo p]);generalize WW:aH X _ u _=dW;have VH:∀o,o≠u->o<T8->H X dW o=H X UB o:=λo s p=>(by rw[<-WW];exact zR);clear WW;have Vs:=Xj dW (λo s p=>VH o Zo p);have Uo:=VE.wide;obtain⟨X8,XZ⟩:=(VF.M (D:=dW) (λo f=>Vs o (zL (T3 o f)) (T3 o f).2)).xu Zd Uo.2 (by rw[Uo.1];omega) (cZ:=λo=>b2 u (T8+1) o/\o∈aW) (λo f=>by have:=T3 o f;exact⟨⟨Zo,Zo⟩,f⟩);have Vr:∀o,b2 (t+1+1) dp o->H X dW o=H X U3 o:=λo f=>(by have s:=f.1;have p:=f.2;rw[Vs o Zo Zo];exact Ws o Zo p);have Vl:∀o,o<dp->o∉aW:=λo s p=>zL (T3 o p);refine⟨_,U7+1,_,by rw[(dt WY).2],rfl,⟨λo=>if o∈aW then 4 else if dp<=o then 0 else if o<Xz then 1 else if o<α then 2 else 3,bK,T1,aE,UA,Ue,VR,XA,X8,aR,rfl, ?_, ?_, ?_,XZ.lift λo f=>⟨f.1,Zv f.2⟩, ?_⟩, ?_, ?_⟩
    ·refine(UU.M λo f=>Vr o ⟨f.1,zL f.2⟩).lift λo f=>⟨⟨zL f.1,zL f.2⟩, ?_⟩;have s:=f.1;have p:=f.2;simp only[];rw[Zi (Vl o Zo),Zi Zo,Zv p]
    ·refine(e1.M λo f=>Vr o ⟨zL f.1,zL f.2⟩).lift λo f=>⟨⟨zL f.1,zL f.2⟩, ?_⟩;have s:=f.1;have p:=f.2;simp only[];rw[Zi (Vl o Zo),Zi Zo,Zi Zo,Zv p]
    ·refine(Wj.M λo f=>Vr o ⟨zL f.1,zL f.2⟩).lift λo f=>⟨⟨zL f.1,zL f.2⟩, ?_⟩;have s:=f.1;have p:=f.2;simp only[];rw[Zi (Vl o Zo),Zi Zo,Zi Zo,Zi Zo]
    ·refine VE.M (λo f=>Vs o (zL f.1) f.2.1) (λo f=>⟨⟨zL f.1,zL f.2.1⟩, ?_⟩);simp only[];rw[Zi f.2.2,Zv f.1]
    ·exact US.M (VH _ Zo Zo) (VH _ Zo Zo)
    ·exact⟨Zo,λb W N=>by rw[VH b Zo Zo];exact WT.M b W N⟩
   ·rw[T4]at US ⊢;simp only[ZA,ZJ]at US ⊢;obtain⟨XC,WC,WD⟩:=da.one VF;have VT:H X UB (t+1)=zP [.str x.text,.Z x.at_,bK,T1,aE,UA] 6:=(by rw[Up _ Zo Zo];exact VS);refine dA bq.eq_1 en.eq_1 @t4 (a8 VT) @t0 ⟨?_⟩;refine c7 (λVQ=>aU X UB T8 VQ (T8+1+8)) cf ?_;intro VQ Va;have Xi:∀o,u<=o->o<Us->H X VQ o=H X Ua o:=λo s p=>(by rw[Va.M o Zo];exact Up o s p);have WU:=WT.trans (br.of Va);have Xr:=G.go (US.ex Va Zo Zo) (by omega:u<=T8+1+8);have Xb:∃W5,lJ m (az.drop U7)=some W5/\(match W5 with
     | .error a=>r=.error a| .ok (V,l)=>(andThen (fJ m (C++[V]) l) λC l=>ok (⟨x.text,x.at_,cm,out,loc,C⟩:GT) l)=some r):=by
     rcases dO K with ⟨a,s,rfl⟩|⟨X4,Wt,s,K⟩
     ·rcases dO s with ⟨TY,p,w⟩|⟨V,l,p,w⟩
      ·cases w;exact⟨_,p,rfl⟩
      ·exact⟨_,p,by show andThen _ _=_;rw[w];rfl⟩
     ·rcases dO s with ⟨TY,p,w⟩|⟨V,l,p,w⟩
      ·cases w
      ·exact⟨_,p,by show andThen _ _=_;rw[w];exact K⟩
    obtain⟨W5,s,Wg⟩:=Xb;refine(PL A XM Zo Xr s).mono ?_ (λR D Z h=>by
     obtain⟨a,rfl,rfl,h⟩:=h;subst Wg;exact⟨a,rfl,rfl,WU.trans h⟩)
    rintro jaD Ub Wv ⟨V,Xg,row,rfl,rfl,Vq,XY,Vf⟩;have ο:=Vf.le;have XL:=WU.trans Vf;have Uq:∀o,u<=o->o<Us->H X Ub o=H X Ua o:=λo s p=>(by rw[Vf.M o Zo Zx];exact Xi o s p);have WF:H X Ub (t+1)=zP [.str x.text,.Z x.at_,bK,T1,aE,UA] 6:=(by rw[Uq _ Zo Zo];exact VS);have Xa:=Vq.row.len;obtain⟨UK,UL,UM,UN,rfl⟩:∃UK UL UM UN,row=[UK,UL,UM,UN]:=by
     match row,Xa with
     |[a,b,c,d],_=>exact⟨a,b,c,d,rfl⟩
    have XW:dU [UK,UL,UM,UN]=true:=(by obtain⟨_,_,_,_,_,_,s,_,_,_,TZ⟩:=Vq;exact TZ);refine bo (a8 WF) ⟨?_⟩;refine d9 WD ?_;have Xd:fQ X (aH X Ub (T8+1+4) (zP [UK,UL,UM,UN] 4)) 4 (.slice (T8+1+4) 0 1 1)=some (1,[UK,UL,UM,UN]):=hY (aM Zo) (gv _) rfl _;have Uo:=VE.wide;have XT:=mc Uo.2;obtain⟨Xu,Uv,X9,XN,Wl,VA,XU⟩:=(VF.M (D:=aH X Ub (T8+1+4) (zP [UK,UL,UM,UN] 4)) (λo f=>by have:=T3 o f;rw[ah Zo Zo];exact Uq o Zo Zo)).append (u:=Wv) Zd Xd rfl Zd XW (by rw[XT,Uo.1];simp only[ZI,ZT];omega) Zo (λo f=>zL (T3 o f));refine d8 XN ?_;obtain⟨XD,XE,f3⟩:=et.one Wl;have U8:∀o,o<Wv->o≠T8+1+4->o∉aW->H X Uv o=H X Ub o:=λo s p w=>(by rw[XU o Zo w,ah Zo p]);have bv:∀o,o<dp->o∉aW:=λo s p=>zL (T3 o p);have XG:H X Uv (t+1)=zP [.str x.text,.Z x.at_,bK,T1,aE,UA] 6:=(by rw[U8 _ Zo Zo (bv _ Zo)];exact WF);refine bo @t4 ⟨?_⟩;refine dg (jF (I:=5) XG Zo Zo XD XE) ?_;have U9:∀o,o≠t+1->∀bU,H X (aH X Uv (t+1) bU) o=H X Uv o:=λo h bU=>ah Zo h;refine⟨m,Zo,Xu,C++[V],aR++[[UK,UL,UM,UN]],X9,Xg,af t0,af T9,af t4,by rw[aM Zo];rfl, ?_,.inl ?_, ?_, ?_, ?_, ?_, ?_,Zo,Zx,Wg⟩
    ·intro o s p;rw[U9 o Zo,U8 o Zo Zo (bv o p),Uq o Zo Zo];exact Ws o s p
    ·rw[zx,YA,List.flatten_nil,ZY];exact Wl.M λo f=>U9 o (by rcases VA o f with rfl|h;omega;have:=T3 o h;omega) _
    ·intro o f;rcases VA o f with rfl|h
     ·omega
     ·have:=T3 o h;omega
    ·refine kk.snoc (Vq.M (λo f=> ?_) (λo f=>f)) (VE.M (λo f=> ?_) (λo f=>f)) (λo f=> ?_) (λo f=>⟨?_,λXf=>by have:=f.1;have:=Xf.2.1;omega⟩)
     ·have s:=f.1;have p:=f.2;rw[U9 o Zo,U8 o Zo Zo (λh=>zL (T3 o h))]
     ·have s:=f.1;have p:=f.2.1;rw[U9 o Zo,U8 o Zo Zo f.2.2,Uq o Zo Zo]
     ·have s:=f.1;have p:=f.2.1;refine⟨s,Zo,λh=> ?_⟩;rcases VA o h with rfl|h
      ·omega
      ·exact f.2.2 h
     ·have s:=f.1;have p:=f.2;refine⟨Zo,Zo,λh=> ?_⟩;rcases VA o h with rfl|h
      ·omega
      ·have:=T3 o h;omega
    ·rw[U9 _ Zo,U8 _ Zo Zo (bv _ Zo),Uq _ Zo Zo];exact WK
    ·exact XY.M (by rw[U9 _ Zo,U8 _ Zo Zo (bv _ Zo)]) (by rw[U9 _ Zo,U8 _ Zo Zo (bv _ Zo)])
    ·exact⟨Zo,λb W N=>by rw[U9 b Zo,U8 b Zo Zo (bv b Zo)];exact XL.M b W N⟩
def lz(X:bi)(q:E S):(Nat->Prop)->List GT->List (List z)->Prop
 |_,[],aR=>aR=[]|P,V::b,aR=>∃row a aI,aR=row::a/\(∀o,aI o->P o)/\iO X q aI V row/\lz X q (λo=>P o/\¬aI o) b a
def iO.M{X:bi}{q D:E S}{P aI:Nat->Prop}{g:GT}{row:List z}(h:iO X q P g row)(k:∀o,P o->H X D o=H X q o)(a:∀o,P o->aI o):iO X D aI g row:=by obtain⟨bK,bO,aE,l,bc,bp,bG,b,aR,e,c,d,f,i,j⟩:=h;exact⟨bK,bO,aE,l,bc,bp,bG,b,aR,e,(c.M k).lift a,(d.M k).lift a,(f.M k).lift a,(i.M k).lift a,j.M k a⟩
def iO.len{X:bi}{q:E S}{P:Nat->Prop}{g:GT}{row:List z}(h:iO X q P g row):row.length=6:=by obtain⟨bK,bO,aE,b,bc,bp,bG,a,aR,e,_⟩:=h;subst e;rfl
def lz.M{X:bi}{q D:E S}:∀{b:List GT}{aR:List (List z)}{P aI:Nat->Prop}(k:∀o,P o->H X D o=H X q o) (c:∀o,P o->aI o),lz X q P b aR->lz X D aI b aR:=by intro b;induction b with|nil=>intro aR P aI k c h;exact h|cons V b U=>rintro aR P aI k c ⟨row,i,cK,e,d,f,g⟩;exact⟨row,i,cK,e,λo a=>c o (d o a),f.M (λo a=>k o (d o a)) (λo a=>a),U (λo a=>k o a.1) (λo a=>⟨c o a.1,a.2⟩) g⟩
def lz.wide{X:bi}{q:E S}:∀{b:List GT}{aR:List (List z)}{P:Nat->Prop},lz X q P b aR->aR.length=b.length/\∀r∈aR,r.length=6:=by
 intro b;induction b with
 |nil=>rintro aR P rfl;simp
 |cons a b U=>
  rintro aR P ⟨h,i,cK,rfl,g,c,d⟩;obtain⟨e,f⟩:=U d;refine⟨by simp[e],λr K=> ?_⟩;rcases Zq.1 K with rfl|K
  ·exact c.len
  ·exact f r K
def lz.get{X:bi}{q:E S}:∀{b:List GT}{aR:List (List z)}{P:Nat->Prop},lz X q P b aR->∀(i:Nat) g,b[i]? =some g->∃row,aR[i]? =some row/\iO X q P g row:=by intro b;induction b with|nil=>intro aR P _ i g h;simp at h|cons a b U=>rintro aR P ⟨l,m,cK,rfl,j,c,d⟩ i g h;cases i with|zero=>simp at h;subst h;exact⟨l,rfl,c.M (λ_ _=>rfl) j⟩|succ i=>simp at h;obtain⟨row,e,f⟩:=U d i g h;exact⟨row,by simpa using e,f.M (λ_ _=>rfl) (λo k=>k.1)⟩
def kS.get{X:bi}{q:E S}:∀{b:List cA}{aR:List (List z)}{P:Nat->Prop},kS X q P b aR->∀(i:Nat) g,b[i]? =some g->∃row,aR[i]? =some row/\oz X q P g row:=by intro b;induction b with|nil=>intro aR P _ i g h;simp at h|cons a b U=>rintro aR P ⟨l,m,cK,rfl,j,c,d⟩ i g h;cases i with|zero=>simp at h;subst h;exact⟨l,rfl,c.M (λ_ _=>rfl) j⟩|succ i=>simp at h;obtain⟨row,e,f⟩:=U d i g h;exact⟨row,by simpa using e,f.M (λ_ _=>rfl) (λo k=>k.1)⟩
def iO.dU{X:bi}{q:E S}{P:Nat->Prop}{g:GT}{row:List z}(h:iO X q P g row):Go.aF.dU row=true:=by obtain⟨bK,bO,aE,f,bc,bp,bG,e,aR,rfl,a,b,c,d,_⟩:=h;simp[Go.aF.dU,(fu a.len).2.1,(fu b.len).2.1,(fu c.len).2.1,(fu d.len).2.1,show hI (.Z g.at_)=true from rfl,show hI (.str g.name)=true from rfl]
def iP(X:bi)(q:E S)(P:Nat->Prop)(Y:List GT)(v:z):Prop:=∃b aE bC aR,v=.ptr b 0/\P b/\ay X q (.ptr b 0)=some aE/\cl X q P bC aE 6 aR/\lz X q P Y aR
def iP.M{X:bi}{q D:E S}{P aI:Nat->Prop}{Y:List GT}{v:z}(h:iP X q P Y v)(k:∀o,P o->H X D o=H X q o)(a:∀o,P o->aI o):iP X D aI Y v:=by obtain⟨b,aE,bC,aR,rfl,c,d,e,f⟩:=h;exact⟨b,aE,bC,aR,rfl,a _ c,zW (k _ c) d,(e.M k).lift a,f.M k a⟩
def jO(X:bi)(q:E S):(Nat->Prop)->List GT->List (List z)->Prop
 |_,[],aR=>aR=[]|P,V::b,aR=>∃row a aI,aR=row::a/\(∀o,aI o->P o)/\oF X q aI V row/\jO X q (λo=>P o/\¬aI o) b a
def jO.M{X:bi}{q D:E S}:∀{b:List GT}{aR:List (List z)}{P aI:Nat->Prop}(k:∀o,P o->H X D o=H X q o) (c:∀o,P o->aI o),jO X q P b aR->jO X D aI b aR:=by intro b;induction b with|nil=>intro aR P aI k c h;exact h|cons V b U=>rintro aR P aI k c ⟨row,i,cK,e,d,f,g⟩;exact⟨row,i,cK,e,λo a=>c o (d o a),f.M (λo a=>k o (d o a)) (λo a=>a),U (λo a=>k o a.1) (λo a=>⟨c o a.1,a.2⟩) g⟩
def jO.snoc{X:bi}{q:E S}{aI:Nat->Prop}{V:GT}{row:List z}(h:oF X q aI V row):∀{e:List GT}{aR:List (List z)}{c P:Nat->Prop},jO X q c e aR->(∀o,c o->P o)->(∀o,aI o->P o/\¬c o)->jO X q P (e++[V]) (aR++[row]):=by
 intro e;induction e with
 |nil=>rintro aR c P rfl f d;exact⟨row,[],aI,rfl,λo b=>(d o b).1,h,rfl⟩
 |cons a e U=>rintro aR c P ⟨m,n,cK,rfl,g,i,j⟩ f d;exact⟨m,n++[row],cK,rfl,λo b=>f o (g o b),i,U j (λo b=>⟨f o b.1,b.2⟩) (λo b=>⟨⟨(d o b).1,λk=>(d o b).2 (g o k)⟩,λl=>(d o b).2 l.1⟩)⟩
def jO.wide{X:bi}{q:E S}:∀{b:List GT}{aR:List (List z)}{P:Nat->Prop},jO X q P b aR->aR.length=b.length/\∀r∈aR,r.length=6:=by
 intro b;induction b with
 |nil=>rintro aR P rfl;simp
 |cons a b U=>
  rintro aR P ⟨h,i,cK,rfl,g,c,d⟩;obtain⟨e,f⟩:=U d;refine⟨by simp[e],λr K=> ?_⟩;rcases Zq.1 K with rfl|K
  ·exact c.row.len
  ·exact f r K
def jO.nodes{X:bi}{q:E S}:∀{a:List GT}{aR:List (List z)}{P:Nat->Prop},jO X q P a aR->lz X q P a aR:=by intro a;induction a with|nil=>intro aR P h;exact h|cons V a U=>rintro aR P ⟨row,f,cK,b,e,c,d⟩;exact⟨row,f,cK,b,e,c.row,U d⟩
def pZ(X:bi)(q:E S)(P:Nat->Prop)(Y:List GT)(v:z):Prop:=∃(T:Nat->Nat) (b:Nat) (aE:z) (bC:Nat) (aR:List (List z)),v=.ptr b 0/\(P b/\T b=1)/\ay X q (.ptr b 0)=some aE/\f8 X q (λo=>P o/\T o=2) bC aE 6 aR/\jO X q (λo=>P o/\T o=0) Y aR
def pZ.prog{X:bi}{q:E S}{P:Nat->Prop}{Y:List GT}{v:z}(h:pZ X q P Y v):iP X q P Y v:=by obtain⟨T,b,aE,bC,aR,rfl,a,c,d,e⟩:=h;exact⟨b,aE,bC,aR,rfl,a.1,c,d.rd.lift λ_ h=>h.1,e.nodes.M (λ_ _=>rfl) λ_ h=>h.1⟩
def pZ.M{X:bi}{q D:E S}{P aI:Nat->Prop}{Y:List GT}{v:z}(h:pZ X q P Y v)(k:∀o,P o->H X D o=H X q o)(d:∀o,P o->aI o):pZ X D aI Y v:=by obtain⟨T,b,aE,bC,aR,rfl,c,e,f,g⟩:=h;exact⟨T,b,aE,bC,aR,rfl,⟨d _ c.1,c.2⟩,zW (k _ c.1) e,(f.M λo a=>k o a.1).lift λo a=>⟨d o a.1,a.2⟩,g.M (λo a=>k o a.1) λo a=>⟨d o a.1,a.2⟩⟩
def aav(U8:bZ X)(UU:mD X){n:Nat}(Uy:n<=170000)(Uf:az.length<=100000)(O:e6 X q u an bd az i){r:Except Int (List GT×List Tok)}(K:nodes n [] (az.drop i)=some r):
 aD X 20 [.ptr an 0] q u (λR D Z=>∃Y t,r=.ok (Y,az.drop t)/\pZ X D (b2 u Z) Y R/\ak X D an bd az t/\br X [an] q u D Z) (fg X an q u r):=by
 refine Fd U8 (Ll ..) ?_;unfold Do;have Ux:=O.aB;have Ur:=O.ev;have Uq:=O.bn;have Us:=O.ej;refine bx ⟨?_⟩;have UE:H X (aH X q u (zP [.ax] 1)) u=zP [.ax] 1:=aM Zo;have U7:aU X q u (aH X q u (zP [.ax] 1)) (u+1):=cf;refine cM (λm B D U3=>∃(aE:z) (Y:List GT) (aR:List (List z)) (aW:List Nat) (t:Nat) (c:Bool),B.g 0=some (.ptr an 0)/\B.g 3=some (.ptr u 0)/\B.g 4=some (.bool c)/\H X D u=zP [aE] 1/\da X D aE 6 aR.flatten aW/\(∀o∈aW,u+1<=o/\o<U3)/\jO X D (mv (u+1) U3 aW) Y aR/\ak X D an bd az t/\br X [an] q u D U3/\u+1<=U3/\Y.length+m<=n/\
  (if c then nodes m Y (az.drop t)=some r else r=.ok (Y,az.drop t)))
  n ⟨.ax,[],[],[],i,true,aC,aC,aC,UE,.inl (.inl ⟨rfl,rfl,rfl⟩),Zs,rfl,O.par.ex U7 Zo Zo,br.of U7,Zg _,Zs,K⟩ ?_
 clear K UE U7;rintro m B am aw ⟨aE,Y,aR,aW,UJ,c,t0,t3,t4,U6,UB,s,U1,U9,TZ,Ut,Uw,K⟩;cases c with
 |false=>simp only[ZA,ZJ]at K;subst K;refine bE @t4 @t3 ⟨?_⟩;have T6:=U1.wide;obtain⟨bC,Uc⟩:=UB.xu Zd T6.2 (by rw[T6.1];omega) (cZ:=λo=>b2 u aw o/\o∈aW) (λo j=>by have:=s o j;exact⟨⟨Zo,Zo⟩,j⟩);exact⟨Y,UJ,rfl,⟨λo=>if o=u then 1 else if o∈aW then 2 else 0,u,aE,bC,aR,rfl,⟨⟨Zo,Zo⟩,Zv rfl⟩,by rw[a8 U6];rfl,Uc.lift λo j=>⟨j.1,(Zi (zL (s o j.2))).trans (Zv j.2)⟩,U1.M (λ_ _=>rfl) (λo j=>⟨⟨zL j.1,j.2.1⟩,(Zi (zL j.1)).trans (Zi j.2.2)⟩)⟩,U9,TZ⟩
 |true=>
  simp only[ZL]at K;cases m with|zero=>simp[nodes]at K|succ m=>
  unfold nodes at K;have Uj:=O.go U9 TZ.le;obtain⟨Uo,Up,UN⟩:=da.one UB;have Uh:ay X am (.ptr u 0)=some aE:=by rw[a8 U6];rfl
  refine df @t4 @t3 @t0 @Uh ⟨?_⟩;have Ud:∃UD,Go.ak.node m (az.drop UJ)=some UD/\(match UD with
   | .error a=>r=.error a| .ok (V,l)=>(match l with
     |[]=>none|x::_=>if x.kind=7 then ok (Y++[V]) l else nodes m (Y++[V]) l)=some r):=by
   rcases dO K with ⟨a,k,rfl⟩|⟨V,V0,k,K⟩
   ·exact⟨_,k,rfl⟩
   ·exact⟨_,k,K⟩
  obtain⟨UD,k,T7⟩:=Ud;clear K;have Uk:=Uj.go (Z:=aw+12) U9 Zo;refine(Tu U8 UU Zo Uf Uk k).mono ?_ (λR D Z h=>by
   obtain⟨a,rfl,rfl,h⟩:=h;subst T7;exact⟨a,rfl,rfl,TZ.trans (h.down Zo (λb W=> .inl W))⟩)
  rintro v3 w U4 ⟨g,i3,row,rfl,rfl,UA,UG,U0⟩;have Uu:=U0.le;have UT:br X [an] q u w U4:=TZ.trans (U0.down Zo (λb W=> .inl W));have Ua:=UA.row.len;have Ub:=UA.row.dU;obtain⟨P,T0,T1,T2,T3,T4,rfl⟩:∃P T0 T1 T2 T3 T4,row=[P,T0,T1,T2,T3,T4]:=by
   match row,Ua with
   |[a,b,c,d,e,f],_=>exact⟨a,b,c,d,e,f,rfl⟩
  have UF:H X w u=zP [aE] 1:=by rw[U0.M _ Zo Zx];exact U6
  have UK:∀o,u<=o->o<aw->H X w o=H X am o:=λo k p=>U0.M o Zo Zx;have Ui:ay X w (.ptr u 0)=some aE:=by rw[a8 UF];rfl
  refine bo @Ui ⟨?_⟩;refine d9 UN ?_;have Ue:fQ X (aH X w (aw+7) (zP [P,T0,T1,T2,T3,T4] 6)) 6 (.slice (aw+7) 0 1 1)=some (1,[P,T0,T1,T2,T3,T4]):=hY (aM Zo) (gv _) rfl _;have T6:=U1.wide;have UY:=mc T6.2;obtain⟨UL,A,UM,UW,UI,T5,UZ⟩:=(UB.M (D:=aH X w (aw+7) (zP [P,T0,T1,T2,T3,T4] 6)) (λo j=>by have:=s o j;rw[ah Zo Zo];exact UK o Zo Zo)).append (u:=U4) Zd Ue rfl Zd Ub (by rw[UY,T6.1];simp only[ZI,ZT];omega) Zo (λo j=>zL (s o j));refine d8 UW ?_;obtain⟨UO,UP,f3⟩:=et.one UI;have v:∀o,o<U4->o≠aw+7->o∉aW->H X A o=H X w o:=λo k p US=>by rw[UZ o Zo US,ah Zo p]
  have bv:∀o,o<u+1->o∉aW:=λo k p=>zL (s o p);have UQ:H X A u=zP [aE] 1:=by rw[v _ Zo Zo (bv _ Zo)];exact UF
  refine bx ⟨?_⟩;refine dg (jF (I:=0) UQ Zo Zo UO UP) ?_;refine bo @t0 ⟨?_⟩;have L:∀o,o≠u->∀bU,H X (aH X A u bU) o=H X A o:=λo h bU=>ah Zo h;have Uz:∀bU,ak X (aH X A u bU) an bd az i3:=λbU=>UG.M (by rw[L _ Zo,v _ Zo Zo (bv _ Zo)]) (by rw[L _ Zo,v _ Zo Zo (bv _ Zo)]);obtain⟨x,l,ai,T8⟩:∃x l,az.drop i3=x::l/\(if x.kind=7 then ok (Y++[g]) (az.drop i3)else nodes m (Y++[g]) (az.drop i3))=some r:=by cases ai:az.drop i3 with|nil=>rw[ai]at T7;cases T7|cons x l=>rw[ai]at T7;exact⟨x,l,rfl,T7⟩
  refine c7 (λT9=>H X T9 u=zP [UL] 1/\(∀o,o≠u->H X T9 o=H X A o)) ⟨by rw[aM Zo];rfl,λo h=>L o h _⟩ ?_;rintro T9 ⟨UR,L⟩;have UH:ak X T9 an bd az i3:=UG.M (by rw[L _ Zo,v _ Zo Zo (bv _ Zo)]) (by rw[L _ Zo,v _ Zo Zo (bv _ Zo)]);refine(kE U8 Zo UH Zo Zo (dt ai).1).Zm ?_;rintro V1 N U5 ⟨rfl,TY⟩;have Uv:=TY.le;have U2:∀o,o≠u->o<U4+1->H X N o=H X A o:=λo k p=>by rw[TY.M o p,L o k]
  have fin:∀(C:bS) (c:Bool),C.g 0=some (.ptr an 0)->C.g 3=some (.ptr u 0)->C.g 4=some (.bool c)->(if c then nodes m (Y++[g]) (az.drop i3)=some r else r=.ok (Y++[g],az.drop i3))->∃UC,UC<m+1/\∃(aE:z) (Y:List GT) (aR:List (List z)) (aW:List Nat) (t:Nat) (c:Bool),C.g 0=some (.ptr an 0)/\C.g 3=some (.ptr u 0)/\C.g 4=some (.bool c)/\H X N u=zP [aE] 1/\da X N aE 6 aR.flatten aW/\(∀o∈aW,u+1<=o/\o<U5)/\jO X N (mv (u+1) U5 aW) Y aR/\ak X N an bd az t/\br X [an] q u N U5/\u+1<=U5/\Y.length+UC<=n/\
   (if c then nodes UC Y (az.drop t)=some r else r=.ok (Y,az.drop t)):=by
   intro C c Ul Um Un UX;refine⟨m,Zo,UL,Y++[g],aR++[[P,T0,T1,T2,T3,T4]],UM,i3,c,Ul,Um,Un,by rw[TY.M _ Zo];exact UR,.inl ?_, ?_, ?_, ?_, ?_,Zo,Zx,UX⟩
   ·rw[zx,YA,List.flatten_nil,ZY];exact UI.M λo j=>U2 o (by rcases T5 o j with rfl|h;omega;have:=s o h;omega) (by rcases T5 o j with rfl|h;omega;have:=s o h;omega)
   ·intro o j;rcases T5 o j with rfl|h
    ·omega
    ·have:=s o h;omega
   ·refine jO.snoc (UA.M (λo j=> ?_) (λo j=>j)) (U1.M (λo j=> ?_) (λo j=>j)) (λo j=> ?_) (λo j=>⟨?_,λUg=>by have:=j.1;have:=Ug.2.1;omega⟩)
    ·have k:=j.1;have p:=j.2;rw[U2 o Zo Zo,v o Zo Zo (λh=>zL (s o h))]
    ·have k:=j.1;have p:=j.2.1;rw[U2 o Zo Zo,v o Zo Zo j.2.2,UK o Zo Zo]
    ·have k:=j.1;have p:=j.2.1;refine⟨k,Zo,λh=> ?_⟩;rcases T5 o h with rfl|h
     ·omega
     ·exact j.2.2 h
    ·have k:=j.1;have p:=j.2;refine⟨Zo,Zo,λh=> ?_⟩;rcases T5 o h with rfl|h
     ·omega
     ·have:=s o h;omega
   ·exact UH.ex TY Zo Zo
   ·exact⟨Zo,λb W UV=>by rw[U2 b Zo Zo,v b Zo Zo (bv b Zo)];exact UT.M b W UV⟩
  by_cases G:x.kind=7
  ·rw[Zv G]at T8;simp only[ok,Zh]at T8;have d:decide (x.kind=7)=true:=(by simp[G]);refine bE bq.eq_1 @G ⟨?_⟩;exact fin _ false (af t0) (af t3) (cT) T8.symm
  ·rw[Zi G]at T8;have d:decide (x.kind=7)=false:=(by simp[G]);refine bE bq.eq_1 @G ⟨?_⟩;exact fin _ true (af t0) (af t3) (by refine o6 ⟨?_⟩;simp[G]) T8
end
open Go.aF
section
variable (X : bi) (a : E S) (b : Nat) (T ab : aY) (a0 aL bt a3 a4 a5 fq fV f9 : z)
def CF:Za1:=λa b c d e f g=>aa (b7 a d .eql 40 true b .bH) λh=>d7 h c d e λd e i=>d7 h b e i λe i j=>r2 h (λb=>e9 a d [e] i j b g) i j λd e i=>bT (λd=>aJ (λb c d=>h1 b 8 a c λ_ _ e=>ec e (λ_ a b=>f (.tuple []) a b) λf h=>cF (λb c d e=>dD c 19 18 λf=>aJ (λc d e=>h0 (λa c d=>c9 a 19 λe=>b (J a 19 e) c d) c 17 19 a d λb f=>hL c λh=>aD a 122 [f,h] d e (λ_ a d=>b (J c 5 f) a d) g) λa=>av f (a (J c 20 f) d e) (h (J c 20 f) d e)) (zU b 17 e 18 f 19 (.Z 0)) c d) λa=>av d (f (.tuple []) e i) (a (J (bN [b,c]) 13 d) e i)) λa=>av h (a .zV) (a d)
theorem JT:dV X 122 [a0,aL] (CF X a0 aL):=⟨Zk,Zk⟩
def Dv:Za0:=λa b c d e f=>oh d a c λc d g=>aD a 51 [b] d g (λd g h=>vx d λd=>aJ (λb c d=>jM b a c λg=>ec g (λb c d=>tw λf=>jL b 2 a c 2 f λa b=>e b a d) λh i=>cF (λb c d g=>dD c 15 14 λh=>aJ (λc d g=>fe (λa c d=>c9 a 15 λe=>b (J a 15 e) c d) c 15 13 λb h i=>bu (c 15) λj=>og i j a d g λd g i=>cN c λj=>jK a i 6 d 8 g f λg i k=>pN a i k λi k l=>aa (dl [.bH,.Z 0,.bH,.gO,.Z 0,.Z 0] [(0,1,j),(1,1,h),(2,1,g),(3,1,i)]) λg=>eW a k l g λg i j=>aD a 52 [g] i j (λ_ f i=>gB g 4 λj=>cS 0 j a f λ_ j=>vx j λj=>aJ b λb=>av j (gB g 4 λb=>pP a f 2 b c 2 λa b=>e b a i) (b (zV c 4 d 3 h 5 g 34 j) f i)) f) λa=>av h (a (J c 16 h) d g) (i (J c 16 h) d g)) (zU b 13 g 14 h 15 (.Z 0)) c d) λf=>av d (aa (dl [.Z 0,.Z 0] [(0,1,.Z 1)]) λb=>pO a g 2 c b λa b=>e b a h) (f (zT (bN [b]) 2 c 8 d) g h)) f
theorem Lz:dV X 29 [a0] (Dv X a0):=⟨Zk,Zk⟩
def DQ:Za0:=λa b c d e f=>aa (b7 a c .eql 23 true b .bH) λg=>d7 g b c d λc d h=>r3 g c d h 0 a λc d h=>dc g (c0 c) d h λc d h=>dc g (aK .eql c (.Z 0)) d h λc d h=>bT (λc=>d7 c b d h λd g h=>r3 c d g h 0 a λd g h=>dc c (c0 d) g h λd g h=>dc c (aK .gtr d (.Z 64)) g h λd g h=>bT (λc=>aJ (λb c d=>jM b a c λg=>ec g (λa b c=>gC a λa=>e a b c) λh i=>cF (λb c d g=>dD c 30 29 λh=>aJ (λc d g=>fe (λa c d=>c9 a 30 λe=>b (J a 30 e) c d) c 28 30 λb h i=>og h i a d g λd g h=>jK a h 6 d 88 g f λa f g=>aJ b λb=>jg a 1 b λb h=>av b (e a f g) (jg a 22 h λe h=>av e (h (zT (zV c 5 d 6 a 36 a 37 b) 40 e 3 a) f g) (h (J (zV c 5 d 6 a 36 a 37 b) 40 e) f g))) λa=>av h (a (J c 31 h) d g) (i (J c 31 h) d g)) (zV b 3 (.Z 0) 28 g 29 h 30 (.Z 0)) c d) λa=>av c (e (.Z 1) g h) (a (zT (bN [b]) 2 (.Z 0) 24 c) g h)) λa=>av c (a .zV) (a d)) λa=>av g (a .zV) (a c)
theorem Md:dV X 51 [a0] (DQ X a0):=⟨Zk,Zk⟩
def H0(a:al)(b:aY):ds:=λc d e=>ig a [] b c c.aP d e
def rl(a:al)(b c:aY):kY:=λd e f g=>nb a [] b c d e d.aP f g
def DR:Za0:=λa b c d e f=>eW a c d b λc d g=>cU (g+15) λh=>aa (ay a d c) λi=>dC i 0 a d λ_ i=>dC i 0 a d λ_ i=>aa (ay a d c) λj=>dC j 1 a d λ_ j=>aa (c8 6 i j) λi=>aa (ca a d 6 i) λi=>aa (fX [.str [],.Z 0,.ax,.ax,.ax,.ax] (g+13)) λj=>hb a d (g+13) j.1 j.2 λd g=>aa (cW a g 6 d i) λg=>cU (h+12) λh=>aa (ay a g c) λi=>dC i 0 a g λ_ i=>cS 0 d a g λ_ j=>aD a 89 [i,j] g h (λg h i=>eG g λg _=>aa (ay a h c) λj=>dC j 1 a h λ_ j=>aa (aK .lss g j) λj=>aJ (λb c d=>gg b 1 a c λg=>gD b λh=>aa (ca a c 6 h) λh=>aD a 91 [g,h] c d (λ_ c d=>fd b 2 5 a c λ_ g=>ec g (λb c d=>gD b λg=>aa (ca a c 6 g) λg=>aD a 24 [g] c d (λc d g=>aJ (λb c d=>H0 a e b c d) λh=>rs a 103 c [85,86] (lo a (λ_ _ b _ _ c d e=>bu (c 85) λf=>rU e a d λd e g=>bu (c 86) λh=>aa (cW a e 8 d h) λa=>b (zT c 10 f 11 d) a g) λ_ b c _ _ d e f=>aJ c λc=>cU (f+12) λf=>bu (d 10) λg=>yd g λg=>wP g (d 1) (λb=>ay a e b) e λe h=>gc g (ht e) h λe h=>gc g (es 3 e) h λe h=>gc g (ay a h e) h λe h=>wP g (d 11) (λa=>es 0 a) h λh i=>gc g (ay a i h) i λh i=>gc g (fb a i 9 (.Z 0) e h false) i λe h=>gc g (aK .eql e (.Z 0)) h λe h=>bT (λe=>aJ c λc=>av e (gg d 1 a h λg=>fd d 11 1 a h λ_ i=>aD a 90 [g,.Z 37,i] h f (λ_ a b=>c (J d 98 e) a b) (b (eI [99,100,101,102] (J d 98 e)))) (c (J d 98 e) h f)) λa=>av g (a e) (a .zT)) h (qq 4 h λ_ _ _ _=>False) (H0 a e) (rl a e f) (J b 84 c) d g) (rl a e f (eI [83,84] b))) λh i=>cF (λb c d g=>dD c 51 50 λh=>aJ (λc d g=>fe (λa c d=>c9 a 51 λe=>b (J a 51 e) c d) c 49 51 λb h i=>rV h i a d g λd g h=>cS 0 d a h λ_ i=>ec i (λc d g=>gg c 1 a d λh=>fd c 6 3 a d λ_ i=>aD a 93 [h,i] d g (λ_ a d=>b c a d) (rl a e f (eI [78,79,80,81] c))) λb j=>cF (λb c d g=>dD c 58 57 λh=>aJ (λc d g=>fe (λa c d=>c9 a 58 λe=>b (J a 58 e) c d) c 58 56 λb h i=>bu (c 58) λj=>fS i j a d λi=>fd c 6 1 a d λ_ j=>aa (c0 j) λj=>aa (aK .lss h j) λj=>aJ (λc d g=>gg c 1 a d λh=>c1 c 8 9 λi j=>aD a 92 [h,i,j] d g (λ_ a d=>b c a d) (rl a e f (eI [73,74,75,76] c))) λb=>av j (fd c 6 1 a d λ_ e=>fS e h a d λa=>b (J (zV c 7 h 8 i 9 (.Z 0) 67 j) 9 a) d g) (b (zV c 7 h 8 i 9 (.Z 0) 67 j) d g)) λa=>av h (a (J c 59 h) d g) (j (J c 59 h) d g)) (zV c 6 d 56 i 57 b 58 (.Z 0)) h g) λa=>av h (a (J c 52 h) d g) (i (J c 52 h) d g)) (zU b 49 g 50 h 51 (.Z 0)) c d) (rl a e f (eI [45,46,47] b))) λk=>av j (aa (ay a h c) λl=>cS 1 d a h λ_ m=>aD a 90 [l,.Z 24,m] h i (λ_ a e=>k (zV (bN [b]) 1 c 2 d 3 g 40 j) a e) (rl a e f (eI [41,42,43,44] (zV (bN [b]) 1 c 2 d 3 g 40 j)))) (k (zV (bN [b]) 1 c 2 d 3 g 40 j) h i)) (rl a e f (eI [26,27,28,29,30,31,32,25,33,34,3,4] (zT (bN [b]) 1 c 2 d)))
def Mf:o2 X 52 [a0] a b T ab=DR X a0 a b T ab:=Zk
def Me:bJ X 52 1=true:=Zk
def Dr:Za0:=λa b c d e _=>eW a c d b λa b c=>e (.func (.func 46) [] [a]) b c
theorem Lr:dV X 24 [a0] (Dr X a0):=⟨Zk,Zk⟩
def Em:Za1:=λa b c d e f g=>eW a d e c λd e h=>aa (b7 a e .eql 23 true b .bH) λi=>aJ (λb c d=>jM b a c λe=>gC b λb=>aD a 120 [e,.func (.func 121) [] [b]] c d (λb c d=>aa (jn a c .max [3,3] [b,.Z 0]) λa=>mA b λb=>f (.tuple [a,b]) c d) g) λa=>av i (f (.tuple [.Z 0,.zT]) e h) (a (zV (bN [b,c]) 3 d 4 (.Z 0) 5 .zT 8 i) e h)
theorem M3:dV X 89 [a0,aL] (Em X a0 aL):=⟨Zk,Zk⟩
def El:Za0:=λa b c d e f=>eW a c d b λc d g=>nt 2 c a d λ_ h=>nt 3 c a d λ_ i=>aa (aK .add h i) λh=>nt 4 c a d λ_ i=>aa (aK .add h i) λh=>oo 0 c a d 115 g f λd g i=>aa (dX .not d) λd=>kL d 3 c g i a λg i j=>dc d (c0 g) i j λg i j=>dc d (aK .eql g (.Z 0)) i j λg i j=>bT (λd=>d7 d h i j λg i j=>dc d (aK .gtr g (.Z 256)) i j λg i j=>bT (λd=>kL d 5 c i j a λg i j=>dc d (c0 g) i j λg i j=>dc d (aK .gtr g (.Z 4096)) i j λg i j=>bT (λd=>kL d 2 c i j a λg i j=>kL d 3 c i j a λi j k=>kL d 4 c j k a λj k l=>hD d (λb=>aa (ea 3 [.ax,.ax,.ax] [(0,1,g),(1,1,i),(2,1,j)] l) λc=>dQ a k l c.1 c.2 λa c d=>b a c d) k l λg i j=>hD d (λb=>aD a 117 [g] i j b f) i j λg i j=>r2 d (λb=>aD a 116 [g] i j b f) i j λg i j=>bT (λd=>aJ (λb c d=>fd b 1 5 a c λ_ g=>ec g (λa b c=>eX a λa=>e a b c) λh i=>cF (λb c d g=>dD c 55 54 λh=>aJ (λc d g=>fe (λa c d=>c9 a 55 λe=>b (J a 55 e) c d) c 53 55 λb h i=>rV h i a d g λd g h=>oo 3 d a h 119 g f λg h i=>nt 0 d a h λ_ j=>aa (aK .eql j (.Z 0)) λj=>kL j 0 d h i a λh i k=>d7 j (.func (.func 118) [] []) i k λi k l=>hD j (λb=>aD a 15 [h,i] k l b f) k l λa f h=>bT (λa=>d7 a g f h λf h i=>dc a (aK .eql f (.Z 1)) h i λf h i=>bT (λa=>aJ (λa c d=>bu (a 8) λe=>vx e λe=>aJ b λb=>av e (bu (a 8) λf=>b (zT a 77 e 4 f) c d) (b (J a 77 e) c d)) λb=>av a (e (.Z 1) h i) (b (zV c 6 d 7 (.func (.func 118) [] []) 8 g 75 a) h i)) λb=>av a (b .zV) (b f)) λb=>av j (b .zV) (b a)) λa=>av h (a (J c 56 h) d g) (i (J c 56 h) d g)) (zV b 4 (.Z 0) 53 g 54 h 55 (.Z 0)) c d) λa=>av d (e (.Z 1) i j) (a (zV (bN [b]) 1 c 2 (.Z 0) 3 h 51 d) i j)) λa=>av d (a .zV) (a g)) λa=>av d (a .zV) (a g)) λa=>av d (a .zV) (a g)) λa=>av d (a .zV) (a g)
theorem M1:dV X 88 [a0] (El X a0):=⟨Zk,Zk⟩
def DI:Za0:=λa b c d e f=>aD a 71 [b,.Z 201] c d e f
theorem LZ:dV X 42 [a0] (DI X a0):=⟨Zk,Zk⟩
def Eo:Za2:=λa b c d e f g _=>gB b 4 λh=>rX h a e 0 λh=>aJ (λ_ a b=>g (.tuple []) a b) λg=>av h (aa (dl [.Z 0,.Z 0] [(0,1,c),(1,1,d)]) λi=>gB b 4 λj=>aa (cW a e 2 j i) λa=>g (J (bN [b,c,d]) 11 h) a f) (g (J (bN [b,c,d]) 11 h) e f)
theorem M7:dV X 90 [a0,aL,bt] (Eo X a0 aL bt):=⟨Zk,Zk⟩
def BH(a:al)(b:aY):ds:=λc d e=>ig a [] b c c.aP d e
def xl(a:al)(b c:aY):kY:=λd e f g=>nb a [] b c d e d.aP f g
def Ep:Za1:=λa b c d e f g=>eW a d e b λd e h=>eW a e h c λe h i=>pN a h i λh i j=>aa (fX [.gO] j) λk=>dQ a i j k.1 k.2 λi j k=>gl a j i h λh=>aa (ca a h 6 e) λj=>aD a 24 [j] h k (λh j k=>aJ (λb c d=>gC b λe=>aa (ca a c 6 e) λe=>aD a 24 [e] c d (λc d e=>aJ (λb c d=>BH a f b c d) λh=>rs a 54 c [31,32] (lo a (λ_ _ b _ _ c d e=>rU e a d λd e f=>bu (c 32) λg=>aa (cW a e 8 d g) λa=>b (J c 8 d) a f) λ_ b c _ _ d e f=>aJ c λc=>cU (f+13) λg=>ot d 2 a e 2 λh=>fd d 8 5 a e λ_ i=>vp f 10 a e λe f=>aD a 13 [h,i] f g (λf g h=>eG f λf i=>aa (cW a g 11 e f) λe=>aa (dX .not i) λf=>wQ f (d 8) (λa=>es 5 a) e h λe g h=>cR f (ay a g e) g h λe g h=>cR f (b7 a g .neq 9 true e (.str [])) g h λe g h=>bT (λe=>aJ c λc=>av e (gg d 2 a g λf=>fd d 8 6 a g λ_ j=>aD a 90 [f,.Z 23,j] g h (λ_ a b=>c (zT d 10 i 49 e) a b) (b (eI [50,51,52,53] (zT d 10 i 49 e)))) (c (zT d 10 i 49 e) g h)) λa=>av f (a e) (a .zT)) (b (eI [34,35,36,37,38,39,40,33,41,42,9,10] d))) h (qq 2 h λ_ _ _ _=>False) (BH a f) (xl a f g) (J b 30 c) d e) (xl a f g (eI [29,30] b))) λl=>rs a 54 h [14,15] (lo a (λ_ _ b _ _ c d e=>bu (c 14) λf=>rU e a d λd e g=>bu (c 15) λh=>aa (cW a e 8 d h) λa=>b (zT c 5 f 6 d) a g) λ_ b c _ _ d e f=>aJ c λc=>gg d 4 a e λg=>fd d 6 0 a e λ_ h=>aa (fb a e 9 (.Z 0) g h false) λg=>rZ g λg=>aJ (λb d e=>gg b 4 a d λf=>fd b 6 0 a d λ_ g=>hu b λh=>ek (ib a d e 9 f g h) d e λ_ a d=>c b a d) λc=>av g (gg d 2 a e λh=>fd d 6 1 a e λ_ i=>aD a 90 [h,.Z 24,i] e f (λ_ a b=>c (J d 20 g) a b) (b (eI [21,22,23,24] (J d 20 g)))) (c (J d 20 g) e f)) l (qq 0 l λ_ _ _ _=>False) (BH a f) (xl a f g) (zV (bN [b,c]) 2 d 3 e 4 i 13 h) j k) (xl a f g (eI [12,13] (zU (bN [b,c]) 2 d 3 e 4 i)))
def M9:o2 X 91 [a0,aL] a b T ab=Ep X a0 aL a b T ab:=Zk
def M8:bJ X 91 2=true:=Zk
def Er:Za2:=λa b c d e f g h=>dC b 2 a e λ_ i=>aD a 13 [i,c] e f (λe f i=>tt e i a f λe f i j=>dC b 3 a j λ_ k=>aa (fb a j 9 (.Z 0) k c false) λl=>ns l λl=>ek (ib a j i 9 k c l) j i λ_ i j=>aJ (λ_ a b=>g (.tuple []) a b) λg=>oq e g λg k=>av g (aD a 90 [b,.Z 23,d] i j (λ_ a h=>k (zU (bN [b,c,d]) 6 f 7 e 24 g) a h) h) (rX f a i 1 λl=>d7 l b i j λi j m=>r3 l i j m 3 a λi j m=>d7 l c j m λj m n=>dc l (fb a m 9 (.Z 0) i j false) m n λi j m=>dc l (aK .gtr i (.Z 1)) j m λi j m=>bT (λi=>aJ k λk=>av i (aD a 90 [b,.Z 24,d] j m (λ_ a h=>k (zV (bN [b,c,d]) 6 f 7 e 24 g 30 i) a h) h) (k (zV (bN [b,c,d]) 6 f 7 e 24 g 30 i) j m)) λa=>av l (a .zV) (a i))) h
theorem Nb:dV X 92 [a0,aL,bt] (Er X a0 aL bt):=⟨Zk,Zk⟩
def Es:Za1:=λa b c d e f g=>eW a d e b λb d e=>aD a 122 [c,.func (.func 123) [] [b]] d e (λ_ a b=>f (.tuple []) a b) g
theorem Nd:dV X 93 [a0,aL] (Es X a0 aL):=⟨Zk,Zk⟩
def DM:Za1:=λa b c d e f g=>x6 c a d λh=>aJ (λ_ a b=>f (.tuple []) a b) λi=>cF (λb c d e=>rY c 14 3 λh=>aJ (λc d e=>fe (λa c d=>c9 a 14 λe=>b (J a 14 e) c d) c 14 13 λb h i=>bu (c 14) λj=>aa (ky false 3 1 i j) λi=>aa (c0 i) λj=>aJ b λb=>cF (λc d e h=>dD d 20 19 λi=>aJ (λb d e=>aJ (λa b d=>c9 a 20 λe=>c (J a 20 e) b d) λc=>tu b 18 20 a d e λd e h=>c1 b 0 3 λi j=>aa (aK .add (.Z 1) j) λj=>aa (ca a h 8 d) λk=>e9 a i [j,k] h e (λa e g=>oq a c λa c=>av a (f (.tuple []) e g) (c (zT b 6 d 29 a) e g)) g) λa=>av i (a (J d 21 i) e h) (b (J d 21 i) e h)) (J (zV c 3 h 4 i 18 i 19 j) 20 (.Z 0)) d e) λa=>av h (a (J c 15 h) d e) (i (J c 15 h) d e)) (zT (bN [b,c]) 13 h 14 (.Z 0)) d e
theorem L7:dV X 46 [a0,aL] (DM X a0 aL):=⟨Zk,Zk⟩
def CD:Za1:=λa b c d e f g=>ec b (λ_ a b=>f (.Z (-1)) a b) λh i=>cF (λb c d e=>dD c 8 7 λh=>aJ (λc d e=>fe (λa c d=>c9 a 8 λe=>b (J a 8 e) c d) c 8 1 λb h i=>cN c λj=>aa (c8 6 j h) λj=>aa (ca a d 6 j) λj=>e9 a i [j] d e (λa d e=>aJ b λb=>av a (f h d e) (b (zT c 5 h 16 a) d e)) g) λa=>av h (a (J c 9 h) d e) (i (J c 9 h) d e)) (zU (bN [b,c]) 4 (.Z 0) 7 h 8 (.Z 0)) d e
theorem JP:dV X 120 [a0,aL] (CD X a0 aL):=⟨Zk,Zk⟩
def CE:Za1:=λa b c d e f _=>eW a d e b λb d e=>cS 0 b a d λ_ b=>aa (ay a d c) λc=>aa (b7 a d .eql 9 false b c) λa=>f a d e
theorem JR:dV X 121 [a0,aL] (CE X a0 aL):=⟨Zk,Zk⟩
def Cv:Za0:=λa b c d e f=>aa (b7 a c .eql 9 true b (.str [])) λg=>d7 g b c d λc d h=>dc g (hG c) d h λc d h=>dc g (aK .gtr c (.Z 32)) d h λc d h=>bT (λc=>d7 c b d h λd g h=>dc c (ia d (.Z 0)) g h λd g h=>dc c (aK .geq d (.int .u8 48)) g h λd g h=>d7 c d g h λd g h=>fL d b g h λg h i=>cR d (ia g (.Z 0)) h i λg h i=>cR d (aK .leq g (.int .u8 57)) h i λg h i=>hD c (λa=>bT (λb=>a b h i) λa=>av d (a g) (a .zT)) h i λd g h=>bT (λc=>d7 c b g h λd g h=>d7 c (.func (.func 140) [] []) g h λg h i=>hD c (λb=>aD a 141 [d,g] h i b f) h i λd g h=>dc c (aK .geq d (.Z 0)) g h λd g h=>bT (λc=>aJ (λb c d=>aa (ay a c (.ptr 3 0)) λg=>cN b λh=>aD a 48 [g,h] c d (λc d g=>aa (dX .not c) λc=>hE c (b 0) d g λb d g=>gM c (λc=>aD a 142 [b] d g c f) d g λa b d=>cR c (dX .not a) b d λa b d=>bT (λa=>e a b d) λb=>av c (b a) (b .zT)) f) λa=>av c (e .zT g h) (a (zU (bN [b]) 2 .zT 3 (.func (.func 140) [] []) 26 c) g h)) λa=>av c (a .zV) (a d)) λa=>av c (a .zV) (a d)) λa=>av g (a .zV) (a c)
theorem JF:dV X 115 [a0] (Cv X a0):=⟨Zk,Zk⟩
def Cw:Za0:=λa b c d e f=>ec b (λ_ a b=>e .zV a b) λg h=>cF (λb c d g=>dD c 7 6 λi=>aJ (λc d g=>aJ (λa c d=>c9 a 7 λe=>b (J a 7 e) c d) λb=>tu c 5 7 a d g λd g h=>oo 0 d a h 115 g f λg h i=>aa (dX .not g) λg=>dc g (es 2 d) h i λh i j=>dc g (ca a i 3 h) i j λh i j=>hD g (λb=>aD a 143 [h] i j b f) i j λh i j=>dc g (b7 a i .eql 9 true h (.str [])) i j λh i j=>bT (λg=>kL g 5 d i j a λh i j=>dc g (b7 a i .neq 9 true h (.str [])) i j λh i j=>d7 g h i j λh i j=>kN h 5 d i j a λi j k=>gM h (λb=>aD a 115 [i] j k b f) j k λf i j=>cR h (dX .not f) i j λf i j=>hD g (λa=>bT (λb=>a b i j) λa=>av h (a f) (a .zT)) i j λf h i=>bT (λf=>kL f 5 d h i a λg h i=>dc f (b7 a h .eql 9 true g (.str [])) h i λg h i=>d7 f g h i λg h i=>kN g 7 d h i a λa h i=>hD f (λb=>bT (λa=>b a h i) λb=>av g (b a) (b .zT)) h i λa g h=>bT (λa=>aJ b λb=>av a (e .zT g h) (b (zT c 4 d 40 a) g h)) λb=>av f (b .zV) (b a)) λa=>av g (a .zV) (a f)) λa=>av g (a .zV) (a h)) λa=>av i (a (J c 8 i) d g) (h (J c 8 i) d g)) (zV (bN [b]) 2 .zT 5 b 6 g 7 (.Z 0)) c d
theorem JH:dV X 116 [a0] (Cw X a0):=⟨Zk,Zk⟩
def Cx:Za0:=λa b c d e f=>ec b (λb c d=>gC b λg=>aD a 144 [.ax,g] c d (λc d f=>cN b λg=>ec g (λa b c=>bu (a 6) λa=>e a b c) λe h=>cF (λb c d e=>dD c 27 26 λf=>aJ (λc d e=>h0 (λa c d=>c9 a 27 λe=>b (J a 27 e) c d) c 25 27 a d λb f=>bu (c 6) λg=>ek (eV a d e 8 g f) d e λa d e=>b (zT c 8 f 6 a) d e) λa=>av f (a (J c 28 f) d e) (h (J c 28 f) d e)) (zV b 6 c 25 g 26 e 27 (.Z 0)) d f) f) λe g=>cF (λb c d e=>dD c 11 10 λh=>aJ (λc d e=>h0 (λa c d=>c9 a 11 λe=>b (J a 11 e) c d) c 9 11 a d λa b=>gC c λg=>aa (c0 b) λh=>aa (aK .add g h) λg=>r0 g λh=>aJ a λa=>av h (aa (some (z.iface 9 (.str [108,101,110,32,111,117,116,32,111,102,32,114,97,110,103,101]))) λa=>ms f a d e) (a (zU c 5 b 3 g 20 h) d e)) λa=>av h (a (J c 12 h) d e) (g (J c 12 h) d e)) (J (zV (bN [b]) 2 .ax 3 (.Z 0) 9 b 10 e) 11 (.Z 0)) c d
theorem JJ:dV X 117 [a0] (Cx X a0):=⟨Zk,Zk⟩
def Cy:Za0:=λa b c d e f=>aD a 115 [b] c d (λa b c=>aa (dX .not a) λa=>e a b c) f
theorem JL:dV X 118 [a0] (Cy X a0):=⟨Zk,Zk⟩
def Cz:Za0:=λa b c d e f=>aa (fX [.Z 0] d) λg=>dQ a c d g.1 g.2 λc d g=>kP a d c 0 λd=>aa (fX [.Z 0] g) λh=>dQ a d g h.1 h.2 λd g h=>kP a g d 0 λg=>aa (fX [.nilFunc] h) λi=>dQ a g h i.1 i.2 λg h i=>aa (cW a h 1 g (.func (.func 145) [] [d,c,g])) λd=>aa (ay a d g) λg=>e9 a g [b] d i (λ_ b d=>aa (ay a b c) λa=>e a b d) f
theorem JN:dV X 119 [a0] (Cz X a0):=⟨Zk,Zk⟩
def C3:Za1:=λa b c d e f g=>aD a 32 [b,c] d e (λa b c=>mA a λa=>f a b c) g
theorem KX:dV X 15 [a0,aL] (C3 X a0 aL):=⟨Zk,Zk⟩
def yx:Za1:=λa b c d e f g=>aa (b7 a d .eql 40 true b .bH) λh=>d7 h c d e λd e i=>dc h (aK .eql d (.Z 0)) e i λd e i=>bT (λd=>aJ (λb c d=>hL b λe=>kO e λe=>h1 b 8 a c λ_ _ h=>ec h (λa b c=>c9 a 5 λa=>f a b c) λf i=>cF (λb c d e=>dD c 21 20 λf=>aJ (λc d e=>h0 (λa c d=>c9 a 21 λe=>b (J a 21 e) c d) c 19 21 a d λb f=>c1 c 5 1 λh i=>aD a 71 [f,i] d e (λd e g=>aa (jn a e .max [3,3] [h,d]) λa=>b (zT c 7 f 5 a) e g) g) λa=>av f (a (J c 22 f) d e) (i (J c 22 f) d e)) (J (zV b 1 e 5 (.Z 0) 19 h 20 f) 21 (.Z 0)) c d) λa=>av d (f (.Z 0) e i) (a (zT (bN [b,c]) 4 (.Z 0) 13 d) e i)) λa=>av h (a .zV) (a d)
theorem Ed:dV X 71 [a0,aL] (yx X a0 aL):=⟨Zk,Zk⟩
def CG:Za1:=λa b c d e f g=>aD a 124 [b] d e (λd e h=>aJ (λb c d=>vt b a c 25 λe=>aJ (λ_ a b=>f .zV a b) λf=>av e (cU (d+14) λd=>ot b 1 a c 0 λh=>h1 b 2 a c λ_ _ i=>aD a 89 [h,i] c d (λc d h=>eG c λc i=>aJ f λf=>oq i f λf j=>av f (cU (h+6) λh=>gg b 1 a d λk=>h1 b 1 a d λ_ _ l=>aD a 90 [k,.Z 23,l] d h (λ_ a d=>j (zV b 34 e 6 c 7 i 47 f) a d) g) (ot b 1 a d 1 λk=>aa (aK .geq c k) λk=>aJ j λj=>av k (cU (h+6) λh=>gg b 1 a d λl=>h1 b 1 a d λ_ _ m=>aD a 90 [l,.Z 25,m] d h (λ_ a d=>j (J (zV b 34 e 6 c 7 i 47 f) 56 k) a d) g) (j (J (zV b 34 e 6 c 7 i 47 f) 56 k) d h))) g) (f (J b 34 e) c d)) λf=>av d (cU (h+15) λi=>aa (ay a e c) λj=>dC j 2 a e λ_ j=>dC b 2 a e λ_ k=>vp h 12 a e λe h=>aD a 13 [j,k] h i (λh i j=>eG h λh k=>aa (cW a i 11 e h) λe=>oq k f λf h=>av f (cU (j+6) λi=>aa (ay a e c) λj=>dC b 1 a e λ_ l=>aD a 90 [j,.Z 23,l] e i (λ_ a e=>h (zV (bN [b,c]) 3 .zT 9 d 5 k 23 f) a e) g) (h (zV (bN [b,c]) 3 .zT 9 d 5 k 23 f) e j)) g) (f (zT (bN [b,c]) 3 .zT 9 d) e h)) g
theorem JV:dV X 123 [a0,aL] (CG X a0 aL):=⟨Zk,Zk⟩
def CH:Za0:=λa b c d e _=>dC b 0 a c λ_ f=>aa (aK .eql f (.Z 2)) λf=>d7 f b c d λc d g=>rW f c d g a 6 λc d g=>bT (λc=>d7 c b d g λb d f=>rW c b d f a 24 λa b d=>bT (λa=>e a b d) λb=>av c (b .zV) (b a)) λa=>av f (a .zV) (a c)
theorem JX:dV X 124 [a0] (CH X a0):=⟨Zk,Zk⟩
def Cm:Za0:=λa b c d e _=>eW a c d b λc d f=>cS 0 c a d λ_ g=>aJ (λb c d=>fd b 1 2 a c λ_ f=>aa (aK .geq f (.Z 1)) λf=>wQ f (b 1) (λa=>es 2 a) c d λb c d=>cR f (ay a c b) c d λa b c=>cR f (aK .leq a (.Z 64)) b c λa b c=>bT (λa=>e a b c) λb=>av f (b a) (b .zT)) λh=>av g (cS 1 c a d λ_ b=>aa (dX .not b) λb=>kN b 2 c d f a λa c d=>cR b (aK .eql a (.Z 1)) c d λa c d=>bT (λa=>e a c d) λc=>av b (c a) (c .zT)) (h (zU (bN [b]) 1 c 2 .zT 4 g) d f)
theorem Jl:dV X 100 [a0] (Cm X a0):=⟨Zk,Zk⟩
def CT:Za0:=λ_ a b c d _=>aa (aK .lss a (.int .i32 97)) λe=>d7 e a b c λb c f=>dc e (aK .gtr b (.int .i32 122)) c f λb c f=>bT (λb=>fL b a c f λc e f=>cR b (aK .lss c (.int .i32 65)) e f λc e f=>fL b c e f λc e f=>d7 c a e f λe f g=>dc c (aK .gtr e (.int .i32 90)) f g λe f g=>gM b (λa=>bT (λb=>a b f g) λa=>av c (a .zV) (a e)) f g λc e f=>bT (λb=>fL b a e f λc e f=>cR b (aK .lss c (.int .i32 48)) e f λc e f=>fL b c e f λc e f=>d7 c a e f λe f g=>dc c (aK .gtr e (.int .i32 57)) f g λe f g=>gM b (λa=>bT (λb=>a b f g) λa=>av c (a .zV) (a e)) f g λc e f=>bT (λb=>fL b a e f λa c e=>cR b (aK .neq a (.int .i32 95)) c e λa c e=>bT (λa=>d a c e) λc=>av b (c a) (c .zT)) λa=>av b (a c) (a .zT)) λa=>av b (a c) (a .zT)) λa=>av e (a .zV) (a b)
theorem Kn:dV X 140 [a0] (CT X a0):=⟨Zk,Zk⟩
def CU:Za1:=λa b c d e f g=>aD a 155 [b,c,.zV] d e f g
theorem Kp:dV X 141 [a0,aL] (CU X a0 aL):=⟨Zk,Zk⟩
def DO:Za1:=λa b c d e f g=>aD a 11 [b,c] d e (λa b c=>mA a λa=>f a b c) g
theorem Mb:dV X 48 [a0,aL] (DO X a0 aL):=⟨Zk,Zk⟩
def CV:Za0:=λa b c d e f=>aa (hG b) λg=>aa (aK .lss g (.Z 2)) λg=>aJ (λb c d=>ol b 1 λg=>ou a 99 g c d f λc d g h=>cN b λi=>aa (b7 a c .eql 9 true i (.str [98,111,111,108])) λi=>d7 i h c d λc d h=>dc i (b7 a d .eql 138 true c .nilIface) d h λc d h=>d7 i c d h λc d h=>hE c (b 0) d h λd h j=>hE c (b 0) h j λb h j=>cR c (ia b (.Z 0)) h j λb h j=>cR c (aK .eql b (.int .u8 105)) h j λb h j=>fL c g h j λg h j=>cR c (dl [.zT,.zT,.Z 0] [(1,1,b),(2,1,g)]) h j λb g h=>gM c (λc=>aD a 143 [b] g h c f) g h λb f g=>cR c (b7 a f .eql 9 false d b) f g λa b d=>hD i (λe=>bT (λa=>e a b d) λb=>av c (b a) (b .zT)) b d λa b c=>bT (λa=>e a b c) λb=>av i (b .zV) (b a)) λa=>av g (e .zT c d) (a (zT (bN [b]) 2 .zT 7 g) c d)
theorem Kr:dV X 142 [a0] (CV X a0):=⟨Zk,Zk⟩
def CX:Za1:=λa b c d e f g=>r0 c λh=>aJ (λb c d=>c1 b 1 0 λe g=>aa (jn a c .cap [34] [g]) λg=>cN b λh=>aa (c0 h) λh=>aa (aK .sub g h) λg=>aa (aK .sub e g) λe=>rZ e λg=>aJ (λa b c=>cN a λa=>f a b c) λf=>av g (c1 b 0 0 λh i=>aa (jn a c .cap [34] [i]) λi=>aa (fw a c 8 h none (some i) none) λh=>ek (k7 a c d .append [34,3] [h,e]) c d λc d h=>cN b λi=>aa (c0 i) λi=>aa (fw a d 8 c none (some i) none) λa=>f (zU b 1 e 16 g 0 a) d h) (f (zT b 1 e 16 g) c d)) λa=>av h (aa (some (z.iface 9 (.str [99,97,110,110,111,116,32,98,101,32,110,101,103,97,116,105,118,101]))) λa=>ms g a d e) (a (zT (bN [b,c]) 4 .ax 6 h) d e)
theorem Kv:dV X 144 [a0,aL] (CX X a0 aL):=⟨Zk,Zk⟩
def CY:Za3:=λa b c d e f g h i=>aa (ay a f c) λj=>ns j λj=>gl a f c j λf=>aJ (λb c d=>gg b 1 a c λe=>kO e λe=>hL b λb=>gl a c b e λa=>h (.tuple []) a d) λh=>aa (b7 a f .eql 40 true b .bH) λj=>d7 j b f g λf g k=>r2 j (λb=>aD a 146 [f] g k b i) g k λf g k=>bT (λf=>aJ h λh=>av f (kP a g d 1 λa=>h (J (bN [b,c,d,e]) 22 f) a k) (aa (ay a g c) λj=>aa (aK .gtr j (.Z 200)) λj=>aJ h λh=>av j (aa (ay a g d) λi=>jg i 0 h λh i=>av h (kP a g d 22 λa=>i (zU (bN [b,c,d,e]) 22 f 30 j 34 h) a k) (i (zU (bN [b,c,d,e]) 22 f 30 j 34 h) g k)) (dC b 8 a g λ_ l=>aa (c0 l) λm=>aJ h λh=>cF (λb c d e=>dD c 14 13 λf=>aJ (λc d e=>h0 (λa c d=>c9 a 14 λe=>b (J a 14 e) c d) c 12 14 a d λb f=>gg c 3 a d λg=>e9 a g [f] d e (λ_ a d=>b (J c 6 f) a d) i) λa=>av f (a (J c 15 f) d e) (h (J c 15 f) d e)) (J (zV (bN [b,c,d,e]) 22 f 30 j 12 l 13 m) 14 (.Z 0)) g k))) λa=>av j (a .zV) (a f)
theorem Kx:dV X 145 [a0,aL,bt,a3] (CY X a0 aL bt a3):=⟨Zk,Zk⟩
def CZ:Za0:=λa b c d e f=>cU (d+12) λg=>aa (ay a c (.ptr 7 0)) λh=>dC b 0 a c λ_ i=>aa (fb a c 3 (.agg [.Z 0,.zT,.zT,.zT]) h i true) λh=>eG h λh i=>aa (fX [.Z 0,.zT,.zT,.zT] (d+9)) λj=>hb a c (d+9) j.1 j.2 λc d=>aa (cW a d 4 c h) λd=>aa (dX .not i) λh=>aJ (λb c d=>cU (d+34) λd=>jM b a c λg=>aa (aK .lss g (.Z 1)) λg=>yc g b c 0 a λc h=>m5 g (aK .gtr c (.Z 26)) h λc h=>bT (λc=>Gr c (b 3) (λa=>es 0 a) h λg h=>m5 c (ay a h g) h λg h=>m5 c (aK .geq g (.Z 0)) h λg h=>wO c g h λg h=>pM g b 0 h 8 a λh i=>gc g (c0 h) i λh i=>wP g (b 3) (λa=>es 0 a) i λi j=>gc g (ay a j i) j λi j=>gc g (aK .neq h i) j λh i=>wN c (λa=>bT (λb=>a b i) λa=>av g (a h) (a .zT)) i λg h=>bT (λc=>yc c b h 8 a λg h=>hD c (λb=>aD a 156 [g,.bH] h d b f) h d λd g h=>bT (λc=>aJ (λb c d=>cU (d+33) λd=>fd b 3 1 a c λ_ g=>h1 b 2 a c λ_ _ h=>aa (b7 a c .neq 9 true h (.str [])) λh=>aa (b7 a c .neq 4 false g h) λg=>Gr g (b 3) (λa=>es 1 a) c λc h=>m5 g (ay a h c) h λc h=>wO g c h λc h=>pM c b 0 h 2 a λh i=>gM c (λb=>aD a 115 [h] i d b f) i d λd h i=>gc c (dX .not d) h λd h=>wN g (λa=>bT (λb=>a b h) λa=>av c (a d) (a .zT)) h λc d=>bT (λc=>yc c b d 3 a λd g=>wO c d g λd g=>pM d b 0 g 0 a λg h=>gc d (aK .neq g (.Z 6)) h λg h=>wN c (λa=>bT (λb=>a b h) λa=>av d (a g) (a .zT)) h λd g=>bT (λc=>aJ (λb c d=>fd b 3 2 a c λ_ g=>aa (dX .not g) λg=>yb g b c d a λc d h=>cR g (dl [.zT,.zT,.Z 0] []) d h λd h i=>cR g (b7 a h .neq 52 false c d) h i λc d h=>bT (λc=>Gs c (b 3) (λa=>es 2 a) d h λd g h=>dc c (ay a g d) g h λd g h=>d7 c d g h λd g h=>yb d b g h a λg h i=>gM d (λb=>aD a 100 [g] h i b f) h i λg h i=>cR d (dX .not g) h i λg h i=>hD c (λa=>bT (λb=>a b h i) λa=>av d (a g) (a .zT)) h i λd g h=>bT (λc=>Gs c (b 3) (λa=>es 3 a) g h λd g h=>dc c (ay a g d) g h λd g h=>dc c (dX .not d) g h λd g h=>d7 c d g h λd g h=>hE d (b 0) g h λg h i=>om d g h i 7 a λg h i=>cR d (aK .neq g (.int .u64 0)) h i λg h i=>hD c (λa=>bT (λb=>a b h i) λa=>av d (a g) (a .zT)) h i λd g h=>bT (λc=>aJ (λb c d=>jM b a c λg=>aJ (λ_ a b=>e .zV a b) λh=>jg g 1 h λh i=>av h (cN b λb=>aD a 157 [b] c d e f) (aa (aK .eql g (.Z 19)) λf=>aJ (λb c d=>bu (b 128) λf=>aJ i λg=>av f (h1 b 7 a c λ_ _ a=>aa (aK .leq a (.int .u64 63)) λa=>e a c d) (jf b 123 21 λf=>aJ g λg=>av f (h1 b 8 a c λ_ _ b=>r1 1 b λb=>aa (ay a c b) λb=>dC b 0 a c λ_ f=>aa (aK .eql f (.Z 1)) λf=>d7 f b c d λc d g=>rW f c d g a 4 λc d g=>d7 f c d g λc d g=>fL c b d g λd g h=>om c d g h 8 a λd g h=>cR c (c0 d) g h λd g h=>cR c (aK .eql d (.Z 1)) g h λd g h=>hD f (λa=>bT (λb=>a b g h) λa=>av c (a d) (a .zT)) g h λc d g=>d7 f c d g λc d g=>fL c b d g λd g h=>om c d g h 8 a λd g h=>cR c (c8 1 d (.Z 0)) g h λd g h=>cR c (ay a g d) g h λd g h=>cR c (b7 a g .neq 40 true d .bH) g h λd g h=>hD f (λa=>bT (λb=>a b g h) λa=>av c (a d) (a .zT)) g h λc d g=>d7 f c d g λc d g=>fL c b d g λb d g=>om c b d g 8 a λb d g=>cR c (c8 1 b (.Z 0)) d g λb d g=>cR c (ay a d b) d g λb d g=>om c b d g 0 a λa b d=>cR c (aK .eql a (.Z 1)) b d λa b d=>hD f (λe=>bT (λa=>e a b d) λb=>av c (b a) (b .zT)) b d λa b c=>bT (λa=>e a b c) λb=>av f (b .zV) (b a)) (g (J b 136 f) c d))) λa=>av f (a (zU b 123 g 124 h 128 f) c d) (aa (aK .eql g (.Z 20)) λe=>a (zV b 123 g 124 h 128 f 128 e) c d))) λa=>av c (e .zT g h) (a (J b 119 c) g h)) λa=>av c (a .zV) (a d)) λa=>av c (a .zV) (a d)) λa=>av g (a c) (a .zT)) λa=>av c (e .zT g i) (a (J b 84 c) g i)) λa=>av c (a .zV) (a d)) λa=>av g (a .zV) (a c)) λa=>av c (e .zT g h) (a (J b 51 c) g h)) λa=>av c (a .zV) (a d)) λa=>av c (a .zV) (a g)) λa=>av g (a .zV) (a c)) λe=>av h (aa (dl [.Z 0,.zT,.zT,.zT] [(0,1,.Z 2)]) λf=>aa (cW a d 4 c f) λa=>e (zV (bN [b]) 2 .zT 3 c 4 i 16 h) a g) (e (zV (bN [b]) 2 .zT 3 c 4 i 16 h) d g)
theorem Kz:dV X 146 [a0] (CZ X a0):=⟨Zk,Zk⟩
def Dz:Za1:=λa b c d e f g=>ec b (λ_ a b=>f (.Z (-1)) a b) λh i=>cF (λb c d e=>dD c 8 7 λh=>aJ (λc d e=>fe (λa c d=>c9 a 8 λe=>b (J a 8 e) c d) c 8 1 λb h i=>cN c λj=>fS j h a d λj=>e9 a i [j] d e (λa d e=>aJ b λb=>av a (f h d e) (b (zT c 5 h 16 a) d e)) g) λa=>av h (a (J c 9 h) d e) (i (J c 9 h) d e)) (zU (bN [b,c]) 4 (.Z 0) 7 h 8 (.Z 0)) d e
theorem LD:dV X 32 [a0,aL] (Dz X a0 aL):=⟨Zk,Zk⟩
def C7:Za2:=λa b c d e f g h=>ek (BJ a e f b) e f λe f i=>aJ (λ_ a b=>g (.Z (-1)) a b) λj=>cF (λb c d e=>bu (c 10) λf=>o5 (jt a fO true d e (fc f)) d e λd e f=>aa (hZ 0 d) λi=>aJ (λc d e=>aJ b λb=>bu (c 11) λf=>aa (hZ 1 f) λf=>bu (c 11) λi=>aa (hZ 2 i) λi=>hL c λj=>e9 a j [i] d e (λd e h=>gD c λj=>aa (b7 a e .eql 4 false d j) λa=>aJ b λb=>av a (g f e h) (b (zU c 7 f 8 i 19 a) e h)) h) λa=>av i (a (zT c 11 d 12 i) e f) (j (zT c 11 d 12 i) e f)) (zT (bN [b,c,d]) 6 (.Z 0) 10 e) f i
theorem KN:dV X 155 [a0,aL,bt] (C7 X a0 aL bt):=⟨Zk,Zk⟩
def yr:Za1:=λa b c d e f _=>ec b (λ_ a b=>f (.Z (-1)) a b) λg h=>cF (λb c d e=>dD c 8 7 λg=>aJ (λc d e=>fe (λa c d=>c9 a 8 λe=>b (J a 8 e) c d) c 8 1 λb g h=>cN c λi=>fS i g a d λi=>aa (b7 a d .eql 9 false h i) λa=>aJ b λb=>av a (f g d e) (b (zT c 5 g 16 a) d e)) λa=>av g (a (J c 9 g) d e) (h (J c 9 g) d e)) (zU (bN [b,c]) 4 (.Z 0) 7 g 8 (.Z 0)) d e
theorem CB:dV X 11 [a0,aL] (yr X a0 aL):=⟨Zk,Zk⟩
def C8:Za1:=λa b c d e f g=>aD a 162 [b,c] d e (λa b c=>mA a λa=>f a b c) g
theorem KP:dV X 156 [a0,aL] (C8 X a0 aL):=⟨Zk,Zk⟩
def C9:Za0:=λa b c d e f=>gB b 4 λg=>cS 2 g a c λ_ g=>gB b 4 λh=>cS 1 h a c λ_ h=>aJ (λb c d=>vt b a c 1 λg=>yb g b c d a λc d h=>gM g (λb=>aD a 100 [c] d h b f) d h λc d f=>bT (λc=>hE c (b 3) d f λd f g=>cR c (aK .eql d (.Z 64)) f g λd f g=>fL c d f g λd f g=>lb d (b 0) f g λf g h=>r3 d f g h 7 a λa f g=>lb d (b 3) f g λb f g=>dc d (aK .shr a b) f g λa b f=>dc d (aK .eql a (.int .u64 0)) b f λa b f=>gM c (λc=>bT (λa=>c a b f) λb=>av d (b .zV) (b a)) b f λa b d=>bT (λa=>e a b d) λb=>av c (b a) (b .zT)) λa=>av g (a c) (a .zT)) λa=>av h (kO g λe=>a (zV (bN [b]) 2 .zT 3 g 13 h 3 e) c d) (a (zU (bN [b]) 2 .zT 3 g 13 h) c d)
theorem KR:dV X 157 [a0] (C9 X a0):=⟨Zk,Zk⟩
def De:Za1:=λa b c d e f _=>ec b (λ_ a b=>f (.Z (-1)) a b) λg h=>cF (λb c d e=>dD c 8 7 λg=>aJ (λc d e=>fe (λa c d=>c9 a 8 λe=>b (J a 8 e) c d) c 8 1 λb g h=>cN c λi=>fS i g a d λi=>aa (b7 a d .eql 40 false h i) λa=>aJ b λb=>av a (f g d e) (b (zT c 5 g 16 a) d e)) λa=>av g (a (J c 9 g) d e) (h (J c 9 g) d e)) (zU (bN [b,c]) 4 (.Z 0) 7 g 8 (.Z 0)) d e
theorem K3:dV X 162 [a0,aL] (De X a0 aL):=⟨Zk,Zk⟩
def H1(a:al)(b:aY):ds:=λc d e=>ig a [.tmp 2] b c c.aP d e
def HF(a:al)(b c:aY):kY:=λd e f g=>nb a [.tmp 2] b c d e d.aP f g
def Ek:Za0:=λa b c d e f=>eW a c d b λc d g=>pN a d g λd g h=>aa (dl [.gO,.ax] [(0,1,d)]) λd=>eW a g h d λd g h=>aa (fX [.bH] h) λi=>dQ a g h i.1 i.2 λg h i=>gl a h g d λd=>aa (ca a d 6 c) λh=>aD a 24 [h] d i (λd h i=>aJ (λb c d=>fd b 1 5 a c λ_ f=>ec f (λb c d=>gg b 3 a c λf=>H1 a e (J b 2 f) c d) λe g=>cF (λb c d e=>dD c 56 55 λf=>aJ (λc d e=>fe (λa c d=>c9 a 56 λe=>b (J a 56 e) c d) c 56 54 λb f g=>bu (c 56) λh=>rV g h a d e λd e g=>nt 0 d a g λh i=>aJ b λb=>cF (λc d e f=>dD d 64 63 λg=>aJ (λb d e=>fe (λa b d=>c9 a 64 λe=>c (J a 64 e) b d) b 64 62 λc f g=>bu (b 64) λh=>fS g h a d λg=>ot b 3 a d 0 λh=>x4 a d h g λh=>tt h e a d λd e h i=>kN d 9 e i h a λh i j=>cR d (aK .lss h (.Z 0)) i j λh i j=>bT (λh=>aJ c λc=>av h (bu (b 8) λk=>kQ 9 e a i k λi=>kQ 10 e a i f λi=>cU (j+7) λj=>ot b 3 a i 0 λk=>aa (ca a i 11 e) λl=>ek (ib a i j 9 k g l) i j λ_ a i=>c (J (zV b 10 f 11 g 12 e 13 d) 83 h) a i) (c (J (zV b 10 f 11 g 12 e 13 d) 83 h) i j)) λa=>av d (a h) (a .zT)) λa=>av g (a (J d 65 g) e f) (b (J d 65 g) e f)) (J (zV c 9 d 8 f 62 h 63 i) 64 (.Z 0)) g e) λa=>av f (a (J c 57 f) d e) (g (J c 57 f) d e)) (zU b 54 f 55 e 56 (.Z 0)) c d) λj=>rs a 97 d [19,20] (lo a (λ_ _ b _ _ c d e=>bu (c 19) λf=>rU e a d λd e g=>bu (c 20) λh=>aa (cW a e 8 d h) λa=>b (zT c 4 f 5 d) a g) λ_ _ b _ _ c d e=>aJ b λb=>cU (e+13) λf=>ot c 3 a d 0 λg=>fd c 5 0 a d λ_ h=>x4 a d g h λg=>eG g λg h=>vp e 10 a d λd e=>aa (cW a e 11 d g) λd=>oq h b λb e=>av b (cU (f+10) λf=>ot c 3 a d 0 λg=>fd c 5 0 a d λ_ i=>c1 c 4 5 λj k=>aa (ca a d 8 k) λk=>aa (dl [.Z 0,.str [],.Z 0,.zT,.zT,.Z 0,.str [],.Z 0,.zT,.Z 0,.Z 0] [(0,1,j),(1,8,k),(9,1,.Z (-1)),(10,1,.Z (-1))]) λj=>ek (ib a d f 9 g i j) d f λ_ d f=>cU (f+12) λg=>gg c 3 a d λi=>ot c 3 a d 1 λj=>fd c 5 0 a d λ_ k=>aa (ea 1 [.str []] [(0,1,k)] (f+7)) λk=>hb a d (f+7) k.1 k.2 λd f=>lX a f g j d λd f g=>gB i 1 λj=>gg c 3 a f λk=>d3 k (some i) (gl a f j d λa=>e (zT c 7 h 32 b) a g)) (e (zT c 7 h 32 b) d f)) j (qq 0 j λ_ _ _ _=>False) (H1 a e) (HF a e f) (zV (bN [b]) 1 c 2 .bH 3 g 18 d) h i) (HF a e f (eI [17,18] (zU (bN [b]) 1 c 2 .bH 3 g)))
def M5:o2 X 8 [a0] a b T ab=Ek X a0 a b T ab:=Zk
def M4:bJ X 8 1=true:=Zk
def CM:Za1:=λa b c d e f _=>aa (fX [.Z 0,.str [],.Z 0,.zT,.zT,.Z 0,.str [],.Z 0,.zT,.Z 0,.Z 0] e) λg=>dQ a d e g.1 g.2 λd e g=>aa (b7 a e .eql 43 true b .bH) λh=>aJ (λb c d=>jM b a c λe=>hL b λg=>x4 a c e g λe=>tt e d a c λc d e g=>pP a g 11 d b 4 λa b=>f (.tuple [b,c]) a e) λi=>av h (aa (dl [.Z 0,.str [],.Z 0,.zT,.zT,.Z 0,.str [],.Z 0,.zT,.Z 0,.Z 0] []) λb=>pO a e 11 d b λa b=>f (.tuple [b,.zT]) a g) (i (zU (bN [b,c]) 4 d 5 .zT 9 h) e g)
theorem Kl:dV X 13 [a0,aL] (CM X a0 aL):=⟨Zk,Zk⟩
def CW:Za0:=λa b c d e f=>eW a c d b λc d g=>aJ (λb c d=>fd b 1 2 a c λ_ b=>aD a 136 [b] c d (λb c d=>aa (b7 a c .add 9 true (.str [117]) b) λa=>e a c d) f) λh=>jK a d 3 c 100 g f λd g i=>oq d h λd h=>av d (e (.str []) g i) (cS 0 c a g λ_ j=>aJ h λh=>av j (e (.str [98,111,111,108]) g i) (cS 1 c a g λ_ k=>aJ h λh=>av k (oo 2 c a g 136 i f λb c d=>aa (b7 a c .add 9 true (.str [105]) b) λa=>e a c d) (h (J (zV (bN [b]) 1 c 2 (.str []) 3 d 7 j) 10 k) g i)))
theorem Kt:dV X 143 [a0] (CW X a0):=⟨Zk,Zk⟩
def eL:Nat->aX->Nat
 |0,_=>0|k+1,e=>e.args.foldl (λh a=>max h (eL k a)) 0+1
def Rc:∀k e,eL k e<=k:=by
 intro k;induction k with
 |zero=>intro e;simp[eL]|succ k U=>
  intro e
  have:∀(l:List aX) h,h<=k->l.foldl (λh a=>max h (eL k a)) h<=k:=by intro l;induction l with|nil=>intro h b;exact b|cons a l c=>intro h b;exact c _ (Nat.max_le.2 ⟨b,U a⟩)
  have:=this e.args 0 Zo;show _+1<=k+1;omega
def S0{C:al}{q:E S}(a b:Nat):jn C q .max [3,3] [.Z (a:Int),.Z (b:Int)]=some (.Z (max a b:Nat)):=by show h5 true (.Z a) [.Z (b:Int)]=_;simp only[h5,cY,la,ZL];congr 2;split<;>simp_all<;>omega
def tf{X:bi}{q:E S}(b:Nat):b7 X q .eql 40 true (.ptr b 0) .bH=some .zT:=Zk
variable{X:bi}{q D au am:E S}{u Z ap aw an bd:Nat}{az:List Tok}{i:Nat}
def Ra(t:bZ X):∀(k:Nat),k<=1000->∀q u P e v,(y X).aB<=u->bF X q P e v->(∀o,P o->o<u)->
 aD X 71 [v,.Z (k:Int)] q u (λR D Z=>R=.Z (eL k e:Nat)/\aU X q u D Z) zX:=by
 intro k;induction k with
 |zero=>intro _ q u P e v T7 l aV;refine Fd t (Ed ..) ?_;unfold yx;obtain⟨b,rfl,W,_⟩:=l.ptr;have T4:=aV b W;refine bE @tf @Int.natCast_zero ⟨?_⟩;exact⟨rfl,cf⟩
 |succ k U=>
  intro U1 q u P e v T7 l aV;refine Fd t (Ed ..) ?_;unfold yx;obtain⟨b,aE,bC,aG,rfl,W,a0,aL,bt,a3,a4,a5,fq,fV,f9,n,has⟩:=l.open;have T4:=aV b W;have x:=n.len;have A:=has.len;have U2:((k+1:Nat):Int)=(k:Int)+1:=Zo;have d:decide (((k+1:Nat):Int)=0)=false:=by simp;omega
  have L:aK .sub (.Z (k+1:Nat)) (.Z 1)=some (.Z k):=by rw[ju Zo Zo];congr 2;omega
  have T6:=n.many;rw[Zj,A]at T6;rw[Zj,A]at x;refine dA @tf @d @L @f9 @x ⟨?_⟩;refine cM (λm B D TY=>∃(j:Nat) (h:Nat),B.g 1=some (.Z k)/\B.g 5=some (.Z h)/\B.g 19=some aE/\B.g 20=some (.Z e.args.length)/\B.g 21=some (.Z j)/\j+m=e.args.length/\h<=k/\aU X q u D TY/\eL (k+1) e=(e.args.drop j).foldl (λh a=>max h (eL k a)) h+1)
   e.args.length ⟨0,0,aC,cT,aC,aC,cT,Zo,Zo,aU.refl _ _,by simp[eL]⟩ ?_
  rintro m B am aw ⟨j,h,t1,t5,C,p,r,U0,T5,g,f⟩;have U3:=g.le;have N:=zQ j;have O:=zQ h;cases m with|zero=>have i:=zM j e.args.length;rw[ZM Zo]at f;simp only[List.foldl_nil]at f;refine dA @r @p @t5 @i @O ⟨?_⟩;exact⟨by first|rw[f]|(simp only[f];rfl),g⟩|succ m=>have i:=zN j e.args.length;obtain⟨a,w⟩:=zO e.args j;obtain⟨v,T8,T3⟩:=has.get j a w;obtain⟨T1,T2,TZ⟩:=(n.M λo c=>g.M o (aV o c)).one T8;refine cu @r @p @t5 @C @t1 @i (Za @T1 @T2) ⟨?_⟩;refine(U Zo am aw P a v Zo (T3.M λo c=>g.M o (aV o c)) (λo c=>zL (aV o c))).Zm ?_;rintro U6 G U5 ⟨rfl,s⟩;have U4:=s.le;have T0:jn X G .max [3,3] [.Z (h:Int),.Z ((eL k a:Nat):Int)]=some (.Z ((max h (eL k a):Nat):Int)):=S0 _ _;refine cg @T0 @r @N ⟨?_⟩;refine⟨m,Zo,j+1,max h (eL k a),af t1,aC,af C,af p,aC,Zo,Nat.max_le.2 ⟨T5,Rc k a⟩,g.trans s, ?_⟩;have ai:e.args.drop j=a::e.args.drop (j+1):=(by obtain⟨T9,c⟩:=Ze.1 w;rw[Zz T9,c]);rw[ai,Z6]at f;exact f
def pk:List cA->Option Int
 |[]=>none|V::l=>if 200<eL 201 V.right then some V.at_ else pk l
def kC:List GT->Option (Int×Int)
 |[]=>none|g::l=>if 256<g.cm.length+g.out.length+g.loc.length\/4096<g.eqs.length then some (30,g.at_)else match pk g.eqs with
  |some a=>some (22,a)|none=>kC l
def jw(Y:List GT):Option (Int×Int):=match Y[64]? with
 |some g=>some (30,g.at_)|none=>kC Y
def Q9(a:bZ X){P:Nat->Prop}{e:aX}{v:z}(c:(y X).aB<=u)(b:bF X q P e v)(aV:∀o,P o->o<u):
 aD X 42 [v] q u (λR D Z=>R=.Z (eL 201 e:Nat)/\aU X q u D Z) zX:=by
 refine Fd a (LZ ..) ?_;unfold DI;exact(Ra a 201 Zo q u P e v c b aV)
def SA(UH:bZ X){P:Nat->Prop}{Y:List GT}{v:z}(V5:(y X).aB<=u)(Ue:iP X q P Y v)(aV:∀o,P o->o<u):
 aD X 21 [v] q u (λR D Z=>jw Y=none/\R=.tuple []/\aU X q u D Z) (λR D Z=>∃k a,jw Y=some (k,a)/\R=iU k a/\aU X q u D Z):=by
 refine Fd UH (Ln ..) ?_;unfold Dp;obtain⟨b,aE,bC,aR,rfl,V0,a0,N,U8⟩:=Ue;have Uf:=U8.wide;have UA:=N.len;have Uj:=N.many;rw[Uf.1]at UA Uj;by_cases Ua:64<Y.length
 ·obtain⟨g,UI⟩:∃g,Y[64]? =some g:=⟨_,Zb Ua⟩;obtain⟨row,O,T4⟩:=U8.get 64 g UI;have U9:=N.c4 64 Zo;obtain⟨bK,bO,UD,T9,bc,bp,bG,UV,Ux,rfl,_⟩:=T4;have Uc:=N.cell 64 _ 1 _ O rfl;have d:decide ((64:Int)<(Y.length:Int))=true:=by simp;omega
  have Ug:c8 6 aE (.Z 64)=some (.ptr bC (64*6)):=U9;refine dA @a0 @UA @d @Ug @Uc ⟨?_⟩;refine⟨⟨30,g.at_,by simp[jw,UI],rfl,aU.refl _ _⟩⟩
 ·have Ui:jw Y=kC Y:=by simp[jw,Yt (by omega:Y.length<=64)]
  have d:decide ((64:Int)<(Y.length:Int))=false:=by simp;omega
  rw[Ui];refine cg @a0 @UA @d ⟨?_⟩;refine cM (λm B D UC=>∃(j:Nat),B.g 24=some aE/\B.g 25=some (.Z Y.length)/\B.g 26=some (.Z j)/\j+m=Y.length/\aU X q u D UC/\kC Y=kC (Y.drop j))
   Y.length ⟨0,aC,aC,cT,Zo,aU.refl _ _,rfl⟩ ?_
  rintro m B am aw ⟨j,A,p,r,V1,s,L⟩;have V2:=s.le;have UW:=zQ j;cases m with
  |zero=>have TZ:=zM j Y.length;rw[ZM Zo]at L;refine cg @r @p @TZ ⟨?_⟩;exact⟨L,rfl,s⟩|succ m=>
   have TZ:=zN j Y.length;obtain⟨g,UJ⟩:=zO Y j;have ai:Y.drop j=g::Y.drop (j+1):=(by obtain⟨UB,e⟩:=Ze.1 UJ;rw[Zz UB,e]);rw[ai]at L;obtain⟨row,O,T4⟩:=U8.get j g UJ;have U9:=N.c4 j Zo;have Uq:=(N.M λo e=>s.M o (aV o e)).row Zd O;have Uk:=T4.M (aI:=P) (λo e=>s.M o (aV o e)) (λ_ h=>h);have Um:=T4.dU;obtain⟨bK,bO,UD,T9,bc,bp,bG,UV,Ux,rfl,UM,UN,UO,T8,UP⟩:=Uk;have bw:=UM.len;have T5:=UN.len;have T6:=UO.len;have T7:=T8.len;have Ut:=UM.many;have Uu:=UN.many;have w:=UO.many;have Uv:=T8.many;have UR:=UP.wide;rw[Zj]at bw T5 T6 Ut Uu w;rw[UR.1]at T7 Uv;have U3:aK .add (.Z g.cm.length) (.Z g.out.length)=some (.Z (g.cm.length+g.out.length:Nat)):=(by rw[cp Zo Zo];rfl);have U4:aK .add (.Z (g.cm.length+g.out.length:Nat)) (.Z g.loc.length)=some (.Z (g.cm.length+g.out.length+g.loc.length:Nat)):=(by rw[cp Zo Zo];rfl);refine eg @r @p @A @TZ @U9 @Uq ⟨?_⟩;refine dg (eS (k:=6) (b:=aw) (I:=0) (n:=6) (c:=E.ofList [.str [],.Z 0,.ax,.ax,.ax,.ax] 0 .nil) (aM Zo) Zo rfl Zd Zd Um) ?_;generalize U6:aH X _ aw _=f;have G:H X f aw=some (.cells (cj (E.ofList [.str [],.Z 0,.ax,.ax,.ax,.ax] 0 .nil) 0 [.str g.name,.Z g.at_,bK,bO,UD,T9]) 6 .own):=(by rw[<-U6];exact aM Zo);have l:aU X q u f (aw+1):=s.trans (by rw[<-U6];exact cf);have Us:∀o,P o->H X f o=H X q o:=λo e=>l.M o (aV o e);clear U6;have bV:ay X f (.ptr aw 1)=some (.Z g.at_):=(by rw[a8 G];rfl);have b0:ay X f (.ptr aw 2)=some bK:=(by rw[a8 G];rfl);have C:ay X f (.ptr aw 3)=some bO:=(by rw[a8 G];rfl);have T0:ay X f (.ptr aw 4)=some UD:=(by rw[a8 G];rfl);have T1:ay X f (.ptr aw 5)=some T9:=(by rw[a8 G];rfl);by_cases UY:256<g.cm.length+g.out.length+g.loc.length
   ·have T2:decide ((256:Int)<((g.cm.length+g.out.length+g.loc.length:Nat):Int))=true:=(by simp;omega);refine cu @bV @b0 @C @T0 @T1 @bw (Za @T5 (Za @T6 (Za @T7 (Za @U3 (Za @U4 @T2))))) ⟨?_⟩;exact⟨⟨30,g.at_,by rw[L,kC,Zv (.inl UY)],rfl,l⟩⟩
   have T2:decide ((256:Int)<((g.cm.length+g.out.length+g.loc.length:Nat):Int))=false:=(by simp;omega);by_cases UZ:4096<g.eqs.length
   ·have U0:decide ((4096:Int)<(g.eqs.length:Int))=true:=(by simp;omega);refine cu @bV @b0 @C @T0 @T1 @bw (Za @T5 (Za @T6 (Za @T7 (Za @U3 (Za @U4 (Za @T2 @U0)))))) ⟨?_⟩;exact⟨⟨30,g.at_,by rw[L,kC,Zv (.inr UZ)],rfl,l⟩⟩
   have U0:decide ((4096:Int)<(g.eqs.length:Int))=false:=(by simp;omega);refine cu @bV @b0 @C @T0 @T1 @bw (Za @T5 (Za @T6 (Za @T7 (Za @U3 (Za @U4 (Za @T2 (Za @U0 (Za @A (Za @p @r))))))))) ⟨?_⟩;have W:kC Y=(match pk g.eqs with|some a=>some (22,a)|none=>kC (Y.drop (j+1))):=(by rw[L,kC,Zi Zo]);have Uo:=T8.M (D:=q) (λo e=>(s.M o (aV o e)).symm);have Uw:=UP.M (D:=q) (aI:=P) (λo e=>(s.M o (aV o e)).symm) (λ_ h=>h);refine cM (λw B D UC=>∃(i:Nat),B.g 24=some aE/\B.g 25=some (.Z Y.length)/\B.g 26=some (.Z j)/\B.g 53=some T9/\B.g 54=some (.Z g.eqs.length)/\B.g 55=some (.Z i)/\i+w=g.eqs.length/\aU X q u D UC/\pk g.eqs=pk (g.eqs.drop i))
    g.eqs.length ⟨0,af A,af p,af r,aC,aC,cT,Zo,l,rfl⟩ ?_
   clear A p r bV b0 C T0 T1 G Us l;rintro w B f x ⟨i,A,p,r,t53,UE,UF,ag,l,t⟩;have V3:=l.le;cases w with
   |zero=>have U1:=zM i g.eqs.length;rw[ZM Zo]at t;refine dA @UF @UE @U1 @r @UW ⟨?_⟩;refine⟨m,Zo,j+1,af A,af p,aC,Zo,l, ?_⟩;rw[W,t];rfl|succ w=>
    have U1:=zN i g.eqs.length;have UX:=zQ i;obtain⟨V,UL⟩:=zO g.eqs i;have Ud:g.eqs.drop i=V::g.eqs.drop (i+1):=(by obtain⟨UB,e⟩:=Ze.1 UL;rw[Zz UB,e]);rw[Ud,pk]at t;obtain⟨row,O,Un⟩:=Uw.get i V UL;have Uh:=T8.c4 i (by rw[UR.1];omega);have Up:=(Uo.M λo e=>l.M o (aV o e)).row Zd O;obtain⟨UU,UT,Uy,Uz,UQ,rfl,_,_,Ur,Ul⟩:=Un;refine eg @UF @UE @t53 @U1 @Uh @Up ⟨?_⟩;refine dg (eS (k:=4) (b:=x) (I:=0) (n:=4) (c:=E.ofList [.ax,.ax,.Z 0,.bH] 0 .nil) (aM Zo) Zo rfl Zd Zd Ul) ?_;generalize U7:aH X _ x _=TY;have UG:H X TY x=some (.cells (cj (E.ofList [.ax,.ax,.Z 0,.bH] 0 .nil) 0 [UU,UT,.Z V.at_,UQ]) 4 .own):=(by rw[<-U7];exact aM Zo);have Ub:aU X f x TY (x+1):=(by rw[<-U7];exact cf);have U5:=l.trans Ub;clear U7;have C:ay X TY (.ptr x 3)=some UQ:=(by rw[a8 UG];rfl);refine bo @C ⟨?_⟩;refine(Q9 UH Zo (Ur.M λo e=>U5.M o (aV o e)) (λo e=>zL (aV o e))).Zm ?_;rintro V7 US V6 ⟨rfl,T3⟩;have V4:=T3.le;have b0:ay X US (.ptr x 2)=some (.Z V.at_):=(by rw[a8 (by rw[T3.M _ Zo];exact UG)];rfl);by_cases UK:200<eL 201 V.right
    ·have U2:decide ((200:Int)<((eL 201 V.right:Nat):Int))=true:=(by simp;omega);rw[Zv UK]at t;refine bE @U2 @b0 ⟨?_⟩;exact⟨⟨22,V.at_,by rw[W,t],rfl,U5.trans T3⟩⟩
    ·have U2:decide ((200:Int)<((eL 201 V.right:Nat):Int))=false:=(by simp;omega);rw[Zi UK]at t;refine cg @U2 @UF @UX ⟨?_⟩;exact⟨w,Zo,i+1,af A,af p,af r,af t53,af UE,aC,Zo,U5.trans T3,t⟩
end
end
end Go.Proofs.YtehmapikajmjaaaGreatDoor
