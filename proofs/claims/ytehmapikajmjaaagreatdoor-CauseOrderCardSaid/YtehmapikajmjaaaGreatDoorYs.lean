/- Part of the last text; no conditions -/
import Derived.Test.YtehmapikajmjaaaGreatDoorYr
import Derived.Test.YtehmapikajmjaaaGreatDoorRows
import Derived.ProofKit
set_option maxHeartbeats 8000000
set_option linter.all false
namespace Go.Proofs.YtehmapikajmjaaaGreatDoor
open Go.aC Go.aj
noncomputable section
section
variable{X:bf}{j S' am ah:B R}{k W ak ar:Nat}{P:Nat->Prop}
def Pz(a b c d:Int):f3 X j 50 26 (.agg [.Z a,.Z b]) (.agg [.Z c,.Z d])=(match some (jX a c)with|some true=>(match some (jX b d)with|some true=>some true|some false=>some false|none=>none)|some false=>some false|none=>none):=Zk
def Py(a b:Int):b0 X j .eql 26 false (.agg [.Z a,.Z b]) (.agg [.Z a,.Z b])=some .zV:=by have e:b0 X j .eql 26 false (.agg [.Z a,.Z b]) (.agg [.Z a,.Z b])=(match f3 X j 50 26 (.agg [.Z a,.Z b]) (.agg [.Z a,.Z b])with|some b=>iz b|none=>none):=Zk;rw[e,Pz,qM,qM];simp
def PQ(b:Nat):b0 X j .eql 23 true (.ptr b 0) .bE=some .zT:=Zk
def acI:(o X).P.underlying 59=some (.map 9 38):=Zk
def Fs(b:Bool):b0 X j .eql 4 false (.bool b) (.bool b)=some .zV:=by cases b<;>kernel_rfl
def G0(b:Bool):b0 X j .neq 4 false (.bool b) (.bool b)=some .zT:=by cases b<;>kernel_rfl
def P7(l:nF)(seen:List Nat)(b:Nat):(l.filter λx=>decide (x.2.2∉seen++[b]))=(l.filter λx=>decide (x.2.2∉seen)).filter λx=>decide (x.2.2≠b):=by
 rw[List.filter_filter];refine List.filter_congr λx _=> ?_;by_cases a:x.2.2=b
 ·simp[a]
 ·simp[a]
def Sl{g:GE}{aN:Nat}(e:∀V∈g.eqs,(fJ V.right).length<=aN)(nm:ax):(hQ g nm).length<=aN+1:=by
 unfold hQ;cases d:dk g nm with
 |none=>simp|some v=>
  simp only[ZG];have u:∀a b:Nat,a<=1->b<=aN->a+b<=aN+1:=Zo;refine u _ _ ?_ ?_
  ·split<;>simp
  ·split
   ·simp
   ·cases c:g.eqs[v.eq.toNat]? with|none=>simp|some V=>exact e V (Zl c)
set_option maxRecDepth 100000 in
def Sb(UN:e2 X)(Wb:tC X)(jaR:mF X)(Xh:kl X)(Xi:mG X)(cB:pU X)(W8:(o X).ez 6 []=some .zV){a0 aL:y}{jaj s:ax}(jbC:(o X).aD<=k)(jbp:c2 a0=some (.Z jaj.length))(ο:s.length<=5000)(T:∀c∈s,c<256)
 (jbR:fY X j 1 a0 none (some (.Z (min (jaj.length:Int) 5000))) none=some aL)(V5:c2 aL=some (.Z s.length))(jbb:∀S' T3,aT X j k S' T3->oZ X S' aL=some (.str s)):
 az X 4 [a0] j k (λM S' W=>M=.zV/\aT X j k S' W) zW:=by
 refine z6 UN.tobW (Me ..) ?_;unfold Dt;refine cb @jbp @GQ @jbR ⟨?_⟩;refine(υ (k:=k) UN Wb jaR ο T jbC V5 jbb).Zm ?_;rintro M ah ar ⟨W5,Vv⟩;have jcL:=Vv.le;cases Vb:nd s with
 |error jcg=>
  rw[Vb]at W5;obtain⟨q,a⟩:=jcg;have jbl:=ω ο Vb;have jbU:M=.tuple [.bE,.agg [.Z q,.Z a]]:=W5;subst jbU;have aw:decide (q≠0)=true:=by simp[jbl]
  refine br ⟨?_⟩;generalize Uz:Go.aC.aI X _ ar _=UD;have Uq:∃c,F X UD ar=some (.cells c 2 .own)/\c.get 0=some (.Z q)/\c.get 1=some (.Z a):=⟨_,by rw[<-Uz,aJ Zo];rfl,by exact rJ _ _ _,by exact rK _ _ _⟩;have UW:aT X j k UD (ar+1):=⟨Zo,λh f=>by rw[<-Vv.K h Zo, <-Uz];exact zQ⟩;clear Uz;obtain⟨jaG,Uq,WO,jaH⟩:=Uq;refine cb (aZ Uq) @WO @aw ⟨?_⟩;refine qf W8 ?_;refine br ⟨?_⟩;exact⟨rfl,Zo,λh f=>UW.K h f⟩
 |ok aa=>
  rw[Vb]at W5;obtain⟨v,rfl,ι⟩:=W5;obtain⟨W9,UA,Ww⟩:=aab Vb;have W7:=aaa Vb;obtain⟨jcK,jbr⟩:=wM Ww;have X5:=ι.prog;obtain⟨p,rfl⟩:∃V,v=.ptr V 0:=by obtain⟨b,_,_,_,e,_⟩:=X5;exact⟨b,e⟩
  have aw:decide ((0:Int)≠0)=false:=rfl;have ε:∀g∈aa,B1 g:=λg Wq=>by have VH:=W9 g Wq;have VZ:=jbr g Wq;have jbe:c7 g≠[]:=λu=>(by simp[c7]at u;exact VH.some u.2.1);exact⟨by have:=VZ.vars;simp[c7];omega,Td jbe,λV UH=>⟨IK (VH.eqs V UH).right,by have T7:=GD V.right [];have U2:=W7 g Wq V UH;simp at T7;omega⟩⟩
  refine br ⟨?_⟩;generalize Uz:Go.aC.aI X _ ar _=UD;have Uq:∃c,F X UD ar=some (.cells c 2 .own)/\c.get 0=some (.Z 0)/\c.get 1=some (.Z 0):=⟨_,by rw[<-Uz,aJ Zo];rfl,by exact rJ _ _ _,by exact rK _ _ _⟩;have XJ:∀h,h<ar->F X UD h=F X ah h:=λh f=>by rw[<-Uz];exact zQ
  have UW:aT X j k UD (ar+1):=⟨Zo,λh f=>by rw[XJ h Zo,Vv.K h Zo]⟩;clear Uz;obtain⟨jaG,Uq,WO,jaH⟩:=Uq;have X3:=X5.K (S':=UD) (aK:=bR k ar) (λh f=>XJ h f.2) (λ_ e=>e);refine c9 (aZ Uq) @WO @aw @PQ ⟨?_⟩;refine(OA (k:=ar+1) (P:=bR k ar) UN Wb.err Xh Xi cB Zo X3 (λh f=>by have:=f.1;have:=f.2;omega) W9 UA Ww ε).Zm ?_;rintro M XV T9 ⟨⟨Ud,VN,rfl,Wn⟩,WX⟩;have jbv:=WX.le;refine br ⟨?_⟩;generalize Wd:Go.aC.aI X _ T9 _=Vn;have Vt:∃c,F X Vn T9=some (.cells c 2 .own)/\c.get 0=some (.Z Ud)/\c.get 1=some (.Z VN):=⟨_,by rw[<-Wd,aJ Zo];rfl,by exact rJ _ _ _,by exact rK _ _ _⟩;have ψ:∀h,h<T9->F X Vn h=F X XV h:=λh f=>by rw[<-Wd];exact zQ
  clear Wd;obtain⟨jcA,Vt,XY,XZ⟩:=Vt;have XK:∀h,h<ar+1->F X Vn h=F X UD h:=λh f=>by rw[ψ h Zo,WX.K h f]
  have X4:=X3.K (S':=Vn) (aK:=bR k ar) (λh f=>XK h (zK f.2)) (λ_ e=>e);refine(EW (k:=T9+1) (P:=bR k ar) UN Wb.err Xh Xi cB Zo X4 (λh f=>by have:=f.1;have:=f.2;omega) W9 UA Ww).Zm ?_;rintro M WK Ut ⟨V6,VP⟩;have jcM:=VP.le;have VE:=Vt;rw[<-VP.K T9 Zo]at VE;have XI:∀h,h<k->F X WK h=F X j h:=λh f=>by rw[VP.K h Zo,XK h Zo];exact UW.K h f
  unfold r3 at V6;by_cases Uh:(ib aa).1=0
  ·rw[Zu Uh]at V6;obtain⟨v,rfl,_⟩:=V6;have jbh:∀(i:Nat) g,aa[i]? =some g->(hh aa i g).1=0:=OF.1 (by
    unfold ib at Uh;split at Uh
    ·rename_i e;exact absurd Uh e
    ·rename_i e;simpa using e)
   have jba:(Ud=0/\∀g∈aa,lW (fW g))\/(Ud=29/\¬∀g∈aa,lW (fW g)):=by
    rcases Wn with ⟨e,_⟩|⟨_,⟨T7,_,U2⟩|⟨T7,g,U2,WW,_⟩⟩
    ·exact absurd Uh e
    ·exact .inl ⟨T7,U2⟩
    ·exact .inr ⟨T7,λe=>WW (e g U2)⟩
   clear Wn Uh XZ;refine br ⟨?_⟩;generalize V0:Go.aC.aI X _ Ut _=UL;have Uf:∃c,F X UL Ut=some (.cells c 2 .own)/\c.get 0=some (.Z 0)/\c.get 1=some (.Z 0):=⟨_,by rw[<-V0,aJ Zo];rfl,by exact rJ _ _ _,by exact rK _ _ _⟩;have VK:∀h,h<Ut->F X UL h=F X WK h:=λh f=>(by rw[<-V0];exact zQ);clear V0;obtain⟨jaI,Uf,Vs,Xa⟩:=Uf;rw[<-VK _ Zo]at VE;have jck:ay X UL (.ptr T9 0)=some (.Z Ud):=(by rw[aZ VE,XY]);have jcd:∀h,h<k->F X UL h=F X j h:=λh f=>(by rw[VK h Zo];exact XI h f);have jbO:=X4.K (S':=UL) (aK:=bR k ar) (λh f=>by have:=f.2;rw[VK h Zo,VP.K h Zo]) (λ_ e=>e);obtain⟨_,UR,jdg,aR,u,jcD,jav,W6,Va⟩:=jbO;cases u;have jbK:=Va.wide;have Xx:=W6.len;have jbA:=W6.many;rw[jbK.1]at Xx jbA;generalize jcW:Ut+1=WE at*;clear X3 X4 X5 ι Vv UW WX VP XJ ψ XK Uq Vt XI;have UO:∀h,bR k ar h->h<WE:=λh f=>zK f.2;refine dE (aZ Uf) @Vs @aw @jav @Xx ⟨?_⟩;refine cG (λm z S' T3=>∃(q:Nat) (U9:Bool),z.g 5=some (.ptr T9 0)/\z.g 8=some (.bool U9)/\z.g 66=some UR/\z.g 67=some (.Z aa.length)/\z.g 68=some (.Z q)/\q+m=aa.length/\WE<=T3/\(U9=true↔∀g∈aa.take q,lW (fW g))/\∀h,h<WE->F X S' h=F X UL h)
    aa.length ⟨0,true,av,av,av,av,cW,Zo,Zg _,Zs,λ_ _=>rfl⟩ ?_
   rintro m z VC T0 ⟨q,U9,t5,G,L,t,A,Xq,jcX,W2,VX⟩;have φ:∀h,h<k->F X VC h=F X j h:=λh f=>(by rw[VX h Zo];exact jcd h f);have jag:ay X VC (.ptr T9 0)=some (.Z Ud):=zV (VX T9 Zo) jck;cases m with
   |zero=>
    have d:=zL q aa.length;rw[Zy Zo]at W2;rcases jba with ⟨rfl,Wp⟩|⟨rfl,Wp⟩
    ·have WP:decide ((0:Int)=0)=true:=rfl;obtain rfl:U9=true:=W2.2 Wp;refine cd @A @t @d @t5 @jag @G (Za @WP @Fs) ⟨?_⟩;refine qf W8 ?_;refine br ⟨?_⟩;exact⟨rfl,Zo,φ⟩
    ·have WP:decide ((29:Int)=0)=false:=rfl;have Ua:decide ((29:Int)=29)=true:=rfl;obtain rfl:U9=false:=by cases U9 with|false=>rfl|true=>exact absurd (W2.1 rfl) Wp
     refine cd @A @t @d @t5 @jag @G (Za @WP (Za @Ua @Fs)) ⟨?_⟩;refine qf W8 ?_;refine br ⟨?_⟩;exact⟨rfl,Zo,φ⟩
   |succ m=>
   have d:=zM q aa.length;have jaL:=zP q;obtain⟨g,W4⟩:=zN aa q;have VT:=Zl W4;have VJ:=jbh q g W4;have VH:=W9 g VT;obtain⟨jbd,θ,jbx⟩:=ε g VT;have jdc:=wV g;obtain⟨row,ν,η⟩:=Va.get q g W4;have jbk:=W6.c0 q (Ze.1 ν).1;have jbP:=(W6.K (S':=VC) (λh f=>VX h (UO h f))).row Zd ν;have dF:=η.ei;have X1:=η.K (S':=VC) (aK:=bR k ar) (λh f=>VX h (UO h f)) (λ_ e=>e);have jbS:aa.take (q+1)=aa.take q++[g]:=(by rw[ZE,W4];rfl);obtain⟨bK,bM,Vh,VA,bb,bn,bH,jcx,jdh,rfl,jcG,jcH,jcI,jcJ,jcE⟩:=id X1;refine eC @A @t @L @d @jbk @jbP ⟨?_⟩;refine dh (eR (q:=6) (b:=T0) (J:=0) (n:=6) (c:=B.ofList [.str [],.Z 0,.au,.au,.au,.au] 0 .nil) (aJ Zo) Zo rfl Zd Zd dF) ?_;generalize We:Go.aC.aI X _ T0 _=Vo;have WU:F X Vo T0=zO [.str g.name,.Z g.at_,bK,bM,Vh,VA] 6:=(by rw[<-We,aJ Zo];rfl);have XL:∀h,h<T0->F X Vo h=F X VC h:=λh f=>(by rw[<-We];exact zQ);clear We;have jaf:b4 X Vo 6 (.ptr T0 0)=some (.agg [.str g.name,.Z g.at_,bK,bM,Vh,VA]):=(by rw[lJ];simp only[aZ WU];rfl);refine bh @jaf ⟨?_⟩;refine(s5 (k:=T0+1) UN.tobW (P:=bR k ar) Zo (λh f=>zK (UO h f)) (X1.K (S':=Vo) (λh f=>XL h (zK (UO h f))) (λ_ e=>e)) Zo).Zm ?_;rintro M XW r ⟨bw,jah,aB,jcy,rfl,XE,β,jam,Vz,jan,κ,Vw⟩;have jcN:=Vw.le;refine br ⟨?_⟩;generalize W0:Go.aC.aI X _ (r+1) _=Vp;have Xe:F X Vp r=some (.map [] 0):=(by rw[<-W0];simp(disch:=omega) only[aJ,ag]);have Vu:∃c,F X Vp (r+1)=some (.cells c 1 .own)/\c.get 0=some (.map r):=⟨_,by rw[<-W0,aJ Zo];rfl,by rw[fF];rfl⟩;have WC:∀h,h<r->F X Vp h=F X XW h:=λh f=>(by rw[<-W0];exact zQ);clear W0;obtain⟨jcB,Vu,Xb⟩:=Vu;refine(uS (k:=r+2) UN.tobW (cf:=dd g) (P:=bR (T0+1) r) Zo (zV (WC bw XE.2) jan) (κ.K (S':=Vp) (λh f=>WC h f.2)) (λh f=>zK f.2) θ).Zm ?_;rintro XT Un UY ⟨⟨jcz,ξ⟩,VQ⟩;have jcO:=VQ.le;have ρ:(cQ (dd g)).length=(dd g).length:=(by simp[cQ]);have Xy:=ξ.len;rw[ρ]at Xy;have b8:F X Un r=some (.map [] 0):=(by rw[VQ.K r Zo];exact Xe);have jap:ay X Un (.ptr (r+1) 0)=some (.map r):=(by rw[VQ.df _ _ Zo,aZ Vu];exact Xb);have Vf:∀h,h<r->F X Un h=F X XW h:=λh f=>(by rw[VQ.K h Zo,WC h f]);have jaa:∀h,h<T0->F X Un h=F X VC h:=λh f=>(by rw[Vf h Zo,Vw.K h Zo,XL h f]);have WV:F X Un T0=zO [.str g.name,.Z g.at_,bK,bM,Vh,VA] 6:=(by rw[Vf T0 Zo,Vw.K T0 Zo];exact WU);have Xk:iv X Un (bR (T0+1) r) (.ptr bw 0) (dk g):=⟨bw,jah,rfl,XE,β,zV (Vf bw XE.2) jam,Vz.K (Vf jah β.2)⟩;have X2:=X1.K (S':=Un) (aK:=bR k ar) (λh f=>jaa h (zK (UO h f))) (λ_ e=>e);clear Xe Vu Xb VQ WC jam jan Vz κ Vw WU jaf XL Vf;refine bh @Xy ⟨?_⟩;refine cG (λm z S' T3=>∃(E:Nat) (aV:nF) (bq:Nat),z.g 5=some (.ptr T9 0)/\z.g 8=some (.bool U9)/\z.g 66=some UR/\z.g 67=some (.Z aa.length)/\z.g 68=some (.Z q)/\z.g 10=some (.ptr T0 0)/\z.g 11=some (.ptr bw 0)/\z.g 12=some (.ptr (r+1) 0)/\z.g 76=some XT/\z.g 77=some (.Z ((dd g).length:Int))/\z.g 78=some (.Z E)/\E+m=(dd g).length/\UY<=T3/\iq X S' UY T3 g r aV bq (λq=>q<E)/\aV.length=E/\∀h,h<UY->h≠r->F X S' h=F X Un h)
    (dd g).length ⟨0,[],0,Y t5,Y G,Y L,Y t,Y A,av,av,av,av,av,cW,Zo,Zg _,⟨f0.new b8,Zs,λq nm _ e=>Zo⟩,rfl,λ_ _ _=>rfl⟩ ?_
   clear t5 G L t A z;rintro Uk z UM U7 ⟨E,aV,bq,t5,G,L,t,A,N,O,T5,UZ,UT,UU,Xo,jcY,T6,Wc,UJ⟩;have jaV:iv X UM (bR (T0+1) r) (.ptr bw 0) (dk g):=Xk.K (λh f=>UJ h (zK f.2) (zK f.2)) (λ_ e=>e);cases Uk with
   |succ Uk=>
    have Ua:=zM E (dd g).length;have WT:=zP E;obtain⟨nm,U1⟩:∃w,(dd g)[E]? =some w:=⟨_,Zb Zo⟩;have X6:=ξ.K (S':=UM) (λh f=>UJ h f.2 (zK f.1));have V3:=X6.c0 E (by rw[ρ];omega);have V2:=X6.cell E [.str nm] 0 (.str nm) (by unfold cQ;rw[Zn,U1];rfl) rfl;rw[ZF]at V3;rw[ZF,ZL]at V2;obtain⟨v,V8⟩:=YE.1 (wW (Zl U1));obtain⟨jbW,XF,jbV⟩:=xG VJ V8;refine cd @UU @UT @UZ @O @Ua @V3 @V2 ⟨?_⟩;refine(o9 (k:=U7) UN.tobW Zo jaV (λh f=>zK f.2) nm).Zm ?_;rintro M XX UK ⟨rfl,WY⟩;have jcP:=WY.le;rw[V8];simp only[Yl,Z0];have XG:hG v=[.Z v.kind,.str v.d.name,.Z v.d.at_,.bool v.d.ty.b,.bool v.d.ty.s,.Z v.d.ty.w,.str v.d.on,.Z v.d.cY,.bool v.d.no,.Z v.eq,.Z v.left]:=rfl;rw[XG];refine gt ?_;refine gt ?_;refine jO ?_;generalize Wf:Go.aC.aI X XX UK _=Vq;have Xf:F X Vq UK=zO [.Z 0,.str [],.Z 0,.zT,.zT,.Z 0,.str [],.Z 0,.zT,.Z 0,.Z 0] 11:=(by rw[<-Wf,aJ Zo];rfl);have jab:∀h,h<UK->F X Vq h=F X XX h:=λh f=>(by rw[<-Wf,ag Zo Zo]);clear Wf;refine dh (eR (q:=11) (b:=UK) (J:=0) (n:=11) Xf Zo rfl Zd Zd rfl) ?_;generalize V1:Go.aC.aI X Vq UK _=UV;have UB:F X UV UK=zO [.Z v.kind,.str v.d.name,.Z v.d.at_,.bool v.d.ty.b,.bool v.d.ty.s,.Z v.d.ty.w,.str v.d.on,.Z v.d.cY,.bool v.d.no,.Z v.eq,.Z v.left] 11:=(by rw[<-V1,aJ Zo];rfl);have lI:∀h,h<U7->F X UV h=F X UM h:=λh f=>(by rw[<-V1,ag Zo Zo,jab h Zo,WY.K h f]);clear V1 Xf jab Vq WY;have UX:hQ g nm=(if v.d.on=[]then[]else[v.d.on])++(if v.kind=1 then[]else match g.eqs[v.eq.toNat]? with|some V=>fJ V.right|none=>[]):=(by simp only[hQ,V8];rfl);generalize VU:(if v.d.on=[]then[]else[v.d.on])=al at UX;apply mU (P:=λz S' T3=>z.g 5=some (.ptr T9 0)/\z.g 8=some (.bool U9)/\z.g 66=some UR/\z.g 67=some (.Z aa.length)/\z.g 68=some (.Z q)/\z.g 10=some (.ptr T0 0)/\z.g 11=some (.ptr bw 0)/\z.g 12=some (.ptr (r+1) 0)/\z.g 76=some XT/\z.g 77=some (.Z ((dd g).length:Int))/\z.g 78=some (.Z E)/\
     z.g 14=some (.str nm)/\z.g 15=some (.ptr UK 0)/\∃(l:y) (aQ:List Nat),z.g 17=some l/\cT X S' l 1 (al.map .str) aQ/\(∀h∈aQ,UY<=h/\U7<=h/\h<T3)/\UK+1<=T3/\∀h,h<UK+1->F X S' h=F X UV h)
    ·intro U6;by_cases Us:v.d.on=[]
     ·have Uv:decide (v.d.on≠[])=false:=(by simp[Us]);rw[Zu Us]at VU;refine mc (aZ UB) @Uv ⟨?_⟩;refine dW _ ?_ (λz j n e=>(U6 z j n e).out);intro Uj U0;refine br ⟨?_⟩;exact U0 _ _ _ ⟨Y t5,Y G,Y L,Y t,Y A,Y N,Y O,Y T5,Y UZ,Y UT,Y UU,av,av,.au,[],av,.inl (.inl ⟨rfl,by rw[<-VU];rfl,rfl⟩),Zs,Zo,λ_ _=>rfl⟩
     ·have Uv:decide (v.d.on≠[])=true:=(by simp[Us]);rw[Zi Us]at VU;refine mc (aZ UB) @Uv ⟨?_⟩;refine dW _ ?_ (λz j n e=>(U6 z j n e).out);intro Uj U0;refine bh (aZ UB) ⟨?_⟩;generalize Wg:Go.aC.aI X UV (UK+1) _=VD;have jaN:F X VD (UK+1)=zO [.str v.d.on] 1:=(by rw[<-Wg,aJ Zo]);have jcf:∀h,h<UK+1->F X VD h=F X UV h:=λh f=>(by rw[<-Wg,ag Zo Zo]);clear Wg;refine tP (aQ:=[]) (.inl (.inl ⟨rfl,rfl,rfl⟩)) (g6 (aO:=1) (q:=1) jaN (fS _) rfl _) rfl rfl Zs Zo Zs ?_;intro XP UD VL WN Xv Vd jaY jbm;refine U0 _ _ _ ⟨Y t5,Y G,Y L,Y t,Y A,Y N,Y O,Y T5,Y UZ,Y UT,Y UU,av,av,XP,WN,av,by rw[<-VU];exact Vd,λh f=> ?_,Zo,λh f=>by rw[jbm h Zo Zs,jcf h f]⟩;rcases jaY h f with e|e
      ·omega
      ·cases e
    clear t5 G L t A N O T5 UZ UT UU z V3 V2 X6;rintro z VD jai ⟨t5,G,L,t,A,N,O,T5,UZ,UT,UU,Vi,WH,dr,jaA,Vj,XA,VG,jcQ,Wt⟩;rw[<-Wt UK Zo]at UB;have Vg:∀h,h<U7->F X VD h=F X UM h:=λh f=>(by rw[Wt h Zo,lI h f]);apply mU (P:=λz S' T3=>z.g 5=some (.ptr T9 0)/\z.g 8=some (.bool U9)/\z.g 66=some UR/\z.g 67=some (.Z aa.length)/\z.g 68=some (.Z q)/\z.g 10=some (.ptr T0 0)/\z.g 11=some (.ptr bw 0)/\z.g 12=some (.ptr (r+1) 0)/\z.g 76=some XT/\z.g 77=some (.Z ((dd g).length:Int))/\z.g 78=some (.Z E)/\
     z.g 14=some (.str nm)/\∃(l:y) (aQ:List Nat),z.g 17=some l/\cT X S' l 1 ((hQ g nm).map .str) aQ/\(∀h∈aQ,UY<=h/\h<T3)/\U7<=T3/\∀h,h<U7->F X S' h=F X UM h)
    ·intro U6;by_cases Ub:v.kind=1
     ·have Uw:decide (v.kind≠1)=false:=(by simp[Ub]);rw[Zu Ub,ZW]at UX;refine c8 @WH (aZ UB) @Uw ⟨?_⟩;refine dW _ ?_ (λz j n e=>(U6 z j n e).out);intro Uj U0;refine br ⟨?_⟩;exact U0 _ _ _ ⟨Y t5,Y G,Y L,Y t,Y A,Y N,Y O,Y T5,Y UZ,Y UT,Y UU,Y Vi,dr,jaA,Y Vj,by rw[UX];exact XA,λh f=>zK (VG h f),Zo,Vg⟩
     ·have Uw:decide (v.kind≠1)=true:=(by simp[Ub]);obtain⟨V9,V,VO,Ux,jbi⟩:=XF Ub;rw[Zi Ub,VO,zp,Ux]at UX;simp only at UX;obtain⟨jcq,jcs,jco,jcp,jaw,jax,jay,jaz,jaO,WS,_,_,_,VW,Ws⟩:=X2.K (S':=VD) (aK:=bR k ar) (λh f=>by have:=UO h f;rw[Vg h Zo];exact UJ h Zo Zo) (λ_ e=>e);cases WS;obtain⟨jcm,Vc,Wa⟩:=Ws.get V9 V Ux;obtain⟨jcr,jcn,jaE,jaF,XO,rfl,_,_,X8,_⟩:=Wa;have VV:=VW.c0 V9 (Ze.1 Vc).1;rw[<-VO]at VV;have X9:=VW.cell V9 _ 3 XO Vc rfl;have Wl:ay X VD (.ptr T0 5)=some VA:=(by rw[bv,Vg T0 Zo,UJ T0 Zo Zo, <-bv,aZ WV];rfl);have jbM:=w7 V.right;have jbL:=W7 g VT V (Zl Ux);refine c8 @WH (aZ UB) @Uw ⟨?_⟩;refine dW _ ?_ (λz j n e=>(U6 z j n e).out);intro Uj U0;refine cd @Vj @N @Wl @WH (aZ UB) @VV @X9 ⟨?_⟩;refine(Hm (k:=jai) UN.tobW _ V.right (Yt _) Zo (λh f=>zK (UO h f)) X8 Zo).Zm ?_;rintro M UD VL ⟨⟨jaB,XB,Wk⟩,UW⟩;have Xv:=UW.le;obtain⟨Ue,dF⟩:=XB.kH (P:=λh=>jai<=h/\h<VL) (by rw[Zj];omega) Wk;have σ:=u3 dF Zd;rw[sz,Zj,Zj]at σ;have jcF:al.length<=1:=(by rw[<-VU];split<;>simp);refine tP (XA.K (S':=UD) (λh f=>UW.K h (VG h f).2.2)) σ Zs (Hk _) (by simp only[Zj];omega) Zo (λh f=>zK (VG h f)) ?_;intro XP XV jdf WN jbv jbQ jaZ jbn;refine U0 _ _ _ ⟨Y t5,Y G,Y L,Y t,Y A,Y N,Y O,Y T5,Y UZ,Y UT,Y UU,Y Vi,XP,WN,av,by rw[UX,ZR];exact jbQ,λh f=> ?_,Zo,λh f=> ?_⟩
      ·rcases jaZ h f with e|e
       ·omega
       ·have:=VG h e;omega
      ·rw[jbn h Zo (λe=>zK (VG h e)),UW.K h Zo];exact Vg h f
    clear t5 G L t A N O T5 UZ UT UU Vi WH Vj z XA VG Wt UB Vg;rintro z Uo UI ⟨t5,G,L,t,A,N,O,T5,UZ,UT,UU,Vi,ac,jaC,Vj,XD,W3,jcR,UP⟩;have Vl:ay X Uo (.ptr (r+1) 0)=some (.map r):=(by rw[bv,UP (r+1) Zo,UJ (r+1) Zo Zo, <-bv];exact jap);obtain⟨T4,TY,kr,Wz,jaS,jbq,jbw,V4⟩:=(T6.map.K (S':=Uo) (UP r Zo)).set (k:=UI) (uz X) Zo nm ac;have jbF:d5 aV nm=none:=by cases UH:d5 aV nm with|none=>rfl|some w=>have:=(T6.look U1).1 (by rw[UH];rfl);omega
    refine c9 @T5 @Vl @Vi @Vj ⟨?_⟩;refine d7 Wz ?_;refine bA @UU @WT ⟨?_⟩;exact⟨Uk,Zo,E+1,TY,kr,Y t5,Y G,Y L,Y t,Y A,Y N,Y O,Y T5,Y UZ,Y UT,av,Zo,Zo,T6.add U1 jaS jbq (XD.K λh f=>V4 h (zK (W3 h f))) W3 (λh T7 U2=>by rw[V4 h Zo,UP h U2]) Zo,by rw[jbw jbF,Wc],λh f UA=>by rw[V4 h UA,UP h Zo];exact UJ h f UA⟩
   |zero=>
   have Ua:=zL E (dd g).length;have T6:iq X UM UY U7 g r aV bq (λq=>q∉([]:List Nat)):=⟨T6.map,λu UG=>by obtain⟨XH,nm,T7,U2,WW⟩:=T6.all u UG;exact⟨XH,nm,T7,Zs,WW⟩,λXH nm e _=>T6.has XH nm e (zK (Ze.1 e).1)⟩;have Vk:ay X UM (.ptr (r+1) 0)=some (.map r):=zV (UJ (r+1) Zo Zo) jap;have Xp:E=(dd g).length:=Zo;have VI:n5 X UM (.map r)=some (.Z ((dd g).length:Int)):=(by have:=T6.map.at_;simp[n5,this,hf,Wc,Xp]);refine eC @UU @UT @Ua @T5 @Vk @VI ⟨?_⟩;refine cG (λm z S' T3=>∃(aV:nF) (b7:List Nat) (UF:Bool),z.g 5=some (.ptr T9 0)/\z.g 8=some (.bool U9)/\z.g 66=some UR/\z.g 67=some (.Z aa.length)/\z.g 68=some (.Z q)/\z.g 10=some (.ptr T0 0)/\z.g 11=some (.ptr bw 0)/\z.g 12=some (.ptr (r+1) 0)/\z.g 18=some (.Z ((dd g).length:Int))/\z.g 19=some (.bool UF)/\U7<=T3/\iq X S' UY U7 g r aV bq (λq=>q∉b7)/\ls (fW g) b7/\(UF=false->∀a,a<(fW g).length->a∉b7->∃x∈b5 (fW g) a,x∉b7)/\m=aV.length+(if UF=true then 1 else 0)/\∀h,h<U7->h≠r->F X S' h=F X UM h)
    (aV.length+1) ⟨aV,[],true,Y t5,Y G,Y L,Y t,Y A,Y N,Y O,Y T5,av,av,Zg _,T6,ls.new _,Zs,rfl,λ_ _ _=>rfl⟩ ?_
   clear t5 G L t A N O T5 UZ UT UU z T6 Wc VI Ua Xp Xo;rintro Uk z Uo UI ⟨aV,b7,UF,t5,G,L,t,A,N,O,T5,Uu,VB,jcZ,T6,Ur,Wo,Xz,UP⟩;have Vl:ay X Uo (.ptr (r+1) 0)=some (.map r):=zV (UP (r+1) Zo Zo) Vk;cases UF with
   |true=>
    refine cb @VB @T5 @Vl ⟨?_⟩;refine d7 (HY Zo T6.map) ?_;generalize Wh:Go.aC.aI X Uo UI _=T4;have ec:F X T4 UI=some (.e7 (some r) bq [] bq):=(by rw[<-Wh,aJ Zo]);have WD:∀h,h≠UI->F X T4 h=F X Uo h:=λh f=>(by rw[<-Wh,ag Zo f]);clear Wh;have jcC:Uk=aV.length+1:=Xz;refine br ⟨?_⟩;refine cG (λm z S' T3=>∃(TY:nF) (b7:List Nat) (UF:Bool) (seen:List Nat),z.g 5=some (.ptr T9 0)/\z.g 8=some (.bool U9)/\z.g 66=some UR/\z.g 67=some (.Z aa.length)/\z.g 68=some (.Z q)/\z.g 10=some (.ptr T0 0)/\z.g 11=some (.ptr bw 0)/\z.g 12=some (.ptr (r+1) 0)/\z.g 18=some (.Z ((dd g).length:Int))/\z.g 19=some (.bool UF)/\z.g 119=some (.ptr UI 0)/\UI+1<=T3/\F X S' UI=some (.e7 (some r) bq seen bq)/\iq X S' UY U7 g r TY bq (λq=>q∉b7)/\ls (fW g) b7/\TY.length<=aV.length/\(UF=true->TY.length<aV.length)/\(UF=false->∀u∈TY,u.2.2∈seen->((hQ g u.1).any λw=>(d5 TY w).isSome)=true)/\m=(TY.filter λu=>decide (u.2.2∉seen)).length/\∀h,h<U7->h≠r->F X S' h=F X UM h)
     (aV.filter λu=>decide (u.2.2∉[])).length ⟨aV,b7,false,[],Y t5,Y G,Y L,Y t,Y A,Y N,Y O,Y T5,Y Uu,av,av,Zg _,ec,T6.K (WD _ Zo) (λh _ e=>WD h Zo) (Zg _),Ur,Zg _,Zs,Zs,rfl,λh f UA=>by rw[WD h Zo];exact UP h f UA⟩ ?_
    clear t5 G L t A N O T5 Uu VB z T6 Ur Wo Vl ec WD b7 UP Xz;rintro jdd z T4 T1 ⟨TY,b7,UF,seen,t5,G,L,t,A,N,O,T5,Uu,VB,WG,jda,af,T6,Ur,jbu,Wy,π,α,V4⟩;have Vm:ay X T4 (.ptr (r+1) 0)=some (.map r):=zV (V4 (r+1) Zo Zo) Vk;refine bh @WG ⟨?_⟩;refine T6.map.next Zo af (λjaX=> ?_) (λu UG Va=> ?_)
    ·refine br ⟨?_⟩;refine⟨TY.length+(if UF=true then 1 else 0), ?_,TY,b7,UF,Y t5,Y G,Y L,Y t,Y A,Y N,Y O,Y T5,Y Uu,Y VB,Zo,T6,Ur,λWj a U3 VR=> ?_,rfl,V4⟩
     ·cases UF with|true=>have:=Wy rfl;simp only[ZK];omega|false=>simp;omega
     ·rw[lb]at U3;obtain⟨nm,U1⟩:∃w,(dd g)[a]? =some w:=⟨_,Zb U3⟩;obtain⟨u,UG,VS⟩:=T6.has a nm U1 VR;have T7:=π Wj u UG (jaX u UG);rw[VS]at T7;refine ZV λWm=> ?_;have U2:=(T6.free VJ VH U1).2 (λx Uc=>ZV λjbY=>Wm ⟨x,Uc,jbY⟩);rw[U2]at T7;cases T7
    ·obtain⟨a,nm,U1,VR,VS,jaC,XD,W3⟩:=T6.all u UG;refine h5 ⟨?_⟩;generalize Ug:Go.aC.aI X T4 UI _=UE;have ec:F X UE UI=some (.e7 (some r) bq (seen++[u.2.2]) bq):=(by rw[<-Ug,aJ Zo]);have UQ:∀h,h≠UI->F X UE h=F X T4 h:=λh f=>(by rw[<-Ug,ag Zo f]);clear Ug;have Uy:iq X UE UY U7 g r TY bq (λq=>q∉b7):=T6.K (UQ _ Zo) (λh _ e=>UQ h Zo) (Zg _);have Xm:=Uy.map.entry UG ec;rw[VS]at Xm;have jaq:ay X UE (.ptr (r+1) 0)=some (.map r):=zV (UQ _ Zo) Vm;have jbt:(hQ g nm).length<=300000:=ZD (Sl (aN:=200000) (λV UH=>by have:=w7 V.right;have:=W7 g VT V UH;omega) nm) Zd;obtain⟨Ue,dF⟩:=XD.kH (P:=bR UY U7) (by rw[Zj];exact jbt) W3;rw[Z2]at dF;have dF:ca X UE (bR UY U7) Ue u.2.1 1 (cQ (hQ g nm)):=ca.K dF (λh f=>UQ h (zK f.2));refine cb @WG @Xm @T5 ⟨?_⟩;refine(N2 (k:=T1) UN.tobW jaq Uy.map dF).Zm ?_;rintro M Up VM ⟨rfl,rfl,jbE⟩;have δ:∀l:nF,(l.filter λx=>decide (x.2.2∉seen++[u.2.2]))=(l.filter λx=>decide (x.2.2∉seen)).filter λx=>decide (x.2.2≠u.2.2):=λl=>P7 l seen u.2.2;have Xr:∀h,h<U7->h≠r->F X Up h=F X UM h:=λh f UA=>(by rw[UQ h Zo];exact V4 h f UA);cases hx:(hQ g nm).any λw=>(d5 TY w).isSome with
     |true=>
      refine br ⟨?_⟩;refine⟨_, ?_,TY,b7,UF,seen++[u.2.2],Y t5,Y G,Y L,Y t,Y A,Y N,Y O,Y T5,Y Uu,Y VB,Y WG,Zo,ec,Uy,Ur,jbu,Wy,λWj x Uc jca=> ?_,rfl,Xr⟩
      ·rw[α,δ];exact Yw.2 ⟨u,Yb.2 ⟨UG,by simpa using Va⟩,Zs⟩
      ·rcases Zv.1 jca with e|e
       ·exact π Wj x Uc e
       ·have jbZ:x=u:=ZV λUA=>by
         have:=ZC.1 e;obtain⟨jcb,T7⟩:=Yc Uc;obtain⟨jcc,U2⟩:=Yc UG;have T:=Uy.map.born
         have:jcb=jcc:=(YO (l:=TY.map λu=>u.2.2) (by rw[Zj];exact(Ze.1 T7).1) T).1 (by rw[Zn,Zn,T7,U2];simp[this])
         subst this;rw[T7]at U2;exact UA (YF U2)
        rw[jbZ,VS];exact hx
     |false=>have jbg:=(Uy.free VJ VH U1).1 hx;obtain⟨WM,jbc,jaU,Wu⟩:=Uy.map.del (k:=VM) (uz X) acI [9] Zo nm;refine bA @T5 @jaq ⟨?_⟩;refine d7 jbc ?_;refine br ⟨?_⟩;have jcU:(TY.filter λx=>decide (x.1≠nm)).length<TY.length:=Yw.2 ⟨u,UG,by simp[VS]⟩;have W1:=(Ze.1 U1).1;refine⟨_, ?_,TY.filter (λx=>decide (x.1≠nm)),b7++[a],true,seen++[u.2.2],Y t5,Y G,Y L,Y t,Y A,Y N,Y O,Y T5,Y Uu,av,Y WG,Zo,by rw[Wu _ Zo];exact ec,Uy.cut U1 jaU (λh T7 U2=>Wu h Zo),Ur.snoc (by rw[lb];exact W1) VR jbg,Zo,λ_=>Zo,Zs,rfl,λh f UA=>by rw[Wu h UA];exact Xr h f UA⟩;rw[α];have jby:((TY.filter λx=>decide (x.2.2∉seen)).filter λx=>decide (x.2.2≠u.2.2)).length<(TY.filter λx=>decide (x.2.2∉seen)).length:=Yw.2 ⟨u,Yb.2 ⟨UG,by simpa using Va⟩,Zs⟩;refine Nat.lt_of_le_of_lt ?_ jby;rw[<-δ];exact(List.Sublist.filter _ List.filter_sublist).length_le
   |false=>
   have τ:=Ur.done (Wo rfl);have jbI:=X2.K (S':=Uo) (aK:=bR k ar) (λh f=>by have:=UO h f;rw[UP h Zo Zo];exact UJ h Zo Zo) (λ_ e=>e);have jcj:b4 X Uo 6 (.ptr T0 0)=some (.agg [.str g.name,.Z g.at_,bK,bM,Vh,VA]):=(by rw[i2,UP T0 Zo Zo,UJ T0 Zo Zo, <-i2,lJ];simp only[aZ WV];rfl);refine cb @VB @N @jcj ⟨?_⟩;refine(μ (k:=UI) UN.tobW (P:=bR k ar) Zo (λh f=>zK (UO h f)) jbI jbd θ jbx).Zm ?_;rintro jct T4 T1 ⟨⟨out,Ve,V6⟩,Vx⟩;have jcS:=Vx.le;have Vm:ay X T4 (.ptr (r+1) 0)=some (.map r):=(by rw[Vx.df _ _ Zo,bv,UP (r+1) Zo Zo, <-bv];exact Vk);have VI:n5 X T4 (.map r)=some (.Z aV.length):=(by have:=(T6.map.K (S':=T4) (Vx.K r Zo)).at_;simp[n5,this,hf]);have Xn:lW (fW g)↔aV.length=0:=by
    constructor
    ·rintro⟨J,T7,U2⟩;cases Vz:aV with|nil=>rfl|cons u jcv=>obtain⟨a,nm,U1,VR,_⟩:=T6.all u (by rw[Vz];exact Zp ..);exact absurd ((T7.same τ a).1 (U2 a (by rw[lb];exact(Ze.1 U1).1))) VR
    ·intro jaQ;refine⟨b7,τ,λa U3=>ZV λWm=> ?_⟩;rw[lb]at U3;obtain⟨u,UG,_⟩:=T6.has a _ (Zb U3) Wm;rw[YJ.1 jaQ]at UG;cases UG
   have jbN:∃(US:y) (Ui:Bool) (T2:List Nat) (Ue:Nat),jct=.tuple [US,.bool Ui]/\(Ui=true↔lW (fW g))/\(Ui=true->T2.length=(dd g).length)/\ca X T4 (bR UI T1) Ue US 1 (cQ (gS g T2))/\ls (fW g) T2:=by
    rcases V6 with ⟨Wy,rfl⟩|⟨Xw,US,Ue,rfl,dF⟩
    ·obtain⟨Ue,dF⟩:=cT.kH (C:=o X) (j:=T4) (s:=.au) (aF:=[]) (aQ:=[]) (P:=bR UI T1) (.inl (.inl ⟨rfl,rfl,rfl⟩)) Zs Zs;exact⟨_,false,[],Ue,rfl,⟨λe=>(by cases e),λe=>zK ((FV Ve).2 e)⟩,λe=>(by cases e),dF,ls.new _⟩
    ·exact⟨US,true,out,Ue,rfl,⟨λ_=>(FV Ve).1 Xw,λ_=>rfl⟩,λ_=>by rw[<-lb];exact Xw,dF,⟨Ve.once,Ve.he,Ve.ahead⟩⟩
   obtain⟨US,Ui,T2,Ue,rfl,Wr,jbj,dF,Vy⟩:=jbN;have XC:(cQ (gS g T2)).length=T2.length:=(by simp[cQ,gS]);have VZ:=dF.len;rw[XC]at VZ;have jbB:=dF.many;rw[XC]at jbB;have WB:∀h,h<U7->h≠r->F X T4 h=F X UM h:=λh f UA=>(by rw[Vx.K h Zo];exact UP h f UA);have jbJ:=X2.K (S':=T4) (aK:=bR k ar) (λh f=>by have:=UO h f;rw[WB h Zo Zo];exact UJ h Zo Zo) (λ_ e=>e);have jaP:F X T4 T0=zO [.str g.name,.Z g.at_,bK,bM,Vh,VA] 6:=(by rw[WB T0 Zo Zo,UJ T0 Zo Zo];exact WV);have jaW:iv X T4 (bR (T0+1) r) (.ptr bw 0) (dk g):=Xk.K (λh f=>by have:=f.2;rw[WB h Zo Zo];exact UJ h Zo Zo) (λ_ e=>e);have jce:∀h,h<WE->F X T4 h=F X UL h:=λh f=>(by rw[WB h Zo Zo,UJ h Zo Zo,jaa h Zo];exact VX h f);apply mU (P:=λz S' T3=>z.g 5=some (.ptr T9 0)/\z.g 66=some UR/\z.g 67=some (.Z aa.length)/\z.g 68=some (.Z q)/\z.g 10=some (.ptr T0 0)/\z.g 11=some (.ptr bw 0)/\z.g 8=some (.bool U9)/\z.g 23=some US/\z.g 24=some (.bool Ui)/\S'=T4/\T3=T1)
   ·intro U6;by_cases T:Ui=true
    ·rw[T];have WR:decide ((aV.length:Int)=0)=true:=(by have:=Xn.1 (Wr.1 T);simp[this]);have jaK:decide ((T2.length:Int)≠((dd g).length:Int))=false:=(by have:=jbj T;simp[this]);refine c8 @T5 @Vm (Za @VI (Za @WR (Za @G0 (Za @VZ (Za @Uu @jaK))))) ⟨?_⟩;refine dW _ ?_ (λz j n e=>(U6 z j n e).out);intro Uj U0;refine br ⟨?_⟩;exact U0 _ _ _ ⟨Y t5,Y L,Y t,Y A,Y N,Y O,Y G,av,by rw[T];first|done|rfl,rfl,rfl⟩
    ·have T:Ui=false:=by simpa using T
     rw[T];have WR:decide ((aV.length:Int)=0)=false:=by
      have:aV.length≠0:=λe=>by have:=Wr.2 (Xn.2 e);rw[T]at this;cases this
      simp;exact λe=>this (by rw[e];rfl)
     refine c8 @T5 @Vm (Za @VI (Za @WR @G0)) ⟨?_⟩;refine dW _ ?_ (λz j n e=>(U6 z j n e).out);intro Uj U0;refine br ⟨?_⟩;exact U0 _ _ _ ⟨Y t5,Y L,Y t,Y A,Y N,Y O,Y G,av,by rw[T];first|done|rfl,rfl,rfl⟩
   clear t5 G L t A N O T5 Uu VB z T6 Ur Wo Vl Vk VI Vm;rintro z T4 T1 ⟨t5,L,t,A,N,O,G,XR,XS,rfl,rfl⟩;have Xu:c2 US=some (.Z T2.length):=VZ;apply mU (P:=λz S' T3=>z.g 5=some (.ptr T9 0)/\z.g 66=some UR/\z.g 67=some (.Z aa.length)/\z.g 68=some (.Z q)/\z.g 10=some (.ptr T0 0)/\z.g 11=some (.ptr bw 0)/\z.g 8=some (.bool (U9&&Ui))/\z.g 25=some (.map T1)/\z.g 156=some US/\z.g 157=some (.Z T2.length)/\z.g 158=some (.Z 0)/\T3=T1+1/\F X S' T1=some (.map [] 0)/\∀h,h<T1->F X S' h=F X T4 h)
   ·intro U6;have WI:=G;by_cases U3:U9=true
    ·rw[U3]at WI;refine c9 @WI @XS @XR @Xu ⟨?_⟩;generalize Ug:Go.aC.aI X T4 T1 _=UE;have VF:F X UE T1=some (.map [] 0):=(by rw[<-Ug,aJ Zo]);have UQ:∀h,h<T1->F X UE h=F X T4 h:=λh f=>(by rw[<-Ug,ag Zo Zo]);generalize T8:H (H (H (H (H z 8 _) 25 _) 156 _) 157 _) 158 _=iu;generalize X0:T1+1=WF;exact(U6 iu UE WF ⟨by rw[<-T8];exact(Y t5),by rw[<-T8];exact(Y L),by rw[<-T8];exact(Y t),by rw[<-T8];exact(Y A),by rw[<-T8];exact(Y N),by rw[<-T8];exact(Y O),by rw[<-T8,U3];rfl,by rw[<-T8];rfl,by rw[<-T8];rfl,by rw[<-T8];rfl,by rw[<-T8];rfl,X0.symm,VF,UQ⟩).out
    ·have U3:U9=false:=(by simpa using U3);rw[U3]at WI;refine c9 @WI @XS @XR @Xu ⟨?_⟩;generalize Ug:Go.aC.aI X T4 T1 _=UE;have VF:F X UE T1=some (.map [] 0):=(by rw[<-Ug,aJ Zo]);have UQ:∀h,h<T1->F X UE h=F X T4 h:=λh f=>(by rw[<-Ug,ag Zo Zo]);generalize T8:H (H (H (H (H z 8 _) 25 _) 156 _) 157 _) 158 _=iu;generalize X0:T1+1=WF;exact(U6 iu UE WF ⟨by rw[<-T8];exact(Y t5),by rw[<-T8];exact(Y L),by rw[<-T8];exact(Y t),by rw[<-T8];exact(Y A),by rw[<-T8];exact(Y N),by rw[<-T8];exact(Y O),by rw[<-T8,U3];rfl,by rw[<-T8];rfl,by rw[<-T8];rfl,by rw[<-T8];rfl,by rw[<-T8];rfl,X0.symm,VF,UQ⟩).out
   clear t5 L t A N O G XR XS z;rintro z UE WF ⟨t5,L,t,A,N,O,G,TZ,U8,U4,U5,rfl,VF,UQ⟩;obtain⟨bn,Xl⟩:∃b,b=(U9&&Ui):=⟨_,rfl⟩;rw[<-Xl]at G;refine cG (λm z S' T3=>∃(E:Nat) (WJ:nF) (nP:Nat),z.g 5=some (.ptr T9 0)/\z.g 66=some UR/\z.g 67=some (.Z aa.length)/\z.g 68=some (.Z q)/\z.g 10=some (.ptr T0 0)/\z.g 11=some (.ptr bw 0)/\z.g 8=some (.bool bn)/\z.g 25=some (.map T1)/\z.g 156=some US/\z.g 157=some (.Z T2.length)/\z.g 158=some (.Z E)/\E+m=T2.length/\T1+1<=T3/\f0 X y.str S' T1 WJ nP/\(∀w,d5 WJ w=if w∈gS g (T2.take E)then some (.Z 1)else none)/\∀h,h<T1->F X S' h=F X T4 h)
    T2.length ⟨0,[],0,t5,L,t,A,N,O,G,TZ,U8,U4,U5,Zo,Zg _,f0.new VF,λw=>by simp[gS,d5,eW],UQ⟩ ?_
   clear t5 L t A N O G TZ U8 U4 U5 z VF UQ;rintro Uk z Up VM ⟨E,WJ,nP,t5,L,t,A,N,O,G,TZ,U8,U4,U5,Xo,jbE,Xj,Xs,VY⟩;cases Uk with
   |zero=>
    have Ua:=zL E T2.length;refine dE @U5 @U4 @Ua @A @jaL ⟨?_⟩;refine⟨m,Zo,q+1,bn,Y t5,Y G,Y L,Y t,av,Zo,Zo, ?_,λh f=>by rw[VY h Zo];exact jce h f⟩;rw[Xl,jbS,Zt,W2,Wr];constructor
    ·rintro⟨T7,U2⟩ V UH;rcases Zv.1 UH with UH|UH
     ·exact T7 V UH
     ·rw[ZC.1 UH];exact U2
    ·intro e;exact⟨λV UH=>e V (Zv.2 (.inl UH)),e g (Zv.2 (.inr (ZC.2 rfl)))⟩
   |succ Uk=>
   have Ua:=zM E T2.length;have WT:=zP E;obtain⟨a,U3⟩:∃w,T2[E]? =some w:=⟨_,Zb Zo⟩;have W1:=Vy.he a (Zl U3);rw[lb]at W1;obtain⟨nm,U1⟩:∃w,(dd g)[a]? =some w:=⟨_,Zb W1⟩;have jbG:(gS g T2)[E]? =some nm:=(by unfold gS;rw[Zn,U3];simp[Yo,U1]);have γ:∀(x:Nat) (w:ax),(dd g)[x]? =some w->(w∈gS g (T2.take E)↔x∈T2.take E):=λx w Uc=>by
    unfold gS;rw[ZB];constructor
    ·rintro⟨h,f,u⟩;have WA:=Vy.he h (Y6 f);rw[lb]at WA;rw[Yo,Zb WA,Yl]at u
     have:h=x:=(YO WA (uR g)).1 (by rw[Zb WA,u,Uc])
     exact this▸f
    ·intro jbX;exact⟨x,jbX,by rw[Yo,Uc];rfl⟩
   have jbH:nm∉gS g (T2.take E):=λe=>by
    have T7:=(γ a nm U1).1 e;obtain⟨i,af⟩:=Yc T7;rw[YS]at af;split at af
    ·have:i=E:=(YO (Ze.1 af).1 Vy.once).1 (af.trans U3.symm)
     omega
    ·cases af
   have ζ:∀w∈hQ g nm,w∈gS g (T2.take E):=λw UC=>(by obtain⟨x,Uc⟩:=Yc (Gs VJ UC);exact(γ x w Uc).2 (Vy.ahead E a U3 x ((A5 VJ VH U1).2 ⟨w,Uc,UC⟩)));have Wx:∀{S':B R}(w:ax),F X S' T1=F X Up T1->fb X S' 9 (.Z 0) (.map T1) (.str w) false=some (.Z (if w∈gS g (T2.take E)then 1 else 0)):=λ{S'} w Xq=>by
    have e:=(Xj.K (S':=S') Xq).look (uz X) (.Z 0) w false;rw[e,Xs w];by_cases UC:w∈gS g (T2.take E)
    ·rw[Zu UC,Zu UC];rfl
    ·rw[Zi UC,Zi UC];rfl
   have X7:=dF.K (S':=Up) (λh f=>VY h f.2);have V3:=X7.c0 E (by rw[XC];omega);have V2:=X7.cell E [.str nm] 0 (.str nm) (by unfold cQ;rw[Zn,jbG];rfl) rfl;rw[ZF]at V3;rw[ZF,ZL]at V2;obtain⟨v,V8⟩:=YE.1 (wW (Zl U1));obtain⟨jbW,XF,jbV⟩:=xG VJ V8;refine cd @U5 @U4 @U8 @O @Ua @V3 @V2 ⟨?_⟩;refine(o9 (k:=VM) UN.tobW Zo (jaW.K (S':=Up) (λh f=>VY h (zK f.2)) (λ_ e=>e)) (λh f=>zK f.2) nm).Zm ?_;rintro M WM Ul ⟨rfl,WZ⟩;have jcT:=WZ.le;rw[V8];simp only[Yl,Z0];have XG:hG v=[.Z v.kind,.str v.d.name,.Z v.d.at_,.bool v.d.ty.b,.bool v.d.ty.s,.Z v.d.ty.w,.str v.d.on,.Z v.d.cY,.bool v.d.no,.Z v.eq,.Z v.left]:=rfl;rw[XG];refine gt ?_;refine gt ?_;refine jO ?_;generalize Wi:Go.aC.aI X WM Ul _=Vr;have Xg:F X Vr Ul=zO [.Z 0,.str [],.Z 0,.zT,.zT,.Z 0,.str [],.Z 0,.zT,.Z 0,.Z 0] 11:=(by rw[<-Wi,aJ Zo];rfl);have jad:∀h,h<Ul->F X Vr h=F X WM h:=λh f=>(by rw[<-Wi,ag Zo Zo]);clear Wi;refine dh (eR (q:=11) (b:=Ul) (J:=0) (n:=11) Xg Zo rfl Zd Zd rfl) ?_;generalize V1:Go.aC.aI X Vr Ul _=UV;have UB:F X UV Ul=zO [.Z v.kind,.str v.d.name,.Z v.d.at_,.bool v.d.ty.b,.bool v.d.ty.s,.Z v.d.ty.w,.str v.d.on,.Z v.d.cY,.bool v.d.no,.Z v.eq,.Z v.left] 11:=(by rw[<-V1,aJ Zo];rfl);have lI:∀h,h<VM->F X UV h=F X Up h:=λh f=>(by rw[<-V1,ag Zo Zo,jad h Zo,WZ.K h f]);clear V1 Xg jad Vr WZ;have UX:hQ g nm=(if v.d.on=[]then[]else[v.d.on])++(if v.kind=1 then[]else match g.eqs[v.eq.toNat]? with|some V=>fJ V.right|none=>[]):=(by simp only[hQ,V8];rfl);have Wv:=Wx (S':=UV) nm (lI T1 Zo);rw[Zi jbH]at Wv;have Xc:decide ((0:Int)<0)=false:=rfl;have Xd:decide ((1:Int)=0)=false:=rfl;apply mU (P:=λz S' T3=>z.g 5=some (.ptr T9 0)/\z.g 66=some UR/\z.g 67=some (.Z aa.length)/\z.g 68=some (.Z q)/\z.g 10=some (.ptr T0 0)/\z.g 11=some (.ptr bw 0)/\z.g 8=some (.bool bn)/\z.g 25=some (.map T1)/\z.g 156=some US/\z.g 157=some (.Z T2.length)/\z.g 158=some (.Z E)/\z.g 27=some (.str nm)/\z.g 28=some (.ptr Ul 0)/\S'=UV/\Ul+1<=T3)
   ·intro U6;by_cases Us:v.d.on=[]
    ·have Uv:decide (v.d.on≠[])=false:=(by simp[Us]);refine c8 @TZ @Wv (Za @Xc (Za (aZ UB) @Uv)) ⟨?_⟩;refine dW _ ?_ (λz j n e=>(U6 z j n e).out);intro Uj U0;refine br ⟨?_⟩;exact U0 _ _ _ ⟨Y t5,Y L,Y t,Y A,Y N,Y O,Y G,Y TZ,Y U8,Y U4,Y U5,av,av,rfl,Zo⟩
    ·have Uv:decide (v.d.on≠[])=true:=(by simp[Us]);have V5:=Wx (S':=UV) v.d.on (lI T1 Zo);rw[Zu (ζ _ (by rw[UX,Zi Us];simp))]at V5;refine c8 @TZ @Wv (Za @Xc (Za (aZ UB) (Za @Uv (Za @V5 @Xd)))) ⟨?_⟩;refine dW _ ?_ (λz j n e=>(U6 z j n e).out);intro Uj U0;refine br ⟨?_⟩;exact U0 _ _ _ ⟨Y t5,Y L,Y t,Y A,Y N,Y O,Y G,Y TZ,Y U8,Y U4,Y U5,av,av,rfl,Zo⟩
   clear t5 L t A N O G TZ U8 U4 U5 z V3 V2 X7;rintro z WL XN ⟨t5,L,t,A,N,O,G,TZ,U8,U4,U5,Um,t28,rfl,jbD⟩;apply mU (P:=λz S' T3=>z.g 5=some (.ptr T9 0)/\z.g 66=some UR/\z.g 67=some (.Z aa.length)/\z.g 68=some (.Z q)/\z.g 10=some (.ptr T0 0)/\z.g 11=some (.ptr bw 0)/\z.g 8=some (.bool bn)/\z.g 25=some (.map T1)/\z.g 156=some US/\z.g 157=some (.Z T2.length)/\z.g 158=some (.Z E)/\z.g 27=some (.str nm)/\Ul+1<=T3/\∀h,h<VM->F X S' h=F X Up h)
   ·intro U6;by_cases Ub:v.kind=1
    ·have Uw:decide (v.kind≠1)=false:=(by simp[Ub]);refine c8 @t28 (aZ UB) @Uw ⟨?_⟩;refine dW _ ?_ (λz j n e=>(U6 z j n e).out);intro Uj U0;refine br ⟨?_⟩;exact U0 _ _ _ ⟨Y t5,Y L,Y t,Y A,Y N,Y O,Y G,Y TZ,Y U8,Y U4,Y U5,Y Um,jbD,lI⟩
    ·have Uw:decide (v.kind≠1)=true:=(by simp[Ub]);obtain⟨V9,V,VO,Ux,jbi⟩:=XF Ub;rw[Zi Ub,VO,zp,Ux]at UX;simp only at UX;have jac:∀h,h<T1->F X WL h=F X T4 h:=λh f=>(by rw[lI h Zo,VY h f]);obtain⟨jcq,jcs,jco,jcp,jaw,jax,jay,jaz,jaO,WS,_,_,_,VW,Ws⟩:=jbJ.K (S':=WL) (aK:=bR k ar) (λh f=>jac h (zK (UO h f))) (λ_ e=>e);cases WS;obtain⟨jcm,Vc,Wa⟩:=Ws.get V9 V Ux;obtain⟨jcr,jcn,jaE,jaF,XO,rfl,_,_,X8,_⟩:=Wa;have VV:=VW.c0 V9 (Ze.1 Vc).1;rw[<-VO]at VV;have X9:=VW.cell V9 _ 3 XO Vc rfl;have Wl:ay X WL (.ptr T0 5)=some VA:=(by rw[bv,jac T0 Zo, <-bv,aZ jaP];rfl);have jbM:=w7 V.right;have jbL:=W7 g VT V (Zl Ux);refine c8 @t28 (aZ UB) @Uw ⟨?_⟩;refine dW _ ?_ (λz j n e=>(U6 z j n e).out);intro Uj U0;refine eC @N @Wl @t28 (aZ UB) @VV @X9 ⟨?_⟩;refine(Hm (k:=XN) UN.tobW _ V.right (Yt _) Zo (λh f=>zK (UO h f)) X8 Zo).Zm ?_;rintro jao UD VL ⟨⟨jaB,XB,Wk⟩,UW⟩;have Xv:=UW.le;obtain⟨jaD,V7⟩:=XB.kH (P:=λh=>XN<=h/\h<VL) (by rw[Zj];omega) Wk;rw[Z2]at V7;have V7:ca X UD (λh=>XN<=h/\h<VL) jaD jao 1 (cQ (fJ V.right)):=V7;have Vd:(cQ (fJ V.right)).length=(fJ V.right).length:=(by simp[cQ]);have Xt:=V7.len;rw[Vd]at Xt;have jbz:=V7.many;rw[Vd]at jbz;refine bh @Xt ⟨?_⟩;refine cG (λm z S' T3=>∃(i:Nat),z.g 5=some (.ptr T9 0)/\z.g 66=some UR/\z.g 67=some (.Z aa.length)/\z.g 68=some (.Z q)/\z.g 10=some (.ptr T0 0)/\z.g 11=some (.ptr bw 0)/\z.g 8=some (.bool bn)/\z.g 25=some (.map T1)/\z.g 156=some US/\z.g 157=some (.Z T2.length)/\z.g 158=some (.Z E)/\z.g 27=some (.str nm)/\z.g 200=some jao/\z.g 201=some (.Z ((fJ V.right).length:Int))/\z.g 202=some (.Z i)/\i+m=(fJ V.right).length/\S'=UD/\VL<=T3)
      (fJ V.right).length ⟨0,Y t5,Y L,Y t,Y A,Y N,Y O,Y G,Y TZ,Y U8,Y U4,Y U5,Y Um,av,av,cW,Zo,rfl,Zg _⟩ ?_
     clear t5 L t A N O G TZ U8 U4 U5 Um t28 z;rintro XM z XU jde ⟨i,t5,L,t,A,N,O,G,TZ,U8,U4,U5,Um,jak,XQ,jal,af,rfl,jcV⟩;have χ:∀h,h<VM->F X XU h=F X Up h:=λh f=>(by rw[UW.K h Zo];exact lI h f);cases XM with|zero=>have WQ:=zL i (fJ V.right).length;refine cb @jal @XQ @WQ ⟨?_⟩;exact U0 _ _ _ ⟨Y t5,Y L,Y t,Y A,Y N,Y O,Y G,Y TZ,Y U8,Y U4,Y U5,Y Um,Zo,χ⟩|succ XM=>have WQ:=zM i (fJ V.right).length;have jaM:=zP i;obtain⟨w,UC⟩:=zN (fJ V.right) i;have jar:=V7.c0 i (by rw[Vd];omega);have jas:=V7.cell i [.str w] 0 (.str w) (by unfold cQ;rw[Zn,UC];rfl) rfl;rw[ZF]at jar;rw[ZF,ZL]at jas;have V5:=Wx (S':=XU) w (χ T1 Zo);rw[Zu (ζ _ (by rw[UX];exact Zv.2 (.inr (Zl UC))))]at V5;refine cd @jal @XQ @jak @TZ @WQ @jar (Za @jas (Za @V5 (Za @Xd @jaM))) ⟨?_⟩;exact⟨XM,Zo,i+1,Y t5,Y L,Y t,Y A,Y N,Y O,Y G,Y TZ,Y U8,Y U4,Y U5,Y Um,Y jak,Y XQ,av,Zo,rfl,Zo⟩
   clear t5 L t A N O G TZ U8 U4 U5 Um t28 z UB lI;rintro z jau jcl ⟨t5,L,t,A,N,O,G,TZ,U8,U4,U5,Um,jdb,jae⟩;obtain⟨jcw,jat,jaJ,Wz,jaT,jbs,_,jbo⟩:=(Xj.K (S':=jau) (jae T1 Zo)).set (k:=jcl) (uz X) Zo nm (.Z 1);refine bA @TZ @Um ⟨?_⟩;refine d7 Wz ?_;refine bA @U5 @WT ⟨?_⟩;refine⟨Uk,Zo,E+1,jat,jaJ,Y t5,Y L,Y t,Y A,Y N,Y O,Y G,Y TZ,Y U8,Y U4,av,Zo,Zo,jaT,λw=> ?_,λh f=>by rw[jbo h Zo,jae h Zo];exact VY h f⟩;have jbT:gS g (T2.take (E+1))=gS g (T2.take E)++[nm]:=(by unfold gS;rw[ZE,U3,ZR];simp[Yo,U1]);rw[jbs w,Xs w,jbT];by_cases u:w=nm
   ·rw[Zu u,Zu (by rw[u];simp)]
   ·rw[Zi u];by_cases UC:w∈gS g (T2.take E)
    ·rw[Zu UC,Zu (Zv.2 (.inl UC))]
    ·rw[Zi UC,Zi (λe=>by rcases Zv.1 e with e|e;exact UC e;exact u (ZC.1 e))]
  ·rw[Zi Uh]at V6;subst V6;have jbf:Ud=(ib aa).1/\VN=(ib aa).2:=by
    rcases Wn with ⟨_,e⟩|⟨e,_⟩
    ·exact⟨congrArg Prod.fst e,congrArg Prod.snd e⟩
    ·exact absurd e Uh
   obtain⟨rfl,rfl⟩:=jbf;have jcu:decide ((ib aa).1≠0)=true:=(by simp[Uh]);generalize (ib aa).1=Ud at*;generalize (ib aa).2=VN at*;refine br ⟨?_⟩;generalize V0:Go.aC.aI X _ Ut _=UL;have Uf:∃c,F X UL Ut=some (.cells c 2 .own)/\c.get 0=some (.Z Ud)/\c.get 1=some (.Z VN):=⟨_,by rw[<-V0,aJ Zo];rfl,by exact rJ _ _ _,by exact rK _ _ _⟩;have VK:∀h,h<Ut->F X UL h=F X WK h:=λh f=>(by rw[<-V0];exact zQ);clear V0;obtain⟨jaI,Uf,Vs,Xa⟩:=Uf;rw[<-VK _ Zo]at VE;have jch:b4 X UL 2 (.ptr T9 0)=some (.agg [.Z Ud,.Z VN]):=(by rw[jw,aZ VE,aZ VE,XY,XZ];rfl);have jci:b4 X UL 2 (.ptr Ut 0)=some (.agg [.Z Ud,.Z VN]):=(by rw[jw,aZ Uf,aZ Uf,Vs,Xa];rfl);refine eC (aZ Uf) @Vs @jcu @jch @jci @Py ⟨?_⟩;refine qf W8 ?_;refine br ⟨?_⟩;exact⟨rfl,Zo,λh f=>by rw[VK h Zo];exact XI h f⟩
end
end
end Go.Proofs.YtehmapikajmjaaaGreatDoor
namespace Go.aC
noncomputable section
open Go.RowKit (Below)
def B3(l:List y):Prop:=∀v∈l,(∀D a,aq D v=aq a v)/\∀Q,bp Q v
def r2(w:World)(v:Value)(aO:Nat)(l:List y):Prop:=
 (v=.slice none 0 0/\l=[])\/∃bx off len cap bg ty fr,v=.slice (some ⟨bx,off,none⟩) len cap/\len<=cap/\l.length=len*aO/\B3 l/\
  (0<l.length->w.heap[bx]? =some (.cells bg ty fr)/\off+l.length<=bg.size/\∀i x,l[i]? =some x->bg[off+i]? =some (aq (λ_=>default) x))
def I6(C:ai)(a:y)(b aO:Nat)(l:List y):Prop:=
 (a=.au/\l=[])\/∃len cap,a=.slice b 0 len cap/\len<=cap/\l.length=len*aO/\(0<l.length->F C .nil b=some (.cells (B.ofList l 0 .nil) l.length .fD))
def nb(l:List y)(G:B R)(b:Nat):B R:=if 0<l.length then G.set b (some (.cells (B.ofList l 0 .nil) l.length .fD))else G
def r2.pl{w:World}{v:Value}{aO:Nat}{l:List y}(e:r2 w v aO l)(b:Nat):∃(a:y) (pl:hq),(∀D:bT,D b=pl->aq D a=v)/\(∀Q:Nat->Prop,Q b->bp Q a)/\
 ((a=.au/\l=[])\/∃len cap,a=.slice b 0 len cap/\len<=cap/\l.length=len*aO)/\(0<l.length->∀C D Q,f1 C D Q (.cells (B.ofList l 0 .nil) l.length .fD) pl w):=by
 rcases e with ⟨rfl,rfl⟩|⟨bx,off,len,cap,bg,ty,fr,rfl,g,m,n,p⟩
 ·exact⟨.au,default,λ_ _=>rfl,λ_ _=>trivial,.inl ⟨rfl,rfl⟩,λe=>by simp at e⟩
 ·refine⟨.slice b 0 len cap,⟨bx,off,l.length⟩,λD r=>by simp[aq,r],λQ d=>d,.inr ⟨len,cap,rfl,g,m⟩,λe C D Q=> ?_⟩;obtain⟨a7,bl,s⟩:=p e;obtain⟨aW,af⟩:=fr;refine⟨bg,ty,aW,af,a7,⟨trivial,Zg _,bl⟩,bl,λi x c=> ?_⟩;rw[g5]at c;have f:=n x (Zl c);exact⟨by rw[f.1 D (λ_=>default)];exact s i x c,f.2 Q⟩
section
variable{P:Program}{w:World}
def R9{nm:List (String×Nat)}(T1:oJ P nm){laid:List (String×DataW Unit)}{ez:Nat->List y->Option y}(e:laidMet P laid w){aD:Nat}{os:List (Nat×R)}(s:eg P nm laid P.globals.size=(aD,os)){v0:Value}{L:Nat}{dr:List y}(O:r2 w v0 L dr):
 ∃D Q a0,bV ⟨P,nb dr (hX os .nil) aD,aD+1,ez,P.globals.size⟩ D Q .nil (aD+1) w.heap.size w/\kT ⟨P,nb dr (hX os .nil) aD,aD+1,ez,P.globals.size⟩ D Q/\cu Q [a0]/\bd D [a0]=[v0]/\
  I6 ⟨P,nb dr (hX os .nil) aD,aD+1,ez,P.globals.size⟩ a0 aD L dr:=by
 obtain⟨a0,t,b1,N,t0,fB⟩:=O.pl aD;obtain⟨b2,X,_,G⟩:=e;have T2:lV w b2:=λb off T=>(G b off T).1;obtain⟨aL,bs,f,a3⟩:=Gp (C:=⟨P,nb dr (hX os .nil) aD,aD+1,ez,P.globals.size⟩) T1 laid P.globals.size b2 rfl X T2 (λb off T=>(G b off T).2);rw[s]at aL bs a3;simp only at aL bs a3;have r:∀b J,F ⟨P,nb dr (hX os .nil) aD,aD+1,ez,P.globals.size⟩ .nil b=some J->((b,J)∈os/\b<aD)\/(b=aD/\0<dr.length/\J=.cells (B.ofList dr 0 .nil) dr.length .fD):=by
  intro b J a;unfold F at a;rw[c3]at a;split at a
  ·rename_i T;have T:=ht T;unfold nb at a;split at a
   ·rename_i p;rw[B.eX]at a;split at a
    ·rename_i u;cases a;exact .inr ⟨u.symm▸rfl,p,rfl⟩
    ·rcases Bv b J os .nil a with V|V
     ·exact .inl ⟨V,by have x:b<P.globals.size\/b<aD:=(bs (b,J) V).2.1;have:P.globals.size<=aD:=aL;omega⟩
     ·simp at V
   ·rcases Bv b J os .nil a with V|V
    ·exact .inl ⟨V,by have x:b<P.globals.size\/b<aD:=(bs (b,J) V).2.1;have:P.globals.size<=aD:=aL;omega⟩
    ·simp at V
  ·simp at a
 refine⟨λb=>if b<P.globals.size then⟨b,0,0⟩else if b=aD then t else f b,λb=>b<aD+1,a0,⟨Zg _,λ_ e=>e,λb J a=> ?_, ?_, ?_, ?_, ?_⟩, ?_, ?_, ?_, ?_⟩
 ·rcases r b J a with e|e
  ·omega
  ·omega
 ·intro b J a _;rcases r b J a with e|⟨rfl,p,rfl⟩
  ·exact a3 (λb=>if b<P.globals.size then⟨b,0,0⟩else if b=aD then t else f b) (λb=>b<aD+1) (λb T6 T7=>⟨by rw[Zi Zo,Zi Zo],Zo⟩) (λg m=>⟨by rw[Zu m],by have:P.globals.size<=aD:=aL;omega⟩) (b,J) e.1
  ·show f1 _ _ _ _ (if b<P.globals.size then(⟨b,0,0⟩:hq)else if b=b then t else f b) w;rw[Zi (by have:P.globals.size<=b:=aL;omega),Zu rfl];exact fB p _ _ _
 ·intro b T5 J dH _ _ d _ _ T;exact absurd d (zG.2 T)
 ·intro b J T _ d;exact absurd d (zG.2 T)
 ·intro b J a _;rcases r b J a with e|⟨rfl,p,rfl⟩
  ·exact(bs (b,J) e.1).2.2 _ _
  ·refine⟨λc n l s=>(by cases s),λc n st T0 i v A=> ?_⟩;cases T0;rw[g5]at A;exact(Ze.1 A).1
 ·intro g m;have m:g<P.globals.size:=m;exact⟨Zo,by simp[m],by simp[m]⟩
 ·exact⟨N _ Zo,trivial⟩
 ·simp only[bd];rw[b1 _ (by rw[Zi Zo,Zu rfl])]
 ·rcases t0 with e|⟨len,cap,T3,x,T4⟩
  ·exact .inl e
  ·refine .inr ⟨len,cap,T3,x,T4,λe=> ?_⟩;unfold F nb
   have:Nat.blt aD (aD+1)=true:=by simp[Nat.blt]
   rw[this,cE,Zu e,B.eX,Zu rfl]
end
end
end Go.aC
namespace Go.Proofs.YtehmapikajmjaaaGreatDoor
open Go.aC Go.aj
noncomputable section
def nm:List (String×Nat):=[((Tryz.prog.typeName? 3 236).getD "",236)]
def ac:Nat×List (Nat×R):=eg Tryz.prog nm Rows.causeOrderRow.laid Tryz.prog.globals.size
def sX:ac.1=22:=Zk
def dg:B R:=hX ac.2 .nil
def QV:dg.get 0=zO [.str [45,62],.str [60,60],.str [62,62],.str [60,61],.str [62,61],.str [60,62],.str [40],.str [41],.str [44],.str [59],.str [58],.str [61],.str [60],.str [62],.str [43],.str [45],.str [42]] 17:=Zk
def sF:dg.get 3=zO [.slice 14 0 18 18] 1:=Zk
def me:dg.get 1=zO [.map 16] 1:=Zk
def qD:dg.get 2=zO [.bool true,.bool false,.int .i64 1] 3:=Zk
def wz:dg.get 7=zO [.map 15] 1:=Zk
def ul:dg.get 5=zO [.iface 236 (.ptr 13 0)] 1:=Zk
def m3:dg.get 6=zO [.iface 236 (.ptr 12 0)] 1:=Zk
def n1:dg.get 8=zO [.slice 17 0 2 2,.slice 18 0 1 1,.slice 19 0 6 6,.slice 20 0 2 2,.slice 21 0 1 1] 5:=Zk
def QW:dg.get 14=zO [.str [110,111,100,101],.str [114,101,116,117,114,110,115],.str [118,97,114],.str [108,101,116],.str [116,101,108],.str [119,104,101,110],.str [110,111,116],.str [111,114],.str [120,111,114],.str [97,110,100],.str [112,114,101],.str [102,98,121],.str [105,102],.str [116,104,101,110],.str [101,108,115,101],.str [109,101,114,103,101],.str [116,114,117,101],.str [102,97,108,115,101]] 18:=Zk
def QY:dg.get 16=some (.look [(.str [97,110,100],.bool true),(.str [101,108,115,101],.bool true),(.str [102,97,108,115,101],.bool true),(.str [102,98,121],.bool true),(.str [105,102],.bool true),(.str [108,101,116],.bool true),(.str [109,101,114,103,101],.bool true),(.str [110,111,100,101],.bool true),(.str [110,111,116],.bool true),(.str [111,114],.bool true),(.str [112,114,101],.bool true),(.str [114,101,116,117,114,110,115],.bool true),(.str [116,101,108],.bool true),(.str [116,104,101,110],.bool true),(.str [116,114,117,101],.bool true),(.str [118,97,114],.bool true),(.str [119,104,101,110],.bool true),(.str [120,111,114],.bool true)]):=Zk
structure kn(X:bf):Prop where
 aD:X.aD=23
 get:∀b,b<22->X.G.get b=dg.get b
section
variable{X:bf}{j:B R}
def kn.F(e:kn X){b:Nat}(T:b<22):F X j b=dg.get b:=by
 have u:Nat.blt b (o X).aD=true:=by show Nat.blt b X.aD=true;rw[e.aD];simp[Nat.blt];omega
 unfold Go.aC.F;rw[u,cE];exact e.get b T
def kn.hP(e:kn X){b n:Nat}(T:b<22){c:B y}{st:it}(a:dg.get b=some (.cells c n st))(J:Nat):ay X j (.ptr b J)=c.get J:=aZ (by rw[e.F T];exact a) J
def Qx(e:kn X):pU X:=λj=>by rw[i2,e.F Zd,qD];rfl
def Qy(e:kn X):gU X:=⟨⟨13,λj=>by rw[e.hP Zd ul];rfl⟩,⟨12,λj=>by rw[e.hP Zd m3];rfl⟩⟩
def QE(e:kn X):x7 X:=⟨λj=>by
 rw[i2,e.F Zd,QV];rfl⟩
def SG(w:ax):∀L:List (ax×y),(L.map Prod.fst).Nodup->jz X j 9 (.str w) (L.map λu=>(y.str u.1,u.2))=some ((L.find? λu=>decide (u.1=w)).map Prod.snd):=by
 intro L;induction L with
 |nil=>intro _;rfl|cons u L U=>
  intro a;rw[ZH,YG]at a;simp only[ZH,jz,U a.2,yY,pv,zi];by_cases e:u.1=w
  ·have b:w=u.1:=e.symm;have c:L.find? (λu=>decide (u.1=w))=none:=by
    rw[zB];intro x f d
    have:x.1=w:=by simpa using d
    exact a.1 (by rw[e, <-this];exact za f)
   simp[e,c]
  ·have b:¬w=u.1:=λV=>e V.symm;simp[e,b]
noncomputable def lk:List ax:=[[97,110,100],[101,108,115,101],[102,97,108,115,101],[102,98,121],[105,102],[108,101,116],[109,101,114,103,101],[110,111,100,101],[110,111,116],[111,114],[112,114,101],[114,101,116,117,114,110,115],[116,101,108],[116,104,101,110],[116,114,117,101],[118,97,114],[119,104,101,110],[120,111,114]]
def HS(s:ax):s∈lk↔s∈mu:=by
 constructor
 ·intro e
  have:∀w∈lk,w∈mu:=by decide
  exact this s e
 ·intro e
  have:∀w∈mu,w∈lk:=by decide
  exact this s e
def aaQ:((lk.map λs=>(s,y.bool true)).map λu:ax×y=>(y.str u.1,u.2))=[(.str [97,110,100],.bool true),(.str [101,108,115,101],.bool true),(.str [102,97,108,115,101],.bool true),(.str [102,98,121],.bool true),(.str [105,102],.bool true),(.str [108,101,116],.bool true),(.str [109,101,114,103,101],.bool true),(.str [110,111,100,101],.bool true),(.str [110,111,116],.bool true),(.str [111,114],.bool true),(.str [112,114,101],.bool true),(.str [114,101,116,117,114,110,115],.bool true),(.str [116,101,108],.bool true),(.str [116,104,101,110],.bool true),(.str [116,114,117,101],.bool true),(.str [118,97,114],.bool true),(.str [119,104,101,110],.bool true),(.str [120,111,114],.bool true)]:=rfl
def QC(e:kn X):vA X:=⟨.map 16,λj=>⟨by rw[e.hP Zd me];rfl,λs=>by
 have d:F X j 16=_:=(e.F Zd).trans QY;rw[<-aaQ]at d;have g:((lk.map λs=>(s,y.bool true)).map Prod.fst).Nodup:=by decide
 simp only[fb,d,uY,cE,SG s _ g];have f:((lk.map λs=>(s,y.bool true)).find? λu=>decide (u.1=s)).map Prod.snd=if s∈lk then some (y.bool true)else none:=by
  by_cases b:s∈lk
  ·rw[Zu b];generalize lk=L at b;induction L with
   |nil=>cases b|cons a L U=>
    rw[ZH,zi];by_cases c:a=s
    ·simp[c]
    ·simp only[c,Ys];exact U ((Zq.1 b).resolve_left (λu=>c u.symm))
  ·rw[Zi b]
   have:(lk.map λs=>(s,y.bool true)).find? (λu=>decide (u.1=s))=none:=by
    rw[zB];intro x l i;obtain⟨h,m,rfl⟩:=ZB.1 l
    have:h=s:=by simpa using i
    exact b (this▸m)
   rw[this];rfl
 rw[f]
 have:decide (s∈mu)=decide (s∈lk):=by
  by_cases b:s∈lk
  ·simp[b,(HS s).1 b]
  ·have:¬s∈mu:=λV=>b ((HS s).2 V)
   simp[b,this]
 rw[this];by_cases b:s∈lk
 ·simp[b,sV]
 ·simp[b,sV]⟩⟩
def te{P:Nat->Prop}{b q aO n:Nat}{aR:List (List y)}{st:it}(e:kn X)(T:b<22)(a:dg.get b=some (.cells (B.ofList aR.flatten 0 .nil) n st))(f:n=q*aO)(c:aR.length=q)(I:∀r∈aR,r.length=aO)(d:q<=300000)(aU:P b):ca X j P b (.slice b 0 q q) aO aR:=
 u2 (st:=st) (by rw[e.F T,a,f]) c I d aU
def QB(e:kn X):kl X:=⟨by rw[e.aD];decide,λj=>⟨14,.slice 14 0 18 18,by rw[e.hP Zd sF];rfl,te e Zd QW rfl rfl Zd Zd (by rw[e.aD];decide)⟩⟩
def QZ:dg.get 17=zO ((ae 0).map λJ=>[y.str J.1,.int .i64 J.2]).flatten 4:=Zk
def Q0:dg.get 18=zO ((ae 1).map λJ=>[y.str J.1,.int .i64 J.2]).flatten 2:=Zk
def Q1:dg.get 19=zO ((ae 2).map λJ=>[y.str J.1,.int .i64 J.2]).flatten 12:=Zk
def Q2:dg.get 20=zO ((ae 3).map λJ=>[y.str J.1,.int .i64 J.2]).flatten 4:=Zk
def Q3:dg.get 21=zO ((ae 4).map λJ=>[y.str J.1,.int .i64 J.2]).flatten 2:=Zk
def ve(q:Nat):∀r∈(ae q).map λJ=>[y.str J.1,.int .i64 J.2],r.length=2:=by intro r I;obtain⟨J,_,rfl⟩:=ZB.1 I;rfl
set_option maxRecDepth 20000 in
def QA(e:kn X):mF X:=⟨by rw[e.aD];decide,λj q a=>by
 have aU:∀b,b<22->b<X.aD:=λb T=>by rw[e.aD];omega
 match q,a with
 |0,_=>exact⟨17,.slice 17 0 2 2,by rw[e.hP Zd n1];rfl,te (P:=λh=>h<X.aD) (b:=17) (aR:=(ae 0).map λJ=>[y.str J.1,.int .i64 J.2]) e Zd QZ rfl rfl (ve 0) Zd (aU 17 Zd)⟩|1,_=>exact⟨18,.slice 18 0 1 1,by rw[e.hP Zd n1];rfl,te (P:=λh=>h<X.aD) (b:=18) (aR:=(ae 1).map λJ=>[y.str J.1,.int .i64 J.2]) e Zd Q0 rfl rfl (ve 1) Zd (aU 18 Zd)⟩|2,_=>exact⟨19,.slice 19 0 6 6,by rw[e.hP Zd n1];rfl,te (P:=λh=>h<X.aD) (b:=19) (aR:=(ae 2).map λJ=>[y.str J.1,.int .i64 J.2]) e Zd Q1 rfl rfl (ve 2) Zd (aU 19 Zd)⟩|3,_=>exact⟨20,.slice 20 0 2 2,by rw[e.hP Zd n1];rfl,te (P:=λh=>h<X.aD) (b:=20) (aR:=(ae 3).map λJ=>[y.str J.1,.int .i64 J.2]) e Zd Q2 rfl rfl (ve 3) Zd (aU 20 Zd)⟩|4,_=>exact⟨21,.slice 21 0 1 1,by rw[e.hP Zd n1];rfl,te (P:=λh=>h<X.aD) (b:=21) (aR:=(ae 4).map λJ=>[y.str J.1,.int .i64 J.2]) e Zd Q3 rfl rfl (ve 4) Zd (aU 21 Zd)⟩⟩
def PG(a b:Int):f3 X j 20 3 (.int .i64 a) (.int .i64 b)=some (jX a b):=Zk
def TJ(a:Int):ha X 20 3 (.int .i64 a)=true:=Zk
def SF(w:Int):∀L:List (Int×y),(L.map Prod.fst).Nodup->jz X j 3 (.int .i64 w) (L.map λu=>(y.int .i64 u.1,u.2))=some ((L.find? λu=>decide (u.1=w)).map Prod.snd):=by
 intro L;induction L with
 |nil=>intro _;rfl|cons u L U=>
  intro a;rw[ZH,YG]at a;simp only[ZH,jz,U a.2,PG,qM,zi];by_cases e:u.1=w
  ·have c:L.find? (λu=>decide (u.1=w))=none:=by
    rw[zB];intro x f d
    have:x.1=w:=by simpa using d
    exact a.1 (by rw[e, <-this];exact za f)
   simp[e,c]
  ·have b:¬w=u.1:=λV=>e V.symm;simp[e,b]
noncomputable def tm:List (Int×(Int×Bool×Bool×Bool)):=[1,2,3,4,5,6,19,20,23,24,25,26].map λq:Int=>(q,(lP q).getD (0,false,false,false))
def QX:dg.get 15=some (.look ((tm.map λu=>(u.1,y.agg (jD u.2))).map λu=>(y.int .i64 u.1,u.2))):=Zk
def abz(q:Int):(tm.find? λu=>decide (u.1=q)).map Prod.snd=lP q:=by
 by_cases a:q=1\/q=2\/q=3\/q=4\/q=5\/q=6\/q=19\/q=20\/q=23\/q=24\/q=25\/q=26
 ·rcases a with rfl|rfl|rfl|rfl|rfl|rfl|rfl|rfl|rfl|rfl|rfl|rfl<;>decide
 ·have d:lP q=none:=by unfold lP;rw[Zi Zo,Zi Zo,Zi Zo,Zi Zo,Zi Zo,Zi Zo,Zi Zo,Zi Zo,Zi Zo]
  rw[d]
  have:tm.find? (λu=>decide (u.1=q))=none:=by rw[zB];intro x g f;have b:x.1=q:=(by simpa using f);obtain⟨h,c,rfl⟩:=ZB.1 g;simp only at b;subst b;simp only[Zq,ZS,YB]at c;exact a c
  rw[this];rfl
def QD(e:kn X):mG X:=⟨λj=>⟨.map 15,by rw[e.hP Zd wz];rfl,λq=>by
 have a:F X j 15=_:=(e.F Zd).trans QX;have c:((tm.map λu=>(u.1,y.agg (jD u.2))).map Prod.fst).Nodup:=by decide
 simp only[fb,a,TJ,cE,SF q _ c];have b:((tm.map λu=>(u.1,y.agg (jD u.2))).find? λu=>decide (u.1=q)).map Prod.snd=(lP q).map λs=>y.agg (jD s):=by
  rw[<-abz q,List.find?_map]
  have:((λu:Int×y=>decide (u.1=q))∘λu:Int×(Int×Bool×Bool×Bool)=>(u.1,y.agg (jD u.2)))=λu=>decide (u.1=q):=rfl
  rw[this];cases tm.find? (λu=>decide (u.1=q))<;>rfl
 rw[b];cases lP q with
 |none=>rfl|some s=>rfl⟩⟩
def QF(e:kn X):tC X:=⟨Qy e,QC e,QE e⟩
end
end
end Go.Proofs.YtehmapikajmjaaaGreatDoor
