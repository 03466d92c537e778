/- Part of the proof of the last text; no conditions -/
import Derived.Test.YtpeabpmnlmaabaaGreatDoorYi
set_option maxHeartbeats 8000000
set_option linter.all false
namespace Go.Proofs.YtpeabpmnlmaabaaGreatDoor
open Go.bg Go.aL
noncomputable section
section
variable{X:ca}{h R aQ aP:S ag}{j an aV aX:Nat}{P:Nat->Prop}
def dV.ahi{C:aN}{h R:S ag}{P:Nat->Prop}{b bd:Nat}{aO:E}{be:List (List E)}(a:dV C h P b aO bd be)(u:be≠[]->W C R b=W C h b):dV C R P b aO bd be:=
 ⟨a.aj,a.many,a.wide,a.len,a.fx,λi r V v aG bF=>by
  rw[cw,u (λD=>by rw[D]at aG;simp at aG), <-cw];exact a.cell i r V v aG bF⟩
def asb{C:aN}{h:S ag}:∀{b8:List bp}{bk:List E}{P:Nat->Prop},de C h P b8 bk->∀(i:Nat) D,b8[i]? =some D->∃w a7,bk[i]? =some w/\(∀e,a7 e->P e)/\cn C h a7 D w/\∀(R:S ag) g9,(∀e,P e->¬a7 e->W C R e=W C h e)->cn C R a7 g9 w->de C R P (b8.set i g9) bk:=by
 intro b8
 induction b8 with
 |nil=>intro bk P _ i D a;simp at a
 |cons F b8 ah=>
  intro bk P a i D aG
  unfold de at a
  obtain⟨v,lI,dG,rfl,bM,M,al⟩:=a
  cases i with
  |zero=>
   simp at aG;subst aG
   refine⟨v,dG,rfl,bM,M,λR g9 aH bA=> ?_⟩
   rw[Yk]
   unfold de
   exact⟨v,lI,dG,rfl,bM,bA,de.ab (λe z=>aH e z.1 z.2) _ _ al⟩
  |succ i=>
   simp at aG
   obtain⟨w,a7,aB,bw,b1,c6⟩:=ah al i D aG
   refine⟨w,a7,by simpa using aB,λe z=>(bw e z).1,b1,λR g9 aH bA=> ?_⟩
   rw[Yr]
   unfold de
   exact⟨v,lI,dG,rfl,bM,cn.ab (λe z=>aH e (bM e z) (λeP=>(bw e eP).2 z)) _ _ M,c6 R g9 (λe z aF=>aH e z.1 aF) bA⟩
def adF{C:aN}{u F:Int}{nm:aR}{no:Bool}{ty:d3}{n:Int}{args:List bp}{v:E}(a:cn C h P (.mk u F nm no ty n args) v):∃(b:Nat) (aO:E) (ce:Nat) (bk:List E),v= .ptr b 0/\P b/\aU C h (.ptr b 8)=some aO/\dV C h P ce aO 1 (bk.map λv=>[v])/\bk.length=args.length/\
 ∀(i:Nat) D,args[i]? =some D->∃w a7,bk[i]? =some w/\(∀e,a7 e->P e/\e≠b)/\cn C h a7 D w/\∀(R:S ag) g9,(∀e,P e->¬a7 e->W C R e=W C h e)->cn C R a7 g9 w->cn C R P (.mk u F nm no ty n (args.set i g9)) v:=by
 unfold cn at a
 obtain⟨b,rfl,bs,bi,M,al,aB,bw,b1,c6,el,gY,aO,ce,bk,iL,kP,mZ,oy⟩:=a
 refine⟨b,aO,ce,bk,rfl,bs,iL,kP,oy.len,λi D aG=> ?_⟩
 obtain⟨w,a7,cE,cA,dT,fG⟩:=asb oy i D aG
 refine⟨w,a7,cE,λe z=>⟨(cA e z).1,(cA e z).2.1⟩,dT,λR g9 aH bA=> ?_⟩
 have Fc:bk≠[]:=λD=>by subst D;simp at cE
 have Cr:P ce:=kP.aj (by simpa using Fc)
 have ly:W C R b=W C h b:=aH b bs λa=>(cA b a).2.1 rfl
 have ahh:W C R ce=W C h ce:=aH ce Cr λa=>(cA ce a).2.2 rfl
 have az:∀T,aU C R (.ptr b T)=aU C h (.ptr b T):=λT=>by rw[cw,cw,ly]
 unfold cn
 exact⟨b,rfl,bs,bi.ab ly,by rw[az];exact M,by rw[az];exact al,by rw[az];exact aB,by rw[az];exact bw,by rw[az];exact b1,by rw[az];exact c6,by rw[az];exact el,by rw[az];exact gY,aO,ce,bk,by rw[az];exact iL,
  dV.ahi kP (λ_=>ahh),λbD=>⟨(mZ bD).1,λaH=>((mZ bD).2 aH).ab ahh⟩,fG R g9 (λe z aF=>aH e z.1 aF) bA⟩
def oU.lens{h:S ag}:∀{cq:List eZ}{be:List (List E)}{P:Nat->Prop},oU X h P cq be->∀(i:Nat) ak,cq[i]? =some ak->∃row a7,be[i]? =some row/\(∀e,a7 e->P e)/\vF X h a7 ak row/\∀(R:S ag) rZ,(∀e,P e->¬a7 e->W X R e=W X h e)->vF X R a7 rZ row->oU X R P (cq.set i rZ) be:=by
 intro cq
 induction cq with
 |nil=>intro be P _ i ak a;simp at a
 |cons F cq ah=>
  rintro be P ⟨row,fP,dG,rfl,bM,M,al⟩ i ak aG
  cases i with
  |zero=>
   simp at aG;subst aG
   exact⟨row,dG,rfl,bM,M,λR rZ aH bA=>⟨row,fP,dG,rfl,bM,bA,al.ab (λe z=>aH e z.1 z.2) (λ_ a=>a)⟩⟩
  |succ i=>
   simp at aG
   obtain⟨w,a7,aB,bw,b1,c6⟩:=ah al i ak aG
   exact⟨w,a7,by simpa using aB,λe z=>(bw e z).1,b1,λR rZ aH bA=>⟨row,fP,dG,rfl,bM,M.ab (λe z=>aH e (bM e z) (λeP=>(bw e eP).2 z)) (λ_ a=>a),c6 R rZ (λe z aF=>aH e z.1 aF) bA⟩⟩
def oW.lens{h:S ag}:∀{cq:List Go.aL.Node}{be:List (List E)}{P:Nat->Prop},oW X h P cq be->∀(i:Nat) ak,cq[i]? =some ak->∃row a7,be[i]? =some row/\(∀e,a7 e->P e)/\vI X h a7 ak row/\∀(R:S ag) rZ,(∀e,P e->¬a7 e->W X R e=W X h e)->vI X R a7 rZ row->oW X R P (cq.set i rZ) be:=by
 intro cq
 induction cq with
 |nil=>intro be P _ i ak a;simp at a
 |cons F cq ah=>
  rintro be P ⟨row,fP,dG,rfl,bM,M,al⟩ i ak aG
  cases i with
  |zero=>
   simp at aG;subst aG
   exact⟨row,dG,rfl,bM,M,λR rZ aH bA=>⟨row,fP,dG,rfl,bM,bA,al.ab (λe z=>aH e z.1 z.2) (λ_ a=>a)⟩⟩
  |succ i=>
   simp at aG
   obtain⟨w,a7,aB,bw,b1,c6⟩:=ah al i ak aG
   exact⟨w,a7,by simpa using aB,λe z=>(bw e z).1,b1,λR rZ aH bA=>⟨row,fP,dG,rfl,bM,M.ab (λe z=>aH e (bM e z) (λeP=>(bw e eP).2 z)) (λ_ a=>a),c6 R rZ (λe z aF=>aH e z.1 aF) bA⟩⟩
def QZ{C:aN}{b n T:Nat}{c:S E}{v:E}(aK:C.a8<=b)(aj:W C h b=some (.cells c n .own))(bi:T+1<=n)(bD:v.cells=[v])(H:po v=true):fT C h 1 (.ptr b T) v=some (bm C h b (some (.cells (c.set T (some v)) n .own))):=by
 have bC:Nat.ble (T+1) n=true:=j3 bi
 have cu:jv C b=true:=by simp[jv,j3 aK]
 have p2:iF [v]=true:=by simp[iF,H]
 simp[fT,bD,sm,aj,bC,cu,p2,fw,pz,hf]
def ar6{C:aN}{u F:Int}{nm:aR}{no:Bool}{ty:d3}{n:Int}{args:List bp}{v:E}(a:cn C h P (.mk u F nm no ty n args) v)(T7:∀e,P e->C.a8<=e)(Ql:aR)(I1:Bool):∃b,v= .ptr b 0/\P b/\
 (∃R,fT C h 1 (.ptr b 3) (.bool I1)=some R/\cn C R P (.mk u F nm I1 ty n args) v/\∀e,e≠b->W C R e=W C h e)/\
 ∃R,fT C h 1 (.ptr b 2) (.str Ql)=some R/\cn C R P (.mk u F Ql no ty n args) v/\∀e,e≠b->W C R e=W C h e:=by
 unfold cn at a
 obtain⟨b,rfl,bs,⟨c,m,bV,bn⟩,M,al,aB,bw,b1,c6,el,gY,aO,ce,bk,iL,kP,mZ,oy⟩:=a
 have aK:=T7 b bs
 have key:∀(T:Nat) (w:E),∀i,i≠T->aU C (bm C h b (some (.cells (c.set T (some w)) m .own))) (.ptr b i)=aU C h (.ptr b i):=λT w i aG=>by
  rw[bG (bh aK),bG bV,S.jP,Zg (λD=>aG D.symm)]
 have ahk:∀(T:Nat) (w:E),aU C (bm C h b (some (.cells (c.set T (some w)) m .own))) (.ptr b T)=some w:=λT w=>by
  rw[bG (bh aK),S.jP,Zp rfl]
 have ly:∀cT e,e≠b->W C (bm C h b cT) e=W C h e:=λcT e z=>aI aK z
 have od:∀cT,dV C (bm C h b cT) P ce aO 1 (bk.map λv=>[v])/\(bk≠[]->ce≠b/\(u=24->DT C (bm C h b cT) ce bk.length))/\de C (bm C h b cT) (λe=>P e/\e≠b/\e≠ce) args bk:=λcT=>
  ⟨dV.ahi kP (λbD=>ly cT ce (mZ (by simpa using bD)).1),λbD=>⟨(mZ bD).1,λaH=>((mZ bD).2 aH).ab (ly cT ce (mZ bD).1)⟩,de.ab (λe z=>ly cT e z.2.1) _ _ oy⟩
 refine⟨b,rfl,bs,⟨_,QZ aK bV Zo rfl rfl, ?_,λe z=>ly _ e z⟩,⟨_,QZ aK bV Zo rfl rfl, ?_,λe z=>ly _ e z⟩⟩
 ·have bB:=key 3 (.bool I1)
  obtain⟨cE,cA,dT⟩:=od (some (.cells (c.set 3 (some (.bool I1))) m .own))
  unfold cn
  exact⟨b,rfl,bs,⟨_,m,bh aK,bn⟩,by rw[bB 0 Zd];exact M,by rw[bB 1 Zd];exact al,by rw[bB 2 Zd];exact aB,ahk 3 _,by rw[bB 4 Zd];exact b1,by rw[bB 5 Zd];exact c6,by rw[bB 6 Zd];exact el,by rw[bB 7 Zd];exact gY,aO,ce,bk,by rw[bB 8 Zd];exact iL,cE,cA,dT⟩
 ·have bB:=key 2 (.str Ql)
  obtain⟨cE,cA,dT⟩:=od (some (.cells (c.set 2 (some (.str Ql))) m .own))
  unfold cn
  exact⟨b,rfl,bs,⟨_,m,bh aK,bn⟩,by rw[bB 0 Zd];exact M,by rw[bB 1 Zd];exact al,ahk 2 _,by rw[bB 3 Zd];exact bw,by rw[bB 4 Zd];exact b1,by rw[bB 5 Zd];exact c6,by rw[bB 6 Zd];exact el,by rw[bB 7 Zd];exact gY,aO,ce,bk,by rw[bB 8 Zd];exact iL,cE,cA,dT⟩
def ar7{C:aN}{F:Int}{nm:aR}{no:Bool}{ty:d3}{n:Int}{x e:bp}{v:E}(a:cn C h P (.mk 24 F nm no ty n [x,e]) v):∃(b:Nat) (aO:E) (ce:Nat) (yD yE:E),v= .ptr b 0/\P b/\P ce/\aU C h (.ptr b 8)=some aO/\gd 1 aO (.Z 0)=some (.ptr ce 0)/\gd 1 aO (.Z 1)=some (.ptr ce 1)/\aU C h (.ptr ce 0)=some yD/\aU C h (.ptr ce 1)=some yE/\
 ∃aQ,fT C h 1 (.ptr ce 0) yE=some aQ/\∃aP,fT C aQ 1 (.ptr ce 1) yD=some aP/\cn C aP P (.mk 24 F nm no ty n [e,x]) v/\(∀e,e≠ce->W C aP e=W C h e):=by
 unfold cn at a
 obtain⟨b,rfl,bs,bi,M,al,aB,bw,b1,c6,el,gY,aO,ce,bk,iL,kP,mZ,oy⟩:=a
 unfold de de de at oy
 obtain⟨yD,lI,a7,rfl,eP,af,yE,aHI,dG,rfl,d9,z,rfl⟩:=oy
 obtain⟨kC,bb⟩:=mZ Zs
 obtain⟨aK,c,m,bV,bn⟩:=bb rfl
 have bn:2<=m:=bn
 obtain⟨hg,gq,Cr⟩:=kP.one (i:=0) (v:=yD) rfl
 obtain⟨qY,wD,_⟩:=kP.one (i:=1) (v:=yE) rfl
 obtain⟨Kd,rfl,_,_⟩:=af.ptr
 obtain⟨acH,rfl,_,_⟩:=z.ptr
 refine⟨b,aO,ce,_,_,rfl,bs,Cr,iL,hg,qY,gq,wD,_,QZ aK bV Zo rfl rfl,_,QZ aK (bh aK) Zo rfl rfl, ?_,λe z=>by rw[aI aK z,aI aK z]⟩
 generalize dR:bm C (bm C h ce _) ce _=aP
 have cm:∀e,e≠ce->W C aP e=W C h e:=λe z=>by rw[<-dR,aI aK z,aI aK z]
 have b2:W C aP ce=some (.cells ((c.set 0 (some (.ptr acH 0))).set 1 (some (.ptr Kd 0))) m .own):=by rw[<-dR,bh aK]
 clear dR
 have az:∀T,aU C aP (.ptr b T)=aU C h (.ptr b T):=λT=>by rw[cw,cw,cm b (λD=>kC D.symm)]
 unfold cn
 refine⟨b,rfl,bs,bi.ab (cm b (λD=>kC D.symm)),by rw[az];exact M,by rw[az];exact al,by rw[az];exact aB,by rw[az];exact bw,by rw[az];exact b1,by rw[az];exact c6,by rw[az];exact el,by rw[az];exact gY,aO,ce,[.ptr acH 0, .ptr Kd 0],by rw[az];exact iL,
  ⟨λ_=>Cr,Zs,Zs,kP.len,λi aG=>kP.fx i aG,λi r V v aG bF=> ?_⟩,λ_=>⟨kC,λ_=>⟨aK,_,m,b2,bn⟩⟩, ?_⟩
 ·rw[bG b2,S.jP,S.jP]
  match i,aG with
  |0,aG=>
   simp at aG;subst aG
   have:=(Zb.1 bF).1
   have UL:V=0:=by simpa using this
   subst UL
   simp at bF;subst bF;simp
  |1,aG=>
   simp at aG;subst aG
   have:=(Zb.1 bF).1
   have UL:V=0:=by simpa using this
   subst UL
   simp at bF;subst bF;simp
  |i+2,aG=>simp at aG
 ·unfold de de de
  refine⟨_,_,dG,rfl,λe z=>(d9 e z).1,cn.ab (λe z=>cm e (d9 e z).1.2.2) _ _ z,_,_,a7,rfl,λe z=>⟨eP e z,λY=>(d9 e Y).2 z⟩,cn.ab (λe z=>cm e (eP e z).2.2) _ _ af,rfl⟩
def aCX{α:Type}{k:List α}{i:Nat}{F:α}(a:k[i]? =some F):k.set i F=k:=by
 apply YS
 intro V
 rw[zp]
 split
 ·rename_i D;subst D;rw[a];simp[(Zb.1 a).1]
 ·rfl
def acn:bp->List bp->bp
 | .mk u F nm no ty n _,k=> .mk u F nm no ty n k
def Ws{α:Type}{bu:α->α}{k:List α}{V:Nat}{F:α}(a:k[V]? =some F):((k.take V).map bu++k.drop V).set V (bu F)=(k.take (V+1)).map bu++k.drop (V+1):=by
 obtain⟨H,M⟩:=Zb.1 a
 have az:((k.take V).map bu).length=V:=by rw[Zi,Yz];omega
 rw[List.set_append_right _ _ Zo,az,zx,Zr H,Yk,ZY,a,ZW,List.append_assoc]
 rfl
set_option maxRecDepth 100000 in
def aES(aw:dk X){u:Nat}{ox ha:List E}{st bu:bp->bp}{fm:Nat->Prop}{dB:S ag->Nat->Prop}{GW:bp->Prop}(rz:∀D,bu D=acn (st D) ((st D).args.map bu))(eA:∀D F,F∈(st D).args->SizeOf.sizeOf F<SizeOf.sizeOf D)(f6:∀D,GW D->∀F∈(st D).args,GW F)
 (gf:∀h n R aS,dB h n->n<=aS->(∀e,e<n->¬fm e->W X R e=W X h e)->dB R aS)
 (c8:∀D v h j P,(∀e,P e->fm e/\e<j)->dB h j->GW D->cn X h P D v->a2 X u ((ox++[v])++ha) h j (λac R an=>ac= .zT/\j<=an/\cn X R P (st D) v/\∀e,e<j->¬P e->W X R e=W X h e) zL):
 ∀(N:Nat) (D:bp),SizeOf.sizeOf D<N->∀(P:Nat->Prop) (v:E) (h:S ag) (j:Nat),(∀e,P e->fm e/\e<j)->dB h j->GW D->cn X h P D v->
  a2 X 16 [v, .func (.func u) ox ha] h j (λac R an=>ac= .tuple []/\j<=an/\cn X R P (bu D) v/\∀e,e<j->¬P e->W X R e=W X h e) zL:=by
 intro N
 induction N with
 |zero=>intro D a;omega
 |succ N ah=>
  intro D jw P v h j bs bF agc bA
  obtain⟨hu,rfl,mY,_⟩:=bA.ptr
  refine zG aw (aar X) ?_
  rw[aas]
  unfold RK
  refine cj @Jd ⟨?_⟩
  refine(c8 D _ h j P bs bF agc bA).Zm ?_
  rintro ac aQ aV ⟨rfl,jy,pc,jx⟩
  have UM:=gf h j aQ aV bF jy (λe z cx=>jx e z (λa=>cx (bs e a).1))
  have Au:∀e,P e->fm e/\e<aV:=λe z=>⟨(bs e z).1,zz (bs e z).2⟩
  have PK:=eA D
  have Ps:=f6 D agc
  rw[rz D]
  generalize st D=bC at pc PK Ps ⊢
  obtain⟨bR,bf,Qm,aAg,XF,es,args⟩:=bC
  have PK:∀F,F∈args->SizeOf.sizeOf F<SizeOf.sizeOf D:=PK
  have Ps:∀F∈args,GW F:=Ps
  obtain⟨b,aO,ce,bk,pP,aj,jf,cG,qW,_⟩:=id (adF pc)
  cases pP
  have d2:=cG.len
  rw[Zi,qW]at d2
  have h1:=cG.many
  rw[Zi,qW]at h1
  refine cS @jf @d2 ⟨?_⟩
  refine fE (λm I R aS=>∃(V:Nat),I.g 1=some (.func (.func u) ox ha)/\I.g 17=some aO/\I.g 18=some (.Z (args.length:Int))/\I.g 19=some (.Z (V:Int))/\V+m=args.length/\aV<=aS/\dB R aS/\aU X R (.ptr hu 8)=some aO/\cn X R P (.mk bR bf Qm aAg XF es ((args.take V).map bu++args.drop V)) (.ptr hu 0)/\∀e,e<aV->¬P e->W X R e=W X aQ e)
   args.length ⟨0,bo,bo,bo,fY,Zo,Zj _,UM,jf,by simpa using pc,λ_ _ _=>rfl⟩ ?_
  clear jf cG
  rintro m I aP aX ⟨V,t1,wX,yx,s4,bF,fN,Ib,jf,wk,hD⟩
  cases m with
  |zero=>
   have d:=zA V args.length
   rw[ZA Zo,ZC Zo,Yh]at wk
   refine er @s4 @yx @d ⟨?_⟩
   exact⟨rfl,Zo,wk,λe z aF=>by rw[hD e Zo aF];exact jx e z aF⟩
  |succ m=>
   have d:=zB V args.length
   have bC:=zE V
   obtain⟨F,aE⟩:=zC args V
   obtain⟨dD,lh,aqd,lI,pP,kh,ab0,x2,aGV,avL⟩:=adF wk
   cases pP
   rw[jf]at ab0
   cases ab0
   have lR:((args.take V).map bu).length=V:=by rw[Zi,Yz];omega
   obtain⟨w,a7,nt,eP,axw,x0⟩:=avL V F (by rw[ZM Zo,lR,zx,Yi];exact aE)
   obtain⟨bP,b2,cI⟩:=x2.one nt
   refine eh @s4 @yx @wX @t1 @d @bP @b2 ⟨?_⟩
   have aeV:∀e,a7 e->fm e/\e<aX:=λe z=>⟨(Au e (eP e z).1).1,zz (Au e (eP e z).1).2⟩
   refine(ah F (zz (PK F (Zl aE))) a7 w aP aX aeV Ib (Ps F (Zl aE)) axw).Zm ?_
   rintro ac a6 bz ⟨rfl,jm,Us,la⟩
   have rD:=x0 a6 (bu F) (λe z aF=>la e (zz (Au e z).2) aF) Us
   rw[Ws aE]at rD
   have aFX:=(Au hu aj).2
   refine cS @s4 @bC ⟨?_⟩
   exact⟨m,Zo,V+1,aW t1,aW wX,aW yx,bo,Zo,Zo,gf aP aX a6 bz Ib jm (λe z cx=>la e z (λa=>cx (aeV e a).1)),zK (la hu Zo (λa=>(eP hu a).2 rfl)) jf,rD,λe z aF=>by rw[la e Zo (λa=>aF (eP e a).1)];exact hD e z aF⟩
end
def gs(X:ca)(h:S ag)(bT:Nat)(p:E)(u:Int)(cr di:E)(f:Int×Int):Prop:=W X h bT=zD [p, .Z u,cr,di, .Z f.1, .Z f.2] 6
def ni(f:Int×Int)(c F:Int):Int×Int:=if f.1=0 then(c,F)else f
section
variable{X:ca}{h R aQ aP:S ag}{j an aV aX:Nat}
def xr(aw:dk X){bT:Nat}{p cr di:E}{u:Int}{f:Int×Int}(aF:(o X).a8<=bT)(aA:gs X h bT p u cr di f)(c F:Int):
 a2 X 80 [.ptr bT 0, .Z c, .Z F] h j (λac R an=>ac= .tuple []/\gs X R bT p u cr di (ni f c F)/\j<=an/\∀e,e≠bT->W X R e=W X h e) zL:=by
 refine zG aw (an7 X) ?_
 rw[an8]
 unfold abw
 obtain⟨eO,fp⟩:=f
 have Ui:=aA
 unfold gs at aA
 have hn:aU X h (.ptr bT 4)=some (.Z eO):=by rw[bG aA];rfl
 by_cases aK:eO=0
 ·have d:decide (eO=0)=true:=by simp[aK]
  refine iq ⟨?_⟩
  refine iq ⟨?_⟩
  refine iq ⟨?_⟩
  refine cS @hn @d ⟨?_⟩
  refine⟨rfl, ?_,Zj _,λe z=>aI Zo z⟩
  unfold gs ni
  rw[bh Zo]
  simp only[aK,ZG]
  rfl
 ·have d:decide (eO=0)=false:=by simp[aK]
  refine cS @hn @d ⟨?_⟩
  refine⟨rfl, ?_,Zj _,λ_ _=>rfl⟩
  unfold ni
  simp only[aK,ZB]
  exact Ui
def wM(D:bp):Bool:=decide (D.kind=2)||decide (D.kind=6)||decide (D.kind=24)
def azW(aw:dk X){P:Nat->Prop}{D:bp}{v:E}(bA:cn X h P D v):
 a2 X 104 [v] h j (λac R an=>ac= .bool (wM D)/\R=h/\j<=an) zL:=by
 refine zG aw (ak2 X) ?_
 rw[ak3]
 unfold β
 obtain⟨b,rfl,aj,a0⟩:=bA.ptr
 by_cases M:D.kind=2
 ·have d:decide (D.kind=2)=true:=by simp[M]
  refine cS @a0 @d ⟨?_⟩
  exact⟨by simp[wM,M],rfl,Zo⟩
 ·have d:decide (D.kind=2)=false:=by simp[M]
  by_cases b1:D.kind=6
  ·have ht:decide (D.kind=6)=true:=by simp[b1]
   refine er @a0 @d @ht ⟨?_⟩
   exact⟨by simp[wM,b1],rfl,Zo⟩
  ·have ht:decide (D.kind=6)=false:=by simp[b1]
   refine er @a0 @d @ht ⟨?_⟩
   exact⟨by simp[wM,M,b1],rfl,Zo⟩
end
def Hw(D:aR×E×Nat):E×E×Nat:=(.str D.1,D.2.1,D.2.2)
variable{bB:Type}[DecidableEq bB]
def mU:List (bB×E×Nat)->bB->Nat->Option (Nat×E)
 |[],_,_=>none
 |x::dv,w,i=>if x.1=w then some (i,x.2.1)else mU dv w (i+1)
def sS(dv:List (bB×E×Nat))(w:bB):Option E:=(mU dv w 0).map Prod.snd
def Tf(w:bB):∀(dv:List (bB×E×Nat)) (i:Nat),mU dv w (i+1)=(mU dv w i).map λp=>(p.1+1,p.2):=by
 intro dv
 induction dv with
 |nil=>intro i;rfl
 |cons x dv ah=>
  intro i
  simp only[mU]
  split
  ·rfl
  ·exact ah (i+1)
def C5(x:bB×E×Nat)(dv:List (bB×E×Nat))(w:bB):sS (x::dv) w=if x.1=w then some x.2.1 else sS dv w:=by
 unfold sS
 simp only[mU]
 split
 ·rfl
 ·rw[Tf];cases mU dv w 0<;>rfl
def adX(w:bB):∀(dv:List (bB×E×Nat)) (V:Nat) (v:E),mU dv w 0=some (V,v)->∃b,dv[V]? =some (w,v,b):=by
 intro dv
 induction dv with
 |nil=>intro V v a;cases a
 |cons x dv ah=>
  intro V v a
  simp only[mU]at a
  split at a
  ·rename_i D
   cases a
   exact⟨x.2.2,by simp[<-D]⟩
  ·rw[Tf]at a
   cases bM:mU dv w 0 with
   |none=>rw[bM]at a;cases a
   |some p=>
    rw[bM]at a
    simp at a
    obtain⟨rfl,rfl⟩:=a
    obtain⟨b,aj⟩:=ah p.1 p.2 bM
    exact⟨b,by simpa using aj⟩
def ahO(w b5:bB)(v:E)(b:Nat):∀dv:List (bB×E×Nat),sS dv w=none->sS (dv++[(w,v,b)]) b5=if b5=w then some v else sS dv b5:=by
 intro dv
 induction dv with
 |nil=>
  intro _
  rw[YF,C5]
  by_cases a:b5=w
  ·simp[a]
  ·have:¬w=b5:=λD=>a D.symm
   simp[a,this]
 |cons x dv ah=>
  intro a
  rw[C5]at a
  split at a
  ·cases a
  ·rename_i af
   rw[YO,C5,C5,ah a]
   by_cases D:x.1=b5
   ·have:¬b5=w:=λak=>af (D.trans ak)
    simp[D,this]
   ·simp[D]
def ahP(w b5:bB)(v:E):∀(dv:List (bB×E×Nat)) (V:Nat) (v0:E) (b:Nat),mU dv w 0=some (V,v0)->sS (dv.set V (w,v,b)) b5=if b5=w then some v else sS dv b5:=by
 intro dv
 induction dv with
 |nil=>intro V v0 b a;cases a
 |cons x dv ah=>
  intro V v0 b a
  simp only[mU]at a
  split at a
  ·rename_i D
   simp at a
   obtain⟨rfl,rfl⟩:=a
   rw[Yk,C5,C5]
   by_cases a:b5=w
   ·simp[a]
   ·have H:¬w=b5:=λak=>a ak.symm
    have M:¬x.1=b5:=λak=>a (ak.symm.trans D)
    simp[a,H,M]
  ·rename_i D
   rw[Tf]at a
   cases bM:mU dv w 0 with
   |none=>rw[bM]at a;cases a
   |some p=>
    rw[bM]at a
    simp at a
    obtain⟨rfl,rfl⟩:=a
    rw[Yr,C5,C5,ah p.1 p.2 b bM]
    by_cases M:x.1=b5
    ·have:¬b5=w:=λak=>D (M.trans ak)
     simp[M,this]
    ·simp[M]
section
variable{X:ca}{h R aQ aP:S ag}{j an aV aX:Nat}
def pF(X:ca)(h:S ag)(r:Nat)(dP:aR->Option E):Prop:=∃dv ff,W X h r=some (.map (dv.map Hw) ff)/\∀w,sS dv w=dP w
def pF.ab{r:Nat}{dP:aR->Option E}(a:pF X h r dP)(u:W X R r=W X h r):pF X R r dP:=by
 obtain⟨dv,ff,H,M⟩:=a
 exact⟨dv,ff,by rw[u];exact H,M⟩
def Qt(w:aR):nQ X 20 9 (.str w)=true:=Zk
def adw(w b5:aR):jg X h 20 9 (.str w) (.str b5)=some (m4 w b5):=Zk
def Tc(w:aR):∀(dv:List (aR×E×Nat)) (i:Nat),findKey X h 9 (.str w) (dv.map Hw) i=some (mU dv w i):=by
 intro dv
 induction dv with
 |nil=>intro i;rfl
 |cons x dv ah=>
  intro i
  simp only[ZJ,Hw,findKey,adw,Ba,mU]
  by_cases a:w=x.1
  ·have:x.1=w:=a.symm
   simp[this]
  ·have:¬x.1=w:=λD=>a D.symm
   simp only[a,this,Yl,ZB]
   exact ah (i+1)
def ays(w:aR):oH 20 (.str w) (.str w)=true:=by
 show m4 w w=true
 rw[Ba];simp
def FB{r:Nat}{dP:aR->Option E}(a:pF X h r dP)(bE:E)(w:aR)(ok:Bool):
 n3 X h 9 bE (.map r) (.str w) ok=some (match dP w with|some v=>b0 ok (.tuple [v, .zT]) v|none=>b0 ok (.tuple [bE, .zF]) bE):=by
 obtain⟨dv,ff,H,M⟩:=a
 have al:=M w
 unfold sS at al
 simp only[n3,H,Qt,fo,Tc]
 cases bM:mU dv w 0 with
 |none=>rw[bM]at al;rw[<-al];rfl
 |some p=>rw[bM]at al;rw[<-al];rfl
def Qe{r:Nat}{dP:aR->Option E}(Y:(o X).a8<=r)(a:pF X h r dP)(w:aR)(v:E):
 ∃R,uh X h j 9 (.map r) (.str w) v=some (.fH bg.undef R j)/\pF X R r (λx=>if x=w then some v else dP x)/\∀e,e≠r->W X R e=W X h e:=by
 obtain⟨dv,ff,H,M⟩:=a
 have aJ:jv X r=true:=j3 Y
 cases b4:mU dv w 0 with
 |none=>
  refine⟨Go.bg.bm X h r (some (.map ((dv++[(w,v,ff)]).map Hw) (ff+1))), ?_,⟨dv++[(w,v,ff)],ff+1,bh Y,λx=> ?_⟩,λe z=>aI Y z⟩
  ·simp only[uh,H,Qt,fo,Tc,b4,bg.setObj,aJ,fo,hf]
   rw[ZW]
   rfl
  ·rw[ahO _ _ _ _ _ (by unfold sS;rw[b4];rfl),M]
 |some p=>
  obtain⟨V,v0⟩:=p
  obtain⟨born,aj⟩:=adX w dv V v0 b4
  have dn:(dv.map Hw)[V]? =some (.str w,v0,born):=by rw[Zy,aj];rfl
  refine⟨Go.bg.bm X h r (some (.map ((dv.set V (w,v,born)).map Hw) ff)), ?_,⟨dv.set V (w,v,born),ff,bh Y,λx=> ?_⟩,λe z=>aI Y z⟩
  ·simp only[uh,H,Qt,fo,Tc,b4,qi,dn,ays,bg.setObj,aJ,fo,hf]
   rw[List.map_set]
   rfl
  ·rw[ahP w x v dv V v0 born b4,M]
end
end
noncomputable section
structure c0 where
 kind:Int
 d:eb
 eq:Int
 left:Int
def px:c0:=⟨0,⟨[],0,dQ,[],0,false⟩,0,0⟩
def oO(v:c0):List E:=[.Z v.kind, .str v.d.name, .Z v.d.at_, .bool v.d.ty.b, .bool v.d.ty.s, .Z v.d.ty.w, .str v.d.on, .Z v.d.eX, .bool v.d.no, .Z v.eq, .Z v.left]
def kd(X:ca)(h:S ag)(P:Nat->Prop)(cr:E)(t:aR->Option c0):Prop:=∃b r,cr= .ptr b 0/\P b/\P r/\aU X h (.ptr b 0)=some (.map r)/\pF X h r (λw=>(t w).map λv=> .agg (oO v))
section
variable{X:ca}{h R aQ aP:S ag}{j an aV aX:Nat}
def kd.ab{P a7:Nat->Prop}{cr:E}{t:aR->Option c0}(a:kd X h P cr t)(u:∀e,P e->W X R e=W X h e)(az:∀e,P e->a7 e):kd X R a7 cr t:=by
 obtain⟨b,r,H,M,al,aB,bw⟩:=a
 exact⟨b,r,H,az b M,az r al,zK (u b M) aB,bw.ab (u r al)⟩
def adA(b:Nat):db X h .eql 41 true (.ptr b 0) .cN=some .zF:=Zk
def HE(aw:dk X){P:Nat->Prop}{cr:E}{t:aR->Option c0}(aF:(o X).a8<=j)(ba:kd X h P cr t)(bs:∀e,P e->e<j)(w:aR):
 a2 X 12 [cr, .str w] h j (λac R an=>ac= .tuple [.agg (oO ((t w).getD px)), .bool (t w).isSome]/\br X h j R an) zL:=by
 refine zG aw (alN X) ?_
 rw[alO]
 unfold π
 obtain⟨b,r,rfl,aj,Y,a0,bn⟩:=ba
 have f5:=bs b aj
 have CF:=bs r Y
 refine so ?_
 generalize dl:bm X h j _=aQ
 have bP:W X aQ j=zD [.Z 0, .str [], .Z 0, .zF, .zF, .Z 0, .str [], .Z 0, .zF, .Z 0, .Z 0] 11:=by rw[<-dl,bh aF];rfl
 have bL:br X h j aQ (j+1):=by rw[<-dl];exact dH
 clear dl
 have bf:aU X aQ (.ptr b 0)=some (.map r):=zK (bL.ab b f5) a0
 have Lu:=bn.ab (bL.ab r CF)
 have kT:=FB Lu (.agg [.Z 0, .str [], .Z 0, .zF, .zF, .Z 0, .str [], .Z 0, .zF, .Z 0, .Z 0]) w true
 have Ie:n3 X aQ 9 (.agg [.Z 0, .str [], .Z 0, .zF, .zF, .Z 0, .str [], .Z 0, .zF, .Z 0, .Z 0]) (.map r) (.str w) true=some (.tuple [.agg (oO ((t w).getD px)), .bool (t w).isSome]):=by
  rw[kT];cases t w<;>rfl
 clear kT
 generalize (t w).getD px=v at*
 have p6:oO v=[.Z v.kind, .str v.d.name, .Z v.d.at_, .bool v.d.ty.b, .bool v.d.ty.s, .Z v.d.ty.w, .str v.d.on, .Z v.d.eX, .bool v.d.no, .Z v.eq, .Z v.left]:=rfl
 rw[p6]at Ie ⊢
 refine er @adA @bf @Ie ⟨?_⟩
 refine gm (jG (u:=11) (b:=j) (T:=0) (n:=11) (c:=S.ofList [.Z 0, .str [], .Z 0, .zF, .zF, .Z 0, .str [], .Z 0, .zF, .Z 0, .Z 0] 0 .nil) (by simp(disch:=omega) only[aI];exact bP) aF rfl Zd Zd rfl) ?_
 generalize eQ:bm X _ j _=a6
 have cI:W X a6 j=zD [.Z v.kind, .str v.d.name, .Z v.d.at_, .bool v.d.ty.b, .bool v.d.ty.s, .Z v.d.ty.w, .str v.d.on, .Z v.d.eX, .bool v.d.no, .Z v.eq, .Z v.left] 11:=by rw[<-eQ,bh aF];rfl
 have cp:br X h j a6 (j+1+1):=⟨Zo,λe z=>by rw[<-eQ];simp(disch:=omega) only[aI];exact bL.ab e z⟩
 clear eQ
 refine cj (bG cI) ⟨?_⟩
 exact⟨rfl,cp⟩
end
def Mh(t:aR->Option c0)(ae:aR->Option Int)(f:Int×Int)(w:aR)(F:Int):Int×Int:=match t w with
 |none=>ni f 23 F
 |some v=>if v.kind=1\/1<(ae w).getD 0+1 then ni f 24 F else f
def o4(ae:aR->Option Int)(w:aR):Option E:=(ae w).map λu=> .Z u
section
variable{X:ca}{h R aQ aP:S ag}{j an aV aX:Nat}
def ay2(aw:dk X){P:Nat->Prop}{bT di:Nat}{p cr:E}{u:Int}{t:aR->Option c0}{ae:aR->Option Int}{f:Int×Int}(aF:(o X).a8<=j)(iO:(o X).a8<=bT)(xR:(o X).a8<=di)(AC:bT<j)(xS:di<j)(u4:bT≠di)
 (aA:gs X h bT p u cr (.map di) f)(ba:kd X h P cr t)(bs:∀e,P e->e<j/\e≠bT/\e≠di)(fZ:pF X h di (o4 ae))(w:aR)(F:Int)(aj:0<=(ae w).getD 0/\(ae w).getD 0<4000000000000000000):
 a2 X 82 [.ptr bT 0, .str w, .Z F] h j (λac R an=>ac= .tuple []/\gs X R bT p u cr (.map di) (Mh t ae f w F)/\pF X R di (o4 λx=>if x=w then some ((ae w).getD 0+1)else ae x)/\j<=an/\∀e,e<j->e≠bT->e≠di->W X R e=W X h e) zL:=by
 refine zG aw (aob X) ?_
 rw[aoc]
 unfold aby
 have cZ:aU X h (.ptr bT 2)=some cr:=by unfold gs at aA;rw[bG aA];rfl
 refine cj @cZ ⟨?_⟩
 refine(HE aw aF ba (λe z=>(bs e z).1) w).Zm ?_
 rintro ac aQ aV ⟨rfl,bL⟩
 have jy:=bL.le
 have sE:gs X aQ bT p u cr (.map di) f:=by unfold gs;rw[bL.ab bT AC];exact aA
 have atX:=fZ.ab (bL.ab di xS)
 generalize bD:(t w).getD px=v
 have p6:oO v=[.Z v.kind, .str v.d.name, .Z v.d.at_, .bool v.d.ty.b, .bool v.d.ty.s, .Z v.d.ty.w, .str v.d.on, .Z v.d.eX, .bool v.d.no, .Z v.eq, .Z v.left]:=rfl
 rw[p6]
 refine iq ⟨?_⟩
 refine iq ⟨?_⟩
 refine so ?_
 refine iq ⟨?_⟩
 generalize dR:bm X _ aV _=aP
 have b2:W X aP aV=zD [.Z v.kind, .str v.d.name, .Z v.d.at_, .bool v.d.ty.b, .bool v.d.ty.s, .Z v.d.ty.w, .str v.d.on, .Z v.d.eX, .bool v.d.no, .Z v.eq, .Z v.left] 11:=by rw[<-dR,bh Zo];rfl
 have bI:br X h j aP (aV+1):=⟨Zo,λe z=>by rw[<-dR];simp(disch:=omega) only[aI];exact bL.ab e z⟩
 have hD:∀e,e<aV->W X aP e=W X aQ e:=λe z=>by rw[<-dR];exact zF
 clear dR
 have H2:gs X aP bT p u cr (.map di) f:=by unfold gs;rw[hD bT Zo];exact sE
 have aeA:=atX.ab (hD di Zo)
 have eW:aU X aP (.ptr bT 3)=some (.map di):=by unfold gs at H2;rw[bG H2];rfl
 have kT:n3 X aP 9 (.Z 0) (.map di) (.str w) false=some (.Z ((ae w).getD 0)):=by
  rw[FB aeA];unfold o4;cases ae w<;>rfl
 have bC:bv .add (.Z ((ae w).getD 0)) (.Z 1)=some (.Z ((ae w).getD 0+1)):=eI Zo Zo
 refine er @eW @kT @bC ⟨?_⟩
 obtain⟨a6,sK,aeB,la⟩:=Qe (j:=aV+1) xR aeA w (.Z ((ae w).getD 0+1))
 refine kH sK ?_
 have xP:gs X a6 bT p u cr (.map di) f:=by unfold gs;rw[la bT u4];exact H2
 rw[<-la aV Zo]at b2
 have KR:pF X a6 di (o4 λx=>if x=w then some ((ae w).getD 0+1)else ae x):=by
  have:(λx=>if x=w then some (E.Z ((ae w).getD 0+1))else o4 ae x)=(o4 λx=>if x=w then some ((ae w).getD 0+1)else ae x):=by
   funext x;unfold o4;by_cases a:x=w<;>simp[a]
  rw[<-this];exact aeB
 have Pj:∀e,e<j->e≠di->W X a6 e=W X h e:=λe H M=>by rw[la e M];exact bI.ab e H
 clear kT sK aeB eW
 unfold Mh
 cases LS:t w with
 |none=>
  simp only[Z3,Yx]
  refine cL ⟨?_⟩
  refine(xr (j:=aV+1) (h:=a6) aw iO xP 23 F).Zm ?_
  rintro ac bH cC ⟨rfl,wi,iu,gz⟩
  refine cL ⟨?_⟩
  exact⟨by first|trivial|rfl,wi,KR.ab (gz di Zo),Zo,λe H M al=>by rw[gz e M];exact Pj e H al⟩
 |some f9=>
  have CM:f9=v:=by rw[LS]at bD;exact bD
  subst CM
  simp only[Ya,Yw]
  have ft:aU X a6 (.ptr aV 0)=some (.Z f9.kind):=by rw[bG b2];rfl
  have eW:aU X a6 (.ptr bT 3)=some (.map di):=by unfold gs at xP;rw[bG xP];rfl
  have kT:n3 X a6 9 (.Z 0) (.map di) (.str w) false=some (.Z ((ae w).getD 0+1)):=by
   rw[FB KR];unfold o4;simp
  by_cases H:f9.kind=1
  ·have d:decide (f9.kind=1)=true:=by simp[H]
   refine cS @ft @d ⟨?_⟩
   refine(xr (j:=aV+1) (h:=a6) aw iO xP 24 F).Zm ?_
   rintro ac bH cC ⟨rfl,wi,iu,gz⟩
   refine cL ⟨?_⟩
   exact⟨by first|trivial|rfl,by simp only[H,true_or,ZG];exact wi,KR.ab (gz di Zo),Zo,λe H M al=>by rw[gz e M];exact Pj e H al⟩
  ·have d:decide (f9.kind=1)=false:=by simp[H]
   by_cases M:1<(ae w).getD 0+1
   ·have cM:decide (1<(ae w).getD 0+1)=true:=by simp only[Zh];exact M
    refine f3 @ft @d @eW @kT @cM ⟨?_⟩
    refine(xr (j:=aV+1) (h:=a6) aw iO xP 24 F).Zm ?_
    rintro ac bH cC ⟨rfl,wi,iu,gz⟩
    refine cL ⟨?_⟩
    exact⟨by first|trivial|rfl,by simp only[H,M,or_true,ZG];exact wi,KR.ab (gz di Zo),Zo,λe H M al=>by rw[gz e M];exact Pj e H al⟩
   ·have cM:decide (1<(ae w).getD 0+1)=false:=by simp only[Zc];exact M
    refine f3 @ft @d @eW @kT @cM ⟨?_⟩
    exact⟨by first|trivial|rfl,by simp only[H,M,Yq,ZB];exact xP,KR,Zo,λe H M al=>Pj e H al⟩
end
def yq(t:aR->Option c0)(f:Int×Int)(D:bp):Int×Int:=if wM D then(if (t D.name).isSome then f else ni f 23 D.at_)else f
def Jo(am:List Go.aL.Node)(u:Nat)(f:Int×Int)(D:bp):Int×Int:=if D.kind=25 then(match mz am D.name with
 |none=>ni f 23 D.at_
 |some V=>if u<=V then ni f 25 D.at_ else f)else f
def ut(t:aR->Option c0)(am:List Go.aL.Node)(u:Nat)(f:Int×Int)(D:bp):(Int×Int)×Bool:=(Jo am u (yq t f D) D,true)
structure G0(X:ca)(fi:S ag)(a8 bT:Nat)(p:E)(u:Nat)(cr di:E)(f:Int×Int)(h:S ag)(j:Nat):Prop where
 le:a8<=j
 kz:gs X h bT p u cr di f
 low:∀e,e<a8->e≠bT->W X h e=W X fi e
section
variable{X:ca}{h R fi aQ aP:S ag}{j an aV aX:Nat}
def aCm(aw:dk X){P:Nat->Prop}{fV bT hU:Nat}{p cr di:E}{u:Nat}{t:aR->Option c0}{am:List Go.aL.Node}(aGq:(o X).a8<=fV)(iO:(o X).a8<=bT)(AC:bT<fV)(PA:hU<fV)(Px:hU≠bT)(bM:aU X fi (.ptr hU 0)=some (.ptr bT 0))
 (bs:∀e,P e->e<fV/\e≠bT)(ba:kd X fi P cr t)(bV:oX X fi P am p){f:Int×Int}(pU:G0 X fi fV bT p u cr di f h j){D:bp}{v:E}(bA:cn X h P D v):
 a2 X 103 [v, .ptr hU 0] h j (λac R an=>ac= .zT/\G0 X fi fV bT p u cr di (ut t am u f D).1 R an) zL:=by
 refine zG aw (ak0 X) ?_
 rw[ak1]
 unfold X9
 refine(azW aw bA).Zm ?_
 rintro ac aQ aV ⟨rfl,rfl,jy⟩
 have aGt:=pU.le
 have iA:∀h,W X h hU=W X fi hU->aU X h (.ptr hU 0)=some (.ptr bT 0):=λh a=>zK a bM
 refine ko (λda R aS=>da.g 0=some v/\da.g 1=some (.ptr hU 0)/\G0 X fi fV bT p u cr di (yq t f D) R aS/\cn X R P D v) (λV bF=> ?_) ?_
 ·obtain⟨b,_,_,_,rfl,aj,a0,bf,cf,_⟩:=id bA.open
  unfold yq at bF
  cases g1:wM D with
  |false=>
   rw[g1]at bF
   simp only[Zw,ZB]at bF
   refine cL ⟨?_⟩
   exact bF _ _ _ ⟨bo,bo,⟨Zo,pU.kz,pU.low⟩,bA⟩
  |true=>
   rw[g1]at bF
   simp only[ZG]at bF
   have Vi:=iA aQ (pU.low hU PA Px)
   have cZ:aU X aQ (.ptr bT 2)=some cr:=by have:=pU.kz;unfold gs at this;rw[bG this];rfl
   refine er @Vi @cZ @cf ⟨?_⟩
   refine e0 (λaP=>W X aP (aV+12)=zD [.Z 0, .str [], .Z 0, .zF, .zF, .Z 0, .str [], .Z 0, .zF, .Z 0, .Z 0] 11/\br X aQ aV aP (aV+12+1)) ⟨by rw[bh Zo];rfl,Zo,λe z=>zF⟩ ?_
   rintro aP ⟨b2,bI⟩
   have cm:∀e,e<fV->W X aP e=W X aQ e:=λe z=>bI.ab e Zo
   refine(HE (j:=aV+15) (h:=aP) aw Zo (ba.ab (a7:=P) (λe z=>by rw[cm e (bs e z).1];exact pU.low e (bs e z).1 (bs e z).2) (λ_ a=>a)) (λe z=>zz (bs e z).1) D.name).Zm ?_
   rintro ac a6 bz ⟨rfl,cp⟩
   have jm:=cp.le
   have cI:W X a6 (aV+12)=zD [.Z 0, .str [], .Z 0, .zF, .zF, .Z 0, .str [], .Z 0, .zF, .Z 0, .Z 0] 11:=by rw[cp.ab _ Zo];exact b2
   generalize CM:(t D.name).getD px=fA
   have p6:oO fA=[.Z fA.kind, .str fA.d.name, .Z fA.d.at_, .bool fA.d.ty.b, .bool fA.d.ty.s, .Z fA.d.ty.w, .str fA.d.on, .Z fA.d.eX, .bool fA.d.no, .Z fA.eq, .Z fA.left]:=rfl
   rw[p6]
   refine iq ⟨?_⟩
   refine iq ⟨?_⟩
   refine gm (jG (u:=11) (b:=aV+12) (T:=0) (n:=11) cI Zo rfl Zd Zd rfl) ?_
   generalize e5:bm X a6 (aV+12) _=bH
   have d4:∀e,e<aV->W X bH e=W X aQ e:=λe z=>by rw[<-e5,aI Zo Zo,cp.ab e Zo,bI.ab e z]
   clear e5 b2 cI
   have OH:G0 X fi fV bT p u cr di f bH bz:=⟨Zo,by have:=pU.kz;unfold gs at*;rw[d4 bT Zo];exact this,λe H M=>by rw[d4 e Zo];exact pU.low e H M⟩
   have rD:cn X bH P D (.ptr b 0):=cn.ab (λe z=>d4 e (zz (bs e z).1)) _ _ bA
   have awA:=iA bH (OH.low hU PA Px)
   have ao2:aU X bH (.ptr b 1)=some (.Z D.at_):=zK (d4 b (zz (bs b aj).1)) bf
   cases tU:(t D.name).isSome with
   |true=>
    rw[tU]at bF
    simp only[ZG]at bF
    refine cL ⟨?_⟩
    exact bF _ _ _ ⟨bo,bo,OH,rD⟩
   |false=>
    rw[tU]at bF
    simp only[Zw,ZB]at bF
    refine cS @awA @ao2 ⟨?_⟩
    refine(xr (h:=bH) aw iO OH.kz 23 D.at_).Zm ?_
    rintro ac bN ci ⟨rfl,EE,iP,nq⟩
    refine cL ⟨?_⟩
    exact bF _ _ _ ⟨bo,bo,⟨Zo,EE,λe H M=>by rw[nq e M];exact OH.low e H M⟩,cn.ab (λe z=>nq e (bs e z).2) _ _ rD⟩
 ·rintro I aP aX ⟨t0,t1,Ez,wk⟩
  obtain⟨b,_,_,_,rfl,aj,a0,bf,cf,_⟩:=id wk.open
  have fN:=Ez.le
  show cH _ _
  by_cases tJ:D.kind=25
  ·have d:decide (D.kind=25)=true:=by simp[tJ]
   have Vi:=iA aP (Ez.low hU PA Px)
   have ft:aU X aP (.ptr bT 0)=some p:=by have:=Ez.kz;unfold gs at this;rw[bG this];rfl
   refine eh @t0 @t1 @a0 @d @Vi @ft @cf ⟨?_⟩
   refine(Te (j:=aX+14) (h:=aP) aw Zo (bV.ab (a7:=P) (λe z=>Ez.low e (bs e z).1 (bs e z).2) (λ_ a=>a)) (λe z=>zz (bs e z).1) D.name).Zm ?_
   rintro ac a6 bz ⟨rfl,cp⟩
   have jm:=cp.le
   have EA:G0 X fi fV bT p u cr di (yq t f D) a6 bz:=⟨Zo,by have:=Ez.kz;unfold gs at*;rw[cp.ab bT Zo];exact this,λe H M=>by rw[cp.ab e Zo];exact Ez.low e H M⟩
   have Vj:=iA a6 (EA.low hU PA Px)
   have Nx:aU X a6 (.ptr b 1)=some (.Z D.at_):=zK (cp.ab b (zz (bs b aj).1)) bf
   have en:aU X a6 (.ptr bT 1)=some (.Z (u:Int)):=by have:=EA.kz;unfold gs at this;rw[bG this];rfl
   cases b4:mz am D.name with
   |none=>
    have Y:(ut t am u f D).1=ni (yq t f D) 23 D.at_:=by simp[ut,Jo,tJ,b4]
    rw[Y]
    simp only[Z3]
    refine gk @t0 @t1 @Vj @Nx ⟨?_⟩
    refine(xr (h:=a6) aw iO EA.kz 23 D.at_).Zm ?_
    rintro ac bN ci ⟨rfl,EE,iP,nq⟩
    refine cL ⟨?_⟩
    exact⟨by first|trivial|rfl,Zo,EE,λe H M=>by rw[nq e M];exact EA.low e H M⟩
   |some V=>
    simp only[Ya,YJ]
    by_cases Pd:u<=V
    ·have cM:decide ((u:Int)<=(V:Int))=true:=zP
     have Y:(ut t am u f D).1=ni (yq t f D) 25 D.at_:=by simp[ut,Jo,tJ,b4,Pd]
     rw[Y]
     refine ic @t0 @t1 @Vj @Nx @en @cM ⟨?_⟩
     refine(xr (h:=a6) aw iO EA.kz 25 D.at_).Zm ?_
     rintro ac bN ci ⟨rfl,EE,iP,nq⟩
     refine cL ⟨?_⟩
     exact⟨by first|trivial|rfl,Zo,EE,λe H M=>by rw[nq e M];exact EA.low e H M⟩
    ·have cM:decide ((u:Int)<=(V:Int))=false:=zO
     have Y:(ut t am u f D).1=yq t f D:=by simp[ut,Jo,tJ,b4,Pd]
     rw[Y]
     refine f3 @t0 @t1 @Vj @en @cM ⟨?_⟩
     exact⟨by first|trivial|rfl,EA⟩
  ·have d:decide (D.kind=25)=false:=by simp[tJ]
   have Y:(ut t am u f D).1=yq t f D:=by simp[ut,Jo,tJ]
   rw[Y]
   refine er @t0 @a0 @d ⟨?_⟩
   exact⟨by first|trivial|rfl,Ez⟩
end
def QM(t:aR->Option c0)(am:List Go.aL.Node)(u:Nat)(f:Int×Int)(D:bp):Int×Int:=DB (ut t am u) f D
section
variable{X:ca}{h:S ag}{j:Nat}
def aCp(aw:dk X){P:Nat->Prop}{bT:Nat}{p cr di:E}{u:Nat}{t:aR->Option c0}{am:List Go.aL.Node}(aF:(o X).a8<=j)(iO:(o X).a8<=bT)(AC:bT<j)
 (bs:∀e,P e->e<j/\e≠bT)(ba:kd X h P cr t)(bV:oX X h P am p){f:Int×Int}(aA:gs X h bT p u cr di f){D:bp}{v:E}(bA:cn X h P D v):
 a2 X 83 [.ptr bT 0,v] h j (λac R an=>ac= .tuple []/\gs X R bT p u cr di (QM t am u f D)/\j<=an/\∀e,e<j->e≠bT->W X R e=W X h e) zL:=by
 refine zG aw (aod X) ?_
 rw[aoe]
 unfold abz
 refine cL ⟨?_⟩
 refine e0 (λaQ=>W X aQ j=zD [.ptr bT 0] 1/\br X h j aQ (j+1)) ⟨bh aF,dH⟩ ?_
 rintro aQ ⟨bP,bL⟩
 have VT:∀e,P e->W X aQ e=W X h e:=λe z=>bL.ab e (bs e z).1
 have bM:aU X aQ (.ptr j 0)=some (.ptr bT 0):=by rw[bG bP];rfl
 refine(aET aw (ut t am u) P (G0 X aQ (j+1) bT p u cr di) 103 [] [.ptr j 0] (λs D v aP aX gf wk=> ?_) (SizeOf.sizeOf D+1) D Zo f v aQ (j+1) ⟨Zj _,by unfold gs at*;rw[bL.ab bT AC];exact aA,λ_ _ _=>rfl⟩ (cn.ab VT _ _ bA)).Zm ?_
 ·refine(aCm aw Zo iO Zo Zo Zo bM (λe z=>⟨zz (bs e z).1,(bs e z).2⟩) (ba.ab (a7:=P) VT (λ_ a=>a)) (bV.ab (a7:=P) VT (λ_ a=>a)) gf wk).Zm ?_
  rintro ac a6 bz ⟨rfl,pU⟩
  exact⟨rfl,pU,λe z=>by have:=bs e z;rw[pU.low e Zo this.2,gf.low e Zo this.2]⟩
 ·rintro ac aP aX ⟨rfl,pU,_⟩
  refine cL ⟨?_⟩
  have:=pU.le
  exact⟨by first|trivial|rfl,pU.kz,Zo,λe H M=>by rw[pU.low e Zo M,bL.ab e H]⟩
end
def fS(g:Go.aL.Node):List (Int×eb):=(g.d8.map λd=>(1,d))++((g.out.map λd=>(2,d))++(g.loc.map λd=>(3,d)))
def hA(g:Go.aL.Node):Nat->List eb
 |0=>g.d8
 |1=>g.out
 |_=>g.loc
def qk(g:Go.aL.Node):Nat->Nat
 |0=>0
 |1=>g.d8.length
 |2=>g.d8.length+g.out.length
 |_=>g.d8.length+g.out.length+g.loc.length
def aio(g:Go.aL.Node){u:Nat}(aH:u<3):qk g (u+1)=qk g u+(hA g u).length:=by
 match u,aH with
 |0,_=>simp[qk,hA]
 |1,_=>rfl
 |2,_=>rfl
def Kw(g:Go.aL.Node):(fS g).length=qk g 3:=by simp[fS,qk];omega
def adp(g:Go.aL.Node){u:Nat}(aH:u<3){V:Nat}{d:eb}(a:(hA g u)[V]? =some d):(fS g)[qk g u+V]? =some (1+(u:Int),d):=by
 match u,aH,a with
 |0,_,a=>
  have bF:=(Zb.1 a).1
  simp only[hA]at a bF
  simp only[fS,qk,ZT]
  rw[Z7 (by simpa using bF),Zy,a];rfl
 |1,_,a=>
  have bF:=(Zb.1 a).1
  simp only[hA]at a bF
  simp only[fS,qk]
  rw[ZM Zs,Zi,Nat.add_sub_cancel_left,Z7 (by simpa using bF),Zy,a];rfl
 |2,_,a=>
  simp only[hA]at a
  simp only[fS,qk]
  rw[ZM Zx,Zi,ZM Zx,Zi,show g.d8.length+g.out.length+V-g.d8.length-g.out.length=V by omega,Zy,a];rfl
section
variable{X:ca}{h R fi aQ aP:S ag}{j an aV aX:Nat}
def axW{C:aN}{k:Nat}{F m b:List E}{ai ax:bK}(a:BO C k (F++m) h j ai ax):jA C (.func (.yield k) F b) m h j ai ax:=⟨a⟩
def arr(aw:dk X){P:Nat->Prop}{g:Go.aL.Node}{hu k bQ cl cU:Nat}{cQ c4 aO:E}(dB:Nat->S ag->Nat->Prop)
 (H:dV X fi P bQ cQ 8 (g.d8.map dK))(M:dV X fi P cl c4 8 (g.out.map dK))(al:dV X fi P cU aO 8 (g.loc.map dK))
 (cf:aU X h (.ptr hu 2)=some cQ)(a3:aU X h (.ptr hu 3)=some c4)(a4:aU X h (.ptr hu 4)=some aO)
 (HT:∀i h j,dB i h j->(o X).a8<=j/\∀e,P e->W X h e=W X fi e)
 (EB:∀i h j R an,dB i h j->br X h j R an->dB i R an)
 (Y:∀i u d h j,(fS g)[i]? =some (u,d)->dB i h j->BO X k [.Z u, .agg (dK d)] h j (λac R an=>ac= .zT/\dB (i+1) R an) zL)
 (aK:dB 0 h j):a2 X 58 [.func (.yield k) [] [], .ptr hu 0] h j (λ_ R an=>dB (fS g).length R an) zL:=by
 refine zG aw (ans X) ?_
 rw[ant]
 unfold aa5
 have Iu:∀u,u<3->∃s b,[cQ,c4,aO][u]? =some s/\dV X fi P b s 8 ((hA g u).map dK):=by
  intro u aH
  match u,aH with
  |0,_=>exact⟨cQ,bQ,rfl,H⟩
  |1,_=>exact⟨c4,cl,rfl,M⟩
  |2,_=>exact⟨aO,cU,rfl,al⟩
 have aqA:=(jS H.len).1
 have aqL:=(jS M.len).1
 have tu:=(jS al.len).1
 have eR:fv [.aY, .aY, .aY] [(0,1,cQ),(1,1,c4),(2,1,aO)]=some (.agg [cQ,c4,aO]):=by
  simp[fv,tB,tC,nE,aqA,aqL,tu]
 refine er @cf @a3 @a4 ⟨?_⟩
 refine gm eR ?_
 refine cL ⟨?_⟩
 refine fE (λm I R aS=>∃(u:Nat),I.g 0=some (.func (.yield k) [] [])/\I.g 13=some (.agg [cQ,c4,aO])/\I.g 14=some (.Z (u:Int))/\u+m=3/\dB (qk g u) R aS)
  3 ⟨0,bo,bo,fY,Zo,aK⟩ ?_
 rintro m I aP aX ⟨u,t0,mf,mO,aH,wb⟩
 cases m with
 |zero=>
  have d:decide ((u:Int)<3)=false:=zO
  refine cS @mO @d ⟨?_⟩
  rw[Kw]
  have:u=3:=Zo
  subst this
  exact wb
 |succ m=>
  have d:decide ((u:Int)<3)=true:=zP
  obtain⟨s,b,aC,cG⟩:=Iu u Zo
  have dA:rQ false 3 1 (.agg [cQ,c4,aO]) (.Z (u:Int))=some s:=by
   have al:Nat.blt u 3=true:=by simp[Nat.blt];omega
   simp only[rQ,rT,al,fo,lo,qi,Z4]
   exact aC
  have d2:=cG.len
  have h1:=cG.many
  rw[Zi]at d2 h1
  refine f3 @mO @mf @d @dA @d2 ⟨?_⟩
  refine fE (λm I R aS=>∃(V:Nat),I.g 0=some (.func (.yield k) [] [])/\I.g 13=some (.agg [cQ,c4,aO])/\I.g 14=some (.Z (u:Int))/\I.g 3=some (.Z (u:Int))/\I.g 18=some s/\I.g 19=some (.Z ((hA g u).length:Int))/\I.g 20=some (.Z (V:Int))/\V+m=(hA g u).length/\dB (qk g u+V) R aS)
   (hA g u).length ⟨0,aW t0,aW mf,aW mO,bo,bo,bo,fY,Zo,wb⟩ ?_
  rintro gg da a6 bz ⟨V,t0,mf,mO,t3,yx,s4,qp,bF,At⟩
  cases gg with
  |zero=>
   have d:=zA V (hA g u).length
   have bC:=zE u
   refine f3 @qp @s4 @mO @d @bC ⟨?_⟩
   refine⟨m,Zo,u+1,aW t0,aW mf,bo,Zo, ?_⟩
   rw[aio g Zo]
   have:V=(hA g u).length:=Zo
   rw[<-this]
   exact At
  |succ gg=>
   have d:=zB V (hA g u).length
   have bC:=zE V
   have cu:bv .add (.Z 1) (.Z (u:Int))=some (.Z (1+(u:Int))):=eI Zo Zo
   obtain⟨aD,aJ⟩:=zC (hA g u) V
   obtain⟨ww,aun⟩:=HT _ _ _ At
   have tV:=cG.fx V (by rw[Zi];omega)
   have fD:=(cG.ab aun).row (i:=V) (r:=dK aD) Zd (by rw[Zy,aJ];rfl)
   have jl:dK aD=[.str aD.name, .Z aD.at_, .bool aD.ty.b, .bool aD.ty.s, .Z aD.ty.w, .str aD.on, .Z aD.eX, .bool aD.no]:=rfl
   rw[jl]at fD
   refine ic @qp @s4 @yx @d @tV @fD ⟨?_⟩
   generalize e5:bm X _ bz _=bH
   have dL:W X bH bz=zD [.str aD.name, .Z aD.at_, .bool aD.ty.b, .bool aD.ty.s, .Z aD.ty.w, .str aD.on, .Z aD.eX, .bool aD.no] 8:=by rw[<-e5,bh ww];rfl
   have cW:br X a6 bz bH (bz+1):=⟨Zo,λe z=>by rw[<-e5];exact zF⟩
   clear e5
   refine gk @t0 @t3 @cu (bG dL) ⟨?_⟩
   refine axW ((Y _ _ _ _ _ (adp g Zo aJ) (EB _ _ _ _ _ At cW)).mono ?_ (λ_ _ _ a=>False.elim a))
   rintro ac bN ci ⟨rfl,hN⟩
   refine cS @qp @bC ⟨?_⟩
   exact⟨gg,Zo,V+1,aW t0,aW mf,aW mO,aW t3,aW yx,aW s4,bo,Zo,hN⟩
def N7(aw:dk X){P:Nat->Prop}{g:Go.aL.Node}{n fF h5 hu bQ cl cU:Nat}{cQ c4 aO:E}{A bx:Nq}{ai:fJ}{D:Nat->fJ}{r:fJ}{ax:tm}{I:c1}(dB:Nat->S ag->Nat->Prop)
 (aF:(o X).a8<=j)(eu:fF<n)(dI:h5<n)(Lj:hu<j)
 (H:dV X h P bQ cQ 8 (g.d8.map dK))(M:dV X h P cl c4 8 (g.out.map dK))(al:dV X h P cU aO 8 (g.loc.map dK))
 (cf:aU X h (.ptr hu 2)=some cQ)(a3:aU X h (.ptr hu 3)=some c4)(a4:aU X h (.ptr hu 4)=some aO)
 (HT:∀i R aS,dB i R aS->j+2<=aS/\∀e,P e->W X R e=W X h e)
 (EB:∀i aQ aV aP aX,dB i aQ aV->aV<=aX->(∀e,e<aV->e≠j+1->W X aP e=W X aQ e)->dB i aP aX)
 (aK:∀R,br X h j R (j+2)->dB 0 R (j+2))
 (PF:∀mk i u d aQ aV,(fS g)[i]? =some (u,d)->dB i aQ aV->W X aQ j=some (.deferred (some []))->W X aQ (j+1)=some (mk .ready none)->
  us X A bx (j+1) mk (λac R aS=>ac= .zT/\dB (i+1) R aS/\W X R j=some (.deferred (some []))/\W X R (j+1)=some (mk .ready none)) zL (aa (aa I fF (.Z u)) h5 (.agg (dK d))) aQ aV)
 (EL:∀R aS,dB (fS g).length R aS->W X R j=some (.deferred (some []))->ai (wL I j) R aS):
 F0 X n (.func (.func 58) [] [.ptr hu 0]) [fF,h5] (us X A bx) ai D r ax I h j:=by
 refine⟨aF, ?_⟩
 intro mk Lw
 refine acN (aw.none _ _ rfl) ?_
 generalize dl:bm X (bm X h j _) (j+1) _=aQ
 have nV:W X aQ j=some (.deferred (some [])):=by rw[<-dl,aI Zo Zo,bh aF]
 have jj:W X aQ (j+1)=some (mk .ready none):=by rw[<-dl,bh Zo]
 have bL:br X h j aQ (j+2):=⟨Zo,λe z=>by rw[<-dl];exact zF⟩
 clear dl
 have OI:=aK aQ bL
 obtain⟨_,Au⟩:=HT _ _ _ OI
 refine(arr (k:=j+1) aw (λi R aS=>dB i R aS/\W X R j=some (.deferred (some []))/\W X R (j+1)=some (mk .ready none)) (H.ab Au) (M.ab Au) (al.ab Au)
  (by rw[bL.e6 _ _ Lj];exact cf) (by rw[bL.e6 _ _ Lj];exact a3) (by rw[bL.e6 _ _ Lj];exact a4)
  (λi R aS a=> ?_) (λi aQ aV aP aX a bY=> ?_) (λi u d aQ aV aG a=> ?_) ⟨OI,nV,jj⟩).Zm ?_
 ·obtain⟨cE,cA⟩:=HT _ _ _ a.1
  exact⟨Zo,λe z=>by rw[cA e z,Au e z]⟩
 ·obtain⟨cE,cA⟩:=HT _ _ _ a.1
  exact⟨EB _ _ _ _ _ a.1 bY.le (λe z _=>bY.ab e z),by rw[bY.ab _ Zo];exact a.2.1,by rw[bY.ab _ Zo];exact a.2.2⟩
 ·refine Lw _ _ _ _ _ a.2.2 ?_
  have bC:Nat.blt fF n=true:=by simp[Nat.blt];omega
  have cu:Nat.blt h5 n=true:=by simp[Nat.blt];omega
  simp only[Jq,bC,cu,fo]
  exact PF mk i u d aQ aV aG a.1 a.2.1 a.2.2
 ·rintro ac aP aX ⟨wb,atd,ati⟩
  obtain⟨cE,cA⟩:=HT _ _ _ wb
  refine⟨.ready,none,Zs,ati, ?_⟩
  show ai _ _ _
  exact EL _ _ (EB _ _ _ _ _ wb (Zj _) (λe z LX=>aI Zo LX)) (by rw[aI Zo Zo];exact atd)
end
def Ce{α eU:Type}(st:eU->α->eU)(s:eU){k:List α}{i:Nat}{x:α}(a:k[i]? =some x):(k.take (i+1)).foldl st s=st ((k.take i).foldl st s) x:=by
 rw[ZY,a,List.foldl_append];rfl
def mv(s:(aR->Option Int)×(Int×Int))(x:Int×eb):(aR->Option Int)×(Int×Int):=
 (λw=>if w=x.2.name then some x.1 else s.1 w,if 0<(s.1 x.2.name).getD 0 then ni s.2 24 x.2.at_ else s.2)
def sw(t:aR->Option c0)(f:Int×Int)(x:Int×eb):Int×Int:=if t x.2.on=none/\x.2.on≠[]then ni f 23 x.2.eX else f
def tx(t:aR->Option c0)(g:Go.aL.Node)(f:Int×Int):Int×Int:=(fS g).foldl (sw t) ((fS g).foldl mv (λ_=>none,f)).2
section
variable{X:ca}{h R fi aQ aP:S ag}{j an aV aX:Nat}
def N6(aw:dk X){nm cQ c4 aO eo:E}{F:E}(aF:(o X).a8<=j):
 a2 X 32 [.agg [nm,F,cQ,c4,aO,eo]] h j (λac R an=>ac= .func (.func 58) [] [.ptr j 0]/\an=j+1/\br X h j R an/\aU X R (.ptr j 2)=some cQ/\aU X R (.ptr j 3)=some c4/\aU X R (.ptr j 4)=some aO) zL:=by
 refine zG aw (amD X) ?_
 rw[amE]
 unfold aaE
 refine cL ⟨?_⟩
 exact⟨rfl,rfl,dH,by rw[bG (bh aF)];rfl,by rw[bG (bh aF)];rfl,by rw[bG (bh aF)];rfl⟩
structure tf(X:ca)(g7:S ag)(ef bT lB:Nat)(p:E)(u:Int)(cr di:E)(f:Int×Int)(ae:aR->Option Int)(h:S ag)(n:Nat):Prop where
 le:ef+2<=n
 kz:gs X h bT p u cr di f
 seen:pF X h lB (o4 ae)
 low:∀e,e<ef->e≠bT->e≠lB->W X h e=W X g7 e
def tf.ab{g7:S ag}{ef bT lB:Nat}{p cr di:E}{u:Int}{f:Int×Int}{ae:aR->Option Int}(a:tf X g7 ef bT lB p u cr di f ae aQ aV)(iO:bT<ef)(ET:lB<ef)(aF:aV<=aX)(aH:∀e,e<aV->e≠ef+1->W X aP e=W X aQ e):tf X g7 ef bT lB p u cr di f ae aP aX:=by
 have gl:=a.le
 refine⟨Zo, ?_,a.seen.ab (aH _ Zo Zo),λe H M al=>by rw[aH e Zo Zo];exact a.low e H M al⟩
 have:=a.kz
 unfold gs at*
 rw[aH _ Zo Zo];exact this
def aq2(aw:dk X){P:Nat->Prop}{bT:Nat}{p cr di:E}{u:Int}{t:aR->Option c0}{g:Go.aL.Node}{row:List E}(aF:(o X).a8<=j)(iO:(o X).a8<=bT)(AC:bT<j)
 (bs:∀e,P e->e<j/\e≠bT)(ba:kd X h P cr t){f:Int×Int}(aA:gs X h bT p u cr di f)(bV:pG X h P g row)(xV:True):
 a2 X 81 [.ptr bT 0, .agg row] h j (λac R an=>ac= .tuple []/\gs X R bT p u cr di (tx t g f)/\j<=an/\∀e,e<j->e≠bT->W X R e=W X h e) zL:=by
 refine Kf (an9 X) (aw.none _ _ rfl) ?_
 rw[aoa]
 unfold abx
 obtain⟨cQ,c4,aO,eo,bQ,cl,cU,fe,be,rfl,l9,kS,np,kk,fq⟩:=bV
 refine cL ⟨?_⟩
 refine e0 (λaQ=>W X aQ j=zD [.ptr bT 0] 1/\W X aQ (j+1)=zD [.str g.name, .Z g.at_,cQ,c4,aO,eo] 6
  /\W X aQ (j+1+1)=some (.map [] 0)/\aU X aQ (.ptr (j+1+1+1) 0)=some (.map (j+1+1))/\br X h j aQ (j+1+1+1+1)) ⟨by(first|assumption|(exact zQ)|(simp(disch:=omega) only[bh,aI])),by(first|assumption|(exact zQ)|(simp(disch:=omega) only[bh,aI])),by(first|assumption|(exact zQ)|(simp(disch:=omega) only[bh,aI])),by rw[cw,bh Zo];rfl,dH⟩ ?_
 rintro aQ ⟨jO,bP,b2,cI,bL⟩
 refine(N6 aw Zo).Zm ?_
 rintro ac aP aX ⟨rfl,rfl,bI,cA,dT,fG⟩
 have hb:br X h j aP (j+1+1+1+1+1):=bL.trans bI
 have nv:∀e,P e->W X aP e=W X h e:=λe z=>hb.ab e (bs e z).1
 rw[<-bI.ab _ Zo]at jO bP b2
 rw[<-bI.e6 _ _ Zo]at cI
 generalize av7:j+1+1+1+1+1=ef at*
 have H2:gs X aP bT p u cr di f:=by unfold gs at*;rw[hb.ab bT AC];exact aA
 have ES:pF X aP (j+1+1) (o4 λ_=>none):=⟨[],0,b2,λ_=>rfl⟩
 refine g3 ?_
 refine N7 (P:=P) (g:=g) (bQ:=bQ) (cl:=cl) (cU:=cU) (cQ:=cQ) (c4:=c4) (aO:=aO) aw (λi R aS=>tf X aP ef bT (j+1+1) p u cr di (((fS g).take i).foldl mv (λ_=>none,f)).2 (((fS g).take i).foldl mv (λ_=>none,f)).1 R aS) Zo Zo Zo Zo
  (l9.ab nv) (kS.ab nv) (np.ab nv) cA dT fG (λi R aS a=>⟨a.le,λe z=>a.low e (zz (bs e z).1) (bs e z).2 (zz (bs e z).1)⟩)
  (λi aQ aV aP aX a gl aH=>a.ab Zo Zo gl aH) (λR bY=>⟨Zj _,by unfold gs at*;rw[bY.ab _ Zo];exact H2,ES.ab (bY.ab _ Zo),λe z _ _=>bY.ab e z⟩) ?_ ?_
 ·intro mk i fd d a6 bz aG gf nV jj
  rw[Ce mv _ aG]
  generalize ((fS g).take i).foldl mv (λ_=>none,f)=cd at gf ⊢
  have gl:=gf.le
  have jl:dK d=[.str d.name, .Z d.at_, .bool d.ty.b, .bool d.ty.s, .Z d.ty.w, .str d.on, .Z d.eX, .bool d.no]:=rfl
  rw[jl]
  unfold us
  refine cL ⟨?_⟩
  generalize e5:bm X _ bz _=bH
  have dL:W X bH bz=zD [.str d.name, .Z d.at_, .bool d.ty.b, .bool d.ty.s, .Z d.ty.w, .str d.on, .Z d.eX, .bool d.no] 8:=by rw[<-e5,bh Zo];rfl
  have d4:∀e,e<bz->W X bH e=W X a6 e:=λe z=>by rw[<-e5];exact zF
  clear e5
  refine⟨by rw[d4 _ Zo];exact jj, ?_⟩
  generalize hZ:bm X bH (ef+1) _=bN
  have fg:W X bN (ef+1)=some (mk .busy none):=by rw[<-hZ,bh Zo]
  have dN:∀e,e≠ef+1->W X bN e=W X bH e:=λe z=>by rw[<-hZ,aI Zo z]
  clear hZ
  have hN:=gf.ab (aP:=bN) (aX:=bz+1) Zo Zo Zo (λe H M=>by rw[dN e M,d4 e H])
  rw[<-dN _ Zo]at dL
  have vZ:W X bN ef=some (.deferred (some [])):=by rw[dN _ Zo,d4 _ Zo];exact nV
  have cb:aU X bN (.ptr j 0)=some (.ptr bT 0):=by rw[bG (show W X bN j=_ by rw[hN.low _ Zo Zo Zo];exact jO)];rfl
  have cU:aU X bN (.ptr (j+1+1+1) 0)=some (.map (j+1+1)):=zK (hN.low _ Zo Zo Zo) cI
  have kT:n3 X bN 9 (.Z 0) (.map (j+1+1)) (.str d.name) false=some (.Z ((cd.1 d.name).getD 0)):=by
   rw[FB hN.seen];unfold o4;cases cd.1 d.name<;>rfl
  refine hl @cU @kT (bG dL) ⟨?_⟩
  refine g3 ?_
  refine hl @cU @kT (bG dL) ⟨?_⟩
  refine ko (λda R aS=>da.g 4=some (.ptr (j+1+1+1) 0)/\da.g 6=some (.ptr bz 0)/\da.g 5=some (.Z fd)/\tf X aP ef bT (j+1+1) p u cr di (mv cd (fd,d)).2 cd.1 R aS/\bz+1<=aS
   /\W X R bz=zD [.str d.name, .Z d.at_, .bool d.ty.b, .bool d.ty.s, .Z d.ty.w, .str d.on, .Z d.eX, .bool d.no] 8/\W X R ef=some (.deferred (some []))/\W X R (ef+1)=some (mk .busy none)) (λV bF=> ?_) ?_
  ·by_cases aC:0<(cd.1 d.name).getD 0
   ·have aD:decide (0<(cd.1 d.name).getD 0)=true:=by simp[aC]
    refine er @aD @cb (bG dL) ⟨?_⟩
    refine(xr (h:=bN) aw iO hN.kz 24 d.at_).Zm ?_
    rintro ac b6 dr ⟨rfl,auL,oB,pd⟩
    refine cL ⟨?_⟩
    refine bF _ _ _ ⟨bo,bo,bo,⟨Zo, ?_,hN.seen.ab (pd _ Zo),λe H M al=>by rw[pd e M];exact hN.low e H M al⟩,Zo,by rw[pd _ Zo];exact dL,by rw[pd _ Zo];exact vZ,by rw[pd _ Zo];exact fg⟩
    unfold mv
    simp only[aC,ZG]
    exact auL
   ·have aD:decide (0<(cd.1 d.name).getD 0)=false:=by simp[aC]
    refine cj @aD ⟨?_⟩
    refine bF _ _ _ ⟨bo,bo,bo,⟨Zo, ?_,hN.seen,hN.low⟩,Zo,dL,vZ,fg⟩
    unfold mv
    simp only[aC,ZB]
    exact hN.kz
  ·rintro da b6 dr ⟨t4,eY,t5,ig,oB,d1,tH,atk⟩
   have Pe:=ig.le
   have D5:aU X b6 (.ptr (j+1+1+1) 0)=some (.map (j+1+1)):=zK (ig.low _ Zo Zo Zo) cI
   show cH _ _
   refine f3 @t4 @eY @t5 @D5 (bG d1) ⟨?_⟩
   obtain⟨cy,sK,atY,sI⟩:=Qe (j:=dr) (show(o X).a8<=j+1+1 by omega) ig.seen d.name (.Z fd)
   refine kH sK ?_
   refine cL ⟨?_⟩
   refine⟨⟨.busy,none,by rw[sI _ Zo];exact atk⟩, ?_⟩
   have Cw:gs X cy bT p u cr di (mv cd (fd,d)).2:=by have:=ig.kz;unfold gs at*;rw[sI bT Zo];exact this
   have atZ:pF X cy (j+1+1) (o4 (mv cd (fd,d)).1):=by
    have:(λx=>if x=d.name then some (E.Z fd)else o4 cd.1 x)=o4 (mv cd (fd,d)).1:=by
     funext x;unfold o4 mv;by_cases a:x=d.name<;>simp[a]
    rw[<-this];exact atY
   have sA:tf X aP ef bT (j+1+1) p u cr di (mv cd (fd,d)).2 (mv cd (fd,d)).1 cy dr:=⟨Pe,Cw,atZ,λe H M al=>by rw[sI e al];exact ig.low e H M al⟩
   exact⟨rfl,sA.ab Zo Zo (Zj _) (λe H M=>aI Zo M),by rw[aI Zo Zo,sI _ Zo];exact tH,bh Zo⟩
 ·intro a6 bz gf nV
  rw[Y1]at gf
  unfold tx
  generalize (fS g).foldl mv (λ_=>none,f)=cd at gf ⊢
  have gl:=gf.le
  have xB:W X a6 (j+1)=zD [.str g.name, .Z g.at_,cQ,c4,aO,eo] 6:=by rw[gf.low _ Zo Zo Zo];exact bP
  refine cj (bG xB) ⟨?_⟩
  refine(N6 aw Zo).Zm ?_
  rintro ac bH cC ⟨rfl,rfl,cW,cA,dT,fG⟩
  generalize CB:bz+1=d5 at*
  have wi:gs X bH bT p u cr di cd.2:=by have:=gf.kz;unfold gs at*;rw[cW.ab bT Zo];exact this
  have KJ:W X bH ef=some (.deferred (some [])):=by rw[cW.ab _ Zo];exact nV
  have mI:∀e,P e->W X bH e=W X h e:=λe z=>by
   have:=bs e z
   rw[cW.ab e Zo,gf.low e Zo this.2 Zo,nv e z]
  have apN:W X bH j=zD [.ptr bT 0] 1:=by rw[cW.ab _ Zo,gf.low _ Zo Zo Zo];exact jO
  refine g3 ?_
  refine N7 (P:=P) (g:=g) (bQ:=bQ) (cl:=cl) (cU:=cU) (cQ:=cQ) (c4:=c4) (aO:=aO) aw (λi R aS=>tf X bH d5 bT (j+1+1) p u cr di (((fS g).take i).foldl (sw t) cd.2) cd.1 R aS) Zo Zo Zo Zo
   (l9.ab mI) (kS.ab mI) (np.ab mI) cA dT fG (λi R aS a=>⟨a.le,λe z=>a.low e (zz (bs e z).1) (bs e z).2 (zz (bs e z).1)⟩)
   (λi aQ aV aP aX a gl aH=>a.ab Zo Zo gl aH) (λR bY=>⟨Zj _,by unfold gs at*;rw[bY.ab _ Zo];exact wi,(gf.seen.ab (cW.ab _ Zo)).ab (bY.ab _ Zo),λe z _ _=>bY.ab e z⟩) ?_ ?_
  ·intro mk i fd d bN ci aG hN vZ atj
   rw[Ce (sw t) _ aG]
   generalize ((fS g).take i).foldl (sw t) cd.2=G at hN ⊢
   have iP:=hN.le
   have jl:dK d=[.str d.name, .Z d.at_, .bool d.ty.b, .bool d.ty.s, .Z d.ty.w, .str d.on, .Z d.eX, .bool d.no]:=rfl
   rw[jl]
   unfold us
   refine cL ⟨?_⟩
   generalize gS:bm X _ ci _=b6
   have d1:W X b6 ci=zD [.str d.name, .Z d.at_, .bool d.ty.b, .bool d.ty.s, .Z d.ty.w, .str d.on, .Z d.eX, .bool d.no] 8:=by rw[<-gS,bh Zo];rfl
   have dc:∀e,e<ci->W X b6 e=W X bN e:=λe z=>by rw[<-gS];exact zF
   clear gS
   refine⟨by rw[dc _ Zo];exact atj, ?_⟩
   generalize k6:bm X b6 (d5+1) _=cy
   have ew:W X cy (d5+1)=some (mk .busy none):=by rw[<-k6,bh Zo]
   have f0:∀e,e≠d5+1->W X cy e=W X b6 e:=λe z=>by rw[<-k6,aI Zo z]
   clear k6
   have sA:=hN.ab (aP:=cy) (aX:=ci+1) Zo Zo Zo (λe H M=>by rw[f0 e M,dc e H])
   rw[<-f0 _ Zo]at d1
   have uV:W X cy d5=some (.deferred (some [])):=by rw[f0 _ Zo,dc _ Zo];exact vZ
   have cb:aU X cy (.ptr j 0)=some (.ptr bT 0):=by rw[bG (show W X cy j=_ by rw[sA.low _ Zo Zo Zo];exact apN)];rfl
   have cZ:aU X cy (.ptr bT 2)=some cr:=by have:=sA.kz;unfold gs at this;rw[bG this];rfl
   have kR:∀R aS,tf X bH d5 bT (j+1+1) p u cr di (sw t G (fd,d)) cd.1 R aS->W X R d5=some (.deferred (some []))->(E.bool true=E.bool true/\tf X bH d5 bT (j+1+1) p u cr di (sw t G (fd,d)) cd.1 (bm X R (d5+1) (some (mk .ready none))) aS/\W X (bm X R (d5+1) (some (mk .ready none))) d5=some (.deferred (some []))/\W X (bm X R (d5+1) (some (mk .ready none))) (d5+1)=some (mk .ready none)):=λR aS a M=>
    ⟨rfl,a.ab Zo Zo (Zj _) (λe H M=>aI Zo M),by rw[aI Zo Zo];exact M,bh Zo⟩
   refine uU ⟨?_⟩
   refine g3 ?_
   refine er @cb @cZ (bG d1) ⟨?_⟩
   refine e0 (λdt=>W X dt (ci+1+10)=zD [.Z 0, .str [], .Z 0, .zF, .zF, .Z 0, .str [], .Z 0, .zF, .Z 0, .Z 0] 11/\br X cy (ci+1) dt (ci+1+10+1)) ⟨by rw[bh Zo];rfl,Zo,λe z=>zF⟩ ?_
   rintro dt ⟨gu,is⟩
   refine(HE (j:=ci+1+13) (h:=dt) aw Zo (ba.ab (a7:=P) (λe z=>by have:=bs e z;rw[is.ab e Zo,sA.low e Zo this.2 Zo,mI e z]) (λ_ a=>a)) (λe z=>zz (bs e z).1) d.on).Zm ?_
   rintro ac d6 hG ⟨rfl,ie⟩
   have qT:=ie.le
   have nk:W X d6 (ci+1+10)=zD [.Z 0, .str [], .Z 0, .zF, .zF, .Z 0, .str [], .Z 0, .zF, .Z 0, .Z 0] 11:=by rw[ie.ab _ Zo];exact gu
   generalize CM:(t d.on).getD px=fA
   have p6:oO fA=[.Z fA.kind, .str fA.d.name, .Z fA.d.at_, .bool fA.d.ty.b, .bool fA.d.ty.s, .Z fA.d.ty.w, .str fA.d.on, .Z fA.d.eX, .bool fA.d.no, .Z fA.eq, .Z fA.left]:=rfl
   rw[p6]
   refine iq ⟨?_⟩
   refine iq ⟨?_⟩
   refine gm (jG (u:=11) (b:=ci+1+10) (T:=0) (n:=11) nk Zo rfl Zd Zd rfl) ?_
   generalize sC:bm X d6 (ci+1+10) _=g7
   have lV:∀e,e<ci+1->W X g7 e=W X cy e:=λe z=>by rw[<-sC,aI Zo Zo,ie.ab e Zo,is.ab e z]
   clear sC gu nk
   have qL:tf X bH d5 bT (j+1+1) p u cr di G cd.1 g7 hG:=sA.ab Zo Zo Zo (λe H M=>lV e H)
   rw[<-lV _ Zo]at d1 ew uV
   have apP:aU X g7 (.ptr j 0)=some (.ptr bT 0):=zK (lV _ Zo) cb
   cases tU:(t d.on)with
   |some aEL=>
    have qP:sw t G (fd,d)=G:=by unfold sw;rw[Zg (by simp[tU])]
    simp only[Ya]
    refine cL ⟨?_⟩
    rw[qP]at kR ⊢
    exact⟨⟨.busy,none,ew⟩,kR _ _ qL uV⟩
   |none=>
    simp only[Z3]
    by_cases ls:d.on=[]
    ·have qP:sw t G (fd,d)=G:=by unfold sw;rw[Zg (by simp[ls])]
     have aD:decide (d.on≠[])=false:=by simp[ls]
     refine cS (bG d1) @aD ⟨?_⟩
     rw[qP]at kR ⊢
     exact⟨⟨.busy,none,ew⟩,kR _ _ qL uV⟩
    ·have qP:sw t G (fd,d)=ni G 23 d.eX:=by unfold sw;rw[Zp ⟨tU,ls⟩]
     have aD:decide (d.on≠[])=true:=by simp[ls]
     refine er (bG d1) @aD @apP ⟨?_⟩
     refine(xr (h:=g7) aw iO qL.kz 23 d.eX).Zm ?_
     rintro ac DW sT ⟨rfl,Ul,afS,rH⟩
     refine cL ⟨?_⟩
     rw[qP]at kR ⊢
     have Lq:=qL.le
     exact⟨⟨.busy,none,by rw[rH _ Zo];exact ew⟩,kR _ _ ⟨Zo,Ul,qL.seen.ab (rH _ Zo),λe H M al=>by rw[rH e M];exact qL.low e H M al⟩ (by rw[rH _ Zo];exact uV)⟩
  ·intro bN ci hN vZ
   rw[Y1]at hN
   generalize (fS g).foldl (sw t) cd.2=G at hN ⊢
   have iP:=hN.le
   have atf:W X bN ef=some (.deferred (some [])):=by rw[hN.low _ Zo Zo Zo];exact KJ
   show n9 X [] _ _ _ _ _
   simp only[A6,yt,BU]
   refine⟨by show(o X).a8<=d5;omega,vZ, ?_⟩
   refine⟨by show(o X).a8<=ef;omega,by rw[aI Zo Zo];exact atf, ?_⟩
   show r0 _ _ _ _ _
   refine⟨rfl, ?_,Zo,λe H M=> ?_⟩
   ·have:=hN.kz
    unfold gs at*
    rw[aI Zo Zo,aI Zo Zo];exact this
   ·rw[aI Zo Zo,aI Zo Zo,hN.low e Zo M Zo,cW.ab e Zo,gf.low e Zo M Zo,hb.ab e H]
end
def hH(s:(aR->Option c0)×List aR)(x:Int×eb):(aR->Option c0)×List aR:=
 if (s.1 x.2.name).isSome then s else(λw=>if w=x.2.name then some ⟨x.1,x.2, -1, -1⟩else s.1 w,s.2++[x.2.name])
def rW(u:Nat)(t:aR->Option c0)(x:aR×Nat):aR->Option c0:=match t x.1 with
 |some v=>if v.eq<0 then(λw=>if w=x.1 then some ⟨v.kind,v.d,u,x.2⟩else t w)else t
 |none=>t
def Jb(t:aR->Option c0)(x:eZ×Nat):aR->Option c0:=x.1.left.zipIdx.foldl (rW x.2) t
def me(g:Go.aL.Node):(aR->Option c0)×List aR:=(fS g).foldl hH (λ_=>none,[])
def dy(g:Go.aL.Node):aR->Option c0:=g.eqs.zipIdx.foldl Jb (me g).1
def iQ(g:Go.aL.Node):List aR:=(me g).2
def lH(t:aR->Option c0):aR->Option E:=λw=>(t w).map λv=> .agg (oO v)
def XW{α:Type}{k:List α}{i:Nat}{x:α}(a:k[i]? =some x):k.zipIdx[i]? =some (x,i):=by
 rw[List.getElem?_zipIdx,a];simp
section
variable{X:ca}{h R fi aQ aP:S ag}{j an aV aX:Nat}
structure tl(X:ca)(g7:S ag)(ef lB cr bO:Nat)(t:aR->Option c0)(mM:List aR)(h:S ag)(n:Nat):Prop where
 le:bO<=n
 map:pF X h lB (lH t)
 w1:∃c aO cv,W X h cr=some (.cells c 2 .own)/\c.get 0=some (.map lB)/\c.get 1=some aO/\ga X h aO 1 (mM.map .str) cv/\∀e∈cv,bO<=e/\e<n
 low:∀e,e<ef->e≠lB->e≠cr->W X h e=W X g7 e
def tl.ab{g7:S ag}{ef lB cr bO:Nat}{t:aR->Option c0}{mM:List aR}(a:tl X g7 ef lB cr bO t mM aQ aV)(ET:lB<ef)(lv:cr<ef)(oC:ef<=bO)(aF:aV<=aX)(aH:∀e,e<aV->(e<ef\/bO<=e)->W X aP e=W X aQ e):tl X g7 ef lB cr bO t mM aP aX:=by
 have gl:=a.le
 refine⟨Zo,a.map.ab (aH _ Zo Zo), ?_,λe H M al=>by rw[aH e Zo Zo];exact a.low e H M al⟩
 obtain⟨c,aO,cv,bP,b2,cI,dL,fg⟩:=a.w1
 exact⟨c,aO,cv,by rw[aH _ Zo Zo];exact bP,b2,cI,dL.ab (λe z=>by have:=fg e z;exact aH e Zo Zo),λe z=>zz (fg e z)⟩
def Qq(aw:dk X){P:Nat->Prop}{g:Go.aL.Node}{row:List E}(aF:(o X).a8<=j)(bs:∀e,P e->e<j)(bV:pG X h P g row)(bn:(fS g).length<=300000):
 a2 X 10 [.agg row] h j (λac R an=>∃cr lB aO b,ac= .ptr cr 0/\dU j an cr/\dU j an lB/\aU X R (.ptr cr 0)=some (.map lB)/\pF X R lB (lH (dy g))/\aU X R (.ptr cr 1)=some aO/\dV X R (dU j an) b aO 1 (f8 (iQ g))/\br X h j R an) zL:=by
 refine Kf (alc X) (aw.none _ _ rfl) ?_
 rw[ald]
 unfold X5
 obtain⟨cQ,c4,aO,eo,bQ,cl,cU,fe,be,rfl,l9,kS,np,kk,fq⟩:=bV
 refine cL ⟨?_⟩
 refine e0 (λaQ=>W X aQ j=zD [.str g.name, .Z g.at_,cQ,c4,aO,eo] 6
  /\W X aQ (j+1)=some (.map [] 0)/\W X aQ (j+1+1)=zD [.map (j+1), .aY] 2/\aU X aQ (.ptr (j+1+1+1) 0)=some (.ptr (j+1+1) 0)/\br X h j aQ (j+1+1+1+1)) ⟨by(first|assumption|(exact zQ)|(simp(disch:=omega) only[bh,aI])),by(first|assumption|(exact zQ)|(simp(disch:=omega) only[bh,aI])),by(first|assumption|(exact zQ)|(simp(disch:=omega) only[bh,aI])),by rw[cw,bh Zo];rfl,dH⟩ ?_
 rintro aQ ⟨jO,bP,b2,cI,bL⟩
 refine(N6 aw Zo).Zm ?_
 rintro ac aP aX ⟨rfl,rfl,bI,cA,dT,fG⟩
 have hb:br X h j aP (j+1+1+1+1+1):=bL.trans bI
 have nv:∀e,P e->W X aP e=W X h e:=λe z=>hb.ab e (bs e z)
 rw[<-bI.ab _ Zo]at jO bP b2
 rw[<-bI.e6 _ _ Zo]at cI
 generalize av7:j+1+1+1+1+1=ef at*
 refine g3 ?_
 refine N7 (P:=P) (g:=g) (bQ:=bQ) (cl:=cl) (cU:=cU) (cQ:=cQ) (c4:=c4) (aO:=aO) aw (λi R aS=>tl X aP ef (j+1) (j+1+1) (ef+2) (((fS g).take i).foldl hH (λ_=>none,[])).1 (((fS g).take i).foldl hH (λ_=>none,[])).2 R aS/\(((fS g).take i).foldl hH (λ_=>none,[])).2.length<=i) Zo Zo Zo Zo
  (l9.ab nv) (kS.ab nv) (np.ab nv) cA dT fG (λi R aS a=>⟨a.1.le,λe z=>a.1.low e (zz (bs e z)) (zz (bs e z)) (zz (bs e z))⟩)
  (λi aQ aV aP aX a gl aH=>⟨a.1.ab Zo Zo Zo gl (λe H M=>aH e H Zo),a.2⟩)
  (λR bY=>⟨⟨Zj _,⟨[],0,by rw[bY.ab _ Zo];exact bP,λ_=>rfl⟩,⟨_, .aY,[],by rw[bY.ab _ Zo];exact b2,rfl,rfl, .inl (.inl ⟨rfl,rfl,rfl⟩),λe z=>by simp at z⟩,λe z _ _=>bY.ab e z⟩,Zs⟩) ?_ ?_
 ·intro mk i fd d a6 bz aG gf nV jj
  rw[Ce hH _ aG]
  generalize ((fS g).take i).foldl hH (λ_=>none,[])=cd at gf ⊢
  obtain⟨gf,eM⟩:=gf
  have aF2:=(Zb.1 aG).1
  have gl:=gf.le
  have jl:dK d=[.str d.name, .Z d.at_, .bool d.ty.b, .bool d.ty.s, .Z d.ty.w, .str d.on, .Z d.eX, .bool d.no]:=rfl
  rw[jl]
  unfold us
  refine cL ⟨?_⟩
  generalize e5:bm X _ bz _=bH
  have dL:W X bH bz=zD [.str d.name, .Z d.at_, .bool d.ty.b, .bool d.ty.s, .Z d.ty.w, .str d.on, .Z d.eX, .bool d.no] 8:=by rw[<-e5,bh Zo];rfl
  have d4:∀e,e<bz->W X bH e=W X a6 e:=λe z=>by rw[<-e5];exact zF
  clear e5
  refine⟨by rw[d4 _ Zo];exact jj, ?_⟩
  generalize hZ:bm X bH (ef+1) _=bN
  have fg:W X bN (ef+1)=some (mk .busy none):=by rw[<-hZ,bh Zo]
  have dN:∀e,e≠ef+1->W X bN e=W X bH e:=λe z=>by rw[<-hZ,aI Zo z]
  clear hZ
  have hN:=gf.ab (aP:=bN) (aX:=bz+1) Zo Zo Zo Zo (λe H M=>by rw[dN e Zo,d4 e H])
  rw[<-dN _ Zo]at dL
  have vZ:W X bN ef=some (.deferred (some [])):=by rw[dN _ Zo,d4 _ Zo];exact nV
  have cU:aU X bN (.ptr (j+1+1+1) 0)=some (.ptr (j+1+1) 0):=zK (hN.low _ Zo Zo Zo) cI
  obtain⟨ke,aHy,ap2,fz,gn,iG,ps,n8⟩:=hN.w1
  have kT:n3 X bN 9 (.agg [.Z 0, .str [], .Z 0, .zF, .zF, .Z 0, .str [], .Z 0, .zF, .Z 0, .Z 0]) (.map (j+1)) (.str d.name) true=some (.tuple [.agg (oO ((cd.1 d.name).getD px)), .bool (cd.1 d.name).isSome]):=by
   rw[FB hN.map];unfold lH;cases cd.1 d.name<;>rfl
  generalize CM:(cd.1 d.name).getD px=fA at kT
  have p6:oO fA=[.Z fA.kind, .str fA.d.name, .Z fA.d.at_, .bool fA.d.ty.b, .bool fA.d.ty.s, .Z fA.d.ty.w, .str fA.d.on, .Z fA.d.eX, .bool fA.d.no, .Z fA.eq, .Z fA.left]:=rfl
  rw[p6]at kT
  have kR:∀R aS (G:(aR->Option c0)×List aR),tl X aP ef (j+1) (j+1+1) (ef+2) G.1 G.2 R aS->G.2.length<=i+1->W X R ef=some (.deferred (some []))->(E.bool true=E.bool true/\(tl X aP ef (j+1) (j+1+1) (ef+2) G.1 G.2 (bm X R (ef+1) (some (mk .ready none))) aS/\G.2.length<=i+1)/\W X (bm X R (ef+1) (some (mk .ready none))) ef=some (.deferred (some []))/\W X (bm X R (ef+1) (some (mk .ready none))) (ef+1)=some (mk .ready none)):=λR aS G a az M=>
   ⟨rfl,⟨a.ab Zo Zo Zo (Zj _) (λe H M=>aI Zo Zo),az⟩,by rw[aI Zo Zo];exact M,bh Zo⟩
  refine uU ⟨?_⟩
  refine g3 ?_
  refine f3 @cU (bG fz) @gn (bG dL) @kT ⟨?_⟩
  generalize gS:bm X _ (bz+1+10) _=b6
  have dc:∀e,e<bz+1->W X b6 e=W X bN e:=λe z=>by rw[<-gS];exact zF
  clear gS kT
  have ig:tl X aP ef (j+1) (j+1+1) (ef+2) cd.1 cd.2 b6 (bz+1+13):=hN.ab Zo Zo Zo Zo (λe H M=>dc e H)
  rw[<-dc _ Zo]at dL fg vZ
  have D5:aU X b6 (.ptr (j+1+1+1) 0)=some (.ptr (j+1+1) 0):=zK (dc _ Zo) cU
  have ai0:W X b6 (j+1+1)=some (.cells ke 2 .own):=by rw[dc _ Zo];exact fz
  cases aC:cd.1 d.name with
  |some aEL=>
   have gE:hH cd (fd,d)=cd:=by unfold hH;rw[Zp (by simp[aC])]
   rw[gE]
   simp only[Ya]
   refine cL ⟨?_⟩
   exact⟨⟨.busy,none,fg⟩,kR _ _ cd (ig.ab Zo Zo Zo Zo (λ_ _ _=>rfl)) Zo vZ⟩
  |none=>
   have gE:hH cd (fd,d)=(λw=>if w=d.name then some ⟨fd,d, -1, -1⟩else cd.1 w,cd.2++[d.name]):=by unfold hH;rw[Zg (by simp[aC])]
   rw[gE]
   simp only[Z3]
   refine gk @D5 (bG ai0) @gn (bG dL) ⟨?_⟩
   generalize jw:bz+1+13+10=N
   obtain⟨cy,sK,HU,sI⟩:=Qe (j:=N) (show(o X).a8<=j+1 by omega) ig.map d.name (.agg (oO ⟨fd,d, -1, -1⟩))
   refine kH sK ?_
   have acu:aU X cy (.ptr (j+1+1+1) 0)=some (.ptr (j+1+1) 0):=zK (sI _ Zo) D5
   have ai1:W X cy (j+1+1)=some (.cells ke 2 .own):=by rw[sI _ Zo];exact ai0
   rw[<-sI _ Zo]at dL fg vZ
   refine gk @acu (bG ai1) @iG (bG dL) ⟨?_⟩
   generalize mA:bm X cy (N+7) _=dt
   have aro:W X dt (N+7)=zD [.str d.name] 1:=by rw[<-mA,bh Zo]
   have gG:∀e,e<N->W X dt e=W X cy e:=λe z=>by rw[<-mA];exact zF
   clear mA sK
   obtain⟨e1,d6,gK,iN,agC,ae4,rG⟩:=(ps.ab (R:=dt) (λe z=>by have:=n8 e z;rw[gG e Zo,sI e Zo,dc e Zo])).append (j:=N+12) Zd (s2 aro (nu _) rfl _) rfl Zd rfl Zx Zo (λe z=>zz (n8 e z))
   refine kH iN ?_
   have g4:∀e,e<N->e∉ap2->W X d6 e=W X cy e:=λe z a=>by rw[rG e Zo a,gG e z]
   have apU:aU X d6 (.ptr (j+1+1+1) 0)=some (.ptr (j+1+1) 0):=zK (g4 _ Zo (λa=>zz (n8 _ a))) acu
   have aBU:W X d6 (j+1+1)=some (.cells ke 2 .own):=by rw[g4 _ Zo (λa=>zz (n8 _ a))];exact ai1
   refine cj @apU ⟨?_⟩
   refine gP (by simp[E.same]) ?_
   obtain⟨fF,h5,yn⟩:=lm.one agC
   refine gm (ux aBU Zo Zo fF h5) ?_
   refine cL ⟨?_⟩
   generalize sC:bm X d6 (j+1+1) _=g7
   have WU:W X g7 (j+1+1)=some (.cells (ke.set 1 (some e1)) 2 .own):=by rw[<-sC,bh Zo]
   have lV:∀e,e≠j+1+1->W X g7 e=W X d6 e:=λe z=>by rw[<-sC,aI Zo z]
   clear sC
   have ej:∀e,e<bz+1->(e<ef\/e=ef\/e=ef+1)->e≠j+1+1->e≠j+1->W X g7 e=W X b6 e:=λe z H M al=>by
    rw[lV e M,g4 e Zo (λa=>zz (n8 _ a)),sI e al]
   refine⟨⟨.busy,none, ?_⟩,kR _ _ (_,cd.2++[d.name]) ⟨Zo, ?_,⟨ke.set 1 (some e1),e1,gK,WU, ?_, ?_, ?_, ?_⟩, ?_⟩ Zx ?_⟩
   ·rw[lV _ Zo,g4 _ Zo (λa=>zz (n8 _ a))];exact fg
   ·have:(λx=>if x=d.name then some (E.agg (oO ⟨fd,d, -1, -1⟩))else lH cd.1 x)=lH (λw=>if w=d.name then some ⟨fd,d, -1, -1⟩else cd.1 w):=by
     funext x;unfold lH;by_cases a:x=d.name<;>simp[a]
    rw[this]at HU
    exact HU.ab (by rw[lV _ Zo,g4 _ Zo (λa=>zz (n8 _ a))])
   ·rw[S.jP,Zg Zd];exact gn
   ·rw[S.jP,Zp rfl]
   ·rw[ZW]
    exact .inl (agC.ab λe z=>lV e (by rcases ae4 e z with rfl|a;omega;have:=n8 _ a;omega))
   ·intro e z
    rcases ae4 e z with rfl|a
    ·omega
    ·have:=n8 _ a;omega
   ·intro e H M al
    rw[ej e Zo (.inl H) al M];exact ig.low e H M al
   ·rw[lV _ Zo,g4 _ Zo (λa=>zz (n8 _ a))];exact vZ
 ·intro a6 bz gf nV
  rw[Y1]at gf
  obtain⟨gf,eM⟩:=gf
  change tl X aP ef (j+1) (j+1+1) (ef+2) (me g).1 (me g).2 a6 bz at gf
  change (me g).2.length<=_ at eM
  have asK:W X a6 j=zD [.str g.name, .Z g.at_,cQ,c4,aO,eo] 6:=by rw[gf.low _ Zo Zo Zo];exact jO
  have km:=fq.wide
  have d2:=kk.len
  have h1:=kk.many
  rw[km.1]at d2 h1
  refine cS (bG asK) @d2 ⟨?_⟩
  refine fE (λm I R aS=>∃(V:Nat),I.g 3=some (.ptr (j+1+1+1) 0)/\I.g 54=some eo/\I.g 55=some (.Z (g.eqs.length:Int))/\I.g 56=some (.Z (V:Int))/\I.bj=[⟨.collected ef,[]⟩]/\V+m=g.eqs.length
   /\tl X aP ef (j+1) (j+1+1) (ef+2) ((g.eqs.zipIdx.take V).foldl Jb (me g).1) (me g).2 R aS/\W X R ef=some (.deferred (some [])))
   g.eqs.length ⟨0,bo,bo,bo,fY,rfl,Zo,gf,nV⟩ ?_
  rintro m I bH cC ⟨V,t3,k2,q8,qq,lj,bF,pb,KJ⟩
  have iu:=pb.le
  cases m with
  |zero=>
   have aD:=zA V g.eqs.length
   have apS:aU X bH (.ptr (j+1+1+1) 0)=some (.ptr (j+1+1) 0):=zK (pb.low _ Zo Zo Zo) cI
   refine f3 @qq @q8 @t3 @aD @apS ⟨?_⟩
   have Ic:(g.eqs.zipIdx.take V).foldl Jb (me g).1=dy g:=by
    rw[ZA Zx];rfl
   rw[Ic]at pb
   show n9 X [.tmp 2] _ _ _ _ _
   simp only[yt,lj]
   refine⟨by show(o X).a8<=ef;omega,KJ, ?_⟩
   show r0 _ _ _ _ _
   unfold r0
   refine cL ⟨?_⟩
   have hN:=pb.ab (aP:=bm X bH ef (some (.deferred none))) Zo Zo Zo (Zj _) (λe H M=>aI Zo Zo)
   obtain⟨c,s,cv,fz,gn,iG,ps,n8⟩:=hN.w1
   obtain⟨b,aj⟩:=ps.QI (P:=dU j cC) (by simp[iQ]at eM ⊢;omega) (λe z=>by have:=n8 e z;exact⟨Zo,Zo⟩)
   refine⟨j+1+1,j+1,s,b,rfl,⟨Zo,Zo⟩,⟨Zo,Zo⟩,by rw[bG fz];exact gn,hN.map,by rw[bG fz];exact iG, ?_,Zo,λe z=> ?_⟩
   ·have:f8 (iQ g)=((me g).2.map E.str).map λv=>[v]:=by unfold f8 iQ;rw[Yt];rfl
    rw[this];exact aj
   ·rw[hN.low e Zo Zo Zo];exact hb.ab e z
  |succ m=>
   have aD:=zB V g.eqs.length
   have bC:=zE V
   obtain⟨ak,bM⟩:=zC g.eqs V
   obtain⟨row,fD,wA⟩:=fq.get V ak bM
   have mI:∀e,P e->W X bH e=W X h e:=λe z=>by have:=bs e z;rw[pb.low e Zo Zo Zo,nv e z]
   have dA:=kk.fx V (by rw[km.1];omega)
   have iB:=(kk.ab mI).row Zd fD
   obtain⟨q5,s0,c5,dC,il,rfl,iA,n1,pg,rK⟩:=wA
   have AR:=jS iA.len
   have aGL:=jS n1.1.len
   have AQ:=iA.len
   have Ip:=iA.many
   rw[show(f8 ak.left).length=ak.left.length from by simp[f8]]at AQ Ip
   have c8:=Ce Jb (me g).1 (XW bM)
   rw[show(ak,V)=(ak,V) from rfl]at c8
   generalize aup:(g.eqs.zipIdx.take V).foldl Jb (me g).1=Q5 at pb c8
   refine ic @qq @q8 @k2 @aD @dA @iB ⟨?_⟩
   refine gm (jG (u:=4) (b:=cC) (T:=0) (n:=4) (c:=S.ofList [.aY, .aY, .Z 0, .cN] 0 .nil) (bh Zo) Zo rfl Zd Zd rK) ?_
   generalize hZ:bm X _ cC _=bN
   have fg:aU X bN (.ptr cC 0)=some q5:=by rw[<-hZ,cw,bh Zo];rfl
   have dN:∀e,e<cC->W X bN e=W X bH e:=λe z=>by rw[<-hZ];exact zF
   clear hZ
   have hN:tl X aP ef (j+1) (j+1+1) (ef+2) Q5 (me g).2 bN (cC+1):=pb.ab Zo Zo Zo Zo (λe H M=>dN e H)
   rw[<-dN _ Zo]at KJ
   refine cS @fg @AQ ⟨?_⟩
   refine fE (λgg I R aS=>∃(i:Nat),I.g 3=some (.ptr (j+1+1+1) 0)/\I.g 54=some eo/\I.g 55=some (.Z (g.eqs.length:Int))/\I.g 56=some (.Z (V:Int))/\I.bj=[⟨.collected ef,[]⟩]/\I.g 8=some (.Z (V:Int))/\I.g 62=some q5/\I.g 63=some (.Z (ak.left.length:Int))/\I.g 64=some (.Z (i:Int))/\i+gg=ak.left.length
    /\tl X aP ef (j+1) (j+1+1) (ef+2) ((ak.left.zipIdx.take i).foldl (rW V) Q5) (me g).2 R aS/\W X R ef=some (.deferred (some [])))
    ak.left.length ⟨0,aW t3,aW k2,aW q8,aW qq,lj,bo,bo,bo,fY,Zo,hN,KJ⟩ ?_
   rintro gg da b6 dr ⟨i,t3,k2,q8,qq,lj,gQ,Jw,Dw,vv,aG,ig,tH⟩
   have oB:=ig.le
   cases gg with
   |zero=>
    have aD:=zA i ak.left.length
    refine f3 @vv @Dw @qq @aD @bC ⟨?_⟩
    rw[ZA Zx]at ig
    refine⟨m,Zo,V+1,aW t3,aW k2,aW q8,bo,lj,Zo, ?_,tH⟩
    rw[c8]
    exact ig
   |succ gg=>
    have aD:=zB i ak.left.length
    have cu:=zE i
    obtain⟨w,bb⟩:=zC ak.left i
    have qZ:∀e,P e->W X b6 e=W X h e:=λe z=>by have:=bs e z;rw[ig.low e Zo Zo Zo,nv e z]
    have tV:=iA.fx i (by simp[f8];omega)
    have h0:=(iA.ab qZ).cell i [.str w] 0 (.str w) (by unfold f8;rw[Zy,bb];rfl) rfl
    rw[Z4]at tV
    rw[Z4,ZX]at h0
    have CJ:=Ce (rW V) Q5 (XW bb)
    generalize auo:(ak.left.zipIdx.take i).foldl (rW V) Q5=pw at ig CJ
    have D5:aU X b6 (.ptr (j+1+1+1) 0)=some (.ptr (j+1+1) 0):=zK (ig.low _ Zo Zo Zo) cI
    obtain⟨vP,aHz,aFv,fz,gn,iG,ps,n8⟩:=ig.w1
    have kT:n3 X b6 9 (.agg [.Z 0, .str [], .Z 0, .zF, .zF, .Z 0, .str [], .Z 0, .zF, .Z 0, .Z 0]) (.map (j+1)) (.str w) true=some (.tuple [.agg (oO ((pw w).getD px)), .bool (pw w).isSome]):=by
     rw[FB ig.map];unfold lH;cases pw w<;>rfl
    generalize CM:(pw w).getD px=fA at kT
    have p6:oO fA=[.Z fA.kind, .str fA.d.name, .Z fA.d.at_, .bool fA.d.ty.b, .bool fA.d.ty.s, .Z fA.d.ty.w, .str fA.d.on, .Z fA.d.eX, .bool fA.d.no, .Z fA.eq, .Z fA.left]:=rfl
    rw[p6]at kT
    refine eh @vv @Dw @Jw @t3 @aD @tV (Za @h0 (Za @D5 (Za (bG fz) (Za @gn @kT)))) ⟨?_⟩
    generalize k6:bm X _ dr _=cy
    have ew:W X cy dr=zD [.Z fA.kind, .str fA.d.name, .Z fA.d.at_, .bool fA.d.ty.b, .bool fA.d.ty.s, .Z fA.d.ty.w, .str fA.d.on, .Z fA.d.eX, .bool fA.d.no, .Z fA.eq, .Z fA.left] 11:=by rw[<-k6,bh Zo];rfl
    have f0:∀e,e<dr->W X cy e=W X b6 e:=λe z=>by rw[<-k6];exact zF
    clear k6
    have sA:tl X aP ef (j+1) (j+1+1) (ef+2) pw (me g).2 cy (dr+1):=ig.ab Zo Zo Zo Zo (λe H M=>f0 e H)
    rw[<-f0 _ Zo]at tH
    cases aC:pw w with
    |none=>
     have gE:rW V pw (w,i)=pw:=by unfold rW;simp only[aC]
     simp only[Z3]
     refine cS @vv @cu ⟨?_⟩
     exact⟨gg,Zo,i+1,aW t3,aW k2,aW q8,aW qq,lj,aW gQ,aW Jw,aW Dw,bo,Zo,by rw[CJ,gE];exact sA,tH⟩
    |some v=>
     have axn:v=fA:=by rw[aC]at CM;exact CM
     subst axn
     simp only[Ya]
     by_cases Pp:v.eq<0
     ·have cM:decide (v.eq<0)=true:=by simp[Pp]
      have gE:rW V pw (w,i)=λx=>if x=w then some ⟨v.kind,v.d,V,i⟩else pw x:=by unfold rW;simp only[aC,Pp,ZG]
      refine gk (bG ew) @cM @gQ @vv ⟨?_⟩
      generalize mA:bm X (bm X cy dr _) dr _=dt
      have gu:W X dt dr=zD [.Z v.kind, .str v.d.name, .Z v.d.at_, .bool v.d.ty.b, .bool v.d.ty.s, .Z v.d.ty.w, .str v.d.on, .Z v.d.eX, .bool v.d.no, .Z V, .Z i] 11:=by rw[<-mA,bh Zo];rfl
      have gG:∀e,e≠dr->W X dt e=W X cy e:=λe z=>by rw[<-mA,aI Zo z,aI Zo z]
      clear mA ew
      have jk:tl X aP ef (j+1) (j+1+1) (ef+2) pw (me g).2 dt (dr+1):=⟨sA.le,sA.map.ab (gG _ Zo),by
       obtain⟨c,s,cv,cE,cA,dT,fG,m8⟩:=ig.w1
       exact⟨c,s,cv,by rw[gG _ Zo,f0 _ Zo];exact cE,cA,dT,fG.ab (λe z=>by have:=m8 e z;rw[gG e Zo,f0 e Zo]),λe z=>zz (m8 e z)⟩,
       λe H M al=>by rw[gG e Zo];exact sA.low e H M al⟩
      have apT:aU X dt (.ptr (j+1+1+1) 0)=some (.ptr (j+1+1) 0):=by rw[cw,gG _ Zo,f0 _ Zo, <-cw];exact D5
      have aBT:W X dt (j+1+1)=some (.cells vP 2 .own):=by rw[gG _ Zo,f0 _ Zo];exact fz
      refine f3 @t3 @apT (bG aBT) @gn (bG gu) ⟨?_⟩
      obtain⟨d6,sK,aug,rG⟩:=Qe (j:=dr+1+7) (show(o X).a8<=j+1 by omega) jk.map w (.agg (oO ⟨v.kind,v.d,V,i⟩))
      refine kH sK ?_
      refine cS @vv @cu ⟨?_⟩
      refine⟨gg,Zo,i+1,aW t3,aW k2,aW q8,aW qq,lj,aW gQ,aW Jw,aW Dw,bo,Zo, ?_,by rw[rG _ Zo,gG _ Zo];exact tH⟩
      rw[CJ,gE]
      refine⟨Zo, ?_, ?_,λe H M al=>by rw[rG e M];exact jk.low e H M al⟩
      ·have:(λx=>if x=w then some (E.agg (oO ⟨v.kind,v.d,V,i⟩))else lH pw x)=lH (λx=>if x=w then some ⟨v.kind,v.d,V,i⟩else pw x):=by
        funext x;unfold lH;by_cases a:x=w<;>simp[a]
       rw[<-this];exact aug
      ·obtain⟨c,s,cv,cE,cA,dT,fG,m8⟩:=jk.w1
       exact⟨c,s,cv,by rw[rG _ Zo];exact cE,cA,dT,fG.ab (λe z=>by have:=m8 e z;exact rG e Zo),λe z=>zz (m8 e z)⟩
     ·have cM:decide (v.eq<0)=false:=by simp[Pp]
      have gE:rW V pw (w,i)=pw:=by unfold rW;simp only[aC,Pp,ZB]
      refine gk (bG ew) @cM @vv @cu ⟨?_⟩
      exact⟨gg,Zo,i+1,aW t3,aW k2,aW q8,aW qq,lj,aW gQ,aW Jw,aW Dw,bo,Zo,by rw[CJ,gE];exact sA,tH⟩
end
end
end Go.Proofs.YtpeabpmnlmaabaaGreatDoor

namespace Go.aL
structure gI where
 N:aR->Prop
 G5:d3->Prop
 L:d3->Int->Prop
 a8:∀s,N s->s≠[]
 cr:G5 ⟨true,false,1⟩
 ft:L ⟨true,false,1⟩ 0
 en:L ⟨true,false,1⟩ 1
 lt:∀t n,L t n->G5 t
 A:Int->Prop
 a0:A 0
structure DZ(bu:gI)(x:Tok):Prop where
 name:x.kind=1->bu.N x.text
 type:x.kind=3->bu.G5 x.ty
 num:x.kind=4->0<=x.n
 lit:x.kind=5->bu.L x.ty x.n
 pos:x.kind≠7->bu.A x.at_
def hk(bu:gI)(k:List Tok):Prop:=∀x∈k,DZ bu x
def hk.od{bu:gI}{x:Tok}{k:List Tok}(a:hk bu (x::k)):hk bu k:=λe z=>a e (Zt _ z)
def hk.aJ{bu:gI}{x:Tok}{k:List Tok}(a:hk bu (x::k)):DZ bu x:=a x (Zv ..)
def tq(u:Int):Option Nat:=if u=25 then none else if u=1\/u=2 then some 0 else if u=3\/u=4\/u=5\/u=6\/u=19\/u=20\/u=26 then some 1 else if u=23 then some 3 else some 2
def u2(u:Int):Prop:=u=2\/u=6\/u=24\/u=25
def u3(u:Int):Prop:=u=1\/u=26
structure DS(bu:gI)(D:bp):Prop where
 ap:bu.A D.at_
 bR:1<=D.kind
 cm:D.kind<=26
 sp:∀m,tq D.kind=some m->D.args.length=m
 nm:u2 D.kind->bu.N D.name
 hS:¬u2 D.kind->D.name=[]
 no:D.no=true->D.kind=6
 ty:u3 D.kind->bu.G5 D.ty
 dQ:¬u3 D.kind->D.ty=dQ
 WB:D.kind=1->bu.L D.ty D.n
 mM:D.kind=19\/D.kind=20->0<=D.n/\D.n<=63
 a8:D.kind≠1->D.kind≠19->D.kind≠20->D.n=0
 ha:D.kind=21->∃k r,D.args=[k,r]/\(k.kind=1\/k.kind=4/\∃x,k.args=[x]/\x.kind=1)
mutual
def eG(bu:gI):bp->Prop
 | .mk u F nm no ty n args=>DS bu (.mk u F nm no ty n args)/\fj bu args
def fj(bu:gI):List bp->Prop
 |[]=>True
 |D::k=>eG bu D/\fj bu k
end
def eG.eq{bu:gI}(D:bp):eG bu D=(DS bu D/\fj bu D.args):=by cases D;rw[eG];rfl
def fj.cons{bu:gI}{D:bp}{k:List bp}(a:eG bu D)(u:fj bu k):fj bu (D::k):=by rw[fj];exact⟨a,u⟩
def fj.nil{bu:gI}:fj bu []:=by rw[fj];trivial
def fj.app{bu:gI}{D:bp}(a:eG bu D):∀{k:List bp},fj bu k->fj bu (k++[D]):=by
 intro k
 induction k with
 |nil=>intro _;exact fj.cons a fj.nil
 |cons F k ah=>intro u;rw[fj]at u;exact fj.cons u.1 (ah u.2)
def dF(bu:gI){α:Type}(a7:α->Prop)(x:gy α):Prop:=∀F bS,x=some (.ok (F,bS))->hk bu bS/\a7 F
section
variable{bu:gI}{α eU:Type}
def dF.none{a7:α->Prop}:dF bu a7 none:=λ_ _ a=>by cases a
def dF.ok{a7:α->Prop}{F:α}{k:List Tok}(a:hk bu k)(ak:a7 F):dF bu a7 (aL.ok F k):=λfB bS D=>by cases D;exact⟨a,ak⟩
def dF.bad{a7:α->Prop}(F:Int):dF bu a7 (aL.bad F:gy α):=λfB bS D=>by cases D
def dF.andThen{a7:α->Prop}{si:eU->Prop}{x:gy α}{f:α->List Tok->gy eU}(a:dF bu a7 x)(u:∀F bS,hk bu bS->a7 F->dF bu si (f F bS)):dF bu si (aL.andThen x f):=by
 unfold aL.andThen
 split
 ·exact dF.none
 ·exact λ_ _ D=>by cases D
 ·rename_i F k
  obtain⟨H,M⟩:=a F k rfl
  exact u F k H M
def DZ.hq{x:Tok}{s:aR}(a:DZ bu x)(aC:hq x s=true):bu.A x.at_:=a.pos λD=>by simp[aL.hq,D]at aC
def oQ{s:aR}{k:List Tok}(a:hk bu k):dF bu (λx:Tok=>bu.A x.at_) (eL s k):=by
 cases k with
 |nil=>exact dF.none
 |cons x k=>
  simp only[eL]
  split
  ·rename_i aC;exact dF.ok a.od (a.aJ.hq aC)
  ·exact dF.bad _
def wH{u:Int}{k:List Tok}(a:hk bu k):dF bu (λx:Tok=>DZ bu x/\x.kind=u) (jq u k):=by
 cases k with
 |nil=>exact dF.none
 |cons x k=>
  simp only[jq]
  split
  ·rename_i aC;exact dF.ok a.od ⟨a.aJ,aC⟩
  ·exact dF.bad _
def ra{s:aR}{k:List Tok}{f:Option Tok->List Tok->gy eU}{a7:eU->Prop}(a:hk bu k)(H:∀x bS,bu.A x.at_->hk bu bS->dF bu a7 (f (some x) bS))(M:dF bu a7 (f none k)):dF bu a7 (iR s k f):=by
 cases k with
 |nil=>exact dF.none
 |cons x k=>
  unfold iR mP
  by_cases aC:hq x s=true
  ·simp only[aC,ZG];exact H x k (a.aJ.hq aC) a.od
  ·simp only[aC,ZB];exact M
def NG{k:List Tok}(a:hk bu k):∀(os:List (aR×Int)) D bS,pL os k=some (D,bS)->hk bu bS/\∀x,D=some x->∃T∈os,∃F,bu.A F/\x= .mk T.2 F [] false dQ 0 []:=by
 intro os
 induction os with
 |nil=>intro D bS bA;cases bA;exact⟨a,λx af=>by cases af⟩
 |cons T os ah=>
  obtain⟨s,u⟩:=T
  intro D bS bA
  cases k with
  |nil=>simp[pL,mP]at bA
  |cons x k=>
   unfold pL mP at bA
   by_cases aC:hq x s=true
   ·simp only[aC,ZG]at bA
    cases bA
    exact⟨a.od,λe z=>by cases z;exact⟨_,Zv ..,_,a.aJ.hq aC,rfl⟩⟩
   ·simp only[aC,ZB]at bA
    obtain⟨H,M⟩:=ah D bS bA
    exact⟨H,λe z=>by obtain⟨T,bi,F,aE⟩:=M e z;exact⟨T,Zt _ bi,F,aE⟩⟩
def ako{u F:Int}{x e:bp}(aH:7<=u/\u<=18\/u=22)(af:eG bu x)(z:eG bu e)(aE:bu.A F):eG bu (.mk u F [] false dQ 0 [x,e]):=by
 rw[eG.eq]
 refine⟨⟨aE,by simp only[bp.kind];omega,by simp only[bp.kind];omega, ?_, ?_,λ_=>rfl,(λa=>absurd a (by simp[bp.no])), ?_,λ_=>rfl, ?_, ?_,λ_ _ _=>rfl, ?_⟩,fj.cons af (fj.cons z fj.nil)⟩
 ·intro m bn
  have tW:tq u=some m:=bn
  unfold tq at tW
  rw[Zg Zo,Zg Zo,Zg Zo,Zg Zo]at tW
  cases tW;rfl
 ·intro a;simp only[u2,bp.kind]at a;omega
 ·intro a;simp only[u3,bp.kind]at a;omega
 ·intro a;simp only[bp.kind]at a;omega
 ·intro a;simp only[bp.kind]at a;omega
 ·intro a;simp only[bp.kind]at a;omega
def M5{u F n:Int}{nm:aR}{no:Bool}{ty:d3}{x:bp}(aH:u=3\/u=4\/u=5\/u=6\/u=19\/u=20\/u=26)(g1:u=6->bu.N nm)(g0:u≠6->nm=[]/\no=false)(ba:u=26->bu.G5 ty)(Vx:u≠26->ty=dQ)(aF:u=19\/u=20->0<=n/\n<=63)(U3:u≠19->u≠20->n=0)(af:eG bu x)(aE:bu.A F):eG bu (.mk u F nm no ty n [x]):=by
 rw[eG.eq]
 refine⟨⟨aE,by simp only[bp.kind];omega,by simp only[bp.kind];omega, ?_, ?_, ?_, ?_, ?_, ?_, ?_,aF, ?_, ?_⟩,fj.cons af fj.nil⟩
 ·intro m bn
  have tW:tq u=some m:=bn
  unfold tq at tW
  rw[Zg Zo,Zg Zo,Zp aH]at tW
  cases tW;rfl
 ·intro a;simp only[u2,bp.kind]at a;exact g1 Zo
 ·intro a;simp only[u2,bp.kind]at a;exact(g0 Zo).1
 ·intro a
  by_cases b1:u=6
  ·exact b1
  ·have cF:no=true:=a
   rw[(g0 b1).2]at cF;cases cF
 ·intro a;simp only[u3,bp.kind]at a;exact ba Zo
 ·intro a;simp only[u3,bp.kind]at a;exact Vx Zo
 ·intro a;simp only[bp.kind]at a;omega
 ·intro H M al;exact U3 M al
 ·intro a;simp only[bp.kind]at a;omega
def akm{F n:Int}{ty:d3}(a:bu.L ty n)(aE:bu.A F):eG bu (.mk 1 F [] false ty n []):=by
 rw[eG.eq]
 exact⟨⟨aE,by simp[bp.kind],by simp[bp.kind],λm bn=>by simp[tq,bp.kind]at bn;simp[bp.args, <-bn],λa=>by simp[u2,bp.kind]at a,λ_=>rfl,(λa=>absurd a (by simp[bp.no])),λ_=>bu.lt _ _ a,λa=>by simp[u3,bp.kind]at a,λ_=>a,λa=>by simp[bp.kind]at a,λa=>by simp[bp.kind]at a,λa=>by simp[bp.kind]at a⟩,fj.nil⟩
def aE4{F:Int}{nm:aR}(a:bu.N nm)(aE:bu.A F):eG bu (.mk 2 F nm false dQ 0 []):=by
 rw[eG.eq]
 exact⟨⟨aE,by simp[bp.kind],by simp[bp.kind],λm bn=>by simp[tq,bp.kind]at bn;simp[bp.args, <-bn],λ_=>a,λa=>by simp[u2,bp.kind]at a,(λa=>absurd a (by simp[bp.no])),λa=>by simp[u3,bp.kind]at a,λ_=>rfl,λa=>by simp[bp.kind]at a,λa=>by simp[bp.kind]at a,λ_ _ _=>rfl,λa=>by simp[bp.kind]at a⟩,fj.nil⟩
def aE0{F:Int}{nm:aR}{cB:List bp}(a:bu.N nm)(u:fj bu cB)(aE:bu.A F):eG bu (.mk 25 F nm false dQ 0 cB):=by
 rw[eG.eq]
 exact⟨⟨aE,by simp[bp.kind],by simp[bp.kind],λm bn=>by simp[tq,bp.kind]at bn,λ_=>a,λa=>by simp[u2,bp.kind]at a,(λa=>absurd a (by simp[bp.no])),λa=>by simp[u3,bp.kind]at a,λ_=>rfl,λa=>by simp[bp.kind]at a,λa=>by simp[bp.kind]at a,λ_ _ _=>rfl,λa=>by simp[bp.kind]at a⟩,u⟩
def aE2{F:Int}{x e bE:bp}(af:eG bu x)(z:eG bu e)(cx:eG bu bE)(aE:bu.A F):eG bu (.mk 23 F [] false dQ 0 [x,e,bE]):=by
 rw[eG.eq]
 exact⟨⟨aE,by simp[bp.kind],by simp[bp.kind],λm bn=>by simp[tq,bp.kind]at bn;simp[bp.args, <-bn],λa=>by simp[u2,bp.kind]at a,λ_=>rfl,(λa=>absurd a (by simp[bp.no])),λa=>by simp[u3,bp.kind]at a,λ_=>rfl,λa=>by simp[bp.kind]at a,λa=>by simp[bp.kind]at a,λ_ _ _=>rfl,λa=>by simp[bp.kind]at a⟩,fj.cons af (fj.cons z (fj.cons cx fj.nil))⟩
def aE3{F:Int}{nm:aR}{x e:bp}(a:bu.N nm)(af:eG bu x)(z:eG bu e)(aE:bu.A F):eG bu (.mk 24 F nm false dQ 0 [x,e]):=by
 rw[eG.eq]
 exact⟨⟨aE,by simp[bp.kind],by simp[bp.kind],λm bn=>by simp[tq,bp.kind]at bn;simp[bp.args, <-bn],λ_=>a,λa=>by simp[u2,bp.kind]at a,(λa=>absurd a (by simp[bp.no])),λa=>by simp[u3,bp.kind]at a,λ_=>rfl,λa=>by simp[bp.kind]at a,λa=>by simp[bp.kind]at a,λ_ _ _=>rfl,λa=>by simp[bp.kind]at a⟩,fj.cons af (fj.cons z fj.nil)⟩
def aE1{F:Int}{x e:bp}(a:vk x=some true)(af:eG bu x)(z:eG bu e)(aE:bu.A F):eG bu (.mk 21 F [] false dQ 0 [x,e]):=by
 rw[eG.eq]
 refine⟨⟨aE,by simp[bp.kind],by simp[bp.kind],λm bn=>by simp[tq,bp.kind]at bn;simp[bp.args, <-bn],λa=>by simp[u2,bp.kind]at a,λ_=>rfl,(λa=>absurd a (by simp[bp.no])),λa=>by simp[u3,bp.kind]at a,λ_=>rfl,λa=>by simp[bp.kind]at a,λa=>by simp[bp.kind]at a,λ_ _ _=>rfl,λ_=>⟨x,e,rfl, ?_⟩⟩,fj.cons af (fj.cons z fj.nil)⟩
 unfold vk at a
 split at a
 ·rename_i H;exact .inl H
 ·split at a
  ·rename_i H aB
   refine .inr ⟨aB, ?_⟩
   have rN:=af
   rw[eG.eq]at rN
   have az:=rN.1.sp 1 (by rw[aB];rfl)
   cases aE:x.args with
   |nil=>rw[aE]at az;cases az
   |cons b k=>
    rw[aE]at az a
    cases k with
    |nil=>exact⟨b,rfl,by simpa using a⟩
    |cons c k=>simp at az
  ·cases a
def aA0:∀(u:Nat) (T:aR×Int),T∈av u->7<=T.2/\T.2<=18:=by
 intro u T a
 match u with
 |0=>simp[av]at a;rcases a with rfl|rfl<;>decide
 |1=>simp[av]at a;subst a;decide
 |2=>simp[av]at a;rcases a with rfl|rfl|rfl|rfl|rfl|rfl<;>decide
 |3=>simp[av]at a;rcases a with rfl|rfl<;>decide
 |4=>simp[av]at a;subst a;decide
 |n+5=>simp[av]at a
def aBz(T:aR×Int)(a:T∈Bg):T.2=3\/T.2=4\/T.2=5:=by
 simp[Bg]at a;rcases a with rfl|rfl|rfl<;>simp
end
structure akF(bu:gI)(n:Nat):Prop where
 level:∀u k,hk bu k->dF bu (eG bu) (level n u k)
 qe:∀u D k,hk bu k->eG bu D->dF bu (eG bu) (qe n u D k)
 shift:∀k,hk bu k->dF bu (eG bu) (shift n k)
 qn:∀D k,hk bu k->eG bu D->dF bu (eG bu) (qn n D k)
 qo:∀u x D k,u=19\/u=20->bu.A x.at_->hk bu k->eG bu D->dF bu (eG bu) (qo n u x D k)
 vq:∀k,hk bu k->dF bu (eG bu) (yo n k)
 oe:∀D k,hk bu k->eG bu D->dF bu (eG bu) (oe n D k)
 part:∀k,hk bu k->dF bu (eG bu) (part n k)
 list:∀k,hk bu k->dF bu (fj bu) (list n k)
 qf:∀cB k,hk bu k->fj bu cB->dF bu (fj bu) (qf n cB k)
 my:∀k,hk bu k->dF bu (eG bu) (my n k)
 arrow:∀k,hk bu k->dF bu (eG bu) (arrow n k)
def apt(bu:gI):∀n,akF bu n:=by
 intro n
 induction n with
 |zero=>constructor<;>intros<;>exact dF.none
 |succ n ah=>
  constructor
  case level=>
   intro u k az
   rw[level]
   split
   ·exact ah.shift k az
   ·exact(ah.level (u+1) k az).andThen λD bS H M=>ah.qe u D bS H M
  case qe=>
   intro u D k az bA
   rw[qe]
   split
   ·exact dF.none
   ·rename_i bS aj
    exact dF.ok (NG az _ _ _ aj).1 bA
   ·rename_i x bS aj
    obtain⟨H,M⟩:=NG az _ _ _ aj
    obtain⟨T,bi,F,aE,rfl⟩:=M _ rfl
    have aH:=aA0 _ _ bi
    refine(ah.level (u+1) bS H).andThen λr cZ bR cm=> ?_
    have ba:eG bu (two (.mk T.2 F [] false dQ 0 []) D r):=ako (u:=T.2) (.inl aH) bA cm aE
    split
    ·exact dF.ok bR ba
    ·exact ah.qe u _ cZ bR ba
  case shift=>
   intro k az
   rw[shift]
   exact(ah.vq k az).andThen λD bS H M=>ah.qn D bS H M
  case qn=>
   intro D k az bA
   rw[qn]
   refine ra az (λx bS aE H=>ah.qo 19 x D bS (.inl rfl) aE H bA) ?_
   exact ra az (λx bS aE H=>ah.qo 20 x D bS (.inr rfl) aE H bA) (dF.ok az bA)
  case qo=>
   intro u x D k aH aE az bA
   rw[qo]
   refine(wH az).andThen λm bS H M=> ?_
   split
   ·exact dF.bad _
   ·rename_i aFM
    have aK:=M.1.num M.2
    exact ah.qn _ bS H (M5 Zo (λa=>Zo) (λ_=>⟨rfl,rfl⟩) (λa=>Zo) (λ_=>rfl) (λ_=>⟨aK,Zo⟩) (λH M=>Zo) bA aE)
  case vq=>
   intro k az
   rw[yo]
   split
   ·exact dF.none
   ·rename_i x bS aj
    obtain⟨H,M⟩:=NG az _ _ _ aj
    obtain⟨T,bi,F,aE,rfl⟩:=M _ rfl
    have aH:=aBz _ bi
    refine(ah.vq bS H).andThen λD cZ bR cm=>dF.ok bR ?_
    exact M5 (u:=T.2) Zo (λa=>Zo) (λ_=>⟨rfl,rfl⟩) (λa=>Zo) (λ_=>rfl) (λa=>Zo) (λ_ _=>rfl) cm aE
   ·rename_i bS aj
    exact(ah.part bS (NG az _ _ _ aj).1).andThen λD cZ bR cm=>ah.oe D cZ bR cm
  case oe=>
   intro D k az bA
   rw[oe]
   refine ra az (λx bS aE H=> ?_) (dF.ok az bA)
   refine ra H (λe cZ _ bR=> ?_) ?_
   ·refine(wH bR).andThen λm eW es fk=> ?_
    exact ah.oe _ eW es (M5 Zo (λ_=>fk.1.name fk.2) (λa=>absurd rfl a) (λa=>Zo) (λ_=>rfl) (λa=>Zo) (λ_ _=>rfl) bA aE)
   ·refine(wH H).andThen λm eW es fk=> ?_
    exact ah.oe _ eW es (M5 Zo (λ_=>fk.1.name fk.2) (λa=>absurd rfl a) (λa=>Zo) (λ_=>rfl) (λa=>Zo) (λ_ _=>rfl) bA aE)
  case list=>
   intro k az
   rw[list]
   refine ra az (λx bS _ H=>dF.ok H fj.nil) ?_
   exact(ah.arrow k az).andThen λD cZ bR cm=>ah.qf _ cZ bR (fj.cons cm fj.nil)
  case qf=>
   intro cB k az aE
   rw[qf]
   refine ra az (λx bS _ H=> ?_) ?_
   ·exact(ah.arrow bS H).andThen λD cZ bR cm=>ah.qf _ cZ bR (fj.app cm aE)
   ·exact(oQ az).andThen λ_ bS H _=>dF.ok H aE
  case my=>
   intro k az
   rw[my]
   refine(ah.level 0 k az).andThen λD cZ bR cm=> ?_
   refine ra bR (λx bS aE H=> ?_) (dF.ok bR cm)
   simp only[]
   split
   ·exact dF.none
   ·rename_i u6
    exact(ah.my bS H).andThen λr eW es fk=>dF.ok es (aE1 u6 cm fk aE)
   ·exact dF.bad _
  case arrow=>
   intro k az
   rw[arrow]
   refine(ah.my k az).andThen λD cZ bR cm=> ?_
   refine ra bR (λx bS aE H=> ?_) (dF.ok bR cm)
   exact(ah.arrow bS H).andThen λr eW es fk=>dF.ok es (ako (.inr rfl) cm fk aE)
  case part=>
   intro k az
   cases k with
   |nil=>rw[part];exact dF.none
   |cons x k=>
   have af:=az.aJ
   have hO:=az.od
   rw[part]
   by_cases ke:x.kind=5
   ·rw[Zp ke]
    exact dF.ok hO (akm (af.lit ke) (af.pos (by rw[ke];decide)))
   rw[Zg ke]
   split
   ·rename_i M
    refine dF.ok hO (akm ?_ (af.pos λD=>by simp[D]at M))
    split
    ·exact bu.en
    ·exact bu.ft
   by_cases c5:x.kind=1
   ·rw[Zp c5]
    refine ra hO (λe cZ _ H=> ?_) (dF.ok hO (aE4 (af.name c5) (af.pos (by rw[c5];decide))))
    exact(ah.list cZ H).andThen λcB eW es fk=>dF.ok es (aE0 (af.name c5) fk (af.pos (by rw[c5];decide)))
   rw[Zg c5]
   by_cases ge:x.kind=3
   ·rw[Zp ge]
    refine(oQ hO).andThen λ_ cZ H _=> ?_
    refine(ah.arrow cZ H).andThen λD eW es fk=> ?_
    refine(oQ es).andThen λ_ hn fF _=> ?_
    exact dF.ok fF (M5 Zo (λa=>Zo) (λ_=>⟨rfl,rfl⟩) (λ_=>af.type ge) (λa=>absurd rfl a) (λa=>Zo) (λ_ _=>rfl) fk (af.pos (by rw[ge];decide)))
   rw[Zg ge]
   split
   ·refine(ah.arrow k hO).andThen λD eW es fk=> ?_
    refine(oQ es).andThen λ_ hn fF _=> ?_
    exact dF.ok fF fk
   split
   ·rename_i M
    refine(ah.arrow k hO).andThen λD eW es fk=> ?_
    refine(oQ es).andThen λ_ hn fF _=> ?_
    refine(ah.arrow hn fF).andThen λcu gM cE cA=> ?_
    refine(oQ cE).andThen λ_ ny fz _=> ?_
    refine(ah.arrow ny fz).andThen λfL m3 i2 jF=> ?_
    exact dF.ok i2 (aE2 fk cA jF (af.pos λD=>by simp[D]at M))
   split
   ·rename_i M
    refine(wH hO).andThen λc cZ H aA=> ?_
    refine(ah.part cZ H).andThen λD eW es fk=> ?_
    refine(ah.part eW es).andThen λcu hn fF h5=> ?_
    exact dF.ok fF (aE3 (aA.1.name aA.2) fk h5 (af.pos λD=>by simp[D]at M))
   ·exact dF.bad _
structure oT(bu:gI)(d:eb):Prop where
 name:bu.N d.name
 type:bu.G5 d.ty
 on:d.on≠[]->bu.N d.on
 no:d.on=[]->d.no=false
 ap:bu.A d.at_
 op:bu.A d.eX
structure JM(bu:gI)(ak:eZ):Prop where
 left:∀s∈ak.left,bu.N s
 some:ak.left≠[]
 right:eG bu ak.right
 ap:bu.A ak.at_
 azp:∀F∈ak.df,bu.A F
structure kv(bu:gI)(g:Node):Prop where
 name:bu.N g.name
 d8:∀d∈g.d8,oT bu d
 out:∀d∈g.out,oT bu d
 loc:∀d∈g.loc,oT bu d
 some:g.out≠[]
 eqs:∀ak∈g.eqs,JM bu ak
 ap:bu.A g.at_
def yR(bu:gI)(ck:List Tok):Prop:=∀x∈ck,bu.N x.text/\bu.A x.at_
def yR.app{bu:gI}{x:Tok}{ck:List Tok}(a:yR bu ck)(af:bu.N x.text/\bu.A x.at_):yR bu (ck++[x]):=by
 intro e z
 rcases Zz.1 z with z|z
 ·exact a e z
 ·simp at z;subst z;exact af
def ah5{bu:gI}:∀(n:Nat) (cB k:List Tok),hk bu k->yR bu cB->dF bu (λck=>yR bu ck/\ck≠[]) (gN n cB k):=by
 intro n
 induction n with
 |zero=>intro cB k _ _;rw[gN];exact dF.none
 |succ n ah=>
  intro cB k az aE
  rw[gN]
  refine(wH az).andThen λx bS H af=> ?_
  have aF:=aE.app ⟨af.1.name af.2,af.1.pos (by rw[af.2];decide)⟩
  refine ra H (λe cZ _ M=>ah _ cZ M aF) (dF.ok H ⟨aF,Zs⟩)
def ac8{bu:gI}{w:Option Tok}{k:List Tok}(az:hk bu k):dF bu (λr:aR×Int×Bool=>((r.1≠[]->bu.N r.1)/\(r.1=[]->r.2.2=false))/\bu.A r.2.1) (B6 w k):=by
 unfold B6
 split
 ·exact dF.ok az ⟨⟨λa=>absurd rfl a,λ_=>rfl⟩,bu.a0⟩
 ·refine ra az (λe cZ _ M=> ?_) ?_
  ·exact(wH M).andThen λx bS H af=>dF.ok H ⟨⟨λ_=>af.1.name af.2,λa=>absurd a (bu.a8 _ (af.1.name af.2))⟩,af.1.pos (by rw[af.2];decide)⟩
  ·exact(wH az).andThen λx bS H af=>dF.ok H ⟨⟨λ_=>af.1.name af.2,λa=>absurd a (bu.a8 _ (af.1.name af.2))⟩,af.1.pos (by rw[af.2];decide)⟩
def hk.drop{bu:gI}{k:List Tok}(a:hk bu k)(n:Nat):hk bu (k.drop n):=λx af=>a x (zb af)
def ac7{bu:gI}{loc:Bool}{u:List eb->List Tok->gy (List eb)}{a7:List eb->Prop}{ds:List eb}{k:List Tok}(az:hk bu k)(bM:a7 ds)(aH:∀bS,hk bu bS->dF bu a7 (u ds bS)):dF bu a7 (mS loc u ds k):=by
 unfold mS
 split
 ·exact dF.none
 ·split
  ·split
   ·split
    ·exact dF.none
    ·split
     ·exact dF.ok az bM
     ·exact aH _ (az.drop 1)
   ·exact aH _ (az.drop 1)
  ·exact dF.ok az bM
def SN{bu:gI}{loc:Bool}:∀(n:Nat) (ds:List eb) (k:List Tok),hk bu k->(∀d∈ds,oT bu d)->dF bu (λds=>(∀d∈ds,oT bu d)/\ds≠[]) (jL n loc ds k):=by
 intro n
 induction n with
 |zero=>intro ds k _ _;rw[jL];exact dF.none
 |succ n ah=>
  intro ds k az aJ
  rw[jL]
  refine(ah5 n [] k az (λ_ a=>by cases a)).andThen λck bS H af=> ?_
  unfold Ed
  refine(oQ H).andThen λ_ cZ M _=> ?_
  refine(wH M).andThen λt eW al ba=> ?_
  have pX:∀r:aR×Int×Bool,((r.1≠[]->bu.N r.1)/\(r.1=[]->r.2.2=false))/\bu.A r.2.1->∀d∈ds++ck.map (qH t.ty r.1 r.2.1 r.2.2),oT bu d:=by
   intro r Y d auV
   rcases Zz.1 auV with a|a
   ·exact aJ d a
   ·obtain⟨x,IA,rfl⟩:=ZE.1 a
    exact⟨(af.1 x IA).1,ba.1.type ba.2,Y.1.1,Y.1.2,(af.1 x IA).2,Y.2⟩
  refine ra al (λw hn _ aB=> ?_) ?_
  ·refine(ac8 aB).andThen λr gM bw Y=> ?_
   exact ac7 bw ⟨pX r Y,by simp[af.2]⟩ (λbS a=>ah _ bS a (pX r Y))
  ·refine(ac8 al).andThen λr gM bw Y=> ?_
   exact ac7 bw ⟨pX r Y,by simp[af.2]⟩ (λbS a=>ah _ bS a (pX r Y))
def arW{bu:gI}(n:Nat){k:List Tok}(az:hk bu k):dF bu (JM bu) (vY n k):=by
 have x3:∀(ck:List Tok) (k:List Tok),hk bu k->yR bu ck/\ck≠[]->dF bu (JM bu) (andThen (eL [61] k) λD k=>andThen (arrow n k) λr k=>andThen (eL [59] k) λ_ k=>ok ⟨ck.map Tok.text,ck.map Tok.at_,D.at_,r⟩ k):=by
  intro ck k az af
  refine(oQ az).andThen λD cZ M au1=> ?_
  refine((apt bu n).arrow cZ M).andThen λr eW al Y=> ?_
  refine(oQ al).andThen λ_ hn aB _=>dF.ok aB ⟨?_,by simp[af.2],Y,au1, ?_⟩
  ·intro s aC
   obtain⟨x,IA,rfl⟩:=ZE.1 aC
   exact(af.1 x IA).1
  ·intro s aC
   obtain⟨x,IA,rfl⟩:=ZE.1 aC
   exact(af.1 x IA).2
 have rJ:∀x:Tok,DZ bu x/\x.kind=1->yR bu [x]:=λx af e z=>by simp at z;subst z;exact⟨af.1.name af.2,af.1.pos (by rw[af.2];decide)⟩
 unfold vY
 refine ra az (λe cZ _ M=> ?_) ?_
 ·refine dF.andThen (a7:=λck=>yR bu ck/\ck≠[]) ?_ x3
  refine(wH M).andThen λx eW al af=> ?_
  refine(oQ al).andThen λ_ hn aB _=> ?_
  refine(ah5 n [x] hn aB (rJ x af)).andThen λck gM bw CO=> ?_
  exact(oQ bw).andThen λ_ ny b1 _=>dF.ok b1 CO
 ·refine dF.andThen (a7:=λck=>yR bu ck/\ck≠[]) ?_ x3
  exact(wH az).andThen λx eW al af=>dF.ok al ⟨rJ x af,Zs⟩
def arZ{bu:gI}:∀(n:Nat) (cq:List eZ) (k:List Tok),hk bu k->(∀ak∈cq,JM bu ak)->dF bu (λcq=>∀ak∈cq,JM bu ak) (mx n cq k):=by
 intro n
 induction n with
 |zero=>intro cq k _ _;rw[mx];exact dF.none
 |succ n ah=>
  intro cq k az bM
  rw[mx]
  refine ra az (λe cZ _ M=>dF.ok M bM) ?_
  refine(arW n az).andThen λak cZ M LF=>ah _ cZ M ?_
  intro rZ a
  rcases Zz.1 a with a|a
  ·exact bM rZ a
  ·simp at a;subst a;exact LF
def aAr{bu:gI}(n:Nat){k:List Tok}(az:hk bu k):dF bu (kv bu) (node n k):=by
 unfold node
 refine(oQ az).andThen λ_ k H _=> ?_
 refine(wH H).andThen λx k M af=> ?_
 refine(oQ M).andThen λ_ k al _=> ?_
 have x3:∀(d8:List eb) (k:List Tok),hk bu k->(∀d∈d8,oT bu d)->dF bu (kv bu) (andThen (eL [114,101,116,117,114,110,115] k) λ_ k=>andThen (eL [40] k) λ_ k=>andThen (jL n false [] k) λout k=>andThen (eL [41] k) λ_ k=>
  iR [118,97,114] k λe k=>andThen (match e with
   |some _=>andThen (jL n true [] k) λds k=>andThen (eL [59] k) λ_ k=>ok ds k
   |none=>ok [] k) λloc k=>
  andThen (eL [108,101,116] k) λ_ k=>andThen (mx n [] k) λcq k=>ok ⟨x.text,x.at_,d8,out,loc,cq⟩ k):=by
  intro d8 k az aG
  refine(oQ az).andThen λ_ k H _=> ?_
  refine(oQ H).andThen λ_ k M _=> ?_
  refine(SN n [] k M (λ_ a=>by cases a)).andThen λout k al bi=> ?_
  refine(oQ al).andThen λ_ k aB _=> ?_
  have afP:∀(loc:List eb) (k:List Tok),hk bu k->(∀d∈loc,oT bu d)->dF bu (kv bu) (andThen (eL [108,101,116] k) λ_ k=>andThen (mx n [] k) λcq k=>ok ⟨x.text,x.at_,d8,out,loc,cq⟩ k):=by
   intro loc k az avO
   refine(oQ az).andThen λ_ k bw _=> ?_
   exact(arZ n [] k bw (λ_ a=>by cases a)).andThen λcq k b1 Py=>dF.ok b1 ⟨af.1.name af.2,aG,bi.1,avO,bi.2,Py,af.1.pos (by rw[af.2];decide)⟩
  refine ra aB (λe cZ _ bw=> ?_) ?_
  ·refine dF.andThen (a7:=λds=>∀d∈ds,oT bu d) ?_ afP
   refine(SN n [] cZ bw (λ_ a=>by cases a)).andThen λds k b1 AD=> ?_
   exact(oQ b1).andThen λ_ k c6 _=>dF.ok c6 AD.1
  ·exact dF.andThen (a7:=λds=>∀d∈ds,oT bu d) (dF.ok aB (λ_ a=>by cases a)) afP
 refine ra al (λe cZ _ aB=> ?_) ?_
 ·exact dF.andThen (a7:=λds=>∀d∈ds,oT bu d) (dF.ok aB (λ_ a=>by cases a)) x3
 ·refine dF.andThen (a7:=λds=>∀d∈ds,oT bu d) ?_ x3
  refine(SN n [] _ al (λ_ a=>by cases a)).andThen λds k b1 AD=> ?_
  exact(oQ b1).andThen λ_ k c6 _=>dF.ok c6 AD.1
def aAt{bu:gI}:∀(n:Nat) (am:List Node) (k:List Tok),hk bu k->(∀g∈am,kv bu g)->dF bu (λam=>(∀g∈am,kv bu g)/\am≠[]) (nodes n am k):=by
 intro n
 induction n with
 |zero=>intro am k _ _;rw[nodes];exact dF.none
 |succ n ah=>
  intro am k az bV
  rw[nodes]
  refine(aAr n az).andThen λg cZ M avk=> ?_
  have afs:∀o9∈am++[g],kv bu o9:=by
   intro o9 a
   rcases Zz.1 a with a|a
   ·exact bV o9 a
   ·simp at a;subst a;exact avk
  split
  ·exact dF.none
  ·split
   ·exact dF.ok M ⟨afs,Zs⟩
   ·exact ah _ _ M afs
end Go.aL

namespace Go.Proofs.YtpeabpmnlmaabaaGreatDoor
open Go.bg Go.aL
noncomputable section
structure GU(s:aR):Prop where
 ne:s≠[]
 len:s.length<=32
 apW:∀c,s.head?=some c->rO c=true
 all:∀c∈s,jB c=true
 res:s∉wS
 ty:l2 s=none
def RH(t:d3)(n:Int):Prop:=lA t=true/\wy t n=true/\0<=n/\n<18446744073709551616
def awi:wy ⟨true,false,1⟩ 0=true:=by decide+kernel
def awj:wy ⟨true,false,1⟩ 1=true:=by decide+kernel
def jJ:gI:=⟨GU,λt=>lA t=true,RH,λ_ a=>a.ne,rfl,⟨rfl,awi,Zo,Zo⟩,⟨rfl,awj,Zo,Zo⟩,λ_ _ a=>a.1,λ_=>True,trivial⟩
def BR(n:Nat):gI:={jJ with A:=λF=>0<=F/\F<=n,a0:=⟨Int.le_refl 0,Int.natCast_nonneg n⟩}
def aD7{
 s:aR}{i:Nat}{x:Tok}(a:yz s i=some x):DZ jJ (mn x i):=by
 unfold yz at a
 cases aA:s[i]? with
 |none=>rw[aA]at a;cases a
 |some c=>
  rw[aA]at a
  simp only[]at a
  obtain⟨af,z⟩:=Zb.1 aA
  have aJ:s.drop i=c::s.drop (i+1):=by rw[Zr af,z]
  split at a
  ·unfold FO at a
   simp only[]at a
   split at a
   ·cases a
   ·have c3:=aiT ((s.drop i).takeWhile jn)
    split at a
    ·cases a
     exact⟨λa=>by simp[mn]at a,λa=>by simp[mn]at a,λ_=>by simp only[mn];omega,λa=>by simp[mn]at a,λ_=>trivial⟩
    ·split at a
     ·rename_i t ba
      split at a
      ·rename_i gL
       cases a
       simp only[Zq]at gL
       exact⟨λa=>by simp[mn]at a,λa=>by simp[mn]at a,λa=>by simp[mn]at a,λ_=>⟨XG ba,gL.2,by simp only[mn];omega,by simp only[mn];omega⟩,λ_=>trivial⟩
      ·cases a
     ·cases a
  ·split at a
   ·rename_i aj
    split at a
    ·rename_i az
     cases a
     have bb:(s.drop i).takeWhile jB=c::(s.drop (i+1)).takeWhile jB:=by
      rw[aJ,YD]
      have:jB c=true:=by simp[jB,aj]
      simp[this]
     refine⟨λa=> ?_,λa=> ?_,λa=> ?_,λa=> ?_,λ_=>trivial⟩
     ·simp only[mn,vm]at a ⊢
      split at a
      ·cases a
      ·rename_i aF
       split at a
       ·cases a
       ·rename_i Y
        have hO:((s.drop i).takeWhile jB).length<=32:=by simpa[vm]using az
        refine⟨by rw[bb];simp,hO, ?_,ajH jB _,Y,by simpa using aF⟩
        intro fX cF
        rw[bb]at cF
        cases cF
        exact aj
     ·simp only[mn,vm]at a ⊢
      split at a
      ·rename_i aF
       cases ba:l2 ((s.drop i).takeWhile jB)with
       |none=>rw[ba]at aF;cases aF
       |some t=>exact XG ba
      ·split at a<;>cases a
     ·simp only[mn,vm]at a
      split at a
      ·cases a
      ·split at a<;>cases a
     ·simp only[mn,vm]at a
      split at a
      ·cases a
      ·split at a<;>cases a
    ·cases a
   ·cases aC:wU s i with
    |none=>rw[aC]at a;cases a
    |some p=>
     rw[aC]at a
     cases a
     exact⟨λa=>by simp[mn,F9]at a,λa=>by simp[mn,F9]at a,λa=>by simp[mn,F9]at a,λa=>by simp[mn,F9]at a,λ_=>trivial⟩
def aEa{s:aR}:∀(n:Nat) (aZ:List Tok) (i:Nat) (nH:List Tok),hk jJ aZ->r8 s n aZ i=some (.ok nH)->hk jJ nH:=by
 intro n
 induction n with
 |zero=>intro aZ i nH _ a;cases a
 |succ n ah=>
  intro aZ i nH ba a
  rw[r8]at a
  split at a
  ·split at a
   ·cases a
   ·rename_i x af
    refine ah _ _ _ ?_ a
    intro e z
    rcases Zz.1 z with z|z
    ·exact ba e z
    ·simp at z;subst z;exact aD7 af
  ·cases a
   intro e z
   rcases Zz.1 z with z|z
   ·exact ba e z
   ·simp at z;subst z;exact⟨λa=>by simp at a,λa=>by simp at a,λa=>by simp at a,λa=>by simp at a,λ_=>trivial⟩
def aD8{s:aR}:∀(n:Nat) (aZ:List Tok) (i:Nat) (nH:List Tok),(∀x∈aZ,x.kind≠7->0<=x.at_/\x.at_<=s.length)->r8 s n aZ i=some (.ok nH)->∀x∈nH,x.kind≠7->0<=x.at_/\x.at_<=s.length:=by
 intro n
 induction n with
 |zero=>intro aZ i nH _ a;cases a
 |succ n ah=>
  intro aZ i nH ba a
  rw[r8]at a
  split at a
  ·rename_i aG
   split at a
   ·cases a
   ·rename_i x af
    refine ah _ _ _ ?_ a
    intro e z
    rcases Zz.1 z with z|z
    ·exact ba e z
    ·simp at z;subst z;intro _;simp only[mn];omega
  ·cases a
   intro e z
   rcases Zz.1 z with z|z
   ·exact ba e z
   ·simp at z;subst z;intro a;exact absurd rfl a
def aBn{s:aR}{am:List Go.aL.Node}(a:Dl s= .ok am):(∀g∈am,kv (BR s.length) g)/\am≠[]/\n2 am=none:=by
 unfold Dl at a
 split at a
 ·rename_i r Y
  subst a
  unfold Dm at Y
  split at Y
  ·cases Y
  ·cases Y
  ·rename_i aZ ba
   have axg:=aD8 _ _ _ _ (λ_ a=>by cases a) ba
   have LS:hk (BR s.length) aZ:=λx af=>by
    obtain⟨H,M,al,aB,_⟩:=aEa _ _ _ _ (λ_ a=>by cases a) ba x af
    exact⟨H,M,al,aB,axg x af⟩
   split at Y
   ·cases Y
   ·cases Y
   ·rename_i e3 k aF
    obtain⟨H,M⟩:=aAt (bu:=BR s.length) _ _ _ LS (λ_ a=>by cases a) _ _ aF
    split at Y
    ·cases Y
    ·rename_i az
     cases Y
     exact⟨M.1,M.2,az⟩
 ·cases a
def aAk{n:Nat}{D:bp}(a:DS (BR n) D):DS jJ D:=⟨trivial,a.bR,a.cm,a.sp,a.nm,a.hS,a.no,a.ty,a.dQ,a.WB,a.mM,a.a8,a.ha⟩
mutual
def akj{n:Nat}:∀{D:bp},eG (BR n) D->eG jJ D
 | .mk ..,a=>by rw[eG]at a ⊢;exact⟨aAk a.1,akk a.2⟩
def akk{n:Nat}:∀{k:List bp},fj (BR n) k->fj jJ k
 |[],_=>fj.nil
 |_::_,a=>by rw[fj]at a;exact fj.cons (akj a.1) (akk a.2)
end
def SK{n:Nat}{d:eb}(a:oT (BR n) d):oT jJ d:=⟨a.name,a.type,a.on,a.no,trivial,trivial⟩
def aAn{n:Nat}{g:Go.aL.Node}(a:kv (BR n) g):kv jJ g:=⟨a.name,λd aJ=>SK (a.d8 d aJ),λd aJ=>SK (a.out d aJ),λd aJ=>SK (a.loc d aJ),a.some,λak bM=>⟨(a.eqs ak bM).left,(a.eqs ak bM).some,akj (a.eqs ak bM).right,trivial,λ_ _=>trivial⟩,trivial⟩
def aBm{s:aR}{am:List Go.aL.Node}(a:Dl s= .ok am):(∀g∈am,kv jJ g)/\am≠[]/\n2 am=none:=
 have u:=aBn a
 ⟨λg bV=>aAn (u.1 g bV),u.2⟩
mutual
def Bh:bp->List bp
 | .mk u F nm no t n args=> .mk u F nm no t n args::un args
def un:List bp->List bp
 |[]=>[]
 |D::k=>Bh D++un k
end
mutual
def ake{gh:Type}(step:gh->bp->gh×Bool)(a:∀s D,(step s D).2=true):∀(D:bp) (s:gh),DB step s D=(Bh D).foldl (λs D=>(step s D).1) s
 | .mk u F nm no t n args,s=>by
   rw[DB,Zp (a _ _),Bh,ZH]
   exact akf step a args _
def akf{gh:Type}(step:gh->bp->gh×Bool)(a:∀s D,(step s D).2=true):∀(k:List bp) (s:gh),yF step s k=(un k).foldl (λs D=>(step s D).1) s
 |[],s=>by rw[yF,un];rfl
 |D::k,s=>by
  rw[yF,un,List.foldl_append,ake step a D s]
  exact akf step a k _
end
def sP(ak:eZ):List (aR×Int):=ak.left.zipIdx.map λx=>(x.1,(ak.df[x.2]?).getD 0)
def oJ(t:aR->Option c0)(s:(aR->Option Int)×(Int×Int))(x:aR×Int):(aR->Option Int)×(Int×Int):=(λw=>if w=x.1 then some ((s.1 x.1).getD 0+1)else s.1 w,Mh t s.1 s.2 x.1 x.2)
def nD(t:aR->Option c0)(am:List Go.aL.Node)(u:Nat)(s:(aR->Option Int)×(Int×Int))(ak:eZ):(aR->Option Int)×(Int×Int):=
 (((sP ak).foldl (oJ t) s).1,QM t am u ((sP ak).foldl (oJ t) s).2 ak.right)
def s6(ae:aR->Option Int)(f:Int×Int)(x:Int×eb):Int×Int:=if x.1≠1/\(ae x.2.name).getD 0=0 then ni f 37 x.2.at_ else f
def rU(am:List Go.aL.Node)(u:Nat)(g:Go.aL.Node):Int×Int:=if (mz am g.name).getD 0<u then ni (0,0) 24 g.at_ else(0,0)
def q0(am:List Go.aL.Node)(u:Nat)(g:Go.aL.Node):Int×Int:=
 (fS g).foldl (s6 (g.eqs.foldl (nD (dy g) am u) (λ_=>none,tx (dy g) g (rU am u g))).1) (g.eqs.foldl (nD (dy g) am u) (λ_=>none,tx (dy g) g (rU am u g))).2
def y7(am:List Go.aL.Node):Nat->List Go.aL.Node->Int×Int
 |_,[]=>(0,0)
 |u,g::k=>if (q0 am u g).1≠0 then q0 am u g else y7 am (u+1) k
def ss(am:List Go.aL.Node):Int×Int:=y7 am 0 am
def Em(f:Int×Int){c:Int}(F:Int)(aA:c≠0):(ni f c F).1≠0:=by
 unfold ni
 split
 ·exact aA
 ·rename_i a;exact a
def ad1{α:Type}(bad:α->Prop)[DecidablePred bad](c F:α->Int)(aA:∀x,c x≠0):∀(k:List α) (f:Int×Int),(k.foldl (λf x=>if bad x then ni f (c x) (F x)else f) f).1=0↔f.1=0/\∀x∈k,¬bad x:=by
 intro k
 induction k with
 |nil=>intro f;simp
 |cons x k ah=>
  intro f
  rw[ZH,ah]
  by_cases aj:bad x
  ·have:=Em f (F x) (aA x)
   simp[aj,this]
  ·simp[aj]
def Mu(g:Go.aL.Node):List aR:=(fS g).map λx=>x.2.name
def adq{g:Go.aL.Node}{x:Int×eb}(a:x∈fS g):x.1=1/\x.2∈g.d8\/x.1=2/\x.2∈g.out\/x.1=3/\x.2∈g.loc:=by
 simp only[fS,Zz,ZE]at a
 rcases a with ⟨d,a,rfl⟩|⟨d,a,rfl⟩|⟨d,a,rfl⟩<;>simp[a]
def arl:∀(k:List (Int×eb)) (s:aR->Option Int) (f:Int×Int),(∀x∈k,0<x.1)->((k.foldl mv (s,f)).2.1=0↔f.1=0/\(k.map λx=>x.2.name).Nodup/\∀x∈k,¬0<(s x.2.name).getD 0):=by
 intro k
 induction k with
 |nil=>intro s f _;simp
 |cons x k ah=>
  intro s f ay
  rw[ZH]
  have af:=ay x (Zv ..)
  rw[show mv (s,f) x=((mv (s,f) x).1,(mv (s,f) x).2) from rfl,ah _ _ (λe z=>ay e (Zt _ z))]
  simp only[mv,ZJ,zm,Zu,ZE]
  constructor
  ·rintro⟨H,M,al⟩
   by_cases aj:0<(s x.2.name).getD 0
   ·rw[Zp aj]at H
    exact absurd H (Em f _ Zd)
   ·rw[Zg aj]at H
    refine⟨H,⟨?_,M⟩, ?_⟩
    ·rintro⟨e,z,bA⟩
     have:=al e z
     rw[Zp bA]at this
     exact this (by simpa using af)
    ·rintro e (rfl|z)
     ·exact aj
     ·have:=al e z
      split at this
      ·exact absurd af (by simpa using this)
      ·exact this
  ·rintro⟨H,⟨M,al⟩,aB⟩
   have aj:¬0<(s x.2.name).getD 0:=aB x (.inl rfl)
   refine⟨by rw[Zg aj];exact H,al,λe z=> ?_⟩
   rw[Zg (λD=>M ⟨e,z,D⟩)]
   exact aB e (.inr z)
def SL{g:Go.aL.Node}{t:aR->Option c0}{f:Int×Int}:(tx t g f).1=0↔f.1=0/\(Mu g).Nodup/\∀x∈fS g,¬(t x.2.on=none/\x.2.on≠[]):=by
 unfold tx
 have M:=ad1 (λx:Int×eb=>t x.2.on=none/\x.2.on≠[]) (λ_=>23) (λx=>x.2.eX) (λ_=>Zd) (fS g) ((fS g).foldl mv (λ_=>none,f)).2
 have al:(fS g).foldl (sw t) ((fS g).foldl mv (λ_=>none,f)).2=(fS g).foldl (λf x=>if t x.2.on=none/\x.2.on≠[]then ni f 23 x.2.eX else f) ((fS g).foldl mv (λ_=>none,f)).2:=rfl
 rw[al,M,arl _ _ _ (λx af=>by rcases adq af with a|a|a<;>omega)]
 simp[Mu,and_assoc]
def lp(w:aR)(k:List aR):Int:=((k.filter λx=>decide (x=w)).length:Int)
def Ki(w x:aR)(k:List aR):lp w (x::k)=(if x=w then 1 else 0)+lp w k:=by
 unfold lp
 rw[List.filter_cons]
 by_cases a:x=w
 ·simp[a];omega
 ·simp[a]
def SD(w:aR):lp w []=0:=rfl
def Hp(w:aR)(k:List aR):0<=lp w k:=by unfold lp;omega
def acU(w:aR)(k m:List aR):lp w (k++m)=lp w k+lp w m:=by unfold lp;rw[List.filter_append,ZL];omega
def acV{w:aR}{k:List aR}:0<lp w k↔w∈k:=by
 induction k with
 |nil=>simp[SD]
 |cons x k ah=>
  have:=Hp w k
  rw[Ki]
  by_cases a:x=w
  ·simp[a];omega
  ·have cF:¬w=x:=λD=>a D.symm
   simp[a,cF,ah]
def Wo(t:aR->Option c0):∀(k:List (aR×Int)) (s:(aR->Option Int)×(Int×Int)) (w:aR),((k.foldl (oJ t) s).1 w).getD 0=(s.1 w).getD 0+lp w (k.map Prod.fst):=by
 intro k
 induction k with
 |nil=>intro s w;simp[SD]
 |cons x k ah=>
  intro s w
  rw[ZH,ah,ZJ,Ki]
  simp only[oJ]
  by_cases a:w=x.1
  ·subst a;simp;omega
  ·have cF:¬x.1=w:=λD=>a D.symm
   simp[a,cF]
def azt(t:aR->Option c0):∀(k:List (aR×Int)) (s:(aR->Option Int)×(Int×Int)),(∀w,0<=(s.1 w).getD 0)->((k.foldl (oJ t) s).2.1=0↔s.2.1=0/\∀w∈k.map Prod.fst,∃v,t w=some v/\v.kind≠1/\(s.1 w).getD 0+lp w (k.map Prod.fst)<=1):=by
 intro k
 induction k with
 |nil=>intro s _;simp
 |cons x k ah=>
  intro s aC
  have t6:∀w,0<=((oJ t s x).1 w).getD 0:=by
   intro w
   have:=aC w
   have:=aC x.1
   simp only[oJ]
   split
   ·simp;omega
   ·assumption
  rw[ZH,ah _ t6]
  have vb:=aC x.1
  constructor
  ·rintro⟨H,M⟩
   have al:s.2.1=0/\∃v,t x.1=some v/\v.kind≠1/\(s.1 x.1).getD 0+1<=1:=by
    simp only[oJ,Mh]at H
    cases ba:t x.1 with
    |none=>rw[ba]at H;exact absurd H (Em _ _ Zd)
    |some v=>
     rw[ba]at H
     simp only[]at H
     split at H
     ·exact absurd H (Em _ _ Zd)
     ·rename_i bM
      exact⟨H,v,rfl,λD=>bM (.inl D),by have:¬1<(s.1 x.1).getD 0+1:=λD=>bM (.inr D);omega⟩
   refine⟨al.1,λw bb=> ?_⟩
   rw[ZJ,Zu]at bb
   rw[ZJ,Ki]
   by_cases CN:w=x.1
   ·subst CN
    obtain⟨v,aB,bw,b1⟩:=al.2
    refine⟨v,aB,bw, ?_⟩
    by_cases bn:x.1∈k.map Prod.fst
    ·obtain⟨f9,_,_,c6⟩:=M _ bn
     simp only[oJ,ZG,YJ]at c6 ⊢
     omega
    ·have:¬0<lp x.1 (k.map Prod.fst):=λD=>bn (acV.1 D)
     have:=Hp x.1 (k.map Prod.fst)
     simp only[ZG]
     omega
   ·rcases bb with bb|bb
    ·exact absurd bb CN
    ·obtain⟨v,aB,bw,b1⟩:=M _ bb
     have VE:¬x.1=w:=λD=>CN D.symm
     simp only[oJ,CN,ZB]at b1
     exact⟨v,aB,bw,by simp only[VE,ZB];omega⟩
  ·rintro⟨H,M⟩
   obtain⟨v,aB,bw,b1⟩:=M x.1 Zs
   rw[ZJ,Ki,Zp rfl]at b1
   have aA:=Hp x.1 (k.map Prod.fst)
   refine⟨?_,λw bb=> ?_⟩
   ·simp only[oJ,Mh,aB]
    rw[Zg (by rintro(D|D);exact bw D;omega)]
    exact H
   ·obtain⟨f9,bR,cm,cX⟩:=M w (by rw[ZJ];exact Zt _ bb)
    refine⟨f9,bR,cm, ?_⟩
    rw[ZJ,Ki]at cX
    simp only[oJ]
    by_cases CN:w=x.1
    ·subst CN;simp only[ZG,YJ];simp only[ZG]at cX;omega
    ·have VE:¬x.1=w:=λD=>CN D.symm
     simp only[CN,ZB];simp only[VE,ZB]at cX;omega
def Wd(ak:eZ):(sP ak).map Prod.fst=ak.left:=by
 simp only[sP,Yt]
 have:(Prod.fst∘λx:aR×Nat=>(x.1,(ak.df[x.2]?).getD 0))=Prod.fst:=rfl
 rw[this]
 exact List.zipIdx_map_fst ..
def G1(t:aR->Option c0)(am:List Go.aL.Node)(u:Nat)(D:bp):Prop:=∀x∈Bh D,(wM x=true->(t x.name).isSome=true)/\(x.kind=25->∃V,mz am x.name=some V/\V<u)
def aCo{t:aR->Option c0}{am:List Go.aL.Node}{u:Nat}{f:Int×Int}{D:bp}:(QM t am u f D).1=0↔f.1=0/\G1 t am u D:=by
 unfold QM G1
 rw[ake _ (λ_ _=>rfl)]
 generalize Bh D=k
 induction k generalizing f with
 |nil=>simp
 |cons x k ah=>
  rw[ZH,ah]
  have H:(ut t am u f x).1.1=0↔f.1=0/\(wM x=true->(t x.name).isSome=true)/\(x.kind=25->∃V,mz am x.name=some V/\V<u):=by
   simp only[ut,Jo]
   have M:(yq t f x).1=0↔f.1=0/\(wM x=true->(t x.name).isSome=true):=by
    unfold yq
    by_cases a:wM x=true
    ·rw[Zp a]
     by_cases cF:(t x.name).isSome=true
     ·rw[Zp cF];simp[cF]
     ·rw[Zg cF];simp[a,cF,Em]
    ·rw[Zg a];simp[a]
   by_cases tJ:x.kind=25
   ·rw[Zp tJ]
    cases b4:mz am x.name with
    |none=>simp[Em,tJ]
    |some V=>
     simp only[]
     by_cases aH:u<=V
     ·rw[Zp aH]
      have:¬V<u:=Zo
      simp[Em,tJ,this]
     ·rw[Zg aH,M]
      have:V<u:=Zo
      simp[tJ,this]
   ·rw[Zg tJ,M];simp[tJ]
  rw[H]
  simp only[Zu,forall_eq_or_imp,and_assoc]
def aBS(t:aR->Option c0)(am:List Go.aL.Node)(u:Nat):∀(k:List eZ) (s:(aR->Option Int)×(Int×Int)) (w:aR),((k.foldl (nD t am u) s).1 w).getD 0=(s.1 w).getD 0+lp w (k.flatMap eZ.left):=by
 intro k
 induction k with
 |nil=>intro s w;simp[SD]
 |cons ak k ah=>
  intro s w
  rw[ZH,ah,YK,acU]
  simp only[nD]
  rw[Wo,Wd]
  omega
def WT(t:aR->Option c0)(am:List Go.aL.Node)(u:Nat):∀(k:List eZ) (s:(aR->Option Int)×(Int×Int)),(∀w,0<=(s.1 w).getD 0)->((k.foldl (nD t am u) s).2.1=0↔s.2.1=0/\(∀w∈k.flatMap eZ.left,∃v,t w=some v/\v.kind≠1/\(s.1 w).getD 0+lp w (k.flatMap eZ.left)<=1)/\∀ak∈k,G1 t am u ak.right):=by
 intro k
 induction k with
 |nil=>intro s _;simp
 |cons ak k ah=>
  intro s aC
  have t6:∀w,0<=((nD t am u s ak).1 w).getD 0:=by
   intro w
   simp only[nD]
   rw[Wo]
   have:=aC w
   have:=Hp w ((sP ak).map Prod.fst)
   omega
  rw[ZH,ah _ t6]
  have bC:(nD t am u s ak).2.1=0↔(s.2.1=0/\∀w∈ak.left,∃v,t w=some v/\v.kind≠1/\(s.1 w).getD 0+lp w ak.left<=1)/\G1 t am u ak.right:=by
   simp only[nD]
   rw[aCo,azt t _ _ aC,Wd]
  have cu:∀w,((nD t am u s ak).1 w).getD 0=(s.1 w).getD 0+lp w ak.left:=by
   intro w
   simp only[nD]
   rw[Wo,Wd]
  rw[bC]
  simp only[cu,YK,acU,Zz,Zu,forall_eq_or_imp]
  constructor
  ·rintro⟨⟨⟨H,M⟩,al⟩,aB,bw⟩
   refine⟨H,λw bb=> ?_,al,bw⟩
   by_cases bn:w∈k.flatMap eZ.left
   ·obtain⟨v,bR,cm,cX⟩:=aB w bn
    exact⟨v,bR,cm,Zo⟩
   ·have aK:¬0<lp w (k.flatMap eZ.left):=λD=>bn (acV.1 D)
    have:=Hp w (k.flatMap eZ.left)
    obtain⟨v,bR,cm,cX⟩:=M w (bb.resolve_right bn)
    exact⟨v,bR,cm,Zo⟩
  ·rintro⟨H,M,al,aB⟩
   refine⟨⟨⟨H,λw bb=> ?_⟩,al⟩,λw bb=> ?_,aB⟩
   ·obtain⟨v,bR,cm,cX⟩:=M w (.inl bb)
    have:=Hp w (k.flatMap eZ.left)
    exact⟨v,bR,cm,Zo⟩
   ·obtain⟨v,bR,cm,cX⟩:=M w (.inr bb)
    exact⟨v,bR,cm,Zo⟩
def aj5(ae:aR->Option Int)(k:List (Int×eb))(f:Int×Int):(k.foldl (s6 ae) f).1=0↔f.1=0/\∀x∈k,¬(x.1≠1/\(ae x.2.name).getD 0=0):=
 ad1 (λx:Int×eb=>x.1≠1/\(ae x.2.name).getD 0=0) (λ_=>37) (λx=>x.2.at_) (λ_=>Zd) k f
end
end Go.Proofs.YtpeabpmnlmaabaaGreatDoor

