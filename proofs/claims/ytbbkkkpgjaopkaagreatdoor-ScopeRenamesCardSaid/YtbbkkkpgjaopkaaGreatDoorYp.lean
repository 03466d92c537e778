/- Part of the proof of the last text; no conditions -/
import Derived.Test.YtbbkkkpgjaopkaaGreatDoorYo
set_option maxHeartbeats 8000000
set_option linter.all false
namespace Go.Proofs.YtbbkkkpgjaopkaaGreatDoor
open Go.bp Go.aS
noncomputable section
section
variable{X:cn}{h S a1 aT:R ag}{j aq aP bk:Nat}{P:Nat->Prop}
def ee.abw{C:aM}{h S:R ag}{P:Nat->Prop}{b aO:Nat}{bf:z}{ba:List (List z)}(a:ee C h P b bf aO ba)(o:ba≠[]->Z C S b=Z C h b):ee C S P b bf aO ba:=
 ⟨a.aj,a.many,a.wide,a.len,a.gZ,λi r W v aE bB=>by
  rw[c6,o (λB=>by rw[B]at aE;simp at aE), <-c6];exact a.cell i r W v aE bB⟩
def aks{C:aM}{h:R ag}:∀{b3:List bx}{bj:List z}{P:Nat->Prop},dh C h P b3 bj->∀(i:Nat) B,b3[i]? =some B->∃w bh,bj[i]? =some w/\(∀e,bh e->P e)/\cm C h bh B w/\∀(S:R ag) f7,(∀e,P e->¬bh e->Z C S e=Z C h e)->cm C S bh f7 w->dh C S P (b3.set i f7) bj:=by
 intro b3
 induction b3 with
 |nil=>intro bj P _ i B a;simp at a
 |cons D b3 ah=>
  intro bj P a i B aE
  unfold dh at a
  obtain⟨v,o3,c7,rfl,bJ,M,ak⟩:=a
  cases i with
  |zero=>
   simp at aE;subst aE
   refine⟨v,c7,rfl,bJ,M,λS f7 aG bl=> ?_⟩
   rw[Yg]
   unfold dh
   exact⟨v,o3,c7,rfl,bJ,bl,dh.ad (λe F=>aG e F.1 F.2) _ _ ak⟩
  |succ i=>
   simp at aE
   obtain⟨w,bh,aA,bq,bV,c2⟩:=ah ak i B aE
   refine⟨w,bh,by simpa using aA,λe F=>(bq e F).1,bV,λS f7 aG bl=> ?_⟩
   rw[Yj]
   unfold dh
   exact⟨v,o3,c7,rfl,bJ,cm.ad (λe F=>aG e (bJ e F) (λfU=>(bq e fU).2 F)) _ _ M,c2 S f7 (λe F aL=>aG e F.1 aL) bl⟩
def WB{C:aM}{o D:Int}{nm:bc}{no:Bool}{ty:hS}{n:Int}{args:List bx}{v:z}(a:cm C h P (.mk o D nm no ty n args) v):∃(b:Nat) (bf:z) (cD:Nat) (bj:List z),v= .ptr b 0/\P b/\aR C h (.ptr b 8)=some bf/\ee C h P cD bf 1 (bj.map λv=>[v])/\bj.length=args.length/\
 ∀(i:Nat) B,args[i]? =some B->∃w bh,bj[i]? =some w/\(∀e,bh e->P e/\e≠b)/\cm C h bh B w/\∀(S:R ag) f7,(∀e,P e->¬bh e->Z C S e=Z C h e)->cm C S bh f7 w->cm C S P (.mk o D nm no ty n (args.set i f7)) v:=by
 unfold cm at a
 obtain⟨b,rfl,b1,bb,M,ak,aA,bq,bV,c2,eg,hf,bf,cD,bj,jX,nH,m4,sF⟩:=a
 refine⟨b,bf,cD,bj,rfl,b1,jX,nH,sF.len,λi B aE=> ?_⟩
 obtain⟨w,bh,cH,cB,dN,fx⟩:=aks sF i B aE
 refine⟨w,bh,cH,λe F=>⟨(cB e F).1,(cB e F).2.1⟩,dN,λS f7 aG bl=> ?_⟩
 have B3:bj≠[]:=λB=>by subst B;simp at cH
 have PM:P cD:=nH.aj (by simpa using B3)
 have kj:Z C S b=Z C h b:=aG b b1 λa=>(cB b a).2.1 rfl
 have abv:Z C S cD=Z C h cD:=aG cD PM λa=>(cB cD a).2.2 rfl
 have az:∀V,aR C S (.ptr b V)=aR C h (.ptr b V):=λV=>by rw[c6,c6,kj]
 unfold cm
 exact⟨b,rfl,b1,bb.ad kj,by rw[az];exact M,by rw[az];exact ak,by rw[az];exact aA,by rw[az];exact bq,by rw[az];exact bV,by rw[az];exact c2,by rw[az];exact eg,by rw[az];exact hf,bf,cD,bj,by rw[az];exact jX,
  ee.abw nH (λ_=>abv),λbt=>⟨(m4 bt).1,λaG=>((m4 bt).2 aG).ad abv⟩,fx S f7 (λe F aL=>aG e F.1 aL) bl⟩
def lD.lens{h:R ag}:∀{b8:List eL}{ba:List (List z)}{P:Nat->Prop},lD X h P b8 ba->∀(i:Nat) al,b8[i]? =some al->∃row bh,ba[i]? =some row/\(∀e,bh e->P e)/\tl X h bh al row/\∀(S:R ag) mb,(∀e,P e->¬bh e->Z X S e=Z X h e)->tl X S bh mb row->lD X S P (b8.set i mb) ba:=by
 intro b8
 induction b8 with
 |nil=>intro ba P _ i al a;simp at a
 |cons D b8 ah=>
  rintro ba P ⟨row,gv,c7,rfl,bJ,M,ak⟩ i al aE
  cases i with
  |zero=>
   simp at aE;subst aE
   exact⟨row,c7,rfl,bJ,M,λS mb aG bl=>⟨row,gv,c7,rfl,bJ,bl,ak.ad (λe F=>aG e F.1 F.2) (λ_ a=>a)⟩⟩
  |succ i=>
   simp at aE
   obtain⟨w,bh,aA,bq,bV,c2⟩:=ah ak i al aE
   exact⟨w,bh,by simpa using aA,λe F=>(bq e F).1,bV,λS mb aG bl=>⟨row,gv,c7,rfl,bJ,M.ad (λe F=>aG e (bJ e F) (λfU=>(bq e fU).2 F)) (λ_ a=>a),c2 S mb (λe F aL=>aG e F.1 aL) bl⟩⟩
def ld.lens{h:R ag}:∀{b8:List Go.aS.Node}{ba:List (List z)}{P:Nat->Prop},ld X h P b8 ba->∀(i:Nat) al,b8[i]? =some al->∃row bh,ba[i]? =some row/\(∀e,bh e->P e)/\qx X h bh al row/\∀(S:R ag) mb,(∀e,P e->¬bh e->Z X S e=Z X h e)->qx X S bh mb row->ld X S P (b8.set i mb) ba:=by
 intro b8
 induction b8 with
 |nil=>intro ba P _ i al a;simp at a
 |cons D b8 ah=>
  rintro ba P ⟨row,gv,c7,rfl,bJ,M,ak⟩ i al aE
  cases i with
  |zero=>
   simp at aE;subst aE
   exact⟨row,c7,rfl,bJ,M,λS mb aG bl=>⟨row,gv,c7,rfl,bJ,bl,ak.ad (λe F=>aG e F.1 F.2) (λ_ a=>a)⟩⟩
  |succ i=>
   simp at aE
   obtain⟨w,bh,aA,bq,bV,c2⟩:=ah ak i al aE
   exact⟨w,bh,by simpa using aA,λe F=>(bq e F).1,bV,λS mb aG bl=>⟨row,gv,c7,rfl,bJ,M.ad (λe F=>aG e (bJ e F) (λfU=>(bq e fU).2 F)) (λ_ a=>a),c2 S mb (λe F aL=>aG e F.1 aL) bl⟩⟩
def SL{C:aM}{b n V:Nat}{c:R z}{v:z}(a2:C.a6<=b)(aj:Z C h b=some (.cells c n .own))(bb:V+1<=n)(bt:v.cells=[v])(I:nV v=true):fc C h 1 (.ptr b V) v=some (bn C h b (some (.cells (c.set V (some v)) n .own))):=by
 have bA:Nat.ble (V+1) n=true:=jV bb
 have cg:iB C b=true:=by simp[iB,jV a2]
 have qb:iI [v]=true:=by simp[iI,I]
 simp[fc,bt,og,aj,bA,cg,qb,eU,pM,gB]
def akp{C:aM}{o D:Int}{nm:bc}{no:Bool}{ty:hS}{n:Int}{args:List bx}{v:z}(a:cm C h P (.mk o D nm no ty n args) v)(PK:∀e,P e->C.a6<=e)(IZ:bc)(I0:Bool):∃b,v= .ptr b 0/\P b/\
 (∃S,fc C h 1 (.ptr b 3) (.bool I0)=some S/\cm C S P (.mk o D nm I0 ty n args) v/\∀e,e≠b->Z C S e=Z C h e)/\
 ∃S,fc C h 1 (.ptr b 2) (.str IZ)=some S/\cm C S P (.mk o D IZ no ty n args) v/\∀e,e≠b->Z C S e=Z C h e:=by
 unfold cm at a
 obtain⟨b,rfl,b1,⟨c,m,bX,aX⟩,M,ak,aA,bq,bV,c2,eg,hf,bf,cD,bj,jX,nH,m4,sF⟩:=a
 have a2:=PK b b1
 have key:∀(V:Nat) (w:z),∀i,i≠V->aR C (bn C h b (some (.cells (c.set V (some w)) m .own))) (.ptr b i)=aR C h (.ptr b i):=λV w i aE=>by
  rw[bS (bv a2),bS bX,R.jF,Zg (λB=>aE B.symm)]
 have aby:∀(V:Nat) (w:z),aR C (bn C h b (some (.cells (c.set V (some w)) m .own))) (.ptr b V)=some w:=λV w=>by
  rw[bS (bv a2),R.jF,Zp rfl]
 have kj:∀cE e,e≠b->Z C (bn C h b cE) e=Z C h e:=λcE e F=>aK a2 F
 have mL:∀cE,ee C (bn C h b cE) P cD bf 1 (bj.map λv=>[v])/\(bj≠[]->cD≠b/\(o=24->AY C (bn C h b cE) cD bj.length))/\dh C (bn C h b cE) (λe=>P e/\e≠b/\e≠cD) args bj:=λcE=>
  ⟨ee.abw nH (λbt=>kj cE cD (m4 (by simpa using bt)).1),λbt=>⟨(m4 bt).1,λaG=>((m4 bt).2 aG).ad (kj cE cD (m4 bt).1)⟩,dh.ad (λe F=>kj cE e F.2.1) _ _ sF⟩
 refine⟨b,rfl,b1,⟨_,SL a2 bX Zo rfl rfl, ?_,λe F=>kj _ e F⟩,⟨_,SL a2 bX Zo rfl rfl, ?_,λe F=>kj _ e F⟩⟩
 ·have bo:=key 3 (.bool I0)
  obtain⟨cH,cB,dN⟩:=mL (some (.cells (c.set 3 (some (.bool I0))) m .own))
  unfold cm
  exact⟨b,rfl,b1,⟨_,m,bv a2,aX⟩,by rw[bo 0 Zd];exact M,by rw[bo 1 Zd];exact ak,by rw[bo 2 Zd];exact aA,aby 3 _,by rw[bo 4 Zd];exact bV,by rw[bo 5 Zd];exact c2,by rw[bo 6 Zd];exact eg,by rw[bo 7 Zd];exact hf,bf,cD,bj,by rw[bo 8 Zd];exact jX,cH,cB,dN⟩
 ·have bo:=key 2 (.str IZ)
  obtain⟨cH,cB,dN⟩:=mL (some (.cells (c.set 2 (some (.str IZ))) m .own))
  unfold cm
  exact⟨b,rfl,b1,⟨_,m,bv a2,aX⟩,by rw[bo 0 Zd];exact M,by rw[bo 1 Zd];exact ak,aby 2 _,by rw[bo 3 Zd];exact bq,by rw[bo 4 Zd];exact bV,by rw[bo 5 Zd];exact c2,by rw[bo 6 Zd];exact eg,by rw[bo 7 Zd];exact hf,bf,cD,bj,by rw[bo 8 Zd];exact jX,cH,cB,dN⟩
def SE{α:Type}{k:List α}{i:Nat}{D:α}(a:k[i]? =some D):k.set i D=k:=by
 apply YH
 intro W
 rw[Z8]
 split
 ·rename_i B;subst B;rw[a];simp[(Zb.1 a).1]
 ·rfl
def Vx:bx->List bx->bx
 | .mk o D nm no ty n _,k=> .mk o D nm no ty n k
def Fp{α:Type}{bu:α->α}{k:List α}{W:Nat}{D:α}(a:k[W]? =some D):((k.take W).map bu++k.drop W).set W (bu D)=(k.take (W+1)).map bu++k.drop (W+1):=by
 obtain⟨I,M⟩:=Zb.1 a
 have az:((k.take W).map bu).length=W:=by rw[Zr,Ym];omega
 rw[List.set_append_right _ _ Zo,az,Y2,Zz I,Yg,YA,a,Yw,List.append_assoc]
 rfl
end
def ac8{C:aM}{h:R ag}{ef:Nat->Prop}{b aO:Nat}{bf:z}{ba:List (List z)}(a:gL C h ef b bf aO ba)(aD:0<aO){i:Nat}{r fy:List z}(aE:ba[i]? =some r)(U:fy.length=aO)(I:iI fy=true):
 ∃S,fc C h aO (.ptr b (i*aO)) (.agg fy)=some S/\gL C S ef b bf aO (ba.set i fy)/\∀e,¬ef e->Z C S e=Z C h e:=by
 have c5:ba≠[]:=λB=>by rw[B]at aE;simp at aE
 obtain⟨jt,ann⟩:=Zb.1 aE
 obtain⟨a2,c,n,st,aj,aL,cK⟩:=a.wr c5
 have yO:i*aO+aO<=n:=by
  have:(i+1)*aO<=ba.length*aO:=Nat.mul_le_mul_right aO jt
  rw[Z3]at this;omega
 have BD:=a.rd.aj c5
 have eD:(ba.set i fy).length=ba.length:=Y4
 have m6:∀(S:R ag) (aQ:Nat) (gn:nt),Z C S b=some (.cells (dP c (i*aO) fy) aQ gn)->ee C S ef b bf aO (ba.set i fy):=λS aQ gn bX=>by
  refine⟨λ_=>BD,by rw[eD];exact a.rd.many,λal bJ=> ?_,by rw[eD];exact a.rd.len,λo aG=>a.rd.gZ o (by rw[eD]at aG;exact aG),λo al m w aG aX=> ?_⟩
  ·rcases YO bJ with bJ|rfl
   ·exact a.rd.wide al bJ
   ·exact U
  ·rw[bS bX,nq]
   rw[Z8]at aG
   have anT:=(Zb.1 aX).1
   by_cases BN:i=o
   ·subst BN
    simp only[ZE,jt]at aG
    cases aG
    rw[Zp ⟨Zo,Zo⟩,show i*aO+m-i*aO=m by omega];exact aX
   ·rw[Zg BN]at aG
    have vu:=a.rd.wide al (Zl aG)
    have:=a.rd.cell o al m w aG aX
    rw[bS aj]at this
    rw[Zg (λB=>BN ?_)]
    ·exact this
    ·have l0:m<aO:=Zo
     have bA:(o*aO+m)/aO=o:=by rw[zo,Y9 _ _ aD,Nat.div_eq_of_lt l0,ZQ]
     have cg:(o*aO+m)/aO=i:=by
      obtain⟨cH,cB⟩:=B
      have:o*aO+m=(o*aO+m-i*aO)+i*aO:=Zo
      rw[this,Y9 _ _ aD,Nat.div_eq_of_lt Zo,ZQ]
     omega
 have uh:∀S,og C h b (i*aO) fy=some S->fc C h aO (.ptr b (i*aO)) (.agg fy)=some S:=λS a=>by
  have bA:Nat.beq (z.agg fy).cells.length aO=true:=by show Nat.beq fy.length aO=true;rw[U];exact Y0 _
  have cg:Nat.blt 0 aO=true:=by simp[Nat.blt];omega
  simp only[fc,bA,cg,Yu,fj];exact a
 have bA:Nat.ble (i*aO+fy.length) n=true:=jV Zo
 have cg:iB C b=true:=by simp[iB,jV a2]
 rcases cK with rfl|⟨eb,rfl,amE,nN⟩
 ·refine⟨bn C h b (some (.cells (dP c (i*aO) fy) n .own)),uh _ ?_,⟨m6 _ _ _ (bv a2),λ_=>⟨a2,_,_,_,bv a2,by rw[eD];exact aL, .inl rfl⟩⟩,λe F=>aK a2 (λB=>F (B▸BD))⟩
  simp[og,aj,bA,cg,I,eU,gB]
 ·have oA:∀e,Z C (bn C (k4 C eb h) b (some (.cells (dP c (i*aO) fy) n (.grow [])))) e=if e=b then some (.cells (dP c (i*aO) fy) n (.grow []))else Z C (k4 C eb h) e:=λe=>fq _ a2 e
  refine⟨bn C (k4 C eb h) b (some (.cells (dP c (i*aO) fy) n (.grow []))),uh _ ?_,⟨m6 _ _ _ (by rw[oA,Zp rfl]),λ_=>⟨a2,_,_,_,by rw[oA,Zp rfl],by rw[eD];exact aL, .inr ⟨[],rfl,Zs,Zs⟩⟩⟩,λe F=> ?_⟩
  ·simp[og,aj,bA,cg,I,eU,gB]
  ·rw[oA,Zg (show ¬e=b from λB=>F (B▸BD)),abB _ _ _ (λx af=>(nN x af).2) (λaf=>F (nN e af).1)]
section
variable{X:cn}{h S a1 aT:R ag}{j aq aP bk:Nat}{P:Nat->Prop}
def lD.rev{h:R ag}:∀{b8:List eL}{ba:List (List z)}{P:Nat->Prop},lD X h P b8 ba->lD X h P b8.reverse ba.reverse:=by
 intro b8
 induction b8 with
 |nil=>rintro ba P rfl;rfl
 |cons al b8 ah=>
  rintro ba P ⟨row,gv,c7,rfl,bJ,M,ak⟩
  rw[List.reverse_cons,List.reverse_cons]
  exact lD.snoc M (ah ak) (λe F=>F.1) (λe F=>⟨bJ e F,λa=>a.2 F⟩)
set_option maxRecDepth 100000 in
def avA(aB:dR X){ga:Type}{o:Nat}{pi mX:List z}{st bu:bx->bx}{f bR:ga->bx->ga}{ef bd:Nat->Prop}{du:ga->R ag->Nat->Prop}{DB:bx->Prop}(fs:∀B,DB B->∀D∈(st B).args,DB D)(K2:∀B,bu B=Vx (st B) ((st B).args.map bu))(fT:∀s B,bR s B=(st B).args.foldl bR (f s B))(d9:∀B D,D∈(st B).args->SizeOf.sizeOf D<SizeOf.sizeOf B)(eB:∀e,ef e->¬bd e)
 (cK:∀s B v h j P,(∀e,P e->ef e/\e<j)->du s h j->DB B->cm X h P B v->a7 X o ((pi++[v])++mX) h j (λaa S aq=>aa= .zT/\j<=aq/\du (f s B) S aq/\cm X S P (st B) v/\∀e,e<j->¬P e->¬bd e->Z X S e=Z X h e) zK):
 ∀(N:Nat) (B:bx),SizeOf.sizeOf B<N->∀(s:ga) (P:Nat->Prop) (v:z) (h:R ag) (j:Nat),(∀e,P e->ef e/\e<j)->du s h j->DB B->cm X h P B v->
  a7 X 26 [v, .func (.func o) pi mX] h j (λaa S aq=>aa= .tuple []/\j<=aq/\du (bR s B) S aq/\cm X S P (bu B) v/\∀e,e<j->¬P e->¬bd e->Z X S e=Z X h e) zK:=by
 intro N
 induction N with
 |zero=>intro B a;omega
 |succ N ah=>
  intro B jZ s P v h j b1 bB aau bl
  obtain⟨ke,rfl,yH,_⟩:=bl.ptr
  refine zF aB (TV X) ?_
  rw[TW]
  unfold NO
  refine cr @I4 ⟨?_⟩
  refine(cK s B _ h j P b1 bB aau bl).Zm ?_
  rintro aa a1 aP ⟨rfl,ju,Ll,vk,jI⟩
  have vb:∀e,P e->ef e/\e<aP:=λe F=>⟨(b1 e F).1,zy (b1 e F).2⟩
  have LU:=d9 B
  have LA:=fs B aau
  rw[K2 B,fT s B]
  generalize f s B=iX at Ll ⊢
  generalize st B=bA at vk LU LA ⊢
  obtain⟨bM,bm,Ms,arG,S4,d4,args⟩:=bA
  have LU:∀D,D∈args->SizeOf.sizeOf D<SizeOf.sizeOf B:=LU
  have LA:∀D∈args,DB D:=LA
  obtain⟨b,bf,cD,bj,rq,aj,kA,cW,y1,_⟩:=id (WB vk)
  cases rq
  have e3:=cW.len
  rw[Zr,y1]at e3
  have kL:=cW.many
  rw[Zr,y1]at kL
  refine dk @kA @e3 ⟨?_⟩
  refine f6 (λm H S aQ=>∃(W:Nat),H.g 1=some (.func (.func o) pi mX)/\H.g 17=some bf/\H.g 18=some (.Z (args.length:Int))/\H.g 19=some (.Z (W:Int))/\W+m=args.length/\aP<=aQ/\du ((args.take W).foldl bR iX) S aQ/\aR X S (.ptr ke 8)=some bf/\cm X S P (.mk bM bm Ms arG S4 d4 ((args.take W).map bu++args.drop W)) (.ptr ke 0)/\∀e,e<aP->¬P e->¬bd e->Z X S e=Z X a1 e)
   args.length ⟨0,bC,bC,bC,gC,Zo,Zi _,Ll,kA,by simpa using vk,λ_ _ _ _=>rfl⟩ ?_
  clear kA cW
  rintro m H aT bk ⟨W,t1,jN,iu,qZ,bB,gP,HU,kA,wZ,hh⟩
  cases m with
  |zero=>
   have d:=zz W args.length
   rw[ZB Zo]at HU
   rw[ZB Zo,ZH Zo,Z4]at wZ
   refine eW @qZ @iu @d ⟨?_⟩
   exact⟨rfl,Zo,HU,wZ,λe F aL aj=>by rw[hh e Zo aL aj];exact jI e F aL aj⟩
  |succ m=>
   have d:=zA W args.length
   have bA:=zD W
   obtain⟨D,aC⟩:=zB args W
   obtain⟨dT,pD,av9,o3,rq,jb,Vg,aoy,axp,anI⟩:=WB wZ
   cases rq
   rw[kA]at Vg
   cases Vg
   have lZ:((args.take W).map bu).length=W:=by rw[Zr,Ym];omega
   obtain⟨w,bh,oI,fU,apn,sN⟩:=anI W D (by rw[ZF Zo,lZ,Y2,Z1];exact aC)
   obtain⟨cb,b5,cG⟩:=aoy.one oI
   refine eQ @qZ @iu @jN @t1 @d @cb @b5 ⟨?_⟩
   have amn:∀e,bh e->ef e/\e<bk:=λe F=>⟨(vb e (fU e F).1).1,zy (vb e (fU e F).1).2⟩
   refine(ah D (zy (LU D (Zl aC))) _ bh w aT bk amn HU (LA D (Zl aC)) apn).Zm ?_
   rintro aa be bF ⟨rfl,iT,EF,P7,lq⟩
   have p2:=sN be (bu D) (λe F aL=>lq e (zy (vb e F).2) aL (eB e (vb e F).1)) P7
   rw[Fp aC]at p2
   have amX:=vb ke aj
   have vw:(args.take (W+1)).foldl bR iX=bR ((args.take W).foldl bR iX) D:=by rw[YA,aC,zs];rfl
   refine dk @qZ @bA ⟨?_⟩
   exact⟨m,Zo,W+1,aY t1,aY jN,aY iu,bC,Zo,Zo,by rw[vw];exact EF,zJ (lq ke Zo (λa=>(fU ke a).2 rfl) (eB ke amX.1)) kA,p2,λe F aL aj=>by rw[lq e Zo (λa=>aL (fU e a).1) aj];exact hh e F aL aj⟩
end
def fI(X:cn)(h:R ag)(cI:Nat)(p:z)(o:Int)(dA cZ:z)(f:Int×Int):Prop:=Z X h cI=zC [p, .Z o,dA,cZ, .Z f.1, .Z f.2] 6
def lW(f:Int×Int)(c D:Int):Int×Int:=if f.1=0 then(c,D)else f
section
variable{X:cn}{h S a1 aT:R ag}{j aq aP bk:Nat}
def uS(aB:dR X){cI:Nat}{p dA cZ:z}{o:Int}{f:Int×Int}(aL:(q X).a6<=cI)(ay:fI X h cI p o dA cZ f)(c D:Int):
 a7 X 41 [.ptr cI 0, .Z c, .Z D] h j (λaa S aq=>aa= .tuple []/\fI X S cI p o dA cZ (lW f c D)/\j<=aq/\∀e,e≠cI->Z X S e=Z X h e) zK:=by
 refine zF aB (afT X) ?_
 rw[afU]
 unfold Ub
 obtain⟨ez,e5⟩:=f
 have amI:=ay
 unfold fI at ay
 have gE:aR X h (.ptr cI 4)=some (.Z ez):=by rw[bS ay];rfl
 by_cases a2:ez=0
 ·have d:decide (ez=0)=true:=by simp[a2]
  refine hy ⟨?_⟩
  refine hy ⟨?_⟩
  refine hy ⟨?_⟩
  refine dk @gE @d ⟨?_⟩
  refine⟨rfl, ?_,Zi _,λe F=>aK Zo F⟩
  unfold fI lW
  rw[bv Zo]
  simp only[a2,ZE]
  rfl
 ·have d:decide (ez=0)=false:=by simp[a2]
  refine dk @gE @d ⟨?_⟩
  refine⟨rfl, ?_,Zi _,λ_ _=>rfl⟩
  unfold lW
  simp only[a2,ZD]
  exact amI
def uq(B:bx):Bool:=decide (B.kind=2)||decide (B.kind=6)||decide (B.kind=24)
def arv(aB:dR X){P:Nat->Prop}{B:bx}{v:z}(bl:cm X h P B v):
 a7 X 76 [v] h j (λaa S aq=>aa= .bool (uq B)/\S=h/\j<=aq) zK:=by
 refine zF aB (agQ X) ?_
 rw[agR]
 unfold UJ
 obtain⟨b,rfl,aj,a0⟩:=bl.ptr
 by_cases M:B.kind=2
 ·have d:decide (B.kind=2)=true:=by simp[M]
  refine dk @a0 @d ⟨?_⟩
  exact⟨by simp[uq,M],rfl,Zo⟩
 ·have d:decide (B.kind=2)=false:=by simp[M]
  by_cases bV:B.kind=6
  ·have iz:decide (B.kind=6)=true:=by simp[bV]
   refine eW @a0 @d @iz ⟨?_⟩
   exact⟨by simp[uq,bV],rfl,Zo⟩
  ·have iz:decide (B.kind=6)=false:=by simp[bV]
   refine eW @a0 @d @iz ⟨?_⟩
   exact⟨by simp[uq,M,bV],rfl,Zo⟩
end
def D6(B:bc×z×Nat):z×z×Nat:=(.str B.1,B.2.1,B.2.2)
variable{bo:Type}[DecidableEq bo]
def oq:List (bo×z×Nat)->bo->Nat->Option (Nat×z)
 |[],_,_=>none
 |x::dQ,w,i=>if x.1=w then some (i,x.2.1)else oq dQ w (i+1)
def un(dQ:List (bo×z×Nat))(w:bo):Option z:=(oq dQ w 0).map Prod.snd
def OZ(w:bo):∀(dQ:List (bo×z×Nat)) (i:Nat),oq dQ w (i+1)=(oq dQ w i).map λp=>(p.1+1,p.2):=by
 intro dQ
 induction dQ with
 |nil=>intro i;rfl
 |cons x dQ ah=>
  intro i
  simp only[oq]
  split
  ·rfl
  ·exact ah (i+1)
def Aj(x:bo×z×Nat)(dQ:List (bo×z×Nat))(w:bo):un (x::dQ) w=if x.1=w then some x.2.1 else un dQ w:=by
 unfold un
 simp only[oq]
 split
 ·rfl
 ·rw[OZ];cases oq dQ w 0<;>rfl
def akE(w:bo):∀(dQ:List (bo×z×Nat)) (W:Nat) (v:z),oq dQ w 0=some (W,v)->∃b,dQ[W]? =some (w,v,b):=by
 intro dQ
 induction dQ with
 |nil=>intro W v a;cases a
 |cons x dQ ah=>
  intro W v a
  simp only[oq]at a
  split at a
  ·rename_i B
   cases a
   exact⟨x.2.2,by simp[<-B]⟩
  ·rw[OZ]at a
   cases bJ:oq dQ w 0 with
   |none=>rw[bJ]at a;cases a
   |some p=>
    rw[bJ]at a
    simp at a
    obtain⟨rfl,rfl⟩:=a
    obtain⟨b,aj⟩:=ah p.1 p.2 bJ
    exact⟨b,by simpa using aj⟩
def aqX(w bO:bo)(v:z)(b:Nat):∀dQ:List (bo×z×Nat),un dQ w=none->un (dQ++[(w,v,b)]) bO=if bO=w then some v else un dQ bO:=by
 intro dQ
 induction dQ with
 |nil=>
  intro _
  rw[YQ,Aj]
  by_cases a:bO=w
  ·simp[a]
  ·have:¬w=bO:=λB=>a B.symm
   simp[a,this]
 |cons x dQ ah=>
  intro a
  rw[Aj]at a
  split at a
  ·cases a
  ·rename_i af
   rw[List.cons_append,Aj,Aj,ah a]
   by_cases B:x.1=bO
   ·have:¬bO=w:=λal=>af (B.trans al)
    simp[B,this]
   ·simp[B]
def aqY(w bO:bo)(v:z):∀(dQ:List (bo×z×Nat)) (W:Nat) (v0:z) (b:Nat),oq dQ w 0=some (W,v0)->un (dQ.set W (w,v,b)) bO=if bO=w then some v else un dQ bO:=by
 intro dQ
 induction dQ with
 |nil=>intro W v0 b a;cases a
 |cons x dQ ah=>
  intro W v0 b a
  simp only[oq]at a
  split at a
  ·rename_i B
   simp at a
   obtain⟨rfl,rfl⟩:=a
   rw[Yg,Aj,Aj]
   by_cases a:bO=w
   ·simp[a]
   ·have I:¬w=bO:=λal=>a al.symm
    have M:¬x.1=bO:=λal=>a (al.symm.trans B)
    simp[a,I,M]
  ·rename_i B
   rw[OZ]at a
   cases bJ:oq dQ w 0 with
   |none=>rw[bJ]at a;cases a
   |some p=>
    rw[bJ]at a
    simp at a
    obtain⟨rfl,rfl⟩:=a
    rw[Yj,Aj,Aj,ah p.1 p.2 b bJ]
    by_cases M:x.1=bO
    ·have:¬bO=w:=λal=>B (M.trans al)
     simp[M,this]
    ·simp[M]
section
variable{X:cn}{h S a1 aT:R ag}{j aq aP bk:Nat}
def n9(X:cn)(h:R ag)(r:Nat)(vE:bc->Option z):Prop:=∃dQ fF,Z X h r=some (.map (dQ.map D6) fF)/\∀w,un dQ w=vE w
def n9.ad{r:Nat}{vE:bc->Option z}(a:n9 X h r vE)(o:Z X S r=Z X h r):n9 X S r vE:=by
 obtain⟨dQ,fF,I,M⟩:=a
 exact⟨dQ,fF,by rw[o];exact I,M⟩
def Mz(w:bc):mS X 20 9 (.str w)=true:=Zk
def Ww(w bO:bc):lE X h 20 9 (.str w) (.str bO)=some (l8 w bO):=Zk
def OX(w:bc):∀(dQ:List (bc×z×Nat)) (i:Nat),findKey X h 9 (.str w) (dQ.map D6) i=some (oq dQ w i):=by
 intro dQ
 induction dQ with
 |nil=>intro i;rfl
 |cons x dQ ah=>
  intro i
  simp only[ZC,D6,findKey,Ww,Cx,oq]
  by_cases a:w=x.1
  ·have:x.1=w:=a.symm
   simp[this]
  ·have:¬x.1=w:=λB=>a B.symm
   simp only[a,this,Yl,ZD]
   exact ah (i+1)
def ap5(w:bc):oO 20 (.str w) (.str w)=true:=by
 show l8 w w=true
 rw[Cx];simp
def Cn{r:Nat}{vE:bc->Option z}(a:n9 X h r vE)(br:z)(w:bc)(ok:Bool):
 my X h 9 br (.map r) (.str w) ok=some (match vE w with|some v=>bK ok (.tuple [v, .zT]) v|none=>bK ok (.tuple [br, .zF]) br):=by
 obtain⟨dQ,fF,I,M⟩:=a
 have ak:=M w
 unfold un at ak
 simp only[my,I,Mz,fj,OX]
 cases bJ:oq dQ w 0 with
 |none=>rw[bJ]at ak;rw[<-ak];rfl
 |some p=>rw[bJ]at ak;rw[<-ak];rfl
def Ml{r:Nat}{vE:bc->Option z}(U:(q X).a6<=r)(a:n9 X h r vE)(w:bc)(v:z):
 ∃S,Cv X h j 9 (.map r) (.str w) v=some (.fl bp.undef S j)/\n9 X S r (λx=>if x=w then some v else vE x)/\∀e,e≠r->Z X S e=Z X h e:=by
 obtain⟨dQ,fF,I,M⟩:=a
 have aI:iB X r=true:=jV U
 cases ch:oq dQ w 0 with
 |none=>
  refine⟨Go.bp.bn X h r (some (.map ((dQ++[(w,v,fF)]).map D6) (fF+1))), ?_,⟨dQ++[(w,v,fF)],fF+1,bv U,λx=> ?_⟩,λe F=>aK U F⟩
  ·simp only[Cv,I,Mz,fj,OX,ch,bp.setObj,aI,fj,gB]
   rw[Yw]
   rfl
  ·rw[aqX _ _ _ _ _ (by unfold un;rw[ch];rfl),M]
 |some p=>
  obtain⟨W,v0⟩:=p
  obtain⟨born,aj⟩:=akE w dQ W v0 ch
  have c5:(dQ.map D6)[W]? =some (.str w,v0,born):=by rw[Zw,aj];rfl
  refine⟨Go.bp.bn X h r (some (.map ((dQ.set W (w,v,born)).map D6) fF)), ?_,⟨dQ.set W (w,v,born),fF,bv U,λx=> ?_⟩,λe F=>aK U F⟩
  ·simp only[Cv,I,Mz,fj,OX,ch,qj,c5,ap5,bp.setObj,aI,fj,gB]
   rw[List.map_set]
   rfl
  ·rw[aqY w x v dQ W v0 born ch,M]
end
end
noncomputable section
structure fJ where
 kind:Int
 d:ep
 eq:Int
 left:Int
def v2:fJ:=⟨0,⟨[],0,dw,[],0,false⟩,0,0⟩
def pI(v:fJ):List z:=[.Z v.kind, .str v.d.name, .Z v.d.at_, .bool v.d.ty.b, .bool v.d.ty.s, .Z v.d.ty.w, .str v.d.on, .Z v.d.fX, .bool v.d.no, .Z v.eq, .Z v.left]
def wk(X:cn)(h:R ag)(P:Nat->Prop)(dA:z)(t:bc->Option fJ):Prop:=∃b r,dA= .ptr b 0/\P b/\P r/\aR X h (.ptr b 0)=some (.map r)/\n9 X h r (λw=>(t w).map λv=> .agg (pI v))
section
variable{X:cn}{h S a1 aT:R ag}{j aq aP bk:Nat}
def wk.ad{P bh:Nat->Prop}{dA:z}{t:bc->Option fJ}(a:wk X h P dA t)(o:∀e,P e->Z X S e=Z X h e)(az:∀e,P e->bh e):wk X S bh dA t:=by
 obtain⟨b,r,I,M,ak,aA,bq⟩:=a
 exact⟨b,r,I,az b M,az r ak,zJ (o b M) aA,bq.ad (o r ak)⟩
def akh(b:Nat):dc X h .eql 70 true (.ptr b 0) .cM=some .zF:=Zk
def Pk(aB:dR X){P:Nat->Prop}{dA:z}{t:bc->Option fJ}(aL:(q X).a6<=j)(aZ:wk X h P dA t)(b1:∀e,P e->e<j)(w:bc):
 a7 X 74 [dA, .str w] h j (λaa S aq=>aa= .tuple [.agg (pI ((t w).getD v2)), .bool (t w).isSome]/\bD X h j S aq) zK:=by
 refine zF aB (agM X) ?_
 rw[agN]
 unfold UH
 obtain⟨b,r,rfl,aj,U,a0,aX⟩:=aZ
 have fV:=b1 b aj
 have yY:=b1 r U
 refine tr ?_
 generalize fG:bn X h j _=a1
 have cb:Z X a1 j=zC [.Z 0, .str [], .Z 0, .zF, .zF, .Z 0, .str [], .Z 0, .zF, .Z 0, .Z 0] 11:=by rw[<-fG,bv aL];rfl
 have b4:bD X h j a1 (j+1):=by rw[<-fG];exact dL
 clear fG
 have bm:aR X a1 (.ptr b 0)=some (.map r):=zJ (b4.ad b fV) a0
 have sM:=aX.ad (b4.ad r yY)
 have iF:=Cn sM (.agg [.Z 0, .str [], .Z 0, .zF, .zF, .Z 0, .str [], .Z 0, .zF, .Z 0, .Z 0]) w true
 have aae:my X a1 9 (.agg [.Z 0, .str [], .Z 0, .zF, .zF, .Z 0, .str [], .Z 0, .zF, .Z 0, .Z 0]) (.map r) (.str w) true=some (.tuple [.agg (pI ((t w).getD v2)), .bool (t w).isSome]):=by
  rw[iF];cases t w<;>rfl
 clear iF
 generalize (t w).getD v2=v at*
 have ui:pI v=[.Z v.kind, .str v.d.name, .Z v.d.at_, .bool v.d.ty.b, .bool v.d.ty.s, .Z v.d.ty.w, .str v.d.on, .Z v.d.fX, .bool v.d.no, .Z v.eq, .Z v.left]:=rfl
 rw[ui]at aae ⊢
 refine eW @akh @bm @aae ⟨?_⟩
 refine gm (j8 (o:=11) (b:=j) (V:=0) (n:=11) (c:=R.ofList [.Z 0, .str [], .Z 0, .zF, .zF, .Z 0, .str [], .Z 0, .zF, .Z 0, .Z 0] 0 .nil) (by simp(disch:=omega) only[aK];exact cb) aL rfl Zd Zd rfl) ?_
 generalize gt:bn X _ j _=be
 have cG:Z X be j=zC [.Z v.kind, .str v.d.name, .Z v.d.at_, .bool v.d.ty.b, .bool v.d.ty.s, .Z v.d.ty.w, .str v.d.on, .Z v.d.fX, .bool v.d.no, .Z v.eq, .Z v.left] 11:=by rw[<-gt,bv aL];rfl
 have cx:bD X h j be (j+1+1):=⟨Zo,λe F=>by rw[<-gt];simp(disch:=omega) only[aK];exact b4.ad e F⟩
 clear gt
 refine cr (bS cG) ⟨?_⟩
 exact⟨rfl,cx⟩
end
def Ah(t:bc->Option fJ)(Y:bc->Option Int)(f:Int×Int)(w:bc)(D:Int):Int×Int:=match t w with
 |none=>lW f 23 D
 |some v=>if v.kind=1\/1<(Y w).getD 0+1 then lW f 24 D else f
def nC(Y:bc->Option Int)(w:bc):Option z:=(Y w).map λo=> .Z o
section
variable{X:cn}{h S a1 aT:R ag}{j aq aP bk:Nat}
def aqz(aB:dR X){P:Nat->Prop}{cI cZ:Nat}{p dA:z}{o:Int}{t:bc->Option fJ}{Y:bc->Option Int}{f:Int×Int}(aL:(q X).a6<=j)(mu:(q X).a6<=cI)(vh:(q X).a6<=cZ)(wX:cI<j)(vj:cZ<j)(yL:cI≠cZ)
 (ay:fI X h cI p o dA (.map cZ) f)(aZ:wk X h P dA t)(b1:∀e,P e->e<j/\e≠cI/\e≠cZ)(f1:n9 X h cZ (nC Y))(w:bc)(D:Int)(aj:0<=(Y w).getD 0/\(Y w).getD 0<4000000000000000000):
 a7 X 43 [.ptr cI 0, .str w, .Z D] h j (λaa S aq=>aa= .tuple []/\fI X S cI p o dA (.map cZ) (Ah t Y f w D)/\n9 X S cZ (nC λx=>if x=w then some ((Y w).getD 0+1)else Y x)/\j<=aq/\∀e,e<j->e≠cI->e≠cZ->Z X S e=Z X h e) zK:=by
 refine zF aB (afX X) ?_
 rw[afY]
 unfold Ud
 have c4:aR X h (.ptr cI 2)=some dA:=by unfold fI at ay;rw[bS ay];rfl
 refine cr @c4 ⟨?_⟩
 refine(Pk aB aL aZ (λe F=>(b1 e F).1) w).Zm ?_
 rintro aa a1 aP ⟨rfl,b4⟩
 have ju:=b4.le
 have rB:fI X a1 cI p o dA (.map cZ) f:=by unfold fI;rw[b4.ad cI wX];exact ay
 have al1:=f1.ad (b4.ad cZ vj)
 generalize bt:(t w).getD v2=v
 have ui:pI v=[.Z v.kind, .str v.d.name, .Z v.d.at_, .bool v.d.ty.b, .bool v.d.ty.s, .Z v.d.ty.w, .str v.d.on, .Z v.d.fX, .bool v.d.no, .Z v.eq, .Z v.left]:=rfl
 rw[ui]
 refine hy ⟨?_⟩
 refine hy ⟨?_⟩
 refine tr ?_
 refine hy ⟨?_⟩
 generalize dX:bn X _ aP _=aT
 have b5:Z X aT aP=zC [.Z v.kind, .str v.d.name, .Z v.d.at_, .bool v.d.ty.b, .bool v.d.ty.s, .Z v.d.ty.w, .str v.d.on, .Z v.d.fX, .bool v.d.no, .Z v.eq, .Z v.left] 11:=by rw[<-dX,bv Zo];rfl
 have cl:bD X h j aT (aP+1):=⟨Zo,λe F=>by rw[<-dX];simp(disch:=omega) only[aK];exact b4.ad e F⟩
 have hh:∀e,e<aP->Z X aT e=Z X a1 e:=λe F=>by rw[<-dX];exact zE
 clear dX
 have Ex:fI X aT cI p o dA (.map cZ) f:=by unfold fI;rw[hh cI Zo];exact rB
 have Xk:=al1.ad (hh cZ Zo)
 have eT:aR X aT (.ptr cI 3)=some (.map cZ):=by unfold fI at Ex;rw[bS Ex];rfl
 have iF:my X aT 9 (.Z 0) (.map cZ) (.str w) false=some (.Z ((Y w).getD 0)):=by
  rw[Cn Xk];unfold nC;cases Y w<;>rfl
 have bA:bg .add (.Z ((Y w).getD 0)) (.Z 1)=some (.Z ((Y w).getD 0+1)):=eO Zo Zo
 refine eW @eT @iF @bA ⟨?_⟩
 obtain⟨be,uc,Xl,lq⟩:=Ml (j:=aP+1) vh Xk w (.Z ((Y w).getD 0+1))
 refine mc uc ?_
 have sH:fI X be cI p o dA (.map cZ) f:=by unfold fI;rw[lq cI yL];exact Ex
 rw[<-lq aP Zo]at b5
 have Hi:n9 X be cZ (nC λx=>if x=w then some ((Y w).getD 0+1)else Y x):=by
  have:(λx=>if x=w then some (z.Z ((Y w).getD 0+1))else nC Y x)=(nC λx=>if x=w then some ((Y w).getD 0+1)else Y x):=by
   funext x;unfold nC;by_cases a:x=w<;>simp[a]
  rw[<-this];exact Xl
 have Lv:∀e,e<j->e≠cZ->Z X be e=Z X h e:=λe I M=>by rw[lq e M];exact cl.ad e I
 clear iF uc Xl eT
 unfold Ah
 cases Q5:t w with
 |none=>
  simp only[ZX,Yt]
  refine cV ⟨?_⟩
  refine(uS (j:=aP+1) (h:=be) aB mu sH 23 D).Zm ?_
  rintro aa bU cP ⟨rfl,tU,je,f2⟩
  refine cV ⟨?_⟩
  exact⟨by first|trivial|rfl,tU,Hi.ad (f2 cZ Zo),Zo,λe I M ak=>by rw[f2 e M];exact Lv e I ak⟩
 |some gp=>
  have B4:gp=v:=by rw[Q5]at bt;exact bt
  subst B4
  simp only[Z5,Ys]
  have fw:aR X be (.ptr aP 0)=some (.Z gp.kind):=by rw[bS b5];rfl
  have eT:aR X be (.ptr cI 3)=some (.map cZ):=by unfold fI at sH;rw[bS sH];rfl
  have iF:my X be 9 (.Z 0) (.map cZ) (.str w) false=some (.Z ((Y w).getD 0+1)):=by
   rw[Cn Hi];unfold nC;simp
  by_cases I:gp.kind=1
  ·have d:decide (gp.kind=1)=true:=by simp[I]
   refine dk @fw @d ⟨?_⟩
   refine(uS (j:=aP+1) (h:=be) aB mu sH 24 D).Zm ?_
   rintro aa bU cP ⟨rfl,tU,je,f2⟩
   refine cV ⟨?_⟩
   exact⟨by first|trivial|rfl,by simp only[I,true_or,ZE];exact tU,Hi.ad (f2 cZ Zo),Zo,λe I M ak=>by rw[f2 e M];exact Lv e I ak⟩
  ·have d:decide (gp.kind=1)=false:=by simp[I]
   by_cases M:1<(Y w).getD 0+1
   ·have cJ:decide (1<(Y w).getD 0+1)=true:=by simp only[Zh];exact M
    refine gV @fw @d @eT @iF @cJ ⟨?_⟩
    refine(uS (j:=aP+1) (h:=be) aB mu sH 24 D).Zm ?_
    rintro aa bU cP ⟨rfl,tU,je,f2⟩
    refine cV ⟨?_⟩
    exact⟨by first|trivial|rfl,by simp only[I,M,or_true,ZE];exact tU,Hi.ad (f2 cZ Zo),Zo,λe I M ak=>by rw[f2 e M];exact Lv e I ak⟩
   ·have cJ:decide (1<(Y w).getD 0+1)=false:=by simp only[Zc];exact M
    refine gV @fw @d @eT @iF @cJ ⟨?_⟩
    exact⟨by first|trivial|rfl,by simp only[I,M,Yn,ZD];exact sH,Hi,Zo,λe I M ak=>Lv e I ak⟩
end
def uv(t:bc->Option fJ)(f:Int×Int)(B:bx):Int×Int:=if uq B then(if (t B.name).isSome then f else lW f 23 B.at_)else f
def CT(ax:List Go.aS.Node)(o:Nat)(f:Int×Int)(B:bx):Int×Int:=if B.kind=25 then(match pj ax B.name with
 |none=>lW f 23 B.at_
 |some W=>if o<=W then lW f 25 B.at_ else f)else f
def pB(t:bc->Option fJ)(ax:List Go.aS.Node)(o:Nat)(f:Int×Int)(B:bx):(Int×Int)×Bool:=(CT ax o (uv t f B) B,true)
structure DE(X:cn)(gx:R ag)(a6 cI:Nat)(p:z)(o:Nat)(dA cZ:z)(f:Int×Int)(h:R ag)(j:Nat):Prop where
 le:a6<=j
 jn:fI X h cI p o dA cZ f
 low:∀e,e<a6->e≠cI->Z X h e=Z X gx e
section
variable{X:cn}{h S gx a1 aT:R ag}{j aq aP bk:Nat}
def atw(aB:dR X){P:Nat->Prop}{kl cI hl:Nat}{p dA cZ:z}{o:Nat}{t:bc->Option fJ}{ax:List Go.aS.Node}(awX:(q X).a6<=kl)(mu:(q X).a6<=cI)(wX:cI<kl)(LL:hl<kl)(LJ:hl≠cI)(bJ:aR X gx (.ptr hl 0)=some (.ptr cI 0))
 (b1:∀e,P e->e<kl/\e≠cI)(aZ:wk X gx P dA t)(bX:tp X gx P ax p){f:Int×Int}(ov:DE X gx kl cI p o dA cZ f h j){B:bx}{v:z}(bl:cm X h P B v):
 a7 X 75 [v, .ptr hl 0] h j (λaa S aq=>aa= .zT/\DE X gx kl cI p o dA cZ (pB t ax o f B).1 S aq) zK:=by
 refine zF aB (agO X) ?_
 rw[agP]
 unfold UI
 refine(arv aB bl).Zm ?_
 rintro aa a1 aP ⟨rfl,rfl,ju⟩
 have awZ:=ov.le
 have iG:∀h,Z X h hl=Z X gx hl->aR X h (.ptr hl 0)=some (.ptr cI 0):=λh a=>zJ a bJ
 refine jK (λcN S aQ=>cN.g 0=some v/\cN.g 1=some (.ptr hl 0)/\DE X gx kl cI p o dA cZ (uv t f B) S aQ/\cm X S P B v) (λW bB=> ?_) ?_
 ·obtain⟨b,_,_,_,rfl,aj,a0,bm,ct,_⟩:=id bl.open
  unfold uv at bB
  cases jv:uq B with
  |false=>
   rw[jv]at bB
   simp only[Zu,ZD]at bB
   refine cV ⟨?_⟩
   exact bB _ _ _ ⟨bC,bC,⟨Zo,ov.jn,ov.low⟩,bl⟩
  |true=>
   rw[jv]at bB
   simp only[ZE]at bB
   have QM:=iG a1 (ov.low hl LL LJ)
   have c4:aR X a1 (.ptr cI 2)=some dA:=by have:=ov.jn;unfold fI at this;rw[bS this];rfl
   refine eW @QM @c4 @ct ⟨?_⟩
   refine e1 (λaT=>Z X aT (aP+12)=zC [.Z 0, .str [], .Z 0, .zF, .zF, .Z 0, .str [], .Z 0, .zF, .Z 0, .Z 0] 11/\bD X a1 aP aT (aP+12+1)) ⟨by rw[bv Zo];rfl,Zo,λe F=>zE⟩ ?_
   rintro aT ⟨b5,cl⟩
   have cq:∀e,e<kl->Z X aT e=Z X a1 e:=λe F=>cl.ad e Zo
   refine(Pk (j:=aP+15) (h:=aT) aB Zo (aZ.ad (bh:=P) (λe F=>by rw[cq e (b1 e F).1];exact ov.low e (b1 e F).1 (b1 e F).2) (λ_ a=>a)) (λe F=>zy (b1 e F).1) B.name).Zm ?_
   rintro aa be bF ⟨rfl,cx⟩
   have iT:=cx.le
   have cG:Z X be (aP+12)=zC [.Z 0, .str [], .Z 0, .zF, .zF, .Z 0, .str [], .Z 0, .zF, .Z 0, .Z 0] 11:=by rw[cx.ad _ Zo];exact b5
   generalize B4:(t B.name).getD v2=e0
   have ui:pI e0=[.Z e0.kind, .str e0.d.name, .Z e0.d.at_, .bool e0.d.ty.b, .bool e0.d.ty.s, .Z e0.d.ty.w, .str e0.d.on, .Z e0.d.fX, .bool e0.d.no, .Z e0.eq, .Z e0.left]:=rfl
   rw[ui]
   refine hy ⟨?_⟩
   refine hy ⟨?_⟩
   refine gm (j8 (o:=11) (b:=aP+12) (V:=0) (n:=11) cG Zo rfl Zd Zd rfl) ?_
   generalize h7:bn X be (aP+12) _=bU
   have fb:∀e,e<aP->Z X bU e=Z X a1 e:=λe F=>by rw[<-h7,aK Zo Zo,cx.ad e Zo,cl.ad e F]
   clear h7 b5 cG
   have KY:DE X gx kl cI p o dA cZ f bU bF:=⟨Zo,by have:=ov.jn;unfold fI at*;rw[fb cI Zo];exact this,λe I M=>by rw[fb e Zo];exact ov.low e I M⟩
   have p2:cm X bU P B (.ptr b 0):=cm.ad (λe F=>fb e (zy (b1 e F).1)) _ _ bl
   have aop:=iG bU (KY.low hl LL LJ)
   have ahJ:aR X bU (.ptr b 1)=some (.Z B.at_):=zJ (fb b (zy (b1 b aj).1)) bm
   cases rH:(t B.name).isSome with
   |true=>
    rw[rH]at bB
    simp only[ZE]at bB
    refine cV ⟨?_⟩
    exact bB _ _ _ ⟨bC,bC,KY,p2⟩
   |false=>
    rw[rH]at bB
    simp only[Zu,ZD]at bB
    refine dk @aop @ahJ ⟨?_⟩
    refine(uS (h:=bU) aB mu KY.jn 23 B.at_).Zm ?_
    rintro aa bY cw ⟨rfl,BG,iU,oz⟩
    refine cV ⟨?_⟩
    exact bB _ _ _ ⟨bC,bC,⟨Zo,BG,λe I M=>by rw[oz e M];exact KY.low e I M⟩,cm.ad (λe F=>oz e (b1 e F).2) _ _ p2⟩
 ·rintro H aT bk ⟨t0,t1,BB,wZ⟩
  obtain⟨b,_,_,_,rfl,aj,a0,bm,ct,_⟩:=id wZ.open
  have gP:=BB.le
  show ca _ _
  by_cases rv:B.kind=25
  ·have d:decide (B.kind=25)=true:=by simp[rv]
   have QM:=iG aT (BB.low hl LL LJ)
   have fw:aR X aT (.ptr cI 0)=some p:=by have:=BB.jn;unfold fI at this;rw[bS this];rfl
   refine eQ @t0 @t1 @a0 @d @QM @fw @ct ⟨?_⟩
   refine(WN (j:=bk+14) (h:=aT) aB Zo (bX.ad (bh:=P) (λe F=>BB.low e (b1 e F).1 (b1 e F).2) (λ_ a=>a)) (λe F=>zy (b1 e F).1) B.name).Zm ?_
   rintro aa be bF ⟨rfl,cx⟩
   have iT:=cx.le
   have BC:DE X gx kl cI p o dA cZ (uv t f B) be bF:=⟨Zo,by have:=BB.jn;unfold fI at*;rw[cx.ad cI Zo];exact this,λe I M=>by rw[cx.ad e Zo];exact BB.low e I M⟩
   have QN:=iG be (BC.low hl LL LJ)
   have Vd:aR X be (.ptr b 1)=some (.Z B.at_):=zJ (cx.ad b (zy (b1 b aj).1)) bm
   have ea:aR X be (.ptr cI 1)=some (.Z (o:Int)):=by have:=BC.jn;unfold fI at this;rw[bS this];rfl
   cases ch:pj ax B.name with
   |none=>
    have U:(pB t ax o f B).1=lW (uv t f B) 23 B.at_:=by simp[pB,CT,rv,ch]
    rw[U]
    simp only[ZX]
    refine hT @t0 @t1 @QN @Vd ⟨?_⟩
    refine(uS (h:=be) aB mu BC.jn 23 B.at_).Zm ?_
    rintro aa bY cw ⟨rfl,BG,iU,oz⟩
    refine cV ⟨?_⟩
    exact⟨by first|trivial|rfl,Zo,BG,λe I M=>by rw[oz e M];exact BC.low e I M⟩
   |some W=>
    simp only[Z5,YL]
    by_cases Lo:o<=W
    ·have cJ:decide ((o:Int)<=(W:Int))=true:=zN
     have U:(pB t ax o f B).1=lW (uv t f B) 25 B.at_:=by simp[pB,CT,rv,ch,Lo]
     rw[U]
     refine ln @t0 @t1 @QN @Vd @ea @cJ ⟨?_⟩
     refine(uS (h:=be) aB mu BC.jn 25 B.at_).Zm ?_
     rintro aa bY cw ⟨rfl,BG,iU,oz⟩
     refine cV ⟨?_⟩
     exact⟨by first|trivial|rfl,Zo,BG,λe I M=>by rw[oz e M];exact BC.low e I M⟩
    ·have cJ:decide ((o:Int)<=(W:Int))=false:=zO
     have U:(pB t ax o f B).1=uv t f B:=by simp[pB,CT,rv,ch,Lo]
     rw[U]
     refine gV @t0 @t1 @QN @ea @cJ ⟨?_⟩
     exact⟨by first|trivial|rfl,BC⟩
  ·have d:decide (B.kind=25)=false:=by simp[rv]
   have U:(pB t ax o f B).1=uv t f B:=by simp[pB,CT,rv]
   rw[U]
   refine eW @t0 @a0 @d ⟨?_⟩
   exact⟨by first|trivial|rfl,BB⟩
end
def Je(t:bc->Option fJ)(ax:List Go.aS.Node)(o:Nat)(f:Int×Int)(B:bx):Int×Int:=th (pB t ax o) f B
section
variable{X:cn}{h:R ag}{j:Nat}
def aty(aB:dR X){P:Nat->Prop}{cI:Nat}{p dA cZ:z}{o:Nat}{t:bc->Option fJ}{ax:List Go.aS.Node}(aL:(q X).a6<=j)(mu:(q X).a6<=cI)(wX:cI<j)
 (b1:∀e,P e->e<j/\e≠cI)(aZ:wk X h P dA t)(bX:tp X h P ax p){f:Int×Int}(ay:fI X h cI p o dA cZ f){B:bx}{v:z}(bl:cm X h P B v):
 a7 X 44 [.ptr cI 0,v] h j (λaa S aq=>aa= .tuple []/\fI X S cI p o dA cZ (Je t ax o f B)/\j<=aq/\∀e,e<j->e≠cI->Z X S e=Z X h e) zK:=by
 refine zF aB (afZ X) ?_
 rw[af0]
 unfold Ue
 refine cV ⟨?_⟩
 refine e1 (λa1=>Z X a1 j=zC [.ptr cI 0] 1/\bD X h j a1 (j+1)) ⟨bv aL,dL⟩ ?_
 rintro a1 ⟨cb,b4⟩
 have Ro:∀e,P e->Z X a1 e=Z X h e:=λe F=>b4.ad e (b1 e F).1
 have bJ:aR X a1 (.ptr j 0)=some (.ptr cI 0):=by rw[bS cb];rfl
 refine(avB aB (pB t ax o) P (DE X a1 (j+1) cI p o dA cZ) 75 [] [.ptr j 0] (λs B v aT bk hg wZ=> ?_) (SizeOf.sizeOf B+1) B Zo f v a1 (j+1) ⟨Zi _,by unfold fI at*;rw[b4.ad cI wX];exact ay,λ_ _ _=>rfl⟩ (cm.ad Ro _ _ bl)).Zm ?_
 ·refine(atw aB Zo mu Zo Zo Zo bJ (λe F=>⟨zy (b1 e F).1,(b1 e F).2⟩) (aZ.ad (bh:=P) Ro (λ_ a=>a)) (bX.ad (bh:=P) Ro (λ_ a=>a)) hg wZ).Zm ?_
  rintro aa be bF ⟨rfl,ov⟩
  exact⟨rfl,ov,λe F=>by have:=b1 e F;rw[ov.low e Zo this.2,hg.low e Zo this.2]⟩
 ·rintro aa aT bk ⟨rfl,ov,_⟩
  refine cV ⟨?_⟩
  have:=ov.le
  exact⟨by first|trivial|rfl,ov.jn,Zo,λe I M=>by rw[ov.low e Zo M,b4.ad e I]⟩
end
def gq(g:Go.aS.Node):List (Int×ep):=(g.eh.map λd=>(1,d))++((g.out.map λd=>(2,d))++(g.loc.map λd=>(3,d)))
def hm(g:Go.aS.Node):Nat->List ep
 |0=>g.eh
 |1=>g.out
 |_=>g.loc
def s6(g:Go.aS.Node):Nat->Nat
 |0=>0
 |1=>g.eh.length
 |2=>g.eh.length+g.out.length
 |_=>g.eh.length+g.out.length+g.loc.length
def arY(g:Go.aS.Node){o:Nat}(aG:o<3):s6 g (o+1)=s6 g o+(hm g o).length:=by
 match o,aG with
 |0,_=>simp[s6,hm]
 |1,_=>rfl
 |2,_=>rfl
def Wr(g:Go.aS.Node):(gq g).length=s6 g 3:=by simp[gq,s6];omega
def ajQ(g:Go.aS.Node){o:Nat}(aG:o<3){W:Nat}{d:ep}(a:(hm g o)[W]? =some d):(gq g)[s6 g o+W]? =some (1+(o:Int),d):=by
 match o,aG,a with
 |0,_,a=>
  have bB:=(Zb.1 a).1
  simp only[hm]at a bB
  simp only[gq,s6,ZQ]
  rw[Z2 (by simpa using bB),Zw,a];rfl
 |1,_,a=>
  have bB:=(Zb.1 a).1
  simp only[hm]at a bB
  simp only[gq,s6]
  rw[ZF Zs,Zr,Nat.add_sub_cancel_left,Z2 (by simpa using bB),Zw,a];rfl
 |2,_,a=>
  simp only[hm]at a
  simp only[gq,s6]
  rw[ZF Zx,Zr,ZF Zx,Zr,show g.eh.length+g.out.length+W-g.eh.length-g.out.length=W by omega,Zw,a];rfl
section
variable{X:cn}{h S gx a1 aT:R ag}{j aq aP bk:Nat}
def apJ{C:aM}{k:Nat}{D m b:List z}{ai aw:bN}(a:x6 C k (D++m) h j ai aw):mx C (.func (.yield k) D b) m h j ai aw:=⟨a⟩
def ajP(aB:dR X){P:Nat->Prop}{g:Go.aS.Node}{ke k b0 cy cT:Nat}{c1 dn bf:z}(du:Nat->R ag->Nat->Prop)
 (I:ee X gx P b0 c1 8 (g.eh.map d6))(M:ee X gx P cy dn 8 (g.out.map d6))(ak:ee X gx P cT bf 8 (g.loc.map d6))
 (ct:aR X h (.ptr ke 2)=some c1)(a3:aR X h (.ptr ke 3)=some dn)(a4:aR X h (.ptr ke 4)=some bf)
 (Es:∀i h j,du i h j->(q X).a6<=j/\∀e,P e->Z X h e=Z X gx e)
 (KZ:∀i h j S aq,du i h j->bD X h j S aq->du i S aq)
 (U:∀i o d h j,(gq g)[i]? =some (o,d)->du i h j->x6 X k [.Z o, .agg (d6 d)] h j (λaa S aq=>aa= .zT/\du (i+1) S aq) zK)
 (a2:du 0 h j):a7 X 71 [.func (.yield k) [] [], .ptr ke 0] h j (λ_ S aq=>du (gq g).length S aq) zK:=by
 refine zF aB (agG X) ?_
 rw[agH]
 unfold UE
 have LQ:∀o,o<3->∃s b,[c1,dn,bf][o]? =some s/\ee X gx P b s 8 ((hm g o).map d6):=by
  intro o aG
  match o,aG with
  |0,_=>exact⟨c1,b0,rfl,I⟩
  |1,_=>exact⟨dn,cy,rfl,M⟩
  |2,_=>exact⟨bf,cT,rfl,ak⟩
 have ai7:=(lA I.len).1
 have aja:=(lA M.len).1
 have ww:=(lA ak.len).1
 have ip:fd [.aV, .aV, .aV] [(0,1,c1),(1,1,dn),(2,1,bf)]=some (.agg [c1,dn,bf]):=by
  simp[fd,tD,tE,nk,ai7,aja,ww]
 refine eW @ct @a3 @a4 ⟨?_⟩
 refine gm ip ?_
 refine cV ⟨?_⟩
 refine f6 (λm H S aQ=>∃(o:Nat),H.g 0=some (.func (.yield k) [] [])/\H.g 13=some (.agg [c1,dn,bf])/\H.g 14=some (.Z (o:Int))/\o+m=3/\du (s6 g o) S aQ)
  3 ⟨0,bC,bC,gC,Zo,a2⟩ ?_
 rintro m H aT bk ⟨o,t0,mJ,n0,aG,yF⟩
 cases m with
 |zero=>
  have d:decide ((o:Int)<3)=false:=zO
  refine dk @n0 @d ⟨?_⟩
  rw[Wr]
  have:o=3:=Zo
  subst this
  exact yF
 |succ m=>
  have d:decide ((o:Int)<3)=true:=zN
  obtain⟨s,b,aD,cW⟩:=LQ o Zo
  have d7:sV false 3 1 (.agg [c1,dn,bf]) (.Z (o:Int))=some s:=by
   have ak:Nat.blt o 3=true:=by simp[Nat.blt];omega
   simp only[sV,qT,ak,fj,kE,qj,Yc]
   exact aD
  have e3:=cW.len
  have kL:=cW.many
  rw[Zr]at e3 kL
  refine gV @n0 @mJ @d @d7 @e3 ⟨?_⟩
  refine f6 (λm H S aQ=>∃(W:Nat),H.g 0=some (.func (.yield k) [] [])/\H.g 13=some (.agg [c1,dn,bf])/\H.g 14=some (.Z (o:Int))/\H.g 3=some (.Z (o:Int))/\H.g 18=some s/\H.g 19=some (.Z ((hm g o).length:Int))/\H.g 20=some (.Z (W:Int))/\W+m=(hm g o).length/\du (s6 g o+W) S aQ)
   (hm g o).length ⟨0,aY t0,aY mJ,aY n0,bC,bC,bC,gC,Zo,yF⟩ ?_
  rintro eH cN be bF ⟨W,t0,mJ,n0,t3,iu,qZ,C6,bB,wS⟩
  cases eH with
  |zero=>
   have d:=zz W (hm g o).length
   have bA:=zD o
   refine gV @C6 @qZ @n0 @d @bA ⟨?_⟩
   refine⟨m,Zo,o+1,aY t0,aY mJ,bC,Zo, ?_⟩
   rw[arY g Zo]
   have:W=(hm g o).length:=Zo
   rw[<-this]
   exact wS
  |succ eH=>
   have d:=zA W (hm g o).length
   have bA:=zD W
   have cg:bg .add (.Z 1) (.Z (o:Int))=some (.Z (1+(o:Int))):=eO Zo Zo
   obtain⟨aH,aI⟩:=zB (hm g o) W
   obtain⟨yQ,aml⟩:=Es _ _ _ wS
   have w3:=cW.gZ W (by rw[Zr];omega)
   have fN:=(cW.ad aml).row (i:=W) (r:=d6 aH) Zd (by rw[Zw,aI];rfl)
   have kg:d6 aH=[.str aH.name, .Z aH.at_, .bool aH.ty.b, .bool aH.ty.s, .Z aH.ty.w, .str aH.on, .Z aH.fX, .bool aH.no]:=rfl
   rw[kg]at fN
   refine ln @C6 @qZ @iu @d @w3 @fN ⟨?_⟩
   generalize h7:bn X _ bF _=bU
   have er:Z X bU bF=zC [.str aH.name, .Z aH.at_, .bool aH.ty.b, .bool aH.ty.s, .Z aH.ty.w, .str aH.on, .Z aH.fX, .bool aH.no] 8:=by rw[<-h7,bv yQ];rfl
   have dz:bD X be bF bU (bF+1):=⟨Zo,λe F=>by rw[<-h7];exact zE⟩
   clear h7
   refine hT @t0 @t3 @cg (bS er) ⟨?_⟩
   refine apJ ((U _ _ _ _ _ (ajQ g Zo aI) (KZ _ _ _ _ _ wS dz)).mono ?_ (λ_ _ _ a=>False.elim a))
   rintro aa bY cw ⟨rfl,hL⟩
   refine dk @C6 @bA ⟨?_⟩
   exact⟨eH,Zo,W+1,aY t0,aY mJ,aY n0,aY t3,aY iu,aY qZ,bC,Zo,hL⟩
def Kz(aB:dR X){P:Nat->Prop}{g:Go.aS.Node}{n fg hc ke b0 cy cT:Nat}{c1 dn bf:z}{A bd:JN}{ai:fE}{B:Nat->fE}{r:fE}{aw:si}{H:da}(du:Nat->R ag->Nat->Prop)
 (aL:(q X).a6<=j)(dZ:fg<n)(dm:hc<n)(Qa:ke<j)
 (I:ee X h P b0 c1 8 (g.eh.map d6))(M:ee X h P cy dn 8 (g.out.map d6))(ak:ee X h P cT bf 8 (g.loc.map d6))
 (ct:aR X h (.ptr ke 2)=some c1)(a3:aR X h (.ptr ke 3)=some dn)(a4:aR X h (.ptr ke 4)=some bf)
 (Es:∀i S aQ,du i S aQ->j+2<=aQ/\∀e,P e->Z X S e=Z X h e)
 (KZ:∀i a1 aP aT bk,du i a1 aP->aP<=bk->(∀e,e<aP->e≠j+1->Z X aT e=Z X a1 e)->du i aT bk)
 (a2:∀S,bD X h j S (j+2)->du 0 S (j+2))
 (aoH:∀mk i o d a1 aP,(gq g)[i]? =some (o,d)->du i a1 aP->Z X a1 j=some (.deferred (some []))->Z X a1 (j+1)=some (mk .ready none)->
  r9 X A bd (j+1) mk (λaa S aQ=>aa= .zT/\du (i+1) S aQ/\Z X S j=some (.deferred (some []))/\Z X S (j+1)=some (mk .ready none)) zK (ac (ac H fg (.Z o)) hc (.agg (d6 d))) a1 aP)
 (BL:∀S aQ,du (gq g).length S aQ->Z X S j=some (.deferred (some []))->ai (uo H j) S aQ):
 CP X n (.func (.func 71) [] [.ptr ke 0]) [fg,hc] (r9 X A bd) ai B r aw H h j:=by
 refine⟨aL, ?_⟩
 intro mk H4
 refine VT (aB.none _ _ rfl) ?_
 generalize fG:bn X (bn X h j _) (j+1) _=a1
 have mr:Z X a1 j=some (.deferred (some [])):=by rw[<-fG,aK Zo Zo,bv aL]
 have h6:Z X a1 (j+1)=some (mk .ready none):=by rw[<-fG,bv Zo]
 have b4:bD X h j a1 (j+2):=⟨Zo,λe F=>by rw[<-fG];exact zE⟩
 clear fG
 have Xv:=a2 a1 b4
 obtain⟨_,vb⟩:=Es _ _ _ Xv
 refine(ajP (k:=j+1) aB (λi S aQ=>du i S aQ/\Z X S j=some (.deferred (some []))/\Z X S (j+1)=some (mk .ready none)) (I.ad vb) (M.ad vb) (ak.ad vb)
  (by rw[b4.fA _ _ Qa];exact ct) (by rw[b4.fA _ _ Qa];exact a3) (by rw[b4.fA _ _ Qa];exact a4)
  (λi S aQ a=> ?_) (λi a1 aP aT bk a bZ=> ?_) (λi o d a1 aP aE a=> ?_) ⟨Xv,mr,h6⟩).Zm ?_
 ·obtain⟨cH,cB⟩:=Es _ _ _ a.1
  exact⟨Zo,λe F=>by rw[cB e F,vb e F]⟩
 ·obtain⟨cH,cB⟩:=Es _ _ _ a.1
  exact⟨KZ _ _ _ _ _ a.1 bZ.le (λe F _=>bZ.ad e F),by rw[bZ.ad _ Zo];exact a.2.1,by rw[bZ.ad _ Zo];exact a.2.2⟩
 ·refine H4 _ _ _ _ _ a.2.2 ?_
  have bA:Nat.blt fg n=true:=by simp[Nat.blt];omega
  have cg:Nat.blt hc n=true:=by simp[Nat.blt];omega
  simp only[FM,bA,cg,fj]
  exact aoH mk i o d a1 aP aE a.1 a.2.1 a.2.2
 ·rintro aa aT bk ⟨yF,alk,alr⟩
  obtain⟨cH,cB⟩:=Es _ _ _ yF
  refine⟨.ready,none,Zs,alr, ?_⟩
  show ai _ _ _
  exact BL _ _ (KZ _ _ _ _ _ yF (Zi _) (λe F Io=>aK Zo Io)) (by rw[aK Zo Zo];exact alk)
end
def yv{α d8:Type}(st:d8->α->d8)(s:d8){k:List α}{i:Nat}{x:α}(a:k[i]? =some x):(k.take (i+1)).foldl st s=st ((k.take i).foldl st s) x:=by
 rw[YA,a,zs];rfl
def jp(s:(bc->Option Int)×(Int×Int))(x:Int×ep):(bc->Option Int)×(Int×Int):=
 (λw=>if w=x.2.name then some x.1 else s.1 w,if 0<(s.1 x.2.name).getD 0 then lW s.2 24 x.2.at_ else s.2)
def oj(t:bc->Option fJ)(f:Int×Int)(x:Int×ep):Int×Int:=if t x.2.on=none/\x.2.on≠[]then lW f 23 x.2.fX else f
def mq(t:bc->Option fJ)(g:Go.aS.Node)(f:Int×Int):Int×Int:=(gq g).foldl (oj t) ((gq g).foldl jp (λ_=>none,f)).2
section
variable{X:cn}{h S gx a1 aT:R ag}{j aq aP bk:Nat}
def Ky(aB:dR X){nm c1 dn bf ev:z}{D:z}(aL:(q X).a6<=j):
 a7 X 39 [.agg [nm,D,c1,dn,bf,ev]] h j (λaa S aq=>aa= .func (.func 71) [] [.ptr j 0]/\aq=j+1/\bD X h j S aq/\aR X S (.ptr j 2)=some c1/\aR X S (.ptr j 3)=some dn/\aR X S (.ptr j 4)=some bf) zK:=by
 refine zF aB (afN X) ?_
 rw[afO]
 unfold T9
 refine cV ⟨?_⟩
 exact⟨rfl,rfl,dL,by rw[bS (bv aL)];rfl,by rw[bS (bv aL)];rfl,by rw[bS (bv aL)];rfl⟩
structure ra(X:cn)(h2:R ag)(dM cI eK:Nat)(p:z)(o:Int)(dA cZ:z)(f:Int×Int)(Y:bc->Option Int)(h:R ag)(n:Nat):Prop where
 le:dM+2<=n
 jn:fI X h cI p o dA cZ f
 seen:n9 X h eK (nC Y)
 low:∀e,e<dM->e≠cI->e≠eK->Z X h e=Z X h2 e
def ra.ad{h2:R ag}{dM cI eK:Nat}{p dA cZ:z}{o:Int}{f:Int×Int}{Y:bc->Option Int}(a:ra X h2 dM cI eK p o dA cZ f Y a1 aP)(mu:cI<dM)(H1:eK<dM)(aL:aP<=bk)(aG:∀e,e<aP->e≠dM+1->Z X aT e=Z X a1 e):ra X h2 dM cI eK p o dA cZ f Y aT bk:=by
 have f8:=a.le
 refine⟨Zo, ?_,a.seen.ad (aG _ Zo Zo),λe I M ak=>by rw[aG e Zo Zo];exact a.low e I M ak⟩
 have:=a.jn
 unfold fI at*
 rw[aG _ Zo Zo];exact this
def ajp(aB:dR X){P:Nat->Prop}{cI:Nat}{p dA cZ:z}{o:Int}{t:bc->Option fJ}{g:Go.aS.Node}{row:List z}(aL:(q X).a6<=j)(mu:(q X).a6<=cI)(wX:cI<j)
 (b1:∀e,P e->e<j/\e≠cI)(aZ:wk X h P dA t){f:Int×Int}(ay:fI X h cI p o dA cZ f)(bX:qw X h P g row)(w4:True):
 a7 X 42 [.ptr cI 0, .agg row] h j (λaa S aq=>aa= .tuple []/\fI X S cI p o dA cZ (mq t g f)/\j<=aq/\∀e,e<j->e≠cI->Z X S e=Z X h e) zK:=by
 refine Kf (afV X) (aB.none _ _ rfl) ?_
 rw[afW]
 unfold Uc
 obtain⟨c1,dn,bf,ev,b0,cy,cT,fi,ba,rfl,oy,p4,p5,mv,fp⟩:=bX
 refine cV ⟨?_⟩
 refine e1 (λa1=>Z X a1 j=zC [.ptr cI 0] 1/\Z X a1 (j+1)=zC [.str g.name, .Z g.at_,c1,dn,bf,ev] 6
  /\Z X a1 (j+1+1)=some (.map [] 0)/\aR X a1 (.ptr (j+1+1+1) 0)=some (.map (j+1+1))/\bD X h j a1 (j+1+1+1+1)) ⟨by(first|assumption|(exact zP)|(simp(disch:=omega) only[bv,aK])),by(first|assumption|(exact zP)|(simp(disch:=omega) only[bv,aK])),by(first|assumption|(exact zP)|(simp(disch:=omega) only[bv,aK])),by rw[c6,bv Zo];rfl,dL⟩ ?_
 rintro a1 ⟨il,cb,b5,cG,b4⟩
 refine(Ky aB Zo).Zm ?_
 rintro aa aT bk ⟨rfl,rfl,cl,cB,dN,fx⟩
 have mY:bD X h j aT (j+1+1+1+1+1):=b4.trans cl
 have sW:∀e,P e->Z X aT e=Z X h e:=λe F=>mY.ad e (b1 e F).1
 rw[<-cl.ad _ Zo]at il cb b5
 rw[<-cl.fA _ _ Zo]at cG
 generalize an2:j+1+1+1+1+1=dM at*
 have Ex:fI X aT cI p o dA cZ f:=by unfold fI at*;rw[mY.ad cI wX];exact ay
 have p8:n9 X aT (j+1+1) (nC λ_=>none):=⟨[],0,b5,λ_=>rfl⟩
 refine gQ ?_
 refine Kz (P:=P) (g:=g) (b0:=b0) (cy:=cy) (cT:=cT) (c1:=c1) (dn:=dn) (bf:=bf) aB (λi S aQ=>ra X aT dM cI (j+1+1) p o dA cZ (((gq g).take i).foldl jp (λ_=>none,f)).2 (((gq g).take i).foldl jp (λ_=>none,f)).1 S aQ) Zo Zo Zo Zo
  (oy.ad sW) (p4.ad sW) (p5.ad sW) cB dN fx (λi S aQ a=>⟨a.le,λe F=>a.low e (zy (b1 e F).1) (b1 e F).2 (zy (b1 e F).1)⟩)
  (λi a1 aP aT bk a f8 aG=>a.ad Zo Zo f8 aG) (λS bZ=>⟨Zi _,by unfold fI at*;rw[bZ.ad _ Zo];exact Ex,p8.ad (bZ.ad _ Zo),λe F _ _=>bZ.ad e F⟩) ?_ ?_
 ·intro mk i eS d be bF aE hg mr h6
  rw[yv jp _ aE]
  generalize ((gq g).take i).foldl jp (λ_=>none,f)=bR at hg ⊢
  have f8:=hg.le
  have kg:d6 d=[.str d.name, .Z d.at_, .bool d.ty.b, .bool d.ty.s, .Z d.ty.w, .str d.on, .Z d.fX, .bool d.no]:=rfl
  rw[kg]
  unfold r9
  refine cV ⟨?_⟩
  generalize h7:bn X _ bF _=bU
  have er:Z X bU bF=zC [.str d.name, .Z d.at_, .bool d.ty.b, .bool d.ty.s, .Z d.ty.w, .str d.on, .Z d.fX, .bool d.no] 8:=by rw[<-h7,bv Zo];rfl
  have fb:∀e,e<bF->Z X bU e=Z X be e:=λe F=>by rw[<-h7];exact zE
  clear h7
  refine⟨by rw[fb _ Zo];exact h6, ?_⟩
  generalize jr:bn X bU (dM+1) _=bY
  have eV:Z X bY (dM+1)=some (mk .busy none):=by rw[<-jr,bv Zo]
  have eJ:∀e,e≠dM+1->Z X bY e=Z X bU e:=λe F=>by rw[<-jr,aK Zo F]
  clear jr
  have hL:=hg.ad (aT:=bY) (bk:=bF+1) Zo Zo Zo (λe I M=>by rw[eJ e M,fb e I])
  rw[<-eJ _ Zo]at er
  have tH:Z X bY dM=some (.deferred (some [])):=by rw[eJ _ Zo,fb _ Zo];exact mr
  have ci:aR X bY (.ptr j 0)=some (.ptr cI 0):=by rw[bS (show Z X bY j=_ by rw[hL.low _ Zo Zo Zo];exact il)];rfl
  have cT:aR X bY (.ptr (j+1+1+1) 0)=some (.map (j+1+1)):=zJ (hL.low _ Zo Zo Zo) cG
  have iF:my X bY 9 (.Z 0) (.map (j+1+1)) (.str d.name) false=some (.Z ((bR.1 d.name).getD 0)):=by
   rw[Cn hL.seen];unfold nC;cases bR.1 d.name<;>rfl
  refine gO @cT @iF (bS er) ⟨?_⟩
  refine gQ ?_
  refine gO @cT @iF (bS er) ⟨?_⟩
  refine jK (λcN S aQ=>cN.g 4=some (.ptr (j+1+1+1) 0)/\cN.g 6=some (.ptr bF 0)/\cN.g 5=some (.Z eS)/\ra X aT dM cI (j+1+1) p o dA cZ (jp bR (eS,d)).2 bR.1 S aQ/\bF+1<=aQ
   /\Z X S bF=zC [.str d.name, .Z d.at_, .bool d.ty.b, .bool d.ty.s, .Z d.ty.w, .str d.on, .Z d.fX, .bool d.no] 8/\Z X S dM=some (.deferred (some []))/\Z X S (dM+1)=some (mk .busy none)) (λW bB=> ?_) ?_
  ·by_cases aD:0<(bR.1 d.name).getD 0
   ·have aH:decide (0<(bR.1 d.name).getD 0)=true:=by simp[aD]
    refine eW @aH @ci (bS er) ⟨?_⟩
    refine(uS (h:=bY) aB mu hL.jn 24 d.at_).Zm ?_
    rintro aa ck dB ⟨rfl,amJ,qL,nJ⟩
    refine cV ⟨?_⟩
    refine bB _ _ _ ⟨bC,bC,bC,⟨Zo, ?_,hL.seen.ad (nJ _ Zo),λe I M ak=>by rw[nJ e M];exact hL.low e I M ak⟩,Zo,by rw[nJ _ Zo];exact er,by rw[nJ _ Zo];exact tH,by rw[nJ _ Zo];exact eV⟩
    unfold jp
    simp only[aD,ZE]
    exact amJ
   ·have aH:decide (0<(bR.1 d.name).getD 0)=false:=by simp[aD]
    refine cr @aH ⟨?_⟩
    refine bB _ _ _ ⟨bC,bC,bC,⟨Zo, ?_,hL.seen,hL.low⟩,Zo,er,tH,eV⟩
    unfold jp
    simp only[aD,ZD]
    exact hL.jn
  ·rintro cN ck dB ⟨t4,eZ,t5,iE,qL,d3,rt,alt⟩
   have Lr:=iE.le
   have Ba:aR X ck (.ptr (j+1+1+1) 0)=some (.map (j+1+1)):=zJ (iE.low _ Zo Zo Zo) cG
   show ca _ _
   refine gV @t4 @eZ @t5 @Ba (bS d3) ⟨?_⟩
   obtain⟨cC,uc,al2,qK⟩:=Ml (j:=dB) (show(q X).a6<=j+1+1 by omega) iE.seen d.name (.Z eS)
   refine mc uc ?_
   refine cV ⟨?_⟩
   refine⟨⟨.busy,none,by rw[qK _ Zo];exact alt⟩, ?_⟩
   have yK:fI X cC cI p o dA cZ (jp bR (eS,d)).2:=by have:=iE.jn;unfold fI at*;rw[qK cI Zo];exact this
   have al3:n9 X cC (j+1+1) (nC (jp bR (eS,d)).1):=by
    have:(λx=>if x=d.name then some (z.Z eS)else nC bR.1 x)=nC (jp bR (eS,d)).1:=by
     funext x;unfold nC jp;by_cases a:x=d.name<;>simp[a]
    rw[<-this];exact al2
   have qG:ra X aT dM cI (j+1+1) p o dA cZ (jp bR (eS,d)).2 (jp bR (eS,d)).1 cC dB:=⟨Lr,yK,al3,λe I M ak=>by rw[qK e ak];exact iE.low e I M ak⟩
   exact⟨rfl,qG.ad Zo Zo (Zi _) (λe I M=>aK Zo M),by rw[aK Zo Zo,qK _ Zo];exact rt,bv Zo⟩
 ·intro be bF hg mr
  rw[zi]at hg
  unfold mq
  generalize (gq g).foldl jp (λ_=>none,f)=bR at hg ⊢
  have f8:=hg.le
  have Ec:Z X be (j+1)=zC [.str g.name, .Z g.at_,c1,dn,bf,ev] 6:=by rw[hg.low _ Zo Zo Zo];exact cb
  refine cr (bS Ec) ⟨?_⟩
  refine(Ky aB Zo).Zm ?_
  rintro aa bU cP ⟨rfl,rfl,dz,cB,dN,fx⟩
  generalize EJ:bF+1=dH at*
  have tU:fI X bU cI p o dA cZ bR.2:=by have:=hg.jn;unfold fI at*;rw[dz.ad cI Zo];exact this
  have Ha:Z X bU dM=some (.deferred (some [])):=by rw[dz.ad _ Zo];exact mr
  have xn:∀e,P e->Z X bU e=Z X h e:=λe F=>by
   have:=b1 e F
   rw[dz.ad e Zo,hg.low e Zo this.2 Zo,sW e F]
  have ais:Z X bU j=zC [.ptr cI 0] 1:=by rw[dz.ad _ Zo,hg.low _ Zo Zo Zo];exact il
  refine gQ ?_
  refine Kz (P:=P) (g:=g) (b0:=b0) (cy:=cy) (cT:=cT) (c1:=c1) (dn:=dn) (bf:=bf) aB (λi S aQ=>ra X bU dH cI (j+1+1) p o dA cZ (((gq g).take i).foldl (oj t) bR.2) bR.1 S aQ) Zo Zo Zo Zo
   (oy.ad xn) (p4.ad xn) (p5.ad xn) cB dN fx (λi S aQ a=>⟨a.le,λe F=>a.low e (zy (b1 e F).1) (b1 e F).2 (zy (b1 e F).1)⟩)
   (λi a1 aP aT bk a f8 aG=>a.ad Zo Zo f8 aG) (λS bZ=>⟨Zi _,by unfold fI at*;rw[bZ.ad _ Zo];exact tU,(hg.seen.ad (dz.ad _ Zo)).ad (bZ.ad _ Zo),λe F _ _=>bZ.ad e F⟩) ?_ ?_
  ·intro mk i eS d bY cw aE hL tH als
   rw[yv (oj t) _ aE]
   generalize ((gq g).take i).foldl (oj t) bR.2=G at hL ⊢
   have iU:=hL.le
   have kg:d6 d=[.str d.name, .Z d.at_, .bool d.ty.b, .bool d.ty.s, .Z d.ty.w, .str d.on, .Z d.fX, .bool d.no]:=rfl
   rw[kg]
   unfold r9
   refine cV ⟨?_⟩
   generalize iS:bn X _ cw _=ck
   have d3:Z X ck cw=zC [.str d.name, .Z d.at_, .bool d.ty.b, .bool d.ty.s, .Z d.ty.w, .str d.on, .Z d.fX, .bool d.no] 8:=by rw[<-iS,bv Zo];rfl
   have et:∀e,e<cw->Z X ck e=Z X bY e:=λe F=>by rw[<-iS];exact zE
   clear iS
   refine⟨by rw[et _ Zo];exact als, ?_⟩
   generalize lo:bn X ck (dH+1) _=cC
   have eA:Z X cC (dH+1)=some (mk .busy none):=by rw[<-lo,bv Zo]
   have f5:∀e,e≠dH+1->Z X cC e=Z X ck e:=λe F=>by rw[<-lo,aK Zo F]
   clear lo
   have qG:=hL.ad (aT:=cC) (bk:=cw+1) Zo Zo Zo (λe I M=>by rw[f5 e M,et e I])
   rw[<-f5 _ Zo]at d3
   have sA:Z X cC dH=some (.deferred (some [])):=by rw[f5 _ Zo,et _ Zo];exact tH
   have ci:aR X cC (.ptr j 0)=some (.ptr cI 0):=by rw[bS (show Z X cC j=_ by rw[qG.low _ Zo Zo Zo];exact ais)];rfl
   have c4:aR X cC (.ptr cI 2)=some dA:=by have:=qG.jn;unfold fI at this;rw[bS this];rfl
   have jH:∀S aQ,ra X bU dH cI (j+1+1) p o dA cZ (oj t G (eS,d)) bR.1 S aQ->Z X S dH=some (.deferred (some []))->(z.bool true=z.bool true/\ra X bU dH cI (j+1+1) p o dA cZ (oj t G (eS,d)) bR.1 (bn X S (dH+1) (some (mk .ready none))) aQ/\Z X (bn X S (dH+1) (some (mk .ready none))) dH=some (.deferred (some []))/\Z X (bn X S (dH+1) (some (mk .ready none))) (dH+1)=some (mk .ready none)):=λS aQ a M=>
    ⟨rfl,a.ad Zo Zo (Zi _) (λe I M=>aK Zo M),by rw[aK Zo Zo];exact M,bv Zo⟩
   refine u1 ⟨?_⟩
   refine gQ ?_
   refine eW @ci @c4 (bS d3) ⟨?_⟩
   refine e1 (λdS=>Z X dS (cw+1+10)=zC [.Z 0, .str [], .Z 0, .zF, .zF, .Z 0, .str [], .Z 0, .zF, .Z 0, .Z 0] 11/\bD X cC (cw+1) dS (cw+1+10+1)) ⟨by rw[bv Zo];rfl,Zo,λe F=>zE⟩ ?_
   rintro dS ⟨h4,jY⟩
   refine(Pk (j:=cw+1+13) (h:=dS) aB Zo (aZ.ad (bh:=P) (λe F=>by have:=b1 e F;rw[jY.ad e Zo,qG.low e Zo this.2 Zo,xn e F]) (λ_ a=>a)) (λe F=>zy (b1 e F).1) d.on).Zm ?_
   rintro aa dD is ⟨rfl,mZ⟩
   have rJ:=mZ.le
   have ot:Z X dD (cw+1+10)=zC [.Z 0, .str [], .Z 0, .zF, .zF, .Z 0, .str [], .Z 0, .zF, .Z 0, .Z 0] 11:=by rw[mZ.ad _ Zo];exact h4
   generalize B4:(t d.on).getD v2=e0
   have ui:pI e0=[.Z e0.kind, .str e0.d.name, .Z e0.d.at_, .bool e0.d.ty.b, .bool e0.d.ty.s, .Z e0.d.ty.w, .str e0.d.on, .Z e0.d.fX, .bool e0.d.no, .Z e0.eq, .Z e0.left]:=rfl
   rw[ui]
   refine hy ⟨?_⟩
   refine hy ⟨?_⟩
   refine gm (j8 (o:=11) (b:=cw+1+10) (V:=0) (n:=11) ot Zo rfl Zd Zd rfl) ?_
   generalize vc:bn X dD (cw+1+10) _=h2
   have nd:∀e,e<cw+1->Z X h2 e=Z X cC e:=λe F=>by rw[<-vc,aK Zo Zo,mZ.ad e Zo,jY.ad e F]
   clear vc h4 ot
   have pk:ra X bU dH cI (j+1+1) p o dA cZ G bR.1 h2 is:=qG.ad Zo Zo Zo (λe I M=>nd e I)
   rw[<-nd _ Zo]at d3 eA sA
   have aiu:aR X h2 (.ptr j 0)=some (.ptr cI 0):=zJ (nd _ Zo) ci
   cases rH:(t d.on)with
   |some avy=>
    have qI:oj t G (eS,d)=G:=by unfold oj;rw[Zg (by simp[rH])]
    simp only[Z5]
    refine cV ⟨?_⟩
    rw[qI]at jH ⊢
    exact⟨⟨.busy,none,eA⟩,jH _ _ pk sA⟩
   |none=>
    simp only[ZX]
    by_cases pr:d.on=[]
    ·have qI:oj t G (eS,d)=G:=by unfold oj;rw[Zg (by simp[pr])]
     have aH:decide (d.on≠[])=false:=by simp[pr]
     refine dk (bS d3) @aH ⟨?_⟩
     rw[qI]at jH ⊢
     exact⟨⟨.busy,none,eA⟩,jH _ _ pk sA⟩
    ·have qI:oj t G (eS,d)=lW G 23 d.fX:=by unfold oj;rw[Zp ⟨rH,pr⟩]
     have aH:decide (d.on≠[])=true:=by simp[pr]
     refine eW (bS d3) @aH @aiu ⟨?_⟩
     refine(uS (h:=h2) aB mu pk.jn 23 d.fX).Zm ?_
     rintro aa ahC ary ⟨rfl,PZ,anH,oA⟩
     refine cV ⟨?_⟩
     rw[qI]at jH ⊢
     have anE:=pk.le
     exact⟨⟨.busy,none,by rw[oA _ Zo];exact eA⟩,jH _ _ ⟨Zo,PZ,pk.seen.ad (oA _ Zo),λe I M ak=>by rw[oA e M];exact pk.low e I M ak⟩ (by rw[oA _ Zo];exact sA)⟩
  ·intro bY cw hL tH
   rw[zi]at hL
   generalize (gq g).foldl (oj t) bR.2=G at hL ⊢
   have iU:=hL.le
   have aln:Z X bY dM=some (.deferred (some [])):=by rw[hL.low _ Zo Zo Zo];exact Ha
   show oW X [] _ _ _ _ _
   simp only[xp,vU,yd]
   refine⟨by show(q X).a6<=dH;omega,tH, ?_⟩
   refine⟨by show(q X).a6<=dM;omega,by rw[aK Zo Zo];exact aln, ?_⟩
   show qo _ _ _ _ _
   refine⟨rfl, ?_,Zo,λe I M=> ?_⟩
   ·have:=hL.jn
    unfold fI at*
    rw[aK Zo Zo,aK Zo Zo];exact this
   ·rw[aK Zo Zo,aK Zo Zo,hL.low e Zo M Zo,dz.ad e Zo,hg.low e Zo M Zo,mY.ad e I]
end
end
end Go.Proofs.YtbbkkkpgjaopkaaGreatDoor

