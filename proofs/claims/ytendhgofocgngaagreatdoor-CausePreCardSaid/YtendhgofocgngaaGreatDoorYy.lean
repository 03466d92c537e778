/- Part of the proof of the last text; no conditions -/
import Derived.Test.YtendhgofocgngaaGreatDoorYx
set_option maxHeartbeats 8000000
set_option linter.all false
namespace Go.Proofs.YtendhgofocgngaaGreatDoor
open Go.bn Go.aT
noncomputable section
def af5{C:aK}{h:S ai}{d8:Nat->Prop}{b aR:Nat}{bi:z}{bu:List (List z)}(a:iU C h d8 b bi aR bu)(aD:0<aR){i:Nat}{r fL:List z}(aA:bu[i]? =some r)(V:fL.length=aR)(H:hZ fL=true):
 ∃R,eI C h aR (.ptr b (i*aR)) (.agg fL)=some R/\iU C R d8 b bi aR (bu.set i fL)/\∀e,¬d8 e->Z C R e=Z C h e:=by
 have cK:bu≠[]:=λB=>by rw[B]at aA;simp at aA
 obtain⟨jx,aBk⟩:=Zb.1 aA
 obtain⟨a8,c,n,st,ah,aM,cX⟩:=a.wr cK
 have su:i*aR+aR<=n:=by
  have:(i+1)*aR<=bu.length*aR:=Nat.mul_le_mul_right aR jx
  rw[Z9]at this;omega
 have R5:=a.rd.ah cK
 have ej:(bu.set i fL).length=bu.length:=Y2
 have oh:∀(R:S ai) (aP:Nat) (ic:oS),Z C R b=some (.cells (dM c (i*aR) fL) aP ic)->dZ C R d8 b bi aR (bu.set i fL):=λR aP ic bS=>by
  refine⟨λ_=>R5,by rw[ej];exact a.rd.many,λal bP=> ?_,by rw[ej];exact a.rd.len,λo aC=>a.rd.gF o (by rw[ej]at aC;exact aC),λo al m w aC aZ=> ?_⟩
  ·rcases List.mem_or_eq_of_mem_set bP with bP|rfl
   ·exact a.rd.wide al bP
   ·exact V
  ·rw[bX bS,mT]
   rw[YD]at aC
   have SO:=(Zb.1 aZ).1
   by_cases SB:i=o
   ·subst SB
    simp only[ZC,jx]at aC
    cases aC
    rw[Zq ⟨Zo,Zo⟩,show i*aR+m-i*aR=m by omega];exact aZ
   ·rw[Zg SB]at aC
    have yq:=a.rd.wide al (Zn aC)
    have:=a.rd.cell o al m w aC aZ
    rw[bX ah]at this
    rw[Zg (λB=>SB ?_)]
    ·exact this
    ·have sy:m<aR:=Zo
     have bw:(o*aR+m)/aR=o:=by rw[Nat.add_comm,Nat.add_mul_div_right _ _ aD,Nat.div_eq_of_lt sy,ZF]
     have b3:(o*aR+m)/aR=i:=by
      obtain⟨cP,cG⟩:=B
      have:o*aR+m=(o*aR+m-i*aR)+i*aR:=Zo
      rw[this,Nat.add_mul_div_right _ _ aD,Nat.div_eq_of_lt Zo,ZF]
     omega
 have Bl:∀R,lJ C h b (i*aR) fL=some R->eI C h aR (.ptr b (i*aR)) (.agg fL)=some R:=λR a=>by
  have bw:Nat.beq (z.agg fL).cells.length aR=true:=by show Nat.beq fL.length aR=true;rw[V];exact YS _
  have b3:Nat.blt 0 aR=true:=by simp[Nat.blt];omega
  simp only[eI,bw,b3,Ye,eU];exact a
 have bw:Nat.ble (i*aR+fL.length) n=true:=jg Zo
 have b3:jI C b=true:=by simp[jI,jg a8]
 rcases cX with rfl|⟨et,rfl,ab4,mB⟩
 ·refine⟨bp C h b (some (.cells (dM c (i*aR) fL) n .own)),Bl _ ?_,⟨oh _ _ _ (bz a8),λ_=>⟨a8,_,_,_,bz a8,by rw[ej];exact aM, .inl rfl⟩⟩,λe D=>aJ a8 (λB=>D (B▸R5))⟩
  simp[lJ,ah,bw,b3,H,eR,gS]
 ·have sw:∀e,Z C (bp C (l1 C et h) b (some (.cells (dM c (i*aR) fL) n (.grow [])))) e=if e=b then some (.cells (dM c (i*aR) fL) n (.grow []))else Z C (l1 C et h) e:=λe=>e9 _ a8 e
  refine⟨bp C (l1 C et h) b (some (.cells (dM c (i*aR) fL) n (.grow []))),Bl _ ?_,⟨oh _ _ _ (by rw[sw,Zq rfl]),λ_=>⟨a8,_,_,_,by rw[sw,Zq rfl],by rw[ej];exact aM, .inr ⟨[],rfl,Zs,Zs⟩⟩⟩,λe D=> ?_⟩
  ·simp[lJ,ah,bw,b3,H,eR,gS]
  ·rw[sw,Zg (show ¬e=b from λB=>D (B▸R5)),aev _ _ _ (λx af=>(mB x af).2) (λaf=>D (mB e af).1)]
section
variable{X:co}{h R aU aQ:S ai}{j ap aL bc:Nat}{P:Nat->Prop}
def lG.rev{h:S ai}:∀{cf:List eo}{bu:List (List z)}{P:Nat->Prop},lG X h P cf bu->lG X h P cf.reverse bu.reverse:=by
 intro cf
 induction cf with
 |nil=>rintro bu P rfl;rfl
 |cons al cf ag=>
  rintro bu P ⟨row,hi,dK,rfl,bP,K,ak⟩
  rw[List.reverse_cons,List.reverse_cons]
  exact lG.snoc K (ag ak) (λe D=>D.1) (λe D=>⟨bP e D,λa=>a.2 D⟩)
end
section
variable{X:co}{h R aU aQ:S ai}{j ap aL bc b:Nat}{P bk:Nat->Prop}
def xv(k:List (List z))(i:Nat)(r:List (List z)):Prop:=r.length=k.length/\∀W,W<k.length->r[W]? =if W<i\/k.length-i<=W then k[k.length-1-W]? else k[W]?
def xv.zero(k:List (List z)):xv k 0 k:=⟨rfl,λW bx=>by rw[Zg Zo]⟩
def xv.done{k r:List (List z)}{i:Nat}(a:xv k i r)(aA:i=k.length/2):r=k.reverse:=by
 apply Y3
 intro W
 by_cases bx:W<k.length
 ·rw[a.2 W bx,List.getElem?_reverse bx]
  split
  ·rfl
  ·congr 1;omega
 ·rw[ZX (by rw[a.1];omega),ZX (by rw[List.length_reverse];omega)]
def xv.step{k r:List (List z)}{i:Nat}{E b:List z}(a:xv k i r)(aA:i<k.length/2)(aB:k[i]? =some E)(ah:k[k.length-1-i]? =some b):r[i]? =some E/\r[k.length-1-i]? =some b/\xv k (i+1) ((r.set i b).set (k.length-1-i) E):=by
 have H:=a.2 i Zo
 have K:=a.2 (k.length-1-i) Zo
 rw[Zg Zo]at H K
 refine⟨H.trans aB,K.trans ah,by rw[Y2,Y2];exact a.1,λW bx=> ?_⟩
 rw[YD,YD]
 by_cases bw:k.length-1-i=W
 ·subst bw
  rw[Zq rfl,Zq (by rw[Y2,a.1];exact bx),Zq Zo,show k.length-1-(k.length-1-i)=i by omega,aB]
 ·rw[Zg bw]
  by_cases b3:i=W
  ·subst b3
   rw[Zq rfl,Zq (by rw[a.1];exact bx),Zq Zo,ah]
  ·rw[Zg b3,a.2 W bx]
   by_cases er:W<i\/k.length-i<=W
   ·rw[Zq er,Zq Zo]
   ·rw[Zg er,Zg Zo]
set_option maxRecDepth 100000 in
def axP(az:dN X){d8:Nat->Prop}{bi:z}{kv:List (List z)}(a:iU X h d8 b bi 4 kv)(aS:∀r∈kv,hZ r=true):
 ba X 11 [bi] h j (λac R ap=>ac= .tuple []/\j<=ap/\iU X R d8 b bi 4 kv.reverse/\∀e,¬d8 e->Z X R e=Z X h e) (λ_ _ _=>False):=by
 refine zJ az (ahO X) ?_
 rw[ahP]
 unfold VY
 have e5:=a.rd.len
 have hX:=a.rd.many
 have mx:bm .sub (.int .i64 (kv.length:Int)) (.int .i64 1)=some (.int .i64 ((kv.length:Int) -1)):=tH Zo Zo
 refine dd @e5 @mx ⟨?_⟩
 refine fP (λm I R aP=>∃(i:Nat) (yW:List (List z)),I.g 0=some bi/\I.g 2=some (.int .i64 (i:Int))/\I.g 3=some (.int .i64 ((kv.length:Int) -1-(i:Int)))/\i+m=kv.length/2/\j<=aP/\xv kv i yW/\iU X R d8 b bi 4 yW/\∀e,¬d8 e->Z X R e=Z X h e)
  (kv.length/2) ⟨0,kv,bt,gc,by refine tl ⟨?_⟩;exact congrArg (λaG=>some (z.int .i64 aG)) (Int.sub_zero _).symm,Zo,Zh _,xv.zero _,a,λ_ _=>rfl⟩ ?_
 rintro m I r4 rr ⟨i,yW,t0,ei,t3,aA,arZ,adT,Bi,acO⟩
 cases m with
 |zero=>
  have d:decide ((i:Int)<((kv.length:Int) -1-(i:Int)))=false:=by simp only[Zc];omega
  have nN:=adT.done Zo
  subst nN
  refine ey @ei @t3 @d ⟨?_⟩
  exact⟨rfl,arZ,Bi,acO⟩
 |succ m=>
  have bx:(kv.length:Int) -1-(i:Int)=((kv.length-1-i:Nat):Int):=Zo
  rw[bx]at t3
  have d:=zE i (kv.length-1-i:Nat)
  have b3:bm .add (.int .i64 (i:Int)) (.int .i64 1)=some (.int .i64 ((i+1:Nat):Int)):=by rw[eG Zo Zo];rfl
  have er:bm .sub (.int .i64 ((kv.length-1-i:Nat):Int)) (.int .i64 1)=some (.int .i64 ((kv.length:Int) -1-((i+1:Nat):Int))):=by rw[tH Zo Zo,show(((kv.length-1-i:Nat):Int) -1)=(kv.length:Int) -1-((i+1:Nat):Int) by omega]
  obtain⟨OV,JP⟩:∃r,kv[i]? =some r:=⟨_,Ze Zo⟩
  obtain⟨yT,NM⟩:∃r,kv[kv.length-1-i]? =some r:=⟨_,Ze Zo⟩
  obtain⟨H,K,atd⟩:=adT.step Zo JP NM
  have atq:=Bi.rd.wide OV (Zn H)
  have atr:=Bi.rd.wide yT (Zn K)
  have Tz:=Bi.rd.gF i (Zb.1 H).1
  have atD:=Bi.rd.gF (kv.length-1-i) (Zb.1 K).1
  have yk:=Bi.rd.row Zd H
  have wA:=Bi.rd.row Zd K
  obtain⟨LB,Bl,asD,arv⟩:=af5 Bi Zd H atr (aS _ (Zn NM))
  have ak:(yW.set i yT)[kv.length-1-i]? =some yT:=by rw[YD,Zg Zo];exact K
  obtain⟨oR,wG,asE,arw⟩:=af5 asD Zd ak atq (aS _ (Zn JP))
  refine eD @ei @t3 @t0 @d @Tz @atD (Za @yk (Za @wA (Za @Bl (Za @wG (Za @b3 @er))))) ⟨?_⟩
  exact⟨m,Zo,i+1,_,a6 t0,bt,bt,Zo,Zo,atd,asE,λe D=>by rw[arw e D,arv e D];exact acO e D⟩
def Al(X:co)(h:S ai)(P:Nat->Prop)(v:z)(bH:List Int):Prop:=∃b,dZ X h P b v 1 (wK bH)
def Al.ad{v:z}{bH:List Int}(a:Al X h P v bH)(o:∀e,P e->Z X R e=Z X h e)(aw:∀e,P e->bk e):Al X R bk v bH:=a.imp λ_ a=>(a.ad o).lift aw
def Cl(X:co)(h:S ai)(P:Nat->Prop)(v:z)(jP:List (List Int)):Prop:=∃(b:Nat) (aY:List z),dZ X h P b v 1 (aY.map λv=>[v])/\aY.length=jP.length/\∀(i:Nat) v bH,aY[i]? =some v->jP[i]? =some bH->Al X h P v bH
def Cl.ad{v:z}{jP:List (List Int)}(a:Cl X h P v jP)(o:∀e,P e->Z X R e=Z X h e)(aw:∀e,P e->bk e):Cl X R bk v jP:=by
 obtain⟨b,aY,H,K,ak⟩:=a
 exact⟨b,aY,(H.ad o).lift aw,K,λi v bH E c=>(ak i v bH E c).ad o aw⟩
def an5(az:dN X){E c:z}{bH:List Int}(H:Al X h P E bH)(K:Al X h bk c bH):
 ba X 15 [E,c] h j (λac R ap=>ac= .bool true/\R=h/\j<=ap) (λ_ _ _=>False):=by
 refine zJ az (aiw X) ?_
 rw[aix]
 unfold Wi
 obtain⟨ch,H⟩:=H
 obtain⟨cD,K⟩:=K
 have aw:(wK bH).length=bH.length:=by simp[wK]
 have wB:=H.len
 have Jy:=K.len
 have hX:=H.many
 rw[aw]at wB Jy hX
 have mZ:decide ((bH.length:Int)≠(bH.length:Int))=false:=by simp
 refine ey @wB @Jy @mZ ⟨?_⟩
 refine fP (λm I R aP=>∃(W:Nat),I.g 0=some E/\I.g 1=some c/\I.g 12=some (.int .i64 (bH.length:Int))/\I.g 13=some (.int .i64 (W:Int))/\W+m=bH.length/\R=h/\j<=aP)
  bH.length ⟨0,bt,bt,bt,gc,Zo,rfl,Zh _⟩ ?_
 rintro m I aQ bc ⟨W,t0,t1,oG,kn,bx,rfl,lX⟩
 cases m with
 |zero=>
  have d:=zD W bH.length
  refine ey @kn @oG @d ⟨?_⟩
  exact⟨rfl,rfl,lX⟩
 |succ m=>
  have d:=zE W bH.length
  have bw:bm .add (.int .i64 (W:Int)) (.int .i64 1)=some (.int .i64 ((W+1:Nat):Int)):=by rw[eG Zo Zo];rfl
  obtain⟨aG,ce⟩:∃w,bH[W]? =some w:=⟨_,Ze Zo⟩
  have V:(wK bH)[W]? =some [.int .i64 aG]:=by rw[wK,Zv,ce];rfl
  have hD:=H.gF W Zo
  have gI:=K.gF W Zo
  have vB:=H.cell W _ 0 _ V rfl
  have vC:=K.cell W _ 0 _ V rfl
  rw[ZP]at hD gI
  rw[ZP,ZR]at vB vC
  have cE:decide (aG≠aG)=false:=by simp
  refine eD @kn @oG @t0 @t1 @d @hD (Za @gI (Za @vB (Za @vC (Za @cE @bw)))) ⟨?_⟩
  exact⟨m,Zo,W+1,a6 t0,a6 t1,a6 oG,bt,Zo,rfl,Zo⟩
def an4(az:dN X){E c:z}{jP:List (List Int)}(H:Cl X h P E jP)(K:Cl X h bk c jP):
 ba X 13 [E,c, .func (.func 14) [] []] h j (λac R ap=>ac= .bool true/\R=h/\j<=ap) (λ_ _ _=>False):=by
 refine zJ az (ah8 X) ?_
 rw[ah9]
 unfold Wa
 obtain⟨ch,aY,H,bo,tE⟩:=H
 obtain⟨cD,fT,K,bF,atx⟩:=K
 have wB:=H.len
 have Jy:=K.len
 have hX:=H.many
 rw[Zl,bo]at wB hX
 rw[Zl,bF]at Jy
 have mZ:decide ((jP.length:Int)≠(jP.length:Int))=false:=by simp
 refine ey @wB @Jy @mZ ⟨?_⟩
 refine fP (λm I R aP=>∃(W:Nat),I.g 1=some c/\I.g 2=some (.func (.func 14) [] [])/\I.g 15=some E/\I.g 16=some (.int .i64 (jP.length:Int))/\I.g 17=some (.int .i64 (W:Int))/\W+m=jP.length/\R=h/\j<=aP)
  jP.length ⟨0,bt,bt,bt,bt,gc,Zo,rfl,Zh _⟩ ?_
 rintro m I aQ bc ⟨W,t1,ei,w9,EK,y3,bx,rfl,lX⟩
 cases m with
 |zero=>
  have d:=zD W jP.length
  refine ey @y3 @EK @d ⟨?_⟩
  exact⟨rfl,rfl,lX⟩
 |succ m=>
  have d:=zE W jP.length
  have bw:bm .add (.int .i64 (W:Int)) (.int .i64 1)=some (.int .i64 ((W+1:Nat):Int)):=by rw[eG Zo Zo];rfl
  obtain⟨bH,ce⟩:∃w,jP[W]? =some w:=⟨_,Ze Zo⟩
  obtain⟨v,adV⟩:∃w,aY[W]? =some w:=⟨_,Ze Zo⟩
  obtain⟨w,adX⟩:=zF fT W
  obtain⟨hD,vB,_⟩:=H.one adV
  obtain⟨gI,vC,_⟩:=K.one adX
  refine eD @y3 @EK @w9 @t1 @ei @d (Za @hD (Za @gI (Za @vB @vC))) ⟨?_⟩
  refine ba.mono (aj:=λac R ap=>ac= .bool true/\R=aQ/\bc<=ap) (au:=λ_ _ _=>False) ?_ ?_ (λ_ _ _ a=>a.elim)
  ·show ba X 14 [v,w] aQ bc _ _
   refine zJ az (aik X) ?_
   rw[ail]
   unfold Wc
   refine(an5 az (tE W v bH adV ce) (atx W w bH adX ce)).Zm ?_
   intro ac R aP a
   exact a
  ·rintro ac br bL ⟨rfl,rfl,yl⟩
   refine dd @y3 @bw ⟨?_⟩
   exact⟨m,Zo,W+1,a6 t1,a6 ei,a6 w9,a6 EK,bt,Zo,rfl,Zo⟩
end
def avQ:∀(k:List (Int×eP)) (s:(aW->Option f1)×List aW) (w:aW),w∈(k.foldl kF s).2->w∈s.2\/∃x∈k,x.2.name=w:=by
 intro k
 induction k with
 |nil=>intro s w a;exact .inl a
 |cons x k ag=>
  intro s w a
  rw[ZZ]at a
  rcases ag _ w a with a|⟨e,D,B⟩
  ·unfold kF at a
   split at a
   ·exact .inl a
   ·rcases Zx.1 a with a|a
    ·exact .inl a
    ·exact .inr ⟨x,Zu ..,(YB.1 a).symm⟩
  ·exact .inr ⟨e,Zt _ D,B⟩
def afb:∀(k:List (Int×eP)) (s:(aW->Option f1)×List aW),s.2.length<=(k.foldl kF s).2.length/\(k.foldl kF s).2.length<=s.2.length+k.length:=by
 intro k
 induction k with
 |nil=>intro s;exact⟨Zh _,Zh _⟩
 |cons x k ag=>
  intro s
  rw[ZZ]
  obtain⟨H,K⟩:=ag (kF s x)
  have:s.2.length<=(kF s x).2.length/\(kF s x).2.length<=s.2.length+1:=by unfold kF;split<;>simp
  simp only[ZD]
  omega
def avP{g:Go.aT.Node}{w:aW}(a:w∈kC g):(g0 g w).isSome=true:=by
 rcases avQ (fO g) (λ_=>none,[]) w a with a|⟨x,af,B⟩
 ·cases a
 ·exact azq (ZB.2 ⟨x,af,B⟩)
def afa(g:Go.aT.Node):(kC g).length<=(fO g).length:=by
 have:=(afb (fO g) (λ_=>none,[])).2
 exact Zy this Zs
def avO{g:Go.aT.Node}(a:fO g≠[]):kC g≠[]:=by
 unfold kC mN
 cases aw:fO g with
 |nil=>exact absurd aw a
 |cons x k=>
  rw[ZZ]
  have H:=(afb k (kF (λ_=>none,[]) x)).1
  have K:(kF ((λ_=>none:aW->Option f1),([]:List aW)) x).2.length=1:=by unfold kF;simp
  intro B
  rw[B]at H
  simp only[ZY]at H
  omega
def aw0{d3:List aW}{o:Nat}{w:aW}(a:d3[o]? =some w):vn (d3.take (o+1))=λx=>if x=w then some o else vn (d3.take o) x:=by
 have aw:(d3.take o).length=o:=by rw[YM];have:=(Zb.1 a).1;omega
 unfold vn
 rw[Z3,a,Option.toList_some,List.zipIdx_append,Y7,aw,ZF]
 rfl
def Hj(d3:List aW):aW->Option z:=λw=>(vn d3 w).map λn=> .int .i64 (n:Int)
def O1(g:Go.aT.Node)(nm:aW):List Int:=(KV g nm).map Int.ofNat
def KG(g:Go.aT.Node):List (List Int):=(kC g).map λnm=>uq (ib (O1 g nm))
section
variable{X:co}{h R aU aQ:S ai}{j ap aL bc b:Nat}{P bk:Nat->Prop}
def alv{C:aK}{h:S ai}{s x:z}{k m:List z}{cw:List Nat}{o:Nat}{aj:bR}(a:f0 C h s 1 k cw)(af:jN C h 1 x=some (o,m))(aZ:m.length=o)(H:hZ m=true)(ah:k.length+m.length<=1048576)(aM:C.bf<=j)(cS:∀e∈cw,e<j)
 (de:∀e1 R ap gA,j<=ap->f0 C R e1 1 (k++m) gA->(∀e∈gA,(j<=e/\e<ap)\/e∈cw)->(∀e,e<j->e∉cw->Z C R e=Z C h e)->aj e1 R ap):iA (lK C h j 1 s x) h j aj:=by
 cases o with
 |zero=>
  have hX:m=[]:=Z5 aZ
  subst hX
  have bo:lK C h j 1 s x=some (.val s):=by
   simp only[lK,af]
   have mx:Nat.beq 0 0=true:=rfl
   rw[mx,eU]
   rcases a with (⟨rfl,_,_⟩|⟨b,et,n,c,rfl,K,rfl,ay,be,bV,c9⟩)|⟨b,n,c,st,rfl,K,rfl,ay,be,_⟩
   ·rfl
   ·have bw:Nat.beq 1 1=true:=rfl
    have b3:Nat.ble (0+n*1) (n*1)=true:=jg Zo
    simp only[Ay,bw,eU,tW,bV,b3]
   ·have b3:Nat.ble n n=true:=jg (Zh _)
    simp only[Ay,b3,eU]
  exact af9 bo (de s h j cw (Zh _) (by rw[Z0];exact a) (λe D=> .inr D) (λ_ _ _=>rfl))
 |succ o=>
  obtain⟨e1,R,gA,gU,g5,fM,aC⟩:=a.append (j:=j) Zd af Zo Zo H ah aM cS
  refine kl gU (de e1 R (j+1) gA Zo (.inl g5) (λe D=> ?_) (λe D a=>aC e Zo a))
  rcases fM e D with rfl|a
  ·exact .inl ⟨Zo,Zo⟩
  ·exact .inr a
def xq(X:co)(h:S ai)(bC aA:Nat)(s:z)(jP:List (List Int)):Prop:=∃(aY:List z) (cw:List Nat),f0 X h s 1 aY cw/\(∀e∈cw,bC<=e/\e<aA)/\aY.length=jP.length/\∀(i:Nat) v bH,aY[i]? =some v->jP[i]? =some bH->Al X h (λe=>bC<=e/\e<aA/\e∉cw) v bH
def xq.ad{bC:Nat}{s:z}{jP:List (List Int)}(a:xq X h bC aL s jP)(ge:aL<=bc)(aC:∀e,bC<=e->e<aL->Z X R e=Z X h e):xq X R bC bc s jP:=by
 obtain⟨aY,cw,H,K,ak,ay⟩:=a
 exact⟨aY,cw,H.ad λe D=>aC e (K e D).1 (K e D).2,λe D=>⟨(K e D).1,zC (K e D).2⟩,ak,λi v bH E c=>(ay i v bH E c).ad (λe D=>aC e D.1 D.2.1) (λe D=>⟨D.1,zC D.2.1,D.2.2⟩)⟩
def xq.done{bC:Nat}{s:z}{jP:List (List Int)}(a:xq X h bC aL s jP)(aZ:jP.length<=300000):Cl X h (λe=>bC<=e/\e<aL) s jP:=by
 obtain⟨aY,cw,H,K,ak,ay⟩:=a
 obtain⟨b,ah⟩:=H.B5 (P:=λe=>bC<=e/\e<aL) Zo K
 exact⟨b,aY,ah,ak,λi v bH E c=>(ay i v bH E c).ad (λ_ _=>rfl) (λe D=>⟨D.1,D.2.1⟩)⟩
def xq.snoc{bC aA:Nat}{s v:z}{jP:List (List Int)}{bH:List Int}(a:xq X h bC aA s jP)(bo:Al X h (λe=>aA<=e/\e<j) v bH)(ge:aA<=j)(a8:(q X).bf<=j)(l9:bC<=aA)(aZ:jP.length<=300000):
 ∀{x:z},jN X h 1 x=some (1,[v])->oA v=true->∃e1 R,lK X h j 1 s x=some (.e2 e1 R (j+1))/\xq X R bC (j+1) e1 (jP++[bH])/\∀e,e<j->(e<bC)->Z X R e=Z X h e:=by
 intro x af JJ
 obtain⟨aY,cw,H,K,ak,ay⟩:=a
 obtain⟨e1,R,gA,gU,g5,fM,aC⟩:=H.append (j:=j) Zd af rfl Zd (by simp[hZ,JJ]) (by simp;omega) a8 (λe D=>zC (K e D))
 refine⟨e1,R,gU,⟨aY++[v],gA, .inl g5,λe D=> ?_,by simp[ak],λi w fT bF aD=> ?_⟩,λe D cS=>aC e Zo (λa=>zC (K e a))⟩
 ·rcases fM e D with rfl|a
  ·exact⟨Zo,Zo⟩
  ·have:=K e a;omega
 ·by_cases aA:i<aY.length
  ·rw[ZO aA]at bF
   rw[ZO Zo]at aD
   refine(ay i w fT bF aD).ad (λe D=>aC e Zo D.2.2) (λe D=>⟨D.1,zC D.2.1,λa=> ?_⟩)
   rcases fM e a with rfl|a
   ·have:=D.2.1;omega
   ·exact D.2.2 a
  ·rw[ZG Zo]at bF aD
   have q6:i-aY.length=0:=by have:=(Zb.1 bF).1;simpa using this
   rw[q6]at bF
   rw[<-ak,q6]at aD
   cases bF
   cases aD
   refine bo.ad (λe D=>aC e Zo (λa=>zC (K e a))) (λe D=>⟨Zo,Zo,λa=> ?_⟩)
   rcases fM e a with rfl|a
   ·omega
   ·have:=K e a;omega
set_option maxRecDepth 100000 in
def afg(az:dN X){g:Go.aT.Node}{row:List z}(aM:(q X).bf<=j)(bW:∀e,P e->e<j)(bS:ps X h P g row)(aZ:(fO g).length<=100000)(cK:kC g≠[])(jA:∀al∈g.eqs,se al.right=true/\(iO [] al.right).length<=200000):
 ba X 12 [.agg row] h j (λac R ap=>Cl X R (du j ap) ac (KG g)/\bG X h j R ap) (λ_ _ _=>False):=by
 refine zJ az (ah4 X) ?_
 rw[ah5]
 unfold V2
 obtain⟨dk,dI,sW,eB,ch,cD,di,f4,kv,rfl,pE,q7,q8,m2,e0⟩:=id bS
 refine Ij ?_
 generalize fi:Go.bn.bp X h j _=aU
 have b4:Z X aU j=zG [.str g.name, .int .i64 g.at_,dk,dI,sW,eB] 6:=by rw[<-fi,bz aM];rfl
 have cb:bG X h j aU (j+1):=by rw[<-fi];exact dS
 clear fi
 have cO:ep X aU 6 (.ptr j 0)=some (.agg [.str g.name, .int .i64 g.at_,dk,dI,sW,eB]):=by rw[BB];simp only[bX b4];rfl
 refine cq @cO ⟨?_⟩
 refine(Uw (j:=j+1) az (P:=P) Zo (λe D=>zC (bW e D)) (bS.ad (R:=aU) (λe D=>cb.ad e (bW e D)) (λ_ a=>a)) Zo).Zm ?_
 rintro ac aQ bc ⟨dl,lf,bi,b,rfl,j4,uZ,a0,uG,bd,cR,cu⟩
 have gE:=cu.le
 obtain⟨d3,kS⟩:∃d3,d3=kC g:=⟨_,rfl⟩
 rw[<-kS]at cR cK
 have aBY:d3.length<=100000:=by rw[kS];have:=afa g;omega
 have JY:(f8 d3).length=d3.length:=by simp[f8]
 refine cY ⟨?_⟩
 generalize gk:Go.bn.bp X aQ bc _=br
 have abk:Z X br bc=some (.map [] 0):=by rw[<-gk,bz Zo]
 have cz:bG X aQ bc br (bc+1):=by rw[<-gk];exact dS
 clear gk
 refine(Ur (j:=bc+1) az (d3:=d3) (P:=du (j+1) bc) Zo (by rw[cz.fq _ _ j4.2];exact bd) (cR.ad λe D=>cz.ad e D.2) (λe D=>zC D.2) cK).Zm ?_
 rintro ac b0 cU ⟨⟨qP,Bg⟩,dz⟩
 have jy:=dz.le
 have acX:=Bg.len
 rw[JY]at acX
 have A1:bG X aU (j+1) b0 cU:=(cu.trans cz).trans dz
 refine cq @acX ⟨?_⟩
 refine fP (λm I R aP=>∃(o:Nat),I.g 1=some (.ptr j 0)/\I.g 3=some (.ptr dl 0)/\I.g 4=some (.map bc)/\I.g 22=some ac/\I.g 23=some (.int .i64 (d3.length:Int))/\I.g 24=some (.int .i64 (o:Int))/\o+m=d3.length/\cU<=aP/\nv X R bc (Hj (d3.take o))/\∀e,e≠bc->Z X R e=Z X b0 e)
  d3.length ⟨0,bt,bt,bt,bt,bt,gc,Zo,Zh _,⟨[],0,by rw[dz.ad _ Zo];exact abk,λ_=>rfl⟩,λ_ _=>rfl⟩ ?_
 rintro m I b5 cA ⟨o,t1,t3,t4,Vn,Pf,tX,aC,ac3,M0,lW⟩
 cases m with
 |succ m=>
  have d:=zE o d3.length
  have bw:bm .add (.int .i64 (o:Int)) (.int .i64 1)=some (.int .i64 ((o+1:Nat):Int)):=by rw[eG Zo Zo];rfl
  obtain⟨w,bF⟩:=zF d3 o
  have Bh:=Bg.ad (R:=b5) (λe D=>lW e (zC D.1))
  have dV:=Bh.gF o Zo
  have g4:=Bh.cell o [.str w] 0 (.str w) (by unfold f8;rw[Zv,bF];rfl) rfl
  rw[ZP]at dV
  rw[ZP,ZR]at g4
  obtain⟨cp,sz,abR,kz⟩:=KA (j:=cA) (show(q X).bf<=bc by omega) M0 w (.int .i64 (o:Int))
  refine eD @tX @Pf @Vn @t4 @d @dV @g4 ⟨?_⟩
  refine kl sz ?_
  refine dd @tX @bw ⟨?_⟩
  refine⟨m,Zo,o+1,a6 t1,a6 t3,a6 t4,a6 Vn,a6 Pf,bt,Zo,Zo, ?_,λe D=>by rw[kz e D,lW e D]⟩
  have:(λx=>if x=w then some (z.int .i64 (o:Int))else Hj (d3.take o) x)=Hj (d3.take (o+1)):=by
   funext x;unfold Hj;rw[aw0 bF];by_cases a:x=w<;>simp[a]
  rw[this]at abR
  exact abR
 |zero=>
 have d:=zD o d3.length
 rw[ZH Zo]at M0
 have DM:∀e,e<j+1->Z X b5 e=Z X aU e:=λe D=>by rw[lW e Zo,A1.ad e D]
 have Kg:∀e,e<bc->Z X b5 e=Z X aQ e:=λe D=>by rw[lW e Zo,dz.ad e Zo,cz.ad e D]
 refine hm @tX @Pf @d @t3 ⟨?_⟩
 refine(Ur (j:=cA) az (d3:=d3) (P:=du (j+1) bc) Zo (zN (Kg dl j4.2) bd) (cR.ad λe D=>Kg e D.2) (λe D=>zC D.2) cK).Zm ?_
 rintro xd ha dP ⟨⟨aAE,JP⟩,xZ⟩
 have aBA:=xZ.le
 have acZ:=JP.len
 rw[JY]at acZ
 have aoV:Z X ha j=zG [.str g.name, .int .i64 g.at_,dk,dI,sW,eB] 6:=by rw[xZ.ad j Zo,DM j Zo];exact b4
 have aq7:ps X ha P g [.str g.name, .int .i64 g.at_,dk,dI,sW,eB]:=bS.ad (λe D=>by have:=bW e D;rw[xZ.ad e Zo,DM e Zo];exact cb.ad e this) (λ_ a=>a)
 have aqg:vM X ha (du (j+1) bc) (.ptr dl 0) (g0 g):=⟨dl,lf,rfl,j4,uZ,by rw[da,xZ.ad dl (zC j4.2),Kg dl j4.2, <-da];exact a0,uG.ad (by rw[xZ.ad lf (zC uZ.2),Kg lf uZ.2])⟩
 have aqc:nv X ha bc (Hj d3):=M0.ad (xZ.ad bc Zo)
 have arK:∀e,e<j->Z X ha e=Z X h e:=λe D=>by rw[xZ.ad e Zo,DM e Zo,cb.ad e D]
 clear Bg M0 lW aC b4 cb cR a0 bd uG abk A1 DM Kg
 refine ey @acZ @t1 @t4 ⟨?_⟩
 refine fP (λm I R aP=>∃(o:Nat) (Ia:z),I.g 1=some (.ptr j 0)/\I.g 3=some (.ptr dl 0)/\I.g 4=some (.map bc)/\I.g 7=some Ia/\I.g 34=some xd/\I.g 35=some (.int .i64 (d3.length:Int))/\I.g 36=some (.int .i64 (o:Int))/\o+m=d3.length/\dP<=aP/\xq X R dP aP Ia ((d3.take o).map λnm=>uq (ib (O1 g nm)))/\∀e,e<dP->Z X R e=Z X ha e)
  d3.length ⟨0, .a2,a6 t1,a6 t3,a6 t4,bt,bt,bt,gc,Zo,Zh _,⟨[],[], .inl (.inl ⟨rfl,rfl,rfl⟩),Zs,rfl,Zs⟩,λ_ _=>rfl⟩ ?_
 clear t1 t3 t4 Vn Pf tX I
 rintro m I cp d2 ⟨o,Ia,t1,t3,t4,fC,tZ,sX,sY,aC,arY,R4,kz⟩
 cases m with
 |zero=>
  have d:=zD o d3.length
  rw[ZH Zo,kS]at R4
  refine hm @sY @sX @d @fC ⟨?_⟩
  refine⟨(R4.done (by rw[Zl, <-kS];omega)).ad (λ_ _=>rfl) (λe D=>⟨Zo,D.2⟩),Zo,λe D=>by rw[kz e Zo];exact arK e D⟩
 |succ m=>
  have d:=zE o d3.length
  have bw:bm .add (.int .i64 (o:Int)) (.int .i64 1)=some (.int .i64 ((o+1:Nat):Int)):=by rw[eG Zo Zo];rfl
  obtain⟨nm,gf⟩:∃w,d3[o]? =some w:=⟨_,Ze Zo⟩
  have mc:=JP.ad (R:=cp) (λe D=>kz e D.2)
  have dV:=mc.gF o Zo
  have g4:=mc.cell o [.str nm] 0 (.str nm) (by unfold f8;rw[Zv,gf];rfl) rfl
  rw[ZP]at dV
  rw[ZP,ZR]at g4
  have ar5:nm∈kC g:=by rw[<-kS];exact Zn gf
  obtain⟨v,bo⟩:=Option.isSome_iff_exists.1 (avP ar5)
  refine eD @sY @sX @tZ @t3 @d @dV @g4 ⟨?_⟩
  refine(MF (j:=d2) az Zo (aqg.ad (R:=cp) (λe D=>kz e (zC D.2)) (λ_ a=>a)) (λe D=>zC D.2) nm).Zm ?_
  rintro ac cH eh ⟨rfl,e3⟩
  have pF:=e3.le
  rw[bo]
  simp only[YL,Z6]
  have ri:pm v=[.int .i64 v.kind, .str v.d.name, .int .i64 v.d.at_, .bool v.d.ty.b, .bool v.d.ty.s, .int .i64 v.d.ty.w, .str v.d.on, .int .i64 v.d.f7, .bool v.d.no, .int .i64 v.eq, .int .i64 v.left]:=rfl
  rw[ri]
  refine rx ?_
  refine rx ?_
  refine s8 ?_
  generalize qe:Go.bn.bp X cH eh _=ea
  have iX:Z X ea eh=zG [.int .i64 0, .str [], .int .i64 0, .bool false, .bool false, .int .i64 0, .str [], .int .i64 0, .bool false, .int .i64 0, .int .i64 0] 11:=by rw[<-qe,bz Zo];rfl
  have h8:∀e,e<eh->Z X ea e=Z X cH e:=λe D=>by rw[<-qe,aJ Zo Zo]
  clear qe
  refine gr (km (o:=11) (b:=eh) (U:=0) (n:=11) iX Zo rfl Zd Zd rfl) ?_
  generalize tt:Go.bn.bp X ea eh _=eC
  have lr:Z X eC eh=zG [.int .i64 v.kind, .str v.d.name, .int .i64 v.d.at_, .bool v.d.ty.b, .bool v.d.ty.s, .int .i64 v.d.ty.w, .str v.d.on, .int .i64 v.d.f7, .bool v.d.no, .int .i64 v.eq, .int .i64 v.left] 11:=by rw[<-tt,bz Zo];rfl
  have hw:∀e,e<eh->Z X eC e=Z X cH e:=λe D=>by rw[<-tt,aJ Zo Zo,h8 e D]
  clear tt iX h8 ea
  refine qW (bX lr) ⟨?_⟩
  generalize RY:Go.bn.bp X eC (eh+1) _=n2
  have MD:Z X n2 (eh+1)=zG [.str v.d.on] 1:=by rw[<-RY,bz Zo]
  have qv:∀e,e<eh+1->Z X n2 e=Z X eC e:=λe D=>by rw[<-RY,aJ Zo Zo]
  clear RY
  rw[<-qv _ Zo]at lr
  have Kh:∀e,e<d2->Z X n2 e=Z X cp e:=λe D=>by rw[qv e Zo,hw e Zo,e3.ad e D]
  have M1:f0 X n2 (.slice (eh+1) 0 1 1) 1 [.str v.d.on] [eh+1]:= .inr ⟨eh+1,1,_, .own,rfl,rfl,rfl,MD,mF _,rfl,Zo⟩
  have arz:∀al∈g.eqs,(iO [] al.right).length<=200000:=λal bP=>(jA al bP).2
  apply aal (P:=λI R aP=>I.g 1=some (.ptr j 0)/\I.g 3=some (.ptr dl 0)/\I.g 4=some (.map bc)/\I.g 7=some Ia/\I.g 34=some xd/\I.g 35=some (.int .i64 (d3.length:Int))/\I.g 36=some (.int .i64 (o:Int))/\
   ∃(on:z) (cw:List Nat),I.g 12=some on/\f0 X R on 1 ((mh g nm).map .str) cw/\(∀e∈cw,d2<=e/\e<aP)/\d2<=aP/\∀e,e<d2->Z X R e=Z X cp e)
  ·intro de
   have ma:¬(0<=v.eq/\v.kind≠1)->mh g nm=[v.d.on]:=λa=>by unfold mh;rw[bo];simp only;rw[Zg a]
   by_cases dF:0<=v.eq
   ·have cI:decide (0<=v.eq)=true:=by simp[dF]
    by_cases dR:v.kind=1
    ·have cE:decide (v.kind≠1)=false:=by simp[dR]
     rw[cI]
     refine AV (bX lr) @cE ⟨?_⟩
     refine iw _ ?_ (λI h n a=>(de I h n a).out)
     intro wL kR
     refine cY ⟨?_⟩
     refine kR _ _ _ ⟨a6 t1,a6 t3,a6 t4,a6 fC,a6 tZ,a6 sX,a6 sY,_,[eh+1],gc,by rw[ma (λa=>a.2 dR)];exact M1,λe D=> ?_,Zo,Kh⟩
     rw[YB.1 D];omega
    ·have cE:decide (v.kind≠1)=true:=by simp[dR]
     obtain⟨GY,al,aaF,Q0,aAQ⟩:∃(GY:Nat) (al:eo),v.eq=GY/\g.eqs[GY]? =some al/\nm∈al.left:=by
      rcases Pl bo with ⟨B,_⟩|a
      ·omega
      ·exact a
     have o5:mh g nm=v.d.on::iO [] al.right:=by
      unfold mh
      rw[bo]
      simp only
      rw[Zq ⟨dF,dR⟩,aaF,Int.toNat_natCast,Q0]
     have aen:∀e,e<dP->Z X n2 e=Z X ha e:=λe D=>by rw[Kh e Zo,kz e D]
     obtain⟨aC2,aC5,aC1,agi,Qp,aAx,aAy,aAz,aAW,mx,_,_,_,acK,arp⟩:=aq7.ad (R:=n2) (bk:=P) (λe D=>aen e (zC (bW e D))) (λ_ a=>a)
     cases mx
     obtain⟨aCZ,JW,apY⟩:=arp.get GY al Q0
     obtain⟨ago,ayb,aAL,aAN,hy,rfl,_,_,Tf,_⟩:=apY
     have acH:=acK.gF GY (Zb.1 JW).1
     rw[<-aaF]at acH
     have asU:=acK.cell GY _ 3 hy JW rfl
     have C9:aV X n2 (.ptr j 5)=some eB:=by rw[da,aen j Zo, <-da,bX aoV];rfl
     rw[cI]
     refine AV (bX lr) @cE ⟨?_⟩
     refine iw _ ?_ (λI h n a=>(de I h n a).out)
     intro wL kR
     refine ht @t1 @C9 (bX lr) @acH @asU ⟨?_⟩
     obtain⟨ju,sx⟩:=jA al (Zn Q0)
     refine(awy (j:=eh+1+1) az Zo (λe D=>zC (bW e D)) Tf ju Zo).Zm ?_
     rintro aC8 pu Up ⟨⟨aAC,as6,aqx⟩,RL⟩
     have arA:=RL.le
     obtain⟨LX,lb⟩:=as6.B5 (P:=λe=>eh+1+1<=e/\e<Up) (by rw[Zl];omega) aqx
     have hY:=UM lb Zd
     rw[Mz,Zl,Zl]at hY
     refine alv (M1.ad (R:=pu) (λe D=>RL.ad e (by rw[YB.1 D];omega))) hY Zs ?_ (by simp;omega) Zo (λe D=>by rw[YB.1 D];omega) ?_
     ·exact(show ∀k:List aW,hZ (k.map z.str)=true from λk=>by
       induction k with
       |nil=>rfl
       |cons E k ag=>exact ag) _
     intro e1 XE avJ gA arB asW aqv arr
     refine kR _ _ _ ⟨a6 t1,a6 t3,a6 t4,a6 fC,a6 tZ,a6 sX,a6 sY,e1,gA,bt,by rw[o5];exact asW,λe D=> ?_,Zo,λe D=> ?_⟩
     ·rcases aqv e D with a|a
      ·omega
      ·rw[YB.1 a];omega
     ·rw[arr e Zo (λa=>zC (YB.1 a)),RL.ad e Zo];exact Kh e D
   ·have cI:decide (0<=v.eq)=false:=by simp;omega
    rw[cI]
    refine tm ⟨?_⟩
    refine iw _ ?_ (λI h n a=>(de I h n a).out)
    intro wL kR
    refine cY ⟨?_⟩
    refine kR _ _ _ ⟨a6 t1,a6 t3,a6 t4,a6 fC,a6 tZ,a6 sX,a6 sY,_,[eh+1],gc,by rw[ma (λa=>dF a.1)];exact M1,λe D=> ?_,Zo,Kh⟩
    rw[YB.1 D];omega
  have aB1:(mh g nm).length<=200001:=by
   unfold mh
   rw[bo]
   simp only
   rw[ZD]
   split
   ·split
    ·rename_i al bP
     have:=arz al (Zn bP)
     omega
    ·simp
   ·simp
  clear t1 t3 t4 fC tZ sX sY I M1 lr MD hw qv Kh e3 pF ri dV g4
  rintro I Lz wR ⟨t1,t3,t4,fC,tZ,sX,sY,on,aAD,oG,o5,aqy,arC,acN⟩
  obtain⟨aAG,ady⟩:=o5.B5 (P:=λe=>d2<=e/\e<wR) (by rw[Zl];omega) aqy
  have mB:(((mh g nm).map z.str).map λv=>[v]).length=(mh g nm).length:=by simp
  have ac0:=ady.len
  rw[mB]at ac0
  refine dd @oG @ac0 ⟨?_⟩
  refine fP (λm I R aP=>∃(W:Nat) (row:z) (bH:List Int) (cw:List Nat),I.g 1=some (.ptr j 0)/\I.g 3=some (.ptr dl 0)/\I.g 4=some (.map bc)/\I.g 7=some Ia/\I.g 34=some xd/\I.g 35=some (.int .i64 (d3.length:Int))/\I.g 36=some (.int .i64 (o:Int))/\
   I.g 13=some row/\I.g 68=some on/\I.g 69=some (.int .i64 ((mh g nm).length:Int))/\I.g 70=some (.int .i64 (W:Int))/\W+m=(mh g nm).length/\wR<=aP/\bH=(((mh g nm).take W).filterMap (vn d3)).map Int.ofNat/\bH.length<=W/\je X R row 1 (iu bH) cw/\(bH=[]->row= .a2)/\(∀e∈cw,wR<=e/\e<aP)/\∀e,e<wR->Z X R e=Z X Lz e)
   (mh g nm).length ⟨0, .a2,[],[],a6 t1,a6 t3,a6 t4,a6 fC,a6 tZ,a6 sX,a6 sY,bt,bt,bt,gc,Zo,Zh _,rfl,Zh _, .inl ⟨rfl,rfl,rfl⟩,λ_=>rfl,Zs,λ_ _=>rfl⟩ ?_
  clear t1 t3 t4 fC tZ sX sY oG I
  rintro e6 I r3 wS ⟨W,row,bH,cw,t1,t3,t4,fC,tZ,sX,sY,kn,B9,y6,Pj,bx,aBO,nO,Dz,g5,kA,fM,Jp⟩
  cases e6 with
  |succ e6=>
   have d:=zE W (mh g nm).length
   have b3:bm .add (.int .i64 (W:Int)) (.int .i64 1)=some (.int .i64 ((W+1:Nat):Int)):=by rw[eG Zo Zo];rfl
   obtain⟨w,bF⟩:=zF (mh g nm) W
   obtain⟨hD,gI,_⟩:=(ady.ad (R:=r3) (λe D=>Jp e D.2)).one (i:=W) (v:= .str w) (by rw[Zv,bF];rfl)
   have sx:=BG (aqc.ad (R:=r3) (by rw[Jp bc Zo,acN bc Zo,kz bc Zo])) (.int .i64 0) w true
   have j5:((mh g nm).take (W+1)).filterMap (vn d3)=((mh g nm).take W).filterMap (vn d3)++(vn d3 w).toList:=by
    rw[Z3,bF,List.filterMap_append]
    cases av:vn d3 w<;>simp[av]
   unfold Hj at sx
   cases av:vn d3 w with
   |none=>
    rw[av]at j5 sx
    have sx:l2 X r3 9 (.int .i64 0) (.map bc) (.str w) true=some (.tuple [.int .i64 0, .bool false]):=sx
    refine eD @Pj @y6 @B9 @t4 @d @hD (Za @gI (Za @sx @b3)) ⟨?_⟩
    exact⟨e6,Zo,W+1,row,bH,cw,a6 t1,a6 t3,a6 t4,a6 fC,a6 tZ,a6 sX,a6 sY,a6 kn,a6 B9,a6 y6,bt,Zo,Zo,by rw[j5,Option.toList_none,Z0];exact nO,Zo,g5,kA,fM,Jp⟩
   |some p=>
    rw[av]at j5 sx
    have sx:l2 X r3 9 (.int .i64 0) (.map bc) (.str w) true=some (.tuple [.int .i64 (p:Int), .bool true]):=sx
    refine eD @Pj @y6 @B9 @t4 @kn @d (Za @hD (Za @gI @sx)) ⟨?_⟩
    generalize RZ:Go.bn.bp X r3 wS _=vI
    have ano:Z X vI wS=zG [.int .i64 (p:Int)] 1:=by rw[<-RZ,bz Zo]
    have DM:∀e,e<wS->Z X vI e=Z X r3 e:=λe D=>by rw[<-RZ,aJ Zo Zo]
    clear RZ
    obtain⟨e1,s7,gA,gU,as3,aqw,SH⟩:=(f0.append (j:=wS+1) (.inl (g5.ad (R:=vI) (λe D=>DM e (fM e D).2))) Zd (qC ano (mF _) rfl _) rfl Zd rfl (by rw[tK];simp;omega) Zo (λe D=>zC (fM e D)))
    refine kl gU ?_
    refine dd @Pj @b3 ⟨?_⟩
    refine⟨e6,Zo,W+1,e1,bH++[(p:Int)],gA,a6 t1,a6 t3,a6 t4,a6 fC,a6 tZ,a6 sX,a6 sY,bt,a6 B9,a6 y6,bt,Zo,Zo,by rw[j5,Yo, <-nO];rfl,by simp;omega,by rw[show iu (bH++[(p:Int)])=iu bH++[.int .i64 (p:Int)] by simp[iu]];exact as3,λa=>by simp at a,λe D=> ?_,λe D=> ?_⟩
    ·rcases aqw e D with rfl|a
     ·omega
     ·have:=fM e a;omega
    ·rw[SH e Zo (λa=>zC (fM e a)),DM e Zo];exact Jp e D
  |zero=>
  have d:=zD W (mh g nm).length
  rw[ZH Zo,kS]at nO
  have nO:bH=O1 g nm:=nO
  obtain⟨vI,u0,ars,hJ⟩:=ayD g5 kA Zo
  refine hm @Pj @y6 @d @kn ⟨?_⟩
  refine⟨⟨vI,u0, ?_⟩⟩
  refine dd @kn @fC ⟨?_⟩
  refine(amD (P:=λe=>wR<=e/\e<wS) (s:=row) (bH:=ib bH) az ?_ (by rw[ED];omega)).Zm ?_
  ·rcases hJ with ⟨bw,b3⟩|⟨b,m0,ls,R9,M6⟩
   ·exact .inl ⟨bw,by rw[b3];rfl⟩
   ·exact .inr ⟨b,fM b m0,by rw[ED];exact ls,R9,λB=>M6 (Z5 (by rw[<-ED,B];rfl))⟩
  rintro t2 s7 Ha ⟨arD,⟨dw,yu⟩,SH⟩
  obtain⟨ya,asg,_⟩:=mH yu.len
  have as4:hz 1 [.a2] [(0,1,t2)] Ha=some (.slice Ha 0 1 1, .cells (S.ofList [t2] 0 .nil) 1 .own):=by unfold hz;rw[uy,ya];rfl
  refine tm ⟨?_⟩
  refine gr as4 ?_
  refine cY ⟨?_⟩
  generalize R0:Go.bn.bp X s7 Ha _=uk
  have anp:Z X uk Ha=zG [t2] 1:=by rw[<-R0,bz Zo]
  have aej:∀e,e<Ha->Z X uk e=Z X s7 e:=λe D=>by rw[<-R0,aJ Zo Zo]
  clear R0
  have aek:∀e,e<d2->Z X uk e=Z X cp e:=λe D=>by
   rw[aej e Zo,SH e (λa=>zC a.1),ars e (λa=>zC (fM e a)),Jp e Zo,acN e D]
  obtain⟨e1,As,gU,aqk,art⟩:=(R4.ad (R:=uk) (Zh _) (λe _ D=>aek e D)).snoc (j:=Ha+1) (v:=t2) (bH:=uq (ib bH)) ⟨dw,(yu.ad (R:=uk) (λe D=>aej e Zo)).lift (λe D=>Zo)⟩ Zo Zo Zo (by rw[Zl,YM];omega) (qC anp (mF _) rfl _) asg
  refine kl gU ?_
  refine dd @sY @bw ⟨?_⟩
  refine⟨m,Zo,o+1,e1,a6 t1,a6 t3,a6 t4,bt,a6 tZ,a6 sX,bt,Zo,Zo, ?_,λe D=>by rw[art e Zo D,aek e Zo];exact kz e D⟩
  rw[Z3,gf,Yo,Option.toList_some,List.map_singleton, <-nO]
  exact aqk
end
section
variable{X:co}{h R gn aU aQ:S ai}{j ap aL bc:Nat}{s:aW}
def HD(c:S z)(E b:z):(dM c 0 [E,b]).get 0=some E:=by rw[mT];simp
def HE(c:S z)(E b:z):(dM c 0 [E,b]).get 1=some b:=by rw[mT];simp
set_option maxRecDepth 100000 in
def amr(az:jd X)(cd:mo X)(eN:s4 X)(i1:Ak X){P:Nat->Prop}{aE:List Go.aT.Node}{v:z}(aM:(q X).bf<=j)(bS:ui X h P aE v)(bW:∀e,P e->e<j)(bF:∀g∈aE,r0 n3 g)(a8:aE≠[])(aw:rn aE=none):
 ba X 6 [v] h j (λac R ap=>ac= .agg [.Z (FI aE).1, .Z (FI aE).2]/\bG X h j R ap) (λ_ _ _=>False):=by
 refine zJ az.todN (aj6 X) ?_
 rw[aj7]
 unfold W5
 obtain⟨lu,la⟩:=T6 aw
 refine s8 ?_
 generalize fi:bp X h j _=aU
 have b4:∃c,Z X aU j=some (.cells c 2 .own):=⟨_,by rw[<-fi,bz aM];rfl⟩
 have cb:bG X h j aU (j+1):=by rw[<-fi];exact dS
 clear fi
 have vb:∀e,P e->Z X aU e=Z X h e:=λe D=>cb.ad e (bW e D)
 refine(aoG (j:=j+1) (h:=aU) az cd eN i1 Zo (bS.ad (bk:=P) vb (λ_ a=>a)) (λe D=>zC (bW e D)) bF a8 aw).Zm ?_
 rintro ac aQ bc ⟨rfl,cu⟩
 have gE:=cu.le
 rw[<-cu.ad _ Zo]at b4
 have nE:=cb.trans cu
 obtain⟨b,bi,cj,bu,rfl,ah,a0,cR,kS⟩:=id bS
 have oq:=kS.wide
 have e5:=cR.len
 rw[oq.1]at e5
 have gd:=bW b ah
 have aG:decide ((0:Int)≠0)=false:=rfl
 rw[<-nE.fq _ _ gd]at a0
 refine ey @aG @a0 @e5 ⟨?_⟩
 refine fP (λm I R aP=>∃(W:Nat),I.g 0=some (.ptr b 0)/\I.g 2=some (.ptr j 0)/\I.g 13=some bi/\I.g 14=some (.Z (aE.length:Int))/\I.g 15=some (.Z (W:Int))/\W+m=aE.length/\bG X h j R aP/\j<aP/\(∃c,Z X R j=some (.cells c 2 .own))/\FI aE=CB aE W (aE.drop W))
  aE.length ⟨0,bt,bt,bt,bt,gc,Zo,nE,Zo,b4,rfl⟩ ?_
 rintro m I br bL ⟨W,t0,ei,kn,oH,w9,bx,cz,yl,⟨g3,cM⟩,so⟩
 have jo:=cz.le
 cases m with
 |zero=>
  have d:=zD W aE.length
  rw[ZJ Zo]at so
  refine lT @w9 @oH @ei @d @HD @HE ⟨?_⟩
  refine⟨by rw[so];rfl, ?_⟩
  exact⟨Zo,λe D=>by rw[aJ Zo Zo];exact cz.ad e D⟩
 |succ m=>
  have d:=zE W aE.length
  have bw:=zH W
  obtain⟨g,wy⟩:=zF aE W
  have Ba:=Zn wy
  have aI:aE.drop W=g::aE.drop (W+1):=by
   obtain⟨af,D⟩:=Zb.1 wy
   rw[Zz af,D]
  rw[aI,CB]at so
  obtain⟨row,gg,mA⟩:=kS.get W g wy
  have tM:∀e,P e->Z X br e=Z X h e:=λe D=>cz.ad e (bW e D)
  have dV:=cR.gF W (by rw[oq.1];omega)
  have nN:=(cR.ad tM).row Zd gg
  have lb:=mA.hZ
  have JF:=mA
  obtain⟨dk,dI,nV,eB,ch,cD,di,f4,hi,rfl,_⟩:=mA
  refine lT @w9 @oH @kn @d @dV @nN ⟨?_⟩
  refine gr (km (o:=6) (b:=bL) (U:=0) (n:=6) (c:=S.ofList [.str [], .Z 0, .a2, .a2, .a2, .a2] 0 .nil) (bz Zo) Zo rfl Zd Zd lb) ?_
  generalize hV:bp X _ bL _=b0
  have eu:Z X b0 bL=zG [.str g.name, .Z g.at_,dk,dI,nV,eB] 6:=by rw[<-hV,bz Zo];rfl
  have fb:∀e,e<bL->Z X b0 e=Z X br e:=λe D=>by rw[<-hV];exact zI
  clear hV
  have dz:bG X h j b0 (bL+1):=⟨Zo,λe D=>by rw[fb e Zo];exact cz.ad e D⟩
  rw[<-fb _ Zo]at cM
  refine dd @t0 (bX eu) ⟨?_⟩
  refine(Uw (j:=bL+1) (h:=b0) az.todN Zo (λe D=>zC (bW e D)) (JF.ad (bk:=P) (λe D=>dz.ad e (bW e D)) (λ_ a=>a)) (by rw[aaH];have:=(la g Ba).vars;simp only[tR];omega)).Zm ?_
  rintro ac b5 cA ⟨dl,lf,vu,dj,rfl,j4,uZ,cP,cG,d4,fK,d1⟩
  have jz:=d1.le
  have apW:bG X h j b5 cA:=dz.trans (d1.rq Zo)
  rw[<-d1.ad _ Zo]at cM
  refine dd @t0 @w9 ⟨?_⟩
  generalize jw:bp X _ (cA+1) _=cp
  have eb:Z X cp (cA+1)=zG [.ptr b 0, .Z (W:Int), .ptr dl 0, .map cA, .Z 0, .Z 0] 6:=by rw[<-jw,bz Zo];rfl
  have eW:Z X cp cA=some (.map [] 0):=by rw[<-jw];simp(disch:=omega) only[aJ,bz]
  have eQ:bG X b5 cA cp (cA+1+1):=by rw[<-jw];exact dS
  clear jw
  have abF:bG X h j cp (cA+1+1):=apW.trans (eQ.rq Zo)
  rw[<-eQ.ad _ Zo]at cM
  have h6:∀e,(P e\/du (bL+1) cA e)->e<cA+1+1/\e≠cA+1/\e≠cA:=by
   rintro e (D|D)
   ·have:=bW e D;omega
   ·have:=D.2;omega
  refine(ams (j:=cA+1+1) (h:=cp) (P:=λe=>P e\/du (bL+1) cA e) (o:=W) (aE:=aE) (g:=g) (dl:= .ptr dl 0) az.todN Zo Zo Zo Zo Zo Zo h6
   (bS.ad (λe D=>abF.ad e (bW e D)) (λ_ a=> .inl a)) wy ⟨dl,lf,rfl, .inr j4, .inr uZ,by rw[eQ.fq _ _ (zC j4.2)];exact cP,cG.ad (eQ.ad _ uZ.2)⟩ eb ⟨[],0,eW,λ_=>rfl⟩).Zm ?_
  rintro ac cH eh ⟨rfl,A6,pF,ra⟩
  have e3:bG X h j cH eh:=⟨Zo,λe D=>by rw[ra e Zo Zo Zo];exact abF.ad e D⟩
  rw[<-ra _ Zo Zo Zo]at cM
  have nC:aV X cH (.ptr (cA+1) 4)=some (.Z (nb aE W g).1):=by unfold fU at A6;rw[bX A6];rfl
  have xP:aV X cH (.ptr (cA+1) 5)=some (.Z (nb aE W g).2):=by unfold fU at A6;rw[bX A6];rfl
  by_cases ce:(nb aE W g).1=0
  ·have CJ:decide ((nb aE W g).1≠0)=false:=by simp[ce]
   rw[Zg (by simp[ce])]at so
   refine hm @nC @CJ @w9 @bw ⟨?_⟩
   exact⟨m,Zo,W+1,a6 t0,a6 ei,a6 kn,a6 oH,bt,Zo,e3,Zo,⟨g3,cM⟩,so⟩
  ·have CJ:decide ((nb aE W g).1≠0)=true:=by simp[ce]
   rw[Zq ce]at so
   have yi:ep X cH 2 (.ptr (cA+1) 4)=some (.agg [.Z (nb aE W g).1, .Z (nb aE W g).2]):=by rw[sI,nC,xP];rfl
   refine lT @nC @CJ @yi @ei @HD @HE ⟨?_⟩
   refine⟨by rw[so], ?_⟩
   exact⟨Zo,λe D=>by rw[aJ Zo Zo];exact e3.ad e D⟩
end
end
end Go.Proofs.YtendhgofocgngaaGreatDoor

namespace Go.aT
mutual
def h0:bs->Nat
 | .mk _ _ _ _ _ _ args=>1+gO args
def gO:List bs->Nat
 |[]=>0
 |B::k=>h0 B+gO k
end
def agA:∀(k:List bs) (B:bs),gO (k++[B])=gO k+h0 B
 |[],B=>by rw[Yn,gO,gO,gO];omega
 |E::k,B=>by rw[zb,gO,gO,agA k B];omega
def c7{α:Type}(bk:α->List Tok->Prop)(x:ft α):Prop:=∀E bQ,x=some (.ok (E,bQ))->bk E bQ
section
variable{α en:Type}
def c7.none{bk:α->List Tok->Prop}:c7 bk none:=λ_ _ a=>by cases a
def c7.ok{bk:α->List Tok->Prop}{E:α}{k:List Tok}(al:bk E k):c7 bk (aT.ok E k):=λfu bQ B=>by cases B;exact al
def c7.bad{bk:α->List Tok->Prop}(E:Int):c7 bk (aT.bad E:ft α):=λfu bQ B=>by cases B
def c7.mono{bk mV:α->List Tok->Prop}{x:ft α}(a:c7 bk x)(o:∀E k,bk E k->mV E k):c7 mV x:=λE k B=>o E k (a E k B)
def c7.andThen{bk:α->List Tok->Prop}{mV:en->List Tok->Prop}{x:ft α}{f:α->List Tok->ft en}(a:c7 bk x)(o:∀E k,bk E k->c7 mV (f E k)):c7 mV (aT.andThen x f):=by
 unfold aT.andThen
 split
 ·exact c7.none
 ·exact λ_ _ B=>by cases B
 ·rename_i E k
  exact o E k (a E k rfl)
def nZ{s:aW}{k:List Tok}:c7 (λ_ bQ=>bQ.length+1=k.length) (dX s k):=by
 cases k with
 |nil=>exact c7.none
 |cons x k=>
  simp only[dX]
  split
  ·exact c7.ok rfl
  ·exact c7.bad _
def ve{o:Int}{k:List Tok}:c7 (λ_ bQ=>bQ.length+1=k.length) (il o k):=by
 cases k with
 |nil=>exact c7.none
 |cons x k=>
  simp only[il]
  split
  ·exact c7.ok rfl
  ·exact c7.bad _
def pV{s:aW}{k:List Tok}{f:Option Tok->List Tok->ft en}{bk:en->List Tok->Prop}(H:∀x bQ,bQ.length+1=k.length->c7 bk (f (some x) bQ))(K:c7 bk (f none k)):c7 bk (hM s k f):=by
 cases k with
 |nil=>exact c7.none
 |cons x k=>
  unfold hM kZ
  by_cases aD:gH x s=true
  ·simp only[aD,ZC];exact H x k rfl
  ·simp only[aD,ZA];exact K
def LS{k:List Tok}:∀(os:List (aW×Int)) B bQ,mX os k=some (B,bQ)->(B=Option.none/\bQ=k)\/(∃o E,B=some (.mk o E [] false dC 0 [])/\bQ.length+1=k.length):=by
 intro os
 induction os with
 |nil=>intro B bQ a7;cases a7;exact .inl ⟨rfl,rfl⟩
 |cons U os ag=>
  obtain⟨s,o⟩:=U
  intro B bQ a7
  cases k with
  |nil=>simp[mX,kZ]at a7
  |cons x k=>
   unfold mX kZ at a7
   by_cases aD:gH x s=true
   ·simp only[aD,ZC]at a7
    cases a7
    exact .inr ⟨_,_,rfl,rfl⟩
   ·simp only[aD,ZA]at a7
    exact ag B bQ a7
def jf(N:Nat)(B:bs)(k:List Tok):Prop:=h0 B+k.length<=N
def Cs(N:Nat)(a1:List bs)(k:List Tok):Prop:=gO a1+k.length<=N
def als:∀n:Nat,(∀o k,c7 (jf k.length) (level n o k))/\(∀o B k,c7 (jf (h0 B+k.length)) (m7 n o B k))/\(∀k,c7 (jf k.length) (shift n k))/\(∀B k,c7 (jf (h0 B+k.length)) (nj n B k))
 /\(∀o x B k,c7 (jf (h0 B+k.length+1)) (nk n o x B k))/\(∀k,c7 (jf k.length) (sR n k))/\(∀B k,c7 (jf (h0 B+k.length)) (l4 n B k))/\(∀k,c7 (jf k.length) (part n k))/\(∀k,c7 (Cs k.length) (list n k))/\(∀cg k,c7 (Cs (gO cg+k.length)) (m8 n cg k))
 /\(∀k,c7 (jf k.length) (kM n k))/\(∀k,c7 (jf k.length) (arrow n k)):=by
 intro n
 induction n with
 |zero=>
  refine⟨λo k=> ?_,λo B k=> ?_,λk=> ?_,λB k=> ?_,λo x B k=> ?_,λk=> ?_,λB k=> ?_,λk=> ?_,λk=> ?_,λcg k=> ?_,λk=> ?_,λk=> ?_⟩
  ·rw[level];exact c7.none
  ·rw[m7];exact c7.none
  ·rw[shift];exact c7.none
  ·rw[nj];exact c7.none
  ·rw[nk];exact c7.none
  ·rw[sR];exact c7.none
  ·rw[l4];exact c7.none
  ·rw[part];exact c7.none
  ·rw[list];exact c7.none
  ·rw[m8];exact c7.none
  ·rw[kM];exact c7.none
  ·rw[arrow];exact c7.none
 |succ n ag=>
  obtain⟨o8,i6,i3,i4,i5,hu,mD,i8,i9,J5,ad4,u7⟩:=ag
  refine⟨λo k=> ?_,λo B k=> ?_,λk=> ?_,λB k=> ?_,λo x B k=> ?_,λk=> ?_,λB k=> ?_,λk=> ?_,λk=> ?_,λcg k=> ?_,λk=> ?_,λk=> ?_⟩
  ·rw[level]
   split
   ·exact i3 k
   ·exact(o8 _ k).andThen λE cO a=>(i6 o E cO).mono λb b9 K=>Zy K a
  ·rw[m7]
   split
   ·exact c7.none
   ·rename_i cO ah
    rcases LS _ _ _ ah with ⟨_,rfl⟩|⟨_,_,a,_⟩
    ·exact c7.ok (Zh _)
    ·cases a
   ·rename_i U cO ah
    rcases LS _ _ _ ah with ⟨a,_⟩|⟨eA,fu,a,aw⟩
    ·cases a
    ·refine(o8 _ cO).andThen λr b9 K=> ?_
     unfold jf at K
     have aD:h0 (two U B r)=1+(h0 B+h0 r):=by unfold two;rw[h0,gO,gO,gO];omega
     split
     ·exact c7.ok (by unfold jf;omega)
     ·exact(i6 o _ b9).mono λb d9 ak=>by unfold jf at ak ⊢;omega
  ·rw[shift]
   exact(hu k).andThen λE cO a=>(i4 E cO).mono λb b9 K=>Zy K a
  ·rw[nj]
   refine pV (λx cO a=>(i5 19 x B cO).mono λb b9 K=>by unfold jf at K ⊢;omega) (pV (λx cO a=>(i5 20 x B cO).mono λb b9 K=>by unfold jf at K ⊢;omega) (c7.ok (Zh _)))
  ·rw[nk]
   refine ve.andThen λm cO a=> ?_
   split
   ·exact c7.bad _
   ·exact(i4 _ cO).mono λb b9 K=>by unfold jf at K ⊢;rw[h0,gO,gO]at K;omega
  ·rw[sR]
   split
   ·exact c7.none
   ·rename_i U cO ah
    rcases LS _ _ _ ah with ⟨a,_⟩|⟨eA,fu,a,aw⟩
    ·cases a
    ·exact(hu cO).andThen λE b9 K=>c7.ok (by unfold jf at K ⊢;rw[h0,gO,gO];omega)
   ·rename_i cO ah
    rcases LS _ _ _ ah with ⟨_,rfl⟩|⟨_,_,a,_⟩
    ·exact(i8 _).andThen λE b9 K=>(mD E b9).mono λb d9 ak=>Zy ak K
    ·cases a
  ·rw[l4]
   refine pV (λx cO a=>pV (λe b9 K=>ve.andThen λc d9 ak=>(mD _ d9).mono λb fI ay=> ?_) (ve.andThen λc d9 ak=>(mD _ d9).mono λb fI ay=> ?_)) (c7.ok (Zh _))
   ·unfold jf at ay ⊢;rw[h0,gO,gO]at ay;omega
   ·unfold jf at ay ⊢;rw[h0,gO,gO]at ay;omega
  ·cases k with
   |nil=>rw[part];exact c7.none
   |cons x k=>
    rw[part]
    have gj:(x::k).length=k.length+1:=rfl
    split
    ·exact c7.ok (by unfold jf;rw[h0,gO];omega)
    split
    ·exact c7.ok (by unfold jf;rw[h0,gO];omega)
    split
    ·refine pV (λe cO a=>(i9 cO).andThen λcg b9 K=>c7.ok ?_) (c7.ok ?_)
     ·unfold Cs at K;unfold jf;rw[h0];omega
     ·unfold jf;rw[h0,gO];omega
    split
    ·exact nZ.andThen λ_ cO H=>(u7 cO).andThen λB b9 K=>nZ.andThen λ_ d9 ak=>c7.ok (by unfold jf at K ⊢;rw[h0,gO,gO];omega)
    split
    ·exact(u7 k).andThen λB b9 K=>nZ.andThen λ_ d9 ak=>c7.ok (by unfold jf at K ⊢;omega)
    split
    ·exact(u7 k).andThen λc cO H=>nZ.andThen λ_ b9 K=>(u7 b9).andThen λE d9 ak=>nZ.andThen λ_ fI ay=>(u7 fI).andThen λb fA be=>c7.ok (by unfold jf at H ak be ⊢;rw[h0,gO,gO,gO,gO];omega)
    split
    ·exact ve.andThen λc cO H=>(i8 cO).andThen λE b9 K=>(i8 b9).andThen λb d9 ak=>c7.ok (by unfold jf at K ak ⊢;rw[h0,gO,gO,gO];omega)
    ·exact c7.bad _
  ·rw[list]
   refine pV (λe cO a=>c7.ok (by unfold Cs;rw[gO];omega)) ((u7 k).andThen λB cO H=>(J5 [B] cO).mono λcg b9 K=> ?_)
   unfold Cs at K ⊢;unfold jf at H;rw[gO,gO]at K;omega
  ·rw[m8]
   refine pV (λe cO a=>(u7 cO).andThen λB b9 K=>(J5 _ b9).mono λcj d9 ak=> ?_) (nZ.andThen λ_ cO H=>c7.ok ?_)
   ·unfold Cs at ak ⊢;unfold jf at K;rw[agA]at ak;omega
   ·unfold Cs;omega
  ·rw[kM]
   refine(o8 0 k).andThen λE cO H=>pV (λx b9 K=> ?_) (c7.ok H)
   cases sK E with
   |none=>exact c7.none
   |some al=>
    cases al with
    |false=>exact c7.bad _
    |true=>exact(ad4 b9).andThen λr d9 ak=>c7.ok (by unfold jf at H ak ⊢;rw[h0,gO,gO,gO];omega)
  ·rw[arrow]
   exact(ad4 k).andThen λE cO H=>pV (λx b9 K=>(u7 b9).andThen λr d9 ak=>c7.ok (by unfold jf at H ak ⊢;rw[h0,gO,gO,gO];omega)) (c7.ok H)
end
end Go.aT

namespace Go.aT
def afe{N:Nat}:∀(n:Nat) (lm k:List Tok),k.length<=N->c7 (λ_ bQ=>bQ.length<=N) (pe n lm k):=by
 intro n
 induction n with
 |zero=>intro lm k _;rw[pe];exact c7.none
 |succ n ag=>
  intro lm k aw
  rw[pe]
  exact ve.andThen λx cO H=>pV (λe b9 K=>ag _ b9 Zo) (c7.ok Zo)
def QS{N:Nat}{loc:Bool}:∀(n:Nat) (ds:List eP) (k:List Tok),k.length<=N->c7 (λ_ bQ=>bQ.length<=N) (hQ n loc ds k):=by
 intro n
 induction n with
 |zero=>intro ds k _;rw[hQ];exact c7.none
 |succ n ag=>
  intro ds k aw
  rw[hQ]
  refine(afe n [] k aw).andThen λci cO H=> ?_
  unfold AN
  refine nZ.andThen λ_ b9 K=>ve.andThen λt d9 ak=> ?_
  have MS:∀(ds:List eP) (k:List Tok),k.length<=N->c7 (λ_ bQ=>bQ.length<=N) (uu loc (hQ n loc) ds k):=by
   intro ds k aw
   have aI:(k.drop 1).length<=N:=by rw[Yp];omega
   unfold uu
   split
   ·exact c7.none
   ·split
    ·split
     ·split
      ·exact c7.none
      ·split
       ·exact c7.ok aw
       ·exact ag _ _ aI
     ·exact ag _ _ aI
    ·exact c7.ok aw
  have C8:∀(w:Option Tok) (k:List Tok),k.length<=N->c7 (λ_ bQ=>bQ.length<=N) (vX w k):=by
   intro w k aw
   unfold vX
   split
   ·exact c7.ok aw
   ·exact pV (λe fI ay=>ve.andThen λx fA be=>c7.ok Zo) (ve.andThen λx fA be=>c7.ok Zo)
  exact pV (λw fI ay=>(C8 _ fI Zo).andThen λr fA be=>MS _ _ be) ((C8 _ _ Zo).andThen λr fA be=>MS _ _ be)
def anW{N:Nat}(n:Nat){k:List Tok}(aw:k.length<=N):c7 (λal bQ=>h0 al.right<=N/\bQ.length<=N) (sd n k):=by
 have qp:∀(ci:List Tok) (k:List Tok),k.length<=N->c7 (λal bQ=>h0 al.right<=N/\bQ.length<=N) (andThen (dX [61] k) λB k=>andThen (arrow n k) λr k=>andThen (dX [59] k) λ_ k=>ok (⟨ci.map Tok.text,ci.map Tok.at_,B.at_,r⟩:eo) k):=by
  intro ci k aw
  refine nZ.andThen λB b9 K=>((als n).2.2.2.2.2.2.2.2.2.2.2 b9).andThen λr d9 ak=>nZ.andThen λ_ fI ay=>c7.ok ?_
  unfold jf at ak
  exact⟨by show h0 r<=N;omega,Zo⟩
 unfold sd
 refine pV (λe b9 K=> ?_) ?_
 ·refine c7.andThen (bk:=λ_ bQ=>bQ.length<=N) ?_ qp
  exact ve.andThen λx d9 ak=>nZ.andThen λ_ fI ay=>(afe (N:=N) n [x] fI Zo).andThen λci fA be=>nZ.andThen λ_ ly bV=>c7.ok Zo
 ·refine c7.andThen (bk:=λ_ bQ=>bQ.length<=N) ?_ qp
  exact ve.andThen λx d9 ak=>c7.ok Zo
def an2{N:Nat}:∀(n:Nat) (cf:List eo) (k:List Tok),k.length<=N->(∀al∈cf,h0 al.right<=N)->c7 (λcf bQ=>(∀al∈cf,h0 al.right<=N)/\bQ.length<=N) (kf n cf k):=by
 intro n
 induction n with
 |zero=>intro cf k _ _;rw[kf];exact c7.none
 |succ n ag=>
  intro cf k aw bP
  rw[kf]
  refine pV (λe b9 K=>c7.ok ⟨bP,Zo⟩) ((anW n aw).andThen λal b9 K=>ag _ b9 K.2 λl3 a=> ?_)
  rcases Zx.1 a with a|a
  ·exact bP l3 a
  ·simp at a;subst a;exact K.1
def av9{N:Nat}(n:Nat){k:List Tok}(aw:k.length<=N):c7 (λg bQ=>(∀al∈g.eqs,h0 al.right<=N)/\bQ.length<=N) (node n k):=by
 unfold node
 refine nZ.andThen λ_ cO H=>ve.andThen λx b9 K=>nZ.andThen λ_ d9 ak=> ?_
 have Jt:∀(es out loc:List eP) (k:List Tok),k.length<=N->c7 (λg bQ=>(∀al∈g.eqs,h0 al.right<=N)/\bQ.length<=N) (andThen (dX [108,101,116] k) λ_ k=>andThen (kf n [] k) λcf k=>ok (⟨x.text,x.at_,es,out,loc,cf⟩:Node) k):=by
  intro es out loc k aw
  exact nZ.andThen λ_ fA be=>(an2 (N:=N) n [] fA Zo (λ_ a=>by cases a)).andThen λcf ly bV=>c7.ok bV
 have qp:∀(es:List eP) (k:List Tok),k.length<=N->c7 (λg bQ=>(∀al∈g.eqs,h0 al.right<=N)/\bQ.length<=N) (andThen (dX [114,101,116,117,114,110,115] k) λ_ k=>andThen (dX [40] k) λ_ k=>andThen (hQ n false [] k) λout k=>andThen (dX [41] k) λ_ k=>
  hM [118,97,114] k λe k=>andThen (match e with
   |some _=>andThen (hQ n true [] k) λds k=>andThen (dX [59] k) λ_ k=>ok ds k
   |none=>ok [] k) λloc k=>
  andThen (dX [108,101,116] k) λ_ k=>andThen (kf n [] k) λcf k=>ok (⟨x.text,x.at_,es,out,loc,cf⟩:Node) k):=by
  intro es k aw
  refine nZ.andThen λ_ fI ay=>nZ.andThen λ_ fA be=>(QS (N:=N) n [] fA Zo).andThen λout ly bV=>nZ.andThen λ_ lz c9=> ?_
  refine pV (λe m6 eg=> ?_) ?_
  ·exact c7.andThen (bk:=λ_ bQ=>bQ.length<=N) ((QS (N:=N) n [] m6 Zo).andThen λds rk hI=>nZ.andThen λ_ auz kO=>c7.ok Zo) λloc k a=>Jt es out loc k a
  ·exact c7.andThen (bk:=λ_ bQ=>bQ.length<=N) (c7.ok Zo) λloc k a=>Jt es out loc k a
 refine pV (λe fI ay=> ?_) ?_
 ·exact c7.andThen (bk:=λ_ bQ=>bQ.length<=N) (c7.ok Zo) qp
 ·exact c7.andThen (bk:=λ_ bQ=>bQ.length<=N) ((QS (N:=N) n [] _ Zo).andThen λds k bV=>nZ.andThen λ_ lz c9=>c7.ok Zo) qp
def awc{N:Nat}:∀(n:Nat) (aE:List Node) (k:List Tok),k.length<=N->(∀g∈aE,∀al∈g.eqs,h0 al.right<=N)->c7 (λaE _=>∀g∈aE,∀al∈g.eqs,h0 al.right<=N) (nodes n aE k):=by
 intro n
 induction n with
 |zero=>intro aE k _ _;rw[nodes];exact c7.none
 |succ n ag=>
  intro aE k aw bS
  rw[nodes]
  refine(av9 n aw).andThen λg b9 K=> ?_
  have Jj:∀CT∈aE++[g],∀al∈CT.eqs,h0 al.right<=N:=by
   intro CT a
   rcases Zx.1 a with a|a
   ·exact bS CT a
   ·simp at a;subst a;exact K.1
  split
  ·exact c7.none
  ·split
   ·exact c7.ok Jj
   ·exact ag _ _ K.2 Jj
end Go.aT
namespace Go.Proofs.YtendhgofocgngaaGreatDoor
open Go.bn Go.aT
def awQ{s:aW}{aE:List Go.aT.Node}(a:w0 s= .ok aE):∀g∈aE,∀al∈g.eqs,h0 al.right<=s.length+1:=by
 unfold w0 at a
 split at a
 ·rename_i r V
  subst a
  unfold yQ at V
  split at V
  ·cases V
  ·cases V
  ·rename_i aO bh
   have ej:=Vv s _ _ _ _ Zs (FD s _ _ Zo) bh
   split at V
   ·cases V
   ·cases V
   ·rename_i iZ k aM
    have H:=awc (N:=s.length+1) _ _ _ ej (λ_ a=>by cases a) _ _ aM
    split at V
    ·cases V
    ·cases V
     exact H
 ·cases a
end Go.Proofs.YtendhgofocgngaaGreatDoor

namespace Go.Proofs.YtendhgofocgngaaGreatDoor
open Go.bn Go.aT
noncomputable section
mutual
def ag4{bv:iH}:∀{B:bs},fl bv B->se B=true
 | .mk o E nm no ty n args,a=>by
   rw[fl]at a
   rw[se,ag5 a.2,Y9]
   by_cases aC:o=21
   ·have:=a.1.Fz 2 (by show r9 o=_;rw[aC];rfl)
    cases args with
    |nil=>cases this
    |cons x k=>simp
   ·simp[aC]
def ag5{bv:iH}:∀{k:List bs},f2 bv k->qV k=true
 |[],_=>rfl
 |E::k,a=>by rw[f2]at a;rw[qV,ag4 a.1,ag5 a.2];rfl
end
def aaU(aG:aW)(k:List bs):qV (k.map λ_=>lE aG)=true:=by
 induction k with
 |nil=>rfl
 |cons E k ag=>
  rw[ZE,qV,ag]
  rfl
mutual
def Rb(aG:aW):∀(B:bs),se B=true->se (n8 aG B)=true
 | .mk o E nm no ty n args,a=>by
   rw[se,Zp]at a
   rw[n8,se,Zp]
   refine⟨?_, ?_⟩
   ·by_cases aC:o=21
    ·cases args with
     |nil=>simp[aC]at a
     |cons x k=>simp[aC,FL]
    ·simp[aC]
   ·split
    ·exact aaU aG args
    ·split
     ·cases args with
      |nil=>rfl
      |cons x k=>
       rw[qV,Zp]at a
       rw[FL,qV,Rb aG x a.2.1,aaU aG k];rfl
     ·exact aaS aG args a.2
def aaS(aG:aW):∀(k:List bs),qV k=true->qV (xH aG k)=true
 |[],a=>rfl
 |E::k,a=>by
  rw[qV,Zp]at a
  rw[xH,qV,Rb aG E a.1,aaS aG k a.2];rfl
end
mutual
def aeS:∀(B:bs) (k:List aW),(iO k B).length<=k.length+h0 B
 | .mk o E nm no ty n args,k=>by
   rw[iO,h0]
   split
   ·omega
   ·have:=aeT args (decide (o=21)) (if BO o=true then vN k nm else k)
    have K:(if BO o=true then vN k nm else k).length<=k.length+1:=by
     split
     ·unfold vN;split<;>simp
     ·omega
    omega
def aeT:∀(b9:List bs) (f:Bool) (k:List aW),(oy k f b9).length<=k.length+gO b9
 |[],f,k=>by rw[oy];omega
 |E::b9,f,k=>by
  rw[oy,gO]
  have H:=aeS E k
  split
  ·omega
  ·have K:=aeT b9 f (iO k E)
   omega
end
def avU{aE:List Go.aT.Node}{o:Nat}{g:Go.aT.Node}(a:(nb aE o g).1=0)(aG:aW):KG (us aG g)=KG g:=by
 unfold KG O1
 rw[show kC (us aG g)=kC g from rfl]
 exact Yq λnm _=>by rw[ax0 a]
section
variable{X:co}{h R aU aQ:S ai}{j ap aL bc b:Nat}{P bk:Nat->Prop}
def lG.grow{h:S ai}:∀{cf:List eo}{bu:List (List z)}{P:Nat->Prop},lG X h P cf bu->∀(i:Nat) al,cf[i]? =some al->∃row dK,bu[i]? =some row/\(∀e,dK e->P e)/\rV X h dK al row/\
 ∀(R:S ai) l3 (N:Nat->Prop),(∀e,P e->¬dK e->Z X R e=Z X h e)->(∀e,N e->¬P e)->rV X R (λe=>dK e\/N e) l3 row->lG X R (λe=>P e\/N e) (cf.set i l3) bu:=by
 intro cf
 induction cf with
 |nil=>intro bu P _ i al a;simp at a
 |cons E cf ag=>
  rintro bu P ⟨row,hi,dK,rfl,bP,K,ak⟩ i al aA
  cases i with
  |zero=>
   simp at aA;subst aA
   exact⟨row,dK,rfl,bP,K,λR l3 N aC fX a7=>⟨row,hi,λe=>dK e\/N e,rfl,λe D=>D.imp (bP e) id,a7,ak.ad (λe D=>aC e D.1 D.2) (λe D=>⟨.inl D.1,λa=>a.elim D.2 (λa=>fX e a D.1)⟩)⟩⟩
  |succ i=>
   simp at aA
   obtain⟨w,bk,ay,be,bV,c9⟩:=ag ak i al aA
   refine⟨w,bk,by simpa using ay,λe D=>(be e D).1,bV,λR l3 N aC fX a7=>⟨row,hi,dK,rfl,λe D=> .inl (bP e D),K.ad (λe D=>aC e (bP e D) (λh6=>(be e h6).2 D)) (λ_ a=>a),(c9 R l3 N (λe D aM=>aC e D.1 aM) (λe D a=>fX e D a.1) a7).ad (λ_ _=>rfl) (λe D=> ?_)⟩⟩
   rcases D with a|a
   ·exact⟨.inl a.1,a.2⟩
   ·exact⟨.inr a,λV=>fX e a (bP e V)⟩
def rV.grow{al:eo}{row:List z}(a:rV X h P al row)(bW:∀e,P e->e<aL):∃(bi jE hy:z) (d8:Nat->Prop),row=[bi,jE, .int .i64 al.at_,hy]/\(∀e,d8 e->P e)/\cm X h d8 al.right hy/\
 ∀(bc:Nat) (R:S ai) fy,(∀e,P e->¬d8 e->Z X R e=Z X h e)->cm X R (λe=>d8 e\/du aL bc e) fy hy->rV X R (λe=>P e\/du aL bc e) ⟨al.left,al.cL,al.at_,fy⟩ row:=by
 obtain⟨aj,bi,jE,ch,cD,hy,rfl,K,ak,ay,be⟩:=a
 refine⟨bi,jE,hy,λe=>P e/\aj e=0,rfl,λe D=>D.1,ay,λbc R fy aC a7=>⟨λe=>if e<aL then aj e else 0,bi,jE,ch,cD,hy,rfl,(K.ad λe D=>aC e D.1 (λa=>by have:=a.2;have:=D.2;omega)).lift λe D=>⟨.inl D.1,(Zq (bW e D.1)).trans D.2⟩,(ak.ad λe D=>aC e D.1 (λa=>by have:=a.2;have:=D.2;omega)).lift λe D=>⟨.inl D.1,(Zq (bW e D.1)).trans D.2⟩,cm.lift (λe D=> ?_) _ _ a7,be⟩⟩
 rcases D with a|a
 ·exact⟨.inl a.1,(Zq (bW e a.1)).trans a.2⟩
 ·exact⟨.inr a,Zg (zC a.1)⟩
def an3:∀{cf:List eo}{bu:List (List z)}{P:Nat->Prop},lG X h P cf bu->∀r∈bu,hZ r=true:=by
 intro cf
 induction cf with
 |nil=>rintro bu P rfl r a;cases a
 |cons E cf ag=>
  rintro bu P ⟨row,hi,dK,rfl,bP,K,ak⟩ r V
  rcases Zr.1 V with rfl|V
  ·obtain⟨_,_,_,_,_,_,_,_,_,_,a⟩:=K;exact a
  ·exact ag ak r V
def axD(E b:Nat)(ah:0<b)(aB:E<1000000)(ls:b<1000000):bm .rem (.int .i64 (E:Int)) (.int .i64 (b:Int))=some (.int .i64 ((E%b:Nat):Int)):=by
 have H:tJ (b:Int) 0=false:=by rw[yB];simp;omega
 have ak:(E:Int).tmod (b:Int)=((E%b:Nat):Int):=by rw[Int.tmod_eq_emod_of_nonneg Zo];rfl
 have cS:=zq E ah
 have ay:oK .i64 ((E%b:Nat):Int)=((E%b:Nat):Int):=wrap64 Zo Zo
 simp[bm,lo,lv,lx,eR,H,ak,o9,kT,ay]
 omega
def Pa{v w:z}(a:eT v=some w)(n:Nat):z.same (n+1) v v=true:=by
 cases v with
 |slice b U n c=>simp[z.same]
 |el b U n c=>simp[z.same]
 |a2=>rfl
 |_=>simp[eT]at a
def ax1{dk dI sW eB hC nr agW Pr:z}{nm:aW}{n:Int}(H:eT dk=some hC)(K:eT dI=some nr)(ak:eT sW=some agW)(ay:eT eB=some Pr):z.same 30 (.agg [.str nm, .int .i64 n,dk,dI,sW,eB]) (.agg [.str nm, .int .i64 n,dk,dI,sW,eB])=true:=by
 have B:z.same 29 (.int .i64 n) (.int .i64 n)=true:=by simp only[z.same,yB];simp[lx]
 have b3:z.same 29 (.str nm) (.str nm)=true:=by simp[z.same,BM]
 have cP:=Pa H 28
 have cG:=Pa K 28
 have d4:=Pa ak 28
 have fK:=Pa ay 28
 rw[z.same]
 simp only[pK,B,b3,cP,cG,d4,fK,Ye]
end
end
end Go.Proofs.YtendhgofocgngaaGreatDoor

