/- Part of the proof of the last text; no conditions -/
import Derived.Test.YtendhgofocgngaaGreatDoorYm
set_option maxHeartbeats 8000000
set_option linter.all false
namespace Go.Proofs.YtendhgofocgngaaGreatDoor
open Go.bn Go.aT
noncomputable section
structure iG(X:co)(h:S ai)(j aH bM:Nat)(aO:List Tok)(i:Nat):Prop where
 bf:(q X).bf<=j
 ck:(q X).bf<=aH
 hp:aH<j
 gY:bM<j
 many:aO.length<=300000
 par:aT X h aH bM aO i
def iG.go{X:co}{h R:S ai}{j ap aH bM i cC:Nat}{aO:List Tok}(a:iG X h j aH bM aO i)(av:aT X R aH bM aO cC)(aM:j<=ap):iG X R ap aH bM aO cC:=
 ⟨Zy a.bf aM,a.ck,ZN a.hp aM,ZN a.gY aM,a.many,av⟩
def du(E b:Nat):Nat->Prop:=λe=>E<=e/\e<b
def xQ(o E:Int):z:= .iface 26 (.agg [.Z o, .Z E])
def jV(X:co)(aH bM:Nat)(aO:List Tok)(h:S ai)(j:Nat)(r:Except Int (bs×List Tok)):bR:=λac R ap=>
 ∃B cC,r= .ok (B,aO.drop cC)/\cm X R (du j ap) B ac/\aT X R aH bM aO cC/\cx X [aH] h j R ap
def iT{α:Type}(X:co)(aH:Nat)(h:S ai)(j:Nat)(r:Except Int α):bR:=λac R ap=>
 ∃E,r= .error E/\ac=xQ 21 E/\cx X [aH] h j R ap
def vG(X:co):Prop:=8<X.bf/\∀h o,o<5->∃b bi,aV X h (.ptr 8 o)=some bi/\dZ X h (λe=>e<X.bf) b bi 2 ((ao o).map λU=>[.str U.1, .Z U.2])
section
variable{X:co}{h R aU aQ:S ai}{j ap aL bc aH bM:Nat}{aO:List Tok}{i:Nat}
def iT.of{α en:Type}{gn:S ai}{afr:Nat}{r:Except Int α}{fL:Except Int en}{ac:z}(a:iT X aH aU aL r ac R ap)(gq:cx X [aH] gn afr aU aL)(V:∀E,r= .error E->fL= .error E):iT X aH gn afr fL ac R ap:=by
 obtain⟨E,H,K,ak⟩:=a
 exact⟨E,V E H,K,gq.trans ak⟩
def cm.fr{E b:Nat}{B:bs}{v:z}(a:cm X h (du E b) B v)(gq:cx X [aH] h aL R ap)(ah:b<=aL)(av:aH<E){fu dw:Nat}(H:fu<=E)(K:b<=dw):cm X R (du fu dw) B v:=
 cm.lift (λe D=>⟨Zy H D.1,ZN D.2 K⟩) _ _ (cm.ad (λe D=>gq.ad e (zC D.2) (by simp;have:=D.1;omega)) _ _ a)
def cm.ex{E b:Nat}{B:bs}{v:z}(a:cm X h (du E b) B v)(o:∀e,E<=e->e<b->Z X R e=Z X h e){fu dw:Nat}(H:fu<=E)(K:b<=dw):cm X R (du fu dw) B v:=
 cm.lift (λe D=>⟨Zy H D.1,ZN D.2 K⟩) _ _ (cm.ad (λe D=>o e D.1 D.2) _ _ a)
def qE{en:Type}{s:aW}{k:List Tok}{f:Option Tok->List Tok->ft en}{r:Except Int (en×List Tok)}(a:hM s k f=some r):∃x bQ,k=x::bQ/\((gH x s=true/\f (some x) bQ=some r)\/(gH x s=false/\f none k=some r)):=by
 unfold hM kZ at a
 cases k with
 |nil=>cases a
 |cons x bQ=>
  refine⟨x,bQ,rfl, ?_⟩
  simp only[]at a
  cases aD:gH x s with
  |true=>rw[aD]at a;exact .inl ⟨rfl,a⟩
  |false=>rw[aD]at a;exact .inr ⟨rfl,a⟩
def gi{α en:Type}{x:ft α}{f:α->List Tok->ft en}{r:Except Int (en×List Tok)}(a:andThen x f=some r):(∃E,x=some (.error E)/\r= .error E)\/∃E k,x=some (.ok (E,k))/\f E k=some r:=by
 unfold andThen at a
 split at a
 ·cases a
 ·injection a with a;exact .inl ⟨_,rfl,a.symm⟩
 ·exact .inr ⟨_,_,rfl,a⟩
def nW(az:dN X)(av:iG X h j aH bM aO i){x:Tok}{k:List Tok}(aI:aO.drop i=x::k)(s:aW):
 ba X 61 [.ptr aH 0, .str s] h j (λac R ap=>ac= .tuple [.agg (b6 (if gH x s then x else g1)), .bool (gH x s)]/\aT X R aH bM aO (if gH x s then i+1 else i)/\cx X [aH] h j R ap) (λ_ _ _=>False):=by
 obtain⟨H,K⟩:=fx aI
 cases aD:gH x s with
 |true=>simp only[ZC];exact agF az av.bf av.par av.ck av.hp av.gY av.many H aD
 |false=>simp only[Zw,ZA];exact agE az av.bf av.par av.ck av.hp av.gY H aD
structure qK(X:co)(aH bM:Nat)(aO:List Tok)(n:Nat):Prop where
 level:∀h j i (o:Nat) r,o<=5->iG X h j aH bM aO i->Go.aT.level n o (aO.drop i)=some r->ba X 147 [.ptr aH 0, .Z (o:Int)] h j (jV X aH bM aO h j r) (iT X aH h j r)
 shift:∀h j i r,iG X h j aH bM aO i->Go.aT.shift n (aO.drop i)=some r->ba X 154 [.ptr aH 0] h j (jV X aH bM aO h j r) (iT X aH h j r)
 tT:∀h j i r,iG X h j aH bM aO i->Go.aT.sR n (aO.drop i)=some r->ba X 163 [.ptr aH 0] h j (jV X aH bM aO h j r) (iT X aH h j r)
 part:∀h j i r,iG X h j aH bM aO i->Go.aT.part n (aO.drop i)=some r->ba X 171 [.ptr aH 0] h j (jV X aH bM aO h j r) (iT X aH h j r)
 kM:∀h j i r,iG X h j aH bM aO i->Go.aT.kM n (aO.drop i)=some r->ba X 129 [.ptr aH 0] h j (jV X aH bM aO h j r) (iT X aH h j r)
 arrow:∀h j i r,iG X h j aH bM aO i->Go.aT.arrow n (aO.drop i)=some r->ba X 99 [.ptr aH 0] h j (jV X aH bM aO h j r) (iT X aH h j r)
 list:∀h j i r,iG X h j aH bM aO i->Go.aT.list n (aO.drop i)=some r->ba X 175 [.ptr aH 0] h j (λac R ap=>∃a1 cC aY cj,r= .ok (a1,aO.drop cC)/\dZ X R (du j ap) cj ac 1 (aY.map λv=>[v])/\c2 X R (λe=>du j ap e/\e≠cj) a1 aY/\aT X R aH bM aO cC/\cx X [aH] h j R ap) (iT X aH h j r)
def ff{C:aK}{f:Nat}{xB:List z}{aj au:bR}{h:S ai}{j:Nat}(P:S ai->Prop)(bW:P h)(a:∀br,P br->ba C f xB br j aj au):ba C f xB h j aj au:=a h bW
def rz(o:IntKind)(x:Int):z.same 30 (.int o x) (.int o x)=true:=by
 simp only[z.same,yB];cases o<;>simp[lx]
def aT.ex(a:aT X h aH bM aO i)(o:bG X h j R ap)(H:aH<j)(K:bM<j):aT X R aH bM aO i:=a.ad (o.ad _ H) (o.ad _ K)
def alH(az:dN X){n:Nat}(ag:∀m,m<n->qK X aH bM aO m):∀h j i r,iG X h j aH bM aO i->Go.aT.arrow n (aO.drop i)=some r->ba X 99 [.ptr aH 0] h j (jV X aH bM aO h j r) (iT X aH h j r):=by
 intro h j i r av V
 cases n with
 |zero=>simp[Go.aT.arrow]at V
 |succ n=>
 refine zJ az (akM X) ?_
 rw[akN]
 unfold XA
 have gL:=av.bf
 have ki:=av.hp
 have hc:=av.ck
 unfold Go.aT.arrow at V
 rcases gi V with ⟨E,H,rfl⟩|⟨left,cO,H,V⟩
 ·exact((ag n Zo).kM h j i _ av H).mono (λac R ap a=>by obtain⟨B,cC,a,_⟩:=a;cases a) (λac R ap a=>a)
 refine((ag n Zo).kM h j i _ av H).mono ?_ (λac R ap a=>by obtain⟨E,a,_⟩:=a;cases a)
 rintro vy aU aL ⟨B,o8,a7,cb,ec,ij⟩
 cases a7
 have jn:=ij.le
 have mO:=av.go ec jn
 obtain⟨x,bQ,aI,af⟩:=qE V
 refine(nW az mO aI _).Zm ?_
 rintro xd aQ bc ⟨rfl,dq,dy⟩
 have gE:=dy.le
 rcases af with ⟨aD,V⟩|⟨aD,V⟩
 ·rw[aD]at dq ⊢
  simp only[ZC]at dq ⊢
  rw[<-(fx aI).2]at V
  refine cq b6.eq_1 ⟨?_⟩
  refine ff (λbr=>bG X aQ bc br (bc+1+9)/\Z X br bc=zG (b6 x) 7) ⟨dS,bz Zo⟩ ?_
  rintro br ⟨cz,cM⟩
  rcases gi V with ⟨E,K,rfl⟩|⟨right,b9,K,V⟩
  ·refine((ag n Zo).arrow br _ _ _ (mO.go (dq.ex cz Zo (zC mO.gY)) Zo) K).mono (λac R ap a=>by obtain⟨B,cC,a,_⟩:=a;cases a) (λac R ap a=>a.of (ij.trans (dy.trans (cx.of cz))) (λ_ a=>a))
  refine((ag n Zo).arrow br _ _ _ (mO.go (dq.ex cz Zo (zC mO.gY)) Zo) K).mono ?_ (λac R ap a=>by obtain⟨E,a,_⟩:=a;cases a)
  rintro v4 b0 cU ⟨iJ,i4,o4,dz,hd,eJ⟩
  cases o4
  have jy:=eJ.le
  simp only[ok,Zf]at V
  subst V
  have eu:Z X b0 bc=zG (b6 x) 7:=by rw[eJ.ad _ Zo (by simp;omega)];exact cM
  obtain⟨cP,rfl,it,_⟩:=cb.ptr
  obtain⟨fK,rfl,sD,_⟩:=dz.ptr
  have it:=it.1
  refine dd (bX eu) b6.eq_1 ⟨?_⟩
  refine ka (rz _ _) ?_
  refine⟨_,i4,rfl,cm.lit (ic:= .own) (cj:=bc+1+5) (aY:=[.ptr cP 0, .ptr fK 0]) (bz Zo) ⟨Zo,Zo⟩ ?_ ⟨Zo,Zo⟩ rfl Zo Zo (c2.two (cm.ad (λe D=> ?_) _ _ cb) (cm.ad (λe D=> ?_) _ _ dz) (λe D=> ?_) (λe D=> ?_)), ?_, ?_⟩
  ·simp(disch:=omega) only[aJ,bz]<;>rfl
  ·have H:=D.1;have K:=D.2
   simp(disch:=omega) only[aJ]
   rw[eJ.ad e Zo (by simp;omega),cz.ad e Zo,dy.ad e Zo (by simp;omega)]
  ·have H:=D.1;have K:=D.2
   simp(disch:=omega) only[aJ]
  ·simp only[du]at D ⊢;omega
  ·simp only[du]at D ⊢;omega
  ·exact hd.ad (zI) (by have:=mO.gY;exact zI)
  ·exact⟨Zo,λb ah bT=>by
    rw[<-((ij.trans (dy.trans (cx.of cz))).trans eJ).ad b ah bT]
    simp(disch:=omega) only[aJ]⟩
 ·rw[aD]at dq ⊢
  simp only[Zw,ZA]at dq ⊢
  simp only[ok,Zf]at V
  subst V
  refine dd b6.eq_1 g1.eq_1 ⟨?_⟩
  refine⟨left,o8,rfl,cm.ex cb (λe H K=> ?_) (Zh _) Zo,dq.ad (zI) (by have:=mO.gY;exact zI), ?_⟩
  ·simp(disch:=omega) only[aJ]
   exact dy.ad e Zo (by simp;omega)
  ·exact⟨Zo,λb ah bT=>by rw[<-(ij.trans dy).ad b ah bT];exact zI⟩
end
section
variable{X:co}{h R aU aQ:S ai}{j ap aL bc aH bM:Nat}{aO:List Tok}{i:Nat}
def aoh(az:dN X){n:Nat}(ag:∀m,m<n->qK X aH bM aO m):∀h j i r,iG X h j aH bM aO i->Go.aT.kM n (aO.drop i)=some r->ba X 129 [.ptr aH 0] h j (jV X aH bM aO h j r) (iT X aH h j r):=by
 intro h j i r av V
 cases n with
 |zero=>simp[Go.aT.kM]at V
 |succ n=>
 refine zJ az (ah2 X) ?_
 rw[ah3]
 unfold V9
 have gL:=av.bf
 have ki:=av.hp
 have hc:=av.ck
 unfold Go.aT.kM at V
 rcases gi V with ⟨E,H,rfl⟩|⟨left,cO,H,V⟩
 ·exact((ag n Zo).level h j i 0 _ Zo av H).mono (λac R ap a=>by obtain⟨B,cC,a,_⟩:=a;cases a) (λac R ap a=>a)
 refine((ag n Zo).level h j i 0 _ Zo av H).mono ?_ (λac R ap a=>by obtain⟨E,a,_⟩:=a;cases a)
 rintro vy aU aL ⟨B,o8,a7,cb,ec,ij⟩
 cases a7
 have jn:=ij.le
 have mO:=av.go ec jn
 obtain⟨x,bQ,aI,af⟩:=qE V
 refine(nW az mO aI _).Zm ?_
 rintro xd aQ bc ⟨rfl,dq,dy⟩
 have gE:=dy.le
 have jL:=mO.gY
 rcases af with ⟨aD,V⟩|⟨aD,V⟩
 ·rw[aD]at dq ⊢
  simp only[ZC]at dq ⊢
  rw[<-(fx aI).2]at V
  simp only[]at V
  obtain⟨cP,bi,cj,aY,rfl,it,wM,bJ,b2,cF,fb,eS,eK,gG,h8,g5,tE⟩:=cb.open
  have it:=it
  obtain⟨aB4,aB5⟩:=it
  have dE:aV X aQ (.ptr cP 0)=some (.Z left.kind):=by rw[dy.fq _ _ Zo (by simp;omega)];exact wM
  have FG:aV X aQ (.ptr cP 8)=some bi:=by rw[dy.fq _ _ Zo (by simp;omega)];exact h8
  have b7:sK left=some true->∀(I:db) (br:S ai) (bL:Nat),I.g 4=some (.ptr bc 0)->I.g 3=some (.ptr cP 0)->I.g 0=some (.ptr aH 0)->bG X aQ bc br bL->bc<bL->Z X br bc=zG (b6 x) 7->
   fs (bL+9) λavK=>cl (I.g 4) λazn=>ar (iq 2 azn) λagR=>ar (aV X br agR) λagS=>cl (I.g 3) λazo=>cl (I.g 0) λazp=>ba X 129 [azp] br avK (λazR akP avL=>ar (hz 2 [.cW, .cW] [(0,1,azo),(1,1,azR)] (bL+5)) λaf1=>me X akP (bL+5) af1.1 af1.2 λazS akQ=>ar (fv [.Z 0,.Z 0,.str [],.zF,.zF,.zF,.Z 0,.int .u64 0, .a2] [(0,1,(.Z 21)),(1,1,agS),(8,1,azS)]) λazT=>vR X akQ (bL+7) azT λazU XG=>ar (aV X XG agR) λazV=>iB azV (some agS) (jV X aH bM aO h j r azU XG avL)) (iT X aH h j r):=by
   intro SK I br bL t4 t3 t0 cz cS cM
   rw[SK]at V
   simp only[]at V
   refine ht @t4 @t3 @t0 (bX cM) b6.eq_1 ⟨?_⟩
   rcases gi V with ⟨E,K,rfl⟩|⟨right,b9,K,V⟩
   ·refine((ag n Zo).kM br _ _ _ (mO.go (dq.ex cz Zo Zo) Zo) K).mono (λac R ap a=>by obtain⟨B,cC,a,_⟩:=a;cases a) (λac R ap a=>a.of (ij.trans (dy.trans (cx.of (cz.more Zo)))) (λ_ a=>a))
   refine((ag n Zo).kM br _ _ _ (mO.go (dq.ex cz Zo Zo) Zo) K).mono ?_ (λac R ap a=>by obtain⟨E,a,_⟩:=a;cases a)
   rintro v4 b0 cU ⟨iJ,i4,o4,dz,hd,eJ⟩
   cases o4
   have jy:=eJ.le
   simp only[ok,Zf]at V
   subst V
   have eu:Z X b0 bc=zG (b6 x) 7:=by rw[eJ.ad _ Zo (by simp;omega)];exact cM
   obtain⟨fK,rfl,sD,_⟩:=dz.ptr
   refine dd (bX eu) b6.eq_1 ⟨?_⟩
   refine ka (rz _ _) ?_
   refine⟨_,i4,rfl,cm.lit (ic:= .own) (cj:=bL+5) (aY:=[.ptr cP 0, .ptr fK 0]) (bz Zo) ⟨Zo,Zo⟩ ?_ ⟨Zo,Zo⟩ rfl Zo Zo (c2.two (cm.ad (λe D=> ?_) _ _ cb) (cm.ad (λe D=> ?_) _ _ dz) (λe D=> ?_) (λe D=> ?_)), ?_, ?_⟩
   ·simp(disch:=omega) only[aJ,bz]<;>rfl
   ·have H:=D.1;have K:=D.2
    simp(disch:=omega) only[aJ]
    rw[eJ.ad e Zo (by simp;omega),cz.ad e Zo,dy.ad e Zo (by simp;omega)]
   ·have H:=D.1;have K:=D.2
    simp(disch:=omega) only[aJ]
   ·simp only[du]at D ⊢;omega
   ·simp only[du]at D ⊢;omega
   ·exact hd.ad (zI) (zI)
   ·exact⟨Zo,λb ah bT=>by
     rw[<-((ij.trans (dy.trans (cx.of (cz.more (by omega:bL<=bL+9))))).trans eJ).ad b ah bT]
     simp(disch:=omega) only[aJ]⟩
  have aaV:sK left=some false->∀(br:S ai) (bL:Nat) (aj:bR),bG X aQ bc br bL->ba X 97 [.agg (b6 x)] br bL aj (iT X aH h j r):=by
   intro SK br bL aj cz
   rw[SK]at V
   simp only[bad,Zf]at V
   subst V
   refine(IE az (zC cz.le) x _ ?_).mono (λ_ _ _ a=>a.elim) (λ_ _ _ a=>a)
   intro R ap cd
   exact⟨_,rfl,rfl,ij.trans (dy.trans (cx.of (cz.trans cd)))⟩
  by_cases hW:left.kind=1
  ·have cI:decide (left.kind≠1)=false:=by simp[hW]
   refine gb b6.eq_1 @dE @cI ⟨?_⟩
   refine gM ?_
   refine gb b6.eq_1 @dE @cI ⟨?_⟩
   refine gM ?_
   refine vO ?_
   exact b7 (by simp[sK,hW]) _ _ _ (bt) (bt) (bt) dS Zo (bz Zo)
  ·have cI:decide (left.kind≠1)=true:=by simp[hW]
   by_cases gl:left.kind=4
   ·have iI:decide (left.kind≠4)=false:=by simp[gl]
    cases wn:left.args with
    |nil=>
     simp[sK,gl,wn]at V
    |cons E xB=>
     obtain⟨v,bo,xZ⟩:=tE.get 0 E (by rw[wn];rfl)
     obtain⟨gZ,mM,tQ⟩:=g5.one bo
     have gZ:iv 1 bi (.Z 0)=some (.ptr cj 0):=gZ
     obtain⟨B4,rfl,yp,ld⟩:=xZ.ptr
     obtain⟨aB6,aB7⟩:=yp
     obtain⟨aCK,aCL⟩:=tQ
     have L1:aV X aQ (.ptr cj 0)=some (.ptr B4 0):=by rw[dy.fq _ _ Zo (by simp;omega)];exact mM
     have Il:aV X aQ (.ptr B4 0)=some (.Z E.kind):=by rw[dy.fq _ _ Zo (by simp;omega)];exact ld
     by_cases aB:E.kind=1
     ·have fG:decide (E.kind≠1)=false:=by simp[aB]
      refine gb b6.eq_1 @dE (Za @cI (Za @iI (Za @FG (Za @gZ (Za @L1 (Za @Il @fG)))))) ⟨?_⟩
      refine gM ?_
      refine gb b6.eq_1 @dE (Za @cI (Za @iI (Za @FG (Za @gZ (Za @L1 (Za @Il @fG)))))) ⟨?_⟩
      refine gM ?_
      refine vO ?_
      exact b7 (by simp[sK,gl,wn,aB]) _ _ _ (bt) (bt) (bt) dS Zo (bz Zo)
     ·have fG:decide (E.kind≠1)=true:=by simp[aB]
      refine gb b6.eq_1 @dE (Za @cI (Za @iI (Za @FG (Za @gZ (Za @L1 (Za @Il @fG)))))) ⟨?_⟩
      refine gM ?_
      refine gb b6.eq_1 @dE (Za @cI (Za @iI (Za @FG (Za @gZ (Za @L1 (Za @Il @fG)))))) ⟨?_⟩
      refine gM ?_
      refine vP ?_
      refine cq b6.eq_1 ⟨?_⟩
      exact aaV (by simp[sK,gl,wn,aB]) _ _ _ dS
   ·have iI:decide (left.kind≠4)=true:=by simp[gl]
    refine gb b6.eq_1 @dE (Za @cI @iI) ⟨?_⟩
    refine gM ?_
    refine gb b6.eq_1 @dE (Za @cI @iI) ⟨?_⟩
    refine gM ?_
    refine vP ?_
    refine cq b6.eq_1 ⟨?_⟩
    exact aaV (by simp[sK,hW,gl]) _ _ _ dS
 ·rw[aD]at dq ⊢
  simp only[Zw,ZA]at dq ⊢
  simp only[ok,Zf]at V
  subst V
  refine dd b6.eq_1 g1.eq_1 ⟨?_⟩
  refine⟨left,o8,rfl,cm.ex cb (λe H K=> ?_) (Zh _) Zo,dq.ad (zI) (zI), ?_⟩
  ·simp(disch:=omega) only[aJ]
   exact dy.ad e Zo (by simp;omega)
  ·exact⟨Zo,λb ah bT=>by rw[<-(ij.trans dy).ad b ah bT];exact zI⟩
end
section
variable{X:co}{h R aU aQ:S ai}{j ap aL bc aH bM:Nat}{aO:List Tok}{i:Nat}
def ahq(X:co)(aH bM:Nat)(aO:List Tok)(h:S ai)(j:Nat)(r:Option bs×List Tok):bR:=λac R ap=>∃cC,r.2=aO.drop cC/\aT X R aH bM aO cC/\cx X [aH] h j R ap/\
 match r.1 with
 |none=>ac= .tuple [.cW, .zF]
 |some B=>∃b o E,B= .mk o E [] false dC 0 []/\ac= .tuple [.ptr b 0, .zT]/\j<=b/\b<ap/\Z X R b=zG (gR o E [] false dC 0 .a2) 9
def al2(az:dN X)(eN:vG X){o:Nat}(aC:o<5)(av:iG X h j aH bM aO i){r:Option bs×List Tok}(V:mX (ao o) (aO.drop i)=some r):
 ba X 155 [.ptr aH 0, .Z (o:Int)] h j (ahq X aH bM aO h j r) (λ_ _ _=>False):=by
 refine zJ az (ais X) ?_
 rw[ait]
 unfold Wm
 have gL:=av.bf
 have ki:=av.hp
 have hc:=av.ck
 have jL:=av.gY
 obtain⟨ap3,eN⟩:=eN
 obtain⟨b,bi,g5,cR⟩:=eN h o aC
 have dV:GS 5 1 (.ptr 8 0) (.Z (o:Int))=some (.ptr 8 o):=by
  simp[GS,pL,Li,eR,aC]
 have ej:=cR.len
 rw[Zl]at ej
 have uY:=cR.many
 rw[Zl]at uY
 refine gb @dV @g5 @ej ⟨?_⟩
 refine gM ?_
 refine fP (λm I R n=>∃W,m=(ao o).length-W/\W<=(ao o).length/\I.g 0=some (.ptr aH 0)/\I.g 12=some bi/\I.g 13=some (.Z ((ao o).length:Int))/\I.g 14=some (.Z (W:Int))/\aT X R aH bM aO i/\cx X [aH] h j R n/\mX ((ao o).drop W) (aO.drop i)=some r)
  (ao o).length ⟨0,Zo,Zo,bt,bt,bt,gc,av.par,cx.refl _ _ _,V⟩ ?_
 rintro m I aQ n ⟨W,rfl,bx,t0,oG,kn,oH,dq,gq,ah⟩
 have ge:=gq.le
 have fB:=av.go dq ge
 refine AV @kn @oH ⟨?_⟩
 refine gM ?_
 refine FE (λcS=> ?_) (λcS=> ?_)
 ·have cS:W<(ao o).length:=Zo
  have kP:(ao o).drop W=(ao o)[W]::(ao o).drop (W+1):=Zz cS
  rw[kP]at ah
  have acF:=cR.gF W (by simpa using cS)
  have gg:=((eN aQ o aC).choose_spec)
  obtain⟨cD,agp,rf,JQ⟩:=eN aQ o aC
  have Tj:agp=bi:=by
   have B:aV X aQ (.ptr 8 o)=aV X h (.ptr 8 o):=by
    rw[da,da]
    have:∀h:S ai,Z X h 8=X.G.get 8:=λh=>by
     have aqs:Nat.blt 8 (q X).bf=true:=by simp[Nat.blt];exact ap3
     simp only[Z,aqs,eU];rfl
    rw[this,this]
   rw[B,g5]at rf
   exact(Ym rf).symm
  subst Tj
  have acF:=JQ.gF W (by simpa using cS)
  have gg:=λbr (a:∀e,e<X.bf->Z X br e=Z X aQ e)=>(JQ.ad (R:=br) a).row Zd (i:=W) (r:=[.str (ao o)[W].1, .Z (ao o)[W].2]) (by rw[Zv,Ze cS];rfl)
  have gg:=gg aQ (λ_ _=>rfl)
  generalize (ao o)[W]=U at ah gg kP
  obtain⟨s,eY⟩:=U
  simp only[mX]at ah
  refine ht @oG @oH @acF @gg @t0 ⟨?_⟩
  refine ff (λbr=>bG X aQ n br (n+1)/\Z X br n=zG [.str s, .Z eY] 2) ⟨dS,bz Zo⟩ ?_
  rintro br ⟨cz,cM⟩
  cases aI:aO.drop i with
  |nil=>rw[aI]at ah;simp[kZ]at ah
  |cons x k=>
   rw[aI]at ah
   refine(nW az (fB.go (dq.ex cz Zo Zo) Zo) aI s).Zm ?_
   rintro ac b0 cU ⟨rfl,hd,eJ⟩
   have jy:=eJ.le
   have eu:Z X b0 n=zG [.str s, .Z eY] 2:=by rw[eJ.ad _ Zo (by simp;omega)];exact cM
   have uF:=gq.trans ((cx.of cz).trans eJ)
   cases aD:gH x s with
   |true=>
    rw[aD]at hd
    simp only[kZ,aD,ZC]at ah hd ⊢
    simp only[Zf]at ah
    subst ah
    refine dd b6.eq_1 (bX eu) ⟨?_⟩
    refine⟨i+1,(fx aI).2.symm,hd.ad (zI) (zI), ?_,cU+1,eY,x.at_,rfl,rfl,Zo,Zo, ?_⟩
    ·exact⟨Zo,λb ah bT=>by rw[<-uF.ad b ah bT];exact zI⟩
    ·simp(disch:=omega) only[aJ,bz]<;>rfl
   |false=>
    rw[aD]at hd
    simp only[kZ,aD,Zw,ZA]at ah hd ⊢
    have bw:=zH W
    refine hm b6.eq_1 g1.eq_1 @oH @bw ⟨?_⟩
    refine⟨_, ?_,W+1,rfl,Zo,a6 t0,a6 oG,a6 kn,bt,hd.ad (zI) (zI), ?_,ah⟩
    ·omega
    ·exact⟨Zo,λb ah bT=>by rw[<-uF.ad b ah bT];exact zI⟩
 ·have bx:W=(ao o).length:=Zo
  subst bx
  rw[List.drop_length]at ah
  simp only[mX,Zf]at ah
  subst ah
  refine cY ⟨?_⟩
  exact⟨i,rfl,dq,gq,rfl⟩
end
section
variable{X:co}{h R aU aQ:S ai}{j ap aL bc aH bM:Nat}{aO:List Tok}{i:Nat}
def auZ(az:dN X)(eN:vG X){n:Nat}(ag:∀m,m<n->qK X aH bM aO m):∀h j i (o:Nat) r,o<=5->iG X h j aH bM aO i->Go.aT.level n o (aO.drop i)=some r->ba X 147 [.ptr aH 0, .Z (o:Int)] h j (jV X aH bM aO h j r) (iT X aH h j r):=by
 intro h j i o r aC av V
 cases n with
 |zero=>simp[Go.aT.level]at V
 |succ n=>
 refine zJ az (aii X) ?_
 rw[aij]
 unfold Wh
 have gL:=av.bf
 have ki:=av.hp
 have hc:=av.ck
 have jL:=av.gY
 unfold Go.aT.level at V
 by_cases lW:o=5
 ·subst lW
  rw[Zq rfl]at V
  have cI:decide (((5:Nat):Int)=5)=true:=rfl
  refine cq @cI ⟨?_⟩
  exact(ag n Zo).shift h j i r av V
 ·rw[Zg lW]at V
  have cI:decide ((o:Int)=5)=false:=by simp;omega
  have bw:=zH o
  refine dd @cI @bw ⟨?_⟩
  rcases gi V with ⟨E,H,rfl⟩|⟨left,cO,H,V⟩
  ·exact((ag n Zo).level h j i (o+1) _ Zo av H).mono (λac R ap a=>by obtain⟨B,cC,a,_⟩:=a;cases a) (λac R ap a=>a)
  refine((ag n Zo).level h j i (o+1) _ Zo av H).mono ?_ (λac R ap a=>by obtain⟨E,a,_⟩:=a;cases a)
  rintro vy aU aL ⟨B,o8,a7,cb,ec,ij⟩
  cases a7
  have jn:=ij.le
  refine gM ?_
  refine fP (λm I R aP=>∃left v cC,m<=n/\I.g 0=some (.ptr aH 0)/\I.g 1=some (.Z (o:Int))/\I.g 5=some v/\cm X R (du j aP) left v/\aT X R aH bM aO cC/\cx X [aH] h j R aP/\m7 m o left (aO.drop cC)=some r)
   n ⟨left,vy,o8,Zh _,bt,bt,bt,cb,ec,ij,V⟩ ?_
  clear cb ec ij H V
  rintro m I aQ bc ⟨left,v,i6,aZ,t0,t1,t5,cu,dq,dy,V⟩
  cases m with
  |zero=>simp[m7]at V
  |succ m=>
  unfold m7 at V
  have gE:=dy.le
  have fB:=av.go dq gE
  refine gM ?_
  refine dd @t0 @t1 ⟨?_⟩
  cases ah:mX (ao o) (aO.drop i6)with
  |none=>rw[ah]at V;cases V
  |some yT=>
  rw[ah]at V
  refine(al2 az eN Zo fB ah).Zm ?_
  rintro t2 br bL ⟨i3,tx,gx,eF,aX⟩
  have jo:=eF.le
  obtain⟨ro,aCW⟩:=yT
  simp only[]at tx
  subst tx
  cases ro with
  |none=>
   simp only[]at aX V
   subst aX
   simp only[ok,Zf]at V
   subst V
   refine cq @t5 ⟨?_⟩
   exact⟨left,i3,rfl,cm.fr cu eF Zo Zo (Zh _) Zo,gx,dy.trans eF⟩
  |some B=>
   simp only[]at aX V
   obtain⟨b,eY,E,rfl,rfl,m0,ls,cM⟩:=aX
   refine hm @t0 @t1 @t5 @bw ⟨?_⟩
   rcases gi V with ⟨fu,ay,rfl⟩|⟨right,fI,ay,V⟩
   ·refine((ag m Zo).level br bL i3 (o+1) _ Zo (fB.go gx jo) ay).mono (λac R ap a=>by obtain⟨B,cC,a,_⟩:=a;cases a) (λac R ap a=>a.of (dy.trans eF) (λ_ a=>a))
   refine((ag m Zo).level br bL i3 (o+1) _ Zo (fB.go gx jo) ay).mono ?_ (λac R ap a=>by obtain⟨E,a,_⟩:=a;cases a)
   rintro v4 b0 cU ⟨iJ,i4,o4,dz,hd,eJ⟩
   cases o4
   have jy:=eJ.le
   have eu:Z X b0 b=zG (gR eY E [] false dC 0 .a2) 9:=by rw[eJ.ad _ Zo (by simp;omega)];exact cM
   obtain⟨cG,rfl,nL,_⟩:=cu.ptr
   obtain⟨fK,rfl,sD,_⟩:=dz.ptr
   refine ey @t5 @eu @t1 ⟨?_⟩
   have fin:∀gt,gt=bp X (bp X b0 cU (zG [.ptr cG 0, .ptr fK 0] 2)) b (zG (gR eY E [] false dC 0 (.slice cU 0 2 2)) 9)->cm X gt (du j (cU+1)) (two (.mk eY E [] false dC 0 []) left right) (.ptr b 0)/\aT X gt aH bM aO i4/\cx X [aH] h j gt (cU+1):=by
    rintro gt rfl
    refine⟨cm.lit (ic:= .own) (cj:=cU) (aY:=[.ptr cG 0, .ptr fK 0]) (bz Zo) ⟨Zo,Zo⟩ ?_ ⟨Zo,Zo⟩ rfl Zo Zo (c2.two (cm.ad (λe D=> ?_) _ _ cu) (cm.ad (λe D=> ?_) _ _ dz) (λe D=> ?_) (λe D=> ?_)), ?_, ?_⟩
    ·simp(disch:=omega) only[aJ,bz]
    ·have H:=D.1;have K:=D.2
     simp(disch:=omega) only[aJ]
     rw[eJ.ad e Zo (by simp;omega),eF.ad e Zo (by simp;omega)]
    ·have H:=D.1;have K:=D.2
     simp(disch:=omega) only[aJ]
    ·simp only[du]at D ⊢;omega
    ·simp only[du]at D ⊢;omega
    ·exact hd.ad (zI) (zI)
    ·exact⟨Zo,λe D bT=>by
      rw[<-((dy.trans eF).trans eJ).ad e D bT]
      simp(disch:=omega) only[aJ]⟩
   obtain⟨ef,ev,f3⟩:=fin (bp X (bp X b0 cU (zG [.ptr cG 0, .ptr fK 0] 2)) b (some (.cells (dM (S.ofList (gR eY E [] false dC 0 .a2) 0 .nil) 8 (z.slice cU 0 2 2).cells) 9 .own))) rfl
   refine FE (λK=> ?_) (λK=> ?_)
   ·have gD:o=2:=Zo
    rw[Zq gD]at V
    simp only[ok,Zf]at V
    subst V
    exact⟨_,i4,rfl,ef,ev,f3⟩
   ·rw[Zg Zo]at V
    exact⟨m,Zo,_, .ptr b 0,i4,Zo,a6 t0,a6 t1,bt,ef,ev,f3,V⟩
end
section
variable{X:co}{h R aU aQ:S ai}{j ap aL bc aH bM:Nat}{aO:List Tok}{i:Nat}
def ays(az:dN X){n:Nat}(ag:∀m,m<n->qK X aH bM aO m):∀h j i r,iG X h j aH bM aO i->Go.aT.shift n (aO.drop i)=some r->ba X 154 [.ptr aH 0] h j (jV X aH bM aO h j r) (iT X aH h j r):=by
 intro h j i r av V
 cases n with
 |zero=>simp[Go.aT.shift]at V
 |succ n=>
 refine zJ az (aiq X) ?_
 rw[air]
 unfold Wl
 have gL:=av.bf
 have ki:=av.hp
 have hc:=av.ck
 have jL:=av.gY
 unfold Go.aT.shift at V
 rcases gi V with ⟨E,H,rfl⟩|⟨left,cO,H,V⟩
 ·exact((ag n Zo).tT h j i _ av H).mono (λac R ap a=>by obtain⟨B,cC,a,_⟩:=a;cases a) (λac R ap a=>a)
 refine((ag n Zo).tT h j i _ av H).mono ?_ (λac R ap a=>by obtain⟨E,a,_⟩:=a;cases a)
 rintro vy aU aL ⟨B,o8,a7,cb,ec,ij⟩
 cases a7
 have jn:=ij.le
 refine gM ?_
 refine fP (λm I R aP=>∃left v cC,I.g 0=some (.ptr aH 0)/\I.g 3=some v/\cm X R (du j aP) left v/\aT X R aH bM aO cC/\cx X [aH] h j R aP/\nj m left (aO.drop cC)=some r)
  n ⟨left,vy,o8,bt,bt,cb,ec,ij,V⟩ ?_
 clear cb ec ij H V jn
 rintro m I aQ bc ⟨left,v,i6,t0,t3,cu,dq,dy,V⟩
 cases m with
 |zero=>simp[nj]at V
 |succ m=>
 unfold nj at V
 have gE:=dy.le
 have fB:=av.go dq gE
 refine gM ?_
 obtain⟨cG,rfl,nL,_⟩:=cu.ptr
 have nL:=nL.2
 refine cq @t0 ⟨?_⟩
 obtain⟨x,bQ,aI,af⟩:=qE V
 refine(nW az fB aI _).Zm ?_
 rintro t2 br bL ⟨rfl,gx,eF⟩
 have jo:=eF.le
 have q3:=aI
 refine qW b6.eq_1 ⟨?_⟩
 refine iw (λcZ R aP=>∃Ka eY x cC dj,cZ.g 0=some (.ptr aH 0)/\cZ.g 3=some (.ptr cG 0)/\cZ.g 4=some (.Z eY)/\cZ.g 5=some (.ptr dj 0)/\cZ.g 6=some (.bool Ka)/\Z X R dj=zG (b6 x) 7/\bc<=dj/\dj<aP/\cm X R (du j bc) left (.ptr cG 0)/\aT X R aH bM aO cC/\cx X [aH] h j R aP/\bc<=aP/\
  (Ka=true->nk m eY x left (aO.drop cC)=some r)/\(Ka=false->r= .ok (left,aO.drop cC))) (λW bx=> ?_) ?_
 ·have cM:∀h,Z X (bp X (bp X h bL (zG (b6 g1) 7)) bL (some (.cells (dM (S.ofList (b6 g1) 0 .nil) 0 (b6 x)) 7 .own))) bL=zG (b6 x) 7:=λh=>bz Zo
  rcases af with ⟨aD,V⟩|⟨aD,V⟩
  ·rw[aD]at gx ⊢
   simp only[ZC]at gx ⊢
   refine cY ⟨?_⟩
   refine bx _ _ _ ⟨true,19,x,i6+1,bL,a6 t0,a6 t3,bt,bt,bt,bz Zo,Zo,Zo, ?_,gx.ad (zI) (zI), ?_,Zo,λ_=>by rw[(fx q3).2];exact V,λa=>by cases a⟩
   ·refine cm.ex cu (λe H K=> ?_) (Zh _) (Zh _)
    simp(disch:=omega) only[aJ]
    exact eF.ad e Zo (by simp;omega)
   ·exact⟨Zo,λe D bT=>by rw[<-(dy.trans eF).ad e D bT];exact zI⟩
  ·rw[aD]at gx ⊢
   simp only[Zw,ZA]at gx ⊢
   simp only[]at V
   refine cq @t0 ⟨?_⟩
   refine ff (λb0=>bG X br bL b0 (bL+1)/\Z X b0 bL=zG (b6 g1) 7) ⟨dS,bz Zo⟩ ?_
   rintro b0 ⟨dz,eu⟩
   have kY:=fB.go (gx.ex dz Zo Zo) (by omega:bc<=bL+1)
   obtain⟨e,fA,o3,atA⟩:=qE V
   refine(nW az kY o3 _).Zm ?_
   rintro HB b5 cA ⟨rfl,gy,dT⟩
   have jz:=dT.le
   have eZ:Z X b5 bL=zG (b6 g1) 7:=by rw[dT.ad _ Zo (by simp;omega)];exact eu
   have de:∀e,e<bc->e≠aH->Z X b5 e=Z X aQ e:=λe H K=>by
    rw[dT.ad e Zo (by simpa using K),dz.ad e Zo,eF.ad e Zo (by simpa using K)]
   have ez:=((dy.trans eF).trans (cx.of dz)).trans dT
   unfold b6 g1 dC at eZ
   rcases atA with ⟨Tg,V⟩|⟨Tg,V⟩
   ·rw[Tg]at gy ⊢
    simp only[ZC]at gy ⊢
    refine dd b6.eq_1 @eZ ⟨?_⟩
    refine bx _ _ _ ⟨true,20,e,i6+1,bL,a6 t0,a6 t3,bt,bt,bt,bz Zo,Zo,Zo, ?_,gy.ad (zI) (zI), ?_,Zo,λ_=>by rw[(fx o3).2];exact V,λa=>by cases a⟩
    ·refine cm.ex cu (λe H K=> ?_) (Zh _) (Zh _)
     simp(disch:=omega) only[aJ]
     exact de e K Zo
    ·exact⟨Zo,λe D bT=>by rw[<-ez.ad e D bT];exact zI⟩
   ·rw[Tg]at gy ⊢
    simp only[Zw,ZA]at gy ⊢
    simp only[ok,Zf]at V
    refine hm b6.eq_1 g1.eq_1 dC.eq_1 @eZ ⟨?_⟩
    refine bx _ _ _ ⟨false,20,g1,i6,bL,a6 t0,a6 t3,bt,bt,bt,bz Zo,Zo,Zo, ?_,gy.ad (zI) (zI), ?_,Zo,λa=>(by cases a),λ_=>V.symm⟩
    ·refine cm.ex cu (λe H K=> ?_) (Zh _) (Zh _)
     simp(disch:=omega) only[aJ]
     exact de e K Zo
    ·exact⟨Zo,λe D bT=>by rw[<-ez.ad e D bT];exact zI⟩
 ·clear cu gx eF af V aI q3 dq fB
  rintro aAu cp d2 ⟨Ka,eY,x,hu,dj,t0,t3,t4,t5,g9,eb,aBT,aBU,eQ,he,ez,rb,D,ma⟩
  cases Ka with
  |false=>
   have V:=ma rfl
   subst V
   refine dd @g9 @t3 ⟨?_⟩
   exact⟨left,hu,rfl,cm.lift (λe D=>⟨D.1,zC D.2⟩) _ _ eQ,he,ez⟩
  |true=>
   have V:=D rfl
   cases m with
   |zero=>simp[nk]at V
   |succ m=>
   unfold nk at V
   have mi:=av.go he (by omega:j<=d2)
   refine dd @g9 @t0 ⟨?_⟩
   cases aI:aO.drop hu with
   |nil=>rw[aI]at V;simp[il,andThen]at V
   |cons e k=>
   rw[aI]at V
   simp only[il]at V
   refine(BT az mi.bf mi.par mi.ck mi.hp mi.gY mi.many (fx aI).1 4).mono ?_ ?_
   ·rintro agN cH eh ⟨aC,rfl,hK,e4⟩
    have pF:=e4.le
    rw[Zq aC]at V
    simp only[andThen,ok]at V
    have eW:Z X cH dj=zG (b6 x) 7:=by rw[e4.ad _ Zo (by simp;omega)];exact eb
    have e3:=cm.ex (R:=cH) eQ (λe H K=>e4.ad e Zo (by simp;omega)) (Zh _) (Zh _)
    have uF:=ez.trans e4
    refine qW b6.eq_1 ⟨?_⟩
    refine gM ?_
    refine FE (λSa=> ?_) (λSa=> ?_)
    ·rw[Zq Sa]at V
     simp only[bad,Zf]at V
     subst V
     refine cq b6.eq_1 ⟨?_⟩
     refine(IE az Zo e _ ?_).mono (λ_ _ _ a=>a.elim) (λ_ _ _ a=>a)
     intro R ap cd
     exact⟨_,rfl,rfl,uF.trans (cx.of (bG.trans dS cd))⟩
    ·rw[Zg Sa]at V
     refine ht b6.eq_1 @t4 @t5 @t3 (bX eW) ⟨?_⟩
     refine⟨m,Zo,_, .ptr (eh+1+1) 0,hu+1,a6 t0,bt,cm.lit (o:=1) (cap:=1) (n:=e.n) (kind:=eY) (at_:=x.at_) (name:=[]) (no:=false) (ty:=dC) (b:=eh+1+1) (ic:= .own) (cj:=eh+1) (aY:=[.ptr cG 0]) (bz (b:=eh+1+1) Zo) ⟨Zo,Zo⟩ ?_ ⟨Zo,Zo⟩ rfl Zo Zo (c2.one (cm.ad (λe D=> ?_) _ _ e3) (λe D=> ?_)), ?_, ?_,by rw[(fx aI).2];exact V⟩
     ·simp(disch:=omega) only[aJ,bz]<;>rfl
     ·have H:=D.1;have K:=D.2
      simp(disch:=omega) only[aJ]
     ·simp only[du]at D ⊢;omega
     ·exact hK.ad (zI) (zI)
     ·exact⟨Zo,λe D bT=>by
       rw[<-uF.ad e D bT]
       simp(disch:=omega) only[aJ]⟩
   ·rintro agN cH eh ⟨aC,rfl,e4⟩
    rw[Zg aC]at V
    simp only[andThen,bad,Zf]at V
    subst V
    exact⟨_,rfl,rfl,ez.trans e4⟩
end
section
variable{X:co}{h R aU aQ:S ai}{j ap aL bc aH bM:Nat}{aO:List Tok}{i:Nat}
def at6{n aR W:Nat}{cs:List z}(o:IntKind)(a:W<n):yD true n aR (.agg cs) (.int o (W:Int))=some (.agg ((cs.drop (W*aR)).take aR)):=by
 simp[yD,pL,eR,a]
def UF:List z:=[.str [110,111,116], .Z 3, .str [45], .Z 4, .str [112,114,101], .Z 5]
def aw4{W:Nat}(a:W<3):∃s o,yR.drop W=(s,o)::yR.drop (W+1)/\(UF.drop (W*2)).take 2=[.str s, .Z o]:=by
 match W,a with
 |0,_=>exact⟨_,_,rfl,rfl⟩
 |1,_=>exact⟨_,_,rfl,rfl⟩
 |2,_=>exact⟨_,_,rfl,rfl⟩
def axb(az:dN X){n:Nat}(ag:∀m,m<n->qK X aH bM aO m):∀h j i r,iG X h j aH bM aO i->Go.aT.sR n (aO.drop i)=some r->ba X 163 [.ptr aH 0] h j (jV X aH bM aO h j r) (iT X aH h j r):=by
 intro h j i r av V
 cases n with
 |zero=>simp[Go.aT.sR]at V
 |succ n=>
 refine zJ az (aiy X) ?_
 rw[aiz]
 unfold Wp
 have gL:=av.bf
 have ki:=av.hp
 have hc:=av.ck
 have jL:=av.gY
 unfold Go.aT.sR at V
 cases ah:mX yR (aO.drop i)with
 |none=>rw[ah]at V;cases V
 |some yT=>
 rw[ah]at V
 refine tm ⟨?_⟩
 refine iw (λI R aP=>I.g 0=some (.ptr aH 0)/\aT X R aH bM aO i/\cx X [aH] h j R aP/\yT=(none,aO.drop i)) (λW bx=> ?_) ?_
 ·refine fP (λm I R aP=>∃W,m=3-W/\W<=3/\I.g 0=some (.ptr aH 0)/\I.g 15=some (.agg UF)/\I.g 16=some (.Z (W:Int))/\aT X R aH bM aO i/\cx X [aH] h j R aP/\mX (yR.drop W) (aO.drop i)=some yT)
   3 ⟨0,rfl,Zo,bt,gc,gc,av.par,cx.refl _ _ _,ah⟩ ?_
  rintro m I aQ bc ⟨W,rfl,No,t0,w9,EK,dq,dy,ah⟩
  have gE:=dy.le
  have fB:=av.go dq gE
  refine qW @EK ⟨?_⟩
  refine gM ?_
  refine FE (λcS=> ?_) (λcS=> ?_)
  ·have cS:W<3:=Zo
   obtain⟨s,eY,kP,gg⟩:=aw4 cS
   rw[kP]at ah
   simp only[mX]at ah
   have acE:=at6 (n:=3) (aR:=2) (cs:=UF) .i64 cS
   rw[gg]at acE
   refine hm @w9 @EK @acE @t0 ⟨?_⟩
   refine ff (λbr=>bG X aQ bc br (bc+1)/\Z X br bc=zG [.str s, .Z eY] 2) ⟨dS,bz Zo⟩ ?_
   rintro br ⟨cz,cM⟩
   cases aI:aO.drop i with
   |nil=>rw[aI]at ah;simp[kZ]at ah
   |cons x k=>
   rw[aI]at ah
   refine(nW az (fB.go (dq.ex cz Zo Zo) Zo) aI s).Zm ?_
   rintro ac b0 cU ⟨rfl,hd,eJ⟩
   have jy:=eJ.le
   have eu:Z X b0 bc=zG [.str s, .Z eY] 2:=by rw[eJ.ad _ Zo (by simp;omega)];exact cM
   have uF:=dy.trans ((cx.of cz).trans eJ)
   cases aD:gH x s with
   |true=>
    rw[aD]at hd
    simp only[kZ,aD,ZC]at ah hd ⊢
    simp only[Zf]at ah
    subst ah
    simp only[]at V
    refine ey b6.eq_1 (bX eu) @t0 ⟨?_⟩
    refine ff (λb5=>bG X b0 cU b5 (cU+1+10)/\Z X b5 cU=zG (b6 x) 7) ⟨dS,bz Zo⟩ ?_
    rintro b5 ⟨d1,eZ⟩
    have oC:=fB.go (hd.ex d1 Zo Zo) (by omega:bc<=cU+1+10)
    have dT:=uF.trans (cx.of d1)
    rw[<-(fx aI).2]at V
    rcases gi V with ⟨E,bV,rfl⟩|⟨Iz,ly,bV,V⟩
    ·exact((ag n Zo).tT b5 _ _ _ oC bV).mono (λac R ap a=>by obtain⟨B,cC,a,_⟩:=a;cases a) (λac R ap a=>a.of dT (λ_ a=>a))
    refine((ag n Zo).tT b5 _ _ _ oC bV).mono ?_ (λac R ap a=>by obtain⟨E,a,_⟩:=a;cases a)
    rintro y8 cp d2 ⟨aAR,hu,Sn,eQ,he,ez⟩
    cases Sn
    have rb:=ez.le
    simp only[ok,Zf]at V
    subst V
    obtain⟨B2,rfl,Dn,_⟩:=eQ.ptr
    have eb:Z X cp cU=zG (b6 x) 7:=by rw[ez.ad _ Zo (by simp;omega)];exact eZ
    have abe:Z X cp bc=zG [.str s, .Z eY] 2:=by rw[ez.ad _ Zo (by simp;omega),d1.ad _ Zo];exact eu
    refine ey (bX eb) (bX abe) b6.eq_1 ⟨?_⟩
    refine ka (rz _ _) ?_
    refine ey (bX eb) (bX abe) b6.eq_1 ⟨?_⟩
    refine ka (rz _ _) ?_
    refine⟨_,hu,rfl,cm.lit (o:=1) (cap:=1) (n:=0) (kind:=eY) (at_:=x.at_) (name:=[]) (no:=false) (ty:=dC) (b:=cU+1+8) (ic:= .own) (cj:=cU+1+6) (aY:=[.ptr B2 0]) (bz (b:=cU+1+8) Zo) ⟨Zo,Zo⟩ ?_ ⟨Zo,Zo⟩ rfl Zo Zo (c2.one (cm.ad (λe D=> ?_) _ _ eQ) (λe D=> ?_)), ?_, ?_⟩
    ·simp(disch:=omega) only[aJ,bz]<;>rfl
    ·have H:=D.1;have K:=D.2
     simp(disch:=omega) only[aJ]
    ·simp only[du]at D ⊢;omega
    ·exact he.ad (zI) (zI)
    ·exact⟨Zo,λe D bT=>by
      rw[<-(dT.trans ez).ad e D bT]
      simp(disch:=omega) only[aJ]⟩
   |false=>
    rw[aD]at hd
    simp only[kZ,aD,Zw,ZA]at ah hd ⊢
    have bw:=zH W
    refine hm b6.eq_1 g1.eq_1 @EK @bw ⟨?_⟩
    refine⟨_, ?_,W+1,rfl,Zo,a6 t0,a6 w9,bt,hd.ad (zI) (zI), ?_,ah⟩
    ·omega
    ·exact⟨Zo,λb ah bT=>by rw[<-uF.ad b ah bT];exact zI⟩
  ·have bx:W=3:=Zo
   subst bx
   simp only[yR,Yr,Yg,mX,Zf]at ah
   refine cY ⟨?_⟩
   exact bx _ _ _ ⟨a6 t0,dq,dy,ah.symm⟩
 ·clear ah
  rintro kJ gn bf ⟨t0,adg,MV,rfl⟩
  simp only[]at V
  have Bc:=MV.le
  have UH:=av.go adg Bc
  refine cq @t0 ⟨?_⟩
  rcases gi V with ⟨E,H,rfl⟩|⟨left,cO,H,V⟩
  ·exact((ag n Zo).part gn bf i _ UH H).mono (λac R ap a=>by obtain⟨B,cC,a,_⟩:=a;cases a) (λac R ap a=>a.of MV (λ_ a=>a))
  refine((ag n Zo).part gn bf i _ UH H).mono ?_ (λac R ap a=>by obtain⟨E,a,_⟩:=a;cases a)
  rintro vy aU aL ⟨B,o8,a7,cb,ec,ij⟩
  cases a7
  have jn:=ij.le
  refine gM ?_
  refine fP (λm I R aP=>∃left v cC,I.g 0=some (.ptr aH 0)/\I.g 7=some v/\cm X R (du j aP) left v/\aT X R aH bM aO cC/\cx X [aH] h j R aP/\l4 m left (aO.drop cC)=some r)
   n ⟨left,vy,o8,a6 t0,bt,cm.lift (λe D=>⟨zC D.1,D.2⟩) _ _ cb,ec,MV.trans ij,V⟩ ?_
  clear cb ec ij H V jn t0 adg MV Bc UH
  rintro m I aQ bc ⟨left,v,i6,t0,fC,cu,dq,dy,V⟩
  cases m with
  |zero=>simp[l4]at V
  |succ m=>
  unfold l4 at V
  have gE:=dy.le
  have fB:=av.go dq gE
  refine gM ?_
  obtain⟨cG,rfl,nL,_⟩:=cu.ptr
  have nL:=nL.2
  refine cq @t0 ⟨?_⟩
  obtain⟨x,bQ,aI,af⟩:=qE V
  refine(nW az fB aI _).Zm ?_
  rintro t2 br bL ⟨rfl,gx,eF⟩
  have jo:=eF.le
  have abN:=dy.trans eF
  have cz:=cm.ex (R:=br) cu (λe H K=>eF.ad e Zo (by simp;omega)) (Zh _) (Zh _)
  rcases af with ⟨aD,V⟩|⟨aD,V⟩
  ·rw[aD]at gx ⊢
   simp only[ZC]at gx ⊢
   rw[<-(fx aI).2]at V
   simp only[]at V
   refine dd b6.eq_1 @t0 ⟨?_⟩
   refine ff (λb5=>bG X br bL b5 (bL+1)/\Z X b5 bL=zG (b6 x) 7) ⟨dS,bz Zo⟩ ?_
   rintro b5 ⟨d1,eZ⟩
   have oC:=fB.go (gx.ex d1 Zo Zo) (by omega:bc<=bL+1)
   obtain⟨e,ly,Jf,J3⟩:=qE V
   refine(nW az oC Jf _).Zm ?_
   rintro agM cp d2 ⟨rfl,he,ez⟩
   have rb:=ez.le
   have eb:Z X cp bL=zG (b6 x) 7:=by rw[ez.ad _ Zo (by simp;omega)];exact eZ
   have uE:=(abN.trans (cx.of d1)).trans ez
   have eQ:=cm.ex (R:=cp) cz (λe H K=>by rw[ez.ad e Zo (by simp;omega),d1.ad e Zo]) (Zh _) (Zh _)
   have mc:andThen (il 1 (aO.drop (if gH e [110,111,116]then i6+1+1 else i6+1))) (λc k=>l4 m (.mk 6 x.at_ c.text (gH e [110,111,116]) dC 0 [left]) k)=some r:=by
    rcases J3 with ⟨Th,mc⟩|⟨Th,mc⟩
    ·simp only[Th,ZC];rw[(fx Jf).2];exact mc
    ·simp only[Th,Zw,ZA];exact mc
   clear V J3
   generalize (if gH e [110,111,116]then i6+1+1 else i6+1)=hu at mc he
   generalize (if gH e [110,111,116]then e else g1)=VF
   generalize gH e [110,111,116]=no at mc
   refine hm b6.eq_1 (bX eb) @t0 @fC ⟨?_⟩
   refine ff (λcH=>bG X cp d2 cH (d2+1+11)/\Z X cH (d2+1+7)=zG [.ptr cG 0] 1) ⟨dS,bz Zo⟩ ?_
   rintro cH ⟨e3,eW⟩
   have nd:=fB.go (he.ex e3 Zo Zo) (by omega:bc<=d2+1+11)
   cases sq:aO.drop hu with
   |nil=>rw[sq]at mc;simp[il,andThen]at mc
   |cons c lz=>
   rw[sq]at mc
   simp only[il]at mc
   refine(BT az nd.bf nd.par nd.ck nd.hp nd.gY nd.many (fx sq).1 1).mono ?_ ?_
   ·rintro u8 ea jM ⟨aC,rfl,wE,gT⟩
    have Dj:=gT.le
    rw[Zq aC]at mc
    simp only[andThen,ok]at mc
    have iX:Z X ea bL=zG (b6 x) 7:=by rw[gT.ad _ Zo (by simp;omega),e3.ad _ Zo];exact eb
    have aoU:Z X ea (d2+1+7)=zG [.ptr cG 0] 1:=by rw[gT.ad _ Zo (by simp;omega)];exact eW
    refine dd b6.eq_1 (bX iX) ⟨?_⟩
    refine ka (rz _ _) ?_
    refine⟨m,Zo,_, .ptr (d2+1+9) 0,hu+1,a6 t0,bt,cm.lit (o:=1) (cap:=1) (n:=0) (kind:=6) (at_:=x.at_) (name:=c.text) (no:=no) (ty:=dC) (b:=d2+1+9) (ic:= .own) (cj:=d2+1+7) (aY:=[.ptr cG 0]) (bz (b:=d2+1+9) Zo) ⟨Zo,Zo⟩ ?_ ⟨Zo,Zo⟩ rfl Zo Zo (c2.one (cm.ad (λe D=> ?_) _ _ eQ) (λe D=> ?_)), ?_, ?_,by rw[(fx sq).2];exact mc⟩
    ·simp(disch:=omega) only[aJ];exact aoU
    ·have H:=D.1;have K:=D.2
     simp(disch:=omega) only[aJ]
     rw[gT.ad e Zo (by simp;omega),e3.ad e Zo]
    ·simp only[du]at D ⊢;omega
    ·exact wE.ad (zI) (zI)
    ·exact⟨Zo,λe D bT=>by
      rw[<-((uE.trans (cx.of e3)).trans gT).ad e D bT]
      simp(disch:=omega) only[aJ]⟩
   ·rintro u8 ea jM ⟨aC,rfl,gT⟩
    rw[Zg aC]at mc
    simp only[andThen,bad,Zf]at mc
    subst mc
    exact⟨_,rfl,rfl,(uE.trans (cx.of e3)).trans gT⟩
  ·rw[aD]at gx ⊢
   simp only[Zw,ZA]at gx ⊢
   simp only[ok,Zf]at V
   subst V
   refine ey b6.eq_1 g1.eq_1 @fC ⟨?_⟩
   refine⟨left,i6,rfl,cm.ex cz (λe H K=> ?_) (Zh _) Zo,gx.ad (zI) (zI), ?_⟩
   ·simp(disch:=omega) only[aJ]
   ·exact⟨Zo,λb ah bT=>by rw[<-abN.ad b ah bT];exact zI⟩
end
section
variable{X:co}{h R aU aQ:S ai}{j ap aL bc aH bM:Nat}{aO:List Tok}{i:Nat}
def vr(E b:Nat)(cw:List Nat):Nat->Prop:=λe=>E<=e/\e<b/\e∉cw
def c2.off{C:aK}{bk:Nat->Prop}{E b cj:Nat}{cw:List Nat}{bi:z}{a1:List bs}{aY:List z}(a:c2 C h (vr E b cw) a1 aY)(V:dZ C h (λe=>bk e/\e∈cw) cj bi 1 (aY.map λv=>[v])):c2 C h (λe=>du E b e/\e≠cj) a1 aY:=by
 cases aY with
 |nil=>
  have:=a.len
  cases a1 with
  |nil=>exact .nil
  |cons=>simp at this
 |cons v aY=>
  have ah:=(V.ah Zs).2
  exact c2.lift (λe D=>⟨⟨D.1,D.2.1⟩,λB=>D.2.2 (B▸ah)⟩) _ _ a
def jG(az:dN X)(av:iG X h j aH bM aO i){cj:Nat}{s:aW}(ws:cj<j)(Tk:cj≠aH)(aD:Z X h cj=zG [.str s] 1){r:Except Int (Tok×List Tok)}(V:dX s (aO.drop i)=some r):
 ba X 59 [.ptr aH 0, .slice cj 0 1 1] h j (λac R ap=>∃x cC,r= .ok (x,aO.drop cC)/\ac= .agg (b6 x)/\aT X R aH bM aO cC/\cx X [aH] h j R ap) (iT X aH h j r):=by
 have H:dZ X h (λe=>e=cj) cj (.slice cj 0 1 1) 1 (f8 [s]):=OW (bu:=[[.str s]]) (st:= .own) aD rfl Zs Zs rfl
 refine(ag1 az av.bf av.par av.ck av.hp av.gY av.many ws Tk H (r:=r) ?_)
 simp only[rH]
 rw[V]
 obtain⟨B|⟨x,k⟩,_⟩:∃al,al=r:=⟨r,rfl⟩
 all_goals(rename_i bP;subst bP;rfl)
def au9(az:dN X){n:Nat}(nK:n<=300000)(ag:∀m,m<n->qK X aH bM aO m):∀h j i r,iG X h j aH bM aO i->Go.aT.list n (aO.drop i)=some r->ba X 175 [.ptr aH 0] h j (λac R ap=>∃a1 cC aY cj,r= .ok (a1,aO.drop cC)/\dZ X R (du j ap) cj ac 1 (aY.map λv=>[v])/\c2 X R (λe=>du j ap e/\e≠cj) a1 aY/\aT X R aH bM aO cC/\cx X [aH] h j R ap) (iT X aH h j r):=by
 intro h j i r av V
 cases n with
 |zero=>simp[Go.aT.list]at V
 |succ n=>
 refine zJ az (aiC X) ?_
 rw[aiD]
 unfold Wq
 have gL:=av.bf
 have ki:=av.hp
 have hc:=av.ck
 have jL:=av.gY
 unfold Go.aT.list at V
 obtain⟨x,bQ,aI,af⟩:=qE V
 refine(nW az av aI _).Zm ?_
 rintro vy aU aL ⟨rfl,ec,ij⟩
 have jn:=ij.le
 rcases af with ⟨aD,V⟩|⟨aD,V⟩
 ·rw[aD]at ec ⊢
  simp only[ZC]at ec ⊢
  simp only[ok,Zf]at V
  subst V
  refine cq b6.eq_1 ⟨?_⟩
  refine⟨[],i+1,[],0,by rw[(fx aI).2],dZ.nil _ _, .nil,ec.ad (zI) (zI), ?_⟩
  exact⟨Zo,λb ah bT=>by rw[<-ij.ad b ah bT];exact zI⟩
 ·rw[aD]at ec ⊢
  simp only[Zw,ZA]at ec ⊢
  simp only[]at V
  refine dd b6.eq_1 g1.eq_1 ⟨?_⟩
  refine ff (λbr=>bG X aU aL br (aL+1)) dS ?_
  intro aQ cu
  have fB:=av.go (ec.ex cu Zo Zo) (by omega:j<=aL+1)
  have dy:=ij.trans (cx.of cu)
  rcases gi V with ⟨E,K,rfl⟩|⟨B,b9,K,V⟩
  ·exact((ag n Zo).arrow aQ _ _ _ fB K).mono (λac R ap a=>by obtain⟨B,cC,a,_⟩:=a;cases a) (λac R ap a=>a.of dy (λ_ a=>by cases a;rfl))
  refine((ag n Zo).arrow aQ _ _ _ fB K).mono ?_ (λac R ap a=>by obtain⟨E,a,_⟩:=a;cases a)
  rintro v3 br bL ⟨er,i3,Gf,cz,gx,eF⟩
  cases Gf
  have jo:=eF.le
  obtain⟨d4,rfl,qn,_⟩:=cz.ptr
  have qn:=qn.2
  refine cY ⟨?_⟩
  refine fP (λm I R aP=>∃a1 aY s cw cC,aY.length+m<=n+1/\I.g 0=some (.ptr aH 0)/\I.g 5=some s/\f0 X R s 1 aY cw/\(∀e∈cw,j<=e/\e<aP)/\c2 X R (vr j aP cw) a1 aY/\aT X R aH bM aO cC/\cx X [aH] h j R aP/\m8 m a1 (aO.drop cC)=some r)
   n ⟨[B],[.ptr d4 0], .slice bL 0 1 1,[bL],i3,by simp;omega,bt,bt, .inr ⟨bL,1,_,_,rfl,rfl,rfl,bz Zo,mF _,rfl,Zo⟩, ?_, ?_,gx.ad (zI) (zI), ?_,V⟩ ?_
  ·intro e D
   simp at D
   omega
  ·refine c2.one (cm.ad (λe D=> ?_) _ _ cz) (λe D=>⟨zC D.1,zC D.2,by have:=D.2;simp;omega⟩)
   have:=D.2
   simp(disch:=omega) only[aJ]
  ·exact⟨Zo,λb ah bT=>by rw[<-(dy.trans eF).ad b ah bT];exact zI⟩
  clear cz gx eF K V qn
  rintro m I b0 cU ⟨a1,aY,s,cw,i4,aZ,t0,t5,g5,fM,Gh,hd,eJ,V⟩
  cases m with
  |zero=>simp[m8]at V
  |succ m=>
  unfold m8 at V
  have jy:=eJ.le
  have kY:=av.go hd jy
  refine gM ?_
  refine cq @t0 ⟨?_⟩
  obtain⟨e,bQ,aI,af⟩:=qE V
  refine(nW az kY aI _).Zm ?_
  rintro HB b5 cA ⟨rfl,gy,dT⟩
  have jz:=dT.le
  have l0:∀e,j<=e->e<cU->Z X b5 e=Z X b0 e:=λe H K=>dT.ad e Zo (by simp;omega)
  have o6:=g5.ad (R:=b5) (λe D=>l0 e (fM e D).1 (fM e D).2)
  have uP:=c2.ad (R:=b5) (λe D=>l0 e D.1 D.2.1) _ _ Gh
  rcases af with ⟨aD,V⟩|⟨aD,V⟩
  ·rw[aD]at gy ⊢
   simp only[ZC]at gy ⊢
   rw[<-(fx aI).2]at V
   simp only[]at V
   refine ey b6.eq_1 @t0 @t5 ⟨?_⟩
   refine ff (λbr=>bG X b5 cA br (cA+1)) dS ?_
   intro cp eQ
   have ez:=(eJ.trans dT).trans (cx.of eQ)
   have mi:=kY.go (gy.ex eQ Zo Zo) (by omega:cU<=cA+1)
   rcases gi V with ⟨E,c9,rfl⟩|⟨Q2,lz,c9,V⟩
   ·exact((ag m Zo).arrow cp _ _ _ mi c9).mono (λac R ap a=>by obtain⟨B,cC,a,_⟩:=a;cases a) (λac R ap a=>a.of ez (λ_ a=>by cases a;rfl))
   refine((ag m Zo).arrow cp _ _ _ mi c9).mono ?_ (λac R ap a=>by obtain⟨E,a,_⟩:=a;cases a)
   rintro Lc cH eh ⟨aaG,mD,yf,e3,hK,e4⟩
   cases yf
   have pF:=e4.le
   obtain⟨Hm,rfl,Do,_⟩:=e3.ptr
   have Do:=Do.2
   refine cY ⟨?_⟩
   have aun:∀gt,gt=bp X cH eh (zG [.ptr Hm 0] 1)->∀e,j<=e->e<cA->Z X gt e=Z X b5 e:=by
    rintro gt rfl e H K
    rw[aJ Zo Zo,e4.ad e Zo (by simp;omega),eQ.ad e Zo]
   have hY:jN X (bp X cH eh (zG [.ptr Hm 0] 1)) 1 (.slice eh 0 1 1)=some (1,[.ptr Hm 0]):=qC (bz Zo) (mF _) rfl _
   obtain⟨e1,ea,gA,gU,Tn,Jc,Di⟩:=(o6.ad (R:=bp X cH eh (zG [.ptr Hm 0] 1)) (λe D=>aun _ rfl e (fM e D).1 (zC (fM e D).2))).append (j:=eh+1) Zd hY rfl Zd rfl (by simp;omega) Zo (λe D=>zC (fM e D).2)
   refine kl gU ?_
   have h8:∀e,e<eh->e∉cw->Z X ea e=Z X cH e:=λe H K=>by
    rw[Di e Zo K,aJ Zo Zo]
   refine⟨m,Zo,a1++[Q2],aY++[.ptr Hm 0],e1,gA,mD,by simp;omega,a6 t0,bt, .inl Tn, ?_, ?_, ?_, ?_,V⟩
   ·intro e D
    rcases Jc e D with rfl|D
    ·omega
    ·have:=fM e D;omega
   ·refine c2.snoc (cm.ad (λe D=> ?_) _ _ e3) (c2.ad (λe D=> ?_) _ _ uP) (λe D=>⟨D.1,zC D.2.1,λfY=> ?_⟩) (λe D=>⟨⟨zC D.1,zC D.2,λfY=> ?_⟩,λo7=>by have:=D.1;have:=o7.2.1;omega⟩)
    ·have H:=D.1
     exact h8 e D.2 (λfY=>zC (fM e fY))
    ·have K:=D.2.1
     rw[h8 e Zo D.2.2,e4.ad e Zo (by have:=D.1;simp;omega),eQ.ad e Zo]
    ·have K:=D.2.1
     rcases Jc e fY with rfl|fY
     ·omega
     ·exact D.2.2 fY
    ·have H:=D.1;have K:=D.2
     rcases Jc e fY with rfl|fY
     ·omega
     ·have:=fM e fY;omega
   ·exact hK.ad (h8 _ Zo (λB=>zC (fM _ B))) (h8 _ Zo (λB=>zC (fM _ B)))
   ·exact⟨Zo,λb ah bT=>by rw[h8 b Zo (λB=>zC (fM _ B))];exact(ez.trans e4).ad b ah bT⟩
  ·rw[aD]at gy ⊢
   simp only[Zw,ZA]at gy ⊢
   simp only[]at V
   refine hm b6.eq_1 g1.eq_1 @t0 @t5 ⟨?_⟩
   refine ff (λbr=>bG X b5 cA br (cA+1+1)/\Z X br (cA+1)=zG [.str [41]] 1) ⟨dS,bz Zo⟩ ?_
   rintro cp ⟨eQ,eb⟩
   have ez:=(eJ.trans dT).trans (cx.of eQ)
   have mi:=kY.go (gy.ex eQ Zo Zo) (by omega:cU<=cA+1+1)
   rcases gi V with ⟨E,c9,rfl⟩|⟨Q2,lz,c9,V⟩
   ·exact(jG az mi Zo Zo eb c9).mono (λac R ap a=>by obtain⟨B,cC,a,_⟩:=a;cases a) (λac R ap a=>a.of ez (λ_ a=>by cases a;rfl))
   refine(jG az mi Zo Zo eb c9).mono ?_ (λac R ap a=>by obtain⟨E,a,_⟩:=a;cases a)
   rintro Lc cH eh ⟨aaG,mD,yf,_,hK,e4⟩
   cases yf
   have pF:=e4.le
   simp only[ok,Zf]at V
   subst V
   refine cq @t5 ⟨?_⟩
   have gG:∀e,j<=e->e<cA->Z X cH e=Z X b5 e:=λe H K=>by
    rw[e4.ad e Zo (by simp;omega),eQ.ad e Zo]
   obtain⟨cj,cR⟩:=(o6.ad (R:=cH) (λe D=>gG e (fM e D).1 (zC (fM e D).2))).B5 (P:=λe=>du j eh e/\e∈cw) Zo (λe D=>⟨⟨(fM e D).1,zC (fM e D).2⟩,D⟩)
   refine⟨a1,mD,aY,cj,rfl,cR.lift (λe D=>D.1), ?_,hK,ez.trans e4⟩
   exact c2.lift (λe D=>⟨⟨D.1.1,zC D.1.2⟩,D.2⟩) _ _ (c2.off (c2.ad (λe D=>gG e D.1 (zC D.2.1)) _ _ uP) cR)
end
section
variable{X:co}{h R aU aQ:S ai}{j ap aL bc aH bM:Nat}{aO:List Tok}{i:Nat}
def awU(az:dN X){n:Nat}{r:Except Int (bs×List Tok)}(av:iG X h j aH bM aO i){x:Tok}{k:List Tok}(aI:aO.drop i=x::k)(aC:x.kind=5)(V:Go.aT.part (n+1) (x::k)=some r):
 ba X 171 [.ptr aH 0] h j (jV X aH bM aO h j r) (iT X aH h j r):=by
 refine zJ az (Ap X) ?_
 rw[Aq]
 unfold xu
 have gL:=av.bf
 have ki:=av.hp
 have hc:=av.ck
 have jL:=av.gY
 obtain⟨af,j2⟩:=fx aI
 unfold Go.aT.part at V
 refine(ru az av.bf av.par av.hp av.gY af).Zm ?_
 rintro ac aU aL ⟨rfl,cb⟩
 have jn:=cb.le
 have ec:=av.par.ex cb Zo Zo
 obtain⟨c,am,bd,ca,a3,a4⟩:=ec.at_
 have bJ:=j7 bd a3
 have jx:=(Zb.1 af).1
 have uY:=av.many
 have cK:=ec.ne
 have bw:=zH i
 refine gb b6.eq_1 @bJ (Za @bw @bd) ⟨?_⟩
 generalize dG:bp X _ aH _=aQ
 have eE:Z X aQ aL=zG (b6 x) 7:=by rw[<-dG];simp(disch:=omega) only[aJ,bz]<;>rfl
 have iK:Z X aQ (aL+1)=zG (gR 0 x.at_ [] false dC 0 .a2) 9:=by rw[<-dG];simp(disch:=omega) only[aJ,bz]<;>rfl
 have dq:aT X aQ aH bM aO (i+1):=by
  refine ec.on (c:=dM c 1 [.Z ((i+1:Nat):Int)]) ?_ (λdE st a=>by rw[bd]at a;cases a;exact rI ..) ?_
  ·rw[<-dG];simp(disch:=omega) only[aJ,bz];rfl
  ·rw[<-dG];simp(disch:=omega) only[aJ]
 have dy:cx X [aH] h j aQ (aL+2):=by
  refine⟨Zo,λb ah bT=> ?_⟩
  rw[<-cb.ad b ah, <-dG]
  simp only[Zr,ZL,Y0,Yx,ZI,Yj]at bT
  simp(disch:=omega) only[aJ]
 clear dG bJ bd ca a3 a4 ec cb
 have tq:∃dR,Z X aQ aH=some (.cells dR 2 .own)/\aV X aQ (.ptr aH 1)=some (.Z ((i+1:Nat):Int)):=by
  obtain⟨c,am,ch,cD,di,f4⟩:=dq.at_
  exact⟨c,ch,j7 ch di⟩
 have fB:=av.go dq (by omega:j<=aL+1+1)
 refine iw (λI R aP=>∃v,I.g 4=some v/\jV X aH bM aO h j r v R aP) (λW bx=> ?_) (by
  rintro I R aP ⟨v,t4,a⟩
  refine cq @t4 ⟨?_⟩
  exact a)
 rw[Zq aC]at V
 simp only[ok,Zf]at V
 subst V
 have fG:decide (x.kind=5)=true:=by simp[aC]
 refine hm (bX eE) @iK @fG b6.eq_1 ⟨?_⟩
 refine ka (by simp[z.same,pK]) ?_
 refine ey (bX eE) @iK b6.eq_1 ⟨?_⟩
 refine ka (rz _ _) ?_
 refine ey (bX eE) @iK b6.eq_1 ⟨?_⟩
 refine ka (rz _ _) ?_
 refine ey (bX eE) @iK b6.eq_1 ⟨?_⟩
 refine bx _ _ _ ⟨.ptr (aL+1) 0,bt,_,i+1,by rw[<-j2],cm.leaf (b:=aL+1) (m:=9) (st:= .own) ?_ ⟨Zo,Zo⟩,dq.ad (zI) (zI), ?_⟩
 ·simp(disch:=omega) only[aJ,bz]<;>rfl
 ·exact⟨Zo,λb ah bT=>by rw[<-dy.ad b ah bT];exact zI⟩
end
section
variable{X:co}{h R aU aQ:S ai}{j ap aL bc aH bM:Nat}{aO:List Tok}{i:Nat}
def afH(az:dN X){n:Nat}{r:Except Int (bs×List Tok)}(av:iG X h j aH bM aO i){x:Tok}{k:List Tok}(aI:aO.drop i=x::k)(aC:x.kind=2)(bh:x.text=[116,114,117,101]\/x.text=[102,97,108,115,101])(V:Go.aT.part (n+1) (x::k)=some r):
 ba X 171 [.ptr aH 0] h j (jV X aH bM aO h j r) (iT X aH h j r):=by
 refine zJ az (Ap X) ?_
 rw[Aq]
 unfold xu
 have gL:=av.bf
 have ki:=av.hp
 have hc:=av.ck
 have jL:=av.gY
 obtain⟨af,j2⟩:=fx aI
 unfold Go.aT.part at V
 refine(ru az av.bf av.par av.hp av.gY af).Zm ?_
 rintro ac aU aL ⟨rfl,cb⟩
 have jn:=cb.le
 have ec:=av.par.ex cb Zo Zo
 obtain⟨c,am,bd,ca,a3,a4⟩:=ec.at_
 have bJ:=j7 bd a3
 have jx:=(Zb.1 af).1
 have uY:=av.many
 have cK:=ec.ne
 have bw:=zH i
 refine gb b6.eq_1 @bJ (Za @bw @bd) ⟨?_⟩
 generalize dG:bp X _ aH _=aQ
 have eE:Z X aQ aL=zG (b6 x) 7:=by rw[<-dG];simp(disch:=omega) only[aJ,bz]<;>rfl
 have iK:Z X aQ (aL+1)=zG (gR 0 x.at_ [] false dC 0 .a2) 9:=by rw[<-dG];simp(disch:=omega) only[aJ,bz]<;>rfl
 have dq:aT X aQ aH bM aO (i+1):=by
  refine ec.on (c:=dM c 1 [.Z ((i+1:Nat):Int)]) ?_ (λdE st a=>by rw[bd]at a;cases a;exact rI ..) ?_
  ·rw[<-dG];simp(disch:=omega) only[aJ,bz];rfl
  ·rw[<-dG];simp(disch:=omega) only[aJ]
 have dy:cx X [aH] h j aQ (aL+2):=by
  refine⟨Zo,λb ah bT=> ?_⟩
  rw[<-cb.ad b ah, <-dG]
  simp only[Zr,ZL,Y0,Yx,ZI,Yj]at bT
  simp(disch:=omega) only[aJ]
 clear dG bJ bd ca a3 a4 ec cb
 have tq:∃dR,Z X aQ aH=some (.cells dR 2 .own)/\aV X aQ (.ptr aH 1)=some (.Z ((i+1:Nat):Int)):=by
  obtain⟨c,am,ch,cD,di,f4⟩:=dq.at_
  exact⟨c,ch,j7 ch di⟩
 have fB:=av.go dq (by omega:j<=aL+1+1)
 refine iw (λI R aP=>∃v,I.g 4=some v/\jV X aH bM aO h j r v R aP) (λW bx=> ?_) (by
  rintro I R aP ⟨v,t4,a⟩
  refine cq @t4 ⟨?_⟩
  exact a)
 rw[Zg (by rw[aC];decide),Zq (by rcases bh with a|a<;>simp[aC,a])]at V
 simp only[ok,Zf]at V
 subst V
 have fG:decide (x.kind=5)=false:=by simp[aC]
 have cE:decide (x.kind=2)=true:=by simp[aC]
 rcases bh with bh|bh
 ·have Ix:decide (x.text=[116,114,117,101])=true:=by simp[bh]
  refine lT (bX eE) @iK @fG @cE @Ix b6.eq_1 ⟨?_⟩
  refine bx _ _ _ ⟨.ptr (aL+1) 0,bt,_,i+1,by rw[<-j2],cm.leaf (b:=aL+1) (m:=9) (st:= .own) (n:=if x.text=[116,114,117,101]then 1 else 0) ?_ ⟨Zo,Zo⟩,dq.ad (zI) (zI), ?_⟩
  ·rw[Zq bh];simp(disch:=omega) only[aJ,bz]<;>rfl
  ·exact⟨Zo,λb ah bT=>by rw[<-dy.ad b ah bT];exact zI⟩
 ·have Ix:decide (x.text=[116,114,117,101])=false:=by simp[bh]
  have bg:decide (x.text=[102,97,108,115,101])=true:=by simp[bh]
  refine eD (bX eE) @iK @fG @cE @Ix @bg b6.eq_1 ⟨?_⟩
  refine bx _ _ _ ⟨.ptr (aL+1) 0,bt,_,i+1,by rw[<-j2],cm.leaf (b:=aL+1) (m:=9) (st:= .own) (n:=if x.text=[116,114,117,101]then 1 else 0) ?_ ⟨Zo,Zo⟩,dq.ad (zI) (zI), ?_⟩
  ·rw[Zg (by rw[bh];decide)];simp(disch:=omega) only[aJ,bz]<;>rfl
  ·exact⟨Zo,λb ah bT=>by rw[<-dy.ad b ah bT];exact zI⟩
end
section
variable{X:co}{h R aU aQ:S ai}{j ap aL bc aH bM:Nat}{aO:List Tok}{i:Nat}
def awW(az:dN X){n:Nat}(ag:∀m,m<n+1->qK X aH bM aO m){r:Except Int (bs×List Tok)}(av:iG X h j aH bM aO i){x:Tok}{k:List Tok}(aI:aO.drop i=x::k)(nK:n<=1000000)(aC:x.kind=1)(V:Go.aT.part (n+1) (x::k)=some r):
 ba X 171 [.ptr aH 0] h j (jV X aH bM aO h j r) (iT X aH h j r):=by
 refine zJ az (Ap X) ?_
 rw[Aq]
 unfold xu
 have gL:=av.bf
 have ki:=av.hp
 have hc:=av.ck
 have jL:=av.gY
 obtain⟨af,j2⟩:=fx aI
 unfold Go.aT.part at V
 refine(ru az av.bf av.par av.hp av.gY af).Zm ?_
 rintro ac aU aL ⟨rfl,cb⟩
 have jn:=cb.le
 have ec:=av.par.ex cb Zo Zo
 obtain⟨c,am,bd,ca,a3,a4⟩:=ec.at_
 have bJ:=j7 bd a3
 have jx:=(Zb.1 af).1
 have uY:=av.many
 have cK:=ec.ne
 have bw:=zH i
 refine gb b6.eq_1 @bJ (Za @bw @bd) ⟨?_⟩
 generalize dG:bp X _ aH _=aQ
 have eE:Z X aQ aL=zG (b6 x) 7:=by rw[<-dG];simp(disch:=omega) only[aJ,bz]<;>rfl
 have iK:Z X aQ (aL+1)=zG (gR 0 x.at_ [] false dC 0 .a2) 9:=by rw[<-dG];simp(disch:=omega) only[aJ,bz]<;>rfl
 have dq:aT X aQ aH bM aO (i+1):=by
  refine ec.on (c:=dM c 1 [.Z ((i+1:Nat):Int)]) ?_ (λdE st a=>by rw[bd]at a;cases a;exact rI ..) ?_
  ·rw[<-dG];simp(disch:=omega) only[aJ,bz];rfl
  ·rw[<-dG];simp(disch:=omega) only[aJ]
 have dy:cx X [aH] h j aQ (aL+2):=by
  refine⟨Zo,λb ah bT=> ?_⟩
  rw[<-cb.ad b ah, <-dG]
  simp only[Zr,ZL,Y0,Yx,ZI,Yj]at bT
  simp(disch:=omega) only[aJ]
 clear dG bJ bd ca a3 a4 ec cb
 have tq:∃dR,Z X aQ aH=some (.cells dR 2 .own)/\aV X aQ (.ptr aH 1)=some (.Z ((i+1:Nat):Int)):=by
  obtain⟨c,am,ch,cD,di,f4⟩:=dq.at_
  exact⟨c,ch,j7 ch di⟩
 have fB:=av.go dq (by omega:j<=aL+1+1)
 refine iw (λI R aP=>∃v,I.g 4=some v/\jV X aH bM aO h j r v R aP) (λW bx=> ?_) (by
  rintro I R aP ⟨v,t4,a⟩
  refine cq @t4 ⟨?_⟩
  exact a)
 rw[Zg (by rw[aC];decide),Zg (by simp[aC]),Zq aC]at V
 have fG:decide (x.kind=5)=false:=by simp[aC]
 have cE:decide (x.kind=2)=false:=by simp[aC]
 have cI:decide (x.kind=1)=true:=by simp[aC]
 refine lT (bX eE) @iK @fG @cE @cI b6.eq_1 ⟨?_⟩
 refine ka (by simp[z.same,BM]) ?_
 refine ey (bX eE) @iK b6.eq_1 ⟨?_⟩
 refine ff (λbr=>Z X br (aL+1)=zG (gR 2 x.at_ x.text false dC 0 .a2) 9/\aT X br aH bM aO (i+1)/\cx X [aH] h j br (aL+1+1+10)) ⟨?_, ?_, ?_⟩ ?_
 ·simp(disch:=omega) only[aJ,bz]<;>rfl
 ·exact dq.ad (zI) (zI)
 ·exact⟨Zo,λb ah bT=>by rw[<-dy.ad b ah bT];exact zI⟩
 clear dq fB dy eE iK tq
 rintro br ⟨iK,gx,eF⟩
 have nc:=av.go gx (by omega:j<=aL+1+1+10)
 rw[<-j2]at V
 obtain⟨e,fI,Dc,atz⟩:=qE V
 refine(nW az nc Dc _).Zm ?_
 rintro HA b0 cU ⟨rfl,hd,eJ⟩
 have jy:=eJ.le
 have IJ:Z X b0 (aL+1)=zG (gR 2 x.at_ x.text false dC 0 .a2) 9:=by rw[eJ.ad _ Zo (by simp;omega)];exact iK
 have uF:=eF.trans eJ
 rcases atz with ⟨aD,V⟩|⟨aD,V⟩
 ·rw[aD]at hd ⊢
  simp only[ZC]at hd ⊢
  rw[<-(fx Dc).2]at V
  simp only[]at V
  refine cq b6.eq_1 ⟨?_⟩
  refine ff (λb5=>bG X b0 cU b5 (cU+1)) dS ?_
  intro b5 d1
  have oC:=nc.go (hd.ex d1 Zo Zo) (by omega:aL+1+1+10<=cU+1)
  have dT:=uF.trans (cx.of d1)
  rcases gi V with ⟨E,bV,rfl⟩|⟨a1,ly,bV,V⟩
  ·exact((ag n Zo).list b5 _ _ _ oC bV).mono (λac R ap a=>by obtain⟨B,cC,aY,cj,a,_⟩:=a;cases a) (λac R ap a=>a.of dT (λ_ a=>by cases a;rfl))
  refine((ag n Zo).list b5 _ _ _ oC bV).mono ?_ (λac R ap a=>by obtain⟨E,a,_⟩:=a;cases a)
  rintro y8 cp d2 ⟨jX,hu,aY,cj,Sn,cR,Gh,he,ez⟩
  cases Sn
  have rb:=ez.le
  simp only[ok,Zf]at V
  subst V
  have si:Z X cp (aL+1)=zG (gR 2 x.at_ x.text false dC 0 .a2) 9:=by rw[ez.ad _ Zo (by simp;omega),d1.ad _ Zo];exact IJ
  have oj:∃w,y8.cells=[w]/\w=y8/\oA y8=true:=by
   have:=cR.len
   cases y8<;>first|exact⟨_,rfl,rfl,rfl⟩|(simp[eT]at this;done)
  obtain⟨w,bF,rfl,tF⟩:=oj
  have cX:∀cH Qz,Z X cH (aL+1)=some (.cells Qz 9 .own)->eI X cH 1 (.ptr (aL+1) 8) w=some (bp X cH (aL+1) (some (.cells (Qz.set 8 (some w)) 9 .own))):=λcH Qz a=>rC a Zo Zo bF tF
  refine cq @si ⟨?_⟩
  refine gr (cX _ _ (bz Zo)) ?_
  refine bx _ _ _ ⟨.ptr (aL+1) 0,bt,_,hu,rfl,cm.of (b:=aL+1) (m:=9) (st:= .own) (cj:=cj) (bi:=w) (kind:=25) (at_:=x.at_) (name:=x.text) (no:=false) (ty:=dC) (n:=0) (aY:=aY) ?_ ⟨Zo,Zo⟩ ?_ (λbo=> ?_) ?_,he.ad (zI) (zI), ?_⟩
  ·simp(disch:=omega) only[aJ,bz]<;>rfl
  ·refine(cR.ad (λe D=> ?_)).lift (λe D=>⟨zC D.1,D.2⟩)
   have:=D.1
   simp(disch:=omega) only[aJ]
  ·have:=(cR.ah (by simpa using bo)).1
   omega
  ·refine c2.lift (λe D=>⟨⟨zC D.1.1,zC D.1.2⟩,zC D.1.1,D.2⟩) _ _ (c2.ad (λe D=> ?_) _ _ Gh)
   have H:=D.1.1
   have K:=D.1.2
   simp(disch:=omega) only[aJ]
  ·exact⟨Zo,λb ah bT=>by rw[<-(dT.trans ez).ad b ah bT];exact zI⟩
 ·rw[aD]at hd ⊢
  simp only[Zw,ZA]at hd ⊢
  simp only[ok,Zf]at V
  subst V
  refine dd b6.eq_1 g1.eq_1 ⟨?_⟩
  refine bx _ _ _ ⟨.ptr (aL+1) 0,bt,_,i+1,rfl,cm.leaf (b:=aL+1) (m:=9) (st:= .own) ?_ ⟨Zo,Zo⟩,hd.ad (zI) (zI), ?_⟩
  ·simp(disch:=omega) only[aJ];exact IJ
  ·exact⟨Zo,λb ah bT=>by rw[<-uF.ad b ah bT];exact zI⟩
end
end
end Go.Proofs.YtendhgofocgngaaGreatDoor

