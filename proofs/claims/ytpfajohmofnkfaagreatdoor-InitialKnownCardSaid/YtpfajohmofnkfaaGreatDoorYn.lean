/- A part of the proof of the claim's last text: what it is used for is said there; no condition of its own. -/
import Derived.Test.YtpfajohmofnkfaaGreatDoorYm
set_option maxHeartbeats 8000000
set_option linter.all false
namespace Go.Proofs.YtpfajohmofnkfaaGreatDoor
open Go.bg Go.a2
noncomputable section
def BJ(t:bx->Option fQ)(f:Int×Int)(F:bz):Int×Int:=if Gi F then(if (t F.name).isSome then f else oy f 23 F.at_)else f
def JU(ap:List Go.a2.Node)(D:Nat)(f:Int×Int)(F:bz):Int×Int:=if F.kind=25 then(match rW ap F.name with
 |none=>oy f 23 F.at_
 |some Y=>if D<=Y then oy f 25 F.at_ else f)else f
def vv(t:bx->Option fQ)(ap:List Go.a2.Node)(D:Nat)(f:Int×Int)(F:bz):(Int×Int)×Bool:=(JU ap D (BJ t f F) F,true)
structure Ek(X:ck)(fG:S ak)(a7 bY:Nat)(p:H)(D:Nat)(cY da:H)(f:Int×Int)(h:S ak)(j:Nat):Prop where
 le:a7<=j
 jJ:f4 X h bY p D cY da f
 low:∀e,e<a7->e≠bY->aa X h e=aa X fG e
section
variable{X:ck}{h T fG aX aJ:S ak}{j ao aL a6:Nat}
def aug(ax:dv X){P:Nat->Prop}{fa bY hG:Nat}{p cY da:H}{D:Nat}{t:bx->Option fQ}{ap:List Go.a2.Node}(axM:(q X).a7<=fa)(kw:(q X).a7<=bY)(yl:bY<fa)(Ms:hG<fa)(Mp:hG≠bY)(cl:am X fG (.ptr hG 0)=some (.ptr bY 0))
 (bu:∀e,P e->e<fa/\e≠bY)(be:rL X fG P cY t)(b0:nD X fG P ap p){f:Int×Int}(oD:Ek X fG fa bY p D cY da f h j){F:bz}{v:H}(bt:cI X h P F v):
 aR X 178 [v, .ptr hG 0] h j (λad T ao=>ad= .bool true/\Ek X fG fa bY p D cY da (vv t ap D f F).1 T ao) (λ_ _ _=>False):=by
 refine c4 (agi X) (ax.none _ _ rfl) ?_
 rw[agj]
 unfold Uj
 refine(asn ax bt).Zm ?_
 rintro ad aX aL ⟨rfl,rfl,jB⟩
 have axO:=oD.le
 have hE:∀h,aa X h hG=aa X fG hG->am X h (.ptr hG 0)=some (.ptr bY 0):=λh a=>by rw[cA,a, <-cA];exact cl
 refine ka (λc1 T aS=>c1.g 0=some v/\c1.g 1=some (.ptr hG 0)/\Ek X fG fa bY p D cY da (BJ t f F) T aS/\cI X T P F v) (λY bH=> ?_) ?_
 ·obtain⟨b,_,_,_,rfl,ai,a0,bd,cg,_⟩:=id bt.open
  unfold BJ at bH
  cases iy:Gi F with
  |false=>
   rw[iy]at bH
   simp only[Zv,ZB]at bH
   refine cH ⟨?_⟩
   exact bH _ _ _ ⟨bn,bn,⟨Zo,oD.jJ,oD.low⟩,bt⟩
  |true=>
   rw[iy]at bH
   simp only[ZD]at bH
   have Rb:=hE aX (oD.low hG Ms Mp)
   have c5:am X aX (.ptr bY 2)=some cY:=by have:=oD.jJ;unfold f4 at this;rw[bJ this];rfl
   refine eu @Rb @c5 @cg ⟨?_⟩
   refine e8 (λaJ=>aa X aJ (aL+12)=some (.cells (S.ofList [.Z 0, .str [], .Z 0, .bool false, .bool false, .Z 0, .str [], .Z 0, .bool false, .Z 0, .Z 0] 0 .nil) 11 .own)/\bj X aX aL aJ (aL+12+1)) ⟨by rw[bh Zo];rfl,Zo,λe I=>by simp(disch:=omega) only[aE]⟩ ?_
   rintro aJ ⟨b2,bE⟩
   have cw:∀e,e<fa->aa X aJ e=aa X aX e:=λe I=>bE.ac e Zo
   refine(Lo (j:=aL+15) (h:=aJ) ax Zo (be.ac (bs:=P) (λe I=>by rw[cw e (bu e I).1];exact oD.low e (bu e I).1 (bu e I).2) (λ_ a=>a)) (λe I=>by have:=(bu e I).1;omega) F.name).Zm ?_
   rintro ad aY ba ⟨rfl,ca⟩
   have ie:=ca.le
   have cQ:aa X aY (aL+12)=some (.cells (S.ofList [.Z 0, .str [], .Z 0, .bool false, .bool false, .Z 0, .str [], .Z 0, .bool false, .Z 0, .Z 0] 0 .nil) 11 .own):=by rw[ca.ac _ Zo];exact b2
   generalize Dc:(t F.name).getD tL=fc
   have sg:pd fc=[.Z fc.kind, .str fc.d.name, .Z fc.d.at_, .bool fc.d.ty.b, .bool fc.d.ty.s, .Z fc.d.ty.w, .str fc.d.on, .Z fc.d.fJ, .bool fc.d.no, .Z fc.eq, .Z fc.left]:=rfl
   rw[sg]
   refine hR ⟨?_⟩
   refine hR ⟨?_⟩
   refine fE (hO (D:=11) (b:=aL+12) (W:=0) (n:=11) cQ Zo rfl Zd Zd rfl) ?_
   generalize fi:bm X aY (aL+12) _=bw
   have ep:∀e,e<aL->aa X bw e=aa X aX e:=λe I=>by rw[<-fi,aE Zo Zo,ca.ac e Zo,bE.ac e I]
   clear fi b2 cQ
   have LG:Ek X fG fa bY p D cY da f bw ba:=⟨Zo,by have:=oD.jJ;unfold f4 at*;rw[ep bY Zo];exact this,λe R U=>by rw[ep e Zo];exact oD.low e R U⟩
   have tj:cI X bw P F (.ptr b 0):=cI.ac (λe I=>ep e (by have:=(bu e I).1;omega)) _ _ bt
   have apq:=hE bw (LG.low hG Ms Mp)
   have aiG:am X bw (.ptr b 1)=some (.Z F.at_):=by rw[cA,ep b (by have:=(bu b ai).1;omega), <-cA];exact bd
   cases r8:(t F.name).isSome with
   |true=>
    rw[r8]at bH
    simp only[ZD]at bH
    refine cH ⟨?_⟩
    exact bH _ _ _ ⟨bn,bn,LG,tj⟩
   |false=>
    rw[r8]at bH
    simp only[Zv,ZB]at bH
    refine cM @apq @aiG ⟨?_⟩
    refine(wp (h:=bw) ax kw LG.jJ 23 F.at_).Zm ?_
    rintro ad bL cb ⟨rfl,CJ,hV,lK⟩
    refine cH ⟨?_⟩
    exact bH _ _ _ ⟨bn,bn,⟨Zo,CJ,λe R U=>by rw[lK e U];exact LG.low e R U⟩,cI.ac (λe I=>lK e (bu e I).2) _ _ tj⟩
 ·rintro K aJ a6 ⟨t0,t1,CD,Is⟩
  obtain⟨b,_,_,_,rfl,ai,a0,bd,cg,_⟩:=id Is.open
  have f2:=CD.le
  show aj _ _
  by_cases E5:F.kind=25
  ·have d:decide (F.kind=25)=true:=by simp[E5]
   have Rb:=hE aJ (CD.low hG Ms Mp)
   have fO:am X aJ (.ptr bY 0)=some p:=by have:=CD.jJ;unfold f4 at this;rw[bJ this];rfl
   refine ev @t0 @t1 @a0 @d @Rb @fO @cg ⟨?_⟩
   refine(Pw (j:=a6+14) (h:=aJ) ax Zo (b0.ac (bs:=P) (λe I=>CD.low e (bu e I).1 (bu e I).2) (λ_ a=>a)) (λe I=>by have:=(bu e I).1;omega) F.name).Zm ?_
   rintro ad aY ba ⟨rfl,ca⟩
   have ie:=ca.le
   have CE:Ek X fG fa bY p D cY da (BJ t f F) aY ba:=⟨Zo,by have:=CD.jJ;unfold f4 at*;rw[ca.ac bY Zo];exact this,λe R U=>by rw[ca.ac e Zo];exact CD.low e R U⟩
   have Rc:=hE aY (CE.low hG Ms Mp)
   have Ky:am X aY (.ptr b 1)=some (.Z F.at_):=by rw[cA,ca.ac b (by have:=(bu b ai).1;omega), <-cA];exact bd
   have eh:am X aY (.ptr bY 1)=some (.Z (D:Int)):=by have:=CE.jJ;unfold f4 at this;rw[bJ this];rfl
   cases ce:rW ap F.name with
   |none=>
    have Z:(vv t ap D f F).1=oy (BJ t f F) 23 F.at_:=by simp[vv,JU,E5,ce]
    rw[Z]
    simp only[ZZ]
    refine gp @t0 @t1 @Rc @Ky ⟨?_⟩
    refine(wp (h:=aY) ax kw CE.jJ 23 F.at_).Zm ?_
    rintro ad bL cb ⟨rfl,CJ,hV,lK⟩
    refine cH ⟨?_⟩
    exact⟨by first|trivial|rfl,Zo,CJ,λe R U=>by rw[lK e U];exact CE.low e R U⟩
   |some Y=>
    simp only[Z5,zb]
    by_cases Mb:D<=Y
    ·have cJ:decide ((D:Int)<=(Y:Int))=true:=by simp only[Zg];omega
     have Z:(vv t ap D f F).1=oy (BJ t f F) 25 F.at_:=by simp[vv,JU,E5,ce,Mb]
     rw[Z]
     refine hQ @t0 @t1 @Rc @Ky @eh @cJ ⟨?_⟩
     refine(wp (h:=aY) ax kw CE.jJ 25 F.at_).Zm ?_
     rintro ad bL cb ⟨rfl,CJ,hV,lK⟩
     refine cH ⟨?_⟩
     exact⟨by first|trivial|rfl,Zo,CJ,λe R U=>by rw[lK e U];exact CE.low e R U⟩
    ·have cJ:decide ((D:Int)<=(Y:Int))=false:=by simp only[Zb];omega
     have Z:(vv t ap D f F).1=BJ t f F:=by simp[vv,JU,E5,ce,Mb]
     rw[Z]
     refine f7 @t0 @t1 @Rc @eh @cJ ⟨?_⟩
     exact⟨by first|trivial|rfl,CE⟩
  ·have d:decide (F.kind=25)=false:=by simp[E5]
   have Z:(vv t ap D f F).1=BJ t f F:=by simp[vv,JU,E5]
   rw[Z]
   refine eu @t0 @a0 @d ⟨?_⟩
   exact⟨by first|trivial|rfl,CD⟩
end
def adF(t:bx->Option fQ)(ap:List Go.a2.Node)(D:Nat)(f:Int×Int)(F:bz):Int×Int:=BS (vv t ap D) f F
section
variable{X:ck}{h:S ak}{j:Nat}
def auh(ax:dv X){P:Nat->Prop}{bY:Nat}{p cY da:H}{D:Nat}{t:bx->Option fQ}{ap:List Go.a2.Node}(aK:(q X).a7<=j)(kw:(q X).a7<=bY)(yl:bY<j)
 (bu:∀e,P e->e<j/\e≠bY)(be:rL X h P cY t)(b0:nD X h P ap p){f:Int×Int}(az:f4 X h bY p D cY da f){F:bz}{v:H}(bt:cI X h P F v):
 aR X 122 [.ptr bY 0,v] h j (λad T ao=>ad= .tuple []/\f4 X T bY p D cY da (adF t ap D f F)/\j<=ao/\∀e,e<j->e≠bY->aa X T e=aa X h e) (λ_ _ _=>False):=by
 refine c4 (afh X) (ax.none _ _ rfl) ?_
 rw[afi]
 unfold TK
 refine cH ⟨?_⟩
 refine e8 (λaX=>aa X aX j=some (.cells (S.ofList [.ptr bY 0] 0 .nil) 1 .own)/\bj X h j aX (j+1)) ⟨bh aK,dM⟩ ?_
 rintro aX ⟨b3,bU⟩
 have RF:∀e,P e->aa X aX e=aa X h e:=λe I=>bU.ac e (bu e I).1
 have cl:am X aX (.ptr j 0)=some (.ptr bY 0):=by rw[bJ b3];rfl
 refine(awj ax (vv t ap D) P (Ek X aX (j+1) bY p D cY da) 178 [] [.ptr j 0] (λs F v aJ a6 gS Is=> ?_) (SizeOf.sizeOf F+1) F Zo f v aX (j+1) ⟨Zi _,by unfold f4 at*;rw[bU.ac bY yl];exact az,λ_ _ _=>rfl⟩ (cI.ac RF _ _ bt)).Zm ?_
 ·refine(aug ax Zo kw Zo Zo Zo cl (λe I=>⟨by have:=(bu e I).1;omega,(bu e I).2⟩) (be.ac (bs:=P) RF (λ_ a=>a)) (b0.ac (bs:=P) RF (λ_ a=>a)) gS Is).Zm ?_
  rintro ad aY ba ⟨rfl,oD⟩
  exact⟨rfl,oD,λe I=>by have:=bu e I;rw[oD.low e Zo this.2,gS.low e Zo this.2]⟩
 ·rintro ad aJ a6 ⟨rfl,oD,_⟩
  refine cH ⟨?_⟩
  have:=oD.le
  exact⟨by first|trivial|rfl,oD.jJ,Zo,λe R U=>by rw[oD.low e Zo U,bU.ac e R]⟩
end
def iG(g:Go.a2.Node):List (Int×fP):=(g.eQ.map λd=>(1,d))++((g.out.map λd=>(2,d))++(g.loc.map λd=>(3,d)))
def mg(g:Go.a2.Node):Nat->List fP
 |0=>g.eQ
 |1=>g.out
 |_=>g.loc
def pF(g:Go.a2.Node):Nat->Nat
 |0=>0
 |1=>g.eQ.length
 |2=>g.eQ.length+g.out.length
 |_=>g.eQ.length+g.out.length+g.loc.length
def acT(g:Go.a2.Node){D:Nat}(aF:D<3):pF g (D+1)=pF g D+(mg g D).length:=by
 match D,aF with
 |0,_=>simp[pF,mg]
 |1,_=>rfl
 |2,_=>rfl
def K4(g:Go.a2.Node):(iG g).length=pF g 3:=by simp[iG,pF];omega
def WP(g:Go.a2.Node){D:Nat}(aF:D<3){Y:Nat}{d:fP}(a:(mg g D)[Y]? =some d):(iG g)[pF g D+Y]? =some (1+(D:Int),d):=by
 match D,aF,a with
 |0,_,a=>
  have bH:=(Zc.1 a).1
  simp only[mg]at a bH
  simp only[iG,pF,ZM]
  rw[Z3 (by simpa using bH),Zx,a];rfl
 |1,_,a=>
  have bH:=(Zc.1 a).1
  simp only[mg]at a bH
  simp only[iG,pF]
  rw[ZT Zs,Zp,Nat.add_sub_cancel_left,Z3 (by simpa using bH),Zx,a];rfl
 |2,_,a=>
  simp only[mg]at a
  simp only[iG,pF]
  rw[ZT (by simp;omega),Zp,ZT (by simp;omega),Zp,show g.eQ.length+g.out.length+Y-g.eQ.length-g.out.length=Y by omega,Zx,a];rfl
section
variable{X:ck}{h T fG aX aJ:S ak}{j ao aL a6:Nat}
def aqA{C:aW}{l:Nat}{J m b:List H}{ah aw:bG}(a:Aj C l (J++m) h j ah aw):ih C (.func (.yield l) J b) m h j ah aw:=⟨a⟩
def akL(ax:dv X){P:Nat->Prop}{g:Go.a2.Node}{fS l cZ dO ei:Nat}{dd dz a8:H}(dX:Nat->S ak->Nat->Prop)
 (R:d5 X fG P cZ dd 8 (g.eQ.map eW))(U:d5 X fG P dO dz 8 (g.out.map eW))(ar:d5 X fG P ei a8 8 (g.loc.map eW))
 (cg:am X h (.ptr fS 2)=some dd)(a3:am X h (.ptr fS 3)=some dz)(a4:am X h (.ptr fS 4)=some a8)
 (Fa:∀i h j,dX i h j->(q X).a7<=j/\∀e,P e->aa X h e=aa X fG e)
 (LI:∀i h j T ao,dX i h j->bj X h j T ao->dX i T ao)
 (Z:∀i D d h j,(iG g)[i]? =some (D,d)->dX i h j->Aj X l [.Z D, .agg (eW d)] h j (λad T ao=>ad= .bool true/\dX (i+1) T ao) (λ_ _ _=>False))
 (cj:dX 0 h j):aR X 132 [.func (.yield l) [] [], .ptr fS 0] h j (λ_ T ao=>dX (iG g).length T ao) (λ_ _ _=>False):=by
 refine c4 (afr X) (ax.none _ _ rfl) ?_
 rw[afs]
 unfold TP
 have FF:∀D,D<3->∃s b,[dd,dz,a8][D]? =some s/\d5 X fG P b s 8 ((mg g D).map eW):=by
  intro D aF
  match D,aF with
  |0,_=>exact⟨dd,cZ,rfl,R⟩
  |1,_=>exact⟨dz,dO,rfl,U⟩
  |2,_=>exact⟨a8,ei,rfl,ar⟩
 have aj3:=(ky R.len).1
 have aj6:=(ky U.len).1
 have sW:=(ky ar.len).1
 have e9:eA [.aT, .aT, .aT] [(0,1,dd),(1,1,dz),(2,1,a8)]=some (.agg [dd,dz,a8]):=by
  simp[eA,p1,p2,lW,aj3,aj6,sW]
 refine eu @cg @a3 @a4 ⟨?_⟩
 refine fE e9 ?_
 refine cH ⟨?_⟩
 refine fD (λm K T aS=>∃(D:Nat),K.g 0=some (.func (.yield l) [] [])/\K.g 13=some (.agg [dd,dz,a8])/\K.g 14=some (.Z (D:Int))/\D+m=3/\dX (pF g D) T aS)
  3 ⟨0,bn,bn,fN,Zo,cj⟩ ?_
 rintro m K aJ a6 ⟨D,t0,i2,kJ,aF,nU⟩
 cases m with
 |zero=>
  have d:decide ((D:Int)<3)=false:=by simp only[Zb];omega
  refine cM @kJ @d ⟨?_⟩
  rw[K4]
  have:D=3:=Zo
  subst this
  exact nU
 |succ m=>
  have d:decide ((D:Int)<3)=true:=by simp only[Zg];omega
  obtain⟨s,b,aI,cz⟩:=FF D Zo
  have d2:tt false 3 1 (.agg [dd,dz,a8]) (.Z (D:Int))=some s:=by
   have ar:Nat.blt D 3=true:=by simp[Nat.blt];omega
   simp only[tt,rk,ar,e2,jK,pE,Yj]
   exact aI
  have ec:=cz.len
  have hp:=cz.many
  rw[Zp]at ec hp
  refine f7 @kJ @i2 @d @d2 @ec ⟨?_⟩
  refine fD (λm K T aS=>∃(Y:Nat),K.g 0=some (.func (.yield l) [] [])/\K.g 13=some (.agg [dd,dz,a8])/\K.g 14=some (.Z (D:Int))/\K.g 3=some (.Z (D:Int))/\K.g 18=some s/\K.g 19=some (.Z ((mg g D).length:Int))/\K.g 20=some (.Z (Y:Int))/\Y+m=(mg g D).length/\dX (pF g D+Y) T aS)
   (mg g D).length ⟨0,a1 t0,a1 i2,a1 kJ,bn,bn,bn,fN,Zo,nU⟩ ?_
  rintro gj c1 aY ba ⟨Y,t0,i2,kJ,t3,GO,xp,D0,bH,yf⟩
  cases gj with
  |zero=>
   have d:decide ((Y:Int)<((mg g D).length:Int))=false:=by simp only[Zb];omega
   have bB:aA .add (.Z (D:Int)) (.Z 1)=some (.Z ((D+1:Nat):Int)):=by rw[eI Zo Zo];rfl
   refine f7 @D0 @xp @kJ @d @bB ⟨?_⟩
   refine⟨m,Zo,D+1,a1 t0,a1 i2,bn,Zo, ?_⟩
   rw[acT g Zo]
   have:Y=(mg g D).length:=Zo
   rw[<-this]
   exact yf
  |succ gj=>
   have d:decide ((Y:Int)<((mg g D).length:Int))=true:=by simp only[Zg];omega
   have bB:aA .add (.Z (Y:Int)) (.Z 1)=some (.Z ((Y+1:Nat):Int)):=by rw[eI Zo Zo];rfl
   have cF:aA .add (.Z 1) (.Z (D:Int))=some (.Z (1+(D:Int))):=eI Zo Zo
   obtain⟨aD,aH⟩:∃aD,(mg g D)[Y]? =some aD:=⟨_,Ze Zo⟩
   obtain⟨wX,anu⟩:=Fa _ _ _ yf
   have oG:=cz.gi Y (by rw[Zp];omega)
   have fC:=(cz.ac anu).row (i:=Y) (r:=eW aD) Zd (by rw[Zx,aH];rfl)
   have j4:eW aD=[.str aD.name, .Z aD.at_, .bool aD.ty.b, .bool aD.ty.s, .Z aD.ty.w, .str aD.on, .Z aD.fJ, .bool aD.no]:=rfl
   rw[j4]at fC
   refine hQ @D0 @xp @GO @d @oG @fC ⟨?_⟩
   generalize fi:bm X _ ba _=bw
   have d1:aa X bw ba=some (.cells (S.ofList [.str aD.name, .Z aD.at_, .bool aD.ty.b, .bool aD.ty.s, .Z aD.ty.w, .str aD.on, .Z aD.fJ, .bool aD.no] 0 .nil) 8 .own):=by rw[<-fi,bh wX];rfl
   have dm:bj X aY ba bw (ba+1):=⟨Zo,λe I=>by rw[<-fi];simp(disch:=omega) only[aE]⟩
   clear fi
   refine gp @t0 @t3 @cF (bJ d1) ⟨?_⟩
   refine aqA ((Z _ _ _ _ _ (WP g Zo aH) (LI _ _ _ _ _ yf dm)).mono ?_ (λ_ _ _ a=>False.elim a))
   rintro ad bL cb ⟨rfl,h4⟩
   refine cM @D0 @bB ⟨?_⟩
   exact⟨gj,Zo,Y+1,a1 t0,a1 i2,a1 kJ,a1 t3,a1 GO,a1 xp,bn,Zo,h4⟩
def K6(ax:dv X){P:Nat->Prop}{g:Go.a2.Node}{n fy hu fS cZ dO ei:Nat}{dd dz a8:H}{dD bi:Kr}{ah:gn}{F:Nat->gn}{r:gn}{aw:rJ}{K:dL}(dX:Nat->S ak->Nat->Prop)
 (aK:(q X).a7<=j)(eo:fy<n)(dt:hu<n)(tk:fS<j)
 (R:d5 X h P cZ dd 8 (g.eQ.map eW))(U:d5 X h P dO dz 8 (g.out.map eW))(ar:d5 X h P ei a8 8 (g.loc.map eW))
 (cg:am X h (.ptr fS 2)=some dd)(a3:am X h (.ptr fS 3)=some dz)(a4:am X h (.ptr fS 4)=some a8)
 (Fa:∀i T aS,dX i T aS->j+2<=aS/\∀e,P e->aa X T e=aa X h e)
 (LI:∀i aX aL aJ a6,dX i aX aL->aL<=a6->(∀e,e<aL->e≠j+1->aa X aJ e=aa X aX e)->dX i aJ a6)
 (cj:∀T,bj X h j T (j+2)->dX 0 T (j+2))
 (apG:∀mk i D d aX aL,(iG g)[i]? =some (D,d)->dX i aX aL->aa X aX j=some (.deferred (some []))->aa X aX (j+1)=some (mk .ready none)->
  sB X dD bi (j+1) mk (λad T aS=>ad= .bool true/\dX (i+1) T aS/\aa X T j=some (.deferred (some []))/\aa X T (j+1)=some (mk .ready none)) (λ_ _ _=>False) (ab (ab K fy (.Z D)) hu (.agg (eW d))) aX aL)
 (CQ:∀T aS,dX (iG g).length T aS->aa X T j=some (.deferred (some []))->ah (vh K j) T aS):
 DO X n (.func (.func 132) [] [.ptr fS 0]) [fy,hu] (sB X dD bi) ah F r aw K h j:=by
 refine⟨aK, ?_⟩
 intro mk II
 refine Wg (ax.none _ _ rfl) ?_
 generalize en:bm X (bm X h j _) (j+1) _=aX
 have mV:aa X aX j=some (.deferred (some [])):=by rw[<-en,aE Zo Zo,bh aK]
 have iw:aa X aX (j+1)=some (mk .ready none):=by rw[<-en,bh Zo]
 have bU:bj X h j aX (j+2):=⟨Zo,λe I=>by rw[<-en];simp(disch:=omega) only[aE]⟩
 clear en
 have LH:=cj aX bU
 obtain⟨_,LK⟩:=Fa _ _ _ LH
 refine(akL (l:=j+1) ax (λi T aS=>dX i T aS/\aa X T j=some (.deferred (some []))/\aa X T (j+1)=some (mk .ready none)) (R.ac LK) (U.ac LK) (ar.ac LK)
  (by rw[bU.fU _ _ tk];exact cg) (by rw[bU.fU _ _ tk];exact a3) (by rw[bU.fU _ _ tk];exact a4)
  (λi T aS a=> ?_) (λi aX aL aJ a6 a bS=> ?_) (λi D d aX aL aM a=> ?_) ⟨LH,mV,iw⟩).Zm ?_
 ·obtain⟨cB,cu⟩:=Fa _ _ _ a.1
  exact⟨Zo,λe I=>by rw[cu e I,LK e I]⟩
 ·obtain⟨cB,cu⟩:=Fa _ _ _ a.1
  exact⟨LI _ _ _ _ _ a.1 bS.le (λe I _=>bS.ac e I),by rw[bS.ac _ Zo];exact a.2.1,by rw[bS.ac _ Zo];exact a.2.2⟩
 ·refine II _ _ _ _ _ a.2.2 ?_
  have bB:Nat.blt fy n=true:=by simp[Nat.blt];omega
  have cF:Nat.blt hu n=true:=by simp[Nat.blt];omega
  simp only[GI,bB,cF,e2]
  exact apG mk i D d aX aL aM a.1 a.2.1 a.2.2
 ·rintro ad aJ a6 ⟨nU,amk,amq⟩
  obtain⟨cB,cu⟩:=Fa _ _ _ nU
  refine⟨.ready,none,Zs,amq, ?_⟩
  show ah _ _ _
  exact CQ _ _ (LI _ _ _ _ _ nU (Zi _) (λe I MJ=>aE Zo MJ)) (by rw[aE Zo Zo];exact amk)
end
def x3{α eR:Type}(st:eR->α->eR)(s:eR){l:List α}{i:Nat}{x:α}(a:l[i]? =some x):(l.take (i+1)).foldl st s=st ((l.take i).foldl st s) x:=by
 rw[ZY,a,List.foldl_append];rfl
def pZ(s:(bx->Option Int)×(Int×Int))(x:Int×fP):(bx->Option Int)×(Int×Int):=
 (λw=>if w=x.2.name then some x.1 else s.1 w,if 0<(s.1 x.2.name).getD 0 then oy s.2 24 x.2.at_ else s.2)
def rU(t:bx->Option fQ)(f:Int×Int)(x:Int×fP):Int×Int:=if t x.2.on=none/\x.2.on≠[]then oy f 23 x.2.fJ else f
def At(t:bx->Option fQ)(g:Go.a2.Node)(f:Int×Int):Int×Int:=(iG g).foldl (rU t) ((iG g).foldl pZ (λ_=>none,f)).2
section
variable{X:ck}{h T fG aX aJ:S ak}{j ao aL a6:Nat}
def K5(ax:dv X){nm dd dz a8 eV:H}{J:H}(aK:(q X).a7<=j):
 aR X 78 [.agg [nm,J,dd,dz,a8,eV]] h j (λad T ao=>ad= .func (.func 132) [] [.ptr j 0]/\ao=j+1/\bj X h j T ao/\am X T (.ptr j 2)=some dd/\am X T (.ptr j 3)=some dz/\am X T (.ptr j 4)=some a8) (λ_ _ _=>False):=by
 refine c4 (aik X) (ax.none _ _ rfl) ?_
 rw[ail]
 unfold Vm
 refine cH ⟨?_⟩
 exact⟨rfl,rfl,dM,by rw[bJ (bh aK)];rfl,by rw[bJ (bh aK)];rfl,by rw[bJ (bh aK)];rfl⟩
structure rD(X:ck)(fY:S ak)(dV bY lS:Nat)(p:H)(D:Int)(cY da:H)(f:Int×Int)(ae:bx->Option Int)(h:S ak)(n:Nat):Prop where
 le:dV+2<=n
 jJ:f4 X h bY p D cY da f
 seen:om X h lS (nM ae)
 low:∀e,e<dV->e≠bY->e≠lS->aa X h e=aa X fY e
def rD.ac{fY:S ak}{dV bY lS:Nat}{p cY da:H}{D:Int}{f:Int×Int}{ae:bx->Option Int}(a:rD X fY dV bY lS p D cY da f ae aX aL)(kw:bY<dV)(IF:lS<dV)(aK:aL<=a6)(aF:∀e,e<aL->e≠dV+1->aa X aJ e=aa X aX e):rD X fY dV bY lS p D cY da f ae aJ a6:=by
 have gr:=a.le
 refine⟨Zo, ?_,a.seen.ac (aF _ Zo Zo),λe R U ar=>by rw[aF e Zo Zo];exact a.low e R U ar⟩
 have:=a.jJ
 unfold f4 at*
 rw[aF _ Zo Zo];exact this
def akl(ax:dv X){P:Nat->Prop}{bY:Nat}{p cY da:H}{D:Int}{t:bx->Option fQ}{g:Go.a2.Node}{row:List H}(aK:(q X).a7<=j)(kw:(q X).a7<=bY)(yl:bY<j)
 (bu:∀e,P e->e<j/\e≠bY)(be:rL X h P cY t){f:Int×Int}(az:f4 X h bY p D cY da f)(b0:pk X h P g row)(wV:True):
 aR X 120 [.ptr bY 0, .agg row] h j (λad T ao=>ad= .tuple []/\f4 X T bY p D cY da (At t g f)/\j<=ao/\∀e,e<j->e≠bY->aa X T e=aa X h e) (λ_ _ _=>False):=by
 refine Hs (afd X) (ax.none _ _ rfl) ?_
 rw[afe]
 unfold TI
 obtain⟨dd,dz,a8,eV,cZ,dO,ei,h2,bC,rfl,nW,l5,py,iV,eX⟩:=b0
 refine cH ⟨?_⟩
 refine e8 (λaX=>aa X aX j=some (.cells (S.ofList [.ptr bY 0] 0 .nil) 1 .own)/\aa X aX (j+1)=some (.cells (S.ofList [.str g.name, .Z g.at_,dd,dz,a8,eV] 0 .nil) 6 .own)
  /\aa X aX (j+1+1)=some (.map [] 0)/\am X aX (.ptr (j+1+1+1) 0)=some (.map (j+1+1))/\bj X h j aX (j+1+1+1+1)) ⟨by(first|assumption|(simp(disch:=omega) only[bh,aE]<;>rfl)|(simp(disch:=omega) only[bh,aE])),by(first|assumption|(simp(disch:=omega) only[bh,aE]<;>rfl)|(simp(disch:=omega) only[bh,aE])),by(first|assumption|(simp(disch:=omega) only[bh,aE]<;>rfl)|(simp(disch:=omega) only[bh,aE])),by rw[cA,bh Zo];rfl,dM⟩ ?_
 rintro aX ⟨j0,b3,b2,cQ,bU⟩
 refine(K5 ax Zo).Zm ?_
 rintro ad aJ a6 ⟨rfl,rfl,bE,cu,ee,fV⟩
 have jy:bj X h j aJ (j+1+1+1+1+1):=bU.trans bE
 have m0:∀e,P e->aa X aJ e=aa X h e:=λe I=>jy.ac e (bu e I).1
 rw[<-bE.ac _ Zo]at j0 b3 b2
 rw[<-bE.fU _ _ Zo]at cQ
 generalize aaQ:j+1+1+1+1+1=dV at*
 have yk:f4 X aJ bY p D cY da f:=by unfold f4 at*;rw[jy.ac bY yl];exact az
 have CV:om X aJ (j+1+1) (nM λ_=>none):=⟨[],0,b2,λ_=>rfl⟩
 refine gM ?_
 refine K6 (P:=P) (g:=g) (cZ:=cZ) (dO:=dO) (ei:=ei) (dd:=dd) (dz:=dz) (a8:=a8) ax (λi T aS=>rD X aJ dV bY (j+1+1) p D cY da (((iG g).take i).foldl pZ (λ_=>none,f)).2 (((iG g).take i).foldl pZ (λ_=>none,f)).1 T aS) Zo Zo Zo Zo
  (nW.ac m0) (l5.ac m0) (py.ac m0) cu ee fV (λi T aS a=>⟨a.le,λe I=>a.low e (by have:=(bu e I).1;omega) (bu e I).2 (by have:=(bu e I).1;omega)⟩)
  (λi aX aL aJ a6 a gr aF=>a.ac Zo Zo gr aF) (λT bS=>⟨Zi _,by unfold f4 at*;rw[bS.ac _ Zo];exact yk,CV.ac (bS.ac _ Zo),λe I _ _=>bS.ac e I⟩) ?_ ?_
 ·intro mk i e7 d aY ba aM gS mV iw
  rw[x3 pZ _ aM]
  generalize ((iG g).take i).foldl pZ (λ_=>none,f)=b8 at gS ⊢
  have gr:=gS.le
  have j4:eW d=[.str d.name, .Z d.at_, .bool d.ty.b, .bool d.ty.s, .Z d.ty.w, .str d.on, .Z d.fJ, .bool d.no]:=rfl
  rw[j4]
  unfold sB
  refine cH ⟨?_⟩
  generalize fi:bm X _ ba _=bw
  have d1:aa X bw ba=some (.cells (S.ofList [.str d.name, .Z d.at_, .bool d.ty.b, .bool d.ty.s, .Z d.ty.w, .str d.on, .Z d.fJ, .bool d.no] 0 .nil) 8 .own):=by rw[<-fi,bh Zo];rfl
  have ep:∀e,e<ba->aa X bw e=aa X aY e:=λe I=>by rw[<-fi];simp(disch:=omega) only[aE]
  clear fi
  refine⟨by rw[ep _ Zo];exact iw, ?_⟩
  generalize kV:bm X bw (dV+1) _=bL
  have fA:aa X bL (dV+1)=some (mk .busy none):=by rw[<-kV,bh Zo]
  have dG:∀e,e≠dV+1->aa X bL e=aa X bw e:=λe I=>by rw[<-kV,aE Zo I]
  clear kV
  have h4:=gS.ac (aJ:=bL) (a6:=ba+1) Zo Zo Zo (λe R U=>by rw[dG e U,ep e R])
  rw[<-dG _ Zo]at d1
  have uk:aa X bL dV=some (.deferred (some [])):=by rw[dG _ Zo,ep _ Zo];exact mV
  have fM:am X bL (.ptr j 0)=some (.ptr bY 0):=by rw[bJ (show aa X bL j=_ by rw[h4.low _ Zo Zo Zo];exact j0)];rfl
  have ei:am X bL (.ptr (j+1+1+1) 0)=some (.map (j+1+1)):=by rw[cA,h4.low _ Zo Zo Zo, <-cA];exact cQ
  have j5:ma X bL 9 (.Z 0) (.map (j+1+1)) (.str d.name) false=some (.Z ((b8.1 d.name).getD 0)):=by
   rw[Dq h4.seen];unfold nM;cases b8.1 d.name<;>rfl
  refine g7 @ei @j5 (bJ d1) ⟨?_⟩
  refine gM ?_
  refine g7 @ei @j5 (bJ d1) ⟨?_⟩
  refine ka (λc1 T aS=>c1.g 4=some (.ptr (j+1+1+1) 0)/\c1.g 6=some (.ptr ba 0)/\c1.g 5=some (.Z e7)/\rD X aJ dV bY (j+1+1) p D cY da (pZ b8 (e7,d)).2 b8.1 T aS/\ba+1<=aS
   /\aa X T ba=some (.cells (S.ofList [.str d.name, .Z d.at_, .bool d.ty.b, .bool d.ty.s, .Z d.ty.w, .str d.on, .Z d.fJ, .bool d.no] 0 .nil) 8 .own)/\aa X T dV=some (.deferred (some []))/\aa X T (dV+1)=some (mk .busy none)) (λY bH=> ?_) ?_
  ·by_cases aI:0<(b8.1 d.name).getD 0
   ·have aD:decide (0<(b8.1 d.name).getD 0)=true:=by simp[aI]
    refine eu @aD @fM (bJ d1) ⟨?_⟩
    refine(wp (h:=bL) ax kw h4.jJ 24 d.at_).Zm ?_
    rintro ad cd er ⟨rfl,anX,q6,nY⟩
    refine cH ⟨?_⟩
    refine bH _ _ _ ⟨bn,bn,bn,⟨Zo, ?_,h4.seen.ac (nY _ Zo),λe R U ar=>by rw[nY e U];exact h4.low e R U ar⟩,Zo,by rw[nY _ Zo];exact d1,by rw[nY _ Zo];exact uk,by rw[nY _ Zo];exact fA⟩
    unfold pZ
    simp only[aI,ZD]
    exact anX
   ·have aD:decide (0<(b8.1 d.name).getD 0)=false:=by simp[aI]
    refine ci @aD ⟨?_⟩
    refine bH _ _ _ ⟨bn,bn,bn,⟨Zo, ?_,h4.seen,h4.low⟩,Zo,d1,uk,fA⟩
    unfold pZ
    simp only[aI,ZB]
    exact h4.jJ
  ·rintro c1 cd er ⟨t4,f3,t5,gT,q6,dU,rX,ams⟩
   have Mc:=gT.le
   have Cb:am X cd (.ptr (j+1+1+1) 0)=some (.map (j+1+1)):=by rw[cA,gT.low _ Zo Zo Zo, <-cA];exact cQ
   show aj _ _
   refine f7 @t4 @f3 @t5 @Cb (bJ dU) ⟨?_⟩
   obtain⟨cr,q7,am5,q5⟩:=M9 (j:=er) (show(q X).a7<=j+1+1 by omega) gT.seen d.name (.Z e7)
   refine kG q7 ?_
   refine cH ⟨?_⟩
   refine⟨⟨.busy,none,by rw[q5 _ Zo];exact ams⟩, ?_⟩
   have AO:f4 X cr bY p D cY da (pZ b8 (e7,d)).2:=by have:=gT.jJ;unfold f4 at*;rw[q5 bY Zo];exact this
   have am6:om X cr (j+1+1) (nM (pZ b8 (e7,d)).1):=by
    have:(λx=>if x=d.name then some (H.Z e7)else nM b8.1 x)=nM (pZ b8 (e7,d)).1:=by
     funext x;unfold nM pZ;by_cases a:x=d.name<;>simp[a]
    rw[<-this];exact am5
   have pu:rD X aJ dV bY (j+1+1) p D cY da (pZ b8 (e7,d)).2 (pZ b8 (e7,d)).1 cr er:=⟨Mc,AO,am6,λe R U ar=>by rw[q5 e ar];exact gT.low e R U ar⟩
   exact⟨rfl,pu.ac Zo Zo (Zi _) (λe R U=>aE Zo U),by rw[aE Zo Zo,q5 _ Zo];exact rX,bh Zo⟩
 ·intro aY ba gS mV
  rw[YS]at gS
  unfold At
  generalize (iG g).foldl pZ (λ_=>none,f)=b8 at gS ⊢
  have gr:=gS.le
  have wA:aa X aY (j+1)=some (.cells (S.ofList [.str g.name, .Z g.at_,dd,dz,a8,eV] 0 .nil) 6 .own):=by rw[gS.low _ Zo Zo Zo];exact b3
  refine ci (bJ wA) ⟨?_⟩
  refine(K5 ax Zo).Zm ?_
  rintro ad bw c7 ⟨rfl,rfl,dm,cu,ee,fV⟩
  generalize CW:ba+1=dW at*
  have uw:f4 X bw bY p D cY da b8.2:=by have:=gS.jJ;unfold f4 at*;rw[dm.ac bY Zo];exact this
  have HR:aa X bw dV=some (.deferred (some [])):=by rw[dm.ac _ Zo];exact mV
  have k3:∀e,P e->aa X bw e=aa X h e:=λe I=>by
   have:=bu e I
   rw[dm.ac e Zo,gS.low e Zo this.2 Zo,m0 e I]
  have OM:aa X bw j=some (.cells (S.ofList [.ptr bY 0] 0 .nil) 1 .own):=by rw[dm.ac _ Zo,gS.low _ Zo Zo Zo];exact j0
  refine gM ?_
  refine K6 (P:=P) (g:=g) (cZ:=cZ) (dO:=dO) (ei:=ei) (dd:=dd) (dz:=dz) (a8:=a8) ax (λi T aS=>rD X bw dW bY (j+1+1) p D cY da (((iG g).take i).foldl (rU t) b8.2) b8.1 T aS) Zo Zo Zo Zo
   (nW.ac k3) (l5.ac k3) (py.ac k3) cu ee fV (λi T aS a=>⟨a.le,λe I=>a.low e (by have:=(bu e I).1;omega) (bu e I).2 (by have:=(bu e I).1;omega)⟩)
   (λi aX aL aJ a6 a gr aF=>a.ac Zo Zo gr aF) (λT bS=>⟨Zi _,by unfold f4 at*;rw[bS.ac _ Zo];exact uw,(gS.seen.ac (dm.ac _ Zo)).ac (bS.ac _ Zo),λe I _ _=>bS.ac e I⟩) ?_ ?_
  ·intro mk i e7 d bL cb aM h4 uk amr
   rw[x3 (rU t) _ aM]
   generalize ((iG g).take i).foldl (rU t) b8.2=G at h4 ⊢
   have hV:=h4.le
   have j4:eW d=[.str d.name, .Z d.at_, .bool d.ty.b, .bool d.ty.s, .Z d.ty.w, .str d.on, .Z d.fJ, .bool d.no]:=rfl
   rw[j4]
   unfold sB
   refine cH ⟨?_⟩
   generalize f8:bm X _ cb _=cd
   have dU:aa X cd cb=some (.cells (S.ofList [.str d.name, .Z d.at_, .bool d.ty.b, .bool d.ty.s, .Z d.ty.w, .str d.on, .Z d.fJ, .bool d.no] 0 .nil) 8 .own):=by rw[<-f8,bh Zo];rfl
   have dQ:∀e,e<cb->aa X cd e=aa X bL e:=λe I=>by rw[<-f8];simp(disch:=omega) only[aE]
   clear f8
   refine⟨by rw[dQ _ Zo];exact amr, ?_⟩
   generalize lI:bm X cd (dW+1) _=cr
   have eN:aa X cr (dW+1)=some (mk .busy none):=by rw[<-lI,bh Zo]
   have gm:∀e,e≠dW+1->aa X cr e=aa X cd e:=λe I=>by rw[<-lI,aE Zo I]
   clear lI
   have pu:=h4.ac (aJ:=cr) (a6:=cb+1) Zo Zo Zo (λe R U=>by rw[gm e U,dQ e R])
   rw[<-gm _ Zo]at dU
   have s4:aa X cr dW=some (.deferred (some [])):=by rw[gm _ Zo,dQ _ Zo];exact uk
   have fM:am X cr (.ptr j 0)=some (.ptr bY 0):=by rw[bJ (show aa X cr j=_ by rw[pu.low _ Zo Zo Zo];exact OM)];rfl
   have c5:am X cr (.ptr bY 2)=some cY:=by have:=pu.jJ;unfold f4 at this;rw[bJ this];rfl
   have jg:∀T aS,rD X bw dW bY (j+1+1) p D cY da (rU t G (e7,d)) b8.1 T aS->aa X T dW=some (.deferred (some []))->(H.bool true=H.bool true/\rD X bw dW bY (j+1+1) p D cY da (rU t G (e7,d)) b8.1 (bm X T (dW+1) (some (mk .ready none))) aS/\aa X (bm X T (dW+1) (some (mk .ready none))) dW=some (.deferred (some []))/\aa X (bm X T (dW+1) (some (mk .ready none))) (dW+1)=some (mk .ready none)):=λT aS a U=>
    ⟨rfl,a.ac Zo Zo (Zi _) (λe R U=>aE Zo U),by rw[aE Zo Zo];exact U,bh Zo⟩
   refine x6 ⟨?_⟩
   refine gM ?_
   refine eu @fM @c5 (bJ dU) ⟨?_⟩
   refine e8 (λdH=>aa X dH (cb+1+10)=some (.cells (S.ofList [.Z 0, .str [], .Z 0, .bool false, .bool false, .Z 0, .str [], .Z 0, .bool false, .Z 0, .Z 0] 0 .nil) 11 .own)/\bj X cr (cb+1) dH (cb+1+10+1)) ⟨by rw[bh Zo];rfl,Zo,λe I=>by simp(disch:=omega) only[aE]⟩ ?_
   rintro dH ⟨hf,hM⟩
   refine(Lo (j:=cb+1+13) (h:=dH) ax Zo (be.ac (bs:=P) (λe I=>by have:=bu e I;rw[hM.ac e Zo,pu.low e Zo this.2 Zo,k3 e I]) (λ_ a=>a)) (λe I=>by have:=(bu e I).1;omega) d.on).Zm ?_
   rintro ad dY iX ⟨rfl,kk⟩
   have tm:=kk.le
   have kU:aa X dY (cb+1+10)=some (.cells (S.ofList [.Z 0, .str [], .Z 0, .bool false, .bool false, .Z 0, .str [], .Z 0, .bool false, .Z 0, .Z 0] 0 .nil) 11 .own):=by rw[kk.ac _ Zo];exact hf
   generalize Dc:(t d.on).getD tL=fc
   have sg:pd fc=[.Z fc.kind, .str fc.d.name, .Z fc.d.at_, .bool fc.d.ty.b, .bool fc.d.ty.s, .Z fc.d.ty.w, .str fc.d.on, .Z fc.d.fJ, .bool fc.d.no, .Z fc.eq, .Z fc.left]:=rfl
   rw[sg]
   refine hR ⟨?_⟩
   refine hR ⟨?_⟩
   refine fE (hO (D:=11) (b:=cb+1+10) (W:=0) (n:=11) kU Zo rfl Zd Zd rfl) ?_
   generalize q1:bm X dY (cb+1+10) _=fY
   have l7:∀e,e<cb+1->aa X fY e=aa X cr e:=λe I=>by rw[<-q1,aE Zo Zo,kk.ac e Zo,hM.ac e I]
   clear q1 hf kU
   have ni:rD X bw dW bY (j+1+1) p D cY da G b8.1 fY iX:=pu.ac Zo Zo Zo (λe R U=>l7 e R)
   rw[<-l7 _ Zo]at dU eN s4
   have ajt:am X fY (.ptr j 0)=some (.ptr bY 0):=by rw[cA,l7 _ Zo, <-cA];exact fM
   cases r8:(t d.on)with
   |some awg=>
    have l3:rU t G (e7,d)=G:=by unfold rU;rw[Zh (by simp[r8])]
    simp only[Z5]
    refine cH ⟨?_⟩
    rw[l3]at jg ⊢
    exact⟨⟨.busy,none,eN⟩,jg _ _ ni s4⟩
   |none=>
    simp only[ZZ]
    by_cases n1:d.on=[]
    ·have l3:rU t G (e7,d)=G:=by unfold rU;rw[Zh (by simp[n1])]
     have aD:decide (d.on≠[])=false:=by simp[n1]
     refine cM (bJ dU) @aD ⟨?_⟩
     rw[l3]at jg ⊢
     exact⟨⟨.busy,none,eN⟩,jg _ _ ni s4⟩
    ·have l3:rU t G (e7,d)=oy G 23 d.fJ:=by unfold rU;rw[Zq ⟨r8,n1⟩]
     have aD:decide (d.on≠[])=true:=by simp[n1]
     refine eu (bJ dU) @aD @ajt ⟨?_⟩
     refine(wp (h:=fY) ax kw ni.jJ 23 d.fJ).Zm ?_
     rintro ad B2 asq ⟨rfl,Qp,aoJ,uG⟩
     refine cH ⟨?_⟩
     rw[l3]at jg ⊢
     have Iz:=ni.le
     exact⟨⟨.busy,none,by rw[uG _ Zo];exact eN⟩,jg _ _ ⟨Zo,Qp,ni.seen.ac (uG _ Zo),λe R U ar=>by rw[uG e U];exact ni.low e R U ar⟩ (by rw[uG _ Zo];exact s4)⟩
  ·intro bL cb h4 uk
   rw[YS]at h4
   generalize (iG g).foldl (rU t) b8.2=G at h4 ⊢
   have hV:=h4.le
   have amm:aa X bL dV=some (.deferred (some [])):=by rw[h4.low _ Zo Zo Zo];exact HR
   show m6 X [] _ _ _ _ _
   simp only[sr,rr,sP]
   refine⟨by show(q X).a7<=dW;omega,uk, ?_⟩
   refine⟨by show(q X).a7<=dV;omega,by rw[aE Zo Zo];exact amm, ?_⟩
   show qx _ _ _ _ _
   refine⟨rfl, ?_,Zo,λe R U=> ?_⟩
   ·have:=h4.jJ
    unfold f4 at*
    rw[aE Zo Zo,aE Zo Zo];exact this
   ·rw[aE Zo Zo,aE Zo Zo,h4.low e Zo U Zo,dm.ac e Zo,gS.low e Zo U Zo,jy.ac e R]
end
def xf(s:(bx->Option fQ)×List bx)(x:Int×fP):(bx->Option fQ)×List bx:=
 if (s.1 x.2.name).isSome then s else(λw=>if w=x.2.name then some ⟨x.1,x.2, -1, -1⟩else s.1 w,s.2++[x.2.name])
def xg(D:Nat)(t:bx->Option fQ)(x:bx×Nat):bx->Option fQ:=match t x.1 with
 |some v=>if v.eq<0 then(λw=>if w=x.1 then some ⟨v.kind,v.d,D,x.2⟩else t w)else t
 |none=>t
def JG(t:bx->Option fQ)(x:hl×Nat):bx->Option fQ:=x.1.left.zipIdx.foldl (xg x.2) t
def qs(g:Go.a2.Node):(bx->Option fQ)×List bx:=(iG g).foldl xf (λ_=>none,[])
def i6(g:Go.a2.Node):bx->Option fQ:=g.eqs.zipIdx.foldl JG (qs g).1
def Nc(g:Go.a2.Node):List bx:=(qs g).2
def vI(t:bx->Option fQ):bx->Option H:=λw=>(t w).map λv=> .agg (pd v)
def Tm{α:Type}{l:List α}{i:Nat}{x:α}(a:l[i]? =some x):l.zipIdx[i]? =some (x,i):=by
 rw[List.getElem?_zipIdx,a];simp
section
variable{X:ck}{h T fG aX aJ:S ak}{j ao aL a6:Nat}
structure rI(X:ck)(fY:S ak)(dV lS cY bT:Nat)(t:bx->Option fQ)(mF:List bx)(h:S ak)(n:Nat):Prop where
 le:bT<=n
 map:om X h lS (vI t)
 vG:∃c a8 cK,aa X h cY=some (.cells c 2 .own)/\c.get 0=some (.map lS)/\c.get 1=some a8/\gD X h a8 1 (mF.map .str) cK/\∀e∈cK,bT<=e/\e<n
 low:∀e,e<dV->e≠lS->e≠cY->aa X h e=aa X fY e
def rI.ac{fY:S ak}{dV lS cY bT:Nat}{t:bx->Option fQ}{mF:List bx}(a:rI X fY dV lS cY bT t mF aX aL)(IF:lS<dV)(mx:cY<dV)(nZ:dV<=bT)(aK:aL<=a6)(aF:∀e,e<aL->(e<dV\/bT<=e)->aa X aJ e=aa X aX e):rI X fY dV lS cY bT t mF aJ a6:=by
 have gr:=a.le
 refine⟨Zo,a.map.ac (aF _ Zo Zo), ?_,λe R U ar=>by rw[aF e Zo Zo];exact a.low e R U ar⟩
 obtain⟨c,a8,cK,b3,b2,cQ,d1,fA⟩:=a.vG
 exact⟨c,a8,cK,by rw[aF _ Zo Zo];exact b3,b2,cQ,d1.ac (λe I=>by have:=fA e I;exact aF e Zo Zo),λe I=>by have:=fA e I;omega⟩
def acS(ax:dv X){P:Nat->Prop}{g:Go.a2.Node}{row:List H}(aK:(q X).a7<=j)(bu:∀e,P e->e<j)(b0:pk X h P g row)(bp:(iG g).length<=300000):
 aR X 32 [.agg row] h j (λad T ao=>∃cY lS a8 b,ad= .ptr cY 0/\dy j ao cY/\dy j ao lS/\am X T (.ptr cY 0)=some (.map lS)/\om X T lS (vI (i6 g))/\am X T (.ptr cY 1)=some a8/\d5 X T (dy j ao) b a8 1 (il (Nc g))/\bj X h j T ao) (λ_ _ _=>False):=by
 refine Hs (ahW X) (ax.none _ _ rfl) ?_
 rw[ahX]
 unfold U8
 obtain⟨dd,dz,a8,eV,cZ,dO,ei,h2,bC,rfl,nW,l5,py,iV,eX⟩:=b0
 refine cH ⟨?_⟩
 refine e8 (λaX=>aa X aX j=some (.cells (S.ofList [.str g.name, .Z g.at_,dd,dz,a8,eV] 0 .nil) 6 .own)
  /\aa X aX (j+1)=some (.map [] 0)/\aa X aX (j+1+1)=some (.cells (S.ofList [.map (j+1), .aT] 0 .nil) 2 .own)/\am X aX (.ptr (j+1+1+1) 0)=some (.ptr (j+1+1) 0)/\bj X h j aX (j+1+1+1+1)) ⟨by(first|assumption|(simp(disch:=omega) only[bh,aE]<;>rfl)|(simp(disch:=omega) only[bh,aE])),by(first|assumption|(simp(disch:=omega) only[bh,aE]<;>rfl)|(simp(disch:=omega) only[bh,aE])),by(first|assumption|(simp(disch:=omega) only[bh,aE]<;>rfl)|(simp(disch:=omega) only[bh,aE])),by rw[cA,bh Zo];rfl,dM⟩ ?_
 rintro aX ⟨j0,b3,b2,cQ,bU⟩
 refine(K5 ax Zo).Zm ?_
 rintro ad aJ a6 ⟨rfl,rfl,bE,cu,ee,fV⟩
 have jy:bj X h j aJ (j+1+1+1+1+1):=bU.trans bE
 have m0:∀e,P e->aa X aJ e=aa X h e:=λe I=>jy.ac e (bu e I)
 rw[<-bE.ac _ Zo]at j0 b3 b2
 rw[<-bE.fU _ _ Zo]at cQ
 generalize aaQ:j+1+1+1+1+1=dV at*
 refine gM ?_
 refine K6 (P:=P) (g:=g) (cZ:=cZ) (dO:=dO) (ei:=ei) (dd:=dd) (dz:=dz) (a8:=a8) ax (λi T aS=>rI X aJ dV (j+1) (j+1+1) (dV+2) (((iG g).take i).foldl xf (λ_=>none,[])).1 (((iG g).take i).foldl xf (λ_=>none,[])).2 T aS/\(((iG g).take i).foldl xf (λ_=>none,[])).2.length<=i) Zo Zo Zo Zo
  (nW.ac m0) (l5.ac m0) (py.ac m0) cu ee fV (λi T aS a=>⟨a.1.le,λe I=>a.1.low e (by have:=bu e I;omega) (by have:=bu e I;omega) (by have:=bu e I;omega)⟩)
  (λi aX aL aJ a6 a gr aF=>⟨a.1.ac Zo Zo Zo gr (λe R U=>aF e R Zo),a.2⟩)
  (λT bS=>⟨⟨Zi _,⟨[],0,by rw[bS.ac _ Zo];exact b3,λ_=>rfl⟩,⟨_, .aT,[],by rw[bS.ac _ Zo];exact b2,rfl,rfl, .inl (.inl ⟨rfl,rfl,rfl⟩),λe I=>by simp at I⟩,λe I _ _=>bS.ac e I⟩,Zs⟩) ?_ ?_
 ·intro mk i e7 d aY ba aM gS mV iw
  rw[x3 xf _ aM]
  generalize ((iG g).take i).foldl xf (λ_=>none,[])=b8 at gS ⊢
  obtain⟨gS,fB⟩:=gS
  have axk:=(Zc.1 aM).1
  have gr:=gS.le
  have j4:eW d=[.str d.name, .Z d.at_, .bool d.ty.b, .bool d.ty.s, .Z d.ty.w, .str d.on, .Z d.fJ, .bool d.no]:=rfl
  rw[j4]
  unfold sB
  refine cH ⟨?_⟩
  generalize fi:bm X _ ba _=bw
  have d1:aa X bw ba=some (.cells (S.ofList [.str d.name, .Z d.at_, .bool d.ty.b, .bool d.ty.s, .Z d.ty.w, .str d.on, .Z d.fJ, .bool d.no] 0 .nil) 8 .own):=by rw[<-fi,bh Zo];rfl
  have ep:∀e,e<ba->aa X bw e=aa X aY e:=λe I=>by rw[<-fi];simp(disch:=omega) only[aE]
  clear fi
  refine⟨by rw[ep _ Zo];exact iw, ?_⟩
  generalize kV:bm X bw (dV+1) _=bL
  have fA:aa X bL (dV+1)=some (mk .busy none):=by rw[<-kV,bh Zo]
  have dG:∀e,e≠dV+1->aa X bL e=aa X bw e:=λe I=>by rw[<-kV,aE Zo I]
  clear kV
  have h4:=gS.ac (aJ:=bL) (a6:=ba+1) Zo Zo Zo Zo (λe R U=>by rw[dG e Zo,ep e R])
  rw[<-dG _ Zo]at d1
  have uk:aa X bL dV=some (.deferred (some [])):=by rw[dG _ Zo,ep _ Zo];exact mV
  have ei:am X bL (.ptr (j+1+1+1) 0)=some (.ptr (j+1+1) 0):=by rw[cA,h4.low _ Zo Zo Zo, <-cA];exact cQ
  obtain⟨jY,ayT,ajF,e0,fF,hv,oc,m5⟩:=h4.vG
  have j5:ma X bL 9 (.agg [.Z 0, .str [], .Z 0, .bool false, .bool false, .Z 0, .str [], .Z 0, .bool false, .Z 0, .Z 0]) (.map (j+1)) (.str d.name) true=some (.tuple [.agg (pd ((b8.1 d.name).getD tL)), .bool (b8.1 d.name).isSome]):=by
   rw[Dq h4.map];unfold vI;cases b8.1 d.name<;>rfl
  generalize Dc:(b8.1 d.name).getD tL=fc at j5
  have sg:pd fc=[.Z fc.kind, .str fc.d.name, .Z fc.d.at_, .bool fc.d.ty.b, .bool fc.d.ty.s, .Z fc.d.ty.w, .str fc.d.on, .Z fc.d.fJ, .bool fc.d.no, .Z fc.eq, .Z fc.left]:=rfl
  rw[sg]at j5
  have jg:∀T aS (G:(bx->Option fQ)×List bx),rI X aJ dV (j+1) (j+1+1) (dV+2) G.1 G.2 T aS->G.2.length<=i+1->aa X T dV=some (.deferred (some []))->(H.bool true=H.bool true/\(rI X aJ dV (j+1) (j+1+1) (dV+2) G.1 G.2 (bm X T (dV+1) (some (mk .ready none))) aS/\G.2.length<=i+1)/\aa X (bm X T (dV+1) (some (mk .ready none))) dV=some (.deferred (some []))/\aa X (bm X T (dV+1) (some (mk .ready none))) (dV+1)=some (mk .ready none)):=λT aS G a aB U=>
   ⟨rfl,⟨a.ac Zo Zo Zo (Zi _) (λe R U=>aE Zo Zo),aB⟩,by rw[aE Zo Zo];exact U,bh Zo⟩
  refine x6 ⟨?_⟩
  refine gM ?_
  refine f7 @ei (bJ e0) @fF (bJ d1) @j5 ⟨?_⟩
  generalize f8:bm X _ (ba+1+10) _=cd
  have dQ:∀e,e<ba+1->aa X cd e=aa X bL e:=λe I=>by rw[<-f8];simp(disch:=omega) only[aE]
  clear f8 j5
  have gT:rI X aJ dV (j+1) (j+1+1) (dV+2) b8.1 b8.2 cd (ba+1+13):=h4.ac Zo Zo Zo Zo (λe R U=>dQ e R)
  rw[<-dQ _ Zo]at d1 fA uk
  have Cb:am X cd (.ptr (j+1+1+1) 0)=some (.ptr (j+1+1) 0):=by rw[cA,dQ _ Zo, <-cA];exact ei
  have adt:aa X cd (j+1+1)=some (.cells jY 2 .own):=by rw[dQ _ Zo];exact e0
  cases aI:b8.1 d.name with
  |some awg=>
   have gf:xf b8 (e7,d)=b8:=by unfold xf;rw[Zq (by simp[aI])]
   rw[gf]
   simp only[Z5]
   refine cH ⟨?_⟩
   exact⟨⟨.busy,none,fA⟩,jg _ _ b8 (gT.ac Zo Zo Zo Zo (λ_ _ _=>rfl)) Zo uk⟩
  |none=>
   have gf:xf b8 (e7,d)=(λw=>if w=d.name then some ⟨e7,d, -1, -1⟩else b8.1 w,b8.2++[d.name]):=by unfold xf;rw[Zh (by simp[aI])]
   rw[gf]
   simp only[ZZ]
   refine gp @Cb (bJ adt) @fF (bJ d1) ⟨?_⟩
   generalize jf:ba+1+13+10=N
   obtain⟨cr,q7,Fb,q5⟩:=M9 (j:=N) (show(q X).a7<=j+1 by omega) gT.map d.name (.agg (pd ⟨e7,d, -1, -1⟩))
   refine kG q7 ?_
   have VZ:am X cr (.ptr (j+1+1+1) 0)=some (.ptr (j+1+1) 0):=by rw[cA,q5 _ Zo, <-cA];exact Cb
   have adu:aa X cr (j+1+1)=some (.cells jY 2 .own):=by rw[q5 _ Zo];exact adt
   rw[<-q5 _ Zo]at d1 fA uk
   refine gp @VZ (bJ adu) @hv (bJ d1) ⟨?_⟩
   generalize nk:bm X cr (N+7) _=dH
   have akH:aa X dH (N+7)=some (.cells (S.ofList [.str d.name] 0 .nil) 1 .own):=by rw[<-nk,bh Zo]
   have ht:∀e,e<N->aa X dH e=aa X cr e:=λe I=>by rw[<-nk];simp(disch:=omega) only[aE]
   clear nk q7
   obtain⟨fs,dY,gw,ic,abe,μ,qd⟩:=(oc.ac (T:=dH) (λe I=>by have:=m5 e I;rw[ht e Zo,q5 e Zo,dQ e Zo])).append (j:=N+12) Zd (rs akH (n4 _) rfl _) rfl Zd rfl (by simp;omega) Zo (λe I=>by have:=m5 e I;omega)
   refine kG ic ?_
   have gV:∀e,e<N->e∉ajF->aa X dY e=aa X cr e:=λe I a=>by rw[qd e Zo a,ht e I]
   have ajy:am X dY (.ptr (j+1+1+1) 0)=some (.ptr (j+1+1) 0):=by rw[cA,gV _ Zo (λa=>by have:=m5 _ a;omega), <-cA];exact VZ
   have atN:aa X dY (j+1+1)=some (.cells jY 2 .own):=by rw[gV _ Zo (λa=>by have:=m5 _ a;omega)];exact adu
   refine ci @ajy ⟨?_⟩
   refine gQ (by simp[H.same]) ?_
   obtain⟨fy,hu,xh⟩:=ks.one abe
   refine fE (rt atN Zo Zo fy hu) ?_
   refine cH ⟨?_⟩
   generalize q1:bm X dY (j+1+1) _=fY
   have adw:aa X fY (j+1+1)=some (.cells (jY.set 1 (some fs)) 2 .own):=by rw[<-q1,bh Zo]
   have l7:∀e,e≠j+1+1->aa X fY e=aa X dY e:=λe I=>by rw[<-q1,aE Zo I]
   clear q1
   have d0:∀e,e<ba+1->(e<dV\/e=dV\/e=dV+1)->e≠j+1+1->e≠j+1->aa X fY e=aa X cd e:=λe I R U ar=>by
    rw[l7 e U,gV e Zo (λa=>by have:=m5 _ a;omega),q5 e ar]
   refine⟨⟨.busy,none, ?_⟩,jg _ _ (_,b8.2++[d.name]) ⟨Zo, ?_,⟨jY.set 1 (some fs),fs,gw,adw, ?_, ?_, ?_, ?_⟩, ?_⟩ (by simp;omega) ?_⟩
   ·rw[l7 _ Zo,gV _ Zo (λa=>by have:=m5 _ a;omega)];exact fA
   ·have:(λx=>if x=d.name then some (H.agg (pd ⟨e7,d, -1, -1⟩))else vI b8.1 x)=vI (λw=>if w=d.name then some ⟨e7,d, -1, -1⟩else b8.1 w):=by
     funext x;unfold vI;by_cases a:x=d.name<;>simp[a]
    rw[this]at Fb
    exact Fb.ac (by rw[l7 _ Zo,gV _ Zo (λa=>by have:=m5 _ a;omega)])
   ·rw[S.j1,Zh Zd];exact fF
   ·rw[S.j1,Zq rfl]
   ·rw[Yv]
    exact .inl (abe.ac λe I=>l7 e (by rcases μ e I with rfl|a;omega;have:=m5 _ a;omega))
   ·intro e I
    rcases μ e I with rfl|a
    ·omega
    ·have:=m5 _ a;omega
   ·intro e R U ar
    rw[d0 e Zo (.inl R) ar U];exact gT.low e R U ar
   ·rw[l7 _ Zo,gV _ Zo (λa=>by have:=m5 _ a;omega)];exact uk
 ·intro aY ba gS mV
  rw[YS]at gS
  obtain⟨gS,fB⟩:=gS
  change rI X aJ dV (j+1) (j+1+1) (dV+2) (qs g).1 (qs g).2 aY ba at gS
  change (qs g).2.length<=_ at fB
  have alV:aa X aY j=some (.cells (S.ofList [.str g.name, .Z g.at_,dd,dz,a8,eV] 0 .nil) 6 .own):=by rw[gS.low _ Zo Zo Zo];exact j0
  have kl:=eX.wide
  have ec:=iV.len
  have hp:=iV.many
  rw[kl.1]at ec hp
  refine cM (bJ alV) @ec ⟨?_⟩
  refine fD (λm K T aS=>∃(Y:Nat),K.g 3=some (.ptr (j+1+1+1) 0)/\K.g 54=some eV/\K.g 55=some (.Z (g.eqs.length:Int))/\K.g 56=some (.Z (Y:Int))/\K.bb=[⟨.collected dV,[]⟩]/\Y+m=g.eqs.length
   /\rI X aJ dV (j+1) (j+1+1) (dV+2) ((g.eqs.zipIdx.take Y).foldl JG (qs g).1) (qs g).2 T aS/\aa X T dV=some (.deferred (some [])))
   g.eqs.length ⟨0,bn,bn,bn,fN,rfl,Zo,gS,mV⟩ ?_
  rintro m K bw c7 ⟨Y,t3,kf,pM,pa,kr,bH,p8,HR⟩
  have ji:=p8.le
  cases m with
  |zero=>
   have aD:decide ((Y:Int)<(g.eqs.length:Int))=false:=by simp only[Zb];omega
   have ajw:am X bw (.ptr (j+1+1+1) 0)=some (.ptr (j+1+1) 0):=by rw[cA,p8.low _ Zo Zo Zo, <-cA];exact cQ
   refine f7 @pa @pM @t3 @aD @ajw ⟨?_⟩
   have Fp:(g.eqs.zipIdx.take Y).foldl JG (qs g).1=i6 g:=by
    rw[Zy (by simp;omega)];rfl
   rw[Fp]at p8
   show m6 X [.tmp 2] _ _ _ _ _
   simp only[rr,kr]
   refine⟨by show(q X).a7<=dV;omega,HR, ?_⟩
   show qx _ _ _ _ _
   unfold qx
   refine cH ⟨?_⟩
   have h4:=p8.ac (aJ:=bm X bw dV (some (.deferred none))) Zo Zo Zo (Zi _) (λe R U=>aE Zo Zo)
   obtain⟨c,s,cK,e0,fF,hv,oc,m5⟩:=h4.vG
   obtain⟨b,ai⟩:=oc.Gy (P:=dy j c7) (by simp[Nc]at fB ⊢;omega) (λe I=>by have:=m5 e I;exact⟨Zo,Zo⟩)
   refine⟨j+1+1,j+1,s,b,rfl,⟨Zo,Zo⟩,⟨Zo,Zo⟩,by rw[bJ e0];exact fF,h4.map,by rw[bJ e0];exact hv, ?_,Zo,λe I=> ?_⟩
   ·have:il (Nc g)=((qs g).2.map H.str).map λv=>[v]:=by unfold il Nc;rw[YG];rfl
    rw[this];exact ai
   ·rw[h4.low e Zo Zo Zo];exact jy.ac e I
  |succ m=>
   have aD:decide ((Y:Int)<(g.eqs.length:Int))=true:=by simp only[Zg];omega
   have bB:aA .add (.Z (Y:Int)) (.Z 1)=some (.Z ((Y+1:Nat):Int)):=by rw[eI Zo Zo];rfl
   obtain⟨an,cl⟩:∃an,g.eqs[Y]? =some an:=⟨_,Ze Zo⟩
   obtain⟨row,fC,sb⟩:=eX.get Y an cl
   have k3:∀e,P e->aa X bw e=aa X h e:=λe I=>by have:=bu e I;rw[p8.low e Zo Zo Zo,m0 e I]
   have d2:=iV.gi Y (by rw[kl.1];omega)
   have ig:=(iV.ac k3).row Zd fC
   obtain⟨lU,mI,dk,dB,ls,rfl,hE,l6,ll,nr⟩:=sb
   have yr:=ky hE.len
   have ax5:=ky l6.len
   have A1:=hE.len
   have FA:=hE.many
   rw[show(il an.left).length=an.left.length from by simp[il]]at A1 FA
   have df:=x3 JG (qs g).1 (Tm cl)
   rw[show(an,Y)=(an,Y) from rfl]at df
   generalize anz:(g.eqs.zipIdx.take Y).foldl JG (qs g).1=NQ at p8 df
   refine hQ @pa @pM @kf @aD @d2 @ig ⟨?_⟩
   refine fE (hO (D:=4) (b:=c7) (W:=0) (n:=4) (c:=S.ofList [.aT, .aT, .Z 0, .cq] 0 .nil) (bh Zo) Zo rfl Zd Zd nr) ?_
   generalize kV:bm X _ c7 _=bL
   have fA:am X bL (.ptr c7 0)=some lU:=by rw[<-kV,cA,bh Zo];rfl
   have dG:∀e,e<c7->aa X bL e=aa X bw e:=λe I=>by rw[<-kV];simp(disch:=omega) only[aE]
   clear kV
   have h4:rI X aJ dV (j+1) (j+1+1) (dV+2) NQ (qs g).2 bL (c7+1):=p8.ac Zo Zo Zo Zo (λe R U=>dG e R)
   rw[<-dG _ Zo]at HR
   refine cM @fA @A1 ⟨?_⟩
   refine fD (λgj K T aS=>∃(i:Nat),K.g 3=some (.ptr (j+1+1+1) 0)/\K.g 54=some eV/\K.g 55=some (.Z (g.eqs.length:Int))/\K.g 56=some (.Z (Y:Int))/\K.bb=[⟨.collected dV,[]⟩]/\K.g 8=some (.Z (Y:Int))/\K.g 62=some lU/\K.g 63=some (.Z (an.left.length:Int))/\K.g 64=some (.Z (i:Int))/\i+gj=an.left.length
    /\rI X aJ dV (j+1) (j+1+1) (dV+2) ((an.left.zipIdx.take i).foldl (xg Y) NQ) (qs g).2 T aS/\aa X T dV=some (.deferred (some [])))
    an.left.length ⟨0,a1 t3,a1 kf,a1 pM,a1 pa,kr,bn,bn,bn,fN,Zo,h4,HR⟩ ?_
   rintro gj c1 cd er ⟨i,t3,kf,pM,pa,kr,gZ,NP,BO,tJ,aM,gT,rX⟩
   have q6:=gT.le
   cases gj with
   |zero=>
    have aD:decide ((i:Int)<(an.left.length:Int))=false:=by simp only[Zb];omega
    refine f7 @tJ @BO @pa @aD @bB ⟨?_⟩
    rw[Zy (by simp;omega)]at gT
    refine⟨m,Zo,Y+1,a1 t3,a1 kf,a1 pM,bn,kr,Zo, ?_,rX⟩
    rw[df]
    exact gT
   |succ gj=>
    have aD:decide ((i:Int)<(an.left.length:Int))=true:=by simp only[Zg];omega
    have cF:aA .add (.Z (i:Int)) (.Z 1)=some (.Z ((i+1:Nat):Int)):=by rw[eI Zo Zo];rfl
    obtain⟨w,bP⟩:∃w,an.left[i]? =some w:=⟨_,Ze Zo⟩
    have u1:∀e,P e->aa X cd e=aa X h e:=λe I=>by have:=bu e I;rw[gT.low e Zo Zo Zo,m0 e I]
    have oG:=hE.gi i (by simp[il];omega)
    have iJ:=(hE.ac u1).cell i [.str w] 0 (.str w) (by unfold il;rw[Zx,bP];rfl) rfl
    rw[Yj]at oG
    rw[Yj,ZR]at iJ
    have A7:=x3 (xg Y) NQ (Tm bP)
    generalize anx:(an.left.zipIdx.take i).foldl (xg Y) NQ=oe at gT A7
    have Cb:am X cd (.ptr (j+1+1+1) 0)=some (.ptr (j+1+1) 0):=by rw[cA,gT.low _ Zo Zo Zo, <-cA];exact cQ
    obtain⟨sT,ayU,awO,e0,fF,hv,oc,m5⟩:=gT.vG
    have j5:ma X cd 9 (.agg [.Z 0, .str [], .Z 0, .bool false, .bool false, .Z 0, .str [], .Z 0, .bool false, .Z 0, .Z 0]) (.map (j+1)) (.str w) true=some (.tuple [.agg (pd ((oe w).getD tL)), .bool (oe w).isSome]):=by
     rw[Dq gT.map];unfold vI;cases oe w<;>rfl
    generalize Dc:(oe w).getD tL=fc at j5
    have sg:pd fc=[.Z fc.kind, .str fc.d.name, .Z fc.d.at_, .bool fc.d.ty.b, .bool fc.d.ty.s, .Z fc.d.ty.w, .str fc.d.on, .Z fc.d.fJ, .bool fc.d.no, .Z fc.eq, .Z fc.left]:=rfl
    rw[sg]at j5
    refine ev @tJ @BO @NP @t3 @aD @oG (Za @iJ (Za @Cb (Za (bJ e0) (Za @fF @j5)))) ⟨?_⟩
    generalize lI:bm X _ er _=cr
    have eN:aa X cr er=some (.cells (S.ofList [.Z fc.kind, .str fc.d.name, .Z fc.d.at_, .bool fc.d.ty.b, .bool fc.d.ty.s, .Z fc.d.ty.w, .str fc.d.on, .Z fc.d.fJ, .bool fc.d.no, .Z fc.eq, .Z fc.left] 0 .nil) 11 .own):=by rw[<-lI,bh Zo];rfl
    have gm:∀e,e<er->aa X cr e=aa X cd e:=λe I=>by rw[<-lI];simp(disch:=omega) only[aE]
    clear lI
    have pu:rI X aJ dV (j+1) (j+1+1) (dV+2) oe (qs g).2 cr (er+1):=gT.ac Zo Zo Zo Zo (λe R U=>gm e R)
    rw[<-gm _ Zo]at rX
    cases aI:oe w with
    |none=>
     have gf:xg Y oe (w,i)=oe:=by unfold xg;simp only[aI]
     simp only[ZZ]
     refine cM @tJ @cF ⟨?_⟩
     exact⟨gj,Zo,i+1,a1 t3,a1 kf,a1 pM,a1 pa,kr,a1 gZ,a1 NP,a1 BO,bn,Zo,by rw[A7,gf];exact pu,rX⟩
    |some v=>
     have ap8:v=fc:=by rw[aI]at Dc;exact Dc
     subst ap8
     simp only[Z5]
     by_cases Mm:v.eq<0
     ·have cJ:decide (v.eq<0)=true:=by simp[Mm]
      have gf:xg Y oe (w,i)=λx=>if x=w then some ⟨v.kind,v.d,Y,i⟩else oe x:=by unfold xg;simp only[aI,Mm,ZD]
      refine gp (bJ eN) @cJ @gZ @tJ ⟨?_⟩
      generalize nk:bm X (bm X cr er _) er _=dH
      have hf:aa X dH er=some (.cells (S.ofList [.Z v.kind, .str v.d.name, .Z v.d.at_, .bool v.d.ty.b, .bool v.d.ty.s, .Z v.d.ty.w, .str v.d.on, .Z v.d.fJ, .bool v.d.no, .Z Y, .Z i] 0 .nil) 11 .own):=by rw[<-nk,bh Zo];rfl
      have ht:∀e,e≠er->aa X dH e=aa X cr e:=λe I=>by rw[<-nk,aE Zo I,aE Zo I]
      clear nk eN
      have iH:rI X aJ dV (j+1) (j+1+1) (dV+2) oe (qs g).2 dH (er+1):=⟨pu.le,pu.map.ac (ht _ Zo),by
       obtain⟨c,s,cK,cB,cu,ee,fV,me⟩:=gT.vG
       exact⟨c,s,cK,by rw[ht _ Zo,gm _ Zo];exact cB,cu,ee,fV.ac (λe I=>by have:=me e I;rw[ht e Zo,gm e Zo]),λe I=>by have:=me e I;omega⟩,
       λe R U ar=>by rw[ht e Zo];exact pu.low e R U ar⟩
      have ajx:am X dH (.ptr (j+1+1+1) 0)=some (.ptr (j+1+1) 0):=by rw[cA,ht _ Zo,gm _ Zo, <-cA];exact Cb
      have atM:aa X dH (j+1+1)=some (.cells sT 2 .own):=by rw[ht _ Zo,gm _ Zo];exact e0
      refine f7 @t3 @ajx (bJ atM) @fF (bJ hf) ⟨?_⟩
      obtain⟨dY,q7,ano,qd⟩:=M9 (j:=er+1+7) (show(q X).a7<=j+1 by omega) iH.map w (.agg (pd ⟨v.kind,v.d,Y,i⟩))
      refine kG q7 ?_
      refine cM @tJ @cF ⟨?_⟩
      refine⟨gj,Zo,i+1,a1 t3,a1 kf,a1 pM,a1 pa,kr,a1 gZ,a1 NP,a1 BO,bn,Zo, ?_,by rw[qd _ Zo,ht _ Zo];exact rX⟩
      rw[A7,gf]
      refine⟨Zo, ?_, ?_,λe R U ar=>by rw[qd e U];exact iH.low e R U ar⟩
      ·have:(λx=>if x=w then some (H.agg (pd ⟨v.kind,v.d,Y,i⟩))else vI oe x)=vI (λx=>if x=w then some ⟨v.kind,v.d,Y,i⟩else oe x):=by
        funext x;unfold vI;by_cases a:x=w<;>simp[a]
       rw[<-this];exact ano
      ·obtain⟨c,s,cK,cB,cu,ee,fV,me⟩:=iH.vG
       exact⟨c,s,cK,by rw[qd _ Zo];exact cB,cu,ee,fV.ac (λe I=>by have:=me e I;exact qd e Zo),λe I=>by have:=me e I;omega⟩
     ·have cJ:decide (v.eq<0)=false:=by simp[Mm]
      have gf:xg Y oe (w,i)=oe:=by unfold xg;simp only[aI,Mm,ZB]
      refine gp (bJ eN) @cJ @tJ @cF ⟨?_⟩
      exact⟨gj,Zo,i+1,a1 t3,a1 kf,a1 pM,a1 pa,kr,a1 gZ,a1 NP,a1 BO,bn,Zo,by rw[A7,gf];exact pu,rX⟩
end
end
end Go.Proofs.YtpfajohmofnkfaaGreatDoor

namespace Go.a2
structure hZ where
 N:bx->Prop
 En:es->Prop
 L:es->Int->Prop
 a7:∀s,N s->s≠[]
 cY:En ⟨true,false,1⟩
 fO:L ⟨true,false,1⟩ 0
 eh:L ⟨true,false,1⟩ 1
 lt:∀t n,L t n->En t
structure Hd(bD:hZ)(x:Tok):Prop where
 name:x.kind=1->bD.N x.text
 type:x.kind=3->bD.En x.ty
 num:x.kind=4->0<=x.n
 lit:x.kind=5->bD.L x.ty x.n
def g1(bD:hZ)(l:List Tok):Prop:=∀x∈l,Hd bD x
def g1.pb{bD:hZ}{x:Tok}{l:List Tok}(a:g1 bD (x::l)):g1 bD l:=λe I=>a e (Zu _ I)
def g1.aH{bD:hZ}{x:Tok}{l:List Tok}(a:g1 bD (x::l)):Hd bD x:=a x (Zw ..)
def rO(D:Int):Option Nat:=if D=25 then none else if D=1\/D=2 then some 0 else if D=3\/D=4\/D=5\/D=6\/D=19\/D=20\/D=26 then some 1 else if D=23 then some 3 else some 2
def tf(D:Int):Prop:=D=2\/D=6\/D=24\/D=25
def tg(D:Int):Prop:=D=1\/D=26
structure Eg(bD:hZ)(F:bz):Prop where
 bZ:1<=F.kind
 cw:F.kind<=26
 tX:∀m,rO F.kind=some m->F.args.length=m
 nm:tf F.kind->bD.N F.name
 Si:¬tf F.kind->F.name=[]
 no:F.no=true->F.kind=6
 ty:tg F.kind->bD.En F.ty
 dJ:¬tg F.kind->F.ty=dJ
 asx:F.kind=1->bD.L F.ty F.n
 mF:F.kind=19\/F.kind=20->0<=F.n/\F.n<=63
 a7:F.kind≠1->F.kind≠19->F.kind≠20->F.n=0
 uh:F.kind=21->∃l r,F.args=[l,r]/\(l.kind=1\/l.kind=4/\∃x,l.args=[x]/\x.kind=1)
mutual
def eS(bD:hZ):bz->Prop
 | .mk D J nm no ty n args=>Eg bD (.mk D J nm no ty n args)/\gE bD args
def gE(bD:hZ):List bz->Prop
 |[]=>True
 |F::l=>eS bD F/\gE bD l
end
def eS.eq{bD:hZ}(F:bz):eS bD F=(Eg bD F/\gE bD F.args):=by cases F;rw[eS];rfl
def gE.cons{bD:hZ}{F:bz}{l:List bz}(a:eS bD F)(D:gE bD l):gE bD (F::l):=by rw[gE];exact⟨a,D⟩
def gE.nil{bD:hZ}:gE bD []:=by rw[gE];trivial
def gE.app{bD:hZ}{F:bz}(a:eS bD F):∀{l:List bz},gE bD l->gE bD (l++[F]):=by
 intro l
 induction l with
 |nil=>intro _;exact gE.cons a gE.nil
 |cons J l al=>intro D;rw[gE]at D;exact gE.cons D.1 (al D.2)
def dr(bD:hZ){α:Type}(bs:α->Prop)(x:ga α):Prop:=∀J b5,x=some (.ok (J,b5))->g1 bD b5/\bs J
section
variable{bD:hZ}{α eR:Type}
def dr.none{bs:α->Prop}:dr bD bs none:=λ_ _ a=>by cases a
def dr.ok{bs:α->Prop}{J:α}{l:List Tok}(a:g1 bD l)(an:bs J):dr bD bs (a2.ok J l):=λfR b5 F=>by cases F;exact⟨a,an⟩
def dr.bad{bs:α->Prop}(J:Int):dr bD bs (a2.bad J:ga α):=λfR b5 F=>by cases F
def dr.andThen{bs:α->Prop}{qJ:eR->Prop}{x:ga α}{f:α->List Tok->ga eR}(a:dr bD bs x)(D:∀J b5,g1 bD b5->bs J->dr bD qJ (f J b5)):dr bD qJ (a2.andThen x f):=by
 unfold a2.andThen
 split
 ·exact dr.none
 ·exact λ_ _ F=>by cases F
 ·rename_i J l
  obtain⟨R,U⟩:=a J l rfl
  exact D J l R U
def nA{s:bx}{l:List Tok}(a:g1 bD l):dr bD (λ_=>True) (eD s l):=by
 cases l with
 |nil=>exact dr.none
 |cons x l=>
  simp only[eD]
  split
  ·exact dr.ok a.pb trivial
  ·exact dr.bad _
def u3{D:Int}{l:List Tok}(a:g1 bD l):dr bD (λx:Tok=>Hd bD x/\x.kind=D) (iB D l):=by
 cases l with
 |nil=>exact dr.none
 |cons x l=>
  simp only[iB]
  split
  ·rename_i aI;exact dr.ok a.pb ⟨a.aH,aI⟩
  ·exact dr.bad _
def pO{s:bx}{l:List Tok}{f:Option Tok->List Tok->ga eR}{bs:eR->Prop}(a:g1 bD l)(R:∀x b5,g1 bD b5->dr bD bs (f (some x) b5))(U:dr bD bs (f none l)):dr bD bs (h7 s l f):=by
 cases l with
 |nil=>exact dr.none
 |cons x l=>
  unfold h7 lX
  by_cases aI:hN x s=true
  ·simp only[aI,ZD];exact R x l a.pb
  ·simp only[aI,ZB];exact U
def KI{l:List Tok}(a:g1 bD l):∀(os:List (bx×Int)) F b5,ou os l=some (F,b5)->g1 bD b5/\∀x,F=some x->∃W∈os,∃J,x= .mk W.2 J [] false dJ 0 []:=by
 intro os
 induction os with
 |nil=>intro F b5 bt;cases bt;exact⟨a,λx ag=>by cases ag⟩
 |cons W os al=>
  obtain⟨s,D⟩:=W
  intro F b5 bt
  cases l with
  |nil=>simp[ou,lX]at bt
  |cons x l=>
   unfold ou lX at bt
   by_cases aI:hN x s=true
   ·simp only[aI,ZD]at bt
    cases bt
    exact⟨a.pb,λe I=>by cases I;exact⟨_,Zw ..,_,rfl⟩⟩
   ·simp only[aI,ZB]at bt
    obtain⟨R,U⟩:=al F b5 bt
    exact⟨R,λe I=>by obtain⟨W,bf,J,aC⟩:=U e I;exact⟨W,Zu _ bf,J,aC⟩⟩
def aeu{D J:Int}{x e:bz}(aF:7<=D/\D<=18\/D=22)(ag:eS bD x)(I:eS bD e):eS bD (.mk D J [] false dJ 0 [x,e]):=by
 rw[eS.eq]
 refine⟨⟨by simp only[bz.kind];omega,by simp only[bz.kind];omega, ?_, ?_,λ_=>rfl,(λa=>absurd a (by simp[bz.no])), ?_,λ_=>rfl, ?_, ?_,λ_ _ _=>rfl, ?_⟩,gE.cons ag (gE.cons I gE.nil)⟩
 ·intro m bp
  have uL:rO D=some m:=bp
  unfold rO at uL
  rw[Zh Zo,Zh Zo,Zh Zo,Zh Zo]at uL
  cases uL;rfl
 ·intro a;simp only[tf,bz.kind]at a;omega
 ·intro a;simp only[tg,bz.kind]at a;omega
 ·intro a;simp only[bz.kind]at a;omega
 ·intro a;simp only[bz.kind]at a;omega
 ·intro a;simp only[bz.kind]at a;omega
def Kg{D J n:Int}{nm:bx}{no:Bool}{ty:es}{x:bz}(aF:D=3\/D=4\/D=5\/D=6\/D=19\/D=20\/D=26)(iy:D=6->bD.N nm)(gL:D≠6->nm=[]/\no=false)(be:D=26->bD.En ty)(Rp:D≠26->ty=dJ)(aK:D=19\/D=20->0<=n/\n<=63)(ao2:D≠19->D≠20->n=0)(ag:eS bD x):eS bD (.mk D J nm no ty n [x]):=by
 rw[eS.eq]
 refine⟨⟨by simp only[bz.kind];omega,by simp only[bz.kind];omega, ?_, ?_, ?_, ?_, ?_, ?_, ?_,aK, ?_, ?_⟩,gE.cons ag gE.nil⟩
 ·intro m bp
  have uL:rO D=some m:=bp
  unfold rO at uL
  rw[Zh Zo,Zh Zo,Zq aF]at uL
  cases uL;rfl
 ·intro a;simp only[tf,bz.kind]at a;exact iy Zo
 ·intro a;simp only[tf,bz.kind]at a;exact(gL Zo).1
 ·intro a
  by_cases cv:D=6
  ·exact cv
  ·have cD:no=true:=a
   rw[(gL cv).2]at cD;cases cD
 ·intro a;simp only[tg,bz.kind]at a;exact be Zo
 ·intro a;simp only[tg,bz.kind]at a;exact Rp Zo
 ·intro a;simp only[bz.kind]at a;omega
 ·intro R U ar;exact ao2 U ar
 ·intro a;simp only[bz.kind]at a;omega
def aet{J n:Int}{ty:es}(a:bD.L ty n):eS bD (.mk 1 J [] false ty n []):=by
 rw[eS.eq]
 exact⟨⟨by simp[bz.kind],by simp[bz.kind],λm bp=>by simp[rO,bz.kind]at bp;simp[bz.args, <-bp],λa=>by simp[tf,bz.kind]at a,λ_=>rfl,(λa=>absurd a (by simp[bz.no])),λ_=>bD.lt _ _ a,λa=>by simp[tg,bz.kind]at a,λ_=>a,λa=>by simp[bz.kind]at a,λa=>by simp[bz.kind]at a,λa=>by simp[bz.kind]at a⟩,gE.nil⟩
def aws{J:Int}{nm:bx}(a:bD.N nm):eS bD (.mk 2 J nm false dJ 0 []):=by
 rw[eS.eq]
 exact⟨⟨by simp[bz.kind],by simp[bz.kind],λm bp=>by simp[rO,bz.kind]at bp;simp[bz.args, <-bp],λ_=>a,λa=>by simp[tf,bz.kind]at a,(λa=>absurd a (by simp[bz.no])),λa=>by simp[tg,bz.kind]at a,λ_=>rfl,λa=>by simp[bz.kind]at a,λa=>by simp[bz.kind]at a,λ_ _ _=>rfl,λa=>by simp[bz.kind]at a⟩,gE.nil⟩
def awo{J:Int}{nm:bx}{cp:List bz}(a:bD.N nm)(D:gE bD cp):eS bD (.mk 25 J nm false dJ 0 cp):=by
 rw[eS.eq]
 exact⟨⟨by simp[bz.kind],by simp[bz.kind],λm bp=>by simp[rO,bz.kind]at bp,λ_=>a,λa=>by simp[tf,bz.kind]at a,(λa=>absurd a (by simp[bz.no])),λa=>by simp[tg,bz.kind]at a,λ_=>rfl,λa=>by simp[bz.kind]at a,λa=>by simp[bz.kind]at a,λ_ _ _=>rfl,λa=>by simp[bz.kind]at a⟩,D⟩
def awq{J:Int}{x e br:bz}(ag:eS bD x)(I:eS bD e)(ct:eS bD br):eS bD (.mk 23 J [] false dJ 0 [x,e,br]):=by
 rw[eS.eq]
 exact⟨⟨by simp[bz.kind],by simp[bz.kind],λm bp=>by simp[rO,bz.kind]at bp;simp[bz.args, <-bp],λa=>by simp[tf,bz.kind]at a,λ_=>rfl,(λa=>absurd a (by simp[bz.no])),λa=>by simp[tg,bz.kind]at a,λ_=>rfl,λa=>by simp[bz.kind]at a,λa=>by simp[bz.kind]at a,λ_ _ _=>rfl,λa=>by simp[bz.kind]at a⟩,gE.cons ag (gE.cons I (gE.cons ct gE.nil))⟩
def awr{J:Int}{nm:bx}{x e:bz}(a:bD.N nm)(ag:eS bD x)(I:eS bD e):eS bD (.mk 24 J nm false dJ 0 [x,e]):=by
 rw[eS.eq]
 exact⟨⟨by simp[bz.kind],by simp[bz.kind],λm bp=>by simp[rO,bz.kind]at bp;simp[bz.args, <-bp],λ_=>a,λa=>by simp[tf,bz.kind]at a,(λa=>absurd a (by simp[bz.no])),λa=>by simp[tg,bz.kind]at a,λ_=>rfl,λa=>by simp[bz.kind]at a,λa=>by simp[bz.kind]at a,λ_ _ _=>rfl,λa=>by simp[bz.kind]at a⟩,gE.cons ag (gE.cons I gE.nil)⟩
def awp{J:Int}{x e:bz}(a:tz x=some true)(ag:eS bD x)(I:eS bD e):eS bD (.mk 21 J [] false dJ 0 [x,e]):=by
 rw[eS.eq]
 refine⟨⟨by simp[bz.kind],by simp[bz.kind],λm bp=>by simp[rO,bz.kind]at bp;simp[bz.args, <-bp],λa=>by simp[tf,bz.kind]at a,λ_=>rfl,(λa=>absurd a (by simp[bz.no])),λa=>by simp[tg,bz.kind]at a,λ_=>rfl,λa=>by simp[bz.kind]at a,λa=>by simp[bz.kind]at a,λ_ _ _=>rfl,λ_=>⟨x,e,rfl, ?_⟩⟩,gE.cons ag (gE.cons I gE.nil)⟩
 unfold tz at a
 split at a
 ·rename_i R;exact .inl R
 ·split at a
  ·rename_i R aO
   refine .inr ⟨aO, ?_⟩
   have qj:=ag
   rw[eS.eq]at qj
   have aB:=qj.1.tX 1 (by rw[aO];rfl)
   cases aC:x.args with
   |nil=>rw[aC]at aB;cases aB
   |cons b l=>
    rw[aC]at aB a
    cases l with
    |nil=>exact⟨b,rfl,by simpa using a⟩
    |cons c l=>simp at aB
  ·cases a
def as2:∀(D:Nat) (W:bx×Int),W∈av D->7<=W.2/\W.2<=18:=by
 intro D W a
 match D with
 |0=>simp[av]at a;rcases a with rfl|rfl<;>decide
 |1=>simp[av]at a;subst a;decide
 |2=>simp[av]at a;rcases a with rfl|rfl|rfl|rfl|rfl|rfl<;>decide
 |3=>simp[av]at a;rcases a with rfl|rfl<;>decide
 |4=>simp[av]at a;subst a;decide
 |n+5=>simp[av]at a
def atv(W:bx×Int)(a:W∈yR):W.2=3\/W.2=4\/W.2=5:=by
 simp[yR]at a;rcases a with rfl|rfl|rfl<;>simp
end
end Go.a2

namespace Go.a2
structure aeD(bD:hZ)(n:Nat):Prop where
 level:∀D l,g1 bD l->dr bD (eS bD) (level n D l)
 oX:∀D F l,g1 bD l->eS bD F->dr bD (eS bD) (oX n D F l)
 shift:∀l,g1 bD l->dr bD (eS bD) (shift n l)
 o8:∀F l,g1 bD l->eS bD F->dr bD (eS bD) (o8 n F l)
 o9:∀D x F l,D=19\/D=20->g1 bD l->eS bD F->dr bD (eS bD) (o9 n D x F l)
 tE:∀l,g1 bD l->dr bD (eS bD) (xi n l)
 na:∀F l,g1 bD l->eS bD F->dr bD (eS bD) (na n F l)
 part:∀l,g1 bD l->dr bD (eS bD) (part n l)
 list:∀l,g1 bD l->dr bD (gE bD) (list n l)
 oY:∀cp l,g1 bD l->gE bD cp->dr bD (gE bD) (oY n cp l)
 lH:∀l,g1 bD l->dr bD (eS bD) (lH n l)
 arrow:∀l,g1 bD l->dr bD (eS bD) (arrow n l)
def ai6(bD:hZ):∀n,aeD bD n:=by
 intro n
 induction n with
 |zero=>constructor<;>intros<;>exact dr.none
 |succ n al=>
  constructor
  case level=>
   intro D l aB
   rw[level]
   split
   ·exact al.shift l aB
   ·exact(al.level (D+1) l aB).andThen λF b5 R U=>al.oX D F b5 R U
  case oX=>
   intro D F l aB bt
   rw[oX]
   split
   ·exact dr.none
   ·rename_i b5 ai
    exact dr.ok (KI aB _ _ _ ai).1 bt
   ·rename_i x b5 ai
    obtain⟨R,U⟩:=KI aB _ _ _ ai
    obtain⟨W,bf,J,rfl⟩:=U _ rfl
    have aF:=as2 _ _ bf
    refine(al.level (D+1) b5 R).andThen λr c5 bZ cw=> ?_
    have be:eS bD (two (.mk W.2 J [] false dJ 0 []) F r):=aeu (D:=W.2) (.inl aF) bt cw
    split
    ·exact dr.ok bZ be
    ·exact al.oX D _ c5 bZ be
  case shift=>
   intro l aB
   rw[shift]
   exact(al.tE l aB).andThen λF b5 R U=>al.o8 F b5 R U
  case o8=>
   intro F l aB bt
   rw[o8]
   refine pO aB (λx b5 R=>al.o9 19 x F b5 (.inl rfl) R bt) ?_
   exact pO aB (λx b5 R=>al.o9 20 x F b5 (.inr rfl) R bt) (dr.ok aB bt)
  case o9=>
   intro D x F l aF aB bt
   rw[o9]
   refine(u3 aB).andThen λm b5 R U=> ?_
   split
   ·exact dr.bad _
   ·rename_i aw7
    have cj:=U.1.num U.2
    exact al.o8 _ b5 R (Kg Zo (λa=>Zo) (λ_=>⟨rfl,rfl⟩) (λa=>Zo) (λ_=>rfl) (λ_=>⟨cj,Zo⟩) (λR U=>Zo) bt)
  case tE=>
   intro l aB
   rw[xi]
   split
   ·exact dr.none
   ·rename_i x b5 ai
    obtain⟨R,U⟩:=KI aB _ _ _ ai
    obtain⟨W,bf,J,rfl⟩:=U _ rfl
    have aF:=atv _ bf
    refine(al.tE b5 R).andThen λF c5 bZ cw=>dr.ok bZ ?_
    exact Kg (D:=W.2) Zo (λa=>Zo) (λ_=>⟨rfl,rfl⟩) (λa=>Zo) (λ_=>rfl) (λa=>Zo) (λ_ _=>rfl) cw
   ·rename_i b5 ai
    exact(al.part b5 (KI aB _ _ _ ai).1).andThen λF c5 bZ cw=>al.na F c5 bZ cw
  case na=>
   intro F l aB bt
   rw[na]
   refine pO aB (λx b5 R=> ?_) (dr.ok aB bt)
   refine pO R (λe c5 bZ=> ?_) ?_
   ·refine(u3 bZ).andThen λm e5 fb ff=> ?_
    exact al.na _ e5 fb (Kg Zo (λ_=>ff.1.name ff.2) (λa=>absurd rfl a) (λa=>Zo) (λ_=>rfl) (λa=>Zo) (λ_ _=>rfl) bt)
   ·refine(u3 R).andThen λm e5 fb ff=> ?_
    exact al.na _ e5 fb (Kg Zo (λ_=>ff.1.name ff.2) (λa=>absurd rfl a) (λa=>Zo) (λ_=>rfl) (λa=>Zo) (λ_ _=>rfl) bt)
  case list=>
   intro l aB
   rw[list]
   refine pO aB (λx b5 R=>dr.ok R gE.nil) ?_
   exact(al.arrow l aB).andThen λF c5 bZ cw=>al.oY _ c5 bZ (gE.cons cw gE.nil)
  case oY=>
   intro cp l aB aC
   rw[oY]
   refine pO aB (λx b5 R=> ?_) ?_
   ·exact(al.arrow b5 R).andThen λF c5 bZ cw=>al.oY _ c5 bZ (gE.app cw aC)
   ·exact(nA aB).andThen λ_ b5 R _=>dr.ok R aC
  case lH=>
   intro l aB
   rw[lH]
   refine(al.level 0 l aB).andThen λF c5 bZ cw=> ?_
   refine pO bZ (λx b5 R=> ?_) (dr.ok bZ cw)
   simp only[]
   split
   ·exact dr.none
   ·rename_i AV
    exact(al.lH b5 R).andThen λr e5 fb ff=>dr.ok fb (awp AV cw ff)
   ·exact dr.bad _
  case arrow=>
   intro l aB
   rw[arrow]
   refine(al.lH l aB).andThen λF c5 bZ cw=> ?_
   refine pO bZ (λx b5 R=> ?_) (dr.ok bZ cw)
   exact(al.arrow b5 R).andThen λr e5 fb ff=>dr.ok fb (aeu (.inr rfl) cw ff)
  case part=>
   intro l aB
   cases l with
   |nil=>rw[part];exact dr.none
   |cons x l=>
   have ag:=aB.aH
   have hh:=aB.pb
   rw[part]
   by_cases jY:x.kind=5
   ·rw[Zq jY]
    exact dr.ok hh (aet (ag.lit jY))
   rw[Zh jY]
   split
   ·refine dr.ok hh (aet ?_)
    split
    ·exact bD.eh
    ·exact bD.fO
   by_cases dk:x.kind=1
   ·rw[Zq dk]
    refine pO hh (λe c5 R=> ?_) (dr.ok hh (aws (ag.name dk)))
    exact(al.list c5 R).andThen λcp e5 fb ff=>dr.ok fb (awo (ag.name dk) ff)
   rw[Zh dk]
   by_cases gF:x.kind=3
   ·rw[Zq gF]
    refine(nA hh).andThen λ_ c5 R _=> ?_
    refine(al.arrow c5 R).andThen λF e5 fb ff=> ?_
    refine(nA fb).andThen λ_ gW fy _=> ?_
    exact dr.ok fy (Kg Zo (λa=>Zo) (λ_=>⟨rfl,rfl⟩) (λ_=>ag.type gF) (λa=>absurd rfl a) (λa=>Zo) (λ_ _=>rfl) ff)
   rw[Zh gF]
   split
   ·refine(al.arrow l hh).andThen λF e5 fb ff=> ?_
    refine(nA fb).andThen λ_ gW fy _=> ?_
    exact dr.ok fy ff
   split
   ·refine(al.arrow l hh).andThen λF e5 fb ff=> ?_
    refine(nA fb).andThen λ_ gW fy _=> ?_
    refine(al.arrow gW fy).andThen λcF gB cB cu=> ?_
    refine(nA cB).andThen λ_ mC e0 _=> ?_
    refine(al.arrow mC e0).andThen λfp l9 iZ kH=> ?_
    exact dr.ok iZ (awq ff cu kH)
   split
   ·refine(u3 hh).andThen λc c5 R az=> ?_
    refine(al.part c5 R).andThen λF e5 fb ff=> ?_
    refine(al.part e5 fb).andThen λcF gW fy hu=> ?_
    exact dr.ok fy (awr (az.1.name az.2) ff hu)
   ·exact dr.bad _
structure rE(bD:hZ)(d:fP):Prop where
 name:bD.N d.name
 type:bD.En d.ty
 on:d.on≠[]->bD.N d.on
 no:d.on=[]->d.no=false
structure GZ(bD:hZ)(an:hl):Prop where
 left:∀s∈an.left,bD.N s
 some:an.left≠[]
 right:eS bD an.right
structure sO(bD:hZ)(g:Node):Prop where
 name:bD.N g.name
 eQ:∀d∈g.eQ,rE bD d
 out:∀d∈g.out,rE bD d
 loc:∀d∈g.loc,rE bD d
 some:g.out≠[]
 eqs:∀an∈g.eqs,GZ bD an
def xC(bD:hZ)(cm:List Tok):Prop:=∀x∈cm,bD.N x.text
def xC.app{bD:hZ}{x:Tok}{cm:List Tok}(a:xC bD cm)(ag:bD.N x.text):xC bD (cm++[x]):=by
 intro e I
 rcases Zz.1 I with I|I
 ·exact a e I
 ·simp at I;subst I;exact ag
def acC{bD:hZ}:∀(n:Nat) (cp l:List Tok),g1 bD l->xC bD cp->dr bD (λcm=>xC bD cm/\cm≠[]) (rj n cp l):=by
 intro n
 induction n with
 |zero=>intro cp l _ _;rw[rj];exact dr.none
 |succ n al=>
  intro cp l aB aC
  rw[rj]
  refine(u3 aB).andThen λx b5 R ag=> ?_
  have aK:=aC.app (ag.1.name ag.2)
  refine pO R (λe c5 U=>al _ c5 U aK) (dr.ok R ⟨aK,Zs⟩)
def Ww{bD:hZ}{w:Option Tok}{l:List Tok}(aB:g1 bD l):dr bD (λr:bx×Int×Bool=>(r.1≠[]->bD.N r.1)/\(r.1=[]->r.2.2=false)) (Au w l):=by
 unfold Au
 split
 ·exact dr.ok aB ⟨λa=>absurd rfl a,λ_=>rfl⟩
 ·refine pO aB (λe c5 U=> ?_) ?_
  ·exact(u3 U).andThen λx b5 R ag=>dr.ok R ⟨λ_=>ag.1.name ag.2,λa=>absurd a (bD.a7 _ (ag.1.name ag.2))⟩
  ·exact(u3 aB).andThen λx b5 R ag=>dr.ok R ⟨λ_=>ag.1.name ag.2,λa=>absurd a (bD.a7 _ (ag.1.name ag.2))⟩
def g1.drop{bD:hZ}{l:List Tok}(a:g1 bD l)(n:Nat):g1 bD (l.drop n):=λx ag=>a x (Y4 ag)
def Wv{bD:hZ}{loc:Bool}{D:List fP->List Tok->ga (List fP)}{bs:List fP->Prop}{ds:List fP}{l:List Tok}(aB:g1 bD l)(cl:bs ds)(aF:∀b5,g1 bD b5->dr bD bs (D ds b5)):dr bD bs (xQ loc D ds l):=by
 unfold xQ
 split
 ·exact dr.none
 ·split
  ·split
   ·split
    ·exact dr.none
    ·split
     ·exact dr.ok aB cl
     ·exact aF _ (aB.drop 1)
   ·exact aF _ (aB.drop 1)
  ·exact dr.ok aB cl
def O9{bD:hZ}{loc:Bool}:∀(n:Nat) (ds:List fP) (l:List Tok),g1 bD l->(∀d∈ds,rE bD d)->dr bD (λds=>(∀d∈ds,rE bD d)/\ds≠[]) (iS n loc ds l):=by
 intro n
 induction n with
 |zero=>intro ds l _ _;rw[iS];exact dr.none
 |succ n al=>
  intro ds l aB aH
  rw[iS]
  refine(acC n [] l aB (λ_ a=>by cases a)).andThen λcm b5 R ag=> ?_
  unfold Ci
  refine(nA R).andThen λ_ c5 U _=> ?_
  refine(u3 U).andThen λt e5 ar be=> ?_
  have oF:∀r:bx×Int×Bool,((r.1≠[]->bD.N r.1)/\(r.1=[]->r.2.2=false))->∀d∈ds++cm.map (pr t.ty r.1 r.2.1 r.2.2),rE bD d:=by
   intro r Z d an5
   rcases Zz.1 an5 with a|a
   ·exact aH d a
   ·obtain⟨x,Rt,rfl⟩:=ZW.1 a
    exact⟨ag.1 x Rt,be.1.type be.2,Z.1,Z.2⟩
  refine pO ar (λw gW aO=> ?_) ?_
  ·refine(Ww aO).andThen λr gB bN Z=> ?_
   exact Wv bN ⟨oF r Z,by simp[ag.2]⟩ (λb5 a=>al _ b5 a (oF r Z))
  ·refine(Ww ar).andThen λr gB bN Z=> ?_
   exact Wv bN ⟨oF r Z,by simp[ag.2]⟩ (λb5 a=>al _ b5 a (oF r Z))
def alh{bD:hZ}(n:Nat){l:List Tok}(aB:g1 bD l):dr bD (GZ bD) (ug n l):=by
 have w2:∀(cm:List Tok) (l:List Tok),g1 bD l->xC bD cm/\cm≠[]->dr bD (GZ bD) (andThen (eD [61] l) λF l=>andThen (arrow n l) λr l=>andThen (eD [59] l) λ_ l=>ok ⟨cm.map Tok.text,cm.map Tok.at_,F.at_,r⟩ l):=by
  intro cm l aB ag
  refine(nA aB).andThen λF c5 U _=> ?_
  refine((ai6 bD n).arrow c5 U).andThen λr e5 ar Z=> ?_
  refine(nA ar).andThen λ_ gW aO _=>dr.ok aO ⟨?_,by simp[ag.2],Z⟩
  intro s aI
  obtain⟨x,Rt,rfl⟩:=ZW.1 aI
  exact ag.1 x Rt
 have qg:∀x:Tok,Hd bD x/\x.kind=1->xC bD [x]:=λx ag e I=>by simp at I;subst I;exact ag.1.name ag.2
 unfold ug
 refine pO aB (λe c5 U=> ?_) ?_
 ·refine dr.andThen (bs:=λcm=>xC bD cm/\cm≠[]) ?_ w2
  refine(u3 U).andThen λx e5 ar ag=> ?_
  refine(nA ar).andThen λ_ gW aO _=> ?_
  refine(acC n [x] gW aO (qg x ag)).andThen λcm gB bN A9=> ?_
  exact(nA bN).andThen λ_ mC cv _=>dr.ok cv A9
 ·refine dr.andThen (bs:=λcm=>xC bD cm/\cm≠[]) ?_ w2
  exact(u3 aB).andThen λx e5 ar ag=>dr.ok ar ⟨qg x ag,Zs⟩
def alk{bD:hZ}:∀(n:Nat) (c3:List hl) (l:List Tok),g1 bD l->(∀an∈c3,GZ bD an)->dr bD (λc3=>∀an∈c3,GZ bD an) (lG n c3 l):=by
 intro n
 induction n with
 |zero=>intro c3 l _ _;rw[lG];exact dr.none
 |succ n al=>
  intro c3 l aB cl
  rw[lG]
  refine pO aB (λe c5 U=>dr.ok U cl) ?_
  refine(alh n aB).andThen λan c5 U apu=>al _ c5 U ?_
  intro Sw a
  rcases Zz.1 a with a|a
  ·exact cl Sw a
  ·simp at a;subst a;exact apu
def asC{bD:hZ}(n:Nat){l:List Tok}(aB:g1 bD l):dr bD (sO bD) (node n l):=by
 unfold node
 refine(nA aB).andThen λ_ l R _=> ?_
 refine(u3 R).andThen λx l U ag=> ?_
 refine(nA U).andThen λ_ l ar _=> ?_
 have w2:∀(eQ:List fP) (l:List Tok),g1 bD l->(∀d∈eQ,rE bD d)->dr bD (sO bD) (andThen (eD [114,101,116,117,114,110,115] l) λ_ l=>andThen (eD [40] l) λ_ l=>andThen (iS n false [] l) λout l=>andThen (eD [41] l) λ_ l=>
  h7 [118,97,114] l λe l=>andThen (match e with
   |some _=>andThen (iS n true [] l) λds l=>andThen (eD [59] l) λ_ l=>ok ds l
   |none=>ok [] l) λloc l=>
  andThen (eD [108,101,116] l) λ_ l=>andThen (lG n [] l) λc3 l=>ok ⟨x.text,x.at_,eQ,out,loc,c3⟩ l):=by
  intro eQ l aB aM
  refine(nA aB).andThen λ_ l R _=> ?_
  refine(nA R).andThen λ_ l U _=> ?_
  refine(O9 n [] l U (λ_ a=>by cases a)).andThen λout l ar bf=> ?_
  refine(nA ar).andThen λ_ l aO _=> ?_
  have aaG:∀(loc:List fP) (l:List Tok),g1 bD l->(∀d∈loc,rE bD d)->dr bD (sO bD) (andThen (eD [108,101,116] l) λ_ l=>andThen (lG n [] l) λc3 l=>ok ⟨x.text,x.at_,eQ,out,loc,c3⟩ l):=by
   intro loc l aB aoL
   refine(nA aB).andThen λ_ l bN _=> ?_
   exact(alk n [] l bN (λ_ a=>by cases a)).andThen λc3 l cv apw=>dr.ok cv ⟨ag.1.name ag.2,aM,bf.1,aoL,bf.2,apw⟩
  refine pO aO (λe c5 bN=> ?_) ?_
  ·refine dr.andThen (bs:=λds=>∀d∈ds,rE bD d) ?_ aaG
   refine(O9 n [] c5 bN (λ_ a=>by cases a)).andThen λds l cv Qu=> ?_
   exact(nA cv).andThen λ_ l dP _=>dr.ok dP Qu.1
  ·exact dr.andThen (bs:=λds=>∀d∈ds,rE bD d) (dr.ok aO (λ_ a=>by cases a)) aaG
 refine pO ar (λe c5 aO=> ?_) ?_
 ·exact dr.andThen (bs:=λds=>∀d∈ds,rE bD d) (dr.ok aO (λ_ a=>by cases a)) w2
 ·refine dr.andThen (bs:=λds=>∀d∈ds,rE bD d) ?_ w2
  refine(O9 n [] _ ar (λ_ a=>by cases a)).andThen λds l cv Qu=> ?_
  exact(nA cv).andThen λ_ l dP _=>dr.ok dP Qu.1
def asE{bD:hZ}:∀(n:Nat) (ap:List Node) (l:List Tok),g1 bD l->(∀g∈ap,sO bD g)->dr bD (λap=>(∀g∈ap,sO bD g)/\ap≠[]) (o2 n ap l):=by
 intro n
 induction n with
 |zero=>intro ap l _ _;rw[o2];exact dr.none
 |succ n al=>
  intro ap l aB b0
  rw[o2]
  refine(asC n aB).andThen λg c5 U aot=> ?_
  have aam:∀PE∈ap++[g],sO bD PE:=by
   intro PE a
   rcases Zz.1 a with a|a
   ·exact b0 PE a
   ·simp at a;subst a;exact aot
  split
  ·exact dr.none
  ·split
   ·exact dr.ok U ⟨aam,Zs⟩
   ·exact al _ _ U aam
end Go.a2

namespace Go.Proofs.YtpfajohmofnkfaaGreatDoor
open Go.bg Go.a2
noncomputable section
structure Ef(s:bx):Prop where
 ne:s≠[]
 len:s.length<=32
 ajA:∀c,s.head?=some c->qk c=true
 all:∀c∈s,iL c=true
 res:s∉vt
 ty:la s=none
def Oj(t:es)(n:Int):Prop:=kA t=true/\uN t n=true/\0<=n/\n<18446744073709551616
def ao6:uN ⟨true,false,1⟩ 0=true:=by decide+kernel
def ao7:uN ⟨true,false,1⟩ 1=true:=by decide+kernel
def lf:hZ:=⟨Ef,λt=>kA t=true,Oj,λ_ a=>a.ne,rfl,⟨rfl,ao6,Zo,Zo⟩,⟨rfl,ao7,Zo,Zo⟩,λ_ _ a=>a.1⟩
def avK{
 s:bx}{i:Nat}{x:Tok}(a:xq s i=some x):Hd lf (lZ x i):=by
 unfold xq at a
 cases az:s[i]? with
 |none=>rw[az]at a;cases a
 |some c=>
  rw[az]at a
  simp only[]at a
  obtain⟨ag,I⟩:=Zc.1 az
  have aH:s.drop i=c::s.drop (i+1):=by rw[Zr ag,I]
  split at a
  ·unfold DE at a
   simp only[]at a
   split at a
   ·cases a
   ·have c2:=adn ((s.drop i).takeWhile iz)
    split at a
    ·cases a
     exact⟨λa=>by simp[lZ]at a,λa=>by simp[lZ]at a,λ_=>by simp only[lZ];omega,λa=>by simp[lZ]at a⟩
    ·split at a
     ·rename_i t be
      split at a
      ·rename_i gb
       cases a
       simp only[Zn]at gb
       exact⟨λa=>by simp[lZ]at a,λa=>by simp[lZ]at a,λa=>by simp[lZ]at a,λ_=>⟨S7 be,gb.2,by simp only[lZ];omega,by simp only[lZ];omega⟩⟩
      ·cases a
     ·cases a
  ·split at a
   ·rename_i ai
    split at a
    ·rename_i aB
     cases a
     have bP:(s.drop i).takeWhile iL=c::(s.drop (i+1)).takeWhile iL:=by
      rw[aH,Yz]
      have:iL c=true:=by simp[iL,ai]
      simp[this]
     refine⟨λa=> ?_,λa=> ?_,λa=> ?_,λa=> ?_⟩
     ·simp only[lZ,tA]at a ⊢
      split at a
      ·cases a
      ·rename_i aK
       split at a
       ·cases a
       ·rename_i Z
        have hh:((s.drop i).takeWhile iL).length<=32:=by simpa[tA]using aB
        refine⟨by rw[bP];simp,hh, ?_,ad3 iL _,Z,by simpa using aK⟩
        intro fZ cD
        rw[bP]at cD
        cases cD
        exact ai
     ·simp only[lZ,tA]at a ⊢
      split at a
      ·rename_i aK
       cases be:la ((s.drop i).takeWhile iL)with
       |none=>rw[be]at aK;cases aK
       |some t=>exact S7 be
      ·split at a<;>cases a
     ·simp only[lZ,tA]at a
      split at a
      ·cases a
      ·split at a<;>cases a
     ·simp only[lZ,tA]at a
      split at a
      ·cases a
      ·split at a<;>cases a
    ·cases a
   ·cases aI:vx s i with
    |none=>rw[aI]at a;cases a
    |some p=>
     rw[aI]at a
     cases a
     exact⟨λa=>by simp[lZ,DV]at a,λa=>by simp[lZ,DV]at a,λa=>by simp[lZ,DV]at a,λa=>by simp[lZ,DV]at a⟩
def avM{s:bx}:∀(n:Nat) (aU:List Tok) (i:Nat) (pP:List Tok),g1 lf aU->sH s n aU i=some (.ok pP)->g1 lf pP:=by
 intro n
 induction n with
 |zero=>intro aU i pP _ a;cases a
 |succ n al=>
  intro aU i pP be a
  rw[sH]at a
  split at a
  ·split at a
   ·cases a
   ·rename_i x ag
    refine al _ _ _ ?_ a
    intro e I
    rcases Zz.1 I with I|I
    ·exact be e I
    ·simp at I;subst I;exact avK ag
  ·cases a
   intro e I
   rcases Zz.1 I with I|I
   ·exact be e I
   ·simp at I;subst I;exact⟨λa=>by simp at a,λa=>by simp at a,λa=>by simp at a,λa=>by simp at a⟩
def ac8{s:bx}{ap:List Go.a2.Node}(a:yQ s= .ok ap):(∀g∈ap,sO lf g)/\ap≠[]/\qp ap=none:=by
 unfold yQ at a
 split at a
 ·rename_i r Z
  subst a
  unfold BD at Z
  split at Z
  ·cases Z
  ·cases Z
  ·rename_i aU be
   have I2:=avM _ _ _ _ (λ_ a=>by cases a) be
   split at Z
   ·cases Z
   ·cases Z
   ·rename_i iU l aK
    obtain⟨R,U⟩:=asE (bD:=lf) _ _ _ I2 (λ_ a=>by cases a) _ _ aK
    split at Z
    ·cases Z
    ·rename_i aB
     cases Z
     exact⟨U.1,U.2,aB⟩
 ·cases a
def vg(an:hl):List (bx×Int):=an.left.zipIdx.map λx=>(x.1,(an.dg[x.2]?).getD 0)
def yH(t:bx->Option fQ)(s:(bx->Option Int)×(Int×Int))(x:bx×Int):(bx->Option Int)×(Int×Int):=(λw=>if w=x.1 then some ((s.1 x.1).getD 0+1)else s.1 w,RX t s.1 s.2 x.1 x.2)
def tF(t:bx->Option fQ)(ap:List Go.a2.Node)(D:Nat)(s:(bx->Option Int)×(Int×Int))(an:hl):(bx->Option Int)×(Int×Int):=
 (((vg an).foldl (yH t) s).1,adF t ap D ((vg an).foldl (yH t) s).2 an.right)
def sK(ae:bx->Option Int)(f:Int×Int)(x:Int×fP):Int×Int:=if x.1≠1/\(ae x.2.name).getD 0=0 then oy f 37 x.2.at_ else f
def yM(ap:List Go.a2.Node)(D:Nat)(g:Go.a2.Node):Int×Int:=if (rW ap g.name).getD 0<D then oy (0,0) 24 g.at_ else(0,0)
def vl(ap:List Go.a2.Node)(D:Nat)(g:Go.a2.Node):Int×Int:=
 (iG g).foldl (sK (g.eqs.foldl (tF (i6 g) ap D) (λ_=>none,At (i6 g) g (yM ap D g))).1) (g.eqs.foldl (tF (i6 g) ap D) (λ_=>none,At (i6 g) g (yM ap D g))).2
def KQ(ap:List Go.a2.Node):Nat->List Go.a2.Node->Int×Int
 |_,[]=>(0,0)
 |D,g::l=>if (vl ap D g).1≠0 then vl ap D g else KQ ap (D+1) l
def xO(ap:List Go.a2.Node):Int×Int:=KQ ap 0 ap
def Cf(w:bx)(l:List bx):Int:=((l.filter λx=>decide (x=w)).length:Int)
end
end Go.Proofs.YtpfajohmofnkfaaGreatDoor

