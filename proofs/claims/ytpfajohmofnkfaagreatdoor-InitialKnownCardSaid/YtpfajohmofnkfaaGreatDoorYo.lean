/- A part of the proof of the claim's last text: what it is used for is said there; no condition of its own. -/
import Derived.Test.YtpfajohmofnkfaaGreatDoorYn
set_option maxHeartbeats 8000000
set_option linter.all false
namespace Go.Proofs.YtpfajohmofnkfaaGreatDoor
open Go.bg Go.a2
noncomputable section
section
variable{X:ck}{h T fG aX aJ:S ak}{j ao aL a6:Nat}
structure xB(X:ck)(fY:S ak)(dV bY da:Nat)(p:H)(D:Int)(cY:H)(f:Int×Int)(ae:bx->Option Int)(h:S ak)(n:Nat):Prop where
 le:dV<=n
 jJ:f4 X h bY p D cY (.map da) f
 Cf:om X h da (nM ae)
 low:∀e,e<dV->e≠bY->e≠da->aa X h e=aa X fY e
def xB.ac{fY:S ak}{dV bY da:Nat}{p cY:H}{D:Int}{f:Int×Int}{ae:bx->Option Int}(a:xB X fY dV bY da p D cY f ae aX aL)(kw:bY<dV)(IF:da<dV)(aK:aL<=a6)(aF:∀e,e<aL->aa X aJ e=aa X aX e):xB X fY dV bY da p D cY f ae aJ a6:=by
 have gr:=a.le
 refine⟨Zo, ?_,a.Cf.ac (aF _ Zo),λe R U ar=>by rw[aF e Zo];exact a.low e R U ar⟩
 have:=a.jJ
 unfold f4 at*
 rw[aF _ Zo];exact this
def Ca(an:hl)(i:Nat):Int:=(an.dg[i]?).getD 0
def arD{an:hl}{i:Nat}{w:bx}(a:an.left[i]? =some w):(vg an)[i]? =some (w,Ca an i):=by
 unfold vg
 rw[Zx,Tm a];rfl
def arE(an:hl):(vg an).length=an.left.length:=by simp[vg]
def aj2(ax:dv X){P:Nat->Prop}{bY da:Nat}{p cY:H}{D:Nat}{ap:List Go.a2.Node}{g:Go.a2.Node}(aK:(q X).a7<=j)(kw:(q X).a7<=bY)(wS:(q X).a7<=da)(yl:bY<j)(uy:da<j)(AP:bY≠da)
 (bu:∀e,P e->e<j/\e≠bY/\e≠da)(b0:nD X h P ap p)(aF:ap[D]? =some g)(be:rL X h P cY (i6 g))(az:f4 X h bY p D cY (.map da) (0,0))(gy:om X h da (nM λ_=>none)):
 aR X 71 [.ptr bY 0] h j (λad T ao=>ad= .tuple []/\f4 X T bY p D cY (.map da) (vl ap D g)/\j<=ao/\∀e,e<j->e≠bY->e≠da->aa X T e=aa X h e) (λ_ _ _=>False):=by
 refine Hs (aig X) (ax.none _ _ rfl) ?_
 rw[aih]
 unfold Vj
 obtain⟨iC,yS,JJ,ayN,rfl,nj,ac3,aa5,aa4⟩:=id b0
 have IN:=aa4.wide
 have axn:=(Zc.1 aF).1
 obtain⟨row,fC,jj⟩:=aa4.get D g aF
 have CZ:=jj
 have jk:=jj.jD
 obtain⟨dd,dz,a8,eV,cZ,dO,ei,h2,bC,rfl,nW,l5,py,iV,eX⟩:=jj
 have aph:=bu iC nj
 have d7:am X h (.ptr bY 0)=some (.ptr iC 0):=by unfold f4 at az;rw[bJ az];rfl
 have dk:am X h (.ptr bY 1)=some (.Z (D:Int)):=by unfold f4 at az;rw[bJ az];rfl
 have d2:=aa5.gi D (by rw[IN.1];omega)
 refine x6 ⟨?_⟩
 generalize en:bm X h j _=aX
 have j0:aa X aX j=some (.cells (S.ofList [.ptr bY 0] 0 .nil) 1 .own):=by rw[<-en,bh aK];rfl
 have bU:bj X h j aX (j+1):=by rw[<-en];exact dM
 clear en
 have u0:∀e,P e->aa X aX e=aa X h e:=λe I=>bU.ac e (bu e I).1
 rw[<-bU.fU _ _ yl]at d7 dk
 rw[<-bU.fU _ _ aph.1]at ac3
 have ig:=(aa5.ac u0).row Zd fC
 refine g7 (bJ j0) @d7 (Za @dk (Za @ac3 (Za @d2 @ig))) ⟨?_⟩
 refine fE (hO (D:=6) (b:=j+1+13) (W:=0) (n:=6) (c:=S.ofList [.str [], .Z 0, .aT, .aT, .aT, .aT] 0 .nil) (bh Zo) Zo rfl Zd Zd jk) ?_
 generalize dE:bm X _ (j+1+13) _=aJ
 have b2:aa X aJ (j+1+13)=some (.cells (S.ofList [.str g.name, .Z g.at_,dd,dz,a8,eV] 0 .nil) 6 .own):=by rw[<-dE,bh Zo];rfl
 have bE:bj X aX (j+1) aJ (j+1+14):=by rw[<-dE];exact dM
 clear dE
 rw[<-bE.ac _ Zo]at j0
 have jy:bj X h j aJ (j+1+14):=⟨Zo,λe I=>by rw[bE.ac e Zo,bU.ac e I]⟩
 have m0:∀e,P e->aa X aJ e=aa X h e:=λe I=>jy.ac e (bu e I).1
 rw[<-bE.fU _ _ Zo]at d7 dk
 refine g7 (bJ j0) @d7 (bJ b2) ⟨?_⟩
 refine(Pw (j:=j+1+15+12) (h:=aJ) ax Zo (b0.ac (bs:=P) m0 (λ_ a=>a)) (λe I=>by have:=(bu e I).1;omega) g.name).Zm ?_
 rintro ad aY ba ⟨rfl,ca⟩
 have ie:=ca.le
 rw[<-ca.ac _ Zo]at j0 b2
 rw[<-ca.fU _ _ Zo]at d7 dk
 have r0:bj X h j aY ba:=⟨Zo,λe I=>by rw[ca.ac e Zo,jy.ac e I]⟩
 have kx:∀e,P e->aa X aY e=aa X h e:=λe I=>r0.ac e (bu e I).1
 have yf:xB X aY ba bY da (.ptr iC 0) D cY (0,0) (λ_=>none) aY ba:=⟨Zi _,by unfold f4 at*;rw[r0.ac _ yl];exact az,gy.ac (r0.ac _ uy),λ_ _ _ _=>rfl⟩
 generalize I0:(rW ap g.name).getD 0=NR
 have gL:yM ap D g=if NR<D then oy (0,0) 24 g.at_ else(0,0):=by unfold yM;rw[I0]
 refine g7 (bJ j0) @d7 @dk ⟨?_⟩
 refine ka (λc1 T aS=>c1.g 1=some (.ptr j 0)/\c1.g 2=some (.ptr (j+1+13) 0)/\c1.bb=[]/\xB X aY ba bY da (.ptr iC 0) D cY (yM ap D g) (λ_=>none) T aS) (λY bH=> ?_) ?_
 ·by_cases c2:NR<D
  ·have aD:decide ((NR:Int)<(D:Int))=true:=by simp only[Zg];omega
   rw[Zq c2]at gL
   refine eu @aD (bJ j0) (bJ b2) ⟨?_⟩
   refine(wp (h:=aY) ax kw yf.jJ 24 g.at_).Zm ?_
   rintro ad bw c7 ⟨rfl,uw,ji,f1⟩
   refine cH ⟨?_⟩
   exact bH _ _ _ ⟨bn,bn,rfl,Zo,by rw[gL];exact uw,yf.Cf.ac (f1 _ (λF=>AP F.symm)),λe R U ar=>f1 e U⟩
  ·have aD:decide ((NR:Int)<(D:Int))=false:=by simp only[Zb];omega
   rw[Zh c2]at gL
   refine ci @aD ⟨?_⟩
   exact bH _ _ _ ⟨bn,bn,rfl,by rw[gL];exact yf⟩
 rintro K bw c7 ⟨t1,d3,kr,p8⟩
 have ji:=p8.le
 have alW:aa X bw j=some (.cells (S.ofList [.ptr bY 0] 0 .nil) 1 .own):=by rw[p8.low _ Zo Zo Zo];exact j0
 have al1:aa X bw (j+1+13)=some (.cells (S.ofList [.str g.name, .Z g.at_,dd,dz,a8,eV] 0 .nil) 6 .own):=by rw[p8.low _ Zo Zo Zo];exact b2
 have k3:∀e,P e->aa X bw e=aa X h e:=λe I=>by have:=bu e I;rw[p8.low e Zo this.2.1 this.2.2,kx e I]
 show aj _ _
 refine g7 @t1 @d3 (Za (bJ alW) (bJ al1)) ⟨?_⟩
 refine(akl (j:=c7) (h:=bw) ax Zo kw Zo (λe I=>⟨by have:=(bu e I).1;omega,(bu e I).2.1⟩) (be.ac (bs:=P) k3 (λ_ a=>a)) p8.jJ (CZ.ac (bs:=P) k3 (λ_ a=>a)) trivial).Zm ?_
 rintro ad bL cb ⟨rfl,CJ,hV,lK⟩
 have h4:xB X aY ba bY da (.ptr iC 0) D cY (At (i6 g) g (yM ap D g)) (λ_=>none) bL cb:=⟨Zo,CJ,p8.Cf.ac (lK _ Zo (λF=>AP F.symm)),λe R U ar=>by rw[lK e Zo U];exact p8.low e R U ar⟩
 have al2:aa X bL (j+1+13)=some (.cells (S.ofList [.str g.name, .Z g.at_,dd,dz,a8,eV] 0 .nil) 6 .own):=by rw[h4.low _ Zo Zo Zo];exact b2
 have kl:=eX.wide
 have ec:=iV.len
 have hp:=iV.many
 rw[kl.1]at ec hp
 have QV:vl ap D g=(iG g).foldl (sK (g.eqs.foldl (tF (i6 g) ap D) (λ_=>none,At (i6 g) g (yM ap D g))).1) (g.eqs.foldl (tF (i6 g) ap D) (λ_=>none,At (i6 g) g (yM ap D g))).2:=rfl
 generalize My:((λ_=>none,At (i6 g) g (yM ap D g)):(bx->Option Int)×(Int×Int))=o6 at QV
 have anj:xB X aY ba bY da (.ptr iC 0) D cY o6.2 o6.1 bL cb:=by rw[<-My];exact h4
 have hT:∀w,0<=(o6.1 w).getD 0/\(o6.1 w).getD 0<=((0:Nat):Int)*1048576:=by intro w;rw[<-My];simp
 refine g7 @d3 (bJ al2) @ec ⟨?_⟩
 refine gM ?_
 refine fD (λm K T aS=>∃(Y:Nat),K.g 1=some (.ptr j 0)/\K.g 2=some (.ptr (j+1+13) 0)/\K.bb=[]/\K.g 49=some eV/\K.g 50=some (.Z (g.eqs.length:Int))/\K.g 51=some (.Z (Y:Int))/\Y+m=g.eqs.length
  /\xB X aY ba bY da (.ptr iC 0) D cY ((g.eqs.take Y).foldl (tF (i6 g) ap D) o6).2 ((g.eqs.take Y).foldl (tF (i6 g) ap D) o6).1 T aS/\(∀w,0<=(((g.eqs.take Y).foldl (tF (i6 g) ap D) o6).1 w).getD 0/\(((g.eqs.take Y).foldl (tF (i6 g) ap D) o6).1 w).getD 0<=(Y:Int)*1048576))
  g.eqs.length ⟨0,a1 t1,a1 d3,kr,bn,bn,fN,Zo,anj,hT⟩ ?_
 clear t1 d3 kr
 rintro m K cd er ⟨Y,t1,d3,kr,ru,rv,qz,bH,gT,ι⟩
 have q6:=gT.le
 have alX:aa X cd j=some (.cells (S.ofList [.ptr bY 0] 0 .nil) 1 .own):=by rw[gT.low _ Zo Zo Zo];exact j0
 have al3:aa X cd (j+1+13)=some (.cells (S.ofList [.str g.name, .Z g.at_,dd,dz,a8,eV] 0 .nil) 6 .own):=by rw[gT.low _ Zo Zo Zo];exact b2
 have u1:∀e,P e->aa X cd e=aa X h e:=λe I=>by have:=bu e I;rw[gT.low e Zo this.2.1 this.2.2,kx e I]
 cases m with
 |zero=>
  have aD:decide ((Y:Int)<(g.eqs.length:Int))=false:=by simp only[Zb];omega
  rw[Zy Zo]at gT
  generalize g.eqs.foldl (tF (i6 g) ap D) o6=G at gT QV
  refine f7 @qz @rv @d3 @aD (bJ al3) ⟨?_⟩
  refine(K5 ax Zo).Zm ?_
  rintro ad cr d9 ⟨rfl,rfl,eF,cu,ee,fV⟩
  generalize CW:er+1=dW at*
  have qm:∀e,P e->aa X cr e=aa X h e:=λe I=>by rw[eF.ac e (by have:=(bu e I).1;omega),u1 e I]
  have AO:f4 X cr bY (.ptr iC 0) D cY (.map da) G.2:=by have:=gT.jJ;unfold f4 at*;rw[eF.ac bY Zo];exact this
  have ajs:aa X cr j=some (.cells (S.ofList [.ptr bY 0] 0 .nil) 1 .own):=by rw[eF.ac _ Zo];exact alX
  refine gM ?_
  refine K6 (P:=P) (g:=g) (cZ:=cZ) (dO:=dO) (ei:=ei) (dd:=dd) (dz:=dz) (a8:=a8) ax (λi T aS=>rD X cr dW bY da (.ptr iC 0) D cY (.map da) (((iG g).take i).foldl (sK G.1) G.2) G.1 T aS) Zo Zo Zo Zo
   (nW.ac qm) (l5.ac qm) (py.ac qm) cu ee fV (λi T aS a=>⟨a.le,λe I=>a.low e (by have:=(bu e I).1;omega) (bu e I).2.1 (bu e I).2.2⟩)
   (λi aX aL aJ a6 a gr aF=>a.ac Zo Zo gr aF) (λT bS=>⟨Zi _,by unfold f4 at*;rw[bS.ac _ Zo];exact AO,(gT.Cf.ac (eF.ac _ Zo)).ac (bS.ac _ Zo),λe I _ _=>bS.ac e I⟩) ?_ ?_
  ·intro mk i e7 d dH gt aM iH x7 amt
   rw[x3 (sK G.1) _ aM]
   generalize ((iG g).take i).foldl (sK G.1) G.2=b8 at iH ⊢
   have yp:=iH.le
   have j4:eW d=[.str d.name, .Z d.at_, .bool d.ty.b, .bool d.ty.s, .Z d.ty.w, .str d.on, .Z d.fJ, .bool d.no]:=rfl
   rw[j4]
   unfold sB
   refine cH ⟨?_⟩
   generalize pw:bm X _ gt _=dY
   have kU:aa X dY gt=some (.cells (S.ofList [.str d.name, .Z d.at_, .bool d.ty.b, .bool d.ty.s, .Z d.ty.w, .str d.on, .Z d.fJ, .bool d.no] 0 .nil) 8 .own):=by rw[<-pw,bh Zo];rfl
   have gV:∀e,e<gt->aa X dY e=aa X dH e:=λe I=>by rw[<-pw];simp(disch:=omega) only[aE]
   clear pw
   refine⟨by rw[gV _ Zo];exact amt, ?_⟩
   generalize q1:bm X dY (dW+1) _=fY
   have hg:aa X fY (dW+1)=some (mk .busy none):=by rw[<-q1,bh Zo]
   have l7:∀e,e≠dW+1->aa X fY e=aa X dY e:=λe I=>by rw[<-q1,aE Zo I]
   clear q1
   have ni:=iH.ac (aJ:=fY) (a6:=gt+1) Zo Zo Zo (λe R U=>by rw[l7 e U,gV e R])
   rw[<-l7 _ Zo]at kU
   have PK:aa X fY dW=some (.deferred (some [])):=by rw[l7 _ Zo,gV _ Zo];exact x7
   have fM:am X fY (.ptr j 0)=some (.ptr bY 0):=by rw[bJ (show aa X fY j=_ by rw[ni.low _ Zo Zo Zo];exact ajs)];rfl
   have e5:am X fY (.ptr bY 3)=some (.map da):=by have:=ni.jJ;unfold f4 at this;rw[bJ this];rfl
   have j5:ma X fY 9 (.Z 0) (.map da) (.str d.name) false=some (.Z ((G.1 d.name).getD 0)):=by
    rw[Dq ni.seen];unfold nM;cases G.1 d.name<;>rfl
   have jg:∀T aS,rD X cr dW bY da (.ptr iC 0) D cY (.map da) (sK G.1 b8 (e7,d)) G.1 T aS->aa X T dW=some (.deferred (some []))->(H.bool true=H.bool true/\rD X cr dW bY da (.ptr iC 0) D cY (.map da) (sK G.1 b8 (e7,d)) G.1 (bm X T (dW+1) (some (mk .ready none))) aS/\aa X (bm X T (dW+1) (some (mk .ready none))) dW=some (.deferred (some []))/\aa X (bm X T (dW+1) (some (mk .ready none))) (dW+1)=some (mk .ready none)):=λT aS a U=>
    ⟨rfl,a.ac Zo Zo (Zi _) (λe R U=>aE Zo U),by rw[aE Zo Zo];exact U,bh Zo⟩
   refine x6 ⟨?_⟩
   refine gM ?_
   by_cases kY:e7=1
   ·have aD:decide (e7≠1)=false:=by simp[kY]
    have l3:sK G.1 b8 (e7,d)=b8:=by unfold sK;rw[Zh (by simp[kY])]
    refine ci @aD ⟨?_⟩
    rw[l3]at jg ⊢
    exact⟨⟨.busy,none,hg⟩,jg _ _ (ni.ac Zo Zo Zo (λ_ _ _=>rfl)) PK⟩
   ·have aD:decide (e7≠1)=true:=by simp[kY]
    by_cases ct:(G.1 d.name).getD 0=0
    ·have Cl:decide ((G.1 d.name).getD 0=0)=true:=by simp[ct]
     have l3:sK G.1 b8 (e7,d)=oy b8 37 d.at_:=by unfold sK;rw[Zq ⟨kY,ct⟩]
     refine ev @aD @t1 @fM @e5 (bJ kU) @j5 @Cl ⟨?_⟩
     refine(wp (h:=fY) ax kw ni.jJ 37 d.at_).Zm ?_
     rintro ad B2 asq ⟨rfl,Qp,aoJ,uG⟩
     refine cH ⟨?_⟩
     rw[l3]at jg ⊢
     have Iz:=ni.le
     exact⟨⟨.busy,none,by rw[uG _ Zo];exact hg⟩,jg _ _ ⟨Zo,Qp,ni.seen.ac (uG _ Zo),λe R U ar=>by rw[uG e U];exact ni.low e R U ar⟩ (by rw[uG _ Zo];exact PK)⟩
    ·have Cl:decide ((G.1 d.name).getD 0=0)=false:=by simp[ct]
     have l3:sK G.1 b8 (e7,d)=b8:=by unfold sK;rw[Zh (λa=>ct a.2)]
     refine ev @aD @t1 @fM @e5 (bJ kU) @j5 @Cl ⟨?_⟩
     rw[l3]at jg ⊢
     exact⟨⟨.busy,none,hg⟩,jg _ _ (ni.ac Zo Zo Zo (λ_ _ _=>rfl)) PK⟩
  ·intro dH gt iH x7
   rw[YS]at iH
   have yp:=iH.le
   rw[<-QV]at iH
   show m6 X [] _ _ _ _ _
   simp only[sr,rr,kr]
   refine⟨by show(q X).a7<=dW;omega,x7, ?_⟩
   show qx _ _ _ _ _
   refine⟨rfl, ?_,Zo,λe R U ar=> ?_⟩
   ·have:=iH.jJ
    unfold f4 at*
    rw[aE Zo Zo];exact this
   ·rw[aE Zo Zo,iH.low e Zo U ar,eF.ac e Zo,gT.low e Zo U ar,r0.ac e R]
 |succ m=>
  have aD:decide ((Y:Int)<(g.eqs.length:Int))=true:=by simp only[Zg];omega
  have bB:aA .add (.Z (Y:Int)) (.Z 1)=some (.Z ((Y+1:Nat):Int)):=by rw[eI Zo Zo];rfl
  obtain⟨an,cl⟩:∃an,g.eqs[Y]? =some an:=⟨_,Ze Zo⟩
  obtain⟨ayO,apv,sb⟩:=eX.get Y an cl
  have d2:=iV.gi Y (by rw[kl.1];omega)
  have ig:=(iV.ac u1).row Zd apv
  obtain⟨lU,mI,awS,awW,ls,rfl,hE,l6,ll,nr⟩:=sb
  have A1:=hE.len
  have FA:=hE.many
  have Mo:=l6.len
  have aps:=l6.many
  rw[show(il an.left).length=an.left.length from by simp[il]]at A1 FA
  rw[Zp]at Mo aps
  have df:=x3 (tF (i6 g) ap D) o6 cl
  generalize anz:(g.eqs.take Y).foldl (tF (i6 g) ap D) o6=GL at gT df ι
  refine hQ @qz @rv @ru @aD @d2 @ig ⟨?_⟩
  refine fE (hO (D:=4) (b:=er) (W:=0) (n:=4) (c:=S.ofList [.aT, .aT, .Z 0, .cq] 0 .nil) (bh Zo) Zo rfl Zd Zd nr) ?_
  generalize lI:bm X _ er _=cr
  have eN:aa X cr er=some (.cells (S.ofList [lU,mI, .Z an.at_,ls] 0 .nil) 4 .own):=by rw[<-lI,bh Zo];rfl
  have gm:∀e,e<er->aa X cr e=aa X cd e:=λe I=>by rw[<-lI];simp(disch:=omega) only[aE]
  clear lI
  have pu:=gT.ac (aJ:=cr) (a6:=er+1) Zo Zo Zo (λe R=>gm e R)
  refine Ll (bJ eN) @A1 ⟨?_⟩
  refine gM ?_
  refine fD (λgj K T aS=>∃(i:Nat),K.g 1=some (.ptr j 0)/\K.g 2=some (.ptr (j+1+13) 0)/\K.bb=[]/\K.g 49=some eV/\K.g 50=some (.Z (g.eqs.length:Int))/\K.g 51=some (.Z (Y:Int))/\K.g 6=some (.ptr er 0)/\K.g 56=some lU/\K.g 57=some (.Z (an.left.length:Int))/\K.g 58=some (.Z (i:Int))/\i+gj=an.left.length
   /\xB X aY ba bY da (.ptr iC 0) D cY (((vg an).take i).foldl (yH (i6 g)) GL).2 (((vg an).take i).foldl (yH (i6 g)) GL).1 T aS/\(∀w,0<=((((vg an).take i).foldl (yH (i6 g)) GL).1 w).getD 0/\((((vg an).take i).foldl (yH (i6 g)) GL).1 w).getD 0<=(Y:Int)*1048576+i)
   /\er+1<=aS/\aa X T er=some (.cells (S.ofList [lU,mI, .Z an.at_,ls] 0 .nil) 4 .own))
   an.left.length ⟨0,a1 t1,a1 d3,kr,a1 ru,a1 rv,a1 qz,bn,bn,bn,fN,Zo,pu,λw=>by simpa using ι w,Zo,eN⟩ ?_
  clear t1 d3 kr ru rv qz
  rintro gj c1 dH gt ⟨i,t1,d3,kr,ru,rv,qz,f3,pa,y1,y2,aM,iH,ms,axS,hf⟩
  have yp:=iH.le
  have Xj:aa X dH j=some (.cells (S.ofList [.ptr bY 0] 0 .nil) 1 .own):=by rw[iH.low _ Zo Zo Zo];exact j0
  have Bh:∀e,P e->aa X dH e=aa X h e:=λe I=>by have:=bu e I;rw[iH.low e Zo this.2.1 this.2.2,kx e I]
  cases gj with
  |zero=>
   have eT:decide ((i:Int)<(an.left.length:Int))=false:=by simp only[Zb];omega
   rw[Zy (by rw[arE];omega)]at iH ms
   refine ev @y2 @y1 @t1 @f3 @eT (bJ Xj) (bJ hf) ⟨?_⟩
   refine(auh (j:=gt) (h:=dH) ax Zo kw Zo (λe I=>⟨by have:=(bu e I).1;omega,(bu e I).2.1⟩) (be.ac (bs:=P) Bh (λ_ a=>a)) (b0.ac (bs:=P) Bh (λ_ a=>a)) iH.jJ (cI.ac Bh _ _ ll)).Zm ?_
   rintro ad dY iX ⟨rfl,Qo,tm,qd⟩
   refine cM @qz @bB ⟨?_⟩
   refine⟨m,Zo,Y+1,a1 t1,a1 d3,kr,a1 ru,a1 rv,bn,Zo, ?_, ?_⟩
   ·rw[df]
    exact⟨Zo,Qo,iH.Cf.ac (qd _ Zo (λF=>AP F.symm)),λe R U ar=>by rw[qd e Zo U];exact iH.low e R U ar⟩
   ·rw[df]
    intro w
    have:=ms w
    simp only[tF]
    constructor
    ·exact this.1
    ·have U:=this.2
     have ar:i<=1048576:=Zo
     push_cast
     omega
  |succ gj=>
   have eT:decide ((i:Int)<(an.left.length:Int))=true:=by simp only[Zg];omega
   have cF:aA .add (.Z (i:Int)) (.Z 1)=some (.Z ((i+1:Nat):Int)):=by rw[eI Zo Zo];rfl
   obtain⟨w,bP⟩:∃w,an.left[i]? =some w:=⟨_,Ze Zo⟩
   have oG:=hE.gi i (by simp[il];omega)
   have iJ:=(hE.ac Bh).cell i [.str w] 0 (.str w) (by unfold il;rw[Zx,bP];rfl) rfl
   rw[Yj]at oG
   rw[Yj,ZR]at iJ
   have A7:=x3 (yH (i6 g)) GL (arD bP)
   generalize anx:((vg an).take i).foldl (yH (i6 g)) GL=oe at iH A7 ms
   have anV:=ms w
   refine g7 @y2 @y1 (Za @pa (Za @f3 (Za @eT (Za @oG (Za @iJ (Za (bJ hf) @Mo)))))) ⟨?_⟩
   refine gM ?_
   refine g7 @y2 @y1 (Za @pa (Za @f3 (Za @eT (Za @oG (Za @iJ (Za (bJ hf) @Mo)))))) ⟨?_⟩
   refine gM ?_
   refine g7 @y2 @y1 (Za @pa (Za @f3 (Za @eT (Za @oG (Za @iJ (Za (bJ hf) @Mo)))))) ⟨?_⟩
   refine ka (λrK T aS=>rK.g 1=some (.ptr j 0)/\rK.g 2=some (.ptr (j+1+13) 0)/\rK.bb=[]/\rK.g 49=some eV/\rK.g 50=some (.Z (g.eqs.length:Int))/\rK.g 51=some (.Z (Y:Int))/\rK.g 6=some (.ptr er 0)/\rK.g 56=some lU/\rK.g 57=some (.Z (an.left.length:Int))/\rK.g 58=some (.Z (i:Int))/\rK.g 8=some (.str w)/\rK.g 9=some (.Z (Ca an i))/\T=dH/\aS=gt) (λabM Fp=> ?_) ?_
   ·by_cases Iw:i<an.dg.length
    ·have iu:decide ((i:Int)<(an.dg.length:Int))=true:=by simp only[Zg];omega
     obtain⟨J,aC⟩:∃J,an.dg[i]? =some J:=⟨_,Ze Iw⟩
     have L7:=l6.gi i (by rw[Zp];exact Iw)
     have ρ:=(l6.ac Bh).cell i [I9 J] 0 (I9 J) (by rw[Zx,aC];rfl) rfl
     rw[Yj]at L7
     rw[Yj,ZR]at ρ
     have mW:Ca an i=J:=by unfold Ca;rw[aC];rfl
     refine f7 @iu @f3 (bJ hf) @L7 @ρ ⟨?_⟩
     exact Fp _ _ _ ⟨a1 t1,a1 d3,kr,a1 ru,a1 rv,a1 qz,a1 f3,a1 pa,a1 y1,a1 y2,bn,by refine x5 ⟨?_⟩;rw[mW];rfl,rfl,rfl⟩
    ·have iu:decide ((i:Int)<(an.dg.length:Int))=false:=by simp only[Zb];omega
     have mW:Ca an i=0:=by unfold Ca;rw[Z2 Zo];rfl
     refine ci @iu ⟨?_⟩
     exact Fp _ _ _ ⟨a1 t1,a1 d3,kr,a1 ru,a1 rv,a1 qz,a1 f3,a1 pa,a1 y1,a1 y2,bn,by refine x5 ⟨?_⟩;rw[mW],rfl,rfl⟩
   ·clear t1 d3 kr ru rv qz f3 pa y1 y2
    rintro rK T aS ⟨t1,d3,kr,ru,rv,qz,f3,pa,y1,y2,gZ,t9,rfl,rfl⟩
    show aj _ _
    refine gp @t1 @gZ @t9 (bJ Xj) ⟨?_⟩
    refine(arB ax Zo kw wS Zo Zo AP iH.jJ (be.ac (bs:=P) Bh (λ_ a=>a)) (λe I=>⟨by have:=(bu e I).1;omega,(bu e I).2.1,(bu e I).2.2⟩) iH.Cf w (Ca an i) ⟨anV.1,Zo⟩).Zm ?_
    rintro ad dY iX ⟨rfl,Qo,am7,tm,qd⟩
    refine cM @y2 @cF ⟨?_⟩
    refine⟨gj,Zo,i+1,a1 t1,a1 d3,kr,a1 ru,a1 rv,a1 qz,a1 f3,a1 pa,a1 y1,bn,Zo, ?_, ?_,Zo,by rw[qd _ Zo Zo Zo];exact hf⟩
    ·rw[A7]
     exact⟨Zo,Qo,am7,λe R U ar=>by rw[qd e Zo U ar];exact iH.low e R U ar⟩
    ·rw[A7]
     intro x
     have ag:=ms x
     simp only[yH]
     split
     ·simp only[zb];push_cast;omega
     ·push_cast;omega
end
def asu{C:aW}{h:S ak}{j r pos c:Nat}{s:bx}(Z:C.a7<=r)(a:aa C h r=some (.od s pos))(az:s[pos]? =some c)(R:c<128):
 wK C kn true h j (ko (.ptr r 0))=some (.fv (.tuple [.bool true, .Z (pos:Int), .int .i32 (c:Int)]) (bm C h r (some (.od s (pos+1)))) j):=by
 have c2:=(Zc.1 az).1
 have bB:Nat.blt pos s.length=true:=by simp[Nat.blt];omega
 have cF:Nat.blt c 128=true:=by simp[Nat.blt];omega
 have fp:kt C r=true:=lg Z
 simp only[wK,ko,fp,e2,a,bB,pE,az,cF,bg.setObj,he]
 rfl
def ass{C:aW}{h:S ak}{j r pos:Nat}{s:bx}(Z:C.a7<=r)(a:aa C h r=some (.od s pos))(az:s.length<=pos):
 wK C kn true h j (ko (.ptr r 0))=some (.val (.tuple [.bool false])):=by
 have bB:Nat.blt pos s.length=false:=by
  cases cl:Nat.blt pos s.length with
  |false=>rfl
  |true=>simp[Nat.blt]at cl;omega
 have fp:kt C r=true:=lg Z
 simp only[wK,ko,fp,e2,a,bB,jK]
def alO{W:Option ea}{h T:S ak}{j ao:Nat}{ah:bG}{v:H}(a:W=some (.fv v T ao))(D:ah v T ao):EX W h j ah:=by subst a;exact⟨D⟩
def alN{W:Option ea}{h:S ak}{j:Nat}{ah:bG}{v:H}(a:W=some (.val v))(D:ah v h j):EX W h j ah:=by subst a;exact⟨D⟩
section
variable{X:ck}{h T fG aX aJ:S ak}{j ao aL a6:Nat}
def RA{c:Nat}(a:iL c=true):(97<=c/\c<=122)\/(65<=c/\c<=90)\/(48<=c/\c<=57)\/c=95:=by
 simp[iL,qk,iz]at a
 omega
def asI(ax:dv X){c:Nat}(az:iL c=true):aR X 185 [.int .i32 (c:Int)] h j (λad T ao=>ad= .bool false/\T=h/\j<=ao) (λ_ _ _=>False):=by
 refine c4 (ags X) (ax.none _ _ rfl) ?_
 rw[agt]
 unfold Up
 rcases RA az with a|a|a|a
 ·have cT:decide ((c:Int)<97)=false:=by simp only[Zb];omega
  have cJ:decide ((122:Int)<(c:Int))=false:=by simp only[Zb];omega
  refine cM @cT @cJ ⟨?_⟩
  exact⟨rfl,rfl,Zo⟩
 ·have cT:decide ((c:Int)<97)=true:=by simp only[Zg];omega
  have cJ:decide ((c:Int)<65)=false:=by simp only[Zb];omega
  have eT:decide ((90:Int)<(c:Int))=false:=by simp only[Zb];omega
  refine eu @cT @cJ @eT ⟨?_⟩
  exact⟨rfl,rfl,Zo⟩
 ·have cT:decide ((c:Int)<97)=true:=by simp only[Zg];omega
  have cJ:decide ((c:Int)<65)=true:=by simp only[Zg];omega
  have eT:decide ((c:Int)<48)=false:=by simp only[Zb];omega
  have iu:decide ((57:Int)<(c:Int))=false:=by simp only[Zb];omega
  refine gp @cT @cJ @eT @iu ⟨?_⟩
  exact⟨rfl,rfl,Zo⟩
 ·have cT:decide ((c:Int)<97)=true:=by simp only[Zg];omega
  have cJ:decide ((c:Int)<65)=false:=by simp only[Zb];omega
  have eT:decide ((90:Int)<(c:Int))=true:=by simp only[Zg];omega
  have iu:decide ((c:Int)<48)=false:=by simp only[Zb];omega
  have f6:decide ((57:Int)<(c:Int))=true:=by simp only[Zg];omega
  have iR:decide ((c:Int)≠95)=false:=by simp only[Zb,ne_eq,Decidable.not_not];omega
  refine hQ @cT @cJ @eT @iu @f6 @iR ⟨?_⟩
  exact⟨rfl,rfl,Zo⟩
def auk{C:aW}{s:bx}{ah:bG}(D:ah (.ptr j 0) (bm C h j (some (.od s 0))) (j+1)):gO (SD C h j (.str s)) h j ah:=kG (by simp only[SD,m2,l0,he]) D
def ajJ:dj X h .eql 4 false (.bool false) (.bool false)=some (.bool true):=Zk
def Wb:dj X h .eql 4 false (.bool false) (.bool true)=some (.bool false):=Zk
def ajK:dj X h .eql 4 false (.bool true) (.bool false)=some (.bool false):=Zk
def ajL:dj X h .eql 4 false (.bool true) (.bool true)=some (.bool true):=Zk
def ajI(J b:Bool):dj X h .eql 4 false (.bool J) (.bool b)=some (.bool (J==b)):=by
 cases J<;>cases b
 ·exact ajJ
 ·exact Wb
 ·exact ajK
 ·exact ajL
def aqu(ax:dv X){s:bx}(aI:∀c∈s,iL c=true)(aK:(q X).a7<=j):
 aR X 186 [.str s, .func (.func 185) [] []] h j (λad T ao=>ad= .Z (-1)/\bj X h j T ao) (λ_ _ _=>False):=by
 refine c4 (agu X) (ax.none _ _ rfl) ?_
 rw[agv]
 unfold Uq
 refine c4 (ahe X) (ax.none _ _ rfl) ?_
 rw[ahf]
 unfold UM
 refine auk ?_
 generalize en:bm X h j _=aX
 have b3:aa X aX j=some (.od s 0):=by rw[<-en,bh aK]
 have bU:bj X h j aX (j+1):=by rw[<-en];exact dM
 clear en
 refine cH ⟨?_⟩
 refine fD (λm K T aS=>∃(Y:Nat),K.g 1=some (.func (.func 185) [] [])/\K.g 2=some (.bool true)/\K.g 10=some (.ptr j 0)/\Y+m=s.length/\aa X T j=some (.od s Y)/\bj X h j T aS/\j+1<=aS)
  s.length ⟨0,bn,bn,bn,Zo,b3,bU,Zo⟩ ?_
 rintro m K aJ a6 ⟨Y,t1,d3,jo,bH,b2,bE,kZ⟩
 cases m with
 |zero=>
  refine ci @jo ⟨?_⟩
  refine alN (ass aK b2 Zo) ?_
  refine cH ⟨?_⟩
  exact⟨rfl,bE⟩
 |succ m=>
  obtain⟨c,az⟩:∃c,s[Y]? =some c:=⟨_,Ze Zo⟩
  have bp:=aI c (Zj az)
  have amV:c<128:=by have:=RA bp;omega
  refine ci @jo ⟨?_⟩
  refine alO (asu aK b2 az amV) ?_
  refine ci @t1 ⟨?_⟩
  generalize fd:bm X aJ j _=aY
  have cQ:aa X aY j=some (.od s (Y+1)):=by rw[<-fd,bh aK]
  have ca:bj X h j aY a6:=⟨bE.le,λe I=>by rw[<-fd,aE aK Zo];exact bE.ac e I⟩
  clear fd
  refine(asI ax bp).Zm ?_
  rintro ad bw c7 ⟨rfl,rfl,ji⟩
  refine cM @d3 @Wb ⟨?_⟩
  refine⟨m,Zo,Y+1,a1 t1,a1 d3,a1 jo,Zo,cQ,⟨by have:=ca.le;omega,ca.ac⟩,Zo⟩
end
def adC:List bx:=[[110,111,100,101],[114,101,116,117,114,110,115],[118,97,114],[108,101,116],[116,101,108],[119,104,101,110],[110,111,116],[111,114],[120,111,114],[97,110,100],[112,114,101],[102,98,121],[105,102],[116,104,101,110],[101,108,115,101],[109,101,114,103,101],[116,114,117,101],[102,97,108,115,101]]
def at6:∀w∈adC,w∈vt:=by decide
structure qH(X:ck):Prop where
 a7:2<X.a7
 at_:∀h,∃b a8,am X h (.ptr 2 0)=some a8/\d5 X h (λe=>e<X.a7) b a8 1 (il adC)
section
variable{X:ck}{h T fG aX aJ:S ak}{j ao aL a6:Nat}{s:bx}
def ala:dj X h .eql 238 true .nilIface .nilIface=some (.bool true):=Zk
def alb(b:Nat):dj X h .eql 238 true (.iface 283 (.ptr b 0)) .nilIface=some (.bool false):=Zk
def aka(ax:dv X){b:Nat}{a8:H}{P:Nat->Prop}{mM:List bx}(Z:d5 X h P b a8 1 (il mM))(aI:s∉mM):
 aR X 187 [a8, .str s] h j (λad T ao=>ad= .bool false/\bj X h j T ao) (λ_ _ _=>False):=by
 refine c4 (agw X) (ax.none _ _ rfl) ?_
 rw[agx]
 unfold Ur
 refine aR.mono (ah:=λad T ao=>ad= .Z (-1)/\bj X h j T ao) (aw:=λ_ _ _=>False) ?_ ?_ (λ_ _ _ a=>a.elim)
 ·refine c4 (ahg X) (ax.none _ _ rfl) ?_
  rw[ahh]
  unfold UN
  have ec:=Z.len
  have hp:=Z.many
  rw[show(il mM).length=mM.length from by simp[il]]at ec hp
  refine ci @ec ⟨?_⟩
  refine fD (λm K T aS=>∃(Y:Nat),K.g 0=some a8/\K.g 1=some (.str s)/\K.g 7=some (.Z (mM.length:Int))/\K.g 8=some (.Z (Y:Int))/\Y+m=mM.length/\T=h/\aS=j)
   mM.length ⟨0,bn,bn,bn,fN,Zo,rfl,rfl⟩ ?_
  rintro m K aJ a6 ⟨Y,t0,t1,gu,gZ,bH,rfl,rfl⟩
  cases m with
  |zero=>
   have d:decide ((Y:Int)<(mM.length:Int))=false:=by simp only[Zb];omega
   refine eu @gZ @gu @d ⟨?_⟩
   exact⟨rfl,bj.refl _ _⟩
  |succ m=>
   have d:decide ((Y:Int)<(mM.length:Int))=true:=by simp only[Zg];omega
   have bB:aA .add (.Z (Y:Int)) (.Z 1)=some (.Z ((Y+1:Nat):Int)):=by rw[eI Zo Zo];rfl
   obtain⟨w,bP⟩:∃w,mM[Y]? =some w:=⟨_,Ze Zo⟩
   have d2:=Z.gi Y (by simp[il];omega)
   have iJ:=Z.cell Y [.str w] 0 (.str w) (by unfold il;rw[Zx,bP];rfl) rfl
   rw[Yj]at d2
   rw[Yj,ZR]at iJ
   have dI:s≠w:=λF=>aI (by rw[F];exact Zj bP)
   have cJ:decide (s=w)=false:=by simp[dI]
   refine ev @gZ @gu @t1 @t0 @d @d2 (Za @iJ (Za @cJ @bB)) ⟨?_⟩
   exact⟨m,Zo,Y+1,a1 t0,a1 t1,a1 gu,bn,Zo,rfl,rfl⟩
 ·rintro ad aX aL ⟨rfl,bS⟩
  refine cH ⟨?_⟩
  exact⟨rfl,bS⟩
def aec(ax:dv X)(t:es)(aK:(q X).a7<=j):aR X 128 [.agg (eC t)] h j (λad T ao=>ad= .str (m7 t)/\bj X h j T ao) (λ_ _ _=>False):=by
 refine c4 (afj X) (ax.none _ _ rfl) ?_
 rw[afk]
 unfold TL
 have be:eC t=[.bool t.b, .bool t.s, .Z t.w]:=rfl
 rw[be]
 refine cH ⟨?_⟩
 refine e8 (λaX=>aa X aX j=some (.cells (S.ofList [.bool t.b, .bool t.s, .Z t.w] 0 .nil) 3 .own)/\bj X h j aX (j+1)) ⟨bh aK,dM⟩ ?_
 rintro aX ⟨b3,bU⟩
 refine(Du ax t Zo).Zm ?_
 rintro ad aJ a6 ⟨rfl,bE⟩
 have f2:=bE.le
 have bS:=bU.trans bE
 have b2:aa X aJ j=some (.cells (S.ofList [.bool t.b, .bool t.s, .Z t.w] 0 .nil) 3 .own):=by rw[bE.ac _ Zo];exact b3
 have d7:am X aJ (.ptr j 0)=some (.bool t.b):=by rw[bJ b2];rfl
 have dk:am X aJ (.ptr j 1)=some (.bool t.s):=by rw[bJ b2];rfl
 have dB:am X aJ (.ptr j 2)=some (.Z t.w):=by rw[bJ b2];rfl
 cases bp:kA t with
 |false=>
  refine cH ⟨?_⟩
  exact⟨by simp[m7,bp],bS⟩
 |true=>
  cases mx:t.b with
  |true=>
   rw[mx]at d7
   refine ci @d7 ⟨?_⟩
   exact⟨by simp[m7,bp,mx],bS⟩
  |false=>
   rw[mx]at d7
   have bP:1<=t.w/\t.w<=64:=by simpa[kA,mx]using bp
   obtain⟨w,yB⟩:=Yl (by omega:0<=t.w)
   rw[yB]at dB
   have aM:jl t.w.toNat=jl w:=by rw[yB];rfl
   have fB:(jl w).length<=2:=by unfold jl;split<;>simp
   have sV:∀h c,dj X h .add 9 true (.str [c]) (.str (jl w))=some (.str (c::jl w)):=λh c=>by
    have:Nat.ble ([c].length+(jl w).length) 1000000000=true:=lg (by simp;omega)
    simp only[dj,Am,this,e2];rfl
   cases iW:t.s with
   |true=>
    rw[iW]at dk
    refine eu @d7 @dk @dB ⟨?_⟩
    refine(MO ax Zo).Zm ?_
    rintro ad aY ba ⟨rfl,rfl,rfl⟩
    refine ci @sV ⟨?_⟩
    exact⟨by simp[m7,bp,mx,iW,aM],bS⟩
   |false=>
    rw[iW]at dk
    refine eu @d7 @dk @dB ⟨?_⟩
    refine(MO ax Zo).Zm ?_
    rintro ad aY ba ⟨rfl,rfl,rfl⟩
    refine ci @sV ⟨?_⟩
    exact⟨by simp[m7,bp,mx,iW,aM],bS⟩
def aqB{c:Nat}(a:iL c=true):c<256:=by have:=RA a;omega
def avZ(ax:is X)(bS:lw X)(aI:Ef s)(aK:(q X).a7<=j):
 aR X 188 [.str s] h j (λad T ao=>ad= .bool false/\bj X h j T ao) (λ_ _ _=>False):=by
 refine c4 (agy X) (ax.none _ _ rfl) ?_
 rw[agz]
 unfold Us
 cases s with
 |nil=>exact absurd rfl aI.ne
 |cons c l=>
  cases l with
  |nil=>
   have nN:decide (((1:Nat):Int)<2)=true:=rfl
   refine ci @nN ⟨?_⟩
   exact⟨rfl,dM⟩
  |cons dB l=>
   have cT:decide ((((dB::l).length+1:Nat):Int)<2)=false:=by simp only[Zb,ZC];omega
   have j7:kd (.str (c::dB::l)) (some (.Z 1)) none=some (.str (dB::l)):=NK (l:=1) .i64 Zs
   have d2:lo (.str (c::dB::l)) (.Z 0)=some (.int .u8 (c:Int)):=Bg (i:=0) .i64 rfl
   have ec:lR (.str (c::dB::l))=some (.Z ((c::dB::l).length:Int)):=sp _
   have jP:=aI.all
   have fB:=aI.len
   have wO:c::dB::l≠[98,111,111,108]:=λF=>by have:=aI.ty;rw[F]at this;cases this
   have cJ:decide (c::dB::l=[98,111,111,108])=false:=by simp only[Zb];exact wO
   have yx:=aI.ty
   generalize lL:dB::l=m at*
   have f6:decide ((c:Int)=105)=decide (c=105):=by simp;omega
   refine fE ec ?_
   refine cM @cT @j7 ⟨?_⟩
   refine(VX ax bS (by simp at fB;omega) (λx ag=>aqB (jP x (Zu _ ag))) (acP (λx ag=>jP x (Zu _ ag))) Zo).Zm ?_
   rintro ad aJ a6 ⟨⟨br,F,rfl,bt,ag⟩,bE⟩
   have f2:=bE.le
   rcases bt with rfl|⟨b,rfl⟩
   ·refine gp @cJ @ala @d2 @f6 ⟨?_⟩
    refine(aec (j:=a6) (h:=aJ) ax.todv ⟨false,decide (c=105),br⟩ Zo).Zm ?_
    rintro ad aY ba ⟨rfl,ca⟩
    have aD:decide (c::m=m7 ⟨false,decide (c=105),br⟩)=false:=by
     simp only[Zb]
     intro a
     cases bp:kA ⟨false,decide (c=105),br⟩with
     |false=>simp[m7,bp]at a
     |true=>
      have ct:1<=br/\br<=64:=by simpa[kA]using bp
      obtain⟨n,rfl⟩:=Yl (by omega:0<=br)
      simp only[m7,bp,ZD,Zv,ZB]at a
      have R:=(List.cons.inj a).1
      have U:=(List.cons.inj a).2
      have LV:c=105\/c=117:=by
       by_cases az:c=105
       ·exact .inl az
       ·simp[az]at R;exact .inr R
      exact aeb yx LV (n:=n) Zo Zo (by simpa using U.symm)
    refine ci @aD ⟨?_⟩
    exact⟨rfl,bE.trans ca⟩
   ·refine cM @cJ @alb ⟨?_⟩
    exact⟨rfl,bE⟩
def Jt(ax:is X)(bS:lw X)(eK:qH X)(aI:Ef s)(aK:(q X).a7<=j):
 aR X 140 [.str s] h j (λad T ao=>ad= .bool true/\bj X h j T ao) (λ_ _ _=>False):=by
 refine c4 (afz X) (ax.none _ _ rfl) ?_
 rw[afA]
 unfold TT
 have dI:=aI.ne
 have cT:decide (s=[])=false:=by simp[dI]
 have fB:=aI.len
 have cJ:decide ((32:Int)<(s.length:Int))=false:=by simp only[Zb];omega
 obtain⟨c,az⟩:∃c,s.head?=some c:=by cases s with|nil=>exact absurd rfl dI|cons c l=>exact⟨c,rfl⟩
 have yi:=aI.ajA c az
 have d2:lo (.str s) (.Z 0)=some (.int .u8 (c:Int)):=Bg (i:=0) .i64 (by rw[<-List.head?_eq_getElem?];exact az)
 have yk:65<=c:=by simp[qk]at yi;omega
 have eT:decide ((48:Int)<=(c:Int))=true:=by simp only[Zg];omega
 have iu:decide ((c:Int)<=57)=false:=by simp only[Zb];omega
 refine f7 @cT @cJ @d2 @eT @iu ⟨?_⟩
 refine(aqu ax.todv aI.all aK).Zm ?_
 rintro ad aX aL ⟨rfl,bU⟩
 have jB:=bU.le
 obtain⟨b,a8,j7,cz⟩:=eK.at_ aX
 have Av:decide ((0:Int)<= -1)=false:=rfl
 refine cM @j7 @Av ⟨?_⟩
 refine(aka (j:=aL) ax.todv cz (λa=>aI.res (at6 _ a))).Zm ?_
 rintro ad aJ a6 ⟨rfl,bE⟩
 have f2:=bE.le
 refine cH ⟨?_⟩
 refine(avZ (j:=a6) (h:=aJ) ax bS aI Zo).Zm ?_
 rintro ad aY ba ⟨rfl,ca⟩
 refine cH ⟨?_⟩
 exact⟨rfl,(bU.trans bE).trans ca⟩
end
section
variable{X:ck}{h T fG aX aJ:S ak}{j ao aL a6:Nat}{s:bx}
def Tl:List H:=[.str [], .Z 0, .bool false, .bool false, .Z 0, .str [], .Z 0, .bool false]
def amG(n:Nat):Fh X h j .append [34,3] [.aT, .Z (n:Int)]=bR (Nat.ble n 1048576) (bR (Nat.beq n 0) (some (.val .aT)) (s7 X h j n 8 (kF n Tl))) none:=Zk
def DR(n:Nat)(l:List H):(kF n l).length=n*l.length:=by
 induction n with
 |zero=>simp[kF]
 |succ n al=>simp[kF,al,Z9];omega
def ajX:pV X h .cap [34] [.aT]=some (.Z 0):=Zk
def auV:sG X h 8 .aT none (some (.Z 0)) none=some .aT:=by rfl
def auX{dW n m:Nat}{c:S H}(a:aa X h dW=some (.cells c m (.grow []))):sG X h 8 (.fu dW 0 n 8) none (some (.Z 0)) none=some (.fu dW 0 0 8):=by
 have bB:oV (some (.Z 0)) (m/8) n=some 0:=by simp[oV,asp]
 have cF:∀J b:Nat,oV none J b=some b:=λJ b=>rfl
 have fp:xm X h dW=some m:=by simp[xm,a]
 have jM:Nat.blt 0 8=true:=rfl
 simp only[sG,fp,lY,Y9,cF,bB]
 simp[jM]
def atS{C:aW}{P:Nat->Prop}{b bl:Nat}{a8:H}{bC:List (List H)}(a:d5 C h P b a8 bl bC)(ct:0<bl):k8 C h bl a8=some (bC.length,bC.flatten):=by
 have Iv:=wy a.wide
 have key:∀dR W n:Nat,n=bC.length->(∀i,i<bC.length->some (H.ptr dR (W+i*bl))=some (.ptr b (i*bl)))->mT C h dR W (n*bl)=some bC.flatten:=by
  intro dR W n aK aM
  subst aK
  by_cases cj:bC.length=0
  ·have:bC=[]:=Yt cj
   subst this
   simp only[mT]
   cases az:cellsOf C h dR with
   |none=>simp
   |some c=>simp[Xw]
  ·have R:=aM 0 Zo
   simp at R
   obtain⟨rfl,rfl⟩:=R
   obtain⟨r,Z⟩:∃r,bC[0]? =some r:=⟨_,Ze Zo⟩
   have Mw:=a.wide r (Zj Z)
   obtain⟨v,bA⟩:∃v,r[0]? =some v:=⟨_,Ze Zo⟩
   have r2:=a.cell 0 r 0 v Z bA
   simp only[zl,ZR]at r2
   have CK:∃c,cellsOf C h dR=some c:=by
    simp only[am]at r2
    cases az:cellsOf C h dR with
    |none=>rw[az]at r2;cases r2
    |some c=>exact⟨c,rfl⟩
   obtain⟨c,az⟩:=CK
   simp only[mT,az]
   rw[<-Iv]
   refine Xu _ _ λY v bH=> ?_
   have uF:=(Zc.1 bH).1
   rw[Iv]at uF
   have cl:Y/bl<bC.length:=Nat.div_lt_of_lt_mul (by rw[zp];exact uF)
   obtain⟨hH,k0⟩:∃r,bC[Y/bl]? =some r:=⟨_,Ze cl⟩
   have ax6:=a.wide hH (Zj k0)
   have bp:Y%bl<bl:=Nat.mod_lt _ ct
   obtain⟨hI,yz⟩:∃v,hH[Y%bl]? =some v:=⟨_,Ze Zo⟩
   have U:=a.cell (Y/bl) hH (Y%bl) hI k0 yz
   have ar:=Py bC a.wide (Y/bl) hH (Y%bl) hI k0 yz
   have aO:Y/bl*bl+Y%bl=Y:=by rw[zp];exact Nat.div_add_mod Y bl
   rw[aO]at U ar
   rw[bH]at ar
   cases ar
   simp only[am,az]at U
   rw[ZM]
   exact U
 have aB:=a.len
 cases a8 with
 |slice dR W n cap=>
  have aK:n=bC.length:=by rw[oW]at aB;simp at aB;omega
  have aM:∀i,i<bC.length->some (H.ptr dR (W+i*bl))=some (.ptr b (i*bl)):=λi aM=>by
   have:=a.gi i aM
   rw[<-this]
   have F:Nat.blt i n=true:=by simp[Nat.blt];omega
   simp only[dC,rk,BT,F,e2]
  have aF:=key dR W n aK aM
  subst aK
  simp only[k8,aF]
 |fu dR W n xo=>
  have aK:n=bC.length:=by rw[qo]at aB;simp at aB;omega
  have aM:∀i,i<bC.length->some (H.ptr dR (W+i*bl))=some (.ptr b (i*bl)):=λi aM=>by
   have:=a.gi i aM
   rw[<-this]
   have F:Nat.blt i n=true:=by simp[Nat.blt];omega
   simp only[dC,rk,BT,F,e2]
  have aF:=key dR W n aK aM
  subst aK
  simp only[k8,aF]
 |aT=>
  have aK:(0:Int)=bC.length:=by rw[tw]at aB;simpa using aB
  have:bC=[]:=Yt Zo
  subst this
  rfl
 |_=>simp[d8]at aB
def aul{dW n r m:Nat}{c:S H}{x:H}{l:List H}{ah:bG}(ai:aa X h dW=some (.cells c (m*8) (.grow [])))(aH:(q X).a7<=dW)(ag:k8 X h 8 x=some (r,l))(aB:l.length=r*8)(Z:n+r<=m)(R:Go.bg.jD l=true)
 (D:∀T fZ,aa X T dW=some (.cells fZ (m*8) (.grow []))->(∀i,fZ.get i=if n*8<=i/\i<n*8+l.length then l[i-n*8]? else c.get i)->(∀e,e≠dW->aa X T e=aa X h e)->ah (.fu dW 0 (n+r) 8) T j):
 gO (iQ X h j 8 (.fu dW 0 n 8) x) h j ah:=by
 by_cases cj:r=0
 ·subst cj
  have:l=[]:=Yt Zo
  subst this
  have bB:iQ X h j 8 (.fu dW 0 n 8) x=some (.val (.fu dW 0 n 8)):=by
   simp only[iQ,ag]
   simp[Ev,xm,ai]
   omega
  refine at4 bB ?_
  exact D h c ai (λi=>by rw[Zh Zs]) (λ_ _=>rfl)
 ·have cF:Nat.ble ((n+r)*8) (m*8)=true:=lg Zo
  have fp:Nat.ble (n*8+l.length) (m*8)=true:=lg Zo
  have HH:Nat.beq 8 8=true:=rfl
  have jM:kt X dW=true:=lg aH
  have ps:iQ X h j 8 (.fu dW 0 n 8) x=some (.fv (.fu dW 0 (n+r) 8) (Go.bg.bm X h dW (some (.cells (dT c (n*8) l) (m*8) (.grow [])))) j):=by
   simp only[iQ,ag]
   rw[hB,Zh cj]
   simp only[xI,Hk,ai,jM,HH,e2,cF,wi,fp,R,Yc,he,pD,ZM]
  refine kG ps ?_
  refine D _ _ (bh aH) (λi=> ?_) (λe I=>aE aH I)
  rw[kg]
def auO(ax:dv X){n:Nat}(cj:0<n)(R:n<=300000)(aK:(q X).a7<=j):
 aR X 189 [.aT, .Z (n:Int)] h j (λad T ao=>ad= .fu j 0 0 8/\(∃c,aa X T j=some (.cells c (n*8) (.grow [])))/\bj X h j T ao/\j<ao) (λ_ _ _=>False):=by
 refine c4 (agA X) (ax.none _ _ rfl) ?_
 rw[agB]
 unfold Ut
 have cT:decide ((n:Int)<0)=false:=by simp only[Zb];omega
 have cJ:decide ((0:Int)<(n:Int))=true:=by simp only[Zg];omega
 have bB:aA .sub (.Z 0) (.Z 0)=some (.Z 0):=Bb Zo Zo
 have cF:aA .sub (.Z (n:Int)) (.Z 0)=some (.Z (n:Int)):=by rw[Bb Zo Zo];simp
 have fp:Fh X h j .append [34,3] [.aT, .Z (n:Int)]=some (.fv (.fu j 0 n 8) (bm X h j (some (.cells (S.ofList (kF n Tl) 0 .nil) (n*8) (.grow [])))) (j+1)):=by
  rw[amG,lg Zo,e2,hB,Zh Zo]
  simp only[s7,lg (show n<=1048576 by omega),e2,m2,l0,he,DR]
  rfl
 refine hQ @cT @ajX @bB @cF @cJ @auV ⟨?_⟩
 refine kG fp ?_
 generalize en:bm X h j _=aX
 have b3:aa X aX j=some (.cells (S.ofList (kF n Tl) 0 .nil) (n*8) (.grow [])):=by rw[<-en,bh aK]
 have bU:bj X h j aX (j+1):=by rw[<-en];exact dM
 clear en
 have jM:=auX (n:=n) b3
 refine ci @jM ⟨?_⟩
 exact⟨rfl,⟨_,b3⟩,bU,Zo⟩
def Aq(l:List (List fP)):Nat:=(l.map List.length).sum
def aj7(ax:dv X){P:Nat->Prop}{iP cZ dO ei:Nat}{dd dz a8:H}{dD bi ae:List fP}(aK:(q X).a7<=j)(q2:iP<j)(aC:aa X h iP=some (.cells (S.ofList [dd,dz,a8] 0 .nil) 3 .own))
 (R:d5 X h P cZ dd 8 (dD.map eW))(U:d5 X h P dO dz 8 (bi.map eW))(ar:d5 X h P ei a8 8 (ae.map eW))(bu:∀e,P e->e<j)(cj:0<dD.length+bi.length+ae.length)(bp:dD.length+bi.length+ae.length<=300000):
 aR X 142 [.slice iP 0 3 3] h j (λad T ao=>∃b,d5 X T (dy j ao) b ad 8 ((dD++(bi++ae)).map eW)/\bj X h j T ao) (λ_ _ _=>False):=by
 refine c4 (afD X) (ax.none _ _ rfl) ?_
 rw[afE]
 unfold TV
 have FF:∀Y,Y<3->∃s b L,[dd,dz,a8][Y]? =some s/\d5 X h P b s 8 (L.map eW)/\([dD,bi,ae]:List (List fP))[Y]? =some L/\L.length<=300000:=by
  intro Y bH
  match Y,bH with
  |0,_=>exact⟨dd,cZ,dD,rfl,R,rfl,Zo⟩
  |1,_=>exact⟨dz,dO,bi,rfl,U,rfl,Zo⟩
  |2,_=>exact⟨a8,ei,ae,rfl,ar,rfl,Zo⟩
 have r2:∀T Y s,aa X T iP=some (.cells (S.ofList [dd,dz,a8] 0 .nil) 3 .own)->[dd,dz,a8][Y]? =some s->am X T (.ptr iP Y)=some s:=λT Y s a aI=>by rw[bJ a,kC];exact aI
 obtain⟨li,wR⟩:∃li:Nat->Nat,∀Y,li Y=Aq (([dD,bi,ae]:List (List fP)).take Y):=⟨_,λ_=>rfl⟩
 obtain⟨x1,tl⟩:∃x1:Nat->List fP,∀Y,x1 Y=(([dD,bi,ae]:List (List fP)).take Y).flatten:=⟨_,λ_=>rfl⟩
 have aal:∀Y L,([dD,bi,ae]:List (List fP))[Y]? =some L->x1 (Y+1)=x1 Y++L:=by
  intro Y L a
  rw[tl,tl,ZY,a];simp
 have Io:∀Y,li Y=(x1 Y).length:=λY=>by rw[wR,tl];unfold Aq;rw[List.length_flatten]
 have df:∀Y L,([dD,bi,ae]:List (List fP))[Y]? =some L->li (Y+1)=li Y+L.length:=by
  intro Y L a
  rw[Io,Io,aal Y L a,ZP]
 have gr:∀Y,li Y<=dD.length+bi.length+ae.length:=by
  intro Y
  rw[wR]
  match Y with
  |0=>simp[Aq]
  |1=>simp[Aq];omega
  |2=>simp[Aq]
  |n+3=>simp[Aq];omega
 have XL:li 3=dD.length+bi.length+ae.length:=by rw[wR];simp[Aq];omega
 have Cy:li 0=0:=by rw[wR];simp[Aq]
 have alu:x1 0=[]:=by rw[tl];rfl
 refine cH ⟨?_⟩
 refine fD (λm K T aS=>∃(Y:Nat),K.g 0=some (.slice iP 0 3 3)/\K.g 9=some (.slice iP 0 3 3)/\K.g 10=some (.Z 3)/\K.g 11=some (.Z (Y:Int))/\K.g 3=some (.Z (li Y:Nat))/\Y+m=3/\T=h/\aS=j)
  3 ⟨0,bn,bn,fN,fN,by refine x5 ⟨?_⟩;rw[Cy];rfl,Zo,rfl,rfl⟩ ?_
 rintro m K aX aL ⟨Y,t0,t9,jo,jp,t3,bH,rfl,rfl⟩
 cases m with
 |succ m=>
  have d:decide ((Y:Int)<3)=true:=by simp only[Zg];omega
  have bB:aA .add (.Z (Y:Int)) (.Z 1)=some (.Z ((Y+1:Nat):Int)):=by rw[eI Zo Zo];rfl
  obtain⟨s,b,L,aI,cz,f0,anm⟩:=FF Y Zo
  have CU:=gr Y
  have d2:dC 1 (.slice iP 0 3 3) (.Z (Y:Int))=some (.ptr iP Y):=by rw[FU _ Zo];simp
  have az:=r2 _ Y s aC aI
  have ec:=cz.len
  rw[Zp]at ec
  have cF:aA .add (.Z ((li Y:Nat):Int)) (.Z (L.length:Int))=some (.Z ((li (Y+1):Nat):Int)):=by
   rw[df Y L f0,eI Zo Zo];simp
  have cJ:decide (((li (Y+1):Nat):Int)<0)=false:=by simp only[Zb];omega
  refine ev @jp @jo @t9 @t3 @d @d2 (Za @az (Za @ec (Za @cF (Za @cJ @bB)))) ⟨?_⟩
  exact⟨m,Zo,Y+1,a1 t0,a1 t9,a1 jo,bn,bn,Zo,rfl,rfl⟩
 |zero=>
  have d:decide ((Y:Int)<3)=false:=by simp only[Zb];omega
  have L8:Y=3:=Zo
  subst L8
  rw[XL]at t3
  refine gp @jp @jo @t3 @d ⟨?_⟩
  refine(auO ax cj bp aK).Zm ?_
  rintro ad aJ a6 ⟨rfl,⟨dB,b2⟩,bE,kZ⟩
  generalize q0:dD.length+bi.length+ae.length=dn at*
  refine ci @t0 ⟨?_⟩
  refine fD (λm K T aS=>∃(Y:Nat) (c:S H),K.g 25=some (.slice iP 0 3 3)/\K.g 26=some (.Z 3)/\K.g 27=some (.Z (Y:Int))/\K.g 6=some (.fu aL 0 (li Y) 8)/\Y+m=3/\aL<aS/\bj X aX aL T aS
   /\aa X T aL=some (.cells c (dn*8) (.grow []))/\∀(i:Nat) v,((x1 Y).map eW).flatten[i]? =some v->c.get i=some v)
   3 ⟨0,dB,bn,fN,fN,by refine x5 ⟨?_⟩;rw[Cy],Zo,kZ,bE,b2,λi v a=>by rw[alu]at a;simp at a⟩ ?_
  clear t0 t9 jo jp t3
  rintro m K aY ba ⟨Y,gF,iN,jW,vE,f3,bH,wX,ca,cQ,wQ⟩
  have Iv:∀L:List fP,((L.map eW).flatten).length=L.length*8:=λL=>by
   have:=wy (bC:=L.map eW) (bl:=8) (by intro r Z;obtain⟨d,_,rfl⟩:=ZW.1 Z;rfl)
   rw[this,Zp]
  cases m with
  |zero=>
   have d:decide ((Y:Int)<3)=false:=by simp only[Zb];omega
   have L8:Y=3:=Zo
   subst L8
   rw[XL]at f3
   refine gp @vE @jW @f3 @d ⟨?_⟩
   have jP:x1 3=dD++(bi++ae):=by rw[tl];simp
   rw[jP]at wQ
   have fB:(dD++(bi++ae)).length=dn:=by simp;omega
   refine⟨aL,⟨λ_=>⟨Zo,Zo⟩,by rw[Zp,fB];omega,by intro r Z;obtain⟨d,_,rfl⟩:=ZW.1 Z;rfl,by rw[qo,Zp,fB],λi aM=>by rw[FV _ (by rw[Zp,fB]at aM;omega),ZM],λi r abM v aM Fp=> ?_⟩,ca⟩
   rw[bJ cQ]
   exact wQ _ _ (Py _ (by intro r Z;obtain⟨d,_,rfl⟩:=ZW.1 Z;rfl) i r abM v aM Fp)
  |succ m=>
   have d:decide ((Y:Int)<3)=true:=by simp only[Zg];omega
   have bB:aA .add (.Z (Y:Int)) (.Z 1)=some (.Z ((Y+1:Nat):Int)):=by rw[eI Zo Zo];rfl
   obtain⟨s,b,L,aI,cz,f0,anm⟩:=FF Y Zo
   have d2:dC 1 (.slice iP 0 3 3) (.Z (Y:Int))=some (.ptr iP Y):=by rw[FU _ Zo];simp
   have anE:aa X aY iP=some (.cells (S.ofList [dd,dz,a8] 0 .nil) 3 .own):=by rw[ca.ac _ q2];exact aC
   have az:=r2 _ Y s anE aI
   have j8:=atS (cz.ac (T:=aY) (λe I=>ca.ac e (bu e I))) Zd
   rw[Zp]at j8
   have R:=df Y L f0
   have U:=gr (Y+1)
   refine ev @vE @jW @iN @f3 @d @d2 @az ⟨?_⟩
   refine aul cQ Zo j8 (Iv L) Zo ?_ ?_
   ·clear j8
    have:∀dn:List fP,Go.bg.jD (dn.map eW).flatten=true:=by
     intro dn
     induction dn with
     |nil=>rfl
     |cons d dn al=>simpa[eW,Go.bg.jD,pH]using al
    exact this L
   ·intro bw t6 d1 uw f1
    refine cM @vE @bB ⟨?_⟩
    refine⟨m,Zo,Y+1,t6,a1 iN,a1 jW,bn,by refine x5 ⟨?_⟩;rw[R],Zo,wX,⟨ca.le,λe I=>by rw[f1 e Zo];exact ca.ac e I⟩,d1,λi v aM=> ?_⟩
    rw[aal Y L f0]at aM
    simp only[zd,Yv]at aM
    have sa:(((x1 Y).map eW).flatten).length=li Y*8:=by
     rw[Iv,Io]
    rw[uw]
    by_cases c2:i<li Y*8
    ·rw[Zh Zo]
     rw[Z3 Zo]at aM
     exact wQ i v aM
    ·rw[ZT Zo,sa]at aM
     have:=(Zc.1 aM).1
     rw[Zq ⟨Zo,Zo⟩]
     exact aM
end
section
variable{X:ck}{h T fG aX aJ:S ak}{j ao aL a6:Nat}{s:bx}
def auB{t:es}(a:kA t=true):m7 t≠[]:=by
 unfold m7
 rw[Zq a]
 split<;>simp
def akj(ax:is X)(bS:lw X)(eK:qH X){P:Nat->Prop}{b:Nat}{a8:H}{ds:List fP}(aK:(q X).a7<=j)(cz:d5 X h P b a8 8 (ds.map eW))(bu:∀e,P e->e<j)(bP:∀d∈ds,rE lf d):
 aR X 141 [a8] h j (λad T ao=>ad= .bool true/\bj X h j T ao) (λ_ _ _=>False):=by
 refine c4 (afB X) (ax.none _ _ rfl) ?_
 rw[afC]
 unfold TU
 have ec:=cz.len
 have hp:=cz.many
 rw[Zp]at ec hp
 refine ci @ec ⟨?_⟩
 refine fD (λm K T aS=>∃(Y:Nat),K.g 5=some a8/\K.g 6=some (.Z (ds.length:Int))/\K.g 7=some (.Z (Y:Int))/\Y+m=ds.length/\bj X h j T aS)
  ds.length ⟨0,bn,bn,fN,Zo,bj.refl _ _⟩ ?_
 rintro m K aX aL ⟨Y,t5,f3,gu,bH,bU⟩
 have jB:=bU.le
 cases m with
 |zero=>
  have d:decide ((Y:Int)<(ds.length:Int))=false:=by simp only[Zb];omega
  refine eu @gu @f3 @d ⟨?_⟩
  exact⟨rfl,bU⟩
 |succ m=>
  have Hz:decide ((Y:Int)<(ds.length:Int))=true:=by simp only[Zg];omega
  have bB:aA .add (.Z (Y:Int)) (.Z 1)=some (.Z ((Y+1:Nat):Int)):=by rw[eI Zo Zo];rfl
  obtain⟨d,aH⟩:∃d,ds[Y]? =some d:=⟨_,Ze Zo⟩
  have CN:=bP d (Zj aH)
  have d2:=cz.gi Y (by rw[Zp];omega)
  have fC:=(cz.ac (λe I=>bU.ac e (bu e I))).row (i:=Y) (r:=eW d) Zd (by rw[Zx,aH];rfl)
  have j4:eW d=[.str d.name, .Z d.at_, .bool d.ty.b, .bool d.ty.s, .Z d.ty.w, .str d.on, .Z d.fJ, .bool d.no]:=rfl
  rw[j4]at fC
  refine hQ @gu @f3 @t5 @Hz @d2 @fC ⟨?_⟩
  generalize dE:bm X _ aL _=aJ
  have b2:aa X aJ aL=some (.cells (S.ofList [.str d.name, .Z d.at_, .bool d.ty.b, .bool d.ty.s, .Z d.ty.w, .str d.on, .Z d.fJ, .bool d.no] 0 .nil) 8 .own):=by rw[<-dE,bh Zo];rfl
  have bE:bj X h j aJ (aL+1):=⟨Zo,λe I=>by rw[<-dE];simp(disch:=omega) only[aE];exact bU.ac e I⟩
  clear dE
  refine ci (bJ b2) ⟨?_⟩
  refine(Jt (j:=aL+1) (h:=aJ) ax bS eK CN.name Zo).Zm ?_
  rintro ad aY ba ⟨rfl,ca⟩
  have ie:=ca.le
  rw[<-ca.ac _ Zo]at b2
  have FJ:eC d.ty=[.bool d.ty.b, .bool d.ty.s, .Z d.ty.w]:=rfl
  have yo:b6 X aY 3 (.ptr aL 2)=some (.agg (eC d.ty)):=by
   rw[qn,bJ b2,bJ b2,bJ b2];rfl
  refine ci @yo ⟨?_⟩
  refine(aec (j:=ba) (h:=aY) ax.todv d.ty Zo).Zm ?_
  rintro ad bw c7 ⟨rfl,dm⟩
  have ji:=dm.le
  rw[<-dm.ac _ Zo]at b2
  have cT:decide (m7 d.ty=[])=false:=by simp[auB CN.type]
  have XR:bj X h j bw c7:=(bE.trans ca).trans dm
  by_cases n1:d.on=[]
  ·have cJ:decide (d.on≠[])=false:=by simp[n1]
   have eT:decide (d.on=[])=true:=by simp[n1]
   have mY:am X bw (.ptr aL 7)=some (.bool false):=by rw[bJ b2, <-CN.no n1];rfl
   have Q4:am X bw (.ptr aL 5)=some (.str d.on):=by rw[bJ b2];rfl
   refine ev @cT @Q4 @cJ @eT @mY @gu @bB ⟨?_⟩
   exact⟨m,Zo,Y+1,a1 t5,a1 f3,bn,Zo,XR⟩
  ·have cJ:decide (d.on≠[])=true:=by simp[n1]
   have eT:decide (d.on=[])=false:=by simp[n1]
   have Q4:am X bw (.ptr aL 5)=some (.str d.on):=by rw[bJ b2];rfl
   refine eu @cT @Q4 @cJ ⟨?_⟩
   refine(Jt (j:=c7) (h:=bw) ax bS eK (CN.on n1) Zo).Zm ?_
   rintro ad bL cb ⟨rfl,dw⟩
   have hV:=dw.le
   rw[<-dw.ac _ Zo]at b2
   have ao9:am X bL (.ptr aL 5)=some (.str d.on):=by rw[bJ b2];rfl
   refine gp @ao9 @eT @gu @bB ⟨?_⟩
   exact⟨m,Zo,Y+1,a1 t5,a1 f3,bn,Zo,XR.trans dw⟩
def asH(ax:is X)(bS:lw X)(eK:qH X){w:bx}(bP:Ef w)(aK:(q X).a7<=j):
 aR X 143 [.str w] h j (λad T ao=>ad= .bool false/\bj X h j T ao) (λ_ _ _=>False):=by
 refine c4 (afF X) (ax.none _ _ rfl) ?_
 rw[afG]
 unfold TW
 refine(Jt (j:=j) (h:=h) ax bS eK bP aK).Zm ?_
 rintro ad aJ a6 ⟨rfl,bE⟩
 refine cH ⟨?_⟩
 exact⟨rfl,bE⟩
def arC(ax:is X)(bS:lw X)(eK:qH X){P:Nat->Prop}{b:Nat}{a8:H}{mM:List bx}(aK:(q X).a7<=j)(Z:d5 X h P b a8 1 (il mM))(bu:∀e,P e->e<j)(bP:∀w∈mM,Ef w):
 aR X 145 [a8, .func (.func 143) [] []] h j (λad T ao=>ad= .bool false/\bj X h j T ao) (λ_ _ _=>False):=by
 refine c4 (afJ X) (ax.none _ _ rfl) ?_
 rw[afK]
 unfold TY
 refine aR.mono (ah:=λad T ao=>ad= .Z (-1)/\bj X h j T ao) (aw:=λ_ _ _=>False) ?_ ?_ (λ_ _ _ a=>a.elim)
 ·refine c4 (agI X) (ax.none _ _ rfl) ?_
  rw[agJ]
  unfold Uw
  have ec:=Z.len
  have hp:=Z.many
  rw[show(il mM).length=mM.length from by simp[il]]at ec hp
  refine ci @ec ⟨?_⟩
  refine fD (λm K T aS=>∃(Y:Nat),K.g 0=some a8/\K.g 1=some (.func (.func 143) [] [])/\K.g 7=some (.Z (mM.length:Int))/\K.g 8=some (.Z (Y:Int))/\Y+m=mM.length/\bj X h j T aS)
   mM.length ⟨0,bn,bn,bn,fN,Zo,bj.refl _ _⟩ ?_
  rintro m K aX aL ⟨Y,t0,t1,gu,gZ,bH,bU⟩
  have jB:=bU.le
  cases m with
  |zero=>
   have d:decide ((Y:Int)<(mM.length:Int))=false:=by simp only[Zb];omega
   refine eu @gZ @gu @d ⟨?_⟩
   exact⟨rfl,bU⟩
  |succ m=>
   have d:decide ((Y:Int)<(mM.length:Int))=true:=by simp only[Zg];omega
   have bB:aA .add (.Z (Y:Int)) (.Z 1)=some (.Z ((Y+1:Nat):Int)):=by rw[eI Zo Zo];rfl
   obtain⟨w,my⟩:∃w,mM[Y]? =some w:=⟨_,Ze Zo⟩
   have d2:=Z.gi Y (by simp[il];omega)
   have iJ:=(Z.ac (λe I=>bU.ac e (bu e I))).cell Y [.str w] 0 (.str w) (by unfold il;rw[Zx,my];rfl) rfl
   rw[Yj]at d2
   rw[Yj,ZR]at iJ
   refine ev @gZ @gu @t1 @t0 @d @d2 @iJ ⟨?_⟩
   refine(asH (j:=aL) (h:=aX) ax bS eK (bP w (Zj my)) Zo).Zm ?_
   rintro ad aJ a6 ⟨rfl,bE⟩
   refine cM @gZ @bB ⟨?_⟩
   exact⟨m,Zo,Y+1,a1 t0,a1 t1,a1 gu,bn,Zo,bU.trans bE⟩
 ·rintro ad aX aL ⟨rfl,bS⟩
  refine cH ⟨?_⟩
  exact⟨rfl,bS⟩
end
def asX:∀w<65,BB ((w:Nat):Int)=((2^w-1:Nat):Int):=by decide+kernel
def ai8{n w:Nat}(bP:w<=64)(aK:n<18446744073709551616)(a:Hj (n:Int) (BB (w:Int))=0):n<2^w:=by
 rw[asX w Zo]at a
 unfold Hj at a
 have c2:=(BitVec.ofInt 64 (n:Int)&&& ~~~ BitVec.ofInt 64 ((2^w-1:Nat):Int)).isLt
 rw[aew Zo Zo]at a
 have cj:BitVec.ofInt 64 (n:Int)&&& ~~~ BitVec.ofInt 64 ((2^w-1:Nat):Int)=0#64:=BitVec.eq_of_toNat_eq (by rw[BitVec.toNat_ofNat];omega)
 rw[BitVec.ofInt_natCast,BitVec.ofInt_natCast]at cj
 apply Nat.lt_pow_two_of_testBit
 intro i aM
 by_cases E6:i<64
 ·have ai:=congrArg (λv=>v.getLsbD i) cj
  simp only[BitVec.getLsbD_and,BitVec.getLsbD_not,BitVec.getLsbD_ofNat,E6,Yo,ze,Nat.testBit_two_pow_sub_one,BitVec.getLsbD_zero]at ai
  have:decide (i<w)=false:=by simp;omega
  rw[this]at ai
  simpa using ai
 ·exact Nat.testBit_lt_two_pow (ZK aK (by
   have:(18446744073709551616:Nat)=2^64:=by decide
   rw[this]
   exact Nat.pow_le_pow_right Zd Zo))
def arQ{t:es}{n:Int}(a:Oj t n):n<2^(if t.s then t.w-1 else t.w).toNat:=by
 obtain⟨R,U,ar,aO⟩:=a
 obtain⟨m,rfl⟩:=Yl ar
 have bP:=M7 R
 have key:∀w:Nat,w<=64->Hj (m:Int) (BB (w:Int))=0->(m:Int)<2^w:=λw bP a=>by
  have:=ai8 bP Zo a
  have U:((2^w:Nat):Int)=(2:Int)^w:=by simp
  rw[<-U];omega
 unfold uN at U
 cases aI:t.s with
 |true=>
  rw[Zq aI]at U
  rw[Zq rfl]
  by_cases cj:t.w-1=0
  ·rw[Zq cj]at U
   have:(m:Int)=0:=by simpa using U
   rw[cj,this];decide
  ·rw[Zh cj]at U
   obtain⟨w,yB⟩:=Yl (by omega:0<=t.w-1)
   rw[yB]at U ⊢
   simp only[Di,Zn,Zg]at U
   exact key w Zo U.2
 |false=>
  rw[Zh (by simp[aI])]at U
  rw[Zh Zs]
  obtain⟨w,yB⟩:=Yl (by omega:0<=t.w)
  simp only[Di,Zn,Zg]at U
  rw[yB]at U ⊢
  exact key w Zo U.2
section
variable{X:ck}{h T fG aX aJ:S ak}{j ao aL a6:Nat}{s:bx}
def adO{n b:Int}(cj:0<=n)(ai:0<=b)(nn:b<=64)(a:n<2^b.toNat):aA .shr (.int .u64 n) (.Z b)=some (.int .u64 0):=by
 have bB:yD b 0=false:=by rw[sj];simp;omega
 have cF:min b.toNat IntKind.u64.bits=b.toNat:=by
  have:IntKind.u64.bits=64:=rfl
  rw[this];omega
 have fp:n.fdiv (2^b.toNat)=0:=by
  rw[Int.fdiv_eq_ediv_of_nonneg _ (by exact Int.le_of_lt (Int.lt_of_le_of_lt cj a))]
  exact Int.ediv_eq_zero_of_lt cj a
 simp only[aA,lP,e2,Hi,bB,jK,cF,fp]
 rfl
def arR(ax:is X){P:Nat->Prop}{F:bz}{v:H}(aK:(q X).a7<=j)(bt:cI X h P F v)(bu:∀e,P e->e<j)(aF:F.kind=1)(aB:Oj F.ty F.n):
 aR X 216 [v] h j (λad T ao=>ad= .bool true/\bj X h j T ao) (λ_ _ _=>False):=by
 refine c4 (ahk X) (ax.none _ _ rfl) ?_
 rw[ahl]
 unfold UP
 obtain⟨b,a8,cL,bk,rfl,ai,a0,bd,cg,a3,a4,a5,hz,h0,hA,cz,has⟩:=id bt.open
 have gg:=bu b ai
 have LP:=arQ aB
 have bP:=M7 aB.1
 have xR:decide (F.kind=1)=true:=by simp[aF]
 have FJ:eC F.ty=[.bool F.ty.b, .bool F.ty.s, .Z F.ty.w]:=rfl
 have yo:b6 X h 3 (.ptr b 4)=some (.agg (eC F.ty)):=by rw[qn,a4,a5,hz];rfl
 cases aI:F.ty.s with
 |true=>
  rw[aI]at a5
  rw[Zq aI]at LP
  have bB:aA .sub (.Z F.ty.w) (.Z 1)=some (.Z (F.ty.w-1)):=Bb Zo Zo
  have Hw:decide (F.ty.w-1=64)=false:=by simp only[Zb];omega
  have lN:=adO aB.2.2.1 Zo Zo LP
  refine hQ @a5 @hz @bB @a0 @xR @yo ⟨?_⟩
  refine(Du (j:=j) (h:=h) ax.todv F.ty aK).Zm ?_
  rintro ad aX aL ⟨rfl,bU⟩
  have OB:am X aX (.ptr b 7)=some (.int .u64 F.n):=by rw[bU.fU _ _ gg];exact h0
  have bp:kA F.ty=true:=aB.1
  rw[bp]
  refine eu @Hw @OB @lN ⟨?_⟩
  exact⟨rfl,bU⟩
 |false=>
  rw[aI]at a5
  rw[Zh (by simp[aI])]at LP
  refine f7 @a5 @hz @a0 @xR @yo ⟨?_⟩
  refine(Du (j:=j) (h:=h) ax.todv F.ty aK).Zm ?_
  rintro ad aX aL ⟨rfl,bU⟩
  have OB:am X aX (.ptr b 7)=some (.int .u64 F.n):=by rw[bU.fU _ _ gg];exact h0
  have bp:kA F.ty=true:=aB.1
  rw[bp]
  by_cases E6:F.ty.w=64
  ·have Hw:decide (F.ty.w=64)=true:=by simp[E6]
   refine ci @Hw ⟨?_⟩
   exact⟨rfl,bU⟩
  ·have Hw:decide (F.ty.w=64)=false:=by simp[E6]
   have lN:=adO aB.2.2.1 Zo Zo LP
   refine eu @Hw @OB @lN ⟨?_⟩
   exact⟨rfl,bU⟩
def asw(b:Nat):dj X h .eql 47 false .cq (.ptr b 0)=some (.bool false):=Zk
def ajh(ax:is X){P:Nat->Prop}{b:Nat}{a8:H}{bF:List bz}{bk:List H}(Z:d5 X h P b a8 1 (bk.map λv=>[v]))(Fl:dp X h P bF bk):
 aR X 215 [a8, .cq] h j (λad T ao=>ad= .bool false/\T=h/\j<=ao) (λ_ _ _=>False):=by
 refine c4 (ahi X) (ax.none _ _ rfl) ?_
 rw[ahj]
 unfold UO
 refine aR.mono (ah:=λad T ao=>ad= .Z (-1)/\T=h/\j<=ao) (aw:=λ_ _ _=>False) ?_ ?_ (λ_ _ _ a=>a.elim)
 ·refine c4 (ahE X) (ax.none _ _ rfl) ?_
  rw[ahF]
  unfold UZ
  have ec:=Z.len
  have hp:=Z.many
  rw[Zp]at ec hp
  refine ci @ec ⟨?_⟩
  refine fD (λm K T aS=>∃(Y:Nat),K.g 0=some a8/\K.g 1=some .cq/\K.g 7=some (.Z (bk.length:Int))/\K.g 8=some (.Z (Y:Int))/\Y+m=bk.length/\T=h/\j<=aS)
   bk.length ⟨0,bn,bn,bn,fN,Zo,rfl,Zo⟩ ?_
  rintro m K aJ a6 ⟨Y,t0,t1,gu,gZ,bH,rfl,kZ⟩
  cases m with
  |zero=>
   have d:decide ((Y:Int)<(bk.length:Int))=false:=by simp only[Zb];omega
   refine eu @gZ @gu @d ⟨?_⟩
   exact⟨rfl,rfl,kZ⟩
  |succ m=>
   have d:decide ((Y:Int)<(bk.length:Int))=true:=by simp only[Zg];omega
   have bB:aA .add (.Z (Y:Int)) (.Z 1)=some (.Z ((Y+1:Nat):Int)):=by rw[eI Zo Zo];rfl
   obtain⟨v,bA⟩:∃v,bk[Y]? =some v:=⟨_,Ze Zo⟩
   have Iu:=Fl.len
   obtain⟨F,bt⟩:∃F,bF[Y]? =some F:=⟨_,Ze Zo⟩
   obtain⟨hI,yz,yn⟩:=Fl.get Y F bt
   rw[bA]at yz
   cases yz
   obtain⟨Ez,rfl,_,_⟩:=yn.ptr
   obtain⟨b3,b2,cQ⟩:=Z.one bA
   refine ev @gZ @gu @t1 @t0 @d @b3 (Za @b2 (Za @asw @bB)) ⟨?_⟩
   exact⟨m,Zo,Y+1,a1 t0,a1 t1,a1 gu,bn,Zo,rfl,kZ⟩
 ·rintro ad aX aL ⟨rfl,rfl,bS⟩
  refine cH ⟨?_⟩
  exact⟨rfl,rfl,bS⟩
end
def tI(D:Int):Option (Int×Bool×Bool×Bool):=
 if D=1 then some (0,false,true,true)else if D=2 then some (0,true,false,false)else if D=3\/D=4\/D=5 then some (1,false,false,false)else if D=6 then some (1,true,false,false)
 else if D=19\/D=20 then some (1,false,false,true)else if D=23 then some (3,false,false,false)else if D=24 then some (2,true,false,false)else if D=25 then some (-1,true,false,false)
 else if D=26 then some (1,false,true,false)else none
def pK(s:Int×Bool×Bool×Bool):List H:=[.Z s.1, .bool s.2.1, .bool s.2.2.1, .bool s.2.2.2]
structure wa(X:ck):Prop where
 at_:∀h,∃v,am X h (.ptr 5 0)=some v/\∀D:Int,ma X h 3 (.agg [.Z 0, .bool false, .bool false, .bool false]) v (.Z D) true=some (.tuple [.agg (pK ((tI D).getD (0,false,false,false))), .bool (tI D).isSome])
structure aiA(F:bz)(s:Int×Bool×Bool×Bool):Prop where
 tX:0<=s.1->(F.args.length:Int)=s.1
 acM:s.2.1=true->Ef F.name
 Si:s.2.1=false->F.name=[]
 avX:s.2.2.1=true->kA F.ty=true
 dJ:s.2.2.1=false->F.ty=dJ
 a7:s.2.2.2=false->F.n=0
def auP{F:bz}(a:Eg lf F):aiA F ((tI F.kind).getD (2,false,false,false)):=by
 have R:=a.bZ
 have U:=a.cw
 have mr:=a.tX
 have iy:=a.nm
 have CY:=a.Si
 have yx:=a.ty
 have yy:=a.dJ
 have gL:=a.a7
 unfold rO at mr
 unfold tf at iy CY
 unfold tg at yx yy
 generalize F.kind=D at*
 unfold tI
 have aF:D=1\/D=2\/(D=3\/D=4\/D=5)\/D=6\/(D=19\/D=20)\/D=23\/D=24\/D=25\/D=26\/(7<=D/\D<=18\/D=21\/D=22):=Zo
 rcases aF with aF|aF|aF|aF|aF|aF|aF|aF|aF|aF
 ·subst aF
  exact⟨λ_=>by have:=mr 0 Zs;simp[this],λa=>by simp at a,λ_=>CY Zo,λ_=>yx Zo,λa=>by simp at a,λa=>by simp at a⟩
 ·subst aF
  exact⟨λ_=>by have:=mr 0 Zs;simp[this],λ_=>iy Zo,λa=>by simp at a,λa=>by simp at a,λ_=>yy Zo,λ_=>gL Zo Zo Zo⟩
 ·rw[Zh Zo,Zh Zo,Zq aF]
  rw[Zh Zo,Zh Zo,Zq Zo]at mr
  exact⟨λ_=>by have:=mr 1 rfl;simp[this],λa=>by simp at a,λ_=>CY Zo,λa=>by simp at a,λ_=>yy Zo,λ_=>gL Zo Zo Zo⟩
 ·subst aF
  exact⟨λ_=>by have:=mr 1 Zs;simp[this],λ_=>iy Zo,λa=>by simp at a,λa=>by simp at a,λ_=>yy Zo,λ_=>gL Zo Zo Zo⟩
 ·rw[Zh Zo,Zh Zo,Zh Zo,Zh Zo,Zq aF]
  rw[Zh Zo,Zh Zo,Zq Zo]at mr
  exact⟨λ_=>by have:=mr 1 rfl;simp[this],λa=>by simp at a,λ_=>CY Zo,λa=>by simp at a,λ_=>yy Zo,λa=>by simp at a⟩
 ·subst aF
  exact⟨λ_=>by have:=mr 3 Zs;simp[this],λa=>by simp at a,λ_=>CY Zo,λa=>by simp at a,λ_=>yy Zo,λ_=>gL Zo Zo Zo⟩
 ·subst aF
  exact⟨λ_=>by have:=mr 2 Zs;simp[this],λ_=>iy Zo,λa=>by simp at a,λa=>by simp at a,λ_=>yy Zo,λ_=>gL Zo Zo Zo⟩
 ·subst aF
  exact⟨λa=>by simp at a,λ_=>iy Zo,λa=>by simp at a,λa=>by simp at a,λ_=>yy Zo,λ_=>gL Zo Zo Zo⟩
 ·subst aF
  exact⟨λ_=>by have:=mr 1 Zs;simp[this],λa=>by simp at a,λ_=>CY Zo,λ_=>yx Zo,λa=>by simp at a,λ_=>gL Zo Zo Zo⟩
 ·rw[Zh Zo,Zh Zo,Zh Zo,Zh Zo,Zh Zo,Zh Zo,Zh Zo,Zh Zo,Zh Zo]
  rw[Zh Zo,Zh Zo,Zh Zo,Zh Zo]at mr
  exact⟨λ_=>by have:=mr 2 rfl;simp[this],λa=>by simp at a,λ_=>CY Zo,λa=>by simp at a,λ_=>yy Zo,λ_=>gL Zo Zo Zo⟩
section
variable{X:ck}{h T fG aX aJ:S ak}{j ao aL a6:Nat}{s:bx}
structure Tn(G:Prop):Prop where
 out:G
def EN{G ph:Prop}(Jr:Tn G->ph)(SX:G):ph:=Jr ⟨SX⟩
def ajM:dj X h .neq 4 false (.bool false) (.bool false)=some (.bool false):=Zk
def ajN:dj X h .neq 4 false (.bool true) (.bool true)=some (.bool false):=Zk
def avY:dj X h .neq 41 false (.agg [.bool false, .bool false, .Z 0]) (.agg [.bool false, .bool false, .Z 0])=some (.bool false):=Zk
def att(b:Nat):dj X h .neq 47 true (.ptr b 0) .cq=some (.bool true):=Zk
set_option maxRecDepth 100000 in
def arX(ax:is X)(bS:lw X)(eK:qH X)(hS:wa X){P:Nat->Prop}{F:bz}{v:H}(aK:(q X).a7<=j)(bt:cI X h P F v)(bu:∀e,P e->e<j)(bP:eS lf F):
 aR X 191 [v] h j (λad T ao=>ad= .bool true/\bj X h j T ao) (λ_ _ _=>False):=by
 refine c4 (agG X) (ax.none _ _ rfl) ?_
 rw[agH]
 unfold Uv
 rw[eS.eq]at bP
 obtain⟨bP,pz⟩:=bP
 have lN:=auP bP
 obtain⟨b,a8,cL,bk,rfl,ai,a0,bd,cg,a3,a4,a5,hz,h0,hA,cz,has⟩:=id bt.open
 have gg:=bu b ai
 obtain⟨fh,L0,L1⟩:=hS.at_ h
 have j5:=L1 F.kind
 generalize FH:(tI F.kind).getD (2,false,false,false)=s at lN
 have apM:∀an:Int×Bool×Bool×Bool,pK an=[.Z an.1, .bool an.2.1, .bool an.2.2.1, .bool an.2.2.2]:=λ_=>rfl
 rw[apM]at j5
 refine g7 @L0 @a0 @j5 ⟨?_⟩
 refine ka (λc1 T aS=>c1.g 0=some (.ptr b 0)/\c1.g 3=some (.ptr (j+9) 0)/\bj X h j T aS/\j+9<aS/\aa X T (j+9)=some (.cells (S.ofList (pK s) 0 .nil) 4 .own)) (λY bH=> ?_) ?_
 ·cases cl:tI F.kind with
  |some an=>
   rw[cl]at FH
   simp only[zb]at FH
   subst FH
   simp only[zb,Z5]
   refine cH ⟨?_⟩
   exact bH _ _ _ ⟨bn,bn,dM,Zo,by rw[bh Zo];rfl⟩
  |none=>
   rw[cl]at FH
   simp only[Option.getD_none]at FH
   subst FH
   simp only[Option.getD_none,ZZ]
   refine cH ⟨?_⟩
   exact bH _ _ _ ⟨bn,bn,dM,Zo,by rw[bh Zo];rfl⟩
 rintro K aX aL ⟨t0,t3,bU,r9,b3⟩
 have rd:∀T,Go.bg.aa X T (j+9)=some (.cells (S.ofList (pK s) 0 .nil) 4 .own)->am X T (.ptr (j+9) 0)=some (.Z s.1)/\am X T (.ptr (j+9) 1)=some (.bool s.2.1)/\am X T (.ptr (j+9) 2)=some (.bool s.2.2.1)/\am X T (.ptr (j+9) 3)=some (.bool s.2.2.2):=λT a=>
  ⟨by rw[bJ a];rfl,by rw[bJ a];rfl,by rw[bJ a];rfl,by rw[bJ a];rfl⟩
 have kY:=bP.bZ
 have jh:=bP.cw
 have cT:decide (F.kind<1)=false:=by simp only[Zb];omega
 have cJ:decide ((26:Int)<F.kind)=false:=by simp only[Zb];omega
 obtain⟨jn,e0,fF,hv⟩:=rd aX b3
 have He:am X aX (.ptr b 0)=some (.Z F.kind):=by rw[bU.fU _ _ gg];exact a0
 have B5:am X aX (.ptr b 8)=some a8:=by rw[bU.fU _ _ gg];exact hA
 have ec:=cz.len
 have Iu:=has.len
 rw[Zp,Iu]at ec
 have u0:∀e,P e->aa X aX e=aa X h e:=λe I=>bU.ac e (bu e I)
 have jB:=bU.le
 apply EN
 ·intro aqS
  by_cases mr:0<=s.1
  all_goals
   first
   |(
     have eT:decide ((0:Int)<=s.1)=true:=by simp[mr]
     have iu:decide ((F.args.length:Int)≠s.1)=false:=by simp[lN.tX mr]
     refine g7 @t0 @t3 (Za @He (Za @cT (Za @cJ (Za @jn (Za @eT (Za @B5 (Za @ec (Za @jn @iu)))))))) ⟨?_⟩)
   |(
     have eT:decide ((0:Int)<=s.1)=false:=by simp[mr]
     refine g7 @t0 @t3 (Za @He (Za @cT (Za @cJ (Za @jn (Za @eT @B5))))) ⟨?_⟩)
   refine(ajh (j:=aL+34) (h:=aX) ax (cz.ac u0) (dp.ac u0 _ _ has)).Zm ?_
   rintro ad aJ a6 ⟨rfl,rfl,f2⟩
   refine x6 ⟨?_⟩
   refine ka (λc1 T aS=>c1.g 0=some (.ptr b 0)/\c1.g 3=some (.ptr (j+9) 0)/\bj X h j T aS/\j+9<aS/\aa X T (j+9)=some (.cells (S.ofList (pK s) 0 .nil) 4 .own)) (λY bH=> ?_) ?_
   ·refine cH ⟨?_⟩
    exact bH _ _ _ ⟨a1 t0,a1 t3,bU.more Zo,Zo,b3⟩
   exact aqS.out
 clear t0 t3 bU b3 jn e0 fF hv He B5 u0 jB
 rintro K aY ba ⟨t0,t3,ca,wX,cQ⟩
 obtain⟨jn,e0,fF,hv⟩:=rd aY cQ
 have ie:=ca.le
 have Oz:am X aY (.ptr b 2)=some (.str F.name):=by rw[ca.fU _ _ gg];exact cg
 have aoY:s.2.1=true->decide (F.name≠[])=true:=λa=>by simp[(lN.acM a).ne]
 have aoX:s.2.1=false->decide (F.name≠[])=false:=λa=>by simp[lN.Si a]
 have mY:(F.no=true/\decide (F.kind≠6)=false)\/(F.no=false/\decide ((0:Int)≠0)=false):=by
  cases cl:F.no with
  |true=>exact .inl ⟨rfl,by simp[bP.no cl]⟩
  |false=>exact .inr ⟨rfl,rfl⟩
 apply EN
 ·intro aqP
  rcases YO s.2.1 with lm|lm
  all_goals
   first
   |(
     have Av:=aoY lm
     rw[lm]at e0
     refine g7 @t0 @t3 (Za @e0 (Za @Oz (Za @Av @ajN))) ⟨?_⟩
     refine(Jt (j:=ba+33) (h:=aY) ax bS eK (lN.acM lm) Zo).Zm ?_
     rintro ad bw c7 ⟨rfl,dm⟩
     have ji:=dm.le
     have nS:bj X h j bw c7:=ca.trans (dm.kB Zo)
     have QW:j+9<c7:=Zo
     have fx:aa X bw (j+9)=some (.cells (S.ofList (pK s) 0 .nil) 4 .own):=by rw[dm.ac _ Zo];exact cQ
     have OA:am X bw (.ptr b 3)=some (.bool F.no):=by rw[nS.fU _ _ gg];exact a3
     have Vy:am X bw (.ptr b 0)=some (.Z F.kind):=by rw[nS.fU _ _ gg];exact a0)
   |(
     have Av:=aoX lm
     rw[lm]at e0
     refine g7 @t0 @t3 (Za @e0 (Za @Oz (Za @Av @ajM))) ⟨?_⟩
     have nS:bj X h j aY (ba+33):=ca.more Zo
     have QW:j+9<ba+33:=Zo
     have fx:aa X aY (j+9)=some (.cells (S.ofList (pK s) 0 .nil) 4 .own):=cQ
     have OA:am X aY (.ptr b 3)=some (.bool F.no):=by rw[nS.fU _ _ gg];exact a3
     have Vy:am X aY (.ptr b 0)=some (.Z F.kind):=by rw[nS.fU _ _ gg];exact a0)
   rcases mY with ⟨aaR,xR⟩|⟨aaR,xR⟩
   all_goals
    rw[aaR]at OA
    refine g7 @t0 @t3 (Za @OA (Za @Vy @xR)) ⟨?_⟩
    refine ka (λc1 T aS=>c1.g 0=some (.ptr b 0)/\c1.g 3=some (.ptr (j+9) 0)/\bj X h j T aS/\j+9<aS/\aa X T (j+9)=some (.cells (S.ofList (pK s) 0 .nil) 4 .own)) (λY bH=> ?_) ?_
    ·refine cH ⟨?_⟩
     exact bH _ _ _ ⟨a1 t0,a1 t3,nS.more Zo,Zo,fx⟩
    exact aqP.out
 clear t0 t3 ca cQ jn e0 fF hv Oz ie
 rintro K bL cb ⟨t0,t3,dw,aoZ,fA⟩
 obtain⟨jn,e0,fF,hv⟩:=rd bL fA
 have hV:=dw.le
 have FJ:eC F.ty=[.bool F.ty.b, .bool F.ty.s, .Z F.ty.w]:=rfl
 have yo:b6 X bL 3 (.ptr b 4)=some (.agg (eC F.ty)):=by rw[qn,dw.fU _ _ gg,dw.fU _ _ gg,dw.fU _ _ gg,a4,a5,hz];rfl
 apply EN
 ·intro aqR
  rcases YO s.2.2.1 with lm|lm
  all_goals
   first
   |(
     have bp:=lN.avX lm
     rw[lm]at fF
     refine g7 @t0 @t3 (Za @fF @yo) ⟨?_⟩
     refine(Du (j:=cb) (h:=bL) ax.todv F.ty Zo).Zm ?_
     rintro ad cd er ⟨rfl,eO⟩
     rw[bp]
     have q6:=eO.le
     have nS:bj X h j cd er:=dw.trans (eO.kB Zo)
     have QW:j+9<er:=Zo
     have fx:aa X cd (j+9)=some (.cells (S.ofList (pK s) 0 .nil) 4 .own):=by rw[eO.ac _ Zo];exact fA
     have VA:am X cd (.ptr b 7)=some (.int .u64 F.n):=by rw[nS.fU _ _ gg];exact h0
     have NB:am X cd (.ptr (j+9) 3)=some (.bool s.2.2.2):=(rd cd fx).2.2.2)
   |(
     have bp:=lN.dJ lm
     rw[lm]at fF
     have ap3:eC F.ty=[.bool false, .bool false, .Z 0]:=by rw[bp];rfl
     rw[ap3]at yo
     refine g7 @t0 @t3 (Za @fF (Za @yo @avY)) ⟨?_⟩
     have nS:bj X h j bL cb:=dw
     have QW:j+9<cb:=aoZ
     have fx:aa X bL (j+9)=some (.cells (S.ofList (pK s) 0 .nil) 4 .own):=fA
     have VA:am X bL (.ptr b 7)=some (.int .u64 F.n):=by rw[nS.fU _ _ gg];exact h0
     have NB:am X bL (.ptr (j+9) 3)=some (.bool s.2.2.2):=(rd bL fx).2.2.2)
   rcases YO s.2.2.2 with qi|qi
   all_goals
    first
    |(
      have Av:decide ((0:Int)≠0)=false:=rfl
      rw[qi]at NB
      have ax7:s.2.2.2=true:=qi)
    |(
      have Av:decide (F.n≠0)=false:=by simp[lN.a7 qi]
      rw[qi]at NB)
    refine g7 @t0 @t3 (Za @NB (Za @VA @Av)) ⟨?_⟩
    refine ka (λc1 T aS=>c1.g 0=some (.ptr b 0)/\c1.g 3=some (.ptr (j+9) 0)/\bj X h j T aS/\j+9<aS/\aa X T (j+9)=some (.cells (S.ofList (pK s) 0 .nil) 4 .own)) (λY bH=> ?_) ?_
    ·refine cH ⟨?_⟩
     exact bH _ _ _ ⟨a1 t0,a1 t3,nS.more Zo,Zo,fx⟩
    exact aqR.out
 clear t0 t3 dw fA jn e0 fF hv hV yo
 rintro K cr d9 ⟨t0,t3,eF,axR,eN⟩
 have mX:=eF.le
 have Eo:am X cr (.ptr b 0)=some (.Z F.kind):=by rw[eF.fU _ _ gg];exact a0
 have VB:am X cr (.ptr b 7)=some (.int .u64 F.n):=by rw[eF.fU _ _ gg];exact h0
 have VC:am X cr (.ptr b 8)=some a8:=by rw[eF.fU _ _ gg];exact hA
 have qm:∀e,P e->aa X cr e=aa X h e:=λe I=>eF.ac e (bu e I)
 show aj _ _
 by_cases R:F.kind=1
 ·have bB:decide (F.kind=1)=true:=by simp[R]
  refine eu @t0 @Eo @bB ⟨?_⟩
  refine(arR (j:=d9) (h:=cr) ax Zo (cI.ac qm _ _ bt) (λe I=>by have:=bu e I;omega) R (bP.asx R)).Zm ?_
  rintro ad dH gt ⟨rfl,hM⟩
  exact⟨rfl,eF.trans (hM.kB Zo)⟩
 have bB:decide (F.kind=1)=false:=by simp[R]
 by_cases HW:F.kind=19
 ·have EQ:decide (F.kind=19)=true:=by simp[HW]
  have Ph:decide (F.n<=63)=true:=by simp[(bP.mF (.inl HW)).2]
  refine hQ @t0 @Eo @bB @EQ @VB @Ph ⟨?_⟩
  exact⟨rfl,eF.more Zo⟩
 have EQ:decide (F.kind=19)=false:=by simp[HW]
 by_cases PZ:F.kind=20
 ·have HG:decide (F.kind=20)=true:=by simp[PZ]
  have Ph:decide (F.n<=63)=true:=by simp[(bP.mF (.inr PZ)).2]
  refine ev @t0 @Eo @bB @EQ @HG @VB @Ph ⟨?_⟩
  exact⟨rfl,eF.more Zo⟩
 have HG:decide (F.kind=20)=false:=by simp[PZ]
 by_cases LA:F.kind=21
 ·have K2:decide (F.kind=21)=true:=by simp[LA]
  obtain⟨l,r,wL,aB⟩:=bP.uh LA
  obtain⟨aq,aoP,gr⟩:=has.get 0 l (by rw[wL];rfl)
  obtain⟨cB,cu,ee⟩:=(cz.ac qm).one aoP
  obtain⟨n6,acp,arA,ayD,rfl,uI,d7,_,_,_,_,_,_,_,EH,aco,ab8⟩:=(cI.ac qm _ _ gr).open
  have adq:dC 1 a8 (.Z 0)=some (.ptr cL 0):=cB
  rcases aB with aB|⟨aB,x,ag,MI⟩
  ·have s1:decide (l.kind=1)=true:=by simp[aB]
   refine ev @t0 @Eo @bB @EQ @HG @K2 (Za @VC (Za @adq (Za @cu (Za @d7 @s1)))) ⟨?_⟩
   exact⟨rfl,eF.more Zo⟩
  ·have s1:decide (l.kind=1)=false:=by simp[aB]
   have akP:decide (l.kind=4)=true:=by simp[aB]
   obtain⟨ay9,aqh,aqf⟩:=ab8.get 0 x (by rw[ag];rfl)
   obtain⟨fy,hu,xh⟩:=aco.one aqh
   obtain⟨ay8,rfl,tp,kL⟩:=aqf.ptr
   have as8:dC 1 acp (.Z 0)=some (.ptr arA 0):=fy
   have acj:=aco.len
   rw[Zp,ab8.len,ag]at acj
   have arS:d8 acp=some (.Z 1):=acj
   have ex:decide (x.kind=1)=true:=by simp[MI]
   have akG:decide ((1:Int)=1)=true:=rfl
   refine ev @t0 @Eo @bB @EQ @HG @K2 (Za @VC (Za @adq (Za @cu (Za @d7 (Za @s1 (Za @akP (Za @EH (Za @arS (Za @akG (Za @as8 (Za @hu (Za @att (Za @kL @ex))))))))))))) ⟨?_⟩
   exact⟨rfl,eF.more Zo⟩
 have K2:decide (F.kind=21)=false:=by simp[LA]
 refine hQ @t0 @Eo @bB @EQ @HG @K2 ⟨?_⟩
 exact⟨rfl,eF.more Zo⟩
end
def aov{D:Nat}{F J:bz}(a:gU (D+1) F<=D)(aC:J∈F.args):gU D J+1<=D:=by
 have bp:∀(l:List bz) (cj:Nat),(∀J∈l,gU D J<=l.foldl (λa J=>max a (gU D J)) cj)/\cj<=l.foldl (λa J=>max a (gU D J)) cj:=by
  intro l
  induction l with
  |nil=>intro cj;exact⟨λ_ a=>by simp at a,Zi _⟩
  |cons b l al=>
   intro cj
   obtain⟨eU,eP⟩:=al (max cj (gU D b))
   refine⟨λx ag=> ?_,ZA (Nat.le_max_left _ _) eP⟩
   rcases Zt.1 ag with rfl|ag
   ·exact ZA (Nat.le_max_right _ _) eP
   ·exact eU x ag
 have R:=(bp F.args 0).1 J aC
 have U:gU (D+1) F=F.args.foldl (λa J=>max a (gU D J)) 0+1:=rfl
 omega
def aox{D:Nat}{F:bz}:1<=gU (D+1) F:=by
 have U:gU (D+1) F=F.args.foldl (λa J=>max a (gU D J)) 0+1:=rfl
 omega
def D9{bD:hZ}:∀{l:List bz}{J:bz},gE bD l->J∈l->eS bD J:=by
 intro l
 induction l with
 |nil=>intro J _ a;cases a
 |cons b l al=>
  intro J a aC
  rw[gE]at a
  rcases Zt.1 aC with rfl|aC
  ·exact a.1
  ·exact al a.2 aC
section
variable{X:ck}{h T fG aX aJ:S ak}{j ao aL a6:Nat}{s:bx}
structure Ae(X:ck)(da fl n6:Nat)(d:Int)(h:S ak):Prop where
 KS:∃c,aa X h da=some (.cells c 1 .own)/\c.get 0=some (.Z d)
 N3:am X h (.ptr fl 0)=some (.Z 0)
 look:am X h (.ptr n6 0)=some (.func (.func 190) [] [.ptr da 0, .ptr fl 0, .ptr n6 0])
def Ae.ac{da fl n6:Nat}{d:Int}(a:Ae X da fl n6 d aX)(D:∀e,e=da\/e=fl\/e=n6->aa X aJ e=aa X aX e):Ae X da fl n6 d aJ:=by
 obtain⟨c,R,U⟩:=a.KS
 exact⟨⟨c,by rw[D da (.inl rfl)];exact R,U⟩,by rw[cA,D fl (.inr (.inl rfl)), <-cA];exact a.N3,by rw[cA,D n6 (.inr (.inr rfl)), <-cA];exact a.look⟩
set_option maxRecDepth 100000 in
def arV(ax:is X)(bS:lw X)(eK:qH X)(hS:wa X){P:Nat->Prop}{da fl n6 fa:Nat}(wS:(q X).a7<=da)(υ:da<fa)(ayf:fl<fa)(oI:n6<fa)(CN:fl≠da)(h6:n6≠da)(bu:∀e,P e->e<fa/\e≠da):
 ∀(D:Nat) (F:bz) (v:H) (h:S ak) (j:Nat),D<=200->fa<=j->gU (D+1) F<=D->eS lf F->cI X h P F v->Ae X da fl n6 ((200-D:Nat):Int) h->
  aR X 190 [v, .ptr da 0, .ptr fl 0, .ptr n6 0] h j (λad T ao=>ad= .tuple []/\Ae X da fl n6 ((200-D:Nat):Int) T/\j<=ao/\∀e,e<j->e≠da->aa X T e=aa X h e) (λ_ _ _=>False):=by
 intro D
 induction D with
 |zero=>intro F v h j _ _ a;have:=aox (D:=0) (F:=F);omega
 |succ D al=>
  intro F v h j aF aK gb bP bt f0
  refine c4 (agE X) (ax.none _ _ rfl) ?_
  rw[agF]
  unfold Uu
  obtain⟨b,a8,cL,bk,rfl,ai,_,_,_,_,_,_,_,_,hA,cz,has⟩:=id bt.open
  obtain⟨c,b3,b2⟩:=f0.KS
  have r1:=bu b ai
  have bB:aA .add (.Z ((200-(D+1):Nat):Int)) (.Z 1)=some (.Z ((200-D:Nat):Int)):=by rw[eI Zo Zo,show((200-(D+1):Nat):Int)+1=((200-D:Nat):Int) by omega]
  refine g7 (bJ b3) @b2 @bB ⟨?_⟩
  generalize en:bm X h da _=aX
  have PG:∃fZ,aa X aX da=some (.cells fZ 1 .own)/\fZ.get 0=some (.Z ((200-D:Nat):Int)):=⟨dT c 0 [.Z ((200-D:Nat):Int)],by rw[<-en,bh wS];rfl,rz c 0 _⟩
  have bZ:∀e,e≠da->aa X aX e=aa X h e:=λe I=>by rw[<-en,aE wS I]
  clear en
  have ank:Ae X da fl n6 ((200-D:Nat):Int) aX:=⟨PG,by rw[cA,bZ _ CN, <-cA];exact f0.N3,by rw[cA,bZ _ h6, <-cA];exact f0.look⟩
  have u0:∀e,P e->aa X aX e=aa X h e:=λe I=>bZ e (bu e I).2
  have Ir:=cI.ac u0 _ _ bt
  refine ci @Nu ⟨?_⟩
  refine(arX (j:=j) (h:=aX) ax bS eK hS Zo Ir (λe I=>by have:=(bu e I).1;omega) bP).Zm ?_
  rintro ad aJ a6 ⟨rfl,bE⟩
  have f2:=bE.le
  have LJ:Ae X da fl n6 ((200-D:Nat):Int) aJ:=ank.ac (λe I=>bE.ac e (by rcases I with rfl|rfl|rfl<;>omega))
  obtain⟨dB,wz,Lk⟩:=LJ.KS
  have aiI:am X aJ (.ptr b 8)=some a8:=by rw[bE.fU _ _ Zo,cA,bZ _ r1.2, <-cA];exact hA
  have ec:=cz.len
  have Iu:=has.len
  rw[Zp,Iu]at ec
  have hp:=cz.many
  rw[Zp,Iu]at hp
  have cJ:decide ((200:Int)<((200-D:Nat):Int))=false:=by simp only[Zb];omega
  refine f7 (bJ wz) @Lk @cJ @aiI @ec ⟨?_⟩
  refine fD (λm K T aS=>∃(Y:Nat),K.g 1=some (.ptr da 0)/\K.g 2=some (.ptr fl 0)/\K.g 3=some (.ptr n6 0)/\K.g 12=some a8/\K.g 13=some (.Z (F.args.length:Int))/\K.g 14=some (.Z (Y:Int))/\Y+m=F.args.length
   /\Ae X da fl n6 ((200-D:Nat):Int) T/\j<=aS/\∀e,e<j->e≠da->aa X T e=aa X h e)
   F.args.length ⟨0,bn,bn,bn,bn,bn,fN,Zo,LJ,f2,λe R U=>by rw[bE.ac e R,bZ e U]⟩ ?_
  rintro m K aY ba ⟨Y,t1,d3,t3,ke,i2,kJ,bH,H8,ie,nX⟩
  cases m with
  |zero=>
   have d:decide ((Y:Int)<(F.args.length:Int))=false:=by simp only[Zb];omega
   obtain⟨gF,wA,al0⟩:=H8.KS
   have cF:aA .sub (.Z ((200-D:Nat):Int)) (.Z 1)=some (.Z ((200-(D+1):Nat):Int)):=by rw[Bb Zo Zo,show((200-D:Nat):Int) -1=((200-(D+1):Nat):Int) by omega]
   refine ev @kJ @i2 @t1 @d (bJ wA) @al0 @cF ⟨?_⟩
   refine⟨rfl,⟨⟨dT gF 0 [.Z ((200-(D+1):Nat):Int)],by rw[bh wS];rfl,rz gF 0 _⟩,by rw[cA,aE wS CN, <-cA];exact H8.N3,by rw[cA,aE wS h6, <-cA];exact H8.look⟩,Zo,λe R U=>by rw[aE wS U];exact nX e R U⟩
  |succ m=>
   have d:decide ((Y:Int)<(F.args.length:Int))=true:=by simp only[Zg];omega
   have cF:aA .add (.Z (Y:Int)) (.Z 1)=some (.Z ((Y+1:Nat):Int)):=by rw[eI Zo Zo];rfl
   obtain⟨J,aC⟩:∃J,F.args[Y]? =some J:=⟨_,Ze Zo⟩
   obtain⟨w,my,Qj⟩:=has.get Y J aC
   have kx:∀e,P e->aa X aY e=aa X h e:=λe I=>nX e (by have:=(bu e I).1;omega) (bu e I).2
   obtain⟨cB,cu,ee⟩:=(cz.ac kx).one my
   have θ:=Zj aC
   have axj:=aov gb θ
   have j5:=H8.look
   refine ev @kJ @i2 @ke @t3 @d @cB (Za @cu @j5) ⟨?_⟩
   rw[eS.eq]at bP
   refine(al J w aY ba Zo Zo Zo (D9 bP.2 θ) (cI.ac kx _ _ Qj) H8).Zm ?_
   rintro ad bw c7 ⟨rfl,anl,ji,f1⟩
   refine cM @kJ @cF ⟨?_⟩
   exact⟨m,Zo,Y+1,a1 t1,a1 d3,a1 t3,a1 ke,a1 i2,bn,Zo,anl,Zo,λe R U=>by rw[f1 e Zo U];exact nX e R U⟩
end
structure Oi(g:Go.a2.Node):Prop where
 vars:g.eQ.length+g.out.length+g.loc.length<=256
 eqs:g.eqs.length<=4096
 high:∀an∈g.eqs,gU 201 an.right<=200
def arM:∀{l:List hl},Bn l=none->∀an∈l,gU 201 an.right<=200:=by
 intro l
 induction l with
 |nil=>intro _ an a;cases a
 |cons J l al=>
  intro a an cl
  unfold Bn at a
  split at a
  ·cases a
  ·rcases Zt.1 cl with rfl|cl
   ·omega
   ·exact al a an cl
def arN:∀{l:List Go.a2.Node},rh l=none->∀g∈l,Oi g:=by
 intro l
 induction l with
 |nil=>intro _ an a;cases a
 |cons J l al=>
  intro a g b0
  unfold rh at a
  split at a
  ·cases a
  ·rename_i cl
   split at a
   ·cases a
   ·rename_i bt
    rcases Zt.1 b0 with rfl|b0
    ·exact⟨Zo,Zo,arM bt⟩
    ·exact al a g b0
def RY{ap:List Go.a2.Node}(a:qp ap=none):ap.length<=64/\∀g∈ap,Oi g:=by
 unfold qp at a
 split at a
 ·cases a
 ·rename_i cl
  rw[List.getElem?_eq_none_iff]at cl
  exact⟨cl,arN a⟩
section
variable{X:ck}{h T fG aX aJ:S ak}{j ao aL a6:Nat}{s:bx}
set_option maxRecDepth 100000 in
def alR(ax:is X)(bS:lw X)(eK:qH X)(hS:wa X){P:Nat->Prop}{F:bz}{v:H}(aK:(q X).a7<=j)(bt:cI X h P F v)(bu:∀e,P e->e<j)(bP:eS lf F)(gb:gU 201 F<=200):
 aR X 144 [v] h j (λad T ao=>ad= .Z 0/\bj X h j T ao) (λ_ _ _=>False):=by
 refine c4 (afH X) (ax.none _ _ rfl) ?_
 rw[afI]
 unfold TX
 refine cH ⟨?_⟩
 generalize en:bm X _ (j+1+1) _=aX
 have j0:aa X aX j=some (.cells (S.ofList [.Z 0] 0 .nil) 1 .own):=by rw[<-en];simp(disch:=omega) only[aE,bh];rfl
 have b3:aa X aX (j+1)=some (.cells (S.ofList [.Z 0] 0 .nil) 1 .own):=by rw[<-en];simp(disch:=omega) only[aE,bh];rfl
 have b2:am X aX (.ptr (j+1+1) 0)=some (.func (.func 190) [] [.ptr (j+1) 0, .ptr j 0, .ptr (j+1+1) 0]):=by rw[<-en,tu Zo];rfl
 have bU:bj X h j aX (j+1+1+1):=by rw[<-en];exact dM
 clear en
 refine ci @b2 ⟨?_⟩
 have Ir:=cI.ac (λe I=>bU.ac e (bu e I)) _ _ bt
 refine(arV (fa:=j+1+1+1) ax bS eK hS Zo Zo Zo Zo Zo Zo (λe I=>by have:=bu e I;exact⟨Zo,Zo⟩) 200 F v aX (j+1+1+1) Zo Zo gb bP Ir ⟨⟨_,b3,rfl⟩,by rw[bJ j0];rfl,b2⟩).Zm ?_
 rintro ad aJ a6 ⟨rfl,LJ,f2,jh⟩
 have aqa:=LJ.N3
 refine ci @aqa ⟨?_⟩
 exact⟨rfl,Zo,λe I=>by rw[jh e Zo Zo];exact bU.ac e I⟩
set_option maxRecDepth 100000 in
def ar7(ax:is X)(bS:lw X)(eK:qH X)(hS:wa X){P:Nat->Prop}{g:Go.a2.Node}{row:List H}(aK:(q X).a7<=j)(b0:pk X h P g row)(bu:∀e,P e->e<j)(bP:sO lf g)(aB:Oi g):
 aR X 92 [.agg row] h j (λad T ao=>ad= .Z 0/\bj X h j T ao) (λ_ _ _=>False):=by
 refine c4 (aiq X) (ax.none _ _ rfl) ?_
 rw[air]
 unfold Vp
 obtain⟨dd,dz,a8,eV,cZ,dO,ei,h2,bC,rfl,nW,l5,py,iV,eX⟩:=b0
 have eh:=nW.len
 have c5:=l5.len
 have e5:=py.len
 have kl:=eX.wide
 have gW:=iV.len
 have hp:=iV.many
 rw[Zp]at eh c5 e5
 rw[kl.1]at gW hp
 have aye:=aB.vars
 have axg:=aB.eqs
 have Fv:0<g.out.length:=YP.2 bP.some
 have bB:aA .add (.Z (g.eQ.length:Int)) (.Z (g.out.length:Int))=some (.Z ((g.eQ.length+g.out.length:Nat):Int)):=by rw[eI Zo Zo];simp
 have cF:aA .add (.Z ((g.eQ.length+g.out.length:Nat):Int)) (.Z (g.loc.length:Int))=some (.Z ((g.eQ.length+g.out.length+g.loc.length:Nat):Int)):=by rw[eI Zo Zo];simp
 have cT:decide ((g.out.length:Int)=0)=false:=by simp only[Zb];omega
 have cJ:decide ((256:Int)<((g.eQ.length+g.out.length+g.loc.length:Nat):Int))=false:=by simp only[Zb];omega
 have eT:decide ((4096:Int)<(g.eqs.length:Int))=false:=by simp only[Zb];omega
 refine rR ?_
 generalize en:bm X h j _=aX
 have b3:aa X aX j=some (.cells (S.ofList [.str g.name, .Z g.at_,dd,dz,a8,eV] 0 .nil) 6 .own):=by rw[<-en,bh aK];rfl
 have bU:bj X h j aX (j+1):=by rw[<-en];exact dM
 clear en
 refine g7 (bJ b3) @eh (Za @c5 (Za @e5 (Za @bB @cF))) ⟨?_⟩
 refine(Jt (j:=j+1) (h:=aX) ax bS eK bP.name Zo).Zm ?_
 rintro ad aJ a6 ⟨rfl,bE⟩
 have f2:=bE.le
 rw[<-bE.ac _ Zo]at b3
 have jy:=bU.trans bE
 have dk:=(ky nW.len).1
 have dB:=(ky l5.len).1
 have gF:=(ky py.len).1
 have j7:ft 3 [.aT, .aT, .aT] [(0,1,dd),(1,1,dz),(2,1,a8)] a6=some (.slice a6 0 3 3, .cells (S.ofList [dd,dz,a8] 0 .nil) 3 .own):=by
  simp[ft,p1,p2,lW,dk,dB,gF]
 refine g7 (bJ b3) @eh (Za @c5 (Za @e5 (Za @gW (Za @cT (Za @cJ @eT))))) ⟨?_⟩
 refine fE j7 ?_
 refine x6 ⟨?_⟩
 generalize fd:bm X aJ a6 _=aY
 have cQ:aa X aY a6=some (.cells (S.ofList [dd,dz,a8] 0 .nil) 3 .own):=by rw[<-fd,bh Zo]
 have ca:bj X h j aY (a6+1):=⟨Zo,λe I=>by rw[<-fd];simp(disch:=omega) only[aE];exact jy.ac e I⟩
 have wA:aa X aY j=some (.cells (S.ofList [.str g.name, .Z g.at_,dd,dz,a8,eV] 0 .nil) 6 .own):=by rw[<-fd];simp(disch:=omega) only[aE];exact b3
 clear fd
 have kx:∀e,P e->aa X aY e=aa X h e:=λe I=>ca.ac e (bu e I)
 refine(aj7 (j:=a6+1) (h:=aY) ax.todv Zo Zo cQ (nW.ac kx) (l5.ac kx) (py.ac kx) (λe I=>by have:=bu e I;omega) Zo Zo).Zm ?_
 rintro ad bw c7 ⟨Ez,cz,dm⟩
 have ji:=dm.le
 refine x6 ⟨?_⟩
 refine(akj (j:=c7) (h:=bw) ax bS eK Zo cz (λe I=>I.2) (λd aH=> ?_)).Zm ?_
 ·rcases Zz.1 aH with a|a
  ·exact bP.eQ d a
  ·rcases Zz.1 a with a|a
   ·exact bP.out d a
   ·exact bP.loc d a
 rintro ad bL cb ⟨rfl,dw⟩
 have hV:=dw.le
 have H0:bj X aY (a6+1) bL cb:=dm.trans dw
 have nS:bj X h j bL cb:=ca.trans H0
 rw[<-H0.ac _ Zo]at wA
 refine cM (bJ wA) @gW ⟨?_⟩
 refine fD (λm K T aS=>∃(Y:Nat),K.g 4=some (.Z 0)/\K.g 53=some eV/\K.g 54=some (.Z (g.eqs.length:Int))/\K.g 55=some (.Z (Y:Int))/\Y+m=g.eqs.length/\bj X h j T aS)
  g.eqs.length ⟨0,bn,bn,bn,fN,Zo,nS⟩ ?_
 rintro m K cd er ⟨Y,t4,pL,kf,pM,bH,eO⟩
 have q6:=eO.le
 cases m with
 |zero=>
  have d:decide ((Y:Int)<(g.eqs.length:Int))=false:=by simp only[Zb];omega
  refine gp @pM @kf @t4 @d ⟨?_⟩
  exact⟨rfl,eO⟩
 |succ m=>
  have d:decide ((Y:Int)<(g.eqs.length:Int))=true:=by simp only[Zg];omega
  have bB:aA .add (.Z (Y:Int)) (.Z 1)=some (.Z ((Y+1:Nat):Int)):=by rw[eI Zo Zo];rfl
  obtain⟨an,cl⟩:∃an,g.eqs[Y]? =some an:=⟨_,Ze Zo⟩
  have FA:=Zj cl
  have ys:=bP.eqs an FA
  obtain⟨row,fC,sb⟩:=eX.get Y an cl
  have u1:∀e,P e->aa X cd e=aa X h e:=λe I=>eO.ac e (bu e I)
  have d2:=iV.gi Y (by rw[kl.1];omega)
  have ig:=(iV.ac u1).row Zd fC
  obtain⟨lU,mI,dk,dB,ls,rfl,hE,l6,ll,nr⟩:=sb
  have A1:=hE.len
  rw[show(il an.left).length=an.left.length from by simp[il]]at A1
  have axE:0<an.left.length:=YP.2 ys.some
  have xS:decide ((an.left.length:Int)=0)=false:=by simp only[Zb];omega
  refine hQ @pM @kf @pL @d @d2 @ig ⟨?_⟩
  refine fE (hO (D:=4) (b:=er) (W:=0) (n:=4) (c:=S.ofList [.aT, .aT, .Z 0, .cq] 0 .nil) (bh Zo) Zo rfl Zd Zd nr) ?_
  generalize lI:bm X _ er _=cr
  have eN:aa X cr er=some (.cells (S.ofList [lU,mI, .Z an.at_,ls] 0 .nil) 4 .own):=by rw[<-lI,bh Zo];rfl
  have eF:bj X h j cr (er+1):=⟨Zo,λe I=>by rw[<-lI];simp(disch:=omega) only[aE];exact eO.ac e I⟩
  clear lI
  have qm:∀e,P e->aa X cr e=aa X h e:=λe I=>eF.ac e (bu e I)
  refine ci (bJ eN) ⟨?_⟩
  refine(alR (j:=er+1) (h:=cr) ax bS eK hS Zo (cI.ac qm _ _ ll) (λe I=>by have:=bu e I;omega) ys.right (aB.high an FA)).Zm ?_
  rintro ad dH gt ⟨rfl,hM⟩
  have yp:=hM.le
  rw[<-hM.ac _ Zo]at eN
  have XV:bj X h j dH gt:=eF.trans hM
  have Bh:∀e,P e->aa X dH e=aa X h e:=λe I=>XV.ac e (bu e I)
  refine eu (bJ eN) @A1 @xS ⟨?_⟩
  refine(arC (j:=gt) (h:=dH) ax bS eK Zo (hE.ac Bh) (λe I=>by have:=bu e I;omega) ys.left).Zm ?_
  rintro ad dY iX ⟨rfl,kk⟩
  have fW:decide ((0:Int)=1)=false:=rfl
  have fw:decide ((0:Int)≠0)=false:=rfl
  refine gp @fW @fw @pM @bB ⟨?_⟩
  exact⟨m,Zo,Y+1,a1 t4,a1 pL,a1 kf,bn,Zo,XV.trans kk⟩
set_option maxRecDepth 100000 in
def alQ(ax:is X)(bS:lw X)(eK:qH X)(hS:wa X){P:Nat->Prop}{ap:List Go.a2.Node}{v:H}(aK:(q X).a7<=j)(b0:nD X h P ap v)(bu:∀e,P e->e<j)(bP:∀g∈ap,sO lf g)(cj:ap≠[])(aB:qp ap=none):
 aR X 40 [v] h j (λad T ao=>ad= .Z 0/\bj X h j T ao) (λ_ _ _=>False):=by
 refine c4 (ah0 X) (ax.none _ _ rfl) ?_
 rw[ah1]
 unfold Va
 obtain⟨qe,lL⟩:=RY aB
 obtain⟨b,a8,cL,bC,rfl,ai,a0,cz,j6⟩:=id b0
 have kl:=j6.wide
 have ec:=cz.len
 rw[kl.1]at ec
 have gg:=bu b ai
 have ay:0<ap.length:=YP.2 cj
 have cT:decide ((ap.length:Int)=0)=false:=by simp only[Zb];omega
 have cJ:decide ((64:Int)<(ap.length:Int))=false:=by simp only[Zb];omega
 refine f7 @Po @a0 @ec @cT @cJ ⟨?_⟩
 refine fD (λm K T aS=>∃(Y:Nat),K.g 3=some (.Z 0)/\K.g 28=some a8/\K.g 29=some (.Z (ap.length:Int))/\K.g 30=some (.Z (Y:Int))/\Y+m=ap.length/\bj X h j T aS)
  ap.length ⟨0,bn,bn,bn,fN,Zo,bj.refl _ _⟩ ?_
 rintro m K aX aL ⟨Y,t3,ad1,D1,vF,bH,bU⟩
 have jB:=bU.le
 cases m with
 |zero=>
  have d:decide ((Y:Int)<(ap.length:Int))=false:=by simp only[Zb];omega
  refine gp @vF @D1 @t3 @d ⟨?_⟩
  exact⟨rfl,bU⟩
 |succ m=>
  have d:decide ((Y:Int)<(ap.length:Int))=true:=by simp only[Zg];omega
  have bB:aA .add (.Z (Y:Int)) (.Z 1)=some (.Z ((Y+1:Nat):Int)):=by rw[eI Zo Zo];rfl
  obtain⟨g,kW⟩:∃g,ap[Y]? =some g:=⟨_,Ze Zo⟩
  have uC:=Zj kW
  obtain⟨row,fC,jj⟩:=j6.get Y g kW
  have u0:∀e,P e->aa X aX e=aa X h e:=λe I=>bU.ac e (bu e I)
  have d2:=cz.gi Y (by rw[kl.1];omega)
  have ig:=(cz.ac u0).row Zd fC
  have jk:=jj.jD
  have CZ:=jj
  obtain⟨dd,dz,kq,eV,cZ,dO,ei,h2,hw,rfl,_⟩:=jj
  refine hQ @vF @D1 @ad1 @d @d2 @ig ⟨?_⟩
  refine fE (hO (D:=6) (b:=aL) (W:=0) (n:=6) (c:=S.ofList [.str [], .Z 0, .aT, .aT, .aT, .aT] 0 .nil) (bh Zo) Zo rfl Zd Zd jk) ?_
  generalize dE:bm X _ aL _=aJ
  have b2:aa X aJ aL=some (.cells (S.ofList [.str g.name, .Z g.at_,dd,dz,kq,eV] 0 .nil) 6 .own):=by rw[<-dE,bh Zo];rfl
  have bE:bj X h j aJ (aL+1):=⟨Zo,λe I=>by rw[<-dE];simp(disch:=omega) only[aE];exact bU.ac e I⟩
  clear dE
  refine ci (bJ b2) ⟨?_⟩
  refine(ar7 (j:=aL+1) (h:=aJ) ax bS eK hS Zo (CZ.ac (bs:=P) (λe I=>bE.ac e (bu e I)) (λ_ a=>a)) (λe I=>by have:=bu e I;omega) (bP g uC) (lL g uC)).Zm ?_
  rintro ad aY ba ⟨rfl,ca⟩
  have fW:decide ((0:Int)=1)=false:=rfl
  have fw:decide ((0:Int)=22)=false:=rfl
  refine gp @fW @fw @vF @bB ⟨?_⟩
  exact⟨m,Zo,Y+1,a1 t3,a1 ad1,a1 D1,bn,Zo,bE.trans ca⟩
end
section
variable{X:ck}{h T fG aX aJ:S ak}{j ao aL a6:Nat}{s:bx}
def BR(c:S H)(J b:H):(dT c 0 [J,b]).get 0=some J:=by rw[kg];simp
def D8(c:S H)(J b:H):(dT c 0 [J,b]).get 1=some b:=by rw[kg];simp
set_option maxRecDepth 100000 in
def aj1(ax:is X)(bS:lw X)(eK:qH X)(hS:wa X){P:Nat->Prop}{ap:List Go.a2.Node}{v:H}(aK:(q X).a7<=j)(b0:nD X h P ap v)(bu:∀e,P e->e<j)(bP:∀g∈ap,sO lf g)(cj:ap≠[])(aB:qp ap=none):
 aR X 20 [v] h j (λad T ao=>ad= .agg [.Z (xO ap).1, .Z (xO ap).2]/\bj X h j T ao) (λ_ _ _=>False):=by
 refine c4 (ag6 X) (ax.none _ _ rfl) ?_
 rw[ag7]
 unfold Uy
 obtain⟨qe,lL⟩:=RY aB
 refine pm ?_
 generalize en:bm X h j _=aX
 have b3:∃c,aa X aX j=some (.cells c 2 .own):=⟨_,by rw[<-en,bh aK];rfl⟩
 have bU:bj X h j aX (j+1):=by rw[<-en];exact dM
 clear en
 have u0:∀e,P e->aa X aX e=aa X h e:=λe I=>bU.ac e (bu e I)
 refine(alQ (j:=j+1) (h:=aX) ax bS eK hS Zo (b0.ac (bs:=P) u0 (λ_ a=>a)) (λe I=>by have:=bu e I;omega) bP cj aB).Zm ?_
 rintro ad aJ a6 ⟨rfl,bE⟩
 have f2:=bE.le
 rw[<-bE.ac _ Zo]at b3
 have jy:=bU.trans bE
 obtain⟨b,a8,cL,bC,rfl,ai,a0,cz,j6⟩:=id b0
 have kl:=j6.wide
 have ec:=cz.len
 rw[kl.1]at ec
 have gg:=bu b ai
 have br:decide ((0:Int)≠0)=false:=rfl
 rw[<-jy.fU _ _ gg]at a0
 refine eu @br @a0 @ec ⟨?_⟩
 refine fD (λm K T aS=>∃(Y:Nat),K.g 0=some (.ptr b 0)/\K.g 2=some (.ptr j 0)/\K.g 13=some a8/\K.g 14=some (.Z (ap.length:Int))/\K.g 15=some (.Z (Y:Int))/\Y+m=ap.length/\bj X h j T aS/\j<aS/\(∃c,aa X T j=some (.cells c 2 .own))/\xO ap=KQ ap Y (ap.drop Y))
  ap.length ⟨0,bn,bn,bn,bn,fN,Zo,jy,Zo,b3,rfl⟩ ?_
 rintro m K aY ba ⟨Y,t0,d3,i2,kJ,vD,bH,ca,wX,⟨gF,cQ⟩,mv⟩
 have ie:=ca.le
 cases m with
 |zero=>
  have d:decide ((Y:Int)<(ap.length:Int))=false:=by simp only[Zb];omega
  rw[ZE Zo]at mv
  refine hQ @vD @kJ @d3 @d @BR @D8 ⟨?_⟩
  refine⟨by rw[mv];rfl, ?_⟩
  exact⟨Zo,λe I=>by rw[aE Zo Zo];exact ca.ac e I⟩
 |succ m=>
  have d:decide ((Y:Int)<(ap.length:Int))=true:=by simp only[Zg];omega
  have bB:aA .add (.Z (Y:Int)) (.Z 1)=some (.Z ((Y+1:Nat):Int)):=by rw[eI Zo Zo];rfl
  obtain⟨g,kW⟩:∃g,ap[Y]? =some g:=⟨_,Ze Zo⟩
  have uC:=Zj kW
  have aH:ap.drop Y=g::ap.drop (Y+1):=by
   obtain⟨ag,I⟩:=Zc.1 kW
   rw[Zr ag,I]
  rw[aH,KQ]at mv
  obtain⟨row,fC,jj⟩:=j6.get Y g kW
  have kx:∀e,P e->aa X aY e=aa X h e:=λe I=>ca.ac e (bu e I)
  have d2:=cz.gi Y (by rw[kl.1];omega)
  have ig:=(cz.ac kx).row Zd fC
  have jk:=jj.jD
  have CZ:=jj
  obtain⟨dd,dz,kq,eV,cZ,dO,ei,h2,hw,rfl,_⟩:=jj
  refine hQ @vD @kJ @i2 @d @d2 @ig ⟨?_⟩
  refine fE (hO (D:=6) (b:=ba) (W:=0) (n:=6) (c:=S.ofList [.str [], .Z 0, .aT, .aT, .aT, .aT] 0 .nil) (bh Zo) Zo rfl Zd Zd jk) ?_
  generalize fi:bm X _ ba _=bw
  have d1:aa X bw ba=some (.cells (S.ofList [.str g.name, .Z g.at_,dd,dz,kq,eV] 0 .nil) 6 .own):=by rw[<-fi,bh Zo];rfl
  have ep:∀e,e<ba->aa X bw e=aa X aY e:=λe I=>by rw[<-fi];simp(disch:=omega) only[aE]
  clear fi
  have dm:bj X h j bw (ba+1):=⟨Zo,λe I=>by rw[ep e Zo];exact ca.ac e I⟩
  rw[<-ep _ Zo]at cQ
  refine cM @t0 (bJ d1) ⟨?_⟩
  refine(acS (j:=ba+1) (h:=bw) ax.todv Zo (λe I=>by have:=bu e I;omega) (CZ.ac (bs:=P) (λe I=>dm.ac e (bu e I)) (λ_ a=>a)) (by rw[K4];have:=(lL g uC).vars;simp only[pF];omega)).Zm ?_
  rintro ad bL cb ⟨cY,lS,vz,dW,rfl,mx,IF,cB,cu,ee,fV,dw⟩
  have hV:=dw.le
  have am9:bj X h j bL cb:=dm.trans (dw.kB Zo)
  rw[<-dw.ac _ Zo]at cQ
  refine cM @t0 @vD ⟨?_⟩
  generalize f8:bm X _ (cb+1) _=cd
  have dU:aa X cd (cb+1)=some (.cells (S.ofList [.ptr b 0, .Z (Y:Int), .ptr cY 0, .map cb, .Z 0, .Z 0] 0 .nil) 6 .own):=by rw[<-f8,bh Zo];rfl
  have eN:aa X cd cb=some (.map [] 0):=by rw[<-f8];simp(disch:=omega) only[aE,bh]
  have eO:bj X bL cb cd (cb+1+1):=by rw[<-f8];exact dM
  clear f8
  have XT:bj X h j cd (cb+1+1):=am9.trans (eO.kB Zo)
  rw[<-eO.ac _ Zo]at cQ
  have gq:∀e,(P e\/dy (ba+1) cb e)->e<cb+1+1/\e≠cb+1/\e≠cb:=by
   rintro e (I|I)
   ·have:=bu e I;omega
   ·have:=I.2;omega
  refine(aj2 (j:=cb+1+1) (h:=cd) (P:=λe=>P e\/dy (ba+1) cb e) (D:=Y) (ap:=ap) (g:=g) (cY:= .ptr cY 0) ax.todv Zo Zo Zo Zo Zo Zo gq
   (b0.ac (λe I=>XT.ac e (bu e I)) (λ_ a=> .inl a)) kW ⟨cY,lS,rfl, .inr mx, .inr IF,by rw[eO.fU _ _ (by have:=mx.2;omega)];exact cB,cu.ac (eO.ac _ IF.2)⟩ dU ⟨[],0,eN,λ_=>rfl⟩).Zm ?_
  rintro ad cr d9 ⟨rfl,AO,mX,q5⟩
  have eF:bj X h j cr d9:=⟨Zo,λe I=>by rw[q5 e Zo Zo Zo];exact XT.ac e I⟩
  rw[<-q5 _ Zo Zo Zo]at cQ
  have ox:am X cr (.ptr (cb+1) 4)=some (.Z (vl ap Y g).1):=by unfold f4 at AO;rw[bJ AO];rfl
  have xZ:am X cr (.ptr (cb+1) 5)=some (.Z (vl ap Y g).2):=by unfold f4 at AO;rw[bJ AO];rfl
  by_cases ct:(vl ap Y g).1=0
  ·have Cl:decide ((vl ap Y g).1≠0)=false:=by simp[ct]
   rw[Zh (by simp[ct])]at mv
   refine gp @ox @Cl @vD @bB ⟨?_⟩
   exact⟨m,Zo,Y+1,a1 t0,a1 d3,a1 i2,a1 kJ,bn,Zo,eF,Zo,⟨gF,cQ⟩,mv⟩
  ·have Cl:decide ((vl ap Y g).1≠0)=true:=by simp[ct]
   rw[Zq ct]at mv
   have uJ:b6 X cr 2 (.ptr (cb+1) 4)=some (.agg [.Z (vl ap Y g).1, .Z (vl ap Y g).2]):=by rw[nv,ox,xZ];rfl
   refine hQ @ox @Cl @uJ @d3 @BR @D8 ⟨?_⟩
   refine⟨by rw[mv], ?_⟩
   exact⟨Zo,λe I=>by rw[aE Zo Zo];exact eF.ac e I⟩
end
def Sc(n:Nat):∀l:List Nat,n8 n l=true↔n∈l:=by
 intro l
 induction l with
 |nil=>simp[n8]
 |cons J l al=>simp[n8,al]
section
variable{X:ck}{h T fG aX aJ:S ak}{j ao aL a6:Nat}
end
def tO(X:ck)(h:S ak)(b:Nat)(ok:Bool):Prop:=∃c,aa X h b=some (.cells c 1 .own)/\c.get 0=some (.bool ok)
section
variable{X:ck}{h T fG aX aJ:S ak}{j ao aL a6:Nat}
def tO.ac{b:Nat}{ok:Bool}(a:tO X h b ok)(D:aa X T b=aa X h b):tO X T b ok:=by
 obtain⟨c,R,U⟩:=a
 exact⟨c,by rw[D];exact R,U⟩
def tO.rg{b:Nat}{ok:Bool}(a:tO X h b ok):am X h (.ptr b 0)=some (.bool ok):=by
 obtain⟨c,R,U⟩:=a
 rw[bJ R];exact U
def tO.st{b:Nat}{ok v:Bool}{ah:S ak->Prop}(a:tO X h b ok)(ai:(q X).a7<=b)(D:∀T,tO X T b v->(∀e,e≠b->aa X T e=aa X h e)->ah T):B (b7 X h 1 (.ptr b 0) (.bool v)) ah:=by
 obtain⟨c,R,U⟩:=a
 refine fE (rt R ai Zo rfl rfl) ?_
 exact D _ ⟨_,bh ai,by rw[S.j1,Zq rfl]⟩ (λe I=>aE ai I)
end
open Classical in
section
variable{X:ck}{h T fG aX aJ:S ak}{j ao aL a6:Nat}
end
section
variable{X:ck}{h T fG aX aJ:S ak}{j ao aL a6:Nat}
def asb{C:aW}{h:S ak}(x e:Int):pV C h .min [3,3] [.int .i64 x, .int .i64 e]=some (.int .i64 (min x e)):=by
 show nf false (.int .i64 x) [.int .i64 e]=_
 simp only[nf,fo,sj]
 congr 2
 simp only[Zg]
 split<;>simp_all<;>omega
def arL:∀{l:List Go.a2.Node}{D J:Int},rh l=some (D,J)->D=30\/D=22:=by
 intro l
 induction l with
 |nil=>intro D J a;cases a
 |cons g l al=>
  intro D J a
  unfold rh at a
  split at a
  ·cases a;exact .inl rfl
  ·split at a
   ·cases a;exact .inr rfl
   ·exact al a
def atj{s:bx}(aI:s.length<=5000){D J:Int}(a:yQ s= .error (D,J)):D≠0:=by
 have R:=ac7 aI
 rw[a]at R
 unfold BD at R
 split at R
 ·cases R
 ·cases R;decide
 ·split at R
  ·cases R
  ·cases R;decide
  ·split at R
   ·rename_i aB
    cases R
    unfold qp at aB
    split at aB
    ·cases aB;decide
    ·rcases arL aB with rfl|rfl<;>decide
   ·cases R
end
end
end Go.Proofs.YtpfajohmofnkfaaGreatDoor

