/- A part of the last text's proof; no condition of its own -/
import Derived.Test.YtpfajohmofnkfaaGreatDoorYm
set_option maxHeartbeats 8000000
set_option linter.all false
namespace Go.Proofs.YtpfajohmofnkfaaGreatDoor
open Go.bk Go.aZ
noncomputable section
def hl(g:Go.aZ.Node):List (Int×fq):=(g.ef.map λd=>(1,d))++((g.out.map λd=>(2,d))++(g.loc.map λd=>(3,d)))
def jK(g:Go.aZ.Node):Nat->List fq
 |0=>g.ef
 |1=>g.out
 |_=>g.loc
def po(g:Go.aZ.Node):Nat->Nat
 |0=>0
 |1=>g.ef.length
 |2=>g.ef.length+g.out.length
 |_=>g.ef.length+g.out.length+g.loc.length
def adO(g:Go.aZ.Node){F:Nat}(aL:F<3):po g (F+1)=po g F+(jK g F).length:=by
 match F,aL with
 |0,_=>simp[po,jK]
 |1,_=>rfl
 |2,_=>rfl
def Ia(g:Go.aZ.Node):(hl g).length=po g 3:=by simp[hl,po];omega
def XH(g:Go.aZ.Node){F:Nat}(aL:F<3){aa:Nat}{d:fq}(a:(jK g F)[aa]? =some d):(hl g)[po g F+aa]? =some (1+(F:Int),d):=by
 match F,aL,a with
 |0,_,a=>
  have bL:=(Zc.1 a).1
  simp only[jK]at a bL
  simp only[hl,po,ZP]
  rw[Z4 (by simpa using bL),Zt,a];rfl
 |1,_,a=>
  have bL:=(Zc.1 a).1
  simp only[jK]at a bL
  simp only[hl,po]
  rw[ZW Zs,Zi,Nat.add_sub_cancel_left,Z4 (by simpa using bL),Zt,a];rfl
 |2,_,a=>
  simp only[jK]at a
  simp only[hl,po]
  rw[ZW (by simp;omega),Zi,ZW (by simp;omega),Zi,show g.ef.length+g.out.length+aa-g.ef.length-g.out.length=aa by omega,Zt,a];rfl
section
variable{X:co}{h U gw a6 aR:V an}{j ar aJ bc:Nat}
def asA{C:a2}{l:Nat}{K m b:List J}{ak ay:bJ}(a:AF C l (K++m) h j ak ay):iw C (.func (.yield l) K b) m h j ak ay:=⟨a⟩
def al8(az:dx X){P:Nat->Prop}{g:Go.aZ.Node}{eo l cT dL et:Nat}{cY df a8:J}(d7:Nat->V an->Nat->Prop)
 (T:d1 X gw P cT cY 8 (g.ef.map eK))(W:d1 X gw P dL df 8 (g.out.map eK))(au:d1 X gw P et a8 8 (g.loc.map eK))
 (ck:al X h (.ptr eo 2)=some cY)(a3:al X h (.ptr eo 3)=some df)(a4:al X h (.ptr eo 4)=some a8)
 (FC:∀i h j,d7 i h j->(q X).ba<=j/\∀e,P e->ab X h e=ab X gw e)
 (Mf:∀i h j U ar,d7 i h j->bh X h j U ar->d7 i U ar)
 (Z:∀i F d h j,(hl g)[i]? =some (F,d)->d7 i h j->AF X l [.Z F, .agg (eK d)] h j (λae U ar=>ae= .bool true/\d7 (i+1) U ar) (λ_ _ _=>False))
 (ch:d7 0 h j):aW X 132 [.func (.yield l) [] [], .ptr eo 0] h j (λ_ U ar=>d7 (hl g).length U ar) (λ_ _ _=>False):=by
 refine zv az (agF X) ?_
 rw[agG]
 unfold UE
 have Br:∀F,F<3->∃s b,[cY,df,a8][F]? =some s/\d1 X gw P b s 8 ((jK g F).map eK):=by
  intro F aL
  match F,aL with
  |0,_=>exact⟨cY,cT,rfl,T⟩
  |1,_=>exact⟨df,dL,rfl,W⟩
  |2,_=>exact⟨a8,et,rfl,au⟩
 have aln:=(jt T.len).1
 have als:=(jt W.len).1
 have tm:=(jt au.len).1
 have fj:eC [.aU, .aU, .aU] [(0,1,cY),(1,1,df),(2,1,a8)]=some (.agg [cY,df,a8]):=by
  simp[eC,pP,pQ,lD,aln,als,tm]
 refine d9 @ck @a3 @a4 ⟨?_⟩
 refine fS fj ?_
 refine cS ⟨?_⟩
 refine fC (λm M U aV=>∃(F:Nat),M.g 0=some (.func (.yield l) [] [])/\M.g 13=some (.agg [cY,df,a8])/\M.g 14=some (.Z (F:Int))/\F+m=3/\d7 (po g F) U aV)
  3 ⟨0,bp,bp,fQ,Zo,ch⟩ ?_
 rintro m M aR bc ⟨F,t0,lE,my,aL,rp⟩
 cases m with
 |zero=>
  have d:decide ((F:Int)<3)=false:=by simp only[Zb];omega
  refine c1 @my @d ⟨?_⟩
  rw[Ia]
  have:F=3:=Zo
  subst this
  exact rp
 |succ m=>
  have d:decide ((F:Int)<3)=true:=by simp only[Zg];omega
  obtain⟨s,b,aI,cG⟩:=Br F Zo
  have dQ:qI false 3 1 (.agg [cY,df,a8]) (.Z (F:Int))=some s:=by
   have au:Nat.blt F 3=true:=by simp[Nat.blt];omega
   simp only[qI,qO,au,e6,jz,pn,Yh]
   exact aI
  have ew:=cG.len
  have h7:=cG.many
  rw[Zi]at ew h7
  refine fW @my @lE @d @dQ @ew ⟨?_⟩
  refine fC (λm M U aV=>∃(aa:Nat),M.g 0=some (.func (.yield l) [] [])/\M.g 13=some (.agg [cY,df,a8])/\M.g 14=some (.Z (F:Int))/\M.g 3=some (.Z (F:Int))/\M.g 18=some s/\M.g 19=some (.Z ((jK g F).length:Int))/\M.g 20=some (.Z (aa:Int))/\aa+m=(jK g F).length/\d7 (po g F+aa) U aV)
   (jK g F).length ⟨0,aQ t0,aQ lE,aQ my,bp,bp,bp,fQ,Zo,rp⟩ ?_
  rintro gr c8 a7 bd ⟨aa,t0,lE,my,t3,Hi,xT,Ep,bL,tG⟩
  cases gr with
  |zero=>
   have d:=zp aa (jK g F).length
   have bH:=zt F
   refine fW @Ep @xT @my @d @bH ⟨?_⟩
   refine⟨m,Zo,F+1,aQ t0,aQ lE,bp,Zo, ?_⟩
   rw[adO g Zo]
   have:aa=(jK g F).length:=Zo
   rw[<-this]
   exact tG
  |succ gr=>
   have d:=zq aa (jK g F).length
   have bH:=zt aa
   have cP:aC .add (.Z 1) (.Z (F:Int))=some (.Z (1+(F:Int))):=eL Zo Zo
   obtain⟨aF,aO⟩:=zr (jK g F) aa
   obtain⟨yP,ao2⟩:=FC _ _ _ tG
   have o2:=cG.e9 aa (by rw[Zi];omega)
   have ft:=(cG.ad ao2).row (i:=aa) (r:=eK aF) Zd (by rw[Zt,aO];rfl)
   have kf:eK aF=[.str aF.name, .Z aF.at_, .bool aF.ty.b, .bool aF.ty.s, .Z aF.ty.w, .str aF.on, .Z aF.fD, .bool aF.no]:=rfl
   rw[kf]at ft
   refine iu @Ep @xT @Hi @d @o2 @ft ⟨?_⟩
   generalize eB:bo X _ bd _=bw
   have el:ab X bw bd=zs [.str aF.name, .Z aF.at_, .bool aF.ty.b, .bool aF.ty.s, .Z aF.ty.w, .str aF.on, .Z aF.fD, .bool aF.no] 8:=by rw[<-eB,bi yP];rfl
   have dj:bh X a7 bd bw (bd+1):=⟨Zo,λe H=>by rw[<-eB];exact zu⟩
   clear eB
   refine gl @t0 @t3 @cP (bR el) ⟨?_⟩
   refine asA ((Z _ _ _ _ _ (XH g Zo aO) (Mf _ _ _ _ _ tG dj)).mono ?_ (λ_ _ _ a=>False.elim a))
   rintro ae bS cj ⟨rfl,hx⟩
   refine c1 @Ep @bH ⟨?_⟩
   exact⟨gr,Zo,aa+1,aQ t0,aQ lE,aQ my,aQ t3,aQ Hi,aQ xT,bp,Zo,hx⟩
def LB(az:dx X){P:Nat->Prop}{g:Go.aZ.Node}{n fJ hp eo cT dL et:Nat}{cY df a8:J}{A bm:KX}{ak:gB}{I:Nat->gB}{r:gB}{ay:rZ}{M:dY}(d7:Nat->V an->Nat->Prop)
 (aM:(q X).ba<=j)(ey:fJ<n)(dD:hp<n)(I3:eo<j)
 (T:d1 X h P cT cY 8 (g.ef.map eK))(W:d1 X h P dL df 8 (g.out.map eK))(au:d1 X h P et a8 8 (g.loc.map eK))
 (ck:al X h (.ptr eo 2)=some cY)(a3:al X h (.ptr eo 3)=some df)(a4:al X h (.ptr eo 4)=some a8)
 (FC:∀i U aV,d7 i U aV->j+2<=aV/\∀e,P e->ab X U e=ab X h e)
 (Mf:∀i a6 aJ aR bc,d7 i a6 aJ->aJ<=bc->(∀e,e<aJ->e≠j+1->ab X aR e=ab X a6 e)->d7 i aR bc)
 (ch:∀U,bh X h j U (j+2)->d7 0 U (j+2))
 (arw:∀mk i F d a6 aJ,(hl g)[i]? =some (F,d)->d7 i a6 aJ->ab X a6 j=some (.deferred (some []))->ab X a6 (j+1)=some (mk .ready none)->
  sY X A bm (j+1) mk (λae U aV=>ae= .bool true/\d7 (i+1) U aV/\ab X U j=some (.deferred (some []))/\ab X U (j+1)=some (mk .ready none)) (λ_ _ _=>False) (ac (ac M fJ (.Z F)) hp (.agg (eK d))) a6 aJ)
 (Dc:∀U aV,d7 (hl g).length U aV->ab X U j=some (.deferred (some []))->ak (vI M j) U aV):
 D9 X n (.func (.func 132) [] [.ptr eo 0]) [fJ,hp] (sY X A bm) ak I r ay M h j:=by
 refine⟨aM, ?_⟩
 intro mk Jj
 refine Xa (az.none _ _ rfl) ?_
 generalize ea:bo X (bo X h j _) (j+1) _=a6
 have mh:ab X a6 j=some (.deferred (some [])):=by rw[<-ea,aG Zo Zo,bi aM]
 have iI:ab X a6 (j+1)=some (mk .ready none):=by rw[<-ea,bi Zo]
 have bT:bh X h j a6 (j+2):=⟨Zo,λe H=>by rw[<-ea];exact zu⟩
 clear ea
 have aaA:=ch a6 bT
 obtain⟨_,Mh⟩:=FC _ _ _ aaA
 refine(al8 (l:=j+1) az (λi U aV=>d7 i U aV/\ab X U j=some (.deferred (some []))/\ab X U (j+1)=some (mk .ready none)) (T.ad Mh) (W.ad Mh) (au.ad Mh)
  (by rw[bT.f0 _ _ I3];exact ck) (by rw[bT.f0 _ _ I3];exact a3) (by rw[bT.f0 _ _ I3];exact a4)
  (λi U aV a=> ?_) (λi a6 aJ aR bc a bX=> ?_) (λi F d a6 aJ aN a=> ?_) ⟨aaA,mh,iI⟩).Zm ?_
 ·obtain⟨cL,cC⟩:=FC _ _ _ a.1
  exact⟨Zo,λe H=>by rw[cC e H,Mh e H]⟩
 ·obtain⟨cL,cC⟩:=FC _ _ _ a.1
  exact⟨Mf _ _ _ _ _ a.1 bX.le (λe H _=>bX.ad e H),by rw[bX.ad _ Zo];exact a.2.1,by rw[bX.ad _ Zo];exact a.2.2⟩
 ·refine Jj _ _ _ _ _ a.2.2 ?_
  have bH:Nat.blt fJ n=true:=by simp[Nat.blt];omega
  have cP:Nat.blt hp n=true:=by simp[Nat.blt];omega
  simp only[Hc,bH,cP,e6]
  exact arw mk i F d a6 aJ aN a.1 a.2.1 a.2.2
 ·rintro ae aR bc ⟨rp,anM,anV⟩
  obtain⟨cL,cC⟩:=FC _ _ _ rp
  refine⟨.ready,none,Zs,anV, ?_⟩
  show ak _ _ _
  exact Dc _ _ (Mf _ _ _ _ _ rp (Zl _) (λe H Na=>aG Zo Na)) (by rw[aG Zo Zo];exact anM)
end
def A0{α eP:Type}(st:eP->α->eP)(s:eP){l:List α}{i:Nat}{x:α}(a:l[i]? =some x):(l.take (i+1)).foldl st s=st ((l.take i).foldl st s) x:=by
 rw[Z0,a,List.foldl_append];rfl
def qk(s:(bq->Option Int)×(Int×Int))(x:Int×fq):(bq->Option Int)×(Int×Int):=
 (λw=>if w=x.2.name then some x.1 else s.1 w,if 0<(s.1 x.2.name).getD 0 then mf s.2 24 x.2.at_ else s.2)
def sc(t:bq->Option eJ)(f:Int×Int)(x:Int×fq):Int×Int:=if t x.2.on=none/\x.2.on≠[]then mf f 23 x.2.fD else f
def uG(t:bq->Option eJ)(g:Go.aZ.Node)(f:Int×Int):Int×Int:=(hl g).foldl (sc t) ((hl g).foldl qk (λ_=>none,f)).2
section
variable{X:co}{h U gw a6 aR:V an}{j ar aJ bc:Nat}
def Lz(az:dx X){nm cY df a8 eR:J}{K:J}(aM:(q X).ba<=j):
 aW X 78 [.agg [nm,K,cY,df,a8,eR]] h j (λae U ar=>ae= .func (.func 132) [] [.ptr j 0]/\ar=j+1/\bh X h j U ar/\al X U (.ptr j 2)=some cY/\al X U (.ptr j 3)=some df/\al X U (.ptr j 4)=some a8) (λ_ _ _=>False):=by
 refine zv az (ajz X) ?_
 rw[ajA]
 unfold We
 refine cS ⟨?_⟩
 exact⟨rfl,rfl,dR,by rw[bR (bi aM)];rfl,by rw[bR (bi aM)];rfl,by rw[bR (bi aM)];rfl⟩
structure rT(X:co)(hj:V an)(eb b1 lb:Nat)(p:J)(F:Int)(cF dh:J)(f:Int×Int)(af:bq->Option Int)(h:V an)(n:Nat):Prop where
 le:eb+2<=n
 jP:ga X h b1 p F cF dh f
 seen:oG X h lb (n4 af)
 low:∀e,e<eb->e≠b1->e≠lb->ab X h e=ab X hj e
def rT.ad{hj:V an}{eb b1 lb:Nat}{p cF dh:J}{F:Int}{f:Int×Int}{af:bq->Option Int}(a:rT X hj eb b1 lb p F cF dh f af a6 aJ)(ij:b1<eb)(Jf:lb<eb)(aM:aJ<=bc)(aL:∀e,e<aJ->e≠eb+1->ab X aR e=ab X a6 e):rT X hj eb b1 lb p F cF dh f af aR bc:=by
 have gE:=a.le
 refine⟨Zo, ?_,a.seen.ad (aL _ Zo Zo),λe T W au=>by rw[aL e Zo Zo];exact a.low e T W au⟩
 have:=a.jP
 unfold ga at*
 rw[aL _ Zo Zo];exact this
def alJ(az:dx X){P:Nat->Prop}{b1:Nat}{p cF dh:J}{F:Int}{t:bq->Option eJ}{g:Go.aZ.Node}{row:List J}(aM:(q X).ba<=j)(ij:(q X).ba<=b1)(yK:b1<j)
 (bB:∀e,P e->e<j/\e≠b1)(bb:oK X h P cF t){f:Int×Int}(aB:ga X h b1 p F cF dh f)(b0:oH X h P g row)(xj:True):
 aW X 120 [.ptr b1 0, .agg row] h j (λae U ar=>ae= .tuple []/\ga X U b1 p F cF dh (uG t g f)/\j<=ar/\∀e,e<j->e≠b1->ab X U e=ab X h e) (λ_ _ _=>False):=by
 refine HV (agr X) (az.none _ _ rfl) ?_
 rw[ags]
 unfold Ux
 obtain⟨cY,df,a8,eR,cT,dL,et,ig,bF,rfl,lr,kg,nD,jX,ff⟩:=b0
 refine cS ⟨?_⟩
 refine fk (λa6=>ab X a6 j=zs [.ptr b1 0] 1/\ab X a6 (j+1)=zs [.str g.name, .Z g.at_,cY,df,a8,eR] 6
  /\ab X a6 (j+1+1)=some (.map [] 0)/\al X a6 (.ptr (j+1+1+1) 0)=some (.map (j+1+1))/\bh X h j a6 (j+1+1+1+1)) ⟨by(first|assumption|(simp(disch:=omega) only[bi,aG]<;>rfl)|(simp(disch:=omega) only[bi,aG])),by(first|assumption|(simp(disch:=omega) only[bi,aG]<;>rfl)|(simp(disch:=omega) only[bi,aG])),by(first|assumption|(simp(disch:=omega) only[bi,aG]<;>rfl)|(simp(disch:=omega) only[bi,aG])),by rw[cg,bi Zo];rfl,dR⟩ ?_
 rintro a6 ⟨kb,b5,cd,c0,bT⟩
 refine(Lz az Zo).Zm ?_
 rintro ae aR bc ⟨rfl,rfl,bC,cC,d6,fU⟩
 have jb:bh X h j aR (j+1+1+1+1+1):=bT.trans bC
 have kH:∀e,P e->ab X aR e=ab X h e:=λe H=>jb.ad e (bB e H).1
 rw[<-bC.ad _ Zo]at kb b5 cd
 rw[<-bC.f0 _ _ Zo]at c0
 generalize aqG:j+1+1+1+1+1=eb at*
 have FI:ga X aR b1 p F cF dh f:=by unfold ga at*;rw[jb.ad b1 yK];exact aB
 have Bi:oG X aR (j+1+1) (n4 λ_=>none):=⟨[],0,cd,λ_=>rfl⟩
 refine gX ?_
 refine LB (P:=P) (g:=g) (cT:=cT) (dL:=dL) (et:=et) (cY:=cY) (df:=df) (a8:=a8) az (λi U aV=>rT X aR eb b1 (j+1+1) p F cF dh (((hl g).take i).foldl qk (λ_=>none,f)).2 (((hl g).take i).foldl qk (λ_=>none,f)).1 U aV) Zo Zo Zo Zo
  (lr.ad kH) (kg.ad kH) (nD.ad kH) cC d6 fU (λi U aV a=>⟨a.le,λe H=>a.low e (zo (bB e H).1) (bB e H).2 (zo (bB e H).1)⟩)
  (λi a6 aJ aR bc a gE aL=>a.ad Zo Zo gE aL) (λU bX=>⟨Zl _,by unfold ga at*;rw[bX.ad _ Zo];exact FI,Bi.ad (bX.ad _ Zo),λe H _ _=>bX.ad e H⟩) ?_ ?_
 ·intro mk i fb d a7 bd aN e8 mh iI
  rw[A0 qk _ aN]
  generalize ((hl g).take i).foldl qk (λ_=>none,f)=ca at e8 ⊢
  have gE:=e8.le
  have kf:eK d=[.str d.name, .Z d.at_, .bool d.ty.b, .bool d.ty.s, .Z d.ty.w, .str d.on, .Z d.fD, .bool d.no]:=rfl
  rw[kf]
  unfold sY
  refine cS ⟨?_⟩
  generalize eB:bo X _ bd _=bw
  have el:ab X bw bd=zs [.str d.name, .Z d.at_, .bool d.ty.b, .bool d.ty.s, .Z d.ty.w, .str d.on, .Z d.fD, .bool d.no] 8:=by rw[<-eB,bi Zo];rfl
  have d5:∀e,e<bd->ab X bw e=ab X a7 e:=λe H=>by rw[<-eB];exact zu
  clear eB
  refine⟨by rw[d5 _ Zo];exact iI, ?_⟩
  generalize jU:bo X bw (eb+1) _=bS
  have fK:ab X bS (eb+1)=some (mk .busy none):=by rw[<-jU,bi Zo]
  have er:∀e,e≠eb+1->ab X bS e=ab X bw e:=λe H=>by rw[<-jU,aG Zo H]
  clear jU
  have hx:=e8.ad (aR:=bS) (bc:=bd+1) Zo Zo Zo (λe T W=>by rw[er e W,d5 e T])
  rw[<-er _ Zo]at el
  have uM:ab X bS eb=some (.deferred (some [])):=by rw[er _ Zo,d5 _ Zo];exact mh
  have ei:al X bS (.ptr j 0)=some (.ptr b1 0):=by rw[bR (show ab X bS j=_ by rw[hx.low _ Zo Zo Zo];exact kb)];rfl
  have et:al X bS (.ptr (j+1+1+1) 0)=some (.map (j+1+1)):=zz (hx.low _ Zo Zo Zo) c0
  have iJ:kJ X bS 9 (.Z 0) (.map (j+1+1)) (.str d.name) false=some (.Z ((ca.1 d.name).getD 0)):=by
   rw[DM hx.seen];unfold n4;cases ca.1 d.name<;>rfl
  refine hm @et @iJ (bR el) ⟨?_⟩
  refine gX ?_
  refine hm @et @iJ (bR el) ⟨?_⟩
  refine j0 (λc8 U aV=>c8.g 4=some (.ptr (j+1+1+1) 0)/\c8.g 6=some (.ptr bd 0)/\c8.g 5=some (.Z fb)/\rT X aR eb b1 (j+1+1) p F cF dh (qk ca (fb,d)).2 ca.1 U aV/\bd+1<=aV
   /\ab X U bd=zs [.str d.name, .Z d.at_, .bool d.ty.b, .bool d.ty.s, .Z d.ty.w, .str d.on, .Z d.fD, .bool d.no] 8/\ab X U eb=some (.deferred (some []))/\ab X U (eb+1)=some (mk .busy none)) (λaa bL=> ?_) ?_
  ·by_cases aI:0<(ca.1 d.name).getD 0
   ·have aF:decide (0<(ca.1 d.name).getD 0)=true:=by simp[aI]
    refine d9 @aF @ei (bR el) ⟨?_⟩
    refine(wN (h:=bS) az ij hx.jP 24 d.at_).Zm ?_
    rintro ae b4 dH ⟨rfl,apA,pY,m8⟩
    refine cS ⟨?_⟩
    refine bL _ _ _ ⟨bp,bp,bp,⟨Zo, ?_,hx.seen.ad (m8 _ Zo),λe T W au=>by rw[m8 e W];exact hx.low e T W au⟩,Zo,by rw[m8 _ Zo];exact el,by rw[m8 _ Zo];exact uM,by rw[m8 _ Zo];exact fK⟩
    unfold qk
    simp only[aI,ZD]
    exact apA
   ·have aF:decide (0<(ca.1 d.name).getD 0)=false:=by simp[aI]
    refine ce @aF ⟨?_⟩
    refine bL _ _ _ ⟨bp,bp,bp,⟨Zo, ?_,hx.seen,hx.low⟩,Zo,el,uM,fK⟩
    unfold qk
    simp only[aI,ZA]
    exact hx.jP
  ·rintro c8 b4 dH ⟨t4,gt,t5,jc,pY,d8,sf,anX⟩
   have MH:=jc.le
   have CA:al X b4 (.ptr (j+1+1+1) 0)=some (.map (j+1+1)):=zz (jc.low _ Zo Zo Zo) c0
   show aj _ _
   refine fW @t4 @gt @t5 @CA (bR d8) ⟨?_⟩
   obtain⟨cu,p0,aox,rt⟩:=Nw (j:=dH) (show(q X).ba<=j+1+1 by omega) jc.seen d.name (.Z fb)
   refine ky p0 ?_
   refine cS ⟨?_⟩
   refine⟨⟨.busy,none,by rw[rt _ Zo];exact anX⟩, ?_⟩
   have Bc:ga X cu b1 p F cF dh (qk ca (fb,d)).2:=by have:=jc.jP;unfold ga at*;rw[rt b1 Zo];exact this
   have aoy:oG X cu (j+1+1) (n4 (qk ca (fb,d)).1):=by
    have:(λx=>if x=d.name then some (J.Z fb)else n4 ca.1 x)=n4 (qk ca (fb,d)).1:=by
     funext x;unfold n4 qk;by_cases a:x=d.name<;>simp[a]
    rw[<-this];exact aox
   have oX:rT X aR eb b1 (j+1+1) p F cF dh (qk ca (fb,d)).2 (qk ca (fb,d)).1 cu dH:=⟨MH,Bc,aoy,λe T W au=>by rw[rt e au];exact jc.low e T W au⟩
   exact⟨rfl,oX.ad Zo Zo (Zl _) (λe T W=>aG Zo W),by rw[aG Zo Zo,rt _ Zo];exact sf,bi Zo⟩
 ·intro a7 bd e8 mh
  rw[YX]at e8
  unfold uG
  generalize (hl g).foldl qk (λ_=>none,f)=ca at e8 ⊢
  have gE:=e8.le
  have wX:ab X a7 (j+1)=zs [.str g.name, .Z g.at_,cY,df,a8,eR] 6:=by rw[e8.low _ Zo Zo Zo];exact b5
  refine ce (bR wX) ⟨?_⟩
  refine(Lz az Zo).Zm ?_
  rintro ae bw db ⟨rfl,rfl,dj,cC,d6,fU⟩
  generalize FV:bd+1=dl at*
  have uZ:ga X bw b1 p F cF dh ca.2:=by have:=e8.jP;unfold ga at*;rw[dj.ad b1 Zo];exact this
  have Il:ab X bw eb=some (.deferred (some [])):=by rw[dj.ad _ Zo];exact mh
  have la:∀e,P e->ab X bw e=ab X h e:=λe H=>by
   have:=bB e H
   rw[dj.ad e Zo,e8.low e Zo this.2 Zo,kH e H]
  have EV:ab X bw j=zs [.ptr b1 0] 1:=by rw[dj.ad _ Zo,e8.low _ Zo Zo Zo];exact kb
  refine gX ?_
  refine LB (P:=P) (g:=g) (cT:=cT) (dL:=dL) (et:=et) (cY:=cY) (df:=df) (a8:=a8) az (λi U aV=>rT X bw dl b1 (j+1+1) p F cF dh (((hl g).take i).foldl (sc t) ca.2) ca.1 U aV) Zo Zo Zo Zo
   (lr.ad la) (kg.ad la) (nD.ad la) cC d6 fU (λi U aV a=>⟨a.le,λe H=>a.low e (zo (bB e H).1) (bB e H).2 (zo (bB e H).1)⟩)
   (λi a6 aJ aR bc a gE aL=>a.ad Zo Zo gE aL) (λU bX=>⟨Zl _,by unfold ga at*;rw[bX.ad _ Zo];exact uZ,(e8.seen.ad (dj.ad _ Zo)).ad (bX.ad _ Zo),λe H _ _=>bX.ad e H⟩) ?_ ?_
  ·intro mk i fb d bS cj aN hx uM anW
   rw[A0 (sc t) _ aN]
   generalize ((hl g).take i).foldl (sc t) ca.2=G at hx ⊢
   have il:=hx.le
   have kf:eK d=[.str d.name, .Z d.at_, .bool d.ty.b, .bool d.ty.s, .Z d.ty.w, .str d.on, .Z d.fD, .bool d.no]:=rfl
   rw[kf]
   unfold sY
   refine cS ⟨?_⟩
   generalize gd:bo X _ cj _=b4
   have d8:ab X b4 cj=zs [.str d.name, .Z d.at_, .bool d.ty.b, .bool d.ty.s, .Z d.ty.w, .str d.on, .Z d.fD, .bool d.no] 8:=by rw[<-gd,bi Zo];rfl
   have dK:∀e,e<cj->ab X b4 e=ab X bS e:=λe H=>by rw[<-gd];exact zu
   clear gd
   refine⟨by rw[dK _ Zo];exact anW, ?_⟩
   generalize ku:bo X b4 (dl+1) _=cu
   have eQ:ab X cu (dl+1)=some (mk .busy none):=by rw[<-ku,bi Zo]
   have fR:∀e,e≠dl+1->ab X cu e=ab X b4 e:=λe H=>by rw[<-ku,aG Zo H]
   clear ku
   have oX:=hx.ad (aR:=cu) (bc:=cj+1) Zo Zo Zo (λe T W=>by rw[fR e W,dK e T])
   rw[<-fR _ Zo]at d8
   have tu:ab X cu dl=some (.deferred (some [])):=by rw[fR _ Zo,dK _ Zo];exact uM
   have ei:al X cu (.ptr j 0)=some (.ptr b1 0):=by rw[bR (show ab X cu j=_ by rw[oX.low _ Zo Zo Zo];exact EV)];rfl
   have c5:al X cu (.ptr b1 2)=some cF:=by have:=oX.jP;unfold ga at this;rw[bR this];rfl
   have h1:∀U aV,rT X bw dl b1 (j+1+1) p F cF dh (sc t G (fb,d)) ca.1 U aV->ab X U dl=some (.deferred (some []))->(J.bool true=J.bool true/\rT X bw dl b1 (j+1+1) p F cF dh (sc t G (fb,d)) ca.1 (bo X U (dl+1) (some (mk .ready none))) aV/\ab X (bo X U (dl+1) (some (mk .ready none))) dl=some (.deferred (some []))/\ab X (bo X U (dl+1) (some (mk .ready none))) (dl+1)=some (mk .ready none)):=λU aV a W=>
    ⟨rfl,a.ad Zo Zo (Zl _) (λe T W=>aG Zo W),by rw[aG Zo Zo];exact W,bi Zo⟩
   refine yv ⟨?_⟩
   refine gX ?_
   refine d9 @ei @c5 (bR d8) ⟨?_⟩
   refine fk (λd4=>ab X d4 (cj+1+10)=zs [.Z 0, .str [], .Z 0, .bool false, .bool false, .Z 0, .str [], .Z 0, .bool false, .Z 0, .Z 0] 11/\bh X cu (cj+1) d4 (cj+1+10+1)) ⟨by rw[bi Zo];rfl,Zo,λe H=>zu⟩ ?_
   rintro d4 ⟨h4,gy⟩
   refine(Io (j:=cj+1+13) (h:=d4) az Zo (bb.ad (bv:=P) (λe H=>by have:=bB e H;rw[gy.ad e Zo,oX.low e Zo this.2 Zo,la e H]) (λ_ a=>a)) (λe H=>zo (bB e H).1) d.on).Zm ?_
   rintro ae dM jf ⟨rfl,kt⟩
   have tO:=kt.le
   have mG:ab X dM (cj+1+10)=zs [.Z 0, .str [], .Z 0, .bool false, .bool false, .Z 0, .str [], .Z 0, .bool false, .Z 0, .Z 0] 11:=by rw[kt.ad _ Zo];exact h4
   generalize Dx:(t d.on).getD s5=fp
   have qE:oB fp=[.Z fp.kind, .str fp.d.name, .Z fp.d.at_, .bool fp.d.ty.b, .bool fp.d.ty.s, .Z fp.d.ty.w, .str fp.d.on, .Z fp.d.fD, .bool fp.d.no, .Z fp.eq, .Z fp.left]:=rfl
   rw[qE]
   refine h5 ⟨?_⟩
   refine h5 ⟨?_⟩
   refine fS (im (F:=11) (b:=cj+1+10) (Y:=0) (n:=11) mG Zo rfl Zd Zd rfl) ?_
   generalize rq:bo X dM (cj+1+10) _=hj
   have mo:∀e,e<cj+1->ab X hj e=ab X cu e:=λe H=>by rw[<-rq,aG Zo Zo,kt.ad e Zo,gy.ad e H]
   clear rq h4 mG
   have pR:rT X bw dl b1 (j+1+1) p F cF dh G ca.1 hj jf:=oX.ad Zo Zo Zo (λe T W=>mo e T)
   rw[<-mo _ Zo]at d8 eQ tu
   have akJ:al X hj (.ptr j 0)=some (.ptr b1 0):=zz (mo _ Zo) ei
   cases ss:(t d.on)with
   |some afm=>
    have pV:sc t G (fb,d)=G:=by unfold sc;rw[Zh (by simp[ss])]
    simp only[Z3]
    refine cS ⟨?_⟩
    rw[pV]at h1 ⊢
    exact⟨⟨.busy,none,eQ⟩,h1 _ _ pR tu⟩
   |none=>
    simp only[Z1]
    by_cases lw:d.on=[]
    ·have pV:sc t G (fb,d)=G:=by unfold sc;rw[Zh (by simp[lw])]
     have aF:decide (d.on≠[])=false:=by simp[lw]
     refine c1 (bR d8) @aF ⟨?_⟩
     rw[pV]at h1 ⊢
     exact⟨⟨.busy,none,eQ⟩,h1 _ _ pR tu⟩
    ·have pV:sc t G (fb,d)=mf G 23 d.fD:=by unfold sc;rw[Zr ⟨ss,lw⟩]
     have aF:decide (d.on≠[])=true:=by simp[lw]
     refine d9 (bR d8) @aF @akJ ⟨?_⟩
     refine(wN (h:=hj) az ij pR.jP 23 d.fD).Zm ?_
     rintro ae x9 auv ⟨rfl,Q5,Rw,u9⟩
     refine cS ⟨?_⟩
     rw[pV]at h1 ⊢
     have Ja:=pR.le
     exact⟨⟨.busy,none,by rw[u9 _ Zo];exact eQ⟩,h1 _ _ ⟨Zo,Q5,pR.seen.ad (u9 _ Zo),λe T W au=>by rw[u9 e W];exact pR.low e T W au⟩ (by rw[u9 _ Zo];exact tu)⟩
  ·intro bS cj hx uM
   rw[YX]at hx
   generalize (hl g).foldl (sc t) ca.2=G at hx ⊢
   have il:=hx.le
   have anO:ab X bS eb=some (.deferred (some [])):=by rw[hx.low _ Zo Zo Zo];exact Il
   show nj X [] _ _ _ _ _
   simp only[sM,rJ,te]
   refine⟨by show(q X).ba<=dl;omega,uM, ?_⟩
   refine⟨by show(q X).ba<=eb;omega,by rw[aG Zo Zo];exact anO, ?_⟩
   show qU _ _ _ _ _
   refine⟨rfl, ?_,Zo,λe T W=> ?_⟩
   ·have:=hx.jP
    unfold ga at*
    rw[aG Zo Zo,aG Zo Zo];exact this
   ·rw[aG Zo Zo,aG Zo Zo,hx.low e Zo W Zo,dj.ad e Zo,e8.low e Zo W Zo,jb.ad e T]
end
def xH(s:(bq->Option eJ)×List bq)(x:Int×fq):(bq->Option eJ)×List bq:=
 if (s.1 x.2.name).isSome then s else(λw=>if w=x.2.name then some ⟨x.1,x.2, -1, -1⟩else s.1 w,s.2++[x.2.name])
def xI(F:Nat)(t:bq->Option eJ)(x:bq×Nat):bq->Option eJ:=match t x.1 with
 |some v=>if v.eq<0 then(λw=>if w=x.1 then some ⟨v.kind,v.d,F,x.2⟩else t w)else t
 |none=>t
def Kj(t:bq->Option eJ)(x:gv×Nat):bq->Option eJ:=x.1.left.zipIdx.foldl (xI x.2) t
def qQ(g:Go.aZ.Node):(bq->Option eJ)×List bq:=(hl g).foldl xH (λ_=>none,[])
def hD(g:Go.aZ.Node):bq->Option eJ:=g.eqs.zipIdx.foldl Kj (qQ g).1
def Nz(g:Go.aZ.Node):List bq:=(qQ g).2
def wg(t:bq->Option eJ):bq->Option J:=λw=>(t w).map λv=> .agg (oB v)
def Ue{α:Type}{l:List α}{i:Nat}{x:α}(a:l[i]? =some x):l.zipIdx[i]? =some (x,i):=by
 rw[List.getElem?_zipIdx,a];simp
section
variable{X:co}{h U gw a6 aR:V an}{j ar aJ bc:Nat}
structure rY(X:co)(hj:V an)(eb lb cF bU:Nat)(t:bq->Option eJ)(ms:List bq)(h:V an)(n:Nat):Prop where
 le:bU<=n
 map:oG X h lb (wg t)
 oz:∃c a8 cM,ab X h cF=some (.cells c 2 .own)/\c.get 0=some (.map lb)/\c.get 1=some a8/\gC X h a8 1 (ms.map .str) cM/\∀e∈cM,bU<=e/\e<n
 low:∀e,e<eb->e≠lb->e≠cF->ab X h e=ab X hj e
def rY.ad{hj:V an}{eb lb cF bU:Nat}{t:bq->Option eJ}{ms:List bq}(a:rY X hj eb lb cF bU t ms a6 aJ)(Jf:lb<eb)(lY:cF<eb)(lu:eb<=bU)(aM:aJ<=bc)(aL:∀e,e<aJ->(e<eb\/bU<=e)->ab X aR e=ab X a6 e):rY X hj eb lb cF bU t ms aR bc:=by
 have gE:=a.le
 refine⟨Zo,a.map.ad (aL _ Zo Zo), ?_,λe T W au=>by rw[aL e Zo Zo];exact a.low e T W au⟩
 obtain⟨c,a8,cM,b5,cd,c0,el,fK⟩:=a.oz
 exact⟨c,a8,cM,by rw[aL _ Zo Zo];exact b5,cd,c0,el.ad (λe H=>by have:=fK e H;exact aL e Zo Zo),λe H=>zo (fK e H)⟩
def S4(az:dx X){P:Nat->Prop}{g:Go.aZ.Node}{row:List J}(aM:(q X).ba<=j)(bB:∀e,P e->e<j)(b0:oH X h P g row)(bs:(hl g).length<=300000):
 aW X 32 [.agg row] h j (λae U ar=>∃cF lb a8 b,ae= .ptr cF 0/\cW j ar cF/\cW j ar lb/\al X U (.ptr cF 0)=some (.map lb)/\oG X U lb (wg (hD g))/\al X U (.ptr cF 1)=some a8/\d1 X U (cW j ar) b a8 1 (ib (Nz g))/\bh X h j U ar) (λ_ _ _=>False):=by
 refine HV (ai5 X) (az.none _ _ rfl) ?_
 rw[ai6]
 unfold VX
 obtain⟨cY,df,a8,eR,cT,dL,et,ig,bF,rfl,lr,kg,nD,jX,ff⟩:=b0
 refine cS ⟨?_⟩
 refine fk (λa6=>ab X a6 j=zs [.str g.name, .Z g.at_,cY,df,a8,eR] 6
  /\ab X a6 (j+1)=some (.map [] 0)/\ab X a6 (j+1+1)=zs [.map (j+1), .aU] 2/\al X a6 (.ptr (j+1+1+1) 0)=some (.ptr (j+1+1) 0)/\bh X h j a6 (j+1+1+1+1)) ⟨by(first|assumption|(simp(disch:=omega) only[bi,aG]<;>rfl)|(simp(disch:=omega) only[bi,aG])),by(first|assumption|(simp(disch:=omega) only[bi,aG]<;>rfl)|(simp(disch:=omega) only[bi,aG])),by(first|assumption|(simp(disch:=omega) only[bi,aG]<;>rfl)|(simp(disch:=omega) only[bi,aG])),by rw[cg,bi Zo];rfl,dR⟩ ?_
 rintro a6 ⟨kb,b5,cd,c0,bT⟩
 refine(Lz az Zo).Zm ?_
 rintro ae aR bc ⟨rfl,rfl,bC,cC,d6,fU⟩
 have jb:bh X h j aR (j+1+1+1+1+1):=bT.trans bC
 have kH:∀e,P e->ab X aR e=ab X h e:=λe H=>jb.ad e (bB e H)
 rw[<-bC.ad _ Zo]at kb b5 cd
 rw[<-bC.f0 _ _ Zo]at c0
 generalize aqG:j+1+1+1+1+1=eb at*
 refine gX ?_
 refine LB (P:=P) (g:=g) (cT:=cT) (dL:=dL) (et:=et) (cY:=cY) (df:=df) (a8:=a8) az (λi U aV=>rY X aR eb (j+1) (j+1+1) (eb+2) (((hl g).take i).foldl xH (λ_=>none,[])).1 (((hl g).take i).foldl xH (λ_=>none,[])).2 U aV/\(((hl g).take i).foldl xH (λ_=>none,[])).2.length<=i) Zo Zo Zo Zo
  (lr.ad kH) (kg.ad kH) (nD.ad kH) cC d6 fU (λi U aV a=>⟨a.1.le,λe H=>a.1.low e (zo (bB e H)) (zo (bB e H)) (zo (bB e H))⟩)
  (λi a6 aJ aR bc a gE aL=>⟨a.1.ad Zo Zo Zo gE (λe T W=>aL e T Zo),a.2⟩)
  (λU bX=>⟨⟨Zl _,⟨[],0,by rw[bX.ad _ Zo];exact b5,λ_=>rfl⟩,⟨_, .aU,[],by rw[bX.ad _ Zo];exact cd,rfl,rfl, .inl (.inl ⟨rfl,rfl,rfl⟩),λe H=>by simp at H⟩,λe H _ _=>bX.ad e H⟩,Zs⟩) ?_ ?_
 ·intro mk i fb d a7 bd aN e8 mh iI
  rw[A0 xH _ aN]
  generalize ((hl g).take i).foldl xH (λ_=>none,[])=ca at e8 ⊢
  obtain⟨e8,fL⟩:=e8
  have azR:=(Zc.1 aN).1
  have gE:=e8.le
  have kf:eK d=[.str d.name, .Z d.at_, .bool d.ty.b, .bool d.ty.s, .Z d.ty.w, .str d.on, .Z d.fD, .bool d.no]:=rfl
  rw[kf]
  unfold sY
  refine cS ⟨?_⟩
  generalize eB:bo X _ bd _=bw
  have el:ab X bw bd=zs [.str d.name, .Z d.at_, .bool d.ty.b, .bool d.ty.s, .Z d.ty.w, .str d.on, .Z d.fD, .bool d.no] 8:=by rw[<-eB,bi Zo];rfl
  have d5:∀e,e<bd->ab X bw e=ab X a7 e:=λe H=>by rw[<-eB];exact zu
  clear eB
  refine⟨by rw[d5 _ Zo];exact iI, ?_⟩
  generalize jU:bo X bw (eb+1) _=bS
  have fK:ab X bS (eb+1)=some (mk .busy none):=by rw[<-jU,bi Zo]
  have er:∀e,e≠eb+1->ab X bS e=ab X bw e:=λe H=>by rw[<-jU,aG Zo H]
  clear jU
  have hx:=e8.ad (aR:=bS) (bc:=bd+1) Zo Zo Zo Zo (λe T W=>by rw[er e Zo,d5 e T])
  rw[<-er _ Zo]at el
  have uM:ab X bS eb=some (.deferred (some [])):=by rw[er _ Zo,d5 _ Zo];exact mh
  have et:al X bS (.ptr (j+1+1+1) 0)=some (.ptr (j+1+1) 0):=zz (hx.low _ Zo Zo Zo) c0
  obtain⟨ka,aBt,akV,eW,fv,hK,ow,ni⟩:=hx.oz
  have iJ:kJ X bS 9 (.agg [.Z 0, .str [], .Z 0, .bool false, .bool false, .Z 0, .str [], .Z 0, .bool false, .Z 0, .Z 0]) (.map (j+1)) (.str d.name) true=some (.tuple [.agg (oB ((ca.1 d.name).getD s5)), .bool (ca.1 d.name).isSome]):=by
   rw[DM hx.map];unfold wg;cases ca.1 d.name<;>rfl
  generalize Dx:(ca.1 d.name).getD s5=fp at iJ
  have qE:oB fp=[.Z fp.kind, .str fp.d.name, .Z fp.d.at_, .bool fp.d.ty.b, .bool fp.d.ty.s, .Z fp.d.ty.w, .str fp.d.on, .Z fp.d.fD, .bool fp.d.no, .Z fp.eq, .Z fp.left]:=rfl
  rw[qE]at iJ
  have h1:∀U aV (G:(bq->Option eJ)×List bq),rY X aR eb (j+1) (j+1+1) (eb+2) G.1 G.2 U aV->G.2.length<=i+1->ab X U eb=some (.deferred (some []))->(J.bool true=J.bool true/\(rY X aR eb (j+1) (j+1+1) (eb+2) G.1 G.2 (bo X U (eb+1) (some (mk .ready none))) aV/\G.2.length<=i+1)/\ab X (bo X U (eb+1) (some (mk .ready none))) eb=some (.deferred (some []))/\ab X (bo X U (eb+1) (some (mk .ready none))) (eb+1)=some (mk .ready none)):=λU aV G a aD W=>
   ⟨rfl,⟨a.ad Zo Zo Zo (Zl _) (λe T W=>aG Zo Zo),aD⟩,by rw[aG Zo Zo];exact W,bi Zo⟩
  refine yv ⟨?_⟩
  refine gX ?_
  refine fW @et (bR eW) @fv (bR el) @iJ ⟨?_⟩
  generalize gd:bo X _ (bd+1+10) _=b4
  have dK:∀e,e<bd+1->ab X b4 e=ab X bS e:=λe H=>by rw[<-gd];exact zu
  clear gd iJ
  have jc:rY X aR eb (j+1) (j+1+1) (eb+2) ca.1 ca.2 b4 (bd+1+13):=hx.ad Zo Zo Zo Zo (λe T W=>dK e T)
  rw[<-dK _ Zo]at el fK uM
  have CA:al X b4 (.ptr (j+1+1+1) 0)=some (.ptr (j+1+1) 0):=zz (dK _ Zo) et
  have aeo:ab X b4 (j+1+1)=some (.cells ka 2 .own):=by rw[dK _ Zo];exact eW
  cases aI:ca.1 d.name with
  |some afm=>
   have gm:xH ca (fb,d)=ca:=by unfold xH;rw[Zr (by simp[aI])]
   rw[gm]
   simp only[Z3]
   refine cS ⟨?_⟩
   exact⟨⟨.busy,none,fK⟩,h1 _ _ ca (jc.ad Zo Zo Zo Zo (λ_ _ _=>rfl)) Zo uM⟩
  |none=>
   have gm:xH ca (fb,d)=(λw=>if w=d.name then some ⟨fb,d, -1, -1⟩else ca.1 w,ca.2++[d.name]):=by unfold xH;rw[Zh (by simp[aI])]
   rw[gm]
   simp only[Z1]
   refine gl @CA (bR aeo) @fv (bR el) ⟨?_⟩
   generalize jT:bd+1+13+10=N
   obtain⟨cu,p0,FD,rt⟩:=Nw (j:=N) (show(q X).ba<=j+1 by omega) jc.map d.name (.agg (oB ⟨fb,d, -1, -1⟩))
   refine ky p0 ?_
   have WU:al X cu (.ptr (j+1+1+1) 0)=some (.ptr (j+1+1) 0):=zz (rt _ Zo) CA
   have aep:ab X cu (j+1+1)=some (.cells ka 2 .own):=by rw[rt _ Zo];exact aeo
   rw[<-rt _ Zo]at el fK uM
   refine gl @WU (bR aep) @hK (bR el) ⟨?_⟩
   generalize uV:bo X cu (N+7) _=d4
   have al5:ab X d4 (N+7)=zs [.str d.name] 1:=by rw[<-uV,bi Zo]
   have iM:∀e,e<N->ab X d4 e=ab X cu e:=λe H=>by rw[<-uV];exact zu
   clear uV p0
   obtain⟨fg,dM,gG,iv,ab6,aaR,qy⟩:=(ow.ad (U:=d4) (λe H=>by have:=ni e H;rw[iM e Zo,rt e Zo,dK e Zo])).append (j:=N+12) Zd (s2 al5 (og _) rfl _) rfl Zd rfl (by simp;omega) Zo (λe H=>zo (ni e H))
   refine ky iv ?_
   have hA:∀e,e<N->e∉akV->ab X dM e=ab X cu e:=λe H a=>by rw[qy e Zo a,iM e H]
   have akO:al X dM (.ptr (j+1+1+1) 0)=some (.ptr (j+1+1) 0):=zz (hA _ Zo (λa=>zo (ni _ a))) WU
   have av3:ab X dM (j+1+1)=some (.cells ka 2 .own):=by rw[hA _ Zo (λa=>zo (ni _ a))];exact aep
   refine ce @akO ⟨?_⟩
   refine gs (by simp[J.same]) ?_
   obtain⟨fJ,hp,uc⟩:=kC.one ab6
   refine fS (rK av3 Zo Zo fJ hp) ?_
   refine cS ⟨?_⟩
   generalize rq:bo X dM (j+1+1) _=hj
   have aer:ab X hj (j+1+1)=some (.cells (ka.set 1 (some fg)) 2 .own):=by rw[<-rq,bi Zo]
   have mo:∀e,e≠j+1+1->ab X hj e=ab X dM e:=λe H=>by rw[<-rq,aG Zo H]
   clear rq
   have eE:∀e,e<bd+1->(e<eb\/e=eb\/e=eb+1)->e≠j+1+1->e≠j+1->ab X hj e=ab X b4 e:=λe H T W au=>by
    rw[mo e W,hA e Zo (λa=>zo (ni _ a)),rt e au]
   refine⟨⟨.busy,none, ?_⟩,h1 _ _ (_,ca.2++[d.name]) ⟨Zo, ?_,⟨ka.set 1 (some fg),fg,gG,aer, ?_, ?_, ?_, ?_⟩, ?_⟩ (by simp;omega) ?_⟩
   ·rw[mo _ Zo,hA _ Zo (λa=>zo (ni _ a))];exact fK
   ·have:(λx=>if x=d.name then some (J.agg (oB ⟨fb,d, -1, -1⟩))else wg ca.1 x)=wg (λw=>if w=d.name then some ⟨fb,d, -1, -1⟩else ca.1 w):=by
     funext x;unfold wg;by_cases a:x=d.name<;>simp[a]
    rw[this]at FD
    exact FD.ad (by rw[mo _ Zo,hA _ Zo (λa=>zo (ni _ a))])
   ·rw[V.kc,Zh Zd];exact fv
   ·rw[V.kc,Zr rfl]
   ·rw[Yw]
    exact .inl (ab6.ad λe H=>mo e (by rcases aaR e H with rfl|a;omega;have:=ni _ a;omega))
   ·intro e H
    rcases aaR e H with rfl|a
    ·omega
    ·have:=ni _ a;omega
   ·intro e T W au
    rw[eE e Zo (.inl T) au W];exact jc.low e T W au
   ·rw[mo _ Zo,hA _ Zo (λa=>zo (ni _ a))];exact uM
 ·intro a7 bd e8 mh
  rw[YX]at e8
  obtain⟨e8,fL⟩:=e8
  change rY X aR eb (j+1) (j+1+1) (eb+2) (qQ g).1 (qQ g).2 a7 bd at e8
  change (qQ g).2.length<=_ at fL
  have anj:ab X a7 j=zs [.str g.name, .Z g.at_,cY,df,a8,eR] 6:=by rw[e8.low _ Zo Zo Zo];exact kb
  have mN:=ff.wide
  have ew:=jX.len
  have h7:=jX.many
  rw[mN.1]at ew h7
  refine c1 (bR anj) @ew ⟨?_⟩
  refine fC (λm M U aV=>∃(aa:Nat),M.g 3=some (.ptr (j+1+1+1) 0)/\M.g 54=some eR/\M.g 55=some (.Z (g.eqs.length:Int))/\M.g 56=some (.Z (aa:Int))/\M.bg=[⟨.collected eb,[]⟩]/\aa+m=g.eqs.length
   /\rY X aR eb (j+1) (j+1+1) (eb+2) ((g.eqs.zipIdx.take aa).foldl Kj (qQ g).1) (qQ g).2 U aV/\ab X U eb=some (.deferred (some [])))
   g.eqs.length ⟨0,bp,bp,bp,fQ,rfl,Zo,e8,mh⟩ ?_
  rintro m M bw db ⟨aa,t3,ko,qc,pw,kz,bL,nz,Il⟩
  have jd:=nz.le
  cases m with
  |zero=>
   have aF:=zp aa g.eqs.length
   have akM:al X bw (.ptr (j+1+1+1) 0)=some (.ptr (j+1+1) 0):=zz (nz.low _ Zo Zo Zo) c0
   refine fW @pw @qc @t3 @aF @akM ⟨?_⟩
   have Bg:(g.eqs.zipIdx.take aa).foldl Kj (qQ g).1=hD g:=by
    rw[ZB (by simp;omega)];rfl
   rw[Bg]at nz
   show nj X [.tmp 2] _ _ _ _ _
   simp only[rJ,kz]
   refine⟨by show(q X).ba<=eb;omega,Il, ?_⟩
   show qU _ _ _ _ _
   unfold qU
   refine cS ⟨?_⟩
   have hx:=nz.ad (aR:=bo X bw eb (some (.deferred none))) Zo Zo Zo (Zl _) (λe T W=>aG Zo Zo)
   obtain⟨c,s,cM,eW,fv,hK,ow,ni⟩:=hx.oz
   obtain⟨b,ai⟩:=ow.Kr (P:=cW j db) (by simp[Nz]at fL ⊢;omega) (λe H=>by have:=ni e H;exact⟨Zo,Zo⟩)
   refine⟨j+1+1,j+1,s,b,rfl,⟨Zo,Zo⟩,⟨Zo,Zo⟩,by rw[bR eW];exact fv,hx.map,by rw[bR eW];exact hK, ?_,Zo,λe H=> ?_⟩
   ·have:ib (Nz g)=((qQ g).2.map J.str).map λv=>[v]:=by unfold ib Nz;rw[YA];rfl
    rw[this];exact ai
   ·rw[hx.low e Zo Zo Zo];exact jb.ad e H
  |succ m=>
   have aF:=zq aa g.eqs.length
   have bH:=zt aa
   obtain⟨ao,b6⟩:=zr g.eqs aa
   obtain⟨row,ft,vi⟩:=ff.get aa ao b6
   have la:∀e,P e->ab X bw e=ab X h e:=λe H=>by have:=bB e H;rw[nz.low e Zo Zo Zo,kH e H]
   have dQ:=jX.e9 aa (by rw[mN.1];omega)
   have hS:=(jX.ad la).row Zd ft
   obtain⟨l3,nM,dy,dZ,l4,rfl,hz,lV,mM,o5⟩:=vi
   have tQ:=jt hz.len
   have aAE:=jt lV.len
   have Bm:=hz.len
   have yS:=hz.many
   rw[show(ib ao.left).length=ao.left.length from by simp[ib]]at Bm yS
   have dp:=A0 Kj (qQ g).1 (Ue b6)
   rw[show(ao,aa)=(ao,aa) from rfl]at dp
   generalize ao8:(g.eqs.zipIdx.take aa).foldl Kj (qQ g).1=Oj at nz dp
   refine iu @pw @qc @ko @aF @dQ @hS ⟨?_⟩
   refine fS (im (F:=4) (b:=db) (Y:=0) (n:=4) (c:=V.ofList [.aU, .aU, .Z 0, .cy] 0 .nil) (bi Zo) Zo rfl Zd Zd o5) ?_
   generalize jU:bo X _ db _=bS
   have fK:al X bS (.ptr db 0)=some l3:=by rw[<-jU,cg,bi Zo];rfl
   have er:∀e,e<db->ab X bS e=ab X bw e:=λe H=>by rw[<-jU];exact zu
   clear jU
   have hx:rY X aR eb (j+1) (j+1+1) (eb+2) Oj (qQ g).2 bS (db+1):=nz.ad Zo Zo Zo Zo (λe T W=>er e T)
   rw[<-er _ Zo]at Il
   refine c1 @fK @Bm ⟨?_⟩
   refine fC (λgr M U aV=>∃(i:Nat),M.g 3=some (.ptr (j+1+1+1) 0)/\M.g 54=some eR/\M.g 55=some (.Z (g.eqs.length:Int))/\M.g 56=some (.Z (aa:Int))/\M.bg=[⟨.collected eb,[]⟩]/\M.g 8=some (.Z (aa:Int))/\M.g 62=some l3/\M.g 63=some (.Z (ao.left.length:Int))/\M.g 64=some (.Z (i:Int))/\i+gr=ao.left.length
    /\rY X aR eb (j+1) (j+1+1) (eb+2) ((ao.left.zipIdx.take i).foldl (xI aa) Oj) (qQ g).2 U aV/\ab X U eb=some (.deferred (some [])))
    ao.left.length ⟨0,aQ t3,aQ ko,aQ qc,aQ pw,kz,bp,bp,bp,fQ,Zo,hx,Il⟩ ?_
   rintro gr c8 b4 dH ⟨i,t3,ko,qc,pw,kz,gA,Of,Ce,iA,aN,jc,sf⟩
   have pY:=jc.le
   cases gr with
   |zero=>
    have aF:=zp i ao.left.length
    refine fW @iA @Ce @pw @aF @bH ⟨?_⟩
    rw[ZB (by simp;omega)]at jc
    refine⟨m,Zo,aa+1,aQ t3,aQ ko,aQ qc,bp,kz,Zo, ?_,sf⟩
    rw[dp]
    exact jc
   |succ gr=>
    have aF:=zq i ao.left.length
    have cP:=zt i
    obtain⟨w,bI⟩:=zr ao.left i
    have qJ:∀e,P e->ab X b4 e=ab X h e:=λe H=>by have:=bB e H;rw[jc.low e Zo Zo Zo,kH e H]
    have o2:=hz.e9 i (by simp[ib];omega)
    have gW:=(hz.ad qJ).cell i [.str w] 0 (.str w) (by unfold ib;rw[Zt,bI];rfl) rfl
    rw[Yh]at o2
    rw[Yh,ZT]at gW
    have Bt:=A0 (xI aa) Oj (Ue bI)
    generalize ao7:(ao.left.zipIdx.take i).foldl (xI aa) Oj=oA at jc Bt
    have CA:al X b4 (.ptr (j+1+1+1) 0)=some (.ptr (j+1+1) 0):=zz (jc.low _ Zo Zo Zo) c0
    obtain⟨ux,aBu,azf,eW,fv,hK,ow,ni⟩:=jc.oz
    have iJ:kJ X b4 9 (.agg [.Z 0, .str [], .Z 0, .bool false, .bool false, .Z 0, .str [], .Z 0, .bool false, .Z 0, .Z 0]) (.map (j+1)) (.str w) true=some (.tuple [.agg (oB ((oA w).getD s5)), .bool (oA w).isSome]):=by
     rw[DM jc.map];unfold wg;cases oA w<;>rfl
    generalize Dx:(oA w).getD s5=fp at iJ
    have qE:oB fp=[.Z fp.kind, .str fp.d.name, .Z fp.d.at_, .bool fp.d.ty.b, .bool fp.d.ty.s, .Z fp.d.ty.w, .str fp.d.on, .Z fp.d.fD, .bool fp.d.no, .Z fp.eq, .Z fp.left]:=rfl
    rw[qE]at iJ
    refine eu @iA @Ce @Of @t3 @aF @o2 (Za @gW (Za @CA (Za (bR eW) (Za @fv @iJ)))) ⟨?_⟩
    generalize ku:bo X _ dH _=cu
    have eQ:ab X cu dH=zs [.Z fp.kind, .str fp.d.name, .Z fp.d.at_, .bool fp.d.ty.b, .bool fp.d.ty.s, .Z fp.d.ty.w, .str fp.d.on, .Z fp.d.fD, .bool fp.d.no, .Z fp.eq, .Z fp.left] 11:=by rw[<-ku,bi Zo];rfl
    have fR:∀e,e<dH->ab X cu e=ab X b4 e:=λe H=>by rw[<-ku];exact zu
    clear ku
    have oX:rY X aR eb (j+1) (j+1+1) (eb+2) oA (qQ g).2 cu (dH+1):=jc.ad Zo Zo Zo Zo (λe T W=>fR e T)
    rw[<-fR _ Zo]at sf
    cases aI:oA w with
    |none=>
     have gm:xI aa oA (w,i)=oA:=by unfold xI;simp only[aI]
     simp only[Z1]
     refine c1 @iA @cP ⟨?_⟩
     exact⟨gr,Zo,i+1,aQ t3,aQ ko,aQ qc,aQ pw,kz,aQ gA,aQ Of,aQ Ce,bp,Zo,by rw[Bt,gm];exact oX,sf⟩
    |some v=>
     have ar6:v=fp:=by rw[aI]at Dx;exact Dx
     subst ar6
     simp only[Z3]
     by_cases MR:v.eq<0
     ·have cQ:decide (v.eq<0)=true:=by simp[MR]
      have gm:xI aa oA (w,i)=λx=>if x=w then some ⟨v.kind,v.d,aa,i⟩else oA x:=by unfold xI;simp only[aI,MR,ZD]
      refine gl (bR eQ) @cQ @gA @iA ⟨?_⟩
      generalize uV:bo X (bo X cu dH _) dH _=d4
      have h4:ab X d4 dH=zs [.Z v.kind, .str v.d.name, .Z v.d.at_, .bool v.d.ty.b, .bool v.d.ty.s, .Z v.d.ty.w, .str v.d.on, .Z v.d.fD, .bool v.d.no, .Z aa, .Z i] 11:=by rw[<-uV,bi Zo];rfl
      have iM:∀e,e≠dH->ab X d4 e=ab X cu e:=λe H=>by rw[<-uV,aG Zo H,aG Zo H]
      clear uV eQ
      have k0:rY X aR eb (j+1) (j+1+1) (eb+2) oA (qQ g).2 d4 (dH+1):=⟨oX.le,oX.map.ad (iM _ Zo),by
       obtain⟨c,s,cM,cL,cC,d6,fU,lC⟩:=jc.oz
       exact⟨c,s,cM,by rw[iM _ Zo,fR _ Zo];exact cL,cC,d6,fU.ad (λe H=>by have:=lC e H;rw[iM e Zo,fR e Zo]),λe H=>zo (lC e H)⟩,
       λe T W au=>by rw[iM e Zo];exact oX.low e T W au⟩
      have akN:al X d4 (.ptr (j+1+1+1) 0)=some (.ptr (j+1+1) 0):=by rw[cg,iM _ Zo,fR _ Zo, <-cg];exact CA
      have av2:ab X d4 (j+1+1)=some (.cells ux 2 .own):=by rw[iM _ Zo,fR _ Zo];exact eW
      refine fW @t3 @akN (bR av2) @fv (bR h4) ⟨?_⟩
      obtain⟨dM,p0,aoU,qy⟩:=Nw (j:=dH+1+7) (show(q X).ba<=j+1 by omega) k0.map w (.agg (oB ⟨v.kind,v.d,aa,i⟩))
      refine ky p0 ?_
      refine c1 @iA @cP ⟨?_⟩
      refine⟨gr,Zo,i+1,aQ t3,aQ ko,aQ qc,aQ pw,kz,aQ gA,aQ Of,aQ Ce,bp,Zo, ?_,by rw[qy _ Zo,iM _ Zo];exact sf⟩
      rw[Bt,gm]
      refine⟨Zo, ?_, ?_,λe T W au=>by rw[qy e W];exact k0.low e T W au⟩
      ·have:(λx=>if x=w then some (J.agg (oB ⟨v.kind,v.d,aa,i⟩))else wg oA x)=wg (λx=>if x=w then some ⟨v.kind,v.d,aa,i⟩else oA x):=by
        funext x;unfold wg;by_cases a:x=w<;>simp[a]
       rw[<-this];exact aoU
      ·obtain⟨c,s,cM,cL,cC,d6,fU,lC⟩:=k0.oz
       exact⟨c,s,cM,by rw[qy _ Zo];exact cL,cC,d6,fU.ad (λe H=>by have:=lC e H;exact qy e Zo),λe H=>zo (lC e H)⟩
     ·have cQ:decide (v.eq<0)=false:=by simp[MR]
      have gm:xI aa oA (w,i)=oA:=by unfold xI;simp only[aI,MR,ZA]
      refine gl (bR eQ) @cQ @iA @cP ⟨?_⟩
      exact⟨gr,Zo,i+1,aQ t3,aQ ko,aQ qc,aQ pw,kz,aQ gA,aQ Of,aQ Ce,bp,Zo,by rw[Bt,gm];exact oX,sf⟩
end
end
end Go.Proofs.YtpfajohmofnkfaaGreatDoor

namespace Go.aZ
structure g8 where
 N:bq->Prop
 EL:dJ->Prop
 L:dJ->Int->Prop
 ba:∀s,N s->s≠[]
 cF:EL ⟨true,false,1⟩
 fY:L ⟨true,false,1⟩ 0
 en:L ⟨true,false,1⟩ 1
 lt:∀t n,L t n->EL t
 A:Int->Prop
 a0:A 0
structure Cv(bn:g8)(x:Tok):Prop where
 name:x.kind=1->bn.N x.text
 type:x.kind=3->bn.EL x.ty
 num:x.kind=4->0<=x.n
 lit:x.kind=5->bn.L x.ty x.n
 pos:x.kind≠7->bn.A x.at_
def g0(bn:g8)(l:List Tok):Prop:=∀x∈l,Cv bn x
def g0.px{bn:g8}{x:Tok}{l:List Tok}(a:g0 bn (x::l)):g0 bn l:=λe H=>a e (Zu _ H)
def g0.aO{bn:g8}{x:Tok}{l:List Tok}(a:g0 bn (x::l)):Cv bn x:=a x (Zv ..)
def r5(F:Int):Option Nat:=if F=25 then none else if F=1\/F=2 then some 0 else if F=3\/F=4\/F=5\/F=6\/F=19\/F=20\/F=26 then some 1 else if F=23 then some 3 else some 2
def tI(F:Int):Prop:=F=2\/F=6\/F=24\/F=25
def tJ(F:Int):Prop:=F=1\/F=26
structure tb(bn:g8)(I:bG):Prop where
 ap:bn.A I.at_
 bY:1<=I.kind
 cx:I.kind<=26
 re:∀m,r5 I.kind=some m->I.args.length=m
 nm:tI I.kind->bn.N I.name
 NC:¬tI I.kind->I.name=[]
 no:I.no=true->I.kind=6
 ty:tJ I.kind->bn.EL I.ty
 dU:¬tJ I.kind->I.ty=dU
 adH:I.kind=1->bn.L I.ty I.n
 ms:I.kind=19\/I.kind=20->0<=I.n/\I.n<=63
 ba:I.kind≠1->I.kind≠19->I.kind≠20->I.n=0
 wV:I.kind=21->∃l r,I.args=[l,r]/\(l.kind=1\/l.kind=4/\∃x,l.args=[x]/\x.kind=1)
mutual
def e4(bn:g8):bG->Prop
 | .mk F K nm no ty n args=>tb bn (.mk F K nm no ty n args)/\f8 bn args
def f8(bn:g8):List bG->Prop
 |[]=>True
 |I::l=>e4 bn I/\f8 bn l
end
def e4.eq{bn:g8}(I:bG):e4 bn I=(tb bn I/\f8 bn I.args):=by cases I;rw[e4];rfl
def f8.cons{bn:g8}{I:bG}{l:List bG}(a:e4 bn I)(F:f8 bn l):f8 bn (I::l):=by rw[f8];exact⟨a,F⟩
def f8.nil{bn:g8}:f8 bn []:=by rw[f8];trivial
def f8.app{bn:g8}{I:bG}(a:e4 bn I):∀{l:List bG},f8 bn l->f8 bn (l++[I]):=by
 intro l
 induction l with
 |nil=>intro _;exact f8.cons a f8.nil
 |cons K l am=>intro F;rw[f8]at F;exact f8.cons F.1 (am F.2)
def dC(bn:g8){α:Type}(bv:α->Prop)(x:gf α):Prop:=∀K ci,x=some (.ok (K,ci))->g0 bn ci/\bv K
section
variable{bn:g8}{α eP:Type}
def dC.none{bv:α->Prop}:dC bn bv none:=λ_ _ a=>by cases a
def dC.ok{bv:α->Prop}{K:α}{l:List Tok}(a:g0 bn l)(ao:bv K):dC bn bv (aZ.ok K l):=λf3 ci I=>by cases I;exact⟨a,ao⟩
def dC.bad{bv:α->Prop}(K:Int):dC bn bv (aZ.bad K:gf α):=λf3 ci I=>by cases I
def dC.andThen{bv:α->Prop}{q5:eP->Prop}{x:gf α}{f:α->List Tok->gf eP}(a:dC bn bv x)(F:∀K ci,g0 bn ci->bv K->dC bn q5 (f K ci)):dC bn q5 (aZ.andThen x f):=by
 unfold aZ.andThen
 split
 ·exact dC.none
 ·exact λ_ _ I=>by cases I
 ·rename_i K l
  obtain⟨T,W⟩:=a K l rfl
  exact F K l T W
def Cv.g5{x:Tok}{s:bq}(a:Cv bn x)(aI:g5 x s=true):bn.A x.at_:=a.pos λI=>by simp[aZ.g5,I]at aI
def nS{s:bq}{l:List Tok}(a:g0 bn l):dC bn (λx:Tok=>bn.A x.at_) (eO s l):=by
 cases l with
 |nil=>exact dC.none
 |cons x l=>
  simp only[eO]
  split
  ·rename_i aI;exact dC.ok a.px (a.aO.g5 aI)
  ·exact dC.bad _
def vx{F:Int}{l:List Tok}(a:g0 bn l):dC bn (λx:Tok=>Cv bn x/\x.kind=F) (iO F l):=by
 cases l with
 |nil=>exact dC.none
 |cons x l=>
  simp only[iO]
  split
  ·rename_i aI;exact dC.ok a.px ⟨a.aO,aI⟩
  ·exact dC.bad _
def qe{s:bq}{l:List Tok}{f:Option Tok->List Tok->gf eP}{bv:eP->Prop}(a:g0 bn l)(T:∀x ci,bn.A x.at_->g0 bn ci->dC bn bv (f (some x) ci))(W:dC bn bv (f none l)):dC bn bv (io s l f):=by
 cases l with
 |nil=>exact dC.none
 |cons x l=>
  unfold io l6
  by_cases aI:g5 x s=true
  ·simp only[aI,ZD];exact T x l (a.aO.g5 aI) a.px
  ·simp only[aI,ZA];exact W
def Le{l:List Tok}(a:g0 bn l):∀(os:List (bq×Int)) I ci,oP os l=some (I,ci)->g0 bn ci/\∀x,I=some x->∃Y∈os,∃K,bn.A K/\x= .mk Y.2 K [] false dU 0 []:=by
 intro os
 induction os with
 |nil=>intro I ci bA;cases bA;exact⟨a,λx ah=>by cases ah⟩
 |cons Y os am=>
  obtain⟨s,F⟩:=Y
  intro I ci bA
  cases l with
  |nil=>simp[oP,l6]at bA
  |cons x l=>
   unfold oP l6 at bA
   by_cases aI:g5 x s=true
   ·simp only[aI,ZD]at bA
    cases bA
    exact⟨a.px,λe H=>by cases H;exact⟨_,Zv ..,_,a.aO.g5 aI,rfl⟩⟩
   ·simp only[aI,ZA]at bA
    obtain⟨T,W⟩:=am I ci bA
    exact⟨T,λe H=>by obtain⟨Y,bl,K,aE⟩:=W e H;exact⟨Y,Zu _ bl,K,aE⟩⟩
def afx{F K:Int}{x e:bG}(aL:7<=F/\F<=18\/F=22)(ah:e4 bn x)(H:e4 bn e)(aE:bn.A K):e4 bn (.mk F K [] false dU 0 [x,e]):=by
 rw[e4.eq]
 refine⟨⟨aE,by simp only[bG.kind];omega,by simp only[bG.kind];omega, ?_, ?_,λ_=>rfl,(λa=>absurd a (by simp[bG.no])), ?_,λ_=>rfl, ?_, ?_,λ_ _ _=>rfl, ?_⟩,f8.cons ah (f8.cons H f8.nil)⟩
 ·intro m bs
  have ve:r5 F=some m:=bs
  unfold r5 at ve
  rw[Zh Zo,Zh Zo,Zh Zo,Zh Zo]at ve
  cases ve;rfl
 ·intro a;simp only[tI,bG.kind]at a;omega
 ·intro a;simp only[tJ,bG.kind]at a;omega
 ·intro a;simp only[bG.kind]at a;omega
 ·intro a;simp only[bG.kind]at a;omega
 ·intro a;simp only[bG.kind]at a;omega
def KK{F K n:Int}{nm:bq}{no:Bool}{ty:dJ}{x:bG}(aL:F=3\/F=4\/F=5\/F=6\/F=19\/F=20\/F=26)(h8:F=6->bn.N nm)(gP:F≠6->nm=[]/\no=false)(bb:F=26->bn.EL ty)(R7:F≠26->ty=dU)(aM:F=19\/F=20->0<=n/\n<=63)(aqJ:F≠19->F≠20->n=0)(ah:e4 bn x)(aE:bn.A K):e4 bn (.mk F K nm no ty n [x]):=by
 rw[e4.eq]
 refine⟨⟨aE,by simp only[bG.kind];omega,by simp only[bG.kind];omega, ?_, ?_, ?_, ?_, ?_, ?_, ?_,aM, ?_, ?_⟩,f8.cons ah f8.nil⟩
 ·intro m bs
  have ve:r5 F=some m:=bs
  unfold r5 at ve
  rw[Zh Zo,Zh Zo,Zr aL]at ve
  cases ve;rfl
 ·intro a;simp only[tI,bG.kind]at a;exact h8 Zo
 ·intro a;simp only[tI,bG.kind]at a;exact(gP Zo).1
 ·intro a
  by_cases cr:F=6
  ·exact cr
  ·have cz:no=true:=a
   rw[(gP cr).2]at cz;cases cz
 ·intro a;simp only[tJ,bG.kind]at a;exact bb Zo
 ·intro a;simp only[tJ,bG.kind]at a;exact R7 Zo
 ·intro a;simp only[bG.kind]at a;omega
 ·intro T W au;exact aqJ W au
 ·intro a;simp only[bG.kind]at a;omega
def afw{K n:Int}{ty:dJ}(a:bn.L ty n)(aE:bn.A K):e4 bn (.mk 1 K [] false ty n []):=by
 rw[e4.eq]
 exact⟨⟨aE,by simp[bG.kind],by simp[bG.kind],λm bs=>by simp[r5,bG.kind]at bs;simp[bG.args, <-bs],λa=>by simp[tI,bG.kind]at a,λ_=>rfl,(λa=>absurd a (by simp[bG.no])),λ_=>bn.lt _ _ a,λa=>by simp[tJ,bG.kind]at a,λ_=>a,λa=>by simp[bG.kind]at a,λa=>by simp[bG.kind]at a,λa=>by simp[bG.kind]at a⟩,f8.nil⟩
def ayP{K:Int}{nm:bq}(a:bn.N nm)(aE:bn.A K):e4 bn (.mk 2 K nm false dU 0 []):=by
 rw[e4.eq]
 exact⟨⟨aE,by simp[bG.kind],by simp[bG.kind],λm bs=>by simp[r5,bG.kind]at bs;simp[bG.args, <-bs],λ_=>a,λa=>by simp[tI,bG.kind]at a,(λa=>absurd a (by simp[bG.no])),λa=>by simp[tJ,bG.kind]at a,λ_=>rfl,λa=>by simp[bG.kind]at a,λa=>by simp[bG.kind]at a,λ_ _ _=>rfl,λa=>by simp[bG.kind]at a⟩,f8.nil⟩
def ayL{K:Int}{nm:bq}{cv:List bG}(a:bn.N nm)(F:f8 bn cv)(aE:bn.A K):e4 bn (.mk 25 K nm false dU 0 cv):=by
 rw[e4.eq]
 exact⟨⟨aE,by simp[bG.kind],by simp[bG.kind],λm bs=>by simp[r5,bG.kind]at bs,λ_=>a,λa=>by simp[tI,bG.kind]at a,(λa=>absurd a (by simp[bG.no])),λa=>by simp[tJ,bG.kind]at a,λ_=>rfl,λa=>by simp[bG.kind]at a,λa=>by simp[bG.kind]at a,λ_ _ _=>rfl,λa=>by simp[bG.kind]at a⟩,F⟩
def ayN{K:Int}{x e bu:bG}(ah:e4 bn x)(H:e4 bn e)(cw:e4 bn bu)(aE:bn.A K):e4 bn (.mk 23 K [] false dU 0 [x,e,bu]):=by
 rw[e4.eq]
 exact⟨⟨aE,by simp[bG.kind],by simp[bG.kind],λm bs=>by simp[r5,bG.kind]at bs;simp[bG.args, <-bs],λa=>by simp[tI,bG.kind]at a,λ_=>rfl,(λa=>absurd a (by simp[bG.no])),λa=>by simp[tJ,bG.kind]at a,λ_=>rfl,λa=>by simp[bG.kind]at a,λa=>by simp[bG.kind]at a,λ_ _ _=>rfl,λa=>by simp[bG.kind]at a⟩,f8.cons ah (f8.cons H (f8.cons cw f8.nil))⟩
def ayO{K:Int}{nm:bq}{x e:bG}(a:bn.N nm)(ah:e4 bn x)(H:e4 bn e)(aE:bn.A K):e4 bn (.mk 24 K nm false dU 0 [x,e]):=by
 rw[e4.eq]
 exact⟨⟨aE,by simp[bG.kind],by simp[bG.kind],λm bs=>by simp[r5,bG.kind]at bs;simp[bG.args, <-bs],λ_=>a,λa=>by simp[tI,bG.kind]at a,(λa=>absurd a (by simp[bG.no])),λa=>by simp[tJ,bG.kind]at a,λ_=>rfl,λa=>by simp[bG.kind]at a,λa=>by simp[bG.kind]at a,λ_ _ _=>rfl,λa=>by simp[bG.kind]at a⟩,f8.cons ah (f8.cons H f8.nil)⟩
def ayM{K:Int}{x e:bG}(a:t7 x=some true)(ah:e4 bn x)(H:e4 bn e)(aE:bn.A K):e4 bn (.mk 21 K [] false dU 0 [x,e]):=by
 rw[e4.eq]
 refine⟨⟨aE,by simp[bG.kind],by simp[bG.kind],λm bs=>by simp[r5,bG.kind]at bs;simp[bG.args, <-bs],λa=>by simp[tI,bG.kind]at a,λ_=>rfl,(λa=>absurd a (by simp[bG.no])),λa=>by simp[tJ,bG.kind]at a,λ_=>rfl,λa=>by simp[bG.kind]at a,λa=>by simp[bG.kind]at a,λ_ _ _=>rfl,λ_=>⟨x,e,rfl, ?_⟩⟩,f8.cons ah (f8.cons H f8.nil)⟩
 unfold t7 at a
 split at a
 ·rename_i T;exact .inl T
 ·split at a
  ·rename_i T aP
   refine .inr ⟨aP, ?_⟩
   have qF:=ah
   rw[e4.eq]at qF
   have aD:=qF.1.re 1 (by rw[aP];rfl)
   cases aE:x.args with
   |nil=>rw[aE]at aD;cases aD
   |cons b l=>
    rw[aE]at aD a
    cases l with
    |nil=>exact⟨b,rfl,by simpa using a⟩
    |cons c l=>simp at aD
  ·cases a
def avd:∀(F:Nat) (Y:bq×Int),Y∈ax F->7<=Y.2/\Y.2<=18:=by
 intro F Y a
 match F with
 |0=>simp[ax]at a;rcases a with rfl|rfl<;>decide
 |1=>simp[ax]at a;subst a;decide
 |2=>simp[ax]at a;rcases a with rfl|rfl|rfl|rfl|rfl|rfl<;>decide
 |3=>simp[ax]at a;rcases a with rfl|rfl<;>decide
 |4=>simp[ax]at a;subst a;decide
 |n+5=>simp[ax]at a
def avI(Y:bq×Int)(a:Y∈Ae):Y.2=3\/Y.2=4\/Y.2=5:=by
 simp[Ae]at a;rcases a with rfl|rfl|rfl<;>simp
end
end Go.aZ

namespace Go.aZ
structure afS(bn:g8)(n:Nat):Prop where
 level:∀F l,g0 bn l->dC bn (e4 bn) (level n F l)
 pi:∀F I l,g0 bn l->e4 bn I->dC bn (e4 bn) (pi n F I l)
 shift:∀l,g0 bn l->dC bn (e4 bn) (shift n l)
 pu:∀I l,g0 bn l->e4 bn I->dC bn (e4 bn) (pu n I l)
 pv:∀F x I l,F=19\/F=20->bn.A x.at_->g0 bn l->e4 bn I->dC bn (e4 bn) (pv n F x I l)
 ud:∀l,g0 bn l->dC bn (e4 bn) (xK n l)
 nq:∀I l,g0 bn l->e4 bn I->dC bn (e4 bn) (nq n I l)
 part:∀l,g0 bn l->dC bn (e4 bn) (part n l)
 list:∀l,g0 bn l->dC bn (f8 bn) (list n l)
 pj:∀cv l,g0 bn l->f8 bn cv->dC bn (f8 bn) (pj n cv l)
 lS:∀l,g0 bn l->dC bn (e4 bn) (lS n l)
 arrow:∀l,g0 bn l->dC bn (e4 bn) (arrow n l)
def akn(bn:g8):∀n,afS bn n:=by
 intro n
 induction n with
 |zero=>constructor<;>intros<;>exact dC.none
 |succ n am=>
  constructor
  case level=>
   intro F l aD
   rw[level]
   split
   ·exact am.shift l aD
   ·exact(am.level (F+1) l aD).andThen λI ci T W=>am.pi F I ci T W
  case pi=>
   intro F I l aD bA
   rw[pi]
   split
   ·exact dC.none
   ·rename_i ci ai
    exact dC.ok (Le aD _ _ _ ai).1 bA
   ·rename_i x ci ai
    obtain⟨T,W⟩:=Le aD _ _ _ ai
    obtain⟨Y,bl,K,aE,rfl⟩:=W _ rfl
    have aL:=avd _ _ bl
    refine(am.level (F+1) ci T).andThen λr c5 bY cx=> ?_
    have bb:e4 bn (two (.mk Y.2 K [] false dU 0 []) I r):=afx (F:=Y.2) (.inl aL) bA cx aE
    split
    ·exact dC.ok bY bb
    ·exact am.pi F _ c5 bY bb
  case shift=>
   intro l aD
   rw[shift]
   exact(am.ud l aD).andThen λI ci T W=>am.pu I ci T W
  case pu=>
   intro I l aD bA
   rw[pu]
   refine qe aD (λx ci aE T=>am.pv 19 x I ci (.inl rfl) aE T bA) ?_
   exact qe aD (λx ci aE T=>am.pv 20 x I ci (.inr rfl) aE T bA) (dC.ok aD bA)
  case pv=>
   intro F x I l aL aE aD bA
   rw[pv]
   refine(vx aD).andThen λm ci T W=> ?_
   split
   ·exact dC.bad _
   ·rename_i azw
    have ch:=W.1.num W.2
    exact am.pu _ ci T (KK Zo (λa=>Zo) (λ_=>⟨rfl,rfl⟩) (λa=>Zo) (λ_=>rfl) (λ_=>⟨ch,Zo⟩) (λT W=>Zo) bA aE)
  case ud=>
   intro l aD
   rw[xK]
   split
   ·exact dC.none
   ·rename_i x ci ai
    obtain⟨T,W⟩:=Le aD _ _ _ ai
    obtain⟨Y,bl,K,aE,rfl⟩:=W _ rfl
    have aL:=avI _ bl
    refine(am.ud ci T).andThen λI c5 bY cx=>dC.ok bY ?_
    exact KK (F:=Y.2) Zo (λa=>Zo) (λ_=>⟨rfl,rfl⟩) (λa=>Zo) (λ_=>rfl) (λa=>Zo) (λ_ _=>rfl) cx aE
   ·rename_i ci ai
    exact(am.part ci (Le aD _ _ _ ai).1).andThen λI c5 bY cx=>am.nq I c5 bY cx
  case nq=>
   intro I l aD bA
   rw[nq]
   refine qe aD (λx ci aE T=> ?_) (dC.ok aD bA)
   refine qe T (λe c5 _ bY=> ?_) ?_
   ·refine(vx bY).andThen λm eV fc f1=> ?_
    exact am.nq _ eV fc (KK Zo (λ_=>f1.1.name f1.2) (λa=>absurd rfl a) (λa=>Zo) (λ_=>rfl) (λa=>Zo) (λ_ _=>rfl) bA aE)
   ·refine(vx T).andThen λm eV fc f1=> ?_
    exact am.nq _ eV fc (KK Zo (λ_=>f1.1.name f1.2) (λa=>absurd rfl a) (λa=>Zo) (λ_=>rfl) (λa=>Zo) (λ_ _=>rfl) bA aE)
  case list=>
   intro l aD
   rw[list]
   refine qe aD (λx ci _ T=>dC.ok T f8.nil) ?_
   exact(am.arrow l aD).andThen λI c5 bY cx=>am.pj _ c5 bY (f8.cons cx f8.nil)
  case pj=>
   intro cv l aD aE
   rw[pj]
   refine qe aD (λx ci _ T=> ?_) ?_
   ·exact(am.arrow ci T).andThen λI c5 bY cx=>am.pj _ c5 bY (f8.app cx aE)
   ·exact(nS aD).andThen λ_ ci T _=>dC.ok T aE
  case lS=>
   intro l aD
   rw[lS]
   refine(am.level 0 l aD).andThen λI c5 bY cx=> ?_
   refine qe bY (λx ci aE T=> ?_) (dC.ok bY cx)
   simp only[]
   split
   ·exact dC.none
   ·rename_i Bh
    exact(am.lS ci T).andThen λr eV fc f1=>dC.ok fc (ayM Bh cx f1 aE)
   ·exact dC.bad _
  case arrow=>
   intro l aD
   rw[arrow]
   refine(am.lS l aD).andThen λI c5 bY cx=> ?_
   refine qe bY (λx ci aE T=> ?_) (dC.ok bY cx)
   exact(am.arrow ci T).andThen λr eV fc f1=>dC.ok fc (afx (.inr rfl) cx f1 aE)
  case part=>
   intro l aD
   cases l with
   |nil=>rw[part];exact dC.none
   |cons x l=>
   have ah:=aD.aO
   have hy:=aD.px
   rw[part]
   by_cases ka:x.kind=5
   ·rw[Zr ka]
    exact dC.ok hy (afw (ah.lit ka) (ah.pos (by rw[ka];decide)))
   rw[Zh ka]
   split
   ·rename_i W
    refine dC.ok hy (afw ?_ (ah.pos λI=>by simp[I]at W))
    split
    ·exact bn.en
    ·exact bn.fY
   by_cases dy:x.kind=1
   ·rw[Zr dy]
    refine qe hy (λe c5 _ T=> ?_) (dC.ok hy (ayP (ah.name dy) (ah.pos (by rw[dy];decide))))
    exact(am.list c5 T).andThen λcv eV fc f1=>dC.ok fc (ayL (ah.name dy) f1 (ah.pos (by rw[dy];decide)))
   rw[Zh dy]
   by_cases hk:x.kind=3
   ·rw[Zr hk]
    refine(nS hy).andThen λ_ c5 T _=> ?_
    refine(am.arrow c5 T).andThen λI eV fc f1=> ?_
    refine(nS fc).andThen λ_ g2 fJ _=> ?_
    exact dC.ok fJ (KK Zo (λa=>Zo) (λ_=>⟨rfl,rfl⟩) (λ_=>ah.type hk) (λa=>absurd rfl a) (λa=>Zo) (λ_ _=>rfl) f1 (ah.pos (by rw[hk];decide)))
   rw[Zh hk]
   split
   ·refine(am.arrow l hy).andThen λI eV fc f1=> ?_
    refine(nS fc).andThen λ_ g2 fJ _=> ?_
    exact dC.ok fJ f1
   split
   ·rename_i W
    refine(am.arrow l hy).andThen λI eV fc f1=> ?_
    refine(nS fc).andThen λ_ g2 fJ _=> ?_
    refine(am.arrow g2 fJ).andThen λcP gM cL cC=> ?_
    refine(nS cL).andThen λ_ mQ eW _=> ?_
    refine(am.arrow mQ eW).andThen λfH mr j5 kQ=> ?_
    exact dC.ok j5 (ayN f1 cC kQ (ah.pos λI=>by simp[I]at W))
   split
   ·rename_i W
    refine(vx hy).andThen λc c5 T aB=> ?_
    refine(am.part c5 T).andThen λI eV fc f1=> ?_
    refine(am.part eV fc).andThen λcP g2 fJ hp=> ?_
    exact dC.ok fJ (ayO (aB.1.name aB.2) f1 hp (ah.pos λI=>by simp[I]at W))
   ·exact dC.bad _
structure pC(bn:g8)(d:fq):Prop where
 name:bn.N d.name
 type:bn.EL d.ty
 on:d.on≠[]->bn.N d.on
 no:d.on=[]->d.no=false
 ap:bn.A d.at_
 op:bn.A d.fD
structure Hq(bn:g8)(ao:gv):Prop where
 left:∀s∈ao.left,bn.N s
 some:ao.left≠[]
 right:e4 bn ao.right
 ap:bn.A ao.at_
 at1:∀K∈ao.dm,bn.A K
structure nr(bn:g8)(g:Node):Prop where
 name:bn.N g.name
 ef:∀d∈g.ef,pC bn d
 out:∀d∈g.out,pC bn d
 loc:∀d∈g.loc,pC bn d
 some:g.out≠[]
 eqs:∀ao∈g.eqs,Hq bn ao
 ap:bn.A g.at_
def x6(bn:g8)(cp:List Tok):Prop:=∀x∈cp,bn.N x.text/\bn.A x.at_
def x6.app{bn:g8}{x:Tok}{cp:List Tok}(a:x6 bn cp)(ah:bn.N x.text/\bn.A x.at_):x6 bn (cp++[x]):=by
 intro e H
 rcases Zy.1 H with H|H
 ·exact a e H
 ·simp at H;subst H;exact ah
def adz{bn:g8}:∀(n:Nat) (cv l:List Tok),g0 bn l->x6 bn cv->dC bn (λcp=>x6 bn cp/\cp≠[]) (rC n cv l):=by
 intro n
 induction n with
 |zero=>intro cv l _ _;rw[rC];exact dC.none
 |succ n am=>
  intro cv l aD aE
  rw[rC]
  refine(vx aD).andThen λx ci T ah=> ?_
  have aM:=aE.app ⟨ah.1.name ah.2,ah.1.pos (by rw[ah.2];decide)⟩
  refine qe T (λe c5 _ W=>am _ c5 W aM) (dC.ok T ⟨aM,Zs⟩)
def Xq{bn:g8}{w:Option Tok}{l:List Tok}(aD:g0 bn l):dC bn (λr:bq×Int×Bool=>((r.1≠[]->bn.N r.1)/\(r.1=[]->r.2.2=false))/\bn.A r.2.1) (AT w l):=by
 unfold AT
 split
 ·exact dC.ok aD ⟨⟨λa=>absurd rfl a,λ_=>rfl⟩,bn.a0⟩
 ·refine qe aD (λe c5 _ W=> ?_) ?_
  ·exact(vx W).andThen λx ci T ah=>dC.ok T ⟨⟨λ_=>ah.1.name ah.2,λa=>absurd a (bn.ba _ (ah.1.name ah.2))⟩,ah.1.pos (by rw[ah.2];decide)⟩
  ·exact(vx aD).andThen λx ci T ah=>dC.ok T ⟨⟨λ_=>ah.1.name ah.2,λa=>absurd a (bn.ba _ (ah.1.name ah.2))⟩,ah.1.pos (by rw[ah.2];decide)⟩
def g0.drop{bn:g8}{l:List Tok}(a:g0 bn l)(n:Nat):g0 bn (l.drop n):=λx ah=>a x (Y5 ah)
def Xp{bn:g8}{loc:Bool}{F:List fq->List Tok->gf (List fq)}{bv:List fq->Prop}{ds:List fq}{l:List Tok}(aD:g0 bn l)(b6:bv ds)(aL:∀ci,g0 bn ci->dC bn bv (F ds ci)):dC bn bv (ym loc F ds l):=by
 unfold ym
 split
 ·exact dC.none
 ·split
  ·split
   ·split
    ·exact dC.none
    ·split
     ·exact dC.ok aD b6
     ·exact aL _ (aD.drop 1)
   ·exact aL _ (aD.drop 1)
  ·exact dC.ok aD b6
def PH{bn:g8}{loc:Bool}:∀(n:Nat) (ds:List fq) (l:List Tok),g0 bn l->(∀d∈ds,pC bn d)->dC bn (λds=>(∀d∈ds,pC bn d)/\ds≠[]) (i6 n loc ds l):=by
 intro n
 induction n with
 |zero=>intro ds l _ _;rw[i6];exact dC.none
 |succ n am=>
  intro ds l aD aO
  rw[i6]
  refine(adz n [] l aD (λ_ a=>by cases a)).andThen λcp ci T ah=> ?_
  unfold CG
  refine(nS T).andThen λ_ c5 W _=> ?_
  refine(vx W).andThen λt eV au bb=> ?_
  have o0:∀r:bq×Int×Bool,((r.1≠[]->bn.N r.1)/\(r.1=[]->r.2.2=false))/\bn.A r.2.1->∀d∈ds++cp.map (pM t.ty r.1 r.2.1 r.2.2),pC bn d:=by
   intro r Z d apG
   rcases Zy.1 apG with a|a
   ·exact aO d a
   ·obtain⟨x,Gc,rfl⟩:=ZJ.1 a
    exact⟨(ah.1 x Gc).1,bb.1.type bb.2,Z.1.1,Z.1.2,(ah.1 x Gc).2,Z.2⟩
  refine qe au (λw g2 _ aP=> ?_) ?_
  ·refine(Xq aP).andThen λr gM bK Z=> ?_
   exact Xp bK ⟨o0 r Z,by simp[ah.2]⟩ (λci a=>am _ ci a (o0 r Z))
  ·refine(Xq au).andThen λr gM bK Z=> ?_
   exact Xp bK ⟨o0 r Z,by simp[ah.2]⟩ (λci a=>am _ ci a (o0 r Z))
def amA{bn:g8}(n:Nat){l:List Tok}(aD:g0 bn l):dC bn (Hq bn) (uI n l):=by
 have xr:∀(cp:List Tok) (l:List Tok),g0 bn l->x6 bn cp/\cp≠[]->dC bn (Hq bn) (andThen (eO [61] l) λI l=>andThen (arrow n l) λr l=>andThen (eO [59] l) λ_ l=>ok ⟨cp.map Tok.text,cp.map Tok.at_,I.at_,r⟩ l):=by
  intro cp l aD ah
  refine(nS aD).andThen λI c5 W apP=> ?_
  refine((akn bn n).arrow c5 W).andThen λr eV au Z=> ?_
  refine(nS au).andThen λ_ g2 aP _=>dC.ok aP ⟨?_,by simp[ah.2],Z,apP, ?_⟩
  ·intro s aI
   obtain⟨x,Gc,rfl⟩:=ZJ.1 aI
   exact(ah.1 x Gc).1
  ·intro s aI
   obtain⟨x,Gc,rfl⟩:=ZJ.1 aI
   exact(ah.1 x Gc).2
 have qA:∀x:Tok,Cv bn x/\x.kind=1->x6 bn [x]:=λx ah e H=>by simp at H;subst H;exact⟨ah.1.name ah.2,ah.1.pos (by rw[ah.2];decide)⟩
 unfold uI
 refine qe aD (λe c5 _ W=> ?_) ?_
 ·refine dC.andThen (bv:=λcp=>x6 bn cp/\cp≠[]) ?_ xr
  refine(vx W).andThen λx eV au ah=> ?_
  refine(nS au).andThen λ_ g2 aP _=> ?_
  refine(adz n [x] g2 aP (qA x ah)).andThen λcp gM bK By=> ?_
  exact(nS bK).andThen λ_ mQ cr _=>dC.ok cr By
 ·refine dC.andThen (bv:=λcp=>x6 bn cp/\cp≠[]) ?_ xr
  exact(vx aD).andThen λx eV au ah=>dC.ok au ⟨qA x ah,Zs⟩
def amD{bn:g8}:∀(n:Nat) (c2:List gv) (l:List Tok),g0 bn l->(∀ao∈c2,Hq bn ao)->dC bn (λc2=>∀ao∈c2,Hq bn ao) (lR n c2 l):=by
 intro n
 induction n with
 |zero=>intro c2 l _ _;rw[lR];exact dC.none
 |succ n am=>
  intro c2 l aD b6
  rw[lR]
  refine qe aD (λe c5 _ W=>dC.ok W b6) ?_
  refine(amA n aD).andThen λao c5 W ari=>am _ c5 W ?_
  intro Th a
  rcases Zy.1 a with a|a
  ·exact b6 Th a
  ·simp at a;subst a;exact ari
def auN{bn:g8}(n:Nat){l:List Tok}(aD:g0 bn l):dC bn (nr bn) (node n l):=by
 unfold node
 refine(nS aD).andThen λ_ l T _=> ?_
 refine(vx T).andThen λx l W ah=> ?_
 refine(nS W).andThen λ_ l au _=> ?_
 have xr:∀(ef:List fq) (l:List Tok),g0 bn l->(∀d∈ef,pC bn d)->dC bn (nr bn) (andThen (eO [114,101,116,117,114,110,115] l) λ_ l=>andThen (eO [40] l) λ_ l=>andThen (i6 n false [] l) λout l=>andThen (eO [41] l) λ_ l=>
  io [118,97,114] l λe l=>andThen (match e with
   |some _=>andThen (i6 n true [] l) λds l=>andThen (eO [59] l) λ_ l=>ok ds l
   |none=>ok [] l) λloc l=>
  andThen (eO [108,101,116] l) λ_ l=>andThen (lR n [] l) λc2 l=>ok ⟨x.text,x.at_,ef,out,loc,c2⟩ l):=by
  intro ef l aD aN
  refine(nS aD).andThen λ_ l T _=> ?_
  refine(nS T).andThen λ_ l W _=> ?_
  refine(PH n [] l W (λ_ a=>by cases a)).andThen λout l au bl=> ?_
  refine(nS au).andThen λ_ l aP _=> ?_
  have aby:∀(loc:List fq) (l:List Tok),g0 bn l->(∀d∈loc,pC bn d)->dC bn (nr bn) (andThen (eO [108,101,116] l) λ_ l=>andThen (lR n [] l) λc2 l=>ok ⟨x.text,x.at_,ef,out,loc,c2⟩ l):=by
   intro loc l aD aqr
   refine(nS aD).andThen λ_ l bK _=> ?_
   exact(amD n [] l bK (λ_ a=>by cases a)).andThen λc2 l cr ark=>dC.ok cr ⟨ah.1.name ah.2,aN,bl.1,aqr,bl.2,ark,ah.1.pos (by rw[ah.2];decide)⟩
  refine qe aP (λe c5 _ bK=> ?_) ?_
  ·refine dC.andThen (bv:=λds=>∀d∈ds,pC bn d) ?_ aby
   refine(PH n [] c5 bK (λ_ a=>by cases a)).andThen λds l cr Rc=> ?_
   exact(nS cr).andThen λ_ l dP _=>dC.ok dP Rc.1
  ·exact dC.andThen (bv:=λds=>∀d∈ds,pC bn d) (dC.ok aP (λ_ a=>by cases a)) aby
 refine qe au (λe c5 _ aP=> ?_) ?_
 ·exact dC.andThen (bv:=λds=>∀d∈ds,pC bn d) (dC.ok aP (λ_ a=>by cases a)) xr
 ·refine dC.andThen (bv:=λds=>∀d∈ds,pC bn d) ?_ xr
  refine(PH n [] _ au (λ_ a=>by cases a)).andThen λds l cr Rc=> ?_
  exact(nS cr).andThen λ_ l dP _=>dC.ok dP Rc.1
def auP{bn:g8}:∀(n:Nat) (aq:List Node) (l:List Tok),g0 bn l->(∀g∈aq,nr bn g)->dC bn (λaq=>(∀g∈aq,nr bn g)/\aq≠[]) (pm n aq l):=by
 intro n
 induction n with
 |zero=>intro aq l _ _;rw[pm];exact dC.none
 |succ n am=>
  intro aq l aD b0
  rw[pm]
  refine(auN n aD).andThen λg c5 W ap9=> ?_
  have abe:∀Qc∈aq++[g],nr bn Qc:=by
   intro Qc a
   rcases Zy.1 a with a|a
   ·exact b0 Qc a
   ·simp at a;subst a;exact ap9
  split
  ·exact dC.none
  ·split
   ·exact dC.ok W ⟨abe,Zs⟩
   ·exact am _ _ W abe
end Go.aZ

namespace Go.Proofs.YtpfajohmofnkfaaGreatDoor
open Go.bk Go.aZ
noncomputable section
structure EE(s:bq):Prop where
 ne:s≠[]
 len:s.length<=32
 akQ:∀c,s.head?=some c->qG c=true
 all:∀c∈s,iZ c=true
 res:s∉vV
 ty:lk s=none
def OO(t:dJ)(n:Int):Prop:=kL t=true/\vg t n=true/\0<=n/\n<18446744073709551616
def aqO:vg ⟨true,false,1⟩ 0=true:=by decide+kernel
def aqP:vg ⟨true,false,1⟩ 1=true:=by decide+kernel
def kr:g8:=⟨EE,λt=>kL t=true,OO,λ_ a=>a.ne,rfl,⟨rfl,aqO,Zo,Zo⟩,⟨rfl,aqP,Zo,Zo⟩,λ_ _ a=>a.1,λ_=>True,trivial⟩
def AH(n:Nat):g8:={kr with A:=λK=>0<=K/\K<=n,a0:=⟨Int.le_refl 0,Int.natCast_nonneg n⟩}
def ax7{
 s:bq}{i:Nat}{x:Tok}(a:xV s i=some x):Cv kr (lL x i):=by
 unfold xV at a
 cases aB:s[i]? with
 |none=>rw[aB]at a;cases a
 |some c=>
  rw[aB]at a
  simp only[]at a
  obtain⟨ah,H⟩:=Zc.1 aB
  have aO:s.drop i=c::s.drop (i+1):=by rw[Zw ah,H]
  split at a
  ·unfold DY at a
   simp only[]at a
   split at a
   ·cases a
   ·have c4:=aej ((s.drop i).takeWhile iK)
    split at a
    ·cases a
     exact⟨λa=>by simp[lL]at a,λa=>by simp[lL]at a,λ_=>by simp only[lL];omega,λa=>by simp[lL]at a,λ_=>trivial⟩
    ·split at a
     ·rename_i t bb
      split at a
      ·rename_i gK
       cases a
       simp only[Zp]at gK
       exact⟨λa=>by simp[lL]at a,λa=>by simp[lL]at a,λa=>by simp[lL]at a,λ_=>⟨TX bb,gK.2,by simp only[lL];omega,by simp only[lL];omega⟩,λ_=>trivial⟩
      ·cases a
     ·cases a
  ·split at a
   ·rename_i ai
    split at a
    ·rename_i aD
     cases a
     have bI:(s.drop i).takeWhile iZ=c::(s.drop (i+1)).takeWhile iZ:=by
      rw[aO,YD]
      have:iZ c=true:=by simp[iZ,ai]
      simp[this]
     refine⟨λa=> ?_,λa=> ?_,λa=> ?_,λa=> ?_,λ_=>trivial⟩
     ·simp only[lL,ua]at a ⊢
      split at a
      ·cases a
      ·rename_i aM
       split at a
       ·cases a
       ·rename_i Z
        have hy:((s.drop i).takeWhile iZ).length<=32:=by simpa[ua]using aD
        refine⟨by rw[bI];simp,hy, ?_,ae0 iZ _,Z,by simpa using aM⟩
        intro f9 cz
        rw[bI]at cz
        cases cz
        exact ai
     ·simp only[lL,ua]at a ⊢
      split at a
      ·rename_i aM
       cases bb:lk ((s.drop i).takeWhile iZ)with
       |none=>rw[bb]at aM;cases aM
       |some t=>exact TX bb
      ·split at a<;>cases a
     ·simp only[lL,ua]at a
      split at a
      ·cases a
      ·split at a<;>cases a
     ·simp only[lL,ua]at a
      split at a
      ·cases a
      ·split at a<;>cases a
    ·cases a
   ·cases aI:vY s i with
    |none=>rw[aI]at a;cases a
    |some p=>
     rw[aI]at a
     cases a
     exact⟨λa=>by simp[lL,Ei]at a,λa=>by simp[lL,Ei]at a,λa=>by simp[lL,Ei]at a,λa=>by simp[lL,Ei]at a,λ_=>trivial⟩
def aya{s:bq}:∀(n:Nat) (aY:List Tok) (i:Nat) (mW:List Tok),g0 kr aY->qX s n aY i=some (.ok mW)->g0 kr mW:=by
 intro n
 induction n with
 |zero=>intro aY i mW _ a;cases a
 |succ n am=>
  intro aY i mW bb a
  rw[qX]at a
  split at a
  ·split at a
   ·cases a
   ·rename_i x ah
    refine am _ _ _ ?_ a
    intro e H
    rcases Zy.1 H with H|H
    ·exact bb e H
    ·simp at H;subst H;exact ax7 ah
  ·cases a
   intro e H
   rcases Zy.1 H with H|H
   ·exact bb e H
   ·simp at H;subst H;exact⟨λa=>by simp at a,λa=>by simp at a,λa=>by simp at a,λa=>by simp at a,λ_=>trivial⟩
def ax8{s:bq}:∀(n:Nat) (aY:List Tok) (i:Nat) (mW:List Tok),(∀x∈aY,x.kind≠7->0<=x.at_/\x.at_<=s.length)->qX s n aY i=some (.ok mW)->∀x∈mW,x.kind≠7->0<=x.at_/\x.at_<=s.length:=by
 intro n
 induction n with
 |zero=>intro aY i mW _ a;cases a
 |succ n am=>
  intro aY i mW bb a
  rw[qX]at a
  split at a
  ·rename_i aN
   split at a
   ·cases a
   ·rename_i x ah
    refine am _ _ _ ?_ a
    intro e H
    rcases Zy.1 H with H|H
    ·exact bb e H
    ·simp at H;subst H;intro _;simp only[lL];omega
  ·cases a
   intro e H
   rcases Zy.1 H with H|H
   ·exact bb e H
   ·simp at H;subst H;intro a;exact absurd rfl a
def ad2{s:bq}{aq:List Go.aZ.Node}(a:B2 s= .ok aq):(∀g∈aq,nr (AH s.length) g)/\aq≠[]/\qM aq=none:=by
 unfold B2 at a
 split at a
 ·rename_i r Z
  subst a
  unfold B3 at Z
  split at Z
  ·cases Z
  ·cases Z
  ·rename_i aY bb
   have arX:=ax8 _ _ _ _ (λ_ a=>by cases a) bb
   have vl:g0 (AH s.length) aY:=λx ah=>by
    obtain⟨T,W,au,aP,_⟩:=aya _ _ _ _ (λ_ a=>by cases a) bb x ah
    exact⟨T,W,au,aP,arX x ah⟩
   split at Z
   ·cases Z
   ·cases Z
   ·rename_i ja l aM
    obtain⟨T,W⟩:=auP (bn:=AH s.length) _ _ _ vl (λ_ a=>by cases a) _ _ aM
    split at Z
    ·cases Z
    ·rename_i aD
     cases Z
     exact⟨W.1,W.2,aD⟩
 ·cases a
def auH{n:Nat}{I:bG}(a:tb (AH n) I):tb kr I:=⟨trivial,a.bY,a.cx,a.re,a.nm,a.NC,a.no,a.ty,a.dU,a.adH,a.ms,a.ba,a.wV⟩
mutual
def afu{n:Nat}:∀{I:bG},e4 (AH n) I->e4 kr I
 | .mk ..,a=>by rw[e4]at a ⊢;exact⟨auH a.1,afv a.2⟩
def afv{n:Nat}:∀{l:List bG},f8 (AH n) l->f8 kr l
 |[],_=>f8.nil
 |_::_,a=>by rw[f8]at a;exact f8.cons (afu a.1) (afv a.2)
end
def PF{n:Nat}{d:fq}(a:pC (AH n) d):pC kr d:=⟨a.name,a.type,a.on,a.no,trivial,trivial⟩
def auK{n:Nat}{g:Go.aZ.Node}(a:nr (AH n) g):nr kr g:=⟨a.name,λd aO=>PF (a.ef d aO),λd aO=>PF (a.out d aO),λd aO=>PF (a.loc d aO),a.some,λao b6=>⟨(a.eqs ao b6).left,(a.eqs ao b6).some,afu (a.eqs ao b6).right,trivial,λ_ _=>trivial⟩,trivial⟩
def avw{s:bq}{aq:List Go.aZ.Node}(a:B2 s= .ok aq):(∀g∈aq,nr kr g)/\aq≠[]/\qM aq=none:=
 have F:=ad2 a
 ⟨λg b0=>auK (F.1 g b0),F.2⟩
mutual
def sU:bG->List bG
 | .mk F K nm no t n args=> .mk F K nm no t n args::xJ args
def xJ:List bG->List bG
 |[]=>[]
 |I::l=>sU I++xJ l
end
mutual
def T4{iR:Type}(step:iR->bG->iR×Bool)(a:∀s I,(step s I).2=true):∀(I:bG) (s:iR),Cj step s I=(sU I).foldl (λs I=>(step s I).1) s
 | .mk F K nm no t n args,s=>by
   rw[Cj,Zr (a _ _),sU,YE]
   exact afp step a args _
def afp{iR:Type}(step:iR->bG->iR×Bool)(a:∀s I,(step s I).2=true):∀(l:List bG) (s:iR),xY step s l=(xJ l).foldl (λs I=>(step s I).1) s
 |[],s=>by rw[xY,xJ];rfl
 |I::l,s=>by
  rw[xY,xJ,List.foldl_append,T4 step a I s]
  exact afp step a l _
end
def qK(ao:gv):List (bq×Int):=ao.left.zipIdx.map λx=>(x.1,(ao.dm[x.2]?).getD 0)
def nb(t:bq->Option eJ)(s:(bq->Option Int)×(Int×Int))(x:bq×Int):(bq->Option Int)×(Int×Int):=(λw=>if w=x.1 then some ((s.1 x.1).getD 0+1)else s.1 w,DL t s.1 s.2 x.1 x.2)
def nN(t:bq->Option eJ)(aq:List Go.aZ.Node)(F:Nat)(s:(bq->Option Int)×(Int×Int))(ao:gv):(bq->Option Int)×(Int×Int):=
 (((qK ao).foldl (nb t) s).1,G9 t aq F ((qK ao).foldl (nb t) s).2 ao.right)
def rN(af:bq->Option Int)(f:Int×Int)(x:Int×fq):Int×Int:=if x.1≠1/\(af x.2.name).getD 0=0 then mf f 37 x.2.at_ else f
def sO(aq:List Go.aZ.Node)(F:Nat)(g:Go.aZ.Node):Int×Int:=if (m7 aq g.name).getD 0<F then mf (0,0) 24 g.at_ else(0,0)
def qP(aq:List Go.aZ.Node)(F:Nat)(g:Go.aZ.Node):Int×Int:=
 (hl g).foldl (rN (g.eqs.foldl (nN (hD g) aq F) (λ_=>none,uG (hD g) g (sO aq F g))).1) (g.eqs.foldl (nN (hD g) aq F) (λ_=>none,uG (hD g) g (sO aq F g))).2
def AO(aq:List Go.aZ.Node):Nat->List Go.aZ.Node->Int×Int
 |_,[]=>(0,0)
 |F,g::l=>if (qP aq F g).1≠0 then qP aq F g else AO aq (F+1) l
def uB(aq:List Go.aZ.Node):Int×Int:=AO aq 0 aq
def Fk(f:Int×Int){c:Int}(K:Int)(aB:c≠0):(mf f c K).1≠0:=by
 unfold mf
 split
 ·exact aB
 ·rename_i a;exact a
def am4{α:Type}(bad:α->Prop)[DecidablePred bad](c K:α->Int)(aB:∀x,c x≠0):∀(l:List α) (f:Int×Int),(l.foldl (λf x=>if bad x then mf f (c x) (K x)else f) f).1=0↔f.1=0/\∀x∈l,¬bad x:=by
 intro l
 induction l with
 |nil=>intro f;simp
 |cons x l am=>
  intro f
  rw[YE,am]
  by_cases ai:bad x
  ·have:=Fk f (K x) (aB x)
   simp[ai,this]
  ·simp[ai]
def al9{g:Go.aZ.Node}{x:Int×fq}(a:x∈hl g):x.1=1/\x.2∈g.ef\/x.1=2/\x.2∈g.out\/x.1=3/\x.2∈g.loc:=by
 simp only[hl,Zy,ZJ]at a
 rcases a with ⟨d,a,rfl⟩|⟨d,a,rfl⟩|⟨d,a,rfl⟩<;>simp[a]
def kX(w:bq)(l:List bq):Int:=((l.filter λx=>decide (x=w)).length:Int)
def HX(w x:bq)(l:List bq):kX w (x::l)=(if x=w then 1 else 0)+kX w l:=by
 unfold kX
 rw[List.filter_cons]
 by_cases a:x=w
 ·simp[a];omega
 ·simp[a]
def Xd(w:bq):kX w []=0:=rfl
def Fa(w:bq)(l:List bq):0<=kX w l:=by unfold kX;omega
def alr(w:bq)(l m:List bq):kX w (l++m)=kX w l+kX w m:=by unfold kX;rw[List.filter_append,ZO];omega
def Xc{w:bq}{l:List bq}:0<kX w l↔w∈l:=by
 induction l with
 |nil=>simp[Xd]
 |cons x l am=>
  have:=Fa w l
  rw[HX]
  by_cases a:x=w
  ·simp[a];omega
  ·have cz:¬w=x:=λI=>a I.symm
   simp[a,cz,am]
def adl(t:bq->Option eJ):∀(l:List (bq×Int)) (s:(bq->Option Int)×(Int×Int)) (w:bq),((l.foldl (nb t) s).1 w).getD 0=(s.1 w).getD 0+kX w (l.map Prod.fst):=by
 intro l
 induction l with
 |nil=>intro s w;simp[Xd]
 |cons x l am=>
  intro s w
  rw[YE,am,ZR,HX]
  simp only[nb]
  by_cases a:w=x.1
  ·subst a;simp;omega
  ·have cz:¬x.1=w:=λI=>a I.symm
   simp[a,cz]
def at2(t:bq->Option eJ):∀(l:List (bq×Int)) (s:(bq->Option Int)×(Int×Int)),(∀w,0<=(s.1 w).getD 0)->((l.foldl (nb t) s).2.1=0↔s.2.1=0/\∀w∈l.map Prod.fst,∃v,t w=some v/\v.kind≠1/\(s.1 w).getD 0+kX w (l.map Prod.fst)<=1):=by
 intro l
 induction l with
 |nil=>intro s _;simp
 |cons x l am=>
  intro s aI
  have qC:∀w,0<=((nb t s x).1 w).getD 0:=by
   intro w
   have:=aI w
   have:=aI x.1
   simp only[nb]
   split
   ·simp;omega
   ·assumption
  rw[YE,am _ qC]
  have Bx:=aI x.1
  constructor
  ·rintro⟨T,W⟩
   have au:s.2.1=0/\∃v,t x.1=some v/\v.kind≠1/\(s.1 x.1).getD 0+1<=1:=by
    simp only[nb,DL]at T
    cases bb:t x.1 with
    |none=>rw[bb]at T;exact absurd T (Fk _ _ Zd)
    |some v=>
     rw[bb]at T
     simp only[]at T
     split at T
     ·exact absurd T (Fk _ _ Zd)
     ·rename_i b6
      exact⟨T,v,rfl,λI=>b6 (.inl I),by have:¬1<(s.1 x.1).getD 0+1:=λI=>b6 (.inr I);omega⟩
   refine⟨au.1,λw bI=> ?_⟩
   rw[ZR,Zq]at bI
   rw[ZR,HX]
   by_cases Bw:w=x.1
   ·subst Bw
    obtain⟨v,aP,bK,cr⟩:=au.2
    refine⟨v,aP,bK, ?_⟩
    by_cases bs:x.1∈l.map Prod.fst
    ·obtain⟨g7,_,_,dP⟩:=W _ bs
     simp only[nb,ZD,Yy]at dP ⊢
     omega
    ·have:¬0<kX x.1 (l.map Prod.fst):=λI=>bs (Xc.1 I)
     have:=Fa x.1 (l.map Prod.fst)
     simp only[ZD]
     omega
   ·rcases bI with bI|bI
    ·exact absurd bI Bw
    ·obtain⟨v,aP,bK,cr⟩:=W _ bI
     have Se:¬x.1=w:=λI=>Bw I.symm
     simp only[nb,Bw,ZA]at cr
     exact⟨v,aP,bK,by simp only[Se,ZA];omega⟩
  ·rintro⟨T,W⟩
   obtain⟨v,aP,bK,cr⟩:=W x.1 Zs
   rw[ZR,HX,Zr rfl]at cr
   have aB:=Fa x.1 (l.map Prod.fst)
   refine⟨?_,λw bI=> ?_⟩
   ·simp only[nb,DL,aP]
    rw[Zh (by rintro(I|I);exact bK I;omega)]
    exact T
   ·obtain⟨g7,bY,cx,c7⟩:=W w (by rw[ZR];exact Zu _ bI)
    refine⟨g7,bY,cx, ?_⟩
    rw[ZR,HX]at c7
    simp only[nb]
    by_cases Bw:w=x.1
    ·subst Bw;simp only[ZD,Yy];simp only[ZD]at c7;omega
    ·have Se:¬x.1=w:=λI=>Bw I.symm
     simp only[Bw,ZA];simp only[Se,ZA]at c7;omega
def ac6(ao:gv):(qK ao).map Prod.fst=ao.left:=by
 simp only[qK,YA]
 have:(Prod.fst∘λx:bq×Nat=>(x.1,(ao.dm[x.2]?).getD 0))=Prod.fst:=rfl
 rw[this]
 exact List.zipIdx_map_fst ..
def HA(t:bq->Option eJ)(aq:List Go.aZ.Node)(F:Nat)(I:bG):Prop:=∀x∈sU I,(xC x=true->(t x.name).isSome=true)/\(x.kind=25->∃aa,m7 aq x.name=some aa/\aa<F)
def awz{t:bq->Option eJ}{aq:List Go.aZ.Node}{F:Nat}{f:Int×Int}{I:bG}:(G9 t aq F f I).1=0↔f.1=0/\HA t aq F I:=by
 unfold G9 HA
 rw[T4 _ (λ_ _=>rfl)]
 generalize sU I=l
 induction l generalizing f with
 |nil=>simp
 |cons x l am=>
  rw[YE,am]
  have T:(sZ t aq F f x).1.1=0↔f.1=0/\(xC x=true->(t x.name).isSome=true)/\(x.kind=25->∃aa,m7 aq x.name=some aa/\aa<F):=by
   simp only[sZ,B9]
   have W:(ug t f x).1=0↔f.1=0/\(xC x=true->(t x.name).isSome=true):=by
    unfold ug
    by_cases a:xC x=true
    ·rw[Zr a]
     by_cases cz:(t x.name).isSome=true
     ·rw[Zr cz];simp[cz]
     ·rw[Zh cz];simp[a,cz,Fk]
    ·rw[Zh a];simp[a]
   by_cases mi:x.kind=25
   ·rw[Zr mi]
    cases b9:m7 aq x.name with
    |none=>simp[Fk,mi]
    |some aa=>
     simp only[]
     by_cases aL:F<=aa
     ·rw[Zr aL]
      have:¬aa<F:=Zo
      simp[Fk,mi,this]
     ·rw[Zh aL,W]
      have:aa<F:=Zo
      simp[mi,this]
   ·rw[Zh mi,W];simp[mi]
  rw[T]
  simp only[Zq,forall_eq_or_imp,and_assoc]
def av1(t:bq->Option eJ)(aq:List Go.aZ.Node)(F:Nat):∀(l:List gv) (s:(bq->Option Int)×(Int×Int)),(∀w,0<=(s.1 w).getD 0)->((l.foldl (nN t aq F) s).2.1=0↔s.2.1=0/\(∀w∈l.flatMap gv.left,∃v,t w=some v/\v.kind≠1/\(s.1 w).getD 0+kX w (l.flatMap gv.left)<=1)/\∀ao∈l,HA t aq F ao.right):=by
 intro l
 induction l with
 |nil=>intro s _;simp
 |cons ao l am=>
  intro s aI
  have qC:∀w,0<=((nN t aq F s ao).1 w).getD 0:=by
   intro w
   simp only[nN]
   rw[adl]
   have:=aI w
   have:=Fa w ((qK ao).map Prod.fst)
   omega
  rw[YE,am _ qC]
  have bH:(nN t aq F s ao).2.1=0↔(s.2.1=0/\∀w∈ao.left,∃v,t w=some v/\v.kind≠1/\(s.1 w).getD 0+kX w ao.left<=1)/\HA t aq F ao.right:=by
   simp only[nN]
   rw[awz,at2 t _ _ aI,ac6]
  have cP:∀w,((nN t aq F s ao).1 w).getD 0=(s.1 w).getD 0+kX w ao.left:=by
   intro w
   simp only[nN]
   rw[adl,ac6]
  rw[bH]
  simp only[cP,YR,alr,Zy,Zq,forall_eq_or_imp]
  constructor
  ·rintro⟨⟨⟨T,W⟩,au⟩,aP,bK⟩
   refine⟨T,λw bI=> ?_,au,bK⟩
   by_cases bs:w∈l.flatMap gv.left
   ·obtain⟨v,bY,cx,c7⟩:=aP w bs
    exact⟨v,bY,cx,Zo⟩
   ·have ch:¬0<kX w (l.flatMap gv.left):=λI=>bs (Xc.1 I)
    have:=Fa w (l.flatMap gv.left)
    obtain⟨v,bY,cx,c7⟩:=W w (bI.resolve_right bs)
    exact⟨v,bY,cx,Zo⟩
  ·rintro⟨T,W,au,aP⟩
   refine⟨⟨⟨T,λw bI=> ?_⟩,au⟩,λw bI=> ?_,aP⟩
   ·obtain⟨v,bY,cx,c7⟩:=W w (.inl bI)
    have:=Fa w (l.flatMap gv.left)
    exact⟨v,bY,cx,Zo⟩
   ·obtain⟨v,bY,cx,c7⟩:=W w (.inr bI)
    exact⟨v,bY,cx,Zo⟩
def ayq(af:bq->Option Int)(l:List (Int×fq))(f:Int×Int):(l.foldl (rN af) f).1=0↔f.1=0/\∀x∈l,¬(x.1≠1/\(af x.2.name).getD 0=0):=
 am4 (λx:Int×fq=>x.1≠1/\(af x.2.name).getD 0=0) (λ_=>37) (λx=>x.2.at_) (λ_=>Zd) l f
end
end Go.Proofs.YtpfajohmofnkfaaGreatDoor

