/- A part of the last text's proof; no condition of its own -/
import Derived.Test.YtpfajohmofnkfaaGreatDoorYp
set_option maxHeartbeats 8000000
set_option linter.all false
namespace Go.Proofs.YtpfajohmofnkfaaGreatDoor
open Go.bk Go.aZ
noncomputable section
def Ij{α:Type}{f:α->Option Int}{l:List α}{i:Nat}{x:α}(a:l[i]? =some x)(ch:(l.take i).findSome? f=none):(l.take (i+1)).findSome? f=f x:=by
 rw[Z0,a,List.findSome?_append,ch]
 simp
def LK{α:Type}{f:α->Option Int}{l:List α}{i:Nat}{x:α}{K:Int}(a:l[i]? =some x)(ch:(l.take i).findSome? f=none)(ah:f x=some K):l.findSome? f=some K:=by
 have I:l=l.take (i+1)++l.drop (i+1):=(List.take_append_drop _ _).symm
 rw[I,List.findSome?_append,Ij a ch,ah]
 rfl
section
variable{X:co}{h U a6 aR:V an}{j ar aJ bc:Nat}{P dq bx:Nat->Prop}
def td(X:co)(h:V an)(aq:List Go.aZ.Node)(t:bq->Option eJ)(cV:Nat->Option J)(P dq:Nat->Prop):List gv->List (List J)->Prop
 |[],bF=>bF=[]
 |ao::c2,bF=>∃row hh v,bF=row::hh/\row[3]? =some v/\rj aq t ao=none/\jy X h aq t cV P dq ao.right v/\td X h aq t cV P dq c2 hh
def td.ad{aq:List Go.aZ.Node}{t:bq->Option eJ}{cV ju:Nat->Option J}{q4 ra:Nat->Prop}(F:∀e,P e->ab X U e=ab X h e)(sH:∀e,dq e->ab X U e=ab X h e)(aD:∀e,P e->ju e=cV e)(aA:∀e,P e->q4 e)(H:∀e,dq e->ra e):∀{c2:List gv}{bF:List (List J)},td X h aq t cV P dq c2 bF->td X U aq t ju q4 ra c2 bF:=by
 intro c2
 induction c2 with
 |nil=>intro bF a;exact a
 |cons ao c2 am=>
  rintro bF ⟨row,hh,v,T,W,au,aP,bK⟩
  exact⟨row,hh,v,T,W,au,jy.ad F sH aD aA H _ _ aP,am bK⟩
def td.snoc{aq:List Go.aZ.Node}{t:bq->Option eJ}{cV:Nat->Option J}{ao:gv}{row:List J}{v:J}(W:row[3]? =some v)(au:rj aq t ao=none)(aP:jy X h aq t cV P dq ao.right v):∀{c2:List gv}{bF:List (List J)},td X h aq t cV P dq c2 bF->td X h aq t cV P dq (c2++[ao]) (bF++[row]):=by
 intro c2
 induction c2 with
 |nil=>rintro bF rfl;exact⟨row,[],v,rfl,W,au,aP,rfl⟩
 |cons K c2 am=>
  rintro bF ⟨qV,hh,w,rfl,cx,c7,d5,er⟩
  exact⟨qV,hh++[row],w,rfl,cx,c7,d5,am er⟩
structure EC(X:co)(h:V an)(eN:Nat)(P:Nat->Prop)(b1 ao r:Nat)(p:J)(aq:List Go.aZ.Node):Prop where
 ba:(q X).ba<=eN
 lc:b1<eN
 vK:ao<eN
 t8:r<eN
 Kf:(q X).ba<=r
 adA:(q X).ba<=b1
 Fc:b1≠r
 qr:ao≠r
 PB:ao≠b1
 bB:∀e,P e->(q X).ba<=e/\e<eN/\e≠r/\e≠b1
 Ik:∃c,ab X h b1=some (.cells c 3 .own)/\c.get 0=some (.ptr ao 0)/\c.get 1=some p
 Ev:al X h (.ptr ao 0)=some (.map r)
 prog:ns X h P aq p
def Cp(X:co)(h:V an)(aq:List Go.aZ.Node)(cV:Nat->Option J)(P dq:Nat->Prop)(g:Go.aZ.Node)(row:List J):Prop:=xD aq g=none/\∃cY df a8 eR cT dL et ig bF,row=[.str g.name, .Z g.at_,cY,df,a8,eR]/\d1 X h P cT cY 8 (g.ef.map eK)/\d1 X h P dL df 8 (g.out.map eK)/\d1 X h P et a8 8 (g.loc.map eK)/\d1 X h P ig eR 4 bF/\oE X h P g.eqs bF/\td X h aq (hD g) cV P dq g.eqs bF
structure afZ(X:co)(gw:V an)(j bd:Nat)(bx bv:Nat->Prop)(r:Nat)(aq:List Go.aZ.Node)(t:bq->Option eJ)(cV:Nat->Option J)(eqs:List gv)(bF:List (List J))(aa:Nat)(U:V an)(aV:Nat):Prop where
 none_:(eqs.take aa).findSome? (rj aq t)=none
 fr:cf X [r] gw bd U aV
 at_:∃ju q6,lm X U bx r ju/\(∀e,¬bv e->ju e=cV e)/\(∀e,q6 e->bv e)/\oE X U q6 (eqs.drop aa) (bF.drop aa)/\td X U aq t ju (λe=>bv e/\¬q6 e) (cW j aV) (eqs.take aa) (bF.take aa)
set_option maxRecDepth 100000 in
def auJ(az:dx X)(eH:ED X){aq:List Go.aZ.Node}{b1 Ko r eN:Nat}{p:J}(ch:aq≠[])(bs:∀g∈aq,g.ef.length<=100000/\g.out.length<=100000)(w6:∀e,bx e->P e){bv:Nat->Prop}(FG:∀e,bv e->bx e)(aM:eN<=j)(bX:EC X h eN P b1 Ko r p aq){cV:Nat->Option J}(n9:lm X h bx r cV)
 {g:Go.aZ.Node}{row:List J}(b0:oH X h bv g row)(Mk:∀ao∈g.eqs,e4 kr ao.right)(pZ:(hl g).length<=300000):
 aW X 77 [.ptr b1 0, .agg row] h j (λae U ar=>ae= .tuple []/\(∃c,ab X U b1=some (.cells c 3 .own)/\c.get 0=some (.ptr Ko 0)/\c.get 1=some p)/\∃ju,lm X U bx r ju/\(∀e,¬bv e->ju e=cV e)/\Cp X U aq ju bv (cW j ar) g row/\cf X [r,b1] h j U ar)
  (λae U ar=>∃K,xD aq g=some K/\ae=oS 26 K/\cf X [r,b1] h j U ar):=by
 refine zv az (ajx X) ?_
 rw[ajy]
 unfold Wd
 have gP:=bX.ba
 have bB:=bX.bB
 have aqs:=bX.t8;have Rv:=bX.lc;have aAe:=bX.vK
 have pS:∀e,bv e->P e:=λe H=>w6 e (FG e H)
 have abf:=b0
 obtain⟨cY,df,a8,eR,cT,dL,et,ig,bF,rfl,lr,kg,nD,jX,ff⟩:=b0
 have arF:=(jt lr.len).1
 have arI:=(jt kg.len).1
 have jq:=(jt nD.len).1
 have aAJ:=(jt jX.len).1
 refine ti ?_
 generalize ea:Go.bk.bo X h j _=a6
 have b5:ab X a6 j=zs [.str g.name, .Z g.at_,cY,df,a8,eR] 6:=by rw[<-ea,bi Zo];rfl
 have bT:bh X h j a6 (j+1):=by rw[<-ea];exact dR
 clear ea
 refine ce (bR b5) ⟨?_⟩
 have bY:∀e,P e->ab X a6 e=ab X h e:=λe H=>bT.ad e (zo (bB e H))
 refine(S4 (j:=j+1) (h:=a6) az Zo (λe H=>zo (bB e (pS e H))) (abf.ad (bv:=bv) (λe H=>bY e (pS e H)) (λ_ a=>a)) pZ).Zm ?_
 rintro ae aR bc ⟨cF,lb,TB,CB,rfl,F9,Bu,tK,p0,_,_,bC⟩
 have f5:=bC.le
 have jb:=bT.trans bC
 obtain⟨c,ζ,η,θ⟩:=bX.Ik
 have tt:ab X aR b1=some (.cells c 3 .own):=by rw[jb.ad b1 Zo];exact ζ
 have MP:=bX.adA
 refine yv ⟨?_⟩
 generalize fl:Go.bk.bo X aR b1 _=a7
 have anI:∃f9,ab X a7 b1=some (.cells f9 3 .own)/\f9.get 0=some (.ptr Ko 0)/\f9.get 1=some p/\f9.get 2=some (.ptr cF 0):=⟨d3 c 2 [.ptr cF 0],by rw[<-fl,bi MP];rfl,by rw[q0,V.kc];exact η,by rw[q0,V.kc];exact θ,rP c 2 _⟩
 have c7:∀e,e≠b1->ab X a7 e=ab X aR e:=λe H=>by rw[<-fl,aG MP H]
 clear fl tt
 have DD:∀e,e<j->e≠b1->ab X a7 e=ab X h e:=λe T W=>by rw[c7 e W,jb.ad e T]
 have lz:∀e,P e->ab X a7 e=ab X h e:=λe H=>by have:=bB e H;exact DD e Zo Zo
 have ej:cf X [r,b1] h j a7 bc:=⟨Zo,λe T W=>DD e T (by simp at W;exact W.2)⟩
 have M4:oK X a7 (λe=>P e\/cW (j+1) bc e) (.ptr cF 0) (hD g):=⟨cF,lb,rfl, .inr F9, .inr Bu,zz (c7 cF (zo F9.1)) tK,p0.ad (c7 lb (zo Bu.1))⟩
 have Iz:wA X a7 bc (λe=>P e\/cW (j+1) bc e) b1 Ko r (.ptr cF 0) p aq (hD g):=⟨Zo,Zo,Zo,Zo,bX.Kf,bX.Fc,bX.qr,λe H=>by
  rcases H with a|a
  ·have:=bB e a;exact⟨this.1,Zo,this.2.2.1⟩
  ·have T:=a.1;have W:=a.2;exact⟨Zo,W,Zo⟩,anI,zz (DD Ko Zo bX.PB) bX.Ev,M4,bX.prog.ad lz (λ_ a=> .inl a)⟩
 have wX:ab X a7 j=zs [.str g.name, .Z g.at_,cY,df,a8,eR] 6:=by rw[c7 j Zo,bC.ad j Zo];exact b5
 have C1:lm X a7 bx r cV:=n9.ad (DD r Zo (λI=>bX.Fc I.symm)) (λe H=>lz e (w6 e H))
 generalize JA:hD g=t at*
 have xm:xD aq g=(match AS t g with|some K=>some K|none=>g.eqs.findSome? (rj aq t)):=by unfold xD;rw[JA];rfl
 clear bT bC jb bY p0 tK M4 b5 ζ η θ
 have QZ:eC [.aU, .aU, .aU] [(0,1,cY),(1,1,df),(2,1,a8)]=some (.agg [cY,df,a8]):=by
  simp[eC,pP,pQ,lD,arF,arI,jq]
 refine rk (bR wX) ⟨?_⟩
 refine fS QZ ?_
 refine j0 (λM U aV=>M.g 0=some (.ptr b1 0)/\M.g 3=some (.ptr j 0)/\AS t g=none/\bh X a7 bc U aV) (λaa bL=> ?_) ?_
 ·have Br:∀F,F<3->∃s b,([cY,df,a8]:List J)[F]? =some s/\d1 X h bv b s 8 ((jK g F).map eK):=λF aL=>by
   match F,aL with
   |0,_=>exact⟨cY,cT,rfl,lr⟩
   |1,_=>exact⟨df,dL,rfl,kg⟩
   |2,_=>exact⟨a8,et,rfl,nD⟩
  refine fC (λm M U aV=>∃(F:Nat),M.g 0=some (.ptr b1 0)/\M.g 3=some (.ptr j 0)/\M.g 25=some (.agg [cY,df,a8])/\M.g 26=some (.Z (F:Int))/\F+m=3/\((hl g).take (po g F)).findSome? (λx=>if x.2.on≠[]/\(jg t x.2.on).b=false then some x.2.fD else none)=none/\bh X a7 bc U aV)
   3 ⟨0,bp,bp,bp,fQ,Zo,by simp[po],bh.refl _ _⟩ ?_
  rintro m M bw db ⟨F,t0,t3,mz,lj,aL,lv,dj⟩
  have jd:=dj.le
  cases m with
  |zero=>
   have d:decide ((F:Int)<3)=false:=by simp only[Zb];omega
   have ob:F=3:=Zo
   subst ob
   rw[<-Ia,YX]at lv
   refine c1 @lj @d ⟨?_⟩
   exact bL _ _ _ ⟨aQ t0,aQ t3,lv,dj⟩
  |succ m=>
   have d:decide ((F:Int)<3)=true:=by simp only[Zg];omega
   obtain⟨fg,dN,qC,sz⟩:=Br F Zo
   have FP:qI false 3 1 (.agg [cY,df,a8]) (.Z (F:Int))=some fg:=by
    have au:Nat.blt F 3=true:=by simp[Nat.blt];omega
    simp only[qI,qO,au,e6,jz,pn,Yh]
    exact qC
   have Je:=sz.len
   have RC:=sz.many
   rw[Zi]at Je RC
   refine fW @lj @mz @d @FP @Je ⟨?_⟩
   refine fC (λm M U aV=>∃(i:Nat),M.g 0=some (.ptr b1 0)/\M.g 3=some (.ptr j 0)/\M.g 25=some (.agg [cY,df,a8])/\M.g 26=some (.Z (F:Int))/\M.g 29=some fg/\M.g 30=some (.Z ((jK g F).length:Int))/\M.g 31=some (.Z (i:Int))/\i+m=(jK g F).length/\((hl g).take (po g F+i)).findSome? (λx=>if x.2.on≠[]/\(jg t x.2.on).b=false then some x.2.fD else none)=none/\bh X a7 bc U aV)
    (jK g F).length ⟨0,aQ t0,aQ t3,aQ mz,aQ lj,bp,bp,fQ,Zo,lv,dj⟩ ?_
   clear t0 t3 mz lj lv
   rintro f1 M bS cj ⟨i,t0,t3,mz,lj,s3,Cd,Od,aN,lv,dF⟩
   have il:=dF.le
   cases f1 with
   |zero=>
    have d:=zp i (jK g F).length
    have bH:=zt F
    refine fW @Od @Cd @lj @d @bH ⟨?_⟩
    refine⟨m,Zo,F+1,aQ t0,aQ t3,aQ mz,bp,Zo, ?_,dF⟩
    rw[adO g Zo]
    have:i=(jK g F).length:=Zo
    rw[<-this]
    exact lv
   |succ f1=>
    have d:=zq i (jK g F).length
    have bH:=zt i
    obtain⟨aF,aO⟩:=zr (jK g F) i
    have o2:=sz.e9 i (by rw[Zi];omega)
    have asY:∀e,bv e->ab X bS e=ab X h e:=λe H=>by have:=bB e (pS e H);rw[dF.ad e Zo,lz e (pS e H)]
    have Js:=(sz.ad asY).row (i:=i) (r:=eK aF) Zd (by rw[Zt,aO];rfl)
    have kf:eK aF=[.str aF.name, .Z aF.at_, .bool aF.ty.b, .bool aF.ty.s, .Z aF.ty.w, .str aF.on, .Z aF.fD, .bool aF.no]:=rfl
    rw[kf]at Js
    have Rl:=XH g (F:=F) Zo aO
    have azz:=Iz.fr (cf.of (X:=[r]) dF) (Zl _)
    refine iu @Od @Cd @s3 @d @o2 @Js ⟨?_⟩
    generalize gd:Go.bk.bo X _ cj _=b4
    have d8:ab X b4 cj=zs [.str aF.name, .Z aF.at_, .bool aF.ty.b, .bool aF.ty.s, .Z aF.ty.w, .str aF.on, .Z aF.fD, .bool aF.no] 8:=by rw[<-gd,bi Zo];rfl
    have dK:∀e,e<cj->ab X b4 e=ab X bS e:=λe H=>by rw[<-gd];exact zu
    clear gd
    have dV:bh X a7 bc b4 (cj+1):=⟨Zo,λe H=>by rw[dK e Zo];exact dF.ad e H⟩
    have aap:=Iz.fr (cf.of (X:=[r]) dV) (Zl _)
    by_cases lw:aF.on=[]
    ·have cQ:∀i:Decidable (aF.on≠[]), @decide (aF.on≠[]) i=false:=λi=>by simp[lw]
     refine ce (bR d8) ⟨?_⟩
     simp only[cQ]
     refine c1 @Od @bH ⟨?_⟩
     refine⟨f1,Zo,i+1,aQ t0,aQ t3,aQ mz,aQ lj,aQ s3,aQ Cd,bp,Zo, ?_,dV.more Zo⟩
     rw[<-ZN,Ij Rl lv]
     simp[lw]
    ·have cQ:∀i:Decidable (aF.on≠[]), @decide (aF.on≠[]) i=true:=λi=>by simp[lw]
     refine ce (bR d8) ⟨?_⟩
     simp only[cQ]
     refine c1 @t0 (bR d8) ⟨?_⟩
     refine(Kh (j:=cj+1) (P:=λe=>P e\/cW (j+1) bc e) az Zo Zo aap.E8.dZ aap.oz (λe H=>zo (Iz.bB e H).2.1) aF.on).Zm ?_
     rintro ae cu e1 ⟨rfl,e7⟩
     have nE:=e7.le
     have L7:=dV.trans (e7.j3 Zo)
     have eQ:ab X cu cj=zs [.str aF.name, .Z aF.at_, .bool aF.ty.b, .bool aF.ty.s, .Z aF.ty.w, .str aF.on, .Z aF.fD, .bool aF.no] 8:=by rw[e7.ad cj Zo];exact d8
     cases ai:(jg t aF.on).b with
     |true=>
      refine gl @LN @ai @Od @bH ⟨?_⟩
      refine⟨f1,Zo,i+1,aQ t0,aQ t3,aQ mz,aQ lj,aQ s3,aQ Cd,bp,Zo, ?_,L7⟩
      rw[<-ZN,Ij Rl lv]
      simp[ai]
     |false=>
      refine d9 @LN @ai (bR eQ) ⟨?_⟩
      refine(If az Zo aF.fD).mono (λ_ _ _ a=>a) ?_
      rintro ae d4 fd ⟨rfl,gy⟩
      have Q8:AS t g=some aF.fD:=LK Rl lv (by simp[lw,ai])
      exact⟨aF.fD,by rw[xm,Q8],rfl,ej.trans (cf.of (L7.trans gy))⟩
 ·rintro M bw db ⟨t0,t3,o0,dj⟩
  have jd:=dj.le
  have eI:cf X [r,b1] h j bw db:=ej.trans (cf.of dj)
  have QG:=Iz.fr (cf.of (X:=[r]) dj) (Zl _)
  have ann:ab X bw j=zs [.str g.name, .Z g.at_,cY,df,a8,eR] 6:=by rw[dj.ad j Zo];exact wX
  have la:∀e,P e->ab X bw e=ab X h e:=λe H=>by have:=bB e H;rw[dj.ad e Zo,lz e H]
  have QO:lm X bw bx r cV:=C1.ad (dj.ad r Zo) (λe H=>by have:=bB e (w6 e H);exact dj.ad e Zo)
  have apY:oE X bw bv g.eqs bF:=ff.ad (λe H=>la e (pS e H)) (λ_ a=>a)
  have mN:=ff.wide
  have ew:=jX.len
  have h7:=jX.many
  rw[mN.1]at ew h7
  rw[o0]at xm
  simp only[]at xm
  clear C1 wX lz bX n9 abf
  show aj _ _
  refine d9 @t3 (bR ann) @ew ⟨?_⟩
  refine fC (λm M U aV=>∃(aa:Nat),M.g 0=some (.ptr b1 0)/\M.g 52=some eR/\M.g 53=some (.Z (g.eqs.length:Int))/\M.g 54=some (.Z (aa:Int))/\aa+m=g.eqs.length/\afZ X bw j db bx bv r aq t cV g.eqs bF aa U aV)
   g.eqs.length ⟨0,aQ t0,bp,bp,fQ,Zo,⟨rfl,cf.refl _ _ _,cV,bv,QO,λ_ _=>rfl,λ_ a=>a,by simpa using apY,by rw[Z6,Z6];rfl⟩⟩ ?_
  clear t0 t3
  rintro m M bS cj ⟨aa,t0,xU,qb,ko,bL,e8⟩
  have dG:=e8.fr
  have il:=dG.le
  have aoE:=QG.fr dG Zo
  obtain⟨SK,q6,IF,abB,yE,o1,Bv⟩:=e8.at_
  have lv:=e8.none_
  clear e8
  cases m with
  |zero=>
   have d:=zp aa g.eqs.length
   rw[ZB Zo]at lv
   rw[ZB Zo,ZB Zo]at Bv
   refine d9 @qb @ko @d ⟨?_⟩
   have rn:cf X [r,b1] h j bS cj:=eI.trans (dG.down (Zl _) (λb ai=> .inl (by simp at ai;simp[ai])))
   have JS:∀e,bv e->ab X bS e=ab X h e:=λe H=>by have:=bB e (pS e H);exact rn.ad e Zo (by simp;exact⟨this.2.2.1,this.2.2.2⟩)
   obtain⟨ka,z0,f2,fF,_⟩:=aoE.Ik
   exact⟨rfl,⟨ka,z0,f2,fF⟩,SK,IF,abB,⟨by rw[xm];exact lv,cY,df,a8,eR,cT,dL,et,ig,bF,rfl,lr.ad JS,kg.ad JS,nD.ad JS,jX.ad JS,ff.ad JS (λ_ a=>a),by rw[JA];exact Bv.ad (λ_ _=>rfl) (λ_ _=>rfl) (λ_ _=>rfl) (λe H=>H.1) (λ_ a=>a)⟩,rn⟩
  |succ m=>
   have d:=zq aa g.eqs.length
   have bH:=zt aa
   obtain⟨ao,b6⟩:=zr g.eqs aa
   have aO:g.eqs.drop aa=ao::g.eqs.drop (aa+1):=by
    obtain⟨ah,H⟩:=Zc.1 b6
    rw[Zw ah,H]
   rw[aO]at o1
   obtain⟨row,hh,y,cG,FF,vi,Rh⟩:=o1
   have Dp:bF[aa]? =some row:=by
    have:(bF.drop aa)[0]? =some row:=by rw[cG];rfl
    simpa using this
   have sz:hh=bF.drop (aa+1):=by
    obtain⟨ah,H⟩:=Zc.1 Dp
    rw[Zw ah]at cG
    simp only[YI]at cG
    exact cG.2.symm
   subst sz
   obtain⟨l3,nM,dy,dZ,l4,rfl,hz,lV,mM,o5⟩:=id vi
   obtain⟨eo,rfl,I3,o3⟩:=mM.ptr
   have qt:∀e,y e->bv e:=λe H=>yE e (FF e H)
   have Ba:∀e,P e->e<db/\e≠r:=λe H=>by have:=bB e H;exact⟨Zo,this.2.2.1⟩
   have JQ:∀e,P e->ab X bS e=ab X h e:=λe H=>by have:=Ba e H;rw[dG.ad e this.1 (by simp[this.2]),la e H]
   have dQ:=jX.e9 aa (by rw[mN.1];omega)
   have hS:=(jX.ad (λe H=>JQ e (pS e H))).row Zd Dp
   have nG:g.eqs.take (aa+1)=g.eqs.take aa++[ao]:=by rw[Z0,b6];rfl
   have xs:bF.take (aa+1)=bF.take aa++[[l3,nM, .Z ao.at_, .ptr eo 0]]:=by rw[Z0,Dp];rfl
   refine iu @ko @qb @xU @d @dQ @hS ⟨?_⟩
   refine fS (im (F:=4) (b:=cj) (Y:=0) (n:=4) (bi Zo) Zo rfl Zd Zd o5) ?_
   generalize gd:Go.bk.bo X _ cj _=b4
   have d8:ab X b4 cj=zs [l3,nM, .Z ao.at_, .ptr eo 0] 4:=by rw[<-gd,bi Zo];rfl
   have dK:∀e,e<cj->ab X b4 e=ab X bS e:=λe H=>by rw[<-gd];exact zu
   clear gd
   have eD:cf X [r] bw db b4 (cj+1):=⟨Zo,λe T W=>by rw[dK e Zo];exact dG.ad e T W⟩
   have aoF:=QG.fr eD Zo
   have QP:lm X b4 bx r SK:=IF.ad (dK r Zo) (λe H=>by have:=Ba e (w6 e H);exact dK e Zo)
   have apZ:cR X b4 y ao.right (.ptr eo 0):=cR.ad (λe H=>by have:=Ba e (pS e (qt e H));exact dK e Zo) _ _ mM
   refine c1 @t0 (bR d8) ⟨?_⟩
   refine(amL (bx:=bx) (P:=λe=>P e\/cW (j+1) bc e) (eN:=bc) az eH ch bs (λe H=> .inl (w6 e H)) (SizeOf.sizeOf ao.right+1) ao.right (Yq _) (Mk ao (Zn b6)) y (.ptr eo 0) b4 (cj+1) SK (λe H=>FG e (qt e H)) Zo aoF QP apZ).mono ?_ ?_
   ·rintro ae cu e1 ⟨eY,SL,iV,yZ,JB,FD,ML,arW,ev⟩
    have nE:=ev.le
    have aay:cf X [r] bw db cu e1:=eD.trans (ev.down Zo (λb ai=> .inl ai))
    have aoG:=QG.fr aay Zo
    have eQ:ab X cu cj=zs [l3,nM, .Z ao.at_, .ptr eo 0] 4:=by rw[ev.ad cj Zo (by simp;omega)];exact d8
    have abD:=hz.len
    have aqz:=hz.many
    simp only[ib,Zi]at abD aqz
    have asZ:∀e,bv e->ab X cu e=ab X bS e:=λe H=>by have:=Ba e (pS e H);rw[ev.ad e Zo (by simp[this.2]),dK e Zo]
    refine c1 (bR eQ) @abD ⟨?_⟩
    refine fC (λm M U aV=>∃(i:Nat) (s:J) (cM:List Nat),M.g 0=some (.ptr b1 0)/\M.g 9=some (.ptr cj 0)/\M.g 10=some ae/\M.g 11=some s/\M.g 52=some eR/\M.g 53=some (.Z (g.eqs.length:Int))/\M.g 54=some (.Z (aa:Int))/\M.g 63=some l3/\M.g 64=some (.Z (ao.left.length:Int))/\M.g 65=some (.Z (i:Int))/\i+m=ao.left.length/\gC X U s 3 (l7 ((ao.left.take i).map (jg t))).flatten cM/\(∀e∈cM,e1<=e/\e<aV)/\bh X cu e1 U aV)
     ao.left.length ⟨0, .aU,[],aQ t0,bp,bp,bp,aQ xU,aQ qb,aQ ko,bp,bp,fQ,Zo, .inl (.inl ⟨rfl,rfl,rfl⟩),Zs,bh.refl _ _⟩ ?_
    clear t0 xU qb ko
    rintro f1 M d4 fd ⟨i,s,cM,t0,t9,nP,oy,xU,qb,ko,Ce,iA,j7,aN,aI,fj,gy⟩
    have vb:=gy.le
    have aar:=aoG.fr (cf.of (X:=[r]) gy) Zo
    have h4:ab X d4 cj=zs [l3,nM, .Z ao.at_, .ptr eo 0] 4:=by rw[gy.ad cj Zo];exact eQ
    have Sr:∀e,bv e->ab X d4 e=ab X bS e:=λe H=>by have:=Ba e (pS e H);rw[gy.ad e Zo,asZ e H]
    cases f1 with
    |zero=>
     have d:=zp i ao.left.length
     rw[ZB Zo]at aI
     obtain⟨ak2,bI⟩:=aI.rH (P:=λe=>e<fd) Zd (Ew _) (by simp[l7];omega) (λe H=>(fj e H).2)
     have acm:jO X d4 (λe=>e<fd) s (ao.left.map (jg t)):=⟨ak2,bI⟩
     have y0:=acm.rd.len
     rw[Zi]at y0
     have Dw:jO X d4 (λe=>e<fd) ae eY:=JB.ad (λe H=>gy.ad e H.2) (λe H=>zo H.2)
     have xi:al X d4 (.ptr eo 0)=some (.Z ao.right.kind):=zz (Sr eo (qt eo I3)) o3
     have gJ:cf X [r] bw db d4 fd:=aay.trans (cf.of (gy.j3 Zo))
     have I1:rj aq t ao=if (1<ao.left.length/\ao.right.kind≠25)\/eY≠ao.left.map (jg t)then some ao.at_ else none:=by unfold rj;rw[iV]
     have fin:∀{dM:V an}{jf:Nat},cf X [r] bw db dM jf->rj aq t ao=some ao.at_->xD aq g=some ao.at_/\cf X [r,b1] h j dM jf:=λhb bA=>⟨by rw[xm];exact LK b6 lv bA,eI.trans (hb.down (Zl _) (λb ai=> .inl (by simp at ai;simp[ai])))⟩
     by_cases m9:1<ao.left.length/\ao.right.kind≠25
     ·have sa:decide ((ao.left.length:Int)>1)=true:=by simp only[Zg];omega
      have r9:decide (ao.right.kind≠25)=true:=by simp[m9.2]
      refine eu @j7 @iA @d @oy @y0 @sa (Za @t9 (Za (bR h4) (Za @xi @r9))) ⟨?_⟩
      refine(If az Zo ao.at_).mono (λ_ _ _ a=>a) ?_
      rintro ae dM jf ⟨rfl,kt⟩
      obtain⟨eS,e2⟩:=fin (gJ.trans (cf.of kt)) (by rw[I1,Zr (.inl m9)])
      exact⟨_,eS,rfl,e2⟩
     ·apply Lm
      ·intro eE
       by_cases pX:1<ao.left.length
       ·have sa:decide ((ao.left.length:Int)>1)=true:=by simp only[Zg];omega
        have r9:decide (ao.right.kind≠25)=false:=by simp only[Zb];exact λa=>m9 ⟨pX,a⟩
        refine eu @j7 @iA @d @oy @y0 @sa (Za @t9 (Za (bR h4) (Za @xi @r9))) ⟨?_⟩
        exact eE.out
       ·have sa:decide ((ao.left.length:Int)>1)=false:=by simp only[Zb];omega
        refine iu @j7 @iA @d @oy @y0 @sa ⟨?_⟩
        exact eE.out
      ·refine c1 @nP @oy ⟨?_⟩
       refine(XQ (P:=λe=>e<fd) az Zo Dw acm (λe a=>a)).Zm ?_
       rintro TZ dM jf ⟨rfl,kt⟩
       have tO:=kt.le
       have hb:cf X [r] bw db dM jf:=gJ.trans (cf.of kt)
       by_cases Mi:eY=ao.left.map (jg t)
       ·have PK:decide (eY=ao.left.map (jg t))=true:=by simp[Mi]
        have aa1:rj aq t ao=none:=by rw[I1,Zh];exact λa=>a.elim m9 (λa=>a Mi)
        refine d9 @PK @ko @bH ⟨?_⟩
        have Ix:=gy.trans kt
        have acK:∀e,bv e->ab X dM e=ab X bS e:=λe H=>by have:=Ba e (pS e H);rw[kt.ad e Zo,Sr e H]
        refine⟨m,Zo,aa+1,aQ t0,aQ xU,aQ qb,bp,Zo,⟨by rw[Ij b6 lv];exact aa1,hb,SL,λe=>q6 e/\¬y e,FD.ad (Ix.ad r Zo) (λe H=>by have:=Ba e (w6 e H);exact Ix.ad e Zo),λe H=>(ML e (λa=>H (qt e a))).trans (abB e H),λe H=>yE e H.1,Rh.ad (λe H=>acK e (yE e H.1)) (λ_ a=>a), ?_⟩⟩
        rw[nG,xs]
        refine td.snoc (v:= .ptr eo 0) rfl aa1 (jy.ad (λe H=>by have:=Ba e (pS e (qt e H));exact Ix.ad e Zo) (λe H=>Ix.ad e H.2) (λ_ _=>rfl) (λe H=>⟨qt e H,λa=>a.2 H⟩) (λe H=>⟨zo H.1,zo H.2⟩) _ _ arW) (Bv.ad (λe H=>acK e H.1) (λe H=> ?_) (λe H=>ML e (λa=>H.2 (FF e a))) (λe H=>⟨H.1,λa=>H.2 a.1⟩) (λe H=>⟨H.1,zo H.2⟩))
        have T:=H.1;have W:=H.2
        rw[Ix.ad e Zo,ev.ad e Zo (by simp;omega),dK e W]
       ·have PK:decide (eY=ao.left.map (jg t))=false:=by simp[Mi]
        have mG:ab X dM cj=zs [l3,nM, .Z ao.at_, .ptr eo 0] 4:=by rw[kt.ad cj Zo];exact h4
        refine d9 @PK @t9 (bR mG) ⟨?_⟩
        refine(If az Zo ao.at_).mono (λ_ _ _ a=>a) ?_
        rintro ae hj eb ⟨rfl,uS⟩
        obtain⟨eS,e2⟩:=fin (hb.trans (cf.of uS)) (by rw[I1,Zr (.inr Mi)])
        exact⟨_,eS,rfl,e2⟩
    |succ f1=>
     have d:=zq i ao.left.length
     have cP:=zt i
     obtain⟨w,bI⟩:=zr ao.left i
     have Bx:=hz.e9 i (by simp[ib];omega)
     have Dy:=(hz.ad (λe H=>Sr e (qt e H))).cell i [.str w] 0 (.str w) (by simp[ib,bI]) rfl
     rw[Yh]at Bx Dy
     rw[ZT]at Dy
     have yX:ao.left.take (i+1)=ao.left.take i++[w]:=by rw[Z0,bI];rfl
     refine eu @j7 @iA @Ce @d @Bx @Dy (Za @oy @t0) ⟨?_⟩
     refine(Kh (j:=fd) (P:=λe=>P e\/cW (j+1) bc e) az Zo Zo aar.E8.dZ aar.oz (λe H=>zo (Iz.bB e H).2.1) w).Zm ?_
     rintro TZ dM jf ⟨rfl,kt⟩
     have tO:=kt.le
     refine ce dn.eq_1 ⟨?_⟩
     generalize rq:Go.bk.bo X dM jf _=hj
     have ha:ab X hj jf=zs (dn (jg t w)) 3:=by rw[<-rq,bi Zo];rfl
     have mo:∀e,e<jf->ab X hj e=ab X dM e:=λe H=>by rw[<-rq,aG Zo Zo]
     clear rq
     obtain⟨fg,x9,gG,iv,Jw,apu,u9⟩:=On (j:=jf+1) (aI.ad (U:=hj) (λe H=>by have:=fj e H;rw[mo e Zo,kt.ad e this.2])) ha (by rw[Zi,YW];omega) Zo (λe H=>zo (fj e H)) 1
     refine ky iv ?_
     refine c1 @j7 @cP ⟨?_⟩
     refine⟨f1,Zo,i+1,fg,gG,aQ t0,aQ t9,aQ nP,bp,aQ xU,aQ qb,aQ ko,aQ Ce,aQ iA,bp,Zo, ?_,λe H=> ?_,⟨Zo,λe H=> ?_⟩⟩
     ·rw[yX,Yw];exact Jw
     ·rcases apu e H with rfl|a
      ·omega
      ·have:=fj e a;omega
     ·rw[u9 e Zo (λa=>zo (fj e a)),mo e Zo,kt.ad e Zo];exact gy.ad e H
   ·rintro ae cu e1 ⟨K,aE,rfl,ev⟩
    exact⟨K,by rw[xm];exact LK b6 lv (by unfold rj;rw[aE]),rfl,eI.trans ((eD.trans ev).down (Zl _) (λb ai=> .inl (by simp at ai;simp[ai])))⟩
end
section
variable{X:co}{h U a6 aR:V an}{j ar aJ bc:Nat}{P dq:Nat->Prop}
def SP(p:J):lK X h 65 p=al X h p:=Zk
def W3:∃fn c,(q X).P.funcs[76]? =some fn/\fn.body=some c:=LO (OX X)
def awc(az:dx X){K b:J}{bv:Bool->V an->Nat->Prop}(a:bv false h j):tp X (.func 76) ([]++[K,b]) none h j bv:=by
 refine⟨az.none _ _ rfl,W3,LP (OX X) ?_⟩
 show yt X 76 [K,b] none h j bv
 rw[Wc]
 unfold OW
 show aT _ _
 refine ce @XP ⟨?_⟩
 exact a
def awd(az:dx X){K b:Nat}{F at_:Int}{dy dZ:V J}{bv:Bool->V an->Nat->Prop}(aM:(q X).ba<=K)(k6:(q X).ba<=b)(yG:K≠b)(C4:K<j)(xc:b<j)(ha:ab X h K=some (.cells dy 1 .own))(oU:ab X h b=some (.cells dZ 2 .own))
 (a:∀U aV,j<=aV->al X U (.ptr K 0)=some .cy->bM X U 2 (.ptr b 0)=some (.agg [.Z F, .Z at_])->(∀e,e<j->e≠K->e≠b->ab X U e=ab X h e)->bv true U aV):tp X (.func 76) ([]++[.ptr K 0, .ptr b 0]) (some (oS F at_)) h j bv:=by
 refine⟨az.none _ _ rfl,W3,LP (OX X) ?_⟩
 show yt X 76 [.ptr K 0, .ptr b 0] (some (oS F at_)) h j bv
 rw[Wc]
 unfold OW
 show aT _ _
 have Pg:ET 26 (.agg [.Z 0, .Z 0]) true (oS F at_)=some (.tuple [.agg [.Z F, .Z at_], .bool true]):=r6 _ _ _
 have Ea:∀(M:dY) (n:Nat),(N8 M).g n=M.g n:=λ_ _=>rfl
 refine d9 @XO @Pg @Ea ⟨?_⟩
 generalize ea:bo X _ j _=a6
 have b5:ab X a6 j=zs [.Z F, .Z at_] 2:=by rw[<-ea,bi Zo];rfl
 have T:∀e,e<j->ab X a6 e=ab X h e:=λe H=>by rw[<-ea];exact zu
 rw[<-T K C4]at ha
 rw[<-T b xc]at oU
 clear ea
 refine c1 (bR b5) @Ea ⟨?_⟩
 refine gs (by simp[J.same,nK,pt]) ?_
 generalize d2:bo X a6 K _=aR
 have cd:ab X aR K=some (.cells (d3 dy 0 [.cy]) 1 .own):=by rw[<-d2,bi aM];rfl
 have W:∀e,e≠K->ab X aR e=ab X a6 e:=λe H=>by rw[<-d2,aG aM H]
 rw[<-W b Zo]at oU
 clear d2
 refine ts @Ea ⟨?_⟩
 refine fS (im (F:=2) (b:=b) (Y:=0) (n:=2) oU k6 rfl Zd Zd rfl) ?_
 show bv true _ _
 refine a _ _ Zo ?_ ?_ (λe H Sf gh=> ?_)
 ·rw[bR (by rw[aG k6 yG];exact cd),kA];rfl
 ·rw[oj,bR (bi k6),bR (bi k6),kA,kA];rfl
 ·rw[aG k6 gh,W e Sf,T e H]
def awt{ak:bJ}{M:dY}{p ao v w:J}(mm:M.bg=[])(W:M.g 2=some p)(au:M.g 3=some ao)(en:al X h p=some v)(c5:bM X h 2 ao=some w)(a:ak (.tuple [v,w]) h j):G8 X ak M h j:=by
 unfold G8
 rw[mm]
 show aj (M.g 2) (λp=>E (lK X h 65 p) λv=>aj (M.g 3) λp=>E (lK X h 26 p) λw=>ak (.tuple [v,w]) h j)
 rw[W,au]
 refine lA ?_
 rw[SP,en]
 refine lB ?_
 refine lA ?_
 rw[GD,c5]
 exact lB a
def awu{ak:bJ}{M:dY}{p ao v w K b:J}(az:dx X)(mm:M.bg=[⟨.fn (.func 76) [K,b],[]⟩])(W:M.g 2=some p)(au:M.g 3=some ao)(en:al X h p=some v)(c5:bM X h 2 ao=some w)(a:ak (.tuple [v,w]) h j):G8 X ak M h j:=by
 unfold G8
 rw[mm]
 show tp X (.func 76) ([]++[K,b]) none h j λ_ h j=>nj X [.cell 2 65, .cell 3 26] ak M [] h j
 refine awc az ?_
 show aj (M.g 2) (λp=>E (lK X h 65 p) λv=>aj (M.g 3) λp=>E (lK X h 26 p) λw=>ak (.tuple [v,w]) h j)
 rw[W,au]
 refine lA ?_
 rw[SP,en]
 refine lB ?_
 refine lA ?_
 rw[GD,c5]
 exact lB a
def avo{ak ay:bJ}{M:dY}{K b:Nat}{F at_:Int}{dy dZ:V J}(az:dx X)(mm:M.bg=[⟨.fn (.func 76) [.ptr K 0, .ptr b 0],[]⟩])(W:M.g 2=some (.ptr K 0))(au:M.g 3=some (.ptr b 0))
 (aM:(q X).ba<=K)(k6:(q X).ba<=b)(yG:K≠b)(C4:K<j)(xc:b<j)(ha:ab X h K=some (.cells dy 1 .own))(oU:ab X h b=some (.cells dZ 2 .own))
 (a:∀U aV,j<=aV->(∀e,e<j->e≠K->e≠b->ab X U e=ab X h e)->ak (.tuple [.cy, .agg [.Z F, .Z at_]]) U aV):NQ X ak ay M (oS F at_) h j:=by
 unfold NQ
 rw[mm]
 show tp X (.func 76) ([]++[.ptr K 0, .ptr b 0]) (some (oS F at_)) h j λb h j=>bV b (nj X [.cell 2 65, .cell 3 26] ak M [] h j) _
 refine awd az aM k6 yG C4 xc ha oU (λU aV gE en c5 aL=> ?_)
 show aj (M.g 2) (λp=>E (lK X U 65 p) λv=>aj (M.g 3) λp=>E (lK X U 26 p) λw=>ak (.tuple [v,w]) U aV)
 rw[W,au]
 refine lA ?_
 rw[SP,en]
 refine lB ?_
 refine lA ?_
 rw[GD,c5]
 exact lB (a U aV gE aL)
def Cp.ad{aq:List Go.aZ.Node}{cV ju:Nat->Option J}{q4 ra:Nat->Prop}{g:Go.aZ.Node}{row:List J}(a:Cp X h aq cV P dq g row)(F:∀e,P e->ab X U e=ab X h e)(sH:∀e,dq e->ab X U e=ab X h e)(aD:∀e,P e->ju e=cV e)(aA:∀e,P e->q4 e)(H:∀e,dq e->ra e):Cp X U aq ju q4 ra g row:=by
 obtain⟨ch,cY,df,a8,eR,cT,dL,et,ig,bF,T,W,au,aP,bK,cr,dP⟩:=a
 exact⟨ch,cY,df,a8,eR,cT,dL,et,ig,bF,T,(W.ad F).lift aA,(au.ad F).lift aA,(aP.ad F).lift aA,(bK.ad F).lift aA,cr.ad F aA,dP.ad F sH aD aA H⟩
def tc(X:co)(h:V an)(aq:List Go.aZ.Node)(cV:Nat->Option J)(P dq:Nat->Prop):List Go.aZ.Node->List (List J)->Prop
 |[],bF=>bF=[]
 |g::l,bF=>∃row hh,bF=row::hh/\Cp X h aq cV P dq g row/\tc X h aq cV P dq l hh
def tc.ad{aq:List Go.aZ.Node}{cV ju:Nat->Option J}{q4 ra:Nat->Prop}(F:∀e,P e->ab X U e=ab X h e)(sH:∀e,dq e->ab X U e=ab X h e)(aD:∀e,P e->ju e=cV e)(aA:∀e,P e->q4 e)(H:∀e,dq e->ra e):∀{l:List Go.aZ.Node}{bF:List (List J)},tc X h aq cV P dq l bF->tc X U aq ju q4 ra l bF:=by
 intro l
 induction l with
 |nil=>intro bF a;exact a
 |cons g l am=>
  rintro bF ⟨row,hh,T,W,au⟩
  exact⟨row,hh,T,W.ad F sH aD aA H,am au⟩
def tc.snoc{aq:List Go.aZ.Node}{cV:Nat->Option J}{g:Go.aZ.Node}{row:List J}(a:Cp X h aq cV P dq g row):∀{l:List Go.aZ.Node}{bF:List (List J)},tc X h aq cV P dq l bF->tc X h aq cV P dq (l++[g]) (bF++[row]):=by
 intro l
 induction l with
 |nil=>rintro bF rfl;exact⟨row,[],rfl,a,rfl⟩
 |cons K l am=>
  rintro bF ⟨qV,hh,rfl,W,au⟩
  exact⟨qV,hh++[row],rfl,W,am au⟩
def af5(X:co)(h:V an)(aq:List Go.aZ.Node)(cV:Nat->Option J)(P dq:Nat->Prop)(p:J):Prop:=∃b a8 cD bF,p= .ptr b 0/\P b/\al X h (.ptr b 0)=some a8/\d1 X h P cD a8 6 bF/\tc X h aq cV P dq aq bF
def sX(aq:List Go.aZ.Node):Int×Int:=if (uB aq).1≠0 then uB aq else match KG aq with|some K=>(26,K)|none=>(0,0)
def ajT(X:co)(h:V an)(aq:List Go.aZ.Node)(P dq:Nat->Prop)(p v:J):Prop:=∃ao r cV,v= .ptr ao 0/\dq ao/\dq r/\al X h (.ptr ao 0)=some (.map r)/\lm X h P r cV/\af5 X h aq cV P dq p
def Hp(X:co)(h:V an)(aq:List Go.aZ.Node)(P dq:Nat->Prop)(p ae:J):Prop:=if (sX aq).1=0 then ∃v,ae= .tuple [v, .agg [.Z 0, .Z 0]]/\ajT X h aq P dq p v else ae= .tuple [.cy, .agg [.Z (sX aq).1, .Z (sX aq).2]]
def EC.ad{eN b1 ao r:Nat}{p:J}{aq:List Go.aZ.Node}(a:EC X h eN P b1 ao r p aq)(F:∀e,e<eN->e≠r->e≠b1->ab X U e=ab X h e)(b0:∃c,ab X U b1=some (.cells c 3 .own)/\c.get 0=some (.ptr ao 0)/\c.get 1=some p):EC X U eN P b1 ao r p aq:=
 ⟨a.ba,a.lc,a.vK,a.t8,a.Kf,a.adA,a.Fc,a.qr,a.PB,a.bB,b0,zz (F ao a.vK a.qr a.PB) a.Ev,a.prog.ad (λe H=>by have:=a.bB e H;exact F e this.2.1 this.2.2.1 this.2.2.2) (λ_ a=>a)⟩
set_option maxRecDepth 100000 in
def alj(az:iS X)(bX:ma X)(e3:rW X)(iW:x3 X)(eH:ED X){aq:List Go.aZ.Node}{p:J}(aM:(q X).ba<=j)(b0:ns X h P aq p)(bB:∀e,P e->(q X).ba<=e/\e<j)(bI:∀g∈aq,nr kr g)(ch:aq≠[])(aD:qM aq=none):
 aW X 31 [p] h j (λae U ar=>Hp X U aq P (cW j ar) p ae/\bh X h j U ar) (λ_ _ _=>False):=by
 refine HV (ai3 X) (az.todx.none _ _ rfl) ?_
 rw[ai4]
 unfold VW
 obtain⟨pX,mK⟩:=Nr aD
 refine cS ⟨?_⟩
 refine fk (λa6=>ab X a6 j=zs [.cy] 1/\ab X a6 (j+1)=zs [.Z 0, .Z 0] 2/\bh X h j a6 (j+1+1)) ⟨by simp(disch:=omega) only[aG,bi]<;>rfl,by rw[bi Zo];rfl,dR⟩ ?_
 rintro a6 ⟨b5,cd,bT⟩
 refine(alk (j:=j+1+1) az bX e3 iW Zo (b0.ad (bv:=P) (λe H=>bT.ad e (bB e H).2) (λ_ a=>a)) (λe H=>zo (bB e H).2) bI ch aD).Zm ?_
 rintro ae aR bc ⟨rfl,bC⟩
 have f5:=bC.le
 have c0:ab X aR j=zs [.cy] 1:=by rw[bC.ad _ Zo];exact b5
 have el:ab X aR (j+1)=zs [.Z 0, .Z 0] 2:=by rw[bC.ad _ Zo];exact cd
 have jb:=bT.trans bC
 clear b5 cd bT bC
 have lW:(uB aq).1≠0->sX aq=uB aq:=λa=>by unfold sX;rw[Zr a]
 have Jr:(uB aq).1=0->sX aq=match KG aq with|some K=>(26,K)|none=>(0,0):=λa=>by unfold sX;rw[Zh (by simp[a])]
 generalize uB aq=E8 at lW Jr ⊢
 obtain⟨cc,tk⟩:=E8
 simp only at lW Jr
 by_cases aB:cc=0
 ·have Bp:=Jr aB
  subst aB
  clear lW Jr
  have d:decide ((0:Int)≠0)=false:=rfl
  refine ce @d ⟨?_⟩
  generalize fl:Go.bk.bo X _ bc _=a7
  have c7:∀e,e<bc->ab X a7 e=ab X aR e:=λe H=>by rw[<-fl];exact zu
  clear fl
  rw[<-c7 j Zo]at c0
  rw[<-c7 (j+1) Zo]at el
  have DD:∀e,e<j->ab X a7 e=ab X h e:=λe H=>by rw[c7 e Zo];exact jb.ad e H
  have Rj:=b0.ad (U:=a7) (bv:=P) (λe H=>DD e (bB e H).2) (λ_ a=>a)
  obtain⟨hq,vR,pq,bF,rfl,k1,a0,cG,k7⟩:=Rj
  have FW:=k7.wide
  have ew:=cG.len
  have h7:=cG.many
  rw[FW.1]at ew h7
  have Dl:=bB hq k1
  refine Xs ?_
  generalize hG:Af _ _=ut
  have kz:ut.bg=[⟨.fn (.func 76) [.ptr j 0, .ptr (j+1) 0],[]⟩]:=by rw[<-hG];rfl
  have t0:ut.g 0=some (.ptr hq 0):=by rw[<-hG];rfl
  have eF:ut.g 2=some (.ptr j 0):=by rw[<-hG];rfl
  have t3:ut.g 3=some (.ptr (j+1) 0):=by rw[<-hG];rfl
  clear hG
  generalize yP:bc+1=bd at*
  refine fW @t0 @eF @c0 @a0 @ew ⟨?_⟩
  generalize eB:Go.bk.bo X _ (bd+1+1) _=bw
  have wY:ab X bw bd=some (.map [] 0):=by rw[<-eB];simp(disch:=omega) only[bi,aG]
  have Ip:ab X bw (bd+1)=zs [.map bd] 1:=by rw[<-eB];simp(disch:=omega) only[bi,aG]<;>rfl
  have ι:ab X bw (bd+1+1)=zs [.ptr (bd+1) 0, .ptr hq 0, .cy] 3:=by rw[<-eB,bi Zo];rfl
  have an0:ab X bw j=some (.cells (d3 (V.ofList [.cy] 0 .nil) 0 [.ptr (bd+1) 0]) 1 .own):=by rw[<-eB];simp(disch:=omega) only[bi,aG]<;>rfl
  have d5:∀e,e<bd->e≠j->ab X bw e=ab X a7 e:=λe T W=>by rw[<-eB];exact zu
  clear eB
  have anZ:ab X bw (j+1)=zs [.Z 0, .Z 0] 2:=by rw[d5 _ Zo Zo];exact el
  have la:∀e,P e->ab X bw e=ab X a7 e:=λe H=>by have:=bB e H;exact d5 e Zo Zo
  have abK:=k7.ad (U:=bw) (bv:=P) la (λ_ a=>a)
  have aoA:EC X bw (bd+1+1+1) P (bd+1+1) (bd+1) bd (.ptr hq 0) aq:=⟨Zo,Zo,Zo,Zo,Zo,Zo,Zo,Zo,Zo,λe H=>by have:=bB e H;exact⟨this.1,Zo,Zo,Zo⟩,⟨_,ι,rfl,rfl⟩,by rw[bR Ip];rfl,⟨hq,vR,pq,bF,rfl,k1,zz (la hq k1) a0,cG.ad la,abK⟩⟩
  have aoT:lm X bw P bd (λ_=>none):=⟨[],0,wY,λ_=>rfl,Zs⟩
  refine fC (λm M U aV=>∃(aa:Nat) (cV:Nat->Option J) (Hx:Nat->Prop),M.g 5=some (.ptr (bd+1+1) 0)/\M.g 25=some vR/\M.g 26=some (.Z (aq.length:Int))/\M.g 27=some (.Z (aa:Int))/\M.bg=[⟨.fn (.func 76) [.ptr j 0, .ptr (j+1) 0],[]⟩]/\M.g 2=some (.ptr j 0)/\M.g 3=some (.ptr (j+1) 0)/\aa+m=aq.length/\(aq.take aa).findSome? (xD aq)=none/\(∃c,ab X U (bd+1+1)=some (.cells c 3 .own)/\c.get 0=some (.ptr (bd+1) 0)/\c.get 1=some (.ptr hq 0))/\cf X [bd,bd+1+1] bw (bd+1+1+1) U aV/\lm X U P bd cV/\(∀e,Hx e->P e)/\oI X U Hx (aq.drop aa) (bF.drop aa)/\tc X U aq cV (λe=>P e/\¬Hx e) (cW (bd+1+1+1) aV) (aq.take aa) (bF.take aa))
   aq.length ⟨0,λ_=>none,P,bp,bp,bp,fQ,kz,aQ eF,aQ t3,Zo,rfl,⟨_,ι,rfl,rfl⟩,cf.refl _ _ _,aoT,λ_ a=>a,by simpa using abK,by rw[Z6,Z6];rfl⟩ ?_
  clear kz t0 eF t3 c0 el
  rintro m M bS cj ⟨aa,cV,Hx,t5,mz,lj,wb,KC,eF,t3,bL,lv,ml,dG,IF,QR,k3,Jz⟩
  have il:=dG.le
  have JQ:∀e,P e->ab X bS e=ab X a7 e:=λe H=>by have:=bB e H;rw[dG.ad e Zo (by simp;omega),la e H]
  have Qo:ab X bS j=some (.cells (d3 (V.ofList [.cy] 0 .nil) 0 [.ptr (bd+1) 0]) 1 .own):=by rw[dG.ad j Zo (by simp;omega)];exact an0
  have ρ:ab X bS (j+1)=zs [.Z 0, .Z 0] 2:=by rw[dG.ad (j+1) Zo (by simp;omega)];exact anZ
  have Ry:∀e,e<j->ab X bS e=ab X h e:=λe H=>by rw[dG.ad e Zo (by simp;omega),d5 e Zo Zo,DD e H]
  cases m with
  |zero=>
   have d:=zp aa aq.length
   rw[ZB Zo]at lv
   rw[ZB Zo,ZB Zo]at Jz
   have kj:KG aq=none:=lv
   rw[kj]at Bp
   simp only[]at Bp
   have gM:al X bS (.ptr j 0)=some (.ptr (bd+1) 0):=by rw[bR Qo,kA];rfl
   refine eu @wb @lj @d @eF @gM @Qo (Za @t3 @ρ) ⟨?_⟩
   generalize gd:Go.bk.bo X _ (j+1) _=b4
   have f2:ab X b4 j=some (.cells (d3 (d3 (V.ofList [.cy] 0 .nil) 0 [.ptr (bd+1) 0]) 0 [.ptr (bd+1) 0]) 1 .own):=by rw[<-gd];simp(disch:=omega) only[bi,aG]<;>rfl
   have fF:ab X b4 (j+1)=some (.cells (d3 (V.ofList [.Z 0, .Z 0] 0 .nil) 0 [.Z 0, .Z 0]) 2 .own):=by rw[<-gd,bi Zo];rfl
   have z3:∀e,e≠j->e≠j+1->ab X b4 e=ab X bS e:=λe T W=>by rw[<-gd];exact zu
   clear gd
   have qJ:∀e,P e->ab X b4 e=ab X bS e:=λe H=>by have:=bB e H;exact z3 e Zo Zo
   have ax6:al X b4 (.ptr (bd+1) 0)=some (.map bd):=by rw[cg,z3 _ Zo Zo,dG.ad (bd+1) Zo Zs, <-cg,bR Ip];rfl
   refine awu (v:= .ptr (bd+1) 0) (w:= .agg [.Z 0, .Z 0]) az.todx KC (aQ eF) (aQ t3) (by rw[bR f2,kA];rfl) (by rw[oj,bR fF,bR fF,kA,kA];rfl) ⟨?_,Zo,λe H=>by rw[z3 e Zo Zo];exact Ry e H⟩
   unfold Hp
   rw[Zr (by rw[Bp])]
   exact⟨_,rfl,bd+1,bd,cV,rfl,⟨Zo,Zo⟩,⟨Zo,Zo⟩,ax6,IF.ad (z3 _ Zo Zo) qJ,⟨hq,vR,pq,bF,rfl,k1,by rw[cg,qJ hq k1,JQ hq k1, <-cg];exact a0,cG.ad (λe H=>by rw[qJ e H,JQ e H]),Jz.ad (λe H=>qJ e H.1) (λe H=>z3 e (zo H.1) (zo H.1)) (λ_ _=>rfl) (λe H=>H.1) (λe H=>⟨zo H.1,H.2⟩)⟩⟩
  |succ m=>
   have d:=zq aa aq.length
   have bH:=zt aa
   obtain⟨g,nC⟩:=zr aq aa
   have u4:=Zn nC
   have aO:aq.drop aa=g::aq.drop (aa+1):=by
    obtain⟨ah,H⟩:=Zc.1 nC
    rw[Zw ah,H]
   rw[aO]at k3
   obtain⟨row,hh,bv,Dr,gD,kh,apk⟩:=k3
   have Dp:bF[aa]? =some row:=by
    have:(bF.drop aa)[0]? =some row:=by rw[Dr];rfl
    simpa using this
   have sz:hh=bF.drop (aa+1):=by
    obtain⟨ah,H⟩:=Zc.1 Dp
    rw[Zw ah]at Dr
    simp only[YI]at Dr
    exact Dr.2.symm
   subst sz
   have pS:∀e,bv e->P e:=λe H=>QR e (gD e H)
   have dQ:=cG.e9 aa (by rw[FW.1];omega)
   have hS:=(cG.ad JQ).row Zd Dp
   have jY:=kh.jI
   have Di:=kh
   have nG:aq.take (aa+1)=aq.take aa++[g]:=by rw[Z0,nC];rfl
   have xs:bF.take (aa+1)=bF.take aa++[row]:=by rw[Z0,Dp];rfl
   obtain⟨cY,df,hL,eR,cT,dL,et,ig,hh,rfl,_⟩:=kh
   refine iu @wb @lj @mz @d @dQ @hS ⟨?_⟩
   refine fS (im (F:=6) (b:=cj) (Y:=0) (n:=6) (c:=V.ofList [.str [], .Z 0, .aU, .aU, .aU, .aU] 0 .nil) (bi Zo) Zo rfl Zd Zd jY) ?_
   generalize gd:Go.bk.bo X _ cj _=b4
   have d8:ab X b4 cj=zs [.str g.name, .Z g.at_,cY,df,hL,eR] 6:=by rw[<-gd,bi Zo];rfl
   have dK:∀e,e<cj->ab X b4 e=ab X bS e:=λe H=>by rw[<-gd];exact zu
   clear gd
   have dV:EC X b4 (bd+1+1+1) P (bd+1+1) (bd+1) bd (.ptr hq 0) aq:=aoA.ad (λe T W au=>by rw[dK e Zo];exact dG.ad e T (by simp;exact⟨W,au⟩)) (by rw[dK _ Zo];exact ml)
   have QP:lm X b4 P bd cV:=IF.ad (dK _ Zo) (λe H=>by have:=bB e H;exact dK e Zo)
   have eD:cf X [bd,bd+1+1] bw (bd+1+1+1) b4 (cj+1):=⟨Zo,λe T W=>by rw[dK e Zo];exact dG.ad e T W⟩
   refine c1 @t5 (bR d8) ⟨?_⟩
   refine(auJ (j:=cj+1) (bx:=P) (P:=P) (bv:=bv) az.todx eH ch (λg b0=>zo (mK g b0).vars) (λ_ a=>a) pS Zo dV QP (Di.ad (bv:=bv) (λe H=>by have:=bB e (pS e H);exact dK e Zo) (λ_ a=>a)) (λao b6=>((bI g u4).eqs ao b6).right) (by rw[Ia];have:=(mK g u4).vars;simp only[po];omega)).mono ?_ ?_
   ·rintro ae cu e1 ⟨rfl,apE,SL,FD,ML,aaG,ev⟩
    have nE:=ev.le
    have acT:∀e,e<cj->e≠bd->e≠bd+1+1->ab X cu e=ab X bS e:=λe T W au=>by rw[ev.ad e Zo (by simp;exact⟨W,au⟩),dK e T]
    have tY:∀e,P e->ab X cu e=ab X bS e:=λe H=>by have:=bB e H;exact acT e Zo Zo Zo
    refine c1 @wb @bH ⟨?_⟩
    refine⟨m,Zo,aa+1,SL,λe=>Hx e/\¬bv e,aQ t5,aQ mz,aQ lj,bp,KC,aQ eF,aQ t3,Zo,by rw[Ij nC lv];exact aaG.1,apE,eD.trans (ev.down Zo (λb ai=> .inl ai)),FD,λe H=>QR e H.1,apk.ad (λe H=>tY e (QR e H.1)) (λ_ a=>a), ?_⟩
    rw[nG,xs]
    exact tc.snoc (aaG.ad (λ_ _=>rfl) (λ_ _=>rfl) (λ_ _=>rfl) (λe H=>⟨pS e H,λa=>a.2 H⟩) (λe H=>⟨zo H.1,H.2⟩)) (Jz.ad (λe H=>tY e H.1) (λe H=>acT e H.2 (zo H.1) (zo H.1)) (λe H=>ML e (λa=>H.2 (gD e a))) (λe H=>⟨H.1,λa=>H.2 a.1⟩) (λe H=>⟨H.1,zo H.2⟩))
   ·rintro ae cu e1 ⟨K,aE,rfl,ev⟩
    have nE:=ev.le
    have kj:KG aq=some K:=LK nC lv aE
    rw[kj]at Bp
    simp only[]at Bp
    refine avo (dy:=d3 (V.ofList [.cy] 0 .nil) 0 [.ptr (bd+1) 0]) (dZ:=V.ofList [.Z 0, .Z 0] 0 .nil) az.todx KC (by have bs:om 2 [31,32,33]=false:=rfl;simp[qj,s0,eF,bs]) (by have bs:om 3 [31,32,33]=false:=rfl;simp[qj,s0,t3,bs]) aM Zo Zo Zo Zo ?_ ?_ (λU aV gE aL=>⟨?_,Zo,λe H=> ?_⟩)
    ·rw[ev.ad j Zo (by simp;omega),dK j Zo];exact Qo
    ·rw[ev.ad (j+1) Zo (by simp;omega),dK (j+1) Zo];exact ρ
    ·unfold Hp
     rw[Bp,Zh (show ¬(26:Int)=0 by decide)]
    ·rw[aL e Zo Zo Zo,ev.ad e Zo (by simp;omega),dK e Zo];exact Ry e H
 ·have Bp:=lW aB
  clear lW Jr
  have d:decide (cc≠0)=true:=by simp[aB]
  refine c1 @d @c0 ⟨?_⟩
  refine gs (by simp[J.same,nK,pt]) ?_
  refine ce @el ⟨?_⟩
  generalize fl:Go.bk.bo X _ (j+1) _=a7
  have f2:ab X a7 j=some (.cells (d3 (V.ofList [.cy] 0 .nil) 0 [.cy]) 1 .own):=by rw[<-fl];simp(disch:=omega) only[bi,aG]<;>rfl
  have fF:ab X a7 (j+1)=some (.cells (d3 (V.ofList [.Z 0, .Z 0] 0 .nil) 0 [.Z cc, .Z tk]) 2 .own):=by rw[<-fl,bi Zo];rfl
  have z3:∀e,e<j->ab X a7 e=ab X h e:=λe T=>by rw[<-fl];simp(disch:=omega) only[aG];exact jb.ad e T
  clear fl
  refine awt (v:= .cy) (w:= .agg [.Z cc, .Z tk]) rfl (fQ) (fQ) (by rw[bR f2,kA];rfl) (by rw[oj,bR fF,bR fF,kA,kA];rfl) ⟨?_,Zo,z3⟩
  unfold Hp
  rw[Bp,Zh aB]
end
end
end Go.Proofs.YtpfajohmofnkfaaGreatDoor

namespace Go.Proofs.YtpfajohmofnkfaaGreatDoor
open Go.bk
noncomputable section
variable (X : co) (h : V an) (j : Nat) (ak ay : bJ) (a0 bf ck a3 a4 a5 hv ic ir : J)
def V6(a:a2)(b:J)(c:V an)(d:Nat)(e f:bJ):Prop:=
 E (dI b) λg=>E (r7 a c .min [3,3] [g,(.Z 3000)]) λg=>E (s1 a c 1 b none (some g) none) λg=>aW a 15 [g] c d (λc d h=>E (cK 0 c) λi=>E (cK 1 c) λc=>E (dA [.cy] h) λj=>cH a d h j.1 j.2 λd h j=>E (dA [(.Z 0),(.Z 0)] j) λk=>cH a h j k.1 k.2 λh j k=>E (b8 a j 1 d i) λi=>E (b8 a i 2 h c) λc=>E (a1 0 h) λi=>E (al a c i) λi=>E (aC .neq i (.Z 0)) λi=>aT (λb c d=>aj (b 3) λg=>E (al a c g) λg=>E (dc a c .eql 23 true g .cy) λg=>aT (λb c d=>aj (b 3) λg=>E (al a c g) λg=>aW a 31 [g] c d (λc d g=>E (cK 0 c) λh=>E (cK 1 c) λc=>E (dA [.cy] g) λi=>cH a d g i.1 i.2 λd g i=>E (b8 a g 1 d h) λg=>aj (b 4) λh=>E (b8 a g 2 h c) λc=>aj (b 4) λg=>E (a1 0 g) λg=>E (al a c g) λg=>E (aC .neq g (.Z 0)) λg=>aT (λb c d=>aj (b 3) λg=>E (al a c g) λg=>E (cl g) λg=>E (a1 0 g) λg=>E (al a c g) λg=>E (dI g) λh=>aT (λ_ b c=>aW a 30 [] b c e f) λi=>fu (λb c d g=>aj (c 66) λh=>aj (c 65) λj=>E (aC .lss h j) λh=>aT (λc d g=>aT (λa c d=>aj (a 66) λe=>E (aC .add e (.Z 1)) λe=>b (ac a 66 e) c d) λb=>aj (c 64) λh=>aj (c 66) λi=>E (dd 6 h i) λh=>E (bM a d 6 h) λh=>E (dA [(.str []),(.Z 0), .aU, .aU, .aU, .aU] g) λi=>cH a d g i.1 i.2 λd g i=>E (b8 a g 6 d h) λg=>E (bM a g 6 d) λh=>aW a 32 [h] g i (λg h i=>E (dA [.cy] i) λj=>cH a h i j.1 j.2 λh i j=>E (b8 a i 1 h g) λg=>E (dA [.nilFunc] j) λi=>cH a g j i.1 i.2 λg i j=>E (b8 a i 1 g (.func (.func 33) [] [h])) λi=>E (a1 2 d) λk=>E (al a i k) λk=>E (a1 3 d) λl=>E (al a i l) λl=>E (a1 4 d) λm=>E (al a i m) λm=>E (eC [.aU, .aU, .aU] [(0,1,k),(1,1,l),(2,1,m)]) λk=>aT (λc d g=>aj (c 7) λh=>E (a1 5 h) λh=>E (al a d h) λh=>E (dI h) λi=>aT b λb=>fu (λc d g h=>aj (d 105) λi=>aj (d 104) λj=>E (aC .lss i j) λi=>aT (λb d g=>aT (λa b d=>aj (a 105) λe=>E (aC .add e (.Z 1)) λe=>c (ac a 105 e) b d) λc=>aj (b 103) λh=>aj (b 105) λi=>E (dd 4 h i) λh=>E (bM a d 4 h) λh=>E (dA [.aU, .aU,(.Z 0), .cy] g) λi=>cH a d g i.1 i.2 λd g i=>E (b8 a g 4 d h) λg=>E (dA [(.bool false)] i) λh=>cH a g i h.1 h.2 λg h i=>E (b8 a h 1 g (.bool true)) λh=>E (a1 3 d) λj=>E (al a h j) λj=>aj (b 5) λk=>aj (b 3) λl=>aj (b 9) λm=>aW a 18 [j,(.func (.func 35) [] [g,k,l,m])] h i (λ_ h i=>aj (b 5) λj=>E (al a h j) λj=>E (a1 3 d) λk=>E (al a h k) λk=>aW a 37 [j,k] h i (λh i j=>E (al a i g) λk=>E (fe .not k) λk=>hd k h i j (λi j l=>c9 k (dI i) j l (λi j l=>c9 k (a1 0 d) j l (λj l m=>c9 k (al a l j) l m (λj l m=>c9 k (dI j) l m (λj l m=>c9 k (aC .neq i j) l m (λi j l=>cU (λi=>aT (λb d g=>aj (b 15) λh=>E (a1 0 h) λh=>E (al a d h) λh=>E (dI h) λi=>aT c λc=>fu (λb d g h=>aj (d 130) λi=>aj (d 129) λj=>E (aC .lss i j) λi=>aT (λc d g=>aT (λa c d=>aj (a 130) λe=>E (aC .add e (.Z 1)) λe=>b (ac a 130 e) c d) λb=>aj (c 130) λh=>aj (c 128) λi=>aj (c 130) λj=>E (dd 1 i j) λi=>E (al a d i) λi=>eM (g+8) λg=>aj (c 17) λj=>E (dd 3 j h) λj=>E (bM a d 3 j) λk=>aj (c 9) λl=>E (al a d l) λl=>iw a l [i] d g (λd f g=>E (dc a f .neq 41 false k d) λd=>E (bM a f 3 j) λa=>gi a (some k) (aT b λa=>aX d (e (.bool false) f g) (a (zx c 18 h 19 i 142 d) f g))) f) λa=>aX i (a (ac d 131 i) g h) (c (ac d 131 i) g h)) (zx b 128 h 129 i 130 (.Z 0)) d g) λa=>aX i (e (.bool false) j l) (a (zy b 15 d 16 g 17 h 126 i) j l)) λa=>aX k (a (.bool true)) (a i)))))))) f) f) λa=>aX i (a (ac d 106 i) g h) (b (ac d 106 i) g h)) (zx c 103 h 104 i 105 (.Z 0)) d g) λb=>fu (λc d g h=>aj (d 80) λi=>E (aC .lss i (.Z 3)) λi=>aT (λb d g=>aT (λa b d=>aj (a 80) λe=>E (aC .add e (.Z 1)) λe=>c (ac a 80 e) b d) λc=>aj (b 79) λh=>aj (b 80) λi=>E (qI false 3 1 h i) λh=>E (dI h) λi=>aT c λc=>fu (λb d g h=>aj (d 85) λi=>aj (d 84) λj=>E (aC .lss i j) λi=>aT (λc d g=>aT (λa c d=>aj (a 85) λe=>E (aC .add e (.Z 1)) λe=>b (ac a 85 e) c d) λb=>aj (c 83) λh=>aj (c 85) λi=>E (dd 8 h i) λh=>E (bM a d 8 h) λh=>E (dA [(.str []),(.Z 0),(.bool false),(.bool false),(.Z 0),(.str []),(.Z 0),(.bool false)] g) λi=>cH a d g i.1 i.2 λd g i=>E (b8 a g 8 d h) λg=>E (a1 5 d) λh=>E (al a g h) λh=>E (dc a g .neq 9 true h (.str [])) λh=>DC h (c 9) (λb=>al a g b) g i (λg i j=>cN h (a1 5 d) i j (λi j k=>cN h (al a j i) j k (λi j k=>jZ h (λb=>iw a g [i] j k b f) j k (λa f g=>cN h (ny false 0 1 a) f g (λa f g=>cN h (fe .not a) f g (λa f g=>cU (λa=>aT b λb=>aX a (e (.bool false) f g) (b (zw c 13 d 99 a) f g)) λb=>aX h (b a) (b (.bool false))))))))) λa=>aX i (a (ac d 86 i) g h) (c (ac d 86 i) g h)) (zy b 11 h 83 h 84 i 85 (.Z 0)) d g) λa=>aX i (a (ac d 81 i) g h) (b (ac d 81 i) g h)) (ac (zy c 7 d 8 h 9 g 79 k) 80 (.Z 0)) i j) f) λa=>aX h (a (ac c 67 h) d g) (i (ac c 67 h) d g)) (zx b 64 g 65 h 66 (.Z 0)) c d) λh=>aX g (E (al a c d) λd=>E (dc a c .eql 65 true d .cy) λd=>DC d (b 4) (λa=>a1 1 a) c i (λc g h=>cN d (al a g c) g h (λc g h=>cN d (aC .geq c (.Z 0)) g h (λc g h=>cU (λc=>DC c (b 4) (λa=>a1 1 a) g h (λd g h=>cN c (al a g d) g h (λd g h=>kG c (b 0) g h (λb g h=>cN c (dI b) g h (λb g h=>cN c (aC .leq d b) g h (λb d g=>cU (λb=>jZ b (λb=>aW a 30 [] d g b f) d g (λa c d=>cU (λa=>e a c d) λc=>aX b (c a) (c (.bool false)))) λa=>aX c (a b) (a (.bool false)))))))) λa=>aX d (a c) (a (.bool false)))))) (h (zw b 5 d 43 g) c i)) f) λa=>aX g (e (.bool false) c d) (a (ac b 35 g) c d)) λj=>aX i (aW a 30 [] c k e f) (j (ac (zy (cZ [b]) 2 (.bool false) 0 g 3 d 4 h) 32 i) c k)) f
def aju:di X 6 [a0] h j ak ay=V6 X a0 h j ak ay:=Zk
def ajt:cX X 6 1=true:=Zk
def VY(a:a2)(b c:J)(d:V an)(e:Nat)(f g:bJ):Prop:=
 E (dA [(.bool false),(.bool false),(.Z 0)] e) λh=>cH a d e h.1 h.2 λd e h=>E (al a e c) λc=>aW a 34 [c,b] e h (λb c e=>E (cK 0 b) λg=>E (cK 1 b) λ_=>E (dA [(.Z 0),(.str []),(.Z 0),(.bool false),(.bool false),(.Z 0),(.str []),(.Z 0),(.bool false),(.Z 0),(.Z 0)] e) λb=>cH a c e b.1 b.2 λb c e=>E (b8 a c 11 b g) λc=>E (a1 1 b) λb=>E (a1 2 b) λb=>E (bM a c 3 b) λb=>E (b8 a c 3 d b) λb=>E (bM a b 3 d) λa=>f a b e) g
def ai8:di X 33 [a0,bf] h j ak ay=VY X a0 bf h j ak ay:=Zk
def ai7:cX X 33 2=true:=Zk
def V0(a:a2)(b c d e f:J)(g:V an)(h:Nat)(i j:bJ):Prop:=
 E (al a g c) λk=>cN k (al a g d) g h (λd g h=>cN k (al a g e) g h (λe g h=>cN k (al a g f) g h (λf g h=>js k b g h (λb g h=>jZ k (λc=>aW a 36 [d,e,f,b] g h c j) g h (λb d e=>cU (λb=>E (b8 a d 1 c b) λb=>E (al a b c) λa=>i a b e) λa=>aX k (a b) (a (.bool false)))))))
def ajc:di X 35 [a0,bf,ck,a3,a4] h j ak ay=V0 X a0 bf ck a3 a4 h j ak ay:=Zk
def ajb:cX X 35 5=true:=Zk
def V1(a:a2)(b c d e:J)(f:V an)(g:Nat)(h i:bJ):Prop:=
 E (cl e) λj=>E (a1 8 j) λj=>E (al a f j) λj=>E (dI j) λk=>aT (λb c d=>aj (b 3) λe=>E (cl e) λe=>E (a1 0 e) λe=>E (al a c e) λe=>E (aC .eql e (.Z 25)) λe=>aT (λb c d=>aj (b 0) λe=>aj (b 3) λf=>aW a 54 [e,f] c d (λc d e=>E (cK 0 c) λf=>E (cK 1 c) λc=>E (dA [(.bool false),(.bool false),(.Z 0)] e) λg=>cH a d e g.1 g.2 λd e g=>E (b8 a e 3 d f) λe=>E (fe .not c) λf=>aT (λb c d=>aj (b 3) λe=>E (cl e) λe=>E (a1 0 e) λe=>E (al a c e) λe=>aT (λb c d=>E (fw 6 [(.Z 0),(.Z 0),(.Z 0),(.Z 0),(.Z 0),(.Z 0)] [(0,1,(.Z 4)),(1,1,(.Z 19)),(2,1,(.Z 20)),(3,1,(.Z 16)),(4,1,(.Z 17)),(5,1,(.Z 18))] d) λe=>cH a c d e.1 e.2 λc d e=>aj (b 3) λf=>E (cl f) λf=>E (a1 0 f) λf=>E (al a d f) λf=>E (aC .neq f (.Z 6)) λf=>kG f (b 3) d e (λd e g=>cN f (cl d) e g (λd e g=>cN f (a1 0 d) e g (λd e g=>cN f (al a e d) e g (λd e g=>cN f (aC .neq d (.Z 24)) e g (λd e g=>cU (λd=>tX d (b 2) e g (λe f g=>tX d (b 3) f g (λf g j=>c9 d (cl f) g j (λf g j=>c9 d (a1 2 f) g j (λf g j=>c9 d (al a g f) g j (λf g j=>kk d (λb=>iw a e [f] g j b i) g j (λe f g=>c9 d (ny false 0 1 e) f g (λe f g=>cU (λd=>kG d (b 9) f g (λe f g=>jZ d (λa=>aj (b 20) λb=>a (.func (.func 81) [] [b]) f g) f g (λf g j=>jZ d (λb=>aW a 80 [e,f] g j b i) g j (λe f g=>cN d (fe .not e) f g (λe f g=>cU (λd=>DC d (b 20) (λa=>a1 0 a) f g (λe f g=>cN d (al a f e) f g (λe f g=>cN d (fe .not e) f g (λe f g=>js d e f g (λe f g=>hd e c f g (λc f g=>tX e (b 3) f g (λb f g=>c9 e (cl b) f g (λb f g=>c9 e (a1 0 b) f g (λb f g=>c9 e (al a f b) f g (λb f g=>kk e (λd=>aW a 82 [c,b] f g d i) f g (λa b c=>c9 e (fe .not a) b c (λa b c=>jZ d (λd=>cU (λa=>d a b c) λb=>aX e (b (.bool true)) (b a)) b c (λa b c=>cU (λa=>h a b c) λb=>aX d (b a) (b (.bool false))))))))))))))) λa=>aX d (a e) (a (.bool false))))))) λa=>aX d (a (.bool true)) (a e))))))))) λa=>aX f (a d) (a (.bool false)))))))) λf=>E (aC .eql e (.Z 1)) λg=>aT (λb c d=>aj (b 150) λe=>aT f λf=>aX e (eM (d+23) λd=>aj (b 20) λe=>E (bM a c 3 e) λe=>aj (b 3) λf=>E (cl f) λf=>E (a1 4 f) λf=>E (bM a c 3 f) λf=>E (dc a c .eql 41 false e f) λe=>nI e (b 9) c (λc f=>e0 e (dI c) f (λc f=>e0 e (aC .eql c (.Z 0)) f (λc f=>acG e c f (λc f=>Sk c (b 20) (λa=>a1 0 a) f (λf g=>hU c (al a g f) g (λf g=>hU c (fe .not f) g (λf g=>acF e (λa=>cU (λb=>a b g) λa=>aX c (a (.bool true)) (a f)) g (λc f=>acG e c f (λc f=>vs c (b 9) f (λb f=>hU c (dd 3 b (.Z 0)) f (λb f=>hU c (a1 0 b) f (λb f=>hU c (al a f b) f (λa b=>acF e (λd=>cU (λa=>d a b) λb=>aX c (b (.bool true)) (b a)) b (λa b=>cU (λa=>h a b d) λb=>aX e (b a) (b (.bool false))))))))))))))))) (aj (b 149) λe=>E (aC .eql e (.Z 2)) λe=>aT f λf=>aX e (eM (d+9) λd=>aj (b 20) λe=>E (bM a c 3 e) λe=>aj (b 2) λf=>aj (b 3) λg=>E (cl g) λg=>E (a1 2 g) λg=>E (al a c g) λg=>iw a f [g] c d (λc d f=>E (dc a d .eql 41 false e c) λc=>aj (b 20) λb=>E (bM a d 3 b) λa=>gi a (some e) (h c d f)) i) (aj (b 149) λg=>E (aC .eql g (.Z 10)) λg=>aT (λb c d=>aj (b 185) λe=>aT f λf=>aX e (eM (d+12) λd=>aj (b 20) λe=>E (a1 0 e) λe=>E (al a c e) λe=>nI e (b 9) c (λc f=>e0 e (dd 3 c (.Z 0)) f (λc f=>e0 e (bM a f 3 c) f (λc f=>nI e (b 9) f (λb f=>e0 e (dd 3 b (.Z 1)) f (λb f=>e0 e (bM a f 3 b) f (λb f=>e0 e (dc a f .eql 41 false c b) f (λa b=>cU (λa=>h a b d) λb=>aX e (b a) (b (.bool false)))))))))) (aj (b 149) λe=>E (aC .eql e (.Z 12)) λe=>aT (λb c d=>aj (b 199) λe=>aT f λf=>aX e (eM (d+19) λd=>aj (b 20) λe=>E (a1 0 e) λe=>E (al a c e) λe=>nI e (b 9) c (λc f=>e0 e (dd 3 c (.Z 0)) f (λc f=>e0 e (bM a f 3 c) f (λc f=>nI e (b 9) f (λf g=>e0 e (dd 3 f (.Z 1)) g (λf g=>e0 e (bM a g 3 f) g (λf g=>e0 e (dc a g .eql 41 false c f) g (λc f=>cU (λc=>nI c (b 9) f (λb e=>e0 c (dd 3 b (.Z 0)) e (λb e=>e0 c (a1 0 b) e (λb e=>e0 c (al a e b) e (λa b=>e0 c (fe .not a) b (λa b=>cU (λa=>h a b d) λb=>aX c (b a) (b (.bool false)))))))) λa=>aX e (a c) (a (.bool false)))))))))) (aj (b 149) λe=>E (aC .eql e (.Z 23)) λe=>aT f λf=>aX e (eM (d+19) λd=>aj (b 9) λe=>E (dd 3 e (.Z 0)) λe=>E (a1 0 e) λe=>E (al a c e) λe=>JN e (b 20) (λb=>bM a c 3 b) c (λc f=>nI e (b 9) f (λf g=>e0 e (dd 3 f (.Z 1)) g (λf g=>e0 e (bM a g 3 f) g (λf g=>e0 e (dc a g .eql 41 false c f) g (λc f=>cU (λc=>JN c (b 20) (λb=>bM a f 3 b) f (λe f=>nI c (b 9) f (λb f=>e0 c (dd 3 b (.Z 2)) f (λb f=>e0 c (bM a f 3 b) f (λb f=>e0 c (dc a f .eql 41 false e b) f (λa b=>cU (λa=>h a b d) λb=>aX c (b a) (b (.bool false)))))))) λa=>aX e (a c) (a (.bool false)))))))) (f (ac b 222 e) c d))) λa=>aX e (a (ac b 199 e) c d) (aj (b 149) λf=>E (aC .eql f (.Z 13)) λf=>aT a λa=>aX f (a (zw b 199 e 199 f) c d) (aj (b 149) λg=>E (aC .eql g (.Z 14)) λg=>aT a λa=>aX g (a (zx b 199 e 199 f 199 g) c d) (aj (b 149) λh=>E (aC .eql h (.Z 15)) λh=>a (zy b 199 e 199 f 199 g 199 h) c d))))) λa=>aX g (a (zw b 175 e 185 g) c d) (aj (b 149) λf=>E (aC .eql f (.Z 11)) λf=>a (zx b 175 e 185 g 185 f) c d)))) λa=>aX g (a (zw b 149 e 150 g) c d) (E (aC .eql e (.Z 26)) λf=>a (zx b 149 e 150 g 150 f) c d)) λa=>aX f (h (.bool false) e g) (a (zx b 20 d 21 c 145 f) e g)) i) λf=>aX e (aj (b 1) λf=>aj (b 3) λg=>E (cl g) λg=>E (a1 2 g) λg=>E (al a c g) λg=>aW a 79 [f,g] c d (λc d f=>E (cK 0 c) λg=>E (cK 1 c) λc=>eM (f+32) λf=>E (fe .not c) λj=>vs j (b 9) d (λd k=>hU j (dI d) k (λd k=>vs j (b 1) k (λk l=>hU j (cl k) l (λk l=>hU j (a1 0 k) l (λk l=>hU j (al a l k) l (λk l=>Gm j g l (λl m=>hU j (dd 6 k l) m (λk l=>hU j (a1 2 k) l (λk l=>hU j (al a l k) l (λk l=>hU j (dI k) l (λk l=>hU j (aC .neq d k) l (λd k=>cU (λd=>vs d (b 0) k (λj k=>vs d (b 3) k (λk l=>vs d (b 1) l (λl m=>hU d (cl l) m (λl m=>hU d (a1 0 l) m (λl m=>hU d (al a m l) m (λm n=>Gm d g n (λn o=>hU d (dd 6 m n) o (λn o=>hU d (a1 3 n) o (λn o=>hU d (al a o n) o (λo p=>hU d (dI o) p (λp q=>kk d (λb=>aW a 37 [j,k] q f b i) q f (λf j k=>hU d (dI f) j (λf j=>hU d (aC .neq f p) j (λf j=>cU (λf=>Gq (Gq (Gq (aT (λb c d=>aj (b 1) λe=>E (cl e) λe=>E (a1 0 e) λe=>E (al a c e) λe=>aj (b 14) λf=>E (dd 6 e f) λe=>E (a1 2 e) λe=>E (al a c e) λe=>E (dI e) λf=>aT (λb c d=>aj (b 1) λe=>E (cl e) λe=>E (a1 0 e) λe=>E (al a c e) λe=>aj (b 14) λf=>E (dd 6 e f) λe=>E (a1 3 e) λe=>E (al a c e) λe=>E (dI e) λf=>aT (λ_ a b=>h (.bool true) a b) λg=>fu (λb c d e=>aj (c 123) λf=>aj (c 122) λj=>E (aC .lss f j) λf=>aT (λc d e=>aT (λa c d=>aj (a 123) λe=>E (aC .add e (.Z 1)) λe=>b (ac a 123 e) c d) λb=>aj (c 123) λf=>aj (c 121) λg=>aj (c 123) λj=>E (dd 8 g j) λg=>E (bM a d 8 g) λg=>E (dA [(.str []),(.Z 0),(.bool false),(.bool false),(.Z 0),(.str []),(.Z 0),(.bool false)] e) λj=>cH a d e j.1 j.2 λd e j=>E (b8 a e 8 d g) λe=>eM (j+9) λg=>E (a1 2 d) λj=>E (bM a e 3 j) λk=>aj (c 0) λl=>aj (c 3) λm=>aW a 37 [l,m] e g (λe g i=>E (dd 3 e f) λe=>E (bM a g 3 e) λe=>E (dc a g .neq 41 false k e) λe=>E (bM a g 3 j) λa=>gi a (some k) (aT b λa=>aX e (h (.bool false) g i) (a (zx c 19 d 18 f 136 e) g i))) i) λa=>aX f (a (ac c 124 f) d e) (g (ac c 124 f) d e)) (zx b 121 e 122 f 123 (.Z 0)) c d) λg=>fu (λb c d e=>aj (c 101) λf=>aj (c 100) λi=>E (aC .lss f i) λf=>aT (λc d e=>aT (λa c d=>aj (a 101) λe=>E (aC .add e (.Z 1)) λe=>b (ac a 101 e) c d) λb=>aj (c 101) λf=>aj (c 99) λg=>aj (c 101) λi=>E (dd 8 g i) λg=>E (bM a d 8 g) λg=>E (dA [(.str []),(.Z 0),(.bool false),(.bool false),(.Z 0),(.str []),(.Z 0),(.bool false)] e) λi=>cH a d e i.1 i.2 λd e i=>E (b8 a e 8 d g) λe=>eM (i+7) λg=>E (a1 2 d) λi=>E (bM a e 3 i) λi=>aj (c 9) λj=>E (dd 3 j f) λj=>E (bM a e 3 j) λj=>E (dc a e .neq 41 false i j) λa=>aT b λb=>aX a (h (.bool false) e g) (b (zx c 17 d 16 f 112 a) e g)) λa=>aX f (a (ac c 102 f) d e) (g (ac c 102 f) d e)) (zx b 99 e 100 f 101 (.Z 0)) c d) λa=>aX f (h (.bool false) j k) (a (zy b 50 e 14 g 15 c 91 f) j k)) λa=>hQ false d (E (dI o) λb=>gi b (some p) a) a) λb=>hQ false d (E (al a j n) λa=>gi a (some o) b) b) λb=>hQ false d (E (al a j l) λa=>gi a (some m) b) b) λa=>aX d (a (.bool true)) (a f)))))))))))))))) λa=>aX j (a (.bool true)) (a d)))))))))))))) i) (f (ac b 50 e) c d)) λl=>fu (λb c d e=>aj (c 29) λf=>aj (c 28) λg=>E (aC .lss f g) λf=>aT (λc d e=>aT (λa c d=>aj (a 29) λe=>E (aC .add e (.Z 1)) λe=>b (ac a 29 e) c d) λb=>aj (c 27) λf=>aj (c 29) λg=>E (dd 1 f g) λf=>E (al a d f) λf=>aj (c 0) λg=>aW a 54 [g,f] d e (λd e g=>E (cK 0 d) λi=>E (cK 1 d) λd=>E (dA [(.bool false),(.bool false),(.Z 0)] g) λj=>cH a e g j.1 j.2 λe g j=>E (b8 a g 3 e i) λg=>E (fe .not d) λi=>aT (λc d e=>aj (c 9) λf=>aj (c 12) λg=>E (bM a d 3 g) λg=>E (fw 1 [(.bool false),(.bool false),(.Z 0)] [(0,3,g)] e) λg=>cH a d e g.1 g.2 λd e g=>gR (is a e g 3 f d) e g λa d e=>b (ac c 9 a) d e) λa=>aX i (h (.bool false) g j) (a (zy c 11 f 12 e 13 d 40 i) g j)) i) λa=>aX f (a (ac c 30 f) d e) (l (ac c 30 f) d e)) (ac (zy (cZ [b,c,d,e]) 8 (.bool false) 9 .aU 27 j 28 k) 29 (.Z 0)) f g
def aje:di X 36 [a0,bf,ck,a3] h j ak ay=V1 X a0 bf ck a3 h j ak ay:=Zk
def ajd:cX X 36 4=true:=Zk
def Wi(a:a2)(b c:J)(d:V an)(e:Nat)(f _:bJ):Prop:=
 iG a d e b λb d e=>E (bM a d 3 b) λb=>E (bM a d 3 c) λc=>E (dc a d .neq 41 false b c) λa=>f a d e
def ajE:di X 81 [a0,bf] h j ak ay=Wi X a0 bf h j ak ay:=Zk
def ajD:cX X 81 2=true:=Zk
end
end Go.Proofs.YtpfajohmofnkfaaGreatDoor

namespace Go.Proofs.YtpfajohmofnkfaaGreatDoor
open Go.bk Go.aZ
noncomputable section
section
variable{X:co}{h U a6 aR:V an}{j ar aJ bc:Nat}{P dq:Nat->Prop}
def auC:dc X h .eql 76 true .aU .aU=some (.bool true):=Zk
def axh(b Y l c:Nat):dc X h .eql 76 true (.slice b Y l c) .aU=some (.bool false):=Zk
def axm(b Y l c:Nat):dc X h .eql 76 true (.fm b Y l c) .aU=some (.bool false):=Zk
def aml(b:Nat):dc X h .eql 65 true (.ptr b 0) .cy=some (.bool false):=Zk
def auD{a8:J}{n:Nat}(a:dI a8=some (.Z (n:Int))):(a8= .aU/\n=0)\/dc X h .eql 76 true a8 .aU=some (.bool false):=by
 cases a8 with
 |aU=>rw[sK]at a;injection a with a;injection a with _ a;exact .inl ⟨rfl,Zo⟩
 |slice b Y l c=>exact .inr (axh b Y l c)
 |fm b Y l c=>exact .inr (axm b Y l c)
 |_=>simp[dI]at a
def ava(l:List dJ):jI (l7 l).flatten=true:=by
 induction l with
 |nil=>rfl
 |cons t l am=>exact am
def alp(az:dx X){l:List dJ}{a8:J}(aM:(q X).ba<=j)(a:jO X h P a8 l)(bB:∀e,P e->e<j):
 aW X 83 [a8] h j (λae U ar=>(ae.cells=[ae]/\jO X U (cW j ar) ae l)/\bh X h j U ar) (λ_ _ _=>False):=by
 refine zv az (ajH X) ?_
 rw[ajI]
 unfold Wk
 obtain⟨b,cG⟩:=a
 have h7:=cG.many
 have ew:=cG.len
 rw[Zi]at h7 ew
 rcases auD (X:=X) (h:=h) ew with ⟨rfl,ch⟩|dT
 ·have:l=[]:=Yc ch
  subst this
  refine ce @auC ⟨?_⟩
  exact⟨⟨rfl,0,d1.nil _ _⟩,bh.refl _ _⟩
 ·refine ce @dT ⟨?_⟩
  generalize ea:Go.bk.bo X h j _=a6
  have b5:ab X a6 j=zs [] (0*3):=by rw[<-ea,bi aM]
  have bT:bh X h j a6 (j+1):=by rw[<-ea];exact dR
  clear ea
  have aI:=aev (cG.ad (λe H=>bT.ad e (bB e H))) Zd
  rw[Zi]at aI
  by_cases ch:l=[]
  ·subst ch
   have I:is X a6 (j+1) 3 (.slice j 0 0 0) a8=some (.val (.slice j 0 0 0)):=by simp only[is,aI];rfl
   refine aey I ?_
   exact⟨⟨rfl,j,Eb (bF:=[]) b5 rfl Zs Zo ⟨Zo,Zo⟩⟩,bT⟩
  ·have aL:0<l.length:=YL.2 ch
   have qx:=TY l
   obtain⟨fg,aR,cM,aE,jq,fj,iX⟩:=gC.append (j:=j+1) (l:=[]) (cM:=[j]) (m:=(l7 l).flatten) (.inr ⟨j,0,_, .own,rfl,rfl,rfl,b5,og []⟩) Zd aI qx aL (ava l) (by rw[qx];simp;omega) Zo Zs
   refine ky aE ?_
   have abL:j∉[j]->False:=λa=>a (Zv ..)
   have gW:fg.cells=[fg]:=by
    rcases jq with ⟨rfl,_,_⟩|⟨_,_,_,_,rfl,_⟩<;>rfl
   obtain⟨dL,W⟩:=jq.rH (P:=cW j (j+1+1)) (bF:=l7 l) Zd (Ew l) (by simp[l7];omega) (λe H=>by rcases(show e=j+1\/e=j by simpa using fj e H)with rfl|rfl<;>exact⟨Zo,Zo⟩)
   exact⟨⟨gW,dL,W⟩,⟨Zo,λe H=>by rw[iX e Zo (by simp;omega)];exact bT.ad e H⟩⟩
def N0(az:dx X){ao r eo:Nat}{cV:Nat->Option J}{w:J}{l:List dJ}(aM:(q X).ba<=j)(b6:al X h (.ptr ao 0)=some (.map r))(n9:lm X h P r cV)(bl:nV X h eo)(bA:(q X).ba<=eo)(bI:cV eo=some w)(bb:jO X h dq w l)(rr:∀e,dq e->e<j):
 aW X 37 [.ptr ao 0, .ptr eo 0] h j (λae U ar=>(ae.cells=[ae]/\jO X U (cW j ar) ae l)/\bh X h j U ar) (λ_ _ _=>False):=by
 refine zv az (ajf X) ?_
 rw[ajg]
 unfold V2
 have aD:=atZ n9 bl bA .aU false
 rw[bI]at aD
 have aD:kJ X h 47 .aU (.map r) (.ptr eo 0) false=some w:=aD
 refine d9 @aml @b6 @aD ⟨?_⟩
 refine(alp az aM bb rr).Zm ?_
 rintro ae a6 aJ a
 refine cS ⟨?_⟩
 exact a
def ae6(az:dx X){ao r eo:Nat}{cV:Nat->Option J}{w:J}{t:dJ}(aM:(q X).ba<=j)(b6:al X h (.ptr ao 0)=some (.map r))(F4:ao<j)(arA:r<j)(n9:lm X h P r cV)(bB:∀e,P e->e<j)(bl:nV X h eo)(o1:eo<j)(bA:(q X).ba<=eo)(bI:cV eo=some w)(bb:jO X h dq w [t])(rr:∀e,dq e->e<j):
 aW X 54 [.ptr ao 0, .ptr eo 0] h j (λae U ar=>ae= .tuple [.agg (dn t), .bool true]/\bh X h j U ar) (λ_ _ _=>False):=by
 refine zv az (ajl X) ?_
 rw[ajm]
 unfold V5
 refine oO ?_
 generalize ea:bo X h j _=a6
 have b5:ab X a6 j=zs [.bool false, .bool false, .Z 0] 3:=by rw[<-ea,bi aM];rfl
 have bT:bh X h j a6 (j+1):=by rw[<-ea];exact dR
 clear ea
 refine(N0 (j:=j+1) (h:=a6) az Zo (zz (bT.ad ao F4) b6) (n9.ad (bT.ad r arA) (λe H=>bT.ad e (bB e H))) (bl.ad (bT.ad eo o1)) bA bI (bb.ad (bv:=dq) (λe H=>bT.ad e (rr e H)) (λ_ a=>a)) (λe H=>zo (rr e H))).Zm ?_
 rintro ae aR bc ⟨⟨_,be⟩,bC⟩
 have f5:=bC.le
 have cd:ab X aR j=zs [.bool false, .bool false, .Z 0] 3:=by rw[bC.ad _ Zo];exact b5
 have jb:=bT.trans bC
 have Z:=be.rd
 have aD:dI ae=some (.Z 1):=Z.len
 obtain⟨cD,Y,dQ,k1,sv,_⟩:=Z.e9 0 t rfl
 have dQ:dd 3 ae (.Z 0)=some (.ptr cD Y):=dQ
 have d:decide ((1:Int)≠1)=false:=rfl
 obtain⟨Oi,cF,Eu⟩:=t
 refine fW @aD @d @dQ @sv dn.eq_1 ⟨?_⟩
 generalize eB:bo X _ j _=bw
 have FR:bM X bw 3 (.ptr j 0)=some (.agg (dn ⟨Oi,cF,Eu⟩)):=by rw[<-eB];exact sJ (bi aM) rfl
 have dj:bh X h j bw bc:=⟨Zo,λe H=>by rw[<-eB];simp(disch:=omega) only[aG];exact jb.ad e H⟩
 clear eB
 refine ce @FR ⟨?_⟩
 exact⟨rfl,dj⟩
def auw(az:dx X){K b:dJ}{c:Nat}(aM:(q X).ba<=j)(aB:c<j)(gW:bM X h 3 (.ptr c 0)=some (.agg (dn b))):
 aW X 81 [.agg (dn K), .ptr c 0] h j (λae U ar=>ae= .bool (!decide (K=b))/\bh X h j U ar) (λ_ _ _=>False):=by
 refine zv az (ajD X) ?_
 rw[ajE]
 unfold Wi
 refine ti ?_
 generalize ea:bo X h j _=a6
 have b5:bM X a6 3 (.ptr j 0)=some (.agg (dn K)):=by rw[<-ea];exact sJ (bi aM) (by cases K;rfl)
 have bT:bh X h j a6 (j+1):=by rw[<-ea];exact dR
 clear ea
 have Q7:bM X a6 3 (.ptr c 0)=some (.agg (dn b)):=by rw[kI,bT.ad c aB, <-kI];exact gW
 refine d9 @b5 @Q7 @GP ⟨?_⟩
 exact⟨rfl,bT⟩
def ass(az:dx X){b:dJ}{L:List dJ}{a8:J}{c:Nat}(aM:(q X).ba<=j)(aB:c<j)(gW:bM X h 3 (.ptr c 0)=some (.agg (dn b)))(bb:r2 X h P a8 L)(bB:∀e,P e->e<j)(gn:∀t∈L,t=b):
 aW X 135 [a8, .func (.func 81) [] [.ptr c 0]] h j (λae U ar=>ae= .Z (-1)/\bh X h j U ar) (λ_ _ _=>False):=by
 refine zv az (UH X) ?_
 rw[UI]
 unfold OR
 have ew:=bb.len
 have h7:=bb.many
 refine ce @ew ⟨?_⟩
 refine fC (λm M U aV=>∃(aa:Nat),M.g 0=some a8/\M.g 1=some (.func (.func 81) [] [.ptr c 0])/\M.g 7=some (.Z (L.length:Int))/\M.g 8=some (.Z (aa:Int))/\aa+m=L.length/\bh X h j U aV)
  L.length ⟨0,bp,bp,bp,fQ,Zo,bh.refl _ _⟩ ?_
 rintro m M aR bc ⟨aa,t0,t1,fo,gA,bL,bC⟩
 have f5:=bC.le
 cases m with
 |zero=>
  have d:=zp aa L.length
  refine d9 @gA @fo @d ⟨?_⟩
  exact⟨rfl,bC⟩
 |succ m=>
  have d:=zq aa L.length
  have bH:=zt aa
  obtain⟨g,b0⟩:=zr L aa
  have ap8:=gn g (Zn b0)
  have aL:=λe (H:P e)=>bC.ad e (bB e H)
  obtain⟨cD,Y,dQ,k1,hS,_⟩:=(bb.ad (bv:=P) aL (λ_ a=>a)).e9 aa g b0
  have IV:bM X aR 3 (.ptr c 0)=some (.agg (dn b)):=by rw[kI,bC.ad c aB, <-kI];exact gW
  refine eu @gA @fo @t1 @t0 @d @dQ @hS ⟨?_⟩
  refine(auw az Zo Zo IV).Zm ?_
  rintro ae a7 bd ⟨rfl,cm⟩
  have cQ:(!decide (g=b))=false:=by simp[ap8]
  rw[cQ]
  refine c1 @gA @bH ⟨?_⟩
  exact⟨m,Zo,aa+1,aQ t0,aQ t1,aQ fo,bp,Zo,bC.trans cm⟩
def alw(az:dx X){b:dJ}{L:List dJ}{a8:J}{c:Nat}(aM:(q X).ba<=j)(aB:c<j)(gW:bM X h 3 (.ptr c 0)=some (.agg (dn b)))(bb:r2 X h P a8 L)(bB:∀e,P e->e<j)(gn:∀t∈L,t=b):
 aW X 80 [a8, .func (.func 81) [] [.ptr c 0]] h j (λae U ar=>ae= .bool false/\bh X h j U ar) (λ_ _ _=>False):=by
 refine zv az (Wg X) ?_
 rw[Wh]
 unfold OY
 refine(ass az aM aB gW bb bB gn).Zm ?_
 rintro ae U aV ⟨rfl,bX⟩
 have d:decide ((0:Int)<= -1)=false:=rfl
 refine ce @d ⟨?_⟩
 exact⟨rfl,bX⟩
def ast(az:dx X){l:List Int}{a8:J}{b:Nat}(F:Int)(aM:(q X).ba<=j)(cG:d1 X h P b a8 1 (l.map λi=>[J.Z i]))(bB:∀e,P e->e<j)(aL:F∉l):
 aW X 136 [a8, .Z F] h j (λae U ar=>ae= .Z (-1)/\bh X h j U ar) (λ_ _ _=>False):=by
 refine zv az (agL X) ?_
 rw[agM]
 unfold UJ
 have ew:=cG.len
 have h7:=cG.many
 rw[Zi]at ew h7
 refine ce @ew ⟨?_⟩
 refine fC (λm M U aV=>∃(aa:Nat),M.g 0=some a8/\M.g 1=some (.Z F)/\M.g 7=some (.Z (l.length:Int))/\M.g 8=some (.Z (aa:Int))/\aa+m=l.length/\bh X h j U aV)
  l.length ⟨0,bp,bp,bp,fQ,Zo,bh.refl _ _⟩ ?_
 rintro m M aR bc ⟨aa,t0,t1,fo,gA,bL,bC⟩
 have f5:=bC.le
 cases m with
 |zero=>
  have d:=zp aa l.length
  refine d9 @gA @fo @d ⟨?_⟩
  exact⟨rfl,bC⟩
 |succ m=>
  have d:=zq aa l.length
  have bH:=zt aa
  obtain⟨g,b0⟩:=zr l aa
  have yN:F≠g:=λI=>aL (by rw[I];exact Zn b0)
  have Z:=cG.ad (λe H=>bC.ad e (bB e H))
  have dQ:=Z.e9 aa (by rw[Zi];omega)
  have Mr:=Z.cell aa [.Z g] 0 _ (by rw[Zt,b0];rfl) rfl
  have cQ:decide (F=g)=false:=by simp[yN]
  refine eu @gA @fo @t1 @t0 @d @dQ (Za @Mr @cQ) ⟨?_⟩
  have Mr:al X aR (.ptr b (aa*1))=some (.Z g):=Mr
  refine gl @Mr @cQ @gA @bH ⟨?_⟩
  exact⟨m,Zo,aa+1,aQ t0,aQ t1,aQ fo,bp,Zo,bC⟩
def alx(az:dx X){l:List Int}{a8:J}{b:Nat}(F:Int)(aM:(q X).ba<=j)(cG:d1 X h P b a8 1 (l.map λi=>[J.Z i]))(bB:∀e,P e->e<j)(aL:F∉l):
 aW X 82 [a8, .Z F] h j (λae U ar=>ae= .bool false/\bh X h j U ar) (λ_ _ _=>False):=by
 refine zv az (ajF X) ?_
 rw[ajG]
 unfold Wj
 refine(ast az F aM cG bB aL).Zm ?_
 rintro ae U aV ⟨rfl,bX⟩
 have d:decide ((0:Int)<= -1)=false:=rfl
 refine ce @d ⟨?_⟩
 exact⟨rfl,bX⟩
def Kg(az:dx X){t:bq->Option eJ}{b1:Nat}{cF:J}(aM:(q X).ba<=j)(ij:b1<j)(aB:al X h (.ptr b1 0)=some cF)(bb:oK X h P cF t)(bB:∀e,P e->e<j)(w:bq):
 aW X 33 [.str w, .ptr b1 0] h j (λae U ar=>ae= .agg (dn (jg t w))/\bh X h j U ar) (λ_ _ _=>False):=by
 refine zv az (ai7 X) ?_
 rw[ai8]
 unfold VY
 refine oO ?_
 generalize ea:bo X h j _=a6
 have b5:ab X a6 j=zs [.bool false, .bool false, .Z 0] 3:=by rw[<-ea,bi aM];rfl
 have bT:bh X h j a6 (j+1):=by rw[<-ea];exact dR
 clear ea
 have aL:=λe (H:P e)=>bT.ad e (bB e H)
 have sm:al X a6 (.ptr b1 0)=some cF:=zz (bT.ad b1 ij) aB
 refine ce @sm ⟨?_⟩
 refine(Io az Zo (bb.ad (bv:=P) aL (λ_ a=>a)) (λe H=>zo (bB e H)) w).Zm ?_
 rintro ae aR bc ⟨rfl,bC⟩
 have f5:=bC.le
 unfold jg
 generalize (t w).getD s5=v at*
 have qE:oB v=[.Z v.kind, .str v.d.name, .Z v.d.at_, .bool v.d.ty.b, .bool v.d.ty.s, .Z v.d.ty.w, .str v.d.on, .Z v.d.fD, .bool v.d.no, .Z v.eq, .Z v.left]:=rfl
 rw[qE]
 have cd:ab X aR j=zs [.bool false, .bool false, .Z 0] 3:=by rw[bC.ad _ Zo];exact b5
 have jb:=bT.trans bC
 refine cS ⟨?_⟩
 generalize fl:bo X _ bc _=a7
 have c0:ab X a7 bc=zs [.Z v.kind, .str v.d.name, .Z v.d.at_, .bool v.d.ty.b, .bool v.d.ty.s, .Z v.d.ty.w, .str v.d.on, .Z v.d.fD, .bool v.d.no, .Z v.eq, .Z v.left] 11:=by rw[<-fl,bi Zo];rfl
 have d6:ab X a7 j=zs [.bool false, .bool false, .Z 0] 3:=by rw[<-fl];simp(disch:=omega) only[aG];exact cd
 have cm:bh X h j a7 (bc+1):=⟨Zo,λe H=>by rw[<-fl];simp(disch:=omega) only[aG];exact jb.ad e H⟩
 clear fl
 have aD:bM X a7 3 (.ptr bc 3)=some (.agg (dn v.d.ty)):=sJ c0 rfl
 refine ce @aD ⟨?_⟩
 generalize eB:bo X _ j _=bw
 have FR:bM X bw 3 (.ptr j 0)=some (.agg (dn v.d.ty)):=by rw[<-eB];exact sJ (bi aM) rfl
 have dj:bh X h j bw (bc+1):=⟨Zo,λe H=>by rw[<-eB];simp(disch:=omega) only[aG];exact cm.ad e H⟩
 clear eB
 refine ce @FR ⟨?_⟩
 exact⟨rfl,dj⟩
end
def ali{aq:List Go.aZ.Node}:∀(l:List Go.aZ.Node) (F:Nat),(AO aq F l).1=0->∀g∈l,∃aa,(qP aq aa g).1=0:=by
 intro l
 induction l with
 |nil=>intro F _ g b0;cases b0
 |cons K l am=>
  intro F a g b0
  rw[AO]at a
  split at a
  ·rename_i T;exact absurd a T
  ·rename_i T
   rcases Zq.1 b0 with rfl|b0
   ·exact⟨F,by simpa using T⟩
   ·exact am _ a g b0
def awD{aq:List Go.aZ.Node}(a:(uB aq).1=0){g:Go.aZ.Node}(b0:g∈aq){ao:gv}(b6:ao∈g.eqs):∃F,HA (hD g) aq F ao.right:=by
 obtain⟨F,aL⟩:=ali aq 0 a g b0
 unfold qP at aL
 rw[ayq]at aL
 have:=(av1 (hD g) aq F g.eqs (λ_=>none,uG (hD g) g (sO aq F g)) (λ_=>Zs)).1 aL.1
 exact⟨F,this.2.2 ao b6⟩
def avP(I:bG):I∈sU I:=by cases I;rw[sU];exact Zv ..
def avN{I K x:bG}(aE:K∈I.args)(ah:x∈sU K):x∈sU I:=by
 have key:∀l:List bG,K∈l->x∈xJ l:=by
  intro l
  induction l with
  |nil=>intro a;cases a
  |cons b l am=>
   intro a
   rw[xJ,Zy]
   rcases Zq.1 a with rfl|a
   ·exact .inl ah
   ·exact .inr (am a)
 cases I
 rw[sU]
 exact Zu _ (key _ aE)
mutual
def aeg{bn:g8}:∀{I:bG},e4 bn I->∀x∈sU I,tb bn x
 | .mk F K nm no t n args,a,x,ah=>by
   rw[e4]at a
   rw[sU]at ah
   rcases Zq.1 ah with rfl|ah
   ·exact a.1
   ·exact aef a.2 x ah
def aef{bn:g8}:∀{l:List bG},f8 bn l->∀x∈xJ l,tb bn x
 |[],_,x,ah=>by rw[xJ]at ah;cases ah
 |I::l,a,x,ah=>by
  rw[f8]at a
  rw[xJ,Zy]at ah
  rcases ah with ah|ah
  ·exact aeg a.1 x ah
  ·exact aef a.2 x ah
end
def l9(bn:g8)(f:Int×Int):Prop:=f.1=0\/bn.A f.2
def l9.fail{bn:g8}{f:Int×Int}{c K:Int}(a:l9 bn f)(aE:bn.A K):l9 bn (mf f c K):=by
 unfold mf
 split
 ·exact .inr aE
 ·exact a
def Fm{α eP:Type}{j8:eP->Prop}{s:eP->α->eP}:∀(l:List α) (b:eP),j8 b->(∀b x,x∈l->j8 b->j8 (s b x))->j8 (l.foldl s b):=by
 intro l
 induction l with
 |nil=>intro b a _;exact a
 |cons K l am=>intro b a F;exact am _ (F b K (Zv ..) a) λb x ah=>F b x (Zu _ ah)
def LA{bn:g8}{g:Go.aZ.Node}(a:nr bn g){x:Int×fq}(ah:x∈hl g):pC bn x.2:=by
 rcases al9 ah with ⟨_,T⟩|⟨_,T⟩|⟨_,T⟩
 ·exact a.ef _ T
 ·exact a.out _ T
 ·exact a.loc _ T
def auG{bn:g8}{aq:List Go.aZ.Node}{F:Nat}{g:Go.aZ.Node}(a:nr bn g):l9 bn (qP aq F g):=by
 have ch:l9 bn (sO aq F g):=by
  unfold sO
  split
  ·exact l9.fail (.inl rfl) a.ap
  ·exact .inl rfl
 have T:l9 bn (uG (hD g) g (sO aq F g)):=by
  unfold uG
  refine Fm (j8:=l9 bn) _ _ (Fm (j8:=λs:(bq->Option Int)×(Int×Int)=>l9 bn s.2) _ _ ch λb x ah ai=> ?_) λb x ah ai=> ?_
  ·show l9 bn (if _ then _ else _)
   split
   ·exact ai.fail (LA a ah).ap
   ·exact ai
  ·show l9 bn (if _ then _ else _)
   split
   ·exact ai.fail (LA a ah).op
   ·exact ai
 unfold qP
 refine Fm (j8:=l9 bn) _ _ (Fm (j8:=λs:(bq->Option Int)×(Int×Int)=>l9 bn s.2) _ _ T λb ao b6 ai=> ?_) λb x ah ai=> ?_
 ·have tQ:=a.eqs ao b6
  show l9 bn (G9 _ _ _ _ _)
  have W:l9 bn ((qK ao).foldl (nb (hD g)) b).2:=by
   refine Fm (j8:=λs:(bq->Option Int)×(Int×Int)=>l9 bn s.2) _ _ ai λb x ah ai=> ?_
   have xu:bn.A x.2:=by
    obtain⟨e,_,rfl⟩:=ZJ.1 ah
    simp only[]
    cases H:ao.dm[e.2]? with
    |none=>exact bn.a0
    |some K=>exact tQ.at1 _ (Zn H)
   show l9 bn (DL _ _ _ _ _)
   unfold DL
   split
   ·exact ai.fail xu
   ·split
    ·exact ai.fail xu
    ·exact ai
  unfold G9
  rw[T4 _ (λ_ _=>rfl)]
  refine Fm (j8:=l9 bn) _ _ W λb x ah ai=> ?_
  have Sd:=(aeg tQ.right x ah).ap
  show l9 bn (B9 _ _ _ _)
  have au:l9 bn (ug (hD g) b x):=by
   unfold ug
   split
   ·split
    ·exact ai
    ·exact ai.fail Sd
   ·exact ai
  unfold B9
  split
  ·split
   ·exact au.fail Sd
   ·split
    ·exact au.fail Sd
    ·exact au
  ·exact au
 ·show l9 bn (if _ then _ else _)
  split
  ·exact ai.fail (LA a ah).ap
  ·exact ai
def alh{bn:g8}{aq:List Go.aZ.Node}:∀(l:List Go.aZ.Node) (F:Nat),(∀g∈l,nr bn g)->l9 bn (AO aq F l):=by
 intro l
 induction l with
 |nil=>intro F _;exact .inl rfl
 |cons g l am=>
  intro F a
  rw[AO]
  split
  ·exact auG (a g (Zv ..))
  ·exact am _ λg b0=>a g (Zu _ b0)
mutual
def XV{bn:g8}{aq:List Go.aZ.Node}{t:bq->Option eJ}:∀{I:bG}{K:Int},e4 bn I->sd aq t I= .error K->bn.A K
 | .mk F at_ nm no ty n args,K,bI,a=>by
   rw[e4]at bI
   rw[sd]at a
   split at a
   ·rename_i b ai
    cases a
    exact WO bI.2 ai
   ·simp only[]at a
    split at a
    ·cases a;exact bI.1.ap
    ·split at a
     ·cases a;exact bI.1.ap
     ·cases a
def WO{bn:g8}{aq:List Go.aZ.Node}{t:bq->Option eJ}:∀{l:List bG}{K:Int},f8 bn l->n1 aq t l= .error K->bn.A K
 |[],K,_,a=>by rw[n1]at a;cases a
 |I::l,K,bI,a=>by
  rw[f8]at bI
  rw[n1]at a
  split at a
  ·rename_i b ai;cases a;exact XV bI.1 ai
  ·split at a
   ·rename_i b ai;cases a;exact WO bI.2 ai
   ·split at a<;>cases a
end
def P4{α:Type}{f:α->Option Int}{K:Int}:∀{l:List α},l.findSome? f=some K->∃x∈l,f x=some K:=by
 intro l a
 exact List.exists_of_findSome?_eq_some a
def auI{bn:g8}{aq:List Go.aZ.Node}{g:Go.aZ.Node}{K:Int}(a:nr bn g)(aE:xD aq g=some K):bn.A K:=by
 unfold xD at aE
 split at aE
 ·rename_i b ai
  cases aE
  unfold AS at ai
  obtain⟨x,ah,b9⟩:=P4 ai
  split at b9
  ·cases b9;exact(LA a ah).op
  ·cases b9
 ·obtain⟨ao,b6,b9⟩:=P4 aE
  unfold rj at b9
  split at b9
  ·rename_i b ai
   cases b9
   exact XV (a.eqs ao b6).right ai
  ·split at b9
   ·cases b9;exact(a.eqs ao b6).ap
   ·cases b9
def awl{bn:g8}{aq:List Go.aZ.Node}(a:∀g∈aq,nr bn g)(ch:(sX aq).1≠0):bn.A (sX aq).2:=by
 unfold sX at ch ⊢
 split at ch
 ·rename_i aB
  rw[Zr aB]
  rcases alh (aq:=aq) aq 0 a with T|T
  ·exact absurd T aB
  ·exact T
 ·rename_i aB
  rw[Zh aB]
  cases aA:KG aq with
  |none=>rw[aA]at ch;exact absurd rfl ch
  |some K=>
   obtain⟨g,b0,b9⟩:=P4 aA
   exact auI (a g b0) b9
def awm{aq:List Go.aZ.Node}(a:(sX aq).1=0):(uB aq).1=0:=by
 unfold sX at a
 split at a
 ·exact a
 ·rename_i aB;simpa using aB
def amw{aq:List Go.aZ.Node}{t:bq->Option eJ}{ao:gv}(a:rj aq t ao=none):sd aq t ao.right= .ok (ao.left.map (jg t)):=by
 unfold rj at a
 split at a
 ·cases a
 ·rename_i row Z
  rw[Z]
  split at a
  ·cases a
  ·rename_i aM
   simp only[YU,Decidable.not_not]at aM
   rw[aM.2]
def alH{t:bq->Option eJ}{g:Go.aZ.Node}(a:AS t g=none){x:Int×fq}(ah:x∈hl g)(lw:x.2.on≠[]):(jg t x.2.on).b=true:=by
 unfold AS at a
 rw[List.findSome?_eq_none_iff]at a
 have:=a x ah
 cases ai:(jg t x.2.on).b with
 |true=>rfl
 |false=>simp[lw,ai]at this
end
end Go.Proofs.YtpfajohmofnkfaaGreatDoor

