/- A part of the last text's proof; no condition of its own -/
import Derived.Test.YtpfajohmofnkfaaGreatDoorYq
import Derived.Test.YtpfajohmofnkfaaGreatDoorRows
import Derived.ProofKit
set_option maxHeartbeats 8000000
set_option linter.all false
namespace Go.Proofs.YtpfajohmofnkfaaGreatDoor
open Go.bk Go.aZ
noncomputable section
section
variable{X:co}{h U a6 aR:V an}{j ar aJ bc:Nat}{P bv dq hX:Nat->Prop}
def av9{C:a2}{b dN:Nat}{a8:J}{bj jL:List J}(a:d1 C h P b a8 1 (bj.map λv=>[v]))(F:d1 C h bv dN a8 1 (jL.map λv=>[v])):bj=jL:=by
 have aD:bj.length=jL.length:=by
  have T:=a.len
  rw[F.len,Zi,Zi]at T
  injection T with T;injection T with _ T;omega
 apply YN
 intro i
 by_cases aN:i<bj.length
 ·obtain⟨v,bD⟩:∃v,bj[i]? =some v:=⟨_,Ze aN⟩
  obtain⟨g7,qD⟩:∃v,jL[i]? =some v:=⟨_,Ze Zo⟩
  obtain⟨fX,f7,_⟩:=a.one bD
  obtain⟨jG,pc,_⟩:=F.one qD
  rw[fX]at jG;cases jG
  rw[f7]at pc;cases pc
  rw[bD,qD]
 ·rw[ZU Zo,ZU Zo]
def ae8{aq:List Go.aZ.Node}{t:bq->Option eJ}{cV:Nat->Option J}{I:bG}{eo cD:Nat}{a8:J}{bj:List J}(bb:jy X h aq t cV P dq I (.ptr eo 0))(fi:al X h (.ptr eo 8)=some a8)(cG:d1 X h bv cD a8 1 (bj.map λv=>[v])):∃row w,sd aq t I= .ok row/\cV eo=some w/\jO X h dq w row/\jl X h aq t cV P dq I.args bj:=by
 cases I
 rw[jy]at bb
 obtain⟨b,hL,CC,jL,row,w,ai,bB,T,W,au,aP,bK,cr,dP⟩:=bb
 cases ai
 rw[T]at fi;cases fi
 rw[av9 cG W]
 exact⟨row,w,au,aP,cr,dP⟩
def ae9{aq:List Go.aZ.Node}{t:bq->Option eJ}{cV:Nat->Option J}{I:bG}{v:J}(bb:jy X h aq t cV P dq I v):∃b w row,v= .ptr b 0/\P b/\sd aq t I= .ok row/\cV b=some w/\jO X h dq w row:=by
 cases I
 rw[jy]at bb
 obtain⟨b,hL,CC,jL,row,w,ai,bB,T,W,au,aP,bK,cr,dP⟩:=bb
 exact⟨b,w,row,ai,bB,au,aP,cr⟩
def akz{aq:List Go.aZ.Node}{t:bq->Option eJ}{cV:Nat->Option J}:∀{b7:List bG}{bj:List J}{K:List dJ},n1 aq t b7= .ok (K,true)->jl X h aq t cV P dq b7 bj->K.length=b7.length/\∀(i:Nat) ty,K[i]? =some ty->∃b w,bj[i]? =some (.ptr b 0)/\P b/\cV b=some w/\jO X h dq w [ty]:=by
 intro b7
 induction b7 with
 |nil=>intro bj K a _;rw[n1]at a;cases a;exact⟨rfl,λi ty a=>by simp at a⟩
 |cons I b7 am=>
  intro bj K a aD
  rw[jl]at aD
  obtain⟨v,jL,rfl,T,W⟩:=aD
  obtain⟨b,w,row,rfl,ai,ah,bI,bb⟩:=ae9 T
  rw[n1,ah]at a
  simp only[]at a
  split at a
  ·cases a
  ·rename_i ci one aE
   split at a
   ·rename_i x
    cases a
    obtain⟨cL,cC⟩:=am aE W
    refine⟨by simp[cL],λi ty aN=> ?_⟩
    cases i with
    |zero=>simp at aN;subst aN;exact⟨b,w,rfl,ai,bI,bb⟩
    |succ i=>simp at aN;obtain⟨dN,bZ,eW,fv⟩:=cC i ty aN;exact⟨dN,bZ,by simpa using eW,fv⟩
   ·cases a
structure EI(X:co)(h:V an)(eN:Nat)(P dq hX:Nat->Prop)(ao r cO:Nat)(cF p:J)(aq:List Go.aZ.Node)(t:bq->Option eJ)(cV:Nat->Option J):Prop where
 ba:(q X).ba<=eN
 vK:ao<eN
 t8:r<eN
 bU:cO<eN
 ue:al X h (.ptr ao 0)=some (.map r)
 mp:lm X h P r cV
 iN:al X h (.ptr cO 0)=some cF
 oz:oK X h hX cF t
 prog:ns X h P aq p
 bB:∀e,P e->(q X).ba<=e/\e<eN
 rr:∀e,dq e->e<eN
 tH:∀e,hX e->e<eN
def EI.ad{eN ao r cO:Nat}{cF p:J}{aq:List Go.aZ.Node}{t:bq->Option eJ}{cV:Nat->Option J}(a:EI X h eN P dq hX ao r cO cF p aq t cV)(F:∀e,e<eN->ab X U e=ab X h e):EI X U eN P dq hX ao r cO cF p aq t cV:=
 ⟨a.ba,a.vK,a.t8,a.bU,zz (F _ a.vK) a.ue,a.mp.ad (F _ a.t8) (λe H=>F e (a.bB e H).2),zz (F _ a.bU) a.iN,a.oz.ad (λe H=>F e (a.tH e H)) (λ_ a=>a),a.prog.ad (λe H=>F e (a.bB e H).2) (λ_ a=>a),a.bB,a.rr,a.tH⟩
def alC{j8 ca:V an->Nat->Prop}{pE:Prop}(J3:Uf (∀h n,j8 h n->ca h n)->pE)(TJ:∀h n,j8 h n->ca h n):pE:=J3 ⟨TJ⟩
def alb{aq:List Go.aZ.Node}{nm:bq}{K:List dJ}{F:Nat}(aL:m7 aq nm=some F)(a:(yk aq nm K).2=true):∃g,aq[F]? =some g/\g.ef.map (·.ty)=K/\(yk aq nm K).1=g.out.map (·.ty):=by
 unfold yk at a ⊢
 rw[aL,Yy]at a ⊢
 split at a
 ·cases a
 ·rename_i g b0
  rw[b0]
  exact⟨g,rfl,by simpa using a,rfl⟩
def awN{aq:List Go.aZ.Node}{t:bq->Option eJ}{I:bG}{K:List dJ}(mi:I.kind≠25)(T:1<=I.kind)(W:I.kind<=26):∃x,(hg aq t I K).1=[x]:=by
 have aB:I.kind=1\/I.kind=2\/I.kind=3\/I.kind=4\/I.kind=5\/I.kind=6\/I.kind=7\/I.kind=8\/I.kind=9\/I.kind=10\/I.kind=11\/I.kind=12\/I.kind=13\/I.kind=14\/I.kind=15\/I.kind=16\/I.kind=17\/I.kind=18\/I.kind=19\/I.kind=20\/I.kind=21\/I.kind=22\/I.kind=23\/I.kind=24\/I.kind=26:=Zo
 unfold hg
 rcases aB with a|a|a|a|a|a|a|a|a|a|a|a|a|a|a|a|a|a|a|a|a|a|a|a|a<;>simp[a]
def awM{aq:List Go.aZ.Node}{t:bq->Option eJ}{I:bG}{K:List dJ}{x:dJ}(bI:tb kr I)(jp:K.length=I.args.length)(a:I.kind≠1/\I.kind≠26/\I.kind≠2/\I.kind≠10/\I.kind≠11/\I.kind≠12/\I.kind≠13/\I.kind≠14/\I.kind≠15/\I.kind≠23)(mi:I.kind≠25)(ah:(hg aq t I K).1=[x])(Z:(hg aq t I K).2=true):
 (∀e∈K,e=x)/\(x.b=true->I.kind∉([4,19,20,16,17,18]:List Int))/\(I.kind=6\/I.kind=24->(jg t I.name).b=true):=by
 have bY:=bI.bY
 have cx:=bI.cx
 have aB:(I.kind=3\/I.kind=4\/I.kind=5\/I.kind=6\/I.kind=19\/I.kind=20)\/(I.kind=7\/I.kind=8\/I.kind=9\/I.kind=16\/I.kind=17\/I.kind=18\/I.kind=21\/I.kind=22\/I.kind=24):=Zo
 rcases aB with aB|aB
 ·obtain⟨b,rfl⟩:∃b,K=[b]:=by
   have au:K.length=1:=jp.trans (bI.re 1 (by rcases aB with a|a|a|a|a|a<;>rw[a]<;>rfl))
   match K,au with
   |[x],_=>exact⟨x,rfl⟩
  rcases aB with aL|aL|aL|aL|aL|aL
  all_goals
   simp[hg,aL]at ah Z ⊢
   subst ah
   simp_all
 ·obtain⟨b,c,rfl⟩:∃b c,K=[b,c]:=by
   have au:K.length=2:=jp.trans (bI.re 2 (by rcases aB with a|a|a|a|a|a|a|a|a<;>rw[a]<;>rfl))
   match K,au with
   |[x,e],_=>exact⟨x,e,rfl⟩
  rcases aB with aL|aL|aL|aL|aL|aL|aL|aL|aL
  all_goals
   simp[hg,aL,pp]at ah Z ⊢
   subst ah
   simp_all
set_option maxRecDepth 100000 in
def awy(az:dx X){aq:List Go.aZ.Node}{t:bq->Option eJ}{ao r cO eN:Nat}{cF p:J}{cV:Nat->Option J}(bs:∀g∈aq,g.ef.length<=100000/\g.out.length<=100000)(e8:EI X h eN P dq hX ao r cO cF p aq t cV)(aM:eN<=j)
 {I:bG}{v:J}(bA:cR X h P I v)(bI:tb kr I)(bb:jy X h aq t cV P dq I v)(gW:I.kind=25->(m7 aq I.name).isSome=true):
 aW X 36 [.ptr ao 0,p, .func (.func 33) [] [.ptr cO 0],v] h j (λae U ar=>ae= .bool true/\bh X h j U ar) (λ_ _ _=>False):=by
 refine zv az (ajd X) ?_
 rw[aje]
 unfold V1
 obtain⟨eo,a8,cD,bj,rfl,ai,a0,_,ck,_,a4,a5,hv,_,ir,cG,has⟩:=id bA.open
 obtain⟨_,_,_,_,Sa,_,sx,_⟩:=NN bA
 cases Sa
 obtain⟨row,w,o1,iJ,vl,yX⟩:=ae8 bb ir cG
 have tN:=PY aq t I
 rw[o1]at tN
 obtain⟨K,k3,fN,ft⟩:∃K,n1 aq t I.args= .ok (K,true)/\(hg aq t I K).2=true/\row=(hg aq t I K).1:=by
  cases b6:n1 aq t I.args with
  |error x=>rw[b6]at tN;cases tN
  |ok x=>
   obtain⟨K,one⟩:=x
   rw[b6]at tN
   simp only[]at tN
   cases one with
   |false=>rw[Zr rfl]at tN;cases tN
   |true=>
    rw[Zh Zd]at tN
    by_cases Z:(hg aq t I K).2=false
    ·rw[Zr Z]at tN;cases tN
    ·rw[Zh Z]at tN
     exact⟨K,rfl,by simpa using Z,by injection tN⟩
 obtain⟨jp,apf⟩:=akz k3 yX
 have gP:=e8.ba
 have bB:=e8.bB
 have ew:=cG.len
 have xt:=has.len
 have h7:=cG.many
 rw[Zi,xt]at ew h7
 have uU:∀e,P e->e<j:=λe H=>zo (bB e H)
 have rx:bM X h 3 (.ptr eo 4)=some (.agg (dn I.ty)):=by rw[p5,a4,a5,hv];rfl
 have lT:=bB eo ai
 refine c1 @ir @ew ⟨?_⟩
 refine fC (λm M U aV=>∃(aa:Nat) (s:J) (cM:List Nat),M.g 0=some (.ptr ao 0)/\M.g 1=some p/\M.g 2=some (.func (.func 33) [] [.ptr cO 0])/\M.g 3=some (.ptr eo 0)/\M.g 9=some s/\M.g 27=some a8/\M.g 28=some (.Z (I.args.length:Int))/\M.g 29=some (.Z (aa:Int))/\aa+m=I.args.length/\gC X U s 3 (l7 (K.take aa)).flatten cM/\(∀e∈cM,j<=e/\e<aV)/\bh X h j U aV)
  I.args.length ⟨0, .aU,[],bp,bp,bp,bp,bp,bp,bp,fQ,Zo, .inl (.inl ⟨rfl,rfl,rfl⟩),Zs,bh.refl _ _⟩ ?_
 rintro m M aR bc ⟨aa,s,cM,t0,t1,eF,t3,t9,wb,Cc,s3,bL,aI,fj,bC⟩
 have f5:=bC.le
 have kH:∀e,P e->ab X aR e=ab X h e:=λe H=>bC.ad e (uU e H)
 have rp:=e8.ad (U:=aR) λe H=>bC.ad e Zo
 cases m with
 |succ m=>
  have d:=zq aa I.args.length
  have bH:=zt aa
  obtain⟨ty,rx⟩:=zr K aa
  obtain⟨b,py,bD,k1,su,lY⟩:=apf aa ty rx
  obtain⟨x,ah⟩:=zr I.args aa
  obtain⟨g7,qD,Dz⟩:=has.get aa x ah
  rw[bD]at qD;cases qD
  obtain⟨_,_,_,_,lV,_,gQ,_⟩:=NN Dz
  cases lV
  have ao4:=bB b k1
  obtain⟨b5,cd,c0⟩:=(cG.ad kH).one bD
  have nG:K.take (aa+1)=K.take aa++[ty]:=by rw[Z0,rx];rfl
  refine eu @s3 @Cc @wb @t0 @d @b5 @cd ⟨?_⟩
  refine(ae6 (P:=P) (dq:=dq) (t:=ty) az Zo rp.ue (zo e8.vK) (zo e8.t8) rp.mp (λe H=>zo (uU e H)) (gQ.ad (kH b k1)) Zo ao4.1 su (lY.ad (λe H=>bC.ad e (zo (e8.rr e H))) (λ_ a=>a)) (λe H=>zo (e8.rr e H))).Zm ?_
  rintro ae a7 bd ⟨rfl,cm⟩
  have ik:=cm.le
  obtain⟨Oi,ae3,Eu⟩:=ty
  refine c1 @t9 dn.eq_1 ⟨?_⟩
  generalize eB:Go.bk.bo X _ bd _=bw
  have el:bM X bw 3 (.ptr bd 0)=some (.agg (dn ⟨Oi,ae3,Eu⟩)):=by rw[<-eB];exact sJ (bi Zo) rfl
  have d5:∀e,e<bd->ab X bw e=ab X a7 e:=λe H=>by rw[<-eB];exact zu
  clear eB
  refine d9 @t9 @el dn.eq_1 ⟨?_⟩
  generalize jU:Go.bk.bo X bw _ _=bS
  have fK:ab X bS (bd+1)=zs (dn ⟨Oi,ae3,Eu⟩) 3:=by rw[<-jU,bi Zo];rfl
  have er:∀e,e<bd->ab X bS e=ab X a7 e:=λe H=>by rw[<-jU,aG Zo Zo];exact d5 e H
  clear jU
  obtain⟨fg,b4,gG,iv,Jv,pU,m8⟩:=On (j:=bd+1+1) (aI.ad (U:=bS) (λe H=>by have:=fj e H;rw[er e Zo,cm.ad e this.2])) fK (by rw[YW];omega) Zo (λe H=>zo (fj e H)) 1
  refine ky iv ?_
  refine c1 @s3 @bH ⟨?_⟩
  refine⟨m,Zo,aa+1,fg,gG,aQ t0,aQ t1,aQ eF,aQ t3,bp,aQ wb,aQ Cc,bp,Zo,by rw[nG];exact Jv,λe H=> ?_,⟨Zo,λe H=> ?_⟩⟩
  ·rcases pU e H with rfl|a
   ·omega
   ·have:=fj e a;omega
  ·rw[m8 e Zo (λa=>zo (fj e a)),er e Zo,cm.ad e Zo];exact bC.ad e H
 |zero=>
  have d:=zp aa I.args.length
  rw[ZB Zo]at aI
  obtain⟨k8,p1,aAH⟩:=gC.one aI
  obtain⟨oN,apj⟩:=aI.rH (P:=cW j bc) Zd (Ew K) (by simp[l7];omega) fj
  have hG:r2 X aR (cW j bc) s K:=(show jO X aR (cW j bc) s K from⟨oN,apj⟩).rd
  have QT:=hG.len
  have Ws:al X aR (.ptr eo 0)=some (.Z I.kind):=zz (kH eo ai) a0
  have O4:al X aR (.ptr eo 2)=some (.str I.name):=zz (kH eo ai) ck
  have apb:∀e,dq e->ab X aR e=ab X h e:=λe H=>bC.ad e (zo (e8.rr e H))
  by_cases mi:I.kind=25
  ·obtain⟨F,aL⟩:=Option.isSome_iff_exists.1 (gW mi)
   have Bn:hg aq t I K=yk aq I.name K:=by simp[hg,mi]
   rw[Bn]at fN ft
   obtain⟨g,yN,abj,abk⟩:=alb aL fN
   rw[abk]at ft
   subst ft
   obtain⟨FT,Bi⟩:=bs g (Zn yN)
   obtain⟨hq,vR,pq,bF,rfl,k1,ei,Bl,k7⟩:=id e8.prog
   have FW:=k7.wide
   have xk:=(Zc.1 yN).1
   obtain⟨aBf,MS,cY,df,aBv,eR,dy,dZ,hk,yj,hh,rfl,lr,kg,nD,jX,ff⟩:=k7.get F g yN
   have azA:=bB hq k1
   have IJ:P pq:=Bl.ai (λI=>by rw[I]at MS;simp at MS)
   have FQ:dd 6 vR (.Z (F:Int))=some (.ptr pq (F*6)):=Bl.e9 F (by rw[FW.1];exact xk)
   have c5:=Bl.cell F _ 2 cY MS rfl
   have eV:=Bl.cell F _ 3 df MS rfl
   have vd:=lr.len
   have lu:=kg.len
   rw[Zi]at vd lu
   have I6:g.ef.length=K.length:=by rw[<-abj,Zi]
   have r9:decide (I.kind=25)=true:=Yu mi
   refine eu @s3 @Cc @d @t3 @Ws @r9 (Za @t1 @O4) ⟨?_⟩
   refine(LL (j:=bc) (P:=P) az Zo rp.prog (λe H=>zo (uU e H)) I.name).Zm ?_
   rintro ae a7 bd ⟨rfl,cm⟩
   have ik:=cm.le
   rw[aL,Yy,Z3]
   have c7:∀e,e<j->ab X a7 e=ab X h e:=λe H=>by rw[cm.ad e Zo,bC.ad e H]
   have akG:al X a7 (.ptr hq 0)=some vR:=zz (c7 hq Zo) ei
   have atg:al X a7 (.ptr pq (F*6+2))=some cY:=zz (c7 pq (uU _ IJ)) c5
   have ati:al X a7 (.ptr pq (F*6+3))=some df:=zz (c7 pq (uU _ IJ)) eV
   have tG:=e8.ad (U:=a7) λe H=>c7 e Zo
   have sa:decide ((K.length:Int)≠(g.ef.length:Int))=false:=by simp only[Zb,Decidable.not_not];omega
   refine eu @t9 @QT @t1 @akG @FQ @atg (Za @vd (Za @sa (Za @t0 (Za @t3 (Za @ati @lu))))) ⟨?_⟩
   refine(N0 (P:=P) (dq:=dq) (l:=g.out.map (·.ty)) az Zo tG.ue tG.mp (sx.ad (c7 eo Zo)) lT.1 iJ (vl.ad (λe H=>c7 e (zo (e8.rr e H))) (λ_ a=>a)) (λe H=>zo (e8.rr e H))).Zm ?_
   rintro ae bw db ⟨⟨yZ,be⟩,dj⟩
   have jd:=dj.le
   have JD:=be.rd.len
   rw[Zi]at JD
   have d5:∀e,e<j->ab X bw e=ab X h e:=λe H=>by rw[dj.ad e Zo,c7 e H]
   have EV:al X bw (.ptr hq 0)=some vR:=zz (d5 hq Zo) ei
   have ath:al X bw (.ptr pq (F*6+2))=some cY:=zz (d5 pq (uU _ IJ)) c5
   have atj:al X bw (.ptr pq (F*6+3))=some df:=zz (d5 pq (uU _ IJ)) eV
   have alO:decide ((g.out.length:Int)≠(g.out.length:Int))=false:=by simp
   have aq3:=(jt Bl.len).2.2
   have arJ:=(jt lu).2.2
   refine d9 @JD @alO @EV ⟨?_⟩
   refine gs aq3 ?_
   refine ce @atj ⟨?_⟩
   refine gs arJ ?_
   refine ce @lu ⟨?_⟩
   refine gs (by simp[J.same,nK,pt]) ?_
   refine fW @t1 @EV @FQ @ath @vd ⟨?_⟩
   refine fC (λm M U aV=>∃(i:Nat),M.g 0=some (.ptr ao 0)/\M.g 1=some (.ptr hq 0)/\M.g 3=some (.ptr eo 0)/\M.g 9=some s/\M.g 14=some (.Z (F:Int))/\M.g 99=some cY/\M.g 100=some (.Z (g.ef.length:Int))/\M.g 101=some (.Z (i:Int))/\i+m=g.ef.length/\bh X aR bc U aV)
    g.ef.length ⟨0,aQ t0,aQ t1,aQ t3,aQ t9,bp,bp,bp,fQ,Zo,⟨Zo,λe H=>by rw[dj.ad e Zo,cm.ad e Zo]⟩⟩ ?_
   clear t0 t1 eF t3 t9 wb Cc s3
   rintro m M bS cj ⟨i,t0,t1,t3,t9,my,Ao,v7,xS,aN,dF⟩
   have il:=dF.le
   have er:∀e,e<j->ab X bS e=ab X h e:=λe H=>by rw[dF.ad e Zo,bC.ad e H]
   cases m with
   |succ m=>
    have d:=zq i g.ef.length
    have bH:=zt i
    obtain⟨m5,IX⟩:=zr g.ef i
    have aph:K[i]? =some m5.ty:=by rw[<-abj,Zt,IX];rfl
    have dQ:=lr.e9 i (by rw[Zi];omega)
    have hS:=(lr.ad (λe H=>er e (uU e H))).row Zd (i:=i) (r:=eK m5) (by rw[Zt,IX];rfl)
    refine iu @xS @v7 @Ao @d @dQ @hS ⟨?_⟩
    generalize gd:Go.bk.bo X _ cj _=b4
    have d8:ab X b4 cj=zs (eK m5) 8:=by rw[<-gd,bi Zo];rfl
    have dK:∀e,e<cj->ab X b4 e=ab X bS e:=λe H=>by rw[<-gd];exact zu
    clear gd
    have aD:bM X b4 3 (.ptr cj 2)=some (.agg (dn m5.ty)):=sJ d8 rfl
    obtain⟨azc,Ab,gS,hs,ht,kB⟩:=(hG.ad (bv:=cW j bc) (U:=b4) (λe H=>by rw[dK e (zo H.2),dF.ad e H.2]) (λ_ a=>a)).e9 i m5.ty aph
    have rh:(!decide (m5.ty=m5.ty))=false:=by simp
    refine eu @aD @t9 @xS @gS @ht @GP (Za @rh @bH) ⟨?_⟩
    exact⟨m,Zo,i+1,aQ t0,aQ t1,aQ t3,aQ t9,aQ my,aQ Ao,aQ v7,bp,Zo,⟨Zo,λe H=>by rw[dK e Zo];exact dF.ad e H⟩⟩
   |zero=>
    have d:=zp i g.ef.length
    have akH:al X bS (.ptr hq 0)=some vR:=zz (er hq Zo) ei
    have atk:al X bS (.ptr pq (F*6+3))=some df:=zz (er pq (uU _ IJ)) eV
    refine eu @xS @v7 @d @t1 @akH @my (Za @FQ (Za @atk @lu)) ⟨?_⟩
    refine fC (λm M U aV=>∃(i:Nat),M.g 0=some (.ptr ao 0)/\M.g 3=some (.ptr eo 0)/\M.g 121=some df/\M.g 122=some (.Z (g.out.length:Int))/\M.g 123=some (.Z (i:Int))/\i+m=g.out.length/\bh X aR bc U aV)
     g.out.length ⟨0,aQ t0,aQ t3,bp,bp,fQ,Zo,dF⟩ ?_
    clear t0 t1 t3 t9 my Ao v7 xS
    rintro m M b4 dH ⟨i,t0,t3,aeX,TO,TP,aN,dV⟩
    have pY:=dV.le
    have dK:∀e,e<j->ab X b4 e=ab X h e:=λe H=>by rw[dV.ad e Zo,bC.ad e H]
    cases m with
    |zero=>
     have d:=zp i g.out.length
     refine d9 @TP @TO @d ⟨?_⟩
     exact⟨rfl,bC.trans dV⟩
    |succ m=>
     have d:=zq i g.out.length
     have bH:=zt i
     obtain⟨m5,IX⟩:=zr g.out i
     have dQ:=kg.e9 i (by rw[Zi];omega)
     have hS:=(kg.ad (λe H=>dK e (uU e H))).row Zd (i:=i) (r:=eK m5) (by rw[Zt,IX];rfl)
     refine iu @TP @TO @aeX @d @dQ @hS ⟨?_⟩
     generalize ku:Go.bk.bo X _ dH _=cu
     have eQ:ab X cu dH=zs (eK m5) 8:=by rw[<-ku,bi Zo];rfl
     have fR:∀e,e<dH->ab X cu e=ab X b4 e:=λe H=>by rw[<-ku];exact zu
     clear ku
     have aD:bM X cu 3 (.ptr dH 2)=some (.agg (dn m5.ty)):=sJ eQ rfl
     have Sn:∀e,e<j->ab X cu e=ab X h e:=λe H=>by rw[fR e Zo,dK e H]
     have oX:=e8.ad (U:=cu) λe H=>Sn e Zo
     refine d9 @aD @t0 @t3 ⟨?_⟩
     refine(N0 (P:=P) (dq:=dq) (l:=g.out.map (·.ty)) az Zo oX.ue oX.mp (sx.ad (Sn eo Zo)) lT.1 iJ (vl.ad (λe H=>Sn e (zo (e8.rr e H))) (λ_ a=>a)) (λe H=>zo (e8.rr e H))).Zm ?_
     rintro ae d4 fd ⟨⟨yZ,be⟩,gy⟩
     have vb:=gy.le
     have Ru:bM X d4 3 (.ptr dH 2)=some (.agg (dn m5.ty)):=by rw[kI,gy.ad dH Zo, <-kI];exact aD
     obtain⟨azd,NF,gS,hs,ht,kB⟩:=be.rd.e9 i m5.ty (by rw[Zt,IX];rfl)
     have rh:(!decide (m5.ty=m5.ty))=false:=by simp
     refine fW @gS @ht @GP @rh @Ru ⟨?_⟩
     refine gs (p9 m5.ty) ?_
     refine c1 @TP @bH ⟨?_⟩
     exact⟨m,Zo,i+1,aQ t0,aQ t3,aQ aeX,aQ TO,bp,Zo,⟨Zo,λe H=>by rw[gy.ad e Zo,fR e Zo];exact dV.ad e H⟩⟩
  ·obtain⟨x,ah⟩:∃x,(hg aq t I K).1=[x]:=by
    exact awN mi bI.bY bI.cx
   rw[ah]at ft
   subst ft
   have r9:decide (I.kind=25)=false:=Yj mi
   refine eu @s3 @Cc @d @t3 @Ws @r9 @t0 ⟨?_⟩
   refine(ae6 (P:=P) (dq:=dq) (t:=x) az Zo rp.ue (zo e8.vK) (zo e8.t8) rp.mp (λe H=>zo (uU e H)) (sx.ad (kH eo ai)) Zo lT.1 iJ (vl.ad apb (λ_ a=>a)) (λe H=>zo (e8.rr e H))).Zm ?_
   rintro ae a7 bd ⟨rfl,cm⟩
   have ik:=cm.le
   obtain⟨mY,qf,q1⟩:=x
   refine c1 @t3 dn.eq_1 ⟨?_⟩
   generalize eB:Go.bk.bo X _ bd _=bw
   have el:ab X bw bd=some (.cells (d3 (V.ofList [.bool false, .bool false, .Z 0] 0 .nil) 0 (dn ⟨mY,qf,q1⟩)) 3 .own):=by rw[<-eB,bi Zo];rfl
   have d5:∀e,e<bd->ab X bw e=ab X a7 e:=λe H=>by rw[<-eB];exact zu
   clear eB
   have ht:bM X bw 3 (.ptr bd 0)=some (.agg (dn ⟨mY,qf,q1⟩)):=sJ el rfl
   have gS:al X bw (.ptr bd 0)=some (.bool mY):=by rw[bR el];rfl
   have dj:bh X aR bc bw (bd+1):=⟨Zo,λe H=>by rw[d5 e Zo];exact cm.ad e H⟩
   have Nh:∀e,e<j->ab X bw e=ab X h e:=λe H=>by rw[dj.ad e Zo,bC.ad e H]
   have r3:al X bw (.ptr eo 0)=some (.Z I.kind):=zz (Nh eo Zo) a0
   have Wu:al X bw (.ptr eo 2)=some (.str I.name):=zz (Nh eo Zo) ck
   have R8:bM X bw 3 (.ptr eo 4)=some (.agg (dn I.ty)):=by rw[kI,Nh eo Zo, <-kI];exact rx
   have aaI:r2 X bw (cW j bc) s K:=hG.ad (λe H=>dj.ad e H.2) (λ_ a=>a)
   have nz:=e8.ad (U:=bw) λe H=>Nh e Zo
   have h1:∀{U:V an}{aV:Nat},bh X bw (bd+1) U aV->bh X h j U aV:=λa=>bC.trans (dj.trans a)
   have e9:∀(i:Nat) ty,K[i]? =some ty->∃b Y,dd 3 s (.Z (i:Int))=some (.ptr b Y)/\cW j bc b/\bM X bw 3 (.ptr b Y)=some (.agg (dn ty))/\al X bw (.ptr b Y)=some (.bool ty.b):=aaI.e9
   have aA1:=bI.bY
   have aA2:=bI.cx
   have Q4:I.kind=1\/I.kind=26\/I.kind=2\/(I.kind=10\/I.kind=11)\/(I.kind=12\/I.kind=13\/I.kind=14\/I.kind=15)\/I.kind=23\/(I.kind≠1/\I.kind≠26/\I.kind≠2/\I.kind≠10/\I.kind≠11/\I.kind≠12/\I.kind≠13/\I.kind≠14/\I.kind≠15/\I.kind≠23):=Zo
   rcases Q4 with a|a|a|a|a|a|a
   ·have sl:K=[]:=Yc (by rw[jp];exact bI.re 0 (by rw[a];rfl))
    subst sl
    have Dz:(⟨mY,qf,q1⟩:dJ)=I.ty:=by
     unfold hg at ah
     rw[Zr a]at ah
     injection ah with ah _;exact ah.symm
    have m6:decide ((⟨mY,qf,q1⟩:dJ)=I.ty)=true:=Yu Dz
    have ao9:dI s=some (.Z 0):=QT
    refine eu @t3 @r3 @md @mc @ht @R8 (Za @CN (Za @m6 (Za @t9 @ao9))) ⟨?_⟩
    exact⟨rfl,h1 ((bh.refl _ _).more Zo)⟩
   ·obtain⟨ei,rfl⟩:∃ei,K=[ei]:=by
     have au:K.length=1:=jp.trans (bI.re 1 (by rw[a];rfl))
     match K,au with
     |[x],_=>exact⟨x,rfl⟩
    simp[hg,a]at ah fN
    have m6:decide ((⟨mY,qf,q1⟩:dJ)=I.ty)=true:=Yu ah.symm
    have aaJ:dI s=some (.Z 1):=QT
    have Xn:decide ((1:Int)=0)=false:=rfl
    obtain⟨cD,Y,fX,f7,i3,i4⟩:=e9 0 ei rfl
    have fX:dd 3 s (.Z 0)=some (.ptr cD Y):=fX
    cases xu:mY with
    |false=>
     rw[xu]at gS ht m6
     refine eu @t3 @r3 @md @mc @ht @R8 (Za @CN (Za @m6 (Za @t9 (Za @aaJ (Za @Xn @gS))))) ⟨?_⟩
     exact⟨rfl,h1 ((bh.refl _ _).more Zo)⟩
    |true=>
     have hc:ei.b=true:=by rw[ah,xu]at fN;simpa using fN
     rw[xu]at gS ht m6
     rw[hc]at i4
     refine eu @t3 @r3 @md @mc @ht @R8 (Za @CN (Za @m6 (Za @t9 (Za @aaJ (Za @Xn (Za @gS (Za @fX @i4))))))) ⟨?_⟩
     exact⟨rfl,h1 ((bh.refl _ _).more Zo)⟩
   ·have Dz:jg t I.name=⟨mY,qf,q1⟩:=by simpa[hg,a]using ah
    refine eu @t3 @r3 @md @mc @ht @eF @Wu ⟨?_⟩
    refine(Kg (j:=bd+1+9) az Zo (zo e8.bU) nz.iN nz.oz (λe H=>zo (e8.tH e H)) I.name).Zm ?_
    rintro ae bS cj ⟨rfl,dF⟩
    rw[Dz]
    have ayT:bM X bS 3 (.ptr bd 0)=some (.agg (dn ⟨mY,qf,q1⟩)):=by rw[kI,dF.ad bd Zo, <-kI];exact ht
    have m6:decide ((⟨mY,qf,q1⟩:dJ)=⟨mY,qf,q1⟩)=true:=Yu rfl
    refine d9 @CN @m6 @ayT ⟨?_⟩
    refine gs (p9 _) ?_
    exact⟨rfl,h1 (dF.j3 Zo)⟩
   ·obtain⟨ei,cT,rfl⟩:∃ei cT,K=[ei,cT]:=by
     have au:K.length=2:=jp.trans (bI.re 2 (by rcases a with a|a<;>rw[a]<;>rfl))
     match K,au with
     |[x,e],_=>exact⟨x,e,rfl⟩
    obtain⟨cD,Y,fX,f7,i3,i4⟩:=e9 0 ei rfl
    obtain⟨CC,o',jG,pc,BF,acE⟩:=e9 1 cT rfl
    have fX:dd 3 s (.Z 0)=some (.ptr cD Y):=fX
    have jG:dd 3 s (.Z 1)=some (.ptr CC o'):=jG
    have b6:mY=true/\ei=cT:=by
     rcases a with a|a
     all_goals
      simp[hg,a,pp,Ci]at ah fN
      exact⟨ah.1,fN.symm⟩
    obtain⟨rfl,rfl⟩:=b6
    have m6:decide (ei=ei)=true:=Yu rfl
    rcases a with a|a
    all_goals
     refine eu @t3 @r3 @md @mc @gS @t9 (Za @fX (Za @i3 (Za @jG (Za @BF (Za @CN @m6))))) ⟨?_⟩
     exact⟨rfl,h1 ((bh.refl _ _).more Zo)⟩
   ·obtain⟨ei,cT,rfl⟩:∃ei cT,K=[ei,cT]:=by
     have au:K.length=2:=jp.trans (bI.re 2 (by rcases a with a|a|a|a<;>rw[a]<;>rfl))
     match K,au with
     |[x,e],_=>exact⟨x,e,rfl⟩
    obtain⟨cD,Y,fX,f7,i3,i4⟩:=e9 0 ei rfl
    obtain⟨CC,o',jG,pc,BF,acE⟩:=e9 1 cT rfl
    have fX:dd 3 s (.Z 0)=some (.ptr cD Y):=fX
    have jG:dd 3 s (.Z 1)=some (.ptr CC o'):=jG
    have b6:mY=true/\ei=cT/\ei.b=false:=by
     rcases a with a|a|a|a
     all_goals
      simp[hg,a,pp,Ci]at ah fN
      exact⟨ah.1,fN.1.symm,fN.2⟩
    obtain⟨rfl,rfl,hc⟩:=b6
    rw[hc]at i4
    have m6:decide (ei=ei)=true:=Yu rfl
    rcases a with a|a|a|a
    all_goals
     refine eu @t3 @r3 @md @mc @gS @t9 (Za @fX (Za @i3 (Za @jG (Za @BF (Za @CN (Za @m6 @i4)))))) ⟨?_⟩
     exact⟨rfl,h1 ((bh.refl _ _).more Zo)⟩
   ·obtain⟨ei,cT,dL,rfl⟩:∃ei cT dL,K=[ei,cT,dL]:=by
     have au:K.length=3:=jp.trans (bI.re 3 (by rw[a];rfl))
     match K,au with
     |[x,e,bu],_=>exact⟨x,e,bu,rfl⟩
    obtain⟨cD,Y,fX,f7,i3,i4⟩:=e9 0 ei rfl
    obtain⟨CC,o',jG,pc,BF,acE⟩:=e9 1 cT rfl
    obtain⟨bN,D5,fc,f1,je,sN⟩:=e9 2 dL rfl
    have fX:dd 3 s (.Z 0)=some (.ptr cD Y):=fX
    have jG:dd 3 s (.Z 1)=some (.ptr CC o'):=jG
    have fc:dd 3 s (.Z 2)=some (.ptr bN D5):=fc
    have b6:cT=⟨mY,qf,q1⟩/\dL=⟨mY,qf,q1⟩/\ei.b=true:=by
     simp[hg,a,pp]at ah fN
     exact⟨ah,by rw[fN.2];exact ah,fN.1⟩
    obtain⟨rfl,rfl,hc⟩:=b6
    rw[hc]at i4
    have m6:decide ((⟨mY,qf,q1⟩:dJ)=⟨mY,qf,q1⟩)=true:=Yu rfl
    refine eu @t3 @r3 @md @mc @ht @t9 (Za @fX (Za @i4 (Za @jG (Za @BF (Za @CN (Za @m6 (Za @fc @je))))))) ⟨?_⟩
    exact⟨rfl,h1 ((bh.refl _ _).more Zo)⟩
   ·obtain⟨ha,tv,tt⟩:=awM bI jp a mi ah fN
    obtain⟨cL,cC,d6,fU,lC,xL,B7,Ti,NY,avZ⟩:=a
    have eS:decide (I.kind=1)=false:=Yj cL
    have e2:decide (I.kind=26)=false:=Yj cC
    have iU:decide (I.kind=2)=false:=Yj d6
    have nx:decide (I.kind=10)=false:=Yj fU
    have uJ:decide (I.kind=11)=false:=Yj lC
    have f6:decide (I.kind=12)=false:=Yj xL
    have amO:decide (I.kind=13)=false:=Yj B7
    have amP:decide (I.kind=14)=false:=Yj Ti
    have amQ:decide (I.kind=15)=false:=Yj NY
    have amN:decide (I.kind=23)=false:=Yj avZ
    refine eu @t3 @r3 @eS @e2 @iU @nx (Za @uJ (Za @f6 (Za @amO (Za @amP (Za @amQ @amN))))) ⟨?_⟩
    generalize jU:Go.bk.bo X bw _ _=bS
    have fK:ab X bS (bd+1)=zs [J.Z 4, .Z 19, .Z 20, .Z 16, .Z 17, .Z 18] (6*1):=by rw[<-jU,bi Zo]
    have er:∀e,e<bd+1->ab X bS e=ab X bw e:=λe H=>by rw[<-jU,aG Zo Zo]
    clear jU
    have O3:al X bS (.ptr eo 0)=some (.Z I.kind):=zz (er eo Zo) r3
    have Wv:al X bS (.ptr eo 2)=some (.str I.name):=zz (er eo Zo) Wu
    have hx:=nz.ad (U:=bS) λe H=>er e Zo
    have dF:bh X bw (bd+1) bS (bd+1+1):=⟨Zo,λe H=>er e H⟩
    apply alC (j8:=λU aV=>bh X bS (bd+1+1) U aV)
    ·intro So
     by_cases cr:I.kind=6
     ·have h3:decide (I.kind≠6)=false:=by simp[cr]
      rw[h3]
      refine gl @t3 @O3 @eF @Wv ⟨?_⟩
      refine(Kg (j:=bd+1+1) az Zo (zo e8.bU) hx.iN hx.oz (λe H=>zo (e8.tH e H)) I.name).Zm ?_
      rintro ae b4 dH ⟨rfl,dV⟩
      have ij:=tt (.inl cr)
      generalize jg t I.name=D5 at ij ⊢
      obtain⟨gz,kv,nf⟩:=D5
      simp only at ij
      subst ij
      have qm:ny false 0 1 (.agg (dn ⟨true,kv,nf⟩))=some (.bool true):=rfl
      refine ce @qm ⟨?_⟩
      exact So.out b4 dH dV
     ·have h3:decide (I.kind≠6)=true:=by simp[cr]
      by_cases QA:I.kind=24
      ·have PE:decide (I.kind≠24)=false:=by simp[QA]
       rw[h3]
       refine fW @t3 @O3 @PE @eF @Wv ⟨?_⟩
       refine(Kg (j:=bd+1+1) az Zo (zo e8.bU) hx.iN hx.oz (λe H=>zo (e8.tH e H)) I.name).Zm ?_
       rintro ae b4 dH ⟨rfl,dV⟩
       have ij:=tt (.inr QA)
       generalize jg t I.name=D5 at ij ⊢
       obtain⟨gz,kv,nf⟩:=D5
       simp only at ij
       subst ij
       have qm:ny false 0 1 (.agg (dn ⟨true,kv,nf⟩))=some (.bool true):=rfl
       refine ce @qm ⟨?_⟩
       exact So.out b4 dH dV
      ·have PE:decide (I.kind≠24)=true:=by simp[QA]
       rw[h3]
       refine d9 @t3 @O3 @PE ⟨?_⟩
       exact So.out bS (bd+1+1) (bh.refl _ _)
    intro b4 dH dV
    have pY:=dV.le
    have dK:∀e,e<bd+1->ab X b4 e=ab X bw e:=λe H=>by rw[dV.ad e Zo,er e H]
    have ayU:bM X b4 3 (.ptr bd 0)=some (.agg (dn ⟨mY,qf,q1⟩)):=by rw[kI,dK bd Zo, <-kI];exact ht
    refine ce @t9 ⟨?_⟩
    refine(alw (L:=K) (b:=⟨mY,qf,q1⟩) (P:=cW j bc) az Zo Zo ayU (aaI.ad (λe H=>dK e (zo H.2)) (λ_ a=>a)) (λe H=>zo H.2) ha).Zm ?_
    rintro ae cu e1 ⟨rfl,e7⟩
    have nE:=e7.le
    have fR:∀e,e<bd+1->ab X cu e=ab X bw e:=λe H=>by rw[e7.ad e Zo,dK e H]
    have KP:al X cu (.ptr bd 0)=some (.bool mY):=zz (fR bd Zo) gS
    have AI:al X cu (.ptr eo 0)=some (.Z I.kind):=zz (fR eo Zo) r3
    cases xu:mY with
    |false=>
     rw[xu]at KP
     refine ce @KP ⟨?_⟩
     exact⟨rfl,h1 ⟨Zo,λe H=>fR e H⟩⟩
    |true=>
     rw[xu]at KP
     have eQ:ab X cu (bd+1)=zs [J.Z 4, .Z 19, .Z 20, .Z 16, .Z 17, .Z 18] (6*1):=by rw[e7.ad _ Zo,dV.ad _ Zo];exact fK
     refine d9 @KP @t3 @AI ⟨?_⟩
     refine(alx (P:=cW (bd+1) (bd+1+1)) (l:=[4,19,20,16,17,18]) az I.kind Zo (Eb (bF:=[[.Z 4],[.Z 19],[.Z 20],[.Z 16],[.Z 17],[.Z 18]]) eQ rfl Zs Zo ⟨Zo,Zo⟩) (λe H=>zo H.2) (tv xu)).Zm ?_
     rintro ae d4 fd ⟨rfl,gy⟩
     have vb:=gy.le
     refine cS ⟨?_⟩
     exact⟨rfl,h1 ⟨Zo,λe H=>by rw[gy.ad e Zo];exact fR e H⟩⟩
end
end
end Go.Proofs.YtpfajohmofnkfaaGreatDoor

namespace Go.aZ
end Go.aZ

namespace Go.Proofs.YtpfajohmofnkfaaGreatDoor
open Go.bk
noncomputable section
end
end Go.Proofs.YtpfajohmofnkfaaGreatDoor

namespace Go.Proofs.YtpfajohmofnkfaaGreatDoor
open Go.bk Go.aZ
noncomputable section
section
variable{X:co}{h U a6 aR:V an}{j ar aJ bc:Nat}{P:Nat->Prop}
end
section
variable{X:co}{h U a6 aR:V an}{j ar aJ bc:Nat}{P:Nat->Prop}
end
section
variable{X:co}{h U a6 aR:V an}{j ar aJ bc:Nat}{P bv dq hX:Nat->Prop}
def auB:dc X h .eql 65 true .cy .cy=some (.bool true):=Zk
def jl.get{aq:List Go.aZ.Node}{t:bq->Option eJ}{cV:Nat->Option J}:∀{b7:List bG}{bj:List J},jl X h aq t cV P dq b7 bj->∀(i:Nat) K w,b7[i]? =some K->bj[i]? =some w->jy X h aq t cV P dq K w:=by
 intro b7
 induction b7 with
 |nil=>intro bj _ i K w a;simp at a
 |cons I b7 am=>
  intro bj a i K w aE bD
  rw[jl]at a
  obtain⟨v,jL,rfl,T,W⟩:=a
  cases i with
  |zero=>simp at aE bD;subst aE;subst bD;exact T
  |succ i=>simp at aE bD;exact am W i K w aE bD
def td.get{aq:List Go.aZ.Node}{t:bq->Option eJ}{cV:Nat->Option J}:∀{c2:List gv}{bF:List (List J)},td X h aq t cV P dq c2 bF->∀(i:Nat) ao row,c2[i]? =some ao->bF[i]? =some row->∃v,row[3]? =some v/\rj aq t ao=none/\jy X h aq t cV P dq ao.right v:=by
 intro c2
 induction c2 with
 |nil=>intro bF _ i ao row a;simp at a
 |cons I c2 am=>
  rintro bF ⟨row,hh,v,rfl,T,W,au,aP⟩ i ao qV b6 Z
  cases i with
  |zero=>simp at b6 Z;subst b6;subst Z;exact⟨v,T,W,au⟩
  |succ i=>simp at b6 Z;exact am aP i ao qV b6 Z
def tc.get{aq:List Go.aZ.Node}{cV:Nat->Option J}:∀{l:List Go.aZ.Node}{bF:List (List J)},tc X h aq cV P dq l bF->bF.length=l.length/\∀(i:Nat) g,l[i]? =some g->∃row,bF[i]? =some row/\Cp X h aq cV P dq g row:=by
 intro l
 induction l with
 |nil=>rintro bF rfl;exact⟨rfl,λi g a=>by simp at a⟩
 |cons K l am=>
  rintro bF ⟨row,hh,rfl,T,W⟩
  obtain⟨cL,cC⟩:=am W
  refine⟨by simp[cL],λi g aN=> ?_⟩
  cases i with
  |zero=>simp at aN;subst aN;exact⟨row,rfl,T⟩
  |succ i=>simp at aN;obtain⟨r,eW,fv⟩:=cC i g aN;exact⟨r,by simpa using eW,fv⟩
def aqN(az:dx X){aq:List Go.aZ.Node}{t:bq->Option eJ}{ao r cO eN ai Eu ad4 mu:Nat}{cF p:J}{cV:Nat->Option J}(bs:∀g∈aq,g.ef.length<=100000/\g.out.length<=100000)(e8:EI X h eN P dq hX ao r cO cF p aq t cV)(aM:eN<=j)(ha:s9 X h ai true)(aqf:(q X).ba<=ai)(c4:ai<j)
 (en:al X h (.ptr Eu 0)=some (.ptr ao 0))(c5:al X h (.ptr ad4 0)=some p)(eV:al X h (.ptr mu 0)=some (.func (.func 33) [] [.ptr cO 0]))
 {I:bG}{v:J}(bA:cR X h P I v)(bI:tb kr I)(bb:jy X h aq t cV P dq I v)(gW:I.kind=25->(m7 aq I.name).isSome=true):
 aW X 35 [v, .ptr ai 0, .ptr Eu 0, .ptr ad4 0, .ptr mu 0] h j (λae U ar=>ae= .bool true/\j<=ar/\s9 X U ai true/\∀e,e<j->e≠ai->ab X U e=ab X h e) (λ_ _ _=>False):=by
 refine zv az (ajb X) ?_
 rw[ajc]
 unfold V0
 have anE:=ha.ry
 refine gl @anE @en @c5 @eV ⟨?_⟩
 refine(awy az bs e8 aM bA bI bb gW).Zm ?_
 rintro ae aR bc ⟨rfl,bC⟩
 have anF:=ha.ad (bC.ad ai c4)
 refine cS ⟨?_⟩
 refine anF.st aqf (v:=true) λa7 cL cC=> ?_
 have anG:=cL.ry
 refine ce @anG ⟨?_⟩
 exact⟨rfl,bC.le,cL,λe H dT=>by rw[cC e dT];exact bC.ad e H⟩
set_option maxRecDepth 100000 in
def atv(az:iS X)(e3:Hu X)(gn:wC X)(aoM:rW X)(aoN:x3 X)(eH:ED X)(yX:(q X).hf 30 []=some (.bool true)){a0 bf:J}{ps s:bq}(aM:(q X).ba<=j)(aD:dI a0=some (.Z (ps.length:Int)))(aI:s.length<=5000)(ai:∀c∈s,c<256)
 (jq:s1 X h 1 a0 none (some (.Z (min (ps.length:Int) 3000))) none=some bf)(pX:dI bf=some (.Z (s.length:Int)))(C7:∀U aV,bh X h j U aV->AR X U bf=some (.str s)):
 aW X 6 [a0] h j (λae U ar=>ae= .bool true/\bh X h j U ar) (λ_ _ _=>False):=by
 refine zv az.todx (ajt X) ?_
 rw[aju]
 unfold V6
 refine d9 @aD @aui @jq ⟨?_⟩
 refine(avr az e3 gn aI ai aM pX C7).Zm ?_
 rintro ae a6 aJ ⟨Dm,bT⟩
 have jF:=bT.le
 cases yR:B2 s with
 |error mo=>
  rw[yR]at Dm
  obtain⟨F,K⟩:=mo
  have Rr:=avv aI yR
  have be:ae= .tuple [.cy, .agg [.Z F, .Z K]]:=Dm
  subst be
  have bu:decide (F≠0)=true:=by simp[Rr]
  refine ce @bu ⟨?_⟩
  refine E5 yX ?_
  refine cS ⟨?_⟩
  exact⟨rfl,Zo,λe H=>by simp(disch:=omega) only[aG];exact bT.ad e H⟩
 |ok aq=>
  rw[yR]at Dm
  obtain⟨v,rfl,Dk⟩:=Dm
  obtain⟨M8,dT,pZ⟩:=avw yR
  have ar9:=(ad2 yR).1
  obtain⟨azV,mK⟩:=Nr pZ
  have bs:∀g∈aq,g.ef.length<=100000/\g.out.length<=100000:=λg b0=>zo (mK g b0).vars
  obtain⟨b,_,_,_,rfl,apo,_⟩:=id Dk
  have xc:=apo.2
  have bu:decide ((0:Int)≠0)=false:=rfl
  refine c1 @bu @PV ⟨?_⟩
  refine fk (λaR=>al X aR (.ptr aJ 0)=some (.ptr b 0)/\(∃c,ab X aR (aJ+1)=some (.cells c 2 .own))/\bh X a6 aJ aR (aJ+1+1)) ⟨by rw[cg];simp(disch:=omega) only[aG,bi]<;>rfl,⟨_,by simp(disch:=omega) only[aG,bi]<;>rfl⟩,dR⟩ ?_
  rintro aR ⟨hp,⟨alf,e2⟩,bC⟩
  have kH:∀e,cW j aJ e->ab X aR e=ab X a6 e:=λe H=>bC.ad e H.2
  have aqW:=Dk.ad (bv:=cW j aJ) kH (λ_ a=>a)
  refine(alj (j:=aJ+1+1) (P:=cW j aJ) az e3.err aoM aoN eH Zo aqW (λe H=>⟨zo H.1,zo H.2⟩) M8 dT pZ).Zm ?_
  rintro ae a7 bd ⟨ml,cm⟩
  have ik:=cm.le
  have uc:al X a7 (.ptr aJ 0)=some (.ptr b 0):=zz (cm.ad _ Zo) hp
  have iU:ab X a7 (aJ+1)=some (.cells alf 2 .own):=by rw[cm.ad _ Zo];exact e2
  have Fy:bh X a6 aJ a7 bd:=bC.trans (cm.j3 Zo)
  have k3:=λch=>awl ar9 ch
  have fM:=awm (aq:=aq)
  unfold Hp at ml
  generalize F6:sX aq=Ef at*
  obtain⟨cc,tk⟩:=Ef
  simp only at ml k3 fM
  by_cases aB:cc=0
  ·subst aB
   rw[Zr rfl]at ml
   obtain⟨wg,rfl,ao,r,cV,rfl,QV,QW,aq7,aoV,ao3⟩:=ml
   have apD:=fM rfl
   have azB:=QV.1;have azC:=QV.2
   have azD:=QW.1;have azE:=QW.2
   refine ce @iU ⟨?_⟩
   generalize eB:Go.bk.bo X _ (aJ+1) _=bw
   have Su:al X bw (.ptr (aJ+1) 0)=some (.Z 0):=by rw[<-eB,bR (bi Zo)];exact Ot _ _ _
   have SS:al X bw (.ptr bd 0)=some (.ptr ao 0):=by rw[<-eB,cg];simp(disch:=omega) only[aG,bi]<;>rfl
   have d5:∀e,e<bd->e≠aJ+1->ab X bw e=ab X a7 e:=λe T W=>by rw[<-eB];exact zu
   clear eB
   have B1:al X bw (.ptr aJ 0)=some (.ptr b 0):=zz (d5 aJ Zo Zo) uc
   obtain⟨dN,a8,cD,bF,Dl,azG,ei,cG,aqL⟩:=ao3
   cases Dl
   obtain⟨Dq,Dg⟩:=aqL.get
   have EV:al X bw (.ptr b 0)=some a8:=zz (d5 b Zo Zo) ei
   have ew:=cG.len
   have h7:=cG.many
   rw[Dq]at ew h7
   have h1:∀{U:V an}{aV:Nat},bh X bw (bd+1) U aV->bh X h j U aV:=λa=>⟨zo a.le,λe H=>by rw[a.ad e Zo,d5 e Zo Zo,Fy.ad e Zo];exact bT.ad e H⟩
   have la:∀e,cW j aJ e->ab X bw e=ab X a7 e:=λe H=>by have:=H.2;exact d5 e Zo Zo
   have Gu:∀e,cW (aJ+1+1) bd e->ab X bw e=ab X a7 e:=λe H=>by have:=H.1;have:=H.2;exact d5 e Zo Zo
   have aq8:al X bw (.ptr ao 0)=some (.map r):=zz (Gu ao QV) aq7
   have aoW:lm X bw (cW j aJ) r cV:=aoV.ad (Gu r QW) la
   have aqX:ns X bw (cW j aJ) aq (.ptr b 0):=Dk.ad (U:=bw) (bv:=cW j aJ) (λe H=>by rw[la e H];exact Fy.ad e H.2) (λ_ a=>a)
   refine fW @Su @bu @B1 @EV @ew ⟨?_⟩
   refine fC (λm M U aV=>∃(aa:Nat),M.g 3=some (.ptr aJ 0)/\M.g 5=some (.ptr bd 0)/\M.g 64=some a8/\M.g 65=some (.Z (aq.length:Int))/\M.g 66=some (.Z (aa:Int))/\aa+m=aq.length/\bh X bw (bd+1) U aV)
    aq.length ⟨0,bp,bp,bp,bp,fQ,Zo,bh.refl _ _⟩ ?_
   rintro m M b4 dH ⟨aa,t3,t5,iA,j7,l5,bL,dV⟩
   have pY:=dV.le
   cases m with
   |zero=>
    have d:=zp aa aq.length
    refine d9 @l5 @j7 @d ⟨?_⟩
    refine E5 yX ?_
    exact⟨rfl,h1 dV⟩
   |succ m=>
    have d:=zq aa aq.length
    have bH:=zt aa
    obtain⟨g,nC⟩:=zr aq aa
    have u4:=Zn nC
    obtain⟨row,ft,xm,cY,df,hL,eR,cT,dL,et,ig,hh,rfl,lr,kg,nD,jX,ff,arY⟩:=Dg aa g nC
    have kh:oH X a7 (cW j aJ) g [.str g.name, .Z g.at_,cY,df,hL,eR]:=⟨cY,df,hL,eR,cT,dL,et,ig,hh,rfl,lr,kg,nD,jX,ff⟩
    have jY:=kh.jI
    have qJ:∀e,cW j aJ e->ab X b4 e=ab X a7 e:=λe H=>by have:=H.2;rw[dV.ad e Zo,la e H]
    have dQ:=cG.e9 aa (by rw[Dq];omega)
    have hS:=(cG.ad qJ).row Zd ft
    obtain⟨Q8,arc⟩:AS (hD g) g=none/\True:=by
     unfold xD at xm
     split at xm
     ·cases xm
     ·rename_i a;exact⟨a,trivial⟩
    clear arc
    refine iu @l5 @j7 @iA @d @dQ @hS ⟨?_⟩
    refine fS (im (F:=6) (b:=dH) (Y:=0) (n:=6) (c:=V.ofList [.str [], .Z 0, .aU, .aU, .aU, .aU] 0 .nil) (bi Zo) Zo rfl Zd Zd jY) ?_
    generalize ku:Go.bk.bo X _ dH _=cu
    have eQ:ab X cu dH=zs [.str g.name, .Z g.at_,cY,df,hL,eR] 6:=by rw[<-ku,bi Zo];rfl
    have fR:∀e,e<dH->ab X cu e=ab X b4 e:=λe H=>by rw[<-ku];exact zu
    clear ku
    have av4:bM X cu 6 (.ptr dH 0)=some (.agg [.str g.name, .Z g.at_,cY,df,hL,eR]):=by rw[kI,eQ];rfl
    refine ce @av4 ⟨?_⟩
    refine(S4 (j:=dH+1) (h:=cu) az.todx Zo (λe H=>zo H.2) (kh.ad (U:=cu) (bv:=cW j aJ) (λe H=>by have:=H.2;rw[fR e Zo,qJ e H]) (λ_ a=>a)) (by rw[Ia];have:=(mK g u4).vars;simp only[po];omega)).Zm ?_
    rintro ae d4 fd ⟨cF,lb,TB,CB,rfl,F9,Bu,tK,p0,_,_,gy⟩
    have vb:=gy.le
    have M4:oK X d4 (cW (dH+1) fd) (.ptr cF 0) (hD g):=⟨cF,lb,rfl,F9,Bu,tK,p0⟩
    have apH:=λ{x:Int×fq}(ah:x∈hl g) (bl:x.2.on≠[])=>alH Q8 ah bl
    have art:=λ{ao:gv}(b6:ao∈g.eqs)=>awD apD u4 b6
    generalize JA:hD g=t at*
    have h4:ab X d4 dH=zs [.str g.name, .Z g.at_,cY,df,hL,eR] 6:=by rw[gy.ad _ Zo];exact eQ
    have QZ:eC [.aU, .aU, .aU] [(0,1,cY),(1,1,df),(2,1,hL)]=some (.agg [cY,df,hL]):=by
     simp[eC,pP,pQ,lD,(jt lr.len).1,(jt kg.len).1,(jt nD.len).1]
    refine rk (bR h4) ⟨?_⟩
    refine fS QZ ?_
    generalize sk:Go.bk.bo X _ (fd+1) _=dM
    have NF:al X dM (.ptr (fd+1) 0)=some (.func (.func 33) [] [.ptr fd 0]):=by rw[<-sk,cg];simp(disch:=omega) only[aG,bi]<;>rfl
    have E4:al X dM (.ptr fd 0)=some (.ptr cF 0):=by rw[<-sk,cg];simp(disch:=omega) only[aG,bi]<;>rfl
    have hA:∀e,e<fd->ab X dM e=ab X d4 e:=λe H=>by rw[<-sk];exact zu
    clear sk
    have mG:ab X dM dH=zs [.str g.name, .Z g.at_,cY,df,hL,eR] 6:=by rw[hA _ Zo];exact h4
    have y5:∀e,e<dH->ab X dM e=ab X b4 e:=λe H=>by rw[hA e Zo,gy.ad e Zo,fR e H]
    have JR:∀e,cW j aJ e->ab X dM e=ab X a7 e:=λe H=>by have:=H.2;rw[y5 e Zo,qJ e H]
    have acL:∀e,cW (aJ+1+1) bd e->ab X dM e=ab X a7 e:=λe H=>by have:=H.2;rw[y5 e Zo,dV.ad e Zo,Gu e H]
    have arU:oK X dM (cW (dH+1) fd) (.ptr cF 0) t:=M4.ad (λe H=>hA e H.2) (λ_ a=>a)
    have kt:bh X bw (bd+1) dM (fd+1+1):=⟨Zo,λe H=>by rw[y5 e Zo];exact dV.ad e H⟩
    have adm:al X dM (.ptr bd 0)=some (.ptr ao 0):=by rw[cg,y5 bd Zo,dV.ad bd Zo, <-cg];exact SS
    have avl:al X dM (.ptr aJ 0)=some (.ptr b 0):=by rw[cg,y5 aJ Zo,dV.ad aJ Zo, <-cg];exact B1
    have Me:EI X dM (fd+1+1) (cW j aJ) (cW (aJ+1+1) bd) (cW (dH+1) fd) ao r fd (.ptr cF 0) (.ptr b 0) aq t cV:=
     ⟨Zo,Zo,Zo,Zo,by rw[cg,y5 ao Zo,dV.ad ao Zo, <-cg];exact aq8,aoW.ad (by rw[y5 r Zo,dV.ad r Zo]) (λe H=>by have:=H.2;rw[y5 e Zo,dV.ad e Zo]),E4,arU,aqX.ad (bv:=cW j aJ) (λe H=>by have:=H.2;rw[y5 e Zo,dV.ad e Zo]) (λ_ a=>a),λe H=>⟨zo H.1,zo H.2⟩,λe H=>zo H.2,λe H=>zo H.2⟩
    refine j0 (λM U aV=>M.g 3=some (.ptr aJ 0)/\M.g 5=some (.ptr bd 0)/\M.g 64=some a8/\M.g 65=some (.Z (aq.length:Int))/\M.g 66=some (.Z (aa:Int))/\M.g 7=some (.ptr dH 0)/\M.g 9=some (.ptr (fd+1) 0)/\bh X dM (fd+1+1) U aV) (λSl Bg=> ?_) ?_
    ·have Br:∀F,F<3->∃s b,([cY,df,hL]:List J)[F]? =some s/\d1 X a7 (cW j aJ) b s 8 ((jK g F).map eK)/\∀aF∈jK g F,∃i,(i,aF)∈hl g:=λF aL=>by
      match F,aL with
      |0,_=>exact⟨cY,cT,rfl,lr,λaF a=>⟨1,by simp only[hl,Zy,ZJ];exact .inl ⟨aF,a,rfl⟩⟩⟩
      |1,_=>exact⟨df,dL,rfl,kg,λaF a=>⟨2,by simp only[hl,Zy,ZJ];exact .inr (.inl ⟨aF,a,rfl⟩)⟩⟩
      |2,_=>exact⟨hL,et,rfl,nD,λaF a=>⟨3,by simp only[hl,Zy,ZJ];exact .inr (.inr ⟨aF,a,rfl⟩)⟩⟩
     refine fC (λm M U aV=>∃(F:Nat),M.g 3=some (.ptr aJ 0)/\M.g 5=some (.ptr bd 0)/\M.g 64=some a8/\M.g 65=some (.Z (aq.length:Int))/\M.g 66=some (.Z (aa:Int))/\M.g 7=some (.ptr dH 0)/\M.g 9=some (.ptr (fd+1) 0)/\M.g 79=some (.agg [cY,df,hL])/\M.g 80=some (.Z (F:Int))/\F+m=3/\bh X dM (fd+1+1) U aV)
      3 ⟨0,aQ t3,aQ t5,aQ iA,aQ j7,aQ l5,bp,bp,bp,fQ,Zo,bh.refl _ _⟩ ?_
     clear t3 t5 iA j7 l5
     rintro je M hj eb ⟨F,t3,t5,iA,j7,l5,fo,t9,Es,Cf,aL,uS⟩
     have aqp:=uS.le
     cases je with
     |zero=>
      have d:decide ((F:Int)<3)=false:=by simp only[Zb];omega
      refine c1 @Cf @d ⟨?_⟩
      exact Bg _ _ _ ⟨aQ t3,aQ t5,aQ iA,aQ j7,aQ l5,aQ fo,aQ t9,uS⟩
     |succ je=>
      have d:decide ((F:Int)<3)=true:=by simp only[Zg];omega
      obtain⟨fg,dN,qC,sz,Jh⟩:=Br F Zo
      have FP:qI false 3 1 (.agg [cY,df,hL]) (.Z (F:Int))=some fg:=by
       have au:Nat.blt F 3=true:=by simp[Nat.blt];omega
       simp only[qI,qO,au,e6,jz,pn,Yh]
       exact qC
      have Je:=sz.len
      have RC:=sz.many
      rw[Zi]at Je RC
      refine fW @Cf @Es @d @FP @Je ⟨?_⟩
      refine fC (λm M U aV=>∃(i:Nat),M.g 3=some (.ptr aJ 0)/\M.g 5=some (.ptr bd 0)/\M.g 64=some a8/\M.g 65=some (.Z (aq.length:Int))/\M.g 66=some (.Z (aa:Int))/\M.g 7=some (.ptr dH 0)/\M.g 9=some (.ptr (fd+1) 0)/\M.g 79=some (.agg [cY,df,hL])/\M.g 80=some (.Z (F:Int))/\M.g 83=some fg/\M.g 84=some (.Z ((jK g F).length:Int))/\M.g 85=some (.Z (i:Int))/\i+m=(jK g F).length/\bh X dM (fd+1+1) U aV)
       (jK g F).length ⟨0,aQ t3,aQ t5,aQ iA,aQ j7,aQ l5,aQ fo,aQ t9,aQ Es,aQ Cf,bp,bp,fQ,Zo,uS⟩ ?_
      clear t3 t5 iA j7 l5 fo t9 Es Cf
      rintro sN M x9 dl ⟨i,t3,t5,iA,j7,l5,fo,t9,Es,Cf,TU,Og,Oh,aN,w3⟩
      have Rw:=w3.le
      cases sN with
      |zero=>
       have d:=zp i (jK g F).length
       have bH:=zt F
       refine fW @Oh @Og @Cf @d @bH ⟨?_⟩
       exact⟨je,Zo,F+1,aQ t3,aQ t5,aQ iA,aQ j7,aQ l5,aQ fo,aQ t9,aQ Es,bp,Zo,w3⟩
      |succ sN=>
       have d:=zq i (jK g F).length
       have bH:=zt i
       obtain⟨aF,aO⟩:=zr (jK g F) i
       obtain⟨azp,apT⟩:=Jh aF (Zn aO)
       have Sq:∀e,cW j aJ e->ab X x9 e=ab X a7 e:=λe H=>by have:=H.2;rw[w3.ad e Zo,JR e H]
       have o2:=sz.e9 i (by rw[Zi];omega)
       have Ju:=(sz.ad Sq).row Zd (i:=i) (r:=eK aF) (by rw[Zt,aO];rfl)
       refine iu @Oh @Og @TU @d @o2 @Ju ⟨?_⟩
       generalize C2:Go.bk.bo X _ dl _=wG
       have tt:ab X wG dl=zs (eK aF) 8:=by rw[<-C2,bi Zo];rfl
       have y6:∀e,e<dl->ab X wG e=ab X x9 e:=λe H=>by rw[<-C2];exact zu
       clear C2
       have ade:al X wG (.ptr dl 5)=some (.str aF.on):=by rw[bR tt];rfl
       have mu:al X wG (.ptr (fd+1) 0)=some (.func (.func 33) [] [.ptr fd 0]):=by rw[cg,y6 _ Zo,w3.ad _ Zo, <-cg];exact NF
       have QE:bh X dM (fd+1+1) wG (dl+1):=⟨Zo,λe H=>by rw[y6 e Zo];exact w3.ad e H⟩
       have aaC:=Me.ad (U:=wG) λe H=>QE.ad e H
       by_cases lw:aF.on=[]
       ·have m4:decide (aF.on≠[])=false:=by simp[lw]
        refine gl @ade @m4 @Oh @bH ⟨?_⟩
        exact⟨sN,Zo,i+1,aQ t3,aQ t5,aQ iA,aQ j7,aQ l5,aQ fo,aQ t9,aQ Es,aQ Cf,aQ TU,aQ Og,bp,Zo,QE⟩
       ·have m4:decide (aF.on≠[])=true:=by simp[lw]
        refine gl @ade @m4 @t9 @mu ⟨?_⟩
        refine(Kg (j:=dl+1) az.todx Zo Zo aaC.iN aaC.oz (λe H=>zo H.2) aF.on).Zm ?_
        rintro ae pH oo ⟨rfl,aoD⟩
        have gQ:=apH apT lw
        simp only at gQ
        generalize jg t aF.on=D5 at gQ ⊢
        obtain⟨gz,kv,nf⟩:=D5
        simp only at gQ
        subst gQ
        have qm:ny false 0 1 (.agg (dn ⟨true,kv,nf⟩))=some (.bool true):=rfl
        refine d9 @qm @Oh @bH ⟨?_⟩
        exact⟨sN,Zo,i+1,aQ t3,aQ t5,aQ iA,aQ j7,aQ l5,aQ fo,aQ t9,aQ Es,aQ Cf,aQ TU,aQ Og,bp,Zo,QE.trans (aoD.j3 Zo)⟩
    ·clear t3 t5 iA j7 l5
     rintro M hj eb ⟨t3,t5,iA,j7,l5,fo,t9,uS⟩
     have aqp:=uS.le
     have ha:ab X hj dH=zs [.str g.name, .Z g.at_,cY,df,hL,eR] 6:=by rw[uS.ad _ Zo];exact mG
     have ack:=ff.wide
     have abE:=jX.len
     have aqA:=jX.many
     rw[ack.1]at abE aqA
     refine d9 @fo (bR ha) @abE ⟨?_⟩
     refine fC (λm M U aV=>∃(F:Nat),M.g 3=some (.ptr aJ 0)/\M.g 5=some (.ptr bd 0)/\M.g 64=some a8/\M.g 65=some (.Z (aq.length:Int))/\M.g 66=some (.Z (aa:Int))/\M.g 9=some (.ptr (fd+1) 0)/\M.g 103=some eR/\M.g 104=some (.Z (g.eqs.length:Int))/\M.g 105=some (.Z (F:Int))/\F+m=g.eqs.length/\bh X dM (fd+1+1) U aV)
      g.eqs.length ⟨0,aQ t3,aQ t5,aQ iA,aQ j7,aQ l5,aQ t9,bp,bp,fQ,Zo,uS⟩ ?_
     clear t3 t5 iA j7 l5 fo t9
     rintro je M x9 dl ⟨F,t3,t5,iA,j7,l5,t9,Hh,En,Eo,aL,w3⟩
     have Rw:=w3.le
     cases je with
     |zero=>
      have d:=zp F g.eqs.length
      refine fW @Eo @En @d @l5 @bH ⟨?_⟩
      exact⟨m,Zo,aa+1,aQ t3,aQ t5,aQ iA,aQ j7,bp,Zo,kt.trans w3⟩
     |succ je=>
      have d:=zq F g.eqs.length
      have cP:=zt F
      obtain⟨mU,RV⟩:∃eq,g.eqs[F]? =some eq:=⟨_,Ze Zo⟩
      have yS:=Zn RV
      obtain⟨awK,Js,vi⟩:=ff.get F mU RV
      obtain⟨afm,ar5,I1,ace⟩:=arY.get F mU awK RV Js
      have Sq:∀e,cW j aJ e->ab X x9 e=ab X a7 e:=λe H=>by have:=H.2;rw[w3.ad e Zo,JR e H]
      have o2:=jX.e9 F (by rw[ack.1];omega)
      have Ju:=(jX.ad Sq).row Zd Js
      obtain⟨l3,nM,dy,dZ,l4,rfl,hz,lV,mM,o5⟩:=vi
      cases ar5
      have ar7:=((M8 g u4).eqs mU yS).right
      obtain⟨eE,ao6⟩:=art yS
      have arn:=amw I1
      obtain⟨eo,w,aBs,rfl,Rg,o1,iJ,vl⟩:=ae9 ace
      rw[arn]at o1
      cases o1
      have azM:=Rg.2
      refine iu @Eo @En @Hh @d @o2 @Ju ⟨?_⟩
      refine fS (im (F:=4) (b:=dl) (Y:=0) (n:=4) (c:=V.ofList [.aU, .aU, .Z 0, .cy] 0 .nil) (bi Zo) Zo rfl Zd Zd o5) ?_
      generalize C2:Go.bk.bo X _ dl _=wG
      have tt:ab X wG dl=zs [l3,nM, .Z mU.at_, .ptr eo 0] 4:=by rw[<-C2,bi Zo];rfl
      have y6:∀e,e<dl->ab X wG e=ab X x9 e:=λe H=>by rw[<-C2];exact zu
      clear C2
      refine gl (bR tt) @t5 @t3 @t9 ⟨?_⟩
      generalize QS:Go.bk.bo X _ (dl+1) _=pH
      have mh:s9 X pH (dl+1) true:=⟨_,by rw[<-QS,bi Zo];rfl,rfl⟩
      have fb:∀e,e<dl+1->ab X pH e=ab X wG e:=λe H=>by rw[<-QS];exact zu
      clear QS
      have as3:∀e,e<dl->ab X pH e=ab X x9 e:=λe H=>by rw[fb e Zo,y6 e H]
      have DG:∀e,e<fd+1+1->ab X pH e=ab X dM e:=λe H=>by rw[as3 e Zo,w3.ad e H]
      have acJ:∀e,cW j aJ e->ab X pH e=ab X a7 e:=λe H=>by have:=H.2;rw[DG e Zo,JR e H]
      have as0:∀e,cW (aJ+1+1) bd e->ab X pH e=ab X a7 e:=λe H=>by have:=H.2;rw[DG e Zo,acL e H]
      have anP:ab X pH dl=zs [l3,nM, .Z mU.at_, .ptr eo 0] 4:=by rw[fb dl Zo];exact tt
      have arT:jy X pH aq t cV (cW j aJ) (cW (aJ+1+1) bd) mU.right (.ptr eo 0):=jy.ad acJ as0 (λ_ _=>rfl) (λ_ a=>a) (λ_ a=>a) _ _ ace
      have apO:cR X pH (cW j aJ) mU.right (.ptr eo 0):=cR.ad acJ _ _ mM
      have aoP:=Me.ad (U:=pH) DG
      refine(afq az.todx (λ(_:Unit) (_:bG)=>((),true)) (cW j aJ) (λ_ h n=>dl+1+1<=n/\s9 X h (dl+1) true/\∀e,e<dl+1+1->e≠dl+1->ab X h e=ab X pH e) pH
       (λI v=>e4 kr I/\jy X pH aq t cV (cW j aJ) (cW (aJ+1+1) bd) I v/\∀x∈sU I,x.kind=25->(m7 aq x.name).isSome=true)
       (λI b a8 cD bj iV fi cG has i K w aN bD=>by
        obtain⟨T,W,au⟩:=iV
        rw[e4.eq]at T
        obtain⟨_,_,_,_,_,yX⟩:=ae8 W fi cG
        exact⟨T8 T.2 (Zn aN),yX.get i K w aN bD,λx ah=>au x (avN (Zn aN) ah)⟩)
       35 [] [.ptr (dl+1) 0, .ptr bd 0, .ptr aJ 0, .ptr (fd+1) 0]
       (λs I v h n bL iV bA aL=>by
        obtain⟨jG,pc,BF⟩:=bL
        obtain⟨T,W,au⟩:=iV
        rw[e4.eq]at T
        have Gw:∀e,e<dl->ab X h e=ab X pH e:=λe H=>BF e Zo Zo
        refine(aqN az.todx bs (aoP.ad (U:=h) λe H=>Gw e Zo) Zo pc Zo Zo (by rw[cg,Gw _ Zo,DG _ Zo, <-cg];exact adm) (by rw[cg,Gw _ Zo,DG _ Zo, <-cg];exact avl) (by rw[cg,Gw _ Zo,DG _ Zo, <-cg];exact NF) bA T.1 (jy.ad (λe H=>by have:=H.2;exact Gw e Zo) (λe H=>by have:=H.2;exact Gw e Zo) (λ_ _=>rfl) (λ_ a=>a) (λ_ a=>a) _ _ W) (λa=>au I (avP I) a)).Zm ?_
        rintro ae U aV ⟨rfl,cL,cC,d6⟩
        exact⟨rfl,⟨Zo,cC,λe H dT=>by rw[d6 e Zo dT];exact BF e H dT⟩,λe H=>by have:=H.2;exact d6 e Zo Zo⟩)
       (SizeOf.sizeOf mU.right+1) mU.right (Yq _) () (.ptr eo 0) pH (dl+1+1) ⟨Zl _,mh,λ_ _ _=>rfl⟩ ⟨ar7,arT,λx ah a=>by obtain⟨i,aN,_⟩:=(ao6 x ah).2 a;rw[aN];rfl⟩ apO (λ_ _=>rfl)).Zm ?_
      rintro ae K4 ne ⟨rfl,⟨gE,ih,acO⟩,_⟩
      have JT:∀e,e<fd+1+1->ab X K4 e=ab X dM e:=λe H=>by rw[acO e Zo Zo,DG e H]
      have at3:al X K4 (.ptr bd 0)=some (.ptr ao 0):=zz (JT _ Zo) adm
      have ν:ab X K4 dl=zs [l3,nM, .Z mU.at_, .ptr eo 0] 4:=by rw[acO dl Zo Zo];exact anP
      have aaD:=Me.ad (U:=K4) JT
      obtain⟨_,_,_,_,Sa,_,sx,_⟩:=NN mM
      cases Sa
      refine d9 @t5 @at3 (bR ν) ⟨?_⟩
      refine(N0 (j:=ne) (P:=cW j aJ) (dq:=cW (aJ+1+1) bd) (l:=mU.left.map (jg t)) az.todx Zo aaD.ue aaD.mp (sx.ad (by rw[JT eo Zo,JR eo Rg])) (zo Rg.1) iJ (vl.ad (λe H=>by have:=H.2;rw[JT e Zo,acL e H]) (λ_ a=>a)) (λe H=>zo H.2)).Zm ?_
      rintro ae O1 SZ ⟨⟨yZ,be⟩,L9⟩
      have az8:=L9.le
      have JD:=be.rd.len
      rw[Zi]at JD
      have anT:=(ih.ad (L9.ad (dl+1) Zo)).ry
      have anU:ab X O1 dl=zs [l3,nM, .Z mU.at_, .ptr eo 0] 4:=by rw[L9.ad dl Zo];exact ν
      have abY:=hz.len
      have arh:=hz.many
      simp only[ib,Zi]at abY arh
      have sa:decide ((mU.left.length:Int)≠(mU.left.length:Int))=false:=by simp
      refine fW @anT @JD (bR anU) @abY @sa ⟨?_⟩
      have aoC:bh X dM (fd+1+1) O1 SZ:=⟨Zo,λe H=>by rw[L9.ad e Zo];exact JT e H⟩
      refine fC (λm M U aV=>∃(i:Nat),M.g 3=some (.ptr aJ 0)/\M.g 5=some (.ptr bd 0)/\M.g 64=some a8/\M.g 65=some (.Z (aq.length:Int))/\M.g 66=some (.Z (aa:Int))/\M.g 9=some (.ptr (fd+1) 0)/\M.g 103=some eR/\M.g 104=some (.Z (g.eqs.length:Int))/\M.g 105=some (.Z (F:Int))/\M.g 17=some ae/\M.g 128=some l3/\M.g 129=some (.Z (mU.left.length:Int))/\M.g 130=some (.Z (i:Int))/\i+m=mU.left.length/\bh X O1 SZ U aV)
       mU.left.length ⟨0,aQ t3,aQ t5,aQ iA,aQ j7,aQ l5,aQ t9,aQ Hh,aQ En,aQ Eo,bp,bp,bp,fQ,Zo,bh.refl _ _⟩ ?_
      clear t3 t5 iA j7 l5 t9 Hh En Eo
      rintro sN M HF nL ⟨i,t3,t5,iA,j7,l5,t9,Hh,En,Eo,wa,aeY,TQ,TR,aN,Ma⟩
      have az9:=Ma.le
      have L8:=aoC.trans Ma
      cases sN with
      |zero=>
       have d:=zp i mU.left.length
       refine fW @TR @TQ @d @Eo @cP ⟨?_⟩
       exact⟨je,Zo,F+1,aQ t3,aQ t5,aQ iA,aQ j7,aQ l5,aQ t9,aQ Hh,aQ En,bp,Zo,L8⟩
      |succ sN=>
       have d:=zq i mU.left.length
       have fH:=zt i
       obtain⟨nm,h8⟩:=zr mU.left i
       have asX:∀e,cW j aJ e->ab X HF e=ab X a7 e:=λe H=>by have:=H.2;rw[L8.ad e Zo,JR e H]
       have aq9:d1 X HF (cW j aJ) dy l3 1 ((mU.left.map J.str).map λv=>[v]):=by
        have a:=hz.ad asX
        simp only[ib]at a
        rw[YA];exact a
       obtain⟨gS,hs,_⟩:=aq9.one (i:=i) (v:= .str nm) (by rw[Zt,h8];rfl)
       obtain⟨ak4,ou,Hm,Hn,Ua,_⟩:=(be.rd.ad (bv:=cW ne SZ) (U:=HF) (λe H=>Ma.ad e H.2) (λ_ a=>a)).e9 i (jg t nm) (by rw[Zt,h8];rfl)
       have auU:al X HF (.ptr (fd+1) 0)=some (.func (.func 33) [] [.ptr fd 0]):=zz (L8.ad _ Zo) NF
       have aaE:=Me.ad (U:=HF) λe H=>L8.ad e H
       refine eu @TR @TQ @aeY @d @gS @hs (Za @wa (Za @Hm (Za @Ua (Za @t9 @auU)))) ⟨?_⟩
       refine(Kg (j:=nL+8) az.todx Zo Zo aaE.iN aaE.oz (λe H=>zo H.2) nm).Zm ?_
       rintro rM ajP aBe ⟨rfl,QF⟩
       have aAa:=QF.le
       have ay0:bM X ajP 3 (.ptr ak4 ou)=some (.agg (dn (jg t nm))):=by rw[kI,QF.ad _ (zo Hn.2), <-kI];exact Ua
       have rh:(!decide (jg t nm=jg t nm))=false:=by simp
       refine d9 @GP @rh @ay0 ⟨?_⟩
       refine gs (p9 _) ?_
       refine c1 @TR @fH ⟨?_⟩
       exact⟨sN,Zo,i+1,aQ t3,aQ t5,aQ iA,aQ j7,aQ l5,aQ t9,aQ Hh,aQ En,aQ Eo,aQ wa,aQ aeY,aQ TQ,bp,Zo,Ma.trans (QF.j3 Zo)⟩
  ·rw[Zh aB]at ml
   subst ml
   have acp:=k3 aB
   have cw:decide (cc≠0)=true:=by simp[aB]
   have C3:decide (0<=tk)=true:=Yu acp.1
   have mH:decide (tk<=(s.length:Int))=true:=Yu acp.2
   refine ce @iU ⟨?_⟩
   generalize eB:Go.bk.bo X _ (aJ+1) _=bw
   have Su:al X bw (.ptr (aJ+1) 0)=some (.Z cc):=by rw[<-eB,bR (bi Zo)];exact Ot _ _ _
   have atl:al X bw (.ptr (aJ+1) 1)=some (.Z tk):=by rw[<-eB,bR (bi Zo)];exact T3 _ _ _
   have SS:al X bw (.ptr bd 0)=some .cy:=by rw[<-eB,cg];simp(disch:=omega) only[aG,bi]<;>rfl
   have d5:∀e,e<aJ->ab X bw e=ab X a7 e:=λe T=>by rw[<-eB];exact zu
   clear eB
   refine eu @Su @cw @SS @auB @atl @C3 (Za @mH @pX) ⟨?_⟩
   refine E5 yX ?_
   refine cS ⟨?_⟩
   exact⟨rfl,Zo,λe H=>by rw[d5 e Zo,Fy.ad e Zo];exact bT.ad e H⟩
end
end
end Go.Proofs.YtpfajohmofnkfaaGreatDoor

namespace Go.bk
noncomputable section
open Go.RowKit (Below)
def Um(l:List J):Prop:=∀v∈l,(∀S iC,aS S v=aS iC v)/\∀af,cn af v
def EA(w:World)(v:Value)(br:Nat)(l:List J):Prop:=
 (v= .slice none 0 0/\l=[])\/∃cI off len cap cq ty fr,v= .slice (some ⟨cI,off,none⟩) len cap/\len<=cap/\l.length=len*br/\Um l/\
  (0<l.length->w.heap[cI]? =some (.cells cq ty fr)/\off+l.length<=cq.size/\∀i x,l[i]? =some x->cq[off+i]? =some (aS (λ_=>default) x))
def afT(C:a2)(K:J)(b br:Nat)(l:List J):Prop:=
 (K= .aU/\l=[])\/∃len cap,K= .slice b 0 len cap/\len<=cap/\l.length=len*br/\(0<l.length->ab C .nil b=some (.cells (V.ofList l 0 .nil) l.length .j6))
def xE(l:List J)(G:V an)(b:Nat):V an:=if 0<l.length then G.set b (some (.cells (V.ofList l 0 .nil) l.length .j6))else G
def EA.pl{w:World}{v:Value}{br:Nat}{l:List J}(a:EA w v br l)(b:Nat):∃(K:J) (pl:mB),(∀S:da,S b=pl->aS S K=v)/\(∀af:Nat->Prop,af b->cn af K)/\
 ((K= .aU/\l=[])\/∃len cap,K= .slice b 0 len cap/\len<=cap/\l.length=len*br)/\(0<l.length->∀C S af,j9 C S af (.cells (V.ofList l 0 .nil) l.length .j6) pl w):=by
 rcases a with ⟨rfl,rfl⟩|⟨cI,off,len,cap,cq,ty,fr,rfl,T,W,au,aP⟩
 ·exact⟨.aU,default,λ_ _=>rfl,λ_ _=>trivial, .inl ⟨rfl,rfl⟩,λa=>by simp at a⟩
 ·refine⟨.slice b 0 len cap,⟨cI,off,l.length⟩,λS dS=>by simp[aS,dS],λaf d=>d, .inr ⟨len,cap,rfl,T,W⟩,λa C S af=> ?_⟩
  obtain⟨bY,cx,c7⟩:=aP a
  obtain⟨bU,aN⟩:=fr
  refine⟨cq,ty,bU,aN,bY,⟨trivial,Zl _,cx⟩,cx,λi x ah=> ?_⟩
  rw[kM]at ah
  have bs:=au x (Zn ah)
  exact⟨by rw[bs.1 S (λ_=>default)];exact c7 i x ah,bs.2 af⟩
section
variable{P:Program}{w:World}
def atu{nm:List (String×Nat)}(h8:AC P nm){laid:List (String×DataW Unit)}{hf:Nat->List J->Option J}(a:laidMet P laid w){ba:Nat}{os:List (Nat×an)}(aD:g3 P nm laid P.globals.size=(ba,os)){v0:Value}{ps:Nat}{fY:List J}(ch:EA w v0 ps fY):
 ∃S af a0,dt ⟨P,xE fY (nl os .nil) ba,ba+1,hf,P.globals.size⟩ S af .nil (ba+1) w.heap.size w/\rV ⟨P,xE fY (nl os .nil) ba,ba+1,hf,P.globals.size⟩ S af/\eA af [a0]/\b2 S [a0]=[v0]/\
  afT ⟨P,xE fY (nl os .nil) ba,ba+1,hf,P.globals.size⟩ a0 ba ps fY:=by
 obtain⟨a0,G0,ee,kb,t0,iN⟩:=ch.pl ba
 obtain⟨du,gn,_,lx⟩:=a
 have cw:rU w du:=λb off ai=>(lx b off ai).1
 obtain⟨bf,ck,f,a3⟩:=ac4 (C:=⟨P,xE fY (nl os .nil) ba,ba+1,hf,P.globals.size⟩) h8 laid P.globals.size du rfl gn cw (λb off ai=>(lx b off ai).2)
 rw[aD]at bf ck a3
 simp only at bf ck a3
 have e3:∀b Y,ab ⟨P,xE fY (nl os .nil) ba,ba+1,hf,P.globals.size⟩ .nil b=some Y->((b,Y)∈os/\b<ba)\/(b=ba/\0<fY.length/\Y= .cells (V.ofList fY 0 .nil) fY.length .j6):=by
  intro b Y bl
  unfold ab at bl
  rw[fG]at bl
  split at bl
  ·rename_i ai
   have ai:=lo ai
   unfold xE at bl
   split at bl
   ·rename_i aA
    rw[V.kc]at bl
    split at bl
    ·rename_i I;cases bl;exact .inr ⟨I.symm▸rfl,aA,rfl⟩
    ·rcases Ty b Y os .nil bl with ao|ao
     ·exact .inl ⟨ao,by have cC:b<P.globals.size\/b<ba:=(ck (b,Y) ao).2.1;have:P.globals.size<=ba:=bf;omega⟩
     ·simp at ao
   ·rcases Ty b Y os .nil bl with ao|ao
    ·exact .inl ⟨ao,by have cC:b<P.globals.size\/b<ba:=(ck (b,Y) ao).2.1;have:P.globals.size<=ba:=bf;omega⟩
    ·simp at ao
  ·simp at bl
 refine⟨λb=>if b<P.globals.size then⟨b,0,0⟩else if b=ba then G0 else f b,λb=>b<ba+1,a0,⟨Zl _,λ_ a=>a,λb Y bl=> ?_, ?_, ?_, ?_, ?_⟩, ?_, ?_, ?_, ?_⟩
 ·rcases e3 b Y bl with a|a
  ·omega
  ·omega
 ·intro b Y bl _
  rcases e3 b Y bl with a|⟨rfl,aA,rfl⟩
  ·exact a3 (λb=>if b<P.globals.size then⟨b,0,0⟩else if b=ba then G0 else f b) (λb=>b<ba+1) (λb T W=>⟨by rw[Zh Zo,Zh Zo],Zo⟩) (λg b0=>⟨by rw[Zr b0],by have:P.globals.size<=ba:=bf;omega⟩) (b,Y) a.1
  ·show j9 _ _ _ _ (if b<P.globals.size then(⟨b,0,0⟩:mB)else if b=b then G0 else f b) w
   rw[Zh (by have:P.globals.size<=b:=bf;omega),Zr rfl]
   exact iN aA _ _ _
 ·intro b dN Y o' _ _ d _ _ ai
  exact absurd d (zl.2 ai)
 ·intro b Y ai _ d
  exact absurd d (zl.2 ai)
 ·intro b Y bl _
  rcases e3 b Y bl with a|⟨rfl,aA,rfl⟩
  ·exact(ck (b,Y) a.1).2.2 _ _
  ·refine⟨λc n l aD=>(by cases aD),λc n st aB i v bD=> ?_⟩
   cases aB
   rw[kM]at bD
   exact(Zc.1 bD).1
 ·intro g b0
  have b0:g<P.globals.size:=b0
  exact⟨Zo,by simp[b0],by simp[b0]⟩
 ·exact⟨kb _ Zo,trivial⟩
 ·simp only[b2]
  rw[ee _ (by rw[Zh Zo,Zr rfl])]
 ·rcases t0 with a|⟨len,cap,cL,cC,d6⟩
  ·exact .inl a
  ·refine .inr ⟨len,cap,cL,cC,d6,λa=> ?_⟩
   unfold ab xE
   have:Nat.blt ba (ba+1)=true:=by simp[Nat.blt]
   rw[this,e6,Zr a,V.kc,Zr rfl]
end
end
end Go.bk

namespace Go.Proofs.YtpfajohmofnkfaaGreatDoor
open Go.bk Go.aZ
noncomputable section
def nm:List (String×Nat):=[((Tryz.prog.typeName? 3 304).getD "",304)]
def av:Nat×List (Nat×an):=g3 Tryz.prog nm Rows.typesHoldRow.laid Tryz.prog.globals.size
def GG:av.1=22:=Zk
def fy:V an:=nl av.2 .nil
def aod:fy.get 1=zs [.str [45,62], .str [60,60], .str [62,62], .str [60,61], .str [62,61], .str [60,62], .str [40], .str [41], .str [44], .str [59], .str [58], .str [61], .str [60], .str [62], .str [43], .str [45], .str [42]] 17:=Zk
def Fv:fy.get 2=zs [.slice 14 0 18 18] 1:=Zk
def uP:fy.get 3=zs [.map 16] 1:=Zk
def CU:fy.get 4=zs [.bool true, .bool false, .int .i64 1] 3:=Zk
def L4:fy.get 5=zs [.map 15] 1:=Zk
def Ir:fy.get 6=zs [.iface 304 (.ptr 13 0)] 1:=Zk
def w2:fy.get 7=zs [.iface 304 (.ptr 12 0)] 1:=Zk
def yz:fy.get 9=zs [.slice 17 0 2 2, .slice 18 0 1 1, .slice 19 0 6 6, .slice 20 0 2 2, .slice 21 0 1 1] 5:=Zk
def aoe:fy.get 14=zs [.str [110,111,100,101], .str [114,101,116,117,114,110,115], .str [118,97,114], .str [108,101,116], .str [116,101,108], .str [119,104,101,110], .str [110,111,116], .str [111,114], .str [120,111,114], .str [97,110,100], .str [112,114,101], .str [102,98,121], .str [105,102], .str [116,104,101,110], .str [101,108,115,101], .str [109,101,114,103,101], .str [116,114,117,101], .str [102,97,108,115,101]] 18:=Zk
def aog:fy.get 16=some (.look [(.str [97,110,100], .bool true),(.str [101,108,115,101], .bool true),(.str [102,97,108,115,101], .bool true),(.str [102,98,121], .bool true),(.str [105,102], .bool true),(.str [108,101,116], .bool true),(.str [109,101,114,103,101], .bool true),(.str [110,111,100,101], .bool true),(.str [110,111,116], .bool true),(.str [111,114], .bool true),(.str [112,114,101], .bool true),(.str [114,101,116,117,114,110,115], .bool true),(.str [116,101,108], .bool true),(.str [116,104,101,110], .bool true),(.str [116,114,117,101], .bool true),(.str [118,97,114], .bool true),(.str [119,104,101,110], .bool true),(.str [120,111,114], .bool true)]):=Zk
structure q9(X:co):Prop where
 ba:X.ba=23
 get:∀b,b<22->X.G.get b=fy.get b
section
variable{X:co}{h:V an}
def q9.ab(a:q9 X){b:Nat}(ai:b<22):ab X h b=fy.get b:=by
 have I:Nat.blt b (q X).ba=true:=by
  show Nat.blt b X.ba=true
  rw[a.ba];simp[Nat.blt];omega
 unfold Go.bk.ab
 rw[I,e6]
 exact a.get b ai
def q9.ry(a:q9 X){b n:Nat}(ai:b<22){c:V J}{st:nW}(b0:fy.get b=some (.cells c n st))(Y:Nat):al X h (.ptr b Y)=c.get Y:=bR (by rw[a.ab ai];exact b0) Y
def anv(a:q9 X):ED X:=λh=>by
 rw[kI,a.ab Zd,CU]
 rfl
def anw(a:q9 X):ma X:=⟨⟨13,λh=>by rw[a.ry Zd Ir];rfl⟩,⟨12,λh=>by rw[a.ry Zd w2];rfl⟩⟩
def anC(a:q9 X):OM X:=⟨λh=>by
 rw[kI,a.ab Zd,aod]
 rfl⟩
def atY(w:bq):∀L:List (bq×J),(L.map Prod.fst).Nodup->pk X h 9 (.str w) (L.map λI=>(J.str I.1,I.2))=some ((L.find? λI=>decide (I.1=w)).map Prod.snd):=by
 intro L
 induction L with
 |nil=>intro _;rfl
 |cons I L am=>
  intro aM
  rw[ZR,List.nodup_cons]at aM
  simp only[ZR,pk,am aM.2,XL,DS,zg]
  by_cases a:I.1=w
  ·have cz:w=I.1:=a.symm
   have lv:L.find? (λI=>decide (I.1=w))=none:=by
    rw[zh]
    intro x ah b6
    have:x.1=w:=by simpa using b6
    exact aM.1 (by rw[a, <-this];exact List.mem_map_of_mem ah)
   simp[a,lv]
  ·have cz:¬w=I.1:=λao=>a ao.symm
   simp[a,cz]
noncomputable def sW:List bq:=[[97,110,100],[101,108,115,101],[102,97,108,115,101],[102,98,121],[105,102],[108,101,116],[109,101,114,103,101],[110,111,100,101],[110,111,116],[111,114],[112,114,101],[114,101,116,117,114,110,115],[116,101,108],[116,104,101,110],[116,114,117,101],[118,97,114],[119,104,101,110],[120,111,114]]
def aex(s:bq):s∈sW↔s∈vV:=by
 constructor
 ·intro a
  have:∀w∈sW,w∈vV:=by decide
  exact this s a
 ·intro a
  have:∀w∈vV,w∈sW:=by decide
  exact this s a
def awj:((sW.map λs=>(s,J.bool true)).map λI:bq×J=>(J.str I.1,I.2))=[(.str [97,110,100], .bool true),(.str [101,108,115,101], .bool true),(.str [102,97,108,115,101], .bool true),(.str [102,98,121], .bool true),(.str [105,102], .bool true),(.str [108,101,116], .bool true),(.str [109,101,114,103,101], .bool true),(.str [110,111,100,101], .bool true),(.str [110,111,116], .bool true),(.str [111,114], .bool true),(.str [112,114,101], .bool true),(.str [114,101,116,117,114,110,115], .bool true),(.str [116,101,108], .bool true),(.str [116,104,101,110], .bool true),(.str [116,114,117,101], .bool true),(.str [118,97,114], .bool true),(.str [119,104,101,110], .bool true),(.str [120,111,114], .bool true)]:=rfl
def anA(a:q9 X):KZ X:=⟨.map 16,λh=>⟨by rw[a.ry Zd uP];rfl,λs=>by
 have bH:ab X h 16=_:=(a.ab Zd).trans aog
 rw[<-awj]at bH
 have MQ:((sW.map λs=>(s,J.bool true)).map Prod.fst).Nodup:=by decide
 simp only[kJ,bH,NJ,e6,atY s _ MQ]
 have b9:((sW.map λs=>(s,J.bool true)).find? λI=>decide (I.1=s)).map Prod.snd=if s∈sW then some (J.bool true)else none:=by
  by_cases aI:s∈sW
  ·rw[Zr aI]
   generalize sW=L at aI
   induction L with
   |nil=>cases aI
   |cons K L am=>
    rw[ZR,zg]
    by_cases aE:K=s
    ·simp[aE]
    ·simp only[aE,Z9]
     exact am ((Zq.1 aI).resolve_left (λI=>aE I.symm))
  ·rw[Zh aI]
   have:(sW.map λs=>(s,J.bool true)).find? (λI=>decide (I.1=s))=none:=by
    rw[zh]
    intro x ah b6
    obtain⟨e,H,rfl⟩:=ZJ.1 ah
    have:e=s:=by simpa using b6
    exact aI (this▸H)
   rw[this];rfl
 rw[b9]
 have:decide (s∈vV)=decide (s∈sW):=by
  by_cases aI:s∈sW
  ·simp[aI,(aex s).1 aI]
  ·have:¬s∈vV:=λao=>aI ((aex s).2 ao)
   simp[aI,this]
 rw[this]
 by_cases aI:s∈sW
 ·simp[aI,GF]
 ·simp[aI,GF]⟩⟩
def G3{P:Nat->Prop}{b F br n:Nat}{bF:List (List J)}{st:nW}(a:q9 X)(ai:b<22)(b0:fy.get b=some (.cells (V.ofList bF.flatten 0 .nil) n st))(aM:n=F*br)(aL:bF.length=F)(Z:∀r∈bF,r.length=br)(bs:F<=300000)(bB:P b):d1 X h P b (.slice b 0 F F) br bF:=
 Eb (st:=st) (by rw[a.ab ai,b0,aM]) aL Z bs bB
def anz(a:q9 X):rW X:=⟨by rw[a.ba];decide,λh=>⟨14, .slice 14 0 18 18,by rw[a.ry Zd Fv];rfl,G3 a Zd aoe rfl rfl Zd Zd (by rw[a.ba];decide)⟩⟩
def aoi:fy.get 17=zs ((ax 0).map λY=>[J.str Y.1, .int .i64 Y.2]).flatten 4:=Zk
def aoj:fy.get 18=zs ((ax 1).map λY=>[J.str Y.1, .int .i64 Y.2]).flatten 2:=Zk
def aok:fy.get 19=zs ((ax 2).map λY=>[J.str Y.1, .int .i64 Y.2]).flatten 12:=Zk
def aol:fy.get 20=zs ((ax 3).map λY=>[J.str Y.1, .int .i64 Y.2]).flatten 4:=Zk
def aom:fy.get 21=zs ((ax 4).map λY=>[J.str Y.1, .int .i64 Y.2]).flatten 2:=Zk
def KL(F:Nat):∀r∈(ax F).map λY=>[J.str Y.1, .int .i64 Y.2],r.length=2:=by
 intro r Z
 obtain⟨Y,_,rfl⟩:=ZJ.1 Z
 rfl
set_option maxRecDepth 20000 in
def anx(a:q9 X):wC X:=⟨by rw[a.ba];decide,λh F aL=>by
 have bB:∀b,b<22->b<X.ba:=λb ai=>by rw[a.ba];omega
 match F,aL with
 |0,_=>exact⟨17, .slice 17 0 2 2,by rw[a.ry Zd yz];rfl,G3 (P:=λe=>e<X.ba) (b:=17) (bF:=(ax 0).map λY=>[J.str Y.1, .int .i64 Y.2]) a Zd aoi rfl rfl (KL 0) Zd (bB 17 Zd)⟩
 |1,_=>exact⟨18, .slice 18 0 1 1,by rw[a.ry Zd yz];rfl,G3 (P:=λe=>e<X.ba) (b:=18) (bF:=(ax 1).map λY=>[J.str Y.1, .int .i64 Y.2]) a Zd aoj rfl rfl (KL 1) Zd (bB 18 Zd)⟩
 |2,_=>exact⟨19, .slice 19 0 6 6,by rw[a.ry Zd yz];rfl,G3 (P:=λe=>e<X.ba) (b:=19) (bF:=(ax 2).map λY=>[J.str Y.1, .int .i64 Y.2]) a Zd aok rfl rfl (KL 2) Zd (bB 19 Zd)⟩
 |3,_=>exact⟨20, .slice 20 0 2 2,by rw[a.ry Zd yz];rfl,G3 (P:=λe=>e<X.ba) (b:=20) (bF:=(ax 3).map λY=>[J.str Y.1, .int .i64 Y.2]) a Zd aol rfl rfl (KL 3) Zd (bB 20 Zd)⟩
 |4,_=>exact⟨21, .slice 21 0 1 1,by rw[a.ry Zd yz];rfl,G3 (P:=λe=>e<X.ba) (b:=21) (bF:=(ax 4).map λY=>[J.str Y.1, .int .i64 Y.2]) a Zd aom rfl rfl (KL 4) Zd (bB 21 Zd)⟩⟩
def ams(K b:Int):ks X h 20 3 (.int .i64 K) (.int .i64 b)=some (xw K b):=Zk
def auY(K:Int):m1 X 20 3 (.int .i64 K)=true:=Zk
def atX(w:Int):∀L:List (Int×J),(L.map Prod.fst).Nodup->pk X h 3 (.int .i64 w) (L.map λI=>(J.int .i64 I.1,I.2))=some ((L.find? λI=>decide (I.1=w)).map Prod.snd):=by
 intro L
 induction L with
 |nil=>intro _;rfl
 |cons I L am=>
  intro aM
  rw[ZR,List.nodup_cons]at aM
  simp only[ZR,pk,am aM.2,ams,Gh,zg]
  by_cases a:I.1=w
  ·have lv:L.find? (λI=>decide (I.1=w))=none:=by
    rw[zh]
    intro x ah b6
    have:x.1=w:=by simpa using b6
    exact aM.1 (by rw[a, <-this];exact List.mem_map_of_mem ah)
   simp[a,lv]
  ·have cz:¬w=I.1:=λao=>a ao.symm
   simp[a,cz]
noncomputable def He:List (Int×(Int×Bool×Bool×Bool)):=[1,2,3,4,5,6,19,20,23,24,25,26].map λF:Int=>(F,(ui F).getD (0,false,false,false))
def aof:fy.get 15=some (.look ((He.map λI=>(I.1,J.agg (qa I.2))).map λI=>(J.int .i64 I.1,I.2))):=Zk
def axd(F:Int):(He.find? λI=>decide (I.1=F)).map Prod.snd=ui F:=by
 by_cases aL:F=1\/F=2\/F=3\/F=4\/F=5\/F=6\/F=19\/F=20\/F=23\/F=24\/F=25\/F=26
 ·rcases aL with rfl|rfl|rfl|rfl|rfl|rfl|rfl|rfl|rfl|rfl|rfl|rfl<;>decide
 ·have T:ui F=none:=by
   unfold ui
   rw[Zh Zo,Zh Zo,Zh Zo,Zh Zo,Zh Zo,Zh Zo,Zh Zo,Zh Zo,Zh Zo]
  rw[T]
  have:He.find? (λI=>decide (I.1=F))=none:=by
   rw[zh]
   intro x ah b6
   have M9:x.1=F:=by simpa using b6
   obtain⟨e,H,rfl⟩:=ZJ.1 ah
   simp only at M9
   subst M9
   simp only[Zq,ZG,Yr]at H
   exact aL H
  rw[this];rfl
def anB(a:q9 X):x3 X:=⟨λh=>⟨.map 15,by rw[a.ry Zd L4];rfl,λF=>by
 have bH:ab X h 15=_:=(a.ab Zd).trans aof
 have MQ:((He.map λI=>(I.1,J.agg (qa I.2))).map Prod.fst).Nodup:=by decide
 simp only[kJ,bH,auY,e6,atX F _ MQ]
 have b9:((He.map λI=>(I.1,J.agg (qa I.2))).find? λI=>decide (I.1=F)).map Prod.snd=(ui F).map λs=>J.agg (qa s):=by
  rw[<-axd F,List.find?_map]
  have:((λI:Int×J=>decide (I.1=F))∘λI:Int×(Int×Bool×Bool×Bool)=>(I.1,J.agg (qa I.2)))=λI=>decide (I.1=F):=rfl
  rw[this]
  cases He.find? (λI=>decide (I.1=F))<;>rfl
 rw[b9]
 cases ui F with
 |none=>rfl
 |some s=>rfl⟩⟩
def anD(a:q9 X):Hu X:=⟨anw a,anA a,anC a⟩
end
end
end Go.Proofs.YtpfajohmofnkfaaGreatDoor

