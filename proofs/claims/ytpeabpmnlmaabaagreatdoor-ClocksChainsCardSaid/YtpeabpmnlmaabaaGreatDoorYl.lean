/- Part of the proof of the last text; no conditions -/
import Derived.Test.YtpeabpmnlmaabaaGreatDoorYk
set_option maxHeartbeats 8000000
set_option linter.all false
namespace Go.Proofs.YtpeabpmnlmaabaaGreatDoor
open Go.ba Go.aQ
noncomputable section
def kD(s:(aX->Option c8)×List aX)(x:Int×ey):(aX->Option c8)×List aX:=
 if (s.1 x.2.name).isSome then s else(λw=>if w=x.2.name then some ⟨x.1,x.2, -1, -1⟩else s.1 w,s.2++[x.2.name])
def rE(y:Nat)(t:aX->Option c8)(x:aX×Nat):aX->Option c8:=match t x.1 with
 |some v=>if v.eq<0 then(λw=>if w=x.1 then some ⟨v.kind,v.d,y,x.2⟩else t w)else t
 |none=>t
def Ix(t:aX->Option c8)(x:f8×Nat):aX->Option c8:=x.1.left.zipIdx.foldl (rE x.2) t
def ns(g:Go.aQ.Node):(aX->Option c8)×List aX:=(gy g).foldl kD (λ_=>none,[])
def dl(g:Go.aQ.Node):aX->Option c8:=g.eqs.zipIdx.foldl Ix (ns g).1
def ld(g:Go.aQ.Node):List aX:=(ns g).2
def gq(t:aX->Option c8):aX->Option D:=λw=>(t w).map λv=> .agg (lM v)
def Xz{α:Type}{k:List α}{i:Nat}{x:α}(a:k[i]? =some x):k.zipIdx[i]? =some (x,i):=by
 rw[List.getElem?_zipIdx,a];simp
section
variable{X:ch}{h S' eF aK aJ:R af}{j am aM aR:Nat}
structure s3(X:ch)(f2:R af)(d9 kS b8 bG:Nat)(t:aX->Option c8)(mQ:List aX)(h:R af)(n:Nat):Prop where
 le:bG<=n
 map:n6 X h kS (gq t)
 wB:∃c aS cw,U X h b8=some (.cells c 2 .own)/\c.get 0=some (.map kS)/\c.get 1=some aS/\gw X h aS 1 (mQ.map .str) cw/\∀e∈cw,bG<=e/\e<n
 low:∀e,e<d9->e≠kS->e≠b8->U X h e=U X f2 e
def s3.aa{f2:R af}{d9 kS b8 bG:Nat}{t:aX->Option c8}{mQ:List aX}(a:s3 X f2 d9 kS b8 bG t mQ aK aM)(xA:kS<d9)(kj:b8<d9)(oo:d9<=bG)(aF:aM<=aR)(aH:∀e,e<aM->(e<d9\/bG<=e)->U X aJ e=U X aK e):s3 X f2 d9 kS b8 bG t mQ aJ aR:=by
 have f4:=a.le
 refine⟨Zo,a.map.aa (aH _ Zo Zo), ?_,λe J Q ak=>by rw[aH e Zo Zo];exact a.low e J Q ak⟩
 obtain⟨c,aS,cw,bK,b1,cM,dF,fj⟩:=a.wB
 exact⟨c,aS,cw,by rw[aH _ Zo Zo];exact bK,b1,cM,dF.aa (λe B=>by have:=fj e B;exact aH e Zo Zo),λe B=>zq (fj e B)⟩
def Qo(au:di X){P:Nat->Prop}{g:Go.aQ.Node}{row:List D}(aF:(o X).a6<=j)(bq:∀e,P e->e<j)(bP:oM X h P g row)(bo:(gy g).length<=300000):
 aW X 10 [.agg row] h j (λac S' am=>∃b8 kS aS b,ac= .ptr b8 0/\dx j am b8/\dx j am kS/\aI X S' (.ptr b8 0)=some (.map kS)/\n6 X S' kS (gq (dl g))/\aI X S' (.ptr b8 1)=some aS/\dL X S' (dx j am) b aS 1 (fL (ld g))/\bf X h j S' am) (λ_ _ _=>False):=by
 refine JJ (akc X) (au.none _ _ rfl) ?_
 rw[akd]
 unfold XH
 obtain⟨c5,dt,aS,eM,bZ,cu,c0,fE,bL,rfl,mH,k5,oj,jp,e6⟩:=bP
 refine cI ⟨?_⟩
 refine eL (λaK=>U X aK j=zu [.str g.name, .Z g.at_,c5,dt,aS,eM] 6
  /\U X aK (j+1)=some (.map [] 0)/\U X aK (j+1+1)=zu [.map (j+1), .aT] 2/\aI X aK (.ptr (j+1+1+1) 0)=some (.ptr (j+1+1) 0)/\bf X h j aK (j+1+1+1+1)) ⟨by(first|assumption|(simp(disch:=omega) only[bb,aC]<;>rfl)|(simp(disch:=omega) only[bb,aC])),by(first|assumption|(simp(disch:=omega) only[bb,aC]<;>rfl)|(simp(disch:=omega) only[bb,aC])),by(first|assumption|(simp(disch:=omega) only[bb,aC]<;>rfl)|(simp(disch:=omega) only[bb,aC])),by rw[cl,bb Zo];rfl,dA⟩ ?_
 rintro aK ⟨jb,bK,b1,cM,bH⟩
 refine(NV au Zo).Zm ?_
 rintro ac aJ aR ⟨rfl,rfl,bC,cB,ea,fQ⟩
 have hp:bf X h j aJ (j+1+1+1+1+1):=bH.trans bC
 have nl:∀e,P e->U X aJ e=U X h e:=λe B=>hp.aa e (bq e B)
 rw[<-bC.aa _ Zo]at jb bK b1
 rw[<-bC.ep _ _ Zo]at cM
 generalize HF:j+1+1+1+1+1=d9 at*
 refine gk ?_
 refine NW (P:=P) (g:=g) (bZ:=bZ) (cu:=cu) (c0:=c0) (c5:=c5) (dt:=dt) (aS:=aS) au (λi S' aP=>s3 X aJ d9 (j+1) (j+1+1) (d9+2) (((gy g).take i).foldl kD (λ_=>none,[])).1 (((gy g).take i).foldl kD (λ_=>none,[])).2 S' aP/\(((gy g).take i).foldl kD (λ_=>none,[])).2.length<=i) Zo Zo Zo Zo
  (mH.aa nl) (k5.aa nl) (oj.aa nl) cB ea fQ (λi S' aP a=>⟨a.1.le,λe B=>a.1.low e (zq (bq e B)) (zq (bq e B)) (zq (bq e B))⟩)
  (λi aK aM aJ aR a f4 aH=>⟨a.1.aa Zo Zo Zo f4 (λe J Q=>aH e J Zo),a.2⟩)
  (λS' bT=>⟨⟨Zj _,⟨[],0,by rw[bT.aa _ Zo];exact bK,λ_=>rfl⟩,⟨_, .aT,[],by rw[bT.aa _ Zo];exact b1,rfl,rfl, .inl (.inl ⟨rfl,rfl,rfl⟩),λe B=>by simp at B⟩,λe B _ _=>bT.aa e B⟩,Zs⟩) ?_ ?_
 ·intro mk i eV d a1 bn aN fe mg iB
  rw[BJ kD _ aN]
  generalize ((gy g).take i).foldl kD (λ_=>none,[])=b9 at fe ⊢
  obtain⟨fe,eT⟩:=fe
  have aD3:=(Zb.1 aN).1
  have f4:=fe.le
  have je:d6 d=[.str d.name, .Z d.at_, .bool d.ty.b, .bool d.ty.s, .Z d.ty.w, .str d.on, .Z d.eP, .bool d.no]:=rfl
  rw[je]
  unfold tZ
  refine cI ⟨?_⟩
  generalize e1:bi X _ bn _=bA
  have dF:U X bA bn=zu [.str d.name, .Z d.at_, .bool d.ty.b, .bool d.ty.s, .Z d.ty.w, .str d.on, .Z d.eP, .bool d.no] 8:=by rw[<-e1,bb Zo];rfl
  have d1:∀e,e<bn->U X bA e=U X a1 e:=λe B=>by rw[<-e1];exact zw
  clear e1
  refine⟨by rw[d1 _ Zo];exact iB, ?_⟩
  generalize iD:bi X bA (d9+1) _=bN
  have fj:U X bN (d9+1)=some (mk .busy none):=by rw[<-iD,bb Zo]
  have dY:∀e,e≠d9+1->U X bN e=U X bA e:=λe B=>by rw[<-iD,aC Zo B]
  clear iD
  have hH:=fe.aa (aJ:=bN) (aR:=bn+1) Zo Zo Zo Zo (λe J Q=>by rw[dY e Zo,d1 e J])
  rw[<-dY _ Zo]at dF
  have vz:U X bN d9=some (.deferred (some [])):=by rw[dY _ Zo,d1 _ Zo];exact mg
  have c0:aI X bN (.ptr (j+1+1+1) 0)=some (.ptr (j+1+1) 0):=zB (hH.low _ Zo Zo Zo) cM
  obtain⟨ku,aFE,ao5,e8,fR,hY,pj,nU⟩:=hH.wB
  have jU:mN X bN 9 (.agg [.Z 0, .str [], .Z 0, .zF, .zF, .Z 0, .str [], .Z 0, .zF, .Z 0, .Z 0]) (.map (j+1)) (.str d.name) true=some (.tuple [.agg (lM ((b9.1 d.name).getD nw)), .bool (b9.1 d.name).isSome]):=by
   rw[CC hH.map];unfold gq;cases b9.1 d.name<;>rfl
  generalize As:(b9.1 d.name).getD nw=fl at jU
  have ot:lM fl=[.Z fl.kind, .str fl.d.name, .Z fl.d.at_, .bool fl.d.ty.b, .bool fl.d.ty.s, .Z fl.d.ty.w, .str fl.d.on, .Z fl.d.eP, .bool fl.d.no, .Z fl.eq, .Z fl.left]:=rfl
  rw[ot]at jU
  have ki:∀S' aP (G:(aX->Option c8)×List aX),s3 X aJ d9 (j+1) (j+1+1) (d9+2) G.1 G.2 S' aP->G.2.length<=i+1->U X S' d9=some (.deferred (some []))->(D.bool true=D.bool true/\(s3 X aJ d9 (j+1) (j+1+1) (d9+2) G.1 G.2 (bi X S' (d9+1) (some (mk .ready none))) aP/\G.2.length<=i+1)/\U X (bi X S' (d9+1) (some (mk .ready none))) d9=some (.deferred (some []))/\U X (bi X S' (d9+1) (some (mk .ready none))) (d9+1)=some (mk .ready none)):=λS' aP G a az Q=>
   ⟨rfl,⟨a.aa Zo Zo Zo (Zj _) (λe J Q=>aC Zo Zo),az⟩,by rw[aC Zo Zo];exact Q,bb Zo⟩
  refine pI ⟨?_⟩
  refine gk ?_
  refine gb @c0 (bp e8) @fR (bp dF) @jU ⟨?_⟩
  generalize gN:bi X _ (bn+1+10) _=bY
  have dk:∀e,e<bn+1->U X bY e=U X bN e:=λe B=>by rw[<-gN];exact zw
  clear gN jU
  have h3:s3 X aJ d9 (j+1) (j+1+1) (d9+2) b9.1 b9.2 bY (bn+1+13):=hH.aa Zo Zo Zo Zo (λe J Q=>dk e J)
  rw[<-dk _ Zo]at dF fj vz
  have DF:aI X bY (.ptr (j+1+1+1) 0)=some (.ptr (j+1+1) 0):=zB (dk _ Zo) c0
  have aie:U X bY (j+1+1)=some (.cells ku 2 .own):=by rw[dk _ Zo];exact e8
  cases aD:b9.1 d.name with
  |some aCX=>
   have gF:kD b9 (eV,d)=b9:=by unfold kD;rw[Zp (by simp[aD])]
   rw[gF]
   simp only[Z4]
   refine cI ⟨?_⟩
   exact⟨⟨.busy,none,fj⟩,ki _ _ b9 (h3.aa Zo Zo Zo Zo (λ_ _ _=>rfl)) Zo vz⟩
  |none=>
   have gF:kD b9 (eV,d)=(λw=>if w=d.name then some ⟨eV,d, -1, -1⟩else b9.1 w,b9.2++[d.name]):=by unfold kD;rw[Zh (by simp[aD])]
   rw[gF]
   simp only[ZZ]
   refine fW @DF (bp aie) @fR (bp dF) ⟨?_⟩
   generalize jF:bn+1+13+10=N
   obtain⟨cn,pR,Hl,sj⟩:=L8 (j:=N) (show(o X).a6<=j+1 by omega) h3.map d.name (.agg (lM ⟨eV,d, -1, -1⟩))
   refine j8 pR ?_
   have abY:aI X cn (.ptr (j+1+1+1) 0)=some (.ptr (j+1+1) 0):=zB (sj _ Zo) DF
   have aif:U X cn (j+1+1)=some (.cells ku 2 .own):=by rw[sj _ Zo];exact aie
   rw[<-sj _ Zo]at dF fj vz
   refine fW @abY (bp aif) @hY (bp dF) ⟨?_⟩
   generalize mh:bi X cn (N+7) _=dC
   have aqj:U X dC (N+7)=zu [.str d.name] 1:=by rw[<-mh,bb Zo]
   have gM:∀e,e<N->U X dC e=U X cn e:=λe B=>by rw[<-mh];exact zw
   clear mh pR
   obtain⟨eX,dW,gL,iE,afR,aeu,rq⟩:=(pj.aa (S':=dC) (λe B=>by have:=nU e B;rw[gM e Zo,sj e Zo,dk e Zo])).append (j:=N+12) Zd (sJ aqj (nk _) rfl _) rfl Zd rfl Zx Zo (λe B=>zq (nU e B))
   refine j8 iE ?_
   have he:∀e,e<N->e∉ao5->U X dW e=U X cn e:=λe B a=>by rw[rq e Zo a,gM e B]
   have aoX:aI X dW (.ptr (j+1+1+1) 0)=some (.ptr (j+1+1) 0):=zB (he _ Zo (λa=>zq (nU _ a))) abY
   have aAj:U X dW (j+1+1)=some (.cells ku 2 .own):=by rw[he _ Zo (λa=>zq (nU _ a))];exact aif
   refine ce @aoX ⟨?_⟩
   refine gp (by simp[D.same]) ?_
   obtain⟨fK,hX,xU⟩:=k1.one afR
   refine f7 (ud aAj Zo Zo fK hX) ?_
   refine cI ⟨?_⟩
   generalize sg:bi X dW (j+1+1) _=f2
   have WF:U X f2 (j+1+1)=some (.cells (ku.set 1 (some eX)) 2 .own):=by rw[<-sg,bb Zo]
   have js:∀e,e≠j+1+1->U X f2 e=U X dW e:=λe B=>by rw[<-sg,aC Zo B]
   clear sg
   have ev:∀e,e<bn+1->(e<d9\/e=d9\/e=d9+1)->e≠j+1+1->e≠j+1->U X f2 e=U X bY e:=λe B J Q ak=>by
    rw[js e Q,he e Zo (λa=>zq (nU _ a)),sj e ak]
   refine⟨⟨.busy,none, ?_⟩,ki _ _ (_,b9.2++[d.name]) ⟨Zo, ?_,⟨ku.set 1 (some eX),eX,gL,WF, ?_, ?_, ?_, ?_⟩, ?_⟩ Zx ?_⟩
   ·rw[js _ Zo,he _ Zo (λa=>zq (nU _ a))];exact fj
   ·have:(λx=>if x=d.name then some (D.agg (lM ⟨eV,d, -1, -1⟩))else gq b9.1 x)=gq (λw=>if w=d.name then some ⟨eV,d, -1, -1⟩else b9.1 w):=by
     funext x;unfold gq;by_cases a:x=d.name<;>simp[a]
    rw[this]at Hl
    exact Hl.aa (by rw[js _ Zo,he _ Zo (λa=>zq (nU _ a))])
   ·rw[R.kN,Zh Zd];exact fR
   ·rw[R.kN,Zp rfl]
   ·rw[ZQ]
    exact .inl (afR.aa λe B=>js e (by rcases aeu e B with rfl|a;omega;have:=nU _ a;omega))
   ·intro e B
    rcases aeu e B with rfl|a
    ·omega
    ·have:=nU _ a;omega
   ·intro e J Q ak
    rw[ev e Zo (.inl J) ak Q];exact h3.low e J Q ak
   ·rw[js _ Zo,he _ Zo (λa=>zq (nU _ a))];exact vz
 ·intro a1 bn fe mg
  rw[YX]at fe
  obtain⟨fe,eT⟩:=fe
  change s3 X aJ d9 (j+1) (j+1+1) (d9+2) (ns g).1 (ns g).2 a1 bn at fe
  change (ns g).2.length<=_ at eT
  have ary:U X a1 j=zu [.str g.name, .Z g.at_,c5,dt,aS,eM] 6:=by rw[fe.low _ Zo Zo Zo];exact jb
  have j4:=e6.wide
  have d2:=jp.len
  have ik:=jp.many
  rw[j4.1]at d2 ik
  refine cL (bp ary) @d2 ⟨?_⟩
  refine fp (λm H S' aP=>∃(T:Nat),H.g 3=some (.ptr (j+1+1+1) 0)/\H.g 54=some eM/\H.g 55=some (.Z (g.eqs.length:Int))/\H.g 56=some (.Z (T:Int))/\H.bd=[⟨.collected d9,[]⟩]/\T+m=g.eqs.length
   /\s3 X aJ d9 (j+1) (j+1+1) (d9+2) ((g.eqs.zipIdx.take T).foldl Ix (ns g).1) (ns g).2 S' aP/\U X S' d9=some (.deferred (some [])))
   g.eqs.length ⟨0,be,be,be,fO,rfl,Zo,fe,mg⟩ ?_
  rintro m H bA cv ⟨T,t3,kG,qV,p6,kY,bJ,o3,Kf⟩
  have iG:=o3.le
  cases m with
  |zero=>
   have aB:=zr T g.eqs.length
   have aoV:aI X bA (.ptr (j+1+1+1) 0)=some (.ptr (j+1+1) 0):=zB (o3.low _ Zo Zo Zo) cM
   refine gb @p6 @qV @t3 @aB @aoV ⟨?_⟩
   have Hz:(g.eqs.zipIdx.take T).foldl Ix (ns g).1=dl g:=by
    rw[ZB Zx];rfl
   rw[Hz]at o3
   show nV X [.tmp 2] _ _ _ _ _
   simp only[x1,kY]
   refine⟨by show(o X).a6<=d9;omega,Kf, ?_⟩
   show rI _ _ _ _ _
   unfold rI
   refine cI ⟨?_⟩
   have hH:=o3.aa (aJ:=bi X bA d9 (some (.deferred none))) Zo Zo Zo (Zj _) (λe J Q=>aC Zo Zo)
   obtain⟨c,s,cw,e8,fR,hY,pj,nU⟩:=hH.wB
   obtain⟨b,ag⟩:=pj.Mr (P:=dx j cv) (by simp[ld]at eT ⊢;omega) (λe B=>by have:=nU e B;exact⟨Zo,Zo⟩)
   refine⟨j+1+1,j+1,s,b,rfl,⟨Zo,Zo⟩,⟨Zo,Zo⟩,by rw[bp e8];exact fR,hH.map,by rw[bp e8];exact hY, ?_,Zo,λe B=> ?_⟩
   ·have:fL (ld g)=((ns g).2.map D.str).map λv=>[v]:=by unfold fL ld;rw[YH];rfl
    rw[this];exact ag
   ·rw[hH.low e Zo Zo Zo];exact hp.aa e B
  |succ m=>
   have aB:=zs T g.eqs.length
   have bD:=zv T
   obtain⟨aj,b3⟩:=zt g.eqs T
   obtain⟨row,fb,tD⟩:=e6.get T aj b3
   have mo:∀e,P e->U X bA e=U X h e:=λe B=>by have:=bq e B;rw[o3.low e Zo Zo Zo,nl e B]
   have dw:=jp.fI T (by rw[j4.1];omega)
   have hs:=(jp.aa mo).row Zd fb
   obtain⟨qQ,sH,cX,dI,kF,rfl,it,mK,pa,rt⟩:=tD
   have Ak:=km it.len
   have aER:=km mK.1.len
   have Ca:=it.len
   have Cb:=it.many
   rw[show(fL aj.left).length=aj.left.length from by simp[fL]]at Ca Cb
   have dj:=BJ Ix (ns g).1 (Xz b3)
   rw[show(aj,T)=(aj,T) from rfl]at dj
   generalize atf:(g.eqs.zipIdx.take T).foldl Ix (ns g).1=QY at o3 dj
   refine ih @p6 @qV @kG @aB @dw @hs ⟨?_⟩
   refine f7 (iJ (y:=4) (b:=cv) (V:=0) (n:=4) (c:=R.ofList [.aT, .aT, .Z 0, .cF] 0 .nil) (bb Zo) Zo rfl Zd Zd rt) ?_
   generalize iD:bi X _ cv _=bN
   have fj:aI X bN (.ptr cv 0)=some qQ:=by rw[<-iD,cl,bb Zo];rfl
   have dY:∀e,e<cv->U X bN e=U X bA e:=λe B=>by rw[<-iD];exact zw
   clear iD
   have hH:s3 X aJ d9 (j+1) (j+1+1) (d9+2) QY (ns g).2 bN (cv+1):=o3.aa Zo Zo Zo Zo (λe J Q=>dY e J)
   rw[<-dY _ Zo]at Kf
   refine cL @fj @Ca ⟨?_⟩
   refine fp (λgH H S' aP=>∃(i:Nat),H.g 3=some (.ptr (j+1+1+1) 0)/\H.g 54=some eM/\H.g 55=some (.Z (g.eqs.length:Int))/\H.g 56=some (.Z (T:Int))/\H.bd=[⟨.collected d9,[]⟩]/\H.g 8=some (.Z (T:Int))/\H.g 62=some qQ/\H.g 63=some (.Z (aj.left.length:Int))/\H.g 64=some (.Z (i:Int))/\i+gH=aj.left.length
    /\s3 X aJ d9 (j+1) (j+1+1) (d9+2) ((aj.left.zipIdx.take i).foldl (rE T) QY) (ns g).2 S' aP/\U X S' d9=some (.deferred (some [])))
    aj.left.length ⟨0,aZ t3,aZ kG,aZ qV,aZ p6,kY,be,be,be,fO,Zo,hH,Kf⟩ ?_
   rintro gH c3 bY dv ⟨i,t3,kG,qV,p6,kY,t8,IU,C2,u7,aN,h3,tj⟩
   have o7:=h3.le
   cases gH with
   |zero=>
    have aB:=zr i aj.left.length
    refine gb @u7 @C2 @p6 @aB @bD ⟨?_⟩
    rw[ZB Zx]at h3
    refine⟨m,Zo,T+1,aZ t3,aZ kG,aZ qV,be,kY,Zo, ?_,tj⟩
    rw[dj]
    exact h3
   |succ gH=>
    have aB:=zs i aj.left.length
    have cG:=zv i
    obtain⟨w,bw⟩:=zt aj.left i
    have qI:∀e,P e->U X bY e=U X h e:=λe B=>by have:=bq e B;rw[h3.low e Zo Zo Zo,nl e B]
    have tz:=it.fI i (by simp[fL];omega)
    have g1:=(it.aa qI).cell i [.str w] 0 (.str w) (by unfold fL;rw[Zw,bw];rfl) rfl
    rw[Z5]at tz
    rw[Z5,ZX]at g1
    have Ch:=BJ (rE T) QY (Xz bw)
    generalize ate:(aj.left.zipIdx.take i).foldl (rE T) QY=po at h3 Ch
    have DF:aI X bY (.ptr (j+1+1+1) 0)=some (.ptr (j+1+1) 0):=zB (h3.low _ Zo Zo Zo) cM
    obtain⟨vq,aFF,aDw,e8,fR,hY,pj,nU⟩:=h3.wB
    have jU:mN X bY 9 (.agg [.Z 0, .str [], .Z 0, .zF, .zF, .Z 0, .str [], .Z 0, .zF, .Z 0, .Z 0]) (.map (j+1)) (.str w) true=some (.tuple [.agg (lM ((po w).getD nw)), .bool (po w).isSome]):=by
     rw[CC h3.map];unfold gq;cases po w<;>rfl
    generalize As:(po w).getD nw=fl at jU
    have ot:lM fl=[.Z fl.kind, .str fl.d.name, .Z fl.d.at_, .bool fl.d.ty.b, .bool fl.d.ty.s, .Z fl.d.ty.w, .str fl.d.on, .Z fl.d.eP, .bool fl.d.no, .Z fl.eq, .Z fl.left]:=rfl
    rw[ot]at jU
    refine et @u7 @C2 @IU @t3 @aB @tz (Za @g1 (Za @DF (Za (bp e8) (Za @fR @jU)))) ⟨?_⟩
    generalize kO:bi X _ dv _=cn
    have ek:U X cn dv=zu [.Z fl.kind, .str fl.d.name, .Z fl.d.at_, .bool fl.d.ty.b, .bool fl.d.ty.s, .Z fl.d.ty.w, .str fl.d.on, .Z fl.d.eP, .bool fl.d.no, .Z fl.eq, .Z fl.left] 11:=by rw[<-kO,bb Zo];rfl
    have fJ:∀e,e<dv->U X cn e=U X bY e:=λe B=>by rw[<-kO];exact zw
    clear kO
    have sf:s3 X aJ d9 (j+1) (j+1+1) (d9+2) po (ns g).2 cn (dv+1):=h3.aa Zo Zo Zo Zo (λe J Q=>fJ e J)
    rw[<-fJ _ Zo]at tj
    cases aD:po w with
    |none=>
     have gF:rE T po (w,i)=po:=by unfold rE;simp only[aD]
     simp only[ZZ]
     refine cL @u7 @cG ⟨?_⟩
     exact⟨gH,Zo,i+1,aZ t3,aZ kG,aZ qV,aZ p6,kY,aZ t8,aZ IU,aZ C2,be,Zo,by rw[Ch,gF];exact sf,tj⟩
    |some v=>
     have av2:v=fl:=by rw[aD]at As;exact As
     subst av2
     simp only[Z4]
     by_cases Pl:v.eq<0
     ·have cH:decide (v.eq<0)=true:=by simp[Pl]
      have gF:rE T po (w,i)=λx=>if x=w then some ⟨v.kind,v.d,T,i⟩else po x:=by unfold rE;simp only[aD,Pl,ZE]
      refine fW (bp ek) @cH @t8 @u7 ⟨?_⟩
      generalize mh:bi X (bi X cn dv _) dv _=dC
      have fN:U X dC dv=zu [.Z v.kind, .str v.d.name, .Z v.d.at_, .bool v.d.ty.b, .bool v.d.ty.s, .Z v.d.ty.w, .str v.d.on, .Z v.d.eP, .bool v.d.no, .Z T, .Z i] 11:=by rw[<-mh,bb Zo];rfl
      have gM:∀e,e≠dv->U X dC e=U X cn e:=λe B=>by rw[<-mh,aC Zo B,aC Zo B]
      clear mh ek
      have jd:s3 X aJ d9 (j+1) (j+1+1) (d9+2) po (ns g).2 dC (dv+1):=⟨sf.le,sf.map.aa (gM _ Zo),by
       obtain⟨c,s,cw,cN,cB,ea,fQ,mU⟩:=h3.wB
       exact⟨c,s,cw,by rw[gM _ Zo,fJ _ Zo];exact cN,cB,ea,fQ.aa (λe B=>by have:=mU e B;rw[gM e Zo,fJ e Zo]),λe B=>zq (mU e B)⟩,
       λe J Q ak=>by rw[gM e Zo];exact sf.low e J Q ak⟩
      have aoW:aI X dC (.ptr (j+1+1+1) 0)=some (.ptr (j+1+1) 0):=by rw[cl,gM _ Zo,fJ _ Zo, <-cl];exact DF
      have aAi:U X dC (j+1+1)=some (.cells vq 2 .own):=by rw[gM _ Zo,fJ _ Zo];exact e8
      refine gb @t3 @aoW (bp aAi) @fR (bp fN) ⟨?_⟩
      obtain⟨dW,pR,as5,rq⟩:=L8 (j:=dv+1+7) (show(o X).a6<=j+1 by omega) jd.map w (.agg (lM ⟨v.kind,v.d,T,i⟩))
      refine j8 pR ?_
      refine cL @u7 @cG ⟨?_⟩
      refine⟨gH,Zo,i+1,aZ t3,aZ kG,aZ qV,aZ p6,kY,aZ t8,aZ IU,aZ C2,be,Zo, ?_,by rw[rq _ Zo,gM _ Zo];exact tj⟩
      rw[Ch,gF]
      refine⟨Zo, ?_, ?_,λe J Q ak=>by rw[rq e Q];exact jd.low e J Q ak⟩
      ·have:(λx=>if x=w then some (D.agg (lM ⟨v.kind,v.d,T,i⟩))else gq po x)=gq (λx=>if x=w then some ⟨v.kind,v.d,T,i⟩else po x):=by
        funext x;unfold gq;by_cases a:x=w<;>simp[a]
       rw[<-this];exact as5
      ·obtain⟨c,s,cw,cN,cB,ea,fQ,mU⟩:=jd.wB
       exact⟨c,s,cw,by rw[rq _ Zo];exact cN,cB,ea,fQ.aa (λe B=>by have:=mU e B;exact rq e Zo),λe B=>zq (mU e B)⟩
     ·have cH:decide (v.eq<0)=false:=by simp[Pl]
      have gF:rE T po (w,i)=po:=by unfold rE;simp only[aD,Pl,ZC]
      refine fW (bp ek) @cH @u7 @cG ⟨?_⟩
      exact⟨gH,Zo,i+1,aZ t3,aZ kG,aZ qV,aZ p6,kY,aZ t8,aZ IU,aZ C2,be,Zo,by rw[Ch,gF];exact sf,tj⟩
end
end
end Go.Proofs.YtpeabpmnlmaabaaGreatDoor

namespace Go.aQ
structure i7 where
 N:aX->Prop
 Gq:er->Prop
 L:er->Int->Prop
 a6:∀s,N s->s≠[]
 b8:Gq ⟨true,false,1⟩
 eZ:L ⟨true,false,1⟩ 0
 c7:L ⟨true,false,1⟩ 1
 lt:∀t n,L t n->Gq t
 A:Int->Prop
 a0:A 0
structure Dx(bF:i7)(x:Tok):Prop where
 name:x.kind=1->bF.N x.text
 type:x.kind=3->bF.Gq x.ty
 num:x.kind=4->0<=x.n
 lit:x.kind=5->bF.L x.ty x.n
 pos:x.kind≠7->bF.A x.at_
def hb(bF:i7)(k:List Tok):Prop:=∀x∈k,Dx bF x
def hb.p7{bF:i7}{x:Tok}{k:List Tok}(a:hb bF (x::k)):hb bF k:=λe B=>a e (Zu _ B)
def hb.aE{bF:i7}{x:Tok}{k:List Tok}(a:hb bF (x::k)):Dx bF x:=a x (Zv ..)
def s9(y:Int):Option Nat:=if y=25 then none else if y=1\/y=2 then some 0 else if y=3\/y=4\/y=5\/y=6\/y=19\/y=20\/y=26 then some 1 else if y=23 then some 3 else some 2
def to(y:Int):Prop:=y=2\/y=6\/y=24\/y=25
def uK(y:Int):Prop:=y=1\/y=26
structure yq(bF:i7)(E:bB):Prop where
 R4:bF.A E.at_
 bW:1<=E.kind
 cq:E.kind<=26
 DA:∀m,s9 E.kind=some m->E.args.length=m
 nm:to E.kind->bF.N E.name
 Qk:¬to E.kind->E.name=[]
 no:E.no=true->E.kind=6
 ty:uK E.kind->bF.Gq E.ty
 dQ:¬uK E.kind->E.ty=dQ
 ahv:E.kind=1->bF.L E.ty E.n
 mQ:E.kind=19\/E.kind=20->0<=E.n/\E.n<=63
 a6:E.kind≠1->E.kind≠19->E.kind≠20->E.n=0
 hS:E.kind=21->∃k r,E.args=[k,r]/\(k.kind=1\/k.kind=4/\∃x,k.args=[x]/\x.kind=1)
mutual
def fi(bF:i7):bB->Prop
 | .mk y F nm no ty n args=>yq bF (.mk y F nm no ty n args)/\gx bF args
def gx(bF:i7):List bB->Prop
 |[]=>True
 |E::k=>fi bF E/\gx bF k
end
def fi.eq{bF:i7}(E:bB):fi bF E=(yq bF E/\gx bF E.args):=by cases E;rw[fi];rfl
def gx.cons{bF:i7}{E:bB}{k:List bB}(a:fi bF E)(y:gx bF k):gx bF (E::k):=by rw[gx];exact⟨a,y⟩
def gx.nil{bF:i7}:gx bF []:=by rw[gx];trivial
def gx.app{bF:i7}{E:bB}(a:fi bF E):∀{k:List bB},gx bF k->gx bF (k++[E]):=by
 intro k
 induction k with
 |nil=>intro _;exact gx.cons a gx.nil
 |cons F k ai=>intro y;rw[gx]at y;exact gx.cons y.1 (ai y.2)
def dB(bF:i7){α:Type}(bg:α->Prop)(x:fS α):Prop:=∀F bM,x=some (.ok (F,bM))->hb bF bM/\bg F
section
variable{bF:i7}{α eJ:Type}
def dB.none{bg:α->Prop}:dB bF bg none:=λ_ _ a=>by cases a
def dB.ok{bg:α->Prop}{F:α}{k:List Tok}(a:hb bF k)(aj:bg F):dB bF bg (aQ.ok F k):=λfu bM E=>by cases E;exact⟨a,aj⟩
def dB.bad{bg:α->Prop}(F:Int):dB bF bg (aQ.bad F:fS α):=λfu bM E=>by cases E
def dB.andThen{bg:α->Prop}{nA:eJ->Prop}{x:fS α}{f:α->List Tok->fS eJ}(a:dB bF bg x)(y:∀F bM,hb bF bM->bg F->dB bF nA (f F bM)):dB bF nA (aQ.andThen x f):=by
 unfold aQ.andThen
 split
 ·exact dB.none
 ·exact λ_ _ E=>by cases E
 ·rename_i F k
  obtain⟨J,Q⟩:=a F k rfl
  exact y F k J Q
def Dx.g3{x:Tok}{s:aX}(a:Dx bF x)(aD:g3 x s=true):bF.A x.at_:=a.pos λE=>by simp[aQ.g3,E]at aD
def oH{s:aX}{k:List Tok}(a:hb bF k):dB bF (λx:Tok=>bF.A x.at_) (ee s k):=by
 cases k with
 |nil=>exact dB.none
 |cons x k=>
  simp only[ee]
  split
  ·rename_i aD;exact dB.ok a.p7 (a.aE.g3 aD)
  ·exact dB.bad _
def wh{y:Int}{k:List Tok}(a:hb bF k):dB bF (λx:Tok=>Dx bF x/\x.kind=y) (iI y k):=by
 cases k with
 |nil=>exact dB.none
 |cons x k=>
  simp only[iI]
  split
  ·rename_i aD;exact dB.ok a.p7 ⟨a.aE,aD⟩
  ·exact dB.bad _
def qX{s:aX}{k:List Tok}{f:Option Tok->List Tok->fS eJ}{bg:eJ->Prop}(a:hb bF k)(J:∀x bM,bF.A x.at_->hb bF bM->dB bF bg (f (some x) bM))(Q:dB bF bg (f none k)):dB bF bg (h9 s k f):=by
 cases k with
 |nil=>exact dB.none
 |cons x k=>
  unfold h9 lj
  by_cases aD:g3 x s=true
  ·simp only[aD,ZE];exact J x k (a.aE.g3 aD) a.p7
  ·simp only[aD,ZC];exact Q
def Ns{k:List Tok}(a:hb bF k):∀(os:List (aX×Int)) E bM,nE os k=some (E,bM)->hb bF bM/\∀x,E=some x->∃V∈os,∃F,bF.A F/\x= .mk V.2 F [] false dQ 0 []:=by
 intro os
 induction os with
 |nil=>intro E bM bz;cases bz;exact⟨a,λx ae=>by cases ae⟩
 |cons V os ai=>
  obtain⟨s,y⟩:=V
  intro E bM bz
  cases k with
  |nil=>simp[nE,lj]at bz
  |cons x k=>
   unfold nE lj at bz
   by_cases aD:g3 x s=true
   ·simp only[aD,ZE]at bz
    cases bz
    exact⟨a.p7,λe B=>by cases B;exact⟨_,Zv ..,_,a.aE.g3 aD,rfl⟩⟩
   ·simp only[aD,ZC]at bz
    obtain⟨J,Q⟩:=ai E bM bz
    exact⟨J,λe B=>by obtain⟨V,bh,F,aA⟩:=Q e B;exact⟨V,Zu _ bh,F,aA⟩⟩
def ajo{y F:Int}{x e:bB}(aH:7<=y/\y<=18\/y=22)(ae:fi bF x)(B:fi bF e)(aA:bF.A F):fi bF (.mk y F [] false dQ 0 [x,e]):=by
 rw[fi.eq]
 refine⟨⟨aA,by simp only[bB.kind];omega,by simp only[bB.kind];omega, ?_, ?_,λ_=>rfl,(λa=>absurd a (by simp[bB.no])), ?_,λ_=>rfl, ?_, ?_,λ_ _ _=>rfl, ?_⟩,gx.cons ae (gx.cons B gx.nil)⟩
 ·intro m bo
  have v1:s9 y=some m:=bo
  unfold s9 at v1
  rw[Zh Zo,Zh Zo,Zh Zo,Zh Zo]at v1
  cases v1;rfl
 ·intro a;simp only[to,bB.kind]at a;omega
 ·intro a;simp only[uK,bB.kind]at a;omega
 ·intro a;simp only[bB.kind]at a;omega
 ·intro a;simp only[bB.kind]at a;omega
 ·intro a;simp only[bB.kind]at a;omega
def MS{y F n:Int}{nm:aX}{no:Bool}{ty:er}{x:bB}(aH:y=3\/y=4\/y=5\/y=6\/y=19\/y=20\/y=26)(jg:y=6->bF.N nm)(g6:y≠6->nm=[]/\no=false)(a8:y=26->bF.Gq ty)(Vg:y≠26->ty=dQ)(aF:y=19\/y=20->0<=n/\n<=63)(auU:y≠19->y≠20->n=0)(ae:fi bF x)(aA:bF.A F):fi bF (.mk y F nm no ty n [x]):=by
 rw[fi.eq]
 refine⟨⟨aA,by simp only[bB.kind];omega,by simp only[bB.kind];omega, ?_, ?_, ?_, ?_, ?_, ?_, ?_,aF, ?_, ?_⟩,gx.cons ae gx.nil⟩
 ·intro m bo
  have v1:s9 y=some m:=bo
  unfold s9 at v1
  rw[Zh Zo,Zh Zo,Zp aH]at v1
  cases v1;rfl
 ·intro a;simp only[to,bB.kind]at a;exact jg Zo
 ·intro a;simp only[to,bB.kind]at a;exact(g6 Zo).1
 ·intro a
  by_cases b4:y=6
  ·exact b4
  ·have cy:no=true:=a
   rw[(g6 b4).2]at cy;cases cy
 ·intro a;simp only[uK,bB.kind]at a;exact a8 Zo
 ·intro a;simp only[uK,bB.kind]at a;exact Vg Zo
 ·intro a;simp only[bB.kind]at a;omega
 ·intro J Q ak;exact auU Q ak
 ·intro a;simp only[bB.kind]at a;omega
def ajn{F n:Int}{ty:er}(a:bF.L ty n)(aA:bF.A F):fi bF (.mk 1 F [] false ty n []):=by
 rw[fi.eq]
 exact⟨⟨aA,by simp[bB.kind],by simp[bB.kind],λm bo=>by simp[s9,bB.kind]at bo;simp[bB.args, <-bo],λa=>by simp[to,bB.kind]at a,λ_=>rfl,(λa=>absurd a (by simp[bB.no])),λ_=>bF.lt _ _ a,λa=>by simp[uK,bB.kind]at a,λ_=>a,λa=>by simp[bB.kind]at a,λa=>by simp[bB.kind]at a,λa=>by simp[bB.kind]at a⟩,gx.nil⟩
def aDb{F:Int}{nm:aX}(a:bF.N nm)(aA:bF.A F):fi bF (.mk 2 F nm false dQ 0 []):=by
 rw[fi.eq]
 exact⟨⟨aA,by simp[bB.kind],by simp[bB.kind],λm bo=>by simp[s9,bB.kind]at bo;simp[bB.args, <-bo],λ_=>a,λa=>by simp[to,bB.kind]at a,(λa=>absurd a (by simp[bB.no])),λa=>by simp[uK,bB.kind]at a,λ_=>rfl,λa=>by simp[bB.kind]at a,λa=>by simp[bB.kind]at a,λ_ _ _=>rfl,λa=>by simp[bB.kind]at a⟩,gx.nil⟩
def aC7{F:Int}{nm:aX}{cp:List bB}(a:bF.N nm)(y:gx bF cp)(aA:bF.A F):fi bF (.mk 25 F nm false dQ 0 cp):=by
 rw[fi.eq]
 exact⟨⟨aA,by simp[bB.kind],by simp[bB.kind],λm bo=>by simp[s9,bB.kind]at bo,λ_=>a,λa=>by simp[to,bB.kind]at a,(λa=>absurd a (by simp[bB.no])),λa=>by simp[uK,bB.kind]at a,λ_=>rfl,λa=>by simp[bB.kind]at a,λa=>by simp[bB.kind]at a,λ_ _ _=>rfl,λa=>by simp[bB.kind]at a⟩,y⟩
def aC9{F:Int}{x e bu:bB}(ae:fi bF x)(B:fi bF e)(cm:fi bF bu)(aA:bF.A F):fi bF (.mk 23 F [] false dQ 0 [x,e,bu]):=by
 rw[fi.eq]
 exact⟨⟨aA,by simp[bB.kind],by simp[bB.kind],λm bo=>by simp[s9,bB.kind]at bo;simp[bB.args, <-bo],λa=>by simp[to,bB.kind]at a,λ_=>rfl,(λa=>absurd a (by simp[bB.no])),λa=>by simp[uK,bB.kind]at a,λ_=>rfl,λa=>by simp[bB.kind]at a,λa=>by simp[bB.kind]at a,λ_ _ _=>rfl,λa=>by simp[bB.kind]at a⟩,gx.cons ae (gx.cons B (gx.cons cm gx.nil))⟩
def aDa{F:Int}{nm:aX}{x e:bB}(a:bF.N nm)(ae:fi bF x)(B:fi bF e)(aA:bF.A F):fi bF (.mk 24 F nm false dQ 0 [x,e]):=by
 rw[fi.eq]
 exact⟨⟨aA,by simp[bB.kind],by simp[bB.kind],λm bo=>by simp[s9,bB.kind]at bo;simp[bB.args, <-bo],λ_=>a,λa=>by simp[to,bB.kind]at a,(λa=>absurd a (by simp[bB.no])),λa=>by simp[uK,bB.kind]at a,λ_=>rfl,λa=>by simp[bB.kind]at a,λa=>by simp[bB.kind]at a,λ_ _ _=>rfl,λa=>by simp[bB.kind]at a⟩,gx.cons ae (gx.cons B gx.nil)⟩
def aC8{F:Int}{x e:bB}(a:tO x=some true)(ae:fi bF x)(B:fi bF e)(aA:bF.A F):fi bF (.mk 21 F [] false dQ 0 [x,e]):=by
 rw[fi.eq]
 refine⟨⟨aA,by simp[bB.kind],by simp[bB.kind],λm bo=>by simp[s9,bB.kind]at bo;simp[bB.args, <-bo],λa=>by simp[to,bB.kind]at a,λ_=>rfl,(λa=>absurd a (by simp[bB.no])),λa=>by simp[uK,bB.kind]at a,λ_=>rfl,λa=>by simp[bB.kind]at a,λa=>by simp[bB.kind]at a,λ_ _ _=>rfl,λ_=>⟨x,e,rfl, ?_⟩⟩,gx.cons ae (gx.cons B gx.nil)⟩
 unfold tO at a
 split at a
 ·rename_i J;exact .inl J
 ·split at a
  ·rename_i J ay
   refine .inr ⟨ay, ?_⟩
   have rv:=ae
   rw[fi.eq]at rv
   have az:=rv.1.DA 1 (by rw[ay];rfl)
   cases aA:x.args with
   |nil=>rw[aA]at az;cases az
   |cons b k=>
    rw[aA]at az a
    cases k with
    |nil=>exact⟨b,rfl,by simpa using a⟩
    |cons c k=>simp at az
  ·cases a
def azn:∀(y:Nat) (V:aX×Int),V∈aq y->7<=V.2/\V.2<=18:=by
 intro y V a
 match y with
 |0=>simp[aq]at a;rcases a with rfl|rfl<;>decide
 |1=>simp[aq]at a;subst a;decide
 |2=>simp[aq]at a;rcases a with rfl|rfl|rfl|rfl|rfl|rfl<;>decide
 |3=>simp[aq]at a;rcases a with rfl|rfl<;>decide
 |4=>simp[aq]at a;subst a;decide
 |n+5=>simp[aq]at a
def azX(V:aX×Int)(a:V∈AM):V.2=3\/V.2=4\/V.2=5:=by
 simp[AM]at a;rcases a with rfl|rfl|rfl<;>simp
end
structure ajF(bF:i7)(n:Nat):Prop where
 level:∀y k,hb bF k->dB bF (fi bF) (level n y k)
 nM:∀y E k,hb bF k->fi bF E->dB bF (fi bF) (nM n y E k)
 shift:∀k,hb bF k->dB bF (fi bF) (shift n k)
 nZ:∀E k,hb bF k->fi bF E->dB bF (fi bF) (nZ n E k)
 n0:∀y x E k,y=19\/y=20->bF.A x.at_->hb bF k->fi bF E->dB bF (fi bF) (n0 n y x E k)
 u2:∀k,hb bF k->dB bF (fi bF) (tV n k)
 mw:∀E k,hb bF k->fi bF E->dB bF (fi bF) (mw n E k)
 part:∀k,hb bF k->dB bF (fi bF) (part n k)
 list:∀k,hb bF k->dB bF (gx bF) (list n k)
 nN:∀cp k,hb bF k->gx bF cp->dB bF (gx bF) (nN n cp k)
 k2:∀k,hb bF k->dB bF (fi bF) (k2 n k)
 arrow:∀k,hb bF k->dB bF (fi bF) (arrow n k)
def aov(bF:i7):∀n,ajF bF n:=by
 intro n
 induction n with
 |zero=>constructor<;>intros<;>exact dB.none
 |succ n ai=>
  constructor
  case level=>
   intro y k az
   rw[level]
   split
   ·exact ai.shift k az
   ·exact(ai.level (y+1) k az).andThen λE bM J Q=>ai.nM y E bM J Q
  case nM=>
   intro y E k az bz
   rw[nM]
   split
   ·exact dB.none
   ·rename_i bM ag
    exact dB.ok (Ns az _ _ _ ag).1 bz
   ·rename_i x bM ag
    obtain⟨J,Q⟩:=Ns az _ _ _ ag
    obtain⟨V,bh,F,aA,rfl⟩:=Q _ rfl
    have aH:=azn _ _ bh
    refine(ai.level (y+1) bM J).andThen λr cr bW cq=> ?_
    have a8:fi bF (two (.mk V.2 F [] false dQ 0 []) E r):=ajo (y:=V.2) (.inl aH) bz cq aA
    split
    ·exact dB.ok bW a8
    ·exact ai.nM y _ cr bW a8
  case shift=>
   intro k az
   rw[shift]
   exact(ai.u2 k az).andThen λE bM J Q=>ai.nZ E bM J Q
  case nZ=>
   intro E k az bz
   rw[nZ]
   refine qX az (λx bM aA J=>ai.n0 19 x E bM (.inl rfl) aA J bz) ?_
   exact qX az (λx bM aA J=>ai.n0 20 x E bM (.inr rfl) aA J bz) (dB.ok az bz)
  case n0=>
   intro y x E k aH aA az bz
   rw[n0]
   refine(wh az).andThen λm bM J Q=> ?_
   split
   ·exact dB.bad _
   ·rename_i aDO
    have aY:=Q.1.num Q.2
    exact ai.nZ _ bM J (MS Zo (λa=>Zo) (λ_=>⟨rfl,rfl⟩) (λa=>Zo) (λ_=>rfl) (λ_=>⟨aY,Zo⟩) (λJ Q=>Zo) bz aA)
  case u2=>
   intro k az
   rw[tV]
   split
   ·exact dB.none
   ·rename_i x bM ag
    obtain⟨J,Q⟩:=Ns az _ _ _ ag
    obtain⟨V,bh,F,aA,rfl⟩:=Q _ rfl
    have aH:=azX _ bh
    refine(ai.u2 bM J).andThen λE cr bW cq=>dB.ok bW ?_
    exact MS (y:=V.2) Zo (λa=>Zo) (λ_=>⟨rfl,rfl⟩) (λa=>Zo) (λ_=>rfl) (λa=>Zo) (λ_ _=>rfl) cq aA
   ·rename_i bM ag
    exact(ai.part bM (Ns az _ _ _ ag).1).andThen λE cr bW cq=>ai.mw E cr bW cq
  case mw=>
   intro E k az bz
   rw[mw]
   refine qX az (λx bM aA J=> ?_) (dB.ok az bz)
   refine qX J (λe cr _ bW=> ?_) ?_
   ·refine(wh bW).andThen λm dZ fk gl=> ?_
    exact ai.mw _ dZ fk (MS Zo (λ_=>gl.1.name gl.2) (λa=>absurd rfl a) (λa=>Zo) (λ_=>rfl) (λa=>Zo) (λ_ _=>rfl) bz aA)
   ·refine(wh J).andThen λm dZ fk gl=> ?_
    exact ai.mw _ dZ fk (MS Zo (λ_=>gl.1.name gl.2) (λa=>absurd rfl a) (λa=>Zo) (λ_=>rfl) (λa=>Zo) (λ_ _=>rfl) bz aA)
  case list=>
   intro k az
   rw[list]
   refine qX az (λx bM _ J=>dB.ok J gx.nil) ?_
   exact(ai.arrow k az).andThen λE cr bW cq=>ai.nN _ cr bW (gx.cons cq gx.nil)
  case nN=>
   intro cp k az aA
   rw[nN]
   refine qX az (λx bM _ J=> ?_) ?_
   ·exact(ai.arrow bM J).andThen λE cr bW cq=>ai.nN _ cr bW (gx.app cq aA)
   ·exact(oH az).andThen λ_ bM J _=>dB.ok J aA
  case k2=>
   intro k az
   rw[k2]
   refine(ai.level 0 k az).andThen λE cr bW cq=> ?_
   refine qX bW (λx bM aA J=> ?_) (dB.ok bW cq)
   simp only[]
   split
   ·exact dB.none
   ·rename_i B6
    exact(ai.k2 bM J).andThen λr dZ fk gl=>dB.ok fk (aC8 B6 cq gl aA)
   ·exact dB.bad _
  case arrow=>
   intro k az
   rw[arrow]
   refine(ai.k2 k az).andThen λE cr bW cq=> ?_
   refine qX bW (λx bM aA J=> ?_) (dB.ok bW cq)
   exact(ai.arrow bM J).andThen λr dZ fk gl=>dB.ok fk (ajo (.inr rfl) cq gl aA)
  case part=>
   intro k az
   cases k with
   |nil=>rw[part];exact dB.none
   |cons x k=>
   have ae:=az.aE
   have hI:=az.p7
   rw[part]
   by_cases ku:x.kind=5
   ·rw[Zp ku]
    exact dB.ok hI (ajn (ae.lit ku) (ae.pos (by rw[ku];decide)))
   rw[Zh ku]
   split
   ·rename_i Q
    refine dB.ok hI (ajn ?_ (ae.pos λE=>by simp[E]at Q))
    split
    ·exact bF.c7
    ·exact bF.eZ
   by_cases cX:x.kind=1
   ·rw[Zp cX]
    refine qX hI (λe cr _ J=> ?_) (dB.ok hI (aDb (ae.name cX) (ae.pos (by rw[cX];decide))))
    exact(ai.list cr J).andThen λcp dZ fk gl=>dB.ok fk (aC7 (ae.name cX) gl (ae.pos (by rw[cX];decide)))
   rw[Zh cX]
   by_cases gZ:x.kind=3
   ·rw[Zp gZ]
    refine(oH hI).andThen λ_ cr J _=> ?_
    refine(ai.arrow cr J).andThen λE dZ fk gl=> ?_
    refine(oH fk).andThen λ_ f6 fK _=> ?_
    exact dB.ok fK (MS Zo (λa=>Zo) (λ_=>⟨rfl,rfl⟩) (λ_=>ae.type gZ) (λa=>absurd rfl a) (λa=>Zo) (λ_ _=>rfl) gl (ae.pos (by rw[gZ];decide)))
   rw[Zh gZ]
   split
   ·refine(ai.arrow k hI).andThen λE dZ fk gl=> ?_
    refine(oH fk).andThen λ_ f6 fK _=> ?_
    exact dB.ok fK gl
   split
   ·rename_i Q
    refine(ai.arrow k hI).andThen λE dZ fk gl=> ?_
    refine(oH fk).andThen λ_ f6 fK _=> ?_
    refine(ai.arrow f6 fK).andThen λcG fZ cN cB=> ?_
    refine(oH cN).andThen λ_ l2 e8 _=> ?_
    refine(ai.arrow l2 e8).andThen λfV kR jw jY=> ?_
    exact dB.ok jw (aC9 gl cB jY (ae.pos λE=>by simp[E]at Q))
   split
   ·rename_i Q
    refine(wh hI).andThen λc cr J ax=> ?_
    refine(ai.part cr J).andThen λE dZ fk gl=> ?_
    refine(ai.part dZ fk).andThen λcG f6 fK hX=> ?_
    exact dB.ok fK (aDa (ax.1.name ax.2) gl hX (ae.pos λE=>by simp[E]at Q))
   ·exact dB.bad _
structure qe(bF:i7)(d:ey):Prop where
 name:bF.N d.name
 type:bF.Gq d.ty
 on:d.on≠[]->bF.N d.on
 no:d.on=[]->d.no=false
 R4:bF.A d.at_
 op:bF.A d.eP
structure Jf(bF:i7)(aj:f8):Prop where
 left:∀s∈aj.left,bF.N s
 some:aj.left≠[]
 right:fi bF aj.right
 R4:bF.A aj.at_
 aFn:∀F∈aj.dg,bF.A F
structure oN(bF:i7)(g:Node):Prop where
 name:bF.N g.name
 d3:∀d∈g.d3,qe bF d
 out:∀d∈g.out,qe bF d
 loc:∀d∈g.loc,qe bF d
 some:g.out≠[]
 eqs:∀aj∈g.eqs,Jf bF aj
 R4:bF.A g.at_
def yp(bF:i7)(ci:List Tok):Prop:=∀x∈ci,bF.N x.text/\bF.A x.at_
def yp.app{bF:i7}{x:Tok}{ci:List Tok}(a:yp bF ci)(ae:bF.N x.text/\bF.A x.at_):yp bF (ci++[x]):=by
 intro e B
 rcases Zz.1 B with B|B
 ·exact a e B
 ·simp at B;subst B;exact ae
def ahl{bF:i7}:∀(n:Nat) (cp k:List Tok),hb bF k->yp bF cp->dB bF (λci=>yp bF ci/\ci≠[]) (fh n cp k):=by
 intro n
 induction n with
 |zero=>intro cp k _ _;rw[fh];exact dB.none
 |succ n ai=>
  intro cp k az aA
  rw[fh]
  refine(wh az).andThen λx bM J ae=> ?_
  have aF:=aA.app ⟨ae.1.name ae.2,ae.1.pos (by rw[ae.2];decide)⟩
  refine qX J (λe cr _ Q=>ai _ cr Q aF) (dB.ok J ⟨aF,Zs⟩)
def acy{bF:i7}{w:Option Tok}{k:List Tok}(az:hb bF k):dB bF (λr:aX×Int×Bool=>((r.1≠[]->bF.N r.1)/\(r.1=[]->r.2.2=false))/\bF.A r.2.1) (w5 w k):=by
 unfold w5
 split
 ·exact dB.ok az ⟨⟨λa=>absurd rfl a,λ_=>rfl⟩,bF.a0⟩
 ·refine qX az (λe cr _ Q=> ?_) ?_
  ·exact(wh Q).andThen λx bM J ae=>dB.ok J ⟨⟨λ_=>ae.1.name ae.2,λa=>absurd a (bF.a6 _ (ae.1.name ae.2))⟩,ae.1.pos (by rw[ae.2];decide)⟩
  ·exact(wh az).andThen λx bM J ae=>dB.ok J ⟨⟨λ_=>ae.1.name ae.2,λa=>absurd a (bF.a6 _ (ae.1.name ae.2))⟩,ae.1.pos (by rw[ae.2];decide)⟩
def hb.drop{bF:i7}{k:List Tok}(a:hb bF k)(n:Nat):hb bF (k.drop n):=λx ae=>a x (Y8 ae)
def acx{bF:i7}{loc:Bool}{y:List ey->List Tok->fS (List ey)}{bg:List ey->Prop}{ds:List ey}{k:List Tok}(az:hb bF k)(b3:bg ds)(aH:∀bM,hb bF bM->dB bF bg (y ds bM)):dB bF bg (lv loc y ds k):=by
 unfold lv
 split
 ·exact dB.none
 ·split
  ·split
   ·split
    ·exact dB.none
    ·split
     ·exact dB.ok az b3
     ·exact aH _ (az.drop 1)
   ·exact aH _ (az.drop 1)
  ·exact dB.ok az b3
def SD{bF:i7}{loc:Bool}:∀(n:Nat) (ds:List ey) (k:List Tok),hb bF k->(∀d∈ds,qe bF d)->dB bF (λds=>(∀d∈ds,qe bF d)/\ds≠[]) (ic n loc ds k):=by
 intro n
 induction n with
 |zero=>intro ds k _ _;rw[ic];exact dB.none
 |succ n ai=>
  intro ds k az aE
  rw[ic]
  refine(ahl n [] k az (λ_ a=>by cases a)).andThen λci bM J ae=> ?_
  unfold BA
  refine(oH J).andThen λ_ cr Q _=> ?_
  refine(wh Q).andThen λt dZ ak a8=> ?_
  have pO:∀r:aX×Int×Bool,((r.1≠[]->bF.N r.1)/\(r.1=[]->r.2.2=false))/\bF.A r.2.1->∀d∈ds++ci.map (qo t.ty r.1 r.2.1 r.2.2),qe bF d:=by
   intro r Y d atN
   rcases Zz.1 atN with a|a
   ·exact aE d a
   ·obtain⟨x,HY,rfl⟩:=ZG.1 a
    exact⟨(ae.1 x HY).1,a8.1.type a8.2,Y.1.1,Y.1.2,(ae.1 x HY).2,Y.2⟩
  refine qX ak (λw f6 _ ay=> ?_) ?_
  ·refine(acy ay).andThen λr fZ bt Y=> ?_
   exact acx bt ⟨pO r Y,by simp[ae.2]⟩ (λbM a=>ai _ bM a (pO r Y))
  ·refine(acy ak).andThen λr fZ bt Y=> ?_
   exact acx bt ⟨pO r Y,by simp[ae.2]⟩ (λbM a=>ai _ bM a (pO r Y))
def aqP{bF:i7}(n:Nat){k:List Tok}(az:hb bF k):dB bF (Jf bF) (tf n k):=by
 have qD:∀(ci:List Tok) (k:List Tok),hb bF k->yp bF ci/\ci≠[]->dB bF (Jf bF) (andThen (ee [61] k) λE k=>andThen (arrow n k) λr k=>andThen (ee [59] k) λ_ k=>ok ⟨ci.map Tok.text,ci.map Tok.at_,E.at_,r⟩ k):=by
  intro ci k az ae
  refine(oH az).andThen λE cr Q atU=> ?_
  refine((aov bF n).arrow cr Q).andThen λr dZ ak Y=> ?_
  refine(oH ak).andThen λ_ f6 ay _=>dB.ok ay ⟨?_,by simp[ae.2],Y,atU, ?_⟩
  ·intro s aD
   obtain⟨x,HY,rfl⟩:=ZG.1 aD
   exact(ae.1 x HY).1
  ·intro s aD
   obtain⟨x,HY,rfl⟩:=ZG.1 aD
   exact(ae.1 x HY).2
 have rs:∀x:Tok,Dx bF x/\x.kind=1->yp bF [x]:=λx ae e B=>by simp at B;subst B;exact⟨ae.1.name ae.2,ae.1.pos (by rw[ae.2];decide)⟩
 unfold tf
 refine qX az (λe cr _ Q=> ?_) ?_
 ·refine dB.andThen (bg:=λci=>yp bF ci/\ci≠[]) ?_ qD
  refine(wh Q).andThen λx dZ ak ae=> ?_
  refine(oH ak).andThen λ_ f6 ay _=> ?_
  refine(ahl n [x] f6 ay (rs x ae)).andThen λci fZ bt Cl=> ?_
  exact(oH bt).andThen λ_ l2 b4 _=>dB.ok b4 Cl
 ·refine dB.andThen (bg:=λci=>yp bF ci/\ci≠[]) ?_ qD
  exact(wh az).andThen λx dZ ak ae=>dB.ok ak ⟨rs x ae,Zs⟩
def aqS{bF:i7}:∀(n:Nat) (cT:List f8) (k:List Tok),hb bF k->(∀aj∈cT,Jf bF aj)->dB bF (λcT=>∀aj∈cT,Jf bF aj) (kv n cT k):=by
 intro n
 induction n with
 |zero=>intro cT k _ _;rw[kv];exact dB.none
 |succ n ai=>
  intro cT k az b3
  rw[kv]
  refine qX az (λe cr _ Q=>dB.ok Q b3) ?_
  refine(aqP n az).andThen λaj cr Q avi=>ai _ cr Q ?_
  intro Mm a
  rcases Zz.1 a with a|a
  ·exact b3 Mm a
  ·simp at a;subst a;exact avi
def ayR{bF:i7}(n:Nat){k:List Tok}(az:hb bF k):dB bF (oN bF) (node n k):=by
 unfold node
 refine(oH az).andThen λ_ k J _=> ?_
 refine(wh J).andThen λx k Q ae=> ?_
 refine(oH Q).andThen λ_ k ak _=> ?_
 have qD:∀(d3:List ey) (k:List Tok),hb bF k->(∀d∈d3,qe bF d)->dB bF (oN bF) (andThen (ee [114,101,116,117,114,110,115] k) λ_ k=>andThen (ee [40] k) λ_ k=>andThen (ic n false [] k) λout k=>andThen (ee [41] k) λ_ k=>
  h9 [118,97,114] k λe k=>andThen (match e with
   |some _=>andThen (ic n true [] k) λds k=>andThen (ee [59] k) λ_ k=>ok ds k
   |none=>ok [] k) λloc k=>
  andThen (ee [108,101,116] k) λ_ k=>andThen (kv n [] k) λcT k=>ok ⟨x.text,x.at_,d3,out,loc,cT⟩ k):=by
  intro d3 k az aN
  refine(oH az).andThen λ_ k J _=> ?_
  refine(oH J).andThen λ_ k Q _=> ?_
  refine(SD n [] k Q (λ_ a=>by cases a)).andThen λout k ak bh=> ?_
  refine(oH ak).andThen λ_ k ay _=> ?_
  have Ek:∀(loc:List ey) (k:List Tok),hb bF k->(∀d∈loc,qe bF d)->dB bF (oN bF) (andThen (ee [108,101,116] k) λ_ k=>andThen (kv n [] k) λcT k=>ok ⟨x.text,x.at_,d3,out,loc,cT⟩ k):=by
   intro loc k az auB
   refine(oH az).andThen λ_ k bt _=> ?_
   exact(aqS n [] k bt (λ_ a=>by cases a)).andThen λcT k b4 avk=>dB.ok b4 ⟨ae.1.name ae.2,aN,bh.1,auB,bh.2,avk,ae.1.pos (by rw[ae.2];decide)⟩
  refine qX ay (λe cr _ bt=> ?_) ?_
  ·refine dB.andThen (bg:=λds=>∀d∈ds,qe bF d) ?_ Ek
   refine(SD n [] cr bt (λ_ a=>by cases a)).andThen λds k b4 Ug=> ?_
   exact(oH b4).andThen λ_ k dh _=>dB.ok dh Ug.1
  ·exact dB.andThen (bg:=λds=>∀d∈ds,qe bF d) (dB.ok ay (λ_ a=>by cases a)) Ek
 refine qX ak (λe cr _ ay=> ?_) ?_
 ·exact dB.andThen (bg:=λds=>∀d∈ds,qe bF d) (dB.ok ay (λ_ a=>by cases a)) qD
 ·refine dB.andThen (bg:=λds=>∀d∈ds,qe bF d) ?_ qD
  refine(SD n [] _ ak (λ_ a=>by cases a)).andThen λds k b4 Ug=> ?_
  exact(oH b4).andThen λ_ k dh _=>dB.ok dh Ug.1
def ayU{bF:i7}:∀(n:Nat) (an:List Node) (k:List Tok),hb bF k->(∀g∈an,oN bF g)->dB bF (λan=>(∀g∈an,oN bF g)/\an≠[]) (nR n an k):=by
 intro n
 induction n with
 |zero=>intro an k _ _;rw[nR];exact dB.none
 |succ n ai=>
  intro an k az bP
  rw[nR]
  refine(ayR n az).andThen λg cr Q aud=> ?_
  have KX:∀yS∈an++[g],oN bF yS:=by
   intro yS a
   rcases Zz.1 a with a|a
   ·exact bP yS a
   ·simp at a;subst a;exact aud
  split
  ·exact dB.none
  ·split
   ·exact dB.ok Q ⟨KX,Zs⟩
   ·exact ai _ _ Q KX
end Go.aQ

namespace Go.Proofs.YtpeabpmnlmaabaaGreatDoor
open Go.ba Go.aQ
noncomputable section
structure Gh(s:aX):Prop where
 ne:s≠[]
 len:s.length<=32
 ao0:∀c,s.head?=some c->rx c=true
 all:∀c∈s,jr c=true
 res:s∉wu
 ty:lJ s=none
def RE(t:er)(n:Int):Prop:=lb t=true/\v8 t n=true/\0<=n/\n<18446744073709551616
def auY:v8 ⟨true,false,1⟩ 0=true:=by decide+kernel
def auZ:v8 ⟨true,false,1⟩ 1=true:=by decide+kernel
def kt:i7:=⟨Gh,λt=>lb t=true,RE,λ_ a=>a.ne,rfl,⟨rfl,auY,Zo,Zo⟩,⟨rfl,auZ,Zo,Zo⟩,λ_ _ a=>a.1,λ_=>True,trivial⟩
def Bn(n:Nat):i7:={kt with A:=λF=>0<=F/\F<=n,a0:=⟨Int.le_refl 0,Int.natCast_nonneg n⟩}
def aCr{
 s:aX}{i:Nat}{x:Tok}(a:x8 s i=some x):Dx kt (l9 x i):=by
 unfold x8 at a
 cases ax:s[i]? with
 |none=>rw[ax]at a;cases a
 |some c=>
  rw[ax]at a
  simp only[]at a
  obtain⟨ae,B⟩:=Zb.1 ax
  have aE:s.drop i=c::s.drop (i+1):=by rw[Zr ae,B]
  split at a
  ·unfold Fi at a
   simp only[]at a
   split at a
   ·cases a
   ·have c2:=ah8 ((s.drop i).takeWhile jh)
    split at a
    ·cases a
     exact⟨λa=>by simp[l9]at a,λa=>by simp[l9]at a,λ_=>by simp only[l9];omega,λa=>by simp[l9]at a,λ_=>trivial⟩
    ·split at a
     ·rename_i t a8
      split at a
      ·rename_i gU
       cases a
       simp only[Zq]at gU
       exact⟨λa=>by simp[l9]at a,λa=>by simp[l9]at a,λa=>by simp[l9]at a,λ_=>⟨Xi a8,gU.2,by simp only[l9];omega,by simp only[l9];omega⟩,λ_=>trivial⟩
      ·cases a
     ·cases a
  ·split at a
   ·rename_i ag
    split at a
    ·rename_i az
     cases a
     have bw:(s.drop i).takeWhile jr=c::(s.drop (i+1)).takeWhile jr:=by
      rw[aE,YA]
      have:jr c=true:=by simp[jr,ag]
      simp[this]
     refine⟨λa=> ?_,λa=> ?_,λa=> ?_,λa=> ?_,λ_=>trivial⟩
     ·simp only[l9,u0]at a ⊢
      split at a
      ·cases a
      ·rename_i aF
       split at a
       ·cases a
       ·rename_i Y
        have hI:((s.drop i).takeWhile jr).length<=32:=by simpa[u0]using az
        refine⟨by rw[bw];simp,hI, ?_,aiQ jr _,Y,by simpa using aF⟩
        intro f9 cy
        rw[bw]at cy
        cases cy
        exact ag
     ·simp only[l9,u0]at a ⊢
      split at a
      ·rename_i aF
       cases a8:lJ ((s.drop i).takeWhile jr)with
       |none=>rw[a8]at aF;cases aF
       |some t=>exact Xi a8
      ·split at a<;>cases a
     ·simp only[l9,u0]at a
      split at a
      ·cases a
      ·split at a<;>cases a
     ·simp only[l9,u0]at a
      split at a
      ·cases a
      ·split at a<;>cases a
    ·cases a
   ·cases aD:ww s i with
    |none=>rw[aD]at a;cases a
    |some p=>
     rw[aD]at a
     cases a
     exact⟨λa=>by simp[l9,FF]at a,λa=>by simp[l9,FF]at a,λa=>by simp[l9,FF]at a,λa=>by simp[l9,FF]at a,λ_=>trivial⟩
def aCu{s:aX}:∀(n:Nat) (aU:List Tok) (i:Nat) (lL:List Tok),hb kt aU->rN s n aU i=some (.ok lL)->hb kt lL:=by
 intro n
 induction n with
 |zero=>intro aU i lL _ a;cases a
 |succ n ai=>
  intro aU i lL a8 a
  rw[rN]at a
  split at a
  ·split at a
   ·cases a
   ·rename_i x ae
    refine ai _ _ _ ?_ a
    intro e B
    rcases Zz.1 B with B|B
    ·exact a8 e B
    ·simp at B;subst B;exact aCr ae
  ·cases a
   intro e B
   rcases Zz.1 B with B|B
   ·exact a8 e B
   ·simp at B;subst B;exact⟨λa=>by simp at a,λa=>by simp at a,λa=>by simp at a,λa=>by simp at a,λ_=>trivial⟩
def aCs{s:aX}:∀(n:Nat) (aU:List Tok) (i:Nat) (lL:List Tok),(∀x∈aU,x.kind≠7->0<=x.at_/\x.at_<=s.length)->rN s n aU i=some (.ok lL)->∀x∈lL,x.kind≠7->0<=x.at_/\x.at_<=s.length:=by
 intro n
 induction n with
 |zero=>intro aU i lL _ a;cases a
 |succ n ai=>
  intro aU i lL a8 a
  rw[rN]at a
  split at a
  ·rename_i aN
   split at a
   ·cases a
   ·rename_i x ae
    refine ai _ _ _ ?_ a
    intro e B
    rcases Zz.1 B with B|B
    ·exact a8 e B
    ·simp at B;subst B;intro _;simp only[l9];omega
  ·cases a
   intro e B
   rcases Zz.1 B with B|B
   ·exact a8 e B
   ·simp at B;subst B;intro a;exact absurd rfl a
def azL{s:aX}{an:List Go.aQ.Node}(a:xV s= .ok an):(∀g∈an,oN (Bn s.length) g)/\an≠[]/\qK an=none:=by
 unfold xV at a
 split at a
 ·rename_i r Y
  subst a
  unfold AL at Y
  split at Y
  ·cases Y
  ·cases Y
  ·rename_i aU a8
   have avU:=aCs _ _ _ _ (λ_ a=>by cases a) a8
   have Lv:hb (Bn s.length) aU:=λx ae=>by
    obtain⟨J,Q,ak,ay,_⟩:=aCu _ _ _ _ (λ_ a=>by cases a) a8 x ae
    exact⟨J,Q,ak,ay,avU x ae⟩
   split at Y
   ·cases Y
   ·cases Y
   ·rename_i jo k aF
    obtain⟨J,Q⟩:=ayU (bF:=Bn s.length) _ _ _ Lv (λ_ a=>by cases a) _ _ aF
    split at Y
    ·cases Y
    ·rename_i az
     cases Y
     exact⟨Q.1,Q.2,az⟩
 ·cases a
def ayM{n:Nat}{E:bB}(a:yq (Bn n) E):yq kt E:=⟨trivial,a.bW,a.cq,a.DA,a.nm,a.Qk,a.no,a.ty,a.dQ,a.ahv,a.mQ,a.a6,a.hS⟩
mutual
def ajl{n:Nat}:∀{E:bB},fi (Bn n) E->fi kt E
 | .mk ..,a=>by rw[fi]at a ⊢;exact⟨ayM a.1,ajm a.2⟩
def ajm{n:Nat}:∀{k:List bB},gx (Bn n) k->gx kt k
 |[],_=>gx.nil
 |_::_,a=>by rw[gx]at a;exact gx.cons (ajl a.1) (ajm a.2)
end
def SB{n:Nat}{d:ey}(a:qe (Bn n) d):qe kt d:=⟨a.name,a.type,a.on,a.no,trivial,trivial⟩
def ayO{n:Nat}{g:Go.aQ.Node}(a:oN (Bn n) g):oN kt g:=⟨a.name,λd aE=>SB (a.d3 d aE),λd aE=>SB (a.out d aE),λd aE=>SB (a.loc d aE),a.some,λaj b3=>⟨(a.eqs aj b3).left,(a.eqs aj b3).some,ajl (a.eqs aj b3).right,trivial,λ_ _=>trivial⟩,trivial⟩
def azK{s:aX}{an:List Go.aQ.Node}(a:xV s= .ok an):(∀g∈an,oN kt g)/\an≠[]/\qK an=none:=
 have y:=azL a
 ⟨λg bP=>ayO (y.1 g bP),y.2⟩
mutual
def sG:bB->List bB
 | .mk y F nm no t n args=> .mk y F nm no t n args::xW args
def xW:List bB->List bB
 |[]=>[]
 |E::k=>sG E++xW k
end
mutual
def ajf{gh:Type}(step:gh->bB->gh×Bool)(a:∀s E,(step s E).2=true):∀(E:bB) (s:gh),C7 step s E=(sG E).foldl (λs E=>(step s E).1) s
 | .mk y F nm no t n args,s=>by
   rw[C7,Zp (a _ _),sG,Z0]
   exact ajh step a args _
def ajh{gh:Type}(step:gh->bB->gh×Bool)(a:∀s E,(step s E).2=true):∀(k:List bB) (s:gh),yc step s k=(xW k).foldl (λs E=>(step s E).1) s
 |[],s=>by rw[yc,xW];rfl
 |E::k,s=>by
  rw[yc,xW,List.foldl_append,ajf step a E s]
  exact ajh step a k _
end
def ss(aj:f8):List (aX×Int):=aj.left.zipIdx.map λx=>(x.1,(aj.dg[x.2]?).getD 0)
def oy(t:aX->Option c8)(s:(aX->Option Int)×(Int×Int))(x:aX×Int):(aX->Option Int)×(Int×Int):=(λw=>if w=x.1 then some ((s.1 x.1).getD 0+1)else s.1 w,LX t s.1 s.2 x.1 x.2)
def oC(t:aX->Option c8)(an:List Go.aQ.Node)(y:Nat)(s:(aX->Option Int)×(Int×Int))(aj:f8):(aX->Option Int)×(Int×Int):=
 (((ss aj).foldl (oy t) s).1,QJ t an y ((ss aj).foldl (oy t) s).2 aj.right)
def sM(ad:aX->Option Int)(f:Int×Int)(x:Int×ey):Int×Int:=if x.1≠1/\(ad x.2.name).getD 0=0 then m8 f 37 x.2.at_ else f
def u1(an:List Go.aQ.Node)(y:Nat)(g:Go.aQ.Node):Int×Int:=if (qs an g.name).getD 0<y then m8 (0,0) 24 g.at_ else(0,0)
def rC(an:List Go.aQ.Node)(y:Nat)(g:Go.aQ.Node):Int×Int:=
 (gy g).foldl (sM (g.eqs.foldl (oC (dl g) an y) (λ_=>none,td (dl g) g (u1 an y g))).1) (g.eqs.foldl (oC (dl g) an y) (λ_=>none,td (dl g) g (u1 an y g))).2
def GN(an:List Go.aQ.Node):Nat->List Go.aQ.Node->Int×Int
 |_,[]=>(0,0)
 |y,g::k=>if (rC an y g).1≠0 then rC an y g else GN an (y+1) k
def qm(an:List Go.aQ.Node):Int×Int:=GN an 0 an
def DV(f:Int×Int){c:Int}(F:Int)(ax:c≠0):(m8 f c F).1≠0:=by
 unfold m8
 split
 ·exact ax
 ·rename_i a;exact a
def adm{α:Type}(bad:α->Prop)[DecidablePred bad](c F:α->Int)(ax:∀x,c x≠0):∀(k:List α) (f:Int×Int),(k.foldl (λf x=>if bad x then m8 f (c x) (F x)else f) f).1=0↔f.1=0/\∀x∈k,¬bad x:=by
 intro k
 induction k with
 |nil=>intro f;simp
 |cons x k ai=>
  intro f
  rw[Z0,ai]
  by_cases ag:bad x
  ·have:=DV f (F x) (ax x)
   simp[ag,this]
  ·simp[ag]
def ahj(g:Go.aQ.Node):List aX:=(gy g).map λx=>x.2.name
def aqn{g:Go.aQ.Node}{x:Int×ey}(a:x∈gy g):x.1=1/\x.2∈g.d3\/x.1=2/\x.2∈g.out\/x.1=3/\x.2∈g.loc:=by
 simp only[gy,Zz,ZG]at a
 rcases a with ⟨d,a,rfl⟩|⟨d,a,rfl⟩|⟨d,a,rfl⟩<;>simp[a]
def aqg:∀(k:List (Int×ey)) (s:aX->Option Int) (f:Int×Int),(∀x∈k,0<x.1)->((k.foldl me (s,f)).2.1=0↔f.1=0/\(k.map λx=>x.2.name).Nodup/\∀x∈k,¬0<(s x.2.name).getD 0):=by
 intro k
 induction k with
 |nil=>intro s f _;simp
 |cons x k ai=>
  intro s f aw
  rw[Z0]
  have ae:=aw x (Zv ..)
  rw[show me (s,f) x=((me (s,f) x).1,(me (s,f) x).2) from rfl,ai _ _ (λe B=>aw e (Zu _ B))]
  simp only[me,ZP,zi,Zt,ZG]
  constructor
  ·rintro⟨J,Q,ak⟩
   by_cases ag:0<(s x.2.name).getD 0
   ·rw[Zp ag]at J
    exact absurd J (DV f _ Zd)
   ·rw[Zh ag]at J
    refine⟨J,⟨?_,Q⟩, ?_⟩
    ·rintro⟨e,B,bz⟩
     have:=ak e B
     rw[Zp bz]at this
     exact this (by simpa using ae)
    ·rintro e (rfl|B)
     ·exact ag
     ·have:=ak e B
      split at this
      ·exact absurd ae (by simpa using this)
      ·exact this
  ·rintro⟨J,⟨Q,ak⟩,ay⟩
   have ag:¬0<(s x.2.name).getD 0:=ay x (.inl rfl)
   refine⟨by rw[Zh ag];exact J,ak,λe B=> ?_⟩
   rw[Zh (λE=>Q ⟨e,B,E⟩)]
   exact ay e (.inr B)
def apW{g:Go.aQ.Node}{t:aX->Option c8}{f:Int×Int}:(td t g f).1=0↔f.1=0/\(ahj g).Nodup/\∀x∈gy g,¬(t x.2.on=none/\x.2.on≠[]):=by
 unfold td
 have Q:=adm (λx:Int×ey=>t x.2.on=none/\x.2.on≠[]) (λ_=>23) (λx=>x.2.eP) (λ_=>Zd) (gy g) ((gy g).foldl me (λ_=>none,f)).2
 have ak:(gy g).foldl (r9 t) ((gy g).foldl me (λ_=>none,f)).2=(gy g).foldl (λf x=>if t x.2.on=none/\x.2.on≠[]then m8 f 23 x.2.eP else f) ((gy g).foldl me (λ_=>none,f)).2:=rfl
 rw[ak,Q,aqg _ _ _ (λx ae=>by rcases aqn ae with a|a|a<;>omega)]
 simp[ahj,and_assoc]
def lu(w:aX)(k:List aX):Int:=((k.filter λx=>decide (x=w)).length:Int)
def JN(w x:aX)(k:List aX):lu w (x::k)=(if x=w then 1 else 0)+lu w k:=by
 unfold lu
 rw[List.filter_cons]
 by_cases a:x=w
 ·simp[a];omega
 ·simp[a]
def ack(w:aX):lu w []=0:=rfl
def GP(w:aX)(k:List aX):0<=lu w k:=by unfold lu;omega
def apH(w:aX)(k m:List aX):lu w (k++m)=lu w k+lu w m:=by unfold lu;rw[List.filter_append,ZK];omega
def acj{w:aX}{k:List aX}:0<lu w k↔w∈k:=by
 induction k with
 |nil=>simp[ack]
 |cons x k ai=>
  have:=GP w k
  rw[JN]
  by_cases a:x=w
  ·simp[a];omega
  ·have cy:¬w=x:=λE=>a E.symm
   simp[a,cy,ai]
def ag5(t:aX->Option c8):∀(k:List (aX×Int)) (s:(aX->Option Int)×(Int×Int)) (w:aX),((k.foldl (oy t) s).1 w).getD 0=(s.1 w).getD 0+lu w (k.map Prod.fst):=by
 intro k
 induction k with
 |nil=>intro s w;simp[ack]
 |cons x k ai=>
  intro s w
  rw[Z0,ai,ZP,JN]
  simp only[oy]
  by_cases a:w=x.1
  ·subst a;simp;omega
  ·have cy:¬x.1=w:=λE=>a E.symm
   simp[a,cy]
def ax2(t:aX->Option c8):∀(k:List (aX×Int)) (s:(aX->Option Int)×(Int×Int)),(∀w,0<=(s.1 w).getD 0)->((k.foldl (oy t) s).2.1=0↔s.2.1=0/\∀w∈k.map Prod.fst,∃v,t w=some v/\v.kind≠1/\(s.1 w).getD 0+lu w (k.map Prod.fst)<=1):=by
 intro k
 induction k with
 |nil=>intro s _;simp
 |cons x k ai=>
  intro s aD
  have tF:∀w,0<=((oy t s x).1 w).getD 0:=by
   intro w
   have:=aD w
   have:=aD x.1
   simp only[oy]
   split
   ·simp;omega
   ·assumption
  rw[Z0,ai _ tF]
  have Ck:=aD x.1
  constructor
  ·rintro⟨J,Q⟩
   have ak:s.2.1=0/\∃v,t x.1=some v/\v.kind≠1/\(s.1 x.1).getD 0+1<=1:=by
    simp only[oy,LX]at J
    cases a8:t x.1 with
    |none=>rw[a8]at J;exact absurd J (DV _ _ Zd)
    |some v=>
     rw[a8]at J
     simp only[]at J
     split at J
     ·exact absurd J (DV _ _ Zd)
     ·rename_i b3
      exact⟨J,v,rfl,λE=>b3 (.inl E),by have:¬1<(s.1 x.1).getD 0+1:=λE=>b3 (.inr E);omega⟩
   refine⟨ak.1,λw bw=> ?_⟩
   rw[ZP,Zt]at bw
   rw[ZP,JN]
   by_cases Cj:w=x.1
   ·subst Cj
    obtain⟨v,ay,bt,b4⟩:=ak.2
    refine⟨v,ay,bt, ?_⟩
    by_cases bo:x.1∈k.map Prod.fst
    ·obtain⟨hj,_,_,dh⟩:=Q _ bo
     simp only[oy,ZE,YG]at dh ⊢
     omega
    ·have:¬0<lu x.1 (k.map Prod.fst):=λE=>bo (acj.1 E)
     have:=GP x.1 (k.map Prod.fst)
     simp only[ZE]
     omega
   ·rcases bw with bw|bw
    ·exact absurd bw Cj
    ·obtain⟨v,ay,bt,b4⟩:=Q _ bw
     have Vn:¬x.1=w:=λE=>Cj E.symm
     simp only[oy,Cj,ZC]at b4
     exact⟨v,ay,bt,by simp only[Vn,ZC];omega⟩
  ·rintro⟨J,Q⟩
   obtain⟨v,ay,bt,b4⟩:=Q x.1 Zs
   rw[ZP,JN,Zp rfl]at b4
   have ax:=GP x.1 (k.map Prod.fst)
   refine⟨?_,λw bw=> ?_⟩
   ·simp only[oy,LX,ay]
    rw[Zh (by rintro(E|E);exact bt E;omega)]
    exact J
   ·obtain⟨hj,bW,cq,cS⟩:=Q w (by rw[ZP];exact Zu _ bw)
    refine⟨hj,bW,cq, ?_⟩
    rw[ZP,JN]at cS
    simp only[oy]
    by_cases Cj:w=x.1
    ·subst Cj;simp only[ZE,YG];simp only[ZE]at cS;omega
    ·have Vn:¬x.1=w:=λE=>Cj E.symm
     simp only[Cj,ZC];simp only[Vn,ZC]at cS;omega
def agQ(aj:f8):(ss aj).map Prod.fst=aj.left:=by
 simp only[ss,YH]
 have:(Prod.fst∘λx:aX×Nat=>(x.1,(aj.dg[x.2]?).getD 0))=Prod.fst:=rfl
 rw[this]
 exact List.zipIdx_map_fst ..
def Jo(t:aX->Option c8)(an:List Go.aQ.Node)(y:Nat)(E:bB):Prop:=∀x∈sG E,(wp x=true->(t x.name).isSome=true)/\(x.kind=25->∃T,qs an x.name=some T/\T<y)
def aAL{t:aX->Option c8}{an:List Go.aQ.Node}{y:Nat}{f:Int×Int}{E:bB}:(QJ t an y f E).1=0↔f.1=0/\Jo t an y E:=by
 unfold QJ Jo
 rw[ajf _ (λ_ _=>rfl)]
 generalize sG E=k
 induction k generalizing f with
 |nil=>simp
 |cons x k ai=>
  rw[Z0,ai]
  have J:(ua t an y f x).1.1=0↔f.1=0/\(wp x=true->(t x.name).isSome=true)/\(x.kind=25->∃T,qs an x.name=some T/\T<y):=by
   simp only[ua,IK]
   have Q:(xY t f x).1=0↔f.1=0/\(wp x=true->(t x.name).isSome=true):=by
    unfold xY
    by_cases a:wp x=true
    ·rw[Zp a]
     by_cases cy:(t x.name).isSome=true
     ·rw[Zp cy];simp[cy]
     ·rw[Zh cy];simp[a,cy,DV]
    ·rw[Zh a];simp[a]
   by_cases tl:x.kind=25
   ·rw[Zp tl]
    cases cb:qs an x.name with
    |none=>simp[DV,tl]
    |some T=>
     simp only[]
     by_cases aH:y<=T
     ·rw[Zp aH]
      have:¬T<y:=Zo
      simp[DV,tl,this]
     ·rw[Zh aH,Q]
      have:T<y:=Zo
      simp[tl,this]
   ·rw[Zh tl,Q];simp[tl]
  rw[J]
  simp only[Zt,forall_eq_or_imp,and_assoc]
def WE(t:aX->Option c8)(an:List Go.aQ.Node)(y:Nat):∀(k:List f8) (s:(aX->Option Int)×(Int×Int)),(∀w,0<=(s.1 w).getD 0)->((k.foldl (oC t an y) s).2.1=0↔s.2.1=0/\(∀w∈k.flatMap f8.left,∃v,t w=some v/\v.kind≠1/\(s.1 w).getD 0+lu w (k.flatMap f8.left)<=1)/\∀aj∈k,Jo t an y aj.right):=by
 intro k
 induction k with
 |nil=>intro s _;simp
 |cons aj k ai=>
  intro s aD
  have tF:∀w,0<=((oC t an y s aj).1 w).getD 0:=by
   intro w
   simp only[oC]
   rw[ag5]
   have:=aD w
   have:=GP w ((ss aj).map Prod.fst)
   omega
  rw[Z0,ai _ tF]
  have bD:(oC t an y s aj).2.1=0↔(s.2.1=0/\∀w∈aj.left,∃v,t w=some v/\v.kind≠1/\(s.1 w).getD 0+lu w aj.left<=1)/\Jo t an y aj.right:=by
   simp only[oC]
   rw[aAL,ax2 t _ _ aD,agQ]
  have cG:∀w,((oC t an y s aj).1 w).getD 0=(s.1 w).getD 0+lu w aj.left:=by
   intro w
   simp only[oC]
   rw[ag5,agQ]
  rw[bD]
  simp only[cG,YR,apH,Zz,Zt,forall_eq_or_imp]
  constructor
  ·rintro⟨⟨⟨J,Q⟩,ak⟩,ay,bt⟩
   refine⟨J,λw bw=> ?_,ak,bt⟩
   by_cases bo:w∈k.flatMap f8.left
   ·obtain⟨v,bW,cq,cS⟩:=ay w bo
    exact⟨v,bW,cq,Zo⟩
   ·have aY:¬0<lu w (k.flatMap f8.left):=λE=>bo (acj.1 E)
    have:=GP w (k.flatMap f8.left)
    obtain⟨v,bW,cq,cS⟩:=Q w (bw.resolve_right bo)
    exact⟨v,bW,cq,Zo⟩
  ·rintro⟨J,Q,ak,ay⟩
   refine⟨⟨⟨J,λw bw=> ?_⟩,ak⟩,λw bw=> ?_,ay⟩
   ·obtain⟨v,bW,cq,cS⟩:=Q w (.inl bw)
    have:=GP w (k.flatMap f8.left)
    exact⟨v,bW,cq,Zo⟩
   ·obtain⟨v,bW,cq,cS⟩:=Q w (.inr bw)
    exact⟨v,bW,cq,Zo⟩
def Xp(ad:aX->Option Int)(k:List (Int×ey))(f:Int×Int):(k.foldl (sM ad) f).1=0↔f.1=0/\∀x∈k,¬(x.1≠1/\(ad x.2.name).getD 0=0):=
 adm (λx:Int×ey=>x.1≠1/\(ad x.2.name).getD 0=0) (λ_=>37) (λx=>x.2.at_) (λ_=>Zd) k f
section
variable{X:ch}{h S' eF aK aJ:R af}{j am aM aR:Nat}
structure yo(X:ch)(f2:R af)(d9 bO dd:Nat)(p:D)(y:Int)(b8:D)(f:Int×Int)(ad:aX->Option Int)(h:R af)(n:Nat):Prop where
 le:d9<=n
 kc:gr X h bO p y b8 (.map dd) f
 lu:n6 X h dd (oX ad)
 low:∀e,e<d9->e≠bO->e≠dd->U X h e=U X f2 e
def yo.aa{f2:R af}{d9 bO dd:Nat}{p b8:D}{y:Int}{f:Int×Int}{ad:aX->Option Int}(a:yo X f2 d9 bO dd p y b8 f ad aK aM)(iF:bO<d9)(xA:dd<d9)(aF:aM<=aR)(aH:∀e,e<aM->U X aJ e=U X aK e):yo X f2 d9 bO dd p y b8 f ad aJ aR:=by
 have f4:=a.le
 refine⟨Zo, ?_,a.lu.aa (aH _ Zo),λe J Q ak=>by rw[aH e Zo];exact a.low e J Q ak⟩
 have:=a.kc
 unfold gr at*
 rw[aH _ Zo];exact this
def DE(aj:f8)(i:Nat):Int:=(aj.dg[i]?).getD 0
def axI{aj:f8}{i:Nat}{w:aX}(a:aj.left[i]? =some w):(ss aj)[i]? =some (w,DE aj i):=by
 unfold ss
 rw[Zw,Xz a];rfl
def axJ(aj:f8):(ss aj).length=aj.left.length:=by simp[ss]
def apv(au:di X){P:Nat->Prop}{bO dd:Nat}{p b8:D}{y:Nat}{an:List Go.aQ.Node}{g:Go.aQ.Node}(aF:(o X).a6<=j)(iF:(o X).a6<=bO)(xu:(o X).a6<=dd)(y8:bO<j)(xv:dd<j)(uL:bO≠dd)
 (bq:∀e,P e->e<j/\e≠bO/\e≠dd)(bP:oO X h P an p)(aH:an[y]? =some g)(a8:ia X h P b8 (dl g))(ax:gr X h bO p y b8 (.map dd) (0,0))(fX:n6 X h dd (oX λ_=>none)):
 aW X 53 [.ptr bO 0] h j (λac S' am=>ac= .tuple []/\gr X S' bO p y b8 (.map dd) (rC an y g)/\j<=am/\∀e,e<j->e≠bO->e≠dd->U X S' e=U X h e) (λ_ _ _=>False):=by
 refine JJ (amj X) (au.none _ _ rfl) ?_
 rw[amk]
 unfold aaC
 obtain⟨jv,IC,Qy,aFz,rfl,od,ahN,afG,afF⟩:=id bP
 have Lg:=afF.wide
 have aD5:=(Zb.1 aH).1
 obtain⟨row,fb,jH⟩:=afF.get y g aH
 have tB:=jH
 have jI:=jH.ju
 obtain⟨c5,dt,aS,eM,bZ,cu,c0,fE,bL,rfl,mH,k5,oj,jp,e6⟩:=jH
 have au6:=bq jv od
 have dH:aI X h (.ptr bO 0)=some (.ptr jv 0):=by unfold gr at ax;rw[bp ax];rfl
 have cX:aI X h (.ptr bO 1)=some (.Z (y:Int)):=by unfold gr at ax;rw[bp ax];rfl
 have dw:=afG.fI y (by rw[Lg.1];omega)
 refine pI ⟨?_⟩
 generalize de:bi X h j _=aK
 have jb:U X aK j=zu [.ptr bO 0] 1:=by rw[<-de,bb aF];rfl
 have bH:bf X h j aK (j+1):=by rw[<-de];exact dA
 clear de
 have l1:∀e,P e->U X aK e=U X h e:=λe B=>bH.aa e (bq e B).1
 rw[<-bH.ep _ _ y8]at dH cX
 rw[<-bH.ep _ _ au6.1]at ahN
 have hs:=(afG.aa l1).row Zd fb
 refine gm (bp jb) @dH (Za @cX (Za @ahN (Za @dw @hs))) ⟨?_⟩
 refine f7 (iJ (y:=6) (b:=j+1+13) (V:=0) (n:=6) (c:=R.ofList [.str [], .Z 0, .aT, .aT, .aT, .aT] 0 .nil) (bb Zo) Zo rfl Zd Zd jI) ?_
 generalize dO:bi X _ (j+1+13) _=aJ
 have b1:U X aJ (j+1+13)=zu [.str g.name, .Z g.at_,c5,dt,aS,eM] 6:=by rw[<-dO,bb Zo];rfl
 have bC:bf X aK (j+1) aJ (j+1+14):=by rw[<-dO];exact dA
 clear dO
 rw[<-bC.aa _ Zo]at jb
 have hp:bf X h j aJ (j+1+14):=⟨Zo,λe B=>by rw[bC.aa e Zo,bH.aa e B]⟩
 have nl:∀e,P e->U X aJ e=U X h e:=λe B=>hp.aa e (bq e B).1
 rw[<-bC.ep _ _ Zo]at dH cX
 refine gm (bp jb) @dH (bp b1) ⟨?_⟩
 refine(S5 (j:=j+1+15+12) (h:=aJ) au Zo (bP.aa (bg:=P) nl (λ_ a=>a)) (λe B=>zq (bq e B).1) g.name).Zm ?_
 rintro ac a1 bn ⟨rfl,ck⟩
 have jf:=ck.le
 rw[<-ck.aa _ Zo]at jb b1
 rw[<-ck.ep _ _ Zo]at dH cX
 have pK:bf X h j a1 bn:=⟨Zo,λe B=>by rw[ck.aa e Zo,hp.aa e B]⟩
 have iT:∀e,P e->U X a1 e=U X h e:=λe B=>pK.aa e (bq e B).1
 have y1:yo X a1 bn bO dd (.ptr jv 0) y b8 (0,0) (λ_=>none) a1 bn:=⟨Zj _,by unfold gr at*;rw[pK.aa _ y8];exact ax,fX.aa (pK.aa _ xv),λ_ _ _ _=>rfl⟩
 generalize Lt:(qs an g.name).getD 0=QZ
 have g6:u1 an y g=if QZ<y then m8 (0,0) 24 g.at_ else(0,0):=by unfold u1;rw[Lt]
 refine gm (bp jb) @dH @cX ⟨?_⟩
 refine jW (λc3 S' aP=>c3.g 1=some (.ptr j 0)/\c3.g 2=some (.ptr (j+1+13) 0)/\c3.bd=[]/\yo X a1 bn bO dd (.ptr jv 0) y b8 (u1 an y g) (λ_=>none) S' aP) (λT bJ=> ?_) ?_
 ·by_cases c2:QZ<y
  ·have aB:=zs QZ y
   rw[Zp c2]at g6
   refine ed @aB (bp jb) (bp b1) ⟨?_⟩
   refine(w2 (h:=a1) au iF y1.kc 24 g.at_).Zm ?_
   rintro ac bA cv ⟨rfl,vN,iG,fH⟩
   refine cI ⟨?_⟩
   exact bJ _ _ _ ⟨be,be,rfl,Zo,by rw[g6];exact vN,y1.lu.aa (fH _ (λE=>uL E.symm)),λe J Q ak=>fH e Q⟩
  ·have aB:=zr QZ y
   rw[Zh c2]at g6
   refine ce @aB ⟨?_⟩
   exact bJ _ _ _ ⟨be,be,rfl,by rw[g6];exact y1⟩
 rintro H bA cv ⟨t1,ew,kY,o3⟩
 have iG:=o3.le
 have arz:U X bA j=zu [.ptr bO 0] 1:=by rw[o3.low _ Zo Zo Zo];exact jb
 have arE:U X bA (j+1+13)=zu [.str g.name, .Z g.at_,c5,dt,aS,eM] 6:=by rw[o3.low _ Zo Zo Zo];exact b1
 have mo:∀e,P e->U X bA e=U X h e:=λe B=>by have:=bq e B;rw[o3.low e Zo this.2.1 this.2.2,iT e B]
 show cz _ _
 refine gm @t1 @ew (Za (bp arz) (bp arE)) ⟨?_⟩
 refine(apY (j:=cv) (h:=bA) au Zo iF Zo (λe B=>⟨zq (bq e B).1,(bq e B).2.1⟩) (a8.aa (bg:=P) mo (λ_ a=>a)) o3.kc (tB.aa (bg:=P) mo (λ_ a=>a)) trivial).Zm ?_
 rintro ac bN cf ⟨rfl,Ec,iH,nd⟩
 have hH:yo X a1 bn bO dd (.ptr jv 0) y b8 (td (dl g) g (u1 an y g)) (λ_=>none) bN cf:=⟨Zo,Ec,o3.lu.aa (nd _ Zo (λE=>uL E.symm)),λe J Q ak=>by rw[nd e Zo Q];exact o3.low e J Q ak⟩
 have arF:U X bN (j+1+13)=zu [.str g.name, .Z g.at_,c5,dt,aS,eM] 6:=by rw[hH.low _ Zo Zo Zo];exact b1
 have j4:=e6.wide
 have d2:=jp.len
 have ik:=jp.many
 rw[j4.1]at d2 ik
 have UJ:rC an y g=(gy g).foldl (sM (g.eqs.foldl (oC (dl g) an y) (λ_=>none,td (dl g) g (u1 an y g))).1) (g.eqs.foldl (oC (dl g) an y) (λ_=>none,td (dl g) g (u1 an y g))).2:=rfl
 generalize PA:((λ_=>none,td (dl g) g (u1 an y g)):(aX->Option Int)×(Int×Int))=p4 at UJ
 have as0:yo X a1 bn bO dd (.ptr jv 0) y b8 p4.2 p4.1 bN cf:=by rw[<-PA];exact hH
 have ir:∀w,0<=(p4.1 w).getD 0/\(p4.1 w).getD 0<=((0:Nat):Int)*1048576:=by intro w;rw[<-PA];simp
 refine gm @ew (bp arF) @d2 ⟨?_⟩
 refine gk ?_
 refine fp (λm H S' aP=>∃(T:Nat),H.g 1=some (.ptr j 0)/\H.g 2=some (.ptr (j+1+13) 0)/\H.bd=[]/\H.g 49=some eM/\H.g 50=some (.Z (g.eqs.length:Int))/\H.g 51=some (.Z (T:Int))/\T+m=g.eqs.length
  /\yo X a1 bn bO dd (.ptr jv 0) y b8 ((g.eqs.take T).foldl (oC (dl g) an y) p4).2 ((g.eqs.take T).foldl (oC (dl g) an y) p4).1 S' aP/\(∀w,0<=(((g.eqs.take T).foldl (oC (dl g) an y) p4).1 w).getD 0/\(((g.eqs.take T).foldl (oC (dl g) an y) p4).1 w).getD 0<=(T:Int)*1048576))
  g.eqs.length ⟨0,aZ t1,aZ ew,kY,be,be,fO,Zo,as0,ir⟩ ?_
 clear t1 ew kY
 rintro m H bY dv ⟨T,t1,ew,kY,sK,wy,wz,bJ,h3,aer⟩
 have o7:=h3.le
 have arA:U X bY j=zu [.ptr bO 0] 1:=by rw[h3.low _ Zo Zo Zo];exact jb
 have th:U X bY (j+1+13)=zu [.str g.name, .Z g.at_,c5,dt,aS,eM] 6:=by rw[h3.low _ Zo Zo Zo];exact b1
 have qI:∀e,P e->U X bY e=U X h e:=λe B=>by have:=bq e B;rw[h3.low e Zo this.2.1 this.2.2,iT e B]
 cases m with
 |zero=>
  have aB:=zr T g.eqs.length
  rw[ZB Zo]at h3
  generalize g.eqs.foldl (oC (dl g) an y) p4=G at h3 UJ
  refine gb @wz @wy @ew @aB (bp th) ⟨?_⟩
  refine(NV au Zo).Zm ?_
  rintro ac cn d8 ⟨rfl,rfl,eA,cB,ea,fQ⟩
  generalize B7:dv+1=dX at*
  have rz:∀e,P e->U X cn e=U X h e:=λe B=>by rw[eA.aa e (zq (bq e B).1),qI e B]
  have B2:gr X cn bO (.ptr jv 0) y b8 (.map dd) G.2:=by have:=h3.kc;unfold gr at*;rw[eA.aa bO Zo];exact this
  have aoR:U X cn j=zu [.ptr bO 0] 1:=by rw[eA.aa _ Zo];exact arA
  refine gk ?_
  refine NW (P:=P) (g:=g) (bZ:=bZ) (cu:=cu) (c0:=c0) (c5:=c5) (dt:=dt) (aS:=aS) au (λi S' aP=>sX X cn dX bO dd (.ptr jv 0) y b8 (.map dd) (((gy g).take i).foldl (sM G.1) G.2) G.1 S' aP) Zo Zo Zo Zo
   (mH.aa rz) (k5.aa rz) (oj.aa rz) cB ea fQ (λi S' aP a=>⟨a.le,λe B=>a.low e (zq (bq e B).1) (bq e B).2.1 (bq e B).2.2⟩)
   (λi aK aM aJ aR a f4 aH=>a.aa Zo Zo f4 aH) (λS' bT=>⟨Zj _,by unfold gr at*;rw[bT.aa _ Zo];exact B2,(h3.lu.aa (eA.aa _ Zo)).aa (bT.aa _ Zo),λe B _ _=>bT.aa e B⟩) ?_ ?_
  ·intro mk i eV d dC iw aN jd yT ar9
   rw[BJ (sM G.1) _ aN]
   generalize ((gy g).take i).foldl (sM G.1) G.2=b9 at jd ⊢
   have Ae:=jd.le
   have je:d6 d=[.str d.name, .Z d.at_, .bool d.ty.b, .bool d.ty.s, .Z d.ty.w, .str d.on, .Z d.eP, .bool d.no]:=rfl
   rw[je]
   unfold tZ
   refine cI ⟨?_⟩
   generalize uJ:bi X _ iw _=dW
   have na:U X dW iw=zu [.str d.name, .Z d.at_, .bool d.ty.b, .bool d.ty.s, .Z d.ty.w, .str d.on, .Z d.eP, .bool d.no] 8:=by rw[<-uJ,bb Zo];rfl
   have he:∀e,e<iw->U X dW e=U X dC e:=λe B=>by rw[<-uJ];exact zw
   clear uJ
   refine⟨by rw[he _ Zo];exact ar9, ?_⟩
   generalize sg:bi X dW (dX+1) _=f2
   have gc:U X f2 (dX+1)=some (mk .busy none):=by rw[<-sg,bb Zo]
   have js:∀e,e≠dX+1->U X f2 e=U X dW e:=λe B=>by rw[<-sg,aC Zo B]
   clear sg
   have qu:=jd.aa (aJ:=f2) (aR:=iw+1) Zo Zo Zo (λe J Q=>by rw[js e Q,he e J])
   rw[<-js _ Zo]at na
   have Tm:U X f2 dX=some (.deferred (some [])):=by rw[js _ Zo,he _ Zo];exact yT
   have b7:aI X f2 (.ptr j 0)=some (.ptr bO 0):=by rw[bp (show U X f2 j=_ by rw[qu.low _ Zo Zo Zo];exact aoR)];rfl
   have dZ:aI X f2 (.ptr bO 3)=some (.map dd):=by have:=qu.kc;unfold gr at this;rw[bp this];rfl
   have jU:mN X f2 9 (.Z 0) (.map dd) (.str d.name) false=some (.Z ((G.1 d.name).getD 0)):=by
    rw[CC qu.seen];unfold oX;cases G.1 d.name<;>rfl
   have ki:∀S' aP,sX X cn dX bO dd (.ptr jv 0) y b8 (.map dd) (sM G.1 b9 (eV,d)) G.1 S' aP->U X S' dX=some (.deferred (some []))->(D.bool true=D.bool true/\sX X cn dX bO dd (.ptr jv 0) y b8 (.map dd) (sM G.1 b9 (eV,d)) G.1 (bi X S' (dX+1) (some (mk .ready none))) aP/\U X (bi X S' (dX+1) (some (mk .ready none))) dX=some (.deferred (some []))/\U X (bi X S' (dX+1) (some (mk .ready none))) (dX+1)=some (mk .ready none)):=λS' aP a Q=>
    ⟨rfl,a.aa Zo Zo (Zj _) (λe J Q=>aC Zo Q),by rw[aC Zo Zo];exact Q,bb Zo⟩
   refine pI ⟨?_⟩
   refine gk ?_
   by_cases lA:eV=1
   ·have aB:decide (eV≠1)=false:=by simp[lA]
    have qy:sM G.1 b9 (eV,d)=b9:=by unfold sM;rw[Zh (by simp[lA])]
    refine ce @aB ⟨?_⟩
    rw[qy]at ki ⊢
    exact⟨⟨.busy,none,gc⟩,ki _ _ (qu.aa Zo Zo Zo (λ_ _ _=>rfl)) Tm⟩
   ·have aB:decide (eV≠1)=true:=by simp[lA]
    by_cases cm:(G.1 d.name).getD 0=0
    ·have yL:decide ((G.1 d.name).getD 0=0)=true:=by simp[cm]
     have qy:sM G.1 b9 (eV,d)=m8 b9 37 d.at_:=by unfold sM;rw[Zp ⟨lA,cm⟩]
     refine et @aB @t1 @b7 @dZ (bp na) @jU @yL ⟨?_⟩
     refine(w2 (h:=f2) au iF qu.kc 37 d.at_).Zm ?_
     rintro ac q2 sA ⟨rfl,Ua,afc,vV⟩
     refine cI ⟨?_⟩
     rw[qy]at ki ⊢
     have K2:=qu.le
     exact⟨⟨.busy,none,by rw[vV _ Zo];exact gc⟩,ki _ _ ⟨Zo,Ua,qu.seen.aa (vV _ Zo),λe J Q ak=>by rw[vV e Q];exact qu.low e J Q ak⟩ (by rw[vV _ Zo];exact Tm)⟩
    ·have yL:decide ((G.1 d.name).getD 0=0)=false:=by simp[cm]
     have qy:sM G.1 b9 (eV,d)=b9:=by unfold sM;rw[Zh (λa=>cm a.2)]
     refine et @aB @t1 @b7 @dZ (bp na) @jU @yL ⟨?_⟩
     rw[qy]at ki ⊢
     exact⟨⟨.busy,none,gc⟩,ki _ _ (qu.aa Zo Zo Zo (λ_ _ _=>rfl)) Tm⟩
  ·intro dC iw jd yT
   rw[YX]at jd
   have Ae:=jd.le
   rw[<-UJ]at jd
   show nV X [] _ _ _ _ _
   simp only[AD,x1,kY]
   refine⟨by show(o X).a6<=dX;omega,yT, ?_⟩
   show rI _ _ _ _ _
   refine⟨rfl, ?_,Zo,λe J Q ak=> ?_⟩
   ·have:=jd.kc
    unfold gr at*
    rw[aC Zo Zo];exact this
   ·rw[aC Zo Zo,jd.low e Zo Q ak,eA.aa e Zo,h3.low e Zo Q ak,pK.aa e J]
 |succ m=>
  have aB:=zs T g.eqs.length
  have bD:=zv T
  obtain⟨aj,b3⟩:=zt g.eqs T
  obtain⟨QF,avj,tD⟩:=e6.get T aj b3
  have dw:=jp.fI T (by rw[j4.1];omega)
  have hs:=(jp.aa qI).row Zd avj
  obtain⟨qQ,sH,aDA,aDB,kF,rfl,it,mK,pa,rt⟩:=tD
  have Ca:=it.len
  have Cb:=it.many
  have Pp:=mK.1.len
  have avg:=mK.1.many
  rw[show(fL aj.left).length=aj.left.length from by simp[fL]]at Ca Cb
  rw[Zi]at Pp avg
  have dj:=BJ (oC (dl g) an y) p4 b3
  generalize atf:(g.eqs.take T).foldl (oC (dl g) an y) p4=IQ at h3 dj aer
  refine ih @wz @wy @sK @aB @dw @hs ⟨?_⟩
  refine f7 (iJ (y:=4) (b:=dv) (V:=0) (n:=4) (c:=R.ofList [.aT, .aT, .Z 0, .cF] 0 .nil) (bb Zo) Zo rfl Zd Zd rt) ?_
  generalize kO:bi X _ dv _=cn
  have ek:U X cn dv=zu [qQ,sH, .Z aj.at_,kF] 4:=by rw[<-kO,bb Zo];rfl
  have fJ:∀e,e<dv->U X cn e=U X bY e:=λe B=>by rw[<-kO];exact zw
  clear kO
  have sf:=h3.aa (aJ:=cn) (aR:=dv+1) Zo Zo Zo (λe J=>fJ e J)
  refine Ob (bp ek) @Ca ⟨?_⟩
  refine gk ?_
  refine fp (λgH H S' aP=>∃(i:Nat),H.g 1=some (.ptr j 0)/\H.g 2=some (.ptr (j+1+13) 0)/\H.bd=[]/\H.g 49=some eM/\H.g 50=some (.Z (g.eqs.length:Int))/\H.g 51=some (.Z (T:Int))/\H.g 6=some (.ptr dv 0)/\H.g 56=some qQ/\H.g 57=some (.Z (aj.left.length:Int))/\H.g 58=some (.Z (i:Int))/\i+gH=aj.left.length
   /\yo X a1 bn bO dd (.ptr jv 0) y b8 (((ss aj).take i).foldl (oy (dl g)) IQ).2 (((ss aj).take i).foldl (oy (dl g)) IQ).1 S' aP/\(∀w,0<=((((ss aj).take i).foldl (oy (dl g)) IQ).1 w).getD 0/\((((ss aj).take i).foldl (oy (dl g)) IQ).1 w).getD 0<=(T:Int)*1048576+i)
   /\dv+1<=aP/\U X S' dv=zu [qQ,sH, .Z aj.at_,kF] 4)
   aj.left.length ⟨0,aZ t1,aZ ew,kY,aZ sK,aZ wy,aZ wz,be,be,be,fO,Zo,sf,λw=>by simpa using aer w,Zo,ek⟩ ?_
  clear t1 ew kY sK wy wz
  rintro gH c3 dC iw ⟨i,t1,ew,kY,sK,wy,wz,t6,p6,AV,wA,aN,jd,qx,aEF,fN⟩
  have Ae:=jd.le
  have adq:U X dC j=zu [.ptr bO 0] 1:=by rw[jd.low _ Zo Zo Zo];exact jb
  have Ct:∀e,P e->U X dC e=U X h e:=λe B=>by have:=bq e B;rw[jd.low e Zo this.2.1 this.2.2,iT e B]
  cases gH with
  |zero=>
   have eY:=zr i aj.left.length
   rw[ZB (by rw[axJ];omega)]at jd qx
   refine et @wA @AV @t1 @t6 @eY (bp adq) (bp fN) ⟨?_⟩
   refine(aAM (j:=iw) (h:=dC) au Zo iF Zo (λe B=>⟨zq (bq e B).1,(bq e B).2.1⟩) (a8.aa (bg:=P) Ct (λ_ a=>a)) (bP.aa (bg:=P) Ct (λ_ a=>a)) jd.kc (cE.aa Ct _ _ pa)).Zm ?_
   rintro ac dW d4 ⟨rfl,T9,pQ,rq⟩
   refine cL @wz @bD ⟨?_⟩
   refine⟨m,Zo,T+1,aZ t1,aZ ew,kY,aZ sK,aZ wy,be,Zo, ?_, ?_⟩
   ·rw[dj]
    exact⟨Zo,T9,jd.lu.aa (rq _ Zo (λE=>uL E.symm)),λe J Q ak=>by rw[rq e Zo Q];exact jd.low e J Q ak⟩
   ·rw[dj]
    intro w
    have:=qx w
    simp only[oC]
    constructor
    ·exact this.1
    ·have Q:=this.2
     have ak:i<=1048576:=Zo
     push_cast
     omega
  |succ gH=>
   have eY:=zs i aj.left.length
   have cG:=zv i
   obtain⟨w,bw⟩:=zt aj.left i
   have tz:=it.fI i (by simp[fL];omega)
   have g1:=(it.aa Ct).cell i [.str w] 0 (.str w) (by unfold fL;rw[Zw,bw];rfl) rfl
   rw[Z5]at tz
   rw[Z5,ZX]at g1
   have Ch:=BJ (oy (dl g)) IQ (axI bw)
   generalize ate:((ss aj).take i).foldl (oy (dl g)) IQ=po at jd Ch qx
   have atB:=qx w
   refine gm @wA @AV (Za @p6 (Za @t6 (Za @eY (Za @tz (Za @g1 (Za (bp fN) @Pp)))))) ⟨?_⟩
   refine gk ?_
   refine gm @wA @AV (Za @p6 (Za @t6 (Za @eY (Za @tz (Za @g1 (Za (bp fN) @Pp)))))) ⟨?_⟩
   refine gk ?_
   refine gm @wA @AV (Za @p6 (Za @t6 (Za @eY (Za @tz (Za @g1 (Za (bp fN) @Pp)))))) ⟨?_⟩
   refine jW (λs6 S' aP=>s6.g 1=some (.ptr j 0)/\s6.g 2=some (.ptr (j+1+13) 0)/\s6.bd=[]/\s6.g 49=some eM/\s6.g 50=some (.Z (g.eqs.length:Int))/\s6.g 51=some (.Z (T:Int))/\s6.g 6=some (.ptr dv 0)/\s6.g 56=some qQ/\s6.g 57=some (.Z (aj.left.length:Int))/\s6.g 58=some (.Z (i:Int))/\s6.g 8=some (.str w)/\s6.g 9=some (.Z (DE aj i))/\S'=dC/\aP=iw) (λagq Hz=> ?_) ?_
   ·by_cases KZ:i<aj.dg.length
    ·have ja:=zs i aj.dg.length
     obtain⟨F,aA⟩:∃F,aj.dg[i]? =some F:=⟨_,Ze KZ⟩
     have O7:=mK.1.fI i (by rw[Zi];exact KZ)
     have aey:=(mK.1.aa Ct).cell i [LF F] 0 (LF F) (by rw[Zw,aA];rfl) rfl
     rw[Z5]at O7
     rw[Z5,ZX]at aey
     have nH:DE aj i=F:=by unfold DE;rw[aA];rfl
     refine gb @ja @t6 (bp fN) @O7 @aey ⟨?_⟩
     exact Hz _ _ _ ⟨aZ t1,aZ ew,kY,aZ sK,aZ wy,aZ wz,aZ t6,aZ p6,aZ AV,aZ wA,be,by refine BK ⟨?_⟩;rw[nH];rfl,rfl,rfl⟩
    ·have ja:=zr i aj.dg.length
     have nH:DE aj i=0:=by unfold DE;rw[Z2 Zo];rfl
     refine ce @ja ⟨?_⟩
     exact Hz _ _ _ ⟨aZ t1,aZ ew,kY,aZ sK,aZ wy,aZ wz,aZ t6,aZ p6,aZ AV,aZ wA,be,by refine BK ⟨?_⟩;rw[nH],rfl,rfl⟩
   ·clear t1 ew kY sK wy wz t6 p6 AV wA
    rintro s6 S' aP ⟨t1,ew,kY,sK,wy,wz,t6,p6,AV,wA,t8,t9,rfl,rfl⟩
    show cz _ _
    refine fW @t1 @t8 @t9 (bp adq) ⟨?_⟩
    refine(axF au Zo iF xu Zo Zo uL jd.kc (a8.aa (bg:=P) Ct (λ_ a=>a)) (λe B=>⟨zq (bq e B).1,(bq e B).2.1,(bq e B).2.2⟩) jd.lu w (DE aj i) ⟨atB.1,Zo⟩).Zm ?_
    rintro ac dW d4 ⟨rfl,T9,asN,pQ,rq⟩
    refine cL @wA @cG ⟨?_⟩
    refine⟨gH,Zo,i+1,aZ t1,aZ ew,kY,aZ sK,aZ wy,aZ wz,aZ t6,aZ p6,aZ AV,be,Zo, ?_, ?_,Zo,by rw[rq _ Zo Zo Zo];exact fN⟩
    ·rw[Ch]
     exact⟨Zo,T9,asN,λe J Q ak=>by rw[rq e Zo Q ak];exact jd.low e J Q ak⟩
    ·rw[Ch]
     intro x
     have ae:=qx x
     simp only[oy]
     split
     ·simp only[YG];push_cast;omega
     ·push_cast;omega
end
def ayE{C:aL}{h:R af}{j r pos c:Nat}{s:aX}(Y:C.a6<=r)(a:U C h r=some (.pm s pos))(ax:s[pos]? =some c)(J:c<128):
 xn C kT true h j (kU (.ptr r 0))=some (.fq (.tuple [.zT, .Z (pos:Int), .int .i32 (c:Int)]) (bi C h r (some (.pm s (pos+1)))) j):=by
 have c2:=(Zb.1 ax).1
 have bD:Nat.blt pos s.length=true:=by simp[Nat.blt];omega
 have cG:Nat.blt c 128=true:=by simp[Nat.blt];omega
 have fV:kM C r=true:=lr Y
 simp only[xn,kU,fV,ff,a,bD,qL,ax,cG,ba.setObj,hv]
 rfl
def ayC{C:aL}{h:R af}{j r pos:Nat}{s:aX}(Y:C.a6<=r)(a:U C h r=some (.pm s pos))(ax:s.length<=pos):
 xn C kT true h j (kU (.ptr r 0))=some (.val (.tuple [.zF])):=by
 have bD:Nat.blt pos s.length=false:=by
  cases b3:Nat.blt pos s.length with
  |false=>rfl
  |true=>simp[Nat.blt]at b3;omega
 have fV:kM C r=true:=lr Y
 simp only[xn,kU,fV,ff,a,bD,ls]
def arr{V:Option eb}{h S':R af}{j am:Nat}{ah:bI}{v:D}(a:V=some (.fq v S' am))(y:ah v S' am):G2 V h j ah:=by subst a;exact⟨y⟩
def arq{V:Option eb}{h:R af}{j:Nat}{ah:bI}{v:D}(a:V=some (.val v))(y:ah v h j):G2 V h j ah:=by subst a;exact⟨y⟩
section
variable{X:ch}{h S' eF aK aJ:R af}{j am aM aR:Nat}
def Vt{c:Nat}(a:jr c=true):(97<=c/\c<=122)\/(65<=c/\c<=90)\/(48<=c/\c<=57)\/c=95:=by
 simp[jr,rx,jh]at a
 omega
def ayY(au:di X){c:Nat}(ax:jr c=true):aW X 119 [.int .i32 (c:Int)] h j (λac S' am=>ac= .zF/\S'=h/\j<=am) (λ_ _ _=>False):=by
 refine zx au (akq X) ?_
 rw[akr]
 unfold XY
 rcases Vt ax with a|a|a|a
 ·have c1:decide ((c:Int)<97)=false:=by simp only[Zc];omega
  have cH:decide ((122:Int)<(c:Int))=false:=by simp only[Zc];omega
  refine cL @c1 @cH ⟨?_⟩
  exact⟨rfl,rfl,Zo⟩
 ·have c1:decide ((c:Int)<97)=true:=by simp only[Zg];omega
  have cH:decide ((c:Int)<65)=false:=by simp only[Zc];omega
  have eY:decide ((90:Int)<(c:Int))=false:=by simp only[Zc];omega
  refine ed @c1 @cH @eY ⟨?_⟩
  exact⟨rfl,rfl,Zo⟩
 ·have c1:decide ((c:Int)<97)=true:=by simp only[Zg];omega
  have cH:decide ((c:Int)<65)=true:=by simp only[Zg];omega
  have eY:decide ((c:Int)<48)=false:=by simp only[Zc];omega
  have ja:decide ((57:Int)<(c:Int))=false:=by simp only[Zc];omega
  refine fW @c1 @cH @eY @ja ⟨?_⟩
  exact⟨rfl,rfl,Zo⟩
 ·have c1:decide ((c:Int)<97)=true:=by simp only[Zg];omega
  have cH:decide ((c:Int)<65)=false:=by simp only[Zc];omega
  have eY:decide ((90:Int)<(c:Int))=true:=by simp only[Zg];omega
  have ja:decide ((c:Int)<48)=false:=by simp only[Zc];omega
  have gs:decide ((57:Int)<(c:Int))=true:=by simp only[Zg];omega
  have hF:decide ((c:Int)≠95)=false:=by simp only[Zc,ne_eq,Decidable.not_not];omega
  refine ih @c1 @cH @eY @ja @gs @hF ⟨?_⟩
  exact⟨rfl,rfl,Zo⟩
def aAR{C:aL}{s:aX}{ah:bI}(y:ah (.ptr j 0) (bi C h j (some (.pm s 0))) (j+1)):hN (WP C h j (.str s)) h j ah:=j8 (by simp only[WP,nQ,mE,hv]) y
def ao9:dc X h .eql 4 false .zF .zT=some .zF:=Zk
def awt(au:di X){s:aX}(aD:∀c∈s,jr c=true)(aF:(o X).a6<=j):
 aW X 120 [.str s, .func (.func 119) [] []] h j (λac S' am=>ac= .Z (-1)/\bf X h j S' am) (λ_ _ _=>False):=by
 refine zx au (aku X) ?_
 rw[akv]
 unfold X0
 refine zx au (akU X) ?_
 rw[akV]
 unfold δ
 refine aAR ?_
 generalize de:bi X h j _=aK
 have bK:U X aK j=some (.pm s 0):=by rw[<-de,bb aF]
 have bH:bf X h j aK (j+1):=by rw[<-de];exact dA
 clear de
 refine cI ⟨?_⟩
 refine fp (λm H S' aP=>∃(T:Nat),H.g 1=some (.func (.func 119) [] [])/\H.g 2=some .zT/\H.g 10=some (.ptr j 0)/\T+m=s.length/\U X S' j=some (.pm s T)/\bf X h j S' aP/\j+1<=aP)
  s.length ⟨0,be,be,be,Zo,bK,bH,Zo⟩ ?_
 rintro m H aJ aR ⟨T,t1,ew,oE,bJ,b1,bC,lB⟩
 cases m with
 |zero=>
  refine ce @oE ⟨?_⟩
  refine arq (ayC aF b1 Zo) ?_
  refine cI ⟨?_⟩
  exact⟨rfl,bC⟩
 |succ m=>
  obtain⟨c,ax⟩:=zt s T
  have bo:=aD c (Zn ax)
  have asB:c<128:=zq (Vt bo)
  refine ce @oE ⟨?_⟩
  refine arr (ayE aF b1 ax asB) ?_
  refine ce @t1 ⟨?_⟩
  generalize e0:bi X aJ j _=a1
  have cM:U X a1 j=some (.pm s (T+1)):=by rw[<-e0,bb aF]
  have ck:bf X h j a1 aR:=⟨bC.le,λe B=>by rw[<-e0,aC aF Zo];exact bC.aa e B⟩
  clear e0
  refine(ayY au bo).Zm ?_
  rintro ac bA cv ⟨rfl,rfl,iG⟩
  refine cL @ew @ao9 ⟨?_⟩
  refine⟨m,Zo,T+1,aZ t1,aZ ew,aZ oE,Zo,cM,⟨zq ck.le,ck.aa⟩,Zo⟩
end
def aim:List aX:=[[110,111,100,101],[114,101,116,117,114,110,115],[118,97,114],[108,101,116],[116,101,108],[119,104,101,110],[110,111,116],[111,114],[120,111,114],[97,110,100],[112,114,101],[102,98,121],[105,102],[116,104,101,110],[101,108,115,101],[109,101,114,103,101],[116,114,117,101],[102,97,108,115,101]]
def aAB:∀w∈aim,w∈wu:=by decide
structure rW(X:ch):Prop where
 a6:2<X.a6
 at_:∀h,∃b aS,aI X h (.ptr 3 0)=some aS/\dL X h (λe=>e<X.a6) b aS 1 (fL aim)
section
variable{X:ch}{h S' eF aK aJ:R af}{j am aM aR:Nat}{s:aX}
def aqI:dc X h .eql 139 true .nilIface .nilIface=some .zT:=Zk
def aqJ(b:Nat):dc X h .eql 139 true (.iface 181 (.ptr b 0)) .nilIface=some .zF:=Zk
def apM(au:di X){b:Nat}{aS:D}{P:Nat->Prop}{g8:List aX}(Y:dL X h P b aS 1 (fL g8))(aD:s∉g8):
 aW X 121 [aS, .str s] h j (λac S' am=>ac= .zF/\bf X h j S' am) (λ_ _ _=>False):=by
 refine zx au (akw X) ?_
 rw[akx]
 unfold X1
 refine aW.mono (ah:=λac S' am=>ac= .Z (-1)/\bf X h j S' am) (av:=λ_ _ _=>False) ?_ ?_ (λ_ _ _ a=>a.elim)
 ·refine zx au (akW X) ?_
  rw[akX]
  unfold ε
  have d2:=Y.len
  have ik:=Y.many
  rw[show(fL g8).length=g8.length from by simp[fL]]at d2 ik
  refine ce @d2 ⟨?_⟩
  refine fp (λm H S' aP=>∃(T:Nat),H.g 0=some aS/\H.g 1=some (.str s)/\H.g 7=some (.Z (g8.length:Int))/\H.g 8=some (.Z (T:Int))/\T+m=g8.length/\S'=h/\aP=j)
   g8.length ⟨0,be,be,be,fO,Zo,rfl,rfl⟩ ?_
  rintro m H aJ aR ⟨T,t0,t1,t7,t8,bJ,rfl,rfl⟩
  cases m with
  |zero=>
   have d:=zr T g8.length
   refine ed @t8 @t7 @d ⟨?_⟩
   exact⟨rfl,bf.refl _ _⟩
  |succ m=>
   have d:=zs T g8.length
   have bD:=zv T
   obtain⟨w,bw⟩:=zt g8 T
   have dw:=Y.fI T (by simp[fL];omega)
   have g1:=Y.cell T [.str w] 0 (.str w) (by unfold fL;rw[Zw,bw];rfl) rfl
   rw[Z5]at dw
   rw[Z5,ZX]at g1
   have dS:s≠w:=λE=>aD (by rw[E];exact Zn bw)
   have cH:decide (s=w)=false:=by simp[dS]
   refine et @t8 @t7 @t1 @t0 @d @dw (Za @g1 (Za @cH @bD)) ⟨?_⟩
   exact⟨m,Zo,T+1,aZ t0,aZ t1,aZ t7,be,Zo,rfl,rfl⟩
 ·rintro ac aK aM ⟨rfl,bT⟩
  refine cI ⟨?_⟩
  exact⟨rfl,bT⟩
def aiZ(au:di X)(t:er)(aF:(o X).a6<=j):aW X 123 [.agg (eD t)] h j (λac S' am=>ac= .str (nW t)/\bf X h j S' am) (λ_ _ _=>False):=by
 refine zx au (akA X) ?_
 rw[akB]
 unfold X3
 have a8:eD t=[.bool t.b, .bool t.s, .Z t.w]:=rfl
 rw[a8]
 refine cI ⟨?_⟩
 refine eL (λaK=>U X aK j=zu [.bool t.b, .bool t.s, .Z t.w] 3/\bf X h j aK (j+1)) ⟨bb aF,dA⟩ ?_
 rintro aK ⟨bK,bH⟩
 refine(E7 au t Zo).Zm ?_
 rintro ac aJ aR ⟨rfl,bC⟩
 have fC:=bC.le
 have bT:=bH.trans bC
 have b1:U X aJ j=zu [.bool t.b, .bool t.s, .Z t.w] 3:=by rw[bC.aa _ Zo];exact bK
 have dH:aI X aJ (.ptr j 0)=some (.bool t.b):=by rw[bp b1];rfl
 have cX:aI X aJ (.ptr j 1)=some (.bool t.s):=by rw[bp b1];rfl
 have dI:aI X aJ (.ptr j 2)=some (.Z t.w):=by rw[bp b1];rfl
 cases bo:lb t with
 |false=>
  refine cI ⟨?_⟩
  exact⟨by simp[nW,bo],bT⟩
 |true=>
  cases kj:t.b with
  |true=>
   rw[kj]at dH
   refine ce @dH ⟨?_⟩
   exact⟨by simp[nW,bo,kj],bT⟩
  |false=>
   rw[kj]at dH
   have bw:1<=t.w/\t.w<=64:=by simpa[lb,kj]using bo
   obtain⟨w,Au⟩:=Yd (by omega:0<=t.w)
   rw[Au]at dI
   have aN:jV t.w.toNat=jV w:=by rw[Au];rfl
   have eT:(jV w).length<=2:=by unfold jV;split<;>simp
   have us:∀h c,dc X h .add 9 true (.str [c]) (.str (jV w))=some (.str (c::jV w)):=λh c=>by
    have:Nat.ble ([c].length+(jV w).length) 1000000000=true:=lr Zx
    simp only[dc,Bp,this,ff];rfl
   cases kB:t.s with
   |true=>
    rw[kB]at cX
    refine ed @dH @cX @dI ⟨?_⟩
    refine(PR au Zo).Zm ?_
    rintro ac a1 bn ⟨rfl,rfl,rfl⟩
    refine ce @us ⟨?_⟩
    exact⟨by simp[nW,bo,kj,kB,aN],bT⟩
   |false=>
    rw[kB]at cX
    refine ed @dH @cX @dI ⟨?_⟩
    refine(PR au Zo).Zm ?_
    rintro ac a1 bn ⟨rfl,rfl,rfl⟩
    refine ce @us ⟨?_⟩
    exact⟨by simp[nW,bo,kj,kB,aN],bT⟩
def awy{c:Nat}(a:jr c=true):c<256:=zq (Vt a)
def aCD(au:i2 X)(bT:l6 X)(aD:Gh s)(aF:(o X).a6<=j):
 aW X 122 [.str s] h j (λac S' am=>ac= .zF/\bf X h j S' am) (λ_ _ _=>False):=by
 refine zx au.todi (aky X) ?_
 rw[akz]
 unfold X2
 cases s with
 |nil=>exact absurd rfl aD.ne
 |cons c k=>
  cases k with
  |nil=>
   have jn:decide (((1:Nat):Int)<2)=true:=rfl
   refine ce @jn ⟨?_⟩
   exact⟨rfl,dA⟩
  |cons dI k=>
   have c1:decide ((((dI::k).length+1:Nat):Int)<2)=false:=by simp only[Zc,ZF];omega
   have hJ:nu (.str (c::dI::k)) (some (.Z 1)) none=some (.str (dI::k)):=QR (k:=1) .i64 Zs
   have dw:ov (.str (c::dI::k)) (.Z 0)=some (.int .u8 (c:Int)):=Cp (i:=0) .i64 rfl
   have d2:np (.str (c::dI::k))=some (.Z ((c::dI::k).length:Int)):=AC _
   have ly:=aD.all
   have eT:=aD.len
   have xr:c::dI::k≠[98,111,111,108]:=λE=>by have:=aD.ty;rw[E]at this;cases this
   have cH:decide (c::dI::k=[98,111,111,108])=false:=by simp only[Zc];exact xr
   have Ap:=aD.ty
   generalize mJ:dI::k=m at*
   have gs:decide ((c:Int)=105)=decide (c=105):=by simp;omega
   refine f7 d2 ?_
   refine cL @c1 @hJ ⟨?_⟩
   refine(abW au bT (by simp at eT;omega) (λx ae=>awy (ly x (Zu _ ae))) (ahz (λx ae=>ly x (Zu _ ae))) Zo).Zm ?_
   rintro ac aJ aR ⟨⟨bu,E,rfl,bz,ae⟩,bC⟩
   have fC:=bC.le
   rcases bz with rfl|⟨b,rfl⟩
   ·refine fW @cH @aqI @dw @gs ⟨?_⟩
    refine(aiZ (j:=aR) (h:=aJ) au.todi ⟨false,decide (c=105),bu⟩ Zo).Zm ?_
    rintro ac a1 bn ⟨rfl,ck⟩
    have aB:decide (c::m=nW ⟨false,decide (c=105),bu⟩)=false:=by
     simp only[Zc]
     intro a
     cases bo:lb ⟨false,decide (c=105),bu⟩with
     |false=>simp[nW,bo]at a
     |true=>
      have cm:1<=bu/\bu<=64:=by simpa[lb]using bo
      obtain⟨n,rfl⟩:=Yd (by omega:0<=bu)
      simp only[nW,bo,ZE,Zy,ZC]at a
      have J:=(List.cons.inj a).1
      have Q:=(List.cons.inj a).2
      have Hr:c=105\/c=117:=by
       by_cases ax:c=105
       ·exact .inl ax
       ·simp[ax]at J;exact .inr J
      exact aiY Ap Hr (n:=n) Zo Zo (by simpa using Q.symm)
    refine ce @aB ⟨?_⟩
    exact⟨rfl,bC.trans ck⟩
   ·refine cL @cH @aqJ ⟨?_⟩
    exact⟨rfl,bC⟩
def L5(au:i2 X)(bT:l6 X)(d7:rW X)(aD:Gh s)(aF:(o X).a6<=j):
 aW X 97 [.str s] h j (λac S' am=>ac= .zT/\bf X h j S' am) (λ_ _ _=>False):=by
 refine zx au.todi (anL X) ?_
 rw[anM]
 unfold abq
 have dS:=aD.ne
 have c1:decide (s=[])=false:=by simp[dS]
 have eT:=aD.len
 have cH:decide ((32:Int)<(s.length:Int))=false:=by simp only[Zc];omega
 obtain⟨c,ax⟩:∃c,s.head?=some c:=by cases s with|nil=>exact absurd rfl dS|cons c k=>exact⟨c,rfl⟩
 have y5:=aD.ao0 c ax
 have dw:ov (.str s) (.Z 0)=some (.int .u8 (c:Int)):=Cp (i:=0) .i64 (by rw[<-List.head?_eq_getElem?];exact ax)
 have Hq:65<=c:=by simp[rx]at y5;omega
 have eY:decide ((48:Int)<=(c:Int))=true:=by simp only[Zg];omega
 have ja:decide ((c:Int)<=57)=false:=by simp only[Zc];omega
 refine gb @c1 @cH @dw @eY @ja ⟨?_⟩
 refine(awt au.todi aD.all aF).Zm ?_
 rintro ac aK aM ⟨rfl,bH⟩
 have jG:=bH.le
 obtain⟨b,aS,hJ,cC⟩:=d7.at_ aK
 have BB:decide ((0:Int)<= -1)=false:=rfl
 refine cL @hJ @BB ⟨?_⟩
 refine(apM (j:=aM) au.todi cC (λa=>aD.res (aAB _ a))).Zm ?_
 rintro ac aJ aR ⟨rfl,bC⟩
 have fC:=bC.le
 refine cI ⟨?_⟩
 refine(aCD (j:=aR) (h:=aJ) au bT aD Zo).Zm ?_
 rintro ac a1 bn ⟨rfl,ck⟩
 refine cI ⟨?_⟩
 exact⟨rfl,(bH.trans bC).trans ck⟩
end
section
variable{X:ch}{h S' eF aK aJ:R af}{j am aM aR:Nat}{s:aX}
def Xy:List D:=[.str [], .Z 0, .zF, .zF, .Z 0, .str [], .Z 0, .zF]
def asm(n:Nat):Hp X h j .append [37,3] [.aT, .Z (n:Int)]=bV (Nat.ble n 1048576) (bV (Nat.beq n 0) (some (.val .aT)) (uG X h j n 8 (lh n Xy))) none:=Zk
def Fy(n:Nat)(k:List D):(lh n k).length=n*k.length:=by
 induction n with
 |zero=>simp[lh]
 |succ n ai=>simp[lh,ai,Z7];omega
def apl:tb X h .cap [37] [.aT]=some (.Z 0):=Zk
def aBv:uc X h 8 .aT none (some (.Z 0)) none=some .aT:=by rfl
def aBx{dX n m:Nat}{c:R D}(a:U X h dX=some (.cells c m (.grow []))):uc X h 8 (.fc dX 0 n 8) none (some (.Z 0)) none=some (.fc dX 0 0 8):=by
 have bD:pZ (some (.Z 0)) (m/8) n=some 0:=by simp[pZ,ayB]
 have cG:∀F b:Nat,pZ none F b=some b:=λF b=>rfl
 have fV:x3 X h dX=some m:=by simp[x3,a]
 have ke:Nat.blt 0 8=true:=rfl
 simp only[uc,fV,my,YL,cG,bD]
 simp[ke]
def QH{C:aL}{P:Nat->Prop}{b bs:Nat}{aS:D}{bL:List (List D)}(a:dL C h P b aS bs bL)(cm:0<bs):lG C h bs aS=some (bL.length,bL.flatten):=by
 have KV:=uA a.wide
 have key:∀dK V n:Nat,n=bL.length->(∀i,i<bL.length->some (D.ptr dK (V+i*bs))=some (.ptr b (i*bs)))->nG C h dK V (n*bs)=some bL.flatten:=by
  intro dK V n aF aN
  subst aF
  by_cases aY:bL.length=0
  ·have:bL=[]:=Z9 aY
   subst this
   simp only[nG]
   cases ax:cellsOf C h dK with
   |none=>simp
   |some c=>simp[adB]
  ·have J:=aN 0 Zo
   simp at J
   obtain⟨rfl,rfl⟩:=J
   obtain⟨r,Y⟩:=zt bL 0
   have Pz:=a.wide r (Zn Y)
   obtain⟨v,bv⟩:=zt r 0
   have o5:=a.cell 0 r 0 v Y bv
   simp only[zl,ZX]at o5
   have Ed:∃c,cellsOf C h dK=some c:=by
    simp only[aI]at o5
    cases ax:cellsOf C h dK with
    |none=>rw[ax]at o5;cases o5
    |some c=>exact⟨c,rfl⟩
   obtain⟨c,ax⟩:=Ed
   simp only[nG,ax]
   rw[<-KV]
   refine adz _ _ λT v bJ=> ?_
   have vU:=(Zb.1 bJ).1
   rw[KV]at vU
   have b3:T/bs<bL.length:=Nat.div_lt_of_lt_mul (by rw[zn];exact vU)
   obtain⟨h7,mL⟩:∃r,bL[T/bs]? =some r:=⟨_,Ze b3⟩
   have aES:=a.wide h7 (Zn mL)
   have bo:T%bs<bs:=Nat.mod_lt _ cm
   obtain⟨hj,Ar⟩:∃v,h7[T%bs]? =some v:=⟨_,Ze Zo⟩
   have Q:=a.cell (T/bs) h7 (T%bs) hj mL Ar
   have ak:=S7 bL a.wide (T/bs) h7 (T%bs) hj mL Ar
   have ay:T/bs*bs+T%bs=T:=by rw[zn];exact Nat.div_add_mod T bs
   rw[ay]at Q ak
   rw[bJ]at ak
   cases ak
   simp only[aI,ax]at Q
   rw[ZS]
   exact Q
 have az:=a.len
 cases aS with
 |slice dK V n cap=>
  have aF:n=bL.length:=by rw[tN]at az;simp at az;omega
  have aN:∀i,i<bL.length->some (D.ptr dK (V+i*bs))=some (.ptr b (i*bs)):=λi aN=>by
   have:=a.fI i aN
   rw[<-this]
   have E:Nat.blt i n=true:=by simp[Nat.blt];omega
   simp only[gt,sz,C8,E,ff]
  have aH:=key dK V n aF aN
  subst aF
  simp only[lG,aH]
 |fc dK V n x5=>
  have aF:n=bL.length:=by rw[wm]at az;simp at az;omega
  have aN:∀i,i<bL.length->some (D.ptr dK (V+i*bs))=some (.ptr b (i*bs)):=λi aN=>by
   have:=a.fI i aN
   rw[<-this]
   have E:Nat.blt i n=true:=by simp[Nat.blt];omega
   simp only[gt,sz,C8,E,ff]
  have aH:=key dK V n aF aN
  subst aF
  simp only[lG,aH]
 |aT=>
  have aF:(0:Int)=bL.length:=by rw[xO]at az;simpa using az
  have:bL=[]:=Z9 Zo
  subst this
  rfl
 |_=>simp[gC]at az
def aAS{dX n r m:Nat}{c:R D}{x:D}{k:List D}{ah:bI}(ag:U X h dX=some (.cells c (m*8) (.grow [])))(aE:(o X).a6<=dX)(ae:lG X h 8 x=some (r,k))(az:k.length=r*8)(Y:n+r<=m)(J:Go.ba.ju k=true)
 (y:∀S' f9,U X S' dX=some (.cells f9 (m*8) (.grow []))->(∀i,f9.get i=if n*8<=i/\i<n*8+k.length then k[i-n*8]? else c.get i)->(∀e,e≠dX->U X S' e=U X h e)->ah (.fc dX 0 (n+r) 8) S' j):
 hN (jP X h j 8 (.fc dX 0 n 8) x) h j ah:=by
 by_cases aY:r=0
 ·subst aY
  have:k=[]:=Z9 Zo
  subst this
  have bD:jP X h j 8 (.fc dX 0 n 8) x=some (.val (.fc dX 0 n 8)):=by
   simp only[jP,ae]
   simp[Gx,x3,ag]
   omega
  refine WM bD ?_
  exact y h c ag (λi=>by rw[Zh Zs]) (λ_ _=>rfl)
 ·have cG:Nat.ble ((n+r)*8) (m*8)=true:=lr Zo
  have fV:Nat.ble (n*8+k.length) (m*8)=true:=lr Zo
  have J0:Nat.beq 8 8=true:=rfl
  have ke:kM X dX=true:=lr aE
  have qp:jP X h j 8 (.fc dX 0 n 8) x=some (.fq (.fc dX 0 (n+r) 8) (Go.ba.bi X h dX (some (.cells (dT c (n*8) k) (m*8) (.grow [])))) j):=by
   simp only[jP,ae]
   rw[h1,Zh aY]
   simp only[yy,JC,ag,ke,J0,ff,cG,wU,fV,J,Yo,hv,qJ,ZS]
  refine j8 qp ?_
  refine y _ _ (bb aE) (λi=> ?_) (λe B=>aC aE B)
  rw[ix]
def aBm(au:di X){n:Nat}(aY:0<n)(J:n<=300000)(aF:(o X).a6<=j):
 aW X 96 [.aT, .Z (n:Int)] h j (λac S' am=>ac= .fc j 0 0 8/\(∃c,U X S' j=some (.cells c (n*8) (.grow [])))/\bf X h j S' am/\j<am) (λ_ _ _=>False):=by
 refine zx au (anJ X) ?_
 rw[anK]
 unfold abp
 have c1:decide ((n:Int)<0)=false:=by simp only[Zc];omega
 have cH:decide ((0:Int)<(n:Int))=true:=by simp only[Zg];omega
 have bD:bl .sub (.Z 0) (.Z 0)=some (.Z 0):=uV Zo Zo
 have cG:bl .sub (.Z (n:Int)) (.Z 0)=some (.Z (n:Int)):=by rw[uV Zo Zo];simp
 have fV:Hp X h j .append [37,3] [.aT, .Z (n:Int)]=some (.fq (.fc j 0 n 8) (bi X h j (some (.cells (R.ofList (lh n Xy) 0 .nil) (n*8) (.grow [])))) (j+1)):=by
  rw[asm,lr Zo,ff,h1,Zh Zo]
  simp only[uG,lr (show n<=1048576 by omega),ff,nQ,mE,hv,Fy]
  rfl
 refine ih @c1 @apl @bD @cG @cH @aBv ⟨?_⟩
 refine j8 fV ?_
 generalize de:bi X h j _=aK
 have bK:U X aK j=some (.cells (R.ofList (lh n Xy) 0 .nil) (n*8) (.grow [])):=by rw[<-de,bb aF]
 have bH:bf X h j aK (j+1):=by rw[<-de];exact dA
 clear de
 have ke:=aBx (n:=n) bK
 refine ce @ke ⟨?_⟩
 exact⟨rfl,⟨_,bK⟩,bH,Zo⟩
def Bw(k:List (List ey)):Nat:=(k.map List.length).sum
def acq(au:di X){P:Nat->Prop}{q5 bZ cu c0:Nat}{c5 dt aS:D}{A bm ad:List ey}(aF:(o X).a6<=j)(y4:q5<j)(aA:U X h q5=zu [c5,dt,aS] 3)
 (J:dL X h P bZ c5 8 (A.map d6))(Q:dL X h P cu dt 8 (bm.map d6))(ak:dL X h P c0 aS 8 (ad.map d6))(bq:∀e,P e->e<j)(aY:0<A.length+bm.length+ad.length)(bo:A.length+bm.length+ad.length<=300000):
 aW X 76 [.slice q5 0 3 3] h j (λac S' am=>∃b,dL X S' (dx j am) b ac 8 ((A++(bm++ad)).map d6)/\bf X h j S' am) (λ_ _ _=>False):=by
 refine zx au (am3 X) ?_
 rw[am4]
 unfold aa2
 have HR:∀T,T<3->∃s b L,[c5,dt,aS][T]? =some s/\dL X h P b s 8 (L.map d6)/\([A,bm,ad]:List (List ey))[T]? =some L/\L.length<=300000:=by
  intro T bJ
  match T,bJ with
  |0,_=>exact⟨c5,bZ,A,rfl,J,rfl,Zo⟩
  |1,_=>exact⟨dt,cu,bm,rfl,Q,rfl,Zo⟩
  |2,_=>exact⟨aS,c0,ad,rfl,ak,rfl,Zo⟩
 have o5:∀S' T s,U X S' q5=zu [c5,dt,aS] 3->[c5,dt,aS][T]? =some s->aI X S' (.ptr q5 T)=some s:=λS' T s a aD=>by rw[bp a,mR];exact aD
 obtain⟨lT,xt⟩:∃lT:Nat->Nat,∀T,lT T=Bw (([A,bm,ad]:List (List ey)).take T):=⟨_,λ_=>rfl⟩
 obtain⟨yP,mj⟩:∃yP:Nat->List ey,∀T,yP T=(([A,bm,ad]:List (List ey)).take T).flatten:=⟨_,λ_=>rfl⟩
 have aeP:∀T L,([A,bm,ad]:List (List ey))[T]? =some L->yP (T+1)=yP T++L:=by
  intro T L a
  rw[mj,mj,ZU,a];simp
 have KM:∀T,lT T=(yP T).length:=λT=>by rw[xt,mj];unfold Bw;rw[List.length_flatten]
 have dj:∀T L,([A,bm,ad]:List (List ey))[T]? =some L->lT (T+1)=lT T+L.length:=by
  intro T L a
  rw[KM,KM,aeP T L a,ZK]
 have f4:∀T,lT T<=A.length+bm.length+ad.length:=by
  intro T
  rw[xt]
  match T with
  |0=>simp[Bw]
  |1=>simp[Bw];omega
  |2=>simp[Bw]
  |n+3=>simp[Bw];omega
 have adR:lT 3=A.length+bm.length+ad.length:=by rw[xt];simp[Bw];omega
 have D3:lT 0=0:=by rw[xt];simp[Bw]
 have aq3:yP 0=[]:=by rw[mj];rfl
 refine cI ⟨?_⟩
 refine fp (λm H S' aP=>∃(T:Nat),H.g 0=some (.slice q5 0 3 3)/\H.g 9=some (.slice q5 0 3 3)/\H.g 10=some (.Z 3)/\H.g 11=some (.Z (T:Int))/\H.g 3=some (.Z (lT T:Nat))/\T+m=3/\S'=h/\aP=j)
  3 ⟨0,be,be,fO,fO,by refine BK ⟨?_⟩;rw[D3];rfl,Zo,rfl,rfl⟩ ?_
 rintro m H aK aM ⟨T,t0,t9,oE,pn,t3,bJ,rfl,rfl⟩
 cases m with
 |succ m=>
  have d:decide ((T:Int)<3)=true:=by simp only[Zg];omega
  have bD:=zv T
  obtain⟨s,b,L,aD,cC,gT,as3⟩:=HR T Zo
  have Em:=f4 T
  have dw:gt 1 (.slice q5 0 3 3) (.Z (T:Int))=some (.ptr q5 T):=by rw[H5 _ Zo];simp
  have ax:=o5 _ T s aA aD
  have d2:=cC.len
  rw[Zi]at d2
  have cG:bl .add (.Z ((lT T:Nat):Int)) (.Z (L.length:Int))=some (.Z ((lT (T+1):Nat):Int)):=by
   rw[dj T L gT,eH Zo Zo];simp
  have cH:decide (((lT (T+1):Nat):Int)<0)=false:=by simp only[Zc];omega
  refine et @pn @oE @t9 @t3 @d @dw (Za @ax (Za @d2 (Za @cG (Za @cH @bD)))) ⟨?_⟩
  exact⟨m,Zo,T+1,aZ t0,aZ t9,aZ oE,be,be,Zo,rfl,rfl⟩
 |zero=>
  have d:decide ((T:Int)<3)=false:=by simp only[Zc];omega
  have O9:T=3:=Zo
  subst O9
  rw[adR]at t3
  refine fW @pn @oE @t3 @d ⟨?_⟩
  refine(aBm au aY bo aF).Zm ?_
  rintro ac aJ aR ⟨rfl,⟨dI,b1⟩,bC,lB⟩
  generalize qv:A.length+bm.length+ad.length=dr at*
  refine ce @t0 ⟨?_⟩
  refine fp (λm H S' aP=>∃(T:Nat) (c:R D),H.g 25=some (.slice q5 0 3 3)/\H.g 26=some (.Z 3)/\H.g 27=some (.Z (T:Int))/\H.g 6=some (.fc aM 0 (lT T) 8)/\T+m=3/\aM<aP/\bf X aK aM S' aP
   /\U X S' aM=some (.cells c (dr*8) (.grow []))/\∀(i:Nat) v,((yP T).map d6).flatten[i]? =some v->c.get i=some v)
   3 ⟨0,dI,be,fO,fO,by refine BK ⟨?_⟩;rw[D3],Zo,lB,bC,b1,λi v a=>by rw[aq3]at a;simp at a⟩ ?_
  clear t0 t9 oE pn t3
  rintro m H a1 bn ⟨T,gZ,mZ,lI,FM,t6,bJ,v6,ck,cM,xs⟩
  have KV:∀L:List ey,((L.map d6).flatten).length=L.length*8:=λL=>by
   have:=uA (bL:=L.map d6) (bs:=8) (by intro r Y;obtain⟨d,_,rfl⟩:=ZG.1 Y;rfl)
   rw[this,Zi]
  cases m with
  |zero=>
   have d:decide ((T:Int)<3)=false:=by simp only[Zc];omega
   have O9:T=3:=Zo
   subst O9
   rw[adR]at t6
   refine fW @FM @lI @t6 @d ⟨?_⟩
   have ly:yP 3=A++(bm++ad):=by rw[mj];simp
   rw[ly]at xs
   have eT:(A++(bm++ad)).length=dr:=by simp;omega
   refine⟨aM,⟨λ_=>⟨Zo,Zo⟩,by rw[Zi,eT];omega,by intro r Y;obtain⟨d,_,rfl⟩:=ZG.1 Y;rfl,by rw[wm,Zi,eT],λi aN=>by rw[H6 _ (by rw[Zi,eT]at aN;omega),ZS],λi r agq v aN Hz=> ?_⟩,ck⟩
   rw[bp cM]
   exact xs _ _ (S7 _ (by intro r Y;obtain⟨d,_,rfl⟩:=ZG.1 Y;rfl) i r agq v aN Hz)
  |succ m=>
   have d:decide ((T:Int)<3)=true:=by simp only[Zg];omega
   have bD:=zv T
   obtain⟨s,b,L,aD,cC,gT,as3⟩:=HR T Zo
   have dw:gt 1 (.slice q5 0 3 3) (.Z (T:Int))=some (.ptr q5 T):=by rw[H5 _ Zo];simp
   have atj:U X a1 q5=zu [c5,dt,aS] 3:=by rw[ck.aa _ y4];exact aA
   have ax:=o5 _ T s atj aD
   have kA:=QH (cC.aa (S':=a1) (λe B=>ck.aa e (bq e B))) Zd
   rw[Zi]at kA
   have J:=dj T L gT
   have Q:=f4 (T+1)
   refine et @FM @lI @mZ @t6 @d @dw @ax ⟨?_⟩
   refine aAS cM Zo kA (KV L) Zo ?_ ?_
   ·clear kA
    have:∀dr:List ey,Go.ba.ju (dr.map d6).flatten=true:=by
     intro dr
     induction dr with
     |nil=>rfl
     |cons d dr ai=>simpa[d6,Go.ba.ju,qN]using ai
    exact this L
   ·intro bA oa dF vN fH
    refine cL @FM @bD ⟨?_⟩
    refine⟨m,Zo,T+1,oa,aZ mZ,aZ lI,be,by refine BK ⟨?_⟩;rw[J],Zo,v6,⟨ck.le,λe B=>by rw[fH e Zo];exact ck.aa e B⟩,dF,λi v aN=> ?_⟩
    rw[aeP T L gT]at aN
    simp only[YK,ZQ]at aN
    have tC:(((yP T).map d6).flatten).length=lT T*8:=by
     rw[KV,KM]
    rw[vN]
    by_cases c2:i<lT T*8
    ·rw[Zh Zo]
     rw[ZW Zo]at aN
     exact xs i v aN
    ·rw[ZT Zo,tC]at aN
     have:=(Zb.1 aN).1
     rw[Zp ⟨Zo,Zo⟩]
     exact aN
end
section
variable{X:ch}{h S' eF aK aJ:R af}{j am aM aR:Nat}{s:aX}
def aA8{t:er}(a:lb t=true):nW t≠[]:=by
 unfold nW
 rw[Zp a]
 split<;>simp
def apU(au:i2 X)(bT:l6 X)(d7:rW X){P:Nat->Prop}{b:Nat}{aS:D}{ds:List ey}(aF:(o X).a6<=j)(cC:dL X h P b aS 8 (ds.map d6))(bq:∀e,P e->e<j)(bw:∀d∈ds,qe kt d):
 aW X 98 [aS] h j (λac S' am=>ac= .zT/\bf X h j S' am) (λ_ _ _=>False):=by
 refine zx au.todi (anN X) ?_
 rw[anO]
 unfold abr
 have d2:=cC.len
 have ik:=cC.many
 rw[Zi]at d2 ik
 refine ce @d2 ⟨?_⟩
 refine fp (λm H S' aP=>∃(T:Nat),H.g 5=some aS/\H.g 6=some (.Z (ds.length:Int))/\H.g 7=some (.Z (T:Int))/\T+m=ds.length/\bf X h j S' aP)
  ds.length ⟨0,be,be,fO,Zo,bf.refl _ _⟩ ?_
 rintro m H aK aM ⟨T,t5,t6,t7,bJ,bH⟩
 have jG:=bH.le
 cases m with
 |zero=>
  have d:=zr T ds.length
  refine ed @t7 @t6 @d ⟨?_⟩
  exact⟨rfl,bH⟩
 |succ m=>
  have DO:=zs T ds.length
  have bD:=zv T
  obtain⟨d,aE⟩:=zt ds T
  have y9:=bw d (Zn aE)
  have dw:=cC.fI T (by rw[Zi];omega)
  have fb:=(cC.aa (λe B=>bH.aa e (bq e B))).row (i:=T) (r:=d6 d) Zd (by rw[Zw,aE];rfl)
  have je:d6 d=[.str d.name, .Z d.at_, .bool d.ty.b, .bool d.ty.s, .Z d.ty.w, .str d.on, .Z d.eP, .bool d.no]:=rfl
  rw[je]at fb
  refine ih @t7 @t6 @t5 @DO @dw @fb ⟨?_⟩
  generalize dO:bi X _ aM _=aJ
  have b1:U X aJ aM=zu [.str d.name, .Z d.at_, .bool d.ty.b, .bool d.ty.s, .Z d.ty.w, .str d.on, .Z d.eP, .bool d.no] 8:=by rw[<-dO,bb Zo];rfl
  have bC:bf X h j aJ (aM+1):=⟨Zo,λe B=>by rw[<-dO];simp(disch:=omega) only[aC];exact bH.aa e B⟩
  clear dO
  refine ce (bp b1) ⟨?_⟩
  refine(L5 (j:=aM+1) (h:=aJ) au bT d7 y9.name Zo).Zm ?_
  rintro ac a1 bn ⟨rfl,ck⟩
  have jf:=ck.le
  rw[<-ck.aa _ Zo]at b1
  have uQ:eD d.ty=[.bool d.ty.b, .bool d.ty.s, .Z d.ty.w]:=rfl
  have Ad:cZ X a1 3 (.ptr aM 2)=some (.agg (eD d.ty)):=by
   rw[wl,bp b1,bp b1,bp b1];rfl
  refine ce @Ad ⟨?_⟩
  refine(aiZ (j:=bn) (h:=a1) au.todi d.ty Zo).Zm ?_
  rintro ac bA cv ⟨rfl,cW⟩
  have iG:=cW.le
  rw[<-cW.aa _ Zo]at b1
  have c1:decide (nW d.ty=[])=false:=by simp[aA8 y9.type]
  have adZ:bf X h j bA cv:=(bC.trans ck).trans cW
  by_cases ml:d.on=[]
  ·have cH:decide (d.on≠[])=false:=by simp[ml]
   have eY:decide (d.on=[])=true:=by simp[ml]
   have k7:aI X bA (.ptr aM 7)=some .zF:=by rw[bp b1];exact congrArg (λb=>some (D.bool b)) (y9.no ml)
   have UU:aI X bA (.ptr aM 5)=some (.str d.on):=by rw[bp b1];rfl
   refine et @c1 @UU @cH @eY @k7 @t7 @bD ⟨?_⟩
   exact⟨m,Zo,T+1,aZ t5,aZ t6,be,Zo,adZ⟩
  ·have cH:decide (d.on≠[])=true:=by simp[ml]
   have eY:decide (d.on=[])=false:=by simp[ml]
   have UU:aI X bA (.ptr aM 5)=some (.str d.on):=by rw[bp b1];rfl
   refine ed @c1 @UU @cH ⟨?_⟩
   refine(L5 (j:=cv) (h:=bA) au bT d7 (y9.on ml) Zo).Zm ?_
   rintro ac bN cf ⟨rfl,dR⟩
   have iH:=dR.le
   rw[<-dR.aa _ Zo]at b1
   have au1:aI X bN (.ptr aM 5)=some (.str d.on):=by rw[bp b1];rfl
   refine fW @au1 @eY @t7 @bD ⟨?_⟩
   exact⟨m,Zo,T+1,aZ t5,aZ t6,be,Zo,adZ.trans dR⟩
def ayX(au:i2 X)(bT:l6 X)(d7:rW X){w:aX}(bw:Gh w)(aF:(o X).a6<=j):
 aW X 99 [.str w] h j (λac S' am=>ac= .zF/\bf X h j S' am) (λ_ _ _=>False):=by
 refine zx au.todi (anP X) ?_
 rw[anQ]
 unfold abs
 refine(L5 (j:=j) (h:=h) au bT d7 bw aF).Zm ?_
 rintro ac aJ aR ⟨rfl,bC⟩
 refine cI ⟨?_⟩
 exact⟨rfl,bC⟩
def axH(au:i2 X)(bT:l6 X)(d7:rW X){P:Nat->Prop}{b:Nat}{aS:D}{g8:List aX}(aF:(o X).a6<=j)(Y:dL X h P b aS 1 (fL g8))(bq:∀e,P e->e<j)(bw:∀w∈g8,Gh w):
 aW X 49 [aS, .func (.func 99) [] []] h j (λac S' am=>ac= .zF/\bf X h j S' am) (λ_ _ _=>False):=by
 refine zx au.todi (aaw X) ?_
 rw[aax]
 unfold RL
 refine aW.mono (ah:=λac S' am=>ac= .Z (-1)/\bf X h j S' am) (av:=λ_ _ _=>False) ?_ ?_ (λ_ _ _ a=>a.elim)
 ·refine zx au.todi (aa3 X) ?_
  rw[aa4]
  unfold RO
  have d2:=Y.len
  have ik:=Y.many
  rw[show(fL g8).length=g8.length from by simp[fL]]at d2 ik
  refine ce @d2 ⟨?_⟩
  refine fp (λm H S' aP=>∃(T:Nat),H.g 0=some aS/\H.g 1=some (.func (.func 99) [] [])/\H.g 7=some (.Z (g8.length:Int))/\H.g 8=some (.Z (T:Int))/\T+m=g8.length/\bf X h j S' aP)
   g8.length ⟨0,be,be,be,fO,Zo,bf.refl _ _⟩ ?_
  rintro m H aK aM ⟨T,t0,t1,t7,t8,bJ,bH⟩
  have jG:=bH.le
  cases m with
  |zero=>
   have d:=zr T g8.length
   refine ed @t8 @t7 @d ⟨?_⟩
   exact⟨rfl,bH⟩
  |succ m=>
   have d:=zs T g8.length
   have bD:=zv T
   obtain⟨w,pc⟩:=zt g8 T
   have dw:=Y.fI T (by simp[fL];omega)
   have g1:=(Y.aa (λe B=>bH.aa e (bq e B))).cell T [.str w] 0 (.str w) (by unfold fL;rw[Zw,pc];rfl) rfl
   rw[Z5]at dw
   rw[Z5,ZX]at g1
   refine et @t8 @t7 @t1 @t0 @d @dw @g1 ⟨?_⟩
   refine(ayX (j:=aM) (h:=aK) au bT d7 (bw w (Zn pc)) Zo).Zm ?_
   rintro ac aJ aR ⟨rfl,bC⟩
   refine cL @t8 @bD ⟨?_⟩
   exact⟨m,Zo,T+1,aZ t0,aZ t1,aZ t7,be,Zo,bH.trans bC⟩
 ·rintro ac aK aM ⟨rfl,bT⟩
  refine cI ⟨?_⟩
  exact⟨rfl,bT⟩
end
end
end Go.Proofs.YtpeabpmnlmaabaaGreatDoor

