/- Part of the proof of the last text; no conditions -/
import Derived.Test.YtpeabpmnlmaabaaGreatDoorYk
set_option maxHeartbeats 8000000
set_option linter.all false
namespace Go.Proofs.YtpeabpmnlmaabaaGreatDoor
open Go.bd Go.aT
noncomputable section
def kM(s:(aY->Option c8)×List aY)(x:Int×eF):(aY->Option c8)×List aY:=
 if (s.1 x.2.name).isSome then s else(λw=>if w=x.2.name then some ⟨x.1,x.2, -1, -1⟩else s.1 w,s.2++[x.2.name])
def rP(z:Nat)(t:aY->Option c8)(x:aY×Nat):aY->Option c8:=match t x.1 with
 |some v=>if v.eq<0 then(λw=>if w=x.1 then some ⟨v.kind,v.d,z,x.2⟩else t w)else t
 |none=>t
def Jf(t:aY->Option c8)(x:gt×Nat):aY->Option c8:=x.1.left.zipIdx.foldl (rP x.2) t
def nu(g:Go.aT.Node):(aY->Option c8)×List aY:=(gD g).foldl kM (λ_=>none,[])
def ec(g:Go.aT.Node):aY->Option c8:=g.eqs.zipIdx.foldl Jf (nu g).1
def kL(g:Go.aT.Node):List aY:=(nu g).2
def lb(t:aY->Option c8):aY->Option D:=λw=>(t w).map λv=> .agg (ky v)
def X5{α:Type}{l:List α}{i:Nat}{x:α}(a:l[i]? =some x):l.zipIdx[i]? =some (x,i):=by
 rw[List.getElem?_zipIdx,a];simp
section
variable{X:cl}{h S' fi aI aM:Q af}{j an aO aZ:Nat}
structure tl(X:cl)(fR:Q af)(dT k3 b6 bL:Nat)(t:aY->Option c8)(mY:List aY)(h:Q af)(n:Nat):Prop where
 le:bL<=n
 map:py X h k3 (lb t)
 w3:∃c aS cq,U X h b6=some (.cells c 2 .own)/\c.get 0=some (.map k3)/\c.get 1=some aS/\gk X h aS 1 (mY.map .str) cq/\∀e∈cq,bL<=e/\e<n
 low:∀e,e<dT->e≠k3->e≠b6->U X h e=U X fR e
def tl.aa{fR:Q af}{dT k3 b6 bL:Nat}{t:aY->Option c8}{mY:List aY}(a:tl X fR dT k3 b6 bL t mY aI aO)(ya:k3<dT)(kp:b6<dT)(ow:dT<=bL)(aE:aO<=aZ)(aJ:∀e,e<aO->(e<dT\/bL<=e)->U X aM e=U X aI e):tl X fR dT k3 b6 bL t mY aM aZ:=by
 have gn:=a.le
 refine⟨Zo,a.map.aa (aJ _ Zo Zo), ?_,λe M R ak=>by rw[aJ e Zo Zo];exact a.low e M R ak⟩
 obtain⟨c,aS,cq,bI,bN,cH,dg,fT⟩:=a.w3
 exact⟨c,aS,cq,by rw[aJ _ Zo Zo];exact bI,bN,cH,dg.aa (λe B=>by have:=fT e B;exact aJ e Zo Zo),λe B=>zs (fT e B)⟩
def QG(au:dj X){P:Nat->Prop}{g:Go.aT.Node}{row:List D}(aE:(o X).a2<=j)(bq:∀e,P e->e<j)(b2:oR X h P g row)(bp:(gD g).length<=300000):
 aU X 10 [.agg row] h j (λac S' an=>∃b6 k3 aS b,ac= .ptr b6 0/\dr j an b6/\dr j an k3/\aP X S' (.ptr b6 0)=some (.map k3)/\py X S' k3 (lb (ec g))/\aP X S' (.ptr b6 1)=some aS/\dL X S' (dr j an) b aS 1 (e3 (kL g))/\ba X h j S' an) (λ_ _ _=>False):=by
 refine Kn (alb X) (au.none _ _ rfl) ?_
 rw[alc]
 unfold η
 obtain⟨c7,dv,aS,eH,bY,co,cY,fM,bK,rfl,k1,ko,ov,jo,e8⟩:=b2
 refine cx ⟨?_⟩
 refine eN (λaI=>U X aI j=zw [.str g.name, .Z g.at_,c7,dv,aS,eH] 6
  /\U X aI (j+1)=some (.map [] 0)/\U X aI (j+1+1)=zw [.map (j+1), .aV] 2/\aP X aI (.ptr (j+1+1+1) 0)=some (.ptr (j+1+1) 0)/\ba X h j aI (j+1+1+1+1)) ⟨by(first|assumption|(simp(disch:=omega) only[a7,aB]<;>rfl)|(simp(disch:=omega) only[a7,aB])),by(first|assumption|(simp(disch:=omega) only[a7,aB]<;>rfl)|(simp(disch:=omega) only[a7,aB])),by(first|assumption|(simp(disch:=omega) only[a7,aB]<;>rfl)|(simp(disch:=omega) only[a7,aB])),by rw[cv,a7 Zo];rfl,dz⟩ ?_
 rintro aI ⟨jG,bI,bN,cH,bH⟩
 refine(Oi au Zo).Zm ?_
 rintro ac aM aZ ⟨rfl,rfl,bx,cA,eb,fW⟩
 have hv:ba X h j aM (j+1+1+1+1+1):=bH.trans bx
 have nn:∀e,P e->U X aM e=U X h e:=λe B=>hv.aa e (bq e B)
 rw[<-bx.aa _ Zo]at jG bI bN
 rw[<-bx.eV _ _ Zo]at cH
 generalize avS:j+1+1+1+1+1=dT at*
 refine gi ?_
 refine Oj (P:=P) (g:=g) (bY:=bY) (co:=co) (cY:=cY) (c7:=c7) (dv:=dv) (aS:=aS) au (λi S' aN=>tl X aM dT (j+1) (j+1+1) (dT+2) (((gD g).take i).foldl kM (λ_=>none,[])).1 (((gD g).take i).foldl kM (λ_=>none,[])).2 S' aN/\(((gD g).take i).foldl kM (λ_=>none,[])).2.length<=i) Zo Zo Zo Zo
  (k1.aa nn) (ko.aa nn) (ov.aa nn) cA eb fW (λi S' aN a=>⟨a.1.le,λe B=>a.1.low e (zs (bq e B)) (zs (bq e B)) (zs (bq e B))⟩)
  (λi aI aO aM aZ a gn aJ=>⟨a.1.aa Zo Zo Zo gn (λe M R=>aJ e M Zo),a.2⟩)
  (λS' bU=>⟨⟨Zj _,⟨[],0,by rw[bU.aa _ Zo];exact bI,λ_=>rfl⟩,⟨_, .aV,[],by rw[bU.aa _ Zo];exact bN,rfl,rfl, .inl (.inl ⟨rfl,rfl,rfl⟩),λe B=>by simp at B⟩,λe B _ _=>bU.aa e B⟩,Zs⟩) ?_ ?_
 ·intro mk i fa d a1 bi aG gw nM i7
  rw[B8 kM _ aG]
  generalize ((gD g).take i).foldl kM (λ_=>none,[])=ca at gw ⊢
  obtain⟨gw,fg⟩:=gw
  have aFc:=(Zc.1 aG).1
  have gn:=gw.le
  have iE:d2 d=[.str d.name, .Z d.at_, .bool d.ty.b, .bool d.ty.s, .Z d.ty.w, .str d.on, .Z d.et, .bool d.no]:=rfl
  rw[iE]
  unfold un
  refine cx ⟨?_⟩
  generalize eS:bj X _ bi _=bA
  have dg:U X bA bi=zw [.str d.name, .Z d.at_, .bool d.ty.b, .bool d.ty.s, .Z d.ty.w, .str d.on, .Z d.et, .bool d.no] 8:=by rw[<-eS,a7 Zo];rfl
  have dJ:∀e,e<bi->U X bA e=U X a1 e:=λe B=>by rw[<-eS];exact zy
  clear eS
  refine⟨by rw[dJ _ Zo];exact i7, ?_⟩
  generalize jI:bj X bA (dT+1) _=bM
  have fT:U X bM (dT+1)=some (mk .busy none):=by rw[<-jI,a7 Zo]
  have d7:∀e,e≠dT+1->U X bM e=U X bA e:=λe B=>by rw[<-jI,aB Zo B]
  clear jI
  have hJ:=gw.aa (aM:=bM) (aZ:=bi+1) Zo Zo Zo Zo (λe M R=>by rw[d7 e Zo,dJ e M])
  rw[<-d7 _ Zo]at dg
  have vU:U X bM dT=some (.deferred (some [])):=by rw[d7 _ Zo,dJ _ Zo];exact nM
  have cY:aP X bM (.ptr (j+1+1+1) 0)=some (.ptr (j+1+1) 0):=zD (hJ.low _ Zo Zo Zo) cH
  obtain⟨kB,aGQ,ap7,fd,fX,hZ,po,nZ⟩:=hJ.w3
  have kF:nU X bM 9 (.agg [.Z 0, .str [], .Z 0, .zF, .zF, .Z 0, .str [], .Z 0, .zF, .Z 0, .Z 0]) (.map (j+1)) (.str d.name) true=some (.tuple [.agg (ky ((ca.1 d.name).getD ld)), .bool (ca.1 d.name).isSome]):=by
   rw[FM hJ.map];unfold lb;cases ca.1 d.name<;>rfl
  generalize AR:(ca.1 d.name).getD ld=dX at kF
  have nl:ky dX=[.Z dX.kind, .str dX.d.name, .Z dX.d.at_, .bool dX.d.ty.b, .bool dX.d.ty.s, .Z dX.d.ty.w, .str dX.d.on, .Z dX.d.et, .bool dX.d.no, .Z dX.eq, .Z dX.left]:=rfl
  rw[nl]at kF
  have kE:∀S' aN (G:(aY->Option c8)×List aY),tl X aM dT (j+1) (j+1+1) (dT+2) G.1 G.2 S' aN->G.2.length<=i+1->U X S' dT=some (.deferred (some []))->(D.bool true=D.bool true/\(tl X aM dT (j+1) (j+1+1) (dT+2) G.1 G.2 (bj X S' (dT+1) (some (mk .ready none))) aN/\G.2.length<=i+1)/\U X (bj X S' (dT+1) (some (mk .ready none))) dT=some (.deferred (some []))/\U X (bj X S' (dT+1) (some (mk .ready none))) (dT+1)=some (mk .ready none)):=λS' aN G a aC R=>
   ⟨rfl,⟨a.aa Zo Zo Zo (Zj _) (λe M R=>aB Zo Zo),aC⟩,by rw[aB Zo Zo];exact R,a7 Zo⟩
  refine pN ⟨?_⟩
  refine gi ?_
  refine fO @cY (bc fd) @fX (bc dg) @kF ⟨?_⟩
  generalize f9:bj X _ (bi+1+10) _=bZ
  have c3:∀e,e<bi+1->U X bZ e=U X bM e:=λe B=>by rw[<-f9];exact zy
  clear f9 kF
  have h6:tl X aM dT (j+1) (j+1+1) (dT+2) ca.1 ca.2 bZ (bi+1+13):=hJ.aa Zo Zo Zo Zo (λe M R=>c3 e M)
  rw[<-c3 _ Zo]at dg fT vU
  have Ec:aP X bZ (.ptr (j+1+1+1) 0)=some (.ptr (j+1+1) 0):=zD (c3 _ Zo) cY
  have ai9:U X bZ (j+1+1)=some (.cells kB 2 .own):=by rw[c3 _ Zo];exact fd
  cases aD:ca.1 d.name with
  |some aD0=>
   have gL:kM ca (fa,d)=ca:=by unfold kM;rw[Zr (by simp[aD])]
   rw[gL]
   simp only[Z7]
   refine cx ⟨?_⟩
   exact⟨⟨.busy,none,fT⟩,kE _ _ ca (h6.aa Zo Zo Zo Zo (λ_ _ _=>rfl)) Zo vU⟩
  |none=>
   have gL:kM ca (fa,d)=(λw=>if w=d.name then some ⟨fa,d, -1, -1⟩else ca.1 w,ca.2++[d.name]):=by unfold kM;rw[Zh (by simp[aD])]
   rw[gL]
   simp only[Z2]
   refine fI @Ec (bc ai9) @fX (bc dg) ⟨?_⟩
   generalize jn:bi+1+13+10=N
   obtain⟨ci,sF,H1,sD⟩:=Qv (j:=N) (show(o X).a2<=j+1 by omega) h6.map d.name (.agg (ky ⟨fa,d, -1, -1⟩))
   refine kb sF ?_
   have acC:aP X ci (.ptr (j+1+1+1) 0)=some (.ptr (j+1+1) 0):=zD (sD _ Zo) Ec
   have aja:U X ci (j+1+1)=some (.cells kB 2 .own):=by rw[sD _ Zo];exact ai9
   rw[<-sD _ Zo]at dg fT vU
   refine fI @acC (bc aja) @hZ (bc dg) ⟨?_⟩
   generalize kZ:bj X ci (N+7) _=dk
   have aro:U X dk (N+7)=zw [.str d.name] 1:=by rw[<-kZ,a7 Zo]
   have gp:∀e,e<N->U X dk e=U X ci e:=λe B=>by rw[<-kZ];exact zy
   clear kZ sF
   obtain⟨eJ,dt,gf,ii,agL,afd,rB⟩:=(po.aa (S':=dk) (λe B=>by have:=nZ e B;rw[gp e Zo,sD e Zo,c3 e Zo])).append (j:=N+12) Zd (rT aro (l8 _) rfl _) rfl Zd rfl Zx Zo (λe B=>zs (nZ e B))
   refine kb ii ?_
   have hg:∀e,e<N->e∉ap7->U X dt e=U X ci e:=λe B a=>by rw[rB e Zo a,gp e B]
   have apZ:aP X dt (.ptr (j+1+1+1) 0)=some (.ptr (j+1+1) 0):=zD (hg _ Zo (λa=>zs (nZ _ a))) acC
   have aBm:U X dt (j+1+1)=some (.cells kB 2 .own):=by rw[hg _ Zo (λa=>zs (nZ _ a))];exact aja
   refine cd @apZ ⟨?_⟩
   refine f4 (by simp[D.same]) ?_
   obtain⟨fQ,hY,yv⟩:=jB.one agL
   refine f8 (us aBm Zo Zo fQ hY) ?_
   refine cx ⟨?_⟩
   generalize o8:bj X dt (j+1+1) _=fR
   have Xd:U X fR (j+1+1)=some (.cells (kB.set 1 (some eJ)) 2 .own):=by rw[<-o8,a7 Zo]
   have kq:∀e,e≠j+1+1->U X fR e=U X dt e:=λe B=>by rw[<-o8,aB Zo B]
   clear o8
   have ej:∀e,e<bi+1->(e<dT\/e=dT\/e=dT+1)->e≠j+1+1->e≠j+1->U X fR e=U X bZ e:=λe B M R ak=>by
    rw[kq e R,hg e Zo (λa=>zs (nZ _ a)),sD e ak]
   refine⟨⟨.busy,none, ?_⟩,kE _ _ (_,ca.2++[d.name]) ⟨Zo, ?_,⟨kB.set 1 (some eJ),eJ,gf,Xd, ?_, ?_, ?_, ?_⟩, ?_⟩ Zx ?_⟩
   ·rw[kq _ Zo,hg _ Zo (λa=>zs (nZ _ a))];exact fT
   ·have:(λx=>if x=d.name then some (D.agg (ky ⟨fa,d, -1, -1⟩))else lb ca.1 x)=lb (λw=>if w=d.name then some ⟨fa,d, -1, -1⟩else ca.1 w):=by
     funext x;unfold lb;by_cases a:x=d.name<;>simp[a]
    rw[this]at H1
    exact H1.aa (by rw[kq _ Zo,hg _ Zo (λa=>zs (nZ _ a))])
   ·rw[Q.kW,Zh Zd];exact fX
   ·rw[Q.kW,Zr rfl]
   ·rw[ZX]
    exact .inl (agL.aa λe B=>kq e (by rcases afd e B with rfl|a;omega;have:=nZ _ a;omega))
   ·intro e B
    rcases afd e B with rfl|a
    ·omega
    ·have:=nZ _ a;omega
   ·intro e M R ak
    rw[ej e Zo (.inl M) ak R];exact h6.low e M R ak
   ·rw[kq _ Zo,hg _ Zo (λa=>zs (nZ _ a))];exact vU
 ·intro a1 bi gw nM
  rw[Y0]at gw
  obtain⟨gw,fg⟩:=gw
  change tl X aM dT (j+1) (j+1+1) (dT+2) (nu g).1 (nu g).2 a1 bi at gw
  change (nu g).2.length<=_ at fg
  have asE:U X a1 j=zw [.str g.name, .Z g.at_,c7,dv,aS,eH] 6:=by rw[gw.low _ Zo Zo Zo];exact jG
  have j6:=e8.wide
  have d0:=jo.len
  have hU:=jo.many
  rw[j6.1]at d0 hU
  refine cI (bc asE) @d0 ⟨?_⟩
  refine fh (λm I S' aN=>∃(S:Nat),I.g 3=some (.ptr (j+1+1+1) 0)/\I.g 54=some eH/\I.g 55=some (.Z (g.eqs.length:Int))/\I.g 56=some (.Z (S:Int))/\I.bh=[⟨.collected dT,[]⟩]/\S+m=g.eqs.length
   /\tl X aM dT (j+1) (j+1+1) (dT+2) ((g.eqs.zipIdx.take S).foldl Jf (nu g).1) (nu g).2 S' aN/\U X S' dT=some (.deferred (some [])))
   g.eqs.length ⟨0,a8,a8,a8,fq,rfl,Zo,gw,nM⟩ ?_
  rintro m I bA cK ⟨S,t3,kO,q3,qg,la,bE,o7,KP⟩
  have iF:=o7.le
  cases m with
  |zero=>
   have ay:=zt S g.eqs.length
   have apX:aP X bA (.ptr (j+1+1+1) 0)=some (.ptr (j+1+1) 0):=zD (o7.low _ Zo Zo Zo) cH
   refine fO @qg @q3 @t3 @ay @apX ⟨?_⟩
   have Ij:(g.eqs.zipIdx.take S).foldl Jf (nu g).1=ec g:=by
    rw[ZA Zx];rfl
   rw[Ij]at o7
   show n0 X [.tmp 2] _ _ _ _ _
   simp only[yB,la]
   refine⟨by show(o X).a2<=dT;omega,KP, ?_⟩
   show rS _ _ _ _ _
   unfold rS
   refine cx ⟨?_⟩
   have hJ:=o7.aa (aM:=bj X bA dT (some (.deferred none))) Zo Zo Zo (Zj _) (λe M R=>aB Zo Zo)
   obtain⟨c,s,cq,fd,fX,hZ,po,nZ⟩:=hJ.w3
   obtain⟨b,ag⟩:=po.MS (P:=dr j cK) (by simp[kL]at fg ⊢;omega) (λe B=>by have:=nZ e B;exact⟨Zo,Zo⟩)
   refine⟨j+1+1,j+1,s,b,rfl,⟨Zo,Zo⟩,⟨Zo,Zo⟩,by rw[bc fd];exact fX,hJ.map,by rw[bc fd];exact hZ, ?_,Zo,λe B=> ?_⟩
   ·have:e3 (kL g)=((nu g).2.map D.str).map λv=>[v]:=by unfold e3 kL;rw[YI];rfl
    rw[this];exact ag
   ·rw[hJ.low e Zo Zo Zo];exact hv.aa e B
  |succ m=>
   have ay:=zu S g.eqs.length
   have bz:=zx S
   obtain⟨aj,b0⟩:=zv g.eqs S
   obtain⟨row,e9,tW⟩:=e8.get S aj b0
   have lm:∀e,P e->U X bA e=U X h e:=λe B=>by have:=bq e B;rw[o7.low e Zo Zo Zo,nn e B]
   have dp:=jo.fx S (by rw[j6.1];omega)
   have hz:=(jo.aa lm).row Zd e9
   obtain⟨qY,s0,cX,dN,kc,rfl,iv,nQ,pf,rE⟩:=tW
   have AH:=kt iv.len
   have aF2:=kt nQ.1.len
   have Cy:=iv.len
   have Cz:=iv.many
   rw[show(e3 aj.left).length=aj.left.length from by simp[e3]]at Cy Cz
   have dd:=B8 Jf (nu g).1 (X5 b0)
   rw[show(aj,S)=(aj,S) from rfl]at dd
   generalize aun:(g.eqs.zipIdx.take S).foldl Jf (nu g).1=Rj at o7 dd
   refine hu @qg @q3 @kO @ay @dp @hz ⟨?_⟩
   refine f8 (iH (z:=4) (b:=cK) (W:=0) (n:=4) (c:=Q.ofList [.aV, .aV, .Z 0, .cJ] 0 .nil) (a7 Zo) Zo rfl Zd Zd rE) ?_
   generalize jI:bj X _ cK _=bM
   have fT:aP X bM (.ptr cK 0)=some qY:=by rw[<-jI,cv,a7 Zo];rfl
   have d7:∀e,e<cK->U X bM e=U X bA e:=λe B=>by rw[<-jI];exact zy
   clear jI
   have hJ:tl X aM dT (j+1) (j+1+1) (dT+2) Rj (nu g).2 bM (cK+1):=o7.aa Zo Zo Zo Zo (λe M R=>d7 e M)
   rw[<-d7 _ Zo]at KP
   refine cI @fT @Cy ⟨?_⟩
   refine fh (λgN I S' aN=>∃(i:Nat),I.g 3=some (.ptr (j+1+1+1) 0)/\I.g 54=some eH/\I.g 55=some (.Z (g.eqs.length:Int))/\I.g 56=some (.Z (S:Int))/\I.bh=[⟨.collected dT,[]⟩]/\I.g 8=some (.Z (S:Int))/\I.g 62=some qY/\I.g 63=some (.Z (aj.left.length:Int))/\I.g 64=some (.Z (i:Int))/\i+gN=aj.left.length
    /\tl X aM dT (j+1) (j+1+1) (dT+2) ((aj.left.zipIdx.take i).foldl (rP S) Rj) (nu g).2 S' aN/\U X S' dT=some (.deferred (some [])))
    aj.left.length ⟨0,aL t3,aL kO,aL q3,aL qg,la,a8,a8,a8,fq,Zo,hJ,KP⟩ ?_
   rintro gN c4 bZ dy ⟨i,t3,kO,q3,qg,la,t8,JA,Dw,vo,aG,h6,tC⟩
   have pb:=h6.le
   cases gN with
   |zero=>
    have ay:=zt i aj.left.length
    refine fO @vo @Dw @qg @ay @bz ⟨?_⟩
    rw[ZA Zx]at h6
    refine⟨m,Zo,S+1,aL t3,aL kO,aL q3,a8,la,Zo, ?_,tC⟩
    rw[dd]
    exact h6
   |succ gN=>
    have ay:=zu i aj.left.length
    have cF:=zx i
    obtain⟨w,bs⟩:=zv aj.left i
    have ph:∀e,P e->U X bZ e=U X h e:=λe B=>by have:=bq e B;rw[h6.low e Zo Zo Zo,nn e B]
    have tT:=iv.fx i (by simp[e3];omega)
    have hx:=(iv.aa ph).cell i [.str w] 0 (.str w) (by unfold e3;rw[Zu,bs];rfl) rfl
    rw[Z1]at tT
    rw[Z1,ZR]at hx
    have CG:=B8 (rP S) Rj (X5 bs)
    generalize aum:(aj.left.zipIdx.take i).foldl (rP S) Rj=pr at h6 CG
    have Ec:aP X bZ (.ptr (j+1+1+1) 0)=some (.ptr (j+1+1) 0):=zD (h6.low _ Zo Zo Zo) cH
    obtain⟨vI,aGR,aEG,fd,fX,hZ,po,nZ⟩:=h6.w3
    have kF:nU X bZ 9 (.agg [.Z 0, .str [], .Z 0, .zF, .zF, .Z 0, .str [], .Z 0, .zF, .Z 0, .Z 0]) (.map (j+1)) (.str w) true=some (.tuple [.agg (ky ((pr w).getD ld)), .bool (pr w).isSome]):=by
     rw[FM h6.map];unfold lb;cases pr w<;>rfl
    generalize AR:(pr w).getD ld=dX at kF
    have nl:ky dX=[.Z dX.kind, .str dX.d.name, .Z dX.d.at_, .bool dX.d.ty.b, .bool dX.d.ty.s, .Z dX.d.ty.w, .str dX.d.on, .Z dX.d.et, .bool dX.d.no, .Z dX.eq, .Z dX.left]:=rfl
    rw[nl]at kF
    refine d9 @vo @Dw @JA @t3 @ay @tT (Za @hx (Za @Ec (Za (bc fd) (Za @fX @kF)))) ⟨?_⟩
    generalize jW:bj X _ dy _=ci
    have d8:U X ci dy=zw [.Z dX.kind, .str dX.d.name, .Z dX.d.at_, .bool dX.d.ty.b, .bool dX.d.ty.s, .Z dX.d.ty.w, .str dX.d.on, .Z dX.d.et, .bool dX.d.no, .Z dX.eq, .Z dX.left] 11:=by rw[<-jW,a7 Zo];rfl
    have ft:∀e,e<dy->U X ci e=U X bZ e:=λe B=>by rw[<-jW];exact zy
    clear jW
    have sx:tl X aM dT (j+1) (j+1+1) (dT+2) pr (nu g).2 ci (dy+1):=h6.aa Zo Zo Zo Zo (λe M R=>ft e M)
    rw[<-ft _ Zo]at tC
    cases aD:pr w with
    |none=>
     have gL:rP S pr (w,i)=pr:=by unfold rP;simp only[aD]
     simp only[Z2]
     refine cI @vo @cF ⟨?_⟩
     exact⟨gN,Zo,i+1,aL t3,aL kO,aL q3,aL qg,la,aL t8,aL JA,aL Dw,a8,Zo,by rw[CG,gL];exact sx,tC⟩
    |some v=>
     have aw8:v=dX:=by rw[aD]at AR;exact AR
     subst aw8
     simp only[Z7]
     by_cases PD:v.eq<0
     ·have cy:decide (v.eq<0)=true:=by simp[PD]
      have gL:rP S pr (w,i)=λx=>if x=w then some ⟨v.kind,v.d,S,i⟩else pr x:=by unfold rP;simp only[aD,PD,ZE]
      refine fI (bc d8) @cy @t8 @vo ⟨?_⟩
      generalize kZ:bj X (bj X ci dy _) dy _=dk
      have fH:U X dk dy=zw [.Z v.kind, .str v.d.name, .Z v.d.at_, .bool v.d.ty.b, .bool v.d.ty.s, .Z v.d.ty.w, .str v.d.on, .Z v.d.et, .bool v.d.no, .Z S, .Z i] 11:=by rw[<-kZ,a7 Zo];rfl
      have gp:∀e,e≠dy->U X dk e=U X ci e:=λe B=>by rw[<-kZ,aB Zo B,aB Zo B]
      clear kZ d8
      have ja:tl X aM dT (j+1) (j+1+1) (dT+2) pr (nu g).2 dk (dy+1):=⟨sx.le,sx.map.aa (gp _ Zo),by
       obtain⟨c,s,cq,cN,cA,eb,fW,m2⟩:=h6.w3
       exact⟨c,s,cq,by rw[gp _ Zo,ft _ Zo];exact cN,cA,eb,fW.aa (λe B=>by have:=m2 e B;rw[gp e Zo,ft e Zo]),λe B=>zs (m2 e B)⟩,
       λe M R ak=>by rw[gp e Zo];exact sx.low e M R ak⟩
      have apY:aP X dk (.ptr (j+1+1+1) 0)=some (.ptr (j+1+1) 0):=by rw[cv,gp _ Zo,ft _ Zo, <-cv];exact Ec
      have aBl:U X dk (j+1+1)=some (.cells vI 2 .own):=by rw[gp _ Zo,ft _ Zo];exact fd
      refine fO @t3 @apY (bc aBl) @fX (bc fH) ⟨?_⟩
      obtain⟨dt,sF,aud,rB⟩:=Qv (j:=dy+1+7) (show(o X).a2<=j+1 by omega) ja.map w (.agg (ky ⟨v.kind,v.d,S,i⟩))
      refine kb sF ?_
      refine cI @vo @cF ⟨?_⟩
      refine⟨gN,Zo,i+1,aL t3,aL kO,aL q3,aL qg,la,aL t8,aL JA,aL Dw,a8,Zo, ?_,by rw[rB _ Zo,gp _ Zo];exact tC⟩
      rw[CG,gL]
      refine⟨Zo, ?_, ?_,λe M R ak=>by rw[rB e R];exact ja.low e M R ak⟩
      ·have:(λx=>if x=w then some (D.agg (ky ⟨v.kind,v.d,S,i⟩))else lb pr x)=lb (λx=>if x=w then some ⟨v.kind,v.d,S,i⟩else pr x):=by
        funext x;unfold lb;by_cases a:x=w<;>simp[a]
       rw[<-this];exact aud
      ·obtain⟨c,s,cq,cN,cA,eb,fW,m2⟩:=ja.w3
       exact⟨c,s,cq,by rw[rB _ Zo];exact cN,cA,eb,fW.aa (λe B=>by have:=m2 e B;exact rB e Zo),λe B=>zs (m2 e B)⟩
     ·have cy:decide (v.eq<0)=false:=by simp[PD]
      have gL:rP S pr (w,i)=pr:=by unfold rP;simp only[aD,PD,ZD]
      refine fI (bc d8) @cy @vo @cF ⟨?_⟩
      exact⟨gN,Zo,i+1,aL t3,aL kO,aL q3,aL qg,la,aL t8,aL JA,aL Dw,a8,Zo,by rw[CG,gL];exact sx,tC⟩
end
end
end Go.Proofs.YtpeabpmnlmaabaaGreatDoor

namespace Go.aT
structure iL where
 N:aY->Prop
 Hb:eu->Prop
 L:eu->Int->Prop
 a2:∀s,N s->s≠[]
 b6:Hb ⟨true,false,1⟩
 fy:L ⟨true,false,1⟩ 0
 eo:L ⟨true,false,1⟩ 1
 lt:∀t n,L t n->Hb t
 A:Int->Prop
 a0:A 0
structure D5(bG:iL)(x:Tok):Prop where
 name:x.kind=1->bG.N x.text
 type:x.kind=3->bG.Hb x.ty
 num:x.kind=4->0<=x.n
 lit:x.kind=5->bG.L x.ty x.n
 pos:x.kind≠7->bG.A x.at_
def hj(bG:iL)(l:List Tok):Prop:=∀x∈l,D5 bG x
def hj.kP{bG:iL}{x:Tok}{l:List Tok}(a:hj bG (x::l)):hj bG l:=λe B=>a e (Zw _ B)
def hj.aF{bG:iL}{x:Tok}{l:List Tok}(a:hj bG (x::l)):D5 bG x:=a x (Zv ..)
def tr(z:Int):Option Nat:=if z=25 then none else if z=1\/z=2 then some 0 else if z=3\/z=4\/z=5\/z=6\/z=19\/z=20\/z=26 then some 1 else if z=23 then some 3 else some 2
def uY(z:Int):Prop:=z=2\/z=6\/z=24\/z=25
def uZ(z:Int):Prop:=z=1\/z=26
structure DW(bG:iL)(E:bD):Prop where
 St:bG.A E.at_
 bQ:1<=E.kind
 ct:E.kind<=26
 tq:∀m,tr E.kind=some m->E.args.length=m
 nm:uY E.kind->bG.N E.name
 QB:¬uY E.kind->E.name=[]
 no:E.no=true->E.kind=6
 ty:uZ E.kind->bG.Hb E.ty
 dU:¬uZ E.kind->E.ty=dU
 ME:E.kind=1->bG.L E.ty E.n
 mY:E.kind=19\/E.kind=20->0<=E.n/\E.n<=63
 a2:E.kind≠1->E.kind≠19->E.kind≠20->E.n=0
 hS:E.kind=21->∃l r,E.args=[l,r]/\(l.kind=1\/l.kind=4/\∃x,l.args=[x]/\x.kind=1)
mutual
def e5(bG:iL):bD->Prop
 | .mk z H nm no ty n args=>DW bG (.mk z H nm no ty n args)/\gl bG args
def gl(bG:iL):List bD->Prop
 |[]=>True
 |E::l=>e5 bG E/\gl bG l
end
def e5.eq{bG:iL}(E:bD):e5 bG E=(DW bG E/\gl bG E.args):=by cases E;rw[e5];rfl
def gl.cons{bG:iL}{E:bD}{l:List bD}(a:e5 bG E)(z:gl bG l):gl bG (E::l):=by rw[gl];exact⟨a,z⟩
def gl.nil{bG:iL}:gl bG []:=by rw[gl];trivial
def gl.app{bG:iL}{E:bD}(a:e5 bG E):∀{l:List bD},gl bG l->gl bG (l++[E]):=by
 intro l
 induction l with
 |nil=>intro _;exact gl.cons a gl.nil
 |cons H l ai=>intro z;rw[gl]at z;exact gl.cons z.1 (ai z.2)
def dE(bG:iL){α:Type}(bu:α->Prop)(x:gC α):Prop:=∀H ce,x=some (.ok (H,ce))->hj bG ce/\bu H
section
variable{bG:iL}{α eZ:Type}
def dE.none{bu:α->Prop}:dE bG bu none:=λ_ _ a=>by cases a
def dE.ok{bu:α->Prop}{H:α}{l:List Tok}(a:hj bG l)(aj:bu H):dE bG bu (aT.ok H l):=λfL ce E=>by cases E;exact⟨a,aj⟩
def dE.bad{bu:α->Prop}(H:Int):dE bG bu (aT.bad H:gC α):=λfL ce E=>by cases E
def dE.andThen{bu:α->Prop}{se:eZ->Prop}{x:gC α}{f:α->List Tok->gC eZ}(a:dE bG bu x)(z:∀H ce,hj bG ce->bu H->dE bG se (f H ce)):dE bG se (aT.andThen x f):=by
 unfold aT.andThen
 split
 ·exact dE.none
 ·exact λ_ _ E=>by cases E
 ·rename_i H l
  obtain⟨M,R⟩:=a H l rfl
  exact z H l M R
def D5.ho{x:Tok}{s:aY}(a:D5 bG x)(aD:ho x s=true):bG.A x.at_:=a.pos λE=>by simp[aT.ho,E]at aD
def oO{s:aY}{l:List Tok}(a:hj bG l):dE bG (λx:Tok=>bG.A x.at_) (eL s l):=by
 cases l with
 |nil=>exact dE.none
 |cons x l=>
  simp only[eL]
  split
  ·rename_i aD;exact dE.ok a.kP (a.aF.ho aD)
  ·exact dE.bad _
def wI{z:Int}{l:List Tok}(a:hj bG l):dE bG (λx:Tok=>D5 bG x/\x.kind=z) (je z l):=by
 cases l with
 |nil=>exact dE.none
 |cons x l=>
  simp only[je]
  split
  ·rename_i aD;exact dE.ok a.kP ⟨a.aF,aD⟩
  ·exact dE.bad _
def q5{s:aY}{l:List Tok}{f:Option Tok->List Tok->gC eZ}{bu:eZ->Prop}(a:hj bG l)(M:∀x ce,bG.A x.at_->hj bG ce->dE bG bu (f (some x) ce))(R:dE bG bu (f none l)):dE bG bu (iI s l f):=by
 cases l with
 |nil=>exact dE.none
 |cons x l=>
  unfold iI mG
  by_cases aD:ho x s=true
  ·simp only[aD,ZE];exact M x l (a.aF.ho aD) a.kP
  ·simp only[aD,ZD];exact R
def NS{l:List Tok}(a:hj bG l):∀(os:List (aY×Int)) E ce,pF os l=some (E,ce)->hj bG ce/\∀x,E=some x->∃W∈os,∃H,bG.A H/\x= .mk W.2 H [] false dU 0 []:=by
 intro os
 induction os with
 |nil=>intro E ce bC;cases bC;exact⟨a,λx ae=>by cases ae⟩
 |cons W os ai=>
  obtain⟨s,z⟩:=W
  intro E ce bC
  cases l with
  |nil=>simp[pF,mG]at bC
  |cons x l=>
   unfold pF mG at bC
   by_cases aD:ho x s=true
   ·simp only[aD,ZE]at bC
    cases bC
    exact⟨a.kP,λe B=>by cases B;exact⟨_,Zv ..,_,a.aF.ho aD,rfl⟩⟩
   ·simp only[aD,ZD]at bC
    obtain⟨M,R⟩:=ai E ce bC
    exact⟨M,λe B=>by obtain⟨W,bf,H,az⟩:=R e B;exact⟨W,Zw _ bf,H,az⟩⟩
def akj{z H:Int}{x e:bD}(aJ:7<=z/\z<=18\/z=22)(ae:e5 bG x)(B:e5 bG e)(az:bG.A H):e5 bG (.mk z H [] false dU 0 [x,e]):=by
 rw[e5.eq]
 refine⟨⟨az,by simp only[bD.kind];omega,by simp only[bD.kind];omega, ?_, ?_,λ_=>rfl,(λa=>absurd a (by simp[bD.no])), ?_,λ_=>rfl, ?_, ?_,λ_ _ _=>rfl, ?_⟩,gl.cons ae (gl.cons B gl.nil)⟩
 ·intro m bp
  have wv:tr z=some m:=bp
  unfold tr at wv
  rw[Zh Zo,Zh Zo,Zh Zo,Zh Zo]at wv
  cases wv;rfl
 ·intro a;simp only[uY,bD.kind]at a;omega
 ·intro a;simp only[uZ,bD.kind]at a;omega
 ·intro a;simp only[bD.kind]at a;omega
 ·intro a;simp only[bD.kind]at a;omega
 ·intro a;simp only[bD.kind]at a;omega
def Nj{z H n:Int}{nm:aY}{no:Bool}{ty:eu}{x:bD}(aJ:z=3\/z=4\/z=5\/z=6\/z=19\/z=20\/z=26)(jb:z=6->bG.N nm)(he:z≠6->nm=[]/\no=false)(be:z=26->bG.Hb ty)(VT:z≠26->ty=dU)(aE:z=19\/z=20->0<=n/\n<=63)(avV:z≠19->z≠20->n=0)(ae:e5 bG x)(az:bG.A H):e5 bG (.mk z H nm no ty n [x]):=by
 rw[e5.eq]
 refine⟨⟨az,by simp only[bD.kind];omega,by simp only[bD.kind];omega, ?_, ?_, ?_, ?_, ?_, ?_, ?_,aE, ?_, ?_⟩,gl.cons ae gl.nil⟩
 ·intro m bp
  have wv:tr z=some m:=bp
  unfold tr at wv
  rw[Zh Zo,Zh Zo,Zr aJ]at wv
  cases wv;rfl
 ·intro a;simp only[uY,bD.kind]at a;exact jb Zo
 ·intro a;simp only[uY,bD.kind]at a;exact(he Zo).1
 ·intro a
  by_cases b9:z=6
  ·exact b9
  ·have cz:no=true:=a
   rw[(he b9).2]at cz;cases cz
 ·intro a;simp only[uZ,bD.kind]at a;exact be Zo
 ·intro a;simp only[uZ,bD.kind]at a;exact VT Zo
 ·intro a;simp only[bD.kind]at a;omega
 ·intro M R ak;exact avV R ak
 ·intro a;simp only[bD.kind]at a;omega
def aki{H n:Int}{ty:eu}(a:bG.L ty n)(az:bG.A H):e5 bG (.mk 1 H [] false ty n []):=by
 rw[e5.eq]
 exact⟨⟨az,by simp[bD.kind],by simp[bD.kind],λm bp=>by simp[tr,bD.kind]at bp;simp[bD.args, <-bp],λa=>by simp[uY,bD.kind]at a,λ_=>rfl,(λa=>absurd a (by simp[bD.no])),λ_=>bG.lt _ _ a,λa=>by simp[uZ,bD.kind]at a,λ_=>a,λa=>by simp[bD.kind]at a,λa=>by simp[bD.kind]at a,λa=>by simp[bD.kind]at a⟩,gl.nil⟩
def aEg{H:Int}{nm:aY}(a:bG.N nm)(az:bG.A H):e5 bG (.mk 2 H nm false dU 0 []):=by
 rw[e5.eq]
 exact⟨⟨az,by simp[bD.kind],by simp[bD.kind],λm bp=>by simp[tr,bD.kind]at bp;simp[bD.args, <-bp],λ_=>a,λa=>by simp[uY,bD.kind]at a,(λa=>absurd a (by simp[bD.no])),λa=>by simp[uZ,bD.kind]at a,λ_=>rfl,λa=>by simp[bD.kind]at a,λa=>by simp[bD.kind]at a,λ_ _ _=>rfl,λa=>by simp[bD.kind]at a⟩,gl.nil⟩
def aEc{H:Int}{nm:aY}{cu:List bD}(a:bG.N nm)(z:gl bG cu)(az:bG.A H):e5 bG (.mk 25 H nm false dU 0 cu):=by
 rw[e5.eq]
 exact⟨⟨az,by simp[bD.kind],by simp[bD.kind],λm bp=>by simp[tr,bD.kind]at bp,λ_=>a,λa=>by simp[uY,bD.kind]at a,(λa=>absurd a (by simp[bD.no])),λa=>by simp[uZ,bD.kind]at a,λ_=>rfl,λa=>by simp[bD.kind]at a,λa=>by simp[bD.kind]at a,λ_ _ _=>rfl,λa=>by simp[bD.kind]at a⟩,z⟩
def aEe{H:Int}{x e bm:bD}(ae:e5 bG x)(B:e5 bG e)(ch:e5 bG bm)(az:bG.A H):e5 bG (.mk 23 H [] false dU 0 [x,e,bm]):=by
 rw[e5.eq]
 exact⟨⟨az,by simp[bD.kind],by simp[bD.kind],λm bp=>by simp[tr,bD.kind]at bp;simp[bD.args, <-bp],λa=>by simp[uY,bD.kind]at a,λ_=>rfl,(λa=>absurd a (by simp[bD.no])),λa=>by simp[uZ,bD.kind]at a,λ_=>rfl,λa=>by simp[bD.kind]at a,λa=>by simp[bD.kind]at a,λ_ _ _=>rfl,λa=>by simp[bD.kind]at a⟩,gl.cons ae (gl.cons B (gl.cons ch gl.nil))⟩
def aEf{H:Int}{nm:aY}{x e:bD}(a:bG.N nm)(ae:e5 bG x)(B:e5 bG e)(az:bG.A H):e5 bG (.mk 24 H nm false dU 0 [x,e]):=by
 rw[e5.eq]
 exact⟨⟨az,by simp[bD.kind],by simp[bD.kind],λm bp=>by simp[tr,bD.kind]at bp;simp[bD.args, <-bp],λ_=>a,λa=>by simp[uY,bD.kind]at a,(λa=>absurd a (by simp[bD.no])),λa=>by simp[uZ,bD.kind]at a,λ_=>rfl,λa=>by simp[bD.kind]at a,λa=>by simp[bD.kind]at a,λ_ _ _=>rfl,λa=>by simp[bD.kind]at a⟩,gl.cons ae (gl.cons B gl.nil)⟩
def aEd{H:Int}{x e:bD}(a:vd x=some true)(ae:e5 bG x)(B:e5 bG e)(az:bG.A H):e5 bG (.mk 21 H [] false dU 0 [x,e]):=by
 rw[e5.eq]
 refine⟨⟨az,by simp[bD.kind],by simp[bD.kind],λm bp=>by simp[tr,bD.kind]at bp;simp[bD.args, <-bp],λa=>by simp[uY,bD.kind]at a,λ_=>rfl,(λa=>absurd a (by simp[bD.no])),λa=>by simp[uZ,bD.kind]at a,λ_=>rfl,λa=>by simp[bD.kind]at a,λa=>by simp[bD.kind]at a,λ_ _ _=>rfl,λ_=>⟨x,e,rfl, ?_⟩⟩,gl.cons ae (gl.cons B gl.nil)⟩
 unfold vd at a
 split at a
 ·rename_i M;exact .inl M
 ·split at a
  ·rename_i M aA
   refine .inr ⟨aA, ?_⟩
   have rJ:=ae
   rw[e5.eq]at rJ
   have aC:=rJ.1.tq 1 (by rw[aA];rfl)
   cases az:x.args with
   |nil=>rw[az]at aC;cases aC
   |cons b l=>
    rw[az]at aC a
    cases l with
    |nil=>exact⟨b,rfl,by simpa using a⟩
    |cons c l=>simp at aC
  ·cases a
def aAu:∀(z:Nat) (W:aY×Int),W∈ar z->7<=W.2/\W.2<=18:=by
 intro z W a
 match z with
 |0=>simp[ar]at a;rcases a with rfl|rfl<;>decide
 |1=>simp[ar]at a;subst a;decide
 |2=>simp[ar]at a;rcases a with rfl|rfl|rfl|rfl|rfl|rfl<;>decide
 |3=>simp[ar]at a;rcases a with rfl|rfl<;>decide
 |4=>simp[ar]at a;subst a;decide
 |n+5=>simp[ar]at a
def aA3(W:aY×Int)(a:W∈A6):W.2=3\/W.2=4\/W.2=5:=by
 simp[A6]at a;rcases a with rfl|rfl|rfl<;>simp
end
structure akE(bG:iL)(n:Nat):Prop where
 level:∀z l,hj bG l->dE bG (e5 bG) (level n z l)
 p4:∀z E l,hj bG l->e5 bG E->dE bG (e5 bG) (p4 n z E l)
 shift:∀l,hj bG l->dE bG (e5 bG) (shift n l)
 qd:∀E l,hj bG l->e5 bG E->dE bG (e5 bG) (qd n E l)
 qe:∀z x E l,z=19\/z=20->bG.A x.at_->hj bG l->e5 bG E->dE bG (e5 bG) (qe n z x E l)
 vh:∀l,hj bG l->dE bG (e5 bG) (yw n l)
 n7:∀E l,hj bG l->e5 bG E->dE bG (e5 bG) (n7 n E l)
 part:∀l,hj bG l->dE bG (e5 bG) (part n l)
 list:∀l,hj bG l->dE bG (gl bG) (list n l)
 p5:∀cu l,hj bG l->gl bG cu->dE bG (gl bG) (p5 n cu l)
 mv:∀l,hj bG l->dE bG (e5 bG) (mv n l)
 arrow:∀l,hj bG l->dE bG (e5 bG) (arrow n l)
def apB(bG:iL):∀n,akE bG n:=by
 intro n
 induction n with
 |zero=>constructor<;>intros<;>exact dE.none
 |succ n ai=>
  constructor
  case level=>
   intro z l aC
   rw[level]
   split
   ·exact ai.shift l aC
   ·exact(ai.level (z+1) l aC).andThen λE ce M R=>ai.p4 z E ce M R
  case p4=>
   intro z E l aC bC
   rw[p4]
   split
   ·exact dE.none
   ·rename_i ce ag
    exact dE.ok (NS aC _ _ _ ag).1 bC
   ·rename_i x ce ag
    obtain⟨M,R⟩:=NS aC _ _ _ ag
    obtain⟨W,bf,H,az,rfl⟩:=R _ rfl
    have aJ:=aAu _ _ bf
    refine(ai.level (z+1) ce M).andThen λr cR bQ ct=> ?_
    have be:e5 bG (two (.mk W.2 H [] false dU 0 []) E r):=akj (z:=W.2) (.inl aJ) bC ct az
    split
    ·exact dE.ok bQ be
    ·exact ai.p4 z _ cR bQ be
  case shift=>
   intro l aC
   rw[shift]
   exact(ai.vh l aC).andThen λE ce M R=>ai.qd E ce M R
  case qd=>
   intro E l aC bC
   rw[qd]
   refine q5 aC (λx ce az M=>ai.qe 19 x E ce (.inl rfl) az M bC) ?_
   exact q5 aC (λx ce az M=>ai.qe 20 x E ce (.inr rfl) az M bC) (dE.ok aC bC)
  case qe=>
   intro z x E l aJ az aC bC
   rw[qe]
   refine(wI aC).andThen λm ce M R=> ?_
   split
   ·exact dE.bad _
   ·rename_i aEX
    have aX:=R.1.num R.2
    exact ai.qd _ ce M (Nj Zo (λa=>Zo) (λ_=>⟨rfl,rfl⟩) (λa=>Zo) (λ_=>rfl) (λ_=>⟨aX,Zo⟩) (λM R=>Zo) bC az)
  case vh=>
   intro l aC
   rw[yw]
   split
   ·exact dE.none
   ·rename_i x ce ag
    obtain⟨M,R⟩:=NS aC _ _ _ ag
    obtain⟨W,bf,H,az,rfl⟩:=R _ rfl
    have aJ:=aA3 _ bf
    refine(ai.vh ce M).andThen λE cR bQ ct=>dE.ok bQ ?_
    exact Nj (z:=W.2) Zo (λa=>Zo) (λ_=>⟨rfl,rfl⟩) (λa=>Zo) (λ_=>rfl) (λa=>Zo) (λ_ _=>rfl) ct az
   ·rename_i ce ag
    exact(ai.part ce (NS aC _ _ _ ag).1).andThen λE cR bQ ct=>ai.n7 E cR bQ ct
  case n7=>
   intro E l aC bC
   rw[n7]
   refine q5 aC (λx ce az M=> ?_) (dE.ok aC bC)
   refine q5 M (λe cR _ bQ=> ?_) ?_
   ·refine(wI bQ).andThen λm eQ fu gj=> ?_
    exact ai.n7 _ eQ fu (Nj Zo (λ_=>gj.1.name gj.2) (λa=>absurd rfl a) (λa=>Zo) (λ_=>rfl) (λa=>Zo) (λ_ _=>rfl) bC az)
   ·refine(wI M).andThen λm eQ fu gj=> ?_
    exact ai.n7 _ eQ fu (Nj Zo (λ_=>gj.1.name gj.2) (λa=>absurd rfl a) (λa=>Zo) (λ_=>rfl) (λa=>Zo) (λ_ _=>rfl) bC az)
  case list=>
   intro l aC
   rw[list]
   refine q5 aC (λx ce _ M=>dE.ok M gl.nil) ?_
   exact(ai.arrow l aC).andThen λE cR bQ ct=>ai.p5 _ cR bQ (gl.cons ct gl.nil)
  case p5=>
   intro cu l aC az
   rw[p5]
   refine q5 aC (λx ce _ M=> ?_) ?_
   ·exact(ai.arrow ce M).andThen λE cR bQ ct=>ai.p5 _ cR bQ (gl.app ct az)
   ·exact(oO aC).andThen λ_ ce M _=>dE.ok M az
  case mv=>
   intro l aC
   rw[mv]
   refine(ai.level 0 l aC).andThen λE cR bQ ct=> ?_
   refine q5 bQ (λx ce az M=> ?_) (dE.ok bQ ct)
   simp only[]
   split
   ·exact dE.none
   ·rename_i Ct
    exact(ai.mv ce M).andThen λr eQ fu gj=>dE.ok fu (aEd Ct ct gj az)
   ·exact dE.bad _
  case arrow=>
   intro l aC
   rw[arrow]
   refine(ai.mv l aC).andThen λE cR bQ ct=> ?_
   refine q5 bQ (λx ce az M=> ?_) (dE.ok bQ ct)
   exact(ai.arrow ce M).andThen λr eQ fu gj=>dE.ok fu (akj (.inr rfl) ct gj az)
  case part=>
   intro l aC
   cases l with
   |nil=>rw[part];exact dE.none
   |cons x l=>
   have ae:=aC.aF
   have hK:=aC.kP
   rw[part]
   by_cases kB:x.kind=5
   ·rw[Zr kB]
    exact dE.ok hK (aki (ae.lit kB) (ae.pos (by rw[kB];decide)))
   rw[Zh kB]
   split
   ·rename_i R
    refine dE.ok hK (aki ?_ (ae.pos λE=>by simp[E]at R))
    split
    ·exact bG.eo
    ·exact bG.fy
   by_cases cX:x.kind=1
   ·rw[Zr cX]
    refine q5 hK (λe cR _ M=> ?_) (dE.ok hK (aEg (ae.name cX) (ae.pos (by rw[cX];decide))))
    exact(ai.list cR M).andThen λcu eQ fu gj=>dE.ok fu (aEc (ae.name cX) gj (ae.pos (by rw[cX];decide)))
   rw[Zh cX]
   by_cases g6:x.kind=3
   ·rw[Zr g6]
    refine(oO hK).andThen λ_ cR M _=> ?_
    refine(ai.arrow cR M).andThen λE eQ fu gj=> ?_
    refine(oO fu).andThen λ_ hl fQ _=> ?_
    exact dE.ok fQ (Nj Zo (λa=>Zo) (λ_=>⟨rfl,rfl⟩) (λ_=>ae.type g6) (λa=>absurd rfl a) (λa=>Zo) (λ_ _=>rfl) gj (ae.pos (by rw[g6];decide)))
   rw[Zh g6]
   split
   ·refine(ai.arrow l hK).andThen λE eQ fu gj=> ?_
    refine(oO fu).andThen λ_ hl fQ _=> ?_
    exact dE.ok fQ gj
   split
   ·rename_i R
    refine(ai.arrow l hK).andThen λE eQ fu gj=> ?_
    refine(oO fu).andThen λ_ hl fQ _=> ?_
    refine(ai.arrow hl fQ).andThen λcF g3 cN cA=> ?_
    refine(oO cN).andThen λ_ ma fd _=> ?_
    refine(ai.arrow ma fd).andThen λf0 mV jw j0=> ?_
    exact dE.ok jw (aEe gj cA j0 (ae.pos λE=>by simp[E]at R))
   split
   ·rename_i R
    refine(wI hK).andThen λc cR M ax=> ?_
    refine(ai.part cR M).andThen λE eQ fu gj=> ?_
    refine(ai.part eQ fu).andThen λcF hl fQ hY=> ?_
    exact dE.ok fQ (aEf (ax.1.name ax.2) gj hY (ae.pos λE=>by simp[E]at R))
   ·exact dE.bad _
structure qn(bG:iL)(d:eF):Prop where
 name:bG.N d.name
 type:bG.Hb d.ty
 on:d.on≠[]->bG.N d.on
 no:d.on=[]->d.no=false
 St:bG.A d.at_
 op:bG.A d.et
structure JR(bG:iL)(aj:gt):Prop where
 left:∀s∈aj.left,bG.N s
 some:aj.left≠[]
 right:e5 bG aj.right
 St:bG.A aj.at_
 aGA:∀H∈aj.di,bG.A H
structure oa(bG:iL)(g:Node):Prop where
 name:bG.N g.name
 d4:∀d∈g.d4,qn bG d
 out:∀d∈g.out,qn bG d
 loc:∀d∈g.loc,qn bG d
 some:g.out≠[]
 eqs:∀aj∈g.eqs,JR bG aj
 St:bG.A g.at_
def yU(bG:iL)(cn:List Tok):Prop:=∀x∈cn,bG.N x.text/\bG.A x.at_
def yU.app{bG:iL}{x:Tok}{cn:List Tok}(a:yU bG cn)(ae:bG.N x.text/\bG.A x.at_):yU bG (cn++[x]):=by
 intro e B
 rcases Zz.1 B with B|B
 ·exact a e B
 ·simp at B;subst B;exact ae
def aii{bG:iL}:∀(n:Nat) (cu l:List Tok),hj bG l->yU bG cu->dE bG (λcn=>yU bG cn/\cn≠[]) (ea n cu l):=by
 intro n
 induction n with
 |zero=>intro cu l _ _;rw[ea];exact dE.none
 |succ n ai=>
  intro cu l aC az
  rw[ea]
  refine(wI aC).andThen λx ce M ae=> ?_
  have aE:=az.app ⟨ae.1.name ae.2,ae.1.pos (by rw[ae.2];decide)⟩
  refine q5 M (λe cR _ R=>ai _ cR R aE) (dE.ok M ⟨aE,Zs⟩)
def adf{bG:iL}{w:Option Tok}{l:List Tok}(aC:hj bG l):dE bG (λr:aY×Int×Bool=>((r.1≠[]->bG.N r.1)/\(r.1=[]->r.2.2=false))/\bG.A r.2.1) (BY w l):=by
 unfold BY
 split
 ·exact dE.ok aC ⟨⟨λa=>absurd rfl a,λ_=>rfl⟩,bG.a0⟩
 ·refine q5 aC (λe cR _ R=> ?_) ?_
  ·exact(wI R).andThen λx ce M ae=>dE.ok M ⟨⟨λ_=>ae.1.name ae.2,λa=>absurd a (bG.a2 _ (ae.1.name ae.2))⟩,ae.1.pos (by rw[ae.2];decide)⟩
  ·exact(wI aC).andThen λx ce M ae=>dE.ok M ⟨⟨λ_=>ae.1.name ae.2,λa=>absurd a (bG.a2 _ (ae.1.name ae.2))⟩,ae.1.pos (by rw[ae.2];decide)⟩
def hj.drop{bG:iL}{l:List Tok}(a:hj bG l)(n:Nat):hj bG (l.drop n):=λx ae=>a x (zb ae)
def ade{bG:iL}{loc:Bool}{z:List eF->List Tok->gC (List eF)}{bu:List eF->Prop}{ds:List eF}{l:List Tok}(aC:hj bG l)(b0:bu ds)(aJ:∀ce,hj bG ce->dE bG bu (z ds ce)):dE bG bu (mJ loc z ds l):=by
 unfold mJ
 split
 ·exact dE.none
 ·split
  ·split
   ·split
    ·exact dE.none
    ·split
     ·exact dE.ok aC b0
     ·exact aJ _ (aC.drop 1)
   ·exact aJ _ (aC.drop 1)
  ·exact dE.ok aC b0
def S6{bG:iL}{loc:Bool}:∀(n:Nat) (ds:List eF) (l:List Tok),hj bG l->(∀d∈ds,qn bG d)->dE bG (λds=>(∀d∈ds,qn bG d)/\ds≠[]) (jD n loc ds l):=by
 intro n
 induction n with
 |zero=>intro ds l _ _;rw[jD];exact dE.none
 |succ n ai=>
  intro ds l aC aF
  rw[jD]
  refine(aii n [] l aC (λ_ a=>by cases a)).andThen λcn ce M ae=> ?_
  unfold El
  refine(oO M).andThen λ_ cR R _=> ?_
  refine(wI R).andThen λt eQ ak be=> ?_
  have pR:∀r:aY×Int×Bool,((r.1≠[]->bG.N r.1)/\(r.1=[]->r.2.2=false))/\bG.A r.2.1->∀d∈ds++cn.map (qx t.ty r.1 r.2.1 r.2.2),qn bG d:=by
   intro r Y d auR
   rcases Zz.1 auR with a|a
   ·exact aF d a
   ·obtain⟨x,IF,rfl⟩:=ZI.1 a
    exact⟨(ae.1 x IF).1,be.1.type be.2,Y.1.1,Y.1.2,(ae.1 x IF).2,Y.2⟩
  refine q5 ak (λw hl _ aA=> ?_) ?_
  ·refine(adf aA).andThen λr g3 bv Y=> ?_
   exact ade bv ⟨pR r Y,by simp[ae.2]⟩ (λce a=>ai _ ce a (pR r Y))
  ·refine(adf ak).andThen λr g3 bv Y=> ?_
   exact ade bv ⟨pR r Y,by simp[ae.2]⟩ (λce a=>ai _ ce a (pR r Y))
def arW{bG:iL}(n:Nat){l:List Tok}(aC:hj bG l):dE bG (JR bG) (vT n l):=by
 have yf:∀(cn:List Tok) (l:List Tok),hj bG l->yU bG cn/\cn≠[]->dE bG (JR bG) (andThen (eL [61] l) λE l=>andThen (arrow n l) λr l=>andThen (eL [59] l) λ_ l=>ok ⟨cn.map Tok.text,cn.map Tok.at_,E.at_,r⟩ l):=by
  intro cn l aC ae
  refine(oO aC).andThen λE cR R auY=> ?_
  refine((apB bG n).arrow cR R).andThen λr eQ ak Y=> ?_
  refine(oO ak).andThen λ_ hl aA _=>dE.ok aA ⟨?_,by simp[ae.2],Y,auY, ?_⟩
  ·intro s aD
   obtain⟨x,IF,rfl⟩:=ZI.1 aD
   exact(ae.1 x IF).1
  ·intro s aD
   obtain⟨x,IF,rfl⟩:=ZI.1 aD
   exact(ae.1 x IF).2
 have rD:∀x:Tok,D5 bG x/\x.kind=1->yU bG [x]:=λx ae e B=>by simp at B;subst B;exact⟨ae.1.name ae.2,ae.1.pos (by rw[ae.2];decide)⟩
 unfold vT
 refine q5 aC (λe cR _ R=> ?_) ?_
 ·refine dE.andThen (bu:=λcn=>yU bG cn/\cn≠[]) ?_ yf
  refine(wI R).andThen λx eQ ak ae=> ?_
  refine(oO ak).andThen λ_ hl aA _=> ?_
  refine(aii n [x] hl aA (rD x ae)).andThen λcn g3 bv CM=> ?_
  exact(oO bv).andThen λ_ ma b9 _=>dE.ok b9 CM
 ·refine dE.andThen (bu:=λcn=>yU bG cn/\cn≠[]) ?_ yf
  exact(wI aC).andThen λx eQ ak ae=>dE.ok ak ⟨rD x ae,Zs⟩
def arY{bG:iL}:∀(n:Nat) (c9:List gt) (l:List Tok),hj bG l->(∀aj∈c9,JR bG aj)->dE bG (λc9=>∀aj∈c9,JR bG aj) (mu n c9 l):=by
 intro n
 induction n with
 |zero=>intro c9 l _ _;rw[mu];exact dE.none
 |succ n ai=>
  intro c9 l aC b0
  rw[mu]
  refine q5 aC (λe cR _ R=>dE.ok R b0) ?_
  refine(arW n aC).andThen λaj cR R awl=>ai _ cR R ?_
  intro Ge a
  rcases Zz.1 a with a|a
  ·exact b0 Ge a
  ·simp at a;subst a;exact awl
def az0{bG:iL}(n:Nat){l:List Tok}(aC:hj bG l):dE bG (oa bG) (node n l):=by
 unfold node
 refine(oO aC).andThen λ_ l M _=> ?_
 refine(wI M).andThen λx l R ae=> ?_
 refine(oO R).andThen λ_ l ak _=> ?_
 have yf:∀(d4:List eF) (l:List Tok),hj bG l->(∀d∈d4,qn bG d)->dE bG (oa bG) (andThen (eL [114,101,116,117,114,110,115] l) λ_ l=>andThen (eL [40] l) λ_ l=>andThen (jD n false [] l) λout l=>andThen (eL [41] l) λ_ l=>
  iI [118,97,114] l λe l=>andThen (match e with
   |some _=>andThen (jD n true [] l) λds l=>andThen (eL [59] l) λ_ l=>ok ds l
   |none=>ok [] l) λloc l=>
  andThen (eL [108,101,116] l) λ_ l=>andThen (mu n [] l) λc9 l=>ok ⟨x.text,x.at_,d4,out,loc,c9⟩ l):=by
  intro d4 l aC aG
  refine(oO aC).andThen λ_ l M _=> ?_
  refine(oO M).andThen λ_ l R _=> ?_
  refine(S6 n [] l R (λ_ a=>by cases a)).andThen λout l ak bf=> ?_
  refine(oO ak).andThen λ_ l aA _=> ?_
  have afX:∀(loc:List eF) (l:List Tok),hj bG l->(∀d∈loc,qn bG d)->dE bG (oa bG) (andThen (eL [108,101,116] l) λ_ l=>andThen (mu n [] l) λc9 l=>ok ⟨x.text,x.at_,d4,out,loc,c9⟩ l):=by
   intro loc l aC avC
   refine(oO aC).andThen λ_ l bv _=> ?_
   exact(arY n [] l bv (λ_ a=>by cases a)).andThen λc9 l b9 awn=>dE.ok b9 ⟨ae.1.name ae.2,aG,bf.1,avC,bf.2,awn,ae.1.pos (by rw[ae.2];decide)⟩
  refine q5 aA (λe cR _ bv=> ?_) ?_
  ·refine dE.andThen (bu:=λds=>∀d∈ds,qn bG d) ?_ afX
   refine(S6 n [] cR bv (λ_ a=>by cases a)).andThen λds l b9 UN=> ?_
   exact(oO b9).andThen λ_ l dl _=>dE.ok dl UN.1
  ·exact dE.andThen (bu:=λds=>∀d∈ds,qn bG d) (dE.ok aA (λ_ a=>by cases a)) afX
 refine q5 ak (λe cR _ aA=> ?_) ?_
 ·exact dE.andThen (bu:=λds=>∀d∈ds,qn bG d) (dE.ok aA (λ_ a=>by cases a)) yf
 ·refine dE.andThen (bu:=λds=>∀d∈ds,qn bG d) ?_ yf
  refine(S6 n [] _ ak (λ_ a=>by cases a)).andThen λds l b9 UN=> ?_
  exact(oO b9).andThen λ_ l dl _=>dE.ok dl UN.1
def az2{bG:iL}:∀(n:Nat) (am:List Node) (l:List Tok),hj bG l->(∀g∈am,oa bG g)->dE bG (λam=>(∀g∈am,oa bG g)/\am≠[]) (p8 n am l):=by
 intro n
 induction n with
 |zero=>intro am l _ _;rw[p8];exact dE.none
 |succ n ai=>
  intro am l aC b2
  rw[p8]
  refine(az0 n aC).andThen λg cR R avg=> ?_
  have afB:∀TF∈am++[g],oa bG TF:=by
   intro TF a
   rcases Zz.1 a with a|a
   ·exact b2 TF a
   ·simp at a;subst a;exact avg
  split
  ·exact dE.none
  ·split
   ·exact dE.ok R ⟨afB,Zs⟩
   ·exact ai _ _ R afB
end Go.aT

namespace Go.Proofs.YtpeabpmnlmaabaaGreatDoor
open Go.bd Go.aT
noncomputable section
structure G2(s:aY):Prop where
 ne:s≠[]
 len:s.length<=32
 ap1:∀c,s.head?=some c->rK c=true
 all:∀c∈s,jr c=true
 res:s∉wU
 ty:lU s=none
def R2(t:eu)(n:Int):Prop:=lo t=true/\wz t n=true/\0<=n/\n<18446744073709551616
def av1:wz ⟨true,false,1⟩ 0=true:=by decide+kernel
def av2:wz ⟨true,false,1⟩ 1=true:=by decide+kernel
def jl:iL:=⟨G2,λt=>lo t=true,R2,λ_ a=>a.ne,rfl,⟨rfl,av1,Zo,Zo⟩,⟨rfl,av2,Zo,Zo⟩,λ_ _ a=>a.1,λ_=>True,trivial⟩
def BL(n:Nat):iL:={jl with A:=λH=>0<=H/\H<=n,a0:=⟨Int.le_refl 0,Int.natCast_nonneg n⟩}
def aDu{
 s:aY}{i:Nat}{x:Tok}(a:yG s i=some x):D5 jl (ml x i):=by
 unfold yG at a
 cases ax:s[i]? with
 |none=>rw[ax]at a;cases a
 |some c=>
  rw[ax]at a
  simp only[]at a
  obtain⟨ae,B⟩:=Zc.1 ax
  have aF:s.drop i=c::s.drop (i+1):=by rw[Zq ae,B]
  split at a
  ·unfold F1 at a
   simp only[]at a
   split at a
   ·cases a
   ·have cZ:=ai2 ((s.drop i).takeWhile jc)
    split at a
    ·cases a
     exact⟨λa=>by simp[ml]at a,λa=>by simp[ml]at a,λ_=>by simp only[ml];omega,λa=>by simp[ml]at a,λ_=>trivial⟩
    ·split at a
     ·rename_i t be
      split at a
      ·rename_i gx
       cases a
       simp only[Zp]at gx
       exact⟨λa=>by simp[ml]at a,λa=>by simp[ml]at a,λa=>by simp[ml]at a,λ_=>⟨XR be,gx.2,by simp only[ml];omega,by simp only[ml];omega⟩,λ_=>trivial⟩
      ·cases a
     ·cases a
  ·split at a
   ·rename_i ag
    split at a
    ·rename_i aC
     cases a
     have bs:(s.drop i).takeWhile jr=c::(s.drop (i+1)).takeWhile jr:=by
      rw[aF,YC]
      have:jr c=true:=by simp[jr,ag]
      simp[this]
     refine⟨λa=> ?_,λa=> ?_,λa=> ?_,λa=> ?_,λ_=>trivial⟩
     ·simp only[ml,vf]at a ⊢
      split at a
      ·cases a
      ·rename_i aE
       split at a
       ·cases a
       ·rename_i Y
        have hK:((s.drop i).takeWhile jr).length<=32:=by simpa[vf]using aC
        refine⟨by rw[bs];simp,hK, ?_,ajN jr _,Y,by simpa using aE⟩
        intro fS cz
        rw[bs]at cz
        cases cz
        exact ag
     ·simp only[ml,vf]at a ⊢
      split at a
      ·rename_i aE
       cases be:lU ((s.drop i).takeWhile jr)with
       |none=>rw[be]at aE;cases aE
       |some t=>exact XR be
      ·split at a<;>cases a
     ·simp only[ml,vf]at a
      split at a
      ·cases a
      ·split at a<;>cases a
     ·simp only[ml,vf]at a
      split at a
      ·cases a
      ·split at a<;>cases a
    ·cases a
   ·cases aD:wW s i with
    |none=>rw[aD]at a;cases a
    |some p=>
     rw[aD]at a
     cases a
     exact⟨λa=>by simp[ml,Gp]at a,λa=>by simp[ml,Gp]at a,λa=>by simp[ml,Gp]at a,λa=>by simp[ml,Gp]at a,λ_=>trivial⟩
def aDx{s:aY}:∀(n:Nat) (aW:List Tok) (i:Nat) (ny:List Tok),hj jl aW->rY s n aW i=some (.ok ny)->hj jl ny:=by
 intro n
 induction n with
 |zero=>intro aW i ny _ a;cases a
 |succ n ai=>
  intro aW i ny be a
  rw[rY]at a
  split at a
  ·split at a
   ·cases a
   ·rename_i x ae
    refine ai _ _ _ ?_ a
    intro e B
    rcases Zz.1 B with B|B
    ·exact be e B
    ·simp at B;subst B;exact aDu ae
  ·cases a
   intro e B
   rcases Zz.1 B with B|B
   ·exact be e B
   ·simp at B;subst B;exact⟨λa=>by simp at a,λa=>by simp at a,λa=>by simp at a,λa=>by simp at a,λ_=>trivial⟩
def aDv{s:aY}:∀(n:Nat) (aW:List Tok) (i:Nat) (ny:List Tok),(∀x∈aW,x.kind≠7->0<=x.at_/\x.at_<=s.length)->rY s n aW i=some (.ok ny)->∀x∈ny,x.kind≠7->0<=x.at_/\x.at_<=s.length:=by
 intro n
 induction n with
 |zero=>intro aW i ny _ a;cases a
 |succ n ai=>
  intro aW i ny be a
  rw[rY]at a
  split at a
  ·rename_i aG
   split at a
   ·cases a
   ·rename_i x ae
    refine ai _ _ _ ?_ a
    intro e B
    rcases Zz.1 B with B|B
    ·exact be e B
    ·simp at B;subst B;intro _;simp only[ml];omega
  ·cases a
   intro e B
   rcases Zz.1 B with B|B
   ·exact be e B
   ·simp at B;subst B;intro a;exact absurd rfl a
def aAR{s:aY}{am:List Go.aT.Node}(a:Dm s= .ok am):(∀g∈am,oa (BL s.length) g)/\am≠[]/\qR am=none:=by
 unfold Dm at a
 split at a
 ·rename_i r Y
  subst a
  unfold Dn at Y
  split at Y
  ·cases Y
  ·cases Y
  ·rename_i aW be
   have awX:=aDv _ _ _ _ (λ_ a=>by cases a) be
   have LZ:hj (BL s.length) aW:=λx ae=>by
    obtain⟨M,R,ak,aA,_⟩:=aDx _ _ _ _ (λ_ a=>by cases a) be x ae
    exact⟨M,R,ak,aA,awX x ae⟩
   split at Y
   ·cases Y
   ·cases Y
   ·rename_i jH l aE
    obtain⟨M,R⟩:=az2 (bG:=BL s.length) _ _ _ LZ (λ_ a=>by cases a) _ _ aE
    split at Y
    ·cases Y
    ·rename_i aC
     cases Y
     exact⟨R.1,R.2,aC⟩
 ·cases a
def azV{n:Nat}{E:bD}(a:DW (BL n) E):DW jl E:=⟨trivial,a.bQ,a.ct,a.tq,a.nm,a.QB,a.no,a.ty,a.dU,a.ME,a.mY,a.a2,a.hS⟩
mutual
def akg{n:Nat}:∀{E:bD},e5 (BL n) E->e5 jl E
 | .mk ..,a=>by rw[e5]at a ⊢;exact⟨azV a.1,akh a.2⟩
def akh{n:Nat}:∀{l:List bD},gl (BL n) l->gl jl l
 |[],_=>gl.nil
 |_::_,a=>by rw[gl]at a;exact gl.cons (akg a.1) (akh a.2)
end
def S4{n:Nat}{d:eF}(a:qn (BL n) d):qn jl d:=⟨a.name,a.type,a.on,a.no,trivial,trivial⟩
def azX{n:Nat}{g:Go.aT.Node}(a:oa (BL n) g):oa jl g:=⟨a.name,λd aF=>S4 (a.d4 d aF),λd aF=>S4 (a.out d aF),λd aF=>S4 (a.loc d aF),a.some,λaj b0=>⟨(a.eqs aj b0).left,(a.eqs aj b0).some,akg (a.eqs aj b0).right,trivial,λ_ _=>trivial⟩,trivial⟩
def aAQ{s:aY}{am:List Go.aT.Node}(a:Dm s= .ok am):(∀g∈am,oa jl g)/\am≠[]/\qR am=none:=
 have z:=aAR a
 ⟨λg b2=>azX (z.1 g b2),z.2⟩
mutual
def MM:bD->List bD
 | .mk z H nm no t n args=> .mk z H nm no t n args::MN args
def MN:List bD->List bD
 |[]=>[]
 |E::l=>MM E++MN l
end
mutual
def akb{gd:Type}(step:gd->bD->gd×Bool)(a:∀s E,(step s E).2=true):∀(E:bD) (s:gd),DA step s E=(MM E).foldl (λs E=>(step s E).1) s
 | .mk z H nm no t n args,s=>by
   rw[DA,Zr (a _ _),MM,ZS]
   exact akc step a args _
def akc{gd:Type}(step:gd->bD->gd×Bool)(a:∀s E,(step s E).2=true):∀(l:List bD) (s:gd),yK step s l=(MN l).foldl (λs E=>(step s E).1) s
 |[],s=>by rw[yK,MN];rfl
 |E::l,s=>by
  rw[yK,MN,List.foldl_append,akb step a E s]
  exact akc step a l _
end
def sO(aj:gt):List (aY×Int):=aj.left.zipIdx.map λx=>(x.1,(aj.di[x.2]?).getD 0)
def oD(t:aY->Option c8)(s:(aY->Option Int)×(Int×Int))(x:aY×Int):(aY->Option Int)×(Int×Int):=(λw=>if w=x.1 then some ((s.1 x.1).getD 0+1)else s.1 w,Mp t s.1 s.2 x.1 x.2)
def oG(t:aY->Option c8)(am:List Go.aT.Node)(z:Nat)(s:(aY->Option Int)×(Int×Int))(aj:gt):(aY->Option Int)×(Int×Int):=
 (((sO aj).foldl (oD t) s).1,Q2 t am z ((sO aj).foldl (oD t) s).2 aj.right)
def s3(ad:aY->Option Int)(f:Int×Int)(x:Int×eF):Int×Int:=if x.1≠1/\(ad x.2.name).getD 0=0 then nc f 37 x.2.at_ else f
def yr(am:List Go.aT.Node)(z:Nat)(g:Go.aT.Node):Int×Int:=if (qA am g.name).getD 0<z then nc (0,0) 24 g.at_ else(0,0)
def ue(am:List Go.aT.Node)(z:Nat)(g:Go.aT.Node):Int×Int:=
 (gD g).foldl (s3 (g.eqs.foldl (oG (ec g) am z) (λ_=>none,vQ (ec g) g (yr am z g))).1) (g.eqs.foldl (oG (ec g) am z) (λ_=>none,vQ (ec g) g (yr am z g))).2
def Hu(am:List Go.aT.Node):Nat->List Go.aT.Node->Int×Int
 |_,[]=>(0,0)
 |z,g::l=>if (ue am z g).1≠0 then ue am z g else Hu am (z+1) l
def re(am:List Go.aT.Node):Int×Int:=Hu am 0 am
def Ev(f:Int×Int){c:Int}(H:Int)(ax:c≠0):(nc f c H).1≠0:=by
 unfold nc
 split
 ·exact ax
 ·rename_i a;exact a
def ad5{α:Type}(bad:α->Prop)[DecidablePred bad](c H:α->Int)(ax:∀x,c x≠0):∀(l:List α) (f:Int×Int),(l.foldl (λf x=>if bad x then nc f (c x) (H x)else f) f).1=0↔f.1=0/\∀x∈l,¬bad x:=by
 intro l
 induction l with
 |nil=>intro f;simp
 |cons x l ai=>
  intro f
  rw[ZS,ai]
  by_cases ag:bad x
  ·have:=Ev f (H x) (ax x)
   simp[ag,this]
  ·simp[ag]
def aig(g:Go.aT.Node):List aY:=(gD g).map λx=>x.2.name
def ars{g:Go.aT.Node}{x:Int×eF}(a:x∈gD g):x.1=1/\x.2∈g.d4\/x.1=2/\x.2∈g.out\/x.1=3/\x.2∈g.loc:=by
 simp only[gD,Zz,ZI]at a
 rcases a with ⟨d,a,rfl⟩|⟨d,a,rfl⟩|⟨d,a,rfl⟩<;>simp[a]
def arl:∀(l:List (Int×eF)) (s:aY->Option Int) (f:Int×Int),(∀x∈l,0<x.1)->((l.foldl mr (s,f)).2.1=0↔f.1=0/\(l.map λx=>x.2.name).Nodup/\∀x∈l,¬0<(s x.2.name).getD 0):=by
 intro l
 induction l with
 |nil=>intro s f _;simp
 |cons x l ai=>
  intro s f aw
  rw[ZS]
  have ae:=aw x (Zv ..)
  rw[show mr (s,f) x=((mr (s,f) x).1,(mr (s,f) x).2) from rfl,ai _ _ (λe B=>aw e (Zw _ B))]
  simp only[mr,ZP,zk,Zt,ZI]
  constructor
  ·rintro⟨M,R,ak⟩
   by_cases ag:0<(s x.2.name).getD 0
   ·rw[Zr ag]at M
    exact absurd M (Ev f _ Zd)
   ·rw[Zh ag]at M
    refine⟨M,⟨?_,R⟩, ?_⟩
    ·rintro⟨e,B,bC⟩
     have:=ak e B
     rw[Zr bC]at this
     exact this (by simpa using ae)
    ·rintro e (rfl|B)
     ·exact ag
     ·have:=ak e B
      split at this
      ·exact absurd ae (by simpa using this)
      ·exact this
  ·rintro⟨M,⟨R,ak⟩,aA⟩
   have ag:¬0<(s x.2.name).getD 0:=aA x (.inl rfl)
   refine⟨by rw[Zh ag];exact M,ak,λe B=> ?_⟩
   rw[Zh (λE=>R ⟨e,B,E⟩)]
   exact aA e (.inr B)
def aq1{g:Go.aT.Node}{t:aY->Option c8}{f:Int×Int}:(vQ t g f).1=0↔f.1=0/\(aig g).Nodup/\∀x∈gD g,¬(t x.2.on=none/\x.2.on≠[]):=by
 unfold vQ
 have R:=ad5 (λx:Int×eF=>t x.2.on=none/\x.2.on≠[]) (λ_=>23) (λx=>x.2.et) (λ_=>Zd) (gD g) ((gD g).foldl mr (λ_=>none,f)).2
 have ak:(gD g).foldl (sr t) ((gD g).foldl mr (λ_=>none,f)).2=(gD g).foldl (λf x=>if t x.2.on=none/\x.2.on≠[]then nc f 23 x.2.et else f) ((gD g).foldl mr (λ_=>none,f)).2:=rfl
 rw[ak,R,arl _ _ _ (λx ae=>by rcases ars ae with a|a|a<;>omega)]
 simp[aig,and_assoc]
def lE(w:aY)(l:List aY):Int:=((l.filter λx=>decide (x=w)).length:Int)
def Kq(w x:aY)(l:List aY):lE w (x::l)=(if x=w then 1 else 0)+lE w l:=by
 unfold lE
 rw[List.filter_cons]
 by_cases a:x=w
 ·simp[a];omega
 ·simp[a]
def ac1(w:aY):lE w []=0:=rfl
def Hx(w:aY)(l:List aY):0<=lE w l:=by unfold lE;omega
def aqM(w:aY)(l m:List aY):lE w (l++m)=lE w l+lE w m:=by unfold lE;rw[List.filter_append,ZH];omega
def ac0{w:aY}{l:List aY}:0<lE w l↔w∈l:=by
 induction l with
 |nil=>simp[ac1]
 |cons x l ai=>
  have:=Hx w l
  rw[Kq]
  by_cases a:x=w
  ·simp[a];omega
  ·have cz:¬w=x:=λE=>a E.symm
   simp[a,cz,ai]
def ah1(t:aY->Option c8):∀(l:List (aY×Int)) (s:(aY->Option Int)×(Int×Int)) (w:aY),((l.foldl (oD t) s).1 w).getD 0=(s.1 w).getD 0+lE w (l.map Prod.fst):=by
 intro l
 induction l with
 |nil=>intro s w;simp[ac1]
 |cons x l ai=>
  intro s w
  rw[ZS,ai,ZP,Kq]
  simp only[oD]
  by_cases a:w=x.1
  ·subst a;simp;omega
  ·have cz:¬x.1=w:=λE=>a E.symm
   simp[a,cz]
def ay7(t:aY->Option c8):∀(l:List (aY×Int)) (s:(aY->Option Int)×(Int×Int)),(∀w,0<=(s.1 w).getD 0)->((l.foldl (oD t) s).2.1=0↔s.2.1=0/\∀w∈l.map Prod.fst,∃v,t w=some v/\v.kind≠1/\(s.1 w).getD 0+lE w (l.map Prod.fst)<=1):=by
 intro l
 induction l with
 |nil=>intro s _;simp
 |cons x l ai=>
  intro s aD
  have tY:∀w,0<=((oD t s x).1 w).getD 0:=by
   intro w
   have:=aD w
   have:=aD x.1
   simp only[oD]
   split
   ·simp;omega
   ·assumption
  rw[ZS,ai _ tY]
  have CL:=aD x.1
  constructor
  ·rintro⟨M,R⟩
   have ak:s.2.1=0/\∃v,t x.1=some v/\v.kind≠1/\(s.1 x.1).getD 0+1<=1:=by
    simp only[oD,Mp]at M
    cases be:t x.1 with
    |none=>rw[be]at M;exact absurd M (Ev _ _ Zd)
    |some v=>
     rw[be]at M
     simp only[]at M
     split at M
     ·exact absurd M (Ev _ _ Zd)
     ·rename_i b0
      exact⟨M,v,rfl,λE=>b0 (.inl E),by have:¬1<(s.1 x.1).getD 0+1:=λE=>b0 (.inr E);omega⟩
   refine⟨ak.1,λw bs=> ?_⟩
   rw[ZP,Zt]at bs
   rw[ZP,Kq]
   by_cases CK:w=x.1
   ·subst CK
    obtain⟨v,aA,bv,b9⟩:=ak.2
    refine⟨v,aA,bv, ?_⟩
    by_cases bp:x.1∈l.map Prod.fst
    ·obtain⟨hr,_,_,dl⟩:=R _ bp
     simp only[oD,ZE,YQ]at dl ⊢
     omega
    ·have:¬0<lE x.1 (l.map Prod.fst):=λE=>bp (ac0.1 E)
     have:=Hx x.1 (l.map Prod.fst)
     simp only[ZE]
     omega
   ·rcases bs with bs|bs
    ·exact absurd bs CK
    ·obtain⟨v,aA,bv,b9⟩:=R _ bs
     have VZ:¬x.1=w:=λE=>CK E.symm
     simp only[oD,CK,ZD]at b9
     exact⟨v,aA,bv,by simp only[VZ,ZD];omega⟩
  ·rintro⟨M,R⟩
   obtain⟨v,aA,bv,b9⟩:=R x.1 Zs
   rw[ZP,Kq,Zr rfl]at b9
   have ax:=Hx x.1 (l.map Prod.fst)
   refine⟨?_,λw bs=> ?_⟩
   ·simp only[oD,Mp,aA]
    rw[Zh (by rintro(E|E);exact bv E;omega)]
    exact M
   ·obtain⟨hr,bQ,ct,c1⟩:=R w (by rw[ZP];exact Zw _ bs)
    refine⟨hr,bQ,ct, ?_⟩
    rw[ZP,Kq]at c1
    simp only[oD]
    by_cases CK:w=x.1
    ·subst CK;simp only[ZE,YQ];simp only[ZE]at c1;omega
    ·have VZ:¬x.1=w:=λE=>CK E.symm
     simp only[CK,ZD];simp only[VZ,ZD]at c1;omega
def ahO(aj:gt):(sO aj).map Prod.fst=aj.left:=by
 simp only[sO,YI]
 have:(Prod.fst∘λx:aY×Nat=>(x.1,(aj.di[x.2]?).getD 0))=Prod.fst:=rfl
 rw[this]
 exact List.zipIdx_map_fst ..
def NH(t:aY->Option c8)(am:List Go.aT.Node)(z:Nat)(E:bD):Prop:=∀x∈MM E,(yq x=true->(t x.name).isSome=true)/\(x.kind=25->∃S,qA am x.name=some S/\S<z)
def aBN{t:aY->Option c8}{am:List Go.aT.Node}{z:Nat}{f:Int×Int}{E:bD}:(Q2 t am z f E).1=0↔f.1=0/\NH t am z E:=by
 unfold Q2 NH
 rw[akb _ (λ_ _=>rfl)]
 generalize MM E=l
 induction l generalizing f with
 |nil=>simp
 |cons x l ai=>
  rw[ZS,ai]
  have M:(up t am z f x).1.1=0↔f.1=0/\(yq x=true->(t x.name).isSome=true)/\(x.kind=25->∃S,qA am x.name=some S/\S<z):=by
   simp only[up,Js]
   have R:(yy t f x).1=0↔f.1=0/\(yq x=true->(t x.name).isSome=true):=by
    unfold yy
    by_cases a:yq x=true
    ·rw[Zr a]
     by_cases cz:(t x.name).isSome=true
     ·rw[Zr cz];simp[cz]
     ·rw[Zh cz];simp[a,cz,Ev]
    ·rw[Zh a];simp[a]
   by_cases tE:x.kind=25
   ·rw[Zr tE]
    cases b7:qA am x.name with
    |none=>simp[Ev,tE]
    |some S=>
     simp only[]
     by_cases aJ:z<=S
     ·rw[Zr aJ]
      have:¬S<z:=Zo
      simp[Ev,tE,this]
     ·rw[Zh aJ,R]
      have:S<z:=Zo
      simp[tE,this]
   ·rw[Zh tE,R];simp[tE]
  rw[M]
  simp only[Zt,forall_eq_or_imp,and_assoc]
def aBk(t:aY->Option c8)(am:List Go.aT.Node)(z:Nat):∀(l:List gt) (s:(aY->Option Int)×(Int×Int)),(∀w,0<=(s.1 w).getD 0)->((l.foldl (oG t am z) s).2.1=0↔s.2.1=0/\(∀w∈l.flatMap gt.left,∃v,t w=some v/\v.kind≠1/\(s.1 w).getD 0+lE w (l.flatMap gt.left)<=1)/\∀aj∈l,NH t am z aj.right):=by
 intro l
 induction l with
 |nil=>intro s _;simp
 |cons aj l ai=>
  intro s aD
  have tY:∀w,0<=((oG t am z s aj).1 w).getD 0:=by
   intro w
   simp only[oG]
   rw[ah1]
   have:=aD w
   have:=Hx w ((sO aj).map Prod.fst)
   omega
  rw[ZS,ai _ tY]
  have bz:(oG t am z s aj).2.1=0↔(s.2.1=0/\∀w∈aj.left,∃v,t w=some v/\v.kind≠1/\(s.1 w).getD 0+lE w aj.left<=1)/\NH t am z aj.right:=by
   simp only[oG]
   rw[aBN,ay7 t _ _ aD,ahO]
  have cF:∀w,((oG t am z s aj).1 w).getD 0=(s.1 w).getD 0+lE w aj.left:=by
   intro w
   simp only[oG]
   rw[ah1,ahO]
  rw[bz]
  simp only[cF,YW,aqM,Zz,Zt,forall_eq_or_imp]
  constructor
  ·rintro⟨⟨⟨M,R⟩,ak⟩,aA,bv⟩
   refine⟨M,λw bs=> ?_,ak,bv⟩
   by_cases bp:w∈l.flatMap gt.left
   ·obtain⟨v,bQ,ct,c1⟩:=aA w bp
    exact⟨v,bQ,ct,Zo⟩
   ·have aX:¬0<lE w (l.flatMap gt.left):=λE=>bp (ac0.1 E)
    have:=Hx w (l.flatMap gt.left)
    obtain⟨v,bQ,ct,c1⟩:=R w (bs.resolve_right bp)
    exact⟨v,bQ,ct,Zo⟩
  ·rintro⟨M,R,ak,aA⟩
   refine⟨⟨⟨M,λw bs=> ?_⟩,ak⟩,λw bs=> ?_,aA⟩
   ·obtain⟨v,bQ,ct,c1⟩:=R w (.inl bs)
    have:=Hx w (l.flatMap gt.left)
    exact⟨v,bQ,ct,Zo⟩
   ·obtain⟨v,bQ,ct,c1⟩:=R w (.inr bs)
    exact⟨v,bQ,ct,Zo⟩
def aDL(ad:aY->Option Int)(l:List (Int×eF))(f:Int×Int):(l.foldl (s3 ad) f).1=0↔f.1=0/\∀x∈l,¬(x.1≠1/\(ad x.2.name).getD 0=0):=
 ad5 (λx:Int×eF=>x.1≠1/\(ad x.2.name).getD 0=0) (λ_=>37) (λx=>x.2.at_) (λ_=>Zd) l f
section
variable{X:cl}{h S' fi aI aM:Q af}{j an aO aZ:Nat}
structure yT(X:cl)(fR:Q af)(dT bO df:Nat)(p:D)(z:Int)(b6:D)(f:Int×Int)(ad:aY->Option Int)(h:Q af)(n:Nat):Prop where
 le:dT<=n
 kh:gs X h bO p z b6 (.map df) f
 lE:py X h df (o2 ad)
 low:∀e,e<dT->e≠bO->e≠df->U X h e=U X fR e
def yT.aa{fR:Q af}{dT bO df:Nat}{p b6:D}{z:Int}{f:Int×Int}{ad:aY->Option Int}(a:yT X fR dT bO df p z b6 f ad aI aO)(iD:bO<dT)(ya:df<dT)(aE:aO<=aZ)(aJ:∀e,e<aO->U X aM e=U X aI e):yT X fR dT bO df p z b6 f ad aM aZ:=by
 have gn:=a.le
 refine⟨Zo, ?_,a.lE.aa (aJ _ Zo),λe M R ak=>by rw[aJ e Zo];exact a.low e M R ak⟩
 have:=a.kh
 unfold gs at*
 rw[aJ _ Zo];exact this
def Eb(aj:gt)(i:Nat):Int:=(aj.di[i]?).getD 0
def ayO{aj:gt}{i:Nat}{w:aY}(a:aj.left[i]? =some w):(sO aj)[i]? =some (w,Eb aj i):=by
 unfold sO
 rw[Zu,X5 a];rfl
def ayP(aj:gt):(sO aj).length=aj.left.length:=by simp[sO]
def aqB(au:dj X){P:Nat->Prop}{bO df:Nat}{p b6:D}{z:Nat}{am:List Go.aT.Node}{g:Go.aT.Node}(aE:(o X).a2<=j)(iD:(o X).a2<=bO)(x4:(o X).a2<=df)(wj:bO<j)(x5:df<j)(u0:bO≠df)
 (bq:∀e,P e->e<j/\e≠bO/\e≠df)(b2:oS X h P am p)(aJ:am[z]? =some g)(be:i1 X h P b6 (ec g))(ax:gs X h bO p z b6 (.map df) (0,0))(fU:py X h df (o2 λ_=>none)):
 aU X 53 [.ptr bO 0] h j (λac S' an=>ac= .tuple []/\gs X S' bO p z b6 (.map df) (ue am z g)/\j<=an/\∀e,e<j->e≠bO->e≠df->U X S' e=U X h e) (λ_ _ _=>False):=by
 refine Kn (ann X) (au.none _ _ rfl) ?_
 rw[ano]
 unfold abb
 obtain⟨jv,Jk,QR,aGL,rfl,om,aiK,agz,agy⟩:=id b2
 have LL:=agy.wide
 have aFf:=(Zc.1 aJ).1
 obtain⟨row,e9,jK⟩:=agy.get z g aJ
 have sG:=jK
 have jL:=jK.jf
 obtain⟨c7,dv,aS,eH,bY,co,cY,fM,bK,rfl,k1,ko,ov,jo,e8⟩:=jK
 have av9:=bq jv om
 have dB:aP X h (.ptr bO 0)=some (.ptr jv 0):=by unfold gs at ax;rw[bc ax];rfl
 have cX:aP X h (.ptr bO 1)=some (.Z (z:Int)):=by unfold gs at ax;rw[bc ax];rfl
 have dp:=agz.fx z (by rw[LL.1];omega)
 refine pN ⟨?_⟩
 generalize c6:bj X h j _=aI
 have jG:U X aI j=zw [.ptr bO 0] 1:=by rw[<-c6,a7 aE];rfl
 have bH:ba X h j aI (j+1):=by rw[<-c6];exact dz
 clear c6
 have l9:∀e,P e->U X aI e=U X h e:=λe B=>bH.aa e (bq e B).1
 rw[<-bH.eV _ _ wj]at dB cX
 rw[<-bH.eV _ _ av9.1]at aiK
 have hz:=(agz.aa l9).row Zd e9
 refine gh (bc jG) @dB (Za @cX (Za @aiK (Za @dp @hz))) ⟨?_⟩
 refine f8 (iH (z:=6) (b:=j+1+13) (W:=0) (n:=6) (c:=Q.ofList [.str [], .Z 0, .aV, .aV, .aV, .aV] 0 .nil) (a7 Zo) Zo rfl Zd Zd jL) ?_
 generalize d3:bj X _ (j+1+13) _=aM
 have bN:U X aM (j+1+13)=zw [.str g.name, .Z g.at_,c7,dv,aS,eH] 6:=by rw[<-d3,a7 Zo];rfl
 have bx:ba X aI (j+1) aM (j+1+14):=by rw[<-d3];exact dz
 clear d3
 rw[<-bx.aa _ Zo]at jG
 have hv:ba X h j aM (j+1+14):=⟨Zo,λe B=>by rw[bx.aa e Zo,bH.aa e B]⟩
 have nn:∀e,P e->U X aM e=U X h e:=λe B=>hv.aa e (bq e B).1
 rw[<-bx.eV _ _ Zo]at dB cX
 refine gh (bc jG) @dB (bc bN) ⟨?_⟩
 refine(Tx (j:=j+1+15+12) (h:=aM) au Zo (b2.aa (bu:=P) nn (λ_ a=>a)) (λe B=>zs (bq e B).1) g.name).Zm ?_
 rintro ac a1 bi ⟨rfl,ck⟩
 have iO:=ck.le
 rw[<-ck.aa _ Zo]at jG bN
 rw[<-ck.eV _ _ Zo]at dB cX
 have qC:ba X h j a1 bi:=⟨Zo,λe B=>by rw[ck.aa e Zo,hv.aa e B]⟩
 have jt:∀e,P e->U X a1 e=U X h e:=λe B=>qC.aa e (bq e B).1
 have Au:yT X a1 bi bO df (.ptr jv 0) z b6 (0,0) (λ_=>none) a1 bi:=⟨Zj _,by unfold gs at*;rw[qC.aa _ wj];exact ax,fU.aa (qC.aa _ x5),λ_ _ _ _=>rfl⟩
 generalize LX:(qA am g.name).getD 0=Rk
 have he:yr am z g=if Rk<z then nc (0,0) 24 g.at_ else(0,0):=by unfold yr;rw[LX]
 refine gh (bc jG) @dB @cX ⟨?_⟩
 refine iR (λc4 S' aN=>c4.g 1=some (.ptr j 0)/\c4.g 2=some (.ptr (j+1+13) 0)/\c4.bh=[]/\yT X a1 bi bO df (.ptr jv 0) z b6 (yr am z g) (λ_=>none) S' aN) (λS bE=> ?_) ?_
 ·by_cases cZ:Rk<z
  ·have ay:=zu Rk z
   rw[Zr cZ]at he
   refine dI @ay (bc jG) (bc bN) ⟨?_⟩
   refine(xC (h:=a1) au iD Au.kh 24 g.at_).Zm ?_
   rintro ac bA cK ⟨rfl,wi,iF,gF⟩
   refine cx ⟨?_⟩
   exact bE _ _ _ ⟨a8,a8,rfl,Zo,by rw[he];exact wi,Au.lE.aa (gF _ (λE=>u0 E.symm)),λe M R ak=>gF e R⟩
  ·have ay:=zt Rk z
   rw[Zh cZ]at he
   refine cd @ay ⟨?_⟩
   exact bE _ _ _ ⟨a8,a8,rfl,by rw[he];exact Au⟩
 rintro I bA cK ⟨t1,eK,la,o7⟩
 have iF:=o7.le
 have asF:U X bA j=zw [.ptr bO 0] 1:=by rw[o7.low _ Zo Zo Zo];exact jG
 have asL:U X bA (j+1+13)=zw [.str g.name, .Z g.at_,c7,dv,aS,eH] 6:=by rw[o7.low _ Zo Zo Zo];exact bN
 have lm:∀e,P e->U X bA e=U X h e:=λe B=>by have:=bq e B;rw[o7.low e Zo this.2.1 this.2.2,jt e B]
 show cw _ _
 refine gh @t1 @eK (Za (bc asF) (bc asL)) ⟨?_⟩
 refine(aq3 (j:=cK) (h:=bA) au Zo iD Zo (λe B=>⟨zs (bq e B).1,(bq e B).2.1⟩) (be.aa (bu:=P) lm (λ_ a=>a)) o7.kh (sG.aa (bu:=P) lm (λ_ a=>a)) trivial).Zm ?_
 rintro ac bM bX ⟨rfl,EQ,ik,mx⟩
 have hJ:yT X a1 bi bO df (.ptr jv 0) z b6 (vQ (ec g) g (yr am z g)) (λ_=>none) bM bX:=⟨Zo,EQ,o7.lE.aa (mx _ Zo (λE=>u0 E.symm)),λe M R ak=>by rw[mx e Zo R];exact o7.low e M R ak⟩
 have asM:U X bM (j+1+13)=zw [.str g.name, .Z g.at_,c7,dv,aS,eH] 6:=by rw[hJ.low _ Zo Zo Zo];exact bN
 have j6:=e8.wide
 have d0:=jo.len
 have hU:=jo.many
 rw[j6.1]at d0 hU
 have Vl:ue am z g=(gD g).foldl (s3 (g.eqs.foldl (oG (ec g) am z) (λ_=>none,vQ (ec g) g (yr am z g))).1) (g.eqs.foldl (oG (ec g) am z) (λ_=>none,vQ (ec g) g (yr am z g))).2:=rfl
 generalize PS:((λ_=>none,vQ (ec g) g (yr am z g)):(aY->Option Int)×(Int×Int))=qc at Vl
 have at8:yT X a1 bi bO df (.ptr jv 0) z b6 qc.2 qc.1 bM bX:=by rw[<-PS];exact hJ
 have is:∀w,0<=(qc.1 w).getD 0/\(qc.1 w).getD 0<=((0:Nat):Int)*1048576:=by intro w;rw[<-PS];simp
 refine gh @eK (bc asM) @d0 ⟨?_⟩
 refine gi ?_
 refine fh (λm I S' aN=>∃(S:Nat),I.g 1=some (.ptr j 0)/\I.g 2=some (.ptr (j+1+13) 0)/\I.bh=[]/\I.g 49=some eH/\I.g 50=some (.Z (g.eqs.length:Int))/\I.g 51=some (.Z (S:Int))/\S+m=g.eqs.length
  /\yT X a1 bi bO df (.ptr jv 0) z b6 ((g.eqs.take S).foldl (oG (ec g) am z) qc).2 ((g.eqs.take S).foldl (oG (ec g) am z) qc).1 S' aN/\(∀w,0<=(((g.eqs.take S).foldl (oG (ec g) am z) qc).1 w).getD 0/\(((g.eqs.take S).foldl (oG (ec g) am z) qc).1 w).getD 0<=(S:Int)*1048576))
  g.eqs.length ⟨0,aL t1,aL eK,la,a8,a8,fq,Zo,at8,is⟩ ?_
 clear t1 eK la
 rintro m I bZ dy ⟨S,t1,eK,la,s2,w0,w1,bE,h6,afb⟩
 have pb:=h6.le
 have asG:U X bZ j=zw [.ptr bO 0] 1:=by rw[h6.low _ Zo Zo Zo];exact jG
 have tA:U X bZ (j+1+13)=zw [.str g.name, .Z g.at_,c7,dv,aS,eH] 6:=by rw[h6.low _ Zo Zo Zo];exact bN
 have ph:∀e,P e->U X bZ e=U X h e:=λe B=>by have:=bq e B;rw[h6.low e Zo this.2.1 this.2.2,jt e B]
 cases m with
 |zero=>
  have ay:=zt S g.eqs.length
  rw[ZA Zo]at h6
  generalize g.eqs.foldl (oG (ec g) am z) qc=G at h6 Vl
  refine fO @w1 @w0 @eK @ay (bc tA) ⟨?_⟩
  refine(Oi au Zo).Zm ?_
  rintro ac ci dV ⟨rfl,rfl,ez,cA,eb,fW⟩
  generalize Cu:dy+1=dW at*
  have qP:∀e,P e->U X ci e=U X h e:=λe B=>by rw[ez.aa e (zs (bq e B).1),ph e B]
  have Co:gs X ci bO (.ptr jv 0) z b6 (.map df) G.2:=by have:=h6.kh;unfold gs at*;rw[ez.aa bO Zo];exact this
  have apS:U X ci j=zw [.ptr bO 0] 1:=by rw[ez.aa _ Zo];exact asG
  refine gi ?_
  refine Oj (P:=P) (g:=g) (bY:=bY) (co:=co) (cY:=cY) (c7:=c7) (dv:=dv) (aS:=aS) au (λi S' aN=>tf X ci dW bO df (.ptr jv 0) z b6 (.map df) (((gD g).take i).foldl (s3 G.1) G.2) G.1 S' aN) Zo Zo Zo Zo
   (k1.aa qP) (ko.aa qP) (ov.aa qP) cA eb fW (λi S' aN a=>⟨a.le,λe B=>a.low e (zs (bq e B).1) (bq e B).2.1 (bq e B).2.2⟩)
   (λi aI aO aM aZ a gn aJ=>a.aa Zo Zo gn aJ) (λS' bU=>⟨Zj _,by unfold gs at*;rw[bU.aa _ Zo];exact Co,(h6.lE.aa (ez.aa _ Zo)).aa (bU.aa _ Zo),λe B _ _=>bU.aa e B⟩) ?_ ?_
  ·intro mk i fa d dk hH aG ja Am ath
   rw[B8 (s3 G.1) _ aG]
   generalize ((gD g).take i).foldl (s3 G.1) G.2=ca at ja ⊢
   have x8:=ja.le
   have iE:d2 d=[.str d.name, .Z d.at_, .bool d.ty.b, .bool d.ty.s, .Z d.ty.w, .str d.on, .Z d.et, .bool d.no]:=rfl
   rw[iE]
   unfold un
   refine cx ⟨?_⟩
   generalize Cl:bj X _ hH _=dt
   have lH:U X dt hH=zw [.str d.name, .Z d.at_, .bool d.ty.b, .bool d.ty.s, .Z d.ty.w, .str d.on, .Z d.et, .bool d.no] 8:=by rw[<-Cl,a7 Zo];rfl
   have hg:∀e,e<hH->U X dt e=U X dk e:=λe B=>by rw[<-Cl];exact zy
   clear Cl
   refine⟨by rw[hg _ Zo];exact ath, ?_⟩
   generalize o8:bj X dt (dW+1) _=fR
   have f1:U X fR (dW+1)=some (mk .busy none):=by rw[<-o8,a7 Zo]
   have kq:∀e,e≠dW+1->U X fR e=U X dt e:=λe B=>by rw[<-o8,aB Zo B]
   clear o8
   have qE:=ja.aa (aM:=fR) (aZ:=hH+1) Zo Zo Zo (λe M R=>by rw[kq e R,hg e M])
   rw[<-kq _ Zo]at lH
   have TN:U X fR dW=some (.deferred (some [])):=by rw[kq _ Zo,hg _ Zo];exact Am
   have b3:aP X fR (.ptr j 0)=some (.ptr bO 0):=by rw[bc (show U X fR j=_ by rw[qE.low _ Zo Zo Zo];exact apS)];rfl
   have eQ:aP X fR (.ptr bO 3)=some (.map df):=by have:=qE.kh;unfold gs at this;rw[bc this];rfl
   have kF:nU X fR 9 (.Z 0) (.map df) (.str d.name) false=some (.Z ((G.1 d.name).getD 0)):=by
    rw[FM qE.seen];unfold o2;cases G.1 d.name<;>rfl
   have kE:∀S' aN,tf X ci dW bO df (.ptr jv 0) z b6 (.map df) (s3 G.1 ca (fa,d)) G.1 S' aN->U X S' dW=some (.deferred (some []))->(D.bool true=D.bool true/\tf X ci dW bO df (.ptr jv 0) z b6 (.map df) (s3 G.1 ca (fa,d)) G.1 (bj X S' (dW+1) (some (mk .ready none))) aN/\U X (bj X S' (dW+1) (some (mk .ready none))) dW=some (.deferred (some []))/\U X (bj X S' (dW+1) (some (mk .ready none))) (dW+1)=some (mk .ready none)):=λS' aN a R=>
    ⟨rfl,a.aa Zo Zo (Zj _) (λe M R=>aB Zo R),by rw[aB Zo Zo];exact R,a7 Zo⟩
   refine pN ⟨?_⟩
   refine gi ?_
   by_cases lK:fa=1
   ·have ay:decide (fa≠1)=false:=by simp[lK]
    have qH:s3 G.1 ca (fa,d)=ca:=by unfold s3;rw[Zh (by simp[lK])]
    refine cd @ay ⟨?_⟩
    rw[qH]at kE ⊢
    exact⟨⟨.busy,none,f1⟩,kE _ _ (qE.aa Zo Zo Zo (λ_ _ _=>rfl)) TN⟩
   ·have ay:decide (fa≠1)=true:=by simp[lK]
    by_cases ch:(G.1 d.name).getD 0=0
    ·have Eo:decide ((G.1 d.name).getD 0=0)=true:=by simp[ch]
     have qH:s3 G.1 ca (fa,d)=nc ca 37 d.at_:=by unfold s3;rw[Zr ⟨lK,ch⟩]
     refine d9 @ay @t1 @b3 @eQ (bc lH) @kF @Eo ⟨?_⟩
     refine(xC (h:=fR) au iD qE.kh 37 d.at_).Zm ?_
     rintro ac mh sU ⟨rfl,UI,Vc,wq⟩
     refine cx ⟨?_⟩
     rw[qH]at kE ⊢
     have Lw:=qE.le
     exact⟨⟨.busy,none,by rw[wq _ Zo];exact f1⟩,kE _ _ ⟨Zo,UI,qE.seen.aa (wq _ Zo),λe M R ak=>by rw[wq e R];exact qE.low e M R ak⟩ (by rw[wq _ Zo];exact TN)⟩
    ·have Eo:decide ((G.1 d.name).getD 0=0)=false:=by simp[ch]
     have qH:s3 G.1 ca (fa,d)=ca:=by unfold s3;rw[Zh (λa=>ch a.2)]
     refine d9 @ay @t1 @b3 @eQ (bc lH) @kF @Eo ⟨?_⟩
     rw[qH]at kE ⊢
     exact⟨⟨.busy,none,f1⟩,kE _ _ (qE.aa Zo Zo Zo (λ_ _ _=>rfl)) TN⟩
  ·intro dk hH ja Am
   rw[Y0]at ja
   have x8:=ja.le
   rw[<-Vl]at ja
   show n0 X [] _ _ _ _ _
   simp only[AY,yB,la]
   refine⟨by show(o X).a2<=dW;omega,Am, ?_⟩
   show rS _ _ _ _ _
   refine⟨rfl, ?_,Zo,λe M R ak=> ?_⟩
   ·have:=ja.kh
    unfold gs at*
    rw[aB Zo Zo];exact this
   ·rw[aB Zo Zo,ja.low e Zo R ak,ez.aa e Zo,h6.low e Zo R ak,qC.aa e M]
 |succ m=>
  have ay:=zu S g.eqs.length
  have bz:=zx S
  obtain⟨aj,b0⟩:=zv g.eqs S
  obtain⟨QY,awm,tW⟩:=e8.get S aj b0
  have dp:=jo.fx S (by rw[j6.1];omega)
  have hz:=(jo.aa ph).row Zd awm
  obtain⟨qY,s0,aEK,aEL,kc,rfl,iv,nQ,pf,rE⟩:=tW
  have Cy:=iv.len
  have Cz:=iv.many
  have PH:=nQ.1.len
  have awj:=nQ.1.many
  rw[show(e3 aj.left).length=aj.left.length from by simp[e3]]at Cy Cz
  rw[Zi]at PH awj
  have dd:=B8 (oG (ec g) am z) qc b0
  generalize aun:(g.eqs.take S).foldl (oG (ec g) am z) qc=Jx at h6 dd afb
  refine hu @w1 @w0 @s2 @ay @dp @hz ⟨?_⟩
  refine f8 (iH (z:=4) (b:=dy) (W:=0) (n:=4) (c:=Q.ofList [.aV, .aV, .Z 0, .cJ] 0 .nil) (a7 Zo) Zo rfl Zd Zd rE) ?_
  generalize jW:bj X _ dy _=ci
  have d8:U X ci dy=zw [qY,s0, .Z aj.at_,kc] 4:=by rw[<-jW,a7 Zo];rfl
  have ft:∀e,e<dy->U X ci e=U X bZ e:=λe B=>by rw[<-jW];exact zy
  clear jW
  have sx:=h6.aa (aM:=ci) (aZ:=dy+1) Zo Zo Zo (λe M=>ft e M)
  refine Ez (bc d8) @Cy ⟨?_⟩
  refine gi ?_
  refine fh (λgN I S' aN=>∃(i:Nat),I.g 1=some (.ptr j 0)/\I.g 2=some (.ptr (j+1+13) 0)/\I.bh=[]/\I.g 49=some eH/\I.g 50=some (.Z (g.eqs.length:Int))/\I.g 51=some (.Z (S:Int))/\I.g 6=some (.ptr dy 0)/\I.g 56=some qY/\I.g 57=some (.Z (aj.left.length:Int))/\I.g 58=some (.Z (i:Int))/\i+gN=aj.left.length
   /\yT X a1 bi bO df (.ptr jv 0) z b6 (((sO aj).take i).foldl (oD (ec g)) Jx).2 (((sO aj).take i).foldl (oD (ec g)) Jx).1 S' aN/\(∀w,0<=((((sO aj).take i).foldl (oD (ec g)) Jx).1 w).getD 0/\((((sO aj).take i).foldl (oD (ec g)) Jx).1 w).getD 0<=(S:Int)*1048576+i)
   /\dy+1<=aN/\U X S' dy=zw [qY,s0, .Z aj.at_,kc] 4)
   aj.left.length ⟨0,aL t1,aL eK,la,aL s2,aL w0,aL w1,a8,a8,a8,fq,Zo,sx,λw=>by simpa using afb w,Zo,d8⟩ ?_
  clear t1 eK la s2 w0 w1
  rintro gN c4 dk hH ⟨i,t1,eK,la,s2,w0,w1,eX,qg,Bh,w2,aG,ja,qG,aFP,fH⟩
  have x8:=ja.le
  have ad9:U X dk j=zw [.ptr bO 0] 1:=by rw[ja.low _ Zo Zo Zo];exact jG
  have CV:∀e,P e->U X dk e=U X h e:=λe B=>by have:=bq e B;rw[ja.low e Zo this.2.1 this.2.2,jt e B]
  cases gN with
  |zero=>
   have e1:=zt i aj.left.length
   rw[ZA (by rw[ayP];omega)]at ja qG
   refine d9 @w2 @Bh @t1 @eX @e1 (bc ad9) (bc fH) ⟨?_⟩
   refine(aBO (j:=hH) (h:=dk) au Zo iD Zo (λe B=>⟨zs (bq e B).1,(bq e B).2.1⟩) (be.aa (bu:=P) CV (λ_ a=>a)) (b2.aa (bu:=P) CV (λ_ a=>a)) ja.kh (cE.aa CV _ _ pf)).Zm ?_
   rintro ac dt fc ⟨rfl,UF,pc,rB⟩
   refine cI @w1 @bz ⟨?_⟩
   refine⟨m,Zo,S+1,aL t1,aL eK,la,aL s2,aL w0,a8,Zo, ?_, ?_⟩
   ·rw[dd]
    exact⟨Zo,UF,ja.lE.aa (rB _ Zo (λE=>u0 E.symm)),λe M R ak=>by rw[rB e Zo R];exact ja.low e M R ak⟩
   ·rw[dd]
    intro w
    have:=qG w
    simp only[oG]
    constructor
    ·exact this.1
    ·have R:=this.2
     have ak:i<=1048576:=Zo
     push_cast
     omega
  |succ gN=>
   have e1:=zu i aj.left.length
   have cF:=zx i
   obtain⟨w,bs⟩:=zv aj.left i
   have tT:=iv.fx i (by simp[e3];omega)
   have hx:=(iv.aa CV).cell i [.str w] 0 (.str w) (by unfold e3;rw[Zu,bs];rfl) rfl
   rw[Z1]at tT
   rw[Z1,ZR]at hx
   have CG:=B8 (oD (ec g)) Jx (ayO bs)
   generalize aum:((sO aj).take i).foldl (oD (ec g)) Jx=pr at ja CG qG
   have auI:=qG w
   refine gh @w2 @Bh (Za @qg (Za @eX (Za @e1 (Za @tT (Za @hx (Za (bc fH) @PH)))))) ⟨?_⟩
   refine gi ?_
   refine gh @w2 @Bh (Za @qg (Za @eX (Za @e1 (Za @tT (Za @hx (Za (bc fH) @PH)))))) ⟨?_⟩
   refine gi ?_
   refine gh @w2 @Bh (Za @qg (Za @eX (Za @e1 (Za @tT (Za @hx (Za (bc fH) @PH)))))) ⟨?_⟩
   refine iR (λto S' aN=>to.g 1=some (.ptr j 0)/\to.g 2=some (.ptr (j+1+13) 0)/\to.bh=[]/\to.g 49=some eH/\to.g 50=some (.Z (g.eqs.length:Int))/\to.g 51=some (.Z (S:Int))/\to.g 6=some (.ptr dy 0)/\to.g 56=some qY/\to.g 57=some (.Z (aj.left.length:Int))/\to.g 58=some (.Z (i:Int))/\to.g 8=some (.str w)/\to.g 9=some (.Z (Eb aj i))/\S'=dk/\aN=hH) (λahk Ij=> ?_) ?_
   ·by_cases Lt:i<aj.di.length
    ·have i6:=zu i aj.di.length
     obtain⟨H,az⟩:∃H,aj.di[i]? =some H:=⟨_,Ze Lt⟩
     have Pn:=nQ.1.fx i (by rw[Zi];exact Lt)
     have afh:=(nQ.1.aa CV).cell i [L9 H] 0 (L9 H) (by rw[Zu,az];rfl) rfl
     rw[Z1]at Pn
     rw[Z1,ZR]at afh
     have nN:Eb aj i=H:=by unfold Eb;rw[az];rfl
     refine fO @i6 @eX (bc fH) @Pn @afh ⟨?_⟩
     exact Ij _ _ _ ⟨aL t1,aL eK,la,aL s2,aL w0,aL w1,aL eX,aL qg,aL Bh,aL w2,a8,by refine xN ⟨?_⟩;rw[nN];rfl,rfl,rfl⟩
    ·have i6:=zt i aj.di.length
     have nN:Eb aj i=0:=by unfold Eb;rw[Z4 Zo];rfl
     refine cd @i6 ⟨?_⟩
     exact Ij _ _ _ ⟨aL t1,aL eK,la,aL s2,aL w0,aL w1,aL eX,aL qg,aL Bh,aL w2,a8,by refine xN ⟨?_⟩;rw[nN],rfl,rfl⟩
   ·clear t1 eK la s2 w0 w1 eX qg Bh w2
    rintro to S' aN ⟨t1,eK,la,s2,w0,w1,eX,qg,Bh,w2,t8,t9,rfl,rfl⟩
    show cw _ _
    refine fI @t1 @t8 @t9 (bc ad9) ⟨?_⟩
    refine(ayM au Zo iD x4 Zo Zo u0 ja.kh (be.aa (bu:=P) CV (λ_ a=>a)) (λe B=>⟨zs (bq e B).1,(bq e B).2.1,(bq e B).2.2⟩) ja.lE w (Eb aj i) ⟨auI.1,Zo⟩).Zm ?_
    rintro ac dt fc ⟨rfl,UF,atV,pc,rB⟩
    refine cI @w2 @cF ⟨?_⟩
    refine⟨gN,Zo,i+1,aL t1,aL eK,la,aL s2,aL w0,aL w1,aL eX,aL qg,aL Bh,a8,Zo, ?_, ?_,Zo,by rw[rB _ Zo Zo Zo];exact fH⟩
    ·rw[CG]
     exact⟨Zo,UF,atV,λe M R ak=>by rw[rB e Zo R ak];exact ja.low e M R ak⟩
    ·rw[CG]
     intro x
     have ae:=qG x
     simp only[oD]
     split
     ·simp only[YQ];push_cast;omega
     ·push_cast;omega
end
def azL{C:aK}{h:Q af}{j r pos c:Nat}{s:aY}(Y:C.a2<=r)(a:U C h r=some (.pp s pos))(ax:s[pos]? =some c)(M:c<128):
 xW C k4 true h j (k5 (.ptr r 0))=some (.fv (.tuple [.zT, .Z (pos:Int), .int .i32 (c:Int)]) (bj C h r (some (.pp s (pos+1)))) j):=by
 have cZ:=(Zc.1 ax).1
 have bz:Nat.blt pos s.length=true:=by simp[Nat.blt];omega
 have cF:Nat.blt c 128=true:=by simp[Nat.blt];omega
 have f0:kV C r=true:=lC Y
 simp only[xW,k5,f0,fo,a,bz,qT,ax,cF,bd.setObj,hE]
 rfl
def azJ{C:aK}{h:Q af}{j r pos:Nat}{s:aY}(Y:C.a2<=r)(a:U C h r=some (.pp s pos))(ax:s.length<=pos):
 xW C k4 true h j (k5 (.ptr r 0))=some (.val (.tuple [.zF])):=by
 have bz:Nat.blt pos s.length=false:=by
  cases b0:Nat.blt pos s.length with
  |false=>rfl
  |true=>simp[Nat.blt]at b0;omega
 have f0:kV C r=true:=lC Y
 simp only[xW,k5,f0,fo,a,bz,lD]
def asx{W:Option ee}{h S':Q af}{j an:Nat}{ah:bJ}{v:D}(a:W=some (.fv v S' an))(z:ah v S' an):HJ W h j ah:=by subst a;exact⟨z⟩
def asw{W:Option ee}{h:Q af}{j:Nat}{ah:bJ}{v:D}(a:W=some (.val v))(z:ah v h j):HJ W h j ah:=by subst a;exact⟨z⟩
section
variable{X:cl}{h S' fi aI aM:Q af}{j an aO aZ:Nat}
def V4{c:Nat}(a:jr c=true):(97<=c/\c<=122)\/(65<=c/\c<=90)\/(48<=c/\c<=57)\/c=95:=by
 simp[jr,rK,jc]at a
 omega
def az5(au:dj X){c:Nat}(ax:jr c=true):aU X 119 [.int .i32 (c:Int)] h j (λac S' an=>ac= .zF/\S'=h/\j<=an) (λ_ _ _=>False):=by
 refine zz au (alq X) ?_
 rw[alr]
 unfold aaa
 rcases V4 ax with a|a|a|a
 ·have cT:decide ((c:Int)<97)=false:=by simp only[Zb];omega
  have cy:decide ((122:Int)<(c:Int))=false:=by simp only[Zb];omega
  refine cI @cT @cy ⟨?_⟩
  exact⟨rfl,rfl,Zo⟩
 ·have cT:decide ((c:Int)<97)=true:=by simp only[Zg];omega
  have cy:decide ((c:Int)<65)=false:=by simp only[Zb];omega
  have e1:decide ((90:Int)<(c:Int))=false:=by simp only[Zb];omega
  refine dI @cT @cy @e1 ⟨?_⟩
  exact⟨rfl,rfl,Zo⟩
 ·have cT:decide ((c:Int)<97)=true:=by simp only[Zg];omega
  have cy:decide ((c:Int)<65)=true:=by simp only[Zg];omega
  have e1:decide ((c:Int)<48)=false:=by simp only[Zb];omega
  have i6:decide ((57:Int)<(c:Int))=false:=by simp only[Zb];omega
  refine fI @cT @cy @e1 @i6 ⟨?_⟩
  exact⟨rfl,rfl,Zo⟩
 ·have cT:decide ((c:Int)<97)=true:=by simp only[Zg];omega
  have cy:decide ((c:Int)<65)=false:=by simp only[Zb];omega
  have e1:decide ((90:Int)<(c:Int))=true:=by simp only[Zg];omega
  have i6:decide ((c:Int)<48)=false:=by simp only[Zb];omega
  have gu:decide ((57:Int)<(c:Int))=true:=by simp only[Zg];omega
  have g8:decide ((c:Int)≠95)=false:=by simp only[Zb,ne_eq,Decidable.not_not];omega
  refine hu @cT @cy @e1 @i6 @gu @g8 ⟨?_⟩
  exact⟨rfl,rfl,Zo⟩
def aBR{C:aK}{s:aY}{ah:bJ}(z:ah (.ptr j 0) (bj C h j (some (.pp s 0))) (j+1)):h0 (Xn C h j (.str s)) h j ah:=kb (by simp only[Xn,nW,mM,hE]) z
def NV:c5 X h .eql 4 false .zF .zF=some .zT:=Zk
def aqb:c5 X h .eql 4 false .zF .zT=some .zF:=Zk
def aqc:c5 X h .eql 4 false .zT .zT=some .zT:=Zk
def axz(au:dj X){s:aY}(aD:∀c∈s,jr c=true)(aE:(o X).a2<=j):
 aU X 120 [.str s, .func (.func 119) [] []] h j (λac S' an=>ac= .Z (-1)/\ba X h j S' an) (λ_ _ _=>False):=by
 refine zz au (alu X) ?_
 rw[alv]
 unfold aac
 refine zz au (alU X) ?_
 rw[alV]
 unfold aap
 refine aBR ?_
 generalize c6:bj X h j _=aI
 have bI:U X aI j=some (.pp s 0):=by rw[<-c6,a7 aE]
 have bH:ba X h j aI (j+1):=by rw[<-c6];exact dz
 clear c6
 refine cx ⟨?_⟩
 refine fh (λm I S' aN=>∃(S:Nat),I.g 1=some (.func (.func 119) [] [])/\I.g 2=some .zT/\I.g 10=some (.ptr j 0)/\S+m=s.length/\U X S' j=some (.pp s S)/\ba X h j S' aN/\j+1<=aN)
  s.length ⟨0,a8,a8,a8,Zo,bI,bH,Zo⟩ ?_
 rintro m I aM aZ ⟨S,t1,eK,t10,bE,bN,bx,lL⟩
 cases m with
 |zero=>
  refine cd @t10 ⟨?_⟩
  refine asw (azJ aE bN Zo) ?_
  refine cx ⟨?_⟩
  exact⟨rfl,bx⟩
 |succ m=>
  obtain⟨c,ax⟩:=zv s S
  have bp:=aD c (Zl ax)
  have atI:c<128:=zs (V4 bp)
  refine cd @t10 ⟨?_⟩
  refine asx (azL aE bN ax atI) ?_
  refine cd @t1 ⟨?_⟩
  generalize fl:bj X aM j _=a1
  have cH:U X a1 j=some (.pp s (S+1)):=by rw[<-fl,a7 aE]
  have ck:ba X h j a1 aZ:=⟨bx.le,λe B=>by rw[<-fl,aB aE Zo];exact bx.aa e B⟩
  clear fl
  refine(az5 au bp).Zm ?_
  rintro ac bA cK ⟨rfl,rfl,iF⟩
  refine cI @eK @aqb ⟨?_⟩
  refine⟨m,Zo,S+1,aL t1,aL eK,aL t10,Zo,cH,⟨zs ck.le,ck.aa⟩,Zo⟩
end
def ajh:List aY:=[[110,111,100,101],[114,101,116,117,114,110,115],[118,97,114],[108,101,116],[116,101,108],[119,104,101,110],[110,111,116],[111,114],[120,111,114],[97,110,100],[112,114,101],[102,98,121],[105,102],[116,104,101,110],[101,108,115,101],[109,101,114,103,101],[116,114,117,101],[102,97,108,115,101]]
def aBD:∀w∈ajh,w∈wU:=by decide
structure sc(X:cl):Prop where
 a2:2<X.a2
 at_:∀h,∃b aS,aP X h (.ptr 3 0)=some aS/\dL X h (λe=>e<X.a2) b aS 1 (e3 ajh)
section
variable{X:cl}{h S' fi aI aM:Q af}{j an aO aZ:Nat}{s:aY}
def arP:c5 X h .eql 139 true .nilIface .nilIface=some .zT:=Zk
def arQ(b:Nat):c5 X h .eql 139 true (.iface 181 (.ptr b 0)) .nilIface=some .zF:=Zk
def aqR(au:dj X){b:Nat}{aS:D}{P:Nat->Prop}{gV:List aY}(Y:dL X h P b aS 1 (e3 gV))(aD:s∉gV):
 aU X 121 [aS, .str s] h j (λac S' an=>ac= .zF/\ba X h j S' an) (λ_ _ _=>False):=by
 refine zz au (alw X) ?_
 rw[alx]
 unfold aad
 refine aU.mono (ah:=λac S' an=>ac= .Z (-1)/\ba X h j S' an) (av:=λ_ _ _=>False) ?_ ?_ (λ_ _ _ a=>a.elim)
 ·refine zz au (alW X) ?_
  rw[alX]
  unfold aaq
  have d0:=Y.len
  have hU:=Y.many
  rw[show(e3 gV).length=gV.length from by simp[e3]]at d0 hU
  refine cd @d0 ⟨?_⟩
  refine fh (λm I S' aN=>∃(S:Nat),I.g 0=some aS/\I.g 1=some (.str s)/\I.g 7=some (.Z (gV.length:Int))/\I.g 8=some (.Z (S:Int))/\S+m=gV.length/\S'=h/\aN=j)
   gV.length ⟨0,a8,a8,a8,fq,Zo,rfl,rfl⟩ ?_
  rintro m I aM aZ ⟨S,t0,t1,gc,t8,bE,rfl,rfl⟩
  cases m with
  |zero=>
   have d:=zt S gV.length
   refine dI @t8 @gc @d ⟨?_⟩
   exact⟨rfl,ba.refl _ _⟩
  |succ m=>
   have d:=zu S gV.length
   have bz:=zx S
   obtain⟨w,bs⟩:=zv gV S
   have dp:=Y.fx S (by simp[e3];omega)
   have hx:=Y.cell S [.str w] 0 (.str w) (by unfold e3;rw[Zu,bs];rfl) rfl
   rw[Z1]at dp
   rw[Z1,ZR]at hx
   have dQ:s≠w:=λE=>aD (by rw[E];exact Zl bs)
   have cy:decide (s=w)=false:=by simp[dQ]
   refine d9 @t8 @gc @t1 @t0 @d @dp (Za @hx (Za @cy @bz)) ⟨?_⟩
   exact⟨m,Zo,S+1,aL t0,aL t1,aL gc,a8,Zo,rfl,rfl⟩
 ·rintro ac aI aO ⟨rfl,bU⟩
  refine cx ⟨?_⟩
  exact⟨rfl,bU⟩
def ajW(au:dj X)(t:eu)(aE:(o X).a2<=j):aU X 123 [.agg (eD t)] h j (λac S' an=>ac= .str (n1 t)/\ba X h j S' an) (λ_ _ _=>False):=by
 refine zz au (alA X) ?_
 rw[alB]
 unfold aaf
 have be:eD t=[.bool t.b, .bool t.s, .Z t.w]:=rfl
 rw[be]
 refine cx ⟨?_⟩
 refine eN (λaI=>U X aI j=zw [.bool t.b, .bool t.s, .Z t.w] 3/\ba X h j aI (j+1)) ⟨a7 aE,dz⟩ ?_
 rintro aI ⟨bI,bH⟩
 refine(FQ au t Zo).Zm ?_
 rintro ac aM aZ ⟨rfl,bx⟩
 have fJ:=bx.le
 have bU:=bH.trans bx
 have bN:U X aM j=zw [.bool t.b, .bool t.s, .Z t.w] 3:=by rw[bx.aa _ Zo];exact bI
 have dB:aP X aM (.ptr j 0)=some (.bool t.b):=by rw[bc bN];rfl
 have cX:aP X aM (.ptr j 1)=some (.bool t.s):=by rw[bc bN];rfl
 have dN:aP X aM (.ptr j 2)=some (.Z t.w):=by rw[bc bN];rfl
 cases bp:lo t with
 |false=>
  refine cx ⟨?_⟩
  exact⟨by simp[n1,bp],bU⟩
 |true=>
  cases kp:t.b with
  |true=>
   rw[kp]at dB
   refine cd @dB ⟨?_⟩
   exact⟨by simp[n1,bp,kp],bU⟩
  |false=>
   rw[kp]at dB
   have bs:1<=t.w/\t.w<=64:=by simpa[lo,kp]using bp
   obtain⟨w,AS⟩:=Ye (by omega:0<=t.w)
   rw[AS]at dN
   have aG:jY t.w.toNat=jY w:=by rw[AS];rfl
   have fg:(jY w).length<=2:=by unfold jY;split<;>simp
   have uG:∀h c,c5 X h .add 9 true (.str [c]) (.str (jY w))=some (.str (c::jY w)):=λh c=>by
    have:Nat.ble ([c].length+(jY w).length) 1000000000=true:=lC Zx
    simp only[c5,BN,this,fo];rfl
   cases kJ:t.s with
   |true=>
    rw[kJ]at cX
    refine dI @dB @cX @dN ⟨?_⟩
    refine(P6 au Zo).Zm ?_
    rintro ac a1 bi ⟨rfl,rfl,rfl⟩
    refine cd @uG ⟨?_⟩
    exact⟨by simp[n1,bp,kp,kJ,aG],bU⟩
   |false=>
    rw[kJ]at cX
    refine dI @dB @cX @dN ⟨?_⟩
    refine(P6 au Zo).Zm ?_
    rintro ac a1 bi ⟨rfl,rfl,rfl⟩
    refine cd @uG ⟨?_⟩
    exact⟨by simp[n1,bp,kp,kJ,aG],bU⟩
def axE{c:Nat}(a:jr c=true):c<256:=zs (V4 a)
def aDG(au:iY X)(bU:mf X)(aD:G2 s)(aE:(o X).a2<=j):
 aU X 122 [.str s] h j (λac S' an=>ac= .zF/\ba X h j S' an) (λ_ _ _=>False):=by
 refine zz au.todj (aly X) ?_
 rw[alz]
 unfold aae
 cases s with
 |nil=>exact absurd rfl aD.ne
 |cons c l=>
  cases l with
  |nil=>
   have iq:decide (((1:Nat):Int)<2)=true:=rfl
   refine cd @iq ⟨?_⟩
   exact⟨rfl,dz⟩
  |cons dN l=>
   have cT:decide ((((dN::l).length+1:Nat):Int)<2)=false:=by simp only[Zb,ZF];omega
   have g2:nw (.str (c::dN::l)) (some (.Z 1)) none=some (.str (dN::l)):=Rc (l:=1) .i64 Zs
   have dp:oB (.str (c::dN::l)) (.Z 0)=some (.int .u8 (c:Int)):=CR (i:=0) .i64 rfl
   have d0:nq (.str (c::dN::l))=some (.Z ((c::dN::l).length:Int)):=AX _
   have k0:=aD.all
   have fg:=aD.len
   have x0:c::dN::l≠[98,111,111,108]:=λE=>by have:=aD.ty;rw[E]at this;cases this
   have cy:decide (c::dN::l=[98,111,111,108])=false:=by simp only[Zb];exact x0
   have AO:=aD.ty
   generalize mQ:dN::l=m at*
   have gu:decide ((c:Int)=105)=decide (c=105):=by simp;omega
   refine f8 d0 ?_
   refine cI @cT @g2 ⟨?_⟩
   refine(acA au bU (by simp at fg;omega) (λx ae=>axE (k0 x (Zw _ ae))) (aiv (λx ae=>k0 x (Zw _ ae))) Zo).Zm ?_
   rintro ac aM aZ ⟨⟨bm,E,rfl,bC,ae⟩,bx⟩
   have fJ:=bx.le
   rcases bC with rfl|⟨b,rfl⟩
   ·refine fI @cy @arP @dp @gu ⟨?_⟩
    refine(ajW (j:=aZ) (h:=aM) au.todj ⟨false,decide (c=105),bm⟩ Zo).Zm ?_
    rintro ac a1 bi ⟨rfl,ck⟩
    have ay:decide (c::m=n1 ⟨false,decide (c=105),bm⟩)=false:=by
     simp only[Zb]
     intro a
     cases bp:lo ⟨false,decide (c=105),bm⟩with
     |false=>simp[n1,bp]at a
     |true=>
      have ch:1<=bm/\bm<=64:=by simpa[lo]using bp
      obtain⟨n,rfl⟩:=Ye (by omega:0<=bm)
      simp only[n1,bp,ZE,Zy,ZD]at a
      have M:=(List.cons.inj a).1
      have R:=(List.cons.inj a).2
      have H9:c=105\/c=117:=by
       by_cases ax:c=105
       ·exact .inl ax
       ·simp[ax]at M;exact .inr M
      exact ajV AO H9 (n:=n) Zo Zo (by simpa using R.symm)
    refine cd @ay ⟨?_⟩
    exact⟨rfl,bx.trans ck⟩
   ·refine cI @cy @arQ ⟨?_⟩
    exact⟨rfl,bx⟩
def Mv(au:iY X)(bU:mf X)(d6:sc X)(aD:G2 s)(aE:(o X).a2<=j):
 aU X 97 [.str s] h j (λac S' an=>ac= .zT/\ba X h j S' an) (λ_ _ _=>False):=by
 refine zz au.todj (aoM X) ?_
 rw[aoN]
 unfold abZ
 have dQ:=aD.ne
 have cT:decide (s=[])=false:=by simp[dQ]
 have fg:=aD.len
 have cy:decide ((32:Int)<(s.length:Int))=false:=by simp only[Zb];omega
 obtain⟨c,ax⟩:∃c,s.head?=some c:=by cases s with|nil=>exact absurd rfl dQ|cons c l=>exact⟨c,rfl⟩
 have Ax:=aD.ap1 c ax
 have dp:oB (.str s) (.Z 0)=some (.int .u8 (c:Int)):=CR (i:=0) .i64 (by rw[<-List.head?_eq_getElem?];exact ax)
 have H7:65<=c:=by simp[rK]at Ax;omega
 have e1:decide ((48:Int)<=(c:Int))=true:=by simp only[Zg];omega
 have i6:decide ((c:Int)<=57)=false:=by simp only[Zb];omega
 refine fO @cT @cy @dp @e1 @i6 ⟨?_⟩
 refine(axz au.todj aD.all aE).Zm ?_
 rintro ac aI aO ⟨rfl,bH⟩
 have jJ:=bH.le
 obtain⟨b,aS,g2,cB⟩:=d6.at_ aI
 have BZ:decide ((0:Int)<= -1)=false:=rfl
 refine cI @g2 @BZ ⟨?_⟩
 refine(aqR (j:=aO) au.todj cB (λa=>aD.res (aBD _ a))).Zm ?_
 rintro ac aM aZ ⟨rfl,bx⟩
 have fJ:=bx.le
 refine cx ⟨?_⟩
 refine(aDG (j:=aZ) (h:=aM) au bU aD Zo).Zm ?_
 rintro ac a1 bi ⟨rfl,ck⟩
 refine cx ⟨?_⟩
 exact⟨rfl,(bH.trans bx).trans ck⟩
end
section
variable{X:cl}{h S' fi aI aM:Q af}{j an aO aZ:Nat}{s:aY}
def X4:List D:=[.str [], .Z 0, .zF, .zF, .Z 0, .str [], .Z 0, .zF]
def att(n:Nat):H6 X h j .append [37,3] [.aV, .Z (n:Int)]=bW (Nat.ble n 1048576) (bW (Nat.beq n 0) (some (.val .aV)) (uT X h j n 8 (lr n X4))) none:=Zk
def Gj(n:Nat)(l:List D):(lr n l).length=n*l.length:=by
 induction n with
 |zero=>simp[lr]
 |succ n ai=>simp[lr,ai,Z0];omega
def aqq:ts X h .cap [37] [.aV]=some (.Z 0):=Zk
def aCv:ur X h 8 .aV none (some (.Z 0)) none=some .aV:=by rfl
def aCx{dW n m:Nat}{c:Q D}(a:U X h dW=some (.cells c m (.grow []))):ur X h 8 (.fj dW 0 n 8) none (some (.Z 0)) none=some (.fj dW 0 0 8):=by
 have bz:p3 (some (.Z 0)) (m/8) n=some 0:=by simp[p3,azI]
 have cF:∀H b:Nat,p3 none H b=some b:=λH b=>rfl
 have f0:yC X h dW=some m:=by simp[yC,a]
 have kj:Nat.blt 0 8=true:=rfl
 simp only[ur,f0,mH,YJ,cF,bz]
 simp[kj]
def Q0{C:aK}{P:Nat->Prop}{b bt:Nat}{aS:D}{bK:List (List D)}(a:dL C h P b aS bt bK)(ch:0<bt):lu C h bt aS=some (bK.length,bK.flatten):=by
 have Lp:=tz a.wide
 have key:∀dM W n:Nat,n=bK.length->(∀i,i<bK.length->some (D.ptr dM (W+i*bt))=some (.ptr b (i*bt)))->nL C h dM W (n*bt)=some bK.flatten:=by
  intro dM W n aE aG
  subst aE
  by_cases aX:bK.length=0
  ·have:bK=[]:=ZU aX
   subst this
   simp only[nL]
   cases ax:cellsOf C h dM with
   |none=>simp
   |some c=>simp[ael]
  ·have M:=aG 0 Zo
   simp at M
   obtain⟨rfl,rfl⟩:=M
   obtain⟨r,Y⟩:=zv bK 0
   have PQ:=a.wide r (Zl Y)
   obtain⟨v,bB⟩:=zv r 0
   have tI:=a.cell 0 r 0 v Y bB
   simp only[zn,ZR]at tI
   have ER:∃c,cellsOf C h dM=some c:=by
    simp only[aP]at tI
    cases ax:cellsOf C h dM with
    |none=>rw[ax]at tI;cases tI
    |some c=>exact⟨c,rfl⟩
   obtain⟨c,ax⟩:=ER
   simp only[nL,ax]
   rw[<-Lp]
   refine aej _ _ λS v bE=> ?_
   have wp:=(Zc.1 bE).1
   rw[Lp]at wp
   have b0:S/bt<bK.length:=Nat.div_lt_of_lt_mul (by rw[zq];exact wp)
   obtain⟨ia,mR⟩:∃r,bK[S/bt]? =some r:=⟨_,Ze b0⟩
   have aF3:=a.wide ia (Zl mR)
   have bp:S%bt<bt:=Nat.mod_lt _ ch
   obtain⟨hr,AQ⟩:∃v,ia[S%bt]? =some v:=⟨_,Ze Zo⟩
   have R:=a.cell (S/bt) ia (S%bt) hr mR AQ
   have ak:=Tz bK a.wide (S/bt) ia (S%bt) hr mR AQ
   have aA:S/bt*bt+S%bt=S:=by rw[zq];exact Nat.div_add_mod S bt
   rw[aA]at R ak
   rw[bE]at ak
   cases ak
   simp only[aP,ax]at R
   rw[ZV]
   exact R
 have aC:=a.len
 cases aS with
 |slice dM W n cap=>
  have aE:n=bK.length:=by rw[ub]at aC;simp at aC;omega
  have aG:∀i,i<bK.length->some (D.ptr dM (W+i*bt))=some (.ptr b (i*bt)):=λi aG=>by
   have:=a.fx i aG
   rw[<-this]
   have E:Nat.blt i n=true:=by simp[Nat.blt];omega
   simp only[gy,sT,DB,E,fo]
  have aJ:=key dM W n aE aG
  subst aE
  simp only[lu,aJ]
 |fj dM W n yE=>
  have aE:n=bK.length:=by rw[wM]at aC;simp at aC;omega
  have aG:∀i,i<bK.length->some (D.ptr dM (W+i*bt))=some (.ptr b (i*bt)):=λi aG=>by
   have:=a.fx i aG
   rw[<-this]
   have E:Nat.blt i n=true:=by simp[Nat.blt];omega
   simp only[gy,sT,DB,E,fo]
  have aJ:=key dM W n aE aG
  subst aE
  simp only[lu,aJ]
 |aV=>
  have aE:(0:Int)=bK.length:=by rw[yn]at aC;simpa using aC
  have:bK=[]:=ZU Zo
  subst this
  rfl
 |_=>simp[gz]at aC
def aBS{dW n r m:Nat}{c:Q D}{x:D}{l:List D}{ah:bJ}(ag:U X h dW=some (.cells c (m*8) (.grow [])))(aF:(o X).a2<=dW)(ae:lu X h 8 x=some (r,l))(aC:l.length=r*8)(Y:n+r<=m)(M:Go.bd.jf l=true)
 (z:∀S' fS,U X S' dW=some (.cells fS (m*8) (.grow []))->(∀i,fS.get i=if n*8<=i/\i<n*8+l.length then l[i-n*8]? else c.get i)->(∀e,e≠dW->U X S' e=U X h e)->ah (.fj dW 0 (n+r) 8) S' j):
 h0 (jC X h j 8 (.fj dW 0 n 8) x) h j ah:=by
 by_cases aX:r=0
 ·subst aX
  have:l=[]:=ZU Zo
  subst this
  have bz:jC X h j 8 (.fj dW 0 n 8) x=some (.val (.fj dW 0 n 8)):=by
   simp only[jC,ae]
   simp[Hi,yC,ag]
   omega
  refine Xk bz ?_
  exact z h c ag (λi=>by rw[Zh Zs]) (λ_ _=>rfl)
 ·have cF:Nat.ble ((n+r)*8) (m*8)=true:=lC Zo
  have f0:Nat.ble (n*8+l.length) (m*8)=true:=lC Zo
  have KC:Nat.beq 8 8=true:=rfl
  have kj:kV X dW=true:=lC aF
  have qy:jC X h j 8 (.fj dW 0 n 8) x=some (.fv (.fj dW 0 (n+r) 8) (Go.bd.bj X h dW (some (.cells (dS c (n*8) l) (m*8) (.grow [])))) j):=by
   simp only[jC,ae]
   rw[h4,Zh aX]
   simp only[y2,Kf,ag,kj,KC,fo,cF,xr,f0,M,Yn,hE,qQ,ZV]
  refine kb qy ?_
  refine z _ _ (a7 aF) (λi=> ?_) (λe B=>aB aF B)
  rw[gQ]
def aCm(au:dj X){n:Nat}(aX:0<n)(M:n<=300000)(aE:(o X).a2<=j):
 aU X 96 [.aV, .Z (n:Int)] h j (λac S' an=>ac= .fj j 0 0 8/\(∃c,U X S' j=some (.cells c (n*8) (.grow [])))/\ba X h j S' an/\j<an) (λ_ _ _=>False):=by
 refine zz au (aoK X) ?_
 rw[aoL]
 unfold abY
 have cT:decide ((n:Int)<0)=false:=by simp only[Zb];omega
 have cy:decide ((0:Int)<(n:Int))=true:=by simp only[Zg];omega
 have bz:bn .sub (.Z 0) (.Z 0)=some (.Z 0):=wD Zo Zo
 have cF:bn .sub (.Z (n:Int)) (.Z 0)=some (.Z (n:Int)):=by rw[wD Zo Zo];simp
 have f0:H6 X h j .append [37,3] [.aV, .Z (n:Int)]=some (.fv (.fj j 0 n 8) (bj X h j (some (.cells (Q.ofList (lr n X4) 0 .nil) (n*8) (.grow [])))) (j+1)):=by
  rw[att,lC Zo,fo,h4,Zh Zo]
  simp only[uT,lC (show n<=1048576 by omega),fo,nW,mM,hE,Gj]
  rfl
 refine hu @cT @aqq @bz @cF @cy @aCv ⟨?_⟩
 refine kb f0 ?_
 generalize c6:bj X h j _=aI
 have bI:U X aI j=some (.cells (Q.ofList (lr n X4) 0 .nil) (n*8) (.grow [])):=by rw[<-c6,a7 aE]
 have bH:ba X h j aI (j+1):=by rw[<-c6];exact dz
 clear c6
 have kj:=aCx (n:=n) bI
 refine cd @kj ⟨?_⟩
 exact⟨rfl,⟨_,bI⟩,bH,Zo⟩
def BV(l:List (List eF)):Nat:=(l.map List.length).sum
def ac7(au:dj X){P:Nat->Prop}{ra bY co cY:Nat}{c7 dv aS:D}{A bo ad:List eF}(aE:(o X).a2<=j)(uX:ra<j)(az:U X h ra=zw [c7,dv,aS] 3)
 (M:dL X h P bY c7 8 (A.map d2))(R:dL X h P co dv 8 (bo.map d2))(ak:dL X h P cY aS 8 (ad.map d2))(bq:∀e,P e->e<j)(aX:0<A.length+bo.length+ad.length)(bp:A.length+bo.length+ad.length<=300000):
 aU X 76 [.slice ra 0 3 3] h j (λac S' an=>∃b,dL X S' (dr j an) b ac 8 ((A++(bo++ad)).map d2)/\ba X h j S' an) (λ_ _ _=>False):=by
 refine zz au (an6 X) ?_
 rw[an7]
 unfold abB
 have Iz:∀S,S<3->∃s b L,[c7,dv,aS][S]? =some s/\dL X h P b s 8 (L.map d2)/\([A,bo,ad]:List (List eF))[S]? =some L/\L.length<=300000:=by
  intro S bE
  match S,bE with
  |0,_=>exact⟨c7,bY,A,rfl,M,rfl,Zo⟩
  |1,_=>exact⟨dv,co,bo,rfl,R,rfl,Zo⟩
  |2,_=>exact⟨aS,cY,ad,rfl,ak,rfl,Zo⟩
 have tI:∀S' S s,U X S' ra=zw [c7,dv,aS] 3->[c7,dv,aS][S]? =some s->aP X S' (.ptr ra S)=some s:=λS' S s a aD=>by rw[bc a,mZ];exact aD
 obtain⟨l2,x3⟩:∃l2:Nat->Nat,∀S,l2 S=BV (([A,bo,ad]:List (List eF)).take S):=⟨_,λ_=>rfl⟩
 obtain⟨Aj,lI⟩:∃Aj:Nat->List eF,∀S,Aj S=(([A,bo,ad]:List (List eF)).take S).flatten:=⟨_,λ_=>rfl⟩
 have afA:∀S L,([A,bo,ad]:List (List eF))[S]? =some L->Aj (S+1)=Aj S++L:=by
  intro S L a
  rw[lI,lI,ZQ,a];simp
 have Li:∀S,l2 S=(Aj S).length:=λS=>by rw[x3,lI];unfold BV;rw[List.length_flatten]
 have dd:∀S L,([A,bo,ad]:List (List eF))[S]? =some L->l2 (S+1)=l2 S+L.length:=by
  intro S L a
  rw[Li,Li,afA S L a,ZH]
 have gn:∀S,l2 S<=A.length+bo.length+ad.length:=by
  intro S
  rw[x3]
  match S with
  |0=>simp[BV]
  |1=>simp[BV];omega
  |2=>simp[BV]
  |n+3=>simp[BV];omega
 have aeA:l2 3=A.length+bo.length+ad.length:=by rw[x3];simp[BV];omega
 have EE:l2 0=0:=by rw[x3];simp[BV]
 have ar8:Aj 0=[]:=by rw[lI];rfl
 refine cx ⟨?_⟩
 refine fh (λm I S' aN=>∃(S:Nat),I.g 0=some (.slice ra 0 3 3)/\I.g 9=some (.slice ra 0 3 3)/\I.g 10=some (.Z 3)/\I.g 11=some (.Z (S:Int))/\I.g 3=some (.Z (l2 S:Nat))/\S+m=3/\S'=h/\aN=j)
  3 ⟨0,a8,a8,fq,fq,by refine xN ⟨?_⟩;rw[EE];rfl,Zo,rfl,rfl⟩ ?_
 rintro m I aI aO ⟨S,t0,t9,t10,t11,t3,bE,rfl,rfl⟩
 cases m with
 |succ m=>
  have d:decide ((S:Int)<3)=true:=by simp only[Zg];omega
  have bz:=zx S
  obtain⟨s,b,L,aD,cB,gS,aub⟩:=Iz S Zo
  have EZ:=gn S
  have dp:gy 1 (.slice ra 0 3 3) (.Z (S:Int))=some (.ptr ra S):=by rw[IM _ Zo];simp
  have ax:=tI _ S s az aD
  have d0:=cB.len
  rw[Zi]at d0
  have cF:bn .add (.Z ((l2 S:Nat):Int)) (.Z (L.length:Int))=some (.Z ((l2 (S+1):Nat):Int)):=by
   rw[dd S L gS,en Zo Zo];simp
  have cy:decide (((l2 (S+1):Nat):Int)<0)=false:=by simp only[Zb];omega
  refine d9 @t11 @t10 @t9 @t3 @d @dp (Za @ax (Za @d0 (Za @cF (Za @cy @bz)))) ⟨?_⟩
  exact⟨m,Zo,S+1,aL t0,aL t9,aL t10,a8,a8,Zo,rfl,rfl⟩
 |zero=>
  have d:decide ((S:Int)<3)=false:=by simp only[Zb];omega
  have Pp:S=3:=Zo
  subst Pp
  rw[aeA]at t3
  refine fI @t11 @t10 @t3 @d ⟨?_⟩
  refine(aCm au aX bp aE).Zm ?_
  rintro ac aM aZ ⟨rfl,⟨dN,bN⟩,bx,lL⟩
  generalize sy:A.length+bo.length+ad.length=dw at*
  refine cd @t0 ⟨?_⟩
  refine fh (λm I S' aN=>∃(S:Nat) (c:Q D),I.g 25=some (.slice ra 0 3 3)/\I.g 26=some (.Z 3)/\I.g 27=some (.Z (S:Int))/\I.g 6=some (.fj aO 0 (l2 S) 8)/\S+m=3/\aO<aN/\ba X aI aO S' aN
   /\U X S' aO=some (.cells c (dw*8) (.grow []))/\∀(i:Nat) v,((Aj S).map d2).flatten[i]? =some v->c.get i=some v)
   3 ⟨0,dN,a8,fq,fq,by refine xN ⟨?_⟩;rw[EE],Zo,lL,bx,bN,λi v a=>by rw[ar8]at a;simp at a⟩ ?_
  clear t0 t9 t10 t11 t3
  rintro m I a1 bi ⟨S,g6,m5,lT,Gx,eX,bE,wx,ck,cH,x2⟩
  have Lp:∀L:List eF,((L.map d2).flatten).length=L.length*8:=λL=>by
   have:=tz (bK:=L.map d2) (bt:=8) (by intro r Y;obtain⟨d,_,rfl⟩:=ZI.1 Y;rfl)
   rw[this,Zi]
  cases m with
  |zero=>
   have d:decide ((S:Int)<3)=false:=by simp only[Zb];omega
   have Pp:S=3:=Zo
   subst Pp
   rw[aeA]at eX
   refine fI @Gx @lT @eX @d ⟨?_⟩
   have k0:Aj 3=A++(bo++ad):=by rw[lI];simp
   rw[k0]at x2
   have fg:(A++(bo++ad)).length=dw:=by simp;omega
   refine⟨aO,⟨λ_=>⟨Zo,Zo⟩,by rw[Zi,fg];omega,by intro r Y;obtain⟨d,_,rfl⟩:=ZI.1 Y;rfl,by rw[wM,Zi,fg],λi aG=>by rw[IN _ (by rw[Zi,fg]at aG;omega),ZV],λi r ahk v aG Ij=> ?_⟩,ck⟩
   rw[bc cH]
   exact x2 _ _ (Tz _ (by intro r Y;obtain⟨d,_,rfl⟩:=ZI.1 Y;rfl) i r ahk v aG Ij)
  |succ m=>
   have d:decide ((S:Int)<3)=true:=by simp only[Zg];omega
   have bz:=zx S
   obtain⟨s,b,L,aD,cB,gS,aub⟩:=Iz S Zo
   have dp:gy 1 (.slice ra 0 3 3) (.Z (S:Int))=some (.ptr ra S):=by rw[IM _ Zo];simp
   have aur:U X a1 ra=zw [c7,dv,aS] 3:=by rw[ck.aa _ uX];exact az
   have ax:=tI _ S s aur aD
   have kH:=Q0 (cB.aa (S':=a1) (λe B=>ck.aa e (bq e B))) Zd
   rw[Zi]at kH
   have M:=dd S L gS
   have R:=gn (S+1)
   refine d9 @Gx @lT @m5 @eX @d @dp @ax ⟨?_⟩
   refine aBS cH Zo kH (Lp L) Zo ?_ ?_
   ·clear kH
    have:∀dw:List eF,Go.bd.jf (dw.map d2).flatten=true:=by
     intro dw
     induction dw with
     |nil=>rfl
     |cons d dw ai=>simpa[d2,Go.bd.jf,qV]using ai
    exact this L
   ·intro bA nJ dg wi gF
    refine cI @Gx @bz ⟨?_⟩
    refine⟨m,Zo,S+1,nJ,aL m5,aL lT,a8,by refine xN ⟨?_⟩;rw[M],Zo,wx,⟨ck.le,λe B=>by rw[gF e Zo];exact ck.aa e B⟩,dg,λi v aG=> ?_⟩
    rw[afA S L gS]at aG
    simp only[YB,ZX]at aG
    have tV:(((Aj S).map d2).flatten).length=l2 S*8:=by
     rw[Lp,Li]
    rw[wi]
    by_cases cZ:i<l2 S*8
    ·rw[Zh Zo]
     rw[Z6 Zo]at aG
     exact x2 i v aG
    ·rw[ZW Zo,tV]at aG
     have:=(Zc.1 aG).1
     rw[Zr ⟨Zo,Zo⟩]
     exact aG
end
section
variable{X:cl}{h S' fi aI aM:Q af}{j an aO aZ:Nat}{s:aY}
def aB8{t:eu}(a:lo t=true):n1 t≠[]:=by
 unfold n1
 rw[Zr a]
 split<;>simp
def aqZ(au:iY X)(bU:mf X)(d6:sc X){P:Nat->Prop}{b:Nat}{aS:D}{ds:List eF}(aE:(o X).a2<=j)(cB:dL X h P b aS 8 (ds.map d2))(bq:∀e,P e->e<j)(bs:∀d∈ds,qn jl d):
 aU X 98 [aS] h j (λac S' an=>ac= .zT/\ba X h j S' an) (λ_ _ _=>False):=by
 refine zz au.todj (aoO X) ?_
 rw[aoP]
 unfold ab0
 have d0:=cB.len
 have hU:=cB.many
 rw[Zi]at d0 hU
 refine cd @d0 ⟨?_⟩
 refine fh (λm I S' aN=>∃(S:Nat),I.g 5=some aS/\I.g 6=some (.Z (ds.length:Int))/\I.g 7=some (.Z (S:Int))/\S+m=ds.length/\ba X h j S' aN)
  ds.length ⟨0,a8,a8,fq,Zo,ba.refl _ _⟩ ?_
 rintro m I aI aO ⟨S,t5,eX,gc,bE,bH⟩
 have jJ:=bH.le
 cases m with
 |zero=>
  have d:=zt S ds.length
  refine dI @gc @eX @d ⟨?_⟩
  exact⟨rfl,bH⟩
 |succ m=>
  have S9:=zu S ds.length
  have bz:=zx S
  obtain⟨d,aF⟩:=zv ds S
  have Az:=bs d (Zl aF)
  have dp:=cB.fx S (by rw[Zi];omega)
  have e9:=(cB.aa (λe B=>bH.aa e (bq e B))).row (i:=S) (r:=d2 d) Zd (by rw[Zu,aF];rfl)
  have iE:d2 d=[.str d.name, .Z d.at_, .bool d.ty.b, .bool d.ty.s, .Z d.ty.w, .str d.on, .Z d.et, .bool d.no]:=rfl
  rw[iE]at e9
  refine hu @gc @eX @t5 @S9 @dp @e9 ⟨?_⟩
  generalize d3:bj X _ aO _=aM
  have bN:U X aM aO=zw [.str d.name, .Z d.at_, .bool d.ty.b, .bool d.ty.s, .Z d.ty.w, .str d.on, .Z d.et, .bool d.no] 8:=by rw[<-d3,a7 Zo];rfl
  have bx:ba X h j aM (aO+1):=⟨Zo,λe B=>by rw[<-d3];simp(disch:=omega) only[aB];exact bH.aa e B⟩
  clear d3
  refine cd (bc bN) ⟨?_⟩
  refine(Mv (j:=aO+1) (h:=aM) au bU d6 Az.name Zo).Zm ?_
  rintro ac a1 bi ⟨rfl,ck⟩
  have iO:=ck.le
  rw[<-ck.aa _ Zo]at bN
  have AM:eD d.ty=[.bool d.ty.b, .bool d.ty.s, .Z d.ty.w]:=rfl
  have AD:cG X a1 3 (.ptr aO 2)=some (.agg (eD d.ty)):=by
   rw[wL,bc bN,bc bN,bc bN];rfl
  refine cd @AD ⟨?_⟩
  refine(ajW (j:=bi) (h:=a1) au.todj d.ty Zo).Zm ?_
  rintro ac bA cK ⟨rfl,c0⟩
  have iF:=c0.le
  rw[<-c0.aa _ Zo]at bN
  have cT:decide (n1 d.ty=[])=false:=by simp[aB8 Az.type]
  have aeI:ba X h j bA cK:=(bx.trans ck).trans c0
  by_cases jX:d.on=[]
  ·have cy:decide (d.on≠[])=false:=by simp[jX]
   have e1:decide (d.on=[])=true:=by simp[jX]
   have lk:aP X bA (.ptr aO 7)=some .zF:=by rw[bc bN];exact congrArg (λb=>some (D.bool b)) (Az.no jX)
   have Vw:aP X bA (.ptr aO 5)=some (.str d.on):=by rw[bc bN];rfl
   refine d9 @cT @Vw @cy @e1 @lk @gc @bz ⟨?_⟩
   exact⟨m,Zo,S+1,aL t5,aL eX,a8,Zo,aeI⟩
  ·have cy:decide (d.on≠[])=true:=by simp[jX]
   have e1:decide (d.on=[])=false:=by simp[jX]
   have Vw:aP X bA (.ptr aO 5)=some (.str d.on):=by rw[bc bN];rfl
   refine dI @cT @Vw @cy ⟨?_⟩
   refine(Mv (j:=cK) (h:=bA) au bU d6 (Az.on jX) Zo).Zm ?_
   rintro ac bM bX ⟨rfl,dC⟩
   have ik:=dC.le
   rw[<-dC.aa _ Zo]at bN
   have av4:aP X bM (.ptr aO 5)=some (.str d.on):=by rw[bc bN];rfl
   refine fI @av4 @e1 @gc @bz ⟨?_⟩
   exact⟨m,Zo,S+1,aL t5,aL eX,a8,Zo,aeI.trans dC⟩
def az4(au:iY X)(bU:mf X)(d6:sc X){w:aY}(bs:G2 w)(aE:(o X).a2<=j):
 aU X 99 [.str w] h j (λac S' an=>ac= .zF/\ba X h j S' an) (λ_ _ _=>False):=by
 refine zz au.todj (aoQ X) ?_
 rw[aoR]
 unfold ab1
 refine(Mv (j:=j) (h:=h) au bU d6 bs aE).Zm ?_
 rintro ac aM aZ ⟨rfl,bx⟩
 refine cx ⟨?_⟩
 exact⟨rfl,bx⟩
def ayN(au:iY X)(bU:mf X)(d6:sc X){P:Nat->Prop}{b:Nat}{aS:D}{gV:List aY}(aE:(o X).a2<=j)(Y:dL X h P b aS 1 (e3 gV))(bq:∀e,P e->e<j)(bs:∀w∈gV,G2 w):
 aU X 49 [aS, .func (.func 99) [] []] h j (λac S' an=>ac= .zF/\ba X h j S' an) (λ_ _ _=>False):=by
 refine zz au.todj (aa6 X) ?_
 rw[aa7]
 unfold R9
 refine aU.mono (ah:=λac S' an=>ac= .Z (-1)/\ba X h j S' an) (av:=λ_ _ _=>False) ?_ ?_ (λ_ _ _ a=>a.elim)
 ·refine zz au.todj (abC X) ?_
  rw[abD]
  unfold Sc
  have d0:=Y.len
  have hU:=Y.many
  rw[show(e3 gV).length=gV.length from by simp[e3]]at d0 hU
  refine cd @d0 ⟨?_⟩
  refine fh (λm I S' aN=>∃(S:Nat),I.g 0=some aS/\I.g 1=some (.func (.func 99) [] [])/\I.g 7=some (.Z (gV.length:Int))/\I.g 8=some (.Z (S:Int))/\S+m=gV.length/\ba X h j S' aN)
   gV.length ⟨0,a8,a8,a8,fq,Zo,ba.refl _ _⟩ ?_
  rintro m I aI aO ⟨S,t0,t1,gc,t8,bE,bH⟩
  have jJ:=bH.le
  cases m with
  |zero=>
   have d:=zt S gV.length
   refine dI @t8 @gc @d ⟨?_⟩
   exact⟨rfl,bH⟩
  |succ m=>
   have d:=zu S gV.length
   have bz:=zx S
   obtain⟨w,nR⟩:=zv gV S
   have dp:=Y.fx S (by simp[e3];omega)
   have hx:=(Y.aa (λe B=>bH.aa e (bq e B))).cell S [.str w] 0 (.str w) (by unfold e3;rw[Zu,nR];rfl) rfl
   rw[Z1]at dp
   rw[Z1,ZR]at hx
   refine d9 @t8 @gc @t1 @t0 @d @dp @hx ⟨?_⟩
   refine(az4 (j:=aO) (h:=aI) au bU d6 (bs w (Zl nR)) Zo).Zm ?_
   rintro ac aM aZ ⟨rfl,bx⟩
   refine cI @t8 @bz ⟨?_⟩
   exact⟨m,Zo,S+1,aL t0,aL t1,aL gc,a8,Zo,bH.trans bx⟩
 ·rintro ac aI aO ⟨rfl,bU⟩
  refine cx ⟨?_⟩
  exact⟨rfl,bU⟩
end
end
end Go.Proofs.YtpeabpmnlmaabaaGreatDoor

