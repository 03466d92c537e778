/- Part of the proof of the last text; no conditions -/
import Derived.Test.YtbbkkkpgjaopkaaGreatDoorYl
set_option maxHeartbeats 8000000
set_option linter.all false
namespace Go.bs
noncomputable section
open Go.aQ
section
variable{C:aT}{h R aX:M ak}{j au aM:Nat}
def r0{rF:List y}{ah:bQ}(a:ah (.ptr j 0) (bl C h j (zI rF rF.length)) (j+1)):av (kJ rF j) λr=>gN C h j r.1 r.2 ah:=⟨⟨a⟩⟩
def KI{b:Nat}{rF:List y}{ah:y->M ak->Prop}(a:ah (.ptr b 0) (bl C h b (zI rF rF.length))):av (kJ rF b) λr=>lD C h b r.1 r.2 ah:=⟨⟨a⟩⟩
def td(cs:List y):CL cs []=some cs:=rfl
def tc(cs:List y)(off size:Nat)(v:y)(da:List (Nat×Nat×y)):CL cs ((off,size,v)::da)=if v.cells.length=size/\off+size<=cs.length then CL (nk cs off v.cells) da else none:=by
 have D:∀E b:Nat,(Nat.beq E b=true)=(E=b):=λE b=>propext ⟨Zl,λa=>by subst a;exact zk E⟩
 simp only[CL,eQ,Zq,D,Nat.ble_eq]
def qL(c:M y)(W:Nat)(v:y):d3 c W [v]=c.set W (some v):=by simp[d3]
def bU{b n:Nat}{c:M y}{st:oE}(a:Z C h b=some (.cells c n st))(W:Nat):aV C h (.ptr b W)=c.get W:=by rw[cT,a]
def LC{w:Bool}{E b:Prop}(a:b):iR w bs.undef E b:=⟨a⟩
def rk(b W n c:Nat):fM (.slice b W n c)=some (.Z (n:Int)):=by simp[fM,o7]
def tF(b W n c:Nat):fM (.ej b W n c)=some (.Z (n:Int)):=by simp[fM,o7]
def x7:fM .aW=some (.Z 0):=rfl
def uY(s:List Nat):mq (.str s)=some (.Z (s.length:Int)):=by simp[mq,o7]
def DT:∀E b:List Nat,mP E b=decide (E=b):=by
 intro E
 induction E with
 |nil=>intro b;cases b<;>simp[mP]
 |cons x E aj=>
  intro b
  cases b with
  |nil=>simp[mP]
  |cons e b=>
   simp only[mP,aj]
   by_cases a:x=e<;>simp[a]
def BR(t:Nat)(ta:Bool)(E b:List Nat):dD C h .eql t ta (.str E) (.str b)=some (.bool (decide (E=b))):=by
 simp[dD,wZ,vt,DT]
def BS(t:Nat)(ta:Bool)(E b:List Nat):dD C h .neq t ta (.str E) (.str b)=some (.bool (decide (E≠b))):=by
 simp[dD,wZ,vt,DT]
def vG(off aN:Nat)(cs:List y):up false off aN (.agg cs)=cs[off]? :=by simp[up,eQ]
def Aj(off aN:Nat)(cs:List y):up true off aN (.agg cs)=some (.agg ((cs.drop off).take aN)):=by simp[up,eQ]
def w4(t:Nat)(bo v:y):KK t bo true (.iface t v)=some (.tuple [v, .zT]):=by simp[KK,eQ]
def y6(q:IntKind)(x:Int):k8 .u64 (.int q x)=some (.int .u64 (x%18446744073709551616)):=by simp[k8,lj,ps]
def EU{q:IntKind}{x:Int}(H: -9223372036854775808<=x)(K:x<9223372036854775808):k8 .i64 (.int q x)=some (.Z x):=by simp[k8,lj,wrap64 H K]
def y7(s:List Nat):ajW (.str s)=some (.str s):=rfl
structure cu(C:aT)(X:List Nat)(h:M ak)(j:Nat)(R:M ak)(au:Nat):Prop where
 le:j<=au
 ad:∀b,b<j->b∉X->Z C R b=Z C h b
def cu.refl(X:List Nat)(h:M ak)(j:Nat):cu C X h j h j:=⟨Zj _,λ_ _ _=>rfl⟩
def cu.trans{X:List Nat}{aX aP bf:M ak}{aM be bE:Nat}(a:cu C X aX aM aP be)(q:cu C X aP be bf bE):cu C X aX aM bf bE:=
 ⟨ZB a.le q.le,λb al af=>(q.ad b (ZT al a.le) af).trans (a.ad b al af)⟩
def cu.of{X:List Nat}(a:bp C h j R au):cu C X h j R au:=⟨a.le,λb al _=>a.ad b al⟩
def cu.fm{X:List Nat}(a:cu C X h j R au)(b W:Nat)(al:b<j)(af:b∉X):aV C R (.ptr b W)=aV C h (.ptr b W):=by rw[cT,cT,a.ad b al af]
def cu.down{X nY:List Nat}{aY:Nat}(a:cu C X h j R au)(aI:aY<=j)(af:∀b∈X,b∈nY\/aY<=b):cu C nY h aY R au:=
 ⟨ZB aI a.le,λb al B=>a.ad b Zo (λD=>by rcases af b D with a|a;exact B a;omega)⟩
structure et(C:aT)(h:M ak)(P:Nat->Prop)(b:Nat)(a2:y)(aN:Nat)(aK:List (List y)):Prop where
 al:aK≠[]->P b
 many:aK.length<=300000
 wide:∀r∈aK,r.length=aN
 len:fM a2=some (.Z (aK.length:Int))
 g2:∀(i:Nat),i<aK.length->iV aN a2 (.Z (i:Int))=some (.ptr b (i*aN))
 cell:∀(i:Nat) r (Y:Nat) v,aK[i]? =some r->r[Y]? =some v->aV C h (.ptr b (i*aN+Y))=some v
def et.ad{P:Nat->Prop}{b aN:Nat}{a2:y}{aK:List (List y)}(a:et C h P b a2 aN aK)(q:∀e,P e->Z C R e=Z C h e):et C R P b a2 aN aK:=
 ⟨a.al,a.many,a.wide,a.len,a.g2,λi r Y v aF bD=>by
  have aG:=q b (a.al (λD=>by rw[D]at aF;cases aF))
  rw[cT,aG, <-cT];exact a.cell i r Y v aF bD⟩
def et.lift{P Q:Nat->Prop}{b aN:Nat}{a2:y}{aK:List (List y)}(a:et C h P b a2 aN aK)(q:∀e,P e->Q e):et C h Q b a2 aN aK:=
 ⟨λD=>q _ (a.al D),a.many,a.wide,a.len,a.g2,a.cell⟩
def XE{c:M y}:∀(r:List y) (W:Nat),(∀Y v,r[Y]? =some v->c.get (W+Y)=some v)->c.ks W r.length=some r:=by
 intro r
 induction r with
 |nil=>intro W _;rfl
 |cons E r aj=>
  intro W a
  have bi:=a 0 E rfl
  rw[Z5]at bi
  have H:=aj (W+1) (λY v bD=>by have:=a (Y+1) v (by simpa using bD);rw[Nat.add_right_comm];simpa[ZX,zn,Nat.add_left_comm]using this)
  simp[M.ks,bi,H]
def et.row{P:Nat->Prop}{b aN:Nat}{a2:y}{aK:List (List y)}(a:et C h P b a2 aN aK)(aE:0<aN){i:Nat}{r:List y}(aF:aK[i]? =some r):dT C h aN (.ptr b (i*aN))=some (.agg r):=by
 have aB:=a.wide r (Zh aF)
 have bi:∃v,r[0]? =some v:=by
  cases r with
  |nil=>simp at aB;omega
  |cons E k=>exact⟨E,rfl⟩
 obtain⟨v,bu⟩:=bi
 have aA:=a.cell i r 0 v aF bu
 rw[cT]at aA
 rw[Sr]
 split at aA
 ·rename_i c _ _ al
  have:=XE (c:=c) r (i*aN) (λY v bD=>by
   have:=a.cell i r Y v aF bD
   rw[cT,al]at this
   exact this)
  rw[aB]at this
  rw[this];rfl
 ·cases aA
def PW{aN:Nat}:∀(aK:List (List y)),(∀r∈aK,r.length=aN)->∀(i:Nat) r (Y:Nat) v,aK[i]? =some r->r[Y]? =some v->aK.flatten[i*aN+Y]? =some v:=by
 intro aK
 induction aK with
 |nil=>intro _ i r Y v aF;simp at aF
 |cons E k aj=>
  intro V i r Y v aF bD
  have aD:=V E (Zt ..)
  have m8:Y<r.length:=(Zb.1 bD).1
  cases i with
  |zero=>
   simp at aF;subst aF
   rw[ZL,Y1,ZP,ZI Zo];exact bD
  |succ i=>
   simp at aF
   rw[ZL,ZF (by rw[aD,ZV];omega),aD]
   have:(i+1)*aN+Y-aN=i*aN+Y:=by rw[ZV];omega
   rw[this]
   exact aj (λr ml=>V r (Zn _ ml)) i r Y v aF bD
def ib.wv{aN:Nat}{s:y}{aK:List (List y)}{cy:List Nat}(a:ib C h s aN aK.flatten cy)(eh:0<aN)(V:∀r∈aK,r.length=aN)(bc:aK.length<=300000){P:Nat->Prop}(aB:∀e∈cy,P e):∃b,et C h P b s aN aK:=by
 have dY:=mf V
 have Z:∀(aK:List (List y)),(∀r∈aK,r.length=aN)->∀(i:Nat) r (Y:Nat) v,aK[i]? =some r->r[Y]? =some v->aK.flatten[i*aN+Y]? =some v:=by
  intro aK
  induction aK with
  |nil=>intro _ i r Y v aF;simp at aF
  |cons E k aj=>
   intro V i r Y v aF bD
   have aD:=V E (Zt ..)
   have m8:Y<r.length:=(Zb.1 bD).1
   cases i with
   |zero=>
    simp at aF;subst aF
    rw[ZL,Y1,ZP,ZI Zo];exact bD
   |succ i=>
    simp at aF
    rw[ZL,ZF (by rw[aD,ZV];omega),aD]
    have:(i+1)*aN+Y-aN=i*aN+Y:=by rw[ZV];omega
    rw[this]
    exact aj (λr ml=>V r (Zn _ ml)) i r Y v aF bD
 rcases a with ⟨H,K,am⟩|⟨b,ez,n,c,H,K,am,aC,bm,b1,df⟩
 ·have Rs:aK.length=0:=by
   rw[K,ZY]at dY
   rcases Nat.mul_eq_zero.1 dY.symm with a|a
   ·exact a
   ·omega
  have Rs:aK=[]:=YE.1 Rs
  subst Rs H
  exact⟨0,λD=>absurd rfl D,Zs,V,rfl,λi aF=>by simp at aF,λi r Y v aF=>by simp at aF⟩
 ·have aI:n=aK.length:=Z0 eh (by rw[<-K,dY])
  subst aI H
  refine⟨b,λ_=>aB b (by rw[am];exact Zt ..),bc,V,tF ..,λi aF=>by rw[DD _ aF,ZP],λi r Y v aF bD=> ?_⟩
  rw[cT,b1]
  exact(df _).trans (Z aK V i r Y v aF bD)
def JI{b aN q cap:Nat}{aK:List (List y)}{st:oE}(al:Z C h b=some (.cells (M.ofList aK.flatten 0 .nil) (q*aN) st))(aG:aK.length=q)(V:∀r∈aK,r.length=aN)(bc:q<=300000){P:Nat->Prop}(bI:P b):et C h P b (.slice b 0 q cap) aN aK:=by
 subst aG
 have Z:∀(aK:List (List y)),(∀r∈aK,r.length=aN)->∀(i:Nat) r (Y:Nat) v,aK[i]? =some r->r[Y]? =some v->aK.flatten[i*aN+Y]? =some v:=by
  intro aK
  induction aK with
  |nil=>intro _ i r Y v aF;simp at aF
  |cons E k aj=>
   intro V i r Y v aF bD
   have aD:=V E (Zt ..)
   have m8:Y<r.length:=(Zb.1 bD).1
   cases i with
   |zero=>
    simp at aF;subst aF
    rw[ZL,Y1,ZP,ZI Zo];exact bD
   |succ i=>
    simp at aF
    rw[ZL,ZF (by rw[aD,ZV];omega),aD]
    have:(i+1)*aN+Y-aN=i*aN+Y:=by rw[ZV];omega
    rw[this]
    exact aj (λr ml=>V r (Zn _ ml)) i r Y v aF bD
 refine⟨λ_=>bI,bc,V,rk ..,λi aF=>by rw[A0 _ aF,ZP],λi r Y v aF bD=> ?_⟩
 rw[cT,al]
 exact(lE _ _).trans (Z aK V i r Y v aF bD)
def k0(t:iO):List y:=[.bool t.b, .bool t.s, .Z t.w]
def G5(C:aT)(h:M ak)(b:Nat):Prop:=∃c n,Z C h b=some (.cells c n .own)/\8<n
def yK(C:aT)(h:M ak)(b q:Nat):Prop:=C.aY<=b/\∃c n,Z C h b=some (.cells c n .own)/\q<=n
def yK.ad{b q:Nat}(a:yK C h b q)(ai:Z C R b=Z C h b):yK C R b q:=by unfold yK;rw[ai];exact a
def G5.ad{b:Nat}(a:G5 C h b)(q:Z C R b=Z C h b):G5 C R b:=by unfold G5;rw[q];exact a
mutual
def cG(C:aT)(h:M ak):(Nat->Prop)->bL->y->Prop
 |P, .mk kind at_ name no ty n args,v=>∃b,v= .ptr b 0/\P b/\G5 C h b/\aV C h (.ptr b 0)=some (.Z kind)/\aV C h (.ptr b 1)=some (.Z at_)/\aV C h (.ptr b 2)=some (.str name)/\aV C h (.ptr b 3)=some (.bool no)
   /\aV C h (.ptr b 4)=some (.bool ty.b)/\aV C h (.ptr b 5)=some (.bool ty.s)/\aV C h (.ptr b 6)=some (.Z ty.w)/\aV C h (.ptr b 7)=some (.int .u64 n)
   /\∃a2 cn bx,aV C h (.ptr b 8)=some a2/\et C h P cn a2 1 (bx.map λv=>[v])/\(bx≠[]->cn≠b/\(kind=24->yK C h cn bx.length))/\dw C h (λe=>P e/\e≠b/\e≠cn) args bx
def dw(C:aT)(h:M ak):(Nat->Prop)->List bL->List y->Prop
 |_,[],bx=>bx=[]
 |P,D::ci,bx=>∃v sP Q,bx=v::sP/\(∀e,Q e->P e)/\cG C h Q D v/\dw C h (λe=>P e/\¬Q e) ci sP
end
mutual
def cG.ad{P:Nat->Prop}(q:∀e,P e->Z C R e=Z C h e):∀(D:bL) (v:y),cG C h P D v->cG C R P D v
 | .mk kind at_ name no ty n args,v,a=>by
   unfold cG at a ⊢
   obtain⟨b,H,bI,bd,K,am,aC,bm,b1,df,ev,hN,a2,cn,bx,nA,q6,uw,CR⟩:=a
   have aB:∀W,aV C R (.ptr b W)=aV C h (.ptr b W):=λW=>by rw[cT,cT,q b bI]
   exact⟨b,H,bI,bd.ad (q b bI),by rw[aB];exact K,by rw[aB];exact am,by rw[aB];exact aC,by rw[aB];exact bm,by rw[aB];exact b1,by rw[aB];exact df,by rw[aB];exact ev,by rw[aB];exact hN,a2,cn,bx,by rw[aB];exact nA,q6.ad q,(λbu=>⟨(uw bu).1,λaG=>((uw bu).2 aG).ad (q cn (q6.al (by simpa using bu)))⟩),dw.ad (λe B=>q e B.1) args bx CR⟩
def dw.ad{P:Nat->Prop}(q:∀e,P e->Z C R e=Z C h e):∀(ci:List bL) (bx:List y),dw C h P ci bx->dw C R P ci bx
 |[],bx,a=>by unfold dw at a ⊢;exact a
 |D::ci,bx,a=>by
  unfold dw at a ⊢
  obtain⟨v,sP,Q,H,bG,K,am⟩:=a
  exact⟨v,sP,Q,H,bG,cG.ad (λe B=>q e (bG e B)) D v K,dw.ad (λe B=>q e B.1) ci sP am⟩
end
mutual
def cG.lift{P Q:Nat->Prop}(q:∀e,P e->Q e):∀(D:bL) (v:y),cG C h P D v->cG C h Q D v
 | .mk kind at_ name no ty n args,v,a=>by
   unfold cG at a ⊢
   obtain⟨b,H,bI,bd,K,am,aC,bm,b1,df,ev,hN,a2,cn,bx,nA,q6,uw,CR⟩:=a
   exact⟨b,H,q b bI,bd,K,am,aC,bm,b1,df,ev,hN,a2,cn,bx,nA,q6.lift q,uw,dw.lift (λe B=>⟨q e B.1,B.2⟩) args bx CR⟩
def dw.lift{P Q:Nat->Prop}(q:∀e,P e->Q e):∀(ci:List bL) (bx:List y),dw C h P ci bx->dw C h Q ci bx
 |[],bx,a=>by unfold dw at a ⊢;exact a
 |D::ci,bx,a=>by
  unfold dw at a ⊢
  obtain⟨v,sP,eE,H,bG,K,am⟩:=a
  exact⟨v,sP,eE,H,λe B=>q e (bG e B),K,dw.lift (λe B=>⟨q e B.1,B.2⟩) ci sP am⟩
end
def dw.nil{P:Nat->Prop}:dw C h P [] []:=by unfold dw;rfl
def gL(kind at_:Int)(name:ba)(no:Bool)(ty:iO)(n:Int)(a2:y):List y:=[.Z kind, .Z at_, .str name, .bool no, .bool ty.b, .bool ty.s, .Z ty.w, .int .u64 n,a2]
def SA:8<9:=by decide
def cG.of{P:Nat->Prop}{b cn:Nat}{kind at_ n:Int}{name:ba}{no:Bool}{ty:iO}{a2:y}{m:Nat}{st:oE}{args:List bL}{bx:List y}(al:Z C h b=some (.cells (M.ofList (gL kind at_ name no ty n a2) 0 .nil) m st))(bI:P b)
 (aE:et C h P cn a2 1 (bx.map λv=>[v]))(uw:bx≠[]->cn≠b)(aD:dw C h (λe=>P e/\e≠b/\e≠cn) args bx)(bd:st= .own:=by rfl)(bc:8<m:=by exact SA)(br:kind=24->bx≠[]->yK C h cn bx.length:=by exact λa=>absurd a Zd):cG C h P (.mk kind at_ name no ty n args) (.ptr b 0):=by
 unfold cG
 refine⟨b,rfl,bI,⟨_,_,bd▸al,bc⟩, ?_, ?_, ?_, ?_, ?_, ?_, ?_, ?_,a2,cn,bx, ?_,aE,(λbu=>⟨uw bu,λaG=>br aG bu⟩),aD⟩<;>(rw[bU al,lE];rfl)
def et.nil(P:Nat->Prop)(aN:Nat):et C h P 0 .aW aN []:=⟨λD=>absurd rfl D,Zs,Zs,rfl,λi aF=>by simp at aF,λi r Y v aF=>by simp at aF⟩
def cG.leaf{P:Nat->Prop}{b:Nat}{kind at_ n:Int}{name:ba}{no:Bool}{ty:iO}{m:Nat}{st:oE}(al:Z C h b=some (.cells (M.ofList (gL kind at_ name no ty n .aW) 0 .nil) m st))(bI:P b)(bd:st= .own:=by rfl)(bc:8<m:=by exact SA):cG C h P (.mk kind at_ name no ty n []) (.ptr b 0):=
 cG.of (bx:=[]) al bI (et.nil P 1) (λa=>absurd rfl a) dw.nil bd bc (λ_ a=>absurd rfl a)
def PV:∀bx:List y,(bx.map λv=>[v]).flatten=bx:=by
 intro bx
 induction bx with
 |nil=>rfl
 |cons E k aj=>simp[aj]
def cG.lit{P:Nat->Prop}{b cn q cap:Nat}{kind at_ n:Int}{name:ba}{no:Bool}{ty:iO}{m:Nat}{st ha:oE}{args:List bL}{bx:List y}(al:Z C h b=some (.cells (M.ofList (gL kind at_ name no ty n (.slice cn 0 q cap)) 0 .nil) m st))(bI:P b)
 (Fp:Z C h cn=some (.cells (M.ofList bx 0 .nil) q ha))(am6:P cn)(aG:bx.length=q)(gH:q<=1000)(uw:cn≠b)(aD:dw C h (λe=>P e/\e≠b/\e≠cn) args bx)(bd:st= .own:=by rfl)(bc:8<m:=by exact SA)(aoT:ha= .own:=by rfl)(gx:C.aY<=cn:=by(omega)):cG C h P (.mk kind at_ name no ty n args) (.ptr b 0):=
 cG.of al bI (JI (aK:=bx.map λv=>[v]) (by rw[PV,Yp];exact Fp) (by simpa using aG) Zs Zo am6) (λ_=>uw) aD bd bc (λ_ _=>⟨gx,_,_,aoT▸Fp,Zo⟩)
def dw.one{P Q:Nat->Prop}{D:bL}{v:y}(a:cG C h Q D v)(bG:∀e,Q e->P e):dw C h P [D] [v]:=by
 unfold dw;exact⟨v,[],Q,rfl,bG,a,dw.nil⟩
def dw.two{P Q eE:Nat->Prop}{D f:bL}{v w:y}(a:cG C h Q D v)(q:cG C h eE f w)(bG:∀e,Q e->P e)(V:∀e,eE e->P e/\¬Q e):dw C h P [D,f] [v,w]:=by
 unfold dw;exact⟨v,[w],Q,rfl,bG,a,dw.one q V⟩
def dw.snoc{Q:Nat->Prop}{D:bL}{v:y}(q:cG C h Q D v):∀{ci:List bL}{bx:List y}{oD P:Nat->Prop},dw C h oD ci bx->(∀e,oD e->P e)->(∀e,Q e->P e/\¬oD e)->dw C h P (ci++[D]) (bx++[v]):=by
 intro ci
 induction ci with
 |nil=>intro bx oD P a H K;unfold dw at a;subst a;exact dw.one q (λe B=>(K e B).1)
 |cons E k aj=>
  intro bx oD P a H K
  unfold dw at a
  obtain⟨w,sP,eE,rfl,bG,am,aC⟩:=a
  show dw C h P (E::(k++[D])) (w::(sP++[v]))
  unfold dw
  exact⟨w,sP++[v],eE,rfl,λe B=>H e (bG e B),am,aj aC (λe B=>⟨H e B.1,B.2⟩) (λe B=>⟨⟨(K e B).1,λku=>(K e B).2 (bG e ku)⟩,λo5=>(K e B).2 o5.1⟩)⟩
def cG.ptr{P:Nat->Prop}:∀{D:bL}{v:y},cG C h P D v->∃b,v= .ptr b 0/\P b/\aV C h (.ptr b 0)=some (.Z D.kind)
 | .mk ..,_,a=>by
   unfold cG at a
   obtain⟨b,H,bI,_,K,_⟩:=a
   exact⟨b,H,bI,K⟩
def cG.open{P:Nat->Prop}:∀{D:bL}{v:y},cG C h P D v->∃b a2 cn bx,v= .ptr b 0/\P b/\aV C h (.ptr b 0)=some (.Z D.kind)/\aV C h (.ptr b 1)=some (.Z D.at_)/\aV C h (.ptr b 2)=some (.str D.name)/\aV C h (.ptr b 3)=some (.bool D.no)
 /\aV C h (.ptr b 4)=some (.bool D.ty.b)/\aV C h (.ptr b 5)=some (.bool D.ty.s)/\aV C h (.ptr b 6)=some (.Z D.ty.w)/\aV C h (.ptr b 7)=some (.int .u64 D.n)
 /\aV C h (.ptr b 8)=some a2/\et C h P cn a2 1 (bx.map λv=>[v])/\dw C h P D.args bx
 | .mk ..,_,a=>by
   unfold cG at a
   obtain⟨b,H,bI,bd,K,am,aC,bm,b1,df,ev,hN,a2,cn,bx,nA,q6,uw,CR⟩:=a
   exact⟨b,a2,cn,bx,H,bI,K,am,aC,bm,b1,df,ev,hN,nA,q6,dw.lift (λe B=>B.1) _ _ CR⟩
def dw.len:∀{ci:List bL}{bx:List y}{P:Nat->Prop},dw C h P ci bx->bx.length=ci.length:=by
 intro ci
 induction ci with
 |nil=>intro bx P a;unfold dw at a;subst a;rfl
 |cons E k aj=>
  intro bx P a
  unfold dw at a
  obtain⟨w,sP,Q,rfl,bG,H,K⟩:=a
  simp[aj K]
def dw.get:∀{ci:List bL}{bx:List y}{P:Nat->Prop},dw C h P ci bx->∀(i:Nat) D,ci[i]? =some D->∃v,bx[i]? =some v/\cG C h P D v:=by
 intro ci
 induction ci with
 |nil=>intro bx P a i D bt;simp at bt
 |cons E k aj=>
  intro bx P a i D bt
  unfold dw at a
  obtain⟨w,sP,Q,rfl,bG,H,K⟩:=a
  cases i with
  |zero=>simp at bt;subst bt;exact⟨w,rfl,cG.lift bG _ _ H⟩
  |succ i=>
   obtain⟨v,am,aC⟩:=aj K i D (by simpa using bt)
   exact⟨v,by simpa using am,cG.lift (λe B=>B.1) _ _ aC⟩
def et.one{P:Nat->Prop}{b:Nat}{a2:y}{bx:List y}(a:et C h P b a2 1 (bx.map λv=>[v])){i:Nat}{v:y}(aF:bx[i]? =some v):iV 1 a2 (.Z (i:Int))=some (.ptr b i)/\aV C h (.ptr b i)=some v/\P b:=by
 have jC:=(Zb.1 aF).1
 have H:=a.g2 i (by simpa using jC)
 have K:=a.cell i [v] 0 v (by rw[Zy,aF];rfl) rfl
 rw[Yp]at H
 rw[Yp,Z5]at K
 exact⟨H,K,a.al (λD=>by simp at D;subst D;simp at aF)⟩
def Wb{aN q:Nat}{x:y}{m:List y}(af:hI C h aN x=some (q,m))(aG:0<q)(al:q<=1048576):
 ju C h j aN .aW x=some (.fq (.ej j 0 q aN) (bl C h j (some (.cells (M.ofList m 0 .nil) m.length (.grow [])))) (j+1)):=by
 simp only[ju,af]
 rw[hn,Zg Zo]
 simp[vr,sa,jP al,mQ]
def aiT{aN q b n:Nat}{x:y}{m:List y}{c:M y}{ez:List Nat}(cf:0<aN)(af:hI C h aN x=some (q,m))(aG:0<q)(al:n+q<=1048576)(amD:iI m=true)
 (aI:C.aY<=b)(bd:Z C h b=some (.cells c (n*aN) (.grow ez))):
 ju C h j aN (.ej b 0 n aN) x=some (.fq (.ej j 0 (n+q) aN) (bl C (bl C h b (some (.cells c (n*aN) .j1))) j (some (.cells (d3 c (n*aN) m) (n*aN+m.length) (.grow (b::ez))))) (j+1)):=by
 simp only[ju,af]
 rw[hn,Zg Zo]
 have cJ:¬(0+(n+q)*aN<=n*aN):=by
  have:0<q*aN:=Nat.mul_pos aG cf
  rw[ZV];omega
 have Il:Nat.ble (0+(n+q)*aN) (n*aN)=false:=by
  cases bG:Nat.ble (0+(n+q)*aN) (n*aN)with
  |false=>rfl
  |true=>exact absurd (h4 bG) cJ
 simp only[vr,Hk,bd,j5,jP aI,jP al,amD,Il]
 simp[eQ,mQ]
def Wa{aN q b n:Nat}{x:y}{m k:List y}{c:M y}{st:oE}{ai:Nat}(cf:0<aN)(af:hI C h aN x=some (q,m))(aG:0<q)(al:n+q<=1048576)
 (bd:Z C h b=some (.cells c ai st))(aA:qQ c k)(aB:k.length=n*aN):
 ju C h j aN (.slice b 0 n n) x=some (.fq (.ej j 0 (n+q) aN) (bl C h j (some (.cells (M.ofList (k++m) 0 .nil) (k++m).length (.grow [])))) (j+1)):=by
 simp only[ju,af]
 rw[hn,Zg Zo]
 have Il:Nat.ble (n+q) n=false:=by
  cases bG:Nat.ble (n+q) n with
  |false=>rfl
  |true=>exact absurd (h4 bG) Zo
 have In:ix C h b 0 (n*aN)=some k:=by
  simp only[ix,cellsOf,bd]
  rw[xr aA _ _ Zo]
  simp[<-aB]
 simp only[vr,Il,kp,In,sa,jP al,eW,mQ,lT,g5]
def gu(C:aT)(h:M ak)(s:y)(aN:Nat)(k:List y)(cy:List Nat):Prop:=
 ib C h s aN k cy\/∃b n c st,s= .slice b 0 n n/\k.length=n*aN/\cy=[b]/\Z C h b=some (.cells c (n*aN) st)/\qQ c k/\st= .own/\C.aY<=b
def gu.ad{s:y}{aN:Nat}{k:List y}{cy:List Nat}(a:gu C h s aN k cy)(aG:∀e∈cy,Z C R e=Z C h e):gu C R s aN k cy:=by
 rcases a with a|⟨b,n,c,st,H,K,am,aC,bm⟩
 ·exact .inl (a.ad aG)
 ·exact .inr ⟨b,n,c,st,H,K,am,by rw[aG b (by rw[am];exact Zt ..)];exact aC,bm⟩
def gu.append{aN q:Nat}{s x:y}{k m:List y}{cy:List Nat}(a:gu C h s aN k cy)(cf:0<aN)(af:hI C h aN x=some (q,m))(bc:m.length=q*aN)(aG:0<q)(H:iI m=true)
 (al:k.length+m.length<=1048576)(aI:C.aY<=j)(cJ:∀e∈cy,e<j):
 ∃fc R hS,ju C h j aN s x=some (.fq fc R (j+1))/\ib C R fc aN (k++m) hS/\(∀e∈hS,e=j\/e∈cy)/\∀e,e≠j->e∉cy->Z C R e=Z C h e:=by
 have Rk:q<=q*aN:=Y6 q cf
 rcases a with (⟨rfl,rfl,rfl⟩|⟨b,ez,n,c,rfl,K,rfl,aC,bm,b1,df⟩)|⟨b,n,c,st,rfl,K,rfl,aC,bm,_⟩
 ·refine⟨_,_,[j],Wb af aG (by simp at al;omega), .inr ⟨j,[],q,_,rfl,by simpa using bc,rfl,by simpa using aI,Zs,by rw[bn aI,bc], ?_⟩,Zs,λe B _=>aL aI B⟩
  simpa using lk m
 ·have lZ:n<=n*aN:=Y6 n cf
  have f0:b<j:=cJ b (Zt ..)
  refine⟨_,_,j::b::ez,aiT cf af aG Zo H (aC b (Zt ..)) b1, .inr ⟨j,b::ez,n+q,d3 c (n*aN) m,rfl,by rw[ZG,K,bc,ZV],rfl, ?_, ?_, ?_, ?_⟩, ?_,λe B I3=> ?_⟩
  ·intro e B
   rcases Zr.1 B with rfl|B
   ·exact aI
   ·exact aC e B
  ·intro aA
   have:=cJ j aA
   omega
  ·rw[bn aI,bc,ZV]
  ·rw[<-K];exact df.app m
  ·intro e B
   rcases Zr.1 B with rfl|B
   ·exact .inl rfl
   ·exact .inr B
  ·simp only[Zr,Y4]at I3
   rw[aL aI B,aL (aC b (Zt ..)) I3.1]
 ·have lZ:n<=n*aN:=Y6 n cf
  refine⟨_,_,[j],Wa cf af aG Zo aC bm K, .inr ⟨j,[],n+q,_,rfl,by rw[ZG,K,bc,ZV],rfl,by simpa using aI,Zs,by rw[bn aI,ZG,K,bc,ZV],lk _⟩,Zs,λe B _=>aL aI B⟩
def gu.wv{aN:Nat}{s:y}{aK:List (List y)}{cy:List Nat}(a:gu C h s aN aK.flatten cy)(eh:0<aN)(V:∀r∈aK,r.length=aN)(bc:aK.length<=300000){P:Nat->Prop}(aB:∀e∈cy,P e):∃b,et C h P b s aN aK:=by
 rcases a with a|⟨b,n,c,st,rfl,K,rfl,aC,bm,_⟩
 ·exact a.wv eh V bc aB
 ·have dY:=mf V
  have aI:n=aK.length:=Z0 eh (by rw[<-K,dY])
  subst aI
  refine⟨b,λ_=>aB b (Zt ..),bc,V,rk ..,λi aF=>by rw[A0 _ aF,ZP],λi r Y v aF bD=> ?_⟩
  rw[cT,aC]
  exact(bm _).trans (PW aK V i r Y v aF bD)
def gu.NA{s:y}{bx:List y}{cy:List Nat}(a:gu C h s 1 bx cy){P:Nat->Prop}(bc:bx.length<=300000)(aB:∀e∈cy,P e):∃b,et C h P b s 1 (bx.map λv=>[v]):=by
 have co:gu C h s 1 (bx.map λv=>[v]).flatten cy:=by rw[PV];exact a
 exact co.wv Zd Zs (by simpa using bc) aB
structure hd(C:aT)(h:M ak)(ek:Nat->Prop)(b:Nat)(a2:y)(aN:Nat)(aK:List (List y)):Prop where
 rd:et C h ek b a2 aN aK
 wr:aK≠[]->C.aY<=b/\∃c n st,Z C h b=some (.cells c n st)/\aK.length*aN<=n/\(st= .own\/∃ez,st= .grow ez/\b∉ez/\∀e∈ez,ek e/\C.aY<=e)
 ap:∃cy,gu C h a2 aN aK.flatten cy/\∀e∈cy,ek e
def hd.ad{ek:Nat->Prop}{b aN:Nat}{a2:y}{aK:List (List y)}(a:hd C h ek b a2 aN aK)(q:∀e,ek e->Z C R e=Z C h e):hd C R ek b a2 aN aK:=
 ⟨a.rd.ad q,λV=>by rw[q b (a.rd.al V)];exact a.wr V,by obtain⟨cy,H,K⟩:=a.ap;exact⟨cy,H.ad λe B=>q e (K e B),K⟩⟩
def hd.lift{ek Q:Nat->Prop}{b aN:Nat}{a2:y}{aK:List (List y)}(a:hd C h ek b a2 aN aK)(q:∀e,ek e->Q e):hd C h Q b a2 aN aK:=
 ⟨a.rd.lift q,λV=>by
  obtain⟨bi,c,n,st,H,K,am⟩:=a.wr V
  exact⟨bi,c,n,st,H,K,am.imp id λ⟨ez,D,al,B⟩=>⟨ez,D,al,λe bc=>⟨q e (B e bc).1,(B e bc).2⟩⟩⟩,by obtain⟨cy,H,K⟩:=a.ap;exact⟨cy,H,λe B=>q e (K e B)⟩⟩
def hd.nil(ek:Nat->Prop)(aN:Nat):hd C h ek 0 .aW aN []:=⟨et.nil ek aN,λa=>absurd rfl a,[], .inl (.inl ⟨rfl,rfl,rfl⟩),Zs⟩
def gu.JJ{aN:Nat}{s:y}{aK:List (List y)}{cy:List Nat}(a:gu C h s aN aK.flatten cy)(eh:0<aN)(V:∀r∈aK,r.length=aN)(bc:aK.length<=300000){ek:Nat->Prop}(aB:∀e∈cy,ek e):∃b,hd C h ek b s aN aK:=by
 have dY:=mf V
 obtain⟨b,c3⟩:=a.wv eh V bc aB
 have ii:∃cy,gu C h s aN aK.flatten cy/\∀e∈cy,ek e:=⟨cy,a,aB⟩
 rcases a with (⟨rfl,K,rfl⟩|⟨cQ,ez,n,c,rfl,K,rfl,aC,bm,b1,df⟩)|⟨cQ,n,c,st,rfl,K,rfl,aC,bm,rfl,bi⟩
 ·rw[K,ZY]at dY
  have:aK=[]:=YE.1 (by rcases Nat.mul_eq_zero.1 dY.symm with a|a<;>omega)
  subst this
  exact⟨0,hd.nil ek aN⟩
 ·refine⟨b,c3,λcE=> ?_,ii⟩
  have di:=c3.g2 0 (ZH.2 cE)
  have aI:n=aK.length:=Z0 eh (by rw[<-K,dY])
  have ay:=ZH.2 cE
  rw[DD _ Zo]at di
  simp only[Zc,y.ptr.injEq]at di
  obtain⟨rfl,_⟩:=di
  exact⟨aC _ (Zt ..),c,_,_,b1,by rw[aI];omega, .inr ⟨ez,rfl,bm,λe B=>⟨aB e (Zn _ B),aC e (Zn _ B)⟩⟩⟩
 ·refine⟨b,c3,λcE=> ?_,ii⟩
  have di:=c3.g2 0 (ZH.2 cE)
  have aI:n=aK.length:=Z0 eh (by rw[<-K,dY])
  have ay:=ZH.2 cE
  rw[A0 _ Zo]at di
  simp only[Zc,y.ptr.injEq]at di
  obtain⟨rfl,_⟩:=di
  exact⟨bi,c,_,_,aC,by rw[aI];omega, .inl rfl⟩
def gu.atR{s:y}{bx:List y}{cy:List Nat}(a:gu C h s 1 bx cy){ek:Nat->Prop}(bc:bx.length<=300000)(aB:∀e∈cy,ek e):∃b,hd C h ek b s 1 (bx.map λv=>[v]):=by
 have co:gu C h s 1 (bx.map λv=>[v]).flatten cy:=by rw[PV];exact a
 exact co.JJ Zd Zs (by simpa using bc) aB
def alj{aN:Nat}:∀(aK:List (List y)),(∀r∈aK,r.length=aN)->∀(i:Nat) r (Y:Nat) v,aK[i]? =some r->Y<aN->(aK.set i (r.set Y v)).flatten=aK.flatten.set (i*aN+Y) v:=by
 intro aK
 induction aK with
 |nil=>intro _ i r Y v a;simp at a
 |cons E aK aj=>
  intro br i r Y v a bD
  have aD:=br E (Zt ..)
  cases i with
  |zero=>
   simp at a;subst a
   rw[Yg,ZL,ZL,Y1,ZP,List.set_append_left _ _ Zo]
  |succ i=>
   rw[Yl,ZL,ZL,aj (λx af=>br x (Zn _ af)) i r Y v (by simpa using a) bD,List.set_append_right _ _ (by rw[aD,ZV];omega)]
   congr 2
   rw[aD,ZV];omega
def qQ.BN{c:M y}{k:List y}(a:qQ c k){W:Nat}(bd:W<k.length)(v:y):qQ (c.set W (some v)) (k.set W v):=λp=>by
 rw[M.j7,Yx]
 by_cases D:W=p
 ·subst D;simp[bd]
 ·rw[Zg D,Zg D];exact a p
def hd.store{ek:Nat->Prop}{b aN:Nat}{a2:y}{aK:List (List y)}(a:hd C h ek b a2 aN aK){i Y:Nat}{r:List y}(aF:aK[i]? =some r)(bD:Y<aN){v:y}(bu:v.cells=[v])(H:l3 v=true):
 ∃R,es C h 1 (.ptr b (i*aN+Y)) v=some R/\hd C R ek b a2 aN (aK.set i (r.set Y v))/\∀e,¬ek e->Z C R e=Z C h e:=by
 have cE:aK≠[]:=λD=>by rw[D]at aF;simp at aF
 obtain⟨jC,axf⟩:=Zb.1 aF
 obtain⟨bi,c,n,st,al,aI,cI⟩:=a.wr cE
 have uQ:=a.rd.wide r (Zh aF)
 have xI:i*aN+Y+1<=n:=by
  have:(i+1)*aN<=aK.length*aN:=Nat.mul_le_mul_right aN jC
  rw[ZV]at this;omega
 have Ie:=a.rd.al cE
 have eO:(aK.set i (r.set Y v)).length=aK.length:=Yo
 have aaU:aK.set i (r.set Y v)≠[]:=λD=>by rw[D]at eO;exact cE (Yb eO.symm)
 have pK:∀(R:M ak) (aS:Nat) (ha:oE),Z C R b=some (.cells (c.set (i*aN+Y) (some v)) aS ha)->et C R ek b a2 aN (aK.set i (r.set Y v)):=λR aS ha bw=>by
  refine⟨λ_=>Ie,by rw[eO];exact a.rd.many,λai bG=> ?_,by rw[eO];exact a.rd.len,λq aG=>a.rd.g2 q (by rw[eO]at aG;exact aG),λq ai m w aG bc=> ?_⟩
  ·rcases YU bG with bG|rfl
   ·exact a.rd.wide ai bG
   ·rw[Yo];exact uQ
  ·rw[bU bw,M.j7]
   rw[Yx]at aG
   by_cases Rc:i=q
   ·subst Rc
    simp only[ZE,jC]at aG
    cases aG
    rw[Yx]at bc
    by_cases Rg:Y=m
    ·subst Rg
     simp only[ZE,uQ,bD]at bc
     rw[Zu rfl];exact bc
    ·rw[Zg Rg]at bc
     rw[Zg Zo]
     have:=a.rd.cell i r m w aF bc
     rw[bU al]at this;exact this
   ·rw[Zg Rc]at aG
    have ts:=a.rd.wide ai (Zh aG)
    have axK:=(Zb.1 bc).1
    have pP:=(Zb.1 aG).1
    rw[Zg (λD=>Rc ?_)]
    ·have:=a.rd.cell q ai m w aG bc
     rw[bU al]at this;exact this
    ·have sn:m<aN:=Zo
     have bB:(q*aN+m)/aN=q:=by rw[zn,Nat.add_mul_div_right _ _ Zo,Nat.div_eq_of_lt sn,ZP]
     have cp:(i*aN+Y)/aN=i:=by rw[zn,Nat.add_mul_div_right _ _ Zo,Nat.div_eq_of_lt bD,ZP]
     rw[<-bB, <-cp,D]
 have oV:=alj aK a.rd.wide i r Y v aF bD
 have dY:=mf a.rd.wide
 have LZ:i*aN+Y<aK.flatten.length:=by
  rw[dY]
  have:(i+1)*aN<=aK.length*aN:=Nat.mul_le_mul_right aN jC
  rw[ZV]at this;omega
 have di:=a.rd.g2 0 Zo
 have ii:∀R ha,(st= .own->ha= .own)->(∀W,st= .grow W->ha= .grow [])->Z C R b=some (.cells (c.set (i*aN+Y) (some v)) n ha)->∃cy,gu C R a2 aN (aK.set i (r.set Y v)).flatten cy/\∀e∈cy,ek e:=by
  intro R ha kQ o1 bw
  have AJ:0<aK.length:=Zo
  obtain⟨cy,jF,hY⟩:=a.ap
  rcases jF with (⟨_,cp,_⟩|⟨cQ,ayE,m,gC,bB,cD,rfl,fl,fG,kz,kA⟩)|⟨cQ,m,gC,ad8,bB,cD,rfl,fl,fG,fj,fb⟩
  ·rw[cp]at LZ;simp at LZ
  ·subst bB
   have bc:m=aK.length:=Z0 (by omega:0<aN) (by rw[<-cD,dY])
   rw[DD _ Zo]at di
   simp only[Zc,y.ptr.injEq]at di
   obtain⟨rfl,_⟩:=di
   rw[kz]at al;cases al
   refine⟨[cQ], .inl (.inr ⟨cQ,[],m,_,rfl,by rw[oV,Yo];exact cD,rfl,by simpa using bi,Zs,by rw[o1 _ rfl]at bw;exact bw,by rw[oV];exact kA.BN LZ v⟩),by simpa using Ie⟩
  ·subst bB fj
   have bc:m=aK.length:=Z0 (by omega:0<aN) (by rw[<-cD,dY])
   rw[A0 _ Zo]at di
   simp only[Zc,y.ptr.injEq]at di
   obtain⟨rfl,_⟩:=di
   rw[fl]at al;cases al
   refine⟨[cQ], .inr ⟨cQ,m,_,_,rfl,by rw[oV,Yo];exact cD,rfl,bw,by rw[oV];exact fG.BN LZ v,kQ rfl,bi⟩,by simpa using Ie⟩
 have FQ:∀R,rZ C h b (i*aN+Y) [v]=some R->es C h 1 (.ptr b (i*aN+Y)) v=some R:=λR a=>by
  simp only[es,bu];exact a
 have oY:iI [v]=true:=by simp[iI,H]
 rcases cI with rfl|⟨ez,rfl,aw2,pQ⟩
 ·refine⟨bl C h b (some (.cells (c.set (i*aN+Y) (some v)) n .own)),FQ _ ?_,⟨pK _ _ _ (bn bi),λ_=>⟨bi,_,_,_,bn bi,by rw[eO];exact aI, .inl rfl⟩,ii _ _ (λ_=>rfl) (λ_ D=>by cases D) (bn bi)⟩,λe B=>aL bi (λD=>B (D▸Ie))⟩
  have bB:Nat.ble (i*aN+Y+1) n=true:=jP xI
  have cp:j5 C b=true:=by simp[j5,jP bi]
  simp[rZ,al,bB,cp,oY,eQ,qL,g5]
 ·have rb:∀e,Z C (bl C (mM C ez h) b (some (.cells (c.set (i*aN+Y) (some v)) n (.grow [])))) e=if e=b then some (.cells (c.set (i*aN+Y) (some v)) n (.grow []))else Z C (mM C ez h) e:=λe=>fF _ bi e
  refine⟨bl C (mM C ez h) b (some (.cells (c.set (i*aN+Y) (some v)) n (.grow []))),FQ _ ?_,⟨pK _ _ _ (by rw[rb,Zu rfl]),λ_=>⟨bi,_,_,_,by rw[rb,Zu rfl],by rw[eO];exact aI, .inr ⟨[],rfl,Zs,Zs⟩⟩,ii _ _ (λD=>by cases D) (λ_ _=>rfl) (by rw[rb,Zu rfl])⟩,λe B=> ?_⟩
  ·have bB:Nat.ble (i*aN+Y+1) n=true:=jP xI
   have cp:j5 C b=true:=by simp[j5,jP bi]
   simp[rZ,al,bB,cp,oY,eQ,qL,g5]
  ·rw[rb,Zg (show ¬e=b from λD=>B (D▸Ie)),aqR _ _ _ (λx af=>(pQ x af).2) (λaf=>B (pQ e af).1)]
end
end
noncomputable section
structure i2(G:Prop):Prop where
 W:G
def P9{bX A:Prop}(f:bX)(a:bX->A:=by intro f;(simp(disch:=omega) only[BO,u6,BP,yV,w2,yW,BG,BF,Bj,wj,vA,x5,A8,tD,tE,x6,Bc,Bd,Be,Bf,Bg,A9,Ba,Bb,BZ,B3,B4,B5,B6,B7,B8,B9,Ca,B0,B1,B2,wK,BY,lE,y.cells,Ce,Cd,Cb,Bq,AW,AU,AV,AT,AS,AX,BR,BS,vG,Aj,w4,y6,y7,rk,tF,x7,uY,fe,td,tc,nk,zC,Yi,zD,Yg,Yl,Y9,Z6,Z1,Zz,ZY,Yh,Z9,Yd,YT,ZM,ZP,Z5,ZE,ZD,reduceIte,Nat.reduceEqDiff,Nat.reduceAdd,Nat.reduceMul,Nat.reduceLT,Nat.reduceBEq,Yz,Yq,Yt,Ys,eW,kp,Y5,YA,YD,Nat.reduceLeDiff,Nat.reduceSub,hv,f])):A:=a f
def alY{bX A:Prop}(f:bX)(a:bX->A:=by intro f;(simp(disch:=omega) only[BO,u6,BP,yV,w2,yW,BG,BF,Bj,wj,vA,x5,A8,tD,tE,x6,Bc,Bd,Be,Bf,Bg,A9,Ba,Bb,BZ,B3,B4,B5,B6,B7,B8,B9,Ca,B0,B1,B2,wK,BY,lE,y.cells,Ce,Cd,Cb,Bq,AW,AU,AV,AT,AS,AX,BR,BS,vG,Aj,w4,y6,y7,rk,tF,x7,uY,fe,td,tc,nk,zC,Yi,zD,Yg,Yl,Y9,Z6,Z1,Zz,ZY,Yh,Z9,Yd,YT,ZM,ZP,Z5,ZE,ZD,reduceIte,Nat.reduceEqDiff,Nat.reduceAdd,Nat.reduceMul,Nat.reduceLT,Nat.reduceBEq,Yz,Yq,Yt,Ys,eW,kp,Y5,YA,YD,Nat.reduceLeDiff,Nat.reduceSub,hv,f]);rfl):A:=a f
def alZ{bX A bj:Prop}(f:bX)(t:bj)(a:bX->bj->A:=by intro f t;(simp(disch:=omega) only[BO,u6,BP,yV,w2,yW,BG,BF,Bj,wj,vA,x5,A8,tD,tE,x6,Bc,Bd,Be,Bf,Bg,A9,Ba,Bb,BZ,B3,B4,B5,B6,B7,B8,B9,Ca,B0,B1,B2,wK,BY,lE,y.cells,Ce,Cd,Cb,Bq,AW,AU,AV,AT,AS,AX,BR,BS,vG,Aj,w4,y6,y7,rk,tF,x7,uY,fe,td,tc,nk,zC,Yi,zD,Yg,Yl,Y9,Z6,Z1,Zz,ZY,Yh,Z9,Yd,YT,ZM,ZP,Z5,ZE,ZD,reduceIte,Nat.reduceEqDiff,Nat.reduceAdd,Nat.reduceMul,Nat.reduceLT,Nat.reduceBEq,Yz,Yq,Yt,Ys,eW,kp,Y5,YA,YD,Nat.reduceLeDiff,Nat.reduceSub,hv,f]);exact t):A:=a f t
def alR{bX A bj:Prop}(f:bX)(q:i2 bj)(a:bX->i2 bj->A:=by intro f q;(simp(disch:=omega) only[BO,u6,BP,yV,w2,yW,BG,BF,Bj,wj,vA,x5,A8,tD,tE,x6,Bc,Bd,Be,Bf,Bg,A9,Ba,Bb,BZ,B3,B4,B5,B6,B7,B8,B9,Ca,B0,B1,B2,wK,BY,lE,y.cells,Ce,Cd,Cb,Bq,AW,AU,AV,AT,AS,AX,BR,BS,vG,Aj,w4,y6,y7,rk,tF,x7,uY,fe,td,tc,nk,zC,Yi,zD,Yg,Yl,Y9,Z6,Z1,Zz,ZY,Yh,Z9,Yd,YT,ZM,ZP,Z5,ZE,ZD,reduceIte,Nat.reduceEqDiff,Nat.reduceAdd,Nat.reduceMul,Nat.reduceLT,Nat.reduceBEq,Yz,Yq,Yt,Ys,eW,kp,Y5,YA,YD,Nat.reduceLeDiff,Nat.reduceSub,hv,f]);exact q.W):A:=a f q
def ce{bX A bj:Prop}(f:bX)(q:i2 bj)(a:bX->i2 bj->A:=by intro f q;(repeat(with_reducible first|refine gT ?_ |refine ru ?_ |refine rt ?_ |refine r0 ?_ |refine KI ?_ |refine vu ?_ |refine M2 ?_ |refine M1 ?_ |refine MH ?_ |refine MJ ?_ |refine MG ?_ |refine MI ?_ |refine MR ?_ |refine KQ ?_ |refine M0 ?_ |refine MZ ?_ |refine Au ?_ |refine At ?_ |refine As ?_ |refine Ar ?_ |refine LC ?_ |refine s6 ?_ |refine s5 ?_ |refine MB ?_ |refine NB ?_ |refine NC ?_ |(refine gi (jJ (by(first|assumption|(simp(disch:=omega) only[bn,aL,f]<;>rfl)|(simp(disch:=omega) only[bn,aL,f]))) Zo rfl Zd Zd rfl) ?_)|((conv=>whnf;arg 1;simp(disch:=omega) only[BO,u6,BP,yV,w2,yW,BG,BF,Bj,wj,vA,x5,A8,tD,tE,x6,Bc,Bd,Be,Bf,Bg,A9,Ba,Bb,BZ,B3,B4,B5,B6,B7,B8,B9,Ca,B0,B1,B2,wK,BY,lE,y.cells,Ce,Cd,Cb,Bq,AW,AU,AV,AT,AS,AX,BR,BS,vG,Aj,w4,y6,y7,rk,tF,x7,uY,fe,td,tc,nk,zC,Yi,zD,Yg,Yl,Y9,Z6,Z1,Zz,ZY,Yh,Z9,Yd,YT,ZM,ZP,Z5,ZE,ZD,reduceIte,Nat.reduceEqDiff,Nat.reduceAdd,Nat.reduceMul,Nat.reduceLT,Nat.reduceBEq,Yz,Yq,Yt,Ys,eW,kp,Y5,YA,YD,Nat.reduceLeDiff,Nat.reduceSub,hv,f]);(first|refine ru ?_ |refine rt ?_ |refine s6 ?_ |refine s5 ?_ |refine Au ?_ |refine At ?_ |refine As ?_ |refine Ar ?_))|dsimp only));exact q.W):A:=a f q
def r6{bX A bj:Prop}(f:bX)(q:i2 bj)(a:bX->i2 bj->A:=by intro f q;(repeat(with_reducible first|refine ru ?_ |refine rt ?_ |refine r0 ?_ |refine KI ?_ |refine vu ?_ |refine M2 ?_ |refine M1 ?_ |refine MH ?_ |refine MJ ?_ |refine MG ?_ |refine MI ?_ |refine MR ?_ |refine KQ ?_ |refine M0 ?_ |refine MZ ?_ |refine Au ?_ |refine At ?_ |refine As ?_ |refine Ar ?_ |refine LC ?_ |refine s6 ?_ |refine s5 ?_ |refine MB ?_ |refine NB ?_ |refine NC ?_ |(refine gi (jJ (by(first|assumption|(simp(disch:=omega) only[bn,aL,f]<;>rfl)|(simp(disch:=omega) only[bn,aL,f]))) Zo rfl Zd Zd rfl) ?_)|((conv=>whnf;arg 1;simp(disch:=omega) only[BO,u6,BP,yV,w2,yW,BG,BF,Bj,wj,vA,x5,A8,tD,tE,x6,Bc,Bd,Be,Bf,Bg,A9,Ba,Bb,BZ,B3,B4,B5,B6,B7,B8,B9,Ca,B0,B1,B2,wK,BY,lE,y.cells,Ce,Cd,Cb,Bq,AW,AU,AV,AT,AS,AX,BR,BS,vG,Aj,w4,y6,y7,rk,tF,x7,uY,fe,td,tc,nk,zC,Yi,zD,Yg,Yl,Y9,Z6,Z1,Zz,ZY,Yh,Z9,Yd,YT,ZM,ZP,Z5,ZE,ZD,reduceIte,Nat.reduceEqDiff,Nat.reduceAdd,Nat.reduceMul,Nat.reduceLT,Nat.reduceBEq,Yz,Yq,Yt,Ys,eW,kp,Y5,YA,YD,Nat.reduceLeDiff,Nat.reduceSub,hv,f]);(first|refine ru ?_ |refine rt ?_ |refine s6 ?_ |refine s5 ?_ |refine Au ?_ |refine At ?_ |refine As ?_ |refine Ar ?_))|dsimp only));exact q.W):A:=a f q
def tf{bX A bj:Prop}(f:bX)(q:i2 bj)(a:bX->i2 bj->A:=by intro f q;(with_reducible first|refine gT ?_ |refine ru ?_ |refine rt ?_ |refine r0 ?_ |refine KI ?_ |refine vu ?_ |refine M2 ?_ |refine M1 ?_ |refine MH ?_ |refine MJ ?_ |refine MG ?_ |refine MI ?_ |refine MR ?_ |refine KQ ?_ |refine M0 ?_ |refine MZ ?_ |refine Au ?_ |refine At ?_ |refine As ?_ |refine Ar ?_ |refine LC ?_ |refine s6 ?_ |refine s5 ?_ |refine MB ?_ |refine NB ?_ |refine NC ?_ |(refine gi (jJ (by(first|assumption|(simp(disch:=omega) only[bn,aL,f]<;>rfl)|(simp(disch:=omega) only[bn,aL,f]))) Zo rfl Zd Zd rfl) ?_)|((conv=>whnf;arg 1;simp(disch:=omega) only[BO,u6,BP,yV,w2,yW,BG,BF,Bj,wj,vA,x5,A8,tD,tE,x6,Bc,Bd,Be,Bf,Bg,A9,Ba,Bb,BZ,B3,B4,B5,B6,B7,B8,B9,Ca,B0,B1,B2,wK,BY,lE,y.cells,Ce,Cd,Cb,Bq,AW,AU,AV,AT,AS,AX,BR,BS,vG,Aj,w4,y6,y7,rk,tF,x7,uY,fe,td,tc,nk,zC,Yi,zD,Yg,Yl,Y9,Z6,Z1,Zz,ZY,Yh,Z9,Yd,YT,ZM,ZP,Z5,ZE,ZD,reduceIte,Nat.reduceEqDiff,Nat.reduceAdd,Nat.reduceMul,Nat.reduceLT,Nat.reduceBEq,Yz,Yq,Yt,Ys,eW,kp,Y5,YA,YD,Nat.reduceLeDiff,Nat.reduceSub,hv,f]);(first|refine ru ?_ |refine rt ?_ |refine s6 ?_ |refine s5 ?_ |refine Au ?_ |refine At ?_ |refine As ?_ |refine Ar ?_))|dsimp only);exact q.W):A:=a f q
def bF{A:Prop}(a:A:=by exact P9 trivial):A:=a
def ho{A:Prop}(a:A:=by exact alY trivial):A:=a
def bz{A bj:Prop}(t:bj)(a:bj->A:=by intro t;exact alZ trivial t):A:=a t
def Al{A bj:Prop}(q:i2 bj)(a:i2 bj->A:=by intro q;refine alR trivial ⟨?_⟩;exact q.W):A:=a q
def c7{A bj:Prop}(q:i2 bj)(a:i2 bj->A:=by intro q;refine ce trivial ⟨?_⟩;exact q.W):A:=a q
def vI{A bj:Prop}(q:i2 bj)(a:i2 bj->A:=by intro q;refine r6 trivial ⟨?_⟩;exact q.W):A:=a q
def hU{A bj:Prop}(q:i2 bj)(a:i2 bj->A:=by intro q;refine tf trivial ⟨?_⟩;exact q.W):A:=a q
def dM{A:Prop}(a:A:=by exact⟨Zo,λb al=>zK⟩):A:=a
def dq{A bj lJ k7:Prop}(bA:lJ)(ef:k7)(q:i2 bj)(a:lJ->k7->i2 bj->A:=by intro bA ef q;refine ce (Za @bA @ef) ⟨?_⟩;exact q.W):A:=a @bA @ef q
def eP{A bj lJ k7 oB:Prop}(bA:lJ)(ef:k7)(eX:oB)(q:i2 bj)(a:lJ->k7->oB->i2 bj->A:=by intro bA ef eX q;refine ce (Za @bA (Za @ef @eX)) ⟨?_⟩;exact q.W):A:=a @bA @ef @eX q
def g6{A bj lJ k7 oB ub:Prop}(bA:lJ)(ef:k7)(eX:oB)(jS:ub)(q:i2 bj)(a:lJ->k7->oB->ub->i2 bj->A:=by intro bA ef eX jS q;refine ce (Za @bA (Za @ef (Za @eX @jS))) ⟨?_⟩;exact q.W):A:=a @bA @ef @eX @jS q
def g0{A bj lJ k7 oB ub yG:Prop}(bA:lJ)(ef:k7)(eX:oB)(jS:ub)(f4:yG)(q:i2 bj)(a:lJ->k7->oB->ub->yG->i2 bj->A:=by intro bA ef eX jS f4 q;refine ce (Za @bA (Za @ef (Za @eX (Za @jS @f4)))) ⟨?_⟩;exact q.W):A:=a @bA @ef @eX @jS @f4 q
def kr{A bj lJ k7 oB ub yG GY:Prop}(bA:lJ)(ef:k7)(eX:oB)(jS:ub)(f4:yG)(m5:GY)(q:i2 bj)(a:lJ->k7->oB->ub->yG->GY->i2 bj->A:=by intro bA ef eX jS f4 m5 q;refine ce (Za @bA (Za @ef (Za @eX (Za @jS (Za @f4 @m5))))) ⟨?_⟩;exact q.W):A:=a @bA @ef @eX @jS @f4 @m5 q
def fA{A bj lJ k7 oB ub yG GY T2:Prop}(bA:lJ)(ef:k7)(eX:oB)(jS:ub)(f4:yG)(m5:GY)(PP:T2)(q:i2 bj)(a:lJ->k7->oB->ub->yG->GY->T2->i2 bj->A:=by intro bA ef eX jS f4 m5 PP q;refine ce (Za @bA (Za @ef (Za @eX (Za @jS (Za @f4 (Za @m5 @PP)))))) ⟨?_⟩;exact q.W):A:=a @bA @ef @eX @jS @f4 @m5 @PP q
def Lr{A bj lJ k7:Prop}(bA:lJ)(ef:k7)(q:i2 bj)(a:lJ->k7->i2 bj->A:=by intro bA ef q;refine r6 (Za @bA @ef) ⟨?_⟩;exact q.W):A:=a @bA @ef q
def gG{A bj lJ k7 oB:Prop}(bA:lJ)(ef:k7)(eX:oB)(q:i2 bj)(a:lJ->k7->oB->i2 bj->A:=by intro bA ef eX q;refine r6 (Za @bA (Za @ef @eX)) ⟨?_⟩;exact q.W):A:=a @bA @ef @eX q
def a1.Zm{C:aT}{f:Nat}{w3:List y}{h:M ak}{j:Nat}{ah qM ax:bQ}(a:a1 C f w3 h j ah (λ_ _ _=>False))(q:∀ab R aS,ah ab R aS->qM ab R aS):a1 C f w3 h j qM ax:=a.mono q (λ_ _ _ a=>a.elim)
end
noncomputable section
open Go.RowKit (Below)
def Np(j6:List Nat)(W:Nat->List y->Option y)(k:List (Nat×List y×y))(f:Nat)(args:List y):Option y:=bH (sx f j6) (qG W k f args) (W f args)
section
variable{P:Program}{w:World}
def Env.aq9{nm:List (String×Nat)}(gy:yJ P nm){laid:List (String×DataW Unit)}{j6:List Nat}{W:Nat->List y->Option y}{k:List (Nat×List y×y)}(a:laidMet P laid w){dB:cU}{dR:Nat->Prop}
 (cz:Env ⟨P,nj (gU P nm laid P.globals.size).2 .nil,(gU P nm laid P.globals.size).1,W,P.globals.size⟩ w dB dR)(a8:J0 k=true)
 (hA:∀x∈k,∃m,ym ⟨P,nj (gU P nm laid P.globals.size).2 .nil,(gU P nm laid P.globals.size).1,W,P.globals.size⟩ m x.1 x.2.1=some x.2.2):
 ∃J aa,Env ⟨P,nj (gU P nm laid P.globals.size).2 .nil,(gU P nm laid P.globals.size).1,Np j6 W k,P.globals.size⟩ w J aa:=by
 obtain⟨J,aa,am,aC⟩:=Sp (g4:=Np j6 W k) gy a
 have nC:=ac9 cz a8 hA
 refine⟨J,aa,cz.kg,⟨λf args v bd=> ?_,λf args v bd J ox mC=> ?_⟩,am,aC,cz.mem⟩
 ·have bd:bH (sx f j6) (qG W k f args) (W f args)=some v:=bd
  rw[eQ]at bd
  split at bd
  ·exact nC.val f args v bd
  ·exact cz.g4.val f args v bd
 ·have bd:bH (sx f j6) (qG W k f args) (W f args)=some v:=bd
  rw[eQ]at bd
  split at bd
  ·exact nC.ok f args v bd J ox mC
  ·exact cz.g4.ok f args v bd J ox mC
end
end
end Go.bs

