/- Part of the proof of the last text; no conditions -/
import Derived.Test.YtpeabpmnlmaabaaGreatDoorYf
import Derived.KernelRfl
import Derived.Test.YtpeabpmnlmaabaaGreatDoorProg
set_option maxHeartbeats 8000000
set_option linter.all false
namespace Go.bd
noncomputable section
open Go.aT
section
variable{C:aK}{h S' aI:Q af}{j an aO:Nat}
def pD{s7:List D}{ah:bJ}(a:ah (.ptr j 0) (bj C h j (zw s7 s7.length)) (j+1)):ap (hD s7 j) λr=>gO C h j r.1 r.2 ah:=⟨⟨a⟩⟩
def Ss{b:Nat}{s7:List D}{ah:D->Q af->Prop}(a:ah (.ptr b 0) (bj C h b (zw s7 s7.length))):ap (hD s7 b) λr=>mE C h b r.1 r.2 ah:=⟨⟨a⟩⟩
def uN(cs:List D):Ew cs []=some cs:=rfl
def uM(cs:List D)(off size:Nat)(v:D)(dq:List (Nat×Nat×D)):Ew cs ((off,size,v)::dq)=if v.cells.length=size/\off+size<=cs.length then Ew (n3 cs off v.cells) dq else none:=by
 have E:∀H b:Nat,(Nat.beq H b=true)=(H=b):=λH b=>propext ⟨Zn,λa=>by subst a;exact ze H⟩
 simp only[Ew,fN,Zp,E,Nat.ble_eq]
def r1(c:Q D)(W:Nat)(v:D):dS c W [v]=c.set W (some v):=by simp[dS]
def bc{b n:Nat}{c:Q D}{st:oU}(a:U C h b=some (.cells c n st))(W:Nat):aP C h (.ptr b W)=c.get W:=by rw[cv,a]
def T2{w:Bool}{H b:Prop}(a:b):iB w bd.undef H b:=⟨a⟩
def ub(b W n c:Nat):gz (.slice b W n c)=some (.Z (n:Int)):=by simp[gz,qO]
def wM(b W n c:Nat):gz (.fj b W n c)=some (.Z (n:Int)):=by simp[gz,qO]
def yn:gz .aV=some (.Z 0):=rfl
def AX(s:List Nat):nq (.str s)=some (.Z (s.length:Int)):=by simp[nq,qO]
def qS:∀H b:List Nat,mX H b=decide (H=b):=by
 intro H
 induction H with
 |nil=>intro b;cases b<;>simp[mX]
 |cons x H ai=>
  intro b
  cases b with
  |nil=>simp[mX]
  |cons e b=>
   simp only[mX,ai]
   by_cases a:x=e<;>simp[a]
def Gt(t:Nat)(oh:Bool)(H b:List Nat):c5 C h .eql t oh (.str H) (.str b)=some (.bool (decide (H=b))):=by
 simp[c5,BN,xA,qS]
def Gu(t:Nat)(oh:Bool)(H b:List Nat):c5 C h .neq t oh (.str H) (.str b)=some (.bool (decide (H≠b))):=by
 simp[c5,BN,xA,qS]
def Ey(off bt:Nat)(cs:List D):ss false off bt (.agg cs)=cs[off]? :=by simp[ss,fN]
def Ex(off bt:Nat)(cs:List D):ss true off bt (.agg cs)=some (.agg ((cs.drop off).take bt)):=by simp[ss,fN]
def y5(t:Nat)(bm v:D):Hk t bm true (.iface t v)=some (.tuple [v, .zT]):=by simp[Hk,fN]
def Ei(z:IntKind)(x:Int):og .u64 (.int z x)=some (.int .u64 (x%18446744073709551616)):=by simp[og,lM,qj]
def adb{z:IntKind}{x:Int}(M: -9223372036854775808<=x)(R:x<9223372036854775808):og .i64 (.int z x)=some (.Z x):=by simp[og,lM,wrap64 M R]
def Ej(s:List Nat):aqW (.str s)=some (.str s):=rfl
structure cg(C:aK)(X:List Nat)(h:Q af)(j:Nat)(S':Q af)(an:Nat):Prop where
 le:j<=an
 aa:∀b,b<j->b∉X->U C S' b=U C h b
def cg.refl(X:List Nat)(h:Q af)(j:Nat):cg C X h j h j:=⟨Zj _,λ_ _ _=>rfl⟩
def cg.trans{X:List Nat}{aI aM a1:Q af}{aO aZ bi:Nat}(a:cg C X aI aO aM aZ)(z:cg C X aM aZ a1 bi):cg C X aI aO a1 bi:=
 ⟨ZB a.le z.le,λb ag ae=>(z.aa b (ZN ag a.le) ae).trans (a.aa b ag ae)⟩
def cg.of{X:List Nat}(a:ba C h j S' an):cg C X h j S' an:=⟨a.le,λb ag _=>a.aa b ag⟩
def cg.eV{X:List Nat}(a:cg C X h j S' an)(b W:Nat)(ag:b<j)(ae:b∉X):aP C S' (.ptr b W)=aP C h (.ptr b W):=by rw[cv,cv,a.aa b ag ae]
def cg.down{X eO:List Nat}{a2:Nat}(a:cg C X h j S' an)(aE:a2<=j)(ae:∀b∈X,b∈eO\/a2<=b):cg C eO h a2 S' an:=
 ⟨ZB aE a.le,λb ag B=>a.aa b Zo (λE=>by rcases ae b E with a|a;exact B a;omega)⟩
structure dL(C:aK)(h:Q af)(P:Nat->Prop)(b:Nat)(aS:D)(bt:Nat)(bK:List (List D)):Prop where
 ag:bK≠[]->P b
 many:bK.length<=300000
 wide:∀r∈bK,r.length=bt
 len:gz aS=some (.Z (bK.length:Int))
 fx:∀(i:Nat),i<bK.length->gy bt aS (.Z (i:Int))=some (.ptr b (i*bt))
 cell:∀(i:Nat) r (S:Nat) v,bK[i]? =some r->r[S]? =some v->aP C h (.ptr b (i*bt+S))=some v
def dL.aa{P:Nat->Prop}{b bt:Nat}{aS:D}{bK:List (List D)}(a:dL C h P b aS bt bK)(z:∀e,P e->U C S' e=U C h e):dL C S' P b aS bt bK:=
 ⟨a.ag,a.many,a.wide,a.len,a.fx,λi r S v aG bE=>by
  have aJ:=z b (a.ag (λE=>by rw[E]at aG;cases aG))
  rw[cv,aJ, <-cv];exact a.cell i r S v aG bE⟩
def dL.lift{P bu:Nat->Prop}{b bt:Nat}{aS:D}{bK:List (List D)}(a:dL C h P b aS bt bK)(z:∀e,P e->bu e):dL C h bu b aS bt bK:=
 ⟨λE=>z _ (a.ag E),a.many,a.wide,a.len,a.fx,a.cell⟩
def aej{c:Q D}:∀(r:List D) (W:Nat),(∀S v,r[S]? =some v->c.get (W+S)=some v)->c.li W r.length=some r:=by
 intro r
 induction r with
 |nil=>intro W _;rfl
 |cons H r ai=>
  intro W a
  have aX:=a 0 H rfl
  rw[ZR]at aX
  have M:=ai (W+1) (λS v bE=>by have:=a (S+1) v (by simpa using bE);rw[Nat.add_right_comm];simpa[ZK,Nat.add_comm,Nat.add_left_comm]using this)
  simp[Q.li,aX,M]
def dL.row{P:Nat->Prop}{b bt:Nat}{aS:D}{bK:List (List D)}(a:dL C h P b aS bt bK)(aD:0<bt){i:Nat}{r:List D}(aG:bK[i]? =some r):cG C h bt (.ptr b (i*bt))=some (.agg r):=by
 have aC:=a.wide r (Zl aG)
 have aX:∃v,r[0]? =some v:=by
  cases r with
  |nil=>simp at aC;omega
  |cons H l=>exact⟨H,rfl⟩
 obtain⟨v,bB⟩:=aX
 have ax:=a.cell i r 0 v aG bB
 rw[cv]at ax
 rw[wJ]
 split at ax
 ·rename_i c _ _ ag
  have:=aej (c:=c) r (i*bt) (λS v bE=>by
   have:=a.cell i r S v aG bE
   rw[cv,ag]at this
   exact this)
  rw[aC]at this
  rw[this];rfl
 ·cases ax
def Tz{bt:Nat}:∀(bK:List (List D)),(∀r∈bK,r.length=bt)->∀(i:Nat) r (S:Nat) v,bK[i]? =some r->r[S]? =some v->bK.flatten[i*bt+S]? =some v:=by
 intro bK
 induction bK with
 |nil=>intro _ i r S v aG;simp at aG
 |cons H l ai=>
  intro Y i r S v aG bE
  have az:=Y H (Zv ..)
  have wp:S<r.length:=(Zc.1 bE).1
  cases i with
  |zero=>
   simp at aG;subst aG
   rw[Yl,zn,ZV,Z6 Zo];exact bE
  |succ i=>
   simp at aG
   rw[Yl,ZW (by rw[az,Z0];omega),az]
   have:(i+1)*bt+S-bt=i*bt+S:=by rw[Z0];omega
   rw[this]
   exact ai (λr mR=>Y r (Zw _ mR)) i r S v aG bE
def jB.qZ{bt:Nat}{s:D}{bK:List (List D)}{cq:List Nat}(a:jB C h s bt bK.flatten cq)(eT:0<bt)(Y:∀r∈bK,r.length=bt)(bp:bK.length<=300000){P:Nat->Prop}(aC:∀e∈cq,P e):∃b,dL C h P b s bt bK:=by
 have gS:=tz Y
 have U:∀(bK:List (List D)),(∀r∈bK,r.length=bt)->∀(i:Nat) r (S:Nat) v,bK[i]? =some r->r[S]? =some v->bK.flatten[i*bt+S]? =some v:=by
  intro bK
  induction bK with
  |nil=>intro _ i r S v aG;simp at aG
  |cons H l ai=>
   intro Y i r S v aG bE
   have az:=Y H (Zv ..)
   have wp:S<r.length:=(Zc.1 bE).1
   cases i with
   |zero=>
    simp at aG;subst aG
    rw[Yl,zn,ZV,Z6 Zo];exact bE
   |succ i=>
    simp at aG
    rw[Yl,ZW (by rw[az,Z0];omega),az]
    have:(i+1)*bt+S-bt=i*bt+S:=by rw[Z0];omega
    rw[this]
    exact ai (λr mR=>Y r (Zw _ mR)) i r S v aG bE
 rcases a with ⟨M,R,ak⟩|⟨b,fp,n,c,M,R,ak,aA,bv,b9,dl⟩
 ·have Vo:bK.length=0:=by
   rw[R,Z5]at gS
   rcases Nat.mul_eq_zero.1 gS.symm with a|a
   ·exact a
   ·omega
  have Vo:bK=[]:=List.length_eq_zero_iff.1 Vo
  subst Vo M
  exact⟨0,λE=>absurd rfl E,Zs,Y,rfl,λi aG=>by simp at aG,λi r S v aG=>by simp at aG⟩
 ·have aE:n=bK.length:=Nat.eq_of_mul_eq_mul_right eT (by rw[<-R,gS])
  subst aE M
  refine⟨b,λ_=>aC b (by rw[ak];exact Zv ..),bp,Y,wM ..,λi aG=>by rw[IN _ aG,ZV],λi r S v aG bE=> ?_⟩
  rw[cv,b9]
  exact(dl _).trans (U bK Y i r S v aG bE)
def Jm{b bt z cap:Nat}{bK:List (List D)}{st:oU}(ag:U C h b=some (.cells (Q.ofList bK.flatten 0 .nil) (z*bt) st))(aJ:bK.length=z)(Y:∀r∈bK,r.length=bt)(bp:z<=300000){P:Nat->Prop}(bq:P b):dL C h P b (.slice b 0 z cap) bt bK:=by
 subst aJ
 have U:∀(bK:List (List D)),(∀r∈bK,r.length=bt)->∀(i:Nat) r (S:Nat) v,bK[i]? =some r->r[S]? =some v->bK.flatten[i*bt+S]? =some v:=by
  intro bK
  induction bK with
  |nil=>intro _ i r S v aG;simp at aG
  |cons H l ai=>
   intro Y i r S v aG bE
   have az:=Y H (Zv ..)
   have wp:S<r.length:=(Zc.1 bE).1
   cases i with
   |zero=>
    simp at aG;subst aG
    rw[Yl,zn,ZV,Z6 Zo];exact bE
   |succ i=>
    simp at aG
    rw[Yl,ZW (by rw[az,Z0];omega),az]
    have:(i+1)*bt+S-bt=i*bt+S:=by rw[Z0];omega
    rw[this]
    exact ai (λr mR=>Y r (Zw _ mR)) i r S v aG bE
 refine⟨λ_=>bq,bp,Y,ub ..,λi aG=>by rw[IM _ aG,ZV],λi r S v aG bE=> ?_⟩
 rw[cv,ag]
 exact(mZ _ _).trans (U bK Y i r S v aG bE)
def eD(t:eu):List D:=[.bool t.b, .bool t.s, .Z t.w]
def qs(C:aK)(h:Q af)(b:Nat):Prop:=∃c n,U C h b=some (.cells c n .own)/\8<n
def qs.aa{b:Nat}(a:qs C h b)(z:U C S' b=U C h b):qs C S' b:=by unfold qs;rw[z];exact a
mutual
def cE(C:aK)(h:Q af):(Nat->Prop)->bD->D->Prop
 |P, .mk kind at_ name no ty n args,v=>∃b,v= .ptr b 0/\P b/\qs C h b/\aP C h (.ptr b 0)=some (.Z kind)/\aP C h (.ptr b 1)=some (.Z at_)/\aP C h (.ptr b 2)=some (.str name)/\aP C h (.ptr b 3)=some (.bool no)
   /\aP C h (.ptr b 4)=some (.bool ty.b)/\aP C h (.ptr b 5)=some (.bool ty.s)/\aP C h (.ptr b 6)=some (.Z ty.w)/\aP C h (.ptr b 7)=some (.int .u64 n)
   /\∃aS cO br,aP C h (.ptr b 8)=some aS/\dL C h P cO aS 1 (br.map λv=>[v])/\(br≠[]->cO≠b)/\dD C h (λe=>P e/\e≠b/\e≠cO) args br
def dD(C:aK)(h:Q af):(Nat->Prop)->List bD->List D->Prop
 |_,[],br=>br=[]
 |P,E::cb,br=>∃v nz bu,br=v::nz/\(∀e,bu e->P e)/\cE C h bu E v/\dD C h (λe=>P e/\¬bu e) cb nz
end
mutual
def cE.aa{P:Nat->Prop}(z:∀e,P e->U C S' e=U C h e):∀(E:bD) (v:D),cE C h P E v->cE C S' P E v
 | .mk kind at_ name no ty n args,v,a=>by
   unfold cE at a ⊢
   obtain⟨b,M,bq,bf,R,ak,aA,bv,b9,dl,eI,hT,aS,cO,br,kX,qB,wd,v6⟩:=a
   have aC:∀W,aP C S' (.ptr b W)=aP C h (.ptr b W):=λW=>by rw[cv,cv,z b bq]
   exact⟨b,M,bq,bf.aa (z b bq),by rw[aC];exact R,by rw[aC];exact ak,by rw[aC];exact aA,by rw[aC];exact bv,by rw[aC];exact b9,by rw[aC];exact dl,by rw[aC];exact eI,by rw[aC];exact hT,aS,cO,br,by rw[aC];exact kX,qB.aa z,wd,dD.aa (λe B=>z e B.1) args br v6⟩
def dD.aa{P:Nat->Prop}(z:∀e,P e->U C S' e=U C h e):∀(cb:List bD) (br:List D),dD C h P cb br->dD C S' P cb br
 |[],br,a=>by unfold dD at a ⊢;exact a
 |E::cb,br,a=>by
  unfold dD at a ⊢
  obtain⟨v,nz,bu,M,b0,R,ak⟩:=a
  exact⟨v,nz,bu,M,b0,cE.aa (λe B=>z e (b0 e B)) E v R,dD.aa (λe B=>z e B.1) cb nz ak⟩
end
mutual
def cE.lift{P bu:Nat->Prop}(z:∀e,P e->bu e):∀(E:bD) (v:D),cE C h P E v->cE C h bu E v
 | .mk kind at_ name no ty n args,v,a=>by
   unfold cE at a ⊢
   obtain⟨b,M,bq,bf,R,ak,aA,bv,b9,dl,eI,hT,aS,cO,br,kX,qB,wd,v6⟩:=a
   exact⟨b,M,z b bq,bf,R,ak,aA,bv,b9,dl,eI,hT,aS,cO,br,kX,qB.lift z,wd,dD.lift (λe B=>⟨z e B.1,B.2⟩) args br v6⟩
def dD.lift{P bu:Nat->Prop}(z:∀e,P e->bu e):∀(cb:List bD) (br:List D),dD C h P cb br->dD C h bu cb br
 |[],br,a=>by unfold dD at a ⊢;exact a
 |E::cb,br,a=>by
  unfold dD at a ⊢
  obtain⟨v,nz,eM,M,b0,R,ak⟩:=a
  exact⟨v,nz,eM,M,λe B=>z e (b0 e B),R,dD.lift (λe B=>⟨z e B.1,B.2⟩) cb nz ak⟩
end
def dD.nil{P:Nat->Prop}:dD C h P [] []:=by unfold dD;rfl
def ht(kind at_:Int)(name:aY)(no:Bool)(ty:eu)(n:Int)(aS:D):List D:=[.Z kind, .Z at_, .str name, .bool no, .bool ty.b, .bool ty.s, .Z ty.w, .int .u64 n,aS]
def WJ:8<9:=by decide
def cE.of{P:Nat->Prop}{b cO:Nat}{kind at_ n:Int}{name:aY}{no:Bool}{ty:eu}{aS:D}{m:Nat}{st:oU}{args:List bD}{br:List D}(ag:U C h b=some (.cells (Q.ofList (ht kind at_ name no ty n aS) 0 .nil) m st))(bq:P b)
 (aD:dL C h P cO aS 1 (br.map λv=>[v]))(wd:br≠[]->cO≠b)(az:dD C h (λe=>P e/\e≠b/\e≠cO) args br)(bf:st= .own:=by rfl)(bp:8<m:=by exact WJ):cE C h P (.mk kind at_ name no ty n args) (.ptr b 0):=by
 unfold cE
 refine⟨b,rfl,bq,⟨_,_,bf▸ag,bp⟩, ?_, ?_, ?_, ?_, ?_, ?_, ?_, ?_,aS,cO,br, ?_,aD,wd,az⟩<;>(rw[bc ag,mZ];rfl)
def dL.nil(P:Nat->Prop)(bt:Nat):dL C h P 0 .aV bt []:=⟨λE=>absurd rfl E,Zs,Zs,rfl,λi aG=>by simp at aG,λi r S v aG=>by simp at aG⟩
def cE.leaf{P:Nat->Prop}{b:Nat}{kind at_ n:Int}{name:aY}{no:Bool}{ty:eu}{m:Nat}{st:oU}(ag:U C h b=some (.cells (Q.ofList (ht kind at_ name no ty n .aV) 0 .nil) m st))(bq:P b)(bf:st= .own:=by rfl)(bp:8<m:=by exact WJ):cE C h P (.mk kind at_ name no ty n []) (.ptr b 0):=
 cE.of (br:=[]) ag bq (dL.nil P 1) (λa=>absurd rfl a) dD.nil bf bp
def ad1:∀br:List D,(br.map λv=>[v]).flatten=br:=by
 intro br
 induction br with
 |nil=>rfl
 |cons H l ai=>simp[ai]
def cE.lit{P:Nat->Prop}{b cO z cap:Nat}{kind at_ n:Int}{name:aY}{no:Bool}{ty:eu}{m:Nat}{st jx:oU}{args:List bD}{br:List D}(ag:U C h b=some (.cells (Q.ofList (ht kind at_ name no ty n (.slice cO 0 z cap)) 0 .nil) m st))(bq:P b)
 (Lg:U C h cO=some (.cells (Q.ofList br 0 .nil) z jx))(aul:P cO)(aJ:br.length=z)(iu:z<=1000)(wd:cO≠b)(az:dD C h (λe=>P e/\e≠b/\e≠cO) args br)(bf:st= .own:=by rfl)(bp:8<m:=by exact WJ):cE C h P (.mk kind at_ name no ty n args) (.ptr b 0):=
 cE.of ag bq (Jm (bK:=br.map λv=>[v]) (by rw[ad1,Z1];exact Lg) (by simpa using aJ) Zs Zo aul) (λ_=>wd) az bf bp
def dD.one{P bu:Nat->Prop}{E:bD}{v:D}(a:cE C h bu E v)(b0:∀e,bu e->P e):dD C h P [E] [v]:=by
 unfold dD;exact⟨v,[],bu,rfl,b0,a,dD.nil⟩
def dD.two{P bu eM:Nat->Prop}{E f:bD}{v w:D}(a:cE C h bu E v)(z:cE C h eM f w)(b0:∀e,bu e->P e)(Y:∀e,eM e->P e/\¬bu e):dD C h P [E,f] [v,w]:=by
 unfold dD;exact⟨v,[w],bu,rfl,b0,a,dD.one z Y⟩
def dD.snoc{bu:Nat->Prop}{E:bD}{v:D}(z:cE C h bu E v):∀{cb:List bD}{br:List D}{pA P:Nat->Prop},dD C h pA cb br->(∀e,pA e->P e)->(∀e,bu e->P e/\¬pA e)->dD C h P (cb++[E]) (br++[v]):=by
 intro cb
 induction cb with
 |nil=>intro br pA P a M R;unfold dD at a;subst a;exact dD.one z (λe B=>(R e B).1)
 |cons H l ai=>
  intro br pA P a M R
  unfold dD at a
  obtain⟨w,nz,eM,rfl,b0,ak,aA⟩:=a
  show dD C h P (H::(l++[E])) (w::(nz++[v]))
  unfold dD
  exact⟨w,nz++[v],eM,rfl,λe B=>M e (b0 e B),ak,ai aA (λe B=>⟨M e B.1,B.2⟩) (λe B=>⟨⟨(R e B).1,λjV=>(R e B).2 (b0 e jV)⟩,λpW=>(R e B).2 pW.1⟩)⟩
def cE.ptr{P:Nat->Prop}:∀{E:bD}{v:D},cE C h P E v->∃b,v= .ptr b 0/\P b/\aP C h (.ptr b 0)=some (.Z E.kind)
 | .mk ..,_,a=>by
   unfold cE at a
   obtain⟨b,M,bq,_,R,_⟩:=a
   exact⟨b,M,bq,R⟩
def cE.open{P:Nat->Prop}:∀{E:bD}{v:D},cE C h P E v->∃b aS cO br,v= .ptr b 0/\P b/\aP C h (.ptr b 0)=some (.Z E.kind)/\aP C h (.ptr b 1)=some (.Z E.at_)/\aP C h (.ptr b 2)=some (.str E.name)/\aP C h (.ptr b 3)=some (.bool E.no)
 /\aP C h (.ptr b 4)=some (.bool E.ty.b)/\aP C h (.ptr b 5)=some (.bool E.ty.s)/\aP C h (.ptr b 6)=some (.Z E.ty.w)/\aP C h (.ptr b 7)=some (.int .u64 E.n)
 /\aP C h (.ptr b 8)=some aS/\dL C h P cO aS 1 (br.map λv=>[v])/\dD C h P E.args br
 | .mk ..,_,a=>by
   unfold cE at a
   obtain⟨b,M,bq,bf,R,ak,aA,bv,b9,dl,eI,hT,aS,cO,br,kX,qB,wd,v6⟩:=a
   exact⟨b,aS,cO,br,M,bq,R,ak,aA,bv,b9,dl,eI,hT,kX,qB,dD.lift (λe B=>B.1) _ _ v6⟩
def dD.len:∀{cb:List bD}{br:List D}{P:Nat->Prop},dD C h P cb br->br.length=cb.length:=by
 intro cb
 induction cb with
 |nil=>intro br P a;unfold dD at a;subst a;rfl
 |cons H l ai=>
  intro br P a
  unfold dD at a
  obtain⟨w,nz,bu,rfl,b0,M,R⟩:=a
  simp[ai R]
def dD.get:∀{cb:List bD}{br:List D}{P:Nat->Prop},dD C h P cb br->∀(i:Nat) E,cb[i]? =some E->∃v,br[i]? =some v/\cE C h P E v:=by
 intro cb
 induction cb with
 |nil=>intro br P a i E bC;simp at bC
 |cons H l ai=>
  intro br P a i E bC
  unfold dD at a
  obtain⟨w,nz,bu,rfl,b0,M,R⟩:=a
  cases i with
  |zero=>simp at bC;subst bC;exact⟨w,rfl,cE.lift b0 _ _ M⟩
  |succ i=>
   obtain⟨v,ak,aA⟩:=ai R i E (by simpa using bC)
   exact⟨v,by simpa using ak,cE.lift (λe B=>B.1) _ _ aA⟩
def dL.one{P:Nat->Prop}{b:Nat}{aS:D}{br:List D}(a:dL C h P b aS 1 (br.map λv=>[v])){i:Nat}{v:D}(aG:br[i]? =some v):gy 1 aS (.Z (i:Int))=some (.ptr b i)/\aP C h (.ptr b i)=some v/\P b:=by
 have l5:=(Zc.1 aG).1
 have M:=a.fx i (by simpa using l5)
 have R:=a.cell i [v] 0 v (by rw[Zu,aG];rfl) rfl
 rw[Z1]at M
 rw[Z1,ZR]at R
 exact⟨M,R,a.ag (λE=>by simp at E;subst E;simp at aG)⟩
def act{bt z:Nat}{x:D}{m:List D}(ae:lu C h bt x=some (z,m))(aJ:0<z)(ag:z<=1048576):
 jC C h j bt .aV x=some (.fv (.fj j 0 z bt) (bj C h j (some (.cells (Q.ofList m 0 .nil) m.length (.grow [])))) (j+1)):=by
 simp only[jC,ae]
 rw[h4,Zh Zo]
 simp[y2,uT,lC ag,nW]
def acr{bt z b n:Nat}{x:D}{m:List D}{c:Q D}{fp:List Nat}(ch:0<bt)(ae:lu C h bt x=some (z,m))(aJ:0<z)(ag:n+z<=1048576)(atK:jf m=true)
 (aE:C.a2<=b)(bf:U C h b=some (.cells c (n*bt) (.grow fp))):
 jC C h j bt (.fj b 0 n bt) x=some (.fv (.fj j 0 (n+z) bt) (bj C (bj C h b (some (.cells c (n*bt) .kw))) j (some (.cells (dS c (n*bt) m) (n*bt+m.length) (.grow (b::fp))))) (j+1)):=by
 simp only[jC,ae]
 rw[h4,Zh Zo]
 have cZ:¬(0+(n+z)*bt<=n*bt):=by
  have:0<z*bt:=Nat.mul_pos aJ ch
  rw[Z0];omega
 have UB:Nat.ble (0+(n+z)*bt) (n*bt)=false:=by
  cases b0:Nat.ble (0+(n+z)*bt) (n*bt)with
  |false=>rfl
  |true=>exact absurd (jR b0) cZ
 simp only[y2,Kf,bf,kV,lC aE,lC ag,atK,UB]
 simp[fN,nW]
def acs{bt z b n:Nat}{x:D}{m l:List D}{c:Q D}{st:oU}{aj:Nat}(ch:0<bt)(ae:lu C h bt x=some (z,m))(aJ:0<z)(ag:n+z<=1048576)
 (bf:U C h b=some (.cells c aj st))(ax:yS c l)(aC:l.length=n*bt):
 jC C h j bt (.slice b 0 n n) x=some (.fv (.fj j 0 (n+z) bt) (bj C h j (some (.cells (Q.ofList (l++m) 0 .nil) (l++m).length (.grow [])))) (j+1)):=by
 simp only[jC,ae]
 rw[h4,Zh Zo]
 have UB:Nat.ble (n+z) n=false:=by
  cases b0:Nat.ble (n+z) n with
  |false=>rfl
  |true=>exact absurd (jR b0) Zo
 have Lh:nL C h b 0 (n*bt)=some l:=by
  simp only[nL,cellsOf,bf]
  rw[aek ax _ _ Zo]
  simp[<-aC]
 simp only[y2,UB,lD,Lh,uT,lC ag,fo,nW,mM,hE]
def gk(C:aK)(h:Q af)(s:D)(bt:Nat)(l:List D)(cq:List Nat):Prop:=
 jB C h s bt l cq\/∃b n c st,s= .slice b 0 n n/\l.length=n*bt/\cq=[b]/\U C h b=some (.cells c (n*bt) st)/\yS c l
def gk.aa{s:D}{bt:Nat}{l:List D}{cq:List Nat}(a:gk C h s bt l cq)(aJ:∀e∈cq,U C S' e=U C h e):gk C S' s bt l cq:=by
 rcases a with a|⟨b,n,c,st,M,R,ak,aA,bv⟩
 ·exact .inl (a.aa aJ)
 ·exact .inr ⟨b,n,c,st,M,R,ak,by rw[aJ b (by rw[ak];exact Zv ..)];exact aA,bv⟩
def gk.append{bt z:Nat}{s x:D}{l m:List D}{cq:List Nat}(a:gk C h s bt l cq)(ch:0<bt)(ae:lu C h bt x=some (z,m))(bp:m.length=z*bt)(aJ:0<z)(M:jf m=true)
 (ag:l.length+m.length<=1048576)(aE:C.a2<=j)(cZ:∀e∈cq,e<j):
 ∃eJ S' gf,jC C h j bt s x=some (.fv eJ S' (j+1))/\jB C S' eJ bt (l++m) gf/\(∀e∈gf,e=j\/e∈cq)/\∀e,e≠j->e∉cq->U C S' e=U C h e:=by
 have afS:z<=z*bt:=YY z ch
 rcases a with (⟨rfl,rfl,rfl⟩|⟨b,fp,n,c,rfl,R,rfl,aA,bv,b9,dl⟩)|⟨b,n,c,st,rfl,R,rfl,aA,bv⟩
 ·refine⟨_,_,[j],act ae aJ (by simp at ag;omega), .inr ⟨j,[],z,_,rfl,by simpa using bp,rfl,by simpa using aE,Zs,by rw[a7 aE,bp], ?_⟩,Zs,λe B _=>aB aE B⟩
  simpa using l8 m
 ·have kG:n<=n*bt:=YY n ch
  have fP:b<j:=cZ b (Zv ..)
  refine⟨_,_,j::b::fp,acr ch ae aJ Zo M (aA b (Zv ..)) b9, .inr ⟨j,b::fp,n+z,dS c (n*bt) m,rfl,by rw[ZH,R,bp,Z0],rfl, ?_, ?_, ?_, ?_⟩, ?_,λe B Fo=> ?_⟩
  ·intro e B
   rcases Zt.1 B with rfl|B
   ·exact aE
   ·exact aA e B
  ·intro ax
   have:=cZ j ax
   omega
  ·rw[a7 aE,bp,Z0]
  ·rw[<-R];exact dl.app m
  ·intro e B
   rcases Zt.1 B with rfl|B
   ·exact .inl rfl
   ·exact .inr B
  ·simp only[Zt,YS]at Fo
   rw[aB aE B,aB (aA b (Zv ..)) Fo.1]
 ·have kG:n<=n*bt:=YY n ch
  refine⟨_,_,[j],acs ch ae aJ Zo aA bv R, .inr ⟨j,[],n+z,_,rfl,by rw[ZH,R,bp,Z0],rfl,by simpa using aE,Zs,by rw[a7 aE,ZH,R,bp,Z0],l8 _⟩,Zs,λe B _=>aB aE B⟩
def gk.qZ{bt:Nat}{s:D}{bK:List (List D)}{cq:List Nat}(a:gk C h s bt bK.flatten cq)(eT:0<bt)(Y:∀r∈bK,r.length=bt)(bp:bK.length<=300000){P:Nat->Prop}(aC:∀e∈cq,P e):∃b,dL C h P b s bt bK:=by
 rcases a with a|⟨b,n,c,st,rfl,R,rfl,aA,bv⟩
 ·exact a.qZ eT Y bp aC
 ·have gS:=tz Y
  have aE:n=bK.length:=Nat.eq_of_mul_eq_mul_right eT (by rw[<-R,gS])
  subst aE
  refine⟨b,λ_=>aC b (Zv ..),bp,Y,ub ..,λi aG=>by rw[IM _ aG,ZV],λi r S v aG bE=> ?_⟩
  rw[cv,aA]
  exact(bv _).trans (Tz bK Y i r S v aG bE)
def gk.MS{s:D}{br:List D}{cq:List Nat}(a:gk C h s 1 br cq){P:Nat->Prop}(bp:br.length<=300000)(aC:∀e∈cq,P e):∃b,dL C h P b s 1 (br.map λv=>[v]):=by
 have cz:gk C h s 1 (br.map λv=>[v]).flatten cq:=by rw[ad1];exact a
 exact cz.qZ Zd Zs (by simpa using bp) aC
end
end
noncomputable section
structure jA(G:Prop):Prop where
 W:G
def TK{ca A:Prop}(f:ca)(a:ca->A:=by intro f;(simp(disch:=omega) only[vk,yB,Gn,D9,BO,Ea,Gc,Gb,FN,AY,vS,CX,FE,iG,wL,sN,FH,FI,FJ,nT,FK,FF,CZ,FG,GF,GJ,GK,GL,GM,GN,GO,GP,GQ,GG,GH,GI,yL,GC,mZ,D.cells,GU,GS,GR,F0,Ft,Fr,Fs,Fq,Fp,Fu,Gt,Gu,Ey,Ex,y5,Ei,Ej,ub,wM,yn,AX,e6,uN,uM,n3,zp,Yc,zr,Yu,Yv,zh,Yd,Z3,ZF,Z5,Yo,Yb,Yj,Z8,ZL,ZV,ZR,ZE,ZD,reduceIte,Nat.reduceEqDiff,Nat.reduceAdd,Nat.reduceMul,Nat.reduceLT,Nat.reduceBEq,YE,Yh,Yq,Yr,fo,lD,YO,Yn,YG,Nat.reduceLeDiff,Nat.reduceSub,hC,f])):A:=a f
def asZ{ca A:Prop}(f:ca)(a:ca->A:=by intro f;(simp(disch:=omega) only[vk,yB,Gn,D9,BO,Ea,Gc,Gb,FN,AY,vS,CX,FE,iG,wL,sN,FH,FI,FJ,nT,FK,FF,CZ,FG,GF,GJ,GK,GL,GM,GN,GO,GP,GQ,GG,GH,GI,yL,GC,mZ,D.cells,GU,GS,GR,F0,Ft,Fr,Fs,Fq,Fp,Fu,Gt,Gu,Ey,Ex,y5,Ei,Ej,ub,wM,yn,AX,e6,uN,uM,n3,zp,Yc,zr,Yu,Yv,zh,Yd,Z3,ZF,Z5,Yo,Yb,Yj,Z8,ZL,ZV,ZR,ZE,ZD,reduceIte,Nat.reduceEqDiff,Nat.reduceAdd,Nat.reduceMul,Nat.reduceLT,Nat.reduceBEq,YE,Yh,Yq,Yr,fo,lD,YO,Yn,YG,Nat.reduceLeDiff,Nat.reduceSub,hC,f]);rfl):A:=a f
def as0{ca A bo:Prop}(f:ca)(t:bo)(a:ca->bo->A:=by intro f t;(simp(disch:=omega) only[vk,yB,Gn,D9,BO,Ea,Gc,Gb,FN,AY,vS,CX,FE,iG,wL,sN,FH,FI,FJ,nT,FK,FF,CZ,FG,GF,GJ,GK,GL,GM,GN,GO,GP,GQ,GG,GH,GI,yL,GC,mZ,D.cells,GU,GS,GR,F0,Ft,Fr,Fs,Fq,Fp,Fu,Gt,Gu,Ey,Ex,y5,Ei,Ej,ub,wM,yn,AX,e6,uN,uM,n3,zp,Yc,zr,Yu,Yv,zh,Yd,Z3,ZF,Z5,Yo,Yb,Yj,Z8,ZL,ZV,ZR,ZE,ZD,reduceIte,Nat.reduceEqDiff,Nat.reduceAdd,Nat.reduceMul,Nat.reduceLT,Nat.reduceBEq,YE,Yh,Yq,Yr,fo,lD,YO,Yn,YG,Nat.reduceLeDiff,Nat.reduceSub,hC,f]);exact t):A:=a f t
def asS{ca A bo:Prop}(f:ca)(z:jA bo)(a:ca->jA bo->A:=by intro f z;(simp(disch:=omega) only[vk,yB,Gn,D9,BO,Ea,Gc,Gb,FN,AY,vS,CX,FE,iG,wL,sN,FH,FI,FJ,nT,FK,FF,CZ,FG,GF,GJ,GK,GL,GM,GN,GO,GP,GQ,GG,GH,GI,yL,GC,mZ,D.cells,GU,GS,GR,F0,Ft,Fr,Fs,Fq,Fp,Fu,Gt,Gu,Ey,Ex,y5,Ei,Ej,ub,wM,yn,AX,e6,uN,uM,n3,zp,Yc,zr,Yu,Yv,zh,Yd,Z3,ZF,Z5,Yo,Yb,Yj,Z8,ZL,ZV,ZR,ZE,ZD,reduceIte,Nat.reduceEqDiff,Nat.reduceAdd,Nat.reduceMul,Nat.reduceLT,Nat.reduceBEq,YE,Yh,Yq,Yr,fo,lD,YO,Yn,YG,Nat.reduceLeDiff,Nat.reduceSub,hC,f]);exact z.W):A:=a f z
def cd{ca A bo:Prop}(f:ca)(z:jA bo)(a:ca->jA bo->A:=by intro f z;(repeat(with_reducible first|refine gi ?_ |refine oF ?_ |refine m0 ?_ |refine pD ?_ |refine Ss ?_ |refine pG ?_ |refine WP ?_ |refine WO ?_ |refine V7 ?_ |refine V9 ?_ |refine V6 ?_ |refine V8 ?_ |refine Wy ?_ |refine SH ?_ |refine WN ?_ |refine WM ?_ |refine HR ?_ |refine HQ ?_ |refine HP ?_ |refine HO ?_ |refine T2 ?_ |refine xz ?_ |refine xy ?_ |refine L8 ?_ |refine Xi ?_ |refine Xj ?_ |(refine f8 (iH (by(first|assumption|(simp(disch:=omega) only[a7,aB,f]<;>rfl)|(simp(disch:=omega) only[a7,aB,f]))) Zo rfl Zd Zd rfl) ?_)|((conv=>whnf;arg 1;simp(disch:=omega) only[vk,yB,Gn,D9,BO,Ea,Gc,Gb,FN,AY,vS,CX,FE,iG,wL,sN,FH,FI,FJ,nT,FK,FF,CZ,FG,GF,GJ,GK,GL,GM,GN,GO,GP,GQ,GG,GH,GI,yL,GC,mZ,D.cells,GU,GS,GR,F0,Ft,Fr,Fs,Fq,Fp,Fu,Gt,Gu,Ey,Ex,y5,Ei,Ej,ub,wM,yn,AX,e6,uN,uM,n3,zp,Yc,zr,Yu,Yv,zh,Yd,Z3,ZF,Z5,Yo,Yb,Yj,Z8,ZL,ZV,ZR,ZE,ZD,reduceIte,Nat.reduceEqDiff,Nat.reduceAdd,Nat.reduceMul,Nat.reduceLT,Nat.reduceBEq,YE,Yh,Yq,Yr,fo,lD,YO,Yn,YG,Nat.reduceLeDiff,Nat.reduceSub,hC,f]);(first|refine oF ?_ |refine m0 ?_ |refine xz ?_ |refine xy ?_ |refine HR ?_ |refine HQ ?_ |refine HP ?_ |refine HO ?_))|dsimp only));exact z.W):A:=a f z
def oj{ca A bo:Prop}(f:ca)(z:jA bo)(a:ca->jA bo->A:=by intro f z;(repeat(with_reducible first|refine oF ?_ |refine m0 ?_ |refine pD ?_ |refine Ss ?_ |refine pG ?_ |refine WP ?_ |refine WO ?_ |refine V7 ?_ |refine V9 ?_ |refine V6 ?_ |refine V8 ?_ |refine Wy ?_ |refine SH ?_ |refine WN ?_ |refine WM ?_ |refine HR ?_ |refine HQ ?_ |refine HP ?_ |refine HO ?_ |refine T2 ?_ |refine xz ?_ |refine xy ?_ |refine L8 ?_ |refine Xi ?_ |refine Xj ?_ |(refine f8 (iH (by(first|assumption|(simp(disch:=omega) only[a7,aB,f]<;>rfl)|(simp(disch:=omega) only[a7,aB,f]))) Zo rfl Zd Zd rfl) ?_)|((conv=>whnf;arg 1;simp(disch:=omega) only[vk,yB,Gn,D9,BO,Ea,Gc,Gb,FN,AY,vS,CX,FE,iG,wL,sN,FH,FI,FJ,nT,FK,FF,CZ,FG,GF,GJ,GK,GL,GM,GN,GO,GP,GQ,GG,GH,GI,yL,GC,mZ,D.cells,GU,GS,GR,F0,Ft,Fr,Fs,Fq,Fp,Fu,Gt,Gu,Ey,Ex,y5,Ei,Ej,ub,wM,yn,AX,e6,uN,uM,n3,zp,Yc,zr,Yu,Yv,zh,Yd,Z3,ZF,Z5,Yo,Yb,Yj,Z8,ZL,ZV,ZR,ZE,ZD,reduceIte,Nat.reduceEqDiff,Nat.reduceAdd,Nat.reduceMul,Nat.reduceLT,Nat.reduceBEq,YE,Yh,Yq,Yr,fo,lD,YO,Yn,YG,Nat.reduceLeDiff,Nat.reduceSub,hC,f]);(first|refine oF ?_ |refine m0 ?_ |refine xz ?_ |refine xy ?_ |refine HR ?_ |refine HQ ?_ |refine HP ?_ |refine HO ?_))|dsimp only));exact z.W):A:=a f z
def tB{ca A bo:Prop}(f:ca)(z:jA bo)(a:ca->jA bo->A:=by intro f z;(with_reducible first|refine gi ?_ |refine oF ?_ |refine m0 ?_ |refine pD ?_ |refine Ss ?_ |refine pG ?_ |refine WP ?_ |refine WO ?_ |refine V7 ?_ |refine V9 ?_ |refine V6 ?_ |refine V8 ?_ |refine Wy ?_ |refine SH ?_ |refine WN ?_ |refine WM ?_ |refine HR ?_ |refine HQ ?_ |refine HP ?_ |refine HO ?_ |refine T2 ?_ |refine xz ?_ |refine xy ?_ |refine L8 ?_ |refine Xi ?_ |refine Xj ?_ |(refine f8 (iH (by(first|assumption|(simp(disch:=omega) only[a7,aB,f]<;>rfl)|(simp(disch:=omega) only[a7,aB,f]))) Zo rfl Zd Zd rfl) ?_)|((conv=>whnf;arg 1;simp(disch:=omega) only[vk,yB,Gn,D9,BO,Ea,Gc,Gb,FN,AY,vS,CX,FE,iG,wL,sN,FH,FI,FJ,nT,FK,FF,CZ,FG,GF,GJ,GK,GL,GM,GN,GO,GP,GQ,GG,GH,GI,yL,GC,mZ,D.cells,GU,GS,GR,F0,Ft,Fr,Fs,Fq,Fp,Fu,Gt,Gu,Ey,Ex,y5,Ei,Ej,ub,wM,yn,AX,e6,uN,uM,n3,zp,Yc,zr,Yu,Yv,zh,Yd,Z3,ZF,Z5,Yo,Yb,Yj,Z8,ZL,ZV,ZR,ZE,ZD,reduceIte,Nat.reduceEqDiff,Nat.reduceAdd,Nat.reduceMul,Nat.reduceLT,Nat.reduceBEq,YE,Yh,Yq,Yr,fo,lD,YO,Yn,YG,Nat.reduceLeDiff,Nat.reduceSub,hC,f]);(first|refine oF ?_ |refine m0 ?_ |refine xz ?_ |refine xy ?_ |refine HR ?_ |refine HQ ?_ |refine HP ?_ |refine HO ?_))|dsimp only);exact z.W):A:=a f z
def a8{A:Prop}(a:A:=by exact TK trivial):A:=a
def fq{A:Prop}(a:A:=by exact asZ trivial):A:=a
def aL{A bo:Prop}(t:bo)(a:bo->A:=by intro t;exact as0 trivial t):A:=a t
def xN{A bo:Prop}(z:jA bo)(a:jA bo->A:=by intro z;refine asS trivial ⟨?_⟩;exact z.W):A:=a z
def cx{A bo:Prop}(z:jA bo)(a:jA bo->A:=by intro z;refine cd trivial ⟨?_⟩;exact z.W):A:=a z
def pN{A bo:Prop}(z:jA bo)(a:jA bo->A:=by intro z;refine oj trivial ⟨?_⟩;exact z.W):A:=a z
def ih{A bo:Prop}(z:jA bo)(a:jA bo->A:=by intro z;refine tB trivial ⟨?_⟩;exact z.W):A:=a z
def dz{A:Prop}(a:A:=by exact⟨Zo,λb ag=>zy⟩):A:=a
def cI{A bo me lz:Prop}(bF:me)(eR:lz)(z:jA bo)(a:me->lz->jA bo->A:=by intro bF eR z;refine cd (Za @bF @eR) ⟨?_⟩;exact z.W):A:=a @bF @eR z
def dI{A bo me lz pw:Prop}(bF:me)(eR:lz)(fk:pw)(z:jA bo)(a:me->lz->pw->jA bo->A:=by intro bF eR fk z;refine cd (Za @bF (Za @eR @fk)) ⟨?_⟩;exact z.W):A:=a @bF @eR @fk z
def fI{A bo me lz pw vC:Prop}(bF:me)(eR:lz)(fk:pw)(f3:vC)(z:jA bo)(a:me->lz->pw->vC->jA bo->A:=by intro bF eR fk f3 z;refine cd (Za @bF (Za @eR (Za @fk @f3))) ⟨?_⟩;exact z.W):A:=a @bF @eR @fk @f3 z
def fO{A bo me lz pw vC BD:Prop}(bF:me)(eR:lz)(fk:pw)(f3:vC)(pK:BD)(z:jA bo)(a:me->lz->pw->vC->BD->jA bo->A:=by intro bF eR fk f3 pK z;refine cd (Za @bF (Za @eR (Za @fk (Za @f3 @pK)))) ⟨?_⟩;exact z.W):A:=a @bF @eR @fk @f3 @pK z
def hu{A bo me lz pw vC BD JS:Prop}(bF:me)(eR:lz)(fk:pw)(f3:vC)(pK:BD)(Ah:JS)(z:jA bo)(a:me->lz->pw->vC->BD->JS->jA bo->A:=by intro bF eR fk f3 pK Ah z;refine cd (Za @bF (Za @eR (Za @fk (Za @f3 (Za @pK @Ah))))) ⟨?_⟩;exact z.W):A:=a @bF @eR @fk @f3 @pK @Ah z
def d9{A bo me lz pw vC BD JS γ:Prop}(bF:me)(eR:lz)(fk:pw)(f3:vC)(pK:BD)(Ah:JS)(Ts:γ)(z:jA bo)(a:me->lz->pw->vC->BD->JS->γ->jA bo->A:=by intro bF eR fk f3 pK Ah Ts z;refine cd (Za @bF (Za @eR (Za @fk (Za @f3 (Za @pK (Za @Ah @Ts)))))) ⟨?_⟩;exact z.W):A:=a @bF @eR @fk @f3 @pK @Ah @Ts z
def Ez{A bo me lz:Prop}(bF:me)(eR:lz)(z:jA bo)(a:me->lz->jA bo->A:=by intro bF eR z;refine oj (Za @bF @eR) ⟨?_⟩;exact z.W):A:=a @bF @eR z
def gh{A bo me lz pw:Prop}(bF:me)(eR:lz)(fk:pw)(z:jA bo)(a:me->lz->pw->jA bo->A:=by intro bF eR fk z;refine oj (Za @bF (Za @eR @fk)) ⟨?_⟩;exact z.W):A:=a @bF @eR @fk z
def aU.Zm{C:aK}{f:Nat}{y4:List D}{h:Q af}{j:Nat}{ah Bq av:bJ}(a:aU C f y4 h j ah (λ_ _ _=>False))(z:∀ac S' aN,ah ac S' aN->Bq ac S' aN):aU C f y4 h j Bq av:=a.mono z (λ_ _ _ a=>a.elim)
end
noncomputable section
open Go.RowKit (Below)
def QO(jF:List Nat)(W:Nat->List D->Option D)(l:List (Nat×List D×D))(f:Nat)(args:List D):Option D:=bW (rN f jF) (rO W l f args) (W f args)
section
variable{P:Program}{w:World}
def Env.ayw{nm:List (String×Nat)}(jb:BG P nm){laid:List (String×DataW Unit)}{jF:List Nat}{W:Nat->List D->Option D}{l:List (Nat×List D×D)}(a:laidMet P laid w){dY:db}{ed:Nat->Prop}
 (cM:Env ⟨P,n2 (hm P nm laid P.globals.size).2 .nil,(hm P nm laid P.globals.size).1,W,P.globals.size⟩ w dY ed)(be:M5 l=true)
 (k0:∀x∈l,∃m,Bb ⟨P,n2 (hm P nm laid P.globals.size).2 .nil,(hm P nm laid P.globals.size).1,W,P.globals.size⟩ m x.1 x.2.1=some x.2.2):
 ∃T ad,Env ⟨P,n2 (hm P nm laid P.globals.size).2 .nil,(hm P nm laid P.globals.size).1,QO jF W l,P.globals.size⟩ w T ad:=by
 obtain⟨T,ad,ak,aA⟩:=Wu (hB:=QO jF W l) jb a
 have dA:=aiG cM be k0
 refine⟨T,ad,cM.kN,⟨λf args v bf=> ?_,λf args v bf T q6 l4=> ?_⟩,ak,aA⟩
 ·have bf:bW (rN f jF) (rO W l f args) (W f args)=some v:=bf
  rw[fN]at bf
  split at bf
  ·exact dA.val f args v bf
  ·exact cM.hB.val f args v bf
 ·have bf:bW (rN f jF) (rO W l f args) (W f args)=some v:=bf
  rw[fN]at bf
  split at bf
  ·exact dA.ok f args v bf T q6 l4
  ·exact cM.hB.ok f args v bf T q6 l4
end
end
end Go.bd

namespace Go.Proofs.YtpeabpmnlmaabaaGreatDoor
open Go.bd
noncomputable section
structure cl where
 G:Q af
 a2:Nat
 O:Nat->List D->Option D
noncomputable def o(a:cl):aK:=⟨Tryz.prog,a.G,a.a2,a.O,Tryz.prog.globals.size⟩
instance:Coe cl aK:=⟨o⟩
variable (X : cl) (h : Q af) (j : Nat) (ah av : bJ) (a0 bb b5 a3 a4 a5 hR io ip : D)
abbrev js(v x:D)(h:Q af)(n:Nat)(z:bJ):Prop:=p0 z λS=>iB true v (S x h n) (S bd.undef h n)
abbrev hf(v x:D)(h:Q af)(n:Nat)(z:bJ):Prop:=p0 z λS=>iB false v (S x h n) (S bd.undef h n)
abbrev d5(v:D)(W:Option D)(h:Q af)(n:Nat)(z:bJ):Prop:=p0 z λS=>iB true v (ap W λx=>S x h n) (S bd.undef h n)
abbrev eU(v:D)(W:Option D)(h:Q af)(n:Nat)(z:bJ):Prop:=p0 z λS=>iB false v (ap W λx=>S x h n) (S bd.undef h n)
abbrev mD(v:D)(W:Option D)(h:Q af)(n:Nat)(z:bJ):Prop:=p0 z λS=>iB true v (cw W λx=>S x h n) (S bd.undef h n)
abbrev sM(v:D)(W:Option D)(h:Q af)(n:Nat)(z:bJ):Prop:=p0 z λS=>iB false v (cw W λx=>S x h n) (S bd.undef h n)
abbrev Qb(v:D)(W:Option D)(aj:D->Option D)(h:Q af)(n:Nat)(z:bJ):Prop:=p0 z λS=>iB true v (cw W λt=>ap (aj t) λx=>S x h n) (S bd.undef h n)
abbrev Qa(v:D)(W:Option D)(aj:D->Option D)(h:Q af)(n:Nat)(z:bJ):Prop:=p0 z λS=>iB false v (cw W λt=>ap (aj t) λx=>S x h n) (S bd.undef h n)
abbrev iQ(v:D)(g:bJ->Prop)(h:Q af)(n:Nat)(z:bJ):Prop:=p0 z λS=>iB true v (g S) (S bd.undef h n)
abbrev j7(v:D)(g:bJ->Prop)(h:Q af)(n:Nat)(z:bJ):Prop:=p0 z λS=>iB false v (g S) (S bd.undef h n)
abbrev P8(v x:D)(h:Q af)(z:D->Q af->Prop):Prop:=wE z λS=>iB false v (S x h) (S bd.undef h)
abbrev iP(v:D)(W:Option D)(h:Q af)(z:D->Q af->Prop):Prop:=wE z λS=>iB true v (ap W λx=>S x h) (S bd.undef h)
abbrev yj(v:D)(W:Option D)(h:Q af)(z:D->Q af->Prop):Prop:=wE z λS=>iB false v (ap W λx=>S x h) (S bd.undef h)
abbrev Fx(v:D)(W:Option D)(h:Q af)(z:D->Q af->Prop):Prop:=wE z λS=>iB true v (cw W λx=>S x h) (S bd.undef h)
abbrev V5(v:D)(W:Option D)(h:Q af)(z:D->Q af->Prop):Prop:=wE z λS=>iB false v (cw W λx=>S x h) (S bd.undef h)
abbrev P9(v:D)(W:Option D)(aj:D->Option D)(h:Q af)(z:D->Q af->Prop):Prop:=wE z λS=>iB true v (cw W λt=>ap (aj t) λx=>S x h) (S bd.undef h)
abbrev ahj(v:D)(W:Option D)(aj:D->Option D)(h:Q af)(z:D->Q af->Prop):Prop:=wE z λS=>iB false v (cw W λt=>ap (aj t) λx=>S x h) (S bd.undef h)
abbrev P7(v:D)(g:(D->Q af->Prop)->Prop)(h:Q af)(z:D->Q af->Prop):Prop:=wE z λS=>iB false v (g S) (S bd.undef h)
abbrev e0(aX)(M:D)(R:aK)(ak:(Q af))(z:D->D->Prop):=ap (gr aX M) λb3=>ap (aP R ak b3) λbY=>z b3 bY
abbrev yP(aA:Nat)(bv:aK)(b9:(Q af))(z:D->(Q af)->Nat->Prop):=ap (hD [.Z 0, .str [], .Z 0, .int .u64 0, .zF, .zF, .Z 0] aA) λb3=>gO bv b9 aA b3.1 b3.2 z
abbrev fm(aX:cV)(M)(ak)(z:D->D->Prop):=cw (aX M) λb3=>cw (aX ak) λbY=>z b3 bY
abbrev ge(aX:cV)(M)(z:D->Prop):=cw (aX M) λb3=>ap (bn .add b3 (.Z 1)) z
abbrev g5(aX:D)(M)(R:aK)(ak:(Q af))(z:D->D->Prop):=ap (s5 aX) λb3=>e0 M b3 R ak z
abbrev RL(M:D)(kX:Nat)(qB:aK)(v6:(Q af))(z:D->D->Nat->(Q af)->Prop):=ap (n8 0 M) λb3=>ap (n8 1 M) λbY=>ap (hD [.Z 0, .str [], .Z 0, .zF, .zF, .Z 0, .str [], .Z 0, .zF, .Z 0, .Z 0] kX) λco=>gO qB v6 kX co.1 co.2 λcY fM l0=>ap (gq qB fM 11 cY b3) λpE=>z bY cY l0 pE
abbrev jy(aX:cV)(M)(R:aK)(ak:(Q af))(aA)(bv:D)(z:(Q af)->D->Prop):=cw (aX M) λb3=>ap (gq R ak aA b3 bv) λbY=>cw (aX M) λco=>ap (cG R bY aA co) λcY=>z bY cY
abbrev hs(M:D)(z:D->D->Prop):=ap (n8 0 M) λb3=>ap (n8 1 M) λbY=>z b3 bY
abbrev gW(aX:cV)(M)(R)(z:D->Prop):=fm aX M R λb3 bY=>ap (bn .lss b3 bY) z
abbrev Br(aX:cV)(M)(R)(aA:aK)(bv:(Q af))(kX:Nat)(z:D->Nat->(Q af)->Prop):=fm aX M R λb3 bY=>ap (gy 8 b3 bY) λco=>ap (cG aA bv 8 co) λcY=>ap (hD [.str [], .Z 0, .zF, .zF, .Z 0, .str [], .Z 0, .zF] kX) λfM=>gO aA bv kX fM.1 fM.2 λl0 pE xu=>ap (gq aA pE 8 l0 cY) λsn=>z l0 xu sn
abbrev lx(aX:D)(M)(z:D->Prop):=ap (s5 aX) λb3=>ap (gr M b3) z
abbrev nB(aX:aK)(M:(Q af))(R:Nat)(ak)(aA)(b9)(dl:D)(z:D->Nat->(Q af)->Prop):=gO aX M R ak aA λb3 bY co=>ap (gq aX bY b9 b3 dl) λcY=>z b3 co cY
abbrev md(aX:D)(M)(R:fB)(z:D->fB->Prop):=ap (bn .eql aX (.Z M)) λb3=>bk R λbY=>z b3 bY
abbrev s9(ak)(aA:Nat)(bv:aK)(b9:(Q af))(kX:D)(qB:bJ)(z:D->(Q af)->Nat->Prop):=ap (hC 1 [.str []] [(0,1, .str [ak])] aA) λb3=>gO bv b9 aA b3.1 b3.2 λbY co cY=>aU bv 69 [kX,bY] co cY z qB
abbrev r3(aX:D)(M)(R:D)(ak:(Q af))(aA:Nat)(b9:aK)(z:D->(Q af)->Nat->Prop):=eU aX (gr M R) ak aA λb3 bY co=>eU aX (aP b9 bY b3) bY co z
abbrev kR(aX:cV)(M)(R:aK)(ak:(Q af))(z:D->Prop):=cw (aX M) λb3=>ap (aP R ak b3) z
abbrev kz(aX:cV)(M)(R)(ak:aK)(aA:(Q af))(z:D->D->D->Prop):=cw (aX M) λb3=>g5 b3 R ak aA λbY co=>z b3 bY co
abbrev ta(aX)(M:cV)(R)(ak)(aA)(z:fB->D->Prop):=bk aX λb3=>fm M R ak λbY co=>ap (gy aA bY co) λcY=>z b3 cY
abbrev r4(aX:D)(M)(R:D)(ak:(Q af))(aA:Nat)(b9:aK)(z:D->(Q af)->Nat->Prop):=d5 aX (gr M R) ak aA λb3 bY co=>d5 aX (aP b9 bY b3) bY co z
abbrev DC(aX:aK)(M:(Q af))(ak:D)(bv:Nat)(z:D->Nat->(Q af)->Prop):=ap (cG aX M 6 ak) λb3=>ap (hD [.str [], .Z 0, .aV, .aV, .aV, .aV] bv) λbY=>nB aX M bv bY.1 bY.2 6 b3 z
abbrev hO(aX:D)(M)(z:D->fB->Prop):=ap (gz aX) λb3=>bk M λbY=>z b3 bY
abbrev xb(aX:Nat)(M:aK)(R:(Q af))(bv:D)(z:D->Nat->(Q af)->Prop):=yP aX M R λb3 bY co=>ap (gq M bY 7 b3 bv) λcY=>z b3 co cY
abbrev RG(R:Nat)(z:(D×af)->Prop):=ap (hD [.Z 0, .Z 0] R) z
abbrev ic(aX:cV)(M)(R)(ak:aK)(aA:(Q af))(z:D->D->Prop):=cw (aX M) λb3=>e0 R b3 ak aA z
abbrev RH(b9:Nat)(dl)(eI:aK)(hT:(Q af))(z:D->(Q af)->Prop):=ap (hD [.Z 0, .str [], .Z 0, .zF, .zF, .Z 0, .str [], .Z 0, .zF, .Z 0, .Z 0] (b9+dl)) λb3=>mE eI hT (b9+dl) b3.1 b3.2 z
abbrev DD(aX:aK)(M:(Q af))(ak:D)(bv:Nat)(z:D->Nat->(Q af)->Prop):=ap (cG aX M 4 ak) λb3=>ap (hD [.aV, .aV, .Z 0, .cJ] bv) λbY=>nB aX M bv bY.1 bY.2 4 b3 z
abbrev DE(aX:D)(M:cV)(R)(ak:(Q af))(b9)(eI:aK)(z:D->(Q af)->Prop):=Fx aX (M R) ak λb3 bY=>iP aX (s5 b3) bY λco cY=>iP aX (gr b9 co) cY λfM l0=>iP aX (aP eI l0 fM) l0 z
abbrev pt(M)(z:D->Prop):=ap (some (D.iface 178 (.Z M))) z
abbrev lY(aX:cV)(M)(R:aK)(ak:(Q af))(aA)(z:D->Prop):=cw (aX M) λb3=>ap (cG R ak aA b3) z
abbrev e4(aX:cV)(z:D->Prop):=cw (aX 0) z
abbrev JK(aA)(dl:D)(z:D->Prop):=ap (e6 [.Z 0, .Z 0] [(0,1, .Z aA),(1,1,dl)]) z
abbrev tb(aX:cV)(M)(R)(z:D->Prop):=cw (aX M) λb3=>ap (bn .eql b3 (.Z R)) z
abbrev ql(aX:aK)(M:(Q af))(ak:D)(aA:D)(z:(Q af)->Prop):=ap (gq aX M 1 ak aA) z
abbrev xc(M:D)(R:aK)(ak:(Q af))(aA)(z:D->Prop):=e0 0 M R ak λb3 bY=>ap (bn .neq bY (.Z aA)) z
abbrev Nr(ak:Nat)(aA:aK)(bv:(Q af))(dl:cV)(eI)(z:D->Nat->(Q af)->Prop):=ap (hD [.str [], .Z 0, .zF, .zF, .Z 0, .str [], .Z 0, .zF] ak) λb3=>gO aA bv ak b3.1 b3.2 λbY co cY=>cw (dl eI) λfM=>ap (gq aA co 8 bY fM) λl0=>z bY cY l0
abbrev xd(aX)(M:D)(z:D->Prop):=ap (gy aX M (.Z 0)) z
abbrev r5(aX:aK)(M:(Q af))(R)(ak:D)(bv)(dl:Nat)(eI:bJ)(z:D->(Q af)->Nat->Prop):=ap (cG aX M R ak) λb3=>aU aX bv [b3] M dl z eI
abbrev r6(aX:aK)(M:(Q af))(R)(ak:D)(aA:D)(z:(Q af)->D->Prop):=ap (gq aX M R ak aA) λb3=>ap (cG aX b3 R ak) λbY=>z b3 bY
abbrev Bs(aX:D)(z:D->Prop):=ap (bn .sub aX (.Z 1)) z
abbrev akC(aX:D)(M:aK)(R:(Q af))(T3:Nat)(atJ:bJ)(z:D->D->D->Nat->(Q af)->Prop):=ap (gz aX) λb3=>ap (ts M R .min [3,3] [b3, .Z 5000]) λbY=>ap (ur M R 1 aX none (some bY) none) λco=>aU M 6 [co] R T3 (λcY fM l0=>hs cY λpE xu=>RG l0 λsn=>nB M fM l0 sn.1 sn.2 2 xu λSz Sy apV=>z co pE Sz Sy apV) atJ
abbrev Bt(aX:cV)(M)(z:D->Prop):=e4 aX λb3=>ap (nw b3 (some (.Z M)) none) z
abbrev r7(aX:aK)(M:(Q af))(ak:D)(aA)(z:(Q af)->Prop):=ap (gq aX M 1 ak (.Z aA)) z
abbrev kS(aX:aK)(M:(Q af))(ak:D)(z:D->Prop):=ap (cG aX M 3 ak) z
abbrev DF(aX:D)(z:D->Prop):=ap (bn .add aX (.Z 1)) z
abbrev xe(aX:D)(M:D)(R:(Q af))(ak:Nat)(bv)(b9:aK)(z:D->(Q af)->Nat->Prop):=eU aX (s5 M) R ak λb3 bY co=>r3 aX bv b3 bY co b9 z
abbrev Bu(aX:aK)(M:(Q af))(R:Nat)(ak)(aA)(b9)(dl:D)(z:D->(Q af)->Nat->Prop):=gO aX M R ak aA λb3 bY co=>h0 (jC aX bY co b9 dl b3) bY co z
abbrev lg(aX:aK)(M:(Q af))(ak:D)(z:D->Prop):=ap (cG aX M 2 ak) z
abbrev DG(aX:cV)(M)(R)(bv)(z:D->D->Prop):=fm aX M R λb3 bY=>cw (aX M) λco=>ap (gy bv bY co) λcY=>z b3 cY
abbrev RI(aX:aK)(M:(Q af))(hT:D)(kX:D)(z:D->Prop):=ap (nU aX M 9 (.agg [.Z 0, .str [], .Z 0, .zF, .zF, .Z 0, .str [], .Z 0, .zF, .Z 0, .Z 0]) hT kX true) z
abbrev DH(aX:Nat)(M)(R:cV)(ak)(aA)(bv:aK)(b9:(Q af))(hT)(z:Nat->D->D->Prop):=fb (aX+M) λb3=>kz R ak aA bv b9 λbY co cY=>kz R ak hT bv b9 λ_ _ pE=>z b3 cY pE
abbrev jj(M:D)(R:aK)(ak:(Q af))(z:D->Prop):=e0 0 M R ak λ_ bY=>z bY
abbrev tc(aX)(M:D)(R:aK)(ak:(Q af))(aA:D)(z:(Q af)->Prop):=ap (gr aX M) λb3=>ql R ak b3 aA z
abbrev DI(z:D->Prop):=ap (e6 [.Z 0, .Z 0] []) z
abbrev RJ(aX:Nat)(R:D)(aA:aK)(bv:(Q af))(eI:D)(kX:bJ)(z:D->Nat->D->(Q af)->D->Prop):=fb (aX+12) λb3=>g5 R 8 aA bv λbY co=>aU aA 95 [eI] bv b3 (λcY fM l0=>ap (hC 1 [.cJ] [(0,1,cY)] (aX+7)) λpE=>mE aA fM (aX+7) pE.1 pE.2 λxu sn=>ap (aP aA sn bY) λSz=>z co l0 xu sn Sz) kX
abbrev RK(aX:cV)(aA:(Q af))(bv:Nat)(z:D->D->(Q af)->Nat->Prop):=e4 aX λb3=>ap (nq b3) λbY=>ap (bn .geq bY (.Z 3)) λco=>mD co (aX 0) aA bv λcY fM l0=>d5 co (oB cY (.Z 1)) fM l0 λpE xu sn=>z co pE xu sn
abbrev Bv(aX:aK)(R:D)(ak:D)(aA:(Q af))(bv:Nat)(b9:bJ)(z:D->D->Nat->(Q af)->Prop):=aU aX 12 [R,ak] aA bv (λb3 bY co=>RL b3 co aX bY z) b9
abbrev r8(aX:D)(M)(R:aK)(ak:(Q af))(aA:D)(z:(Q af)->Prop):=lx aX M λb3=>ql R ak b3 aA z
abbrev DJ(aX:D)(M:aK)(R:(Q af))(ak)(z:D->Prop):=jj aX M R λb3=>ap (bn .eql b3 (.Z ak)) z
abbrev RM(b9)(dl)(hT:D)(z:D->Prop):=ap (e6 [.Z 0, .str [], .Z 0, .int .u64 0, .zF, .zF, .Z 0] [(0,1, .Z b9),(dl,1,hT)]) z
abbrev vz(aX:cV)(M)(R:aK)(ak)(aA:(Q af))(bv:Nat)(b9:bJ)(z:D->(Q af)->Nat->Prop):=cw (aX M) λb3=>aU R ak [b3] aA bv z b9
abbrev RN(dl:D)(eI:Nat)(hT:aK)(kX:(Q af))(T3:D)(z:D->(Q af)->Nat->Prop):=ap (hC 1 [.Z 0, .str [], .Z 0, .int .u64 0, .zF, .zF, .Z 0] [(0,7,dl)] eI) λb3=>Bu hT kX eI b3.1 b3.2 7 T3 z
abbrev td(aX)(M:cV)(R)(ak)(bv:aK)(b9:(Q af))(z:fB->D->Prop):=ta aX M R ak 1 λb3 bY=>ap (aP bv b9 bY) λco=>z b3 co
abbrev RO(z:D->Prop):=ap (e6 [.Z 0, .str [], .Z 0, .int .u64 0, .zF, .zF, .Z 0] []) z
abbrev JL(aX:cV)(M)(R)(z:D->Prop):=cw (aX M) λb3=>ap (bn .lss b3 (.Z R)) z
abbrev vA(aX:cV)(R)(ak:fB)(z:D->fB->Prop):=cw (aX 12) λb3=>md b3 R ak z
abbrev GW(aX:cV)(aA)(z:D->D->D->Prop):=fm aX 8 1 λb3 bY=>e4 aX λco=>ap (gy aA co b3) λcY=>z b3 bY cY
abbrev Bw(aX:D)(M:D)(R:(Q af))(ak:Nat)(bv)(b9:aK)(z:D->(Q af)->Nat->Prop):=d5 aX (s5 M) R ak λb3 bY co=>r4 aX bv b3 bY co b9 z
abbrev RP(aX:D)(M:cV)(ak:(Q af))(aA:Nat)(hT:aK)(z:D->(Q af)->Nat->Prop):=mD aX (M 0) ak aA λb3 bY co=>d5 aX (s5 b3) bY co λcY fM l0=>d5 aX (gr 4 cY) fM l0 λpE xu sn=>d5 aX (cG hT xu 3 pE) xu sn z
abbrev Ns(aX:D)(R)(z:D->Prop):=ap (oB aX (.Z 0)) λb3=>ap (bn .eql b3 (.int .u8 R)) z
abbrev DK(aX:D)(z:D->Prop):=ap (bn .geq aX (.Z 0)) z
abbrev uA(aX:D)(M:Nat)(R:aK)(ak:(Q af))(z:D->D->Nat->(Q af)->Prop):=hs aX λb3 bY=>xb M R ak b3 λco cY fM=>z bY co cY fM
abbrev JM(M:Nat)(z:(D×af)->Prop):=ap (hD [.zF, .zF, .Z 0] M) z
abbrev RQ(aX:cV)(M)(z:D->Prop):=cw (aX M) λb3=>ap (og .u64 b3) z
abbrev oP(aX:cV)(z:D->Prop):=cw (aX 4) z
abbrev Bx(aX:D)(M:fB)(z:D->fB->Prop):=ap (gm .not aX) λb3=>bk M λbY=>z b3 bY
abbrev Nt(aA:D)(bv:Nat)(z:(D×af)->Prop):=ap (hC 1 [.zF, .zF, .Z 0] [(0,3,aA)] bv) z
abbrev JN(aX:D)(M)(R:D)(ak:(Q af))(bv:aK)(z:D->(Q af)->Prop):=iP aX (gr M R) ak λb3 bY=>iP aX (aP bv bY b3) bY z
abbrev DL(aX:Nat)(M:aK)(R:(Q af))(bv:D)(z:D->Nat->(Q af)->Prop):=RG aX λb3=>nB M R aX b3.1 b3.2 2 bv z
abbrev X6(aX:D)(z:D->Prop):=ap (bn .gtr aX (.Z 0)) z
abbrev By(aX:Nat)(M:aK)(R:(Q af))(z:D->(Q af)->Nat->Prop):=RG aX λb3=>gO M R aX b3.1 b3.2 z
abbrev RR(aX:D)(M:cV)(ak:(Q af))(b9)(eI:aK)(z:D->(Q af)->Prop):=V5 aX (M 0) ak λb3 bY=>yj aX (s5 b3) bY λco cY=>yj aX (gr b9 co) cY λfM l0=>yj aX (aP eI l0 fM) l0 z
abbrev GX(aX:cV)(aA:aK)(bv:(Q af))(z:D->D->D->Prop):=fm aX 8 2 λb3 bY=>xd 3 bY λco=>kS aA bv co λcY=>z b3 co cY
abbrev JO(aX)(M:D)(z:D->Prop):=JK aX M λb3=>ap (some (D.iface 26 b3)) z
abbrev Nu(aX:cV)(ak:aK)(aA:(Q af))(z:(Q af)->Prop):=kz aX 0 1 ak aA λb3 bY co=>DF co λcY=>r8 b3 1 ak aA cY z
abbrev r9(aX:cV)(ak:aK)(aA:(Q af))(z:D->Prop):=kz aX 0 0 ak aA λ_ _ co=>z co
abbrev n9(aX:cV)(z:D->Prop):=cw (aX 5) z
abbrev GY(aX:aK)(M:(Q af))(ak:D)(z:D->Prop):=ap (c5 aX M .eql 9 true ak (.str [])) z
abbrev JP(aX:D)(M:D)(z:D->Prop):=ap (gz aX) λb3=>ap (bn .add M b3) z
abbrev DM(aX:aK)(M:(Q af))(R)(ak:D)(aA:D)(bv:fB)(z:D->fB->Prop):=ap (c5 aX M .eql R false ak aA) λb3=>bk bv λbY=>z b3 bY
abbrev qm(aX:cV)(z:D->Prop):=cw (aX 3) z
abbrev Nv(R:D)(bv:D)(z:D->Prop):=ap (e6 [.str [], .zF] [(0,1,R),(1,1,bv)]) z
abbrev X7(aX:D)(z:D->Prop):=ap (bn .eql aX (.Z 0)) z
abbrev JQ(aX:D)(z:D->Prop):=ap (bn .lss aX (.Z 0)) z
abbrev Bz(aX:cV)(M)(R:aK)(ak:(Q af))(aA)(z:D->Prop):=kR aX M R ak λb3=>g5 b3 aA R ak λ_ co=>z co
abbrev DN(aX:D)(M:fB)(z:D->fB->Prop):=ap (gz aX) λb3=>bk M λbY=>z b3 bY
abbrev te(aX:cV)(z:D->Prop):=cw (aX 1) z
abbrev JJ(aX:aK)(R:D)(ak)(aA:(Q af))(bv:Nat)(b9:bJ)(z:D->Nat->(Q af)->Prop):=aU aX 71 [R, .str [ak]] aA bv (λb3 bY co=>uA b3 co aX bY λcY _ l0 pE=>z cY l0 pE) b9
def Jp(a:aK)(b:bJ):fB:=λc d e=>n0 a [.cell 2 23, .cell 3 26] b c c.bh d e
def MI(a:aK)(b c:bJ):tm:=λd e f g=>wR a [.cell 2 23, .cell 3 26] b c d e d.bh f g
def abi(a:aK)(b:D)(c:Q af)(d:Nat)(e f:bJ):Prop:=
 ap (hD [.cJ] d) λg=>gO a c d g.1 g.2 λc d g=>By g a d λd g h=>aU a 22 [b] g h (λg h i=>hs g λg j=>ap (gq a h 2 d j) λh=>xc d a h 0 λj=>bk (λb c d=>fm b 2 3 λg h=>Ku (.func (.func 23) [] [g,h]) [] b λb=>oP b λg=>ap (e6 [.aV, .Z 0] [(0,1,g)]) λg=>ha a c d g λc d g=>aU a 24 [c] d g (λc d g=>cw (b 2) λh=>ql a d h c λc=>kR b 2 a c λd=>aU a 25 [d] c g (λ_ c d=>kR b 2 a c λf=>DI λg=>cw (b 2) λh=>ql a c h f λc=>qm b λf=>ap (gq a c 2 f g) λc=>Jp a e b c d) (MI a e f (h5 [19,20] b))) (MI a e f (h5 [15,16,17,18] b))) λf=>aR j (fb (i+3) λf=>lg a h d λi=>ap (gq a h 1 c .cJ) λh=>lg a h d λk=>gb k (some i) (ap (gq a h 2 d i) λh=>Jp a e (zC (cP [b]) 2 c 3 d 4 g 12 j) h f)) (f (zC (cP [b]) 2 c 3 d 4 g 12 j) h i)) (MI a e f (h5 [6,7,5,8,9,4] (zA (cP [b]) 2 c 3 d)))
def anX:B7 X 6 [a0] h j ah av=abi X a0 h j ah av:=Zk
def anW:cQ X 6 1=true:=Zk
def R5(a:aK)(b c:D)(d:Option D)(e:Q af)(f:Nat)(g:Bool->Q af->Nat->Prop):Prop:=
 Jo (some d) (cP [b,c]) λb c=>bk (λa b c=>g a.rc b c) λd=>ap (c5 a e .eql 20 true b .nilIface) λg=>bk d λd=>aR g (d (zA c 5 b 7 g) e f) (ap (Hk 26 (.agg [.Z 0, .Z 0]) true b) λh=>ap (n8 1 h) λi=>ap (n8 0 h) λh=>bk d λd=>aR i (DL f a e h λe f j=>fb (f+3) λf=>lg a j e λk=>e4 c λl=>ap (gq a j 1 l .cJ) λj=>lg a j e λl=>gb l (some k) (te c λl=>ap (gq a j 2 l k) λa=>d (Z (zC c 5 b 7 g 9 i 10 h) 3 e) a f)) (wS (λ_ _ _=>False) b e f))
def aaH(X:cl)(a0 bb:D)(ka:Option D)(h:Q af)(j:Nat)(ah:Bool->Q af->Nat->Prop):Ak X 23 [a0,bb] ka h j ah=R5 X a0 bb ka h j ah:=Zk
def R6:cQ X 23 2=true:=Zk
def aaI(a:aK)(b:D)(c:Q af)(d:Nat)(e f:bJ):Prop:=
 ap (e6 [.aV] []) λg=>ha a c d g λc d g=>bk (λa b c=>qm a λa=>e a b c) λe=>e2 (λb c d g=>oP c λh=>bk (λc d e=>bk (λc d e=>e4 c λg=>aU a 44 [g] d e (λa d e=>ap (ss false 0 1 a) λa=>ap (bn .neq a (.Z 7)) λa=>b (Z c 4 a) d e) f) λb=>fb (e+12) λg=>fm c 3 3 λh i=>g5 i 0 a d λi j=>e4 c λk=>aU a 45 [k] d g (λd f g=>ap (hC 1 [.str [], .Z 0, .aV, .aV, .aV, .aV] [(0,6,d)] (e+7)) λd=>mE a f (e+7) d.1 d.2 λd e=>ap (aP a e i) λf=>gb f (some j) (h0 (jC a e g 6 j d) e g λd e f=>r8 h 0 a e d λa=>b c a f)) f) λa=>aR h (a (Z c 7 h) d g) (e (Z c 7 h) d g)) (zB (cP [b]) 2 .cJ 3 c 4 .zT) d g
def amx:c2 X 24 [a0] h j ah av=aaI X a0 h j ah av:=Zk
def amw:cQ X 24 1=true:=Zk
def aaJ(a:aK)(b:D)(c:Q af)(d:Nat)(e f:bJ):Prop:=
 g5 b 0 a c λ_ g=>ap (gz g) λg=>ap (bn .gtr g (.Z 64)) λg=>bk (λb c d=>r9 b a c λg=>hO g (λ_ a b=>e (.tuple []) a b) λe h=>e2 (λb c d e=>gW c 26 25 λg=>bk (λc d e=>ta (λa c d=>ge a 26 λe=>b (Z a 26 e) c d) c 24 26 6 λb g=>DC a d g e λd e g=>e0 2 d a g λ_ h=>ap (gz h) λh=>e0 3 d a g λ_ i=>JP i h λh=>e0 4 d a g λ_ i=>JP i h λh=>ap (bn .gtr h (.Z 256)) λh=>r3 h 5 d g e a λe g i=>eU h (gz e) g i λe g i=>eU h (bn .gtr e (.Z 4096)) g i λe g i=>cS (λe=>bk (λc d e=>ic c 3 5 a d λ_ g=>DN g b λb h=>e2 (λb c d e=>gW c 55 54 λg=>bk (λc d e=>ta (λa c d=>ge a 55 λe=>b (Z a 55 e) c d) c 53 55 4 λb g=>DD a d g e λd e g=>e0 3 d a g λ_ h=>aU a 46 [h] g e (λe g h=>ap (bn .gtr e (.Z 200)) λe=>bk b λb=>aR e (e0 2 d a g λ_ a=>JO 22 a λa=>wS f a g h) (b (zA c 5 d 62 e) g h)) f) λa=>aR g (a (Z c 56 g) d e) (h (Z c 56 g) d e)) (zB c 53 g 54 b 55 (.Z 0)) d e) λb=>aR e (e0 1 d a g λ_ a=>JO 30 a λa=>wS f a g i) (b (zA c 3 d 47 e) g i)) λa=>aR h (a .zT) (a e)) λa=>aR g (a (Z c 27 g) d e) (h (Z c 27 g) d e)) (zB b 24 g 25 e 26 (.Z 0)) c d) λe=>aR g (g5 b 0 a c λ_ b=>ap (gy 6 b (.Z 64)) λb=>e0 1 b a c λ_ a=>JO 30 a λa=>wS f a c d) (e (Z (cP [b]) 11 g) c d)
def amz:c2 X 25 [a0] h j ah av=aaJ X a0 h j ah av:=Zk
def amy:cQ X 25 1=true:=Zk
def aa1(a:aK)(b:D)(c:Q af)(d:Nat)(e _:bJ):Prop:=
 yP d a c λc d f=>fb (f+11) λf=>g5 b 0 a d λ_ g=>g5 b 1 a d λ_ b=>ap (gy 7 g b) λb=>ap (cG a d 7 b) λb=>r6 a d 7 c b λa b=>e b a f
def am7:c2 X 44 [a0] h j ah av=aa1 X a0 h j ah av:=Zk
def am6:cQ X 44 1=true:=Zk
def aa2(a:aK)(b:D)(c:Q af)(d:Nat)(e f:bJ):Prop:=
 ap (hD [.str [], .Z 0, .aV, .aV, .aV, .aV] d) λg=>gO a c d g.1 g.2 λc d g=>ap (hC 1 [.str []] [(0,1, .str [110,111,100,101])] g) λh=>gO a d g h.1 h.2 λd g h=>aU a 69 [b,d] g h (λ_ d g=>aU a 70 [b, .Z 1] d g (λd g h=>xb h a g d λd g h=>e0 1 d a h λ_ i=>e0 2 d a h λ_ j=>ap (e6 [.str [], .Z 0, .aV, .aV, .aV, .aV] [(0,1,i),(1,1,j)]) λi=>ap (hD [.str [], .Z 0, .aV, .aV, .aV, .aV] g) λj=>nB a h g j.1 j.2 6 i λg h i=>s9 40 h a i b f λ_ h i=>JJ a b 41 h i f λh i j=>ap (gm .not h) λk=>bk (λb c d=>e4 b λg=>ap (hC 2 [.str [], .str []] [(0,1, .str [114,101,116,117,114,110,115]),(1,1, .str [40])] d) λh=>gO a c d h.1 h.2 λc d h=>aU a 69 [g,c] d h (λ_ c d=>e4 b λg=>aU a 72 [g, .zF] c d (λc d g=>oP b λh=>tc 3 h a d c λc=>e4 b λd=>s9 41 g a c d f λ_ c d=>e4 b λg=>aU a 71 [g, .str [118,97,114]] c d (λc d g=>uA c g a d λc _ d g=>bk (λb c d=>e4 b λg=>ap (hC 1 [.str []] [(0,1, .str [108,101,116])] d) λh=>gO a c d h.1 h.2 λc d h=>aU a 69 [g,c] d h (λ_ c d=>bk (λb c d=>lY b 2 a c 6 λa=>e a c d) λ_=>e2 (λb c d g=>bk b λb=>e4 c λh=>aU a 71 [h, .str [116,101,108]] d g (λd g h=>uA d h a g λd _ g h=>bk (λc d e=>fb (e+8) λg=>ic c 4 5 a d λh i=>e4 c λj=>aU a 73 [j] d g (λd f g=>ap (hC 1 [.aV, .aV, .Z 0, .cJ] [(0,4,d)] (e+4)) λd=>mE a f (e+4) d.1 d.2 λd e=>ap (aP a e h) λf=>gb f (some i) (h0 (jC a e g 4 i d) e g λd e f=>oP c λg=>tc 5 g a e d λa=>b c a f)) f) λb=>aR d (lY c 4 a h 6 λb=>jy c 2 a h 6 b λa b=>e b a g) (b (zA c 10 d 66 d) h g)) f) b c d) f) λe=>aR c (e4 b λh=>aU a 72 [h, .zT] g d (λd g h=>oP b λi=>tc 4 i a g d λd=>e4 b λg=>s9 59 h a d g f λ_ a d=>e (zA b 8 c 51 c) a d) f) (e (zA b 8 c 51 c) g d)) f) f) f) λe=>aR k (aU a 72 [b, .zF] j i (λi j l=>tc 2 g a j i λi=>s9 41 l a i b f λ_ a f=>e (Z (zC (cP [b]) 2 c 3 d 4 g 6 h) 30 k) a f) f) (e (Z (zC (cP [b]) 2 c 3 d 4 g 6 h) 30 k) j i)) f) f
def am9:c2 X 45 [a0] h j ah av=aa2 X a0 h j ah av:=Zk
def am8:cQ X 45 1=true:=Zk
def abs(a:aK)(b c:D)(d:Q af)(e:Nat)(f g:bJ):Prop:=
 yP e a d λd e h=>yP h a e λe h i=>hO c (λb c d=>lY b 5 a c 7 λe=>jy b 4 a c 7 e λa b=>f b a d) λf j=>e2 (λb c d e=>gW c 11 10 λf=>bk (λc d e=>td (λa c d=>ge a 11 λe=>b (Z a 11 e) c d) c 9 11 a d λb f=>e4 c λh=>aU a 71 [h,f] d e (λd e h=>hs d λd i=>n9 c λj=>ap (gq a e 7 j d) λd=>Bx i b λb e=>aR b (e4 c λj=>aU a 44 [j] d h (λd h j=>aU a 93 [d] h j (λ_ a d=>e (zC c 7 f 8 .zF 8 i 22 b) a d) g) g) (e (zC c 7 f 8 .zF 8 i 22 b) d h)) g) λa=>aR f (a (Z c 12 f) d e) (j (Z c 12 f) d e)) (Z (zC (cP [b,c]) 4 d 5 e 9 c 10 f) 11 (.Z 0)) h i
def anV:c2 X 69 [a0,bb] h j ah av=abs X a0 bb h j ah av:=Zk
def anU:cQ X 69 2=true:=Zk
def abt(a:aK)(b c:D)(d:Q af)(e:Nat)(f g:bJ):Prop:=
 yP e a d λd e h=>aU a 44 [b] e h (λe h i=>xb i a h e λe h i=>jj e a i λj=>ap (bn .neq j c) λj=>bk (λb c d=>Nu b a c λc=>lY b 5 a c 7 λe=>jy b 4 a c 7 e λa b=>f b a d) λf=>aR j (r5 a i 7 e 93 h g λ_ a g=>f (zB (cP [b,c]) 4 d 5 e 11 j) a g) (f (zB (cP [b,c]) 4 d 5 e 11 j) i h)) g
def anZ:c2 X 70 [a0,bb] h j ah av=abt X a0 bb h j ah av:=Zk
def anY:cQ X 70 2=true:=Zk
def Sa(a:aK)(b c:D)(d:Q af)(e:Nat)(f g:bJ):Prop:=
 yP e a d λd e h=>aU a 44 [b] e h (λe g h=>xb h a g e λe g h=>xc e a h 2 λi=>r4 i 0 e h g a λg h j=>d5 i (bn .neq g (.Z 6)) h j λg h j=>cS (λg=>r3 g 1 e h j a λh i j=>hf g c i j λi j k=>eU g (c5 a j .neq 9 false h i) j k λh i j=>cS (λg=>bk (λb c d=>Nu b a c λc=>lY b 6 a c 7 λe=>jy b 4 a c 7 e λa b=>f (.tuple [b, .zT]) a d) λh=>aR g (RO λb=>r6 a i 7 d b λa b=>f (.tuple [b, .zF]) a j) (h (zC (cP [b,c]) 4 d 5 .zF 6 e 22 g) i j)) λa=>aR g (a .zT) (a h)) λa=>aR i (a g) (a .zF)) g
def abv:c2 X 71 [a0,bb] h j ah av=Sa X a0 bb h j ah av:=Zk
def abu:cQ X 71 2=true:=Zk
def abw(a:aK)(b c:D)(d:Q af)(e:Nat)(f g:bJ):Prop:=
 bk (λa b c=>oP a λa=>f a b c) λ_=>e2 (λb c d e=>bk b λb=>bk (λc d e=>e4 c λh=>s9 58 e a d h g λ_ d e=>e4 c λh=>aU a 70 [h, .Z 3] d e (λd e h=>ap (ss true 4 3 d) λd=>ap (e6 [.str [], .Z 0, .zF, .zF, .Z 0, .str [], .Z 0, .zF] [(2,3,d)]) λd=>ap (hD [.str [], .Z 0, .zF, .zF, .Z 0, .str [], .Z 0, .zF] h) λi=>nB a e h i.1 i.2 8 d λd e h=>e4 c λi=>aU a 71 [i, .str [119,104,101,110]] h e (λe h i=>uA e i a h λe _ h i=>bk (λc d e=>cw (c 6) λh=>hO h (λc d e=>fb (e+22) λe=>e4 c λh=>aU a 44 [h] d e (λd e g=>ap (ss false 1 1 d) λd=>ap (c5 a e .neq 9 true d (.str [59])) λd=>V5 d (c 1) e λe h=>P8 d e h λe h=>DE e c 0 h 0 a λh i=>DE e c 0 i 1 a λi j=>iP e (bn .add i (.Z 1)) j λi j=>iP e (gy 7 h i) j λh i=>JN e 1 h i a λh i=>iP e (c5 a i .eql 9 true h (.str [108,101,116])) i λh i=>P7 d (λa=>cS (λb=>a b i) λa=>aR e (a h) (a .zF)) i λe h=>cS (λd=>bk (λc d e=>Nu c a d λa=>b c a e) λa=>aR d (n9 c λa=>f a h g) (a (Z c 90 d) h g)) λa=>aR d (a .zT) (a e)) g) λb f=>e2 (λb c d e=>gW c 54 53 λg=>bk (λc d e=>ta (λa c d=>ge a 54 λe=>b (Z a 54 e) c d) c 52 54 7 λb f=>ap (cG a d 7 f) λf=>xb e a d f λd e f=>fb (e+8) λe=>e0 1 d a f λ_ g=>e0 2 d a f λh i=>cw (c 8) λj=>tc 0 j a f g λf=>cw (c 8) λg=>ap (gr 1 g) λg=>ap (aP a f h) λh=>gb h (some i) (ql a f g i λf=>fm c 5 8 λg h=>ap (cG a f 8 h) λh=>ap (hC 1 [.str [], .Z 0, .zF, .zF, .Z 0, .str [], .Z 0, .zF] [(0,8,h)] e) λh=>Bu a f e h.1 h.2 8 g λa e f=>b (zA c 13 d 5 a) e f)) λa=>aR g (a (Z c 55 g) d e) (f (Z c 55 g) d e)) (zB c 52 h 53 b 54 (.Z 0)) d e) λb=>aR e (e4 c λf=>aU a 71 [f, .str [110,111,116]] i h (λf h i=>hs f λ_ f=>tc 7 d a h f λf=>e4 c λh=>aU a 70 [h, .Z 1] f i (λf g h=>xb h a g f λf g h=>fb (g+8) λg=>e0 1 f a h λ_ i=>e0 2 f a h λj k=>tc 5 d a h i λh=>ap (gr 6 d) λi=>ap (aP a h j) λj=>gb j (some k) (ql a h i k λa=>b (zC c 8 d 10 e 37 e 11 f) a g)) g) g) (b (zB c 8 d 10 e 37 e) i h)) g) g) λb=>e2 (λc d e f=>cw (d 7) λh=>bk (λb d e=>bk (λb d e=>e4 b λf=>aU a 71 [f, .str [44]] d e (λa d e=>hs a λ_ a=>c (Z b 7 a) d e) g) λc=>fm b 6 0 λf h=>aU a 70 [h, .Z 1] d e (λd e g=>RN d g a e f λa d e=>c (Z b 6 a) d e) g) λa=>aR h (a (Z d 14 h) e f) (b (Z d 14 h) e f)) (zA c 6 .aV 7 .zT) d e) (zA (cP [b,c]) 4 .aV 5 .aV) d e
def an1:c2 X 72 [a0,bb] h j ah av=abw X a0 bb h j ah av:=Zk
def an0:cQ X 72 2=true:=Zk
def abx(a:aK)(b:D)(c:Q af)(d:Nat)(e f:bJ):Prop:=
 ha a c d b λc d g=>ap (hD [.aV, .aV, .Z 0, .cJ] g) λh=>gO a d g h.1 h.2 λd g h=>ap (hD [.aV, .aV, .Z 0, .cJ] h) λi=>gO a g h i.1 i.2 λg h i=>ap (aP a h c) λj=>JJ a j 40 h i f λh i j=>bk (λb c d=>kR b 1 a c λg=>s9 61 d a c g f λc d g=>ap (ss false 2 1 c) λc=>qm b λh=>tc 2 h a d c λc=>kR b 1 a c λd=>aU a 95 [d] c g (λc d g=>qm b λh=>tc 3 h a d c λc=>kR b 1 a c λd=>s9 59 g a c d f λ_ c d=>lY b 3 a c 4 λf=>jy b 2 a c 4 f λa b=>e b a d) f) λe=>aR h (jq a (.func (.func 94) [] [c,g]) [] j i (λ_ i j=>ap (aP a i c) λk=>s9 44 j a i k f λ_ i j=>bk (λb c d=>kR b 1 a c λg=>s9 41 d a c g f λ_ a c=>e b a c) λe=>e2 (λb c d g=>cw (c 7) λh=>bk (λc d e=>bk (λc d e=>kR c 1 a d λg=>aU a 71 [g, .str [44]] d e (λa d e=>hs a λ_ a=>b (Z c 7 a) d e) f) λb=>oP c λg=>jq a g [] d e (λ_ a d=>b c a d) f) λa=>aR h (a (Z c 20 h) d g) (e (Z c 20 h) d g)) (zB (zC (cP [b]) 1 c 2 d 3 g 4 (.func (.func 94) [] [c,g])) 6 h 14 h 7 .zT) i j) f) (jq a (.func (.func 94) [] [c,g]) [] j i (λ_ a f=>e (zA (zC (cP [b]) 1 c 2 d 3 g 4 (.func (.func 94) [] [c,g])) 6 h 14 h) a f) f)
def an3:c2 X 73 [a0] h j ah av=abx X a0 h j ah av:=Zk
def an2:cQ X 73 1=true:=Zk
def abV(a:aK)(b:D)(c:Q af)(d:Nat)(_ e:bJ):Prop:=
 ha a c d b λb c d=>e0 2 b a c λ_ a=>JO 21 a λa=>wS e a c d
def aoF:c2 X 93 [a0] h j ah av=abV X a0 h j ah av:=Zk
def aoE:cQ X 93 1=true:=Zk
def abW(a:aK)(b c:D)(d:Q af)(e:Nat)(f g:bJ):Prop:=
 ap (aP a d b) λb=>aU a 70 [b, .Z 1] d e (λb d e=>xb e a d b λb d e=>fb (d+16) λg=>jj c a e λh=>e0 1 b a e λ_ i=>ap (hC 1 [.str []] [(0,1,i)] (d+4)) λi=>mE a e (d+4) i.1 i.2 λe i=>e0 1 c a i λj k=>e0 2 b a i λb l=>ap (hC 1 [.Z 0] [(0,1,l)] (d+10)) λm=>mE a i (d+10) m.1 m.2 λd i=>h0 (jC a i g 1 h e) i g λe g h=>ap (gr 0 c) λi=>ap (aP a g j) λj=>gb j (some k) (ap (aP a g b) λb=>gb b (some l) (h0 (jC a g h 1 k d) g h λb d g=>ql a d i e λd=>tc 1 c a d b λa=>f (.tuple []) a g))) g
def aoH:c2 X 94 [a0,bb] h j ah av=abW X a0 bb h j ah av:=Zk
def aoG:cQ X 94 2=true:=Zk
def abX(a:aK)(b:D)(c:Q af)(d:Nat)(e f:bJ):Prop:=
 aU a 118 [b] c d (λc d g=>aU a 71 [b, .str [45,62]] d g (λd g h=>uA d h a g λd g h i=>ap (gm .not d) λj=>bk (λb c d=>fb (d+9) λg=>ic b 4 2 a c λh i=>fm b 3 0 λb j=>aU a 95 [j] c g (λc f g=>ap (hC 2 [.cJ, .cJ] [(0,1,b),(1,1,c)] (d+5)) λb=>mE a f (d+5) b.1 b.2 λb c=>ap (e6 [.Z 0, .Z 0, .str [], .zF, .zF, .zF, .Z 0, .int .u64 0, .aV] [(0,1, .Z 22),(1,1,i),(8,1,b)]) λb=>y6 a c (d+7) b λb c=>ap (aP a c h) λa=>gb a (some i) (e b c g)) f) λa=>aR j (e c i h) (a (Z (zC (cP [b]) 2 .cJ 3 c 4 g 5 d) 14 j) i h)) f) f
def aoJ:c2 X 95 [a0] h j ah av=abX X a0 h j ah av:=Zk
def aoI:cQ X 95 1=true:=Zk
def ω(a:aK)(b:D)(c:Q af)(d:Nat)(e f:bJ):Prop:=
 aU a 133 [b, .Z 0] c d (λc d g=>aU a 71 [b, .str [102,98,121]] d g (λd g h=>uA d h a g λd g h i=>ap (gm .not d) λj=>bk (λb c d=>kz b 3 0 a c λ_ _ g=>ap (bn .neq g (.Z 1)) λg=>mD g (b 3) c d λc d h=>Bw g c d h 0 a λc d h=>d5 g (bn .neq c (.Z 4)) d h λc d h=>js g c d h λc d h=>sM c (b 3) d h λd h i=>xe c d h i 8 a λd h i=>eU c (gy 1 d (.Z 0)) h i λd h i=>eU c (aP a h d) h i λd h i=>xe c d h i 0 a λd h i=>eU c (bn .neq d (.Z 1)) h i λd h i=>iQ g (λa=>cS (λb=>a b h i) λa=>aR c (a .zT) (a d)) h i λc d h=>cS (λc=>bk (λb c d=>fb (d+9) λg=>ic b 4 2 a c λh i=>fm b 3 0 λb j=>aU a 118 [j] c g (λc f g=>ap (hC 2 [.cJ, .cJ] [(0,1,b),(1,1,c)] (d+5)) λb=>mE a f (d+5) b.1 b.2 λb c=>ap (e6 [.Z 0, .Z 0, .str [], .zF, .zF, .zF, .Z 0, .int .u64 0, .aV] [(0,1, .Z 21),(1,1,i),(8,1,b)]) λb=>y6 a c (d+7) b λb c=>ap (aP a c h) λa=>gb a (some i) (e b c g)) f) λe=>aR c (lY b 4 a d 7 λg=>aU a 93 [g] d h (λ_ a d=>e (Z b 39 c) a d) f) (e (Z b 39 c) d h)) λa=>aR g (a c) (a .zF)) λa=>aR j (e c i h) (a (Z (zC (cP [b]) 2 .cJ 3 c 4 g 5 d) 14 j) i h)) f) f
def alp:c2 X 118 [a0] h j ah av=ω X a0 h j ah av:=Zk
def alo:cQ X 118 1=true:=Zk
def aao(a:aK)(b c:D)(d:Q af)(e:Nat)(f g:bJ):Prop:=
 ap (bn .eql c (.Z 5)) λh=>bk (λb c d=>fm b 0 1 λe h=>DF h λh=>aU a 133 [e,h] c d (λc d e=>bk (λa b c=>oP a λa=>f a b c) λ_=>e2 (λb c d e=>bk b λb=>fm c 0 1 λh i=>aU a 141 [h,i] d e (λd e h=>hs d λd i=>ap (gm .not i) λj=>bk (λc d e=>fm c 6 5 λh i=>fm c 0 1 λj k=>DF k λk=>aU a 133 [j,k] d e (λd e g=>ap (hC 2 [.cJ, .cJ] [(0,1,i),(1,1,d)] g) λd=>gO a e g d.1 d.2 λd e g=>r8 h 8 a e d λa=>fm c 6 1 λd e=>md e 2 b λb e=>aR b (f d a g) (e (zA c 5 d 36 b) a g)) g) λa=>aR j (n9 c λa=>f a e h) (a (zB c 6 d 7 i 23 j) e h)) g) (Z b 5 c) d e) g) λi=>aR h (aU a 140 [b] d e f g) (i (zA (cP [b,c]) 4 .cJ 9 h) d e)
def alT:c2 X 133 [a0,bb] h j ah av=aao X a0 bb h j ah av:=Zk
def alS:cQ X 133 2=true:=Zk
def aaw(a:aK)(b:D)(c:Q af)(d:Nat)(e f:bJ):Prop:=
 aU a 147 [b] c d (λc d g=>bk (λa b c=>cw (a 2) λa=>e a b c) λ_=>e2 (λb c d g=>bk b λb=>e4 c λh=>aU a 71 [h, .str [60,60]] d g (λd g h=>uA d h a g λd g h i=>ap (gm .not d) λj=>bk (λc d g=>cw (c 6) λh=>ap (gm .not h) λh=>bk (λc d e=>e4 c λg=>aU a 70 [g, .Z 4] d e (λd e g=>xb g a e d λd e g=>e0 3 d a g λ_ h=>ap (bn .gtr h (.int .u64 63)) λh=>bk (λc d e=>fm c 4 5 λf g=>e0 2 g a d λ_ g=>ic c 7 3 a d λ_ h=>qm c λi=>ap (hC 1 [.cJ] [(0,1,i)] e) λi=>gO a d e i.1 i.2 λd e i=>ap (e6 [.Z 0, .Z 0, .str [], .zF, .zF, .zF, .Z 0, .int .u64 0, .aV] [(0,1,f),(1,1,g),(7,1,h),(8,1,d)]) λd=>ha a e i d λa d e=>b (Z c 3 a) d e) λb=>aR h (r5 a g 7 d 93 e f λ_ a e=>b (zA c 7 d 29 h) a e) (b (zA c 7 d 29 h) g e)) f) λa=>aR h (qm c λa=>e a d g) (a (Z c 23 h) d g)) λb=>aR j (e4 c λe=>aU a 71 [e, .str [62,62]] i h (λe f h=>hs e λe i=>ap (gq a f 7 g e) λa=>b (zA (zC c 4 (.Z 19) 5 g 6 d 16 j) 4 (.Z 20) 6 i) a h) f) (b (zC c 4 (.Z 19) 5 g 6 d 16 j) i h)) f) (zA (cP [b]) 2 .cJ 3 c) d g) f
def al9:c2 X 140 [a0] h j ah av=aaw X a0 h j ah av:=Zk
def al8:cQ X 140 1=true:=Zk
def aax(a:aK)(b c:D)(d:Q af)(e:Nat)(f g:bJ):Prop:=
 ap (IL 5 1 (.ptr 8 0) c) λh=>ap (aP a d h) λh=>hO h (λ_ a b=>f (.tuple [.cJ, .zF]) a b) λi j=>e2 (λb c d e=>gW c 14 13 λh=>bk (λc d e=>ta (λa c d=>ge a 14 λe=>b (Z a 14 e) c d) c 12 14 2 λb h=>lg a d h λh=>ap (hD [.str [], .Z 0] e) λi=>nB a d e i.1 i.2 2 h λd e h=>e4 c λi=>jj d a h λj=>aU a 71 [i,j] h e (λe g h=>uA e h a g λe g h i=>bk b λb=>aR e (e0 1 d a i λ_ b=>e0 2 g a i λ_ c=>ap (e6 [.Z 0, .Z 0, .str [], .zF, .zF, .zF, .Z 0, .int .u64 0, .aV] [(0,1,b),(1,1,c)]) λb=>ha a i h b λa b c=>f (.tuple [a, .zT]) b c) (b (zC c 7 d 8 g 9 e 25 e) i h)) g) λa=>aR h (a (Z c 15 h) d e) (j (Z c 15 h) d e)) (Z (zC (cP [b,c]) 4 .cJ 5 .zF 12 h 13 i) 14 (.Z 0)) d e
def amb:c2 X 141 [a0,bb] h j ah av=aax X a0 bb h j ah av:=Zk
def ama:cQ X 141 2=true:=Zk
def aaA(a:aK)(b:D)(c:Q af)(d:Nat)(e f:bJ):Prop:=
 ap (e6 [.str [], .Z 0] [(0,1, .str [110,111,116]),(1,1, .Z 3)]) λg=>ap (e6 [.str [], .Z 0] [(0,1, .str [45]),(1,1, .Z 4)]) λh=>ap (e6 [.str [], .Z 0] [(0,1, .str [112,114,101]),(1,1, .Z 5)]) λi=>ap (e6 [.str [], .Z 0, .str [], .Z 0, .str [], .Z 0] [(0,2,g),(2,2,h),(4,2,i)]) λg=>bk (λb c d=>e4 b λg=>aU a 153 [g] c d (λc d g=>bk (λa b c=>cw (a 2) λa=>e a b c) λ_=>e2 (λb c d g=>bk b λb=>e4 c λh=>aU a 71 [h, .str [119,104,101,110]] d g (λd g h=>uA d h a g λd g h i=>ap (gm .not d) λj=>bk (λc d e=>e4 c λg=>aU a 71 [g, .str [110,111,116]] d e (λd e g=>uA d g a e λd _ e g=>fb (e+11) λh=>ic c 8 2 a g λi j=>fm c 0 7 λk l=>ap (hC 1 [.cJ] [(0,1,l)] (e+7)) λl=>mE a g (e+7) l.1 l.2 λg l=>aU a 70 [k, .Z 1] l h (λf h k=>ap (ss false 1 1 f) λf=>ap (e6 [.Z 0, .Z 0, .str [], .zF, .zF, .zF, .Z 0, .int .u64 0, .aV] [(0,1, .Z 6),(1,1,j),(2,1,f),(3,1,d),(8,1,g)]) λf=>y6 a h (e+9) f λe f=>ap (aP a f i) λa=>gb a (some j) (b (zA c 11 d 7 e) f k)) f) f) λa=>aR j (cw (c 7) λa=>e a i h) (a (zB c 8 g 9 d 45 j) i h)) f) (Z b 7 c) d g) f) λh=>e2 (λb c d g=>JL c 16 3 λi=>bk (λc d g=>bk (λa c d=>ge a 16 λe=>b (Z a 16 e) c d) λb=>fm c 15 16 λh i=>ap (va true 3 2 h i) λh=>ap (hD [.str [], .Z 0] g) λi=>nB a d g i.1 i.2 2 h λd g h=>e4 c λi=>jj d a h λj=>aU a 71 [i,j] h g (λg h i=>uA g i a h λg h i j=>bk b λb=>aR g (fb (i+10) λb=>e0 1 d a j λd g=>e0 2 h a j λh k=>e4 c λc=>aU a 147 [c] j b (λb c f=>ap (hC 1 [.cJ] [(0,1,b)] (i+6)) λb=>mE a c (i+6) b.1 b.2 λb c=>ap (e6 [.Z 0, .Z 0, .str [], .zF, .zF, .zF, .Z 0, .int .u64 0, .aV] [(0,1,g),(1,1,k),(8,1,b)]) λb=>y6 a c (i+8) b λb c=>ap (aP a c d) λd=>gb d (some g) (ap (aP a c h) λa=>gb a (some k) (e b c f))) f) (b (zC c 4 d 5 h 6 g 26 g) j i)) f) λa=>aR i (a (Z c 17 i) d g) (h (Z c 17 i) d g)) (zB (cP [b]) 2 .cJ 15 g 16 (.Z 0)) c d
def amh:c2 X 147 [a0] h j ah av=aaA X a0 h j ah av:=Zk
def amg:cQ X 147 1=true:=Zk
def yW(a:aK)(b:D)(c:Q af)(d:Nat)(e f:bJ):Prop:=
 aU a 44 [b] c d (λc d g=>xb g a d c λc d g=>e0 2 c a g λ_ h=>ap (e6 [.Z 0, .Z 0, .str [], .zF, .zF, .zF, .Z 0, .int .u64 0, .aV] [(1,1,h)]) λh=>ha a g d h λd g h=>g5 b 1 a g λ_ i=>DF i λi=>r8 b 1 a g i λg=>bk (λa b c=>oP a λa=>e a b c) λe=>jj c a g λi=>md i 5 e λe i=>aR e (fb (h+16) λf=>ap (gr 4 c) λh=>kS a g h λj=>e0 3 c a g λk l=>lx d 0 λm=>r7 a g m 1 λg=>lx d 4 λm=>kS a g h λh=>gb h (some j) (ap (aP a g k) λh=>gb h (some l) (ap (gq a g 3 m j) λg=>lx d 7 λh=>ap (aP a g k) λj=>gb j (some l) (ql a g h l λa=>i (zC (cP [b]) 2 .cJ 3 c 4 d 29 e) a f)))) (DJ c a g 2 λj=>r4 j 1 c g h a λg h k=>d5 j (c5 a h .eql 9 true g (.str [116,114,117,101])) h k λg h k=>js j g h k λg h k=>r3 g 1 c h k a λh k l=>eU g (c5 a k .eql 9 true h (.str [102,97,108,115,101])) k l λh k l=>iQ j (λa=>cS (λb=>a b k l) λa=>aR g (a .zT) (a h)) k l λg h k=>cS (λg=>bk i λi=>aR g (ap (e6 [.zF, .zF, .Z 0] [(0,1, .zT),(2,1, .Z 1)]) λf=>lx d 0 λj=>r7 a h j 1 λh=>lx d 4 λj=>ap (gq a h 3 j f) λf=>e0 1 c a f λ_ h=>ap (c5 a f .eql 9 true h (.str [116,114,117,101])) λh=>bk i λi=>aR h (lx d 7 λj=>ap (gq a f 1 j (.int .u64 1)) λa=>i (zA (zC (cP [b]) 2 .cJ 3 c 4 d 29 e) 46 g 69 h) a k) (i (zA (zC (cP [b]) 2 .cJ 3 c 4 d 29 e) 46 g 69 h) f k)) (jj c a h λj=>md j 1 i λi j=>aR i (fb (k+10) λk=>e0 1 c a h λl m=>lx d 0 λn=>r7 a h n 2 λh=>lx d 2 λn=>ap (aP a h l) λl=>gb l (some m) (ql a h n m λh=>JJ a b 40 h k f λh k l=>bk j λj=>aR h (aU a 156 [b] l k (λf k l=>lx d 0 λm=>r7 a k m 25 λk=>r8 d 8 a k f λa=>j (zC (zC (cP [b]) 2 .cJ 3 c 4 d 29 e) 46 g 73 i 6 h 90 h) a l) f) (j (zC (zC (cP [b]) 2 .cJ 3 c 4 d 29 e) 46 g 73 i 6 h 90 h) l k))) (jj c a h λl=>md l 3 j λj l=>aR j (fb (k+10) λk=>ap (gr 4 c) λm=>kS a h m λn=>lx d 0 λo=>r7 a h o 26 λh=>lx d 4 λo=>kS a h m λm=>gb m (some n) (ap (gq a h 3 o n) λh=>s9 40 k a h b f λ_ h k=>aU a 95 [b] h k (λh k m=>ap (hC 1 [.cJ] [(0,1,h)] m) λh=>gO a k m h.1 h.2 λh k m=>r8 d 8 a k h λh=>s9 41 m a h b f λ_ a f=>l (zB (zC (cP [b]) 2 .cJ 3 c 4 d 29 e) 46 g 73 i 99 j) a f) f)) (DJ c a h 6 λm=>r4 m 1 c h k a λh k n=>d5 m (c5 a k .eql 9 true h (.str [40])) k n λh k n=>cS (λh=>bk l λl=>aR h (aU a 95 [b] k n (λk m n=>s9 41 n a m b f λ_ a f=>l (Z (zC (zC (cP [b]) 2 .cJ 3 c 4 d 29 e) 46 g 73 i 99 j 123 h) 4 k) a f) f) (DJ c a k 2 λm=>r4 m 1 c k n a λk n o=>d5 m (c5 a n .eql 9 true k (.str [105,102])) n o λk n o=>cS (λk=>bk l λl=>aR k (lx d 0 λm=>r7 a n m 23 λm=>RJ o d a m b f λm n o p q=>gb q (some m) (h0 (jC a p n 1 m o) p n λm n o=>r8 d 8 a n m λm=>ap (hC 1 [.str []] [(0,1, .str [116,104,101,110])] o) λn=>gO a m o n.1 n.2 λm n o=>aU a 69 [b,m] n o (λ_ m n=>RJ n d a m b f λm n o p q=>gb q (some m) (h0 (jC a p n 1 m o) p n λm n o=>r8 d 8 a n m λm=>ap (hC 1 [.str []] [(0,1, .str [101,108,115,101])] o) λn=>gO a m o n.1 n.2 λm n o=>aU a 69 [b,m] n o (λ_ m n=>RJ n d a m b f λf m n o p=>gb p (some f) (h0 (jC a o m 1 f n) o m λf m n=>r8 d 8 a m f λa=>l (Z (zC (zC (cP [b]) 2 .cJ 3 c 4 d 29 e) 46 g 73 i 99 j 123 h) 137 k) a n)) f)) f)) (DJ c a n 2 λm=>r4 m 1 c n o a λn o p=>d5 m (c5 a o .eql 9 true n (.str [109,101,114,103,101])) o p λn o p=>cS (λm=>bk l λl=>aR m (aU a 70 [b, .Z 1] o p (λn o p=>ap (ss false 1 1 n) λn=>lx d 0 λq=>r7 a o q 24 λo=>r8 d 2 a o n λn=>aU a 153 [b] n p (λn o p=>aU a 153 [b] o p (λf o p=>ap (hC 2 [.cJ, .cJ] [(0,1,n),(1,1,f)] p) λf=>gO a o p f.1 f.2 λf n o=>r8 d 8 a n f λa=>l (zA (zC (zC (cP [b]) 2 .cJ 3 c 4 d 29 e) 46 g 73 i 99 j 123 h) 137 k 188 m) a o) f) f) f) (g5 b 1 a o λ_ n=>Bs n λn=>r8 b 1 a o n λn=>r5 a n 7 c 93 p f λ_ a f=>l (zA (zC (zC (cP [b]) 2 .cJ 3 c 4 d 29 e) 46 g 73 i 99 j 123 h) 137 k 188 m) a f)) λa=>aR m (a n) (a .zF))) λa=>aR m (a k) (a .zF))) λa=>aR m (a h) (a .zF))))) λa=>aR j (a g) (a .zF))) f
def BI:c2 X 153 [a0] h j ah av=yW X a0 h j ah av:=Zk
def BH:cQ X 153 1=true:=Zk
def aaC(a:aK)(b:D)(c:Q af)(d:Nat)(e f:bJ):Prop:=
 JJ a b 41 c d f λc d g=>bk (λb c d=>e4 b λg=>aU a 95 [g] c d (λc d g=>ap (hC 1 [.cJ] [(0,1,c)] g) λc=>gO a d g c.1 c.2 λc d g=>bk (λa b c=>cw (a 2) λa=>e a b c) λ_=>e2 (λb c d g=>bk b λb=>e4 c λh=>JJ a h 44 d g f λd g h=>ap (gm .not d) λi=>bk (λc d e=>fm c 5 0 λg h=>aU a 95 [h] d e (λd e f=>ap (hC 1 [.cJ] [(0,1,d)] f) λd=>Bu a e f d.1 d.2 1 g λa d e=>b (Z c 5 a) d e) f) λb=>aR i (e4 c λb=>s9 41 g a h b f λ_ a b=>n9 c λc=>e c a b) (b (zA c 7 d 23 i) h g)) (Z b 5 c) d g) f) λa=>aR c (e .aV g d) (a (zB (cP [b]) 2 .aV 4 c 13 c) g d)
def aml:c2 X 156 [a0] h j ah av=aaC X a0 h j ah av:=Zk
def amk:cQ X 156 1=true:=Zk
end
open Go.bd Go.aT
noncomputable section
def cf(t:Tok):List D:=[.Z t.kind, .str t.text, .Z t.at_, .int .u64 t.n, .bool t.ty.b, .bool t.ty.s, .Z t.ty.w]
def jM:Nat:=3
def ayi(f:Nat):Bool:=rN f [7,129,108]
structure dj(X:cl):Prop where
 none:∀f l,ayi f=false->X.O f l=none
set_option maxRecDepth 100000 in
def zz{X:cl}(O:dj X){f:Nat}{a:List D}{S:Q af}{n:Nat}{u v:bJ}(c:cQ X f a.length=true)(h:c2 X f a S n u v)(b:ayi f=false:=by rfl):aU X f a S n u v:=cW c (O.none _ _ b) h
structure aT(X:cl)(h:Q af)(aH bP:Nat)(aW:List Tok)(i:Nat):Prop where
 at_:∃c ao,U X h aH=some (.cells c 2 .own)/\c.get 0=some ao/\c.get 1=some (.Z (i:Int))/\dL X h (λe=>e=bP) bP ao 7 (aW.map cf)
 ne:aH≠bP
def aT.aa{X:cl}{h S':Q af}{aH bP:Nat}{aW:List Tok}{i:Nat}(a:aT X h aH bP aW i)(bQ:U X S' aH=U X h aH)(ct:U X S' bP=U X h bP):aT X S' aH bP aW i:=by
 obtain⟨c,ao,M,R,ak,aA⟩:=a.at_
 exact⟨⟨c,ao,by rw[bQ];exact M,R,ak,aA.aa λe B=>by subst B;exact ct⟩,a.ne⟩
def ks{C:aK}{h:Q af}{b n W:Nat}{c:Q D}{st:oU}{v:D}(a:U C h b=some (.cells c n st))(bB:c.get W=some v):aP C h (.ptr b W)=some v:=by rw[cv,a];exact bB
section
variable{X:cl}{h S':Q af}{j an aH bP:Nat}{aW:List Tok}{i:Nat}
def sW(au:dj X)(aE:(o X).a2<=j)(aw:aT X h aH bP aW i)(kD:aH<j)(j4:bP<j){t:Tok}(be:aW[i]? =some t):
 aU X 44 [.ptr aH 0] h j (λac S' an=>ac= .agg (cf t)/\ba X h j S' an) (λ_ _ _=>False):=by
 refine zz au (am6 X) ?_
 rw[am7]
 unfold aa1
 obtain⟨c,ao,M,R,ak,aA⟩:=aw.at_
 have wF:=ks M R
 have bQ:=ks M ak
 have aG:i<(aW.map cf).length:=by rw[Zi];exact(Zc.1 be).1
 have dp:=aA.fx i aG
 have e9:cG X (bj X h j (zw [.Z 0, .str [], .Z 0, .int .u64 0, .zF, .zF, .Z 0] 7)) 7 (.ptr bP (i*7))=some (.agg (cf t)):=by
  have:=(aA.aa (S':=bj X h j (zw [.Z 0, .str [], .Z 0, .int .u64 0, .zF, .zF, .Z 0] 7)) (λe B=>by subst B;exact aB aE Zo)).row Zd (i:=i) (r:=cf t) (by rw[Zu,be];rfl)
  exact this
 refine fO @wF @bQ @dp @e9 cf.eq_1 ⟨?_⟩
 exact⟨rfl,dz⟩
def uu:List D:=[.Z 0, .str [], .Z 0, .int .u64 0, .zF, .zF, .Z 0]
def aT.on(aw:aT X h aH bP aW i){S:Nat}{c:Q D}(M:U X S' aH=some (.cells c 2 .own))(aX:∀dB st,U X h aH=some (.cells dB 2 st)->c=dB.set 1 (some (.Z (S:Int))))(ct:U X S' bP=U X h bP):aT X S' aH bP aW S:=by
 obtain⟨dB,ao,bb,b5,a3,a4⟩:=aw.at_
 have:=aX dB _ bb
 subst this
 refine⟨⟨_,ao,M, ?_, ?_,a4.aa λe B=>by subst B;exact ct⟩,aw.ne⟩
 ·rw[Q.kW,Zh Zd];exact b5
 ·rw[Q.kW,Zr rfl]
def KJ(au:dj X)(aE:(o X).a2<=j)(t:Tok)(av:bJ)(a:∀S' an,ba X h j S' an->av (.iface 26 (.agg [.Z 21, .Z t.at_])) S' an):
 aU X 93 [.agg (cf t)] h j (λ_ _ _=>False) av:=by
 refine zz au (aoE X) ?_
 rw[aoF]
 unfold abV cf
 refine cx ⟨?_⟩
 exact⟨a _ _ dz⟩
def ajP(au:dj X)(aE:(o X).a2<=j)(aw:aT X h aH bP aW i)(is:(o X).a2<=aH)(kD:aH<j)(j4:bP<j)(bp:aW.length<=300000){t:Tok}(be:aW[i]? =some t){s:aY}(aD:ho t s=true):
 aU X 71 [.ptr aH 0, .str s] h j (λac S' an=>ac= .tuple [.agg (cf t), .zT]/\aT X S' aH bP aW (i+1)/\cg X [aH] h j S' an) (λ_ _ _=>False):=by
 refine zz au (abu X) ?_
 rw[abv]
 unfold Sa
 refine pD ?_
 have l5:=(Zc.1 be).1
 have bH:ba X h j (bj X h j (zw uu 7)) (j+1):=ba.fresh aE _
 have es:aT X (bj X h j (zw uu 7)) aH bP aW i:=aw.aa (bH.aa _ kD) (bH.aa _ j4)
 refine(sW au Zo es Zo Zo be).mono ?_ (λ_ _ _ a=>a)
 rintro ac aM aZ ⟨rfl,bx⟩
 have gn:=bx.le
 have R:U X aM j=zw uu 7:=by rw[bx.aa _ Zo];exact a7 aE
 have gL:cg X [aH] h j aM aZ:=cg.of ((ba.fresh aE _).trans bx)
 have dF:aT X aM aH bP aW i:=es.aa (bx.aa _ Zo) (bx.aa _ Zo)
 obtain⟨c,ao,bb,b5,a3,a4⟩:=dF.at_
 have aJ:=gL.aa
 simp only[ho,Zp,Y4,Zg]at aD
 obtain⟨pS,rfl⟩:=aD
 have bQ:=ks bb a3
 have bz:=zx i
 have f0:decide (t.text≠t.text)=false:=by simp
 unfold uu at R
 have fin:∀(tn:Q af) (an:Nat),U X tn aH=some (.cells (dS c 1 [.Z ((i+1:Nat):Int)]) 2 .own)->cg X [aH] h j tn an->U X tn bP=U X aM bP->aT X tn aH bP aW (i+1)/\cg X [aH] h j tn an:=λtn an M R ak=>
  ⟨dF.on M (λdB st a=>by rw[bb]at a;cases a;exact r1 ..) ak,R⟩
 have dQ:=aw.ne
 rcases pS with iu|iu
 ·have cT:decide (t.kind≠2)=false:=by simp[iu]
  refine d9 cf.eq_1 @cT @f0 @bQ @bz @bb @R ⟨?_⟩
  refine⟨rfl,fin _ _ ?_ ?_ ?_⟩
  ·simp(disch:=omega) only[aB,a7];rfl
  ·exact⟨Zo,λb ag bV=>by have:=aJ b ag bV;simp only[Zt,ZJ,YS,Ym,ZG,Yc]at bV;simp(disch:=omega) only[aB];exact this⟩
  ·simp(disch:=omega) only[aB]
 ·have cT:decide (t.kind≠2)=true:=by simp[iu]
  have cy:decide (t.kind≠6)=false:=by simp[iu]
  refine d9 cf.eq_1 @cT @cy @f0 @bQ @bz (Za @bb @R) ⟨?_⟩
  refine⟨rfl,fin _ _ ?_ ?_ ?_⟩
  ·simp(disch:=omega) only[aB,a7];rfl
  ·exact⟨Zo,λb ag bV=>by have:=aJ b ag bV;simp only[Zt,ZJ,YS,Ym,ZG,Yc]at bV;simp(disch:=omega) only[aB];exact this⟩
  ·simp(disch:=omega) only[aB]
def ajO(au:dj X)(aE:(o X).a2<=j)(aw:aT X h aH bP aW i)(is:(o X).a2<=aH)(kD:aH<j)(j4:bP<j){t:Tok}(be:aW[i]? =some t){s:aY}(aD:ho t s=false):
 aU X 71 [.ptr aH 0, .str s] h j (λac S' an=>ac= .tuple [.agg uu, .zF]/\aT X S' aH bP aW i/\cg X [aH] h j S' an) (λ_ _ _=>False):=by
 refine zz au (abu X) ?_
 rw[abv]
 unfold Sa
 refine pD ?_
 have bH:ba X h j (bj X h j (zw uu 7)) (j+1):=ba.fresh aE _
 have es:aT X (bj X h j (zw uu 7)) aH bP aW i:=aw.aa (bH.aa _ kD) (bH.aa _ j4)
 refine(sW au Zo es Zo Zo be).mono ?_ (λ_ _ _ a=>a)
 rintro ac aM aZ ⟨rfl,bx⟩
 have gn:=bx.le
 have R:U X aM j=zw uu 7:=by rw[bx.aa _ Zo];exact a7 aE
 have gL:cg X [aH] h j aM aZ:=cg.of ((ba.fresh aE _).trans bx)
 have dF:aT X aM aH bP aW i:=es.aa (bx.aa _ Zo) (bx.aa _ Zo)
 have aJ:=gL.aa
 unfold uu at R
 have fin:∀(tn:Q af) (an:Nat),U X tn aH=U X aM aH->cg X [aH] h j tn an->U X tn bP=U X aM bP->aT X tn aH bP aW i/\cg X [aH] h j tn an:=λtn an M R ak=>
  ⟨dF.aa M ak,R⟩
 simp only[ho,Bool.and_eq_false_iff,Bool.or_eq_false_iff,Zb]at aD
 by_cases iu:t.kind=2
 ·have aD:t.text≠s:=by rcases aD with a|a;exact absurd iu a.1;exact a
  have cT:decide (t.kind≠2)=false:=by simp[iu]
  have f0:decide (t.text≠s)=true:=by simpa using aD
  refine fI cf.eq_1 @cT @f0 @R ⟨?_⟩
  refine⟨rfl,fin _ _ ?_ ?_ ?_⟩
  ·simp(disch:=omega) only[aB]
  ·exact⟨Zo,λb ag bV=>by have:=aJ b ag bV;simp only[Zt,ZJ,YS,Ym,ZG,Yc]at bV;simp(disch:=omega) only[aB];exact this⟩
  ·simp(disch:=omega) only[aB]
 ·have cT:decide (t.kind≠2)=true:=by simp[iu]
  by_cases pa:t.kind=6
  ·have aD:t.text≠s:=by rcases aD with a|a;exact absurd pa a.2;exact a
   have cy:decide (t.kind≠6)=false:=by simp[pa]
   have f0:decide (t.text≠s)=true:=by simpa using aD
   refine fO cf.eq_1 @cT @cy @f0 @R ⟨?_⟩
   refine⟨rfl,fin _ _ ?_ ?_ ?_⟩
   ·simp(disch:=omega) only[aB]
   ·exact⟨Zo,λb ag bV=>by have:=aJ b ag bV;simp only[Zt,ZJ,YS,Ym,ZG,Yc]at bV;simp(disch:=omega) only[aB];exact this⟩
   ·simp(disch:=omega) only[aB]
  ·have cy:decide (t.kind≠6)=true:=by simp[pa]
   refine fI cf.eq_1 @cT @cy @R ⟨?_⟩
   refine⟨rfl,fin _ _ ?_ ?_ ?_⟩
   ·simp(disch:=omega) only[aB]
   ·exact⟨Zo,λb ag bV=>by have:=aJ b ag bV;simp only[Zt,ZJ,YS,Ym,ZG,Yc]at bV;simp(disch:=omega) only[aB];exact this⟩
   ·simp(disch:=omega) only[aB]
def Dg(au:dj X)(aE:(o X).a2<=j)(aw:aT X h aH bP aW i)(is:(o X).a2<=aH)(kD:aH<j)(j4:bP<j)(bp:aW.length<=300000){t:Tok}(be:aW[i]? =some t)(z:Int):
 aU X 70 [.ptr aH 0, .Z z] h j (λac S' an=>t.kind=z/\ac= .agg (cf t)/\aT X S' aH bP aW (i+1)/\cg X [aH] h j S' an)
  (λac S' an=>t.kind≠z/\ac= .iface 26 (.agg [.Z 21, .Z t.at_])/\cg X [aH] h j S' an):=by
 refine zz au (anY X) ?_
 rw[anZ]
 unfold abt
 refine pD ?_
 have l5:=(Zc.1 be).1
 have bH:ba X h j (bj X h j (zw uu 7)) (j+1):=ba.fresh aE _
 have es:aT X (bj X h j (zw uu 7)) aH bP aW i:=aw.aa (bH.aa _ kD) (bH.aa _ j4)
 refine(sW au Zo es Zo Zo be).Zm ?_
 rintro ac aM aZ ⟨rfl,bx⟩
 have gn:=bx.le
 have R:U X aM j=zw uu 7:=by rw[bx.aa _ Zo];exact a7 aE
 have gL:cg X [aH] h j aM aZ:=cg.of ((ba.fresh aE _).trans bx)
 have dF:aT X aM aH bP aW i:=es.aa (bx.aa _ Zo) (bx.aa _ Zo)
 obtain⟨c,ao,bb,b5,a3,a4⟩:=dF.at_
 have aJ:=gL.aa
 have bQ:=ks bb a3
 have bz:=zx i
 unfold uu at R
 have dQ:=aw.ne
 by_cases x7:t.kind=z
 ·have cT:decide (t.kind≠z)=false:=by simp[x7]
  refine hu cf.eq_1 @cT @bQ @bz @bb @R ⟨?_⟩
  refine⟨x7,rfl,dF.on (c:=dS c 1 [.Z ((i+1:Nat):Int)]) ?_ (λdB st a=>by rw[bb]at a;cases a;exact r1 ..) ?_, ?_⟩
  ·simp(disch:=omega) only[aB,a7];rfl
  ·simp(disch:=omega) only[aB]
  ·exact⟨Zo,λb ag bV=>by have:=aJ b ag bV;simp only[Zt,ZJ,YS,Ym,ZG,Yc]at bV;simp(disch:=omega) only[aB];exact this⟩
 ·have cT:decide (t.kind≠z)=true:=by simp[x7]
  refine dI cf.eq_1 @cT @R ⟨?_⟩
  refine(KJ au Zo t _ ?_).mono (λ_ _ _ a=>a.elim) (λ_ _ _ a=>a)
  intro S' an bU
  have Lx:=bU.le
  refine⟨x7,rfl,Zo,λb ag bV=> ?_⟩
  have:=aJ b ag bV
  simp only[Zt,ZJ,YS,Ym,ZG,Yc]at bV
  rw[bU.aa b Zo]
  simp(disch:=omega) only[aB];exact this
end
section
variable{X:cl}{h S':Q af}{j an aH bP:Nat}{aW:List Tok}{i:Nat}
def hq:Tok:=⟨0,[],0,0,dU⟩
def s4:List aY->Tok->List Tok->gC Tok
 |[],x,l=>ok x l
 |s::n4,_,l=>andThen (eL s l) λe l=>s4 n4 e l
def fZ{aW:List Tok}{i:Nat}{x:Tok}{l:List Tok}(a:aW.drop i=x::l):aW[i]? =some x/\aW.drop (i+1)=l:=by
 constructor
 ·have:=congrArg (λl=>l[0]?) a
  simpa using this
 ·rw[<-zl,a];rfl
def e3(n4:List aY):List (List D):=n4.map λs=>[.str s]
def akf(au:dj X)(aE:(o X).a2<=j)(aw:aT X h aH bP aW i)(is:(o X).a2<=aH)(kD:aH<j)(j4:bP<j)(bp:aW.length<=300000){aS:D}{cO:Nat}{n4:List aY}(Lg:cO<j)(LU:cO≠aH)(aD:dL X h (λe=>e=cO) cO aS 1 (e3 n4))
 {r:Except Int (Tok×List Tok)}(Y:s4 n4 hq (aW.drop i)=some r):
 aU X 69 [.ptr aH 0,aS] h j (λac S' an=>∃x cD,r= .ok (x,aW.drop cD)/\ac= .agg (cf x)/\aT X S' aH bP aW cD/\cg X [aH] h j S' an)
  (λac S' an=>∃H,r= .error H/\ac= .iface 26 (.agg [.Z 21, .Z H])/\cg X [aH] h j S' an):=by
 refine zz au (anU X) ?_
 rw[anV]
 unfold abs
 have fg:=aD.len
 have dQ:=aw.ne
 have ww:=aD.many
 simp only[e3,Zi]at ww
 refine pD ?_
 refine pD ?_
 have K0:ba X h j (bj X (bj X h j (zw (cf hq) 7)) (j+1) (zw (cf hq) 7)) (j+1+1):=dz
 have Gf:U X (bj X (bj X h j (zw (cf hq) 7)) (j+1) (zw (cf hq) 7)) j=zw (cf hq) 7:=by simp(disch:=omega) only[aB,a7]
 have cN:U X (bj X (bj X h j (zw (cf hq) 7)) (j+1) (zw (cf hq) 7)) (j+1)=zw (cf hq) 7:=a7 Zo
 refine oj @fg ⟨?_⟩
 refine iR (λI S' n=>∃x cD,r= .ok (x,aW.drop cD)/\I.g 5=some (.ptr (j+1) 0)/\I.g 4=some (.ptr j 0)/\j+1<n/\U X S' (j+1)=zw (cf x) 7/\U X S' j=zw (cf hq) 7/\aT X S' aH bP aW cD/\cg X [aH] h j S' n) (λS bE=> ?_) ?_
 ·refine fh (λm I S' n=>∃z cD x,m=n4.length-z/\z<=n4.length/\I.g 0=some (.ptr aH 0)/\I.g 9=some aS/\I.g 10=some (.Z (n4.length:Int))/\I.g 11=some (.Z (z:Int))/\I.g 5=some (.ptr (j+1) 0)/\I.g 4=some (.ptr j 0)/\j+1<n
   /\U X S' (j+1)=zw (cf x) 7/\U X S' j=zw (cf hq) 7/\aT X S' aH bP aW cD/\cg X [aH] h j S' n/\s4 (n4.drop z) x (aW.drop cD)=some r)
   n4.length ⟨0,i,hq,Zo,Zo, ?_, ?_, ?_, ?_, ?_, ?_,Zo,cN,Gf,aw.aa (K0.aa _ kD) (K0.aa _ j4),cg.of K0,Y⟩ ?_
  ·exact a8
  ·exact a8
  ·refine xN ⟨?_⟩
   simp[e3]
  ·refine xN ⟨?_⟩
   rfl
  ·exact a8
  ·exact a8
  rintro m I aM n ⟨z,cD,x,rfl,aJ,t0,t9,t10,t11,t5,t4,cZ,bI,jG,dF,gL,bs⟩
  refine cI @t10 @t11 ⟨?_⟩
  refine BS (λCs=> ?_) (λCs=> ?_)
  ·have Cs:z<n4.length:=Zo
   have iE:n4.drop z=n4[z]::n4.drop (z+1):=Zq Cs
   rw[iE]at bs
   have dp:=aD.fx z (by simp[e3];exact Cs)
   have agH:aP X aM (.ptr cO (z*1))=some (.str n4[z]):=by
    have:=(aD.aa (S':=aM) λe B=>by subst B;exact gL.aa _ Lg (by simp;exact LU)).cell z [.str n4[z]] 0 (.str n4[z]) (by simp[e3]) rfl
    rwa[ZR]at this
   refine fO @t9 @t11 @dp @agH @t0 ⟨?_⟩
   generalize n4[z]=s at bs agH
   cases aF:aW.drop cD with
   |nil=>rw[aF]at bs;simp[s4,eL,andThen]at bs
   |cons e l=>
    obtain⟨B,aC⟩:=fZ aF
    rw[aF]at bs
    simp only[s4,eL]at bs
    cases Fg:ho e s with
    |true=>
     rw[Fg]at bs
     simp only[ZE,andThen,ok]at bs
     refine(ajP au (zs gL.le) dF is Zo Zo bp B Fg).Zm ?_
     rintro ac a1 bi ⟨rfl,g1,eh⟩
     have iO:=eh.le
     have TG:U X a1 (j+1)=zw (cf x) 7:=by rw[eh.aa _ Zo Zx];exact bI
     have asD:U X a1 j=zw (cf hq) 7:=by rw[eh.aa _ Zo Zx];exact jG
     refine dI @t5 @TG @t11 ⟨?_⟩
     have bz:=zx z
     refine cd @bz ⟨?_⟩
     refine⟨_, ?_,z+1,cD+1,e,rfl,Zo,aL t0,aL t9,aL t10,a8,aL t5,aL t4,Zo,a7 Zo,by simp(disch:=omega) only[aB];exact asD,g1.aa (zy) (zy), ?_, ?_⟩
     ·omega
     ·have mP:=(gL.trans eh).aa
      exact⟨zs gL.le,λb ag bV=>by rw[<-mP b ag bV];exact zy⟩
     ·rw[aC];exact bs
    |false=>
     rw[Fg]at bs
     simp only[Zy,ZD,andThen,bad,Zf]at bs
     subst bs
     refine(ajO au (zs gL.le) dF is Zo Zo B Fg).Zm ?_
     rintro ac a1 bi ⟨rfl,g1,eh⟩
     have iO:=eh.le
     have TG:U X a1 (j+1)=zw (cf x) 7:=by rw[eh.aa _ Zo Zx];exact bI
     refine dI @t5 @TG @t0 ⟨?_⟩
     refine(sW au (zs gL.le) (g1.aa (zy) (zy)) Zo Zo B).Zm ?_
     rintro ac bA cK ⟨rfl,c0⟩
     have iF:=c0.le
     refine(KJ au (zs gL.le) e _ ?_).mono (λ_ _ _ a=>a.elim) (λ_ _ _ a=>a)
     intro bM bX dC
     have ik:=dC.le
     have mP:=(gL.trans eh).aa
     refine⟨_,rfl,rfl,zs gL.le,λb ag bV=> ?_⟩
     rw[dC.aa b Zo,c0.aa b Zo, <-mP b ag bV]
     simp(disch:=omega) only[aB]
  ·have x7:z=n4.length:=Zo
   subst x7
   rw[List.drop_length]at bs
   simp only[s4,ok,Zf]at bs
   subst bs
   refine cx ⟨?_⟩
   exact bE _ _ _ ⟨x,cD,rfl,aL t5,aL t4,cZ,bI,jG,dF,gL⟩
 ·rintro I aM n ⟨x,cD,ae,t5,t4,cZ,bI,jG,dF,gL⟩
  unfold cf at bI
  unfold cf hq dU at jG
  refine fO @t5 @t4 @bI @jG (bc bI) ⟨?_⟩
  refine⟨x,cD,ae,rfl,dF.aa (zy) (zy), ?_⟩
  exact⟨zs gL.le,λb ag bV=>by rw[<-gL.aa b ag bV];exact zy⟩
end
structure iZ(X:cl)(h:Q af)(j aH bP:Nat)(aW:List Tok)(i:Nat):Prop where
 a2:(o X).a2<=j
 b3:(o X).a2<=aH
 hL:aH<j
 hn:bP<j
 many:aW.length<=300000
 par:aT X h aH bP aW i
def iZ.go{X:cl}{h S':Q af}{j an aH bP i cD:Nat}{aW:List Tok}(a:iZ X h j aH bP aW i)(aw:aT X S' aH bP aW cD)(aE:j<=an):iZ X S' an aH bP aW cD:=
 ⟨ZB a.a2 aE,a.b3,ZN a.hL aE,ZN a.hn aE,a.many,aw⟩
def dr(H b:Nat):Nat->Prop:=λe=>H<=e/\e<b
def pL(z H:Int):D:= .iface 26 (.agg [.Z z, .Z H])
def kf(X:cl)(aH bP:Nat)(aW:List Tok)(h:Q af)(j:Nat)(r:Except Int (bD×List Tok)):bJ:=λac S' an=>
 ∃E cD,r= .ok (E,aW.drop cD)/\cE X S' (dr j an) E ac/\aT X S' aH bP aW cD/\cg X [aH] h j S' an
def jk{α:Type}(X:cl)(aH:Nat)(h:Q af)(j:Nat)(r:Except Int α):bJ:=λac S' an=>
 ∃H,r= .error H/\ac=pL 21 H/\cg X [aH] h j S' an
def xh(X:cl):Prop:=8<X.a2/\∀h z,z<5->∃b aS,aP X h (.ptr 8 z)=some aS/\dL X h (λe=>e<X.a2) b aS 2 ((ar z).map λW=>[.str W.1, .Z W.2])
section
variable{X:cl}{h S' aI aM:Q af}{j an aO aZ aH bP:Nat}{aW:List Tok}{i:Nat}
def jk.of{α eZ:Type}{fi:Q af}{aiw:Nat}{r:Except Int α}{ia:Except Int eZ}{ac:D}(a:jk X aH aI aO r ac S' an)(gL:cg X [aH] fi aiw aI aO)(Y:∀H,r= .error H->ia= .error H):jk X aH fi aiw ia ac S' an:=by
 obtain⟨H,M,R,ak⟩:=a
 exact⟨H,Y H M,R,gL.trans ak⟩
def cE.fr{H b:Nat}{E:bD}{v:D}(a:cE X h (dr H b) E v)(gL:cg X [aH] h aO S' an)(ag:b<=aO)(aw:aH<H){fL dM:Nat}(M:fL<=H)(R:b<=dM):cE X S' (dr fL dM) E v:=
 cE.lift (λe B=>⟨ZB M B.1,ZN B.2 R⟩) _ _ (cE.aa (λe B=>gL.aa e (zs B.2) (by simp;have:=B.1;omega)) _ _ a)
def cE.ex{H b:Nat}{E:bD}{v:D}(a:cE X h (dr H b) E v)(z:∀e,H<=e->e<b->U X S' e=U X h e){fL dM:Nat}(M:fL<=H)(R:b<=dM):cE X S' (dr fL dM) E v:=
 cE.lift (λe B=>⟨ZB M B.1,ZN B.2 R⟩) _ _ (cE.aa (λe B=>z e B.1 B.2) _ _ a)
def rX{eZ:Type}{s:aY}{l:List Tok}{f:Option Tok->List Tok->gC eZ}{r:Except Int (eZ×List Tok)}(a:iI s l f=some r):∃x ce,l=x::ce/\((ho x s=true/\f (some x) ce=some r)\/(ho x s=false/\f none l=some r)):=by
 unfold iI mG at a
 cases l with
 |nil=>cases a
 |cons x ce=>
  refine⟨x,ce,rfl, ?_⟩
  simp only[]at a
  cases aD:ho x s with
  |true=>rw[aD]at a;exact .inl ⟨rfl,a⟩
  |false=>rw[aD]at a;exact .inr ⟨rfl,a⟩
def gR{α eZ:Type}{x:gC α}{f:α->List Tok->gC eZ}{r:Except Int (eZ×List Tok)}(a:andThen x f=some r):(∃H,x=some (.error H)/\r= .error H)\/∃H l,x=some (.ok (H,l))/\f H l=some r:=by
 unfold andThen at a
 split at a
 ·cases a
 ·injection a with a;exact .inl ⟨_,rfl,a.symm⟩
 ·exact .inr ⟨_,_,rfl,a⟩
def oJ(au:dj X)(aw:iZ X h j aH bP aW i){x:Tok}{l:List Tok}(aF:aW.drop i=x::l)(s:aY):
 aU X 71 [.ptr aH 0, .str s] h j (λac S' an=>ac= .tuple [.agg (cf (if ho x s then x else hq)), .bool (ho x s)]/\aT X S' aH bP aW (if ho x s then i+1 else i)/\cg X [aH] h j S' an) (λ_ _ _=>False):=by
 obtain⟨M,R⟩:=fZ aF
 cases aD:ho x s with
 |true=>simp only[ZE];exact ajP au aw.a2 aw.par aw.b3 aw.hL aw.hn aw.many M aD
 |false=>simp only[Zy,ZD];exact ajO au aw.a2 aw.par aw.b3 aw.hL aw.hn M aD
structure sa(X:cl)(aH bP:Nat)(aW:List Tok)(n:Nat):Prop where
 level:∀h j i (z:Nat) r,z<=5->iZ X h j aH bP aW i->Go.aT.level n z (aW.drop i)=some r->aU X 133 [.ptr aH 0, .Z (z:Int)] h j (kf X aH bP aW h j r) (jk X aH h j r)
 shift:∀h j i r,iZ X h j aH bP aW i->Go.aT.shift n (aW.drop i)=some r->aU X 140 [.ptr aH 0] h j (kf X aH bP aW h j r) (jk X aH h j r)
 vh:∀h j i r,iZ X h j aH bP aW i->Go.aT.yw n (aW.drop i)=some r->aU X 147 [.ptr aH 0] h j (kf X aH bP aW h j r) (jk X aH h j r)
 part:∀h j i r,iZ X h j aH bP aW i->Go.aT.part n (aW.drop i)=some r->aU X 153 [.ptr aH 0] h j (kf X aH bP aW h j r) (jk X aH h j r)
 mv:∀h j i r,iZ X h j aH bP aW i->Go.aT.mv n (aW.drop i)=some r->aU X 118 [.ptr aH 0] h j (kf X aH bP aW h j r) (jk X aH h j r)
 arrow:∀h j i r,iZ X h j aH bP aW i->Go.aT.arrow n (aW.drop i)=some r->aU X 95 [.ptr aH 0] h j (kf X aH bP aW h j r) (jk X aH h j r)
 list:∀h j i r,iZ X h j aH bP aW i->Go.aT.list n (aW.drop i)=some r->aU X 156 [.ptr aH 0] h j (λac S' an=>∃cb cD br cO,r= .ok (cb,aW.drop cD)/\dL X S' (dr j an) cO ac 1 (br.map λv=>[v])/\dD X S' (λe=>dr j an e/\e≠cO) cb br/\aT X S' aH bP aW cD/\cg X [aH] h j S' an) (jk X aH h j r)
def eN{C:aK}{f:Nat}{y4:List D}{ah av:bJ}{h:Q af}{j:Nat}(P:Q af->Prop)(bq:P h)(a:∀a1,P a1->aU C f y4 a1 j ah av):aU C f y4 h j ah av:=a h bq
def oI(z:IntKind)(x:Int):D.same 30 (.int z x) (.int z x)=true:=by
 simp only[D.same,CO];cases z<;>simp[mU]
def aT.ex(a:aT X h aH bP aW i)(z:ba X h j S' an)(M:aH<j)(R:bP<j):aT X S' aH bP aW i:=a.aa (z.aa _ M) (z.aa _ R)
def apL(au:dj X){n:Nat}(ai:∀m,m<n->sa X aH bP aW m):∀h j i r,iZ X h j aH bP aW i->Go.aT.arrow n (aW.drop i)=some r->aU X 95 [.ptr aH 0] h j (kf X aH bP aW h j r) (jk X aH h j r):=by
 intro h j i r aw Y
 cases n with
 |zero=>simp[Go.aT.arrow]at Y
 |succ n=>
 refine zz au (aoI X) ?_
 rw[aoJ]
 unfold abX
 have he:=aw.a2
 have kD:=aw.hL
 have is:=aw.b3
 unfold Go.aT.arrow at Y
 rcases gR Y with ⟨H,M,rfl⟩|⟨left,eo,M,Y⟩
 ·exact((ai n Zo).mv h j i _ aw M).mono (λac S' an a=>by obtain⟨E,cD,a,_⟩:=a;cases a) (λac S' an a=>a)
 refine((ai n Zo).mv h j i _ aw M).mono ?_ (λac S' an a=>by obtain⟨H,a,_⟩:=a;cases a)
 rintro w5 aI aO ⟨E,il,bC,bH,es,iC⟩
 cases bC
 have jJ:=iC.le
 have nv:=aw.go es jJ
 obtain⟨x,ce,aF,ae⟩:=rX Y
 refine(oJ au nv aF _).Zm ?_
 rintro Dz aM aZ ⟨rfl,dF,dx⟩
 have fJ:=dx.le
 rcases ae with ⟨aD,Y⟩|⟨aD,Y⟩
 ·rw[aD]at dF ⊢
  simp only[ZE]at dF ⊢
  rw[<-(fZ aF).2]at Y
  refine cd cf.eq_1 ⟨?_⟩
  refine eN (λa1=>ba X aM aZ a1 (aZ+1+9)/\U X a1 aZ=zw (cf x) 7) ⟨dz,a7 Zo⟩ ?_
  rintro a1 ⟨ck,cH⟩
  rcases gR Y with ⟨H,R,rfl⟩|⟨right,cR,R,Y⟩
  ·refine((ai n Zo).arrow a1 _ _ _ (nv.go (dF.ex ck Zo (zs nv.hn)) Zo) R).mono (λac S' an a=>by obtain⟨E,cD,a,_⟩:=a;cases a) (λac S' an a=>a.of (iC.trans (dx.trans (cg.of ck))) (λ_ a=>a))
  refine((ai n Zo).arrow a1 _ _ _ (nv.go (dF.ex ck Zo (zs nv.hn)) Zo) R).mono ?_ (λac S' an a=>by obtain⟨H,a,_⟩:=a;cases a)
  rintro v4 bA cK ⟨kj,i4,u2,c0,hF,eG⟩
  cases u2
  have iF:=eG.le
  simp only[ok,Zf]at Y
  subst Y
  have dg:U X bA aZ=zw (cf x) 7:=by rw[eG.aa _ Zo Zx];exact cH
  obtain⟨cN,rfl,iv,_⟩:=bH.ptr
  obtain⟨fW,rfl,rE,_⟩:=c0.ptr
  have iv:=iv.1
  refine cI (bc dg) cf.eq_1 ⟨?_⟩
  refine f4 (oI _ _) ?_
  refine⟨_,i4,rfl,cE.lit (jx:= .own) (cO:=aZ+1+5) (br:=[.ptr cN 0, .ptr fW 0]) (a7 Zo) ⟨Zo,Zo⟩ ?_ ⟨Zo,Zo⟩ rfl Zo Zo (dD.two (cE.aa (λe B=> ?_) _ _ bH) (cE.aa (λe B=> ?_) _ _ c0) (λe B=> ?_) (λe B=> ?_)), ?_, ?_⟩
  ·simp(disch:=omega) only[aB,a7]<;>rfl
  ·have M:=B.1;have R:=B.2
   simp(disch:=omega) only[aB]
   rw[eG.aa e Zo Zx,ck.aa e Zo,dx.aa e Zo Zx]
  ·have M:=B.1;have R:=B.2
   simp(disch:=omega) only[aB]
  ·simp only[dr]at B ⊢;omega
  ·simp only[dr]at B ⊢;omega
  ·exact hF.aa (zy) (by have:=nv.hn;exact zy)
  ·exact⟨Zo,λb ag bV=>by
    rw[<-((iC.trans (dx.trans (cg.of ck))).trans eG).aa b ag bV]
    simp(disch:=omega) only[aB]⟩
 ·rw[aD]at dF ⊢
  simp only[Zy,ZD]at dF ⊢
  simp only[ok,Zf]at Y
  subst Y
  refine cI cf.eq_1 hq.eq_1 ⟨?_⟩
  refine⟨left,il,rfl,cE.ex bH (λe M R=> ?_) (Zj _) Zo,dF.aa (zy) (by have:=nv.hn;exact zy), ?_⟩
  ·simp(disch:=omega) only[aB]
   exact dx.aa e Zo Zx
  ·exact⟨Zo,λb ag bV=>by rw[<-(iC.trans dx).aa b ag bV];exact zy⟩
end
section
variable{X:cl}{h S' aI aM:Q af}{j an aO aZ aH bP:Nat}{aW:List Tok}{i:Nat}
def ar9(au:dj X){n:Nat}(ai:∀m,m<n->sa X aH bP aW m):∀h j i r,iZ X h j aH bP aW i->Go.aT.mv n (aW.drop i)=some r->aU X 118 [.ptr aH 0] h j (kf X aH bP aW h j r) (jk X aH h j r):=by
 intro h j i r aw Y
 cases n with
 |zero=>simp[Go.aT.mv]at Y
 |succ n=>
 refine zz au (alo X) ?_
 rw[alp]
 unfold ω
 have he:=aw.a2
 have kD:=aw.hL
 have is:=aw.b3
 unfold Go.aT.mv at Y
 rcases gR Y with ⟨H,M,rfl⟩|⟨left,eo,M,Y⟩
 ·exact((ai n Zo).level h j i 0 _ Zo aw M).mono (λac S' an a=>by obtain⟨E,cD,a,_⟩:=a;cases a) (λac S' an a=>a)
 refine((ai n Zo).level h j i 0 _ Zo aw M).mono ?_ (λac S' an a=>by obtain⟨H,a,_⟩:=a;cases a)
 rintro w5 aI aO ⟨E,il,bC,bH,es,iC⟩
 cases bC
 have jJ:=iC.le
 have nv:=aw.go es jJ
 obtain⟨x,ce,aF,ae⟩:=rX Y
 refine(oJ au nv aF _).Zm ?_
 rintro Dz aM aZ ⟨rfl,dF,dx⟩
 have fJ:=dx.le
 have j4:=nv.hn
 rcases ae with ⟨aD,Y⟩|⟨aD,Y⟩
 ·rw[aD]at dF ⊢
  simp only[ZE]at dF ⊢
  rw[<-(fZ aF).2]at Y
  simp only[]at Y
  obtain⟨cN,aS,cO,br,rfl,iv,wF,bQ,ct,c1,dJ,d7,c3,ft,gp,g2,L2⟩:=bH.open
  have iv:=iv
  obtain⟨aFX,aFY⟩:=iv
  have dB:aP X aM (.ptr cN 0)=some (.Z left.kind):=by rw[dx.eV _ _ Zo Zx];exact wF
  have Hs:aP X aM (.ptr cN 8)=some aS:=by rw[dx.eV _ _ Zo Zx];exact gp
  have cm:vd left=some true->∀(I:cV) (a1:Q af) (bi:Nat),I.g 4=some (.ptr aZ 0)->I.g 3=some (.ptr cN 0)->I.g 0=some (.ptr aH 0)->ba X aM aZ a1 bi->aZ<bi->U X a1 aZ=zw (cf x) 7->
   fb (bi+9) λazE=>cw (I.g 4) λaDm=>ap (gr 2 aDm) λaj4=>ap (aP X a1 aj4) λaj5=>cw (I.g 3) λaDn=>cw (I.g 0) λaDo=>aU X 118 [aDo] a1 azE (λaDS aoW azF=>ap (hC 2 [.cJ, .cJ] [(0,1,aDn),(1,1,aDS)] (bi+5)) λajb=>mE X aoW (bi+5) ajb.1 ajb.2 λaDT aoX=>ap (e6 [.Z 0,.Z 0,.str [],.zF,.zF,.zF,.Z 0,.int .u64 0, .aV] [(0,1,(.Z 21)),(1,1,aj5),(8,1,aDT)]) λaDU=>y6 X aoX (bi+7) aDU λaDV ab6=>ap (aP X ab6 aj4) λaDW=>gb aDW (some aj5) (kf X aH bP aW h j r aDV ab6 azF)) (jk X aH h j r):=by
   intro Vd I a1 bi t4 t3 t0 ck cZ cH
   rw[Vd]at Y
   simp only[]at Y
   refine fO @t4 @t3 @t0 (bc cH) cf.eq_1 ⟨?_⟩
   rcases gR Y with ⟨H,R,rfl⟩|⟨right,cR,R,Y⟩
   ·refine((ai n Zo).mv a1 _ _ _ (nv.go (dF.ex ck Zo Zo) Zo) R).mono (λac S' an a=>by obtain⟨E,cD,a,_⟩:=a;cases a) (λac S' an a=>a.of (iC.trans (dx.trans (cg.of (ck.more Zo)))) (λ_ a=>a))
   refine((ai n Zo).mv a1 _ _ _ (nv.go (dF.ex ck Zo Zo) Zo) R).mono ?_ (λac S' an a=>by obtain⟨H,a,_⟩:=a;cases a)
   rintro v4 bA cK ⟨kj,i4,u2,c0,hF,eG⟩
   cases u2
   have iF:=eG.le
   simp only[ok,Zf]at Y
   subst Y
   have dg:U X bA aZ=zw (cf x) 7:=by rw[eG.aa _ Zo Zx];exact cH
   obtain⟨fW,rfl,rE,_⟩:=c0.ptr
   refine cI (bc dg) cf.eq_1 ⟨?_⟩
   refine f4 (oI _ _) ?_
   refine⟨_,i4,rfl,cE.lit (jx:= .own) (cO:=bi+5) (br:=[.ptr cN 0, .ptr fW 0]) (a7 Zo) ⟨Zo,Zo⟩ ?_ ⟨Zo,Zo⟩ rfl Zo Zo (dD.two (cE.aa (λe B=> ?_) _ _ bH) (cE.aa (λe B=> ?_) _ _ c0) (λe B=> ?_) (λe B=> ?_)), ?_, ?_⟩
   ·simp(disch:=omega) only[aB,a7]<;>rfl
   ·have M:=B.1;have R:=B.2
    simp(disch:=omega) only[aB]
    rw[eG.aa e Zo Zx,ck.aa e Zo,dx.aa e Zo Zx]
   ·have M:=B.1;have R:=B.2
    simp(disch:=omega) only[aB]
   ·simp only[dr]at B ⊢;omega
   ·simp only[dr]at B ⊢;omega
   ·exact hF.aa (zy) (zy)
   ·exact⟨Zo,λb ag bV=>by
     rw[<-((iC.trans (dx.trans (cg.of (ck.more (by omega:bi<=bi+9))))).trans eG).aa b ag bV]
     simp(disch:=omega) only[aB]⟩
  have adN:vd left=some false->∀(a1:Q af) (bi:Nat) (ah:bJ),ba X aM aZ a1 bi->aU X 93 [.agg (cf x)] a1 bi ah (jk X aH h j r):=by
   intro Vd a1 bi ah ck
   rw[Vd]at Y
   simp only[bad,Zf]at Y
   subst Y
   refine(KJ au (zs ck.le) x _ ?_).mono (λ_ _ _ a=>a.elim) (λ_ _ _ a=>a)
   intro S' an bU
   exact⟨_,rfl,rfl,iC.trans (dx.trans (cg.of (ck.trans bU)))⟩
  by_cases lK:left.kind=1
  ·have cT:decide (left.kind≠1)=false:=by simp[lK]
   refine gh cf.eq_1 @dB @cT ⟨?_⟩
   refine gi ?_
   refine gh cf.eq_1 @dB @cT ⟨?_⟩
   refine gi ?_
   refine xy ?_
   exact cm (by simp[vd,lK]) _ _ _ (a8) (a8) (a8) dz Zo (a7 Zo)
  ·have cT:decide (left.kind≠1)=true:=by simp[lK]
   by_cases gF:left.kind=4
   ·have i6:decide (left.kind≠4)=false:=by simp[gF]
    cases xX:left.args with
    |nil=>
     simp[vd,gF,xX]at Y
    |cons H y4=>
     obtain⟨v,bB,kY⟩:=L2.get 0 H (by rw[xX];rfl)
     obtain⟨g9,nt,sZ⟩:=g2.one bB
     have g9:gy 1 aS (.Z 0)=some (.ptr cO 0):=g9
     obtain⟨s0,rfl,awi,kq⟩:=kY.ptr
     obtain⟨aFZ,aF0⟩:=awi
     obtain⟨aGF,aGG⟩:=sZ
     have NY:aP X aM (.ptr cO 0)=some (.ptr s0 0):=by rw[dx.eV _ _ Zo Zx];exact nt
     have o1:aP X aM (.ptr s0 0)=some (.Z H.kind):=by rw[dx.eV _ _ Zo Zx];exact kq
     by_cases az:H.kind=1
     ·have gu:decide (H.kind≠1)=false:=by simp[az]
      refine gh cf.eq_1 @dB (Za @cT (Za @i6 (Za @Hs (Za @g9 (Za @NY (Za @o1 @gu)))))) ⟨?_⟩
      refine gi ?_
      refine gh cf.eq_1 @dB (Za @cT (Za @i6 (Za @Hs (Za @g9 (Za @NY (Za @o1 @gu)))))) ⟨?_⟩
      refine gi ?_
      refine xy ?_
      exact cm (by simp[vd,gF,xX,az]) _ _ _ (a8) (a8) (a8) dz Zo (a7 Zo)
     ·have gu:decide (H.kind≠1)=true:=by simp[az]
      refine gh cf.eq_1 @dB (Za @cT (Za @i6 (Za @Hs (Za @g9 (Za @NY (Za @o1 @gu)))))) ⟨?_⟩
      refine gi ?_
      refine gh cf.eq_1 @dB (Za @cT (Za @i6 (Za @Hs (Za @g9 (Za @NY (Za @o1 @gu)))))) ⟨?_⟩
      refine gi ?_
      refine xz ?_
      refine cd cf.eq_1 ⟨?_⟩
      exact adN (by simp[vd,gF,xX,az]) _ _ _ dz
   ·have i6:decide (left.kind≠4)=true:=by simp[gF]
    refine gh cf.eq_1 @dB (Za @cT @i6) ⟨?_⟩
    refine gi ?_
    refine gh cf.eq_1 @dB (Za @cT @i6) ⟨?_⟩
    refine gi ?_
    refine xz ?_
    refine cd cf.eq_1 ⟨?_⟩
    exact adN (by simp[vd,lK,gF]) _ _ _ dz
 ·rw[aD]at dF ⊢
  simp only[Zy,ZD]at dF ⊢
  simp only[ok,Zf]at Y
  subst Y
  refine cI cf.eq_1 hq.eq_1 ⟨?_⟩
  refine⟨left,il,rfl,cE.ex bH (λe M R=> ?_) (Zj _) Zo,dF.aa (zy) (zy), ?_⟩
  ·simp(disch:=omega) only[aB]
   exact dx.aa e Zo Zx
  ·exact⟨Zo,λb ag bV=>by rw[<-(iC.trans dx).aa b ag bV];exact zy⟩
end
section
variable{X:cl}{h S' aI aM:Q af}{j an aO aZ aH bP:Nat}{aW:List Tok}{i:Nat}
def akI(X:cl)(aH bP:Nat)(aW:List Tok)(h:Q af)(j:Nat)(r:Option bD×List Tok):bJ:=λac S' an=>∃cD,r.2=aW.drop cD/\aT X S' aH bP aW cD/\cg X [aH] h j S' an/\
 match r.1 with
 |none=>ac= .tuple [.cJ, .zF]
 |some E=>∃b z H,E= .mk z H [] false dU 0 []/\ac= .tuple [.ptr b 0, .zT]/\j<=b/\b<an/\U X S' b=zw (ht z H [] false dU 0 .aV) 9
def ap5(au:dj X)(d6:xh X){z:Nat}(aJ:z<5)(aw:iZ X h j aH bP aW i){r:Option bD×List Tok}(Y:pF (ar z) (aW.drop i)=some r):
 aU X 141 [.ptr aH 0, .Z (z:Int)] h j (akI X aH bP aW h j r) (λ_ _ _=>False):=by
 refine zz au (ama X) ?_
 rw[amb]
 unfold aax
 have he:=aw.a2
 have kD:=aw.hL
 have is:=aw.b3
 have j4:=aw.hn
 obtain⟨at7,d6⟩:=d6
 obtain⟨b,aS,g2,cB⟩:=d6 h z aJ
 have dp:IL 5 1 (.ptr 8 0) (.Z (z:Int))=some (.ptr 8 z):=by
  simp[IL,sT,Np,fN,aJ]
 have fg:=cB.len
 rw[Zi]at fg
 have ww:=cB.many
 rw[Zi]at ww
 refine gh @dp @g2 @fg ⟨?_⟩
 refine gi ?_
 refine fh (λm I S' n=>∃S,m=(ar z).length-S/\S<=(ar z).length/\I.g 0=some (.ptr aH 0)/\I.g 12=some aS/\I.g 13=some (.Z ((ar z).length:Int))/\I.g 14=some (.Z (S:Int))/\aT X S' aH bP aW i/\cg X [aH] h j S' n/\pF ((ar z).drop S) (aW.drop i)=some r)
  (ar z).length ⟨0,Zo,Zo,a8,a8,a8,fq,aw.par,cg.refl _ _ _,Y⟩ ?_
 rintro m I aM n ⟨S,rfl,bE,t0,t12,mb,pq,dF,gL,ag⟩
 have gn:=gL.le
 have f2:=aw.go dF gn
 refine Ez @mb @pq ⟨?_⟩
 refine gi ?_
 refine BS (λcZ=> ?_) (λcZ=> ?_)
 ·have cZ:S<(ar z).length:=Zo
  have iE:(ar z).drop S=(ar z)[S]::(ar z).drop (S+1):=Zq cZ
  rw[iE]at ag
  have afL:=cB.fx S (by simpa using cZ)
  have e9:=((d6 aM z aJ).choose_spec)
  obtain⟨co,Bf,qK,Iy⟩:=d6 aM z aJ
  have VO:Bf=aS:=by
   have E:aP X aM (.ptr 8 z)=aP X h (.ptr 8 z):=by
    rw[cv,cv]
    have:∀h:Q af,U X h 8=X.G.get 8:=λh=>by
     have aux:Nat.blt 8 (o X).a2=true:=by simp[Nat.blt];exact at7
     simp only[U,aux,fo];rfl
    rw[this,this]
   rw[E,g2]at qK
   exact(Ys qK).symm
  subst VO
  have afL:=Iy.fx S (by simpa using cZ)
  have e9:=λa1 (a:∀e,e<X.a2->U X a1 e=U X aM e)=>(Iy.aa (S':=a1) a).row Zd (i:=S) (r:=[.str (ar z)[S].1, .Z (ar z)[S].2]) (by rw[Zu,Ze cZ];rfl)
  have e9:=e9 aM (λ_ _=>rfl)
  generalize (ar z)[S]=W at ag e9 iE
  obtain⟨s,fa⟩:=W
  simp only[pF]at ag
  refine fO @t12 @pq @afL @e9 @t0 ⟨?_⟩
  refine eN (λa1=>ba X aM n a1 (n+1)/\U X a1 n=zw [.str s, .Z fa] 2) ⟨dz,a7 Zo⟩ ?_
  rintro a1 ⟨ck,cH⟩
  cases aF:aW.drop i with
  |nil=>rw[aF]at ag;simp[mG]at ag
  |cons x l=>
   rw[aF]at ag
   refine(oJ au (f2.go (dF.ex ck Zo Zo) Zo) aF s).Zm ?_
   rintro ac bA cK ⟨rfl,hF,eG⟩
   have iF:=eG.le
   have dg:U X bA n=zw [.str s, .Z fa] 2:=by rw[eG.aa _ Zo Zx];exact cH
   have sw:=gL.trans ((cg.of ck).trans eG)
   cases aD:ho x s with
   |true=>
    rw[aD]at hF
    simp only[mG,aD,ZE]at ag hF ⊢
    simp only[Zf]at ag
    subst ag
    refine cI cf.eq_1 (bc dg) ⟨?_⟩
    refine⟨i+1,(fZ aF).2.symm,hF.aa (zy) (zy), ?_,cK+1,fa,x.at_,rfl,rfl,Zo,Zo, ?_⟩
    ·exact⟨Zo,λb ag bV=>by rw[<-sw.aa b ag bV];exact zy⟩
    ·simp(disch:=omega) only[aB,a7]<;>rfl
   |false=>
    rw[aD]at hF
    simp only[mG,aD,Zy,ZD]at ag hF ⊢
    have bz:=zx S
    refine fI cf.eq_1 hq.eq_1 @pq @bz ⟨?_⟩
    refine⟨_, ?_,S+1,rfl,Zo,aL t0,aL t12,aL mb,a8,hF.aa (zy) (zy), ?_,ag⟩
    ·omega
    ·exact⟨Zo,λb ag bV=>by rw[<-sw.aa b ag bV];exact zy⟩
 ·have bE:S=(ar z).length:=Zo
  subst bE
  rw[List.drop_length]at ag
  simp only[pF,Zf]at ag
  subst ag
  refine cx ⟨?_⟩
  exact⟨i,rfl,dF,gL,rfl⟩
end
end
end Go.Proofs.YtpeabpmnlmaabaaGreatDoor

