/- Part of the proof of the last text; no conditions -/
import Derived.Test.YtpeabpmnlmaabaaGreatDoorYf
import Derived.KernelRfl
import Derived.Test.YtpeabpmnlmaabaaGreatDoorProg
set_option maxHeartbeats 8000000
set_option linter.all false
namespace Go.ba
noncomputable section
open Go.aQ
section
variable{C:aL}{h S' aK:R af}{j am aM:Nat}
def qk{sQ:List D}{ah:bI}(a:ah (.ptr j 0) (bi C h j (zu sQ sQ.length)) (j+1)):ar (hR sQ j) λr=>gu C h j r.1 r.2 ah:=⟨⟨a⟩⟩
def R3{b:Nat}{sQ:List D}{ah:D->R af->Prop}(a:ah (.ptr b 0) (bi C h b (zu sQ sQ.length))):ar (hR sQ b) λr=>ms C h b r.1 r.2 ah:=⟨⟨a⟩⟩
def uz(cs:List D):DW cs []=some cs:=rfl
def uy(cs:List D)(off size:Nat)(v:D)(dp:List (Nat×Nat×D)):DW cs ((off,size,v)::dp)=if v.cells.length=size/\off+size<=cs.length then DW (nY cs off v.cells) dp else none:=by
 have E:∀F b:Nat,(Nat.beq F b=true)=(F=b):=λF b=>propext ⟨Zl,λa=>by subst a;exact zb F⟩
 simp only[DW,fF,Zq,E,Nat.ble_eq]
def rQ(c:R D)(V:Nat)(v:D):dT c V [v]=c.set V (some v):=by simp[dT]
def bp{b n:Nat}{c:R D}{st:oP}(a:U C h b=some (.cells c n st))(V:Nat):aI C h (.ptr b V)=c.get V:=by rw[cl,a]
def TB{w:Bool}{F b:Prop}(a:b):iO w ba.undef F b:=⟨a⟩
def tN(b V n c:Nat):gC (.slice b V n c)=some (.Z (n:Int)):=by simp[gC,qH]
def wm(b V n c:Nat):gC (.fc b V n c)=some (.Z (n:Int)):=by simp[gC,qH]
def xO:gC .aT=some (.Z 0):=rfl
def AC(s:List Nat):np (.str s)=some (.Z (s.length:Int)):=by simp[np,qH]
def AH:∀F b:List Nat,mP F b=decide (F=b):=by
 intro F
 induction F with
 |nil=>intro b;cases b<;>simp[mP]
 |cons x F ai=>
  intro b
  cases b with
  |nil=>simp[mP]
  |cons e b=>
   simp only[mP,ai]
   by_cases a:x=e<;>simp[a]
def FI(t:Nat)(uv:Bool)(F b:List Nat):dc C h .eql t uv (.str F) (.str b)=some (.bool (decide (F=b))):=by
 simp[dc,Bp,w1,AH]
def FJ(t:Nat)(uv:Bool)(F b:List Nat):dc C h .neq t uv (.str F) (.str b)=some (.bool (decide (F≠b))):=by
 simp[dc,Bp,w1,AH]
def DY(off bs:Nat)(cs:List D):re false off bs (.agg cs)=cs[off]? :=by simp[re,fF]
def DX(off bs:Nat)(cs:List D):re true off bs (.agg cs)=some (.agg ((cs.drop off).take bs)):=by simp[re,fF]
def yB(t:Nat)(bu v:D):Gz t bu true (.iface t v)=some (.tuple [v, .zT]):=by simp[Gz,fF]
def DK(y:IntKind)(x:Int):ob .u64 (.int y x)=some (.int .u64 (x%18446744073709551616)):=by simp[ob,k9,oJ]
def acv{y:IntKind}{x:Int}(J: -9223372036854775808<=x)(Q:x<9223372036854775808):ob .i64 (.int y x)=some (.Z x):=by simp[ob,k9,wrap64 J Q]
def DL(s:List Nat):apR (.str s)=some (.str s):=rfl
structure cg(C:aL)(X:List Nat)(h:R af)(j:Nat)(S':R af)(am:Nat):Prop where
 le:j<=am
 aa:∀b,b<j->b∉X->U C S' b=U C h b
def cg.refl(X:List Nat)(h:R af)(j:Nat):cg C X h j h j:=⟨Zj _,λ_ _ _=>rfl⟩
def cg.trans{X:List Nat}{aK aJ a1:R af}{aM aR bn:Nat}(a:cg C X aK aM aJ aR)(y:cg C X aJ aR a1 bn):cg C X aK aM a1 bn:=
 ⟨ZA a.le y.le,λb ag ae=>(y.aa b (ZN ag a.le) ae).trans (a.aa b ag ae)⟩
def cg.of{X:List Nat}(a:bf C h j S' am):cg C X h j S' am:=⟨a.le,λb ag _=>a.aa b ag⟩
def cg.ep{X:List Nat}(a:cg C X h j S' am)(b V:Nat)(ag:b<j)(ae:b∉X):aI C S' (.ptr b V)=aI C h (.ptr b V):=by rw[cl,cl,a.aa b ag ae]
def cg.down{X eS:List Nat}{a6:Nat}(a:cg C X h j S' am)(aF:a6<=j)(ae:∀b∈X,b∈eS\/a6<=b):cg C eS h a6 S' am:=
 ⟨ZA aF a.le,λb ag B=>a.aa b Zo (λE=>by rcases ae b E with a|a;exact B a;omega)⟩
structure dL(C:aL)(h:R af)(P:Nat->Prop)(b:Nat)(aS:D)(bs:Nat)(bL:List (List D)):Prop where
 ag:bL≠[]->P b
 many:bL.length<=300000
 wide:∀r∈bL,r.length=bs
 len:gC aS=some (.Z (bL.length:Int))
 fI:∀(i:Nat),i<bL.length->gt bs aS (.Z (i:Int))=some (.ptr b (i*bs))
 cell:∀(i:Nat) r (T:Nat) v,bL[i]? =some r->r[T]? =some v->aI C h (.ptr b (i*bs+T))=some v
def dL.aa{P:Nat->Prop}{b bs:Nat}{aS:D}{bL:List (List D)}(a:dL C h P b aS bs bL)(y:∀e,P e->U C S' e=U C h e):dL C S' P b aS bs bL:=
 ⟨a.ag,a.many,a.wide,a.len,a.fI,λi r T v aN bJ=>by
  have aH:=y b (a.ag (λE=>by rw[E]at aN;cases aN))
  rw[cl,aH, <-cl];exact a.cell i r T v aN bJ⟩
def dL.lift{P bg:Nat->Prop}{b bs:Nat}{aS:D}{bL:List (List D)}(a:dL C h P b aS bs bL)(y:∀e,P e->bg e):dL C h bg b aS bs bL:=
 ⟨λE=>y _ (a.ag E),a.many,a.wide,a.len,a.fI,a.cell⟩
def adz{c:R D}:∀(r:List D) (V:Nat),(∀T v,r[T]? =some v->c.get (V+T)=some v)->c.k3 V r.length=some r:=by
 intro r
 induction r with
 |nil=>intro V _;rfl
 |cons F r ai=>
  intro V a
  have aY:=a 0 F rfl
  rw[ZX]at aY
  have J:=ai (V+1) (λT v bJ=>by have:=a (T+1) v (by simpa using bJ);rw[Nat.add_right_comm];simpa[ZJ,Nat.add_comm,Nat.add_left_comm]using this)
  simp[R.k3,aY,J]
def dL.row{P:Nat->Prop}{b bs:Nat}{aS:D}{bL:List (List D)}(a:dL C h P b aS bs bL)(aD:0<bs){i:Nat}{r:List D}(aN:bL[i]? =some r):cZ C h bs (.ptr b (i*bs))=some (.agg r):=by
 have az:=a.wide r (Zn aN)
 have aY:∃v,r[0]? =some v:=by
  cases r with
  |nil=>simp at az;omega
  |cons F k=>exact⟨F,rfl⟩
 obtain⟨v,bv⟩:=aY
 have ax:=a.cell i r 0 v aN bv
 rw[cl]at ax
 rw[wj]
 split at ax
 ·rename_i c _ _ ag
  have:=adz (c:=c) r (i*bs) (λT v bJ=>by
   have:=a.cell i r T v aN bJ
   rw[cl,ag]at this
   exact this)
  rw[az]at this
  rw[this];rfl
 ·cases ax
def S7{bs:Nat}:∀(bL:List (List D)),(∀r∈bL,r.length=bs)->∀(i:Nat) r (T:Nat) v,bL[i]? =some r->r[T]? =some v->bL.flatten[i*bs+T]? =some v:=by
 intro bL
 induction bL with
 |nil=>intro _ i r T v aN;simp at aN
 |cons F k ai=>
  intro Y i r T v aN bJ
  have aA:=Y F (Zv ..)
  have vU:T<r.length:=(Zb.1 bJ).1
  cases i with
  |zero=>
   simp at aN;subst aN
   rw[Yk,zl,ZS,ZW Zo];exact bJ
  |succ i=>
   simp at aN
   rw[Yk,ZT (by rw[aA,Z7];omega),aA]
   have:(i+1)*bs+T-bs=i*bs+T:=by rw[Z7];omega
   rw[this]
   exact ai (λr mL=>Y r (Zu _ mL)) i r T v aN bJ
def k1.rH{bs:Nat}{s:D}{bL:List (List D)}{cw:List Nat}(a:k1 C h s bs bL.flatten cw)(eN:0<bs)(Y:∀r∈bL,r.length=bs)(bo:bL.length<=300000){P:Nat->Prop}(az:∀e∈cw,P e):∃b,dL C h P b s bs bL:=by
 have gT:=uA Y
 have U:∀(bL:List (List D)),(∀r∈bL,r.length=bs)->∀(i:Nat) r (T:Nat) v,bL[i]? =some r->r[T]? =some v->bL.flatten[i*bs+T]? =some v:=by
  intro bL
  induction bL with
  |nil=>intro _ i r T v aN;simp at aN
  |cons F k ai=>
   intro Y i r T v aN bJ
   have aA:=Y F (Zv ..)
   have vU:T<r.length:=(Zb.1 bJ).1
   cases i with
   |zero=>
    simp at aN;subst aN
    rw[Yk,zl,ZS,ZW Zo];exact bJ
   |succ i=>
    simp at aN
    rw[Yk,ZT (by rw[aA,Z7];omega),aA]
    have:(i+1)*bs+T-bs=i*bs+T:=by rw[Z7];omega
    rw[this]
    exact ai (λr mL=>Y r (Zu _ mL)) i r T v aN bJ
 rcases a with ⟨J,Q,ak⟩|⟨b,fz,n,c,J,Q,ak,ay,bt,b4,dh⟩
 ·have UM:bL.length=0:=by
   rw[Q,Z3]at gT
   rcases Nat.mul_eq_zero.1 gT.symm with a|a
   ·exact a
   ·omega
  have UM:bL=[]:=List.length_eq_zero_iff.1 UM
  subst UM J
  exact⟨0,λE=>absurd rfl E,Zs,Y,rfl,λi aN=>by simp at aN,λi r T v aN=>by simp at aN⟩
 ·have aF:n=bL.length:=Nat.eq_of_mul_eq_mul_right eN (by rw[<-Q,gT])
  subst aF J
  refine⟨b,λ_=>az b (by rw[ak];exact Zv ..),bo,Y,wm ..,λi aN=>by rw[H6 _ aN,ZS],λi r T v aN bJ=> ?_⟩
  rw[cl,b4]
  exact(dh _).trans (U bL Y i r T v aN bJ)
def IE{b bs y cap:Nat}{bL:List (List D)}{st:oP}(ag:U C h b=some (.cells (R.ofList bL.flatten 0 .nil) (y*bs) st))(aH:bL.length=y)(Y:∀r∈bL,r.length=bs)(bo:y<=300000){P:Nat->Prop}(bq:P b):dL C h P b (.slice b 0 y cap) bs bL:=by
 subst aH
 have U:∀(bL:List (List D)),(∀r∈bL,r.length=bs)->∀(i:Nat) r (T:Nat) v,bL[i]? =some r->r[T]? =some v->bL.flatten[i*bs+T]? =some v:=by
  intro bL
  induction bL with
  |nil=>intro _ i r T v aN;simp at aN
  |cons F k ai=>
   intro Y i r T v aN bJ
   have aA:=Y F (Zv ..)
   have vU:T<r.length:=(Zb.1 bJ).1
   cases i with
   |zero=>
    simp at aN;subst aN
    rw[Yk,zl,ZS,ZW Zo];exact bJ
   |succ i=>
    simp at aN
    rw[Yk,ZT (by rw[aA,Z7];omega),aA]
    have:(i+1)*bs+T-bs=i*bs+T:=by rw[Z7];omega
    rw[this]
    exact ai (λr mL=>Y r (Zu _ mL)) i r T v aN bJ
 refine⟨λ_=>bq,bo,Y,tN ..,λi aN=>by rw[H5 _ aN,ZS],λi r T v aN bJ=> ?_⟩
 rw[cl,ag]
 exact(mR _ _).trans (U bL Y i r T v aN bJ)
def eD(t:er):List D:=[.bool t.b, .bool t.s, .Z t.w]
def qi(C:aL)(h:R af)(b:Nat):Prop:=∃c n,U C h b=some (.cells c n .own)/\8<n
def qi.aa{b:Nat}(a:qi C h b)(y:U C S' b=U C h b):qi C S' b:=by unfold qi;rw[y];exact a
mutual
def cE(C:aL)(h:R af):(Nat->Prop)->bB->D->Prop
 |P, .mk kind at_ name no ty n args,v=>∃b,v= .ptr b 0/\P b/\qi C h b/\aI C h (.ptr b 0)=some (.Z kind)/\aI C h (.ptr b 1)=some (.Z at_)/\aI C h (.ptr b 2)=some (.str name)/\aI C h (.ptr b 3)=some (.bool no)
   /\aI C h (.ptr b 4)=some (.bool ty.b)/\aI C h (.ptr b 5)=some (.bool ty.s)/\aI C h (.ptr b 6)=some (.Z ty.w)/\aI C h (.ptr b 7)=some (.int .u64 n)
   /\∃aS cO br,aI C h (.ptr b 8)=some aS/\dL C h P cO aS 1 (br.map λv=>[v])/\(br≠[]->cO≠b)/\dz C h (λe=>P e/\e≠b/\e≠cO) args br
def dz(C:aL)(h:R af):(Nat->Prop)->List bB->List D->Prop
 |_,[],br=>br=[]
 |P,E::ca,br=>∃v nx bg,br=v::nx/\(∀e,bg e->P e)/\cE C h bg E v/\dz C h (λe=>P e/\¬bg e) ca nx
end
mutual
def cE.aa{P:Nat->Prop}(y:∀e,P e->U C S' e=U C h e):∀(E:bB) (v:D),cE C h P E v->cE C S' P E v
 | .mk kind at_ name no ty n args,v,a=>by
   unfold cE at a ⊢
   obtain⟨b,J,bq,bh,Q,ak,ay,bt,b4,dh,eI,hG,aS,cO,br,kx,qt,vJ,vF⟩:=a
   have az:∀V,aI C S' (.ptr b V)=aI C h (.ptr b V):=λV=>by rw[cl,cl,y b bq]
   exact⟨b,J,bq,bh.aa (y b bq),by rw[az];exact Q,by rw[az];exact ak,by rw[az];exact ay,by rw[az];exact bt,by rw[az];exact b4,by rw[az];exact dh,by rw[az];exact eI,by rw[az];exact hG,aS,cO,br,by rw[az];exact kx,qt.aa y,vJ,dz.aa (λe B=>y e B.1) args br vF⟩
def dz.aa{P:Nat->Prop}(y:∀e,P e->U C S' e=U C h e):∀(ca:List bB) (br:List D),dz C h P ca br->dz C S' P ca br
 |[],br,a=>by unfold dz at a ⊢;exact a
 |E::ca,br,a=>by
  unfold dz at a ⊢
  obtain⟨v,nx,bg,J,b3,Q,ak⟩:=a
  exact⟨v,nx,bg,J,b3,cE.aa (λe B=>y e (b3 e B)) E v Q,dz.aa (λe B=>y e B.1) ca nx ak⟩
end
mutual
def cE.lift{P bg:Nat->Prop}(y:∀e,P e->bg e):∀(E:bB) (v:D),cE C h P E v->cE C h bg E v
 | .mk kind at_ name no ty n args,v,a=>by
   unfold cE at a ⊢
   obtain⟨b,J,bq,bh,Q,ak,ay,bt,b4,dh,eI,hG,aS,cO,br,kx,qt,vJ,vF⟩:=a
   exact⟨b,J,y b bq,bh,Q,ak,ay,bt,b4,dh,eI,hG,aS,cO,br,kx,qt.lift y,vJ,dz.lift (λe B=>⟨y e B.1,B.2⟩) args br vF⟩
def dz.lift{P bg:Nat->Prop}(y:∀e,P e->bg e):∀(ca:List bB) (br:List D),dz C h P ca br->dz C h bg ca br
 |[],br,a=>by unfold dz at a ⊢;exact a
 |E::ca,br,a=>by
  unfold dz at a ⊢
  obtain⟨v,nx,eK,J,b3,Q,ak⟩:=a
  exact⟨v,nx,eK,J,λe B=>y e (b3 e B),Q,dz.lift (λe B=>⟨y e B.1,B.2⟩) ca nx ak⟩
end
def dz.nil{P:Nat->Prop}:dz C h P [] []:=by unfold dz;rfl
def ho(kind at_:Int)(name:aX)(no:Bool)(ty:er)(n:Int)(aS:D):List D:=[.Z kind, .Z at_, .str name, .bool no, .bool ty.b, .bool ty.s, .Z ty.w, .int .u64 n,aS]
def Wa:8<9:=by decide
def cE.of{P:Nat->Prop}{b cO:Nat}{kind at_ n:Int}{name:aX}{no:Bool}{ty:er}{aS:D}{m:Nat}{st:oP}{args:List bB}{br:List D}(ag:U C h b=some (.cells (R.ofList (ho kind at_ name no ty n aS) 0 .nil) m st))(bq:P b)
 (aD:dL C h P cO aS 1 (br.map λv=>[v]))(vJ:br≠[]->cO≠b)(aA:dz C h (λe=>P e/\e≠b/\e≠cO) args br)(bh:st= .own:=by rfl)(bo:8<m:=by exact Wa):cE C h P (.mk kind at_ name no ty n args) (.ptr b 0):=by
 unfold cE
 refine⟨b,rfl,bq,⟨_,_,bh▸ag,bo⟩, ?_, ?_, ?_, ?_, ?_, ?_, ?_, ?_,aS,cO,br, ?_,aD,vJ,aA⟩<;>(rw[bp ag,mR];rfl)
def dL.nil(P:Nat->Prop)(bs:Nat):dL C h P 0 .aT bs []:=⟨λE=>absurd rfl E,Zs,Zs,rfl,λi aN=>by simp at aN,λi r T v aN=>by simp at aN⟩
def cE.leaf{P:Nat->Prop}{b:Nat}{kind at_ n:Int}{name:aX}{no:Bool}{ty:er}{m:Nat}{st:oP}(ag:U C h b=some (.cells (R.ofList (ho kind at_ name no ty n .aT) 0 .nil) m st))(bq:P b)(bh:st= .own:=by rfl)(bo:8<m:=by exact Wa):cE C h P (.mk kind at_ name no ty n []) (.ptr b 0):=
 cE.of (br:=[]) ag bq (dL.nil P 1) (λa=>absurd rfl a) dz.nil bh bo
def adi:∀br:List D,(br.map λv=>[v]).flatten=br:=by
 intro br
 induction br with
 |nil=>rfl
 |cons F k ai=>simp[ai]
def cE.lit{P:Nat->Prop}{b cO y cap:Nat}{kind at_ n:Int}{name:aX}{no:Bool}{ty:er}{m:Nat}{st jx:oP}{args:List bB}{br:List D}(ag:U C h b=some (.cells (R.ofList (ho kind at_ name no ty n (.slice cO 0 y cap)) 0 .nil) m st))(bq:P b)
 (KK:U C h cO=some (.cells (R.ofList br 0 .nil) y jx))(atd:P cO)(aH:br.length=y)(iR:y<=1000)(vJ:cO≠b)(aA:dz C h (λe=>P e/\e≠b/\e≠cO) args br)(bh:st= .own:=by rfl)(bo:8<m:=by exact Wa):cE C h P (.mk kind at_ name no ty n args) (.ptr b 0):=
 cE.of ag bq (IE (bL:=br.map λv=>[v]) (by rw[adi,Z5];exact KK) (by simpa using aH) Zs Zo atd) (λ_=>vJ) aA bh bo
def dz.one{P bg:Nat->Prop}{E:bB}{v:D}(a:cE C h bg E v)(b3:∀e,bg e->P e):dz C h P [E] [v]:=by
 unfold dz;exact⟨v,[],bg,rfl,b3,a,dz.nil⟩
def dz.two{P bg eK:Nat->Prop}{E f:bB}{v w:D}(a:cE C h bg E v)(y:cE C h eK f w)(b3:∀e,bg e->P e)(Y:∀e,eK e->P e/\¬bg e):dz C h P [E,f] [v,w]:=by
 unfold dz;exact⟨v,[w],bg,rfl,b3,a,dz.one y Y⟩
def dz.snoc{bg:Nat->Prop}{E:bB}{v:D}(y:cE C h bg E v):∀{ca:List bB}{br:List D}{py P:Nat->Prop},dz C h py ca br->(∀e,py e->P e)->(∀e,bg e->P e/\¬py e)->dz C h P (ca++[E]) (br++[v]):=by
 intro ca
 induction ca with
 |nil=>intro br py P a J Q;unfold dz at a;subst a;exact dz.one y (λe B=>(Q e B).1)
 |cons F k ai=>
  intro br py P a J Q
  unfold dz at a
  obtain⟨w,nx,eK,rfl,b3,ak,ay⟩:=a
  show dz C h P (F::(k++[E])) (w::(nx++[v]))
  unfold dz
  exact⟨w,nx++[v],eK,rfl,λe B=>J e (b3 e B),ak,ai ay (λe B=>⟨J e B.1,B.2⟩) (λe B=>⟨⟨(Q e B).1,λjT=>(Q e B).2 (b3 e jT)⟩,λpU=>(Q e B).2 pU.1⟩)⟩
def cE.ptr{P:Nat->Prop}:∀{E:bB}{v:D},cE C h P E v->∃b,v= .ptr b 0/\P b/\aI C h (.ptr b 0)=some (.Z E.kind)
 | .mk ..,_,a=>by
   unfold cE at a
   obtain⟨b,J,bq,_,Q,_⟩:=a
   exact⟨b,J,bq,Q⟩
def cE.open{P:Nat->Prop}:∀{E:bB}{v:D},cE C h P E v->∃b aS cO br,v= .ptr b 0/\P b/\aI C h (.ptr b 0)=some (.Z E.kind)/\aI C h (.ptr b 1)=some (.Z E.at_)/\aI C h (.ptr b 2)=some (.str E.name)/\aI C h (.ptr b 3)=some (.bool E.no)
 /\aI C h (.ptr b 4)=some (.bool E.ty.b)/\aI C h (.ptr b 5)=some (.bool E.ty.s)/\aI C h (.ptr b 6)=some (.Z E.ty.w)/\aI C h (.ptr b 7)=some (.int .u64 E.n)
 /\aI C h (.ptr b 8)=some aS/\dL C h P cO aS 1 (br.map λv=>[v])/\dz C h P E.args br
 | .mk ..,_,a=>by
   unfold cE at a
   obtain⟨b,J,bq,bh,Q,ak,ay,bt,b4,dh,eI,hG,aS,cO,br,kx,qt,vJ,vF⟩:=a
   exact⟨b,aS,cO,br,J,bq,Q,ak,ay,bt,b4,dh,eI,hG,kx,qt,dz.lift (λe B=>B.1) _ _ vF⟩
def dz.len:∀{ca:List bB}{br:List D}{P:Nat->Prop},dz C h P ca br->br.length=ca.length:=by
 intro ca
 induction ca with
 |nil=>intro br P a;unfold dz at a;subst a;rfl
 |cons F k ai=>
  intro br P a
  unfold dz at a
  obtain⟨w,nx,bg,rfl,b3,J,Q⟩:=a
  simp[ai Q]
def dz.get:∀{ca:List bB}{br:List D}{P:Nat->Prop},dz C h P ca br->∀(i:Nat) E,ca[i]? =some E->∃v,br[i]? =some v/\cE C h P E v:=by
 intro ca
 induction ca with
 |nil=>intro br P a i E bz;simp at bz
 |cons F k ai=>
  intro br P a i E bz
  unfold dz at a
  obtain⟨w,nx,bg,rfl,b3,J,Q⟩:=a
  cases i with
  |zero=>simp at bz;subst bz;exact⟨w,rfl,cE.lift b3 _ _ J⟩
  |succ i=>
   obtain⟨v,ak,ay⟩:=ai Q i E (by simpa using bz)
   exact⟨v,by simpa using ak,cE.lift (λe B=>B.1) _ _ ay⟩
def dL.one{P:Nat->Prop}{b:Nat}{aS:D}{br:List D}(a:dL C h P b aS 1 (br.map λv=>[v])){i:Nat}{v:D}(aN:br[i]? =some v):gt 1 aS (.Z (i:Int))=some (.ptr b i)/\aI C h (.ptr b i)=some v/\P b:=by
 have k6:=(Zb.1 aN).1
 have J:=a.fI i (by simpa using k6)
 have Q:=a.cell i [v] 0 v (by rw[Zw,aN];rfl) rfl
 rw[Z5]at J
 rw[Z5,ZX]at Q
 exact⟨J,Q,a.ag (λE=>by simp at E;subst E;simp at aN)⟩
def aoC{bs y:Nat}{x:D}{m:List D}(ae:lG C h bs x=some (y,m))(aH:0<y)(ag:y<=1048576):
 jP C h j bs .aT x=some (.fq (.fc j 0 y bs) (bi C h j (some (.cells (R.ofList m 0 .nil) m.length (.grow [])))) (j+1)):=by
 simp only[jP,ae]
 rw[h1,Zh Zo]
 simp[yy,uG,lr ag,nQ]
def aoA{bs y b n:Nat}{x:D}{m:List D}{c:R D}{fz:List Nat}(cm:0<bs)(ae:lG C h bs x=some (y,m))(aH:0<y)(ag:n+y<=1048576)(asD:ju m=true)
 (aF:C.a6<=b)(bh:U C h b=some (.cells c (n*bs) (.grow fz))):
 jP C h j bs (.fc b 0 n bs) x=some (.fq (.fc j 0 (n+y) bs) (bi C (bi C h b (some (.cells c (n*bs) .kq))) j (some (.cells (dT c (n*bs) m) (n*bs+m.length) (.grow (b::fz))))) (j+1)):=by
 simp only[jP,ae]
 rw[h1,Zh Zo]
 have c2:¬(0+(n+y)*bs<=n*bs):=by
  have:0<y*bs:=Nat.mul_pos aH cm
  rw[Z7];omega
 have T5:Nat.ble (0+(n+y)*bs) (n*bs)=false:=by
  cases b3:Nat.ble (0+(n+y)*bs) (n*bs)with
  |false=>rfl
  |true=>exact absurd (jQ b3) c2
 simp only[yy,JC,bh,kM,lr aF,lr ag,asD,T5]
 simp[fF,nQ]
def aoB{bs y b n:Nat}{x:D}{m k:List D}{c:R D}{st:oP}{aj:Nat}(cm:0<bs)(ae:lG C h bs x=some (y,m))(aH:0<y)(ag:n+y<=1048576)
 (bh:U C h b=some (.cells c aj st))(ax:yn c k)(az:k.length=n*bs):
 jP C h j bs (.slice b 0 n n) x=some (.fq (.fc j 0 (n+y) bs) (bi C h j (some (.cells (R.ofList (k++m) 0 .nil) (k++m).length (.grow [])))) (j+1)):=by
 simp only[jP,ae]
 rw[h1,Zh Zo]
 have T5:Nat.ble (n+y) n=false:=by
  cases b3:Nat.ble (n+y) n with
  |false=>rfl
  |true=>exact absurd (jQ b3) Zo
 have KL:nG C h b 0 (n*bs)=some k:=by
  simp only[nG,cellsOf,bh]
  rw[adA ax _ _ Zo]
  simp[<-az]
 simp only[yy,T5,ls,KL,uG,lr ag,ff,nQ,mE,hv]
def gw(C:aL)(h:R af)(s:D)(bs:Nat)(k:List D)(cw:List Nat):Prop:=
 k1 C h s bs k cw\/∃b n c st,s= .slice b 0 n n/\k.length=n*bs/\cw=[b]/\U C h b=some (.cells c (n*bs) st)/\yn c k
def gw.aa{s:D}{bs:Nat}{k:List D}{cw:List Nat}(a:gw C h s bs k cw)(aH:∀e∈cw,U C S' e=U C h e):gw C S' s bs k cw:=by
 rcases a with a|⟨b,n,c,st,J,Q,ak,ay,bt⟩
 ·exact .inl (a.aa aH)
 ·exact .inr ⟨b,n,c,st,J,Q,ak,by rw[aH b (by rw[ak];exact Zv ..)];exact ay,bt⟩
def gw.append{bs y:Nat}{s x:D}{k m:List D}{cw:List Nat}(a:gw C h s bs k cw)(cm:0<bs)(ae:lG C h bs x=some (y,m))(bo:m.length=y*bs)(aH:0<y)(J:ju m=true)
 (ag:k.length+m.length<=1048576)(aF:C.a6<=j)(c2:∀e∈cw,e<j):
 ∃eX S' gL,jP C h j bs s x=some (.fq eX S' (j+1))/\k1 C S' eX bs (k++m) gL/\(∀e∈gL,e=j\/e∈cw)/\∀e,e≠j->e∉cw->U C S' e=U C h e:=by
 have ae6:y<=y*bs:=YW y cm
 rcases a with (⟨rfl,rfl,rfl⟩|⟨b,fz,n,c,rfl,Q,rfl,ay,bt,b4,dh⟩)|⟨b,n,c,st,rfl,Q,rfl,ay,bt⟩
 ·refine⟨_,_,[j],aoC ae aH (by simp at ag;omega), .inr ⟨j,[],y,_,rfl,by simpa using bo,rfl,by simpa using aF,Zs,by rw[bb aF,bo], ?_⟩,Zs,λe B _=>aC aF B⟩
  simpa using nk m
 ·have kz:n<=n*bs:=YW n cm
  have fY:b<j:=c2 b (Zv ..)
  refine⟨_,_,j::b::fz,aoA cm ae aH Zo J (ay b (Zv ..)) b4, .inr ⟨j,b::fz,n+y,dT c (n*bs) m,rfl,by rw[ZK,Q,bo,Z7],rfl, ?_, ?_, ?_, ?_⟩, ?_,λe B PN=> ?_⟩
  ·intro e B
   rcases Zt.1 B with rfl|B
   ·exact aF
   ·exact ay e B
  ·intro ax
   have:=c2 j ax
   omega
  ·rw[bb aF,bo,Z7]
  ·rw[<-Q];exact dh.app m
  ·intro e B
   rcases Zt.1 B with rfl|B
   ·exact .inl rfl
   ·exact .inr B
  ·simp only[Zt,YU]at PN
   rw[aC aF B,aC (ay b (Zv ..)) PN.1]
 ·have kz:n<=n*bs:=YW n cm
  refine⟨_,_,[j],aoB cm ae aH Zo ay bt Q, .inr ⟨j,[],n+y,_,rfl,by rw[ZK,Q,bo,Z7],rfl,by simpa using aF,Zs,by rw[bb aF,ZK,Q,bo,Z7],nk _⟩,Zs,λe B _=>aC aF B⟩
def gw.rH{bs:Nat}{s:D}{bL:List (List D)}{cw:List Nat}(a:gw C h s bs bL.flatten cw)(eN:0<bs)(Y:∀r∈bL,r.length=bs)(bo:bL.length<=300000){P:Nat->Prop}(az:∀e∈cw,P e):∃b,dL C h P b s bs bL:=by
 rcases a with a|⟨b,n,c,st,rfl,Q,rfl,ay,bt⟩
 ·exact a.rH eN Y bo az
 ·have gT:=uA Y
  have aF:n=bL.length:=Nat.eq_of_mul_eq_mul_right eN (by rw[<-Q,gT])
  subst aF
  refine⟨b,λ_=>az b (Zv ..),bo,Y,tN ..,λi aN=>by rw[H5 _ aN,ZS],λi r T v aN bJ=> ?_⟩
  rw[cl,ay]
  exact(bt _).trans (S7 bL Y i r T v aN bJ)
def gw.Mr{s:D}{br:List D}{cw:List Nat}(a:gw C h s 1 br cw){P:Nat->Prop}(bo:br.length<=300000)(az:∀e∈cw,P e):∃b,dL C h P b s 1 (br.map λv=>[v]):=by
 have cy:gw C h s 1 (br.map λv=>[v]).flatten cw:=by rw[adi];exact a
 exact cy.rH Zd Zs (by simpa using bo) az
end
end
noncomputable section
structure jA(G:Prop):Prop where
 V:G
def Ti{b9 A:Prop}(f:b9)(a:b9->A:=by intro f;(simp(disch:=omega) only[x2,x1,FE,DC,Bq,DD,Ft,Fs,E4,AD,vy,Cv,EV,il,wl,Cx,EZ,E0,E1,tM,E2,EW,EX,EY,FR,FV,FW,FX,FY,FZ,F0,F1,F2,FS,FT,FU,yd,FQ,mR,D.cells,F5,F4,F3,Fh,EK,EI,EJ,EH,EG,EL,FI,FJ,DY,DX,yB,DK,DL,tN,wm,xO,AC,fv,uz,uy,nY,zo,Yf,zp,Yw,Yx,ze,Yc,Z1,ZF,Z3,Yq,Yb,Yi,Z6,ZL,ZS,ZX,ZE,ZC,reduceIte,Nat.reduceEqDiff,Nat.reduceAdd,Nat.reduceMul,Nat.reduceLT,Nat.reduceBEq,YB,Yl,Ys,Yt,ff,ls,YV,Yo,YD,Nat.reduceLeDiff,Nat.reduceSub,hC,f])):A:=a f
def arS{b9 A:Prop}(f:b9)(a:b9->A:=by intro f;(simp(disch:=omega) only[x2,x1,FE,DC,Bq,DD,Ft,Fs,E4,AD,vy,Cv,EV,il,wl,Cx,EZ,E0,E1,tM,E2,EW,EX,EY,FR,FV,FW,FX,FY,FZ,F0,F1,F2,FS,FT,FU,yd,FQ,mR,D.cells,F5,F4,F3,Fh,EK,EI,EJ,EH,EG,EL,FI,FJ,DY,DX,yB,DK,DL,tN,wm,xO,AC,fv,uz,uy,nY,zo,Yf,zp,Yw,Yx,ze,Yc,Z1,ZF,Z3,Yq,Yb,Yi,Z6,ZL,ZS,ZX,ZE,ZC,reduceIte,Nat.reduceEqDiff,Nat.reduceAdd,Nat.reduceMul,Nat.reduceLT,Nat.reduceBEq,YB,Yl,Ys,Yt,ff,ls,YV,Yo,YD,Nat.reduceLeDiff,Nat.reduceSub,hC,f]);rfl):A:=a f
def arT{b9 A bm:Prop}(f:b9)(t:bm)(a:b9->bm->A:=by intro f t;(simp(disch:=omega) only[x2,x1,FE,DC,Bq,DD,Ft,Fs,E4,AD,vy,Cv,EV,il,wl,Cx,EZ,E0,E1,tM,E2,EW,EX,EY,FR,FV,FW,FX,FY,FZ,F0,F1,F2,FS,FT,FU,yd,FQ,mR,D.cells,F5,F4,F3,Fh,EK,EI,EJ,EH,EG,EL,FI,FJ,DY,DX,yB,DK,DL,tN,wm,xO,AC,fv,uz,uy,nY,zo,Yf,zp,Yw,Yx,ze,Yc,Z1,ZF,Z3,Yq,Yb,Yi,Z6,ZL,ZS,ZX,ZE,ZC,reduceIte,Nat.reduceEqDiff,Nat.reduceAdd,Nat.reduceMul,Nat.reduceLT,Nat.reduceBEq,YB,Yl,Ys,Yt,ff,ls,YV,Yo,YD,Nat.reduceLeDiff,Nat.reduceSub,hC,f]);exact t):A:=a f t
def arL{b9 A bm:Prop}(f:b9)(y:jA bm)(a:b9->jA bm->A:=by intro f y;(simp(disch:=omega) only[x2,x1,FE,DC,Bq,DD,Ft,Fs,E4,AD,vy,Cv,EV,il,wl,Cx,EZ,E0,E1,tM,E2,EW,EX,EY,FR,FV,FW,FX,FY,FZ,F0,F1,F2,FS,FT,FU,yd,FQ,mR,D.cells,F5,F4,F3,Fh,EK,EI,EJ,EH,EG,EL,FI,FJ,DY,DX,yB,DK,DL,tN,wm,xO,AC,fv,uz,uy,nY,zo,Yf,zp,Yw,Yx,ze,Yc,Z1,ZF,Z3,Yq,Yb,Yi,Z6,ZL,ZS,ZX,ZE,ZC,reduceIte,Nat.reduceEqDiff,Nat.reduceAdd,Nat.reduceMul,Nat.reduceLT,Nat.reduceBEq,YB,Yl,Ys,Yt,ff,ls,YV,Yo,YD,Nat.reduceLeDiff,Nat.reduceSub,hC,f]);exact y.V):A:=a f y
def ce{b9 A bm:Prop}(f:b9)(y:jA bm)(a:b9->jA bm->A:=by intro f y;(repeat(with_reducible first|refine gk ?_ |refine oB ?_ |refine mS ?_ |refine qk ?_ |refine R3 ?_ |refine q6 ?_ |refine Wh ?_ |refine Wg ?_ |refine Vy ?_ |refine VA ?_ |refine Vx ?_ |refine Vz ?_ |refine VY ?_ |refine Si ?_ |refine Wf ?_ |refine We ?_ |refine Hb ?_ |refine Ha ?_ |refine G9 ?_ |refine G8 ?_ |refine TB ?_ |refine w0 ?_ |refine wZ ?_ |refine LD ?_ |refine WK ?_ |refine WL ?_ |(refine f7 (iJ (by(first|assumption|(simp(disch:=omega) only[bb,aC,f]<;>rfl)|(simp(disch:=omega) only[bb,aC,f]))) Zo rfl Zd Zd rfl) ?_)|((conv=>whnf;arg 1;simp(disch:=omega) only[x2,x1,FE,DC,Bq,DD,Ft,Fs,E4,AD,vy,Cv,EV,il,wl,Cx,EZ,E0,E1,tM,E2,EW,EX,EY,FR,FV,FW,FX,FY,FZ,F0,F1,F2,FS,FT,FU,yd,FQ,mR,D.cells,F5,F4,F3,Fh,EK,EI,EJ,EH,EG,EL,FI,FJ,DY,DX,yB,DK,DL,tN,wm,xO,AC,fv,uz,uy,nY,zo,Yf,zp,Yw,Yx,ze,Yc,Z1,ZF,Z3,Yq,Yb,Yi,Z6,ZL,ZS,ZX,ZE,ZC,reduceIte,Nat.reduceEqDiff,Nat.reduceAdd,Nat.reduceMul,Nat.reduceLT,Nat.reduceBEq,YB,Yl,Ys,Yt,ff,ls,YV,Yo,YD,Nat.reduceLeDiff,Nat.reduceSub,hC,f]);(first|refine oB ?_ |refine mS ?_ |refine w0 ?_ |refine wZ ?_ |refine Hb ?_ |refine Ha ?_ |refine G9 ?_ |refine G8 ?_))|dsimp only));exact y.V):A:=a f y
def o1{b9 A bm:Prop}(f:b9)(y:jA bm)(a:b9->jA bm->A:=by intro f y;(repeat(with_reducible first|refine oB ?_ |refine mS ?_ |refine qk ?_ |refine R3 ?_ |refine q6 ?_ |refine Wh ?_ |refine Wg ?_ |refine Vy ?_ |refine VA ?_ |refine Vx ?_ |refine Vz ?_ |refine VY ?_ |refine Si ?_ |refine Wf ?_ |refine We ?_ |refine Hb ?_ |refine Ha ?_ |refine G9 ?_ |refine G8 ?_ |refine TB ?_ |refine w0 ?_ |refine wZ ?_ |refine LD ?_ |refine WK ?_ |refine WL ?_ |(refine f7 (iJ (by(first|assumption|(simp(disch:=omega) only[bb,aC,f]<;>rfl)|(simp(disch:=omega) only[bb,aC,f]))) Zo rfl Zd Zd rfl) ?_)|((conv=>whnf;arg 1;simp(disch:=omega) only[x2,x1,FE,DC,Bq,DD,Ft,Fs,E4,AD,vy,Cv,EV,il,wl,Cx,EZ,E0,E1,tM,E2,EW,EX,EY,FR,FV,FW,FX,FY,FZ,F0,F1,F2,FS,FT,FU,yd,FQ,mR,D.cells,F5,F4,F3,Fh,EK,EI,EJ,EH,EG,EL,FI,FJ,DY,DX,yB,DK,DL,tN,wm,xO,AC,fv,uz,uy,nY,zo,Yf,zp,Yw,Yx,ze,Yc,Z1,ZF,Z3,Yq,Yb,Yi,Z6,ZL,ZS,ZX,ZE,ZC,reduceIte,Nat.reduceEqDiff,Nat.reduceAdd,Nat.reduceMul,Nat.reduceLT,Nat.reduceBEq,YB,Yl,Ys,Yt,ff,ls,YV,Yo,YD,Nat.reduceLeDiff,Nat.reduceSub,hC,f]);(first|refine oB ?_ |refine mS ?_ |refine w0 ?_ |refine wZ ?_ |refine Hb ?_ |refine Ha ?_ |refine G9 ?_ |refine G8 ?_))|dsimp only));exact y.V):A:=a f y
def ti{b9 A bm:Prop}(f:b9)(y:jA bm)(a:b9->jA bm->A:=by intro f y;(with_reducible first|refine gk ?_ |refine oB ?_ |refine mS ?_ |refine qk ?_ |refine R3 ?_ |refine q6 ?_ |refine Wh ?_ |refine Wg ?_ |refine Vy ?_ |refine VA ?_ |refine Vx ?_ |refine Vz ?_ |refine VY ?_ |refine Si ?_ |refine Wf ?_ |refine We ?_ |refine Hb ?_ |refine Ha ?_ |refine G9 ?_ |refine G8 ?_ |refine TB ?_ |refine w0 ?_ |refine wZ ?_ |refine LD ?_ |refine WK ?_ |refine WL ?_ |(refine f7 (iJ (by(first|assumption|(simp(disch:=omega) only[bb,aC,f]<;>rfl)|(simp(disch:=omega) only[bb,aC,f]))) Zo rfl Zd Zd rfl) ?_)|((conv=>whnf;arg 1;simp(disch:=omega) only[x2,x1,FE,DC,Bq,DD,Ft,Fs,E4,AD,vy,Cv,EV,il,wl,Cx,EZ,E0,E1,tM,E2,EW,EX,EY,FR,FV,FW,FX,FY,FZ,F0,F1,F2,FS,FT,FU,yd,FQ,mR,D.cells,F5,F4,F3,Fh,EK,EI,EJ,EH,EG,EL,FI,FJ,DY,DX,yB,DK,DL,tN,wm,xO,AC,fv,uz,uy,nY,zo,Yf,zp,Yw,Yx,ze,Yc,Z1,ZF,Z3,Yq,Yb,Yi,Z6,ZL,ZS,ZX,ZE,ZC,reduceIte,Nat.reduceEqDiff,Nat.reduceAdd,Nat.reduceMul,Nat.reduceLT,Nat.reduceBEq,YB,Yl,Ys,Yt,ff,ls,YV,Yo,YD,Nat.reduceLeDiff,Nat.reduceSub,hC,f]);(first|refine oB ?_ |refine mS ?_ |refine w0 ?_ |refine wZ ?_ |refine Hb ?_ |refine Ha ?_ |refine G9 ?_ |refine G8 ?_))|dsimp only);exact y.V):A:=a f y
def be{A:Prop}(a:A:=by exact Ti trivial):A:=a
def fO{A:Prop}(a:A:=by exact arS trivial):A:=a
def aZ{A bm:Prop}(t:bm)(a:bm->A:=by intro t;exact arT trivial t):A:=a t
def BK{A bm:Prop}(y:jA bm)(a:jA bm->A:=by intro y;refine arL trivial ⟨?_⟩;exact y.V):A:=a y
def cI{A bm:Prop}(y:jA bm)(a:jA bm->A:=by intro y;refine ce trivial ⟨?_⟩;exact y.V):A:=a y
def pI{A bm:Prop}(y:jA bm)(a:jA bm->A:=by intro y;refine o1 trivial ⟨?_⟩;exact y.V):A:=a y
def hw{A bm:Prop}(y:jA bm)(a:jA bm->A:=by intro y;refine ti trivial ⟨?_⟩;exact y.V):A:=a y
def dA{A:Prop}(a:A:=by exact⟨Zo,λb ag=>zw⟩):A:=a
def cL{A bm l5 lo:Prop}(bE:l5)(eQ:lo)(y:jA bm)(a:l5->lo->jA bm->A:=by intro bE eQ y;refine ce (Za @bE @eQ) ⟨?_⟩;exact y.V):A:=a @bE @eQ y
def ed{A bm l5 lo pv:Prop}(bE:l5)(eQ:lo)(fd:pv)(y:jA bm)(a:l5->lo->pv->jA bm->A:=by intro bE eQ fd y;refine ce (Za @bE (Za @eQ @fd)) ⟨?_⟩;exact y.V):A:=a @bE @eQ @fd y
def fW{A bm l5 lo pv vj:Prop}(bE:l5)(eQ:lo)(fd:pv)(kw:vj)(y:jA bm)(a:l5->lo->pv->vj->jA bm->A:=by intro bE eQ fd kw y;refine ce (Za @bE (Za @eQ (Za @fd @kw))) ⟨?_⟩;exact y.V):A:=a @bE @eQ @fd @kw y
def gb{A bm l5 lo pv vj Bd:Prop}(bE:l5)(eQ:lo)(fd:pv)(kw:vj)(pF:Bd)(y:jA bm)(a:l5->lo->pv->vj->Bd->jA bm->A:=by intro bE eQ fd kw pF y;refine ce (Za @bE (Za @eQ (Za @fd (Za @kw @pF)))) ⟨?_⟩;exact y.V):A:=a @bE @eQ @fd @kw @pF y
def ih{A bm l5 lo pv vj Bd Jg:Prop}(bE:l5)(eQ:lo)(fd:pv)(kw:vj)(pF:Bd)(f5:Jg)(y:jA bm)(a:l5->lo->pv->vj->Bd->Jg->jA bm->A:=by intro bE eQ fd kw pF f5 y;refine ce (Za @bE (Za @eQ (Za @fd (Za @kw (Za @pF @f5))))) ⟨?_⟩;exact y.V):A:=a @bE @eQ @fd @kw @pF @f5 y
def et{A bm l5 lo pv vj Bd Jg XD:Prop}(bE:l5)(eQ:lo)(fd:pv)(kw:vj)(pF:Bd)(f5:Jg)(S0:XD)(y:jA bm)(a:l5->lo->pv->vj->Bd->Jg->XD->jA bm->A:=by intro bE eQ fd kw pF f5 S0 y;refine ce (Za @bE (Za @eQ (Za @fd (Za @kw (Za @pF (Za @f5 @S0)))))) ⟨?_⟩;exact y.V):A:=a @bE @eQ @fd @kw @pF @f5 @S0 y
def Ob{A bm l5 lo:Prop}(bE:l5)(eQ:lo)(y:jA bm)(a:l5->lo->jA bm->A:=by intro bE eQ y;refine o1 (Za @bE @eQ) ⟨?_⟩;exact y.V):A:=a @bE @eQ y
def gm{A bm l5 lo pv:Prop}(bE:l5)(eQ:lo)(fd:pv)(y:jA bm)(a:l5->lo->pv->jA bm->A:=by intro bE eQ fd y;refine o1 (Za @bE (Za @eQ @fd)) ⟨?_⟩;exact y.V):A:=a @bE @eQ @fd y
def aW.Zm{C:aL}{f:Nat}{yA:List D}{h:R af}{j:Nat}{ah A2 av:bI}(a:aW C f yA h j ah (λ_ _ _=>False))(y:∀ac S' aP,ah ac S' aP->A2 ac S' aP):aW C f yA h j A2 av:=a.mono y (λ_ _ _ a=>a.elim)
end
noncomputable section
open Go.RowKit (Below)
def Qv(jE:List Nat)(V:Nat->List D->Option D)(k:List (Nat×List D×D))(f:Nat)(args:List D):Option D:=bV (rB f jE) (rD V k f args) (V f args)
section
variable{P:Program}{w:World}
def Env.axo{nm:List (String×Nat)}(jg:Bg P nm){laid:List (String×DataW Unit)}{jE:List Nat}{V:Nat->List D->Option D}{k:List (Nat×List D×D)}(a:laidMet P laid w){dU:c6}{d5:Nat->Prop}
 (cK:Env ⟨P,nX (hf P nm laid P.globals.size).2 .nil,(hf P nm laid P.globals.size).1,V,P.globals.size⟩ w dU d5)(a8:MG k=true)
 (ly:∀x∈k,∃m,AQ ⟨P,nX (hf P nm laid P.globals.size).2 .nil,(hf P nm laid P.globals.size).1,V,P.globals.size⟩ m x.1 x.2.1=some x.2.2):
 ∃S ad,Env ⟨P,nX (hf P nm laid P.globals.size).2 .nil,(hf P nm laid P.globals.size).1,Qv jE V k,P.globals.size⟩ w S ad:=by
 obtain⟨S,ad,ak,ay⟩:=VU (hu:=Qv jE V k) jg a
 have gd:=ahJ cK a8 ly
 refine⟨S,ad,cK.kE,⟨λf args v bh=> ?_,λf args v bh S qZ lX=> ?_⟩,ak,ay⟩
 ·have bh:bV (rB f jE) (rD V k f args) (V f args)=some v:=bh
  rw[fF]at bh
  split at bh
  ·exact gd.val f args v bh
  ·exact cK.hu.val f args v bh
 ·have bh:bV (rB f jE) (rD V k f args) (V f args)=some v:=bh
  rw[fF]at bh
  split at bh
  ·exact gd.ok f args v bh S qZ lX
  ·exact cK.hu.ok f args v bh S qZ lX
end
end
end Go.ba

namespace Go.Proofs.YtpeabpmnlmaabaaGreatDoor
open Go.ba
noncomputable section
structure ch where
 G:R af
 a6:Nat
 O:Nat->List D->Option D
noncomputable def o(a:ch):aL:=⟨Tryz.prog,a.G,a.a6,a.O,Tryz.prog.globals.size⟩
instance:Coe ch aL:=⟨o⟩
variable (X : ch) (h : R af) (j : Nat) (ah av : bI) (a0 a7 b6 a3 a4 a5 hE ib iz : D)
abbrev j5(v x:D)(h:R af)(n:Nat)(y:bI):Prop:=pX y λT=>iO true v (T x h n) (T ba.undef h n)
abbrev hB(v x:D)(h:R af)(n:Nat)(y:bI):Prop:=pX y λT=>iO false v (T x h n) (T ba.undef h n)
abbrev eB(v:D)(V:Option D)(h:R af)(n:Nat)(y:bI):Prop:=pX y λT=>iO true v (ar V λx=>T x h n) (T ba.undef h n)
abbrev e7(v:D)(V:Option D)(h:R af)(n:Nat)(y:bI):Prop:=pX y λT=>iO false v (ar V λx=>T x h n) (T ba.undef h n)
abbrev ow(v:D)(V:Option D)(h:R af)(n:Nat)(y:bI):Prop:=pX y λT=>iO true v (cz V λx=>T x h n) (T ba.undef h n)
abbrev xK(v:D)(V:Option D)(h:R af)(n:Nat)(y:bI):Prop:=pX y λT=>iO false v (cz V λx=>T x h n) (T ba.undef h n)
abbrev Vw(v:D)(V:Option D)(aj:D->Option D)(h:R af)(n:Nat)(y:bI):Prop:=pX y λT=>iO true v (cz V λt=>ar (aj t) λx=>T x h n) (T ba.undef h n)
abbrev agp(v:D)(V:Option D)(aj:D->Option D)(h:R af)(n:Nat)(y:bI):Prop:=pX y λT=>iO false v (cz V λt=>ar (aj t) λx=>T x h n) (T ba.undef h n)
abbrev lC(v:D)(g:bI->Prop)(h:R af)(n:Nat)(y:bI):Prop:=pX y λT=>iO true v (g T) (T ba.undef h n)
abbrev kQ(v:D)(g:bI->Prop)(h:R af)(n:Nat)(y:bI):Prop:=pX y λT=>iO false v (g T) (T ba.undef h n)
abbrev PT(v x:D)(h:R af)(y:D->R af->Prop):Prop:=wc y λT=>iO false v (T x h) (T ba.undef h)
abbrev ji(v:D)(V:Option D)(h:R af)(y:D->R af->Prop):Prop:=wc y λT=>iO true v (ar V λx=>T x h) (T ba.undef h)
abbrev tK(v:D)(V:Option D)(h:R af)(y:D->R af->Prop):Prop:=wc y λT=>iO false v (ar V λx=>T x h) (T ba.undef h)
abbrev Az(v:D)(V:Option D)(h:R af)(y:D->R af->Prop):Prop:=wc y λT=>iO true v (cz V λx=>T x h) (T ba.undef h)
abbrev Vu(v:D)(V:Option D)(h:R af)(y:D->R af->Prop):Prop:=wc y λT=>iO false v (cz V λx=>T x h) (T ba.undef h)
abbrev PU(v:D)(V:Option D)(aj:D->Option D)(h:R af)(y:D->R af->Prop):Prop:=wc y λT=>iO true v (cz V λt=>ar (aj t) λx=>T x h) (T ba.undef h)
abbrev Vv(v:D)(V:Option D)(aj:D->Option D)(h:R af)(y:D->R af->Prop):Prop:=wc y λT=>iO false v (cz V λt=>ar (aj t) λx=>T x h) (T ba.undef h)
abbrev PS(v:D)(g:(D->R af->Prop)->Prop)(h:R af)(y:D->R af->Prop):Prop:=wc y λT=>iO false v (g T) (T ba.undef h)
abbrev e9(aY)(J:D)(Q:aL)(ak:(R af))(y:D->D->Prop):=ar (hk aY J) λb7=>ar (aI Q ak b7) λbZ=>y b7 bZ
abbrev yg(ay:Nat)(bt:aL)(b4:(R af))(y:D->(R af)->Nat->Prop):=ar (hR [.Z 0, .str [], .Z 0, .int .u64 0, .zF, .zF, .Z 0] ay) λb7=>gu bt b4 ay b7.1 b7.2 y
abbrev fm(aY:cU)(J)(ak)(y:D->D->Prop):=cz (aY J) λb7=>cz (aY ak) λbZ=>y b7 bZ
abbrev gJ(aY:cU)(J)(y:D->Prop):=cz (aY J) λb7=>ar (bl .add b7 (.Z 1)) y
abbrev g9(aY:D)(J)(Q:aL)(ak:(R af))(y:D->D->Prop):=ar (sO aY) λb7=>e9 J b7 Q ak y
abbrev Rm(J:D)(kx:Nat)(qt:aL)(vF:(R af))(y:D->D->Nat->(R af)->Prop):=ar (n3 0 J) λb7=>ar (n3 1 J) λbZ=>ar (hR [.Z 0, .str [], .Z 0, .zF, .zF, .Z 0, .str [], .Z 0, .zF, .Z 0, .Z 0] kx) λcu=>gu qt vF kx cu.1 cu.2 λc0 fE lR=>ar (gg qt fE 11 c0 b7) λpB=>y bZ c0 lR pB
abbrev k0(aY:cU)(J)(Q:aL)(ak:(R af))(ay)(bt:D)(y:(R af)->D->Prop):=cz (aY J) λb7=>ar (gg Q ak ay b7 bt) λbZ=>cz (aY J) λcu=>ar (cZ Q bZ ay cu) λc0=>y bZ c0
abbrev hl(J:D)(y:D->D->Prop):=ar (n3 0 J) λb7=>ar (n3 1 J) λbZ=>y b7 bZ
abbrev hm(aY:cU)(J)(Q)(y:D->Prop):=fm aY J Q λb7 bZ=>ar (bl .lss b7 bZ) y
abbrev F7(aY:cU)(J)(Q)(ay:aL)(bt:(R af))(kx:Nat)(y:D->Nat->(R af)->Prop):=fm aY J Q λb7 bZ=>ar (gt 8 b7 bZ) λcu=>ar (cZ ay bt 8 cu) λc0=>ar (hR [.str [], .Z 0, .zF, .zF, .Z 0, .str [], .Z 0, .zF] kx) λfE=>gu ay bt kx fE.1 fE.2 λlR pB wX=>ar (gg ay pB 8 lR c0) λr5=>y lR wX r5
abbrev lm(aY:D)(J)(y:D->Prop):=ar (sO aY) λb7=>ar (hk J b7) y
abbrev pq(aY:aL)(J:(R af))(Q:Nat)(ak)(ay)(b4)(dh:D)(y:D->Nat->(R af)->Prop):=gu aY J Q ak ay λb7 bZ cu=>ar (gg aY bZ b4 b7 dh) λc0=>y b7 cu c0
abbrev n4(aY:D)(J)(Q:ft)(y:D->ft->Prop):=ar (bl .eql aY (.Z J)) λb7=>bk Q λbZ=>y b7 bZ
abbrev sS(ak)(ay:Nat)(bt:aL)(b4:(R af))(kx:D)(qt:bI)(y:D->(R af)->Nat->Prop):=ar (hC 1 [.str []] [(0,1, .str [ak])] ay) λb7=>gu bt b4 ay b7.1 b7.2 λbZ cu c0=>aW bt 69 [kx,bZ] cu c0 y qt
abbrev uj(aY:D)(J)(Q:D)(ak:(R af))(ay:Nat)(b4:aL)(y:D->(R af)->Nat->Prop):=e7 aY (hk J Q) ak ay λb7 bZ cu=>e7 aY (aI b4 bZ b7) bZ cu y
abbrev iY(aY:cU)(J)(Q:aL)(ak:(R af))(y:D->Prop):=cz (aY J) λb7=>ar (aI Q ak b7) y
abbrev lO(aY:cU)(J)(Q)(ak:aL)(ay:(R af))(y:D->D->D->Prop):=cz (aY J) λb7=>g9 b7 Q ak ay λbZ cu=>y b7 bZ cu
abbrev sT(aY)(J:cU)(Q)(ak)(ay)(y:ft->D->Prop):=bk aY λb7=>fm J Q ak λbZ cu=>ar (gt ay bZ cu) λc0=>y b7 c0
abbrev vf(aY:D)(J)(Q:D)(ak:(R af))(ay:Nat)(b4:aL)(y:D->(R af)->Nat->Prop):=eB aY (hk J Q) ak ay λb7 bZ cu=>eB aY (aI b4 bZ b7) bZ cu y
abbrev C9(aY:aL)(J:(R af))(ak:D)(bt:Nat)(y:D->Nat->(R af)->Prop):=ar (cZ aY J 6 ak) λb7=>ar (hR [.str [], .Z 0, .aT, .aT, .aT, .aT] bt) λbZ=>pq aY J bt bZ.1 bZ.2 6 b7 y
abbrev ip(aY:D)(J)(y:D->ft->Prop):=ar (gC aY) λb7=>bk J λbZ=>y b7 bZ
abbrev wH(aY:Nat)(J:aL)(Q:(R af))(bt:D)(y:D->Nat->(R af)->Prop):=yg aY J Q λb7 bZ cu=>ar (gg J bZ 7 b7 bt) λc0=>y b7 cu c0
abbrev Ri(Q:Nat)(y:(D×af)->Prop):=ar (hR [.Z 0, .Z 0] Q) y
abbrev iy(aY:cU)(J)(Q)(ak:aL)(ay:(R af))(y:D->D->Prop):=cz (aY J) λb7=>e9 Q b7 ak ay y
abbrev I2(b4:Nat)(dh)(eI:aL)(hG:(R af))(y:D->(R af)->Prop):=ar (hR [.Z 0, .str [], .Z 0, .zF, .zF, .Z 0, .str [], .Z 0, .zF, .Z 0, .Z 0] (b4+dh)) λb7=>ms eI hG (b4+dh) b7.1 b7.2 y
abbrev Da(aY:aL)(J:(R af))(ak:D)(bt:Nat)(y:D->Nat->(R af)->Prop):=ar (cZ aY J 4 ak) λb7=>ar (hR [.aT, .aT, .Z 0, .cF] bt) λbZ=>pq aY J bt bZ.1 bZ.2 4 b7 y
abbrev F8(aY:D)(J:cU)(Q)(ak:(R af))(b4)(eI:aL)(y:D->(R af)->Prop):=Az aY (J Q) ak λb7 bZ=>ji aY (sO b7) bZ λcu c0=>ji aY (hk b4 cu) c0 λfE lR=>ji aY (aI eI lR fE) lR y
abbrev pr(J)(y:D->Prop):=ar (some (D.iface 178 (.Z J))) y
abbrev m1(aY:cU)(J)(Q:aL)(ak:(R af))(ay)(y:D->Prop):=cz (aY J) λb7=>ar (cZ Q ak ay b7) y
abbrev e3(aY:cU)(y:D->Prop):=cz (aY 0) y
abbrev I3(ay)(dh:D)(y:D->Prop):=ar (fv [.Z 0, .Z 0] [(0,1, .Z ay),(1,1,dh)]) y
abbrev sU(aY:cU)(J)(Q)(y:D->Prop):=cz (aY J) λb7=>ar (bl .eql b7 (.Z Q)) y
abbrev oK(aY:aL)(J:(R af))(ak:D)(ay:D)(y:(R af)->Prop):=ar (gg aY J 1 ak ay) y
abbrev yh(J:D)(Q:aL)(ak:(R af))(ay)(y:D->Prop):=e9 0 J Q ak λb7 bZ=>ar (bl .neq bZ (.Z ay)) y
abbrev MZ(ak:Nat)(ay:aL)(bt:(R af))(dh:cU)(eI)(y:D->Nat->(R af)->Prop):=ar (hR [.str [], .Z 0, .zF, .zF, .Z 0, .str [], .Z 0, .zF] ak) λb7=>gu ay bt ak b7.1 b7.2 λbZ cu c0=>cz (dh eI) λfE=>ar (gg ay cu 8 bZ fE) λlR=>y bZ c0 lR
abbrev A3(aY)(J:D)(y:D->Prop):=ar (gt aY J (.Z 0)) y
abbrev rR(aY:aL)(J:(R af))(Q)(ak:D)(bt)(dh:Nat)(eI:bI)(y:D->(R af)->Nat->Prop):=ar (cZ aY J Q ak) λb7=>aW aY bt [b7] J dh y eI
abbrev uk(aY:aL)(J:(R af))(Q)(ak:D)(ay:D)(y:(R af)->D->Prop):=ar (gg aY J Q ak ay) λb7=>ar (cZ aY b7 Q ak) λbZ=>y b7 bZ
abbrev yi(aY:D)(y:D->Prop):=ar (bl .sub aY (.Z 1)) y
abbrev ajC(aY:D)(J:aL)(Q:(R af))(TC:Nat)(asC:bI)(y:D->D->D->Nat->(R af)->Prop):=ar (gC aY) λb7=>ar (tb J Q .min [3,3] [b7, .Z 5000]) λbZ=>ar (uc J Q 1 aY none (some bZ) none) λcu=>aW J 6 [cu] Q TC (λc0 fE lR=>hl c0 λpB wX=>Ri lR λr5=>pq J fE lR r5.1 r5.2 2 wX λSa R9 aoT=>y cu pB Sa R9 aoT) asC
abbrev A4(aY:cU)(J)(y:D->Prop):=e3 aY λb7=>ar (nu b7 (some (.Z J)) none) y
abbrev q1(aY:aL)(J:(R af))(ak:D)(ay)(y:(R af)->Prop):=ar (gg aY J 1 ak (.Z ay)) y
abbrev kI(aY:aL)(J:(R af))(ak:D)(y:D->Prop):=ar (cZ aY J 3 ak) y
abbrev A5(aY:D)(y:D->Prop):=ar (bl .add aY (.Z 1)) y
abbrev yj(aY:D)(J:D)(Q:(R af))(ak:Nat)(bt)(b4:aL)(y:D->(R af)->Nat->Prop):=e7 aY (sO J) Q ak λb7 bZ cu=>uj aY bt b7 bZ cu b4 y
abbrev Db(aY:aL)(J:(R af))(Q:Nat)(ak)(ay)(b4)(dh:D)(y:D->(R af)->Nat->Prop):=gu aY J Q ak ay λb7 bZ cu=>hN (jP aY bZ cu b4 dh b7) bZ cu y
abbrev m2(aY:aL)(J:(R af))(ak:D)(y:D->Prop):=ar (cZ aY J 2 ak) y
abbrev Dc(aY:cU)(J)(Q)(bt)(y:D->D->Prop):=fm aY J Q λb7 bZ=>cz (aY J) λcu=>ar (gt bt bZ cu) λc0=>y b7 c0
abbrev Rj(aY:aL)(J:(R af))(hG:D)(kx:D)(y:D->Prop):=ar (mN aY J 9 (.agg [.Z 0, .str [], .Z 0, .zF, .zF, .Z 0, .str [], .Z 0, .zF, .Z 0, .Z 0]) hG kx true) y
abbrev Dd(aY:Nat)(J)(Q:cU)(ak)(ay)(bt:aL)(b4:(R af))(hG)(y:Nat->D->D->Prop):=eW (aY+J) λb7=>lO Q ak ay bt b4 λbZ cu c0=>lO Q ak hG bt b4 λ_ _ pB=>y b7 c0 pB
abbrev jy(J:D)(Q:aL)(ak:(R af))(y:D->Prop):=e9 0 J Q ak λ_ bZ=>y bZ
abbrev sV(aY)(J:D)(Q:aL)(ak:(R af))(ay:D)(y:(R af)->Prop):=ar (hk aY J) λb7=>oK Q ak b7 ay y
abbrev De(y:D->Prop):=ar (fv [.Z 0, .Z 0] []) y
abbrev Rk(aY:Nat)(Q:D)(ay:aL)(bt:(R af))(eI:D)(kx:bI)(y:D->Nat->D->(R af)->D->Prop):=eW (aY+12) λb7=>g9 Q 8 ay bt λbZ cu=>aW ay 95 [eI] bt b7 (λc0 fE lR=>ar (hC 1 [.cF] [(0,1,c0)] (aY+7)) λpB=>ms ay fE (aY+7) pB.1 pB.2 λwX r5=>ar (aI ay r5 bZ) λSa=>y cu lR wX r5 Sa) kx
abbrev Rl(aY:cU)(ay:(R af))(bt:Nat)(y:D->D->(R af)->Nat->Prop):=e3 aY λb7=>ar (np b7) λbZ=>ar (bl .geq bZ (.Z 3)) λcu=>ow cu (aY 0) ay bt λc0 fE lR=>eB cu (ov c0 (.Z 1)) fE lR λpB wX r5=>y cu pB wX r5
abbrev I4(aY:aL)(Q:D)(ak:D)(ay:(R af))(bt:Nat)(b4:bI)(y:D->D->Nat->(R af)->Prop):=aW aY 12 [Q,ak] ay bt (λb7 bZ cu=>Rm b7 cu aY bZ y) b4
abbrev rS(aY:D)(J)(Q:aL)(ak:(R af))(ay:D)(y:(R af)->Prop):=lm aY J λb7=>oK Q ak b7 ay y
abbrev Df(aY:D)(J:aL)(Q:(R af))(ak)(y:D->Prop):=jy aY J Q λb7=>ar (bl .eql b7 (.Z ak)) y
abbrev Rn(b4)(dh)(hG:D)(y:D->Prop):=ar (fv [.Z 0, .str [], .Z 0, .int .u64 0, .zF, .zF, .Z 0] [(0,1, .Z b4),(dh,1,hG)]) y
abbrev A6(aY:cU)(J)(Q:aL)(ak)(ay:(R af))(bt:Nat)(b4:bI)(y:D->(R af)->Nat->Prop):=cz (aY J) λb7=>aW Q ak [b7] ay bt y b4
abbrev Ro(dh:D)(eI:Nat)(hG:aL)(kx:(R af))(TC:D)(y:D->(R af)->Nat->Prop):=ar (hC 1 [.Z 0, .str [], .Z 0, .int .u64 0, .zF, .zF, .Z 0] [(0,7,dh)] eI) λb7=>Db hG kx eI b7.1 b7.2 7 TC y
abbrev vg(aY)(J:cU)(Q)(ak)(bt:aL)(b4:(R af))(y:ft->D->Prop):=sT aY J Q ak 1 λb7 bZ=>ar (aI bt b4 bZ) λcu=>y b7 cu
abbrev Rp(y:D->Prop):=ar (fv [.Z 0, .str [], .Z 0, .int .u64 0, .zF, .zF, .Z 0] []) y
abbrev I5(aY:cU)(J)(Q)(y:D->Prop):=cz (aY J) λb7=>ar (bl .lss b7 (.Z Q)) y
abbrev vh(aY:cU)(Q)(ak:ft)(y:D->ft->Prop):=cz (aY 12) λb7=>n4 b7 Q ak y
abbrev F9(aY:cU)(ay)(y:D->D->D->Prop):=fm aY 8 1 λb7 bZ=>e3 aY λcu=>ar (gt ay cu b7) λc0=>y b7 bZ c0
abbrev A7(aY:D)(J:D)(Q:(R af))(ak:Nat)(bt)(b4:aL)(y:D->(R af)->Nat->Prop):=eB aY (sO J) Q ak λb7 bZ cu=>vf aY bt b7 bZ cu b4 y
abbrev Rq(aY:D)(J:cU)(ak:(R af))(ay:Nat)(hG:aL)(y:D->(R af)->Nat->Prop):=ow aY (J 0) ak ay λb7 bZ cu=>eB aY (sO b7) bZ cu λc0 fE lR=>eB aY (hk 4 c0) fE lR λpB wX r5=>eB aY (cZ hG wX 3 pB) wX r5 y
abbrev M0(aY:D)(Q)(y:D->Prop):=ar (ov aY (.Z 0)) λb7=>ar (bl .eql b7 (.int .u8 Q)) y
abbrev Dg(aY:D)(y:D->Prop):=ar (bl .geq aY (.Z 0)) y
abbrev ul(aY:D)(J:Nat)(Q:aL)(ak:(R af))(y:D->D->Nat->(R af)->Prop):=hl aY λb7 bZ=>wH J Q ak b7 λcu c0 fE=>y bZ cu c0 fE
abbrev I6(J:Nat)(y:(D×af)->Prop):=ar (hR [.zF, .zF, .Z 0] J) y
abbrev Rr(aY:cU)(J)(y:D->Prop):=cz (aY J) λb7=>ar (ob .u64 b7) y
abbrev n5(aY:cU)(y:D->Prop):=cz (aY 4) y
abbrev yk(aY:D)(J:ft)(y:D->ft->Prop):=ar (gi .not aY) λb7=>bk J λbZ=>y b7 bZ
abbrev M1(ay:D)(bt:Nat)(y:(D×af)->Prop):=ar (hC 1 [.zF, .zF, .Z 0] [(0,3,ay)] bt) y
abbrev I7(aY:D)(J)(Q:D)(ak:(R af))(bt:aL)(y:D->(R af)->Prop):=ji aY (hk J Q) ak λb7 bZ=>ji aY (aI bt bZ b7) bZ y
abbrev I8(aY:Nat)(J:aL)(Q:(R af))(bt:D)(y:D->Nat->(R af)->Prop):=Ri aY λb7=>pq J Q aY b7.1 b7.2 2 bt y
abbrev I9(aY:D)(y:D->Prop):=ar (bl .gtr aY (.Z 0)) y
abbrev A8(aY:Nat)(J:aL)(Q:(R af))(y:D->(R af)->Nat->Prop):=Ri aY λb7=>gu J Q aY b7.1 b7.2 y
abbrev Rs(aY:D)(J:cU)(ak:(R af))(b4)(eI:aL)(y:D->(R af)->Prop):=Vu aY (J 0) ak λb7 bZ=>tK aY (sO b7) bZ λcu c0=>tK aY (hk b4 cu) c0 λfE lR=>tK aY (aI eI lR fE) lR y
abbrev Ga(aY:cU)(ay:aL)(bt:(R af))(y:D->D->D->Prop):=fm aY 8 2 λb7 bZ=>A3 3 bZ λcu=>kI ay bt cu λc0=>y b7 cu c0
abbrev Ja(aY)(J:D)(y:D->Prop):=I3 aY J λb7=>ar (some (D.iface 26 b7)) y
abbrev M2(aY:cU)(ak:aL)(ay:(R af))(y:(R af)->Prop):=lO aY 0 1 ak ay λb7 bZ cu=>A5 cu λc0=>rS b7 1 ak ay c0 y
abbrev rT(aY:cU)(ak:aL)(ay:(R af))(y:D->Prop):=lO aY 0 0 ak ay λ_ _ cu=>y cu
abbrev ps(aY:cU)(y:D->Prop):=cz (aY 5) y
abbrev Gb(aY:aL)(J:(R af))(ak:D)(y:D->Prop):=ar (dc aY J .eql 9 true ak (.str [])) y
abbrev Jb(aY:D)(J:D)(y:D->Prop):=ar (gC aY) λb7=>ar (bl .add J b7) y
abbrev Dh(aY:aL)(J:(R af))(Q)(ak:D)(ay:D)(bt:ft)(y:D->ft->Prop):=ar (dc aY J .eql Q false ak ay) λb7=>bk bt λbZ=>y b7 bZ
abbrev qd(aY:cU)(y:D->Prop):=cz (aY 3) y
abbrev Rt(Q:D)(bt:D)(y:D->Prop):=ar (fv [.str [], .zF] [(0,1,Q),(1,1,bt)]) y
abbrev ajD(aY:D)(y:D->Prop):=ar (bl .eql aY (.Z 0)) y
abbrev Jc(aY:D)(y:D->Prop):=ar (bl .lss aY (.Z 0)) y
abbrev A9(aY:cU)(J)(Q:aL)(ak:(R af))(ay)(y:D->Prop):=iY aY J Q ak λb7=>g9 b7 ay Q ak λ_ cu=>y cu
abbrev Gc(aY:D)(J:ft)(y:D->ft->Prop):=ar (gC aY) λb7=>bk J λbZ=>y b7 bZ
abbrev sW(aY:cU)(y:D->Prop):=cz (aY 1) y
abbrev I1(aY:aL)(Q:D)(ak)(ay:(R af))(bt:Nat)(b4:bI)(y:D->Nat->(R af)->Prop):=aW aY 71 [Q, .str [ak]] ay bt (λb7 bZ cu=>ul b7 cu aY bZ λc0 _ lR pB=>y c0 lR pB) b4
def IH(a:aL)(b:bI):ft:=λc d e=>nV a [.cell 2 23, .cell 3 26] b c c.bd d e
def Mi(a:aL)(b c:bI):s4:=λd e f g=>wr a [.cell 2 23, .cell 3 26] b c d e d.bd f g
def aaJ(a:aL)(b:D)(c:R af)(d:Nat)(e f:bI):Prop:=
 ar (hR [.cF] d) λg=>gu a c d g.1 g.2 λc d g=>A8 g a d λd g h=>aW a 22 [b] g h (λg h i=>hl g λg j=>ar (gg a h 2 d j) λh=>yh d a h 0 λj=>bk (λb c d=>fm b 2 3 λg h=>JS (.func (.func 23) [] [g,h]) [] b λb=>n5 b λg=>ar (fv [.aT, .Z 0] [(0,1,g)]) λg=>hn a c d g λc d g=>aW a 24 [c] d g (λc d g=>cz (b 2) λh=>oK a d h c λc=>iY b 2 a c λd=>aW a 25 [d] c g (λ_ c d=>iY b 2 a c λf=>De λg=>cz (b 2) λh=>oK a c h f λc=>qd b λf=>ar (gg a c 2 f g) λc=>IH a e b c d) (Mi a e f (h2 [19,20] b))) (Mi a e f (h2 [15,16,17,18] b))) λf=>aV j (eW (i+3) λf=>m2 a h d λi=>ar (gg a h 1 c .cF) λh=>m2 a h d λk=>gn k (some i) (ar (gg a h 2 d i) λh=>IH a e (zA (cP [b]) 2 c 3 d 4 g 12 j) h f)) (f (zA (cP [b]) 2 c 3 d 4 g 12 j) h i)) (Mi a e f (h2 [6,7,5,8,9,4] (zy (cP [b]) 2 c 3 d)))
def amU:BI X 6 [a0] h j ah av=aaJ X a0 h j ah av:=Zk
def amT:cQ X 6 1=true:=Zk
def RH(a:aL)(b c:D)(d:Option D)(e:R af)(f:Nat)(g:Bool->R af->Nat->Prop):Prop:=
 IG (some d) (cP [b,c]) λb c=>bk (λa b c=>g a.rc b c) λd=>ar (dc a e .eql 20 true b .nilIface) λg=>bk d λd=>aV g (d (zy c 5 b 7 g) e f) (ar (Gz 26 (.agg [.Z 0, .Z 0]) true b) λh=>ar (n3 1 h) λi=>ar (n3 0 h) λh=>bk d λd=>aV i (I8 f a e h λe f j=>eW (f+3) λf=>m2 a j e λk=>e3 c λl=>ar (gg a j 1 l .cF) λj=>m2 a j e λl=>gn l (some k) (sW c λl=>ar (gg a j 2 l k) λa=>d (Z (zA c 5 b 7 g 9 i 10 h) 3 e) a f)) (ws (λ_ _ _=>False) b e f))
def ω(X:ch)(a0 a7:D)(j7:Option D)(h:R af)(j:Nat)(ah:Bool->R af->Nat->Prop):yQ X 23 [a0,a7] j7 h j ah=RH X a0 a7 j7 h j ah:=Zk
def RI:cQ X 23 2=true:=Zk
def aaa(a:aL)(b:D)(c:R af)(d:Nat)(e f:bI):Prop:=
 ar (fv [.aT] []) λg=>hn a c d g λc d g=>bk (λa b c=>qd a λa=>e a b c) λe=>fg (λb c d g=>n5 c λh=>bk (λc d e=>bk (λc d e=>e3 c λg=>aW a 44 [g] d e (λa d e=>ar (re false 0 1 a) λa=>ar (bl .neq a (.Z 7)) λa=>b (Z c 4 a) d e) f) λb=>eW (e+12) λg=>fm c 3 3 λh i=>g9 i 0 a d λi j=>e3 c λk=>aW a 45 [k] d g (λd f g=>ar (hC 1 [.str [], .Z 0, .aT, .aT, .aT, .aT] [(0,6,d)] (e+7)) λd=>ms a f (e+7) d.1 d.2 λd e=>ar (aI a e i) λf=>gn f (some j) (hN (jP a e g 6 j d) e g λd e f=>rS h 0 a e d λa=>b c a f)) f) λa=>aV h (a (Z c 7 h) d g) (e (Z c 7 h) d g)) (zz (cP [b]) 2 .cF 3 c 4 .zT) d g
def aly:cY X 24 [a0] h j ah av=aaa X a0 h j ah av:=Zk
def alx:cQ X 24 1=true:=Zk
def aab(a:aL)(b:D)(c:R af)(d:Nat)(e f:bI):Prop:=
 g9 b 0 a c λ_ g=>ar (gC g) λg=>ar (bl .gtr g (.Z 64)) λg=>bk (λb c d=>rT b a c λg=>ip g (λ_ a b=>e (.tuple []) a b) λe h=>fg (λb c d e=>hm c 26 25 λg=>bk (λc d e=>sT (λa c d=>gJ a 26 λe=>b (Z a 26 e) c d) c 24 26 6 λb g=>C9 a d g e λd e g=>e9 2 d a g λ_ h=>ar (gC h) λh=>e9 3 d a g λ_ i=>Jb i h λh=>e9 4 d a g λ_ i=>Jb i h λh=>ar (bl .gtr h (.Z 256)) λh=>uj h 5 d g e a λe g i=>e7 h (gC e) g i λe g i=>e7 h (bl .gtr e (.Z 4096)) g i λe g i=>c4 (λe=>bk (λc d e=>iy c 3 5 a d λ_ g=>Gc g b λb h=>fg (λb c d e=>hm c 55 54 λg=>bk (λc d e=>sT (λa c d=>gJ a 55 λe=>b (Z a 55 e) c d) c 53 55 4 λb g=>Da a d g e λd e g=>e9 3 d a g λ_ h=>aW a 46 [h] g e (λe g h=>ar (bl .gtr e (.Z 200)) λe=>bk b λb=>aV e (e9 2 d a g λ_ a=>Ja 22 a λa=>ws f a g h) (b (zy c 5 d 62 e) g h)) f) λa=>aV g (a (Z c 56 g) d e) (h (Z c 56 g) d e)) (zz c 53 g 54 b 55 (.Z 0)) d e) λb=>aV e (e9 1 d a g λ_ a=>Ja 30 a λa=>ws f a g i) (b (zy c 3 d 47 e) g i)) λa=>aV h (a .zT) (a e)) λa=>aV g (a (Z c 27 g) d e) (h (Z c 27 g) d e)) (zz b 24 g 25 e 26 (.Z 0)) c d) λe=>aV g (g9 b 0 a c λ_ b=>ar (gt 6 b (.Z 64)) λb=>e9 1 b a c λ_ a=>Ja 30 a λa=>ws f a c d) (e (Z (cP [b]) 11 g) c d)
def alA:cY X 25 [a0] h j ah av=aab X a0 h j ah av:=Zk
def alz:cQ X 25 1=true:=Zk
def aar(a:aL)(b:D)(c:R af)(d:Nat)(e _:bI):Prop:=
 yg d a c λc d f=>eW (f+11) λf=>g9 b 0 a d λ_ g=>g9 b 1 a d λ_ b=>ar (gt 7 g b) λb=>ar (cZ a d 7 b) λb=>uk a d 7 c b λa b=>e b a f
def al4:cY X 44 [a0] h j ah av=aar X a0 h j ah av:=Zk
def al3:cQ X 44 1=true:=Zk
def aas(a:aL)(b:D)(c:R af)(d:Nat)(e f:bI):Prop:=
 ar (hR [.str [], .Z 0, .aT, .aT, .aT, .aT] d) λg=>gu a c d g.1 g.2 λc d g=>ar (hC 1 [.str []] [(0,1, .str [110,111,100,101])] g) λh=>gu a d g h.1 h.2 λd g h=>aW a 69 [b,d] g h (λ_ d g=>aW a 70 [b, .Z 1] d g (λd g h=>wH h a g d λd g h=>e9 1 d a h λ_ i=>e9 2 d a h λ_ j=>ar (fv [.str [], .Z 0, .aT, .aT, .aT, .aT] [(0,1,i),(1,1,j)]) λi=>ar (hR [.str [], .Z 0, .aT, .aT, .aT, .aT] g) λj=>pq a h g j.1 j.2 6 i λg h i=>sS 40 h a i b f λ_ h i=>I1 a b 41 h i f λh i j=>ar (gi .not h) λk=>bk (λb c d=>e3 b λg=>ar (hC 2 [.str [], .str []] [(0,1, .str [114,101,116,117,114,110,115]),(1,1, .str [40])] d) λh=>gu a c d h.1 h.2 λc d h=>aW a 69 [g,c] d h (λ_ c d=>e3 b λg=>aW a 72 [g, .zF] c d (λc d g=>n5 b λh=>sV 3 h a d c λc=>e3 b λd=>sS 41 g a c d f λ_ c d=>e3 b λg=>aW a 71 [g, .str [118,97,114]] c d (λc d g=>ul c g a d λc _ d g=>bk (λb c d=>e3 b λg=>ar (hC 1 [.str []] [(0,1, .str [108,101,116])] d) λh=>gu a c d h.1 h.2 λc d h=>aW a 69 [g,c] d h (λ_ c d=>bk (λb c d=>m1 b 2 a c 6 λa=>e a c d) λ_=>fg (λb c d g=>bk b λb=>e3 c λh=>aW a 71 [h, .str [116,101,108]] d g (λd g h=>ul d h a g λd _ g h=>bk (λc d e=>eW (e+8) λg=>iy c 4 5 a d λh i=>e3 c λj=>aW a 73 [j] d g (λd f g=>ar (hC 1 [.aT, .aT, .Z 0, .cF] [(0,4,d)] (e+4)) λd=>ms a f (e+4) d.1 d.2 λd e=>ar (aI a e h) λf=>gn f (some i) (hN (jP a e g 4 i d) e g λd e f=>n5 c λg=>sV 5 g a e d λa=>b c a f)) f) λb=>aV d (m1 c 4 a h 6 λb=>k0 c 2 a h 6 b λa b=>e b a g) (b (zy c 10 d 66 d) h g)) f) b c d) f) λe=>aV c (e3 b λh=>aW a 72 [h, .zT] g d (λd g h=>n5 b λi=>sV 4 i a g d λd=>e3 b λg=>sS 59 h a d g f λ_ a d=>e (zy b 8 c 51 c) a d) f) (e (zy b 8 c 51 c) g d)) f) f) f) λe=>aV k (aW a 72 [b, .zF] j i (λi j l=>sV 2 g a j i λi=>sS 41 l a i b f λ_ a f=>e (Z (zA (cP [b]) 2 c 3 d 4 g 6 h) 30 k) a f) f) (e (Z (zA (cP [b]) 2 c 3 d 4 g 6 h) 30 k) j i)) f) f
def al6:cY X 45 [a0] h j ah av=aas X a0 h j ah av:=Zk
def al5:cQ X 45 1=true:=Zk
def aaT(a:aL)(b c:D)(d:R af)(e:Nat)(f g:bI):Prop:=
 yg e a d λd e h=>yg h a e λe h i=>ip c (λb c d=>m1 b 5 a c 7 λe=>k0 b 4 a c 7 e λa b=>f b a d) λf j=>fg (λb c d e=>hm c 11 10 λf=>bk (λc d e=>vg (λa c d=>gJ a 11 λe=>b (Z a 11 e) c d) c 9 11 a d λb f=>e3 c λh=>aW a 71 [h,f] d e (λd e h=>hl d λd i=>ps c λj=>ar (gg a e 7 j d) λd=>yk i b λb e=>aV b (e3 c λj=>aW a 44 [j] d h (λd h j=>aW a 93 [d] h j (λ_ a d=>e (zA c 7 f 8 .zF 8 i 22 b) a d) g) g) (e (zA c 7 f 8 .zF 8 i 22 b) d h)) g) λa=>aV f (a (Z c 12 f) d e) (j (Z c 12 f) d e)) (Z (zA (cP [b,c]) 4 d 5 e 9 c 10 f) 11 (.Z 0)) h i
def amS:cY X 69 [a0,a7] h j ah av=aaT X a0 a7 h j ah av:=Zk
def amR:cQ X 69 2=true:=Zk
def aaU(a:aL)(b c:D)(d:R af)(e:Nat)(f g:bI):Prop:=
 yg e a d λd e h=>aW a 44 [b] e h (λe h i=>wH i a h e λe h i=>jy e a i λj=>ar (bl .neq j c) λj=>bk (λb c d=>M2 b a c λc=>m1 b 5 a c 7 λe=>k0 b 4 a c 7 e λa b=>f b a d) λf=>aV j (rR a i 7 e 93 h g λ_ a g=>f (zz (cP [b,c]) 4 d 5 e 11 j) a g) (f (zz (cP [b,c]) 4 d 5 e 11 j) i h)) g
def amW:cY X 70 [a0,a7] h j ah av=aaU X a0 a7 h j ah av:=Zk
def amV:cQ X 70 2=true:=Zk
def RM(a:aL)(b c:D)(d:R af)(e:Nat)(f g:bI):Prop:=
 yg e a d λd e h=>aW a 44 [b] e h (λe g h=>wH h a g e λe g h=>yh e a h 2 λi=>vf i 0 e h g a λg h j=>eB i (bl .neq g (.Z 6)) h j λg h j=>c4 (λg=>uj g 1 e h j a λh i j=>hB g c i j λi j k=>e7 g (dc a j .neq 9 false h i) j k λh i j=>c4 (λg=>bk (λb c d=>M2 b a c λc=>m1 b 6 a c 7 λe=>k0 b 4 a c 7 e λa b=>f (.tuple [b, .zT]) a d) λh=>aV g (Rp λb=>uk a i 7 d b λa b=>f (.tuple [b, .zF]) a j) (h (zA (cP [b,c]) 4 d 5 .zF 6 e 22 g) i j)) λa=>aV g (a .zT) (a h)) λa=>aV i (a g) (a .zF)) g
def aaW:cY X 71 [a0,a7] h j ah av=RM X a0 a7 h j ah av:=Zk
def aaV:cQ X 71 2=true:=Zk
def aaX(a:aL)(b c:D)(d:R af)(e:Nat)(f g:bI):Prop:=
 bk (λa b c=>n5 a λa=>f a b c) λ_=>fg (λb c d e=>bk b λb=>bk (λc d e=>e3 c λh=>sS 58 e a d h g λ_ d e=>e3 c λh=>aW a 70 [h, .Z 3] d e (λd e h=>ar (re true 4 3 d) λd=>ar (fv [.str [], .Z 0, .zF, .zF, .Z 0, .str [], .Z 0, .zF] [(2,3,d)]) λd=>ar (hR [.str [], .Z 0, .zF, .zF, .Z 0, .str [], .Z 0, .zF] h) λi=>pq a e h i.1 i.2 8 d λd e h=>e3 c λi=>aW a 71 [i, .str [119,104,101,110]] h e (λe h i=>ul e i a h λe _ h i=>bk (λc d e=>cz (c 6) λh=>ip h (λc d e=>eW (e+22) λe=>e3 c λh=>aW a 44 [h] d e (λd e g=>ar (re false 1 1 d) λd=>ar (dc a e .neq 9 true d (.str [59])) λd=>Vu d (c 1) e λe h=>PT d e h λe h=>F8 e c 0 h 0 a λh i=>F8 e c 0 i 1 a λi j=>ji e (bl .add i (.Z 1)) j λi j=>ji e (gt 7 h i) j λh i=>I7 e 1 h i a λh i=>ji e (dc a i .eql 9 true h (.str [108,101,116])) i λh i=>PS d (λa=>c4 (λb=>a b i) λa=>aV e (a h) (a .zF)) i λe h=>c4 (λd=>bk (λc d e=>M2 c a d λa=>b c a e) λa=>aV d (ps c λa=>f a h g) (a (Z c 90 d) h g)) λa=>aV d (a .zT) (a e)) g) λb f=>fg (λb c d e=>hm c 54 53 λg=>bk (λc d e=>sT (λa c d=>gJ a 54 λe=>b (Z a 54 e) c d) c 52 54 7 λb f=>ar (cZ a d 7 f) λf=>wH e a d f λd e f=>eW (e+8) λe=>e9 1 d a f λ_ g=>e9 2 d a f λh i=>cz (c 8) λj=>sV 0 j a f g λf=>cz (c 8) λg=>ar (hk 1 g) λg=>ar (aI a f h) λh=>gn h (some i) (oK a f g i λf=>fm c 5 8 λg h=>ar (cZ a f 8 h) λh=>ar (hC 1 [.str [], .Z 0, .zF, .zF, .Z 0, .str [], .Z 0, .zF] [(0,8,h)] e) λh=>Db a f e h.1 h.2 8 g λa e f=>b (zy c 13 d 5 a) e f)) λa=>aV g (a (Z c 55 g) d e) (f (Z c 55 g) d e)) (zz c 52 h 53 b 54 (.Z 0)) d e) λb=>aV e (e3 c λf=>aW a 71 [f, .str [110,111,116]] i h (λf h i=>hl f λ_ f=>sV 7 d a h f λf=>e3 c λh=>aW a 70 [h, .Z 1] f i (λf g h=>wH h a g f λf g h=>eW (g+8) λg=>e9 1 f a h λ_ i=>e9 2 f a h λj k=>sV 5 d a h i λh=>ar (hk 6 d) λi=>ar (aI a h j) λj=>gn j (some k) (oK a h i k λa=>b (zA c 8 d 10 e 37 e 11 f) a g)) g) g) (b (zz c 8 d 10 e 37 e) i h)) g) g) λb=>fg (λc d e f=>cz (d 7) λh=>bk (λb d e=>bk (λb d e=>e3 b λf=>aW a 71 [f, .str [44]] d e (λa d e=>hl a λ_ a=>c (Z b 7 a) d e) g) λc=>fm b 6 0 λf h=>aW a 70 [h, .Z 1] d e (λd e g=>Ro d g a e f λa d e=>c (Z b 6 a) d e) g) λa=>aV h (a (Z d 14 h) e f) (b (Z d 14 h) e f)) (zy c 6 .aT 7 .zT) d e) (zy (cP [b,c]) 4 .aT 5 .aT) d e
def amY:cY X 72 [a0,a7] h j ah av=aaX X a0 a7 h j ah av:=Zk
def amX:cQ X 72 2=true:=Zk
def aaY(a:aL)(b:D)(c:R af)(d:Nat)(e f:bI):Prop:=
 hn a c d b λc d g=>ar (hR [.aT, .aT, .Z 0, .cF] g) λh=>gu a d g h.1 h.2 λd g h=>ar (hR [.aT, .aT, .Z 0, .cF] h) λi=>gu a g h i.1 i.2 λg h i=>ar (aI a h c) λj=>I1 a j 40 h i f λh i j=>bk (λb c d=>iY b 1 a c λg=>sS 61 d a c g f λc d g=>ar (re false 2 1 c) λc=>qd b λh=>sV 2 h a d c λc=>iY b 1 a c λd=>aW a 95 [d] c g (λc d g=>qd b λh=>sV 3 h a d c λc=>iY b 1 a c λd=>sS 59 g a c d f λ_ c d=>m1 b 3 a c 4 λf=>k0 b 2 a c 4 f λa b=>e b a d) f) λe=>aV h (iS a (.func (.func 94) [] [c,g]) [] j i (λ_ i j=>ar (aI a i c) λk=>sS 44 j a i k f λ_ i j=>bk (λb c d=>iY b 1 a c λg=>sS 41 d a c g f λ_ a c=>e b a c) λe=>fg (λb c d g=>cz (c 7) λh=>bk (λc d e=>bk (λc d e=>iY c 1 a d λg=>aW a 71 [g, .str [44]] d e (λa d e=>hl a λ_ a=>b (Z c 7 a) d e) f) λb=>n5 c λg=>iS a g [] d e (λ_ a d=>b c a d) f) λa=>aV h (a (Z c 20 h) d g) (e (Z c 20 h) d g)) (zz (zA (cP [b]) 1 c 2 d 3 g 4 (.func (.func 94) [] [c,g])) 6 h 14 h 7 .zT) i j) f) (iS a (.func (.func 94) [] [c,g]) [] j i (λ_ a f=>e (zy (zA (cP [b]) 1 c 2 d 3 g 4 (.func (.func 94) [] [c,g])) 6 h 14 h) a f) f)
def am0:cY X 73 [a0] h j ah av=aaY X a0 h j ah av:=Zk
def amZ:cQ X 73 1=true:=Zk
def abm(a:aL)(b:D)(c:R af)(d:Nat)(_ e:bI):Prop:=
 hn a c d b λb c d=>e9 2 b a c λ_ a=>Ja 21 a λa=>ws e a c d
def anE:cY X 93 [a0] h j ah av=abm X a0 h j ah av:=Zk
def anD:cQ X 93 1=true:=Zk
def abn(a:aL)(b c:D)(d:R af)(e:Nat)(f g:bI):Prop:=
 ar (aI a d b) λb=>aW a 70 [b, .Z 1] d e (λb d e=>wH e a d b λb d e=>eW (d+16) λg=>jy c a e λh=>e9 1 b a e λ_ i=>ar (hC 1 [.str []] [(0,1,i)] (d+4)) λi=>ms a e (d+4) i.1 i.2 λe i=>e9 1 c a i λj k=>e9 2 b a i λb l=>ar (hC 1 [.Z 0] [(0,1,l)] (d+10)) λm=>ms a i (d+10) m.1 m.2 λd i=>hN (jP a i g 1 h e) i g λe g h=>ar (hk 0 c) λi=>ar (aI a g j) λj=>gn j (some k) (ar (aI a g b) λb=>gn b (some l) (hN (jP a g h 1 k d) g h λb d g=>oK a d i e λd=>sV 1 c a d b λa=>f (.tuple []) a g))) g
def anG:cY X 94 [a0,a7] h j ah av=abn X a0 a7 h j ah av:=Zk
def anF:cQ X 94 2=true:=Zk
def abo(a:aL)(b:D)(c:R af)(d:Nat)(e f:bI):Prop:=
 aW a 118 [b] c d (λc d g=>aW a 71 [b, .str [45,62]] d g (λd g h=>ul d h a g λd g h i=>ar (gi .not d) λj=>bk (λb c d=>eW (d+9) λg=>iy b 4 2 a c λh i=>fm b 3 0 λb j=>aW a 95 [j] c g (λc f g=>ar (hC 2 [.cF, .cF] [(0,1,b),(1,1,c)] (d+5)) λb=>ms a f (d+5) b.1 b.2 λb c=>ar (fv [.Z 0, .Z 0, .str [], .zF, .zF, .zF, .Z 0, .int .u64 0, .aT] [(0,1, .Z 22),(1,1,i),(8,1,b)]) λb=>yC a c (d+7) b λb c=>ar (aI a c h) λa=>gn a (some i) (e b c g)) f) λa=>aV j (e c i h) (a (Z (zA (cP [b]) 2 .cF 3 c 4 g 5 d) 14 j) i h)) f) f
def anI:cY X 95 [a0] h j ah av=abo X a0 h j ah av:=Zk
def anH:cQ X 95 1=true:=Zk
def XX(a:aL)(b:D)(c:R af)(d:Nat)(e f:bI):Prop:=
 aW a 133 [b, .Z 0] c d (λc d g=>aW a 71 [b, .str [102,98,121]] d g (λd g h=>ul d h a g λd g h i=>ar (gi .not d) λj=>bk (λb c d=>lO b 3 0 a c λ_ _ g=>ar (bl .neq g (.Z 1)) λg=>ow g (b 3) c d λc d h=>A7 g c d h 0 a λc d h=>eB g (bl .neq c (.Z 4)) d h λc d h=>j5 g c d h λc d h=>xK c (b 3) d h λd h i=>yj c d h i 8 a λd h i=>e7 c (gt 1 d (.Z 0)) h i λd h i=>e7 c (aI a h d) h i λd h i=>yj c d h i 0 a λd h i=>e7 c (bl .neq d (.Z 1)) h i λd h i=>lC g (λa=>c4 (λb=>a b h i) λa=>aV c (a .zT) (a d)) h i λc d h=>c4 (λc=>bk (λb c d=>eW (d+9) λg=>iy b 4 2 a c λh i=>fm b 3 0 λb j=>aW a 118 [j] c g (λc f g=>ar (hC 2 [.cF, .cF] [(0,1,b),(1,1,c)] (d+5)) λb=>ms a f (d+5) b.1 b.2 λb c=>ar (fv [.Z 0, .Z 0, .str [], .zF, .zF, .zF, .Z 0, .int .u64 0, .aT] [(0,1, .Z 21),(1,1,i),(8,1,b)]) λb=>yC a c (d+7) b λb c=>ar (aI a c h) λa=>gn a (some i) (e b c g)) f) λe=>aV c (m1 b 4 a d 7 λg=>aW a 93 [g] d h (λ_ a d=>e (Z b 39 c) a d) f) (e (Z b 39 c) d h)) λa=>aV g (a c) (a .zF)) λa=>aV j (e c i h) (a (Z (zA (cP [b]) 2 .cF 3 c 4 g 5 d) 14 j) i h)) f) f
def akp:cY X 118 [a0] h j ah av=XX X a0 h j ah av:=Zk
def ako:cQ X 118 1=true:=Zk
def γ(a:aL)(b c:D)(d:R af)(e:Nat)(f g:bI):Prop:=
 ar (bl .eql c (.Z 5)) λh=>bk (λb c d=>fm b 0 1 λe h=>A5 h λh=>aW a 133 [e,h] c d (λc d e=>bk (λa b c=>n5 a λa=>f a b c) λ_=>fg (λb c d e=>bk b λb=>fm c 0 1 λh i=>aW a 141 [h,i] d e (λd e h=>hl d λd i=>ar (gi .not i) λj=>bk (λc d e=>fm c 6 5 λh i=>fm c 0 1 λj k=>A5 k λk=>aW a 133 [j,k] d e (λd e g=>ar (hC 2 [.cF, .cF] [(0,1,i),(1,1,d)] g) λd=>gu a e g d.1 d.2 λd e g=>rS h 8 a e d λa=>fm c 6 1 λd e=>n4 e 2 b λb e=>aV b (f d a g) (e (zy c 5 d 36 b) a g)) g) λa=>aV j (ps c λa=>f a e h) (a (zz c 6 d 7 i 23 j) e h)) g) (Z b 5 c) d e) g) λi=>aV h (aW a 140 [b] d e f g) (i (zy (cP [b,c]) 4 .cF 9 h) d e)
def akT:cY X 133 [a0,a7] h j ah av=γ X a0 a7 h j ah av:=Zk
def akS:cQ X 133 2=true:=Zk
def κ(a:aL)(b:D)(c:R af)(d:Nat)(e f:bI):Prop:=
 aW a 147 [b] c d (λc d g=>bk (λa b c=>cz (a 2) λa=>e a b c) λ_=>fg (λb c d g=>bk b λb=>e3 c λh=>aW a 71 [h, .str [60,60]] d g (λd g h=>ul d h a g λd g h i=>ar (gi .not d) λj=>bk (λc d g=>cz (c 6) λh=>ar (gi .not h) λh=>bk (λc d e=>e3 c λg=>aW a 70 [g, .Z 4] d e (λd e g=>wH g a e d λd e g=>e9 3 d a g λ_ h=>ar (bl .gtr h (.int .u64 63)) λh=>bk (λc d e=>fm c 4 5 λf g=>e9 2 g a d λ_ g=>iy c 7 3 a d λ_ h=>qd c λi=>ar (hC 1 [.cF] [(0,1,i)] e) λi=>gu a d e i.1 i.2 λd e i=>ar (fv [.Z 0, .Z 0, .str [], .zF, .zF, .zF, .Z 0, .int .u64 0, .aT] [(0,1,f),(1,1,g),(7,1,h),(8,1,d)]) λd=>hn a e i d λa d e=>b (Z c 3 a) d e) λb=>aV h (rR a g 7 d 93 e f λ_ a e=>b (zy c 7 d 29 h) a e) (b (zy c 7 d 29 h) g e)) f) λa=>aV h (qd c λa=>e a d g) (a (Z c 23 h) d g)) λb=>aV j (e3 c λe=>aW a 71 [e, .str [62,62]] i h (λe f h=>hl e λe i=>ar (gg a f 7 g e) λa=>b (zy (zA c 4 (.Z 19) 5 g 6 d 16 j) 4 (.Z 20) 6 i) a h) f) (b (zA c 4 (.Z 19) 5 g 6 d 16 j) i h)) f) (zy (cP [b]) 2 .cF 3 c) d g) f
def ak7:cY X 140 [a0] h j ah av=κ X a0 h j ah av:=Zk
def ak6:cQ X 140 1=true:=Zk
def μ(a:aL)(b c:D)(d:R af)(e:Nat)(f g:bI):Prop:=
 ar (H4 5 1 (.ptr 8 0) c) λh=>ar (aI a d h) λh=>ip h (λ_ a b=>f (.tuple [.cF, .zF]) a b) λi j=>fg (λb c d e=>hm c 14 13 λh=>bk (λc d e=>sT (λa c d=>gJ a 14 λe=>b (Z a 14 e) c d) c 12 14 2 λb h=>m2 a d h λh=>ar (hR [.str [], .Z 0] e) λi=>pq a d e i.1 i.2 2 h λd e h=>e3 c λi=>jy d a h λj=>aW a 71 [i,j] h e (λe g h=>ul e h a g λe g h i=>bk b λb=>aV e (e9 1 d a i λ_ b=>e9 2 g a i λ_ c=>ar (fv [.Z 0, .Z 0, .str [], .zF, .zF, .zF, .Z 0, .int .u64 0, .aT] [(0,1,b),(1,1,c)]) λb=>hn a i h b λa b c=>f (.tuple [a, .zT]) b c) (b (zA c 7 d 8 g 9 e 25 e) i h)) g) λa=>aV h (a (Z c 15 h) d e) (j (Z c 15 h) d e)) (Z (zA (cP [b,c]) 4 .cF 5 .zF 12 h 13 i) 14 (.Z 0)) d e
def ak9:cY X 141 [a0,a7] h j ah av=μ X a0 a7 h j ah av:=Zk
def ak8:cQ X 141 2=true:=Zk
def ο(a:aL)(b:D)(c:R af)(d:Nat)(e f:bI):Prop:=
 ar (fv [.str [], .Z 0] [(0,1, .str [110,111,116]),(1,1, .Z 3)]) λg=>ar (fv [.str [], .Z 0] [(0,1, .str [45]),(1,1, .Z 4)]) λh=>ar (fv [.str [], .Z 0] [(0,1, .str [112,114,101]),(1,1, .Z 5)]) λi=>ar (fv [.str [], .Z 0, .str [], .Z 0, .str [], .Z 0] [(0,2,g),(2,2,h),(4,2,i)]) λg=>bk (λb c d=>e3 b λg=>aW a 153 [g] c d (λc d g=>bk (λa b c=>cz (a 2) λa=>e a b c) λ_=>fg (λb c d g=>bk b λb=>e3 c λh=>aW a 71 [h, .str [119,104,101,110]] d g (λd g h=>ul d h a g λd g h i=>ar (gi .not d) λj=>bk (λc d e=>e3 c λg=>aW a 71 [g, .str [110,111,116]] d e (λd e g=>ul d g a e λd _ e g=>eW (e+11) λh=>iy c 8 2 a g λi j=>fm c 0 7 λk l=>ar (hC 1 [.cF] [(0,1,l)] (e+7)) λl=>ms a g (e+7) l.1 l.2 λg l=>aW a 70 [k, .Z 1] l h (λf h k=>ar (re false 1 1 f) λf=>ar (fv [.Z 0, .Z 0, .str [], .zF, .zF, .zF, .Z 0, .int .u64 0, .aT] [(0,1, .Z 6),(1,1,j),(2,1,f),(3,1,d),(8,1,g)]) λf=>yC a h (e+9) f λe f=>ar (aI a f i) λa=>gn a (some j) (b (zy c 11 d 7 e) f k)) f) f) λa=>aV j (cz (c 7) λa=>e a i h) (a (zz c 8 g 9 d 45 j) i h)) f) (Z b 7 c) d g) f) λh=>fg (λb c d g=>I5 c 16 3 λi=>bk (λc d g=>bk (λa c d=>gJ a 16 λe=>b (Z a 16 e) c d) λb=>fm c 15 16 λh i=>ar (uY true 3 2 h i) λh=>ar (hR [.str [], .Z 0] g) λi=>pq a d g i.1 i.2 2 h λd g h=>e3 c λi=>jy d a h λj=>aW a 71 [i,j] h g (λg h i=>ul g i a h λg h i j=>bk b λb=>aV g (eW (i+10) λb=>e9 1 d a j λd g=>e9 2 h a j λh k=>e3 c λc=>aW a 147 [c] j b (λb c f=>ar (hC 1 [.cF] [(0,1,b)] (i+6)) λb=>ms a c (i+6) b.1 b.2 λb c=>ar (fv [.Z 0, .Z 0, .str [], .zF, .zF, .zF, .Z 0, .int .u64 0, .aT] [(0,1,g),(1,1,k),(8,1,b)]) λb=>yC a c (i+8) b λb c=>ar (aI a c d) λd=>gn d (some g) (ar (aI a c h) λa=>gn a (some k) (e b c f))) f) (b (zA c 4 d 5 h 6 g 26 g) j i)) f) λa=>aV i (a (Z c 17 i) d g) (h (Z c 17 i) d g)) (zz (cP [b]) 2 .cF 15 g 16 (.Z 0)) c d
def alf:cY X 147 [a0] h j ah av=ο X a0 h j ah av:=Zk
def ale:cQ X 147 1=true:=Zk
def ys(a:aL)(b:D)(c:R af)(d:Nat)(e f:bI):Prop:=
 aW a 44 [b] c d (λc d g=>wH g a d c λc d g=>e9 2 c a g λ_ h=>ar (fv [.Z 0, .Z 0, .str [], .zF, .zF, .zF, .Z 0, .int .u64 0, .aT] [(1,1,h)]) λh=>hn a g d h λd g h=>g9 b 1 a g λ_ i=>A5 i λi=>rS b 1 a g i λg=>bk (λa b c=>n5 a λa=>e a b c) λe=>jy c a g λi=>n4 i 5 e λe i=>aV e (eW (h+16) λf=>ar (hk 4 c) λh=>kI a g h λj=>e9 3 c a g λk l=>lm d 0 λm=>q1 a g m 1 λg=>lm d 4 λm=>kI a g h λh=>gn h (some j) (ar (aI a g k) λh=>gn h (some l) (ar (gg a g 3 m j) λg=>lm d 7 λh=>ar (aI a g k) λj=>gn j (some l) (oK a g h l λa=>i (zA (cP [b]) 2 .cF 3 c 4 d 29 e) a f)))) (Df c a g 2 λj=>vf j 1 c g h a λg h k=>eB j (dc a h .eql 9 true g (.str [116,114,117,101])) h k λg h k=>j5 j g h k λg h k=>uj g 1 c h k a λh k l=>e7 g (dc a k .eql 9 true h (.str [102,97,108,115,101])) k l λh k l=>lC j (λa=>c4 (λb=>a b k l) λa=>aV g (a .zT) (a h)) k l λg h k=>c4 (λg=>bk i λi=>aV g (ar (fv [.zF, .zF, .Z 0] [(0,1, .zT),(2,1, .Z 1)]) λf=>lm d 0 λj=>q1 a h j 1 λh=>lm d 4 λj=>ar (gg a h 3 j f) λf=>e9 1 c a f λ_ h=>ar (dc a f .eql 9 true h (.str [116,114,117,101])) λh=>bk i λi=>aV h (lm d 7 λj=>ar (gg a f 1 j (.int .u64 1)) λa=>i (zy (zA (cP [b]) 2 .cF 3 c 4 d 29 e) 46 g 69 h) a k) (i (zy (zA (cP [b]) 2 .cF 3 c 4 d 29 e) 46 g 69 h) f k)) (jy c a h λj=>n4 j 1 i λi j=>aV i (eW (k+10) λk=>e9 1 c a h λl m=>lm d 0 λn=>q1 a h n 2 λh=>lm d 2 λn=>ar (aI a h l) λl=>gn l (some m) (oK a h n m λh=>I1 a b 40 h k f λh k l=>bk j λj=>aV h (aW a 156 [b] l k (λf k l=>lm d 0 λm=>q1 a k m 25 λk=>rS d 8 a k f λa=>j (zA (zA (cP [b]) 2 .cF 3 c 4 d 29 e) 46 g 73 i 6 h 90 h) a l) f) (j (zA (zA (cP [b]) 2 .cF 3 c 4 d 29 e) 46 g 73 i 6 h 90 h) l k))) (jy c a h λl=>n4 l 3 j λj l=>aV j (eW (k+10) λk=>ar (hk 4 c) λm=>kI a h m λn=>lm d 0 λo=>q1 a h o 26 λh=>lm d 4 λo=>kI a h m λm=>gn m (some n) (ar (gg a h 3 o n) λh=>sS 40 k a h b f λ_ h k=>aW a 95 [b] h k (λh k m=>ar (hC 1 [.cF] [(0,1,h)] m) λh=>gu a k m h.1 h.2 λh k m=>rS d 8 a k h λh=>sS 41 m a h b f λ_ a f=>l (zz (zA (cP [b]) 2 .cF 3 c 4 d 29 e) 46 g 73 i 99 j) a f) f)) (Df c a h 6 λm=>vf m 1 c h k a λh k n=>eB m (dc a k .eql 9 true h (.str [40])) k n λh k n=>c4 (λh=>bk l λl=>aV h (aW a 95 [b] k n (λk m n=>sS 41 n a m b f λ_ a f=>l (Z (zA (zA (cP [b]) 2 .cF 3 c 4 d 29 e) 46 g 73 i 99 j 123 h) 4 k) a f) f) (Df c a k 2 λm=>vf m 1 c k n a λk n o=>eB m (dc a n .eql 9 true k (.str [105,102])) n o λk n o=>c4 (λk=>bk l λl=>aV k (lm d 0 λm=>q1 a n m 23 λm=>Rk o d a m b f λm n o p q=>gn q (some m) (hN (jP a p n 1 m o) p n λm n o=>rS d 8 a n m λm=>ar (hC 1 [.str []] [(0,1, .str [116,104,101,110])] o) λn=>gu a m o n.1 n.2 λm n o=>aW a 69 [b,m] n o (λ_ m n=>Rk n d a m b f λm n o p q=>gn q (some m) (hN (jP a p n 1 m o) p n λm n o=>rS d 8 a n m λm=>ar (hC 1 [.str []] [(0,1, .str [101,108,115,101])] o) λn=>gu a m o n.1 n.2 λm n o=>aW a 69 [b,m] n o (λ_ m n=>Rk n d a m b f λf m n o p=>gn p (some f) (hN (jP a o m 1 f n) o m λf m n=>rS d 8 a m f λa=>l (Z (zA (zA (cP [b]) 2 .cF 3 c 4 d 29 e) 46 g 73 i 99 j 123 h) 137 k) a n)) f)) f)) (Df c a n 2 λm=>vf m 1 c n o a λn o p=>eB m (dc a o .eql 9 true n (.str [109,101,114,103,101])) o p λn o p=>c4 (λm=>bk l λl=>aV m (aW a 70 [b, .Z 1] o p (λn o p=>ar (re false 1 1 n) λn=>lm d 0 λq=>q1 a o q 24 λo=>rS d 2 a o n λn=>aW a 153 [b] n p (λn o p=>aW a 153 [b] o p (λf o p=>ar (hC 2 [.cF, .cF] [(0,1,n),(1,1,f)] p) λf=>gu a o p f.1 f.2 λf n o=>rS d 8 a n f λa=>l (zy (zA (zA (cP [b]) 2 .cF 3 c 4 d 29 e) 46 g 73 i 99 j 123 h) 137 k 188 m) a o) f) f) f) (g9 b 1 a o λ_ n=>yi n λn=>rS b 1 a o n λn=>rR a n 7 c 93 p f λ_ a f=>l (zy (zA (zA (cP [b]) 2 .cF 3 c 4 d 29 e) 46 g 73 i 99 j 123 h) 137 k 188 m) a f)) λa=>aV m (a n) (a .zF))) λa=>aV m (a k) (a .zF))) λa=>aV m (a h) (a .zF))))) λa=>aV j (a g) (a .zF))) f
def Bi:cY X 153 [a0] h j ah av=ys X a0 h j ah av:=Zk
def Bh:cQ X 153 1=true:=Zk
def ρ(a:aL)(b:D)(c:R af)(d:Nat)(e f:bI):Prop:=
 I1 a b 41 c d f λc d g=>bk (λb c d=>e3 b λg=>aW a 95 [g] c d (λc d g=>ar (hC 1 [.cF] [(0,1,c)] g) λc=>gu a d g c.1 c.2 λc d g=>bk (λa b c=>cz (a 2) λa=>e a b c) λ_=>fg (λb c d g=>bk b λb=>e3 c λh=>I1 a h 44 d g f λd g h=>ar (gi .not d) λi=>bk (λc d e=>fm c 5 0 λg h=>aW a 95 [h] d e (λd e f=>ar (hC 1 [.cF] [(0,1,d)] f) λd=>Db a e f d.1 d.2 1 g λa d e=>b (Z c 5 a) d e) f) λb=>aV i (e3 c λb=>sS 41 g a h b f λ_ a b=>ps c λc=>e c a b) (b (zy c 7 d 23 i) h g)) (Z b 5 c) d g) f) λa=>aV c (e .aT g d) (a (zz (cP [b]) 2 .aT 4 c 13 c) g d)
def alh:cY X 156 [a0] h j ah av=ρ X a0 h j ah av:=Zk
def alg:cQ X 156 1=true:=Zk
end
open Go.ba Go.aQ
noncomputable section
def cd(t:Tok):List D:=[.Z t.kind, .str t.text, .Z t.at_, .int .u64 t.n, .bool t.ty.b, .bool t.ty.s, .Z t.ty.w]
def pf:Nat:=3
def LP(f:Nat):Bool:=rB f [7,129,108]
structure di(X:ch):Prop where
 none:∀f k,LP f=false->X.O f k=none
set_option maxRecDepth 100000 in
def zx{X:ch}(O:di X){f:Nat}{a:List D}{S:R af}{n:Nat}{u v:bI}(c:cQ X f a.length=true)(h:cY X f a S n u v)(b:LP f=false:=by rfl):aW X f a S n u v:=cR c (O.none _ _ b) h
structure aQ(X:ch)(h:R af)(aG bQ:Nat)(aU:List Tok)(i:Nat):Prop where
 at_:∃c ao,U X h aG=some (.cells c 2 .own)/\c.get 0=some ao/\c.get 1=some (.Z (i:Int))/\dL X h (λe=>e=bQ) bQ ao 7 (aU.map cd)
 ne:aG≠bQ
def aQ.aa{X:ch}{h S':R af}{aG bQ:Nat}{aU:List Tok}{i:Nat}(a:aQ X h aG bQ aU i)(bW:U X S' aG=U X h aG)(cq:U X S' bQ=U X h bQ):aQ X S' aG bQ aU i:=by
 obtain⟨c,ao,J,Q,ak,ay⟩:=a.at_
 exact⟨⟨c,ao,by rw[bW];exact J,Q,ak,ay.aa λe B=>by subst B;exact cq⟩,a.ne⟩
def kl{C:aL}{h:R af}{b n V:Nat}{c:R D}{st:oP}{v:D}(a:U C h b=some (.cells c n st))(bv:c.get V=some v):aI C h (.ptr b V)=some v:=by rw[cl,a];exact bv
section
variable{X:ch}{h S':R af}{j am aG bQ:Nat}{aU:List Tok}{i:Nat}
def sC(au:di X)(aF:(o X).a6<=j)(aw:aQ X h aG bQ aU i)(ky:aG<j)(j2:bQ<j){t:Tok}(a8:aU[i]? =some t):
 aW X 44 [.ptr aG 0] h j (λac S' am=>ac= .agg (cd t)/\bf X h j S' am) (λ_ _ _=>False):=by
 refine zx au (al3 X) ?_
 rw[al4]
 unfold aar
 obtain⟨c,ao,J,Q,ak,ay⟩:=aw.at_
 have wd:=kl J Q
 have bW:=kl J ak
 have aN:i<(aU.map cd).length:=by rw[Zi];exact(Zb.1 a8).1
 have dw:=ay.fI i aN
 have fb:cZ X (bi X h j (zu [.Z 0, .str [], .Z 0, .int .u64 0, .zF, .zF, .Z 0] 7)) 7 (.ptr bQ (i*7))=some (.agg (cd t)):=by
  have:=(ay.aa (S':=bi X h j (zu [.Z 0, .str [], .Z 0, .int .u64 0, .zF, .zF, .Z 0] 7)) (λe B=>by subst B;exact aC aF Zo)).row Zd (i:=i) (r:=cd t) (by rw[Zw,a8];rfl)
  exact this
 refine gb @wd @bW @dw @fb cd.eq_1 ⟨?_⟩
 exact⟨rfl,dA⟩
def ue:List D:=[.Z 0, .str [], .Z 0, .int .u64 0, .zF, .zF, .Z 0]
def aQ.on(aw:aQ X h aG bQ aU i){T:Nat}{c:R D}(J:U X S' aG=some (.cells c 2 .own))(aY:∀dH st,U X h aG=some (.cells dH 2 st)->c=dH.set 1 (some (.Z (T:Int))))(cq:U X S' bQ=U X h bQ):aQ X S' aG bQ aU T:=by
 obtain⟨dH,ao,a7,b6,a3,a4⟩:=aw.at_
 have:=aY dH _ a7
 subst this
 refine⟨⟨_,ao,J, ?_, ?_,a4.aa λe B=>by subst B;exact cq⟩,aw.ne⟩
 ·rw[R.kN,Zh Zd];exact b6
 ·rw[R.kN,Zp rfl]
def J7(au:di X)(aF:(o X).a6<=j)(t:Tok)(av:bI)(a:∀S' am,bf X h j S' am->av (.iface 26 (.agg [.Z 21, .Z t.at_])) S' am):
 aW X 93 [.agg (cd t)] h j (λ_ _ _=>False) av:=by
 refine zx au (anD X) ?_
 rw[anE]
 unfold abm cd
 refine cI ⟨?_⟩
 exact⟨a _ _ dA⟩
def aiS(au:di X)(aF:(o X).a6<=j)(aw:aQ X h aG bQ aU i)(ir:(o X).a6<=aG)(ky:aG<j)(j2:bQ<j)(bo:aU.length<=300000){t:Tok}(a8:aU[i]? =some t){s:aX}(aD:g3 t s=true):
 aW X 71 [.ptr aG 0, .str s] h j (λac S' am=>ac= .tuple [.agg (cd t), .zT]/\aQ X S' aG bQ aU (i+1)/\cg X [aG] h j S' am) (λ_ _ _=>False):=by
 refine zx au (aaV X) ?_
 rw[aaW]
 unfold RM
 refine qk ?_
 have k6:=(Zb.1 a8).1
 have bH:bf X h j (bi X h j (zu ue 7)) (j+1):=bf.fresh aF _
 have eo:aQ X (bi X h j (zu ue 7)) aG bQ aU i:=aw.aa (bH.aa _ ky) (bH.aa _ j2)
 refine(sC au Zo eo Zo Zo a8).mono ?_ (λ_ _ _ a=>a)
 rintro ac aJ aR ⟨rfl,bC⟩
 have f4:=bC.le
 have Q:U X aJ j=zu ue 7:=by rw[bC.aa _ Zo];exact bb aF
 have gF:cg X [aG] h j aJ aR:=cg.of ((bf.fresh aF _).trans bC)
 have dD:aQ X aJ aG bQ aU i:=eo.aa (bC.aa _ Zo) (bC.aa _ Zo)
 obtain⟨c,ao,a7,b6,a3,a4⟩:=dD.at_
 have aH:=gF.aa
 simp only[g3,Zq,zg,Zg]at aD
 obtain⟨pP,rfl⟩:=aD
 have bW:=kl a7 a3
 have bD:=zv i
 have fV:decide (t.text≠t.text)=false:=by simp
 unfold ue at Q
 have fin:∀(s5:R af) (am:Nat),U X s5 aG=some (.cells (dT c 1 [.Z ((i+1:Nat):Int)]) 2 .own)->cg X [aG] h j s5 am->U X s5 bQ=U X aJ bQ->aQ X s5 aG bQ aU (i+1)/\cg X [aG] h j s5 am:=λs5 am J Q ak=>
  ⟨dD.on J (λdH st a=>by rw[a7]at a;cases a;exact rQ ..) ak,Q⟩
 have dS:=aw.ne
 rcases pP with iR|iR
 ·have c1:decide (t.kind≠2)=false:=by simp[iR]
  refine et cd.eq_1 @c1 @fV @bW @bD @a7 @Q ⟨?_⟩
  refine⟨rfl,fin _ _ ?_ ?_ ?_⟩
  ·simp(disch:=omega) only[aC,bb];rfl
  ·exact⟨Zo,λb ag bU=>by have:=aH b ag bU;simp only[Zt,ZI,YU,Ym,ZH,Yf]at bU;simp(disch:=omega) only[aC];exact this⟩
  ·simp(disch:=omega) only[aC]
 ·have c1:decide (t.kind≠2)=true:=by simp[iR]
  have cH:decide (t.kind≠6)=false:=by simp[iR]
  refine et cd.eq_1 @c1 @cH @fV @bW @bD (Za @a7 @Q) ⟨?_⟩
  refine⟨rfl,fin _ _ ?_ ?_ ?_⟩
  ·simp(disch:=omega) only[aC,bb];rfl
  ·exact⟨Zo,λb ag bU=>by have:=aH b ag bU;simp only[Zt,ZI,YU,Ym,ZH,Yf]at bU;simp(disch:=omega) only[aC];exact this⟩
  ·simp(disch:=omega) only[aC]
def aiR(au:di X)(aF:(o X).a6<=j)(aw:aQ X h aG bQ aU i)(ir:(o X).a6<=aG)(ky:aG<j)(j2:bQ<j){t:Tok}(a8:aU[i]? =some t){s:aX}(aD:g3 t s=false):
 aW X 71 [.ptr aG 0, .str s] h j (λac S' am=>ac= .tuple [.agg ue, .zF]/\aQ X S' aG bQ aU i/\cg X [aG] h j S' am) (λ_ _ _=>False):=by
 refine zx au (aaV X) ?_
 rw[aaW]
 unfold RM
 refine qk ?_
 have bH:bf X h j (bi X h j (zu ue 7)) (j+1):=bf.fresh aF _
 have eo:aQ X (bi X h j (zu ue 7)) aG bQ aU i:=aw.aa (bH.aa _ ky) (bH.aa _ j2)
 refine(sC au Zo eo Zo Zo a8).mono ?_ (λ_ _ _ a=>a)
 rintro ac aJ aR ⟨rfl,bC⟩
 have f4:=bC.le
 have Q:U X aJ j=zu ue 7:=by rw[bC.aa _ Zo];exact bb aF
 have gF:cg X [aG] h j aJ aR:=cg.of ((bf.fresh aF _).trans bC)
 have dD:aQ X aJ aG bQ aU i:=eo.aa (bC.aa _ Zo) (bC.aa _ Zo)
 have aH:=gF.aa
 unfold ue at Q
 have fin:∀(s5:R af) (am:Nat),U X s5 aG=U X aJ aG->cg X [aG] h j s5 am->U X s5 bQ=U X aJ bQ->aQ X s5 aG bQ aU i/\cg X [aG] h j s5 am:=λs5 am J Q ak=>
  ⟨dD.aa J ak,Q⟩
 simp only[g3,Bool.and_eq_false_iff,Bool.or_eq_false_iff,Zc]at aD
 by_cases iR:t.kind=2
 ·have aD:t.text≠s:=by rcases aD with a|a;exact absurd iR a.1;exact a
  have c1:decide (t.kind≠2)=false:=by simp[iR]
  have fV:decide (t.text≠s)=true:=by simpa using aD
  refine fW cd.eq_1 @c1 @fV @Q ⟨?_⟩
  refine⟨rfl,fin _ _ ?_ ?_ ?_⟩
  ·simp(disch:=omega) only[aC]
  ·exact⟨Zo,λb ag bU=>by have:=aH b ag bU;simp only[Zt,ZI,YU,Ym,ZH,Yf]at bU;simp(disch:=omega) only[aC];exact this⟩
  ·simp(disch:=omega) only[aC]
 ·have c1:decide (t.kind≠2)=true:=by simp[iR]
  by_cases nf:t.kind=6
  ·have aD:t.text≠s:=by rcases aD with a|a;exact absurd nf a.2;exact a
   have cH:decide (t.kind≠6)=false:=by simp[nf]
   have fV:decide (t.text≠s)=true:=by simpa using aD
   refine gb cd.eq_1 @c1 @cH @fV @Q ⟨?_⟩
   refine⟨rfl,fin _ _ ?_ ?_ ?_⟩
   ·simp(disch:=omega) only[aC]
   ·exact⟨Zo,λb ag bU=>by have:=aH b ag bU;simp only[Zt,ZI,YU,Ym,ZH,Yf]at bU;simp(disch:=omega) only[aC];exact this⟩
   ·simp(disch:=omega) only[aC]
  ·have cH:decide (t.kind≠6)=true:=by simp[nf]
   refine fW cd.eq_1 @c1 @cH @Q ⟨?_⟩
   refine⟨rfl,fin _ _ ?_ ?_ ?_⟩
   ·simp(disch:=omega) only[aC]
   ·exact⟨Zo,λb ag bU=>by have:=aH b ag bU;simp only[Zt,ZI,YU,Ym,ZH,Yf]at bU;simp(disch:=omega) only[aC];exact this⟩
   ·simp(disch:=omega) only[aC]
def CO(au:di X)(aF:(o X).a6<=j)(aw:aQ X h aG bQ aU i)(ir:(o X).a6<=aG)(ky:aG<j)(j2:bQ<j)(bo:aU.length<=300000){t:Tok}(a8:aU[i]? =some t)(y:Int):
 aW X 70 [.ptr aG 0, .Z y] h j (λac S' am=>t.kind=y/\ac= .agg (cd t)/\aQ X S' aG bQ aU (i+1)/\cg X [aG] h j S' am)
  (λac S' am=>t.kind≠y/\ac= .iface 26 (.agg [.Z 21, .Z t.at_])/\cg X [aG] h j S' am):=by
 refine zx au (amV X) ?_
 rw[amW]
 unfold aaU
 refine qk ?_
 have k6:=(Zb.1 a8).1
 have bH:bf X h j (bi X h j (zu ue 7)) (j+1):=bf.fresh aF _
 have eo:aQ X (bi X h j (zu ue 7)) aG bQ aU i:=aw.aa (bH.aa _ ky) (bH.aa _ j2)
 refine(sC au Zo eo Zo Zo a8).Zm ?_
 rintro ac aJ aR ⟨rfl,bC⟩
 have f4:=bC.le
 have Q:U X aJ j=zu ue 7:=by rw[bC.aa _ Zo];exact bb aF
 have gF:cg X [aG] h j aJ aR:=cg.of ((bf.fresh aF _).trans bC)
 have dD:aQ X aJ aG bQ aU i:=eo.aa (bC.aa _ Zo) (bC.aa _ Zo)
 obtain⟨c,ao,a7,b6,a3,a4⟩:=dD.at_
 have aH:=gF.aa
 have bW:=kl a7 a3
 have bD:=zv i
 unfold ue at Q
 have dS:=aw.ne
 by_cases xx:t.kind=y
 ·have c1:decide (t.kind≠y)=false:=by simp[xx]
  refine ih cd.eq_1 @c1 @bW @bD @a7 @Q ⟨?_⟩
  refine⟨xx,rfl,dD.on (c:=dT c 1 [.Z ((i+1:Nat):Int)]) ?_ (λdH st a=>by rw[a7]at a;cases a;exact rQ ..) ?_, ?_⟩
  ·simp(disch:=omega) only[aC,bb];rfl
  ·simp(disch:=omega) only[aC]
  ·exact⟨Zo,λb ag bU=>by have:=aH b ag bU;simp only[Zt,ZI,YU,Ym,ZH,Yf]at bU;simp(disch:=omega) only[aC];exact this⟩
 ·have c1:decide (t.kind≠y)=true:=by simp[xx]
  refine ed cd.eq_1 @c1 @Q ⟨?_⟩
  refine(J7 au Zo t _ ?_).mono (λ_ _ _ a=>a.elim) (λ_ _ _ a=>a)
  intro S' am bT
  have K3:=bT.le
  refine⟨xx,rfl,Zo,λb ag bU=> ?_⟩
  have:=aH b ag bU
  simp only[Zt,ZI,YU,Ym,ZH,Yf]at bU
  rw[bT.aa b Zo]
  simp(disch:=omega) only[aC];exact this
end
section
variable{X:ch}{h S':R af}{j am aG bQ:Nat}{aU:List Tok}{i:Nat}
def hi:Tok:=⟨0,[],0,0,dQ⟩
def sN:List aX->Tok->List Tok->fS Tok
 |[],x,k=>ok x k
 |s::n1,_,k=>andThen (ee s k) λe k=>sN n1 e k
def fU{aU:List Tok}{i:Nat}{x:Tok}{k:List Tok}(a:aU.drop i=x::k):aU[i]? =some x/\aU.drop (i+1)=k:=by
 constructor
 ·have:=congrArg (λk=>k[0]?) a
  simpa using this
 ·rw[<-zj,a];rfl
def fL(n1:List aX):List (List D):=n1.map λs=>[.str s]
def ajk(au:di X)(aF:(o X).a6<=j)(aw:aQ X h aG bQ aU i)(ir:(o X).a6<=aG)(ky:aG<j)(j2:bQ<j)(bo:aU.length<=300000){aS:D}{cO:Nat}{n1:List aX}(KK:cO<j)(Lo:cO≠aG)(aD:dL X h (λe=>e=cO) cO aS 1 (fL n1))
 {r:Except Int (Tok×List Tok)}(Y:sN n1 hi (aU.drop i)=some r):
 aW X 69 [.ptr aG 0,aS] h j (λac S' am=>∃x cA,r= .ok (x,aU.drop cA)/\ac= .agg (cd x)/\aQ X S' aG bQ aU cA/\cg X [aG] h j S' am)
  (λac S' am=>∃F,r= .error F/\ac= .iface 26 (.agg [.Z 21, .Z F])/\cg X [aG] h j S' am):=by
 refine zx au (amR X) ?_
 rw[amS]
 unfold aaT
 have eT:=aD.len
 have dS:=aw.ne
 have v2:=aD.many
 simp only[fL,Zi]at v2
 refine qk ?_
 refine qk ?_
 have Kp:bf X h j (bi X (bi X h j (zu (cd hi) 7)) (j+1) (zu (cd hi) 7)) (j+1+1):=dA
 have tX:U X (bi X (bi X h j (zu (cd hi) 7)) (j+1) (zu (cd hi) 7)) j=zu (cd hi) 7:=by simp(disch:=omega) only[aC,bb]
 have cN:U X (bi X (bi X h j (zu (cd hi) 7)) (j+1) (zu (cd hi) 7)) (j+1)=zu (cd hi) 7:=bb Zo
 refine o1 @eT ⟨?_⟩
 refine jW (λH S' n=>∃x cA,r= .ok (x,aU.drop cA)/\H.g 5=some (.ptr (j+1) 0)/\H.g 4=some (.ptr j 0)/\j+1<n/\U X S' (j+1)=zu (cd x) 7/\U X S' j=zu (cd hi) 7/\aQ X S' aG bQ aU cA/\cg X [aG] h j S' n) (λT bJ=> ?_) ?_
 ·refine fp (λm H S' n=>∃y cA x,m=n1.length-y/\y<=n1.length/\H.g 0=some (.ptr aG 0)/\H.g 9=some aS/\H.g 10=some (.Z (n1.length:Int))/\H.g 11=some (.Z (y:Int))/\H.g 5=some (.ptr (j+1) 0)/\H.g 4=some (.ptr j 0)/\j+1<n
   /\U X S' (j+1)=zu (cd x) 7/\U X S' j=zu (cd hi) 7/\aQ X S' aG bQ aU cA/\cg X [aG] h j S' n/\sN (n1.drop y) x (aU.drop cA)=some r)
   n1.length ⟨0,i,hi,Zo,Zo, ?_, ?_, ?_, ?_, ?_, ?_,Zo,cN,tX,aw.aa (Kp.aa _ ky) (Kp.aa _ j2),cg.of Kp,Y⟩ ?_
  ·exact be
  ·exact be
  ·refine BK ⟨?_⟩
   simp[fL]
  ·refine BK ⟨?_⟩
   rfl
  ·exact be
  ·exact be
  rintro m H aJ n ⟨y,cA,x,rfl,aH,t0,t9,oE,pn,t5,t4,c2,bK,jb,dD,gF,bw⟩
  refine cL @oE @pn ⟨?_⟩
  refine Bu (λAc=> ?_) (λAc=> ?_)
  ·have Ac:y<n1.length:=Zo
   have je:n1.drop y=n1[y]::n1.drop (y+1):=Zr Ac
   rw[je]at bw
   have dw:=aD.fI y (by simp[fL];exact Ac)
   have afO:aI X aJ (.ptr cO (y*1))=some (.str n1[y]):=by
    have:=(aD.aa (S':=aJ) λe B=>by subst B;exact gF.aa _ KK (by simp;exact Lo)).cell y [.str n1[y]] 0 (.str n1[y]) (by simp[fL]) rfl
    rwa[ZX]at this
   refine gb @t9 @pn @dw @afO @t0 ⟨?_⟩
   generalize n1[y]=s at bw afO
   cases aE:aU.drop cA with
   |nil=>rw[aE]at bw;simp[sN,ee,andThen]at bw
   |cons e k=>
    obtain⟨B,az⟩:=fU aE
    rw[aE]at bw
    simp only[sN,ee]at bw
    cases Ez:g3 e s with
    |true=>
     rw[Ez]at bw
     simp only[ZE,andThen,ok]at bw
     refine(aiS au (zq gF.le) dD ir Zo Zo bo B Ez).Zm ?_
     rintro ac a1 bn ⟨rfl,gV,eg⟩
     have jf:=eg.le
     have Te:U X a1 (j+1)=zu (cd x) 7:=by rw[eg.aa _ Zo Zx];exact bK
     have Td:U X a1 j=zu (cd hi) 7:=by rw[eg.aa _ Zo Zx];exact jb
     refine ed @t5 @Te @pn ⟨?_⟩
     have bD:=zv y
     refine ce @bD ⟨?_⟩
     refine⟨_, ?_,y+1,cA+1,e,rfl,Zo,aZ t0,aZ t9,aZ oE,be,aZ t5,aZ t4,Zo,bb Zo,by simp(disch:=omega) only[aC];exact Td,gV.aa (zw) (zw), ?_, ?_⟩
     ·omega
     ·have mI:=(gF.trans eg).aa
      exact⟨zq gF.le,λb ag bU=>by rw[<-mI b ag bU];exact zw⟩
     ·rw[az];exact bw
    |false=>
     rw[Ez]at bw
     simp only[Zy,ZC,andThen,bad,Zf]at bw
     subst bw
     refine(aiR au (zq gF.le) dD ir Zo Zo B Ez).Zm ?_
     rintro ac a1 bn ⟨rfl,gV,eg⟩
     have jf:=eg.le
     have Te:U X a1 (j+1)=zu (cd x) 7:=by rw[eg.aa _ Zo Zx];exact bK
     refine ed @t5 @Te @t0 ⟨?_⟩
     refine(sC au (zq gF.le) (gV.aa (zw) (zw)) Zo Zo B).Zm ?_
     rintro ac bA cv ⟨rfl,cW⟩
     have iG:=cW.le
     refine(J7 au (zq gF.le) e _ ?_).mono (λ_ _ _ a=>a.elim) (λ_ _ _ a=>a)
     intro bN cf dR
     have iH:=dR.le
     have mI:=(gF.trans eg).aa
     refine⟨_,rfl,rfl,zq gF.le,λb ag bU=> ?_⟩
     rw[dR.aa b Zo,cW.aa b Zo, <-mI b ag bU]
     simp(disch:=omega) only[aC]
  ·have xx:y=n1.length:=Zo
   subst xx
   rw[List.drop_length]at bw
   simp only[sN,ok,Zf]at bw
   subst bw
   refine cI ⟨?_⟩
   exact bJ _ _ _ ⟨x,cA,rfl,aZ t5,aZ t4,c2,bK,jb,dD,gF⟩
 ·rintro H aJ n ⟨x,cA,ae,t5,t4,c2,bK,jb,dD,gF⟩
  unfold cd at bK
  unfold cd hi dQ at jb
  refine gb @t5 @t4 @bK @jb (bp bK) ⟨?_⟩
  refine⟨x,cA,ae,rfl,dD.aa (zw) (zw), ?_⟩
  exact⟨zq gF.le,λb ag bU=>by rw[<-gF.aa b ag bU];exact zw⟩
end
structure i6(X:ch)(h:R af)(j aG bQ:Nat)(aU:List Tok)(i:Nat):Prop where
 a6:(o X).a6<=j
 b7:(o X).a6<=aG
 hK:aG<j
 hg:bQ<j
 many:aU.length<=300000
 par:aQ X h aG bQ aU i
def i6.go{X:ch}{h S':R af}{j am aG bQ i cA:Nat}{aU:List Tok}(a:i6 X h j aG bQ aU i)(aw:aQ X S' aG bQ aU cA)(aF:j<=am):i6 X S' am aG bQ aU cA:=
 ⟨ZA a.a6 aF,a.b7,ZN a.hK aF,ZN a.hg aF,a.many,aw⟩
def dx(F b:Nat):Nat->Prop:=λe=>F<=e/\e<b
def pG(y F:Int):D:= .iface 26 (.agg [.Z y, .Z F])
def ka(X:ch)(aG bQ:Nat)(aU:List Tok)(h:R af)(j:Nat)(r:Except Int (bB×List Tok)):bI:=λac S' am=>
 ∃E cA,r= .ok (E,aU.drop cA)/\cE X S' (dx j am) E ac/\aQ X S' aG bQ aU cA/\cg X [aG] h j S' am
def jm{α:Type}(X:ch)(aG:Nat)(h:R af)(j:Nat)(r:Except Int α):bI:=λac S' am=>
 ∃F,r= .error F/\ac=pG 21 F/\cg X [aG] h j S' am
def wK(X:ch):Prop:=8<X.a6/\∀h y,y<5->∃b aS,aI X h (.ptr 8 y)=some aS/\dL X h (λe=>e<X.a6) b aS 2 ((aq y).map λV=>[.str V.1, .Z V.2])
section
variable{X:ch}{h S' aK aJ:R af}{j am aM aR aG bQ:Nat}{aU:List Tok}{i:Nat}
def jm.of{α eJ:Type}{eF:R af}{ahA:Nat}{r:Except Int α}{h7:Except Int eJ}{ac:D}(a:jm X aG aK aM r ac S' am)(gF:cg X [aG] eF ahA aK aM)(Y:∀F,r= .error F->h7= .error F):jm X aG eF ahA h7 ac S' am:=by
 obtain⟨F,J,Q,ak⟩:=a
 exact⟨F,Y F J,Q,gF.trans ak⟩
def cE.fr{F b:Nat}{E:bB}{v:D}(a:cE X h (dx F b) E v)(gF:cg X [aG] h aM S' am)(ag:b<=aM)(aw:aG<F){fu dK:Nat}(J:fu<=F)(Q:b<=dK):cE X S' (dx fu dK) E v:=
 cE.lift (λe B=>⟨ZA J B.1,ZN B.2 Q⟩) _ _ (cE.aa (λe B=>gF.aa e (zq B.2) (by simp;have:=B.1;omega)) _ _ a)
def cE.ex{F b:Nat}{E:bB}{v:D}(a:cE X h (dx F b) E v)(y:∀e,F<=e->e<b->U X S' e=U X h e){fu dK:Nat}(J:fu<=F)(Q:b<=dK):cE X S' (dx fu dK) E v:=
 cE.lift (λe B=>⟨ZA J B.1,ZN B.2 Q⟩) _ _ (cE.aa (λe B=>y e B.1 B.2) _ _ a)
def rM{eJ:Type}{s:aX}{k:List Tok}{f:Option Tok->List Tok->fS eJ}{r:Except Int (eJ×List Tok)}(a:h9 s k f=some r):∃x bM,k=x::bM/\((g3 x s=true/\f (some x) bM=some r)\/(g3 x s=false/\f none k=some r)):=by
 unfold h9 lj at a
 cases k with
 |nil=>cases a
 |cons x bM=>
  refine⟨x,bM,rfl, ?_⟩
  simp only[]at a
  cases aD:g3 x s with
  |true=>rw[aD]at a;exact .inl ⟨rfl,a⟩
  |false=>rw[aD]at a;exact .inr ⟨rfl,a⟩
def gK{α eJ:Type}{x:fS α}{f:α->List Tok->fS eJ}{r:Except Int (eJ×List Tok)}(a:andThen x f=some r):(∃F,x=some (.error F)/\r= .error F)\/∃F k,x=some (.ok (F,k))/\f F k=some r:=by
 unfold andThen at a
 split at a
 ·cases a
 ·injection a with a;exact .inl ⟨_,rfl,a.symm⟩
 ·exact .inr ⟨_,_,rfl,a⟩
def oF(au:di X)(aw:i6 X h j aG bQ aU i){x:Tok}{k:List Tok}(aE:aU.drop i=x::k)(s:aX):
 aW X 71 [.ptr aG 0, .str s] h j (λac S' am=>ac= .tuple [.agg (cd (if g3 x s then x else hi)), .bool (g3 x s)]/\aQ X S' aG bQ aU (if g3 x s then i+1 else i)/\cg X [aG] h j S' am) (λ_ _ _=>False):=by
 obtain⟨J,Q⟩:=fU aE
 cases aD:g3 x s with
 |true=>simp only[ZE];exact aiS au aw.a6 aw.par aw.b7 aw.hK aw.hg aw.many J aD
 |false=>simp only[Zy,ZC];exact aiR au aw.a6 aw.par aw.b7 aw.hK aw.hg J aD
structure rU(X:ch)(aG bQ:Nat)(aU:List Tok)(n:Nat):Prop where
 level:∀h j i (y:Nat) r,y<=5->i6 X h j aG bQ aU i->Go.aQ.level n y (aU.drop i)=some r->aW X 133 [.ptr aG 0, .Z (y:Int)] h j (ka X aG bQ aU h j r) (jm X aG h j r)
 shift:∀h j i r,i6 X h j aG bQ aU i->Go.aQ.shift n (aU.drop i)=some r->aW X 140 [.ptr aG 0] h j (ka X aG bQ aU h j r) (jm X aG h j r)
 u2:∀h j i r,i6 X h j aG bQ aU i->Go.aQ.tV n (aU.drop i)=some r->aW X 147 [.ptr aG 0] h j (ka X aG bQ aU h j r) (jm X aG h j r)
 part:∀h j i r,i6 X h j aG bQ aU i->Go.aQ.part n (aU.drop i)=some r->aW X 153 [.ptr aG 0] h j (ka X aG bQ aU h j r) (jm X aG h j r)
 k2:∀h j i r,i6 X h j aG bQ aU i->Go.aQ.k2 n (aU.drop i)=some r->aW X 118 [.ptr aG 0] h j (ka X aG bQ aU h j r) (jm X aG h j r)
 arrow:∀h j i r,i6 X h j aG bQ aU i->Go.aQ.arrow n (aU.drop i)=some r->aW X 95 [.ptr aG 0] h j (ka X aG bQ aU h j r) (jm X aG h j r)
 list:∀h j i r,i6 X h j aG bQ aU i->Go.aQ.list n (aU.drop i)=some r->aW X 156 [.ptr aG 0] h j (λac S' am=>∃ca cA br cO,r= .ok (ca,aU.drop cA)/\dL X S' (dx j am) cO ac 1 (br.map λv=>[v])/\dz X S' (λe=>dx j am e/\e≠cO) ca br/\aQ X S' aG bQ aU cA/\cg X [aG] h j S' am) (jm X aG h j r)
def eL{C:aL}{f:Nat}{yA:List D}{ah av:bI}{h:R af}{j:Nat}(P:R af->Prop)(bq:P h)(a:∀a1,P a1->aW C f yA a1 j ah av):aW C f yA h j ah av:=a h bq
def pk(y:IntKind)(x:Int):D.same 30 (.int y x) (.int y x)=true:=by
 simp only[D.same,H2];cases y<;>simp[mr]
def aQ.ex(a:aQ X h aG bQ aU i)(y:bf X h j S' am)(J:aG<j)(Q:bQ<j):aQ X S' aG bQ aU i:=a.aa (y.aa _ J) (y.aa _ Q)
def aoJ(au:di X){n:Nat}(ai:∀m,m<n->rU X aG bQ aU m):∀h j i r,i6 X h j aG bQ aU i->Go.aQ.arrow n (aU.drop i)=some r->aW X 95 [.ptr aG 0] h j (ka X aG bQ aU h j r) (jm X aG h j r):=by
 intro h j i r aw Y
 cases n with
 |zero=>simp[Go.aQ.arrow]at Y
 |succ n=>
 refine zx au (anH X) ?_
 rw[anI]
 unfold abo
 have g6:=aw.a6
 have ky:=aw.hK
 have ir:=aw.b7
 unfold Go.aQ.arrow at Y
 rcases gK Y with ⟨F,J,rfl⟩|⟨left,c7,J,Y⟩
 ·exact((ai n Zo).k2 h j i _ aw J).mono (λac S' am a=>by obtain⟨E,cA,a,_⟩:=a;cases a) (λac S' am a=>a)
 refine((ai n Zo).k2 h j i _ aw J).mono ?_ (λac S' am a=>by obtain⟨F,a,_⟩:=a;cases a)
 rintro wD aK aM ⟨E,hA,bz,bH,eo,iC⟩
 cases bz
 have jG:=iC.le
 have nt:=aw.go eo jG
 obtain⟨x,bM,aE,ae⟩:=rM Y
 refine(oF au nt aE _).Zm ?_
 rintro C5 aJ aR ⟨rfl,dD,du⟩
 have fC:=du.le
 rcases ae with ⟨aD,Y⟩|⟨aD,Y⟩
 ·rw[aD]at dD ⊢
  simp only[ZE]at dD ⊢
  rw[<-(fU aE).2]at Y
  refine ce cd.eq_1 ⟨?_⟩
  refine eL (λa1=>bf X aJ aR a1 (aR+1+9)/\U X a1 aR=zu (cd x) 7) ⟨dA,bb Zo⟩ ?_
  rintro a1 ⟨ck,cM⟩
  rcases gK Y with ⟨F,Q,rfl⟩|⟨right,cr,Q,Y⟩
  ·refine((ai n Zo).arrow a1 _ _ _ (nt.go (dD.ex ck Zo (zq nt.hg)) Zo) Q).mono (λac S' am a=>by obtain⟨E,cA,a,_⟩:=a;cases a) (λac S' am a=>a.of (iC.trans (du.trans (cg.of ck))) (λ_ a=>a))
  refine((ai n Zo).arrow a1 _ _ _ (nt.go (dD.ex ck Zo (zq nt.hg)) Zo) Q).mono ?_ (λac S' am a=>by obtain⟨F,a,_⟩:=a;cases a)
  rintro v4 bA cv ⟨ke,i4,uN,cW,hy,eG⟩
  cases uN
  have iG:=eG.le
  simp only[ok,Zf]at Y
  subst Y
  have dF:U X bA aR=zu (cd x) 7:=by rw[eG.aa _ Zo Zx];exact cM
  obtain⟨cN,rfl,it,_⟩:=bH.ptr
  obtain⟨fQ,rfl,rt,_⟩:=cW.ptr
  have it:=it.1
  refine cL (bp dF) cd.eq_1 ⟨?_⟩
  refine gp (pk _ _) ?_
  refine⟨_,i4,rfl,cE.lit (jx:= .own) (cO:=aR+1+5) (br:=[.ptr cN 0, .ptr fQ 0]) (bb Zo) ⟨Zo,Zo⟩ ?_ ⟨Zo,Zo⟩ rfl Zo Zo (dz.two (cE.aa (λe B=> ?_) _ _ bH) (cE.aa (λe B=> ?_) _ _ cW) (λe B=> ?_) (λe B=> ?_)), ?_, ?_⟩
  ·simp(disch:=omega) only[aC,bb]<;>rfl
  ·have J:=B.1;have Q:=B.2
   simp(disch:=omega) only[aC]
   rw[eG.aa e Zo Zx,ck.aa e Zo,du.aa e Zo Zx]
  ·have J:=B.1;have Q:=B.2
   simp(disch:=omega) only[aC]
  ·simp only[dx]at B ⊢;omega
  ·simp only[dx]at B ⊢;omega
  ·exact hy.aa (zw) (by have:=nt.hg;exact zw)
  ·exact⟨Zo,λb ag bU=>by
    rw[<-((iC.trans (du.trans (cg.of ck))).trans eG).aa b ag bU]
    simp(disch:=omega) only[aC]⟩
 ·rw[aD]at dD ⊢
  simp only[Zy,ZC]at dD ⊢
  simp only[ok,Zf]at Y
  subst Y
  refine cL cd.eq_1 hi.eq_1 ⟨?_⟩
  refine⟨left,hA,rfl,cE.ex bH (λe J Q=> ?_) (Zj _) Zo,dD.aa (zw) (by have:=nt.hg;exact zw), ?_⟩
  ·simp(disch:=omega) only[aC]
   exact du.aa e Zo Zx
  ·exact⟨Zo,λb ag bU=>by rw[<-(iC.trans du).aa b ag bU];exact zw⟩
end
section
variable{X:ch}{h S' aK aJ:R af}{j am aM aR aG bQ:Nat}{aU:List Tok}{i:Nat}
def aq4(au:di X){n:Nat}(ai:∀m,m<n->rU X aG bQ aU m):∀h j i r,i6 X h j aG bQ aU i->Go.aQ.k2 n (aU.drop i)=some r->aW X 118 [.ptr aG 0] h j (ka X aG bQ aU h j r) (jm X aG h j r):=by
 intro h j i r aw Y
 cases n with
 |zero=>simp[Go.aQ.k2]at Y
 |succ n=>
 refine zx au (ako X) ?_
 rw[akp]
 unfold XX
 have g6:=aw.a6
 have ky:=aw.hK
 have ir:=aw.b7
 unfold Go.aQ.k2 at Y
 rcases gK Y with ⟨F,J,rfl⟩|⟨left,c7,J,Y⟩
 ·exact((ai n Zo).level h j i 0 _ Zo aw J).mono (λac S' am a=>by obtain⟨E,cA,a,_⟩:=a;cases a) (λac S' am a=>a)
 refine((ai n Zo).level h j i 0 _ Zo aw J).mono ?_ (λac S' am a=>by obtain⟨F,a,_⟩:=a;cases a)
 rintro wD aK aM ⟨E,hA,bz,bH,eo,iC⟩
 cases bz
 have jG:=iC.le
 have nt:=aw.go eo jG
 obtain⟨x,bM,aE,ae⟩:=rM Y
 refine(oF au nt aE _).Zm ?_
 rintro C5 aJ aR ⟨rfl,dD,du⟩
 have fC:=du.le
 have j2:=nt.hg
 rcases ae with ⟨aD,Y⟩|⟨aD,Y⟩
 ·rw[aD]at dD ⊢
  simp only[ZE]at dD ⊢
  rw[<-(fU aE).2]at Y
  simp only[]at Y
  obtain⟨cN,aS,cO,br,rfl,it,wd,bW,cq,cS,d1,dY,dk,fJ,gM,hJ,Lx⟩:=bH.open
  have it:=it
  obtain⟨aEM,aEN⟩:=it
  have dH:aI X aJ (.ptr cN 0)=some (.Z left.kind):=by rw[du.ep _ _ Zo Zx];exact wd
  have GJ:aI X aJ (.ptr cN 8)=some aS:=by rw[du.ep _ _ Zo Zx];exact gM
  have cj:tO left=some true->∀(H:cU) (a1:R af) (bn:Nat),H.g 4=some (.ptr aR 0)->H.g 3=some (.ptr cN 0)->H.g 0=some (.ptr aG 0)->bf X aJ aR a1 bn->aR<bn->U X a1 aR=zu (cd x) 7->
   eW (bn+9) λayw=>cz (H.g 4) λaCj=>ar (hk 2 aCj) λai8=>ar (aI X a1 ai8) λai9=>cz (H.g 3) λaCk=>cz (H.g 0) λaCl=>aW X 118 [aCl] a1 ayw (λaCP anV ayx=>ar (hC 2 [.cF, .cF] [(0,1,aCk),(1,1,aCP)] (bn+5)) λaig=>ms X anV (bn+5) aig.1 aig.2 λaCQ anW=>ar (fv [.Z 0,.Z 0,.str [],.zF,.zF,.zF,.Z 0,.int .u64 0, .aT] [(0,1,(.Z 21)),(1,1,ai9),(8,1,aCQ)]) λaCR=>yC X anW (bn+7) aCR λaCS abx=>ar (aI X abx ai8) λaCT=>gn aCT (some ai9) (ka X aG bQ aU h j r aCS abx ayx)) (jm X aG h j r):=by
   intro UD H a1 bn t4 t3 t0 ck c2 cM
   rw[UD]at Y
   simp only[]at Y
   refine gb @t4 @t3 @t0 (bp cM) cd.eq_1 ⟨?_⟩
   rcases gK Y with ⟨F,Q,rfl⟩|⟨right,cr,Q,Y⟩
   ·refine((ai n Zo).k2 a1 _ _ _ (nt.go (dD.ex ck Zo Zo) Zo) Q).mono (λac S' am a=>by obtain⟨E,cA,a,_⟩:=a;cases a) (λac S' am a=>a.of (iC.trans (du.trans (cg.of (ck.more Zo)))) (λ_ a=>a))
   refine((ai n Zo).k2 a1 _ _ _ (nt.go (dD.ex ck Zo Zo) Zo) Q).mono ?_ (λac S' am a=>by obtain⟨F,a,_⟩:=a;cases a)
   rintro v4 bA cv ⟨ke,i4,uN,cW,hy,eG⟩
   cases uN
   have iG:=eG.le
   simp only[ok,Zf]at Y
   subst Y
   have dF:U X bA aR=zu (cd x) 7:=by rw[eG.aa _ Zo Zx];exact cM
   obtain⟨fQ,rfl,rt,_⟩:=cW.ptr
   refine cL (bp dF) cd.eq_1 ⟨?_⟩
   refine gp (pk _ _) ?_
   refine⟨_,i4,rfl,cE.lit (jx:= .own) (cO:=bn+5) (br:=[.ptr cN 0, .ptr fQ 0]) (bb Zo) ⟨Zo,Zo⟩ ?_ ⟨Zo,Zo⟩ rfl Zo Zo (dz.two (cE.aa (λe B=> ?_) _ _ bH) (cE.aa (λe B=> ?_) _ _ cW) (λe B=> ?_) (λe B=> ?_)), ?_, ?_⟩
   ·simp(disch:=omega) only[aC,bb]<;>rfl
   ·have J:=B.1;have Q:=B.2
    simp(disch:=omega) only[aC]
    rw[eG.aa e Zo Zx,ck.aa e Zo,du.aa e Zo Zx]
   ·have J:=B.1;have Q:=B.2
    simp(disch:=omega) only[aC]
   ·simp only[dx]at B ⊢;omega
   ·simp only[dx]at B ⊢;omega
   ·exact hy.aa (zw) (zw)
   ·exact⟨Zo,λb ag bU=>by
     rw[<-((iC.trans (du.trans (cg.of (ck.more (by omega:bn<=bn+9))))).trans eG).aa b ag bU]
     simp(disch:=omega) only[aC]⟩
  have ac3:tO left=some false->∀(a1:R af) (bn:Nat) (ah:bI),bf X aJ aR a1 bn->aW X 93 [.agg (cd x)] a1 bn ah (jm X aG h j r):=by
   intro UD a1 bn ah ck
   rw[UD]at Y
   simp only[bad,Zf]at Y
   subst Y
   refine(J7 au (zq ck.le) x _ ?_).mono (λ_ _ _ a=>a.elim) (λ_ _ _ a=>a)
   intro S' am bT
   exact⟨_,rfl,rfl,iC.trans (du.trans (cg.of (ck.trans bT)))⟩
  by_cases lA:left.kind=1
  ·have c1:decide (left.kind≠1)=false:=by simp[lA]
   refine gm cd.eq_1 @dH @c1 ⟨?_⟩
   refine gk ?_
   refine gm cd.eq_1 @dH @c1 ⟨?_⟩
   refine gk ?_
   refine wZ ?_
   exact cj (by simp[tO,lA]) _ _ _ (be) (be) (be) dA Zo (bb Zo)
  ·have c1:decide (left.kind≠1)=true:=by simp[lA]
   by_cases fH:left.kind=4
   ·have ja:decide (left.kind≠4)=false:=by simp[fH]
    cases xo:left.args with
    |nil=>
     simp[tO,fH,xo]at Y
    |cons F yA=>
     obtain⟨v,bv,BQ⟩:=Lx.get 0 F (by rw[xo];rfl)
     obtain⟨g2,nr,sF⟩:=hJ.one bv
     have g2:gt 1 aS (.Z 0)=some (.ptr cO 0):=g2
     obtain⟨sH,rfl,Po,js⟩:=BQ.ptr
     obtain⟨aEO,aEP⟩:=Po
     obtain⟨aFt,aFu⟩:=sF
     have Nz:aI X aJ (.ptr cO 0)=some (.ptr sH 0):=by rw[du.ep _ _ Zo Zx];exact nr
     have vs:aI X aJ (.ptr sH 0)=some (.Z F.kind):=by rw[du.ep _ _ Zo Zx];exact js
     by_cases aA:F.kind=1
     ·have gs:decide (F.kind≠1)=false:=by simp[aA]
      refine gm cd.eq_1 @dH (Za @c1 (Za @ja (Za @GJ (Za @g2 (Za @Nz (Za @vs @gs)))))) ⟨?_⟩
      refine gk ?_
      refine gm cd.eq_1 @dH (Za @c1 (Za @ja (Za @GJ (Za @g2 (Za @Nz (Za @vs @gs)))))) ⟨?_⟩
      refine gk ?_
      refine wZ ?_
      exact cj (by simp[tO,fH,xo,aA]) _ _ _ (be) (be) (be) dA Zo (bb Zo)
     ·have gs:decide (F.kind≠1)=true:=by simp[aA]
      refine gm cd.eq_1 @dH (Za @c1 (Za @ja (Za @GJ (Za @g2 (Za @Nz (Za @vs @gs)))))) ⟨?_⟩
      refine gk ?_
      refine gm cd.eq_1 @dH (Za @c1 (Za @ja (Za @GJ (Za @g2 (Za @Nz (Za @vs @gs)))))) ⟨?_⟩
      refine gk ?_
      refine w0 ?_
      refine ce cd.eq_1 ⟨?_⟩
      exact ac3 (by simp[tO,fH,xo,aA]) _ _ _ dA
   ·have ja:decide (left.kind≠4)=true:=by simp[fH]
    refine gm cd.eq_1 @dH (Za @c1 @ja) ⟨?_⟩
    refine gk ?_
    refine gm cd.eq_1 @dH (Za @c1 @ja) ⟨?_⟩
    refine gk ?_
    refine w0 ?_
    refine ce cd.eq_1 ⟨?_⟩
    exact ac3 (by simp[tO,lA,fH]) _ _ _ dA
 ·rw[aD]at dD ⊢
  simp only[Zy,ZC]at dD ⊢
  simp only[ok,Zf]at Y
  subst Y
  refine cL cd.eq_1 hi.eq_1 ⟨?_⟩
  refine⟨left,hA,rfl,cE.ex bH (λe J Q=> ?_) (Zj _) Zo,dD.aa (zw) (zw), ?_⟩
  ·simp(disch:=omega) only[aC]
   exact du.aa e Zo Zx
  ·exact⟨Zo,λb ag bU=>by rw[<-(iC.trans du).aa b ag bU];exact zw⟩
end
section
variable{X:ch}{h S' aK aJ:R af}{j am aM aR aG bQ:Nat}{aU:List Tok}{i:Nat}
def ajJ(X:ch)(aG bQ:Nat)(aU:List Tok)(h:R af)(j:Nat)(r:Option bB×List Tok):bI:=λac S' am=>∃cA,r.2=aU.drop cA/\aQ X S' aG bQ aU cA/\cg X [aG] h j S' am/\
 match r.1 with
 |none=>ac= .tuple [.cF, .zF]
 |some E=>∃b y F,E= .mk y F [] false dQ 0 []/\ac= .tuple [.ptr b 0, .zT]/\j<=b/\b<am/\U X S' b=zu (ho y F [] false dQ 0 .aT) 9
def ao3(au:di X)(d7:wK X){y:Nat}(aH:y<5)(aw:i6 X h j aG bQ aU i){r:Option bB×List Tok}(Y:nE (aq y) (aU.drop i)=some r):
 aW X 141 [.ptr aG 0, .Z (y:Int)] h j (ajJ X aG bQ aU h j r) (λ_ _ _=>False):=by
 refine zx au (ak8 X) ?_
 rw[ak9]
 unfold μ
 have g6:=aw.a6
 have ky:=aw.hK
 have ir:=aw.b7
 have j2:=aw.hg
 obtain⟨asX,d7⟩:=d7
 obtain⟨b,aS,hJ,cC⟩:=d7 h y aH
 have dw:H4 5 1 (.ptr 8 0) (.Z (y:Int))=some (.ptr 8 y):=by
  simp[H4,sz,MX,fF,aH]
 have eT:=cC.len
 rw[Zi]at eT
 have v2:=cC.many
 rw[Zi]at v2
 refine gm @dw @hJ @eT ⟨?_⟩
 refine gk ?_
 refine fp (λm H S' n=>∃T,m=(aq y).length-T/\T<=(aq y).length/\H.g 0=some (.ptr aG 0)/\H.g 12=some aS/\H.g 13=some (.Z ((aq y).length:Int))/\H.g 14=some (.Z (T:Int))/\aQ X S' aG bQ aU i/\cg X [aG] h j S' n/\nE ((aq y).drop T) (aU.drop i)=some r)
  (aq y).length ⟨0,Zo,Zo,be,be,be,fO,aw.par,cg.refl _ _ _,Y⟩ ?_
 rintro m H aJ n ⟨T,rfl,bJ,t0,u5,l3,mY,dD,gF,ag⟩
 have f4:=gF.le
 have f0:=aw.go dD f4
 refine Ob @l3 @mY ⟨?_⟩
 refine gk ?_
 refine Bu (λc2=> ?_) (λc2=> ?_)
 ·have c2:T<(aq y).length:=Zo
  have je:(aq y).drop T=(aq y)[T]::(aq y).drop (T+1):=Zr c2
  rw[je]at ag
  have aeZ:=cC.fI T (by simpa using c2)
  have fb:=((d7 aJ y aH).choose_spec)
  obtain⟨cu,AU,tG,HQ⟩:=d7 aJ y aH
  have Vb:AU=aS:=by
   have E:aI X aJ (.ptr 8 y)=aI X h (.ptr 8 y):=by
    rw[cl,cl]
    have:∀h:R af,U X h 8=X.G.get 8:=λh=>by
     have atp:Nat.blt 8 (o X).a6=true:=by simp[Nat.blt];exact asX
     simp only[U,atp,ff];rfl
    rw[this,this]
   rw[E,hJ]at tG
   exact(Yu tG).symm
  subst Vb
  have aeZ:=HQ.fI T (by simpa using c2)
  have fb:=λa1 (a:∀e,e<X.a6->U X a1 e=U X aJ e)=>(HQ.aa (S':=a1) a).row Zd (i:=T) (r:=[.str (aq y)[T].1, .Z (aq y)[T].2]) (by rw[Zw,Ze c2];rfl)
  have fb:=fb aJ (λ_ _=>rfl)
  generalize (aq y)[T]=V at ag fb je
  obtain⟨s,eV⟩:=V
  simp only[nE]at ag
  refine gb @u5 @mY @aeZ @fb @t0 ⟨?_⟩
  refine eL (λa1=>bf X aJ n a1 (n+1)/\U X a1 n=zu [.str s, .Z eV] 2) ⟨dA,bb Zo⟩ ?_
  rintro a1 ⟨ck,cM⟩
  cases aE:aU.drop i with
  |nil=>rw[aE]at ag;simp[lj]at ag
  |cons x k=>
   rw[aE]at ag
   refine(oF au (f0.go (dD.ex ck Zo Zo) Zo) aE s).Zm ?_
   rintro ac bA cv ⟨rfl,hy,eG⟩
   have iG:=eG.le
   have dF:U X bA n=zu [.str s, .Z eV] 2:=by rw[eG.aa _ Zo Zx];exact cM
   have se:=gF.trans ((cg.of ck).trans eG)
   cases aD:g3 x s with
   |true=>
    rw[aD]at hy
    simp only[lj,aD,ZE]at ag hy ⊢
    simp only[Zf]at ag
    subst ag
    refine cL cd.eq_1 (bp dF) ⟨?_⟩
    refine⟨i+1,(fU aE).2.symm,hy.aa (zw) (zw), ?_,cv+1,eV,x.at_,rfl,rfl,Zo,Zo, ?_⟩
    ·exact⟨Zo,λb ag bU=>by rw[<-se.aa b ag bU];exact zw⟩
    ·simp(disch:=omega) only[aC,bb]<;>rfl
   |false=>
    rw[aD]at hy
    simp only[lj,aD,Zy,ZC]at ag hy ⊢
    have bD:=zv T
    refine fW cd.eq_1 hi.eq_1 @mY @bD ⟨?_⟩
    refine⟨_, ?_,T+1,rfl,Zo,aZ t0,aZ u5,aZ l3,be,hy.aa (zw) (zw), ?_,ag⟩
    ·omega
    ·exact⟨Zo,λb ag bU=>by rw[<-se.aa b ag bU];exact zw⟩
 ·have bJ:T=(aq y).length:=Zo
  subst bJ
  rw[List.drop_length]at ag
  simp only[nE,Zf]at ag
  subst ag
  refine cI ⟨?_⟩
  exact⟨i,rfl,dD,gF,rfl⟩
end
end
end Go.Proofs.YtpeabpmnlmaabaaGreatDoor

