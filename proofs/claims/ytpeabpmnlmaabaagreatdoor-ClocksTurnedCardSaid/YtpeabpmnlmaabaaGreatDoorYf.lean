/- Part of the proof of the last text; no conditions -/
import Derived.Test.YtpeabpmnlmaabaaGreatDoorYe
import Derived.KernelRfl
import Derived.Test.YtpeabpmnlmaabaaGreatDoorProg
set_option maxHeartbeats 8000000
set_option linter.all false
namespace Go.bg
noncomputable section
open Go.aL
section
variable{C:aN}{h R aQ:S ag}{j an aV:Nat}
def so{s8:List E}{ai:bK}(a:ai (.ptr j 0) (bm C h j (zD s8 s8.length)) (j+1)):ar (iK s8 j) λr=>gT C h j r.1 r.2 ai:=⟨⟨a⟩⟩
def R8{b:Nat}{s8:List E}{ai:E->S ag->Prop}(a:ai (.ptr b 0) (bm C h b (zD s8 s8.length))):ar (iK s8 b) λr=>mK C h b r.1 r.2 ai:=⟨⟨a⟩⟩
def tC(cs:List E):En cs []=some cs:=rfl
def tB(cs:List E)(off size:Nat)(v:E)(dm:List (Nat×Nat×E)):En cs ((off,size,v)::dm)=if v.cells.length=size/\off+size<=cs.length then En (nE cs off v.cells) dm else none:=by
 have D:∀F b:Nat,(Nat.beq F b=true)=(F=b):=λF b=>propext ⟨Zn,λa=>by subst a;exact zf F⟩
 simp only[En,fw,Zq,D,Nat.ble_eq]
def pz(c:S E)(T:Nat)(v:E):d7 c T [v]=c.set T (some v):=by simp[d7]
def bG{b n:Nat}{c:S E}{st:oo}(a:W C h b=some (.cells c n st))(T:Nat):aU C h (.ptr b T)=c.get T:=by rw[cw,a]
def TK{w:Bool}{F b:Prop}(a:b):iW w bg.undef F b:=⟨a⟩
def ug(b T n c:Nat):gr (.slice b T n c)=some (.Z (n:Int)):=by simp[gr,p9]
def wK(b T n c:Nat):gr (.fl b T n c)=some (.Z (n:Int)):=by simp[gr,p9]
def yf:gr .aY=some (.Z 0):=rfl
def A5(s:List Nat):nz (.str s)=some (.Z (s.length:Int)):=by simp[nz,p9]
def Ba:∀F b:List Nat,m4 F b=decide (F=b):=by
 intro F
 induction F with
 |nil=>intro b;cases b<;>simp[m4]
 |cons x F ah=>
  intro b
  cases b with
  |nil=>simp[m4]
  |cons e b=>
   simp only[m4,ah]
   by_cases a:x=e<;>simp[a]
def Gc(t:Nat)(uP:Bool)(F b:List Nat):db C h .eql t uP (.str F) (.str b)=some (.bool (decide (F=b))):=by
 simp[db,BT,xq,Ba]
def Gd(t:Nat)(uP:Bool)(F b:List Nat):db C h .neq t uP (.str F) (.str b)=some (.bool (decide (F≠b))):=by
 simp[db,BT,xq,Ba]
def Ep(off bd:Nat)(cs:List E):qK false off bd (.agg cs)=cs[off]? :=by simp[qK,fw]
def Eo(off bd:Nat)(cs:List E):qK true off bd (.agg cs)=some (.agg ((cs.drop off).take bd)):=by simp[qK,fw]
def y2(t:Nat)(bE v:E):He t bE true (.iface t v)=some (.tuple [v, .zT]):=by simp[He,fw]
def Ea(u:IntKind)(x:Int):ms .u64 (.int u x)=some (.int .u64 (x%18446744073709551616)):=by simp[ms,lT,qu]
def NS{u:IntKind}{x:Int}(H: -9223372036854775808<=x)(M:x<9223372036854775808):ms .i64 (.int u x)=some (.Z x):=by simp[ms,lT,wrap64 H M]
def Eb(s:List Nat):aqW (.str s)=some (.str s):=rfl
structure ch(C:aN)(X:List Nat)(h:S ag)(j:Nat)(R:S ag)(an:Nat):Prop where
 le:j<=an
 ab:∀b,b<j->b∉X->W C R b=W C h b
def ch.refl(X:List Nat)(h:S ag)(j:Nat):ch C X h j h j:=⟨Zj _,λ_ _ _=>rfl⟩
def ch.trans{X:List Nat}{aQ aP a6:S ag}{aV aX bz:Nat}(a:ch C X aQ aV aP aX)(u:ch C X aP aX a6 bz):ch C X aQ aV a6 bz:=
 ⟨ZD a.le u.le,λb aj af=>(u.ab b (ZP aj a.le) af).trans (a.ab b aj af)⟩
def ch.of{X:List Nat}(a:br C h j R an):ch C X h j R an:=⟨a.le,λb aj _=>a.ab b aj⟩
def ch.e6{X:List Nat}(a:ch C X h j R an)(b T:Nat)(aj:b<j)(af:b∉X):aU C R (.ptr b T)=aU C h (.ptr b T):=by rw[cw,cw,a.ab b aj af]
def ch.down{X eV:List Nat}{a8:Nat}(a:ch C X h j R an)(aF:a8<=j)(af:∀b∈X,b∈eV\/a8<=b):ch C eV h a8 R an:=
 ⟨ZD aF a.le,λb aj z=>a.ab b Zo (λD=>by rcases af b D with a|a;exact z a;omega)⟩
structure dV(C:aN)(h:S ag)(P:Nat->Prop)(b:Nat)(aO:E)(bd:Nat)(be:List (List E)):Prop where
 aj:be≠[]->P b
 many:be.length<=300000
 wide:∀r∈be,r.length=bd
 len:gr aO=some (.Z (be.length:Int))
 fx:∀(i:Nat),i<be.length->gd bd aO (.Z (i:Int))=some (.ptr b (i*bd))
 cell:∀(i:Nat) r (V:Nat) v,be[i]? =some r->r[V]? =some v->aU C h (.ptr b (i*bd+V))=some v
def dV.ab{P:Nat->Prop}{b bd:Nat}{aO:E}{be:List (List E)}(a:dV C h P b aO bd be)(u:∀e,P e->W C R e=W C h e):dV C R P b aO bd be:=
 ⟨a.aj,a.many,a.wide,a.len,a.fx,λi r V v aG bF=>by
  have aH:=u b (a.aj (λD=>by rw[D]at aG;cases aG))
  rw[cw,aH, <-cw];exact a.cell i r V v aG bF⟩
def dV.lift{P a7:Nat->Prop}{b bd:Nat}{aO:E}{be:List (List E)}(a:dV C h P b aO bd be)(u:∀e,P e->a7 e):dV C h a7 b aO bd be:=
 ⟨λD=>u _ (a.aj D),a.many,a.wide,a.len,a.fx,a.cell⟩
def aee{c:S E}:∀(r:List E) (T:Nat),(∀V v,r[V]? =some v->c.get (T+V)=some v)->c.lq T r.length=some r:=by
 intro r
 induction r with
 |nil=>intro T _;rfl
 |cons F r ah=>
  intro T a
  have aK:=a 0 F rfl
  rw[ZX]at aK
  have H:=ah (T+1) (λV v bF=>by have:=a (V+1) v (by simpa using bF);rw[Nat.add_right_comm];simpa[ZR,zw,Nat.add_left_comm]using this)
  simp[S.lq,aK,H]
def dV.row{P:Nat->Prop}{b bd:Nat}{aO:E}{be:List (List E)}(a:dV C h P b aO bd be)(aC:0<bd){i:Nat}{r:List E}(aG:be[i]? =some r):dE C h bd (.ptr b (i*bd))=some (.agg r):=by
 have az:=a.wide r (Zl aG)
 have aK:∃v,r[0]? =some v:=by
  cases r with
  |nil=>simp at az;omega
  |cons F k=>exact⟨F,rfl⟩
 obtain⟨v,bD⟩:=aK
 have aA:=a.cell i r 0 v aG bD
 rw[cw]at aA
 rw[wI]
 split at aA
 ·rename_i c _ _ aj
  have:=aee (c:=c) r (i*bd) (λV v bF=>by
   have:=a.cell i r V v aG bF
   rw[cw,aj]at this
   exact this)
  rw[az]at this
  rw[this];rfl
 ·cases aA
def Ti{bd:Nat}:∀(be:List (List E)),(∀r∈be,r.length=bd)->∀(i:Nat) r (V:Nat) v,be[i]? =some r->r[V]? =some v->be.flatten[i*bd+V]? =some v:=by
 intro be
 induction be with
 |nil=>intro _ i r V v aG;simp at aG
 |cons F k ah=>
  intro Y i r V v aG bF
  have aE:=Y F (Zv ..)
  have wp:V<r.length:=(Zb.1 bF).1
  cases i with
  |zero=>
   simp at aG;subst aG
   rw[Yp,zs,ZT,Z7 Zo];exact bF
  |succ i=>
   simp at aG
   rw[Yp,ZM (by rw[aE,Z8];omega),aE]
   have:(i+1)*bd+V-bd=i*bd+V:=by rw[Z8];omega
   rw[this]
   exact ah (λr m1=>Y r (Zt _ m1)) i r V v aG bF
def lm.uq{bd:Nat}{s:E}{be:List (List E)}{cv:List Nat}(a:lm C h s bd be.flatten cv)(eA:0<bd)(Y:∀r∈be,r.length=bd)(bn:be.length<=300000){P:Nat->Prop}(az:∀e∈cv,P e):∃b,dV C h P b s bd be:=by
 have gp:=tE Y
 have W:∀(be:List (List E)),(∀r∈be,r.length=bd)->∀(i:Nat) r (V:Nat) v,be[i]? =some r->r[V]? =some v->be.flatten[i*bd+V]? =some v:=by
  intro be
  induction be with
  |nil=>intro _ i r V v aG;simp at aG
  |cons F k ah=>
   intro Y i r V v aG bF
   have aE:=Y F (Zv ..)
   have wp:V<r.length:=(Zb.1 bF).1
   cases i with
   |zero=>
    simp at aG;subst aG
    rw[Yp,zs,ZT,Z7 Zo];exact bF
   |succ i=>
    simp at aG
    rw[Yp,ZM (by rw[aE,Z8];omega),aE]
    have:(i+1)*bd+V-bd=i*bd+V:=by rw[Z8];omega
    rw[this]
    exact ah (λr m1=>Y r (Zt _ m1)) i r V v aG bF
 rcases a with ⟨H,M,al⟩|⟨b,eS,n,c,H,M,al,aB,bw,b1,c6⟩
 ·have U2:be.length=0:=by
   rw[M,Z0]at gp
   rcases Nat.mul_eq_zero.1 gp.symm with a|a
   ·exact a
   ·omega
  have U2:be=[]:=YZ.1 U2
  subst U2 H
  exact⟨0,λD=>absurd rfl D,Zs,Y,rfl,λi aG=>by simp at aG,λi r V v aG=>by simp at aG⟩
 ·have aF:n=be.length:=YP eA (by rw[<-M,gp])
  subst aF H
  refine⟨b,λ_=>az b (by rw[al];exact Zv ..),bn,Y,wK ..,λi aG=>by rw[Fp _ aG,ZT],λi r V v aG bF=> ?_⟩
  rw[cw,b1]
  exact(c6 _).trans (W be Y i r V v aG bF)
def Ji{b bd u cap:Nat}{be:List (List E)}{st:oo}(aj:W C h b=some (.cells (S.ofList be.flatten 0 .nil) (u*bd) st))(aH:be.length=u)(Y:∀r∈be,r.length=bd)(bn:u<=300000){P:Nat->Prop}(bs:P b):dV C h P b (.slice b 0 u cap) bd be:=by
 subst aH
 have W:∀(be:List (List E)),(∀r∈be,r.length=bd)->∀(i:Nat) r (V:Nat) v,be[i]? =some r->r[V]? =some v->be.flatten[i*bd+V]? =some v:=by
  intro be
  induction be with
  |nil=>intro _ i r V v aG;simp at aG
  |cons F k ah=>
   intro Y i r V v aG bF
   have aE:=Y F (Zv ..)
   have wp:V<r.length:=(Zb.1 bF).1
   cases i with
   |zero=>
    simp at aG;subst aG
    rw[Yp,zs,ZT,Z7 Zo];exact bF
   |succ i=>
    simp at aG
    rw[Yp,ZM (by rw[aE,Z8];omega),aE]
    have:(i+1)*bd+V-bd=i*bd+V:=by rw[Z8];omega
    rw[this]
    exact ah (λr m1=>Y r (Zt _ m1)) i r V v aG bF
 refine⟨λ_=>bs,bn,Y,ug ..,λi aG=>by rw[Fo _ aG,ZT],λi r V v aG bF=> ?_⟩
 rw[cw,aj]
 exact(m5 _ _).trans (W be Y i r V v aG bF)
def eE(t:d3):List E:=[.bool t.b, .bool t.s, .Z t.w]
def qC(C:aN)(h:S ag)(b:Nat):Prop:=∃c n,W C h b=some (.cells c n .own)/\8<n
def DT(C:aN)(h:S ag)(b u:Nat):Prop:=C.a8<=b/\∃c n,W C h b=some (.cells c n .own)/\u<=n
def DT.ab{b u:Nat}(a:DT C h b u)(ak:W C R b=W C h b):DT C R b u:=by unfold DT;rw[ak];exact a
def qC.ab{b:Nat}(a:qC C h b)(u:W C R b=W C h b):qC C R b:=by unfold qC;rw[u];exact a
mutual
def cn(C:aN)(h:S ag):(Nat->Prop)->bp->E->Prop
 |P, .mk kind at_ name no ty n args,v=>∃b,v= .ptr b 0/\P b/\qC C h b/\aU C h (.ptr b 0)=some (.Z kind)/\aU C h (.ptr b 1)=some (.Z at_)/\aU C h (.ptr b 2)=some (.str name)/\aU C h (.ptr b 3)=some (.bool no)
   /\aU C h (.ptr b 4)=some (.bool ty.b)/\aU C h (.ptr b 5)=some (.bool ty.s)/\aU C h (.ptr b 6)=some (.Z ty.w)/\aU C h (.ptr b 7)=some (.int .u64 n)
   /\∃aO ce bk,aU C h (.ptr b 8)=some aO/\dV C h P ce aO 1 (bk.map λv=>[v])/\(bk≠[]->ce≠b/\(kind=24->DT C h ce bk.length))/\de C h (λe=>P e/\e≠b/\e≠ce) args bk
def de(C:aN)(h:S ag):(Nat->Prop)->List bp->List E->Prop
 |_,[],bk=>bk=[]
 |P,D::b8,bk=>∃v lI a7,bk=v::lI/\(∀e,a7 e->P e)/\cn C h a7 D v/\de C h (λe=>P e/\¬a7 e) b8 lI
end
mutual
def cn.ab{P:Nat->Prop}(u:∀e,P e->W C R e=W C h e):∀(D:bp) (v:E),cn C h P D v->cn C R P D v
 | .mk kind at_ name no ty n args,v,a=>by
   unfold cn at a ⊢
   obtain⟨b,H,bs,bi,M,al,aB,bw,b1,c6,el,gY,aO,ce,bk,iL,kP,mZ,oy⟩:=a
   have az:∀T,aU C R (.ptr b T)=aU C h (.ptr b T):=λT=>by rw[cw,cw,u b bs]
   exact⟨b,H,bs,bi.ab (u b bs),by rw[az];exact M,by rw[az];exact al,by rw[az];exact aB,by rw[az];exact bw,by rw[az];exact b1,by rw[az];exact c6,by rw[az];exact el,by rw[az];exact gY,aO,ce,bk,by rw[az];exact iL,kP.ab u,(λbD=>⟨(mZ bD).1,λaH=>((mZ bD).2 aH).ab (u ce (kP.aj (by simpa using bD)))⟩),de.ab (λe z=>u e z.1) args bk oy⟩
def de.ab{P:Nat->Prop}(u:∀e,P e->W C R e=W C h e):∀(b8:List bp) (bk:List E),de C h P b8 bk->de C R P b8 bk
 |[],bk,a=>by unfold de at a ⊢;exact a
 |D::b8,bk,a=>by
  unfold de at a ⊢
  obtain⟨v,lI,a7,H,bM,M,al⟩:=a
  exact⟨v,lI,a7,H,bM,cn.ab (λe z=>u e (bM e z)) D v M,de.ab (λe z=>u e z.1) b8 lI al⟩
end
mutual
def cn.lift{P a7:Nat->Prop}(u:∀e,P e->a7 e):∀(D:bp) (v:E),cn C h P D v->cn C h a7 D v
 | .mk kind at_ name no ty n args,v,a=>by
   unfold cn at a ⊢
   obtain⟨b,H,bs,bi,M,al,aB,bw,b1,c6,el,gY,aO,ce,bk,iL,kP,mZ,oy⟩:=a
   exact⟨b,H,u b bs,bi,M,al,aB,bw,b1,c6,el,gY,aO,ce,bk,iL,kP.lift u,mZ,de.lift (λe z=>⟨u e z.1,z.2⟩) args bk oy⟩
def de.lift{P a7:Nat->Prop}(u:∀e,P e->a7 e):∀(b8:List bp) (bk:List E),de C h P b8 bk->de C h a7 b8 bk
 |[],bk,a=>by unfold de at a ⊢;exact a
 |D::b8,bk,a=>by
  unfold de at a ⊢
  obtain⟨v,lI,dG,H,bM,M,al⟩:=a
  exact⟨v,lI,dG,H,λe z=>u e (bM e z),M,de.lift (λe z=>⟨u e z.1,z.2⟩) b8 lI al⟩
end
def de.nil{P:Nat->Prop}:de C h P [] []:=by unfold de;rfl
def hv(kind at_:Int)(name:aR)(no:Bool)(ty:d3)(n:Int)(aO:E):List E:=[.Z kind, .Z at_, .str name, .bool no, .bool ty.b, .bool ty.s, .Z ty.w, .int .u64 n,aO]
def Wp:8<9:=by decide
def cn.of{P:Nat->Prop}{b ce:Nat}{kind at_ n:Int}{name:aR}{no:Bool}{ty:d3}{aO:E}{m:Nat}{st:oo}{args:List bp}{bk:List E}(aj:W C h b=some (.cells (S.ofList (hv kind at_ name no ty n aO) 0 .nil) m st))(bs:P b)
 (aC:dV C h P ce aO 1 (bk.map λv=>[v]))(mZ:bk≠[]->ce≠b)(aE:de C h (λe=>P e/\e≠b/\e≠ce) args bk)(bi:st= .own:=by rfl)(bn:8<m:=by exact Wp)(bb:kind=24->bk≠[]->DT C h ce bk.length:=by exact λa=>absurd a Zd):cn C h P (.mk kind at_ name no ty n args) (.ptr b 0):=by
 unfold cn
 refine⟨b,rfl,bs,⟨_,_,bi▸aj,bn⟩, ?_, ?_, ?_, ?_, ?_, ?_, ?_, ?_,aO,ce,bk, ?_,aC,(λbD=>⟨mZ bD,λaH=>bb aH bD⟩),aE⟩<;>(rw[bG aj,m5];rfl)
def dV.nil(P:Nat->Prop)(bd:Nat):dV C h P 0 .aY bd []:=⟨λD=>absurd rfl D,Zs,Zs,rfl,λi aG=>by simp at aG,λi r V v aG=>by simp at aG⟩
def cn.leaf{P:Nat->Prop}{b:Nat}{kind at_ n:Int}{name:aR}{no:Bool}{ty:d3}{m:Nat}{st:oo}(aj:W C h b=some (.cells (S.ofList (hv kind at_ name no ty n .aY) 0 .nil) m st))(bs:P b)(bi:st= .own:=by rfl)(bn:8<m:=by exact Wp):cn C h P (.mk kind at_ name no ty n []) (.ptr b 0):=
 cn.of (bk:=[]) aj bs (dV.nil P 1) (λa=>absurd rfl a) de.nil bi bn (λ_ a=>absurd rfl a)
def Th:∀bk:List E,(bk.map λv=>[v]).flatten=bk:=by
 intro bk
 induction bk with
 |nil=>rfl
 |cons F k ah=>simp[ah]
def cn.lit{P:Nat->Prop}{b ce u cap:Nat}{kind at_ n:Int}{name:aR}{no:Bool}{ty:d3}{m:Nat}{st iH:oo}{args:List bp}{bk:List E}(aj:W C h b=some (.cells (S.ofList (hv kind at_ name no ty n (.slice ce 0 u cap)) 0 .nil) m st))(bs:P b)
 (H0:W C h ce=some (.cells (S.ofList bk 0 .nil) u iH))(Cr:P ce)(aH:bk.length=u)(hD:u<=1000)(mZ:ce≠b)(aE:de C h (λe=>P e/\e≠b/\e≠ce) args bk)(bi:st= .own:=by rfl)(bn:8<m:=by exact Wp)(awg:iH= .own:=by rfl)(g0:C.a8<=ce:=by(omega)):cn C h P (.mk kind at_ name no ty n args) (.ptr b 0):=
 cn.of aj bs (Ji (be:=bk.map λv=>[v]) (by rw[Th,Z4];exact H0) (by simpa using aH) Zs Zo Cr) (λ_=>mZ) aE bi bn (λ_ _=>⟨g0,_,_,awg▸H0,Zo⟩)
def de.one{P a7:Nat->Prop}{D:bp}{v:E}(a:cn C h a7 D v)(bM:∀e,a7 e->P e):de C h P [D] [v]:=by
 unfold de;exact⟨v,[],a7,rfl,bM,a,de.nil⟩
def de.two{P a7 dG:Nat->Prop}{D f:bp}{v w:E}(a:cn C h a7 D v)(u:cn C h dG f w)(bM:∀e,a7 e->P e)(Y:∀e,dG e->P e/\¬a7 e):de C h P [D,f] [v,w]:=by
 unfold de;exact⟨v,[w],a7,rfl,bM,a,de.one u Y⟩
def de.snoc{a7:Nat->Prop}{D:bp}{v:E}(u:cn C h a7 D v):∀{b8:List bp}{bk:List E}{pH P:Nat->Prop},de C h pH b8 bk->(∀e,pH e->P e)->(∀e,a7 e->P e/\¬pH e)->de C h P (b8++[D]) (bk++[v]):=by
 intro b8
 induction b8 with
 |nil=>intro bk pH P a H M;unfold de at a;subst a;exact de.one u (λe z=>(M e z).1)
 |cons F k ah=>
  intro bk pH P a H M
  unfold de at a
  obtain⟨w,lI,dG,rfl,bM,al,aB⟩:=a
  show de C h P (F::(k++[D])) (w::(lI++[v]))
  unfold de
  exact⟨w,lI++[v],dG,rfl,λe z=>H e (bM e z),al,ah aB (λe z=>⟨H e z.1,z.2⟩) (λe z=>⟨⟨(M e z).1,λd9=>(M e z).2 (bM e d9)⟩,λp7=>(M e z).2 p7.1⟩)⟩
def cn.ptr{P:Nat->Prop}:∀{D:bp}{v:E},cn C h P D v->∃b,v= .ptr b 0/\P b/\aU C h (.ptr b 0)=some (.Z D.kind)
 | .mk ..,_,a=>by
   unfold cn at a
   obtain⟨b,H,bs,_,M,_⟩:=a
   exact⟨b,H,bs,M⟩
def cn.open{P:Nat->Prop}:∀{D:bp}{v:E},cn C h P D v->∃b aO ce bk,v= .ptr b 0/\P b/\aU C h (.ptr b 0)=some (.Z D.kind)/\aU C h (.ptr b 1)=some (.Z D.at_)/\aU C h (.ptr b 2)=some (.str D.name)/\aU C h (.ptr b 3)=some (.bool D.no)
 /\aU C h (.ptr b 4)=some (.bool D.ty.b)/\aU C h (.ptr b 5)=some (.bool D.ty.s)/\aU C h (.ptr b 6)=some (.Z D.ty.w)/\aU C h (.ptr b 7)=some (.int .u64 D.n)
 /\aU C h (.ptr b 8)=some aO/\dV C h P ce aO 1 (bk.map λv=>[v])/\de C h P D.args bk
 | .mk ..,_,a=>by
   unfold cn at a
   obtain⟨b,H,bs,bi,M,al,aB,bw,b1,c6,el,gY,aO,ce,bk,iL,kP,mZ,oy⟩:=a
   exact⟨b,aO,ce,bk,H,bs,M,al,aB,bw,b1,c6,el,gY,iL,kP,de.lift (λe z=>z.1) _ _ oy⟩
def de.len:∀{b8:List bp}{bk:List E}{P:Nat->Prop},de C h P b8 bk->bk.length=b8.length:=by
 intro b8
 induction b8 with
 |nil=>intro bk P a;unfold de at a;subst a;rfl
 |cons F k ah=>
  intro bk P a
  unfold de at a
  obtain⟨w,lI,a7,rfl,bM,H,M⟩:=a
  simp[ah M]
def de.get:∀{b8:List bp}{bk:List E}{P:Nat->Prop},de C h P b8 bk->∀(i:Nat) D,b8[i]? =some D->∃v,bk[i]? =some v/\cn C h P D v:=by
 intro b8
 induction b8 with
 |nil=>intro bk P a i D bA;simp at bA
 |cons F k ah=>
  intro bk P a i D bA
  unfold de at a
  obtain⟨w,lI,a7,rfl,bM,H,M⟩:=a
  cases i with
  |zero=>simp at bA;subst bA;exact⟨w,rfl,cn.lift bM _ _ H⟩
  |succ i=>
   obtain⟨v,al,aB⟩:=ah M i D (by simpa using bA)
   exact⟨v,by simpa using al,cn.lift (λe z=>z.1) _ _ aB⟩
def dV.one{P:Nat->Prop}{b:Nat}{aO:E}{bk:List E}(a:dV C h P b aO 1 (bk.map λv=>[v])){i:Nat}{v:E}(aG:bk[i]? =some v):gd 1 aO (.Z (i:Int))=some (.ptr b i)/\aU C h (.ptr b i)=some v/\P b:=by
 have k9:=(Zb.1 aG).1
 have H:=a.fx i (by simpa using k9)
 have M:=a.cell i [v] 0 v (by rw[Zy,aG];rfl) rfl
 rw[Z4]at H
 rw[Z4,ZX]at M
 exact⟨H,M,a.aj (λD=>by simp at D;subst D;simp at aG)⟩
def apz{bd u:Nat}{x:E}{m:List E}(af:lZ C h bd x=some (u,m))(aH:0<u)(aj:u<=1048576):
 j1 C h j bd .aY x=some (.fH (.fl j 0 u bd) (bm C h j (some (.cells (S.ofList m 0 .nil) m.length (.grow [])))) (j+1)):=by
 simp only[j1,af]
 rw[ia,Zg Zo]
 simp[yZ,uY,j3 aj,n5]
def apx{bd u b n:Nat}{x:E}{m:List E}{c:S E}{eS:List Nat}(cx:0<bd)(af:lZ C h bd x=some (u,m))(aH:0<u)(aj:n+u<=1048576)(atP:iF m=true)
 (aF:C.a8<=b)(bi:W C h b=some (.cells c (n*bd) (.grow eS))):
 j1 C h j bd (.fl b 0 n bd) x=some (.fH (.fl j 0 (n+u) bd) (bm C (bm C h b (some (.cells c (n*bd) .kJ))) j (some (.cells (d7 c (n*bd) m) (n*bd+m.length) (.grow (b::eS))))) (j+1)):=by
 simp only[j1,af]
 rw[ia,Zg Zo]
 have c3:¬(0+(n+u)*bd<=n*bd):=by
  have:0<u*bd:=Nat.mul_pos aH cx
  rw[Z8];omega
 have Ug:Nat.ble (0+(n+u)*bd) (n*bd)=false:=by
  cases bM:Nat.ble (0+(n+u)*bd) (n*bd)with
  |false=>rfl
  |true=>exact absurd (j2 bM) c3
 simp only[yZ,J6,bi,jv,j3 aF,j3 aj,atP,Ug]
 simp[fw,n5]
def apy{bd u b n:Nat}{x:E}{m k:List E}{c:S E}{st:oo}{ak:Nat}(cx:0<bd)(af:lZ C h bd x=some (u,m))(aH:0<u)(aj:n+u<=1048576)
 (bi:W C h b=some (.cells c ak st))(aA:yP c k)(az:k.length=n*bd):
 j1 C h j bd (.slice b 0 n n) x=some (.fH (.fl j 0 (n+u) bd) (bm C h j (some (.cells (S.ofList (k++m) 0 .nil) (k++m).length (.grow [])))) (j+1)):=by
 simp only[j1,af]
 rw[ia,Zg Zo]
 have Ug:Nat.ble (n+u) n=false:=by
  cases bM:Nat.ble (n+u) n with
  |false=>rfl
  |true=>exact absurd (j2 bM) Zo
 have Ld:nT C h b 0 (n*bd)=some k:=by
  simp only[nT,cellsOf,bi]
  rw[aef aA _ _ Zo]
  simp[<-az]
 simp only[yZ,Ug,lo,Ld,uY,j3 aj,fo,n5,mW,hf]
def ga(C:aN)(h:S ag)(s:E)(bd:Nat)(k:List E)(cv:List Nat):Prop:=
 lm C h s bd k cv\/∃b n c st,s= .slice b 0 n n/\k.length=n*bd/\cv=[b]/\W C h b=some (.cells c (n*bd) st)/\yP c k/\st= .own/\C.a8<=b
def ga.ab{s:E}{bd:Nat}{k:List E}{cv:List Nat}(a:ga C h s bd k cv)(aH:∀e∈cv,W C R e=W C h e):ga C R s bd k cv:=by
 rcases a with a|⟨b,n,c,st,H,M,al,aB,bw⟩
 ·exact .inl (a.ab aH)
 ·exact .inr ⟨b,n,c,st,H,M,al,by rw[aH b (by rw[al];exact Zv ..)];exact aB,bw⟩
def ga.append{bd u:Nat}{s x:E}{k m:List E}{cv:List Nat}(a:ga C h s bd k cv)(cx:0<bd)(af:lZ C h bd x=some (u,m))(bn:m.length=u*bd)(aH:0<u)(H:iF m=true)
 (aj:k.length+m.length<=1048576)(aF:C.a8<=j)(c3:∀e∈cv,e<j):
 ∃e1 R gK,j1 C h j bd s x=some (.fH e1 R (j+1))/\lm C R e1 bd (k++m) gK/\(∀e∈gK,e=j\/e∈cv)/\∀e,e≠j->e∉cv->W C R e=W C h e:=by
 have afK:u<=u*bd:=Y0 u cx
 rcases a with (⟨rfl,rfl,rfl⟩|⟨b,eS,n,c,rfl,M,rfl,aB,bw,b1,c6⟩)|⟨b,n,c,st,rfl,M,rfl,aB,bw,_⟩
 ·refine⟨_,_,[j],apz af aH (by simp at aj;omega), .inr ⟨j,[],u,_,rfl,by simpa using bn,rfl,by simpa using aF,Zs,by rw[bh aF,bn], ?_⟩,Zs,λe z _=>aI aF z⟩
  simpa using nu m
 ·have kU:n<=n*bd:=Y0 n cx
  have f5:b<j:=c3 b (Zv ..)
  refine⟨_,_,j::b::eS,apx cx af aH Zo H (aB b (Zv ..)) b1, .inr ⟨j,b::eS,n+u,d7 c (n*bd) m,rfl,by rw[ZL,M,bn,Z8],rfl, ?_, ?_, ?_, ?_⟩, ?_,λe z LX=> ?_⟩
  ·intro e z
   rcases Zu.1 z with rfl|z
   ·exact aF
   ·exact aB e z
  ·intro aA
   have:=c3 j aA
   omega
  ·rw[bh aF,bn,Z8]
  ·rw[<-M];exact c6.app m
  ·intro e z
   rcases Zu.1 z with rfl|z
   ·exact .inl rfl
   ·exact .inr z
  ·simp only[Zu,YX]at LX
   rw[aI aF z,aI (aB b (Zv ..)) LX.1]
 ·have kU:n<=n*bd:=Y0 n cx
  refine⟨_,_,[j],apy cx af aH Zo aB bw M, .inr ⟨j,[],n+u,_,rfl,by rw[ZL,M,bn,Z8],rfl,by simpa using aF,Zs,by rw[bh aF,ZL,M,bn,Z8],nu _⟩,Zs,λe z _=>aI aF z⟩
def ga.uq{bd:Nat}{s:E}{be:List (List E)}{cv:List Nat}(a:ga C h s bd be.flatten cv)(eA:0<bd)(Y:∀r∈be,r.length=bd)(bn:be.length<=300000){P:Nat->Prop}(az:∀e∈cv,P e):∃b,dV C h P b s bd be:=by
 rcases a with a|⟨b,n,c,st,rfl,M,rfl,aB,bw,_⟩
 ·exact a.uq eA Y bn az
 ·have gp:=tE Y
  have aF:n=be.length:=YP eA (by rw[<-M,gp])
  subst aF
  refine⟨b,λ_=>az b (Zv ..),bn,Y,ug ..,λi aG=>by rw[Fo _ aG,ZT],λi r V v aG bF=> ?_⟩
  rw[cw,aB]
  exact(bw _).trans (Ti be Y i r V v aG bF)
def ga.QI{s:E}{bk:List E}{cv:List Nat}(a:ga C h s 1 bk cv){P:Nat->Prop}(bn:bk.length<=300000)(az:∀e∈cv,P e):∃b,dV C h P b s 1 (bk.map λv=>[v]):=by
 have cF:ga C h s 1 (bk.map λv=>[v]).flatten cv:=by rw[Th];exact a
 exact cF.uq Zd Zs (by simpa using bn) az
structure iI(C:aN)(h:S ag)(fm:Nat->Prop)(b:Nat)(aO:E)(bd:Nat)(be:List (List E)):Prop where
 rd:dV C h fm b aO bd be
 wr:be≠[]->C.a8<=b/\∃c n st,W C h b=some (.cells c n st)/\be.length*bd<=n/\(st= .own\/∃eS,st= .grow eS/\b∉eS/\∀e∈eS,fm e/\C.a8<=e)
def iI.ab{fm:Nat->Prop}{b bd:Nat}{aO:E}{be:List (List E)}(a:iI C h fm b aO bd be)(u:∀e,fm e->W C R e=W C h e):iI C R fm b aO bd be:=
 ⟨a.rd.ab u,λY=>by rw[u b (a.rd.aj Y)];exact a.wr Y⟩
def iI.lift{fm a7:Nat->Prop}{b bd:Nat}{aO:E}{be:List (List E)}(a:iI C h fm b aO bd be)(u:∀e,fm e->a7 e):iI C h a7 b aO bd be:=
 ⟨a.rd.lift u,λY=>by
  obtain⟨aK,c,n,st,H,M,al⟩:=a.wr Y
  exact⟨aK,c,n,st,H,M,al.imp id λ⟨eS,D,aj,z⟩=>⟨eS,D,aj,λe bn=>⟨u e (z e bn).1,(z e bn).2⟩⟩⟩⟩
def iI.nil(fm:Nat->Prop)(bd:Nat):iI C h fm 0 .aY bd []:=⟨dV.nil fm bd,λa=>absurd rfl a⟩
def ga.QK{bd:Nat}{s:E}{be:List (List E)}{cv:List Nat}(a:ga C h s bd be.flatten cv)(eA:0<bd)(Y:∀r∈be,r.length=bd)(bn:be.length<=300000){fm:Nat->Prop}(az:∀e∈cv,fm e):∃b,iI C h fm b s bd be:=by
 have gp:=tE Y
 obtain⟨b,cG⟩:=a.uq eA Y bn az
 rcases a with (⟨rfl,M,rfl⟩|⟨dD,eS,n,c,rfl,M,rfl,aB,bw,b1,c6⟩)|⟨dD,n,c,st,rfl,M,rfl,aB,bw,rfl,aK⟩
 ·rw[M,Z0]at gp
  have:be=[]:=YZ.1 (by rcases Nat.mul_eq_zero.1 gp.symm with a|a<;>omega)
  subst this
  exact⟨0,iI.nil fm bd⟩
 ·refine⟨b,cG,λdn=> ?_⟩
  have dA:=cG.fx 0 (ZU.2 dn)
  have aF:n=be.length:=YP eA (by rw[<-M,gp])
  have ay:=ZU.2 dn
  rw[Fp _ Zo]at dA
  simp only[Zf,E.ptr.injEq]at dA
  obtain⟨rfl,_⟩:=dA
  exact⟨aB _ (Zv ..),c,_,_,b1,by rw[aF];omega, .inr ⟨eS,rfl,bw,λe z=>⟨az e (Zt _ z),aB e (Zt _ z)⟩⟩⟩
 ·refine⟨b,cG,λdn=> ?_⟩
  have dA:=cG.fx 0 (ZU.2 dn)
  have aF:n=be.length:=YP eA (by rw[<-M,gp])
  have ay:=ZU.2 dn
  rw[Fo _ Zo]at dA
  simp only[Zf,E.ptr.injEq]at dA
  obtain⟨rfl,_⟩:=dA
  exact⟨aK,c,_,_,aB,by rw[aF];omega, .inl rfl⟩
def ga.aBZ{s:E}{bk:List E}{cv:List Nat}(a:ga C h s 1 bk cv){fm:Nat->Prop}(bn:bk.length<=300000)(az:∀e∈cv,fm e):∃b,iI C h fm b s 1 (bk.map λv=>[v]):=by
 have cF:ga C h s 1 (bk.map λv=>[v]).flatten cv:=by rw[Th];exact a
 exact cF.QK Zd Zs (by simpa using bn) az
def iI.store{fm:Nat->Prop}{b bd:Nat}{aO:E}{be:List (List E)}(a:iI C h fm b aO bd be){i V:Nat}{r:List E}(aG:be[i]? =some r)(bF:V<bd){v:E}(bD:v.cells=[v])(H:po v=true):
 ∃R,fT C h 1 (.ptr b (i*bd+V)) v=some R/\iI C R fm b aO bd (be.set i (r.set V v))/\∀e,¬fm e->W C R e=W C h e:=by
 have dn:be≠[]:=λD=>by rw[D]at aG;simp at aG
 obtain⟨k9,aF4⟩:=Zb.1 aG
 obtain⟨aK,c,n,st,aj,aF,c8⟩:=a.wr dn
 have E2:=a.rd.wide r (Zl aG)
 have EO:i*bd+V+1<=n:=by
  have:(i+1)*bd<=be.length*bd:=Nat.mul_le_mul_right bd k9
  rw[Z8]at this;omega
 have Ue:=a.rd.aj dn
 have eM:(be.set i (r.set V v)).length=be.length:=List.length_set
 have Po:be.set i (r.set V v)≠[]:=λD=>by rw[D]at eM;exact dn (ZN eM.symm)
 have qO:∀(R:S ag) (aS:Nat) (iH:oo),W C R b=some (.cells (c.set (i*bd+V) (some v)) aS iH)->dV C R fm b aO bd (be.set i (r.set V v)):=λR aS iH bV=>by
  refine⟨λ_=>Ue,by rw[eM];exact a.rd.many,λak bM=> ?_,by rw[eM];exact a.rd.len,λu aH=>a.rd.fx u (by rw[eM]at aH;exact aH),λu ak m w aH bn=> ?_⟩
  ·rcases YQ bM with bM|rfl
   ·exact a.rd.wide ak bM
   ·rw[List.length_set];exact E2
  ·rw[bG bV,S.jP]
   rw[zp]at aH
   by_cases UJ:i=u
   ·subst UJ
    simp only[ZG,k9]at aH
    cases aH
    rw[zp]at bn
    by_cases UN:V=m
    ·subst UN
     simp only[ZG,E2,bF]at bn
     rw[Zp rfl];exact bn
    ·rw[Zg UN]at bn
     rw[Zg Zo]
     have:=a.rd.cell i r m w aG bn
     rw[bG aj]at this;exact this
   ·rw[Zg UJ]at aH
    have AQ:=a.rd.wide ak (Zl aH)
    have avY:=(Zb.1 bn).1
    have AJ:=(Zb.1 aH).1
    rw[Zg (λD=>UJ ?_)]
    ·have:=a.rd.cell u ak m w aH bn
     rw[bG aj]at this;exact this
    ·have tW:m<bd:=Zo
     have bC:(u*bd+m)/bd=u:=by rw[zw,Nat.add_mul_div_right _ _ Zo,Nat.div_eq_of_lt tW,ZT]
     have cu:(i*bd+V)/bd=i:=by rw[zw,Nat.add_mul_div_right _ _ Zo,Nat.div_eq_of_lt bF,ZT]
     rw[<-bC, <-cu,D]
 have Iy:∀R,sm C h b (i*bd+V) [v]=some R->fT C h 1 (.ptr b (i*bd+V)) v=some R:=λR a=>by
  simp only[fT,bD];exact a
 have p2:iF [v]=true:=by simp[iF,H]
 rcases c8 with rfl|⟨eS,rfl,aFR,p1⟩
 ·refine⟨bm C h b (some (.cells (c.set (i*bd+V) (some v)) n .own)),Iy _ ?_,⟨qO _ _ _ (bh aK),λ_=>⟨aK,_,_,_,bh aK,by rw[eM];exact aF, .inl rfl⟩⟩,λe z=>aI aK (λD=>z (D▸Ue))⟩
  have bC:Nat.ble (i*bd+V+1) n=true:=j3 EO
  have cu:jv C b=true:=by simp[jv,j3 aK]
  simp[sm,aj,bC,cu,p2,fw,pz,hf]
 ·have rH:∀e,W C (bm C (nw C eS h) b (some (.cells (c.set (i*bd+V) (some v)) n (.grow [])))) e=if e=b then some (.cells (c.set (i*bd+V) (some v)) n (.grow []))else W C (nw C eS h) e:=λe=>gc _ aK e
  refine⟨bm C (nw C eS h) b (some (.cells (c.set (i*bd+V) (some v)) n (.grow []))),Iy _ ?_,⟨qO _ _ _ (by rw[rH,Zp rfl]),λ_=>⟨aK,_,_,_,by rw[rH,Zp rfl],by rw[eM];exact aF, .inr ⟨[],rfl,Zs,Zs⟩⟩⟩,λe z=> ?_⟩
  ·have bC:Nat.ble (i*bd+V+1) n=true:=j3 EO
   have cu:jv C b=true:=by simp[jv,j3 aK]
   simp[sm,aj,bC,cu,p2,fw,pz,hf]
  ·rw[rH,Zg (show ¬e=b from λD=>z (D▸Ue)),ayw _ _ _ (λx af=>(p1 x af).2) (λaf=>z (p1 e af).1)]
end
end
noncomputable section
structure jI(G:Prop):Prop where
 T:G
def Ts{cd A:Prop}(f:cd)(a:cd->A:=by intro f;(simp(disch:=omega) only[Bo,yt,F8,D2,BU,D3,FY,FX,FC,A6,vW,CY,Fv,jp,wJ,C0,Fy,Fz,C1,Fx,Gr,Gt,Gu,Gv,Gw,Gx,Gy,Gs,yG,Gp,m5,E.cells,GC,GB,GA,FN,Fj,Fh,Fi,Fg,Ff,Fk,Gc,Gd,Ep,Eo,y2,Ea,Eb,ug,wK,yf,A5,fv,tC,tB,nE,zu,Yb,zy,Yk,Yr,zj,Z5,ZV,ZF,Z0,Yu,Yg,Yo,Yc,ZZ,ZT,ZX,ZG,ZB,reduceIte,Nat.reduceEqDiff,Nat.reduceAdd,Nat.reduceMul,Nat.reduceLT,Nat.reduceBEq,YG,Yl,Yw,Yx,fo,lo,YY,Ys,YI,Nat.reduceLeDiff,Nat.reduceSub,hI,f])):A:=a f
def as5{cd A:Prop}(f:cd)(a:cd->A:=by intro f;(simp(disch:=omega) only[Bo,yt,F8,D2,BU,D3,FY,FX,FC,A6,vW,CY,Fv,jp,wJ,C0,Fy,Fz,C1,Fx,Gr,Gt,Gu,Gv,Gw,Gx,Gy,Gs,yG,Gp,m5,E.cells,GC,GB,GA,FN,Fj,Fh,Fi,Fg,Ff,Fk,Gc,Gd,Ep,Eo,y2,Ea,Eb,ug,wK,yf,A5,fv,tC,tB,nE,zu,Yb,zy,Yk,Yr,zj,Z5,ZV,ZF,Z0,Yu,Yg,Yo,Yc,ZZ,ZT,ZX,ZG,ZB,reduceIte,Nat.reduceEqDiff,Nat.reduceAdd,Nat.reduceMul,Nat.reduceLT,Nat.reduceBEq,YG,Yl,Yw,Yx,fo,lo,YY,Ys,YI,Nat.reduceLeDiff,Nat.reduceSub,hI,f]);rfl):A:=a f
def as6{cd A bx:Prop}(f:cd)(t:bx)(a:cd->bx->A:=by intro f t;(simp(disch:=omega) only[Bo,yt,F8,D2,BU,D3,FY,FX,FC,A6,vW,CY,Fv,jp,wJ,C0,Fy,Fz,C1,Fx,Gr,Gt,Gu,Gv,Gw,Gx,Gy,Gs,yG,Gp,m5,E.cells,GC,GB,GA,FN,Fj,Fh,Fi,Fg,Ff,Fk,Gc,Gd,Ep,Eo,y2,Ea,Eb,ug,wK,yf,A5,fv,tC,tB,nE,zu,Yb,zy,Yk,Yr,zj,Z5,ZV,ZF,Z0,Yu,Yg,Yo,Yc,ZZ,ZT,ZX,ZG,ZB,reduceIte,Nat.reduceEqDiff,Nat.reduceAdd,Nat.reduceMul,Nat.reduceLT,Nat.reduceBEq,YG,Yl,Yw,Yx,fo,lo,YY,Ys,YI,Nat.reduceLeDiff,Nat.reduceSub,hI,f]);exact t):A:=a f t
def asY{cd A bx:Prop}(f:cd)(u:jI bx)(a:cd->jI bx->A:=by intro f u;(simp(disch:=omega) only[Bo,yt,F8,D2,BU,D3,FY,FX,FC,A6,vW,CY,Fv,jp,wJ,C0,Fy,Fz,C1,Fx,Gr,Gt,Gu,Gv,Gw,Gx,Gy,Gs,yG,Gp,m5,E.cells,GC,GB,GA,FN,Fj,Fh,Fi,Fg,Ff,Fk,Gc,Gd,Ep,Eo,y2,Ea,Eb,ug,wK,yf,A5,fv,tC,tB,nE,zu,Yb,zy,Yk,Yr,zj,Z5,ZV,ZF,Z0,Yu,Yg,Yo,Yc,ZZ,ZT,ZX,ZG,ZB,reduceIte,Nat.reduceEqDiff,Nat.reduceAdd,Nat.reduceMul,Nat.reduceLT,Nat.reduceBEq,YG,Yl,Yw,Yx,fo,lo,YY,Ys,YI,Nat.reduceLeDiff,Nat.reduceSub,hI,f]);exact u.T):A:=a f u
def cj{cd A bx:Prop}(f:cd)(u:jI bx)(a:cd->jI bx->A:=by intro f u;(repeat(with_reducible first|refine g3 ?_ |refine oK ?_ |refine m6 ?_ |refine so ?_ |refine R8 ?_ |refine tr ?_ |refine Ww ?_ |refine Wv ?_ |refine VO ?_ |refine VR ?_ |refine VN ?_ |refine VQ ?_ |refine We ?_ |refine Sm ?_ |refine Wu ?_ |refine Wt ?_ |refine HL ?_ |refine HK ?_ |refine HJ ?_ |refine HI ?_ |refine TK ?_ |refine xp ?_ |refine vO ?_ |refine L2 ?_ |refine WZ ?_ |refine W0 ?_ |(refine gm (jG (by(first|assumption|(simp(disch:=omega) only[bh,aI,f]<;>rfl)|(simp(disch:=omega) only[bh,aI,f]))) Zo rfl Zd Zd rfl) ?_)|((conv=>whnf;arg 1;simp(disch:=omega) only[Bo,yt,F8,D2,BU,D3,FY,FX,FC,A6,vW,CY,Fv,jp,wJ,C0,Fy,Fz,C1,Fx,Gr,Gt,Gu,Gv,Gw,Gx,Gy,Gs,yG,Gp,m5,E.cells,GC,GB,GA,FN,Fj,Fh,Fi,Fg,Ff,Fk,Gc,Gd,Ep,Eo,y2,Ea,Eb,ug,wK,yf,A5,fv,tC,tB,nE,zu,Yb,zy,Yk,Yr,zj,Z5,ZV,ZF,Z0,Yu,Yg,Yo,Yc,ZZ,ZT,ZX,ZG,ZB,reduceIte,Nat.reduceEqDiff,Nat.reduceAdd,Nat.reduceMul,Nat.reduceLT,Nat.reduceBEq,YG,Yl,Yw,Yx,fo,lo,YY,Ys,YI,Nat.reduceLeDiff,Nat.reduceSub,hI,f]);(first|refine oK ?_ |refine m6 ?_ |refine xp ?_ |refine vO ?_ |refine HL ?_ |refine HK ?_ |refine HJ ?_ |refine HI ?_))|dsimp only));exact u.T):A:=a f u
def rt{cd A bx:Prop}(f:cd)(u:jI bx)(a:cd->jI bx->A:=by intro f u;(repeat(with_reducible first|refine oK ?_ |refine m6 ?_ |refine so ?_ |refine R8 ?_ |refine tr ?_ |refine Ww ?_ |refine Wv ?_ |refine VO ?_ |refine VR ?_ |refine VN ?_ |refine VQ ?_ |refine We ?_ |refine Sm ?_ |refine Wu ?_ |refine Wt ?_ |refine HL ?_ |refine HK ?_ |refine HJ ?_ |refine HI ?_ |refine TK ?_ |refine xp ?_ |refine vO ?_ |refine L2 ?_ |refine WZ ?_ |refine W0 ?_ |(refine gm (jG (by(first|assumption|(simp(disch:=omega) only[bh,aI,f]<;>rfl)|(simp(disch:=omega) only[bh,aI,f]))) Zo rfl Zd Zd rfl) ?_)|((conv=>whnf;arg 1;simp(disch:=omega) only[Bo,yt,F8,D2,BU,D3,FY,FX,FC,A6,vW,CY,Fv,jp,wJ,C0,Fy,Fz,C1,Fx,Gr,Gt,Gu,Gv,Gw,Gx,Gy,Gs,yG,Gp,m5,E.cells,GC,GB,GA,FN,Fj,Fh,Fi,Fg,Ff,Fk,Gc,Gd,Ep,Eo,y2,Ea,Eb,ug,wK,yf,A5,fv,tC,tB,nE,zu,Yb,zy,Yk,Yr,zj,Z5,ZV,ZF,Z0,Yu,Yg,Yo,Yc,ZZ,ZT,ZX,ZG,ZB,reduceIte,Nat.reduceEqDiff,Nat.reduceAdd,Nat.reduceMul,Nat.reduceLT,Nat.reduceBEq,YG,Yl,Yw,Yx,fo,lo,YY,Ys,YI,Nat.reduceLeDiff,Nat.reduceSub,hI,f]);(first|refine oK ?_ |refine m6 ?_ |refine xp ?_ |refine vO ?_ |refine HL ?_ |refine HK ?_ |refine HJ ?_ |refine HI ?_))|dsimp only));exact u.T):A:=a f u
def tG{cd A bx:Prop}(f:cd)(u:jI bx)(a:cd->jI bx->A:=by intro f u;(with_reducible first|refine g3 ?_ |refine oK ?_ |refine m6 ?_ |refine so ?_ |refine R8 ?_ |refine tr ?_ |refine Ww ?_ |refine Wv ?_ |refine VO ?_ |refine VR ?_ |refine VN ?_ |refine VQ ?_ |refine We ?_ |refine Sm ?_ |refine Wu ?_ |refine Wt ?_ |refine HL ?_ |refine HK ?_ |refine HJ ?_ |refine HI ?_ |refine TK ?_ |refine xp ?_ |refine vO ?_ |refine L2 ?_ |refine WZ ?_ |refine W0 ?_ |(refine gm (jG (by(first|assumption|(simp(disch:=omega) only[bh,aI,f]<;>rfl)|(simp(disch:=omega) only[bh,aI,f]))) Zo rfl Zd Zd rfl) ?_)|((conv=>whnf;arg 1;simp(disch:=omega) only[Bo,yt,F8,D2,BU,D3,FY,FX,FC,A6,vW,CY,Fv,jp,wJ,C0,Fy,Fz,C1,Fx,Gr,Gt,Gu,Gv,Gw,Gx,Gy,Gs,yG,Gp,m5,E.cells,GC,GB,GA,FN,Fj,Fh,Fi,Fg,Ff,Fk,Gc,Gd,Ep,Eo,y2,Ea,Eb,ug,wK,yf,A5,fv,tC,tB,nE,zu,Yb,zy,Yk,Yr,zj,Z5,ZV,ZF,Z0,Yu,Yg,Yo,Yc,ZZ,ZT,ZX,ZG,ZB,reduceIte,Nat.reduceEqDiff,Nat.reduceAdd,Nat.reduceMul,Nat.reduceLT,Nat.reduceBEq,YG,Yl,Yw,Yx,fo,lo,YY,Ys,YI,Nat.reduceLeDiff,Nat.reduceSub,hI,f]);(first|refine oK ?_ |refine m6 ?_ |refine xp ?_ |refine vO ?_ |refine HL ?_ |refine HK ?_ |refine HJ ?_ |refine HI ?_))|dsimp only);exact u.T):A:=a f u
def bo{A:Prop}(a:A:=by exact Ts trivial):A:=a
def fY{A:Prop}(a:A:=by exact as5 trivial):A:=a
def aW{A bx:Prop}(t:bx)(a:bx->A:=by intro t;exact as6 trivial t):A:=a t
def Cf{A bx:Prop}(u:jI bx)(a:jI bx->A:=by intro u;refine asY trivial ⟨?_⟩;exact u.T):A:=a u
def cL{A bx:Prop}(u:jI bx)(a:jI bx->A:=by intro u;refine cj trivial ⟨?_⟩;exact u.T):A:=a u
def uU{A bx:Prop}(u:jI bx)(a:jI bx->A:=by intro u;refine rt trivial ⟨?_⟩;exact u.T):A:=a u
def iq{A bx:Prop}(u:jI bx)(a:jI bx->A:=by intro u;refine tG trivial ⟨?_⟩;exact u.T):A:=a u
def dH{A:Prop}(a:A:=by exact⟨Zo,λb aj=>zF⟩):A:=a
def cS{A bx mh lM:Prop}(bJ:mh)(eO:lM)(u:jI bx)(a:mh->lM->jI bx->A:=by intro bJ eO u;refine cj (Za @bJ @eO) ⟨?_⟩;exact u.T):A:=a @bJ @eO u
def er{A bx mh lM pD:Prop}(bJ:mh)(eO:lM)(fp:pD)(u:jI bx)(a:mh->lM->pD->jI bx->A:=by intro bJ eO fp u;refine cj (Za @bJ (Za @eO @fp)) ⟨?_⟩;exact u.T):A:=a @bJ @eO @fp u
def gk{A bx mh lM pD vG:Prop}(bJ:mh)(eO:lM)(fp:pD)(kO:vG)(u:jI bx)(a:mh->lM->pD->vG->jI bx->A:=by intro bJ eO fp kO u;refine cj (Za @bJ (Za @eO (Za @fp @kO))) ⟨?_⟩;exact u.T):A:=a @bJ @eO @fp @kO u
def f3{A bx mh lM pD vG BH:Prop}(bJ:mh)(eO:lM)(fp:pD)(kO:vG)(f4:BH)(u:jI bx)(a:mh->lM->pD->vG->BH->jI bx->A:=by intro bJ eO fp kO f4 u;refine cj (Za @bJ (Za @eO (Za @fp (Za @kO @f4)))) ⟨?_⟩;exact u.T):A:=a @bJ @eO @fp @kO @f4 u
def ic{A bx mh lM pD vG BH JN:Prop}(bJ:mh)(eO:lM)(fp:pD)(kO:vG)(f4:BH)(Ag:JN)(u:jI bx)(a:mh->lM->pD->vG->BH->JN->jI bx->A:=by intro bJ eO fp kO f4 Ag u;refine cj (Za @bJ (Za @eO (Za @fp (Za @kO (Za @f4 @Ag))))) ⟨?_⟩;exact u.T):A:=a @bJ @eO @fp @kO @f4 @Ag u
def eh{A bx mh lM pD vG BH JN X1:Prop}(bJ:mh)(eO:lM)(fp:pD)(kO:vG)(f4:BH)(Ag:JN)(S9:X1)(u:jI bx)(a:mh->lM->pD->vG->BH->JN->X1->jI bx->A:=by intro bJ eO fp kO f4 Ag S9 u;refine cj (Za @bJ (Za @eO (Za @fp (Za @kO (Za @f4 (Za @Ag @S9)))))) ⟨?_⟩;exact u.T):A:=a @bJ @eO @fp @kO @f4 @Ag @S9 u
def KH{A bx mh lM:Prop}(bJ:mh)(eO:lM)(u:jI bx)(a:mh->lM->jI bx->A:=by intro bJ eO u;refine rt (Za @bJ @eO) ⟨?_⟩;exact u.T):A:=a @bJ @eO u
def hl{A bx mh lM pD:Prop}(bJ:mh)(eO:lM)(fp:pD)(u:jI bx)(a:mh->lM->pD->jI bx->A:=by intro bJ eO fp u;refine rt (Za @bJ (Za @eO @fp)) ⟨?_⟩;exact u.T):A:=a @bJ @eO @fp u
def a2.Zm{C:aN}{f:Nat}{y1:List E}{h:S ag}{j:Nat}{ai mQ ax:bK}(a:a2 C f y1 h j ai zL)(u:∀ac R aS,ai ac R aS->mQ ac R aS):a2 C f y1 h j mQ ax:=a.mono u (λ_ _ _ a=>a.elim)
end
noncomputable section
open Go.RowKit (Below)
def Qx(jN:List Nat)(T:Nat->List E->Option E)(k:List (Nat×List E×E))(f:Nat)(args:List E):Option E:=b0 (rS f jN) (rV T k f args) (T f args)
section
variable{P:Program}{w:World}
def Env.ayM{nm:List (String×Nat)}(g1:BK P nm){laid:List (String×DataW Unit)}{jN:List Nat}{T:Nat->List E->Option E}{k:List (Nat×List E×E)}(a:laidMet P laid w){dY:dd}{ea:Nat->Prop}
 (cP:Env ⟨P,ob (ho P nm laid P.globals.size).2 .nil,(ho P nm laid P.globals.size).1,T,P.globals.size⟩ w dY ea)(ba:MX k=true)
 (k7:∀x∈k,∃m,Bl ⟨P,ob (ho P nm laid P.globals.size).2 .nil,(ho P nm laid P.globals.size).1,T,P.globals.size⟩ m x.1 x.2.1=some x.2.2):
 ∃U ae,Env ⟨P,ob (ho P nm laid P.globals.size).2 .nil,(ho P nm laid P.globals.size).1,Qx jN T k,P.globals.size⟩ w U ae:=by
 obtain⟨U,ae,al,aB⟩:=V9 (hz:=Qx jN T k) g1 a
 have it:=aiv cP ba k7
 refine⟨U,ae,cP.k0,⟨λf args v bi=> ?_,λf args v bi U rb kC=> ?_⟩,al,aB⟩
 ·have bi:b0 (rS f jN) (rV T k f args) (T f args)=some v:=bi
  rw[fw]at bi
  split at bi
  ·exact it.val f args v bi
  ·exact cP.hz.val f args v bi
 ·have bi:b0 (rS f jN) (rV T k f args) (T f args)=some v:=bi
  rw[fw]at bi
  split at bi
  ·exact it.ok f args v bi U rb kC
  ·exact cP.hz.ok f args v bi U rb kC
end
end
end Go.bg

namespace Go.Proofs.YtpeabpmnlmaabaaGreatDoor
open Go.bg
noncomputable section
structure ca where
 G:S ag
 a8:Nat
 O:Nat->List E->Option E
noncomputable def o(a:ca):aN:=⟨Tryz.prog,a.G,a.a8,a.O,Tryz.prog.globals.size⟩
instance:Coe ca aN:=⟨o⟩
variable (X : ca) (h : S ag) (j : Nat) (ai ax : bK) (a0 bf cf a3 a4 a5 jK kx jf : E)
abbrev kn(v x:E)(h:S ag)(n:Nat)(u:bK):Prop:=qc u λV=>iW true v (V x h n) (V bg.undef h n)
abbrev hQ(v x:E)(h:S ag)(n:Nat)(u:bK):Prop:=qc u λV=>iW false v (V x h n) (V bg.undef h n)
abbrev eJ(v:E)(T:Option E)(h:S ag)(n:Nat)(u:bK):Prop:=qc u λV=>iW true v (ar T λx=>V x h n) (V bg.undef h n)
abbrev fc(v:E)(T:Option E)(h:S ag)(n:Nat)(u:bK):Prop:=qc u λV=>iW false v (ar T λx=>V x h n) (V bg.undef h n)
abbrev oG(v:E)(T:Option E)(h:S ag)(n:Nat)(u:bK):Prop:=qc u λV=>iW true v (cH T λx=>V x h n) (V bg.undef h n)
abbrev vg(v:E)(T:Option E)(h:S ag)(n:Nat)(u:bK):Prop:=qc u λV=>iW false v (cH T λx=>V x h n) (V bg.undef h n)
abbrev VM(v:E)(T:Option E)(ak:E->Option E)(h:S ag)(n:Nat)(u:bK):Prop:=qc u λV=>iW true v (cH T λt=>ar (ak t) λx=>V x h n) (V bg.undef h n)
abbrev aha(v:E)(T:Option E)(ak:E->Option E)(h:S ag)(n:Nat)(u:bK):Prop:=qc u λV=>iW false v (cH T λt=>ar (ak t) λx=>V x h n) (V bg.undef h n)
abbrev lx(v:E)(g:bK->Prop)(h:S ag)(n:Nat)(u:bK):Prop:=qc u λV=>iW true v (g V) (V bg.undef h n)
abbrev lU(v:E)(g:bK->Prop)(h:S ag)(n:Nat)(u:bK):Prop:=qc u λV=>iW false v (g V) (V bg.undef h n)
abbrev ax8(v x:E)(h:S ag)(u:E->S ag->Prop):Prop:=vh u λV=>iW true v (V x h) (V bg.undef h)
abbrev PY(v x:E)(h:S ag)(u:E->S ag->Prop):Prop:=vh u λV=>iW false v (V x h) (V bg.undef h)
abbrev kX(v:E)(T:Option E)(h:S ag)(u:E->S ag->Prop):Prop:=vh u λV=>iW true v (ar T λx=>V x h) (V bg.undef h)
abbrev yb(v:E)(T:Option E)(h:S ag)(u:E->S ag->Prop):Prop:=vh u λV=>iW false v (ar T λx=>V x h) (V bg.undef h)
abbrev IH(v:E)(T:Option E)(h:S ag)(u:E->S ag->Prop):Prop:=vh u λV=>iW true v (cH T λx=>V x h) (V bg.undef h)
abbrev VK(v:E)(T:Option E)(h:S ag)(u:E->S ag->Prop):Prop:=vh u λV=>iW false v (cH T λx=>V x h) (V bg.undef h)
abbrev VL(v:E)(T:Option E)(ak:E->Option E)(h:S ag)(u:E->S ag->Prop):Prop:=vh u λV=>iW true v (cH T λt=>ar (ak t) λx=>V x h) (V bg.undef h)
abbrev ag9(v:E)(T:Option E)(ak:E->Option E)(h:S ag)(u:E->S ag->Prop):Prop:=vh u λV=>iW false v (cH T λt=>ar (ak t) λx=>V x h) (V bg.undef h)
abbrev PX(v:E)(g:(E->S ag->Prop)->Prop)(h:S ag)(u:E->S ag->Prop):Prop:=vh u λV=>iW false v (g V) (V bg.undef h)
abbrev e4(aK)(H:E)(M:aN)(al:(S ag))(u:E->E->Prop):=ar (hW aK H) λcb=>ar (aU M al cb) λbQ=>u cb bQ
abbrev yK(aB:Nat)(bw:aN)(b1:(S ag))(u:E->(S ag)->Nat->Prop):=ar (iK [.Z 0, .str [], .Z 0, .int .u64 0, .zF, .zF, .Z 0] aB) λcb=>gT bw b1 aB cb.1 cb.2 u
abbrev fs(aK:c1)(H)(al)(u:E->E->Prop):=cH (aK H) λcb=>cH (aK al) λbQ=>u cb bQ
abbrev gR(aK:c1)(H)(u:E->Prop):=cH (aK H) λcb=>ar (bv .add cb (.Z 1)) u
abbrev gU(aK:E)(H)(M:aN)(al:(S ag))(u:E->E->Prop):=ar (rf aK) λcb=>e4 H cb M al u
abbrev Rp(H:E)(iL:Nat)(kP:aN)(oy:(S ag))(u:E->E->Nat->(S ag)->Prop):=ar (oh 0 H) λcb=>ar (oh 1 H) λbQ=>ar (iK [.Z 0, .str [], .Z 0, .zF, .zF, .Z 0, .str [], .Z 0, .zF, .Z 0, .Z 0] iL) λcl=>gT kP oy iL cl.1 cl.2 λcU fe l5=>ar (fT kP fe 11 cU cb) λpK=>u bQ cU l5 pK
abbrev ll(aK:c1)(H)(M:aN)(al:(S ag))(aB)(bw:E)(u:(S ag)->E->Prop):=cH (aK H) λcb=>ar (fT M al aB cb bw) λbQ=>cH (aK H) λcl=>ar (dE M bQ aB cl) λcU=>u bQ cU
abbrev hB(H:E)(u:E->E->Prop):=ar (oh 0 H) λcb=>ar (oh 1 H) λbQ=>u cb bQ
abbrev hK(aK:c1)(H)(M)(u:E->Prop):=fs aK H M λcb bQ=>ar (bv .lss cb bQ) u
abbrev GF(aK:c1)(H)(M)(aB:aN)(bw:(S ag))(iL:Nat)(u:E->Nat->(S ag)->Prop):=fs aK H M λcb bQ=>ar (gd 8 cb bQ) λcl=>ar (dE aB bw 8 cl) λcU=>ar (iK [.str [], .Z 0, .zF, .zF, .Z 0, .str [], .Z 0, .zF] iL) λfe=>gT aB bw iL fe.1 fe.2 λl5 pK vN=>ar (fT aB pK 8 l5 cU) λsr=>u l5 vN sr
abbrev lK(aK:E)(H)(u:E->Prop):=ar (rf aK) λcb=>ar (hW H cb) u
abbrev qw(aK:aN)(H:(S ag))(M:Nat)(al)(aB)(b1)(c6:E)(u:E->Nat->(S ag)->Prop):=gT aK H M al aB λcb bQ cl=>ar (fT aK bQ b1 cb c6) λcU=>u cb cl cU
abbrev oi(aK:E)(H)(M:fJ)(u:E->fJ->Prop):=ar (bv .eql aK (.Z H)) λcb=>bt M λbQ=>u cb bQ
abbrev ta(al)(aB:Nat)(bw:aN)(b1:(S ag))(iL:E)(kP:bK)(u:E->(S ag)->Nat->Prop):=ar (hI 1 [.str []] [(0,1, .str [al])] aB) λcb=>gT bw b1 aB cb.1 cb.2 λbQ cl cU=>a2 bw 69 [iL,bQ] cl cU u kP
abbrev tb(aK:E)(H)(M:E)(al:(S ag))(aB:Nat)(b1:aN)(u:E->(S ag)->Nat->Prop):=fc aK (hW H M) al aB λcb bQ cl=>fc aK (aU b1 bQ cb) bQ cl u
abbrev kt(aK:c1)(H)(M:aN)(al:(S ag))(u:E->Prop):=cH (aK H) λcb=>ar (aU M al cb) u
abbrev kc(aK:c1)(H)(M)(al:aN)(aB:(S ag))(u:E->E->E->Prop):=cH (aK H) λcb=>gU cb M al aB λbQ cl=>u cb bQ cl
abbrev vB(aK)(H:c1)(M)(al)(aB)(u:fJ->E->Prop):=bt aK λcb=>fs H M al λbQ cl=>ar (gd aB bQ cl) λcU=>u cb cU
abbrev vC(aK:E)(H)(M:E)(al:(S ag))(aB:Nat)(b1:aN)(u:E->(S ag)->Nat->Prop):=eJ aK (hW H M) al aB λcb bQ cl=>eJ aK (aU b1 bQ cb) bQ cl u
abbrev GG(aK:aN)(H:(S ag))(al:E)(bw:Nat)(u:E->Nat->(S ag)->Prop):=ar (dE aK H 6 al) λcb=>ar (iK [.str [], .Z 0, .aY, .aY, .aY, .aY] bw) λbQ=>qw aK H bw bQ.1 bQ.2 6 cb u
abbrev iT(aK:E)(H)(u:E->fJ->Prop):=ar (gr aK) λcb=>bt H λbQ=>u cb bQ
abbrev w7(aK:Nat)(H:aN)(M:(S ag))(bw:E)(u:E->Nat->(S ag)->Prop):=yK aK H M λcb bQ cl=>ar (fT H bQ 7 cb bw) λcU=>u cb cl cU
abbrev Rk(M:Nat)(u:(E×ag)->Prop):=ar (iK [.Z 0, .Z 0] M) u
abbrev iU(aK:c1)(H)(M)(al:aN)(aB:(S ag))(u:E->E->Prop):=cH (aK H) λcb=>e4 M cb al aB u
abbrev Rl(b1:Nat)(c6)(el:aN)(gY:(S ag))(u:E->(S ag)->Prop):=ar (iK [.Z 0, .str [], .Z 0, .zF, .zF, .Z 0, .str [], .Z 0, .zF, .Z 0, .Z 0] (b1+c6)) λcb=>mK el gY (b1+c6) cb.1 cb.2 u
abbrev GH(aK:aN)(H:(S ag))(al:E)(bw:Nat)(u:E->Nat->(S ag)->Prop):=ar (dE aK H 4 al) λcb=>ar (iK [.aY, .aY, .Z 0, .cN] bw) λbQ=>qw aK H bw bQ.1 bQ.2 4 cb u
abbrev DF(aK:E)(H:c1)(M)(al:(S ag))(b1)(el:aN)(u:E->(S ag)->Prop):=IH aK (H M) al λcb bQ=>kX aK (rf cb) bQ λcl cU=>kX aK (hW b1 cl) cU λfe l5=>kX aK (aU el l5 fe) l5 u
abbrev pA(H)(u:E->Prop):=ar (some (E.iface 178 (.Z H))) u
abbrev nL(aK:c1)(H)(M:aN)(al:(S ag))(aB)(u:E->Prop):=cH (aK H) λcb=>ar (dE M al aB cb) u
abbrev fa(aK:c1)(u:E->Prop):=cH (aK 0) u
abbrev JG(aB)(c6:E)(u:E->Prop):=ar (fv [.Z 0, .Z 0] [(0,1, .Z aB),(1,1,c6)]) u
abbrev tc(aK:c1)(H)(M)(u:E->Prop):=cH (aK H) λcb=>ar (bv .eql cb (.Z M)) u
abbrev oR(aK:aN)(H:(S ag))(al:E)(aB:E)(u:(S ag)->Prop):=ar (fT aK H 1 al aB) u
abbrev yL(H:E)(M:aN)(al:(S ag))(aB)(u:E->Prop):=e4 0 H M al λcb bQ=>ar (bv .neq bQ (.Z aB)) u
abbrev Nd(al:Nat)(aB:aN)(bw:(S ag))(c6:c1)(el)(u:E->Nat->(S ag)->Prop):=ar (iK [.str [], .Z 0, .zF, .zF, .Z 0, .str [], .Z 0, .zF] al) λcb=>gT aB bw al cb.1 cb.2 λbQ cl cU=>cH (c6 el) λfe=>ar (fT aB cl 8 bQ fe) λl5=>u bQ cU l5
abbrev yM(aK)(H:E)(u:E->Prop):=ar (gd aK H (.Z 0)) u
abbrev td(aK:aN)(H:(S ag))(M)(al:E)(bw)(c6:Nat)(el:bK)(u:E->(S ag)->Nat->Prop):=ar (dE aK H M al) λcb=>a2 aK bw [cb] H c6 u el
abbrev uD(aK:aN)(H:(S ag))(M)(al:E)(aB:E)(u:(S ag)->E->Prop):=ar (fT aK H M al aB) λcb=>ar (dE aK cb M al) λbQ=>u cb bQ
abbrev Bw(aK:E)(u:E->Prop):=ar (bv .sub aK (.Z 1)) u
abbrev akD(aK:E)(H:aN)(M:(S ag))(TL:Nat)(atO:bK)(u:E->E->E->Nat->(S ag)->Prop):=ar (gr aK) λcb=>ar (ts H M .min [3,3] [cb, .Z 5000]) λbQ=>ar (uv H M 1 aK none (some bQ) none) λcl=>a2 H 6 [cl] M TL (λcU fe l5=>hB cU λpK vN=>Rk l5 λsr=>qw H fe l5 sr.1 sr.2 2 vN λSe Sd apQ=>u cl pK Se Sd apQ) atO
abbrev Bx(aK:c1)(H)(u:E->Prop):=fa aK λcb=>ar (nF cb (some (.Z H)) none) u
abbrev sa(aK:aN)(H:(S ag))(al:E)(aB)(u:(S ag)->Prop):=ar (fT aK H 1 al (.Z aB)) u
abbrev k3(aK:aN)(H:(S ag))(al:E)(u:E->Prop):=ar (dE aK H 3 al) u
abbrev DG(aK:E)(u:E->Prop):=ar (bv .add aK (.Z 1)) u
abbrev w8(aK:E)(H:E)(M:(S ag))(al:Nat)(bw)(b1:aN)(u:E->(S ag)->Nat->Prop):=fc aK (rf H) M al λcb bQ cl=>tb aK bw cb bQ cl b1 u
abbrev DH(aK:aN)(H:(S ag))(M:Nat)(al)(aB)(b1)(c6:E)(u:E->(S ag)->Nat->Prop):=gT aK H M al aB λcb bQ cl=>h6 (j1 aK bQ cl b1 c6 cb) bQ cl u
abbrev nc(aK:aN)(H:(S ag))(al:E)(u:E->Prop):=ar (dE aK H 2 al) u
abbrev GI(aK:c1)(H)(M)(bw)(u:E->E->Prop):=fs aK H M λcb bQ=>cH (aK H) λcl=>ar (gd bw bQ cl) λcU=>u cb cU
abbrev Rm(aK:aN)(H:(S ag))(gY:E)(iL:E)(u:E->Prop):=ar (n3 aK H 9 (.agg [.Z 0, .str [], .Z 0, .zF, .zF, .Z 0, .str [], .Z 0, .zF, .Z 0, .Z 0]) gY iL true) u
abbrev yN(aK:Nat)(H)(M:c1)(al)(aB)(bw:aN)(b1:(S ag))(gY)(u:Nat->E->E->Prop):=e7 (aK+H) λcb=>kc M al aB bw b1 λbQ cl cU=>kc M al gY bw b1 λ_ _ pK=>u cb cU pK
abbrev kK(H:E)(M:aN)(al:(S ag))(u:E->Prop):=e4 0 H M al λ_ bQ=>u bQ
abbrev sb(aK)(H:E)(M:aN)(al:(S ag))(aB:E)(u:(S ag)->Prop):=ar (hW aK H) λcb=>oR M al cb aB u
abbrev DI(u:E->Prop):=ar (fv [.Z 0, .Z 0] []) u
abbrev Rn(aK:Nat)(M:E)(aB:aN)(bw:(S ag))(el:E)(iL:bK)(u:E->Nat->E->(S ag)->E->Prop):=e7 (aK+12) λcb=>gU M 8 aB bw λbQ cl=>a2 aB 95 [el] bw cb (λcU fe l5=>ar (hI 1 [.cN] [(0,1,cU)] (aK+7)) λpK=>mK aB fe (aK+7) pK.1 pK.2 λvN sr=>ar (aU aB sr bQ) λSe=>u cl l5 vN sr Se) iL
abbrev Ro(aK:c1)(aB:(S ag))(bw:Nat)(u:E->E->(S ag)->Nat->Prop):=fa aK λcb=>ar (nz cb) λbQ=>ar (bv .geq bQ (.Z 3)) λcl=>oG cl (aK 0) aB bw λcU fe l5=>eJ cl (oF cU (.Z 1)) fe l5 λpK vN sr=>u cl pK vN sr
abbrev Nf(aK:aN)(M:E)(al:E)(aB:(S ag))(bw:Nat)(b1:bK)(u:E->E->Nat->(S ag)->Prop):=a2 aK 12 [M,al] aB bw (λcb bQ cl=>Rp cb cl aK bQ u) b1
abbrev rg(aK:E)(H)(M:aN)(al:(S ag))(aB:E)(u:(S ag)->Prop):=lK aK H λcb=>oR M al cb aB u
abbrev DJ(aK:E)(H:aN)(M:(S ag))(al)(u:E->Prop):=kK aK H M λcb=>ar (bv .eql cb (.Z al)) u
abbrev Rq(b1)(c6)(gY:E)(u:E->Prop):=ar (fv [.Z 0, .str [], .Z 0, .int .u64 0, .zF, .zF, .Z 0] [(0,1, .Z b1),(c6,1,gY)]) u
abbrev w9(aK:c1)(H)(M:aN)(al)(aB:(S ag))(bw:Nat)(b1:bK)(u:E->(S ag)->Nat->Prop):=cH (aK H) λcb=>a2 M al [cb] aB bw u b1
abbrev Rr(c6:E)(el:Nat)(gY:aN)(iL:(S ag))(TL:E)(u:E->(S ag)->Nat->Prop):=ar (hI 1 [.Z 0, .str [], .Z 0, .int .u64 0, .zF, .zF, .Z 0] [(0,7,c6)] el) λcb=>DH gY iL el cb.1 cb.2 7 TL u
abbrev xa(aK)(H:c1)(M)(al)(bw:aN)(b1:(S ag))(u:fJ->E->Prop):=vB aK H M al 1 λcb bQ=>ar (aU bw b1 bQ) λcl=>u cb cl
abbrev Rs(u:E->Prop):=ar (fv [.Z 0, .str [], .Z 0, .int .u64 0, .zF, .zF, .Z 0] []) u
abbrev GJ(aK:c1)(H)(M)(u:E->Prop):=cH (aK H) λcb=>ar (bv .lss cb (.Z M)) u
abbrev vD(aK:c1)(M)(al:fJ)(u:E->fJ->Prop):=cH (aK 12) λcb=>oi cb M al u
abbrev GK(aK:c1)(aB)(u:E->E->E->Prop):=fs aK 8 1 λcb bQ=>fa aK λcl=>ar (gd aB cl cb) λcU=>u cb bQ cU
abbrev By(aK:E)(H:E)(M:(S ag))(al:Nat)(bw)(b1:aN)(u:E->(S ag)->Nat->Prop):=eJ aK (rf H) M al λcb bQ cl=>vC aK bw cb bQ cl b1 u
abbrev Rt(aK:E)(H:c1)(al:(S ag))(aB:Nat)(gY:aN)(u:E->(S ag)->Nat->Prop):=oG aK (H 0) al aB λcb bQ cl=>eJ aK (rf cb) bQ cl λcU fe l5=>eJ aK (hW 4 cU) fe l5 λpK vN sr=>eJ aK (dE gY vN 3 pK) vN sr u
abbrev Ng(aK:E)(M)(u:E->Prop):=ar (oF aK (.Z 0)) λcb=>ar (bv .eql cb (.int .u8 M)) u
abbrev DK(aK:E)(u:E->Prop):=ar (bv .geq aK (.Z 0)) u
abbrev uE(aK:E)(H:Nat)(M:aN)(al:(S ag))(u:E->E->Nat->(S ag)->Prop):=hB aK λcb bQ=>w7 H M al cb λcl cU fe=>u bQ cl cU fe
abbrev JH(H:Nat)(u:(E×ag)->Prop):=ar (iK [.zF, .zF, .Z 0] H) u
abbrev Ru(aK:c1)(H)(u:E->Prop):=cH (aK H) λcb=>ar (ms .u64 cb) u
abbrev oS(aK:c1)(u:E->Prop):=cH (aK 4) u
abbrev Bz(aK:E)(H:fJ)(u:E->fJ->Prop):=ar (gi .not aK) λcb=>bt H λbQ=>u cb bQ
abbrev Nh(aB:E)(bw:Nat)(u:(E×ag)->Prop):=ar (hI 1 [.zF, .zF, .Z 0] [(0,3,aB)] bw) u
abbrev GL(aK:E)(H)(M:E)(al:(S ag))(bw:aN)(u:E->(S ag)->Prop):=kX aK (hW H M) al λcb bQ=>kX aK (aU bw bQ cb) bQ u
abbrev GM(aK:Nat)(H:aN)(M:(S ag))(bw:E)(u:E->Nat->(S ag)->Prop):=Rk aK λcb=>qw H M aK cb.1 cb.2 2 bw u
abbrev XX(aK:E)(u:E->Prop):=ar (bv .gtr aK (.Z 0)) u
abbrev BA(aK:Nat)(H:aN)(M:(S ag))(u:E->(S ag)->Nat->Prop):=Rk aK λcb=>gT H M aK cb.1 cb.2 u
abbrev Rv(aK:E)(H:c1)(al:(S ag))(b1)(el:aN)(u:E->(S ag)->Prop):=VK aK (H 0) al λcb bQ=>yb aK (rf cb) bQ λcl cU=>yb aK (hW b1 cl) cU λfe l5=>yb aK (aU el l5 fe) l5 u
abbrev GN(aK:c1)(aB:aN)(bw:(S ag))(u:E->E->E->Prop):=fs aK 8 2 λcb bQ=>yM 3 bQ λcl=>k3 aB bw cl λcU=>u cb cl cU
abbrev JI(aK)(H:E)(u:E->Prop):=JG aK H λcb=>ar (some (E.iface 26 cb)) u
abbrev Ni(aK:c1)(al:aN)(aB:(S ag))(u:(S ag)->Prop):=kc aK 0 1 al aB λcb bQ cl=>DG cl λcU=>rg cb 1 al aB cU u
abbrev sc(aK:c1)(al:aN)(aB:(S ag))(u:E->Prop):=kc aK 0 0 al aB λ_ _ cl=>u cl
abbrev pB(aK:c1)(u:E->Prop):=cH (aK 5) u
abbrev GO(aK:aN)(H:(S ag))(al:E)(u:E->Prop):=ar (db aK H .eql 9 true al (.str [])) u
abbrev JJ(aK:E)(H:E)(u:E->Prop):=ar (gr aK) λcb=>ar (bv .add H cb) u
abbrev BB(aK:aN)(H:(S ag))(M)(al:E)(aB:E)(bw:fJ)(u:E->fJ->Prop):=ar (db aK H .eql M false al aB) λcb=>bt bw λbQ=>u cb bQ
abbrev qx(aK:c1)(u:E->Prop):=cH (aK 3) u
abbrev Rw(M:E)(bw:E)(u:E->Prop):=ar (fv [.str [], .zF] [(0,1,M),(1,1,bw)]) u
abbrev Nj(aK:E)(u:E->Prop):=ar (bv .eql aK (.Z 0)) u
abbrev JK(aK:E)(u:E->Prop):=ar (bv .lss aK (.Z 0)) u
abbrev BC(aK:c1)(H)(M:aN)(al:(S ag))(aB)(u:E->Prop):=kt aK H M al λcb=>gU cb aB M al λ_ cl=>u cl
abbrev GP(aK:E)(H:fJ)(u:E->fJ->Prop):=ar (gr aK) λcb=>bt H λbQ=>u cb bQ
abbrev te(aK:c1)(u:E->Prop):=cH (aK 1) u
abbrev JF(aK:aN)(M:E)(al)(aB:(S ag))(bw:Nat)(b1:bK)(u:E->Nat->(S ag)->Prop):=a2 aK 71 [M, .str [al]] aB bw (λcb bQ cl=>uE cb cl aK bQ λcU _ l5 pK=>u cU l5 pK) b1
def Jl(a:aN)(b:bK):fJ:=λc d e=>n9 a [.cell 2 23, .cell 3 26] b c c.bj d e
def MC(a:aN)(b c:bK):tm:=λd e f g=>wO a [.cell 2 23, .cell 3 26] b c d e d.bj f g
def aa7:Za0:=λa b c d e f=>ar (iK [.cN] d) λg=>gT a c d g.1 g.2 λc d g=>BA g a d λd g h=>a2 a 22 [b] g h (λg h i=>hB g λg j=>ar (fT a h 2 d j) λh=>yL d a h 0 λj=>bt (λb c d=>fs b 2 3 λg h=>Km (.func (.func 23) [] [g,h]) [] b λb=>oS b λg=>ar (fv [.aY, .Z 0] [(0,1,g)]) λg=>hC a c d g λc d g=>a2 a 24 [c] d g (λc d g=>cH (b 2) λh=>oR a d h c λc=>kt b 2 a c λd=>a2 a 25 [d] c g (λ_ c d=>kt b 2 a c λf=>DI λg=>cH (b 2) λh=>oR a c h f λc=>qx b λf=>ar (fT a c 2 f g) λc=>Jl a e b c d) (MC a e f (ib [19,20] b))) (MC a e f (ib [15,16,17,18] b))) λf=>a1 j (e7 (i+3) λf=>nc a h d λi=>ar (fT a h 1 c .cN) λh=>nc a h d λk=>gO k (some i) (ar (fT a h 2 d i) λh=>Jl a e (zJ (cR [b]) 2 c 3 d 4 g 12 j) h f)) (f (zJ (cR [b]) 2 c 3 d 4 g 12 j) h i)) (MC a e f (ib [6,7,5,8,9,4] (zH (cR [b]) 2 c 3 d)))
def anS:Cd X 6 [a0] h j ai ax=aa7 X a0 h j ai ax:=Zk
def anR:cV X 6 1=true:=Zk
def RL(a:aN)(b c:E)(d:Option E)(e:S ag)(f:Nat)(g:Bool->S ag->Nat->Prop):Prop:=
 Jk (some d) (cR [b,c]) λb c=>bt (λa b c=>g a.rc b c) λd=>ar (db a e .eql 20 true b .nilIface) λg=>bt d λd=>a1 g (d (zH c 5 b 7 g) e f) (ar (He 26 (.agg [.Z 0, .Z 0]) true b) λh=>ar (oh 1 h) λi=>ar (oh 0 h) λh=>bt d λd=>a1 i (GM f a e h λe f j=>e7 (f+3) λf=>nc a j e λk=>fa c λl=>ar (fT a j 1 l .cN) λj=>nc a j e λl=>gO l (some k) (te c λl=>ar (fT a j 2 l k) λa=>d (aa (zJ c 5 b 7 g 9 i 10 h) 3 e) a f)) (wP zL b e f))
def aax(X:ca)(a0 bf:E)(kq:Option E)(h:S ag)(j:Nat)(ai:Bool->S ag->Nat->Prop):Aj X 23 [a0,bf] kq h j ai=RL X a0 bf kq h j ai:=Zk
def RM:cV X 23 2=true:=Zk
def aay:Za0:=λa b c d e f=>ar (fv [.aY] []) λg=>hC a c d g λc d g=>bt (λa b c=>qx a λa=>e a b c) λe=>fy (λb c d g=>oS c λh=>bt (λc d e=>bt (λc d e=>fa c λg=>a2 a 44 [g] d e (λa d e=>ar (qK false 0 1 a) λa=>ar (bv .neq a (.Z 7)) λa=>b (aa c 4 a) d e) f) λb=>e7 (e+12) λg=>fs c 3 3 λh i=>gU i 0 a d λi j=>fa c λk=>a2 a 45 [k] d g (λd f g=>ar (hI 1 [.str [], .Z 0, .aY, .aY, .aY, .aY] [(0,6,d)] (e+7)) λd=>mK a f (e+7) d.1 d.2 λd e=>ar (aU a e i) λf=>gO f (some j) (h6 (j1 a e g 6 j d) e g λd e f=>rg h 0 a e d λa=>b c a f)) f) λa=>a1 h (a (aa c 7 h) d g) (e (aa c 7 h) d g)) (zI (cR [b]) 2 .cN 3 c 4 .zT) d g
def amu:c7 X 24 [a0]=aay X a0:=Zk
def amt:cV X 24 1=true:=Zk
def aaz:Za0:=λa b c d e f=>gU b 0 a c λ_ g=>ar (gr g) λg=>ar (bv .gtr g (.Z 64)) λg=>bt (λb c d=>sc b a c λg=>iT g (λ_ a b=>e (.tuple []) a b) λe h=>fy (λb c d e=>hK c 26 25 λg=>bt (λc d e=>vB (λa c d=>gR a 26 λe=>b (aa a 26 e) c d) c 24 26 6 λb g=>GG a d g e λd e g=>e4 2 d a g λ_ h=>ar (gr h) λh=>e4 3 d a g λ_ i=>JJ i h λh=>e4 4 d a g λ_ i=>JJ i h λh=>ar (bv .gtr h (.Z 256)) λh=>tb h 5 d g e a λe g i=>fc h (gr e) g i λe g i=>fc h (bv .gtr e (.Z 4096)) g i λe g i=>c9 (λe=>bt (λc d e=>iU c 3 5 a d λ_ g=>GP g b λb h=>fy (λb c d e=>hK c 55 54 λg=>bt (λc d e=>vB (λa c d=>gR a 55 λe=>b (aa a 55 e) c d) c 53 55 4 λb g=>GH a d g e λd e g=>e4 3 d a g λ_ h=>a2 a 46 [h] g e (λe g h=>ar (bv .gtr e (.Z 200)) λe=>bt b λb=>a1 e (e4 2 d a g λ_ a=>JI 22 a λa=>wP f a g h) (b (zH c 5 d 62 e) g h)) f) λa=>a1 g (a (aa c 56 g) d e) (h (aa c 56 g) d e)) (zI c 53 g 54 b 55 (.Z 0)) d e) λb=>a1 e (e4 1 d a g λ_ a=>JI 30 a λa=>wP f a g i) (b (zH c 3 d 47 e) g i)) λa=>a1 h (a .zT) (a e)) λa=>a1 g (a (aa c 27 g) d e) (h (aa c 27 g) d e)) (zI b 24 g 25 e 26 (.Z 0)) c d) λe=>a1 g (gU b 0 a c λ_ b=>ar (gd 6 b (.Z 64)) λb=>e4 1 b a c λ_ a=>JI 30 a λa=>wP f a c d) (e (aa (cR [b]) 11 g) c d)
def amw:c7 X 25 [a0]=aaz X a0:=Zk
def amv:cV X 25 1=true:=Zk
def aaQ:Za0:=λa b c d e _=>yK d a c λc d f=>e7 (f+11) λf=>gU b 0 a d λ_ g=>gU b 1 a d λ_ b=>ar (gd 7 g b) λb=>ar (dE a d 7 b) λb=>uD a d 7 c b λa b=>e b a f
def am0:c7 X 44 [a0]=aaQ X a0:=Zk
def amZ:cV X 44 1=true:=Zk
def aaR:Za0:=λa b c d e f=>ar (iK [.str [], .Z 0, .aY, .aY, .aY, .aY] d) λg=>gT a c d g.1 g.2 λc d g=>ar (hI 1 [.str []] [(0,1, .str [110,111,100,101])] g) λh=>gT a d g h.1 h.2 λd g h=>a2 a 69 [b,d] g h (λ_ d g=>a2 a 70 [b, .Z 1] d g (λd g h=>w7 h a g d λd g h=>e4 1 d a h λ_ i=>e4 2 d a h λ_ j=>ar (fv [.str [], .Z 0, .aY, .aY, .aY, .aY] [(0,1,i),(1,1,j)]) λi=>ar (iK [.str [], .Z 0, .aY, .aY, .aY, .aY] g) λj=>qw a h g j.1 j.2 6 i λg h i=>ta 40 h a i b f λ_ h i=>JF a b 41 h i f λh i j=>ar (gi .not h) λk=>bt (λb c d=>fa b λg=>ar (hI 2 [.str [], .str []] [(0,1, .str [114,101,116,117,114,110,115]),(1,1, .str [40])] d) λh=>gT a c d h.1 h.2 λc d h=>a2 a 69 [g,c] d h (λ_ c d=>fa b λg=>a2 a 72 [g, .zF] c d (λc d g=>oS b λh=>sb 3 h a d c λc=>fa b λd=>ta 41 g a c d f λ_ c d=>fa b λg=>a2 a 71 [g, .str [118,97,114]] c d (λc d g=>uE c g a d λc _ d g=>bt (λb c d=>fa b λg=>ar (hI 1 [.str []] [(0,1, .str [108,101,116])] d) λh=>gT a c d h.1 h.2 λc d h=>a2 a 69 [g,c] d h (λ_ c d=>bt (λb c d=>nL b 2 a c 6 λa=>e a c d) λ_=>fy (λb c d g=>bt b λb=>fa c λh=>a2 a 71 [h, .str [116,101,108]] d g (λd g h=>uE d h a g λd _ g h=>bt (λc d e=>e7 (e+8) λg=>iU c 4 5 a d λh i=>fa c λj=>a2 a 73 [j] d g (λd f g=>ar (hI 1 [.aY, .aY, .Z 0, .cN] [(0,4,d)] (e+4)) λd=>mK a f (e+4) d.1 d.2 λd e=>ar (aU a e h) λf=>gO f (some i) (h6 (j1 a e g 4 i d) e g λd e f=>oS c λg=>sb 5 g a e d λa=>b c a f)) f) λb=>a1 d (nL c 4 a h 6 λb=>ll c 2 a h 6 b λa b=>e b a g) (b (zH c 10 d 66 d) h g)) f) b c d) f) λe=>a1 c (fa b λh=>a2 a 72 [h, .zT] g d (λd g h=>oS b λi=>sb 4 i a g d λd=>fa b λg=>ta 59 h a d g f λ_ a d=>e (zH b 8 c 51 c) a d) f) (e (zH b 8 c 51 c) g d)) f) f) f) λe=>a1 k (a2 a 72 [b, .zF] j i (λi j l=>sb 2 g a j i λi=>ta 41 l a i b f λ_ a f=>e (aa (zJ (cR [b]) 2 c 3 d 4 g 6 h) 30 k) a f) f) (e (aa (zJ (cR [b]) 2 c 3 d 4 g 6 h) 30 k) j i)) f) f
def am2:c7 X 45 [a0]=aaR X a0:=Zk
def am1:cV X 45 1=true:=Zk
def abh:Za1:=λa b c d e f g=>yK e a d λd e h=>yK h a e λe h i=>iT c (λb c d=>nL b 5 a c 7 λe=>ll b 4 a c 7 e λa b=>f b a d) λf j=>fy (λb c d e=>hK c 11 10 λf=>bt (λc d e=>xa (λa c d=>gR a 11 λe=>b (aa a 11 e) c d) c 9 11 a d λb f=>fa c λh=>a2 a 71 [h,f] d e (λd e h=>hB d λd i=>pB c λj=>ar (fT a e 7 j d) λd=>Bz i b λb e=>a1 b (fa c λj=>a2 a 44 [j] d h (λd h j=>a2 a 93 [d] h j (λ_ a d=>e (zJ c 7 f 8 .zF 8 i 22 b) a d) g) g) (e (zJ c 7 f 8 .zF 8 i 22 b) d h)) g) λa=>a1 f (a (aa c 12 f) d e) (j (aa c 12 f) d e)) (aa (zJ (cR [b,c]) 4 d 5 e 9 c 10 f) 11 (.Z 0)) h i
def anQ:c7 X 69 [a0,bf]=abh X a0 bf:=Zk
def anP:cV X 69 2=true:=Zk
def abi:Za1:=λa b c d e f g=>yK e a d λd e h=>a2 a 44 [b] e h (λe h i=>w7 i a h e λe h i=>kK e a i λj=>ar (bv .neq j c) λj=>bt (λb c d=>Ni b a c λc=>nL b 5 a c 7 λe=>ll b 4 a c 7 e λa b=>f b a d) λf=>a1 j (td a i 7 e 93 h g λ_ a g=>f (zI (cR [b,c]) 4 d 5 e 11 j) a g) (f (zI (cR [b,c]) 4 d 5 e 11 j) i h)) g
def anU:c7 X 70 [a0,bf]=abi X a0 bf:=Zk
def anT:cV X 70 2=true:=Zk
def RQ:Za1:=λa b c d e f g=>yK e a d λd e h=>a2 a 44 [b] e h (λe g h=>w7 h a g e λe g h=>yL e a h 2 λi=>vC i 0 e h g a λg h j=>eJ i (bv .neq g (.Z 6)) h j λg h j=>c9 (λg=>tb g 1 e h j a λh i j=>hQ g c i j λi j k=>fc g (db a j .neq 9 false h i) j k λh i j=>c9 (λg=>bt (λb c d=>Ni b a c λc=>nL b 6 a c 7 λe=>ll b 4 a c 7 e λa b=>f (.tuple [b, .zT]) a d) λh=>a1 g (Rs λb=>uD a i 7 d b λa b=>f (.tuple [b, .zF]) a j) (h (zJ (cR [b,c]) 4 d 5 .zF 6 e 22 g) i j)) λa=>a1 g (a .zT) (a h)) λa=>a1 i (a g) (a .zF)) g
def abk:c7 X 71 [a0,bf]=RQ X a0 bf:=Zk
def abj:cV X 71 2=true:=Zk
def abl:Za1:=λa b c d e f g=>bt (λa b c=>oS a λa=>f a b c) λ_=>fy (λb c d e=>bt b λb=>bt (λc d e=>fa c λh=>ta 58 e a d h g λ_ d e=>fa c λh=>a2 a 70 [h, .Z 3] d e (λd e h=>ar (qK true 4 3 d) λd=>ar (fv [.str [], .Z 0, .zF, .zF, .Z 0, .str [], .Z 0, .zF] [(2,3,d)]) λd=>ar (iK [.str [], .Z 0, .zF, .zF, .Z 0, .str [], .Z 0, .zF] h) λi=>qw a e h i.1 i.2 8 d λd e h=>fa c λi=>a2 a 71 [i, .str [119,104,101,110]] h e (λe h i=>uE e i a h λe _ h i=>bt (λc d e=>cH (c 6) λh=>iT h (λc d e=>e7 (e+22) λe=>fa c λh=>a2 a 44 [h] d e (λd e g=>ar (qK false 1 1 d) λd=>ar (db a e .neq 9 true d (.str [59])) λd=>VK d (c 1) e λe h=>PY d e h λe h=>DF e c 0 h 0 a λh i=>DF e c 0 i 1 a λi j=>kX e (bv .add i (.Z 1)) j λi j=>kX e (gd 7 h i) j λh i=>GL e 1 h i a λh i=>kX e (db a i .eql 9 true h (.str [108,101,116])) i λh i=>PX d (λa=>c9 (λb=>a b i) λa=>a1 e (a h) (a .zF)) i λe h=>c9 (λd=>bt (λc d e=>Ni c a d λa=>b c a e) λa=>a1 d (pB c λa=>f a h g) (a (aa c 90 d) h g)) λa=>a1 d (a .zT) (a e)) g) λb f=>fy (λb c d e=>hK c 54 53 λg=>bt (λc d e=>vB (λa c d=>gR a 54 λe=>b (aa a 54 e) c d) c 52 54 7 λb f=>ar (dE a d 7 f) λf=>w7 e a d f λd e f=>e7 (e+8) λe=>e4 1 d a f λ_ g=>e4 2 d a f λh i=>cH (c 8) λj=>sb 0 j a f g λf=>cH (c 8) λg=>ar (hW 1 g) λg=>ar (aU a f h) λh=>gO h (some i) (oR a f g i λf=>fs c 5 8 λg h=>ar (dE a f 8 h) λh=>ar (hI 1 [.str [], .Z 0, .zF, .zF, .Z 0, .str [], .Z 0, .zF] [(0,8,h)] e) λh=>DH a f e h.1 h.2 8 g λa e f=>b (zH c 13 d 5 a) e f)) λa=>a1 g (a (aa c 55 g) d e) (f (aa c 55 g) d e)) (zI c 52 h 53 b 54 (.Z 0)) d e) λb=>a1 e (fa c λf=>a2 a 71 [f, .str [110,111,116]] i h (λf h i=>hB f λ_ f=>sb 7 d a h f λf=>fa c λh=>a2 a 70 [h, .Z 1] f i (λf g h=>w7 h a g f λf g h=>e7 (g+8) λg=>e4 1 f a h λ_ i=>e4 2 f a h λj k=>sb 5 d a h i λh=>ar (hW 6 d) λi=>ar (aU a h j) λj=>gO j (some k) (oR a h i k λa=>b (zJ c 8 d 10 e 37 e 11 f) a g)) g) g) (b (zI c 8 d 10 e 37 e) i h)) g) g) λb=>fy (λc d e f=>cH (d 7) λh=>bt (λb d e=>bt (λb d e=>fa b λf=>a2 a 71 [f, .str [44]] d e (λa d e=>hB a λ_ a=>c (aa b 7 a) d e) g) λc=>fs b 6 0 λf h=>a2 a 70 [h, .Z 1] d e (λd e g=>Rr d g a e f λa d e=>c (aa b 6 a) d e) g) λa=>a1 h (a (aa d 14 h) e f) (b (aa d 14 h) e f)) (zH c 6 .aY 7 .zT) d e) (zH (cR [b,c]) 4 .aY 5 .aY) d e
def anW:c7 X 72 [a0,bf]=abl X a0 bf:=Zk
def anV:cV X 72 2=true:=Zk
def abm:Za0:=λa b c d e f=>hC a c d b λc d g=>ar (iK [.aY, .aY, .Z 0, .cN] g) λh=>gT a d g h.1 h.2 λd g h=>ar (iK [.aY, .aY, .Z 0, .cN] h) λi=>gT a g h i.1 i.2 λg h i=>ar (aU a h c) λj=>JF a j 40 h i f λh i j=>bt (λb c d=>kt b 1 a c λg=>ta 61 d a c g f λc d g=>ar (qK false 2 1 c) λc=>qx b λh=>sb 2 h a d c λc=>kt b 1 a c λd=>a2 a 95 [d] c g (λc d g=>qx b λh=>sb 3 h a d c λc=>kt b 1 a c λd=>ta 59 g a c d f λ_ c d=>nL b 3 a c 4 λf=>ll b 2 a c 4 f λa b=>e b a d) f) λe=>a1 h (jA a (.func (.func 94) [] [c,g]) [] j i (λ_ i j=>ar (aU a i c) λk=>ta 44 j a i k f λ_ i j=>bt (λb c d=>kt b 1 a c λg=>ta 41 d a c g f λ_ a c=>e b a c) λe=>fy (λb c d g=>cH (c 7) λh=>bt (λc d e=>bt (λc d e=>kt c 1 a d λg=>a2 a 71 [g, .str [44]] d e (λa d e=>hB a λ_ a=>b (aa c 7 a) d e) f) λb=>oS c λg=>jA a g [] d e (λ_ a d=>b c a d) f) λa=>a1 h (a (aa c 20 h) d g) (e (aa c 20 h) d g)) (zI (zJ (cR [b]) 1 c 2 d 3 g 4 (.func (.func 94) [] [c,g])) 6 h 14 h 7 .zT) i j) f) (jA a (.func (.func 94) [] [c,g]) [] j i (λ_ a f=>e (zH (zJ (cR [b]) 1 c 2 d 3 g 4 (.func (.func 94) [] [c,g])) 6 h 14 h) a f) f)
def anY:c7 X 73 [a0]=abm X a0:=Zk
def anX:cV X 73 1=true:=Zk
def abK:Za0:=λa b c d _ e=>hC a c d b λb c d=>e4 2 b a c λ_ a=>JI 21 a λa=>wP e a c d
def aoA:c7 X 93 [a0]=abK X a0:=Zk
def aoz:cV X 93 1=true:=Zk
def abL:Za1:=λa b c d e f g=>ar (aU a d b) λb=>a2 a 70 [b, .Z 1] d e (λb d e=>w7 e a d b λb d e=>e7 (d+16) λg=>kK c a e λh=>e4 1 b a e λ_ i=>ar (hI 1 [.str []] [(0,1,i)] (d+4)) λi=>mK a e (d+4) i.1 i.2 λe i=>e4 1 c a i λj k=>e4 2 b a i λb l=>ar (hI 1 [.Z 0] [(0,1,l)] (d+10)) λm=>mK a i (d+10) m.1 m.2 λd i=>h6 (j1 a i g 1 h e) i g λe g h=>ar (hW 0 c) λi=>ar (aU a g j) λj=>gO j (some k) (ar (aU a g b) λb=>gO b (some l) (h6 (j1 a g h 1 k d) g h λb d g=>oR a d i e λd=>sb 1 c a d b λa=>f (.tuple []) a g))) g
def aoC:c7 X 94 [a0,bf]=abL X a0 bf:=Zk
def aoB:cV X 94 2=true:=Zk
def abM:Za0:=λa b c d e f=>a2 a 118 [b] c d (λc d g=>a2 a 71 [b, .str [45,62]] d g (λd g h=>uE d h a g λd g h i=>ar (gi .not d) λj=>bt (λb c d=>e7 (d+9) λg=>iU b 4 2 a c λh i=>fs b 3 0 λb j=>a2 a 95 [j] c g (λc f g=>ar (hI 2 [.cN, .cN] [(0,1,b),(1,1,c)] (d+5)) λb=>mK a f (d+5) b.1 b.2 λb c=>ar (fv [.Z 0, .Z 0, .str [], .zF, .zF, .zF, .Z 0, .int .u64 0, .aY] [(0,1, .Z 22),(1,1,i),(8,1,b)]) λb=>y4 a c (d+7) b λb c=>ar (aU a c h) λa=>gO a (some i) (e b c g)) f) λa=>a1 j (e c i h) (a (aa (zJ (cR [b]) 2 .cN 3 c 4 g 5 d) 14 j) i h)) f) f
def aoE:c7 X 95 [a0]=abM X a0:=Zk
def aoD:cV X 95 1=true:=Zk
def ξ:Za0:=λa b c d e f=>a2 a 133 [b, .Z 0] c d (λc d g=>a2 a 71 [b, .str [102,98,121]] d g (λd g h=>uE d h a g λd g h i=>ar (gi .not d) λj=>bt (λb c d=>kc b 3 0 a c λ_ _ g=>ar (bv .neq g (.Z 1)) λg=>oG g (b 3) c d λc d h=>By g c d h 0 a λc d h=>eJ g (bv .neq c (.Z 4)) d h λc d h=>kn g c d h λc d h=>vg c (b 3) d h λd h i=>w8 c d h i 8 a λd h i=>fc c (gd 1 d (.Z 0)) h i λd h i=>fc c (aU a h d) h i λd h i=>w8 c d h i 0 a λd h i=>fc c (bv .neq d (.Z 1)) h i λd h i=>lx g (λa=>c9 (λb=>a b h i) λa=>a1 c (a .zT) (a d)) h i λc d h=>c9 (λc=>bt (λb c d=>e7 (d+9) λg=>iU b 4 2 a c λh i=>fs b 3 0 λb j=>a2 a 118 [j] c g (λc f g=>ar (hI 2 [.cN, .cN] [(0,1,b),(1,1,c)] (d+5)) λb=>mK a f (d+5) b.1 b.2 λb c=>ar (fv [.Z 0, .Z 0, .str [], .zF, .zF, .zF, .Z 0, .int .u64 0, .aY] [(0,1, .Z 21),(1,1,i),(8,1,b)]) λb=>y4 a c (d+7) b λb c=>ar (aU a c h) λa=>gO a (some i) (e b c g)) f) λe=>a1 c (nL b 4 a d 7 λg=>a2 a 93 [g] d h (λ_ a d=>e (aa b 39 c) a d) f) (e (aa b 39 c) d h)) λa=>a1 g (a c) (a .zF)) λa=>a1 j (e c i h) (a (aa (zJ (cR [b]) 2 .cN 3 c 4 g 5 d) 14 j) i h)) f) f
def alq:c7 X 118 [a0]=ξ X a0:=Zk
def alp:cV X 118 1=true:=Zk
def aad:Za1:=λa b c d e f g=>ar (bv .eql c (.Z 5)) λh=>bt (λb c d=>fs b 0 1 λe h=>DG h λh=>a2 a 133 [e,h] c d (λc d e=>bt (λa b c=>oS a λa=>f a b c) λ_=>fy (λb c d e=>bt b λb=>fs c 0 1 λh i=>a2 a 141 [h,i] d e (λd e h=>hB d λd i=>ar (gi .not i) λj=>bt (λc d e=>fs c 6 5 λh i=>fs c 0 1 λj k=>DG k λk=>a2 a 133 [j,k] d e (λd e g=>ar (hI 2 [.cN, .cN] [(0,1,i),(1,1,d)] g) λd=>gT a e g d.1 d.2 λd e g=>rg h 8 a e d λa=>fs c 6 1 λd e=>oi e 2 b λb e=>a1 b (f d a g) (e (zH c 5 d 36 b) a g)) g) λa=>a1 j (pB c λa=>f a e h) (a (zI c 6 d 7 i 23 j) e h)) g) (aa b 5 c) d e) g) λi=>a1 h (a2 a 140 [b] d e f g) (i (zH (cR [b,c]) 4 .cN 9 h) d e)
def alU:c7 X 133 [a0,bf]=aad X a0 bf:=Zk
def alT:cV X 133 2=true:=Zk
def aak:Za0:=λa b c d e f=>a2 a 147 [b] c d (λc d g=>bt (λa b c=>cH (a 2) λa=>e a b c) λ_=>fy (λb c d g=>bt b λb=>fa c λh=>a2 a 71 [h, .str [60,60]] d g (λd g h=>uE d h a g λd g h i=>ar (gi .not d) λj=>bt (λc d g=>cH (c 6) λh=>ar (gi .not h) λh=>bt (λc d e=>fa c λg=>a2 a 70 [g, .Z 4] d e (λd e g=>w7 g a e d λd e g=>e4 3 d a g λ_ h=>ar (bv .gtr h (.int .u64 63)) λh=>bt (λc d e=>fs c 4 5 λf g=>e4 2 g a d λ_ g=>iU c 7 3 a d λ_ h=>qx c λi=>ar (hI 1 [.cN] [(0,1,i)] e) λi=>gT a d e i.1 i.2 λd e i=>ar (fv [.Z 0, .Z 0, .str [], .zF, .zF, .zF, .Z 0, .int .u64 0, .aY] [(0,1,f),(1,1,g),(7,1,h),(8,1,d)]) λd=>hC a e i d λa d e=>b (aa c 3 a) d e) λb=>a1 h (td a g 7 d 93 e f λ_ a e=>b (zH c 7 d 29 h) a e) (b (zH c 7 d 29 h) g e)) f) λa=>a1 h (qx c λa=>e a d g) (a (aa c 23 h) d g)) λb=>a1 j (fa c λe=>a2 a 71 [e, .str [62,62]] i h (λe f h=>hB e λe i=>ar (fT a f 7 g e) λa=>b (zH (zJ c 4 (.Z 19) 5 g 6 d 16 j) 4 (.Z 20) 6 i) a h) f) (b (zJ c 4 (.Z 19) 5 g 6 d 16 j) i h)) f) (zH (cR [b]) 2 .cN 3 c) d g) f
def al8:c7 X 140 [a0]=aak X a0:=Zk
def al7:cV X 140 1=true:=Zk
def aal:Za1:=λa b c d e f g=>ar (ya 5 1 (.ptr 8 0) c) λh=>ar (aU a d h) λh=>iT h (λ_ a b=>f (.tuple [.cN, .zF]) a b) λi j=>fy (λb c d e=>hK c 14 13 λh=>bt (λc d e=>vB (λa c d=>gR a 14 λe=>b (aa a 14 e) c d) c 12 14 2 λb h=>nc a d h λh=>ar (iK [.str [], .Z 0] e) λi=>qw a d e i.1 i.2 2 h λd e h=>fa c λi=>kK d a h λj=>a2 a 71 [i,j] h e (λe g h=>uE e h a g λe g h i=>bt b λb=>a1 e (e4 1 d a i λ_ b=>e4 2 g a i λ_ c=>ar (fv [.Z 0, .Z 0, .str [], .zF, .zF, .zF, .Z 0, .int .u64 0, .aY] [(0,1,b),(1,1,c)]) λb=>hC a i h b λa b c=>f (.tuple [a, .zT]) b c) (b (zJ c 7 d 8 g 9 e 25 e) i h)) g) λa=>a1 h (a (aa c 15 h) d e) (j (aa c 15 h) d e)) (aa (zJ (cR [b,c]) 4 .cN 5 .zF 12 h 13 i) 14 (.Z 0)) d e
def ama:c7 X 141 [a0,bf]=aal X a0 bf:=Zk
def al9:cV X 141 2=true:=Zk
def aao:Za0:=λa b c d e f=>ar (fv [.str [], .Z 0] [(0,1, .str [110,111,116]),(1,1, .Z 3)]) λg=>ar (fv [.str [], .Z 0] [(0,1, .str [45]),(1,1, .Z 4)]) λh=>ar (fv [.str [], .Z 0] [(0,1, .str [112,114,101]),(1,1, .Z 5)]) λi=>ar (fv [.str [], .Z 0, .str [], .Z 0, .str [], .Z 0] [(0,2,g),(2,2,h),(4,2,i)]) λg=>bt (λb c d=>fa b λg=>a2 a 153 [g] c d (λc d g=>bt (λa b c=>cH (a 2) λa=>e a b c) λ_=>fy (λb c d g=>bt b λb=>fa c λh=>a2 a 71 [h, .str [119,104,101,110]] d g (λd g h=>uE d h a g λd g h i=>ar (gi .not d) λj=>bt (λc d e=>fa c λg=>a2 a 71 [g, .str [110,111,116]] d e (λd e g=>uE d g a e λd _ e g=>e7 (e+11) λh=>iU c 8 2 a g λi j=>fs c 0 7 λk l=>ar (hI 1 [.cN] [(0,1,l)] (e+7)) λl=>mK a g (e+7) l.1 l.2 λg l=>a2 a 70 [k, .Z 1] l h (λf h k=>ar (qK false 1 1 f) λf=>ar (fv [.Z 0, .Z 0, .str [], .zF, .zF, .zF, .Z 0, .int .u64 0, .aY] [(0,1, .Z 6),(1,1,j),(2,1,f),(3,1,d),(8,1,g)]) λf=>y4 a h (e+9) f λe f=>ar (aU a f i) λa=>gO a (some j) (b (zH c 11 d 7 e) f k)) f) f) λa=>a1 j (cH (c 7) λa=>e a i h) (a (zI c 8 g 9 d 45 j) i h)) f) (aa b 7 c) d g) f) λh=>fy (λb c d g=>GJ c 16 3 λi=>bt (λc d g=>bt (λa c d=>gR a 16 λe=>b (aa a 16 e) c d) λb=>fs c 15 16 λh i=>ar (rQ true 3 2 h i) λh=>ar (iK [.str [], .Z 0] g) λi=>qw a d g i.1 i.2 2 h λd g h=>fa c λi=>kK d a h λj=>a2 a 71 [i,j] h g (λg h i=>uE g i a h λg h i j=>bt b λb=>a1 g (e7 (i+10) λb=>e4 1 d a j λd g=>e4 2 h a j λh k=>fa c λc=>a2 a 147 [c] j b (λb c f=>ar (hI 1 [.cN] [(0,1,b)] (i+6)) λb=>mK a c (i+6) b.1 b.2 λb c=>ar (fv [.Z 0, .Z 0, .str [], .zF, .zF, .zF, .Z 0, .int .u64 0, .aY] [(0,1,g),(1,1,k),(8,1,b)]) λb=>y4 a c (i+8) b λb c=>ar (aU a c d) λd=>gO d (some g) (ar (aU a c h) λa=>gO a (some k) (e b c f))) f) (b (zJ c 4 d 5 h 6 g 26 g) j i)) f) λa=>a1 i (a (aa c 17 i) d g) (h (aa c 17 i) d g)) (zI (cR [b]) 2 .cN 15 g 16 (.Z 0)) c d
def amg:c7 X 147 [a0]=aao X a0:=Zk
def amf:cV X 147 1=true:=Zk
def yT:Za0:=λa b c d e f=>a2 a 44 [b] c d (λc d g=>w7 g a d c λc d g=>e4 2 c a g λ_ h=>ar (fv [.Z 0, .Z 0, .str [], .zF, .zF, .zF, .Z 0, .int .u64 0, .aY] [(1,1,h)]) λh=>hC a g d h λd g h=>gU b 1 a g λ_ i=>DG i λi=>rg b 1 a g i λg=>bt (λa b c=>oS a λa=>e a b c) λe=>kK c a g λi=>oi i 5 e λe i=>a1 e (e7 (h+16) λf=>ar (hW 4 c) λh=>k3 a g h λj=>e4 3 c a g λk l=>lK d 0 λm=>sa a g m 1 λg=>lK d 4 λm=>k3 a g h λh=>gO h (some j) (ar (aU a g k) λh=>gO h (some l) (ar (fT a g 3 m j) λg=>lK d 7 λh=>ar (aU a g k) λj=>gO j (some l) (oR a g h l λa=>i (zJ (cR [b]) 2 .cN 3 c 4 d 29 e) a f)))) (DJ c a g 2 λj=>vC j 1 c g h a λg h k=>eJ j (db a h .eql 9 true g (.str [116,114,117,101])) h k λg h k=>kn j g h k λg h k=>tb g 1 c h k a λh k l=>fc g (db a k .eql 9 true h (.str [102,97,108,115,101])) k l λh k l=>lx j (λa=>c9 (λb=>a b k l) λa=>a1 g (a .zT) (a h)) k l λg h k=>c9 (λg=>bt i λi=>a1 g (ar (fv [.zF, .zF, .Z 0] [(0,1, .zT),(2,1, .Z 1)]) λf=>lK d 0 λj=>sa a h j 1 λh=>lK d 4 λj=>ar (fT a h 3 j f) λf=>e4 1 c a f λ_ h=>ar (db a f .eql 9 true h (.str [116,114,117,101])) λh=>bt i λi=>a1 h (lK d 7 λj=>ar (fT a f 1 j (.int .u64 1)) λa=>i (zH (zJ (cR [b]) 2 .cN 3 c 4 d 29 e) 46 g 69 h) a k) (i (zH (zJ (cR [b]) 2 .cN 3 c 4 d 29 e) 46 g 69 h) f k)) (kK c a h λj=>oi j 1 i λi j=>a1 i (e7 (k+10) λk=>e4 1 c a h λl m=>lK d 0 λn=>sa a h n 2 λh=>lK d 2 λn=>ar (aU a h l) λl=>gO l (some m) (oR a h n m λh=>JF a b 40 h k f λh k l=>bt j λj=>a1 h (a2 a 156 [b] l k (λf k l=>lK d 0 λm=>sa a k m 25 λk=>rg d 8 a k f λa=>j (zJ (zJ (cR [b]) 2 .cN 3 c 4 d 29 e) 46 g 73 i 6 h 90 h) a l) f) (j (zJ (zJ (cR [b]) 2 .cN 3 c 4 d 29 e) 46 g 73 i 6 h 90 h) l k))) (kK c a h λl=>oi l 3 j λj l=>a1 j (e7 (k+10) λk=>ar (hW 4 c) λm=>k3 a h m λn=>lK d 0 λo=>sa a h o 26 λh=>lK d 4 λo=>k3 a h m λm=>gO m (some n) (ar (fT a h 3 o n) λh=>ta 40 k a h b f λ_ h k=>a2 a 95 [b] h k (λh k m=>ar (hI 1 [.cN] [(0,1,h)] m) λh=>gT a k m h.1 h.2 λh k m=>rg d 8 a k h λh=>ta 41 m a h b f λ_ a f=>l (zI (zJ (cR [b]) 2 .cN 3 c 4 d 29 e) 46 g 73 i 99 j) a f) f)) (DJ c a h 6 λm=>vC m 1 c h k a λh k n=>eJ m (db a k .eql 9 true h (.str [40])) k n λh k n=>c9 (λh=>bt l λl=>a1 h (a2 a 95 [b] k n (λk m n=>ta 41 n a m b f λ_ a f=>l (aa (zJ (zJ (cR [b]) 2 .cN 3 c 4 d 29 e) 46 g 73 i 99 j 123 h) 4 k) a f) f) (DJ c a k 2 λm=>vC m 1 c k n a λk n o=>eJ m (db a n .eql 9 true k (.str [105,102])) n o λk n o=>c9 (λk=>bt l λl=>a1 k (lK d 0 λm=>sa a n m 23 λm=>Rn o d a m b f λm n o p q=>gO q (some m) (h6 (j1 a p n 1 m o) p n λm n o=>rg d 8 a n m λm=>ar (hI 1 [.str []] [(0,1, .str [116,104,101,110])] o) λn=>gT a m o n.1 n.2 λm n o=>a2 a 69 [b,m] n o (λ_ m n=>Rn n d a m b f λm n o p q=>gO q (some m) (h6 (j1 a p n 1 m o) p n λm n o=>rg d 8 a n m λm=>ar (hI 1 [.str []] [(0,1, .str [101,108,115,101])] o) λn=>gT a m o n.1 n.2 λm n o=>a2 a 69 [b,m] n o (λ_ m n=>Rn n d a m b f λf m n o p=>gO p (some f) (h6 (j1 a o m 1 f n) o m λf m n=>rg d 8 a m f λa=>l (aa (zJ (zJ (cR [b]) 2 .cN 3 c 4 d 29 e) 46 g 73 i 99 j 123 h) 137 k) a n)) f)) f)) (DJ c a n 2 λm=>vC m 1 c n o a λn o p=>eJ m (db a o .eql 9 true n (.str [109,101,114,103,101])) o p λn o p=>c9 (λm=>bt l λl=>a1 m (a2 a 70 [b, .Z 1] o p (λn o p=>ar (qK false 1 1 n) λn=>lK d 0 λq=>sa a o q 24 λo=>rg d 2 a o n λn=>a2 a 153 [b] n p (λn o p=>a2 a 153 [b] o p (λf o p=>ar (hI 2 [.cN, .cN] [(0,1,n),(1,1,f)] p) λf=>gT a o p f.1 f.2 λf n o=>rg d 8 a n f λa=>l (zH (zJ (zJ (cR [b]) 2 .cN 3 c 4 d 29 e) 46 g 73 i 99 j 123 h) 137 k 188 m) a o) f) f) f) (gU b 1 a o λ_ n=>Bw n λn=>rg b 1 a o n λn=>td a n 7 c 93 p f λ_ a f=>l (zH (zJ (zJ (cR [b]) 2 .cN 3 c 4 d 29 e) 46 g 73 i 99 j 123 h) 137 k 188 m) a f)) λa=>a1 m (a n) (a .zF))) λa=>a1 m (a k) (a .zF))) λa=>a1 m (a h) (a .zF))))) λa=>a1 j (a g) (a .zF))) f
def BN:c7 X 153 [a0]=yT X a0:=Zk
def BM:cV X 153 1=true:=Zk
def aaq:Za0:=λa b c d e f=>JF a b 41 c d f λc d g=>bt (λb c d=>fa b λg=>a2 a 95 [g] c d (λc d g=>ar (hI 1 [.cN] [(0,1,c)] g) λc=>gT a d g c.1 c.2 λc d g=>bt (λa b c=>cH (a 2) λa=>e a b c) λ_=>fy (λb c d g=>bt b λb=>fa c λh=>JF a h 44 d g f λd g h=>ar (gi .not d) λi=>bt (λc d e=>fs c 5 0 λg h=>a2 a 95 [h] d e (λd e f=>ar (hI 1 [.cN] [(0,1,d)] f) λd=>DH a e f d.1 d.2 1 g λa d e=>b (aa c 5 a) d e) f) λb=>a1 i (fa c λb=>ta 41 g a h b f λ_ a b=>pB c λc=>e c a b) (b (zH c 7 d 23 i) h g)) (aa b 5 c) d g) f) λa=>a1 c (e .aY g d) (a (zI (cR [b]) 2 .aY 4 c 13 c) g d)
def ami:c7 X 156 [a0]=aaq X a0:=Zk
def amh:cV X 156 1=true:=Zk
end
open Go.bg Go.aL
noncomputable section
def cg(t:Tok):List E:=[.Z t.kind, .str t.text, .Z t.at_, .int .u64 t.n, .bool t.ty.b, .bool t.ty.s, .Z t.ty.w]
def qh:Nat:=3
def ayB(f:Nat):Bool:=rS f [7,129,108]
structure dk(X:ca):Prop where
 none:∀f k,ayB f=false->X.O f k=none
set_option maxRecDepth 100000 in
def zG{z7:ca}(O:dk z7){f:Nat}{a:List E}{z9:S ag}{n:Nat}{u v:bK}(c:cV z7 f a.length=true)(h:c7 z7 f a z9 n u v)(b:ayB f=false:=by rfl):a2 z7 f a z9 n u v:=cY c (O.none _ _ b) h
structure aL(X:ca)(h:S ag)(aM bU:Nat)(aZ:List Tok)(i:Nat):Prop where
 at_:∃c aq,W X h aM=some (.cells c 2 .own)/\c.get 0=some aq/\c.get 1=some (.Z (i:Int))/\dV X h (λe=>e=bU) bU aq 7 (aZ.map cg)
 ne:aM≠bU
def aL.ab{X:ca}{h R:S ag}{aM bU:Nat}{aZ:List Tok}{i:Nat}(a:aL X h aM bU aZ i)(bR:W X R aM=W X h aM)(cm:W X R bU=W X h bU):aL X R aM bU aZ i:=by
 obtain⟨c,aq,H,M,al,aB⟩:=a.at_
 exact⟨⟨c,aq,by rw[bR];exact H,M,al,aB.ab λe z=>by subst z;exact cm⟩,a.ne⟩
def kE{C:aN}{h:S ag}{b n T:Nat}{c:S E}{st:oo}{v:E}(a:W C h b=some (.cells c n st))(bD:c.get T=some v):aU C h (.ptr b T)=some v:=by rw[cw,a];exact bD
section
variable{X:ca}{h R:S ag}{j an aM bU:Nat}{aZ:List Tok}{i:Nat}
def sW(aw:dk X)(aF:(o X).a8<=j)(ay:aL X h aM bU aZ i)(kQ:aM<j)(ki:bU<j){t:Tok}(ba:aZ[i]? =some t):
 a2 X 44 [.ptr aM 0] h j (λac R an=>ac= .agg (cg t)/\br X h j R an) zL:=by
 refine zG aw (amZ X) ?_
 rw[am0]
 unfold aaQ
 obtain⟨c,aq,H,M,al,aB⟩:=ay.at_
 have wE:=kE H M
 have bR:=kE H al
 have aG:i<(aZ.map cg).length:=by rw[Zi];exact(Zb.1 ba).1
 have dA:=aB.fx i aG
 have fD:dE X (bm X h j (zD [.Z 0, .str [], .Z 0, .int .u64 0, .zF, .zF, .Z 0] 7)) 7 (.ptr bU (i*7))=some (.agg (cg t)):=by
  have:=(aB.ab (R:=bm X h j (zD [.Z 0, .str [], .Z 0, .int .u64 0, .zF, .zF, .Z 0] 7)) (λe z=>by subst z;exact aI aF Zo)).row Zd (i:=i) (r:=cg t) (by rw[Zy,ba];rfl)
  exact this
 refine f3 @wE @bR @dA @fD cg.eq_1 ⟨?_⟩
 exact⟨rfl,dH⟩
def uy:List E:=[.Z 0, .str [], .Z 0, .int .u64 0, .zF, .zF, .Z 0]
def aL.on(ay:aL X h aM bU aZ i){V:Nat}{c:S E}(H:W X R aM=some (.cells c 2 .own))(aK:∀dx st,W X h aM=some (.cells dx 2 st)->c=dx.set 1 (some (.Z (V:Int))))(cm:W X R bU=W X h bU):aL X R aM bU aZ V:=by
 obtain⟨dx,aq,bf,cf,a3,a4⟩:=ay.at_
 have:=aK dx _ bf
 subst this
 refine⟨⟨_,aq,H, ?_, ?_,a4.ab λe z=>by subst z;exact cm⟩,ay.ne⟩
 ·rw[S.jP,Zg Zd];exact cf
 ·rw[S.jP,Zp rfl]
def KC(aw:dk X)(aF:(o X).a8<=j)(t:Tok)(ax:bK)(a:∀R an,br X h j R an->ax (.iface 26 (.agg [.Z 21, .Z t.at_])) R an):
 a2 X 93 [.agg (cg t)] h j zL ax:=by
 refine zG aw (aoz X) ?_
 rw[aoA]
 unfold abK cg
 refine cL ⟨?_⟩
 exact⟨a _ _ dH⟩
def ajJ(aw:dk X)(aF:(o X).a8<=j)(ay:aL X h aM bU aZ i)(iy:(o X).a8<=aM)(kQ:aM<j)(ki:bU<j)(bn:aZ.length<=300000){t:Tok}(ba:aZ[i]? =some t){s:aR}(aC:hq t s=true):
 a2 X 71 [.ptr aM 0, .str s] h j (λac R an=>ac= .tuple [.agg (cg t), .zT]/\aL X R aM bU aZ (i+1)/\ch X [aM] h j R an) zL:=by
 refine zG aw (abj X) ?_
 rw[abk]
 unfold RQ
 refine so ?_
 have k9:=(Zb.1 ba).1
 have bL:br X h j (bm X h j (zD uy 7)) (j+1):=br.fresh aF _
 have eu:aL X (bm X h j (zD uy 7)) aM bU aZ i:=ay.ab (bL.ab _ kQ) (bL.ab _ ki)
 refine(sW aw Zo eu Zo Zo ba).mono ?_ (λ_ _ _ a=>a)
 rintro ac aP aX ⟨rfl,bI⟩
 have gl:=bI.le
 have M:W X aP j=zD uy 7:=by rw[bI.ab _ Zo];exact bh aF
 have gE:ch X [aM] h j aP aX:=ch.of ((br.fresh aF _).trans bI)
 have dI:aL X aP aM bU aZ i:=eu.ab (bI.ab _ Zo) (bI.ab _ Zo)
 obtain⟨c,aq,bf,cf,a3,a4⟩:=dI.at_
 have aH:=gE.ab
 simp only[hq,Zq,Y5,Zh]at aC
 obtain⟨pY,rfl⟩:=aC
 have bR:=kE bf a3
 have bC:=zE i
 have fL:decide (t.text≠t.text)=false:=by simp
 unfold uy at M
 have fin:∀(tn:S ag) (an:Nat),W X tn aM=some (.cells (d7 c 1 [.Z ((i+1:Nat):Int)]) 2 .own)->ch X [aM] h j tn an->W X tn bU=W X aP bU->aL X tn aM bU aZ (i+1)/\ch X [aM] h j tn an:=λtn an H M al=>
  ⟨dI.on H (λdx st a=>by rw[bf]at a;cases a;exact pz ..) al,M⟩
 have dn:=ay.ne
 rcases pY with hD|hD
 ·have c2:decide (t.kind≠2)=false:=by simp[hD]
  refine eh cg.eq_1 @c2 @fL @bR @bC @bf @M ⟨?_⟩
  refine⟨rfl,fin _ _ ?_ ?_ ?_⟩
  ·simp(disch:=omega) only[aI,bh];rfl
  ·exact⟨Zo,λb aj bZ=>by have:=aH b aj bZ;simp only[Zu,ZK,YX,Yq,ZI,Yb]at bZ;simp(disch:=omega) only[aI];exact this⟩
  ·simp(disch:=omega) only[aI]
 ·have c2:decide (t.kind≠2)=true:=by simp[hD]
  have cM:decide (t.kind≠6)=false:=by simp[hD]
  refine eh cg.eq_1 @c2 @cM @fL @bR @bC (Za @bf @M) ⟨?_⟩
  refine⟨rfl,fin _ _ ?_ ?_ ?_⟩
  ·simp(disch:=omega) only[aI,bh];rfl
  ·exact⟨Zo,λb aj bZ=>by have:=aH b aj bZ;simp only[Zu,ZK,YX,Yq,ZI,Yb]at bZ;simp(disch:=omega) only[aI];exact this⟩
  ·simp(disch:=omega) only[aI]
def ajI(aw:dk X)(aF:(o X).a8<=j)(ay:aL X h aM bU aZ i)(iy:(o X).a8<=aM)(kQ:aM<j)(ki:bU<j){t:Tok}(ba:aZ[i]? =some t){s:aR}(aC:hq t s=false):
 a2 X 71 [.ptr aM 0, .str s] h j (λac R an=>ac= .tuple [.agg uy, .zF]/\aL X R aM bU aZ i/\ch X [aM] h j R an) zL:=by
 refine zG aw (abj X) ?_
 rw[abk]
 unfold RQ
 refine so ?_
 have bL:br X h j (bm X h j (zD uy 7)) (j+1):=br.fresh aF _
 have eu:aL X (bm X h j (zD uy 7)) aM bU aZ i:=ay.ab (bL.ab _ kQ) (bL.ab _ ki)
 refine(sW aw Zo eu Zo Zo ba).mono ?_ (λ_ _ _ a=>a)
 rintro ac aP aX ⟨rfl,bI⟩
 have gl:=bI.le
 have M:W X aP j=zD uy 7:=by rw[bI.ab _ Zo];exact bh aF
 have gE:ch X [aM] h j aP aX:=ch.of ((br.fresh aF _).trans bI)
 have dI:aL X aP aM bU aZ i:=eu.ab (bI.ab _ Zo) (bI.ab _ Zo)
 have aH:=gE.ab
 unfold uy at M
 have fin:∀(tn:S ag) (an:Nat),W X tn aM=W X aP aM->ch X [aM] h j tn an->W X tn bU=W X aP bU->aL X tn aM bU aZ i/\ch X [aM] h j tn an:=λtn an H M al=>
  ⟨dI.ab H al,M⟩
 simp only[hq,Bool.and_eq_false_iff,Bool.or_eq_false_iff,Zc]at aC
 by_cases hD:t.kind=2
 ·have aC:t.text≠s:=by rcases aC with a|a;exact absurd hD a.1;exact a
  have c2:decide (t.kind≠2)=false:=by simp[hD]
  have fL:decide (t.text≠s)=true:=by simpa using aC
  refine gk cg.eq_1 @c2 @fL @M ⟨?_⟩
  refine⟨rfl,fin _ _ ?_ ?_ ?_⟩
  ·simp(disch:=omega) only[aI]
  ·exact⟨Zo,λb aj bZ=>by have:=aH b aj bZ;simp only[Zu,ZK,YX,Yq,ZI,Yb]at bZ;simp(disch:=omega) only[aI];exact this⟩
  ·simp(disch:=omega) only[aI]
 ·have c2:decide (t.kind≠2)=true:=by simp[hD]
  by_cases pd:t.kind=6
  ·have aC:t.text≠s:=by rcases aC with a|a;exact absurd pd a.2;exact a
   have cM:decide (t.kind≠6)=false:=by simp[pd]
   have fL:decide (t.text≠s)=true:=by simpa using aC
   refine f3 cg.eq_1 @c2 @cM @fL @M ⟨?_⟩
   refine⟨rfl,fin _ _ ?_ ?_ ?_⟩
   ·simp(disch:=omega) only[aI]
   ·exact⟨Zo,λb aj bZ=>by have:=aH b aj bZ;simp only[Zu,ZK,YX,Yq,ZI,Yb]at bZ;simp(disch:=omega) only[aI];exact this⟩
   ·simp(disch:=omega) only[aI]
  ·have cM:decide (t.kind≠6)=true:=by simp[pd]
   refine gk cg.eq_1 @c2 @cM @M ⟨?_⟩
   refine⟨rfl,fin _ _ ?_ ?_ ?_⟩
   ·simp(disch:=omega) only[aI]
   ·exact⟨Zo,λb aj bZ=>by have:=aH b aj bZ;simp only[Zu,ZK,YX,Yq,ZI,Yb]at bZ;simp(disch:=omega) only[aI];exact this⟩
   ·simp(disch:=omega) only[aI]
def Dg(aw:dk X)(aF:(o X).a8<=j)(ay:aL X h aM bU aZ i)(iy:(o X).a8<=aM)(kQ:aM<j)(ki:bU<j)(bn:aZ.length<=300000){t:Tok}(ba:aZ[i]? =some t)(u:Int):
 a2 X 70 [.ptr aM 0, .Z u] h j (λac R an=>t.kind=u/\ac= .agg (cg t)/\aL X R aM bU aZ (i+1)/\ch X [aM] h j R an)
  (λac R an=>t.kind≠u/\ac= .iface 26 (.agg [.Z 21, .Z t.at_])/\ch X [aM] h j R an):=by
 refine zG aw (anT X) ?_
 rw[anU]
 unfold abi
 refine so ?_
 have k9:=(Zb.1 ba).1
 have bL:br X h j (bm X h j (zD uy 7)) (j+1):=br.fresh aF _
 have eu:aL X (bm X h j (zD uy 7)) aM bU aZ i:=ay.ab (bL.ab _ kQ) (bL.ab _ ki)
 refine(sW aw Zo eu Zo Zo ba).Zm ?_
 rintro ac aP aX ⟨rfl,bI⟩
 have gl:=bI.le
 have M:W X aP j=zD uy 7:=by rw[bI.ab _ Zo];exact bh aF
 have gE:ch X [aM] h j aP aX:=ch.of ((br.fresh aF _).trans bI)
 have dI:aL X aP aM bU aZ i:=eu.ab (bI.ab _ Zo) (bI.ab _ Zo)
 obtain⟨c,aq,bf,cf,a3,a4⟩:=dI.at_
 have aH:=gE.ab
 have bR:=kE bf a3
 have bC:=zE i
 unfold uy at M
 have dn:=ay.ne
 by_cases xV:t.kind=u
 ·have c2:decide (t.kind≠u)=false:=by simp[xV]
  refine ic cg.eq_1 @c2 @bR @bC @bf @M ⟨?_⟩
  refine⟨xV,rfl,dI.on (c:=d7 c 1 [.Z ((i+1:Nat):Int)]) ?_ (λdx st a=>by rw[bf]at a;cases a;exact pz ..) ?_, ?_⟩
  ·simp(disch:=omega) only[aI,bh];rfl
  ·simp(disch:=omega) only[aI]
  ·exact⟨Zo,λb aj bZ=>by have:=aH b aj bZ;simp only[Zu,ZK,YX,Yq,ZI,Yb]at bZ;simp(disch:=omega) only[aI];exact this⟩
 ·have c2:decide (t.kind≠u)=true:=by simp[xV]
  refine er cg.eq_1 @c2 @M ⟨?_⟩
  refine(KC aw Zo t _ ?_).mono (λ_ _ _ a=>a.elim) (λ_ _ _ a=>a)
  intro R an bY
  have Lr:=bY.le
  refine⟨xV,rfl,Zo,λb aj bZ=> ?_⟩
  have:=aH b aj bZ
  simp only[Zu,ZK,YX,Yq,ZI,Yb]at bZ
  rw[bY.ab b Zo]
  simp(disch:=omega) only[aI];exact this
end
section
variable{X:ca}{h R:S ag}{j an aM bU:Nat}{aZ:List Tok}{i:Nat}
def hr:Tok:=⟨0,[],0,0,dQ⟩
def s7:List aR->Tok->List Tok->gy Tok
 |[],x,k=>ok x k
 |s::oc,_,k=>andThen (eL s k) λe k=>s7 oc e k
def f2{aZ:List Tok}{i:Nat}{x:Tok}{k:List Tok}(a:aZ.drop i=x::k):aZ[i]? =some x/\aZ.drop (i+1)=k:=by
 constructor
 ·have:=congrArg (λk=>k[0]?) a
  simpa using this
 ·rw[<-zq,a];rfl
def f8(oc:List aR):List (List E):=oc.map λs=>[.str s]
def aki(aw:dk X)(aF:(o X).a8<=j)(ay:aL X h aM bU aZ i)(iy:(o X).a8<=aM)(kQ:aM<j)(ki:bU<j)(bn:aZ.length<=300000){aO:E}{ce:Nat}{oc:List aR}(H0:ce<j)(LO:ce≠aM)(aC:dV X h (λe=>e=ce) ce aO 1 (f8 oc))
 {r:Except Int (Tok×List Tok)}(Y:s7 oc hr (aZ.drop i)=some r):
 a2 X 69 [.ptr aM 0,aO] h j (λac R an=>∃x cJ,r= .ok (x,aZ.drop cJ)/\ac= .agg (cg x)/\aL X R aM bU aZ cJ/\ch X [aM] h j R an)
  (λac R an=>∃F,r= .error F/\ac= .iface 26 (.agg [.Z 21, .Z F])/\ch X [aM] h j R an):=by
 refine zG aw (anP X) ?_
 rw[anQ]
 unfold abh
 have eM:=aC.len
 have dn:=ay.ne
 have wv:=aC.many
 simp only[f8,Zi]at wv
 refine so ?_
 refine so ?_
 have KU:br X h j (bm X (bm X h j (zD (cg hr) 7)) (j+1) (zD (cg hr) 7)) (j+1+1):=dH
 have pr:W X (bm X (bm X h j (zD (cg hr) 7)) (j+1) (zD (cg hr) 7)) j=zD (cg hr) 7:=by simp(disch:=omega) only[aI,bh]
 have cE:W X (bm X (bm X h j (zD (cg hr) 7)) (j+1) (zD (cg hr) 7)) (j+1)=zD (cg hr) 7:=bh Zo
 refine rt @eM ⟨?_⟩
 refine ko (λI R n=>∃x cJ,r= .ok (x,aZ.drop cJ)/\I.g 5=some (.ptr (j+1) 0)/\I.g 4=some (.ptr j 0)/\j+1<n/\W X R (j+1)=zD (cg x) 7/\W X R j=zD (cg hr) 7/\aL X R aM bU aZ cJ/\ch X [aM] h j R n) (λV bF=> ?_) ?_
 ·refine fE (λm I R n=>∃u cJ x,m=oc.length-u/\u<=oc.length/\I.g 0=some (.ptr aM 0)/\I.g 9=some aO/\I.g 10=some (.Z (oc.length:Int))/\I.g 11=some (.Z (u:Int))/\I.g 5=some (.ptr (j+1) 0)/\I.g 4=some (.ptr j 0)/\j+1<n
   /\W X R (j+1)=zD (cg x) 7/\W X R j=zD (cg hr) 7/\aL X R aM bU aZ cJ/\ch X [aM] h j R n/\s7 (oc.drop u) x (aZ.drop cJ)=some r)
   oc.length ⟨0,i,hr,Zo,Zo, ?_, ?_, ?_, ?_, ?_, ?_,Zo,cE,pr,ay.ab (KU.ab _ kQ) (KU.ab _ ki),ch.of KU,Y⟩ ?_
  ·exact bo
  ·exact bo
  ·refine Cf ⟨?_⟩
   simp[f8]
  ·refine Cf ⟨?_⟩
   rfl
  ·exact bo
  ·exact bo
  rintro m I aP n ⟨u,cJ,x,rfl,aH,t0,t9,js,pv,t5,t4,c3,bP,jO,dI,gE,bb⟩
  refine cS @js @pv ⟨?_⟩
  refine BZ (λAJ=> ?_) (λAJ=> ?_)
  ·have AJ:u<oc.length:=Zo
   have jl:oc.drop u=oc[u]::oc.drop (u+1):=Zr AJ
   rw[jl]at bb
   have dA:=aC.fx u (by simp[f8];exact AJ)
   have agz:aU X aP (.ptr ce (u*1))=some (.str oc[u]):=by
    have:=(aC.ab (R:=aP) λe z=>by subst z;exact gE.ab _ H0 (by simp;exact LO)).cell u [.str oc[u]] 0 (.str oc[u]) (by simp[f8]) rfl
    rwa[ZX]at this
   refine f3 @t9 @pv @dA @agz @t0 ⟨?_⟩
   generalize oc[u]=s at bb agz
   cases aJ:aZ.drop cJ with
   |nil=>rw[aJ]at bb;simp[s7,eL,andThen]at bb
   |cons e k=>
    obtain⟨z,az⟩:=f2 aJ
    rw[aJ]at bb
    simp only[s7,eL]at bb
    cases E4:hq e s with
    |true=>
     rw[E4]at bb
     simp only[ZG,andThen,ok]at bb
     refine(ajJ aw (zz gE.le) dI iy Zo Zo bn z E4).Zm ?_
     rintro ac a6 bz ⟨rfl,g2,ei⟩
     have jm:=ei.le
     have To:W X a6 (j+1)=zD (cg x) 7:=by rw[ei.ab _ Zo Zx];exact bP
     have asJ:W X a6 j=zD (cg hr) 7:=by rw[ei.ab _ Zo Zx];exact jO
     refine er @t5 @To @pv ⟨?_⟩
     have bC:=zE u
     refine cj @bC ⟨?_⟩
     refine⟨_, ?_,u+1,cJ+1,e,rfl,Zo,aW t0,aW t9,aW js,bo,aW t5,aW t4,Zo,bh Zo,by simp(disch:=omega) only[aI];exact asJ,g2.ab (zF) (zF), ?_, ?_⟩
     ·omega
     ·have la:=(gE.trans ei).ab
      exact⟨zz gE.le,λb aj bZ=>by rw[<-la b aj bZ];exact zF⟩
     ·rw[az];exact bb
    |false=>
     rw[E4]at bb
     simp only[Zw,ZB,andThen,bad,Zf]at bb
     subst bb
     refine(ajI aw (zz gE.le) dI iy Zo Zo z E4).Zm ?_
     rintro ac a6 bz ⟨rfl,g2,ei⟩
     have jm:=ei.le
     have To:W X a6 (j+1)=zD (cg x) 7:=by rw[ei.ab _ Zo Zx];exact bP
     refine er @t5 @To @t0 ⟨?_⟩
     refine(sW aw (zz gE.le) (g2.ab (zF) (zF)) Zo Zo z).Zm ?_
     rintro ac bH cC ⟨rfl,cW⟩
     have iu:=cW.le
     refine(KC aw (zz gE.le) e _ ?_).mono (λ_ _ _ a=>a.elim) (λ_ _ _ a=>a)
     intro bN ci dW
     have iP:=dW.le
     have la:=(gE.trans ei).ab
     refine⟨_,rfl,rfl,zz gE.le,λb aj bZ=> ?_⟩
     rw[dW.ab b Zo,cW.ab b Zo, <-la b aj bZ]
     simp(disch:=omega) only[aI]
  ·have xV:u=oc.length:=Zo
   subst xV
   rw[List.drop_length]at bb
   simp only[s7,ok,Zf]at bb
   subst bb
   refine cL ⟨?_⟩
   exact bF _ _ _ ⟨x,cJ,rfl,aW t5,aW t4,c3,bP,jO,dI,gE⟩
 ·rintro I aP n ⟨x,cJ,af,t5,t4,c3,bP,jO,dI,gE⟩
  unfold cg at bP
  unfold cg hr dQ at jO
  refine f3 @t5 @t4 @bP @jO (bG bP) ⟨?_⟩
  refine⟨x,cJ,af,rfl,dI.ab (zF) (zF), ?_⟩
  exact⟨zz gE.le,λb aj bZ=>by rw[<-gE.ab b aj bZ];exact zF⟩
end
structure je(X:ca)(h:S ag)(j aM bU:Nat)(aZ:List Tok)(i:Nat):Prop where
 a8:(o X).a8<=j
 cb:(o X).a8<=aM
 hR:aM<j
 hp:bU<j
 many:aZ.length<=300000
 par:aL X h aM bU aZ i
def je.go{X:ca}{h R:S ag}{j an aM bU i cJ:Nat}{aZ:List Tok}(a:je X h j aM bU aZ i)(ay:aL X R aM bU aZ cJ)(aF:j<=an):je X R an aM bU aZ cJ:=
 ⟨ZD a.a8 aF,a.cb,ZP a.hR aF,ZP a.hp aF,a.many,ay⟩
def dU(F b:Nat):Nat->Prop:=λe=>F<=e/\e<b
def pQ(u F:Int):E:= .iface 26 (.agg [.Z u, .Z F])
def kw(X:ca)(aM bU:Nat)(aZ:List Tok)(h:S ag)(j:Nat)(r:Except Int (bp×List Tok)):bK:=λac R an=>
 ∃D cJ,r= .ok (D,aZ.drop cJ)/\cn X R (dU j an) D ac/\aL X R aM bU aZ cJ/\ch X [aM] h j R an
def ju{α:Type}(X:ca)(aM:Nat)(h:S ag)(j:Nat)(r:Except Int α):bK:=λac R an=>
 ∃F,r= .error F/\ac=pQ 21 F/\ch X [aM] h j R an
def xd(X:ca):Prop:=8<X.a8/\∀h u,u<5->∃b aO,aU X h (.ptr 8 u)=some aO/\dV X h (λe=>e<X.a8) b aO 2 ((av u).map λT=>[.str T.1, .Z T.2])
section
variable{X:ca}{h R aQ aP:S ag}{j an aV aX aM bU:Nat}{aZ:List Tok}{i:Nat}
def ju.of{α eU:Type}{fi:S ag}{aij:Nat}{r:Except Int α}{ik:Except Int eU}{ac:E}(a:ju X aM aQ aV r ac R an)(gE:ch X [aM] fi aij aQ aV)(Y:∀F,r= .error F->ik= .error F):ju X aM fi aij ik ac R an:=by
 obtain⟨F,H,M,al⟩:=a
 exact⟨F,Y F H,M,gE.trans al⟩
def cn.fr{F b:Nat}{D:bp}{v:E}(a:cn X h (dU F b) D v)(gE:ch X [aM] h aV R an)(aj:b<=aV)(ay:aM<F){fB dD:Nat}(H:fB<=F)(M:b<=dD):cn X R (dU fB dD) D v:=
 cn.lift (λe z=>⟨ZD H z.1,ZP z.2 M⟩) _ _ (cn.ab (λe z=>gE.ab e (zz z.2) (by simp;have:=z.1;omega)) _ _ a)
def cn.ex{F b:Nat}{D:bp}{v:E}(a:cn X h (dU F b) D v)(u:∀e,F<=e->e<b->W X R e=W X h e){fB dD:Nat}(H:fB<=F)(M:b<=dD):cn X R (dU fB dD) D v:=
 cn.lift (λe z=>⟨ZD H z.1,ZP z.2 M⟩) _ _ (cn.ab (λe z=>u e z.1 z.2) _ _ a)
def r6{eU:Type}{s:aR}{k:List Tok}{f:Option Tok->List Tok->gy eU}{r:Except Int (eU×List Tok)}(a:iR s k f=some r):∃x bS,k=x::bS/\((hq x s=true/\f (some x) bS=some r)\/(hq x s=false/\f none k=some r)):=by
 unfold iR mP at a
 cases k with
 |nil=>cases a
 |cons x bS=>
  refine⟨x,bS,rfl, ?_⟩
  simp only[]at a
  cases aC:hq x s with
  |true=>rw[aC]at a;exact .inl ⟨rfl,a⟩
  |false=>rw[aC]at a;exact .inr ⟨rfl,a⟩
def gJ{α eU:Type}{x:gy α}{f:α->List Tok->gy eU}{r:Except Int (eU×List Tok)}(a:andThen x f=some r):(∃F,x=some (.error F)/\r= .error F)\/∃F k,x=some (.ok (F,k))/\f F k=some r:=by
 unfold andThen at a
 split at a
 ·cases a
 ·injection a with a;exact .inl ⟨_,rfl,a.symm⟩
 ·exact .inr ⟨_,_,rfl,a⟩
def oM(aw:dk X)(ay:je X h j aM bU aZ i){x:Tok}{k:List Tok}(aJ:aZ.drop i=x::k)(s:aR):
 a2 X 71 [.ptr aM 0, .str s] h j (λac R an=>ac= .tuple [.agg (cg (if hq x s then x else hr)), .bool (hq x s)]/\aL X R aM bU aZ (if hq x s then i+1 else i)/\ch X [aM] h j R an) zL:=by
 obtain⟨H,M⟩:=f2 aJ
 cases aC:hq x s with
 |true=>simp only[ZG];exact ajJ aw ay.a8 ay.par ay.cb ay.hR ay.hp ay.many H aC
 |false=>simp only[Zw,ZB];exact ajI aw ay.a8 ay.par ay.cb ay.hR ay.hp H aC
structure sd(X:ca)(aM bU:Nat)(aZ:List Tok)(n:Nat):Prop where
 level:∀h j i (u:Nat) r,u<=5->je X h j aM bU aZ i->Go.aL.level n u (aZ.drop i)=some r->a2 X 133 [.ptr aM 0, .Z (u:Int)] h j (kw X aM bU aZ h j r) (ju X aM h j r)
 shift:∀h j i r,je X h j aM bU aZ i->Go.aL.shift n (aZ.drop i)=some r->a2 X 140 [.ptr aM 0] h j (kw X aM bU aZ h j r) (ju X aM h j r)
 vq:∀h j i r,je X h j aM bU aZ i->Go.aL.yo n (aZ.drop i)=some r->a2 X 147 [.ptr aM 0] h j (kw X aM bU aZ h j r) (ju X aM h j r)
 part:∀h j i r,je X h j aM bU aZ i->Go.aL.part n (aZ.drop i)=some r->a2 X 153 [.ptr aM 0] h j (kw X aM bU aZ h j r) (ju X aM h j r)
 my:∀h j i r,je X h j aM bU aZ i->Go.aL.my n (aZ.drop i)=some r->a2 X 118 [.ptr aM 0] h j (kw X aM bU aZ h j r) (ju X aM h j r)
 arrow:∀h j i r,je X h j aM bU aZ i->Go.aL.arrow n (aZ.drop i)=some r->a2 X 95 [.ptr aM 0] h j (kw X aM bU aZ h j r) (ju X aM h j r)
 list:∀h j i r,je X h j aM bU aZ i->Go.aL.list n (aZ.drop i)=some r->a2 X 156 [.ptr aM 0] h j (λac R an=>∃b8 cJ bk ce,r= .ok (b8,aZ.drop cJ)/\dV X R (dU j an) ce ac 1 (bk.map λv=>[v])/\de X R (λe=>dU j an e/\e≠ce) b8 bk/\aL X R aM bU aZ cJ/\ch X [aM] h j R an) (ju X aM h j r)
def e0{C:aN}{f:Nat}{y1:List E}{ai ax:bK}{h:S ag}{j:Nat}(P:S ag->Prop)(bs:P h)(a:∀a6,P a6->a2 C f y1 a6 j ai ax):a2 C f y1 h j ai ax:=a h bs
def pt(u:IntKind)(x:Int):E.same 30 (.int u x) (.int u x)=true:=by
 simp only[E.same,A0];cases u<;>simp[mJ]
def aL.ex(a:aL X h aM bU aZ i)(u:br X h j R an)(H:aM<j)(M:bU<j):aL X R aM bU aZ i:=a.ab (u.ab _ H) (u.ab _ M)
def apI(aw:dk X){n:Nat}(ah:∀m,m<n->sd X aM bU aZ m):∀h j i r,je X h j aM bU aZ i->Go.aL.arrow n (aZ.drop i)=some r->a2 X 95 [.ptr aM 0] h j (kw X aM bU aZ h j r) (ju X aM h j r):=by
 intro h j i r ay Y
 cases n with
 |zero=>simp[Go.aL.arrow]at Y
 |succ n=>
 refine zG aw (aoD X) ?_
 rw[aoE]
 unfold abM
 have g0:=ay.a8
 have kQ:=ay.hR
 have iy:=ay.cb
 unfold Go.aL.arrow at Y
 rcases gJ Y with ⟨F,H,rfl⟩|⟨left,en,H,Y⟩
 ·exact((ah n Zo).my h j i _ ay H).mono zN (λac R an a=>a)
 refine((ah n Zo).my h j i _ ay H).mono ?_ zM
 rintro w3 aQ aV ⟨D,hg,bA,bL,eu,iM⟩
 cases bA
 have jy:=iM.le
 have nC:=ay.go eu jy
 obtain⟨x,bS,aJ,af⟩:=r6 Y
 refine(oM aw nC aJ _).Zm ?_
 rintro DA aP aX ⟨rfl,dI,dz⟩
 have fN:=dz.le
 rcases af with ⟨aC,Y⟩|⟨aC,Y⟩
 ·rw[aC]at dI ⊢
  simp only[ZG]at dI ⊢
  rw[<-(f2 aJ).2]at Y
  refine cj cg.eq_1 ⟨?_⟩
  refine e0 (λa6=>br X aP aX a6 (aX+1+9)/\W X a6 aX=zD (cg x) 7) ⟨dH,bh Zo⟩ ?_
  rintro a6 ⟨cp,cI⟩
  rcases gJ Y with ⟨F,M,rfl⟩|⟨right,cZ,M,Y⟩
  ·refine((ah n Zo).arrow a6 _ _ _ (nC.go (dI.ex cp Zo (zz nC.hp)) Zo) M).mono zN (λac R an a=>a.of (iM.trans (dz.trans (ch.of cp))) (λ_ a=>a))
  refine((ah n Zo).arrow a6 _ _ _ (nC.go (dI.ex cp Zo (zz nC.hp)) Zo) M).mono ?_ zM
  rintro v4 bH cC ⟨j5,i4,rD,cW,hE,eH⟩
  cases rD
  have iu:=eH.le
  simp only[ok,Zf]at Y
  subst Y
  have dL:W X bH aX=zD (cg x) 7:=by rw[eH.ab _ Zo Zx];exact cI
  obtain⟨cE,rfl,iA,_⟩:=bL.ptr
  obtain⟨fG,rfl,rK,_⟩:=cW.ptr
  have iA:=iA.1
  refine cS (bG dL) cg.eq_1 ⟨?_⟩
  refine gP (pt _ _) ?_
  refine⟨_,i4,rfl,cn.lit (iH:= .own) (ce:=aX+1+5) (bk:=[.ptr cE 0, .ptr fG 0]) (bh Zo) ⟨Zo,Zo⟩ ?_ ⟨Zo,Zo⟩ rfl Zo Zo (de.two (cn.ab (λe z=> ?_) _ _ bL) (cn.ab (λe z=> ?_) _ _ cW) (λe z=> ?_) (λe z=> ?_)), ?_, ?_⟩
  ·exact zQ
  ·have H:=z.1;have M:=z.2
   simp(disch:=omega) only[aI]
   rw[eH.ab e Zo Zx,cp.ab e Zo,dz.ab e Zo Zx]
  ·have H:=z.1;have M:=z.2
   simp(disch:=omega) only[aI]
  ·simp only[dU]at z ⊢;omega
  ·simp only[dU]at z ⊢;omega
  ·exact hE.ab (zF) (by have:=nC.hp;exact zF)
  ·exact⟨Zo,λb aj bZ=>by
    rw[<-((iM.trans (dz.trans (ch.of cp))).trans eH).ab b aj bZ]
    simp(disch:=omega) only[aI]⟩
 ·rw[aC]at dI ⊢
  simp only[Zw,ZB]at dI ⊢
  simp only[ok,Zf]at Y
  subst Y
  refine cS cg.eq_1 hr.eq_1 ⟨?_⟩
  refine⟨left,hg,rfl,cn.ex bL (λe H M=> ?_) (Zj _) Zo,dI.ab (zF) (by have:=nC.hp;exact zF), ?_⟩
  ·simp(disch:=omega) only[aI]
   exact dz.ab e Zo Zx
  ·exact⟨Zo,λb aj bZ=>by rw[<-(iM.trans dz).ab b aj bZ];exact zF⟩
end
section
variable{X:ca}{h R aQ aP:S ag}{j an aV aX aM bU:Nat}{aZ:List Tok}{i:Nat}
def asd(aw:dk X){n:Nat}(ah:∀m,m<n->sd X aM bU aZ m):∀h j i r,je X h j aM bU aZ i->Go.aL.my n (aZ.drop i)=some r->a2 X 118 [.ptr aM 0] h j (kw X aM bU aZ h j r) (ju X aM h j r):=by
 intro h j i r ay Y
 cases n with
 |zero=>simp[Go.aL.my]at Y
 |succ n=>
 refine zG aw (alp X) ?_
 rw[alq]
 unfold ξ
 have g0:=ay.a8
 have kQ:=ay.hR
 have iy:=ay.cb
 unfold Go.aL.my at Y
 rcases gJ Y with ⟨F,H,rfl⟩|⟨left,en,H,Y⟩
 ·exact((ah n Zo).level h j i 0 _ Zo ay H).mono zN (λac R an a=>a)
 refine((ah n Zo).level h j i 0 _ Zo ay H).mono ?_ zM
 rintro w3 aQ aV ⟨D,hg,bA,bL,eu,iM⟩
 cases bA
 have jy:=iM.le
 have nC:=ay.go eu jy
 obtain⟨x,bS,aJ,af⟩:=r6 Y
 refine(oM aw nC aJ _).Zm ?_
 rintro DA aP aX ⟨rfl,dI,dz⟩
 have fN:=dz.le
 have ki:=nC.hp
 rcases af with ⟨aC,Y⟩|⟨aC,Y⟩
 ·rw[aC]at dI ⊢
  simp only[ZG]at dI ⊢
  rw[<-(f2 aJ).2]at Y
  simp only[]at Y
  obtain⟨cE,aO,ce,bk,rfl,iA,wE,bR,cm,cX,d4,dN,dc,f0,gG,hP,Fc⟩:=bL.open
  have iA:=iA
  obtain⟨aGG,aGH⟩:=iA
  have dx:aU X aP (.ptr cE 0)=some (.Z left.kind):=by rw[dz.e6 _ _ Zo Zx];exact wE
  have Hl:aU X aP (.ptr cE 8)=some aO:=by rw[dz.e6 _ _ Zo Zx];exact gG
  have co:vk left=some true->∀(I:c1) (a6:S ag) (bz:Nat),I.g 4=some (.ptr aX 0)->I.g 3=some (.ptr cE 0)->I.g 0=some (.ptr aM 0)->br X aP aX a6 bz->aX<bz->W X a6 aX=zD (cg x) 7->
   e7 (bz+9) λazU=>cH (I.g 4) λaD0=>ar (hW 2 aD0) λaj7=>ar (aU X a6 aj7) λaj8=>cH (I.g 3) λaD1=>cH (I.g 0) λaD2=>a2 X 118 [aD2] a6 azU (λaED aoQ azV=>ar (hI 2 [.cN, .cN] [(0,1,aD1),(1,1,aED)] (bz+5)) λai2=>mK X aoQ (bz+5) ai2.1 ai2.2 λaEE aoR=>ar (fv [.Z 0,.Z 0,.str [],.zF,.zF,.zF,.Z 0,.int .u64 0, .aY] [(0,1,(.Z 21)),(1,1,aj8),(8,1,aEE)]) λaEF=>y4 X aoR (bz+7) aEF λaEG abV=>ar (aU X abV aj7) λaEH=>gO aEH (some aj8) (kw X aM bU aZ h j r aEG abV azV)) (ju X aM h j r):=by
   intro UR I a6 bz t4 t3 t0 cp c3 cI
   rw[UR]at Y
   simp only[]at Y
   refine f3 @t4 @t3 @t0 (bG cI) cg.eq_1 ⟨?_⟩
   rcases gJ Y with ⟨F,M,rfl⟩|⟨right,cZ,M,Y⟩
   ·refine((ah n Zo).my a6 _ _ _ (nC.go (dI.ex cp Zo Zo) Zo) M).mono zN (λac R an a=>a.of (iM.trans (dz.trans (ch.of (cp.more Zo)))) (λ_ a=>a))
   refine((ah n Zo).my a6 _ _ _ (nC.go (dI.ex cp Zo Zo) Zo) M).mono ?_ zM
   rintro v4 bH cC ⟨j5,i4,rD,cW,hE,eH⟩
   cases rD
   have iu:=eH.le
   simp only[ok,Zf]at Y
   subst Y
   have dL:W X bH aX=zD (cg x) 7:=by rw[eH.ab _ Zo Zx];exact cI
   obtain⟨fG,rfl,rK,_⟩:=cW.ptr
   refine cS (bG dL) cg.eq_1 ⟨?_⟩
   refine gP (pt _ _) ?_
   refine⟨_,i4,rfl,cn.lit (iH:= .own) (ce:=bz+5) (bk:=[.ptr cE 0, .ptr fG 0]) (bh Zo) ⟨Zo,Zo⟩ ?_ ⟨Zo,Zo⟩ rfl Zo Zo (de.two (cn.ab (λe z=> ?_) _ _ bL) (cn.ab (λe z=> ?_) _ _ cW) (λe z=> ?_) (λe z=> ?_)), ?_, ?_⟩
   ·exact zQ
   ·have H:=z.1;have M:=z.2
    simp(disch:=omega) only[aI]
    rw[eH.ab e Zo Zx,cp.ab e Zo,dz.ab e Zo Zx]
   ·have H:=z.1;have M:=z.2
    simp(disch:=omega) only[aI]
   ·simp only[dU]at z ⊢;omega
   ·simp only[dU]at z ⊢;omega
   ·exact hE.ab (zF) (zF)
   ·exact⟨Zo,λb aj bZ=>by
     rw[<-((iM.trans (dz.trans (ch.of (cp.more (by omega:bz<=bz+9))))).trans eH).ab b aj bZ]
     simp(disch:=omega) only[aI]⟩
  have adK:vk left=some false->∀(a6:S ag) (bz:Nat) (ai:bK),br X aP aX a6 bz->a2 X 93 [.agg (cg x)] a6 bz ai (ju X aM h j r):=by
   intro UR a6 bz ai cp
   rw[UR]at Y
   simp only[bad,Zf]at Y
   subst Y
   refine(KC aw (zz cp.le) x _ ?_).mono (λ_ _ _ a=>a.elim) (λ_ _ _ a=>a)
   intro R an bY
   exact⟨_,rfl,rfl,iM.trans (dz.trans (ch.of (cp.trans bY)))⟩
  by_cases jx:left.kind=1
  ·have c2:decide (left.kind≠1)=false:=by simp[jx]
   refine hl cg.eq_1 @dx @c2 ⟨?_⟩
   refine g3 ?_
   refine hl cg.eq_1 @dx @c2 ⟨?_⟩
   refine g3 ?_
   refine vO ?_
   exact co (by simp[vk,jx]) _ _ _ (bo) (bo) (bo) dH Zo (bh Zo)
  ·have c2:decide (left.kind≠1)=true:=by simp[jx]
   by_cases gz:left.kind=4
   ·have jh:decide (left.kind≠4)=false:=by simp[gz]
    cases u1:left.args with
    |nil=>
     simp[vk,gz,u1]at Y
    |cons F y1=>
     obtain⟨v,bD,TS⟩:=Fc.get 0 F (by rw[u1];rfl)
     obtain⟨hc,nB,sZ⟩:=hP.one bD
     have hc:gd 1 aO (.Z 0)=some (.ptr ce 0):=hc
     obtain⟨s0,rfl,Vk,lV⟩:=TS.ptr
     obtain⟨aGI,aGJ⟩:=Vk
     obtain⟨aHn,aHo⟩:=sZ
     have NM:aU X aP (.ptr ce 0)=some (.ptr s0 0):=by rw[dz.e6 _ _ Zo Zx];exact nB
     have B0:aU X aP (.ptr s0 0)=some (.Z F.kind):=by rw[dz.e6 _ _ Zo Zx];exact lV
     by_cases aE:F.kind=1
     ·have gt:decide (F.kind≠1)=false:=by simp[aE]
      refine hl cg.eq_1 @dx (Za @c2 (Za @jh (Za @Hl (Za @hc (Za @NM (Za @B0 @gt)))))) ⟨?_⟩
      refine g3 ?_
      refine hl cg.eq_1 @dx (Za @c2 (Za @jh (Za @Hl (Za @hc (Za @NM (Za @B0 @gt)))))) ⟨?_⟩
      refine g3 ?_
      refine vO ?_
      exact co (by simp[vk,gz,u1,aE]) _ _ _ (bo) (bo) (bo) dH Zo (bh Zo)
     ·have gt:decide (F.kind≠1)=true:=by simp[aE]
      refine hl cg.eq_1 @dx (Za @c2 (Za @jh (Za @Hl (Za @hc (Za @NM (Za @B0 @gt)))))) ⟨?_⟩
      refine g3 ?_
      refine hl cg.eq_1 @dx (Za @c2 (Za @jh (Za @Hl (Za @hc (Za @NM (Za @B0 @gt)))))) ⟨?_⟩
      refine g3 ?_
      refine xp ?_
      refine cj cg.eq_1 ⟨?_⟩
      exact adK (by simp[vk,gz,u1,aE]) _ _ _ dH
   ·have jh:decide (left.kind≠4)=true:=by simp[gz]
    refine hl cg.eq_1 @dx (Za @c2 @jh) ⟨?_⟩
    refine g3 ?_
    refine hl cg.eq_1 @dx (Za @c2 @jh) ⟨?_⟩
    refine g3 ?_
    refine xp ?_
    refine cj cg.eq_1 ⟨?_⟩
    exact adK (by simp[vk,jx,gz]) _ _ _ dH
 ·rw[aC]at dI ⊢
  simp only[Zw,ZB]at dI ⊢
  simp only[ok,Zf]at Y
  subst Y
  refine cS cg.eq_1 hr.eq_1 ⟨?_⟩
  refine⟨left,hg,rfl,cn.ex bL (λe H M=> ?_) (Zj _) Zo,dI.ab (zF) (zF), ?_⟩
  ·simp(disch:=omega) only[aI]
   exact dz.ab e Zo Zx
  ·exact⟨Zo,λb aj bZ=>by rw[<-(iM.trans dz).ab b aj bZ];exact zF⟩
end
section
variable{X:ca}{h R aQ aP:S ag}{j an aV aX aM bU:Nat}{aZ:List Tok}{i:Nat}
def akJ(X:ca)(aM bU:Nat)(aZ:List Tok)(h:S ag)(j:Nat)(r:Option bp×List Tok):bK:=λac R an=>∃cJ,r.2=aZ.drop cJ/\aL X R aM bU aZ cJ/\ch X [aM] h j R an/\
 match r.1 with
 |none=>ac= .tuple [.cN, .zF]
 |some D=>∃b u F,D= .mk u F [] false dQ 0 []/\ac= .tuple [.ptr b 0, .zT]/\j<=b/\b<an/\W X R b=zD (hv u F [] false dQ 0 .aY) 9
def ap0(aw:dk X)(dZ:xd X){u:Nat}(aH:u<5)(ay:je X h j aM bU aZ i){r:Option bp×List Tok}(Y:pL (av u) (aZ.drop i)=some r):
 a2 X 141 [.ptr aM 0, .Z (u:Int)] h j (akJ X aM bU aZ h j r) zL:=by
 refine zG aw (al9 X) ?_
 rw[ama]
 unfold aal
 have g0:=ay.a8
 have kQ:=ay.hR
 have iy:=ay.cb
 have ki:=ay.hp
 obtain⟨aua,dZ⟩:=dZ
 obtain⟨b,aO,hP,cG⟩:=dZ h u aH
 have dA:ya 5 1 (.ptr 8 0) (.Z (u:Int))=some (.ptr 8 u):=by
  simp[ya,rT,Nb,fw,aH]
 have eM:=cG.len
 rw[Zi]at eM
 have wv:=cG.many
 rw[Zi]at wv
 refine hl @dA @hP @eM ⟨?_⟩
 refine g3 ?_
 refine fE (λm I R n=>∃V,m=(av u).length-V/\V<=(av u).length/\I.g 0=some (.ptr aM 0)/\I.g 12=some aO/\I.g 13=some (.Z ((av u).length:Int))/\I.g 14=some (.Z (V:Int))/\aL X R aM bU aZ i/\ch X [aM] h j R n/\pL ((av u).drop V) (aZ.drop i)=some r)
  (av u).length ⟨0,Zo,Zo,bo,bo,bo,fY,ay.par,ch.refl _ _ _,Y⟩ ?_
 rintro m I aP n ⟨V,rfl,bF,t0,k1,mf,mO,dI,gE,aj⟩
 have gl:=gE.le
 have f7:=ay.go dI gl
 refine KH @mf @mO ⟨?_⟩
 refine g3 ?_
 refine BZ (λc3=> ?_) (λc3=> ?_)
 ·have c3:V<(av u).length:=Zo
  have jl:(av u).drop V=(av u)[V]::(av u).drop (V+1):=Zr c3
  rw[jl]at aj
  have afE:=cG.fx V (by simpa using c3)
  have fD:=((dZ aP u aH).choose_spec)
  obtain⟨cl,Bq,t7,LJ⟩:=dZ aP u aH
  have Vs:Bq=aO:=by
   have D:aU X aP (.ptr 8 u)=aU X h (.ptr 8 u):=by
    rw[cw,cw]
    have:∀h:S ag,W X h 8=X.G.get 8:=λh=>by
     have auz:Nat.blt 8 (o X).a8=true:=by simp[Nat.blt];exact aua
     simp only[W,auz,fo];rfl
    rw[this,this]
   rw[D,hP]at t7
   exact(Yf t7).symm
  subst Vs
  have afE:=LJ.fx V (by simpa using c3)
  have fD:=λa6 (a:∀e,e<X.a8->W X a6 e=W X aP e)=>(LJ.ab (R:=a6) a).row Zd (i:=V) (r:=[.str (av u)[V].1, .Z (av u)[V].2]) (by rw[Zy,Ze c3];rfl)
  have fD:=fD aP (λ_ _=>rfl)
  generalize (av u)[V]=T at aj fD jl
  obtain⟨s,fd⟩:=T
  simp only[pL]at aj
  refine f3 @k1 @mO @afE @fD @t0 ⟨?_⟩
  refine e0 (λa6=>br X aP n a6 (n+1)/\W X a6 n=zD [.str s, .Z fd] 2) ⟨dH,bh Zo⟩ ?_
  rintro a6 ⟨cp,cI⟩
  cases aJ:aZ.drop i with
  |nil=>rw[aJ]at aj;simp[mP]at aj
  |cons x k=>
   rw[aJ]at aj
   refine(oM aw (f7.go (dI.ex cp Zo Zo) Zo) aJ s).Zm ?_
   rintro ac bH cC ⟨rfl,hE,eH⟩
   have iu:=eH.le
   have dL:W X bH n=zD [.str s, .Z fd] 2:=by rw[eH.ab _ Zo Zx];exact cI
   have sz:=gE.trans ((ch.of cp).trans eH)
   cases aC:hq x s with
   |true=>
    rw[aC]at hE
    simp only[mP,aC,ZG]at aj hE ⊢
    simp only[Zf]at aj
    subst aj
    refine cS cg.eq_1 (bG dL) ⟨?_⟩
    refine⟨i+1,(f2 aJ).2.symm,hE.ab (zF) (zF), ?_,cC+1,fd,x.at_,rfl,rfl,Zo,Zo, ?_⟩
    ·exact⟨Zo,λb aj bZ=>by rw[<-sz.ab b aj bZ];exact zF⟩
    ·exact zQ
   |false=>
    rw[aC]at hE
    simp only[mP,aC,Zw,ZB]at aj hE ⊢
    have bC:=zE V
    refine gk cg.eq_1 hr.eq_1 @mO @bC ⟨?_⟩
    refine⟨_, ?_,V+1,rfl,Zo,aW t0,aW k1,aW mf,bo,hE.ab (zF) (zF), ?_,aj⟩
    ·omega
    ·exact⟨Zo,λb aj bZ=>by rw[<-sz.ab b aj bZ];exact zF⟩
 ·have bF:V=(av u).length:=Zo
  subst bF
  rw[List.drop_length]at aj
  simp only[pL,Zf]at aj
  subst aj
  refine cL ⟨?_⟩
  exact⟨i,rfl,dI,gE,rfl⟩
end
section
variable{X:ca}{h R aQ aP:S ag}{j an aV aX aM bU:Nat}{aZ:List Tok}{i:Nat}
def ay7(aw:dk X)(dZ:xd X){n:Nat}(ah:∀m,m<n->sd X aM bU aZ m):∀h j i (u:Nat) r,u<=5->je X h j aM bU aZ i->Go.aL.level n u (aZ.drop i)=some r->a2 X 133 [.ptr aM 0, .Z (u:Int)] h j (kw X aM bU aZ h j r) (ju X aM h j r):=by
 intro h j i u r aH ay Y
 cases n with
 |zero=>simp[Go.aL.level]at Y
 |succ n=>
 refine zG aw (alT X) ?_
 rw[alU]
 unfold aad
 have g0:=ay.a8
 have kQ:=ay.hR
 have iy:=ay.cb
 have ki:=ay.hp
 unfold Go.aL.level at Y
 by_cases nq:u=5
 ·subst nq
  rw[Zp rfl]at Y
  have c2:decide (((5:Nat):Int)=5)=true:=rfl
  refine cj @c2 ⟨?_⟩
  exact(ah n Zo).shift h j i r ay Y
 ·rw[Zg nq]at Y
  have c2:decide ((u:Int)=5)=false:=by simp;omega
  have bC:=zE u
  refine cS @c2 @bC ⟨?_⟩
  rcases gJ Y with ⟨F,H,rfl⟩|⟨left,en,H,Y⟩
  ·exact((ah n Zo).level h j i (u+1) _ Zo ay H).mono zN (λac R an a=>a)
  refine((ah n Zo).level h j i (u+1) _ Zo ay H).mono ?_ zM
  rintro w3 aQ aV ⟨D,hg,bA,bL,eu,iM⟩
  cases bA
  have jy:=iM.le
  refine g3 ?_
  refine fE (λm I R aS=>∃left v cJ,m<=n/\I.g 0=some (.ptr aM 0)/\I.g 1=some (.Z (u:Int))/\I.g 5=some v/\cn X R (dU j aS) left v/\aL X R aM bU aZ cJ/\ch X [aM] h j R aS/\qe m u left (aZ.drop cJ)=some r)
   n ⟨left,w3,hg,Zj _,bo,bo,bo,bL,eu,iM,Y⟩ ?_
  clear bL eu iM H Y
  rintro m I aP aX ⟨left,v,gq,bn,t0,t1,t5,bI,dI,dz,Y⟩
  cases m with
  |zero=>simp[qe]at Y
  |succ m=>
  unfold qe at Y
  have fN:=dz.le
  have f7:=ay.go dI fN
  refine g3 ?_
  refine cS @t0 @t1 ⟨?_⟩
  cases aj:pL (av u) (aZ.drop gq)with
  |none=>rw[aj]at Y;cases Y
  |some MH=>
  rw[aj]at Y
  refine(ap0 aw dZ Zo f7 aj).Zm ?_
  rintro w4 a6 bz ⟨i3,u5,g2,ei,bc⟩
  have jm:=ei.le
  obtain⟨ro,aHv⟩:=MH
  simp only[]at u5
  subst u5
  cases ro with
  |none=>
   simp only[]at bc Y
   subst bc
   simp only[ok,Zf]at Y
   subst Y
   refine cj @t5 ⟨?_⟩
   exact⟨left,i3,rfl,cn.fr bI ei Zo Zo (Zj _) Zo,g2,dz.trans ei⟩
  |some D=>
   simp only[]at bc Y
   obtain⟨b,fd,F,rfl,rfl,nX,kC,cI⟩:=bc
   refine gk @t0 @t1 @t5 @bC ⟨?_⟩
   rcases gJ Y with ⟨fB,aB,rfl⟩|⟨right,hn,aB,Y⟩
   ·refine((ah m Zo).level a6 bz i3 (u+1) _ Zo (f7.go g2 jm) aB).mono zN (λac R an a=>a.of (dz.trans ei) (λ_ a=>a))
   refine((ah m Zo).level a6 bz i3 (u+1) _ Zo (f7.go g2 jm) aB).mono ?_ zM
   rintro v4 bH cC ⟨j5,i4,rD,cW,hE,eH⟩
   cases rD
   have iu:=eH.le
   have dL:W X bH b=zD (hv fd F [] false dQ 0 .aY) 9:=by rw[eH.ab _ Zo Zx];exact cI
   obtain⟨cA,rfl,n1,_⟩:=bI.ptr
   obtain⟨fG,rfl,rK,_⟩:=cW.ptr
   refine er @t5 @dL @t1 ⟨?_⟩
   have fin:∀gV,gV=bm X (bm X bH cC (zD [.ptr cA 0, .ptr fG 0] 2)) b (zD (hv fd F [] false dQ 0 (.slice cC 0 2 2)) 9)->cn X gV (dU j (cC+1)) (two (.mk fd F [] false dQ 0 []) left right) (.ptr b 0)/\aL X gV aM bU aZ i4/\ch X [aM] h j gV (cC+1):=by
    rintro gV rfl
    refine⟨cn.lit (iH:= .own) (ce:=cC) (bk:=[.ptr cA 0, .ptr fG 0]) (bh Zo) ⟨Zo,Zo⟩ ?_ ⟨Zo,Zo⟩ rfl Zo Zo (de.two (cn.ab (λe z=> ?_) _ _ bI) (cn.ab (λe z=> ?_) _ _ cW) (λe z=> ?_) (λe z=> ?_)), ?_, ?_⟩
    ·simp(disch:=omega) only[aI,bh]
    ·have H:=z.1;have M:=z.2
     simp(disch:=omega) only[aI]
     rw[eH.ab e Zo Zx,ei.ab e Zo Zx]
    ·have H:=z.1;have M:=z.2
     simp(disch:=omega) only[aI]
    ·simp only[dU]at z ⊢;omega
    ·simp only[dU]at z ⊢;omega
    ·exact hE.ab (zF) (zF)
    ·exact⟨Zo,λe z bZ=>by
      rw[<-((dz.trans ei).trans eH).ab e z bZ]
      simp(disch:=omega) only[aI]⟩
   obtain⟨eO,fp,kO⟩:=fin (bm X (bm X bH cC (zD [.ptr cA 0, .ptr fG 0] 2)) b (some (.cells (d7 (S.ofList (hv fd F [] false dQ 0 .aY) 0 .nil) 8 (E.slice cC 0 2 2).cells) 9 .own))) rfl
   refine BZ (λM=> ?_) (λM=> ?_)
   ·have hD:u=2:=Zo
    rw[Zp hD]at Y
    simp only[ok,Zf]at Y
    subst Y
    exact⟨_,i4,rfl,eO,fp,kO⟩
   ·rw[Zg Zo]at Y
    exact⟨m,Zo,_, .ptr b 0,i4,Zo,aW t0,aW t1,bo,eO,fp,kO,Y⟩
end
section
variable{X:ca}{h R aQ aP:S ag}{j an aV aX aM bU:Nat}{aZ:List Tok}{i:Nat}
def aC1(aw:dk X){n:Nat}(ah:∀m,m<n->sd X aM bU aZ m):∀h j i r,je X h j aM bU aZ i->Go.aL.shift n (aZ.drop i)=some r->a2 X 140 [.ptr aM 0] h j (kw X aM bU aZ h j r) (ju X aM h j r):=by
 intro h j i r ay Y
 cases n with
 |zero=>simp[Go.aL.shift]at Y
 |succ n=>
 refine zG aw (al7 X) ?_
 rw[al8]
 unfold aak
 have g0:=ay.a8
 have kQ:=ay.hR
 have iy:=ay.cb
 have ki:=ay.hp
 unfold Go.aL.shift at Y
 rcases gJ Y with ⟨F,H,rfl⟩|⟨left,en,H,Y⟩
 ·exact((ah n Zo).vq h j i _ ay H).mono zN (λac R an a=>a)
 refine((ah n Zo).vq h j i _ ay H).mono ?_ zM
 rintro w3 aQ aV ⟨D,hg,bA,bL,eu,iM⟩
 cases bA
 have jy:=iM.le
 refine g3 ?_
 refine fE (λm I R aS=>∃left v cJ,I.g 0=some (.ptr aM 0)/\I.g 3=some v/\cn X R (dU j aS) left v/\aL X R aM bU aZ cJ/\ch X [aM] h j R aS/\qn m left (aZ.drop cJ)=some r)
  n ⟨left,w3,hg,bo,bo,bL,eu,iM,Y⟩ ?_
 clear bL eu iM H Y jy
 rintro m I aP aX ⟨left,v,gq,t0,t3,bI,dI,dz,Y⟩
 cases m with
 |zero=>simp[qn]at Y
 |succ m=>
 unfold qn at Y
 have fN:=dz.le
 have f7:=ay.go dI fN
 refine g3 ?_
 obtain⟨cA,rfl,n1,_⟩:=bI.ptr
 have n1:=n1.2
 refine cj @t0 ⟨?_⟩
 obtain⟨x,bS,aJ,af⟩:=r6 Y
 refine(oM aw f7 aJ _).Zm ?_
 rintro w4 a6 bz ⟨rfl,g2,ei⟩
 have jm:=ei.le
 have qP:=aJ
 refine rt cg.eq_1 ⟨?_⟩
 refine ko (λda R aS=>∃L3 fd x cJ d5,da.g 0=some (.ptr aM 0)/\da.g 3=some (.ptr cA 0)/\da.g 4=some (.Z fd)/\da.g 5=some (.ptr d5 0)/\da.g 6=some (.bool L3)/\W X R d5=zD (cg x) 7/\aX<=d5/\d5<aS/\cn X R (dU j aX) left (.ptr cA 0)/\aL X R aM bU aZ cJ/\ch X [aM] h j R aS/\aX<=aS/\
  (L3=true->qo m fd x left (aZ.drop cJ)=some r)/\(L3=false->r= .ok (left,aZ.drop cJ))) (λV bF=> ?_) ?_
 ·have cI:∀h,W X (bm X (bm X h bz (zD (cg hr) 7)) bz (some (.cells (d7 (S.ofList (cg hr) 0 .nil) 0 (cg x)) 7 .own))) bz=zD (cg x) 7:=λh=>bh Zo
  rcases af with ⟨aC,Y⟩|⟨aC,Y⟩
  ·rw[aC]at g2 ⊢
   simp only[ZG]at g2 ⊢
   refine cL ⟨?_⟩
   refine bF _ _ _ ⟨true,19,x,gq+1,bz,aW t0,aW t3,bo,bo,bo,bh Zo,Zo,Zo, ?_,g2.ab (zF) (zF), ?_,Zo,λ_=>by rw[(f2 qP).2];exact Y,λa=>by cases a⟩
   ·refine cn.ex bI (λe H M=> ?_) (Zj _) (Zj _)
    simp(disch:=omega) only[aI]
    exact ei.ab e Zo Zx
   ·exact⟨Zo,λe z bZ=>by rw[<-(dz.trans ei).ab e z bZ];exact zF⟩
  ·rw[aC]at g2 ⊢
   simp only[Zw,ZB]at g2 ⊢
   simp only[]at Y
   refine cj @t0 ⟨?_⟩
   refine e0 (λbH=>br X a6 bz bH (bz+1)/\W X bH bz=zD (cg hr) 7) ⟨dH,bh Zo⟩ ?_
   rintro bH ⟨cW,dL⟩
   have lD:=f7.go (g2.ex cW Zo Zo) (by omega:aX<=bz+1)
   obtain⟨e,gM,pW,axv⟩:=r6 Y
   refine(oM aw lD pW _).Zm ?_
   rintro vx bN ci ⟨rfl,hF,dM⟩
   have iP:=dM.le
   have fg:W X bN bz=zD (cg hr) 7:=by rw[dM.ab _ Zo Zx];exact dL
   have ej:∀e,e<aX->e≠aM->W X bN e=W X aP e:=λe H M=>by
    rw[dM.ab e Zo (by simpa using M),cW.ab e Zo,ei.ab e Zo (by simpa using M)]
   have eD:=((dz.trans ei).trans (ch.of cW)).trans dM
   unfold cg hr dQ at fg
   rcases axv with ⟨E3,Y⟩|⟨E3,Y⟩
   ·rw[E3]at hF ⊢
    simp only[ZG]at hF ⊢
    refine cS cg.eq_1 @fg ⟨?_⟩
    refine bF _ _ _ ⟨true,20,e,gq+1,bz,aW t0,aW t3,bo,bo,bo,bh Zo,Zo,Zo, ?_,hF.ab (zF) (zF), ?_,Zo,λ_=>by rw[(f2 pW).2];exact Y,λa=>by cases a⟩
    ·refine cn.ex bI (λe H M=> ?_) (Zj _) (Zj _)
     simp(disch:=omega) only[aI]
     exact ej e M Zo
    ·exact⟨Zo,λe z bZ=>by rw[<-eD.ab e z bZ];exact zF⟩
   ·rw[E3]at hF ⊢
    simp only[Zw,ZB]at hF ⊢
    simp only[ok,Zf]at Y
    refine gk cg.eq_1 hr.eq_1 dQ.eq_1 @fg ⟨?_⟩
    refine bF _ _ _ ⟨false,20,hr,gq,bz,aW t0,aW t3,bo,bo,bo,bh Zo,Zo,Zo, ?_,hF.ab (zF) (zF), ?_,Zo,λa=>(by cases a),λ_=>Y.symm⟩
    ·refine cn.ex bI (λe H M=> ?_) (Zj _) (Zj _)
     simp(disch:=omega) only[aI]
     exact ej e M Zo
    ·exact⟨Zo,λe z bZ=>by rw[<-eD.ab e z bZ];exact zF⟩
 ·clear bI g2 ei af Y aJ qP dI f7
  rintro aFr b6 dr ⟨L3,fd,x,iC,d5,t0,t3,t4,t5,eY,d1,aGy,aGz,ec,h2,eD,oB,z,jQ⟩
  cases L3 with
  |false=>
   have Y:=jQ rfl
   subst Y
   refine cS @eY @t3 ⟨?_⟩
   exact⟨left,iC,rfl,cn.lift (λe z=>⟨z.1,zz z.2⟩) _ _ ec,h2,eD⟩
  |true=>
   have Y:=z rfl
   cases m with
   |zero=>simp[qo]at Y
   |succ m=>
   unfold qo at Y
   have m7:=ay.go h2 (by omega:j<=dr)
   refine cS @eY @t0 ⟨?_⟩
   cases aJ:aZ.drop iC with
   |nil=>rw[aJ]at Y;simp[jq,andThen]at Y
   |cons e k=>
   rw[aJ]at Y
   simp only[jq]at Y
   refine(Dg aw m7.a8 m7.par m7.cb m7.hR m7.hp m7.many (f2 aJ).1 4).mono ?_ ?_
   ·rintro aj3 cy dX ⟨aH,rfl,ii,et⟩
    have nr:=et.le
    rw[Zp aH]at Y
    simp only[andThen,ok]at Y
    have ew:W X cy d5=zD (cg x) 7:=by rw[et.ab _ Zo Zx];exact d1
    have eC:=cn.ex (R:=cy) ec (λe H M=>et.ab e Zo Zx) (Zj _) (Zj _)
    have sz:=eD.trans et
    refine rt cg.eq_1 ⟨?_⟩
    refine g3 ?_
    refine BZ (λUf=> ?_) (λUf=> ?_)
    ·rw[Zp Uf]at Y
     simp only[bad,Zf]at Y
     subst Y
     refine cj cg.eq_1 ⟨?_⟩
     refine(KC aw Zo e _ ?_).mono (λ_ _ _ a=>a.elim) (λ_ _ _ a=>a)
     intro R an bY
     exact⟨_,rfl,rfl,sz.trans (ch.of (br.trans dH bY))⟩
    ·rw[Zg Uf]at Y
     refine f3 cg.eq_1 @t4 @t5 @t3 (bG ew) ⟨?_⟩
     refine⟨m,Zo,_, .ptr (dX+1+1) 0,iC+1,aW t0,bo,cn.lit (u:=1) (cap:=1) (n:=e.n) (kind:=fd) (at_:=x.at_) (name:=[]) (no:=false) (ty:=dQ) (b:=dX+1+1) (iH:= .own) (ce:=dX+1) (bk:=[.ptr cA 0]) (bh (b:=dX+1+1) Zo) ⟨Zo,Zo⟩ ?_ ⟨Zo,Zo⟩ rfl Zo Zo (de.one (cn.ab (λe z=> ?_) _ _ eC) (λe z=> ?_)), ?_, ?_,by rw[(f2 aJ).2];exact Y⟩
     ·exact zQ
     ·have H:=z.1;have M:=z.2
      simp(disch:=omega) only[aI]
     ·simp only[dU]at z ⊢;omega
     ·exact ii.ab (zF) (zF)
     ·exact⟨Zo,λe z bZ=>by
       rw[<-sz.ab e z bZ]
       simp(disch:=omega) only[aI]⟩
   ·rintro aj3 cy dX ⟨aH,rfl,et⟩
    rw[Zg aH]at Y
    simp only[andThen,bad,Zf]at Y
    subst Y
    exact⟨_,rfl,rfl,eD.trans et⟩
end
section
variable{X:ca}{h R aQ aP:S ag}{j an aV aX aM bU:Nat}{aZ:List Tok}{i:Nat}
def ax2{n bd V:Nat}{cs:List E}(u:IntKind)(a:V<n):rQ true n bd (.agg cs) (.int u (V:Int))=some (.agg ((cs.drop (V*bd)).take bd)):=by
 simp[rQ,rT,fw,a]
def WN:List E:=[.str [110,111,116], .Z 3, .str [45], .Z 4, .str [112,114,101], .Z 5]
def aBy{V:Nat}(a:V<3):∃s u,Bg.drop V=(s,u)::Bg.drop (V+1)/\(WN.drop (V*2)).take 2=[.str s, .Z u]:=by
 match V,a with
 |0,_=>exact⟨_,_,rfl,rfl⟩
 |1,_=>exact⟨_,_,rfl,rfl⟩
 |2,_=>exact⟨_,_,rfl,rfl⟩
def aBG(aw:dk X){n:Nat}(ah:∀m,m<n->sd X aM bU aZ m):∀h j i r,je X h j aM bU aZ i->Go.aL.yo n (aZ.drop i)=some r->a2 X 147 [.ptr aM 0] h j (kw X aM bU aZ h j r) (ju X aM h j r):=by
 intro h j i r ay Y
 cases n with
 |zero=>simp[Go.aL.yo]at Y
 |succ n=>
 refine zG aw (amf X) ?_
 rw[amg]
 unfold aao
 have g0:=ay.a8
 have kQ:=ay.hR
 have iy:=ay.cb
 have ki:=ay.hp
 unfold Go.aL.yo at Y
 cases aj:pL Bg (aZ.drop i)with
 |none=>rw[aj]at Y;cases Y
 |some MH=>
 rw[aj]at Y
 refine uU ⟨?_⟩
 refine ko (λI R aS=>I.g 0=some (.ptr aM 0)/\aL X R aM bU aZ i/\ch X [aM] h j R aS/\MH=(none,aZ.drop i)) (λV bF=> ?_) ?_
 ·refine fE (λm I R aS=>∃V,m=3-V/\V<=3/\I.g 0=some (.ptr aM 0)/\I.g 15=some (.agg WN)/\I.g 16=some (.Z (V:Int))/\aL X R aM bU aZ i/\ch X [aM] h j R aS/\pL (Bg.drop V) (aZ.drop i)=some MH)
   3 ⟨0,rfl,Zo,bo,fY,fY,ay.par,ch.refl _ _ _,aj⟩ ?_
  rintro m I aP aX ⟨V,rfl,Pa,t0,wW,Br,dI,dz,aj⟩
  have fN:=dz.le
  have f7:=ay.go dI fN
  refine rt @Br ⟨?_⟩
  refine g3 ?_
  refine BZ (λc3=> ?_) (λc3=> ?_)
  ·have c3:V<3:=Zo
   obtain⟨s,fd,jl,fD⟩:=aBy c3
   rw[jl]at aj
   simp only[pL]at aj
   have afC:=ax2 (n:=3) (bd:=2) (cs:=WN) .i64 c3
   rw[fD]at afC
   refine gk @wW @Br @afC @t0 ⟨?_⟩
   refine e0 (λa6=>br X aP aX a6 (aX+1)/\W X a6 aX=zD [.str s, .Z fd] 2) ⟨dH,bh Zo⟩ ?_
   rintro a6 ⟨cp,cI⟩
   cases aJ:aZ.drop i with
   |nil=>rw[aJ]at aj;simp[mP]at aj
   |cons x k=>
   rw[aJ]at aj
   refine(oM aw (f7.go (dI.ex cp Zo Zo) Zo) aJ s).Zm ?_
   rintro ac bH cC ⟨rfl,hE,eH⟩
   have iu:=eH.le
   have dL:W X bH aX=zD [.str s, .Z fd] 2:=by rw[eH.ab _ Zo Zx];exact cI
   have sz:=dz.trans ((ch.of cp).trans eH)
   cases aC:hq x s with
   |true=>
    rw[aC]at hE
    simp only[mP,aC,ZG]at aj hE ⊢
    simp only[Zf]at aj
    subst aj
    simp only[]at Y
    refine er cg.eq_1 (bG dL) @t0 ⟨?_⟩
    refine e0 (λbN=>br X bH cC bN (cC+1+10)/\W X bN cC=zD (cg x) 7) ⟨dH,bh Zo⟩ ?_
    rintro bN ⟨dW,fg⟩
    have pq:=f7.go (hE.ex dW Zo Zo) (by omega:aX<=cC+1+10)
    have dM:=sz.trans (ch.of dW)
    rw[<-(f2 aJ).2]at Y
    rcases gJ Y with ⟨F,b1,rfl⟩|⟨Ku,ny,b1,Y⟩
    ·exact((ah n Zo).vq bN _ _ _ pq b1).mono zN (λac R an a=>a.of dM (λ_ a=>a))
    refine((ah n Zo).vq bN _ _ _ pq b1).mono ?_ zM
    rintro Bu b6 dr ⟨aFE,iC,Ut,ec,h2,eD⟩
    cases Ut
    have oB:=eD.le
    simp only[ok,Zf]at Y
    subst Y
    obtain⟨Dq,rfl,LD,_⟩:=ec.ptr
    have d1:W X b6 cC=zD (cg x) 7:=by rw[eD.ab _ Zo Zx];exact fg
    have ad6:W X b6 aX=zD [.str s, .Z fd] 2:=by rw[eD.ab _ Zo Zx,dW.ab _ Zo];exact dL
    refine er (bG d1) (bG ad6) cg.eq_1 ⟨?_⟩
    refine gP (pt _ _) ?_
    refine er (bG d1) (bG ad6) cg.eq_1 ⟨?_⟩
    refine gP (pt _ _) ?_
    refine⟨_,iC,rfl,cn.lit (u:=1) (cap:=1) (n:=0) (kind:=fd) (at_:=x.at_) (name:=[]) (no:=false) (ty:=dQ) (b:=cC+1+8) (iH:= .own) (ce:=cC+1+6) (bk:=[.ptr Dq 0]) (bh (b:=cC+1+8) Zo) ⟨Zo,Zo⟩ ?_ ⟨Zo,Zo⟩ rfl Zo Zo (de.one (cn.ab (λe z=> ?_) _ _ ec) (λe z=> ?_)), ?_, ?_⟩
    ·exact zQ
    ·have H:=z.1;have M:=z.2
     simp(disch:=omega) only[aI]
    ·simp only[dU]at z ⊢;omega
    ·exact h2.ab (zF) (zF)
    ·exact⟨Zo,λe z bZ=>by
      rw[<-(dM.trans eD).ab e z bZ]
      simp(disch:=omega) only[aI]⟩
   |false=>
    rw[aC]at hE
    simp only[mP,aC,Zw,ZB]at aj hE ⊢
    have bC:=zE V
    refine gk cg.eq_1 hr.eq_1 @Br @bC ⟨?_⟩
    refine⟨_, ?_,V+1,rfl,Zo,aW t0,aW wW,bo,hE.ab (zF) (zF), ?_,aj⟩
    ·omega
    ·exact⟨Zo,λb aj bZ=>by rw[<-sz.ab b aj bZ];exact zF⟩
  ·have bF:V=3:=Zo
   subst bF
   simp only[Bg,Yu,Yg,pL,Zf]at aj
   refine cL ⟨?_⟩
   exact bF _ _ _ ⟨aW t0,dI,dz,aj.symm⟩
 ·clear aj
  rintro oY fi a8 ⟨t0,agf,OF,rfl⟩
  simp only[]at Y
  have Ls:=OF.le
  have WQ:=ay.go agf Ls
  refine cj @t0 ⟨?_⟩
  rcases gJ Y with ⟨F,H,rfl⟩|⟨left,en,H,Y⟩
  ·exact((ah n Zo).part fi a8 i _ WQ H).mono zN (λac R an a=>a.of OF (λ_ a=>a))
  refine((ah n Zo).part fi a8 i _ WQ H).mono ?_ zM
  rintro w3 aQ aV ⟨D,hg,bA,bL,eu,iM⟩
  cases bA
  have jy:=iM.le
  refine g3 ?_
  refine fE (λm I R aS=>∃left v cJ,I.g 0=some (.ptr aM 0)/\I.g 7=some v/\cn X R (dU j aS) left v/\aL X R aM bU aZ cJ/\ch X [aM] h j R aS/\oe m left (aZ.drop cJ)=some r)
   n ⟨left,w3,hg,aW t0,bo,cn.lift (λe z=>⟨zz z.1,z.2⟩) _ _ bL,eu,OF.trans iM,Y⟩ ?_
  clear bL eu iM H Y jy t0 agf OF Ls WQ
  rintro m I aP aX ⟨left,v,gq,t0,e9,bI,dI,dz,Y⟩
  cases m with
  |zero=>simp[oe]at Y
  |succ m=>
  unfold oe at Y
  have fN:=dz.le
  have f7:=ay.go dI fN
  refine g3 ?_
  obtain⟨cA,rfl,n1,_⟩:=bI.ptr
  have n1:=n1.2
  refine cj @t0 ⟨?_⟩
  obtain⟨x,bS,aJ,af⟩:=r6 Y
  refine(oM aw f7 aJ _).Zm ?_
  rintro w4 a6 bz ⟨rfl,g2,ei⟩
  have jm:=ei.le
  have aeQ:=dz.trans ei
  have cp:=cn.ex (R:=a6) bI (λe H M=>ei.ab e Zo Zx) (Zj _) (Zj _)
  rcases af with ⟨aC,Y⟩|⟨aC,Y⟩
  ·rw[aC]at g2 ⊢
   simp only[ZG]at g2 ⊢
   rw[<-(f2 aJ).2]at Y
   simp only[]at Y
   refine cS cg.eq_1 @t0 ⟨?_⟩
   refine e0 (λbN=>br X a6 bz bN (bz+1)/\W X bN bz=zD (cg x) 7) ⟨dH,bh Zo⟩ ?_
   rintro bN ⟨dW,fg⟩
   have pq:=f7.go (g2.ex dW Zo Zo) (by omega:aX<=bz+1)
   obtain⟨e,ny,Lf,LW⟩:=r6 Y
   refine(oM aw pq Lf _).Zm ?_
   rintro aj2 b6 dr ⟨rfl,h2,eD⟩
   have oB:=eD.le
   have d1:W X b6 bz=zD (cg x) 7:=by rw[eD.ab _ Zo Zx];exact fg
   have wa:=(aeQ.trans (ch.of dW)).trans eD
   have ec:=cn.ex (R:=b6) cp (λe H M=>by rw[eD.ab e Zo Zx,dW.ab e Zo]) (Zj _) (Zj _)
   have oD:andThen (jq 1 (aZ.drop (if hq e [110,111,116]then gq+1+1 else gq+1))) (λc k=>oe m (.mk 6 x.at_ c.text (hq e [110,111,116]) dQ 0 [left]) k)=some r:=by
    rcases LW with ⟨LN,oD⟩|⟨LN,oD⟩
    ·simp only[LN,ZG];rw[(f2 Lf).2];exact oD
    ·simp only[LN,Zw,ZB];exact oD
   clear Y LW
   generalize (if hq e [110,111,116]then gq+1+1 else gq+1)=iC at oD h2
   generalize (if hq e [110,111,116]then e else hr)=XT
   generalize hq e [110,111,116]=no at oD
   refine gk cg.eq_1 (bG d1) @t0 @e9 ⟨?_⟩
   refine e0 (λcy=>br X b6 dr cy (dr+1+11)/\W X cy (dr+1+7)=zD [.ptr cA 0] 1) ⟨dH,bh Zo⟩ ?_
   rintro cy ⟨eC,ew⟩
   have n7:=f7.go (h2.ex eC Zo Zo) (by omega:aX<=dr+1+11)
   cases tP:aZ.drop iC with
   |nil=>rw[tP]at oD;simp[jq,andThen]at oD
   |cons c m3=>
   rw[tP]at oD
   simp only[jq]at oD
   refine(Dg aw n7.a8 n7.par n7.cb n7.hR n7.hp n7.many (f2 tP).1 1).mono ?_ ?_
   ·rintro u8 dt iv ⟨aH,rfl,xY,gZ⟩
    have CA:=gZ.le
    rw[Zp aH]at oD
    simp only[andThen,ok]at oD
    have gu:W X dt bz=zD (cg x) 7:=by rw[gZ.ab _ Zo Zx,eC.ab _ Zo];exact d1
    have asV:W X dt (dr+1+7)=zD [.ptr cA 0] 1:=by rw[gZ.ab _ Zo Zx];exact ew
    refine cS cg.eq_1 (bG gu) ⟨?_⟩
    refine gP (pt _ _) ?_
    refine⟨m,Zo,_, .ptr (dr+1+9) 0,iC+1,aW t0,bo,cn.lit (u:=1) (cap:=1) (n:=0) (kind:=6) (at_:=x.at_) (name:=c.text) (no:=no) (ty:=dQ) (b:=dr+1+9) (iH:= .own) (ce:=dr+1+7) (bk:=[.ptr cA 0]) (bh (b:=dr+1+9) Zo) ⟨Zo,Zo⟩ ?_ ⟨Zo,Zo⟩ rfl Zo Zo (de.one (cn.ab (λe z=> ?_) _ _ ec) (λe z=> ?_)), ?_, ?_,by rw[(f2 tP).2];exact oD⟩
    ·simp(disch:=omega) only[aI];exact asV
    ·have H:=z.1;have M:=z.2
     simp(disch:=omega) only[aI]
     rw[gZ.ab e Zo Zx,eC.ab e Zo]
    ·simp only[dU]at z ⊢;omega
    ·exact xY.ab (zF) (zF)
    ·exact⟨Zo,λe z bZ=>by
      rw[<-((wa.trans (ch.of eC)).trans gZ).ab e z bZ]
      simp(disch:=omega) only[aI]⟩
   ·rintro u8 dt iv ⟨aH,rfl,gZ⟩
    rw[Zg aH]at oD
    simp only[andThen,bad,Zf]at oD
    subst oD
    exact⟨_,rfl,rfl,(wa.trans (ch.of eC)).trans gZ⟩
  ·rw[aC]at g2 ⊢
   simp only[Zw,ZB]at g2 ⊢
   simp only[ok,Zf]at Y
   subst Y
   refine er cg.eq_1 hr.eq_1 @e9 ⟨?_⟩
   refine⟨left,gq,rfl,cn.ex cp (λe H M=> ?_) (Zj _) Zo,g2.ab (zF) (zF), ?_⟩
   ·simp(disch:=omega) only[aI]
   ·exact⟨Zo,λb aj bZ=>by rw[<-aeQ.ab b aj bZ];exact zF⟩
end
end
end Go.Proofs.YtpeabpmnlmaabaaGreatDoor

