/- Part of the proof of the last text; no conditions -/
import Derived.Test.YtbbkkkpgjaopkaaGreatDoorYj
set_option maxHeartbeats 8000000
set_option linter.all false
namespace Go.bs
noncomputable section
open Go.RowKit (Below)
def gQ(I:dc)(t:M y):Prop:=∀n v,I.g n=some v->t.get n=some v
section
variable{C:aT}{h:M ak}{j:Nat}{aq:List (Nat×y)}{I:dc}{t:M y}
def n5(a:gQ I t){x:kk}{ah:y->Prop}(ay:jx x aq I ah):∃E,k9 x aq t=some E/\ah E:=by
 cases x with
 |v Y=>exact sE.1 ay
 |t n=>
  obtain⟨E,H,K⟩:=sE.1 (show cg (I n) ah from ay)
  exact⟨E,a n E H,K⟩
 |c E=>exact⟨E,rfl,ay⟩
def akY(a:gQ I t):∀{k:List kk}{ah:List y->Prop},Ll aq I k ah->∃ca,Ae aq t k=some ca/\ah ca:=by
 intro k
 induction k with
 |nil=>intro ah ay;exact⟨[],rfl,ay⟩
 |cons x k aj=>
  intro ah ay
  obtain⟨E,H,K⟩:=n5 a (show jx x aq I (λE=>Ll aq I k λr=>ah (E::r)) from ay)
  obtain⟨r,am,aC⟩:=aj K
  exact⟨E::r,by simp[Ae,H,am],aC⟩
def hk(a:gQ I t){bV:List (Nat×Nat)}{W:Operand}{ah:y->Prop}(ay:eB bV aq I W ah):∃E,jb bV aq t W=some E/\ah E:=by
 cases W with
 |tmp n=>
  simp only[eB]at ay
  simp only[jb]
  cases bD:ed bV n with
  |some Y=>simp only[bD]at ay ⊢;exact sE.1 ay
  |none=>
   simp only[bD]at ay ⊢
   obtain⟨E,H,K⟩:=sE.1 ay
   exact⟨E,a n E H,K⟩
 |const v=>exact sE.1 ay
 |global g=>exact⟨_,rfl,ay⟩
 |func f=>exact⟨_,rfl,ay⟩
def D3(a:gQ I t){bV:List (Nat×Nat)}:∀{k:List Operand}{ah:List y->Prop},sD bV aq I k ah->∃ca,pG (jb bV aq t) k=some ca/\ah ca:=by
 intro k
 induction k with
 |nil=>intro ah ay;exact⟨[],rfl,ay⟩
 |cons x k aj=>
  intro ah ay
  obtain⟨E,H,K⟩:=hk a (show eB bV aq I x (λE=>sD bV aq I k λr=>ah (E::r)) from ay)
  obtain⟨r,am,aC⟩:=aj K
  exact⟨E::r,by simp[pG,H,am],aC⟩
def SS(a:gQ I t){bV:List (Nat×Nat)}:∀{k:List (Nat×Operand)}{ah:List (Nat×y)->Prop},BB bV aq I k ah->∃ca,xl (jb bV aq t) k=some ca/\ah ca:=by
 intro k
 induction k with
 |nil=>intro ah ay;exact⟨[],rfl,ay⟩
 |cons x k aj=>
  intro ah ay
  obtain⟨i,W⟩:=x
  obtain⟨E,H,K⟩:=hk a (show eB bV aq I W (λE=>BB bV aq I k λr=>ah ((i,E)::r)) from ay)
  obtain⟨r,am,aC⟩:=aj K
  exact⟨(i,E)::r,by simp[xl,H,am],aC⟩
def SN(a:gQ I t){bV:List (Nat×Nat)}{W:Option Operand}{ah:Option y->Prop}(ay:Nl bV aq I W ah):∃E,Bz (jb bV aq t) W=some E/\ah E:=by
 cases W with
 |none=>exact⟨none,rfl,ay⟩
 |some x=>
  obtain⟨E,H,K⟩:=hk a (show eB bV aq I x (λE=>ah (some E)) from ay)
  exact⟨some E,by simp[Bz,H],K⟩
def arA(a:gQ I t){bV:List (Nat×Nat)}{W:Op}{ah:y->Prop}(ay:aci bV W C h aq I ah):∃v,nZ W C h (jb bV aq t)=some v/\ah v:=by
 cases W with
 |build ty parts=>
  obtain⟨da,H,K⟩:=SS a (show BB bV aq I parts.toList _ from ay)
  obtain⟨v,am,aC⟩:=(kV.1 K)
  exact⟨v,by simp[nZ,Sg,H,am],aC⟩
 |binOp op ty x e GP=>
  obtain⟨E,H,K⟩:=hk a (show eB bV aq I x _ from ay)
  obtain⟨b,am,aC⟩:=hk a K
  obtain⟨v,bm,b1⟩:=(kV.1 aC)
  exact⟨v,by simp[nZ,MO,H,am,bm],b1⟩
 |unOp op ty x=>
  obtain⟨E,H,K⟩:=hk a (show eB bV aq I x _ from ay)
  obtain⟨v,am,aC⟩:=(kV.1 K)
  exact⟨v,by simp[nZ,So,H,am],aC⟩
 |convert s d x=>
  obtain⟨E,H,K⟩:=hk a (show eB bV aq I x _ from ay)
  obtain⟨v,am,aC⟩:=(kV.1 K)
  exact⟨v,by simpa[nZ,Je,WK,kD,H]using am,aC⟩
 |makeInterface ty x=>
  obtain⟨E,H,K⟩:=hk a (show eB bV aq I x _ from ay)
  obtain⟨v,am,aC⟩:=(kV.1 K)
  exact⟨v,by simpa[nZ,Jg,abF,kD,H]using am,aC⟩
 |makeFunc fn first fy=>
  cases fn with
  |func f=>
   obtain⟨E,H,K⟩:=D3 a (show sD bV aq I first.toList _ from ay)
   obtain⟨b,am,aC⟩:=D3 a K
   exact⟨_,by simp[nZ,Sk,H,am],aC⟩
  |_=>exact ay.elim
 |slice ty x bR aF g3=>
  obtain⟨E,H,K⟩:=hk a (show eB bV aq I x _ from ay)
  obtain⟨k,am,aC⟩:=SN a K
  obtain⟨b,bm,b1⟩:=SN a aC
  obtain⟨m,df,ev⟩:=SN a b1
  obtain⟨v,hN,nA⟩:=(kV.1 ev)
  exact⟨v,by simp[nZ,Sn,H,am,bm,df,hN],nA⟩
 |field ty x f=>
  obtain⟨E,H,K⟩:=hk a (show eB bV aq I x _ from ay)
  obtain⟨v,am,aC⟩:=(kV.1 K)
  exact⟨v,by simpa[nZ,Jf,Xj,kD,H]using am,aC⟩
 |index ty x i=>
  obtain⟨E,H,K⟩:=hk a (show eB bV aq I x _ from ay)
  obtain⟨b,am,aC⟩:=hk a K
  obtain⟨v,bm,b1⟩:=(kV.1 aC)
  exact⟨v,by simp[nZ,Sl,H,am,bm],b1⟩
 |lookup ty m q ok=>
  obtain⟨E,H,K⟩:=hk a (show eB bV aq I m _ from ay)
  obtain⟨b,am,aC⟩:=hk a K
  obtain⟨v,bm,b1⟩:=(kV.1 aC)
  exact⟨v,by simp[nZ,Sm,H,am,bm],b1⟩
 |typeAssert x ty uf ok=>
  obtain⟨E,H,K⟩:=hk a (show eB bV aq I x _ from ay)
  obtain⟨v,am,aC⟩:=(kV.1 K)
  exact⟨v,by simpa[nZ,Jd,Wg,kD,H]using am,aC⟩
 |entry ew=>
  obtain⟨E,H,K⟩:=hk a (show eB bV aq I ew _ from ay)
  obtain⟨v,am,aC⟩:=(kV.1 K)
  exact⟨v,by simpa[nZ,Sj,W8,kD,H]using am,aC⟩
 |call c=>
  obtain⟨callee,args,cX⟩:=c
  cases callee with
  |builtin b=>
   obtain⟨bx,H,K⟩:=D3 a (show sD bV aq I args.toList _ from ay)
   obtain⟨v,am,aC⟩:=(kV.1 K)
   refine⟨v, ?_,aC⟩
   have D:nZ (.call ⟨.builtin b,args,cX⟩) C h (jb bV aq t)=r1 C h b cX.toList bx:=by
    simp only[nZ,Si,Sh,H,r1]
    repeat' split
    all_goals first|rfl|simp_all
   rw[D];exact am
  |_=>exact ay.elim
 |_=>exact ay.elim
def MS(a:gQ I t){op:jM}{ah:y->Prop}(ay:F7 op C h aq I ah):∃v,gM op C h aq t=some v/\ah v:=by
 cases op with
 |DP x=>exact n5 a ay
 |pick c E b=>
  obtain⟨xe,H,K⟩:=n5 a (show jx c aq I _ from ay)
  obtain⟨NV,rfl,am,aC⟩:=Ww K.out
  cases NV with
  |true=>
   obtain⟨v,bm,b1⟩:=n5 a (am rfl)
   exact⟨v,by simp[gM,H,N9,bm],b1⟩
  |false=>
   obtain⟨v,bm,b1⟩:=n5 a (aC rfl)
   exact⟨v,by simp[gM,H,N9,bm],b1⟩
 |fm E=>
  obtain⟨gd,H,K⟩:=n5 a (show jx E aq I _ from ay)
  obtain⟨v,am,aC⟩:=(kV.1 K)
  exact⟨v,by simp[gM,H,am],aC⟩
 |wg n E=>
  obtain⟨gd,H,K⟩:=n5 a (show jx E aq I _ from ay)
  obtain⟨v,am,aC⟩:=(kV.1 K)
  exact⟨v,by simp[gM,H,am],aC⟩
 |off d x=>
  obtain⟨gd,H,K⟩:=n5 a (show jx x aq I _ from ay)
  obtain⟨v,am,aC⟩:=(kV.1 K)
  exact⟨v,by simp[gM,H,am],aC⟩
 |AY n aN x i=>
  obtain⟨gd,H,K⟩:=n5 a (show jx x aq I _ from ay)
  obtain⟨cx,am,aC⟩:=n5 a K
  obtain⟨v,bm,b1⟩:=(kV.1 aC)
  exact⟨v,by simp only[gM,H,am];unfold tA at bm;cases aF:ng cx<;>simp_all,b1⟩
 |AZ aN x i=>
  obtain⟨gd,H,K⟩:=n5 a (show jx x aq I _ from ay)
  obtain⟨cx,am,aC⟩:=n5 a K
  obtain⟨v,bm,b1⟩:=(kV.1 aC)
  exact⟨v,by simp only[gM,H,am];unfold iV at bm;cases aF:ng cx<;>simp_all,b1⟩
 |DW x=>
  obtain⟨gd,H,K⟩:=n5 a (show jx x aq I _ from ay)
  obtain⟨v,am,aC⟩:=(kV.1 K)
  exact⟨v,by simp[gM,H,am],aC⟩
 |I4 op x e=>
  obtain⟨gd,H,K⟩:=n5 a (show jx x aq I _ from ay)
  obtain⟨cx,am,aC⟩:=n5 a K
  obtain⟨v,bm,b1⟩:=(kV.1 aC)
  exact⟨v,by simp[gM,H,am,bm],b1⟩
 |ext i x=>
  obtain⟨gd,H,K⟩:=n5 a (show jx x aq I _ from ay)
  obtain⟨v,am,aC⟩:=(kV.1 K)
  exact⟨v,by simp[gM,H,am],aC⟩
 |h2 bV W=>exact arA a ay
 |_=>exact ay.elim
def arY(a:gQ I t){op:jM}{b:Nat}{ah:bQ}(ay:acx op C h b aq I ah):∃v cK,n6 op C b aq t=some (v,cK)/\ah v (bl C h b (some cK)) (b+1):=by
 cases op with
 |make bV W=>
  cases W with
  |alloc ty=>
   obtain⟨⟨v,cK⟩,H,K⟩:=kV.1 (show av (DM C ty (kD undef) b) _ from ay)
   exact⟨v,cK,H,K.out⟩
  |box ty x=>
   obtain⟨E,H,K⟩:=hk a (show eB bV aq I x _ from ay)
   exact⟨_,_,by simp only[n6,qc,Jn,H],K.out⟩
  |buildSlice ty len parts=>
   obtain⟨da,H,K⟩:=SS a (show BB bV aq I parts.toList _ from ay)
   obtain⟨⟨v,cK⟩,am,aC⟩:=(kV.1 K)
   refine⟨v,cK, ?_,aC.out⟩
   simp only[n6,qc,Jo,H]
   unfold NL at am
   split at am
   ·rename_i a6
    simp only[a6]
    exact am
   ·cases am
  |makeMap ty r=>
   cases r with
   |none=>exact⟨_,_,rfl,(show gN C h b _ _ ah from ay).out⟩
   |some r=>exact ay.elim
  |_=>exact ay.elim
 |_=>exact ay.elim
def arW(a:gQ I t){op:jM}{b:Nat}{ah:y->M ak->Prop}(ay:SB op C h b aq I ah):∃v cK,n6 op C b aq t=some (v,cK)/\ah v (bl C h b (some cK)):=by
 cases op with
 |make bV W=>
  cases W with
  |alloc ty=>
   obtain⟨⟨v,cK⟩,H,K⟩:=kV.1 (show av (DM C ty (kD undef) b) _ from ay)
   exact⟨v,cK,H,K.out⟩
  |box ty x=>
   obtain⟨E,H,K⟩:=hk a (show eB bV aq I x _ from ay)
   exact⟨_,_,by simp only[n6,qc,Jn,H],K.out⟩
  |buildSlice ty len parts=>
   obtain⟨da,H,K⟩:=SS a (show BB bV aq I parts.toList _ from ay)
   obtain⟨⟨v,cK⟩,am,aC⟩:=(kV.1 K)
   refine⟨v,cK, ?_,aC.out⟩
   simp only[n6,qc,Jo,H]
   unfold NL at am
   split at am
   ·rename_i a6
    simp only[a6]
    exact am
   ·cases am
  |makeMap ty r=>
   cases r with
   |none=>exact⟨_,_,rfl,(show lD C h b _ _ ah from ay).out⟩
   |some r=>exact ay.elim
  |_=>exact ay.elim
 |_=>exact ay.elim
def WB{rd:Bool}{f:Nat}{ca:List y}{ah ax:bQ}(a:a1 C f ca h j ah ax):∃r,rY C f ca=some r/\Ct C rd (some r) h j ah ax:=by
 rcases a.out with ⟨ab,H,K⟩|⟨H,⟨fn,c,K,am⟩,aC⟩
 ·exact⟨.known f ca ab,by simp[rY,H],K⟩
 ·exact⟨.enter f ca,by simp[rY,H,K,am],aC⟩
def yl{rd:Bool}{W:Option dZ}{ah ax:bQ}(a:hu W h j ah):∃r,W=some r/\Ct C rd (some r) h j ah ax:=by
 rw[adR]at a
 split at a
 ·exact⟨_,rfl,a⟩
 ·exact⟨_,rfl,a⟩
 ·exact a.elim
def alr{rd:Bool}{W:Option dZ}{ah ax:bQ}(a:E6 W h j ah):∃r,W=some r/\Ct C rd (some r) h j ah ax:=by
 rw[als]at a
 split at a
 ·exact⟨_,rfl,a⟩
 ·exact⟨_,rfl,a⟩
 ·exact⟨_,rfl,a⟩
 ·exact a.elim
def aad(a:gQ I t){rd:Bool}{op:jM}{ah ax:bQ}(ay:Q2 rd op C h j aq I ah ax):∃r,hz op C h j aq t=some r/\Ct C rd (some r) h j ah ax:=by
 cases op with
 |st n E v=>
  obtain⟨gd,H,K⟩:=n5 a (show jx E aq I _ from ay)
  obtain⟨gj,am,aC⟩:=n5 a K
  obtain⟨R,bm,b1⟩:=(kV.1 aC)
  refine⟨.fq undef R j, ?_,b1⟩
  simp only[hz,H,am]
  unfold es at bm
  split at bm
  ·simp only[eF]at bm
   simp[NO,bm.2,eQ,bm.1]
  ·cases bm
 |call f args=>
  obtain⟨ca,H,K⟩:=akY a (show Ll aq I args _ from ay)
  cases AE:FZ C f with
  |true=>
   rw[AE]at K
   obtain⟨ab,am,aC⟩:=(show SC C h ca j ah from K).out
   exact⟨.known f ca ab,by simp[hz,H,AE,am],aC⟩
  |false=>
   rw[AE]at K
   obtain⟨r,am,aC⟩:=WB (rd:=rd) (show a1 C f ca h j ah ax from K)
   exact⟨r,by simp[hz,H,am,AE],aC⟩
 |e9 bV W=>
  cases W with
  |mapUpdate ty m q x=>
   obtain⟨E,H,K⟩:=hk a (show eB bV aq I m _ from ay)
   obtain⟨b,am,aC⟩:=hk a K
   obtain⟨c,bm,b1⟩:=hk a aC
   obtain⟨r,df,ev⟩:=yl (C:=C) (ax:=ax) (rd:=rd) b1
   exact⟨r,by simp[hz,nv,Fm,H,am,bm,df],ev⟩
  |insert ty m q x=>
   obtain⟨E,H,K⟩:=hk a (show eB bV aq I m _ from ay)
   obtain⟨b,am,aC⟩:=hk a K
   obtain⟨c,bm,b1⟩:=hk a aC
   obtain⟨r,df,ev⟩:=yl (C:=C) (ax:=ax) (rd:=rd) b1
   exact⟨r,by simp[hz,nv,Fm,H,am,bm,df],ev⟩
  |mapEntry ty m q=>
   obtain⟨E,H,K⟩:=hk a (show eB bV aq I m _ from ay)
   obtain⟨b,am,aC⟩:=hk a K
   obtain⟨r,df,ev⟩:=yl (C:=C) (ax:=ax) (rd:=rd) aC
   exact⟨r,by simpa[hz,nv,Ia,two,Go.bs.kC,Go.bs.gO,H,am]using df,ev⟩
  |entryStore ty m s x=>
   obtain⟨E,H,K⟩:=hk a (show eB bV aq I m _ from ay)
   obtain⟨b,am,aC⟩:=hk a K
   obtain⟨c,bm,b1⟩:=hk a aC
   obtain⟨r,df,ev⟩:=yl (C:=C) (ax:=ax) (rd:=rd) b1
   exact⟨r,by simpa[hz,nv,H2,aep,Go.bs.kC,Go.bs.gO,Go.bs.kf,H,am,bm]using df,ev⟩
  |makeSlice ty k c=>
   obtain⟨E,H,K⟩:=hk a (show eB bV aq I k _ from ay)
   obtain⟨b,am,aC⟩:=hk a K
   obtain⟨r,df,ev⟩:=yl (C:=C) (ax:=ax) (rd:=rd) aC
   exact⟨r,by simpa[hz,nv,H9,two,Go.bs.kC,Go.bs.gO,H,am]using df,ev⟩
  |makeMap ty gq=>
   cases gq with
   |none=>exact ay.elim
   |some x=>
    obtain⟨E,H,K⟩:=hk a (show eB bV aq I x _ from ay)
    obtain⟨r,df,ev⟩:=yl (C:=C) (ax:=ax) (rd:=rd) K
    exact⟨r,by simpa[hz,nv,H8,kD,H]using df,ev⟩
  |convert s d x=>
   obtain⟨E,H,K⟩:=hk a (show eB bV aq I x _ from ay)
   obtain⟨r,df,ev⟩:=yl (C:=C) (ax:=ax) (rd:=rd) K
   exact⟨r,by simpa[hz,nv,Ic,kD,H]using df,ev⟩
  |range ty x=>
   obtain⟨E,H,K⟩:=hk a (show eB bV aq I x _ from ay)
   obtain⟨r,df,ev⟩:=yl (C:=C) (ax:=ax) (rd:=rd) K
   exact⟨r,by simpa[hz,nv,Ib,kD,H]using df,ev⟩
  |next ew x0=>
   obtain⟨E,H,K⟩:=hk a (show eB bV aq I ew _ from ay)
   obtain⟨r,df,ev⟩:=alr (C:=C) (ax:=ax) (rd:=rd) K
   exact⟨r,by simpa[hz,nv,vQ,kD,H]using df,ev⟩
  |panic x=>
   cases rd with
   |true=>exact(show False from ay).elim
   |false=>
    obtain⟨E,H,K⟩:=hk a (show eB bV aq I x _ from ay)
    rw[atd]at K
    split at K
    ·rename_i ow awb
     exact⟨.panic (.iface ow awb),by simp[hz,nv,QF,H],K⟩
    ·exact K.elim
  |call c=>
   obtain⟨callee,args,cX⟩:=c
   cases callee with
   |value f=>
    obtain⟨lU,H,K⟩:=hk a (show eB bV aq I f _ from ay)
    obtain⟨ca,am,aC⟩:=D3 a K
    have aC:=aC.out
    split at aC
    ·split at aC
     ·obtain⟨r,bm,b1⟩:=WB (rd:=rd) aC
      exact⟨r,by simp[hz,nv,CS,H,am,yU];simpa using bm,b1⟩
     ·exact⟨.round _ _,by simp only[hz,nv,CS,H,am,yU],aC⟩
     ·exact aC.elim
    ·exact aC.elim
   |builtin b=>
    obtain⟨bx,H,K⟩:=D3 a (show sD bV aq I args.toList _ from ay)
    obtain⟨r,df,ev⟩:=yl (C:=C) (ax:=ax) (rd:=rd) K
    refine⟨r, ?_,ev⟩
    have D:∀r,Fq C h j b cX.toList bx=some r->hz (.e9 bV (.call ⟨.builtin b,args,cX⟩)) C h j aq t=some r:=by
     intro r V
     simp only[hz,nv,CS,HX,H]
     unfold Fq at V
     split at V
     all_goals first|exact V|cases V
    exact D r df
   |invoke x name=>
    obtain⟨jZ,H,K⟩:=hk a (show eB bV aq I x _ from ay)
    obtain⟨ca,am,aC⟩:=D3 a K
    rw[ar9]at aC
    split at aC
    ·cases bc:EF C h _ _ name ca with
     |none=>rw[bc]at aC;exact aC.elim
     |some r=>rw[bc]at aC;exact⟨r,by simp[hz,nv,CS,H,am,bc],aC⟩
    ·exact aC.elim
  |_=>exact ay.elim
 |_=>exact ay.elim
def amq{lH:Bool}{v:y}{E b:Prop}(a:iR lH v E b):∃w,(match v with| .bool b=>some (b==lH)|_=>some false)=some w/\(w=true->E)/\(w=false->b):=by
 have a:=a.out
 cases v with
 |bool t=>
  obtain⟨H,K⟩:=a
  refine⟨t==lH,rfl,λD=>H (by simpa using D),λD=>K ?_⟩
  cases t<;>cases lH<;>simp_all
 |_=>exact⟨false,rfl,Zs,λ_=>a⟩
def N2{g:Option (Nat×Bool)}{E b:Prop}(a:N1 g aq E b):∃w,oy g aq=some w/\(w=true->E)/\(w=false->b):=by
 cases g with
 |none=>exact⟨true,rfl,λ_=>a,Zs⟩
 |some p=>
  obtain⟨Y,lH⟩:=p
  obtain⟨v,H,K⟩:=sE.1 (show cg (ed aq Y) _ from a)
  obtain⟨w,am,aC⟩:=amq K
  exact⟨w,by simp only[oy,H];exact am,aC⟩
def ad3(a:gQ I t)(d:Nat)(v:y):gQ (ae I d v) (t.set d (some v)):=by
 intro n ab a6
 have a6:=(show bH (Nat.beq d n) (some v) (I.g n)=some ab from a6)
 rw[hn]at a6
 rw[M.j7]
 split at a6
 ·rename_i D;rw[Zu D];exact a6
 ·rename_i D;rw[Zg D];exact a n ab a6
def Xm:∀{k:List (Nat×Nat)}{I:dc}{t:M y}{ah:dc->Prop},gQ I t->HO k aq I ah->∃cP ga,xn aq k t=some ga/\gQ cP ga/\(cP.bb=I.bb/\cP.rc=I.rc)/\ah cP:=by
 intro k
 induction k with
 |nil=>intro I t ah a ay;exact⟨I,t,rfl,a,⟨rfl,rfl⟩,ay⟩
 |cons p k aj=>
  intro I t ah a ay
  obtain⟨i,d⟩:=p
  obtain⟨v,H,K⟩:=sE.1 (show cg (ed aq i) (λv=>HO k aq (ae I d v) ah) from ay)
  obtain⟨cP,ga,am,aC,bm⟩:=aj (ad3 a d v) K
  exact⟨cP,ga,by simp[xn,H,am],aC,bm⟩
def auY{op:jM}{bV:List (Nat×Nat)}{f:Operand}{args:List Operand}(a:Ef op= .defer bV f args):∃c:Array Operand×Array TypeId,args=c.1.toList/\op= .e9 bV (.defer ⟨.value f,c.1,c.2⟩):=by
 unfold Ef at a
 split at a
 ·split at a
  ·split at a
   ·injection a with H K am
    subst H K am
    exact⟨(_,_),rfl,rfl⟩
   ·cases a
  ·split at a
   ·split at a<;>cases a
   ·cases a
  ·cases a
 ·cases a
def auZ{op:jM}(a:Ef op= .recover):∃bV cX args,op= .e9 bV (.call ⟨.builtin .recover,args,cX⟩)/\args.toList=[]:=by
 unfold Ef at a
 split at a
 ·split at a
  ·split at a<;>cases a
  ·split at a
   ·split at a
    ·rename_i aD
     exact⟨_,_,_,rfl,aD⟩
    ·cases a
   ·cases a
  ·cases a
 ·cases a
def at4(a:gQ I t):∀{k:List ResultVar}{ah:List y->Prop},qI C h I k ah->∃bx,ww C h t k=some bx/\ah bx:=by
 intro k
 induction k with
 |nil=>intro ah ay;exact⟨[],rfl,ay⟩
 |cons x k aj=>
  intro ah ay
  cases x with
  |tmp n=>
   obtain⟨v,H,K⟩:=sE.1 (show cg (I n) (λv=>qI C h I k λr=>ah (v::r)) from ay)
   obtain⟨r,am,aC⟩:=aj K
   exact⟨v::r,by simp[ww,a n v H,am],aC⟩
  |cell E ty=>
   obtain⟨p,H,K⟩:=sE.1 (show cg (I E) (λp=>av (pB C h ty p) λv=>qI C h I k λr=>ah (v::r)) from ay)
   obtain⟨v,am,aC⟩:=(kV.1 K)
   obtain⟨r,bm,b1⟩:=aj aC
   exact⟨v::r,by simp[ww,a E p H,am,bm],b1⟩
def arC(a:gQ I t){base:Nat}:∀{k:List fd}{aq:List (Nat×y)}{h:M ak}{ah:List (Nat×y)->M ak->Prop},MU C base I k aq h ah->∃hm R,vx C base t k aq h=some (hm,R)/\ah hm R:=by
 intro k
 induction k with
 |nil=>intro aq h ah ay;exact⟨aq,h,rfl,ay⟩
 |cons x k aj=>
  intro aq h ah ay
  obtain⟨w,H,K,am⟩:=N2 ((awg ..).mp (show rC x.g aq (λY=>match mN x.op with
   | .make=>SB x.op C h (base+x.i) aq I Y
   |_=>F7 x.op C h aq I λv=>Y v h) (λv h=>MU C base I k ((x.i,v)::aq) h ah) h from ay))
  simp only[vx,H]
  cases w with
  |false=>exact aj (am rfl)
  |true=>
   have aC:=K rfl
   cases aG:mN x.op with
   |make=>
    simp only[aG]at aC
    obtain⟨v,cK,bm,b1⟩:=arW a aC
    simp only[bm,g5]
    exact aj b1
   |h2=>
    simp only[aG]at aC
    obtain⟨v,bm,b1⟩:=MS a aC
    simp only[bm]
    exact aj b1
   |e9=>
    simp only[aG]at aC
    obtain⟨v,bm,b1⟩:=MS a aC
    simp only[bm]
    exact aj b1
def atT(a:gQ I t):∀{k:List fd}{ah:Prop},S4 C I aq h k ah->CF C t aq h k=true/\ah:=by
 intro k
 induction k with
 |nil=>intro ah ay;exact⟨rfl,ay⟩
 |cons x k aj=>
  intro ah ay
  obtain⟨w,H,K,am⟩:=N2 ((awh ..).mp (show TP x.g aq (λai=>F7 x.op C h aq I λv=>io v (ed aq x.i) ai) (S4 C I aq h k ah) from ay))
  simp only[CF,H]
  cases w with
  |false=>exact aj (am rfl)
  |true=>
   obtain⟨v,bm,b1⟩:=MS a (K rfl)
   obtain⟨ab,df,ev,hN⟩:=sE.1 b1.out
   obtain⟨nA,q6⟩:=aj hN
   exact⟨by simp[bm,df,ev,nA],q6⟩
end
section
variable{C:aT}{dB:cU}{dR:Nat->Prop}{aZ:World}{bA:Nat}{bM:List Frame}{v:y}
variable{fn n ao:Nat}{bK:uc}{aR:Bool}{ro:Option Nat}{cs cZ:List gB}
def kN(cz:Env C aZ dB dR){bK:k4}{todo:List dG}{bX:ia}{I:M y}{h:M ak}{j:Nat}(a:Tw (fD C aZ bA bM v) C bK todo bX I h j=some v):nV C aZ bA bM bK todo bX I h j v:=
 λJ aa w c5 tmps bq an cI=>aed cz V7 _ _ _ _ _ _ _ _ _ _ _ _ v a J aa w c5 tmps bq an cI
def ff(bK:uc)(fn n ao:Nat)(aR:Bool)(ro:Option Nat)(cs cZ:List gB)(I:dc):ia:=⟨fn,n,ao,bH bK.bb I.bb [],aR,ro,bH I.rc cZ cs⟩
structure yI(bK:uc)(aR:Bool)(ro:Option Nat)(cs cZ:List gB):Prop where
 rd:bK.rd=false->ro=none
 bb:bK.bb=true->ro=none
 none:bK.kE=some none->cZ=cs/\BW aR cs=some (.nilIface,cs)
 some:∀ab,bK.kE=some (some ab)->BW aR cs=some (ab,cZ)/\BW aR cZ=some (.nilIface,cZ)
def auk{aj:hl}{C:aT}{k:Nat}{args:List y}{ew:dG}{q:List dG}{bX:ia}{I:M y}{h:M ak}{j:Nat}:n0 (.round k args) aj C ew q bX I h j=NE aj C k args (Eh ew q bX I) h j:=rfl
def WY{I:dc}{t:M y}(a:gQ I t)(k:List Nat):gQ (hT k I) (vz k t):=by
 intro n v bu
 rw[K5]
 by_cases aI:n∈k
 ·simp[hT,eQ,acE,aI]at bu
 ·simp[hT,eQ,acE,aI]at bu
  rw[Zg aI];exact a n v bu
def O8{E b:Nat}(a:E<=b):Nat.ble E b=true:=by simpa using a
def V5(aE:y.same 30 v v=true)(bc:yI bK aR ro cs cZ){ew:dG}{q:List dG}{nX:dc}{I:M y}{h:M ak}{j:Nat}{ah ax:bQ}(cz:Env C aZ dB dR)
 (hF:∀ab h j,ah ab h j->∃ht,oN ew ab=some ht/\nV C aZ bA bM .run (ht::q) (ff bK fn n ao aR ro cs cZ nX) I h j v)
 (cw:∀ab h j todo,ax ab h j->nV C aZ bA bM (.panicking [⟨ab,false⟩]) todo (ff bK fn n ao aR ro cs cZ nX) (un (ew::q) I) h j v){r:dZ}(a:Ct C bK.rd (some r) h j ah ax):
 n0 r (fD C aZ bA bM v) C ew q (ff bK fn n ao aR ro cs cZ nX) I h j=some v:=by
 have fill:∀ab h j,ah ab h j->(match oN ew ab with|some ht=>fD C aZ bA bM v .run (ht::q) (ff bK fn n ao aR ro cs cZ nX) I h j|none=>none)=some v:=by
  intro ab h j aG
  obtain⟨ht,H,K⟩:=hF ab h j aG
  rw[H]
  exact h3 K
 cases r with
 |val ab=>exact fill ab h j a
 |fq ab R au=>exact fill ab R au a
 |enter f args=>
  refine a aZ dB dR cz bA bM v aE (Eh ew q (ff bK fn n ao aR ro cs cZ nX) I) (λab R au ai=> ?_) (λab R au ai=> ?_)
  ·exact fill ab R au ai
  ·exact h3 (cw ab R au _ ai)
 |round k args=>
  rw[auk]
  refine a aZ dB dR cz bA bM v aE (Eh ew q (ff bK fn n ao aR ro cs cZ nX) I) (λab R au ai=> ?_) (λab R au ai=> ?_)
  ·exact fill ab R au ai
  ·exact h3 (cw ab R au _ ai)
 |known f args ab=>exact fill ab h j a
 |panic ab=>
  have a:=(show bH bK.rd False (ax ab h j) from a)
  cases V:bK.rd with
  |true=>rw[V]at a;exact a.elim
  |false=>
   rw[V]at a
   have li:=bc.rd V
   subst li
   exact h3 (cw ab h j _ a)
 |fork k=>exact alq aE k a.1 λab R bc=>hF ab R j (a.2 ab R bc)
 |_=>exact a.elim
def ake{ar:Array Oper}{aq:List (Nat×y)}{i:Nat}{rest:List fd}{fin:List (Nat×Nat)}{q:List dG}{I:M y}:un (.sQ ar aq i rest fin::q) I=vz (dstsOf ar.toList) I:=rfl
def akd{ar:Array Oper}{aq:List (Nat×y)}{b i:Nat}{rest:List vq}{fin:List (Nat×Nat)}{q:List dG}{I:M y}:un (.yu ar b aq i rest fin::q) I=vz (dstsOf ar.toList) I:=rfl
def auz(cz:Env C aZ dB dR)(aE:y.same 30 v v=true)(bc:yI bK aR ro cs cZ){ar:Array Oper}{fin:List (Nat×Nat)}{q:List dG}{t:M y}{ah:fK}{ax:sX}
 (hF:∀I t h j,gQ I t->ah I h j->nV C aZ bA bM .run q (ff bK fn n ao aR ro cs cZ I) t h j v)
 (cw:∀I t ab h j todo,gQ I t->ax I ab h j->nV C aZ bA bM (.panicking [⟨ab,false⟩]) todo (ff bK fn n ao aR ro cs cZ I) t h j v):
 ∀(rest:List fd) (aq:List (Nat×y)) (I:dc) (h:M ak) (j:Nat),gQ I t->BM C bK fin ah (λI=>ax (hT (dstsOf ar.toList) I)) rest aq I h j->yn rest ⟨fD C aZ bA bM v,ar,fin,q,ff bK fn n ao aR ro cs cZ I⟩ C t aq h j=some v:=by
 intro rest
 induction rest with
 |nil=>
  intro aq I h j a8 a
  obtain⟨cP,ga,H,K,am,aC⟩:=Xm a8 (show HO fin aq I (λI=>ah I h j) from a)
  show HJ ⟨fD C aZ bA bM v,ar,fin,q,ff bK fn n ao aR ro cs cZ I⟩ C t aq h j=some v
  simp only[HJ,Ln,H,om]
  have D:ff bK fn n ao aR ro cs cZ I=ff bK fn n ao aR ro cs cZ cP:=by unfold ff;rw[am.1,am.2]
  rw[D]
  exact h3 (hF _ _ _ _ K aC)
 |cons x rest aj=>
  intro aq I h j a8 a
  obtain⟨i,g,op⟩:=x
  show D2 i g op rest (yn rest) ⟨fD C aZ bA bM v,ar,fin,q,ff bK fn n ao aR ro cs cZ I⟩ C t aq h j=some v
  have a:=(show(match Ef op with
   | .no=>N3 g aq (λah=>SP bK.rd op C h j aq I ah (ax (hT (dstsOf ar.toList) I))) (λv h j=>BM C bK fin ah (λI=>ax (hT (dstsOf ar.toList) I)) rest ((i,v)::aq) I h j) h j
   | .defer bV f args=>bH (g.isNone&&bK.bb) (eB bV aq I f λlU=>sD bV aq I args λca=>KX lU ca I λI=>BM C bK fin ah (λI=>ax (hT (dstsOf ar.toList) I)) rest ((i,undef)::aq) I h j) False
   | .recover=>bH (g.isNone&& !bK.rd) (JK bK.kE I λv I=>BM C bK fin ah (λI=>ax (hT (dstsOf ar.toList) I)) rest ((i,v)::aq) I h j) False) from a)
  cases nG:Ef op with
  |no=>
   rw[nG]at a
   obtain⟨w,H,K,am⟩:=N2 ((aeG ..).mp a)
   simp only[D2,N0,H,om]
   cases w with
   |false=>simp only[Zv,ZD];exact aj _ _ _ _ a8 (am rfl)
   |true=>
    simp only[ZE]
    have aC:=K rfl
    rw[Nn]
    unfold SP at aC
    cases aG:mN op with
    |h2=>
     simp only[aG]at aC ⊢
     obtain⟨ab,bm,b1⟩:=MS a8 aC
     rw[bm]
     exact aj _ _ _ _ a8 b1
    |make=>
     simp only[aG]at aC ⊢
     obtain⟨ab,cK,bm,b1⟩:=arY a8 aC
     simp only[MV,lT,bm,g5,om]
     exact aj _ _ _ _ a8 b1
    |e9=>
     simp only[aG]at aC ⊢
     obtain⟨r,bm,b1⟩:=aad a8 aC
     rw[bm]
     have qg:n0 r (fD C aZ bA bM v) C (.sQ ar aq i rest fin) q (ff bK fn n ao aR ro cs cZ I) t h j=some v:=by
      refine V5 aE bc cz (λab h j ai=>⟨_,rfl, ?_⟩) (λab h j todo ai=> ?_) b1
      ·exact kN cz (aj _ _ _ _ a8 ai)
      ·rw[ake];exact cw (hT (dstsOf ar.toList) I) _ _ _ _ _ (WY a8 _) ai
     cases r with
     |val ab=>exact aj _ _ _ _ a8 b1
     |fq ab R au=>exact aj _ _ _ _ a8 b1
     |_=>exact qg
  |defer bV f args=>
   rw[nG]at a
   obtain⟨c,rfl,rfl⟩:=auY nG
   have a:=(show bH (g.isNone&&bK.bb) _ False from a)
   cases g with
   |some g=>exact a.elim
   |none=>
    cases pM:bK.bb with
    |false=>rw[pM]at a;exact a.elim
    |true=>
     rw[pM]at a
     obtain⟨lU,H,K⟩:=hk a8 (show eB bV aq I f _ from a)
     obtain⟨ca,am,aC⟩:=D3 a8 K
     have li:=bc.bb pM
     subst li
     cases lU with
     |func g first fy=>
      simp only[D2,N0,oy,om,ZE]
      rw[Nn]
      have aG:mN (.e9 bV (.defer ⟨.value f,c.1,c.2⟩))= .e9:=rfl
      have af:hz (.e9 bV (.defer ⟨.value f,c.1,c.2⟩)) C h j aq t=some (.defer ⟨.fn g fy,first++ca⟩):=by
       simp only[hz,nv,Qs,H,am]
      simp only[aG,af]
      have gl:ff bK fn n ao aR none cs cZ I=⟨fn,n,ao,I.bb,aR,none,bH I.rc cZ cs⟩:=by unfold ff;rw[pM];rfl
      show n0 (.defer ⟨.fn g fy,first++ca⟩) (fD C aZ bA bM v) C (.sQ ar aq i rest fin) q (ff bK fn n ao aR none cs cZ I) t h j=some v
      rw[gl]
      show fD C aZ bA bM v .run (.Gx ar ((i,undef)::aq) rest fin::q) ⟨fn,n,ao,⟨.fn g fy,first++ca⟩::I.bb,aR,none,bH I.rc cZ cs⟩ t h j=some v
      have dt:(⟨fn,n,ao,⟨.fn g fy,first++ca⟩::I.bb,aR,none,bH I.rc cZ cs⟩:ia)=ff bK fn n ao aR none cs cZ (BE I ⟨.fn g fy,first++ca⟩):=by unfold ff;rw[pM];rfl
      rw[dt]
      exact h3 (kN cz (aj _ (BE I ⟨.fn g fy,first++ca⟩) _ _ a8 aC))
     |_=>exact aC.elim
  |recover=>
   rw[nG]at a
   obtain⟨bV,cX,args,rfl,vS⟩:=auZ nG
   have a:=(show bH (g.isNone&& !bK.rd) _ False from a)
   cases g with
   |some g=>exact a.elim
   |none=>
    cases c3:bK.rd with
    |true=>rw[c3]at a;exact a.elim
    |false=>
     rw[c3]at a
     have li:=bc.rd c3
     subst li
     have a:JK bK.kE I (λv I=>BM C bK fin ah (λI=>ax (hT (dstsOf ar.toList) I)) rest ((i,v)::aq) I h j):=a
     simp only[D2,N0,oy,om,ZE]
     rw[Nn]
     have aG:mN (.e9 bV (.call ⟨.builtin .recover,args,cX⟩))= .e9:=rfl
     have af:hz (.e9 bV (.call ⟨.builtin .recover,args,cX⟩)) C h j aq t=some .recover:=by
      simp only[hz,nv,CS,HX,vS,pG]
     simp only[aG,af]
     show n0 .recover (fD C aZ bA bM v) C (.sQ ar aq i rest fin) q (ff bK fn n ao aR none cs cZ I) t h j=some v
     have key:∀ab cP,gQ cP t->BW aR (bH I.rc cZ cs)=some (ab,bH cP.rc cZ cs)->cP.bb=I.bb->BM C bK fin ah (λI=>ax (hT (dstsOf ar.toList) I)) rest ((i,ab)::aq) cP h j->n0 .recover (fD C aZ bA bM v) C (.sQ ar aq i rest fin) q (ff bK fn n ao aR none cs cZ I) t h j=some v:=by
      intro ab cP RS H K am
      show(match BW aR (bH I.rc cZ cs)with
       |some (gj,ajT)=>(match oN (.sQ ar aq i rest fin) gj with|some ht=>fD C aZ bA bM v .run (ht::q) ⟨fn,n,ao,bH bK.bb I.bb [],aR,none,ajT⟩ t h j|none=>none)
       |none=>none)=some v
      rw[H]
      show fD C aZ bA bM v .run (.Gx ar ((i,ab)::aq) rest fin::q) ⟨fn,n,ao,bH bK.bb I.bb [],aR,none,bH cP.rc cZ cs⟩ t h j=some v
      have gl:(⟨fn,n,ao,bH bK.bb I.bb [],aR,none,bH cP.rc cZ cs⟩:ia)=ff bK fn n ao aR none cs cZ cP:=by unfold ff;rw[K]
      rw[gl]
      exact h3 (kN cz (aj _ _ _ _ RS am))
     unfold JK at a
     cases ay:bK.kE with
     |none=>rw[ay]at a;exact a.elim
     |some p=>
      rw[ay]at a
      cases p with
      |none=>
       obtain⟨H,K⟩:=bc.none ay
       subst H
       refine key _ I a8 ?_ rfl a
       cases I.rc<;>exact K
      |some ab=>
       obtain⟨H,K⟩:=bc.some ab ay
       cases FM:I.rc with
       |true=>
        simp only[FM]at a
        refine key _ I a8 ?_ rfl a
        simp only[FM];exact K
       |false=>
        simp only[FM]at a
        refine key ab (Tl I) a8 ?_ rfl a
        simp only[FM];exact H
def akc(cz:Env C aZ dB dR)(aE:y.same 30 v v=true)(bc:yI bK aR ro cs cZ){ar:Array Oper}{base:Nat}{fin:List (Nat×Nat)}{q:List dG}{I:dc}{t:M y}(a8:gQ I t){ah:fK}{ax:sX}
 (hF:∀I t h j,gQ I t->ah I h j->nV C aZ bA bM .run q (ff bK fn n ao aR ro cs cZ I) t h j v)
 (cw:∀I t ab h j todo,gQ I t->ax I ab h j->nV C aZ bA bM (.panicking [⟨ab,false⟩]) todo (ff bK fn n ao aR ro cs cZ I) t h j v):
 ∀(lo:List vq) (aq:List (Nat×y)) (h:M ak) (j:Nat),PF C bK.rd base fin I ah (ax (hT (dstsOf ar.toList) I)) lo aq h j->xj (fD C aZ bA bM v) C ar base aq lo fin q (ff bK fn n ao aR ro cs cZ I) t h j=some v:=by
 intro lo
 induction lo with
 |nil=>intro aq h j a;exact a.elim
 |cons s rest aj=>
  intro aq h j a
  obtain⟨hm,R,H,K⟩:=arC a8 (show MU C base I s.tG aq h _ from a)
  obtain⟨am,aC⟩:=atT a8 K
  simp only[xj,H,am,eW]
  cases f8:s.e9 with
  |none=>
   simp only[f8]at aC
   obtain⟨cP,ga,bm,b1,df,ev⟩:=Xm a8 aC
   simp only[Ln,bm,om]
   have D:ff bK fn n ao aR ro cs cZ I=ff bK fn n ao aR ro cs cZ cP:=by unfold ff;rw[df.1,df.2]
   rw[D]
   exact h3 (hF _ _ _ _ b1 ev)
  |some af=>
   simp only[f8]at aC
   obtain⟨w,bm,b1,df⟩:=N2 ((aeG ..).mp aC)
   simp only[bm]
   cases w with
   |false=>simp only[kp];exact h3 (kN cz (aj _ _ _ (df rfl)))
   |true=>
    obtain⟨r,ev,hN⟩:=aad a8 (b1 rfl)
    simp only[eW,ev]
    refine V5 aE bc cz (λab h j ai=>⟨_,rfl, ?_⟩) (λab h j todo ai=> ?_) hN
    ·exact kN cz (aj _ _ _ ai)
    ·rw[akd];exact cw (hT (dstsOf ar.toList) I) _ _ _ _ _ (WY a8 _) ai
def ae5(C:aT)(aZ:World)(bA:Nat)(bM:List Frame)(v:y)(cu:dc->ia)(q:List dG)(id:Nat):fK:=λI h j=>∀t,gQ I t->Af id (fD C aZ bA bM v) C q (cu I) t h j=some v
def Lm{id:Nat}{aj:hl}{C:aT}{ew:dG}{q:List dG}{bK:uc}{cs cZ:List gB}{nX:dc}{I:M y}{h:M ak}{j:Nat}(a:exitTo id (ew::q)=exitTo id q):
 Af id aj C (ew::q) (ff bK fn n ao aR ro cs cZ nX) I h j=Af id aj C q (ff bK fn n ao aR ro cs cZ nX) I h j:=by
 unfold Af
 rw[a]
 cases exitTo id q with
 |some ey=>rfl
 |none=>
  unfold oh ff
  cases ro with
  |none=>rfl
  |some k=>rfl
def Ov(C:aT)(fn n ao:Nat)(c:Code):Prop:=
 ∀{aZ:World}{dB:cU}{dR:Nat->Prop}(_:Env C aZ dB dR) {bA:Nat}{bM:List Frame}{v:y}(_:y.same 30 v v=true) (bK:uc) (aR:Bool) (ro:Option Nat) (cs cZ:List gB) (ax:sX) (q:List dG) (ah:fK) (D:Nat->fK) (r:fK) (I:dc) (t:M y) (h:M ak) (j:Nat),yI bK aR ro cs cZ->
  (∀I t ab h j todo,gQ I t->ax I ab h j->nV C aZ bA bM (.panicking [⟨ab,false⟩]) todo (ff bK fn n ao aR ro cs cZ I) t h j v)->
  (∀I t h j,gQ I t->ah I h j->nV C aZ bA bM .run q (ff bK fn n ao aR ro cs cZ I) t h j v)->
  (∀id I h j,D id I h j->ae5 C aZ bA bM v (ff bK fn n ao aR ro cs cZ) q id I h j)->
  (∀I t h j todo,gQ I t->r I h j->oh (some .ret) (fD C aZ bA bM v) C todo (ff bK fn n ao aR ro cs cZ I) t h j=some v)->
  gQ I t->vw C n ao c bK ax ah D r I h j->ul c (fD C aZ bA bM v) C q (ff bK fn n ao aR ro cs cZ I) t h j=some v
def auF{n:Nat}:∀(da:List Nat) (ca:List y) (I:dc) (t:M y) (ah:dc->Prop),gQ I t->Gy n da ca I ah->∃cP ga,wz n da ca t=some ga/\gQ cP ga/\ah cP:=by
 intro da
 induction da with
 |nil=>
  intro ca I t ah a8 a
  cases ca with
  |nil=>exact⟨I,t,rfl,a8,a⟩
  |cons E ca=>exact a.elim
 |cons p da aj=>
  intro ca I t ah a8 a
  cases ca with
  |nil=>exact a.elim
  |cons E ca=>
   have a:=(show bH (Nat.blt p n) (Gy n da ca (ae I p E) ah) False from a)
   cases al:Nat.blt p n with
   |false=>rw[al]at a;exact a.elim
   |true=>
    rw[al]at a
    obtain⟨cP,ga,H,K,am⟩:=aj ca _ _ ah (ad3 a8 p E) a
    exact⟨cP,ga,by simp only[wz,al,eW,H],K,am⟩
def Ci(fn n ao:Nat)(ro:Option Nat)(cs:List gB)(I:dc):ff Bm fn n ao false ro cs cs I=⟨fn,n,ao,[],false,ro,cs⟩:=by
 unfold ff Bm
 cases I.rc<;>rfl
def Ss{aj:hl}{C:aT}{k fn n ao:Nat}{t0:M y}{params:List Nat}{assign body:Code}{KZ:Nat}{iF:Option Code}{st:LoopState}{b:Bool}{ah:bQ}{todo:List dG}{cs:List gB}{t:M y}{h:M ak}{j:Nat}{v:y}
 (aH:j5 C k=true)(ay:adm iF=true)(cI:st=bH iF.isNone .ready .done)(al:b=iF.isNone)(a:Ld C k (λst p=> .loop st p fn n ao t0 params assign body KZ) st iF b ah h j)
 (aG:∀ab h j,ah ab h j->s2 aj false cs ab h j=some v):oh iF aj C todo ⟨fn,n,ao,[],false,some k,cs⟩ t h j=some v:=by
 obtain⟨⟨ad7,yf,H⟩,K⟩:=a
 subst cI al
 have:=aG _ _ _ K
 simp only[oh,H,aH,ay,YA,Ys,eW,g5]
 exact this
def aul{C:aT}{fn n ao:Nat}{assign body:Code}(ld:Ov C fn n ao assign)(eS:Ov C fn n ao body){aZ:World}{dB:cU}{dR:Nat->Prop}(cz:Env C aZ dB dR){bA:Nat}{bM:List Frame}{v:y}(aE:y.same 30 v v=true){k:Nat}{t:M y}{params:List Nat}{KZ:Nat}{cs:List gB}
 {I:dc}{h:M ak}{j:Nat}{args:List y}{ah ax:bQ}(aB:Z C h k=some (.loop .ready none fn n ao t params assign body KZ))(aH:j5 C k=true)(a8:gQ I t)
 (e0:∀ab R au,ah ab R au->Oq C aZ bA bM v cs ab R au)(ku:∀ab R au,ax ab R au->Kw C aZ bA bM v cs ab R au)
 (a:Gy n params args I λqV=>sK C (vw C n ao assign) (vw C n ao body) k (λst p=> .loop st p fn n ao t params assign body KZ) ah ax qV h j):
 NE (fD C aZ bA bM v) C k args cs h j=some v:=by
 obtain⟨qV,t1,bB,Mt,H⟩:=auF _ _ _ _ _ a8 a
 unfold NE
 rw[aB]
 simp only[bB]
 have bc:yI Bm false (some k) cs cs:=⟨λa=>(by cases a),λa=>(by cases a),λa=>(by cases a),λab a=>(by cases a)⟩
 have cw:∀(I:dc) (t:M y) (ab:y) (h:M ak) (j:Nat) (todo:List dG),gQ I t->ax ab h j->nV C aZ bA bM (.panicking [⟨ab,false⟩]) todo (ff Bm fn n ao false (some k) cs cs I) t h j v:=by
  intro I t ab h j todo a8 ai
  rw[Ci]
  refine kN cz ?_
  have:=ku ab h j ai
  show JU [⟨ab,false⟩] todo (fD C aZ bA bM v) C ⟨fn,n,ao,[],false,some k,cs⟩ t h j=some v
  cases cs with
  |nil=>exact this.elim
  |cons c rest=>exact this
 refine h3 (kN cz ?_)
 rw[<-Ci fn n ao (some k) cs qV]
 refine ld cz aE Bm false (some k) cs cs (λ_=>ax) [.beginRound, .code body] _ _ _ qV t1 h j bc cw (λI t h j a8 ai=> ?_) (λid I h j ai=>ai.elim) (λI t h j todo a8 ai=>ai.elim) Mt H
 obtain⟨cF,cH⟩:=ai
 refine kN cz ?_
 rw[Ci]
 show Ho (fD C aZ bA bM v) C [.code body] ⟨fn,n,ao,[],false,some k,cs⟩ t h j=some v
 unfold Ho
 simp only[cF,aH,eW,g5]
 refine h3 (kN cz ?_)
 rw[<-Ci fn n ao (some k) cs I]
 refine eS cz aE Bm false (some k) cs cs (λ_=>ax) [] _ _ _ I t _ j bc cw (λI t h j a8 ai=> ?_) (λid I h j ai t a8=> ?_) (λI t h j todo a8 ai=> ?_) a8 cH
 ·refine kN cz ?_
  rw[Ci]
  show oh none (fD C aZ bA bM v) C [] ⟨fn,n,ao,[],false,some k,cs⟩ t h j=some v
  exact Ss aH rfl rfl rfl ai e0
 ·rw[Ci]
  show oh (some (.exit id)) (fD C aZ bA bM v) C (.code (.exit id)::[]) ⟨fn,n,ao,[],false,some k,cs⟩ t h j=some v
  exact Ss aH rfl rfl rfl ai e0
 ·rw[Ci]
  exact Ss aH rfl rfl rfl ai e0
def Pq:∀c:Code,Ov C fn n ao c:=by
 intro c
 induction c with
 |skip=>intro aZ dB dR cz bA bM v aE bK aR ro cs cZ ax q ah D r I t h j bc cw hF bt V a8 a;exact h3 (hF _ _ _ _ a8 a)
 |region id ar d=>
  intro aZ dB dR cz bA bM v aE bK aR ro cs cZ ax q ah D r I t h j bc cw hF bt V a8 a
  cases d with
  |false=>
   obtain⟨ai,H,K⟩:=sE.1 (show cg (Jt C n ar ao) (λr=>BM C bK r.fin ah (λI=>ax (hT (dstsOf ar.toList) I)) r.rest [] I h j) from a)
   show jg (Jt C n ar ao) (λr=>Ou.rec (motive:=λ_=>dX) (λrest fin=>yn rest ⟨fD C aZ bA bM v,ar,fin,q,ff bK fn n ao aR ro cs cZ I⟩ C t [] h j) r)=some v
   rw[H]
   exact auz cz aE bc hF cw _ _ _ _ _ a8 K
  |true=>
   obtain⟨ai,H,K⟩:=sE.1 (show cg (Js C n ar ao) (λr=>fo (j+ar.size) λau=>PF C bK.rd j r.fin I ah (ax (hT (dstsOf ar.toList) I)) r.lo [] h au) from a)
   show jg (Js C n ar ao) (λr=>Ot.rec (motive:=λ_=>dX) (λlo fin=>qh j λj=>xj (fD C aZ bA bM v) C ar j [] lo fin q (ff bK fn n ao aR ro cs cZ I) t h (j+ar.size)) r)=some v
   rw[H]
   show qh j (λj=>xj (fD C aZ bA bM v) C ar j [] ai.lo ai.fin q (ff bK fn n ao aR ro cs cZ I) t h (j+ar.size))=some v
   rw[lT]
   exact akc cz aE bc a8 hF cw _ _ _ _ K.out
 |seq E b mL hs=>
  intro aZ dB dR cz bA bM v aE bK aR ro cs cZ ax q ah D r I t h j bc cw hF bt V a8 a
  refine mL cz aE bK aR ro cs cZ ax (.code b::q) (vw C n ao b bK ax ah D r) D r I t h j bc cw (λI t h j a8 a=> ?_) (λid I h j a t a8=> ?_) V a8 a
  ·exact kN cz (hs cz aE bK aR ro cs cZ ax q ah D r I t h j bc cw hF bt V a8 a)
  ·rw[Lm (by simp[exitTo])]
   exact bt id I h j a t a8
 |cond c E b mL hs=>
  intro aZ dB dR cz bA bM v aE bK aR ro cs cZ ax q ah D r I t h j bc cw hF bt V a8 a
  obtain⟨ab,H,K⟩:=hk (aq:=[]) (bV:=[]) a8 (show eB [] [] I c _ from a)
  obtain⟨NV,rfl,am,aC⟩:=Ww K.out
  have bm:vE t c=some (.bool NV):=by
   cases c<;>first|(simp[jb,vE]at H;done)|simpa[jb,vE]using H
  show Hx c t (ul E (fD C aZ bA bM v) C q (ff bK fn n ao aR ro cs cZ I) t h j) (ul b (fD C aZ bA bM v) C q (ff bK fn n ao aR ro cs cZ I) t h j)=some v
  simp only[Hx,om,bm]
  cases NV with
  |true=>exact mL cz aE bK aR ro cs cZ ax q ah D r I t h j bc cw hF bt V a8 (am rfl)
  |false=>exact hs cz aE bK aR ro cs cZ ax q ah D r I t h j bc cw hF bt V a8 (aC rfl)
 |block id b hs=>
  intro aZ dB dR cz bA bM v aE bK aR ro cs cZ ax q ah D r I t h j bc cw hF bt V a8 a
  refine hs cz aE bK aR ro cs cZ ax (.inBlock id::q) ah (CJ id ah D) r I t h j bc cw (λI t h j a8 a=>kN cz (h3 (hF I t h j a8 a))) (λtx I h j a t a8=> ?_) V a8 a.out
  unfold CJ at a
  rw[hn]at a
  by_cases hid:id=tx
  ·rw[Zu hid]at a
   have bB:exitTo tx (.inBlock id::q)=some q:=by simp[exitTo,hid,hn]
   unfold Af
   rw[bB]
   exact h3 (hF I t h j a8 a)
  ·rw[Zg hid]at a
   rw[Lm (by simp[exitTo,hn,hid])]
   exact bt tx I h j a t a8
 |loop b hs=>
  intro aZ dB dR cz bA bM v aE bK aR ro cs cZ ax q ah D r I t h j bc cw hF bt V a8 a
  obtain⟨rO,⟨m,v1⟩,oQ⟩:=(show gA (λEI=>vw C n ao b bK ax EI D r) I h j from a).out
  have Jq:∀m I t h j,rO m I h j->gQ I t->ul b (fD C aZ bA bM v) C (.inLoop b::q) (ff bK fn n ao aR ro cs cZ I) t h j=some v:=by
   intro m
   induction m using Nat.strongRecOn with
   |ind m pU=>
    intro I t h j v1 a8
    refine hs cz aE bK aR ro cs cZ ax (.inLoop b::q) _ D r I t h j bc cw (λI t h j a8 a=> ?_) (λid I h j a t a8=> ?_) V a8 (oQ m I h j v1)
    ·obtain⟨fI,cJ,sn⟩:=a
     exact kN cz (pU fI cJ I t h j sn a8)
    ·rw[Lm (by simp[exitTo])]
     exact bt id I h j a t a8
  exact Jq m I t h j v1 a8
 |rangeFunc f params assign body mL hs=>
  intro aZ dB dR cz bA bM v aE bK aR ro cs cZ ax q ah D r I t h j bc cw hF bt V a8 a
  have a:=(show bH bK.bb (PM f I λlU=>D8 C n lU params.toList (sK C (vw C n ao assign) (vw C n ao body)) ah D r ax I h j) False from a)
  cases pM:bK.bb with
  |false=>rw[pM]at a;exact a.elim
  |true=>
   rw[pM]at a
   have li:=bc.bb pM
   subst li
   obtain⟨lU,H,K⟩:=hk (aq:=[]) (bV:=[]) a8 (show eB [] [] I f _ from a)
   have bm:vE t f=some lU:=by
    cases f<;>first|(simpa[jb,vE]using H)|(simp[jb]at H;subst H;rfl)
   have axy:=K.low
   have AH:=K.out
   have gl:∀I:dc,ff bK fn n ao aR none cs cZ I=⟨fn,n,ao,I.bb,aR,none,bH I.rc cZ cs⟩:=λI=>by unfold ff;rw[pM];rfl
   have ω:j5 C (j+1)=true:=O8 Zo
   show JH f params assign body (fD C aZ bA bM v) C q (ff bK fn n ao aR none cs cZ I) t h j=some v
   rw[gl]
   unfold JH
   rw[bm]
   cases lU with
   |func g first fy=>
    cases g with
    |func g=>
     simp only[lT]
     have AH:=AH (λst p=> .loop st p fn n ao t params.toList assign body j) ?_
     ·refine AH aZ dB dR cz bA bM v aE _ (λab R au ai=> ?_) (λab R au ai=> ?_)
      ·obtain⟨st,p,cF,cH,d7⟩:=ai
       show(match oN (.inRangeFunc (j+1)) ab with
        |some ht=>fD C aZ bA bM v .run (ht::q) ⟨fn,n,ao,⟨.collected j,[]⟩::I.bb,aR,none,bH I.rc cZ cs⟩ t R au
        |none=>none)=some v
       refine h3 (kN cz ?_)
       show E0 (j+1) (fD C aZ bA bM v) C q ⟨fn,n,ao,⟨.collected j,[]⟩::I.bb,aR,none,bH I.rc cZ cs⟩ t R au=some v
       have bB:E0 (j+1) (fD C aZ bA bM v) C q ⟨fn,n,ao,⟨.collected j,[]⟩::I.bb,aR,none,bH I.rc cZ cs⟩ t R au=fD C aZ bA bM v .run ((p.map dG.code).toList++q) ⟨fn,n,ao,⟨.collected j,[]⟩::I.bb,aR,none,bH I.rc cZ cs⟩ t (bl C R (j+1) (some (.loop .exhausted p fn n ao t params.toList assign body j))) au:=by
        unfold E0
        rw[cH]
        cases st with
        |busy=>exact absurd rfl cF
        |_=>simp only[ω,eW,g5]
       rw[bB]
       have dt:=gl (u1 I j)
       have eG:(⟨fn,n,ao,⟨.collected j,[]⟩::I.bb,aR,none,bH I.rc cZ cs⟩:ia)=ff bK fn n ao aR none cs cZ (u1 I j):=dt.symm
       rw[eG]
       have RU:gQ (u1 I j) t:=a8
       cases p with
       |none=>exact h3 (hF _ _ _ _ RU d7)
       |some c=>
        refine h3 (kN cz ?_)
        unfold adn at d7
        cases c with
        |exit id=>exact bt id _ _ _ d7 t RU
        |ret=>exact V _ _ _ _ _ RU d7
        |_=>exact d7.elim
      ·refine h3 ?_
       have eG:(⟨fn,n,ao,⟨.collected j,[]⟩::I.bb,aR,none,bH I.rc cZ cs⟩:ia)=ff bK fn n ao aR none cs cZ (u1 I j):=(gl (u1 I j)).symm
       have:=cw (u1 I j) t ab R au (.inRangeFunc (j+1)::q) a8 ai
       rw[<-eG]at this
       exact this
     ·
      intro args aX DY qM eg aB bl e4 wM my PL ef qY J4 kQ Pt e0 ku
      exact aul mL hs PL kQ aB ω a8 e0 ku bl
    |_=>exact AH.elim
   |_=>exact AH.elim
 |exit id=>
  intro aZ dB dR cz bA bM v aE bK aR ro cs cZ ax q ah D r I t h j bc cw hF bt V a8 a
  exact bt id I h j a t a8
 |scope b hs=>
  intro aZ dB dR cz bA bM v aE bK aR ro cs cZ ax q ah D r I t h j bc cw hF bt V a8 a
  refine hs cz aE bK aR ro cs cZ ax (.inScope b::q) ah D r I t h j bc cw (λI t h j a8 a=>kN cz (h3 (hF I t h j a8 a))) (λid I h j a t a8=> ?_) V a8 a
  rw[Lm (by simp[exitTo])]
  exact bt id I h j a t a8
 |label k=>intro aZ dB dR cz bA bM v aE bK aR ro cs cZ ax q ah D r I t h j bc cw hF bt V a8 a;exact h3 (hF _ _ _ _ a8 a)
 |goto k=>intro aZ dB dR cz bA bM v aE bK aR ro cs cZ ax q ah D r I t h j bc cw hF bt V a8 a;exact a.elim
 |ret=>
  intro aZ dB dR cz bA bM v aE bK aR ro cs cZ ax q ah D r I t h j bc cw hF bt V a8 a
  exact V _ _ _ _ _ a8 a
 |refuse s=>intro aZ dB dR cz bA bM v aE bK aR ro cs cZ ax q ah D r I t h j bc cw hF bt V a8 a;exact a.elim
end
def O1(args:List y):gQ (c6 args) (M.ofList args 0 .nil):=by
 intro n v a
 rw[lE]
 simpa[c6]using a
section
variable{C:aT}{dB:cU}{dR:Nat->Prop}{aZ:World}{bA:Nat}{bM:List Frame}{v:y}{fn:Nat}{te:Func}{n ao:Nat}{aR:Bool}{cs:List gB}
def ND(cz:Env C aZ dB dR)(aE:y.same 30 v v=true)(bW:C.P.funcs[fn]? =some te){Q:bQ}(e0:∀ab h j,Q ab h j->s2 (fD C aZ bA bM v) aR cs ab h j=some v){I:dc}{t:M y}(a8:gQ I t):
 ∀(ds:List hy) (h:M ak) (j:Nat) (todo:List dG),pj C te.results.toList Q I ds h j->nV C aZ bA bM .returning todo ⟨fn,n,ao,ds,aR,none,cs⟩ t h j v:=by
 intro ds
 induction ds with
 |nil=>
  intro h j todo a
  obtain⟨bx,H,K⟩:=at4 a8 (show qI C h I te.results.toList (λbx=>Q (one bx) h j) from a)
  refine kN cz ?_
  show JV todo (fD C aZ bA bM v) C ⟨fn,n,ao,[],aR,none,cs⟩ t h j=some v
  simp only[JV,bW,H]
  exact e0 _ _ _ K
 |cons d ds aj=>
  intro h j todo a
  obtain⟨J1,ca⟩:=d
  refine kN cz ?_
  show wB ⟨J1,ca⟩ ds .returning todo (fD C aZ bA bM v) C ⟨fn,n,ao,[],aR,none,cs⟩ t h j=some v
  cases J1 with
  |collected r=>
   have a:=(show Nd C r h (pj C te.results.toList Q I ds (bl C h r (some (.deferred none))) j) from a)
   simp only[wB,a.here,show j5 C r=true from O8 a.low,eW,g5,YS]
   exact h3 (aj _ _ _ a.go)
  |fn g cap=>
   have a:=(show y9 C g (ca++cap) none h j (λ_ h j=>pj C te.results.toList Q I ds h j) from a).out
   split at a
   ·rename_i f
    obtain⟨H,⟨vJ,c,K,am⟩,aC⟩:=a
    simp only[wB,yU,rY,H,K,am]
    exact aC aZ dB dR cz bA bM v aE fn n ao t todo ds aR none cs λb R au ai=>h3 (aj _ _ _ ai)
   ·exact a.elim
def adi(cz:Env C aZ dB dR)(aE:y.same 30 v v=true)(bW:C.P.funcs[fn]? =some te){Q eE:bQ}(e0:∀ab h j,Q ab h j->s2 (fD C aZ bA bM v) aR cs ab h j=some v)(ku:∀ab h j,eE ab h j->Kw C aZ bA bM v cs ab h j){I:dc}{t:M y}(a8:gQ I t)(ab:y):
 ∀(ds:List hy) (h:M ak) (j:Nat) (todo:List dG),wt C te.results.toList Q eE I ab ds h j->nV C aZ bA bM (.panicking [⟨ab,false⟩]) todo ⟨fn,n,ao,ds,aR,none,cs⟩ t h j v:=by
 intro ds
 induction ds with
 |nil=>
  intro h j todo a
  refine kN cz ?_
  have:=ku ab h j a
  show JU [⟨ab,false⟩] todo (fD C aZ bA bM v) C ⟨fn,n,ao,[],aR,none,cs⟩ t h j=some v
  cases cs with
  |nil=>exact this.elim
  |cons c rest=>exact this
 |cons d ds aj=>
  intro h j todo a
  obtain⟨J1,ca⟩:=d
  refine kN cz ?_
  show wB ⟨J1,ca⟩ ds (.panicking [⟨ab,false⟩]) todo (fD C aZ bA bM v) C ⟨fn,n,ao,[],aR,none,cs⟩ t h j=some v
  cases J1 with
  |collected r=>
   have a:=(show Nd C r h (wt C te.results.toList Q eE I ab ds (bl C h r (some (.deferred none))) j) from a)
   simp only[wB,a.here,show j5 C r=true from O8 a.low,eW,g5,YS]
   exact h3 (aj _ _ _ a.go)
  |fn g cap=>
   have a:=(show y9 C g (ca++cap) (some ab) h j (λb h j=>bH b (pj C te.results.toList Q I ds h j) (wt C te.results.toList Q eE I ab ds h j)) from a).out
   split at a
   ·rename_i f
    obtain⟨H,⟨vJ,c,K,am⟩,aC⟩:=a
    simp only[wB,yU,rY,H,K,am]
    refine aC aZ dB dR cz bA bM v aE fn n ao t todo ds aR none cs λb R au ai=> ?_
    cases b with
    |true=>exact h3 (ND cz aE bW e0 a8 ds R au todo ai)
    |false=>exact h3 (aj _ _ _ ai)
   ·exact a.elim
end
def PZ{C:aT}{f d1:Nat}(aA:c8 C f d1=true):∃fn c,C.P.funcs[f]? =some fn/\fn.body=some c/\(Nat.ble d1 fn.ntmps&&lO C (Nat.lor (kc c) (nM fn.results.toList)) c&&yk (Nat.lor (kc c) (nM fn.results.toList)) fn.results.toList)=true:=by
 unfold c8 at aA
 split at aA
 ·rename_i fn bW
  split at aA
  ·rename_i c al;exact⟨fn,c,bW,al,aA⟩
  ·cases aA
 ·cases aA
def F6{aj:hl}{C:aT}{fn n ao:Nat}{bb:List hy}{aR:Bool}{cs:List gB}{todo:List dG}{I:M y}{h:M ak}{j:Nat}{Y:Option Code}(bD:Sa Y=true):oh Y aj C todo ⟨fn,n,ao,bb,aR,none,cs⟩ I h j=aj .returning todo ⟨fn,n,ao,bb,aR,none,cs⟩ I h j:=by
 simp only[oh,bD,eW]
def GZ(fn n ao:Nat)(aR:Bool)(ro:Option Nat)(cs:List gB)(I:dc):ff Gc fn n ao aR ro cs cs I=⟨fn,n,ao,[],aR,ro,cs⟩:=by
 unfold ff Gc
 cases I.rc<;>rfl
def G0(fn n ao:Nat)(aR:Bool)(ro:Option Nat)(cs:List gB)(I:dc):ff x9 fn n ao aR ro cs cs I=⟨fn,n,ao,I.bb,aR,ro,cs⟩:=by
 unfold ff x9
 cases I.rc<;>rfl
def alm{C:aT}{f:Nat}{args:List y}{h:M ak}{j:Nat}{Q eE:bQ}(aA:c8 C f args.length=true)(a:dp C f args h j Q eE):ua C f args h j Q eE:=by
 intro aZ dB dR cz bA bM v aE cs e0 ku
 obtain⟨fn,c,bW,al,mi⟩:=PZ aA
 unfold dp at a
 simp only[bW,al]at a
 unfold n4
 simp only[bW,al,lT,mi,eW]
 have bc:yI Gc false none cs cs:=⟨λ_=>rfl,λa=>(by cases a),λa=>(by cases a),λab a=>(by cases a)⟩
 have sr:∀I t h j todo,gQ I t->qI C h I fn.results.toList (λbx=>Q (one bx) h j)->
  nV C aZ bA bM .returning todo (ff Gc f fn.ntmps (Nat.lor (kc c) (nM fn.results.toList)) false none cs cs I) t h j v:=by
  intro I t h j todo a8 a
  rw[GZ]
  exact ND cz aE bW (λab h j ai=>e0 ab h j ai) a8 [] h j todo a
 refine h3 (kN cz ?_)
 rw[<-GZ f fn.ntmps (Nat.lor (kc c) (nM fn.results.toList)) false none cs (c6 args)]
 refine Pq c cz aE Gc false none cs cs _ [] _ _ _ _ _ h j bc (λI t ab h j todo a8 a=> ?_) (λI t h j a8 a=> ?_) (λid I h j a=>a.elim) (λI t h j todo a8 a=> ?_) (O1 args) a
 ·rw[GZ]
  exact adi (te:=fn) (Q:=Q) cz aE bW (λab h j ai=>e0 ab h j ai) (λab h j ai=>ku ab h j ai) a8 ab [] h j todo a
 ·refine kN cz ?_
  have:=sr I t h j [] a8 a
  rw[GZ]at this ⊢
  show oh none (fD C aZ bA bM v) C [] ⟨f,fn.ntmps,Nat.lor (kc c) (nM fn.results.toList),[],false,none,cs⟩ t h j=some v
  rw[F6 rfl]
  exact h3 this
 ·have:=sr I t h j todo a8 a
  rw[GZ]at this ⊢
  rw[F6 rfl]
  exact h3 this
def aln{C:aT}{f:Nat}{args:List y}{h:M ak}{j:Nat}{Q eE:bQ}(aA:c8 C f args.length=true)(a:CM C f args h j Q eE):ua C f args h j Q eE:=by
 intro aZ dB dR cz bA bM v aE cs e0 ku
 obtain⟨fn,c,bW,al,mi⟩:=PZ aA
 unfold CM at a
 simp only[bW,al]at a
 unfold n4
 simp only[bW,al,lT,mi,eW]
 have bc:yI x9 false none cs cs:=⟨λ_=>rfl,λ_=>rfl,λa=>(by cases a),λab a=>(by cases a)⟩
 have sr:∀I t h j todo,gQ I t->pj C fn.results.toList Q I I.bb h j->
  nV C aZ bA bM .returning todo (ff x9 f fn.ntmps (Nat.lor (kc c) (nM fn.results.toList)) false none cs cs I) t h j v:=by
  intro I t h j todo a8 a
  rw[G0]
  exact ND cz aE bW (λab h j ai=>e0 ab h j ai) a8 I.bb h j todo a
 refine h3 (kN cz ?_)
 rw[show(⟨f,fn.ntmps,Nat.lor (kc c) (nM fn.results.toList),[],false,none,cs⟩:ia)=ff x9 f fn.ntmps (Nat.lor (kc c) (nM fn.results.toList)) false none cs cs (c6 args) from(G0 f fn.ntmps (Nat.lor (kc c) (nM fn.results.toList)) false none cs (c6 args)).symm]
 refine Pq c cz aE x9 false none cs cs _ [] _ _ _ _ _ h j bc (λI t ab h j todo a8 a=> ?_) (λI t h j a8 a=> ?_) (λid I h j a=>a.elim) (λI t h j todo a8 a=> ?_) (O1 args) a
 ·rw[G0]
  exact adi (te:=fn) (Q:=Q) cz aE bW (λab h j ai=>e0 ab h j ai) (λab h j ai=>ku ab h j ai) a8 ab I.bb h j todo a
 ·refine kN cz ?_
  have:=sr I t h j [] a8 a
  rw[G0]at this ⊢
  show oh none (fD C aZ bA bM v) C [] ⟨f,fn.ntmps,Nat.lor (kc c) (nM fn.results.toList),I.bb,false,none,cs⟩ t h j=some v
  rw[F6 rfl]
  exact h3 this
 ·have:=sr I t h j todo a8 a
  rw[G0]at this ⊢
  rw[F6 rfl]
  exact h3 this
def Xu{C:aT}{f:Nat}{args:List y}{kE:Option y}{h:M ak}{j:Nat}{Q:Bool->M ak->Nat->Prop}(aA:c8 C f args.length=true)(a:E4 C f args kE h j Q)
 {aZ:World}{dB:cU}{dR:Nat->Prop}(cz:Env C aZ dB dR){bA:Nat}{bM:List Frame}{v:y}(aE:y.same 30 v v=true){cs cZ:List gB}(bc:yI ⟨false,false,some kE⟩ true none cs cZ)
 (anp:∀b ab h j,Q b h j->s2 (fD C aZ bA bM v) true (bH b cZ cs) ab h j=some v):n4 (fD C aZ bA bM v) C f args true cs h j=some v:=by
 obtain⟨fn,c,bW,al,mi⟩:=PZ aA
 unfold E4 at a
 simp only[bW,al]at a
 unfold n4
 simp only[bW,al,lT,mi,eW]
 have sr:∀I t h j todo,gQ I t->qI C h I fn.results.toList (λ_=>Q I.rc h j)->
  nV C aZ bA bM .returning todo (ff ⟨false,false,some kE⟩ f fn.ntmps (Nat.lor (kc c) (nM fn.results.toList)) true none cs cZ I) t h j v:=by
  intro I t h j todo a8 a
  exact ND (Q:=λ_ h j=>Q I.rc h j) cz aE bW (λab h j ai=>anp I.rc ab h j ai) a8 [] h j todo a
 refine h3 (kN cz ?_)
 refine Pq c cz aE ⟨false,false,some kE⟩ true none cs cZ _ [] _ _ _ (c6 args) _ h j bc (λI t ab h j todo a8 a=>a.elim) (λI t h j a8 a=> ?_) (λid I h j a=>a.elim) (λI t h j todo a8 a=> ?_) (O1 args) a
 ·refine kN cz ?_
  show oh none (fD C aZ bA bM v) C [] ⟨f,fn.ntmps,Nat.lor (kc c) (nM fn.results.toList),[],true,none,bH I.rc cZ cs⟩ t h j=some v
  rw[F6 rfl]
  exact h3 (sr I t h j [] a8 a)
 ·show oh (some .ret) (fD C aZ bA bM v) C todo ⟨f,fn.ntmps,Nat.lor (kc c) (nM fn.results.toList),[],true,none,bH I.rc cZ cs⟩ t h j=some v
  rw[F6 rfl]
  exact h3 (sr I t h j todo a8 a)
def Xt{C:aT}{f:Nat}{args:List y}{kE:Option y}{h:M ak}{j:Nat}{Q:Bool->M ak->Nat->Prop}(aA:c8 C f args.length=true)(a:E4 C f args kE h j Q):T0 C f args kE h j Q:=by
 intro aZ dB dR cz bA bM v aE PX aM Gb qV TH akj Hz Ta qY e0
 cases kE with
 |none=>
  refine Xu aA a cz aE (cZ:=_) ⟨λ_=>rfl,λa=>(by cases a),λa=>⟨rfl,rfl⟩,λab a=>(by cases a)⟩ (λb ab h j ai=> ?_)
  have:=e0 b h j ai
  cases b<;>exact this
 |some p=>
  refine Xu aA a cz aE (cZ:=(⟨PX,aM,Gb,qV,TH,akj, .panicking [⟨p,true⟩],Hz,Ta⟩:gB)::qY) ⟨λ_=>rfl,λa=>(by cases a),λa=>(by cases a),λab a=> ?_⟩ (λb ab h j ai=> ?_)
  ·simp only[Zc]at a
   subst a
   exact⟨rfl,rfl⟩
  ·have:=e0 b h j ai
   cases b<;>exact this
def ajx{C:aT}{aZ:World}{dB:cU}{dR:Nat->Prop}(cz:Env C aZ dB dR){f:Nat}{args:List y}{v:y}(aE:y.same 30 v v=true)(iQ:ea dR args)
 (a:ua C f args .nil C.aY (λab _ _=>ab=v) (λ_ _ _=>False)):Calls C.P f (bO dB args).toArray aZ λD w'=>(∃J,D= .returned (aO J v))/\Below aZ.heap.size aZ w':=by
 intro qY
 have bP:Ends C aZ f qY v (lone (Frame.enter C.P f (bO dB args).toArray .normal) qY aZ):=
  Le V7 cz.base (Below.refl _ _) cz.hM (Zj _) .nil (λ_=>rfl) iQ
   (a aZ dB dR cz f qY v aE [] (λab R au D=>by subst D;rfl) (λab R au D=>D.elim))
 obtain⟨J,w',fr,bB,cp,fj,jn⟩:=bP
 exact⟨.returned (aO J v),w',fr,⟨⟨J,rfl⟩,jn⟩,bB,fj,cp⟩
end
end Go.bs

