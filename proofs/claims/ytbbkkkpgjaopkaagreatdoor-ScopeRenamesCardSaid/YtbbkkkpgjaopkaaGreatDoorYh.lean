/- Part of the proof of the last text; no conditions -/
import Derived.Test.YtbbkkkpgjaopkaaGreatDoorYg
set_option maxHeartbeats 8000000
set_option linter.all false
namespace Go.bp
noncomputable section
open Go.RowKit (Below)
def gy(H:da)(t:R z):Prop:=∀n v,H.g n=some v->t.get n=some v
section
variable{C:aM}{h:R ag}{j:Nat}{an:List (Nat×z)}{H:da}{t:R z}
def nE(a:gy H t){x:jR}{ai:z->Prop}(av:i7 x an H ai):∃D,kG x an t=some D/\ai D:=by
 cases x with
 |v W=>exact r4.1 av
 |t n=>
  obtain⟨D,I,M⟩:=r4.1 (show ca (H n) ai from av)
  exact⟨D,a n D I,M⟩
 |c D=>exact⟨D,rfl,av⟩
def akn(a:gy H t):∀{k:List jR}{ai:List z->Prop},KE an H k ai->∃cf,ys an t k=some cf/\ai cf:=by
 intro k
 induction k with
 |nil=>intro ai av;exact⟨[],rfl,av⟩
 |cons x k ah=>
  intro ai av
  obtain⟨D,I,M⟩:=nE a (show i7 x an H (λD=>KE an H k λr=>ai (D::r)) from av)
  obtain⟨r,ak,aA⟩:=ah M
  exact⟨D::r,by simp[ys,I,ak],aA⟩
def g2(a:gy H t){bT:List (Nat×Nat)}{V:Operand}{ai:z->Prop}(av:ek bT an H V ai):∃D,iC bT an t V=some D/\ai D:=by
 cases V with
 |tmp n=>
  simp only[ek]at av
  simp only[iC]
  cases bB:d1 bT n with
  |some W=>simp only[bB]at av ⊢;exact r4.1 av
  |none=>
   simp only[bB]at av ⊢
   obtain⟨D,I,M⟩:=r4.1 av
   exact⟨D,a n D I,M⟩
 |const v=>exact r4.1 av
 |global g=>exact⟨_,rfl,av⟩
 |func f=>exact⟨_,rfl,av⟩
def CJ(a:gy H t){bT:List (Nat×Nat)}:∀{k:List Operand}{ai:List z->Prop},r3 bT an H k ai->∃cf,ph (iC bT an t) k=some cf/\ai cf:=by
 intro k
 induction k with
 |nil=>intro ai av;exact⟨[],rfl,av⟩
 |cons x k ah=>
  intro ai av
  obtain⟨D,I,M⟩:=g2 a (show ek bT an H x (λD=>r3 bT an H k λr=>ai (D::r)) from av)
  obtain⟨r,ak,aA⟩:=ah M
  exact⟨D::r,by simp[ph,I,ak],aA⟩
def R8(a:gy H t){bT:List (Nat×Nat)}:∀{k:List (Nat×Operand)}{ai:List (Nat×z)->Prop},Az bT an H k ai->∃cf,wE (iC bT an t) k=some cf/\ai cf:=by
 intro k
 induction k with
 |nil=>intro ai av;exact⟨[],rfl,av⟩
 |cons x k ah=>
  intro ai av
  obtain⟨i,V⟩:=x
  obtain⟨D,I,M⟩:=g2 a (show ek bT an H V (λD=>Az bT an H k λr=>ai ((i,D)::r)) from av)
  obtain⟨r,ak,aA⟩:=ah M
  exact⟨(i,D)::r,by simp[wE,I,ak],aA⟩
def R3(a:gy H t){bT:List (Nat×Nat)}{V:Option Operand}{ai:Option z->Prop}(av:MB bT an H V ai):∃D,Aw (iC bT an t) V=some D/\ai D:=by
 cases V with
 |none=>exact⟨none,rfl,av⟩
 |some x=>
  obtain⟨D,I,M⟩:=g2 a (show ek bT an H x (λD=>ai (some D)) from av)
  exact⟨some D,by simp[Aw,I],M⟩
def aqI(a:gy H t){bT:List (Nat×Nat)}{V:Op}{ai:z->Prop}(av:abQ bT V C h an H ai):∃v,nx V C h (iC bT an t)=some v/\ai v:=by
 cases V with
 |build ty jy=>
  obtain⟨db,I,M⟩:=R8 a (show Az bT an H jy.toList _ from av)
  obtain⟨v,ak,aA⟩:=(kn.1 M)
  exact⟨v,by simp[nx,Rr,I,ak],aA⟩
 |binOp op ty x e F3=>
  obtain⟨D,I,M⟩:=g2 a (show ek bT an H x _ from av)
  obtain⟨b,ak,aA⟩:=g2 a M
  obtain⟨v,bq,bV⟩:=(kn.1 aA)
  exact⟨v,by simp[nx,Mb,I,ak,bq],bV⟩
 |unOp op ty x=>
  obtain⟨D,I,M⟩:=g2 a (show ek bT an H x _ from av)
  obtain⟨v,ak,aA⟩:=(kn.1 M)
  exact⟨v,by simp[nx,Rz,I,ak],aA⟩
 |convert s d x=>
  obtain⟨D,I,M⟩:=g2 a (show ek bT an H x _ from av)
  obtain⟨v,ak,aA⟩:=(kn.1 M)
  exact⟨v,by simpa[nx,IC,V4,j4,I]using ak,aA⟩
 |makeInterface ty x=>
  obtain⟨D,I,M⟩:=g2 a (show ek bT an H x _ from av)
  obtain⟨v,ak,aA⟩:=(kn.1 M)
  exact⟨v,by simpa[nx,IE,abg,j4,I]using ak,aA⟩
 |makeFunc fn first fm=>
  cases fn with
  |func f=>
   obtain⟨D,I,M⟩:=CJ a (show r3 bT an H first.toList _ from av)
   obtain⟨b,ak,aA⟩:=CJ a M
   exact⟨_,by simp[nx,Rv,I,ak],aA⟩
  |_=>exact av.elim
 |slice ty x bL aE gR=>
  obtain⟨D,I,M⟩:=g2 a (show ek bT an H x _ from av)
  obtain⟨k,ak,aA⟩:=R3 a M
  obtain⟨b,bq,bV⟩:=R3 a aA
  obtain⟨m,c2,eg⟩:=R3 a bV
  obtain⟨v,hf,jX⟩:=(kn.1 eg)
  exact⟨v,by simp[nx,Ry,I,ak,bq,c2,hf],jX⟩
 |field ty x f=>
  obtain⟨D,I,M⟩:=g2 a (show ek bT an H x _ from av)
  obtain⟨v,ak,aA⟩:=(kn.1 M)
  exact⟨v,by simpa[nx,ID,WF,j4,I]using ak,aA⟩
 |index ty x i=>
  obtain⟨D,I,M⟩:=g2 a (show ek bT an H x _ from av)
  obtain⟨b,ak,aA⟩:=g2 a M
  obtain⟨v,bq,bV⟩:=(kn.1 aA)
  exact⟨v,by simp[nx,Rw,I,ak,bq],bV⟩
 |lookup ty m o ok=>
  obtain⟨D,I,M⟩:=g2 a (show ek bT an H m _ from av)
  obtain⟨b,ak,aA⟩:=g2 a M
  obtain⟨v,bq,bV⟩:=(kn.1 aA)
  exact⟨v,by simp[nx,Rx,I,ak,bq],bV⟩
 |typeAssert x ty ts ok=>
  obtain⟨D,I,M⟩:=g2 a (show ek bT an H x _ from av)
  obtain⟨v,ak,aA⟩:=(kn.1 M)
  exact⟨v,by simpa[nx,IB,Vy,j4,I]using ak,aA⟩
 |entry ej=>
  obtain⟨D,I,M⟩:=g2 a (show ek bT an H ej _ from av)
  obtain⟨v,ak,aA⟩:=(kn.1 M)
  exact⟨v,by simpa[nx,Ru,Wt,j4,I]using ak,aA⟩
 |call c=>
  obtain⟨callee,args,cS⟩:=c
  cases callee with
  |builtin b=>
   obtain⟨bj,I,M⟩:=CJ a (show r3 bT an H args.toList _ from av)
   obtain⟨v,ak,aA⟩:=(kn.1 M)
   refine⟨v, ?_,aA⟩
   have B:nx (.call ⟨.builtin b,args,cS⟩) C h (iC bT an t)=rm C h b cS.toList bj:=by
    simp only[nx,Rt,Rs,I,rm]
    repeat' split
    all_goals first|rfl|simp_all
   rw[B];exact ak
  |_=>exact av.elim
 |_=>exact av.elim
def Md(a:gy H t){op:jl}{ai:z->Prop}(av:Fh op C h an H ai):∃v,gr op C h an t=some v/\ai v:=by
 cases op with
 |Cu x=>exact nE a av
 |pick c D b=>
  obtain⟨V5,I,M⟩:=nE a (show i7 c an H _ from av)
  obtain⟨M8,rfl,ak,aA⟩:=VK M.out
  cases M8 with
  |true=>
   obtain⟨v,bq,bV⟩:=nE a (ak rfl)
   exact⟨v,by simp[gr,I,Nk,bq],bV⟩
  |false=>
   obtain⟨v,bq,bV⟩:=nE a (aA rfl)
   exact⟨v,by simp[gr,I,Nk,bq],bV⟩
 |fA D=>
  obtain⟨fK,I,M⟩:=nE a (show i7 D an H _ from av)
  obtain⟨v,ak,aA⟩:=(kn.1 M)
  exact⟨v,by simp[gr,I,ak],aA⟩
 |Af n D=>
  obtain⟨fK,I,M⟩:=nE a (show i7 D an H _ from av)
  obtain⟨v,ak,aA⟩:=(kn.1 M)
  exact⟨v,by simp[gr,I,ak],aA⟩
 |off d x=>
  obtain⟨fK,I,M⟩:=nE a (show i7 x an H _ from av)
  obtain⟨v,ak,aA⟩:=(kn.1 M)
  exact⟨v,by simp[gr,I,ak],aA⟩
 |y6 n aO x i=>
  obtain⟨fK,I,M⟩:=nE a (show i7 x an H _ from av)
  obtain⟨cp,ak,aA⟩:=nE a M
  obtain⟨v,bq,bV⟩:=(kn.1 aA)
  exact⟨v,by simp only[gr,I,ak];unfold E9 at bq;cases aE:nh cp<;>simp_all,bV⟩
 |y7 aO x i=>
  obtain⟨fK,I,M⟩:=nE a (show i7 x an H _ from av)
  obtain⟨cp,ak,aA⟩:=nE a M
  obtain⟨v,bq,bV⟩:=(kn.1 aA)
  exact⟨v,by simp only[gr,I,ak];unfold hr at bq;cases aE:nh cp<;>simp_all,bV⟩
 |CA x=>
  obtain⟨fK,I,M⟩:=nE a (show i7 x an H _ from av)
  obtain⟨v,ak,aA⟩:=(kn.1 M)
  exact⟨v,by simp[gr,I,ak],aA⟩
 |Ip op x e=>
  obtain⟨fK,I,M⟩:=nE a (show i7 x an H _ from av)
  obtain⟨cp,ak,aA⟩:=nE a M
  obtain⟨v,bq,bV⟩:=(kn.1 aA)
  exact⟨v,by simp[gr,I,ak,bq],bV⟩
 |ext i x=>
  obtain⟨fK,I,M⟩:=nE a (show i7 x an H _ from av)
  obtain⟨v,ak,aA⟩:=(kn.1 M)
  exact⟨v,by simp[gr,I,ak],aA⟩
 |hC bT V=>exact aqI a av
 |_=>exact av.elim
def arc(a:gy H t){op:jl}{b:Nat}{ai:bN}(av:ab1 op C h b an H ai):∃v cE,nF op C b an t=some (v,cE)/\ai v (bn C h b (some cE)) (b+1):=by
 cases op with
 |make bT V=>
  cases V with
  |alloc ty=>
   obtain⟨⟨v,cE⟩,I,M⟩:=kn.1 (show ar (Cp C ty (j4 undef) b) _ from av)
   exact⟨v,cE,I,M.out⟩
  |box ty x=>
   obtain⟨D,I,M⟩:=g2 a (show ek bT an H x _ from av)
   exact⟨_,_,by simp only[nF,pP,IK,I],M.out⟩
  |buildSlice ty len jy=>
   obtain⟨db,I,M⟩:=R8 a (show Az bT an H jy.toList _ from av)
   obtain⟨⟨v,cE⟩,ak,aA⟩:=(kn.1 M)
   refine⟨v,cE, ?_,aA.out⟩
   simp only[nF,pP,IL,I]
   unfold M1 at ak
   split at ak
   ·rename_i aU
    simp only[aU]
    exact ak
   ·cases ak
  |makeMap ty r=>
   cases r with
   |none=>exact⟨_,_,rfl,(show g1 C h b _ _ ai from av).out⟩
   |some r=>exact av.elim
  |_=>exact av.elim
 |_=>exact av.elim
def ara(a:gy H t){op:jl}{b:Nat}{ai:z->R ag->Prop}(av:RP op C h b an H ai):∃v cE,nF op C b an t=some (v,cE)/\ai v (bn C h b (some cE)):=by
 cases op with
 |make bT V=>
  cases V with
  |alloc ty=>
   obtain⟨⟨v,cE⟩,I,M⟩:=kn.1 (show ar (Cp C ty (j4 undef) b) _ from av)
   exact⟨v,cE,I,M.out⟩
  |box ty x=>
   obtain⟨D,I,M⟩:=g2 a (show ek bT an H x _ from av)
   exact⟨_,_,by simp only[nF,pP,IK,I],M.out⟩
  |buildSlice ty len jy=>
   obtain⟨db,I,M⟩:=R8 a (show Az bT an H jy.toList _ from av)
   obtain⟨⟨v,cE⟩,ak,aA⟩:=(kn.1 M)
   refine⟨v,cE, ?_,aA.out⟩
   simp only[nF,pP,IL,I]
   unfold M1 at ak
   split at ak
   ·rename_i aU
    simp only[aU]
    exact ak
   ·cases ak
  |makeMap ty r=>
   cases r with
   |none=>exact⟨_,_,rfl,(show l7 C h b _ _ ai from av).out⟩
   |some r=>exact av.elim
  |_=>exact av.elim
 |_=>exact av.elim
def VS{rd:Bool}{f:Nat}{cf:List z}{ai aw:bN}(a:a7 C f cf h j ai aw):∃r,rl C f cf=some r/\A6 C rd (some r) h j ai aw:=by
 rcases a.out with ⟨aa,I,M⟩|⟨I,⟨fn,c,M,ak⟩,aA⟩
 ·exact⟨.known f cf aa,by simp[rl,I],M⟩
 ·exact⟨.enter f cf,by simp[rl,I,M,ak],aA⟩
def xC{rd:Bool}{V:Option dI}{ai aw:bN}(a:ht V h j ai):∃r,V=some r/\A6 C rd (some r) h j ai aw:=by
 rw[atk]at a
 split at a
 ·exact⟨_,rfl,a⟩
 ·exact⟨_,rfl,a⟩
 ·exact a.elim
def akL{rd:Bool}{V:Option dI}{ai aw:bN}(a:Eb V h j ai):∃r,V=some r/\A6 C rd (some r) h j ai aw:=by
 rw[akM]at a
 split at a
 ·exact⟨_,rfl,a⟩
 ·exact⟨_,rfl,a⟩
 ·exact⟨_,rfl,a⟩
 ·exact a.elim
def XT(a:gy H t){rd:Bool}{op:jl}{ai aw:bN}(av:P9 rd op C h j an H ai aw):∃r,hn op C h j an t=some r/\A6 C rd (some r) h j ai aw:=by
 cases op with
 |st n D v=>
  obtain⟨fK,I,M⟩:=nE a (show i7 D an H _ from av)
  obtain⟨gp,ak,aA⟩:=nE a M
  obtain⟨S,bq,bV⟩:=(kn.1 aA)
  refine⟨.fl undef S j, ?_,bV⟩
  simp only[hn,I,ak]
  unfold fc at bq
  split at bq
  ·simp only[ey]at bq
   simp[M3,bq.2,eU,bq.1]
  ·cases bq
 |call f args=>
  obtain⟨cf,I,M⟩:=akn a (show KE an H args _ from av)
  obtain⟨r,ak,aA⟩:=VS (rd:=rd) M
  exact⟨r,by simp[hn,I,ak],aA⟩
 |e2 bT V=>
  cases V with
  |mapUpdate ty m o x=>
   obtain⟨D,I,M⟩:=g2 a (show ek bT an H m _ from av)
   obtain⟨b,ak,aA⟩:=g2 a M
   obtain⟨c,bq,bV⟩:=g2 a aA
   obtain⟨r,c2,eg⟩:=xC (C:=C) (aw:=aw) (rd:=rd) bV
   exact⟨r,by simp[hn,mR,Et,I,ak,bq,c2],eg⟩
  |insert ty m o x=>
   obtain⟨D,I,M⟩:=g2 a (show ek bT an H m _ from av)
   obtain⟨b,ak,aA⟩:=g2 a M
   obtain⟨c,bq,bV⟩:=g2 a aA
   obtain⟨r,c2,eg⟩:=xC (C:=C) (aw:=aw) (rd:=rd) bV
   exact⟨r,by simp[hn,mR,Et,I,ak,bq,c2],eg⟩
  |mapEntry ty m o=>
   obtain⟨D,I,M⟩:=g2 a (show ek bT an H m _ from av)
   obtain⟨b,ak,aA⟩:=g2 a M
   obtain⟨r,c2,eg⟩:=xC (C:=C) (aw:=aw) (rd:=rd) aA
   exact⟨r,by simpa[hn,mR,Hs,two,Go.bp.j3,Go.bp.gH,I,ak]using c2,eg⟩
  |entryStore ty m s x=>
   obtain⟨D,I,M⟩:=g2 a (show ek bT an H m _ from av)
   obtain⟨b,ak,aA⟩:=g2 a M
   obtain⟨c,bq,bV⟩:=g2 a aA
   obtain⟨r,c2,eg⟩:=xC (C:=C) (aw:=aw) (rd:=rd) bV
   exact⟨r,by simpa[hn,mR,Hl,adG,Go.bp.j3,Go.bp.gH,Go.bp.l9,I,ak,bq]using c2,eg⟩
  |makeSlice ty k c=>
   obtain⟨D,I,M⟩:=g2 a (show ek bT an H k _ from av)
   obtain⟨b,ak,aA⟩:=g2 a M
   obtain⟨r,c2,eg⟩:=xC (C:=C) (aw:=aw) (rd:=rd) aA
   exact⟨r,by simpa[hn,mR,Hr,two,Go.bp.j3,Go.bp.gH,I,ak]using c2,eg⟩
  |makeMap ty iW=>
   cases iW with
   |none=>exact av.elim
   |some x=>
    obtain⟨D,I,M⟩:=g2 a (show ek bT an H x _ from av)
    obtain⟨r,c2,eg⟩:=xC (C:=C) (aw:=aw) (rd:=rd) M
    exact⟨r,by simpa[hn,mR,Hq,j4,I]using c2,eg⟩
  |convert s d x=>
   obtain⟨D,I,M⟩:=g2 a (show ek bT an H x _ from av)
   obtain⟨r,c2,eg⟩:=xC (C:=C) (aw:=aw) (rd:=rd) M
   exact⟨r,by simpa[hn,mR,Hy,j4,I]using c2,eg⟩
  |range ty x=>
   obtain⟨D,I,M⟩:=g2 a (show ek bT an H x _ from av)
   obtain⟨r,c2,eg⟩:=xC (C:=C) (aw:=aw) (rd:=rd) M
   exact⟨r,by simpa[hn,mR,Hw,j4,I]using c2,eg⟩
  |next ej xl=>
   obtain⟨D,I,M⟩:=g2 a (show ek bT an H ej _ from av)
   obtain⟨r,c2,eg⟩:=akL (C:=C) (aw:=aw) (rd:=rd) M
   exact⟨r,by simpa[hn,mR,va,j4,I]using c2,eg⟩
  |panic x=>
   cases rd with
   |true=>exact(show False from av).elim
   |false=>
    obtain⟨D,I,M⟩:=g2 a (show ek bT an H x _ from av)
    rw[asq]at M
    split at M
    ·rename_i n2 avx
     exact⟨.panic (.iface n2 avx),by simp[hn,mR,PL,I],M⟩
    ·exact M.elim
  |call c=>
   obtain⟨callee,args,cS⟩:=c
   cases callee with
   |value f=>
    obtain⟨lX,I,M⟩:=g2 a (show ek bT an H f _ from av)
    obtain⟨cf,ak,aA⟩:=CJ a M
    have aA:=aA.out
    split at aA
    ·split at aA
     ·obtain⟨r,bq,bV⟩:=VS (rd:=rd) aA
      exact⟨r,by simp[hn,mR,Bx,I,ak,yc];simpa using bq,bV⟩
     ·exact⟨.round _ _,by simp only[hn,mR,Bx,I,ak,yc],aA⟩
     ·exact aA.elim
    ·exact aA.elim
   |builtin b=>
    obtain⟨bj,I,M⟩:=CJ a (show r3 bT an H args.toList _ from av)
    obtain⟨r,c2,eg⟩:=xC (C:=C) (aw:=aw) (rd:=rd) M
    refine⟨r, ?_,eg⟩
    have B:∀r,Ew C h j b cS.toList bj=some r->hn (.e2 bT (.call ⟨.builtin b,args,cS⟩)) C h j an t=some r:=by
     intro r U
     simp only[hn,mR,Bx,Hh,I]
     unfold Ew at U
     split at U
     all_goals first|exact U|cases U
    exact B r c2
   |invoke x name=>
    obtain⟨hF,I,M⟩:=g2 a (show ek bT an H x _ from av)
    obtain⟨cf,ak,aA⟩:=CJ a M
    rw[arl]at aA
    split at aA
    ·cases aX:DL C h _ _ name cf with
     |none=>rw[aX]at aA;exact aA.elim
     |some r=>rw[aX]at aA;exact⟨r,by simp[hn,mR,Bx,I,ak,aX],aA⟩
    ·exact aA.elim
  |_=>exact av.elim
 |_=>exact av.elim
def alG{k9:Bool}{v:z}{D b:Prop}(a:im k9 v D b):∃w,(match v with| .bool b=>some (b==k9)|_=>some false)=some w/\(w=true->D)/\(w=false->b):=by
 have a:=a.out
 cases v with
 |bool t=>
  obtain⟨I,M⟩:=a
  refine⟨t==k9,rfl,λB=>I (by simpa using B),λB=>M ?_⟩
  cases t<;>cases k9<;>simp_all
 |_=>exact⟨false,rfl,Zs,λ_=>a⟩
def Nf{g:Option (Nat×Bool)}{D b:Prop}(a:Nd g an D b):∃w,n3 g an=some w/\(w=true->D)/\(w=false->b):=by
 cases g with
 |none=>exact⟨true,rfl,λ_=>a,Zs⟩
 |some p=>
  obtain⟨W,k9⟩:=p
  obtain⟨v,I,M⟩:=r4.1 (show ca (d1 an W) _ from a)
  obtain⟨w,ak,aA⟩:=alG M
  exact⟨w,by simp only[n3,I];exact ak,aA⟩
def adm(a:gy H t)(d:Nat)(v:z):gy (ac H d v) (t.set d (some v)):=by
 intro n aa aU
 have aU:=(show bK (Nat.beq d n) (some v) (H.g n)=some aa from aU)
 rw[hw]at aU
 rw[R.jF]
 split at aU
 ·rename_i B;rw[Zp B];exact aU
 ·rename_i B;rw[Zg B];exact a n aa aU
def WI:∀{k:List (Nat×Nat)}{H:da}{t:R z}{ai:da->Prop},gy H t->G6 k an H ai->∃cN dC,wH an k t=some dC/\gy cN dC/\(cN.aW=H.aW/\cN.rc=H.rc)/\ai cN:=by
 intro k
 induction k with
 |nil=>intro H t ai a av;exact⟨H,t,rfl,a,⟨rfl,rfl⟩,av⟩
 |cons p k ah=>
  intro H t ai a av
  obtain⟨i,d⟩:=p
  obtain⟨v,I,M⟩:=r4.1 (show ca (d1 an i) (λv=>G6 k an (ac H d v) ai) from av)
  obtain⟨cN,dC,ak,aA,bq⟩:=ah (adm a d v) M
  exact⟨cN,dC,by simp[wH,I,ak],aA,bq⟩
def auq{op:jl}{bT:List (Nat×Nat)}{f:Operand}{args:List Operand}(a:C0 op= .defer bT f args):∃c:Array Operand×Array TypeId,args=c.1.toList/\op= .e2 bT (.defer ⟨.value f,c.1,c.2⟩):=by
 unfold C0 at a
 split at a
 ·split at a
  ·split at a
   ·injection a with I M ak
    subst I M ak
    exact⟨(_,_),rfl,rfl⟩
   ·cases a
  ·split at a
   ·split at a<;>cases a
   ·cases a
  ·cases a
 ·cases a
def aur{op:jl}(a:C0 op= .recover):∃bT cS args,op= .e2 bT (.call ⟨.builtin .recover,args,cS⟩)/\args.toList=[]:=by
 unfold C0 at a
 split at a
 ·split at a
  ·split at a<;>cases a
  ·split at a
   ·split at a
    ·rename_i aC
     exact⟨_,_,_,rfl,aC⟩
    ·cases a
   ·cases a
  ·cases a
 ·cases a
def ato(a:gy H t):∀{k:List ResultVar}{ai:List z->Prop},qo C h H k ai->∃bj,vQ C h t k=some bj/\ai bj:=by
 intro k
 induction k with
 |nil=>intro ai av;exact⟨[],rfl,av⟩
 |cons x k ah=>
  intro ai av
  cases x with
  |tmp n=>
   obtain⟨v,I,M⟩:=r4.1 (show ca (H n) (λv=>qo C h H k λr=>ai (v::r)) from av)
   obtain⟨r,ak,aA⟩:=ah M
   exact⟨v::r,by simp[vQ,a n v I,ak],aA⟩
  |cell D ty=>
   obtain⟨p,I,M⟩:=r4.1 (show ca (H D) (λp=>ar (pb C h ty p) λv=>qo C h H k λr=>ai (v::r)) from av)
   obtain⟨v,ak,aA⟩:=(kn.1 M)
   obtain⟨r,bq,bV⟩:=ah aA
   exact⟨v::r,by simp[vQ,a D p I,ak,bq],bV⟩
def aqK(a:gy H t){base:Nat}:∀{k:List e4}{an:List (Nat×z)}{h:R ag}{ai:List (Nat×z)->R ag->Prop},Mf C base H k an h ai->∃g6 S,uU C base t k an h=some (g6,S)/\ai g6 S:=by
 intro k
 induction k with
 |nil=>intro an h ai av;exact⟨an,h,rfl,av⟩
 |cons x k ah=>
  intro an h ai av
  obtain⟨w,I,M,ak⟩:=Nf ((avD ..).mp (show q1 x.g an (λW=>match l3 x.op with
   | .make=>RP x.op C h (base+x.i) an H W
   |_=>Fh x.op C h an H λv=>W v h) (λv h=>Mf C base H k ((x.i,v)::an) h ai) h from av))
  simp only[uU,I]
  cases w with
  |false=>exact ah (ak rfl)
  |true=>
   have aA:=M rfl
   cases aG:l3 x.op with
   |make=>
    simp only[aG]at aA
    obtain⟨v,cE,bq,bV⟩:=ara a aA
    simp only[bq,gB]
    exact ah bV
   |hC=>
    simp only[aG]at aA
    obtain⟨v,bq,bV⟩:=Md a aA
    simp only[bq]
    exact ah bV
   |e2=>
    simp only[aG]at aA
    obtain⟨v,bq,bV⟩:=Md a aA
    simp only[bq]
    exact ah bV
def atc(a:gy H t):∀{k:List e4}{ai:Prop},Sh C H an h k ai->Bj C t an h k=true/\ai:=by
 intro k
 induction k with
 |nil=>intro ai av;exact⟨rfl,av⟩
 |cons x k ah=>
  intro ai av
  obtain⟨w,I,M,ak⟩:=Nf ((avE ..).mp (show S9 x.g an (λal=>Fh x.op C h an H λv=>hG v (d1 an x.i) al) (Sh C H an h k ai) from av))
  simp only[Bj,I]
  cases w with
  |false=>exact ah (ak rfl)
  |true=>
   obtain⟨v,bq,bV⟩:=Md a (M rfl)
   obtain⟨aa,c2,eg,hf⟩:=r4.1 bV.out
   obtain⟨jX,nH⟩:=ah hf
   exact⟨by simp[bq,c2,eg,jX],nH⟩
end
section
variable{C:aM}{dx:cQ}{dE:Nat->Prop}{bi:World}{bz:Nat}{bH:List Frame}{v:z}
variable{fn n am:Nat}{bG:tn}{aH:Bool}{ro:Option Nat}{cs cU:List gh}
def kf(cA:Env C bi dx dE){bG:ku}{todo:List dy}{bR:hR}{H:R z}{h:R ag}{j:Nat}(a:SP (fv C bi bz bH v) C bG todo bR H h j=some v):ns C bi bz bH bG todo bR H h j v:=
 λJ Y w c0 tmps bo ax cK=>adv cA Vr _ _ _ _ _ _ _ _ _ _ _ _ v a J Y w c0 tmps bo ax cK
def e7(bG:tn)(fn n am:Nat)(aH:Bool)(ro:Option Nat)(cs cU:List gh)(H:da):hR:=⟨fn,n,am,bK bG.aW H.aW [],aH,ro,bK H.rc cU cs⟩
structure x2(bG:tn)(aH:Bool)(ro:Option Nat)(cs cU:List gh):Prop where
 rd:bG.rd=false->ro=none
 aW:bG.aW=true->ro=none
 none:bG.j5=some none->cU=cs/\AL aH cs=some (.nilIface,cs)
 some:∀aa,bG.j5=some (some aa)->AL aH cs=some (aa,cU)/\AL aH cU=some (.nilIface,cU)
def atK{ah:g5}{C:aM}{k:Nat}{args:List z}{ej:dy}{o:List dy}{bR:hR}{H:R z}{h:R ag}{j:Nat}:ny (.round k args) ah C ej o bR H h j=MU ah C k args (C3 ej o bR H) h j:=rfl
def Wk{H:da}{t:R z}(a:gy H t)(k:List Nat):gy (hx k H) (uW k t):=by
 intro n v bt
 rw[Kt]
 by_cases aL:n∈k
 ·simp[hx,eU,ab8,aL]at bt
 ·simp[hx,eU,ab8,aL]at bt
  rw[Zg aL];exact a n v bt
def Oc{D b:Nat}(a:D<=b):Nat.ble D b=true:=by simpa using a
def Vp(aD:z.same 30 v v=true)(aX:x2 bG aH ro cs cU){ej:dy}{o:List dy}{nu:da}{H:R z}{h:R ag}{j:Nat}{ai aw:bN}(cA:Env C bi dx dE)
 (iq:∀aa h j,ai aa h j->∃hb,oo ej aa=some hb/\ns C bi bz bH .run (hb::o) (e7 bG fn n am aH ro cs cU nu) H h j v)
 (cv:∀aa h j todo,aw aa h j->ns C bi bz bH (.panicking [⟨aa,false⟩]) todo (e7 bG fn n am aH ro cs cU nu) (tB (ej::o) H) h j v){r:dI}(a:A6 C bG.rd (some r) h j ai aw):
 ny r (fv C bi bz bH v) C ej o (e7 bG fn n am aH ro cs cU nu) H h j=some v:=by
 have fill:∀aa h j,ai aa h j->(match oo ej aa with|some hb=>fv C bi bz bH v .run (hb::o) (e7 bG fn n am aH ro cs cU nu) H h j|none=>none)=some v:=by
  intro aa h j aG
  obtain⟨hb,I,M⟩:=iq aa h j aG
  rw[I]
  exact hJ M
 cases r with
 |val aa=>exact fill aa h j a
 |fl aa S aq=>exact fill aa S aq a
 |enter f args=>
  refine a bi dx dE cA bz bH v aD (C3 ej o (e7 bG fn n am aH ro cs cU nu) H) (λaa S aq al=> ?_) (λaa S aq al=> ?_)
  ·exact fill aa S aq al
  ·exact hJ (cv aa S aq _ al)
 |round k args=>
  rw[atK]
  refine a bi dx dE cA bz bH v aD (C3 ej o (e7 bG fn n am aH ro cs cU nu) H) (λaa S aq al=> ?_) (λaa S aq al=> ?_)
  ·exact fill aa S aq al
  ·exact hJ (cv aa S aq _ al)
 |known f args aa=>exact fill aa h j a
 |panic aa=>
  have a:=(show bK bG.rd False (aw aa h j) from a)
  cases U:bG.rd with
  |true=>rw[U]at a;exact a.elim
  |false=>
   rw[U]at a
   have ls:=aX.rd U
   subst ls
   exact hJ (cv aa h j _ a)
 |fork k=>exact akK aD k a.1 λaa S aX=>iq aa S j (a.2 aa S aX)
 |_=>exact a.elim
def ajC{ao:Array Oper}{an:List (Nat×z)}{i:Nat}{rest:List e4}{fin:List (Nat×Nat)}{o:List dy}{H:R z}:tB (.sd ao an i rest fin::o) H=uW (dstsOf ao.toList) H:=rfl
def ajB{ao:Array Oper}{an:List (Nat×z)}{b i:Nat}{rest:List uN}{fin:List (Nat×Nat)}{o:List dy}{H:R z}:tB (.xP ao b an i rest fin::o) H=uW (dstsOf ao.toList) H:=rfl
def at2(cA:Env C bi dx dE)(aD:z.same 30 v v=true)(aX:x2 bG aH ro cs cU){ao:Array Oper}{fin:List (Nat×Nat)}{o:List dy}{t:R z}{ai:fE}{aw:si}
 (iq:∀H t h j,gy H t->ai H h j->ns C bi bz bH .run o (e7 bG fn n am aH ro cs cU H) t h j v)
 (cv:∀H t aa h j todo,gy H t->aw H aa h j->ns C bi bz bH (.panicking [⟨aa,false⟩]) todo (e7 bG fn n am aH ro cs cU H) t h j v):
 ∀(rest:List e4) (an:List (Nat×z)) (H:da) (h:R ag) (j:Nat),gy H t->AH C bG fin ai (λH=>aw (hx (dstsOf ao.toList) H)) rest an H h j->xH rest ⟨fv C bi bz bH v,ao,fin,o,e7 bG fn n am aH ro cs cU H⟩ C t an h j=some v:=by
 intro rest
 induction rest with
 |nil=>
  intro an H h j aZ a
  obtain⟨cN,dC,I,M,ak,aA⟩:=WI aZ (show G6 fin an H (λH=>ai H h j) from a)
  show G0 ⟨fv C bi bz bH v,ao,fin,o,e7 bG fn n am aH ro cs cU H⟩ C t an h j=some v
  simp only[G0,KG,I,nW]
  have B:e7 bG fn n am aH ro cs cU H=e7 bG fn n am aH ro cs cU cN:=by unfold e7;rw[ak.1,ak.2]
  rw[B]
  exact hJ (iq _ _ _ _ M aA)
 |cons x rest ah=>
  intro an H h j aZ a
  obtain⟨i,g,op⟩:=x
  show CI i g op rest (xH rest) ⟨fv C bi bz bH v,ao,fin,o,e7 bG fn n am aH ro cs cU H⟩ C t an h j=some v
  have a:=(show(match C0 op with
   | .no=>Ng g an (λai=>R5 bG.rd op C h j an H ai (aw (hx (dstsOf ao.toList) H))) (λv h j=>AH C bG fin ai (λH=>aw (hx (dstsOf ao.toList) H)) rest ((i,v)::an) H h j) h j
   | .defer bT f args=>bK (g.isNone&&bG.aW) (ek bT an H f λlX=>r3 bT an H args λcf=>Kl lX cf H λH=>AH C bG fin ai (λH=>aw (hx (dstsOf ao.toList) H)) rest ((i,undef)::an) H h j) False
   | .recover=>bK (g.isNone&& !bG.rd) (Jb bG.j5 H λv H=>AH C bG fin ai (λH=>aw (hx (dstsOf ao.toList) H)) rest ((i,v)::an) H h j) False) from a)
  cases y0:C0 op with
  |no=>
   rw[y0]at a
   obtain⟨w,I,M,ak⟩:=Nf ((ad2 ..).mp a)
   simp only[CI,Nc,I,nW]
   cases w with
   |false=>simp only[Zu,ZD];exact ah _ _ _ _ aZ (ak rfl)
   |true=>
    simp only[ZE]
    have aA:=M rfl
    rw[MC]
    unfold R5 at aA
    cases aG:l3 op with
    |hC=>
     simp only[aG]at aA ⊢
     obtain⟨aa,bq,bV⟩:=Md aZ aA
     rw[bq]
     exact ah _ _ _ _ aZ bV
    |make=>
     simp only[aG]at aA ⊢
     obtain⟨aa,cE,bq,bV⟩:=arc aZ aA
     simp only[Mh,lG,bq,gB,nW]
     exact ah _ _ _ _ aZ bV
    |e2=>
     simp only[aG]at aA ⊢
     obtain⟨r,bq,bV⟩:=XT aZ aA
     rw[bq]
     have pS:ny r (fv C bi bz bH v) C (.sd ao an i rest fin) o (e7 bG fn n am aH ro cs cU H) t h j=some v:=by
      refine Vp aD aX cA (λaa h j al=>⟨_,rfl, ?_⟩) (λaa h j todo al=> ?_) bV
      ·exact kf cA (ah _ _ _ _ aZ al)
      ·rw[ajC];exact cv (hx (dstsOf ao.toList) H) _ _ _ _ _ (Wk aZ _) al
     cases r with
     |val aa=>exact ah _ _ _ _ aZ bV
     |fl aa S aq=>exact ah _ _ _ _ aZ bV
     |_=>exact pS
  |defer bT f args=>
   rw[y0]at a
   obtain⟨c,rfl,rfl⟩:=auq y0
   have a:=(show bK (g.isNone&&bG.aW) _ False from a)
   cases g with
   |some g=>exact a.elim
   |none=>
    cases pn:bG.aW with
    |false=>rw[pn]at a;exact a.elim
    |true=>
     rw[pn]at a
     obtain⟨lX,I,M⟩:=g2 aZ (show ek bT an H f _ from a)
     obtain⟨cf,ak,aA⟩:=CJ aZ M
     have ls:=aX.aW pn
     subst ls
     cases lX with
     |func g first fm=>
      simp only[CI,Nc,n3,nW,ZE]
      rw[MC]
      have aG:l3 (.e2 bT (.defer ⟨.value f,c.1,c.2⟩))= .e2:=rfl
      have af:hn (.e2 bT (.defer ⟨.value f,c.1,c.2⟩)) C h j an t=some (.defer ⟨.fn g fm,first++cf⟩):=by
       simp only[hn,mR,Py,I,ak]
      simp only[aG,af]
      have fT:e7 bG fn n am aH none cs cU H=⟨fn,n,am,H.aW,aH,none,bK H.rc cU cs⟩:=by unfold e7;rw[pn];rfl
      show ny (.defer ⟨.fn g fm,first++cf⟩) (fv C bi bz bH v) C (.sd ao an i rest fin) o (e7 bG fn n am aH none cs cU H) t h j=some v
      rw[fT]
      show fv C bi bz bH v .run (.FL ao ((i,undef)::an) rest fin::o) ⟨fn,n,am,⟨.fn g fm,first++cf⟩::H.aW,aH,none,bK H.rc cU cs⟩ t h j=some v
      have dp:(⟨fn,n,am,⟨.fn g fm,first++cf⟩::H.aW,aH,none,bK H.rc cU cs⟩:hR)=e7 bG fn n am aH none cs cU (AC H ⟨.fn g fm,first++cf⟩):=by unfold e7;rw[pn];rfl
      rw[dp]
      exact hJ (kf cA (ah _ (AC H ⟨.fn g fm,first++cf⟩) _ _ aZ aA))
     |_=>exact aA.elim
  |recover=>
   rw[y0]at a
   obtain⟨bT,cS,args,rfl,vd⟩:=aur y0
   have a:=(show bK (g.isNone&& !bG.rd) _ False from a)
   cases g with
   |some g=>exact a.elim
   |none=>
    cases cW:bG.rd with
    |true=>rw[cW]at a;exact a.elim
    |false=>
     rw[cW]at a
     have ls:=aX.rd cW
     subst ls
     have a:Jb bG.j5 H (λv H=>AH C bG fin ai (λH=>aw (hx (dstsOf ao.toList) H)) rest ((i,v)::an) H h j):=a
     simp only[CI,Nc,n3,nW,ZE]
     rw[MC]
     have aG:l3 (.e2 bT (.call ⟨.builtin .recover,args,cS⟩))= .e2:=rfl
     have af:hn (.e2 bT (.call ⟨.builtin .recover,args,cS⟩)) C h j an t=some .recover:=by
      simp only[hn,mR,Bx,Hh,vd,ph]
     simp only[aG,af]
     show ny .recover (fv C bi bz bH v) C (.sd ao an i rest fin) o (e7 bG fn n am aH none cs cU H) t h j=some v
     have key:∀aa cN,gy cN t->AL aH (bK H.rc cU cs)=some (aa,bK cN.rc cU cs)->cN.aW=H.aW->AH C bG fin ai (λH=>aw (hx (dstsOf ao.toList) H)) rest ((i,aa)::an) cN h j->ny .recover (fv C bi bz bH v) C (.sd ao an i rest fin) o (e7 bG fn n am aH none cs cU H) t h j=some v:=by
      intro aa cN Q2 I M ak
      show(match AL aH (bK H.rc cU cs)with
       |some (gp,ajg)=>(match oo (.sd ao an i rest fin) gp with|some hb=>fv C bi bz bH v .run (hb::o) ⟨fn,n,am,bK bG.aW H.aW [],aH,none,ajg⟩ t h j|none=>none)
       |none=>none)=some v
      rw[I]
      show fv C bi bz bH v .run (.FL ao ((i,aa)::an) rest fin::o) ⟨fn,n,am,bK bG.aW H.aW [],aH,none,bK cN.rc cU cs⟩ t h j=some v
      have fT:(⟨fn,n,am,bK bG.aW H.aW [],aH,none,bK cN.rc cU cs⟩:hR)=e7 bG fn n am aH none cs cU cN:=by unfold e7;rw[M]
      rw[fT]
      exact hJ (kf cA (ah _ _ _ _ Q2 ak))
     unfold Jb at a
     cases av:bG.j5 with
     |none=>rw[av]at a;exact a.elim
     |some p=>
      rw[av]at a
      cases p with
      |none=>
       obtain⟨I,M⟩:=aX.none av
       subst I
       refine key _ H aZ ?_ rfl a
       cases H.rc<;>exact M
      |some aa=>
       obtain⟨I,M⟩:=aX.some aa av
       cases ET:H.rc with
       |true=>
        simp only[ET]at a
        refine key _ H aZ ?_ rfl a
        simp only[ET];exact M
       |false=>
        simp only[ET]at a
        refine key aa (SD H) aZ ?_ rfl a
        simp only[ET];exact I
def ajA(cA:Env C bi dx dE)(aD:z.same 30 v v=true)(aX:x2 bG aH ro cs cU){ao:Array Oper}{base:Nat}{fin:List (Nat×Nat)}{o:List dy}{H:da}{t:R z}(aZ:gy H t){ai:fE}{aw:si}
 (iq:∀H t h j,gy H t->ai H h j->ns C bi bz bH .run o (e7 bG fn n am aH ro cs cU H) t h j v)
 (cv:∀H t aa h j todo,gy H t->aw H aa h j->ns C bi bz bH (.panicking [⟨aa,false⟩]) todo (e7 bG fn n am aH ro cs cU H) t h j v):
 ∀(kT:List uN) (an:List (Nat×z)) (h:R ag) (j:Nat),OJ C bG.rd base fin H ai (aw (hx (dstsOf ao.toList) H)) kT an h j->wB (fv C bi bz bH v) C ao base an kT fin o (e7 bG fn n am aH ro cs cU H) t h j=some v:=by
 intro kT
 induction kT with
 |nil=>intro an h j a;exact a.elim
 |cons s rest ah=>
  intro an h j a
  obtain⟨g6,S,I,M⟩:=aqK aZ (show Mf C base H s.sZ an h _ from a)
  obtain⟨ak,aA⟩:=atc aZ M
  simp only[wB,I,ak,fj]
  cases gd:s.e2 with
  |none=>
   simp only[gd]at aA
   obtain⟨cN,dC,bq,bV,c2,eg⟩:=WI aZ aA
   simp only[KG,bq,nW]
   have B:e7 bG fn n am aH ro cs cU H=e7 bG fn n am aH ro cs cU cN:=by unfold e7;rw[c2.1,c2.2]
   rw[B]
   exact hJ (iq _ _ _ _ bV eg)
  |some af=>
   simp only[gd]at aA
   obtain⟨w,bq,bV,c2⟩:=Nf ((ad2 ..).mp aA)
   simp only[bq]
   cases w with
   |false=>simp only[kE];exact hJ (kf cA (ah _ _ _ (c2 rfl)))
   |true=>
    obtain⟨r,eg,hf⟩:=XT aZ (bV rfl)
    simp only[fj,eg]
    refine Vp aD aX cA (λaa h j al=>⟨_,rfl, ?_⟩) (λaa h j todo al=> ?_) hf
    ·exact kf cA (ah _ _ _ al)
    ·rw[ajB];exact cv (hx (dstsOf ao.toList) H) _ _ _ _ _ (Wk aZ _) al
def aeu(C:aM)(bi:World)(bz:Nat)(bH:List Frame)(v:z)(co:da->hR)(o:List dy)(id:Nat):fE:=λH h j=>∀t,gy H t->yt id (fv C bi bz bH v) C o (co H) t h j=some v
def KF{id:Nat}{ah:g5}{C:aM}{ej:dy}{o:List dy}{bG:tn}{cs cU:List gh}{nu:da}{H:R z}{h:R ag}{j:Nat}(a:exitTo id (ej::o)=exitTo id o):
 yt id ah C (ej::o) (e7 bG fn n am aH ro cs cU nu) H h j=yt id ah C o (e7 bG fn n am aH ro cs cU nu) H h j:=by
 unfold yt
 rw[a]
 cases exitTo id o with
 |some eE=>rfl
 |none=>
  unfold nT e7
  cases ro with
  |none=>rfl
  |some k=>rfl
def ND(C:aM)(fn n am:Nat)(c:Code):Prop:=
 ∀{bi:World}{dx:cQ}{dE:Nat->Prop}(_:Env C bi dx dE) {bz:Nat}{bH:List Frame}{v:z}(_:z.same 30 v v=true) (bG:tn) (aH:Bool) (ro:Option Nat) (cs cU:List gh) (aw:si) (o:List dy) (ai:fE) (B:Nat->fE) (r:fE) (H:da) (t:R z) (h:R ag) (j:Nat),x2 bG aH ro cs cU->
  (∀H t aa h j todo,gy H t->aw H aa h j->ns C bi bz bH (.panicking [⟨aa,false⟩]) todo (e7 bG fn n am aH ro cs cU H) t h j v)->
  (∀H t h j,gy H t->ai H h j->ns C bi bz bH .run o (e7 bG fn n am aH ro cs cU H) t h j v)->
  (∀id H h j,B id H h j->aeu C bi bz bH v (e7 bG fn n am aH ro cs cU) o id H h j)->
  (∀H t h j todo,gy H t->r H h j->nT (some .ret) (fv C bi bz bH v) C todo (e7 bG fn n am aH ro cs cU H) t h j=some v)->
  gy H t->uT C n am c bG aw ai B r H h j->tz c (fv C bi bz bH v) C o (e7 bG fn n am aH ro cs cU H) t h j=some v
def at8{n:Nat}:∀(db:List Nat) (cf:List z) (H:da) (t:R z) (ai:da->Prop),gy H t->FM n db cf H ai->∃cN dC,vT n db cf t=some dC/\gy cN dC/\ai cN:=by
 intro db
 induction db with
 |nil=>
  intro cf H t ai aZ a
  cases cf with
  |nil=>exact⟨H,t,rfl,aZ,a⟩
  |cons D cf=>exact a.elim
 |cons p db ah=>
  intro cf H t ai aZ a
  cases cf with
  |nil=>exact a.elim
  |cons D cf=>
   have a:=(show bK (Nat.blt p n) (FM n db cf (ac H p D) ai) False from a)
   cases aj:Nat.blt p n with
   |false=>rw[aj]at a;exact a.elim
   |true=>
    rw[aj]at a
    obtain⟨cN,dC,I,M,ak⟩:=ah cf _ _ ai (adm aZ p D) a
    exact⟨cN,dC,by simp only[vT,aj,fj,I],M,ak⟩
def AV(fn n am:Nat)(ro:Option Nat)(cs:List gh)(H:da):e7 Al fn n am false ro cs cs H=⟨fn,n,am,[],false,ro,cs⟩:=by
 unfold e7 Al
 cases H.rc<;>rfl
def RC{ah:g5}{C:aM}{k fn n am:Nat}{t0:R z}{params:List Nat}{assign body:Code}{Kn:Nat}{h9:Option Code}{st:LoopState}{b:Bool}{ai:bN}{todo:List dy}{cs:List gh}{t:R z}{h:R ag}{j:Nat}{v:z}
 (aI:iB C k=true)(av:acJ h9=true)(cK:st=bK h9.isNone .ready .done)(aj:b=h9.isNone)(a:KA C k (λst p=> .loop st p fn n am t0 params assign body Kn) st h9 b ai h j)
 (aG:∀aa h j,ai aa h j->sn ah false cs aa h j=some v):nT h9 ah C todo ⟨fn,n,am,[],false,some k,cs⟩ t h j=some v:=by
 obtain⟨⟨adr,us,I⟩,M⟩:=a
 subst cK aj
 have:=aG _ _ _ M
 simp only[nT,I,aI,av,Yu,Yt,fj,gB]
 exact this
def atL{C:aM}{fn n am:Nat}{assign body:Code}(lH:ND C fn n am assign)(eB:ND C fn n am body){bi:World}{dx:cQ}{dE:Nat->Prop}(cA:Env C bi dx dE){bz:Nat}{bH:List Frame}{v:z}(aD:z.same 30 v v=true){k:Nat}{t:R z}{params:List Nat}{Kn:Nat}{cs:List gh}
 {H:da}{h:R ag}{j:Nat}{args:List z}{ai aw:bN}(az:Z C h k=some (.loop .ready none fn n am t params assign body Kn))(aI:iB C k=true)(aZ:gy H t)
 (fU:∀aa S aq,ai aa S aq->NA C bi bz bH v cs aa S aq)(io:∀aa S aq,aw aa S aq->JR C bi bz bH v cs aa S aq)
 (a:FM n params args H λqz=>r9 C (uT C n am assign) (uT C n am body) k (λst p=> .loop st p fn n am t params assign body Kn) ai aw qz h j):
 MU (fv C bi bz bH v) C k args cs h j=some v:=by
 obtain⟨qz,t1,bA,ao4,I⟩:=at8 _ _ _ _ _ aZ a
 unfold MU
 rw[az]
 simp only[bA]
 have aX:x2 Al false (some k) cs cs:=⟨λa=>(by cases a),λa=>(by cases a),λa=>(by cases a),λaa a=>(by cases a)⟩
 have cv:∀(H:da) (t:R z) (aa:z) (h:R ag) (j:Nat) (todo:List dy),gy H t->aw aa h j->ns C bi bz bH (.panicking [⟨aa,false⟩]) todo (e7 Al fn n am false (some k) cs cs H) t h j v:=by
  intro H t aa h j todo aZ al
  rw[AV]
  refine kf cA ?_
  have:=io aa h j al
  show Jl [⟨aa,false⟩] todo (fv C bi bz bH v) C ⟨fn,n,am,[],false,some k,cs⟩ t h j=some v
  cases cs with
  |nil=>exact this.elim
  |cons c rest=>exact this
 refine hJ (kf cA ?_)
 rw[<-AV fn n am (some k) cs qz]
 refine lH cA aD Al false (some k) cs cs (λ_=>aw) [.beginRound, .code body] _ _ _ qz t1 h j aX cv (λH t h j aZ al=> ?_) (λid H h j al=>al.elim) (λH t h j todo aZ al=>al.elim) ao4 I
 obtain⟨cH,cB⟩:=al
 refine kf cA ?_
 rw[AV]
 show GB (fv C bi bz bH v) C [.code body] ⟨fn,n,am,[],false,some k,cs⟩ t h j=some v
 unfold GB
 simp only[cH,aI,fj,gB]
 refine hJ (kf cA ?_)
 rw[<-AV fn n am (some k) cs H]
 refine eB cA aD Al false (some k) cs cs (λ_=>aw) [] _ _ _ H t _ j aX cv (λH t h j aZ al=> ?_) (λid H h j al t aZ=> ?_) (λH t h j todo aZ al=> ?_) aZ cB
 ·refine kf cA ?_
  rw[AV]
  show nT none (fv C bi bz bH v) C [] ⟨fn,n,am,[],false,some k,cs⟩ t h j=some v
  exact RC aI rfl rfl rfl al fU
 ·rw[AV]
  show nT (some (.exit id)) (fv C bi bz bH v) C (.code (.exit id)::[]) ⟨fn,n,am,[],false,some k,cs⟩ t h j=some v
  exact RC aI rfl rfl rfl al fU
 ·rw[AV]
  exact RC aI rfl rfl rfl al fU
def Ou:∀c:Code,ND C fn n am c:=by
 intro c
 induction c with
 |skip=>intro bi dx dE cA bz bH v aD bG aH ro cs cU aw o ai B r H t h j aX cv iq bl U aZ a;exact hJ (iq _ _ _ _ aZ a)
 |region id ao d=>
  intro bi dx dE cA bz bH v aD bG aH ro cs cU aw o ai B r H t h j aX cv iq bl U aZ a
  cases d with
  |false=>
   obtain⟨al,I,M⟩:=r4.1 (show ca (IR C n ao am) (λr=>AH C bG r.fin ai (λH=>aw (hx (dstsOf ao.toList) H)) r.rest [] H h j) from a)
   show iJ (IR C n ao am) (λr=>NC.rec (motive:=λ_=>dG) (λrest fin=>xH rest ⟨fv C bi bz bH v,ao,fin,o,e7 bG fn n am aH ro cs cU H⟩ C t [] h j) r)=some v
   rw[I]
   exact at2 cA aD aX iq cv _ _ _ _ _ aZ M
  |true=>
   obtain⟨al,I,M⟩:=r4.1 (show ca (IQ C n ao am) (λr=>ff (j+ao.size) λaq=>OJ C bG.rd j r.fin H ai (aw (hx (dstsOf ao.toList) H)) r.kT [] h aq) from a)
   show iJ (IQ C n ao am) (λr=>NB.rec (motive:=λ_=>dG) (λkT fin=>pT j λj=>wB (fv C bi bz bH v) C ao j [] kT fin o (e7 bG fn n am aH ro cs cU H) t h (j+ao.size)) r)=some v
   rw[I]
   show pT j (λj=>wB (fv C bi bz bH v) C ao j [] al.kT al.fin o (e7 bG fn n am aH ro cs cU H) t h (j+ao.size))=some v
   rw[lG]
   exact ajA cA aD aX aZ iq cv _ _ _ _ M.out
 |seq D b l2 ha=>
  intro bi dx dE cA bz bH v aD bG aH ro cs cU aw o ai B r H t h j aX cv iq bl U aZ a
  refine l2 cA aD bG aH ro cs cU aw (.code b::o) (uT C n am b bG aw ai B r) B r H t h j aX cv (λH t h j aZ a=> ?_) (λid H h j a t aZ=> ?_) U aZ a
  ·exact kf cA (ha cA aD bG aH ro cs cU aw o ai B r H t h j aX cv iq bl U aZ a)
  ·rw[KF (by simp[exitTo])]
   exact bl id H h j a t aZ
 |cond c D b l2 ha=>
  intro bi dx dE cA bz bH v aD bG aH ro cs cU aw o ai B r H t h j aX cv iq bl U aZ a
  obtain⟨aa,I,M⟩:=g2 (an:=[]) (bT:=[]) aZ (show ek [] [] H c _ from a)
  obtain⟨M8,rfl,ak,aA⟩:=VK M.out
  have bq:uZ t c=some (.bool M8):=by
   cases c<;>first|(simp[iC,uZ]at I;done)|simpa[iC,uZ]using I
  show GM c t (tz D (fv C bi bz bH v) C o (e7 bG fn n am aH ro cs cU H) t h j) (tz b (fv C bi bz bH v) C o (e7 bG fn n am aH ro cs cU H) t h j)=some v
  simp only[GM,nW,bq]
  cases M8 with
  |true=>exact l2 cA aD bG aH ro cs cU aw o ai B r H t h j aX cv iq bl U aZ (ak rfl)
  |false=>exact ha cA aD bG aH ro cs cU aw o ai B r H t h j aX cv iq bl U aZ (aA rfl)
 |block id b ha=>
  intro bi dx dE cA bz bH v aD bG aH ro cs cU aw o ai B r H t h j aX cv iq bl U aZ a
  refine ha cA aD bG aH ro cs cU aw (.inBlock id::o) ai (Bn id ai B) r H t h j aX cv (λH t h j aZ a=>kf cA (hJ (iq H t h j aZ a))) (λsS H h j a t aZ=> ?_) U aZ a.out
  unfold Bn at a
  rw[hw]at a
  by_cases EE:id=sS
  ·rw[Zp EE]at a
   have bA:exitTo sS (.inBlock id::o)=some o:=by simp[exitTo,EE,hw]
   unfold yt
   rw[bA]
   exact hJ (iq H t h j aZ a)
  ·rw[Zg EE]at a
   rw[KF (by simp[exitTo,hw,EE])]
   exact bl sS H h j a t aZ
 |loop b ha=>
  intro bi dx dE cA bz bH v aD bG aH ro cs cU aw o ai B r H t h j aX cv iq bl U aZ a
  obtain⟨rf,⟨m,Qs⟩,ov⟩:=(show fQ (λN2=>uT C n am b bG aw N2 B r) H h j from a).out
  have IM:∀m H t h j,rf m H h j->gy H t->tz b (fv C bi bz bH v) C (.inLoop b::o) (e7 bG fn n am aH ro cs cU H) t h j=some v:=by
   intro m
   induction m using Nat.strongRecOn with
   |ind m ps=>
    intro H t h j Qs aZ
    refine ha cA aD bG aH ro cs cU aw (.inLoop b::o) _ B r H t h j aX cv (λH t h j aZ a=> ?_) (λid H h j a t aZ=> ?_) U aZ (ov m H h j Qs)
    ·obtain⟨eH,cO,l0⟩:=a
     exact kf cA (ps eH cO H t h j l0 aZ)
    ·rw[KF (by simp[exitTo])]
     exact bl id H h j a t aZ
  exact IM m H t h j Qs aZ
 |rangeFunc f params assign body l2 ha=>
  intro bi dx dE cA bz bH v aD bG aH ro cs cU aw o ai B r H t h j aX cv iq bl U aZ a
  have a:=(show bK bG.aW (OS f H λlX=>CP C n lX params.toList (r9 C (uT C n am assign) (uT C n am body)) ai B r aw H h j) False from a)
  cases pn:bG.aW with
  |false=>rw[pn]at a;exact a.elim
  |true=>
   rw[pn]at a
   have ls:=aX.aW pn
   subst ls
   obtain⟨lX,I,M⟩:=g2 (an:=[]) (bT:=[]) aZ (show ek [] [] H f _ from a)
   have bq:uZ t f=some lX:=by
    cases f<;>first|(simpa[iC,uZ]using I)|(simp[iC]at I;subst I;rfl)
   have awP:=M.low
   have EM:=M.out
   have fT:∀H:da,e7 bG fn n am aH none cs cU H=⟨fn,n,am,H.aW,aH,none,bK H.rc cU cs⟩:=λH=>by unfold e7;rw[pn];rfl
   have XP:iB C (j+1)=true:=Oc Zo
   show Ja f params assign body (fv C bi bz bH v) C o (e7 bG fn n am aH none cs cU H) t h j=some v
   rw[fT]
   unfold Ja
   rw[bq]
   cases lX with
   |func g first fm=>
    cases g with
    |func g=>
     simp only[lG]
     have EM:=EM (λst p=> .loop st p fn n am t params.toList assign body j) ?_
     ·refine EM bi dx dE cA bz bH v aD _ (λaa S aq al=> ?_) (λaa S aq al=> ?_)
      ·obtain⟨st,p,cH,cB,dN⟩:=al
       show(match oo (.inRangeFunc (j+1)) aa with
        |some hb=>fv C bi bz bH v .run (hb::o) ⟨fn,n,am,⟨.collected j,[]⟩::H.aW,aH,none,bK H.rc cU cs⟩ t S aq
        |none=>none)=some v
       refine hJ (kf cA ?_)
       show D5 (j+1) (fv C bi bz bH v) C o ⟨fn,n,am,⟨.collected j,[]⟩::H.aW,aH,none,bK H.rc cU cs⟩ t S aq=some v
       have bA:D5 (j+1) (fv C bi bz bH v) C o ⟨fn,n,am,⟨.collected j,[]⟩::H.aW,aH,none,bK H.rc cU cs⟩ t S aq=fv C bi bz bH v .run ((p.map dy.code).toList++o) ⟨fn,n,am,⟨.collected j,[]⟩::H.aW,aH,none,bK H.rc cU cs⟩ t (bn C S (j+1) (some (.loop .exhausted p fn n am t params.toList assign body j))) aq:=by
        unfold D5
        rw[cB]
        cases st with
        |busy=>exact absurd rfl cH
        |_=>simp only[XP,fj,gB]
       rw[bA]
       have dp:=fT (uo H j)
       have en:(⟨fn,n,am,⟨.collected j,[]⟩::H.aW,aH,none,bK H.rc cU cs⟩:hR)=e7 bG fn n am aH none cs cU (uo H j):=dp.symm
       rw[en]
       have Q4:gy (uo H j) t:=aZ
       cases p with
       |none=>exact hJ (iq _ _ _ _ Q4 dN)
       |some c=>
        refine hJ (kf cA ?_)
        unfold acK at dN
        cases c with
        |exit id=>exact bl id _ _ _ dN t Q4
        |ret=>exact U _ _ _ _ _ Q4 dN
        |_=>exact dN.elim
      ·refine hJ ?_
       have en:(⟨fn,n,am,⟨.collected j,[]⟩::H.aW,aH,none,bK H.rc cU cs⟩:hR)=e7 bG fn n am aH none cs cU (uo H j):=(fT (uo H j)).symm
       have:=cv (uo H j) t aa S aq (.inRangeFunc (j+1)::o) aZ al
       rw[<-en]at this
       exact this
     ·
      intro args a1 CE j9 d5 az bn mM v7 lS OR ez qC S7 kh Ox fU io
      exact atL l2 ha OR kh az XP aZ fU io bn
    |_=>exact EM.elim
   |_=>exact EM.elim
 |exit id=>
  intro bi dx dE cA bz bH v aD bG aH ro cs cU aw o ai B r H t h j aX cv iq bl U aZ a
  exact bl id H h j a t aZ
 |scope b ha=>
  intro bi dx dE cA bz bH v aD bG aH ro cs cU aw o ai B r H t h j aX cv iq bl U aZ a
  refine ha cA aD bG aH ro cs cU aw (.inScope b::o) ai B r H t h j aX cv (λH t h j aZ a=>kf cA (hJ (iq H t h j aZ a))) (λid H h j a t aZ=> ?_) U aZ a
  rw[KF (by simp[exitTo])]
  exact bl id H h j a t aZ
 |label k=>intro bi dx dE cA bz bH v aD bG aH ro cs cU aw o ai B r H t h j aX cv iq bl U aZ a;exact hJ (iq _ _ _ _ aZ a)
 |goto k=>intro bi dx dE cA bz bH v aD bG aH ro cs cU aw o ai B r H t h j aX cv iq bl U aZ a;exact a.elim
 |ret=>
  intro bi dx dE cA bz bH v aD bG aH ro cs cU aw o ai B r H t h j aX cv iq bl U aZ a
  exact U _ _ _ _ _ aZ a
 |refuse s=>intro bi dx dE cA bz bH v aD bG aH ro cs cU aw o ai B r H t h j aX cv iq bl U aZ a;exact a.elim
end
def N6(args:List z):gy (cY args) (R.ofList args 0 .nil):=by
 intro n v a
 rw[lO]
 simpa[cY]using a
section
variable{C:aM}{dx:cQ}{dE:Nat->Prop}{bi:World}{bz:Nat}{bH:List Frame}{v:z}{fn:Nat}{sy:Func}{n am:Nat}{aH:Bool}{cs:List gh}
def MT(cA:Env C bi dx dE)(aD:z.same 30 v v=true)(ch:C.P.funcs[fn]? =some sy){bh:bN}(fU:∀aa h j,bh aa h j->sn (fv C bi bz bH v) aH cs aa h j=some v){H:da}{t:R z}(aZ:gy H t):
 ∀(ds:List he) (h:R ag) (j:Nat) (todo:List dy),oW C sy.results.toList bh H ds h j->ns C bi bz bH .returning todo ⟨fn,n,am,ds,aH,none,cs⟩ t h j v:=by
 intro ds
 induction ds with
 |nil=>
  intro h j todo a
  obtain⟨bj,I,M⟩:=ato aZ (show qo C h H sy.results.toList (λbj=>bh (one bj) h j) from a)
  refine kf cA ?_
  show Jm todo (fv C bi bz bH v) C ⟨fn,n,am,[],aH,none,cs⟩ t h j=some v
  simp only[Jm,ch,I]
  exact fU _ _ _ M
 |cons d ds ah=>
  intro h j todo a
  obtain⟨Jr,cf⟩:=d
  refine kf cA ?_
  show vV ⟨Jr,cf⟩ ds .returning todo (fv C bi bz bH v) C ⟨fn,n,am,[],aH,none,cs⟩ t h j=some v
  cases Jr with
  |collected r=>
   have a:=(show Mu C r h (oW C sy.results.toList bh H ds (bn C h r (some (.deferred none))) j) from a)
   simp only[vV,a.here,show iB C r=true from Oc a.low,fj,gB,YQ]
   exact hJ (ah _ _ _ a.go)
  |fn g cap=>
   have a:=(show yo C g (cf++cap) none h j (λ_ h j=>oW C sy.results.toList bh H ds h j) from a).out
   split at a
   ·rename_i f
    obtain⟨I,⟨u2,c,M,ak⟩,aA⟩:=a
    simp only[vV,yc,rl,I,M,ak]
    exact aA bi dx dE cA bz bH v aD fn n am t todo ds aH none cs λb S aq al=>hJ (ah _ _ _ al)
   ·exact a.elim
def acG(cA:Env C bi dx dE)(aD:z.same 30 v v=true)(ch:C.P.funcs[fn]? =some sy){bh c7:bN}(fU:∀aa h j,bh aa h j->sn (fv C bi bz bH v) aH cs aa h j=some v)(io:∀aa h j,c7 aa h j->JR C bi bz bH v cs aa h j){H:da}{t:R z}(aZ:gy H t)(aa:z):
 ∀(ds:List he) (h:R ag) (j:Nat) (todo:List dy),vN C sy.results.toList bh c7 H aa ds h j->ns C bi bz bH (.panicking [⟨aa,false⟩]) todo ⟨fn,n,am,ds,aH,none,cs⟩ t h j v:=by
 intro ds
 induction ds with
 |nil=>
  intro h j todo a
  refine kf cA ?_
  have:=io aa h j a
  show Jl [⟨aa,false⟩] todo (fv C bi bz bH v) C ⟨fn,n,am,[],aH,none,cs⟩ t h j=some v
  cases cs with
  |nil=>exact this.elim
  |cons c rest=>exact this
 |cons d ds ah=>
  intro h j todo a
  obtain⟨Jr,cf⟩:=d
  refine kf cA ?_
  show vV ⟨Jr,cf⟩ ds (.panicking [⟨aa,false⟩]) todo (fv C bi bz bH v) C ⟨fn,n,am,[],aH,none,cs⟩ t h j=some v
  cases Jr with
  |collected r=>
   have a:=(show Mu C r h (vN C sy.results.toList bh c7 H aa ds (bn C h r (some (.deferred none))) j) from a)
   simp only[vV,a.here,show iB C r=true from Oc a.low,fj,gB,YQ]
   exact hJ (ah _ _ _ a.go)
  |fn g cap=>
   have a:=(show yo C g (cf++cap) (some aa) h j (λb h j=>bK b (oW C sy.results.toList bh H ds h j) (vN C sy.results.toList bh c7 H aa ds h j)) from a).out
   split at a
   ·rename_i f
    obtain⟨I,⟨u2,c,M,ak⟩,aA⟩:=a
    simp only[vV,yc,rl,I,M,ak]
    refine aA bi dx dE cA bz bH v aD fn n am t todo ds aH none cs λb S aq al=> ?_
    cases b with
    |true=>exact hJ (MT cA aD ch fU aZ ds S aq todo al)
    |false=>exact hJ (ah _ _ _ al)
   ·exact a.elim
end
def O4{C:aM}{f dM:Nat}(ay:dd C f dM=true):∃fn c,C.P.funcs[f]? =some fn/\fn.body=some c/\(Nat.ble dM fn.ntmps&&li C (Nat.lor (jL c) (nj fn.results.toList)) c&&xB (Nat.lor (jL c) (nj fn.results.toList)) fn.results.toList)=true:=by
 unfold dd at ay
 split at ay
 ·rename_i fn ch
  split at ay
  ·rename_i c aj;exact⟨fn,c,ch,aj,ay⟩
  ·cases ay
 ·cases ay
def Fg{ah:g5}{C:aM}{fn n am:Nat}{aW:List he}{aH:Bool}{cs:List gh}{todo:List dy}{H:R z}{h:R ag}{j:Nat}{W:Option Code}(bB:Rn W=true):nT W ah C todo ⟨fn,n,am,aW,aH,none,cs⟩ H h j=ah .returning todo ⟨fn,n,am,aW,aH,none,cs⟩ H h j:=by
 simp only[nT,bB,fj]
def Gh(fn n am:Nat)(aH:Bool)(ro:Option Nat)(cs:List gh)(H:da):e7 Fm fn n am aH ro cs cs H=⟨fn,n,am,[],aH,ro,cs⟩:=by
 unfold e7 Fm
 cases H.rc<;>rfl
def Gi(fn n am:Nat)(aH:Bool)(ro:Option Nat)(cs:List gh)(H:da):e7 xr fn n am aH ro cs cs H=⟨fn,n,am,H.aW,aH,ro,cs⟩:=by
 unfold e7 xr
 cases H.rc<;>rfl
def akG{C:aM}{f:Nat}{args:List z}{h:R ag}{j:Nat}{bh c7:bN}(ay:dd C f args.length=true)(a:dr C f args h j bh c7):tk C f args h j bh c7:=by
 intro bi dx dE cA bz bH v aD cs fU io
 obtain⟨fn,c,ch,aj,rC⟩:=O4 ay
 unfold dr at a
 simp only[ch,aj]at a
 unfold nD
 simp only[ch,aj,lG,rC,fj]
 have aX:x2 Fm false none cs cs:=⟨λ_=>rfl,λa=>(by cases a),λa=>(by cases a),λaa a=>(by cases a)⟩
 have rO:∀H t h j todo,gy H t->qo C h H fn.results.toList (λbj=>bh (one bj) h j)->
  ns C bi bz bH .returning todo (e7 Fm f fn.ntmps (Nat.lor (jL c) (nj fn.results.toList)) false none cs cs H) t h j v:=by
  intro H t h j todo aZ a
  rw[Gh]
  exact MT cA aD ch (λaa h j al=>fU aa h j al) aZ [] h j todo a
 refine hJ (kf cA ?_)
 rw[<-Gh f fn.ntmps (Nat.lor (jL c) (nj fn.results.toList)) false none cs (cY args)]
 refine Ou c cA aD Fm false none cs cs _ [] _ _ _ _ _ h j aX (λH t aa h j todo aZ a=> ?_) (λH t h j aZ a=> ?_) (λid H h j a=>a.elim) (λH t h j todo aZ a=> ?_) (N6 args) a
 ·rw[Gh]
  exact acG (sy:=fn) (bh:=bh) cA aD ch (λaa h j al=>fU aa h j al) (λaa h j al=>io aa h j al) aZ aa [] h j todo a
 ·refine kf cA ?_
  have:=rO H t h j [] aZ a
  rw[Gh]at this ⊢
  show nT none (fv C bi bz bH v) C [] ⟨f,fn.ntmps,Nat.lor (jL c) (nj fn.results.toList),[],false,none,cs⟩ t h j=some v
  rw[Fg rfl]
  exact hJ this
 ·have:=rO H t h j todo aZ a
  rw[Gh]at this ⊢
  rw[Fg rfl]
  exact hJ this
def akH{C:aM}{f:Nat}{args:List z}{h:R ag}{j:Nat}{bh c7:bN}(ay:dd C f args.length=true)(a:Bs C f args h j bh c7):tk C f args h j bh c7:=by
 intro bi dx dE cA bz bH v aD cs fU io
 obtain⟨fn,c,ch,aj,rC⟩:=O4 ay
 unfold Bs at a
 simp only[ch,aj]at a
 unfold nD
 simp only[ch,aj,lG,rC,fj]
 have aX:x2 xr false none cs cs:=⟨λ_=>rfl,λ_=>rfl,λa=>(by cases a),λaa a=>(by cases a)⟩
 have rO:∀H t h j todo,gy H t->oW C fn.results.toList bh H H.aW h j->
  ns C bi bz bH .returning todo (e7 xr f fn.ntmps (Nat.lor (jL c) (nj fn.results.toList)) false none cs cs H) t h j v:=by
  intro H t h j todo aZ a
  rw[Gi]
  exact MT cA aD ch (λaa h j al=>fU aa h j al) aZ H.aW h j todo a
 refine hJ (kf cA ?_)
 rw[show(⟨f,fn.ntmps,Nat.lor (jL c) (nj fn.results.toList),[],false,none,cs⟩:hR)=e7 xr f fn.ntmps (Nat.lor (jL c) (nj fn.results.toList)) false none cs cs (cY args) from(Gi f fn.ntmps (Nat.lor (jL c) (nj fn.results.toList)) false none cs (cY args)).symm]
 refine Ou c cA aD xr false none cs cs _ [] _ _ _ _ _ h j aX (λH t aa h j todo aZ a=> ?_) (λH t h j aZ a=> ?_) (λid H h j a=>a.elim) (λH t h j todo aZ a=> ?_) (N6 args) a
 ·rw[Gi]
  exact acG (sy:=fn) (bh:=bh) cA aD ch (λaa h j al=>fU aa h j al) (λaa h j al=>io aa h j al) aZ aa H.aW h j todo a
 ·refine kf cA ?_
  have:=rO H t h j [] aZ a
  rw[Gi]at this ⊢
  show nT none (fv C bi bz bH v) C [] ⟨f,fn.ntmps,Nat.lor (jL c) (nj fn.results.toList),H.aW,false,none,cs⟩ t h j=some v
  rw[Fg rfl]
  exact hJ this
 ·have:=rO H t h j todo aZ a
  rw[Gi]at this ⊢
  rw[Fg rfl]
  exact hJ this
def WR{C:aM}{f:Nat}{args:List z}{j5:Option z}{h:R ag}{j:Nat}{bh:Bool->R ag->Nat->Prop}(ay:dd C f args.length=true)(a:D9 C f args j5 h j bh)
 {bi:World}{dx:cQ}{dE:Nat->Prop}(cA:Env C bi dx dE){bz:Nat}{bH:List Frame}{v:z}(aD:z.same 30 v v=true){cs cU:List gh}(aX:x2 ⟨false,false,some j5⟩ true none cs cU)
 (amA:∀b aa h j,bh b h j->sn (fv C bi bz bH v) true (bK b cU cs) aa h j=some v):nD (fv C bi bz bH v) C f args true cs h j=some v:=by
 obtain⟨fn,c,ch,aj,rC⟩:=O4 ay
 unfold D9 at a
 simp only[ch,aj]at a
 unfold nD
 simp only[ch,aj,lG,rC,fj]
 have rO:∀H t h j todo,gy H t->qo C h H fn.results.toList (λ_=>bh H.rc h j)->
  ns C bi bz bH .returning todo (e7 ⟨false,false,some j5⟩ f fn.ntmps (Nat.lor (jL c) (nj fn.results.toList)) true none cs cU H) t h j v:=by
  intro H t h j todo aZ a
  exact MT (bh:=λ_ h j=>bh H.rc h j) cA aD ch (λaa h j al=>amA H.rc aa h j al) aZ [] h j todo a
 refine hJ (kf cA ?_)
 refine Ou c cA aD ⟨false,false,some j5⟩ true none cs cU _ [] _ _ _ (cY args) _ h j aX (λH t aa h j todo aZ a=>a.elim) (λH t h j aZ a=> ?_) (λid H h j a=>a.elim) (λH t h j todo aZ a=> ?_) (N6 args) a
 ·refine kf cA ?_
  show nT none (fv C bi bz bH v) C [] ⟨f,fn.ntmps,Nat.lor (jL c) (nj fn.results.toList),[],true,none,bK H.rc cU cs⟩ t h j=some v
  rw[Fg rfl]
  exact hJ (rO H t h j [] aZ a)
 ·show nT (some .ret) (fv C bi bz bH v) C todo ⟨f,fn.ntmps,Nat.lor (jL c) (nj fn.results.toList),[],true,none,bK H.rc cU cs⟩ t h j=some v
  rw[Fg rfl]
  exact hJ (rO H t h j todo aZ a)
def WQ{C:aM}{f:Nat}{args:List z}{j5:Option z}{h:R ag}{j:Nat}{bh:Bool->R ag->Nat->Prop}(ay:dd C f args.length=true)(a:D9 C f args j5 h j bh):Tm C f args j5 h j bh:=by
 intro bi dx dE cA bz bH v aD O2 aP Fl qz S2 ajH GO Sr qC fU
 cases j5 with
 |none=>
  refine WR ay a cA aD (cU:=_) ⟨λ_=>rfl,λa=>(by cases a),λa=>⟨rfl,rfl⟩,λaa a=>(by cases a)⟩ (λb aa h j al=> ?_)
  have:=fU b h j al
  cases b<;>exact this
 |some p=>
  refine WR ay a cA aD (cU:=(⟨O2,aP,Fl,qz,S2,ajH, .panicking [⟨p,true⟩],GO,Sr⟩:gh)::qC) ⟨λ_=>rfl,λa=>(by cases a),λa=>(by cases a),λaa a=> ?_⟩ (λb aa h j al=> ?_)
  ·simp only[Ze]at a
   subst a
   exact⟨rfl,rfl⟩
  ·have:=fU b h j al
   cases b<;>exact this
def aiX{C:aM}{bi:World}{dx:cQ}{dE:Nat->Prop}(cA:Env C bi dx dE){f:Nat}{args:List z}{v:z}(aD:z.same 30 v v=true)(ja:d2 dE args)
 (a:tk C f args .nil C.a6 (λaa _ _=>aa=v) (λ_ _ _=>False)):Calls C.P f (bP dx args).toArray bi λB bO=>(∃J,B= .returned (aJ J v))/\Below bi.heap.size bi bO:=by
 intro qC
 have bZ:Ends C bi f qC v (lone (Frame.enter C.P f (bP dx args).toArray .normal) qC bi):=
  KB Vr cA.base (Below.refl _ _) cA.hp (Zi _) .nil (λ_=>rfl) ja
   (a bi dx dE cA f qC v aD [] (λaa S aq B=>by subst B;rfl) (λaa S aq B=>B.elim))
 obtain⟨J,bO,fr,bA,cg,eN,iP⟩:=bZ
 exact⟨.returned (aJ J v),bO,fr,⟨⟨J,rfl⟩,iP⟩,bA,eN,cg⟩
end
noncomputable section
section
variable{C:aM}{h:R ag}{j:Nat}
def bv{b:Nat}{V:Option ag}(a:C.a6<=b):Z C (bn C h b V) b=V:=by rw[fq _ a,Zp rfl]
def aK{b x:Nat}{V:Option ag}(a:C.a6<=b)(af:x≠b):Z C (bn C h b V) x=Z C h x:=by rw[fq _ a,Zg af]
def zP{p:Prop}(h:p:=by simp(disch:=omega) only[aK,bv]<;>rfl):p:=h
def c6(b V:Nat):aR C h (.ptr b V)=match Z C h b with|some (.cells c _ _)=>c.get V|_=>none:=by
 simp only[aR,cellsOf]
 cases Z C h b with
 |none=>rfl
 |some cE=>cases cE<;>rfl
def IG(n b V:Nat):d0 C h n (.ptr b V)=match Z C h b with|some (.cells c _ _)=>(c.kI V n).map z.agg|_=>none:=by
 simp only[d0,cellsOf]
 cases Z C h b with
 |none=>rfl
 |some cE=>
  cases cE with
  |cells c m st=>simp only[];cases c.kI V n<;>rfl
  |_=>rfl
def W2(c:R z)(V:Nat):c.kI V 0=some []:=rfl
def nq:∀(k:List z) (c:R z) (V i:Nat),(dP c V k).get i=if V<=i/\i<V+k.length then k[i-V]? else c.get i:=by
 intro k
 induction k with
 |nil=>intro c V i;simp[dP];intro I M;omega
 |cons D k ah=>
  intro c V i
  simp only[dP,gB]
  rw[ah,R.jF]
  by_cases I:i=V
  ·subst I
   simp
   intro a;omega
  ·by_cases M:V+1<=i/\i<V+1+k.length
   ·rw[Zp M,Zp Zx]
    rw[show i-V=(i-(V+1))+1 by omega]
    simp
   ·rw[Zg M,Zg (λB=>I B.symm),Zg Zx]
def Ae{b V n:Nat}{c:R z}{st:nt}(a:C.a6<=b):aR C (bn C h b (some (.cells c n st))) (.ptr b V)=c.get V:=by
 rw[c6,bv a]
def Cg{b x V:Nat}{cE:Option ag}(a:C.a6<=b)(af:x≠b):aR C (bn C h b cE) (.ptr x V)=aR C h (.ptr x V):=by
 rw[c6,c6,aK a af]
def rY(C:aM)(h:R ag)(b:Nat):Nat->Nat->Option (List z)
 |_,0=>some []
 |V,n+1=>(aR C h (.ptr b V)).bind λD=>(rY C h b (V+1) n).bind λk=>some (D::k)
def Ch{b V n:Nat}:d0 C h (n+1) (.ptr b V)=(rY C h b V (n+1)).bind λk=>some (.agg k):=by
 have a:∀(c:R z) (m:Nat) (st:nt),Z C h b=some (.cells c m st)->∀n V,rY C h b V n=c.kI V n:=by
  intro c m st aj n
  induction n with
  |zero=>intro V;rfl
  |succ n ah=>
   intro V
   simp only[rY,R.kI,c6,aj,ah]
   cases c.get V with
   |none=>rfl
   |some D=>cases c.kI (V+1) n<;>rfl
 rw[IG]
 cases aj:Z C h b with
 |none=>simp[rY,c6,aj]
 |some cE=>
  cases cE with
  |cells c m st=>
   simp only[a c m st aj]
   cases c.kI V (n+1)<;>rfl
  |_=>simp[rY,c6,aj]
structure bD(C:aM)(h:R ag)(j:Nat)(S:R ag)(aq:Nat):Prop where
 le:j<=aq
 ad:∀b,b<j->Z C S b=Z C h b
def bD.refl(h:R ag)(j:Nat):bD C h j h j:=⟨Zi _,λ_ _=>rfl⟩
def bD.trans{a1 aT be:R ag}{aP bk bF:Nat}(a:bD C a1 aP aT bk)(o:bD C aT bk be bF):bD C a1 aP be bF:=
 ⟨ZA a.le o.le,λb aj=>(o.ad b (ZN aj a.le)).trans (a.ad b aj)⟩
def bD.fA{S:R ag}{aq:Nat}(a:bD C h j S aq)(b V:Nat)(aj:b<j):aR C S (.ptr b V)=aR C h (.ptr b V):=by
 rw[c6,c6,a.ad b aj]
def bD.fresh(a:C.a6<=j)(cE:Option ag):bD C h j (bn C h j cE) (j+1):=
 ⟨Z6 _,λb aj=>aK a Zo⟩
def bD.more{S:R ag}{aq n:Nat}(o:bD C h j S aq)(a:aq<=n):bD C h j S n:=⟨ZA o.le a,o.ad⟩
def bD.s1{S:R ag}{aq c0:Nat}(o:bD C h j S aq)(a:c0<=j):bD C h c0 S aq:=⟨ZA a o.le,λb aj=>o.ad b (ZN aj a)⟩
def sa{b V n:Nat}{c:R z}{v:z}(a:Z C h b=some (.cells c n .own))(aj:C.a6<=b)(bb:V+1<=n)(bt:v.cells=[v])(I:nV v=true):
 fc C h 1 (.ptr b V) v=some (bn C h b (some (.cells (c.set V (some v)) n .own))):=by
 have bA:Nat.ble (V+1) n=true:=by simpa using bb
 have cg:Nat.ble C.a6 b=true:=by simpa using aj
 simp[fc,bt,og,a,iB,iI,I,bA,cg,dP,eU,Nat.blt]
def Bp:List z->List (Nat×Nat×z)->Option (List z)
 |cells,[]=>some cells
 |cells,(off,size,v)::rest=>bK (Nat.beq v.cells.length size&&Nat.ble (off+size) cells.length) (Bp (nk cells off v.cells) rest) none
def fd(q3:List z)(db:List (Nat×Nat×z)):Option z:=match Bp q3 db with|some cs=>some (.agg cs)|none=>none
def kB(q3:List z)(b:Nat):Option (z×ag):=some (.ptr b 0, .cells (R.ofList q3 0 .nil) q3.length .own)
def it(len:Nat)(q3:List z)(db:List (Nat×Nat×z))(b:Nat):Option (z×ag):=match Bp q3 db with
 |some cs=>some (.slice b 0 len len, .cells (R.ofList cs 0 .nil) cs.length .own)
 |none=>none
def tF(agg:Bool)(off size:Nat)(v:z):Option z:=match v with| .agg cs=>bK agg (some (.agg ((cs.drop off).take size))) (qX cs off)|_=>none
def gl(v:z):Option z:=match v with| .slice _ _ n _=>oL .i64 (Int.ofNat n)| .fh _ _ n _=>oL .i64 (Int.ofNat n)| .aV=>some (.int .i64 0)|_=>none
def lK(v:z):Option z:=match v with| .str s=>oL .i64 (Int.ofNat s.length)|_=>none
def mU(o:IntKind)(v:z):Option z:=match (match v with| .int _ n=>ki o n|_=>none)with|some v=>some v|none=>none
def ajj(v:z):Option z:=match (match v with| .str s=>some (z.str s)|_=>none)with|some v=>some v|none=>none
def ym(C:aM)(h:R ag)(v:z):Option z:=match (match v with| .str s=>some (z.str s)|_=>none)with|some v=>some v|none=>DM C h v
def J6(t:Nat)(br:z)(ok:Bool)(v:z):Option z:=match v with
 | .nilIface=>bK ok (some (.tuple [br, .bool false])) none
 | .iface dC w=>bK (Nat.beq dC t) (some (bK ok (.tuple [w, .bool true]) w)) (bK ok (some (.tuple [br, .bool false])) none)
 |_=>none
def my(C:aM)(h:R ag)(ji:Nat)(br m o:z)(ok:Bool):Option z:=
 match (match m with
  | .lM=>bK (mS C 20 ji o) (some none) none
  | .map r=>(match Z C h r with|some (.map b3 _)=>bK (mS C 20 ji o) (findKey C h ji o b3 0) none|some (.look b3)=>bK (mS C 20 ji o) (Fk (oR C h ji o b3)) none|_=>none)
  |_=>none)with
  |none=>none
  |some none=>some (bK ok (.tuple [br, .bool false]) br)
  |some (some (_,v))=>some (bK ok (.tuple [v, .bool true]) v)
def kC(C:aM)(h:R ag)(j aO:Nat)(s x:z):Option dI:=match kS C h aO x with
 |some (n,k)=>bK (Nat.beq n 0) (DO C h aO s) (wo C h j aO n k s)
 |none=>none
def Cv(C:aM)(h:R ag)(j ji:Nat)(m o v:z):Option dI:=match m with
 | .map r=>(match Z C h r with
   |some (.map b3 fF)=>bK (mS C 20 ji o) (match findKey C h ji o b3 0 with
    |some (some (i,_))=>(match qX b3 i with
     |some (eE,_,born)=>bK (oO 20 eE o) (setObj C h j r (.map (b3.set i (o,v,born)) fF) undef) none
     |none=>none)
    |some none=>setObj C h j r (.map (b3++[(o,v,fF)]) (fF+1)) undef
    |none=>none) none
   |_=>none)
 |_=>none
def sV(agg:Bool)(n aO:Nat)(v i:z):Option z:=match nh i with
 |none=>none
 |some i=>match v with
  | .agg cs=>bK (Nat.blt i n) (bK agg (some (.agg ((cs.drop (i*aO)).take aO))) (qX cs (i*aO))) none
  |_=>none
def nc(v i:z):Option z:=match nh i with
 |none=>none
 |some i=>match v with
  | .str s=>(match qX s i with|some c=>some (.int .u8 (Int.ofNat c))|none=>none)
  |_=>none
def md(v:z)(bL aE:Option z):Option z:=match v with
 | .str s=>(match nw s.length s.length bL aE none with
    |some (k,a,_)=>some (.str ((s.drop k).take (a-k)))
    |none=>none)
 |_=>none
def xK(C:aM)(h:R ag)(aO:Nat)(x:z)(bL aE gR:Option z):Option z:=match x with
 | .slice b V len cap=>(match nw len cap bL aE gR with
   |some (k,a,m)=>some (.slice b (bK (Nat.beq m k) V (V+k*aO)) (a-k) (m-k))
   |_=>none)
 | .aV=>(match nw 0 0 bL aE gR with
   |some _=>some .aV
   |_=>none)
 | .fh b V len C4=>(match xJ C h b with
   |some n=>bK (Nat.beq C4 aO&&Nat.blt 0 C4) (match nw len ((n-V)/C4) bL aE gR with
     |some (k,a,m)=>(match gR with
      |some _=>some (.slice b (bK (Nat.beq m k) V (V+k*C4)) (a-k) (m-k))
      |none=>bK (Nat.blt k ((n-V)/C4)||Nat.beq k 0) (some (.fh b (V+k*C4) (a-k) C4)) none)
     |none=>none) none
   |_=>none)
 |_=>none
def SF(n aO:Nat)(x:z)(bL aE gR:Option z):Option z:=match x with
 | .ptr b V=>(match nw n n bL aE gR with
   |some (k,a,m)=>some (.slice b (bK (Nat.beq m k) V (V+k*aO)) (a-k) (m-k))
   |_=>none)
 |_=>none
def Sq(C:aM)(h:R ag)(j:Nat)(v:z):Option dI:=match v with
 | .str s=>mz C h j (.nZ s 0) λb=> .ptr b 0
 |_=>none
def MZ(C:aM)(h:R ag)(j:Nat)(v:z):Option dI:=match v with
 | .str k=>sD C h j k.length 1 (k.map λn=>z.int .u8 (Int.ofNat n))
 |_=>none
def s8{α:Type}{D:α}{ai:α->Prop}(a:ai D):ar (some D) ai:=⟨a⟩
def s7{α:Type}{D:α}{ai:α->Prop}(a:ai D):ca (some D) ai:=a
def Kb{D:z}{ai:bN}(a:ai (.ptr j 0) (bn C h j (some (.cells (R.ofList D.cells 0 .nil) D.cells.length .own))) (j+1)):jW C h j D ai:=⟨a⟩
def RS{v:z}{cE:ag}{ai:bN}(a:ai v (bn C h j (some cE)) (j+1)):g1 C h j v cE ai:=⟨a⟩
def RT{v:z}{cE:ag}{ai:bN}(a:ai v (bn C h j (some cE)) (j+1)):g1 C h j (Prod.mk v cE).1 (Prod.mk v cE).2 ai:=⟨a⟩
def RR{b:Nat}{v:z}{cE:ag}{ai:z->R ag->Prop}(a:ai v (bn C h b (some cE))):l7 C h b (Prod.mk v cE).1 (Prod.mk v cE).2 ai:=⟨a⟩
def Oe{b:Nat}{D:z}{ai:z->R ag->Prop}(a:ai (.ptr b 0) (bn C h b (some (.cells (R.ofList D.cells 0 .nil) D.cells.length .own)))):ws C h b D ai:=⟨a⟩
def RQ{b:Nat}{v:z}{cE:ag}{ai:z->R ag->Prop}(a:ai v (bn C h b (some cE))):l7 C h b v cE ai:=⟨a⟩
def gQ{du:fE}{body:fE->Prop}(a:body du):bw du body:=⟨a⟩
def Rm{du:bN}{body:bN->Prop}(a:body du):oN du body:=⟨a⟩
def Rj{du:z->Prop}{body:(z->Prop)->Prop}(a:body du):c3 du body:=⟨a⟩
def Rk{du:z->R ag->Prop}{body:(z->R ag->Prop)->Prop}(a:body du):uj du body:=⟨a⟩
def Rl{du:Prop}{body:Prop->Prop}(a:body du):L6 du body:=⟨a⟩
def RF{n:Nat}{ai:Nat->Prop}(a:ai n):ff n ai:=⟨a⟩
def Sl{v:z}{S:R ag}{aq:Nat}{ai:bN}(a:ai v S aq):ht (some (.fl v S aq)) h j ai:=⟨a⟩
def Sm{v:z}{ai:bN}(a:ai v h j):ht (some (.val v)) h j ai:=⟨a⟩
def uQ{D b:Prop}(a:D):a8 (.bool true) D b:=⟨⟨λ_=>a,λB=>(by cases B)⟩⟩
def uP{D b:Prop}(a:b):a8 (.bool false) D b:=⟨⟨λB=>(by cases B),λ_=>a⟩⟩
def Ek{D b:Prop}(a:D):im true (.bool true) D b:=⟨⟨λ_=>a,λB=>(by cases B)⟩⟩
def Ej{D b:Prop}(a:b):im true (.bool false) D b:=⟨⟨λB=>(by cases B),λ_=>a⟩⟩
def Ei{D b:Prop}(a:b):im false (.bool true) D b:=⟨⟨λB=>(by cases B),λ_=>a⟩⟩
def Eh{D b:Prop}(a:D):im false (.bool false) D b:=⟨⟨λ_=>a,λB=>(by cases B)⟩⟩
def Rf{f:Nat}{D cf b:List z}{ai aw:bN}(a:a7 C f ((D++cf)++b) h j ai aw):mx C (.func (.func f) D b) cf h j ai aw:=⟨a⟩
def iY{x e:z}{ai:Prop}(a:z.same 30 x e=true)(o:ai):hG x (some e) ai:=⟨⟨a,o⟩⟩
@[congr] def av8{v gp:z}{D b:Prop}(a:v=gp):a8 v D b=a8 gp D b:=by rw[a]
@[congr] def awd{f:Nat}{cf J5:List z}{ai aw:bN}(a:cf=J5):a7 C f cf h j ai aw=a7 C f J5 h j ai aw:=by rw[a]
def a7.mono{f:Nat}{cf:List z}{ai aw j9 d5:bN}(a:a7 C f cf h j ai aw)(iq:∀aa S aq,ai aa S aq->j9 aa S aq)(cv:∀aa S aq,aw aa S aq->d5 aa S aq):a7 C f cf h j j9 d5:=by
 rcases a.out with ⟨aa,I,M⟩|⟨I,M,ak⟩
 ·exact⟨.inl ⟨aa,I,iq _ _ _ M⟩⟩
 ·exact⟨.inr ⟨I,M,ak.mono iq cv⟩⟩
def O3{f dM:Nat}(a:dd C f dM=true):∃fn c,C.P.funcs[f]? =some fn/\fn.body=some c:=by
 unfold dd at a
 split at a
 ·rename_i fn ch
  split at a
  ·rename_i c ay;exact⟨fn,c,ch,ay⟩
  ·cases a
 ·cases a
def dj{f:Nat}{cf:List z}{ai aw:bN}(ay:dd C f cf.length=true)(bb:C.gS f cf=none)(a:dr C f cf h j ai aw):a7 C f cf h j ai aw:=
 ⟨.inr ⟨bb,O3 ay,akG ay a⟩⟩
def GI{f:Nat}{cf:List z}{ai aw:bN}{aa:z}(bb:C.gS f cf=some aa)(a:ai aa h j):a7 C f cf h j ai aw:=⟨.inl ⟨aa,bb,a⟩⟩
def CW(H:da)(d n:Nat)(v:z):(ac H d v).g n=if d=n then some v else H.g n:=by show bK (Nat.beq d n) (some v) (H.g n)=_;rw[hw]
def vU(H:da)(d:Nat)(v:z):(ac H d v).aW=H.aW:=rfl
def CX(H:da)(d:Nat)(v:z):(ac H d v).rc=H.rc:=rfl
def A7(k:List z)(n:Nat):(cY k).g n=k[n]? :=by simp[cY]
def yd(k:List z):(cY k).aW=[]:=rfl
def A8(k:List z):(cY k).rc=false:=rfl
def wC(k:List Nat)(H:da)(n:Nat):(hx k H).g n=bK (r0 n k) none (H.g n):=rfl
def CN(H:da)(d:he)(n:Nat):(AC H d).g n=H.g n:=rfl
def CM(H:da)(d:he):(AC H d).aW=d::H.aW:=rfl
def Co(H:da)(d n:Nat):(uo H d).g n=H.g n:=rfl
def xp(H:da)(d:Nat):(uo H d).aW=⟨.collected d,[]⟩::H.aW:=rfl
def Kf{f:Nat}{cf:List z}{ai aw:bN}(ay:dd C f cf.length=true)(bb:C.gS f cf=none)(a:Bs C f cf h j ai aw):a7 C f cf h j ai aw:=
 ⟨.inr ⟨bb,O3 ay,akH ay a⟩⟩
def VT{f:Nat}{cf:List z}{ai aw:bN}(bb:C.gS f cf=none)(a:a7 C f cf h j ai aw):tk C f cf h j ai aw:=by
 rcases a.out with ⟨aa,I,M⟩|⟨I,M,ak⟩
 ·rw[bb]at I;cases I
 ·exact ak
def DW{p:Prop}[Decidable p]{D b:Prop}(I:p->D)(M:¬p->b):a8 (.bool (decide p)) D b:=⟨λB=>I (by simpa using B),λB=>M (by simpa using B)⟩
def qQ(b V:Nat):d0 C h 2 (.ptr b V)=(aR C h (.ptr b V)).bind λqt=>(aR C h (.ptr b (V+1))).bind λla=>some (.agg [qt,la]):=by
 rw[Ch]
 simp only[rY,Z0,Nat.reduceAdd,YI,ZU]
def vB(b V:Nat):d0 C h 3 (.ptr b V)=(aR C h (.ptr b V)).bind λqt=>(aR C h (.ptr b (V+1))).bind λla=>(aR C h (.ptr b (V+2))).bind λjk=>some (.agg [qt,la,jk]):=by
 rw[Ch]
 simp only[rY,Z0,Nat.reduceAdd,YI,ZU]
def Ag(b V:Nat):d0 C h 4 (.ptr b V)=(aR C h (.ptr b V)).bind λqt=>(aR C h (.ptr b (V+1))).bind λla=>(aR C h (.ptr b (V+2))).bind λjk=>(aR C h (.ptr b (V+3))).bind λmO=>some (.agg [qt,la,jk,mO]):=by
 rw[Ch]
 simp only[rY,Z0,Nat.reduceAdd,YI,ZU]
def Cj(b V:Nat):d0 C h 6 (.ptr b V)=(aR C h (.ptr b V)).bind λqt=>(aR C h (.ptr b (V+1))).bind λla=>(aR C h (.ptr b (V+2))).bind λjk=>(aR C h (.ptr b (V+3))).bind λmO=>(aR C h (.ptr b (V+4))).bind λo5=>(aR C h (.ptr b (V+5))).bind λDq=>some (.agg [qt,la,jk,mO,o5,Dq]):=by
 rw[Ch]
 simp only[rY,Z0,Nat.reduceAdd,YI,ZU]
def Ck(b V:Nat):d0 C h 7 (.ptr b V)=(aR C h (.ptr b V)).bind λqt=>(aR C h (.ptr b (V+1))).bind λla=>(aR C h (.ptr b (V+2))).bind λjk=>(aR C h (.ptr b (V+3))).bind λmO=>(aR C h (.ptr b (V+4))).bind λo5=>(aR C h (.ptr b (V+5))).bind λDq=>(aR C h (.ptr b (V+6))).bind λF0=>some (.agg [qt,la,jk,mO,o5,Dq,F0]):=by
 rw[Ch]
 simp only[rY,Z0,Nat.reduceAdd,YI,ZU]
def Cl(b V:Nat):d0 C h 8 (.ptr b V)=(aR C h (.ptr b V)).bind λqt=>(aR C h (.ptr b (V+1))).bind λla=>(aR C h (.ptr b (V+2))).bind λjk=>(aR C h (.ptr b (V+3))).bind λmO=>(aR C h (.ptr b (V+4))).bind λo5=>(aR C h (.ptr b (V+5))).bind λDq=>(aR C h (.ptr b (V+6))).bind λF0=>(aR C h (.ptr b (V+7))).bind λJA=>some (.agg [qt,la,jk,mO,o5,Dq,F0,JA]):=by
 rw[Ch]
 simp only[rY,Z0,Nat.reduceAdd,YI,ZU]
def Ci(b V:Nat):d0 C h 11 (.ptr b V)=(aR C h (.ptr b V)).bind λqt=>(aR C h (.ptr b (V+1))).bind λla=>(aR C h (.ptr b (V+2))).bind λjk=>(aR C h (.ptr b (V+3))).bind λmO=>(aR C h (.ptr b (V+4))).bind λo5=>(aR C h (.ptr b (V+5))).bind λDq=>(aR C h (.ptr b (V+6))).bind λF0=>(aR C h (.ptr b (V+7))).bind λJA=>(aR C h (.ptr b (V+8))).bind λTd=>(aR C h (.ptr b (V+9))).bind λAM=>(aR C h (.ptr b (V+10))).bind λaeh=>some (.agg [qt,la,jk,mO,o5,Dq,F0,JA,Td,AM,aeh]):=by
 rw[Ch]
 simp only[rY,Z0,Nat.reduceAdd,YI,ZU]
def Di(z0 a0:z):dP (R.ofList [z0] 0 .nil) 0 [a0]=R.ofList [a0] 0 .nil:=by rfl
def Dk(z0 g4 a0 bm:z):dP (R.ofList [z0,g4] 0 .nil) 0 [a0,bm]=R.ofList [a0,bm] 0 .nil:=by rfl
def Dl(z0 g4 gK a0 bm ct:z):dP (R.ofList [z0,g4,gK] 0 .nil) 0 [a0,bm,ct]=R.ofList [a0,bm,ct] 0 .nil:=by rfl
def Dm(z0 g4 gK z3 a0 bm ct a3:z):dP (R.ofList [z0,g4,gK,z3] 0 .nil) 0 [a0,bm,ct,a3]=R.ofList [a0,bm,ct,a3] 0 .nil:=by rfl
def Dn(z0 g4 gK z3 z4 z5 a0 bm ct a3 a4 a5:z):dP (R.ofList [z0,g4,gK,z3,z4,z5] 0 .nil) 0 [a0,bm,ct,a3,a4,a5]=R.ofList [a0,bm,ct,a3,a4,a5] 0 .nil:=by rfl
def Do(z0 g4 gK z3 z4 z5 AO a0 bm ct a3 a4 a5 kd:z):dP (R.ofList [z0,g4,gK,z3,z4,z5,AO] 0 .nil) 0 [a0,bm,ct,a3,a4,a5,kd]=R.ofList [a0,bm,ct,a3,a4,a5,kd] 0 .nil:=by rfl
def Dp(z0 g4 gK z3 z4 z5 AO Tf a0 bm ct a3 a4 a5 kd kz:z):dP (R.ofList [z0,g4,gK,z3,z4,z5,AO,Tf] 0 .nil) 0 [a0,bm,ct,a3,a4,a5,kd,kz]=R.ofList [a0,bm,ct,a3,a4,a5,kd,kz] 0 .nil:=by rfl
def Dj(z0 g4 gK z3 z4 z5 AO Tf uE z9 avV a0 bm ct a3 a4 a5 kd kz kA a9 Vc:z):dP (R.ofList [z0,g4,gK,z3,z4,z5,AO,Tf,uE,z9,avV] 0 .nil) 0 [a0,bm,ct,a3,a4,a5,kd,kz,kA,a9,Vc]=R.ofList [a0,bm,ct,a3,a4,a5,kd,kz,kA,a9,Vc] 0 .nil:=by rfl
def xQ(c:R z)(V:Nat)(v:z):(dP c V [v]).get V=some v:=by rw[nq];simp
def Dh{c:R z}{V i:Nat}{v:z}(a:i≠V):(dP c V [v]).get i=c.get i:=by rw[nq,Zg Zx]
def j8{b V o n:Nat}{c:R z}{v:z}(a:Z C h b=some (.cells c n .own))(aj:C.a6<=b)(aG:v.cells.length=o)(a2:0<o)(bb:V+o<=n)(I:iI v.cells=true):
 fc C h o (.ptr b V) v=some (bn C h b (some (.cells (dP c V v.cells) n .own))):=by
 subst aG
 have cg:Nat.blt 0 v.cells.length=true:=by simp[Nat.blt];omega
 have eN:Nat.beq v.cells.length v.cells.length=true:=by simp
 have bA:Nat.ble (V+v.cells.length) n=true:=by simpa using bb
 have iP:Nat.ble C.a6 b=true:=by simpa using aj
 simp only[fc,og,a,iB,iP,bA,cg,eN,I,Yu,fj,gB]
def qT(o:IntKind)(n:Nat):nh (.int o (n:Int))=some n:=rfl
def arx(o:IntKind):nh (.int o 0)=some 0:=rfl
def B8(o:IntKind)(x e:Int):bg .lss (.int o x) (.int o e)=some (.bool (decide (x<e))):=by
 cases o<;>simp[bg,k2,ly,kW,uR,sU]<;>(rw[Z7];simp)
def B7(o:IntKind)(x e:Int):bg .gtr (.int o x) (.int o e)=some (.bool (decide (e<x))):=by
 cases o<;>simp[bg,k2,ly,kW,uR,sU]<;>(rw[Z7];simp)
def y5(o:IntKind)(x e:Int):bg .leq (.int o x) (.int o e)=some (.bool (decide (x<=e))):=by
 cases o<;>simp[bg,k2,ly,kW,uR,sU]<;>(rw[Z7];simp)
def B6(o:IntKind)(x e:Int):bg .geq (.int o x) (.int o e)=some (.bool (decide (e<=x))):=by
 cases o<;>simp[bg,k2,ly,kW,uR,sU]<;>(rw[Z7];simp)
def B5(o:IntKind)(x e:Int):bg .eql (.int o x) (.int o e)=some (.bool (decide (x=e))):=by
 cases o<;>simp[bg,k2,ly,kW,uR,xj]
def B9(o:IntKind)(x e:Int):bg .neq (.int o x) (.int o e)=some (.bool (decide (x≠e))):=by
 cases o<;>simp[bg,k2,ly,kW,uR,xj]
def wrap64{n:Int}(I: -9223372036854775808<=n)(M:n<9223372036854775808):n4 .i64 n=n:=by
 simp only[n4,eU,Zh]
 split<;>omega
def eO{x e:Int}(I: -9223372036854775808<=x+e)(M:x+e<9223372036854775808):bg .add (.int .i64 x) (.int .i64 e)=some (.int .i64 (x+e)):=by
 simp[bg,k2,ly,kW,ki,wrap64 I M]
def vx{x e:Int}(I: -9223372036854775808<=x-e)(M:x-e<9223372036854775808):bg .sub (.int .i64 x) (.int .i64 e)=some (.int .i64 (x-e)):=by
 simp[bg,k2,ly,kW,ki,wrap64 I M]
def abd(x e:Int):bg .add (.int .u64 x) (.int .u64 e)=some (.int .u64 ((x+e)%18446744073709551616)):=by
 simp[bg,k2,ly,kW,ki,n4]
def Iv{aO b V len cap i:Nat}(o:IntKind)(a:i<len):hr aO (.slice b V len cap) (.int o (i:Int))=some (.ptr b (V+i*aO)):=by
 simp[hr,qT,AN,eU,Nat.blt,a];omega
def Iw{aO b V len cap i:Nat}(o:IntKind)(a:i<len):hr aO (.fh b V len cap) (.int o (i:Int))=some (.ptr b (V+i*aO)):=by
 simp[hr,qT,AN,eU,Nat.blt,a];omega
def Dt(d b V:Nat):hI d (.ptr b V)=some (.ptr b (V+d)):=rfl
def Dr(i:Nat)(k:List z):q2 i (.tuple k)=k[i]? :=by simp[q2]
def Ds(b V:Nat):mh (.ptr b V)=some (.ptr b V):=rfl
def CC(b:Bool):g7 .not (.bool b)=some (.bool (!b)):=by simp[g7,uR]
def wb(c:R z)(k:List z):Prop:=∀i,c.get i=k[i]?
def pt(k:List z):wb (R.ofList k 0 .nil) k:=λi=>lO k i
def wb.app{c:R z}{k:List z}(a:wb c k)(m:List z):wb (dP c k.length m) (k++m):=by
 intro i
 rw[nq]
 by_cases I:k.length<=i/\i<k.length+m.length
 ·rw[Zp I,ZF I.1]
 ·rw[Zg I,a i]
  by_cases M:i<k.length
  ·rw[Z2 M]
  ·rw[ZT Zo,ZT Zx]
end
end
end Go.bp

