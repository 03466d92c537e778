/- Part of the proof of the last text; no conditions -/
import Derived.Test.YtendhgofocgngaaGreatDoorYl
import Derived.Test.YtendhgofocgngaaGreatDoorProg
set_option maxHeartbeats 8000000
set_option linter.all false
namespace Go.bn
noncomputable section
structure jb(G:Prop):Prop where
 U:G
def Rr{bZ A:Prop}(f:bZ)(a:bZ->A:=by intro f;(simp(disch:=omega) only[B8,w6,EB,Cw,Az,Cx,Er,Ep,DZ,yJ,xL,By,DP,sI,wP,BA,DU,BB,DV,DW,DX,DR,DS,DT,ER,EV,EW,EX,EY,EZ,E0,E1,E2,ES,ET,EU,Aa,EQ,mg,z.cells,E5,E4,E3,Ed,DE,DC,DD,DB,DA,DF,EG,EH,CR,CQ,AB,CE,CF,sJ,vg,BD,yI,fv,wa,uy,oE,zA,Yj,zB,Z7,Yh,zn,Yc,ZT,ZD,ZY,Yr,Yg,Z8,YE,ZQ,ZF,ZR,ZC,ZA,reduceIte,Nat.reduceEqDiff,Nat.reduceAdd,Nat.reduceMul,Nat.reduceLT,Nat.reduceBEq,YH,Yw,Yy,Yz,eU,ku,Y9,Ye,YJ,Nat.reduceLeDiff,Nat.reduceSub,hz,f])):A:=a f
def ao4{bZ A:Prop}(f:bZ)(a:bZ->A:=by intro f;(simp(disch:=omega) only[B8,w6,EB,Cw,Az,Cx,Er,Ep,DZ,yJ,xL,By,DP,sI,wP,BA,DU,BB,DV,DW,DX,DR,DS,DT,ER,EV,EW,EX,EY,EZ,E0,E1,E2,ES,ET,EU,Aa,EQ,mg,z.cells,E5,E4,E3,Ed,DE,DC,DD,DB,DA,DF,EG,EH,CR,CQ,AB,CE,CF,sJ,vg,BD,yI,fv,wa,uy,oE,zA,Yj,zB,Z7,Yh,zn,Yc,ZT,ZD,ZY,Yr,Yg,Z8,YE,ZQ,ZF,ZR,ZC,ZA,reduceIte,Nat.reduceEqDiff,Nat.reduceAdd,Nat.reduceMul,Nat.reduceLT,Nat.reduceBEq,YH,Yw,Yy,Yz,eU,ku,Y9,Ye,YJ,Nat.reduceLeDiff,Nat.reduceSub,hz,f]);rfl):A:=a f
def ao5{bZ A bj:Prop}(f:bZ)(t:bj)(a:bZ->bj->A:=by intro f t;(simp(disch:=omega) only[B8,w6,EB,Cw,Az,Cx,Er,Ep,DZ,yJ,xL,By,DP,sI,wP,BA,DU,BB,DV,DW,DX,DR,DS,DT,ER,EV,EW,EX,EY,EZ,E0,E1,E2,ES,ET,EU,Aa,EQ,mg,z.cells,E5,E4,E3,Ed,DE,DC,DD,DB,DA,DF,EG,EH,CR,CQ,AB,CE,CF,sJ,vg,BD,yI,fv,wa,uy,oE,zA,Yj,zB,Z7,Yh,zn,Yc,ZT,ZD,ZY,Yr,Yg,Z8,YE,ZQ,ZF,ZR,ZC,ZA,reduceIte,Nat.reduceEqDiff,Nat.reduceAdd,Nat.reduceMul,Nat.reduceLT,Nat.reduceBEq,YH,Yw,Yy,Yz,eU,ku,Y9,Ye,YJ,Nat.reduceLeDiff,Nat.reduceSub,hz,f]);exact t):A:=a f t
def aoX{bZ A bj:Prop}(f:bZ)(o:jb bj)(a:bZ->jb bj->A:=by intro f o;(simp(disch:=omega) only[B8,w6,EB,Cw,Az,Cx,Er,Ep,DZ,yJ,xL,By,DP,sI,wP,BA,DU,BB,DV,DW,DX,DR,DS,DT,ER,EV,EW,EX,EY,EZ,E0,E1,E2,ES,ET,EU,Aa,EQ,mg,z.cells,E5,E4,E3,Ed,DE,DC,DD,DB,DA,DF,EG,EH,CR,CQ,AB,CE,CF,sJ,vg,BD,yI,fv,wa,uy,oE,zA,Yj,zB,Z7,Yh,zn,Yc,ZT,ZD,ZY,Yr,Yg,Z8,YE,ZQ,ZF,ZR,ZC,ZA,reduceIte,Nat.reduceEqDiff,Nat.reduceAdd,Nat.reduceMul,Nat.reduceLT,Nat.reduceBEq,YH,Yw,Yy,Yz,eU,ku,Y9,Ye,YJ,Nat.reduceLeDiff,Nat.reduceSub,hz,f]);exact o.U):A:=a f o
def cq{bZ A bj:Prop}(f:bZ)(o:jb bj)(a:bZ->jb bj->A:=by intro f o;(repeat(with_reducible first|refine gM ?_ |refine rx ?_ |refine tS ?_ |refine s8 ?_ |refine Qi ?_ |refine Ij ?_ |refine Um ?_ |refine Ul ?_ |refine TJ ?_ |refine TM ?_ |refine TI ?_ |refine TL ?_ |refine T5 ?_ |refine Qv ?_ |refine Uk ?_ |refine Uj ?_ |refine F2 ?_ |refine F1 ?_ |refine F0 ?_ |refine FZ ?_ |refine RI ?_ |refine vP ?_ |refine vO ?_ |refine TF ?_ |refine UR ?_ |refine US ?_ |(refine gr (km (by(first|assumption|(simp(disch:=omega) only[bz,aJ,f]<;>rfl)|(simp(disch:=omega) only[bz,aJ,f]))) Zo rfl Zd Zd rfl) ?_)|((conv=>whnf;arg 1;simp(disch:=omega) only[B8,w6,EB,Cw,Az,Cx,Er,Ep,DZ,yJ,xL,By,DP,sI,wP,BA,DU,BB,DV,DW,DX,DR,DS,DT,ER,EV,EW,EX,EY,EZ,E0,E1,E2,ES,ET,EU,Aa,EQ,mg,z.cells,E5,E4,E3,Ed,DE,DC,DD,DB,DA,DF,EG,EH,CR,CQ,AB,CE,CF,sJ,vg,BD,yI,fv,wa,uy,oE,zA,Yj,zB,Z7,Yh,zn,Yc,ZT,ZD,ZY,Yr,Yg,Z8,YE,ZQ,ZF,ZR,ZC,ZA,reduceIte,Nat.reduceEqDiff,Nat.reduceAdd,Nat.reduceMul,Nat.reduceLT,Nat.reduceBEq,YH,Yw,Yy,Yz,eU,ku,Y9,Ye,YJ,Nat.reduceLeDiff,Nat.reduceSub,hz,f]);(first|refine rx ?_ |refine tS ?_ |refine vP ?_ |refine vO ?_ |refine F2 ?_ |refine F1 ?_ |refine F0 ?_ |refine FZ ?_))|dsimp only));exact o.U):A:=a f o
def qW{bZ A bj:Prop}(f:bZ)(o:jb bj)(a:bZ->jb bj->A:=by intro f o;(repeat(with_reducible first|refine rx ?_ |refine tS ?_ |refine s8 ?_ |refine Qi ?_ |refine Ij ?_ |refine Um ?_ |refine Ul ?_ |refine TJ ?_ |refine TM ?_ |refine TI ?_ |refine TL ?_ |refine T5 ?_ |refine Qv ?_ |refine Uk ?_ |refine Uj ?_ |refine F2 ?_ |refine F1 ?_ |refine F0 ?_ |refine FZ ?_ |refine RI ?_ |refine vP ?_ |refine vO ?_ |refine TF ?_ |refine UR ?_ |refine US ?_ |(refine gr (km (by(first|assumption|(simp(disch:=omega) only[bz,aJ,f]<;>rfl)|(simp(disch:=omega) only[bz,aJ,f]))) Zo rfl Zd Zd rfl) ?_)|((conv=>whnf;arg 1;simp(disch:=omega) only[B8,w6,EB,Cw,Az,Cx,Er,Ep,DZ,yJ,xL,By,DP,sI,wP,BA,DU,BB,DV,DW,DX,DR,DS,DT,ER,EV,EW,EX,EY,EZ,E0,E1,E2,ES,ET,EU,Aa,EQ,mg,z.cells,E5,E4,E3,Ed,DE,DC,DD,DB,DA,DF,EG,EH,CR,CQ,AB,CE,CF,sJ,vg,BD,yI,fv,wa,uy,oE,zA,Yj,zB,Z7,Yh,zn,Yc,ZT,ZD,ZY,Yr,Yg,Z8,YE,ZQ,ZF,ZR,ZC,ZA,reduceIte,Nat.reduceEqDiff,Nat.reduceAdd,Nat.reduceMul,Nat.reduceLT,Nat.reduceBEq,YH,Yw,Yy,Yz,eU,ku,Y9,Ye,YJ,Nat.reduceLeDiff,Nat.reduceSub,hz,f]);(first|refine rx ?_ |refine tS ?_ |refine vP ?_ |refine vO ?_ |refine F2 ?_ |refine F1 ?_ |refine F0 ?_ |refine FZ ?_))|dsimp only));exact o.U):A:=a f o
def tn{bZ A bj:Prop}(f:bZ)(o:jb bj)(a:bZ->jb bj->A:=by intro f o;(with_reducible first|refine gM ?_ |refine rx ?_ |refine tS ?_ |refine s8 ?_ |refine Qi ?_ |refine Ij ?_ |refine Um ?_ |refine Ul ?_ |refine TJ ?_ |refine TM ?_ |refine TI ?_ |refine TL ?_ |refine T5 ?_ |refine Qv ?_ |refine Uk ?_ |refine Uj ?_ |refine F2 ?_ |refine F1 ?_ |refine F0 ?_ |refine FZ ?_ |refine RI ?_ |refine vP ?_ |refine vO ?_ |refine TF ?_ |refine UR ?_ |refine US ?_ |(refine gr (km (by(first|assumption|(simp(disch:=omega) only[bz,aJ,f]<;>rfl)|(simp(disch:=omega) only[bz,aJ,f]))) Zo rfl Zd Zd rfl) ?_)|((conv=>whnf;arg 1;simp(disch:=omega) only[B8,w6,EB,Cw,Az,Cx,Er,Ep,DZ,yJ,xL,By,DP,sI,wP,BA,DU,BB,DV,DW,DX,DR,DS,DT,ER,EV,EW,EX,EY,EZ,E0,E1,E2,ES,ET,EU,Aa,EQ,mg,z.cells,E5,E4,E3,Ed,DE,DC,DD,DB,DA,DF,EG,EH,CR,CQ,AB,CE,CF,sJ,vg,BD,yI,fv,wa,uy,oE,zA,Yj,zB,Z7,Yh,zn,Yc,ZT,ZD,ZY,Yr,Yg,Z8,YE,ZQ,ZF,ZR,ZC,ZA,reduceIte,Nat.reduceEqDiff,Nat.reduceAdd,Nat.reduceMul,Nat.reduceLT,Nat.reduceBEq,YH,Yw,Yy,Yz,eU,ku,Y9,Ye,YJ,Nat.reduceLeDiff,Nat.reduceSub,hz,f]);(first|refine rx ?_ |refine tS ?_ |refine vP ?_ |refine vO ?_ |refine F2 ?_ |refine F1 ?_ |refine F0 ?_ |refine FZ ?_))|dsimp only);exact o.U):A:=a f o
def bt{A:Prop}(a:A:=by exact Rr trivial):A:=a
def gc{A:Prop}(a:A:=by exact ao4 trivial):A:=a
def a6{A bj:Prop}(t:bj)(a:bj->A:=by intro t;exact ao5 trivial t):A:=a t
def tl{A bj:Prop}(o:jb bj)(a:jb bj->A:=by intro o;refine aoX trivial ⟨?_⟩;exact o.U):A:=a o
def cY{A bj:Prop}(o:jb bj)(a:jb bj->A:=by intro o;refine cq trivial ⟨?_⟩;exact o.U):A:=a o
def tm{A bj:Prop}(o:jb bj)(a:jb bj->A:=by intro o;refine qW trivial ⟨?_⟩;exact o.U):A:=a o
def h4{A bj:Prop}(o:jb bj)(a:jb bj->A:=by intro o;refine tn trivial ⟨?_⟩;exact o.U):A:=a o
def dS{A:Prop}(a:A:=by exact⟨Zo,λb ah=>zI⟩):A:=a
def dd{A bj lH k4:Prop}(bD:lH)(ef:k4)(o:jb bj)(a:lH->k4->jb bj->A:=by intro bD ef o;refine cq (Za @bD @ef) ⟨?_⟩;exact o.U):A:=a @bD @ef o
def ey{A bj lH k4 oN:Prop}(bD:lH)(ef:k4)(ev:oN)(o:jb bj)(a:lH->k4->oN->jb bj->A:=by intro bD ef ev o;refine cq (Za @bD (Za @ef @ev)) ⟨?_⟩;exact o.U):A:=a @bD @ef @ev o
def hm{A bj lH k4 oN ue:Prop}(bD:lH)(ef:k4)(ev:oN)(f3:ue)(o:jb bj)(a:lH->k4->oN->ue->jb bj->A:=by intro bD ef ev f3 o;refine cq (Za @bD (Za @ef (Za @ev @f3))) ⟨?_⟩;exact o.U):A:=a @bD @ef @ev @f3 o
def ht{A bj lH k4 oN ue Aj:Prop}(bD:lH)(ef:k4)(ev:oN)(f3:ue)(nC:Aj)(o:jb bj)(a:lH->k4->oN->ue->Aj->jb bj->A:=by intro bD ef ev f3 nC o;refine cq (Za @bD (Za @ef (Za @ev (Za @f3 @nC)))) ⟨?_⟩;exact o.U):A:=a @bD @ef @ev @f3 @nC o
def lT{A bj lH k4 oN ue Aj HP:Prop}(bD:lH)(ef:k4)(ev:oN)(f3:ue)(nC:Aj)(xP:HP)(o:jb bj)(a:lH->k4->oN->ue->Aj->HP->jb bj->A:=by intro bD ef ev f3 nC xP o;refine cq (Za @bD (Za @ef (Za @ev (Za @f3 (Za @nC @xP))))) ⟨?_⟩;exact o.U):A:=a @bD @ef @ev @f3 @nC @xP o
def eD{A bj lH k4 oN ue Aj HP VN:Prop}(bD:lH)(ef:k4)(ev:oN)(f3:ue)(nC:Aj)(xP:HP)(Rc:VN)(o:jb bj)(a:lH->k4->oN->ue->Aj->HP->VN->jb bj->A:=by intro bD ef ev f3 nC xP Rc o;refine cq (Za @bD (Za @ef (Za @ev (Za @f3 (Za @nC (Za @xP @Rc)))))) ⟨?_⟩;exact o.U):A:=a @bD @ef @ev @f3 @nC @xP @Rc o
def AV{A bj lH k4:Prop}(bD:lH)(ef:k4)(o:jb bj)(a:lH->k4->jb bj->A:=by intro bD ef o;refine qW (Za @bD @ef) ⟨?_⟩;exact o.U):A:=a @bD @ef o
def gb{A bj lH k4 oN:Prop}(bD:lH)(ef:k4)(ev:oN)(o:jb bj)(a:lH->k4->oN->jb bj->A:=by intro bD ef ev o;refine qW (Za @bD (Za @ef @ev)) ⟨?_⟩;exact o.U):A:=a @bD @ef @ev o
def ba.Zm{C:aK}{f:Nat}{xB:List z}{h:S ai}{j:Nat}{aj mU au:bR}(a:ba C f xB h j aj (λ_ _ _=>False))(o:∀ac R aP,aj ac R aP->mU ac R aP):ba C f xB h j mU au:=a.mono o (λ_ _ _ a=>a.elim)
end
end Go.bn

namespace Go.bn
noncomputable section
open Go.RowKit (Below)
def OL(kg:List Nat)(U:Nat->List z->Option z)(k:List (Nat×List z×z))(f:Nat)(args:List z):Option z:=bI (oz f kg) (qy U k f args) (U f args)
section
variable{P:Program}{w:World}
def Env.auI{nm:List (String×Nat)}(gf:Ao P nm){laid:List (String×DataW Unit)}{kg:List Nat}{U:Nat->List z->Option z}{k:List (Nat×List z×z)}(a:laidMet P laid w){dD:c1}{dQ:Nat->Prop}
 (cB:Env ⟨P,ni (gX P nm laid P.globals.size).2 .nil,(gX P nm laid P.globals.size).1,U,P.globals.size⟩ w dD dQ)(bh:K6 k=true)
 (is:∀x∈k,∃m,yX ⟨P,ni (gX P nm laid P.globals.size).2 .nil,(gX P nm laid P.globals.size).1,U,P.globals.size⟩ m x.1 x.2.1=some x.2.2):
 ∃J Y,Env ⟨P,ni (gX P nm laid P.globals.size).2 .nil,(gX P nm laid P.globals.size).1,OL kg U k,P.globals.size⟩ w J Y:=by
 obtain⟨J,Y,ak,ay⟩:=TZ (g7:=OL kg U k) gf a
 have nG:=afx cB bh is
 refine⟨J,Y,cB.kk,⟨λf args v aS=> ?_,λf args v aS J nr ls=> ?_⟩,ak,ay,cB.mem⟩
 ·have aS:bI (oz f kg) (qy U k f args) (U f args)=some v:=aS
  rw[eR]at aS
  split at aS
  ·exact nG.val f args v aS
  ·exact cB.g7.val f args v aS
 ·have aS:bI (oz f kg) (qy U k f args) (U f args)=some v:=aS
  rw[eR]at aS
  split at aS
  ·exact nG.ok f args v aS J nr ls
  ·exact cB.g7.ok f args v aS J nr ls
end
end
end Go.bn

namespace Go.Proofs.YtendhgofocgngaaGreatDoor
open Go.bn
noncomputable section
structure co where
 G:S ai
 bf:Nat
 O:Nat->List z->Option z
noncomputable def q(a:co):aK:=⟨Tryz.prog,a.G,a.bf,a.O,Tryz.prog.globals.size⟩
instance:Coe co aK:=⟨q⟩
variable (X : co) (h : S ai) (j : Nat) (aj au : bR) (a0 bd ca a3 a4 a5 h2 ih hk : z)
abbrev j6(v x:z)(h:S ai)(n:Nat)(o:bR):Prop:=pb o λW=>jk true v (W x h n) (W bn.undef h n)
abbrev gW(v x:z)(h:S ai)(n:Nat)(o:bR):Prop:=pb o λW=>jk false v (W x h n) (W bn.undef h n)
abbrev eH(v:z)(U:Option z)(h:S ai)(n:Nat)(o:bR):Prop:=pb o λW=>jk true v (ar U λx=>W x h n) (W bn.undef h n)
abbrev fa(v:z)(U:Option z)(h:S ai)(n:Nat)(o:bR):Prop:=pb o λW=>jk false v (ar U λx=>W x h n) (W bn.undef h n)
abbrev ou(v:z)(U:Option z)(h:S ai)(n:Nat)(o:bR):Prop:=pb o λW=>jk true v (cl U λx=>W x h n) (W bn.undef h n)
abbrev yF(v:z)(U:Option z)(h:S ai)(n:Nat)(o:bR):Prop:=pb o λW=>jk false v (cl U λx=>W x h n) (W bn.undef h n)
abbrev aei(v:z)(U:Option z)(al:z->Option z)(h:S ai)(n:Nat)(o:bR):Prop:=pb o λW=>jk true v (cl U λt=>ar (al t) λx=>W x h n) (W bn.undef h n)
abbrev aeh(v:z)(U:Option z)(al:z->Option z)(h:S ai)(n:Nat)(o:bR):Prop:=pb o λW=>jk false v (cl U λt=>ar (al t) λx=>W x h n) (W bn.undef h n)
abbrev md(v:z)(g:bR->Prop)(h:S ai)(n:Nat)(o:bR):Prop:=pb o λW=>jk true v (g W) (W bn.undef h n)
abbrev lc(v:z)(g:bR->Prop)(h:S ai)(n:Nat)(o:bR):Prop:=pb o λW=>jk false v (g W) (W bn.undef h n)
abbrev N8(v x:z)(h:S ai)(o:z->S ai->Prop):Prop:=va o λW=>jk false v (W x h) (W bn.undef h)
abbrev lw(v:z)(U:Option z)(h:S ai)(o:z->S ai->Prop):Prop:=va o λW=>jk true v (ar U λx=>W x h) (W bn.undef h)
abbrev u9(v:z)(U:Option z)(h:S ai)(o:z->S ai->Prop):Prop:=va o λW=>jk false v (ar U λx=>W x h) (W bn.undef h)
abbrev aeg(v:z)(U:Option z)(h:S ai)(o:z->S ai->Prop):Prop:=va o λW=>jk true v (cl U λx=>W x h) (W bn.undef h)
abbrev TH(v:z)(U:Option z)(h:S ai)(o:z->S ai->Prop):Prop:=va o λW=>jk false v (cl U λx=>W x h) (W bn.undef h)
abbrev N9(v:z)(U:Option z)(al:z->Option z)(h:S ai)(o:z->S ai->Prop):Prop:=va o λW=>jk true v (cl U λt=>ar (al t) λx=>W x h) (W bn.undef h)
abbrev aef(v:z)(U:Option z)(al:z->Option z)(h:S ai)(o:z->S ai->Prop):Prop:=va o λW=>jk false v (cl U λt=>ar (al t) λx=>W x h) (W bn.undef h)
abbrev N7(v:z)(g:(z->S ai->Prop)->Prop)(h:S ai)(o:z->S ai->Prop):Prop:=va o λW=>jk false v (g W) (W bn.undef h)
abbrev eM(a8)(H:z)(K:aK)(ak:(S ai))(o:z->z->Prop):=ar (iq a8 H) λck=>ar (aV K ak ck) λch=>o ck ch
abbrev xk(ay:Nat)(be:aK)(bV:(S ai))(o:z->(S ai)->Nat->Prop):=ar (kK [.Z 0, .str [], .Z 0, .int .u64 0, .zF, .zF, .Z 0] ay) λck=>gm be bV ay ck.1 ck.2 o
abbrev fR(a8:db)(H)(ak)(o:z->z->Prop):=cl (a8 H) λck=>cl (a8 ak) λch=>o ck ch
abbrev gs(a8:z)(H)(K:aK)(ak:(S ai))(o:z->z->Prop):=ar (pn a8) λck=>eM H ck K ak o
abbrev g2(a8:db)(H)(o:z->Prop):=cl (a8 H) λck=>ar (bm .add ck (.Z 1)) o
abbrev jR(H:z)(o:z->z->Prop):=ar (rJ 0 H) λck=>ar (rJ 1 H) λch=>o ck ch
abbrev n0(a8:db)(H)(K:aK)(ak:(S ai))(ay)(be:z)(o:(S ai)->z->Prop):=cl (a8 H) λck=>ar (eI K ak ay ck be) λch=>cl (a8 H) λcD=>ar (ep K ch ay cD) λdi=>o ch di
abbrev rT(ak)(ay:Nat)(be:aK)(bV:(S ai))(kO:z)(lU:bR)(o:z->(S ai)->Nat->Prop):=ar (hz 1 [.str []] [(0,1, .str [ak])] ay) λck=>gm be bV ay ck.1 ck.2 λch cD di=>ba be 59 [kO,ch] cD di o lU
abbrev iF(a8:db)(H)(K)(o:z->Prop):=fR a8 H K λck ch=>ar (bm .lss ck ch) o
abbrev l5(a8:z)(H)(o:z->Prop):=ar (pn a8) λck=>ar (iq H ck) o
abbrev qI(a8:z)(H)(K:z)(ak:(S ai))(ay:Nat)(bV:aK)(o:z->(S ai)->Nat->Prop):=fa a8 (iq H K) ak ay λck ch cD=>fa a8 (aV bV ch ck) ch cD o
abbrev kb(H:z)(K:z)(ak:aK)(ay:(S ai))(o:z->Prop):=ar (iv 1 H K) λck=>ar (aV ak ay ck) o
abbrev k2(a8:db)(H)(K:aK)(ak:(S ai))(o:z->Prop):=cl (a8 H) λck=>ar (aV K ak ck) o
abbrev eO(a8:db)(o:z->Prop):=cl (a8 0) o
abbrev Cd(ak:Nat)(ay:aK)(be:(S ai))(o:z->(S ai)->Nat->Prop):=ar (kK [.str [], .Z 0, .zF, .zF, .Z 0, .str [], .Z 0, .zF] ak) λck=>gm ay be ak ck.1 ck.2 o
abbrev uc(a8:z)(H)(K:z)(ak:(S ai))(ay:Nat)(bV:aK)(o:z->(S ai)->Nat->Prop):=eH a8 (iq H K) ak ay λck ch cD=>eH a8 (aV bV ch ck) ch cD o
abbrev vD(a8:Nat)(H:aK)(K:(S ai))(be:z)(o:z->Nat->(S ai)->Prop):=xk a8 H K λck ch cD=>ar (eI H ch 7 ck be) λdi=>o ck cD di
abbrev HH(bV:Nat)(c9:aK)(eg:(S ai))(o:z->(S ai)->Nat->Prop):=ar (kK [.Z 0, .str [], .Z 0, .zF, .zF, .Z 0, .str [], .Z 0, .zF, .Z 0, .Z 0] bV) λck=>gm c9 eg bV ck.1 ck.2 o
abbrev oL(H)(o:z->Prop):=ar (some (z.iface 185 (.Z H))) o
abbrev qJ(a8)(H:z)(K:z)(ak:aK)(ay:(S ai))(o:z->Prop):=ar (iv a8 H K) λck=>ar (ep ak ay a8 ck) o
abbrev E8(a8:z)(H:db)(ak:(S ai))(bV)(eg:aK)(o:z->(S ai)->Prop):=aeg a8 (H 0) ak λck ch=>lw a8 (pn ck) ch λcD di=>lw a8 (iq bV cD) di λf4 nA=>lw a8 (aV eg nA f4) nA o
abbrev nt(a8:aK)(H:(S ai))(ak:z)(ay:z)(o:(S ai)->Prop):=ar (eI a8 H 1 ak ay) o
abbrev jQ(a8:z)(H)(o:z->fS->Prop):=ar (eT a8) λck=>bA H λch=>o ck ch
abbrev kc(a8:db)(H)(K)(ak:aK)(ay:(S ai))(o:z->z->Prop):=cl (a8 H) λck=>eM K ck ak ay o
abbrev jq(a8:db)(H)(K:aK)(ak:(S ai))(o:z->z->z->Prop):=eO a8 λck=>gs ck H K ak λch cD=>o ck ch cD
abbrev PC(a8:db)(H)(K)(o:z->Prop):=cl (a8 H) λck=>ar (bm .sub ck (.Z K)) o
abbrev rN(a8:z)(H)(K:fS)(o:z->fS->Prop):=ar (bm .eql a8 (.Z H)) λck=>bA K λch=>o ck ch
abbrev E9(a8:z)(H:z)(K:(S ai))(ak:Nat)(bV:aK)(eg)(o:z->(S ai)->Nat->Prop):=fa a8 (pn H) K ak λck ch cD=>qI a8 0 ck ch cD bV λdi f4 nA=>fa a8 (bm .eql di (.Z eg)) f4 nA o
abbrev Ad(a8:db)(H)(o:z->Prop):=eO a8 λck=>ar (mQ ck (some (.Z H)) none) o
abbrev Lk(H:z)(K:z)(ak:aK)(ay:(S ai))(bV:Nat)(qa)(o:z->Nat->(S ai)->z->Prop):=qJ 4 H K ak ay λck=>ar (kK [.a2, .a2, .Z 0, .cW] bV) λch=>gm ak ay bV ch.1 ch.2 λcD di f4=>ar (eI ak di 4 cD ck) λnA=>eM qa cD ak nA λ_ AD=>o cD f4 nA AD
abbrev HI(a8:z)(H:db)(K)(ak:(S ai))(bV)(eg:aK)(o:z->(S ai)->Prop):=TH a8 (H K) ak λck ch=>u9 a8 (pn ck) ch λcD di=>u9 a8 (iq bV cD) di λf4 nA=>u9 a8 (aV eg nA f4) nA o
abbrev Ll(a8)(H:z)(K:aK)(ak:(S ai))(eg)(o:z->Prop):=eM a8 H K ak λck ch=>ar (fv [.Z 0, .Z 0] [(0,1, .Z eg),(1,1,ch)]) λcD=>ar (some (z.iface 26 cD)) o
abbrev PD(bV:Nat)(c9)(eg:aK)(hI:(S ai))(o:z->(S ai)->Prop):=ar (kK [.Z 0, .str [], .Z 0, .zF, .zF, .Z 0, .str [], .Z 0, .zF, .Z 0, .Z 0] (bV+c9)) λck=>me eg hI (bV+c9) ck.1 ck.2 o
abbrev PE(a8:aK)(H:(S ai))(hI:z)(kO:z)(o:z->z->Prop):=ar (l2 a8 H 9 (.agg [.Z 0, .str [], .Z 0, .zF, .zF, .Z 0, .str [], .Z 0, .zF, .Z 0, .Z 0]) hI kO true) λck=>jR ck o
abbrev PF(c9:z)(eg:Nat)(hI:aK)(kO:(S ai))(apK:z)(o:z->(S ai)->Nat->Prop):=ar (hz 1 [.Z 0, .str [], .Z 0, .int .u64 0, .zF, .zF, .Z 0] [(0,7,c9)] eg) λck=>gm hI kO eg ck.1 ck.2 λch cD di=>iA (lK hI cD di 7 apK ch) cD di o
abbrev Fa(K:Nat)(ak:aK)(ay:(S ai))(o:z->(S ai)->Nat->Prop):=ar (kK [.Z 0, .Z 0] K) λck=>gm ak ay K ck.1 ck.2 o
abbrev HJ(H:Nat)(K:aK)(ak:(S ai))(o:z->(S ai)->Nat->Prop):=ar (kK [.str [], .Z 0, .a2, .a2, .a2, .a2] H) λck=>gm K ak H ck.1 ck.2 o
abbrev Ce(a8:z)(o:z->Prop):=ar (bm .add a8 (.Z 1)) o
abbrev rO(a8:aK)(H:(S ai))(ak:z)(ay)(o:(S ai)->Prop):=ar (eI a8 H 1 ak (.Z ay)) o
abbrev rP(a8:db)(H)(K:aK)(ak:(S ai))(ay)(o:z->Prop):=cl (a8 H) λck=>ar (ep K ak ay ck) o
abbrev ie(a8)(H:db)(K)(ak)(o:fS->z->z->Prop):=bA a8 λck=>fR H K ak λch cD=>o ck ch cD
abbrev PG(a8:Nat)(K:z)(ay:aK)(be:(S ai))(eg:z)(kO:bR)(o:z->Nat->z->(S ai)->z->Prop):=fs (a8+12) λck=>gs K 8 ay be λch cD=>ba ay 99 [eg] be ck (λdi f4 nA=>ar (hz 1 [.cW] [(0,1,di)] (a8+7)) λxC=>me ay f4 (a8+7) xC.1 xC.2 λAD xD=>ar (aV ay xD ch) λalW=>o cD nA AD xD alW) kO
abbrev PH(a8:db)(ay:(S ai))(be:Nat)(o:z->z->(S ai)->Nat->Prop):=eO a8 λck=>ar (mI ck) λch=>ar (bm .geq ch (.Z 3)) λcD=>ou cD (a8 0) ay be λdi f4 nA=>eH cD (nQ di (.Z 1)) f4 nA λxC AD xD=>o cD xC AD xD
abbrev xl(a8:aK)(H:(S ai))(K)(ak:z)(ay:z)(o:(S ai)->z->Prop):=ar (eI a8 H K ak ay) λck=>ar (ep a8 ck K ak) λch=>o ck ch
abbrev rQ(a8)(H:z)(K:aK)(ak:(S ai))(ay:z)(o:(S ai)->Prop):=ar (iq a8 H) λck=>nt K ak ck ay o
abbrev PI(bV)(c9)(hI:z)(o:z->Prop):=ar (fv [.Z 0, .str [], .Z 0, .int .u64 0, .zF, .zF, .Z 0] [(0,1, .Z bV),(c9,1,hI)]) o
abbrev kp(a8:db)(o:z->Prop):=cl (a8 4) o
abbrev PJ(o:z->Prop):=ar (fv [.Z 0, .str [], .Z 0, .int .u64 0, .zF, .zF, .Z 0] []) o
abbrev Fb(H:z)(K:aK)(ak:(S ai))(ay)(o:z->Prop):=eM 0 H K ak λck ch=>ar (bm .eql ch (.Z ay)) o
abbrev rR(a8:z)(H)(K:aK)(ak:(S ai))(ay:z)(o:(S ai)->Prop):=l5 a8 H λck=>nt K ak ck ay o
abbrev PK(a8:z)(H:db)(ak:(S ai))(ay:Nat)(hI:aK)(o:z->(S ai)->Nat->Prop):=ou a8 (H 0) ak ay λck ch cD=>eH a8 (pn ck) ch cD λdi f4 nA=>eH a8 (iq 4 di) f4 nA λxC AD xD=>eH a8 (ep hI AD 3 xC) AD xD o
abbrev Lm(a8:z)(K)(o:z->Prop):=ar (nQ a8 (.Z 0)) λck=>ar (bm .eql ck (.int .u8 K)) o
abbrev Cf(a8:z)(o:z->Prop):=ar (bm .sub a8 (.Z 1)) o
abbrev s2(a8:z)(H:Nat)(K:aK)(ak:(S ai))(o:z->z->Nat->(S ai)->Prop):=jR a8 λck ch=>vD H K ak ck λcD di f4=>o ch cD di f4
abbrev PL(a8:db)(H)(o:z->Prop):=cl (a8 H) λck=>ar (mw .u64 ck) o
abbrev Ln(H:Nat)(K:aK)(ak:(S ai))(o:z->(S ai)->Nat->Prop):=ar (kK [.zF, .zF, .Z 0] H) λck=>gm K ak H ck.1 ck.2 o
abbrev xm(a8:aK)(H:(S ai))(K)(ak:z)(be)(c9:Nat)(eg:bR)(o:z->(S ai)->Nat->Prop):=ar (ep a8 H K ak) λck=>ba a8 be [ck] H c9 o eg
abbrev HK(a8:db)(K:aK)(ak:(S ai))(ay)(o:z->Prop):=jq a8 0 K ak λck ch cD=>ar (bm .eql cD (.Z ay)) o
abbrev xn(a8:z)(H:fS)(o:z->fS->Prop):=ar (hb .not a8) λck=>bA H λch=>o ck ch
abbrev Fc(a8:z)(o:z->Prop):=ar (bm .lss a8 (.Z 0)) o
abbrev Fe(a8:z)(o:z->Prop):=ar (bm .geq a8 (.Z 0)) o
abbrev Ff(a8:z)(o:z->Prop):=ar (bm .neq a8 (.Z 0)) o
abbrev Cg(a8:z)(H:z)(K:(S ai))(ak:Nat)(be)(bV:aK)(o:z->(S ai)->Nat->Prop):=eH a8 (pn H) K ak λck ch cD=>uc a8 be ck ch cD bV o
abbrev s3(a8:aK)(H:(S ai))(K:Nat)(ay:z)(be:z)(o:z->(S ai)->Nat->Prop):=iA (lK a8 H K 1 ay be) H K o
abbrev HL(a8:z)(H:z)(o:z->Prop):=ar (eT a8) λck=>ar (bm .add H ck) o
abbrev Lo(a8:db)(K:aK)(ak:(S ai))(o:(S ai)->Prop):=jq a8 1 K ak λck ch cD=>Ce cD λdi=>rR ck 1 K ak di o
abbrev HM(a8:z)(o:z->Prop):=ar (bm .eql a8 (.Z 0)) o
abbrev Ae(a8:db)(H)(K:aK)(ak:(S ai))(ay)(o:z->Prop):=k2 a8 H K ak λck=>gs ck ay K ak λ_ cD=>o cD
abbrev rS(a8:db)(o:z->Prop):=cl (a8 1) o
abbrev PM(a8:aK)(K:z)(ak:(S ai))(ay:Nat)(be:bR)(o:z->(S ai)->Nat->Prop):=ba a8 99 [K] ak ay (λck ch cD=>ar (hz 1 [.cW] [(0,1,ck)] cD) λdi=>gm a8 ch cD di.1 di.2 o) be
abbrev HN(a8:aK)(K:z)(ak)(ay:(S ai))(be:Nat)(bV:bR)(o:z->Nat->(S ai)->Prop):=ba a8 61 [K, .str [ak]] ay be (λck ch cD=>s2 ck cD a8 ch λdi _ nA xC=>o di nA xC) bV
abbrev Fg(a8:z)(H:z)(K:(S ai))(ak:Nat)(be)(bV:aK)(o:z->(S ai)->Nat->Prop):=fa a8 (pn H) K ak λck ch cD=>qI a8 be ck ch cD bV o
def Ho(a:aK)(b:bR):fS:=λc d e=>pi a [.cell 2 23, .cell 3 26] b c c.bg d e
def KM(a:aK)(b c:bR):s6:=λd e f g=>wZ a [.cell 2 23, .cell 3 26] b c d e d.bg f g
def WM(a:aK)(b:z)(c:S ai)(d:Nat)(e f:bR):Prop:=
 ar (kK [.cW] d) λg=>gm a c d g.1 g.2 λc d g=>Fa g a d λd g h=>ba a 16 [b] g h (λg h i=>jR g λg j=>ar (eI a h 2 d j) λh=>eM 0 d a h λ_ j=>Ff j λj=>bA (λb c d=>fR b 2 3 λg h=>L9 (.func (.func 17) [] [g,h]) [] b λb=>kp b λg=>ar (fv [.a2, .Z 0] [(0,1,g)]) λg=>kd a c d g λc d g=>ba a 18 [c] d g (λc d g=>cl (b 2) λh=>nt a d h c λc=>k2 b 2 a c λd=>ba a 19 [d] c g (λ_ c d=>k2 b 2 a c λf=>ar (fv [.Z 0, .Z 0] []) λg=>cl (b 2) λh=>nt a c h f λc=>cl (b 3) λf=>ar (eI a c 2 f g) λc=>Ho a e b c d) (KM a e f (h3 [19,20] b))) (KM a e f (h3 [15,16,17,18] b))) λf=>bb j (fs (i+3) λf=>ar (ep a h 2 d) λi=>ar (eI a h 1 c .cW) λh=>ar (ep a h 2 d) λk=>iB k (some i) (ar (eI a h 2 d i) λh=>Ho a e (zM (c0 [b]) 2 c 3 d 4 g 12 j) h f)) (f (zM (c0 [b]) 2 c 3 d 4 g 12 j) h i)) (KM a e f (h3 [6,7,5,8,9,4] (zK (c0 [b]) 2 c 3 d)))
def ajz:CS X 4 [a0] h j aj au=WM X a0 h j aj au:=Zk
def ajy:c4 X 4 1=true:=Zk
def PZ(a:aK)(b c:z)(d:Option z)(e:S ai)(f:Nat)(g:Bool->S ai->Nat->Prop):Prop:=
 KT (some d) (c0 [b,c]) λb c=>bA (λa b c=>g a.rc b c) λd=>ar (dv a e .eql 20 true b .nilIface) λg=>bA d λd=>bb g (d (zK c 5 b 7 g) e f) (ar (LQ 26 (.agg [.Z 0, .Z 0]) true b) λh=>ar (rJ 1 h) λi=>ar (rJ 0 h) λh=>bA d λd=>bb i (Fa f a e λe f j=>ar (eI a f 2 e h) λf=>fs (j+3) λj=>ar (ep a f 2 e) λk=>eO c λl=>ar (eI a f 1 l .cW) λf=>ar (ep a f 2 e) λl=>iB l (some k) (rS c λl=>ar (eI a f 2 l k) λa=>d (ab (zM c 5 b 7 g 9 i 10 h) 3 e) a j)) (yP (λ_ _ _=>False) b e f))
def Wr(X:co)(a0 bd:z)(kG:Option z)(h:S ai)(j:Nat)(aj:Bool->S ai->Nat->Prop):FS X 17 [a0,bd] kG h j aj=PZ X a0 bd kG h j aj:=Zk
def P0:c4 X 17 2=true:=Zk
def Ws(a:aK)(b:z)(c:S ai)(d:Nat)(e f:bR):Prop:=
 ar (fv [.a2] []) λg=>kd a c d g λc d g=>bA (λa b c=>cl (a 3) λa=>e a b c) λe=>fJ (λb c d g=>kp c λh=>bA (λc d e=>bA (λc d e=>eO c λg=>ba a 35 [g] d e (λa d e=>ar (uz false 0 1 a) λa=>ar (bm .neq a (.Z 7)) λa=>b (ab c 4 a) d e) f) λb=>fs (e+12) λg=>fR c 3 3 λh i=>gs i 0 a d λi j=>eO c λk=>ba a 36 [k] d g (λd f g=>ar (hz 1 [.str [], .Z 0, .a2, .a2, .a2, .a2] [(0,6,d)] (e+7)) λd=>me a f (e+7) d.1 d.2 λd e=>ar (aV a e i) λf=>iB f (some j) (iA (lK a e g 6 j d) e g λd e f=>rR h 0 a e d λa=>b c a f)) f) λa=>bb h (a (ab c 7 h) d g) (e (ab c 7 h) d g)) (zL (c0 [b]) 2 .cW 3 c 4 .zT) d g
def aiF:dm X 18 [a0] h j aj au=Ws X a0 h j aj au:=Zk
def aiE:c4 X 18 1=true:=Zk
def Wt(a:aK)(b:z)(c:S ai)(d:Nat)(e f:bR):Prop:=
 gs b 0 a c λ_ g=>ar (eT g) λg=>ar (bm .gtr g (.Z 64)) λg=>bA (λb c d=>jq b 0 a c λ_ _ g=>jQ g (λ_ a b=>e (.tuple []) a b) λe h=>fJ (λb c d e=>iF c 26 25 λg=>bA (λc d e=>ie (λa c d=>g2 a 26 λe=>b (ab a 26 e) c d) c 24 26 λb g h=>qJ 6 g h a d λg=>HJ e a d λd e h=>ar (eI a e 6 d g) λe=>eM 2 d a e λ_ g=>ar (eT g) λg=>eM 3 d a e λ_ i=>HL i g λg=>eM 4 d a e λ_ i=>HL i g λg=>ar (bm .gtr g (.Z 256)) λg=>qI g 5 d e h a λe h i=>fa g (eT e) h i λe h i=>fa g (bm .gtr e (.Z 4096)) h i λe h i=>c5 (λe=>bA (λc d e=>kc c 3 5 a d λ_ g=>ar (eT g) λh=>bA b λb=>fJ (λc d e g=>iF d 55 54 λh=>bA (λb d e=>ie (λa b d=>g2 a 55 λe=>c (ab a 55 e) b d) b 53 55 λc g h=>Lk g h a d e 3 λd e g h=>ba a 37 [h] g e (λe g h=>ar (bm .gtr e (.Z 200)) λe=>bA c λc=>bb e (Ll 2 d a g 22 λa=>yP f a g h) (c (zK b 5 d 62 e) g h)) f) λa=>bb h (a (ab d 56 h) e g) (b (ab d 56 h) e g)) (zL c 53 g 54 h 55 (.Z 0)) d e) λb=>bb e (Ll 1 d a h 30 λa=>yP f a h i) (b (zK c 3 d 47 e) h i)) λa=>bb g (a .zT) (a e)) λa=>bb g (a (ab c 27 g) d e) (h (ab c 27 g) d e)) (zL b 24 g 25 e 26 (.Z 0)) c d) λe=>bb g (gs b 0 a c λ_ b=>ar (iv 6 b (.Z 64)) λb=>Ll 1 b a c 30 λa=>yP f a c d) (e (ab (c0 [b]) 11 g) c d)
def aiH:dm X 19 [a0] h j aj au=Wt X a0 h j aj au:=Zk
def aiG:c4 X 19 1=true:=Zk
def WI(a:aK)(b:z)(c:S ai)(d:Nat)(e _:bR):Prop:=
 xk d a c λc d f=>fs (f+11) λf=>gs b 0 a d λ_ g=>gs b 1 a d λ_ b=>qJ 7 g b a d λb=>xl a d 7 c b λa b=>e b a f
def ai9:dm X 35 [a0] h j aj au=WI X a0 h j aj au:=Zk
def ai8:c4 X 35 1=true:=Zk
def WJ(a:aK)(b:z)(c:S ai)(d:Nat)(e f:bR):Prop:=
 HJ d a c λc d g=>ar (hz 1 [.str []] [(0,1, .str [110,111,100,101])] g) λh=>gm a d g h.1 h.2 λd g h=>ba a 59 [b,d] g h (λ_ d g=>ba a 60 [b, .Z 1] d g (λd g h=>vD h a g d λd g h=>eM 1 d a h λ_ i=>eM 2 d a h λ_ j=>ar (fv [.str [], .Z 0, .a2, .a2, .a2, .a2] [(0,1,i),(1,1,j)]) λi=>HJ g a h λg h j=>ar (eI a h 6 g i) λh=>rT 40 j a h b f λ_ h i=>HN a b 41 h i f λh i j=>ar (hb .not h) λk=>bA (λb c d=>eO b λg=>ar (hz 2 [.str [], .str []] [(0,1, .str [114,101,116,117,114,110,115]),(1,1, .str [40])] d) λh=>gm a c d h.1 h.2 λc d h=>ba a 59 [g,c] d h (λ_ c d=>eO b λg=>ba a 62 [g, .zF] c d (λc d g=>kp b λh=>rQ 3 h a d c λc=>eO b λd=>rT 41 g a c d f λ_ c d=>eO b λg=>ba a 61 [g, .str [118,97,114]] c d (λc d g=>s2 c g a d λc _ d g=>bA (λb c d=>eO b λg=>ar (hz 1 [.str []] [(0,1, .str [108,101,116])] d) λh=>gm a c d h.1 h.2 λc d h=>ba a 59 [g,c] d h (λ_ c d=>bA (λb c d=>rP b 2 a c 6 λa=>e a c d) λ_=>fJ (λb c d g=>bA b λb=>eO c λh=>ba a 61 [h, .str [116,101,108]] d g (λd g h=>s2 d h a g λd _ g h=>bA (λc d e=>fs (e+8) λg=>kc c 4 5 a d λh i=>eO c λj=>ba a 63 [j] d g (λd f g=>ar (hz 1 [.a2, .a2, .Z 0, .cW] [(0,4,d)] (e+4)) λd=>me a f (e+4) d.1 d.2 λd e=>ar (aV a e h) λf=>iB f (some i) (iA (lK a e g 4 i d) e g λd e f=>kp c λg=>rQ 5 g a e d λa=>b c a f)) f) λb=>bb d (rP c 4 a h 6 λb=>n0 c 2 a h 6 b λa b=>e b a g) (b (zK c 10 d 66 d) h g)) f) b c d) f) λe=>bb c (eO b λh=>ba a 62 [h, .zT] g d (λd g h=>kp b λi=>rQ 4 i a g d λd=>eO b λg=>rT 59 h a d g f λ_ a d=>e (zK b 8 c 51 c) a d) f) (e (zK b 8 c 51 c) g d)) f) f) f) λe=>bb k (ba a 62 [b, .zF] j i (λi j l=>rQ 2 g a j i λi=>rT 41 l a i b f λ_ a f=>e (ab (zM (c0 [b]) 2 c 3 d 4 g 6 h) 30 k) a f) f) (e (ab (zM (c0 [b]) 2 c 3 d 4 g 6 h) 30 k) j i)) f) f
def ajb:dm X 36 [a0] h j aj au=WJ X a0 h j aj au:=Zk
def aja:c4 X 36 1=true:=Zk
def W4(a:aK)(b c:z)(d:S ai)(e:Nat)(f g:bR):Prop:=
 xk e a d λd e h=>xk h a e λe h i=>jQ c (λb c d=>rP b 5 a c 7 λe=>n0 b 4 a c 7 e λa b=>f b a d) λf j=>fJ (λb c d e=>iF c 11 10 λf=>bA (λc d e=>ie (λa c d=>g2 a 11 λe=>b (ab a 11 e) c d) c 9 11 λb f h=>kb f h a d λf=>eO c λh=>ba a 61 [h,f] d e (λd e h=>jR d λd i=>cl (c 5) λj=>ar (eI a e 7 j d) λd=>xn i b λb e=>bb b (eO c λj=>ba a 35 [j] d h (λd h j=>ba a 97 [d] h j (λ_ a d=>e (zM c 7 f 8 .zF 8 i 22 b) a d) g) g) (e (zM c 7 f 8 .zF 8 i 22 b) d h)) g) λa=>bb f (a (ab c 12 f) d e) (j (ab c 12 f) d e)) (ab (zM (c0 [b,c]) 4 d 5 e 9 c 10 f) 11 (.Z 0)) h i
def ajT:dm X 59 [a0,bd] h j aj au=W4 X a0 bd h j aj au:=Zk
def ajS:c4 X 59 2=true:=Zk
def W6(a:aK)(b c:z)(d:S ai)(e:Nat)(f g:bR):Prop:=
 xk e a d λd e h=>ba a 35 [b] e h (λe h i=>vD i a h e λe h i=>eM 0 e a i λ_ j=>ar (bm .neq j c) λj=>bA (λb c d=>Lo b a c λc=>rP b 5 a c 7 λe=>n0 b 4 a c 7 e λa b=>f b a d) λf=>bb j (xm a i 7 e 97 h g λ_ a g=>f (zL (c0 [b,c]) 4 d 5 e 11 j) a g) (f (zL (c0 [b,c]) 4 d 5 e 11 j) i h)) g
def ajV:dm X 60 [a0,bd] h j aj au=W6 X a0 bd h j aj au:=Zk
def ajU:c4 X 60 2=true:=Zk
def P1(a:aK)(b c:z)(d:S ai)(e:Nat)(f g:bR):Prop:=
 xk e a d λd e h=>ba a 35 [b] e h (λe g h=>vD h a g e λe g h=>eM 0 e a h λ_ i=>ar (bm .neq i (.Z 2)) λi=>uc i 0 e h g a λg h j=>eH i (bm .neq g (.Z 6)) h j λg h j=>c5 (λg=>qI g 1 e h j a λh i j=>gW g c i j λi j k=>fa g (dv a j .neq 9 false h i) j k λh i j=>c5 (λg=>bA (λb c d=>Lo b a c λc=>rP b 6 a c 7 λe=>n0 b 4 a c 7 e λa b=>f (.tuple [b, .zT]) a d) λh=>bb g (PJ λb=>xl a i 7 d b λa b=>f (.tuple [b, .zF]) a j) (h (zM (c0 [b,c]) 4 d 5 .zF 6 e 22 g) i j)) λa=>bb g (a .zT) (a h)) λa=>bb i (a g) (a .zF)) g
def W8:dm X 61 [a0,bd] h j aj au=P1 X a0 bd h j aj au:=Zk
def W7:c4 X 61 2=true:=Zk
def W9(a:aK)(b c:z)(d:S ai)(e:Nat)(f g:bR):Prop:=
 bA (λa b c=>kp a λa=>f a b c) λ_=>fJ (λb c d e=>bA b λb=>bA (λc d e=>eO c λh=>rT 58 e a d h g λ_ d e=>eO c λh=>ba a 60 [h, .Z 3] d e (λd e h=>ar (uz true 4 3 d) λd=>ar (fv [.str [], .Z 0, .zF, .zF, .Z 0, .str [], .Z 0, .zF] [(2,3,d)]) λd=>Cd h a e λe h i=>ar (eI a h 8 e d) λd=>eO c λh=>ba a 61 [h, .str [119,104,101,110]] d i (λd h i=>s2 d i a h λd _ h i=>bA (λc d e=>cl (c 6) λh=>jQ h (λc d e=>fs (e+22) λe=>eO c λh=>ba a 35 [h] d e (λd e g=>ar (uz false 1 1 d) λd=>ar (dv a e .neq 9 true d (.str [59])) λd=>TH d (c 1) e λe h=>N8 d e h λe h=>E8 e c h 0 a λh i=>E8 e c i 1 a λi j=>lw e (bm .add i (.Z 1)) j λi j=>lw e (iv 7 h i) j λh i=>lw e (iq 1 h) i λh i=>lw e (aV a i h) i λh i=>lw e (dv a i .eql 9 true h (.str [108,101,116])) i λh i=>N7 d (λa=>c5 (λb=>a b i) λa=>bb e (a h) (a .zF)) i λe h=>c5 (λd=>bA (λc d e=>Lo c a d λa=>b c a e) λa=>bb d (cl (c 5) λa=>f a h g) (a (ab c 90 d) h g)) λa=>bb d (a .zT) (a e)) g) λb f=>fJ (λb c d e=>iF c 54 53 λg=>bA (λc d e=>ie (λa c d=>g2 a 54 λe=>b (ab a 54 e) c d) c 52 54 λb f g=>qJ 7 f g a d λf=>vD e a d f λd e f=>fs (e+8) λe=>eM 1 d a f λ_ g=>eM 2 d a f λh i=>cl (c 8) λj=>rQ 0 j a f g λf=>cl (c 8) λg=>ar (iq 1 g) λg=>ar (aV a f h) λh=>iB h (some i) (nt a f g i λf=>fR c 5 8 λg h=>ar (ep a f 8 h) λh=>ar (hz 1 [.str [], .Z 0, .zF, .zF, .Z 0, .str [], .Z 0, .zF] [(0,8,h)] e) λh=>gm a f e h.1 h.2 λe f h=>iA (lK a f h 8 g e) f h λa e f=>b (zK c 13 d 5 a) e f)) λa=>bb g (a (ab c 55 g) d e) (f (ab c 55 g) d e)) (zL c 52 h 53 b 54 (.Z 0)) d e) λb=>bb d (eO c λf=>ba a 61 [f, .str [110,111,116]] i h (λf h i=>jR f λ_ f=>rQ 7 e a h f λf=>eO c λh=>ba a 60 [h, .Z 1] f i (λf g h=>vD h a g f λf g h=>fs (g+8) λg=>eM 1 f a h λ_ i=>eM 2 f a h λj k=>rQ 5 e a h i λh=>ar (iq 6 e) λi=>ar (aV a h j) λj=>iB j (some k) (nt a h i k λa=>b (zM c 8 e 10 d 37 d 11 f) a g)) g) g) (b (zL c 8 e 10 d 37 d) i h)) g) g) λb=>fJ (λc d e f=>cl (d 7) λh=>bA (λb d e=>ie (λb d e=>eO b λf=>ba a 61 [f, .str [44]] d e (λa d e=>jR a λ_ a=>c (ab b 7 a) d e) g) b 6 0 λc f h=>ba a 60 [h, .Z 1] d e (λd e g=>PF d g a e f λa d e=>c (ab b 6 a) d e) g) λa=>bb h (a (ab d 14 h) e f) (b (ab d 14 h) e f)) (zK c 6 .a2 7 .zT) d e) (zK (c0 [b,c]) 4 .a2 5 .a2) d e
def ajX:dm X 62 [a0,bd] h j aj au=W9 X a0 bd h j aj au:=Zk
def ajW:c4 X 62 2=true:=Zk
def Xa(a:aK)(b:z)(c:S ai)(d:Nat)(e f:bR):Prop:=
 kd a c d b λc d g=>ar (kK [.a2, .a2, .Z 0, .cW] g) λh=>gm a d g h.1 h.2 λd g h=>ar (kK [.a2, .a2, .Z 0, .cW] h) λi=>gm a g h i.1 i.2 λg h i=>ar (aV a h c) λj=>HN a j 40 h i f λh i j=>bA (λb c d=>k2 b 1 a c λg=>rT 61 d a c g f λc d g=>ar (uz false 2 1 c) λc=>cl (b 3) λh=>rQ 2 h a d c λc=>k2 b 1 a c λd=>ba a 99 [d] c g (λc d g=>cl (b 3) λh=>rQ 3 h a d c λc=>k2 b 1 a c λd=>rT 59 g a c d f λ_ c d=>rP b 3 a c 4 λf=>n0 b 2 a c 4 f λa b=>e b a d) f) λe=>bb h (ot a (.func (.func 98) [] [c,g]) [] j i (λ_ i j=>ar (aV a i c) λk=>rT 44 j a i k f λ_ i j=>bA (λb c d=>k2 b 1 a c λg=>rT 41 d a c g f λ_ a c=>e b a c) λe=>fJ (λb c d g=>cl (c 7) λh=>bA (λc d e=>bA (λc d e=>k2 c 1 a d λg=>ba a 61 [g, .str [44]] d e (λa d e=>jR a λ_ a=>b (ab c 7 a) d e) f) λb=>kp c λg=>ot a g [] d e (λ_ a d=>b c a d) f) λa=>bb h (a (ab c 20 h) d g) (e (ab c 20 h) d g)) (zL (zM (c0 [b]) 1 c 2 d 3 g 4 (.func (.func 98) [] [c,g])) 6 h 14 h 7 .zT) i j) f) (ot a (.func (.func 98) [] [c,g]) [] j i (λ_ a f=>e (zK (zM (c0 [b]) 1 c 2 d 3 g 4 (.func (.func 98) [] [c,g])) 6 h 14 h) a f) f)
def ajZ:dm X 63 [a0] h j aj au=Xa X a0 h j aj au:=Zk
def ajY:c4 X 63 1=true:=Zk
def Xy(a:aK)(b:z)(c:S ai)(d:Nat)(_ e:bR):Prop:=
 kd a c d b λb c d=>Ll 2 b a c 21 λa=>yP e a c d
def akJ:dm X 97 [a0] h j aj au=Xy X a0 h j aj au:=Zk
def akI:c4 X 97 1=true:=Zk
def Xz(a:aK)(b c:z)(d:S ai)(e:Nat)(f g:bR):Prop:=
 ar (aV a d b) λb=>ba a 60 [b, .Z 1] d e (λb d e=>vD e a d b λb d e=>fs (d+16) λg=>eM 0 c a e λ_ h=>eM 1 b a e λ_ i=>ar (hz 1 [.str []] [(0,1,i)] (d+4)) λi=>me a e (d+4) i.1 i.2 λe i=>eM 1 c a i λj k=>eM 2 b a i λb l=>ar (hz 1 [.Z 0] [(0,1,l)] (d+10)) λm=>me a i (d+10) m.1 m.2 λd i=>s3 a i g h e λe g h=>ar (iq 0 c) λi=>ar (aV a g j) λj=>iB j (some k) (ar (aV a g b) λb=>iB b (some l) (s3 a g h k d λb d g=>nt a d i e λd=>rQ 1 c a d b λa=>f (.tuple []) a g))) g
def akL:dm X 98 [a0,bd] h j aj au=Xz X a0 bd h j aj au:=Zk
def akK:c4 X 98 2=true:=Zk
def XA(a:aK)(b:z)(c:S ai)(d:Nat)(e f:bR):Prop:=
 ba a 129 [b] c d (λc d g=>ba a 61 [b, .str [45,62]] d g (λd g h=>s2 d h a g λd g h i=>ar (hb .not d) λj=>bA (λb c d=>fs (d+9) λg=>kc b 4 2 a c λh i=>fR b 3 0 λb j=>ba a 99 [j] c g (λc f g=>ar (hz 2 [.cW, .cW] [(0,1,b),(1,1,c)] (d+5)) λb=>me a f (d+5) b.1 b.2 λb c=>ar (fv [.Z 0, .Z 0, .str [], .zF, .zF, .zF, .Z 0, .int .u64 0, .a2] [(0,1, .Z 22),(1,1,i),(8,1,b)]) λb=>vR a c (d+7) b λb c=>ar (aV a c h) λa=>iB a (some i) (e b c g)) f) λa=>bb j (e c i h) (a (ab (zM (c0 [b]) 2 .cW 3 c 4 g 5 d) 14 j) i h)) f) f
def akN:dm X 99 [a0] h j aj au=XA X a0 h j aj au:=Zk
def akM:c4 X 99 1=true:=Zk
def V9(a:aK)(b:z)(c:S ai)(d:Nat)(e f:bR):Prop:=
 ba a 147 [b, .Z 0] c d (λc d g=>ba a 61 [b, .str [102,98,121]] d g (λd g h=>s2 d h a g λd g h i=>ar (hb .not d) λj=>bA (λb c d=>cl (b 3) λg=>gs g 0 a c λ_ g=>ar (bm .neq g (.Z 1)) λg=>ou g (b 3) c d λc d h=>Cg g c d h 0 a λc d h=>eH g (bm .neq c (.Z 4)) d h λc d h=>j6 g c d h λc d h=>yF c (b 3) d h λd h i=>Fg c d h i 8 a λd h i=>fa c (iv 1 d (.Z 0)) h i λd h i=>fa c (aV a h d) h i λd h i=>Fg c d h i 0 a λd h i=>fa c (bm .neq d (.Z 1)) h i λd h i=>md g (λa=>c5 (λb=>a b h i) λa=>bb c (a .zT) (a d)) h i λc d h=>c5 (λc=>bA (λb c d=>fs (d+9) λg=>kc b 4 2 a c λh i=>fR b 3 0 λb j=>ba a 129 [j] c g (λc f g=>ar (hz 2 [.cW, .cW] [(0,1,b),(1,1,c)] (d+5)) λb=>me a f (d+5) b.1 b.2 λb c=>ar (fv [.Z 0, .Z 0, .str [], .zF, .zF, .zF, .Z 0, .int .u64 0, .a2] [(0,1, .Z 21),(1,1,i),(8,1,b)]) λb=>vR a c (d+7) b λb c=>ar (aV a c h) λa=>iB a (some i) (e b c g)) f) λe=>bb c (rP b 4 a d 7 λg=>ba a 97 [g] d h (λ_ a d=>e (ab b 39 c) a d) f) (e (ab b 39 c) d h)) λa=>bb g (a c) (a .zF)) λa=>bb j (e c i h) (a (ab (zM (c0 [b]) 2 .cW 3 c 4 g 5 d) 14 j) i h)) f) f
def ah3:dm X 129 [a0] h j aj au=V9 X a0 h j aj au:=Zk
def ah2:c4 X 129 1=true:=Zk
def Wh(a:aK)(b c:z)(d:S ai)(e:Nat)(f g:bR):Prop:=
 ar (bm .eql c (.Z 5)) λh=>bA (λb c d=>fR b 0 1 λe h=>Ce h λh=>ba a 147 [e,h] c d (λc d e=>bA (λa b c=>kp a λa=>f a b c) λ_=>fJ (λb c d e=>bA b λb=>fR c 0 1 λh i=>ba a 155 [h,i] d e (λd e h=>jR d λd i=>ar (hb .not i) λj=>bA (λc d e=>fR c 6 5 λh i=>fR c 0 1 λj k=>Ce k λk=>ba a 147 [j,k] d e (λd e g=>ar (hz 2 [.cW, .cW] [(0,1,i),(1,1,d)] g) λd=>gm a e g d.1 d.2 λd e g=>rR h 8 a e d λa=>fR c 6 1 λd e=>rN e 2 b λb e=>bb b (f d a g) (e (zK c 5 d 36 b) a g)) g) λa=>bb j (cl (c 5) λa=>f a e h) (a (zL c 6 d 7 i 23 j) e h)) g) (ab b 5 c) d e) g) λi=>bb h (ba a 154 [b] d e f g) (i (zK (c0 [b,c]) 4 .cW 9 h) d e)
def aij:dm X 147 [a0,bd] h j aj au=Wh X a0 bd h j aj au:=Zk
def aii:c4 X 147 2=true:=Zk
def Wl(a:aK)(b:z)(c:S ai)(d:Nat)(e f:bR):Prop:=
 ba a 163 [b] c d (λc d g=>bA (λa b c=>cl (a 2) λa=>e a b c) λ_=>fJ (λb c d g=>bA b λb=>eO c λh=>ba a 61 [h, .str [60,60]] d g (λd g h=>s2 d h a g λd g h i=>ar (hb .not d) λj=>bA (λc d g=>cl (c 6) λh=>ar (hb .not h) λh=>bA (λc d e=>eO c λg=>ba a 60 [g, .Z 4] d e (λd e g=>vD g a e d λd e g=>eM 3 d a g λ_ h=>ar (bm .gtr h (.int .u64 63)) λh=>bA (λc d e=>fR c 4 5 λf g=>eM 2 g a d λ_ g=>kc c 7 3 a d λ_ h=>cl (c 3) λi=>ar (hz 1 [.cW] [(0,1,i)] e) λi=>gm a d e i.1 i.2 λd e i=>ar (fv [.Z 0, .Z 0, .str [], .zF, .zF, .zF, .Z 0, .int .u64 0, .a2] [(0,1,f),(1,1,g),(7,1,h),(8,1,d)]) λd=>kd a e i d λa d e=>b (ab c 3 a) d e) λb=>bb h (xm a g 7 d 97 e f λ_ a e=>b (zK c 7 d 29 h) a e) (b (zK c 7 d 29 h) g e)) f) λa=>bb h (cl (c 3) λa=>e a d g) (a (ab c 23 h) d g)) λb=>bb j (eO c λe=>ba a 61 [e, .str [62,62]] i h (λe f h=>jR e λe i=>ar (eI a f 7 g e) λa=>b (zK (zM c 4 (.Z 19) 5 g 6 d 16 j) 4 (.Z 20) 6 i) a h) f) (b (zM c 4 (.Z 19) 5 g 6 d 16 j) i h)) f) (zK (c0 [b]) 2 .cW 3 c) d g) f
def air:dm X 154 [a0] h j aj au=Wl X a0 h j aj au:=Zk
def aiq:c4 X 154 1=true:=Zk
def Wm(a:aK)(b c:z)(d:S ai)(e:Nat)(f g:bR):Prop:=
 ar (GS 5 1 (.ptr 8 0) c) λh=>ar (aV a d h) λh=>jQ h (λ_ a b=>f (.tuple [.cW, .zF]) a b) λi j=>fJ (λb c d e=>iF c 14 13 λh=>bA (λc d e=>ie (λa c d=>g2 a 14 λe=>b (ab a 14 e) c d) c 12 14 λb h i=>qJ 2 h i a d λh=>ar (kK [.str [], .Z 0] e) λi=>gm a d e i.1 i.2 λd e i=>ar (eI a e 2 d h) λe=>eO c λh=>eM 0 d a e λ_ j=>ba a 61 [h,j] e i (λe g h=>s2 e h a g λe g h i=>bA b λb=>bb e (eM 1 d a i λ_ b=>eM 2 g a i λ_ c=>ar (fv [.Z 0, .Z 0, .str [], .zF, .zF, .zF, .Z 0, .int .u64 0, .a2] [(0,1,b),(1,1,c)]) λb=>kd a i h b λa b c=>f (.tuple [a, .zT]) b c) (b (zM c 7 d 8 g 9 e 25 e) i h)) g) λa=>bb h (a (ab c 15 h) d e) (j (ab c 15 h) d e)) (ab (zM (c0 [b,c]) 4 .cW 5 .zF 12 h 13 i) 14 (.Z 0)) d e
def ait:dm X 155 [a0,bd] h j aj au=Wm X a0 bd h j aj au:=Zk
def ais:c4 X 155 2=true:=Zk
def Wp(a:aK)(b:z)(c:S ai)(d:Nat)(e f:bR):Prop:=
 ar (fv [.str [], .Z 0] [(0,1, .str [110,111,116]),(1,1, .Z 3)]) λg=>ar (fv [.str [], .Z 0] [(0,1, .str [45]),(1,1, .Z 4)]) λh=>ar (fv [.str [], .Z 0] [(0,1, .str [112,114,101]),(1,1, .Z 5)]) λi=>ar (fv [.str [], .Z 0, .str [], .Z 0, .str [], .Z 0] [(0,2,g),(2,2,h),(4,2,i)]) λg=>bA (λb c d=>eO b λg=>ba a 171 [g] c d (λc d g=>bA (λa b c=>cl (a 2) λa=>e a b c) λ_=>fJ (λb c d g=>bA b λb=>eO c λh=>ba a 61 [h, .str [119,104,101,110]] d g (λd g h=>s2 d h a g λd g h i=>ar (hb .not d) λj=>bA (λc d e=>eO c λg=>ba a 61 [g, .str [110,111,116]] d e (λd e g=>s2 d g a e λd _ e g=>fs (e+11) λh=>kc c 8 2 a g λi j=>fR c 0 7 λk l=>ar (hz 1 [.cW] [(0,1,l)] (e+7)) λl=>me a g (e+7) l.1 l.2 λg l=>ba a 60 [k, .Z 1] l h (λf h k=>ar (uz false 1 1 f) λf=>ar (fv [.Z 0, .Z 0, .str [], .zF, .zF, .zF, .Z 0, .int .u64 0, .a2] [(0,1, .Z 6),(1,1,j),(2,1,f),(3,1,d),(8,1,g)]) λf=>vR a h (e+9) f λe f=>ar (aV a f i) λa=>iB a (some j) (b (zK c 11 d 7 e) f k)) f) f) λa=>bb j (cl (c 7) λa=>e a i h) (a (zL c 8 g 9 d 45 j) i h)) f) (ab b 7 c) d g) f) λh=>fJ (λb c d g=>cl (c 16) λi=>ar (bm .lss i (.Z 3)) λi=>bA (λc d g=>ie (λa c d=>g2 a 16 λe=>b (ab a 16 e) c d) c 15 16 λb h i=>ar (yD true 3 2 h i) λh=>ar (kK [.str [], .Z 0] g) λi=>gm a d g i.1 i.2 λd g i=>ar (eI a g 2 d h) λg=>eO c λh=>eM 0 d a g λ_ j=>ba a 61 [h,j] g i (λg h i=>s2 g i a h λg h i j=>bA b λb=>bb g (fs (i+10) λb=>eM 1 d a j λd g=>eM 2 h a j λh k=>eO c λc=>ba a 163 [c] j b (λb c f=>ar (hz 1 [.cW] [(0,1,b)] (i+6)) λb=>me a c (i+6) b.1 b.2 λb c=>ar (fv [.Z 0, .Z 0, .str [], .zF, .zF, .zF, .Z 0, .int .u64 0, .a2] [(0,1,g),(1,1,k),(8,1,b)]) λb=>vR a c (i+8) b λb c=>ar (aV a c d) λd=>iB d (some g) (ar (aV a c h) λa=>iB a (some k) (e b c f))) f) (b (zM c 4 d 5 h 6 g 26 g) j i)) f) λa=>bb i (a (ab c 17 i) d g) (h (ab c 17 i) d g)) (zL (c0 [b]) 2 .cW 15 g 16 (.Z 0)) c d
def aiz:dm X 163 [a0] h j aj au=Wp X a0 h j aj au:=Zk
def aiy:c4 X 163 1=true:=Zk
def xu(a:aK)(b:z)(c:S ai)(d:Nat)(e f:bR):Prop:=
 ba a 35 [b] c d (λc d g=>vD g a d c λc d g=>eM 2 c a g λ_ h=>ar (fv [.Z 0, .Z 0, .str [], .zF, .zF, .zF, .Z 0, .int .u64 0, .a2] [(1,1,h)]) λh=>kd a g d h λd g h=>gs b 1 a g λ_ i=>Ce i λi=>rR b 1 a g i λg=>bA (λa b c=>kp a λa=>e a b c) λe=>eM 0 c a g λ_ i=>rN i 5 e λe i=>bb e (fs (h+16) λf=>ar (iq 4 c) λh=>ar (ep a g 3 h) λj=>eM 3 c a g λk l=>l5 d 0 λm=>rO a g m 1 λg=>l5 d 4 λm=>ar (ep a g 3 h) λh=>iB h (some j) (ar (aV a g k) λh=>iB h (some l) (ar (eI a g 3 m j) λg=>l5 d 7 λh=>ar (aV a g k) λj=>iB j (some l) (nt a g h l λa=>i (zM (c0 [b]) 2 .cW 3 c 4 d 29 e) a f)))) (Fb c a g 2 λj=>uc j 1 c g h a λg h k=>eH j (dv a h .eql 9 true g (.str [116,114,117,101])) h k λg h k=>j6 j g h k λg h k=>qI g 1 c h k a λh k l=>fa g (dv a k .eql 9 true h (.str [102,97,108,115,101])) k l λh k l=>md j (λa=>c5 (λb=>a b k l) λa=>bb g (a .zT) (a h)) k l λg h k=>c5 (λg=>bA i λi=>bb g (ar (fv [.zF, .zF, .Z 0] [(0,1, .zT),(2,1, .Z 1)]) λf=>l5 d 0 λj=>rO a h j 1 λh=>l5 d 4 λj=>ar (eI a h 3 j f) λf=>eM 1 c a f λ_ h=>ar (dv a f .eql 9 true h (.str [116,114,117,101])) λh=>bA i λi=>bb h (l5 d 7 λj=>ar (eI a f 1 j (.int .u64 1)) λa=>i (zK (zM (c0 [b]) 2 .cW 3 c 4 d 29 e) 46 g 69 h) a k) (i (zK (zM (c0 [b]) 2 .cW 3 c 4 d 29 e) 46 g 69 h) f k)) (eM 0 c a h λ_ j=>rN j 1 i λi j=>bb i (fs (k+10) λk=>eM 1 c a h λl m=>l5 d 0 λn=>rO a h n 2 λh=>l5 d 2 λn=>ar (aV a h l) λl=>iB l (some m) (nt a h n m λh=>HN a b 40 h k f λh k l=>bA j λj=>bb h (ba a 175 [b] l k (λf k l=>l5 d 0 λm=>rO a k m 25 λk=>rR d 8 a k f λa=>j (zM (zM (c0 [b]) 2 .cW 3 c 4 d 29 e) 46 g 73 i 6 h 90 h) a l) f) (j (zM (zM (c0 [b]) 2 .cW 3 c 4 d 29 e) 46 g 73 i 6 h 90 h) l k))) (eM 0 c a h λ_ l=>rN l 3 j λj l=>bb j (fs (k+10) λk=>ar (iq 4 c) λm=>ar (ep a h 3 m) λn=>l5 d 0 λo=>rO a h o 26 λh=>l5 d 4 λo=>ar (ep a h 3 m) λm=>iB m (some n) (ar (eI a h 3 o n) λh=>rT 40 k a h b f λ_ h k=>PM a b h k f λh k m=>rR d 8 a k h λh=>rT 41 m a h b f λ_ a f=>l (zL (zM (c0 [b]) 2 .cW 3 c 4 d 29 e) 46 g 73 i 99 j) a f)) (Fb c a h 6 λm=>uc m 1 c h k a λh k n=>eH m (dv a k .eql 9 true h (.str [40])) k n λh k n=>c5 (λh=>bA l λl=>bb h (ba a 99 [b] k n (λk m n=>rT 41 n a m b f λ_ a f=>l (ab (zM (zM (c0 [b]) 2 .cW 3 c 4 d 29 e) 46 g 73 i 99 j 123 h) 4 k) a f) f) (Fb c a k 2 λm=>uc m 1 c k n a λk n o=>eH m (dv a n .eql 9 true k (.str [105,102])) n o λk n o=>c5 (λk=>bA l λl=>bb k (l5 d 0 λm=>rO a n m 23 λm=>PG o d a m b f λm n o p q=>iB q (some m) (s3 a p n m o λm n o=>rR d 8 a n m λm=>ar (hz 1 [.str []] [(0,1, .str [116,104,101,110])] o) λn=>gm a m o n.1 n.2 λm n o=>ba a 59 [b,m] n o (λ_ m n=>PG n d a m b f λm n o p q=>iB q (some m) (s3 a p n m o λm n o=>rR d 8 a n m λm=>ar (hz 1 [.str []] [(0,1, .str [101,108,115,101])] o) λn=>gm a m o n.1 n.2 λm n o=>ba a 59 [b,m] n o (λ_ m n=>PG n d a m b f λf m n o p=>iB p (some f) (s3 a o m f n λf m n=>rR d 8 a m f λa=>l (ab (zM (zM (c0 [b]) 2 .cW 3 c 4 d 29 e) 46 g 73 i 99 j 123 h) 137 k) a n)) f)) f)) (Fb c a n 2 λm=>uc m 1 c n o a λn o p=>eH m (dv a o .eql 9 true n (.str [109,101,114,103,101])) o p λn o p=>c5 (λm=>bA l λl=>bb m (ba a 60 [b, .Z 1] o p (λn o p=>ar (uz false 1 1 n) λn=>l5 d 0 λq=>rO a o q 24 λo=>rR d 2 a o n λn=>ba a 171 [b] n p (λn o p=>ba a 171 [b] o p (λf o p=>ar (hz 2 [.cW, .cW] [(0,1,n),(1,1,f)] p) λf=>gm a o p f.1 f.2 λf n o=>rR d 8 a n f λa=>l (zK (zM (zM (c0 [b]) 2 .cW 3 c 4 d 29 e) 46 g 73 i 99 j 123 h) 137 k 188 m) a o) f) f) f) (gs b 1 a o λ_ n=>Cf n λn=>rR b 1 a o n λn=>xm a n 7 c 97 p f λ_ a f=>l (zK (zM (zM (c0 [b]) 2 .cW 3 c 4 d 29 e) 46 g 73 i 99 j 123 h) 137 k 188 m) a f)) λa=>bb m (a n) (a .zF))) λa=>bb m (a k) (a .zF))) λa=>bb m (a h) (a .zF))))) λa=>bb j (a g) (a .zF))) f
def Aq:dm X 171 [a0] h j aj au=xu X a0 h j aj au:=Zk
def Ap:c4 X 171 1=true:=Zk
def Wq(a:aK)(b:z)(c:S ai)(d:Nat)(e f:bR):Prop:=
 HN a b 41 c d f λc d g=>bA (λb c d=>eO b λg=>PM a g c d f λc d g=>bA (λa b c=>cl (a 2) λa=>e a b c) λ_=>fJ (λb c d g=>bA b λb=>eO c λh=>HN a h 44 d g f λd g h=>ar (hb .not d) λi=>bA (λc d e=>fR c 5 0 λg h=>PM a h d e f λd e f=>s3 a e f g d λa d e=>b (ab c 5 a) d e) λb=>bb i (eO c λb=>rT 41 g a h b f λ_ a b=>cl (c 5) λc=>e c a b) (b (zK c 7 d 23 i) h g)) (ab b 5 c) d g) λa=>bb c (e .a2 g d) (a (zL (c0 [b]) 2 .a2 4 c 13 c) g d)
def aiD:dm X 175 [a0] h j aj au=Wq X a0 h j aj au:=Zk
def aiC:c4 X 175 1=true:=Zk
end
end Go.Proofs.YtendhgofocgngaaGreatDoor

namespace Go.Proofs.YtendhgofocgngaaGreatDoor
open Go.bn Go.aT
noncomputable section
def b6(t:Tok):List z:=[.Z t.kind, .str t.text, .Z t.at_, .int .u64 t.n, .bool t.ty.b, .bool t.ty.s, .Z t.ty.w]
def pf:Nat:=3
def auv(f:Nat):Bool:=oz f [5,143,119]
structure dN(X:co):Prop where
 none:∀f k,auv f=false->X.O f k=none
set_option maxRecDepth 100000 in
def zJ{z7:co}(O:dN z7){f:Nat}{a:List z}{z9:S ai}{n:Nat}{u v:bR}(c:c4 z7 f a.length=true)(h:dm z7 f a z9 n u v)(b:auv f=false:=by rfl):ba z7 f a z9 n u v:=dc c (O.none _ _ b) h
structure aT(X:co)(h:S ai)(aH bM:Nat)(aO:List Tok)(i:Nat):Prop where
 at_:∃c am,Z X h aH=some (.cells c 2 .own)/\c.get 0=some am/\c.get 1=some (.Z (i:Int))/\dZ X h (λe=>e=bM) bM am 7 (aO.map b6)
 ne:aH≠bM
def aT.ad{X:co}{h R:S ai}{aH bM:Nat}{aO:List Tok}{i:Nat}(a:aT X h aH bM aO i)(bJ:Z X R aH=Z X h aH)(b2:Z X R bM=Z X h bM):aT X R aH bM aO i:=by
 obtain⟨c,am,H,K,ak,ay⟩:=a.at_
 exact⟨⟨c,am,by rw[bJ];exact H,K,ak,ay.ad λe D=>by subst D;exact b2⟩,a.ne⟩
def j7{C:aK}{h:S ai}{b n U:Nat}{c:S z}{st:oS}{v:z}(a:Z C h b=some (.cells c n st))(bo:c.get U=some v):aV C h (.ptr b U)=some v:=by rw[da,a];exact bo
section
variable{X:co}{h R:S ai}{j ap aH bM:Nat}{aO:List Tok}{i:Nat}
def ru(az:dN X)(aM:(q X).bf<=j)(av:aT X h aH bM aO i)(ki:aH<j)(jL:bM<j){t:Tok}(bh:aO[i]? =some t):
 ba X 35 [.ptr aH 0] h j (λac R ap=>ac= .agg (b6 t)/\bG X h j R ap) (λ_ _ _=>False):=by
 refine zJ az (ai8 X) ?_
 rw[ai9]
 unfold WI
 obtain⟨c,am,H,K,ak,ay⟩:=av.at_
 have wM:=j7 H K
 have bJ:=j7 H ak
 have aA:i<(aO.map b6).length:=by rw[Zl];exact(Zb.1 bh).1
 have dV:=ay.gF i aA
 have gg:ep X (bp X h j (zG [.Z 0, .str [], .Z 0, .int .u64 0, .zF, .zF, .Z 0] 7)) 7 (.ptr bM (i*7))=some (.agg (b6 t)):=by
  have:=(ay.ad (R:=bp X h j (zG [.Z 0, .str [], .Z 0, .int .u64 0, .zF, .zF, .Z 0] 7)) (λe D=>by subst D;exact aJ aM Zo)).row Zd (i:=i) (r:=b6 t) (by rw[Zv,bh];rfl)
  exact this
 refine ht @wM @bJ @dV @gg b6.eq_1 ⟨?_⟩
 exact⟨rfl,dS⟩
def sZ:List z:=[.Z 0, .str [], .Z 0, .int .u64 0, .zF, .zF, .Z 0]
def aT.on(av:aT X h aH bM aO i){W:Nat}{c:S z}(H:Z X R aH=some (.cells c 2 .own))(a8:∀dE st,Z X h aH=some (.cells dE 2 st)->c=dE.set 1 (some (.Z (W:Int))))(b2:Z X R bM=Z X h bM):aT X R aH bM aO W:=by
 obtain⟨dE,am,bd,ca,a3,a4⟩:=av.at_
 have:=a8 dE _ bd
 subst this
 refine⟨⟨_,am,H, ?_, ?_,a4.ad λe D=>by subst D;exact b2⟩,av.ne⟩
 ·rw[S.kw,Zg Zd];exact ca
 ·rw[S.kw,Zq rfl]
def IE(az:dN X)(aM:(q X).bf<=j)(t:Tok)(au:bR)(a:∀R ap,bG X h j R ap->au (.iface 26 (.agg [.Z 21, .Z t.at_])) R ap):
 ba X 97 [.agg (b6 t)] h j (λ_ _ _=>False) au:=by
 refine zJ az (akI X) ?_
 rw[akJ]
 unfold Xy b6
 refine cY ⟨?_⟩
 exact⟨a _ _ dS⟩
def agF(az:dN X)(aM:(q X).bf<=j)(av:aT X h aH bM aO i)(hc:(q X).bf<=aH)(ki:aH<j)(jL:bM<j)(aZ:aO.length<=300000){t:Tok}(bh:aO[i]? =some t){s:aW}(aD:gH t s=true):
 ba X 61 [.ptr aH 0, .str s] h j (λac R ap=>ac= .tuple [.agg (b6 t), .zT]/\aT X R aH bM aO (i+1)/\cx X [aH] h j R ap) (λ_ _ _=>False):=by
 refine zJ az (W7 X) ?_
 rw[W8]
 unfold P1
 refine s8 ?_
 have jx:=(Zb.1 bh).1
 have cb:bG X h j (bp X h j (zG sZ 7)) (j+1):=bG.fresh aM _
 have ec:aT X (bp X h j (zG sZ 7)) aH bM aO i:=av.ad (cb.ad _ ki) (cb.ad _ jL)
 refine(ru az Zo ec Zo Zo bh).mono ?_ (λ_ _ _ a=>a)
 rintro ac aQ bc ⟨rfl,cu⟩
 have ge:=cu.le
 have K:Z X aQ j=zG sZ 7:=by rw[cu.ad _ Zo];exact bz aM
 have gq:cx X [aH] h j aQ bc:=cx.of ((bG.fresh aM _).trans cu)
 have dq:aT X aQ aH bM aO i:=ec.ad (cu.ad _ Zo) (cu.ad _ Zo)
 obtain⟨c,am,bd,ca,a3,a4⟩:=dq.at_
 have aC:=gq.ad
 simp only[gH,Zp,Y1,Zi]at aD
 obtain⟨ql,rfl⟩:=aD
 have bJ:=j7 bd a3
 have bw:=zH i
 have er:decide (t.text≠t.text)=false:=by simp
 unfold sZ at K
 have fin:∀(r5:S ai) (ap:Nat),Z X r5 aH=some (.cells (dM c 1 [.Z ((i+1:Nat):Int)]) 2 .own)->cx X [aH] h j r5 ap->Z X r5 bM=Z X aQ bM->aT X r5 aH bM aO (i+1)/\cx X [aH] h j r5 ap:=λr5 ap H K ak=>
  ⟨dq.on H (λdE st a=>by rw[bd]at a;cases a;exact rI ..) ak,K⟩
 have cK:=av.ne
 rcases ql with gD|gD
 ·have cI:decide (t.kind≠2)=false:=by simp[gD]
  refine eD b6.eq_1 @cI @er @bJ @bw @bd @K ⟨?_⟩
  refine⟨rfl,fin _ _ ?_ ?_ ?_⟩
  ·simp(disch:=omega) only[aJ,bz];rfl
  ·exact⟨Zo,λb ah bT=>by have:=aC b ah bT;simp only[Zr,ZL,Y0,Yx,ZI,Yj]at bT;simp(disch:=omega) only[aJ];exact this⟩
  ·simp(disch:=omega) only[aJ]
 ·have cI:decide (t.kind≠2)=true:=by simp[gD]
  have cE:decide (t.kind≠6)=false:=by simp[gD]
  refine eD b6.eq_1 @cI @cE @er @bJ @bw (Za @bd @K) ⟨?_⟩
  refine⟨rfl,fin _ _ ?_ ?_ ?_⟩
  ·simp(disch:=omega) only[aJ,bz];rfl
  ·exact⟨Zo,λb ah bT=>by have:=aC b ah bT;simp only[Zr,ZL,Y0,Yx,ZI,Yj]at bT;simp(disch:=omega) only[aJ];exact this⟩
  ·simp(disch:=omega) only[aJ]
def agE(az:dN X)(aM:(q X).bf<=j)(av:aT X h aH bM aO i)(hc:(q X).bf<=aH)(ki:aH<j)(jL:bM<j){t:Tok}(bh:aO[i]? =some t){s:aW}(aD:gH t s=false):
 ba X 61 [.ptr aH 0, .str s] h j (λac R ap=>ac= .tuple [.agg sZ, .zF]/\aT X R aH bM aO i/\cx X [aH] h j R ap) (λ_ _ _=>False):=by
 refine zJ az (W7 X) ?_
 rw[W8]
 unfold P1
 refine s8 ?_
 have cb:bG X h j (bp X h j (zG sZ 7)) (j+1):=bG.fresh aM _
 have ec:aT X (bp X h j (zG sZ 7)) aH bM aO i:=av.ad (cb.ad _ ki) (cb.ad _ jL)
 refine(ru az Zo ec Zo Zo bh).mono ?_ (λ_ _ _ a=>a)
 rintro ac aQ bc ⟨rfl,cu⟩
 have ge:=cu.le
 have K:Z X aQ j=zG sZ 7:=by rw[cu.ad _ Zo];exact bz aM
 have gq:cx X [aH] h j aQ bc:=cx.of ((bG.fresh aM _).trans cu)
 have dq:aT X aQ aH bM aO i:=ec.ad (cu.ad _ Zo) (cu.ad _ Zo)
 have aC:=gq.ad
 unfold sZ at K
 have fin:∀(r5:S ai) (ap:Nat),Z X r5 aH=Z X aQ aH->cx X [aH] h j r5 ap->Z X r5 bM=Z X aQ bM->aT X r5 aH bM aO i/\cx X [aH] h j r5 ap:=λr5 ap H K ak=>
  ⟨dq.ad H ak,K⟩
 simp only[gH,Bool.and_eq_false_iff,Bool.or_eq_false_iff,Zc]at aD
 by_cases gD:t.kind=2
 ·have aD:t.text≠s:=by rcases aD with a|a;exact absurd gD a.1;exact a
  have cI:decide (t.kind≠2)=false:=by simp[gD]
  have er:decide (t.text≠s)=true:=by simpa using aD
  refine hm b6.eq_1 @cI @er @K ⟨?_⟩
  refine⟨rfl,fin _ _ ?_ ?_ ?_⟩
  ·simp(disch:=omega) only[aJ]
  ·exact⟨Zo,λb ah bT=>by have:=aC b ah bT;simp only[Zr,ZL,Y0,Yx,ZI,Yj]at bT;simp(disch:=omega) only[aJ];exact this⟩
  ·simp(disch:=omega) only[aJ]
 ·have cI:decide (t.kind≠2)=true:=by simp[gD]
  by_cases kz:t.kind=6
  ·have aD:t.text≠s:=by rcases aD with a|a;exact absurd kz a.2;exact a
   have cE:decide (t.kind≠6)=false:=by simp[kz]
   have er:decide (t.text≠s)=true:=by simpa using aD
   refine ht b6.eq_1 @cI @cE @er @K ⟨?_⟩
   refine⟨rfl,fin _ _ ?_ ?_ ?_⟩
   ·simp(disch:=omega) only[aJ]
   ·exact⟨Zo,λb ah bT=>by have:=aC b ah bT;simp only[Zr,ZL,Y0,Yx,ZI,Yj]at bT;simp(disch:=omega) only[aJ];exact this⟩
   ·simp(disch:=omega) only[aJ]
  ·have cE:decide (t.kind≠6)=true:=by simp[kz]
   refine hm b6.eq_1 @cI @cE @K ⟨?_⟩
   refine⟨rfl,fin _ _ ?_ ?_ ?_⟩
   ·simp(disch:=omega) only[aJ]
   ·exact⟨Zo,λb ah bT=>by have:=aC b ah bT;simp only[Zr,ZL,Y0,Yx,ZI,Yj]at bT;simp(disch:=omega) only[aJ];exact this⟩
   ·simp(disch:=omega) only[aJ]
def BT(az:dN X)(aM:(q X).bf<=j)(av:aT X h aH bM aO i)(hc:(q X).bf<=aH)(ki:aH<j)(jL:bM<j)(aZ:aO.length<=300000){t:Tok}(bh:aO[i]? =some t)(o:Int):
 ba X 60 [.ptr aH 0, .Z o] h j (λac R ap=>t.kind=o/\ac= .agg (b6 t)/\aT X R aH bM aO (i+1)/\cx X [aH] h j R ap)
  (λac R ap=>t.kind≠o/\ac= .iface 26 (.agg [.Z 21, .Z t.at_])/\cx X [aH] h j R ap):=by
 refine zJ az (ajU X) ?_
 rw[ajV]
 unfold W6
 refine s8 ?_
 have jx:=(Zb.1 bh).1
 have cb:bG X h j (bp X h j (zG sZ 7)) (j+1):=bG.fresh aM _
 have ec:aT X (bp X h j (zG sZ 7)) aH bM aO i:=av.ad (cb.ad _ ki) (cb.ad _ jL)
 refine(ru az Zo ec Zo Zo bh).Zm ?_
 rintro ac aQ bc ⟨rfl,cu⟩
 have ge:=cu.le
 have K:Z X aQ j=zG sZ 7:=by rw[cu.ad _ Zo];exact bz aM
 have gq:cx X [aH] h j aQ bc:=cx.of ((bG.fresh aM _).trans cu)
 have dq:aT X aQ aH bM aO i:=ec.ad (cu.ad _ Zo) (cu.ad _ Zo)
 obtain⟨c,am,bd,ca,a3,a4⟩:=dq.at_
 have aC:=gq.ad
 have bJ:=j7 bd a3
 have bw:=zH i
 unfold sZ at K
 have cK:=av.ne
 by_cases uV:t.kind=o
 ·have cI:decide (t.kind≠o)=false:=by simp[uV]
  refine lT b6.eq_1 @cI @bJ @bw @bd @K ⟨?_⟩
  refine⟨uV,rfl,dq.on (c:=dM c 1 [.Z ((i+1:Nat):Int)]) ?_ (λdE st a=>by rw[bd]at a;cases a;exact rI ..) ?_, ?_⟩
  ·simp(disch:=omega) only[aJ,bz];rfl
  ·simp(disch:=omega) only[aJ]
  ·exact⟨Zo,λb ah bT=>by have:=aC b ah bT;simp only[Zr,ZL,Y0,Yx,ZI,Yj]at bT;simp(disch:=omega) only[aJ];exact this⟩
 ·have cI:decide (t.kind≠o)=true:=by simp[uV]
  refine ey b6.eq_1 @cI @K ⟨?_⟩
  refine(IE az Zo t _ ?_).mono (λ_ _ _ a=>a.elim) (λ_ _ _ a=>a)
  intro R ap cd
  have Jv:=cd.le
  refine⟨uV,rfl,Zo,λb ah bT=> ?_⟩
  have:=aC b ah bT
  simp only[Zr,ZL,Y0,Yx,ZI,Yj]at bT
  rw[cd.ad b Zo]
  simp(disch:=omega) only[aJ];exact this
end
section
variable{X:co}{h R:S ai}{j ap aH bM:Nat}{aO:List Tok}{i:Nat}
def g1:Tok:=⟨0,[],0,0,dC⟩
def rH:List aW->Tok->List Tok->ft Tok
 |[],x,k=>ok x k
 |s::nn,_,k=>andThen (dX s k) λe k=>rH nn e k
def fx{aO:List Tok}{i:Nat}{x:Tok}{k:List Tok}(a:aO.drop i=x::k):aO[i]? =some x/\aO.drop (i+1)=k:=by
 constructor
 ·have:=congrArg (λk=>k[0]?) a
  simpa using this
 ·rw[<-zv,a];rfl
def f8(nn:List aW):List (List z):=nn.map λs=>[.str s]
def ag1(az:dN X)(aM:(q X).bf<=j)(av:aT X h aH bM aO i)(hc:(q X).bf<=aH)(ki:aH<j)(jL:bM<j)(aZ:aO.length<=300000){bi:z}{cj:Nat}{nn:List aW}(ws:cj<j)(Tk:cj≠aH)(aD:dZ X h (λe=>e=cj) cj bi 1 (f8 nn))
 {r:Except Int (Tok×List Tok)}(V:rH nn g1 (aO.drop i)=some r):
 ba X 59 [.ptr aH 0,bi] h j (λac R ap=>∃x cC,r= .ok (x,aO.drop cC)/\ac= .agg (b6 x)/\aT X R aH bM aO cC/\cx X [aH] h j R ap)
  (λac R ap=>∃E,r= .error E/\ac= .iface 26 (.agg [.Z 21, .Z E])/\cx X [aH] h j R ap):=by
 refine zJ az (ajS X) ?_
 rw[ajT]
 unfold W4
 have ej:=aD.len
 have cK:=av.ne
 have uY:=aD.many
 simp only[f8,Zl]at uY
 refine s8 ?_
 refine s8 ?_
 have RO:bG X h j (bp X (bp X h j (zG (b6 g1) 7)) (j+1) (zG (b6 g1) 7)) (j+1+1):=dS
 have vo:Z X (bp X (bp X h j (zG (b6 g1) 7)) (j+1) (zG (b6 g1) 7)) j=zG (b6 g1) 7:=by simp(disch:=omega) only[aJ,bz]
 have cP:Z X (bp X (bp X h j (zG (b6 g1) 7)) (j+1) (zG (b6 g1) 7)) (j+1)=zG (b6 g1) 7:=bz Zo
 refine qW @ej ⟨?_⟩
 refine iw (λI R n=>∃x cC,r= .ok (x,aO.drop cC)/\I.g 5=some (.ptr (j+1) 0)/\I.g 4=some (.ptr j 0)/\j+1<n/\Z X R (j+1)=zG (b6 x) 7/\Z X R j=zG (b6 g1) 7/\aT X R aH bM aO cC/\cx X [aH] h j R n) (λW bx=> ?_) ?_
 ·refine fP (λm I R n=>∃o cC x,m=nn.length-o/\o<=nn.length/\I.g 0=some (.ptr aH 0)/\I.g 9=some bi/\I.g 10=some (.Z (nn.length:Int))/\I.g 11=some (.Z (o:Int))/\I.g 5=some (.ptr (j+1) 0)/\I.g 4=some (.ptr j 0)/\j+1<n
   /\Z X R (j+1)=zG (b6 x) 7/\Z X R j=zG (b6 g1) 7/\aT X R aH bM aO cC/\cx X [aH] h j R n/\rH (nn.drop o) x (aO.drop cC)=some r)
   nn.length ⟨0,i,g1,Zo,Zo, ?_, ?_, ?_, ?_, ?_, ?_,Zo,cP,vo,av.ad (RO.ad _ ki) (RO.ad _ jL),cx.of RO,V⟩ ?_
  ·exact bt
  ·exact bt
  ·refine tl ⟨?_⟩
   simp[f8]
  ·refine tl ⟨?_⟩
   rfl
  ·exact bt
  ·exact bt
  rintro m I aQ n ⟨o,cC,x,rfl,aC,t0,t9,mR,qD,t5,t4,cS,b4,jK,dq,gq,bF⟩
  refine dd @mR @qD ⟨?_⟩
  refine FE (λGn=> ?_) (λGn=> ?_)
  ·have Gn:o<nn.length:=Zo
   have kP:nn.drop o=nn[o]::nn.drop (o+1):=Zz Gn
   rw[kP]at bF
   have dV:=aD.gF o (by simp[f8];exact Gn)
   have adH:aV X aQ (.ptr cj (o*1))=some (.str nn[o]):=by
    have:=(aD.ad (R:=aQ) λe D=>by subst D;exact gq.ad _ ws (by simp;exact Tk)).cell o [.str nn[o]] 0 (.str nn[o]) (by simp[f8]) rfl
    rwa[ZR]at this
   refine ht @t9 @qD @dV @adH @t0 ⟨?_⟩
   generalize nn[o]=s at bF adH
   cases aI:aO.drop cC with
   |nil=>rw[aI]at bF;simp[rH,dX,andThen]at bF
   |cons e k=>
    obtain⟨D,aw⟩:=fx aI
    rw[aI]at bF
    simp only[rH,dX]at bF
    cases Dr:gH e s with
    |true=>
     rw[Dr]at bF
     simp only[ZC,andThen,ok]at bF
     refine(agF az (zC gq.le) dq hc Zo Zo aZ D Dr).Zm ?_
     rintro ac br bL ⟨rfl,gx,eF⟩
     have jo:=eF.le
     have Rn:Z X br (j+1)=zG (b6 x) 7:=by rw[eF.ad _ Zo (by simp;omega)];exact b4
     have aoK:Z X br j=zG (b6 g1) 7:=by rw[eF.ad _ Zo (by simp;omega)];exact jK
     refine ey @t5 @Rn @qD ⟨?_⟩
     have bw:=zH o
     refine cq @bw ⟨?_⟩
     refine⟨_, ?_,o+1,cC+1,e,rfl,Zo,a6 t0,a6 t9,a6 mR,bt,a6 t5,a6 t4,Zo,bz Zo,by simp(disch:=omega) only[aJ];exact aoK,gx.ad (zI) (zI), ?_, ?_⟩
     ·omega
     ·have k9:=(gq.trans eF).ad
      exact⟨zC gq.le,λb ah bT=>by rw[<-k9 b ah bT];exact zI⟩
     ·rw[aw];exact bF
    |false=>
     rw[Dr]at bF
     simp only[Zw,ZA,andThen,bad,Zf]at bF
     subst bF
     refine(agE az (zC gq.le) dq hc Zo Zo D Dr).Zm ?_
     rintro ac br bL ⟨rfl,gx,eF⟩
     have jo:=eF.le
     have Rn:Z X br (j+1)=zG (b6 x) 7:=by rw[eF.ad _ Zo (by simp;omega)];exact b4
     refine ey @t5 @Rn @t0 ⟨?_⟩
     refine(ru az (zC gq.le) (gx.ad (zI) (zI)) Zo Zo D).Zm ?_
     rintro ac b0 cU ⟨rfl,dz⟩
     have jy:=dz.le
     refine(IE az (zC gq.le) e _ ?_).mono (λ_ _ _ a=>a.elim) (λ_ _ _ a=>a)
     intro b5 cA d1
     have jz:=d1.le
     have k9:=(gq.trans eF).ad
     refine⟨_,rfl,rfl,zC gq.le,λb ah bT=> ?_⟩
     rw[d1.ad b Zo,dz.ad b Zo, <-k9 b ah bT]
     simp(disch:=omega) only[aJ]
  ·have uV:o=nn.length:=Zo
   subst uV
   rw[List.drop_length]at bF
   simp only[rH,ok,Zf]at bF
   subst bF
   refine cY ⟨?_⟩
   exact bx _ _ _ ⟨x,cC,rfl,a6 t5,a6 t4,cS,b4,jK,dq,gq⟩
 ·rintro I aQ n ⟨x,cC,af,t5,t4,cS,b4,jK,dq,gq⟩
  unfold b6 at b4
  unfold b6 g1 dC at jK
  refine ht @t5 @t4 @b4 @jK (bX b4) ⟨?_⟩
  refine⟨x,cC,af,rfl,dq.ad (zI) (zI), ?_⟩
  exact⟨zC gq.le,λb ah bT=>by rw[<-gq.ad b ah bT];exact zI⟩
end
end
end Go.Proofs.YtendhgofocgngaaGreatDoor

